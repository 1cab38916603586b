/- Lemmas for a law. Conditions: none. -/
import Derived.Test.YtbnobghgnbockaaGreatZg36
set_option linter.all false
set_option maxHeartbeats 32000000
set_option maxRecDepth 100000
namespace Go.Proofs.YtbnobghgnbockaaGreat
open W Go.RowKit
open Bl (Vc Bd Tc Sc)
section
variable {M α:Type}{S:Shp M α}{P:Program}{e:Env}{bx:List Ow}{F:List Fct}{ty t el:TypeId}{v:Value}{x:Operand}{n k j o:Nat}{ms:Nat->M}{xs:Nat->α}
def off1(hw:S.w=1)(k:Nat):Off S.w k k 0:=by
 have h:Off S.w (k*S.w) k 0:=Off.base
 rwa [show k*S.w=k by rw[hw,Nat.mul_one]] at h
def YO.ldL1{c:Value}(hs:Qv P t)(hx:ev e x=some (.pointer (some (eaddr v k))))(hf:W.Has F (lF S v n ms xs))(hw:S.w=1)(hk:k<n)(hc:S.cs (ms k) (xs k)=[c]):YO P (.load t x) ty e bx F c:=
 YO.ldLs hs hx hf (off1 hw k) hk (by rw[hc];exact .take .done)
def YO.ldO1{c:Value}(hs:Qv P t)(hx:ev e x=some (.pointer (some (eaddr v k))))(hb:lO S v el n ms xs∈bx)(hw:S.w=1)(hk:k<n)(hc:S.cs (ms k) (xs k)=[c]):YO P (.load t x) ty e bx F c:=by
 refine YO.ldO hs hx hb ?_;have h2:=F9 (f:=λk=>S.cs (ms k) (xs k)) (λk=>S.len (ms k) (xs k)) (k:=k) (r:=0) (by rw[hw];decide);have h3:k*S.w+0=k:=by rw[hw];omega
 rw[h3,hc] at h2;rw[QK (by rw[hw];omega)];simpa using h2.symm
def LO.appTL{K:Qf}{y:Operand}{u:Value}{L L2:List Tc}{tm tm2:Nat->ToM}{bx2:Value->List Ow}(hx:ev e x=some v)(hy:ev e y=some u)(hu:W.Has F (lF Qz u L2.length tm2 (tl L2)))
  (hs:∀v',Sel bx (lO Qz v 93 L.length tm (tl L)) (lO Qz v' 93 (L++L2).length (Ze L.length tm tm2) (tl (L++L2))) (bx2 v')) (hl:L.length+L2.length<=1000000) (h:∀v',K v' (bx2 v') F) :
  LO Tryz.prog (.call {callee:=.builtin .append,args:=#[x,y],argTypes:=#[32,32]}) ty e bx F K:=
 LO.appLF (S:=Qz) (ms:=tm) (xs:=tl L) (n:=L.length) T.e32 hx hy hu (λj hj=>Uk (hu.lk hj)) (λv'=>by rw[Hq,<-List.length_append];exact hs v') qd qd hl h
def LO.appTL0{K:Qf}{y:Operand}{u:Value}{L2:List Tc}{tm2:Nat->ToM}{bx2:Value->List Ow}(hx:ev e x=some v)(hy:ev e y=some u)(hu:W.Has F (lF Qz u L2.length tm2 (tl L2)))
  (hs:∀v',Sel bx (.slice v 93 30 []) (lO Qz v' 93 L2.length tm2 (tl L2)) (bx2 v')) (hl:L2.length<=1000000) (h:∀v',K v' (bx2 v') F) :
  LO Tryz.prog (.call {callee:=.builtin .append,args:=#[x,y],argTypes:=#[32,32]}) ty e bx F K:=by
 refine LO.byP (λfr w ho=>VX (S:=Qz) (λj hj=>Uk (hu.lk hj)) ho) λh1=>?_;exact LO.append T.e32 hx hy (cs:=[]) (news:=QX Qz L2.length tm2 (tl L2)) hs (Qp.fact hu.ls) h1 (by rw[Qu];show(0+L2.length*30)*_<=_;omega) (by rw[Qu];show 0+L2.length*30<=_;omega) h
def WC.nilLF{nn:Nat}{c:Code}{Q:Post}(hf:W.Has F (lF S v n ms xs))(hn:isNil v=true)(h:n=0->WC P nn c e bx F Q):WC P nn c e bx F Q:=
 WC.pure (λfr w ho=>by
  obtain⟨a,cap,rfl,h2,h3,h4|⟨b,off,rfl,_⟩⟩:=ho.has hf.ls
  .exact h4.2.1
  .cases hn) h
def LO.bsT0{K:Qf}(h:∀v,K v (Ow.slice v 93 30 []::bx) F):LO Tryz.prog (.buildSlice 32 0 #[]) ty e bx F K:=LO.buildSlice (parts:=[]) (us:=[]) (cs:=[]) .nil (λ_=>by kernel_rfl) rfl qd h
def KnS.out{f:Nat->Value}(h:Ow.slice v el 1 (Jh n f)∈bx):KnS bx F v n:=KnS.o h (by rw[Qu,Nat.mul_one]) qd
def YO.ldOc{P:Program}{f:Nat->Value}(hs:Qv P t)(hx:ev e x=some (.pointer (some (eaddr v k))))(hb:Ow.slice v el 1 (Jh n f)∈bx)(hk:k<n):YO P (.load t x) ty e bx F (f k):=YO.ldO hs hx hb (QK hk)
def KnS.Z8{ms:Nat->Value}{xs:Nat->List Int}(h:lO Qm v el n ms xs∈bx):KnS bx F v n:=KnS.lo h
def WX.QP{nn:Nat}{c:Code}{Q:Post}(el sz:Nat)(h:WX P nn c e (Ow.slice (.slice none 0 0) el sz []::bx) F Q):WX P nn c e bx F Q:=λfr Ds w0 a w hn hD hk hr ho=>h fr Ds w0 a w hn hD hk hr (ho.QP el sz)
def FH{M:Type}{α:Type}{S:Shp M α}{v:Value}{el:TypeId}{ms:Nat->M}{m:M}{C:List α}{s d:α}:lO S v el (C.length+1) (upd ms C.length m) (upd (λj=>C.getD j d) C.length s)=lO S v el (C++[s]).length (upd ms C.length m) (λj=>(C++[s]).getD j d):=by
 rw[Gm,List.length_append];rfl
def XR{M:Type}{α:Type}{S:Shp M α}{ms:Nat->M}{m:M}{C:List α}{s d:α}(h:W.Has F (lM S C.length ms (λj=>C.getD j d)))(hm:W.Has F (S.fc m s)):W.Has F (lM S (C++[s]).length (upd ms C.length m) (λj=>(C++[s]).getD j d)):=by
 rw[List.length_append,<-Gm];exact h.mapp hm
def LO.bsSet{K:Qf}{s:List Int}(hx:ev e x=some v)(hv:W.Has F (sI v s))(h:∀u,K u (Ow.slice u 28 1 [v]::bx) F):LO Tryz.prog (.buildSlice 25 1 #[(0,x)]) ty e bx F K:=by
 refine LO.byP (p:=∃a c,v=.slice a s.length c) (λfr w' ho=>?_) ?_
 .obtain⟨a1,c1,h1,_⟩:=(KnS.f (bx:=bx) hv fr w' ho).is;exact⟨a1,c1,h1⟩
 rintro⟨a',c,rfl⟩;exact LO.buildSlice (el:=28) (sz:=1) (parts:=[(0,x)]) (us:=[.slice a' s.length c]) (cs:=[.slice a' s.length c]) (.cons hx .nil) (λ_=>by kernel_rfl) rfl qd h
def LO.appSet{K:Qf}{el':TypeId}{y:Operand}{w u:Value}{C:List (List Int)}{s:List Int}{ms:Nat->Value}{bx2:Value->List Ow}(hx:ev e x=some v)(hy:ev e y=some u)(hu:Ow.slice u el' 1 [w]∈bx)(hw:W.Has F (sI w s))(hs:∀v',Sel bx (lO Qm v 28 C.length ms (sl C)) (lO Qm v' 28 (C++[s]).length (upd ms C.length w) (sl (C++[s]))) (bx2 v'))(hl:C.length<=1000000)(h:∀v',K v' (bx2 v') F) :
  LO Tryz.prog (.call {callee:=.builtin .append,args:=#[x,y],argTypes:=#[25,25]}) ty e bx F K:=
 LO.appL (S:=Qm) (ms:=ms) (xs:=sl C) (n:=C.length) (mm:=w) (aa:=s) T.e25 hx hy hu (.cons (One.sl (KnS.f hw)) .nil) (λv'=>by rw[FH];exact hs v') qd qd hl h
def lM_cat{M:Type}{α:Type}{S:Shp M α}{ms ms2:Nat->M}{C D:List α}{d:α}(h:W.Has F (lM S C.length ms (λj=>C.getD j d)))(h2:W.Has F (lM S D.length ms2 (λj=>D.getD j d))):W.Has F (lM S (C++D).length (Ze C.length ms ms2) (λj=>(C++D).getD j d)):=by
 rw[List.length_append,<-Hq];exact h.mcat2 h2
def VF{y:Operand}{w:Value}{m:Nat}(hx:ev e x=some v)(hy:ev e y=some w)(hv:KnS bx F v n)(hw:KnS bx F w m):YO Tryz.prog (.build 35 #[(0,x),(2,y)]) ty e bx F (.agg #[v,.slice none 0 0,w]):=λk fr a w0 o h1 h2 h3 h4=>by
 obtain⟨a',c,rfl,_⟩:=(hv fr w0 h4).is;obtain⟨a'',c',rfl,_⟩:=(hw fr w0 h4).is;exact YO.build (parts:=[(0,x),(2,y)]) (us:=[.slice a' n c,.slice a'' m c']) (.cons hx (.cons hy .nil)) (λ_=>by kernel_rfl) k fr a w0 o h1 h2 h3 h4
end
namespace K
namespace Q
namespace Y
attribute [local irreducible] WC WL WD YO LO Qq W.Fin Qv Qh Qj Row QV Qy KnS Has W.One Qp QJ
def goE{G G':Prop}(h:G')(s:Bx G'->G:=by
 intro h
 (first|(apply WL.JZ;exact wq132;exact rfl;exact rfl)|(apply WL.Y8;exact wq19;exact rfl;exact rfl)|(apply WL.Hw;exact wq137;exact rfl;exact rfl)|(apply WL.JK;exact wq126;exact rfl;exact rfl)|(apply WL.YV;exact wq128;exact rfl;exact rfl)|(apply WL.Yu;(first|(apply VF;exact rfl;exact rfl;exact knA;exact knA));exact rfl;exact rfl)|(apply WL.Hk;exact wq139;exact rfl;exact rfl)|(apply WL.Ko;(apply YO.Gf;exact T.u85;exact T.u3;exact rfl;omega;omega);exact rfl;exact rfl)|(apply WL.Hh;(apply YO.shlN;exact rfl;exact rfl;omega);exact rfl;exact rfl)|(apply WL.Jc;rotate_left;exact rfl;(first|(apply LO.XV;exact rfl;exact rfl;(first|exact T.z25);exact wq7;exact seA;exact wq12;exact wq11)|(apply LO.XL;exact rfl;exact rfl;exact wq140;exact seA;exact rfl;exact wq125)|fail))|(apply WD.JZ;exact rfl;exact wq132;exact rfl;exact rfl)|(apply WD.Y8;exact rfl;exact wq19;exact rfl;exact rfl)|(apply WD.Hw;exact rfl;exact wq137;exact rfl;exact rfl)|(apply WD.JK;exact rfl;exact wq126;exact rfl;exact rfl)|(apply WD.YV;exact rfl;exact wq128;exact rfl;exact rfl)|(apply WD.Yu;exact rfl;(first|(apply VF;exact rfl;exact rfl;exact knA;exact knA));exact rfl;exact rfl)|(apply WD.Hk;exact rfl;exact wq139;exact rfl;exact rfl)|(apply WD.Ko;exact rfl;(apply YO.Gf;exact T.u85;exact T.u3;exact rfl;omega;omega);exact rfl;exact rfl)|(apply WD.Hh;exact rfl;(apply YO.shlN;exact rfl;exact rfl;omega);exact rfl;exact rfl)|(apply WD.Jc;exact rfl;rotate_left;exact rfl;(first|(apply LO.XV;exact rfl;exact rfl;(first|exact T.z25);exact wq7;exact seA;exact wq12;exact wq11)|(apply LO.XL;exact rfl;exact rfl;exact wq140;exact seA;exact rfl;exact wq125)|fail);constructor;(first|exact wq1|(apply Or.inl;kernel_rfl)))|((first|(apply LO.XV;exact rfl;exact rfl;(first|exact T.z25);exact wq7;exact seA;exact wq12;exact wq11)|(apply LO.XL;exact rfl;exact rfl;exact wq140;exact seA;exact rfl;exact wq125)|fail);constructor;(first|exact wq1|(apply Or.inl;kernel_rfl)))|refine Go.Proofs.YtbnobghgnbockaaGreat.K.Q.goE ?_|fail)
 exact Bx.h h):G:=s ⟨h⟩
def goEG{G G':Prop}(h:G')(s:Bx G'->G:=by
 intro h
 (first|(apply WL.XX;rotate_left;exact rfl;exact rfl;apply LO.X8;(first|exact T.al25|exact T.al42|exact T.al35|fail))|(apply WD.XX;exact rfl;rotate_left;exact rfl;exact rfl;apply LO.X8;(first|exact T.al25|exact T.al42|exact T.al35|fail);apply Qn;(intro _;(first|exact wq1|(apply Or.inl;kernel_rfl))))|(apply LO.X8;(first|exact T.al25|exact T.al42|exact T.al35|fail);apply Qn;(intro _;(first|exact wq1|(apply Or.inl;kernel_rfl))))|refine Go.Proofs.YtbnobghgnbockaaGreat.K.Q.goEG ?_|fail)
 exact Bx.h h):G:=s ⟨h⟩
def goEV{G G':Prop}(h:G')(s:Bx G'->G:=by
 intro h
 (first|(apply WL.Jy;rotate_left;exact rfl;exact rfl;(first|(apply LO.appSet;exact rfl;exact rfl;exact meA;exact hmA;(intro _;exact seA);omega)|(apply LO.appTL;exact rfl;exact rfl;exact hmA;(intro _;exact seA);omega)|(apply LO.appTL0;exact rfl;exact rfl;exact hmA;(intro _;exact seA);omega)|(apply LO.appSF;exact rfl;exact rfl;exact hmA;(intro _;exact seA);omega)|(apply LO.appSF0;exact rfl;exact rfl;exact hmA;(intro _;exact seA);omega)|fail))|(apply WD.Jy;exact rfl;rotate_left;exact rfl;exact rfl;(first|(apply LO.appSet;exact rfl;exact rfl;exact meA;exact hmA;(intro _;exact seA);omega)|(apply LO.appTL;exact rfl;exact rfl;exact hmA;(intro _;exact seA);omega)|(apply LO.appTL0;exact rfl;exact rfl;exact hmA;(intro _;exact seA);omega)|(apply LO.appSF;exact rfl;exact rfl;exact hmA;(intro _;exact seA);omega)|(apply LO.appSF0;exact rfl;exact rfl;exact hmA;(intro _;exact seA);omega)|fail);apply Qn;(intro _;(first|exact wq1|(apply Or.inl;kernel_rfl))))|((first|(apply LO.appSet;exact rfl;exact rfl;exact meA;exact hmA;(intro _;exact seA);omega)|(apply LO.appTL;exact rfl;exact rfl;exact hmA;(intro _;exact seA);omega)|(apply LO.appTL0;exact rfl;exact rfl;exact hmA;(intro _;exact seA);omega)|(apply LO.appSF;exact rfl;exact rfl;exact hmA;(intro _;exact seA);omega)|(apply LO.appSF0;exact rfl;exact rfl;exact hmA;(intro _;exact seA);omega)|fail);apply Qn;(intro _;(first|exact wq1|(apply Or.inl;kernel_rfl))))|(apply WL.JW;rotate_left;exact rfl;exact rfl;(apply LO.bsSet;exact rfl;exact hmA))|(apply WD.JW;exact rfl;rotate_left;exact rfl;exact rfl;(apply LO.bsSet;exact rfl;exact hmA);apply Qn;(intro _;(first|exact wq1|(apply Or.inl;kernel_rfl))))|((apply LO.bsSet;exact rfl;exact hmA);apply Qn;(intro _;(first|exact wq1|(apply Or.inl;kernel_rfl))))|(apply WL.JW;rotate_left;exact rfl;exact rfl;apply LO.bsT0)|(apply WD.JW;exact rfl;rotate_left;exact rfl;exact rfl;apply LO.bsT0;apply Qn;(intro _;(first|exact wq1|(apply Or.inl;kernel_rfl))))|(apply LO.bsT0;apply Qn;(intro _;(first|exact wq1|(apply Or.inl;kernel_rfl))))|(apply WL.JW;rotate_left;exact rfl;exact rfl;apply LO.bsS0)|(apply WD.JW;exact rfl;rotate_left;exact rfl;exact rfl;apply LO.bsS0;apply Qn;(intro _;(first|exact wq1|(apply Or.inl;kernel_rfl))))|(apply LO.bsS0;apply Qn;(intro _;(first|exact wq1|(apply Or.inl;kernel_rfl))))|refine Go.Proofs.YtbnobghgnbockaaGreat.K.Q.goEV ?_|fail)
 exact Bx.h h):G:=s ⟨h⟩
end Y
end Q
end K
namespace K
namespace Q
namespace Y
attribute [local irreducible] WC WL WD YO LO Qq W.Fin Qv Qh Qj Row QV Qy KnS Has W.One Qp QJ
attribute [local irreducible] WX VN
def sets_c(n most:Int)(hn:I64 n)(hm:I64 most):FnB Tryz.prog 11 [.int .i64 n,.int .i64 most] [] [] (IsSets (Fx.QO n most)):=by
 obtain⟨hn1,hn2⟩:=hn;obtain⟨hm1,hm2⟩:=hm;refine Ft [(0,(.int .i64 n)),(1,(.int .i64 most))] 30 Tryz.func11 rfl Tryz.ntmps11 kr rfl suA λh0=>?_;by_cases h:n<0\/8<n
 .have hz:Fx.QO n most=[]:=if_pos qo;rw[hz];refine WX.of ?_;refine WC.QP 28 1 ?_;rcases h with h|h
  .repeat'(first|intro(g:Nat)|refine gP ?_|intro v)
   exact wq69
  .repeat'(first|intro(g:Nat)|refine gP ?_|intro v)
   exact wq69
 obtain⟨N,rfl⟩:∃N:Nat,n=(N:Int):=⟨n.toNat,by omega⟩
 have hN:N<=8:=qo;obtain⟨M,hM⟩:∃M:Nat,(M:Int)=max 0 (min (N:Int) most+1):=⟨(max 0 (min (N:Int) most+1)).toNat,by omega⟩
 rw[Fx.sets_K hN hM];repeat refine WX.seq ?_
 refine WX.region ?_;repeat'(first|intro(g:Nat)|refine gP ?_|intro v)
 repeat refine WX.seq ?_
 refine WX.region ?_;repeat'(first|intro(g:Nat)|refine gP ?_|intro v)
 repeat refine WX.seq ?_
 refine WX.cond (b:=false) rfl ?_;rw[if_neg qd];refine WX.skip ?_;repeat refine WX.seq ?_
 refine WX.region ?_;repeat'(first|intro(g:Nat)|refine gP ?_|intro v)
 revert g;intro g5;repeat refine WX.seq ?_
 refine WX.region ?_;repeat'(first|intro(g:Nat)|refine gP ?_|intro v)
 refine WX.QP 28 1 ?_;repeat refine WX.seq ?_
 refine WX.block ?_;refine WX.loop (σ:=Nat×Value×(Nat->Value)) (λst=>[(6,.int .i64 (st.1:Int)),(5,ptr g5),(0,.int .i64 (N:Int)),(1,.int .i64 most)]) (λst=>[lO Qm st.2.1 28 (Fx.Xw N st.1).length st.2.2 (sl (Fx.Xw N st.1)),Ow.cells g5 25 [st.2.1]]) (λst=>[lM Qm (Fx.Xw N st.1).length st.2.2 (sl (Fx.Xw N st.1)),ge h0]) (λst=>st.1<=M) (λst=>M-st.1) ?_ (0,.slice none 0 0,λ_=>.slice none 0 0) (Nat.zero_le _) suA slA (.cons W.Has.Z3 (.cons hmA .nil));rintro⟨k,v,ms⟩ hk;simp only at hk ⊢;have hsl:=Fx.HU N k;repeat refine WX.seq ?_
 refine WX.region ?_;by_cases d:k<M
 .repeat'(first|intro(g:Nat)|refine gP ?_|intro v)
  repeat refine WX.seq ?_
  refine WX.cond (b:=true) rfl ?_;rw[if_pos rfl];refine WX.skip ?_;repeat refine WX.seq ?_
  refine WX.block ?_;repeat refine WX.seq ?_
  refine WX.region ?_;repeat'(first|intro(g:Nat)|refine gP ?_|intro v)
  refine WL.Q3 (Z.chosen_c N k) ?_;rintro _ _ _ ⟨gm,gn,rfl,rfl,rfl⟩;refine sNn ?_;repeat'(first|intro(g:Nat)|refine gP ?_|intro v)
  repeat refine WX.block ?_
  refine WX.range (λbx' G=>∃v' ms',bx'=[Ow.cells gm 3 [.int .i64 (k:Int)],Ow.cells gn 3 [.int .i64 (N:Int)],lO Qm v' 28 (Fx.Xw N k++Fx.chs N k).length ms' (sl (Fx.Xw N k++Fx.chs N k)),Ow.cells g5 25 [v']]/\G=[lM Qm (Fx.Xw N k++Fx.chs N k).length ms' (sl (Fx.Xw N k++Fx.chs N k))]) (λ_ _ _=>False) rfl ?seq ?done ?stop
  case seq=>
   intro l rec hkn hrs1 hrs2 hrs3 hrs4 hrs5;refine Z.chosen1_c l rec g5 gn gm N k hN qo h0 v ms (Fx.Xw N k) qo λv ms C u s hC=>?_;refine yieldC_of hkn hrs1 hrs2 hrs3 hrs4 rfl rfl λh1=>?_;rw[hrs5];repeat'(first|intro(g:Nat)|refine gP ?_|intro v)
   exact⟨_,[_],slA,hmA,W.Qw.all (.cons (XR (S:=Qm) (m:=u) (s:=s) (ms:=ms) hmA hmA) .nil),_,_,rfl,rfl⟩
  case done=>
   rintro _ _ ⟨v',ms',rfl,rfl⟩;repeat refine WX.seq ?_
   refine WX.region ?_;repeat'(first|intro(g:Nat)|refine gP ?_|intro v)
   exact⟨(k+1,v',ms'),⟨by simp only;omega,by simp only;omega⟩,suA,slA,sfA⟩
  case stop=>
   rintro _ _ _ h;exact h.elim
 .obtain rfl:k=M:=qo;repeat'(first|intro(g:Nat)|refine gP ?_|intro v)
  repeat refine WX.seq ?_
  refine WX.cond (b:=false) rfl ?_;rw[if_neg qd];refine WX.exit ?_;repeat refine WX.seq ?_
  refine WX.region ?_;repeat'(first|intro(g:Nat)|refine gP ?_|intro v)
  refine WX.ret ?_;exact Fin.p [_] [_] (Qg.t1 rfl rfl) meA slA sfA ⟨ms,rfl,rfl⟩
end Y
end Q
end K
def IsTo(L:List Tc)(ms:Nat->ToM):Qf:=λv B G=>B=[lO Qz v 93 L.length ms (tl L)]/\G=[]
def IsTl(L:List Tc):Qf:=λv B G=>∃ms,B=[]/\G=[lF Qz v L.length ms (tl L)]
def UT{s:List Int}{i:Nat}(h:i<s.length):s.take (i+1)=s.take i++[s.getD i 0]:=by
 rw[List.take_add_one,List.getElem?_eq_getElem h,List.getD_eq_getElem?_getD,List.getElem?_eq_getElem h];rfl
def Yg{t:List Tc}{P:List (List Tc)}{s:List Int}{i:Nat}(h:i<s.length):Fx.Qe t P (s.take i)++pl P (s.getD i 0).toNat=Fx.Qe t P (s.take (i+1)):=by
 rw[UT h];unfold Fx.Qe;rw[List.flatMap_append,List.append_assoc];simp
def flat_le{P:List (List Tc)}(hP:∀p∈P,p.length<=100):∀s:List Int,(s.flatMap λk=>P.getD k.toNat []).length<=100*s.length
 |[]=>by simp
 |k::s=>by
  have h1:=flat_le hP s
  have h2:(P.getD k.toNat []).length<=100:=by
   rw[List.getD_eq_getElem?_getD];cases e:P[k.toNat]? with
   |none=>simp
   |some p=>exact hP p (List.mem_of_getElem? e)
  rw[List.flatMap_cons,List.length_append,List.length_cons];omega
def Zw{t:List Tc}{P:List (List Tc)}(ht:t.length<=100)(hP:∀p∈P,p.length<=100)(s:List Int):(Fx.Qe t P s).length<=100+100*s.length:=by
 have:=flat_le hP s;unfold Fx.Qe;rw[List.length_append];omega
namespace K
namespace Q
namespace Y
attribute [local irreducible] WC WL WD YO LO Qq W.Fin Qv Qh Qj Row QV Qy KnS Has W.One Qp QJ
def cloneT_c(u:Value)(L:List Tc)(ms:Nat->ToM)(hn:L.length<=1000):FnB Tryz.prog 69 [u] [] [lF Qz u L.length ms (tl L)] (IsTo L ms):=by
 refine fO [(0,u)] 8 Tryz.func69 Tryz.ntmps69 λh0=>?_;cases hnl:isNil u with
 |true=>
  refine WC.nilLF (S:=Qz) (v:=u) (n:=L.length) (ms:=ms) (xs:=tl L) hmA hnl λh=>?_;obtain rfl:=List.eq_nil_of_length_eq_zero h;repeat'(first|intro(g:Nat)|refine gP ?_|intro v)
  refine WC.QP 93 30 ?_;exact wq93
 |false=>
  repeat'(first|intro(g:Nat)|refine gP ?_|intro v)
  exact wq93
def VZ(tv pv sv:Value)(t:List Tc)(P:List (List Tc))(s:List Int)(tm:Nat->ToM)(pm:Nat->Value×(Nat->ToM))(ht:t.length<=100)(hP:∀p∈P,p.length<=100)(hs:s.length<=10)(hr:∀x∈s,0<=x/\x<(P.length:Int))(hPl:P.length<=1000) :
  FnB Tryz.prog 41 [tv,pv,sv] [] [lF Qz tv t.length tm (tl t),lF tlS pv P.length pm (pl P),sI sv s] (IsTl (Fx.Qe t P s)):=by
 refine fO [(0,tv),(1,pv),(2,sv)] 26 Tryz.func41 Tryz.ntmps41 λh0=>?_;refine WC.Kt sv s hmA λhlen=>?_;repeat'(first|intro(g:Nat)|refine gP ?_|intro v)
 refine cK (cloneT_c tv t tm qo) ?_;rintro v11 _ _ ⟨rfl,rfl⟩;refine sNn ?_;repeat'(first|intro(g:Nat)|refine gP ?_|intro v)
 have e0:Fx.Qe t P (s.take 0)=t:=by simp[Fx.Qe]
 refine WC.JS (σ:=Value×(Nat->ToM)) (λst=>[(7,st.1)]) (λst=>[lO Qz st.1 93 (Fx.Qe t P s).length st.2 (tl (Fx.Qe t P s))]) (λst=>[lM Qz (Fx.Qe t P s).length st.2 (tl (Fx.Qe t P s)),ge h0]) (λ_=>True) ?_ ?_
 .refine WC.lp (σ:=Nat×Value×(Nat->ToM)) (λst=>[(14,.int .i64 (st.1:Int)),(13,.int .i64 (s.length:Int)),(12,sv),(7,st.2.1),(0,tv),(1,pv),(2,sv)]) (λst=>[lO Qz st.2.1 93 (Fx.Qe t P (s.take st.1)).length st.2.2 (tl (Fx.Qe t P (s.take st.1)))]) (λst=>[lM Qz (Fx.Qe t P (s.take st.1)).length st.2.2 (tl (Fx.Qe t P (s.take st.1))),ge h0,lF tlS pv P.length pm (pl P),sI sv s]) (λst=>st.1<=s.length) (λst=>s.length-st.1) (0,v11,tm) (Nat.zero_le _) ?_ (hB:=by simp only[e0];exact slA) (hG:=by simp only[e0];exact .cons (W.Has.lm (v:=tv) hmA) haA);rintro⟨i,v,ms⟩ hi;simp only at hi ⊢;by_cases d:i<s.length
  .have hk:=hr _ (Fx.Uq d);have hkn:(s.getD i 0).toNat<P.length:=qo;have htk:(s.take i).length<=10:=by rw[List.length_take];omega
   have hl:=Zw ht hP (s.take i)
   have hp:(pl P (s.getD i 0).toNat).length<=100:=hP _ (by
    show P.getD _ []∈P;rw[List.getD_eq_getElem?_getD,List.getElem?_eq_getElem hkn];exact List.getElem_mem hkn)
   refine WC.fact (lF Qz (pm (s.getD i 0).toNat).1 (pl P (s.getD i 0).toNat).length (pm (s.getD i 0).toNat).2 (tl (pl P (s.getD i 0).toNat))) (W.Has.lk (S:=tlS) (v:=pv) (ms:=pm) (xs:=pl P) hmA hkn) ?_;repeat'(first|intro(g:Nat)|refine gP ?_|intro v)
   rw[Yg d];refine Qq.mk (i+1,_,Ze (Fx.Qe t P (s.take i)).length ms (pm (s.getD i 0).toNat).2) wq18 wq18 (hG:=.cons ?_ haA);simp only;rw[<-Yg d];exact lM_cat (S:=Qz) hmA (W.Has.lm (v:=(pm (s.getD i 0).toNat).1) hmA)
  .obtain rfl:i=s.length:=qo;repeat'(first|intro(g:Nat)|refine gP ?_|intro v)
   rw[List.take_length];exact Qs (v,ms) trivial
 rintro⟨v,ms⟩ _;simp only;refine WC.QY (S:=Qz) (v:=v) (n:=(Fx.Qe t P s).length) (ms:=ms) (xs:=tl (Fx.Qe t P s)) wq3 hmA ?_;repeat'(first|intro(g:Nat)|refine gP ?_|intro v)
 exact wq112
end Y
end Q
end K
def PO(K:Nat)(w:Nat->Value)(m:Nat->Nat->ToM)(L:Nat->List Tc):List Ow:=(List.range K).map λq=>lO Qz (w q) 93 (L q).length (m q) (tl (L q))
def PM(K:Nat)(m:Nat->Nat->ToM)(L:Nat->List Tc):Fct:=H3 K λq=>lM Qz (L q).length (m q) (tl (L q))
def Sel.appR{l l' r:List Ow}{b b':Ow}(h:Sel l b b' l'):Sel (l++r) b b' (l'++r):=by
 induction h with
 |head=>exact .head
 |tail _ ih=>exact .tail ih
def Sel.last{b b':Ow}:∀l:List Ow,Sel (l++[b]) b b' (l++[b'])
 |[]=>.head
 |_::l=>.tail (Sel.last l)
section
variable {K q:Nat}{w:Nat->Value}{m:Nat->Nat->ToM}{L:Nat->List Tc}{v':Value}{m':Nat->ToM}{L':List Tc}{F:List Fct}
def Vf:PO (K+1) w m L=PO K w m L++[lO Qz (w K) 93 (L K).length (m K) (tl (L K))]:=by
 unfold PO;rw[List.range_succ,List.map_append];rfl
def PO_out(h:K<=q):PO K (upd w q v') (upd m q m') (upd L q L')=PO K w m L:=by
 unfold PO;refine List.map_congr_left λi hi=>?_;have hi:=List.mem_range.1 hi;rw[upd_ne qo,upd_ne qo,upd_ne qo]
def PO_sel:∀K,q<K->Sel (PO K w m L) (lO Qz (w q) 93 (L q).length (m q) (tl (L q))) (lO Qz v' 93 L'.length m' (tl L')) (PO K (upd w q v') (upd m q m') (upd L q L'))
 |0,h=>absurd h (Nat.not_lt_zero _)
 |K+1,h=>by
  rw[Vf,Vf];by_cases e:q=K
  .subst e;rw[PO_out (Nat.le_refl _),QU,QU,QU];exact Sel.last _
  .rw[upd_ne (show K≠q by omega),upd_ne (show K≠q by omega),upd_ne (show K≠q by omega)];exact Sel.appR (PO_sel K qo)
def PO_mem(hq:q<K):lO Qz v' 93 L'.length m' (tl L')∈PO K (upd w q v') (upd m q m') (upd L q L'):=by
 unfold PO;refine List.mem_map.2 ⟨q,List.mem_range.2 hq,?_⟩;rw[QU,QU,QU]
def PM_at(h:W.Has F (PM K m L))(hq:q<K):W.Has F (lM Qz (L q).length (m q) (tl (L q))):=λp hf=>h p hf q hq
def PM_upd(h:W.Has F (PM K m L))(h2:W.Has F (lM Qz L'.length m' (tl L'))):W.Has F (PM K (upd m q m') (upd L q L')):=λp hf i hi=>by
 show(lM Qz (upd L q L' i).length (upd m q m' i) (tl (upd L q L' i))).p p;by_cases e:i=q
 .subst e;rw[QU,QU];exact h2 p hf
 .rw[upd_ne e,upd_ne e];exact h p hf i hi
def PO_ok{fr:CF}{H:World}{pre:List Ow}:∀(K:Nat) (F:List Fct),OK fr (pre++PO K w m L) F H->W.Has F (PM K m L)->OK fr pre (H3 K (λq=>lF Qz (w q) (L q).length (m q) (tl (L q)))::F) H
 |0,F,ho,_=>by
  rw[show PO 0 w m L=[] from rfl,List.append_nil] at ho;exact ho.add λi hi=>absurd hi (Nat.not_lt_zero _)
 |K+1,F,ho,hm=>by
  rw[Vf,<-List.append_assoc] at ho;have h1:=ho.QY (S:=Qz) (Sel.last _) (PM_at hm (Nat.lt_succ_self K));have h2:=h1.drop (List.sublist_append_left _ _);have h3:=PO_ok K _ h2 λp hf i hi=>hm p (λg hg=>hf g (List.mem_cons_of_mem _ hg)) i qo;refine⟨h3.frame,h3.apart,h3.nodup,h3.owns,λf hf=>?_⟩;rcases List.mem_cons.1 hf with rfl|hf
  .intro i hi;by_cases e:i=K
   .subst e;exact h3.facts _ (List.mem_cons_of_mem _ (List.mem_cons_self ..))
   .exact h3.facts _ (List.mem_cons_self ..) i qo
  .exact h3.facts f (List.mem_cons_of_mem _ (List.mem_cons_of_mem _ hf))
def WC.freezeP{P:Program}{n:Nat}{c:Code}{e:Env}{pre:List Ow}{Q:Post}(hm:W.Has F (PM K m L))(h:WC P n c e pre (H3 K (λq=>lF Qz (w q) (L q).length (m q) (tl (L q)))::F) Q):WC P n c e (pre++PO K w m L) F Q:=λfr w0 a H hk hr ho=>h fr w0 a H hk hr (PO_ok K F ho hm)
def OK.addPO{fr:CF}{H:World}{bx:List Ow}(m:Nat->Nat->ToM):∀K,OK fr bx F H->OK fr (bx++PO K (λ_=>.slice none 0 0) m λ_=>[]) F H
 |0,ho=>by rw[show PO 0 (λ_=>.slice none 0 0) m (λ_=>[])=[] from rfl,List.append_nil];exact ho
 |K+1,ho=>by
  have h:=(OK.addPO m K ho).QP 93 30;rw[Vf,<-List.append_assoc];exact h.perm (List.perm_append_comm (l₁:=[_]))
def WC.addPO{P:Program}{n:Nat}{c:Code}{e:Env}{bx:List Ow}{Q:Post}(K:Nat)(m:Nat->Nat->ToM)(h:WC P n c e (bx++PO K (λ_=>.slice none 0 0) m λ_=>[]) F Q):WC P n c e bx F Q:=λfr w0 a H hk hr ho=>h fr w0 a H hk hr (OK.addPO m K ho)
def PM_nil{m:Nat->Nat->ToM}:W.Has F (PM K m λ_=>[]):=λp _ i _ j hj=>absurd hj (Nat.not_lt_zero _)
def outer_cells:Jh K w=QX tlS K (λq=>(w q,m q)) L:=by
 refine Jv (by rw[Qu];exact(Nat.mul_one K).symm) λj hj=>?_;have hj:j<K:=by have:j<K*1:=hj;omega
 rw[QK hj];show some (w j)=some (Je 1 (λk=>[w k]) j);unfold Je;rw[Nat.div_one,Nat.mod_one];rfl
def GD{u:Value}(h:q<K):(Jh K w).set q u=Jh K (upd w q u):=by
 refine Jv (by rw[List.length_set,Qu]) λj hj=>?_;rw[List.getElem?_set];by_cases e:q=j
 .subst e;rw[if_pos rfl,Qu,if_pos h,QU]
 .rw[if_neg e,QK hj,upd_ne (λh=>e h.symm)]
def pl_set{P:List (List Tc)}{x:List Tc}(h:q<P.length):upd (pl P) q x=pl (P.set q x):=funext λj=>by
 unfold upd;simp only[pl,List.getD_eq_getElem?_getD,List.getElem?_set];by_cases e:j=q
 .subst e;rw[if_pos rfl,if_pos rfl,if_pos h];rfl
 .rw[if_neg e,if_neg (λh=>e h.symm)]
end
section
variable {e:Env}{bx:List Ow}{F:List Fct}{ty:TypeId}{v w:Value}{x y:Operand}{K:Qf}
def LO.appT1{el':TypeId}{L:List Tc}{tm:Nat->ToM}{t1:ToM}{tc:Tc}{bx2:Value->List Ow}(hx:ev e x=some v)(hy:ev e y=some w)(hu:Ow.slice w el' 30 (tcs t1 tc)∈bx)(hm:W.Has F (fT t1 tc))(hs:∀v',Sel bx (lO Qz v 93 L.length tm (tl L)) (lO Qz v' 93 (L++[tc]).length (upd tm L.length t1) (tl (L++[tc]))) (bx2 v'))(hl:L.length<=1000000)(h:∀v',K v' (bx2 v') F) :
  LO Tryz.prog (.call {callee:=.builtin .append,args:=#[x,y],argTypes:=#[32,32]}) ty e bx F K:=
 LO.appL (S:=Qz) (ms:=tm) (xs:=tl L) (n:=L.length) (mm:=t1) (aa:=tc) T.e32 hx hy hu (Uk hm) (λv'=>by rw[FH];exact hs v') qd qd hl h
end
end Go.Proofs.YtbnobghgnbockaaGreat
