/- Lemmas for a law. Conditions: none. -/
import Derived.Test.YtbnobghgnbockaaGreatZg35
import Derived.Test.YtbnobghgnbockaaGreatProg
set_option linter.all false
set_option maxHeartbeats 32000000
set_option maxRecDepth 100000
namespace Go.Proofs.YtbnobghgnbockaaGreat
open W Go.RowKit
open Bl (Vc Bd Tc Sc)
def AddB(P:Program)(g5 gn gm n many:Nat)(hx:PH)(l:Nat)(r:Loop):Prop:=∀(v:Value) (ms:Nat->Value) (C:List (List Int)) (u:Value) (s:List Int),C.length<=3000->
 VN P l r u [Ow.cells gm 3 [.int .i64 (many:Int)],Ow.cells gn 3 [.int .i64 (n:Int)],lO Qm v 28 C.length ms (sl C),Ow.cells g5 25 [v]] [lM Qm C.length ms (sl C),sI u s,ge hx]
  (λbx' G=>∃v' ms',bx'=[Ow.cells gm 3 [.int .i64 (many:Int)],Ow.cells gn 3 [.int .i64 (n:Int)],lO Qm v' 28 (C++[s]).length ms' (sl (C++[s])),Ow.cells g5 25 [v']]/\G=[lM Qm (C++[s]).length ms' (sl (C++[s]))])
def jm:Nat->Int
 |0=>-1
 |k+1=>(k:Int)
def jm_eq(k:Nat):(k:Int)-1=jm k:=by cases k<;>simp[jm]<;>omega
namespace Z
attribute [local irreducible] WC WL WD YO LO Qq W.Fin Qv Qh Qj Row QV Qy KnS Has W.One Qp QJ
def d60{G G':Prop}(h:G')(s:Bx G'->G:=by
 intro h;first|refine gF ?_|(apply WC.draw (id:=8) [0,1,2,3,4,5,6,7,8,9,10,11,12,13] (.h 0<|.h 1<|.h 2<|.h 3<|.h 4<|.h 5<|.h 6<|.h 7<|.h 8<|.h 9<|.h 10<|.h 11<|.h 12<|.h 13 .done) mixed kr)|fail
 exact Bx.h h):G:=s ⟨h⟩
attribute [local irreducible] VN
def chosen1_c(l:Nat)(r:Loop)(g5 gn gm n many:Nat)(hn:n<=8)(hmn:many<=n)(hx:PH)(v0:Value)(ms0:Nat->Value)(C0:List (List Int))(hC:C0.length<=2000)(hY:AddB Tryz.prog g5 gn gm n many hx l r) :
  FnB Tryz.prog 60 [.func (.yield l) #[] #[],ptr gm,ptr gn] [Ow.obj l (.loop r),Ow.cells gm 3 [.int .i64 (many:Int)],Ow.cells gn 3 [.int .i64 (n:Int)],lO Qm v0 28 C0.length ms0 (sl C0),Ow.cells g5 25 [v0]] [lM Qm C0.length ms0 (sl C0),ge hx]
   (RgP l r (λbx' G=>∃v' ms',bx'=[Ow.cells gm 3 [.int .i64 (many:Int)],Ow.cells gn 3 [.int .i64 (n:Int)],lO Qm v' 28 (C0++Fx.chs n many).length ms' (sl (C0++Fx.chs n many)),Ow.cells g5 25 [v']]/\G=[lM Qm (C0++Fx.chs n many).length ms' (sl (C0++Fx.chs n many))]) (λ_ _ _=>False)):=by
 refine fO [(0,(.func (.yield l) #[] #[])),(1,(ptr gm)),(2,(ptr gn))] 66 Tryz.func60 Tryz.ntmps60 λh0=>?_;repeat'(first|intro(g:Nat)|refine d60 ?_|intro v)
 revert v;intro v4;simp only[List.length_replicate];rw[<-Fx.fill_0];refine WC.JS (σ:=Unit) (λ_=>[(4,v4),(0,.func (.yield l) #[] #[]),(1,ptr gm),(2,ptr gn)]) (λ_=>Ow.slice v4 3 1 (ints (Fx.start many))::[Ow.obj l (.loop r),Ow.cells gm 3 [.int .i64 (many:Int)],Ow.cells gn 3 [.int .i64 (n:Int)],lO Qm v0 28 C0.length ms0 (sl C0),Ow.cells g5 25 [v0]]) (λ_=>[lM Qm (C0).length ms0 (sl (C0)),ge h0,ge hx]) (λ_=>True) ?_ ?_
 .refine WC.lp (σ:=Nat) (λi=>[(12,.int .i64 (i:Int)),(11,.int .i64 (many:Int)),(4,v4),(0,.func (.yield l) #[] #[]),(1,ptr gm),(2,ptr gn)]) (λi=>Ow.slice v4 3 1 (ints (Fx.Z7 many i))::[Ow.obj l (.loop r),Ow.cells gm 3 [.int .i64 (many:Int)],Ow.cells gn 3 [.int .i64 (n:Int)],lO Qm v0 28 C0.length ms0 (sl C0),Ow.cells g5 25 [v0]]) (λ_=>[lM Qm (C0).length ms0 (sl (C0)),ge h0,ge hx]) (λi=>i<=many) (λi=>many-i) 0 (Nat.zero_le _) ?_;rintro i hi;have hl:=Fx.fill_len hi;by_cases d:i<many
  .repeat'(first|intro(g:Nat)|refine d60 ?_|intro v)
   simp only[Int.toNat_natCast,Fx.fill_set d];exact Qq.mk (i+1) qo qo
  .obtain rfl:i=many:=qo;repeat'(first|intro(g:Nat)|refine d60 ?_|intro v)
   rw[Fx.fill_all];exact Qs () trivial
 rintro⟨⟩ _;refine WC.perm [Ow.obj l (.loop r),Ow.cells gm 3 [.int .i64 (many:Int)],Ow.cells gn 3 [.int .i64 (n:Int)],lO Qm v0 28 (C0).length ms0 (sl (C0)),Ow.cells g5 25 [v0],Ow.slice v4 3 1 (ints (Fx.start many))] (List.perm_append_comm (l₁:=[_])) ?_;repeat'(first|intro(g:Nat)|refine d60 ?_|intro v)
 refine WC.lp (σ:=List Int×Nat×List (List Int)×Value×(Nat->Value)) (λ_=>[(4,v4),(0,.func (.yield l) #[] #[]),(1,ptr gm),(2,ptr gn)]) (λst=>[Ow.obj l (.loop r),Ow.cells gm 3 [.int .i64 (many:Int)],Ow.cells gn 3 [.int .i64 (n:Int)],lO Qm st.2.2.2.1 28 (st.2.2.1).length st.2.2.2.2 (sl (st.2.2.1)),Ow.cells g5 25 [st.2.2.2.1],Ow.slice v4 3 1 (ints st.1)]) (λst=>[lM Qm (st.2.2.1).length st.2.2.2.2 (sl (st.2.2.1)),ge h0,ge hx])
  (λst=>st.1.length=many/\Fx.goodB n many st.2.1 st.1=true/\st.2.2.1++Fx.chsF n many st.2.1 st.1=C0++Fx.chs n many/\st.2.2.1.length+st.2.1<=C0.length+100) (λst=>st.2.1) (Fx.start many,100,C0,v0,ms0) ⟨Fx.start_len many,Fx.good_all n hn many hmn,rfl,Nat.le_refl _⟩ ?_
 rintro⟨L,f,C,v,ms⟩ ⟨hL,hg,hc,hl⟩;simp only at hL hg hc hl ⊢;cases f with
 |zero=>cases hg
 |succ f=>
 obtain⟨hb,hg2⟩:=Fx.good_bd hg;repeat'(first|intro(g:Nat)|refine d60 ?_|intro v)
 first|refine WL.callO (cloneI_c v4 L qo) (λrv=>?_)|refine WD.callO (cloneI_c v4 L qo) (λrv=>?_)
 refine WL.Q0 (v:=rv) (l:=L) wq3 ?_;refine WL.l rfl rfl (LO.yieldC (hY v ms C rv L qo) rfl rfl [Ow.slice v4 3 1 (ints L),Ow.slice (.slice none 0 0) 3 1 []] (List.perm_append_comm (l₁:=[_])) (F0:=_) (λf hf=>?_) λbx' G hX=>?_)
 .simp only[List.mem_cons,List.not_mem_nil,or_false] at hf;rcases hf with rfl|rfl|rfl
  .exact hmA
  .exact hmA
  .exact hmA
 obtain⟨v',ms',rfl,rfl⟩:=hX;refine sNn ?_;repeat'(first|intro(g:Nat)|refine d60 ?_|intro v)
 rw[jm_eq];refine WC.JS (σ:=Nat) (λj=>[(6,.int .i64 (jm j)),(4,v4),(0,.func (.yield l) #[] #[]),(1,ptr gm),(2,ptr gn)]) (λ_=>[Ow.obj l (.loop r),Ow.cells gm 3 [.int .i64 (many:Int)],Ow.cells gn 3 [.int .i64 (n:Int)],lO Qm v' 28 (C++[L]).length ms' (sl (C++[L])),Ow.cells g5 25 [v'],Ow.slice v4 3 1 (ints L)]) (λ_=>[lM Qm (C++[L]).length ms' (sl (C++[L])),ge h0,ge hx]) (λj=>(j=0/\Fx.kmax n many L L.length=none)\/∃k,j=k+1/\Fx.kmax n many L L.length=some k) ?_ ?_
 .refine WC.lp (σ:=Nat) (λj=>[(6,.int .i64 (jm j)),(4,v4),(0,.func (.yield l) #[] #[]),(1,ptr gm),(2,ptr gn)]) (λ_=>[Ow.obj l (.loop r),Ow.cells gm 3 [.int .i64 (many:Int)],Ow.cells gn 3 [.int .i64 (n:Int)],lO Qm v' 28 (C++[L]).length ms' (sl (C++[L])),Ow.cells g5 25 [v'],Ow.slice v4 3 1 (ints L)]) (λ_=>[lM Qm (C++[L]).length ms' (sl (C++[L])),ge h0,ge hx]) (λj=>j<=L.length/\Fx.kmax n many L L.length=Fx.kmax n many L j) (λj=>j) many ⟨by omega,by rw[hL]⟩ ?_;rintro j ⟨hj,hk⟩;cases j with
  |zero=>
   show WC _ _ _ ((6,.int .i64 (-1))::_) _ _ _;repeat'(first|intro(g:Nat)|refine d60 ?_|intro v)
   exact Qs 0 (.inl ⟨rfl,hk⟩)
  |succ k=>
   show WC _ _ _ ((6,.int .i64 (k:Int))::_) _ _ _;by_cases he:L.getD k 0=n-many+(k:Int)
   .repeat'(first|intro(g:Nat)|refine d60 ?_|intro v)
    rw[jm_eq];exact Qq.mk k ⟨by omega,hk.trans (Fx.kmax_go he)⟩ qo
   .repeat'(first|intro(g:Nat)|refine d60 ?_|intro v)
    exact Qs (k+1) (.inr ⟨k,rfl,hk.trans (Fx.kmax_stop he)⟩)
 rintro j (⟨rfl,hk⟩|⟨k,rfl,hk⟩)
 .show WC _ _ _ ((6,.int .i64 (-1))::_) _ _ _;repeat'(first|intro(g:Nat)|refine d60 ?_|intro v)
  refine WC.ret ?_
  have hfin:C++[L]=C0++Fx.chs n many:=by
   rw[<-hc];show _=C++L::(match Fx.nxt n many L with|none=>[]|some l'=>_);rw[Fx.nxt_none hk]
  rw[hfin];exact Fin.p _ _ (Qg.t0 rfl) meA slA haA (.inl ⟨_,rfl,_,_,rfl,rfl⟩)
 have hkl:=Fx.kmax_lt hk;have hq:=hb _ (Fx.Uq hkl);show WC _ _ _ ((6,.int .i64 (k:Int))::_) _ _ _;repeat'(first|intro(g:Nat)|refine d60 ?_|intro v)
 generalize hR:Fx.KX (L.set k (L.getD k 0+1)) (k+1) (L.length-(k+1))=R;refine WC.lp (σ:=Nat×List Int) (λst=>[(7,.int .i64 (st.1:Int)),(4,v4),(0,.func (.yield l) #[] #[]),(1,ptr gm),(2,ptr gn)]) (λst=>[Ow.obj l (.loop r),Ow.cells gm 3 [.int .i64 (many:Int)],Ow.cells gn 3 [.int .i64 (n:Int)],lO Qm v' 28 (C++[L]).length ms' (sl (C++[L])),Ow.cells g5 25 [v'],Ow.slice v4 3 1 (ints st.2)]) (λ_=>[lM Qm (C++[L]).length ms' (sl (C++[L])),ge h0,ge hx]) (λst=>k+1<=st.1/\st.1<=L.length/\st.2.length=L.length/\Fx.KX st.2 st.1 (L.length-st.1)=R/\∀x∈st.2,0<=x/\x<=21+(st.1:Int)) (λst=>L.length-st.1) (k+1,L.set k (L.getD k 0+1)) ⟨Nat.le_refl _,by simp only;omega,by simp,hR,Fx.all_set (λx hx=>by have:=hb x hx;simp only;omega) wq18⟩ ?_;rintro⟨i,L1⟩ ⟨h1,h2,h3,h4,h5⟩;simp only at h1 h2 h3 h4 h5 ⊢;by_cases d:i<L.length
 .obtain⟨p,rfl⟩:∃p,i=p+1:=⟨i-1,by omega⟩
  have hp:(((p+1:Nat):Int)-1).toNat=p:=qo;have hq2:=h5 _ (Fx.Uq (l:=L1) (j:=(((p+1:Nat):Int)-1).toNat) qo);repeat'(first|intro(g:Nat)|refine d60 ?_|intro v)
  simp only[Int.toNat_natCast,hp];rw[hp] at hq2;refine Qq.mk (p+1+1,L1.set (p+1) (L1.getD p 0+1)) ⟨by simp only;omega,by simp only;omega,by simp only[List.length_set];omega,?_,Fx.all_set (λx hx=>by have:=h5 x hx;simp only;omega) wq18⟩ wq18;rw[show L.length-(p+1)=L.length-(p+1+1)+1 by omega] at h4;exact h4
 .obtain rfl:i=L.length:=qo;rw[Nat.sub_self] at h4;have h4:L1=R:=h4;subst h4;repeat'(first|intro(g:Nat)|refine d60 ?_|intro v)
  have hnx:=Fx.nxt_some hk;rw[hR] at hnx;refine Qq.mk (L1,f,C++[L],v',ms') ⟨by simp only;omega,hg2 _ hnx,?_,by simp only[List.length_append,List.length_singleton];omega⟩ wq18;rw[<-hc];show(C++[L])++_=C++L::(match Fx.nxt n many L with|none=>[]|some l'=>_);rw[hnx,List.append_assoc];rfl
end Z
def IsCh(f:FuncId)(n many:Nat):Qf:=λv B G=>∃gm gn,v=.func (.func f) #[] #[ptr gm,ptr gn]/\B=[Ow.cells gm 3 [.int .i64 (many:Int)],Ow.cells gn 3 [.int .i64 (n:Int)]]/\G=[]
def IsSets(C:List (List Int)):Qf:=λv B G=>∃ms,B=[lO Qm v 28 C.length ms (sl C)]/\G=[lM Qm C.length ms (sl C)]
namespace Z
attribute [local irreducible] WC WL WD YO LO Qq W.Fin Qv Qh Qj Row QV Qy KnS Has W.One Qp QJ
def chosen_c(n many:Nat):FnB Tryz.prog 32 [.int .i64 (n:Int),.int .i64 (many:Int)] [] [] (IsCh 60 n many):=by
 refine fO [(0,(.int .i64 (n:Int))),(1,(.int .i64 (many:Int)))] 6 Tryz.func32 Tryz.ntmps32 λh0=>?_;repeat'(first|intro(g:Nat)|refine gP ?_|intro v)
 exact wq86
end Z
namespace T
open W
def a22:QV Tryz.prog 22 3 2 1:=QV.of kr
def r22:Row Tryz.prog 22 2:=Row.of kr
def al22:Qy Tryz.prog 22 [.int .i64 0,.int .i64 0]:=Qy.of (z:=.agg #[.int .i64 0,.int .i64 0]) kr kr
def s24:Qh Tryz.prog 24 22 2:=Qh.of kr
def Gl:Qj Tryz.prog 53 0 0:=Qj.of kr
def V8:Qj Tryz.prog 53 1 1:=Qj.of kr
def r53:Row Tryz.prog 53 2:=Row.of kr
def al53:Qy Tryz.prog 53 [.slice none 0 0,.slice none 0 0]:=Qy.of (z:=.agg #[.slice none 0 0,.slice none 0 0]) kr kr
end T
def IsTc(t:Tc):Qf:=λv B G=>∃tm:ToM,v=tv tm t/\B=[]/\G=[fT tm t]
def IsScv(S:Sc):Qf:=λv B G=>∃M:SM,v=.agg #[M.l,M.t]/\B=[]/\G=[fSl M S,fSt M S]
section
variable {e:Env}{bx bx':List Ow}{F:List Fct}{ty t el:TypeId}{x y z u r s:Operand}{v w:Value}{K:Qf}{tm:ToM}{tc:Tc}{bm:BM}{b:Bd}{v1 v2 v3:VM}{n1 n2 n3:QM}{A B:Int}{n m:Nat}
def Dr(h1:ev e x=some (.int .i64 A))(h2:ev e y=some (.int .i64 B))(h3:ev e z=some (vv v1))(h4:ev e u=some (vv v2))(h5:ev e r=some (vv v3))(h6:ev e s=some (qv n1)):YO Tryz.prog (.build 93 #[(0,x),(1,y),(2,z),(3,u),(4,r),(5,s)]) ty e bx F (tv ⟨v1,v2,v3,n1⟩ ⟨A,B,⟨0,0⟩,⟨0,0⟩,⟨0,0⟩,0⟩):=
 YO.build (parts:=[(0,x),(1,y),(2,z),(3,u),(4,r),(5,s)]) (.cons h1 (.cons h2 (.cons h3 (.cons h4 (.cons h5 (.cons h6 .nil)))))) λ_=>by kernel_rfl
def y_touch5(h3:ev e z=some (vv v1))(h4:ev e u=some (vv v2))(h5:ev e r=some (vv v3))(h6:ev e s=some (qv n1)):YO Tryz.prog (.build 93 #[(1,.const (.int .i64 (-1))),(2,z),(3,u),(4,r),(5,s)]) ty e bx F (tv ⟨v1,v2,v3,n1⟩ ⟨0,-1,⟨0,0⟩,⟨0,0⟩,⟨0,0⟩,0⟩):=
 YO.build (parts:=[(1,.const (.int .i64 (-1))),(2,z),(3,u),(4,r),(5,s)]) (.cons rfl (.cons h3 (.cons h4 (.cons h5 (.cons h6 .nil))))) λ_=>by kernel_rfl
def y_bodyX(h1:ev e x=some (vv v1))(h2:ev e y=some (qv n1))(h3:ev e z=some (qv n2))(h4:ev e u=some (qv n3)):YO Tryz.prog (.build 88 #[(0,x),(1,y),(2,z),(3,u)]) ty e bx F (bv ⟨v1,n1,n2,n3⟩):=y_body h1 h2 h3 h4
def Dp(hx:ev e x=some v)(hy:ev e y=some w)(hv:KnS bx F v n)(hw:KnS bx F w m):YO Tryz.prog (.build 53 #[(0,x),(1,y)]) ty e bx F (.agg #[v,w]):=λk fr a w0 o h1 h2 h3 h4=>by
 obtain⟨a',c,rfl,_⟩:=(hv fr w0 h4).is;obtain⟨a'',c',rfl,_⟩:=(hw fr w0 h4).is;exact YO.build (parts:=[(0,x),(1,y)]) (us:=[.slice a' n c,.slice a'' m c']) (.cons hx (.cons hy .nil)) (λ_=>by kernel_rfl) k fr a w0 o h1 h2 h3 h4
def LO.bsB1(hx:ev e x=some (bv bm))(h:∀v,K v (Ow.slice v 88 20 (bcs bm)::bx) F):LO Tryz.prog (.buildSlice 31 1 #[(0,x)]) ty e bx F K:=
 LO.buildSlice (el:=88) (sz:=20) (parts:=[(0,x)]) (us:=[bv bm]) (cs:=bcs bm) (.cons hx .nil) (λ_=>by kernel_rfl) rfl qd h
def LO.bsTr(hx:ev e x=some (tv tm tc))(h:∀v,K v (Ow.slice v 93 30 (tcs tm tc)::bx) F):LO Tryz.prog (.buildSlice 32 1 #[(0,x)]) ty e bx F K:=
 LO.buildSlice (el:=93) (sz:=30) (parts:=[(0,x)]) (us:=[tv tm tc]) (cs:=tcs tm tc) (.cons hx .nil) (λ_=>by kernel_rfl) rfl qd h
def KnS.o1B(h:Ow.slice v 88 20 (bcs bm)∈bx):KnS bx F v 1:=KnS.o h rfl qd
def KnS.o1T(h:Ow.slice v 93 30 (tcs tm tc)∈bx):KnS bx F v 1:=KnS.o h rfl qd
def y_arr{a b:Int}:YO Tryz.prog (.build 22 #[(0,.const (.int .i64 a)),(1,.const (.int .i64 b))]) ty e bx F (.agg #[.int .i64 a,.int .i64 b]):=YO.build (parts:=[(0,.const (.int .i64 a)),(1,.const (.int .i64 b))]) (.cons rfl (.cons rfl .nil)) λ_=>by kernel_rfl
def LO.bsN4{a1 a2 b1 b2 c1 c2 d1 d2:Int}(hx:ev e x=some (.agg #[.int .i64 a1,.int .i64 a2]))(hy:ev e y=some (.agg #[.int .i64 b1,.int .i64 b2]))(hz:ev e z=some (.agg #[.int .i64 c1,.int .i64 c2]))(hu:ev e u=some (.agg #[.int .i64 d1,.int .i64 d2]))(h:∀v,K v (Ow.slice v 22 2 (ints [a1,a2,b1,b2,c1,c2,d1,d2])::bx) F):LO Tryz.prog (.buildSlice 24 4 #[(0,x),(1,y),(2,z),(3,u)]) ty e bx F K:=
 LO.buildSlice (el:=22) (sz:=2) (parts:=[(0,x),(1,y),(2,z),(3,u)]) (us:=[.agg #[.int .i64 a1,.int .i64 a2],.agg #[.int .i64 b1,.int .i64 b2],.agg #[.int .i64 c1,.int .i64 c2],.agg #[.int .i64 d1,.int .i64 d2]]) (cs:=ints [a1,a2,b1,b2,c1,c2,d1,d2]) (.cons hx (.cons hy (.cons hz (.cons hu .nil)))) (λ_=>by kernel_rfl) rfl qd h
def sl_cells(k:Nat)(hk:k<4):∀i,i<2->(ints [1,2,-1,3,1,1,-3,4])[k*2+i]?=[Value.int .i64 (Bl.slN k).1,Value.int .i64 (Bl.slN k).2][i]?:=λi hi=>by
 match k,hk,i,hi with
 |0,_,0,_=>rfl|0,_,1,_=>rfl|1,_,0,_=>rfl|1,_,1,_=>rfl|2,_,0,_=>rfl|2,_,1,_=>rfl|3,_,0,_=>rfl|3,_,1,_=>rfl
def sc_int:Qv Tryz.prog 3:=Qv.of kr
def YO.ldFi{tg g q:Nat}{cs:List Value}(hs:Qv Tryz.prog t)(hx:ev e x=some (.pointer (some ⟨g,q,none⟩)))(hb:Ow.cells g tg cs∈bx)(hq:cs[q]?=some v):YO Tryz.prog (.load t x) ty e bx F v:=YO.ldB hs hx hb hq
def LO.appBd{el':TypeId}{ms:Nat->BM}{xs:Nat->Bd}{bx2:Value->List Ow}(hx:ev e x=some v)(hy:ev e y=some w)(hu:Ow.slice w el' 20 (bcs bm)∈bx)(hm:Has F (fB bm (xs n)))(hs:∀v',Sel bx (lO Qo v 88 n ms xs) (lO Qo v' 88 (n+1) (upd ms n bm) xs) (bx2 v'))(hl:n<=1000000)(h:∀v',K v' (bx2 v') F) :
  LO Tryz.prog (.call {callee:=.builtin .append,args:=#[x,y],argTypes:=#[31,31]}) ty e bx F K:=
 LO.appG (S:=Qo) (c:=1) T.e31 hx hy hu (JD (S:=Qo) (mm:=bm)) rfl (one_b hm) hs qd qd hl qd h
def LO.appTu{el':TypeId}{ms:Nat->ToM}{xs:Nat->Tc}{bx2:Value->List Ow}(hx:ev e x=some v)(hy:ev e y=some w)(hu:Ow.slice w el' 30 (tcs tm tc)∈bx)(hm:Has F (fT tm tc))(hs:∀v',Sel bx (lO Qz v 93 n ms xs) (lO Qz v' 93 (n+1) (upd ms n tm) (upd xs n tc)) (bx2 v'))(hl:n<=1000000)(h:∀v',K v' (bx2 v') F) :
  LO Tryz.prog (.call {callee:=.builtin .append,args:=#[x,y],argTypes:=#[32,32]}) ty e bx F K:=
 LO.appL (S:=Qz) T.e32 hx hy hu (Uk hm) hs qd qd hl h
end
section
variable {P:Program}{e:Env}{bx:List Ow}{F:List Fct}{ty t:TypeId}{x:Operand}{M:Pm}{m gn i:Nat}{ln:Nat->Nat}{a:Nat->Nat->Rat}{b g:Nat->Rat}
def YO.ldPa(hs:Qv P t)(hx:ev e x=some (.pointer (some (eaddr M.lv (i*5+0)))))(h:W.Has F (fPg M m gn ln a b g))(hi:i<m):YO P (.load t x) ty e bx F (M.av i):=by
 have h1:=YO.ldS (ty:=ty) (bx:=bx) hs hx h.pl (show i*5+0<m*5 by omega)
 rwa [Hn _ _ _ (by decide:0<5)] at h1
def YO.ldPb(hs:Row P t 4)(hx:ev e x=some (.pointer (some (eaddr M.lv (i*5+1)))))(h:W.Has F (fPg M m gn ln a b g))(hi:i<m):YO P (.load t x) ty e bx F (qv (M.mb i)):=
 YO.ldRS (us:=qcs (M.mb i)) hs hx h.pl qo rfl λk hk=>by
  rw[show i*5+1+k=i*5+(1+k) by omega,Hn _ _ _ qo];match k,hk with|0,_=>rfl|1,_=>rfl|2,_=>rfl|3,_=>rfl
end
namespace K
namespace Q
attribute [local irreducible] WC WL WD YO LO Qq W.Fin Qv Qh Qj Row QV Qy KnS Has W.One Qp QJ
def goE{G G':Prop}(h:G')(s:Bx G'->G:=by
 intro h
 (first|(apply WL.JZ;exact wq135;exact rfl;exact rfl)|(apply WL.Y8;exact wq133;exact rfl;exact rfl)|(apply WL.JK;exact wq145;exact rfl;exact rfl)|(apply WL.Yu;exact wq50;exact rfl;exact rfl)|(apply WL.Jc;rotate_left;exact rfl;(first|(apply LO.XL;exact rfl;exact rfl;exact T.r53;exact seA;exact rfl;exact wq46)|(apply LO.XL;exact rfl;exact rfl;exact T.r22;exact seA;exact rfl;exact wq76)|fail))|(apply WD.JZ;exact rfl;exact wq135;exact rfl;exact rfl)|(apply WD.Y8;exact rfl;exact wq133;exact rfl;exact rfl)|(apply WD.JK;exact rfl;exact wq145;exact rfl;exact rfl)|(apply WD.Yu;exact rfl;exact wq50;exact rfl;exact rfl)|(apply WD.Jc;exact rfl;rotate_left;exact rfl;(first|(apply LO.XL;exact rfl;exact rfl;exact T.r53;exact seA;exact rfl;exact wq46)|(apply LO.XL;exact rfl;exact rfl;exact T.r22;exact seA;exact rfl;exact wq76)|fail);constructor;exact ltA)|((first|(apply LO.XL;exact rfl;exact rfl;exact T.r53;exact seA;exact rfl;exact wq46)|(apply LO.XL;exact rfl;exact rfl;exact T.r22;exact seA;exact rfl;exact wq76)|fail);constructor;exact ltA)|fail)
 exact Bx.h h):G:=s ⟨h⟩
def goEG{G G':Prop}(h:G')(s:Bx G'->G:=by
 intro h
 (first|(apply WL.XX;rotate_left;exact rfl;exact rfl;apply LO.X8;(first|exact T.al53|exact T.al22|fail))|(apply WD.XX;exact rfl;rotate_left;exact rfl;exact rfl;apply LO.X8;(first|exact T.al53|exact T.al22|fail);apply Qn;(intro _;exact ltA))|(apply LO.X8;(first|exact T.al53|exact T.al22|fail);apply Qn;(intro _;exact ltA))|fail)
 exact Bx.h h):G:=s ⟨h⟩
def goEV{G G':Prop}(h:G')(s:Bx G'->G:=by
 intro h
 (first|(apply WL.Jy;rotate_left;exact rfl;exact rfl;(first|(apply LO.Gy;exact rfl;exact rfl;exact hmA;(intro _;exact seA);omega;omega)|fail))|(apply WD.Jy;exact rfl;rotate_left;exact rfl;exact rfl;(first|(apply LO.Gy;exact rfl;exact rfl;exact hmA;(intro _;exact seA);omega;omega)|fail);apply Qn;(intro _;exact ltA))|((first|(apply LO.Gy;exact rfl;exact rfl;exact hmA;(intro _;exact seA);omega;omega)|fail);apply Qn;(intro _;exact ltA))|(apply WL.JW;rotate_left;exact rfl;exact rfl;(apply LO.bsB1;exact rfl))|(apply WD.JW;exact rfl;rotate_left;exact rfl;exact rfl;(apply LO.bsB1;exact rfl);apply Qn;(intro _;exact ltA))|((apply LO.bsB1;exact rfl);apply Qn;(intro _;exact ltA))|(apply WL.JW;rotate_left;exact rfl;exact rfl;(apply LO.bsTr;exact rfl))|(apply WD.JW;exact rfl;rotate_left;exact rfl;exact rfl;(apply LO.bsTr;exact rfl);apply Qn;(intro _;exact ltA))|((apply LO.bsTr;exact rfl);apply Qn;(intro _;exact ltA))|(apply WL.JW;rotate_left;exact rfl;exact rfl;(apply LO.bsN4;exact rfl;exact rfl;exact rfl;exact rfl))|(apply WD.JW;exact rfl;rotate_left;exact rfl;exact rfl;(apply LO.bsN4;exact rfl;exact rfl;exact rfl;exact rfl);apply Qn;(intro _;exact ltA))|((apply LO.bsN4;exact rfl;exact rfl;exact rfl;exact rfl);apply Qn;(intro _;exact ltA))|fail)
 exact Bx.h h):G:=s ⟨h⟩
end Q
end K
end Go.Proofs.YtbnobghgnbockaaGreat
