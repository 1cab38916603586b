/- Lemmas. Conditions: none. -/
import Derived.Test.YtbnobghgnbockaaGreatZk27
set_option linter.all false
set_option maxHeartbeats 0
set_option maxRecDepth 100000
namespace Go.Proofs.YtbnobghgnbockaaGreat
open Tryz (prog)
open W Go.RowKit
open Bl (Vc Bd Tc Sc)
def IsEnds(M:SM)(S:Sc):Qd:=λv B G=>B=[]/\G=[lF JO v (2*S.m) (edM M.T) (edT S.T)]
def IsR2(p q:Rat):Qd:=λv B G=>∃m1 m2:QM,v=.tuple #[qv m1,qv m2]/\B=[]/\G=[isQ (qv m1) p,isQ (qv m2) q]
def W.Has.edk{M:SM}{S:Sc}{F:nc}{i:Nat}(h:Has F (fT (M.T i) (S.T i))):Has F (fE (edM M.T (2*i)) (edT S.T (2*i)))/\Has F (fE (edM M.T (2*i+1)) (edT S.T (2*i+1))):=by
 rw[(edT_0 ..).1,(edT_0 ..).2,(edM_0 ..).1,(edM_0 ..).2];exact⟨W.Has.eof h.tp h,W.Has.eof h.tq h⟩
namespace K
attribute [local irreducible] WC WL WD YO LO Qq W.Fin Qk Qh Qj Row QZ Qv KnS Has W.One Qo QX
def d103{G G':Prop}(h:G')(s:Bx G'->G:=by
 intro h;first|refine gB ?_|(apply WC.draw (id:=1) [0,1,2,3,4,5,6,9,10,11,12,13,14,15] (.h 0<|.h 1<|.h 2<|.h 3<|.h 4<|.h 5<|.h 6<|.h 9<|.h 10<|.h 11<|.h 12<|.h 13<|.h 14<|.h 15<|.l 7<|.l 8<|.l 16<|.l 17<|.l 18<|.l 19<|.l 20 .done) mixed kr)|fail
 exact Bx.h h):G:=s ⟨h⟩
def d103r{G G':Prop}(h:G')(s:Bx G'->G:=by
 intro h;repeat'(first|intro(zQ:Nat)|refine d103 ?_|intro zQ)
 repeat revert zQ
 exact Bx.h h):G:=s ⟨h⟩

def d108{G G':Prop}(h:G')(s:Bx G'->G:=by
 intro h;first|refine gB ?_|(apply WC.draw (id:=1) [0,1,2,3,5] (.h 0<|.h 1<|.h 2<|.h 3<|.h 5<|.l 4<|.l 6<|.l 7 .done) mixed kr)|fail
 exact Bx.h h):G:=s ⟨h⟩
def ends_c(M:SM)(S:Sc)(ho:S.ok):FnB prog 99 [M.t] [] [fSt M S] (IsEnds M S):=by
 refine fO [(0,M.t)] 25 Tryz.func99 Tryz.ntmps99 λh0=>?_;have hm:=ho.m;refine WC.QL 163 38 ?_;refine gAr ?_;refine WC.lp (σ:=Nat×nA) (λst=>[(8,nj (st.1:Int)),(7,nj (S.m:Int)),(6,M.t),(3,st.2)]) (λst=>[lO JO st.2 163 (2*st.1) (edM M.T) (edT S.T)]) (λst=>[lM JO (2*st.1) (edM M.T) (edT S.T),ge h0,fSt M S]) (λst=>st.1<=S.m) (λst=>S.m-st.1) (0,nz) (aj _) ?_ (hG:=.cons W.Has.Uy haA);rintro⟨i,v⟩ hi;simp only at hi ⊢;by_cases c:i<S.m
 .refine WC.fact (fT (M.T i) (S.T i)) (W.Has.lk (S:=Qu) (v:=M.t) hmA c) ?_;refine gAr ?_;intro g v v;exact Qq.mk (i+1,_) wq14 wq14 (hG:=.cons (((W.Has.mem wq74:Has _ (lM JO (2*i) (edM M.T) (edT S.T))).mappS (W.Has.edk (M:=M) (S:=S) hmA).1).mappS (W.Has.edk (M:=M) (S:=S) hmA).2) haA)
 .obtain rfl:i=S.m:=qo;refine gAr ?_;refine WC.QA (S:=JO) (n:=2*S.m) (ms:=edM M.T) (xs:=edT S.T) wq3 hmA ?_;refine WC.ret ?_;exact Fp [lF JO v (2*S.m) (edM M.T) (edT S.T)] (Qf.t1 rfl rfl) haA ⟨rfl,rfl⟩
def Fl(M:SM)(S:Sc)(c:Nat)(hn:S.n<=5)(hc:c<2^S.n):FnB prog 83 [M.l,nj c] [] [fSl M S] (IsF S.n (S.wt c)):=by
 refine fO [(0,M.l),(1,(nj c))] 46 Tryz.func83 Tryz.ntmps83 λh0=>?_;have h32:2^S.n<=2^5:=aA qd hn;obtain⟨N,hN⟩:∃N,2^S.n=N:=⟨_,rfl⟩
 have hc':c<32:=qo;have hcN:(c:Int)<((2^S.n:Nat):Int):=qo;refine WC.QL 75 4 ?_;refine gAr ?_;refine WC.lp (σ:=Nat×nA×(Nat->QM)) (λst=>[(24,nj (st.1:Int)),(23,nj (S.n:Int)),(22,M.l),(1,nj c),(5,st.2.1)]) (λst=>[Ow.slice st.2.1 75 4 (Qc st.1 st.2.2)]) (λst=>[mF st.1 st.2.2 (S.wt c),ge h0,fSl M S]) (λst=>st.1<=S.n) (λst=>S.n-st.1) (0,nz,λ_=>m00) (aj _) ?_ (hG:=.cons (W.Has.mFn _ _) haA);rintro⟨i,v,ms⟩ hi;simp only at hi ⊢;by_cases c1:i<S.n
 .refine WC.fact (fB (M.B i) (S.B i)) (W.Has.lk (S:=QQ) (v:=M.l) hmA c1) ?_;refine WC.fact (isQ (qv (M.B i).lo) (S.B i).lo) (W.Has.bl (b:=S.B i) hmA) ?_;refine WC.fact (isQ (qv (M.B i).hi) (S.B i).hi) (W.Has.bh (b:=S.B i) hmA) ?_;have hq:(c:Int)/2^((i:Int)).toNat=((c/2^i:Nat):Int):=by rw[be];simp
  have hq2:c/2^i<=c:=bR _ _
  have hX:0<=(c:Int)/2^((i:Int)).toNat/\(c:Int)/2^((i:Int)).toNat<=31/\((c:Int)/2^((i:Int)).toNat%2=1↔c/2^i%2=1):=by
   rw[hq];generalize c/2^i=X at *;omega
  obtain⟨hX0,hX1,hX2⟩:=hX;by_cases c2:c/2^i%2=1
  .have hw:S.wt c i=(S.B i).hi:=ah c2;refine gAr ?_;intro g v v;exact Qq.mk (i+1,_,Qy ms i (M.B i).hi) wq14 wq14 (hG:=.cons (W.Has.QK (W.Has.Zm (qf:=S.wt c) hmA (m:=(M.B i).hi) (z:=(S.B i).hi) hmA) (λk hk=>by unfold Qy;split;(rename_i e;rw[e,hw]);rfl)) haA)
  .have hw:S.wt c i=(S.B i).lo:=ae c2;refine gAr ?_;intro g v v;exact Qq.mk (i+1,_,Qy ms i (M.B i).lo) wq14 wq14 (hG:=.cons (W.Has.QK (W.Has.Zm (qf:=S.wt c) hmA (m:=(M.B i).lo) (z:=(S.B i).lo) hmA) (λk hk=>by unfold Qy;split;(rename_i e;rw[e,hw]);rfl)) haA)
 .obtain rfl:i=S.n:=qo;refine gAr ?_;refine WC.Jh v S.n ms (S.wt c) wq3 hmA ?_;exact wq110
def forcex_c(me:EM)(e:Ed)(mv:VM)(f:Vc):FnB prog 106 [edv me e,vv mv] [] [fV mv f] (IsR f.x):=by
 refine fO [(0,(edv me e)),(1,(vv mv))] 7 Tryz.func106 Tryz.ntmps106 λh0=>?_;refine WC.fact (isQ (qv mv.1) f.x) (W.Has.vx (a:=f) hmA) ?_;refine WC.fact (isQ (qv mv.2) f.y) (W.Has.vy (a:=f) hmA) ?_;refine gAr ?_;intro g g g;refine WC.ret ?_;exact Fp [isQ (qv mv.1) f.x] (rcV T.r75) haA ⟨mv.1,rfl,rfl,rfl⟩
def forcey_c(me:EM)(e:Ed)(mv:VM)(f:Vc):FnB prog 107 [edv me e,vv mv] [] [fV mv f] (IsR f.y):=by
 refine fO [(0,(edv me e)),(1,(vv mv))] 7 Tryz.func107 Tryz.ntmps107 λh0=>?_;refine WC.fact (isQ (qv mv.1) f.x) (W.Has.vx (a:=f) hmA) ?_;refine WC.fact (isQ (qv mv.2) f.y) (W.Has.vy (a:=f) hmA) ?_;refine gAr ?_;intro g g g;refine WC.ret ?_;exact Fp [isQ (qv mv.2) f.y] (rcV T.r75) haA ⟨mv.2,rfl,rfl,rfl⟩
def torque_c(me:EM)(e:Ed)(mv:VM)(f:Vc)(gb:Nat)(mb:BM)(b:Bd)(K:Nat)(hK:K<=1000000)(he:Sv K e.at')(hf:Sv K f)(hb:Sv K b.c):FnB prog 108 [edv me e,vv mv,ptr gb] [] [fV mv f,fE me e,ce gb 88 (bcs mb),fB mb b] (IsR (Bl.JZ (Bl.Jl e.at' b.c) f)):=by
 refine fO [(0,(edv me e)),(1,(vv mv)),(2,(ptr gb))] 13 Tryz.func108 Tryz.ntmps108 λh0=>?_;refine WC.fact (fV me.at' e.at') (W.Has.ea (ed:=e) hmA) ?_;refine WC.fact (fV mb.c b.c) (W.Has.bc (bm:=mb) hmA) ?_;repeat'(first|intro(g:Nat)|refine d108 ?_|intro v)
 refine cW (vsub_c me.at' mb.c e.at' b.c K qo he hb) λm2=>?_;repeat'(first|intro(g:Nat)|refine d108 ?_|intro v)
 refine cW (vcross_c m2 mv (Bl.Jl e.at' b.c) f (K+K+1) qo ⟨he.1.sub hb.1,he.2.sub hb.2⟩ ⟨hf.1.up qo,hf.2.up qo⟩) λn2=>?_;repeat'(first|intro(g:Nat)|refine d108 ?_|intro v)
 refine WC.ret ?_;exact Fp [isQ (qv n2) (Bl.JZ (Bl.Jl e.at' b.c) f)] (rcV T.r75) haA ⟨n2,rfl,rfl,rfl⟩
def part_c(gf gi:Nat)(i:Nat)(hi:i<=1000)(ff:np)(fc:ne)(me:EM)(e:Ed)(K:Nat)(h0K:0<K)(hK:K<=1000000)(hn:Sv K e.t.n)(G:Vc->Rat)(Fc:Fct)
  (hf:∀mv f,Sv K f->FnB prog ff ([]++[edv me e,vv mv]++fc) [] [fV mv f,fE me e,Fc] (IsR (G f))) :
  FnB prog 103 [edv me e,ptr gf,ptr gi] [] [fE me e,ce gf 166 [.func (.func ff) #[] fc.toArray],ce gi 3 [nj i],Fc] (IsR2 (G (Bl.on e.t i e.t.n)) (G (Bl.on e.t i (Bl.turn e.t.n)))):=by
 refine fO [(0,(edv me e)),(1,(ptr gf)),(2,(ptr gi))] 25 Tryz.func103 Tryz.ntmps103 λh0=>?_;refine WC.fact (fT me.t e.t) (W.Has.et (em:=me) hmA) ?_;refine WC.fact (fV me.t.n e.t.n) (W.Has.tn (tm:=me.t) hmA) ?_
 have hs:∀f,Sv K f->Sv K (Bl.on e.t i f):=λf h=>by
  unfold Bl.on;split
  .exact h
  .split
   .exact⟨h.1.neg,h.2.neg⟩
   .exact⟨Sq.zero.up h0K,Sq.zero.up h0K⟩
 have hn2:Sv K (Bl.turn e.t.n):=⟨hn.2.neg,hn.1⟩
 refine d103r ?_;intro g g g;refine cW (on_c me e i me.t.n e.t.n K h0K hK hn hi) λm2=>?_;refine d103r ?_;refine WD.XV [] fc (vs:=[edv me e,vv m2]) (hf m2 _ (hs _ hn)) ?_;rintro _ _ _ ⟨n1,rfl,rfl,rfl⟩;refine sNn ?_;refine d103r ?_;refine cW (across_c me.t.n e.t.n) λm3=>?_;refine d103r ?_;refine cW (on_c me e i m3 (Bl.turn e.t.n) K h0K hK hn2 hi) λm4=>?_;refine d103r ?_;refine WD.XV [] fc (vs:=[edv me e,vv m4]) (hf m4 _ (hs _ hn2)) ?_;rintro _ _ _ ⟨n2,rfl,rfl,rfl⟩;refine sNn ?_;refine d103r ?_;refine WC.ret ?_;exact Fp [isQ (qv n1) (G (Bl.on e.t i e.t.n)),isQ (qv n2) (G (Bl.on e.t i (Bl.turn e.t.n)))] (Qf.cc rfl rfl rfl meA meA T.r75 rfl T.r75 rfl) haA ⟨n1,n2,rfl,rfl,rfl⟩
end K
def IsPart(i:Nat)(f:nA)(gi:Nat):Qd:=λv B G=>∃gf,v=.func (.func 103) #[] #[ptr gf,ptr gi]/\B=[]/\G=[ce gf 166 [f]]
def co2(fx fy:nf)(s:Rat)(j:Nat):Rat:=(if j%2=0 then fx (j/2) else fy (j/2))*s
def IsAdd(g4:Nat)(vars:Int)(gv:nA)(n:Nat)(ms:Nat->LnM)(xs:Nat->LnX):Qd:=λv B G=>∃lv mm,v=.tuple #[]/\B=[Ow.cells g4 118 [nj vars,lv,gv],lO Qm lv 141 (n+1) (Qy ms n mm) xs]/\G=[fLx mm (xs n)]
namespace K
attribute [local irreducible] WC WL WD YO LO Qq W.Fin Qk Qh Qj Row QZ Qv KnS Has W.One Qo QX
def d100{G G':Prop}(h:G')(s:Bx G'->G:=by
 intro h;first|refine gM ?_|refine Vp ?_|(apply WC.draw (id:=1) [0,1,4,5] (.h 0<|.h 1<|.h 5<|.m 2 (.m 3 (.h 4<|.m 6 (.m 7 (.l 8<|.l 9<|.l 10 .done) (.l 8<|.l 7<|.l 9<|.l 10 .done)) (.m 7 (.m 6 (.l 8<|.l 9<|.l 10 .done) (.l 8<|.l 6<|.l 9<|.l 10 .done)) (.l 8<|.m 6 (.l 7<|.l 9<|.l 10 .done) (.l 7<|.l 6<|.l 9<|.l 10 .done)))) (.m 7 (.m 3 (.h 4<|.m 6 (.l 8<|.l 9<|.l 10 .done) (.l 8<|.l 6<|.l 9<|.l 10 .done)) (.l 8<|.l 3<|.h 4<|.l 6<|.l 9<|.l 10 .done)) (.l 8<|.m 3 (.h 4<|.m 6 (.l 7<|.l 9<|.l 10 .done) (.l 7<|.l 6<|.l 9<|.l 10 .done)) (.l 7<|.l 3<|.h 4<|.l 6<|.l 9<|.l 10 .done)))) (.m 7 (.m 2 (.m 3 (.h 4<|.m 6 (.l 8<|.l 9<|.l 10 .done) (.l 8<|.l 6<|.l 9<|.l 10 .done)) (.l 8<|.l 3<|.h 4<|.l 6<|.l 9<|.l 10 .done)) (.l 8<|.l 2<|.l 3<|.h 4<|.l 6<|.l 9<|.l 10 .done)) (.l 8<|.m 2 (.m 3 (.h 4<|.m 6 (.l 7<|.l 9<|.l 10 .done) (.l 7<|.l 6<|.l 9<|.l 10 .done)) (.l 7<|.l 3<|.h 4<|.l 6<|.l 9<|.l 10 .done)) (.l 7<|.l 2<|.l 3<|.h 4<|.l 6<|.l 9<|.l 10 .done)))) mixed kr)|(apply WC.draw (id:=6) [0,1,2,3,5,6] (.h 0<|.h 1<|.h 2<|.h 3<|.h 5<|.h 6<|.l 4<|.l 7<|.l 8<|.l 9<|.f 10<|.l 11 .done) mixed kr)|fail
 exact Bx.h h):G:=s ⟨h⟩
def d100r{G G':Prop}(h:G')(s:Bx G'->G:=by
 intro h;repeat'(first|intro(zQ:Nat)|refine d100 ?_|intro zQ)
 repeat revert zQ
 exact Bx.h h):G:=s ⟨h⟩

def Dd(gi:Nat)(i:Nat)(ff:np)(fc:ne):FnB prog 102 [.func (.func ff) #[] fc.toArray,ptr gi] [] [] (IsPart i (.func (.func ff) #[] fc.toArray) gi):=by
 refine fO [(0,(.func (.func ff) #[] fc.toArray)),(1,(ptr gi))] 5 Tryz.func102 Tryz.ntmps102 λh0=>?_;refine gAr ?_;intro g;refine WC.keep Rem.head ?_;refine WC.ret ?_;exact Fp [ce g 166 [.func (.func ff) #[] fc.toArray]] (Qf.t1 rfl rfl) haA ⟨g,rfl,rfl,rfl⟩
def V7(g3 g4:Nat)(va:nA)(E n:Nat)(em:Nat->EM)(ed:Nat->Ed)(sign:Int)(hsg:sign.natAbs<1000)(mb:QM)(most:Rat)(lv gv:nA)(vars:Int)(ms:Nat->LnM)(xs:Nat->LnX)(ff:np)(fc:ne)(Fc:Fct)(fx fy:nf)(K:Nat)(h0K:0<K)(hK:K<=1000000)(hE:E<=1000)(hn:n<=1000)
  (hmost:Sq K most) (hfx:∀k,k<E->Sq K (fx k)) (hfy:∀k,k<E->Sq K (fy k)) (hxs:xs n=⟨2*E,co2 fx fy (Rat.divInt sign 1),most*Rat.divInt sign 1⟩)
  (hf:∀k,k<E->FnB prog ff ([]++[edv (em k) (ed k)]++fc) [] [fE (em k) (ed k),Fc] (IsR2 (fx k) (fy k))) :
  FnB prog 100 [nj sign,qv mb,.func (.func ff) #[] fc.toArray,ptr g3,ptr g4] [Ow.cells g4 118 [nj vars,lv,gv],lO Qm lv 141 n ms xs] [isQ (qv mb) most,ce g3 159 [va],lF JO va E em ed,Fc] (IsAdd g4 vars gv n ms xs):=by
 refine fO [(0,(nj sign)),(1,(qv mb)),(2,(.func (.func ff) #[] fc.toArray)),(3,(ptr g3)),(4,(ptr g4))] 51 Tryz.func100 Tryz.ntmps100 λh0=>?_;have hs2:Sq K (Rat.divInt sign 1):=DD K h0K sign qo;refine gAr ?_;intro g
 refine WC.YH (σ:=Nat×Nat×QM×QM) (λs=>[(8,ptr s.1),(9,ptr s.2.1),(2,.func (.func ff) #[] fc.toArray),(3,ptr g3),(4,ptr g4)])
  (λs=>[Ow.cells s.1 141 [nz,.bool s.2.2.1.1,s.2.2.1.2.1,nq,s.2.2.1.2.2],Ow.cells s.2.1 75 (qcs s.2.2.2),Ow.cells g4 118 [nj vars,lv,gv],lO Qm lv 141 n ms xs])
  (λs=>[isQ (qv s.2.2.1) (most*Rat.divInt sign 1),isQ (qv s.2.2.2) (Rat.divInt sign 1),ge h0,ce g3 159 [va],lF JO va E em ed,Fc]) (λ_=>True) ?_ ?_
 .repeat'(first|intro(g:Nat)|refine d100 ?_|refine gN ?_ ?_|refine cW (Zn.of sign 1 (by show _<1000000000000000000;omega) qd) λzm=>?_|refine cW (Zn.mul mb _ most (Rat.divInt sign 1) (hmost.sm qo) (hs2.sm qo)) λzm=>?_|intro v)
  all_goals(apply Ex4;refine⟨trivial,?_,?_,?_⟩;(focus(repeat(first|exact Sub.nil _|refine Sub.cons rfl ?_)));exact wq137;exact wq26)
 rintro⟨g8,g9,n2,n3⟩ _;simp only;refine WC.QL 75 4 ?_;refine d100r ?_
 refine WC.lp (σ:=Nat×nA×(Nat->QM)) (λst=>[(23,nj (st.1:Int)),(22,nj E),(21,va),(8,ptr g8),(9,ptr g9),(2,.func (.func ff) #[] fc.toArray),(3,ptr g3),(4,ptr g4)])
  (λst=>[Ow.slice st.2.1 75 4 (Qc (2*st.1) st.2.2),Ow.cells g8 141 [st.2.1,.bool n2.1,n2.2.1,nq,n2.2.2],Ow.cells g9 75 (qcs n3),Ow.cells g4 118 [nj vars,lv,gv],lO Qm lv 141 n ms xs])
  (λst=>[mF (2*st.1) st.2.2 (co2 fx fy (Rat.divInt sign 1)),isQ (qv n2) (most*Rat.divInt sign 1),isQ (qv n3) (Rat.divInt sign 1),ge h0,ce g3 159 [va],lF JO va E em ed,Fc]) (λst=>st.1<=E) (λst=>E-st.1) (0,nz,λ_=>m00) (aj _) ?_ (hG:=.cons (W.Has.mFn _ _) haA)
 rintro⟨k,vq,mq⟩ hk;simp only at hk ⊢;by_cases c:k<E
 .refine WC.fact (fE (em k) (ed k)) (W.Has.lk (S:=JO) (v:=va) hmA c) ?_;refine d100r ?_;intro g;refine WL.XV [] fc (vs:=[edv (em k) (ed k)]) (hf k c) ?_;rintro _ _ _ ⟨m1,m2,rfl,rfl,rfl⟩;refine sNn ?_;refine d100r ?_;intro g g;refine cW (Zn.mul m1 n3 (fx k) (Rat.divInt sign 1) ((hfx k c).sm qo) (hs2.sm qo)) λn4=>?_;refine d100r ?_;refine cW (Zn.mul m2 n3 (fy k) (Rat.divInt sign 1) ((hfy k c).sm qo) (hs2.sm qo)) λn5=>?_;refine d100r ?_;intro v v;have e1:co2 fx fy (Rat.divInt sign 1) (2*k)=fx k*Rat.divInt sign 1:=by unfold co2;rw[ah qo,show 2*k/2=k by omega]
  have e2:co2 fx fy (Rat.divInt sign 1) (2*k+1)=fy k*Rat.divInt sign 1:=by unfold co2;rw[ae qo,show(2*k+1)/2=k by omega]
  exact Qq.mk (k+1,_,Qy (Qy mq (2*k) n4) (2*k+1) n5) wq14 wq14 (hG:=.cons (W.Has.QK (W.Has.Zm (W.Has.Zm (n:=2*k) (qf:=co2 fx fy (Rat.divInt sign 1)) hmA (m:=n4) (z:=fx k*Rat.divInt sign 1) hmA) (m:=n5) (z:=fy k*Rat.divInt sign 1) hmA) (λj hj=>by unfold Qy;split;(rename_i e;rw[e];exact e2.symm);split;(rename_i e;rw[e];exact e1.symm);rfl)) haA)
 .obtain rfl:k=E:=qo;refine d100r ?_;intro v;refine WL.Jh vq (2*k) mq (co2 fx fy (Rat.divInt sign 1)) wq3 hmA ?_;refine WL.QD (fLx ⟨vq,mq,n2⟩ (xs n)) (by rw[hxs];exact W.Has.lof hmA hmA) ?_;refine d100r ?_;intro v;exact Fin.p [_,_] [fLx ⟨vq,mq,n2⟩ (xs n)] (Qf.t0 rfl) meA slA haA ⟨_,⟨vq,mq,n2⟩,rfl,rfl,rfl⟩
end K
section
def LO.ofY{P:nh}{e:Env}{bx:nw}{F:nc}{ty:nl}{op:Op}{r:nA}{K:Qd}(hy:YO P op ty e bx F r)(h:K r bx F):LO P op ty e bx F K:=λn fr a w o K' h1 h2 h3 h4 h5=>by
 have:=hy n fr a w o h1 h2 h3 h4;rw[this.1];refine .inl ⟨.look this.2,?_⟩;rw[QW (ai _)];exact h5 fr r w bx F (.refl _) (Rest.refl w) h4 h
attribute [local irreducible] WC WL WD YO LO Qq W.Fin Qk Qh Qj Row QZ Qv KnS Has W.One Qo QX
namespace K
def goYB{G G':Prop}(h:G')(s:Bx G'->G:=by
 intro h
 (apply WD.yl;exact rfl;(first|exact wq167|fail);exact rfl;exact rfl)
 exact Bx.h h):G:=s ⟨h⟩
def goLY{G G':Prop}(h:G')(s:Bx G'->G:=by
 intro h
 (apply LO.ofY;(first|exact wq167|fail);constructor;exact ltA)
 exact Bx.h h):G:=s ⟨h⟩
end K
end
def IsZer(E:Nat)(mb:QM):Qd:=λv B G=>∃va,v=.agg #[va,.bool mb.1,mb.2.1,nq,mb.2.2]/\B=[Ow.slice va 75 4 (Qc (2*E) λ_=>m00)]/\G=[]
def Xj(S:Sc)(r:Nat):LnX:=if r<3*(2*S.m) then⟨2*(2*S.m),Bl.coE (S.T (r/6)).r (r/3) (r%3),0⟩ else⟨2*(2*S.m),Bl.coS S (r-3*(2*S.m)),(S.B (r-3*(2*S.m))).st⟩
def limX_E{S:Sc}{i:Nat}(h:i<2*S.m):Xj S (3*i)=⟨2*(2*S.m),Bl.coE (S.T (i/2)).r i 0,0⟩/\Xj S (3*i+1)=⟨2*(2*S.m),Bl.coE (S.T (i/2)).r i 1,0⟩/\Xj S (3*i+2)=⟨2*(2*S.m),Bl.coE (S.T (i/2)).r i 2,0⟩:=by
 unfold Xj;rw[ah qo,ah qo,ah qo,show 3*i/6=i/2 by omega,show 3*i/3=i by omega,show 3*i%3=0 by omega,show(3*i+1)/6=i/2 by omega,show(3*i+1)/3=i by omega,show(3*i+1)%3=1 by omega,show(3*i+2)/6=i/2 by omega,show(3*i+2)/3=i by omega,show(3*i+2)%3=2 by omega];exact⟨rfl,rfl,rfl⟩
def limX_S{S:Sc}{i:Nat}:Xj S (3*(2*S.m)+i)=⟨2*(2*S.m),Bl.coS S i,(S.B i).st⟩:=by
 unfold Xj;rw[ae qo,show 3*(2*S.m)+i-3*(2*S.m)=i by omega]
def coE_0(r:Rat)(i j:Nat):Qy (λ_=>0) ((2*(i:Int)).toNat) (-1) j=Bl.coE r i 0 j:=by
 unfold Qy Bl.coE;rw[show(2*(i:Int)).toNat=2*i by omega];split
 .rfl
 .split<;>rfl
def coE_s(r a b:Rat)(i s j:Nat)(ha:a= -r)(hs:s=1/\b=1\/s=2/\b= -1):Qy (Qy (λ_=>0) ((2*(i:Int)).toNat) a) ((2*(i:Int)+1).toNat) b j=Bl.coE r i s j:=by
 unfold Qy Bl.coE;rw[show(2*(i:Int)).toNat=2*i by omega,show(2*(i:Int)+1).toNat=2*i+1 by omega];by_cases h1:j=2*i+1
 .rw[ah h1,ae qo,ah h1,ae qo];rcases hs with ⟨rfl,rfl⟩|⟨rfl,rfl⟩
  .rw[ah rfl]
  .rw[ae qd]
 .rw[ae h1];by_cases h2:j=2*i
  .rw[ah h2,ah h2,ae qo,ha]
  .rw[ae h2,ae h2,ae h1]
def ZW(S:Sc)(i k j:Nat):Rat:=if j<2*k then Bl.coS S i j else 0
def coSk_t{S:Sc}{i k:Nat}(h:Bl.tch (S.T (k/2)) i)(j:Nat):Qy (ZW S i k) ((2*(k:Int)).toNat) (Bl.spn (S.T (k/2)).n) j=ZW S i (k+1) j:=by
 unfold Qy ZW Bl.coS;rw[show(2*(k:Int)).toNat=2*k by omega];by_cases h1:j=2*k
 .rw[ah h1,ah qo,show j/4=k/2 by omega,ah ⟨by omega,h⟩]
 .rw[ae h1];by_cases h2:j<2*k
  .rw[ah h2,ah (show j<2*(k+1) by omega)]
  .rw[ae h2];by_cases h3:j<2*(k+1)
   .rw[ah h3,ae (λh=>by omega)]
   .rw[ae h3]
def coSk_n{S:Sc}{i k:Nat}(h:¬Bl.tch (S.T (k/2)) i)(j:Nat):ZW S i k j=ZW S i (k+1) j:=by
 unfold ZW Bl.coS;by_cases h2:j<2*k
 .rw[ah h2,ah (show j<2*(k+1) by omega)]
 .rw[ae h2];by_cases h3:j<2*(k+1)
  .rw[ah h3,ae (λhx=>h (by rw[show j/4=k/2 by omega] at hx;exact hx.2))]
  .rw[ae h3]
def IsLim(S:Sc):Qd:=λv B G=>∃ms,B=[]/\G=[lF Qm v (3*(2*S.m)+S.n) ms (Xj S)]
namespace K
attribute [local irreducible] WC WL WD YO LO Qq W.Fin Qk Qh Qj Row QZ Qv KnS Has W.One Qo QX
def d111{G G':Prop}(h:G')(s:Bx G'->G:=by
 intro h;first|refine gB ?_|refine gY ?_|(apply WC.draw (id:=9) [0,1,2,3,4,6] (.h 0<|.h 1<|.h 2<|.h 3<|.h 4<|.l 5<|.h 6<|.l 7 .done) mixed kr)|(apply WC.drawS (id:=10) [0,1,2,3,4,5,6,7,8,9,10] (.h 0<|.h 1<|.h 2<|.h 3<|.h 4<|.h 5<|.h 6<|.h 7<|.h 8<|.h 9<|.h 10<|.l 11<|.l 12<|.l 13<|.l 14 .done) mixed kr;exact wq121)|(apply WC.drawS (id:=11) [0,1,2,3,4,5,6,7,8,9,10] (.h 0<|.h 1<|.h 2<|.h 3<|.h 4<|.h 5<|.h 6<|.h 7<|.h 8<|.h 9<|.h 10<|.l 11<|.l 12<|.l 13<|.l 14<|.l 15 .done) mixed kr;exact wq121)|(apply WC.draw (id:=22) [0,1,2,3,4,5,6,8] (.h 0<|.h 1<|.h 2<|.h 3<|.h 4<|.h 5<|.h 6<|.l 7<|.h 8<|.l 9 .done) mixed kr)|fail
 exact Bx.h h):G:=s ⟨h⟩
def d111r{G G':Prop}(h:G')(s:Bx G'->G:=by
 intro h;repeat'(first|intro(zQ:Nat)|refine d111 ?_|intro zQ)
 repeat revert zQ
 exact Bx.h h):G:=s ⟨h⟩

def d185{G G':Prop}(h:G')(s:Bx G'->G:=by
 intro h;first|refine gB ?_|refine gY ?_|(apply WC.draw (id:=1) [0,1,2,4] (.h 0<|.h 1<|.h 2<|.h 4<|.l 3<|.l 5<|.l 6 .done) mixed kr)|fail
 exact Bx.h h):G:=s ⟨h⟩
def V0(g3:Nat)(va:nA)(E:Nat)(em:Nat->EM)(ed:Nat->Ed)(mb:QM)(most:Rat)(hE:E<=1000):FnB prog 185 [qv mb,ptr g3] [] [isQ (qv mb) most,ce g3 159 [va],lF JO va E em ed] (IsZer E mb):=by
 refine fO [(0,(qv mb)),(1,(ptr g3))] 10 Tryz.func185 Tryz.ntmps185 λh0=>?_;repeat'(first|intro(g:Nat)|refine d185 ?_|intro v)
 refine WC.ret ?_;exact Fin.p [_] [] (Qf.cV rfl rfl meA T.r141 rfl) meA slA .nil ⟨v,rfl,rfl,rfl⟩
def limits_c(M:SM)(S:Sc)(va:nA)(K:Nat)(h0K:0<K)(hK:K<=1000000)(hs:Ss K S)(ho:S.ok):FnB prog 111 [M.l,va] [] [fSl M S,lF JO va (2*S.m) (edM M.T) (edT S.T),fSt M S] (IsLim S):=by
 refine fO [(0,M.l),(1,va)] 128 Tryz.func111 Tryz.ntmps111 λh0=>?_;have hn:=ho.n;have hm:=ho.m;refine d111r ?_;intro g;refine cW (Zn.of 1 1 qd qd) λn1=>?_;rw[show Rat.divInt 1 1=1 by decide +kernel];refine d111r ?_;intro g;revert g;intro g7;refine WC.keep (g:=g) (t:=159) (cs:=[va]) wq11 ?_;revert g;intro g3;refine WC.QL 141 5 ?_
 refine WC.JK (σ:=nA×(Nat->LnM)) (λst=>[(0,M.l),(3,ptr g3),(5,st.1),(6,.func (.func 185) #[] #[ptr g3])]) (λst=>[lO Qm st.1 141 (3*(2*S.m)) st.2 (Xj S)])
  (λst=>[lM Qm (3*(2*S.m)) st.2 (Xj S),ge h0,ce g3 159 [va],fSl M S,lF JO va (2*S.m) (edM M.T) (edT S.T),fSt M S]) (λ_=>True) ?_ ?_
 .refine WC.lp (σ:=Nat×nA×(Nat->LnM)) (λst=>[(23,nj (st.1:Int)),(22,nj ((2*S.m:Nat):Int)),(21,va),(0,M.l),(3,ptr g3),(5,st.2.1),(6,.func (.func 185) #[] #[ptr g3]),(7,ptr g7)])
   (λst=>[lO Qm st.2.1 141 (3*st.1) st.2.2 (Xj S),Ow.cells g7 75 (qcs n1)])
   (λst=>[lM Qm (3*st.1) st.2.2 (Xj S),isQ (qv n1) 1,ge h0,ce g3 159 [va],fSl M S,lF JO va (2*S.m) (edM M.T) (edT S.T),fSt M S]) (λst=>st.1<=2*S.m) (λst=>2*S.m-st.1) (0,nz,λ_=>⟨nz,λ_=>m00,m00⟩) (aj _) ?_ (hG:=.cons W.Has.Uy haA)
  rintro⟨i,lv,ms⟩ hi;simp only at hi ⊢;by_cases c:i<2*S.m
  .refine WC.fact (fE (edM M.T i) (edT S.T i)) (W.Has.lk (S:=JO) (v:=va) hmA c) ?_;refine WC.fact (fT (edM M.T i).t (edT S.T i).t) (W.Has.et (em:=edM M.T i) hmA) ?_;refine WC.fact (isQ (qv (edM M.T i).t.r) (edT S.T i).t.r) (W.Has.trr (t:=(edT S.T i).t) hmA) ?_;refine d111r ?_;intro g;refine cW (Zn.neg (edM M.T i).t.r (edT S.T i).t.r) λn2=>?_;refine d111r ?_;intro g;refine WL.XV [] [ptr g3] (vs:=[qv m00]) (V0 g3 va (2*S.m) (edM M.T) (edT S.T) m00 0 qo) ?_;rintro _ _ _ ⟨v1,rfl,rfl,rfl⟩;refine sNn ?_;refine d111r ?_;refine WL.XV [] [ptr g3] (vs:=[qv m00]) (V0 g3 va (2*S.m) (edM M.T) (edT S.T) m00 0 qo) ?_;rintro _ _ _ ⟨v2,rfl,rfl,rfl⟩;refine sNn ?_;refine d111r ?_;refine WL.XV [] [ptr g3] (vs:=[qv m00]) (V0 g3 va (2*S.m) (edM M.T) (edT S.T) m00 0 qo) ?_;rintro _ _ _ ⟨v3,rfl,rfl,rfl⟩;refine sNn ?_;refine d111r ?_;intro g g g;refine cW (Zn.neg n1 1) λn3=>?_;refine d111r ?_;refine cW (Zn.neg n1 1) λn4=>?_;refine d111r ?_;intro v;obtain⟨e0,e1,e2⟩:=limX_E c;refine WL.Jh v1 (2*(2*S.m)) (Qy (λ_=>m00) (2*(i:Int)).toNat n3) (Bl.coE (S.T (i/2)).r i 0) wq3 (W.Has.QK (W.Has.J0 (W.Has.mF0 _) (z:=-1) hmA) λj _=>coE_0 _ i j) ?_;refine WL.Jh v2 (2*(2*S.m)) (Qy (Qy (λ_=>m00) (2*(i:Int)).toNat n2) (2*(i:Int)+1).toNat n1) (Bl.coE (S.T (i/2)).r i 1) wq3 (W.Has.QK (W.Has.J0 (W.Has.J0 (W.Has.mF0 _) (z:=-(edT S.T i).t.r) hmA) (z:=1) hmA) λj _=>coE_s _ _ _ i 1 j rfl (.inl ⟨rfl,rfl⟩)) ?_;refine WL.Jh v3 (2*(2*S.m)) (Qy (Qy (λ_=>m00) (2*(i:Int)).toNat n2) (2*(i:Int)+1).toNat n4) (Bl.coE (S.T (i/2)).r i 2) wq3 (W.Has.QK (W.Has.J0 (W.Has.J0 (W.Has.mF0 _) (z:=-(edT S.T i).t.r) hmA) (z:=-1) hmA) λj _=>coE_s _ _ _ i 2 j rfl (.inr ⟨rfl,rfl⟩)) ?_;refine WL.QD (fLx ⟨v1,Qy (λ_=>m00) (2*(i:Int)).toNat n3,m00⟩ (Xj S (3*i))) (by rw[e0];exact W.Has.lof hmA Jr) ?_;refine WL.QD (fLx ⟨v2,Qy (Qy (λ_=>m00) (2*(i:Int)).toNat n2) (2*(i:Int)+1).toNat n1,m00⟩ (Xj S (3*i+1))) (by rw[e1];exact W.Has.lof hmA Jr) ?_;refine WL.QD (fLx ⟨v3,Qy (Qy (λ_=>m00) (2*(i:Int)).toNat n2) (2*(i:Int)+1).toNat n4,m00⟩ (Xj S (3*i+2))) (by rw[e2];exact W.Has.lof hmA Jr) ?_;refine d111r ?_;intro v;exact Qq.mk (i+1,_,_) wq14 wq14 (hG:=.cons (W.Has.Xb (W.Has.Xb (W.Has.Xb (S:=Qm) (n:=3*i) (ms:=ms) (xs:=Xj S) hmA (mm:=⟨v1,_,m00⟩) hmA) (mm:=⟨v2,_,m00⟩) hmA) (mm:=⟨v3,_,m00⟩) hmA) haA)
  .obtain rfl:i=2*S.m:=qo;refine d111r ?_;exact Qr (lv,ms) trivial
 .rintro⟨lv,ms⟩ _;simp only;refine d111r ?_
  refine WC.lp (σ:=Nat×nA×(Nat->LnM)) (λst=>[(84,nj (st.1:Int)),(83,nj (S.n:Int)),(82,M.l),(3,ptr g3),(5,st.2.1),(6,.func (.func 185) #[] #[ptr g3])])
   (λst=>[lO Qm st.2.1 141 (3*(2*S.m)+st.1) st.2.2 (Xj S)])
   (λst=>[lM Qm (3*(2*S.m)+st.1) st.2.2 (Xj S),ge h0,ce g3 159 [va],fSl M S,lF JO va (2*S.m) (edM M.T) (edT S.T),fSt M S]) (λst=>st.1<=S.n) (λst=>S.n-st.1) (0,lv,ms) (aj _) ?_
  rintro⟨i,lv,ms⟩ hi;simp only at hi ⊢;by_cases c:i<S.n
  .refine WC.fact (fB (M.B i) (S.B i)) (W.Has.lk (S:=QQ) (v:=M.l) hmA c) ?_;refine WC.fact (isQ (qv (M.B i).st) (S.B i).st) (W.Has.bs (b:=S.B i) hmA) ?_;refine d111r ?_;intro g;refine WL.XV [] [ptr g3] (vs:=[qv (M.B i).st]) (V0 g3 va (2*S.m) (edM M.T) (edT S.T) (M.B i).st (S.B i).st qo) ?_;rintro _ _ _ ⟨v1,rfl,rfl,rfl⟩;refine sNn ?_;refine d111r ?_;intro g;revert g;intro g16
   refine WC.JK (σ:=Nat->QM) (λ_=>[(14,nj i),(16,ptr g16),(84,nj i),(83,nj (S.n:Int)),(82,M.l),(3,ptr g3),(5,lv),(6,.func (.func 185) #[] #[ptr g3])])
    (λmq=>[Ow.cells g16 141 [v1,.bool (M.B i).st.1,(M.B i).st.2.1,nq,(M.B i).st.2.2],Ow.slice v1 75 4 (Qc (2*(2*S.m)) mq),lO Qm lv 141 (3*(2*S.m)+i) ms (Xj S)])
    (λmq=>[mF (2*(2*S.m)) mq (Bl.coS S i),isQ (qv (M.B i).st) (S.B i).st,lM Qm (3*(2*S.m)+i) ms (Xj S),ge h0,ce g3 159 [va],fSl M S,lF JO va (2*S.m) (edM M.T) (edT S.T),fSt M S]) (λ_=>True) ?_ ?_
   .refine WC.lp (σ:=Nat×(Nat->QM)) (λst=>[(95,nj (st.1:Int)),(94,nj ((2*S.m:Nat):Int)),(93,va),(14,nj i),(16,ptr g16),(84,nj i),(83,nj (S.n:Int)),(82,M.l),(3,ptr g3),(5,lv),(6,.func (.func 185) #[] #[ptr g3])])
     (λst=>[Ow.cells g16 141 [v1,.bool (M.B i).st.1,(M.B i).st.2.1,nq,(M.B i).st.2.2],Ow.slice v1 75 4 (Qc (2*(2*S.m)) st.2),lO Qm lv 141 (3*(2*S.m)+i) ms (Xj S)])
     (λst=>[mF (2*(2*S.m)) st.2 (ZW S i st.1),isQ (qv (M.B i).st) (S.B i).st,lM Qm (3*(2*S.m)+i) ms (Xj S),ge h0,ce g3 159 [va],fSl M S,lF JO va (2*S.m) (edM M.T) (edT S.T),fSt M S]) (λst=>st.1<=2*S.m) (λst=>2*S.m-st.1) (0,λ_=>m00) (aj _) ?_ (hG:=.cons (W.Has.QK (W.Has.mF0 _) λj _=>by unfold ZW;rw[ae qo]) haA)
    rintro⟨k,mq⟩ hk;simp only at hk ⊢;by_cases d:k<2*S.m
    .refine WC.fact (fE (edM M.T k) (edT S.T k)) (W.Has.lk (S:=JO) (v:=va) hmA d) ?_;refine WC.fact (fT (edM M.T k).t (edT S.T k).t) (W.Has.et (em:=edM M.T k) hmA) ?_;refine WC.fact (fV (edM M.T k).t.n (edT S.T k).t.n) (W.Has.tn (tm:=(edM M.T k).t) hmA) ?_;have hsn:Sv K (edT S.T k).t.n:=(hs.T (k/2) qo).2.2.1;by_cases d1:(edT S.T k).t.a=(i:Int)
     .refine d111r ?_;intro g;refine cW (span_c (edM M.T k).t.n (edT S.T k).t.n K hK hsn) λn5=>?_;refine d111r ?_;exact Qq.mk (k+1,_) wq14 wq14 (hG:=.cons (W.Has.QK (W.Has.J0 (qf:=ZW S i k) hmA (z:=Bl.spn (edT S.T k).t.n) hmA) λj _=>coSk_t (.inl d1) j) haA)
     .by_cases d2:(edT S.T k).t.b=(i:Int)
      .refine d111r ?_;intro g;refine cW (span_c (edM M.T k).t.n (edT S.T k).t.n K hK hsn) λn5=>?_;refine d111r ?_;exact Qq.mk (k+1,_) wq14 wq14 (hG:=.cons (W.Has.QK (W.Has.J0 (qf:=ZW S i k) hmA (z:=Bl.spn (edT S.T k).t.n) hmA) λj _=>coSk_t (.inr d2) j) haA)
      .refine d111r ?_;intro g;exact Qq.mk (k+1,mq) wq14 wq14 (hG:=.cons (W.Has.QK (qf:=ZW S i k) hmA λj _=>coSk_n (λh=>h.elim d1 d2) j) haA)
    .obtain rfl:k=2*S.m:=qo;refine d111r ?_;exact Qr mq trivial (hG:=.cons (W.Has.QK (qf:=ZW S i (2*S.m)) hmA λj hj=>ah hj) haA)
   .intro mq _;refine d111r ?_;intro v;refine WL.Jh v1 (2*(2*S.m)) mq (Bl.coS S i) wq3 hmA ?_;refine WL.QD (fLx ⟨v1,mq,(M.B i).st⟩ (Xj S (3*(2*S.m)+i))) (by rw[limX_S];exact W.Has.lof hmA hmA) ?_;refine d111r ?_;intro v;exact Qq.mk (i+1,_,_) wq14 wq14 (hG:=.cons (W.Has.Xb (S:=Qm) (n:=3*(2*S.m)+i) (ms:=ms) (xs:=Xj S) hmA (mm:=⟨v1,mq,(M.B i).st⟩) hmA) haA)
  .obtain rfl:i=S.n:=qo;refine d111r ?_;refine WC.QA (S:=Qm) (n:=3*(2*S.m)+S.n) (ms:=ms) (xs:=Xj S) wq3 hmA ?_;refine WC.ret ?_;exact Fp [lF Qm lv (3*(2*S.m)+S.n) ms (Xj S)] (Qf.t1 rfl rfl) haA ⟨ms,rfl,rfl⟩
end K
section
def cat{α:Type}(n:Nat)(f g:Nat->α)(j:Nat):α:=if j<n then f j else g (j-n)
section
variable {M α:Type}{S:Shp M α}{P:nh}{e:Env}{bx bx':nw}{F:nc}{ty t el:nl}{v u:nA}{x y z:ni}{n k:Nat}{ms ms2:Nat->M}{xs xs2:Nat->α}{K:Qd}
def lcells_cat(hx:∀j,j<k->xs (n+j)=xs2 j):QG S n ms xs++QG S k ms2 xs2=QG S (n+k) (cat n ms ms2) xs:=by
 have hp:=S.pos;refine Js (by rw[List.length_append,Qg,Qg,Nat.add_mul]) λj hj=>?_;by_cases h:j<n*S.w
 .rw[List.getElem?_append_left (by rw[Qg];exact h),QU h];have hn:j/S.w<n:=(bK hp).2 h;show some (JG S.w _ j)=some (JG S.w _ j);unfold JG cat;simp only;rw[ah hn]
 .have hj2:j-n*S.w<k*S.w:=by rw[Nat.add_mul] at hj;omega
  rw[List.getElem?_append_right (by rw[Qg];omega),Qg,QU hj2];have e1:j=n*S.w+(j-n*S.w):=qo
  have hd:j/S.w=n+(j-n*S.w)/S.w:=by
   conv=>lhs;rw[e1]
   rw[aY n,cG hp]
  have hm:j%S.w=(j-n*S.w)%S.w:=by
   conv=>lhs;rw[e1]
   rw[aY n,cF]
  have hk:(j-n*S.w)/S.w<k:=(bK hp).2 hj2;show some (JG S.w _ _)=some (JG S.w _ j);unfold JG cat;simp only;rw[hd,hm];generalize (j-n*S.w)/S.w=q at *;have h1:¬n+q<n:=qo;have h2:n+q-n=q:=qo;rw[ae h1,h2,hx _ hk]
def W.Has.mcat(h:Has F (lM S n ms xs))(h2:Has F (lM S k ms2 xs2))(hx:∀j,j<k->xs (n+j)=xs2 j):Has F (lM S (n+k) (cat n ms ms2) xs):=λp hf i hi=>by
 unfold cat;by_cases c:i<n
 .rw[ah c];exact h p hf i c
 .rw[ae c];have:=h2 p hf (i-n) qo;rw[<-hx (i-n) qo,show n+(i-n)=i by omega] at this;exact this
end
section
variable {e:Env}{bx bx':nw}{F:nc}{ty t el:nl}{v u:nA}{x y z:ni}{n k:Nat}{ms ms2:Nat->LnM}{xs xs2:Nat->LnX}{K:Qd}
def one_ls{fr:CF}{w:nm}(ho:OK fr bx F w)(hm:Has F (lM Qm k ms2 xs2)):∀c∈QG Qm k ms2 xs2,c.oneCell'=true:=λc hc=>by
 simp only[QG,JQ,List.mem_map,fb] at hc;obtain⟨j,hj,rfl⟩:=hc;have hj5:j<k*5:=hj;have:=(ZL (bx:=bx) (hm.mk (k:=j/5) qo)).all ho;have hr:=YA (l:=lcs (ms2 (j/5))) (r:=j%5) (n:=5) rfl qo;exact this _ (bQ hr)
def LO.Gt{bx2:nA->nw}(hx:ev e x=some v)(hy:ev e y=some u)(hu:Has F (lF Qm u k ms2 xs2))(hs:∀v',Sel bx (lO Qm v 141 n ms xs) (lO Qm v' 141 (n+k) (cat n ms ms2) (cat n xs xs2)) (bx2 v'))(hl:n<=1000000)(hl2:k<=1000000)(h:∀v',K v' (bx2 v') F) :
  LO prog (.call {callee:=.builtin .append,args:=#[x,y],argTypes:=#[116,116]}) ty e bx F K:=by
 refine LO.byP (λfr w ho=>one_ls ho hu.lm) λh1=>?_
 exact LO.append T.e116 hx hy (cs:=QG Qm n ms xs) (news:=QG Qm k ms2 xs2) (by
  have e2:=lcells_cat (S:=Qm) (n:=n) (k:=k) (ms:=ms) (ms2:=ms2) (xs:=cat n xs xs2) (xs2:=xs2) (λj _=>by unfold cat;rw[ae qo,show n+j-n=j by omega]);intro v';have e3:QG Qm n ms xs++QG Qm k ms2 xs2=QG Qm (n+k) (cat n ms ms2) (cat n xs xs2):=e2;rw[e3];exact hs v') (Qo.fact hu.ls) h1 (by rw[Qg,Qg];show(n*5+k*5)*88<=_;omega) (by rw[Qg,Qg];show n*5+k*5<=_;omega) h
end
attribute [local irreducible] WC WL WD YO LO Qq W.Fin Qk Qh Qj Row QZ Qv KnS Has W.One Qo QX
namespace K
def goE{G G':Prop}(h:G')(s:Bx G'->G:=by
 intro h
 (first|(apply WL.Q4;rotate_left;exact rfl;(first|fail|fail))|(apply WD.Q4;exact rfl;rotate_left;exact rfl;(first|fail|fail);constructor;exact ltA)|((first|fail|fail);constructor;exact ltA)|fail)
 exact Bx.h h):G:=s ⟨h⟩
def QT{G G':Prop}(h:G')(s:Bx G'->G:=by
 intro h
 (first|(apply WL.JS;rotate_left;exact rfl;exact rfl;apply LO.J6;(first|fail|fail))|(apply WD.JS;exact rfl;rotate_left;exact rfl;exact rfl;apply LO.J6;(first|fail|fail);apply Qn;(intro _;exact ltA))|(apply LO.J6;(first|fail|fail);apply Qn;(intro _;exact ltA))|fail)
 exact Bx.h h):G:=s ⟨h⟩
def goEV{G G':Prop}(h:G')(s:Bx G'->G:=by
 intro h
 (first|(apply WL.Jn;rotate_left;exact rfl;exact rfl;(first|(apply LO.Gt;exact rfl;exact rfl;exact hmA;(intro _;exact seA);omega;omega)|fail))|(apply WD.Jn;exact rfl;rotate_left;exact rfl;exact rfl;(first|(apply LO.Gt;exact rfl;exact rfl;exact hmA;(intro _;exact seA);omega;omega)|fail);apply Qn;(intro _;exact ltA))|((first|(apply LO.Gt;exact rfl;exact rfl;exact hmA;(intro _;exact seA);omega;omega)|fail);apply Qn;(intro _;exact ltA))|fail)
 exact Bx.h h):G:=s ⟨h⟩
end K
end
end Go.Proofs.YtbnobghgnbockaaGreat
