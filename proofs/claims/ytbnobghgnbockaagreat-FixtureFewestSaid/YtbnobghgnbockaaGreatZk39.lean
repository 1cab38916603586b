/- Lemmas. Conditions: none. -/
import Derived.Test.YtbnobghgnbockaaGreatZk38
set_option linter.all false
set_option maxHeartbeats 0
set_option maxRecDepth 100000
namespace Go.Proofs.YtbnobghgnbockaaGreat
open Tryz (prog)
open W Go.RowKit
open Bl (Vc Bd Tc Sc)
def IsCase(n:Nat)(B:Nat->Bd)(t:List Tc)(P:List (List Tc)):Qd:=λv bx G=>∃(lv tv pv:nA) (bm:Nat->BM) (tm:Nat->ToM) (pm:Nat->nA×(Nat->ToM)),v=.agg #[lv,tv,pv]/\bx=[]/\G=[lF QQ lv n bm B,lF Qu tv t.length tm (tl t),lF tlS pv P.length pm (pl P)]
def pl_rep{K:Nat}:pl (List.replicate K [])=λ_=>[]:=funext λj=>by
 simp only[pl,List.getD_eq_getElem?_getD,List.getElem?_replicate];split<;>rfl
def V8{k q:Nat}{t:Tc}{ps:List (List Tc)}:(pl (Fx.Yp k t ps) q).length<=(pl ps q).length+1:=by
 unfold Fx.Yp;by_cases h:k<ps.length
 .rw[<-pl_set h];by_cases e:q=k
  .subst e;rw[QF,List.length_append];exact ai _
  .rw[Qt e];omega
 .rw[List.set_eq_of_length_le qo];omega
def FH{n K:Nat}{T:Nat->Tc}{deal:nd}:∀i,(Fx.dealS n K T deal i).1.length<=i/\∀q,(pl (Fx.dealS n K T deal i).2 q).length<=2*i
 |0=>⟨ai _,λq=>by show(pl (List.replicate K []) q).length<=0;rw[pl_rep];exact ai _⟩
 |i+1=>by
  obtain⟨h1,h2⟩:=FH (n:=n) (K:=K) (T:=T) (deal:=deal) i;unfold Fx.dealS;split
  .simp only
   split<;>split<;>(refine⟨?_,λq=>?_⟩)<;>simp only[List.length_append,bt] <;>
    first
    |omega
    |(have a1:=h2 q;omega)
    |(have a1:=h2 q;have a2:=@V8 (atP deal (2*(i:Int)+3) (K:Int)).toNat q (Fx.Zl (T i)) (Fx.dealS n K T deal i).2;omega)
    |(have a1:=h2 q;have a2:=@V8 (atP deal (2*(i:Int)+1) ((K:Int)+1)).toNat q (T i) (Fx.dealS n K T deal i).2;omega)
    |(have a1:=h2 q;have a2:=@V8 (atP deal (2*(i:Int)+1) ((K:Int)+1)).toNat q (T i) (Fx.dealS n K T deal i).2;have a3:=@V8 (atP deal (2*(i:Int)+3) (K:Int)).toNat q (Fx.Zl (T i)) (Fx.Yp (atP deal (2*(i:Int)+1) ((K:Int)+1)).toNat (T i) (Fx.dealS n K T deal i).2);omega)
  .exact⟨by omega,λq=>by have:=h2 q;omega⟩
def has_tls{F:nc}{K:Nat}{w:ng}{m:Nat->Nat->ToM}{L:Nat->List Tc}(h:W.Has F (Gw K λq=>lF Qu (w q) (L q).length (m q) (tl (L q)))):W.Has F (lM tlS K (λq=>(w q,m q)) L):=λp hf=>h p hf
def WL.cell{P:nh}{n:Nat}{L rest:List Oper}{e:Env}{bx:nw}{F:nc}{Q:Env->nw->nc->Prop}{g t:Nat}{cs cs':ne}(hc:cs'=cs)(h:WL P n L rest e (Ow.cells g t cs'::bx) F Q):WL P n L rest e (Ow.cells g t cs::bx) F Q:=hc ▸ h
def has_takeB{F:nc}{v:nA}{n k:Nat}{ms:Nat->BM}{xs:Nat->Bd}(h:W.Has F (lF QQ v n ms xs))(hk:k<=n):W.Has F (lF QQ (resl v 0 k 20) k ms xs):=W.Has.takeL (S:=QQ) h hk
section
variable {e:Env}{bx:nw}{F:nc}{ty:nl}{x:ni}{K:Qd}
def LO.mkP{n:Nat}(hx:ev e x=some (nj n))(hn:n<=1000)(h:∀v,K v (Ow.slice v 32 1 (JQ n λ_=>nz)::bx) F):LO prog (.makeSlice 33 x x) ty e bx F K:=
 LO.make T.e33 hx hx qo qo (by
  refine Js (by simp[madeCells]) λj hj=>?_;simp[madeCells,hj,dI,Value.cells]) h
end
section
attribute [local irreducible] WC WL WD YO LO Qq W.Fin Qk Qh Qj Row QZ Qv KnS Has W.One Qo QX
namespace K
namespace Q
namespace Y
def d15{G G':Prop}(h:G')(s:Bx G'->G:=by
 intro h;first|refine gE ?_|refine goLY ?_|refine goYB ?_|refine Vp ?_|refine Zt ?_|(apply WC.draw (id:=4) [0,1,2,4,5] (.h 0<|.h 1<|.h 2<|.m 3 (.h 4<|.h 5<|.m 6 (.m 7 (.l 8<|.l 9 .done) (.l 8<|.l 7<|.l 9 .done)) (.l 8<|.l 6<|.l 7<|.l 9 .done)) (.l 8<|.l 3<|.h 4<|.h 5<|.l 6<|.l 7<|.l 9 .done)) mixed kr)|(apply WC.draw (id:=16) [1,2,3,4,5,6,10,11,12,13,14,15,18] (.h 1<|.h 2<|.h 3<|.h 4<|.h 5<|.h 6<|.h 10<|.h 11<|.h 12<|.h 13<|.h 14<|.h 15<|.l 0<|.l 7<|.l 8<|.l 9<|.l 16<|.l 17<|.h 18<|.f 19<|.l 20 .done) mixed kr)|fail
 exact Bx.h h):G:=s ⟨h⟩
def d15r{G G':Prop}(h:G')(s:Bx G'->G:=by
 intro h;repeat'(first|intro(zQ:Nat)|refine d15 ?_|intro zQ)
 repeat revert zQ
 exact Bx.h h):G:=s ⟨h⟩

def some24_c(lv dv:nA)(l deal:nd)(hl:∀x∈l,I64 x)(hd:∀x∈deal,I64 x):FnB prog 15 [lv,dv] [] [sI lv l,sI dv deal] (IsCase (Fx.Xr l) (Bl.Q7 l).B (Fx.Yr l deal) (Fx.Xm l deal)):=by
 refine fO [(0,lv),(1,dv)] 129 Tryz.func15 Tryz.ntmps15 λh0=>?_;have hsn:=Bl.H4 l;have hfs:=Fs.ss (Bl.DF l) qd qd qd;have hN:Fx.Xr l=min 2 (Bl.Q7 l).n:=rfl;have hct:Fx.Yr l deal=(Fx.dealS (Fx.Xr l) (Fx.X0 deal) (Bl.Q7 l).T deal (Bl.Q7 l).m).1:=rfl;have hcp:Fx.Xm l deal=(Fx.dealS (Fx.Xr l) (Fx.X0 deal) (Bl.Q7 l).T deal (Bl.Q7 l).m).2:=rfl;rw[hct,hcp];have hc:=some_c lv l hl;generalize Bl.Q7 l=S at *;generalize Fx.Xr l=N at *;refine d15r ?_;intro g;revert g;intro g4;refine cW (hc) λM=>?_;refine d15r ?_;intro g;revert g;intro g5;refine WC.JK (σ:=nA) (λbv=>[(5,ptr g5),(4,ptr g4),(0,lv),(1,dv)]) (λbv=>[Ow.cells g5 53 [bv,M.t],Ow.cells g4 35 [.slice none 0 0,.slice none 0 0,.slice none 0 0]]) (λbv=>[lF QQ bv N M.B S.B,fSt M S,ge h0,sI dv deal]) (λ_=>True) ?_ ?_
 .refine WC.lp (σ:=Bool) (λ_=>[(5,ptr g5),(4,ptr g4),(0,lv),(1,dv)]) (λb=>[Ow.cells g5 53 [if b then M.l else resl M.l 0 2 20,M.t],Ow.cells g4 35 [.slice none 0 0,.slice none 0 0,.slice none 0 0]]) (λb=>[lF QQ (if b then M.l else resl M.l 0 2 20) (if b then S.n else 2) M.B S.B,fSl M S,fSt M S,ge h0,sI dv deal]) (λb=>b=false->2<S.n) (λb=>if b then 1 else 0) true (λh=>by cases h) ?_;rintro b hb;cases b with
  |true=>
   simp only[dc];by_cases c:2<S.n
   .refine d15r ?_;refine WL.y (YO.slice (a:=0) (b:=2) T.s31 rfl (KnS.lf (S:=QQ) (v:=M.l) (n:=S.n) (ms:=M.B) (xs:=S.B) hmA) (Or.inl ⟨rfl,rfl⟩) (Or.inr ⟨_,rfl,rfl⟩) qd qo) qr qr ?_;refine WL.QD (lF QQ (resl M.l 0 2 20) 2 M.B S.B) (has_takeB hmA qo) ?_;refine d15r ?_;exact Qq.mk false (λ_=>c) qd
   .refine d15r ?_;exact Qr M.l trivial (hG:=by rw[show N=S.n by omega];exact haA)
  |false=>
   have hb:=hb rfl;simp only[cM,dX];refine d15r ?_;exact Qr (resl M.l 0 2 20) trivial (hG:=by rw[show N=2 by omega];exact haA)
 rintro bv _;have hA0:=QP (l:=deal) (i:=0) (m:=5) qd;have hKp:=Fx.G7 deal;have hKe:1+atP deal 0 5/2=((Fx.X0 deal:Nat):Int):=by unfold Fx.X0;omega
 have c25:=Zr dv deal 0 5 hd qd;generalize atP deal 0 5=a0 at *;generalize Fx.X0 deal=K at *;refine WC.seq ?_;refine WC.YH (σ:=Nat×nA) (λst=>[(6,ptr st.1),(5,ptr g5),(4,ptr g4),(0,lv),(1,dv)]) (λst=>[Ow.slice st.2 32 1 (JQ K λ_=>.slice none 0 0),Ow.cells st.1 35 [bv,.slice none 0 0,st.2],Ow.cells g5 53 [bv,M.t],Ow.cells g4 35 [.slice none 0 0,.slice none 0 0,.slice none 0 0]]) (λ_=>[lF QQ bv N M.B S.B,fSt M S,ge h0,sI dv deal]) (λ_=>True) ?_ ?_
 .repeat'(first|intro(g:Nat)|refine d15 ?_|refine gN ?_ ?_|refine cU (c25) ?_|intro v)
  all_goals
   rw[hKe];first|refine LO.mkP rfl qo λav=>?_|refine WD.l rfl rfl rfl (LO.mkP rfl qo λav=>?_)
   refine⟨(by(first|exact wq1|(apply Or.inl;kernel_rfl))),?_⟩;repeat'(first|intro(g:Nat)|refine d15 ?_|refine gN ?_ ?_|intro v)
  all_goals
   first|refine WD.yl rfl (VS (v:=bv) (w:=av) rfl rfl (KnS.lf (S:=QQ) (v:=bv) hmA) (KnS.o1 meA)) qr qr ?_|refine LO.ofY (VS (v:=bv) (w:=av) rfl rfl (KnS.lf (S:=QQ) (v:=bv) hmA) (KnS.o1 meA)) ⟨(by(first|exact wq1|(apply Or.inl;kernel_rfl))),?_⟩
   repeat'(first|intro(g:Nat)|refine d15 ?_|refine gN ?_ ?_|intro v)
   (apply Ex2;refine⟨trivial,?_,?_,?_⟩;(focus(repeat(first|exact Sub.nil _|refine Sub.cons rfl ?_)));exact wq137;exact wq26)
 rintro⟨g6,pv⟩ _;simp only;refine WC.addPO K (λ_ _=>⟨(m00,m00),(m00,m00),(m00,m00),m00⟩) ?_;refine WC.QL 93 30 ?_;refine d15r ?_;refine WC.JK (σ:=nA×(Nat->ToM)×ng×(Nat->Nat->ToM)) (λst=>[(6,ptr g6),(4,ptr g4)]) (λst=>lO Qu st.1 93 ((Fx.dealS N K S.T deal S.m).1).length st.2.1 (tl ((Fx.dealS N K S.T deal S.m).1))::Ow.slice pv 32 1 (JQ K st.2.2.1)::Ow.cells g6 35 [bv,st.1,pv]::Ow.cells g5 53 [bv,M.t]::Ow.cells g4 35 [.slice none 0 0,.slice none 0 0,.slice none 0 0]::PO K st.2.2.1 st.2.2.2 (pl ((Fx.dealS N K S.T deal S.m).2))) (λst=>[lM Qu ((Fx.dealS N K S.T deal S.m).1).length st.2.1 (tl ((Fx.dealS N K S.T deal S.m).1)),PM K st.2.2.2 (pl ((Fx.dealS N K S.T deal S.m).2)),lF QQ bv N M.B S.B,fSt M S,ge h0,sI dv deal]) (λ_=>True) ?_ ?_
 .refine WC.lp (σ:=Nat×nA×(Nat->ToM)×ng×(Nat->Nat->ToM)) (λst=>[(7,.int .i64 (st.1:Int)),(6,ptr g6),(5,ptr g5),(4,ptr g4),(1,dv)]) (λst=>lO Qu st.2.1 93 ((Fx.dealS N K S.T deal st.1).1).length st.2.2.1 (tl ((Fx.dealS N K S.T deal st.1).1))::Ow.slice pv 32 1 (JQ K st.2.2.2.1)::Ow.cells g6 35 [bv,st.2.1,pv]::Ow.cells g5 53 [bv,M.t]::Ow.cells g4 35 [.slice none 0 0,.slice none 0 0,.slice none 0 0]::PO K st.2.2.2.1 st.2.2.2.2 (pl ((Fx.dealS N K S.T deal st.1).2))) (λst=>[lM Qu ((Fx.dealS N K S.T deal st.1).1).length st.2.2.1 (tl ((Fx.dealS N K S.T deal st.1).1)),PM K st.2.2.2.2 (pl ((Fx.dealS N K S.T deal st.1).2)),lF QQ bv N M.B S.B,fSt M S,ge h0,sI dv deal]) (λst=>st.1<=S.m) (λst=>S.m-st.1) (0,.slice none 0 0,λ_=>⟨(m00,m00),(m00,m00),(m00,m00),m00⟩,λ_=>.slice none 0 0,λ_ _=>⟨(m00,m00),(m00,m00),(m00,m00),m00⟩) (aj _) ?_ (hB:=?hB) (hG:=?hG)
  case hB=>
   simp only[show Fx.dealS N K S.T deal 0=([],List.replicate K []) from rfl,pl_rep];exact aI _
  case hG=>
   simp only[show Fx.dealS N K S.T deal 0=([],List.replicate K []) from rfl,pl_rep];exact .cons W.Has.Uy (.cons PM_nil haA)
  rintro⟨i,tv,tm,w,m⟩ hi;simp only at hi ⊢;by_cases d:i<S.m
  .have hT:=hfs.T i d;refine WC.fact (fT (M.T i) (S.T i)) (W.Has.lk (S:=Qu) (v:=M.t) (ms:=M.T) (xs:=S.T) hmA d) ?_;have hDl:(Fx.dealS N K S.T deal i).2.length=K:=Fx.KS i;obtain⟨hle1,hle2⟩:=FH (n:=N) (K:=K) (T:=S.T) (deal:=deal) i
   have hu:Fx.dealS N K S.T deal (i+1)=if(S.T i).a<(N:Int) then
     (let k:=(atP deal (2*(i:Int)+1) ((K:Int)+1)).toNat
      let p:=if k=K then((Fx.dealS N K S.T deal i).1++[S.T i],(Fx.dealS N K S.T deal i).2) else((Fx.dealS N K S.T deal i).1,Fx.Yp k (S.T i) (Fx.dealS N K S.T deal i).2)
      if i=0/\atP deal 2 3=0 then(p.1,Fx.Yp (atP deal (2*(i:Int)+3) (K:Int)).toNat (Fx.Zl (S.T i)) p.2) else p) else Fx.dealS N K S.T deal i:=rfl
   generalize Fx.dealS N K S.T deal i=D at *;by_cases ha:(S.T i).a<(N:Int)
   .rw[ah ha] at hu;have hk:=QP (l:=deal) (i:=2*(i:Int)+1) (m:=(K:Int)+1) qo;have c56:=Zr dv deal (2*(i:Int)+1) ((K:Int)+1) hd qo;obtain⟨k,hk1⟩:∃k:Nat,atP deal (2*(i:Int)+1) ((K:Int)+1)=(k:Int):=⟨(atP deal (2*(i:Int)+1) ((K:Int)+1)).toNat,by omega⟩
    rw[hk1] at hu hk c56;rw[show((k:Int)).toNat=k from rfl] at hu;refine d15r ?_;intro g;revert g;intro g8;refine cV (c56) ?_;refine WL.y (YO.assign rfl) qr qr ?_;refine WL.nil ?_;show WC _ _ _ _ _ _ _;obtain⟨p,hp⟩:∃p,(if k=K then(D.1++[S.T i],D.2) else(D.1,Fx.Yp k (S.T i) D.2))=p:=⟨_,rfl⟩
    dsimp only at hu;rw[hp] at hu
    have hpl2:p.2.length=K/\∀q,(pl p.2 q).length<=2*i+1:=by
     rw[<-hp];split
     .exact⟨hDl,λq=>by have:=hle2 q;simp only;omega⟩
     .exact⟨by simp only[Fx.Gr];exact hDl,λq=>by have:=hle2 q;have:=@V8 k q (S.T i) D.2;simp only;omega⟩
    refine WC.cut (σ:=nA×(Nat->ToM)×ng×(Nat->Nat->ToM)) (λst=>[(8,ptr g8),(7,.int .i64 (i:Int)),(6,ptr g6),(5,ptr g5),(4,ptr g4),(1,dv)]) (λst=>Ow.cells g8 93 (tcs (M.T i) (S.T i))::lO Qu st.1 93 (p.1).length st.2.1 (tl (p.1))::Ow.slice pv 32 1 (JQ K st.2.2.1)::Ow.cells g6 35 [bv,st.1,pv]::Ow.cells g5 53 [bv,M.t]::Ow.cells g4 35 [.slice none 0 0,.slice none 0 0,.slice none 0 0]::PO K st.2.2.1 st.2.2.2 (pl (p.2))) (λst=>[lM Qu (p.1).length st.2.1 (tl (p.1)),PM K st.2.2.2 (pl (p.2)),fT (M.T i) (S.T i),lF QQ bv N M.B S.B,fSt M S,ge h0,sI dv deal]) (λ_=>True) ?_ ?_
    .by_cases hkK:k=K
     .rw[ah hkK] at hp;subst hp;refine d15r ?_;intro v;revert v;intro v65;refine WL.l rfl rfl (LO.appT1 (L:=D.1) (tm:=tm) (t1:=M.T i) (tc:=S.T i) rfl rfl (.head _) hmA (λv'=>.tail (.tail .head)) qo λv66=>?_);refine d15r ?_;exact Qr (v66,Qy tm D.1.length (M.T i),w,m) trivial (hG:=.cons (Kj (S:=Qu) hmA hmA) haA)
     .rw[ae hkK] at hp;subst hp;have hkK':k<K:=qo;have hl2:=hle2 k;have hpl:pl (Fx.Yp k (S.T i) D.2)=Qy (pl D.2) k (pl D.2 k++[S.T i]):=(pl_set qo).symm;refine d15r ?_;refine WC.Hw (id:=13) [Ow.cells g8 93 (tcs (M.T i) (S.T i)),Ow.slice pv 32 1 (JQ K w),Ow.cells g6 35 [bv,tv,pv]] slA [0,1,2,3,4,5,6,7,8] (.h 0<|.h 1<|.h 2<|.h 3<|.h 4<|.h 5<|.h 6<|.h 7<|.h 8<|.l 9<|.l 10<|.l 11<|.l 12 .done) mixed kr ?_;refine d15r ?_;intro v;revert v;intro v77;refine WD.l rfl rfl rfl (LO.appT1 (L:=pl D.2 k) (tm:=m k) (t1:=M.T i) (tc:=S.T i) rfl rfl (.head _) hmA (λv'=>.tail (.tail (.tail (.tail (.tail (.tail (.tail (PO_sel K hkK')))))))) qo λv78=>?_);refine⟨(by(first|exact wq1|(apply Or.inl;kernel_rfl))),?_⟩;refine WD.yl rfl (YO.ix1 T.s33 rfl rfl (KnS.out meA) hkK') qr qr ?_;refine WD.l0 rfl rfl (LO.J2 (v:=pv) (j:=k) rfl rfl T.z32 (One.sl (KnS.lo (S:=Qu) (el:=93) (.tail _ (.tail _ (.tail _ (.tail _ (.tail _ (.tail _ (.tail _ (PO_mem hkK')))))))))) wq3 (by rw[Qg];exact hkK') (G5 hkK') ?_);refine⟨(by(first|exact wq1|(apply Or.inl;kernel_rfl))),?_⟩;refine d15r ?_;refine Qr (tv,tm,Qy w k v78,Qy m k (Qy (m k) (pl D.2 k).length (M.T i))) trivial (hB:=by simp only[hpl];exact slA) (hG:=.cons hmA (.cons ?_ haA));simp only[hpl];exact PM_upd hmA (Kj (S:=Qu) (PM_at hmA hkK') hmA)
    rintro⟨tv2,tm2,w2,m2⟩ _;simp only;by_cases hi0:i=0
    .have A2:=QP (l:=deal) (i:=2) (m:=3) qd;have c84:=Zr dv deal 2 3 hd qd;refine d15r ?_;refine cV (c84) ?_;by_cases h2:atP deal 2 3=0
     .rw[ah ⟨hi0,h2⟩] at hu;obtain⟨z1,z2,z3,z4⟩:=hT;have zh:Sq 1 (Rat.divInt 1 2):=(Fr.of (D:=2) (A:=1) qd qd).sq qd qd qd;refine WL.QD (fV (M.T i).p (S.T i).p) (W.Has.tp (tm:=M.T i) hmA) ?_;refine WL.QD (fV (M.T i).q (S.T i).q) (W.Has.tq (tm:=M.T i) hmA) ?_;refine WL.QD (isQ (qv (M.T i).p.1) (S.T i).p.x) (W.Has.vx (m:=(M.T i).p) hmA) ?_;refine WL.QD (isQ (qv (M.T i).p.2) (S.T i).p.y) (W.Has.vy (m:=(M.T i).p) hmA) ?_;refine WL.QD (isQ (qv (M.T i).q.1) (S.T i).q.x) (W.Has.vx (m:=(M.T i).q) hmA) ?_;refine WL.QD (isQ (qv (M.T i).q.2) (S.T i).q.y) (W.Has.vy (m:=(M.T i).q) hmA) ?_;refine d15r ?_;intro g;revert g;intro g10;refine cW (Zn.rof 1 2 qd qd) λn88=>?_;refine d15r ?_;refine cW (Zn.Kg (M.T i).p.1 (M.T i).q.1 (S.T i).p.x (S.T i).q.x (z1.1.sm qd) (z2.1.sm qd)) λn95=>?_;refine d15r ?_;refine cW (Zn.ZQ n88 n95 (Rat.divInt 1 2) ((S.T i).p.x+(S.T i).q.x) (zh.sm qd) ((z1.1.add z2.1).sm qd)) λn96=>?_;refine d15r ?_;refine cW (Zn.rof 1 2 qd qd) λn97=>?_;refine d15r ?_;refine cW (Zn.Kg (M.T i).p.2 (M.T i).q.2 (S.T i).p.y (S.T i).q.y (z1.2.sm qd) (z2.2.sm qd)) λn104=>?_;refine d15r ?_;refine cW (Zn.ZQ n97 n104 (Rat.divInt 1 2) ((S.T i).p.y+(S.T i).q.y) (zh.sm qd) ((z1.2.add z2.2).sm qd)) λn105=>?_;refine WD.fact (fV (n96,n105) (Fx.Zl (S.T i)).q) (W.Has.vof (m:=(n96,n105)) (a:=(Fx.Zl (S.T i)).q) hmA hmA) ?_;refine d15r ?_;obtain⟨tH,htH⟩:∃tH:ToM,(⟨(M.T i).p,(n96,n105),(M.T i).n,(M.T i).r⟩:ToM)=tH:=⟨_,rfl⟩
      obtain⟨tc,htc⟩:∃tc,Fx.Zl (S.T i)=tc:=⟨_,rfl⟩
      refine WL.QD (fT tH tc) (by rw[<-htH,<-htc];exact W.Has.tof (tm:=⟨(M.T i).p,(n96,n105),(M.T i).n,(M.T i).r⟩) (t:=Fx.Zl (S.T i)) hmA hmA (W.Has.tn (tm:=M.T i) (t:=S.T i) hmA) (W.Has.trr (tm:=M.T i) (t:=S.T i) hmA)) ?_;refine WL.cell (g:=g10) (t:=93) (cs':=tcs tH tc) (by rw[<-htH,<-htc];rfl) ?_;rw[htc] at hu;have hj:=QP (l:=deal) (i:=2*(i:Int)+3) (m:=(K:Int)) qo;have c115:=Zr dv deal (2*(i:Int)+3) (K:Int) hd qo;obtain⟨j,hj1⟩:∃j:Nat,atP deal (2*(i:Int)+3) (K:Int)=(j:Int):=⟨(atP deal (2*(i:Int)+3) (K:Int)).toNat,by omega⟩
      rw[hj1] at hu hj c115;rw[show((j:Int)).toNat=j from rfl] at hu;have hjK:j<K:=qo;have hlj:=hpl2.2 j;have hpl:pl (Fx.Yp j tc p.2)=Qy (pl p.2) j (pl p.2 j++[tc]):=(pl_set qo).symm;refine cV (c115) ?_;refine d15r ?_;refine WC.Hw (id:=18) [Ow.cells g10 93 (tcs tH tc),Ow.slice pv 32 1 (JQ K w2),Ow.cells g6 35 [bv,tv2,pv]] slA [0,1,2,3,4,5,6,7,8] (.h 0<|.h 1<|.h 2<|.h 3<|.h 4<|.h 5<|.h 6<|.h 7<|.h 8<|.l 9<|.l 10<|.l 11<|.l 12 .done) mixed kr ?_;refine d15r ?_;intro v;revert v;intro v125;refine WD.l rfl rfl rfl (LO.appT1 (L:=pl p.2 j) (tm:=m2 j) (t1:=tH) (tc:=tc) rfl rfl (.head _) hmA (λv'=>.tail (.tail (.tail (.tail (.tail (.tail (.tail (.tail (PO_sel K hjK))))))))) qo λv126=>?_);refine⟨(by(first|exact wq1|(apply Or.inl;kernel_rfl))),?_⟩;refine WD.yl rfl (YO.ix1 T.s33 rfl rfl (KnS.out meA) hjK) qr qr ?_;refine WD.l0 rfl rfl (LO.J2 (v:=pv) (j:=j) rfl rfl T.z32 (One.sl (KnS.lo (S:=Qu) (el:=93) (.tail _ (.tail _ (.tail _ (.tail _ (.tail _ (.tail _ (.tail _ (.tail _ (PO_mem hjK))))))))))) wq3 (by rw[Qg];exact hjK) (G5 hjK) ?_);refine⟨(by(first|exact wq1|(apply Or.inl;kernel_rfl))),?_⟩;refine d15r ?_;refine Qq.mk (i+1,tv2,tm2,Qy w2 j v126,Qy m2 j (Qy (m2 j) (pl p.2 j).length tH)) wq14 wq14 (hB:=by simp only[hu,hpl];exact .cons _ (.cons _ (.cons _ (aI _)))) (hG:=.cons (by simp only[hu];exact hmA) (.cons ?_ haA));simp only[hu,hpl];exact PM_upd hmA (Kj (S:=Qu) (PM_at hmA hjK) hmA)
     .rw[ae (λh=>h2 h.2)] at hu;refine d15r ?_;exact Qq.mk (i+1,tv2,tm2,w2,m2) wq14 wq14 (hB:=by simp only;rw[hu];exact bA _ _) (hG:=by simp only;rw[hu];exact haA)
    .rw[ae (λh=>hi0 h.1)] at hu;refine d15r ?_;exact Qq.mk (i+1,tv2,tm2,w2,m2) wq14 wq14 (hB:=by simp only;rw[hu];exact bA _ _) (hG:=by simp only;rw[hu];exact haA)
   .rw[ae ha] at hu;refine d15r ?_;intro g;exact Qq.mk (i+1,tv,tm,w,m) wq14 wq14 (hB:=by simp only;rw[hu];exact bA _ _) (hG:=by simp only;rw[hu];exact haA)
  .obtain rfl:i=S.m:=qo;refine d15r ?_;exact Qr (tv,tm,w,m) trivial
 rintro⟨tv,tm,w,m⟩ _;simp only;refine WC.QA (S:=Qu) (v:=tv) (n:=(Fx.dealS N K S.T deal S.m).1.length) (ms:=tm) (xs:=tl (Fx.dealS N K S.T deal S.m).1) (.head) hmA ?_;refine WC.freezeP (pre:=[Ow.slice (.slice none 0 0) 93 30 [],Ow.slice pv 32 1 (JQ K w),Ow.cells g6 35 [bv,tv,pv],Ow.cells g5 53 [bv,M.t],Ow.cells g4 35 [.slice none 0 0,.slice none 0 0,.slice none 0 0]]) hmA ?_;rw[outer_cells (w:=w) (m:=m) (L:=pl (Fx.dealS N K S.T deal S.m).2)];refine WC.QA (S:=tlS) (v:=pv) (n:=K) (ms:=λq=>(w q,m q)) (xs:=pl (Fx.dealS N K S.T deal S.m).2) (.tail .head) (has_tls hmA) ?_;have hlen:(Fx.dealS N K S.T deal S.m).2.length=K:=Fx.KS S.m;refine WC.fact (lF tlS pv (Fx.dealS N K S.T deal S.m).2.length (λq=>(w q,m q)) (pl (Fx.dealS N K S.T deal S.m).2)) (by rw[hlen];exact hmA) ?_;refine d15r ?_;refine WC.ret ?_;exact Fp [_,_,_] (rcV T.r35) (.cons hmA (.cons hmA (.cons hmA .nil))) ⟨bv,tv,pv,M.B,tm,λq=>(w q,m q),rfl,rfl,rfl⟩
end Y
end Q
end K
def Fg{l m:nd}(hl:l.length=m.length)(h:∀j,j<l.length->l.getD j 0=m.getD j 0):l=m:=by
 apply cE hl;intro i h1 h2;have:=h i h1;simpa [List.getD_eq_getElem?_getD,h1,h2] using this
def lex_at:∀(k:Nat) (a b:nd),a.length=b.length->(∀j,j<k->a.getD j 0=b.getD j 0)->k<a.length->a.getD k 0≠b.getD k 0->Fx.lexlt a b=decide (a.getD k 0<b.getD k 0)
 |_,[],_,_,_,h,_=>absurd h (bY _)
 |_,_::_,[],hl,_,_,_=>by simp at hl
 |0,x::a,y::b,_,_,_,hn=>by
  have hn:x≠y:=hn;unfold Fx.lexlt;rw[ae hn];rfl
 |k+1,x::a,y::b,hl,hj,hk,hn=>by
  have h0:x=y:=hj 0 (Nat.succ_pos _);unfold Fx.lexlt;rw[ah h0];exact lex_at k a b (by simpa using hl) (λj h=>hj (j+1) qo) (by simpa using hk) hn
def lex_same:∀a:nd,Fx.lexlt a a=false
 |[]=>rfl
 |x::a=>by unfold Fx.lexlt;rw[ah rfl];exact lex_same a
def num_le(b:Nat):∀n,(Fx.numbers b n).length<=n
 |0=>by simp[Fx.numbers]
 |n+1=>by
  have:=num_le b n;unfold Fx.numbers;rw[List.length_append];split<;>simp<;>omega
namespace K
namespace Q
namespace Y
def d13{G G':Prop}(h:G')(s:Bx G'->G:=by
 intro h;first|refine gF ?_|(apply WC.draw (id:=6) [0,1,2,3,4,5,6,7,8] (.h 0<|.h 1<|.h 2<|.h 3<|.h 4<|.h 5<|.h 6<|.h 7<|.h 8 .done) mixed kr)|fail
 exact Bx.h h):G:=s ⟨h⟩
def d13r{G G':Prop}(h:G')(s:Bx G'->G:=by
 intro h;repeat'(first|intro(zQ:Nat)|refine d13 ?_|intro zQ)
 repeat revert zQ
 exact Bx.h h):G:=s ⟨h⟩

def d34{G G':Prop}(h:G')(s:Bx G'->G:=by
 intro h;first|refine gF ?_|(apply WC.draw (id:=6) [0,1,2,3,4,5,6,7,8] (.h 0<|.h 1<|.h 2<|.h 3<|.h 4<|.h 5<|.h 6<|.h 7<|.h 8 .done) mixed kr)|(apply WC.draw (id:=7) [0,1,2,3,4,5,6,7,8,9] (.h 0<|.h 1<|.h 2<|.h 3<|.h 4<|.h 5<|.h 6<|.h 7<|.h 8<|.h 9 .done) mixed kr)|fail
 exact Bx.h h):G:=s ⟨h⟩
def d34r{G G':Prop}(h:G')(s:Bx G'->G:=by
 intro h;repeat'(first|intro(zQ:Nat)|refine d34 ?_|intro zQ)
 repeat revert zQ
 exact Bx.h h):G:=s ⟨h⟩

def YV(v u:nA)(l m:nd):FnB prog 13 [v,u] [] [sI v l,sI u m] (IsV (.bool (decide (l=m)))):=by
 refine fO [(0,v),(1,u)] 26 Tryz.func13 Tryz.ntmps13 λh0=>?_;refine WC.ZE v l hmA λhlen=>?_;by_cases hl:l.length=m.length
 .refine d13r ?_;refine WC.lp (σ:=Nat) (λk=>[(5,nj k),(0,v),(1,u)]) (λ_=>[]) (λ_=>[ge h0,sI v l,sI u m]) (λk=>k<=l.length/\∀j,j<k->l.getD j 0=m.getD j 0) (λk=>l.length-k) 0 ⟨aj _,λj h=>by omega⟩ ?_;rintro k ⟨hk,hn⟩;by_cases hlt:k<l.length
  .by_cases he:l.getD k 0=m.getD k 0
   .refine d13r ?_;refine Qq.mk (k+1) ⟨by omega,λj hj=>?_⟩ (by show l.length-(k+1)<l.length-k;omega);by_cases hjk:j=k
    .subst hjk;exact he
    .exact hn j qo
   .refine d13r ?_;exact WC.ret (Fin.v (Qf.t1 rfl rfl) meA (by rw[ak];rintro rfl;exact he rfl))
  .refine d13r ?_;exact WC.ret (Fin.v (Qf.t1 rfl rfl) meA (by rw[aq];exact Fg hl (λj hj=>hn j qo)))
 .have hl':(l.length:Int)≠m.length:=qo;refine d13r ?_;exact WC.ret (Fin.v (Qf.t1 rfl rfl) meA (by rw[ak];rintro rfl;exact hl rfl))
def before_c(v u:nA)(l m:nd):FnB prog 34 [v,u] [] [sI v l,sI u m] (IsV (.bool (Fx.before l m))):=by
 refine fO [(0,v),(1,u)] 40 Tryz.func34 Tryz.ntmps34 λh0=>?_;refine WC.ZE v l hmA λhlen=>?_;by_cases hl:l.length=m.length
 .have hb:Fx.before l m=Fx.lexlt l m:=ah hl;rw[hb];refine d34r ?_;refine WC.lp (σ:=Nat) (λk=>[(5,nj k),(0,v),(1,u)]) (λ_=>[]) (λ_=>[ge h0,sI v l,sI u m]) (λk=>k<=l.length/\∀j,j<k->l.getD j 0=m.getD j 0) (λk=>l.length-k) 0 ⟨aj _,λj h=>by omega⟩ ?_;rintro k ⟨hk,hn⟩;by_cases hlt:k<l.length
  .by_cases he:l.getD k 0=m.getD k 0
   .refine d34r ?_;refine Qq.mk (k+1) ⟨by omega,λj hj=>?_⟩ (by show l.length-(k+1)<l.length-k;omega);by_cases hjk:j=k
    .subst hjk;exact he
    .exact hn j qo
   .have hx:=lex_at k l m hl hn hlt he;by_cases hq:l.getD k 0<m.getD k 0
    .refine d34r ?_;exact WC.ret (Fin.v (Qf.t1 rfl rfl) meA (by rw[hx,aq hq]))
    .refine d34r ?_;exact WC.ret (Fin.v (Qf.t1 rfl rfl) meA (by rw[hx,ak hq]))
  .obtain rfl:=Fg hl (λj hj=>hn j qo);refine d34r ?_;exact WC.ret (Fin.v (Qf.t1 rfl rfl) meA (by rw[lex_same]))
 .have hb:Fx.before l m=decide (l.length<m.length):=ae hl;rw[hb];by_cases hq:l.length<m.length
  .refine d34r ?_;exact WC.ret (Fin.v (Qf.t1 rfl rfl) meA (by rw[aq hq]))
  .refine d34r ?_;exact WC.ret (Fin.v (Qf.t1 rfl rfl) meA (by rw[ak hq]))
def G4(b n:Nat)(hb:b<=256)(hn:n<=8):FnB prog 33 [.int .i64 (b:Int),.int .i64 (n:Int)] [] [] (IsO 3 1 (ints (Fx.numbers b n))):=by
 refine fO [(0,(.int .i64 (b:Int))),(1,(.int .i64 (n:Int)))] 23 Tryz.func33 Tryz.ntmps33 λh0=>?_;refine WC.QL 3 1 ?_;refine gPr ?_;refine WC.JK (σ:=nA) (λv=>[(5,v)]) (λv=>[Ow.slice v 3 1 (ints (Fx.numbers b n))]) (λ_=>[ge h0]) (λ_=>True) ?_ ?_
 .refine WC.lp (σ:=Nat×nA) (λst=>[(6,.int .i64 (st.1:Int)),(5,st.2),(0,.int .i64 (b:Int)),(1,.int .i64 (n:Int))]) (λst=>[Ow.slice st.2 3 1 (ints (Fx.numbers b st.1))]) (λ_=>[ge h0]) (λst=>st.1<=n) (λst=>n-st.1) (0,.slice none 0 0) (aj _) ?_;rintro⟨k,v⟩ hk;simp only at hk ⊢;have hnl:=num_le b k;by_cases d:k<n
  .have he:((b:Int)/2^((k:Int)).toNat)=((b/2^k:Nat):Int):=by simp
   have hu:Fx.numbers b (k+1)=Fx.numbers b k++if b/2^k%2=1 then[(k:Int)] else[]:=rfl;obtain⟨q,hq⟩:∃q,b/2^k=q:=⟨_,rfl⟩
   have hq2:q<=b:=by rw[<-hq];exact bR _ _
   rw[hq] at he hu;refine gPr ?_;rw[he];by_cases c:q%2=1
   .rw[ah c] at hu;refine gPr ?_;intro v v;refine Qq.mk (k+1,_) wq14 wq14 (hB:=?_);simp only;rw[hu,<-XS];exact slA
   .rw[ae c,aU] at hu;refine gPr ?_;refine Qq.mk (k+1,v) wq14 wq14 (hB:=?_);simp only;rw[hu];exact slA
  .obtain rfl:k=n:=qo;refine gPr ?_;exact Qr v trivial
 intro v _;refine gPr ?_;exact wq92
end Y
end Q
end K
end
def IsSetsF(C:List nd):Qd:=λv B G=>∃ms,B=[]/\G=[lF Qp v C.length ms (sl C)]
def HY(s:nd)(C:List nd):∀k,Fx.place s C k<=k
 |0=>ai _
 |k+1=>by
  have:=HY s C k;unfold Fx.place;split<;>omega
def insertS_len(C:List nd)(s:nd):(Fx.Xh C s).length=C.length+1:=by
 have:=HY s C C.length;unfold Fx.Xh;rw[List.length_append,ar,aK,dM];omega
def Fy(n:Nat)(most:Int):∀b,(Fx.Jg n most b).length<=b
 |0=>by simp[Fx.Jg]
 |b+1=>by
  have:=Fy n most b;unfold Fx.Jg;simp only;split
  .omega
  .rw[insertS_len];omega
section
variable {F:nc}{v:nA}{C:List nd}{ms:ng}{k:Nat}
def GL(h:W.Has F (lF Qp v C.length ms (sl C)))(hk:k<=C.length):W.Has F (lF Qp (resl v 0 k 1) (C.take k).length ms (sl (C.take k))):=λp hf=>by
 obtain⟨h1,h2⟩:=W.Has.takeL (S:=Qp) h hk p hf;rw[ar,aF hk];refine⟨Y7 h1 λj _=>row1.trans row1.symm,λq hq=>?_⟩;have h3:=h2 q hq;rw[sl,List.getD_eq_getElem?_getD,List.getElem?_take,ah hq,<-List.getD_eq_getElem?_getD];exact h3
def GC(h:W.Has F (lF Qp v C.length ms (sl C)))(hk:k<=C.length):W.Has F (lF Qp (resl v k C.length 1) (C.drop k).length (λq=>ms (k+q)) (sl (C.drop k))):=λp hf=>by
 obtain⟨h1,h2⟩:=h p hf;rw[dM];have h3:=ZR (lo:=k) h1 hk (ai _);refine⟨Y7 h3 λj _=>by rw[row1,row1,bP],λq hq=>?_⟩;have h4:=h2 (k+q) qo;rw[sl,List.getD_eq_getElem?_getD,List.getElem?_drop,<-List.getD_eq_getElem?_getD];exact h4
end
attribute [local irreducible] WC WL WD YO LO Qq W.Fin Qk Qh Qj Row QZ Qv KnS Has W.One Qo QX
namespace K
namespace Q
namespace Y
def d12{G G':Prop}(h:G')(s:Bx G'->G:=by
 intro h;first|refine gE ?_|refine Vp ?_|(apply WC.draw (id:=12) [1,2,3,5,8,9,10] (.h 1<|.h 2<|.h 3<|.h 5<|.h 8<|.h 9<|.h 10<|.m 0 (.m 4 (.l 6<|.l 7<|.l 11<|.f 12 .done) (.l 6<|.l 4<|.l 7<|.l 11<|.f 12 .done)) (.l 6<|.l 0<|.l 4<|.l 7<|.l 11<|.f 12 .done)) mixed kr)|fail
 exact Bx.h h):G:=s ⟨h⟩
def d12r{G G':Prop}(h:G')(s:Bx G'->G:=by
 intro h;repeat'(first|intro(zQ:Nat)|refine d12 ?_|intro zQ)
 repeat revert zQ
 exact Bx.h h):G:=s ⟨h⟩

def rsets_c(n most:Int)(hn:I64 n)(hm:I64 most):FnB prog 12 [.int .i64 n,.int .i64 most] [] [] (IsSetsF (Fx.Fw n most)):=by
 obtain⟨hn1,hn2⟩:=hn;obtain⟨hm1,hm2⟩:=hm;refine fO [(0,(.int .i64 n)),(1,(.int .i64 most))] 57 Tryz.func12 Tryz.ntmps12 λh0=>?_;by_cases h:n<0\/8<n
 .have hz:Fx.Fw n most=[]:=ah qo;rw[hz];rcases h with h|h
  .refine d12r ?_;exact wq76
  .refine d12r ?_;exact wq76
 obtain⟨N,rfl⟩:∃N:Nat,n=(N:Int):=⟨n.toNat,by omega⟩
 have hN:N<=8:=qo;have hz:Fx.Fw (N:Int) most=Fx.Jg N most (2^N):=ae qo;rw[hz];have h256:2^N<=2^8:=aA qd hN;generalize hQ:2^N=Q at *;refine WC.QL 28 1 ?_;refine d12r ?_;refine WC.JK (σ:=nA×ng) (λst=>[(5,st.1)]) (λst=>[lO Qp st.1 28 (Fx.Jg N most Q).length st.2 (sl (Fx.Jg N most Q))]) (λst=>[lM Qp (Fx.Jg N most Q).length st.2 (sl (Fx.Jg N most Q)),ge h0]) (λ_=>True) ?_ ?_
 .refine WC.lp (σ:=Nat×nA×ng) (λst=>[(6,.int .i64 (st.1:Int)),(5,st.2.1),(0,.int .i64 (N:Int)),(1,.int .i64 most)]) (λst=>[lO Qp st.2.1 28 (Fx.Jg N most st.1).length st.2.2 (sl (Fx.Jg N most st.1))]) (λst=>[lM Qp (Fx.Jg N most st.1).length st.2.2 (sl (Fx.Jg N most st.1)),ge h0]) (λst=>st.1<=Q) (λst=>Q-st.1) (0,.slice none 0 0,λ_=>.slice none 0 0) (aj _) ?_ (hG:=.cons W.Has.Uy haA);rintro⟨b,ov,om⟩ hb;simp only at hb ⊢;have hle:=Fy N most b;have hu:Fx.Jg N most (b+1)=if((Fx.numbers b N).length:Int) > most then Fx.Jg N most b else Fx.Xh (Fx.Jg N most b) (Fx.numbers b N):=rfl;generalize hC:Fx.Jg N most b=C at *;by_cases d:b<Q
  .refine d12r ?_;rw[hQ];refine d12r ?_;first|refine WL.callO (G4 b N qo hN) (λrv=>?_)|refine WD.callO (G4 b N qo hN) (λrv=>?_)
   have hnl:=num_le b N;generalize hs:Fx.numbers b N=s at *;refine WL.Q6 (v:=rv) (l:=s) wq3 ?_;by_cases c:(s.length:Int) > most
   .rw[ah c] at hu;refine d12r ?_;refine Qq.mk (b+1,ov,om) wq14 wq14 (hB:=by simp only;rw[hu];exact slA) (hG:=by simp only;rw[hu];exact haA)
   .rw[ae c] at hu;refine d12r ?_;refine WC.QA (S:=Qp) (v:=ov) (n:=C.length) (ms:=om) (xs:=sl C) wq3 hmA ?_;refine WC.JK (σ:=Nat) (λk=>[(8,.int .i64 (k:Int)),(7,rv),(6,.int .i64 (b:Int)),(5,ov),(0,.int .i64 (N:Int)),(1,.int .i64 most)]) (λ_=>[]) (λ_=>[lF Qp ov C.length om (sl C),sI rv s,ge h0]) (λk=>k=Fx.place s C C.length) ?_ ?_
    .refine WC.lp (σ:=Nat) (λk=>[(8,.int .i64 (k:Int)),(7,rv),(6,.int .i64 (b:Int)),(5,ov),(0,.int .i64 (N:Int)),(1,.int .i64 most)]) (λ_=>[]) (λ_=>[lF Qp ov C.length om (sl C),sI rv s,ge h0]) (λk=>k<=C.length/\Fx.place s C C.length=Fx.place s C k) (λk=>k) C.length ⟨ai _,rfl⟩ ?_;rintro k ⟨hk,hp⟩;cases k with
     |zero=>
      refine d12r ?_;exact Qr 0 hp.symm
     |succ j=>
      have hj:(((j+1:Nat):Int)-1).toNat=j:=qo;have hpl:Fx.place s C (j+1)=if Fx.before s (C.getD j []) then Fx.place s C j else j+1:=rfl;refine WC.fact (sI (om j) (sl C j)) (W.Has.lk (S:=Qp) (v:=ov) (ms:=om) (xs:=sl C) hmA qo) ?_;refine d12r ?_;rw[hj];refine cV (before_c rv (om j) s (sl C j)) ?_;cases hq:Fx.before s (sl C j) with
      |true=>
       rw[ah hq] at hpl;refine d12r ?_;rw[show(((j+1:Nat):Int)-1)=(j:Int) by omega];exact Qq.mk j ⟨by omega,hp.trans hpl⟩ qo
      |false=>
       rw[ae (by show ¬Fx.before s (sl C j)=true;rw[hq];decide)] at hpl;refine d12r ?_;exact Qr (j+1) (hp.trans hpl).symm
    rintro k hk;have hkl:k<=C.length:=hk ▸ HY s C C.length;refine WC.fact (lF Qp (resl ov 0 k 1) (C.take k).length om (sl (C.take k))) (GL hmA hkl) ?_;refine WC.fact (lF Qp (resl ov k C.length 1) (C.drop k).length (λq=>om (k+q)) (sl (C.drop k))) (GC (v:=ov) (ms:=om) hmA hkl) ?_;have hl1:(C.take k).length<=300:=by rw[ar];omega
    have hl2:(C.drop k).length<=300:=by rw[dM];omega
    have hl3:(C.take k++[s]).length<=301:=by rw[List.length_append,bt];omega
    have hins:C.take k++[s]++C.drop k=Fx.Xh C s:=by rw[hk];unfold Fx.Xh;rw[List.append_assoc];rfl
    have hlm:∀F,W.Has F (lF Qp ov C.length om (sl C))->W.Has F (sI rv s)->W.Has F (lM Qp (C.take k++[s]++C.drop k).length (Zs (C.take k++[s]).length (Qy om (C.take k).length rv) (λq=>om (k+q))) (sl (C.take k++[s]++C.drop k))):=λF h1 h2=>
     lM_cat (S:=Qp) (Kj (S:=Qp) (GL h1 hkl).lm h2) (GC h1 hkl).lm
    repeat'(first|intro(g:Nat)|refine d12 ?_|refine gN ?_ ?_|intro v)
    all_goals
     rw[hins];refine Qq.mk (b+1,_,Zs (C.take k++[s]).length (Qy om (C.take k).length rv) (λq=>om (k+q))) wq14 wq14 (hB:=by simp only;rw[hu];exact slA) (hG:=.cons (by simp only;rw[hu,<-hins];exact hlm _ hmA hmA) haA)
  .obtain rfl:b=Q:=qo;refine d12r ?_;rw[hQ];refine d12r ?_;rw[hC];exact Qr (ov,om) trivial
 rintro⟨ov,om⟩ _;simp only;refine WC.QA (S:=Qp) (v:=ov) (n:=(Fx.Jg N most Q).length) (ms:=om) (xs:=sl (Fx.Jg N most Q)) wq3 hmA ?_;refine d12r ?_;exact wq125
end Y
end Q
end K
def XL(t:List Tc)(P:List (List Tc))(C:List nd)(i:Nat):List nd:=(C.take i).filter λs=>decide ((Fx.Ql t P s).length<=10)
def candF_snoc{t:List Tc}{P:List (List Tc)}{C:List nd}{i:Nat}(h:i<C.length):XL t P C (i+1)=XL t P C i++if(Fx.Ql t P (sl C i)).length<=10 then[sl C i] else[]:=by
 unfold XL;rw[Zg h,dx]
 congr 1
 by_cases c:(Fx.Ql t P (sl C i)).length<=10
 .rw[ah c,dN,aq c];rfl
 .rw[ae c,dN,ak c];rfl
def candF_le{t:List Tc}{P:List (List Tc)}{C:List nd}{i:Nat}:(XL t P C i).length<=i:=by
 unfold XL;have h1:=bL (λs=>decide ((Fx.Ql t P s).length<=10)) (C.take i);rw[ar] at h1;omega
namespace K
namespace Q
namespace Y
section
variable (tv pv:nA)(t:List Tc)(P:List (List Tc))(tm:Nat->ToM)(pm:Nat->nA×(Nat->ToM))
def Z0(sv:nA)(s:nd)(ht:t.length<=100)(hP:∀p∈P,p.length<=100)(hs:s.length<=10)(hr:∀x∈s,0<=x/\x<(P.length:Int))(hPl:P.length<=1000) :
  FnB prog 26 [tv,pv,sv] [] [lF Qu tv t.length tm (tl t),lF tlS pv P.length pm (pl P),sI sv s] (IsTl (Fx.Ql t P s)):=by
 refine fO [(0,tv),(1,pv),(2,sv)] 28 Tryz.func26 Tryz.ntmps26 λh0=>?_;refine WC.ZE sv s hmA λhlen=>?_;refine gPr ?_;intro v v;have e0:Fx.Ql t P (s.take 0)=t:=by simp[Fx.Ql]
 revert v;intro v11;refine WC.JK (σ:=nA×(Nat->ToM)) (λst=>[(7,st.1)]) (λst=>[lO Qu st.1 93 (Fx.Ql t P s).length st.2 (tl (Fx.Ql t P s))]) (λst=>[lM Qu (Fx.Ql t P s).length st.2 (tl (Fx.Ql t P s)),ge h0]) (λ_=>True) ?_ ?_
 .refine WC.lp (σ:=Nat×nA×(Nat->ToM)) (λst=>[(8,.int .i64 (st.1:Int)),(7,st.2.1),(0,tv),(1,pv),(2,sv)]) (λst=>[lO Qu st.2.1 93 (Fx.Ql t P (s.take st.1)).length st.2.2 (tl (Fx.Ql t P (s.take st.1)))]) (λst=>[lM Qu (Fx.Ql t P (s.take st.1)).length st.2.2 (tl (Fx.Ql t P (s.take st.1))),ge h0,lF tlS pv P.length pm (pl P),sI sv s]) (λst=>st.1<=s.length) (λst=>s.length-st.1) (0,v11,tm) (aj _) ?_ (hB:=by simp only[e0];exact slA) (hG:=by simp only[e0];exact .cons (W.Has.lm (v:=tv) hmA) haA);rintro⟨i,v,ms⟩ hi;simp only at hi ⊢;by_cases d:i<s.length
  .have hk:=hr _ (Fx.Uw d);have hkn:(s.getD i 0).toNat<P.length:=qo;have htk:(s.take i).length<=10:=by rw[ar];omega
   have hl:=Zf ht hP (s.take i)
   have hp:(pl P (s.getD i 0).toNat).length<=100:=hP _ (by
    show P.getD _ []∈P;rw[List.getD_eq_getElem?_getD,List.getElem?_eq_getElem hkn];exact cD hkn)
   refine WC.fact (lF Qu (pm (s.getD i 0).toNat).1 (pl P (s.getD i 0).toNat).length (pm (s.getD i 0).toNat).2 (tl (pl P (s.getD i 0).toNat))) (W.Has.lk (S:=tlS) (v:=pv) (ms:=pm) (xs:=pl P) hmA hkn) ?_;refine gPr ?_;intro v;rw[Ya d];refine Qq.mk (i+1,_,Zs (Fx.Ql t P (s.take i)).length ms (pm (s.getD i 0).toNat).2) wq14 wq14 (hG:=.cons ?_ haA);simp only;rw[<-Ya d];exact lM_cat (S:=Qu) hmA (W.Has.lm (v:=(pm (s.getD i 0).toNat).1) hmA)
  .obtain rfl:i=s.length:=qo;refine gPr ?_;rw[aQ];exact Qr (v,ms) trivial
 rintro⟨v,ms⟩ _;simp only;refine WC.QA (S:=Qu) (v:=v) (n:=(Fx.Ql t P s).length) (ms:=ms) (xs:=tl (Fx.Ql t P s)) wq3 hmA ?_;refine gPr ?_;exact wq124
def Dl(most:Int)(hm:I64 most)(ht:t.length<=10)(hP8:P.length<=8)(hP:∀p∈P,p.length<=100) :
  FnB prog 24 [tv,pv,nj most] [] [lF Qu tv t.length tm (tl t),lF tlS pv P.length pm (pl P)] (IsSetsF (Fx.Qa t P most)):=by
 refine fO [(0,tv),(1,pv),(2,(nj most))] 37 Tryz.func24 Tryz.ntmps24 λh0=>?_;refine WC.QL 28 1 ?_;refine gPr ?_;have hrs:=rsets_c (P.length:Int) most ⟨by omega,by omega⟩ hm;rw[Fx.Ff] at hrs;refine cK (hrs) ?_;rintro v7 _ _ ⟨sm,rfl,rfl⟩;refine sNn ?_;have hle:=Fx.YL (P.length:Int) most;have hall:∀i,i<(Fx.Jm (P.length:Int) most).length->(sl (Fx.Jm (P.length:Int) most) i).length<=8/\∀x∈sl (Fx.Jm (P.length:Int) most) i,0<=x/\x<(P.length:Int):=λi hi=>set_ok hP8 (Yu hi);have hfin:Fx.Qa t P most=XL t P (Fx.Jm (P.length:Int) most) (Fx.Jm (P.length:Int) most).length:=by unfold XL;rw[aQ];rfl
 rw[hfin];generalize Fx.Jm (P.length:Int) most=C at *;refine gPr ?_;refine WC.JK (σ:=nA×ng) (λst=>[(8,st.1)]) (λst=>[lO Qp st.1 28 (XL t P C C.length).length st.2 (sl (XL t P C C.length))]) (λst=>[lM Qp (XL t P C C.length).length st.2 (sl (XL t P C C.length)),ge h0]) (λ_=>True) ?_ ?_
 .refine WC.lp (σ:=Nat×nA×ng) (λst=>[(9,nj (st.1:Int)),(8,st.2.1),(7,v7),(0,tv),(1,pv)]) (λst=>[lO Qp st.2.1 28 (XL t P C st.1).length st.2.2 (sl (XL t P C st.1))]) (λst=>[lM Qp (XL t P C st.1).length st.2.2 (sl (XL t P C st.1)),ge h0,lF Qu tv t.length tm (tl t),lF tlS pv P.length pm (pl P),lF Qp v7 C.length sm (sl C)]) (λst=>st.1<=C.length) (λst=>C.length-st.1) (0,nz,λ_=>nz) (aj _) ?_ (hG:=.cons W.Has.Uy haA);rintro⟨i,ov,om⟩ hi;simp only at hi ⊢;have hcl:=@candF_le t P C i;by_cases d:i<C.length
  .obtain⟨hs8,hsr⟩:=hall i d;have hu:=candF_snoc (t:=t) (P:=P) d;have hl:=Zf (t:=t) (P:=P) qo hP (sl C i);refine WC.fact (sI (sm i) (sl C i)) (W.Has.lk (S:=Qp) (v:=v7) (ms:=sm) (xs:=sl C) hmA d) ?_;refine gPr ?_;refine cK (Z0 tv pv t P tm pm (sm i) (sl C i) qo hP qo hsr qo) ?_;rintro v26 _ _ ⟨tm2,rfl,rfl⟩;refine sNn ?_;by_cases c:(Fx.Ql t P (sl C i)).length<=10
   .rw[ah c] at hu;refine gPr ?_;intro v v;refine Qq.mk (i+1,_,Qy om (XL t P C i).length (sm i)) wq14 wq14 (hB:=by simp only;rw[hu];exact slA) (hG:=.cons (by simp only;rw[hu];exact Kj (S:=Qp) hmA hmA) haA)
   .rw[ae c,aU] at hu;refine gPr ?_;refine Qq.mk (i+1,ov,om) wq14 wq14 (hB:=by simp only;rw[hu];exact slA) (hG:=.cons (by simp only;rw[hu];exact hmA) haA)
  .obtain rfl:i=C.length:=qo;refine gPr ?_;exact Qr (ov,om) trivial
 rintro⟨ov,om⟩ _;simp only;refine WC.QA (S:=Qp) (v:=ov) (n:=(XL t P C C.length).length) (ms:=om) (xs:=sl (XL t P C C.length)) wq3 hmA ?_;refine gPr ?_;exact wq125
end
end Y
end Q
end K
end Go.Proofs.YtbnobghgnbockaaGreat
