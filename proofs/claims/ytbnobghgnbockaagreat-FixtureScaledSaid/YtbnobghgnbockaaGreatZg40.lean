/- Lemmas for a law. Conditions: none. -/
import Derived.Test.YtbnobghgnbockaaGreatZg39
set_option linter.all false
set_option maxHeartbeats 32000000
set_option maxRecDepth 100000
namespace Go.Proofs.YtbnobghgnbockaaGreat
open W Go.RowKit
open Bl (Vc Bd Tc Sc)
def IsCase(n:Nat)(B:Nat->Bd)(t:List Tc)(P:List (List Tc)):Qf:=λv bx G=>∃(lv tv pv:Value) (bm:Nat->BM) (tm:Nat->ToM) (pm:Nat->Value×(Nat->ToM)),v=.agg #[lv,tv,pv]/\bx=[]/\G=[lF Qo lv n bm B,lF Qz tv t.length tm (tl t),lF tlS pv P.length pm (pl P)]
def pl_rep{K:Nat}:pl (List.replicate K [])=λ_=>[]:=funext λj=>by
 simp only[pl,List.getD_eq_getElem?_getD,List.getElem?_replicate];split<;>rfl
def VO{k q:Nat}{t:Tc}{ps:List (List Tc)}:(pl (Fx.YN k t ps) q).length<=(pl ps q).length+1:=by
 unfold Fx.YN;by_cases h:k<ps.length
 .rw[<-pl_set h];by_cases e:q=k
  .subst e;rw[QU,List.length_append];exact Nat.le_refl _
  .rw[upd_ne e];omega
 .rw[List.set_eq_of_length_le qo];omega
def Fw{n K:Nat}{T:Nat->Tc}{deal:List Int}:∀i,(Fx.dealS n K T deal i).1.length<=i/\∀q,(pl (Fx.dealS n K T deal i).2 q).length<=2*i
 |0=>⟨Nat.le_refl _,λq=>by show(pl (List.replicate K []) q).length<=0;rw[pl_rep];exact Nat.le_refl _⟩
 |i+1=>by
  obtain⟨h1,h2⟩:=Fw (n:=n) (K:=K) (T:=T) (deal:=deal) i;unfold Fx.dealS;split
  .simp only
   split<;>split<;>(refine⟨?_,λq=>?_⟩)<;>simp only[List.length_append,List.length_singleton] <;>
    first
    |omega
    |(have a1:=h2 q;omega)
    |(have a1:=h2 q;have a2:=@VO (atP deal (2*(i:Int)+3) (K:Int)).toNat q (Fx.Zp (T i)) (Fx.dealS n K T deal i).2;omega)
    |(have a1:=h2 q;have a2:=@VO (atP deal (2*(i:Int)+1) ((K:Int)+1)).toNat q (T i) (Fx.dealS n K T deal i).2;omega)
    |(have a1:=h2 q;have a2:=@VO (atP deal (2*(i:Int)+1) ((K:Int)+1)).toNat q (T i) (Fx.dealS n K T deal i).2;have a3:=@VO (atP deal (2*(i:Int)+3) (K:Int)).toNat q (Fx.Zp (T i)) (Fx.YN (atP deal (2*(i:Int)+1) ((K:Int)+1)).toNat (T i) (Fx.dealS n K T deal i).2);omega)
  .exact⟨by omega,λq=>by have:=h2 q;omega⟩
def has_tls{F:List Fct}{K:Nat}{w:Nat->Value}{m:Nat->Nat->ToM}{L:Nat->List Tc}(h:W.Has F (H3 K λq=>lF Qz (w q) (L q).length (m q) (tl (L q)))):W.Has F (lM tlS K (λq=>(w q,m q)) L):=λp hf=>h p hf
def WL.cell{P:Program}{n:Nat}{L rest:List Oper}{e:Env}{bx:List Ow}{F:List Fct}{Q:Env->List Ow->List Fct->Prop}{g t:Nat}{cs cs':List Value}(hc:cs'=cs)(h:WL P n L rest e (Ow.cells g t cs'::bx) F Q):WL P n L rest e (Ow.cells g t cs::bx) F Q:=hc ▸ h
def has_takeB{F:List Fct}{v:Value}{n k:Nat}{ms:Nat->BM}{xs:Nat->Bd}(h:W.Has F (lF Qo v n ms xs))(hk:k<=n):W.Has F (lF Qo (resl v 0 k 20) k ms xs):=W.Has.takeL (S:=Qo) h hk
section
variable {e:Env}{bx:List Ow}{F:List Fct}{ty:TypeId}{x:Operand}{K:Qf}
def LO.mkP{n:Nat}(hx:ev e x=some (.int .i64 (n:Int)))(hn:n<=1000)(h:∀v,K v (Ow.slice v 32 1 (Jh n λ_=>.slice none 0 0)::bx) F):LO Tryz.prog (.makeSlice 33 x x) ty e bx F K:=
 LO.make T.e33 hx hx qo qo (by
  refine Jv (by simp[madeCells]) λj hj=>?_;simp[madeCells,hj,Nat.mod_one,Value.cells]) h
end
namespace K
namespace Q
namespace Y
attribute [local irreducible] WC WL WD YO LO Qq W.Fin Qv Qh Qj Row QV Qy KnS Has W.One Qp QJ
def d15{G G':Prop}(h:G')(s:Bx G'->G:=by
 intro h;first|refine gE ?_|refine goLY ?_|refine goYB ?_|refine Vh ?_|refine Z2 ?_|(apply WC.draw (id:=4) [0,1,2,4,5] (.h 0<|.h 1<|.h 2<|.m 3 (.h 4<|.h 5<|.m 6 (.m 7 (.l 8<|.l 9 .done) (.l 8<|.l 7<|.l 9 .done)) (.l 8<|.l 6<|.l 7<|.l 9 .done)) (.l 8<|.l 3<|.h 4<|.h 5<|.l 6<|.l 7<|.l 9 .done)) mixed kr)|(apply WC.draw (id:=16) [1,2,3,4,5,6,10,11,12,13,14,15,18] (.h 1<|.h 2<|.h 3<|.h 4<|.h 5<|.h 6<|.h 10<|.h 11<|.h 12<|.h 13<|.h 14<|.h 15<|.l 0<|.l 7<|.l 8<|.l 9<|.l 16<|.l 17<|.h 18<|.f 19<|.l 20 .done) mixed kr)|fail
 exact Bx.h h):G:=s ⟨h⟩
def HE(lv dv:Value)(l deal:List Int)(hl:∀x∈l,I64 x)(hd:∀x∈deal,I64 x):FnB Tryz.prog 15 [lv,dv] [] [sI lv l,sI dv deal] (IsCase (Fx.Jn l) (Bl.QL l).B (Fx.JP l deal) (Fx.Jo l deal)):=by
 refine fO [(0,lv),(1,dv)] 129 Tryz.func15 Tryz.ntmps15 λh0=>?_;have hsn:=Bl.Dd l;have hfs:=Fs.ss (Bl.Ua l) qd qd qd;have hN:Fx.Jn l=min 2 (Bl.QL l).n:=rfl;have hct:Fx.JP l deal=(Fx.dealS (Fx.Jn l) (Fx.Yj deal) (Bl.QL l).T deal (Bl.QL l).m).1:=rfl;have hcp:Fx.Jo l deal=(Fx.dealS (Fx.Jn l) (Fx.Yj deal) (Bl.QL l).T deal (Bl.QL l).m).2:=rfl;rw[hct,hcp];have hc:=some_c lv l hl;generalize Bl.QL l=S at *;generalize Fx.Jn l=N at *;repeat'(first|intro(g:Nat)|refine d15 ?_|refine gN ?_ ?_|intro v)
 revert g;intro g4;refine cW (hc) λM=>?_;repeat'(first|intro(g:Nat)|refine d15 ?_|refine gN ?_ ?_|intro v)
 revert g;intro g5;refine WC.JS (σ:=Value) (λbv=>[(5,ptr g5),(4,ptr g4),(0,lv),(1,dv)]) (λbv=>[Ow.cells g5 53 [bv,M.t],Ow.cells g4 35 [.slice none 0 0,.slice none 0 0,.slice none 0 0]]) (λbv=>[lF Qo bv N M.B S.B,fSt M S,ge h0,sI dv deal]) (λ_=>True) ?_ ?_
 .refine WC.lp (σ:=Bool) (λ_=>[(5,ptr g5),(4,ptr g4),(0,lv),(1,dv)]) (λb=>[Ow.cells g5 53 [if b then M.l else resl M.l 0 2 20,M.t],Ow.cells g4 35 [.slice none 0 0,.slice none 0 0,.slice none 0 0]]) (λb=>[lF Qo (if b then M.l else resl M.l 0 2 20) (if b then S.n else 2) M.B S.B,fSl M S,fSt M S,ge h0,sI dv deal]) (λb=>b=false->2<S.n) (λb=>if b then 1 else 0) true (λh=>by cases h) ?_;rintro b hb;cases b with
  |true=>
   simp only[if_true];by_cases c:2<S.n
   .repeat'(first|intro(g:Nat)|refine d15 ?_|refine gN ?_ ?_|intro v)
    refine WL.y (YO.slice (a:=0) (b:=2) T.s31 rfl (KnS.lf (S:=Qo) (v:=M.l) (n:=S.n) (ms:=M.B) (xs:=S.B) hmA) (Or.inl ⟨rfl,rfl⟩) (Or.inr ⟨_,rfl,rfl⟩) qd qo) qr qr ?_;refine WL.QE (lF Qo (resl M.l 0 2 20) 2 M.B S.B) (has_takeB hmA qo) ?_;repeat'(first|intro(g:Nat)|refine d15 ?_|refine gN ?_ ?_|intro v)
    exact Qq.mk false (λ_=>c) qd
   .repeat'(first|intro(g:Nat)|refine d15 ?_|refine gN ?_ ?_|intro v)
    exact Qs M.l trivial (hG:=by rw[show N=S.n by omega];exact haA)
  |false=>
   have hb:=hb rfl;simp only[Bool.false_eq_true,if_false];repeat'(first|intro(g:Nat)|refine d15 ?_|refine gN ?_ ?_|intro v)
   exact Qs (resl M.l 0 2 20) trivial (hG:=by rw[show N=2 by omega];exact haA)
 rintro bv _;have hA0:=QC (l:=deal) (i:=0) (m:=5) qd;have hKp:=Fx.GC deal;have hKe:1+atP deal 0 5/2=((Fx.Yj deal:Nat):Int):=by unfold Fx.Yj;omega
 have c25:=Zd dv deal 0 5 hd qd;generalize atP deal 0 5=a0 at *;generalize Fx.Yj deal=K at *;refine WC.seq ?_;refine WC.Y4 (σ:=Nat×Value) (λst=>[(6,ptr st.1),(5,ptr g5),(4,ptr g4),(0,lv),(1,dv)]) (λst=>[Ow.slice st.2 32 1 (Jh K λ_=>.slice none 0 0),Ow.cells st.1 35 [bv,.slice none 0 0,st.2],Ow.cells g5 53 [bv,M.t],Ow.cells g4 35 [.slice none 0 0,.slice none 0 0,.slice none 0 0]]) (λ_=>[lF Qo bv N M.B S.B,fSt M S,ge h0,sI dv deal]) (λ_=>True) ?_ ?_
 .repeat'(first|intro(g:Nat)|refine d15 ?_|refine gN ?_ ?_|refine cU (c25) ?_|intro v)
  all_goals
   rw[hKe];first|refine LO.mkP rfl qo λav=>?_|refine WD.l rfl rfl rfl (LO.mkP rfl qo λav=>?_)
   refine⟨(by(first|exact wq1|(apply Or.inl;kernel_rfl))),?_⟩;repeat'(first|intro(g:Nat)|refine d15 ?_|refine gN ?_ ?_|intro v)
  all_goals
   first|refine WD.yl rfl (VF (v:=bv) (w:=av) rfl rfl (KnS.lf (S:=Qo) (v:=bv) hmA) (KnS.o1 meA)) qr qr ?_|refine LO.ofY (VF (v:=bv) (w:=av) rfl rfl (KnS.lf (S:=Qo) (v:=bv) hmA) (KnS.o1 meA)) ⟨(by(first|exact wq1|(apply Or.inl;kernel_rfl))),?_⟩
   repeat'(first|intro(g:Nat)|refine d15 ?_|refine gN ?_ ?_|intro v)
   (apply Ex2;refine⟨trivial,?_,?_,?_⟩;(focus(repeat(first|exact Sub.nil _|refine Sub.cons rfl ?_)));exact wq123;exact wq20)
 rintro⟨g6,pv⟩ _;simp only;refine WC.addPO K (λ_ _=>⟨(m00,m00),(m00,m00),(m00,m00),m00⟩) ?_;refine WC.QP 93 30 ?_;repeat'(first|intro(g:Nat)|refine d15 ?_|refine gN ?_ ?_|intro v)
 refine WC.JS (σ:=Value×(Nat->ToM)×(Nat->Value)×(Nat->Nat->ToM)) (λst=>[(6,ptr g6),(4,ptr g4)]) (λst=>lO Qz st.1 93 ((Fx.dealS N K S.T deal S.m).1).length st.2.1 (tl ((Fx.dealS N K S.T deal S.m).1))::Ow.slice pv 32 1 (Jh K st.2.2.1)::Ow.cells g6 35 [bv,st.1,pv]::Ow.cells g5 53 [bv,M.t]::Ow.cells g4 35 [.slice none 0 0,.slice none 0 0,.slice none 0 0]::PO K st.2.2.1 st.2.2.2 (pl ((Fx.dealS N K S.T deal S.m).2))) (λst=>[lM Qz ((Fx.dealS N K S.T deal S.m).1).length st.2.1 (tl ((Fx.dealS N K S.T deal S.m).1)),PM K st.2.2.2 (pl ((Fx.dealS N K S.T deal S.m).2)),lF Qo bv N M.B S.B,fSt M S,ge h0,sI dv deal]) (λ_=>True) ?_ ?_
 .refine WC.lp (σ:=Nat×Value×(Nat->ToM)×(Nat->Value)×(Nat->Nat->ToM)) (λst=>[(7,.int .i64 (st.1:Int)),(6,ptr g6),(5,ptr g5),(4,ptr g4),(1,dv)]) (λst=>lO Qz st.2.1 93 ((Fx.dealS N K S.T deal st.1).1).length st.2.2.1 (tl ((Fx.dealS N K S.T deal st.1).1))::Ow.slice pv 32 1 (Jh K st.2.2.2.1)::Ow.cells g6 35 [bv,st.2.1,pv]::Ow.cells g5 53 [bv,M.t]::Ow.cells g4 35 [.slice none 0 0,.slice none 0 0,.slice none 0 0]::PO K st.2.2.2.1 st.2.2.2.2 (pl ((Fx.dealS N K S.T deal st.1).2))) (λst=>[lM Qz ((Fx.dealS N K S.T deal st.1).1).length st.2.2.1 (tl ((Fx.dealS N K S.T deal st.1).1)),PM K st.2.2.2.2 (pl ((Fx.dealS N K S.T deal st.1).2)),lF Qo bv N M.B S.B,fSt M S,ge h0,sI dv deal]) (λst=>st.1<=S.m) (λst=>S.m-st.1) (0,.slice none 0 0,λ_=>⟨(m00,m00),(m00,m00),(m00,m00),m00⟩,λ_=>.slice none 0 0,λ_ _=>⟨(m00,m00),(m00,m00),(m00,m00),m00⟩) (Nat.zero_le _) ?_ (hB:=?hB) (hG:=?hG)
  case hB=>
   simp only[show Fx.dealS N K S.T deal 0=([],List.replicate K []) from rfl,pl_rep];exact List.Sublist.refl _
  case hG=>
   simp only[show Fx.dealS N K S.T deal 0=([],List.replicate K []) from rfl,pl_rep];exact .cons W.Has.Z3 (.cons PM_nil haA)
  rintro⟨i,tv,tm,w,m⟩ hi;simp only at hi ⊢;by_cases d:i<S.m
  .have hT:=hfs.T i d;refine WC.fact (fT (M.T i) (S.T i)) (W.Has.lk (S:=Qz) (v:=M.t) (ms:=M.T) (xs:=S.T) hmA d) ?_;have hDl:(Fx.dealS N K S.T deal i).2.length=K:=Fx.KB i;obtain⟨hle1,hle2⟩:=Fw (n:=N) (K:=K) (T:=S.T) (deal:=deal) i
   have hu:Fx.dealS N K S.T deal (i+1)=if(S.T i).a<(N:Int) then
     (let k:=(atP deal (2*(i:Int)+1) ((K:Int)+1)).toNat
      let p:=if k=K then((Fx.dealS N K S.T deal i).1++[S.T i],(Fx.dealS N K S.T deal i).2) else((Fx.dealS N K S.T deal i).1,Fx.YN k (S.T i) (Fx.dealS N K S.T deal i).2)
      if i=0/\atP deal 2 3=0 then(p.1,Fx.YN (atP deal (2*(i:Int)+3) (K:Int)).toNat (Fx.Zp (S.T i)) p.2) else p) else Fx.dealS N K S.T deal i:=rfl
   generalize Fx.dealS N K S.T deal i=D at *;by_cases ha:(S.T i).a<(N:Int)
   .rw[if_pos ha] at hu;have hk:=QC (l:=deal) (i:=2*(i:Int)+1) (m:=(K:Int)+1) qo;have c56:=Zd dv deal (2*(i:Int)+1) ((K:Int)+1) hd qo;obtain⟨k,hk1⟩:∃k:Nat,atP deal (2*(i:Int)+1) ((K:Int)+1)=(k:Int):=⟨(atP deal (2*(i:Int)+1) ((K:Int)+1)).toNat,by omega⟩
    rw[hk1] at hu hk c56;rw[show((k:Int)).toNat=k from rfl] at hu;repeat'(first|intro(g:Nat)|refine d15 ?_|refine gN ?_ ?_|intro v)
    revert g;intro g8;refine cV (c56) ?_;refine WL.y (YO.assign rfl) qr qr ?_;refine WL.nil ?_;show WC _ _ _ _ _ _ _;obtain⟨p,hp⟩:∃p,(if k=K then(D.1++[S.T i],D.2) else(D.1,Fx.YN k (S.T i) D.2))=p:=⟨_,rfl⟩
    dsimp only at hu;rw[hp] at hu
    have hpl2:p.2.length=K/\∀q,(pl p.2 q).length<=2*i+1:=by
     rw[<-hp];split
     .exact⟨hDl,λq=>by have:=hle2 q;simp only;omega⟩
     .exact⟨by simp only[Fx.Gv];exact hDl,λq=>by have:=hle2 q;have:=@VO k q (S.T i) D.2;simp only;omega⟩
    refine WC.cut (σ:=Value×(Nat->ToM)×(Nat->Value)×(Nat->Nat->ToM)) (λst=>[(8,ptr g8),(7,.int .i64 (i:Int)),(6,ptr g6),(5,ptr g5),(4,ptr g4),(1,dv)]) (λst=>Ow.cells g8 93 (tcs (M.T i) (S.T i))::lO Qz st.1 93 (p.1).length st.2.1 (tl (p.1))::Ow.slice pv 32 1 (Jh K st.2.2.1)::Ow.cells g6 35 [bv,st.1,pv]::Ow.cells g5 53 [bv,M.t]::Ow.cells g4 35 [.slice none 0 0,.slice none 0 0,.slice none 0 0]::PO K st.2.2.1 st.2.2.2 (pl (p.2))) (λst=>[lM Qz (p.1).length st.2.1 (tl (p.1)),PM K st.2.2.2 (pl (p.2)),fT (M.T i) (S.T i),lF Qo bv N M.B S.B,fSt M S,ge h0,sI dv deal]) (λ_=>True) ?_ ?_
    .by_cases hkK:k=K
     .rw[if_pos hkK] at hp;subst hp;repeat'(first|intro(g:Nat)|refine d15 ?_|refine gN ?_ ?_|intro v)
      revert v;intro v65;refine WL.l rfl rfl (LO.appT1 (L:=D.1) (tm:=tm) (t1:=M.T i) (tc:=S.T i) rfl rfl (.head _) hmA (λv'=>.tail (.tail .head)) qo λv66=>?_);repeat'(first|intro(g:Nat)|refine d15 ?_|refine gN ?_ ?_|intro v)
      exact Qs (v66,upd tm D.1.length (M.T i),w,m) trivial (hG:=.cons (XR (S:=Qz) hmA hmA) haA)
     .rw[if_neg hkK] at hp;subst hp;have hkK':k<K:=qo;have hl2:=hle2 k;have hpl:pl (Fx.YN k (S.T i) D.2)=upd (pl D.2) k (pl D.2 k++[S.T i]):=(pl_set qo).symm;repeat'(first|intro(g:Nat)|refine d15 ?_|refine gN ?_ ?_|intro v)
      refine WC.V3 (id:=13) [Ow.cells g8 93 (tcs (M.T i) (S.T i)),Ow.slice pv 32 1 (Jh K w),Ow.cells g6 35 [bv,tv,pv]] slA [0,1,2,3,4,5,6,7,8] (.h 0<|.h 1<|.h 2<|.h 3<|.h 4<|.h 5<|.h 6<|.h 7<|.h 8<|.l 9<|.l 10<|.l 11<|.l 12 .done) mixed kr ?_;repeat'(first|intro(g:Nat)|refine d15 ?_|refine gN ?_ ?_|intro v)
      revert v;intro v77;refine WD.l rfl rfl rfl (LO.appT1 (L:=pl D.2 k) (tm:=m k) (t1:=M.T i) (tc:=S.T i) rfl rfl (.head _) hmA (λv'=>.tail (.tail (.tail (.tail (.tail (.tail (.tail (PO_sel K hkK')))))))) qo λv78=>?_);refine⟨(by(first|exact wq1|(apply Or.inl;kernel_rfl))),?_⟩;refine WD.yl rfl (YO.ix1 T.s33 rfl rfl (KnS.out meA) hkK') qr qr ?_;refine WD.l0 rfl rfl (LO.JB (v:=pv) (j:=k) rfl rfl T.z32 (One.sl (KnS.lo (S:=Qz) (el:=93) (.tail _ (.tail _ (.tail _ (.tail _ (.tail _ (.tail _ (.tail _ (PO_mem hkK')))))))))) wq3 (by rw[Qu];exact hkK') (GD hkK') ?_);refine⟨(by(first|exact wq1|(apply Or.inl;kernel_rfl))),?_⟩;repeat'(first|intro(g:Nat)|refine d15 ?_|refine gN ?_ ?_|intro v)
      refine Qs (tv,tm,upd w k v78,upd m k (upd (m k) (pl D.2 k).length (M.T i))) trivial (hB:=by simp only[hpl];exact slA) (hG:=.cons hmA (.cons ?_ haA));simp only[hpl];exact PM_upd hmA (XR (S:=Qz) (PM_at hmA hkK') hmA)
    rintro⟨tv2,tm2,w2,m2⟩ _;simp only;by_cases hi0:i=0
    .have A2:=QC (l:=deal) (i:=2) (m:=3) qd;have c84:=Zd dv deal 2 3 hd qd;repeat'(first|intro(g:Nat)|refine d15 ?_|refine gN ?_ ?_|intro v)
     refine cV (c84) ?_;by_cases h2:atP deal 2 3=0
     .rw[if_pos ⟨hi0,h2⟩] at hu;obtain⟨z1,z2,z3,z4⟩:=hT;have zh:Sq 1 (Rat.divInt 1 2):=(Fr.of (D:=2) (A:=1) qd qd).sq qd qd qd;refine WL.QE (fV (M.T i).p (S.T i).p) (W.Has.tp (tm:=M.T i) hmA) ?_;refine WL.QE (fV (M.T i).q (S.T i).q) (W.Has.tq (tm:=M.T i) hmA) ?_;refine WL.QE (isQ (qv (M.T i).p.1) (S.T i).p.x) (W.Has.vx (m:=(M.T i).p) hmA) ?_;refine WL.QE (isQ (qv (M.T i).p.2) (S.T i).p.y) (W.Has.vy (m:=(M.T i).p) hmA) ?_;refine WL.QE (isQ (qv (M.T i).q.1) (S.T i).q.x) (W.Has.vx (m:=(M.T i).q) hmA) ?_;refine WL.QE (isQ (qv (M.T i).q.2) (S.T i).q.y) (W.Has.vy (m:=(M.T i).q) hmA) ?_;repeat'(first|intro(g:Nat)|refine d15 ?_|refine gN ?_ ?_|intro v)
      revert g;intro g10;refine cW (Zn.rof 1 2 qd qd) λn88=>?_;repeat'(first|intro(g:Nat)|refine d15 ?_|refine gN ?_ ?_|intro v)
      refine cW (Zn.radd (M.T i).p.1 (M.T i).q.1 (S.T i).p.x (S.T i).q.x (z1.1.sm qd) (z2.1.sm qd)) λn95=>?_;repeat'(first|intro(g:Nat)|refine d15 ?_|refine gN ?_ ?_|intro v)
      refine cW (Zn.rmul n88 n95 (Rat.divInt 1 2) ((S.T i).p.x+(S.T i).q.x) (zh.sm qd) ((z1.1.add z2.1).sm qd)) λn96=>?_;repeat'(first|intro(g:Nat)|refine d15 ?_|refine gN ?_ ?_|intro v)
      refine cW (Zn.rof 1 2 qd qd) λn97=>?_;repeat'(first|intro(g:Nat)|refine d15 ?_|refine gN ?_ ?_|intro v)
      refine cW (Zn.radd (M.T i).p.2 (M.T i).q.2 (S.T i).p.y (S.T i).q.y (z1.2.sm qd) (z2.2.sm qd)) λn104=>?_;repeat'(first|intro(g:Nat)|refine d15 ?_|refine gN ?_ ?_|intro v)
      refine cW (Zn.rmul n97 n104 (Rat.divInt 1 2) ((S.T i).p.y+(S.T i).q.y) (zh.sm qd) ((z1.2.add z2.2).sm qd)) λn105=>?_;refine WD.fact (fV (n96,n105) (Fx.Zp (S.T i)).q) (W.Has.vof (m:=(n96,n105)) (a:=(Fx.Zp (S.T i)).q) hmA hmA) ?_;repeat'(first|intro(g:Nat)|refine d15 ?_|refine gN ?_ ?_|intro v)
      obtain⟨tH,htH⟩:∃tH:ToM,(⟨(M.T i).p,(n96,n105),(M.T i).n,(M.T i).r⟩:ToM)=tH:=⟨_,rfl⟩
      obtain⟨tc,htc⟩:∃tc,Fx.Zp (S.T i)=tc:=⟨_,rfl⟩
      refine WL.QE (fT tH tc) (by rw[<-htH,<-htc];exact W.Has.tof (tm:=⟨(M.T i).p,(n96,n105),(M.T i).n,(M.T i).r⟩) (t:=Fx.Zp (S.T i)) hmA hmA (W.Has.tn (tm:=M.T i) (t:=S.T i) hmA) (W.Has.trr (tm:=M.T i) (t:=S.T i) hmA)) ?_;refine WL.cell (g:=g10) (t:=93) (cs':=tcs tH tc) (by rw[<-htH,<-htc];rfl) ?_;rw[htc] at hu;have hj:=QC (l:=deal) (i:=2*(i:Int)+3) (m:=(K:Int)) qo;have c115:=Zd dv deal (2*(i:Int)+3) (K:Int) hd qo;obtain⟨j,hj1⟩:∃j:Nat,atP deal (2*(i:Int)+3) (K:Int)=(j:Int):=⟨(atP deal (2*(i:Int)+3) (K:Int)).toNat,by omega⟩
      rw[hj1] at hu hj c115;rw[show((j:Int)).toNat=j from rfl] at hu;have hjK:j<K:=qo;have hlj:=hpl2.2 j;have hpl:pl (Fx.YN j tc p.2)=upd (pl p.2) j (pl p.2 j++[tc]):=(pl_set qo).symm;refine cV (c115) ?_;repeat'(first|intro(g:Nat)|refine d15 ?_|refine gN ?_ ?_|intro v)
      refine WC.V3 (id:=18) [Ow.cells g10 93 (tcs tH tc),Ow.slice pv 32 1 (Jh K w2),Ow.cells g6 35 [bv,tv2,pv]] slA [0,1,2,3,4,5,6,7,8] (.h 0<|.h 1<|.h 2<|.h 3<|.h 4<|.h 5<|.h 6<|.h 7<|.h 8<|.l 9<|.l 10<|.l 11<|.l 12 .done) mixed kr ?_;repeat'(first|intro(g:Nat)|refine d15 ?_|refine gN ?_ ?_|intro v)
      revert v;intro v125;refine WD.l rfl rfl rfl (LO.appT1 (L:=pl p.2 j) (tm:=m2 j) (t1:=tH) (tc:=tc) rfl rfl (.head _) hmA (λv'=>.tail (.tail (.tail (.tail (.tail (.tail (.tail (.tail (PO_sel K hjK))))))))) qo λv126=>?_);refine⟨(by(first|exact wq1|(apply Or.inl;kernel_rfl))),?_⟩;refine WD.yl rfl (YO.ix1 T.s33 rfl rfl (KnS.out meA) hjK) qr qr ?_;refine WD.l0 rfl rfl (LO.JB (v:=pv) (j:=j) rfl rfl T.z32 (One.sl (KnS.lo (S:=Qz) (el:=93) (.tail _ (.tail _ (.tail _ (.tail _ (.tail _ (.tail _ (.tail _ (.tail _ (PO_mem hjK))))))))))) wq3 (by rw[Qu];exact hjK) (GD hjK) ?_);refine⟨(by(first|exact wq1|(apply Or.inl;kernel_rfl))),?_⟩;repeat'(first|intro(g:Nat)|refine d15 ?_|refine gN ?_ ?_|intro v)
      refine Qq.mk (i+1,tv2,tm2,upd w2 j v126,upd m2 j (upd (m2 j) (pl p.2 j).length tH)) wq18 wq18 (hB:=by simp only[hu,hpl];exact .cons _ (.cons _ (.cons _ (List.Sublist.refl _)))) (hG:=.cons (by simp only[hu];exact hmA) (.cons ?_ haA));simp only[hu,hpl];exact PM_upd hmA (XR (S:=Qz) (PM_at hmA hjK) hmA)
     .rw[if_neg (λh=>h2 h.2)] at hu;repeat'(first|intro(g:Nat)|refine d15 ?_|refine gN ?_ ?_|intro v)
      exact Qq.mk (i+1,tv2,tm2,w2,m2) wq18 wq18 (hB:=by simp only;rw[hu];exact List.sublist_cons_self _ _) (hG:=by simp only;rw[hu];exact haA)
    .rw[if_neg (λh=>hi0 h.1)] at hu;repeat'(first|intro(g:Nat)|refine d15 ?_|refine gN ?_ ?_|intro v)
     exact Qq.mk (i+1,tv2,tm2,w2,m2) wq18 wq18 (hB:=by simp only;rw[hu];exact List.sublist_cons_self _ _) (hG:=by simp only;rw[hu];exact haA)
   .rw[if_neg ha] at hu;repeat'(first|intro(g:Nat)|refine d15 ?_|refine gN ?_ ?_|intro v)
    exact Qq.mk (i+1,tv,tm,w,m) wq18 wq18 (hB:=by simp only;rw[hu];exact List.sublist_cons_self _ _) (hG:=by simp only;rw[hu];exact haA)
  .obtain rfl:i=S.m:=qo;repeat'(first|intro(g:Nat)|refine d15 ?_|refine gN ?_ ?_|intro v)
   exact Qs (tv,tm,w,m) trivial
 rintro⟨tv,tm,w,m⟩ _;simp only;refine WC.QY (S:=Qz) (v:=tv) (n:=(Fx.dealS N K S.T deal S.m).1.length) (ms:=tm) (xs:=tl (Fx.dealS N K S.T deal S.m).1) (.head) hmA ?_;refine WC.freezeP (pre:=[Ow.slice (.slice none 0 0) 93 30 [],Ow.slice pv 32 1 (Jh K w),Ow.cells g6 35 [bv,tv,pv],Ow.cells g5 53 [bv,M.t],Ow.cells g4 35 [.slice none 0 0,.slice none 0 0,.slice none 0 0]]) hmA ?_;rw[outer_cells (w:=w) (m:=m) (L:=pl (Fx.dealS N K S.T deal S.m).2)];refine WC.QY (S:=tlS) (v:=pv) (n:=K) (ms:=λq=>(w q,m q)) (xs:=pl (Fx.dealS N K S.T deal S.m).2) (.tail .head) (has_tls hmA) ?_;have hlen:(Fx.dealS N K S.T deal S.m).2.length=K:=Fx.KB S.m;refine WC.fact (lF tlS pv (Fx.dealS N K S.T deal S.m).2.length (λq=>(w q,m q)) (pl (Fx.dealS N K S.T deal S.m).2)) (by rw[hlen];exact hmA) ?_;repeat'(first|intro(g:Nat)|refine d15 ?_|refine gN ?_ ?_|intro v)
 refine WC.ret ?_;exact Fp [_,_,_] (rcV T.r35) (.cons hmA (.cons hmA (.cons hmA .nil))) ⟨bv,tv,pv,M.B,tm,λq=>(w q,m q),rfl,rfl,rfl⟩
end Y
end Q
end K
def GR{l m:List Int}(hl:l.length=m.length)(h:∀j,j<l.length->l.getD j 0=m.getD j 0):l=m:=by
 apply List.ext_getElem hl;intro i h1 h2;have:=h i h1;simpa [List.getD_eq_getElem?_getD,h1,h2] using this
namespace K
namespace Q
namespace Y
attribute [local irreducible] WC WL WD YO LO Qq W.Fin Qv Qh Qj Row QV Qy KnS Has W.One Qp QJ
def d13{G G':Prop}(h:G')(s:Bx G'->G:=by
 intro h;first|refine gF ?_|(apply WC.draw (id:=6) [0,1,2,3,4,5,6,7,8] (.h 0<|.h 1<|.h 2<|.h 3<|.h 4<|.h 5<|.h 6<|.h 7<|.h 8 .done) mixed kr)|fail
 exact Bx.h h):G:=s ⟨h⟩
def XA(v u:Value)(l m:List Int):FnB Tryz.prog 13 [v,u] [] [sI v l,sI u m] (IsV (.bool (decide (l=m)))):=by
 refine fO [(0,v),(1,u)] 26 Tryz.func13 Tryz.ntmps13 λh0=>?_;refine WC.Kt v l hmA λhlen=>?_;by_cases hl:l.length=m.length
 .repeat'(first|intro(g:Nat)|refine d13 ?_|intro v)
  refine WC.lp (σ:=Nat) (λk=>[(5,.int .i64 (k:Int)),(0,v),(1,u)]) (λ_=>[]) (λ_=>[ge h0,sI v l,sI u m]) (λk=>k<=l.length/\∀j,j<k->l.getD j 0=m.getD j 0) (λk=>l.length-k) 0 ⟨Nat.zero_le _,λj h=>by omega⟩ ?_;rintro k ⟨hk,hn⟩;by_cases hlt:k<l.length
  .by_cases he:l.getD k 0=m.getD k 0
   .repeat'(first|intro(g:Nat)|refine d13 ?_|intro v)
    refine Qq.mk (k+1) ⟨by omega,λj hj=>?_⟩ (by show l.length-(k+1)<l.length-k;omega);by_cases hjk:j=k
    .subst hjk;exact he
    .exact hn j qo
   .repeat'(first|intro(g:Nat)|refine d13 ?_|intro v)
    exact WC.ret (Fin.v (Qg.t1 rfl rfl) meA (by rw[decide_eq_false];rintro rfl;exact he rfl))
  .repeat'(first|intro(g:Nat)|refine d13 ?_|intro v)
   exact WC.ret (Fin.v (Qg.t1 rfl rfl) meA (by rw[decide_eq_true];exact GR hl (λj hj=>hn j qo)))
 .have hl':(l.length:Int)≠m.length:=qo;repeat'(first|intro(g:Nat)|refine d13 ?_|intro v)
  exact WC.ret (Fin.v (Qg.t1 rfl rfl) meA (by rw[decide_eq_false];rintro rfl;exact hl rfl))
end Y
end Q
end K
namespace K
namespace Q
namespace Y
attribute [local irreducible] WC WL WD YO LO Qq W.Fin Qv Qh Qj Row QV Qy KnS Has W.One Qp QJ
def d12{G G':Prop}(h:G')(s:Bx G'->G:=by
 intro h;first|refine gE ?_|refine Vh ?_|(apply WC.draw (id:=12) [1,2,3,5,8,9,10] (.h 1<|.h 2<|.h 3<|.h 5<|.h 8<|.h 9<|.h 10<|.m 0 (.m 4 (.l 6<|.l 7<|.l 11<|.f 12 .done) (.l 6<|.l 4<|.l 7<|.l 11<|.f 12 .done)) (.l 6<|.l 0<|.l 4<|.l 7<|.l 11<|.f 12 .done)) mixed kr)|fail
 exact Bx.h h):G:=s ⟨h⟩
end Y
end Q
end K
def fsx(a:Nat->Nat->Rat)(y:Nat->Rat)(i j k:Nat):Rat:=X.sm (if k<j then i+1 else i) λr=>y r*a r k
def fsx_up{a:Nat->Nat->Rat}{y:Nat->Rat}{i j:Nat}(k:Nat):upd (fsx a y i j) j (fsx a y i j j+y i*a i j) k=fsx a y i (j+1) k:=by
 by_cases c:k=j
 .subst c;rw[QU];unfold fsx;rw[if_neg qo,if_pos qo];rfl
 .rw[upd_ne c];unfold fsx;by_cases d:k<j
  .rw[if_pos d,if_pos qo]
  .rw[if_neg d,if_neg qo]
def fsx_next{a:Nat->Nat->Rat}{y:Nat->Rat}{i v k:Nat}(hk:k<v):fsx a y i v k=fsx a y (i+1) 0 k:=by
 unfold fsx;rw[if_pos hk,if_neg qo]
def sum_sz{y f:Nat->Rat}{Ky Ka m i:Nat}(hy:∀r,r<m->Sq Ky (y r))(hf:∀r,r<m->Sq Ka (f r))(hi:i<=m):Sq (m*(Ky+Ka+1)+1) (X.sm i λr=>y r*f r):=
 (X.Kw (m:=i) λr hr=>(hy r qo).mul (hf r qo)).up (by have:=Nat.mul_le_mul_right (Ky+Ka+1) hi;omega)
namespace K
namespace Q
attribute [local irreducible] WC WL WD YO LO Qq W.Fin Qv Qh Qj Row QV Qy KnS Has W.One Qp QJ
def d46{G G':Prop}(h:G')(s:Bx G'->G:=by
 intro h;first|refine gF ?_|(apply WC.draw (id:=15) [0,1,2,3,4,5,6,7,10] (.h 0<|.h 1<|.h 2<|.h 3<|.h 4<|.h 5<|.h 6<|.h 7<|.l 8<|.l 9<|.h 10<|.l 11 .done) mixed kr)|(apply WC.draw (id:=17) [0,1,2,3,4,5,6,7] (.h 0<|.h 1<|.h 2<|.h 3<|.h 4<|.h 5<|.h 6<|.h 7<|.l 8<|.l 9<|.l 10 .done) mixed kr)|fail
 exact Bx.h h):G:=s ⟨h⟩
def falls_c(M:SM)(S:Sc)(c Ly:Nat)(yv:Value)(my:Nat->QM)(y:Nat->Rat)(K Ky:Nat)(hc:c<2^S.n)(h0K:0<K)(hK:K<=3)(hs:Ss K S)(ho:S.ok)(hL:Ly<=1000)(hy:∀k,k<Ly->Sq Ky (y k))(hKy:(6*S.n+6*S.m+S.n)*(Ky+22)+Ky+30<=400000000) :
  FnB Tryz.prog 46 [M.l,M.t,.agg #[.int .i64 (c:Int),yv]] [] [fSl M S,fSt M S,fF yv Ly my y] (IsEr (Ly=(Bl.lp S (S.wt c)).m/\X.VB (Bl.lp S (S.wt c)) y)):=by
 have hn:=ho.n;have hm:=ho.m;have hz:=lp_szs h0K hK hs ho (wt_sz hs c);have hpb:=GB M S c hc K h0K qo hs ho;obtain⟨p,hp⟩:∃p,Bl.lp S (S.wt c)=p:=⟨_,rfl⟩
 have hpv:p.v=4*S.m:=by rw[<-hp];rfl
 have hpm:p.m=6*S.n+6*S.m+S.n:=by rw[<-hp];rfl
 unfold IsProb at hpb;rw[hp,<-hpv] at hpb;rw[hp] at hz ⊢;have h32:2^S.n<=2^5:=Nat.pow_le_pow_right qd hn;obtain⟨N2,hN2⟩:∃N2,2^S.n=N2:=⟨_,rfl⟩
 refine fO [(0,M.l),(1,M.t),(2,(.agg #[.int .i64 (c:Int),yv]))] 111 Tryz.func46 Tryz.ntmps46 λh0=>?_;repeat'(first|intro(g:Nat)|refine d46 ?_|intro v)
 revert g;intro g5;refine cW (hpb) λMp=>?_;refine WL.QE (fF Mp.gv p.v Mp.mg p.g) (W.Has.pg (M:=Mp) (m:=p.m) (gn:=p.v) (ln:=λ_=>p.v) (a:=p.a) (b:=p.b) hmA) ?_;repeat'(first|intro(g:Nat)|refine d46 ?_|intro v)
 revert g;intro g7;refine WL.keep (g:=g5) (t:=63) (cs:=[.int .i64 (c:Int),yv]) wq9 ?_;refine WL.keep (g:=g7) (t:=118) (cs:=pcs Mp p.v) wq9 ?_;by_cases hl:Ly=p.m
 .subst hl;repeat'(first|intro(g:Nat)|refine d46 ?_|intro v)
  revert g;intro g10;revert v;intro sv;refine WC.JS (σ:=(Nat->QM)×QM) (λst=>[(9,sv),(10,ptr g10)]) (λst=>[Ow.cells g10 75 (qcs st.2),Ow.slice sv 75 4 (Qa p.v st.1)]) (λst=>[mF p.v st.1 (fsx p.a y p.m 0),isQ (qv st.2) (X.sm p.m λr=>y r*p.b r),ge h0]) (λ_=>∀r,r<p.m->0<=y r) ?_ ?_
  .refine WC.lp (σ:=Nat×(Nat->QM)×QM) (λst=>[(50,.int .i64 (st.1:Int)),(49,.int .i64 (p.m:Int)),(48,yv),(9,sv),(10,ptr g10),(5,ptr g5),(7,ptr g7)]) (λst=>[Ow.cells g10 75 (qcs st.2.2),Ow.slice sv 75 4 (Qa p.v st.2.1)]) (λst=>[mF p.v st.2.1 (fsx p.a y st.1 0),isQ (qv st.2.2) (X.sm st.1 λr=>y r*p.b r),ge h0,ce g5 63 [.int .i64 (c:Int),yv],ce g7 118 (pcs Mp p.v),fP Mp p,fF yv p.m my y]) (λst=>st.1<=p.m/\∀r,r<st.1->0<=y r) (λst=>p.m-st.1) (0,λ_=>m00,m00) ⟨Nat.zero_le _,λr h=>absurd h qo⟩ ?_ (hG:=.cons ((W.Has.mF0 p.v).QN λk _=>rfl) (.cons JA haA));rintro⟨i,ms,mr⟩ ⟨hi,hok⟩;simp only at hi hok ⊢;by_cases d:i<p.m
   .refine WC.fact (fF (Mp.av i) p.v (Mp.ma i) (p.a i)) (W.Has.pa (M:=Mp) (m:=p.m) (gn:=p.v) (ln:=λ_=>p.v) (a:=p.a) (b:=p.b) (g:=p.g) hmA d) ?_;refine WC.fact (isQ (qv (Mp.mb i)) (p.b i)) (W.Has.pbq (M:=Mp) (m:=p.m) (gn:=p.v) (ln:=λ_=>p.v) (a:=p.a) (b:=p.b) (g:=p.g) hmA d) ?_;refine WC.fact (isQ (qv (my i)) (y i)) (W.Has.q (W.Has.fm (v:=yv) (n:=p.m) (ms:=my) (qf:=y) hmA) d) ?_;have hyi:=hy i d;have hKy2:p.m*(Ky+22)+Ky+30<=400000000:=by rw[hpm];exact hKy
    have hKy3:Ky+22<=400000000:=qo;repeat'(first|intro(g:Nat)|refine d46 ?_|intro v)
    revert g;intro g12;refine cV (XK (my i) (y i) (hyi.sm qo)) ?_;repeat'(first|intro(g:Nat)|refine d46 ?_|intro v)
    refine cV (Zn.sign (my i) (y i)) ?_;have hsg:=@XS (y i);by_cases hneg:y i<0
    .have hs1:=hsg.2 hneg;repeat'(first|intro(g:Nat)|refine d46 ?_|intro v)
     refine WC.ret ?_;exact Fp [] (Qg.t1 rfl rfl) .nil ⟨22,rfl,.inr rfl,⟨λh=>absurd h qd,λh=>absurd (h.2.1 i d) (by grind)⟩,rfl,rfl⟩
    .have hs1:¬sgn (y i).num<0:=λh=>hneg (hsg.1 h);repeat'(first|intro(g:Nat)|refine d46 ?_|intro v)
     refine WC.JS (σ:=Nat->QM) (λms=>[(11,.int .i64 (i:Int)),(12,ptr g12),(50,.int .i64 (i:Int)),(49,.int .i64 (p.m:Int)),(48,yv),(9,sv),(10,ptr g10),(5,ptr g5),(7,ptr g7)]) (λms=>[Ow.cells g12 75 (qcs (my i)),Ow.cells g10 75 (qcs mr),Ow.slice sv 75 4 (Qa p.v ms)]) (λms=>[mF p.v ms (fsx p.a y (i+1) 0),isQ (qv mr) (X.sm i λr=>y r*p.b r),isQ (qv (Mp.mb i)) (p.b i),isQ (qv (my i)) (y i),ge h0,ce g5 63 [.int .i64 (c:Int),yv],ce g7 118 (pcs Mp p.v),fP Mp p,fF yv p.m my y]) (λ_=>True) ?_ ?_
     .refine WC.lp (σ:=Nat×(Nat->QM)) (λst=>[(70,.int .i64 (st.1:Int)),(69,.int .i64 (p.v:Int)),(68,Mp.av i),(11,.int .i64 (i:Int)),(12,ptr g12),(50,.int .i64 (i:Int)),(49,.int .i64 (p.m:Int)),(48,yv),(9,sv),(10,ptr g10),(5,ptr g5),(7,ptr g7)]) (λst=>[Ow.cells g12 75 (qcs (my i)),Ow.cells g10 75 (qcs mr),Ow.slice sv 75 4 (Qa p.v st.2)]) (λst=>[mF p.v st.2 (fsx p.a y i st.1),fF (Mp.av i) p.v (Mp.ma i) (p.a i),isQ (qv mr) (X.sm i λr=>y r*p.b r),isQ (qv (Mp.mb i)) (p.b i),isQ (qv (my i)) (y i),ge h0,ce g5 63 [.int .i64 (c:Int),yv],ce g7 118 (pcs Mp p.v),fP Mp p,fF yv p.m my y]) (λst=>st.1<=p.v) (λst=>p.v-st.1) (0,ms) (Nat.zero_le _) ?_;rintro⟨j,ms⟩ hj;simp only at hj ⊢;by_cases dj:j<p.v
      .refine WC.fact (isQ (qv (Mp.ma i j)) (p.a i j)) (W.Has.q (W.Has.fm (v:=Mp.av i) (n:=p.v) (ms:=Mp.ma i) (qf:=p.a i) hmA) dj) ?_;refine WC.fact (isQ (qv (ms j)) (fsx p.a y i j j)) (W.Has.q (n:=p.v) (ms:=ms) (qf:=fsx p.a y i j) hmA dj) ?_;have haj:=hz.a i d j dj;have hsz:Sq (p.m*(Ky+22)+1) (fsx p.a y i j j):=by unfold fsx;rw[if_neg qo];exact sum_sz hy (λr hr=>hz.a r hr j dj) hi
       repeat'(first|intro(g:Nat)|refine d46 ?_|intro v)
       all_goals
        refine cW (Zn.mul (my i) (Mp.ma i j) (y i) (p.a i j) (hyi.sm qo) (haj.sm qo)) λn1=>?_;repeat'(first|intro(g:Nat)|refine d46 ?_|intro v)
       all_goals
        refine cW (Zn.add (ms j) n1 (fsx p.a y i j j) (y i*p.a i j) (hsz.sm qo) ((hyi.mul haj).sm qo)) λn2=>?_;repeat'(first|intro(g:Nat)|refine d46 ?_|intro v)
        exact Qq.mk (j+1,upd ms j n2) wq18 wq18 (hG:=.cons ((W.Has.Xh (n:=p.v) (k:=j) (ms:=ms) (m:=n2) (qf:=fsx p.a y i j) hmA hmA).QN λk _=>fsx_up k) haA)
      .obtain rfl:j=p.v:=qo;repeat'(first|intro(g:Nat)|refine d46 ?_|intro v)
       exact Qs ms trivial (hG:=.cons (W.Has.QN (n:=p.v) (ms:=ms) (qf:=fsx p.a y i p.v) hmA λk hk=>fsx_next hk) haA)
     .intro ms _;have hsz:Sq (p.m*(Ky+22)+1) (X.sm i λr=>y r*p.b r):=sum_sz hy (λr hr=>hz.b r hr) hi;repeat'(first|intro(g:Nat)|refine d46 ?_|intro v)
      all_goals
       refine cW (Zn.mul (my i) (Mp.mb i) (y i) (p.b i) (hyi.sm qo) ((hz.b i d).sm qo)) λn1=>?_;repeat'(first|intro(g:Nat)|refine d46 ?_|intro v)
      all_goals
       refine cW (Zn.add mr n1 (X.sm i λr=>y r*p.b r) (y i*p.b i) (hsz.sm qo) ((hyi.mul (hz.b i d)).sm qo)) λn2=>?_;repeat'(first|intro(g:Nat)|refine d46 ?_|intro v)
       exact Qq.mk (i+1,ms,n2) ⟨by simp only;omega,λr hr=>by
        by_cases e:r=i
        .subst e;grind
        .exact hok r (by simp only at hr;omega)⟩ wq18 (hG:=.cons hmA (.cons (show W.Has _ (isQ (qv n2) ((X.sm i λr=>y r*p.b r)+y i*p.b i)) from hmA) haA))
   .obtain rfl:i=p.m:=qo;repeat'(first|intro(g:Nat)|refine d46 ?_|intro v)
    exact Qs (ms,mr) hok
  .rintro⟨ms,mr⟩ hok;repeat'(first|intro(g:Nat)|refine d46 ?_|intro v)
   refine WC.JS (σ:=Unit) (λ_=>[(10,ptr g10)]) (λ_=>[Ow.cells g10 75 (qcs mr),Ow.slice sv 75 4 (Qa p.v ms)]) (λ_=>[isQ (qv mr) (X.sm p.m λr=>y r*p.b r),ge h0]) (λ_=>∀k,k<p.v->(X.sm p.m λr=>y r*p.a r k)=0) ?_ ?_
   .refine WC.lp (σ:=Nat) (λk=>[(100,.int .i64 (k:Int)),(99,.int .i64 (p.v:Int)),(98,sv),(10,ptr g10)]) (λ_=>[Ow.cells g10 75 (qcs mr),Ow.slice sv 75 4 (Qa p.v ms)]) (λ_=>[isQ (qv mr) (X.sm p.m λr=>y r*p.b r),ge h0,mF p.v ms (fsx p.a y p.m 0)]) (λk=>k<=p.v/\∀j,j<k->(X.sm p.m λr=>y r*p.a r j)=0) (λk=>p.v-k) 0 ⟨Nat.zero_le _,λj h=>absurd h qo⟩ ?_;rintro k ⟨hk,hz0⟩;by_cases d:k<p.v
    .have hq:fsx p.a y p.m 0 k=X.sm p.m λr=>y r*p.a r k:=by unfold fsx;rw[if_neg qo]
     refine WC.fact (isQ (qv (ms k)) (X.sm p.m λr=>y r*p.a r k)) (by rw[<-hq];exact W.Has.q (n:=p.v) (ms:=ms) (qf:=fsx p.a y p.m 0) hmA d) ?_;repeat'(first|intro(g:Nat)|refine d46 ?_|intro v)
     refine cV (Zn.sign (ms k) (X.sm p.m λr=>y r*p.a r k)) ?_;have hsg:=@Xf (X.sm p.m λr=>y r*p.a r k);by_cases h0':(X.sm p.m λr=>y r*p.a r k)=0
     .have hs1:=hsg.2 h0';repeat'(first|intro(g:Nat)|refine d46 ?_|intro v)
      refine Qq.mk (k+1) ⟨by omega,λj hj=>?_⟩ qo;by_cases e:j=k
      .subst e;exact h0'
      .exact hz0 j qo
     .have hs1:¬sgn (X.sm p.m λr=>y r*p.a r k).num=0:=λh=>h0' (hsg.1 h);repeat'(first|intro(g:Nat)|refine d46 ?_|intro v)
      refine WC.ret ?_;exact Fp [] (Qg.t1 rfl rfl) .nil ⟨22,rfl,.inr rfl,⟨λh=>absurd h qd,λh=>absurd (h.2.2.1 k d) h0'⟩,rfl,rfl⟩
    .obtain rfl:k=p.v:=qo;repeat'(first|intro(g:Nat)|refine d46 ?_|intro v)
     exact Qs () hz0
   .rintro⟨⟩ hz0;repeat'(first|intro(g:Nat)|refine d46 ?_|intro v)
    refine cV (Zn.sign mr (X.sm p.m λr=>y r*p.b r)) ?_;have hsg:=@XS (X.sm p.m λr=>y r*p.b r);by_cases hn0:(X.sm p.m λr=>y r*p.b r)<0
    .have hs1:=hsg.2 hn0;repeat'(first|intro(g:Nat)|refine d46 ?_|intro v)
     refine WC.ret ?_;exact Fp [] (Qg.t1 rfl rfl) .nil ⟨0,rfl,.inl rfl,⟨λ_=>⟨rfl,hok,hz0,hn0⟩,λ_=>rfl⟩,rfl,rfl⟩
    .have hs1:¬sgn (X.sm p.m λr=>y r*p.b r).num<0:=λh=>hn0 (hsg.1 h);repeat'(first|intro(g:Nat)|refine d46 ?_|intro v)
     refine WC.ret ?_;exact Fp [] (Qg.t1 rfl rfl) .nil ⟨22,rfl,.inr rfl,⟨λh=>absurd h qd,λh=>absurd h.2.2.2 hn0⟩,rfl,rfl⟩
 .repeat'(first|intro(g:Nat)|refine d46 ?_|intro v)
  refine WC.ret ?_;exact Fp [] (Qg.t1 rfl rfl) .nil ⟨22,rfl,.inr rfl,⟨λh=>absurd h qd,λh=>absurd h.1 hl⟩,rfl,rfl⟩
end Q
end K
end Go.Proofs.YtbnobghgnbockaaGreat
