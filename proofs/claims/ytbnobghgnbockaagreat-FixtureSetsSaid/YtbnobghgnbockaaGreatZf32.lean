/- Lemmas for a law. Conditions: none. -/
import Derived.Test.YtbnobghgnbockaaGreatProg
import Derived.WalkKit
import Derived.Conc.WgLib
import Derived.Test.YtbnobghgnbockaaGreatZf31
set_option linter.all false
set_option maxHeartbeats 32000000
set_option maxRecDepth 100000
namespace Go.Proofs.YtbnobghgnbockaaGreat
section
open Go.RowKit W
abbrev lnk:Go.Conc.Lib.WgLink:={add:=50,done:=52,wait:=55,relMerge:=86,disable:=87,enable:=88,inBubble:=89,associate:=90,fatal:=91,uOr:=92,uAdd:=93,raceRead:=94,uLoad:=95,uStore:=96,disassociate:=97,semrelease:=98,acquire:=126,isAssociated:=127,uCas:=128,raceWrite:=129,semacquire:=130,orU64:=178,addU64:=179,loadU64:=180,storeU64:=181,casU64:=200,tWgP:=147,tUP:=149,tAssoc:=150,tWg:=114,tAU:=111,tU64:=109,tUint:=85,tU32:=112,tPU32:=154,tPAU:=211,tPU64:=213,tNoCopy:=106,tANoCopy:=107,tAlign64:=108}
def wgLib:Go.Conc.Lib.WgLib Tryz.prog lnk where
 f_add:=Tryz.func50.trans kr
 f_done:=Tryz.func52.trans kr
 f_wait:=Tryz.func55.trans kr
 f_relMerge:=Tryz.func86.trans kr
 f_disable:=Tryz.func87.trans kr
 f_enable:=Tryz.func88.trans kr
 f_inBubble:=Tryz.func89.trans kr
 f_associate:=Tryz.func90.trans kr
 f_fatal:=Tryz.func91.trans kr
 f_uOr:=Tryz.func92.trans kr
 f_uAdd:=Tryz.func93.trans kr
 f_raceRead:=Tryz.func94.trans kr
 f_uLoad:=Tryz.func95.trans kr
 f_uStore:=Tryz.func96.trans kr
 f_disassociate:=Tryz.func97.trans kr
 f_semrelease:=Tryz.func98.trans kr
 f_acquire:=Tryz.func126.trans kr
 f_isAssociated:=Tryz.func127.trans kr
 f_uCas:=Tryz.func128.trans kr
 f_raceWrite:=Tryz.func129.trans kr
 f_semacquire:=Tryz.func130.trans kr
 f_orU64:=Tryz.func178.trans kr
 f_addU64:=Tryz.func179.trans kr
 f_loadU64:=Tryz.func180.trans kr
 f_storeU64:=Tryz.func181.trans kr
 f_casU64:=Tryz.func200.trans kr
 underlying_tWgP:=by kernel_rfl
 runUnderlying_tWgP:=λw=>by kernel_rfl
 sizeOf_tWgP:=λw=>by kernel_rfl
 isAgg_tWgP:=λw=>by kernel_rfl
 zeroValue_tWgP:=λw=>by kernel_rfl
 underlying_tUP:=by kernel_rfl
 runUnderlying_tUP:=λw=>by kernel_rfl
 sizeOf_tUP:=λw=>by kernel_rfl
 isAgg_tUP:=λw=>by kernel_rfl
 zeroValue_tUP:=λw=>by kernel_rfl
 underlying_tI32:=by kernel_rfl
 runUnderlying_tI32:=λw=>by kernel_rfl
 sizeOf_tI32:=λw=>by kernel_rfl
 isAgg_tI32:=λw=>by kernel_rfl
 zeroValue_tI32:=λw=>by kernel_rfl
 underlying_tWg:=by kernel_rfl
 runUnderlying_tWg:=λw=>by kernel_rfl
 sizeOf_tWg:=λw=>by kernel_rfl
 isAgg_tWg:=λw=>by kernel_rfl
 zeroValue_tWg:=λw=>by kernel_rfl
 underlying_tAU:=by kernel_rfl
 runUnderlying_tAU:=λw=>by kernel_rfl
 sizeOf_tAU:=λw=>by kernel_rfl
 isAgg_tAU:=λw=>by kernel_rfl
 zeroValue_tAU:=λw=>by kernel_rfl
 underlying_tU64:=by kernel_rfl
 runUnderlying_tU64:=λw=>by kernel_rfl
 sizeOf_tU64:=λw=>by kernel_rfl
 isAgg_tU64:=λw=>by kernel_rfl
 zeroValue_tU64:=λw=>by kernel_rfl
 underlying_tSh:=by kernel_rfl
 runUnderlying_tSh:=λw=>by kernel_rfl
 sizeOf_tSh:=λw=>by kernel_rfl
 isAgg_tSh:=λw=>by kernel_rfl
 zeroValue_tSh:=λw=>by kernel_rfl
 underlying_tU32:=by kernel_rfl
 runUnderlying_tU32:=λw=>by kernel_rfl
 sizeOf_tU32:=λw=>by kernel_rfl
 isAgg_tU32:=λw=>by kernel_rfl
 zeroValue_tU32:=λw=>by kernel_rfl
 underlying_tPU32:=by kernel_rfl
 runUnderlying_tPU32:=λw=>by kernel_rfl
 sizeOf_tPU32:=λw=>by kernel_rfl
 isAgg_tPU32:=λw=>by kernel_rfl
 zeroValue_tPU32:=λw=>by kernel_rfl
 underlying_tPAU:=by kernel_rfl
 runUnderlying_tPAU:=λw=>by kernel_rfl
 sizeOf_tPAU:=λw=>by kernel_rfl
 isAgg_tPAU:=λw=>by kernel_rfl
 zeroValue_tPAU:=λw=>by kernel_rfl
 underlying_tPU64:=by kernel_rfl
 runUnderlying_tPU64:=λw=>by kernel_rfl
 sizeOf_tPU64:=λw=>by kernel_rfl
 isAgg_tPU64:=λw=>by kernel_rfl
 zeroValue_tPU64:=λw=>by kernel_rfl
 underlying_t0:=by kernel_rfl
 runUnderlying_t0:=λw=>by kernel_rfl
 sizeOf_t0:=λw=>by kernel_rfl
 isAgg_t0:=λw=>by kernel_rfl
 zeroValue_t0:=λw=>by kernel_rfl
 underlying_t3:=by kernel_rfl
 runUnderlying_t3:=λw=>by kernel_rfl
 sizeOf_t3:=λw=>by kernel_rfl
 isAgg_t3:=λw=>by kernel_rfl
 zeroValue_t3:=λw=>by kernel_rfl
 underlying_t4:=by kernel_rfl
 runUnderlying_t4:=λw=>by kernel_rfl
 sizeOf_t4:=λw=>by kernel_rfl
 isAgg_t4:=λw=>by kernel_rfl
 zeroValue_t4:=λw=>by kernel_rfl
 underlying_t9:=by kernel_rfl
 runUnderlying_t9:=λw=>by kernel_rfl
 sizeOf_t9:=λw=>by kernel_rfl
 isAgg_t9:=λw=>by kernel_rfl
 zeroValue_t9:=λw=>by kernel_rfl
 underlying_t20:=by kernel_rfl
 runUnderlying_t20:=λw=>by kernel_rfl
 sizeOf_t20:=λw=>by kernel_rfl
 isAgg_t20:=λw=>by kernel_rfl
 zeroValue_t20:=λw=>by kernel_rfl
 underlying_t21:=by kernel_rfl
 runUnderlying_t21:=λw=>by kernel_rfl
 sizeOf_t21:=λw=>by kernel_rfl
 isAgg_t21:=λw=>by kernel_rfl
 zeroValue_t21:=λw=>by kernel_rfl
 room_tWg:=by kernel_rfl
 room_tU32:=by kernel_rfl
end
section
open W Go.RowKit
open Bl (Vc Bd Tc Sc)
open Go.Conc hiding base
open Go.ConcN hiding WD Has
open Go.ConcR (KK WgAt stA smA rd wr mk wgBlock Payload DC0)
open Go.Conc.Lib (WgLink WgLib)
section
variable {S:Sc}{K:Nat}
def on_sz(h0K:0<K){t:Tc}{i:Nat}{f:Vc}(h:Sv K f):Sv K (Bl.on t i f):=by
 unfold Bl.on;split
 ·exact h
 ·split
  ·exact⟨h.1.neg,h.2.neg⟩
  ·exact⟨Sq.zero.up h0K,Sq.zero.up h0K⟩
def co3_sz(h0K:0<K)(hs:Ss K S){i s j:Nat}(hi:i<S.n)(hj:j<4*S.m):Sq (6*K+3) (Bl.co3 S i s j):=by
 have ht:=hs.T (j/4) qo
 have hd:Sv K (Bl.dir (S.T (j/4)) j):=by
  unfold Bl.dir;split
  ·exact ht.2.2.1
  ·exact⟨ht.2.2.1.2.neg,ht.2.2.1.1⟩
 have ho:=on_sz (t:=S.T (j/4)) (i:=i) h0K hd;unfold Bl.co3;split
 ·exact ho.1.up qo
 ·split
  ·exact ho.2.up qo
  ·have hat:Sv K (S.at (j/2)):=by
    unfold Bl.Sc.at;rw[show j/2/2=j/4 by omega];split
    ·exact ht.1
    ·exact ht.2.1
   have h1:=(hat.1.sub (hs.B i hi).1.1).mul ho.2;have h2:=(hat.2.sub (hs.B i hi).1.2).mul ho.1;exact(h1.sub h2).up qo
def sgq_sz{k n:Nat}{x:Rat}(h:Sq k x):Sq k (x*Bl.sgq n):=by
 unfold Bl.sgq;split
 ·rw[show x*1=x by grind];exact h
 ·rw[show x* -1= -x by grind];exact h.neg
def one_sz(h0K:0<K):Sq K 1:=X.sq_one.up h0K
def lp_szs(h0K:0<K)(hK:K<=3)(hs:Ss K S)(ho:S.ok){w:Nat->Rat}(hw:∀i,i<S.n->Sq K (w i)):X.Szs (Bl.lp S w) 21 199903 18992898 where
 pos:=qd
 a:=λr hr j hj=>by
  have hr':r<6*S.n+6*S.m+S.n:=hr;have hj':j<4*S.m:=hj;show Sq 21 (if r<6*S.n then _ else _);split
  ·exact(sgq_sz (co3_sz h0K hs qo hj')).up qo
  ·split
   ·have ht:=hs.T ((r-6*S.n)/6) qo;unfold Bl.coE;repeat' split
    ·exact(one_sz h0K).neg.up qo
    ·exact ht.2.2.2.neg.up qo
    ·exact Sq.zero.up qo
    ·exact(one_sz h0K).up qo
    ·exact(one_sz h0K).neg.up qo
    ·exact Sq.zero.up qo
   ·unfold Bl.coS;split
    ·have ht:=hs.T (j/4) qo;unfold Bl.spn;exact(ht.2.2.1.1.ab.add ht.2.2.1.2.ab).up qo
    ·exact Sq.zero.up qo
 b:=λr hr=>by
  have hr':r<6*S.n+6*S.m+S.n:=hr;show Sq 21 (if r<6*S.n then _ else _);split
  ·split
   ·exact(sgq_sz (hw _ qo)).up qo
   ·exact Sq.zero.up qo
  ·split
   ·exact Sq.zero.up qo
   ·exact(hs.B _ qo).2.2.2.up qo
 g:=λ_ _=>Sq.zero.up qo
 k:=by
  have h1:=ho.n;have h2:=ho.m;show 2*((6*S.n+6*S.m+S.n)*(50*21+2)+1)+21<=199903;omega
 v:=by
  have h2:=ho.m;show 4*S.m<=48;omega
 m:=by
  have h1:=ho.n;have h2:=ho.m;show 6*S.n+6*S.m+S.n<=128;omega
 l:=by
  have h1:=ho.n;have h2:=ho.m;show(6*S.n+6*S.m+S.n)*(21+199903+1)+1+21+1<=18992898;omega
 t:=qd
 kl:=qd
 d:=by
  have h2:=ho.m;show 4*S.m*(2*(2*199903+1)+1)+1+2*(2*199903+1)<=400000000;omega
def wt_sz(hs:Ss K S)(c:Nat):∀i,i<S.n->Sq K (S.wt c i):=λi hi=>by
 unfold Bl.Sc.wt;split
 ·exact(hs.B i hi).2.2.1
 ·exact(hs.B i hi).2.1
end
abbrev RB:Nat:=32000000
def nK(M:Nat):Nat:=2*(M*1052+1)+21
def nL(M:Nat):Nat:=M*(nK M+22)+23
abbrev yB(S:Sc):Nat:=nL (6*S.n+6*S.m+S.n)+nK (6*S.n+6*S.m+S.n)+1
def nK_le{M:Nat}(h:M<=95):nK M<=199903:=by unfold nK;omega
def nL_le{M:Nat}(h:M<=95):nL M<=18992898:=by
 unfold nL;have:=Nat.mul_le_mul h (show nK M+22<=199925 by have:=nK_le h;omega);omega
def lp_szs2{K:Nat}{S:Sc}(h0K:0<K)(hK:K<=3)(hs:Ss K S)(ho:S.ok){w:Nat->Rat}(hw:∀i,i<S.n->Sq K (w i)):X.Szs (Bl.lp S w) 21 (nK (6*S.n+6*S.m+S.n)) (nL (6*S.n+6*S.m+S.n)):=by
 have h:=lp_szs h0K hK hs ho hw;have hm:=ho.m;have hn:=ho.n;have e:(Bl.lp S w).m=6*S.n+6*S.m+S.n:=rfl;have ev:(Bl.lp S w).v=4*S.m:=rfl;obtain⟨M,hM⟩:∃M,6*S.n+6*S.m+S.n=M:=⟨_,rfl⟩
 have h95:M<=95:=qo;have k1:=nK_le h95;have k2:=nL_le h95;rw[hM];rw[hM] at e;refine⟨h.pos,h.a,h.b,h.g,?_,h.v,h.m,?_,by omega,?_,?_⟩
 ·rw[e];unfold nK;omega
 ·rw[e];unfold nL;rw[show 21+nK M+1=nK M+22 by omega];omega
 ·unfold nL;by_cases c:M=0
  ·subst c;decide
  ·have:=Nat.mul_le_mul (show 1<=M by omega) (Nat.le_refl (nK M+22));omega
 ·rw[ev];have:=Nat.mul_le_mul (show 4*S.m<=40 by omega) (show 2*(2*nK M+1)+1<=799615 by omega);omega
abbrev RA:Nat:=399807
def RowD(S:Sc)(i:Nat)(vs:List Value)(f:Fct):Prop:=∃(A:Am) (kind xn yn:Nat) (x y:Nat->Rat) (z:Rat),vs=acs A (kind:Nat)/\f=fA A xn yn x y z/\AnsP (Bl.lp S (S.wt i)) kind xn yn x y z/\(∀k,k<xn->Sq RA (x k))/\(∀k,k<yn->Sq (yB S) (y k))
def solveD_c(Mp:Pm)(S:Sc)(K i:Nat)(h0K:0<K)(hK:K<=3)(hs:Ss K S)(ho:S.ok):FnB Tryz.prog 54 [pgv Mp ((4*S.m:Nat):Int)] [] [fP Mp (Bl.lp S (S.wt i))] (IsAns2 (Bl.lp S (S.wt i)) RA (yB S) RB):=by
 have hm:=ho.m;have hn:=ho.n;obtain⟨q,hq⟩:∃q,nK (6*S.n+6*S.m+S.n)=q:=⟨_,rfl⟩
 have k1:=nK_le (M:=6*S.n+6*S.m+S.n) qo;have k2:=nL_le (M:=6*S.n+6*S.m+S.n) qo;rw[hq] at k1;refine W.FnB.mono (Z.solve_c Mp (Bl.lp S (S.wt i)) 21 (nK (6*S.n+6*S.m+S.n)) (nL (6*S.n+6*S.m+S.n)) RB (lp_szs2 h0K hK hs ho (wt_sz hs i)) ?_ ?_ ?_ ?_ ?_) ?_
 ·show 4*S.m<=48;omega
 ·show 6*S.n+6*S.m+S.n<=128;omega
 ·rw[hq];show 2*q+1<=32000000;omega
 ·show nL _<=32000000;omega
 ·rw[hq];show 4*S.m*(2*(2*q+1)+1)+1<=32000000;have:=Nat.mul_le_mul (show 4*S.m<=40 by omega) (show 2*(2*q+1)+1<=799615 by omega);omega
 ·rintro v b g ⟨M,kind,xn,yn,x,y,z,h1,h2,h3,h4,h5,h6,h7⟩;exact⟨M,kind,xn,yn,x,y,z,h1,h2,h3,h4,λk hk=>(h5 k hk).up (by rw[hq];show 2*q+1<=399807;omega),h6,h7⟩
def knS_lit{bx:List Ow}{F:List Fct}{C N cap:Nat}(h1:N<=cap)(h2:cap<=maxLen):KnS bx F (.slice (some ⟨C,0,none⟩) N cap) N:=λfr w _=>⟨_,cap,rfl,h1,h2,.inr ⟨C,0,rfl⟩⟩
def WDo.byP{P:Program}{n:Nat}{L:List Oper}{hs:List Nat}{b0 bx:List Ow}{F0 F:List Fct}{r:Plan}{e:Env}{T:CF->World->RQ->Prop}{p:Prop}(hp:∀fr w,OK fr bx F w->p)(h:p->WDo P n L hs b0 F0 r e bx F T):WDo P n L hs b0 F0 r e bx F T:=λfr w0 listed a w fuel Q' h1 h2 h3 h4 h5 h6 h7 h8 ho=>h (hp fr w ho) fr w0 listed a w fuel Q' h1 h2 h3 h4 h5 h6 h7 h8 ho
def one_acs{bx:List Ow}{F:List Fct}{A:Am}{kind:Int}{xn yn:Nat}{x y:Nat->Rat}{z:Rat}(h:W.Has F (fA A xn yn x y z)):QP bx F (acs A kind):=
 .cons (One.lit rfl rfl) (.cons (One.sl (KnS.ff (λp hf=>(h p hf).1))) (.cons (One.sl (KnS.ff (λp hf=>(h p hf).2.1))) (YL (λp hf=>(h p hf).2.2))))
namespace K
attribute [local irreducible] WC WL WD YO LO Qq W.Fin Qk Qw Qj Row QJ Qv KnS Has W.One Qa Qs
attribute [local irreducible] WDo
def decide1_c[Payload](p:Ph)(hty:p.ty=lnk.tWg)(hBx:p.S0 p.Bx)(C N cap:Nat)(hC:p.C=C)(hm7:p.m=7)(hN:p.N=cap)(hcap:N<=cap)(hlen:cap<=maxLen)(M:SM)(S:Sc)(K:Nat)(h0K:0<K)(hK:K<=3)(hs:Ss K S)(ho:S.ok)(hF:p.F=Ha Tryz.prog p.hid (RowD S))
  (i gi g2 g3 g8:Nat) (w:World) (l1:Nat->Option Obj) (hi:i<N) (hN2:N=2^S.n)
  (hok:∀ds,OK (frW p i gi ds) [Ow.cells gi 3 [.int .i64 (i:Int)]] [geL l1,ce g2 31 [M.l],ce g3 32 [M.t],ce g8 104 [.slice (some ⟨C,0,none⟩) N cap],fSl M S,fSt M S] w) :
  Wrk Tryz.prog p i gi (born Tryz.prog {target:=.fn (.func 51) [ptr p.Wg,ptr g2,ptr g3,ptr gi,ptr g8].toArray,args:=#[]}) w:=by
 refine worker_wc wgLib hty hBx (n:=22) (x:=.tmp 0) (e0:=[(0,ptr p.Wg),(1,ptr g2),(2,ptr g3),(3,ptr gi),(4,ptr g8)]) Tryz.func51 kr rfl rfl Tryz.ntmps51 rfl suA rfl kr [0,1,2] (.h 0<|.h 1<|.h 2<|.l 3<|.f 4<|.f 5<|.f 6<|.f 7<|.l 8 .done) kr ?_ hok;repeat'(first|intro(g:Nat)|refine gP ?_|intro v)
 refine cW (Hq M S i qo K h0K qo hs ho) λMp=>?_;refine WL.QE (fF Mp.gv (Bl.lp S (S.wt i)).v Mp.mg (Bl.lp S (S.wt i)).g) (W.Has.pg (M:=Mp) (m:=(Bl.lp S (S.wt i)).m) (gn:=(Bl.lp S (S.wt i)).v) (ln:=λ_=>(Bl.lp S (S.wt i)).v) (a:=(Bl.lp S (S.wt i)).a) (b:=(Bl.lp S (S.wt i)).b) hmA) ?_;repeat'(first|intro(g:Nat)|refine gP ?_|intro v)
 refine⟨by trivial,?_⟩;refine WDo.y rfl (YO.ldF T.KR rfl (tg:=104) (cs:=[.slice (some ⟨C,0,none⟩) N cap]) hmA rfl) rfl rfl ?_;refine WDo.y rfl (YO.ldB T.sc3 rfl (tg:=3) (cs:=[.int .i64 (i:Int)]) meA rfl) rfl rfl ?_;refine WDo.y rfl (YO.ldW T.r118 rfl (tg:=118) (cs:=pcs Mp ((4*S.m:Nat):Int)) meA rfl) rfl rfl ?_;refine WDo.l To.up rfl rfl rfl (LO.call (first:=[]) (cap:=[]) rfl (vs:=[pgv Mp ((4*S.m:Nat):Int)]) (.cons rfl .nil) [] _ (.refl _) (solveD_c Mp S K i h0K hK hs ho) (W.Qu.all (.cons hmA .nil)) ?_);rintro _ _ _ ⟨A,kind,xn,yn,x,y,z,rfl,rfl,rfl,ha,hx,hy,hz⟩;refine⟨.inr ⟨List.Sublist.refl _,λf hf=>List.mem_append_right _ hf⟩,?_⟩;refine sNn ?_;refine WDo.fy rfl (YO.move rfl) rfl rfl ?_;refine WDo.fy rfl (YO.extract (vs:=[agv A (kind:Nat),.int .i64 0]) rfl rfl) rfl rfl ?_;refine WDo.fy rfl (YO.extract (vs:=[agv A (kind:Nat),.int .i64 0]) rfl rfl) rfl rfl ?_;refine WDo.fy rfl (YO.ix T.s104 rfl rfl (knS_lit hcap hlen) hi) rfl rfl ?_;refine WDo.byP (p:=∀u∈acs A (kind:Nat),u.oneCell'=true) (λfr w ho=>(one_acs hmA).all ho) λh1c=>?_;refine WDo.store (vs:=acs A (kind:Nat)) (f:=fA A xn yn x y z) rfl kr ?_ rfl rfl kr ?_ hm7.symm qo qo (box:=gi) (tg:=3) (cs:=[.int .i64 (i:Int)]) meA hF ?_ (λ_ _ _ h=>h) ⟨A,kind,xn,yn,x,y,z,rfl,rfl,ha,hx,hy⟩
 ·rw[hC,hm7,Nat.mul_comm 7 i];show some (Value.pointer (some ⟨C,0+i*7,none⟩))=_;rw[Nat.zero_add]
 ·exact h1c
 ·exact hmA
end K
end
section
open W Go.RowKit
open Bl (Vc Bd Tc Sc)
open Go.Conc hiding base
open Go.ConcN hiding WD Has
open Go.ConcR (KK WgAt stA smA rd wr mk wgBlock Payload DC0)
open Go.Conc.Lib (WgLink WgLib)
section
variable {P:Program}{o:Oper}{a:Act}{w:World}{n:Nat}{ds:List Deferred}{e:Env}
def run_alloc0{t:TypeId}{i:TypeInfo}{z:Value}(hop:o.op=.alloc t)(hi:P.info? t=some i)(hz:i.zero=some z):(execOp a.eval o).run P w=.ok (.value (.pointer (some ⟨w.heap.size,0,none⟩))) (w.alloc (.cells z.cells t))/\(execOp a.eval o).events P w #[]=#[]:=by
 constructor
 ·simp[execOp,hop,Instr.alloc,zeroValue,typeInfo,hi,hz,newVar,newRow]
 ·simp[execOp,hop,Instr.alloc,zeroValue,typeInfo,hi,hz,newVar,newRow]
def run_go{x:Operand}{f:FuncId}{cap:Array Value}(hop:o.op=.go {callee:=.value x,args:=#[],argTypes:=#[]})(hx:a.eval x=.func (.func f) #[] cap):(execOp a.eval o).run P w=.ok (.spawn {target:=.fn (.func f) cap,args:=#[]}) w/\(execOp a.eval o).events P w #[]=#[]:=by
 constructor
 ·simp[execOp,hop,resolve,hx,Deferred.ofValue]
 ·simp[execOp,hop,resolve,hx,Deferred.ofValue]
def run_mkf{f:FuncId}{cap:List Operand}{us:List Value}(hop:o.op=.makeFunc (.func f) #[] cap.toArray)(hk:Kn ds n a e)(h:Evs e cap us):(execOp a.eval o).run P w=.ok (.value (.func (.func f) #[] us.toArray)) w/\(execOp a.eval o).events P w #[]=#[]:=by
 constructor<;>simp[execOp,hop,<-h.map hk,Instr.makeFunc]
end
structure RwD where
 A:Am
 kd:Nat
 xn:Nat
 yn:Nat
 x:Nat->Rat
 y:Nat->Rat
 z:Rat
def psh(k:Nat)(x:Nat->Rat):Nat×(Nat->Vc):=(k,λj=>⟨x (2*j),x (2*j+1)⟩)
section
variable {P:Program}{n:Nat}{c:Code}{e:Env}{bx bx':List Ow}{F:List Fct}{Q:Post}
def WX.keep{g t:Nat}{cs:List Value}(hs:Rem bx (.cells g t cs) bx')(h:WX P n c e bx' (ce g t cs::F) Q):WX P n c e bx F Q:=λfr Ds w0 a w hn hD hk hr ho=>h fr Ds w0 a w hn hD hk hr (ho.keep hs)
def y_fall{e:Env}{bx:List Ow}{F:List Fct}{ty:TypeId}:YO Tryz.prog (.build 63 #[]) ty e bx F (.agg #[.int .i64 0,.slice none 0 0]):=YO.build (parts:=[]) (us:=[]) .nil λ_=>by kernel_rfl
def y_cert{e:Env}{bx:List Ow}{F:List Fct}{ty:TypeId}:YO Tryz.prog (.build 39 #[]) ty e bx F (.agg #[.slice none 0 0]):=YO.build (parts:=[]) (us:=[]) .nil λ_=>by kernel_rfl
def y_fall2{e:Env}{bx:List Ow}{F:List Fct}{ty:TypeId}{x y:Operand}{c:Int}{v:Value}{n':Nat}(hx:ev e x=some (.int .i64 c))(hy:ev e y=some v)(hv:KnS bx F v n'):YO Tryz.prog (.build 63 #[(0,x),(1,y)]) ty e bx F (.agg #[.int .i64 c,v]):=λn1 fr a w o h1 h2 h3 h4=>by
 obtain⟨a',c',rfl,_⟩:=(hv fr w h4).is;exact YO.build (parts:=[(0,x),(1,y)]) (us:=[.int .i64 c,.slice a' n' c']) (.cons hx (.cons hy .nil)) (λ_=>by kernel_rfl) n1 fr a w o h1 h2 h3 h4
def mF0v{F:List Fct}{n:Nat}:W.Has F (lM JD n (λ_=>(m00,m00)) λ_=>⟨0,0⟩):=λp hf i hi=>⟨Jm p hf,Jm p hf⟩
def lFv_same{F:List Fct}{v:Value}{n:Nat}{ms:Nat->VM}{xs ys:Nat->Vc}(h:W.Has F (lF JD v n ms xs))(he:∀j,j<n->ys j=xs j):W.Has F (lF JD v n ms ys):=λp hf=>⟨(h p hf).1,λk hk=>by rw[he k hk];exact(h p hf).2 k hk⟩
def has_push{F:List Fct}{v:Value}{m k:Nat}{ms:Nat->QM}{q:Nat->Rat}(h:W.Has F (fF v (4*m) ms q))(hk:k<2*m):W.Has F (fV (ms (2*(k:Int)).toNat,ms (2*(k:Int)+1).toNat) ⟨q (2*k),q (2*k+1)⟩):=λp hf=>by
 rw[show(2*(k:Int)).toNat=2*k by omega,show(2*(k:Int)+1).toNat=2*k+1 by omega];exact⟨W.Has.q h.fm qo p hf,W.Has.q h.fm qo p hf⟩
def lF_lit{bx:List Ow}{F:List Fct}{fr:CF}{w:World}{v:Value}{n:Nat}{ms:Nat->VM}{xs:Nat->Vc}(h:W.Has F (lF JD v n ms xs))(ho:OK fr bx F w):∃a c,v=.slice a n c:=by
 obtain⟨a,c,h1,_⟩:=(KnS.f (bx:=bx) h.ls fr w ho).is;exact⟨a,c,h1⟩
def WC.byPk{P:Program}{n:Nat}{c:Code}{e:Env}{bx:List Ow}{F:List Fct}{Q:Post}{p:Prop}(hp:∀fr w,OK fr bx F w->p)(h:p->WC P n c e bx F Q):WC P n c e bx F Q:=λfr w0 a w hk hr ho=>h (hp _ w ho) fr w0 a w hk hr ho
def LO.appPl{el':TypeId}{e:Env}{bx:List Ow}{F:List Fct}{ty:TypeId}{x y:Operand}{u v w:Value}{n k:Nat}{ms:Nat->Value×(Nat->VM)}{xs:Nat->Nat×(Nat->Vc)}{mv:Nat->VM}{K:Qg}{bx2:Value->List Ow}(hx:ev e x=some v)(hy:ev e y=some u)(hu:Ow.slice u el' 1 [w]∈bx)(kd:KnS bx F w k)(hs:∀v',Sel bx (lO plS v 125 n ms xs) (lO plS v' 125 (n+1) (upd ms n (w,mv)) xs) (bx2 v'))(hl:n<=1000000)(h:∀v',K v' (bx2 v') F) :
  LO Tryz.prog (.call {callee:=.builtin .append,args:=#[x,y],argTypes:=#[37,37]}) ty e bx F K:=
 LO.appG (S:=plS) (c:=1) T.e37 hx hy hu (J4 (S:=plS) (mm:=(w,mv))) rfl (.cons (One.sl kd) .nil) hs qd qd hl qd h
def has_plS{F:List Fct}{r:Nat->RwD}{R:RwD}{i k:Nat}{v:Value}{mv:Nat->VM}(hR:r i=R)(h:W.Has F (lF JD v k mv (psh k R.x).2)):W.Has F (plS.fc (v,mv) ((λc=>psh k (r c).x) i)):=by
 show W.Has F (lF JD v k mv (psh k (r i).x).2);rw[hR];exact h
def fA_x{F:List Fct}{A:Am}{xn yn:Nat}{x y:Nat->Rat}{z:Rat}(h:W.Has F (fA A xn yn x y z)):W.Has F (fF A.xv xn A.mx x):=λp hf=>(h p hf).1
def fA_y{F:List Fct}{A:Am}{xn yn:Nat}{x y:Nat->Rat}{z:Rat}(h:W.Has F (fA A xn yn x y z)):W.Has F (fF A.yv yn A.my y):=λp hf=>(h p hf).2.1
def fA_z{F:List Fct}{A:Am}{xn yn:Nat}{x y:Nat->Rat}{z:Rat}(h:W.Has F (fA A xn yn x y z)):W.Has F (isQ (qv A.mz) z):=λp hf=>(h p hf).2.2
def has_allF{F:List Fct}{N i:Nat}{fs:Nat->Fct}(h:W.Has F (allF N fs))(hi:i<N):W.Has F (fs i):=λp hf=>h p hf i hi
def acs_at{vs:Nat->List Value}{A:Am}{kd:Int}{i:Nat}(hv:vs i=acs A kd)(k:Nat)(hk:k<7):(acs A kd)[k]?=some (Jb 7 vs (i*7+k)):=by
 unfold Jb;rw[show(i*7+k)/7=i by omega,show(i*7+k)%7=k by omega,hv];match k,hk with|0,_=>rfl|1,_=>rfl|2,_=>rfl|3,_=>rfl|4,_=>rfl|5,_=>rfl|6,_=>rfl
def WL.byPk{L rest:List Oper}{Q2:Env->List Ow->List Fct->Prop}{p:Prop}(hp:∀fr w,OK fr bx F w->p)(h:p->WL P n L rest e bx F Q2):WL P n L rest e bx F Q2:=λfr w0 a w Q' hQ hk hr ho=>h (hp _ w ho) fr w0 a w Q' hQ hk hr ho
def made_len(z:Value)(n:Nat):∃cs,(madeCells z.cells n).toList=cs/\cs.length=n:=⟨_,rfl,by simp[madeCells]⟩
def slice_open{fr:CF}{w:World}{v:Value}{el m N:Nat}{cs:List Value}(ho:OK fr bx F w)(hb:Ow.slice v el m cs∈bx)(hm:0<m)(hN:0<N)(hl:cs.length=N*m):∃C cap,v=.slice (some ⟨C,0,none⟩) N cap/\N<=cap/\cap<=maxLen:=by
 obtain⟨n',h1,⟨hv,h2⟩|⟨C',cap',sp,hv,h3,h4,_⟩⟩:=ho.owns _ hb
 ·exfalso;have:=Nat.mul_pos hN hm
  simp_all
 ·have:n'=N:=Nat.eq_of_mul_eq_mul_right hm (h1.symm.trans hl);exact⟨C',cap',by rw[<-this];exact hv,by rw[<-this];exact h3,h4⟩
end
def IsDec(S:Sc):Qg:=λv B G=>B=[]/\
 ((∃(cv:Value) (ms:Nat->Value×(Nat->VM)) (xs:Nat->Nat->Rat),v=.tuple #[.agg #[cv],.agg #[.int .i64 0,.slice none 0 0],.int .i64 0]/\G=[lF plS cv (2^S.n) ms λc=>psh (2*S.m) (xs c)]/\∀c,c<2^S.n->X.K3 (Bl.lp S (S.wt c)) (xs c)/\∀k,k<4*S.m->Sq RA (xs c k))\/
  ∃(c:Nat) (yv:Value) (my:Nat->QM) (y:Nat->Rat),v=.tuple #[.agg #[.slice none 0 0],.agg #[.int .i64 (c:Int),yv],.int .i64 16]/\G=[fF yv (Bl.lp S (S.wt c)).m my y]/\c<2^S.n/\X.Ua (Bl.lp S (S.wt c)) y/\(∀k,k<(Bl.lp S (S.wt c)).m->Sq (yB S) (y k))/\∀c',c'<c->∃x,X.K3 (Bl.lp S (S.wt c')) x)
instance pay:Payload:=⟨104⟩
namespace K
attribute [local irreducible] WC WL WD YO LO Qq W.Fin Qk Qw Qj Row QJ Qv KnS Has W.One Qa Qs
def d25{G G':Prop}(h:G')(s:Bx G'->G:=by
 intro h;first|refine gF ?_|(apply WC.drawR (id:=18) [4,5] [0,1,2,3,4,7] (.h 0<|.h 1<|.h 2<|.h 3<|.h 4<|.l 5<|.l 6<|.h 7 .done) mixed kr;(focus((repeat(first|exact Y7.nil _|(apply Y7.cons;exact rfl;(repeat(first|exact Rem.head|apply Rem.tail)))));done)))|(apply WC.draw (id:=23) [0,1,2,3,4,5,6,7,8,9,10,11,12,13,14,15,16] (.h 0<|.h 1<|.h 2<|.h 3<|.h 4<|.h 5<|.h 6<|.h 7<|.h 8<|.h 9<|.h 10<|.h 11<|.h 12<|.h 13<|.h 14<|.h 15<|.h 16<|.l 17 .done) mixed kr)|fail
 exact Bx.h h):G:=s ⟨h⟩
attribute [local irreducible] WX
def decide_c(M:SM)(S:Sc)(K:Nat)(h0K:0<K)(hK:K<=3)(hs:Ss K S)(ho:S.ok):FnB Tryz.prog 25 [M.l,M.t] [] [isX Tryz.prog,fSl M S,fSt M S] (IsDec S):=by
 refine HG [(0,M.l),(1,M.t)] 88 Tryz.func25 rfl Tryz.ntmps25 kr rfl suA λh0=>?_;have hn:=ho.n;have hm:=ho.m;have h32:2^S.n<=2^5:=Nat.pow_le_pow_right qd hn;have hN0:0<2^S.n:=Nat.two_pow_pos _;obtain⟨N,hN⟩:∃N,2^S.n=N:=⟨_,rfl⟩
 refine WX.seq (WX.of ?_);repeat'(first|intro(g:Nat)|refine d25 ?_|intro v)
 revert g;intro g5;revert g;intro g4;revert g;intro g3;revert g;intro g2;refine WX.keep (g:=g2) (t:=31) (cs:=[M.l]) (by repeat(first|exact Rem.head|apply Rem.tail)) ?_;refine WX.keep (g:=g3) (t:=32) (cs:=[M.t]) (by repeat(first|exact Rem.head|apply Rem.tail)) ?_;refine WX.seq (WX.of ?_);repeat'(first|intro(g:Nat)|refine d25 ?_|intro v)
 refine cV (Y6 M S K qo hs ho) ?_;repeat'(first|intro(g:Nat)|refine d25 ?_|intro v)
 refine WX.seq (WX.of ?_);repeat'(first|intro(g:Nat)|refine d25 ?_|intro v)
 obtain⟨cs,hcs,hcl⟩:=made_len (.agg #[.int .i64 0,.slice none 0 0,.slice none 0 0,.bool false,.slice none 0 0,.bool false,.slice none 0 0]) (2^S.n*7);refine WL.l qr qr (LO.make T.e104 (n:=2^S.n) rfl rfl qo qo hcs λav=>?_);refine WL.byPk (p:=∃C cap,av=.slice (some ⟨C,0,none⟩) (2^S.n) cap/\2^S.n<=cap/\cap<=maxLen) ?hp ?_;case hp=>exact λfr w ho=>slice_open (v:=av) (el:=122) (m:=7) (cs:=cs) ho (by repeat(first|exact List.mem_cons_self ..|apply List.mem_cons_of_mem)) qd hN0 hcl
 rintro⟨C,cap,rfl,hc1,hc2⟩;repeat'(first|intro(g:Nat)|refine d25 ?_|intro v)
 revert g;intro g8;refine WX.keep (g:=g8) (t:=104) (cs:=[.slice (some ⟨C,0,none⟩) (2^S.n) cap]) (by repeat(first|exact Rem.head|apply Rem.tail)) ?_;have hadd:ZZ Tryz.prog 50:=⟨_,Tryz.func50,by kernel_rfl,rfl⟩
 have hwait:ZZ Tryz.prog 55:=⟨_,Tryz.func55,by kernel_rfl,rfl⟩
 refine WX.phase (P:=Tryz.prog) (L:=lnk) (FP:=[ce g2 31 [M.l],ce g3 32 [M.t],ce g8 104 [.slice (some ⟨C,0,none⟩) (2^S.n) cap],fSl M S,fSt M S]) (C:=C) (N:=2^S.n) (cap:=cap) (m:=7) (Bx:=g8) (ety:=122) (tint:=3) (v0:=.slice (some ⟨C,0,none⟩) (2^S.n) cap) (cs:=cs)
  (capt:=λWg g=>[ptr Wg,ptr g2,ptr g3,ptr g,ptr g8]) (fw:=51) (Rr:=RowD S) (d5:=9) (t31:=.tmp 31)
  (E0:=λWg=>[(9,ptr Wg),(8,ptr g8),(2,ptr g2),(3,ptr g3),(4,ptr g4),(5,ptr g5),(6,.int .i64 0)])
  (E:=λWg i=>[(30,.int .i64 (i:Int)),(29,.int .i64 ((2^S.n:Nat):Int)),(9,ptr Wg),(8,ptr g8),(2,ptr g2),(3,ptr g3),(4,ptr g4),(5,ptr g5),(6,.int .i64 0)])
  (E1:=λWg i=>[(31,.bool (decide (i<2^S.n))),(30,.int .i64 (i:Int)),(29,.int .i64 ((2^S.n:Nat):Int)),(9,ptr Wg),(8,ptr g8),(2,ptr g2),(3,ptr g3),(4,ptr g4),(5,ptr g5),(6,.int .i64 0)])
  (E2:=λWg i g=>[(10,ptr g),(30,.int .i64 (i:Int)),(29,.int .i64 ((2^S.n:Nat):Int)),(9,ptr Wg),(8,ptr g8),(2,ptr g2),(3,ptr g3),(4,ptr g4),(5,ptr g5),(6,.int .i64 0)])
  (E3:=λWg i g=>[(34,.func (.func 51) #[] [ptr Wg,ptr g2,ptr g3,ptr g,ptr g8].toArray),(10,ptr g),(30,.int .i64 (i:Int)),(29,.int .i64 ((2^S.n:Nat):Int)),(9,ptr Wg),(8,ptr g8),(2,ptr g2),(3,ptr g3),(4,ptr g4),(5,ptr g5),(6,.int .i64 0)])
  (EZ:=λWg=>[(8,ptr g8),(2,ptr g2),(3,ptr g3),(4,ptr g4),(5,ptr g5),(6,.int .i64 0)])
  wgLib hmA (.refl _) qd hN0 qo hmA ?hFP ?h5 rfl rfl rfl (λWg=>suA) ?h6 ?h7 (λWg i hi=>rfl) ?h8 ?h9 rfl ?h9d ?hM rfl ?hMd ?hG rfl ?hGd ?h11 ?h12 rfl ?h12d ?hW ?hR
 case hFP=>
  intro f hf;rcases List.mem_cons.1 hf with rfl|hf
  ·exact⟨hmA,λ_ _ _ h=>h⟩
  rcases List.mem_cons.1 hf with rfl|hf
  ·exact⟨hmA,λ_ _ _ h=>h⟩
  rcases List.mem_cons.1 hf with rfl|hf
  ·exact⟨hmA,λ_ _ _ h=>h⟩
  rcases List.mem_cons.1 hf with rfl|hf
  ·exact⟨hmA,λ_ _ _ h=>h⟩
  obtain rfl:=List.mem_singleton.1 hf;exact⟨hmA,λ_ _ _ h=>h⟩
 case h5=>
  intro a w;obtain⟨ti,h1,h2⟩:=Option.map_eq_some_iff.1 (show(Tryz.prog.info? lnk.tWg).map (·.zero)=some (some (.agg #[.int .u64 0,.int .u32 0])) by kernel_rfl);exact run_alloc0 rfl h1 h2
 case h6=>
  intro Wg l0;repeat'(first|intro(g:Nat)|refine d25 ?_|intro v)
  refine WL.y (YO.len T.s104 rfl (knS_lit hc1 hc2)) qr qr ?_;repeat'(first|intro(g:Nat)|refine d25 ?_|intro v)
  exact⟨by trivial,suA,haA⟩
 case h7=>
  intro Wg l0 i hi;by_cases d:i<2^S.n
  ·simp only[d,decide_true];repeat'(first|intro(g:Nat)|refine d25 ?_|intro v)
   exact⟨by trivial,suA,haA⟩
  ·simp only[d,decide_false];repeat'(first|intro(g:Nat)|refine d25 ?_|intro v)
   exact⟨by trivial,suA,haA⟩
 case h8=>
  intro Wg l0 i hi;repeat'(first|intro(g:Nat)|refine d25 ?_|intro v)
  exact⟨by trivial,_,suA,rfl,haA⟩
 case h9=>exact λWg i g ds a w hk=>ZW hadd rfl rfl (vs:=[ptr Wg,.int .i64 1]) (by simp[hk.eval (x:=.tmp 9) (v:=ptr Wg) rfl];rfl)
 case h9d=>exact λWg i g ds a hk=>(hk.put qr _).sub suA
 case hM=>exact λWg i g ds a w hk=>run_mkf rfl hk (cap:=[.tmp 9,.tmp 2,.tmp 3,.tmp 10,.tmp 8]) evA
 case hMd=>exact λWg i g ds a hk=>(hk.put qr _).sub suA
 case hG=>exact λWg i g ds a w hk=>run_go rfl (hk.eval rfl)
 case hGd=>exact λWg i g ds a hk=>hk
 case h11=>
  intro Wg l0 i g hi;repeat'(first|intro(g:Nat)|refine d25 ?_|intro v)
  exact⟨by trivial,suA,haA⟩
 case h12=>exact λWg ds a w hk=>ZW hwait rfl rfl (vs:=[ptr Wg]) (by simp[hk.eval (x:=.tmp 9) (v:=ptr Wg) rfl])
 case h12d=>exact λWg ds a hk=>(hk.put qr _).sub suA
 case hW=>exact λp l1 i g w h1 h2 h3 h4 h5 h6 hi h7 h8 hok=>decide1_c p h1 h2 C (2^S.n) cap h3 h4 h5 h7 h8 M S K h0K hK hs ho h6 i g g2 g3 g8 w l1 hi rfl hok
 case hR=>
  intro Wg vs fs hvf
  have hex:∀i,∃r:RwD,i<2^S.n->vs i=acs r.A (r.kd:Nat)/\fs i=fA r.A r.xn r.yn r.x r.y r.z/\AnsP (Bl.lp S (S.wt i)) r.kd r.xn r.yn r.x r.y r.z/\(∀k,k<r.xn->Sq RA (r.x k))/\(∀k,k<r.yn->Sq (yB S) (r.y k)):=λi=>by
   by_cases d:i<2^S.n
   ·obtain⟨A,kd,xn,yn,x,y,z,h⟩:=(hvf i d).1;exact⟨⟨A,kd,xn,yn,x,y,z⟩,λ_=>h⟩
   ·exact⟨⟨⟨.slice none 0 0,.slice none 0 0,λ_=>m00,λ_=>m00,m00⟩,0,0,0,λ_=>0,λ_=>0,0⟩,λh=>absurd h d⟩
  obtain⟨r,hr⟩:∃r:Nat->RwD,∀i,i<2^S.n->vs i=acs (r i).A ((r i).kd:Nat)/\fs i=fA (r i).A (r i).xn (r i).yn (r i).x (r i).y (r i).z/\AnsP (Bl.lp S (S.wt i)) (r i).kd (r i).xn (r i).yn (r i).x (r i).y (r i).z/\(∀k,k<(r i).xn->Sq RA ((r i).x k))/\(∀k,k<(r i).yn->Sq (yB S) ((r i).y k)):=⟨λi=>(hex i).choose,λi=>(hex i).choose_spec⟩
  have hall:∀c,c<2^S.n->(r c).kd≠1->X.K3 (Bl.lp S (S.wt c)) (r c).x/\(r c).xn=4*S.m/\∀k,k<4*S.m->Sq RA ((r c).x k):=λc hc hk=>by
   obtain⟨_,_,ha,hx,_⟩:=hr c hc;rcases ha with ⟨h1,_⟩|⟨_,h2,_,h3⟩|⟨_,h2,_,_,h3⟩
   ·exact absurd h1 hk
   ·exact⟨h3.1,h2,λk hk=>hx k (by rw[h2];exact hk)⟩
   ·exact⟨h3.1,h2,λk hk=>hx k (by rw[h2];exact hk)⟩
  refine WX.of ?_;repeat'(first|intro(g:Nat)|refine d25 ?_|intro v)
  revert g;intro g11;refine WC.Q8 125 1 ?_;refine WC.Xd (σ:=Value×(Nat->Value×(Nat->VM))) (λst=>[(11,ptr g11),(4,ptr g4),(5,ptr g5),(6,.int .i64 0)]) (λst=>[lO plS st.1 125 (2^S.n) st.2 (λc=>psh (2*S.m) (r c).x),Ow.cells g11 39 [st.1],Ow.cells g5 63 [.int .i64 0,.slice none 0 0],Ow.cells g4 39 [.slice none 0 0]]) (λst=>[lM plS (2^S.n) st.2 (λc=>psh (2*S.m) (r c).x),ge h0]) (λ_=>∀j,j<2^S.n->(r j).kd≠1) ?_ ?_
  ·refine WC.lp (σ:=Nat×Value×(Nat->Value×(Nat->VM))) (λst=>[(39,.int .i64 (st.1:Int)),(38,.int .i64 ((2^S.n:Nat):Int)),(37,.slice (some ⟨C,0,none⟩) (2^S.n) cap),(3,ptr g3),(11,ptr g11),(4,ptr g4),(5,ptr g5),(6,.int .i64 0)]) (λst=>[lO plS st.2.1 125 st.1 st.2.2 (λc=>psh (2*S.m) (r c).x),Ow.cells g11 39 [st.2.1],Ow.cells g5 63 [.int .i64 0,.slice none 0 0],Ow.cells g4 39 [.slice none 0 0]])
    (λst=>[lM plS st.1 st.2.2 (λc=>psh (2*S.m) (r c).x),slC (.slice (some ⟨C,0,none⟩) (2^S.n) cap) (2^S.n) 7 (Jb 7 vs),allF (2^S.n) fs,ge h0,ce g3 32 [M.t],fSt M S]) (λst=>st.1<=2^S.n/\∀j,j<st.1->(r j).kd≠1) (λst=>2^S.n-st.1) (0,.slice none 0 0,λ_=>(.slice none 0 0,λ_=>(m00,m00))) ⟨Nat.zero_le _,λj h=>absurd h (by simp)⟩ ?_ (hG:=.cons W.Has.HS haA)
   rintro⟨i,cv,ms⟩ ⟨hi,hk1⟩;simp only at hi hk1 ⊢;by_cases d:i<2^S.n
   ·obtain⟨hv,hf,hans,hsx,hsy⟩:=hr i d;refine WC.fact (fA (r i).A (r i).xn (r i).yn (r i).x (r i).y (r i).z) (by rw[<-hf];exact has_allF hmA d) ?_;refine WC.fact (fF (r i).A.xv (r i).xn (r i).A.mx (r i).x) (fA_x (A:=(r i).A) (xn:=(r i).xn) (yn:=(r i).yn) (x:=(r i).x) (y:=(r i).y) (z:=(r i).z) hmA) ?_;refine WC.fact (fF (r i).A.yv (r i).yn (r i).A.my (r i).y) (fA_y (A:=(r i).A) (xn:=(r i).xn) (yn:=(r i).yn) (x:=(r i).x) (y:=(r i).y) (z:=(r i).z) hmA) ?_;refine WC.fact (isQ (qv (r i).A.mz) (r i).z) (fA_z (A:=(r i).A) (xn:=(r i).xn) (yn:=(r i).yn) (x:=(r i).x) (y:=(r i).y) (z:=(r i).z) hmA) ?_;generalize hR:r i=R at hv hf hans hsx hsy ⊢;repeat'(first|intro(g:Nat)|refine d25 ?_|intro v)
    refine WL.y (YO.ldRS (us:=acs R.A (R.kd:Nat)) (f:=Jb 7 vs) (n:=2^S.n) (sz:=7) T.r122 rfl hmA qo rfl (acs_at hv)) qr qr ?_;repeat'(first|intro(g:Nat)|refine d25 ?_|intro v)
    by_cases hk:((R.kd:Nat):Int)=1
    ·repeat'(first|intro(g:Nat)|refine d25 ?_|intro v)
     refine WD.y rfl y_cert qr qr ?_;repeat'(first|intro(g:Nat)|refine d25 ?_|intro v)
     refine WD.y rfl (y_fall2 rfl rfl (KnS.ff (v:=R.A.yv) (n:=R.yn) (ms:=R.A.my) (qf:=R.y) hmA)) qr qr ?_;repeat'(first|intro(g:Nat)|refine d25 ?_|intro v)
     have hinf:R.yn=(Bl.lp S (S.wt i)).m/\X.Ua (Bl.lp S (S.wt i)) R.y:=by
      rcases hans with ⟨_,_,h2,_,h3⟩|⟨h1,_⟩|⟨h1,_⟩
      ·exact⟨h2,h3⟩
      ·omega
      ·omega
     refine WC.ret ?_;exact Fp [fF R.A.yv R.yn R.A.my R.y] (Qh.ccx rfl rfl meA T.r39 rfl rfl meA T.r63 rfl rfl) haA ⟨rfl,.inr ⟨i,R.A.yv,R.A.my,R.y,rfl,by rw[hinf.1],d,hinf.2,λk hk=>hsy k (by rw[hinf.1];exact hk),λc' hc'=>⟨_,(hall c' qo (hk1 c' hc')).1⟩⟩⟩
    ·have hk2:¬((R.kd:Nat):Int)=1:=hk
     have hpt:R.xn=4*S.m:=by
      have:=(hall i d (by rw[hR];omega)).2.1
      rwa [hR] at this
     refine WL.QE (fF R.A.xv (4*S.m) R.A.mx R.x) (by rw[<-hpt];exact hmA) ?_;revert g;intro g13;refine WL.keep (g:=g13) (t:=122) (cs:=acs R.A (R.kd:Nat)) (by repeat(first|exact Rem.head|apply Rem.tail)) ?_;repeat'(first|intro(g:Nat)|refine d25 ?_|intro v)
     refine WC.Xd (σ:=(Nat->VM)×(Nat->Vc)) (λst=>[(14,v),(39,.int .i64 (i:Int)),(38,.int .i64 ((2^S.n:Nat):Int)),(37,.slice (some ⟨C,0,none⟩) (2^S.n) cap),(3,ptr g3),(11,ptr g11),(4,ptr g4),(5,ptr g5),(6,.int .i64 0)]) (λst=>[lO JD v 127 (2*S.m) st.1 st.2,lO plS cv 125 i ms (λc=>psh (2*S.m) (r c).x),Ow.cells g11 39 [cv],Ow.cells g5 63 [.int .i64 0,.slice none 0 0],Ow.cells g4 39 [.slice none 0 0]]) (λst=>[lM JD (2*S.m) st.1 st.2,lM plS i ms (λc=>psh (2*S.m) (r c).x),slC (.slice (some ⟨C,0,none⟩) (2^S.n) cap) (2^S.n) 7 (Jb 7 vs),allF (2^S.n) fs,ge h0,ce g3 32 [M.t],fSt M S]) (λst=>∀j,j<2*S.m->st.2 j=(psh (2*S.m) R.x).2 j) ?_ ?_
     ·refine WC.lp (σ:=Nat×(Nat->VM)×(Nat->Vc)) (λst=>[(58,.int .i64 (st.1:Int)),(57,.int .i64 ((2*S.m:Nat):Int)),(56,v),(14,v),(13,ptr g13),(39,.int .i64 (i:Int)),(38,.int .i64 ((2^S.n:Nat):Int)),(37,.slice (some ⟨C,0,none⟩) (2^S.n) cap),(3,ptr g3),(11,ptr g11),(4,ptr g4),(5,ptr g5),(6,.int .i64 0)]) (λst=>[lO JD v 127 (2*S.m) st.2.1 st.2.2,lO plS cv 125 i ms (λc=>psh (2*S.m) (r c).x),Ow.cells g11 39 [cv],Ow.cells g5 63 [.int .i64 0,.slice none 0 0],Ow.cells g4 39 [.slice none 0 0]]) (λst=>[lM JD (2*S.m) st.2.1 st.2.2,fF R.A.xv (4*S.m) R.A.mx R.x,ce g13 122 (acs R.A (R.kd:Nat)),lM plS i ms (λc=>psh (2*S.m) (r c).x),slC (.slice (some ⟨C,0,none⟩) (2^S.n) cap) (2^S.n) 7 (Jb 7 vs),allF (2^S.n) fs,ge h0,ce g3 32 [M.t],fSt M S]) (λst=>st.1<=2*S.m/\∀j,j<st.1->st.2.2 j=(psh (2*S.m) R.x).2 j) (λst=>2*S.m-st.1) (0,(λ_=>(m00,m00)),λ_=>⟨0,0⟩) ⟨Nat.zero_le _,λj h=>absurd h (by simp)⟩ ?_ (hG:=.cons mF0v haA);rintro⟨k,mv,xv⟩ ⟨hk3,hxv⟩;simp only at hk3 hxv ⊢;by_cases d2:k<2*S.m
      ·refine WC.fact (fV (R.A.mx (2*(k:Int)).toNat,R.A.mx (2*(k:Int)+1).toNat) ⟨R.x (2*k),R.x (2*k+1)⟩) (has_push (v:=R.A.xv) (m:=S.m) hmA d2) ?_;repeat'(first|intro(g:Nat)|refine d25 ?_|intro v)
       refine WD.l0 rfl rfl (LO.storeOL (S:=JD) (mm:=(R.A.mx (2*(k:Int)).toNat,R.A.mx (2*(k:Int)+1).toNat)) (aa:=⟨R.x (2*k),R.x (2*k+1)⟩) rfl rfl T.r127 (ZT hmA) (by repeat(first|exact Sel.head|apply Sel.tail)) d2 ?_);refine⟨.inl kr,?_⟩;repeat'(first|intro(g:Nat)|refine d25 ?_|intro v)
       refine Qq.mk (k+1,_,upd xv k ⟨R.x (2*k),R.x (2*k+1)⟩) ⟨by simp only;omega,λj hj=>?_⟩ (by simp only;omega) (hG:=.cons (W.Has.mset (S:=JD) (n:=2*S.m) (ms:=mv) (xs:=xv) hmA (mm:=(R.A.mx (2*(k:Int)).toNat,R.A.mx (2*(k:Int)+1).toNat)) (aa:=⟨R.x (2*k),R.x (2*k+1)⟩) hmA) haA);simp only at hj ⊢;by_cases e:j=k
       ·subst e;rw[QB];rfl
       ·rw[upd_ne e];exact hxv j qo
      ·obtain rfl:k=2*S.m:=qo;repeat'(first|intro(g:Nat)|refine d25 ?_|intro v)
       exact QG (mv,xv) hxv
     ·rintro⟨mv,xv⟩ hxv;simp only;refine WC.Q3 (S:=JD) (v:=v) (n:=2*S.m) (ms:=mv) (xs:=xv) (by repeat(first|exact Sel.head|apply Sel.tail)) hmA ?_;refine WC.fact (lF JD v (2*S.m) mv (psh (2*S.m) R.x).2) (lFv_same hmA λj hj=>(hxv j hj).symm) ?_;refine WC.byPk (p:=∃a c,v=.slice a (2*S.m) c) (λfr w ho=>lF_lit (n:=2*S.m) (ms:=mv) (xs:=xv) hmA ho) ?_;rintro⟨a1,c1,rfl⟩;repeat'(first|intro(g:Nat)|refine d25 ?_|intro v)
      refine WL.l rfl rfl (LO.appPl (mv:=mv) rfl rfl meA (KnS.f (W.Has.ls (S:=JD) (ms:=mv) (xs:=xv) (n:=2*S.m) hmA)) (λv'=>by repeat(first|exact Sel.head|apply Sel.tail)) qo λv2=>?_);repeat'(first|intro(g:Nat)|refine d25 ?_|intro v)
      refine Qq.mk (i+1,v2,upd ms i (.slice a1 (2*S.m) c1,mv)) ⟨by simp only;omega,λj hj=>?_⟩ (by simp only;omega) (hG:=.cons (W.Has.YC (S:=plS) (n:=i) (ms:=ms) (xs:=λc=>psh (2*S.m) (r c).x) hmA (mm:=(.slice a1 (2*S.m) c1,mv)) (has_plS hR hmA)) haA);simp only at hj;by_cases e:j=i
      ·subst e;rw[hR];omega
      ·exact hk1 j qo
   ·obtain rfl:i=2^S.n:=qo;repeat'(first|intro(g:Nat)|refine d25 ?_|intro v)
    exact QG (cv,ms) hk1
  ·rintro⟨cv,ms⟩ hk1;simp only;refine WC.Q3 (S:=plS) (v:=cv) (n:=2^S.n) (ms:=ms) (xs:=λc=>psh (2*S.m) (r c).x) (by repeat(first|exact Sel.head|apply Sel.tail)) hmA ?_;repeat'(first|intro(g:Nat)|refine d25 ?_|intro v)
   refine WL.y y_fall qr qr ?_;repeat'(first|intro(g:Nat)|refine d25 ?_|intro v)
   refine WC.ret ?_;exact Fp [lF plS cv (2^S.n) ms λc=>psh (2*S.m) (r c).x] (Qh.ccx rfl rfl meA T.r39 rfl rfl meA T.r63 rfl rfl) haA ⟨rfl,.inl ⟨cv,ms,λc=>(r c).x,rfl,rfl,λc hc=>⟨(hall c hc (hk1 c hc)).1,(hall c hc (hk1 c hc)).2.2⟩⟩⟩
end K
end
end Go.Proofs.YtbnobghgnbockaaGreat
