/- Lemmas. Conditions: none. -/
import Derived.Test.YtbnobghgnbockaaGreatZk32
set_option linter.all false
set_option maxHeartbeats 0
set_option maxRecDepth 100000
namespace Go.Proofs.YtbnobghgnbockaaGreat
open Tryz (prog)
open W Go.RowKit
open Bl (Vc Bd Tc Sc)
section
open Go.Conc hiding base
open Go.ConcN hiding WD Has
open Go.ConcR (KK WgAt stA smA rd wr mk wgBlock Payload DC0)
open Go.Conc.Lib (WgLink WgLib)
section
variable {P:nh}{o:Oper}{a:Act}{w:nm}{n:Nat}{ds:List Deferred}{e:Env}
def run_alloc0{t:nl}{i:TypeInfo}{z:nA}(hop:o.op=.alloc t)(hi:P.info? t=some i)(hz:i.zero=some z):(execOp a.eval o).run P w=.ok (.value (.pointer (some ⟨w.heap.size,0,none⟩))) (w.alloc (.cells z.cells t))/\(execOp a.eval o).events P w #[]=#[]:=by
 constructor
 .simp[execOp,hop,Instr.alloc,zeroValue,typeInfo,hi,hz,newVar,newRow]
 .simp[execOp,hop,Instr.alloc,zeroValue,typeInfo,hi,hz,newVar,newRow]
def run_go{x:ni}{f:np}{cap:Array nA}(hop:o.op=.go {callee:=.value x,args:=#[],argTypes:=#[]})(hx:a.eval x=.func (.func f) #[] cap):(execOp a.eval o).run P w=.ok (.spawn {target:=.fn (.func f) cap,args:=#[]}) w/\(execOp a.eval o).events P w #[]=#[]:=by
 constructor
 .simp[execOp,hop,resolve,hx,Deferred.ofValue]
 .simp[execOp,hop,resolve,hx,Deferred.ofValue]
def run_mkf{f:np}{cap:List ni}{us:ne}(hop:o.op=.makeFunc (.func f) #[] cap.toArray)(hk:Kn ds n a e)(h:Evs e cap us):(execOp a.eval o).run P w=.ok (.value (.func (.func f) #[] us.toArray)) w/\(execOp a.eval o).events P w #[]=#[]:=by
 constructor<;>simp[execOp,hop,<-h.map hk,Instr.makeFunc]
end
structure RwD where
 A:Am
 kd:Nat
 xn:Nat
 yn:Nat
 x:nf
 y:nf
 z:Rat
def psh(k:Nat)(x:nf):Nat×(Nat->Vc):=(k,λj=>⟨x (2*j),x (2*j+1)⟩)
section
variable {P:nh}{n:Nat}{c:Code}{e:Env}{bx bx':nw}{F:nc}{Q:Post}
def WX.keep{g t:Nat}{cs:ne}(hs:Rem bx (.cells g t cs) bx')(h:WX P n c e bx' (ce g t cs::F) Q):WX P n c e bx F Q:=λfr Ds w0 a w hn hD hk hr ho=>h fr Ds w0 a w hn hD hk hr (ho.keep hs)
def y_fall{e:Env}{bx:nw}{F:nc}{ty:nl}:YO prog (.build 63 #[]) ty e bx F (.agg #[nj 0,nz]):=YO.build (parts:=[]) (us:=[]) .nil λ_=>by kernel_rfl
def y_cert{e:Env}{bx:nw}{F:nc}{ty:nl}:YO prog (.build 39 #[]) ty e bx F (.agg #[nz]):=YO.build (parts:=[]) (us:=[]) .nil λ_=>by kernel_rfl
def y_fall2{e:Env}{bx:nw}{F:nc}{ty:nl}{x y:ni}{c:Int}{v:nA}{n':Nat}(hx:ev e x=some (nj c))(hy:ev e y=some v)(hv:KnS bx F v n'):YO prog (.build 63 #[(0,x),(1,y)]) ty e bx F (.agg #[nj c,v]):=λn1 fr a w o h1 h2 h3 h4=>by
 obtain⟨a',c',rfl,_⟩:=(hv fr w h4).is;exact YO.build (parts:=[(0,x),(1,y)]) (us:=[nj c,.slice a' n' c']) (.cons hx (.cons hy .nil)) (λ_=>by kernel_rfl) n1 fr a w o h1 h2 h3 h4
def mF0v{F:nc}{n:Nat}:W.Has F (lM Jt n (λ_=>(m00,m00)) λ_=>⟨0,0⟩):=λp hf i hi=>⟨Jr p hf,Jr p hf⟩
def lFv_same{F:nc}{v:nA}{n:Nat}{ms:Nat->VM}{xs ys:Nat->Vc}(h:W.Has F (lF Jt v n ms xs))(he:∀j,j<n->ys j=xs j):W.Has F (lF Jt v n ms ys):=λp hf=>⟨(h p hf).1,λk hk=>by rw[he k hk];exact(h p hf).2 k hk⟩
def has_push{F:nc}{v:nA}{m k:Nat}{ms:Nat->QM}{q:nf}(h:W.Has F (fF v (4*m) ms q))(hk:k<2*m):W.Has F (fV (ms (2*(k:Int)).toNat,ms (2*(k:Int)+1).toNat) ⟨q (2*k),q (2*k+1)⟩):=λp hf=>by
 rw[show(2*(k:Int)).toNat=2*k by omega,show(2*(k:Int)+1).toNat=2*k+1 by omega];exact⟨W.Has.q h.fm qo p hf,W.Has.q h.fm qo p hf⟩
def lF_lit{bx:nw}{F:nc}{fr:CF}{w:nm}{v:nA}{n:Nat}{ms:Nat->VM}{xs:Nat->Vc}(h:W.Has F (lF Jt v n ms xs))(ho:OK fr bx F w):∃a c,v=.slice a n c:=by
 obtain⟨a,c,h1,_⟩:=(KnS.f (bx:=bx) h.ls fr w ho).is;exact⟨a,c,h1⟩
def WC.byPk{P:nh}{n:Nat}{c:Code}{e:Env}{bx:nw}{F:nc}{Q:Post}{p:Prop}(hp:∀fr w,OK fr bx F w->p)(h:p->WC P n c e bx F Q):WC P n c e bx F Q:=λfr w0 a w hk hr ho=>h (hp _ w ho) fr w0 a w hk hr ho
def LO.appPl{el':nl}{e:Env}{bx:nw}{F:nc}{ty:nl}{x y:ni}{u v w:nA}{n k:Nat}{ms:Nat->nA×(Nat->VM)}{xs:Nat->Nat×(Nat->Vc)}{mv:Nat->VM}{K:Qd}{bx2:nA->nw}(hx:ev e x=some v)(hy:ev e y=some u)(hu:Ow.slice u el' 1 [w]∈bx)(kd:KnS bx F w k)(hs:∀v',Sel bx (lO plS v 125 n ms xs) (lO plS v' 125 (n+1) (Qy ms n (w,mv)) xs) (bx2 v'))(hl:n<=1000000)(h:∀v',K v' (bx2 v') F) :
  LO prog (.call {callee:=.builtin .append,args:=#[x,y],argTypes:=#[37,37]}) ty e bx F K:=
 LO.appG (S:=plS) (c:=1) T.e37 hx hy hu (Jk (S:=plS) (mm:=(w,mv))) rfl (.cons (One.sl kd) .nil) hs qd qd hl qd h
def has_plS{F:nc}{r:Nat->RwD}{R:RwD}{i k:Nat}{v:nA}{mv:Nat->VM}(hR:r i=R)(h:W.Has F (lF Jt v k mv (psh k R.x).2)):W.Has F (plS.fc (v,mv) ((λc=>psh k (r c).x) i)):=by
 show W.Has F (lF Jt v k mv (psh k (r i).x).2);rw[hR];exact h
def fA_x{F:nc}{A:Am}{xn yn:Nat}{x y:nf}{z:Rat}(h:W.Has F (fA A xn yn x y z)):W.Has F (fF A.xv xn A.mx x):=λp hf=>(h p hf).1
def fA_y{F:nc}{A:Am}{xn yn:Nat}{x y:nf}{z:Rat}(h:W.Has F (fA A xn yn x y z)):W.Has F (fF A.yv yn A.my y):=λp hf=>(h p hf).2.1
def fA_z{F:nc}{A:Am}{xn yn:Nat}{x y:nf}{z:Rat}(h:W.Has F (fA A xn yn x y z)):W.Has F (isQ (qv A.mz) z):=λp hf=>(h p hf).2.2
def has_allF{F:nc}{N i:Nat}{fs:Nat->Fct}(h:W.Has F (Gw N fs))(hi:i<N):W.Has F (fs i):=λp hf=>h p hf i hi
def acs_at{vs:Nat->ne}{A:Am}{kd:Int}{i:Nat}(hv:vs i=acs A kd)(k:Nat)(hk:k<7):(acs A kd)[k]?=some (JG 7 vs (i*7+k)):=by
 unfold JG;rw[show(i*7+k)/7=i by omega,show(i*7+k)%7=k by omega,hv];match k,hk with|0,_=>rfl|1,_=>rfl|2,_=>rfl|3,_=>rfl|4,_=>rfl|5,_=>rfl|6,_=>rfl
def WL.byPk{L rest:List Oper}{Q2:Env->nw->nc->Prop}{p:Prop}(hp:∀fr w,OK fr bx F w->p)(h:p->WL P n L rest e bx F Q2):WL P n L rest e bx F Q2:=λfr w0 a w Q' hQ hk hr ho=>h (hp _ w ho) fr w0 a w Q' hQ hk hr ho
def made_len(z:nA)(n:Nat):∃cs,(madeCells z.cells n).toList=cs/\cs.length=n:=⟨_,rfl,by simp[madeCells]⟩
def slice_open{fr:CF}{w:nm}{v:nA}{el m N:Nat}{cs:ne}(ho:OK fr bx F w)(hb:Ow.slice v el m cs∈bx)(hm:0<m)(hN:0<N)(hl:cs.length=N*m):∃C cap,v=.slice (some ⟨C,0,none⟩) N cap/\N<=cap/\cap<=maxLen:=by
 obtain⟨n',h1,⟨hv,h2⟩|⟨C',cap',sp,hv,h3,h4,_⟩⟩:=ho.owns _ hb
 .exfalso;have:=Nat.mul_pos hN hm
  simp_all
 .have:n'=N:=bJ hm (h1.symm.trans hl);exact⟨C',cap',by rw[<-this];exact hv,by rw[<-this];exact h3,h4⟩
end
def IsDec(S:Sc):Qd:=λv B G=>B=[]/\
 ((∃(cv:nA) (ms:Nat->nA×(Nat->VM)) (xs:Nat->nf),v=.tuple #[.agg #[cv],.agg #[nj 0,nz],nj 0]/\G=[lF plS cv (2^S.n) ms λc=>psh (2*S.m) (xs c)]/\∀c,c<2^S.n->X.UF (Bl.lp S (S.wt c)) (xs c)/\∀k,k<4*S.m->Sq RA (xs c k))\/
  ∃(c:Nat) (yv:nA) (my:Nat->QM) (y:nf),v=.tuple #[.agg #[nz],.agg #[nj c,yv],nj 16]/\G=[fF yv (Bl.lp S (S.wt c)).m my y]/\c<2^S.n/\X.Vw (Bl.lp S (S.wt c)) y/\(∀k,k<(Bl.lp S (S.wt c)).m->Sq (yB S) (y k))/\∀c',c'<c->∃x,X.UF (Bl.lp S (S.wt c')) x)
instance pay:Payload:=⟨104⟩
namespace K
attribute [local irreducible] WC WL WD YO LO Qq W.Fin Qk Qh Qj Row QZ Qv KnS Has W.One Qo QX
def d25{G G':Prop}(h:G')(s:Bx G'->G:=by
 intro h;first|refine gF ?_|(apply WC.drawR (id:=18) [4,5] [0,1,2,3,4,7] (.h 0<|.h 1<|.h 2<|.h 3<|.h 4<|.l 5<|.l 6<|.h 7 .done) mixed kr;exact wq146)|(apply WC.draw (id:=23) [0,1,2,3,4,5,6,7,8,9,10,11,12,13,14,15,16] (.h 0<|.h 1<|.h 2<|.h 3<|.h 4<|.h 5<|.h 6<|.h 7<|.h 8<|.h 9<|.h 10<|.h 11<|.h 12<|.h 13<|.h 14<|.h 15<|.h 16<|.l 17 .done) mixed kr)|fail
 exact Bx.h h):G:=s ⟨h⟩
def d25r{G G':Prop}(h:G')(s:Bx G'->G:=by
 intro h;repeat'(first|intro(zQ:Nat)|refine d25 ?_|intro zQ)
 repeat revert zQ
 exact Bx.h h):G:=s ⟨h⟩

attribute [local irreducible] WX
def decide_c(M:SM)(S:Sc)(K:Nat)(h0K:0<K)(hK:K<=3)(hs:Ss K S)(ho:S.ok):FnB prog 25 [M.l,M.t] [] [isX prog,fSl M S,fSt M S] (IsDec S):=by
 refine FR [(0,M.l),(1,M.t)] 88 Tryz.func25 rfl Tryz.ntmps25 kr rfl suA λh0=>?_;have hn:=ho.n;have hm:=ho.m;have h32:2^S.n<=2^5:=aA qd hn;have hN0:0<2^S.n:=Nat.two_pow_pos _;obtain⟨N,hN⟩:∃N,2^S.n=N:=⟨_,rfl⟩
 refine WX.seq (WX.of ?_);refine d25r ?_;intro g g g g;revert g;intro g5;revert g;intro g4;revert g;intro g3;revert g;intro g2;refine WX.keep (g:=g2) (t:=31) (cs:=[M.l]) wq11 ?_;refine WX.keep (g:=g3) (t:=32) (cs:=[M.t]) wq11 ?_;refine WX.seq (WX.of ?_);refine d25r ?_;refine cV (Kv M S K qo hs ho) ?_;refine d25r ?_;refine WX.seq (WX.of ?_);refine d25r ?_;obtain⟨cs,hcs,hcl⟩:=made_len (.agg #[.int .i64 0,.slice none 0 0,.slice none 0 0,.bool false,.slice none 0 0,.bool false,.slice none 0 0]) (2^S.n*7);refine WL.l qr qr (LO.make T.e104 (n:=2^S.n) rfl rfl qo qo hcs λav=>?_);refine WL.byPk (p:=∃C cap,av=.slice (some ⟨C,0,none⟩) (2^S.n) cap/\2^S.n<=cap/\cap<=maxLen) ?hp ?_;case hp=>exact λfr w ho=>slice_open (v:=av) (el:=122) (m:=7) (cs:=cs) ho (by repeat(first|exact an ..|apply au)) qd hN0 hcl
 rintro⟨C,cap,rfl,hc1,hc2⟩;refine d25r ?_;intro g;revert g;intro g8;refine WX.keep (g:=g8) (t:=104) (cs:=[.slice (some ⟨C,0,none⟩) (2^S.n) cap]) wq11 ?_;have hadd:KL prog 50:=⟨_,Tryz.func50,by kernel_rfl,rfl⟩
 have hwait:KL prog 55:=⟨_,Tryz.func55,by kernel_rfl,rfl⟩
 refine WX.phase (P:=prog) (L:=lnk) (FP:=[ce g2 31 [M.l],ce g3 32 [M.t],ce g8 104 [.slice (some ⟨C,0,none⟩) (2^S.n) cap],fSl M S,fSt M S]) (C:=C) (N:=2^S.n) (cap:=cap) (m:=7) (Bx:=g8) (ety:=122) (tint:=3) (v0:=.slice (some ⟨C,0,none⟩) (2^S.n) cap) (cs:=cs)
  (capt:=λWg g=>[ptr Wg,ptr g2,ptr g3,ptr g,ptr g8]) (fw:=51) (Rr:=RowD S) (d5:=9) (t31:=.tmp 31)
  (E0:=λWg=>[(9,ptr Wg),(8,ptr g8),(2,ptr g2),(3,ptr g3),(4,ptr g4),(5,ptr g5),(6,.int .i64 0)])
  (E:=λWg i=>[(30,.int .i64 (i:Int)),(29,.int .i64 ((2^S.n:Nat):Int)),(9,ptr Wg),(8,ptr g8),(2,ptr g2),(3,ptr g3),(4,ptr g4),(5,ptr g5),(6,.int .i64 0)])
  (E1:=λWg i=>[(31,.bool (decide (i<2^S.n))),(30,.int .i64 (i:Int)),(29,.int .i64 ((2^S.n:Nat):Int)),(9,ptr Wg),(8,ptr g8),(2,ptr g2),(3,ptr g3),(4,ptr g4),(5,ptr g5),(6,.int .i64 0)])
  (E2:=λWg i g=>[(10,ptr g),(30,.int .i64 (i:Int)),(29,.int .i64 ((2^S.n:Nat):Int)),(9,ptr Wg),(8,ptr g8),(2,ptr g2),(3,ptr g3),(4,ptr g4),(5,ptr g5),(6,.int .i64 0)])
  (E3:=λWg i g=>[(34,.func (.func 51) #[] [ptr Wg,ptr g2,ptr g3,ptr g,ptr g8].toArray),(10,ptr g),(30,.int .i64 (i:Int)),(29,.int .i64 ((2^S.n:Nat):Int)),(9,ptr Wg),(8,ptr g8),(2,ptr g2),(3,ptr g3),(4,ptr g4),(5,ptr g5),(6,.int .i64 0)])
  (EZ:=λWg=>[(8,ptr g8),(2,ptr g2),(3,ptr g3),(4,ptr g4),(5,ptr g5),(6,.int .i64 0)])
  wgLib hmA (.refl _) qd hN0 qo hmA ?hFP ?h5 rfl rfl rfl (λWg=>suA) ?h6 ?h7 (λWg i hi=>rfl) ?h8 ?h9 rfl ?h9d ?hM rfl ?hMd ?hG rfl ?hGd ?h11 ?h12 rfl ?h12d ?hW ?hR
 case hFP=>
  intro f hf;rcases List.mem_cons.1 hf with rfl|hf
  .exact⟨hmA,λ_ _ _ h=>h⟩
  rcases List.mem_cons.1 hf with rfl|hf
  .exact⟨hmA,λ_ _ _ h=>h⟩
  rcases List.mem_cons.1 hf with rfl|hf
  .exact⟨hmA,λ_ _ _ h=>h⟩
  rcases List.mem_cons.1 hf with rfl|hf
  .exact⟨hmA,λ_ _ _ h=>h⟩
  obtain rfl:=List.mem_singleton.1 hf;exact⟨hmA,λ_ _ _ h=>h⟩
 case h5=>
  intro a w;obtain⟨ti,h1,h2⟩:=Option.map_eq_some_iff.1 (show(prog.info? lnk.tWg).map (·.zero)=some (some (.agg #[.int .u64 0,.int .u32 0])) by kernel_rfl);exact run_alloc0 rfl h1 h2
 case h6=>
  intro Wg l0;refine d25r ?_;refine WL.y (YO.len T.s104 rfl (knS_lit hc1 hc2)) qr qr ?_;refine d25r ?_;exact⟨by trivial,suA,haA⟩
 case h7=>
  intro Wg l0 i hi;by_cases d:i<2^S.n
  .simp only[d,decide_true];refine d25r ?_;exact⟨by trivial,suA,haA⟩
  .simp only[d,decide_false];refine d25r ?_;exact⟨by trivial,suA,haA⟩
 case h8=>
  intro Wg l0 i hi;refine d25r ?_;intro g;exact⟨by trivial,_,suA,rfl,haA⟩
 case h9=>exact λWg i g ds a w hk=>KP hadd rfl rfl (vs:=[ptr Wg,.int .i64 1]) (by simp[hk.eval (x:=.tmp 9) (v:=ptr Wg) rfl];rfl)
 case h9d=>exact λWg i g ds a hk=>(hk.put qr _).sub suA
 case hM=>exact λWg i g ds a w hk=>run_mkf rfl hk (cap:=[.tmp 9,.tmp 2,.tmp 3,.tmp 10,.tmp 8]) evA
 case hMd=>exact λWg i g ds a hk=>(hk.put qr _).sub suA
 case hG=>exact λWg i g ds a w hk=>run_go rfl (hk.eval rfl)
 case hGd=>exact λWg i g ds a hk=>hk
 case h11=>
  intro Wg l0 i g hi;refine d25r ?_;exact⟨by trivial,suA,haA⟩
 case h12=>exact λWg ds a w hk=>KP hwait rfl rfl (vs:=[ptr Wg]) (by simp[hk.eval (x:=.tmp 9) (v:=ptr Wg) rfl])
 case h12d=>exact λWg ds a hk=>(hk.put qr _).sub suA
 case hW=>exact λp l1 i g w h1 h2 h3 h4 h5 h6 hi h7 h8 hok=>decide1_c p h1 h2 C (2^S.n) cap h3 h4 h5 h7 h8 M S K h0K hK hs ho h6 i g g2 g3 g8 w l1 hi rfl hok
 case hR=>
  intro Wg vs fs hvf
  have hex:∀i,∃r:RwD,i<2^S.n->vs i=acs r.A (r.kd:Nat)/\fs i=fA r.A r.xn r.yn r.x r.y r.z/\AnsP (Bl.lp S (S.wt i)) r.kd r.xn r.yn r.x r.y r.z/\(∀k,k<r.xn->Sq RA (r.x k))/\(∀k,k<r.yn->Sq (yB S) (r.y k)):=λi=>by
   by_cases d:i<2^S.n
   .obtain⟨A,kd,xn,yn,x,y,z,h⟩:=(hvf i d).1;exact⟨⟨A,kd,xn,yn,x,y,z⟩,λ_=>h⟩
   .exact⟨⟨⟨.slice none 0 0,.slice none 0 0,λ_=>m00,λ_=>m00,m00⟩,0,0,0,λ_=>0,λ_=>0,0⟩,λh=>absurd h d⟩
  obtain⟨r,hr⟩:∃r:Nat->RwD,∀i,i<2^S.n->vs i=acs (r i).A ((r i).kd:Nat)/\fs i=fA (r i).A (r i).xn (r i).yn (r i).x (r i).y (r i).z/\AnsP (Bl.lp S (S.wt i)) (r i).kd (r i).xn (r i).yn (r i).x (r i).y (r i).z/\(∀k,k<(r i).xn->Sq RA ((r i).x k))/\(∀k,k<(r i).yn->Sq (yB S) ((r i).y k)):=⟨λi=>(hex i).choose,λi=>(hex i).choose_spec⟩
  have hall:∀c,c<2^S.n->(r c).kd≠1->X.UF (Bl.lp S (S.wt c)) (r c).x/\(r c).xn=4*S.m/\∀k,k<4*S.m->Sq RA ((r c).x k):=λc hc hk=>by
   obtain⟨_,_,ha,hx,_⟩:=hr c hc;rcases ha with ⟨h1,_⟩|⟨_,h2,_,h3⟩|⟨_,h2,_,_,h3⟩
   .exact absurd h1 hk
   .exact⟨h3.1,h2,λk hk=>hx k (by rw[h2];exact hk)⟩
   .exact⟨h3.1,h2,λk hk=>hx k (by rw[h2];exact hk)⟩
  refine WX.of ?_;refine d25r ?_;intro g;revert g;intro g11;refine WC.QL 125 1 ?_;refine WC.JK (σ:=nA×(Nat->nA×(Nat->VM))) (λst=>[(11,ptr g11),(4,ptr g4),(5,ptr g5),(6,.int .i64 0)]) (λst=>[lO plS st.1 125 (2^S.n) st.2 (λc=>psh (2*S.m) (r c).x),Ow.cells g11 39 [st.1],Ow.cells g5 63 [.int .i64 0,.slice none 0 0],Ow.cells g4 39 [.slice none 0 0]]) (λst=>[lM plS (2^S.n) st.2 (λc=>psh (2*S.m) (r c).x),ge h0]) (λ_=>∀j,j<2^S.n->(r j).kd≠1) ?_ ?_
  .refine WC.lp (σ:=Nat×nA×(Nat->nA×(Nat->VM))) (λst=>[(39,.int .i64 (st.1:Int)),(38,.int .i64 ((2^S.n:Nat):Int)),(37,.slice (some ⟨C,0,none⟩) (2^S.n) cap),(3,ptr g3),(11,ptr g11),(4,ptr g4),(5,ptr g5),(6,.int .i64 0)]) (λst=>[lO plS st.2.1 125 st.1 st.2.2 (λc=>psh (2*S.m) (r c).x),Ow.cells g11 39 [st.2.1],Ow.cells g5 63 [.int .i64 0,.slice none 0 0],Ow.cells g4 39 [.slice none 0 0]])
    (λst=>[lM plS st.1 st.2.2 (λc=>psh (2*S.m) (r c).x),slC (.slice (some ⟨C,0,none⟩) (2^S.n) cap) (2^S.n) 7 (JG 7 vs),Gw (2^S.n) fs,ge h0,ce g3 32 [M.t],fSt M S]) (λst=>st.1<=2^S.n/\∀j,j<st.1->(r j).kd≠1) (λst=>2^S.n-st.1) (0,.slice none 0 0,λ_=>(.slice none 0 0,λ_=>(m00,m00))) ⟨aj _,λj h=>absurd h (by simp)⟩ ?_ (hG:=.cons W.Has.Uy haA)
   rintro⟨i,cv,ms⟩ ⟨hi,hk1⟩;simp only at hi hk1 ⊢;by_cases d:i<2^S.n
   .obtain⟨hv,hf,hans,hsx,hsy⟩:=hr i d;refine WC.fact (fA (r i).A (r i).xn (r i).yn (r i).x (r i).y (r i).z) (by rw[<-hf];exact has_allF hmA d) ?_;refine WC.fact (fF (r i).A.xv (r i).xn (r i).A.mx (r i).x) (fA_x (A:=(r i).A) (xn:=(r i).xn) (yn:=(r i).yn) (x:=(r i).x) (y:=(r i).y) (z:=(r i).z) hmA) ?_;refine WC.fact (fF (r i).A.yv (r i).yn (r i).A.my (r i).y) (fA_y (A:=(r i).A) (xn:=(r i).xn) (yn:=(r i).yn) (x:=(r i).x) (y:=(r i).y) (z:=(r i).z) hmA) ?_;refine WC.fact (isQ (qv (r i).A.mz) (r i).z) (fA_z (A:=(r i).A) (xn:=(r i).xn) (yn:=(r i).yn) (x:=(r i).x) (y:=(r i).y) (z:=(r i).z) hmA) ?_;generalize hR:r i=R at hv hf hans hsx hsy ⊢;refine d25r ?_;refine WL.y (YO.ldRS (us:=acs R.A (R.kd:Nat)) (f:=JG 7 vs) (n:=2^S.n) (sz:=7) T.r122 rfl hmA qo rfl (acs_at hv)) qr qr ?_;refine d25r ?_;intro g;by_cases hk:((R.kd:Nat):Int)=1
    .refine d25r ?_;refine WD.y rfl y_cert qr qr ?_;refine d25r ?_;refine WD.y rfl (y_fall2 rfl rfl (KnS.ff (v:=R.A.yv) (n:=R.yn) (ms:=R.A.my) (qf:=R.y) hmA)) qr qr ?_;refine d25r ?_
     have hinf:R.yn=(Bl.lp S (S.wt i)).m/\X.Vw (Bl.lp S (S.wt i)) R.y:=by
      rcases hans with ⟨_,_,h2,_,h3⟩|⟨h1,_⟩|⟨h1,_⟩
      .exact⟨h2,h3⟩
      .omega
      .omega
     refine WC.ret ?_;exact Fp [fF R.A.yv R.yn R.A.my R.y] (Qf.ccx rfl rfl meA T.r39 rfl rfl meA T.r63 rfl rfl) haA ⟨rfl,.inr ⟨i,R.A.yv,R.A.my,R.y,rfl,by rw[hinf.1],d,hinf.2,λk hk=>hsy k (by rw[hinf.1];exact hk),λc' hc'=>⟨_,(hall c' qo (hk1 c' hc')).1⟩⟩⟩
    .have hk2:¬((R.kd:Nat):Int)=1:=hk
     have hpt:R.xn=4*S.m:=by
      have:=(hall i d (by rw[hR];omega)).2.1
      rwa [hR] at this
     refine WL.QD (fF R.A.xv (4*S.m) R.A.mx R.x) (by rw[<-hpt];exact hmA) ?_;revert g;intro g13;refine WL.keep (g:=g13) (t:=122) (cs:=acs R.A (R.kd:Nat)) wq11 ?_;refine d25r ?_;intro v;refine WC.JK (σ:=(Nat->VM)×(Nat->Vc)) (λst=>[(14,v),(39,.int .i64 (i:Int)),(38,.int .i64 ((2^S.n:Nat):Int)),(37,.slice (some ⟨C,0,none⟩) (2^S.n) cap),(3,ptr g3),(11,ptr g11),(4,ptr g4),(5,ptr g5),(6,.int .i64 0)]) (λst=>[lO Jt v 127 (2*S.m) st.1 st.2,lO plS cv 125 i ms (λc=>psh (2*S.m) (r c).x),Ow.cells g11 39 [cv],Ow.cells g5 63 [.int .i64 0,.slice none 0 0],Ow.cells g4 39 [.slice none 0 0]]) (λst=>[lM Jt (2*S.m) st.1 st.2,lM plS i ms (λc=>psh (2*S.m) (r c).x),slC (.slice (some ⟨C,0,none⟩) (2^S.n) cap) (2^S.n) 7 (JG 7 vs),Gw (2^S.n) fs,ge h0,ce g3 32 [M.t],fSt M S]) (λst=>∀j,j<2*S.m->st.2 j=(psh (2*S.m) R.x).2 j) ?_ ?_
     .refine WC.lp (σ:=Nat×(Nat->VM)×(Nat->Vc)) (λst=>[(58,.int .i64 (st.1:Int)),(57,.int .i64 ((2*S.m:Nat):Int)),(56,v),(14,v),(13,ptr g13),(39,.int .i64 (i:Int)),(38,.int .i64 ((2^S.n:Nat):Int)),(37,.slice (some ⟨C,0,none⟩) (2^S.n) cap),(3,ptr g3),(11,ptr g11),(4,ptr g4),(5,ptr g5),(6,.int .i64 0)]) (λst=>[lO Jt v 127 (2*S.m) st.2.1 st.2.2,lO plS cv 125 i ms (λc=>psh (2*S.m) (r c).x),Ow.cells g11 39 [cv],Ow.cells g5 63 [.int .i64 0,.slice none 0 0],Ow.cells g4 39 [.slice none 0 0]]) (λst=>[lM Jt (2*S.m) st.2.1 st.2.2,fF R.A.xv (4*S.m) R.A.mx R.x,ce g13 122 (acs R.A (R.kd:Nat)),lM plS i ms (λc=>psh (2*S.m) (r c).x),slC (.slice (some ⟨C,0,none⟩) (2^S.n) cap) (2^S.n) 7 (JG 7 vs),Gw (2^S.n) fs,ge h0,ce g3 32 [M.t],fSt M S]) (λst=>st.1<=2*S.m/\∀j,j<st.1->st.2.2 j=(psh (2*S.m) R.x).2 j) (λst=>2*S.m-st.1) (0,(λ_=>(m00,m00)),λ_=>⟨0,0⟩) ⟨aj _,λj h=>absurd h (by simp)⟩ ?_ (hG:=.cons mF0v haA);rintro⟨k,mv,xv⟩ ⟨hk3,hxv⟩;simp only at hk3 hxv ⊢;by_cases d2:k<2*S.m
      .refine WC.fact (fV (R.A.mx (2*(k:Int)).toNat,R.A.mx (2*(k:Int)+1).toNat) ⟨R.x (2*k),R.x (2*k+1)⟩) (has_push (v:=R.A.xv) (m:=S.m) hmA d2) ?_;refine d25r ?_;refine WD.l0 rfl rfl (LO.storeOL (S:=Jt) (mm:=(R.A.mx (2*(k:Int)).toNat,R.A.mx (2*(k:Int)+1).toNat)) (aa:=⟨R.x (2*k),R.x (2*k+1)⟩) rfl rfl T.r127 (Ud hmA) wq3 d2 ?_);refine⟨.inl kr,?_⟩;refine d25r ?_;refine Qq.mk (k+1,_,Qy xv k ⟨R.x (2*k),R.x (2*k+1)⟩) ⟨by simp only;omega,λj hj=>?_⟩ wq14 (hG:=.cons (W.Has.mset (S:=Jt) (n:=2*S.m) (ms:=mv) (xs:=xv) hmA (mm:=(R.A.mx (2*(k:Int)).toNat,R.A.mx (2*(k:Int)+1).toNat)) (aa:=⟨R.x (2*k),R.x (2*k+1)⟩) hmA) haA);simp only at hj ⊢;by_cases e:j=k
       .subst e;rw[QF];rfl
       .rw[Qt e];exact hxv j qo
      .obtain rfl:k=2*S.m:=qo;refine d25r ?_;exact Qr (mv,xv) hxv
     .rintro⟨mv,xv⟩ hxv;simp only;refine WC.QA (S:=Jt) (v:=v) (n:=2*S.m) (ms:=mv) (xs:=xv) wq3 hmA ?_;refine WC.fact (lF Jt v (2*S.m) mv (psh (2*S.m) R.x).2) (lFv_same hmA λj hj=>(hxv j hj).symm) ?_;refine WC.byPk (p:=∃a c,v=.slice a (2*S.m) c) (λfr w ho=>lF_lit (n:=2*S.m) (ms:=mv) (xs:=xv) hmA ho) ?_;rintro⟨a1,c1,rfl⟩;refine d25r ?_;intro v;refine WL.l rfl rfl (LO.appPl (mv:=mv) rfl rfl meA (KnS.f (W.Has.ls (S:=Jt) (ms:=mv) (xs:=xv) (n:=2*S.m) hmA)) (λv'=>by repeat(first|exact Sel.head|apply Sel.tail)) qo λv2=>?_);refine d25r ?_;refine Qq.mk (i+1,v2,Qy ms i (.slice a1 (2*S.m) c1,mv)) ⟨by simp only;omega,λj hj=>?_⟩ wq14 (hG:=.cons (W.Has.Xb (S:=plS) (n:=i) (ms:=ms) (xs:=λc=>psh (2*S.m) (r c).x) hmA (mm:=(.slice a1 (2*S.m) c1,mv)) (has_plS hR hmA)) haA);simp only at hj;by_cases e:j=i
      .subst e;rw[hR];omega
      .exact hk1 j qo
   .obtain rfl:i=2^S.n:=qo;refine d25r ?_;exact Qr (cv,ms) hk1
  .rintro⟨cv,ms⟩ hk1;simp only;refine WC.QA (S:=plS) (v:=cv) (n:=2^S.n) (ms:=ms) (xs:=λc=>psh (2*S.m) (r c).x) wq3 hmA ?_;refine d25r ?_;refine WL.y y_fall qr qr ?_;refine d25r ?_;refine WC.ret ?_;exact Fp [lF plS cv (2^S.n) ms λc=>psh (2*S.m) (r c).x] (Qf.ccx rfl rfl meA T.r39 rfl rfl meA T.r63 rfl rfl) haA ⟨rfl,.inl ⟨cv,ms,λc=>(r c).x,rfl,rfl,λc hc=>⟨(hall c hc (hk1 c hc)).1,(hall c hc (hk1 c hc)).2.2⟩⟩⟩
end K
end
def stK(S:Sc)(xs:Nat->Vc)(k i:Nat):Rat:=X.sm k λj=>if Bl.tch (S.T (j/2)) i then Bl.spn (S.T (j/2)).n*(xs j).x else 0
def stK_at{S:Sc}{xs:Nat->Vc}{k i a:Nat}{x:Rat}(h1:(S.T (k/2)).a=(a:Int))(h2:(S.T (k/2)).b<0)(hx:x=Bl.spn (S.T (k/2)).n*(xs k).x):Qy (stK S xs k) a (stK S xs k a+x) i=stK S xs (k+1) i:=by
 have ht:Bl.tch (S.T (k/2)) i↔i=a:=by
  constructor
  .rintro(h|h)<;>omega
  .intro h;exact .inl qo
 show _=stK S xs k i+(if Bl.tch (S.T (k/2)) i then _ else _);by_cases e:i=a
 .rw[ah (ht.2 e)];subst e;rw[QF,hx]
 .rw[ae (λh=>e (ht.1 h)),Qt e];grind
def stK_ab{S:Sc}{xs:Nat->Vc}{k i a b:Nat}{x:Rat}(h1:(S.T (k/2)).a=(a:Int))(h2:(S.T (k/2)).b=(b:Int))(hab:a≠b)(hx:x=Bl.spn (S.T (k/2)).n*(xs k).x):Qy (Qy (stK S xs k) a (stK S xs k a+x)) b (Qy (stK S xs k) a (stK S xs k a+x) b+x) i=stK S xs (k+1) i:=by
 have ht:Bl.tch (S.T (k/2)) i↔i=a\/i=b:=by
  constructor
  .rintro(h|h)
   .exact .inl qo
   .exact .inr qo
  .rintro(h|h)
   .exact .inl qo
   .exact .inr qo
 show _=stK S xs k i+(if Bl.tch (S.T (k/2)) i then _ else _);rw[Qt (dO hab)];by_cases e:i=b
 .rw[ah (ht.2 (.inr e))];subst e;rw[QF,hx]
 .rw[Qt e];by_cases e2:i=a
  .rw[ah (ht.2 (.inl e2))];subst e2;rw[QF,hx]
  .rw[ae (λh=>(ht.1 h).elim e2 e),Qt e2];grind
def stK_sz{S:Sc}{xs:Nat->Vc}{K Kp:Nat}(hK:K<=1000000)(hKp:Kp<=1000000)(hs:Ss K S)(hm:S.m<=10)(hx:∀k,k<2*S.m->Sv Kp (xs k)){k:Nat}(hk:k<=2*S.m)(i:Nat):Sq 70000000 (stK S xs k i):=by
 have h1:=X.YM (m:=k) (f:=λj=>if Bl.tch (S.T (j/2)) i then Bl.spn (S.T (j/2)).n*(xs j).x else 0) (k:=3000001) λj hj=>by
  show Sq _ (if _ then _ else _);split
  .have ht:=(hs.T (j/2) qo).2.2.1;unfold Bl.spn;exact((ht.1.ab.add ht.2.ab).mul (hx j qo).1).up qo
  .exact Sq.zero.up qo
 exact h1.up qo
namespace K
attribute [local irreducible] WC WL WD YO LO Qq W.Fin Qk Qh Qj Row QZ Qv KnS Has W.One Qo QX
def d172{G G':Prop}(h:G')(s:Bx G'->G:=by
 intro h;first|refine gE ?_|(apply WC.draw (id:=7) [0,1,2,4,5,6,7,8] (.h 0<|.h 1<|.h 2<|.h 4<|.h 5<|.h 6<|.h 7<|.h 8<|.m 3 (.m 9 (.l 10<|.l 11 .done) (.l 10<|.l 9<|.l 11 .done)) (.l 10<|.l 3<|.l 9<|.l 11 .done)) mixed kr)|(apply WC.draw (id:=8) [0,1,2,3,4,5,6,7,8,9,10,12] (.h 0<|.h 1<|.h 2<|.h 3<|.h 4<|.h 5<|.h 6<|.h 7<|.h 8<|.h 9<|.h 10<|.l 11<|.h 12<|.l 13 .done) mixed kr)|(apply WC.draw (id:=10) [0,1,2,3,4,5,6,7,8,9,10,12] (.h 0<|.h 1<|.h 2<|.h 3<|.h 4<|.h 5<|.h 6<|.h 7<|.h 8<|.h 9<|.h 10<|.l 11<|.h 12<|.l 13 .done) mixed kr)|fail
 exact Bx.h h):G:=s ⟨h⟩
def d172r{G G':Prop}(h:G')(s:Bx G'->G:=by
 intro h;repeat'(first|intro(zQ:Nat)|refine d172 ?_|intro zQ)
 repeat revert zQ
 exact Bx.h h):G:=s ⟨h⟩

def Vv(v:nA)(n:Nat)(ms:Nat->VM)(xs:Nat->Vc)(K:Nat)(hK:K<=100000000)(hn:n<=1000)(hx:∀i,i<n->Sv K (xs i)):FnB prog 170 [v,nj n] [] [lF Jt v n ms xs] (IsV (.bool true)):=by
 refine fO [(0,v),(1,(nj n))] 28 Tryz.func170 Tryz.ntmps170 λh0=>?_;refine gPr ?_;refine WC.JK (σ:=Unit) (λ_=>[(0,v),(1,nj n)]) (λ_=>[]) (λ_=>[ge h0,lF Jt v n ms xs]) (λ_=>True) ?_ ?_
 .refine WC.lp (σ:=Nat) (λi=>[(9,nj i),(8,nj n),(7,v),(0,v),(1,nj n)]) (λ_=>[]) (λ_=>[ge h0,lF Jt v n ms xs]) (λi=>i<=n) (λi=>n-i) 0 (aj _) ?_;intro i hi;by_cases c:i<n
  .refine WC.fact (fV (ms i) (xs i)) (W.Has.lk (S:=Jt) (v:=v) hmA c) ?_;refine WC.fact (isQ (qv (ms i).1) (xs i).x) (W.Has.vx (m:=ms i) hmA) ?_;refine WC.fact (isQ (qv (ms i).2) (xs i).y) (W.Has.vy (m:=ms i) hmA) ?_;refine gPr ?_;intro g;refine cV (XF (ms i).1 (xs i).x ((hx i c).1.sm qo)) ?_;refine gPr ?_;refine cV (XF (ms i).2 (xs i).y ((hx i c).2.sm qo)) ?_;refine gPr ?_;exact Qq.mk (i+1) qo qo
  .obtain rfl:i=n:=qo;refine gPr ?_;exact Qr () trivial
 .rintro⟨⟩ _;refine gPr ?_;exact wq4
def stress_c(M:SM)(S:Sc)(pv:nA)(mp:Nat->VM)(xs:Nat->Vc)(K Kp:Nat)(h0K:0<K)(hK:K<=1000000)(hKp:Kp<=1000000)(hs:Ss K S)(ho:S.ok)(hx:∀k,k<2*S.m->Sv Kp (xs k)):FnB prog 172 [M.l,M.t,pv] [] [fSl M S,fSt M S,lF Jt pv (2*S.m) mp xs] (IsF S.n (stK S xs (2*S.m))):=by
 refine fO [(0,M.l),(1,M.t),(2,pv)] 76 Tryz.func172 Tryz.ntmps172 λh0=>?_;have hn:=ho.n;have hm:=ho.m;have hmc:(2*(S.m:Int))=((2*S.m:Nat):Int):=qo;refine d172r ?_;refine cV (Kv M S K hK hs ho) ?_;refine d172r ?_;rw[hmc];refine cV (Vv pv (2*S.m) mp xs Kp qo qo hx) ?_;refine d172r ?_;intro v;refine cK (ends_c M S ho) ?_;rintro va _ _ ⟨rfl,rfl⟩;refine sNn ?_;refine d172r ?_;revert v;intro ov;refine WC.JK (σ:=Nat->QM) (λ_=>[(7,ov)]) (λmq=>[Ow.slice ov 75 4 (Qc S.n mq)]) (λmq=>[mF S.n mq (stK S xs (2*S.m)),ge h0]) (λ_=>True) ?_ ?_
 .refine WC.lp (σ:=Nat×(Nat->QM)) (λst=>[(29,nj (st.1:Int)),(28,nj ((2*S.m:Nat):Int)),(27,va),(7,ov),(0,M.l),(1,M.t),(2,pv)]) (λst=>[Ow.slice ov 75 4 (Qc S.n st.2)]) (λst=>[mF S.n st.2 (stK S xs st.1),ge h0,lF JO va (2*S.m) (edM M.T) (edT S.T),lF Jt pv (2*S.m) mp xs,fSl M S,fSt M S]) (λst=>st.1<=2*S.m) (λst=>2*S.m-st.1) (0,λ_=>m00) (aj _) ?_ (hG:=.cons (W.Has.QK (W.Has.mF0 _) λj _=>rfl) haA);rintro⟨k,mq⟩ hk;simp only at hk ⊢;by_cases d:k<2*S.m
  .refine WC.fact (fE (edM M.T k) (edT S.T k)) (W.Has.lk (S:=JO) (v:=va) hmA d) ?_;refine WC.fact (fT (edM M.T k).t (edT S.T k).t) (W.Has.et (em:=edM M.T k) hmA) ?_;refine WC.fact (fV (edM M.T k).t.n (edT S.T k).t.n) (W.Has.tn (tm:=(edM M.T k).t) hmA) ?_;refine WC.fact (fV (mp k) (xs k)) (W.Has.lk (S:=Jt) (v:=pv) hmA d) ?_;refine WC.fact (isQ (qv (mp k).1) (xs k).x) (W.Has.vx (m:=mp k) hmA) ?_;have hsn:Sv K (edT S.T k).t.n:=(hs.T (k/2) qo).2.2.1;have hsp:Sq (2*K+1) (Bl.spn (edT S.T k).t.n):=(hsn.1.ab.add hsn.2.ab).up qo;obtain⟨ht1,ht2,ht3,ht4,ht5,_⟩:=ho.T (k/2) qo;have ha1:0<=(edT S.T k).t.a:=ht1;have ha2:(edT S.T k).t.a<S.n:=ht2;have hb1:-1<=(edT S.T k).t.b:=ht3;have hb2:(edT S.T k).t.b<S.n:=ht4;have hz:Sq 4000000 (Bl.spn (edT S.T k).t.n*(xs k).x):=(hsp.mul (hx k d).1).up qo;repeat'(first|intro(g:Nat)|refine d172 ?_|refine gN ?_ ?_|intro v)
   all_goals
    refine cW (span_c (edM M.T k).t.n (edT S.T k).t.n K hK hsn) λn5=>?_;repeat'(first|intro(g:Nat)|refine d172 ?_|refine gN ?_ ?_|intro v)
   all_goals
    refine cW (Zn.mul n5 (mp k).1 (Bl.spn (edT S.T k).t.n) (xs k).x (hsp.sm qo) ((hx k d).1.sm qo)) λn6=>?_;repeat'(first|intro(g:Nat)|refine d172 ?_|refine gN ?_ ?_|intro v)
   all_goals
    refine cW (Zn.add (mq (edT S.T k).t.a.toNat) n6 (stK S xs k (edT S.T k).t.a.toNat) (Bl.spn (edT S.T k).t.n*(xs k).x) ((stK_sz hK hKp hs hm hx hk _).sm qo) (hz.sm qo)) λn7=>?_;by_cases hb:0<=(edT S.T k).t.b
    .have hab:(edT S.T k).t.b.toNat≠(edT S.T k).t.a.toNat:=λh=>ht5 (by show(edT S.T k).t.a=(edT S.T k).t.b;omega);refine WD.fact (mF S.n (Qy mq (edT S.T k).t.a.toNat n7) (Qy (stK S xs k) (edT S.T k).t.a.toNat (stK S xs k (edT S.T k).t.a.toNat+Bl.spn (edT S.T k).t.n*(xs k).x))) (W.Has.J0 hmA hmA) ?_;refine d172r ?_;refine cW (Zn.add (Qy mq (edT S.T k).t.a.toNat n7 (edT S.T k).t.b.toNat) n6 (Qy (stK S xs k) (edT S.T k).t.a.toNat (stK S xs k (edT S.T k).t.a.toNat+Bl.spn (edT S.T k).t.n*(xs k).x) (edT S.T k).t.b.toNat) (Bl.spn (edT S.T k).t.n*(xs k).x) (by rw[Qt hab];exact(stK_sz hK hKp hs hm hx hk _).sm qo) (hz.sm qo)) λn8=>?_;refine d172r ?_;exact Qq.mk (k+1,_) wq14 wq14 (hG:=.cons (W.Has.QK (W.Has.J0 (W.Has.J0 (qf:=stK S xs k) hmA (z:=stK S xs k (edT S.T k).t.a.toNat+Bl.spn (edT S.T k).t.n*(xs k).x) hmA) (z:=Qy (stK S xs k) (edT S.T k).t.a.toNat (stK S xs k (edT S.T k).t.a.toNat+Bl.spn (edT S.T k).t.n*(xs k).x) (edT S.T k).t.b.toNat+Bl.spn (edT S.T k).t.n*(xs k).x) hmA) λj _=>stK_ab (by show(edT S.T k).t.a=_;omega) (by show(edT S.T k).t.b=_;omega) (dO hab) rfl) haA)
    .refine d172r ?_;exact Qq.mk (k+1,_) wq14 wq14 (hG:=.cons (W.Has.QK (W.Has.J0 (qf:=stK S xs k) hmA (z:=stK S xs k (edT S.T k).t.a.toNat+Bl.spn (edT S.T k).t.n*(xs k).x) hmA) λj _=>stK_at (by show(edT S.T k).t.a=_;omega) (by show(edT S.T k).t.b<0;omega) rfl) haA)
  .obtain rfl:k=2*S.m:=qo;refine d172r ?_;exact Qr mq trivial
 .rintro mq _;refine WC.Jh ov S.n mq (stK S xs (2*S.m)) wq3 hmA ?_;refine d172r ?_;refine WC.ret ?_;exact Fp [fF ov S.n mq (stK S xs (2*S.m))] (Qf.t1 rfl rfl) haA ⟨mq,rfl,rfl⟩
end K
end Go.Proofs.YtbnobghgnbockaaGreat
