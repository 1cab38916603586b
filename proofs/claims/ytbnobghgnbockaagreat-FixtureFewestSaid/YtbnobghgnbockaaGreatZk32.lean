/- Lemmas. Conditions: none. -/
import Derived.Test.YtbnobghgnbockaaGreatZk31
import Derived.Test.YtbnobghgnbockaaGreatProg
import Derived.WalkKit
import Derived.Conc.WgLib
set_option linter.all false
set_option maxHeartbeats 0
set_option maxRecDepth 100000
namespace Go.Proofs.YtbnobghgnbockaaGreat
open Tryz (prog)
section
open W Go.RowKit
open Bl (Vc Bd Tc Sc)
def FX(S:Sc)(w:nf):Qd:=λv B G=>∃Mp:Pm,v=.tuple #[pgv Mp ((4*S.m:Nat):Int),nj 0]/\B=[]/\G=[fP Mp (Bl.lp S w)]
def WL.GQ{P:nh}{n:Nat}{L rest:List Oper}{e:Env}{bx:nw}{F F':nc}{Q:Env->nw->nc->Prop}{d:Nat}{f:np}{x:ni}{args:List ni}{ats:Array nl}{vs:ne}{R:Qd}{ty:nl}{pos:String}{af:Array Edge}{gd:Option (Nat×Bool)}(first cap:ne)(ba br:nw)(hp:bx.Perm (ba++br))(hf:FnB P f (first++vs++cap) ba F' R)(hK:∀v b G,R v b G->WL P n L rest ((d,v)::e) (b++br) (G++F) Q)
  (hx:ev e x=some (.func (.func f) first.toArray cap.toArray):=by exact rfl) (hv:Evs e args vs:=by repeat(first|exact Evs.nil|(apply Evs.cons;exact rfl))) (hF:Qz F F':=by repeat(first|exact Qz.nil|(apply Qz.cons;exact hsA))) (hd:Nat.blt d n=true:=by exact rfl) (hg:gok L e gd=some true:=by exact rfl):WL P n L (⟨some d,.call {callee:=.value x,args:=args.toArray,argTypes:=ats},ty,pos,af,gd⟩::rest) e bx F Q:=
 WL.l hd hg (LO.call hx hv ba br hp hf hF.all hK)
def W.Has.lMsame{M α:Type}{S:Shp M α}{F:nc}{n:Nat}{ms:Nat->M}{xs ys:Nat->α}(h:Has F (lM S n ms xs))(he:∀j,j<n->ys j=xs j):Has F (lM S n ms ys):=λp hf i hi=>by rw[he i hi];exact h p hf i hi
def lp_at(S:Sc)(w:nf)(r:Nat)(hr:r<6*S.n+6*S.m+S.n):(cat (6*S.n) (prX S w) (Xj S) r).n=4*S.m/\(cat (6*S.n) (prX S w) (Xj S) r).a=(Bl.lp S w).a r/\(cat (6*S.n) (prX S w) (Xj S) r).b=(Bl.lp S w).b r:=by
 unfold cat Bl.lp;by_cases h:r<6*S.n
 .unfold prX;simp only[ah h]
  have hs:Rat.divInt (sgi r) 1=Bl.sgq (r%6):=by
   unfold sgi Bl.sgq;rw[show r%6%2=r%2 by omega];split<;>decide +kernel
  refine⟨by omega,?_,?_⟩
  .funext j
   unfold co2 gx gy Gp Bl.co3 Bl.dir;rw[hs,show j/2/2=j/4 by omega];split
   .split
    .rfl
    .split<;>rfl
   .split
    .rfl
    .split<;>rfl
  .rw[hs];split
   .rfl
   .grind
 .rw[ae h];unfold Xj;by_cases h2:r<6*S.n+6*S.m
  .rw[ah qo];simp only[ae h,ah h2];exact⟨by omega,by first|rfl|trivial,by first|rfl|trivial⟩
  .rw[ae qo];simp only[ae h,ae h2];rw[show r-6*S.n-3*(2*S.m)=r-6*S.n-6*S.m by omega];exact⟨by omega,by first|rfl|trivial,by first|rfl|trivial⟩
def fP_of{F:nc}{S:Sc}{w:nf}{v gv:nA}{ms:Nat->LnM}(hn:S.n<=5)(h:Has F (lF Qm v (6*S.n+(3*(2*S.m)+S.n)) ms (cat (6*S.n) (prX S w) (Xj S))))(hg:Has F (fF gv (2*(2*S.m)) (λ_=>m00) (λ_=>0))):Has F (fP ⟨v,gv,λi=>(ms i).a,λi=>(ms i).m,λi=>(ms i).b,λ_=>m00⟩ (Bl.lp S w)):=λp hf=>by
 have h1:=h p hf;have hm:6*S.n+(3*(2*S.m)+S.n)=6*S.n+6*S.m+S.n:=qo;rw[hm] at h1;have h2:=hg p hf;rw[show 2*(2*S.m)=4*S.m by omega] at h2;refine⟨h1.1,λi hi=>?_,λi hi=>?_,h2⟩
 .have:=(h1.2 i hi).1;rw[(lp_at S w i hi).1,(lp_at S w i hi).2.1] at this;exact this
 .have:=(h1.2 i hi).2;rw[(lp_at S w i hi).2.2] at this;exact this
def WC.permE{P:nh}{n:Nat}{c:Code}{e:Env}{bx:nw}{F:nc}{Q:Post}(bx':nw)(hp:bx.Perm bx')(h:WC P n c e bx' F Q):WC P n c e bx F Q:=λfr w0 a w hk hr ho=>h fr w0 a w hk hr (ho.perm hp)
def WC.cutBB{P:nh}{n k k':Nat}{e:Env}{bx:nw}{F:nc}{x y:Code}{Q:Post}{σ:Type}(E:σ->Env)(B:σ->nw)(G:σ->nc)(I:σ->Prop)
  (h1:WC P n x e bx F (blockQ k (blockQ k' (XB (λe' bx' F'=>∃s,I s/\W.Sub (E s) e'/\(B s).Sublist bx'/\Qz F' (G s)) Q))))
  (h2:∀s,I s->WC P n y (E s) (B s) (G s) Q):WC P n x e bx F (blockQ k (blockQ k' (XB (λe bx F=>WC P n y e bx F Q) Q))):=by
 have key:∀e b f,(∃s,I s/\W.Sub (E s) e/\(B s).Sublist b/\Qz f (G s))->WC P n y e b f Q:=λe b f h=>by
  obtain⟨s,h3,h4,h5,h6⟩:=h;exact(h2 s h3).weak h4 h5 h6.all
 refine h1.mono λex e b f h=>?_;cases ex with
 |normal=>exact key _ _ _ h
 |exit i=>
  simp only[blockQ] at h ⊢;cases hb:Nat.beq i k with
  |true=>rw[hb] at h;exact key _ _ _ h
  |false=>
   rw[hb] at h;simp only[cond_false] at h ⊢;cases hb':Nat.beq i k' with
   |true=>rw[hb'] at h;exact key _ _ _ h
   |false=>rw[hb'] at h;exact h
 |goto l=>exact h
 |ret=>exact h
 |panic c=>exact h
 |outgrown=>exact h
def De{α:Type}{a b c d:α}:[a,b,c,d].Perm [b,c,a,d]:=(List.Perm.swap b a [c,d]).trans ((List.Perm.swap c a [d]).cons b)
namespace K
attribute [local irreducible] WC WL WD YO LO Qq W.Fin Qk Qh Qj Row QZ Qv KnS Has W.One Qo QX
def d53{G G':Prop}(h:G')(s:Bx G'->G:=by
 intro h;first|refine gE ?_|refine goLY ?_|refine goYB ?_|refine Vp ?_|refine Zt ?_|(apply WC.draw (id:=7) [0,1,2,3,4,5] (.h 0<|.h 1<|.h 2<|.h 3<|.h 4<|.h 5<|.m 6 (.m 7 (.l 8<|.l 9 .done) (.l 8<|.l 7<|.l 9 .done)) (.l 8<|.l 6<|.l 7<|.l 9 .done)) mixed kr)|(apply WC.draw (id:=32) [0,1,2,3] (.h 0<|.h 1<|.h 2<|.h 3<|.l 4<|.l 5<|.f 6<|.l 7 .done) mixed kr)|fail
 exact Bx.h h):G:=s ⟨h⟩
def d53r{G G':Prop}(h:G')(s:Bx G'->G:=by
 intro h;repeat'(first|intro(zQ:Nat)|refine d53 ?_|intro zQ)
 repeat revert zQ
 exact Bx.h h):G:=s ⟨h⟩

def d53s{G G':Prop}(h:G')(s:Bx G'->G:=by
 intro h;refine sNn ?_;refine d53r ?_;exact Bx.h h):G:=s ⟨h⟩

def G6(M:SM)(S:Sc)(c:Nat)(hc:c<2^S.n)(K:Nat)(h0K:0<K)(hK:K<=100000)(hs:Ss K S)(ho:S.ok):FnB prog 53 [M.l,M.t,nj c] [] [fSl M S,fSt M S] (FX S (S.wt c)):=by
 refine fO [(0,M.l),(1,M.t),(2,(nj c))] 119 Tryz.func53 Tryz.ntmps53 λh0=>?_;have hn:=ho.n;have hm:=ho.m;have h32:2^S.n<=2^5:=aA qd hn;obtain⟨N,hN⟩:∃N,2^S.n=N:=⟨_,rfl⟩
 have hc':c<32:=qo;have hcN:(c:Int)<((2^S.n:Nat):Int):=qo;refine d53r ?_;intro g;refine cV (Kv M S K qo hs ho) ?_;refine d53r ?_;refine cK (Fl M S c hn hc) ?_;rintro wv _ _ ⟨mw,rfl,rfl⟩;refine d53s ?_;refine cK (ends_c M S ho) ?_;rintro va _ _ ⟨rfl,rfl⟩;refine gPs ?_;intro g;revert g;intro g10;refine WC.keep (g:=g10) (t:=159) (cs:=[va]) wq11 ?_;revert g;intro g6
 refine WC.YH (σ:=Nat×nA) (λs=>[(11,ptr s.1),(9,wv),(10,ptr g10),(0,M.l),(6,ptr g6)]) (λs=>[Ow.slice s.2 75 4 (Qc (2*(2*S.m)) λ_=>m00),Ow.cells s.1 118 [nj (2*((2*S.m:Nat):Int)),nz,s.2],Ow.cells g6 118 [nj 0,nz,nz]])
  (λ_=>[fF wv S.n mw (S.wt c),ge h0,ce g10 159 [va],fSl M S,lF JO va (2*S.m) (edM M.T) (edT S.T),fSt M S]) (λ_=>True) ?_ ?_
 .repeat'(first|intro(g:Nat)|refine d53 ?_|refine gN ?_ ?_|intro v)
  all_goals(apply Ex2;refine⟨trivial,?_,?_,?_⟩;(focus(repeat(first|exact Sub.nil _|refine Sub.cons rfl ?_)));exact wq137;exact wq26)
 rintro⟨g11,gv⟩ _;simp only;refine WC.Jh gv (2*(2*S.m)) (λ_=>m00) (λ_=>0) wq3 (W.Has.mF0 _) ?_;refine WC.QL 141 5 ?_;refine d53r ?_;refine WC.permE [_,_,_,_] De ?_
 refine WC.JK (σ:=nA×(Nat->LnM)) (λst=>[(0,M.l),(10,ptr g10),(11,ptr g11),(6,ptr g6)]) (λst=>[Ow.cells g11 118 [nj (2*((2*S.m:Nat):Int)),st.1,gv],lO Qm st.1 141 (6*S.n) st.2 (prX S (S.wt c)),Ow.cells g6 118 [nj 0,nz,nz]])
  (λst=>[lM Qm (6*S.n) st.2 (prX S (S.wt c)),fF wv S.n mw (S.wt c),fF gv (2*(2*S.m)) (λ_=>m00) (λ_=>0),ge h0,ce g10 159 [va],fSl M S,lF JO va (2*S.m) (edM M.T) (edT S.T),fSt M S]) (λ_=>True) ?_ ?_
 .refine WC.lp (σ:=Nat×nA×(Nat->LnM)) (λst=>[(58,nj (st.1:Int)),(57,nj (S.n:Int)),(56,M.l),(12,.func (.func 100) #[] #[ptr g10,ptr g11]),(9,wv),(10,ptr g10),(11,ptr g11),(0,M.l),(6,ptr g6)]) (λst=>[Ow.cells g11 118 [nj (2*((2*S.m:Nat):Int)),st.2.1,gv],lO Qm st.2.1 141 (6*st.1) st.2.2 (prX S (S.wt c)),Ow.cells g6 118 [nj 0,nz,nz]])
   (λst=>[lM Qm (6*st.1) st.2.2 (prX S (S.wt c)),fF wv S.n mw (S.wt c),fF gv (2*(2*S.m)) (λ_=>m00) (λ_=>0),ge h0,ce g10 159 [va],fSl M S,lF JO va (2*S.m) (edM M.T) (edT S.T),fSt M S]) (λst=>st.1<=S.n) (λst=>S.n-st.1) (0,nz,λ_=>⟨nz,λ_=>m00,m00⟩) (aj _) ?_ (hG:=.cons W.Has.Uy haA)
  rintro⟨i,lv,ms⟩ hi;simp only at hi ⊢;by_cases d:i<S.n
  .refine WC.fact (fB (M.B i) (S.B i)) (W.Has.lk (S:=QQ) (v:=M.l) hmA d) ?_;refine d53r ?_;intro g g;revert g;intro g14;revert g;intro g13;refine WL.keep (g:=g14) (t:=88) (cs:=bcs (M.B i)) wq11 ?_;refine WL.keep (g:=g13) (t:=3) (cs:=[nj i]) wq11 ?_;refine WL.XV [] [ptr g13] (vs:=[.func (.func 106) #[] #[]]) (Dd g13 i 106 []) ?_;rintro _ _ _ ⟨gf0,rfl,rfl,rfl⟩;refine d53s ?_;refine WL.XV [] [ptr g13] (vs:=[.func (.func 107) #[] #[]]) (Dd g13 i 107 []) ?_;rintro _ _ _ ⟨gf1,rfl,rfl,rfl⟩;refine d53s ?_;refine WL.XV [] [ptr g13] (vs:=[.func (.func 108) #[] #[ptr g14]]) (Dd g13 i 108 [ptr g14]) ?_;rintro _ _ _ ⟨gf2,rfl,rfl,rfl⟩;refine d53s ?_;intro v
   have hwt:∀i,i<S.n->Sq K (S.wt c i):=λi hi=>by
    unfold Bl.Sc.wt;split
    .exact(hs.B i hi).2.2.1
    .exact(hs.B i hi).2.1
   refine WC.fact (Xv S M i 0 g13 g14 gf0) (W.Has.cj (.cons hmA (.cons hmA (.cons (W.Has.cj (.cons hmA (.cons hmA .nil))) .nil)))) ?_;refine WC.fact (Xv S M i 1 g13 g14 gf1) (W.Has.cj (.cons hmA (.cons hmA (.cons (W.Has.cj (.cons hmA (.cons hmA .nil))) .nil)))) ?_;refine WC.fact (Xv S M i 2 g13 g14 gf2) (W.Has.cj (.cons hmA (.cons hmA (.cons (W.Has.cj (.cons hmA (.cons hmA .nil))) .nil)))) ?_;refine WC.fact (isQ (qv m00) 0) Jr ?_;refine WC.fact (isQ (qv (mw i)) (S.wt c i)) (W.Has.q (W.Has.fm (v:=wv) hmA) d) ?_;refine WC.permE [_,_,_,_] De ?_
   refine WC.JK (σ:=nA×(Nat->LnM)) (λst=>[(12,.func (.func 100) #[] #[ptr g10,ptr g11]),(16,.func (.func 103) #[] #[ptr gf0,ptr g13]),(17,.func (.func 103) #[] #[ptr gf1,ptr g13]),(18,.func (.func 103) #[] #[ptr gf2,ptr g13]),(13,ptr g13),(58,nj i),(57,nj (S.n:Int)),(56,M.l),(9,wv),(10,ptr g10),(11,ptr g11),(0,M.l),(6,ptr g6)]) (λst=>[Ow.cells g11 118 [nj (2*((2*S.m:Nat):Int)),st.1,gv],lO Qm st.1 141 (6*i+2) st.2 (prX S (S.wt c)),Ow.cells g6 118 [nj 0,nz,nz]])
    (λst=>[lM Qm (6*i+2) st.2 (prX S (S.wt c)),Xv S M i 0 g13 g14 gf0,Xv S M i 1 g13 g14 gf1,Xv S M i 2 g13 g14 gf2,ce g13 3 [nj i],isQ (qv m00) 0,isQ (qv (mw i)) (S.wt c i),fF wv S.n mw (S.wt c),fF gv (2*(2*S.m)) (λ_=>m00) (λ_=>0),ge h0,ce g10 159 [va],fSl M S,lF JO va (2*S.m) (edM M.T) (edT S.T),fSt M S]) (λ_=>True) ?_ ?_
   .revert v;intro us
    refine WC.lp (σ:=Nat×nA×(Nat->LnM)) (λst=>[(73,nj (st.1:Int)),(72,nj 2),(71,us),(12,.func (.func 100) #[] #[ptr g10,ptr g11]),(16,.func (.func 103) #[] #[ptr gf0,ptr g13]),(17,.func (.func 103) #[] #[ptr gf1,ptr g13]),(18,.func (.func 103) #[] #[ptr gf2,ptr g13]),(13,ptr g13),(58,nj i),(57,nj (S.n:Int)),(56,M.l),(9,wv),(10,ptr g10),(11,ptr g11),(0,M.l),(6,ptr g6)]) (λst=>[Ow.cells g11 118 [nj (2*((2*S.m:Nat):Int)),st.2.1,gv],lO Qm st.2.1 141 (6*i+(0+st.1)) st.2.2 (prX S (S.wt c)),Ow.slice us 3 1 (ints [1,-1]),Ow.cells g6 118 [nj 0,nz,nz]])
     (λst=>[lM Qm (6*i+(0+st.1)) st.2.2 (prX S (S.wt c)),Xv S M i 0 g13 g14 gf0,Xv S M i 1 g13 g14 gf1,Xv S M i 2 g13 g14 gf2,ce g13 3 [nj i],isQ (qv m00) 0,isQ (qv (mw i)) (S.wt c i),fF wv S.n mw (S.wt c),fF gv (2*(2*S.m)) (λ_=>m00) (λ_=>0),ge h0,ce g10 159 [va],fSl M S,lF JO va (2*S.m) (edM M.T) (edT S.T),fSt M S]) (λst=>st.1<=2) (λst=>2-st.1) (0,lv,ms) (aj _) ?_
    rintro⟨j,lv,ms⟩ hj;simp only at hj ⊢;match j,hj with
    |0,_=>
     refine d53r ?_;refine WL.y (YO.ix T.s28 rfl rfl (KnS.oI (el:=3) (l:=[1,-1]) (by exact meA)) qd) qr qr ?_;refine WL.y (YO.KD T.sc3 (v:=us) (el:=3) (j:=0*1) (l:=[1,-1]) rfl (by exact meA) qd) qr qr ?_;refine d53r ?_;refine WL.GQ [] [ptr g10,ptr g11] (vs:=[nj (sgi 0),qv m00,.func (.func 103) #[] #[ptr gf0,ptr g13]]) [_,_] _ (.refl _) (UD S M (S.wt c) i 0 0 g13 g14 gf0 g10 g11 va lv gv ms m00 ho qd qd d K h0K hK hs hwt) ?_ (hF:=.cons (show W.Has _ (isQ (qv m00) (if 0=1 then S.wt c i else 0)) from by rw[ae qd];exact hmA) haA);rintro _ _ _ ⟨lv2,mm,rfl,rfl,rfl⟩;refine d53s ?_;exact Qq.mk (1,lv2,Qy ms (6*i+(2*0+0)) mm) wq14 wq14 (hG:=.cons (W.Has.Xb hmA hmA) haA)
    |1,_=>
     refine d53r ?_;refine WL.y (YO.ix T.s28 rfl rfl (KnS.oI (el:=3) (l:=[1,-1]) (by exact meA)) qd) qr qr ?_;refine WL.y (YO.KD T.sc3 (v:=us) (el:=3) (j:=1*1) (l:=[1,-1]) rfl (by exact meA) qd) qr qr ?_;refine d53r ?_;refine WL.GQ [] [ptr g10,ptr g11] (vs:=[nj (sgi 1),qv m00,.func (.func 103) #[] #[ptr gf0,ptr g13]]) [_,_] _ (.refl _) (UD S M (S.wt c) i 0 1 g13 g14 gf0 g10 g11 va lv gv ms m00 ho qd qd d K h0K hK hs hwt) ?_ (hF:=.cons (show W.Has _ (isQ (qv m00) (if 0=1 then S.wt c i else 0)) from by rw[ae qd];exact hmA) haA);rintro _ _ _ ⟨lv2,mm,rfl,rfl,rfl⟩;refine d53s ?_;exact Qq.mk (2,lv2,Qy ms (6*i+(2*0+1)) mm) wq14 wq14 (hG:=.cons (W.Has.Xb hmA hmA) haA)
    |2,_=>
     refine d53r ?_;exact Qr (lv,ms) trivial
   rintro⟨lv,ms⟩ _;simp only;refine d53r ?_;intro v;refine WC.permE [_,_,_,_] De ?_
   refine WC.JK (σ:=nA×(Nat->LnM)) (λst=>[(12,.func (.func 100) #[] #[ptr g10,ptr g11]),(16,.func (.func 103) #[] #[ptr gf0,ptr g13]),(17,.func (.func 103) #[] #[ptr gf1,ptr g13]),(18,.func (.func 103) #[] #[ptr gf2,ptr g13]),(13,ptr g13),(58,nj i),(57,nj (S.n:Int)),(56,M.l),(9,wv),(10,ptr g10),(11,ptr g11),(0,M.l),(6,ptr g6)]) (λst=>[Ow.cells g11 118 [nj (2*((2*S.m:Nat):Int)),st.1,gv],lO Qm st.1 141 (6*i+4) st.2 (prX S (S.wt c)),Ow.cells g6 118 [nj 0,nz,nz]])
    (λst=>[lM Qm (6*i+4) st.2 (prX S (S.wt c)),Xv S M i 0 g13 g14 gf0,Xv S M i 1 g13 g14 gf1,Xv S M i 2 g13 g14 gf2,ce g13 3 [nj i],isQ (qv m00) 0,isQ (qv (mw i)) (S.wt c i),fF wv S.n mw (S.wt c),fF gv (2*(2*S.m)) (λ_=>m00) (λ_=>0),ge h0,ce g10 159 [va],fSl M S,lF JO va (2*S.m) (edM M.T) (edT S.T),fSt M S]) (λ_=>True) ?_ ?_
   .revert v;intro us
    refine WC.lp (σ:=Nat×nA×(Nat->LnM)) (λst=>[(85,nj (st.1:Int)),(84,nj 2),(83,us),(12,.func (.func 100) #[] #[ptr g10,ptr g11]),(16,.func (.func 103) #[] #[ptr gf0,ptr g13]),(17,.func (.func 103) #[] #[ptr gf1,ptr g13]),(18,.func (.func 103) #[] #[ptr gf2,ptr g13]),(13,ptr g13),(58,nj i),(57,nj (S.n:Int)),(56,M.l),(9,wv),(10,ptr g10),(11,ptr g11),(0,M.l),(6,ptr g6)]) (λst=>[Ow.cells g11 118 [nj (2*((2*S.m:Nat):Int)),st.2.1,gv],lO Qm st.2.1 141 (6*i+(2+st.1)) st.2.2 (prX S (S.wt c)),Ow.slice us 3 1 (ints [1,-1]),Ow.cells g6 118 [nj 0,nz,nz]])
     (λst=>[lM Qm (6*i+(2+st.1)) st.2.2 (prX S (S.wt c)),Xv S M i 0 g13 g14 gf0,Xv S M i 1 g13 g14 gf1,Xv S M i 2 g13 g14 gf2,ce g13 3 [nj i],isQ (qv m00) 0,isQ (qv (mw i)) (S.wt c i),fF wv S.n mw (S.wt c),fF gv (2*(2*S.m)) (λ_=>m00) (λ_=>0),ge h0,ce g10 159 [va],fSl M S,lF JO va (2*S.m) (edM M.T) (edT S.T),fSt M S]) (λst=>st.1<=2) (λst=>2-st.1) (0,lv,ms) (aj _) ?_
    rintro⟨j,lv,ms⟩ hj;simp only at hj ⊢;match j,hj with
    |0,_=>
     refine d53r ?_;refine WL.y (YO.ix T.s28 rfl rfl (KnS.oI (el:=3) (l:=[1,-1]) (by exact meA)) qd) qr qr ?_;refine WL.y (YO.KD T.sc3 (v:=us) (el:=3) (j:=0*1) (l:=[1,-1]) rfl (by exact meA) qd) qr qr ?_;refine d53r ?_;refine WL.GQ [] [ptr g10,ptr g11] (vs:=[nj (sgi 0),qv (mw i),.func (.func 103) #[] #[ptr gf1,ptr g13]]) [_,_] _ (.refl _) (UD S M (S.wt c) i 1 0 g13 g14 gf1 g10 g11 va lv gv ms (mw i) ho qd qd d K h0K hK hs hwt) ?_ (hF:=.cons (show W.Has _ (isQ (qv (mw i)) (if 1=1 then S.wt c i else 0)) from by rw[ah rfl];exact hmA) haA);rintro _ _ _ ⟨lv2,mm,rfl,rfl,rfl⟩;refine d53s ?_;exact Qq.mk (1,lv2,Qy ms (6*i+(2*1+0)) mm) wq14 wq14 (hG:=.cons (W.Has.Xb hmA hmA) haA)
    |1,_=>
     refine d53r ?_;refine WL.y (YO.ix T.s28 rfl rfl (KnS.oI (el:=3) (l:=[1,-1]) (by exact meA)) qd) qr qr ?_;refine WL.y (YO.KD T.sc3 (v:=us) (el:=3) (j:=1*1) (l:=[1,-1]) rfl (by exact meA) qd) qr qr ?_;refine d53r ?_;refine WL.GQ [] [ptr g10,ptr g11] (vs:=[nj (sgi 1),qv (mw i),.func (.func 103) #[] #[ptr gf1,ptr g13]]) [_,_] _ (.refl _) (UD S M (S.wt c) i 1 1 g13 g14 gf1 g10 g11 va lv gv ms (mw i) ho qd qd d K h0K hK hs hwt) ?_ (hF:=.cons (show W.Has _ (isQ (qv (mw i)) (if 1=1 then S.wt c i else 0)) from by rw[ah rfl];exact hmA) haA);rintro _ _ _ ⟨lv2,mm,rfl,rfl,rfl⟩;refine d53s ?_;exact Qq.mk (2,lv2,Qy ms (6*i+(2*1+1)) mm) wq14 wq14 (hG:=.cons (W.Has.Xb hmA hmA) haA)
    |2,_=>
     refine d53r ?_;exact Qr (lv,ms) trivial
   rintro⟨lv,ms⟩ _;simp only;refine d53r ?_;intro v;refine WC.permE [_,_,_,_] De ?_
   refine WC.cutBB (σ:=nA×(Nat->LnM)) (λst=>[(12,.func (.func 100) #[] #[ptr g10,ptr g11]),(16,.func (.func 103) #[] #[ptr gf0,ptr g13]),(17,.func (.func 103) #[] #[ptr gf1,ptr g13]),(18,.func (.func 103) #[] #[ptr gf2,ptr g13]),(13,ptr g13),(58,nj i),(57,nj (S.n:Int)),(56,M.l),(9,wv),(10,ptr g10),(11,ptr g11),(0,M.l),(6,ptr g6)]) (λst=>[Ow.cells g11 118 [nj (2*((2*S.m:Nat):Int)),st.1,gv],lO Qm st.1 141 (6*i+6) st.2 (prX S (S.wt c)),Ow.cells g6 118 [nj 0,nz,nz]])
    (λst=>[lM Qm (6*i+6) st.2 (prX S (S.wt c)),Xv S M i 0 g13 g14 gf0,Xv S M i 1 g13 g14 gf1,Xv S M i 2 g13 g14 gf2,ce g13 3 [nj i],isQ (qv m00) 0,isQ (qv (mw i)) (S.wt c i),fF wv S.n mw (S.wt c),fF gv (2*(2*S.m)) (λ_=>m00) (λ_=>0),ge h0,ce g10 159 [va],fSl M S,lF JO va (2*S.m) (edM M.T) (edT S.T),fSt M S]) (λ_=>True) ?_ ?_
   .revert v;intro us
    refine WC.lp (σ:=Nat×nA×(Nat->LnM)) (λst=>[(100,nj (st.1:Int)),(99,nj 2),(98,us),(12,.func (.func 100) #[] #[ptr g10,ptr g11]),(16,.func (.func 103) #[] #[ptr gf0,ptr g13]),(17,.func (.func 103) #[] #[ptr gf1,ptr g13]),(18,.func (.func 103) #[] #[ptr gf2,ptr g13]),(13,ptr g13),(58,nj i),(57,nj (S.n:Int)),(56,M.l),(9,wv),(10,ptr g10),(11,ptr g11),(0,M.l),(6,ptr g6)]) (λst=>[Ow.cells g11 118 [nj (2*((2*S.m:Nat):Int)),st.2.1,gv],lO Qm st.2.1 141 (6*i+(4+st.1)) st.2.2 (prX S (S.wt c)),Ow.slice us 3 1 (ints [1,-1]),Ow.cells g6 118 [nj 0,nz,nz]])
     (λst=>[lM Qm (6*i+(4+st.1)) st.2.2 (prX S (S.wt c)),Xv S M i 0 g13 g14 gf0,Xv S M i 1 g13 g14 gf1,Xv S M i 2 g13 g14 gf2,ce g13 3 [nj i],isQ (qv m00) 0,isQ (qv (mw i)) (S.wt c i),fF wv S.n mw (S.wt c),fF gv (2*(2*S.m)) (λ_=>m00) (λ_=>0),ge h0,ce g10 159 [va],fSl M S,lF JO va (2*S.m) (edM M.T) (edT S.T),fSt M S]) (λst=>st.1<=2) (λst=>2-st.1) (0,lv,ms) (aj _) ?_
    rintro⟨j,lv,ms⟩ hj;simp only at hj ⊢;match j,hj with
    |0,_=>
     refine d53r ?_;refine WL.y (YO.ix T.s28 rfl rfl (KnS.oI (el:=3) (l:=[1,-1]) (by exact meA)) qd) qr qr ?_;refine WL.y (YO.KD T.sc3 (v:=us) (el:=3) (j:=0*1) (l:=[1,-1]) rfl (by exact meA) qd) qr qr ?_;refine d53r ?_;refine WL.GQ [] [ptr g10,ptr g11] (vs:=[nj (sgi 0),qv m00,.func (.func 103) #[] #[ptr gf2,ptr g13]]) [_,_] _ (.refl _) (UD S M (S.wt c) i 2 0 g13 g14 gf2 g10 g11 va lv gv ms m00 ho qd qd d K h0K hK hs hwt) ?_ (hF:=.cons (show W.Has _ (isQ (qv m00) (if 2=1 then S.wt c i else 0)) from by rw[ae qd];exact hmA) haA);rintro _ _ _ ⟨lv2,mm,rfl,rfl,rfl⟩;refine d53s ?_;exact Qq.mk (1,lv2,Qy ms (6*i+(2*2+0)) mm) wq14 wq14 (hG:=.cons (W.Has.Xb hmA hmA) haA)
    |1,_=>
     refine d53r ?_;refine WL.y (YO.ix T.s28 rfl rfl (KnS.oI (el:=3) (l:=[1,-1]) (by exact meA)) qd) qr qr ?_;refine WL.y (YO.KD T.sc3 (v:=us) (el:=3) (j:=1*1) (l:=[1,-1]) rfl (by exact meA) qd) qr qr ?_;refine d53r ?_;refine WL.GQ [] [ptr g10,ptr g11] (vs:=[nj (sgi 1),qv m00,.func (.func 103) #[] #[ptr gf2,ptr g13]]) [_,_] _ (.refl _) (UD S M (S.wt c) i 2 1 g13 g14 gf2 g10 g11 va lv gv ms m00 ho qd qd d K h0K hK hs hwt) ?_ (hF:=.cons (show W.Has _ (isQ (qv m00) (if 2=1 then S.wt c i else 0)) from by rw[ae qd];exact hmA) haA);rintro _ _ _ ⟨lv2,mm,rfl,rfl,rfl⟩;refine d53s ?_;exact Qq.mk (2,lv2,Qy ms (6*i+(2*2+1)) mm) wq14 wq14 (hG:=.cons (W.Has.Xb hmA hmA) haA)
    |2,_=>
     refine d53r ?_;exact Qr (lv,ms) trivial
   rintro⟨lv,ms⟩ _;simp only;refine d53r ?_;exact Qq.mk (i+1,lv,ms) wq14 wq14
  .obtain rfl:i=S.n:=qo;refine d53r ?_;exact Qr (lv,ms) trivial
 .rintro⟨lv,ms⟩ _;simp only;have hm1:(2*((2*S.m:Nat):Int))=((4*S.m:Nat):Int):=qo
  refine WC.cut (σ:=nA×(Nat->LnM)) (λst=>[(11,ptr g11),(6,ptr g6)]) (λst=>[Ow.cells g11 118 [nj (2*((2*S.m:Nat):Int)),st.1,gv],lO Qm st.1 141 (6*S.n+(3*(2*S.m)+S.n)) st.2 (cat (6*S.n) (prX S (S.wt c)) (Xj S)),Ow.cells g6 118 [nj 0,nz,nz]])
   (λst=>[lM Qm (6*S.n+(3*(2*S.m)+S.n)) st.2 (cat (6*S.n) (prX S (S.wt c)) (Xj S)),fF gv (2*(2*S.m)) (λ_=>m00) (λ_=>0),ge h0]) (λ_=>True) ?_ ?_
  .refine d53r ?_;refine cK (limits_c M S va K h0K qo hs ho) ?_;rintro _ _ _ ⟨ms2,rfl,rfl⟩;refine d53s ?_;intro v;exact Qr (_,cat (6*S.n) ms ms2) trivial (hG:=.cons (W.Has.mcat (S:=Qm) (n:=6*S.n) (ms:=ms) (xs:=cat (6*S.n) (prX S (S.wt c)) (Xj S)) (ms2:=ms2) (xs2:=Xj S) (W.Has.lMsame (S:=Qm) (xs:=prX S (S.wt c)) hmA λj hj=>by unfold cat;rw[ah hj]) (W.Has.lm hmA) λj _=>by unfold cat;rw[ae qo,show 6*S.n+j-6*S.n=j by omega]) haA)
  rintro⟨lv,ms⟩ _;simp only;refine WC.QA (S:=Qm) (v:=lv) (n:=6*S.n+(3*(2*S.m)+S.n)) (ms:=ms) (xs:=cat (6*S.n) (prX S (S.wt c)) (Xj S)) wq3 hmA ?_;refine d53r ?_;rw[hm1];refine WC.ret ?_;exact Fp [fP ⟨lv,gv,λi=>(ms i).a,λi=>(ms i).m,λi=>(ms i).b,λ_=>m00⟩ (Bl.lp S (S.wt c))] (Qf.cT rfl rfl meA T.r118 rfl rfl) (.cons (fP_of (v:=lv) (ms:=ms) hn hmA hmA) .nil) ⟨_,rfl,rfl,rfl⟩
end K
end
section
open Go.RowKit W
abbrev lnk:Go.Conc.Lib.WgLink:={add:=50,done:=52,wait:=55,relMerge:=86,disable:=87,enable:=88,inBubble:=89,associate:=90,fatal:=91,uOr:=92,uAdd:=93,raceRead:=94,uLoad:=95,uStore:=96,disassociate:=97,semrelease:=98,acquire:=126,isAssociated:=127,uCas:=128,raceWrite:=129,semacquire:=130,orU64:=178,addU64:=179,loadU64:=180,storeU64:=181,casU64:=200,tWgP:=147,tUP:=149,tAssoc:=150,tWg:=114,tAU:=111,tU64:=109,tUint:=85,tU32:=112,tPU32:=154,tPAU:=211,tPU64:=213,tNoCopy:=106,tANoCopy:=107,tAlign64:=108}
def wgLib:Go.Conc.Lib.WgLib prog lnk where
 f_add:=Tryz.func50.trans kr
 f_done:=Tryz.func52.trans kr
 f_wait:=Tryz.func55.trans kr
 f_relMerge:=Tryz.func86.trans kr
 f_disable:=Tryz.func87.trans kr
 f_enable:=Tryz.func88.trans kr
 f_inBubble:=Tryz.func89.trans kr
 f_associate:=Tryz.func90.trans kr
 f_fatal:=Tryz.func91.trans kr
 f_uOr:=Tryz.func92.trans kr
 f_uAdd:=Tryz.func93.trans kr
 f_raceRead:=Tryz.func94.trans kr
 f_uLoad:=Tryz.func95.trans kr
 f_uStore:=Tryz.func96.trans kr
 f_disassociate:=Tryz.func97.trans kr
 f_semrelease:=Tryz.func98.trans kr
 f_acquire:=Tryz.func126.trans kr
 f_isAssociated:=Tryz.func127.trans kr
 f_uCas:=Tryz.func128.trans kr
 f_raceWrite:=Tryz.func129.trans kr
 f_semacquire:=Tryz.func130.trans kr
 f_orU64:=Tryz.func178.trans kr
 f_addU64:=Tryz.func179.trans kr
 f_loadU64:=Tryz.func180.trans kr
 f_storeU64:=Tryz.func181.trans kr
 f_casU64:=Tryz.func200.trans kr
 underlying_tWgP:=by kernel_rfl
 runUnderlying_tWgP:=λw=>by kernel_rfl
 sizeOf_tWgP:=λw=>by kernel_rfl
 isAgg_tWgP:=λw=>by kernel_rfl
 zeroValue_tWgP:=λw=>by kernel_rfl
 underlying_tUP:=by kernel_rfl
 runUnderlying_tUP:=λw=>by kernel_rfl
 sizeOf_tUP:=λw=>by kernel_rfl
 isAgg_tUP:=λw=>by kernel_rfl
 zeroValue_tUP:=λw=>by kernel_rfl
 underlying_tI32:=by kernel_rfl
 runUnderlying_tI32:=λw=>by kernel_rfl
 sizeOf_tI32:=λw=>by kernel_rfl
 isAgg_tI32:=λw=>by kernel_rfl
 zeroValue_tI32:=λw=>by kernel_rfl
 underlying_tWg:=by kernel_rfl
 runUnderlying_tWg:=λw=>by kernel_rfl
 sizeOf_tWg:=λw=>by kernel_rfl
 isAgg_tWg:=λw=>by kernel_rfl
 zeroValue_tWg:=λw=>by kernel_rfl
 underlying_tAU:=by kernel_rfl
 runUnderlying_tAU:=λw=>by kernel_rfl
 sizeOf_tAU:=λw=>by kernel_rfl
 isAgg_tAU:=λw=>by kernel_rfl
 zeroValue_tAU:=λw=>by kernel_rfl
 underlying_tU64:=by kernel_rfl
 runUnderlying_tU64:=λw=>by kernel_rfl
 sizeOf_tU64:=λw=>by kernel_rfl
 isAgg_tU64:=λw=>by kernel_rfl
 zeroValue_tU64:=λw=>by kernel_rfl
 underlying_tSh:=by kernel_rfl
 runUnderlying_tSh:=λw=>by kernel_rfl
 sizeOf_tSh:=λw=>by kernel_rfl
 isAgg_tSh:=λw=>by kernel_rfl
 zeroValue_tSh:=λw=>by kernel_rfl
 underlying_tU32:=by kernel_rfl
 runUnderlying_tU32:=λw=>by kernel_rfl
 sizeOf_tU32:=λw=>by kernel_rfl
 isAgg_tU32:=λw=>by kernel_rfl
 zeroValue_tU32:=λw=>by kernel_rfl
 underlying_tPU32:=by kernel_rfl
 runUnderlying_tPU32:=λw=>by kernel_rfl
 sizeOf_tPU32:=λw=>by kernel_rfl
 isAgg_tPU32:=λw=>by kernel_rfl
 zeroValue_tPU32:=λw=>by kernel_rfl
 underlying_tPAU:=by kernel_rfl
 runUnderlying_tPAU:=λw=>by kernel_rfl
 sizeOf_tPAU:=λw=>by kernel_rfl
 isAgg_tPAU:=λw=>by kernel_rfl
 zeroValue_tPAU:=λw=>by kernel_rfl
 underlying_tPU64:=by kernel_rfl
 runUnderlying_tPU64:=λw=>by kernel_rfl
 sizeOf_tPU64:=λw=>by kernel_rfl
 isAgg_tPU64:=λw=>by kernel_rfl
 zeroValue_tPU64:=λw=>by kernel_rfl
 underlying_t0:=by kernel_rfl
 runUnderlying_t0:=λw=>by kernel_rfl
 sizeOf_t0:=λw=>by kernel_rfl
 isAgg_t0:=λw=>by kernel_rfl
 zeroValue_t0:=λw=>by kernel_rfl
 underlying_t3:=by kernel_rfl
 runUnderlying_t3:=λw=>by kernel_rfl
 sizeOf_t3:=λw=>by kernel_rfl
 isAgg_t3:=λw=>by kernel_rfl
 zeroValue_t3:=λw=>by kernel_rfl
 underlying_t4:=by kernel_rfl
 runUnderlying_t4:=λw=>by kernel_rfl
 sizeOf_t4:=λw=>by kernel_rfl
 isAgg_t4:=λw=>by kernel_rfl
 zeroValue_t4:=λw=>by kernel_rfl
 underlying_t9:=by kernel_rfl
 runUnderlying_t9:=λw=>by kernel_rfl
 sizeOf_t9:=λw=>by kernel_rfl
 isAgg_t9:=λw=>by kernel_rfl
 zeroValue_t9:=λw=>by kernel_rfl
 underlying_t20:=by kernel_rfl
 runUnderlying_t20:=λw=>by kernel_rfl
 sizeOf_t20:=λw=>by kernel_rfl
 isAgg_t20:=λw=>by kernel_rfl
 zeroValue_t20:=λw=>by kernel_rfl
 underlying_t21:=by kernel_rfl
 runUnderlying_t21:=λw=>by kernel_rfl
 sizeOf_t21:=λw=>by kernel_rfl
 isAgg_t21:=λw=>by kernel_rfl
 zeroValue_t21:=λw=>by kernel_rfl
 room_tWg:=by kernel_rfl
 room_tU32:=by kernel_rfl
end
section
open W Go.RowKit
open Bl (Vc Bd Tc Sc)
open Go.Conc hiding base
open Go.ConcN hiding WD Has
open Go.ConcR (KK WgAt stA smA rd wr mk wgBlock Payload DC0)
open Go.Conc.Lib (WgLink WgLib)
section
variable {S:Sc}{K:Nat}
def on_sz(h0K:0<K){t:Tc}{i:Nat}{f:Vc}(h:Sv K f):Sv K (Bl.on t i f):=by
 unfold Bl.on;split
 .exact h
 .split
  .exact⟨h.1.neg,h.2.neg⟩
  .exact⟨Sq.zero.up h0K,Sq.zero.up h0K⟩
def co3_sz(h0K:0<K)(hs:Ss K S){i s j:Nat}(hi:i<S.n)(hj:j<4*S.m):Sq (6*K+3) (Bl.co3 S i s j):=by
 have ht:=hs.T (j/4) qo
 have hd:Sv K (Bl.dir (S.T (j/4)) j):=by
  unfold Bl.dir;split
  .exact ht.2.2.1
  .exact⟨ht.2.2.1.2.neg,ht.2.2.1.1⟩
 have ho:=on_sz (t:=S.T (j/4)) (i:=i) h0K hd;unfold Bl.co3;split
 .exact ho.1.up qo
 .split
  .exact ho.2.up qo
  .have hat:Sv K (S.at (j/2)):=by
    unfold Bl.Sc.at;rw[show j/2/2=j/4 by omega];split
    .exact ht.1
    .exact ht.2.1
   have h1:=(hat.1.sub (hs.B i hi).1.1).mul ho.2;have h2:=(hat.2.sub (hs.B i hi).1.2).mul ho.1;exact(h1.sub h2).up qo
def sgq_sz{k n:Nat}{x:Rat}(h:Sq k x):Sq k (x*Bl.sgq n):=by
 unfold Bl.sgq;split
 .rw[show x*1=x by grind];exact h
 .rw[show x* -1= -x by grind];exact h.neg
def one_sz(h0K:0<K):Sq K 1:=X.H5.up h0K
def lp_szs(h0K:0<K)(hK:K<=3)(hs:Ss K S)(ho:S.ok){w:nf}(hw:∀i,i<S.n->Sq K (w i)):X.Szs (Bl.lp S w) 21 199903 18992898 where
 pos:=qd
 a:=λr hr j hj=>by
  have hr':r<6*S.n+6*S.m+S.n:=hr;have hj':j<4*S.m:=hj;show Sq 21 (if r<6*S.n then _ else _);split
  .exact(sgq_sz (co3_sz h0K hs qo hj')).up qo
  .split
   .have ht:=hs.T ((r-6*S.n)/6) qo;unfold Bl.coE;repeat' split
    .exact(one_sz h0K).neg.up qo
    .exact ht.2.2.2.neg.up qo
    .exact Sq.zero.up qo
    .exact(one_sz h0K).up qo
    .exact(one_sz h0K).neg.up qo
    .exact Sq.zero.up qo
   .unfold Bl.coS;split
    .have ht:=hs.T (j/4) qo;unfold Bl.spn;exact(ht.2.2.1.1.ab.add ht.2.2.1.2.ab).up qo
    .exact Sq.zero.up qo
 b:=λr hr=>by
  have hr':r<6*S.n+6*S.m+S.n:=hr;show Sq 21 (if r<6*S.n then _ else _);split
  .split
   .exact(sgq_sz (hw _ qo)).up qo
   .exact Sq.zero.up qo
  .split
   .exact Sq.zero.up qo
   .exact(hs.B _ qo).2.2.2.up qo
 g:=λ_ _=>Sq.zero.up qo
 k:=by
  have h1:=ho.n;have h2:=ho.m;show 2*((6*S.n+6*S.m+S.n)*(50*21+2)+1)+21<=199903;omega
 v:=by
  have h2:=ho.m;show 4*S.m<=48;omega
 m:=by
  have h1:=ho.n;have h2:=ho.m;show 6*S.n+6*S.m+S.n<=128;omega
 l:=by
  have h1:=ho.n;have h2:=ho.m;show(6*S.n+6*S.m+S.n)*(21+199903+1)+1+21+1<=18992898;omega
 t:=qd
 kl:=qd
 d:=by
  have h2:=ho.m;show 4*S.m*(2*(2*199903+1)+1)+1+2*(2*199903+1)<=400000000;omega
def wt_sz(hs:Ss K S)(c:Nat):∀i,i<S.n->Sq K (S.wt c i):=λi hi=>by
 unfold Bl.Sc.wt;split
 .exact(hs.B i hi).2.2.1
 .exact(hs.B i hi).2.1
end
abbrev RB:Nat:=32000000
def nK(M:Nat):Nat:=2*(M*1052+1)+21
def nL(M:Nat):Nat:=M*(nK M+22)+23
abbrev yB(S:Sc):Nat:=nL (6*S.n+6*S.m+S.n)+nK (6*S.n+6*S.m+S.n)+1
def nK_le{M:Nat}(h:M<=95):nK M<=199903:=by unfold nK;omega
def nL_le{M:Nat}(h:M<=95):nL M<=18992898:=by
 unfold nL;have:=aO h (show nK M+22<=199925 by have:=nK_le h;omega);omega
def lp_szs2{K:Nat}{S:Sc}(h0K:0<K)(hK:K<=3)(hs:Ss K S)(ho:S.ok){w:nf}(hw:∀i,i<S.n->Sq K (w i)):X.Szs (Bl.lp S w) 21 (nK (6*S.n+6*S.m+S.n)) (nL (6*S.n+6*S.m+S.n)):=by
 have h:=lp_szs h0K hK hs ho hw;have hm:=ho.m;have hn:=ho.n;have e:(Bl.lp S w).m=6*S.n+6*S.m+S.n:=rfl;have ev:(Bl.lp S w).v=4*S.m:=rfl;obtain⟨M,hM⟩:∃M,6*S.n+6*S.m+S.n=M:=⟨_,rfl⟩
 have h95:M<=95:=qo;have k1:=nK_le h95;have k2:=nL_le h95;rw[hM];rw[hM] at e;refine⟨h.pos,h.a,h.b,h.g,?_,h.v,h.m,?_,by omega,?_,?_⟩
 .rw[e];unfold nK;omega
 .rw[e];unfold nL;rw[show 21+nK M+1=nK M+22 by omega];omega
 .unfold nL;by_cases c:M=0
  .subst c;decide
  .have:=aO (show 1<=M by omega) (ai (nK M+22));omega
 .rw[ev];have:=aO (show 4*S.m<=40 by omega) (show 2*(2*nK M+1)+1<=799615 by omega);omega
abbrev RA:Nat:=399807
def RowD(S:Sc)(i:Nat)(vs:ne)(f:Fct):Prop:=∃(A:Am) (kind xn yn:Nat) (x y:nf) (z:Rat),vs=acs A (kind:Nat)/\f=fA A xn yn x y z/\AnsP (Bl.lp S (S.wt i)) kind xn yn x y z/\(∀k,k<xn->Sq RA (x k))/\(∀k,k<yn->Sq (yB S) (y k))
def solveD_c(Mp:Pm)(S:Sc)(K i:Nat)(h0K:0<K)(hK:K<=3)(hs:Ss K S)(ho:S.ok):FnB prog 54 [pgv Mp ((4*S.m:Nat):Int)] [] [fP Mp (Bl.lp S (S.wt i))] (IsAns2 (Bl.lp S (S.wt i)) RA (yB S) RB):=by
 have hm:=ho.m;have hn:=ho.n;obtain⟨q,hq⟩:∃q,nK (6*S.n+6*S.m+S.n)=q:=⟨_,rfl⟩
 have k1:=nK_le (M:=6*S.n+6*S.m+S.n) qo;have k2:=nL_le (M:=6*S.n+6*S.m+S.n) qo;rw[hq] at k1;refine W.FnB.mono (Z.solve_c Mp (Bl.lp S (S.wt i)) 21 (nK (6*S.n+6*S.m+S.n)) (nL (6*S.n+6*S.m+S.n)) RB (lp_szs2 h0K hK hs ho (wt_sz hs i)) ?_ ?_ ?_ ?_ ?_) ?_
 .show 4*S.m<=48;omega
 .show 6*S.n+6*S.m+S.n<=128;omega
 .rw[hq];show 2*q+1<=32000000;omega
 .show nL _<=32000000;omega
 .rw[hq];show 4*S.m*(2*(2*q+1)+1)+1<=32000000;have:=aO (show 4*S.m<=40 by omega) (show 2*(2*q+1)+1<=799615 by omega);omega
 .rintro v b g ⟨M,kind,xn,yn,x,y,z,h1,h2,h3,h4,h5,h6,h7⟩;exact⟨M,kind,xn,yn,x,y,z,h1,h2,h3,h4,λk hk=>(h5 k hk).up (by rw[hq];show 2*q+1<=399807;omega),h6,h7⟩
def knS_lit{bx:nw}{F:nc}{C N cap:Nat}(h1:N<=cap)(h2:cap<=maxLen):KnS bx F (.slice (some ⟨C,0,none⟩) N cap) N:=λfr w _=>⟨_,cap,rfl,h1,h2,.inr ⟨C,0,rfl⟩⟩
def WDo.byP{P:nh}{n:Nat}{L:List Oper}{hs:List Nat}{b0 bx:nw}{F0 F:nc}{r:Plan}{e:Env}{T:CF->nm->RQ->Prop}{p:Prop}(hp:∀fr w,OK fr bx F w->p)(h:p->WDo P n L hs b0 F0 r e bx F T):WDo P n L hs b0 F0 r e bx F T:=λfr w0 listed a w fuel Q' h1 h2 h3 h4 h5 h6 h7 h8 ho=>h (hp fr w ho) fr w0 listed a w fuel Q' h1 h2 h3 h4 h5 h6 h7 h8 ho
def one_acs{bx:nw}{F:nc}{A:Am}{kind:Int}{xn yn:Nat}{x y:nf}{z:Rat}(h:W.Has F (fA A xn yn x y z)):QB bx F (acs A kind):=
 .cons (One.lit rfl rfl) (.cons (One.sl (KnS.ff (λp hf=>(h p hf).1))) (.cons (One.sl (KnS.ff (λp hf=>(h p hf).2.1))) (ZM (λp hf=>(h p hf).2.2))))
namespace K
attribute [local irreducible] WC WL WD YO LO Qq W.Fin Qk Qh Qj Row QZ Qv KnS Has W.One Qo QX
attribute [local irreducible] WDo
def decide1_c[Payload](p:Ph)(hty:p.ty=lnk.tWg)(hBx:p.S0 p.Bx)(C N cap:Nat)(hC:p.C=C)(hm7:p.m=7)(hN:p.N=cap)(hcap:N<=cap)(hlen:cap<=maxLen)(M:SM)(S:Sc)(K:Nat)(h0K:0<K)(hK:K<=3)(hs:Ss K S)(ho:S.ok)(hF:p.F=FJ prog p.hid (RowD S))
  (i gi g2 g3 g8:Nat) (w:nm) (l1:Nat->Option Obj) (hi:i<N) (hN2:N=2^S.n)
  (hok:∀ds,OK (frW p i gi ds) [Ow.cells gi 3 [nj i]] [geL l1,ce g2 31 [M.l],ce g3 32 [M.t],ce g8 104 [.slice (some ⟨C,0,none⟩) N cap],fSl M S,fSt M S] w) :
  Wrk prog p i gi (born prog {target:=.fn (.func 51) [ptr p.Wg,ptr g2,ptr g3,ptr gi,ptr g8].toArray,args:=#[]}) w:=by
 refine worker_wc wgLib hty hBx (n:=22) (x:=.tmp 0) (e0:=[(0,ptr p.Wg),(1,ptr g2),(2,ptr g3),(3,ptr gi),(4,ptr g8)]) Tryz.func51 kr rfl rfl Tryz.ntmps51 rfl suA rfl kr [0,1,2] (.h 0<|.h 1<|.h 2<|.l 3<|.f 4<|.f 5<|.f 6<|.f 7<|.l 8 .done) kr ?_ hok;refine gPr ?_;refine cW (G6 M S i qo K h0K qo hs ho) λMp=>?_;refine WL.QD (fF Mp.gv (Bl.lp S (S.wt i)).v Mp.mg (Bl.lp S (S.wt i)).g) (W.Has.pg (M:=Mp) (m:=(Bl.lp S (S.wt i)).m) (gn:=(Bl.lp S (S.wt i)).v) (ln:=λ_=>(Bl.lp S (S.wt i)).v) (a:=(Bl.lp S (S.wt i)).a) (b:=(Bl.lp S (S.wt i)).b) hmA) ?_;refine gPr ?_;intro g;refine⟨by trivial,?_⟩;refine WDo.y rfl (YO.ldF T.Ks rfl (tg:=104) (cs:=[.slice (some ⟨C,0,none⟩) N cap]) hmA rfl) rfl rfl ?_;refine WDo.y rfl (YO.ldB T.sc3 rfl (tg:=3) (cs:=[nj i]) meA rfl) rfl rfl ?_;refine WDo.y rfl (YO.ldW T.r118 rfl (tg:=118) (cs:=pcs Mp ((4*S.m:Nat):Int)) meA rfl) rfl rfl ?_;refine WDo.l To.up rfl rfl rfl (LO.call (first:=[]) (cap:=[]) rfl (vs:=[pgv Mp ((4*S.m:Nat):Int)]) (.cons rfl .nil) [] _ (.refl _) (solveD_c Mp S K i h0K hK hs ho) (W.Qz.all (.cons hmA .nil)) ?_);rintro _ _ _ ⟨A,kind,xn,yn,x,y,z,rfl,rfl,rfl,ha,hx,hy,hz⟩;refine⟨.inr ⟨aI _,λf hf=>aV _ hf⟩,?_⟩;refine sNn ?_;refine WDo.fy rfl (YO.move rfl) rfl rfl ?_;refine WDo.fy rfl (YO.extract (vs:=[agv A (kind:Nat),nj 0]) rfl rfl) rfl rfl ?_;refine WDo.fy rfl (YO.extract (vs:=[agv A (kind:Nat),nj 0]) rfl rfl) rfl rfl ?_;refine WDo.fy rfl (YO.ix T.s104 rfl rfl (knS_lit hcap hlen) hi) rfl rfl ?_;refine WDo.byP (p:=∀u∈acs A (kind:Nat),u.oneCell'=true) (λfr w ho=>(one_acs hmA).all ho) λh1c=>?_;refine WDo.store (vs:=acs A (kind:Nat)) (f:=fA A xn yn x y z) rfl kr ?_ rfl rfl kr ?_ hm7.symm qo qo (box:=gi) (tg:=3) (cs:=[nj i]) meA hF ?_ (λ_ _ _ h=>h) ⟨A,kind,xn,yn,x,y,z,rfl,rfl,ha,hx,hy⟩
 .rw[hC,hm7,aY 7 i];show some (Value.pointer (some ⟨C,0+i*7,none⟩))=_;rw[aR]
 .exact h1c
 .exact hmA
end K
end
end Go.Proofs.YtbnobghgnbockaaGreat
