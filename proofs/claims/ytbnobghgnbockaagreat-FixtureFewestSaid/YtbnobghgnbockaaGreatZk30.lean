/- Lemmas. Conditions: none. -/
import Derived.Test.YtbnobghgnbockaaGreatZk29
set_option linter.all false
set_option maxHeartbeats 0
set_option maxRecDepth 100000
namespace Go.Proofs.YtbnobghgnbockaaGreat
open Tryz (prog)
open W Go.RowKit
namespace Z
attribute [local irreducible] WC WL WD YO LO Qq W.Fin Qk Qh Qj Row QZ Qv KnS Has W.One Qo QX
attribute [local irreducible] WX V5
def entering_c(l:Nat)(r:Loop)(gb gx g5 g4 g2 xg vars m n:Nat)(b5 v4:nA)(tv cv bv:nA)(rv:ng)(ms:Nat->Nat->QM)(mc:Nat->QM)(tt:Nat->nf)(c:nf)(bb:Nat->Nat)(e:Nat)(he:e<=n)(hw:n<=100000)(hx:PH)(X:Nat->Code->nw->nc->Prop)
  (hY:∀k,k<e->c k<0->(∀j,j<k->¬c j<0)->V5 prog l r (nj k) (Ow.cells gb 3 [nj e]::Ow.cells gx 173 [ptr xg]::Ow.cells g5 4 [b5]::Ow.cells g4 3 [v4]::Ow.cells g2 173 [ptr xg]::TB xg vars m n tv cv bv rv ms mc bb) [mT m (n+1) ms tt,mF (n+1) mc c,ge hx] (X k)) :
  FnB prog 220 [.func (.yield l) #[] #[],ptr gb,ptr gx] (Ow.obj l (.loop r)::Ow.cells gb 3 [nj e]::Ow.cells gx 173 [ptr xg]::Ow.cells g5 4 [b5]::Ow.cells g4 3 [v4]::Ow.cells g2 173 [ptr xg]::TB xg vars m n tv cv bv rv ms mc bb) [mT m (n+1) ms tt,mF (n+1) mc c,ge hx]
   (RgP l r (λbx' G=>(∀j,j<e->¬c j<0)/\bx'=Ow.cells gb 3 [nj e]::Ow.cells gx 173 [ptr xg]::Ow.cells g5 4 [b5]::Ow.cells g4 3 [v4]::Ow.cells g2 173 [ptr xg]::TB xg vars m n tv cv bv rv ms mc bb/\G=[]) (λcd bx' G=>∃k,k<e/\c k<0/\(∀j,j<k->¬c j<0)/\X k cd bx' G)):=by
 refine FR [(0,(.func (.yield l) #[] #[])),(1,(ptr gb)),(2,(ptr gx))] 25 Tryz.func220 rfl Tryz.ntmps220 kr rfl suA λh0=>?_;refine WX.seq ?_;refine WX.region ?_;refine gAr ?_;refine WX.block ?_;refine WX.loop (σ:=Nat) (λk=>[(6,nj k),(5,nj e),(0,.func (.yield l) #[] #[]),(1,ptr gb),(2,ptr gx)]) (λ_=>Ow.obj l (.loop r)::Ow.cells gb 3 [nj e]::Ow.cells gx 173 [ptr xg]::Ow.cells g5 4 [b5]::Ow.cells g4 3 [v4]::Ow.cells g2 173 [ptr xg]::TB xg vars m n tv cv bv rv ms mc bb) (λk=>ge h0::mT m (n+1) ms tt::mF (n+1) mc c::ge hx::[]) (λk=>k<=e/\∀j,j<k->¬c j<0) (λk=>e-k) ?_ 0 ⟨aj _,λj h=>by omega⟩ suA slA sfA;rintro k ⟨hk,hno⟩;refine WX.seq ?_;refine WX.region ?_;by_cases ck:k<e
 .refine gAr ?_;refine WX.seq ?_;refine WX.cond (b:=true) rfl ?_;rw[ah rfl];refine WX.skip ?_;refine WX.seq ?_;refine WX.block ?_;refine WX.seq ?_;refine WX.region ?_;refine gAr ?_;refine WX.seq ?_;by_cases hc:c k<0
  .have hq:sgn (c k).num<0:=Xq.2 hc;refine WX.region ?_;refine WL.QD (isQ (qv (mc k)) (c k)) (W.Has.q hmA qo) ?_;refine gAr ?_;refine cV (Zn.sign (mc k) (c k)) ?_;refine gAr ?_;refine WL.l rfl rfl (LO.yield (hY k ck hc hno) rfl rfl (F0:=_) (λf hf=>?_) λcd bx' G hX=>?_)
   .simp only[bq,aW,di] at hf;rcases hf with rfl|rfl|rfl
    .exact hmA
    .exact hmA
    .exact hmA
   refine gAr ?_;refine WX.cond (b:=true) rfl ?_;rw[ah rfl];refine WX.ret ?_;exact W.Fin.p _ G (Qf.t0 rfl) (aV _ meA) (aI _) (W.Qz.of λf hf=>Has.mem (dY _ hf)) (.inr ⟨cd,bx',rfl,k,ck,hc,hno,hX⟩)
  .refine WX.region ?_;have hq:¬sgn (c k).num<0:=λh=>hc (Xq.1 h);refine WL.QD (isQ (qv (mc k)) (c k)) (W.Has.q hmA qo) ?_;refine gAr ?_;refine cV (Zn.sign (mc k) (c k)) ?_;refine gAr ?_;refine WX.cond (b:=false) rfl ?_;rw[ae qd];refine WX.skip ?_;refine WX.region ?_;refine gAr ?_
   exact⟨k+1,⟨⟨by omega,λj hj=>by
    by_cases h:j=k
    .subst h;exact hc
    .exact hno j qo⟩,by show e-(k+1)<e-k;omega⟩,suA,slA,sfA⟩
 .obtain rfl:k=e:=qo;refine gAr ?_;refine WX.seq ?_;refine WX.cond (b:=false) rfl ?_;rw[ae qd];refine WX.exit ?_;exact W.Fin.p _ [] (Qf.t0 rfl) meA (aI _) .nil (.inl ⟨_,rfl,hno,rfl,rfl⟩)
end Z
def Qf.c1{P:nh}{e:Env}{bx:nw}{F:nc}{fn:Func}{t:Tmp}{ty:nl}{g tg:Nat}{v:nA}(h:fn.results=#[.cell t ty])(hl:W.look e t=some (.pointer (some ⟨g,0,none⟩)))(hb:Ow.cells g tg [v]∈bx)(hr:Qk P ty):Qf P fn e bx F v:=λn fr a w hk ho=>by
 have h1:a.tmps[t]?.getD undef=.pointer (some ⟨g,0,none⟩):=by rw[hk.at' _ _ hl];rfl
 have hc:w.cell? ⟨g,0,none⟩=some v:=by rw[JV (ho.owns _ hb)];rfl
 have h2:=run_ld (P:=P) (w:=w) (b:=g) (o:=0) (v:=v) hr hc;have hg:fr.own g:=(ho.apart g (JN.2 ⟨_,hb,by simp[Ow.ids]⟩)).1
 have h4:(results fn a.tmps).events P w #[]=#[⟨.cell ⟨g,0,none⟩,false,false⟩]:=by
  simp only[results,h];simp[h1,asAddr,h2,ev_ld hr hc]
 refine⟨?_,λev he=>?_⟩
 .simp only[results,h];simp[h1,asAddr,h2]
 .rw[h4] at he;simp at he;subst he;exact .inl ⟨_,rfl,.inl hg⟩
def IsEn(f:np)(xg e:Nat):Qd:=λv B G=>∃ga gb,v=.func (.func f) #[] #[ptr gb,ptr ga]/\B=[Ow.cells gb 3 [nj e],Ow.cells ga 173 [ptr xg]]/\G=[]
def IsRn(xg vars m n:Nat)(tv cv bv:nA)(rv:ng)(R:X.St×Option Nat):Qd:=λv B G=>∃ms mc,v=nj (Yx R.2)/\B=TB xg vars m n tv cv bv rv ms mc R.1.b/\G=[mT m (n+1) ms R.1.t,mF (n+1) mc R.1.c]
structure RS where
 g5:Nat
 ag:Bool
 ms:Nat->Nat->QM
 mc:Nat->QM
 s:X.St
 f:Nat
def ent_of{s:X.St}{e k:Nat}(hk:k<e)(hc:s.c k<0)(hn:∀j,j<k->¬s.c j<0):X.ent s e=some k:=by
 rcases X.Ys s e with ⟨_,h2⟩|⟨j,h2,h3,h4,h5⟩
 .have:=h2 k hk;grind
 .have:j=k:=by
   by_cases c1:j<k
   .exact absurd h4 (hn j c1)
   .by_cases c2:k<j
    .have:=h5 k c2;grind
    .omega
  rw[h2,this]
def ent_no{s:X.St}{e:Nat}(h:∀j,j<e->¬s.c j<0):X.ent s e=none:=by
 rcases X.Ys s e with ⟨h2,_⟩|⟨j,h2,h3,h4,h5⟩
 .exact h2
 .exact absurd h4 (h j h3)
namespace Z
attribute [local irreducible] WC WL WD YO LO Qq W.Fin Qk Qh Qj Row QZ Qv KnS Has W.One Qo QX
def entering_o(xg e:Nat):FnB prog 191 [ptr xg,nj e] [] [] (IsEn 220 xg e):=by
 refine fO [(0,(ptr xg)),(1,(nj e))] 6 Tryz.func191 Tryz.ntmps191 λh0=>?_;refine gAr ?_;intro g g;exact wq95
attribute [local irreducible] WX V5
def run_c(xg vars m n e K f:Nat)(tv cv bv:nA)(rv:ng)(ms:Nat->Nat->QM)(mc:Nat->QM)(s:X.St)(R:X.St×Option Nat)(he:e<=n)(hm:m<=1000)(hn:n<=10000)(hK:K<=20000000)(hK0:0<K)
  (hrun:X.runP m n e f s=some R) (I:X.St->Prop) (hI0:I s) (hI:∀u k r,I u->X.ent u e=some k->X.lev n u k m=some r->I (X.pv u r k))
  (hS:∀u,I u->(∀i,i<m->∀k,k<n+1->Sq K (u.t i k))/\∀k,k<n+1->Sq K (u.c k)) :
  FnB prog 116 [ptr xg,nj e] (TB xg vars m n tv cv bv rv ms mc s.b) [mT m (n+1) ms s.t,mF (n+1) mc s.c] (IsRn xg vars m n tv cv bv rv R):=by
 refine FR [(0,(ptr xg)),(1,(nj e))] 24 Tryz.func116 rfl Tryz.ntmps116 kr rfl suA λh0=>?_;repeat refine WX.seq ?_
 refine WX.region ?_;refine gAr ?_;intro g g;rename_i g2
 revert g;intro g4;repeat refine WX.seq ?_
 refine WX.region ?_;refine gAr ?_;intro g;revert g;intro g50;refine WX.block ?_
 refine WX.loop (σ:=RS) (λst=>[(5,ptr st.g5),(1,nj e),(2,ptr g2),(4,ptr g4)])
  (λst=>Ow.cells st.g5 4 [.bool st.ag]::Ow.cells g4 3 [nj 0]::Ow.cells g2 173 [ptr xg]::TB xg vars m n tv cv bv rv st.ms st.mc st.s.b)
  (λst=>mT m (n+1) st.ms st.s.t::mF (n+1) st.mc st.s.c::ge h0::[])
  (λst=>I st.s/\if st.ag=true then X.runP m n e st.f st.s=some R else R=(st.s,none))
  (λst=>2*st.f+if st.ag=true then 1 else 0) ?_ ⟨g50,true,ms,mc,s,f⟩ ⟨hI0,by rw[ah rfl];exact hrun⟩ suA (aI _ |>.trans (by simp only[];exact slA)) sfA
 rintro⟨g5,ag,ms,mc,s,f⟩ ⟨hIs,hrs⟩;simp only at hIs hrs ⊢;repeat refine WX.seq ?_
 refine WX.region ?_;refine gAr ?_;cases ag with
 |false=>
  rw[ae qd] at hrs;subst hrs;repeat refine WX.seq ?_
  refine WX.cond (b:=false) rfl ?_;rw[ae qd];refine WX.exit ?_;repeat refine WX.seq ?_
  refine WX.region ?_;refine gAr ?_;refine WX.ret ?_;exact Fin.p (TB xg vars m n tv cv bv rv ms mc s.b) [mT m (n+1) ms s.t,mF (n+1) mc s.c] (Qf.c1 rfl rfl meA T.sc3) meA slA sfA ⟨ms,mc,rfl,rfl,rfl⟩
 |true=>
  rw[ah rfl] at hrs;repeat refine WX.seq ?_
  refine WX.cond (b:=true) rfl ?_;rw[ah rfl];refine WX.skip ?_;repeat refine WX.seq ?_
  refine WX.block ?_;repeat refine WX.seq ?_
  refine WX.region ?_;refine gAr ?_;repeat refine WX.seq ?_
  refine WX.region ?_;refine gAr ?_;refine WL.Jj (entering_o xg e) ?_;rintro _ _ _ ⟨ga,gb,rfl,rfl,rfl⟩;refine gAs ?_;repeat refine WX.block ?_
  have hEv:∀k,k<e->s.c k<0->(∀j,j<k->¬s.c j<0)->X.ent s e=some k:=λk=>ent_of
  refine WX.range (λbx' G=>(∀j,j<e->¬s.c j<0)/\bx'=Ow.cells gb 3 [nj e]::Ow.cells ga 173 [ptr xg]::Ow.cells g5 4 [nq]::Ow.cells g4 3 [nj 0]::Ow.cells g2 173 [ptr xg]::TB xg vars m n tv cv bv rv ms mc s.b/\G=[])
   (λc bx' Fc=>∃k,k<e/\s.c k<0/\(∀j,j<k->¬s.c j<0)/\match X.lev n s k m with
    |none=>c=.ret/\bx'=Ow.cells gb 3 [nj e]::Ow.cells ga 173 [ptr xg]::Ow.cells g5 4 [nq]::Ow.cells g4 3 [nj k]::Ow.cells g2 173 [ptr xg]::TB xg vars m n tv cv bv rv ms mc s.b/\Fc=[mT m (n+1) ms s.t,mF (n+1) mc s.c]
    |some r=>c=.exit 2/\∃ms' mc',bx'=Ow.cells gb 3 [nj e]::Ow.cells ga 173 [ptr xg]::Ow.cells g5 4 [.bool true]::Ow.cells g4 3 [nj 0]::Ow.cells g2 173 [ptr xg]::TB xg vars m n tv cv bv rv ms' mc' (X.pv s r k).b/\Fc=[mT m (n+1) ms' (X.pv s r k).t,mF (n+1) mc' (X.pv s r k).c])
   rfl ?seq ?done ?stop
  case seq=>
   intro l rec hkn hrs1 hrs2 hrs3 hrs4 hrs5;refine entering_c l rec gb ga g5 g4 g2 xg vars m n nq (nj 0) tv cv bv rv ms mc s.t s.c s.b e he qo h0 _ λk hk hc hno=>?_;refine yieldB_of hkn hrs1 hrs3 hrs4 rfl rfl λh1=>?_;rw[hrs5];refine WC.block ?_;repeat refine WC.seq ?_
   refine WC.region ?_;obtain⟨hS1,hS2⟩:=hS s hIs;refine gAr ?_;refine WL.Y1 (leaving_c xg vars m n tv cv bv rv ms s k K qo hm hn hK hK0 hS1) ?_ (hF:=.cons (.c meA) (.cons (QV.sV (el:=61) meA) (.cons (QV.rows slA hmA) (.cons (QV.sN (el:=3) meA) .nil))));refine gAr ?_;cases hL:X.lev n s k m with
   |none=>
    rw[show Yx none= -1 from rfl];refine gAr ?_;refine WC.ret ?_;exact⟨_,[mT m (n+1) ms s.t,mF (n+1) mc s.c],aI _,hmA,W.Qz.all sfA,⟨rfl,rfl,rfl⟩⟩
   |some r=>
    have hr:=Dx hL;rw[show Yx (some r)=(r:Int) from rfl];refine gAr ?_;refine WL.Zc (TB xg vars m n tv cv bv rv ms mc s.b) [Ow.cells gb 3 [nj e],Ow.cells ga 173 [ptr xg],Ow.cells g5 4 [nq],Ow.cells g4 3 [nj 0],Ow.cells g2 173 [ptr xg]] (ay (l₁:=[Ow.cells gb 3 [nj e],Ow.cells ga 173 [ptr xg],Ow.cells g5 4 [nq],Ow.cells g4 3 [nj 0],Ow.cells g2 173 [ptr xg]])) (pivot_c xg vars m n tv cv bv rv ms mc s r k K hr qo hm hn hK hK0 hS1 hS2) ?_;rintro _ _ _ ⟨ms2,mc2,rfl,rfl,rfl⟩;refine WL.perm ([Ow.cells gb 3 [nj e],Ow.cells ga 173 [ptr xg],Ow.cells g5 4 [nq],Ow.cells g4 3 [nj 0],Ow.cells g2 173 [ptr xg]]++TB xg vars m n tv cv bv rv ms2 mc2 (X.pv s r k).b) ay ?_;refine gAs ?_;exact⟨_,[mT m (n+1) ms2 (X.pv s r k).t,mF (n+1) mc2 (X.pv s r k).c],aI _,hmA,W.Qz.all sfA,⟨rfl,ms2,mc2,rfl,rfl⟩⟩
  case done=>
   rintro _ _ ⟨hS0,rfl,rfl⟩;have hEn:=ent_no hS0;cases f with
   |zero=>simp[X.runP] at hrs
   |succ f=>
    rw[X.runP,hEn] at hrs;simp only[b8] at hrs;repeat refine WX.seq ?_
    refine WX.region ?_;refine gAr ?_;refine WX.region ?_;refine gAr ?_;intro g;exact⟨⟨_,false,ms,mc,s,f⟩,⟨⟨hIs,hrs.symm⟩,by show 2*f+0<2*(f+1)+1;omega⟩,suA,slA,sfA⟩
  case stop=>
   rintro c bx' Fc ⟨k,hk,hc,hno,hX⟩;have hEn:=hEv k hk hc hno;cases f with
   |zero=>simp[X.runP] at hrs
   |succ f=>
    rw[X.runP,hEn] at hrs;dsimp only at hrs hX;cases hL:X.lev n s k m with
    |none=>
     rw[hL] at hX hrs;simp only[b8] at hrs;obtain⟨rfl,rfl,rfl⟩:=hX;subst hrs;refine WX.ret ?_;exact Fin.p (TB xg vars m n tv cv bv rv ms mc s.b) [mT m (n+1) ms s.t,mF (n+1) mc s.c] (Qf.c1 rfl rfl meA T.sc3) meA slA sfA ⟨ms,mc,rfl,rfl,rfl⟩
    |some r=>
     rw[hL] at hX hrs;obtain⟨rfl,ms2,mc2,rfl,rfl⟩:=hX;refine WX.exit ?_;repeat refine WX.seq ?_
     refine WX.region ?_;refine gAr ?_;refine WX.region ?_;refine gAr ?_;intro g;exact⟨⟨_,true,ms2,mc2,X.pv s r k,f⟩,⟨⟨hI s k r hIs hEn hL,hrs⟩,by show 2*f+1<2*(f+1)+1;omega⟩,suA,slA,sfA⟩
end Z
section
variable {P:nh}{n:Nat}{L rest:List Oper}{e:Env}{bx:nw}{F:nc}{Q2:Env->nw->nc->Prop}
def WD.Hj{hs:List Nat}{b0:nw}{F0 F':nc}{p:Plan}{i d:Nat}{f:np}{x:ni}{args:List ni}{ats:Array nl}{vs:ne}{R:Qd}{ty:nl}{pos:String}{af:Array Edge}{gd:Option (Nat×Bool)}(first cap:ne)(ba br:nw)(hp:bx.Perm (ba++br))(hf:FnB P f (first++vs++cap) ba F' R)(hK:∀v b G,R v b G->WD P n L hs b0 F0 p ((d,v)::e) (b++br) (G++F) Q2)
  (hL:L[i]?=some ⟨some d,.call {callee:=.value x,args:=args.toArray,argTypes:=ats},ty,pos,af,gd⟩:=by exact rfl) (hx:ev e x=some (.func (.func f) first.toArray cap.toArray):=by exact rfl) (hv:Evs e args vs:=by repeat(first|exact Evs.nil|(apply Evs.cons;exact rfl))) (hF:Qz F F':=by repeat(first|exact Qz.nil|(apply Qz.cons;exact hsA)))
  (hd:Nat.blt d n=true:=by exact rfl) (hg:gok L e gd=some true:=by exact rfl) (lt:Q3 L hs i=true:=by kernel_rfl):WD P n L hs b0 F0 (.loud i p) e bx F Q2:=
 WD.l hL hd hg (LO.call hx hv ba br hp hf hF.all λv b G hR=>⟨.inl lt,hK v b G hR⟩)
def WL.Hj{F':nc}{d:Nat}{f:np}{x:ni}{args:List ni}{ats:Array nl}{vs:ne}{R:Qd}{ty:nl}{pos:String}{af:Array Edge}{gd:Option (Nat×Bool)}(first cap:ne)(ba br:nw)(hp:bx.Perm (ba++br))(hf:FnB P f (first++vs++cap) ba F' R)(hK:∀v b G,R v b G->WL P n L rest ((d,v)::e) (b++br) (G++F) Q2)
  (hx:ev e x=some (.func (.func f) first.toArray cap.toArray):=by exact rfl) (hv:Evs e args vs:=by repeat(first|exact Evs.nil|(apply Evs.cons;exact rfl))) (hF:Qz F F':=by repeat(first|exact Qz.nil|(apply Qz.cons;exact hsA)))
  (hd:Nat.blt d n=true:=by exact rfl) (hg:gok L e gd=some true:=by exact rfl):WL P n L (⟨some d,.call {callee:=.value x,args:=args.toArray,argTypes:=ats},ty,pos,af,gd⟩::rest) e bx F Q2:=
 WL.l hd hg (LO.call hx hv ba br hp hf hF.all hK)
end
def YO.lssD{P:nh}{e:Env}{bx:nw}{F:nc}{ty t t':nl}{x y:ni}{k:IntKind}{i j:Int}(hx:ev e x=some (.int k i))(hy:ev e y=some (.int k j)):YO P (.binOp .lss t x y t') ty e bx F (.bool (decide (i<j))):=YO.cmp hx hy (by simp)
def WC.isSl{P:nh}{n k:Nat}{c:Code}{e:Env}{bx:nw}{F:nc}{Q:Post}{v:nA}(hk:KnS bx F v k)(h:∀a c',v=.slice a k c'->WC P n c e bx F Q):WC P n c e bx F Q:=
 WC.pure (p:=∃a c',v=.slice a k c') (λfr w ho=>by obtain⟨a,c',h1,_⟩:=(hk fr w ho).is;exact⟨a,c',h1⟩) λ⟨a,c',h1⟩=>h a c' h1
def rwx(p:X.Lp)(i k j:Nat):Rat:=if j<k then p.A i j else if p.v<=j/\j<p.v+k then p.A i j else 0
def rwx_up{p:X.Lp}{i k:Nat}{neg:Bool}(hn:neg=decide (p.b i<0))(hk:k<p.v)(j:Nat):Qy (Qy (rwx p i k) k (if neg=true then -(p.a i k) else p.a i k)) (p.v+k) (if neg=true then -(-(p.a i k)) else -(p.a i k)) j=rwx p i (k+1) j:=by
 have hs:p.sg i=if neg=true then -1 else 1:=by
  unfold X.Lp.sg;rw[hn];by_cases c:p.b i<0<;>simp[c]
 have h1:(if neg=true then -(p.a i k) else p.a i k)=p.A i k:=by
  unfold X.Lp.A;rw[ah hk,hs];cases neg<;>simp<;>grind
 have h2:(if neg=true then -(-(p.a i k)) else -(p.a i k))=p.A i (p.v+k):=by
  unfold X.Lp.A;rw[ae (show ¬p.v+k<p.v by omega),ah (show p.v+k<2*p.v by omega),hs,show p.v+k-p.v=k by omega];cases neg<;>simp<;>grind
 rw[h1,h2];unfold Qy rwx;by_cases c1:j=p.v+k
 .subst c1;rw[ah rfl,ae qo,ah qo]
 .rw[ae c1];by_cases c2:j=k
  .subst c2;rw[ah rfl,ah qo]
  .rw[ae c2];by_cases c3:j<k
   .rw[ah c3,ah qo]
   .rw[ae c3,ae (show ¬j<k+1 by omega)];by_cases c4:p.v<=j/\j<p.v+k
    .rw[ah c4,ah qo]
    .rw[ae c4,ae qo]
def rwx_all{p:X.Lp}{i:Nat}{neg:Bool}(hn:neg=decide (p.b i<0))(hi:i<p.m)(f:nf)(hf:∀j,f j=Qy (Qy (rwx p i p.v) (2*p.v+i) (if neg=true then -(Rat.divInt 1 1) else Rat.divInt 1 1)) p.n (if neg=true then -(p.b i) else p.b i) j) :
  (neg=false->∀j,j<p.n+1->f j=p.A i j)/\(neg=true->∀j,j<p.n+1->Qy f (p.la+i) (Rat.divInt 1 1) j=p.A i j):=by
 have hs:p.sg i=if neg=true then -1 else 1:=by
  unfold X.Lp.sg;rw[hn];by_cases c:p.b i<0<;>simp[c]
 have hb:p.b i<0↔neg=true:=by rw[hn];simp
 have h1:Rat.divInt 1 1=1:=by decide +kernel
 have hla:p.la=2*p.v+p.m:=rfl;have hnn:p.n=2*p.v+2*p.m:=rfl
 have key:∀j,j<p.n+1->j≠p.la+i->f j=p.A i j:=λj hj hne=>by
  rw[hf,h1];unfold Qy rwx X.Lp.A;rw[hs];by_cases c1:j=p.n
  .subst c1;rw[ah rfl,ae (show ¬p.n<p.v by omega),ae (show ¬p.n<2*p.v by omega),ae (show ¬p.n<p.la by omega),ae (show ¬p.n<p.n by omega)];cases neg<;>simp<;>grind
  .rw[ae c1];by_cases c2:j=2*p.v+i
   .subst c2;rw[ah rfl,ae (show ¬2*p.v+i<p.v by omega),ae (show ¬2*p.v+i<2*p.v by omega),ah (show 2*p.v+i<p.la by omega),ah rfl]
   .rw[ae c2];by_cases c3:j<p.v
    .rw[ah c3,ah c3]
    .rw[ae c3,ae c3];by_cases c4:j<2*p.v
     .rw[ah (show p.v<=j/\j<p.v+p.v by omega),ah c4]
     .rw[ae (show ¬(p.v<=j/\j<p.v+p.v) by omega),ae c4];by_cases c5:j<p.la
      .rw[ah c5,ae c2]
      .rw[ae c5,ah (show j<p.n by omega),ae (λh=>hne h.1)]
 refine⟨λhf0 j hj=>?_,λht j hj=>?_⟩
 .by_cases c:j=p.la+i
  .subst c;rw[hf,h1];unfold Qy rwx X.Lp.A;rw[ae (show ¬p.la+i=p.n by omega),ae (show ¬p.la+i=2*p.v+i by omega),ae (show ¬p.la+i<p.v by omega),ae (show ¬(p.v<=p.la+i/\p.la+i<p.v+p.v) by omega),ae (show ¬p.la+i<p.v by omega),ae (show ¬p.la+i<2*p.v by omega),ae (show ¬p.la+i<p.la by omega),ah (show p.la+i<p.n by omega),ae (λh=>by have:=hb.1 h.2;rw[hf0] at this;cases this)]
  .exact key j hj c
 .unfold Qy;by_cases c:j=p.la+i
  .subst c;rw[ah rfl,h1];unfold X.Lp.A;rw[ae (show ¬p.la+i<p.v by omega),ae (show ¬p.la+i<2*p.v by omega),ae (show ¬p.la+i<p.la by omega),ah (show p.la+i<p.n by omega),ah ⟨rfl,hb.2 ht⟩]
  .rw[ae c];exact key j hj c
def upd_same{α:Type}{f:Nat->α}{i:Nat}{c:α}(h:f i=c):Qy f i c=f:=funext λj=>by
 unfold Qy;by_cases e:j=i
 .rw[ah e,e,h]
 .rw[ae e]
def has_tapp{F:nc}{i w:Nat}{ms:Nat->Nat->QM}{A:Nat->nf}{mx:Nat->QM}{f:nf}(h:Has F (mT i w ms A))(hx:Has F (mF w mx f))(hf:∀j,j<w->f j=A i j):Has F (mT (i+1) w (Qy ms i mx) A):=λp hp k hk j hj=>by
 by_cases c:k=i
 .subst c;rw[QF,<-hf j hj];exact hx p hp j hj
 .rw[Qt c];exact h p hp k qo j hj
def hasT0{F:nc}{w:Nat}{ms:Nat->Nat->QM}{t:Nat->nf}:Has F (mT 0 w ms t):=λp hf i hi=>absurd hi qo
def IsMk(M:Pm)(p:X.Lp):Qd:=λv B G=>∃xg tv bv rv ms,v=ptr xg/\B=TM xg p.v p.m p.n tv nz bv rv ms p.s0.b/\G=[mT p.m (p.n+1) ms p.A]
namespace Z
attribute [local irreducible] WC WL WD YO LO Qq W.Fin Qk Qh Qj Row QZ Qv KnS Has W.One Qo QX
def d113{G G':Prop}(h:G')(s:Bx G'->G:=by
 intro h;first|refine gM ?_|(apply WC.draw (id:=13) [0,1,2,3,4,5] (.h 0<|.h 1<|.h 2<|.h 3<|.h 4<|.h 5<|.l 6<|.l 7 .done) mixed kr)|(apply WC.draw (id:=15) [0,1,2,3,4,5] (.h 0<|.h 1<|.h 2<|.h 3<|.h 4<|.h 5<|.l 6<|.l 7 .done) mixed kr)|(apply WC.draw (id:=16) [0,1,2,3,4,5,6] (.h 0<|.h 1<|.h 2<|.h 3<|.h 4<|.h 5<|.h 6<|.l 7 .done) mixed kr)|(apply WC.draw (id:=20) [0,1,3] (.h 0<|.h 1<|.l 2<|.h 3<|.l 4 .done) mixed kr)|fail
 exact Bx.h h):G:=s ⟨h⟩
def d113r{G G':Prop}(h:G')(s:Bx G'->G:=by
 intro h;repeat'(first|intro(zQ:Nat)|refine d113 ?_|intro zQ)
 repeat revert zQ
 exact Bx.h h):G:=s ⟨h⟩

def Vp{G G':Prop}(h:G')(s:Bx G'->G:=by
 intro h
 (apply WD.fy;exact rfl;(first|exact wq42|exact wq19|exact wq8|exact Zd|exact Jv|(first|exact wq21|exact wq86)|exact wq22|exact wq31|exact wq45|(first|exact wq16|exact wq43));exact rfl;exact rfl)
 exact Bx.h h):G:=s ⟨h⟩
def made_c(M:Pm)(p:X.Lp)(hv:p.v<=1000)(hm:p.m<=1000):FnB prog 113 [pgv M p.v] [] [fP M p] (IsMk M p):=by
 refine fO [(0,(pgv M p.v))] 122 Tryz.func113 Tryz.ntmps113 λh0=>?_;have hn:p.n=2*p.v+2*p.m:=rfl;have hla:p.la=2*p.v+p.m:=rfl;refine WC.QL 3 1 ?_;refine WC.QL 61 1 ?_;refine d113r ?_;intro g g;rw[show(2:Int)*(p.v:Int)+2*(p.m:Int)=((p.n:Nat):Int) by rw[hn];simp];rename_i gp
 revert g;intro xg
 refine WC.lpP (σ:=Nat×nA×nA×ng×(Nat->Nat->QM)) (λst=>[(30,nj (st.1:Int)),(29,nj (p.m:Int)),(28,M.lv),(4,ptr xg),(3,nj (p.m:Int)),(1,ptr gp)])
  (λst=>Ow.cells xg 177 [nj (p.v:Int),nj (p.m:Int),nj (p.n:Int),st.2.1,nz,st.2.2.1]::Ow.cells gp 118 (pcs M p.v)::Ow.slice st.2.1 61 1 (fnV st.1 st.2.2.2.1)::Ow.slice st.2.2.1 3 1 (ints (fnL st.1 p.s0.b))::Xc st.1 (p.n+1) st.2.2.2.1 st.2.2.2.2)
  (λst=>[mT st.1 (p.n+1) st.2.2.2.2 p.A,ge h0,fP M p]) (λst=>st.1<=p.m) (λst=>p.m-st.1) (0,nz,nz,λ_=>nz,λ_ _=>m00) (aj _) ?_ (hG:=.cons hasT0 (.cons hmA (.cons hmA .nil)))
 rintro⟨i,tv,bv,rv,ms⟩ hi;simp only at hi ⊢;by_cases c:i<p.m
 .refine WC.fact (fF (M.av i) p.v (M.ma i) (p.a i)) (W.Has.pa (M:=M) (gn:=p.v) (ln:=λ_=>p.v) (a:=p.a) (b:=p.b) (g:=p.g) hmA c) ?_;refine WC.fact (isQ (qv (M.mb i)) (p.b i)) (W.Has.pbq (M:=M) (gn:=p.v) (ln:=λ_=>p.v) (a:=p.a) (b:=p.b) (g:=p.g) hmA c) ?_;refine d113r ?_;intro g v g;refine cV (Zn.sign (M.mb i) (p.b i)) ?_;refine WL.y (YO.lssD rfl rfl) rfl rfl ?_;have hneg:decide (sgn (p.b i).num<0)=decide (p.b i<0):=decide_eq_decide.2 Xq;rw[hneg];generalize hnb:decide (p.b i<0)=neg;have hnb':=hnb.symm;refine d113r ?_;intro g;rename_i g6 g7
  revert v;intro lw;revert g;intro g8
  refine WC.lp (σ:=Nat×(Nat->QM)) (λst=>[(49,nj (st.1:Int)),(48,nj (p.v:Int)),(47,M.av i),(9,.func (.func 189) #[] #[ptr g8,ptr g7]),(8,ptr g8),(7,ptr g7),(6,ptr g6),(5,nj i),(30,nj i),(29,nj (p.m:Int)),(28,M.lv),(4,ptr xg),(3,nj (p.m:Int)),(1,ptr gp)])
   (λst=>Ow.cells g8 4 [.bool neg]::Ow.cells g7 61 [lw]::Yv (p.n+1) lw st.2::Ow.cells g6 141 [M.av i,.bool (M.mb i).1,(M.mb i).2.1,nq,(M.mb i).2.2]::Ow.cells xg 177 [nj (p.v:Int),nj (p.m:Int),nj (p.n:Int),tv,nz,bv]::Ow.cells gp 118 (pcs M p.v)::Ow.slice tv 61 1 (fnV i rv)::Ow.slice bv 3 1 (ints (fnL i p.s0.b))::Xc i (p.n+1) rv ms)
   (λst=>[mF (p.n+1) st.2 (rwx p i st.1),isQ (qv (M.mb i)) (p.b i),fF (M.av i) p.v (M.ma i) (p.a i),mT i (p.n+1) ms p.A,ge h0,fP M p]) (λst=>st.1<=p.v) (λst=>p.v-st.1) (0,λ_=>m00) (aj _) ?_ (hG:=.cons ((W.Has.mF0 (p.n+1)).QK λj _=>by unfold rwx;simp[bY,show ¬(p.v<=j/\j<p.v) by omega]) sfA)
  rintro⟨k,mx⟩ hk;simp only at hk ⊢;by_cases ck:k<p.v
  .refine WC.fact (isQ (qv (M.ma i k)) (p.a i k)) (W.Has.q (W.Has.fm (v:=M.av i) hmA) ck) ?_;refine d113r ?_;intro g;revert g;intro g11;refine WL.Hj [] [ptr g8,ptr g7] (vs:=[nj k,qv (M.ma i k)]) _ (Ow.cells g11 75 (qcs (M.ma i k))::Ow.cells g6 141 [M.av i,.bool (M.mb i).1,(M.mb i).2.1,nq,(M.mb i).2.2]::Ow.cells xg 177 [nj (p.v:Int),nj (p.m:Int),nj (p.n:Int),tv,nz,bv]::Ow.cells gp 118 (pcs M p.v)::Ow.slice tv 61 1 (fnV i rv)::Ow.slice bv 3 1 (ints (fnL i p.s0.b))::Xc i (p.n+1) rv ms) (aJ (l₁:=[_,_,_])).symm (put_c g8 g7 neg lw (p.n+1) k mx (M.ma i k) (p.a i k) qo) ?_;rintro _ _ _ ⟨m2,rfl,rfl,rfl⟩;refine sNn ?_;refine d113r ?_;refine cW (Zn.neg (m1:=M.ma i k) (a:=p.a i k)) λm3=>?_;refine d113r ?_;refine WD.Hj [] [ptr g8,ptr g7] (vs:=[nj ((p.v+k:Nat):Int),qv m3]) _ _ (.refl _) (put_c g8 g7 neg lw (p.n+1) (p.v+k) (Qy mx k m2) m3 (-(p.a i k)) qo) ?_;rintro _ _ _ ⟨m4,rfl,rfl,rfl⟩;refine sNn ?_;refine WD.fact (mF (p.n+1) (Qy (Qy mx k m2) (p.v+k) m4) (rwx p i (k+1))) ((W.Has.J0 (k:=p.v+k) (m:=m4) (z:=if neg=true then -(-(p.a i k)) else -(p.a i k)) (W.Has.J0 (k:=k) (ms:=mx) (m:=m2) (qf:=rwx p i k) (z:=if neg=true then -(p.a i k) else p.a i k) hmA hmA) hmA).QK λj _=>rwx_up hnb' ck j) ?_;refine d113r ?_;exact Qq.mk (k+1,_) (by show k+1<=p.v;omega) (by show p.v-(k+1)<p.v-k;omega)
  .obtain rfl:k=p.v:=qo;refine WC.isSl (v:=lw) (k:=p.n+1) (KnS.oR (ms:=mx) (el:=75) meA) λla lc hl=>?_;subst hl;refine d113r ?_;refine cW (Zn.of 1 1 qd qd) λm5=>?_;refine d113r ?_;refine WD.Hj [] [ptr g8,ptr g7] (vs:=[nj ((2*p.v+i:Nat):Int),qv m5]) _ _ (.refl _) (put_c g8 g7 neg (.slice la (p.n+1) lc) (p.n+1) (2*p.v+i) mx m5 (Rat.divInt 1 1) qo) ?_;rintro _ _ _ ⟨m6,rfl,rfl,rfl⟩;refine sNn ?_;refine d113r ?_;refine WD.Hj [] [ptr g8,ptr g7] (vs:=[nj (p.n:Int),qv (M.mb i)]) _ _ (.refl _) (put_c g8 g7 neg (.slice la (p.n+1) lc) (p.n+1) p.n (Qy mx (2*p.v+i) m6) (M.mb i) (p.b i) qo) ?_;rintro _ _ _ ⟨m7,rfl,rfl,rfl⟩;refine sNn ?_;obtain⟨hA0,hA1⟩:=rwx_all hnb' c (Qy (Qy (rwx p i p.v) (2*p.v+i) (if neg=true then -(Rat.divInt 1 1) else Rat.divInt 1 1)) p.n (if neg=true then -(p.b i) else p.b i)) (λ_=>rfl);refine WD.fact (mF (p.n+1) (Qy (Qy mx (2*p.v+i) m6) p.n m7) (Qy (Qy (rwx p i p.v) (2*p.v+i) (if neg=true then -(Rat.divInt 1 1) else Rat.divInt 1 1)) p.n (if neg=true then -(p.b i) else p.b i))) (W.Has.J0 (k:=p.n) (m:=m7) (z:=if neg=true then -(p.b i) else p.b i) (W.Has.J0 (k:=2*p.v+i) (ms:=mx) (m:=m6) (qf:=rwx p i p.v) (z:=if neg=true then -(Rat.divInt 1 1) else Rat.divInt 1 1) hmA hmA) hmA) ?_;generalize (Qy (Qy (rwx p i p.v) (2*p.v+i) (if neg=true then -(Rat.divInt 1 1) else Rat.divInt 1 1)) p.n (if neg=true then -(p.b i) else p.b i))=fq at *;generalize hmz:(Qy (Qy mx (2*p.v+i) m6) p.n m7)=mz;refine d113r ?_;cases neg with
   |true=>
    refine d113r ?_;rw[show(2:Int)*(p.v:Int)+(p.m:Int)+(i:Int)=((p.la+i:Nat):Int) by simp[X.Lp.la]];refine cW (Zn.of 1 1 qd qd) λm8=>?_;repeat'(first|intro(g:Nat)|refine gB ?_|refine d113 ?_|intro v)
    refine WC.Hw (id:=21) [Ow.cells g7 61 [.slice la (p.n+1) lc],Ow.cells xg 177 [nj (p.v:Int),nj (p.m:Int),nj (p.n:Int),tv,nz,bv]] slA [0,2,3,4,5,6,9,10,11,12,13,16,17] (.f 1<|.h 0<|.h 2<|.h 3<|.h 4<|.h 5<|.h 6<|.h 9<|.h 10<|.h 11<|.h 12<|.h 13<|.m 7 (.m 8 (.l 14<|.l 15<|.h 16<|.h 17<|.l 18<|.l 19<|.l 20<|.l 21 .done) (.l 14<|.l 8<|.l 15<|.h 16<|.h 17<|.l 18<|.l 19<|.l 20<|.l 21 .done)) (.l 14<|.l 7<|.l 8<|.l 15<|.h 16<|.h 17<|.l 18<|.l 19<|.l 20<|.l 21 .done)) mixed kr ?_;refine Vp ?_;repeat'(first|intro(g:Nat)|refine d113 ?_|refine gN ?_ ?_|intro v)
    all_goals
     refine Zt ?_;repeat'(first|intro(g:Nat)|refine gB ?_|refine d113 ?_|intro v)
     refine Zt ?_;repeat'(first|intro(g:Nat)|refine gB ?_|refine d113 ?_|intro v)
     apply Exists.intro (i+1,_,_,Qy rv i (.slice la (p.n+1) lc),Qy ms i (Qy mz (p.la+i) m8));refine⟨⟨?_,?_⟩,?_,?_,?_⟩
     rotate_left 3
     .rw[upd_same (f:=p.s0.b) (i:=i) (c:=p.la+i) (ah (ao hnb))]
      (repeat(apply ex_cons;exact wq9))
      apply ex_row;exact wq9;exact wq38
     .exact .cons (has_tapp (f:=Qy fq (p.la+i) (Rat.divInt 1 1)) hmA (W.Has.J0 (qf:=fq) hmA hmA) (hA1 rfl)) (.cons hmA (.cons hmA .nil))
     .show i+1<=p.m;omega
     .show p.m-(i+1)<p.m-i;omega
     .exact suA
   |false=>
    rw[show(2:Int)*(p.v:Int)+(i:Int)=((2*p.v+i:Nat):Int) by simp];repeat'(first|intro(g:Nat)|refine gB ?_|refine d113 ?_|intro v)
    refine WC.Hw (id:=21) [Ow.cells g7 61 [.slice la (p.n+1) lc],Ow.cells xg 177 [nj (p.v:Int),nj (p.m:Int),nj (p.n:Int),tv,nz,bv]] slA [0,2,3,4,5,6,9,10,11,12,13,16,17] (.f 1<|.h 0<|.h 2<|.h 3<|.h 4<|.h 5<|.h 6<|.h 9<|.h 10<|.h 11<|.h 12<|.h 13<|.m 7 (.m 8 (.l 14<|.l 15<|.h 16<|.h 17<|.l 18<|.l 19<|.l 20<|.l 21 .done) (.l 14<|.l 8<|.l 15<|.h 16<|.h 17<|.l 18<|.l 19<|.l 20<|.l 21 .done)) (.l 14<|.l 7<|.l 8<|.l 15<|.h 16<|.h 17<|.l 18<|.l 19<|.l 20<|.l 21 .done)) mixed kr ?_;refine Vp ?_;repeat'(first|intro(g:Nat)|refine d113 ?_|refine gN ?_ ?_|intro v)
    all_goals
     refine Zt ?_;repeat'(first|intro(g:Nat)|refine gB ?_|refine d113 ?_|intro v)
     refine Zt ?_;repeat'(first|intro(g:Nat)|refine gB ?_|refine d113 ?_|intro v)
     apply Exists.intro (i+1,_,_,Qy rv i (.slice la (p.n+1) lc),Qy ms i mz);refine⟨⟨?_,?_⟩,?_,?_,?_⟩
     rotate_left 3
     .rw[upd_same (f:=p.s0.b) (i:=i) (c:=2*p.v+i) (ae (ap hnb))]
      (repeat(apply ex_cons;exact wq9))
      apply ex_row;exact wq9;exact wq38
     .exact .cons (has_tapp (f:=fq) hmA hmA (hA0 rfl)) (.cons hmA (.cons hmA .nil))
     .show i+1<=p.m;omega
     .show p.m-(i+1)<p.m-i;omega
     .exact suA
 .obtain rfl:p.m=i:=qo;refine d113r ?_;refine WC.ret ?_;exact Fin.p (TM xg p.v p.m p.n tv nz bv rv ms p.s0.b) [mT p.m (p.n+1) ms p.A] (Qf.t1 rfl rfl) meA slA haA ⟨xg,tv,bv,rv,ms,rfl,rfl,rfl⟩
end Z
abbrev lnv(M:Pm)(i:Nat):nA:=.agg #[M.av i,.bool (M.mb i).1,(M.mb i).2.1,nq,(M.mb i).2.2]
def DO(vars:Int)(m gn:Nat)(ln:Nat->Nat):Int:=
 if 48<vars\/128<m then 4 else if vars<0\/(gn:Int)≠vars\/(X.fstT (λi=>decide ((ln i:Int)≠vars)) m 0).isSome=true then 1 else 0
def GB{bx:nw}{F:nc}:∀{G:nc},(∀f∈G,f∈F)->QY bx F G
 |[],_=>.nil
 |f::G,h=>.cons (QV.f (Has.mem (h f (an ..)))) (GB λg hg=>h g (au _ hg))
namespace Z
attribute [local irreducible] WC WL WD YO LO Qq W.Fin Qk Qh Qj Row QZ Qv KnS Has W.One Qo QX
section
variable (M:Pm)(m gn:Nat)(ln:Nat->Nat)(a:Nat->nf)(b g:nf)
def indexL_c(f:np)(first cap:ne)(Fc:nc)(p:Nat->Bool)
  (hf:∀i,i<m->FnB prog f (first++[lnv M i]++cap) [] (fPg M m gn ln a b g::Fc) (IsV (.bool (p i)))) :
  FnB prog 219 [M.lv,.func (.func f) first.toArray cap.toArray] [] (fPg M m gn ln a b g::Fc) (IsV (nj (Yx (X.fstT p m 0)))):=by
 refine fO [(0,M.lv),(1,(.func (.func f) first.toArray cap.toArray))] 19 Tryz.func219 Tryz.ntmps219 λh0=>?_;refine WC.lenF (v:=M.lv) (m:=m) (W.Has.pl (M:=M) (m:=m) (gn:=gn) (ln:=ln) (a:=a) (b:=b) (g:=g) hmA) λhm=>?_;refine gAr ?_;refine WC.lp (σ:=Nat) (λi=>[(8,nj i),(7,nj m),(0,M.lv),(1,.func (.func f) first.toArray cap.toArray)]) (λ_=>[]) (λ_=>ge h0::fPg M m gn ln a b g::Fc) (λi=>i<=m/\X.fstT p m 0=X.fstT p (m-i) i) (λi=>m-i) 0 ⟨aj _,rfl⟩ ?_ (hG:=.cons hmA (.cons hmA (Qz.tail nv)));rintro i ⟨hi,he⟩;by_cases c:i<m
 .rw[VV c] at he;refine gAr ?_;refine WL.XV first cap (vs:=[lnv M i]) (hf i c) ?_ (hF:=.cons hmA (Qz.tail nv))
  rintro _ _ _ ⟨rfl,rfl,rfl⟩;refine sNn ?_;cases hp:p i with
  |true=>
   rw[ah hp] at he;rw[he];refine gAr ?_;exact wq4
  |false=>
   rw[ae (by rw[hp];decide)] at he;refine gAr ?_;exact Qq.mk (i+1) ⟨by omega,he⟩ qo (hG:=.cons hmA (.cons hmA (Qz.tail nv)))
 .obtain rfl:m=i:=qo;rw[df,X.fstT] at he;rw[he];refine gAr ?_;exact wq4
def containsL_c(f:np)(first cap:ne)(Fc:nc)(p:Nat->Bool)
  (hf:∀i,i<m->FnB prog f (first++[lnv M i]++cap) [] (fPg M m gn ln a b g::Fc) (IsV (.bool (p i)))) :
  FnB prog 187 [M.lv,.func (.func f) first.toArray cap.toArray] [] (fPg M m gn ln a b g::Fc) (IsV (.bool (X.fstT p m 0).isSome)):=by
 refine fO [(0,M.lv),(1,(.func (.func f) first.toArray cap.toArray))] 9 Tryz.func187 Tryz.ntmps187 λh0=>?_;refine gAr ?_;refine WL.Y1 (indexL_c M m gn ln a b g f first cap Fc p hf) ?_ (hF:=.cons (.f hmA) (GB nv));cases hp:X.fstT p m 0 with
 |none=>
  rw[show Yx none= -1 from rfl];refine gAr ?_;exact wq4
 |some k=>
  rw[show Yx (some k)=(k:Int) from rfl];refine gAr ?_;exact wq4
def valid1_c(gp:Nat)(vars:Int)(i:Nat)(hi:i<m):FnB prog 188 [lnv M i,ptr gp] [] [fPg M m gn ln a b g,ce gp 118 (pcs M vars)] (IsV (.bool (decide ((ln i:Int)≠vars)))):=by
 refine fO [(0,(lnv M i)),(1,(ptr gp))] 10 Tryz.func188 Tryz.ntmps188 λh0=>?_;refine WC.fact (fF (M.av i) (ln i) (M.ma i) (a i)) (W.Has.pa (M:=M) (m:=m) (gn:=gn) (ln:=ln) (a:=a) (b:=b) (g:=g) hmA hi) ?_;refine WC.fact (isQ (qv (M.mb i)) (b i)) (W.Has.pbq (M:=M) (m:=m) (gn:=gn) (ln:=ln) (a:=a) (b:=b) (g:=g) hmA hi) ?_;by_cases c:(ln i:Int)=vars
 .refine gAr ?_;intro g;exact wq67
 .refine gAr ?_;intro g;exact wq67
def Kv(vars:Int):FnB prog 112 [pgv M vars] [] [fPg M m gn ln a b g] (IsV (nj (DO vars m gn ln))):=by
 refine fO [(0,(pgv M vars))] 31 Tryz.func112 Tryz.ntmps112 λh0=>?_;refine WC.lenF (v:=M.lv) (m:=m) (W.Has.pl (M:=M) (m:=m) (gn:=gn) (ln:=ln) (a:=a) (b:=b) (g:=g) hmA) λhm=>?_;refine WC.fact (fF M.gv gn M.mg g) (W.Has.pg (M:=M) (m:=m) (gn:=gn) (ln:=ln) (a:=a) (b:=b) (g:=g) hmA) ?_;by_cases c1:48<vars
 .refine gAr ?_;intro g;refine WC.ret ?_;exact Fin.v (Qf.t1 rfl rfl) meA (by simp[DO,c1])
 .by_cases c2:128<m
  .refine gAr ?_;intro g;refine WC.ret ?_;exact Fin.v (Qf.t1 rfl rfl) meA (by simp[DO,c2])
  .by_cases c3:vars<0
   .refine gAr ?_;intro g;refine WC.ret ?_;exact Fin.v (Qf.t1 rfl rfl) meA (by simp[DO,c1,c2,c3])
   .by_cases c4:(gn:Int)=vars
    .refine gAr ?_;intro g;revert g;intro g1;refine WL.Y1 (containsL_c M m gn ln a b g 188 [] [ptr g1] [ce g1 118 (pcs M vars)] (λi=>decide ((ln i:Int)≠vars)) (λi hi=>valid1_c M m gn ln a b g g1 vars i hi)) ?_ (hF:=.cons (.f hmA) (.cons (.c meA) .nil));cases hx:(X.fstT (λi=>decide ((ln i:Int)≠vars)) m 0).isSome with
     |true=>
            refine gAr ?_;refine WC.ret ?_;exact Fin.v (Qf.t1 rfl rfl) meA (by simp only[DO,hx];rw[ae qo,ah (.inr (.inr trivial))])
     |false=>
            refine gAr ?_;refine WC.ret ?_;exact Fin.v (Qf.t1 rfl rfl) meA (by simp only[DO,hx];rw[ae qo,ae (by simp[c3,c4])])
    .refine gAr ?_;intro g;refine WC.ret ?_;exact Fin.v (Qf.t1 rfl rfl) meA (by simp[DO,c1,c2,c4])
end
end Z
end Go.Proofs.YtbnobghgnbockaaGreat
