/- Lemmas for a law. Conditions: none. -/
import Derived.Test.YtbnobghgnbockaaGreatZg29
set_option linter.all false
set_option maxHeartbeats 32000000
set_option maxRecDepth 100000
namespace Go.Proofs.YtbnobghgnbockaaGreat
open W Go.RowKit
namespace Z
attribute [local irreducible] WC WL WD YO LO Qq W.Fin Qv Qh Qj Row QV Qy KnS Has W.One Qp QJ
def drive_c(xg vars m n last K:Nat)(tv cv bv:Value)(rv:Nat->Value)(ms0:Nat->Nat->QM)(mc0:Nat->QM)(s:X.St)(hl:last<=n)(hm:m<=1000)(hn:n<=10000)(hK:K<=20000000)(hK0:0<K)
  (hs:∀i,i<=m->∀r,r<m->∀k,k<n+1->Sq K ((X.drP last s i).t r k)) (hc:∀i,i<=m->∀k,k<n+1->Sq K ((X.drP last s i).c k)) :
  FnB Tryz.prog 118 [ptr xg,.int .i64 (last:Int)] (TB xg vars m n tv cv bv rv ms0 mc0 s.b) [mT m (n+1) ms0 s.t,mF (n+1) mc0 s.c] (IsTB xg vars m n tv cv bv rv (X.drP last s m)):=by
 refine fO [(0,(ptr xg)),(1,(.int .i64 (last:Int)))] 37 Tryz.func118 Tryz.ntmps118 λh0=>?_;repeat'(first|intro(g:Nat)|refine gA ?_|intro v)
 refine WC.lpP (σ:=Nat×(Nat->Nat->QM)×(Nat->QM)) (λst=>[(12,.int .i64 (st.1:Int)),(11,.int .i64 (m:Int)),(10,bv),(0,ptr xg),(1,.int .i64 (last:Int))])
  (λst=>TB xg vars m n tv cv bv rv st.2.1 st.2.2 (X.drP last s st.1).b) (λst=>[mT m (n+1) st.2.1 (X.drP last s st.1).t,mF (n+1) st.2.2 (X.drP last s st.1).c,ge h0]) (λst=>st.1<=m) (λst=>m-st.1) (0,ms0,mc0) (Nat.zero_le _) ?_
 rintro⟨i,ms,mc⟩ hi;simp only at hi ⊢;by_cases c:i<m
 .have hsi:=hs i hi;have hci:=hc i hi;have e1:X.drP last s (i+1)=X.drS last (X.drP last s i) i:=rfl;generalize X.drP last s i=D at *;by_cases cb:D.b i<last
  .have e2:X.drP last s (i+1)=D:=by rw[e1,X.drS,if_pos cb]
   repeat'(first|intro(g:Nat)|refine gA ?_|intro v)
   exact Xp.mk (i+1,ms,mc) wq100 wq52 [] (by rw[e2,List.append_nil]) (hG:=by rw[e2];exact .cons hmA (.cons hmA (.cons hmA .nil)))
  .refine WC.perm (Ow.cells xg 177 [.int .i64 (vars:Int),.int .i64 (m:Int),.int .i64 (n:Int),tv,cv,bv]::Ow.slice tv 61 1 (fnV m rv)::Ow.slice cv 75 4 (Qa (n+1) mc)::Ow.slice bv 3 1 (ints (fnL m D.b))::Yx (n+1) (rv i) (ms i)::Kj m (n+1) rv ms i) ((((((Xg c).cons _).cons _).cons _).cons _)) ?_;repeat'(first|intro(g:Nat)|refine gA ?_|intro v)
   refine WL.YM (indexF_c (resl (rv i) 0 last 4) last (ms i) (D.t i) 196 [] [] [] (λk=>decide (D.t i k≠0)) (λk _=>nonzero_c (ms i k) (D.t i k) [])) ?_ (hF:=.cons (hasB_row (t:=D.t) (m:=m) (ms:=ms) meA hmA c qo) .nil);cases hf:X.fstT (λk=>decide (D.t i k≠0)) last 0 with
   |none=>
    have e2:X.drP last s (i+1)=D:=by rw[e1,X.drS,if_neg cb,hf]
    rw[show X5 none= -1 from rfl];repeat'(first|intro(g:Nat)|refine gA ?_|intro v)
    exact Xp.mk (i+1,ms,mc) wq100 wq52 [] (by rw[e2,List.append_nil];exact(((((Xg c).cons _).cons _).cons _).cons _).symm) (hG:=by rw[e2];exact .cons hmA (.cons hmA (.cons hmA .nil)))
   |some k=>
    have hk:=KR hf;have e2:X.drP last s (i+1)=X.pv D i k:=by rw[e1,X.drS,if_neg cb,hf]
    rw[show X5 (some k)=(k:Int) from rfl];repeat'(first|intro(g:Nat)|refine gA ?_|intro v)
    refine WL.Zg (TB xg vars m n tv cv bv rv ms mc D.b) [] (by rw[List.append_nil];exact(((((Xg c).cons _).cons _).cons _).cons _).symm) (pivot_c xg vars m n tv cv bv rv ms mc D i k K c qo hm hn hK hK0 hsi hci) ?_;rintro _ _ _ ⟨ms2,mc2,rfl,rfl,rfl⟩;repeat'(first|intro(g:Nat)|refine gA ?_|intro v)
    exact Xp.mk (i+1,ms2,mc2) wq100 wq52 [] (by rw[e2]) (hG:=by rw[e2];exact .cons hmA (.cons hmA (.cons hmA .nil)))
 .obtain rfl:m=i:=qo;repeat'(first|intro(g:Nat)|refine gA ?_|intro v)
  exact Fin.p (TB xg vars m n tv cv bv rv ms mc (X.drP last s m).b) [mT m (n+1) ms (X.drP last s m).t,mF (n+1) mc (X.drP last s m).c] (Qg.t0 rfl) meA (List.Sublist.refl _) haA ⟨ms,mc,rfl,rfl,rfl⟩
end Z
namespace Z
attribute [local irreducible] WC WL WD YO LO Qq W.Fin Qv Qh Qj Row QV Qy KnS Has W.One Qp QJ
attribute [local irreducible] WX VA
def entering_c(l:Nat)(r:Loop)(gb gx g5 g4 g2 xg vars m n:Nat)(b5 v4:Value)(tv cv bv:Value)(rv:Nat->Value)(ms:Nat->Nat->QM)(mc:Nat->QM)(tt:Nat->Nat->Rat)(c:Nat->Rat)(bb:Nat->Nat)(e:Nat)(he:e<=n)(hw:n<=100000)(hx:PH)(X:Nat->Code->List Ow->List Fct->Prop)
  (hY:∀k,k<e->c k<0->(∀j,j<k->¬c j<0)->VA Tryz.prog l r (.int .i64 (k:Int)) (Ow.cells gb 3 [.int .i64 (e:Int)]::Ow.cells gx 173 [ptr xg]::Ow.cells g5 4 [b5]::Ow.cells g4 3 [v4]::Ow.cells g2 173 [ptr xg]::TB xg vars m n tv cv bv rv ms mc bb) [mT m (n+1) ms tt,mF (n+1) mc c,ge hx] (X k)) :
  FnB Tryz.prog 220 [.func (.yield l) #[] #[],ptr gb,ptr gx] (Ow.obj l (.loop r)::Ow.cells gb 3 [.int .i64 (e:Int)]::Ow.cells gx 173 [ptr xg]::Ow.cells g5 4 [b5]::Ow.cells g4 3 [v4]::Ow.cells g2 173 [ptr xg]::TB xg vars m n tv cv bv rv ms mc bb) [mT m (n+1) ms tt,mF (n+1) mc c,ge hx]
   (RgP l r (λbx' G=>(∀j,j<e->¬c j<0)/\bx'=Ow.cells gb 3 [.int .i64 (e:Int)]::Ow.cells gx 173 [ptr xg]::Ow.cells g5 4 [b5]::Ow.cells g4 3 [v4]::Ow.cells g2 173 [ptr xg]::TB xg vars m n tv cv bv rv ms mc bb/\G=[]) (λcd bx' G=>∃k,k<e/\c k<0/\(∀j,j<k->¬c j<0)/\X k cd bx' G)):=by
 refine Ft [(0,(.func (.yield l) #[] #[])),(1,(ptr gb)),(2,(ptr gx))] 25 Tryz.func220 rfl Tryz.ntmps220 kr rfl suA λh0=>?_;refine WX.seq ?_;refine WX.region ?_;repeat'(first|intro(g:Nat)|refine gA ?_|intro v)
 refine WX.block ?_;refine WX.loop (σ:=Nat) (λk=>[(6,.int .i64 (k:Int)),(5,.int .i64 (e:Int)),(0,.func (.yield l) #[] #[]),(1,ptr gb),(2,ptr gx)]) (λ_=>Ow.obj l (.loop r)::Ow.cells gb 3 [.int .i64 (e:Int)]::Ow.cells gx 173 [ptr xg]::Ow.cells g5 4 [b5]::Ow.cells g4 3 [v4]::Ow.cells g2 173 [ptr xg]::TB xg vars m n tv cv bv rv ms mc bb) (λk=>ge h0::mT m (n+1) ms tt::mF (n+1) mc c::ge hx::[]) (λk=>k<=e/\∀j,j<k->¬c j<0) (λk=>e-k) ?_ 0 ⟨Nat.zero_le _,λj h=>by omega⟩ suA slA sfA;rintro k ⟨hk,hno⟩;refine WX.seq ?_;refine WX.region ?_;by_cases ck:k<e
 .repeat'(first|intro(g:Nat)|refine gA ?_|intro v)
  refine WX.seq ?_;refine WX.cond (b:=true) rfl ?_;rw[if_pos rfl];refine WX.skip ?_;refine WX.seq ?_;refine WX.block ?_;refine WX.seq ?_;refine WX.region ?_;repeat'(first|intro(g:Nat)|refine gA ?_|intro v)
  refine WX.seq ?_;by_cases hc:c k<0
  .have hq:sgn (c k).num<0:=XS.2 hc;refine WX.region ?_;refine WL.QE (isQ (qv (mc k)) (c k)) (W.Has.q hmA qo) ?_;repeat'(first|intro(g:Nat)|refine gA ?_|intro v)
   refine cV (Zn.sign (mc k) (c k)) ?_;repeat'(first|intro(g:Nat)|refine gA ?_|intro v)
   refine WL.l rfl rfl (LO.yield (hY k ck hc hno) rfl rfl (F0:=_) (λf hf=>?_) λcd bx' G hX=>?_)
   .simp only[List.mem_cons,List.not_mem_nil,or_false] at hf;rcases hf with rfl|rfl|rfl
    .exact hmA
    .exact hmA
    .exact hmA
   repeat'(first|intro(g:Nat)|refine gA ?_|intro v)
   refine WX.cond (b:=true) rfl ?_;rw[if_pos rfl];refine WX.ret ?_;exact W.Fin.p _ G (Qg.t0 rfl) (List.mem_append_right _ meA) (List.Sublist.refl _) (W.Qw.of λf hf=>Has.mem (List.mem_append_left _ hf)) (.inr ⟨cd,bx',rfl,k,ck,hc,hno,hX⟩)
  .refine WX.region ?_;have hq:¬sgn (c k).num<0:=λh=>hc (XS.1 h);refine WL.QE (isQ (qv (mc k)) (c k)) (W.Has.q hmA qo) ?_;repeat'(first|intro(g:Nat)|refine gA ?_|intro v)
   refine cV (Zn.sign (mc k) (c k)) ?_;repeat'(first|intro(g:Nat)|refine gA ?_|intro v)
   refine WX.cond (b:=false) rfl ?_;rw[if_neg qd];refine WX.skip ?_;refine WX.region ?_;repeat'(first|intro(g:Nat)|refine gA ?_|intro v)
   exact⟨k+1,⟨⟨by omega,λj hj=>by
    by_cases h:j=k
    .subst h;exact hc
    .exact hno j qo⟩,by show e-(k+1)<e-k;omega⟩,suA,slA,sfA⟩
 .obtain rfl:k=e:=qo;repeat'(first|intro(g:Nat)|refine gA ?_|intro v)
  refine WX.seq ?_;refine WX.cond (b:=false) rfl ?_;rw[if_neg qd];refine WX.exit ?_;exact W.Fin.p _ [] (Qg.t0 rfl) meA (List.Sublist.refl _) .nil (.inl ⟨_,rfl,hno,rfl,rfl⟩)
end Z
def Qg.c1{P:Program}{e:Env}{bx:List Ow}{F:List Fct}{fn:Func}{t:Tmp}{ty:TypeId}{g tg:Nat}{v:Value}(h:fn.results=#[.cell t ty])(hl:W.look e t=some (.pointer (some ⟨g,0,none⟩)))(hb:Ow.cells g tg [v]∈bx)(hr:Qv P ty):Qg P fn e bx F v:=λn fr a w hk ho=>by
 have h1:a.tmps[t]?.getD undef=.pointer (some ⟨g,0,none⟩):=by rw[hk.at' _ _ hl];rfl
 have hc:w.cell? ⟨g,0,none⟩=some v:=by rw[Ja (ho.owns _ hb)];rfl
 have h2:=run_ld (P:=P) (w:=w) (b:=g) (o:=0) (v:=v) hr hc;have hg:fr.own g:=(ho.apart g (JV.2 ⟨_,hb,by simp[Ow.ids]⟩)).1
 have h4:(results fn a.tmps).events P w #[]=#[⟨.cell ⟨g,0,none⟩,false,false⟩]:=by
  simp only[results,h];simp[h1,asAddr,h2,ev_ld hr hc]
 refine⟨?_,λev he=>?_⟩
 .simp only[results,h];simp[h1,asAddr,h2]
 .rw[h4] at he;simp at he;subst he;exact .inl ⟨_,rfl,.inl hg⟩
def IsEn(f:FuncId)(xg e:Nat):Qf:=λv B G=>∃ga gb,v=.func (.func f) #[] #[ptr gb,ptr ga]/\B=[Ow.cells gb 3 [.int .i64 (e:Int)],Ow.cells ga 173 [ptr xg]]/\G=[]
def IsRn(xg vars m n:Nat)(tv cv bv:Value)(rv:Nat->Value)(R:X.St×Option Nat):Qf:=λv B G=>∃ms mc,v=.int .i64 (X5 R.2)/\B=TB xg vars m n tv cv bv rv ms mc R.1.b/\G=[mT m (n+1) ms R.1.t,mF (n+1) mc R.1.c]
structure RS where
 g5:Nat
 ag:Bool
 ms:Nat->Nat->QM
 mc:Nat->QM
 s:X.St
 f:Nat
def ent_of{s:X.St}{e k:Nat}(hk:k<e)(hc:s.c k<0)(hn:∀j,j<k->¬s.c j<0):X.ent s e=some k:=by
 rcases X.Yn s e with ⟨_,h2⟩|⟨j,h2,h3,h4,h5⟩
 .have:=h2 k hk;grind
 .have:j=k:=by
   by_cases c1:j<k
   .exact absurd h4 (hn j c1)
   .by_cases c2:k<j
    .have:=h5 k c2;grind
    .omega
  rw[h2,this]
def ent_no{s:X.St}{e:Nat}(h:∀j,j<e->¬s.c j<0):X.ent s e=none:=by
 rcases X.Yn s e with ⟨h2,_⟩|⟨j,h2,h3,h4,h5⟩
 .exact h2
 .exact absurd h4 (h j h3)
namespace Z
attribute [local irreducible] WC WL WD YO LO Qq W.Fin Qv Qh Qj Row QV Qy KnS Has W.One Qp QJ
def entering_o(xg e:Nat):FnB Tryz.prog 191 [ptr xg,.int .i64 (e:Int)] [] [] (IsEn 220 xg e):=by
 refine fO [(0,(ptr xg)),(1,(.int .i64 (e:Int)))] 6 Tryz.func191 Tryz.ntmps191 λh0=>?_;repeat'(first|intro(g:Nat)|refine gA ?_|intro v)
 exact wq86
attribute [local irreducible] WX VA
def run_c(xg vars m n e K f:Nat)(tv cv bv:Value)(rv:Nat->Value)(ms:Nat->Nat->QM)(mc:Nat->QM)(s:X.St)(R:X.St×Option Nat)(he:e<=n)(hm:m<=1000)(hn:n<=10000)(hK:K<=20000000)(hK0:0<K)
  (hrun:X.runP m n e f s=some R) (I:X.St->Prop) (hI0:I s) (hI:∀u k r,I u->X.ent u e=some k->X.lev n u k m=some r->I (X.pv u r k))
  (hS:∀u,I u->(∀i,i<m->∀k,k<n+1->Sq K (u.t i k))/\∀k,k<n+1->Sq K (u.c k)) :
  FnB Tryz.prog 116 [ptr xg,.int .i64 (e:Int)] (TB xg vars m n tv cv bv rv ms mc s.b) [mT m (n+1) ms s.t,mF (n+1) mc s.c] (IsRn xg vars m n tv cv bv rv R):=by
 refine Ft [(0,(ptr xg)),(1,(.int .i64 (e:Int)))] 24 Tryz.func116 rfl Tryz.ntmps116 kr rfl suA λh0=>?_;repeat refine WX.seq ?_
 refine WX.region ?_;repeat'(first|intro(g:Nat)|refine gA ?_|intro v)
 rename_i g2
 revert g;intro g4;repeat refine WX.seq ?_
 refine WX.region ?_;repeat'(first|intro(g:Nat)|refine gA ?_|intro v)
 revert g;intro g50;refine WX.block ?_
 refine WX.loop (σ:=RS) (λst=>[(5,ptr st.g5),(1,.int .i64 (e:Int)),(2,ptr g2),(4,ptr g4)])
  (λst=>Ow.cells st.g5 4 [.bool st.ag]::Ow.cells g4 3 [.int .i64 0]::Ow.cells g2 173 [ptr xg]::TB xg vars m n tv cv bv rv st.ms st.mc st.s.b)
  (λst=>mT m (n+1) st.ms st.s.t::mF (n+1) st.mc st.s.c::ge h0::[])
  (λst=>I st.s/\if st.ag=true then X.runP m n e st.f st.s=some R else R=(st.s,none))
  (λst=>2*st.f+if st.ag=true then 1 else 0) ?_ ⟨g50,true,ms,mc,s,f⟩ ⟨hI0,by rw[if_pos rfl];exact hrun⟩ suA (List.Sublist.refl _ |>.trans (by simp only[];exact slA)) sfA
 rintro⟨g5,ag,ms,mc,s,f⟩ ⟨hIs,hrs⟩;simp only at hIs hrs ⊢;repeat refine WX.seq ?_
 refine WX.region ?_;repeat'(first|intro(g:Nat)|refine gA ?_|intro v)
 cases ag with
 |false=>
  rw[if_neg qd] at hrs;subst hrs;repeat refine WX.seq ?_
  refine WX.cond (b:=false) rfl ?_;rw[if_neg qd];refine WX.exit ?_;repeat refine WX.seq ?_
  refine WX.region ?_;repeat'(first|intro(g:Nat)|refine gA ?_|intro v)
  refine WX.ret ?_;exact Fin.p (TB xg vars m n tv cv bv rv ms mc s.b) [mT m (n+1) ms s.t,mF (n+1) mc s.c] (Qg.c1 rfl rfl meA T.sc3) meA slA sfA ⟨ms,mc,rfl,rfl,rfl⟩
 |true=>
  rw[if_pos rfl] at hrs;repeat refine WX.seq ?_
  refine WX.cond (b:=true) rfl ?_;rw[if_pos rfl];refine WX.skip ?_;repeat refine WX.seq ?_
  refine WX.block ?_;repeat refine WX.seq ?_
  refine WX.region ?_;repeat'(first|intro(g:Nat)|refine gA ?_|intro v)
  repeat refine WX.seq ?_
  refine WX.region ?_;repeat'(first|intro(g:Nat)|refine gA ?_|intro v)
  refine WL.Q3 (entering_o xg e) ?_;rintro _ _ _ ⟨ga,gb,rfl,rfl,rfl⟩;refine sNn ?_;repeat'(first|intro(g:Nat)|refine gA ?_|intro v)
  repeat refine WX.block ?_
  have hEv:∀k,k<e->s.c k<0->(∀j,j<k->¬s.c j<0)->X.ent s e=some k:=λk=>ent_of
  refine WX.range (λbx' G=>(∀j,j<e->¬s.c j<0)/\bx'=Ow.cells gb 3 [.int .i64 (e:Int)]::Ow.cells ga 173 [ptr xg]::Ow.cells g5 4 [.bool false]::Ow.cells g4 3 [.int .i64 0]::Ow.cells g2 173 [ptr xg]::TB xg vars m n tv cv bv rv ms mc s.b/\G=[])
   (λc bx' Fc=>∃k,k<e/\s.c k<0/\(∀j,j<k->¬s.c j<0)/\match X.lev n s k m with
    |none=>c=.ret/\bx'=Ow.cells gb 3 [.int .i64 (e:Int)]::Ow.cells ga 173 [ptr xg]::Ow.cells g5 4 [.bool false]::Ow.cells g4 3 [.int .i64 (k:Int)]::Ow.cells g2 173 [ptr xg]::TB xg vars m n tv cv bv rv ms mc s.b/\Fc=[mT m (n+1) ms s.t,mF (n+1) mc s.c]
    |some r=>c=.exit 2/\∃ms' mc',bx'=Ow.cells gb 3 [.int .i64 (e:Int)]::Ow.cells ga 173 [ptr xg]::Ow.cells g5 4 [.bool true]::Ow.cells g4 3 [.int .i64 0]::Ow.cells g2 173 [ptr xg]::TB xg vars m n tv cv bv rv ms' mc' (X.pv s r k).b/\Fc=[mT m (n+1) ms' (X.pv s r k).t,mF (n+1) mc' (X.pv s r k).c])
   rfl ?seq ?done ?stop
  case seq=>
   intro l rec hkn hrs1 hrs2 hrs3 hrs4 hrs5;refine entering_c l rec gb ga g5 g4 g2 xg vars m n (.bool false) (.int .i64 0) tv cv bv rv ms mc s.t s.c s.b e he qo h0 _ λk hk hc hno=>?_;refine yieldB_of hkn hrs1 hrs3 hrs4 rfl rfl λh1=>?_;rw[hrs5];refine WC.block ?_;repeat refine WC.seq ?_
   refine WC.region ?_;obtain⟨hS1,hS2⟩:=hS s hIs;repeat'(first|intro(g:Nat)|refine gA ?_|intro v)
   refine WL.YM (leaving_c xg vars m n tv cv bv rv ms s k K qo hm hn hK hK0 hS1) ?_ (hF:=.cons (.c meA) (.cons (QQ.sV (el:=61) meA) (.cons (QQ.rows slA hmA) (.cons (QQ.sN (el:=3) meA) .nil))));repeat'(first|intro(g:Nat)|refine gA ?_|intro v)
   cases hL:X.lev n s k m with
   |none=>
    rw[show X5 none= -1 from rfl];repeat'(first|intro(g:Nat)|refine gA ?_|intro v)
    refine WC.ret ?_;exact⟨_,[mT m (n+1) ms s.t,mF (n+1) mc s.c],List.Sublist.refl _,hmA,W.Qw.all sfA,⟨rfl,rfl,rfl⟩⟩
   |some r=>
    have hr:=FF hL;rw[show X5 (some r)=(r:Int) from rfl];repeat'(first|intro(g:Nat)|refine gA ?_|intro v)
    refine WL.Zg (TB xg vars m n tv cv bv rv ms mc s.b) [Ow.cells gb 3 [.int .i64 (e:Int)],Ow.cells ga 173 [ptr xg],Ow.cells g5 4 [.bool false],Ow.cells g4 3 [.int .i64 0],Ow.cells g2 173 [ptr xg]] (List.perm_append_comm (l₁:=[Ow.cells gb 3 [.int .i64 (e:Int)],Ow.cells ga 173 [ptr xg],Ow.cells g5 4 [.bool false],Ow.cells g4 3 [.int .i64 0],Ow.cells g2 173 [ptr xg]])) (pivot_c xg vars m n tv cv bv rv ms mc s r k K hr qo hm hn hK hK0 hS1 hS2) ?_;rintro _ _ _ ⟨ms2,mc2,rfl,rfl,rfl⟩;refine WL.perm ([Ow.cells gb 3 [.int .i64 (e:Int)],Ow.cells ga 173 [ptr xg],Ow.cells g5 4 [.bool false],Ow.cells g4 3 [.int .i64 0],Ow.cells g2 173 [ptr xg]]++TB xg vars m n tv cv bv rv ms2 mc2 (X.pv s r k).b) List.perm_append_comm ?_;refine sNn ?_;repeat'(first|intro(g:Nat)|refine gA ?_|intro v)
    exact⟨_,[mT m (n+1) ms2 (X.pv s r k).t,mF (n+1) mc2 (X.pv s r k).c],List.Sublist.refl _,hmA,W.Qw.all sfA,⟨rfl,ms2,mc2,rfl,rfl⟩⟩
  case done=>
   rintro _ _ ⟨hS0,rfl,rfl⟩;have hEn:=ent_no hS0;cases f with
   |zero=>simp[X.runP] at hrs
   |succ f=>
    rw[X.runP,hEn] at hrs;simp only[Option.some.injEq] at hrs;repeat refine WX.seq ?_
    refine WX.region ?_;repeat'(first|intro(g:Nat)|refine gA ?_|intro v)
    refine WX.region ?_;repeat'(first|intro(g:Nat)|refine gA ?_|intro v)
    exact⟨⟨_,false,ms,mc,s,f⟩,⟨⟨hIs,hrs.symm⟩,by show 2*f+0<2*(f+1)+1;omega⟩,suA,slA,sfA⟩
  case stop=>
   rintro c bx' Fc ⟨k,hk,hc,hno,hX⟩;have hEn:=hEv k hk hc hno;cases f with
   |zero=>simp[X.runP] at hrs
   |succ f=>
    rw[X.runP,hEn] at hrs;dsimp only at hrs hX;cases hL:X.lev n s k m with
    |none=>
     rw[hL] at hX hrs;simp only[Option.some.injEq] at hrs;obtain⟨rfl,rfl,rfl⟩:=hX;subst hrs;refine WX.ret ?_;exact Fin.p (TB xg vars m n tv cv bv rv ms mc s.b) [mT m (n+1) ms s.t,mF (n+1) mc s.c] (Qg.c1 rfl rfl meA T.sc3) meA slA sfA ⟨ms,mc,rfl,rfl,rfl⟩
    |some r=>
     rw[hL] at hX hrs;obtain⟨rfl,ms2,mc2,rfl,rfl⟩:=hX;refine WX.exit ?_;repeat refine WX.seq ?_
     refine WX.region ?_;repeat'(first|intro(g:Nat)|refine gA ?_|intro v)
     refine WX.region ?_;repeat'(first|intro(g:Nat)|refine gA ?_|intro v)
     exact⟨⟨_,true,ms2,mc2,X.pv s r k,f⟩,⟨⟨hI s k r hIs hEn hL,hrs⟩,by show 2*f+1<2*(f+1)+1;omega⟩,suA,slA,sfA⟩
end Z
section
variable {P:Program}{n:Nat}{L rest:List Oper}{e:Env}{bx:List Ow}{F:List Fct}{Q2:Env->List Ow->List Fct->Prop}
def WD.VR{hs:List Nat}{b0:List Ow}{F0 F':List Fct}{p:Plan}{i d:Nat}{f:FuncId}{x:Operand}{args:List Operand}{ats:Array TypeId}{vs:List Value}{R:Qf}{ty:TypeId}{pos:String}{af:Array Edge}{gd:Option (Nat×Bool)}(first cap:List Value)(ba br:List Ow)(hp:bx.Perm (ba++br))(hf:FnB P f (first++vs++cap) ba F' R)(hK:∀v b G,R v b G->WD P n L hs b0 F0 p ((d,v)::e) (b++br) (G++F) Q2)
  (hL:L[i]?=some ⟨some d,.call {callee:=.value x,args:=args.toArray,argTypes:=ats},ty,pos,af,gd⟩:=by exact rfl) (hx:ev e x=some (.func (.func f) first.toArray cap.toArray):=by exact rfl) (hv:Evs e args vs:=by repeat(first|exact Evs.nil|(apply Evs.cons;exact rfl))) (hF:Qw F F':=by repeat(first|exact Qw.nil|(apply Qw.cons;exact hsA)))
  (hd:Nat.blt d n=true:=by exact rfl) (hg:gok L e gd=some true:=by exact rfl) (lt:QR L hs i=true:=by kernel_rfl):WD P n L hs b0 F0 (.loud i p) e bx F Q2:=
 WD.l hL hd hg (LO.call hx hv ba br hp hf hF.all λv b G hR=>⟨.inl lt,hK v b G hR⟩)
def WL.VR{F':List Fct}{d:Nat}{f:FuncId}{x:Operand}{args:List Operand}{ats:Array TypeId}{vs:List Value}{R:Qf}{ty:TypeId}{pos:String}{af:Array Edge}{gd:Option (Nat×Bool)}(first cap:List Value)(ba br:List Ow)(hp:bx.Perm (ba++br))(hf:FnB P f (first++vs++cap) ba F' R)(hK:∀v b G,R v b G->WL P n L rest ((d,v)::e) (b++br) (G++F) Q2)
  (hx:ev e x=some (.func (.func f) first.toArray cap.toArray):=by exact rfl) (hv:Evs e args vs:=by repeat(first|exact Evs.nil|(apply Evs.cons;exact rfl))) (hF:Qw F F':=by repeat(first|exact Qw.nil|(apply Qw.cons;exact hsA)))
  (hd:Nat.blt d n=true:=by exact rfl) (hg:gok L e gd=some true:=by exact rfl):WL P n L (⟨some d,.call {callee:=.value x,args:=args.toArray,argTypes:=ats},ty,pos,af,gd⟩::rest) e bx F Q2:=
 WL.l hd hg (LO.call hx hv ba br hp hf hF.all hK)
end
def YO.lssD{P:Program}{e:Env}{bx:List Ow}{F:List Fct}{ty t t':TypeId}{x y:Operand}{k:IntKind}{i j:Int}(hx:ev e x=some (.int k i))(hy:ev e y=some (.int k j)):YO P (.binOp .lss t x y t') ty e bx F (.bool (decide (i<j))):=YO.cmp hx hy (by simp)
def WC.isSl{P:Program}{n k:Nat}{c:Code}{e:Env}{bx:List Ow}{F:List Fct}{Q:Post}{v:Value}(hk:KnS bx F v k)(h:∀a c',v=.slice a k c'->WC P n c e bx F Q):WC P n c e bx F Q:=
 WC.pure (p:=∃a c',v=.slice a k c') (λfr w ho=>by obtain⟨a,c',h1,_⟩:=(hk fr w ho).is;exact⟨a,c',h1⟩) λ⟨a,c',h1⟩=>h a c' h1
def rwx(p:X.Lp)(i k j:Nat):Rat:=if j<k then p.A i j else if p.v<=j/\j<p.v+k then p.A i j else 0
def rwx_up{p:X.Lp}{i k:Nat}{neg:Bool}(hn:neg=decide (p.b i<0))(hk:k<p.v)(j:Nat):upd (upd (rwx p i k) k (if neg=true then -(p.a i k) else p.a i k)) (p.v+k) (if neg=true then -(-(p.a i k)) else -(p.a i k)) j=rwx p i (k+1) j:=by
 have hs:p.sg i=if neg=true then -1 else 1:=by
  unfold X.Lp.sg;rw[hn];by_cases c:p.b i<0<;>simp[c]
 have h1:(if neg=true then -(p.a i k) else p.a i k)=p.A i k:=by
  unfold X.Lp.A;rw[if_pos hk,hs];cases neg<;>simp<;>grind
 have h2:(if neg=true then -(-(p.a i k)) else -(p.a i k))=p.A i (p.v+k):=by
  unfold X.Lp.A;rw[if_neg (show ¬p.v+k<p.v by omega),if_pos (show p.v+k<2*p.v by omega),hs,show p.v+k-p.v=k by omega];cases neg<;>simp<;>grind
 rw[h1,h2];unfold upd rwx;by_cases c1:j=p.v+k
 .subst c1;rw[if_pos rfl,if_neg qo,if_pos qo]
 .rw[if_neg c1];by_cases c2:j=k
  .subst c2;rw[if_pos rfl,if_pos qo]
  .rw[if_neg c2];by_cases c3:j<k
   .rw[if_pos c3,if_pos qo]
   .rw[if_neg c3,if_neg (show ¬j<k+1 by omega)];by_cases c4:p.v<=j/\j<p.v+k
    .rw[if_pos c4,if_pos qo]
    .rw[if_neg c4,if_neg qo]
def rwx_all{p:X.Lp}{i:Nat}{neg:Bool}(hn:neg=decide (p.b i<0))(hi:i<p.m)(f:Nat->Rat)(hf:∀j,f j=upd (upd (rwx p i p.v) (2*p.v+i) (if neg=true then -(Rat.divInt 1 1) else Rat.divInt 1 1)) p.n (if neg=true then -(p.b i) else p.b i) j) :
  (neg=false->∀j,j<p.n+1->f j=p.A i j)/\(neg=true->∀j,j<p.n+1->upd f (p.la+i) (Rat.divInt 1 1) j=p.A i j):=by
 have hs:p.sg i=if neg=true then -1 else 1:=by
  unfold X.Lp.sg;rw[hn];by_cases c:p.b i<0<;>simp[c]
 have hb:p.b i<0↔neg=true:=by rw[hn];simp
 have h1:Rat.divInt 1 1=1:=by decide +kernel
 have hla:p.la=2*p.v+p.m:=rfl;have hnn:p.n=2*p.v+2*p.m:=rfl
 have key:∀j,j<p.n+1->j≠p.la+i->f j=p.A i j:=λj hj hne=>by
  rw[hf,h1];unfold upd rwx X.Lp.A;rw[hs];by_cases c1:j=p.n
  .subst c1;rw[if_pos rfl,if_neg (show ¬p.n<p.v by omega),if_neg (show ¬p.n<2*p.v by omega),if_neg (show ¬p.n<p.la by omega),if_neg (show ¬p.n<p.n by omega)];cases neg<;>simp<;>grind
  .rw[if_neg c1];by_cases c2:j=2*p.v+i
   .subst c2;rw[if_pos rfl,if_neg (show ¬2*p.v+i<p.v by omega),if_neg (show ¬2*p.v+i<2*p.v by omega),if_pos (show 2*p.v+i<p.la by omega),if_pos rfl]
   .rw[if_neg c2];by_cases c3:j<p.v
    .rw[if_pos c3,if_pos c3]
    .rw[if_neg c3,if_neg c3];by_cases c4:j<2*p.v
     .rw[if_pos (show p.v<=j/\j<p.v+p.v by omega),if_pos c4]
     .rw[if_neg (show ¬(p.v<=j/\j<p.v+p.v) by omega),if_neg c4];by_cases c5:j<p.la
      .rw[if_pos c5,if_neg c2]
      .rw[if_neg c5,if_pos (show j<p.n by omega),if_neg (λh=>hne h.1)]
 refine⟨λhf0 j hj=>?_,λht j hj=>?_⟩
 .by_cases c:j=p.la+i
  .subst c;rw[hf,h1];unfold upd rwx X.Lp.A;rw[if_neg (show ¬p.la+i=p.n by omega),if_neg (show ¬p.la+i=2*p.v+i by omega),if_neg (show ¬p.la+i<p.v by omega),if_neg (show ¬(p.v<=p.la+i/\p.la+i<p.v+p.v) by omega),if_neg (show ¬p.la+i<p.v by omega),if_neg (show ¬p.la+i<2*p.v by omega),if_neg (show ¬p.la+i<p.la by omega),if_pos (show p.la+i<p.n by omega),if_neg (λh=>by have:=hb.1 h.2;rw[hf0] at this;cases this)]
  .exact key j hj c
 .unfold upd;by_cases c:j=p.la+i
  .subst c;rw[if_pos rfl,h1];unfold X.Lp.A;rw[if_neg (show ¬p.la+i<p.v by omega),if_neg (show ¬p.la+i<2*p.v by omega),if_neg (show ¬p.la+i<p.la by omega),if_pos (show p.la+i<p.n by omega),if_pos ⟨rfl,hb.2 ht⟩]
  .rw[if_neg c];exact key j hj c
def upd_same{α:Type}{f:Nat->α}{i:Nat}{c:α}(h:f i=c):upd f i c=f:=funext λj=>by
 unfold upd;by_cases e:j=i
 .rw[if_pos e,e,h]
 .rw[if_neg e]
def has_tapp{F:List Fct}{i w:Nat}{ms:Nat->Nat->QM}{A:Nat->Nat->Rat}{mx:Nat->QM}{f:Nat->Rat}(h:Has F (mT i w ms A))(hx:Has F (mF w mx f))(hf:∀j,j<w->f j=A i j):Has F (mT (i+1) w (upd ms i mx) A):=λp hp k hk j hj=>by
 by_cases c:k=i
 .subst c;rw[QU,<-hf j hj];exact hx p hp j hj
 .rw[upd_ne c];exact h p hp k qo j hj
def hasT0{F:List Fct}{w:Nat}{ms:Nat->Nat->QM}{t:Nat->Nat->Rat}:Has F (mT 0 w ms t):=λp hf i hi=>absurd hi qo
def IsMk(M:Pm)(p:X.Lp):Qf:=λv B G=>∃xg tv bv rv ms,v=ptr xg/\B=TM xg p.v p.m p.n tv (.slice none 0 0) bv rv ms p.s0.b/\G=[mT p.m (p.n+1) ms p.A]
namespace Z
attribute [local irreducible] WC WL WD YO LO Qq W.Fin Qv Qh Qj Row QV Qy KnS Has W.One Qp QJ
def d113{G G':Prop}(h:G')(s:Bx G'->G:=by
 intro h;first|refine gM ?_|(apply WC.draw (id:=13) [0,1,2,3,4,5] (.h 0<|.h 1<|.h 2<|.h 3<|.h 4<|.h 5<|.l 6<|.l 7 .done) mixed kr)|(apply WC.draw (id:=15) [0,1,2,3,4,5] (.h 0<|.h 1<|.h 2<|.h 3<|.h 4<|.h 5<|.l 6<|.l 7 .done) mixed kr)|(apply WC.draw (id:=16) [0,1,2,3,4,5,6] (.h 0<|.h 1<|.h 2<|.h 3<|.h 4<|.h 5<|.h 6<|.l 7 .done) mixed kr)|(apply WC.draw (id:=20) [0,1,3] (.h 0<|.h 1<|.l 2<|.h 3<|.l 4 .done) mixed kr)|fail
 exact Bx.h h):G:=s ⟨h⟩
def Vh{G G':Prop}(h:G')(s:Bx G'->G:=by
 intro h
 (apply WD.fy;exact rfl;(first|exact wq40|exact wq17|exact wq5|exact Zy|exact Jw|(first|exact wq22|exact wq79)|exact wq23|exact wq31|exact wq42|(first|exact wq13|exact wq41));exact rfl;exact rfl)
 exact Bx.h h):G:=s ⟨h⟩
def made_c(M:Pm)(p:X.Lp)(hv:p.v<=1000)(hm:p.m<=1000):FnB Tryz.prog 113 [pgv M p.v] [] [fP M p] (IsMk M p):=by
 refine fO [(0,(pgv M p.v))] 122 Tryz.func113 Tryz.ntmps113 λh0=>?_;have hn:p.n=2*p.v+2*p.m:=rfl;have hla:p.la=2*p.v+p.m:=rfl;refine WC.QP 3 1 ?_;refine WC.QP 61 1 ?_;repeat'(first|intro(g:Nat)|refine d113 ?_|refine gN ?_ ?_|intro v)
 rw[show(2:Int)*(p.v:Int)+2*(p.m:Int)=((p.n:Nat):Int) by rw[hn];simp];rename_i gp
 revert g;intro xg
 refine WC.lpP (σ:=Nat×Value×Value×(Nat->Value)×(Nat->Nat->QM)) (λst=>[(30,.int .i64 (st.1:Int)),(29,.int .i64 (p.m:Int)),(28,M.lv),(4,ptr xg),(3,.int .i64 (p.m:Int)),(1,ptr gp)])
  (λst=>Ow.cells xg 177 [.int .i64 (p.v:Int),.int .i64 (p.m:Int),.int .i64 (p.n:Int),st.2.1,.slice none 0 0,st.2.2.1]::Ow.cells gp 118 (pcs M p.v)::Ow.slice st.2.1 61 1 (fnV st.1 st.2.2.2.1)::Ow.slice st.2.2.1 3 1 (ints (fnL st.1 p.s0.b))::Xk st.1 (p.n+1) st.2.2.2.1 st.2.2.2.2)
  (λst=>[mT st.1 (p.n+1) st.2.2.2.2 p.A,ge h0,fP M p]) (λst=>st.1<=p.m) (λst=>p.m-st.1) (0,.slice none 0 0,.slice none 0 0,λ_=>.slice none 0 0,λ_ _=>m00) (Nat.zero_le _) ?_ (hG:=.cons hasT0 (.cons hmA (.cons hmA .nil)))
 rintro⟨i,tv,bv,rv,ms⟩ hi;simp only at hi ⊢;by_cases c:i<p.m
 .refine WC.fact (fF (M.av i) p.v (M.ma i) (p.a i)) (W.Has.pa (M:=M) (gn:=p.v) (ln:=λ_=>p.v) (a:=p.a) (b:=p.b) (g:=p.g) hmA c) ?_;refine WC.fact (isQ (qv (M.mb i)) (p.b i)) (W.Has.pbq (M:=M) (gn:=p.v) (ln:=λ_=>p.v) (a:=p.a) (b:=p.b) (g:=p.g) hmA c) ?_;repeat'(first|intro(g:Nat)|refine d113 ?_|refine gN ?_ ?_|intro v)
  refine cV (Zn.sign (M.mb i) (p.b i)) ?_;refine WL.y (YO.lssD rfl rfl) rfl rfl ?_;have hneg:decide (sgn (p.b i).num<0)=decide (p.b i<0):=decide_eq_decide.2 XS;rw[hneg];generalize hnb:decide (p.b i<0)=neg;have hnb':=hnb.symm;repeat'(first|intro(g:Nat)|refine d113 ?_|refine gN ?_ ?_|intro v)
  rename_i g6 g7
  revert v;intro lw;revert g;intro g8
  refine WC.lp (σ:=Nat×(Nat->QM)) (λst=>[(49,.int .i64 (st.1:Int)),(48,.int .i64 (p.v:Int)),(47,M.av i),(9,.func (.func 189) #[] #[ptr g8,ptr g7]),(8,ptr g8),(7,ptr g7),(6,ptr g6),(5,.int .i64 (i:Int)),(30,.int .i64 (i:Int)),(29,.int .i64 (p.m:Int)),(28,M.lv),(4,ptr xg),(3,.int .i64 (p.m:Int)),(1,ptr gp)])
   (λst=>Ow.cells g8 4 [.bool neg]::Ow.cells g7 61 [lw]::Yx (p.n+1) lw st.2::Ow.cells g6 141 [M.av i,.bool (M.mb i).1,(M.mb i).2.1,.bool false,(M.mb i).2.2]::Ow.cells xg 177 [.int .i64 (p.v:Int),.int .i64 (p.m:Int),.int .i64 (p.n:Int),tv,.slice none 0 0,bv]::Ow.cells gp 118 (pcs M p.v)::Ow.slice tv 61 1 (fnV i rv)::Ow.slice bv 3 1 (ints (fnL i p.s0.b))::Xk i (p.n+1) rv ms)
   (λst=>[mF (p.n+1) st.2 (rwx p i st.1),isQ (qv (M.mb i)) (p.b i),fF (M.av i) p.v (M.ma i) (p.a i),mT i (p.n+1) ms p.A,ge h0,fP M p]) (λst=>st.1<=p.v) (λst=>p.v-st.1) (0,λ_=>m00) (Nat.zero_le _) ?_ (hG:=.cons ((W.Has.mF0 (p.n+1)).QN λj _=>by unfold rwx;simp[Nat.not_lt_zero,show ¬(p.v<=j/\j<p.v) by omega]) sfA)
  rintro⟨k,mx⟩ hk;simp only at hk ⊢;by_cases ck:k<p.v
  .refine WC.fact (isQ (qv (M.ma i k)) (p.a i k)) (W.Has.q (W.Has.fm (v:=M.av i) hmA) ck) ?_;repeat'(first|intro(g:Nat)|refine d113 ?_|refine gN ?_ ?_|intro v)
   revert g;intro g11;refine WL.VR [] [ptr g8,ptr g7] (vs:=[.int .i64 (k:Int),qv (M.ma i k)]) _ (Ow.cells g11 75 (qcs (M.ma i k))::Ow.cells g6 141 [M.av i,.bool (M.mb i).1,(M.mb i).2.1,.bool false,(M.mb i).2.2]::Ow.cells xg 177 [.int .i64 (p.v:Int),.int .i64 (p.m:Int),.int .i64 (p.n:Int),tv,.slice none 0 0,bv]::Ow.cells gp 118 (pcs M p.v)::Ow.slice tv 61 1 (fnV i rv)::Ow.slice bv 3 1 (ints (fnL i p.s0.b))::Xk i (p.n+1) rv ms) (List.perm_middle (l₁:=[_,_,_])).symm (put_c g8 g7 neg lw (p.n+1) k mx (M.ma i k) (p.a i k) qo) ?_;rintro _ _ _ ⟨m2,rfl,rfl,rfl⟩;refine sNn ?_;repeat'(first|intro(g:Nat)|refine d113 ?_|refine gN ?_ ?_|intro v)
   refine cW (Zn.neg (m1:=M.ma i k) (a:=p.a i k)) λm3=>?_;repeat'(first|intro(g:Nat)|refine d113 ?_|refine gN ?_ ?_|intro v)
   refine WD.VR [] [ptr g8,ptr g7] (vs:=[.int .i64 ((p.v+k:Nat):Int),qv m3]) _ _ (.refl _) (put_c g8 g7 neg lw (p.n+1) (p.v+k) (upd mx k m2) m3 (-(p.a i k)) qo) ?_;rintro _ _ _ ⟨m4,rfl,rfl,rfl⟩;refine sNn ?_;refine WD.fact (mF (p.n+1) (upd (upd mx k m2) (p.v+k) m4) (rwx p i (k+1))) ((W.Has.Xh (k:=p.v+k) (m:=m4) (z:=if neg=true then -(-(p.a i k)) else -(p.a i k)) (W.Has.Xh (k:=k) (ms:=mx) (m:=m2) (qf:=rwx p i k) (z:=if neg=true then -(p.a i k) else p.a i k) hmA hmA) hmA).QN λj _=>rwx_up hnb' ck j) ?_;repeat'(first|intro(g:Nat)|refine d113 ?_|refine gN ?_ ?_|intro v)
   exact Qq.mk (k+1,_) (by show k+1<=p.v;omega) (by show p.v-(k+1)<p.v-k;omega)
  .obtain rfl:k=p.v:=qo;refine WC.isSl (v:=lw) (k:=p.n+1) (KnS.oR (ms:=mx) (el:=75) meA) λla lc hl=>?_;subst hl;repeat'(first|intro(g:Nat)|refine d113 ?_|refine gN ?_ ?_|intro v)
   refine cW (Zn.of 1 1 qd qd) λm5=>?_;repeat'(first|intro(g:Nat)|refine d113 ?_|refine gN ?_ ?_|intro v)
   refine WD.VR [] [ptr g8,ptr g7] (vs:=[.int .i64 ((2*p.v+i:Nat):Int),qv m5]) _ _ (.refl _) (put_c g8 g7 neg (.slice la (p.n+1) lc) (p.n+1) (2*p.v+i) mx m5 (Rat.divInt 1 1) qo) ?_;rintro _ _ _ ⟨m6,rfl,rfl,rfl⟩;refine sNn ?_;repeat'(first|intro(g:Nat)|refine d113 ?_|refine gN ?_ ?_|intro v)
   refine WD.VR [] [ptr g8,ptr g7] (vs:=[.int .i64 (p.n:Int),qv (M.mb i)]) _ _ (.refl _) (put_c g8 g7 neg (.slice la (p.n+1) lc) (p.n+1) p.n (upd mx (2*p.v+i) m6) (M.mb i) (p.b i) qo) ?_;rintro _ _ _ ⟨m7,rfl,rfl,rfl⟩;refine sNn ?_;obtain⟨hA0,hA1⟩:=rwx_all hnb' c (upd (upd (rwx p i p.v) (2*p.v+i) (if neg=true then -(Rat.divInt 1 1) else Rat.divInt 1 1)) p.n (if neg=true then -(p.b i) else p.b i)) (λ_=>rfl);refine WD.fact (mF (p.n+1) (upd (upd mx (2*p.v+i) m6) p.n m7) (upd (upd (rwx p i p.v) (2*p.v+i) (if neg=true then -(Rat.divInt 1 1) else Rat.divInt 1 1)) p.n (if neg=true then -(p.b i) else p.b i))) (W.Has.Xh (k:=p.n) (m:=m7) (z:=if neg=true then -(p.b i) else p.b i) (W.Has.Xh (k:=2*p.v+i) (ms:=mx) (m:=m6) (qf:=rwx p i p.v) (z:=if neg=true then -(Rat.divInt 1 1) else Rat.divInt 1 1) hmA hmA) hmA) ?_;generalize (upd (upd (rwx p i p.v) (2*p.v+i) (if neg=true then -(Rat.divInt 1 1) else Rat.divInt 1 1)) p.n (if neg=true then -(p.b i) else p.b i))=fq at *;generalize hmz:(upd (upd mx (2*p.v+i) m6) p.n m7)=mz;repeat'(first|intro(g:Nat)|refine d113 ?_|refine gN ?_ ?_|intro v)
   cases neg with
   |true=>
    repeat'(first|intro(g:Nat)|refine d113 ?_|refine gN ?_ ?_|intro v)
    rw[show(2:Int)*(p.v:Int)+(p.m:Int)+(i:Int)=((p.la+i:Nat):Int) by simp[X.Lp.la]];refine cW (Zn.of 1 1 qd qd) λm8=>?_;repeat'(first|intro(g:Nat)|refine gB ?_|refine d113 ?_|intro v)
    refine WC.V3 (id:=21) [Ow.cells g7 61 [.slice la (p.n+1) lc],Ow.cells xg 177 [.int .i64 (p.v:Int),.int .i64 (p.m:Int),.int .i64 (p.n:Int),tv,.slice none 0 0,bv]] slA [0,2,3,4,5,6,9,10,11,12,13,16,17] (.f 1<|.h 0<|.h 2<|.h 3<|.h 4<|.h 5<|.h 6<|.h 9<|.h 10<|.h 11<|.h 12<|.h 13<|.m 7 (.m 8 (.l 14<|.l 15<|.h 16<|.h 17<|.l 18<|.l 19<|.l 20<|.l 21 .done) (.l 14<|.l 8<|.l 15<|.h 16<|.h 17<|.l 18<|.l 19<|.l 20<|.l 21 .done)) (.l 14<|.l 7<|.l 8<|.l 15<|.h 16<|.h 17<|.l 18<|.l 19<|.l 20<|.l 21 .done)) mixed kr ?_;refine Vh ?_;repeat'(first|intro(g:Nat)|refine d113 ?_|refine gN ?_ ?_|intro v)
    all_goals
     refine Z2 ?_;repeat'(first|intro(g:Nat)|refine gB ?_|refine d113 ?_|intro v)
     refine Z2 ?_;repeat'(first|intro(g:Nat)|refine gB ?_|refine d113 ?_|intro v)
     apply Exists.intro (i+1,_,_,upd rv i (.slice la (p.n+1) lc),upd ms i (upd mz (p.la+i) m8));refine⟨⟨?_,?_⟩,?_,?_,?_⟩
     rotate_left 3
     .rw[upd_same (f:=p.s0.b) (i:=i) (c:=p.la+i) (if_pos (of_decide_eq_true hnb))]
      (repeat(apply ex_cons;exact wq8))
      apply ex_row;exact wq8;exact wq36
     .exact .cons (has_tapp (f:=upd fq (p.la+i) (Rat.divInt 1 1)) hmA (W.Has.Xh (qf:=fq) hmA hmA) (hA1 rfl)) (.cons hmA (.cons hmA .nil))
     .show i+1<=p.m;omega
     .show p.m-(i+1)<p.m-i;omega
     .exact suA
   |false=>
    rw[show(2:Int)*(p.v:Int)+(i:Int)=((2*p.v+i:Nat):Int) by simp];repeat'(first|intro(g:Nat)|refine gB ?_|refine d113 ?_|intro v)
    refine WC.V3 (id:=21) [Ow.cells g7 61 [.slice la (p.n+1) lc],Ow.cells xg 177 [.int .i64 (p.v:Int),.int .i64 (p.m:Int),.int .i64 (p.n:Int),tv,.slice none 0 0,bv]] slA [0,2,3,4,5,6,9,10,11,12,13,16,17] (.f 1<|.h 0<|.h 2<|.h 3<|.h 4<|.h 5<|.h 6<|.h 9<|.h 10<|.h 11<|.h 12<|.h 13<|.m 7 (.m 8 (.l 14<|.l 15<|.h 16<|.h 17<|.l 18<|.l 19<|.l 20<|.l 21 .done) (.l 14<|.l 8<|.l 15<|.h 16<|.h 17<|.l 18<|.l 19<|.l 20<|.l 21 .done)) (.l 14<|.l 7<|.l 8<|.l 15<|.h 16<|.h 17<|.l 18<|.l 19<|.l 20<|.l 21 .done)) mixed kr ?_;refine Vh ?_;repeat'(first|intro(g:Nat)|refine d113 ?_|refine gN ?_ ?_|intro v)
    all_goals
     refine Z2 ?_;repeat'(first|intro(g:Nat)|refine gB ?_|refine d113 ?_|intro v)
     refine Z2 ?_;repeat'(first|intro(g:Nat)|refine gB ?_|refine d113 ?_|intro v)
     apply Exists.intro (i+1,_,_,upd rv i (.slice la (p.n+1) lc),upd ms i mz);refine⟨⟨?_,?_⟩,?_,?_,?_⟩
     rotate_left 3
     .rw[upd_same (f:=p.s0.b) (i:=i) (c:=2*p.v+i) (if_neg (of_decide_eq_false hnb))]
      (repeat(apply ex_cons;exact wq8))
      apply ex_row;exact wq8;exact wq36
     .exact .cons (has_tapp (f:=fq) hmA hmA (hA0 rfl)) (.cons hmA (.cons hmA .nil))
     .show i+1<=p.m;omega
     .show p.m-(i+1)<p.m-i;omega
     .exact suA
 .obtain rfl:p.m=i:=qo;repeat'(first|intro(g:Nat)|refine d113 ?_|refine gN ?_ ?_|intro v)
  refine WC.ret ?_;exact Fin.p (TM xg p.v p.m p.n tv (.slice none 0 0) bv rv ms p.s0.b) [mT p.m (p.n+1) ms p.A] (Qg.t1 rfl rfl) meA slA haA ⟨xg,tv,bv,rv,ms,rfl,rfl,rfl⟩
end Z
end Go.Proofs.YtbnobghgnbockaaGreat
