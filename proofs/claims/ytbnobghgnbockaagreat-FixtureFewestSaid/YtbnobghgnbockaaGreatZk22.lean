/- Lemmas. Conditions: none. -/
import Derived.Test.YtbnobghgnbockaaGreatZk21
import Derived.Conc.WgGenN2
set_option linter.all false
set_option maxHeartbeats 0
set_option maxRecDepth 100000
namespace Go.Proofs.YtbnobghgnbockaaGreat
section
open Go.RowKit
open Go.Conc (G base)
namespace W
variable {P:nh}
def Qz.of{F:nc}:∀{G:nc},(∀f∈G,Has F f)->Qz F G
 |[],_=>.nil
 |_::_,h=>.cons (h _ (an ..)) (Qz.of λf hf=>h f (au _ hf))
def bdQ(h1:PH)(X:Code->nw->nc->Prop):Post
 |.ret=>λ_ bx' F'=>∃bx'' F'',bx''.Sublist bx'/\Has F' (ge h1)/\(∀f∈F'',Has F' f)/\X .ret bx'' F''
 |.exit i=>λ_ bx' F'=>∃bx'' F'',bx''.Sublist bx'/\Has F' (ge h1)/\(∀f∈F'',Has F' f)/\X (.exit i) bx'' F''
 |_=>λ_ _ _=>False
def V5(P:nh)(l:Nat)(r:Loop)(val:nA)(bx:nw)(F:nc)(X:Code->nw->nc->Prop):Prop:=
 r.params.size=1/\∀fr w,OK fr (.obj l (.loop r)::bx) F w->
  KW P fr.main fr.sh l r.fn ((r.params.zip #[val]).foldl (λt (p,v)=>t.setIfInBounds p v) r.tmps) r.assign r.body fr.own w
   (λown' v w'=>v=nq/\PostB fr (.obj l (.loop r)::bx) w (λ_ B G=>∃c bx',B=.obj l (.loop {r with state:=.done,pending:=some c})::bx'/\X c bx' G) own' v w')
section
variable {n:Nat}{e:Env}{bx:nw}{F:nc}{l:Nat}{r:Loop}{val:nA}
def yieldB_of{X:Code->nw->nc->Prop}{p d:Tmp}{ty:nl}{pos:String}{id:Nat}(hk:Kn [] n ⟨r.tmps,[]⟩ e)(hs:r.state=.ready)(hps:r.params=#[p])
  (ha:r.assign=.region id #[{dst:=some d,op:=.assign (.tmp p),type:=ty,pos:=pos,after:=#[],guard:=none}] false) (hp:Nat.blt p n=true) (hd:Nat.blt d n=true)
  (hbody:∀h1,WC P n r.body ((d,val)::(p,val)::e) bx (ge h1::F) (bdQ h1 X)):V5 P l r val bx F X:=by
 refine⟨by rw[hps];rfl,λfr w ho c cs Stop hc=>?_⟩;rw[round_at];have htm:(r.params.zip #[val]).foldl (λt (p,v)=>t.setIfInBounds p v) r.tmps=(Act.put ⟨r.tmps,[]⟩ (some p) val).tmps:=by rw[hps];simp[Act.put]
 rw[htm];have hkp:Kn [] n ⟨(Act.put ⟨r.tmps,[]⟩ (some p) val).tmps,[]⟩ ((p,val)::e):=hk.put hp val;let h1:=imm fr (.obj l (.loop r)::bx) w.heap
 have ho0:OK {fr with ds:=[]} (.obj l (.loop r)::bx) (ge h1::F) w:=(ho.add (f:=ge h1) (PH.le.refl _)).dsw []
 have hwa:WC P n r.assign ((p,val)::e) (.obj l (.loop r)::bx) (ge h1::F) (λex e' bx' F'=>ex=.normal/\e'=(d,val)::(p,val)::e/\bx'=.obj l (.loop r)::bx/\F'=ge h1::F):=by
  rw[ha];refine WC.region (L:=[{dst:=some d,op:=.assign (.tmp p),type:=ty,pos:=pos,after:=#[],guard:=none}]) (WL.YX (YO.assign (by show look _ _=_;rw[Y4,ah rfl])) hd rfl (WL.nil ⟨rfl,rfl,rfl,rfl⟩))
 refine hwa {fr with ds:=[]} w _ w hkp (Rest.refl w) ho0 (XO l r.fn) [.beginRound,.code r.body] (c::cs) Stop (by simp[XO]) λXt ex a1 w1 hq=>?_;cases ex with
 |goto l=>exact hq.elim
 |panic ch=>exact hq.elim
 |outgrown=>exact hq.elim
 |exit id=>obtain⟨_,_,_,_,_,_,_,h,_⟩:=hq;cases h
 |ret=>obtain⟨_,_,_,_,_,_,_,h,_⟩:=hq;cases h
 |normal=>
 obtain⟨hw1,e1,b1,F1,hk1,hr1,ho1,_,rfl,rfl,rfl⟩:=hq;show Run P fr.main fr.sh Stop Xt _ w1;refine Run.go rfl λw2 h2=>?_;have ho2:=ho1.rely h2;have hl2:w2.heap[l]?=some (.loop r):=ho2.owns _ (an ..);have hlo:Xt l/\fr.fr l=none:=ho2.apart l (by simp[ids,Ow.ids]);refine⟨_,_,_,KQ (b:=XO l r.fn) rfl (by simp[XO]) hl2 hs,⟨⟨rfl,rfl,rfl⟩,by simp,λk _ hk=>World.putObj_heap_other (λe=>hk (e ▸ hlo.1)),λe he=>?_⟩,?_⟩
 .have he:=JL he;rw[YF hl2 hs] at he;simp at he;rcases he with rfl|rfl<;>exact .inr (.inr ⟨_,rfl,.inl hlo.1⟩)
 rw[QW (by simp)];have ho3:=(ho2.Ug (o':=.loop {r with state:=.busy})).hold;have hbd:=hbody h1 (CF.hold (CF.at {fr with ds:=[]} Xt) l (.loop {r with state:=.busy})) w a1 (w2.putObj l (.loop {r with state:=.busy})) hk1 (Rest.trans (b:=w2) (hr1.trans h2.rest) ⟨rfl,rfl,rfl⟩) ho3
 have hleave:∀(j:Code) (own4:Bk) (a4:Act) (w4:nm) (k0:List Item),(∀k,Xt k->own4 k)->Rest w w4->(∃e4 b4 F4,Kn [] n a4 e4/\OK (CF.at (CF.hold (CF.at {fr with ds:=[]} Xt) l (.loop {r with state:=.busy})) own4) b4 F4 w4/\∃bx'' F'',bx''.Sublist b4/\Has F4 (ge h1)/\(∀f∈F'',Has F4 f)/\X j bx'' F'')->
   (j=.ret\/∃id,j=.exit id/\exitTo id k0=none)->Run P fr.main fr.sh Stop own4 (G ((XO l r.fn).atR a4 (.code j::k0)) (c::cs)) w4:=by
  rintro j own4 a4 w4 k0 hw4 hr4 ⟨e4,b4,F4,hk4,ho4,bx'',F'',hb,hg,hF,hx⟩ hj;refine Run.go rfl λw5 h5=>?_;have ho5:=(ho4.rely h5).drop hb;have hfl:=ho5.frame.1 l (.loop {r with state:=.busy}) (show(CF.at (CF.hold (CF.at {fr with ds:=[]} Xt) l (.loop {r with state:=.busy})) own4).fr l=_ by simp[CF.at,CF.hold]);have hback:OK (fr.at own4) (.obj l (.loop {r with state:=.done,pending:=some j})::bx'') F4 (w5.putObj l (.loop {r with state:=.done,pending:=some j})):=((OK.back (fr:=CF.at {fr with ds:=[]} own4) ho5 hlo.2).Ug).dsw fr.ds;refine⟨_,_,_,Gd (b:=XO l r.fn) rfl rfl hfl.2 hj,⟨⟨rfl,rfl,rfl⟩,by simp,λk _ hk=>World.putObj_heap_other (λe=>hk (e ▸ hfl.1)),λe he=>?_⟩,?_⟩
  .have he:=JL he;rw[Za hfl.2] at he;simp at he;rcases he with rfl|rfl<;>exact .inr (.inr ⟨_,rfl,.inl hfl.1⟩)
  .rw[QW (by simp)];refine hc _ _ _ ⟨rfl,λk hk=>hw4 k (hw1 k hk),_,F'',⟨j,bx'',rfl,hx⟩,Rest.trans (b:=w5) (hr4.trans h5.rest) ⟨rfl,rfl,rfl⟩,hback.has hg,hback.frame,hback.apart,hback.nodup,hback.owns,λf hf=>hback.has (hF f hf)⟩
 refine hbd (XO l r.fn) [] (c::cs) Stop (by simp[XO]) λown4 ex a4 w4 hq=>?_;cases ex with
 |goto l=>exact hq.elim
 |panic ch=>exact hq.elim
 |outgrown=>exact hq.elim
 |normal=>obtain⟨_,_,_,_,_,_,_,h⟩:=hq;exact h.elim
 |exit id=>
  obtain⟨hw4,e4,b4,F4,hk4,hr4,ho4,hx⟩:=hq;exact .inr ⟨by simp[XO],rfl,λk0 hk0=>hleave _ own4 a4 w4 k0 hw4 hr4 ⟨e4,b4,F4,hk4,ho4,hx⟩ (.inr ⟨id,rfl,hk0 id rfl⟩)⟩
 |ret=>
  obtain⟨hw4,e4,b4,F4,hk4,hr4,ho4,hx⟩:=hq;exact⟨λh=>by simp[XO] at h,λ_ k0 _=>hleave _ own4 a4 w4 k0 hw4 hr4 ⟨e4,b4,F4,hk4,ho4,hx⟩ (.inl rfl)⟩
def LO.yield{X:Code->nw->nc->Prop}{x:ni}{arg:ni}{ats:Array nl}{ty:nl}{K:Qd}(hy:V5 P l r val bx F X)
  (hx:ev e x=some (.func (.yield l) #[] #[])) (hv:ev e arg=some val) {F0:nc} (hF:∀f∈F,Has F0 f)
  (hK:∀c bx' G,X c bx' G->K nq (.obj l (.loop {r with state:=.done,pending:=some c})::bx') (G++F0)) :
  LO P (.call {callee:=.value x,args:=#[arg],argTypes:=ats}) ty e (.obj l (.loop r)::bx) F0 K:=λn fr a w o K' hop _ hk ho hnext=>by
 have hl:w.heap[l]?=some (.loop r):=ho.owns _ (an ..);have hlo:fr.own l:=(ho.apart l (by simp[ids,Ow.ids])).1;have e1:a.eval x=.func (.yield l) #[] #[]:=hk.eval hx;have e2:a.eval arg=val:=hk.eval hv
 have hrun:(execOp a.eval o).run P w=.ok (.round l r.fn ((r.params.zip #[val]).foldl (λt (p,v)=>t.setIfInBounds p v) r.tmps) r.assign r.body) w:=by
  have:=Zu (P:=P) (args:=#[val]) hl (by rw[hy.1];rfl);simp[execOp,hop,resolve,e1,e2,Deferred.ofValue,invoke,this]
 have hev:(execOp a.eval o).events P w #[]=#[⟨.obj l,false,false⟩]:=by
  have:=K5 (P:=P) (args:=#[val]) (es:=#[]) hl (by rw[hy.1];rfl);have h2:=Zu (P:=P) (args:=#[val]) hl (by rw[hy.1];rfl);unfold execOp;simp[hop,resolve,e1,e2,Deferred.ofValue,invoke,this,h2]
 rw[hrun]
 refine .inl ⟨.look (by
  rw[hev];intro ev he;simp at he;subst he;exact .inr (.inr ⟨l,rfl,hlo⟩)),?_⟩
 rw[QW (ai _)];refine(hy.2 fr w ⟨ho.frame,ho.apart,ho.nodup,ho.owns,λf hf=>ho.has (hF f hf)⟩).mono λown' v w' hp=>?_;obtain⟨rfl,hown,B,GG,⟨c,bx',rfl,hX⟩,hr,hle,hok⟩:=hp;refine hnext (fr.at own') _ w' _ _ (CF.le_at hown) hr ⟨hok.frame,hok.apart,hok.nodup,hok.owns,λf hf=>?_⟩ (hK c bx' GG hX);rcases List.mem_append.1 hf with hf|hf
 .exact hok.facts f hf
 .exact f.mono _ _ hle (ho.facts f hf)
end
end W
end
section
open Go.RowKit
namespace W
abbrev RQ:=Bk->Exit->Act->nm->Prop
def WDo(P:nh)(n:Nat)(L:List Oper)(hs:List Nat)(b0:nw)(F0:nc)(p:Plan)(e:Env)(bx:nw)(F:nc)(T:CF->nm->RQ->Prop):Prop:=
 ∀fr w0 listed a w fuel (Q':RQ),(∀own a x y,Q' own .normal a x->Rly own fr.sh x y->Q' own .normal a y)->Region.noSelect L.toArray=true->chk L hs p listed=true->Down L.toArray listed->
  T fr w0 Q'->
  ((∃i∈hs,listed.getD i true=false)->OK fr b0 F0 w)->Kn fr.ds n a e->Rest w0 w->OK fr bx F w->p.len<=fuel->∀fr0:CF,fr0.le fr->YP P fr.main fr.sh L.toArray Q' (SR fr0 b0 F0) (Q3 L hs) fuel listed fr.own a w
section
variable {P:nh}{n:Nat}{L:List Oper}{hs:List Nat}{b0 bx:nw}{F0 F:nc}{p r s:Plan}{e:Env}{T:CF->nm->RQ->Prop}
 {i:Nat} {d:Nat} {op:Op} {ty:nl} {pos:String} {af:Array Edge} {g:Option (Nat×Bool)} {v:nA}
def WDo.VY(o:Oper)(hL:L[i]?=some o)(e':Env)
  (hy:∀fr0 a,Kn fr0.ds n a e->∃v,JF P fr0.sh L.toArray (SR fr0 b0 F0) o v a/\Kn fr0.ds n (a.put o.dst v) e')
  (h:WDo P n L hs b0 F0 r e' bx F T):WDo P n L hs b0 F0 (.held i r) e bx F T:=λfr w0 listed a w fuel Q' hP hns hc hd hQ hS hk hr ho hf fr0 hle=>by
 simp only[chk,aE] at hc;obtain⟨h1,h2,h3,h4⟩:=hc;obtain⟨f',rfl⟩:∃f',fuel=f'+1:=⟨fuel-1,by simp[Plan.len] at hf;omega⟩
 have hri:i∈Region.ready .any L.toArray listed:=by simpa using h3
 have hun:=(mem_ready.1 hri).1;have hOK:=hS ⟨i,by simpa using h1,hun⟩;obtain⟨v,hy1,hy2⟩:=hy fr0 a (hle.nk hk);have hLa:L.toArray[i]?=some o:=by simpa using hL
 refine V3 hLa hns (S:=SR fr0 b0 F0) (λown x y hx hr=>SR.rely hx (by rw[hle.sh] at hr;exact hr)) hP (λlisted j hd hl hj=>YC hd hl hj (by simpa using h1)) f' listed fr.own a w hd (Region.free_spec hLa h2) hri (by rw[hle.sh];exact hy1) ((SR.iff hle).2 hOK) ?_;exact h fr w0 _ _ w f' Q' hP hns h4 (hd.set hri) hQ (λ⟨j,hj,hjl⟩=>hS ⟨j,hj,getD_some hun j hjl⟩) (hle.kn hy2) hr ho wq72 fr0 hle
def WDo.y(hL:L[i]?=some ⟨some d,op,ty,pos,af,g⟩)(hy:YO P op ty e b0 F0 v)(hd:Nat.blt d n=true)(hg:gok L e g=some true)(h:WDo P n L hs b0 F0 r ((d,v)::e) bx F T) :
  WDo P n L hs b0 F0 (.held i r) e bx F T:=
 WDo.VY _ hL _ (λfr0 a hk=>⟨v,.inl ⟨Ja hk hg,λown w' ho'=>hy n {fr0 with own:=own} a w' _ rfl rfl hk ho'⟩,hk.put hd v⟩) h
def WDo.fy(hL:L[i]?=some ⟨some d,op,ty,pos,af,g⟩)(hy:YO P op ty e [] [] v)(hd':Nat.blt d n=true)(hg:gok L e g=some true)(h:WDo P n L hs b0 F0 r ((d,v)::e) bx F T):WDo P n L hs b0 F0 (.free i r) e bx F T:=λfr w0 listed a w fuel Q' hP hns hc hd hQ hS hk hr ho hf fr0 hle=>by
 simp only[chk,aE] at hc;obtain⟨h2,h3,h4⟩:=hc;obtain⟨f',rfl⟩:∃f',fuel=f'+1:=⟨fuel-1,by simp[Plan.len] at hf;omega⟩
 have hri:i∈Region.ready .any L.toArray listed:=by simpa using h3
 have hun:=(mem_ready.1 hri).1;have hLa:L.toArray[i]?=some ⟨some d,op,ty,pos,af,g⟩:=by simpa using hL
 have hy1:JF P fr.sh L.toArray (λ_ _=>True) ⟨some d,op,ty,pos,af,g⟩ v a:=.inl ⟨Ja hk hg,λown w' _=>by
  have:=hy n ⟨⟨true,λ_=>True,λ_ _ _ _ _ _=>False,λ_ _ _ _ _=>False,λ_=>False⟩,λ_=>False,λ_=>False,λ_=>none,fr.ds⟩ a w' ⟨some d,op,ty,pos,af,g⟩ rfl rfl hk ⟨⟨λ_ _ h=>(by cases h),λk h=>(by rcases h with h|h<;>exact h.elim),λk h=>h.elim⟩,by simp[ids],by simp[ids],by simp,by simp⟩;refine⟨this.1,λev hev=>?_⟩;rcases this.2 ev hev with ⟨ad,_,h5⟩|h5
  .exact h5.elim False.elim λh=>h.1.elim
  .rcases h5 with h5|⟨_,_,h5⟩
   .exact .inr (.inl h5)
   .exact h5.elim⟩
 refine Vz hLa hns hP f' listed fr.own a w hd (Region.free_spec hLa h2) hri hy1 ?_;exact h fr w0 _ _ w f' Q' hP hns h4 (hd.set hri) hQ (λ⟨j,hj,hjl⟩=>hS ⟨j,hj,getD_some hun j hjl⟩) (hk.put hd' v) hr ho wq72 fr0 hle
def WDo.l(hT:∀fr fr' w0 Q',fr.le fr'->T fr w0 Q'->T fr' w0 Q')(hL:L[i]?=some ⟨some d,op,ty,pos,af,g⟩)(hdn:Nat.blt d n=true)(hg:gok L e g=some true)
  (h:LO P op ty e bx F λv bx' F'=>(Q3 L hs i=true\/(b0.Sublist bx'/\∀f∈F0,f∈F'))/\WDo P n L hs b0 F0 r ((d,v)::e) bx' F' T):WDo P n L hs b0 F0 (.loud i r) e bx F T:=λfr w0 listed a w fuel Q' hP hns hc hd hQ hS hk hr ho hf fr0 hle=>by
 simp only[chk,aE,co] at hc;obtain⟨h1,hc⟩:=hc;obtain⟨f',rfl⟩:∃f',fuel=f'+1:=⟨fuel-1,by simp[Plan.len] at hf;omega⟩
 have hri:i∈Region.ready .any L.toArray listed:=by rw[h1];simp
 refine⟨λh0=>(by rw[h0] at h1;cases h1),λj hj=>?_⟩;rw[h1] at hj;simp at hj;subst hj;have hf:r.len<=f':=by simp[Plan.len] at hf;exact hf
 have hun:=(mem_ready.1 hri).1
 have hlate:Q3 L hs j=true->¬∃k∈hs,(listed.setIfInBounds j true).getD k true=false:=λhl ⟨k,hj,hjl⟩=>by
  have h1:=YC hd hl hri hj;have h2:=getD_some hun k hjl;cases hx:listed[k]? with
  |none=>simp[aB,hx] at h1
  |some b=>simp[aB,hx] at h1 h2;simp[h1] at h2
 unfold OpR;have hLa:L.toArray[j]?=some ⟨some d,op,ty,pos,af,g⟩:=by simpa using hL
 simp only[hLa];rw[ah (Ja hk hg)];intro w1 hw1;refine h n fr a w1 ⟨some d,op,ty,pos,af,g⟩ _ rfl rfl hk (ho.rely hw1) λfr' v w' bx' F' hfr hr' ho' hK=>?_;obtain⟨hl,h⟩:=hK
 have hOK:Q3 L hs j=false->OK fr' b0 F0 w':=λhf=>by
  rcases hl with hl|⟨h1,h2⟩
  .rw[hf] at hl;cases hl
  .exact(ho'.drop h1).less h2
 have hle':=hle.trans hfr;have:=h fr' w0 _ (a.put (some d) v) w' f' Q' (λown a x y hq hr=>hP own a x y hq (by rw[<-hfr.sh];exact hr)) hns hc (hd.set hri) (hT _ _ _ _ hfr hQ) (λhx=>?_) ((hfr.kn hk).put hdn v) ((hr.trans hw1.rest).trans hr') ho' hf fr0 hle'
 .rw[hfr.main,hfr.sh] at this;exact⟨λhf _=>(SR.iff hle').2 (hOK hf),this⟩
 .cases hb:Q3 L hs j with
  |true=>exact absurd hx (hlate hb)
  |false=>exact hOK hb
def WDo.odd(o:Oper)(hL:L[i]?=some o)(hl:Q3 L hs i=true)
  (h:∀fr w0 a w Q',T fr w0 Q'->Kn fr.ds n a e->Rest w0 w->OK fr bx F w->OpR P fr.main fr.sh L.toArray i (λ_ own' a' w'=>Q' own' .normal a' w') fr.own a w) :
  WDo P n L hs b0 F0 (.loud i .done) e bx F T:=λfr w0 listed a w fuel Q' hP hns hc hd hQ hS hk hr ho hf fr0 hle=>by
 simp only[chk,aE,co] at hc;obtain⟨h1,hc⟩:=hc;obtain⟨f',rfl⟩:∃f',fuel=f'+1:=⟨fuel-1,by simp[Plan.len] at hf;omega⟩
 refine⟨λh0=>(by rw[h0] at h1;cases h1),λj hj=>?_⟩;rw[h1] at hj;simp at hj;subst hj;refine(h fr w0 a w Q' hQ hk hr ho).mono λx own a w hq=>⟨λhf=>(by rw[hl] at hf;cases hf),?_⟩
 exact Ga (by simpa using hc) hq f'
def WDo.draw{id:Nat}(hs:List Nat)(p:Plan)(hm:P.follows .mixedOrders=true)(hc:(Region.noSelect L.toArray && (chk L hs p (Array.replicate L.length false) && Nat.ble p.len L.length))=true)
  (h:WDo P n L hs bx F p e bx F T) {fr:CF} {w0 w:nm} {a:Act} {Q:RQ} (hT:T fr w0 (λown e a w=>∃x,Rly own fr.sh x w/\Q own e a x)) (hk:Kn fr.ds n a e) (hr:Rest w0 w) (ho:OK fr bx F w) :
  wpR P fr.main fr.sh (.region id L.toArray true) Q fr.own a w:=by
 simp only[aE] at hc;refine Vj (Gj hm λw1 h1 t=>?_);have ho1:OK fr bx F {w1 with drawn:=w1.drawn+1}:=(ho.rely h1).drawn _;refine KY L.toArray.size t _ _ _ _ (S:=SR fr bx F) (late:=Q3 L hs) ?_;have:=h fr w0 (Array.replicate L.length false) a {w1 with drawn:=w1.drawn+1} L.length (λown e a w=>∃x,Rly own fr.sh x w/\Q own e a x) (λown a x y ⟨z,h2,h3⟩ h4=>⟨z,h2.trans h4,h3⟩) hc.1 (by simpa using hc.2.1) ?_ hT (λ_=>ho1) hk ((hr.trans h1.rest).trans (Rest.drawn w1 _)) ho1 (by simpa using bV hc.2.2) fr (.refl _)
 .simpa using this
 .intro j o _ hj;rw[aB,Array.getElem?_replicate] at hj;split at hj<;>simp at hj
end
end W
end
section
open Go.RowKit
open Go.Conc hiding base
open Go.ConcN
open Go.ConcR (KK WgAt stA smA rd wr mk Payload DC0)
namespace W
section
variable [Payload](P:nh)(ty:nl)(Wg Bx:Nat)
abbrev RWb:nm->nm->Prop:=RW ty Wg Bx 1 0 0
def AtDis(g:Goroutine)(w:nm):Prop:=∃g',stepG P false g w=.go g' w #[mk .disable]
def AtRel(g:Goroutine)(w:nm):Prop:=∃g',stepG P false g w=.go g' w #[mk (.releaseMerge (stA Wg))]/\∃m,Goes P false (RWb ty Wg Bx) DC0 (AtDis P) m g' w
end
section
variable [Payload]{P:nh}{ty:nl}{Wg Bx:Nat}{v0:nA}
def US:∀a b c,RWb ty Wg Bx a b->RWb ty Wg Bx b c->RWb ty Wg Bx a c:=λ_ _ _ h k=>h.trans k
def clash:∀(m n:Nat) (g:Goroutine) (w:nm),Goes P false (RWb ty Wg Bx) DC0 (AtDis P) m g w->Goes P false (RWb ty Wg Bx) (DWs Wg (λ_ _=>False) (λ_ _=>False) Bx 1 1) (AtR0 P ty Wg Bx 1 0 1 v0) n g w->False:=by
 have one:∀(n:Nat) (g:Goroutine) (w:nm),AtDis P g w->Goes P false (RWb ty Wg Bx) (DWs Wg (λ_ _=>False) (λ_ _=>False) Bx 1 1) (AtR0 P ty Wg Bx 1 0 1 v0) n g w->False:=λn g w ⟨g',h1⟩ h2=>by
  have stp:¬AtR0 P ty Wg Bx 1 0 1 v0 g w:=λ⟨_,_,g2,h3,_⟩=>by
   have:=h1.symm.trans h3;injection this with _ _ h4
   simp[mk] at h4
  cases n with
  |zero=>exact stp (h2 w (RW.refl w))
  |succ n=>
   rcases h2 with h2|⟨_,h2⟩
   .exact stp (h2 w (RW.refl w))
   .have:=h2 w (RW.refl w);rw[h1] at this;exact(this.1.2 (mk .disable) (by simp)).2.1 rfl
 intro m;induction m with
 |zero=>exact λn g w h1 h2=>one n g w (h1 w (RW.refl w)) h2
 |succ m ih=>
  intro n g w h1 h2;rcases h1 with h1|⟨_,h1⟩
  .exact one n g w (h1 w (RW.refl w)) h2
  .have h1:=h1 w (RW.refl w);cases hst:stepG P false g w with
   |go g' w' es=>
    rw[hst] at h1;obtain⟨⟨rfl,rfl⟩,h9⟩:=h1
    have stp:¬AtR0 P ty Wg Bx 1 0 1 v0 g w':=λ⟨_,_,g2,h3,_⟩=>by
     have:=hst.symm.trans h3;injection this with _ _ h4
     simp at h4
    cases n with
    |zero=>exact stp (h2 w' (RW.refl w'))
    |succ n=>
     rcases h2 with h2|⟨_,h2⟩
     .exact stp (h2 w' (RW.refl w'))
     .have:=h2 w' (RW.refl w');rw[hst] at this;exact ih n g' w' h9 this.2
   |_=>rw[hst] at h1;exact h1.elim
def merge_goes:∀(m n:Nat) (g:Goroutine) (w:nm),Goes P false (RWb ty Wg Bx) DC0 (AtRel P ty Wg Bx) m g w->Goes P false (RWb ty Wg Bx) (DWs Wg (λ_ _=>False) (λ_ _=>False) Bx 1 1) (AtR0 P ty Wg Bx 1 0 1 v0) n g w->Goes P false (RWb ty Wg Bx) DC0 (AtR0 P ty Wg Bx 1 0 1 v0) m g w:=by
 have one:∀(n:Nat) (g:Goroutine) (w:nm),AtRel P ty Wg Bx g w->Goes P false (RWb ty Wg Bx) (DWs Wg (λ_ _=>False) (λ_ _=>False) Bx 1 1) (AtR0 P ty Wg Bx 1 0 1 v0) n g w->AtR0 P ty Wg Bx 1 0 1 v0 g w:=λn g w ⟨g',h1,m,h3⟩ h2=>by
  cases n with
  |zero=>exact h2 w (RW.refl w)
  |succ n=>
   rcases h2 with h2|⟨_,h2⟩
   .exact h2 w (RW.refl w)
   .have:=h2 w (RW.refl w);rw[h1] at this;exact(clash m n g' w h3 this.2).elim
 intro m;induction m with
 |zero=>exact λn g w h1 h2 w1 hr=>one n g w1 (h1 w1 hr) (Goes.rely US h2 hr)
 |succ m ih=>
  intro n g w h1 h2;rcases h1 with h1|⟨hrun,h1⟩
  .exact .inl λw1 hr=>one n g w1 (h1 w1 hr) (Goes.rely US h2 hr)
  .refine .inr ⟨hrun,λw1 hr=>?_⟩;have h1:=h1 w1 hr;have h2:=Goes.rely US h2 hr;cases hst:stepG P false g w1 with
   |go g' w' es=>
    rw[hst] at h1;obtain⟨⟨rfl,rfl⟩,h9⟩:=h1;refine⟨⟨rfl,rfl⟩,?_⟩
    have stp:¬AtR0 P ty Wg Bx 1 0 1 v0 g w':=λ⟨_,_,g2,h3,_⟩=>by
     have:=hst.symm.trans h3;injection this with _ _ h4
     simp at h4
    cases n with
    |zero=>exact absurd (h2 w' (RW.refl w')) stp
    |succ n=>
     rcases h2 with h2|⟨_,h2⟩
     .exact absurd (h2 w' (RW.refl w')) stp
     .have:=h2 w' (RW.refl w');rw[hst] at this;exact ih n g' w' h9 this.2
   |_=>rw[hst] at h1;exact h1.elim
end
end W
end
namespace W
open Go.Conc Go.ConcN Go.RowKit Go.Conc.Lib Go.ConcR.Gen Go.ConcN.Gen
open Go.ConcR (KK WgAt stA smA rd wr mk Payload DC0)
section
variable [Payload]{L:WgLink}{Wg Bx:Nat}{v0:nA}
def wlw{w w₁:nm}(h:WgLive L.tWg Wg w)(r:RWb L.tWg Wg Bx w w₁):WgLive L.tWg Wg w₁:=r.live h
def done_own{P:nh}(H:WgLib P L){c:nu}{cs:List nu}(w:nm)(hF:WgLive L.tWg Wg w) :
  Goes P false (RWb L.tWg Wg Bx) DC0 (AtRel P L.tWg Wg Bx) 23 (Go.Conc.G ((Go.Conc.baseD L.done).at ⟨#[.pointer (some ⟨Wg,0,none⟩),undef,undef,undef],[]⟩ [.code (body_done L)]) (c::cs)) w:=by
 lib_facts
 simp only[body_done,body_add,doneFn,addFn,cu]
 u_reg wlw hF
 u_op wlw hF
 u_in wlw hF
 refine goes_call rfl rfl (by k_ne) rfl H.f_add (nm_add L) rfl ⟨by u_nil,?_⟩
 walk_nrmf addFn
 u_c stepG_seq wlw hF
 u_cond true wlw hF
 u_c stepG_seq wlw hF
 u_c stepG_seq wlw hF
 u_reg wlw hF
 u_op wlw hF
 u_op wlw hF
 u_c stepG_region_end wlw hF
 u_cond true wlw hF
 u_reg wlw hF
 u_op wlw hF
 u_conv H.underlying_tWgP H.room_tWg (WgLive.cell0 hF).choose_spec wlw hF
 refine Goes.stop (λw₁ h₁=>?_)
 replace hF:=wlw hF h₁
 clear h₁;refine⟨_,stepG_markAt .releaseMerge (by simp) rfl rfl (by k_ne) rfl H.f_relMerge (x_relMerge_n L) (x_relMerge_b L) (x_relMerge_x L) (x_relMerge_f L) (by simp[Act.eval,stA]),5,?_⟩
 walk_nrm
 u_c stepG_region_end wlw hF
 u_c stepG_seq wlw hF
 u_reg wlw hF
 refine Goes.stop (λw₂ h₂=>?_);exact⟨_,stepG_mark0 .disable (by simp) rfl rfl (by k_ne) rfl H.f_disable (x_disable_n L) (x_disable_b L) (x_disable_x L) (x_disable_f L)⟩
def done_goes{P:nh}(H:WgLib P L){c:nu}{cs:List nu}{qt:Nat}(hcm:c.mode=.returning)(hT:QuitsD P qt 0 (Go.Conc.G c cs))(w:nm)(hK:WgLive L.tWg Wg w/\ConcN.Has Bx 0 v0 w) :
  Goes P false (RWb L.tWg Wg Bx) Go.ConcR.DC0 (AtR0 P L.tWg Wg Bx 1 0 1 v0) 23 (Go.Conc.G ((Go.Conc.baseD L.done).at ⟨#[.pointer (some ⟨Wg,0,none⟩),undef,undef,undef],[]⟩ [.code (body_done L)]) (c::cs)) w:=
 merge_goes 23 23 _ w (done_own H w hK.1) (doneN (k:=1) H hcm hT w hK)
end
end W
section
open Go.RowKit
open Go.Conc hiding base G
open Go.ConcN
open Go.ConcR (KK WgAt stA smA rd wr mk Payload DC0)
namespace W
def RL(ty:nl)(Wg:Nat):nm->nm->Prop:=λ_ w1=>WgLive ty Wg w1
def DS(Wg:Nat):nm->nm->Array Event->Prop:=λw w' es=>w'=w/\Said Wg es
def ds_none{Wg:Nat}{w:nm}{es:Array Event}(h:∀e∈es,False):DS Wg w w es:=⟨rfl,λe he=>(h e he).elim⟩
def wl{ty:nl}{Wg:Nat}{w w₁:nm}(_:WgLive ty Wg w)(r:RL ty Wg w w₁):WgLive ty Wg w₁:=r
section
variable (P:nh)(ty:nl)(Wg:Nat)(End:Goroutine->nm->Prop)
def GKe(g:Goroutine)(w:nm):Prop:=g.status=.running/\∃g',stepG P true g w=.go g' w #[mk .enable]/\∃m,Goes P true (RL ty Wg) (DS Wg) End m g' w
def GA1(g:Goroutine)(w:nm):Prop:=g.status=.running/\∀v:Nat,v<2147483647->WgAt ty Wg w (v*KK) 0->
 ∃g',stepG P true g w=.go g' (w.setCell (stA Wg) (.int .u64 ((v+1)*KK))) #[rd (stA Wg),wr (stA Wg)]/\∃m,Goes P true (RL ty Wg) (DS Wg) (GKe P ty Wg End) m g' (w.setCell (stA Wg) (.int .u64 ((v+1)*KK)))
def GKd(g:Goroutine)(w:nm):Prop:=g.status=.running/\∃g',stepG P true g w=.go g' w #[mk .disable]/\∃m,Goes P true (RL ty Wg) (DS Wg) (GA1 P ty Wg End) m g' w
end
end W
end
namespace W
open Go.Conc Go.ConcN Go.RowKit Go.Conc.Lib Go.ConcR.Gen Go.ConcN.Gen
open Go.ConcR (KK WgAt stA smA rd wr mk Payload)
structure Bu(p:Prop):Prop where
 h:p
def GA(P:nh)(I:nm->Prop)(R:nm->nm->Prop)(D:nm->nm->Array Event->Prop)(End:Goroutine->nm->Prop)(m:Nat)(g:Goroutine):Prop:=∀w,I w->Goes P true R D End m g w
class KpR(I:nm->Prop)(R:nm->nm->Prop):Prop where
 k:∀{w w₁},I w->R w w₁->I w₁
class NoE(D:nm->nm->Array Event->Prop):Prop where
 n:∀{w es},(∀e∈es,False)->D w w es
section
variable {P:nh}{I:nm->Prop}{R:nm->nm->Prop}{D:nm->nm->Array Event->Prop}{End:Goroutine->nm->Prop}{m:Nat}{g g':Goroutine}
def dz[NoE D]{w:nm}:D w w #[]:=NoE.n λe he=>by simp at he
def GA.a{w:nm}(h:GA P I R D End m g)(hI:I w):Goes P true R D End m g w:=h w hI
def uI[KpR I R](hs:g.status=.running)(h:∀w,I w->(stepG P true g w).goes λg' w' es=>D w w' es/\Goes P true R D End m g' w'):GA P I R D End (m+1) g:=λ_ hF=>Goes.step hs λw1 h1=>h w1 (KpR.k hF h1)
def uS[KpR I R](h:∀w,I w->End g w):GA P I R D End m g:=λ_ hF=>Goes.stop λw1 h1=>h w1 (KpR.k hF h1)
def uC[KpR I R][NoE D](e:∀{w},stepG P true g w=.go g' w #[])(h:GA P I R D End m g')(hs:g.status=.running:=by exact rfl):GA P I R D End (m+1) g:=uI hs λw hF=>by rw[e];exact⟨dz,h w hF⟩
end
section
variable {P:nh}{I:nm->Prop}{R:nm->nm->Prop}{D:nm->nm->Array Event->Prop}{End:Goroutine->nm->Prop}{m:Nat}[KpR I R][NoE D]{b:nu}{a:Act}{k:List Item}{cs:List nu}
def uQ{x y:Code}:GA P I R D End m (G (b.at a (.code x::.code y::k)) cs)->GA P I R D End (m+1) (G (b.at a (.code (.seq x y)::k)) cs):=(uC stepG_seq ·)
def uE{o:Array Oper}:GA P I R D End m (G (b.at a k) cs)->GA P I R D End (m+1) (G (b.at a (.inRegion o []::k)) cs):=(uC stepG_region_end ·)
end
def uO{G G':Prop}(h:G')(s:Bu G'->G:=by
 intro h;refine uI rfl λw hF=>?_;refine goes_oper_k rfl rfl (by k_ne) (λK hK=>?_)
 go_simp
 refine hK _ _ ⟨NoE.n λe he=>?_,?_⟩
 .have hm:=mem_listed he;simp[go_sem, *] at hm
 clear hK K;try w_num
 exact GA.a (Bu.h h) hF):G:=s ⟨h⟩
def uR{G G':Prop}(h:G')(s:Bu G'->G:=by
 intro h;refine uI rfl λw hF=>?_;rw[stepG_region];simp only[goes_go,List.size_toArray,aK,bF,Nat.reduceAdd,aR,List.range,List.range.loop];exact⟨dz,GA.a (Bu.h h) hF⟩):G:=s ⟨h⟩
def uT{G G':Prop}(h:G')(s:Bu G'->G:=by
 intro h;refine uI rfl λw hF=>?_;rw[stepG_cond (t:=true) (by first|rfl|(simp[Act.eval];omega))];simp only[goes_go,dc];exact⟨dz,GA.a (Bu.h h) hF⟩):G:=s ⟨h⟩
def uF{G G':Prop}(h:G')(s:Bu G'->G:=by
 intro h;refine uI rfl λw hF=>?_;rw[stepG_cond (t:=false) (by first|rfl|(simp[Act.eval];omega))];simp only[goes_go,dX,cM,↓reduceIte];exact⟨dz,GA.a (Bu.h h) hF⟩):G:=s ⟨h⟩
def uK{G G':Prop}(h:G')(s:Bu G'->G:=by
 intro h;refine uI rfl λw hF=>?_;rw[stepG_unwanted rfl rfl];simp only[goes_go];refine⟨dz,?_⟩
 walk_nrm
 exact GA.a (Bu.h h) hF):G:=s ⟨h⟩
def uV{A B:nm->Prop}{I:nm->Prop}{G G':Prop}(c:∀w,I w->A w/\B w)(h:G')(s:(∀w,I w->A w/\B w)->Bu G'->G:=by
 intro c h;refine uI rfl λw hF=>?_;obtain⟨hcv,hce⟩:=c w hF;refine goes_oper_k rfl rfl (by k_ne) (λK hK=>?_)
 go_simp
 refine hK _ _ ⟨NoE.n λe he=>?_,?_⟩
 .have hm:=mem_listed he;simp[go_sem,hce] at hm
 clear hK K hcv hce;exact GA.a (Bu.h h) hF):G:=s c ⟨h⟩
instance {ty:nl}{Wg:Nat}:KpR (WgLive ty Wg) (RL ty Wg):=⟨λh r=>wl h r⟩
instance {Wg:Nat}:NoE (DS Wg):=⟨λh=>ds_none h⟩
section
variable [Payload]{L:WgLink}{Wg:Nat}{End:Goroutine->nm->Prop}{b₀:nu}{a₀:Act}{ops₀:Array Oper}{i₀:Nat}{rest₀:List Nat}{k₀:List Item}{cs:List nu}
def add_goes{P:nh}(H:WgLib P L)(hT:∀w,WgLive L.tWg Wg w->End (G (b₀.at (a₀.put ((ops₀[i₀]?).bind (·.dst)) (.tuple #[])) (.inRegion ops₀ rest₀::k₀)) cs) w)(w:nm)(hF:WgLive L.tWg Wg w) :
  Goes P true (RL L.tWg Wg) (DS Wg) (GKd P L.tWg Wg End) 12 (G ((Go.Conc.base L.add).at ⟨#[.pointer (some ⟨Wg,0,none⟩),.int .i64 1]++Array.replicate 115 undef,[]⟩ [.code (body_add L)]) (b₀.at a₀ (.inRegion ops₀ (i₀::rest₀)::k₀)::cs)) w:=by
 refine GA.a ?_ hF;clear hF w
 lib_facts
 simp only[body_add,addFn,cu]
 walk_nrm
 refine uQ ?_;refine uT ?_;refine uQ ?_;refine uQ ?_;refine uR ?_;iterate 2 refine uO ?_
 refine uE ?_;refine uF ?_;refine uC stepG_skip ?_;refine uQ ?_;refine uR ?_;refine uS λw hF=>?_;refine⟨rfl,_,stepG_mark0 .disable (by simp) rfl rfl (by k_ne) rfl H.f_disable (x_disable_n L) (x_disable_b L) (x_disable_x L) (x_disable_f L),40,?_⟩;refine GA.a ?_ hF;clear hF w
 walk_nrm
 refine uE ?_;refine uR ?_;refine uC (stepG_defer rfl rfl (by k_ne) rfl) ?_
 walk_nrm
 refine uE ?_;refine uQ ?_;refine uR ?_;refine uO ?_;refine uE ?_;refine uQ ?_;refine uQ ?_;refine uR ?_;refine uC (stepG_entry_pure (.bool false) rfl rfl (by k_ne) rfl H.f_inBubble (x_inBubble_n L) (x_inBubble_b L) (x_inBubble_x L) (x_inBubble_f L)) ?_
 walk_nrm
 refine uE ?_;refine uF ?_;refine uC stepG_skip ?_;refine uQ ?_;refine uR ?_;iterate 6 refine uO ?_
 refine uI rfl λw hF=>goes_call rfl rfl (by k_ne) rfl H.f_uAdd (nm_uAdd L) rfl ⟨dz,GA.a ?_ hF⟩
 walk_nrmf uAddFn
 refine uQ ?_;refine uR ?_;refine uO ?_;refine uE ?_;refine uQ ?_;refine uR ?_;iterate 4 refine uO ?_
 refine uS λw₂ hF=>?_;refine⟨rfl,λv hv hw=>?_⟩;rcases bT v with rfl|hvp
 .replace hw:WgAt L.tWg Wg w₂ 0 0:=by simpa using hw
  have z:(((0:Nat):Int)+1)*KK=KK:=by simp
  rw[z];have e0:IntKind.u64.wrap (0+4294967296)=KK:=qd;refine⟨_,(stepG_add_atomic rfl rfl (by k_ne) rfl H.f_addU64 (x_addU64_n L) (x_addU64_b L) (x_addU64_x L) .u64 (x_addU64_f L) rfl rfl hw.cellSt (hw.thaw 0)).trans (by rw[e0];rfl),110,?_⟩
  replace hF:WgLive L.tWg Wg (w₂.setCell (stA Wg) (.int .u64 KK)):=⟨_,_,hw.setSt _⟩
  clear hw;refine GA.a ?_ hF;clear hF w₂;simp only[KK] at ⊢
  walk_nrm
  refine uO ?_;refine uE ?_;refine uC stepG_ret' ?_;refine uI rfl λw hF=>goes_leave1 rfl rfl H.f_uAdd rfl ⟨dz,GA.a ?_ hF⟩
  walk_nrm
  refine uO ?_;refine uE ?_;refine uQ ?_;refine uQ ?_;refine uR ?_;iterate 4 refine uO ?_
  iterate 2 refine uK ?_
  refine uO ?_;refine uE ?_;refine uF ?_;refine uC stepG_skip ?_;refine uQ ?_;refine uR ?_;iterate 4 refine uO ?_
  refine uE ?_;refine uQ ?_;refine uR ?_;iterate 4 refine uO ?_
  refine uE ?_;refine uQ ?_;refine uQ ?_;refine uR ?_;iterate 10 refine uO ?_
  refine uE ?_;refine uT ?_;refine uR ?_;iterate 3 refine uO ?_
  refine uV (λw hF=>⟨run_convert_to_unsafe (P:=P) H.underlying_tPU32 H.underlying_tUP H.room_tU32 (WgLive.cell1 hF).choose_spec,λes=>events_convert_to_unsafe (P:=P) H.underlying_tPU32 H.underlying_tUP H.room_tU32 (WgLive.cell1 hF).choose_spec es⟩) ?_;refine uI rfl λw hF=>?_;rw[stepG_markAt .read (by simp) rfl rfl (by k_ne) rfl H.f_raceRead (x_raceRead_n L) (x_raceRead_b L) (x_raceRead_x L) (x_raceRead_f L) (ad:=⟨Wg,1,none⟩) (by simp[Act.eval])];simp only[goes_go];refine⟨⟨rfl,λe he=>?_⟩,?_⟩
  .rw[Array.mem_singleton] at he;subst he;exact .inl rfl
  refine GA.a ?_ hF;clear hF w
  walk_nrm
  refine uE ?_;refine uQ ?_;refine uQ ?_;refine uR ?_;iterate 2 refine uO ?_
  refine uE ?_;refine uF ?_;refine uC stepG_skip ?_;refine uQ ?_;refine uQ ?_;refine uR ?_;iterate 3 refine uO ?_
  iterate 2 refine uK ?_
  iterate 2 refine uO ?_
  iterate 4 refine uK ?_
  refine uO ?_;refine uE ?_;refine uF ?_;refine uC stepG_skip ?_;refine uQ ?_;refine uQ ?_;refine uR ?_;iterate 3 refine uO ?_
  iterate 2 refine uK ?_
  refine uO ?_;refine uE ?_;refine uT ?_;refine uC stepG_ret' ?_;refine uS λw₃ hF=>?_;refine⟨rfl,_,stepG_unwind_entry (v:=.tuple #[]) (evs:=#[mk .enable]) rfl H.f_enable (x_enable_n L) (x_enable_b L) (x_enable_x L) (x_enable_f L) (by simp[Extern.Race.none_]) (by simp[mk]) (by simp[mk]),1,?_⟩;refine GA.a ?_ hF;clear hF w₃;refine uI rfl λw hF=>goes_leave0 rfl rfl H.f_add rfl ⟨dz,GA.a ?_ hF⟩
  walk_nrm
  exact uS λw₄ h₄=>hT w₄ h₄
 .obtain⟨V,hV⟩:∃V:Int,V=(v:Int)+1:=⟨_,rfl⟩
  obtain⟨S,hS⟩:∃S:Int,S=V*KK:=⟨_,rfl⟩
  have eS:IntKind.u64.wrap ((v:Int)*KK+4294967296)=S:=by rw[IntKind.wrap_u64,hS,hV];simp only[KK];omega
  rw[<-hV,<-hS];have a1:S/4294967296=V:=by rw[hS];simp only[KK];omega
  have b1:bits .and .u64 S 2147483648=0:=by rw[hS,hV];have:=st_flag (v+1) 0 qo qo;simpa [KK] using this
  have b2:bits .and .u64 S 2147483647=0:=by rw[hS,hV];have:=st_waiters (v+1) 0 qo qo;simpa [KK] using this
  have c1:IntKind.i32.wrap V=V:=by rw[IntKind.wrap_i32];omega
  have hV1:1<V:=qo;have hV2:V<2147483648:=qo;have q1:(V == 1)=false:=by simp;omega
  have q2:decide (V=1)=false:=ak qo;have q3:decide (V<0)=false:=ak qo;have q4:decide (0<V)=true:=aq qo;have q5:(V == 0)=false:=by simp;omega
  have q6:decide (V=0)=false:=ak qo;refine⟨_,(stepG_add_atomic rfl rfl (by k_ne) rfl H.f_addU64 (x_addU64_n L) (x_addU64_b L) (x_addU64_x L) .u64 (x_addU64_f L) rfl rfl hw.cellSt (hw.thaw 0)).trans (by rw[eS];rfl),110,?_⟩
  replace hF:WgLive L.tWg Wg (w₂.setCell (stA Wg) (.int .u64 S)):=⟨_,_,hw.setSt _⟩
  clear hw hS hV eS;refine GA.a ?_ hF;clear hF w₂
  walk_nrm
  refine uO ?_;refine uE ?_;refine uC stepG_ret' ?_;refine uI rfl λw hF=>goes_leave1 rfl rfl H.f_uAdd rfl ⟨dz,GA.a ?_ hF⟩
  walk_nrm
  refine uO ?_;refine uE ?_;refine uQ ?_;refine uQ ?_;refine uR ?_;iterate 4 refine uO ?_
  iterate 2 refine uK ?_
  refine uO ?_;refine uE ?_;refine uF ?_;refine uC stepG_skip ?_;refine uQ ?_;refine uR ?_;iterate 4 refine uO ?_
  refine uE ?_;refine uQ ?_;refine uR ?_;iterate 4 refine uO ?_
  refine uE ?_;refine uQ ?_;refine uQ ?_;refine uR ?_;iterate 10 refine uO ?_
  refine uE ?_;refine uF ?_;refine uC stepG_skip ?_;refine uQ ?_;refine uQ ?_;refine uR ?_;iterate 2 refine uO ?_
  refine uE ?_;refine uF ?_;refine uC stepG_skip ?_;refine uQ ?_;refine uQ ?_;refine uR ?_;iterate 3 refine uO ?_
  iterate 2 refine uK ?_
  iterate 2 refine uO ?_
  iterate 4 refine uK ?_
  refine uO ?_;refine uE ?_;refine uF ?_;refine uC stepG_skip ?_;refine uQ ?_;refine uQ ?_;refine uR ?_;iterate 3 refine uO ?_
  iterate 2 refine uK ?_
  refine uO ?_;refine uE ?_;refine uT ?_;refine uC stepG_ret' ?_;refine uS λw₃ hF=>?_;refine⟨rfl,_,stepG_unwind_entry (v:=.tuple #[]) (evs:=#[mk .enable]) rfl H.f_enable (x_enable_n L) (x_enable_b L) (x_enable_x L) (x_enable_f L) (by simp[Extern.Race.none_]) (by simp[mk]) (by simp[mk]),1,?_⟩;refine GA.a ?_ hF;clear hF w₃;refine uI rfl λw hF=>goes_leave0 rfl rfl H.f_add rfl ⟨dz,GA.a ?_ hF⟩
  walk_nrm
  exact uS λw₄ h₄=>hT w₄ h₄
end
end W
end Go.Proofs.YtbnobghgnbockaaGreat
