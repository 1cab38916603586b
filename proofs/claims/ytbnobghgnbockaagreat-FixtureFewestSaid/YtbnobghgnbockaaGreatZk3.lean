/- Lemmas. Conditions: none. -/
import Derived.Test.YtbnobghgnbockaaGreatZk2
import Derived.Conc.EventLaws2
set_option linter.all false
set_option maxHeartbeats 0
set_option maxRecDepth 100000
namespace Go.Proofs.YtbnobghgnbockaaGreat
open Go.RowKit
namespace W
variable {P:nh}
def Has(F:nc)(f:Fct):Prop:=∀h,(∀g∈F,g.p h)->f.p h
def Has.mem{F:nc}{f:Fct}(h:f∈F):Has F f:=λ_ hf=>hf f h
def OK.has{fr:CF}{bx:nw}{F:nc}{w:nm}(h:OK fr bx F w){f:Fct}(hf:Has F f):f.p (imm fr bx w.heap):=hf _ h.facts
def OK.YQ{fr:CF}{bx:nw}{F F':nc}{w:nm}(h:OK fr bx F w)(hf:∀f∈F',Has F f):OK fr bx F' w:=⟨h.frame,h.apart,h.nodup,h.owns,λf hf'=>h.has (hf f hf')⟩
abbrev Post:=Exit->Env->nw->nc->Prop
def CF.at(fr:CF)(own:Bk):CF:={fr with own:=own}
def CF.le_at{fr:CF}{own:Bk}(h:∀k,fr.own k->own k):fr.le (fr.at own):=⟨rfl,rfl,rfl,rfl,h⟩
def OK.dsw{fr:CF}{bx:nw}{F:nc}{w:nm}(ds:List Deferred)(h:OK fr bx F w):OK {fr with ds:=ds} bx F w:=⟨h.frame,h.apart,h.nodup,h.owns,h.facts⟩
def CF.le.at{fr fr':CF}(h:fr.le fr'):fr.at fr'.own=fr':=h.eq
def post(fr:CF)(n:Nat)(w0:nm)(Q:Post)(own:Bk):Exit->Act->nm->Prop
 |.normal,a,w=>(∀k,fr.own k->own k)/\∃e bx F,Kn fr.ds n a e/\Rest w0 w/\OK (fr.at own) bx F w/\Q .normal e bx F
 |.exit id,a,w=>(∀k,fr.own k->own k)/\∃e bx F,Kn fr.ds n a e/\Rest w0 w/\OK (fr.at own) bx F w/\Q (.exit id) e bx F
 |.ret,a,w=>(∀k,fr.own k->own k)/\∃e bx F,Kn fr.ds n a e/\Rest w0 w/\OK (fr.at own) bx F w/\Q .ret e bx F
 |_,_,_=>False
def post.up{fr:CF}{n:Nat}{w0:nm}{Q:Post}{own own':Bk}{ex:Exit}{a:Act}{w:nm}(h:post (fr.at own) n w0 Q own' ex a w)(ho:∀k,fr.own k->own k):post fr n w0 Q own' ex a w:=by
 cases ex<;>first|exact h|exact⟨λk hk=>h.1 k (ho k hk),h.2⟩
def WC(P:nh)(n:Nat)(c:Code)(e:Env)(bx:nw)(F:nc)(Q:Post):Prop:=
 ∀fr w0 a w,Kn fr.ds n a e->Rest w0 w->OK fr bx F w->wpR P fr.main fr.sh c (post fr n w0 Q) fr.own a w
def XB(K:Env->nw->nc->Prop)(Q:Post):Post
 |.normal=>K
 |x=>Q x
def blockQ(id:Nat)(Q:Post):Post
 |.exit i=>bif Nat.beq i id then Q .normal else Q (.exit i)
 |x=>Q x
section
variable {n:Nat}{x y c:Code}{e e':Env}{bx bx':nw}{F F':nc}{Q:Post}{id:Nat}
def WC.seq(h:WC P n x e bx F (XB (λe bx F=>WC P n y e bx F Q) Q)):WC P n (.seq x y) e bx F Q:=λfr w0 a w hk hr ho=>by
 refine wpR_seq (XC (h fr w0 a w hk hr ho) λown ex a' w' hq=>?_);cases ex<;>first|exact hq|skip
 obtain⟨hw,e1,b1,F1,h1,h2,h3,h4⟩:=hq;exact XC (h4 (fr.at own) w0 a' w' h1 h2 h3) λ_ _ _ _ hp=>hp.up hw
def WC.skip(h:Q .normal e bx F):WC P n .skip e bx F Q:=λ_ _ _ _ hk hr ho=>wpR_skip ⟨λ_ h=>h,_,_,_,hk,hr,ho,h⟩
def WC.label{l:Nat}(h:Q .normal e bx F):WC P n (.label l) e bx F Q:=λ_ _ _ _ hk hr ho=>wpR_label ⟨λ_ h=>h,_,_,_,hk,hr,ho,h⟩
def WC.exit(h:Q (.exit id) e bx F):WC P n (.exit id) e bx F Q:=λ_ _ _ _ hk hr ho=>wpR_exit ⟨λ_ h=>h,_,_,_,hk,hr,ho,h⟩
def WC.ret(h:Q .ret e bx F):WC P n .ret e bx F Q:=λ_ _ _ _ hk hr ho=>wpR_ret ⟨λ_ h=>h,_,_,_,hk,hr,ho,h⟩
def WC.cond_t{o:ni}(hc:ev e o=some (.bool true))(h:WC P n x e bx F Q):WC P n (.cond o x y) e bx F Q:=λfr w0 a w hk hr ho=>
 wpR_cond (hk.eval hc) (h fr w0 a w hk hr ho)
def WC.cond_f{o:ni}(hc:ev e o=some nq)(h:WC P n y e bx F Q):WC P n (.cond o x y) e bx F Q:=λfr w0 a w hk hr ho=>
 wpR_cond (hk.eval hc) (h fr w0 a w hk hr ho)
def WC.block(h:WC P n c e bx F (blockQ id Q)):WC P n (.block id c) e bx F Q:=λfr w0 a w hk hr ho=>by
 refine wpR_block (XC (h fr w0 a w hk hr ho) λown ex a' w' hq=>?_);cases ex<;>first|exact hq|skip
 rename_i i
 obtain⟨hw,e1,b1,F1,h1,h2,h3,h4⟩:=hq;by_cases hi:i=id
 .subst hi;simp only[inBlockR,dc];exact⟨hw,e1,b1,F1,h1,h2,h3,by simpa [blockQ,Nat.beq_refl] using h4⟩
 .simp only[inBlockR,ae hi]
  have hb:Nat.beq i id=false:=by
   cases hb:Nat.beq i id
   .rfl
   .exact absurd (dW hb) hi
  exact⟨hw,e1,b1,F1,h1,h2,h3,by simpa [blockQ,hb] using h4⟩
def WC.mono{Q':Post}(h:WC P n c e bx F Q')(hq:∀x e b f,Q' x e b f->Q x e b f):WC P n c e bx F Q:=λfr w0 a w hk hr ho=>
 XC (h fr w0 a w hk hr ho) λown ex a' w' hp=>by
  cases ex<;>first|exact hp|(obtain⟨hw,e1,b1,F1,h1,h2,h3,h4⟩:=hp;exact⟨hw,e1,b1,F1,h1,h2,h3,hq _ _ _ _ h4⟩)
def WC.weak(hs:Sub e' e)(hb:bx'.Sublist bx)(hf:∀f∈F',Has F f)(h:WC P n c e' bx' F' Q):WC P n c e bx F Q:=λfr w0 a w hk hr ho=>
 h fr w0 a w (hk.sub hs) hr ((ho.drop hb).YQ hf)
def WC.region{L:List Oper}(h:WL P n L L e bx F (Q .normal)):WC P n (.region id L.toArray false) e bx F Q:=λfr w0 a w hk hr ho=>by
 refine wpR_region ?_;have:=h fr w0 a w (post fr n w0 Q) (λfr' a' w' e' bx' F' hf h1 h2 h3 h4=>⟨hf.own,e',bx',F',hf.nk h1,h2,by rw[hf.at];exact h3,h4⟩) hk hr ho 0 rfl;simpa using this
def Vj{main:Md}{sh:Bk}{c:Code}{Q:Bk->Exit->Act->nm->Prop}{own:Bk}{a:Act}{w:nm}(h:wpR P main sh c (λown e a w=>∃x,Rly own sh x w/\Q own e a x) own a w):wpR P main sh c Q own a w:=λb k cs Stop hk hc=>
 h b k cs Stop hk λown' ex a' w' ⟨x,hr,hq⟩=>(hc own' ex a' x hq).rely hr
def WC.draw{L:List Oper}(hs:List Nat)(p:Plan)(hm:P.follows .mixedOrders=true)(hc:(Region.noSelect L.toArray && (chk L hs p (Array.replicate L.length false) && Nat.ble p.len L.length))=true)
  (h:WD P n L hs bx F p e bx F (Q .normal)):WC P n (.region id L.toArray true) e bx F Q:=λfr w0 a w hk hr ho=>by
 simp only[aE] at hc;refine Vj (Gj hm λw1 h1 t=>?_);have ho1:OK fr bx F {w1 with drawn:=w1.drawn+1}:=(ho.rely h1).drawn _;refine KY L.toArray.size t _ _ _ _ (S:=SR fr bx F) (late:=Q3 L hs) ?_;have:=h fr w0 (Array.replicate L.length false) a {w1 with drawn:=w1.drawn+1} L.length (λown e a w=>∃x,Rly own fr.sh x w/\post fr n w0 Q own e a x) (λown a x y ⟨z,h2,h3⟩ h4=>⟨z,h2.trans h4,h3⟩) hc.1 (by simpa using hc.2.1) ?_ (λfr' a' w' e' bx' F' hf h1 h2 h3 h4=>⟨w',.refl _ _ _,hf.own,e',bx',F',hf.nk h1,h2,by rw[hf.at];exact h3,h4⟩) (λ_=>ho1) hk ((hr.trans h1.rest).trans (Rest.drawn w1 _)) ho1 (by simpa using bV hc.2.2) fr (.refl _)
 .simpa using this
 .intro j o _ hj;rw[aB,Array.getElem?_replicate] at hj;split at hj<;>simp at hj
def WC.loop{σ:Type}(E:σ->Env)(B:σ->nw)(G:σ->nc)(I:σ->Prop)(μ:σ->Nat)(s0:σ)
  (hI:I s0) (hE:Sub (E s0) e) (hB:(B s0).Sublist bx) (hG:∀f∈G s0,Has F f)
  (hround:∀s,I s->WC P n c (E s) (B s) (G s) (XB (λe' bx' F'=>∃s',(I s'/\μ s'<μ s)/\Sub (E s') e'/\(B s').Sublist bx'/\∀f∈G s',Has F' f) Q)):WC P n (.loop c) e bx F Q:=λfr w0 a w hk hr ho=>by
 refine wpR_loop (λs own a w=>I s/\(∀k,fr.own k->own k)/\Kn fr.ds n a (E s)/\Rest w0 w/\OK (fr.at own) (B s) (G s) w) μ s0 ⟨hI,λ_ h=>h,hk.sub hE,hr,(ho.drop hB).YQ hG⟩ λs own a w ⟨hs1,hw,hs2,hs3,hs4⟩=>?_;refine XC (hround s hs1 (fr.at own) w0 a w hs2 hs3 hs4) λown' ex a' w' hq=>?_;cases ex with
 |normal=>
  obtain⟨hw',e1,b1,F1,h1,h2,h3,s',⟨h4,h5⟩,h6,h7,h8⟩:=hq;exact⟨s',h5,h4,λk hk=>hw' k (hw k hk),h1.sub h6,h2,(h3.drop h7).YQ h8⟩
 |exit id=>exact hq.up hw
 |ret=>exact hq.up hw
 |goto l=>exact hq
 |panic ch=>exact hq
 |outgrown=>exact hq
end
def ge(h0:PH):Fct:=⟨λh=>PH.le h0 h,λ_ _ hl h=>h.trans hl⟩
def KL(P:nh)(f:np):Prop:=∃fn,P.funcs[f]?=some fn/\(fn.name == "runtime.NumGoroutine")=false/\fn.body.isNone=false
abbrev Qd:=nA->nw->nc->Prop
def PostB(fr:CF)(bx:nw)(w:nm)(R:Qd)(own:Bk)(v:nA)(w':nm):Prop:=
 (∀k,fr.own k->own k)/\∃bx' F',R v bx' F'/\Rest w w'/\(imm fr bx w.heap).le (imm (fr.at own) bx' w'.heap)/\OK (fr.at own) bx' F' w'
def FnB(P:nh)(f:np)(args:ne)(bx:nw)(F:nc)(R:Qd):Prop:=
 KL P f/\∀fr w,OK fr bx F w->ZJ P fr.main fr.sh f args.toArray fr.own w (PostB fr bx w R)
def FnB.mono{f:np}{args:ne}{bx:nw}{F:nc}{R R':Qd}(h:FnB P f args bx F R)(hr:∀v b g,R v b g->R' v b g):FnB P f args bx F R':=
 ⟨h.1,λfr w ho=>(h.2 fr w ho).mono λ_ _ _ ⟨h0,b,g,h2,h3⟩=>⟨h0,b,g,hr _ _ _ h2,h3⟩⟩
def parEnv:Nat->ne->Env
 |_,[]=>[]
 |k,v::r=>(k,v)::parEnv (k+1) r
def ZC(l:ne):∀k i v,look (parEnv k l) i=some v->k<=i/\l[i-k]?=some v:=by
 induction l with
 |nil=>intro k i v h;simp[parEnv,look] at h
 |cons u r ih=>
  intro k i v h;rw[parEnv,Y4] at h;by_cases hk:k=i
  .subst hk;simp at h;subst h;simp
  .rw[ae hk] at h;obtain⟨h1,h2⟩:=ih _ _ _ h;refine⟨by omega,?_⟩;rw[show i-k=(i-(k+1))+1 from by omega,List.getElem?_cons_succ];exact h2
def Qf(P:nh)(fn:Func)(e:Env)(bx:nw)(F:nc)(v:nA):Prop:=
 ∀n fr a w,Kn fr.ds n a e->OK fr bx F w->(results fn a.tmps).run P w=.ok v w/\∀ev∈(results fn a.tmps).events P w #[],Yk fr.own fr.sh ev
def Fin(P:nh)(fn:Func)(h0:PH)(R:Qd):Env->nw->nc->Prop:=λe bx F=>
 ∃v bx' F',Qf P fn e bx F v/\bx'.Sublist bx/\(∀f∈F',Has F f)/\ge h0∈F/\R v bx' F'
def retQ(P:nh)(fn:Func)(h0:PH)(R:Qd):Post
 |.normal=>Fin P fn h0 R
 |.ret=>Fin P fn h0 R
 |_=>λ_ _ _=>False
def fn_of{f:np}{fn:Func}{c:Code}{args:ne}{bx:nw}{F:nc}{R:Qd}(e0:Env)(n:Nat)(hf:P.funcs[f]?=some fn)(hb:fn.body=some c)(hn:fn.ntmps=n)
  (hname:(fn.name == "runtime.NumGoroutine")=false) (hargs:Nat.ble args.length n=true) (he:Sub e0 (parEnv 0 args))
  (h:∀h0,WC P n c e0 bx (ge h0::F) (retQ P fn h0 R)):FnB P f args bx F R:=by
 refine⟨⟨fn,hf,hname,by rw[hb];rfl⟩,λfr w ho=>⟨fn,c,hf,hname,hb,?_⟩⟩;have hargs':args.length<=n:=bV hargs
 have hk:Kn [] n {tmps:=args.toArray++Array.replicate (fn.ntmps-args.toArray.size) undef,defers:=[]} e0:=by
  refine Kn.sub (e:=parEnv 0 args) ⟨by simp[hn];omega,rfl,λk v hk=>?_⟩ he;obtain⟨_,h2⟩:=ZC _ _ _ _ hk;simp at h2;rw[Array.getElem?_append_left (by simpa using (List.getElem?_eq_some_iff.1 h2).1)];simpa using h2
 have ho':OK {fr with ds:=[]} bx F w:=ho.dsw [];refine DR (XC (h (imm fr bx w.heap) {fr with ds:=[]} w _ w hk (Rest.refl w) (ho'.add (f:=ge _) (PH.le.refl _))) λown ex a' w' hq=>?_)
 have fin:∀e b G,(∀k,fr.own k->own k)->Kn [] n a' e->Rest w w'->OK (CF.at {fr with ds:=[]} own) b G w'->Fin P fn (imm fr bx w.heap) R e b G->bodyR P fr.sh fn (PostB fr bx w R) own .ret a' w':=by
  rintro e b G h0 h1 h2 h3 ⟨v,bx',F',h4,h5,h6,h7,h8⟩;refine⟨[],h1.defers,List.nodup_nil,λD h=>by simp at h,v,λw1 hw1=>?_⟩;have h3:=h3.rely hw1.rly;have hd:=h3.drop h5;exact⟨(h4 n (CF.at {fr with ds:=[]} own) a' w1 h1 h3).1,(h4 n (CF.at {fr with ds:=[]} own) a' w1 h1 h3).2,h0,bx',F',h8,h2.trans hw1.rest,hd.facts _ h7,⟨hd.frame,hd.apart,hd.nodup,hd.owns,λf hf=>hd.has (h6 f hf)⟩⟩
 cases ex<;>simp only[post] at hq
 .obtain⟨h0,e,b,G,h1,h2,h3,h4⟩:=hq;exact fin e b G h0 h1 h2 h3 h4
 .obtain⟨h0,e,b,G,h1,h2,h3,h4⟩:=hq;exact h4.elim
 .obtain⟨h0,e,b,G,h1,h2,h3,h4⟩:=hq;exact fin e b G h0 h1 h2 h3 h4
def Qf.t1{fn:Func}{e:Env}{bx:nw}{F:nc}{v:nA}{t:Tmp}(h:fn.results=#[.tmp t])(hl:look e t=some v):Qf P fn e bx F v:=λn fr a w hk _=>
 ⟨by rw[results_tmp h,aB,hk.at' _ _ hl];rfl,by simp[results,h]⟩
def Qf.t0{fn:Func}{e:Env}{bx:nw}{F:nc}(h:fn.results=#[]):Qf P fn e bx F (.tuple #[]):=λn fr a w _ _=>⟨results_none h _ _ _,by simp[results,h]⟩
def Qf.t2{fn:Func}{e:Env}{bx:nw}{F:nc}{v u:nA}{t s:Tmp}(h:fn.results=#[.tmp t,.tmp s])(hl:look e t=some v)(hl2:look e s=some u):Qf P fn e bx F (.tuple #[v,u]):=λn fr a w hk _=>
 ⟨by rw[results_tmp2 h,aB,hk.at' _ _ hl,aB,hk.at' _ _ hl2];rfl,by simp[results,h]⟩
inductive Evs(e:Env):List ni->ne->Prop where
 |nil:Evs e [] []
 |cons {x:ni} {v:nA} {xs:List ni} {vs:ne}:ev e x=some v->Evs e xs vs->Evs e (x::xs) (v::vs)
def Evs.map{e:Env}{ds:List Deferred}{n:Nat}{a:Act}(hk:Kn ds n a e){xs:List ni}{vs:ne}(h:Evs e xs vs):xs.map a.eval=vs:=by
 induction h with
 |nil=>rfl
 |cons h1 _ ih=>rw[eu,hk.eval h1,ih]
def GM{fr:CF}{bx:nw}{F:nc}{w:nm}(h:OK fr bx F w)(ba br:nw)(hp:bx.Perm (ba++br)) :
  ∃fr':CF,fr'.main=fr.main/\fr'.sh=fr.sh/\fr'.own=fr.own/\OK fr' ba F w/\(imm fr' ba w.heap).le (imm fr bx w.heap)/\
   ∀own bx' F' w',(∀k,fr.own k->own k)->Rest w w'->(imm fr' ba w.heap).le (imm (fr'.at own) bx' w'.heap)->OK (fr'.at own) bx' F' w'->OK (fr.at own) (bx'++br) (F'++F) w':=by
 have h:=h.perm hp;have hap:=h.apart;have hnd:=h.nodup;simp only[ids,aS] at hap hnd;have hlt:∀k∈ids br,k<w.heap.size:=λk hk=>by obtain⟨b,hb,hkb⟩:=JN.1 hk;exact Ow.lt (h.owns b (by simp[hb])) k hkb
 let fr':CF:={fr with fr:=λk=>if k∈ids br then w.heap[k]? else fr.fr k}
 have hfr':∀k,(fr'.fr k).isSome=((fr.fr k).isSome ||(ids br).contains k):=λk=>by
  simp only[fr'];by_cases hk:k∈ids br
  .rw[ah hk];simp[hk,hlt k hk]
  .rw[ae hk];simp[hk]
 have himm:∀own ba' (H:Array Obj),imm (fr'.at own) ba' H=imm (fr.at own) (ba'++br) H:=λown ba' H=>by
  unfold imm;refine congrArg (PH.mk fr.main) (funext λk=>?_);rw[show(fr'.at own).fr k=fr'.fr k from rfl,hfr',show(fr.at own).fr k=fr.fr k from rfl];have:(ids (ba'++br)).contains k=((ids ba').contains k ||(ids br).contains k):=by rw[Bool.eq_iff_iff];simp[ids]
  rw[this];have h2:(fr'.at own).see H k=(fr.at own).see H k:=rfl;rw[h2];cases(fr.fr k).isSome<;>cases(ids br).contains k<;>cases(ids ba').contains k<;>rfl
 have himm0:∀ba' (H:Array Obj),imm fr' ba' H=imm fr (ba'++br) H:=λba' H=>himm fr.own ba' H;refine⟨fr',rfl,rfl,rfl,⟨⟨?_,h.frame.2⟩,?_,?_,λb hb=>h.owns b (by simp[hb]),?_⟩,?_,?_⟩
 .intro k o hk;simp only[fr'] at hk;split at hk
  .rename_i hb
   exact⟨(hap k (List.mem_append.2 (.inr hb))).1,hk⟩
  .exact h.frame.1 k o hk
 .intro k hk;refine⟨(hap k (List.mem_append.2 (.inl hk))).1,?_⟩;simp only[fr'];rw[ae (show k∉ids br from λh2=>(List.nodup_append.1 hnd).2.2 k hk k h2 rfl)];exact(hap k (List.mem_append.2 (.inl hk))).2
 .exact(List.nodup_append.1 hnd).1
 .intro f hf;rw[himm0];exact h.facts f hf
 .rw[himm0];exact F8 λk hk=>(hp.flatMap_right Ow.ids).mem_iff.1 hk
 .intro own bx' F' w' hw hr hle ho
  have hapn:∀k∈ids bx',own k/\fr.fr k=none/\k∉ids br:=λk hk=>by
   have:=ho.apart k hk;refine⟨this.1,?_⟩;have h2:fr'.fr k=none:=this.2;simp only[fr'] at h2;by_cases hkr:k∈ids br
   .rw[ah hkr] at h2;have:=hlt k hkr
    simp_all
   .rw[ae hkr] at h2;exact⟨h2,hkr⟩
  have hfo:∀k o,fr'.fr k=some o->w'.heap[k]?=some o:=λk o hk=>(ho.frame.1 k o hk).2;refine⟨⟨λk o hk=>⟨hw k (h.frame.1 k o hk).1,hfo k o ?_⟩,ho.frame.2⟩,λk hk=>?_,?_,λb hb=>?_,λf hf=>?_⟩
  .simp only[fr'];rw[ae (λh2=>by have:=(hap k (List.mem_append.2 (.inr h2))).2;rw[show fr.fr k=some o from hk] at this;cases this)];exact hk
  .simp only[ids,aS,bS] at hk;rcases hk with hk|hk
   .exact⟨(hapn k hk).1,(hapn k hk).2.1⟩
   .have:=hap k (List.mem_append.2 (.inr hk));exact⟨hw k this.1,this.2⟩
  .simp only[ids,aS];exact List.nodup_append.2 ⟨ho.nodup,(List.nodup_append.1 hnd).2.1,λk h1 k' h2 he=>(hapn k h1).2.2 (he ▸ h2)⟩
  .rcases List.mem_append.1 hb with hb|hb
   .exact ho.owns b hb
   .refine Ow.Xk (h.owns b (by simp[hb])) λk hk=>?_;have hkb:k∈ids br:=JN.2 ⟨b,hb,hk⟩;have hlk:=hlt k hkb;have hs:w.heap[k]?=some w.heap[k]:=Array.getElem?_eq_getElem hlk;rw[hs];exact hfo k _ (by simp only[fr'];rw[ah hkb];exact hs)
  .rw[<-himm];rcases List.mem_append.1 hf with hf|hf
   .exact ho.facts f hf
   .exact f.mono _ _ hle (by rw[himm0];exact h.facts f hf)
def KP{f:np}{args:Array ni}{ats:Array nl}{o:Oper}{a:Act}{w:nm}{x:ni}{first cap:Array nA}
  (hc:KL P f) (hop:o.op=.call {callee:=.value x,args:=args,argTypes:=ats}) (hx:a.eval x=.func (.func f) first cap) {vs:ne} (hv:(first++args.map a.eval)++cap=vs.toArray) :
  (execOp a.eval o).run P w=.ok (.enter f vs.toArray) w/\(execOp a.eval o).events P w #[]=#[]:=by
 obtain⟨fn,h1,h2,h3⟩:=hc;have h2':¬fn.name= "runtime.NumGoroutine":=by simpa using h2
 have h3':¬fn.body=none:=by cases hb:fn.body<;>simp_all
 constructor
 .simp[execOp,hop,resolve,hx,Deferred.ofValue,invoke,callFunc,hv,program,Sem.run,h1,h2',h3']
 .unfold execOp;simp[hop,resolve,hx,Deferred.ofValue,invoke,callFunc,hv,h1,h2',h3']
def LO.call{f:np}{x:ni}{args:List ni}{ats:Array nl}{ty:nl}{e:Env}{bx:nw}{F:nc}{K:Qd}{first cap:ne}
  (hx:ev e x=some (.func (.func f) first.toArray cap.toArray)) {vs:ne} (hv:Evs e args vs) (ba br:nw) (hp:bx.Perm (ba++br)) {F':nc} {R:Qd} (hf:FnB P f (first++vs++cap) ba F' R)
  (hF:∀g∈F',Has F g) (hK:∀v b G,R v b G->K v (b++br) (G++F)):LO P (.call {callee:=.value x,args:=args.toArray,argTypes:=ats}) ty e bx F K:=λn fr a w o K' hop _ hk ho hnext=>by
 obtain⟨fr',e1,e2,e3,h1,h2,h3⟩:=GM ho ba br hp;have hr:=KP (w:=w) hf.1 hop (hk.eval hx) (vs:=first++vs++cap) (by rw[<-hv.map hk];simp);rw[hr.1];refine .inl ⟨.look (by rw[hr.2];simp),?_⟩;rw[QW (ai _)];have h1':OK fr' ba F' w:=⟨h1.frame,h1.apart,h1.nodup,h1.owns,λg hg=>h1.has (hF g hg)⟩
 have hc:=hf.2 fr' w h1';rw[e1,e2,e3] at hc;refine hc.mono λown v w' hp'=>?_;obtain⟨hw,b,G,hR,hr',hle,hok⟩:=hp';rw[e3] at hw;exact hnext (fr.at own) v w' _ _ (CF.le_at hw) hr' (h3 own b G w' hw hr' hle hok) (hK v b G hR)
end W
namespace W
variable {P:nh}{e:Env}{bx:nw}{F:nc}{ty:nl}
def YO.of{op:Op}{v:nA}(h:∀n fr a w (o:Oper),o.op=op->Kn fr.ds n a e->OK fr bx F w->(execOp a.eval o).run P w=.ok (.value v) w/\(execOp a.eval o).events P w #[]=#[]):YO P op ty e bx F v:=
 λn fr a w o h1 _ h3 h4=>⟨(h n fr a w o h1 h3 h4).1,by rw[(h n fr a w o h1 h3 h4).2];simp⟩
def YO.move{x:ni}{v:nA}(hx:ev e x=some v):YO P (.move x) ty e bx F v:=.of λn fr a w o hop hk _=>by constructor<;>simp[execOp,hop,hk.eval hx]
def YO.assign{x:ni}{v:nA}(hx:ev e x=some v):YO P (.assign x) ty e bx F v:=.of λn fr a w o hop hk _=>by constructor<;>simp[execOp,hop,hk.eval hx]
def YO.pick_t{c x y:ni}{v:nA}(hc:ev e c=some (.bool true))(hx:ev e x=some v):YO P (.pick c x y) ty e bx F v:=
 .of λn fr a w o hop hk _=>by constructor<;>simp[execOp,hop,hk.eval hx,hk.eval hc,asBool]
def YO.pick_f{c x y:ni}{v:nA}(hc:ev e c=some nq)(hy:ev e y=some v):YO P (.pick c x y) ty e bx F v:=
 .of λn fr a w o hop hk _=>by constructor<;>simp[execOp,hop,hk.eval hy,hk.eval hc,asBool]
def ev_int{op:BinOp}{t:nl}{k k':IntKind}{i j:Int}(w:nm)(es:Array Event):(binOp op t (.int k i) (.int k' j)).events P w es=es:=by
 cases op<;>simp[binOp,Op.intArith,Op.intDiv,Op.intBits,Op.intCmp,Op.shift]<;>(try (intros;simp[runtimePanic,goPanic]))
def YO.ii{op:BinOp}{t t':nl}{x y:ni}{k:IntKind}{i j:Int}{v:nA}(hx:ev e x=some (.int k i))(hy:ev e y=some (.int k j))
  (hr:∀w,(binOp op t (.int k i) (.int k j)).run P w=.ok v w):YO P (.binOp op t x y t') ty e bx F v:=
 .of λn fr a w o hop hk _=>by
  have he:∀w,(eqGuard op t x y (.int k i) (.int k j)).run P w=.ok () w:=λw=>by
   unfold eqGuard;cases op<;>simp[Sem.run_pure]
  have he2:∀w es,(eqGuard op t x y (.int k i) (.int k j)).events P w es=es:=λw es=>by
   unfold eqGuard;cases op<;>simp
  constructor<;>simp[execOp,hop,hk.eval hx,hk.eval hy,he,hr,he2,ev_int]
def run_add{t:nl}{k:IntKind}{i j:Int}(w:nm):(binOp .add t (.int k i) (.int k j)).run P w=.ok (.int k (k.wrap (i+j))) w:=by simp[binOp,Op.intArith]
def run_sub{t:nl}{k:IntKind}{i j:Int}(w:nm):(binOp .sub t (.int k i) (.int k j)).run P w=.ok (.int k (k.wrap (i-j))) w:=by simp[binOp,Op.intArith]
def run_mul{t:nl}{k:IntKind}{i j:Int}(w:nm):(binOp .mul t (.int k i) (.int k j)).run P w=.ok (.int k (k.wrap (i*j))) w:=by simp[binOp,Op.intArith]
def wrap_i64{n:Int}(h:-9223372036854775808<=n)(h2:n<=9223372036854775807):IntKind.i64.wrap n=n:=by
 exact IntWalk.i64_in _ ⟨by omega,by omega⟩
def wrap_u64{n:Int}(h:0<=n)(h2:n<=18446744073709551615):IntKind.u64.wrap n=n:=by
 simp only[IntKind.wrap,IntKind.bits,IntKind.signed,Bool.false_and];simp;omega
section arith
variable {t t':nl}{x y:ni}{i j:Int}
def YO.add(hx:ev e x=some (nj i))(hy:ev e y=some (nj j))(h1:-9223372036854775808<=i+j)(h2:i+j<=9223372036854775807):YO P (.binOp .add t x y t') ty e bx F (nj (i+j)):=
 YO.ii hx hy λw=>by rw[run_add,wrap_i64 h1 h2]
def YO.inc{k m:Nat}(hx:ev e x=some (nj k))(hy:ev e y=some (nj m))(h2:k+m<=9223372036854775807):YO P (.binOp .add t x y t') ty e bx F (nj ((k+m:Nat):Int)):=
 YO.ii hx hy λw=>by rw[run_add,wrap_i64 qo qo];simp
def YO.sub(hx:ev e x=some (nj i))(hy:ev e y=some (nj j))(h1:-9223372036854775808<=i-j)(h2:i-j<=9223372036854775807):YO P (.binOp .sub t x y t') ty e bx F (nj (i-j)):=
 YO.ii hx hy λw=>by rw[run_sub,wrap_i64 h1 h2]
def YO.mul(hx:ev e x=some (nj i))(hy:ev e y=some (nj j))(h1:-9223372036854775808<=i*j)(h2:i*j<=9223372036854775807):YO P (.binOp .mul t x y t') ty e bx F (nj (i*j)):=
 YO.ii hx hy λw=>by rw[run_mul,wrap_i64 h1 h2]
def YO.quo(hx:ev e x=some (nj i))(hy:ev e y=some (nj j))(h1:0<=i)(h2:0<j)(h3:i<=9223372036854775807):YO P (.binOp .quo t x y t') ty e bx F (nj (i/j)):=
 YO.ii hx hy λw=>by
  have hj:¬j=0:=qo;have h4:i.tdiv j=i/j:=dB h1;have h5:i/j<=i:=eN _ h1;have h6:0<=i/j:=cg h1 qo;simp[binOp,Op.intDiv,hj,h4,wrap_i64 (show -9223372036854775808<=i/j by omega) qo]
def YO.rem(hx:ev e x=some (nj i))(hy:ev e y=some (nj j))(h1:0<=i)(h2:0<j):YO P (.binOp .rem t x y t') ty e bx F (nj (i%j)):=
 YO.ii hx hy λw=>by
  have hj:¬j=0:=qo;have h4:i.tmod j=i%j:=dy h1;simp[binOp,Op.intDiv,hj,h4]
def YO.tquo(hx:ev e x=some (nj i))(hy:ev e y=some (nj j))(h2:j≠0):YO P (.binOp .quo t x y t') ty e bx F (nj (IntKind.i64.wrap (i.tdiv j))):=
 YO.ii hx hy λw=>by simp[binOp,Op.intDiv,h2]
def YO.trem(hx:ev e x=some (nj i))(hy:ev e y=some (nj j))(h2:j≠0):YO P (.binOp .rem t x y t') ty e bx F (nj (i.tmod j)):=
 YO.ii hx hy λw=>by simp[binOp,Op.intDiv,h2]
def YO.cmp{op:BinOp}{k:IntKind}{b:Bool}(hx:ev e x=some (.int k i))(hy:ev e y=some (.int k j))
  (h:(op=.lss/\b=decide (i<j))\/(op=.leq/\b=decide (i<=j))\/(op=.gtr/\b=decide (i > j))\/(op=.geq/\b=decide (i>=j))\/(op=.eql/\b=(i == j))\/(op=.neq/\b=(i != j))):YO P (.binOp op t x y t') ty e bx F (.bool b):=
 YO.ii hx hy λw=>by rcases h with ⟨rfl,rfl⟩|⟨rfl,rfl⟩|⟨rfl,rfl⟩|⟨rfl,rfl⟩|⟨rfl,rfl⟩|⟨rfl,rfl⟩<;>simp[binOp,Op.intCmp]
variable {k:IntKind}
def YO.lss_t(hx:ev e x=some (.int k i))(hy:ev e y=some (.int k j))(h:i<j):YO P (.binOp .lss t x y t') ty e bx F (.bool true):=YO.cmp hx hy (by simp[h])
def YO.lss_f(hx:ev e x=some (.int k i))(hy:ev e y=some (.int k j))(h:j<=i):YO P (.binOp .lss t x y t') ty e bx F nq:=YO.cmp hx hy (by simp;omega)
def YO.leq_t(hx:ev e x=some (.int k i))(hy:ev e y=some (.int k j))(h:i<=j):YO P (.binOp .leq t x y t') ty e bx F (.bool true):=YO.cmp hx hy (by simp[h])
def YO.leq_f(hx:ev e x=some (.int k i))(hy:ev e y=some (.int k j))(h:j<i):YO P (.binOp .leq t x y t') ty e bx F nq:=YO.cmp hx hy (by simp;omega)
def YO.gtr_t(hx:ev e x=some (.int k i))(hy:ev e y=some (.int k j))(h:j<i):YO P (.binOp .gtr t x y t') ty e bx F (.bool true):=YO.cmp hx hy (by simp[h])
def YO.gtr_f(hx:ev e x=some (.int k i))(hy:ev e y=some (.int k j))(h:i<=j):YO P (.binOp .gtr t x y t') ty e bx F nq:=YO.cmp hx hy (by simp;omega)
def YO.geq_t(hx:ev e x=some (.int k i))(hy:ev e y=some (.int k j))(h:j<=i):YO P (.binOp .geq t x y t') ty e bx F (.bool true):=YO.cmp hx hy (by simp[h])
def YO.geq_f(hx:ev e x=some (.int k i))(hy:ev e y=some (.int k j))(h:i<j):YO P (.binOp .geq t x y t') ty e bx F nq:=YO.cmp hx hy (by simp;omega)
def YO.eql_t(hx:ev e x=some (.int k i))(hy:ev e y=some (.int k j))(h:i=j):YO P (.binOp .eql t x y t') ty e bx F (.bool true):=YO.cmp hx hy (by simp[h])
def YO.eql_f(hx:ev e x=some (.int k i))(hy:ev e y=some (.int k j))(h:i≠j):YO P (.binOp .eql t x y t') ty e bx F nq:=YO.cmp hx hy (by simp[h])
def YO.neq_t(hx:ev e x=some (.int k i))(hy:ev e y=some (.int k j))(h:i≠j):YO P (.binOp .neq t x y t') ty e bx F (.bool true):=YO.cmp hx hy (by simp[h])
def YO.neq_f(hx:ev e x=some (.int k i))(hy:ev e y=some (.int k j))(h:i=j):YO P (.binOp .neq t x y t') ty e bx F nq:=YO.cmp hx hy (by simp[h])
def YO.neg(hx:ev e x=some (nj i))(h1:-9223372036854775808<=-i)(h2:-i<=9223372036854775807):YO P (.unOp .neg t x) ty e bx F (nj (-i)):=
 .of λn fr a w o hop hk _=>by constructor<;>simp[execOp,hop,hk.eval hx,Op.unary,Op.intArith,wrap_i64 h1 h2]
def YO.not{b:Bool}(hx:ev e x=some (.bool b)):YO P (.unOp .not t x) ty e bx F (.bool !b):=
 .of λn fr a w o hop hk _=>by constructor<;>simp[execOp,hop,hk.eval hx,Op.unary]
def YO.not_t(hx:ev e x=some (.bool true)):YO P (.unOp .not t x) ty e bx F nq:=YO.not hx
def YO.not_f(hx:ev e x=some nq):YO P (.unOp .not t x) ty e bx F (.bool true):=YO.not hx
def YO.bits{op:BinOp}{v:nA}(hx:ev e x=some (.int k i))(hy:ev e y=some (.int k j))(h:∀w,(binOp op t (.int k i) (.int k j)).run P w=.ok v w):YO P (.binOp op t x y t') ty e bx F v:=YO.ii hx hy h
def YO.shl{k':IntKind}(hx:ev e x=some (.int k i))(hy:ev e y=some (.int k' j))(h:0<=j):YO P (.binOp .shl t x y t') ty e bx F (.int k (k.wrap (i*2^(min j.toNat k.bits)))):=
 .of λn fr a w o hop hk _=>by
  have he:∀w,(eqGuard .shl t x y (.int k i) (.int k' j)).run P w=.ok () w:=λw=>by unfold eqGuard;simp[Sem.run_pure]
  have he2:∀w es,(eqGuard .shl t x y (.int k i) (.int k' j)).events P w es=es:=λw es=>by unfold eqGuard;simp
  constructor<;>simp[execOp,hop,hk.eval hx,hk.eval hy,he,he2,binOp,Op.shift,show ¬j<0 by omega]
def YO.shr{k':IntKind}(hx:ev e x=some (.int k i))(hy:ev e y=some (.int k' j))(h:0<=j):YO P (.binOp .shr t x y t') ty e bx F (.int k (i.fdiv (2^(min j.toNat k.bits)))):=
 .of λn fr a w o hop hk _=>by
  have he:∀w,(eqGuard .shr t x y (.int k i) (.int k' j)).run P w=.ok () w:=λw=>by unfold eqGuard;simp[Sem.run_pure]
  have he2:∀w es,(eqGuard .shr t x y (.int k i) (.int k' j)).events P w es=es:=λw es=>by unfold eqGuard;simp
  constructor<;>simp[execOp,hop,hk.eval hx,hk.eval hy,he,he2,binOp,Op.shift,show ¬j<0 by omega]
end arith
def YO.conv{s d:nl}{x:ni}{k k':IntKind}{i:Int}(hd:P.underlying d=some (.int k')){ds:TypeDesc}(hs:P.underlying s=some ds)(hx:ev e x=some (.int k i)):YO P (.convert s d x) ty e bx F (.int k' (k'.wrap i)):=
 .of λn fr a w o hop hk _=>by
  refine⟨by simp only[execOp,hop,hk.eval hx,convert,Sem.run_bind,run_underlying hs,run_underlying hd,Result.andThen_ok,Conv.intToInt,Sem.run_pure],?_⟩;simp[execOp,hop,hk.eval hx,convert,run_underlying hs,run_underlying hd,Conv.intToInt]
def YO.nil{x:ni}{p:Addr}(hx:ev e x=some (.pointer (some p))):YO P (.nilCheck x) ty e bx F (.pointer (some p)):=
 .of λn fr a w o hop hk _=>by constructor<;>simp[execOp,hop,hk.eval hx]
def YO.extract{x:ni}{vs:ne}{v:nA}{i:Nat}(hx:ev e x=some (.tuple vs.toArray))(hi:vs[i]?=some v):YO P (.extract x i) ty e bx F v:=
 .of λn fr a w o hop hk _=>by constructor<;>simp[execOp,hop,hk.eval hx,Instr.extract,hi]
def YO.makeFunc{fn:Fn}{first cap:List ni}{vs us:ne}(h1:Evs e first vs)(h2:Evs e cap us):YO P (.makeFunc fn first.toArray cap.toArray) ty e bx F (.func fn vs.toArray us.toArray):=
 .of λn fr a w o hop hk _=>by constructor<;>simp[execOp,hop,<-h1.map hk,<-h2.map hk,Instr.makeFunc]
def Qj(P:nh)(s:nl)(i off:Nat):Prop:=∃fs f,P.underlying s=some (.struct fs)/\fs[i]?=some f/\f.offset=off/\∃ti,P.info? f.type=some ti/\ti.size≠0/\P.cellsOf f.type≠0
def Vb{s i off:Nat}(hf:Qj P s i off)(p:Addr)(hp:p.spot=none)(w:nm):(Instr.fieldAt s (.pointer (some p)) i).run P w=.ok (.pointer (some ⟨p.block,p.off+off,none⟩)) w:=by
 obtain⟨fs,f,h1,h2,h3,ti,h4,h5,h6⟩:=hf;obtain⟨b,o,sp⟩:=p;simp only at hp;subst hp;simp[Instr.fieldAt,run_underlying h1,h2,Instr.sureAddr,fieldPlace,run_sizeOf w h4,h5,h6,h3,Addr.add_lit]
def Hu{s i off:Nat}(hf:Qj P s i off)(p:Addr)(hp:p.spot=none)(w:nm)(es:Array Event):(Instr.fieldAt s (.pointer (some p)) i).events P w es=es:=by
 obtain⟨fs,f,h1,h2,h3,ti,h4,h5,h6⟩:=hf;obtain⟨b,o,sp⟩:=p;simp only at hp;subst hp;simp[Instr.fieldAt,run_underlying h1,h2,Instr.sureAddr,fieldPlace,run_sizeOf w h4,h5,h6,h3,Addr.add_lit]
def YO.fieldAddr{s i off:Nat}{x:ni}{b q:Nat}(hf:Qj P s i off)(hx:ev e x=some (.pointer (some ⟨b,q,none⟩))):YO P (.fieldAddr s x i) ty e bx F (.pointer (some ⟨b,q+off,none⟩)):=
 .of λn fr a w o hop hk _=>by constructor<;>simp[execOp,hop,hk.eval hx,Vb hf ⟨b,q,none⟩ rfl w,Hu hf ⟨b,q,none⟩ rfl w]
def eaddr:nA->Nat->Addr
 |.slice (some a) _ _,j=>⟨a.block,a.off+j,none⟩
 |_,j=>⟨0,j,none⟩
def XP(v:nA)(j:Nat):(eaddr v j).spot=none:=by unfold eaddr;split<;>rfl
def UM(v:nA)(j k:Nat):(⟨(eaddr v j).block,(eaddr v j).off+k,none⟩:Addr)=eaddr v (j+k):=by unfold eaddr;split<;>simp[er]
def YO.Q8{s i off:Nat}{x:ni}{v:nA}{j:Nat}(hf:Qj P s i off)(hx:ev e x=some (.pointer (some (eaddr v j)))):YO P (.fieldAddr s x i) ty e bx F (.pointer (some (eaddr v (j+off)))):=
 .of λn fr a w o hop hk _=>by constructor<;>simp[execOp,hop,hk.eval hx,Vb hf _ (XP v j) w,Hu hf _ (XP v j) w,UM]
def slC(v:nA)(n sz:Nat)(f:ng):Fct where
 p h:=∃a cap,v=.slice a n cap/\n<=cap/\cap<=maxLen/\((a=none/\n=0/\cap=0)\/∃b off,a=some ⟨b,off,none⟩/\∃c t fz,h b=some (.cells c t fz)/\∀j,j<n*sz->c[off+j]?=some (f j))
 mono h h' hl:=by
  rintro⟨a,cap,h1,h2,h3,h4|⟨b,off,h4,c,t,fz,h5,h6⟩⟩
  .exact⟨a,cap,h1,h2,h3,.inl h4⟩
  .exact⟨a,cap,h1,h2,h3,.inr ⟨b,off,h4,c,t,fz,hl _ _ h5,h6⟩⟩
structure IsSl(v:nA)(n:Nat):Prop where
 is:∃a cap,v=.slice a n cap/\n<=cap/\cap<=maxLen/\((a=none/\n=0/\cap=0)\/∃b off,a=some ⟨b,off,none⟩)
def slC_is{v:nA}{n sz:Nat}{f:ng}{h:PH}(hp:(slC v n sz f).p h):IsSl v n:=by
 obtain⟨a,cap,h1,h2,h3,h4|⟨b,off,h4,_⟩⟩:=hp
 .exact⟨a,cap,h1,h2,h3,.inl h4⟩
 .exact⟨a,cap,h1,h2,h3,.inr ⟨b,off,h4⟩⟩
def KnS(bx:nw)(F:nc)(v:nA)(n:Nat):Prop:=∀fr w,OK fr bx F w->IsSl v n
def KnS.of{f:Fct}{v:nA}{n:Nat}(h:Has F f)(hf:∀h,f.p h->IsSl v n):KnS bx F v n:=λ_ _ ho=>hf _ (ho.has h)
def Qh(P:nh)(t el sz:Nat):Prop:=P.underlying t=some (.slice el)/\∃i,P.info? el=some i/\i.size=sz
def YO.len{t el sz n:Nat}{x:ni}{v:nA}(ht:Qh P t el sz)(hx:ev e x=some v)(hv:KnS bx F v n):YO P (.call {callee:=.builtin .len,args:=#[x],argTypes:=#[t]}) ty e bx F (nj n):=
 .of λm fr a w o hop hk ho=>by
  obtain⟨a',cap,rfl,h2,h3,_⟩:=(hv fr w ho).is;have:IntKind.i64.wrap (n:Int)=n:=wrap_i64 qo (by unfold maxLen at h3;omega);constructor<;>simp[execOp,hop,resolve,hk.eval hx,invoke,builtin,Builtin.len_,run_underlying ht.1,goInt,this]
def YO.ix{t el sz n:Nat}{x y:ni}{v:nA}{k:Nat}(ht:Qh P t el sz)(hx:ev e x=some v)(hy:ev e y=some (nj k))(hv:KnS bx F v n)(hk':k<n) :
  YO P (.indexAddr t x y) ty e bx F (.pointer (some (eaddr v (k*sz)))):=
 .of λm fr a w o hop hk ho=>by
  obtain⟨hu,i,hi,hsz⟩:=ht;obtain⟨a',cap,rfl,h2,h3,⟨rfl,h4,_⟩|⟨b,off,rfl⟩⟩:=(hv fr w ho).is
  .omega
  .have hz:(0:Int)<=(k:Int)/\(k:Int)<(n:Int):=qo;have hc:P.cellsOf el=sz:=by simp[Program.cellsOf,hi,hsz]
   constructor<;>simp[execOp,hop,hk.eval hx,hk.eval hy,Instr.indexAt,asIntOf,run_underlying hu,hz,run_sizeOf w hi,hsz,eaddr,Addr.add_lit,hk',hc]
def YO.ixA{t el sz len:Nat}{x y:ni}{b q k:Nat}(hu:P.underlying t=some (.array len el)){i:TypeInfo}(hi:P.info? el=some i)(hs:i.size=sz)(hx:ev e x=some (.pointer (some ⟨b,q,none⟩)))(hy:ev e y=some (nj k))(hk':k<len) :
  YO P (.indexAddr t x y) ty e bx F (.pointer (some ⟨b,q+k*sz,none⟩)):=
 .of λm fr a w o hop hk ho=>by
  have hz:(0:Int)<=(k:Int)/\(k:Int)<(len:Int):=qo;have hc:P.cellsOf el=sz:=by simp[Program.cellsOf,hi,hs]
  constructor<;>simp[execOp,hop,hk.eval hx,hk.eval hy,Instr.indexAt,asIntOf,run_underlying hu,Instr.sureAddr,hz,run_sizeOf w hi,hs,Addr.add_lit,hk',hc]
def Qk(P:nh)(t:nl):Prop:=∃d,P.underlying t=some d/\d.isRow=false
def run_ld{t:nl}{w:nm}{b o:Nat}{v:nA}(hs:Qk P t)(hc:w.cell? ⟨b,o,none⟩=some v):(loadVar t ⟨b,o,none⟩).run P w=.ok v w:=by
 obtain⟨d,hu,hd⟩:=hs
 have:(isAgg t).run P w=.ok false w:=by
  cases d<;>simp[TypeDesc.isRow] at hd<;>simp[isAgg,run_underlying hu]
 simp[loadVar,this,hc]
def Dw{b o:Nat}{v:nA}{fr:CF}{w:nm}(hc:∀fr w,OK fr bx F w->w.cell? ⟨b,o,none⟩=some v)(ho:OK fr bx F w):fr.own b\/fr.sh b:=aD λhx=>by
 have hr:Rly fr.own fr.sh w {w with heap:=w.heap.setIfInBounds b (.number ⟨0,0,none⟩ false)}:=⟨⟨rfl,rfl,rfl⟩,by simp,λk hk hm=>by
  have:b≠k:=λh=>hx (h ▸ hm);simp[Array.getElem?_setIfInBounds,this]⟩
 have h1:=hc fr _ (ho.rely hr);simp only[World.cell?,Array.getElem?_setIfInBounds] at h1;by_cases hb:b<w.heap.size
 .simp[hb] at h1
 .have h2:=hc fr w ho;simp[World.cell?,hb] at h2
def Reads(fr:CF)(es:Array Event):Prop:=∀ev∈es,ev.sync=false/\ev.write=false/\∃a,ev.loc=.cell a/\(fr.own a.block\/fr.sh a.block)
def Reads.ok{fr:CF}{es:Array Event}(h:Reads fr es):∀ev∈es,Yk fr.own fr.sh ev:=λev he=>by
 obtain⟨_,h2,a,h3,h4⟩:=h ev he;exact .inl ⟨a,h3,h4.imp id λx=>⟨x,h2⟩⟩
def Reads.none(fr:CF):Reads fr #[]:=λev he=>by simp at he
def Reads.push{fr:CF}{es:Array Event}{a:Addr}(h:Reads fr es)(ha:fr.own a.block\/fr.sh a.block):Reads fr (es.push ⟨.cell a,false,false⟩):=λev he=>by
 rcases Array.mem_push.1 he with he|rfl
 .exact h ev he
 .exact⟨rfl,rfl,a,rfl,ha⟩
def ev_ld{t:nl}{w:nm}{b o:Nat}{v:nA}(hs:Qk P t)(hc:w.cell? ⟨b,o,none⟩=some v)(es:Array Event):(loadVar t ⟨b,o,none⟩).events P w es=es.push ⟨.cell ⟨b,o,none⟩,false,false⟩:=by
 obtain⟨d,hu,hd⟩:=hs
 have:(isAgg t).run P w=.ok false w:=by
  cases d<;>simp[TypeDesc.isRow] at hd<;>simp[isAgg,run_underlying hu]
 have h2:∀es,(isAgg t).events P w es=es:=λes=>by
  cases d<;>simp[TypeDesc.isRow] at hd<;>simp[isAgg,run_underlying hu]
 simp[loadVar,this,h2,hc];rfl
def YO.ld{t:nl}{x:ni}{p:Addr}{v:nA}(hs:Qk P t)(hx:ev e x=some (.pointer (some p)))(hp:p.spot=none)(hc:∀fr w,OK fr bx F w->w.cell? ⟨p.block,p.off,none⟩=some v):YO P (.load t x) ty e bx F v:=
 λm fr a w o hop _ hk ho=>by
  have hm:=Dw hc ho;obtain⟨b,q,sp⟩:=p;simp only at hp;subst hp;have hev:(execOp a.eval o).events P w #[]=#[⟨.cell ⟨b,q,none⟩,false,false⟩]:=by simp[execOp,hop,hk.eval hx,Instr.loadAt,Instr.sureAddr,ev_ld hs (hc fr w ho)]
  refine⟨by simp[execOp,hop,hk.eval hx,Instr.loadAt,Instr.sureAddr,run_ld hs (hc fr w ho)],?_⟩;rw[hev];exact((Reads.none fr).push (a:=⟨b,q,none⟩) hm).ok
def Us{w:nm}{fr:CF}{v:nA}{n sz:Nat}{f:ng}(h:(slC v n sz f).p (imm fr bx w.heap)){j:Nat}(hj:j<n*sz):w.cell? ⟨(eaddr v j).block,(eaddr v j).off,none⟩=some (f j):=by
 obtain⟨a,cap,rfl,h2,h3,⟨rfl,h4,_⟩|⟨b,off,rfl,c,t,fz,h5,h6⟩⟩:=h
 .subst h4;simp at hj
 .simp[eaddr,World.cell?,JA h5,h6 j hj]
def YO.ldS{t:nl}{x:ni}{v:nA}{j n sz:Nat}{f:ng}(hs:Qk P t)(hx:ev e x=some (.pointer (some (eaddr v j))))(hf:Has F (slC v n sz f))(hj:j<n*sz):YO P (.load t x) ty e bx F (f j):=
 YO.ld hs hx (XP _ _) λfr w ho=>Us (ho.has hf) hj
def JV{w:nm}{g:Nat}{t:nl}{cs:ne}(h:(Ow.cells g t cs).holds w.heap){q:Nat}:w.cell? ⟨g,q,none⟩=cs[q]?:=by
 simp only[Ow.holds] at h;simp[World.cell?,h]
def YO.ldB{t tg:nl}{x:ni}{g q:Nat}{cs:ne}{v:nA}(hs:Qk P t)(hx:ev e x=some (.pointer (some ⟨g,q,none⟩)))(hb:Ow.cells g tg cs∈bx)(hv:cs[q]?=some v):YO P (.load t x) ty e bx F v:=
 YO.ld hs hx rfl λfr w ho=>by rw[JV (ho.owns _ hb)];exact hv
def YK{w:nm}{v:nA}{el sz:Nat}{cs:ne}(h:(Ow.slice v el sz cs).holds w.heap){j:Nat}{u:nA}(hu:cs[j]?=some u):w.cell? ⟨(eaddr v j).block,(eaddr v j).off,none⟩=some u:=by
 obtain⟨n,h1,⟨rfl,h2⟩|⟨g,cap,sp,rfl,h3,h4,h5,h6⟩⟩:=h
 .subst h2;simp at h1;subst h1;simp at hu
 .have hj:j<cs.length:=(List.getElem?_eq_some_iff.1 hu).1;simp only[eaddr,World.cell?,h5,aR];simp[List.getElem?_append_left hj,hu]
def YO.ldO{t el sz:nl}{x:ni}{v:nA}{j:Nat}{cs:ne}{u:nA}(hs:Qk P t)(hx:ev e x=some (.pointer (some (eaddr v j))))(hb:Ow.slice v el sz cs∈bx)(hu:cs[j]?=some u):YO P (.load t x) ty e bx F u:=
 YO.ld hs hx (XP _ _) λfr w ho=>YK (ho.owns _ hb) hu
def Row(P:nh)(t:nl)(m:Nat):Prop:=(∃d,P.underlying t=some d/\d.isRow=true)/\(P.info? t).map (·.size)=some m
def Hy{fr:CF}{w:nm}{b q:Nat}{cs:ne}(hm:∀i,i<cs.length->fr.own b\/fr.sh b)(hc:∀i v,cs[i]?=some v->w.cell? ⟨b,q+i,none⟩=some v):∀(n i:Nat) (acc:Array nA) (es:Array Event),i+n<=cs.length->Reads fr es->Reads fr ((loadCellsFrom ⟨b,q,none⟩ i n acc).events P w es)
 |0,_,_,_,_,h=>by simpa [loadCellsFrom] using h
 |n+1,i,acc,es,hn,h=>by
  have h1:w.cell? (Addr.add ⟨b,q,none⟩ i)=some cs[i]:=by rw[Addr.add_lit];exact hc i _ (List.getElem?_eq_getElem qo)
  have h2:(load (Addr.add ⟨b,q,none⟩ i)).run P w=.ok cs[i] w:=by simp[h1]
  have h3:(load (Addr.add ⟨b,q,none⟩ i)).events P w es=es.push ⟨.cell (Addr.add ⟨b,q,none⟩ i),false,false⟩:=by simp[h1];rfl
  simp only[loadCellsFrom,Sem.events_bind,h2,Result.evThen_ok,h3];refine Hy hm hc n (i+1) _ _ qo (h.push ?_);rw[Addr.add_lit];exact hm i qo
def KU{fr:CF}{w:nm}{t:nl}{b q:Nat}{cs:ne}{es:Array Event}(hs:Row P t cs.length)(hm:∀i,i<cs.length->fr.own b\/fr.sh b)(hc:∀i v,cs[i]?=some v->w.cell? ⟨b,q+i,none⟩=some v)(h:Reads fr es):Reads fr ((loadVar t ⟨b,q,none⟩).events P w es):=by
 obtain⟨⟨d,hu,hd⟩,hi⟩:=hs
 obtain⟨ti,hti,hsz⟩:∃ti,P.info? t=some ti/\ti.size=cs.length:=by
  cases hq:P.info? t with
  |none=>rw[hq] at hi;cases hi
  |some ti=>rw[hq] at hi;exact⟨ti,rfl,by simpa using hi⟩
 have h1:(isAgg t).run P w=.ok true w:=by
  cases d<;>simp[TypeDesc.isRow] at hd<;>simp[isAgg,run_underlying hu]
 have h2:∀es,(isAgg t).events P w es=es:=λes=>by
  cases d<;>simp[TypeDesc.isRow] at hd<;>simp[isAgg,run_underlying hu]
 have h3:∀es,(sizeOf t).events P w es=es:=λes=>by simp[sizeOf,typeInfo,hti]
 have hco:P.cellsOf t=cs.length:=by simp[Program.cellsOf,hti,hsz]
 have hev:(loadVar t ⟨b,q,none⟩).events P w es=(loadCells ⟨b,q,none⟩ cs.length).events P w es:=by
  simp[loadVar,h1,h2,h3,run_sizeOf w hti,hsz,hco]
 rw[hev];exact Hy (fr:=fr) hm hc cs.length 0 #[] es qo h
def YO.ldRow{t:nl}{x:ni}{p:Addr}{cs:ne}(hs:Row P t cs.length)(hx:ev e x=some (.pointer (some p)))(hp:p.spot=none)(hc:∀fr w,OK fr bx F w->∀i v,cs[i]?=some v->w.cell? ⟨p.block,p.off+i,none⟩=some v):YO P (.load t x) ty e bx F (.agg cs.toArray):=
 λm fr a w o hop _ hk ho=>by
  obtain⟨b,q,sp⟩:=p;simp only at hp;subst hp;have hm:∀i,i<cs.length->fr.own b\/fr.sh b:=λi hi=>Dw (b:=b) (o:=q+i) (v:=cs[i]) (λfr w ho=>hc fr w ho i _ (List.getElem?_eq_getElem hi)) ho;have hr:=KU (es:=#[]) hs hm (hc fr w ho) (Reads.none fr);obtain⟨⟨d,hu,hd⟩,hi⟩:=hs;have:=run_loadVar_mid (P:=P) w b q t cs d (λi v hv=>hc fr w ho i v hv) hu hd hi;refine⟨by simp[execOp,hop,hk.eval hx,Instr.loadAt,Instr.sureAddr,this],?_⟩
  have hev:(execOp a.eval o).events P w #[]=(loadVar t ⟨b,q,none⟩).events P w #[]:=by
   simp[execOp,hop,hk.eval hx,Instr.loadAt,Instr.sureAddr,this]
  rw[hev];exact hr.ok
def YO.ldRB{t tg:nl}{x:ni}{g q m:Nat}{cs us:ne}(hs:Row P t m)(hx:ev e x=some (.pointer (some ⟨g,q,none⟩)))(hb:Ow.cells g tg cs∈bx)(hm:us.length=m)(hu:(cs.drop q).take m=us):YO P (.load t x) ty e bx F (.agg us.toArray):=
 YO.ldRow (by rw[hm];exact hs) hx rfl λfr w ho i v hv=>by
  rw[JV (ho.owns _ hb)];subst hu;rw[List.getElem?_take] at hv;split at hv
  .simpa using hv
  .cases hv
def YO.ldRS{t:nl}{x:ni}{v:nA}{j n sz m:Nat}{f:ng}{us:ne}(hs:Row P t m)(hx:ev e x=some (.pointer (some (eaddr v j))))(hf:Has F (slC v n sz f))(hj:j+m<=n*sz)(hm:us.length=m)(hu:∀i,i<m->us[i]?=some (f (j+i))):YO P (.load t x) ty e bx F (.agg us.toArray):=
 YO.ldRow (by rw[hm];exact hs) hx (XP _ _) λfr w ho i u hv=>by
  have hi:i<m:=by rw[<-hm];exact(List.getElem?_eq_some_iff.1 hv).1
  rw[hu i hi] at hv;cases hv;have:=Us (ho.has hf) (show j+i<n*sz by omega);rw[<-UM] at this;exact this
end W
end Go.Proofs.YtbnobghgnbockaaGreat
