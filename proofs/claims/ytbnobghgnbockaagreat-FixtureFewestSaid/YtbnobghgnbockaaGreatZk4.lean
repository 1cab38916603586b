/- Lemmas. Conditions: none. -/
import Derived.Test.YtbnobghgnbockaaGreatZk3
import Derived.Conc.AppendWalk
set_option linter.all false
set_option maxHeartbeats 0
set_option maxRecDepth 100000
namespace Go.Proofs.YtbnobghgnbockaaGreat
open Go.RowKit
namespace W
variable {P:nh}{e:Env}{bx:nw}{F:nc}{ty:nl}
def LO.of{op:Op}{K:Qd}(h:∀n fr a w (o:Oper),o.op=op->Kn fr.ds n a e->OK fr bx F w->
  ∃v w' bx' F',((execOp a.eval o).run P w=.ok (.value v) w'\/((execOp a.eval o).run P w=.ok .skip w'/\v=undef))/\(Rest w w'/\w.heap.size<=w'.heap.size/\(∀k,k<w.heap.size->¬fr.own k->w'.heap[k]?=w.heap[k]?)/\
   ∀ev∈(execOp a.eval o).events P w #[],Yk (grow fr.own w w') fr.sh ev)/\OK (fr.grow w w') bx' F' w'/\K v bx' F'):LO P op ty e bx F K:=
 λn fr a w o K' h1 _ h3 h4 h5=>by
  obtain⟨v,w',bx',F',hr,⟨h6,h9,h10,h11⟩,h7,h8⟩:=h n fr a w o h1 h3 h4;rcases hr with hr|⟨hr,rfl⟩
  .rw[hr];exact .inl ⟨⟨h6,h9,h10,h11⟩,h5 (fr.grow w w') v w' bx' F' (CF.Dj _ _ _) h6 h7 h8⟩
  .rw[hr];exact .inl ⟨⟨h6,h9,h10,h11⟩,h5 (fr.grow w w') undef w' bx' F' (CF.Dj _ _ _) h6 h7 h8⟩
def K4{es:Array Event}{own sh:Bk}(h:es=#[]):∀ev∈es,Yk own sh ev:=by rw[h];simp
def size_alloc(w:nm)(o:Obj):w.heap.size<=(w.alloc o).heap.size:=by show w.heap.size<=(w.heap.push o).size;simp
def KV{fr:CF}{w:nm}(o:Obj){es:Array Event}(h:es=#[]):Rest w (w.alloc o)/\w.heap.size<=(w.alloc o).heap.size/\(∀k,k<w.heap.size->¬fr.own k->(w.alloc o).heap[k]?=w.heap[k]?)/\∀ev∈es,Yk (grow fr.own w (w.alloc o)) fr.sh ev:=
 ⟨⟨rfl,rfl,rfl⟩,size_alloc w o,λk hk _=>heap_alloc_old w o hk,K4 h⟩
def OK.alloc{fr:CF}{w:nm}(h:OK fr bx F w)(nb:Ow)(o:Obj)(hn:nb.ids=[w.heap.size])(ho:nb.holds (w.alloc o).heap):OK (fr.grow w (w.alloc o)) (nb::bx) F (w.alloc o):=by
 have:=OK.step (ob:=[]) (nb:=[nb]) (w':=w.alloc o) (by simpa using h) (size_alloc w o) (λk hk _=>heap_alloc_old w o hk) (λk hk=>by simp[ids,hn] at hk;omega) (by simp[ids,hn]) (by simpa using ho);simpa using this
def LO.alloc{el:nl}{K:Qd}{i:TypeInfo}{z:nA}{cs:ne}(hi:P.info? el=some i)(hz:i.zero=some z)(hc:z.cells.toList=cs)
  (h:∀g,K (.pointer (some ⟨g,0,none⟩)) (Ow.cells g el cs::bx) F):LO P (.alloc el) ty e bx F K:=.of λn fr a w o hop hk ho=>by
 subst hc;refine⟨_,w.alloc (.cells z.cells el),_,F,.inl ?_,KV _ ?_,ho.alloc (.cells w.heap.size el z.cells.toList) _ rfl ?_,h w.heap.size⟩
 .simp[execOp,hop,Instr.alloc,zeroValue,typeInfo,hi,hz,newVar,newRow]
 .simp[execOp,hop,Instr.alloc,zeroValue,typeInfo,hi,hz,newVar,newRow]
 .simp only[Ow.holds];simpa using heap_alloc_new w (.cells z.cells el)
def LO.box{el:nl}{x:ni}{K:Qd}{v:nA}{cs:ne}(hx:ev e x=some v)(hc:v.cells.toList=cs)(h:∀g,K (.pointer (some ⟨g,0,none⟩)) (Ow.cells g el cs::bx) F):LO P (.box el x) ty e bx F K:=.of λn fr a w o hop hk ho=>by
 subst hc;refine⟨_,w.alloc (.cells v.cells el),_,F,.inl ?_,KV _ ?_,ho.alloc (.cells w.heap.size el v.cells.toList) _ rfl ?_,h w.heap.size⟩
 .simp[execOp,hop,hk.eval hx,Instr.box,newVar,newRow]
 .simp[execOp,hop,hk.eval hx,Instr.box,newVar,newRow]
 .simp only[Ow.holds];simpa using heap_alloc_new w (.cells v.cells el)
inductive Sel:nw->Ow->Ow->nw->Prop where
 |head {b b':Ow} {l:nw}:Sel (b::l) b b' (b'::l)
 |tail {c b b':Ow} {l l':nw}:Sel l b b' l'->Sel (c::l) b b' (c::l')
def Sel.split{l l':nw}{b b':Ow}(h:Sel l b b' l'):∃r,l.Perm (b::r)/\l'.Perm (b'::r):=by
 induction h with
 |head=>exact⟨_,.refl _,.refl _⟩
 |tail _ ih=>
  obtain⟨r,h1,h2⟩:=ih;exact⟨_,(h1.cons _).trans (.swap _ _ _),(h2.cons _).trans (.swap _ _ _)⟩
def Sel.mem{l l':nw}{b b':Ow}(h:Sel l b b' l'):b∈l:=by
 obtain⟨r,h1,_⟩:=h.split;exact h1.mem_iff.2 (by simp)
def OK.sel{fr:CF}{w w':nm}{b b':Ow}{bx':nw}(h:OK fr bx F w)(hs:Sel bx b b' bx')(hsz:w.heap.size<=w'.heap.size)(hk:∀k,k<w.heap.size->k∉b.ids->w'.heap[k]?=w.heap[k]?)
  (hn:∀k∈b'.ids,k∈b.ids\/w.heap.size<=k) (hd:b'.ids.Nodup) (ho:b'.holds w'.heap):OK (fr.grow w w') bx' F w':=by
 obtain⟨r,h1,h2⟩:=hs.split;refine OK.perm (bx:=b'::r) ?_ h2.symm;exact OK.step (ob:=[b]) (nb:=[b']) (bx:=r) (h.perm h1) hsz (λk hk1 hk2=>hk k hk1 (by simpa [ids] using hk2)) (λk hk1=>by simpa [ids] using hn k (by simpa [ids] using hk1)) (by simpa [ids] using hd) (by simpa using ho)
def OK.own{fr:CF}{w:nm}(h:OK fr bx F w){b:Ow}(hb:b∈bx){k:Nat}(hk:k∈b.ids):fr.own k:=(h.apart k (JN.2 ⟨b,hb,hk⟩)).1
def size_setRow(w:nm)(g:Nat)(cs:Array nA):(w.setRow g cs).heap.size=w.heap.size:=by unfold World.setRow;simp
def Zh{fr:CF}{w:nm}{g o:Nat}{t:nl}{cur c':Array nA}{vs:ne}{es:Array Event}(hg:fr.own g)(hb:w.heap[g]?=some (.cells cur t (0,0)))(hl:o+vs.length<=cur.size)(h1:∀v∈vs,v.oneCell'=true)(he:es=(storeCells ⟨g,o,none⟩ vs 0).events P w #[]) :
  Rest w (w.setRow g c')/\w.heap.size<=(w.setRow g c').heap.size/\(∀k,k<w.heap.size->¬fr.own k->(w.setRow g c').heap[k]?=w.heap[k]?)/\∀ev∈es,Yk (grow fr.own w (w.setRow g c')) fr.sh ev:=by
 refine⟨⟨rfl,rfl,rfl⟩,by rw[size_setRow];exact ai _,λk _ hk=>setRow_other w g k _ (λh=>hk (h ▸ hg)),λev hev=>?_⟩;rw[he] at hev;rcases events_storeCells_at g o t vs 0 cur w #[] hb qo h1 ev hev with h|⟨ad,h2,h3⟩
 .simp at h
 .exact .inl ⟨ad,h2,.inl (.inl (h3 ▸ hg))⟩
def Jp(cs:ne)(q:Nat)(vs:ne):ne:=cs.take q++vs++cs.drop (q+vs.length)
def LO.store{t tg:nl}{x y:ni}{K:Qd}{g q:Nat}{cs cs' vs:ne}{v:nA}{bx':nw}(hx:ev e x=some (.pointer (some ⟨g,q,none⟩)))(hy:ev e y=some v)
  (hvs:v.cells.toList=vs) (hsz:(P.info? t).map (·.size)=some vs.length) (h1:∀u∈vs,u.oneCell'=true) (hs:Sel bx (.cells g tg cs) (.cells g tg cs') bx') (hfit:q+vs.length<=cs.length) (hcs:Jp cs q vs=cs')
  (h:K undef bx' F):LO P (.store t x y) ty e bx F K:=.of λn fr a w o hop hk ho=>by
 subst hcs;have hb:=ho.owns _ hs.mem;simp only[Ow.holds] at hb;obtain⟨i,hi,hisz⟩:=Option.map_eq_some_iff.1 hsz;have hst:=run_storeCells_at P g q tg vs 0 cs.toArray w hb (by simpa using hfit) h1;have hc:P.cellsOf t=vs.length:=by simp[Program.cellsOf,hi,hisz]
 have hvc:v.cells.size=vs.length:=by rw[<-hvs];simp
 refine⟨undef,w.setRow g (Jp cs q vs).toArray,bx',F,.inr ⟨?_,rfl⟩,Zh (P:=P) (ho.own hs.mem (by simp[Ow.ids])) hb (by simpa using hfit) h1 ?_,ho.sel hs wq77 ?_ ?_ ?_ ?_,h⟩
 .simp[execOp,hop,hk.eval hx,hk.eval hy,Instr.storeAt,Instr.sureAddr,storeVar,run_sizeOf w hi,hisz,hvc,hvs,hc,hst,Jp]
 .simp[execOp,hop,hk.eval hx,hk.eval hy,Instr.storeAt,Instr.sureAddr,storeVar,sizeOf,typeInfo,run_sizeOf w hi,hi,hisz,hvc,hvs,hc,hst]
 .intro k _ hk2;exact setRow_other w g k _ (by simpa [Ow.ids] using hk2)
 .intro k hk1;exact .inl hk1
 .simp[Ow.ids]
 .simp only[Ow.holds];exact setRow_heap w g _ _ tg (0,0) hb
def LO.storeO{t el sz:nl}{x y:ni}{K:Qd}{v u:nA}{j:Nat}{cs cs':ne}{bx':nw}(hx:ev e x=some (.pointer (some (eaddr v j))))(hy:ev e y=some u)
  (hsz:(P.info? t).map (·.size)=some 1) (hu:u.cells=#[u]) (h1:u.oneCell'=true) (hs:Sel bx (.slice v el sz cs) (.slice v el sz cs') bx') (hj:j<cs.length) (hcs:cs.set j u=cs')
  (h:K undef bx' F):LO P (.store t x y) ty e bx F K:=.of λn fr a w o hop hk ho=>by
 subst hcs;obtain⟨m,h2,⟨rfl,h3⟩|⟨g,cap,sp,rfl,h3,h4,h5,h6⟩⟩:=ho.owns _ hs.mem
 .subst h3;simp at h2;subst h2;simp at hj
 .obtain⟨i,hi,hisz⟩:=Option.map_eq_some_iff.1 hsz;have hst:=run_storeCells_at P g j el [u] 0 (cs++sp).toArray w h5 (by simp;omega) (by simpa using h1);have hc:P.cellsOf t=1:=by simp[Program.cellsOf,hi,hisz]
  have heq:(List.take j (cs++sp)++[u]++List.drop (j+1) (cs++sp))=cs.set j u++sp:=by
   rw[List.set_eq_take_append_cons_drop,ah hj,cY qo,List.drop_append_of_le_length qo];simp
  refine⟨undef,w.setRow g (cs.set j u++sp).toArray,bx',F,.inr ⟨?_,rfl⟩,Zh (P:=P) (o:=j) (vs:=[u]) (ho.own hs.mem (by simp[Ow.ids])) h5 (by simp;omega) (by simpa using h1) ?_,ho.sel hs wq77 ?_ ?_ ?_ ?_,h⟩
  .rw[<-heq];simp only[aK,bF,cC,aR] at hst;simp[execOp,hop,hk.eval hx,hk.eval hy,Instr.storeAt,Instr.sureAddr,storeVar,run_sizeOf w hi,hisz,hu,hc,eaddr,hst]
  .simp only[aK,bF,cC,aR] at hst;simp[execOp,hop,hk.eval hx,hk.eval hy,Instr.storeAt,Instr.sureAddr,storeVar,sizeOf,typeInfo,run_sizeOf w hi,hi,hisz,hu,hc,eaddr,hst]
  .intro k _ hk2;exact setRow_other w g k _ (by simpa [Ow.ids] using hk2)
  .intro k hk1;exact .inl hk1
  .simp[Ow.ids]
  .exact⟨m,by simpa using h2,.inr ⟨g,cap,sp,rfl,h3,h4,setRow_heap w g _ _ el (0,0) h5,by simpa using h6⟩⟩
structure Xl(P:nh)(t el sz:Nat)(z:nA)(bytes:Nat):Prop where
 u:P.underlying t=some (.slice el)
 i:(P.info? el).map (λi=>(i.zero,i.size,i.bytes))=some (some z,sz,bytes)
 zs:z.cells.size=sz
 pos:0<sz
def HW{w:nm}{B:Nat}{v:nA}{el sz n:Nat}{cs:ne}(h:w.ownsRow B el sz v n cs):(Ow.slice v el sz cs).holds w.heap:=by
 obtain⟨h1,h2|⟨g,cap,cur,rfl,_,h3,h4,h5,h6,h7⟩⟩:=h
 .exact⟨n,h1,.inl h2⟩
 .refine⟨n,h1,.inr ⟨g,cap,cur.toList.drop (n*sz),rfl,h4,h5,?_,?_⟩⟩
  .rw[<-h7,cl];simpa using h3
  .rw[<-h7,cl];simpa using h6
def slice_owns{w:nm}{v:nA}{el sz:Nat}{cs:ne}(h:(Ow.slice v el sz cs).holds w.heap):∃n,w.ownsRow 0 el sz v n cs/\cs.length=n*sz:=by
 obtain⟨n,h1,h2|⟨g,cap,sp,rfl,h3,h4,h5,h6⟩⟩:=h
 .exact⟨n,⟨h1,.inl h2⟩,h1⟩
 .exact⟨n,⟨h1,.inr ⟨g,cap,_,rfl,aj _,h5,h3,h4,by simpa using h6,by simp[h1]⟩⟩,h1⟩
def Qo(bx:nw)(F:nc)(y:nA)(m sz:Nat)(news:ne):Prop:=news.length=m*sz/\∀fr w,OK fr bx F w->
 (y=nz/\m=0)\/∃ad c,y=.slice (some ad) m c/\∀j u,news[j]?=some u->w.cell? (ad.add j)=some u
def Qo.fact{v:nA}{n sz:Nat}{f:ng}(h:Has F (slC v n sz f)):Qo bx F v n sz ((List.range (n*sz)).map f):=by
 refine⟨by simp,λfr w ho=>?_⟩;have hf:=ho.has h;obtain⟨a,cap,rfl,h2,h3,⟨rfl,rfl,h4⟩|⟨b,off,rfl,h5⟩⟩:=id hf
 .subst h4;exact .inl ⟨rfl,rfl⟩
 .refine .inr ⟨_,_,rfl,λj u hu=>?_⟩;have hj:j<n*sz:=by simpa using (List.getElem?_eq_some_iff.1 hu).1
  have:=Us hf hj;simp[hj] at hu;rw[<-hu,Addr.add_lit];exact this
def Qo.own{v:nA}{el sz n:Nat}{cs:ne}(h:Ow.slice v el sz cs∈bx)(hn:cs.length=n*sz)(hsz:0<sz):Qo bx F v n sz cs:=by
 refine⟨hn,λfr w ho=>?_⟩;have hh:=ho.owns _ h;obtain⟨m,h1,⟨rfl,rfl⟩|⟨g,cap,sp,rfl,h3,h4,h5,h6⟩⟩:=id hh
 .refine .inl ⟨rfl,?_⟩;have:n*sz=0:=qo;rcases Nat.mul_eq_zero.1 this with h|h<;>omega
 .have:m=n:=bJ hsz qo;subst this;refine .inr ⟨_,_,rfl,λj u hu=>?_⟩;have:=YK hh hu;rw[Addr.add_lit];simpa [eaddr] using this
def Hv{t ty el sz:nl}{i:TypeInfo}{w:nm}{base n c:Nat}{a:Option Addr}{v:nA}{xs:ne}(ht:P.underlying t=some (.slice el))(hi:P.info? el=some i)(hown:w.ownsRow base el sz v n xs)(es:Array Event) :
  (Builtin.append_ #[t,t] ty #[v,.slice a 0 c]).events P w es=es:=by
 rcases hown.2 with ⟨rfl,rfl⟩|⟨g,cap,cur,rfl,_,_,hnc,_⟩
 .cases a<;>simp[Builtin.append_,run_underlying ht,sizeOf,typeInfo,hi,Builtin.lenOf,Builtin.firstCells,loadCells,loadCellsFrom]
 .cases a<;>simp[Builtin.append_,run_underlying ht,sizeOf,typeInfo,hi,Builtin.lenOf,Builtin.firstCells,loadCells,loadCellsFrom,hnc,storeCells]
def LO.append{t el sz bytes m:Nat}{z:nA}{x y:ni}{K:Qd}{v yv:nA}{cs news:ne}{bx':nA->nw}(ht:Xl P t el sz z bytes)(hx:ev e x=some v)(hy:ev e y=some yv)
  (hs:∀v',Sel bx (.slice v el sz cs) (.slice v' el sz (cs++news)) (bx' v')) (hsrc:Qo bx F yv m sz news) (h1:∀u∈news,u.oneCell'=true) (hlen:(cs.length+news.length)*bytes<=140737488355328) (hmax:cs.length+news.length<=9223372036854775807)
  (h:∀v',K v' (bx' v') F):LO P (.call {callee:=.builtin .append,args:=#[x,y],argTypes:=#[t,t]}) ty e bx F K:=.of λk fr a w o hop hk ho=>by
 obtain⟨i,hi,hz0,hz1,hz2⟩:=info_parts ht.i;have hmem:∀v',Ow.slice v el sz cs∈bx:=λv'=>(hs v').mem;obtain⟨n,hown,hcn⟩:=slice_owns (ho.owns _ (hmem v));have hnle:n<=cs.length:=by rw[hcn];exact Nat.le_mul_of_pos_right n ht.pos
 have hmle:m<=news.length:=by rw[hsrc.1];exact Nat.le_mul_of_pos_right m ht.pos
 have hb:(n+m)*bytes<=140737488355328:=aL (aM bytes (Nat.add_le_add hnle hmle)) hlen;have hown':∀g,v.ownBlock=some g->fr.own g:=λg hg=>ho.own (hmem v) (by cases v<;>simp[Value.ownBlock] at hg;rename_i ad _ _;cases ad<;>simp at hg;subst hg;simp[Ow.ids])
 have fin:∀v' w',(∀ev∈(execOp a.eval o).events P w #[],Yk fr.own fr.sh ev)->(Builtin.append_ #[t,t] o.type #[v,yv]).run P w=.ok v' w'->w'.ownsRow 0 el sz v' (n+m) (cs++news)->(w.grownBy w' v.ownBlock)->(∀g,v'.ownBlock=some g->v.ownBlock=some g\/w.heap.size<=g)->
   ∃v w' bx' F',((execOp a.eval o).run P w=.ok (.value v) w'\/((execOp a.eval o).run P w=.ok .skip w'/\v=undef))/\(Rest w w'/\w.heap.size<=w'.heap.size/\(∀k,k<w.heap.size->¬fr.own k->w'.heap[k]?=w.heap[k]?)/\∀ev∈(execOp a.eval o).events P w #[],Yk (grow fr.own w w') fr.sh ev)/\OK (fr.grow w w') bx' F' w'/\K v bx' F':=λv' w' hev hr how hg hnew=>by
  have hids:∀u:nA,∀q,(Ow.slice u el sz q).ids=(match u.ownBlock with|some g=>[g]|none=>[]):=λu q=>by
   cases u<;>simp[Ow.ids,Value.ownBlock]
   rename_i ad _ _;cases ad<;>simp
  refine⟨v',w',bx' v',F,.inl ?_,⟨⟨hg.os,hg.tape,hg.output⟩,hg.size,λk hk hx=>hg.block k hk (λhb=>hx (hown' k hb.symm)),λev he=>(hev ev he).mono λ_ h=>.inl h⟩,ho.sel (hs v') hg.size (λk hk1 hk2=>hg.block k hk1 ?_) (λk hk1=>?_) ?_ (HW how),h v'⟩
  .simp[execOp,hop,resolve,hk.eval hx,hk.eval hy,invoke,builtin,hr]
  .rw[hids] at hk2;cases hvb:v.ownBlock<;>simp_all
  .rw[hids] at hk1 ⊢;cases hvb:v'.ownBlock with
   |none=>rw[hvb] at hk1;simp at hk1
   |some g=>
    rw[hvb] at hk1;simp at hk1;subst hk1;rcases hnew k hvb with h3|h3
    .rw[h3];simp
    .exact .inr h3
  .rw[hids];cases v'.ownBlock<;>simp
 rcases hsrc.2 fr w ho with ⟨rfl,rfl⟩|⟨ad,c,rfl,hcells⟩
 .have hn0:news=[]:=bB (by simpa using hsrc.1);subst hn0;have hr:=run_append_owned_none (P:=P) (w:=w) 0 t o.type el i sz ht.u hi v n cs hown;exact fin v w (K4 (by rw[Go.Conc.events_append_op x y t hop (hk.eval hx) (hk.eval hy)];exact Hv ht.u hi hown _)) hr (by simpa using hown) (World.grownBy.refl w _) (λg hg=>.inl hg)
 .have hmx:n+m<=maxLen:=by unfold maxLen;omega
  obtain⟨v',w',hr,how,hg,_⟩:=run_append_own (P:=P) w 0 t o.type el i z sz bytes ht.u hi hz0 hz1 hz2 ht.zs ht.pos v n cs hown ad m c news hsrc.1 hcells h1 hmx hb (aj _)
  have hev:∀ev∈(execOp a.eval o).events P w #[],Yk fr.own fr.sh ev:=by
   rw[Go.Conc.events_append_op x y t hop (hk.eval hx) (hk.eval hy)];by_cases hm0:m=0
   .subst hm0;exact K4 (Hv ht.u hi hown _)
   .have hne:news≠[]:=λh0=>hm0 (by
     have:=hsrc.1;rw[h0] at this;have h2:m*sz=0:=by simpa using this.symm
     rcases Nat.mul_eq_zero.1 h2 with h|h
     .exact h
     .have:=ht.pos;omega)
    have hsm:fr.own ad.block\/fr.sh ad.block:=by
     obtain⟨u,hu⟩:∃u,news[0]?=some u:=by
      cases news with
      |nil=>exact absurd rfl hne
      |cons u _=>exact⟨u,rfl⟩
     have hcell:∀fr w,OK fr bx F w->w.cell? (ad.add 0)=some u:=λfr w ho=>by
      rcases hsrc.2 fr w ho with ⟨h1,_⟩|⟨ad',c',h1,h2⟩
      .cases h1
      .cases h1;exact h2 0 u hu
     obtain⟨b,q,sp⟩:=ad;cases sp with
     |none=>exact Dw (b:=b) (o:=q+0) (v:=u) (λfr w ho=>by have:=hcell fr w ho;rwa [Addr.add_lit] at this) ho
     |some s=>
      have:=hcell fr w ho;simp[World.cell?,Addr.add] at this;revert this;split<;>simp
    intro ev hev;rcases events_append_where w 0 t o.type el i z sz bytes ht.u hi hz0 hz1 hz2 v n cs hown ad m c news hsrc.1 hcells h1 hmx hb ev hev with ⟨a2,h2,⟨h3,h4⟩|h3⟩|h2
    .exact .inl ⟨a2,h2,hsm.elim (λh=>.inl (h4 ▸ h)) λh=>.inr ⟨h4 ▸ h,h3⟩⟩
    .exact .inl ⟨a2,h2,.inl (hown' _ h3.symm)⟩
    .exact .inr (.inl h2)
  refine fin v' w' hev hr how hg ?_;obtain⟨h2,⟨rfl,h3⟩|⟨g,cap,cur,rfl,_,h3,h4,h5,h6,h7⟩⟩:=id hown
  .obtain⟨v2,w2,hr2,how2,_,_⟩:=run_append_own (P:=P) w w.heap.size t o.type el i z sz bytes ht.u hi hz0 hz1 hz2 ht.zs ht.pos (.slice none 0 0) n cs ⟨h2,.inl ⟨rfl,h3⟩⟩ ad m c news hsrc.1 hcells h1 hmx hb (ai _);rw[hr] at hr2;cases hr2;exact λg hg=>.inr (how2.lt g hg).1
  .by_cases hroom:n+m<=cap
   .have hr2:=run_append_room (P:=P) w t o.type el i ht.u hi g n cap cur h3 ad m c news (by rw[hz1];exact hsrc.1) hcells h1 hroom (by rw[hz1,hsrc.1,h6,<-Nat.add_mul];exact aM _ hroom);rw[hr] at hr2;cases hr2;intro g' hg';exact .inl (by simpa [Value.ownBlock] using hg')
   .have hr2:=run_append_grow (P:=P) w t o.type el i z ht.u hi hz0 ⟨g,0,none⟩ n cap cs (by rw[hz1];exact h2) (hown.cells (g:=g) rfl) ad m c news (by rw[hz1];exact hsrc.1) hcells qo (by unfold maxLen at hmx;omega) (growslice_fits qo (by rw[hz2];exact hb));rw[hr] at hr2;cases hr2;intro g' hg';simp[Value.ownBlock] at hg';exact .inr qo
def LO.make{t el sz bytes n:Nat}{z:nA}{x y:ni}{K:Qd}{cs:ne}(ht:Xl P t el sz z bytes)(hx:ev e x=some (nj n))(hy:ev e y=some (nj n))
  (hb:bytes*n<=140737488355328) (hmax:n<=9223372036854775807) (hcs:(madeCells z.cells (n*sz)).toList=cs) (h:∀v,K v (Ow.slice v el sz cs::bx) F):LO P (.makeSlice t x y) ty e bx F K:=.of λk fr a w o hop hk ho=>by
 subst hcs;obtain⟨i,hi,hz0,hz1,hz2⟩:=info_parts ht.i;obtain⟨w',hr,how,hg⟩:=run_make_full (P:=P) (w:=w) w.heap.size t el i z sz ht.u hi hz0 hz1 .i64 .i64 n (by rw[hz2];omega) (by unfold maxLen;omega) (ai _);have hev:(Instr.makeSlice t (nj n) (nj n)).events P w #[]=#[]:=Go.Conc.events_make w t el i z ht.u hi hz0 .i64 .i64 n n qo (Int.le_refl _) (by rw[hz2];omega) qo (by rw[hz2,be,aY];exact hb) _
 have:=OK.step (ob:=[]) (nb:=[Ow.slice (.slice (some ⟨w.heap.size,0,none⟩) n n) el sz (madeCells z.cells (n*sz)).toList]) (bx:=bx) (F:=F) (fr:=fr) (w:=w) (w':=w') (by simpa using ho) hg.size
  (λk hk _=>hg.block k hk (by simp)) (λk hk=>by simp[ids,Ow.ids] at hk;omega) (by simp[ids,Ow.ids]) (by simpa using HW how)
 refine⟨_,w',_,F,.inl ?_,⟨⟨hg.os,hg.tape,hg.output⟩,hg.size,λk hk _=>hg.block k hk (by simp),K4 ?_⟩,by simpa using this,h _⟩
 .simp[execOp,hop,hk.eval hx,hk.eval hy,hr]
 .simp[execOp,hop,hk.eval hx,hk.eval hy,hev,hr]
def Hush{α:Type}:Sem α->Prop
 |.pure _|.halt _=>True
 |.new _ k=>∀r,Hush (k r)
 |.shape _ k=>∀r,Hush (k r)
 |.freeze _ _ k=>Hush k
 |.frozen _ k=>∀r,Hush (k r)
 |.choose _ k=>∀r,Hush (k r)
 |.program k=>∀r,Hush (k r)
 |_=>False
def Hush.ev{α:Type}:∀{s:Sem α} (_:Hush s) (w:nm) (es:Array Event),s.events P w es=es
 |.pure _,_,_,_=>rfl
 |.halt _,_,_,_=>rfl
 |.new _ k,h,w,es=>Hush.ev (h _) _ es
 |.shape _ k,h,w,es=>Hush.ev (h _) _ es
 |.freeze _ _ k,h,w,es=>Hush.ev (s:=k) h _ es
 |.frozen _ k,h,w,es=>Hush.ev (h _) _ es
 |.choose q k,h,w,es=>by
  show(Sem.runT P (Sem.choose q k) w es).2=es;unfold Sem.runT;split
  .exact Hush.ev (h _) _ es
  .exact Hush.ev (h _) _ es
 |.program k,h,w,es=>Hush.ev (h _) _ es
 |.load ..,h,_,_=>h.elim
 |.store ..,h,_,_=>h.elim
 |.getObj ..,h,_,_=>h.elim
 |.setObj ..,h,_,_=>h.elim
 |.sys ..,h,_,_=>h.elim
 |.mark ..,h,_,_=>h.elim
def Hush.bind{α β:Type}{f:α->Sem β}:∀{s:Sem α} (_:Hush s) (_:∀a,Hush (f a)),Hush (s.bind f)
 |.pure _,_,hf=>hf _
 |.halt _,_,_=>trivial
 |.new _ k,h,hf=>λr=>Hush.bind (h r) hf
 |.shape _ k,h,hf=>λr=>Hush.bind (h r) hf
 |.freeze _ _ k,h,hf=>Hush.bind (s:=k) h hf
 |.frozen _ k,h,hf=>λr=>Hush.bind (h r) hf
 |.choose _ k,h,hf=>λr=>Hush.bind (h r) hf
 |.program k,h,hf=>λr=>Hush.bind (h r) hf
 |.load ..,h,_=>h.elim
 |.store ..,h,_=>h.elim
 |.getObj ..,h,_=>h.elim
 |.setObj ..,h,_=>h.elim
 |.sys ..,h,_=>h.elim
 |.mark ..,h,_=>h.elim
def Hush.underlying(t:nl):Hush (underlying t):=λp=>by
 show Hush (match p.underlying t with|some d=>Pure.pure d|none=>stuck "no such type");split<;>exact trivial
def Hush.typeInfo(t:nl):Hush (typeInfo t):=λp=>by
 show Hush (match p.info? t with|some d=>Pure.pure d|none=>stuck "no such type");split<;>exact trivial
def Hush.sizeOf(t:nl):Hush (sizeOf t):=Hush.bind (Hush.typeInfo t) λ_=>trivial
def Hush.zeroValue(t:nl):Hush (zeroValue t):=Hush.bind (Hush.typeInfo t) λi=>by
 show Hush (match i.zero with|some v=>Pure.pure v|none=>unsupported _);split<;>exact trivial
def Hush.buildSlice(t:nl)(len:Nat)(parts:Array (Nat×nA)):Hush (Instr.buildSlice t len parts):=by
 unfold Instr.buildSlice;repeat'(first|exact wq97|(with_reducible_and_instances refine Hush.bind ?_ λ_=>?_)|dsimp only|split)
def Hush.loop{α β:Type}{f:α->Sem β}(hf:∀a,Hush (f a)):∀(l:List α) (acc:List β),Hush (List.mapM.loop f l acc)
 |[],_=>trivial
 |a::l,acc=>Hush.bind (hf a) λb=>Hush.loop hf l (b::acc)
def Hush.mapM{α β:Type}{f:α->Sem β}(hf:∀a,Hush (f a))(l:Array α):Hush (l.mapM f):=by
 rw[Array.mapM_eq_mapM_toList];exact Hush.bind (Hush.loop hf l.toList []) λ_=>trivial
def Hush.build(t:nl)(parts:Array (Nat×nA)):Hush (Instr.build t parts):=by
 unfold Instr.build;repeat'(first|exact wq97|(refine Hush.mapM (λ_=>?_) _)|(with_reducible_and_instances refine Hush.bind ?_ λ_=>?_)|dsimp only|split)
def LO.buildSlice{t el sz len:Nat}{parts:List (Nat×ni)}{K:Qd}{us:ne}{cs:ne}(hv:Evs e (parts.map (·.2)) us)
  (hr:∀w,(Instr.buildSlice t len ((parts.map (·.1)).zip us).toArray).run P w=.ok (.slice (some ⟨w.heap.size,0,none⟩) len len) (w.alloc (.cells cs.toArray el))) (hlen:cs.length=len*sz) (hmax:len<=9223372036854775807)
  (h:∀v,K v (Ow.slice v el sz cs::bx) F):LO P (.buildSlice t len parts.toArray) ty e bx F K:=.of λk fr a w o hop hk ho=>by
 have hm:=hv.map hk;refine⟨_,w.alloc (.cells cs.toArray el),_,F,.inl ?_,KV _ ?_,ho.alloc (Ow.slice (.slice (some ⟨w.heap.size,0,none⟩) len len) el sz cs) _ rfl ?_,h _⟩
 rotate_left
 .simp[execOp,hop,hr,(Hush.buildSlice _ _ _).ev]
 rotate_left
 .have:(parts.map λx=>(x.1,a.eval x.2))=(parts.map (·.1)).zip us:=by
   rw[<-hm];clear hm hv hr hop;induction parts with
   |nil=>rfl
   |cons p r ih=>simpa using ih
  simp[execOp,hop,this,hr]
 .exact⟨len,hlen,.inr ⟨w.heap.size,len,[],rfl,ai _,by unfold maxLen;omega,by simpa using heap_alloc_new w _,by simpa using hlen⟩⟩
def OK.QL{fr:CF}{w:nm}(h:OK fr bx F w)(el sz:Nat):OK fr (Ow.slice nz el sz []::bx) F w:=by
 have:=OK.step (ob:=[]) (nb:=[Ow.slice nz el sz []]) (bx:=bx) (F:=F) (fr:=fr) (w:=w) (w':=w) (by simpa using h) (ai _) (λ_ _ _=>rfl) (λk hk=>by simp[ids,Ow.ids] at hk) (by simp[ids,Ow.ids]) (λb hb=>by simp at hb;subst hb;exact⟨0,by simp,.inl ⟨rfl,rfl⟩⟩);rw[CF.QW _ (ai _)] at this;simpa using this
def WC.QL{n:Nat}{c:Code}{Q:Post}(el sz:Nat)(h:WC P n c e (Ow.slice nz el sz []::bx) F Q):WC P n c e bx F Q:=λfr w0 a w hk hr ho=>h fr w0 a w hk hr (ho.QL el sz)
def OK.freeze{fr:CF}{w:nm}{v:nA}{el sz n:Nat}{cs:ne}{bx':nw}(h:OK fr bx F w)(hs:Sel bx (.slice v el sz cs) (.slice nz el sz []) bx')(hn:cs.length=n*sz)(hsz:0<sz)(f:ng)(hf:∀j,j<n*sz->cs[j]?=some (f j)) :
  OK fr bx' (slC v n sz f::F) w:=by
 obtain⟨r,h1,h2⟩:=hs.split;have hp:=h.perm h1;have hd:OK fr r F w:=hp.drop (bA _ _);refine OK.perm (bx:=Ow.slice nz el sz []::r) (OK.QL (hd.add ?_) el sz) h2.symm;obtain⟨m,h3,⟨rfl,h4⟩|⟨g,cap,sp,rfl,h4,h5,h6,h7⟩⟩:=h.owns _ hs.mem
 .subst h4
  have:n=0:=by
   have:n*sz=0:=qo;rcases Nat.mul_eq_zero.1 this with h|h<;>omega
  subst this;exact⟨none,0,rfl,ai _,by simp[maxLen],.inl ⟨rfl,rfl,rfl⟩⟩
 .have hmn:m=n:=bJ hsz qo;subst hmn;refine⟨_,cap,rfl,h4,h5,.inr ⟨g,0,rfl,(cs++sp).toArray,el,(0,0),?_,λj hj=>?_⟩⟩
  .simp only[imm];have hnd:=hp.nodup;have hap:=hp.apart g (by simp[ids,Ow.ids]);simp only[ids,aZ,Ow.ids,bf,cI] at hnd;rw[ae,CF.Yy (.inl hap.1)]
   .exact h6
   .simp only[hap.2,ey,Bool.false_or,bu];exact hnd.1
  .have hj':j<cs.length:=qo;simp only[aR,List.getElem?_toArray];rw[List.getElem?_append_left hj'];exact hf j hj
end W
namespace W
variable {P:nh}{e:Env}{bx:nw}{F:nc}{ty:nl}
def YO.max{x y:ni}{i j:Int}{ats:Array nl}(hx:ev e x=some (nj i))(hy:ev e y=some (nj j)):YO P (.call {callee:=.builtin .max,args:=#[x,y],argTypes:=ats}) ty e bx F (nj (Max.max i j)):=
 .of λn fr a w o hop hk _=>by
  simp only[execOp,hop,resolve,invoke,builtin,Builtin.max_,List.map_toArray,eu,List.map_nil,hk.eval hx,hk.eval hy];have:(if i<j then j else i)=Max.max i j:=by rw[Int.max_def];split<;>split<;>omega
  simp[Builtin.max2,this]
def YO.min{x y:ni}{i j:Int}{ats:Array nl}(hx:ev e x=some (nj i))(hy:ev e y=some (nj j)):YO P (.call {callee:=.builtin .min,args:=#[x,y],argTypes:=ats}) ty e bx F (nj (Min.min i j)):=
 .of λn fr a w o hop hk _=>by
  simp only[execOp,hop,resolve,invoke,builtin,Builtin.min_,List.map_toArray,eu,List.map_nil,hk.eval hx,hk.eval hy];have:(if j<i then j else i)=Min.min i j:=by rw[Int.min_def];split<;>split<;>omega
  simp[Builtin.min2,this]
def YO.build{t:nl}{parts:List (Nat×ni)}{us:ne}{v:nA}(hv:Evs e (parts.map (·.2)) us)
  (hr:∀w,(Instr.build t ((parts.map (·.1)).zip us).toArray).run P w=.ok v w):YO P (.build t parts.toArray) ty e bx F v:=
 .of λn fr a w o hop hk _=>by
  have hm:=hv.map hk
  have:(parts.map λx=>(x.1,a.eval x.2))=(parts.map (·.1)).zip us:=by
   rw[<-hm];clear hm hv hr hop;induction parts with
   |nil=>rfl
   |cons p r ih=>simpa using ih
  constructor<;>simp[execOp,hop,this,hr,(Hush.build _ _).ev]
def IsV(x:nA):Qd:=λv b G=>v=x/\b=[]/\G=[]
def IsO(el sz:Nat)(cs:ne):Qd:=λv b G=>b=[Ow.slice v el sz cs]/\G=[]
inductive Qz(F:nc):nc->Prop where
 |nil:Qz F []
 |cons {g:Fct} {G:nc}:Has F g->Qz F G->Qz F (g::G)
def Qz.all{F G:nc}(h:Qz F G):∀g∈G,Has F g:=by
 induction h with
 |nil=>simp
 |cons h _ ih=>intro g hg;rcases List.mem_cons.1 hg with rfl|hg;exact h;exact ih _ hg
def Fin.v{fn:Func}{h0:PH}{u v:nA}(hr:Qf P fn e bx F v)(hg:ge h0∈F)(hu:v=u):Fin P fn h0 (IsV u) e bx F:=⟨v,[],[],hr,bM _,by simp,hg,hu,rfl,rfl⟩
def Fin.o{fn:Func}{h0:PH}{el sz:Nat}{cs cs':ne}{v:nA}(hr:Qf P fn e bx F v)(hg:ge h0∈F)(hb:Ow.slice v el sz cs∈bx)(hc:cs=cs'):Fin P fn h0 (IsO el sz cs') e bx F:=
 ⟨v,[Ow.slice v el sz cs],[],hr,List.singleton_sublist.2 hb,by simp,hg,by rw[hc],rfl⟩
def Fin.p{fn:Func}{h0:PH}{R:Qd}{v:nA}(bx':nw)(F':nc)(hr:Qf P fn e bx F v)(hg:ge h0∈F)(hb:bx'.Sublist bx)(hF:Qz F F')(h:R v bx' F'):Fin P fn h0 R e bx F:=⟨v,bx',F',hr,hb,hF.all,hg,h⟩
def KnS.f{v:nA}{n sz:Nat}{f:ng}(h:Has F (slC v n sz f)):KnS bx F v n:=.of h λ_ h=>slC_is h
def KnS.o{v:nA}{el sz n:Nat}{cs:ne}(h:Ow.slice v el sz cs∈bx)(hn:cs.length=n*sz)(hsz:0<sz):KnS bx F v n:=λfr w ho=>by
 obtain⟨m,h1,⟨rfl,rfl⟩|⟨g,cap,sp,rfl,h3,h4,h5,h6⟩⟩:=ho.owns _ h
 .have:n=0:=by
   have:n*sz=0:=qo;rcases Nat.mul_eq_zero.1 this with h|h<;>omega
  subst this;exact⟨none,0,rfl,ai _,by simp[maxLen],.inl ⟨rfl,rfl,rfl⟩⟩
 .have:m=n:=bJ hsz qo;subst this;exact⟨_,cap,rfl,h3,h4,.inr ⟨g,0,rfl⟩⟩
abbrev sI(v:nA)(l:nd):Fct:=slC v l.length 1 (λj=>nj (l.getD j 0))
abbrev ints(l:nd):ne:=l.map (Value.int .i64)
def YO.ix1{t el n:Nat}{x y:ni}{v:nA}{k:Nat}(ht:Qh P t el 1)(hx:ev e x=some v)(hy:ev e y=some (nj k))(hv:KnS bx F v n)(hk':k<n) :
  YO P (.indexAddr t x y) ty e bx F (.pointer (some (eaddr v k))):=by
 have:=YO.ix (P:=P) (ty:=ty) ht hx hy hv hk'
 rwa [bP] at this
def YO.XT{t el n:Nat}{x y:ni}{v:nA}{k:Int}(ht:Qh P t el 1)(hx:ev e x=some v)(hy:ev e y=some (nj k))(hv:KnS bx F v n)(h0:0<=k)(hk':k<n) :
  YO P (.indexAddr t x y) ty e bx F (.pointer (some (eaddr v k.toNat))):=
 YO.ix1 ht hx (by rw[hy,db h0]) hv qo
def YO.ix'{t el n sz:Nat}{x y:ni}{v:nA}{k:Int}(ht:Qh P t el sz)(hx:ev e x=some v)(hy:ev e y=some (nj k))(hv:KnS bx F v n)(h0:0<=k)(hk':k<n) :
  YO P (.indexAddr t x y) ty e bx F (.pointer (some (eaddr v (k.toNat*sz)))):=
 YO.ix ht hx (by rw[hy,db h0]) hv qo
def scalarB(P:nh)(t:nl):Bool:=match P.underlying t with
 |some d=>!d.isRow
 |none=>false
def Qk.of{t:nl}(h:scalarB P t=true):Qk P t:=by
 unfold scalarB at h;split at h
 .rename_i d hd;exact⟨d,hd,by simpa using h⟩
 .cases h
def fieldB(P:nh)(s i off:Nat):Bool:=match P.underlying s with
 |some (.struct fs)=>match fs[i]? with
  |some f=>f.offset == off && (P.cellsOf f.type != 0 && (P.info? f.type).isSome)
  |none=>false
 |_=>false
def Qj.of{s i off:Nat}(h:fieldB P s i off=true):Qj P s i off:=by
 unfold fieldB at h;split at h
 .rename_i fs hfs
  split at h
  .rename_i f hf
   simp only[aE,co,bne_iff_ne,ne_eq,Option.isSome_iff_exists] at h;obtain⟨h1,h2,ti,h3⟩:=h;exact⟨fs,f,hfs,hf,h1,ti,h3,by simpa [Program.cellsOf,h3] using h2,h2⟩
  .cases h
 .cases h
def sliceB(P:nh)(t el sz:Nat):Bool:=match P.underlying t with
 |some (.slice e)=>e == el && (P.info? el).map (·.size) == some sz
 |_=>false
def Qh.of{t el sz:Nat}(h:sliceB P t el sz=true):Qh P t el sz:=by
 unfold sliceB at h;split at h
 .rename_i e he
  simp only[aE,co,Option.map_eq_some_iff] at h;obtain⟨rfl,i,h2,h3⟩:=h;exact⟨he,i,h2,h3⟩
 .cases h
def rowB(P:nh)(t m:Nat):Bool:=match P.underlying t with
 |some d=>d.isRow && (P.info? t).map (·.size) == some m
 |none=>false
def Row.of{t m:Nat}(h:rowB P t m=true):Row P t m:=by
 unfold rowB at h;split at h
 .rename_i d hd
  simp only[aE,co] at h;exact⟨⟨d,hd,h.1⟩,h.2⟩
 .cases h
def arrB(P:nh)(t el len sz:Nat):Bool:=match P.underlying t with
 |some (.array n e)=>n == len && (e == el && (P.info? el).map (·.size) == some sz)
 |_=>false
def QZ(P:nh)(t el len sz:Nat):Prop:=P.underlying t=some (.array len el)/\∃i,P.info? el=some i/\i.size=sz
def QZ.of{t el len sz:Nat}(h:arrB P t el len sz=true):QZ P t el len sz:=by
 unfold arrB at h;split at h
 .rename_i n e he
  simp only[aE,co,Option.map_eq_some_iff] at h;obtain⟨rfl,rfl,i,h2,h3⟩:=h;exact⟨he,i,h2,h3⟩
 .cases h
def YO.ixB{t el len sz:Nat}{x y:ni}{b q k:Nat}(ht:QZ P t el len sz)(hx:ev e x=some (.pointer (some ⟨b,q,none⟩)))(hy:ev e y=some (nj k))(hk':k<len) :
  YO P (.indexAddr t x y) ty e bx F (.pointer (some ⟨b,q+k*sz,none⟩)):=by
 obtain⟨h1,i,h2,h3⟩:=ht;exact YO.ixA h1 h2 h3 hx hy hk'
end W
end Go.Proofs.YtbnobghgnbockaaGreat
