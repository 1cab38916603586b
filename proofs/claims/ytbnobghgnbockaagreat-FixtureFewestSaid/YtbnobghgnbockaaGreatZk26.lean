/- Lemmas. Conditions: none. -/
import Derived.Test.YtbnobghgnbockaaGreatProg
import Derived.Test.YtbnobghgnbockaaGreatZk25
import Derived.KernelRfl
set_option linter.all false
set_option maxHeartbeats 0
set_option maxRecDepth 100000
namespace Go.Proofs.YtbnobghgnbockaaGreat
open Tryz (prog)
section
open Go.RowKit
open Go.Conc (G base)
namespace W
variable {P:nh}
def sg_endRound{m:Bool}{b:nu}{a:Act}{cs:List nu}{w:nm}{l:Nat}{r:Loop}(hl:b.roundOf=some l)(hk:b.kind=.normal)(h:w.heap[l]?=some (.loop r)){c0:nu} :
  stepG P m (G (b.atR a []) (c0::cs)) w=.go (G (c0.finish (.bool true)) cs) (w.putObj l (.loop {r with state:=.ready,pending:=none})) (seen P b.fn ((Instr.endRound l none).events P w #[])):=by
 have h1:=run_endRound (P:=P) none h;simp[G,stepG,stepG.exec,Frame.atR,hl,hk,h1,GStep.after,doReturn]
def bdN(h1:PH)(Y:nw->nc->Prop):Post
 |.normal=>λ_ bx' F'=>∃bx'' F'',bx''.Sublist bx'/\Has F' (ge h1)/\(∀f∈F'',Has F' f)/\Y bx'' F''
 |_=>λ_ _ _=>False
def V6(P:nh)(l:Nat)(r:Loop)(val:nA)(bx:nw)(F:nc)(Y:nw->nc->Prop):Prop:=
 r.params.size=1/\∀fr w,OK fr (.obj l (.loop r)::bx) F w->
  KW P fr.main fr.sh l r.fn ((r.params.zip #[val]).foldl (λt (p,v)=>t.setIfInBounds p v) r.tmps) r.assign r.body fr.own w
   (λown' v w'=>v=.bool true/\PostB fr (.obj l (.loop r)::bx) w (λ_ B G=>∃bx',B=.obj l (.loop r)::bx'/\Y bx' G) own' v w')
section
variable {n:Nat}{e:Env}{bx:nw}{F:nc}{l:Nat}{r:Loop}{val:nA}
def yieldC_of{Y:nw->nc->Prop}{p d:Tmp}{ty:nl}{pos:String}{id:Nat}(hk:Kn [] n ⟨r.tmps,[]⟩ e)(hs:r.state=.ready)(hpe:r.pending=none)(hps:r.params=#[p])
  (ha:r.assign=.region id #[{dst:=some d,op:=.assign (.tmp p),type:=ty,pos:=pos,after:=#[],guard:=none}] false) (hp:Nat.blt p n=true) (hd:Nat.blt d n=true)
  (hbody:∀h1,WC P n r.body ((d,val)::(p,val)::e) bx (ge h1::F) (bdN h1 Y)):V6 P l r val bx F Y:=by
 refine⟨by rw[hps];rfl,λfr w ho c cs Stop hc=>?_⟩;rw[round_at];have htm:(r.params.zip #[val]).foldl (λt (p,v)=>t.setIfInBounds p v) r.tmps=(Act.put ⟨r.tmps,[]⟩ (some p) val).tmps:=by rw[hps];simp[Act.put]
 rw[htm];have hkp:Kn [] n ⟨(Act.put ⟨r.tmps,[]⟩ (some p) val).tmps,[]⟩ ((p,val)::e):=hk.put hp val;let h1:=imm fr (.obj l (.loop r)::bx) w.heap
 have ho0:OK {fr with ds:=[]} (.obj l (.loop r)::bx) (ge h1::F) w:=(ho.add (f:=ge h1) (PH.le.refl _)).dsw []
 have hwa:WC P n r.assign ((p,val)::e) (.obj l (.loop r)::bx) (ge h1::F) (λex e' bx' F'=>ex=.normal/\e'=(d,val)::(p,val)::e/\bx'=.obj l (.loop r)::bx/\F'=ge h1::F):=by
  rw[ha];refine WC.region (L:=[{dst:=some d,op:=.assign (.tmp p),type:=ty,pos:=pos,after:=#[],guard:=none}]) (WL.YX (YO.assign (by show look _ _=_;rw[Y4,ah rfl])) hd rfl (WL.nil ⟨rfl,rfl,rfl,rfl⟩))
 refine hwa {fr with ds:=[]} w _ w hkp (Rest.refl w) ho0 (XO l r.fn) [.beginRound,.code r.body] (c::cs) Stop (by simp[XO]) λXt ex a1 w1 hq=>?_;cases ex with
 |goto l=>exact hq.elim
 |panic ch=>exact hq.elim
 |outgrown=>exact hq.elim
 |exit id=>obtain⟨_,_,_,_,_,_,_,h,_⟩:=hq;cases h
 |ret=>obtain⟨_,_,_,_,_,_,_,h,_⟩:=hq;cases h
 |normal=>
 obtain⟨hw1,e1,b1,F1,hk1,hr1,ho1,_,rfl,rfl,rfl⟩:=hq;show Run P fr.main fr.sh Stop Xt _ w1;refine Run.go rfl λw2 h2=>?_;have ho2:=ho1.rely h2;have hl2:w2.heap[l]?=some (.loop r):=ho2.owns _ (an ..);have hlo:Xt l/\fr.fr l=none:=ho2.apart l (by simp[ids,Ow.ids]);refine⟨_,_,_,KQ (b:=XO l r.fn) rfl (by simp[XO]) hl2 hs,⟨⟨rfl,rfl,rfl⟩,by simp,λk _ hk=>World.putObj_heap_other (λe=>hk (e ▸ hlo.1)),λe he=>?_⟩,?_⟩
 .have he:=JL he;rw[YF hl2 hs] at he;simp at he;rcases he with rfl|rfl<;>exact .inr (.inr ⟨_,rfl,.inl hlo.1⟩)
 rw[QW (by simp)];have ho3:=(ho2.Ug (o':=.loop {r with state:=.busy})).hold;have hbd:=hbody h1 (CF.hold (CF.at {fr with ds:=[]} Xt) l (.loop {r with state:=.busy})) w a1 (w2.putObj l (.loop {r with state:=.busy})) hk1 (Rest.trans (b:=w2) (hr1.trans h2.rest) ⟨rfl,rfl,rfl⟩) ho3;have hrr:({r with state:=.ready,pending:=none}:Loop)=r:=by rw[<-hs,<-hpe]
 refine hbd (XO l r.fn) [] (c::cs) Stop (by simp[XO]) λown4 ex a4 w4 hq=>?_;cases ex with
 |goto l=>exact hq.elim
 |panic ch=>exact hq.elim
 |outgrown=>exact hq.elim
 |ret=>obtain⟨_,_,_,_,_,_,_,h⟩:=hq;exact h.elim
 |exit id=>obtain⟨_,_,_,_,_,_,_,h⟩:=hq;exact h.elim
 |normal=>
  obtain⟨hw4,e4,b4,F4,hk4,hr4,ho4,bx'',F'',hb,hg,hF,hx⟩:=hq;refine Run.go rfl λw5 h5=>?_;have ho5:=(ho4.rely h5).drop hb;have hfl:=ho5.frame.1 l (.loop {r with state:=.busy}) (show(CF.at (CF.hold (CF.at {fr with ds:=[]} Xt) l (.loop {r with state:=.busy})) own4).fr l=_ by simp[CF.at,CF.hold]);have hback:OK (fr.at own4) (.obj l (.loop r)::bx'') F4 (w5.putObj l (.loop r)):=((OK.back (fr:=CF.at {fr with ds:=[]} own4) ho5 hlo.2).Ug).dsw fr.ds;refine⟨_,_,_,sg_endRound (b:=XO l r.fn) rfl rfl hfl.2,⟨⟨rfl,rfl,rfl⟩,by simp,λk _ hk=>World.putObj_heap_other (λe=>hk (e ▸ hfl.1)),λe he=>?_⟩,?_⟩
  .have he:=JL he;rw[Za hfl.2] at he;simp at he;rcases he with rfl|rfl<;>exact .inr (.inr ⟨_,rfl,.inl hfl.1⟩)
  .rw[QW (by simp)];show Run P fr.main fr.sh Stop own4 _ (w5.putObj l (.loop {r with state:=.ready,pending:=none}));rw[hrr];refine hc _ _ _ ⟨rfl,λk hk=>hw4 k (hw1 k hk),_,F'',⟨bx'',rfl,hx⟩,Rest.trans (b:=w5) (hr4.trans h5.rest) ⟨rfl,rfl,rfl⟩,hback.has hg,hback.frame,hback.apart,hback.nodup,hback.owns,λf hf=>hback.has (hF f hf)⟩
def LO.yieldC{Y:nw->nc->Prop}{x:ni}{arg:ni}{ats:Array nl}{ty:nl}{K:Qd}{bx0:nw}(hy:V6 P l r val bx F Y)
  (hx:ev e x=some (.func (.yield l) #[] #[])) (hv:ev e arg=some val) (br:nw) (hp:bx0.Perm ((.obj l (.loop r)::bx)++br)) {F0:nc} (hF:∀f∈F,Has F0 f)
  (hK:∀bx' G,Y bx' G->K (.bool true) ((.obj l (.loop r)::bx')++br) (G++F0)) :
  LO P (.call {callee:=.value x,args:=#[arg],argTypes:=ats}) ty e bx0 F0 K:=λn fr a w o K' hop _ hk ho hnext=>by
 obtain⟨fr',e1',e2',e3,h1,h2,h3⟩:=GM ho (.obj l (.loop r)::bx) br hp;have hl:w.heap[l]?=some (.loop r):=h1.owns _ (an ..);have hlo:fr.own l:=by rw[<-e3];exact(h1.apart l (by simp[ids,Ow.ids])).1
 have e1:a.eval x=.func (.yield l) #[] #[]:=hk.eval hx;have e2:a.eval arg=val:=hk.eval hv
 have hrun:(execOp a.eval o).run P w=.ok (.round l r.fn ((r.params.zip #[val]).foldl (λt (p,v)=>t.setIfInBounds p v) r.tmps) r.assign r.body) w:=by
  have:=Zu (P:=P) (args:=#[val]) hl (by rw[hy.1];rfl);simp[execOp,hop,resolve,e1,e2,Deferred.ofValue,invoke,this]
 have hev:(execOp a.eval o).events P w #[]=#[⟨.obj l,false,false⟩]:=by
  have:=K5 (P:=P) (args:=#[val]) (es:=#[]) hl (by rw[hy.1];rfl);have h2:=Zu (P:=P) (args:=#[val]) hl (by rw[hy.1];rfl);unfold execOp;simp[hop,resolve,e1,e2,Deferred.ofValue,invoke,this,h2]
 rw[hrun]
 refine .inl ⟨.look (by
  rw[hev];intro ev he;simp at he;subst he;exact .inr (.inr ⟨l,rfl,hlo⟩)),?_⟩
 rw[QW (ai _)];have hc:=hy.2 fr' w ⟨h1.frame,h1.apart,h1.nodup,h1.owns,λf hf=>h1.has (hF f hf)⟩;rw[e1',e2',e3] at hc;refine hc.mono λown' v w' hp'=>?_;obtain⟨rfl,hw,B,GG,⟨bx',rfl,hX⟩,hr',hle,hok⟩:=hp';rw[e3] at hw;exact hnext (fr.at own') _ w' _ _ (CF.le_at hw) hr' (h3 own' _ GG w' hw hr' hle hok) (hK bx' GG hX)
end
end W
namespace W
variable {P:nh}{e:Env}{bx bx':nw}{F:nc}{ty:nl}
def zc1{z:nA}(hz:z.cells=#[z])(n:Nat):(Builtin.zeroCells z.cells n).toList=List.replicate n z:=by
 rw[hz];simp only[Builtin.zeroCells];apply cE
 .simp
 .intro i h1 h2;simp[dI]
def LO.clearO{t el n a:Nat}{z v:nA}{x:ni}{K:Qd}{cs:ne}(hu:P.underlying t=some (.slice el))(hz:(P.info? el).map (·.zero)=some (some z))(hzc:z.cells=#[z])(h1:z.oneCell'=true)
  (hx:ev e x=some (resl v a n 1)) (hs:Sel bx (.slice v el 1 cs) (.slice v el 1 (cs.take a++List.replicate (n-a) z)) bx') (hn:cs.length=n) (ha:a<=n) (h:K (.tuple #[]) bx' F) :
  LO P (.call {callee:=.builtin .clear,args:=#[x],argTypes:=#[t]}) ty e bx F K:=.of λk fr ac w o hop hk ho=>by
 subst hn;have hx':=hk.eval hx;obtain⟨i,hi,hiz⟩:=Option.map_eq_some_iff.1 hz
 have quiet:∀b c,ac.eval x=.slice b (cs.length-a) c->(b=none\/cs.length-a=0)->∃v w' bx' F',((execOp ac.eval o).run P w=.ok (.value v) w'\/((execOp ac.eval o).run P w=.ok .skip w'/\v=undef))/\(Rest w w'/\w.heap.size<=w'.heap.size/\(∀k,k<w.heap.size->¬fr.own k->w'.heap[k]?=w.heap[k]?)/\∀ev∈(execOp ac.eval o).events P w #[],Yk (grow fr.own w w') fr.sh ev)/\OK (fr.grow w w') bx' F' w'/\K v bx' F':=λb c hb hq=>by
  have hr:(Builtin.clear_ #[t] o.type #[.slice b (cs.length-a) c]).run P w=.ok (.tuple #[]) w/\(Builtin.clear_ #[t] o.type #[.slice b (cs.length-a) c]).events P w #[]=#[]:=by
   rcases hq with rfl|hq
   .simp[Builtin.clear_,run_underlying hu]
   .rw[hq];cases b<;>simp[Builtin.clear_,run_underlying hu]
  have hsame:cs.length-a=0->cs.take a++List.replicate (cs.length-a) z=cs:=λh0=>by
   rw[h0,bo qo];simp
  refine⟨.tuple #[],w,bx',F,.inl ?_,⟨Rest.refl w,ai _,λ_ _ _=>rfl,K4 ?_⟩,?_,h⟩
  .simp[execOp,hop,resolve,hb,invoke,builtin,hr.1]
  .simp[execOp,hop,resolve,hb,invoke,builtin,hr.1,hr.2]
  .refine ho.sel hs (ai _) (λ_ _ _=>rfl) (λk hk1=>.inl (by have e:∀q,(Ow.slice v el 1 q).ids=(Ow.slice v el 1 []).ids:=λq=>(by cases v<;>simp[Ow.ids];rename_i ad _ _;cases ad<;>simp);rw[e];rw[e] at hk1;exact hk1)) (by cases v<;>simp[Ow.ids];rename_i ad _ _;cases ad<;>simp) ?_;have hh:=ho.owns _ hs.mem;rcases hq with rfl|hq
   .obtain⟨m,h2,⟨rfl,h3⟩|⟨g,cap,sp,rfl,h3,h4,h5,h6⟩⟩:=hh
    .subst h3;have h0:cs=[]:=bB qo;subst h0;exact⟨0,by simp,.inl ⟨rfl,rfl⟩⟩
    .rw[hx'] at hb;simp only[resl] at hb;split at hb<;>simp at hb
   .rw[hsame hq];exact hh
 obtain⟨m,h2,⟨rfl,h3⟩|⟨g,cap,sp,rfl,h3,h4,h5,h6⟩⟩:=ho.owns _ hs.mem
 .subst h3;have h0:cs=[]:=bB qo;subst h0;obtain rfl:a=0:=by simpa using ha
  exact quiet none 0 hx' (.inl rfl)
 .have hm:cs.length=m:=qo;by_cases hq:cs.length-a=0
  .exact quiet _ _ hx' (.inr hq)
  .have hne:cap≠a:=qo
   have hx2:ac.eval x=.slice (some ⟨g,a,none⟩) (cs.length-a) (cap-a):=by
    rw[hx'];simp[resl,hne,Addr.add_lit]
   have hlen:a+0+(List.replicate (cs.length-a) z).length<=(cs++sp).toArray.size:=by simp;omega
   have h1':∀u∈List.replicate (cs.length-a) z,u.oneCell'=true:=λu hu=>by rw[List.eq_of_mem_replicate hu];exact h1
   have hst:=run_storeCells_at P g a el (List.replicate (cs.length-a) z) 0 (cs++sp).toArray w h5 hlen h1'
   have heq:List.take a (cs++sp)++List.replicate (cs.length-a) z++List.drop (a+(cs.length-a)) (cs++sp)=(cs.take a++List.replicate (cs.length-a) z)++sp:=by
    rw[cY qo,show a+(cs.length-a)=cs.length by omega,List.drop_left]
   simp only[cC,bC] at hst;rw[heq] at hst;have hzv:∀w,(zeroValue el).run P w=.ok z w:=λw=>by simp[zeroValue,typeInfo,hi,hiz]
   have hze:∀w es,(zeroValue el).events P w es=es:=λw es=>by simp[zeroValue,typeInfo,hi,hiz]
   obtain⟨q,hq2⟩:∃q,cs.length-a=q+1:=⟨cs.length-a-1,by omega⟩
   have hzc2:=zc1 hzc (cs.length-a);refine⟨.tuple #[],w.setRow g ((cs.take a++List.replicate (cs.length-a) z)++sp).toArray,bx',F,.inl ?_,Zh (P:=P) (o:=a) (vs:=List.replicate (cs.length-a) z) (ho.own hs.mem (by simp[Ow.ids])) h5 (by simpa using hlen) h1' ?_,ho.sel hs wq77 ?_ ?_ ?_ ?_,h⟩
   .rw[hq2] at hx2 hzc2 hst ⊢;simp[execOp,hop,resolve,hx2,invoke,builtin,Builtin.clear_,run_underlying hu,hzv,hzc2,hst]
   .rw[hq2] at hx2 hzc2 hst ⊢;simp[execOp,hop,resolve,hx2,invoke,builtin,Builtin.clear_,run_underlying hu,hzv,hze,hzc2,hst]
   .intro k _ hk2;exact setRow_other w g k _ (by simpa [Ow.ids] using hk2)
   .intro k hk1;exact .inl hk1
   .simp[Ow.ids]
   .have hl:(cs.take a++List.replicate (cs.length-a) z).length=cs.length:=by simp;omega
    exact⟨m,by rw[hl];simpa using h2,.inr ⟨g,cap,sp,rfl,h3,h4,setRow_heap w g _ _ el (0,0) h5,by rw[List.length_append,hl,<-List.length_append];exact h6⟩⟩
end W
end
namespace T
open W
def s25:Qh prog 25 28 1:=Qh.of kr
def Gu:Qk prog 25:=Qk.of kr
def al25:Qv prog 25 [nz]:=Qv.of (z:=nz) kr kr
def e25:Xl prog 25 28 1 nz 24:=⟨by kernel_rfl,by kernel_rfl,by kernel_rfl,by decide⟩
def z25:(prog.info? 25).map (·.size)=some 1:=by kernel_rfl
def s33:Qh prog 33 32 1:=Qh.of kr
def Gh:Qk prog 33:=Qk.of kr
def e33:Xl prog 33 32 1 nz 24:=⟨by kernel_rfl,by kernel_rfl,by kernel_rfl,by decide⟩
def f35_0:Qj prog 35 0 0:=Qj.of kr
def f35_1:Qj prog 35 1 1:=Qj.of kr
def f35_2:Qj prog 35 2 2:=Qj.of kr
def r35:Row prog 35 3:=Row.of kr
def al35:Qv prog 35 [nz,nz,nz]:=Qv.of (z:=.agg #[nz,nz,nz]) kr kr
def s40:Qh prog 40 63 2:=Qh.of kr
def Gf:Qk prog 40:=Qk.of kr
def e40:Xl prog 40 63 2 (.agg #[nj 0,nz]) 32:=⟨by kernel_rfl,by kernel_rfl,by kernel_rfl,by decide⟩
def f42_0:Qj prog 42 0 0:=Qj.of kr
def f42_1:Qj prog 42 1 1:=Qj.of kr
def f42_2:Qj prog 42 2 2:=Qj.of kr
def r42:Row prog 42 3:=Row.of kr
def al42:Qv prog 42 [nz,nz,nz]:=Qv.of (z:=.agg #[nz,nz,nz]) kr kr
def u85:QX prog 85 .u64:=by unfold QX;kernel_rfl
end T
def Fr(D A:Nat)(q:Rat):Prop:=∃a:Int,q*(D:Rat)=(a:Rat)/\a.natAbs<=A
section
variable {D E A B:Nat}{p q:Rat}
def Fr.up(h:Fr D A q)(hA:A<=B):Fr D B q:=by
 obtain⟨a,h1,h2⟩:=h;exact⟨a,h1,aL h2 hA⟩
def Fr.mkr(h:Fr D A q)(hD:D≠0):∃a:Int,q=mkRat a D/\a.natAbs<=A:=by
 obtain⟨a,h1,h2⟩:=h;refine⟨a,?_,h2⟩;have hD':(D:Rat)≠0:=by exact_mod_cast hD
 rw[eL,<-h1,Rat.div_def,Rat.mul_assoc,Rat.mul_inv_cancel _ hD',cX]
def Fr.of{a:Int}{D:Nat}(hD:D≠0)(h:a.natAbs<=A):Fr D A (Rat.divInt a D):=by
 refine⟨a,?_,h⟩;have hD':(D:Rat)≠0:=by exact_mod_cast hD
 rw[ca,eL,Rat.div_def,Rat.mul_assoc,Rat.inv_mul_cancel _ hD',cX]
def Fr.int(a:Int)(h:a.natAbs<=A):Fr 1 A (a:Rat):=⟨a,by grind,h⟩
def Fr.sc(c:Nat)(h:Fr D A q):Fr (D*c) (A*c) q:=by
 obtain⟨a,h1,h2⟩:=h;refine⟨a*c,?_,?_⟩
 .rw[dQ,c9,<-Rat.mul_assoc,h1];rfl
 .rw[bp];exact aM _ h2
def Fr.sc'{c:Nat}(h:Fr D A q)(hE:D*c=E)(hB:A*c<=B):Fr E B q:=hE ▸ (h.sc c).up hB
def Fr.add(h1:Fr D A p)(h2:Fr D B q):Fr D (A+B) (p+q):=by
 obtain⟨a,h1,h3⟩:=h1;obtain⟨b,h2,h4⟩:=h2;exact⟨a+b,by rw[Rat.intCast_add,Rat.add_mul,h1,h2],by omega⟩
def Fr.neg(h1:Fr D A p):Fr D A (-p):=by
 obtain⟨a,h1,h3⟩:=h1;exact⟨-a,by rw[dR,Rat.neg_mul,h1],by omega⟩
def Fr.sub(h1:Fr D A p)(h2:Fr D B q):Fr D (A+B) (p-q):=by
 rw[Rat.sub_eq_add_neg];exact h1.add h2.neg
def Fr.mul(h1:Fr D A p)(h2:Fr E B q):Fr (D*E) (A*B) (p*q):=by
 obtain⟨a,h1,h3⟩:=h1;obtain⟨b,h2,h4⟩:=h2;refine⟨a*b,?_,?_⟩
 .rw[dQ,c9,<-h1,<-h2];grind
 .rw[bp];exact aO h3 h4
def Fr.zero:Fr D A 0:=⟨0,by grind,aj _⟩
end
def Fv(D A:Nat)(a:Bl.Vc):Prop:=Fr D A a.x/\Fr D A a.y
namespace Bl
open X
structure Fs(D A:Nat)(S:Sc):Prop where
 B:∀i,i<S.n->Fv D A (S.B i).c/\Fr D A (S.B i).lo/\Fr D A (S.B i).hi/\Fr D A (S.B i).st
 T:∀j,j<S.m->Fv D A (S.T j).p/\Fv D A (S.T j).q/\Fv D A (S.T j).n/\Fr D A (S.T j).r
def Sat(S:Sc)(c:Nat):Prop:=∃x,UF (lp S (S.wt c)) x
end Bl
namespace Fx
def kmax(n many:Int)(l:nd):Nat->Option Nat
 |0=>none
 |k+1=>if l.getD k 0=n-many+(k:Int) then kmax n many l k else some k
def HF(l:nd)(i:Nat):Nat->nd
 |0=>l
 |f+1=>HF (l.set i (l.getD (i-1) 0+1)) (i+1) f
def nxt(n many:Int)(l:nd):Option nd:=
 match kmax n many l l.length with
 |none=>none
 |some k=>some (HF (l.set k (l.getD k 0+1)) (k+1) (l.length-(k+1)))
def chsF(n many:Int):Nat->nd->List nd
 |0,_=>[]
 |f+1,l=>l::match nxt n many l with|none=>[]|some l'=>chsF n many f l'
def start(many:Nat):nd:=(List.range many).map Int.ofNat
def chs(n many:Nat):List nd:=chsF n many 100 (start many)
def XZ(n:Nat):Nat->List nd
 |0=>[]
 |k+1=>XZ n k++chs n k
def Jm(n most:Int):List nd:=if n<0\/8<n\/most<0 then[] else XZ n.toNat (min n.toNat most.toNat+1)
def numbers(bits:Nat):Nat->nd
 |0=>[]
 |n+1=>numbers bits n++if bits/2^n%2=1 then[(n:Int)] else[]
def lexlt:nd->nd->Bool
 |a::l,b::m=>if a=b then lexlt l m else decide (a<b)
 |_,_=>false
def before(a b:nd):Bool:=if a.length=b.length then lexlt a b else decide (a.length<b.length)
def place(s:nd)(out:List nd):Nat->Nat
 |0=>0
 |k+1=>if before s (out.getD k []) then place s out k else k+1
def Xh(out:List nd)(s:nd):List nd:=out.take (place s out out.length)++s::out.drop (place s out out.length)
def Jg(n:Nat)(most:Int):Nat->List nd
 |0=>[]
 |b+1=>let out:=Jg n most b;let s:=numbers b n;if(s.length:Int) > most then out else Xh out s
def Fw(n most:Int):List nd:=if n<0\/8<n then[] else Jg n.toNat most (2^n.toNat)
def le(a b:nd):Prop:=before b a=false
def lex_anti:∀{a b:nd},a.length=b.length->lexlt a b=false->lexlt b a=false->a=b
 |[],[],_,_,_=>rfl
 |x::a,y::b,h,h1,h2=>by
  unfold lexlt at h1 h2;by_cases c:x=y
  .subst c;rw[ah rfl] at h1 h2;rw[lex_anti (by simpa using h) h1 h2]
  .rw[ae c] at h1;rw[ae (λh=>c h.symm)] at h2;simp only[al] at h1 h2;omega
def lex_trans:∀{a b c:nd},a.length=b.length->b.length=c.length->lexlt b a=false->lexlt c b=false->lexlt c a=false
 |[],[],[],_,_,_,_=>rfl
 |x::a,y::b,z::c,h,h',h1,h2=>by
  unfold lexlt at h1 h2 ⊢;by_cases e1:y=x
  .subst e1;rw[ah rfl] at h1;by_cases e2:z=y
   .subst e2;rw[ah rfl] at h2 ⊢;exact lex_trans (by simpa using h) (by simpa using h') h1 h2
   .rw[ae e2] at h2 ⊢;exact h2
  .rw[ae e1] at h1;by_cases e2:z=y
   .subst e2;rw[ae e1];exact h1
   .rw[ae e2] at h2;simp only[al] at h1 h2;rw[ae qo];simp only[al];omega
def le_anti{a b:nd}(h1:le a b)(h2:le b a):a=b:=by
 unfold le before at h1 h2;by_cases c:a.length=b.length
 .rw[ah c.symm] at h1;rw[ah c] at h2;exact lex_anti c h2 h1
 .rw[ae (λh=>c h.symm)] at h1;rw[ae c] at h2;simp only[al] at h1 h2;omega
def le_trans{a b c:nd}(h1:le a b)(h2:le b c):le a c:=by
 unfold le before at h1 h2 ⊢;by_cases e1:b.length=a.length
 .rw[ah e1] at h1;by_cases e2:c.length=b.length
  .rw[ah e2] at h2;rw[ah (e2.trans e1)];exact lex_trans e1.symm e2.symm h1 h2
  .rw[ae e2] at h2;rw[ae qo];simp only[al] at h2 ⊢;omega
 .rw[ae e1] at h1;simp only[al] at h1;by_cases e2:c.length=b.length
  .rw[ae qo];simp only[al];omega
  .rw[ae e2] at h2;simp only[al] at h2;rw[ae qo];simp only[al];omega
def U2:∀{l m:List nd},l.Perm m->l.Pairwise le->m.Pairwise le->l=m
 |[],m,h,_,_=>(List.Perm.nil_eq h)
 |a::l,m,h,h1,h2=>by
  cases m with
  |nil=>exact absurd h.length_eq (by simp)
  |cons b m=>
   have e:a=b:=by
    have i1:a∈b::m:=h.mem_iff.1 (an ..);have i2:b∈a::l:=h.mem_iff.2 (an ..);rcases List.mem_cons.1 i1 with rfl|i1
    .rfl
    rcases List.mem_cons.1 i2 with rfl|i2
    .rfl
    exact le_anti ((List.pairwise_cons.1 h1).1 b i2) ((List.pairwise_cons.1 h2).1 a i1)
   subst e;rw[U2 h.cons_inv (List.pairwise_cons.1 h1).2 (List.pairwise_cons.1 h2).2]
def ins_perm(out:List nd)(s:nd):(Xh out s).Perm (s::out):=by
 unfold Xh;refine List.perm_middle.trans ?_;rw[cl]
def HU{s:nd}{out:List nd}:∀k,k<=out.length->place s out k<=k/\(∀j,place s out k<=j->j<k->before s (out.getD j [])=true)/\(0<place s out k->before s (out.getD (place s out k-1) [])=false)
 |0,_=>⟨ai _,λj _ h=>absurd h qo,λh=>absurd h (by show ¬0<0;omega)⟩
 |k+1,hk=>by
  unfold place;by_cases c:before s (out.getD k [])=true
  .rw[ah c];obtain⟨h1,h2,h3⟩:=HU (s:=s) (out:=out) k qo;refine⟨by omega,λj a b=>?_,h3⟩;by_cases e:j=k
   .subst e;exact c
   .exact h2 j a qo
  .rw[ae c];exact⟨ai _,λj a b=>absurd b qo,λ_=>by simpa using c⟩
def bef_le{a b:nd}(h:before a b=true):le a b:=by
 unfold le before at *;by_cases c:a.length=b.length
 .rw[ah c] at h;rw[ah c.symm]
  have:∀{a b:nd},lexlt a b=true->lexlt b a=false:=by
   intro a;induction a with
   |nil=>intro b h;cases b<;>simp[lexlt] at h
   |cons x a ih=>
    intro b h;cases b with
    |nil=>simp[lexlt] at h
    |cons y b=>
     unfold lexlt at h ⊢;by_cases c:x=y
     .subst c;rw[ah rfl] at h ⊢;exact ih h
     .rw[ae c] at h;rw[ae (λh=>c h.symm)];simp only[aH] at h;simp only[al];omega
  exact this h
 .rw[ae c] at h;rw[ae (λh=>c h.symm)];simp only[aH] at h;simp only[al];omega
def ins_sorted{out:List nd}{s:nd}(h:out.Pairwise le):(Xh out s).Pairwise le:=by
 obtain⟨h1,h2,h3⟩:=HU (s:=s) (out:=out) out.length (ai _);unfold Xh;generalize place s out out.length=p at *
 have hd:∀x∈out.drop p,le s x:=λx hx=>by
  obtain⟨i,hi,rfl⟩:=List.mem_iff_getElem.1 hx;rw[dM] at hi;have:=h2 (p+i) qo qo;rw[List.getD_eq_getElem?_getD,List.getElem?_eq_getElem qo] at this;rw[List.getElem_drop];exact bef_le this
 have ht:∀x∈out.take p,le x s:=λx hx=>by
  obtain⟨i,hi,rfl⟩:=List.mem_iff_getElem.1 hx;rw[ar] at hi;have h4:=h3 qo;rw[List.getD_eq_getElem?_getD,List.getElem?_eq_getElem qo] at h4;rw[List.getElem_take];by_cases e:i=p-1
  .subst e;exact h4
  .exact le_trans (List.pairwise_iff_getElem.1 h i (p-1) qo qo qo) h4
 refine List.pairwise_append.2 ⟨h.sublist (List.take_sublist _ _),List.pairwise_cons.2 ⟨hd,h.sublist (List.drop_sublist _ _)⟩,λa ha b hb=>?_⟩;rcases List.mem_cons.1 hb with rfl|hb
 .exact ht a ha
 .exact le_trans (ht a ha) (hd b hb)
def rsF(n:Nat)(most:Int):∀b,(Jg n most b).Pairwise le/\(Jg n most b).Perm (((List.range b).map λi=>numbers i n).filter λs=>decide ((s.length:Int)<=most))
 |0=>⟨List.Pairwise.nil,List.Perm.nil⟩
 |b+1=>by
  obtain⟨h1,h2⟩:=rsF n most b;show(if((numbers b n).length:Int) > most then Jg n most b else Xh (Jg n most b) (numbers b n)).Pairwise le/\_;rw[cH,cJ,dx];show(if((numbers b n).length:Int) > most then Jg n most b else Xh (Jg n most b) (numbers b n)).Pairwise le/\(if((numbers b n).length:Int) > most then Jg n most b else Xh (Jg n most b) (numbers b n)).Perm _;by_cases c:((numbers b n).length:Int) > most
  .rw[ah c];refine⟨h1,?_⟩;rw[show([b].map λi=>numbers i n).filter (λs=>decide ((s.length:Int)<=most))=[] by simp;omega,aU];exact h2
  .rw[ae c];refine⟨ins_sorted h1,(ins_perm _ _).trans ?_⟩;rw[show([b].map λi=>numbers i n).filter (λs=>decide ((s.length:Int)<=most))=[numbers b n] by simp;omega];exact(List.Perm.cons _ h2).trans (ay (l₁:=[numbers b n]))
def upB:List nd->Bool
 |a::b::l=>!before b a && upB (b::l)
 |_=>true
def upB_le:∀{l:List nd},upB l=true->l.Pairwise le
 |[],_=>List.Pairwise.nil
 |[_],_=>List.pairwise_singleton _ _
 |a::b::l,h=>by
  unfold upB at h;rw[aE] at h;have ih:=upB_le h.2;have hab:le a b:=by unfold le;simpa using h.1
  refine List.pairwise_cons.2 ⟨λx hx=>?_,ih⟩;rcases List.mem_cons.1 hx with rfl|hx
  .exact hab
  .exact le_trans hab ((List.pairwise_cons.1 ih).1 x hx)
def chkS(n:Nat):Bool:=upB (XZ n (n+1)) && (XZ n (n+1)).isPerm ((List.range (2^n)).map λi=>numbers i n) && (List.range (n+1)).all λk=>(XZ n (n+1)).filter (λs=>decide (s.length<=k)) == XZ n (k+1)
def chk0:(List.range 6).all chkS=true:=by kernel_rfl
def chk6:chkS 6=true:=by kernel_rfl
def chk7:chkS 7=true:=by kernel_rfl
def chk8:chkS 8=true:=by kernel_rfl
def chk_all(n:Nat)(h:n<=8):chkS n=true:=by
 by_cases c:n<6
 .exact List.all_eq_true.1 chk0 n (List.mem_range.2 c)
 .have:n=6\/n=7\/n=8:=qo;rcases this with rfl|rfl|rfl
  .exact chk6
  .exact chk7
  .exact chk8
def Vf(b:Nat):∀n,(numbers b n).length<=n
 |0=>ai _
 |n+1=>by
  have:=Vf b n;unfold numbers;rw[List.length_append];split<;>simp<;>omega
def rsF_k(n k:Nat)(hn:n<=8)(hk:k<=n):Jg n (k:Nat) (2^n)=XZ n (k+1):=by
 have h:=chk_all n hn;unfold chkS at h;rw[aE,aE] at h;obtain⟨⟨h1,h2⟩,h3⟩:=h;have h4:=eq_of_beq (List.all_eq_true.1 h3 k (List.mem_range.2 qo));have h5:=(List.isPerm_iff.1 h2).filter λs=>decide (s.length<=k);obtain⟨r1,r2⟩:=rsF n (k:Nat) (2^n);rw[<-h4];refine U2 (r2.trans ?_) r1 ((upB_le h1).sublist List.filter_sublist);have e:(λs:nd=>decide ((s.length:Int)<=((k:Nat):Int)))=λs=>decide (s.length<=k):=funext λs=>decide_eq_decide.2 qo;rw[e];exact h5.symm
def Ff(n most:Int):Fw n most=Jm n most:=by
 unfold Fw Jm;by_cases c:n<0\/8<n
 .rw[ah c,ah qo]
 rw[ae c];obtain⟨N,rfl⟩:∃N:Nat,n=(N:Int):=⟨n.toNat,by omega⟩
 rw[be];by_cases m0:most<0
 .rw[ah qo];have h:=(rsF N most (2^N)).2;have:((List.range (2^N)).map λi=>numbers i N).filter (λs=>decide ((s.length:Int)<=most))=[]:=List.filter_eq_nil_iff.2 λs _=>by simp;omega
  rw[this] at h;exact h.eq_nil
 rw[ae qo];by_cases m1:most.toNat<=N
 .rw[Nat.min_eq_right m1,<-rsF_k N most.toNat qo m1,db qo]
 .rw[aF qo,<-rsF_k N N qo (ai _)];refine U2 ((rsF N most _).2.trans ?_) (rsF N most _).1 (rsF N _ _).1;refine List.Perm.trans ?_ (rsF N (N:Nat) _).2.symm
  have e:∀s∈(List.range (2^N)).map (λi=>numbers i N),decide ((s.length:Int)<=most)=decide ((s.length:Int)<=((N:Nat):Int)):=λs hs=>by
   obtain⟨i,_,rfl⟩:=List.mem_map.1 hs;have:=Vf i N;exact decide_eq_decide.2 qo
  rw[List.filter_congr e]
end Fx
namespace Bl
open X
def scL(n:Nat)(B:Nat->Bd)(t0:Tc)(L:List Tc):Sc:=⟨n,L.length,B,λj=>L.getD j t0⟩
end Bl
namespace Fx
def Uv{n most:Int}(h0:0<=n)(h8:n<=8){s:nd}:s∈Jm n most↔∃b,b<2^n.toNat/\s=numbers b n.toNat/\(s.length:Int)<=most:=by
 rw[<-Ff];unfold Fw;rw[ae qo,(rsF n.toNat most _).2.mem_iff];simp only[List.mem_filter,List.mem_map,fb,aH];constructor
 .rintro⟨⟨b,h1,rfl⟩,h2⟩;exact⟨b,h1,rfl,h2⟩
 .rintro⟨b,h1,rfl,h2⟩;exact⟨⟨b,h1,rfl⟩,h2⟩
def Kx{b:Nat}{x:Int}:∀{n:Nat},x∈numbers b n↔∃i,i<n/\x=(i:Int)/\b/2^i%2=1
 |0=>⟨λh=>absurd h (by simp[numbers]),λ⟨i,h,_⟩=>absurd h qo⟩
 |n+1=>by
  unfold numbers;rw[bS,Kx (n:=n)];constructor
  .rintro(⟨i,h1,h2,h3⟩|h)
   .exact⟨i,by omega,h2,h3⟩
   .split at h
    .rename_i c
     rw[bG] at h;exact⟨n,by omega,h,c⟩
    .exact absurd h (by simp)
  .rintro⟨i,h1,h2,h3⟩;by_cases c:i=n
   .subst c;right;rw[ah h3];simp[h2]
   .exact .inl ⟨i,by omega,h2,h3⟩
def num_lt{b n:Nat}{x:Int}(h:x∈numbers b n):0<=x/\x<(n:Int):=by
 obtain⟨i,h1,h2,_⟩:=Kx.1 h;omega
def Ql(t:List Bl.Tc)(props:List (List Bl.Tc))(s:nd):List Bl.Tc:=t++s.flatMap λk=>props.getD k.toNat []
def Qa(t:List Bl.Tc)(props:List (List Bl.Tc))(most:Int):List nd:=(Jm (props.length:Int) most).filter λs=>decide ((Ql t props s).length<=10)
def Yh(C:List nd)(P:nd->Prop)(i:Nat):Prop:=i<C.length/\P (C.getD i [])/\∀j,j<i->¬P (C.getD j [])
def NoneS(C:List nd)(P:nd->Prop):Prop:=∀j,j<C.length->¬P (C.getD j [])
section
variable {C D:List nd}{P:nd->Prop}{i j:Nat}
def Yh.eq(h1:Yh C P i)(h2:Yh C P j):i=j:=by
 rcases Nat.lt_trichotomy i j with h|h|h
 .exact absurd h1.2.1 (h2.2.2 i h)
 .exact h
 .exact absurd h2.2.1 (h1.2.2 j h)
def Yh.none(h1:Yh C P i)(h2:NoneS C P):False:=h2 i h1.1 h1.2.1
end
end Fx
end Go.Proofs.YtbnobghgnbockaaGreat
