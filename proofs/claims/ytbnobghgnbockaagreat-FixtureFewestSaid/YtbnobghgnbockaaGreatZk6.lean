/- Lemmas. Conditions: none. -/
import Derived.Test.YtbnobghgnbockaaGreatProg
import Derived.Test.YtbnobghgnbockaaGreatZk5
set_option linter.all false
set_option maxHeartbeats 0
set_option maxRecDepth 100000
namespace Go.Proofs.YtbnobghgnbockaaGreat
open Tryz (prog)
namespace T
open W
def sc3:Qk prog 3:=Qk.of kr
def u3:QX prog 3 .i64:=by unfold QX;kernel_rfl
def al3:Qv prog 3 [nj 0]:=Qv.of (z:=nj 0) kr kr
def z3:(prog.info? 3).map (·.size)=some 1:=by kernel_rfl
def sc4:Qk prog 4:=Qk.of kr
def al4:Qv prog 4 [nq]:=Qv.of (z:=nq) kr kr
def s28:Qh prog 28 3 1:=Qh.of kr
def DZ:Qk prog 28:=Qk.of kr
def e28:Xl prog 28 3 1 (nj 0) 8:=⟨by kernel_rfl,by kernel_rfl,by kernel_rfl,by decide⟩
def z28:(prog.info? 28).map (·.size)=some 1:=by kernel_rfl
def s61:Qh prog 61 75 4:=Qh.of kr
def DY:Qk prog 61:=Qk.of kr
def al61:Qv prog 61 [nz]:=Qv.of (z:=nz) kr kr
def e61:Xl prog 61 75 4 (.agg #[nq,nz,nq,nz]) 64:=⟨by kernel_rfl,by kernel_rfl,by kernel_rfl,by decide⟩
def f73_0:Qj prog 73 0 0:=Qj.of kr
def f73_1:Qj prog 73 1 1:=Qj.of kr
def r73:Row prog 73 2:=Row.of kr
def al73:Qv prog 73 [nq,nz]:=Qv.of (z:=.agg #[nq,nz]) kr kr
def f75_0:Qj prog 75 0 0:=Qj.of kr
def f75_1:Qj prog 75 1 2:=Qj.of kr
def r75:Row prog 75 4:=Row.of kr
def al75:Qv prog 75 [nq,nz,nq,nz]:=Qv.of (z:=.agg #[nq,nz,nq,nz]) kr kr
def s104:Qh prog 104 122 7:=Qh.of kr
def Ks:Qk prog 104:=Qk.of kr
def al104:Qv prog 104 [nz]:=Qv.of (z:=nz) kr kr
def e104:Xl prog 104 122 7 (.agg #[nj 0,nz,nz,nq,nz,nq,nz]) 120:=⟨by kernel_rfl,by kernel_rfl,by kernel_rfl,by decide⟩
def u109:QX prog 109 .u64:=by unfold QX;kernel_rfl
def s116:Qh prog 116 141 5:=Qh.of kr
def Ua:Qk prog 116:=Qk.of kr
def e116:Xl prog 116 141 5 (.agg #[nz,nq,nz,nq,nz]) 88:=⟨by kernel_rfl,by kernel_rfl,by kernel_rfl,by decide⟩
def f118_0:Qj prog 118 0 0:=Qj.of kr
def f118_1:Qj prog 118 1 1:=Qj.of kr
def f118_2:Qj prog 118 2 2:=Qj.of kr
def r118:Row prog 118 3:=Row.of kr
def al118:Qv prog 118 [nj 0,nz,nz]:=Qv.of (z:=.agg #[nj 0,nz,nz]) kr kr
def f122_0:Qj prog 122 0 0:=Qj.of kr
def f122_1:Qj prog 122 1 1:=Qj.of kr
def f122_2:Qj prog 122 2 2:=Qj.of kr
def r122:Row prog 122 7:=Row.of kr
def al122:Qv prog 122 [nj 0,nz,nz,nq,nz,nq,nz]:=Qv.of (z:=.agg #[nj 0,nz,nz,nq,nz,nq,nz]) kr kr
def f141_0:Qj prog 141 0 0:=Qj.of kr
def f141_1:Qj prog 141 1 1:=Qj.of kr
def r141:Row prog 141 5:=Row.of kr
def al141:Qv prog 141 [nz,nq,nz,nq,nz]:=Qv.of (z:=.agg #[nz,nq,nz,nq,nz]) kr kr
def Um:Qk prog 173:=Qk.of kr
def al173:Qv prog 173 [.pointer none]:=Qv.of (z:=.pointer none) kr kr
def s175:Qh prog 175 61 1:=Qh.of kr
def Uo:Qk prog 175:=Qk.of kr
def e175:Xl prog 175 61 1 nz 24:=⟨by kernel_rfl,by kernel_rfl,by kernel_rfl,by decide⟩
def f177_0:Qj prog 177 0 0:=Qj.of kr
def f177_1:Qj prog 177 1 1:=Qj.of kr
def f177_2:Qj prog 177 2 2:=Qj.of kr
def f177_3:Qj prog 177 3 3:=Qj.of kr
def f177_4:Qj prog 177 4 4:=Qj.of kr
def f177_5:Qj prog 177 5 5:=Qj.of kr
end T
section
open Go.RowKit
namespace W
variable {P:nh}{e:Env}{bx:nw}{F:nc}{ty:nl}
variable {v u:nA}{bx':nw}
inductive QB(bx:nw)(F:nc):ne->Prop where
 |nil:QB bx F []
 |cons {u:nA} {us:ne}:One bx F u->QB bx F us->QB bx F (u::us)
def QB.all{us:ne}(h:QB bx F us){fr:CF}{w:nm}(ho:OK fr bx F w):∀c∈us,c.oneCell'=true:=by
 induction h with
 |nil=>simp
 |cons h _ ih=>intro c hc;rcases List.mem_cons.1 hc with rfl|hc;exact(h fr w ho).2;exact ih c hc
def LO.FV{op:Op}{K:Qd}{us:ne}(hu:QB bx F us)(h:(∀c∈us,c.oneCell'=true)->LO P op ty e bx F K):LO P op ty e bx F K:=λn fr a w o K' h1 h2 h3 h4 h5=>
 h (hu.all h4) n fr a w o K' h1 h2 h3 h4 h5
def LO.YY{t tg:nl}{x y:ni}{K:Qd}{g m:Nat}{cs us:ne}(hx:ev e x=some (.pointer (some ⟨g,0,none⟩)))(hy:ev e y=some (.agg us.toArray))
  (hs:Sel bx (.cells g tg cs) (.cells g tg us) bx') (hr:Row P t m) (hm:us.length=m) (hm2:cs.length=m) (h1:QB bx F us) (h:K undef bx' F):LO P (.store t x y) ty e bx F K:=
 LO.FV h1 λh1=>LO.storeA hx hy hs hr hm hm2 h1 h
end W
namespace W
variable {P:nh}{e:Env}{bx bx':nw}{F:nc}{ty:nl}{v u:nA}
def ce(g:Nat)(t:nl)(cs:ne):Fct where
 p h:=h g=some (.cells cs.toArray t (0,0))
 mono _ _ hl hp:=hl _ _ hp
def ce_cell{fr:CF}{w:nm}(ho:OK fr bx F w){g:Nat}{t:nl}{cs:ne}(h:Has F (ce g t cs))(q:Nat):w.cell? ⟨g,q,none⟩=cs[q]?:=by
 have:=JA (ho.has h);simp[World.cell?,this]
def YO.ldF{t tg:nl}{x:ni}{g q:Nat}{cs:ne}(hs:Qk P t)(hx:ev e x=some (.pointer (some ⟨g,q,none⟩)))(hb:Has F (ce g tg cs))(hv:cs[q]?=some v):YO P (.load t x) ty e bx F v:=
 YO.ld hs hx rfl λfr w ho=>by rw[ce_cell ho hb];exact hv
def QV.c{g:Nat}{t:nl}{cs:ne}(hb:Ow.cells g t cs∈bx):QV bx F (ce g t cs):=λfr w ho=>by
 have h:=ho.owns _ hb;simp only[Ow.holds] at h;show imm fr [] w.heap g=_;have hg:=ho.apart g (JN.2 ⟨_,hb,by simp[Ow.ids]⟩);rw[F6 (.inl hg.1) hg.2];exact h
def YO.ixBI{t el len sz:Nat}{x y:ni}{b q:Nat}{j:Int}(ht:QZ P t el len sz)(hx:ev e x=some (.pointer (some ⟨b,q,none⟩)))(hy:ev e y=some (nj j))(h0:0<=j)(hk':j<len) :
  YO P (.indexAddr t x y) ty e bx F (.pointer (some ⟨b,q+j.toNat*sz,none⟩)):=
 YO.ixB ht hx (k:=j.toNat) (by rw[hy];congr 2;omega) qo
def isNil:nA->Bool
 |.slice none _ _=>true
 |_=>false
def Fh{t el:nl}{a:Option Addr}{l c:Nat}(d:Nat)(w:nm)(h:P.underlying t=some (.slice el)):(Op.equalIn (d+1) t (.slice a l c) nz).run P w=.ok (isNil (.slice a l c)) w:=by
 cases a<;>simp[Op.equalIn,run_underlying h,isNil]
def ev_eqnil{t el:nl}{a:Option Addr}{l c:Nat}(d:Nat)(w:nm)(es:Array Event)(h:P.underlying t=some (.slice el)):(Op.equalIn (d+1) t (.slice a l c) nz).events P w es=es:=by
 cases a<;>simp[Op.equalIn,run_underlying h]
def YO.eqNil{t el n:Nat}{x:ni}(hs:Qh P t el 1)(hx:ev e x=some v)(hv:KnS bx F v n)(ty2:nl):YO P (.binOp .eql t x (.const nz) ty2) ty e bx F (.bool (isNil v)):=.of λk fr a w o hop hk ho=>by
 have hx':=hk.eval hx;obtain⟨a',cap,rfl,_,_,h5⟩:=(hv fr w ho).is;have he:(eqGuard .eql t x (.const nz) (.slice a' n cap) nz).run P w=.ok () w:=by unfold eqGuard;simp[Sem.run_pure]
 have h2:a.eval (.const nz)=nz:=rfl;have h3:(Op.equal t (.slice a' n cap) nz).run P w=.ok (isNil (.slice a' n cap)) w:=Fh 9999 w hs.1;have he2:∀es,(eqGuard .eql t x (.const nz) (.slice a' n cap) nz).events P w es=es:=λes=>by unfold eqGuard;simp
 have h4:∀es,(Op.equal t (.slice a' n cap) nz).events P w es=es:=λes=>ev_eqnil 9999 w es hs.1;constructor<;>simp[execOp,hop,hx',h2,he,he2,binOp,h3,h4]
def YO.Z8{t el n:Nat}{x:ni}{ty2:nl}(hs:Qh P t el 1)(hx:ev e x=some v)(hv:KnS bx F v n)(h:isNil v=true):YO P (.binOp .eql t x (.const (.slice none 0 0)) ty2) ty e bx F (.bool true):=by rw[<-h];exact YO.eqNil hs hx hv ty2
def YO.Z7{t el n:Nat}{x:ni}{ty2:nl}(hs:Qh P t el 1)(hx:ev e x=some v)(hv:KnS bx F v n)(h:isNil v=false):YO P (.binOp .eql t x (.const (.slice none 0 0)) ty2) ty e bx F (.bool false):=by rw[<-h];exact YO.eqNil hs hx hv ty2
def WC.Gv{n:Nat}{c:Code}{Q:Post}{l:nd}(hf:Has F (sI v l))(hn:isNil v=true)(h:l=[]->WC P n c e bx F Q):WC P n c e bx F Q:=
 WC.pure (λfr w ho=>by
  obtain⟨a,cap,rfl,h2,h3,h4|⟨b,off,rfl,_⟩⟩:=ho.has hf
  .exact bB h4.2.1
  .cases hn) h
end W
namespace W
variable {P:nh}{e:Env}{bx bx' b0:nw}{F F0 F':nc}{ty:nl}{v u:nA}
def HN{t:nl}{a b:Bool}(d:Nat)(w:nm)(h:P.underlying t=some .bool):(Op.equalIn (d+1) t (.bool a) (.bool b)).run P w=.ok (a == b) w:=by
 simp[Op.equalIn,run_underlying h]
def GU{t:nl}{a b:Bool}(d:Nat)(w:nm)(es:Array Event)(h:P.underlying t=some .bool):(Op.equalIn (d+1) t (.bool a) (.bool b)).events P w es=es:=by
 simp[Op.equalIn,run_underlying h]
def Vk(P:nh)(t:nl):Prop:=P.underlying t=some .bool
section
variable {t t':nl}{x y:ni}{a b:Bool}
def YO.beq(ht:Vk P t)(hx:ev e x=some (.bool a))(hy:ev e y=some (.bool b)):YO P (.binOp .eql t x y t') ty e bx F (.bool (a == b)):=.of λn fr ac w o hop hk _=>by
 have hx':=hk.eval hx;have hy':=hk.eval hy;have he:(eqGuard .eql t x y (.bool a) (.bool b)).run P w=.ok () w:=by unfold eqGuard;simp[Sem.run_pure]
 have he2:∀es,(eqGuard .eql t x y (.bool a) (.bool b)).events P w es=es:=λes=>by unfold eqGuard;simp
 have h3:(Op.equal t (.bool a) (.bool b)).run P w=.ok (a == b) w:=HN 9999 w ht;have h4:∀es,(Op.equal t (.bool a) (.bool b)).events P w es=es:=λes=>GU 9999 w es ht;constructor<;>simp[execOp,hop,hx',hy',he,he2,binOp,h3,h4]
def YO.bne(ht:Vk P t)(hx:ev e x=some (.bool a))(hy:ev e y=some (.bool b)):YO P (.binOp .neq t x y t') ty e bx F (.bool (!(a == b))):=.of λn fr ac w o hop hk _=>by
 have hx':=hk.eval hx;have hy':=hk.eval hy;have he:(eqGuard .neq t x y (.bool a) (.bool b)).run P w=.ok () w:=by unfold eqGuard;simp[Sem.run_pure]
 have he2:∀es,(eqGuard .neq t x y (.bool a) (.bool b)).events P w es=es:=λes=>by unfold eqGuard;simp
 have h3:(Op.equal t (.bool a) (.bool b)).run P w=.ok (a == b) w:=HN 9999 w ht;have h4:∀es,(Op.equal t (.bool a) (.bool b)).events P w es=es:=λes=>GU 9999 w es ht;constructor<;>simp[execOp,hop,hx',hy',he,he2,binOp,h3,h4]
def YO.beq_t(ht:Vk P t)(hx:ev e x=some (.bool a))(hy:ev e y=some (.bool b))(h:a=b):YO P (.binOp .eql t x y t') ty e bx F (.bool true):=by subst h;simpa using YO.beq (P:=P) (ty:=ty) (bx:=bx) (F:=F) (t':=t') ht hx hy
def YO.beq_f(ht:Vk P t)(hx:ev e x=some (.bool a))(hy:ev e y=some (.bool b))(h:a≠b):YO P (.binOp .eql t x y t') ty e bx F nq:=by
 have:=YO.beq (P:=P) (ty:=ty) (bx:=bx) (F:=F) (t':=t') ht hx hy
 rwa [show(a == b)=false from by simpa using h] at this
def YO.bne_t(ht:Vk P t)(hx:ev e x=some (.bool a))(hy:ev e y=some (.bool b))(h:a≠b):YO P (.binOp .neq t x y t') ty e bx F (.bool true):=by
 have:=YO.bne (P:=P) (ty:=ty) (bx:=bx) (F:=F) (t':=t') ht hx hy
 rwa [show(a == b)=false from by simpa using h] at this
def YO.bne_f(ht:Vk P t)(hx:ev e x=some (.bool a))(hy:ev e y=some (.bool b))(h:a=b):YO P (.binOp .neq t x y t') ty e bx F nq:=by subst h;simpa using YO.bne (P:=P) (ty:=ty) (bx:=bx) (F:=F) (t':=t') ht hx hy
end
section
variable {t t':nl}{x y:ni}{i j:Int}
def YO.uquo(hx:ev e x=some (.int .u64 i))(hy:ev e y=some (.int .u64 j))(h1:0<=i)(h2:0<j)(h3:i<=18446744073709551615):YO P (.binOp .quo t x y t') ty e bx F (.int .u64 (i/j)):=
 YO.ii hx hy λw=>by
  have hj:¬j=0:=qo;have h4:i.tdiv j=i/j:=dB h1;have h5:i/j<=i:=eN _ h1;have h6:0<=i/j:=cg h1 qo;simp[binOp,Op.intDiv,hj,h4,wrap_u64 h6 qo]
def YO.urem(hx:ev e x=some (.int .u64 i))(hy:ev e y=some (.int .u64 j))(h1:0<=i)(h2:0<j):YO P (.binOp .rem t x y t') ty e bx F (.int .u64 (i%j)):=
 YO.ii hx hy λw=>by
  have hj:¬j=0:=qo;have h4:i.tmod j=i%j:=dy h1;simp[binOp,Op.intDiv,hj,h4]
def YO.umul(hx:ev e x=some (.int .u64 i))(hy:ev e y=some (.int .u64 j))(h1:0<=i*j)(h2:i*j<=18446744073709551615):YO P (.binOp .mul t x y t') ty e bx F (.int .u64 (i*j)):=
 YO.ii hx hy λw=>by rw[run_mul,wrap_u64 h1 h2]
def Fo{n:Int}(h:-18446744073709551616<=n)(h2:n<0):IntKind.u64.wrap n=n+18446744073709551616:=by
 simp only[IntKind.wrap,IntKind.bits,IntKind.signed,Bool.false_and];simp;omega
def YO.convN{s d:nl}{ks:IntKind}(hd:QX P d .u64)(hs:QX P s ks)(hx:ev e x=some (nj i))(h1:-9223372036854775808<=i)(h2:i<0):YO P (.convert s d x) ty e bx F (.int .u64 (i+18446744073709551616)):=by
 have:=YO.conv (P:=P) (bx:=bx) (F:=F) (ty:=ty) hd hs hx
 rwa [Fo qo h2] at this
def YO.uneg(hx:ev e x=some (.int .u64 i))(h1:0<i)(h2:i<18446744073709551616):YO P (.unOp .neg t x) ty e bx F (.int .u64 (18446744073709551616-i)):=
 .of λn fr a w o hop hk _=>by
  have:IntKind.u64.wrap (-i)=18446744073709551616-i:=by rw[Fo qo qo];omega
  constructor<;>simp[execOp,hop,hk.eval hx,Op.unary,Op.intArith,this]
end
section
def YO.QR{P:nh}{e:Env}{bx:nw}{F:nc}{ty:nl}{s i off:Nat}{x:ni}{b q r:Nat}(hf:Qj P s i off)(hx:ev e x=some (.pointer (some ⟨b,q,none⟩)))(hr:q+off=r):YO P (.fieldAddr s x i) ty e bx F (.pointer (some ⟨b,r,none⟩)):=by subst hr;exact YO.fieldAddr hf hx
def YO.ixNI{P:nh}{e:Env}{bx:nw}{F:nc}{ty:nl}{t el len sz:Nat}{x y:ni}{b q r:Nat}{j:Int}(ht:QZ P t el len sz)(hx:ev e x=some (.pointer (some ⟨b,q,none⟩)))(hy:ev e y=some (nj j))(h0:0<=j)(hk':j<len)(hr:q+j.toNat*sz=r):YO P (.indexAddr t x y) ty e bx F (.pointer (some ⟨b,r,none⟩)):=by subst hr;exact YO.ixBI ht hx hy h0 hk'
end
def resl3:nA->Nat->ng
 |.slice a _ _,n,m=>.slice a n m
 |v,_,_=>v
def YO.slice3{t el sz m:Nat}{x y z:ni}{n:Nat}(ht:Qh P t el sz)(hx:ev e x=some v)(hv:KnS bx F v m)(hy:ev e y=some (nj n))(hz:ev e z=some (nj n))(h2:n<=m)(h0:0<n) :
  YO P (.slice t x none (some y) (some z)) ty e bx F (resl3 v n n):=
 .of λk fr ac w o hop hk ho=>by
  obtain⟨hu,i,hi',hsz⟩:=ht;obtain⟨a',cap,rfl,h3,h4,h5⟩:=(hv fr w ho).is;have hcz:P.cellsOf el=sz:=by simp[Program.cellsOf,hi',hsz]
  have hbc:n<=cap:=qo;have hx':=hk.eval hx;have hy':=hk.eval hy;have hz':=hk.eval hz;have hs:∀w,(sizeOf el).run P w=.ok sz w:=λw=>by simpa [hsz,hcz] using run_sizeOf (P:=P) w hi'
  have hn0:¬n=0:=qo;constructor<;>simp[execOp,hop,hx',hy',hz',Instr.sliceAt,run_underlying hu,Instr.slice,Instr.sliceBounds,Instr.sliceBound,asIntOf,hs,resl3,hbc,hn0,Addr.add_lit]
  rcases h5 with ⟨rfl,rfl,rfl⟩|⟨b,off,rfl⟩
  .omega
  .simp[Addr.add_lit]
def Has.res3{l:nd}{n:Nat}(h:Has F (sI v l))(h2:n<=l.length):Has F (sI (resl3 v n n) (l.take n)):=λph hf=>by
 obtain⟨a,cap,rfl,h3,h4,h5⟩:=h ph hf;have hl:(l.take n).length=n:=by simp;omega
 show(slC _ (l.take n).length 1 _).p ph;rw[hl];refine⟨_,_,rfl,ai _,by omega,?_⟩;rcases h5 with ⟨rfl,h6,rfl⟩|⟨b,off,rfl,c,t,fz,h6,h7⟩
 .left;refine⟨rfl,by omega,by omega⟩
 .right;refine⟨b,off,rfl,c,t,fz,h6,λj hj=>?_⟩;rw[h7 j qo];simp only[List.getD_eq_getElem?_getD,List.getElem?_take];rw[ah qo]
def YO.ldW{t tg g m:Nat}{x:ni}{cs:ne}(hs:Row P t m)(hx:ev e x=some (.pointer (some ⟨g,0,none⟩)))(hb:Ow.cells g tg cs∈bx)(hm:cs.length=m):YO P (.load t x) ty e bx F (.agg cs.toArray):=YO.ldRB hs hx hb hm (by subst hm;simp)
def YO.ld42{t tg g:Nat}{x:ni}{a b c d:nA}(hs:Row P t 2)(hx:ev e x=some (.pointer (some ⟨g,2,none⟩)))(hb:Ow.cells g tg [a,b,c,d]∈bx):YO P (.load t x) ty e bx F (.agg #[c,d]):=YO.ldRB hs hx hb (us:=[c,d]) rfl rfl
def YO.ld40{t tg g:Nat}{x:ni}{a b c d:nA}(hs:Row P t 2)(hx:ev e x=some (.pointer (some ⟨g,0,none⟩)))(hb:Ow.cells g tg [a,b,c,d]∈bx):YO P (.load t x) ty e bx F (.agg #[a,b]):=YO.ldRB hs hx hb (us:=[a,b]) rfl rfl
def YO.ld51{t tg g:Nat}{x:ni}{f a b c d:nA}(hs:Row P t 4)(hx:ev e x=some (.pointer (some ⟨g,1,none⟩)))(hb:Ow.cells g tg [f,a,b,c,d]∈bx):YO P (.load t x) ty e bx F (.agg #[a,b,c,d]):=YO.ldRB hs hx hb (us:=[a,b,c,d]) rfl rfl
def YO.ldRO{t el sz m:Nat}{x:ni}{j:Nat}{cs us:ne}(hs:Row P t m)(hx:ev e x=some (.pointer (some (eaddr v j))))(hb:Ow.slice v el sz cs∈bx)(hm:us.length=m)(hu:∀i,i<m->cs[j+i]?=us[i]?):YO P (.load t x) ty e bx F (.agg us.toArray):=
 YO.ldRow (by rw[hm];exact hs) hx (XP _ _) λfr w ho i u hv=>by
  have hi:i<m:=by rw[<-hm];exact(List.getElem?_eq_some_iff.1 hv).1
  have:=YK (ho.owns _ hb) (show cs[j+i]?=some u by rw[hu i hi];exact hv);rw[<-UM] at this;exact this
def Z1{cs vs:ne}{q:Nat}(h:q+vs.length<=cs.length):(Jp cs q vs).length=cs.length:=by simp[Jp];omega
def LO.storeOR{t el sz:nl}{x y:ni}{K:Qd}{j:Nat}{cs cs' vs:ne}(hx:ev e x=some (.pointer (some (eaddr v j))))(hy:ev e y=some (.agg vs.toArray))
  (hsz:Row P t vs.length) (h1:QB bx F vs) (hs:Sel bx (.slice v el sz cs) (.slice v el sz cs') bx') (hj:j+vs.length<=cs.length) (h0:0<vs.length) (hcs:Jp cs j vs=cs')
  (h:K undef bx' F):LO P (.store t x y) ty e bx F K:=LO.FV h1 λh1=>.of λn fr a w o hop hk ho=>by
 subst hcs;obtain⟨m,h2,⟨rfl,h3⟩|⟨g,cap,sp,rfl,h3,h4,h5,h6⟩⟩:=ho.owns _ hs.mem
 .subst h3;simp at h2;subst h2;simp only[bF] at hj;omega
 .obtain⟨i,hi,hisz⟩:=Option.map_eq_some_iff.1 hsz.2;have hst:=run_storeCells_at P g j el vs 0 (cs++sp).toArray w h5 (by simp;omega) h1;have hc:P.cellsOf t=vs.length:=by simp[Program.cellsOf,hi,hisz]
  have heq:(List.take j (cs++sp)++vs++List.drop (j+vs.length) (cs++sp))=Jp cs j vs++sp:=by
   rw[cY qo,List.drop_append_of_le_length qo];simp[Jp]
  have hlen:=Z1 hj;refine⟨undef,w.setRow g (Jp cs j vs++sp).toArray,bx',F,.inr ⟨?_,rfl⟩,Zh (P:=P) (o:=j) (vs:=vs) (ho.own hs.mem (by simp[Ow.ids])) h5 (by simp;omega) h1 ?_,ho.sel hs wq77 ?_ ?_ ?_ ?_,h⟩
  .rw[<-heq];simp only[cC] at hst;simp[execOp,hop,hk.eval hx,hk.eval hy,Instr.storeAt,Instr.sureAddr,storeVar,run_sizeOf w hi,hisz,Value.cells,hc,eaddr,hst]
  .simp only[cC] at hst;simp[execOp,hop,hk.eval hx,hk.eval hy,Instr.storeAt,Instr.sureAddr,storeVar,sizeOf,typeInfo,run_sizeOf w hi,hi,hisz,Value.cells,hc,eaddr,hst]
  .intro k _ hk2;exact setRow_other w g k _ (by simpa [Ow.ids] using hk2)
  .intro k hk1;exact .inl hk1
  .simp[Ow.ids]
  .exact⟨m,by rw[hlen];exact h2,.inr ⟨g,cap,sp,rfl,h3,h4,setRow_heap w g _ _ el (0,0) h5,by simp[hlen];simpa using h6⟩⟩
def ints_setW{l:nd}{j:Nat}{n:Int}:(ints l).set j (nj n)=ints (l.set j n):=by simp[ints,List.map_set]
def LO.XE{t el:nl}{x y:ni}{K:Qd}{j:Nat}{n:Int}{l:nd}(hx:ev e x=some (.pointer (some (eaddr v j))))(hy:ev e y=some (nj n))
  (hz:(P.info? t).map (·.size)=some 1) (hs:Sel bx (.slice v el 1 (ints l)) (.slice v el 1 (ints (l.set j n))) bx') (hj:j<l.length) (h:K undef bx' F):LO P (.store t x y) ty e bx F K:=
 LO.J2 hx hy hz (One.lit rfl rfl) hs (by simpa using hj) ints_setW h
def ev_copy{w:nm}{dT sT ty elem:nl}{g o dLen dCap:Nat}{a:Addr}{sLen sCap:Nat}{cur:Array nA}{t:nl}{cs:ne}
  (hu:P.underlying dT=some (.slice elem)) (hs:(P.info? elem).map (·.size)=some 1) (hg:w.heap[g]?=some (.cells cur t (0,0))) (hn:cs.length=Nat.min sLen dLen)
  (hsrc:∀j v,cs[j]?=some v->w.cell? (a.add j)=some v) (hfit:o+cs.length<=cur.size) (h1:∀v∈cs,v.oneCell'=true) :
  (Builtin.copy_ #[dT,sT] ty #[.slice (some ⟨g,o,none⟩) dLen dCap,.slice (some a) sLen sCap]).events P w #[]=(storeCells ⟨g,o,none⟩ cs 0).events P w ((loadCells a cs.length).events P w #[]):=by
 have hl:=run_loadCells_list (P:=P) w a cs hsrc;have hst:=run_storeCells_at P g o t cs 0 cur w hg (by simpa using hfit) h1;cases hq:P.info? elem with
 |none=>simp[hq] at hs
 |some i=>
  have hi:i.size=1:=by simpa [hq] using hs
  simp[Builtin.copy_,run_underlying hu,Builtin.lenOf,Builtin.firstCells,sizeOf,typeInfo,hq,hi,<-hn,hl,hst]
def LO.copyI{t el:nl}{x y:ni}{K:Qd}{l a:nd}(ht:Qh P t el 1)(hx:ev e x=some v)(hy:ev e y=some u)(hs:Sel bx (.slice v el 1 (ints l)) (.slice v el 1 (ints a)) bx')(hu:Has F (sI u a))(hl:l.length=a.length)(h0:0<a.length)
  (h:K (.int .i64 (a.length:Int)) bx' F):LO P (.call {callee:=.builtin .copy,args:=#[x,y],argTypes:=#[t,t]}) ty e bx F K:=.of λk fr ac w o hop hk ho=>by
 obtain⟨m,h2,⟨rfl,h3⟩|⟨g,cap,sp,rfl,h3,h4,h5,h6⟩⟩:=ho.owns _ hs.mem
 .subst h3;simp at h2;subst h2;simp at hl;omega
 .have hml:m=a.length:=by simp at h2;omega
  have hfu:=ho.has hu;obtain⟨ad,c,rfl,h7,h8,⟨rfl,h9,_⟩|⟨b,off,rfl,h9⟩⟩:=id hfu
  .omega
  .have hsz:(P.info? el).map (·.size)=some 1:=by
    obtain⟨_,i,hi,hi2⟩:=ht;simp[hi,hi2]
   have hsrc:∀j v,(ints a)[j]?=some v->w.cell? ((⟨b,off,none⟩:Addr).add j)=some v:=(λj v hj=>by
    have hja:j<a.length:=by simpa using (List.getElem?_eq_some_iff.1 hj).1
    have:=Us hfu (j:=j) qo;rw[Addr.add_lit];simp only[eaddr] at this;rw[this];simp[List.getElem?_eq_getElem hja] at hj;simp[List.getD_eq_getElem?_getD,hja,hj])
   have hst:=run_copy_row (P:=P) w t t o.type el g 0 m cap ⟨b,off,none⟩ a.length c (ints l++sp).toArray el (ints a) ht.1 hsz h5 (by simp[hml]) hsrc (by simp;omega) (K9 a);have hcp:=ev_copy (P:=P) (w:=w) (dT:=t) (sT:=t) (ty:=o.type) (dCap:=cap) (sCap:=c) ht.1 hsz h5 (o:=0) (sLen:=a.length) (dLen:=m) (by simp[hml]) hsrc (by simp;omega) (K9 a);have hmb:fr.own b\/fr.sh b:=by obtain⟨c',t',fz,h10,_⟩:=h9;exact CF.vs_w (Yq h10)
   have hog:fr.own g:=ho.own hs.mem (by simp[Ow.ids])
   have heq:((ints l++sp).toArray.toList.take 0++ints a++(ints l++sp).toArray.toList.drop (0+(ints a).length))=ints a++sp:=by
    simp[<-hl]
   rw[heq] at hst;refine⟨.int .i64 (a.length:Int),w.setRow g (ints a++sp).toArray,bx',F,.inl ?_,⟨⟨rfl,rfl,rfl⟩,by rw[size_setRow];exact ai _,λk _ hk2=>setRow_other w g k _ (λh=>hk2 (h ▸ hog)),λev hev=>?_⟩,ho.sel hs wq77 ?_ ?_ ?_ ?_,h⟩
   .have hx':=hk.eval hx;have hy':=hk.eval hy;simp[execOp,hop,resolve,hx',hy',invoke,builtin,hst,goInt]
   .have hx':=hk.eval hx;have hy':=hk.eval hy
    have he:(execOp ac.eval o).events P w #[]=(Builtin.copy_ #[t,t] o.type #[.slice (some ⟨g,0,none⟩) m cap,.slice (some ⟨b,off,none⟩) a.length c]).events P w #[]:=by
     simp[execOp,hop,resolve,hx',hy',invoke,builtin,hst]
    rw[he,hcp] at hev;rcases events_storeCells_at g 0 el (ints a) 0 (ints l++sp).toArray w _ h5 (by simp;omega) (K9 a) ev hev with h|⟨ad,h2,h3⟩
    .exact((Hy (P:=P) (fr:=fr) (cs:=ints a) (λ_ _=>hmb) (λi v hv=>by have:=hsrc i v hv;rwa [Addr.add_lit] at this) (ints a).length 0 #[] #[] qo (Reads.none fr)).ok ev h).mono λ_ h=>.inl h
    .exact .inl ⟨ad,h2,.inl (.inl (h3 ▸ hog))⟩
   .intro k _ hk2;exact setRow_other w g k _ (by simpa [Ow.ids] using hk2)
   .intro k hk1;exact .inl hk1
   .simp[Ow.ids]
   .exact⟨m,by simp[hml],.inr ⟨g,cap,sp,rfl,h3,h4,setRow_heap w g _ _ el (0,0) h5,by simp;simpa [hl] using h6⟩⟩
def Qf.cV{fn:Func}{t:Tmp}{ty:nl}{g tg m:Nat}{cs:ne}(h:fn.results=#[.cell t ty])(hl:look e t=some (.pointer (some ⟨g,0,none⟩)))(hb:Ow.cells g tg cs∈bx)(hr:Row P ty m)(hm:cs.length=m):Qf P fn e bx F (.agg cs.toArray):=λn fr a w hk ho=>by
 have he:=KU (P:=P) (fr:=fr) (w:=w) (t:=ty) (b:=g) (q:=0) (cs:=cs) (es:=#[]) (by rw[hm];exact hr) (λ_ _=>.inl (ho.own hb (by simp[Ow.ids]))) (λi v hv=>by rw[aR,JV (ho.owns _ hb)];exact hv) (Reads.none fr);obtain⟨⟨d,hu,hd⟩,hi⟩:=hr;have h1:a.tmps[t]?.getD undef=.pointer (some ⟨g,0,none⟩):=by rw[hk.at' _ _ hl];rfl
 have h2:=run_loadVar_mid (P:=P) w g 0 ty cs d (λi v hv=>by rw[aR,JV (ho.owns _ hb)];exact hv) hu hd (by rw[hi];simp[hm]);simp only[results,h];refine⟨by simp[h1,asAddr,h2],?_⟩;have h3:=he.ok;simpa [h1,asAddr,h2] using h3
def rcV{P:nh}{fn:Func}{e:Env}{bx:nw}{F:nc}{t:Tmp}{ty:nl}{g tg m:Nat}{cs:ne}{v:nA}(hr:Row P ty m)(h:fn.results=#[.cell t ty]:=by exact rfl)(hl:look e t=some (.pointer (some ⟨g,0,none⟩)):=by exact rfl)(hb:Ow.cells g tg cs∈bx:=by exact meA)(hm:cs.length=m:=by exact rfl)(hv:Value.agg cs.toArray=v:=by exact rfl):Qf P fn e bx F v:=hv ▸ Qf.cV h hl hb hr hm
def Fp{P:nh}{fn:Func}{e:Env}{bx:nw}{F:nc}{h0:PH}{R:Qd}{v:nA}(F':nc)(hr:Qf P fn e bx F v)(hF:Qz F F')(h:R v [] F')(hg:ge h0∈F:=by exact meA):Fin P fn h0 R e bx F:=Fin.p [] F' hr hg (bM _) hF h
def fO{P:nh}{f:np}{fn:Func}{c:Code}{args:ne}{bx:nw}{F:nc}{R:Qd}(e0:Env)(n:Nat)(hf:P.funcs[f]?=some fn)(hn:fn.ntmps=n)(h:∀h0,WC P n c e0 bx (ge h0::F) (retQ P fn h0 R))(hb:fn.body=some c:=by exact rfl)(hname:(fn.name == "runtime.NumGoroutine")=false:=by kernel_rfl)(hargs:Nat.ble args.length n=true:=by exact rfl)(he:Sub e0 (parEnv 0 args):=by exact suA):FnB P f args bx F R:=fn_of e0 n hf hb hn hname hargs he h
section
variable {n:Nat}{L rest:List Oper}{Q:Env->nw->nc->Prop}{d i:Nat}{pos:String}{af:Array Edge}{g:Option (Nat×Bool)}{hs:List Nat}{r:Plan}{f:np}{x:ni}{args:List ni}{ats:Array nl}{vs first cap:ne}{R:Qd}
def WD.facts(hF:∀fr w,OK fr bx F w->OK fr bx F' w)(h:WD P n L hs b0 F0 r e bx F' Q):WD P n L hs b0 F0 r e bx F Q:=λfr w0 listed a w fuel Q' h1 h2 h3 h4 h5 h6 hk hr ho hf=>h fr w0 listed a w fuel Q' h1 h2 h3 h4 h5 h6 hk hr (hF fr w ho) hf
end
end W
end
abbrev BB:Int:=1000000000
def val:nd->Int
 |[]=>0
 |d::r=>d+BB*val r
abbrev Dgt(x:Int):Prop:=0<=x/\x<BB
def Dg(l:nd):Prop:=∀j,j<l.length->Dgt (l.getD j 0)
def Qx(n:Nat):nd:=if h:n=0 then[] else((n%1000000000:Nat):Int)::Qx (n/1000000000)
decreasing_by omega
def Nrm(l:nd):Prop:=0<l.length->l.getD (l.length-1) 0≠0
def JJ:Qx 0=[]:=by rw[Qx];simp
def Xz{n:Nat}(h:n≠0):Qx n=((n%1000000000:Nat):Int)::Qx (n/1000000000):=by rw[Qx];simp[h]
def Dg.nil:Dg []:=λj hj=>by simp at hj
def Dg.cons{x:Int}{l:nd}(h1:Dgt x)(h2:Dg l):Dg (x::l):=λj hj=>by
 match j with
 |0=>exact h1
 |j+1=>rw[bg];exact h2 j (by simpa using hj)
def Dg.head{x:Int}{l:nd}(h:Dg (x::l)):Dgt x:=h 0 (by simp)
def Dg.tail{x:Int}{l:nd}(h:Dg (x::l)):Dg l:=λj hj=>by
 have:=h (j+1) (by simpa using hj)
 rwa [bg] at this
def getD_app1{a b:nd}{j:Nat}(h:j<a.length):(a++b).getD j 0=a.getD j 0:=by
 simp[List.getD_eq_getElem?_getD,List.getElem?_append_left h]
def getD_app2{a b:nd}{j:Nat}(h:a.length<=j):(a++b).getD j 0=b.getD (j-a.length) 0:=by
 simp[List.getD_eq_getElem?_getD,List.getElem?_append_right h]
def Dg.app{a b:nd}(h1:Dg a)(h2:Dg b):Dg (a++b):=λj hj=>by
 by_cases h:j<a.length
 .rw[getD_app1 h];exact h1 j h
 .rw[getD_app2 qo];exact h2 _ (by simp at hj;omega)
def Z9{l:nd}{j n:Nat}(h:j<n):(l.take n).getD j 0=l.getD j 0:=by
 simp[List.getD_eq_getElem?_getD,List.getElem?_take,h]
def Dg.take{l:nd}(h:Dg l)(n:Nat):Dg (l.take n):=λj hj=>by
 rw[ar] at hj;rw[Z9 qo];exact h j qo
def Dg.any{l:nd}(h:Dg l)(j:Nat):Dgt (l.getD j 0):=by
 by_cases hj:j<l.length
 .exact h j hj
 .rw[List.getD_eq_getElem?_getD,List.getElem?_eq_none qo];exact⟨by simp,by show(0:Int)<1000000000;decide⟩
def Qe:∀n,Dg (Qx n):=λn=>by
 induction n using Nat.strongRecOn with
 |_ n ih=>
  by_cases h:n=0
  .subst h;rw[JJ];exact .nil
  .rw[Xz h];exact .cons ⟨by omega,by unfold BB;omega⟩ (ih _ qo)
def Qw:∀n:Nat,val (Qx n)=n:=λn=>by
 induction n using Nat.strongRecOn with
 |_ n ih=>
  by_cases h:n=0
  .subst h;rw[JJ];rfl
  .rw[Xz h,val,ih _ qo];unfold BB;omega
def ZV:∀n,Nrm (Qx n):=λn=>by
 induction n using Nat.strongRecOn with
 |_ n ih=>
  by_cases h:n=0
  .subst h;rw[JJ];intro h;simp at h
  .rw[Xz h];intro _;by_cases h2:n/1000000000=0
   .rw[h2,JJ];show((n%1000000000:Nat):Int)≠0;omega
   .have:=ih (n/1000000000) qo;have hl:0<(Qx (n/1000000000)).length:=by rw[Xz h2];simp
    rw[aK,dw];rw[show(Qx (n/1000000000)).length=((Qx (n/1000000000)).length-1)+1 by omega,bg];exact this hl
def QJ:∀{l:nd},Dg l->0<=val l
 |[],_=>Int.le_refl _
 |x::l,h=>by have:=QJ h.tail;have:=h.head;rw[val];unfold BB at *;omega
def val_inj:∀{a b:nd},Dg a->Dg b->Nrm a->Nrm b->val a=val b->a=b
 |[],[],_,_,_,_,_=>rfl
 |[],y::b,_,h2,_,n2,hv=>by
  exfalso;have h0:=QJ h2.tail;have h1:=h2.head;rw[val,val] at hv;by_cases hb:b=[]
  .subst hb;have:=n2 (by simp);simp at this;rw[val] at hv;unfold BB at *;omega
  .have hv0:val b=0:=by unfold BB at *;omega
   have hbn:b=[]:=by
    have:=val_inj (a:=[]) .nil h2.tail (λh=>by simp at h) (λhl=>by
     have:=n2 (by simp);rw[aK,dw,show b.length=(b.length-1)+1 by omega,bg] at this;exact this) (by rw[hv0];rfl)
    exact this.symm
   exact hb hbn
 |x::a,[],h1,_,n1,_,hv=>by
  exfalso;have h0:=QJ h1.tail;have h2:=h1.head;rw[val,val] at hv;by_cases hb:a=[]
  .subst hb;have:=n1 (by simp);simp at this;rw[val] at hv;unfold BB at *;omega
  .have hv0:val a=0:=by unfold BB at *;omega
   have hbn:a=[]:=val_inj (b:=[]) h1.tail .nil (λhl=>by
     have:=n1 (by simp);rw[aK,dw,show a.length=(a.length-1)+1 by omega,bg] at this;exact this) (λh=>by simp at h) (by rw[hv0];rfl)
   exact hb hbn
 |x::a,y::b,h1,h2,n1,n2,hv=>by
  have hx:=h1.head;have hy:=h2.head;rw[val,val] at hv;have hx':0<=x/\x<1000000000:=hx;have hy':0<=y/\y<1000000000:=hy;have hv':x+1000000000*val a=y+1000000000*val b:=hv;have hxy:x=y/\val a=val b:=qo
  have nt:∀{z:Int} {l:nd},Nrm (z::l)->Nrm l:=λ{z l} hn hl=>by
   have:=hn (by simp);rw[aK,dw,show l.length=(l.length-1)+1 by omega,bg] at this;exact this
  rw[hxy.1,val_inj h1.tail h2.tail (nt n1) (nt n2) hxy.2]
def digs_val{l:nd}(h:Dg l)(hn:Nrm l):l=Qx (val l).toNat:=by
 refine val_inj h (Qe _) hn (ZV _) ?_;rw[Qw,db (QJ h)]
def UQ:∀{a b:nd},val (a++b)=val a+BB^a.length*val b
 |[],b=>by simp[val]
 |x::a,b=>by
  rw[aX,val,val,UQ,aK,eD,Int.mul_add,<-Int.mul_assoc,aT BB (BB^a.length)];omega
def Xx(n:Nat):(0:Int)<BB^n:=Int.pow_pos qd
def Xn:∀{l:nd},Dg l->val l<BB^l.length
 |[],_=>by simp[val]
 |x::l,h=>by
  have h1:=Xn h.tail;have h2:0<=x/\x<1000000000:=h.head;rw[val,aK,eD];have:BB^l.length*BB=BB*BB^l.length:=aT _ _;rw[this];generalize BB^l.length=p at *;show x+1000000000*val l<1000000000*p;omega
def VR:∀n,val (List.replicate n 0)=0
 |0=>rfl
 |n+1=>by rw[eh,val,VR n];rfl
def Dg.rep(n:Nat):Dg (List.replicate n 0):=λj hj=>by
 rw[bC] at hj;simp only[List.getD_eq_getElem?_getD,List.getElem?_replicate,hj,dc,cu];exact⟨by decide,by decide⟩
def H6{l:nd}{k:Nat}(h:k<l.length):l.take (k+1)=l.take k++[l.getD k 0]:=by
 rw[List.take_succ_eq_append_getElem h];simp[List.getD_eq_getElem?_getD,h]
def KX{l:nd}{k:Nat}(h:k<l.length):val (l.take (k+1))=val (l.take k)+BB^k*l.getD k 0:=by
 rw[H6 h,UQ,ar,aF qo];simp[val]
def KJ{l:nd}{k:Nat}(h:l.length<=k):val (l.take k)=val l:=by rw[bo h]
def X5{l:nd}{k:Nat}{x:Int}(h:k<l.length):(l.set k x).take (k+1)=l.take k++[x]:=by
 rw[H6 (by simpa using h)]
 congr 1
 .rw[List.take_set_of_le (ai _)]
 .simp[List.getD_eq_getElem?_getD,h]
def Jc{l:nd}{i j:Nat}{x:Int}:(l.set i x).getD j 0=if i=j/\i<l.length then x else l.getD j 0:=by
 simp only[List.getD_eq_getElem?_getD,List.getElem?_set];by_cases h:i=j
 .subst h;by_cases h2:i<l.length
  .simp[h2]
  .simp[h2]
 .simp[h]
def Dg.set{l:nd}(h:Dg l){k:Nat}{x:Int}(hx:Dgt x):Dg (l.set k x):=λj hj=>by
 rw[Jc];split
 .exact hx
 .exact h j (by simpa using hj)
def X6:∀{l:nd} {k:Nat} {x:Int},k<l.length->val (l.set k x)=val l+BB^k*(x-l.getD k 0)
 |[],k,x,h=>by simp at h
 |y::l,0,x,_=>by simp[val];omega
 |y::l,k+1,x,h=>by
  have ih:=X6 (l:=l) (k:=k) (x:=x) (by simpa using h);rw[ez,val,val,ih,bg,eD,Int.mul_add,aT (BB^k) BB,Int.mul_assoc];omega
def QN{n:Nat}:(Qx n).length=0↔n=0:=by
 constructor
 .intro h;by_cases h2:n=0
  .exact h2
  .rw[Xz h2] at h;simp at h
 .rintro rfl;rw[JJ];rfl
def Jx:∀{k n:Nat},n<1000000000^k->(Qx n).length<=k
 |0,n,h=>by simp at h;subst h;rw[JJ];simp
 |k+1,n,h=>by
  by_cases h2:n=0
  .subst h2;rw[JJ];simp
  .rw[Xz h2,aK];have:=Jx (k:=k) (n:=n/1000000000) (by rw[cP] at h;omega);omega
def Yd{n:Nat}:n<1000000000^(Qx n).length:=by
 have h:=Xn (Qe n);rw[Qw] at h;have:((1000000000^(Qx n).length:Nat):Int)=BB^(Qx n).length:=by simp
 omega
def J1{n:Nat}(h:n≠0)(h2:n<1000000000):Qx n=[(n:Int)]:=by
 rw[Xz h,show n/1000000000=0 by omega,JJ,show n%1000000000=n by omega]
def digs_2{n:Nat}(h:1000000000<=n)(h2:n<1000000000*1000000000):Qx n=[((n%1000000000:Nat):Int),((n/1000000000:Nat):Int)]:=by
 rw[Xz qo,J1 qo qo]
section
open W Go.RowKit
abbrev ptr(g:Nat):nA:=.pointer (some ⟨g,0,none⟩)
def isZ(v:nA)(z:Int):Fct where
 p h:=∃b d,v=.agg #[.bool b,d]/\b=decide (z<0)/\(sI d (Qx z.natAbs)).p h
 mono h h' hl:=by
  rintro⟨b,d,h1,h2,h3⟩;exact⟨b,d,h1,h2,(sI _ _).mono _ _ hl h3⟩
def qz(q:Rat):Int:=if q.den=1 then 0 else q.den
def isQ(v:nA)(q:Rat):Fct where
 p h:=∃b d1 d2,v=.agg #[.bool b,d1,nq,d2]/\b=decide (q.num<0)/\(sI d1 (Qx q.num.natAbs)).p h/\(sI d2 (Qx (qz q).natAbs)).p h
 mono h h' hl:=by
  rintro⟨b,d1,d2,h1,h2,h3,h4⟩;exact⟨b,d1,d2,h1,h2,(sI _ _).mono _ _ hl h3,(sI _ _).mono _ _ hl h4⟩
def qz_nonneg(q:Rat):0<=qz q:=by unfold qz;split<;>omega
section
variable {F:nc}{bx:nw}{v d a b c:nA}{z:Int}{q:Rat}
def QH(h:Has F (isZ (.agg #[a,d]) z)):Has F (sI d (Qx z.natAbs)):=λph hf=>by
 obtain⟨b,d',h1,_,h3⟩:=h ph hf;simp at h1;obtain⟨rfl,rfl⟩:=h1;exact h3
def hasQ_d1(h:Has F (isQ (.agg #[a,d,b,c]) q)):Has F (sI d (Qx q.num.natAbs)):=λph hf=>by
 obtain⟨_,d',_,h1,_,h3,_⟩:=h ph hf;simp at h1;obtain⟨rfl,rfl,rfl,rfl⟩:=h1;exact h3
def Kq(h:Has F (isQ (.agg #[a,b,c,d]) q)):Has F (sI d (Qx (qz q).natAbs)):=λph hf=>by
 obtain⟨_,d',_,h1,_,_,h3⟩:=h ph hf;simp at h1;obtain⟨rfl,rfl,rfl,rfl⟩:=h1;exact h3
def JX(h:Has F (isQ (.agg #[a,d,b,c]) q)):Has F (isZ (.agg #[a,d]) q.num):=λph hf=>by
 obtain⟨x,d',_,h1,h2,h3,_⟩:=h ph hf;simp at h1;obtain⟨rfl,rfl,rfl,rfl⟩:=h1;exact⟨x,d,rfl,h2,h3⟩
def Hb(h:Has F (isQ (.agg #[a,b,c,d]) q)):Has F (isZ (.agg #[c,d]) (qz q)):=λph hf=>by
 obtain⟨x,d',_,h1,h2,_,h3⟩:=h ph hf;simp at h1;obtain⟨rfl,rfl,rfl,rfl⟩:=h1;exact⟨false,d,rfl,by have:=qz_nonneg q;simp;omega,h3⟩
def JC{nb:Bool}(hb:nb=decide (z<0))(h:Has F (sI d (Qx z.natAbs))):Has F (isZ (.agg #[.bool nb,d]) z):=λph hf=>⟨nb,d,rfl,hb,h ph hf⟩
def Ye{nb:Bool}{d1 d2:nA}(hb:nb=decide (q.num<0))(h:Has F (sI d1 (Qx q.num.natAbs)))(h2:Has F (sI d2 (Qx (qz q).natAbs))):Has F (isQ (.agg #[.bool nb,d1,nq,d2]) q):=λph hf=>⟨nb,d1,d2,rfl,hb,h ph hf,h2 ph hf⟩
def KnS.zd(h:Has F (isZ (.agg #[a,d]) z)):KnS bx F d (Qx z.natAbs).length:=KnS.f (QH h)
def KnS.q1(h:Has F (isQ (.agg #[a,d,b,c]) q)):KnS bx F d (Qx q.num.natAbs).length:=KnS.f (hasQ_d1 h)
def KnS.q2(h:Has F (isQ (.agg #[a,b,c,d]) q)):KnS bx F d (Qx (qz q).natAbs).length:=KnS.f (Kq h)
def Gv:Has F (sI nz []):=λ_ _=>⟨none,0,rfl,ai _,by simp[maxLen],.inl ⟨rfl,rfl,rfl⟩⟩
def Hc:Has F (isZ (.agg #[nq,nz]) 0):=JC rfl (by simpa [JJ] using Gv)
def Zw:Has F (isQ (.agg #[nq,nz,nq,nz]) 0):=Ye rfl (by simpa [JJ] using Gv) (by simpa [JJ,qz] using Gv)
section
variable {P:nh}{n:Nat}{L rest:List Oper}{e:Env}{Q:Env->nw->nc->Prop}{c':Code}{Q2:Post}{hs:List Nat}{r:Plan}{b0:nw}{F0:nc}
def opZ{fr:CF}{w:nm}(ho:OK fr bx F w)(h:Has F (isZ v z)):∃nb d,v=.agg #[.bool nb,d]/\nb=decide (z<0):=by
 obtain⟨b,d,h1,h2,_⟩:=ho.has h;exact⟨b,d,h1,h2⟩
def opQ{fr:CF}{w:nm}(ho:OK fr bx F w)(h:Has F (isQ v q)):∃nb d1 d2,v=.agg #[.bool nb,d1,nq,d2]/\nb=decide (q.num<0):=by
 obtain⟨b,d1,d2,h1,h2,_⟩:=ho.has h;exact⟨b,d1,d2,h1,h2⟩
def WC.Jw(hz:Has F (isZ v z))(h:∀nb d,v=.agg #[.bool nb,d]->nb=decide (z<0)->WC P n c' e bx F Q2):WC P n c' e bx F Q2:=λfr w0 a w hk hr ho=>by
 obtain⟨nb,d,h1,h2⟩:=opZ ho hz;exact h nb d h1 h2 fr w0 a w hk hr ho
def WC.JM(hz:Has F (isQ v q))(h:∀nb d1 d2,v=.agg #[.bool nb,d1,nq,d2]->nb=decide (q.num<0)->WC P n c' e bx F Q2):WC P n c' e bx F Q2:=λfr w0 a w hk hr ho=>by
 obtain⟨nb,d1,d2,h1,h2⟩:=opQ ho hz;exact h nb d1 d2 h1 h2 fr w0 a w hk hr ho
def WD.fact(f:Fct)(hf:Has F f)(h:WD P n L hs b0 F0 r e bx (f::F) Q):WD P n L hs b0 F0 r e bx F Q:=WD.facts (λ_ _ ho=>ho.add (ho.has hf)) h
def WL.QD(f:Fct)(hf:Has F f)(h:WL P n L rest e bx (f::F) Q):WL P n L rest e bx F Q:=λfr w0 a w Q' hQ hk hr ho=>h fr w0 a w Q' hQ hk hr (ho.add (ho.has hf))
end
end
def IsZ(z:Int):Qd:=λv b G=>∃nb d,v=.agg #[.bool nb,d]/\nb=decide (z<0)/\b=[]/\G=[isZ (.agg #[.bool nb,d]) z]
def IsQ(q:Rat):Qd:=λv b G=>∃nb d1 d2,v=.agg #[.bool nb,d1,nq,d2]/\nb=decide (q.num<0)/\b=[]/\G=[isQ (.agg #[.bool nb,d1,nq,d2]) q]
def IsDg(z:Int)(m:Nat):Qd:=λv b G=>∃l,b=[]/\G=[sI v l]/\Dg l/\val l=z/\l.length<=m
def mixed:prog.follows .mixedOrders=true:=by kernel_rfl
def Yw:Vk prog 4:=by unfold Vk;kernel_rfl
section
variable {e:Env}{bx:nw}{F:nc}{ty:nl}{x y:ni}{a b c d:nA}{n m:Nat}{nb:Bool}{K:Qd}
def YO.buildZ0:YO prog (.build 73 #[]) ty e bx F (.agg #[nq,nz]):=YO.build (parts:=[]) .nil λw=>run_build w 73 _ _ kr
def YO.buildZ(h1:ev e x=some (.bool nb))(h2:ev e y=some d)(kd:KnS bx F d n):YO prog (.build 73 #[(0,x),(1,y)]) ty e bx F (.agg #[.bool nb,d]):=λk fr ac w o hop hty hk ho=>by
 obtain⟨p1,q1,rfl,_⟩:=(kd fr w ho).is;exact(YO.build (P:=prog) (bx:=bx) (F:=F) (ty:=ty) (parts:=[(0,x),(1,y)]) (.cons h1 (.cons h2 .nil)) λw=>run_build w 73 _ _ kr) k fr ac w o hop hty hk ho
def YO.buildQ0:YO prog (.build 75 #[]) ty e bx F (.agg #[nq,nz,nq,nz]):=YO.build (parts:=[]) .nil λw=>run_build w 75 _ _ kr
def YO.buildQ1(h1:ev e x=some (.agg #[a,b])):YO prog (.build 75 #[(0,x)]) ty e bx F (.agg #[a,b,nq,nz]):=YO.build (parts:=[(0,x)]) (.cons h1 .nil) λw=>run_build w 75 _ _ kr
def YO.buildQ2(h1:ev e x=some (.agg #[a,b]))(h2:ev e y=some (.agg #[c,d])):YO prog (.build 75 #[(0,x),(1,y)]) ty e bx F (.agg #[a,b,c,d]):=YO.build (parts:=[(0,x),(1,y)]) (.cons h1 (.cons h2 .nil)) λw=>run_build w 75 _ _ kr
inductive Jd:Int->Nat->Prop where
 |cast (n:Nat):Jd n n
 |one:Jd 1 1
 |add {i j:Int} {m n:Nat}:Jd i m->Jd j n->Jd (i+j) (m+n)
def Jd.eq{i:Int}{n:Nat}(h:Jd i n):i=n:=by
 induction h with
 |cast n=>rfl
 |one=>rfl
 |add _ _ h1 h2=>rw[h1,h2];simp
def made1(z:nA)(hz:z.cells=#[z])(n:Nat):(madeCells z.cells (n*1)).toList=List.replicate n z:=by
 rw[hz,bP];apply cE
 .simp[madeCells]
 .intro i h1 h2;simp[madeCells,dI]
def LO.makeI{i:Int}(hx:ev e x=some (nj i))(hy:ev e y=some (nj i))(hi:Jd i n)(hb:n<=10000000000000)(h:∀v,K v (Ow.slice v 3 1 (ints (List.replicate n 0))::bx) F):LO prog (.makeSlice 28 x y) ty e bx F K:=by
 obtain rfl:=hi.eq;exact LO.make T.e28 hx hy qo qo (by rw[made1 _ rfl n,ints,List.map_replicate]) h
end
section
variable {P:nh}{n:Nat}{L rest:List Oper}{c:Code}{e:Env}{bx bx':nw}{F:nc}{Q:Post}{Q2:Env->nw->nc->Prop}{v:nA}{el:Nat}{l:nd}
def WC.Q6(hs:Sel bx (.slice v el 1 (ints l)) (.slice nz el 1 []) bx')(h:WC P n c e bx' (sI v l::F) Q):WC P n c e bx F Q:=λfr w0 a w hk hr ho=>h fr w0 a w hk hr (ho.freeze hs (by simp) qd _ λj hj=>by
  have hj':j<l.length:=qo;simp[hj'])
def WL.Q6(hs:Sel bx (.slice v el 1 (ints l)) (.slice nz el 1 []) bx')(h:WL P n L rest e bx' (sI v l::F) Q2):WL P n L rest e bx F Q2:=λfr w0 a w Q' hQ hk hr ho=>h fr w0 a w Q' hQ hk hr (ho.freeze hs (by simp) qd _ λj hj=>by
  have hj':j<l.length:=qo;simp[hj'])
end
end
end Go.Proofs.YtbnobghgnbockaaGreat
