/- Lemmas for a law. Conditions: none. -/
import Derived.Test.YtbnobghgnbockaaGreatProg
import Derived.Test.YtbnobghgnbockaaGreatZg5
set_option linter.all false
set_option maxHeartbeats 32000000
set_option maxRecDepth 100000
namespace Go.Proofs.YtbnobghgnbockaaGreat
namespace T
open W
def sc3:Qv Tryz.prog 3:=Qv.of kr
def u3:QJ Tryz.prog 3 .i64:=by unfold QJ;kernel_rfl
def al3:Qy Tryz.prog 3 [.int .i64 0]:=Qy.of (z:=.int .i64 0) kr kr
def z3:(Tryz.prog.info? 3).map (·.size)=some 1:=by kernel_rfl
def sc4:Qv Tryz.prog 4:=Qv.of kr
def al4:Qy Tryz.prog 4 [.bool false]:=Qy.of (z:=.bool false) kr kr
def s28:Qh Tryz.prog 28 3 1:=Qh.of kr
def Dx:Qv Tryz.prog 28:=Qv.of kr
def e28:Xm Tryz.prog 28 3 1 (.int .i64 0) 8:=⟨by kernel_rfl,by kernel_rfl,by kernel_rfl,by decide⟩
def z28:(Tryz.prog.info? 28).map (·.size)=some 1:=by kernel_rfl
def s61:Qh Tryz.prog 61 75 4:=Qh.of kr
def Dv:Qv Tryz.prog 61:=Qv.of kr
def al61:Qy Tryz.prog 61 [.slice none 0 0]:=Qy.of (z:=.slice none 0 0) kr kr
def e61:Xm Tryz.prog 61 75 4 (.agg #[.bool false,.slice none 0 0,.bool false,.slice none 0 0]) 64:=⟨by kernel_rfl,by kernel_rfl,by kernel_rfl,by decide⟩
def f73_0:Qj Tryz.prog 73 0 0:=Qj.of kr
def f73_1:Qj Tryz.prog 73 1 1:=Qj.of kr
def r73:Row Tryz.prog 73 2:=Row.of kr
def al73:Qy Tryz.prog 73 [.bool false,.slice none 0 0]:=Qy.of (z:=.agg #[.bool false,.slice none 0 0]) kr kr
def f75_0:Qj Tryz.prog 75 0 0:=Qj.of kr
def f75_1:Qj Tryz.prog 75 1 2:=Qj.of kr
def r75:Row Tryz.prog 75 4:=Row.of kr
def al75:Qy Tryz.prog 75 [.bool false,.slice none 0 0,.bool false,.slice none 0 0]:=Qy.of (z:=.agg #[.bool false,.slice none 0 0,.bool false,.slice none 0 0]) kr kr
def s104:Qh Tryz.prog 104 122 7:=Qh.of kr
def Kx:Qv Tryz.prog 104:=Qv.of kr
def al104:Qy Tryz.prog 104 [.slice none 0 0]:=Qy.of (z:=.slice none 0 0) kr kr
def e104:Xm Tryz.prog 104 122 7 (.agg #[.int .i64 0,.slice none 0 0,.slice none 0 0,.bool false,.slice none 0 0,.bool false,.slice none 0 0]) 120:=⟨by kernel_rfl,by kernel_rfl,by kernel_rfl,by decide⟩
def u109:QJ Tryz.prog 109 .u64:=by unfold QJ;kernel_rfl
def s116:Qh Tryz.prog 116 141 5:=Qh.of kr
def Uu:Qv Tryz.prog 116:=Qv.of kr
def e116:Xm Tryz.prog 116 141 5 (.agg #[.slice none 0 0,.bool false,.slice none 0 0,.bool false,.slice none 0 0]) 88:=⟨by kernel_rfl,by kernel_rfl,by kernel_rfl,by decide⟩
def f118_0:Qj Tryz.prog 118 0 0:=Qj.of kr
def f118_1:Qj Tryz.prog 118 1 1:=Qj.of kr
def f118_2:Qj Tryz.prog 118 2 2:=Qj.of kr
def r118:Row Tryz.prog 118 3:=Row.of kr
def al118:Qy Tryz.prog 118 [.int .i64 0,.slice none 0 0,.slice none 0 0]:=Qy.of (z:=.agg #[.int .i64 0,.slice none 0 0,.slice none 0 0]) kr kr
def f122_0:Qj Tryz.prog 122 0 0:=Qj.of kr
def f122_1:Qj Tryz.prog 122 1 1:=Qj.of kr
def f122_2:Qj Tryz.prog 122 2 2:=Qj.of kr
def r122:Row Tryz.prog 122 7:=Row.of kr
def al122:Qy Tryz.prog 122 [.int .i64 0,.slice none 0 0,.slice none 0 0,.bool false,.slice none 0 0,.bool false,.slice none 0 0]:=Qy.of (z:=.agg #[.int .i64 0,.slice none 0 0,.slice none 0 0,.bool false,.slice none 0 0,.bool false,.slice none 0 0]) kr kr
def f141_0:Qj Tryz.prog 141 0 0:=Qj.of kr
def f141_1:Qj Tryz.prog 141 1 1:=Qj.of kr
def r141:Row Tryz.prog 141 5:=Row.of kr
def al141:Qy Tryz.prog 141 [.slice none 0 0,.bool false,.slice none 0 0,.bool false,.slice none 0 0]:=Qy.of (z:=.agg #[.slice none 0 0,.bool false,.slice none 0 0,.bool false,.slice none 0 0]) kr kr
def Uf:Qv Tryz.prog 173:=Qv.of kr
def al173:Qy Tryz.prog 173 [.pointer none]:=Qy.of (z:=.pointer none) kr kr
def s175:Qh Tryz.prog 175 61 1:=Qh.of kr
def Ud:Qv Tryz.prog 175:=Qv.of kr
def e175:Xm Tryz.prog 175 61 1 (.slice none 0 0) 24:=⟨by kernel_rfl,by kernel_rfl,by kernel_rfl,by decide⟩
def f177_0:Qj Tryz.prog 177 0 0:=Qj.of kr
def f177_1:Qj Tryz.prog 177 1 1:=Qj.of kr
def f177_2:Qj Tryz.prog 177 2 2:=Qj.of kr
def f177_3:Qj Tryz.prog 177 3 3:=Qj.of kr
def f177_4:Qj Tryz.prog 177 4 4:=Qj.of kr
def f177_5:Qj Tryz.prog 177 5 5:=Qj.of kr
end T
section
open Go.RowKit
namespace W
variable {P:Program}{e:Env}{bx:List Ow}{F:List Fct}{ty:TypeId}
variable {v u:Value}{bx':List Ow}
inductive QA(bx:List Ow)(F:List Fct):List Value->Prop where
 |nil:QA bx F []
 |cons {u:Value} {us:List Value}:One bx F u->QA bx F us->QA bx F (u::us)
def QA.all{us:List Value}(h:QA bx F us){fr:CF}{w:World}(ho:OK fr bx F w):∀c∈us,c.oneCell'=true:=by
 induction h with
 |nil=>simp
 |cons h _ ih=>intro c hc;rcases List.mem_cons.1 hc with rfl|hc;exact(h fr w ho).2;exact ih c hc
def LO.Fq{op:Op}{K:Qf}{us:List Value}(hu:QA bx F us)(h:(∀c∈us,c.oneCell'=true)->LO P op ty e bx F K):LO P op ty e bx F K:=λn fr a w o K' h1 h2 h3 h4 h5=>
 h (hu.all h4) n fr a w o K' h1 h2 h3 h4 h5
def LO.YJ{t tg:TypeId}{x y:Operand}{K:Qf}{g m:Nat}{cs us:List Value}(hx:ev e x=some (.pointer (some ⟨g,0,none⟩)))(hy:ev e y=some (.agg us.toArray))
  (hs:Sel bx (.cells g tg cs) (.cells g tg us) bx') (hr:Row P t m) (hm:us.length=m) (hm2:cs.length=m) (h1:QA bx F us) (h:K undef bx' F):LO P (.store t x y) ty e bx F K:=
 LO.Fq h1 λh1=>LO.storeA hx hy hs hr hm hm2 h1 h
end W
namespace W
variable {P:Program}{e:Env}{bx bx':List Ow}{F:List Fct}{ty:TypeId}{v u:Value}
def ce(g:Nat)(t:TypeId)(cs:List Value):Fct where
 p h:=h g=some (.cells cs.toArray t (0,0))
 mono _ _ hl hp:=hl _ _ hp
def ce_cell{fr:CF}{w:World}(ho:OK fr bx F w){g:Nat}{t:TypeId}{cs:List Value}(h:Has F (ce g t cs))(q:Nat):w.cell? ⟨g,q,none⟩=cs[q]?:=by
 have:=JX (ho.has h);simp[World.cell?,this]
def YO.ldF{t tg:TypeId}{x:Operand}{g q:Nat}{cs:List Value}(hs:Qv P t)(hx:ev e x=some (.pointer (some ⟨g,q,none⟩)))(hb:Has F (ce g tg cs))(hv:cs[q]?=some v):YO P (.load t x) ty e bx F v:=
 YO.ld hs hx rfl λfr w ho=>by rw[ce_cell ho hb];exact hv
def QQ.c{g:Nat}{t:TypeId}{cs:List Value}(hb:Ow.cells g t cs∈bx):QQ bx F (ce g t cs):=λfr w ho=>by
 have h:=ho.owns _ hb;simp only[Ow.holds] at h;show imm fr [] w.heap g=_;have hg:=ho.apart g (JV.2 ⟨_,hb,by simp[Ow.ids]⟩);rw[FW (.inl hg.1) hg.2];exact h
def YO.ixBI{t el len sz:Nat}{x y:Operand}{b q:Nat}{j:Int}(ht:QV P t el len sz)(hx:ev e x=some (.pointer (some ⟨b,q,none⟩)))(hy:ev e y=some (.int .i64 j))(h0:0<=j)(hk':j<len) :
  YO P (.indexAddr t x y) ty e bx F (.pointer (some ⟨b,q+j.toNat*sz,none⟩)):=
 YO.ixB ht hx (k:=j.toNat) (by rw[hy];congr 2;omega) qo
def isNil:Value->Bool
 |.slice none _ _=>true
 |_=>false
def GP{t el:TypeId}{a:Option Addr}{l c:Nat}(d:Nat)(w:World)(h:P.underlying t=some (.slice el)):(Op.equalIn (d+1) t (.slice a l c) (.slice none 0 0)).run P w=.ok (isNil (.slice a l c)) w:=by
 cases a<;>simp[Op.equalIn,run_underlying h,isNil]
def ev_eqnil{t el:TypeId}{a:Option Addr}{l c:Nat}(d:Nat)(w:World)(es:Array Event)(h:P.underlying t=some (.slice el)):(Op.equalIn (d+1) t (.slice a l c) (.slice none 0 0)).events P w es=es:=by
 cases a<;>simp[Op.equalIn,run_underlying h]
def YO.eqNil{t el n:Nat}{x:Operand}(hs:Qh P t el 1)(hx:ev e x=some v)(hv:KnS bx F v n)(ty2:TypeId):YO P (.binOp .eql t x (.const (.slice none 0 0)) ty2) ty e bx F (.bool (isNil v)):=.of λk fr a w o hop hk ho=>by
 have hx':=hk.eval hx;obtain⟨a',cap,rfl,_,_,h5⟩:=(hv fr w ho).is;have he:(eqGuard .eql t x (.const (.slice none 0 0)) (.slice a' n cap) (.slice none 0 0)).run P w=.ok () w:=by unfold eqGuard;simp[Sem.run_pure]
 have h2:a.eval (.const (.slice none 0 0))=.slice none 0 0:=rfl;have h3:(Op.equal t (.slice a' n cap) (.slice none 0 0)).run P w=.ok (isNil (.slice a' n cap)) w:=GP 9999 w hs.1;have he2:∀es,(eqGuard .eql t x (.const (.slice none 0 0)) (.slice a' n cap) (.slice none 0 0)).events P w es=es:=λes=>by unfold eqGuard;simp
 have h4:∀es,(Op.equal t (.slice a' n cap) (.slice none 0 0)).events P w es=es:=λes=>ev_eqnil 9999 w es hs.1;constructor<;>simp[execOp,hop,hx',h2,he,he2,binOp,h3,h4]
def YO.ZL{t el n:Nat}{x:Operand}{ty2:TypeId}(hs:Qh P t el 1)(hx:ev e x=some v)(hv:KnS bx F v n)(h:isNil v=true):YO P (.binOp .eql t x (.const (.slice none 0 0)) ty2) ty e bx F (.bool true):=by rw[<-h];exact YO.eqNil hs hx hv ty2
def YO.ZN{t el n:Nat}{x:Operand}{ty2:TypeId}(hs:Qh P t el 1)(hx:ev e x=some v)(hv:KnS bx F v n)(h:isNil v=false):YO P (.binOp .eql t x (.const (.slice none 0 0)) ty2) ty e bx F (.bool false):=by rw[<-h];exact YO.eqNil hs hx hv ty2
def WC.H4{n:Nat}{c:Code}{Q:Post}{l:List Int}(hf:Has F (sI v l))(hn:isNil v=true)(h:l=[]->WC P n c e bx F Q):WC P n c e bx F Q:=
 WC.pure (λfr w ho=>by
  obtain⟨a,cap,rfl,h2,h3,h4|⟨b,off,rfl,_⟩⟩:=ho.has hf
  .exact List.eq_nil_of_length_eq_zero h4.2.1
  .cases hn) h
end W
namespace W
variable {P:Program}{e:Env}{bx bx' b0:List Ow}{F F0 F':List Fct}{ty:TypeId}{v u:Value}
def HZ{t:TypeId}{a b:Bool}(d:Nat)(w:World)(h:P.underlying t=some .bool):(Op.equalIn (d+1) t (.bool a) (.bool b)).run P w=.ok (a == b) w:=by
 simp[Op.equalIn,run_underlying h]
def Gn{t:TypeId}{a b:Bool}(d:Nat)(w:World)(es:Array Event)(h:P.underlying t=some .bool):(Op.equalIn (d+1) t (.bool a) (.bool b)).events P w es=es:=by
 simp[Op.equalIn,run_underlying h]
def U7(P:Program)(t:TypeId):Prop:=P.underlying t=some .bool
section
variable {t t':TypeId}{x y:Operand}{a b:Bool}
def YO.beq(ht:U7 P t)(hx:ev e x=some (.bool a))(hy:ev e y=some (.bool b)):YO P (.binOp .eql t x y t') ty e bx F (.bool (a == b)):=.of λn fr ac w o hop hk _=>by
 have hx':=hk.eval hx;have hy':=hk.eval hy;have he:(eqGuard .eql t x y (.bool a) (.bool b)).run P w=.ok () w:=by unfold eqGuard;simp[Sem.run_pure]
 have he2:∀es,(eqGuard .eql t x y (.bool a) (.bool b)).events P w es=es:=λes=>by unfold eqGuard;simp
 have h3:(Op.equal t (.bool a) (.bool b)).run P w=.ok (a == b) w:=HZ 9999 w ht;have h4:∀es,(Op.equal t (.bool a) (.bool b)).events P w es=es:=λes=>Gn 9999 w es ht;constructor<;>simp[execOp,hop,hx',hy',he,he2,binOp,h3,h4]
def YO.bne(ht:U7 P t)(hx:ev e x=some (.bool a))(hy:ev e y=some (.bool b)):YO P (.binOp .neq t x y t') ty e bx F (.bool (!(a == b))):=.of λn fr ac w o hop hk _=>by
 have hx':=hk.eval hx;have hy':=hk.eval hy;have he:(eqGuard .neq t x y (.bool a) (.bool b)).run P w=.ok () w:=by unfold eqGuard;simp[Sem.run_pure]
 have he2:∀es,(eqGuard .neq t x y (.bool a) (.bool b)).events P w es=es:=λes=>by unfold eqGuard;simp
 have h3:(Op.equal t (.bool a) (.bool b)).run P w=.ok (a == b) w:=HZ 9999 w ht;have h4:∀es,(Op.equal t (.bool a) (.bool b)).events P w es=es:=λes=>Gn 9999 w es ht;constructor<;>simp[execOp,hop,hx',hy',he,he2,binOp,h3,h4]
def YO.beq_t(ht:U7 P t)(hx:ev e x=some (.bool a))(hy:ev e y=some (.bool b))(h:a=b):YO P (.binOp .eql t x y t') ty e bx F (.bool true):=by subst h;simpa using YO.beq (P:=P) (ty:=ty) (bx:=bx) (F:=F) (t':=t') ht hx hy
def YO.beq_f(ht:U7 P t)(hx:ev e x=some (.bool a))(hy:ev e y=some (.bool b))(h:a≠b):YO P (.binOp .eql t x y t') ty e bx F (.bool false):=by
 have:=YO.beq (P:=P) (ty:=ty) (bx:=bx) (F:=F) (t':=t') ht hx hy
 rwa [show(a == b)=false from by simpa using h] at this
def YO.bne_t(ht:U7 P t)(hx:ev e x=some (.bool a))(hy:ev e y=some (.bool b))(h:a≠b):YO P (.binOp .neq t x y t') ty e bx F (.bool true):=by
 have:=YO.bne (P:=P) (ty:=ty) (bx:=bx) (F:=F) (t':=t') ht hx hy
 rwa [show(a == b)=false from by simpa using h] at this
def YO.bne_f(ht:U7 P t)(hx:ev e x=some (.bool a))(hy:ev e y=some (.bool b))(h:a=b):YO P (.binOp .neq t x y t') ty e bx F (.bool false):=by subst h;simpa using YO.bne (P:=P) (ty:=ty) (bx:=bx) (F:=F) (t':=t') ht hx hy
end
section
variable {t t':TypeId}{x y:Operand}{i j:Int}
def YO.uquo(hx:ev e x=some (.int .u64 i))(hy:ev e y=some (.int .u64 j))(h1:0<=i)(h2:0<j)(h3:i<=18446744073709551615):YO P (.binOp .quo t x y t') ty e bx F (.int .u64 (i/j)):=
 YO.ii hx hy λw=>by
  have hj:¬j=0:=qo;have h4:i.tdiv j=i/j:=Int.tdiv_eq_ediv_of_nonneg h1;have h5:i/j<=i:=Int.ediv_le_self _ h1;have h6:0<=i/j:=Int.ediv_nonneg h1 qo;simp[binOp,Op.intDiv,hj,h4,wrap_u64 h6 qo]
def YO.urem(hx:ev e x=some (.int .u64 i))(hy:ev e y=some (.int .u64 j))(h1:0<=i)(h2:0<j):YO P (.binOp .rem t x y t') ty e bx F (.int .u64 (i%j)):=
 YO.ii hx hy λw=>by
  have hj:¬j=0:=qo;have h4:i.tmod j=i%j:=Int.tmod_eq_emod_of_nonneg h1;simp[binOp,Op.intDiv,hj,h4]
def YO.umul(hx:ev e x=some (.int .u64 i))(hy:ev e y=some (.int .u64 j))(h1:0<=i*j)(h2:i*j<=18446744073709551615):YO P (.binOp .mul t x y t') ty e bx F (.int .u64 (i*j)):=
 YO.ii hx hy λw=>by rw[run_mul,wrap_u64 h1 h2]
def G3{n:Int}(h:-18446744073709551616<=n)(h2:n<0):IntKind.u64.wrap n=n+18446744073709551616:=by
 simp only[IntKind.wrap,IntKind.bits,IntKind.signed,Bool.false_and];simp;omega
def YO.convN{s d:TypeId}{ks:IntKind}(hd:QJ P d .u64)(hs:QJ P s ks)(hx:ev e x=some (.int .i64 i))(h1:-9223372036854775808<=i)(h2:i<0):YO P (.convert s d x) ty e bx F (.int .u64 (i+18446744073709551616)):=by
 have:=YO.conv (P:=P) (bx:=bx) (F:=F) (ty:=ty) hd hs hx
 rwa [G3 qo h2] at this
def YO.uneg(hx:ev e x=some (.int .u64 i))(h1:0<i)(h2:i<18446744073709551616):YO P (.unOp .neg t x) ty e bx F (.int .u64 (18446744073709551616-i)):=
 .of λn fr a w o hop hk _=>by
  have:IntKind.u64.wrap (-i)=18446744073709551616-i:=by rw[G3 qo qo];omega
  constructor<;>simp[execOp,hop,hk.eval hx,Op.unary,Op.intArith,this]
end
section
def YO.Jb{P:Program}{e:Env}{bx:List Ow}{F:List Fct}{ty:TypeId}{s i off:Nat}{x:Operand}{b q r:Nat}(hf:Qj P s i off)(hx:ev e x=some (.pointer (some ⟨b,q,none⟩)))(hr:q+off=r):YO P (.fieldAddr s x i) ty e bx F (.pointer (some ⟨b,r,none⟩)):=by subst hr;exact YO.fieldAddr hf hx
def YO.ixNI{P:Program}{e:Env}{bx:List Ow}{F:List Fct}{ty:TypeId}{t el len sz:Nat}{x y:Operand}{b q r:Nat}{j:Int}(ht:QV P t el len sz)(hx:ev e x=some (.pointer (some ⟨b,q,none⟩)))(hy:ev e y=some (.int .i64 j))(h0:0<=j)(hk':j<len)(hr:q+j.toNat*sz=r):YO P (.indexAddr t x y) ty e bx F (.pointer (some ⟨b,r,none⟩)):=by subst hr;exact YO.ixBI ht hx hy h0 hk'
end
def resl3:Value->Nat->Nat->Value
 |.slice a _ _,n,m=>.slice a n m
 |v,_,_=>v
def YO.slice3{t el sz m:Nat}{x y z:Operand}{n:Nat}(ht:Qh P t el sz)(hx:ev e x=some v)(hv:KnS bx F v m)(hy:ev e y=some (.int .i64 (n:Int)))(hz:ev e z=some (.int .i64 (n:Int)))(h2:n<=m)(h0:0<n) :
  YO P (.slice t x none (some y) (some z)) ty e bx F (resl3 v n n):=
 .of λk fr ac w o hop hk ho=>by
  obtain⟨hu,i,hi',hsz⟩:=ht;obtain⟨a',cap,rfl,h3,h4,h5⟩:=(hv fr w ho).is;have hcz:P.cellsOf el=sz:=by simp[Program.cellsOf,hi',hsz]
  have hbc:n<=cap:=qo;have hx':=hk.eval hx;have hy':=hk.eval hy;have hz':=hk.eval hz;have hs:∀w,(sizeOf el).run P w=.ok sz w:=λw=>by simpa [hsz,hcz] using run_sizeOf (P:=P) w hi'
  have hn0:¬n=0:=qo;constructor<;>simp[execOp,hop,hx',hy',hz',Instr.sliceAt,run_underlying hu,Instr.slice,Instr.sliceBounds,Instr.sliceBound,asIntOf,hs,resl3,hbc,hn0,Addr.add_lit]
  rcases h5 with ⟨rfl,rfl,rfl⟩|⟨b,off,rfl⟩
  .omega
  .simp[Addr.add_lit]
def Has.res3{l:List Int}{n:Nat}(h:Has F (sI v l))(h2:n<=l.length):Has F (sI (resl3 v n n) (l.take n)):=λph hf=>by
 obtain⟨a,cap,rfl,h3,h4,h5⟩:=h ph hf;have hl:(l.take n).length=n:=by simp;omega
 show(slC _ (l.take n).length 1 _).p ph;rw[hl];refine⟨_,_,rfl,Nat.le_refl _,by omega,?_⟩;rcases h5 with ⟨rfl,h6,rfl⟩|⟨b,off,rfl,c,t,fz,h6,h7⟩
 .left;refine⟨rfl,by omega,by omega⟩
 .right;refine⟨b,off,rfl,c,t,fz,h6,λj hj=>?_⟩;rw[h7 j qo];simp only[List.getD_eq_getElem?_getD,List.getElem?_take];rw[if_pos qo]
def YO.ldW{t tg g m:Nat}{x:Operand}{cs:List Value}(hs:Row P t m)(hx:ev e x=some (.pointer (some ⟨g,0,none⟩)))(hb:Ow.cells g tg cs∈bx)(hm:cs.length=m):YO P (.load t x) ty e bx F (.agg cs.toArray):=YO.ldRB hs hx hb hm (by subst hm;simp)
def YO.ld42{t tg g:Nat}{x:Operand}{a b c d:Value}(hs:Row P t 2)(hx:ev e x=some (.pointer (some ⟨g,2,none⟩)))(hb:Ow.cells g tg [a,b,c,d]∈bx):YO P (.load t x) ty e bx F (.agg #[c,d]):=YO.ldRB hs hx hb (us:=[c,d]) rfl rfl
def YO.ld40{t tg g:Nat}{x:Operand}{a b c d:Value}(hs:Row P t 2)(hx:ev e x=some (.pointer (some ⟨g,0,none⟩)))(hb:Ow.cells g tg [a,b,c,d]∈bx):YO P (.load t x) ty e bx F (.agg #[a,b]):=YO.ldRB hs hx hb (us:=[a,b]) rfl rfl
def YO.ld51{t tg g:Nat}{x:Operand}{f a b c d:Value}(hs:Row P t 4)(hx:ev e x=some (.pointer (some ⟨g,1,none⟩)))(hb:Ow.cells g tg [f,a,b,c,d]∈bx):YO P (.load t x) ty e bx F (.agg #[a,b,c,d]):=YO.ldRB hs hx hb (us:=[a,b,c,d]) rfl rfl
def YO.ldRO{t el sz m:Nat}{x:Operand}{j:Nat}{cs us:List Value}(hs:Row P t m)(hx:ev e x=some (.pointer (some (eaddr v j))))(hb:Ow.slice v el sz cs∈bx)(hm:us.length=m)(hu:∀i,i<m->cs[j+i]?=us[i]?):YO P (.load t x) ty e bx F (.agg us.toArray):=
 YO.ldRow (by rw[hm];exact hs) hx (XE _ _) λfr w ho i u hv=>by
  have hi:i<m:=by rw[<-hm];exact(List.getElem?_eq_some_iff.1 hv).1
  have:=Ys (ho.owns _ hb) (show cs[j+i]?=some u by rw[hu i hi];exact hv);rw[<-UF] at this;exact this
def ZH{cs vs:List Value}{q:Nat}(h:q+vs.length<=cs.length):(Jk cs q vs).length=cs.length:=by simp[Jk];omega
def LO.storeOR{t el sz:TypeId}{x y:Operand}{K:Qf}{j:Nat}{cs cs' vs:List Value}(hx:ev e x=some (.pointer (some (eaddr v j))))(hy:ev e y=some (.agg vs.toArray))
  (hsz:Row P t vs.length) (h1:QA bx F vs) (hs:Sel bx (.slice v el sz cs) (.slice v el sz cs') bx') (hj:j+vs.length<=cs.length) (h0:0<vs.length) (hcs:Jk cs j vs=cs')
  (h:K undef bx' F):LO P (.store t x y) ty e bx F K:=LO.Fq h1 λh1=>.of λn fr a w o hop hk ho=>by
 subst hcs;obtain⟨m,h2,⟨rfl,h3⟩|⟨g,cap,sp,rfl,h3,h4,h5,h6⟩⟩:=ho.owns _ hs.mem
 .subst h3;simp at h2;subst h2;simp only[List.length_nil] at hj;omega
 .obtain⟨i,hi,hisz⟩:=Option.map_eq_some_iff.1 hsz.2;have hst:=run_storeCells_at P g j el vs 0 (cs++sp).toArray w h5 (by simp;omega) h1;have hc:P.cellsOf t=vs.length:=by simp[Program.cellsOf,hi,hisz]
  have heq:(List.take j (cs++sp)++vs++List.drop (j+vs.length) (cs++sp))=Jk cs j vs++sp:=by
   rw[List.take_append_of_le_length qo,List.drop_append_of_le_length qo];simp[Jk]
  have hlen:=ZH hj;refine⟨undef,w.setRow g (Jk cs j vs++sp).toArray,bx',F,.inr ⟨?_,rfl⟩,Zz (P:=P) (o:=j) (vs:=vs) (ho.own hs.mem (by simp[Ow.ids])) h5 (by simp;omega) h1 ?_,ho.sel hs wq71 ?_ ?_ ?_ ?_,h⟩
  .rw[<-heq];simp only[Nat.add_zero] at hst;simp[execOp,hop,hk.eval hx,hk.eval hy,Instr.storeAt,Instr.sureAddr,storeVar,run_sizeOf w hi,hisz,Value.cells,hc,eaddr,hst]
  .simp only[Nat.add_zero] at hst;simp[execOp,hop,hk.eval hx,hk.eval hy,Instr.storeAt,Instr.sureAddr,storeVar,sizeOf,typeInfo,run_sizeOf w hi,hi,hisz,Value.cells,hc,eaddr,hst]
  .intro k _ hk2;exact setRow_other w g k _ (by simpa [Ow.ids] using hk2)
  .intro k hk1;exact .inl hk1
  .simp[Ow.ids]
  .exact⟨m,by rw[hlen];exact h2,.inr ⟨g,cap,sp,rfl,h3,h4,setRow_heap w g _ _ el (0,0) h5,by simp[hlen];simpa using h6⟩⟩
def ints_setW{l:List Int}{j:Nat}{n:Int}:(ints l).set j (.int .i64 n)=ints (l.set j n):=by simp[ints,List.map_set]
def LO.XY{t el:TypeId}{x y:Operand}{K:Qf}{j:Nat}{n:Int}{l:List Int}(hx:ev e x=some (.pointer (some (eaddr v j))))(hy:ev e y=some (.int .i64 n))
  (hz:(P.info? t).map (·.size)=some 1) (hs:Sel bx (.slice v el 1 (ints l)) (.slice v el 1 (ints (l.set j n))) bx') (hj:j<l.length) (h:K undef bx' F):LO P (.store t x y) ty e bx F K:=
 LO.JB hx hy hz (One.lit rfl rfl) hs (by simpa using hj) ints_setW h
def ev_copy{w:World}{dT sT ty elem:TypeId}{g o dLen dCap:Nat}{a:Addr}{sLen sCap:Nat}{cur:Array Value}{t:TypeId}{cs:List Value}
  (hu:P.underlying dT=some (.slice elem)) (hs:(P.info? elem).map (·.size)=some 1) (hg:w.heap[g]?=some (.cells cur t (0,0))) (hn:cs.length=Nat.min sLen dLen)
  (hsrc:∀j v,cs[j]?=some v->w.cell? (a.add j)=some v) (hfit:o+cs.length<=cur.size) (h1:∀v∈cs,v.oneCell'=true) :
  (Builtin.copy_ #[dT,sT] ty #[.slice (some ⟨g,o,none⟩) dLen dCap,.slice (some a) sLen sCap]).events P w #[]=(storeCells ⟨g,o,none⟩ cs 0).events P w ((loadCells a cs.length).events P w #[]):=by
 have hl:=run_loadCells_list (P:=P) w a cs hsrc;have hst:=run_storeCells_at P g o t cs 0 cur w hg (by simpa using hfit) h1;cases hq:P.info? elem with
 |none=>simp[hq] at hs
 |some i=>
  have hi:i.size=1:=by simpa [hq] using hs
  simp[Builtin.copy_,run_underlying hu,Builtin.lenOf,Builtin.firstCells,sizeOf,typeInfo,hq,hi,<-hn,hl,hst]
def LO.copyI{t el:TypeId}{x y:Operand}{K:Qf}{l a:List Int}(ht:Qh P t el 1)(hx:ev e x=some v)(hy:ev e y=some u)(hs:Sel bx (.slice v el 1 (ints l)) (.slice v el 1 (ints a)) bx')(hu:Has F (sI u a))(hl:l.length=a.length)(h0:0<a.length)
  (h:K (.int .i64 (a.length:Int)) bx' F):LO P (.call {callee:=.builtin .copy,args:=#[x,y],argTypes:=#[t,t]}) ty e bx F K:=.of λk fr ac w o hop hk ho=>by
 obtain⟨m,h2,⟨rfl,h3⟩|⟨g,cap,sp,rfl,h3,h4,h5,h6⟩⟩:=ho.owns _ hs.mem
 .subst h3;simp at h2;subst h2;simp at hl;omega
 .have hml:m=a.length:=by simp at h2;omega
  have hfu:=ho.has hu;obtain⟨ad,c,rfl,h7,h8,⟨rfl,h9,_⟩|⟨b,off,rfl,h9⟩⟩:=id hfu
  .omega
  .have hsz:(P.info? el).map (·.size)=some 1:=by
    obtain⟨_,i,hi,hi2⟩:=ht;simp[hi,hi2]
   have hsrc:∀j v,(ints a)[j]?=some v->w.cell? ((⟨b,off,none⟩:Addr).add j)=some v:=(λj v hj=>by
    have hja:j<a.length:=by simpa using (List.getElem?_eq_some_iff.1 hj).1
    have:=Uc hfu (j:=j) qo;rw[Addr.add_lit];simp only[eaddr] at this;rw[this];simp[List.getElem?_eq_getElem hja] at hj;simp[List.getD_eq_getElem?_getD,hja,hj])
   have hst:=run_copy_row (P:=P) w t t o.type el g 0 m cap ⟨b,off,none⟩ a.length c (ints l++sp).toArray el (ints a) ht.1 hsz h5 (by simp[hml]) hsrc (by simp;omega) (K4 a);have hcp:=ev_copy (P:=P) (w:=w) (dT:=t) (sT:=t) (ty:=o.type) (dCap:=cap) (sCap:=c) ht.1 hsz h5 (o:=0) (sLen:=a.length) (dLen:=m) (by simp[hml]) hsrc (by simp;omega) (K4 a);have hmb:fr.own b\/fr.sh b:=by obtain⟨c',t',fz,h10,_⟩:=h9;exact CF.vs_w (X3 h10)
   have hog:fr.own g:=ho.own hs.mem (by simp[Ow.ids])
   have heq:((ints l++sp).toArray.toList.take 0++ints a++(ints l++sp).toArray.toList.drop (0+(ints a).length))=ints a++sp:=by
    simp[<-hl]
   rw[heq] at hst;refine⟨.int .i64 (a.length:Int),w.setRow g (ints a++sp).toArray,bx',F,.inl ?_,⟨⟨rfl,rfl,rfl⟩,by rw[size_setRow];exact Nat.le_refl _,λk _ hk2=>setRow_other w g k _ (λh=>hk2 (h ▸ hog)),λev hev=>?_⟩,ho.sel hs wq71 ?_ ?_ ?_ ?_,h⟩
   .have hx':=hk.eval hx;have hy':=hk.eval hy;simp[execOp,hop,resolve,hx',hy',invoke,builtin,hst,goInt]
   .have hx':=hk.eval hx;have hy':=hk.eval hy
    have he:(execOp ac.eval o).events P w #[]=(Builtin.copy_ #[t,t] o.type #[.slice (some ⟨g,0,none⟩) m cap,.slice (some ⟨b,off,none⟩) a.length c]).events P w #[]:=by
     simp[execOp,hop,resolve,hx',hy',invoke,builtin,hst]
    rw[he,hcp] at hev;rcases events_storeCells_at g 0 el (ints a) 0 (ints l++sp).toArray w _ h5 (by simp;omega) (K4 a) ev hev with h|⟨ad,h2,h3⟩
    .exact((V5 (P:=P) (fr:=fr) (cs:=ints a) (λ_ _=>hmb) (λi v hv=>by have:=hsrc i v hv;rwa [Addr.add_lit] at this) (ints a).length 0 #[] #[] qo (Reads.none fr)).ok ev h).mono λ_ h=>.inl h
    .exact .inl ⟨ad,h2,.inl (.inl (h3 ▸ hog))⟩
   .intro k _ hk2;exact setRow_other w g k _ (by simpa [Ow.ids] using hk2)
   .intro k hk1;exact .inl hk1
   .simp[Ow.ids]
   .exact⟨m,by simp[hml],.inr ⟨g,cap,sp,rfl,h3,h4,setRow_heap w g _ _ el (0,0) h5,by simp;simpa [hl] using h6⟩⟩
def Qg.cV{fn:Func}{t:Tmp}{ty:TypeId}{g tg m:Nat}{cs:List Value}(h:fn.results=#[.cell t ty])(hl:look e t=some (.pointer (some ⟨g,0,none⟩)))(hb:Ow.cells g tg cs∈bx)(hr:Row P ty m)(hm:cs.length=m):Qg P fn e bx F (.agg cs.toArray):=λn fr a w hk ho=>by
 have he:=Kl (P:=P) (fr:=fr) (w:=w) (t:=ty) (b:=g) (q:=0) (cs:=cs) (es:=#[]) (by rw[hm];exact hr) (λ_ _=>.inl (ho.own hb (by simp[Ow.ids]))) (λi v hv=>by rw[Nat.zero_add,Ja (ho.owns _ hb)];exact hv) (Reads.none fr);obtain⟨⟨d,hu,hd⟩,hi⟩:=hr;have h1:a.tmps[t]?.getD undef=.pointer (some ⟨g,0,none⟩):=by rw[hk.at' _ _ hl];rfl
 have h2:=run_loadVar_mid (P:=P) w g 0 ty cs d (λi v hv=>by rw[Nat.zero_add,Ja (ho.owns _ hb)];exact hv) hu hd (by rw[hi];simp[hm]);simp only[results,h];refine⟨by simp[h1,asAddr,h2],?_⟩;have h3:=he.ok;simpa [h1,asAddr,h2] using h3
def rcV{P:Program}{fn:Func}{e:Env}{bx:List Ow}{F:List Fct}{t:Tmp}{ty:TypeId}{g tg m:Nat}{cs:List Value}{v:Value}(hr:Row P ty m)(h:fn.results=#[.cell t ty]:=by exact rfl)(hl:look e t=some (.pointer (some ⟨g,0,none⟩)):=by exact rfl)(hb:Ow.cells g tg cs∈bx:=by exact meA)(hm:cs.length=m:=by exact rfl)(hv:Value.agg cs.toArray=v:=by exact rfl):Qg P fn e bx F v:=hv ▸ Qg.cV h hl hb hr hm
def Fp{P:Program}{fn:Func}{e:Env}{bx:List Ow}{F:List Fct}{h0:PH}{R:Qf}{v:Value}(F':List Fct)(hr:Qg P fn e bx F v)(hF:Qw F F')(h:R v [] F')(hg:ge h0∈F:=by exact meA):Fin P fn h0 R e bx F:=Fin.p [] F' hr hg (List.nil_sublist _) hF h
def fO{P:Program}{f:FuncId}{fn:Func}{c:Code}{args:List Value}{bx:List Ow}{F:List Fct}{R:Qf}(e0:Env)(n:Nat)(hf:P.funcs[f]?=some fn)(hn:fn.ntmps=n)(h:∀h0,WC P n c e0 bx (ge h0::F) (retQ P fn h0 R))(hb:fn.body=some c:=by exact rfl)(hname:(fn.name == "runtime.NumGoroutine")=false:=by kernel_rfl)(hargs:Nat.ble args.length n=true:=by exact rfl)(he:Sub e0 (parEnv 0 args):=by exact suA):FnB P f args bx F R:=fn_of e0 n hf hb hn hname hargs he h
section
variable {n:Nat}{L rest:List Oper}{Q:Env->List Ow->List Fct->Prop}{d i:Nat}{pos:String}{af:Array Edge}{g:Option (Nat×Bool)}{hs:List Nat}{r:Plan}{f:FuncId}{x:Operand}{args:List Operand}{ats:Array TypeId}{vs first cap:List Value}{R:Qf}
def WD.facts(hF:∀fr w,OK fr bx F w->OK fr bx F' w)(h:WD P n L hs b0 F0 r e bx F' Q):WD P n L hs b0 F0 r e bx F Q:=λfr w0 listed a w fuel Q' h1 h2 h3 h4 h5 h6 hk hr ho hf=>h fr w0 listed a w fuel Q' h1 h2 h3 h4 h5 h6 hk hr (hF fr w ho) hf
end
end W
end
abbrev BB:Int:=1000000000
def val:List Int->Int
 |[]=>0
 |d::r=>d+BB*val r
abbrev Dgt(x:Int):Prop:=0<=x/\x<BB
def Dg(l:List Int):Prop:=∀j,j<l.length->Dgt (l.getD j 0)
def Qx(n:Nat):List Int:=if h:n=0 then[] else((n%1000000000:Nat):Int)::Qx (n/1000000000)
decreasing_by omega
def Nrm(l:List Int):Prop:=0<l.length->l.getD (l.length-1) 0≠0
def Jg:Qx 0=[]:=by rw[Qx];simp
def J2{n:Nat}(h:n≠0):Qx n=((n%1000000000:Nat):Int)::Qx (n/1000000000):=by rw[Qx];simp[h]
def Dg.nil:Dg []:=λj hj=>by simp at hj
def Dg.cons{x:Int}{l:List Int}(h1:Dgt x)(h2:Dg l):Dg (x::l):=λj hj=>by
 match j with
 |0=>exact h1
 |j+1=>rw[List.getD_cons_succ];exact h2 j (by simpa using hj)
def Dg.head{x:Int}{l:List Int}(h:Dg (x::l)):Dgt x:=h 0 (by simp)
def Dg.tail{x:Int}{l:List Int}(h:Dg (x::l)):Dg l:=λj hj=>by
 have:=h (j+1) (by simpa using hj)
 rwa [List.getD_cons_succ] at this
def getD_app1{a b:List Int}{j:Nat}(h:j<a.length):(a++b).getD j 0=a.getD j 0:=by
 simp[List.getD_eq_getElem?_getD,List.getElem?_append_left h]
def getD_app2{a b:List Int}{j:Nat}(h:a.length<=j):(a++b).getD j 0=b.getD (j-a.length) 0:=by
 simp[List.getD_eq_getElem?_getD,List.getElem?_append_right h]
def Dg.app{a b:List Int}(h1:Dg a)(h2:Dg b):Dg (a++b):=λj hj=>by
 by_cases h:j<a.length
 .rw[getD_app1 h];exact h1 j h
 .rw[getD_app2 qo];exact h2 _ (by simp at hj;omega)
def ZM{l:List Int}{j n:Nat}(h:j<n):(l.take n).getD j 0=l.getD j 0:=by
 simp[List.getD_eq_getElem?_getD,List.getElem?_take,h]
def Dg.take{l:List Int}(h:Dg l)(n:Nat):Dg (l.take n):=λj hj=>by
 rw[List.length_take] at hj;rw[ZM qo];exact h j qo
def Dg.any{l:List Int}(h:Dg l)(j:Nat):Dgt (l.getD j 0):=by
 by_cases hj:j<l.length
 .exact h j hj
 .rw[List.getD_eq_getElem?_getD,List.getElem?_eq_none qo];exact⟨by simp,by show(0:Int)<1000000000;decide⟩
def Qb:∀n,Dg (Qx n):=λn=>by
 induction n using Nat.strongRecOn with
 |_ n ih=>
  by_cases h:n=0
  .subst h;rw[Jg];exact .nil
  .rw[J2 h];exact .cons ⟨by omega,by unfold BB;omega⟩ (ih _ qo)
def Qk:∀n:Nat,val (Qx n)=n:=λn=>by
 induction n using Nat.strongRecOn with
 |_ n ih=>
  by_cases h:n=0
  .subst h;rw[Jg];rfl
  .rw[J2 h,val,ih _ qo];unfold BB;omega
def KA:∀n,Nrm (Qx n):=λn=>by
 induction n using Nat.strongRecOn with
 |_ n ih=>
  by_cases h:n=0
  .subst h;rw[Jg];intro h;simp at h
  .rw[J2 h];intro _;by_cases h2:n/1000000000=0
   .rw[h2,Jg];show((n%1000000000:Nat):Int)≠0;omega
   .have:=ih (n/1000000000) qo;have hl:0<(Qx (n/1000000000)).length:=by rw[J2 h2];simp
    rw[List.length_cons,Nat.add_sub_cancel];rw[show(Qx (n/1000000000)).length=((Qx (n/1000000000)).length-1)+1 by omega,List.getD_cons_succ];exact this hl
def Qr:∀{l:List Int},Dg l->0<=val l
 |[],_=>Int.le_refl _
 |x::l,h=>by have:=Qr h.tail;have:=h.head;rw[val];unfold BB at *;omega
def val_inj:∀{a b:List Int},Dg a->Dg b->Nrm a->Nrm b->val a=val b->a=b
 |[],[],_,_,_,_,_=>rfl
 |[],y::b,_,h2,_,n2,hv=>by
  exfalso;have h0:=Qr h2.tail;have h1:=h2.head;rw[val,val] at hv;by_cases hb:b=[]
  .subst hb;have:=n2 (by simp);simp at this;rw[val] at hv;unfold BB at *;omega
  .have hv0:val b=0:=by unfold BB at *;omega
   have hbn:b=[]:=by
    have:=val_inj (a:=[]) .nil h2.tail (λh=>by simp at h) (λhl=>by
     have:=n2 (by simp);rw[List.length_cons,Nat.add_sub_cancel,show b.length=(b.length-1)+1 by omega,List.getD_cons_succ] at this;exact this) (by rw[hv0];rfl)
    exact this.symm
   exact hb hbn
 |x::a,[],h1,_,n1,_,hv=>by
  exfalso;have h0:=Qr h1.tail;have h2:=h1.head;rw[val,val] at hv;by_cases hb:a=[]
  .subst hb;have:=n1 (by simp);simp at this;rw[val] at hv;unfold BB at *;omega
  .have hv0:val a=0:=by unfold BB at *;omega
   have hbn:a=[]:=val_inj (b:=[]) h1.tail .nil (λhl=>by
     have:=n1 (by simp);rw[List.length_cons,Nat.add_sub_cancel,show a.length=(a.length-1)+1 by omega,List.getD_cons_succ] at this;exact this) (λh=>by simp at h) (by rw[hv0];rfl)
   exact hb hbn
 |x::a,y::b,h1,h2,n1,n2,hv=>by
  have hx:=h1.head;have hy:=h2.head;rw[val,val] at hv;have hx':0<=x/\x<1000000000:=hx;have hy':0<=y/\y<1000000000:=hy;have hv':x+1000000000*val a=y+1000000000*val b:=hv;have hxy:x=y/\val a=val b:=qo
  have nt:∀{z:Int} {l:List Int},Nrm (z::l)->Nrm l:=λ{z l} hn hl=>by
   have:=hn (by simp);rw[List.length_cons,Nat.add_sub_cancel,show l.length=(l.length-1)+1 by omega,List.getD_cons_succ] at this;exact this
  rw[hxy.1,val_inj h1.tail h2.tail (nt n1) (nt n2) hxy.2]
def digs_val{l:List Int}(h:Dg l)(hn:Nrm l):l=Qx (val l).toNat:=by
 refine val_inj h (Qb _) hn (KA _) ?_;rw[Qk,Int.toNat_of_nonneg (Qr h)]
def Ul:∀{a b:List Int},val (a++b)=val a+BB^a.length*val b
 |[],b=>by simp[val]
 |x::a,b=>by
  rw[List.cons_append,val,val,Ul,List.length_cons,Int.pow_succ,Int.mul_add,<-Int.mul_assoc,Int.mul_comm BB (BB^a.length)];omega
def J1(n:Nat):(0:Int)<BB^n:=Int.pow_pos qd
def Xy:∀{l:List Int},Dg l->val l<BB^l.length
 |[],_=>by simp[val]
 |x::l,h=>by
  have h1:=Xy h.tail;have h2:0<=x/\x<1000000000:=h.head;rw[val,List.length_cons,Int.pow_succ];have:BB^l.length*BB=BB*BB^l.length:=Int.mul_comm _ _;rw[this];generalize BB^l.length=p at *;show x+1000000000*val l<1000000000*p;omega
def VG:∀n,val (List.replicate n 0)=0
 |0=>rfl
 |n+1=>by rw[List.replicate_succ,val,VG n];rfl
def Dg.rep(n:Nat):Dg (List.replicate n 0):=λj hj=>by
 rw[List.length_replicate] at hj;simp only[List.getD_eq_getElem?_getD,List.getElem?_replicate,hj,if_true,Option.getD_some];exact⟨by decide,by decide⟩
def HB{l:List Int}{k:Nat}(h:k<l.length):l.take (k+1)=l.take k++[l.getD k 0]:=by
 rw[List.take_succ_eq_append_getElem h];simp[List.getD_eq_getElem?_getD,h]
def Ku{l:List Int}{k:Nat}(h:k<l.length):val (l.take (k+1))=val (l.take k)+BB^k*l.getD k 0:=by
 rw[HB h,Ul,List.length_take,Nat.min_eq_left qo];simp[val]
def Kv{l:List Int}{k:Nat}(h:l.length<=k):val (l.take k)=val l:=by rw[List.take_of_length_le h]
def XT{l:List Int}{k:Nat}{x:Int}(h:k<l.length):(l.set k x).take (k+1)=l.take k++[x]:=by
 rw[HB (by simpa using h)]
 congr 1
 .rw[List.take_set_of_le (Nat.le_refl _)]
 .simp[List.getD_eq_getElem?_getD,h]
def Jj{l:List Int}{i j:Nat}{x:Int}:(l.set i x).getD j 0=if i=j/\i<l.length then x else l.getD j 0:=by
 simp only[List.getD_eq_getElem?_getD,List.getElem?_set];by_cases h:i=j
 .subst h;by_cases h2:i<l.length
  .simp[h2]
  .simp[h2]
 .simp[h]
def Dg.set{l:List Int}(h:Dg l){k:Nat}{x:Int}(hx:Dgt x):Dg (l.set k x):=λj hj=>by
 rw[Jj];split
 .exact hx
 .exact h j (by simpa using hj)
def X0:∀{l:List Int} {k:Nat} {x:Int},k<l.length->val (l.set k x)=val l+BB^k*(x-l.getD k 0)
 |[],k,x,h=>by simp at h
 |y::l,0,x,_=>by simp[val];omega
 |y::l,k+1,x,h=>by
  have ih:=X0 (l:=l) (k:=k) (x:=x) (by simpa using h);rw[List.set_cons_succ,val,val,ih,List.getD_cons_succ,Int.pow_succ,Int.mul_add,Int.mul_comm (BB^k) BB,Int.mul_assoc];omega
def QD{n:Nat}:(Qx n).length=0↔n=0:=by
 constructor
 .intro h;by_cases h2:n=0
  .exact h2
  .rw[J2 h2] at h;simp at h
 .rintro rfl;rw[Jg];rfl
def Q4:∀{k n:Nat},n<1000000000^k->(Qx n).length<=k
 |0,n,h=>by simp at h;subst h;rw[Jg];simp
 |k+1,n,h=>by
  by_cases h2:n=0
  .subst h2;rw[Jg];simp
  .rw[J2 h2,List.length_cons];have:=Q4 (k:=k) (n:=n/1000000000) (by rw[Nat.pow_succ] at h;omega);omega
def Yv{n:Nat}:n<1000000000^(Qx n).length:=by
 have h:=Xy (Qb n);rw[Qk] at h;have:((1000000000^(Qx n).length:Nat):Int)=BB^(Qx n).length:=by simp
 omega
def JE{n:Nat}(h:n≠0)(h2:n<1000000000):Qx n=[(n:Int)]:=by
 rw[J2 h,show n/1000000000=0 by omega,Jg,show n%1000000000=n by omega]
def digs_2{n:Nat}(h:1000000000<=n)(h2:n<1000000000*1000000000):Qx n=[((n%1000000000:Nat):Int),((n/1000000000:Nat):Int)]:=by
 rw[J2 qo,JE qo qo]
section
open W Go.RowKit
abbrev ptr(g:Nat):Value:=.pointer (some ⟨g,0,none⟩)
def isZ(v:Value)(z:Int):Fct where
 p h:=∃b d,v=.agg #[.bool b,d]/\b=decide (z<0)/\(sI d (Qx z.natAbs)).p h
 mono h h' hl:=by
  rintro⟨b,d,h1,h2,h3⟩;exact⟨b,d,h1,h2,(sI _ _).mono _ _ hl h3⟩
def qz(q:Rat):Int:=if q.den=1 then 0 else q.den
def isQ(v:Value)(q:Rat):Fct where
 p h:=∃b d1 d2,v=.agg #[.bool b,d1,.bool false,d2]/\b=decide (q.num<0)/\(sI d1 (Qx q.num.natAbs)).p h/\(sI d2 (Qx (qz q).natAbs)).p h
 mono h h' hl:=by
  rintro⟨b,d1,d2,h1,h2,h3,h4⟩;exact⟨b,d1,d2,h1,h2,(sI _ _).mono _ _ hl h3,(sI _ _).mono _ _ hl h4⟩
def qz_nonneg(q:Rat):0<=qz q:=by unfold qz;split<;>omega
section
variable {F:List Fct}{bx:List Ow}{v d a b c:Value}{z:Int}{q:Rat}
def QH(h:Has F (isZ (.agg #[a,d]) z)):Has F (sI d (Qx z.natAbs)):=λph hf=>by
 obtain⟨b,d',h1,_,h3⟩:=h ph hf;simp at h1;obtain⟨rfl,rfl⟩:=h1;exact h3
def hasQ_d1(h:Has F (isQ (.agg #[a,d,b,c]) q)):Has F (sI d (Qx q.num.natAbs)):=λph hf=>by
 obtain⟨_,d',_,h1,_,h3,_⟩:=h ph hf;simp at h1;obtain⟨rfl,rfl,rfl,rfl⟩:=h1;exact h3
def KT(h:Has F (isQ (.agg #[a,b,c,d]) q)):Has F (sI d (Qx (qz q).natAbs)):=λph hf=>by
 obtain⟨_,d',_,h1,_,_,h3⟩:=h ph hf;simp at h1;obtain⟨rfl,rfl,rfl,rfl⟩:=h1;exact h3
def Jp(h:Has F (isQ (.agg #[a,d,b,c]) q)):Has F (isZ (.agg #[a,d]) q.num):=λph hf=>by
 obtain⟨x,d',_,h1,h2,h3,_⟩:=h ph hf;simp at h1;obtain⟨rfl,rfl,rfl,rfl⟩:=h1;exact⟨x,d,rfl,h2,h3⟩
def FX(h:Has F (isQ (.agg #[a,b,c,d]) q)):Has F (isZ (.agg #[c,d]) (qz q)):=λph hf=>by
 obtain⟨x,d',_,h1,h2,_,h3⟩:=h ph hf;simp at h1;obtain⟨rfl,rfl,rfl,rfl⟩:=h1;exact⟨false,d,rfl,by have:=qz_nonneg q;simp;omega,h3⟩
def JJ{nb:Bool}(hb:nb=decide (z<0))(h:Has F (sI d (Qx z.natAbs))):Has F (isZ (.agg #[.bool nb,d]) z):=λph hf=>⟨nb,d,rfl,hb,h ph hf⟩
def Yy{nb:Bool}{d1 d2:Value}(hb:nb=decide (q.num<0))(h:Has F (sI d1 (Qx q.num.natAbs)))(h2:Has F (sI d2 (Qx (qz q).natAbs))):Has F (isQ (.agg #[.bool nb,d1,.bool false,d2]) q):=λph hf=>⟨nb,d1,d2,rfl,hb,h ph hf,h2 ph hf⟩
def KnS.zd(h:Has F (isZ (.agg #[a,d]) z)):KnS bx F d (Qx z.natAbs).length:=KnS.f (QH h)
def KnS.q1(h:Has F (isQ (.agg #[a,d,b,c]) q)):KnS bx F d (Qx q.num.natAbs).length:=KnS.f (hasQ_d1 h)
def KnS.q2(h:Has F (isQ (.agg #[a,b,c,d]) q)):KnS bx F d (Qx (qz q).natAbs).length:=KnS.f (KT h)
def H4:Has F (sI (.slice none 0 0) []):=λ_ _=>⟨none,0,rfl,Nat.le_refl _,by simp[maxLen],.inl ⟨rfl,rfl,rfl⟩⟩
def FZ:Has F (isZ (.agg #[.bool false,.slice none 0 0]) 0):=JJ rfl (by simpa [Jg] using H4)
def Y7:Has F (isQ (.agg #[.bool false,.slice none 0 0,.bool false,.slice none 0 0]) 0):=Yy rfl (by simpa [Jg] using H4) (by simpa [Jg,qz] using H4)
section
variable {P:Program}{n:Nat}{L rest:List Oper}{e:Env}{Q:Env->List Ow->List Fct->Prop}{c':Code}{Q2:Post}{hs:List Nat}{r:Plan}{b0:List Ow}{F0:List Fct}
def opZ{fr:CF}{w:World}(ho:OK fr bx F w)(h:Has F (isZ v z)):∃nb d,v=.agg #[.bool nb,d]/\nb=decide (z<0):=by
 obtain⟨b,d,h1,h2,_⟩:=ho.has h;exact⟨b,d,h1,h2⟩
def opQ{fr:CF}{w:World}(ho:OK fr bx F w)(h:Has F (isQ v q)):∃nb d1 d2,v=.agg #[.bool nb,d1,.bool false,d2]/\nb=decide (q.num<0):=by
 obtain⟨b,d1,d2,h1,h2,_⟩:=ho.has h;exact⟨b,d1,d2,h1,h2⟩
def WC.Jq(hz:Has F (isZ v z))(h:∀nb d,v=.agg #[.bool nb,d]->nb=decide (z<0)->WC P n c' e bx F Q2):WC P n c' e bx F Q2:=λfr w0 a w hk hr ho=>by
 obtain⟨nb,d,h1,h2⟩:=opZ ho hz;exact h nb d h1 h2 fr w0 a w hk hr ho
def WC.JN(hz:Has F (isQ v q))(h:∀nb d1 d2,v=.agg #[.bool nb,d1,.bool false,d2]->nb=decide (q.num<0)->WC P n c' e bx F Q2):WC P n c' e bx F Q2:=λfr w0 a w hk hr ho=>by
 obtain⟨nb,d1,d2,h1,h2⟩:=opQ ho hz;exact h nb d1 d2 h1 h2 fr w0 a w hk hr ho
def WD.fact(f:Fct)(hf:Has F f)(h:WD P n L hs b0 F0 r e bx (f::F) Q):WD P n L hs b0 F0 r e bx F Q:=WD.facts (λ_ _ ho=>ho.add (ho.has hf)) h
def WL.QE(f:Fct)(hf:Has F f)(h:WL P n L rest e bx (f::F) Q):WL P n L rest e bx F Q:=λfr w0 a w Q' hQ hk hr ho=>h fr w0 a w Q' hQ hk hr (ho.add (ho.has hf))
end
end
def IsZ(z:Int):Qf:=λv b G=>∃nb d,v=.agg #[.bool nb,d]/\nb=decide (z<0)/\b=[]/\G=[isZ (.agg #[.bool nb,d]) z]
def IsQ(q:Rat):Qf:=λv b G=>∃nb d1 d2,v=.agg #[.bool nb,d1,.bool false,d2]/\nb=decide (q.num<0)/\b=[]/\G=[isQ (.agg #[.bool nb,d1,.bool false,d2]) q]
def IsDg(z:Int)(m:Nat):Qf:=λv b G=>∃l,b=[]/\G=[sI v l]/\Dg l/\val l=z/\l.length<=m
def mixed:Tryz.prog.follows .mixedOrders=true:=by kernel_rfl
def X9:U7 Tryz.prog 4:=by unfold U7;kernel_rfl
section
variable {e:Env}{bx:List Ow}{F:List Fct}{ty:TypeId}{x y:Operand}{a b c d:Value}{n m:Nat}{nb:Bool}{K:Qf}
def YO.buildZ0:YO Tryz.prog (.build 73 #[]) ty e bx F (.agg #[.bool false,.slice none 0 0]):=YO.build (parts:=[]) .nil λw=>run_build w 73 _ _ kr
def YO.buildZ(h1:ev e x=some (.bool nb))(h2:ev e y=some d)(kd:KnS bx F d n):YO Tryz.prog (.build 73 #[(0,x),(1,y)]) ty e bx F (.agg #[.bool nb,d]):=λk fr ac w o hop hty hk ho=>by
 obtain⟨p1,q1,rfl,_⟩:=(kd fr w ho).is;exact(YO.build (P:=Tryz.prog) (bx:=bx) (F:=F) (ty:=ty) (parts:=[(0,x),(1,y)]) (.cons h1 (.cons h2 .nil)) λw=>run_build w 73 _ _ kr) k fr ac w o hop hty hk ho
def YO.buildQ0:YO Tryz.prog (.build 75 #[]) ty e bx F (.agg #[.bool false,.slice none 0 0,.bool false,.slice none 0 0]):=YO.build (parts:=[]) .nil λw=>run_build w 75 _ _ kr
def YO.buildQ1(h1:ev e x=some (.agg #[a,b])):YO Tryz.prog (.build 75 #[(0,x)]) ty e bx F (.agg #[a,b,.bool false,.slice none 0 0]):=YO.build (parts:=[(0,x)]) (.cons h1 .nil) λw=>run_build w 75 _ _ kr
def YO.buildQ2(h1:ev e x=some (.agg #[a,b]))(h2:ev e y=some (.agg #[c,d])):YO Tryz.prog (.build 75 #[(0,x),(1,y)]) ty e bx F (.agg #[a,b,c,d]):=YO.build (parts:=[(0,x),(1,y)]) (.cons h1 (.cons h2 .nil)) λw=>run_build w 75 _ _ kr
inductive Q9:Int->Nat->Prop where
 |cast (n:Nat):Q9 n n
 |one:Q9 1 1
 |add {i j:Int} {m n:Nat}:Q9 i m->Q9 j n->Q9 (i+j) (m+n)
def Q9.eq{i:Int}{n:Nat}(h:Q9 i n):i=n:=by
 induction h with
 |cast n=>rfl
 |one=>rfl
 |add _ _ h1 h2=>rw[h1,h2];simp
def made1(z:Value)(hz:z.cells=#[z])(n:Nat):(madeCells z.cells (n*1)).toList=List.replicate n z:=by
 rw[hz,Nat.mul_one];apply List.ext_getElem
 .simp[madeCells]
 .intro i h1 h2;simp[madeCells,Nat.mod_one]
def LO.makeI{i:Int}(hx:ev e x=some (.int .i64 i))(hy:ev e y=some (.int .i64 i))(hi:Q9 i n)(hb:n<=10000000000000)(h:∀v,K v (Ow.slice v 3 1 (ints (List.replicate n 0))::bx) F):LO Tryz.prog (.makeSlice 28 x y) ty e bx F K:=by
 obtain rfl:=hi.eq;exact LO.make T.e28 hx hy qo qo (by rw[made1 _ rfl n,ints,List.map_replicate]) h
end
section
variable {P:Program}{n:Nat}{L rest:List Oper}{c:Code}{e:Env}{bx bx':List Ow}{F:List Fct}{Q:Post}{Q2:Env->List Ow->List Fct->Prop}{v:Value}{el:Nat}{l:List Int}
def WC.Q0(hs:Sel bx (.slice v el 1 (ints l)) (.slice (.slice none 0 0) el 1 []) bx')(h:WC P n c e bx' (sI v l::F) Q):WC P n c e bx F Q:=λfr w0 a w hk hr ho=>h fr w0 a w hk hr (ho.freeze hs (by simp) qd _ λj hj=>by
  have hj':j<l.length:=qo;simp[hj'])
def WL.Q0(hs:Sel bx (.slice v el 1 (ints l)) (.slice (.slice none 0 0) el 1 []) bx')(h:WL P n L rest e bx' (sI v l::F) Q2):WL P n L rest e bx F Q2:=λfr w0 a w Q' hQ hk hr ho=>h fr w0 a w Q' hQ hk hr (ho.freeze hs (by simp) qd _ λj hj=>by
  have hj':j<l.length:=qo;simp[hj'])
end
end
end Go.Proofs.YtbnobghgnbockaaGreat
