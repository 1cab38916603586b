/- Lemmas for a law. Conditions: none. -/
import Derived.Test.YtbnobghgnbockaaGreatZf34
set_option linter.all false
set_option maxHeartbeats 32000000
set_option maxRecDepth 100000
namespace Go.Proofs.YtbnobghgnbockaaGreat
section
open W Go.RowKit
open Bl (Vc Bd Tc Sc)
section
variable {M α:Type}{S:Shp M α}{P:Program}{e:Env}{bx:List Ow}{F:List Fct}{ty t el:TypeId}{v:Value}{x:Operand}{n k j o:Nat}{ms:Nat->M}{xs:Nat->α}
def off1(hw:S.w=1)(k:Nat):Off S.w k k 0:=by
 have h:Off S.w (k*S.w) k 0:=Off.base
 rwa [show k*S.w=k by rw[hw,Nat.mul_one]] at h
def YO.ldL1{c:Value}(hs:Qk P t)(hx:ev e x=some (.pointer (some (eaddr v k))))(hf:W.Has F (lF S v n ms xs))(hw:S.w=1)(hk:k<n)(hc:S.cs (ms k) (xs k)=[c]):YO P (.load t x) ty e bx F c:=
 YO.ldLs hs hx hf (off1 hw k) hk (by rw[hc];exact .take .done)
def YO.ldO1{c:Value}(hs:Qk P t)(hx:ev e x=some (.pointer (some (eaddr v k))))(hb:lO S v el n ms xs∈bx)(hw:S.w=1)(hk:k<n)(hc:S.cs (ms k) (xs k)=[c]):YO P (.load t x) ty e bx F c:=by
 refine YO.ldO hs hx hb ?_;have h2:=Gq (f:=λk=>S.cs (ms k) (xs k)) (λk=>S.len (ms k) (xs k)) (k:=k) (r:=0) (by rw[hw];decide);have h3:k*S.w+0=k:=by rw[hw];omega
 rw[h3,hc] at h2;rw[QW (by rw[hw];omega)];simpa using h2.symm
def LO.appTL{K:Qg}{y:Operand}{u:Value}{L L2:List Tc}{tm tm2:Nat->ToM}{bx2:Value->List Ow}(hx:ev e x=some v)(hy:ev e y=some u)(hu:W.Has F (lF Qo u L2.length tm2 (tl L2)))
  (hs:∀v',Sel bx (lO Qo v 93 L.length tm (tl L)) (lO Qo v' 93 (L++L2).length (YV L.length tm tm2) (tl (L++L2))) (bx2 v')) (hl:L.length+L2.length<=1000000) (h:∀v',K v' (bx2 v') F) :
  LO Tryz.prog (.call {callee:=.builtin .append,args:=#[x,y],argTypes:=#[32,32]}) ty e bx F K:=
 LO.appLF (S:=Qo) (ms:=tm) (xs:=tl L) (n:=L.length) T.e32 hx hy hu (λj hj=>V9 (hu.lk hj)) (λv'=>by rw[UY,<-List.length_append];exact hs v') qd qd hl h
def LO.appTL0{K:Qg}{y:Operand}{u:Value}{L2:List Tc}{tm2:Nat->ToM}{bx2:Value->List Ow}(hx:ev e x=some v)(hy:ev e y=some u)(hu:W.Has F (lF Qo u L2.length tm2 (tl L2)))
  (hs:∀v',Sel bx (.slice v 93 30 []) (lO Qo v' 93 L2.length tm2 (tl L2)) (bx2 v')) (hl:L2.length<=1000000) (h:∀v',K v' (bx2 v') F) :
  LO Tryz.prog (.call {callee:=.builtin .append,args:=#[x,y],argTypes:=#[32,32]}) ty e bx F K:=by
 refine LO.byP (λfr w ho=>H3 (S:=Qo) (λj hj=>V9 (hu.lk hj)) ho) λh1=>?_;exact LO.append T.e32 hx hy (cs:=[]) (news:=Qt Qo L2.length tm2 (tl L2)) hs (Qa.fact hu.ls) h1 (by rw[Qy];show(0+L2.length*30)*_<=_;omega) (by rw[Qy];show 0+L2.length*30<=_;omega) h
def WC.nilLF{nn:Nat}{c:Code}{Q:Post}(hf:W.Has F (lF S v n ms xs))(hn:isNil v=true)(h:n=0->WC P nn c e bx F Q):WC P nn c e bx F Q:=
 WC.pure (λfr w ho=>by
  obtain⟨a,cap,rfl,h2,h3,h4|⟨b,off,rfl,_⟩⟩:=ho.has hf.ls
  ·exact h4.2.1
  ·cases hn) h
def LO.bsT0{K:Qg}(h:∀v,K v (Ow.slice v 93 30 []::bx) F):LO Tryz.prog (.buildSlice 32 0 #[]) ty e bx F K:=LO.buildSlice (parts:=[]) (us:=[]) (cs:=[]) .nil (λ_=>by kernel_rfl) rfl qd h
def KnS.Zk{ms:Nat->Value}{xs:Nat->List Int}(h:lO Qn v el n ms xs∈bx):KnS bx F v n:=KnS.lo h
def LO.bsS0{K:Qg}(h:∀v,K v (Ow.slice v 28 1 []::bx) F):LO Tryz.prog (.buildSlice 25 0 #[]) ty e bx F K:=LO.buildSlice (parts:=[]) (us:=[]) (cs:=[]) .nil (λ_=>by kernel_rfl) rfl qd h
def YO.shlN{P:Program}{t':TypeId}{y:Operand}{k':IntKind}{n:Nat}(hx:ev e x=some (.int .i64 1))(hy:ev e y=some (.int k' (n:Int)))(h:n<=60):YO P (.binOp .shl t x y t') ty e bx F (.int .i64 ((2^n:Nat):Int)):=by
 have h1:2^n<=2^60:=Nat.pow_le_pow_right qd h;have h2:(1:Int)*2^((n:Int)).toNat=((2^n:Nat):Int):=by rw[Int.toNat_natCast,Int.one_mul];simp
 have h3:∀N:Nat,N<=2^60->-9223372036854775808<=(N:Int)/\(N:Int)<=9223372036854775807:=λN hN=>by omega
 have:=YO.shl' (P:=P) (bx:=bx) (F:=F) (ty:=ty) (t:=t) (t':=t') hx hy qo qo (by rw[h2];exact(h3 _ h1).1) (by rw[h2];exact(h3 _ h1).2)
 rwa [h2] at this
def WX.Q8{nn:Nat}{c:Code}{Q:Post}(el sz:Nat)(h:WX P nn c e (Ow.slice (.slice none 0 0) el sz []::bx) F Q):WX P nn c e bx F Q:=λfr Ds w0 a w hn hD hk hr ho=>h fr Ds w0 a w hn hD hk hr (ho.Q8 el sz)
def lO_snoc{M:Type}{α:Type}{S:Shp M α}{v:Value}{el:TypeId}{ms:Nat->M}{m:M}{C:List α}{s d:α}:lO S v el (C.length+1) (upd ms C.length m) (upd (λj=>C.getD j d) C.length s)=lO S v el (C++[s]).length (upd ms C.length m) (λj=>(C++[s]).getD j d):=by
 rw[VN,List.length_append];rfl
def lM_snoc{M:Type}{α:Type}{S:Shp M α}{ms:Nat->M}{m:M}{C:List α}{s d:α}(h:W.Has F (lM S C.length ms (λj=>C.getD j d)))(hm:W.Has F (S.fc m s)):W.Has F (lM S (C++[s]).length (upd ms C.length m) (λj=>(C++[s]).getD j d)):=by
 rw[List.length_append,<-VN];exact h.mapp hm
def LO.bsSet{K:Qg}{s:List Int}(hx:ev e x=some v)(hv:W.Has F (sI v s))(h:∀u,K u (Ow.slice u 28 1 [v]::bx) F):LO Tryz.prog (.buildSlice 25 1 #[(0,x)]) ty e bx F K:=by
 refine LO.byP (p:=∃a c,v=.slice a s.length c) (λfr w' ho=>?_) ?_
 ·obtain⟨a1,c1,h1,_⟩:=(KnS.f (bx:=bx) hv fr w' ho).is;exact⟨a1,c1,h1⟩
 rintro⟨a',c,rfl⟩;exact LO.buildSlice (el:=28) (sz:=1) (parts:=[(0,x)]) (us:=[.slice a' s.length c]) (cs:=[.slice a' s.length c]) (.cons hx .nil) (λ_=>by kernel_rfl) rfl qd h
def LO.appSet{K:Qg}{el':TypeId}{y:Operand}{w u:Value}{C:List (List Int)}{s:List Int}{ms:Nat->Value}{bx2:Value->List Ow}(hx:ev e x=some v)(hy:ev e y=some u)(hu:Ow.slice u el' 1 [w]∈bx)(hw:W.Has F (sI w s))(hs:∀v',Sel bx (lO Qn v 28 C.length ms (sl C)) (lO Qn v' 28 (C++[s]).length (upd ms C.length w) (sl (C++[s]))) (bx2 v'))(hl:C.length<=1000000)(h:∀v',K v' (bx2 v') F) :
  LO Tryz.prog (.call {callee:=.builtin .append,args:=#[x,y],argTypes:=#[25,25]}) ty e bx F K:=
 LO.appL (S:=Qn) (ms:=ms) (xs:=sl C) (n:=C.length) (mm:=w) (aa:=s) T.e25 hx hy hu (.cons (One.sl (KnS.f hw)) .nil) (λv'=>by rw[lO_snoc];exact hs v') qd qd hl h
def lM_cat{M:Type}{α:Type}{S:Shp M α}{ms ms2:Nat->M}{C D:List α}{d:α}(h:W.Has F (lM S C.length ms (λj=>C.getD j d)))(h2:W.Has F (lM S D.length ms2 (λj=>D.getD j d))):W.Has F (lM S (C++D).length (YV C.length ms ms2) (λj=>(C++D).getD j d)):=by
 rw[List.length_append,<-UY];exact h.mcat2 h2
def one_s{ms:Nat->Value}{xs:Nat->List Int}{j:Nat}(h:W.Has F (sI (ms j) (xs j))):QP bx F (Qn.cs (ms j) (xs j)):=.cons (One.sl (KnS.f h)) .nil
def LO.appSF{K:Qg}{y:Operand}{u:Value}{C D:List (List Int)}{cm dm:Nat->Value}{bx2:Value->List Ow}(hx:ev e x=some v)(hy:ev e y=some u)(hu:W.Has F (lF Qn u D.length dm (sl D)))
  (hs:∀v',Sel bx (lO Qn v 28 C.length cm (sl C)) (lO Qn v' 28 (C++D).length (YV C.length cm dm) (sl (C++D))) (bx2 v')) (hl:C.length+D.length<=1000000) (h:∀v',K v' (bx2 v') F) :
  LO Tryz.prog (.call {callee:=.builtin .append,args:=#[x,y],argTypes:=#[25,25]}) ty e bx F K:=
 LO.appLF (S:=Qn) (ms:=cm) (xs:=sl C) (n:=C.length) T.e25 hx hy hu (λj hj=>one_s (hu.lk hj)) (λv'=>by rw[UY,<-List.length_append];exact hs v') qd qd hl h
def LO.appSF0{K:Qg}{y:Operand}{u:Value}{D:List (List Int)}{dm:Nat->Value}{bx2:Value->List Ow}(hx:ev e x=some v)(hy:ev e y=some u)(hu:W.Has F (lF Qn u D.length dm (sl D)))
  (hs:∀v',Sel bx (.slice v 28 1 []) (lO Qn v' 28 D.length dm (sl D)) (bx2 v')) (hl:D.length<=1000000) (h:∀v',K v' (bx2 v') F) :
  LO Tryz.prog (.call {callee:=.builtin .append,args:=#[x,y],argTypes:=#[25,25]}) ty e bx F K:=by
 refine LO.byP (λfr w ho=>H3 (S:=Qn) (λj hj=>one_s (hu.lk hj)) ho) λh1=>?_;exact LO.append T.e25 hx hy (cs:=[]) (news:=Qt Qn D.length dm (sl D)) hs (Qa.fact hu.ls) h1 (by rw[Qy];show(0+D.length*1)*_<=_;omega) (by rw[Qy];show 0+D.length*1<=_;omega) h
end
namespace K
namespace Q
namespace Y
attribute [local irreducible] WC WL WD YO LO Qq W.Fin Qk Qw Qj Row QJ Qv KnS Has W.One Qa Qs
def goE{G G':Prop}(h:G')(s:Bx G'->G:=by
 intro h
 (first|(apply WL.Jf;(first|(apply YO.Zo;exact T.f42_0;exact rfl)|(apply YO.Zo;exact T.f42_1;exact rfl)|(apply YO.Zo;exact T.f42_2;exact rfl)|(apply YO.YH;exact T.f42_0;exact rfl;((try simp only[Nat.zero_add,Nat.mul_one,Nat.reduceAdd,Nat.reduceMul]);exact rfl))|(apply YO.YH;exact T.f42_1;exact rfl;((try simp only[Nat.zero_add,Nat.mul_one,Nat.reduceAdd,Nat.reduceMul]);exact rfl))|(apply YO.YH;exact T.f42_2;exact rfl;((try simp only[Nat.zero_add,Nat.mul_one,Nat.reduceAdd,Nat.reduceMul]);exact rfl)));exact rfl;exact rfl)|(apply WL.Ym;(first|(apply YO.ldC;(first|exact T.r42);exact rfl;exact meA;(repeat(first|exact Cut.done|apply Cut.take|apply Cut.drop)))|(apply YO.ldCk;(first|exact T.r42);exact rfl;exact hmA;(repeat(first|exact Cut.done|apply Cut.take|apply Cut.drop)))|(apply YO.ldF;(first|exact T.sc25|exact T.sc33|exact T.sc40);exact rfl;exact hmA;exact rfl)|(apply YO.ldB;(first|exact T.sc25|exact T.sc33|exact T.sc40);exact rfl;exact meA;exact rfl)|(apply YO.ldL1;(first|exact T.sc3|exact T.sc4|exact T.sc28|exact T.sc61|exact T.KR|exact T.U9|exact T.Vx|exact T.Vz|exact T.sc31|exact T.sc32|exact T.sc37|exact T.KS|exact T.Vq|exact T.Vj|exact T.sc25|exact T.sc33|exact T.sc40);exact rfl;exact hmA;exact rfl;omega;exact rfl)|(apply YO.ldO1;(first|exact T.sc3|exact T.sc4|exact T.sc28|exact T.sc61|exact T.KR|exact T.U9|exact T.Vx|exact T.Vz|exact T.sc31|exact T.sc32|exact T.sc37|exact T.KS|exact T.Vq|exact T.Vj|exact T.sc25|exact T.sc33|exact T.sc40);exact rfl;exact meA;exact rfl;omega;exact rfl));exact rfl;exact rfl)|(apply WL.UF;(first|(apply YO.len;(first|exact T.s25|exact T.s33|exact T.s40);exact rfl;(focus(apply KnS.Zk;exact meA;done)))|(apply YO.len;(first|exact T.s25|exact T.s33|exact T.s40);exact rfl;(focus(apply KnS.out;exact meA;done)))|(apply YO.len;(first|exact T.s25|exact T.s33|exact T.s40);exact rfl;exact knA));exact rfl;exact rfl)|(apply WL.JW;(first|(apply YO.ix1;(first|exact T.s25|exact T.s33|exact T.s40);exact rfl;exact rfl;(focus(apply KnS.Zk;exact meA;done));omega)|(apply YO.Yl;(first|exact T.s25|exact T.s33|exact T.s40);exact rfl;exact rfl;(focus(apply KnS.Zk;exact meA;done));omega;omega)|(apply YO.ix1;(first|exact T.s25|exact T.s33|exact T.s40);exact rfl;exact rfl;(focus(apply KnS.out;exact meA;done));omega)|(apply YO.Yl;(first|exact T.s25|exact T.s33|exact T.s40);exact rfl;exact rfl;(focus(apply KnS.out;exact meA;done));omega;omega)|(apply YO.ix1;(first|exact T.s25|exact T.s33|exact T.s40);exact rfl;exact rfl;exact knA;omega)|(apply YO.ix;(first|exact T.s25|exact T.s33|exact T.s40);exact rfl;exact rfl;exact knA;omega)|(apply YO.Yl;(first|exact T.s25|exact T.s33|exact T.s40);exact rfl;exact rfl;exact knA;omega;omega)|(apply YO.ix';(first|exact T.s25|exact T.s33|exact T.s40);exact rfl;exact rfl;exact knA;omega;omega));exact rfl;exact rfl)|(apply WL.X9;(first|(apply YO.slice;(first|exact T.s25|exact T.s33|exact T.s40);exact rfl;(focus(apply KnS.Zk;exact meA;done));exact Or.inl ⟨rfl,rfl⟩;exact Or.inr ⟨_,rfl,rfl⟩;omega;omega)|(apply YO.slice;(first|exact T.s25|exact T.s33|exact T.s40);exact rfl;(focus(apply KnS.Zk;exact meA;done));exact Or.inr ⟨_,rfl,rfl⟩;exact Or.inl ⟨rfl,rfl⟩;omega;omega)|(apply YO.slice;(first|exact T.s25|exact T.s33|exact T.s40);exact rfl;exact knA;exact Or.inl ⟨rfl,rfl⟩;exact Or.inr ⟨_,rfl,rfl⟩;omega;omega)|(apply YO.slice;(first|exact T.s25|exact T.s33|exact T.s40);exact rfl;exact knA;exact Or.inr ⟨_,rfl,rfl⟩;exact Or.inl ⟨rfl,rfl⟩;omega;omega));exact rfl;exact rfl)|(apply WL.XD;fail;exact rfl;exact rfl)|(apply WL.UG;(first|(apply YO.Y2;(first|exact T.s25|exact T.s33|exact T.s40);exact rfl;exact knA;assumption)|(apply YO.Y1;(first|exact T.s25|exact T.s33|exact T.s40);exact rfl;exact knA;assumption));exact rfl;exact rfl)|(apply WL.Zs;(apply YO.VG;exact T.u85;exact T.u3;exact rfl;omega;omega);exact rfl;exact rfl)|(apply WL.UC;(apply YO.shlN;exact rfl;exact rfl;omega);exact rfl;exact rfl)|(apply WL.Jx;rotate_left;exact rfl;(first|(apply LO.Xv;exact rfl;exact rfl;(first|exact T.z25);(first|exact One.lit rfl rfl|(apply One.sl;exact knA));exact seA;(first|(simp only[List.length_cons,List.length_nil];omega)|(simp;omega));(first|(simp only[List.set_cons_succ,List.set_cons_zero];exact rfl)|exact rfl))|(apply LO.KW;exact rfl;exact rfl;(first|exact T.r42);exact seA;exact rfl;(repeat(first|exact QP.nil|(apply QP.cons;(first|exact One.lit rfl rfl|(apply One.sl;exact knA))))))|fail))|(apply WD.Jf;exact rfl;(first|(apply YO.Zo;exact T.f42_0;exact rfl)|(apply YO.Zo;exact T.f42_1;exact rfl)|(apply YO.Zo;exact T.f42_2;exact rfl)|(apply YO.YH;exact T.f42_0;exact rfl;((try simp only[Nat.zero_add,Nat.mul_one,Nat.reduceAdd,Nat.reduceMul]);exact rfl))|(apply YO.YH;exact T.f42_1;exact rfl;((try simp only[Nat.zero_add,Nat.mul_one,Nat.reduceAdd,Nat.reduceMul]);exact rfl))|(apply YO.YH;exact T.f42_2;exact rfl;((try simp only[Nat.zero_add,Nat.mul_one,Nat.reduceAdd,Nat.reduceMul]);exact rfl)));exact rfl;exact rfl)|(apply WD.Ym;exact rfl;(first|(apply YO.ldC;(first|exact T.r42);exact rfl;exact meA;(repeat(first|exact Cut.done|apply Cut.take|apply Cut.drop)))|(apply YO.ldCk;(first|exact T.r42);exact rfl;exact hmA;(repeat(first|exact Cut.done|apply Cut.take|apply Cut.drop)))|(apply YO.ldF;(first|exact T.sc25|exact T.sc33|exact T.sc40);exact rfl;exact hmA;exact rfl)|(apply YO.ldB;(first|exact T.sc25|exact T.sc33|exact T.sc40);exact rfl;exact meA;exact rfl)|(apply YO.ldL1;(first|exact T.sc3|exact T.sc4|exact T.sc28|exact T.sc61|exact T.KR|exact T.U9|exact T.Vx|exact T.Vz|exact T.sc31|exact T.sc32|exact T.sc37|exact T.KS|exact T.Vq|exact T.Vj|exact T.sc25|exact T.sc33|exact T.sc40);exact rfl;exact hmA;exact rfl;omega;exact rfl)|(apply YO.ldO1;(first|exact T.sc3|exact T.sc4|exact T.sc28|exact T.sc61|exact T.KR|exact T.U9|exact T.Vx|exact T.Vz|exact T.sc31|exact T.sc32|exact T.sc37|exact T.KS|exact T.Vq|exact T.Vj|exact T.sc25|exact T.sc33|exact T.sc40);exact rfl;exact meA;exact rfl;omega;exact rfl));exact rfl;exact rfl)|(apply WD.UF;exact rfl;(first|(apply YO.len;(first|exact T.s25|exact T.s33|exact T.s40);exact rfl;(focus(apply KnS.Zk;exact meA;done)))|(apply YO.len;(first|exact T.s25|exact T.s33|exact T.s40);exact rfl;(focus(apply KnS.out;exact meA;done)))|(apply YO.len;(first|exact T.s25|exact T.s33|exact T.s40);exact rfl;exact knA));exact rfl;exact rfl)|(apply WD.JW;exact rfl;(first|(apply YO.ix1;(first|exact T.s25|exact T.s33|exact T.s40);exact rfl;exact rfl;(focus(apply KnS.Zk;exact meA;done));omega)|(apply YO.Yl;(first|exact T.s25|exact T.s33|exact T.s40);exact rfl;exact rfl;(focus(apply KnS.Zk;exact meA;done));omega;omega)|(apply YO.ix1;(first|exact T.s25|exact T.s33|exact T.s40);exact rfl;exact rfl;(focus(apply KnS.out;exact meA;done));omega)|(apply YO.Yl;(first|exact T.s25|exact T.s33|exact T.s40);exact rfl;exact rfl;(focus(apply KnS.out;exact meA;done));omega;omega)|(apply YO.ix1;(first|exact T.s25|exact T.s33|exact T.s40);exact rfl;exact rfl;exact knA;omega)|(apply YO.ix;(first|exact T.s25|exact T.s33|exact T.s40);exact rfl;exact rfl;exact knA;omega)|(apply YO.Yl;(first|exact T.s25|exact T.s33|exact T.s40);exact rfl;exact rfl;exact knA;omega;omega)|(apply YO.ix';(first|exact T.s25|exact T.s33|exact T.s40);exact rfl;exact rfl;exact knA;omega;omega));exact rfl;exact rfl)|(apply WD.X9;exact rfl;(first|(apply YO.slice;(first|exact T.s25|exact T.s33|exact T.s40);exact rfl;(focus(apply KnS.Zk;exact meA;done));exact Or.inl ⟨rfl,rfl⟩;exact Or.inr ⟨_,rfl,rfl⟩;omega;omega)|(apply YO.slice;(first|exact T.s25|exact T.s33|exact T.s40);exact rfl;(focus(apply KnS.Zk;exact meA;done));exact Or.inr ⟨_,rfl,rfl⟩;exact Or.inl ⟨rfl,rfl⟩;omega;omega)|(apply YO.slice;(first|exact T.s25|exact T.s33|exact T.s40);exact rfl;exact knA;exact Or.inl ⟨rfl,rfl⟩;exact Or.inr ⟨_,rfl,rfl⟩;omega;omega)|(apply YO.slice;(first|exact T.s25|exact T.s33|exact T.s40);exact rfl;exact knA;exact Or.inr ⟨_,rfl,rfl⟩;exact Or.inl ⟨rfl,rfl⟩;omega;omega));exact rfl;exact rfl)|(apply WD.XD;exact rfl;fail;exact rfl;exact rfl)|(apply WD.UG;exact rfl;(first|(apply YO.Y2;(first|exact T.s25|exact T.s33|exact T.s40);exact rfl;exact knA;assumption)|(apply YO.Y1;(first|exact T.s25|exact T.s33|exact T.s40);exact rfl;exact knA;assumption));exact rfl;exact rfl)|(apply WD.Zs;exact rfl;(apply YO.VG;exact T.u85;exact T.u3;exact rfl;omega;omega);exact rfl;exact rfl)|(apply WD.UC;exact rfl;(apply YO.shlN;exact rfl;exact rfl;omega);exact rfl;exact rfl)|(apply WD.Jx;exact rfl;rotate_left;exact rfl;(first|(apply LO.Xv;exact rfl;exact rfl;(first|exact T.z25);(first|exact One.lit rfl rfl|(apply One.sl;exact knA));exact seA;(first|(simp only[List.length_cons,List.length_nil];omega)|(simp;omega));(first|(simp only[List.set_cons_succ,List.set_cons_zero];exact rfl)|exact rfl))|(apply LO.KW;exact rfl;exact rfl;(first|exact T.r42);exact seA;exact rfl;(repeat(first|exact QP.nil|(apply QP.cons;(first|exact One.lit rfl rfl|(apply One.sl;exact knA))))))|fail);constructor;(first|(focus(apply Or.inr;constructor;(repeat(first|exact List.Sublist.refl _|exact List.nil_sublist _|apply List.Sublist.cons_cons|apply List.Sublist.cons));(first|exact λ_ h=>h|(intro f hf;(repeat(first|exact hf|apply List.Mem.tail))));done))|(apply Or.inl;kernel_rfl)))|((first|(apply LO.Xv;exact rfl;exact rfl;(first|exact T.z25);(first|exact One.lit rfl rfl|(apply One.sl;exact knA));exact seA;(first|(simp only[List.length_cons,List.length_nil];omega)|(simp;omega));(first|(simp only[List.set_cons_succ,List.set_cons_zero];exact rfl)|exact rfl))|(apply LO.KW;exact rfl;exact rfl;(first|exact T.r42);exact seA;exact rfl;(repeat(first|exact QP.nil|(apply QP.cons;(first|exact One.lit rfl rfl|(apply One.sl;exact knA))))))|fail);constructor;(first|(focus(apply Or.inr;constructor;(repeat(first|exact List.Sublist.refl _|exact List.nil_sublist _|apply List.Sublist.cons_cons|apply List.Sublist.cons));(first|exact λ_ h=>h|(intro f hf;(repeat(first|exact hf|apply List.Mem.tail))));done))|(apply Or.inl;kernel_rfl)))|refine Go.Proofs.YtbnobghgnbockaaGreat.K.Q.goE ?_|fail)
 exact Bx.h h):G:=s ⟨h⟩
def goEG{G G':Prop}(h:G')(s:Bx G'->G:=by
 intro h
 (first|(apply WL.Xz;rotate_left;exact rfl;exact rfl;apply LO.XZ;(first|exact T.al25|exact T.al42|fail))|(apply WD.Xz;exact rfl;rotate_left;exact rfl;exact rfl;apply LO.XZ;(first|exact T.al25|exact T.al42|fail);apply Qb;(intro _;(first|(focus(apply Or.inr;constructor;(repeat(first|exact List.Sublist.refl _|exact List.nil_sublist _|apply List.Sublist.cons_cons|apply List.Sublist.cons));(first|exact λ_ h=>h|(intro f hf;(repeat(first|exact hf|apply List.Mem.tail))));done))|(apply Or.inl;kernel_rfl))))|(apply LO.XZ;(first|exact T.al25|exact T.al42|fail);apply Qb;(intro _;(first|(focus(apply Or.inr;constructor;(repeat(first|exact List.Sublist.refl _|exact List.nil_sublist _|apply List.Sublist.cons_cons|apply List.Sublist.cons));(first|exact λ_ h=>h|(intro f hf;(repeat(first|exact hf|apply List.Mem.tail))));done))|(apply Or.inl;kernel_rfl))))|refine Go.Proofs.YtbnobghgnbockaaGreat.K.Q.goEG ?_|fail)
 exact Bx.h h):G:=s ⟨h⟩
def goEV{G G':Prop}(h:G')(s:Bx G'->G:=by
 intro h
 (first|(apply WL.Q9;rotate_left;exact rfl;exact rfl;(first|(apply LO.appSet;exact rfl;exact rfl;exact meA;exact hmA;(intro _;exact seA);omega)|(apply LO.appTL;exact rfl;exact rfl;exact hmA;(intro _;exact seA);omega)|(apply LO.appTL0;exact rfl;exact rfl;exact hmA;(intro _;exact seA);omega)|(apply LO.appSF;exact rfl;exact rfl;exact hmA;(intro _;exact seA);omega)|(apply LO.appSF0;exact rfl;exact rfl;exact hmA;(intro _;exact seA);omega)|fail))|(apply WD.Q9;exact rfl;rotate_left;exact rfl;exact rfl;(first|(apply LO.appSet;exact rfl;exact rfl;exact meA;exact hmA;(intro _;exact seA);omega)|(apply LO.appTL;exact rfl;exact rfl;exact hmA;(intro _;exact seA);omega)|(apply LO.appTL0;exact rfl;exact rfl;exact hmA;(intro _;exact seA);omega)|(apply LO.appSF;exact rfl;exact rfl;exact hmA;(intro _;exact seA);omega)|(apply LO.appSF0;exact rfl;exact rfl;exact hmA;(intro _;exact seA);omega)|fail);apply Qb;(intro _;(first|(focus(apply Or.inr;constructor;(repeat(first|exact List.Sublist.refl _|exact List.nil_sublist _|apply List.Sublist.cons_cons|apply List.Sublist.cons));(first|exact λ_ h=>h|(intro f hf;(repeat(first|exact hf|apply List.Mem.tail))));done))|(apply Or.inl;kernel_rfl))))|((first|(apply LO.appSet;exact rfl;exact rfl;exact meA;exact hmA;(intro _;exact seA);omega)|(apply LO.appTL;exact rfl;exact rfl;exact hmA;(intro _;exact seA);omega)|(apply LO.appTL0;exact rfl;exact rfl;exact hmA;(intro _;exact seA);omega)|(apply LO.appSF;exact rfl;exact rfl;exact hmA;(intro _;exact seA);omega)|(apply LO.appSF0;exact rfl;exact rfl;exact hmA;(intro _;exact seA);omega)|fail);apply Qb;(intro _;(first|(focus(apply Or.inr;constructor;(repeat(first|exact List.Sublist.refl _|exact List.nil_sublist _|apply List.Sublist.cons_cons|apply List.Sublist.cons));(first|exact λ_ h=>h|(intro f hf;(repeat(first|exact hf|apply List.Mem.tail))));done))|(apply Or.inl;kernel_rfl))))|(apply WL.Jo;rotate_left;exact rfl;exact rfl;(apply LO.bsSet;exact rfl;exact hmA))|(apply WD.Jo;exact rfl;rotate_left;exact rfl;exact rfl;(apply LO.bsSet;exact rfl;exact hmA);apply Qb;(intro _;(first|(focus(apply Or.inr;constructor;(repeat(first|exact List.Sublist.refl _|exact List.nil_sublist _|apply List.Sublist.cons_cons|apply List.Sublist.cons));(first|exact λ_ h=>h|(intro f hf;(repeat(first|exact hf|apply List.Mem.tail))));done))|(apply Or.inl;kernel_rfl))))|((apply LO.bsSet;exact rfl;exact hmA);apply Qb;(intro _;(first|(focus(apply Or.inr;constructor;(repeat(first|exact List.Sublist.refl _|exact List.nil_sublist _|apply List.Sublist.cons_cons|apply List.Sublist.cons));(first|exact λ_ h=>h|(intro f hf;(repeat(first|exact hf|apply List.Mem.tail))));done))|(apply Or.inl;kernel_rfl))))|(apply WL.Jo;rotate_left;exact rfl;exact rfl;apply LO.bsT0)|(apply WD.Jo;exact rfl;rotate_left;exact rfl;exact rfl;apply LO.bsT0;apply Qb;(intro _;(first|(focus(apply Or.inr;constructor;(repeat(first|exact List.Sublist.refl _|exact List.nil_sublist _|apply List.Sublist.cons_cons|apply List.Sublist.cons));(first|exact λ_ h=>h|(intro f hf;(repeat(first|exact hf|apply List.Mem.tail))));done))|(apply Or.inl;kernel_rfl))))|(apply LO.bsT0;apply Qb;(intro _;(first|(focus(apply Or.inr;constructor;(repeat(first|exact List.Sublist.refl _|exact List.nil_sublist _|apply List.Sublist.cons_cons|apply List.Sublist.cons));(first|exact λ_ h=>h|(intro f hf;(repeat(first|exact hf|apply List.Mem.tail))));done))|(apply Or.inl;kernel_rfl))))|(apply WL.Jo;rotate_left;exact rfl;exact rfl;apply LO.bsS0)|(apply WD.Jo;exact rfl;rotate_left;exact rfl;exact rfl;apply LO.bsS0;apply Qb;(intro _;(first|(focus(apply Or.inr;constructor;(repeat(first|exact List.Sublist.refl _|exact List.nil_sublist _|apply List.Sublist.cons_cons|apply List.Sublist.cons));(first|exact λ_ h=>h|(intro f hf;(repeat(first|exact hf|apply List.Mem.tail))));done))|(apply Or.inl;kernel_rfl))))|(apply LO.bsS0;apply Qb;(intro _;(first|(focus(apply Or.inr;constructor;(repeat(first|exact List.Sublist.refl _|exact List.nil_sublist _|apply List.Sublist.cons_cons|apply List.Sublist.cons));(first|exact λ_ h=>h|(intro f hf;(repeat(first|exact hf|apply List.Mem.tail))));done))|(apply Or.inl;kernel_rfl))))|refine Go.Proofs.YtbnobghgnbockaaGreat.K.Q.goEV ?_|fail)
 exact Bx.h h):G:=s ⟨h⟩
end Y
end Q
end K
end
section
open W Go.RowKit
open Bl (Vc Bd Tc Sc)
namespace K
namespace Q
namespace Y
attribute [local irreducible] WC WL WD YO LO Qq W.Fin Qk Qw Qj Row QJ Qv KnS Has W.One Qa Qs
attribute [local irreducible] WX Um
def sets_c(n most:Int)(hn:I64 n)(hm:I64 most):FnB Tryz.prog 11 [.int .i64 n,.int .i64 most] [] [] (IsSets (Fx.Jk n most)):=by
 obtain⟨hn1,hn2⟩:=hn;obtain⟨hm1,hm2⟩:=hm;refine HG [(0,(.int .i64 n)),(1,(.int .i64 most))] 30 Tryz.func11 rfl Tryz.ntmps11 kr rfl suA λh0=>?_;by_cases h:n<0\/8<n
 ·have hz:Fx.Jk n most=[]:=if_pos qo;rw[hz];refine WX.of ?_;refine WC.Q8 28 1 ?_;rcases h with h|h
  ·repeat'(first|intro(g:Nat)|refine gP ?_|intro v)
   refine WC.ret ?_;exact Fin.p [_] [lM Qn 0 (λ_=>.slice none 0 0) (sl [])] (Qh.t1 rfl rfl) meA (List.Sublist.refl _) (.cons W.Has.HS .nil) ⟨_,rfl,rfl⟩
  ·repeat'(first|intro(g:Nat)|refine gP ?_|intro v)
   refine WC.ret ?_;exact Fin.p [_] [lM Qn 0 (λ_=>.slice none 0 0) (sl [])] (Qh.t1 rfl rfl) meA (List.Sublist.refl _) (.cons W.Has.HS .nil) ⟨_,rfl,rfl⟩
 obtain⟨N,rfl⟩:∃N:Nat,n=(N:Int):=⟨n.toNat,by omega⟩
 have hN:N<=8:=qo;obtain⟨M,hM⟩:∃M:Nat,(M:Int)=max 0 (min (N:Int) most+1):=⟨(max 0 (min (N:Int) most+1)).toNat,by omega⟩
 rw[Fx.sets_K hN hM];repeat refine WX.seq ?_
 refine WX.region ?_;repeat'(first|intro(g:Nat)|refine gP ?_|intro v)
 repeat refine WX.seq ?_
 refine WX.region ?_;repeat'(first|intro(g:Nat)|refine gP ?_|intro v)
 repeat refine WX.seq ?_
 refine WX.cond (b:=false) rfl ?_;rw[if_neg qd];refine WX.skip ?_;repeat refine WX.seq ?_
 refine WX.region ?_;repeat'(first|intro(g:Nat)|refine gP ?_|intro v)
 revert g;intro g5;repeat refine WX.seq ?_
 refine WX.region ?_;repeat'(first|intro(g:Nat)|refine gP ?_|intro v)
 refine WX.Q8 28 1 ?_;repeat refine WX.seq ?_
 refine WX.block ?_;refine WX.loop (σ:=Nat×Value×(Nat->Value)) (λst=>[(6,.int .i64 (st.1:Int)),(5,ptr g5),(0,.int .i64 (N:Int)),(1,.int .i64 most)]) (λst=>[lO Qn st.2.1 28 (Fx.J5 N st.1).length st.2.2 (sl (Fx.J5 N st.1)),Ow.cells g5 25 [st.2.1]]) (λst=>[lM Qn (Fx.J5 N st.1).length st.2.2 (sl (Fx.J5 N st.1)),ge h0]) (λst=>st.1<=M) (λst=>M-st.1) ?_ (0,.slice none 0 0,λ_=>.slice none 0 0) (Nat.zero_le _) suA slA (.cons W.Has.HS (.cons hmA .nil));rintro⟨k,v,ms⟩ hk;simp only at hk ⊢;have hsl:=Fx.Vw N k;repeat refine WX.seq ?_
 refine WX.region ?_;by_cases d:k<M
 ·repeat'(first|intro(g:Nat)|refine gP ?_|intro v)
  repeat refine WX.seq ?_
  refine WX.cond (b:=true) rfl ?_;rw[if_pos rfl];refine WX.skip ?_;repeat refine WX.seq ?_
  refine WX.block ?_;repeat refine WX.seq ?_
  refine WX.region ?_;repeat'(first|intro(g:Nat)|refine gP ?_|intro v)
  refine WL.QA (Z.chosen_c N k) ?_;rintro _ _ _ ⟨gm,gn,rfl,rfl,rfl⟩;refine sNn ?_;repeat'(first|intro(g:Nat)|refine gP ?_|intro v)
  repeat refine WX.block ?_
  refine WX.range (λbx' G=>∃v' ms',bx'=[Ow.cells gm 3 [.int .i64 (k:Int)],Ow.cells gn 3 [.int .i64 (N:Int)],lO Qn v' 28 (Fx.J5 N k++Fx.chs N k).length ms' (sl (Fx.J5 N k++Fx.chs N k)),Ow.cells g5 25 [v']]/\G=[lM Qn (Fx.J5 N k++Fx.chs N k).length ms' (sl (Fx.J5 N k++Fx.chs N k))]) (λ_ _ _=>False) rfl ?seq ?done ?stop
  case seq=>
   intro l rec hkn hrs1 hrs2 hrs3 hrs4 hrs5;refine Z.chosen1_c l rec g5 gn gm N k hN qo h0 v ms (Fx.J5 N k) qo λv ms C u s hC=>?_;refine yieldC_of hkn hrs1 hrs2 hrs3 hrs4 rfl rfl λh1=>?_;rw[hrs5];repeat'(first|intro(g:Nat)|refine gP ?_|intro v)
   exact⟨_,[_],slA,hmA,W.Qu.all (.cons (lM_snoc (S:=Qn) (m:=u) (s:=s) (ms:=ms) hmA hmA) .nil),_,_,rfl,rfl⟩
  case done=>
   rintro _ _ ⟨v',ms',rfl,rfl⟩;repeat refine WX.seq ?_
   refine WX.region ?_;repeat'(first|intro(g:Nat)|refine gP ?_|intro v)
   exact⟨(k+1,v',ms'),⟨by simp only;omega,by simp only;omega⟩,suA,slA,sfA⟩
  case stop=>
   rintro _ _ _ h;exact h.elim
 ·obtain rfl:k=M:=qo;repeat'(first|intro(g:Nat)|refine gP ?_|intro v)
  repeat refine WX.seq ?_
  refine WX.cond (b:=false) rfl ?_;rw[if_neg qd];refine WX.exit ?_;repeat refine WX.seq ?_
  refine WX.region ?_;repeat'(first|intro(g:Nat)|refine gP ?_|intro v)
  refine WX.ret ?_;exact Fin.p [_] [_] (Qh.t1 rfl rfl) meA slA sfA ⟨ms,rfl,rfl⟩
end Y
end Q
end K
end
section
open W Go.RowKit
open Bl (Vc Bd Tc Sc)
def IsTo(L:List Tc)(ms:Nat->ToM):Qg:=λv B G=>B=[lO Qo v 93 L.length ms (tl L)]/\G=[]
def IsTl(L:List Tc):Qg:=λv B G=>∃ms,B=[]/\G=[lF Qo v L.length ms (tl L)]
def take_snoc{s:List Int}{i:Nat}(h:i<s.length):s.take (i+1)=s.take i++[s.getD i 0]:=by
 rw[List.take_add_one,List.getElem?_eq_getElem h,List.getD_eq_getElem?_getD,List.getElem?_eq_getElem h];rfl
def Z5{t:List Tc}{P:List (List Tc)}{s:List Int}{i:Nat}(h:i<s.length):Fx.QK t P (s.take i)++pl P (s.getD i 0).toNat=Fx.QK t P (s.take (i+1)):=by
 rw[take_snoc h];unfold Fx.QK;rw[List.flatMap_append,List.append_assoc];simp
def flat_le{P:List (List Tc)}(hP:∀p∈P,p.length<=100):∀s:List Int,(s.flatMap λk=>P.getD k.toNat []).length<=100*s.length
 |[]=>by simp
 |k::s=>by
  have h1:=flat_le hP s
  have h2:(P.getD k.toNat []).length<=100:=by
   rw[List.getD_eq_getElem?_getD];cases e:P[k.toNat]? with
   |none=>simp
   |some p=>exact hP p (List.mem_of_getElem? e)
  rw[List.flatMap_cons,List.length_append,List.length_cons];omega
def Vd{t:List Tc}{P:List (List Tc)}(ht:t.length<=100)(hP:∀p∈P,p.length<=100)(s:List Int):(Fx.QK t P s).length<=100+100*s.length:=by
 have:=flat_le hP s;unfold Fx.QK;rw[List.length_append];omega
namespace K
namespace Q
namespace Y
attribute [local irreducible] WC WL WD YO LO Qq W.Fin Qk Qw Qj Row QJ Qv KnS Has W.One Qa Qs
def cloneT_c(u:Value)(L:List Tc)(ms:Nat->ToM)(hn:L.length<=1000):FnB Tryz.prog 69 [u] [] [lF Qo u L.length ms (tl L)] (IsTo L ms):=by
 refine fO [(0,u)] 8 Tryz.func69 Tryz.ntmps69 λh0=>?_;cases hnl:isNil u with
 |true=>
  refine WC.nilLF (S:=Qo) (v:=u) (n:=L.length) (ms:=ms) (xs:=tl L) hmA hnl λh=>?_;obtain rfl:=List.eq_nil_of_length_eq_zero h;repeat'(first|intro(g:Nat)|refine gP ?_|intro v)
  refine WC.Q8 93 30 ?_;refine WC.ret ?_;exact Fin.p [_] [] (Qh.t1 rfl rfl) meA (List.Sublist.refl _) .nil ⟨rfl,rfl⟩
 |false=>
  repeat'(first|intro(g:Nat)|refine gP ?_|intro v)
  refine WC.ret ?_;exact Fin.p [_] [] (Qh.t1 rfl rfl) meA (List.Sublist.refl _) .nil ⟨rfl,rfl⟩
def Uy(tv pv sv:Value)(t:List Tc)(P:List (List Tc))(s:List Int)(tm:Nat->ToM)(pm:Nat->Value×(Nat->ToM))(ht:t.length<=100)(hP:∀p∈P,p.length<=100)(hs:s.length<=10)(hr:∀x∈s,0<=x/\x<(P.length:Int))(hPl:P.length<=1000) :
  FnB Tryz.prog 41 [tv,pv,sv] [] [lF Qo tv t.length tm (tl t),lF tlS pv P.length pm (pl P),sI sv s] (IsTl (Fx.QK t P s)):=by
 refine fO [(0,tv),(1,pv),(2,sv)] 26 Tryz.func41 Tryz.ntmps41 λh0=>?_;refine WC.K5 sv s hmA λhlen=>?_;repeat'(first|intro(g:Nat)|refine gP ?_|intro v)
 refine cK (cloneT_c tv t tm qo) ?_;rintro v11 _ _ ⟨rfl,rfl⟩;refine sNn ?_;repeat'(first|intro(g:Nat)|refine gP ?_|intro v)
 have e0:Fx.QK t P (s.take 0)=t:=by simp[Fx.QK]
 refine WC.Xd (σ:=Value×(Nat->ToM)) (λst=>[(7,st.1)]) (λst=>[lO Qo st.1 93 (Fx.QK t P s).length st.2 (tl (Fx.QK t P s))]) (λst=>[lM Qo (Fx.QK t P s).length st.2 (tl (Fx.QK t P s)),ge h0]) (λ_=>True) ?_ ?_
 ·refine WC.lp (σ:=Nat×Value×(Nat->ToM)) (λst=>[(14,.int .i64 (st.1:Int)),(13,.int .i64 (s.length:Int)),(12,sv),(7,st.2.1),(0,tv),(1,pv),(2,sv)]) (λst=>[lO Qo st.2.1 93 (Fx.QK t P (s.take st.1)).length st.2.2 (tl (Fx.QK t P (s.take st.1)))]) (λst=>[lM Qo (Fx.QK t P (s.take st.1)).length st.2.2 (tl (Fx.QK t P (s.take st.1))),ge h0,lF tlS pv P.length pm (pl P),sI sv s]) (λst=>st.1<=s.length) (λst=>s.length-st.1) (0,v11,tm) (Nat.zero_le _) ?_ (hB:=by simp only[e0];exact slA) (hG:=by simp only[e0];exact .cons (W.Has.lm (v:=tv) hmA) haA);rintro⟨i,v,ms⟩ hi;simp only at hi ⊢;by_cases d:i<s.length
  ·have hk:=hr _ (Fx.UO d);have hkn:(s.getD i 0).toNat<P.length:=qo;have htk:(s.take i).length<=10:=by rw[List.length_take];omega
   have hl:=Vd ht hP (s.take i)
   have hp:(pl P (s.getD i 0).toNat).length<=100:=hP _ (by
    show P.getD _ []∈P;rw[List.getD_eq_getElem?_getD,List.getElem?_eq_getElem hkn];exact List.getElem_mem hkn)
   refine WC.fact (lF Qo (pm (s.getD i 0).toNat).1 (pl P (s.getD i 0).toNat).length (pm (s.getD i 0).toNat).2 (tl (pl P (s.getD i 0).toNat))) (W.Has.lk (S:=tlS) (v:=pv) (ms:=pm) (xs:=pl P) hmA hkn) ?_;repeat'(first|intro(g:Nat)|refine gP ?_|intro v)
   rw[Z5 d];refine Qq.mk (i+1,_,YV (Fx.QK t P (s.take i)).length ms (pm (s.getD i 0).toNat).2) (by simp only;omega) (by simp only;omega) (hG:=.cons ?_ haA);simp only;rw[<-Z5 d];exact lM_cat (S:=Qo) hmA (W.Has.lm (v:=(pm (s.getD i 0).toNat).1) hmA)
  ·obtain rfl:i=s.length:=qo;repeat'(first|intro(g:Nat)|refine gP ?_|intro v)
   rw[List.take_length];exact QG (v,ms) trivial
 rintro⟨v,ms⟩ _;simp only;refine WC.Q3 (S:=Qo) (v:=v) (n:=(Fx.QK t P s).length) (ms:=ms) (xs:=tl (Fx.QK t P s)) (by repeat(first|exact Sel.head|apply Sel.tail)) hmA ?_;repeat'(first|intro(g:Nat)|refine gP ?_|intro v)
 refine WC.ret ?_;exact Fp [_] (Qh.t1 rfl rfl) sfA ⟨ms,rfl,rfl⟩
end Y
end Q
end K
end
end Go.Proofs.YtbnobghgnbockaaGreat
