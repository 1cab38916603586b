/- Lemmas for a law. Conditions: none. -/
import Derived.Test.YtbnobghgnbockaaGreatZg28
set_option linter.all false
set_option maxHeartbeats 32000000
set_option maxRecDepth 100000
namespace Go.Proofs.YtbnobghgnbockaaGreat
section
open W Go.RowKit
open Bl (Vc Bd Tc Sc)
def cat{α:Type}(n:Nat)(f g:Nat->α)(j:Nat):α:=if j<n then f j else g (j-n)
section
variable {M α:Type}{S:Shp M α}{P:Program}{e:Env}{bx bx':List Ow}{F:List Fct}{ty t el:TypeId}{v u:Value}{x y z:Operand}{n k:Nat}{ms ms2:Nat->M}{xs xs2:Nat->α}{K:Qf}
def lcells_cat(hx:∀j,j<k->xs (n+j)=xs2 j):QX S n ms xs++QX S k ms2 xs2=QX S (n+k) (cat n ms ms2) xs:=by
 have hp:=S.pos;refine Jv (by rw[List.length_append,Qu,Qu,Nat.add_mul]) λj hj=>?_;by_cases h:j<n*S.w
 .rw[List.getElem?_append_left (by rw[Qu];exact h),QK h];have hn:j/S.w<n:=(Nat.div_lt_iff_lt_mul hp).2 h;show some (Je S.w _ j)=some (Je S.w _ j);unfold Je cat;simp only;rw[if_pos hn]
 .have hj2:j-n*S.w<k*S.w:=by rw[Nat.add_mul] at hj;omega
  rw[List.getElem?_append_right (by rw[Qu];omega),Qu,QK hj2];have e1:j=n*S.w+(j-n*S.w):=qo
  have hd:j/S.w=n+(j-n*S.w)/S.w:=by
   conv=>lhs;rw[e1]
   rw[Nat.mul_comm n,Nat.mul_add_div hp]
  have hm:j%S.w=(j-n*S.w)%S.w:=by
   conv=>lhs;rw[e1]
   rw[Nat.mul_comm n,Nat.mul_add_mod]
  have hk:(j-n*S.w)/S.w<k:=(Nat.div_lt_iff_lt_mul hp).2 hj2;show some (Je S.w _ _)=some (Je S.w _ j);unfold Je cat;simp only;rw[hd,hm];generalize (j-n*S.w)/S.w=q at *;have h1:¬n+q<n:=qo;have h2:n+q-n=q:=qo;rw[if_neg h1,h2,hx _ hk]
def W.Has.mcat(h:Has F (lM S n ms xs))(h2:Has F (lM S k ms2 xs2))(hx:∀j,j<k->xs (n+j)=xs2 j):Has F (lM S (n+k) (cat n ms ms2) xs):=λp hf i hi=>by
 unfold cat;by_cases c:i<n
 .rw[if_pos c];exact h p hf i c
 .rw[if_neg c];have:=h2 p hf (i-n) qo;rw[<-hx (i-n) qo,show n+(i-n)=i by omega] at this;exact this
end
section
variable {e:Env}{bx bx':List Ow}{F:List Fct}{ty t el:TypeId}{v u:Value}{x y z:Operand}{n k:Nat}{ms ms2:Nat->LnM}{xs xs2:Nat->LnX}{K:Qf}
def one_ls{fr:CF}{w:World}(ho:OK fr bx F w)(hm:Has F (lM QW k ms2 xs2)):∀c∈QX QW k ms2 xs2,c.oneCell'=true:=λc hc=>by
 simp only[QX,Jh,List.mem_map,List.mem_range] at hc;obtain⟨j,hj,rfl⟩:=hc;have hj5:j<k*5:=hj;have:=(one_l (bx:=bx) (hm.mk (k:=j/5) qo)).all ho;have hr:=YH (l:=lcs (ms2 (j/5))) (r:=j%5) (n:=5) rfl qo;exact this _ (List.mem_of_getElem? hr)
def LO.Gy{bx2:Value->List Ow}(hx:ev e x=some v)(hy:ev e y=some u)(hu:Has F (lF QW u k ms2 xs2))(hs:∀v',Sel bx (lO QW v 141 n ms xs) (lO QW v' 141 (n+k) (cat n ms ms2) (cat n xs xs2)) (bx2 v'))(hl:n<=1000000)(hl2:k<=1000000)(h:∀v',K v' (bx2 v') F) :
  LO Tryz.prog (.call {callee:=.builtin .append,args:=#[x,y],argTypes:=#[116,116]}) ty e bx F K:=by
 refine LO.byP (λfr w ho=>one_ls ho hu.lm) λh1=>?_
 exact LO.append T.e116 hx hy (cs:=QX QW n ms xs) (news:=QX QW k ms2 xs2) (by
  have e2:=lcells_cat (S:=QW) (n:=n) (k:=k) (ms:=ms) (ms2:=ms2) (xs:=cat n xs xs2) (xs2:=xs2) (λj _=>by unfold cat;rw[if_neg qo,show n+j-n=j by omega]);intro v';have e3:QX QW n ms xs++QX QW k ms2 xs2=QX QW (n+k) (cat n ms ms2) (cat n xs xs2):=e2;rw[e3];exact hs v') (Qp.fact hu.ls) h1 (by rw[Qu,Qu];show(n*5+k*5)*88<=_;omega) (by rw[Qu,Qu];show n*5+k*5<=_;omega) h
end
attribute [local irreducible] WC WL WD YO LO Qq W.Fin Qv Qh Qj Row QV Qy KnS Has W.One Qp QJ
namespace K
def goE{G G':Prop}(h:G')(s:Bx G'->G:=by
 intro h
 (first|(apply WL.Jc;rotate_left;exact rfl;(first|fail|fail))|(apply WD.Jc;exact rfl;rotate_left;exact rfl;(first|fail|fail);constructor;exact ltA)|((first|fail|fail);constructor;exact ltA)|fail)
 exact Bx.h h):G:=s ⟨h⟩
def goEG{G G':Prop}(h:G')(s:Bx G'->G:=by
 intro h
 (first|(apply WL.XX;rotate_left;exact rfl;exact rfl;apply LO.X8;(first|fail|fail))|(apply WD.XX;exact rfl;rotate_left;exact rfl;exact rfl;apply LO.X8;(first|fail|fail);apply Qn;(intro _;exact ltA))|(apply LO.X8;(first|fail|fail);apply Qn;(intro _;exact ltA))|fail)
 exact Bx.h h):G:=s ⟨h⟩
def goEV{G G':Prop}(h:G')(s:Bx G'->G:=by
 intro h
 (first|(apply WL.Jy;rotate_left;exact rfl;exact rfl;(first|(apply LO.Gy;exact rfl;exact rfl;exact hmA;(intro _;exact seA);omega;omega)|fail))|(apply WD.Jy;exact rfl;rotate_left;exact rfl;exact rfl;(first|(apply LO.Gy;exact rfl;exact rfl;exact hmA;(intro _;exact seA);omega;omega)|fail);apply Qn;(intro _;exact ltA))|((first|(apply LO.Gy;exact rfl;exact rfl;exact hmA;(intro _;exact seA);omega;omega)|fail);apply Qn;(intro _;exact ltA))|fail)
 exact Bx.h h):G:=s ⟨h⟩
end K
end
section
open W Go.RowKit
open Bl (Vc Bd Tc Sc)
def W.FnB.more{P:Program}{f:FuncId}{args:List Value}{bx:List Ow}{F F':List Fct}{R:Qf}(h:FnB P f args bx F R)(hs:∀g∈F,g∈F'):FnB P f args bx F' R:=⟨h.1,λfr w ho=>h.2 fr w (ho.less hs)⟩
def Gp(S:Sc)(i t:Nat)(e:Ed)(f:Vc):Rat:=if t=0 then f.x else if t=1 then f.y else Bl.JF (Bl.Jr e.at' (S.B i).c) f
def gx(S:Sc)(i t k:Nat):Rat:=Gp S i t (edT S.T k) (Bl.on (S.T (k/2)) i (S.T (k/2)).n)
def gy(S:Sc)(i t k:Nat):Rat:=Gp S i t (edT S.T k) (Bl.on (S.T (k/2)) i (Bl.turn (S.T (k/2)).n))
def sgi(j:Nat):Int:=if j%2=0 then 1 else -1
def prX(S:Sc)(w:Nat->Rat)(r:Nat):LnX:=if r<6*S.n then⟨2*(2*S.m),co2 (gx S (r/6) (r%6/2)) (gy S (r/6) (r%6/2)) (Rat.divInt (sgi r) 1),(if r%6/2=1 then w (r/6) else 0)*Rat.divInt (sgi r) 1⟩ else J0 S (r-6*S.n)
def prX_b{S:Sc}{w:Nat->Rat}{i t j:Nat}(hi:i<S.n)(ht:t<3)(hj:j<2):prX S w (6*i+(2*t+j))=⟨2*(2*S.m),co2 (gx S i t) (gy S i t) (Rat.divInt (sgi j) 1),(if t=1 then w i else 0)*Rat.divInt (sgi j) 1⟩:=by
 unfold prX;rw[if_pos qo,show(6*i+(2*t+j))/6=i by omega,show(6*i+(2*t+j))%6/2=t by omega,show sgi (6*i+(2*t+j))=sgi j by unfold sgi;rw[show(6*i+(2*t+j))%2=j%2 by omega]]
def J6(S:Sc)(M:SM)(i t gi gb gf:Nat):Fct:=fcj [ce gf 166 [.func (.func (if t=0 then 106 else if t=1 then 107 else 108)) #[] (if t=2 then[ptr gb] else[]).toArray],ce gi 3 [.int .i64 (i:Int)],fcj [ce gb 88 (bcs (M.B i)),fB (M.B i) (S.B i)]]
namespace K
attribute [local irreducible] WC WL WD YO LO Qq W.Fin Qv Qh Qj Row QV Qy KnS Has W.One Qp QJ
def parts_c(S:Sc)(M:SM)(i t gi gb gf:Nat)(ht:t<3)(hi:i<S.n)(hn:S.n<=5)(K:Nat)(h0K:0<K)(hK:K<=100000)(hs:Ss K S)(k:Nat)(hk:k<2*S.m) :
  FnB Tryz.prog 103 ([]++[edv (edM M.T k) (edT S.T k)]++[ptr gf,ptr gi]) [] [fE (edM M.T k) (edT S.T k),J6 S M i t gi gb gf] (IsR2 (gx S i t k) (gy S i t k)):=by
 have hk2:k/2<S.m:=qo;have hn2:Sv K (edT S.T k).t.n:=(hs.T _ hk2).2.2.1
 have hat:Sv K (edT S.T k).at':=by
  unfold edT;simp only;split
  .exact(hs.T _ hk2).1
  .exact(hs.T _ hk2).2.1
 refine W.FnB.cj ?_;match t,ht with
 |0,_=>exact part_c gf gi i qo 106 [] (edM M.T k) (edT S.T k) K h0K qo hn2 (Gp S i 0 (edT S.T k)) _ λmv f _=>(forcex_c (edM M.T k) (edT S.T k) mv f).more (by simp)
 |1,_=>exact part_c gf gi i qo 107 [] (edM M.T k) (edT S.T k) K h0K qo hn2 (Gp S i 1 (edT S.T k)) _ λmv f _=>(forcey_c (edM M.T k) (edT S.T k) mv f).more (by simp)
 |2,_=>exact part_c gf gi i qo 108 [ptr gb] (edM M.T k) (edT S.T k) K h0K qo hn2 (Gp S i 2 (edT S.T k)) _ λmv f hf=>W.FnB.cj2 (torque_c (edM M.T k) (edT S.T k) mv f gb (M.B i) (S.B i) K qo hat hf (hs.B i hi).1)
def UW(S:Sc)(M:SM)(w:Nat->Rat)(i t j gi gb gf g3 g4:Nat)(va lv gv:Value)(ms:Nat->LnM)(mb:QM)(ho:S.ok)(ht:t<3)(hj:j<2)(hi:i<S.n)(K:Nat)(h0K:0<K)(hK:K<=100000)(hs:Ss K S)(hw:∀i,i<S.n->Sq K (w i)) :
  FnB Tryz.prog 100 [.int .i64 (sgi j),qv mb,.func (.func 103) #[] #[ptr gf,ptr gi],ptr g3,ptr g4] [Ow.cells g4 118 [.int .i64 (2*((2*S.m:Nat):Int)),lv,gv],lO QW lv 141 (6*i+(2*t+j)) ms (prX S w)]
   [isQ (qv mb) (if t=1 then w i else 0),ce g3 159 [va],lF JG va (2*S.m) (edM M.T) (edT S.T),J6 S M i t gi gb gf] (IsAdd g4 (2*((2*S.m:Nat):Int)) gv (6*i+(2*t+j)) ms (prX S w)):=by
 have hn:=ho.n;have hm:=ho.m;have hsn:∀k,k<2*S.m->Sv K (S.T (k/2)).n:=λk hk=>(hs.T (k/2) qo).2.2.1
 have hsa:∀k,k<2*S.m->Sv K (edT S.T k).at':=λk hk=>by
  unfold edT;simp only;split
  .exact(hs.T _ qo).1
  .exact(hs.T _ qo).2.1
 have hon:∀k f,Sv K f->Sv K (Bl.on (S.T (k/2)) i f):=λk f h=>by
  unfold Bl.on;split
  .exact h
  .split
   .exact⟨h.1.neg,h.2.neg⟩
   .exact⟨Sq.zero.up h0K,Sq.zero.up h0K⟩
 have hg:∀k f,k<2*S.m->Sv K f->Sq (6*K+3) (Gp S i t (edT S.T k) f):=λk f hk hf=>by
  unfold Gp;split
  .exact hf.1.up qo
  .split
   .exact hf.2.up qo
   .have h1:=((hsa k hk).1.sub (hs.B i hi).1.1).mul hf.2;have h2:=((hsa k hk).2.sub (hs.B i hi).1.2).mul hf.1;exact(h1.sub h2).up qo
 refine VL g3 g4 va (2*S.m) _ (edM M.T) (edT S.T) (sgi j) (by unfold sgi;split<;>decide) mb _ lv gv _ ms (prX S w) _ [ptr gf,ptr gi] _ (gx S i t) (gy S i t) (6*K+3) qo qo qo qo ?_ (λk hk=>hg k _ hk (hon k _ (hsn k hk))) (λk hk=>hg k _ hk (hon k _ ⟨(hsn k hk).2.neg,(hsn k hk).1⟩)) (prX_b hi ht hj) λk hk=>parts_c S M i t gi gb gf ht hi hn K h0K hK hs k hk;split
 .exact(hw i hi).up qo
 .exact Sq.zero.up qo
end K
end
section
open W Go.RowKit
abbrev TM(xg vars m n:Nat)(tv cv bv:Value)(rv:Nat->Value)(ms:Nat->Nat->QM)(b:Nat->Nat):List Ow:=
 Ow.cells xg 177 [.int .i64 (vars:Int),.int .i64 (m:Int),.int .i64 (n:Int),tv,cv,bv]::Ow.slice tv 61 1 (fnV m rv)::Ow.slice bv 3 1 (ints (fnL m b))::Xk m (n+1) rv ms
def cs0(n:Nat)(c1:Nat->Rat)(j:Nat):Rat:=if j<n then c1 j else 0
def prS(n:Nat)(c1:Nat->Rat)(s:X.St):Nat->Nat->Rat
 |0=>cs0 n c1
 |i+1=>λj=>prS n c1 s i j-prS n c1 s i (s.b i)*s.t i j
def csx(n:Nat)(c1:Nat->Rat)(k j:Nat):Rat:=if j<k/\j<n then c1 j else 0
def csx_up{n:Nat}{c1:Nat->Rat}{k:Nat}(hk:k<n)(i:Nat):upd (csx n c1 k) k (c1 k) i=csx n c1 (k+1) i:=by
 unfold csx upd;by_cases c:i=k
 .subst c;simp[hk]
 .by_cases c2:i<k
  .simp[c,c2,show i<k+1 by omega]
  .simp[c,c2,show ¬i<k+1 by omega]
def IsPr(xg vars m n:Nat)(tv bv:Value)(rv:Nat->Value)(ms:Nat->Nat->QM)(b:Nat->Nat)(z:Nat->Rat):Qf:=λv B G=>∃cv mc,v=.tuple #[]/\B=TB xg vars m n tv cv bv rv ms mc b/\G=[mF (n+1) mc z]
namespace Z
attribute [local irreducible] WC WL WD YO LO Qq W.Fin Qv Qh Qj Row QV Qy KnS Has W.One Qp QJ
def d114{G G':Prop}(h:G')(s:Bx G'->G:=by
 intro h;first|refine gB ?_|(apply WC.draw (id:=4) [0,1,2,3,4,5,6,8] (.h 0<|.h 1<|.h 2<|.h 3<|.h 4<|.h 5<|.h 6<|.l 7<|.h 8<|.l 9 .done) mixed kr)|(apply WC.draw (id:=9) [0,1,2,3,4,5,6,7,8,9,10,11] (.h 0<|.h 1<|.h 2<|.h 3<|.h 4<|.h 5<|.h 6<|.h 7<|.h 8<|.h 9<|.h 10<|.h 11<|.l 12 .done) mixed kr)|fail
 exact Bx.h h):G:=s ⟨h⟩
def price_c(xg vars m n:Nat)(tv cv0 bv:Value)(rv:Nat->Value)(ms:Nat->Nat->QM)(s:X.St)(K:Nat)(f:FuncId)(first cap:List Value)(Fc:List Fct)(c1:Nat->Rat)
  (hf:∀k:Nat,k<n->FnB Tryz.prog f (first++[.int .i64 (k:Int)]++cap) [] Fc (IsR (c1 k)))
  (hm:m<=1000) (hn:n<=10000) (hK:K<=100000000) (hb:∀i,i<m->s.b i<n) (hs:∀i,i<m->∀k,k<n+1->Sq K (s.t i k)) (hc:∀i,i<=m->∀k,k<n+1->Sq K (prS n c1 s i k)) :
  FnB Tryz.prog 114 [ptr xg,.func (.func f) first.toArray cap.toArray] (TM xg vars m n tv cv0 bv rv ms s.b) (mT m (n+1) ms s.t::Fc) (IsPr xg vars m n tv bv rv ms s.b (prS n c1 s m)):=by
 refine fO [(0,(ptr xg)),(1,(.func (.func f) first.toArray cap.toArray))] 57 Tryz.func114 Tryz.ntmps114 λh0=>?_;repeat'(first|intro(g:Nat)|refine d114 ?_|intro v)
 revert v;intro cv;have hb0:(∀r,(0:Nat)=r->True):=λ_ _=>trivial
 refine WC.lp (σ:=Nat×(Nat->QM)) (λst=>[(20,.int .i64 (st.1:Int)),(19,.int .i64 (n:Int)),(0,ptr xg),(1,.func (.func f) first.toArray cap.toArray)])
  (λst=>Ow.slice cv 75 4 (Qa (n+1) st.2)::Ow.cells xg 177 [.int .i64 (vars:Int),.int .i64 (m:Int),.int .i64 (n:Int),tv,cv,bv]::Ow.slice tv 61 1 (fnV m rv)::Ow.slice bv 3 1 (ints (fnL m s.b))::Xk m (n+1) rv ms)
  (λst=>mF (n+1) st.2 (csx n c1 st.1)::ge h0::mT m (n+1) ms s.t::Fc) (λst=>st.1<=n) (λst=>n-st.1) (0,λ_=>m00) (Nat.zero_le _) ?_ (hG:=.cons ((W.Has.mF0 (n+1)).QN λi _=>by simp[csx]) (.cons hmA (.cons hmA (Qw.tail λ_ h=>by(repeat(first|exact h|apply List.mem_cons_of_mem))))))
 rintro⟨k,mx⟩ hk;simp only at hk ⊢;by_cases c:k<n
 .repeat'(first|intro(g:Nat)|refine d114 ?_|intro v)
  refine WD.Xs first cap (vs:=[.int .i64 (k:Int)]) (hf k c) ?_ (hF:=(Qw.tail λ_ h=>by(repeat(first|exact h|apply List.mem_cons_of_mem))))
  rintro _ _ _ ⟨mk,rfl,rfl,rfl⟩;refine sNn ?_;refine WD.fact (mF (n+1) (upd mx k mk) (csx n c1 (k+1))) ((W.Has.Xh (k:=k) (ms:=mx) (m:=mk) (qf:=csx n c1 k) hmA hmA).QN λi _=>csx_up c i) ?_;repeat'(first|intro(g:Nat)|refine d114 ?_|intro v)
  exact Qq.mk (k+1,_) wq111 wq97 (hG:=.cons hmA (.cons hmA (.cons hmA (Qw.tail λ_ h=>by(repeat(first|exact h|apply List.mem_cons_of_mem))))))
 .obtain rfl:n=k:=qo;repeat'(first|intro(g:Nat)|refine d114 ?_|intro v)
  refine WC.perm (Ow.cells xg 177 [.int .i64 (vars:Int),.int .i64 (m:Int),.int .i64 (n:Int),tv,cv,bv]::Ow.slice tv 61 1 (fnV m rv)::Ow.slice cv 75 4 (Qa (n+1) mx)::Ow.slice bv 3 1 (ints (fnL m s.b))::Xk m (n+1) rv ms) (perm3 _ _ _ _) ?_
  refine WC.lpP (σ:=Nat×(Nat->QM)) (λst=>[(38,.int .i64 (st.1:Int)),(37,.int .i64 (m:Int)),(36,bv),(0,ptr xg)])
   (λst=>Ow.cells xg 177 [.int .i64 (vars:Int),.int .i64 (m:Int),.int .i64 (n:Int),tv,cv,bv]::Ow.slice tv 61 1 (fnV m rv)::Ow.slice cv 75 4 (Qa (n+1) st.2)::Ow.slice bv 3 1 (ints (fnL m s.b))::Xk m (n+1) rv ms)
   (λst=>[mF (n+1) st.2 (prS n c1 s st.1),ge h0,mT m (n+1) ms s.t]) (λst=>st.1<=m) (λst=>m-st.1) (0,mx) (Nat.zero_le _) ?_ (hG:=.cons (W.Has.QN (qf:=csx n c1 n) hmA λi _=>by unfold csx prS cs0;by_cases h:i<n<;>simp[h]) (.cons hmA (.cons hmA .nil)))
  clear c hk;rintro⟨i,my⟩ hi;simp only at hi ⊢;by_cases ci:i<m
  .have hbi:=hb i ci;repeat'(first|intro(g:Nat)|refine d114 ?_|intro v)
   refine WD.fact (mF (n+1) (ms i) (s.t i)) (W.Has.tm hmA ci) ?_;refine WD.Zg [Ow.slice cv 75 4 (Qa (n+1) my),Yx (n+1) (rv i) (ms i)] (Ow.cells xg 177 [.int .i64 (vars:Int),.int .i64 (m:Int),.int .i64 (n:Int),tv,cv,bv]::Ow.slice tv 61 1 (fnV m rv)::Ow.slice bv 3 1 (ints (fnL m s.b))::Kj m (n+1) rv ms i) (perm5 (Xg ci)) (wipe_c cv (rv i) (n+1) (s.b i) K my (ms i) (prS n c1 s i) (s.t i) qo qo hK (hc i hi) (hs i ci)) ?_;rintro _ _ _ ⟨mz,rfl,rfl,rfl⟩;refine sNn ?_;repeat'(first|intro(g:Nat)|refine d114 ?_|intro v)
   exact Xp.mk (i+1,mz) wq100 wq52 [] (by rw[List.append_nil];exact(perm5 (Xg ci)).symm)
  .obtain rfl:m=i:=qo;repeat'(first|intro(g:Nat)|refine d114 ?_|intro v)
   exact Fin.p (TB xg vars m n tv cv bv rv ms my s.b) [mF (n+1) my (prS n c1 s m)] (Qg.t0 rfl) meA (List.Sublist.refl _) haA ⟨cv,my,rfl,rfl,rfl⟩
end Z
def qcell_sh(ms:Nat->QM)(lo j:Nat):JR ms (lo*4+j)=JR (λi=>ms (lo+i)) j:=by
 unfold JR;rw[show(lo*4+j)/4=lo+j/4 by omega,show(lo*4+j)%4=j%4 by omega]
def W.Has.subF{F:List Fct}{v:Value}{n lo hi:Nat}{ms:Nat->QM}{q:Nat->Rat}(h:Has F (fF v n ms q))(h1:lo<=hi)(h2:hi<=n):Has F (fF (resl v lo hi 4) (hi-lo) (λi=>ms (lo+i)) (λi=>q (lo+i))):=λp hf=>by
 have h3:=Has.sub h.fs h1 h2 p hf;refine⟨?_,λi hi'=>h.fm p hf (lo+i) qo⟩;have:(λj=>JR ms (lo*4+j))=JR (λi=>ms (lo+i)):=funext λj=>qcell_sh ms lo j
 rwa [this] at h3
def W.Has.subM{F:List Fct}{v:Value}{n lo m:Nat}{ms:Nat->QM}{q:Nat->Rat}(h:Has F (fF v n ms q))(h2:lo+m<=n):Has F (fF (resl v lo (lo+m) 4) m (λi=>ms (lo+i)) (λi=>q (lo+i))):=by
 have:=W.Has.subF h (lo:=lo) (hi:=lo+m) qo h2
 rwa [Nat.add_sub_cancel_left] at this
def KQ(m n:Nat)(s:X.St)(k:Nat):Rat:=match X.fstT (λi=>decide (s.b i=k)) m 0 with
 |none=>0
 |some i=>s.t i n
def Z4(m:Nat)(s:X.St)(col k:Nat):Rat:=if k=col then 1 else match X.fstT (λi=>decide (s.b i=k)) m 0 with
 |none=>0
 |some i=>-s.t i col
def KR{p:Nat->Bool}{m i:Nat}(h:X.fstT p m 0=some i):i<m:=by
 rcases X.XB p m 0 with ⟨h1,_⟩|⟨j,h1,_,h3,_⟩
 .rw[h] at h1;cases h1
 .rw[h] at h1;cases h1;omega
namespace Z
attribute [local irreducible] WC WL WD YO LO Qq W.Fin Qv Qh Qj Row QV Qy KnS Has W.One Qp QJ
def d117{G G':Prop}(h:G')(s:Bx G'->G:=by
 intro h;first|refine gB ?_|(apply WC.draw (id:=1) [0,1,2,3,4,5,6,7,8,9,10,11,12,13,14,15,16,17,18,19,21] (.h 0<|.h 1<|.h 2<|.h 3<|.h 4<|.h 5<|.h 6<|.h 7<|.h 8<|.h 9<|.h 10<|.h 11<|.h 12<|.h 13<|.h 14<|.h 15<|.h 16<|.h 17<|.h 18<|.h 19<|.l 20<|.h 21 .done) mixed kr)|fail
 exact Bx.h h):G:=s ⟨h⟩
def d124{G G':Prop}(h:G')(s:Bx G'->G:=by
 intro h;first|refine gB ?_|(apply WC.draw (id:=3) [0,1,2,3,4,5,6,7,8,9,10,11,12] (.h 0<|.h 1<|.h 2<|.h 3<|.h 4<|.h 5<|.h 6<|.h 7<|.h 8<|.h 9<|.h 10<|.h 11<|.h 12<|.l 13 .done) mixed kr)|fail
 exact Bx.h h):G:=s ⟨h⟩
def slacks_c(xg vars m n:Nat)(tv cv bv:Value)(mc:Nat->QM)(c:Nat->Rat)(hv:vars<=1000)(hm:m<=1000)(hn:2*vars+m<=n+1) :
  FnB Tryz.prog 117 [ptr xg] [] [ce xg 177 [.int .i64 (vars:Int),.int .i64 (m:Int),.int .i64 (n:Int),tv,cv,bv],fF cv (n+1) mc c] (IsF m (λr=>c (2*vars+r))):=by
 refine fO [(0,(ptr xg))] 24 Tryz.func117 Tryz.ntmps117 λh0=>?_;repeat'(first|intro(g:Nat)|refine d117 ?_|intro v)
 rw[show(2:Int)*(vars:Int)+(m:Int)=((2*vars+m:Nat):Int) by simp,show(2:Int)*(vars:Int)=((2*vars:Nat):Int) by simp];repeat'(first|intro(g:Nat)|refine d117 ?_|intro v)
 refine WD.fact (fF (resl cv (2*vars) (2*vars+m) 4) m (λi=>mc (2*vars+i)) (λi=>c (2*vars+i))) (W.Has.subM (v:=cv) (ms:=mc) (q:=c) hmA hn) ?_;first|refine WD.Q3 (clone_c (resl cv (2*vars) (2*vars+m) 4) m (λi=>mc (2*vars+i)) (λi=>c (2*vars+i)) qo) ?_|skip
 rintro v1 _ _ ⟨ms1,rfl,rfl⟩;refine sNn ?_;repeat'(first|intro(g:Nat)|refine d117 ?_|intro v)
 refine WC.ret ?_;exact Fp [fF v1 m ms1 (λi=>c (2*vars+i))] (Qg.t1 rfl rfl) haA ⟨ms1,rfl,rfl⟩
def now_c(xg vars m n k:Nat)(tv cv bv:Value)(rv:Nat->Value)(ms:Nat->Nat->QM)(s:X.St) :
  FnB Tryz.prog 124 [ptr xg,.int .i64 (k:Int)] [] (TF xg vars m n tv cv bv rv ms s) (IsR (KQ m n s k)):=by
 refine fO [(0,(ptr xg)),(1,(.int .i64 (k:Int)))] 28 Tryz.func124 Tryz.ntmps124 λh0=>?_;repeat'(first|intro(g:Nat)|refine d124 ?_|intro v)
 refine cV (index_c bv m k s.b) ?_;cases hf:X.fstT (λi=>decide (s.b i=k)) m 0 with
 |none=>
  have e:KQ m n s k=0:=by unfold KQ;rw[hf]
  rw[e];rw[show X5 none= -1 from rfl];repeat'(first|intro(g:Nat)|refine d124 ?_|intro v)
  exact wq45
 |some i=>
  have hi:=KR hf;have e:KQ m n s k=s.t i n:=by unfold KQ;rw[hf]
  rw[e];rw[show X5 (some i)=(i:Int) from rfl];refine WL.QE (isQ (qv (ms i n)) (s.t i n)) (W.Has.qt (W.Has.rt (rv:=rv) hmA) hi qo) ?_;repeat'(first|intro(g:Nat)|refine d124 ?_|intro v)
  refine WC.ret ?_;exact Fp [isQ (qv (ms i n)) (s.t i n)] (rcV T.r75) haA ⟨ms i n,rfl,rfl,rfl⟩
def ray_c(xg vars m n k col:Nat)(tv cv bv:Value)(rv:Nat->Value)(ms:Nat->Nat->QM)(s:X.St)(hcol:col<n) :
  FnB Tryz.prog 123 [ptr xg,.int .i64 (k:Int),.int .i64 (col:Int)] [] (TF xg vars m n tv cv bv rv ms s) (IsR (Z4 m s col k)):=by
 refine fO [(0,(ptr xg)),(1,(.int .i64 (k:Int))),(2,(.int .i64 (col:Int)))] 32 Tryz.func123 Tryz.ntmps123 λh0=>?_;by_cases ck:k=col
 .have e:Z4 m s col k=1:=by unfold Z4;rw[if_pos ck]
  rw[e];repeat'(first|intro(g:Nat)|refine gA ?_|intro v)
  refine cW (Zn.of 1 1 qd qd) λm1=>?_;rw[show Rat.divInt 1 1=1 by decide +kernel];repeat'(first|intro(g:Nat)|refine gA ?_|intro v)
  exact wq102
 repeat'(first|intro(g:Nat)|refine gA ?_|intro v)
 refine cV (index_c bv m k s.b) ?_;cases hf:X.fstT (λi=>decide (s.b i=k)) m 0 with
 |none=>
  have e:Z4 m s col k=0:=by unfold Z4;rw[if_neg ck,hf]
  rw[e];rw[show X5 none= -1 from rfl];repeat'(first|intro(g:Nat)|refine gA ?_|intro v)
  exact wq45
 |some i=>
  have hi:=KR hf;have e:Z4 m s col k= -s.t i col:=by unfold Z4;rw[if_neg ck,hf]
  rw[e];rw[show X5 (some i)=(i:Int) from rfl];refine WL.QE (isQ (qv (ms i col)) (s.t i col)) (W.Has.qt (W.Has.rt (rv:=rv) hmA) hi qo) ?_;repeat'(first|intro(g:Nat)|refine gA ?_|intro v)
  refine cW (Zn.neg (ms i col) (s.t i col)) λm1=>?_;repeat'(first|intro(g:Nat)|refine gA ?_|intro v)
  refine WC.ret ?_;exact Fp [isQ (qv m1) (-s.t i col)] (rcV T.r75) haA ⟨m1,rfl,rfl,rfl⟩
end Z
end
namespace X
structure Szs(p:Lp)(K0 K L:Nat):Prop where
 pos:0<K0
 a:∀r,r<p.m->∀k,k<p.v->Sq K0 (p.a r k)
 b:∀r,r<p.m->Sq K0 (p.b r)
 g:∀k,k<p.v->Sq K0 (p.g k)
 k:2*(p.m*(50*K0+2)+1)+K0<=K
 v:p.v<=48
 m:p.m<=128
 l:p.m*(K0+K+1)+1+K0+1<=L
 t:L<=20000000
 kl:K<=L
 d:p.v*(2*(2*K+1)+1)+1+2*(2*K+1)<=400000000
def sq_one:Sq 1 1:=by
 constructor
 .show(Qx 1).length<=1;rw[JE qd qd];decide
 .show(Qx 1).length<=1;rw[JE qd qd];decide
section
variable {p:Lp}{K0 K L:Nat}
def Lp.dl(p:Lp)(r:Nat):Nat:=dp (λk=>if k<p.v then p.a r k else p.b r) (p.v+1)
def Du{r:Nat}{x y:Rat}{B:Nat}(h:∃z:Int,y*x=z/\z.natAbs<=B):∃z:Int,y*(p.sg r*x)=z/\z.natAbs<=B:=by
 obtain⟨z,h1,h2⟩:=h;unfold Lp.sg;split
 .exact⟨-z,by rw[Rat.intCast_neg,<-h1];grind,by rw[Int.natAbs_neg];exact h2⟩
 .exact⟨z,by rw[<-h1];grind,h2⟩
def lt_pow{k x:Nat}(h:(Qx x).length<=k):x<=1000000000^k:=Nat.le_of_lt (Nat.lt_of_lt_of_le Yv (Nat.pow_le_pow_right qd h))
def Szs.dA(h:Szs p K0 K L){r:Nat}(hr:r<p.m)(j:Nat):∃z:Int,(p.dl r:Rat)*p.A r j=z/\z.natAbs<=(1000000000^K0)^(p.v+2):=by
 have hq:∀k,k<p.v+1->Sq K0 (if k<p.v then p.a r k else p.b r):=λk _=>by
  split
  .exact h.a r hr k (by assumption)
  .exact h.b r hr
 have hd:p.dl r<=(1000000000^K0)^(p.v+1):=dp_le λk hk=>lt_pow (hq k hk).2;have hW:1<=1000000000^K0:=Nat.pow_pos qd;have hb:p.dl r<=(1000000000^K0)^(p.v+2):=Nat.le_trans hd (Nat.pow_le_pow_right hW qo)
 have hx:∀k,k<p.v+1->∃z:Int,(p.dl r:Rat)*(if k<p.v then p.a r k else p.b r)=z/\z.natAbs<=(1000000000^K0)^(p.v+2):=λk hk=>by
  obtain⟨z,h1,h2⟩:=dp_int (f:=λk=>if k<p.v then p.a r k else p.b r) hk;refine⟨z,h1,Nat.le_trans h2 ?_⟩;rw[show p.v+2=(p.v+1)+1 from rfl,Nat.pow_succ];exact Nat.mul_le_mul hd (lt_pow (hq k hk).1)
 have ha:∀k,k<p.v->∃z:Int,(p.dl r:Rat)*p.a r k=z/\z.natAbs<=(1000000000^K0)^(p.v+2):=λk hk=>by
  have:=hx k qo;rwa [if_pos hk] at this
 have h1:∃z:Int,(p.dl r:Rat)*(1:Rat)=z/\z.natAbs<=(1000000000^K0)^(p.v+2):=⟨(p.dl r:Int),by rw[Rat.mul_one];rfl,hb⟩
 have h0:∃z:Int,(p.dl r:Rat)*(0:Rat)=z/\z.natAbs<=(1000000000^K0)^(p.v+2):=⟨0,by rw[Rat.mul_zero];rfl,Nat.zero_le _⟩
 unfold Lp.A;split
 .exact Du (ha j (by assumption))
 .split
  .obtain⟨z,h3,h4⟩:=Du (p:=p) (r:=r) (ha (j-p.v) qo);exact⟨-z,by rw[Rat.intCast_neg,<-h3];grind,by rw[Int.natAbs_neg];exact h4⟩
  .split
   .split
    .obtain⟨z,h3,h4⟩:=Du (p:=p) (r:=r) h1;exact⟨z,by rw[<-h3];grind,h4⟩
    .exact h0
   .split
    .split
     .exact h1
     .exact h0
    .have:=hx p.v qo;rw[if_neg qo] at this;exact Du this
def Szs.T(h:Szs p K0 K L){c1:Nat->Rat}{s:St}(hi:Inv p.m p.n p.A c1 s){i:Nat}(him:i<p.m){j:Nat}(hj:j<p.n+1):Sq K (s.t i j):=by
 obtain⟨a,b,_,h2,h3,h4⟩:=hi.ratio inv0 (f:=λr=>(p.dl r:Rat)) (λr hr i hi=>A_art hi) (λr hr hx=>by
  have:=dp_pos (f:=λk=>if k<p.v then p.a r k else p.b r) (p.v+1);have h5:p.dl r=0:=by exact_mod_cast hx
  unfold Lp.dl at h5;omega) (λr hr j _=>h.dA hr j) him (j:=j) qo
 have hl:(Qx ((1000000000^K0)^(p.v+2))).length<=50*K0+1:=by
  refine Nat.le_trans (Q4 (k:=K0*(p.v+2)+1) ?_) ?_
  .rw[<-Nat.pow_mul];exact Nat.pow_lt_pow_right qd qo
  .have:=Nat.mul_le_mul_left K0 (show p.v+2<=50 by have:=h.v;omega);omega
 have hb:=bdt_len hl (m:=p.m) (by have:=h.m;omega);have hk:=h.k;rw[h2];refine(Sq.div (k:=p.m*(50*K0+2)+1) (l:=p.m*(50*K0+2)+1) qo (Sq.int (Nat.le_trans (JL h3) hb) qo) (Sq.int (Nat.le_trans (JL h4) hb) qo)).up qo
def Szs.c1(h:Szs p K0 K L)(j:Nat):Sq K0 (p.c1 j):=by
 unfold Lp.c1;split
 .exact sq_one.up h.pos
 .exact Sq.zero.up h.pos
def Szs.c2(h:Szs p K0 K L)(j:Nat):Sq K0 (p.c2 j):=by
 unfold Lp.c2;split
 .exact(h.g j (by assumption)).neg
 .split
  .exact h.g _ qo
  .exact Sq.zero.up h.pos
def Szs.sum(h:Szs p K0 K L){c1:Nat->Rat}(hc:∀j,Sq K0 (c1 j)){s:St}(hs:∀i,i<p.m->∀j,j<p.n+1->Sq K (s.t i j)){x:Rat}(hx:Sq K0 x){i:Nat}(hi:i<=p.m){j:Nat}(hj:j<p.n+1):Sq L (x-sm i λr=>c1 (s.b r)*s.t r j):=by
 have h1:=Kw (m:=i) (f:=λr=>c1 (s.b r)*s.t r j) (k:=K0+K) λr hr=>(hc _).mul (hs r qo j hj);refine(hx.sub h1).up ?_;have:=Nat.mul_le_mul_right (K0+K+1) hi;have:=h.l;omega
def Szs.C(h:Szs p K0 K L){c1:Nat->Rat}(hc:∀j,Sq K0 (c1 j)){s:St}(hi:Inv p.m p.n p.A c1 s){j:Nat}(hj:j<p.n+1):Sq L (s.c j):=by
 rw[hi.cost qo];exact h.sum hc (λi him j hj=>h.T hi him hj) (hc j) (Nat.le_refl _) hj
def prS_eq{n m:Nat}{c1:Nat->Rat}{s:St}(hb:∀i,i<m->s.b i<n)(hu:∀i,i<m->∀k,k<m->s.t i (s.b k)=if i=k then 1 else 0):∀i,i<=m->∀j,prS n c1 s i j=cs0 n c1 j-sm i λr=>c1 (s.b r)*s.t r j:=by
 intro i;induction i with
 |zero=>intro _ j;show cs0 n c1 j=cs0 n c1 j-0;grind
 |succ i ih=>
  intro hi j
  have e:prS n c1 s i (s.b i)=c1 (s.b i):=by
   rw[ih qo,JU λr hr=>by rw[hu r qo i qo,if_neg qo];grind];unfold cs0;rw[if_pos (hb i qo)];grind
  show prS n c1 s i j-prS n c1 s i (s.b i)*s.t i j=_;rw[e,ih qo];show _=cs0 n c1 j-(sm i (λr=>c1 (s.b r)*s.t r j)+c1 (s.b i)*s.t i j);grind
def prS_prc{n m:Nat}{c1:Nat->Rat}{s:St}(hb:∀i,i<m->s.b i<n)(hu:∀i,i<m->∀k,k<m->s.t i (s.b k)=if i=k then 1 else 0)(hn:c1 n=0){j:Nat}(hj:j<n+1):prS n c1 s m j=(prc m c1 s).c j:=by
 rw[prS_eq hb hu m (Nat.le_refl _)];show cs0 n c1 j-_=c1 j-_
 congr 1
 unfold cs0;split
 .rfl
 .rw[show j=n by omega,hn]
def Szs.P(h:Szs p K0 K L){c1 c0:Nat->Rat}(hc:∀j,Sq K0 (c1 j)){s:St}(hi:Inv p.m p.n p.A c0 s){i:Nat}(him:i<=p.m){j:Nat}(hj:j<p.n+1):Sq L (prS p.n c1 s i j):=by
 rw[prS_eq hi.bd hi.u i him];refine h.sum hc (λi him j hj=>h.T hi him hj) ?_ him hj;unfold cs0;split
 .exact hc j
 .exact Sq.zero.up h.pos
def nowV_wt{m n:Nat}{A:Nat->Nat->Rat}{c0:Nat->Rat}{s:St}(h:Inv m n A c0 s)(k:Nat):KQ m n s k=wt m s (λi=>s.t i n) k:=by
 unfold KQ wt;rcases XB (λi=>decide (s.b i=k)) m 0 with ⟨h1,h2⟩|⟨i,h1,_,h3,h4,_⟩
 .rw[h1];exact(JU λi hi=>if_neg (of_decide_eq_false (h2 i qo qo))).symm
 .rw[h1];have hb:=of_decide_eq_true h4;rw[JO (r:=i) qo λj hj hne=>if_neg λhx=>hne (h.inj hj qo (by rw[hx,hb])),if_pos hb]
def nowV_sz{m n K:Nat}{s:St}(hK:0<K)(hs:∀i,i<m->Sq K (s.t i n))(k:Nat):Sq K (KQ m n s k):=by
 unfold KQ;cases hf:fstT (λi=>decide (s.b i=k)) m 0 with
 |none=>exact Sq.zero.up hK
 |some i=>exact hs i (KR hf)
def F5{m K:Nat}{s:St}{col:Nat}(hK:0<K)(hs:∀i,i<m->Sq K (s.t i col))(k:Nat):Sq K (Z4 m s col k):=by
 unfold Z4;split
 .exact sq_one.up hK
 .cases hf:fstT (λi=>decide (s.b i=k)) m 0 with
  |none=>exact Sq.zero.up hK
  |some i=>exact(hs i (KR hf)).neg
def rayV_rv{p:Lp}{c0:Nat->Rat}{s:St}(h:Inv p.m p.n p.A c0 s){col:Nat}(hc:s.c col<0)(k:Nat):Z4 p.m s col k=rv p s col k:=by
 unfold Z4 rv;by_cases e:k=col
 .rw[if_pos e,if_pos e];subst e;have h0:wt p.m s (λi=>s.t i k) k=0:=JU λi hi=>if_neg λhb=>h.non hc ⟨i,hi,hb⟩;rw[h0];grind
 .rw[if_neg e,if_neg e];unfold wt;rcases XB (λi=>decide (s.b i=k)) p.m 0 with ⟨h1,h2⟩|⟨i,h1,_,h3,h4,_⟩
  .rw[h1,JU λi hi=>if_neg (of_decide_eq_false (h2 i qo qo))];grind
  .rw[h1];have hb:=of_decide_eq_true h4;rw[JO (r:=i) qo λj hj hne=>if_neg λhx=>hne (h.inj hj qo (by rw[hx,hb])),if_pos hb];show -s.t i col=0-s.t i col;grind
end
end X
section
open W Go.RowKit
structure Pm where
 lv:Value
 gv:Value
 av:Nat->Value
 ma:Nat->Nat->QM
 mb:Nat->QM
 mg:Nat->QM
def pcell(av:Nat->Value)(mb:Nat->QM)(j:Nat):Value:=(av (j/5)::qcs (mb (j/5))).getD (j%5) undef
def Hn(av:Nat->Value)(mb:Nat->QM)(k:Nat){r:Nat}(hr:r<5):pcell av mb (k*5+r)=(av k::qcs (mb k)).getD r undef:=by
 unfold pcell;rw[show(k*5+r)/5=k by omega,show(k*5+r)%5=r by omega]
def fPg(M:Pm)(m gn:Nat)(ln:Nat->Nat)(a:Nat->Nat->Rat)(b g:Nat->Rat):Fct where
 p h:=(slC M.lv m 5 (pcell M.av M.mb)).p h/\(∀i,i<m->(fF (M.av i) (ln i) (M.ma i) (a i)).p h)/\(mF m M.mb b).p h/\(fF M.gv gn M.mg g).p h
 mono _ _ hl hp:=⟨(slC _ _ _ _).mono _ _ hl hp.1,λi hi=>(fF _ _ _ _).mono _ _ hl (hp.2.1 i hi),(mF _ _ _).mono _ _ hl hp.2.2.1,(fF _ _ _ _).mono _ _ hl hp.2.2.2⟩
abbrev fP(M:Pm)(p:X.Lp):Fct:=fPg M p.m p.v (λ_=>p.v) p.a p.b p.g
abbrev pcs(M:Pm)(v:Int):List Value:=[.int .i64 v,M.lv,M.gv]
abbrev pgv(M:Pm)(v:Int):Value:=.agg #[.int .i64 v,M.lv,M.gv]
section
variable {P:Program}{e:Env}{bx:List Ow}{F:List Fct}{ty t:TypeId}{x:Operand}{M:Pm}{m gn i:Nat}{ln:Nat->Nat}{a:Nat->Nat->Rat}{b g:Nat->Rat}
def W.Has.pl(h:Has F (fPg M m gn ln a b g)):Has F (slC M.lv m 5 (pcell M.av M.mb)):=λp hf=>(h p hf).1
def W.Has.pa(h:Has F (fPg M m gn ln a b g))(hi:i<m):Has F (fF (M.av i) (ln i) (M.ma i) (a i)):=λp hf=>(h p hf).2.1 i hi
def W.Has.pb(h:Has F (fPg M m gn ln a b g)):Has F (mF m M.mb b):=λp hf=>(h p hf).2.2.1
def W.Has.pbq(h:Has F (fPg M m gn ln a b g))(hi:i<m):Has F (isQ (qv (M.mb i)) (b i)):=W.Has.q h.pb hi
def W.Has.pg(h:Has F (fPg M m gn ln a b g)):Has F (fF M.gv gn M.mg g):=λp hf=>(h p hf).2.2.2
def KnS.pl(h:Has F (fPg M m gn ln a b g)):KnS bx F M.lv m:=KnS.f h.pl
def YO.ldPl(hs:Row P t 5)(hx:ev e x=some (.pointer (some (eaddr M.lv (i*5)))))(h:Has F (fPg M m gn ln a b g))(hi:i<m):YO P (.load t x) ty e bx F (.agg #[M.av i,.bool (M.mb i).1,(M.mb i).2.1,.bool false,(M.mb i).2.2]):=
 YO.ldRS (us:=M.av i::qcs (M.mb i)) hs hx h.pl qo rfl λk hk=>by
  rw[Hn _ _ _ hk];match k,hk with|0,_=>rfl|1,_=>rfl|2,_=>rfl|3,_=>rfl|4,_=>rfl
def YO.buildTb{x y z:Operand}{i j k:Int}(h1:ev e x=some (.int .i64 i))(h2:ev e y=some (.int .i64 j))(h3:ev e z=some (.int .i64 k)):YO Tryz.prog (.build 177 #[(0,x),(1,y),(2,z)]) ty e bx F (.agg #[.int .i64 i,.int .i64 j,.int .i64 k,.slice none 0 0,.slice none 0 0,.slice none 0 0]):=YO.build (parts:=[(0,x),(1,y),(2,z)]) (.cons h1 (.cons h2 (.cons h3 .nil))) λw=>run_build w 177 _ _ kr
def LO.bsV1{w:Value}{n:Nat}{K:Qf}(hx:ev e x=some w)(kd:KnS bx F w n)(h:∀v,K v (Ow.slice v 61 1 [w]::bx) F):LO Tryz.prog (.buildSlice 175 1 #[(0,x)]) ty e bx F K:=by
 refine LO.byP (p:=∃a c,w=.slice a n c) (λfr w ho=>by obtain⟨a,c,h1,_⟩:=(kd fr w ho).is;exact⟨a,c,h1⟩) ?_;rintro⟨a,c,rfl⟩;exact LO.buildSlice (parts:=[(0,x)]) (us:=[.slice a n c]) (cs:=[.slice a n c]) (.cons hx .nil) (λ_=>by kernel_rfl) rfl qd h
def fnV_app{n:Nat}{f:Nat->Value}{w:Value}:fnV n f++[w]=fnV (n+1) (upd f n w):=by
 unfold fnV;rw[List.range_succ,List.map_append]
 congr 1
 .exact List.map_congr_left λj hj=>(upd_ne (by have:=List.mem_range.1 hj;omega)).symm
 .simp[QU]
def fnL_app{n:Nat}{f:Nat->Nat}{c:Nat}:ints (fnL n f)++[.int .i64 (c:Int)]=ints (fnL (n+1) (upd f n c)):=by
 unfold fnL ints;rw[List.range_succ,List.map_append,List.map_append]
 congr 1
 .rw[List.map_map,List.map_map]
  exact List.map_congr_left λj hj=>by
   show Value.int .i64 ((f j:Nat):Int)=Value.int .i64 ((upd f n c j:Nat):Int);rw[upd_ne (by have:=List.mem_range.1 hj;omega)]
 .simp[QU]
def LO.appVV{el':TypeId}{bx2:Value->List Ow}{y:Operand}{u v w:Value}{n:Nat}{f:Nat->Value}{K:Qf}(hx:ev e x=some v)(hy:ev e y=some u)(hu:Ow.slice u el' 1 [w]∈bx)(hm:One bx F w)(hs:∀v',Sel bx (.slice v 61 1 (fnV n f)) (.slice v' 61 1 (fnV (n+1) (upd f n w))) (bx2 v'))(hl:n<=1000000)(h:∀v',K v' (bx2 v') F) :
  LO Tryz.prog (.call {callee:=.builtin .append,args:=#[x,y],argTypes:=#[175,175]}) ty e bx F K:=by
 refine LO.byP (λfr w ho=>(hm fr w ho).2) λh1=>?_;exact LO.append T.e175 hx hy (news:=[w]) (by rw[fnV_app];exact hs) (Qp.one hu rfl qd) (by simpa using h1) (by rw[KP];show(n+1)*24<=_;omega) (by rw[KP];show n+1<=_;omega) h
def LO.appNN{el':TypeId}{bx2:Value->List Ow}{y:Operand}{u v:Value}{n c:Nat}{f:Nat->Nat}{K:Qf}(hx:ev e x=some v)(hy:ev e y=some u)(hu:Ow.slice u el' 1 [.int .i64 (c:Int)]∈bx)(hs:∀v',Sel bx (.slice v 3 1 (ints (fnL n f))) (.slice v' 3 1 (ints (fnL (n+1) (upd f n c)))) (bx2 v'))(hl:n<=1000000)(h:∀v',K v' (bx2 v') F) :
  LO Tryz.prog (.call {callee:=.builtin .append,args:=#[x,y],argTypes:=#[28,28]}) ty e bx F K:=by
 have hll:(ints (fnL n f)).length=n:=by simp[fnL]
 exact LO.append T.e28 hx hy (news:=[.int .i64 (c:Int)]) (by rw[fnL_app];exact hs) (Qp.one hu rfl qd) (by simp[Value.oneCell']) (by rw[hll];show(n+1)*8<=_;omega) (by rw[hll];show n+1<=_;omega) h
end
def ex_cons{bx bx' B:List Ow}{b:Ow}(h1:bx.Perm (b::bx'))(h2:∃r,bx'.Perm (B++r)):∃r,bx.Perm ((b::B)++r):=by
 obtain⟨r,h2⟩:=h2;exact⟨r,h1.trans (h2.cons b)⟩
def QB(l:List Ow){R:List Ow}:∃r,(l++R).Perm (R++r):=⟨l,List.perm_append_comm⟩
def rows_app{m w:Nat}{rv:Nat->Value}{ms:Nat->Nat->QM}{l:Value}{mx:Nat->QM}:(Xk (m+1) w (upd rv m l) (upd ms m mx)).Perm (Yx w l mx::Xk m w rv ms):=by
 unfold Xk HQ;rw[List.range_succ,List.map_append];refine List.perm_append_comm.trans ?_;show(Yx w (upd rv m l m) (upd ms m mx m)::_).Perm _;rw[QU,QU];refine List.Perm.cons _ (List.Perm.of_eq ?_);refine List.map_congr_left λj hj=>?_;have:=List.mem_range.1 hj;rw[upd_ne qo,upd_ne qo]
def ex_row{m w:Nat}{rv:Nat->Value}{ms:Nat->Nat->QM}{l:Value}{mx:Nat->QM}{bx bx':List Ow}(h1:bx.Perm (Yx w l mx::bx'))(h2:∃r,bx'.Perm (Xk m w rv ms++r)):∃r,bx.Perm (Xk (m+1) w (upd rv m l) (upd ms m mx)++r):=by
 obtain⟨r,h2⟩:=h2;exact⟨r,(h1.trans (h2.cons _)).trans (rows_app.symm.append_right r)⟩
def IsPut(g8 g7:Nat)(neg:Bool)(l:Value)(w k:Nat)(ms:Nat->QM)(q:Rat):Qf:=λv B G=>∃m',v=.tuple #[]/\B=[Ow.cells g8 4 [.bool neg],Ow.cells g7 61 [l],Yx w l (upd ms k m')]/\G=[isQ (qv m') (if neg=true then -q else q)]
namespace Z
attribute [local irreducible] WC WL WD YO LO Qq W.Fin Qv Qh Qj Row QV Qy KnS Has W.One Qp QJ
def put_c(g8 g7:Nat)(neg:Bool)(l:Value)(w k:Nat)(ms:Nat->QM)(mv:QM)(q:Rat)(hk:k<w):FnB Tryz.prog 189 [.int .i64 (k:Int),qv mv,ptr g8,ptr g7] [Ow.cells g8 4 [.bool neg],Ow.cells g7 61 [l],Yx w l ms] [isQ (qv mv) q] (IsPut g8 g7 neg l w k ms q):=by
 refine fO [(0,(.int .i64 (k:Int))),(1,(qv mv)),(2,(ptr g8)),(3,(ptr g7))] 13 Tryz.func189 Tryz.ntmps189 λh0=>?_;repeat'(first|intro(g:Nat)|refine gA ?_|intro v)
 cases neg with
 |true=>
  repeat'(first|intro(g:Nat)|refine gA ?_|intro v)
  refine cW (Zn.neg (m1:=mv) (a:=q)) λm2=>?_;repeat'(first|intro(g:Nat)|refine gA ?_|intro v)
  exact Fin.p [_,_,_] [isQ (qv m2) (-q)] (Qg.t0 rfl) meA slA haA ⟨m2,rfl,rfl,rfl⟩
 |false=>
  repeat'(first|intro(g:Nat)|refine gA ?_|intro v)
  exact Fin.p [_,_,_] [isQ (qv mv) q] (Qg.t0 rfl) meA slA haA ⟨mv,rfl,rfl,rfl⟩
end Z
def ptx(vars:Nat)(val:Nat->Rat)(k j:Nat):Rat:=if j<k then val j-val (vars+j) else 0
def ptx_up{vars:Nat}{val:Nat->Rat}{k:Nat}(i:Nat):upd (ptx vars val k) k (val k-val (vars+k)) i=ptx vars val (k+1) i:=by
 unfold ptx upd;by_cases c:i=k
 .subst c;simp
 .by_cases c2:i<k
  .simp[c,c2,show i<k+1 by omega]
  .simp[c,c2,show ¬i<k+1 by omega]
def hasB_row{bx:List Ow}{F:List Fct}{m w i hi:Nat}{v:Value}{ms:Nat->Nat->QM}{t:Nat->Nat->Rat}(hb:Yx w v (ms i)∈bx)(hm:Has F (mT m w ms t))(hi':i<m)(h:hi<=w):QQ bx F (fF (resl v 0 hi 4) hi (ms i) (t i)):=λfr w' ho=>by
 have h1:=QQ.fF (bx:=bx) (F:=F) hb (hm.tm hi') fr w' ho;have h2:=ZV h1.1 (Nat.zero_le hi) h;refine⟨?_,λk hk=>h1.2 k qo⟩;simpa using h2
namespace Z
attribute [local irreducible] WC WL WD YO LO Qq W.Fin Qv Qh Qj Row QV Qy KnS Has W.One Qp QJ
def d121{G G':Prop}(h:G')(s:Bx G'->G:=by
 intro h;first|refine gB ?_|(apply WC.draw (id:=5) [0,1,2,3,5,6,7,8,9,10,11,14] (.h 0<|.h 1<|.h 2<|.h 3<|.h 5<|.h 6<|.h 7<|.h 8<|.h 9<|.h 10<|.h 11<|.l 4<|.l 12<|.l 13<|.h 14<|.l 15 .done) mixed kr)|fail
 exact Bx.h h):G:=s ⟨h⟩
def F3(xg vars K:Nat)(r2 r3 tv cv bv:Value)(f:FuncId)(first cap:List Value)(Fc:List Fct)(val:Nat->Rat)(hv:vars<=1000)(hK:K<=100000000)
  (hf:∀k:Nat,k<2*vars->FnB Tryz.prog f (first++[.int .i64 (k:Int)]++cap) [] Fc (IsR (val k))) (hq:∀k,k<2*vars->Sq K (val k)) :
  FnB Tryz.prog 121 [ptr xg,.func (.func f) first.toArray cap.toArray] [] (ce xg 177 [.int .i64 (vars:Int),r2,r3,tv,cv,bv]::Fc) (IsF vars (λk=>val k-val (vars+k))):=by
 refine fO [(0,(ptr xg)),(1,(.func (.func f) first.toArray cap.toArray))] 34 Tryz.func121 Tryz.ntmps121 λh0=>?_;repeat'(first|intro(g:Nat)|refine d121 ?_|intro v)
 revert v;intro ov
 refine WC.lp (σ:=Nat×(Nat->QM)) (λst=>[(14,.int .i64 (st.1:Int)),(13,.int .i64 (vars:Int)),(5,ov),(0,ptr xg),(1,.func (.func f) first.toArray cap.toArray)]) (λst=>[Ow.slice ov 75 4 (Qa vars st.2)])
  (λst=>mF vars st.2 (ptx vars val st.1)::ge h0::ce xg 177 [.int .i64 (vars:Int),r2,r3,tv,cv,bv]::Fc) (λst=>st.1<=vars) (λst=>vars-st.1) (0,λ_=>m00) (Nat.zero_le _) ?_ (hG:=.cons ((W.Has.mF0 vars).QN λi _=>by simp[ptx]) (.cons hmA (.cons hmA (Qw.tail λ_ h=>by(repeat(first|exact h|apply List.mem_cons_of_mem))))))
 rintro⟨k,mx⟩ hk;simp only at hk ⊢;by_cases c:k<vars
 .repeat'(first|intro(g:Nat)|refine d121 ?_|intro v)
  refine WD.Xs first cap (vs:=[.int .i64 (k:Int)]) (hf k qo) ?_ (hF:=Qw.tail λ_ h=>by(repeat(first|exact h|apply List.mem_cons_of_mem)))
  rintro _ _ _ ⟨m1,rfl,rfl,rfl⟩;refine sNn ?_;repeat'(first|intro(g:Nat)|refine d121 ?_|intro v)
  refine WD.Xs first cap (vs:=[.int .i64 ((vars+k:Nat):Int)]) (hf (vars+k) qo) ?_ (hF:=Qw.tail λ_ h=>by(repeat(first|exact h|apply List.mem_cons_of_mem)))
  rintro _ _ _ ⟨m2,rfl,rfl,rfl⟩;refine sNn ?_;repeat'(first|intro(g:Nat)|refine d121 ?_|intro v)
  refine cW (Zn.sub m1 m2 (val k) (val (vars+k)) ((hq k qo).sm qo) ((hq (vars+k) qo).sm qo)) λm3=>?_;refine WD.fact (mF vars (upd mx k m3) (ptx vars val (k+1))) ((W.Has.Xh (k:=k) (ms:=mx) (m:=m3) (qf:=ptx vars val k) hmA hmA).QN λi _=>ptx_up i) ?_;repeat'(first|intro(g:Nat)|refine d121 ?_|intro v)
  exact Qq.mk (k+1,_) (by show k+1<=vars;omega) (by show vars-(k+1)<vars-k;omega) (hG:=.cons hmA (.cons hmA (.cons hmA (Qw.tail λ_ h=>by(repeat(first|exact h|apply List.mem_cons_of_mem))))))
 .obtain rfl:vars=k:=qo;repeat'(first|intro(g:Nat)|refine d121 ?_|intro v)
  refine WC.Xd ov vars mx (λk=>val k-val (vars+k)) wq3 (W.Has.QN (qf:=ptx vars val vars) hmA λi hi=>by simp[ptx,hi]) ?_;refine WC.ret ?_;exact Fp [fF ov vars mx (λk=>val k-val (vars+k))] (Qg.t1 rfl rfl) haA ⟨mx,rfl,rfl⟩
def nonzero_c(m1:QM)(q:Rat)(Fc:List Fct):FnB Tryz.prog 196 [qv m1] [] (isQ (qv m1) q::Fc) (IsV (.bool (decide (q≠0)))):=by
 refine fO [(0,(qv m1))] 6 Tryz.func196 Tryz.ntmps196 λh0=>?_;repeat'(first|intro(g:Nat)|refine gA ?_|intro v)
 refine cV (Zn.sign m1 q) ?_;by_cases c:q=0
 .have h:=Xf.2 c;repeat'(first|intro(g:Nat)|refine gA ?_|intro v)
  refine WC.ret ?_;exact Fin.v (Qg.t1 rfl rfl) meA (by rw[decide_eq_false (λh=>h c)])
 .have h:¬sgn q.num=0:=λh=>c (Xf.1 h);repeat'(first|intro(g:Nat)|refine gA ?_|intro v)
  refine WC.ret ?_;exact Fin.v (Qg.t1 rfl rfl) meA (by rw[decide_eq_true c])
end Z
namespace Z
attribute [local irreducible] WC WL WD YO LO Qq W.Fin Qv Qh Qj Row QV Qy KnS Has W.One Qp QJ
def cost1_c(g6 k:Nat)(last:Nat):FnB Tryz.prog 115 [.int .i64 (k:Int),ptr g6] [] [ce g6 3 [.int .i64 (last:Int)]] (IsR (if last<=k then 1 else 0)):=by
 refine fO [(0,(.int .i64 (k:Int))),(1,(ptr g6))] 9 Tryz.func115 Tryz.ntmps115 λh0=>?_;by_cases c:last<=k
 .rw[if_pos c];repeat'(first|intro(g:Nat)|refine gA ?_|intro v)
  refine cW (Zn.of 1 1 qd qd) λm1=>?_;rw[show Rat.divInt 1 1=1 by decide +kernel];repeat'(first|intro(g:Nat)|refine gA ?_|intro v)
  exact wq102
 .rw[if_neg c];repeat'(first|intro(g:Nat)|refine gA ?_|intro v)
  exact wq45
def cost2_c(M:Pm)(p:X.Lp)(gp k:Nat)(hv:p.v<=1000):FnB Tryz.prog 119 [.int .i64 (k:Int),ptr gp] [] [ce gp 118 (pcs M p.v),fP M p] (IsR (p.c2 k)):=by
 refine fO [(0,(.int .i64 (k:Int))),(1,(ptr gp))] 30 Tryz.func119 Tryz.ntmps119 λh0=>?_;refine WC.fact (fF M.gv p.v M.mg p.g) (W.Has.pg (M:=M) (m:=p.m) (gn:=p.v) (ln:=λ_=>p.v) (a:=p.a) (b:=p.b) (g:=p.g) hmA) ?_;unfold X.Lp.c2;by_cases c:k<p.v
 .rw[if_pos c];refine WC.fact (isQ (qv (M.mg k)) (p.g k)) (W.Has.q (W.Has.fm (v:=M.gv) hmA) c) ?_;repeat'(first|intro(g:Nat)|refine gA ?_|intro v)
  refine cW (Zn.neg (m1:=M.mg k) (a:=p.g k)) λm1=>?_;repeat'(first|intro(g:Nat)|refine gA ?_|intro v)
  refine WC.ret ?_;exact Fp [isQ (qv m1) (-(p.g k))] (rcV T.r75) haA ⟨m1,rfl,rfl,rfl⟩
 .rw[if_neg c];by_cases c2:k<2*p.v
  .rw[if_pos c2];have he:((k:Int)-(p.v:Int)).toNat=k-p.v:=qo;refine WC.fact (isQ (qv (M.mg ((k:Int)-(p.v:Int)).toNat)) (p.g (k-p.v))) (by rw[he];exact W.Has.q (W.Has.fm (v:=M.gv) hmA) qo) ?_;repeat'(first|intro(g:Nat)|refine gA ?_|intro v)
   refine WC.ret ?_;exact Fp [isQ (qv (M.mg ((k:Int)-(p.v:Int)).toNat)) (p.g (k-p.v))] (rcV T.r75) haA ⟨_,rfl,rfl,rfl⟩
  .rw[if_neg c2];repeat'(first|intro(g:Nat)|refine gA ?_|intro v)
   exact wq45
def rayf_c(g5 g7 xg vars m n k col:Nat)(tv cv bv:Value)(rv:Nat->Value)(ms:Nat->Nat->QM)(s:X.St)(hcol:col<n) :
  FnB Tryz.prog 122 [.int .i64 (k:Int),ptr g5,ptr g7] [] (ce g5 173 [ptr xg]::ce g7 3 [.int .i64 (col:Int)]::TF xg vars m n tv cv bv rv ms s) (IsR (Z4 m s col k)):=by
 refine fO [(0,(.int .i64 (k:Int))),(1,(ptr g5)),(2,(ptr g7))] 9 Tryz.func122 Tryz.ntmps122 λh0=>?_;repeat'(first|intro(g:Nat)|refine gA ?_|intro v)
 refine cW (ray_c xg vars m n k col tv cv bv rv ms s hcol) λm1=>?_;repeat'(first|intro(g:Nat)|refine gA ?_|intro v)
 refine WC.ret ?_;exact Fp [isQ (qv m1) (Z4 m s col k)] (rcV T.r75) haA ⟨m1,rfl,rfl,rfl⟩
end Z
end
end Go.Proofs.YtbnobghgnbockaaGreat
