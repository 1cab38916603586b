/- Lemmas for a law. Conditions: none. -/
import Derived.Test.YtbnobghgnbockaaGreatZg37
set_option linter.all false
set_option maxHeartbeats 32000000
set_option maxRecDepth 100000
namespace Go.Proofs.YtbnobghgnbockaaGreat
open W Go.RowKit
open Bl (Vc Bd Tc Sc)
def kept(p:List Int->Bool)(C:List (List Int))(j:Nat):List (List Int):=(C.take j).filter λs=>!p s
section
variable {p:List Int->Bool}{C:List (List Int)}{j:Nat}
def Zk(h:j<C.length):C.take (j+1)=C.take j++[sl C j]:=by
 rw[List.take_add_one,List.getElem?_eq_getElem h,sl,List.getD_eq_getElem?_getD,List.getElem?_eq_getElem h];rfl
def kept_yes(h:j<C.length)(hp:p (sl C j)=true):kept p C (j+1)=kept p C j:=by
 unfold kept;rw[Zk h,List.filter_append,List.filter_cons,hp];exact List.append_nil _
def kept_no(h:j<C.length)(hp:p (sl C j)=false):kept p C (j+1)=kept p C j++[sl C j]:=by
 unfold kept;rw[Zk h,List.filter_append,List.filter_cons,hp];rfl
def kept_all:kept p C C.length=C.filter λs=>!p s:=by unfold kept;rw[List.take_length]
def Hd{i:Nat}(hi:i<=C.length)(h:∀q,q<i->p (sl C q)=false):kept p C i=C.take i:=by
 unfold kept;rw[List.filter_eq_self];intro s hs;obtain⟨q,hq,rfl⟩:=List.mem_iff_getElem.1 hs;have hq2:q<i:=by rw[List.length_take] at hq;omega
 have h1:=h q hq2;rw[sl,List.getD_eq_getElem?_getD,List.getElem?_eq_getElem qo] at h1;rw[List.getElem_take];simpa using h1
def sl_snoc{D:List (List Int)}{s:List Int}{q:Nat}(h:q<D.length):sl (D++[s]) q=sl D q:=by
 rw[sl,sl,List.getD_eq_getElem?_getD,List.getD_eq_getElem?_getD,List.getElem?_append_left h]
def sl_last{D:List (List Int)}{s:List Int}:sl (D++[s]) D.length=s:=by
 rw[sl,List.getD_eq_getElem?_getD];simp
def sl_out{D:List (List Int)}{q:Nat}(h:D.length<=q):sl D q=[]:=by
 rw[sl,List.getD_eq_getElem?_getD,List.getElem?_eq_none h];rfl
end
def Hj{bx:List Ow}{F:List Fct}:∀{G:List Fct},(∀g∈G,QQ bx F g)->QZ bx F G
 |[],_=>.nil
 |_::_,h=>.cons (h _ (List.mem_cons_self ..)) (Hj λg hg=>h g (List.mem_cons_of_mem _ hg))
def has_sI0{F:List Fct}:W.Has F (sI (.slice none 0 0) []):=λp _=>⟨none,0,rfl,Nat.le_refl _,by simp[maxLen],.inl ⟨rfl,rfl,rfl⟩⟩
section
variable {M α:Type}{S:Shp M α}{F:List Fct}{v:Value}{n i:Nat}{ms ns:Nat->M}{xs ys:Nat->α}
def W.Has.takeL(h:W.Has F (lF S v n ms xs))(hi:i<=n):W.Has F (lF S (resl v 0 i S.w) i ms xs):=λp hf=>by
 obtain⟨h1,h2⟩:=h p hf;refine⟨?_,λk hk=>h2 k qo⟩;have h3:=ZV (lo:=0) h1 (Nat.zero_le i) hi;rw[Nat.sub_zero] at h3;exact Yc h3 λj _=>by rw[Nat.zero_mul,Nat.zero_add]
def row1{ms:Nat->Value}{xs:Nat->List Int}{j:Nat}:ZU Qm ms xs j=ms j:=by
 unfold ZU Je;simp[Nat.mod_one]
def cells_set1{ms:Nat->Value}{xs:Nat->List Int}{u:Value}{a:List Int}(h:i<n):(QX Qm n ms xs).set i u=QX Qm n (upd ms i u) (upd xs i a):=by
 have h1:=Hb (S:=Qm) (ms:=ms) (xs:=xs) (mm:=u) (aa:=a) h;rw[<-h1,Nat.mul_one,Vv _ _ _ (by rw[Qu];show i<n*1;omega)]
def cells_clear{ms:Nat->Value}{xs ys:Nat->List Int}(hi:i<=n):(QX Qm n ms xs).take i++List.replicate (n-i) (.slice none 0 0)=QX Qm n (λq=>if q<i then ms q else .slice none 0 0) ys:=by
 have hl:((QX Qm n ms xs).take i).length=i:=by rw[List.length_take,Qu];show min i (n*1)=i;omega
 refine Jv (by rw[List.length_append,hl,List.length_replicate];show _=n*1;omega) λj hj=>?_;rw[row1]
 have hj:j<n:=by
  have:j<n*1:=hj;omega
 by_cases c:j<i
 .rw[List.getElem?_append_left qo,List.getElem?_take,if_pos c,QK (by show j<n*1;omega),row1,if_pos c]
 .rw[List.getElem?_append_right qo,hl,if_neg c,List.getElem?_replicate,if_pos qo]
def has_clr{D:List (List Int)}{ms:Nat->Value}{xs:Nat->List Int}(h:W.Has F (lM Qm n ms xs))(hx:∀q,q<D.length->xs q=sl D q):W.Has F (lM Qm n (λq=>if q<D.length then ms q else .slice none 0 0) (sl D)):=λph hf q hq=>by
 by_cases c:q<D.length
 .have h1:=h ph hf q hq;simp only at h1 ⊢;rw[if_pos c,<-hx q c];exact h1
 .simp only;rw[if_neg c,sl_out qo];exact has_sI0 ph hf
def LO.storeSet{P:Program}{e:Env}{bx bx':List Ow}{ty t el:TypeId}{x y:Operand}{K:Qf}{u:Value}{a:List Int}{ms:Nat->Value}{xs:Nat->List Int}(hx:ev e x=some (.pointer (some (eaddr v i))))(hy:ev e y=some u)(hz:(P.info? t).map (·.size)=some 1)(hu:W.Has F (sI u a))
  (hs:Sel bx (lO Qm v el n ms xs) (lO Qm v el n (upd ms i u) (upd xs i a)) bx') (hi:i<n) (h:K undef bx' F):LO P (.store t x y) ty e bx F K:=
 LO.JB hx hy hz (One.sl (KnS.f hu)) hs (by rw[Qu];show i<n*1;omega) (cells_set1 hi) h
end
namespace K
namespace Q
namespace Y
attribute [local irreducible] WC WL WD YO LO Qq W.Fin Qv Qh Qj Row QV Qy KnS Has W.One Qp QJ
def indexS_c(v:Value)(C:List (List Int))(ms:Nat->Value)(f:FuncId)(first cap:List Value)(Fc:List Fct)(p:List Int->Bool)
  (hf:∀i,i<C.length->FnB Tryz.prog f (first++[ms i]++cap) [] (sI (ms i) (sl C i)::Fc) (IsV (.bool (p (sl C i))))) :
  FnB Tryz.prog 146 [v,.func (.func f) first.toArray cap.toArray] [] (lF Qm v C.length ms (sl C)::Fc) (IsV (.int .i64 (X5 (X.fstT (λi=>p (sl C i)) C.length 0)))):=by
 refine fO [(0,v),(1,(.func (.func f) first.toArray cap.toArray))] 19 Tryz.func146 Tryz.ntmps146 λh0=>?_;refine WC.lenF (v:=v) (m:=C.length) (W.Has.ls (S:=Qm) (ms:=ms) (xs:=sl C) hmA) λhm=>?_;repeat'(first|intro(g:Nat)|refine gP ?_|intro v)
 refine WC.lp (σ:=Nat) (λi=>[(8,.int .i64 (i:Int)),(7,.int .i64 (C.length:Int)),(0,v),(1,.func (.func f) first.toArray cap.toArray)]) (λ_=>[]) (λ_=>ge h0::lF Qm v C.length ms (sl C)::Fc) (λi=>i<=C.length/\X.fstT (λi=>p (sl C i)) C.length 0=X.fstT (λi=>p (sl C i)) (C.length-i) i) (λi=>C.length-i) 0 ⟨Nat.zero_le _,rfl⟩ ?_ (hG:=.cons hmA (.cons hmA (Qw.tail λ_ h=>by(repeat(first|exact h|apply List.mem_cons_of_mem)))));rintro i ⟨hi,he⟩;by_cases c:i<C.length
 .rw[Vm c] at he;repeat'(first|intro(g:Nat)|refine gP ?_|intro v)
  refine WL.Xs first cap (vs:=[ms i]) (hf i c) ?_ (hF:=.cons (W.Has.lk (S:=Qm) (v:=v) (ms:=ms) (xs:=sl C) hmA c) (Qw.tail λ_ h=>by(repeat(first|exact h|apply List.mem_cons_of_mem))))
  rintro _ _ _ ⟨rfl,rfl,rfl⟩;refine sNn ?_;cases hp:p (sl C i) with
  |true=>
   rw[if_pos hp] at he;rw[he];repeat'(first|intro(g:Nat)|refine gP ?_|intro v)
   exact wq6
  |false=>
   rw[if_neg (by rw[hp];decide)] at he;repeat'(first|intro(g:Nat)|refine gP ?_|intro v)
   exact Qq.mk (i+1) ⟨by omega,he⟩ qo (hG:=.cons hmA (.cons hmA (Qw.tail λ_ h=>by(repeat(first|exact h|apply List.mem_cons_of_mem)))))
 .obtain rfl:C.length=i:=qo;rw[Nat.sub_self,X.fstT] at he;rw[he];repeat'(first|intro(g:Nat)|refine gP ?_|intro v)
  exact wq6
def delete_c(v:Value)(C:List (List Int))(ms:Nat->Value)(f:FuncId)(first cap:List Value)(Fc:List Fct)(p:List Int->Bool)(hC:C.length<=100000)
  (hf:∀u i,i<C.length->FnB Tryz.prog f (first++[u]++cap) [] (sI u (sl C i)::Fc) (IsV (.bool (p (sl C i))))) :
  FnB Tryz.prog 68 [v,.func (.func f) first.toArray cap.toArray] [lO Qm v 28 C.length ms (sl C)] (lM Qm C.length ms (sl C)::Fc) (λr B G=>∃ms',B=[]/\G=[lF Qm r (C.filter λs=>!p s).length ms' (sl (C.filter λs=>!p s))]):=by
 refine fO [(0,v),(1,(.func (.func f) first.toArray cap.toArray))] 42 Tryz.func68 Tryz.ntmps68 λh0=>?_;repeat'(first|intro(g:Nat)|refine gP ?_|intro v)
 refine WL.YM (indexS_c v C ms f first cap Fc p λi hi=>hf _ i hi) ?_ (hF:=.cons (QQ.lo (S:=Qm) meA hmA) (Hj λf hf=>QQ.f (Has.mem (by(repeat(first|exact hf|apply List.mem_cons_of_mem))))));rcases X.XB (λi=>p (sl C i)) C.length 0 with ⟨e,hno⟩|⟨i0,e,_,hi0,hy,hno⟩
 .rw[e,show X5 none= -1 from rfl]
  have hfil:(C.filter λs=>!p s)=C:=by
   rw[<-kept_all,Hd (Nat.le_refl _) λq hq=>hno q (Nat.zero_le _) qo,List.take_length]
  rw[hfil];repeat'(first|intro(g:Nat)|refine gP ?_|intro v)
  refine WC.QY (S:=Qm) (v:=v) (n:=C.length) (ms:=ms) (xs:=sl C) wq3 hmA ?_;refine WC.ret ?_;exact Fp [_] (Qg.t1 rfl rfl) (.cons hmA .nil) ⟨ms,rfl,rfl⟩
 rw[e,show X5 (some i0)=(i0:Int) from rfl];repeat'(first|intro(g:Nat)|refine gP ?_|intro v)
 refine WC.JS (σ:=(Nat->Value)×(Nat->List Int)) (λst=>[(5,.int .i64 ((C.filter λs=>!p s).length:Int)),(0,v)]) (λst=>[lO Qm v 28 C.length st.1 st.2]) (λst=>[lM Qm C.length st.1 st.2,ge h0]) (λst=>∀q,q<(C.filter λs=>!p s).length->st.2 q=sl (C.filter λs=>!p s) q) ?_ ?_
 .have hk0:kept p C i0=C.take i0:=Hd qo λq hq=>hno q (Nat.zero_le _) hq;have hk1:kept p C (i0+1)=C.take i0:=by rw[kept_yes qo hy,hk0]
  refine WC.lp (σ:=Nat×(Nat->Value)×(Nat->List Int)) (λst=>[(6,.int .i64 (st.1:Int)),(5,.int .i64 ((kept p C st.1).length:Int)),(0,v),(1,.func (.func f) first.toArray cap.toArray)]) (λst=>[lO Qm v 28 C.length st.2.1 st.2.2]) (λst=>ge h0::lM Qm C.length st.2.1 st.2.2::Fc)
   (λst=>i0+1<=st.1/\st.1<=C.length/\(kept p C st.1).length<st.1/\(∀q,q<(kept p C st.1).length->st.2.2 q=sl (kept p C st.1) q)/\∀q,st.1<=q->st.2.2 q=sl C q) (λst=>C.length-st.1) (i0+1,ms,sl C) ⟨Nat.le_refl _,by simp only;omega,by simp only[hk1,List.length_take];omega,?hq,λq _=>rfl⟩ ?hr (hE:=?he) (hG:=.cons hmA (.cons hmA (Qw.tail λ_ h=>by(repeat(first|exact h|apply List.mem_cons_of_mem)))))
  case hq=>
   intro q hq;simp only[hk1,List.length_take] at hq ⊢;rw[sl,sl,List.getD_eq_getElem?_getD,List.getD_eq_getElem?_getD,List.getElem?_take,if_pos qo]
  case he=>
   simp only[hk1,List.length_take,Nat.min_eq_left (show i0<=C.length by omega)];exact suA
  rintro⟨j,ms,xs⟩ ⟨h1,h2,h3,h4,h5⟩;simp only at h1 h2 h3 h4 h5 ⊢;obtain⟨i,hi⟩:∃i,(kept p C j).length=i:=⟨_,rfl⟩
  rw[hi] at h3 h4 ⊢;by_cases d:j<C.length
  .have h6:=h5 j (Nat.le_refl _);repeat'(first|intro(g:Nat)|refine gP ?_|intro v)
   refine WL.Xs first cap (vs:=[ms j]) (hf (ms j) j d) ?_ (hF:=.cons wq72 (Qw.tail λ_ h=>by(repeat(first|exact h|apply List.mem_cons_of_mem))))
   rintro _ _ _ ⟨rfl,rfl,rfl⟩;refine sNn ?_;cases hp:p (sl C j) with
   |true=>
    repeat'(first|intro(g:Nat)|refine gP ?_|intro v)
    have hk:=kept_yes d hp;exact Qq.mk (j+1,ms,xs) ⟨by simp only;omega,by simp only;omega,by simp only[hk];omega,λq hq=>by simp only[hk] at hq ⊢;exact h4 q qo,λq hq=>h5 q (by simp only at hq;omega)⟩ wq18 (hE:=by simp only[hk,hi];exact suA) (hG:=.cons hmA (.cons hmA (Qw.tail λ_ h=>by(repeat(first|exact h|apply List.mem_cons_of_mem)))))
   |false=>
    repeat'(first|intro(g:Nat)|refine gP ?_|intro v)
    have hk:=kept_no d hp;refine WL.l0 rfl (LO.storeSet (i:=i) (u:=ms j) (a:=sl C j) rfl rfl T.z28 wq72 wq3 qo ?_);refine WL.QE (lM Qm C.length (upd ms i (ms j)) (upd xs i (sl C j))) (W.Has.mset (S:=Qm) hmA wq72) ?_;repeat'(first|intro(g:Nat)|refine gP ?_|intro v)
    have hl:(kept p C (j+1)).length=i+1:=by rw[hk,List.length_append,hi];rfl
    refine Qq.mk (j+1,upd ms i (ms j),upd xs i (sl C j)) ⟨by simp only;omega,by simp only;omega,by simp only[hl];omega,λq hq=>?_,λq hq=>?_⟩ wq18 (hE:=by simp only[hl];exact suA) (hG:=.cons hmA (.cons hmA (Qw.tail λ_ h=>by(repeat(first|exact h|apply List.mem_cons_of_mem)))))
    .simp only[hl] at hq;simp only;by_cases c:q=i
     .subst c;rw[QU,hk,<-hi,sl_last]
     .rw[upd_ne c,hk,sl_snoc qo];exact h4 q qo
    .simp only at hq ⊢;rw[upd_ne qo];exact h5 q qo
  .obtain rfl:j=C.length:=qo;rw[kept_all] at hi h4;repeat'(first|intro(g:Nat)|refine gP ?_|intro v)
   exact Qs (ms,xs) (λq hq=>h4 q qo) (hE:=by rw[hi];exact suA)
 rintro⟨ms,xs⟩ hx;simp only at hx ⊢;have hle:(C.filter λs=>!p s).length<=C.length:=List.length_filter_le _ _;generalize hD:(C.filter λs=>!p s)=D at *;repeat'(first|intro(g:Nat)|refine gP ?_|intro v)
 refine WL.l0 rfl (LO.clearO (el:=28) (z:=.slice none 0 0) (v:=v) (n:=C.length) (a:=D.length) (cs:=QX Qm C.length ms xs) (show Tryz.prog.underlying 25=some (.slice 28) by kernel_rfl) kr rfl rfl rfl wq3 (by rw[Qu];exact Nat.mul_one _) hle ?_);rw[cells_clear (ys:=sl D) hle];refine WL.QE (lM Qm C.length (λq=>if q<D.length then ms q else .slice none 0 0) (sl D)) (has_clr (ms:=ms) (xs:=xs) hmA hx) ?_;repeat'(first|intro(g:Nat)|refine gP ?_|intro v)
 refine WC.QY (S:=Qm) (v:=v) (n:=C.length) (ms:=λq=>if q<D.length then ms q else .slice none 0 0) (xs:=sl D) wq3 hmA ?_;refine WC.ret ?_;exact Fp [_] (Qg.t1 rfl rfl) (.cons (W.Has.takeL (S:=Qm) (v:=v) (n:=C.length) (ms:=λq=>if q<D.length then ms q else .slice none 0 0) (xs:=sl D) hmA hle) .nil) ⟨_,rfl,rfl⟩
end Y
end Q
end K
def set_ok{N:Nat}{most:Int}{s:List Int}(hN:N<=8)(h:s∈Fx.QO (N:Int) most):s.length<=8/\∀x∈s,0<=x/\x<(N:Int):=by
 obtain⟨b,hb,rfl,hl⟩:=(Fx.YT qo qo).1 h;refine⟨?_,λx hx=>Fx.num_lt hx⟩
 have h2:∀n,(Fx.numbers b n).length<=n:=λn=>by
  induction n with
  |zero=>simp[Fx.numbers]
  |succ n ih=>unfold Fx.numbers;rw[List.length_append];split<;>simp<;>omega
 have:=h2 (N:Int).toNat;simp only[Int.toNat_natCast] at this ⊢;omega
def Ve{t:List Tc}{P:List (List Tc)}{most:Int}{s:List Int}(hP:P.length<=8)(h:s∈Fx.Qc t P most):s.length<=8/\∀x∈s,0<=x/\x<(P.length:Int):=set_ok hP (List.mem_filter.1 h).1
def Zx{C:List (List Int)}{i:Nat}(h:i<C.length):sl C i∈C:=by
 rw[sl,List.getD_eq_getElem?_getD,List.getElem?_eq_getElem h];exact List.getElem_mem h
def cand_is(t:List Tc)(P:List (List Tc))(most:Int):((Fx.QO (P.length:Int) most).filter λs=>!decide (10<(Fx.Qe t P s).length))=Fx.Qc t P most:=by
 unfold Fx.Qc
 congr 1
 funext s
 by_cases c:(Fx.Qe t P s).length<=10
 .rw[decide_eq_true c,decide_eq_false qo];rfl
 .rw[decide_eq_false c,decide_eq_true qo];rfl
def IsCa(t:List Tc)(P:List (List Tc))(most:Int):Qf:=λv B G=>∃r ms,v=.tuple #[r,.int .i64 0]/\B=[]/\G=[lF Qm r (Fx.Qc t P most).length ms (sl (Fx.Qc t P most))]
namespace K
namespace Q
namespace Y
attribute [local irreducible] WC WL WD YO LO Qq W.Fin Qv Qh Qj Row QV Qy KnS Has W.One Qp QJ
section
variable (tv pv:Value)(t:List Tc)(P:List (List Tc))(tm:Nat->ToM)(pm:Nat->Value×(Nat->ToM))
def large_c(sv:Value)(s:List Int)(g5 g6:Nat)(ht:t.length<=100)(hP:∀p∈P,p.length<=100)(hs:s.length<=10)(hr:∀x∈s,0<=x/\x<(P.length:Int))(hPl:P.length<=1000) :
  FnB Tryz.prog 67 [sv,ptr g5,ptr g6] [] [sI sv s,ce g5 32 [tv],ce g6 33 [pv],lF Qz tv t.length tm (tl t),lF tlS pv P.length pm (pl P)] (IsV (.bool (decide (10<(Fx.Qe t P s).length)))):=by
 refine fO [(0,sv),(1,(ptr g5)),(2,(ptr g6))] 11 Tryz.func67 Tryz.ntmps67 λh0=>?_;repeat'(first|intro(g:Nat)|refine gP ?_|intro v)
 refine cK (VZ tv pv sv t P s tm pm ht hP hs hr hPl) ?_;rintro v8 _ _ ⟨ms,rfl,rfl⟩;refine sNn ?_;have hl:=Zw ht hP s;by_cases c:10<(Fx.Qe t P s).length
 .repeat'(first|intro(g:Nat)|refine gP ?_|intro v)
  exact WC.ret (Fin.v (Qg.t1 rfl rfl) meA (by rw[decide_eq_true c]))
 .repeat'(first|intro(g:Nat)|refine gP ?_|intro v)
  exact WC.ret (Fin.v (Qg.t1 rfl rfl) meA (by rw[decide_eq_false c]))
def KG(lv:Value)(n:Nat)(bm:Nat->BM)(B:Nat->Bd)(most:Int)(hn:n<=5)(ht:t.length<=10)(hP8:P.length<=8)(hP:∀p∈P,p.length<=100)(hm0:0<=most)(hm8:most<=8) :
  FnB Tryz.prog 40 [lv,tv,pv,.int .i64 most] [] [lF Qo lv n bm B,lF Qz tv t.length tm (tl t),lF tlS pv P.length pm (pl P)] (IsCa t P most):=by
 refine fO [(0,lv),(1,tv),(2,pv),(3,(.int .i64 most))] 37 Tryz.func40 Tryz.ntmps40 λh0=>?_;repeat'(first|intro(g:Nat)|refine gP ?_|intro v)
 revert g;intro g6;revert g;intro g5;refine WL.keep (g:=g6) (t:=33) (cs:=[pv]) wq9 ?_;refine WL.keep (g:=g5) (t:=32) (cs:=[tv]) wq9 ?_;refine cK (sets_c (P.length:Int) most ⟨by omega,by omega⟩ ⟨by omega,by omega⟩) ?_;rintro v34 _ _ ⟨sm,rfl,rfl⟩;refine sNn ?_;repeat'(first|intro(g:Nat)|refine gP ?_|intro v)
 have hle:=Fx.Ue (P.length:Int) most;refine WL.Zg [lO Qm v34 28 (Fx.QO (P.length:Int) most).length sm (sl (Fx.QO (P.length:Int) most))] [] (List.Perm.refl _) (delete_c v34 (Fx.QO (P.length:Int) most) sm 67 [] [ptr g5,ptr g6] [ce g5 32 [tv],ce g6 33 [pv],lF Qz tv t.length tm (tl t),lF tlS pv P.length pm (pl P)] (λs=>decide (10<(Fx.Qe t P s).length)) qo λu i hi=>?_) ?_
 .have hs:=set_ok hP8 (Zx hi);exact large_c tv pv t P tm pm u (sl (Fx.QO (P.length:Int) most) i) g5 g6 qo hP qo hs.2 qo
 rintro r _ _ ⟨ms,rfl,rfl⟩;rw[cand_is];refine sNn ?_;repeat'(first|intro(g:Nat)|refine gP ?_|intro v)
 refine WC.ret ?_;exact Fp [_] (Qg.t2 rfl rfl rfl) haA ⟨r,ms,rfl,rfl,rfl⟩
end
end Y
end Q
end K
def sv_int{K:Nat}(hK:0<K){a b:Int}(ha:a.natAbs<1000000000)(hb:b.natAbs<1000000000):Sv K ⟨(a:Rat),(b:Rat)⟩:=⟨by show Sq K (a:Rat);rw[<-di1];exact De K hK a ha,by show Sq K (b:Rat);rw[<-di1];exact De K hK b hb⟩
def Yr{a:Int}(h1:-100000<=a)(h2:a<=100000):a.natAbs<1000000000000000000:=qo
def Fr.sq{D A:Nat}{q:Rat}(h:Fr D A q)(hD:D≠0)(h1:D<1000000000)(h2:A<1000000000):Sq 1 q:=by
 obtain⟨a,rfl,h3⟩:=h.mkr hD;refine di_num a D hD ?_ ?_
 .by_cases c:a.natAbs=0
  .rw[c,Jg];exact Nat.zero_le _
  .rw[JE qo qo];exact Nat.le_refl _
 .rw[JE qo h1];exact Nat.le_refl _
def Fv.sv{D A:Nat}{a:Vc}(h:Fv D A a)(hD:D≠0)(h1:D<1000000000)(h2:A<1000000000):Sv 1 a:=⟨h.1.sq hD h1 h2,h.2.sq hD h1 h2⟩
def Fs.ss{D A:Nat}{S:Sc}(h:Bl.Fs D A S)(hD:D≠0)(h1:D<1000000000)(h2:A<1000000000):Ss 1 S:=
 ⟨λi hi=>let ⟨a,b,c,d⟩:=h.B i hi;⟨a.sv hD h1 h2,b.sq hD h1 h2,c.sq hD h1 h2,d.sq hD h1 h2⟩,λj hj=>let ⟨a,b,c,d⟩:=h.T j hj;⟨a.sv hD h1 h2,b.sv hD h1 h2,c.sv hD h1 h2,d.sq hD h1 h2⟩⟩
namespace K
namespace Q
attribute [local irreducible] WC WL WD YO LO Qq W.Fin Qv Qh Qj Row QV Qy KnS Has W.One Qp QJ
def d142{G G':Prop}(h:G')(s:Bx G'->G:=by
 intro h;first|refine gF ?_|(apply WC.draw (id:=2) [0,1,2,3,4,5,6,7,9,10] (.h 0<|.h 1<|.h 2<|.h 3<|.h 4<|.h 5<|.h 6<|.h 7<|.h 9<|.l 8<|.h 10<|.l 11 .done) mixed kr)|fail
 exact Bx.h h):G:=s ⟨h⟩
def flat_c(A B h:Int)(n1 n2 nr:QM)(x y r:Rat)(hh:h.natAbs<1000000000000000000):FnB Tryz.prog 142 [.int .i64 A,.int .i64 B,qv n1,qv n2,.int .i64 h,qv nr] [] [isQ (qv n1) x,isQ (qv n2) y,isQ (qv nr) r] (IsTc (Bl.tcF A B x y h r)):=by
 refine fO [(0,(.int .i64 A)),(1,(.int .i64 B)),(2,(qv n1)),(3,(qv n2)),(4,(.int .i64 h)),(5,(qv nr))] 27 Tryz.func142 Tryz.ntmps142 λh0=>?_;repeat'(first|intro(g:Nat)|refine d142 ?_|intro v)
 refine cW (Zn.rof h 1 hh qd) λn3=>?_;rw[di1];repeat'(first|intro(g:Nat)|refine d142 ?_|intro v)
 refine cW (Kh 0 1 qd qd) λv4=>?_;first|refine WD.fact (fT ⟨(n1,n3),(n2,n3),v4,nr⟩ (Bl.tcF A B x y h r)) (W.Has.tof (tm:=⟨(n1,n3),(n2,n3),v4,nr⟩) (t:=Bl.tcF A B x y h r) (W.Has.vof (m:=(n1,n3)) (a:=(Bl.tcF A B x y h r).p) hmA hmA) (W.Has.vof (m:=(n2,n3)) (a:=(Bl.tcF A B x y h r).q) hmA hmA) hmA hmA) ?_|skip
 repeat'(first|intro(g:Nat)|refine d142 ?_|intro v)
 refine WC.ret ?_;exact Fp [fT ⟨(n1,n3),(n2,n3),v4,nr⟩ (Bl.tcF A B x y h r)] (rcV T.r93) haA ⟨⟨(n1,n3),(n2,n3),v4,nr⟩,rfl,rfl,rfl⟩
end Q
end K
namespace K
namespace Q
attribute [local irreducible] WC WL WD YO LO Qq W.Fin Qv Qh Qj Row QV Qy KnS Has W.One Qp QJ
def d138{G G':Prop}(h:G')(s:Bx G'->G:=by
 intro h;first|refine gE ?_|refine gY ?_|(apply WC.draw (id:=2) [0,1,2,3,8,13] (.h 0<|.h 1<|.h 2<|.h 3<|.h 8<|.m 4 (.m 5 (.m 6 (.m 7 (.l 9<|.l 10<|.l 11<|.l 12<|.h 13<|.l 14 .done) (.l 9<|.l 7<|.l 10<|.l 11<|.l 12<|.h 13<|.l 14 .done)) (.l 7<|.l 6<|.l 9<|.l 10<|.l 11<|.l 12<|.h 13<|.l 14 .done)) (.l 7<|.l 5<|.l 6<|.l 9<|.l 10<|.l 11<|.l 12<|.h 13<|.l 14 .done)) (.l 7<|.l 4<|.l 5<|.l 6<|.l 9<|.l 10<|.l 11<|.l 12<|.h 13<|.l 14 .done)) mixed kr)|fail
 exact Bx.h h):G:=s ⟨h⟩
def plain_c(m:VM)(c:Vc)(lv:Value)(l:List Int)(hl:∀x∈l,I64 x):FnB Tryz.prog 138 [vv m,lv] [] [fV m c,sI lv l] (IsBdv (Bl.plB c l)):=by
 refine fO [(0,(vv m)),(1,lv)] 24 Tryz.func138 Tryz.ntmps138 λh0=>?_;have h5:=QC (l:=l) (i:=5) (m:=3) qd;have h6:=QC (l:=l) (i:=6) (m:=3) qd;have h7:=QC (l:=l) (i:=7) (m:=6) qd;have hst:=Bl.Dc h7;have c6:=Zd lv l 6 3 hl qd;have c7:=Zd lv l 7 6 hl qd;have e7:((Bl.Gq (atP l 7 6):Int):Rat)=Rat.divInt (Bl.Gq (atP l 7 6)) 1:=(di1 _).symm;unfold Bl.plB;rw[e7];obtain⟨k7,hk7⟩:∃k:Nat,atP l 7 6=(k:Int):=⟨(atP l 7 6).toNat,by omega⟩
 rw[hk7] at c7 h7 hst ⊢;have hp1:Sq 1 (Bl.ZQ l):=(Fr.of (D:=2) (A:=4) qd qo).sq qd qd qd;have hp2:Sq 1 (Rat.divInt (atP l 6 3) 2):=(Fr.of (D:=2) (A:=2) qd qo).sq qd qd qd;repeat'(first|intro(g:Nat)|refine d138 ?_|refine gN ?_ ?_|intro v)
 refine cV (Zd lv l 5 3 hl qd) ?_;repeat'(first|intro(g:Nat)|refine d138 ?_|refine gN ?_ ?_|intro v)
 refine cW (Zn.rof (2+atP l 5 3) 2 (Yr qo qo) qd) λn1=>?_;repeat'(first|intro(g:Nat)|refine gP ?_|intro v)
 revert g;intro g5;have r6:=Zn.rof (atP l 6 3) 2 (Yr qo qo) qd;have r7:=Zn.rof (Bl.Gq k7) 1 (Yr qo qo) qd;have ra:=λm=>Zn.radd n1 m (Bl.ZQ l) (Rat.divInt (atP l 6 3) 2) (hp1.sm qd) (hp2.sm qd);unfold Bl.ZQ at ra;repeat'(first|intro(g:Nat)|refine d138 ?_|refine gN ?_ ?_|refine cU (c6) ?_|refine cW (r6) λzm=>?_|refine cW (ra _) λzm=>?_|refine cU (c7) ?_|refine cW (r7) λzm=>?_|intro v)
 all_goals
  have hints:ints [40,40,40,9,5,2]=[.int .i64 40,.int .i64 40,.int .i64 40,.int .i64 9,.int .i64 5,.int .i64 2]:=rfl;rw[<-hints];refine WD.yl rfl (YO.YC T.s28 rfl rfl (KnS.oI (el:=3) (l:=[40,40,40,9,5,2]) (by exact meA)) qo (by show(k7:Int)<6;omega)) qr qr ?_;refine WD.yl rfl (YO.Ks T.sc3 (el:=3) (l:=[40,40,40,9,5,2]) rfl (by exact meA) (by show(k7:Int).toNat<6;omega)) qr qr ?_;show WD _ _ _ _ _ _ _ ((21,.int .i64 (Bl.Gq k7))::_) _ _ _;repeat'(first|intro(g:Nat)|refine d138 ?_|refine gN ?_ ?_|refine cW (r7) λzm=>?_|intro v)
 all_goals
  rename_i z6 za
  refine WC.ret ?_;exact Fp [fB ⟨m,n1,za,zm⟩ ⟨c,Rat.divInt (2+atP l 5 3) 2,Rat.divInt (2+atP l 5 3) 2+Rat.divInt (atP l 6 3) 2,Rat.divInt (Bl.Gq k7) 1⟩] (rcV T.r88) (.cons (W.Has.bof (bm:=⟨m,n1,za,zm⟩) (b:=⟨c,Rat.divInt (2+atP l 5 3) 2,Rat.divInt (2+atP l 5 3) 2+Rat.divInt (atP l 6 3) 2,Rat.divInt (Bl.Gq k7) 1⟩) hmA hmA hmA hmA) .nil) ⟨⟨m,n1,za,zm⟩,rfl,rfl,rfl⟩
end Q
end K
def cells_B1{bm:BM}{b:Bd}:bcs bm=QX Qo 1 (λ_=>bm) (λ_=>b):=X4 (S:=Qo) (n:=0) (ms:=λ_=>bm) (xs:=λ_=>b)
def cells_T1{tm:ToM}{t:Tc}:tcs tm t=QX Qz 1 (λ_=>tm) (λ_=>t):=X4 (S:=Qz) (n:=0) (ms:=λ_=>tm) (xs:=λ_=>t)
def FK{M α:Type}{S:Shp M α}{F:List Fct}{m:M}{x:α}(h:W.Has F (S.fc m x)):W.Has F (lM S 1 (λ_=>m) λ_=>x):=λp hf i _=>h p hf
namespace K
namespace Q
attribute [local irreducible] WC WL WD YO LO Qq W.Fin Qv Qh Qj Row QV Qy KnS Has W.One Qp QJ
def d62{G G':Prop}(h:G')(s:Bx G'->G:=by
 intro h;first|refine gE ?_|refine gY ?_|(apply WC.draw (id:=3) [0,1,2,3,4,5] (.h 0<|.h 1<|.h 2<|.h 3<|.h 4<|.h 5<|.m 6 (.m 7 (.l 8<|.l 9 .done) (.l 8<|.l 7<|.l 9 .done)) (.l 8<|.l 6<|.l 7<|.l 9 .done)) mixed kr)|(apply WC.draw (id:=5) [0,1,2,4,9] (.h 0<|.h 1<|.h 2<|.h 4<|.h 9<|.m 3 (.m 5 (.m 6 (.m 7 (.m 8 (.m 10 (.l 11<|.l 12 .done) (.l 11<|.l 10<|.l 12 .done)) (.l 11<|.l 8<|.l 10<|.l 12 .done)) (.l 11<|.l 7<|.l 8<|.l 10<|.l 12 .done)) (.l 11<|.l 6<|.l 7<|.l 8<|.l 10<|.l 12 .done)) (.l 11<|.l 5<|.l 6<|.l 7<|.l 8<|.l 10<|.l 12 .done)) (.l 11<|.l 3<|.l 5<|.l 6<|.l 7<|.l 8<|.l 10<|.l 12 .done)) mixed kr)|(apply WC.draw (id:=6) [0,2,3,4,5,6,7,9,12] (.h 0<|.h 2<|.h 3<|.h 4<|.h 5<|.h 6<|.h 7<|.h 9<|.m 1 (.l 8<|.l 10<|.l 11<|.h 12<|.l 13<|.l 14<|.l 15 .done) (.l 8<|.m 1 (.l 10<|.l 11<|.h 12<|.l 13<|.l 14<|.l 15 .done) (.l 10<|.m 1 (.l 11<|.h 12<|.l 13<|.l 14<|.l 15 .done) (.l 11<|.h 12<|.m 1 (.l 13<|.l 14<|.l 15 .done) (.l 13<|.l 1<|.l 14<|.l 15 .done))))) mixed kr)|fail
 exact Bx.h h):G:=s ⟨h⟩
def slope_c(lv:Value)(l:List Int)(hl:∀x∈l,I64 x):FnB Tryz.prog 62 [lv] [] [sI lv l] (IsScv (Bl.UL l)):=by
 refine fO [(0,lv)] 58 Tryz.func62 Tryz.ntmps62 λh0=>?_;have h1:=QC (l:=l) (i:=1) (m:=4) qd;have h2:=QC (l:=l) (i:=2) (m:=4) qd;have h3:=QC (l:=l) (i:=3) (m:=13) qd;have h4:=QC (l:=l) (i:=4) (m:=9) qd;have hn:=Bl.slN_lt h1;have hfs:=Bl.slope_fs l;obtain⟨k1,hk1⟩:∃k:Nat,atP l 1 4=(k:Int):=⟨(atP l 1 4).toNat,by omega⟩
 have c1:=Zd lv l 1 4 hl qd;rw[hk1] at c1 hn;have hk4:k1<4:=qo;have a1:((Bl.slN k1).1).natAbs<=4:=hn.2.1;have a2:((Bl.slN k1).2).natAbs<=4:=hn.2.2;have hT:Bl.slT l=⟨0,-1,Bl.slP l,Bl.slQ l,⟨((Bl.slN k1).1:Rat),((Bl.slN k1).2:Rat)⟩,Rat.divInt (atP l 4 9) 6⟩:=by unfold Bl.slT;rw[hk1]
 have hQ:Bl.slQ l=⟨(Bl.slP l).x+(((Bl.slN k1).2:Int):Rat),(Bl.slP l).y+((-(Bl.slN k1).1:Int):Rat)⟩:=by unfold Bl.slQ;rw[hk1]
 have hcl:=sl_cells k1 hk4;generalize (Bl.slN k1).1=N1 at *;generalize (Bl.slN k1).2=N2 at *;have hp1:Fv 1 4 (Bl.slP l):=⟨Fr.int _ qo,Fr.int _ qd⟩
 have hq1:Fv 1 8 (Bl.slQ l):=by rw[hQ];exact⟨(hp1.1.add (Fr.int (A:=4) _ a2)).up qd,(hp1.2.add (Fr.int (A:=4) _ qo)).up qd⟩
 have hd1:Fv 1 12 (Bl.Jr (Bl.slQ l) (Bl.slP l)):=⟨(hq1.1.sub hp1.1).up qd,(hq1.2.sub hp1.2).up qd⟩
 have hx1:Fr 10 12 (Rat.divInt (atP l 3 13-1) 10):=Fr.of (D:=10) qd qo;have hdx:Fv 10 144 ⟨(Bl.Jr (Bl.slQ l) (Bl.slP l)).x*Rat.divInt (atP l 3 13-1) 10,(Bl.Jr (Bl.slQ l) (Bl.slP l)).y*Rat.divInt (atP l 3 13-1) 10⟩:=⟨hd1.1.mul hx1,hd1.2.mul hx1⟩
 have hpd:Fv 10 184 ⟨(Bl.slP l).x+(Bl.Jr (Bl.slQ l) (Bl.slP l)).x*Rat.divInt (atP l 3 13-1) 10,(Bl.slP l).y+(Bl.Jr (Bl.slQ l) (Bl.slP l)).y*Rat.divInt (atP l 3 13-1) 10⟩:=⟨((hp1.1.sc' (c:=10) (E:=10) (B:=40) rfl qd).add hdx.1).up qd,((hp1.2.sc' (c:=10) (E:=10) (B:=40) rfl qd).add hdx.2).up qd⟩
 have sp:=hp1.sv qd qd qd;have sq:=hq1.sv qd qd qd;have sd:=hd1.sv qd qd qd;have sx:=hx1.sq qd qd qd;have sdx:=hdx.sv qd qd qd;have spd:=hpd.sv qd qd qd;repeat'(first|intro(g:Nat)|refine d62 ?_|refine gN ?_ ?_|intro v)
 revert g;intro gg;refine cV (c1) ?_;refine WL.y (YO.ix T.s24 rfl rfl (KnS.o (el:=22) (sz:=2) (n:=4) (cs:=ints [1,2,-1,3,1,1,-3,4]) (by exact meA) rfl qd) hk4) qr qr ?_;refine WL.y (YO.ldRO (m:=2) (us:=[.int .i64 N1,.int .i64 N2]) (cs:=ints [1,2,-1,3,1,1,-3,4]) T.r22 rfl (by exact meA) rfl hcl) qr qr ?_;repeat'(first|intro(g:Nat)|refine d62 ?_|refine gN ?_ ?_|intro v)
 revert g;intro g3;refine cV (Zd lv l 2 4 hl qd) ?_;repeat'(first|intro(g:Nat)|refine d62 ?_|refine gN ?_ ?_|intro v)
 refine cW (Kh (atP l 2 4) 1 (Yr qo qo) qd) λm4=>?_;rw[show(⟨((atP l 2 4:Int):Rat),((1:Int):Rat)⟩:Vc)=Bl.slP l from rfl];repeat'(first|intro(g:Nat)|refine gP ?_|intro v)
 revert g;intro g4;have v26:=Kh N2 (-N1) (Yr qo qo) (Yr qo qo);have v27:=λm=>Zj m4 m (Bl.slP l) ⟨(N2:Rat),((-N1:Int):Rat)⟩ 1 qd sp (sv_int qd qo qo);rw[<-hQ] at v27;refine WC.Y4 (σ:=Nat×VM) (λs=>[(5,ptr s.1),(4,ptr g4),(3,ptr g3),(0,lv),(2,ptr gg)]) (λs=>[Ow.cells s.1 77 (vcs s.2),Ow.cells g4 77 (vcs m4),Ow.cells g3 22 [.int .i64 N1,.int .i64 N2],Ow.cells gg 53 [.slice none 0 0,.slice none 0 0]]) (λs=>[fV s.2 (Bl.slQ l),fV m4 (Bl.slP l),ge h0,sI lv l]) (λ_=>True) ?_ ?_
 .repeat'(first|intro(g:Nat)|refine d62 ?_|refine gN ?_ ?_|refine cW (v26) λzm=>?_|refine cW (v27 _) λzm=>?_|intro v)
  all_goals(apply Ex2;refine⟨trivial,?_,?_,?_⟩;(focus(repeat(first|exact Sub.nil _|refine Sub.cons rfl ?_)));exact wq123;exact wq20)
 rintro⟨g5,m5⟩ _;simp only;repeat'(first|intro(g:Nat)|refine gP ?_|intro v)
 refine cV (Zd lv l 3 13 hl qd) ?_;repeat'(first|intro(g:Nat)|refine gP ?_|intro v)
 refine cW (Zn.rof (atP l 3 13-1) 10 (Yr qo qo) qd) λn6=>?_;repeat'(first|intro(g:Nat)|refine gP ?_|intro v)
 revert g;intro g6;have c35:=rvsub_c m5 m4 (Bl.slQ l) (Bl.slP l) 1 qd sq sp;have c37:=λm=>rvscale_c m n6 (Bl.Jr (Bl.slQ l) (Bl.slP l)) (Rat.divInt (atP l 3 13-1) 10) 1 qd sd sx;have c38:=λm=>Zj m4 m (Bl.slP l) ⟨(Bl.Jr (Bl.slQ l) (Bl.slP l)).x*Rat.divInt (atP l 3 13-1) 10,(Bl.Jr (Bl.slQ l) (Bl.slP l)).y*Rat.divInt (atP l 3 13-1) 10⟩ 1 qd sp sdx;have c39:=Kh 0 1 qd qd;have c40:=λm m'=>Zj m m' ⟨(Bl.slP l).x+(Bl.Jr (Bl.slQ l) (Bl.slP l)).x*Rat.divInt (atP l 3 13-1) 10,(Bl.slP l).y+(Bl.Jr (Bl.slQ l) (Bl.slP l)).y*Rat.divInt (atP l 3 13-1) 10⟩ ⟨((0:Int):Rat),((1:Int):Rat)⟩ 1 qd spd (sv_int qd qd qd);have c42:=λm=>plain_c m (Bl.slC l) lv l hl;refine WC.Y4 (σ:=Nat×BM) (λs=>[(7,ptr s.1),(5,ptr g5),(4,ptr g4),(3,ptr g3),(0,lv),(2,ptr gg)]) (λs=>[Ow.cells s.1 88 (bcs s.2),Ow.cells g5 77 (vcs m5),Ow.cells g4 77 (vcs m4),Ow.cells g3 22 [.int .i64 N1,.int .i64 N2],Ow.cells gg 53 [.slice none 0 0,.slice none 0 0]]) (λs=>[fB s.2 (Bl.plB (Bl.slC l) l),fV m5 (Bl.slQ l),fV m4 (Bl.slP l),ge h0,sI lv l]) (λ_=>True) ?_ ?_
 .repeat'(first|intro(g:Nat)|refine d62 ?_|refine gN ?_ ?_|refine cW (c35) λzm=>?_|refine cW (c37 _) λzm=>?_|refine cW (c38 _) λzm=>?_|refine cW (c39) λzm=>?_|refine cW (c40 _ _) λzm=>?_|refine cW (c42 _) λzm=>?_|intro v)
  all_goals(apply Ex2;refine⟨trivial,?_,?_,?_⟩;(focus(repeat(first|exact Sub.nil _|refine Sub.cons rfl ?_)));exact wq123;exact wq20)
 rintro⟨g7,m7⟩ _;simp only;repeat'(first|intro(g:Nat)|refine gP ?_|intro v)
 have c51:=Kh N1 N2 (Yr qo qo) (Yr qo qo);have c53:=Zd lv l 4 9 hl qd;have c54:=Zn.rof (atP l 4 9) 6 (Yr qo qo) qd;refine WC.Y4 (σ:=Value×Value×VM×QM) (λs=>[(2,ptr gg)]) (λs=>[Ow.cells gg 53 [s.1,s.2.1],Ow.slice s.1 88 20 (bcs m7),Ow.slice s.2.1 93 30 (tcs ⟨m4,m5,s.2.2.1,s.2.2.2⟩ (Bl.slT l))]) (λs=>[fV s.2.2.1 ⟨(N1:Rat),(N2:Rat)⟩,isQ (qv s.2.2.2) (Rat.divInt (atP l 4 9) 6),fB m7 (Bl.plB (Bl.slC l) l),fV m5 (Bl.slQ l),fV m4 (Bl.slP l),ge h0]) (λ_=>True) ?_ ?_
 .repeat'(first|intro(g:Nat)|refine d62 ?_|refine gN ?_ ?_|refine cW (c51) λzm=>?_|refine cU (c53) ?_|refine cW (c54) λzm=>?_|intro v)
  all_goals
   refine WD.yl rfl (Dp rfl rfl (KnS.o1B (bm:=m7) (by exact meA)) (KnS.o1T (by exact meA))) qr qr ?_;refine WD.l0 rfl rfl (LO.XL (us:=[_,_]) rfl rfl T.r53 wq3 qr (.cons (One.sl (KnS.o1B (bm:=m7) (by exact meA))) (.cons (One.sl (KnS.o1T (by exact meA))) .nil)) ?_);constructor
   .left;kernel_rfl
   refine goD ?_
  all_goals(apply Ex4;refine⟨trivial,?_,?_,?_⟩;(focus(repeat(first|exact Sub.nil _|refine Sub.cons rfl ?_)));exact wq123;exact wq20)
 rintro⟨bs,ts,mn,mr⟩ _;simp only;rw[cells_B1 (bm:=m7) (b:=Bl.plB (Bl.slC l) l),cells_T1 (tm:=⟨m4,m5,mn,mr⟩) (t:=Bl.slT l)];refine WC.fact (fT ⟨m4,m5,mn,mr⟩ (Bl.slT l)) (by rw[hT];exact W.Has.tof (tm:=⟨m4,m5,mn,mr⟩) hmA hmA hmA hmA) ?_;refine WC.QY (S:=Qo) (v:=bs) (n:=1) (ms:=λ_=>m7) (xs:=λ_=>Bl.plB (Bl.slC l) l) wq3 (FK (S:=Qo) (m:=m7) (x:=Bl.plB (Bl.slC l) l) hmA) ?_;refine WC.QY (S:=Qz) (v:=ts) (n:=1) (ms:=λ_=>⟨m4,m5,mn,mr⟩) (xs:=λ_=>Bl.slT l) wq3 (FK (S:=Qz) (m:=⟨m4,m5,mn,mr⟩) (x:=Bl.slT l) hmA) ?_;refine WC.ret ?_;exact Fp [lF Qo bs 1 (λ_=>m7) (λ_=>Bl.plB (Bl.slC l) l),lF Qz ts 1 (λ_=>⟨m4,m5,mn,mr⟩) (λ_=>Bl.slT l)] (rcV T.r53) haA ⟨⟨bs,ts,λ_=>m7,λ_=>⟨m4,m5,mn,mr⟩⟩,rfl,rfl,rfl⟩
end Q
end K
end Go.Proofs.YtbnobghgnbockaaGreat
