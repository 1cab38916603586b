/- Lemmas for a law. Conditions: none. -/
import Derived.Test.YtbnobghgnbockaaGreatZf35
set_option linter.all false
set_option maxHeartbeats 32000000
set_option maxRecDepth 100000
namespace Go.Proofs.YtbnobghgnbockaaGreat
section
open W Go.RowKit
open Bl (Vc Bd Tc Sc)
def kept(p:List Int->Bool)(C:List (List Int))(j:Nat):List (List Int):=(C.take j).filter λs=>!p s
section
variable {p:List Int->Bool}{C:List (List Int)}{j:Nat}
def Vg(h:j<C.length):C.take (j+1)=C.take j++[sl C j]:=by
 rw[List.take_add_one,List.getElem?_eq_getElem h,sl,List.getD_eq_getElem?_getD,List.getElem?_eq_getElem h];rfl
def kept_yes(h:j<C.length)(hp:p (sl C j)=true):kept p C (j+1)=kept p C j:=by
 unfold kept;rw[Vg h,List.filter_append,List.filter_cons,hp];exact List.append_nil _
def kept_no(h:j<C.length)(hp:p (sl C j)=false):kept p C (j+1)=kept p C j++[sl C j]:=by
 unfold kept;rw[Vg h,List.filter_append,List.filter_cons,hp];rfl
def kept_all:kept p C C.length=C.filter λs=>!p s:=by unfold kept;rw[List.take_length]
def UN{i:Nat}(hi:i<=C.length)(h:∀q,q<i->p (sl C q)=false):kept p C i=C.take i:=by
 unfold kept;rw[List.filter_eq_self];intro s hs;obtain⟨q,hq,rfl⟩:=List.mem_iff_getElem.1 hs;have hq2:q<i:=by rw[List.length_take] at hq;omega
 have h1:=h q hq2;rw[sl,List.getD_eq_getElem?_getD,List.getElem?_eq_getElem qo] at h1;rw[List.getElem_take];simpa using h1
def sl_snoc{D:List (List Int)}{s:List Int}{q:Nat}(h:q<D.length):sl (D++[s]) q=sl D q:=by
 rw[sl,sl,List.getD_eq_getElem?_getD,List.getD_eq_getElem?_getD,List.getElem?_append_left h]
def sl_last{D:List (List Int)}{s:List Int}:sl (D++[s]) D.length=s:=by
 rw[sl,List.getD_eq_getElem?_getD];simp
def sl_out{D:List (List Int)}{q:Nat}(h:D.length<=q):sl D q=[]:=by
 rw[sl,List.getD_eq_getElem?_getD,List.getElem?_eq_none h];rfl
end
def UU{bx:List Ow}{F:List Fct}:∀{G:List Fct},(∀g∈G,Qm bx F g)->Qp bx F G
 |[],_=>.nil
 |_::_,h=>.cons (h _ (List.mem_cons_self ..)) (UU λg hg=>h g (List.mem_cons_of_mem _ hg))
def has_sI0{F:List Fct}:W.Has F (sI (.slice none 0 0) []):=λp _=>⟨none,0,rfl,Nat.le_refl _,by simp[maxLen],.inl ⟨rfl,rfl,rfl⟩⟩
section
variable {M α:Type}{S:Shp M α}{F:List Fct}{v:Value}{n i:Nat}{ms ns:Nat->M}{xs ys:Nat->α}
def W.Has.takeL(h:W.Has F (lF S v n ms xs))(hi:i<=n):W.Has F (lF S (resl v 0 i S.w) i ms xs):=λp hf=>by
 obtain⟨h1,h2⟩:=h p hf;refine⟨?_,λk hk=>h2 k qo⟩;have h3:=YM (lo:=0) h1 (Nat.zero_le i) hi;rw[Nat.sub_zero] at h3;exact Yh h3 λj _=>by rw[Nat.zero_mul,Nat.zero_add]
def row1{ms:Nat->Value}{xs:Nat->List Int}{j:Nat}:Z1 Qn ms xs j=ms j:=by
 unfold Z1 Jb;simp[Nat.mod_one]
def cells_set1{ms:Nat->Value}{xs:Nat->List Int}{u:Value}{a:List Int}(h:i<n):(Qt Qn n ms xs).set i u=Qt Qn n (upd ms i u) (upd xs i a):=by
 have h1:=UM (S:=Qn) (ms:=ms) (xs:=xs) (mm:=u) (aa:=a) h;rw[<-h1,Nat.mul_one,K2 _ _ _ (by rw[Qy];show i<n*1;omega)]
def cells_clear{ms:Nat->Value}{xs ys:Nat->List Int}(hi:i<=n):(Qt Qn n ms xs).take i++List.replicate (n-i) (.slice none 0 0)=Qt Qn n (λq=>if q<i then ms q else .slice none 0 0) ys:=by
 have hl:((Qt Qn n ms xs).take i).length=i:=by rw[List.length_take,Qy];show min i (n*1)=i;omega
 refine Jn (by rw[List.length_append,hl,List.length_replicate];show _=n*1;omega) λj hj=>?_;rw[row1]
 have hj:j<n:=by
  have:j<n*1:=hj;omega
 by_cases c:j<i
 ·rw[List.getElem?_append_left qo,List.getElem?_take,if_pos c,QW (by show j<n*1;omega),row1,if_pos c]
 ·rw[List.getElem?_append_right qo,hl,if_neg c,List.getElem?_replicate,if_pos qo]
def has_clr{D:List (List Int)}{ms:Nat->Value}{xs:Nat->List Int}(h:W.Has F (lM Qn n ms xs))(hx:∀q,q<D.length->xs q=sl D q):W.Has F (lM Qn n (λq=>if q<D.length then ms q else .slice none 0 0) (sl D)):=λph hf q hq=>by
 by_cases c:q<D.length
 ·have h1:=h ph hf q hq;simp only at h1 ⊢;rw[if_pos c,<-hx q c];exact h1
 ·simp only;rw[if_neg c,sl_out qo];exact has_sI0 ph hf
def LO.storeSet{P:Program}{e:Env}{bx bx':List Ow}{ty t el:TypeId}{x y:Operand}{K:Qg}{u:Value}{a:List Int}{ms:Nat->Value}{xs:Nat->List Int}(hx:ev e x=some (.pointer (some (eaddr v i))))(hy:ev e y=some u)(hz:(P.info? t).map (·.size)=some 1)(hu:W.Has F (sI u a))
  (hs:Sel bx (lO Qn v el n ms xs) (lO Qn v el n (upd ms i u) (upd xs i a)) bx') (hi:i<n) (h:K undef bx' F):LO P (.store t x y) ty e bx F K:=
 LO.JF hx hy hz (One.sl (KnS.f hu)) hs (by rw[Qy];show i<n*1;omega) (cells_set1 hi) h
end
namespace K
namespace Q
namespace Y
attribute [local irreducible] WC WL WD YO LO Qq W.Fin Qk Qw Qj Row QJ Qv KnS Has W.One Qa Qs
def indexS_c(v:Value)(C:List (List Int))(ms:Nat->Value)(f:FuncId)(first cap:List Value)(Fc:List Fct)(p:List Int->Bool)
  (hf:∀i,i<C.length->FnB Tryz.prog f (first++[ms i]++cap) [] (sI (ms i) (sl C i)::Fc) (IsV (.bool (p (sl C i))))) :
  FnB Tryz.prog 146 [v,.func (.func f) first.toArray cap.toArray] [] (lF Qn v C.length ms (sl C)::Fc) (IsV (.int .i64 (Xt (X.fstT (λi=>p (sl C i)) C.length 0)))):=by
 refine fO [(0,v),(1,(.func (.func f) first.toArray cap.toArray))] 19 Tryz.func146 Tryz.ntmps146 λh0=>?_;refine WC.lenF (v:=v) (m:=C.length) (W.Has.ls (S:=Qn) (ms:=ms) (xs:=sl C) hmA) λhm=>?_;repeat'(first|intro(g:Nat)|refine gP ?_|intro v)
 refine WC.lp (σ:=Nat) (λi=>[(8,.int .i64 (i:Int)),(7,.int .i64 (C.length:Int)),(0,v),(1,.func (.func f) first.toArray cap.toArray)]) (λ_=>[]) (λ_=>ge h0::lF Qn v C.length ms (sl C)::Fc) (λi=>i<=C.length/\X.fstT (λi=>p (sl C i)) C.length 0=X.fstT (λi=>p (sl C i)) (C.length-i) i) (λi=>C.length-i) 0 ⟨Nat.zero_le _,rfl⟩ ?_ (hG:=.cons hmA (.cons hmA (Qu.tail λ_ h=>by(repeat(first|exact h|apply List.mem_cons_of_mem)))));rintro i ⟨hi,he⟩;by_cases c:i<C.length
 ·rw[Uq c] at he;repeat'(first|intro(g:Nat)|refine gP ?_|intro v)
  refine WL.J9 first cap (vs:=[ms i]) (hf i c) ?_ (hF:=.cons (W.Has.lk (S:=Qn) (v:=v) (ms:=ms) (xs:=sl C) hmA c) (Qu.tail λ_ h=>by(repeat(first|exact h|apply List.mem_cons_of_mem))))
  rintro _ _ _ ⟨rfl,rfl,rfl⟩;refine sNn ?_;cases hp:p (sl C i) with
  |true=>
   rw[if_pos hp] at he;rw[he];repeat'(first|intro(g:Nat)|refine gP ?_|intro v)
   refine WC.ret ?_;exact Fin.v (Qh.t1 rfl rfl) meA rfl
  |false=>
   rw[if_neg (by rw[hp];decide)] at he;repeat'(first|intro(g:Nat)|refine gP ?_|intro v)
   exact Qq.mk (i+1) ⟨by omega,he⟩ qo (hG:=.cons hmA (.cons hmA (Qu.tail λ_ h=>by(repeat(first|exact h|apply List.mem_cons_of_mem)))))
 ·obtain rfl:C.length=i:=qo;rw[Nat.sub_self,X.fstT] at he;rw[he];repeat'(first|intro(g:Nat)|refine gP ?_|intro v)
  refine WC.ret ?_;exact Fin.v (Qh.t1 rfl rfl) meA rfl
def delete_c(v:Value)(C:List (List Int))(ms:Nat->Value)(f:FuncId)(first cap:List Value)(Fc:List Fct)(p:List Int->Bool)(hC:C.length<=100000)
  (hf:∀u i,i<C.length->FnB Tryz.prog f (first++[u]++cap) [] (sI u (sl C i)::Fc) (IsV (.bool (p (sl C i))))) :
  FnB Tryz.prog 68 [v,.func (.func f) first.toArray cap.toArray] [lO Qn v 28 C.length ms (sl C)] (lM Qn C.length ms (sl C)::Fc) (λr B G=>∃ms',B=[]/\G=[lF Qn r (C.filter λs=>!p s).length ms' (sl (C.filter λs=>!p s))]):=by
 refine fO [(0,v),(1,(.func (.func f) first.toArray cap.toArray))] 42 Tryz.func68 Tryz.ntmps68 λh0=>?_;repeat'(first|intro(g:Nat)|refine gP ?_|intro v)
 refine WL.Yv (indexS_c v C ms f first cap Fc p λi hi=>hf _ i hi) ?_ (hF:=.cons (Qm.lo (S:=Qn) meA hmA) (UU λf hf=>Qm.f (Has.mem (by(repeat(first|exact hf|apply List.mem_cons_of_mem))))));rcases X.Xe (λi=>p (sl C i)) C.length 0 with ⟨e,hno⟩|⟨i0,e,_,hi0,hy,hno⟩
 ·rw[e,show Xt none= -1 from rfl]
  have hfil:(C.filter λs=>!p s)=C:=by
   rw[<-kept_all,UN (Nat.le_refl _) λq hq=>hno q (Nat.zero_le _) qo,List.take_length]
  rw[hfil];repeat'(first|intro(g:Nat)|refine gP ?_|intro v)
  refine WC.Q3 (S:=Qn) (v:=v) (n:=C.length) (ms:=ms) (xs:=sl C) (by repeat(first|exact Sel.head|apply Sel.tail)) hmA ?_;refine WC.ret ?_;exact Fp [_] (Qh.t1 rfl rfl) (.cons hmA .nil) ⟨ms,rfl,rfl⟩
 rw[e,show Xt (some i0)=(i0:Int) from rfl];repeat'(first|intro(g:Nat)|refine gP ?_|intro v)
 refine WC.Xd (σ:=(Nat->Value)×(Nat->List Int)) (λst=>[(5,.int .i64 ((C.filter λs=>!p s).length:Int)),(0,v)]) (λst=>[lO Qn v 28 C.length st.1 st.2]) (λst=>[lM Qn C.length st.1 st.2,ge h0]) (λst=>∀q,q<(C.filter λs=>!p s).length->st.2 q=sl (C.filter λs=>!p s) q) ?_ ?_
 ·have hk0:kept p C i0=C.take i0:=UN qo λq hq=>hno q (Nat.zero_le _) hq;have hk1:kept p C (i0+1)=C.take i0:=by rw[kept_yes qo hy,hk0]
  refine WC.lp (σ:=Nat×(Nat->Value)×(Nat->List Int)) (λst=>[(6,.int .i64 (st.1:Int)),(5,.int .i64 ((kept p C st.1).length:Int)),(0,v),(1,.func (.func f) first.toArray cap.toArray)]) (λst=>[lO Qn v 28 C.length st.2.1 st.2.2]) (λst=>ge h0::lM Qn C.length st.2.1 st.2.2::Fc)
   (λst=>i0+1<=st.1/\st.1<=C.length/\(kept p C st.1).length<st.1/\(∀q,q<(kept p C st.1).length->st.2.2 q=sl (kept p C st.1) q)/\∀q,st.1<=q->st.2.2 q=sl C q) (λst=>C.length-st.1) (i0+1,ms,sl C) ⟨Nat.le_refl _,by simp only;omega,by simp only[hk1,List.length_take];omega,?hq,λq _=>rfl⟩ ?hr (hE:=?he) (hG:=.cons hmA (.cons hmA (Qu.tail λ_ h=>by(repeat(first|exact h|apply List.mem_cons_of_mem)))))
  case hq=>
   intro q hq;simp only[hk1,List.length_take] at hq ⊢;rw[sl,sl,List.getD_eq_getElem?_getD,List.getD_eq_getElem?_getD,List.getElem?_take,if_pos qo]
  case he=>
   simp only[hk1,List.length_take,Nat.min_eq_left (show i0<=C.length by omega)];exact suA
  rintro⟨j,ms,xs⟩ ⟨h1,h2,h3,h4,h5⟩;simp only at h1 h2 h3 h4 h5 ⊢;obtain⟨i,hi⟩:∃i,(kept p C j).length=i:=⟨_,rfl⟩
  rw[hi] at h3 h4 ⊢;by_cases d:j<C.length
  ·have h6:=h5 j (Nat.le_refl _);repeat'(first|intro(g:Nat)|refine gP ?_|intro v)
   refine WL.J9 first cap (vs:=[ms j]) (hf (ms j) j d) ?_ (hF:=.cons (by rw[<-h6];exact W.Has.mk (S:=Qn) (n:=C.length) (ms:=ms) (xs:=xs) hmA d) (Qu.tail λ_ h=>by(repeat(first|exact h|apply List.mem_cons_of_mem))))
   rintro _ _ _ ⟨rfl,rfl,rfl⟩;refine sNn ?_;cases hp:p (sl C j) with
   |true=>
    repeat'(first|intro(g:Nat)|refine gP ?_|intro v)
    have hk:=kept_yes d hp;exact Qq.mk (j+1,ms,xs) ⟨by simp only;omega,by simp only;omega,by simp only[hk];omega,λq hq=>by simp only[hk] at hq ⊢;exact h4 q qo,λq hq=>h5 q (by simp only at hq;omega)⟩ (by simp only;omega) (hE:=by simp only[hk,hi];exact suA) (hG:=.cons hmA (.cons hmA (Qu.tail λ_ h=>by(repeat(first|exact h|apply List.mem_cons_of_mem)))))
   |false=>
    repeat'(first|intro(g:Nat)|refine gP ?_|intro v)
    have hk:=kept_no d hp;refine WL.l0 rfl (LO.storeSet (i:=i) (u:=ms j) (a:=sl C j) rfl rfl T.z28 (by rw[<-h6];exact W.Has.mk (S:=Qn) (n:=C.length) (ms:=ms) (xs:=xs) hmA d) (by repeat(first|exact Sel.head|apply Sel.tail)) qo ?_);refine WL.QE (lM Qn C.length (upd ms i (ms j)) (upd xs i (sl C j))) (W.Has.mset (S:=Qn) hmA (by rw[<-h6];exact W.Has.mk (S:=Qn) (n:=C.length) (ms:=ms) (xs:=xs) hmA d)) ?_;repeat'(first|intro(g:Nat)|refine gP ?_|intro v)
    have hl:(kept p C (j+1)).length=i+1:=by rw[hk,List.length_append,hi];rfl
    refine Qq.mk (j+1,upd ms i (ms j),upd xs i (sl C j)) ⟨by simp only;omega,by simp only;omega,by simp only[hl];omega,λq hq=>?_,λq hq=>?_⟩ (by simp only;omega) (hE:=by simp only[hl];exact suA) (hG:=.cons hmA (.cons hmA (Qu.tail λ_ h=>by(repeat(first|exact h|apply List.mem_cons_of_mem)))))
    ·simp only[hl] at hq;simp only;by_cases c:q=i
     ·subst c;rw[QB,hk,<-hi,sl_last]
     ·rw[upd_ne c,hk,sl_snoc qo];exact h4 q qo
    ·simp only at hq ⊢;rw[upd_ne qo];exact h5 q qo
  ·obtain rfl:j=C.length:=qo;rw[kept_all] at hi h4;repeat'(first|intro(g:Nat)|refine gP ?_|intro v)
   exact QG (ms,xs) (λq hq=>h4 q qo) (hE:=by rw[hi];exact suA)
 rintro⟨ms,xs⟩ hx;simp only at hx ⊢;have hle:(C.filter λs=>!p s).length<=C.length:=List.length_filter_le _ _;generalize hD:(C.filter λs=>!p s)=D at *;repeat'(first|intro(g:Nat)|refine gP ?_|intro v)
 refine WL.l0 rfl (LO.clearO (el:=28) (z:=.slice none 0 0) (v:=v) (n:=C.length) (a:=D.length) (cs:=Qt Qn C.length ms xs) (show Tryz.prog.underlying 25=some (.slice 28) by kernel_rfl) kr rfl rfl rfl (by repeat(first|exact Sel.head|apply Sel.tail)) (by rw[Qy];exact Nat.mul_one _) hle ?_);rw[cells_clear (ys:=sl D) hle];refine WL.QE (lM Qn C.length (λq=>if q<D.length then ms q else .slice none 0 0) (sl D)) (has_clr (ms:=ms) (xs:=xs) hmA hx) ?_;repeat'(first|intro(g:Nat)|refine gP ?_|intro v)
 refine WC.Q3 (S:=Qn) (v:=v) (n:=C.length) (ms:=λq=>if q<D.length then ms q else .slice none 0 0) (xs:=sl D) (by repeat(first|exact Sel.head|apply Sel.tail)) hmA ?_;refine WC.ret ?_;exact Fp [_] (Qh.t1 rfl rfl) (.cons (W.Has.takeL (S:=Qn) (v:=v) (n:=C.length) (ms:=λq=>if q<D.length then ms q else .slice none 0 0) (xs:=sl D) hmA hle) .nil) ⟨_,rfl,rfl⟩
end Y
end Q
end K
end
section
open W Go.RowKit
open Bl (Vc Bd Tc Sc)
def set_ok{N:Nat}{most:Int}{s:List Int}(hN:N<=8)(h:s∈Fx.Jk (N:Int) most):s.length<=8/\∀x∈s,0<=x/\x<(N:Int):=by
 obtain⟨b,hb,rfl,hl⟩:=(Fx.mem_sets qo qo).1 h;refine⟨?_,λx hx=>Fx.num_lt hx⟩
 have h2:∀n,(Fx.numbers b n).length<=n:=λn=>by
  induction n with
  |zero=>simp[Fx.numbers]
  |succ n ih=>unfold Fx.numbers;rw[List.length_append];split<;>simp<;>omega
 have:=h2 (N:Int).toNat;simp only[Int.toNat_natCast] at this ⊢;omega
def Hr{t:List Tc}{P:List (List Tc)}{most:Int}{s:List Int}(hP:P.length<=8)(h:s∈Fx.QX t P most):s.length<=8/\∀x∈s,0<=x/\x<(P.length:Int):=set_ok hP (List.mem_filter.1 h).1
def Gv{C:List (List Int)}{i:Nat}(h:i<C.length):sl C i∈C:=by
 rw[sl,List.getD_eq_getElem?_getD,List.getElem?_eq_getElem h];exact List.getElem_mem h
def cand_is(t:List Tc)(P:List (List Tc))(most:Int):((Fx.Jk (P.length:Int) most).filter λs=>!decide (10<(Fx.QK t P s).length))=Fx.QX t P most:=by
 unfold Fx.QX
 congr 1
 funext s
 by_cases c:(Fx.QK t P s).length<=10
 ·rw[decide_eq_true c,decide_eq_false qo];rfl
 ·rw[decide_eq_false c,decide_eq_true qo];rfl
def IsCa(t:List Tc)(P:List (List Tc))(most:Int):Qg:=λv B G=>∃r ms,v=.tuple #[r,.int .i64 0]/\B=[]/\G=[lF Qn r (Fx.QX t P most).length ms (sl (Fx.QX t P most))]
namespace K
namespace Q
namespace Y
attribute [local irreducible] WC WL WD YO LO Qq W.Fin Qk Qw Qj Row QJ Qv KnS Has W.One Qa Qs
section
variable (tv pv:Value)(t:List Tc)(P:List (List Tc))(tm:Nat->ToM)(pm:Nat->Value×(Nat->ToM))
def large_c(sv:Value)(s:List Int)(g5 g6:Nat)(ht:t.length<=100)(hP:∀p∈P,p.length<=100)(hs:s.length<=10)(hr:∀x∈s,0<=x/\x<(P.length:Int))(hPl:P.length<=1000) :
  FnB Tryz.prog 67 [sv,ptr g5,ptr g6] [] [sI sv s,ce g5 32 [tv],ce g6 33 [pv],lF Qo tv t.length tm (tl t),lF tlS pv P.length pm (pl P)] (IsV (.bool (decide (10<(Fx.QK t P s).length)))):=by
 refine fO [(0,sv),(1,(ptr g5)),(2,(ptr g6))] 11 Tryz.func67 Tryz.ntmps67 λh0=>?_;repeat'(first|intro(g:Nat)|refine gP ?_|intro v)
 refine cK (Uy tv pv sv t P s tm pm ht hP hs hr hPl) ?_;rintro v8 _ _ ⟨ms,rfl,rfl⟩;refine sNn ?_;have hl:=Vd ht hP s;by_cases c:10<(Fx.QK t P s).length
 ·repeat'(first|intro(g:Nat)|refine gP ?_|intro v)
  exact WC.ret (Fin.v (Qh.t1 rfl rfl) meA (by rw[decide_eq_true c]))
 ·repeat'(first|intro(g:Nat)|refine gP ?_|intro v)
  exact WC.ret (Fin.v (Qh.t1 rfl rfl) meA (by rw[decide_eq_false c]))
def ZV(lv:Value)(n:Nat)(bm:Nat->BM)(B:Nat->Bd)(most:Int)(hn:n<=5)(ht:t.length<=10)(hP8:P.length<=8)(hP:∀p∈P,p.length<=100)(hm0:0<=most)(hm8:most<=8) :
  FnB Tryz.prog 40 [lv,tv,pv,.int .i64 most] [] [lF XU lv n bm B,lF Qo tv t.length tm (tl t),lF tlS pv P.length pm (pl P)] (IsCa t P most):=by
 refine fO [(0,lv),(1,tv),(2,pv),(3,(.int .i64 most))] 37 Tryz.func40 Tryz.ntmps40 λh0=>?_;repeat'(first|intro(g:Nat)|refine gP ?_|intro v)
 revert g;intro g6;revert g;intro g5;refine WL.keep (g:=g6) (t:=33) (cs:=[pv]) (by repeat(first|exact Rem.head|apply Rem.tail)) ?_;refine WL.keep (g:=g5) (t:=32) (cs:=[tv]) (by repeat(first|exact Rem.head|apply Rem.tail)) ?_;refine cK (sets_c (P.length:Int) most ⟨by omega,by omega⟩ ⟨by omega,by omega⟩) ?_;rintro v34 _ _ ⟨sm,rfl,rfl⟩;refine sNn ?_;repeat'(first|intro(g:Nat)|refine gP ?_|intro v)
 have hle:=Fx.Uu (P.length:Int) most;refine WL.YZ [lO Qn v34 28 (Fx.Jk (P.length:Int) most).length sm (sl (Fx.Jk (P.length:Int) most))] [] (List.Perm.refl _) (delete_c v34 (Fx.Jk (P.length:Int) most) sm 67 [] [ptr g5,ptr g6] [ce g5 32 [tv],ce g6 33 [pv],lF Qo tv t.length tm (tl t),lF tlS pv P.length pm (pl P)] (λs=>decide (10<(Fx.QK t P s).length)) qo λu i hi=>?_) ?_
 ·have hs:=set_ok hP8 (Gv hi);exact large_c tv pv t P tm pm u (sl (Fx.Jk (P.length:Int) most) i) g5 g6 qo hP qo hs.2 qo
 rintro r _ _ ⟨ms,rfl,rfl⟩;rw[cand_is];refine sNn ?_;repeat'(first|intro(g:Nat)|refine gP ?_|intro v)
 refine WC.ret ?_;exact Fp [_] (Qh.t2 rfl rfl rfl) haA ⟨r,ms,rfl,rfl,rfl⟩
end
end Y
end Q
end K
end
section
open W Go.RowKit
open Bl (Vc Bd Tc Sc)
def fsx(a:Nat->Nat->Rat)(y:Nat->Rat)(i j k:Nat):Rat:=X.sm (if k<j then i+1 else i) λr=>y r*a r k
def fsx_up{a:Nat->Nat->Rat}{y:Nat->Rat}{i j:Nat}(k:Nat):upd (fsx a y i j) j (fsx a y i j j+y i*a i j) k=fsx a y i (j+1) k:=by
 by_cases c:k=j
 ·subst c;rw[QB];unfold fsx;rw[if_neg qo,if_pos qo];rfl
 ·rw[upd_ne c];unfold fsx;by_cases d:k<j
  ·rw[if_pos d,if_pos qo]
  ·rw[if_neg d,if_neg qo]
def fsx_next{a:Nat->Nat->Rat}{y:Nat->Rat}{i v k:Nat}(hk:k<v):fsx a y i v k=fsx a y (i+1) 0 k:=by
 unfold fsx;rw[if_pos hk,if_neg qo]
def sum_sz{y f:Nat->Rat}{Ky Ka m i:Nat}(hy:∀r,r<m->Sq Ky (y r))(hf:∀r,r<m->Sq Ka (f r))(hi:i<=m):Sq (m*(Ky+Ka+1)+1) (X.sm i λr=>y r*f r):=
 (X.Zh (m:=i) λr hr=>(hy r qo).mul (hf r qo)).up (by have:=Nat.mul_le_mul_right (Ky+Ka+1) hi;omega)
namespace K
namespace Q
attribute [local irreducible] WC WL WD YO LO Qq W.Fin Qk Qw Qj Row QJ Qv KnS Has W.One Qa Qs
def d46{G G':Prop}(h:G')(s:Bx G'->G:=by
 intro h;first|refine gF ?_|(apply WC.draw (id:=15) [0,1,2,3,4,5,6,7,10] (.h 0<|.h 1<|.h 2<|.h 3<|.h 4<|.h 5<|.h 6<|.h 7<|.l 8<|.l 9<|.h 10<|.l 11 .done) mixed kr)|(apply WC.draw (id:=17) [0,1,2,3,4,5,6,7] (.h 0<|.h 1<|.h 2<|.h 3<|.h 4<|.h 5<|.h 6<|.h 7<|.l 8<|.l 9<|.l 10 .done) mixed kr)|fail
 exact Bx.h h):G:=s ⟨h⟩
def falls_c(M:SM)(S:Sc)(c Ly:Nat)(yv:Value)(my:Nat->QM)(y:Nat->Rat)(K Ky:Nat)(hc:c<2^S.n)(h0K:0<K)(hK:K<=3)(hs:Ss K S)(ho:S.ok)(hL:Ly<=1000)(hy:∀k,k<Ly->Sq Ky (y k))(hKy:(6*S.n+6*S.m+S.n)*(Ky+22)+Ky+30<=400000000) :
  FnB Tryz.prog 46 [M.l,M.t,.agg #[.int .i64 (c:Int),yv]] [] [fSl M S,fSt M S,fF yv Ly my y] (IsEr (Ly=(Bl.lp S (S.wt c)).m/\X.Ua (Bl.lp S (S.wt c)) y)):=by
 have hn:=ho.n;have hm:=ho.m;have hz:=lp_szs h0K hK hs ho (wt_sz hs c);have hpb:=Hq M S c hc K h0K qo hs ho;obtain⟨p,hp⟩:∃p,Bl.lp S (S.wt c)=p:=⟨_,rfl⟩
 have hpv:p.v=4*S.m:=by rw[<-hp];rfl
 have hpm:p.m=6*S.n+6*S.m+S.n:=by rw[<-hp];rfl
 unfold IsProb at hpb;rw[hp,<-hpv] at hpb;rw[hp] at hz ⊢;have h32:2^S.n<=2^5:=Nat.pow_le_pow_right qd hn;obtain⟨N2,hN2⟩:∃N2,2^S.n=N2:=⟨_,rfl⟩
 refine fO [(0,M.l),(1,M.t),(2,(.agg #[.int .i64 (c:Int),yv]))] 111 Tryz.func46 Tryz.ntmps46 λh0=>?_;repeat'(first|intro(g:Nat)|refine d46 ?_|intro v)
 revert g;intro g5;refine cW (hpb) λMp=>?_;refine WL.QE (fF Mp.gv p.v Mp.mg p.g) (W.Has.pg (M:=Mp) (m:=p.m) (gn:=p.v) (ln:=λ_=>p.v) (a:=p.a) (b:=p.b) hmA) ?_;repeat'(first|intro(g:Nat)|refine d46 ?_|intro v)
 revert g;intro g7;refine WL.keep (g:=g5) (t:=63) (cs:=[.int .i64 (c:Int),yv]) (by repeat(first|exact Rem.head|apply Rem.tail)) ?_;refine WL.keep (g:=g7) (t:=118) (cs:=pcs Mp p.v) (by repeat(first|exact Rem.head|apply Rem.tail)) ?_;by_cases hl:Ly=p.m
 ·subst hl;repeat'(first|intro(g:Nat)|refine d46 ?_|intro v)
  revert g;intro g10;revert v;intro sv;refine WC.Xd (σ:=(Nat->QM)×QM) (λst=>[(9,sv),(10,ptr g10)]) (λst=>[Ow.cells g10 75 (qcs st.2),Ow.slice sv 75 4 (Qe p.v st.1)]) (λst=>[mF p.v st.1 (fsx p.a y p.m 0),isQ (qv st.2) (X.sm p.m λr=>y r*p.b r),ge h0]) (λ_=>∀r,r<p.m->0<=y r) ?_ ?_
  ·refine WC.lp (σ:=Nat×(Nat->QM)×QM) (λst=>[(50,.int .i64 (st.1:Int)),(49,.int .i64 (p.m:Int)),(48,yv),(9,sv),(10,ptr g10),(5,ptr g5),(7,ptr g7)]) (λst=>[Ow.cells g10 75 (qcs st.2.2),Ow.slice sv 75 4 (Qe p.v st.2.1)]) (λst=>[mF p.v st.2.1 (fsx p.a y st.1 0),isQ (qv st.2.2) (X.sm st.1 λr=>y r*p.b r),ge h0,ce g5 63 [.int .i64 (c:Int),yv],ce g7 118 (pcs Mp p.v),fP Mp p,fF yv p.m my y]) (λst=>st.1<=p.m/\∀r,r<st.1->0<=y r) (λst=>p.m-st.1) (0,λ_=>m00,m00) ⟨Nat.zero_le _,λr h=>absurd h qo⟩ ?_ (hG:=.cons ((W.Has.mF0 p.v).QH λk _=>rfl) (.cons Jm haA));rintro⟨i,ms,mr⟩ ⟨hi,hok⟩;simp only at hi hok ⊢;by_cases d:i<p.m
   ·refine WC.fact (fF (Mp.av i) p.v (Mp.ma i) (p.a i)) (W.Has.pa (M:=Mp) (m:=p.m) (gn:=p.v) (ln:=λ_=>p.v) (a:=p.a) (b:=p.b) (g:=p.g) hmA d) ?_;refine WC.fact (isQ (qv (Mp.mb i)) (p.b i)) (W.Has.pbq (M:=Mp) (m:=p.m) (gn:=p.v) (ln:=λ_=>p.v) (a:=p.a) (b:=p.b) (g:=p.g) hmA d) ?_;refine WC.fact (isQ (qv (my i)) (y i)) (W.Has.q (W.Has.fm (v:=yv) (n:=p.m) (ms:=my) (qf:=y) hmA) d) ?_;have hyi:=hy i d;have hKy2:p.m*(Ky+22)+Ky+30<=400000000:=by rw[hpm];exact hKy
    have hKy3:Ky+22<=400000000:=qo;repeat'(first|intro(g:Nat)|refine d46 ?_|intro v)
    revert g;intro g12;refine cV (Xk (my i) (y i) (hyi.sm qo)) ?_;repeat'(first|intro(g:Nat)|refine d46 ?_|intro v)
    refine cV (Zn.sign (my i) (y i)) ?_;have hsg:=@Xn (y i);by_cases hneg:y i<0
    ·have hs1:=hsg.2 hneg;repeat'(first|intro(g:Nat)|refine d46 ?_|intro v)
     refine WC.ret ?_;exact Fp [] (Qh.t1 rfl rfl) .nil ⟨22,rfl,.inr rfl,⟨λh=>absurd h qd,λh=>absurd (h.2.1 i d) (by grind)⟩,rfl,rfl⟩
    ·have hs1:¬sgn (y i).num<0:=λh=>hneg (hsg.1 h);repeat'(first|intro(g:Nat)|refine d46 ?_|intro v)
     refine WC.Xd (σ:=Nat->QM) (λms=>[(11,.int .i64 (i:Int)),(12,ptr g12),(50,.int .i64 (i:Int)),(49,.int .i64 (p.m:Int)),(48,yv),(9,sv),(10,ptr g10),(5,ptr g5),(7,ptr g7)]) (λms=>[Ow.cells g12 75 (qcs (my i)),Ow.cells g10 75 (qcs mr),Ow.slice sv 75 4 (Qe p.v ms)]) (λms=>[mF p.v ms (fsx p.a y (i+1) 0),isQ (qv mr) (X.sm i λr=>y r*p.b r),isQ (qv (Mp.mb i)) (p.b i),isQ (qv (my i)) (y i),ge h0,ce g5 63 [.int .i64 (c:Int),yv],ce g7 118 (pcs Mp p.v),fP Mp p,fF yv p.m my y]) (λ_=>True) ?_ ?_
     ·refine WC.lp (σ:=Nat×(Nat->QM)) (λst=>[(70,.int .i64 (st.1:Int)),(69,.int .i64 (p.v:Int)),(68,Mp.av i),(11,.int .i64 (i:Int)),(12,ptr g12),(50,.int .i64 (i:Int)),(49,.int .i64 (p.m:Int)),(48,yv),(9,sv),(10,ptr g10),(5,ptr g5),(7,ptr g7)]) (λst=>[Ow.cells g12 75 (qcs (my i)),Ow.cells g10 75 (qcs mr),Ow.slice sv 75 4 (Qe p.v st.2)]) (λst=>[mF p.v st.2 (fsx p.a y i st.1),fF (Mp.av i) p.v (Mp.ma i) (p.a i),isQ (qv mr) (X.sm i λr=>y r*p.b r),isQ (qv (Mp.mb i)) (p.b i),isQ (qv (my i)) (y i),ge h0,ce g5 63 [.int .i64 (c:Int),yv],ce g7 118 (pcs Mp p.v),fP Mp p,fF yv p.m my y]) (λst=>st.1<=p.v) (λst=>p.v-st.1) (0,ms) (Nat.zero_le _) ?_;rintro⟨j,ms⟩ hj;simp only at hj ⊢;by_cases dj:j<p.v
      ·refine WC.fact (isQ (qv (Mp.ma i j)) (p.a i j)) (W.Has.q (W.Has.fm (v:=Mp.av i) (n:=p.v) (ms:=Mp.ma i) (qf:=p.a i) hmA) dj) ?_;refine WC.fact (isQ (qv (ms j)) (fsx p.a y i j j)) (W.Has.q (n:=p.v) (ms:=ms) (qf:=fsx p.a y i j) hmA dj) ?_;have haj:=hz.a i d j dj;have hsz:Sq (p.m*(Ky+22)+1) (fsx p.a y i j j):=by unfold fsx;rw[if_neg qo];exact sum_sz hy (λr hr=>hz.a r hr j dj) hi
       repeat'(first|intro(g:Nat)|refine d46 ?_|intro v)
       all_goals
        refine cW (Zn.mul (my i) (Mp.ma i j) (y i) (p.a i j) (hyi.sm qo) (haj.sm qo)) λn1=>?_;repeat'(first|intro(g:Nat)|refine d46 ?_|intro v)
       all_goals
        refine cW (Zn.add (ms j) n1 (fsx p.a y i j j) (y i*p.a i j) (hsz.sm qo) ((hyi.mul haj).sm qo)) λn2=>?_;repeat'(first|intro(g:Nat)|refine d46 ?_|intro v)
        exact Qq.mk (j+1,upd ms j n2) (by simp only;omega) (by simp only;omega) (hG:=.cons ((W.Has.JL (n:=p.v) (k:=j) (ms:=ms) (m:=n2) (qf:=fsx p.a y i j) hmA hmA).QH λk _=>fsx_up k) haA)
      ·obtain rfl:j=p.v:=qo;repeat'(first|intro(g:Nat)|refine d46 ?_|intro v)
       exact QG ms trivial (hG:=.cons (W.Has.QH (n:=p.v) (ms:=ms) (qf:=fsx p.a y i p.v) hmA λk hk=>fsx_next hk) haA)
     ·intro ms _;have hsz:Sq (p.m*(Ky+22)+1) (X.sm i λr=>y r*p.b r):=sum_sz hy (λr hr=>hz.b r hr) hi;repeat'(first|intro(g:Nat)|refine d46 ?_|intro v)
      all_goals
       refine cW (Zn.mul (my i) (Mp.mb i) (y i) (p.b i) (hyi.sm qo) ((hz.b i d).sm qo)) λn1=>?_;repeat'(first|intro(g:Nat)|refine d46 ?_|intro v)
      all_goals
       refine cW (Zn.add mr n1 (X.sm i λr=>y r*p.b r) (y i*p.b i) (hsz.sm qo) ((hyi.mul (hz.b i d)).sm qo)) λn2=>?_;repeat'(first|intro(g:Nat)|refine d46 ?_|intro v)
       exact Qq.mk (i+1,ms,n2) ⟨by simp only;omega,λr hr=>by
        by_cases e:r=i
        ·subst e;grind
        ·exact hok r (by simp only at hr;omega)⟩ (by simp only;omega) (hG:=.cons hmA (.cons (show W.Has _ (isQ (qv n2) ((X.sm i λr=>y r*p.b r)+y i*p.b i)) from hmA) haA))
   ·obtain rfl:i=p.m:=qo;repeat'(first|intro(g:Nat)|refine d46 ?_|intro v)
    exact QG (ms,mr) hok
  ·rintro⟨ms,mr⟩ hok;repeat'(first|intro(g:Nat)|refine d46 ?_|intro v)
   refine WC.Xd (σ:=Unit) (λ_=>[(10,ptr g10)]) (λ_=>[Ow.cells g10 75 (qcs mr),Ow.slice sv 75 4 (Qe p.v ms)]) (λ_=>[isQ (qv mr) (X.sm p.m λr=>y r*p.b r),ge h0]) (λ_=>∀k,k<p.v->(X.sm p.m λr=>y r*p.a r k)=0) ?_ ?_
   ·refine WC.lp (σ:=Nat) (λk=>[(100,.int .i64 (k:Int)),(99,.int .i64 (p.v:Int)),(98,sv),(10,ptr g10)]) (λ_=>[Ow.cells g10 75 (qcs mr),Ow.slice sv 75 4 (Qe p.v ms)]) (λ_=>[isQ (qv mr) (X.sm p.m λr=>y r*p.b r),ge h0,mF p.v ms (fsx p.a y p.m 0)]) (λk=>k<=p.v/\∀j,j<k->(X.sm p.m λr=>y r*p.a r j)=0) (λk=>p.v-k) 0 ⟨Nat.zero_le _,λj h=>absurd h qo⟩ ?_;rintro k ⟨hk,hz0⟩;by_cases d:k<p.v
    ·have hq:fsx p.a y p.m 0 k=X.sm p.m λr=>y r*p.a r k:=by unfold fsx;rw[if_neg qo]
     refine WC.fact (isQ (qv (ms k)) (X.sm p.m λr=>y r*p.a r k)) (by rw[<-hq];exact W.Has.q (n:=p.v) (ms:=ms) (qf:=fsx p.a y p.m 0) hmA d) ?_;repeat'(first|intro(g:Nat)|refine d46 ?_|intro v)
     refine cV (Zn.sign (ms k) (X.sm p.m λr=>y r*p.a r k)) ?_;have hsg:=@JO (X.sm p.m λr=>y r*p.a r k);by_cases h0':(X.sm p.m λr=>y r*p.a r k)=0
     ·have hs1:=hsg.2 h0';repeat'(first|intro(g:Nat)|refine d46 ?_|intro v)
      refine Qq.mk (k+1) ⟨by omega,λj hj=>?_⟩ qo;by_cases e:j=k
      ·subst e;exact h0'
      ·exact hz0 j qo
     ·have hs1:¬sgn (X.sm p.m λr=>y r*p.a r k).num=0:=λh=>h0' (hsg.1 h);repeat'(first|intro(g:Nat)|refine d46 ?_|intro v)
      refine WC.ret ?_;exact Fp [] (Qh.t1 rfl rfl) .nil ⟨22,rfl,.inr rfl,⟨λh=>absurd h qd,λh=>absurd (h.2.2.1 k d) h0'⟩,rfl,rfl⟩
    ·obtain rfl:k=p.v:=qo;repeat'(first|intro(g:Nat)|refine d46 ?_|intro v)
     exact QG () hz0
   ·rintro⟨⟩ hz0;repeat'(first|intro(g:Nat)|refine d46 ?_|intro v)
    refine cV (Zn.sign mr (X.sm p.m λr=>y r*p.b r)) ?_;have hsg:=@Xn (X.sm p.m λr=>y r*p.b r);by_cases hn0:(X.sm p.m λr=>y r*p.b r)<0
    ·have hs1:=hsg.2 hn0;repeat'(first|intro(g:Nat)|refine d46 ?_|intro v)
     refine WC.ret ?_;exact Fp [] (Qh.t1 rfl rfl) .nil ⟨0,rfl,.inl rfl,⟨λ_=>⟨rfl,hok,hz0,hn0⟩,λ_=>rfl⟩,rfl,rfl⟩
    ·have hs1:¬sgn (X.sm p.m λr=>y r*p.b r).num<0:=λh=>hn0 (hsg.1 h);repeat'(first|intro(g:Nat)|refine d46 ?_|intro v)
     refine WC.ret ?_;exact Fp [] (Qh.t1 rfl rfl) .nil ⟨22,rfl,.inr rfl,⟨λh=>absurd h qd,λh=>absurd h.2.2.2 hn0⟩,rfl,rfl⟩
 ·repeat'(first|intro(g:Nat)|refine d46 ?_|intro v)
  refine WC.ret ?_;exact Fp [] (Qh.t1 rfl rfl) .nil ⟨22,rfl,.inr rfl,⟨λh=>absurd h qd,λh=>absurd h.1 hl⟩,rfl,rfl⟩
end Q
end K
end
section
open W Go.RowKit
open Bl (Vc Bd Tc Sc)
abbrev X6:Shp (Value×(Nat->QM)) (Nat×Nat×(Nat->Rat)):=⟨2,λm a=>[.int .i64 (a.1:Int),m.1],λm a=>fF m.1 a.2.1 m.2 a.2.2,by decide,λ_ _=>rfl⟩
def Kh(S:Sc)(a:Nat×Nat×(Nat->Rat)):Prop:=a.1<2^S.n/\a.2.1=(Bl.lp S (S.wt a.1)).m/\X.Ua (Bl.lp S (S.wt a.1)) a.2.2/\∀k,k<a.2.1->Sq (yB S) (a.2.2 k)
section
variable {e:Env}{bx:List Ow}{F:List Fct}{ty:TypeId}{x:Operand}{K:Qg}{yv:Value}{n:Nat}
def LO.bsFall{c:Int}(hx:ev e x=some (.agg #[.int .i64 c,yv]))(hv:KnS bx F yv n)(h:∀u,K u (Ow.slice u 63 2 [.int .i64 c,yv]::bx) F):LO Tryz.prog (.buildSlice 40 1 #[(0,x)]) ty e bx F K:=by
 refine LO.byP (p:=∃a d,yv=.slice a n d) (λfr w' ho=>?_) ?_
 ·obtain⟨a1,c1,h1,_⟩:=(hv fr w' ho).is;exact⟨a1,c1,h1⟩
 rintro⟨a',d,rfl⟩;exact LO.buildSlice (el:=63) (sz:=2) (parts:=[(0,x)]) (us:=[.agg #[.int .i64 c,.slice a' n d]]) (cs:=[.int .i64 c,.slice a' n d]) (.cons hx .nil) (λ_=>by kernel_rfl) rfl qd h
end
section
variable (n:Nat)(B:Nat->Bd)(t:List Tc)(P:List (List Tc))(most:Int)
abbrev scP(s:List Int):Sc:=Bl.scL n B d0 (Fx.QK t P s)
abbrev stP(s:List Int):Prop:=Fx.StP n B d0 t P s
def fall_no{n:Nat}{B:Nat->Bd}{t:List Tc}{P:List (List Tc)}{s:List Int}{a:Nat×Nat×(Nat->Rat)}(h:Kh (scP n B t P s) a):¬stP n B t P s:=λhs=>by
 obtain⟨x,hx⟩:=hs a.1 h.1;exact X.inf_no h.2.2.1 hx
def IsChoice:Qg:=λv bx G=>bx=[]/\∃(fv:Value) (fm:Nat->Value×(Nat->QM)) (fx:Nat->Nat×Nat×(Nat->Rat)),
 ((∃(i:Nat) (pv cv:Value) (cm:Nat->Value×(Nat->VM)) (xs:Nat->Nat->Rat),Fx.YX (Fx.QX t P most) (stP n B t P) i/\v=.tuple #[.agg #[pv,cv,fv],.int .i64 0]/\
   G=[sI pv (sl (Fx.QX t P most) i),lF plS cv (2^n) cm (λc=>psh (2*(scP n B t P (sl (Fx.QX t P most) i)).m) (xs c)),lF X6 fv i fm fx]/\(∀j,j<i->Kh (scP n B t P (sl (Fx.QX t P most) j)) (fx j))/\
   ∀c,c<2^n->X.K3 (Bl.lp (scP n B t P (sl (Fx.QX t P most) i)) ((scP n B t P (sl (Fx.QX t P most) i)).wt c)) (xs c)/\∀k,k<4*(scP n B t P (sl (Fx.QX t P most) i)).m->Sq RA (xs c k))\/
  (Fx.NoneS (Fx.QX t P most) (stP n B t P)/\v=.tuple #[.agg #[.slice none 0 0,.slice none 0 0,fv],.int .i64 16]/\G=[lF X6 fv (Fx.QX t P most).length fm fx]/\∀j,j<(Fx.QX t P most).length->Kh (scP n B t P (sl (Fx.QX t P most) j)) (fx j)))
end
namespace K
namespace Q
namespace Y
attribute [local irreducible] WC WL WD YO LO Qq W.Fin Qk Qw Qj Row QJ Qv KnS Has W.One Qa Qs
def d16{G G':Prop}(h:G')(s:Bx G'->G:=by
 intro h;first|refine gE ?_|refine goLY ?_|refine goYB ?_|refine goYL ?_|refine Zp ?_|(apply WC.draw (id:=12) [0,2] (.h 0<|.h 2<|.m 1 (.l 3<|.f 4<|.l 5 .done) (.l 3<|.l 1<|.f 4<|.l 5 .done)) mixed kr)|fail
 exact Bx.h h):G:=s ⟨h⟩
def Ut(lv tv pv:Value)(n:Nat)(bm:Nat->BM)(B:Nat->Bd)(t:List Tc)(P:List (List Tc))(tm:Nat->ToM)(pm:Nat->Value×(Nat->ToM))(most:Int)(K:Nat)(hn:n<=5)(ht:t.length<=10)(hP8:P.length<=8)(hP:∀p∈P,p.length<=100)(hm0:0<=most)(hm8:most<=8)(h0K:0<K)(hK:K<=3)
  (hS:∀s∈Fx.QX t P most,(scP n B t P s).ok/\Ss K (scP n B t P s)) :
  FnB Tryz.prog 16 [lv,tv,pv,.int .i64 most] [] [isX Tryz.prog,lF XU lv n bm B,lF Qo tv t.length tm (tl t),lF tlS pv P.length pm (pl P)] (IsChoice n B t P most):=by
 refine fO [(0,lv),(1,tv),(2,pv),(3,(.int .i64 most))] 66 Tryz.func16 Tryz.ntmps16 λh0=>?_;repeat'(first|intro(g:Nat)|refine d16 ?_|refine gN ?_ ?_|intro v)
 revert g;intro g8;refine cK (ZV tv pv t P tm pm lv n bm B most hn ht hP8 hP hm0 hm8) ?_;rintro _ _ _ ⟨r,sm,rfl,rfl,rfl⟩;refine sNn ?_;repeat'(first|intro(g:Nat)|refine d16 ?_|refine gN ?_ ?_|intro v)
 revert g;intro g12;have hcl:(Fx.QX t P most).length<=900:=Nat.le_trans (List.length_filter_le _ _) (Fx.Uu _ _);refine WC.Q8 63 2 ?_;refine WC.Xd (σ:=Value×(Nat->Value×(Nat->QM))×(Nat->Nat×Nat×(Nat->Rat))) (λst=>[(12,ptr g12),(8,ptr g8)]) (λst=>[lO X6 st.1 63 (Fx.QX t P most).length st.2.1 st.2.2,Ow.cells g12 42 [.slice none 0 0,.slice none 0 0,st.1],Ow.cells g8 42 [.slice none 0 0,.slice none 0 0,.slice none 0 0]]) (λst=>[lM X6 (Fx.QX t P most).length st.2.1 st.2.2,ge h0]) (λst=>∀j,j<(Fx.QX t P most).length->Kh (scP n B t P (sl (Fx.QX t P most) j)) (st.2.2 j)) ?_ ?_
 ·refine WC.lp (σ:=Nat×Value×(Nat->Value×(Nat->QM))×(Nat->Nat×Nat×(Nat->Rat))) (λst=>[(32,.int .i64 (st.1:Int)),(31,.int .i64 ((Fx.QX t P most).length:Int)),(30,r),(12,ptr g12),(8,ptr g8),(0,lv),(1,tv),(2,pv)]) (λst=>[lO X6 st.2.1 63 st.1 st.2.2.1 st.2.2.2,Ow.cells g12 42 [.slice none 0 0,.slice none 0 0,st.2.1],Ow.cells g8 42 [.slice none 0 0,.slice none 0 0,.slice none 0 0]]) (λst=>[lM X6 st.1 st.2.2.1 st.2.2.2,ge h0,isX Tryz.prog,lF XU lv n bm B,lF Qo tv t.length tm (tl t),lF tlS pv P.length pm (pl P),lF Qn r (Fx.QX t P most).length sm (sl (Fx.QX t P most))]) (λst=>st.1<=(Fx.QX t P most).length/\∀j,j<st.1->Kh (scP n B t P (sl (Fx.QX t P most) j)) (st.2.2.2 j)) (λst=>(Fx.QX t P most).length-st.1) (0,.slice none 0 0,λ_=>(.slice none 0 0,λ_=>m00),λ_=>(0,0,λ_=>0)) ⟨Nat.zero_le _,λj hj=>absurd hj (Nat.not_lt_zero j)⟩ ?_ (hG:=.cons W.Has.HS haA);rintro⟨i,fv,fm,fx⟩ ⟨hi,hfx⟩;simp only at hi hfx ⊢;by_cases d:i<(Fx.QX t P most).length
  ·have hmem:=Gv d;obtain⟨hok,hsz⟩:=hS _ hmem;have hst:=Hr hP8 hmem;refine WC.fact (sI (sm i) (sl (Fx.QX t P most) i)) (W.Has.lk (S:=Qn) (v:=r) (ms:=sm) (xs:=sl (Fx.QX t P most)) hmA d) ?_;repeat'(first|intro(g:Nat)|refine d16 ?_|refine gN ?_ ?_|intro v)
   refine cK (Uy tv pv (sm i) t P (sl (Fx.QX t P most) i) tm pm qo hP qo hst.2 qo) ?_;rintro v41 _ _ ⟨tm2,rfl,rfl⟩;refine sNn ?_;repeat'(first|intro(g:Nat)|refine d16 ?_|refine gN ?_ ?_|intro v)
   refine cK (decide_c ⟨lv,v41,bm,tm2⟩ (scP n B t P (sl (Fx.QX t P most) i)) K h0K hK hsz hok) ?_;rintro _ _ _ ⟨rfl,⟨cv,cm,xs,rfl,rfl,hpt⟩|⟨c,yv,my,y,rfl,rfl,hc,hinf,hy,hprev⟩⟩
   ·refine sNn ?_;repeat'(first|intro(g:Nat)|refine d16 ?_|refine gN ?_ ?_|intro v)
    all_goals
     refine WD.fy rfl (YO.YH T.f42_1 rfl qr) qr qr ?_;repeat'(first|intro(g:Nat)|refine d16 ?_|refine gN ?_ ?_|intro v)
     refine WC.Q3 (S:=X6) (v:=fv) (n:=i) (ms:=fm) (xs:=fx) (by repeat(first|exact Sel.head|apply Sel.tail)) hmA ?_;refine WC.ret ?_;exact Fp [_,_,_] (Qh.cT rfl rfl meA T.r42 rfl rfl) (.cons hmA (.cons hmA (.cons hmA .nil))) ⟨rfl,fv,fm,fx,.inl ⟨i,sm i,cv,cm,xs,⟨d,λc hc=>⟨_,(hpt c hc).1⟩,λj hj=>fall_no (hfx j hj)⟩,rfl,rfl,hfx,hpt⟩⟩
   ·refine sNn ?_;repeat'(first|intro(g:Nat)|refine d16 ?_|refine gN ?_ ?_|intro v)
    refine WL.l rfl rfl (LO.bsFall (c:=(c:Int)) rfl (KnS.ff (v:=yv) hmA) λv61=>?_);refine WL.l rfl rfl (LO.appL (S:=X6) (ms:=fm) (xs:=fx) (n:=i) (mm:=(yv,my)) (aa:=(c,(Bl.lp (scP n B t P (sl (Fx.QX t P most) i)) ((scP n B t P (sl (Fx.QX t P most) i)).wt c)).m,y)) T.e40 rfl rfl meA (.cons (One.lit rfl rfl) (.cons (One.sl (KnS.ff (v:=yv) hmA)) .nil)) (λv'=>by repeat(first|exact Sel.head|apply Sel.tail)) qd qd qo λv62=>?_);repeat'(first|intro(g:Nat)|refine d16 ?_|refine gN ?_ ?_|intro v)
    refine Qq.mk (i+1,v62,upd fm i (yv,my),upd fx i (c,(Bl.lp (scP n B t P (sl (Fx.QX t P most) i)) ((scP n B t P (sl (Fx.QX t P most) i)).wt c)).m,y)) ⟨by simp only;omega,λj hj=>?_⟩ (by simp only;omega) (hG:=.cons (W.Has.mapp (S:=X6) (n:=i) (ms:=fm) (xs:=fx) (mm:=(yv,my)) (aa:=(c,(Bl.lp (scP n B t P (sl (Fx.QX t P most) i)) ((scP n B t P (sl (Fx.QX t P most) i)).wt c)).m,y)) hmA hmA) haA);simp only at hj ⊢;by_cases e:j=i
    ·subst e;rw[QB];exact⟨hc,rfl,hinf,hy⟩
    ·rw[upd_ne e];exact hfx j qo
  ·obtain rfl:i=(Fx.QX t P most).length:=qo;repeat'(first|intro(g:Nat)|refine d16 ?_|refine gN ?_ ?_|intro v)
   exact QG (fv,fm,fx) hfx
 rintro⟨fv,fm,fx⟩ hfx;simp only at hfx ⊢;repeat'(first|intro(g:Nat)|refine d16 ?_|refine gN ?_ ?_|intro v)
 refine WC.Q3 (S:=X6) (v:=fv) (n:=(Fx.QX t P most).length) (ms:=fm) (xs:=fx) (by repeat(first|exact Sel.head|apply Sel.tail)) hmA ?_;refine WC.ret ?_;exact Fp [_] (Qh.cT rfl rfl meA T.r42 rfl rfl) (.cons hmA .nil) ⟨rfl,fv,fm,fx,.inr ⟨λj hj=>fall_no (hfx j hj),rfl,rfl,hfx⟩⟩
end Y
end Q
end K
end
section
open W Go.RowKit
open Bl (Vc Bd Tc Sc)
namespace K
namespace Q
namespace Y
attribute [local irreducible] WC WL WD YO LO Qq W.Fin Qk Qw Qj Row QJ Qv KnS Has W.One Qa Qs
def d23{G G':Prop}(h:G')(s:Bx G'->G:=by
 intro h;first|refine gF ?_|(apply WC.draw (id:=10) [0,1,2,3,4,5,6,8,10] (.h 0<|.h 1<|.h 2<|.h 3<|.h 4<|.h 5<|.h 6<|.h 8<|.l 7<|.l 9<|.h 10 .done) mixed kr)|(apply WC.draw (id:=17) [0,1,2,3,4,5,7,8,9,10,11,12,13,14,15,17,18,20,21] (.h 0<|.h 1<|.h 2<|.h 3<|.h 4<|.h 5<|.l 6<|.h 7<|.h 8<|.h 9<|.h 10<|.h 11<|.h 12<|.h 13<|.h 14<|.h 15<|.h 17<|.h 18<|.l 16<|.l 19<|.h 20<|.h 21 .done) mixed kr)|fail
 exact Bx.h h):G:=s ⟨h⟩
def d47{G G':Prop}(h:G')(s:Bx G'->G:=by
 intro h;first|refine gF ?_|(apply WC.draw (id:=6) [0,1,2,3,4,5,6,7,8] (.h 0<|.h 1<|.h 2<|.h 3<|.h 4<|.h 5<|.h 6<|.h 7<|.h 8 .done) mixed kr)|fail
 exact Bx.h h):G:=s ⟨h⟩
def equalI_c(v u:Value)(l:List Int)(hl:l.length<=1000):FnB Tryz.prog 47 [v,u] [] [sI v l,sI u l] (IsV (.bool true)):=by
 refine fO [(0,v),(1,u)] 26 Tryz.func47 Tryz.ntmps47 λh0=>?_;repeat'(first|intro(g:Nat)|refine d47 ?_|intro v)
 refine WC.lp (σ:=Nat) (λk=>[(13,.int .i64 (k:Int)),(12,.int .i64 (l.length:Int)),(0,v),(1,u)]) (λ_=>[]) (λ_=>[ge h0,sI v l,sI u l]) (λk=>k<=l.length) (λk=>l.length-k) 0 (Nat.zero_le _) ?_;intro k hk;by_cases d:k<l.length
 ·repeat'(first|intro(g:Nat)|refine d47 ?_|intro v)
  exact Qq.mk (k+1) qo qo
 ·obtain rfl:k=l.length:=qo;repeat'(first|intro(g:Nat)|refine d47 ?_|intro v)
  refine WC.ret ?_;exact Fin.v (Qh.t1 rfl rfl) meA rfl
def check_c(lv tv pv:Value)(n:Nat)(bm:Nat->BM)(B:Nat->Bd)(t:List Tc)(P:List (List Tc))(tm:Nat->ToM)(pm:Nat->Value×(Nat->ToM))(most:Int)(K:Nat)(hn:n<=5)(ht:t.length<=10)(hP8:P.length<=8)(hP:∀p∈P,p.length<=100)(hm0:0<=most)(hm8:most<=8)(h0K:0<K)(hK:K<=3)
  (hS:∀s∈Fx.QX t P most,(scP n B t P s).ok/\Ss K (scP n B t P s)) (hY:∀s∈Fx.QX t P most,(6*n+6*(scP n B t P s).m+n)*(yB (scP n B t P s)+22)+yB (scP n B t P s)+30<=400000000/\(Bl.lp (scP n B t P s) ((scP n B t P s).wt 0)).m<=1000)
  (sv cv fv:Value) (fm:Nat->Value×(Nat->QM)) (fx:Nat->Nat×Nat×(Nat->Rat)) (i:Nat) (cm:Nat->Value×(Nat->VM)) (xs:Nat->Nat->Rat) (hi:i<(Fx.QX t P most).length) (hf:∀j,j<i->Kh (scP n B t P (sl (Fx.QX t P most) j)) (fx j))
  (hx:∀c,c<2^n->X.K3 (Bl.lp (scP n B t P (sl (Fx.QX t P most) i)) ((scP n B t P (sl (Fx.QX t P most) i)).wt c)) (xs c)/\∀k,k<4*(scP n B t P (sl (Fx.QX t P most) i)).m->Sq RA (xs c k)) :
  FnB Tryz.prog 23 [lv,tv,pv,.int .i64 most,.agg #[sv,cv,fv]] [] [lF XU lv n bm B,lF Qo tv t.length tm (tl t),lF tlS pv P.length pm (pl P),sI sv (sl (Fx.QX t P most) i),lF plS cv (2^n) cm (λc=>psh (2*(scP n B t P (sl (Fx.QX t P most) i)).m) (xs c)),lF X6 fv i fm fx] (IsV (.int .i64 0)):=by
 refine fO [(0,lv),(1,tv),(2,pv),(3,(.int .i64 most)),(4,(.agg #[sv,cv,fv]))] 89 Tryz.func23 Tryz.ntmps23 λh0=>?_;have hcl:(Fx.QX t P most).length<=900:=Nat.le_trans (List.length_filter_le _ _) (Fx.Uu _ _);repeat'(first|intro(g:Nat)|refine d23 ?_|intro v)
 revert g;intro g9;refine cK (ZV tv pv t P tm pm lv n bm B most hn ht hP8 hP hm0 hm8) ?_;rintro _ _ _ ⟨r,sm,rfl,rfl,rfl⟩;refine sNn ?_;repeat'(first|intro(g:Nat)|refine d23 ?_|intro v)
 refine WC.Xd (σ:=Unit) (λ_=>[(11,r),(13,.int .i64 (i:Int)),(9,ptr g9),(0,lv),(1,tv),(2,pv),(10,.int .i64 0)]) (λ_=>[Ow.cells g9 42 [sv,cv,fv]]) (λ_=>[ge h0,lF XU lv n bm B,lF Qo tv t.length tm (tl t),lF tlS pv P.length pm (pl P),sI sv (sl (Fx.QX t P most) i),lF plS cv (2^n) cm (λc=>psh (2*(scP n B t P (sl (Fx.QX t P most) i)).m) (xs c)),lF X6 fv i fm fx,lF Qn r (Fx.QX t P most).length sm (sl (Fx.QX t P most))]) (λ_=>True) ?_ ?_
 ·refine WC.lp (σ:=Nat) (λj=>[(37,.int .i64 (j:Int)),(36,.int .i64 (i:Int)),(35,fv),(11,r),(13,.int .i64 (i:Int)),(9,ptr g9),(0,lv),(1,tv),(2,pv),(10,.int .i64 0)]) (λ_=>[Ow.cells g9 42 [sv,cv,fv]]) (λ_=>[ge h0,lF XU lv n bm B,lF Qo tv t.length tm (tl t),lF tlS pv P.length pm (pl P),sI sv (sl (Fx.QX t P most) i),lF plS cv (2^n) cm (λc=>psh (2*(scP n B t P (sl (Fx.QX t P most) i)).m) (xs c)),lF X6 fv i fm fx,lF Qn r (Fx.QX t P most).length sm (sl (Fx.QX t P most))]) (λj=>j<=i) (λj=>i-j) 0 (Nat.zero_le _) ?_;rintro j hj;by_cases d:j<i
  ·have hmem:=Gv (show j<(Fx.QX t P most).length by omega);obtain⟨hok,hsz⟩:=hS _ hmem;obtain⟨hy1,hy2⟩:=hY _ hmem;obtain⟨f1,f2,f3,f4⟩:=hf j d;have hst:=Hr hP8 hmem;refine WC.fact (sI (sm j) (sl (Fx.QX t P most) j)) (W.Has.lk (S:=Qn) (v:=r) (ms:=sm) (xs:=sl (Fx.QX t P most)) hmA qo) ?_;refine WC.fact (fF (fm j).1 (fx j).2.1 (fm j).2 (fx j).2.2) (W.Has.lk (S:=X6) (v:=fv) (ms:=fm) (xs:=fx) hmA d) ?_;repeat'(first|intro(g:Nat)|refine d23 ?_|intro v)
   refine cK (Uy tv pv (sm j) t P (sl (Fx.QX t P most) j) tm pm qo hP qo hst.2 qo) ?_;rintro v49 _ _ ⟨tm2,rfl,rfl⟩;refine sNn ?_;repeat'(first|intro(g:Nat)|refine d23 ?_|intro v)
   refine cK (falls_c ⟨lv,v49,bm,tm2⟩ (scP n B t P (sl (Fx.QX t P most) j)) (fx j).1 (fx j).2.1 (fm j).1 (fm j).2 (fx j).2.2 K (yB (scP n B t P (sl (Fx.QX t P most) j))) f1 h0K hK hsz hok (by rw[f2];exact hy2) f4 hy1) ?_;rintro _ _ _ ⟨z,rfl,hz1,hz2,rfl,rfl⟩;obtain rfl:z=0:=hz2.2 ⟨f2,f3⟩;refine sNn ?_;repeat'(first|intro(g:Nat)|refine d23 ?_|intro v)
   exact Qq.mk (j+1) qo qo
  ·obtain rfl:j=i:=qo;repeat'(first|intro(g:Nat)|refine d23 ?_|intro v)
   exact QG () trivial
 rintro⟨⟩ _;have hmem:=Gv hi;obtain⟨hok,hsz⟩:=hS _ hmem;have hst:=Hr hP8 hmem;refine WC.fact (sI (sm i) (sl (Fx.QX t P most) i)) (W.Has.lk (S:=Qn) (v:=r) (ms:=sm) (xs:=sl (Fx.QX t P most)) hmA hi) ?_;repeat'(first|intro(g:Nat)|refine d23 ?_|intro v)
 refine cV (equalI_c sv (sm i) (sl (Fx.QX t P most) i) qo) ?_;repeat'(first|intro(g:Nat)|refine d23 ?_|intro v)
 refine cK (Uy tv pv (sm i) t P (sl (Fx.QX t P most) i) tm pm qo hP qo hst.2 qo) ?_;rintro v83 _ _ ⟨tm2,rfl,rfl⟩;refine sNn ?_;repeat'(first|intro(g:Nat)|refine d23 ?_|intro v)
 have h32:2^n<=2^5:=Nat.pow_le_pow_right qd hn;refine cK (holds_c ⟨lv,v83,bm,tm2⟩ (scP n B t P (sl (Fx.QX t P most) i)) cv (2^n) cm (λc=>(psh (2*(scP n B t P (sl (Fx.QX t P most) i)).m) (xs c)).2) K RA h0K qo qd qo hsz hok (λc hc k hk=>⟨(hx c hc).2 (2*k) qo,(hx c hc).2 (2*k+1) qo⟩)) ?_;rintro _ _ _ ⟨z,rfl,hz1,hz2,rfl,rfl⟩;obtain rfl:z=0:=hz2.2 ⟨rfl,λc hc=>Bl.U1.1 (hx c hc).1⟩;refine sNn ?_;repeat'(first|intro(g:Nat)|refine d23 ?_|intro v)
 refine WC.ret ?_;exact Fin.v (Qh.t1 rfl rfl) meA rfl
end Y
end Q
end K
end
end Go.Proofs.YtbnobghgnbockaaGreat
