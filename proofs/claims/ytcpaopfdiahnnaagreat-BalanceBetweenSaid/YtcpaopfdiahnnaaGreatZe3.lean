/- Lemmas for a law. Conditions: none. -/
import Derived.Test.YtcpaopfdiahnnaaGreatZe2
import Derived.Test.YtcpaopfdiahnnaaGreatZb37
import Derived.Test.YtcpaopfdiahnnaaGreatZb1
set_option linter.all false
set_option maxHeartbeats 32000000
set_option maxRecDepth 100000
namespace Go.Proofs.YtcpaopfdiahnnaaGreat
section
open W Go.RowKit
open Bl (Vc Bd Tc Sc)
section
variable {e:Env} {bx bx':List Ow} {F:List Fct} {ty t el:TypeId} {x y:Operand} {v:Value} {n k:Nat} {K:Qd}
def LO.storeBlo {m:QM} {q:Rat} {ms:Nat->BM} {xs:Nat->Bd} {a:Nat} (hx:ev e x=some (.pointer (some (eaddr v a)))) (ha:a=k*20+8) (hy:ev e y=some (qv m)) (hr:Row Tryz.prog t 4) (hq:Has F (isQ (qv m) q)) (hs:Sel bx (lO Qm v el n ms xs) (lO Qm v el n (upd ms k ⟨(ms k).c,m,(ms k).hi,(ms k).st⟩) xs) bx') (hk:k < n) (h:K undef bx' F):LO Tryz.prog (.store t x y) ty e bx F K:=
 LO.storeOP (S:=Qm) (o:=8) (vs:=qcs m) (k:=k) (mm:=⟨(ms k).c,m,(ms k).hi,(ms k).st⟩) (aa:=xs k) (ha ▸ hx) hy hr (Yr hq) (show Sel bx (lO Qm v el n ms xs) (lO Qm v el n (upd ms k ⟨(ms k).c,m,(ms k).hi,(ms k).st⟩) (upd xs k (xs k))) bx' from hs) hk (by show 0 < 4;decide) (by show 8+4<=20;decide) (λi hi=>by
  have hi:i < 20:=hi;show(bcs _)[i]?=if 8<=i∧i < 8+4 then(qcs m)[i - 8]? else(bcs (ms k))[i]?;by_cases c:8<=i∧i < 8+4
  ·rw[if_pos c];have:i=8∨i=9∨i=10∨i=11:=qo;rcases this with rfl|rfl|rfl|rfl <;> rfl
  ·rw[if_neg c];exact match i,hi,c with
   |0,_,_=>rfl|1,_,_=>rfl|2,_,_=>rfl|3,_,_=>rfl|4,_,_=>rfl|5,_,_=>rfl|6,_,_=>rfl|7,_,_=>rfl|8,_,c=>absurd ⟨by decide,by decide⟩ c|9,_,c=>absurd ⟨by decide,by decide⟩ c|10,_,c=>absurd ⟨by decide,by decide⟩ c|11,_,c=>absurd ⟨by decide,by decide⟩ c|12,_,_=>rfl|13,_,_=>rfl|14,_,_=>rfl|15,_,_=>rfl|16,_,_=>rfl|17,_,_=>rfl|18,_,_=>rfl|19,_,_=>rfl|j+20,hi,_=>absurd hi qo) h
def LO.storeBhi {m:QM} {q:Rat} {ms:Nat->BM} {xs:Nat->Bd} {a:Nat} (hx:ev e x=some (.pointer (some (eaddr v a)))) (ha:a=k*20+12) (hy:ev e y=some (qv m)) (hr:Row Tryz.prog t 4) (hq:Has F (isQ (qv m) q)) (hs:Sel bx (lO Qm v el n ms xs) (lO Qm v el n (upd ms k ⟨(ms k).c,(ms k).lo,m,(ms k).st⟩) xs) bx') (hk:k < n) (h:K undef bx' F):LO Tryz.prog (.store t x y) ty e bx F K:=
 LO.storeOP (S:=Qm) (o:=12) (vs:=qcs m) (k:=k) (mm:=⟨(ms k).c,(ms k).lo,m,(ms k).st⟩) (aa:=xs k) (ha ▸ hx) hy hr (Yr hq) (show Sel bx (lO Qm v el n ms xs) (lO Qm v el n (upd ms k ⟨(ms k).c,(ms k).lo,m,(ms k).st⟩) (upd xs k (xs k))) bx' from hs) hk (by show 0 < 4;decide) (by show 12+4<=20;decide) (λi hi=>by
  have hi:i < 20:=hi;show(bcs _)[i]?=if 12<=i∧i < 12+4 then(qcs m)[i - 12]? else(bcs (ms k))[i]?;by_cases c:12<=i∧i < 12+4
  ·rw[if_pos c];have:i=12∨i=13∨i=14∨i=15:=qo;rcases this with rfl|rfl|rfl|rfl <;> rfl
  ·rw[if_neg c];exact match i,hi,c with
   |0,_,_=>rfl|1,_,_=>rfl|2,_,_=>rfl|3,_,_=>rfl|4,_,_=>rfl|5,_,_=>rfl|6,_,_=>rfl|7,_,_=>rfl|8,_,_=>rfl|9,_,_=>rfl|10,_,_=>rfl|11,_,_=>rfl|12,_,c=>absurd ⟨by decide,by decide⟩ c|13,_,c=>absurd ⟨by decide,by decide⟩ c|14,_,c=>absurd ⟨by decide,by decide⟩ c|15,_,c=>absurd ⟨by decide,by decide⟩ c|16,_,_=>rfl|17,_,_=>rfl|18,_,_=>rfl|19,_,_=>rfl|j+20,hi,_=>absurd hi qo) h
end
namespace K
namespace Q
namespace R
attribute [local irreducible] WC WL WD YO LO Qq W.Fin Qw Qu Qj Row QQ Qy KnS Has W.One Ql Qr
def shares_c (mv:Value) (m:List Int) (n:Nat) (h1:0 < n) (hn:n<=32) (hm:∀ x∈m,I64 x):FnB Tryz.prog 43 [.int .i64 (n:Int),mv] [] [sI mv m] (IsF n (shr m n)):=by
 refine fO [(0,(.int .i64 (n:Int))),(1,mv)] 42 Tryz.func43 Tryz.ntmps43 λh0=>?_;repeat'(first|intro(g:Nat)|refine gP ?_|intro v)
 refine WC.Xf (σ:=Unit) (λ_=>[(5,.int .i64 (shS m n)),(0,.int .i64 (n:Int)),(1,mv)]) (λ_=>[]) (λ_=>[ge h0,sI mv m]) (λ_=>True) ?_ ?_
 ·refine WC.lp (σ:=Nat) (λk=>[(6,.int .i64 (k:Int)),(5,.int .i64 (shS m k)),(0,.int .i64 (n:Int)),(1,mv)]) (λ_=>[]) (λ_=>[ge h0,sI mv m]) (λk=>k<=n) (λk=>n - k) 0 (Nat.zero_le _) ?_;intro k hk;have hs:=shS_le m k;have ha:=at5 m (k:Int);by_cases c:k < n
  ·repeat'(first|intro(g:Nat)|refine gP ?_|intro v)
   refine cV (Z7 mv m (k:Int) 5 hm qd) ?_;repeat'(first|intro(g:Nat)|refine gP ?_|intro v)
   exact Qq.mk (k+1) qo qo
  ·obtain rfl:k=n:=qo;repeat'(first|intro(g:Nat)|refine gP ?_|intro v)
   exact QZ () trivial
 ·rintro⟨⟩ _;have hs:=shS_le m n;have hd:=shD_pos m h1;repeat'(first|intro(g:Nat)|refine gP ?_|intro v)
  revert v;intro ov;refine WC.lp (σ:=Nat×(Nat->QM)) (λst=>[(8,.int .i64 (st.1:Int)),(7,ov),(5,.int .i64 (shS m n)),(0,.int .i64 (n:Int)),(1,mv)]) (λst=>[Ow.slice ov 64 4 (Qe n st.2)]) (λst=>[mF n st.2 (λj=>if j < st.1 then shr m n j else 0),ge h0,sI mv m]) (λst=>st.1<=n) (λst=>n - st.1) (0,λ_=>m00) (Nat.zero_le _) ?_ (hG:=.cons (W.Has.QW (W.Has.mF0 _) λj _=>rfl) haA);rintro⟨k,ms⟩ hk;simp only at hk ⊢;have ha:=at5 m (k:Int);by_cases c:k < n
  ·have hst:∀ (z:Rat),z=shr m n k->∀ j,j < n->upd (λj=>if j < k then shr m n j else 0) k z j=if j < k+1 then shr m n j else 0:=λz hz j _=>by
    unfold upd;by_cases e:j=k
    ·subst e;rw[if_pos rfl,if_pos qo,hz]
    ·rw[if_neg e];simp only;by_cases e2:j < k
     ·rw[if_pos e2,if_pos qo]
     ·rw[if_neg e2,if_neg qo]
   by_cases s0:shS m n=0
   ·have hz:Rat.divInt 1 n=shr m n k:=by unfold shr shA shD;rw[if_pos s0,if_pos s0]
    repeat'(first|intro(g:Nat)|refine gP ?_|intro v)
    refine cW (Zn.rof 1 (n:Int) qd (by show(n:Int).natAbs < 1000000000000000000;omega)) λq1=>?_;repeat'(first|intro(g:Nat)|refine gP ?_|intro v)
    exact Qq.mk (k+1,upd ms k q1) (by simp only;omega) (by simp only;omega) (hG:=.cons (W.Has.QW (W.Has.J3 hmA hmA) (hst _ hz)) haA)
   ·have hz:Rat.divInt (atP m (k:Int) 5) (shS m n)=shr m n k:=by unfold shr shA shD;rw[if_neg s0,if_neg s0]
    repeat'(first|intro(g:Nat)|refine gP ?_|intro v)
    refine cV (Z7 mv m (k:Int) 5 hm qd) ?_;repeat'(first|intro(g:Nat)|refine gP ?_|intro v)
    refine cW (Zn.rof (atP m (k:Int) 5) (shS m n) (by show(atP m (k:Int) 5).natAbs < 1000000000000000000;omega) (by show(shS m n).natAbs < 1000000000000000000;omega)) λq1=>?_;repeat'(first|intro(g:Nat)|refine gP ?_|intro v)
    exact Qq.mk (k+1,upd ms k q1) (by simp only;omega) (by simp only;omega) (hG:=.cons (W.Has.QW (W.Has.J3 hmA hmA) (hst _ hz)) haA)
  ·obtain rfl:k=n:=qo;repeat'(first|intro(g:Nat)|refine gP ?_|intro v)
   refine WC.Jh ov k ms (shr m k) (by repeat(first|exact Sel.head|apply Sel.tail)) (W.Has.QW hmA λj hj=>if_pos hj) ?_;refine WC.ret ?_;exact Fp [fF ov k ms (shr m k)] (Qv.t1 rfl rfl) haA ⟨ms,rfl,rfl⟩
namespace F
def goE {G G':Prop} (h:G') (s:Bx G'->G:=by
 intro h
 (first|(apply WL.Jz;rotate_left;exact rfl;(first|(apply LO.storeBlo;exact rfl;(with_reducible exact rfl);exact rfl;exact T.r64;exact hmA;exact seA;omega)|(apply LO.storeBhi;exact rfl;(with_reducible exact rfl);exact rfl;exact T.r64;exact hmA;exact seA;omega)|fail))|refine Go.Proofs.YtcpaopfdiahnnaaGreat.K.Q.goE ?_|fail)
 exact Bx.h h):G:=s ⟨h⟩
def fixed_c (M:SM) (S:Sc) (wv:Value) (mw:Nat->QM) (w:Nat->Rat) (hn:S.n<=1000):FnB Tryz.prog 28 [M.l,wv] [] [fSl M S,fF wv S.n mw w] (λv B G=>∃ ms:Nat->BM,B=[]∧G=[lF Qm v S.n ms (Bl.fixS w S).B]):=by
 refine fO [(0,M.l),(1,wv)] 39 Tryz.func28 Tryz.ntmps28 λh0=>?_;repeat'(first|intro(g:Nat)|refine gP ?_|intro v)
 revert v;intro ov;show WC _ _ _ _ [lO Qm ov 88 S.n M.B (Bl.fixS w S).B] _ _;refine WC.lp (σ:=Nat×(Nat->BM)) (λst=>[(6,.int .i64 (st.1:Int)),(5,ov),(1,wv)]) (λst=>[lO Qm ov 88 S.n st.2 (Bl.fixS w S).B]) (λst=>[lM Qm st.1 st.2 (Bl.fixS w S).B,ge h0,fSl M S,fF wv S.n mw w]) (λst=>st.1<=S.n∧∀ j,st.1<=j->st.2 j=M.B j) (λst=>S.n - st.1) (0,M.B) ⟨Nat.zero_le _,λ_ _=>rfl⟩ ?_ (hG:=.cons W.Has.Gk haA);rintro⟨i,ms⟩ ⟨hi,hms⟩;simp only at hi hms ⊢;by_cases c:i < S.n
 ·refine WC.fact (fB (M.B i) (S.B i)) (W.Has.lk (S:=Qm) (v:=M.l) hmA c) ?_;refine WC.fact (fV (M.B i).c (S.B i).c) (W.Has.bc (bm:=M.B i) hmA) ?_;refine WC.fact (isQ (qv (M.B i).st) (S.B i).st) (W.Has.bs (bm:=M.B i) hmA) ?_;refine WC.fact (isQ (qv (mw i)) (w i)) (W.Has.q (W.Has.fm (v:=wv) (n:=S.n) (ms:=mw) (qf:=w) hmA) c) ?_;refine WC.fact (fB ⟨(M.B i).c,mw i,mw i,(M.B i).st⟩ ((Bl.fixS w S).B i)) (W.Has.bof (bm:=⟨(M.B i).c,mw i,mw i,(M.B i).st⟩) (b:=(Bl.fixS w S).B i) hmA hmA hmA hmA) ?_
  have e2:upd (upd ms i ⟨(ms i).c,mw i,(ms i).hi,(ms i).st⟩) i ⟨((upd ms i ⟨(ms i).c,mw i,(ms i).hi,(ms i).st⟩) i).c,((upd ms i ⟨(ms i).c,mw i,(ms i).hi,(ms i).st⟩) i).lo,mw i,((upd ms i ⟨(ms i).c,mw i,(ms i).hi,(ms i).st⟩) i).st⟩=upd ms i ⟨(M.B i).c,mw i,mw i,(M.B i).st⟩:=by
   funext j
   by_cases e:j=i
   ·subst e;rw[QJ,QJ,QJ,hms j (Nat.le_refl _)]
   ·rw[upd_ne e,upd_ne e,upd_ne e]
  repeat'(first|intro(g:Nat)|refine gP ?_|intro v)
  rw[e2];exact Qq.mk (i+1,upd ms i ⟨(M.B i).c,mw i,mw i,(M.B i).st⟩) ⟨by simp only;omega,λj hj=>by simp only at hj ⊢;rw[upd_ne qo,hms j qo]⟩ (by simp only;omega) (hG:=.cons (W.Has.Yg (S:=Qm) (n:=i) (ms:=ms) (xs:=(Bl.fixS w S).B) (mm:=⟨(M.B i).c,mw i,mw i,(M.B i).st⟩) hmA hmA) haA)
 ·obtain rfl:i=S.n:=qo;repeat'(first|intro(g:Nat)|refine gP ?_|intro v)
  refine WC.QB (S:=Qm) (n:=S.n) (ms:=ms) (xs:=(Bl.fixS w S).B) (by repeat(first|exact Sel.head|apply Sel.tail)) hmA ?_;refine WC.ret ?_;exact Fp [lF Qm ov S.n ms (Bl.fixS w S).B] (Qv.t1 rfl rfl) haA ⟨ms,rfl,rfl⟩
end F
end R
end Q
end K
end
section
open W Go.RowKit
open Bl (Vc Bd Tc Sc)
section
variable {e:Env} {bx bx':List Ow} {F:List Fct} {ty t el:TypeId} {x y:Operand} {v:Value} {n k:Nat} {K:Qd}
def LO.storeVx {m:QM} {q:Rat} {ms:Nat->VM} {xs:Nat->Vc} {a:Nat} (hx:ev e x=some (.pointer (some (eaddr v a)))) (ha:a=k*8+0) (hy:ev e y=some (qv m)) (hr:Row Tryz.prog t 4) (hq:Has F (isQ (qv m) q)) (hs:Sel bx (lO QD v el n ms xs) (lO QD v el n (upd ms k (m,(ms k).2)) xs) bx') (hk:k < n) (h:K undef bx' F):LO Tryz.prog (.store t x y) ty e bx F K:=
 LO.storeOP (S:=QD) (o:=0) (vs:=qcs m) (k:=k) (mm:=(m,(ms k).2)) (aa:=xs k) (ha ▸ hx) hy hr (Yr hq) (show Sel bx (lO QD v el n ms xs) (lO QD v el n (upd ms k (m,(ms k).2)) (upd xs k (xs k))) bx' from hs) hk (by show 0 < 4;decide) (by show 0+4<=8;decide) (λi hi=>by
  have hi:i < 8:=hi;show(vcs _)[i]?=if 0<=i∧i < 0+4 then(qcs m)[i - 0]? else(vcs (ms k))[i]?;by_cases c:0<=i∧i < 0+4
  ·rw[if_pos c];have:i=0∨i=1∨i=2∨i=3:=qo;rcases this with rfl|rfl|rfl|rfl <;> rfl
  ·rw[if_neg c];exact match i,hi,c with
   |0,_,c=>absurd ⟨by decide,by decide⟩ c|1,_,c=>absurd ⟨by decide,by decide⟩ c|2,_,c=>absurd ⟨by decide,by decide⟩ c|3,_,c=>absurd ⟨by decide,by decide⟩ c|4,_,_=>rfl|5,_,_=>rfl|6,_,_=>rfl|7,_,_=>rfl|j+8,hi,_=>absurd hi qo) h
def LO.storeVy {m:QM} {q:Rat} {ms:Nat->VM} {xs:Nat->Vc} {a:Nat} (hx:ev e x=some (.pointer (some (eaddr v a)))) (ha:a=k*8+4) (hy:ev e y=some (qv m)) (hr:Row Tryz.prog t 4) (hq:Has F (isQ (qv m) q)) (hs:Sel bx (lO QD v el n ms xs) (lO QD v el n (upd ms k ((ms k).1,m)) xs) bx') (hk:k < n) (h:K undef bx' F):LO Tryz.prog (.store t x y) ty e bx F K:=
 LO.storeOP (S:=QD) (o:=4) (vs:=qcs m) (k:=k) (mm:=((ms k).1,m)) (aa:=xs k) (ha ▸ hx) hy hr (Yr hq) (show Sel bx (lO QD v el n ms xs) (lO QD v el n (upd ms k ((ms k).1,m)) (upd xs k (xs k))) bx' from hs) hk (by show 0 < 4;decide) (by show 4+4<=8;decide) (λi hi=>by
  have hi:i < 8:=hi;show(vcs _)[i]?=if 4<=i∧i < 4+4 then(qcs m)[i - 4]? else(vcs (ms k))[i]?;by_cases c:4<=i∧i < 4+4
  ·rw[if_pos c];have:i=4∨i=5∨i=6∨i=7:=qo;rcases this with rfl|rfl|rfl|rfl <;> rfl
  ·rw[if_neg c];exact match i,hi,c with
   |0,_,_=>rfl|1,_,_=>rfl|2,_,_=>rfl|3,_,_=>rfl|4,_,c=>absurd ⟨by decide,by decide⟩ c|5,_,c=>absurd ⟨by decide,by decide⟩ c|6,_,c=>absurd ⟨by decide,by decide⟩ c|7,_,c=>absurd ⟨by decide,by decide⟩ c|j+8,hi,_=>absurd hi qo) h
end
def mixP (N:Nat) (sh:Nat->Rat) (xs:Nat->Nat->Rat) (k:Nat):Vc:=⟨X.sm N λc=>sh c*xs c (2*k),X.sm N λc=>sh c*xs c (2*k+1)⟩
def IsMix (L N:Nat) (sh:Nat->Rat) (xs:Nat->Nat->Rat):Qd:=λv B G=>∃ (pv:Value) (mp:Nat->VM),v=.tuple #[pv,.int .i64 0]∧B=[]∧G=[lF QD pv L mp (mixP N sh xs)]
def mixP_sz {N i k Kx:Nat} {sh:Nat->Rat} {xs:Nat->Nat->Rat} (hs:∀ c,c < N->Sq 1 (sh c)) (hx:∀ c,c < N->Sq Kx (xs c (2*k))∧Sq Kx (xs c (2*k+1))) (hi:i<=N):Sv (N*(Kx+4)+1) (mixP i sh xs k):=by
 have h1:=X.XC (m:=i) (f:=λc=>sh c*xs c (2*k)) (k:=Kx+3) λc hc=>((hs c qo).mul (hx c qo).1).up qo;have h2:=X.XC (m:=i) (f:=λc=>sh c*xs c (2*k+1)) (k:=Kx+3) λc hc=>((hs c qo).mul (hx c qo).2).up qo;have h3:i*(Kx+3+1)<=N*(Kx+4):=Nat.mul_le_mul_right _ hi;exact⟨h1.up qo,h2.up qo⟩
def W.Has.mP0 {F:List Fct} {L:Nat} {sh:Nat->Rat} {xs:Nat->Nat->Rat}:Has F (lM QD L (λ_=>(m00,m00)) (mixP 0 sh xs)):=λp hf j hj=>hasV0 p hf
def W.Has.mPk {F:List Fct} {L k:Nat} {mk:Nat->VM} {A B:Nat->Vc} (h:Has F (lM QD L mk (λj=>if j < k then A j else B j))) (hk:k < L):Has F (fV (mk k) (B k)):=λp hf=>by
 have h2:=h p hf k hk;simp only[Nat.lt_irrefl,if_false] at h2;exact h2
def W.Has.mPL {F:List Fct} {L:Nat} {mk:Nat->VM} {A B:Nat->Vc} (h:Has F (lM QD L mk (λj=>if j < L then A j else B j))):Has F (lM QD L mk A):=λp hf j hj=>by
 have h2:=h p hf j hj;simp only[hj,if_true] at h2;exact h2
def W.Has.mPs {F:List Fct} {L k:Nat} {mk:Nat->VM} {A B:Nat->Vc} {mm:VM} (h:Has F (lM QD L mk (λj=>if j < k then A j else B j))) (hm:Has F (fV mm (A k))):Has F (lM QD L (upd mk k mm) (λj=>if j < k+1 then A j else B j)):=λp hf j hj=>by
 by_cases e:j=k
 ·subst e;show(fV (upd mk j mm j) (if j < j+1 then A j else B j)).p p;rw[QJ,if_pos qo];exact hm p hf
 ·have h2:=h p hf j hj;show(fV (upd mk k mm j) (if j < k+1 then A j else B j)).p p;rw[upd_ne e];have h3:(fV (mk j) (if j < k then A j else B j)).p p:=h2;by_cases c:j < k
  ·rw[if_pos c] at h3;rw[if_pos qo];exact h3
  ·rw[if_neg c] at h3;rw[if_neg qo];exact h3
namespace K
namespace Q
namespace R
namespace F
namespace M
attribute [local irreducible] WC WL WD YO LO Qq W.Fin Qw Qu Qj Row QQ Qy KnS Has W.One Ql Qr
def d45 {G G':Prop} (h:G') (s:Bx G'->G:=by
 intro h;first|refine gF ?_|(apply WC.draw (id:=14) [0,1,2,3,4,5,6,7,8,9,12,13] (.h 0<|.h 1<|.h 2<|.h 3<|.h 4<|.h 5<|.h 6<|.h 7<|.h 8<|.h 9<|.l 10<|.l 11<|.h 12<|.h 13<|.l 14 .done) mixed kr)|(apply WC.draw (id:=15) [0,1,2,3,4,5,6,7,8,9,12,13] (.h 0<|.h 1<|.h 2<|.h 3<|.h 4<|.h 5<|.h 6<|.h 7<|.h 8<|.h 9<|.l 10<|.l 11<|.h 12<|.h 13<|.l 14 .done) mixed kr)|fail
 exact Bx.h h):G:=s ⟨h⟩
def goE {G G':Prop} (h:G') (s:Bx G'->G:=by
 intro h
 (first|(apply WD.Jz;exact rfl;rotate_left;exact rfl;(first|(apply LO.storeVx;exact rfl;(with_reducible exact rfl);exact rfl;exact T.r64;exact hmA;exact seA;omega)|(apply LO.storeVy;exact rfl;(with_reducible exact rfl);exact rfl;exact T.r64;exact hmA;exact seA;omega)|fail);constructor;exact(by(first|(focus(apply Or.inr;constructor;(repeat(first|exact List.Sublist.refl _|exact List.nil_sublist _|apply List.Sublist.cons_cons|apply List.Sublist.cons));(first|exact λ_ h=>h|(intro f hf;(repeat(first|exact hf|apply List.Mem.tail))));done))|(apply Or.inl;kernel_rfl))))|refine Go.Proofs.YtcpaopfdiahnnaaGreat.K.Q.goE ?_|fail)
 exact Bx.h h):G:=s ⟨h⟩
def mix_c (cv shv:Value) (L N Kx:Nat) (ms:Nat->Value×(Nat->VM)) (xs:Nat->Nat->Rat) (msh:Nat->QM) (sh:Nat->Rat) (hN:0 < N) (hN2:N<=32) (hL:L<=20) (hKx:Kx<=400000) (hs:∀ c,c < N->Sq 1 (sh c)∧0<=sh c) (hx:∀ c,c < N->∀ j,j < 2*L->Sq Kx (xs c j)) :
  FnB Tryz.prog 45 [.agg #[cv],shv] [] [lF plS cv N ms (λc=>psh L (xs c)),fF shv N msh sh] (IsMix L N sh xs):=by
 refine fO [(0,(.agg #[cv])),(1,shv)] 94 Tryz.func45 Tryz.ntmps45 λh0=>?_;refine WC.fact (lF QD (ms 0).1 L (ms 0).2 (psh L (xs 0)).2) (W.Has.lk (S:=plS) (v:=cv) (n:=N) (ms:=ms) (xs:=λc=>psh L (xs c)) hmA hN) ?_;repeat'(first|intro(g:Nat)|refine d45 ?_|intro v)
 revert v;intro ov;revert g;intro g2;refine WC.keep (g:=g2) (t:=48) (cs:=[cv]) (by repeat(first|exact Rem.head|apply Rem.tail)) ?_;refine WC.lp (σ:=Nat×(Nat->VM)) (λst=>[(28,.int .i64 (st.1:Int)),(27,.int .i64 (N:Int)),(26,shv),(6,ov),(2,ptr g2),(1,shv)]) (λst=>[lO QD ov 83 L st.2 (λ_=>⟨0,0⟩)]) (λst=>[lM QD L st.2 (mixP st.1 sh xs),ce g2 48 [cv],ge h0,lF plS cv N ms (λc=>psh L (xs c)),fF shv N msh sh]) (λst=>st.1<=N) (λst=>N - st.1) (0,λ_=>(m00,m00)) (Nat.zero_le _) ?_ (hG:=.cons W.Has.mP0 haA);rintro⟨i,mo⟩ hi;simp only at hi ⊢;by_cases c:i < N
 ·refine WC.fact (lF QD (ms i).1 L (ms i).2 (psh L (xs i)).2) (W.Has.lk (S:=plS) (v:=cv) (n:=N) (ms:=ms) (xs:=λc=>psh L (xs c)) hmA c) ?_;refine WC.fact (isQ (qv (msh i)) (sh i)) (W.Has.q (W.Has.fm (v:=shv) (n:=N) (ms:=msh) (qf:=sh) hmA) c) ?_;have hsg:¬sgn (sh i).num < 0:=λh=>Rat.not_lt.2 (hs i c).2 (JB.1 h);have hxi:∀ j,j < L->Sv Kx ((psh L (xs i)).2 j):=λj hj=>⟨hx i c _ qo,hx i c _ qo⟩
  repeat'(first|intro(g:Nat)|refine d45 ?_|intro v)
  revert g;intro g8;refine cV (Xa (msh i) (sh i) ((hs i c).1.sm qo)) ?_;repeat'(first|intro(g:Nat)|refine d45 ?_|intro v)
  refine cV (Zn.sign (msh i) (sh i)) ?_;repeat'(first|intro(g:Nat)|refine d45 ?_|intro v)
  refine cV (Ub (ms i).1 L (ms i).2 (psh L (xs i)).2 Kx qo qo hxi) ?_;repeat'(first|intro(g:Nat)|refine d45 ?_|intro v)
  refine WC.keep (g:=g8) (t:=64) (cs:=qcs (msh i)) (by repeat(first|exact Rem.head|apply Rem.tail)) ?_;refine WC.lp (σ:=Nat×(Nat->VM)) (λst=>[(58,.int .i64 (st.1:Int)),(57,.int .i64 (L:Int)),(56,(ms i).1),(8,ptr g8),(28,.int .i64 (i:Int)),(27,.int .i64 (N:Int)),(26,shv),(6,ov),(2,ptr g2),(1,shv)]) (λst=>[lO QD ov 83 L st.2 (λ_=>⟨0,0⟩)]) (λst=>[lM QD L st.2 (λj=>if j < st.1 then mixP (i+1) sh xs j else mixP i sh xs j),ce g8 64 (qcs (msh i)),isQ (qv (msh i)) (sh i),lF QD (ms i).1 L (ms i).2 (psh L (xs i)).2,ce g2 48 [cv],ge h0,lF plS cv N ms (λc=>psh L (xs c)),fF shv N msh sh]) (λst=>st.1<=L) (λst=>L - st.1) (0,mo) (Nat.zero_le _) ?_ (hG:=.cons (show W.Has _ (lM QD L mo (λj=>if j < 0 then mixP (i+1) sh xs j else mixP i sh xs j)) from hmA) haA);rintro⟨k,mk⟩ hk;simp only at hk ⊢;by_cases d:k < L
  ·refine WC.fact (fV (mk k) (mixP i sh xs k)) (W.Has.mPk (L:=L) (k:=k) (mk:=mk) (A:=mixP (i+1) sh xs) (B:=mixP i sh xs) hmA d) ?_;refine WC.fact (isQ (qv (mk k).1) (mixP i sh xs k).x) (W.Has.vx (m:=mk k) hmA) ?_;refine WC.fact (isQ (qv (mk k).2) (mixP i sh xs k).y) (W.Has.vy (m:=mk k) hmA) ?_;refine WC.fact (fV ((ms i).2 k) ((psh L (xs i)).2 k)) (W.Has.lk (S:=QD) (v:=(ms i).1) hmA d) ?_;refine WC.fact (isQ (qv ((ms i).2 k).1) (xs i (2*k))) (W.Has.vx (m:=(ms i).2 k) (a:=(psh L (xs i)).2 k) hmA) ?_;refine WC.fact (isQ (qv ((ms i).2 k).2) (xs i (2*k+1))) (W.Has.vy (m:=(ms i).2 k) (a:=(psh L (xs i)).2 k) hmA) ?_;have zs:=(hs i c).1;have z1:=hx i c (2*k) qo;have z2:=hx i c (2*k+1) qo;have zm:=mixP_sz (N:=N) (i:=i) (k:=k) (Kx:=Kx) (sh:=sh) (xs:=xs) (λc hc=>(hs c hc).1) (λc hc=>⟨hx c hc _ qo,hx c hc _ qo⟩) hi;have zN:N*(Kx+4)<=32*400004:=Nat.mul_le_mul hN2 qo;repeat'(first|intro(g:Nat)|refine d45 ?_|intro v)
   refine cW (Zn.mul (msh i) ((ms i).2 k).1 (sh i) (xs i (2*k)) (zs.sm qo) (z1.sm qo)) λn1=>?_;repeat'(first|intro(g:Nat)|refine d45 ?_|intro v)
   refine cW (Zn.add (mk k).1 n1 (mixP i sh xs k).x (sh i*xs i (2*k)) (zm.1.sm qo) ((zs.mul z1).sm qo)) λn2=>?_;repeat'(first|intro(g:Nat)|refine d45 ?_|intro v)
   refine cW (Zn.mul (msh i) ((ms i).2 k).2 (sh i) (xs i (2*k+1)) (zs.sm qo) (z2.sm qo)) λn3=>?_;refine WD.fact (isQ (qv (((upd mk k (n2,(mk k).2)) k).2)) (mixP i sh xs k).y) (by rw[QJ];exact hmA) ?_;repeat'(first|intro(g:Nat)|refine d45 ?_|intro v)
   refine cW (Zn.add (((upd mk k (n2,(mk k).2)) k).2) n3 (mixP i sh xs k).y (sh i*xs i (2*k+1)) (zm.2.sm qo) ((zs.mul z2).sm qo)) λn4=>?_
   have e2:upd (upd mk k (n2,(mk k).2)) k (((upd mk k (n2,(mk k).2)) k).1,n4)=upd mk k (n2,n4):=by
    funext j
    by_cases e:j=k
    ·subst e;rw[QJ,QJ,QJ]
    ·rw[upd_ne e,upd_ne e,upd_ne e]
   refine WD.fact (fV (n2,n4) (mixP (i+1) sh xs k)) (W.Has.vof (m:=(n2,n4)) (a:=mixP (i+1) sh xs k) (show W.Has _ (isQ (qv n2) ((mixP i sh xs k).x+sh i*xs i (2*k))) from hmA) (show W.Has _ (isQ (qv n4) ((mixP i sh xs k).y+sh i*xs i (2*k+1))) from hmA)) ?_;repeat'(first|intro(g:Nat)|refine d45 ?_|intro v)
   rw[e2];exact Qq.mk (k+1,upd mk k (n2,n4)) (by simp only;omega) (by simp only;omega) (hG:=.cons (W.Has.mPs (L:=L) (k:=k) (mk:=mk) (A:=mixP (i+1) sh xs) (B:=mixP i sh xs) hmA hmA) haA)
  ·obtain rfl:k=L:=qo;repeat'(first|intro(g:Nat)|refine d45 ?_|intro v)
   exact Qq.mk (i+1,mk) (by simp only;omega) (by simp only;omega) (hG:=.cons (W.Has.mPL (L:=k) (mk:=mk) (A:=mixP (i+1) sh xs) (B:=mixP i sh xs) hmA) haA)
 ·obtain rfl:i=N:=qo;repeat'(first|intro(g:Nat)|refine d45 ?_|intro v)
  refine WC.QB (S:=QD) (n:=L) (ms:=mo) (xs:=mixP i sh xs) (by repeat(first|exact Sel.head|apply Sel.tail)) hmA ?_;refine WC.ret ?_;exact Fp [lF QD ov L mo (mixP i sh xs)] (Qv.t2 rfl rfl rfl) haA ⟨ov,mo,rfl,rfl,rfl⟩
end M
end F
end R
end Q
end K
end
section
open W Go.RowKit
open Bl (Vc Bd Tc Sc)
def mixW_fs {S:Sc} {m:List Int} {N:Nat} (hfs:Bl.Fs 60 2400 S) (hN:0 < N) (hN8:N<=8):Ss 1 (Bl.fixS (mixW S N (shr m N)) S):=by
 obtain⟨d1,d2⟩:=shD_pos m hN;obtain⟨T,hT⟩:∃ T:Nat,shD m N=(T:Int):=⟨(shD m N).toNat,by omega⟩
 have hT1:0 < T:=qo;have hT2:T<=32:=qo
 have hs:∀ c,Fr T 4 (shr m N c):=λc=>by
  have ha:=shA_le m N c;unfold shr;rw[hT];exact Fr.of qo qo
 have hw:∀ i,i < S.n->Fr (T*60) 76800 (mixW S N (shr m N) i):=λi hi=>
  (fr_sum (n:=N) (D:=T*60) (A:=4*2400) λc _=>(hs c).mul (Bl.wt_fr hfs c hi)).up qo
 exact Fs.ss (Bl.fix_fs (hfs.sc' (c:=T) (E:=T*60) (B:=2400*32) qo qo) hw) qo qo qo
def mixW_sz {S:Sc} {s:Nat->Rat} {N k:Nat} (hss:Ss 1 S) (hs:∀ c,c < N->Sq 1 (s c)) (hk:k<=N) {i:Nat} (hi:i < S.n):Sq (N*5+1) (mixW S k s i):=by
 have h1:=X.XC (m:=k) (f:=λc=>s c*S.wt c i) (k:=4) λc hc=>((hs c qo).mul (HY hss c i hi)).up qo;exact h1.up qo
def W.Has.mWs {F:List Fct} {n k:Nat} {ms:Nat->QM} {A B:Nat->Rat} {q:QM} (h:Has F (mF n ms (λj=>if j < k then A j else B j))) (hm:Has F (isQ (qv q) (A k))):Has F (mF n (upd ms k q) (λj=>if j < k+1 then A j else B j)):=
 W.Has.QW (W.Has.J3 (k:=k) h hm) λj _=>by
  unfold upd;by_cases e:j=k
  ·subst e;rw[if_pos rfl,if_pos qo]
  ·rw[if_neg e];simp only;by_cases e2:j < k
   ·rw[if_pos e2,if_pos qo]
   ·rw[if_neg e2,if_neg qo]
def W.Has.mWk {F:List Fct} {n k:Nat} {ms:Nat->QM} {A B:Nat->Rat} (h:Has F (mF n ms (λj=>if j < k then A j else B j))) (hk:k < n):Has F (isQ (qv (ms k)) (B k)):=by
 have h2:=W.Has.q h hk;simp only[Nat.lt_irrefl,if_false] at h2;exact h2
namespace K
namespace Q
namespace R
attribute [local irreducible] WC WL WD YO LO Qq W.Fin Qw Qu Qj Row QQ Qy KnS Has W.One Ql Qr
def d8 {G G':Prop} (h:G') (s:Bx G'->G:=by
 intro h;first|refine gE ?_|(apply WC.draw (id:=16) [0,1,2,3,4,5,6,7,8,9,10,11,12,13,16] (.h 0<|.h 1<|.h 2<|.h 3<|.h 4<|.h 5<|.h 6<|.h 7<|.h 8<|.h 9<|.h 10<|.h 11<|.h 12<|.h 13<|.l 14<|.l 15<|.h 16<|.l 17 .done) mixed kr)|(apply WC.draw (id:=18) [0,1,2,4,5,7,8,9,10,15] (.h 0<|.h 1<|.h 2<|.h 4<|.h 5<|.m 3 (.m 6 (.h 7<|.h 8<|.h 9<|.h 10<|.m 11 (.l 12<|.l 13<|.l 14<|.h 15 .done) (.l 12<|.l 11<|.l 13<|.l 14<|.h 15 .done)) (.m 11 (.m 6 (.h 7<|.h 8<|.h 9<|.h 10<|.l 12<|.l 13<|.l 14<|.h 15 .done) (.l 12<|.l 6<|.h 7<|.h 8<|.h 9<|.h 10<|.l 13<|.l 14<|.h 15 .done)) (.l 12<|.m 6 (.h 7<|.h 8<|.h 9<|.h 10<|.l 11<|.l 13<|.l 14<|.h 15 .done) (.l 11<|.l 6<|.h 7<|.h 8<|.h 9<|.h 10<|.l 13<|.l 14<|.h 15 .done)))) (.m 11 (.m 3 (.m 6 (.h 7<|.h 8<|.h 9<|.h 10<|.l 12<|.l 13<|.l 14<|.h 15 .done) (.l 12<|.l 6<|.h 7<|.h 8<|.h 9<|.h 10<|.l 13<|.l 14<|.h 15 .done)) (.l 12<|.l 3<|.l 6<|.h 7<|.h 8<|.h 9<|.h 10<|.l 13<|.l 14<|.h 15 .done)) (.l 12<|.m 3 (.m 6 (.h 7<|.h 8<|.h 9<|.h 10<|.l 11<|.l 13<|.l 14<|.h 15 .done) (.l 11<|.l 6<|.h 7<|.h 8<|.h 9<|.h 10<|.l 13<|.l 14<|.h 15 .done)) (.l 11<|.l 3<|.l 6<|.h 7<|.h 8<|.h 9<|.h 10<|.l 13<|.l 14<|.h 15 .done)))) mixed kr)|fail
 exact Bx.h h):G:=s ⟨h⟩
def betweenLaw_c (lv mv:Value) (l m:List Int) (hl:∀ x∈l,I64 x) (hm:∀ x∈m,I64 x):FnB Tryz.prog 8 [lv,mv] [] [isX Tryz.prog,sI lv l,sI mv m] (IsV (.bool true)):=by
 refine fO [(0,lv),(1,mv)] 116 Tryz.func8 Tryz.ntmps8 λh0=>?_;have hok:=Bl.GZ l;have hfs:=Bl.GX l;have hsn:=Bl.some_n l;have hss:=Fs.ss hfs qd qd qd;generalize hS:Bl.Ye l=S at *;repeat'(first|intro(g:Nat)|refine d8 ?_|refine gN ?_ ?_|intro v)
 refine cK (some_c lv l hl) ?_;rw[hS];rintro _ _ _ ⟨M,rfl,rfl,rfl⟩;refine sNn ?_;repeat'(first|intro(g:Nat)|refine gP ?_|intro v)
 revert g;intro g5;repeat'(first|intro(g:Nat)|refine d8 ?_|refine gN ?_ ?_|intro v)
 refine cK (Xd M S 1 qd qd hss hok) ?_;rintro _ _ _ ⟨rfl,⟨cv,ms,xs,rfl,rfl,hpt⟩|⟨c,yv,my,y,rfl,rfl,hc,hinf,hy,hprev⟩⟩
 case inr=>
  refine sNn ?_;repeat'(first|intro(g:Nat)|refine d8 ?_|refine gN ?_ ?_|intro v)
  refine cV (Zr) ?_;repeat'(first|intro(g:Nat)|refine d8 ?_|refine gN ?_ ?_|intro v)
  refine WC.ret ?_;exact Fin.v (Qv.t1 rfl rfl) meA rfl
 refine sNn ?_;have hcn:=Hz S.n qo;have h32:2 ^ S.n<=2 ^ 3:=Nat.pow_le_pow_right qd hsn.2.1;have hN0:0 < 2 ^ S.n:=Nat.two_pow_pos _;generalize hN:2 ^ S.n=N at *;repeat'(first|intro(g:Nat)|refine d8 ?_|refine gN ?_ ?_|intro v)
 revert g;intro g7;revert g;intro g6;refine WL.keep (g:=g5) (t:=26) (cs:=[M.l,M.t]) (by repeat(first|exact Rem.head|apply Rem.tail)) ?_;refine WL.keep (g:=g6) (t:=48) (cs:=[cv]) (by repeat(first|exact Rem.head|apply Rem.tail)) ?_;refine cV (hcn) ?_;repeat'(first|intro(g:Nat)|refine d8 ?_|refine gN ?_ ?_|intro v)
 refine cK (shares_c mv m N hN0 qo hm) ?_;rintro shv _ _ ⟨msh,rfl,rfl⟩;refine sNn ?_;have hshn:∀ c,0<=shr m N c:=λc=>shr_nn m hN0 c
 have hsh1:∀ c,Sq 1 (shr m N c):=λc=>by
  obtain⟨d1,d2⟩:=shD_pos m hN0;obtain⟨T,hT⟩:∃ T:Nat,shD m N=(T:Int):=⟨(shD m N).toNat,by omega⟩
  have ha:=shA_le m N c;unfold shr;rw[hT];exact(Fr.of (A:=4) qo qo).sq qo qo qo
 repeat'(first|intro(g:Nat)|refine d8 ?_|refine gN ?_ ?_|intro v)
 revert v;intro wv;refine WC.Xf (σ:=Nat->QM) (λ_=>[(10,wv),(9,shv),(6,ptr g6),(5,ptr g5)]) (λmw=>[Ow.slice wv 64 4 (Qe S.n mw)]) (λmw=>[mF S.n mw (mixW S N (shr m N)),ce g6 48 [cv],ce g5 26 [M.l,M.t],lF plS cv N ms (λc=>psh (2*S.m) (xs c)),fF shv N msh (shr m N),fSl M S,fSt M S,ge h0,isX Tryz.prog]) (λ_=>True) ?_ ?_
 ·refine WC.lp (σ:=Nat×(Nat->QM)) (λst=>[(11,.int .i64 (st.1:Int)),(10,wv),(9,shv),(6,ptr g6),(5,ptr g5)]) (λst=>[Ow.slice wv 64 4 (Qe S.n st.2)]) (λst=>[mF S.n st.2 (mixW S st.1 (shr m N)),ce g6 48 [cv],ce g5 26 [M.l,M.t],lF plS cv N ms (λc=>psh (2*S.m) (xs c)),fF shv N msh (shr m N),fSl M S,fSt M S,ge h0,isX Tryz.prog]) (λst=>st.1<=N) (λst=>N - st.1) (0,λ_=>m00) (Nat.zero_le _) ?_ (hG:=.cons (W.Has.QW (W.Has.mF0 _) λj _=>rfl) haA);rintro⟨k,mw⟩ hk;simp only at hk ⊢;by_cases c:k < N
  ·refine WC.fact (isQ (qv (msh k)) (shr m N k)) (W.Has.q (W.Has.fm (v:=shv) (n:=N) (ms:=msh) (qf:=shr m N) hmA) c) ?_;repeat'(first|intro(g:Nat)|refine d8 ?_|refine gN ?_ ?_|intro v)
   refine cK (ZW M S k qo (hN ▸ c)) ?_;rintro kv _ _ ⟨mk,rfl,rfl⟩;refine sNn ?_;repeat'(first|intro(g:Nat)|refine d8 ?_|refine gN ?_ ?_|intro v)
   refine WC.lp (σ:=Nat×(Nat->QM)) (λst=>[(13,.int .i64 (st.1:Int)),(12,kv),(11,.int .i64 (k:Int)),(10,wv),(9,shv),(6,ptr g6),(5,ptr g5)]) (λst=>[Ow.slice wv 64 4 (Qe S.n st.2)]) (λst=>[mF S.n st.2 (λj=>if j < st.1 then mixW S (k+1) (shr m N) j else mixW S k (shr m N) j),fF kv S.n mk (S.wt k),isQ (qv (msh k)) (shr m N k),ce g6 48 [cv],ce g5 26 [M.l,M.t],lF plS cv N ms (λc=>psh (2*S.m) (xs c)),fF shv N msh (shr m N),fSl M S,fSt M S,ge h0,isX Tryz.prog]) (λst=>st.1<=S.n) (λst=>S.n - st.1) (0,mw) (Nat.zero_le _) ?_ (hG:=.cons (W.Has.QW (qf:=mixW S k (shr m N)) hmA λj _=>(if_neg (Nat.not_lt_zero j)).symm) haA);rintro⟨i,mi⟩ hi;simp only at hi ⊢;by_cases d:i < S.n
   ·refine WC.fact (isQ (qv (mk i)) (S.wt k i)) (W.Has.q (W.Has.fm (v:=kv) (n:=S.n) (ms:=mk) (qf:=S.wt k) hmA) d) ?_;refine WC.fact (isQ (qv (mi i)) (mixW S k (shr m N) i)) (W.Has.mWk (n:=S.n) (ms:=mi) (k:=i) (A:=mixW S (k+1) (shr m N)) (B:=mixW S k (shr m N)) hmA d) ?_;have z1:=HY hss k i d;have z2:=mixW_sz (k:=k) hss (λc _=>hsh1 c) hk d;repeat'(first|intro(g:Nat)|refine d8 ?_|refine gN ?_ ?_|intro v)
    refine cW (Zn.mul (msh k) (mk i) (shr m N k) (S.wt k i) ((hsh1 k).sm qd) (z1.sm qd)) λq1=>?_;repeat'(first|intro(g:Nat)|refine d8 ?_|refine gN ?_ ?_|intro v)
    refine cW (Zn.add (mi i) q1 (mixW S k (shr m N) i) (shr m N k*S.wt k i) (z2.sm qo) (((hsh1 k).mul z1).sm qd)) λq2=>?_;repeat'(first|intro(g:Nat)|refine d8 ?_|refine gN ?_ ?_|intro v)
    exact Qq.mk (i+1,upd mi i q2) (by simp only;omega) (by simp only;omega) (hG:=.cons (W.Has.mWs (n:=S.n) (ms:=mi) (k:=i) (A:=mixW S (k+1) (shr m N)) (B:=mixW S k (shr m N)) hmA (show W.Has _ (isQ (qv q2) (mixW S k (shr m N) i+shr m N k*S.wt k i)) from hmA)) haA)
   ·obtain rfl:i=S.n:=qo;repeat'(first|intro(g:Nat)|refine d8 ?_|refine gN ?_ ?_|intro v)
    exact Qq.mk (k+1,mi) (by simp only;omega) (by simp only;omega) (hG:=.cons (W.Has.QW (qf:=λj=>if j < S.n then mixW S (k+1) (shr m N) j else mixW S k (shr m N) j) hmA λj hj=>if_pos hj) haA)
  ·obtain rfl:k=N:=qo;repeat'(first|intro(g:Nat)|refine d8 ?_|refine gN ?_ ?_|intro v)
   exact QZ mw trivial
 ·intro mw _;have hmix:=Bl.Bal.mix (S:=S) (N:=N) (s:=shr m N) (w:=S.wt) (u:=λc k=>xs c (2*k)) (v:=λc k=>xs c (2*k+1)) (λc _=>hshn c) (shr_sum m hN0) λc hc=>Bl.Xt.1 (hpt c hc).1;have hfix:=mixW_fs (m:=m) hfs hN0 qo;have okf:=Bl.fix_ok (w:=mixW S N (shr m N)) hok λi hi=>mixW_pos hok (λc _=>hshn c) (shr_sum m hN0) hi;have zw:∀ i,i < S.n->Sq 1 (mixW S N (shr m N) i):=λi hi=>(hfix.B i hi).2.1;refine WC.Jh wv S.n mw (mixW S N (shr m N)) (by repeat(first|exact Sel.head|apply Sel.tail)) hmA ?_;repeat'(first|intro(g:Nat)|refine d8 ?_|refine gN ?_ ?_|intro v)
  refine cK (F.M.mix_c cv shv (2*S.m) N RA ms xs msh (shr m N) hN0 qo qo qd (λc _=>⟨hsh1 c,hshn c⟩) (λc hc j hj=>(hpt c hc).2 j qo)) ?_;rintro _ _ _ ⟨pv,mp,rfl,rfl,rfl⟩;refine sNn ?_
  have zp:∀ j,j < 2*S.m->Sv 3198489 (mixP N (shr m N) xs j):=λj hj=>by
   have h:Sv (N*399811+1) (mixP N (shr m N) xs j):=mixP_sz (N:=N) (i:=N) (k:=j) (Kx:=RA) (sh:=shr m N) (xs:=xs) (λc _=>hsh1 c) (λc hc=>⟨(hpt c hc).2 _ qo,(hpt c hc).2 _ qo⟩) (Nat.le_refl _);have h8:N<=8:=h32;exact⟨h.1.up qo,h.2.up qo⟩
  (first|refine go ?_|refine goE ?_)
  repeat'(first|intro(g:Nat)|refine gP ?_|intro v)
  refine WC.YJ (σ:=Unit) (λ_=>[(18,.int .i64 0),(15,.int .i64 0),(14,pv),(10,wv),(5,ptr g5)]) (λ_=>[]) (λ_=>[fF wv S.n mw (mixW S N (shr m N)),lF QD pv (2*S.m) mp (mixP N (shr m N) xs),ce g5 26 [M.l,M.t],fSl M S,fSt M S,ge h0,isX Tryz.prog]) (λ_=>True) ?_ ?_
  ·repeat'(first|intro(g:Nat)|refine d8 ?_|refine gN ?_ ?_|intro v)
   all_goals
    refine cK (F.fixed_c M S wv mw (mixW S N (shr m N)) qo) ?_;rintro fv _ _ ⟨mf,rfl,rfl⟩;refine sNn ?_;repeat'(first|intro(g:Nat)|refine d8 ?_|refine gN ?_ ?_|intro v)
    all_goals
     refine cK (Xd ⟨fv,M.t,mf,M.T⟩ (Bl.fixS (mixW S N (shr m N)) S) 1 qd qd hfix okf) ?_;rintro _ _ _ ⟨rfl,⟨cv2,ms2,xs2,rfl,rfl,hpt2⟩|⟨c2,yv2,my2,y2,rfl,rfl,hc2,hinf2,hy2,hprev2⟩⟩
     case inr=>
      obtain⟨x,hx⟩:=Bl.fix_sat hmix c2;exact absurd hx (X.Yw hinf2)
     refine sNn ?_;repeat'(first|intro(g:Nat)|refine d8 ?_|refine gN ?_ ?_|intro v)
     all_goals exact⟨(),trivial,suA,Q9.nil _,haA⟩
  rintro⟨⟩ _;have hn3:=hsn.2.1;have hm4:=hsn.2.2;repeat'(first|intro(g:Nat)|refine d8 ?_|refine gN ?_ ?_|intro v)
  refine cK (rbal_c M S wv pv mw (mixW S N (shr m N)) mp (mixP N (shr m N) xs) 1 3198489 6400000 12900000 51300000 103300000 25700000 qd qd qd qd qd qd qd qo qd qo qd qo qd hss hok zw zp) ?_;rintro _ _ _ ⟨b,rfl,hb,rfl,rfl⟩;obtain rfl:b=true:=hb.2 hmix;refine sNn ?_;repeat'(first|intro(g:Nat)|refine d8 ?_|refine gN ?_ ?_|intro v)
  refine cV (Zr) ?_;repeat'(first|intro(g:Nat)|refine d8 ?_|refine gN ?_ ?_|intro v)
  refine WC.ret ?_;exact Fin.v (Qv.t1 rfl rfl) meA rfl
end R
end Q
end K
end
end Go.Proofs.YtcpaopfdiahnnaaGreat
