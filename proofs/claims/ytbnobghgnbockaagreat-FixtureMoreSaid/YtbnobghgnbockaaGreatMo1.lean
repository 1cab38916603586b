/- The law FixtureMore returns true for every input and leaves its arguments as they were. Conditions: none. -/
import Derived.Test.YtbnobghgnbockaaGreatZg26
import Derived.Test.YtbnobghgnbockaaGreatZg35
import Derived.Test.YtbnobghgnbockaaGreatZg40
import Derived.Test.YtbnobghgnbockaaGreatZg41
import Derived.Test.YtbnobghgnbockaaGreatZg42
import Derived.Test.YtbnobghgnbockaaGreatZg1
set_option linter.all false
set_option maxHeartbeats 32000000
set_option maxRecDepth 100000
namespace Go.Proofs.YtbnobghgnbockaaGreat
namespace Fx
theorem sets_sorted(n most:Int):(QO n most).Pairwise le:=by
 rw[<-UA];unfold HJ;split
 .exact List.Pairwise.nil
 .exact(rsF _ _ _).1
theorem le_len{a b:List Int}(h:le a b):a.length<=b.length:=by
 unfold le before at h;by_cases c:b.length=a.length
 .omega
 .rw[if_neg c] at h;simp only[decide_eq_false_iff_not] at h;omega
theorem setsK_pre(n:Nat){k m:Nat}(h:k<=m):Xw n k <+:Xw n m:=by
 induction m with
 |zero=>rw[show k=0 by omega];exact List.prefix_refl _
 |succ m ih=>
  by_cases c:k=m+1
  .rw[c];exact List.prefix_refl _
  .exact(ih qo).trans (List.prefix_append _ _)
theorem sets_pre(n m:Int):QO n m <+:QO n (m+1):=by
 unfold QO;by_cases c:n<0\/8<n\/m<0
 .rw[if_pos c];exact List.nil_prefix
 .rw[if_neg c,if_neg qo];exact setsK_pre _ qo
theorem num_up{b n:Nat}(h:b<2^n):numbers b (n+1)=numbers b n:=by
 show numbers b n++_=_;rw[Nat.div_eq_of_lt h];simp
theorem sets_more{n m:Int}(h0:0<=n)(h7:n<=7){s:List Int}(h:s∈QO n m):s∈QO (n+1) m:=by
 obtain⟨b,h1,h2,h3⟩:=(YT h0 qo).1 h;refine(YT qo qo).2 ⟨b,?_,?_,h3⟩
 .rw[show(n+1).toNat=n.toNat+1 by omega,Nat.pow_succ];omega
 .rw[show(n+1).toNat=n.toNat+1 by omega,num_up h1];exact h2
theorem Da{t:List Bl.Tc}{props:List (List Bl.Tc)}{p:List Bl.Tc}{s:List Int}(h:∀x∈s,0<=x/\x<(props.length:Int)):Qe t (props++[p]) s=Qe t props s:=by
 unfold Qe
 congr 1
 rw[List.flatMap_def,List.flatMap_def]
 congr 1
 refine List.map_congr_left λx hx=>?_;have:=h x hx;rw[List.getD_eq_getElem?_getD,List.getD_eq_getElem?_getD,List.getElem?_append_left qo]
section
variable {C D:List (List Int)}{P:List Int->Prop}{i j:Nat}
theorem getD_el(h:i<C.length):C.getD i []=C[i]:=by
 rw[List.getD_eq_getElem?_getD,List.getElem?_eq_getElem h];rfl
theorem KS(h:C <+:D)(hi:i<C.length):D.getD i []=C.getD i []:=by
 obtain⟨E,rfl⟩:=h;rw[List.getD_eq_getElem?_getD,List.getD_eq_getElem?_getD,List.getElem?_append_left hi]
theorem Jf.pre(h:C <+:D)(h1:Jf C P i):Jf D P i:=by
 have hl:C.length<=D.length:=h.length_le;refine⟨Nat.lt_of_lt_of_le h1.1 hl,?_,λk hk=>?_⟩
 .rw[KS h h1.1];exact h1.2.1
 .rw[KS h (by have:=h1.1;omega)];exact h1.2.2 k hk
theorem U8.pre(h:C <+:D)(h1:U8 C P)(h2:Jf D P i):C.length<=i:=by
 by_cases c:i<C.length
 .exact absurd (KS h c ▸ h2.2.1) (h1 i c)
 .omega
theorem Jf.le(hs:C.Pairwise le)(h1:Jf C P i){s:List Int}(hm:s∈C)(hp:P s):(C.getD i []).length<=s.length:=by
 obtain⟨k,hk,rfl⟩:=List.mem_iff_getElem.1 hm;have e:C.getD k []=C[k]:=getD_el hk;by_cases c:k<i
 .exact absurd (e ▸ hp) (h1.2.2 k c)
 .by_cases d:k=i
  .subst d;rw[e];exact Nat.le_refl _
  .have:=List.pairwise_iff_getElem.1 hs i k h1.1 hk qo;rw[getD_el h1.1];exact le_len this
theorem Jf.of_mem{s:List Int}(hm:s∈C)(hp:P s)(h:U8 C P):False:=by
 obtain⟨k,hk,rfl⟩:=List.mem_iff_getElem.1 hm;refine h k hk ?_;rw[List.getD_eq_getElem?_getD,List.getElem?_eq_getElem hk];exact hp
end
theorem cand_sorted(t:List Bl.Tc)(props:List (List Bl.Tc))(m:Int):(Qc t props m).Pairwise le:=(sets_sorted _ _).sublist List.filter_sublist
theorem VT(t:List Bl.Tc)(props:List (List Bl.Tc))(m:Int):Qc t props m <+:Qc t props (m+1):=(sets_pre _ _).filter _
theorem Hr:∀(f:Nat) (l:List Int) (i:Nat),(KX l i f).length=l.length
 |0,_,_=>rfl
 |f+1,l,i=>by unfold KX;rw[Hr f];simp
theorem nxt_len{n many:Int}{l l':List Int}(h:nxt n many l=some l'):l'.length=l.length:=by
 unfold nxt at h;split at h
 .exact absurd h (by simp)
 .simp only[Option.some.injEq] at h;rw[<-h,Hr];simp
theorem chsF_len{n many:Int}:∀(f:Nat) (l:List Int),∀s∈chsF n many f l,s.length=l.length
 |0,_,s,h=>absurd h (by simp[chsF])
 |f+1,l,s,h=>by
  unfold chsF at h;rcases List.mem_cons.1 h with rfl|h
  .rfl
  .split at h
   .exact absurd h (by simp)
   .rename_i l' e
    rw[chsF_len f l' s h,nxt_len e]
theorem chs_len{n k:Nat}{s:List Int}(h:s∈chs n k):s.length=k:=by
 rw[chsF_len 100 (start k) s h];simp[start]
theorem sets_new(n m:Int):∃E,QO n (m+1)=QO n m++E/\∀s∈E,(s.length:Int)=m+1:=by
 unfold QO;by_cases c:n<0\/8<n\/m+1<0
 .rw[if_pos c,if_pos qo];exact⟨[],rfl,λs h=>absurd h (by simp)⟩
 rw[if_neg c];by_cases c2:m<0
 .rw[if_pos qo];rw[show min n.toNat (m+1).toNat+1=0+1 by omega];exact⟨chs n.toNat 0,rfl,λs h=>by rw[chs_len h];omega⟩
 rw[if_neg qo];by_cases c3:m<n
 .rw[show min n.toNat (m+1).toNat+1=(min n.toNat m.toNat+1)+1 by omega];refine⟨chs n.toNat (min n.toNat m.toNat+1),rfl,λs h=>?_⟩;rw[chs_len h];omega
 .rw[show min n.toNat (m+1).toNat=min n.toNat m.toNat by omega];exact⟨[],(List.append_nil _).symm,λs h=>absurd h (by simp)⟩
theorem cand_new{t:List Bl.Tc}{props:List (List Bl.Tc)}{m:Int}{i:Nat}(h1:i<(Qc t props (m+1)).length)(h2:(Qc t props m).length<=i):((((Qc t props (m+1)).getD i []).length:Nat):Int)=m+1:=by
 obtain⟨E,e,hE⟩:=sets_new (props.length:Int) m;have e2:Qc t props (m+1)=Qc t props m++E.filter λs=>decide ((Qe t props s).length<=10):=by unfold Qc;rw[e,List.filter_append]
 refine hE _ ?_
 have hm:(Qc t props (m+1)).getD i []∈E.filter λs=>decide ((Qe t props s).length<=10):=by
  rw[e2] at h1 ⊢;rw[List.getD_eq_getElem?_getD,List.getElem?_append_right h2];rw[List.length_append] at h1;rw[List.getElem?_eq_getElem qo];exact List.getElem_mem _
 exact(List.mem_filter.1 hm).1
theorem cand_more{t:List Bl.Tc}{props:List (List Bl.Tc)}{p:List Bl.Tc}{m:Int}(hl:props.length<=7){s:List Int}(h:s∈Qc t props m):s∈Qc t (props++[p]) m/\Qe t (props++[p]) s=Qe t props s:=by
 obtain⟨h1,h2⟩:=List.mem_filter.1 h;obtain⟨b,b1,b2,b3⟩:=(YT qo qo).1 h1
 have e:Qe t (props++[p]) s=Qe t props s:=Da λx hx=>by
  rw[b2] at hx;have:=num_lt hx;omega
 refine⟨List.mem_filter.2 ⟨?_,by rw[e];exact h2⟩,e⟩;have:=sets_more (n:=(props.length:Int)) qo qo h1;rw[List.length_append,List.length_singleton];exact this
end Fx
namespace Fx
open Bl
section
variable {C D:List (List Int)}{P Q:List Int->Prop}{a b:Option Nat}
theorem Ans.eq(h1:Ans C P a)(h2:Ans C P b):a=b:=by
 cases a with
 |none=>cases b with
  |none=>rfl
  |some j=>exact(Jf.none h2 h1).elim
 |some i=>cases b with
  |none=>exact(Jf.none h1 h2).elim
  |some j=>rw[Jf.eq h1 h2]
end
section
variable {n:Nat}{B:Nat->Bd}{t0:Tc}{t p:List Tc}{ps:List (List Tc)}{m:Int}{a b:Option Nat}
theorem more_same{i:Nat}(h1:Ans (Qc t ps m) (StP n B t0 t ps) (some i))(h2:Ans (Qc t ps (m+1)) (StP n B t0 t ps) b):b=some i/\(Qc t ps (m+1)).getD i []=(Qc t ps m).getD i []:=by
 have h3:Ans (Qc t ps (m+1)) (StP n B t0 t ps) (some i):=Jf.pre (VT _ _ _) h1;have h1:Jf _ _ i:=h1;exact⟨Ans.eq h2 h3,KS (VT _ _ _) h1.1⟩
theorem more_new{i:Nat}(h1:Ans (Qc t ps m) (StP n B t0 t ps) none)(h2:Ans (Qc t ps (m+1)) (StP n B t0 t ps) (some i)):((((Qc t ps (m+1)).getD i []).length:Nat):Int)=m+1:=by
 have h2:Jf _ _ i:=h2;exact cand_new h2.1 (U8.pre (VT _ _ _) h1 h2)
theorem FA{i:Nat}(hl:ps.length<=7)(h1:Ans (Qc t ps m) (StP n B t0 t ps) (some i))(h2:Ans (Qc t (ps++[p]) m) (StP n B t0 t (ps++[p])) b):∃j,b=some j/\((Qc t (ps++[p]) m).getD j []).length<=((Qc t ps m).getD i []).length:=by
 have h1:Jf _ _ i:=h1;obtain⟨h3,h4⟩:=cand_more (p:=p) hl (YP h1.1)
 have h5:StP n B t0 t (ps++[p]) ((Qc t ps m).getD i []):=by
  show Q7 n B t0 _;rw[h4];exact h1.2.1
 cases b with
 |none=>exact(Jf.of_mem h3 h5 h2).elim
 |some j=>exact⟨j,rfl,Jf.le (cand_sorted _ _ _) h2 h3 h5⟩
end
end Fx
section
open W Go.RowKit
open Bl (Vc Bd Tc Sc)
section
variable {e:Env}{bx:List Ow}{F:List Fct}{ty:TypeId}{v w:Value}{x y:Operand}{K:Qf}{P:List (List Tc)}{pm:Nat->Value×(Nat->ToM)}
theorem LO.bsP0(h:∀v,K v (Ow.slice v 32 1 []::bx) F):LO Tryz.prog (.buildSlice 33 0 #[]) ty e bx F K:=LO.buildSlice (parts:=[]) (us:=[]) (cs:=[]) .nil (λ_=>by kernel_rfl) rfl qd h
theorem LO.bsP1{n:Nat}(hx:ev e x=some w)(hw:KnS bx F w n)(h:∀v,K v (Ow.slice v 32 1 [w]::bx) F):LO Tryz.prog (.buildSlice 33 1 #[(0,x)]) ty e bx F K:=by
 refine LO.byP (p:=∃a c,w=.slice a n c) (λfr w' ho=>?_) ?_
 .obtain⟨a1,c1,h1,_⟩:=(hw fr w' ho).is;exact⟨a1,c1,h1⟩
 rintro⟨a',c,rfl⟩;exact LO.buildSlice (el:=32) (sz:=1) (parts:=[(0,x)]) (us:=[.slice a' n c]) (cs:=[.slice a' n c]) (.cons hx .nil) (λ_=>by kernel_rfl) rfl qd h
theorem one_p{q:List Tc}{m:Value×(Nat->ToM)}(h:W.Has F (lF Qz m.1 q.length m.2 (tl q))):QA bx F (tlS.cs m q):=.cons (One.sl (KnS.lf (S:=Qz) h)) .nil
theorem LO.appPF0{u:Value}{bx2:Value->List Ow}(hx:ev e x=some v)(hy:ev e y=some u)(hu:W.Has F (lF tlS u P.length pm (pl P)))(hs:∀v',Sel bx (.slice v 32 1 []) (lO tlS v' 32 P.length pm (pl P)) (bx2 v'))(hl:P.length<=1000000)(h:∀v',K v' (bx2 v') F) :
  LO Tryz.prog (.call {callee:=.builtin .append,args:=#[x,y],argTypes:=#[33,33]}) ty e bx F K:=by
 refine LO.byP (λfr w ho=>VX (S:=tlS) (λj hj=>one_p (hu.lk hj)) ho) λh1=>?_;exact LO.append T.e33 hx hy (cs:=[]) (news:=QX tlS P.length pm (pl P)) hs (Qp.fact hu.ls) h1 (by rw[Qu];show(0+P.length*1)*_<=_;omega) (by rw[Qu];show 0+P.length*1<=_;omega) h
theorem LO.appP1{el':TypeId}{u:Value}{q:List Tc}{tm:Nat->ToM}{bx2:Value->List Ow}(hx:ev e x=some v)(hy:ev e y=some u)(hu:Ow.slice u el' 1 [w]∈bx)(hw:W.Has F (lF Qz w q.length tm (tl q)))(hs:∀v',Sel bx (lO tlS v 32 P.length pm (pl P)) (lO tlS v' 32 (P++[q]).length (upd pm P.length (w,tm)) (pl (P++[q]))) (bx2 v'))(hl:P.length<=1000000)(h:∀v',K v' (bx2 v') F) :
  LO Tryz.prog (.call {callee:=.builtin .append,args:=#[x,y],argTypes:=#[33,33]}) ty e bx F K:=
 LO.appL (S:=tlS) (ms:=pm) (xs:=pl P) (n:=P.length) (mm:=(w,tm)) (aa:=q) T.e33 hx hy hu (one_p (m:=(w,tm)) hw) (λv'=>by rw[FH];exact hs v') qd qd hl h
end
namespace K
namespace Q
namespace Y
attribute [local irreducible] WC WL WD YO LO Qq W.Fin Qv Qh Qj Row QV Qy KnS Has W.One Qp QJ
theorem d8{G G':Prop}(h:G')(s:Bx G'->G:=by
 intro h;first|refine gF ?_|refine Vh ?_|(apply WC.draw (id:=11) [0,1,2,3,4,5,6,8,9] (.h 0<|.h 1<|.h 2<|.h 3<|.h 4<|.h 5<|.h 6<|.l 7<|.h 8<|.h 9<|.l 10<|.l 11<|.f 12 .done) mixed kr)|fail
 exact Bx.h h):G:=s ⟨h⟩
theorem moreLaw_c(lv dv:Value)(l deal:List Int)(n m:Int)(hl:∀x∈l,I64 x)(hd:∀x∈deal,I64 x)(hn:I64 n)(hm:I64 m):FnB Tryz.prog 8 [lv,dv,.int .i64 n,.int .i64 m] [] [isX Tryz.prog,sI lv l,sI dv deal] (IsV (.bool true)):=by
 refine fO [(0,lv),(1,dv),(2,(.int .i64 n)),(3,(.int .i64 m))] 122 Tryz.func8 Tryz.ntmps8 λh0=>?_;obtain⟨s1,s2,s3,s4,_⟩:=Fj l deal;have hN:=Fx.ZF l;have hok:=λ(P:List (List Tc)) (hP:∀p∈P,p∈Fx.Jo l deal) (mo:Int) (s:List Int) (hs:s∈Fx.Qc (Fx.JP l deal) P mo)=>KD l deal hP (Fx.Za hs);have hcs:=HE lv dv l deal hl hd;generalize Fx.Jn l=N at *;generalize (Bl.QL l).B=B at *;generalize Fx.JP l deal=t at *;generalize Fx.Jo l deal=P at *;have a1:=@J8 n 2 qd;have a2:=@J8 m (P.length:Int) qo;have c22:=Xr n 2 hn qd;have c89:=Xr m (P.length:Int) hm qo;generalize Xb n 2=mo at *;obtain⟨q,hq⟩:∃q:Nat,Xb m (P.length:Int)=(q:Int):=⟨(Xb m (P.length:Int)).toNat,by omega⟩
 rw[hq] at c89 a2;have hqP:q<P.length:=qo
 have hqm:pl P q∈P:=by
  rw[pl,List.getD_eq_getElem?_getD,List.getElem?_eq_getElem hqP];exact List.getElem_mem hqP
 repeat'(first|intro(g:Nat)|refine d8 ?_|intro v)
 refine cK (hcs) ?_;rintro _ _ _ ⟨bv,tv,pv,bm,tm,pm,rfl,rfl,rfl⟩;refine sNn ?_;repeat'(first|intro(g:Nat)|refine d8 ?_|intro v)
 revert g;intro g9;refine cV (c22) ?_;repeat'(first|intro(g:Nat)|refine d8 ?_|intro v)
 refine cK (Yf bv tv pv N bm B t P tm pm mo 1 qo s1 qo s4 qo qo qd qd (hok P (λ_ h=>h) mo)) ?_;rintro _ _ _ ⟨rfl,a,sv1,cv1,fv1,cn1,cf1,fm1,fx1,rfl,ha,ha',rfl⟩;refine sNn ?_;repeat'(first|intro(g:Nat)|refine d8 ?_|intro v)
 revert g;intro g11;refine cK (Yf bv tv pv N bm B t P tm pm (mo+1) 1 qo s1 qo s4 qo qo qd qd (hok P (λ_ h=>h) (mo+1))) ?_;rintro _ _ _ ⟨rfl,b,sv2,cv2,fv2,cn2,cf2,fm2,fx2,rfl,hb,hb',rfl⟩;refine sNn ?_
 have hcase:(a=none/\b=none)\/(∃j,a=none/\b=some j/\(((sl (Fx.Qc t P (mo+1)) j).length:Nat):Int)=mo+1)\/∃i j,a=some i/\b=some j/\sl (Fx.Qc t P (mo+1)) j=sl (Fx.Qc t P mo) i:=by
  cases a with
  |none=>cases b with
   |none=>exact .inl ⟨rfl,rfl⟩
   |some j=>exact .inr (.inl ⟨j,rfl,rfl,Fx.more_new ha hb⟩)
  |some i=>
   obtain⟨rfl,h⟩:=Fx.more_same ha hb;exact .inr (.inr ⟨i,i,rfl,rfl,h⟩)
 have hch:=λ(tm:Nat->ToM) (v:Value) (pm2:Nat->Value×(Nat->ToM))=>Yf bv tv v N bm B t (P++[pl P q]) tm pm2 mo 1 qo s1 (by rw[List.length_append,List.length_singleton];omega) (λp hp=>s4 p ((List.mem_append.1 hp).elim id λh=>(List.mem_singleton.1 h) ▸ hqm)) qo qo qd qd (hok (P++[pl P q]) (λp hp=>(List.mem_append.1 hp).elim id λh=>(List.mem_singleton.1 h) ▸ hqm) mo);rcases hcase with ⟨rfl,rfl⟩|⟨j,rfl,rfl,hj⟩|⟨i,j,rfl,rfl,hj⟩
 .simp only[Y0,selS,Zb];repeat'(first|intro(g:Nat)|refine d8 ?_|intro v)
  refine WL.l rfl rfl (LO.bsP0 λv74=>?_);repeat'(first|intro(g:Nat)|refine d8 ?_|intro v)
  refine WL.l rfl rfl (LO.appPF0 (P:=P) (pm:=pm) rfl rfl hmA (λv'=>by repeat(first|exact Sel.head|apply Sel.tail)) qo λv77=>?_);repeat'(first|intro(g:Nat)|refine d8 ?_|intro v)
  refine cV (c89) ?_;refine WD.fact (lF Qz (pm q).1 (pl P q).length (pm q).2 (tl (pl P q))) (W.Has.lk (S:=tlS) (v:=pv) (ms:=pm) (xs:=pl P) hmA hqP) ?_;repeat'(first|intro(g:Nat)|refine d8 ?_|intro v)
  refine WD.l rfl rfl rfl (LO.bsP1 rfl (KnS.lf (S:=Qz) (v:=(pm q).1) hmA) λv92=>?_);refine⟨(by(first|exact wq1|(apply Or.inl;kernel_rfl))),?_⟩;refine WD.l rfl rfl rfl (LO.appP1 (P:=P) (pm:=pm) (q:=pl P q) (tm:=(pm q).2) rfl rfl meA hmA (λv'=>by repeat(first|exact Sel.head|apply Sel.tail)) qo λv93=>?_);refine⟨(by(first|exact wq1|(apply Or.inl;kernel_rfl))),?_⟩;repeat'(first|intro(g:Nat)|refine d8 ?_|intro v)
  refine WL.QY (S:=tlS) (v:=v93) (n:=(P++[pl P q]).length) (ms:=upd pm P.length ((pm q).1,(pm q).2)) (xs:=pl (P++[pl P q])) wq3 (XR (S:=tlS) (m:=((pm q).1,(pm q).2)) (W.Has.lm (S:=tlS) (v:=pv) hmA) hmA) ?_;refine cK (hch tm v93 (upd pm P.length ((pm q).1,(pm q).2))) ?_;rintro _ _ _ ⟨rfl,c,sv3,cv3,fv3,cn3,cf3,fm3,fx3,rfl,hc,hc',rfl⟩;refine sNn ?_;repeat'(first|intro(g:Nat)|refine d8 ?_|intro v)
  refine cV (K8) ?_;repeat'(first|intro(g:Nat)|refine d8 ?_|intro v)
  exact wq6
 .simp only[Y0,selS,Zb];repeat'(first|intro(g:Nat)|refine d8 ?_|intro v)
  refine WL.l rfl rfl (LO.bsP0 λv74=>?_);repeat'(first|intro(g:Nat)|refine d8 ?_|intro v)
  refine WL.l rfl rfl (LO.appPF0 (P:=P) (pm:=pm) rfl rfl hmA (λv'=>by repeat(first|exact Sel.head|apply Sel.tail)) qo λv77=>?_);repeat'(first|intro(g:Nat)|refine d8 ?_|intro v)
  refine cV (c89) ?_;refine WD.fact (lF Qz (pm q).1 (pl P q).length (pm q).2 (tl (pl P q))) (W.Has.lk (S:=tlS) (v:=pv) (ms:=pm) (xs:=pl P) hmA hqP) ?_;repeat'(first|intro(g:Nat)|refine d8 ?_|intro v)
  refine WD.l rfl rfl rfl (LO.bsP1 rfl (KnS.lf (S:=Qz) (v:=(pm q).1) hmA) λv92=>?_);refine⟨(by(first|exact wq1|(apply Or.inl;kernel_rfl))),?_⟩;refine WD.l rfl rfl rfl (LO.appP1 (P:=P) (pm:=pm) (q:=pl P q) (tm:=(pm q).2) rfl rfl meA hmA (λv'=>by repeat(first|exact Sel.head|apply Sel.tail)) qo λv93=>?_);refine⟨(by(first|exact wq1|(apply Or.inl;kernel_rfl))),?_⟩;repeat'(first|intro(g:Nat)|refine d8 ?_|intro v)
  refine WL.QY (S:=tlS) (v:=v93) (n:=(P++[pl P q]).length) (ms:=upd pm P.length ((pm q).1,(pm q).2)) (xs:=pl (P++[pl P q])) wq3 (XR (S:=tlS) (m:=((pm q).1,(pm q).2)) (W.Has.lm (S:=tlS) (v:=pv) hmA) hmA) ?_;refine cK (hch tm v93 (upd pm P.length ((pm q).1,(pm q).2))) ?_;rintro _ _ _ ⟨rfl,c,sv3,cv3,fv3,cn3,cf3,fm3,fx3,rfl,hc,hc',rfl⟩;refine sNn ?_;repeat'(first|intro(g:Nat)|refine d8 ?_|intro v)
  refine cV (K8) ?_;repeat'(first|intro(g:Nat)|refine d8 ?_|intro v)
  exact wq6
 .have c56:=XA sv1 sv2 (sl (Fx.Qc t P mo) i) (sl (Fx.Qc t P (mo+1)) j);rw[decide_eq_true hj.symm] at c56;simp only[Y0,selS,Zb];repeat'(first|intro(g:Nat)|refine d8 ?_|intro v)
  refine cV (c56) ?_;repeat'(first|intro(g:Nat)|refine d8 ?_|intro v)
  refine WL.l rfl rfl (LO.bsP0 λv74=>?_);repeat'(first|intro(g:Nat)|refine d8 ?_|intro v)
  refine WL.l rfl rfl (LO.appPF0 (P:=P) (pm:=pm) rfl rfl hmA (λv'=>by repeat(first|exact Sel.head|apply Sel.tail)) qo λv77=>?_);repeat'(first|intro(g:Nat)|refine d8 ?_|intro v)
  refine cV (c89) ?_;refine WD.fact (lF Qz (pm q).1 (pl P q).length (pm q).2 (tl (pl P q))) (W.Has.lk (S:=tlS) (v:=pv) (ms:=pm) (xs:=pl P) hmA hqP) ?_;repeat'(first|intro(g:Nat)|refine d8 ?_|intro v)
  refine WD.l rfl rfl rfl (LO.bsP1 rfl (KnS.lf (S:=Qz) (v:=(pm q).1) hmA) λv92=>?_);refine⟨(by(first|exact wq1|(apply Or.inl;kernel_rfl))),?_⟩;refine WD.l rfl rfl rfl (LO.appP1 (P:=P) (pm:=pm) (q:=pl P q) (tm:=(pm q).2) rfl rfl meA hmA (λv'=>by repeat(first|exact Sel.head|apply Sel.tail)) qo λv93=>?_);refine⟨(by(first|exact wq1|(apply Or.inl;kernel_rfl))),?_⟩;repeat'(first|intro(g:Nat)|refine d8 ?_|intro v)
  refine WL.QY (S:=tlS) (v:=v93) (n:=(P++[pl P q]).length) (ms:=upd pm P.length ((pm q).1,(pm q).2)) (xs:=pl (P++[pl P q])) wq3 (XR (S:=tlS) (m:=((pm q).1,(pm q).2)) (W.Has.lm (S:=tlS) (v:=pv) hmA) hmA) ?_;refine cK (hch tm v93 (upd pm P.length ((pm q).1,(pm q).2))) ?_;rintro _ _ _ ⟨rfl,c,sv3,cv3,fv3,cn3,cf3,fm3,fx3,rfl,hc,hc',rfl⟩;refine sNn ?_;obtain⟨k,rfl,hk⟩:=Fx.FA qo ha hc;have hk:(sl (Fx.Qc t (P++[pl P q]) mo) k).length<=(sl (Fx.Qc t P mo) i).length:=hk;simp only[Y0,selS,Zb];repeat'(first|intro(g:Nat)|refine d8 ?_|intro v)
  refine cV (K8) ?_;repeat'(first|intro(g:Nat)|refine d8 ?_|intro v)
  exact wq6
end Y
end Q
end K
end
section
open Go.ChangeShapes Go.WideShapes Go.ChangeAt Go.RowKit
open W
theorem Tryz.K3:Tryz.prog.underlying 3=some (.int .i64):=by kernel_rfl
theorem Tryz.sl22:Tryz.prog.underlying 28=some (.slice 3):=by kernel_rfl
theorem Tryz.KU:Tryz.prog.underlying 4=some .bool:=by kernel_rfl
theorem Tryz.one3:Tryz.prog.cellsOf 3=1:=by kernel_rfl
theorem fixtureMore_lifted(os:Os)(started:os.Started)(H:Type)(enc:TypeId×Value->H) :
  ReturnsInLeavingWide {} Tryz.checked os 8 .any (Rows.fixtureMoreSpec.pre6 enc Tryz.prog Tryz.f8 Rows.fixtureMoreRow.domain false) (Rows.fixtureMoreSpec.post enc Tryz.prog Tryz.f8 false true false false):=by
 refine returnsInLeavingWide_of_change_sized (C:=Tryz.checked) Tryz.own started Tryz.func8
  (ChangeSpec.witness6 (enc:=enc) (C:=Tryz.checked) false ⟨#[],#[.slice none 0 0,.slice none 0 0,.int .i64 0,.int .i64 0],[]⟩ 8 kr kr kr kr) ?_
 intro V1 base args ds gs before hval0 hW hcnd hwt _;have hval:∀(j:Nat) t v,Tryz.f8.params[j]?=some t->args[j]?=some v->Value.okWide Tryz.prog V1 .any base t v:=hval0;have hW':=hW;obtain⟨p,q,hA0,hV,rfl,hfz,hnd⟩:=hW;have hA:DataW.TrodAll enc Tryz.prog V1 0 (λ_=>true) true Tryz.f8.params.toList args.toList ds p:=hA0;rw[Tryz.params8] at hA hval;obtain⟨args⟩:=args;obtain⟨v0,a1,d0,e1,p0,q1,rfl,rfl,rfl,h0,hA⟩:=trodAll_cons hA;obtain⟨v1,a2,d1,e2,p1,q2,rfl,rfl,rfl,h1,hA⟩:=trodAll_cons hA;obtain⟨v2,a3,d2,e3,p2,q3,rfl,rfl,rfl,h2,hA⟩:=trodAll_cons hA;obtain⟨v3,a4,d3,e4,p3,q4,rfl,rfl,rfl,h3,hA⟩:=trodAll_cons hA;obtain⟨rfl,rfl,rfl⟩:=trodAll_nil hA;obtain⟨rfl,rfl⟩:=trodVars_none hV;obtain⟨l0,hl0,f0,g0⟩:=YL Tryz.sl22 Tryz.K3 Tryz.one3 (hval 0 28 v0 rfl rfl) h0;obtain⟨l1,hl1,f1,g1⟩:=YL Tryz.sl22 Tryz.K3 Tryz.one3 (hval 1 28 v1 rfl rfl) h1;obtain⟨n2,rfl,hl2,g2⟩:=ZB Tryz.K3 (hval 2 3 v2 rfl rfl) h2;obtain⟨n3,rfl,hl3,g3⟩:=ZB Tryz.K3 (hval 3 3 v3 rfl rfl) h3;simp only[List.append_nil] at hW'
 have hfacts:∀g∈([sI v0 l0,sI v1 l1]:List Fct),g.p ⟨XZ Tryz.prog,λk=>V1.heap[k]?⟩:=λg hg=>by
  simp only[List.mem_cons,List.not_mem_nil,or_false] at hg;rcases hg with rfl|rfl
  .exact f0
  .exact f1
 obtain⟨M,last,o,w',t',r1,r2,r3,r4⟩:=Kr kr (K.Q.Y.moreLaw_c v0 v1 l0 l1 n2 n3 hl0 hl1 hl2 hl3) hfacts;refine⟨M,last,o,w',t',r1,r2,r3,r4.mono λv hh2=>?_⟩;obtain⟨rfl,hr,hE⟩:=hh2
 .refine(Ho hW' (λ_ _ _=>trodAll_mk1 (shut_bool Tryz.KU _)) (λsp hsp=>?_) (λ_=>rfl) hr hE (ok_one kr rfl (okWide_bool_mk Tryz.KU _)));have:=(QS.cons g0 (QS.cons g1 (QS.cons g2 (QS.cons g3 QS.nil)))) w' sp hE (by simpa using hsp);simp only[List.append_nil] at this;show DataW.TrodAll enc Tryz.prog w' 0 sp true Tryz.f8.params.toList _ _ _;rw[Tryz.params8];exact this
theorem fixtureMore_holds:Rows.FixtureMoreSaid:=
 OpenClaim.holds_of_wide_leaving 8 Tryz.f8 rfl rfl rfl rfl rfl rfl rfl ⟨rfl,rfl,rfl,rfl,rfl⟩ rfl rfl rfl rfl rfl kr Tryz.func8 kr
  (of_decide_eq_true kr) (by unfold Func.isWrapper;first|(rw[if_pos wq108];kernel_rfl)|(rw[if_neg wq108];exact⟨rfl,rfl⟩))
  (λos started H enc _=>fixtureMore_lifted os started H enc)
#print axioms fixtureMore_holds
end
end Go.Proofs.YtbnobghgnbockaaGreat
