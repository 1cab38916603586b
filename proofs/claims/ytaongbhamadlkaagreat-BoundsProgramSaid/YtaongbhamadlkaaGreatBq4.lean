/- Lemmas for the proof of a law: Plain notions: comparing, adding, multiplying digits. Conditions: none. -/
import Derived.Test.YtaongbhamadlkaaGreatBq2
import Derived.Test.YtaongbhamadlkaaGreatBq3
import Derived.Scope
set_option linter.unusedVariables false
set_option linter.unusedSimpArgs false
set_option linter.unusedSectionVars false
namespace Go.Proofs.YtaongbhamadlkaaGreat
theorem getD_over {l:List Int} {k:Nat} (h:l.length≤k):l.getD k 0=0:=by
 rw[List.getD_eq_getElem?_getD,List.getElem?_eq_none (by omega)];rfl
theorem val_take_s (l:List Int) (k:Nat):val (l.take (k+1))=val (l.take k)+BB ^ k*l.getD k 0:=by
 by_cases h:k < l.length
 ·exact val_take_succ h
 ·rw[getD_over (by omega),List.take_of_length_le (by omega),List.take_of_length_le (by omega)];omega
theorem val_split {l:List Int} {k:Nat} (h:k < l.length):val l=val (l.take k)+BB ^ k*(l.getD k 0+BB*val (l.drop (k+1))):=by
 have e:l=l.take k++(l.getD k 0::l.drop (k+1)):=by
  rw[show l.getD k 0=l[k] by simp[List.getD_eq_getElem?_getD,h],←List.drop_eq_getElem_cons h,List.take_append_drop]
 have h2:=congrArg val e
 rw[val_app,val,List.length_take,Nat.min_eq_left (by omega)] at h2
 exact h2
theorem Dg.drop {l:List Int} (h:Dg l) (n:Nat):Dg (l.drop n):=fun j hj=>by
 have:=h (n+j) (by simp at hj;omega)
 simpa [List.getD_eq_getElem?_getD,List.getElem?_drop] using this
theorem drop_same {a b:List Int} {k:Nat} (hl:a.length=b.length) (h:∀ j,k≤j→j < a.length→a.getD j 0=b.getD j 0):a.drop k=b.drop k:=by
 apply List.ext_getElem
 ·simp[hl]
 ·intro i h1 h2
  have:=h (k+i) (by omega) (by simp at h1;omega)
  simp at h1 h2
  simpa [List.getD_eq_getElem?_getD,show k+i < a.length by omega,show k+i < b.length by omega] using this
theorem val_lt_at {a b:List Int} {k:Nat} (ha:Dg a) (hb:Dg b) (hl:a.length=b.length) (hk:k < a.length) (h:∀ j,k < j→j < a.length→a.getD j 0=b.getD j 0) (hlt:a.getD k 0 < b.getD k 0):val a < val b:=by
 rw[val_split hk,val_split (show k < b.length by omega),drop_same hl (fun j h1 h2=>h j (by omega) h2)]
 have h1:=val_lt (ha.take k)
 have h2:=val_nonneg (hb.take k)
 rw[List.length_take,Nat.min_eq_left (by omega)] at h1
 have hp:=BB_pos k
 generalize BB ^ k=p at *
 generalize val (b.drop (k+1))=D
 have e:p*(b.getD k 0+BB*D)=p*(a.getD k 0+BB*D)+p*(b.getD k 0 - a.getD k 0):=by
  rw[←Int.mul_add];congr 1;omega
 have e2:p*1≤p*(b.getD k 0 - a.getD k 0):=Int.mul_le_mul_of_nonneg_left (by omega) (by omega)
 omega
theorem val_eq_all {a b:List Int} (hl:a.length=b.length) (h:∀ j,j < a.length→a.getD j 0=b.getD j 0):a=b:=by
 have:=drop_same (k:=0) hl (fun j _ h2=>h j h2)
 simpa using this
theorem digs_lt_len {m n:Nat} (h:(digs m).length < (digs n).length):m < n:=by
 have h1:=@digs_lt m
 have h2:1000000000 ^ ((digs n).length - 1)≤n:=by
  have hk:(digs n).length - 1 < (digs n).length:=by omega
  have h3:=val_split hk
  rw[val_digs] at h3
  have h4:=val_nonneg ((digs_Dg n).take ((digs n).length - 1))
  have h5:=val_nonneg ((digs_Dg n).drop ((digs n).length - 1+1))
  have h6:=(digs_Dg n) _ hk
  have h7:=digs_Nrm n (by omega)
  have hp:=BB_pos ((digs n).length - 1)
  have hc:((1000000000 ^ ((digs n).length - 1):Nat):Int)=BB ^ ((digs n).length - 1):=by simp
  rw[←hc] at h3 hp
  generalize 1000000000 ^ ((digs n).length - 1)=p at *
  generalize (digs n).getD ((digs n).length - 1) 0=t at *
  have h8:1≤t+BB*val ((digs n).drop ((digs n).length - 1+1)):=by
   have:0≤t:=h6.1
   have:0≤BB*val ((digs n).drop ((digs n).length - 1+1)):=Int.mul_nonneg (by decide) h5
   omega
  have h9:(p:Int)*1≤p*(t+BB*val ((digs n).drop ((digs n).length - 1+1))):=Int.mul_le_mul_of_nonneg_left h8 (by omega)
  omega
 have h3:1000000000 ^ (digs m).length≤1000000000 ^ ((digs n).length - 1):=Nat.pow_le_pow_right (by decide) (by omega)
 omega
def cmpN (m n:Nat):Int:=if m < n then -1 else if n < m then 1 else 0
def cmpI (m n:Int):Int:=if m < n then -1 else if n < m then 1 else 0
theorem cmpN_lt {m n:Nat} (h:m < n):cmpN m n= -1:=by rw[cmpN,if_pos h]
theorem cmpN_gt {m n:Nat} (h:n < m):cmpN m n=1:=by rw[cmpN,if_neg (by omega),if_pos h]
theorem cmpN_eq (m:Nat):cmpN m m=0:=by rw[cmpN,if_neg (by omega),if_neg (by omega)]
theorem digs_inj {m n:Nat} (h:digs m=digs n):m=n:=by
 have:=val_digs m
 have h2:=val_digs n
 rw[h] at this;omega
theorem digs_cmp_lt {m n k:Nat} (hl:(digs m).length=(digs n).length) (hk:k < (digs m).length) (h:∀ j,k < j→j < (digs m).length→(digs m).getD j 0=(digs n).getD j 0) (hlt:(digs m).getD k 0 < (digs n).getD k 0):m < n:=by
 have:=val_lt_at (digs_Dg m) (digs_Dg n) hl hk h hlt
 rw[val_digs,val_digs] at this;omega
theorem digs_cmp_eq {m n:Nat} (hl:(digs m).length=(digs n).length) (h:∀ j,j < (digs m).length→(digs m).getD j 0=(digs n).getD j 0):m=n:=digs_inj (val_eq_all hl h)
theorem pow_s (k:Nat):BB ^ (k+1)=BB ^ k*BB:=Int.pow_succ ..
theorem Dg.snoc {l:List Int} {x:Int} (h:Dg l) (hx:Dgt x):Dg (l++[x]):=h.app (.cons hx .nil)
theorem val_snoc (l:List Int) (x:Int):val (l++[x])=val l+BB ^ l.length*x:=by rw[val_app];simp[val]
theorem plus_step {a b o:List Int} {k:Nat} {c v:Int} (hk:k < o.length) (hd:Dg (o.take k)) (hv:val (o.take k)+BB ^ k*c=val (a.take k)+val (b.take k)) (c':Int) (hx:Dgt v) (he:v+BB*c'=a.getD k 0+b.getD k 0+c) :
  Dg ((o.set k v).take (k+1))∧val ((o.set k v).take (k+1))+BB ^ (k+1)*c'=val (a.take (k+1))+val (b.take (k+1)):=by
 rw[take_set_succ hk]
 refine⟨hd.snoc hx,?_⟩
 rw[val_snoc,List.length_take,Nat.min_eq_left (by omega),val_take_s,val_take_s,pow_s]
 have e:=congrArg (BB ^ k*·) he
 simp only[Int.mul_add] at e
 rw[Int.mul_assoc]
 generalize BB ^ k*(BB*c')=q1 at *
 generalize BB ^ k*v=q2 at *
 generalize BB ^ k*a.getD k 0=q3 at *
 generalize BB ^ k*b.getD k 0=q4 at *
 generalize BB ^ k*c=q5 at *
 omega
theorem plus_end {a b o:List Int} {c:Int} (h:o.length=a.length+1) (hb:b.length≤a.length) (hd:Dg (o.take a.length)) (hv:val (o.take a.length)+BB ^ a.length*c=val (a.take a.length)+val (b.take a.length)) (hc:Dgt c) :
  Dg (o.set a.length c)∧val (o.set a.length c)=val a+val b:=by
 have hk:a.length < o.length:=by omega
 have e:o.set a.length c=o.take a.length++[c]:=by
  rw[←take_set_succ hk,List.take_of_length_le (by simp;omega)]
 rw[e]
 refine⟨hd.snoc hc,?_⟩
 rw[val_snoc,List.length_take,Nat.min_eq_left (by omega),hv,List.take_length,List.take_of_length_le hb]
structure Mi (a b o:List Int) (k:Nat) (c:Int):Prop where
 l:o.length=a.length
 d:Dg (o.take k)
 v:val (o.take k)=val (a.take k) - val (b.take k)+BB ^ k*c
 c0:c=0∨c=1
 at':k < a.length→o.getD k 0=a.getD k 0 - c
 r:∀ j,k < j→j < a.length→o.getD j 0=a.getD j 0
theorem Mi.z {a b:List Int}:Mi a b a 0 0:=⟨rfl,by simp[Dg.nil],by simp[val],.inl rfl,fun _=>by omega,fun j _ _=>rfl⟩
theorem Mi.end' {a b o:List Int} {c:Int} (hb:b.length≤a.length) (h:Mi a b o a.length c) (hle:val b≤val a):c=0∧Dg o∧val o=val a - val b:=by
 have hv:=h.v
 have hd:=h.d
 rw[←h.l,List.take_length] at hd
 rw[←h.l,List.take_length,h.l,List.take_length,List.take_of_length_le hb] at hv
 have h1:=val_lt hd
 rw[h.l] at h1
 have hp:=BB_pos a.length
 rcases h.c0 with hc|hc
 ·subst hc;exact⟨rfl,hd,by rw[hv];simp⟩
 ·subst hc;rw[Int.mul_one] at hv;omega
theorem Mi.last {a b o:List Int} {k:Nat} {c:Int} (ha:Dg a) (hbd:Dg b) (hb:b.length≤a.length) (h:Mi a b o k c) (hle:val b≤val a) (hk:k+1=a.length):0≤a.getD k 0 - c - b.getD k 0:=by
 have hv:=h.v
 have e1:=val_take_s a k
 have e2:=val_take_s b k
 rw[hk,List.take_length] at e1
 rw[hk,List.take_of_length_le hb] at e2
 have h1:=val_lt h.d
 have h2:=val_nonneg h.d
 rw[List.length_take,h.l,Nat.min_eq_left (by omega)] at h1
 have hp:=BB_pos k
 refine Int.not_lt.1 fun hlt=>?_
 have e3:BB ^ k*(a.getD k 0 - c - b.getD k 0)≤BB ^ k*(-1):=Int.mul_le_mul_of_nonneg_left (by omega) (by omega)
 rw[Int.mul_sub,Int.mul_sub] at e3
 omega
theorem Mi.step {a b o:List Int} {k:Nat} {c:Int} (h:Mi a b o k c) (hk:k < a.length) {v c':Int} (hx:Dgt v) (hc:c'=0∨c'=1) (he:v=a.getD k 0 - c - b.getD k 0+BB*c') {o':List Int} (hl:o'.length=a.length) (ht:o'.take (k+1)=o.take k++[v]) (hat:k+1 < a.length→o'.getD (k+1) 0=a.getD (k+1) 0 - c') (hr:∀ j,k+1 < j→j < a.length→o'.getD j 0=a.getD j 0):Mi a b o' (k+1) c':=by
 refine⟨hl,by rw[ht];exact h.d.snoc hx,?_,hc,hat,hr⟩
 rw[ht,val_snoc,List.length_take,h.l,Nat.min_eq_left (by omega),h.v,val_take_s,val_take_s,pow_s,he]
 simp only[Int.mul_add,Int.mul_sub,Int.mul_assoc]
 omega
structure Mu (a b o:List Int) (i k:Nat) (c:Int):Prop where
 l:o.length=a.length+b.length
 d:Dg o
 cd:Dgt c
 v:val o+BB ^ (i+k)*c=val (a.take i)*val b+BB ^ i*(a.getD i 0*val (b.take k))
 r:∀ j,i+b.length≤j→o.getD j 0=0
theorem Mu.z {a b:List Int}:Mu a b (List.replicate (a.length+b.length) 0) 0 0 0:=⟨by simp,Dg.rep _,⟨by decide,by decide⟩,by rw[val_rep];simp[val],fun j _=>by
 simp only[List.getD_eq_getElem?_getD,List.getElem?_replicate];split <;> rfl⟩
theorem mu_bd {x d e c:Int} (hx:Dgt x) (hd:Dgt d) (he:Dgt e) (hc:Dgt c):0≤x+d*e+c∧x+d*e+c≤999999999999999999∧0≤d*e∧d*e≤999999998000000001:=by
 have hx':0≤x∧x < 1000000000:=hx
 have hd':0≤d∧d < 1000000000:=hd
 have he':0≤e∧e < 1000000000:=he
 have hc':0≤c∧c < 1000000000:=hc
 have h1:0≤d*e:=Int.mul_nonneg hd'.1 he'.1
 have h2:d*e≤999999999*999999999:=Int.mul_le_mul (by omega) (by omega) he'.1 (by omega)
 omega
theorem Mu.step {a b o:List Int} {i k:Nat} {c:Int} (h:Mu a b o i k c) (hi:i < a.length) (hk:k < b.length) {w q:Int} (hw:Dgt w) (hq:Dgt q) (he:w+BB*q=o.getD (i+k) 0+a.getD i 0*b.getD k 0+c):Mu a b (o.set (i+k) w) i (k+1) q:=by
 have hl:=h.l
 refine⟨by simpa using hl,h.d.set hw,hq,?_,fun j hj=>?_⟩
 ·rw[val_set (by omega),val_take_s]
  have hv:=h.v
  have e:=congrArg (BB ^ (i+k)*·) he
  simp only[Int.mul_add] at e
  rw[show i+(k+1)=(i+k)+1 by omega,pow_s,Int.mul_sub,Int.mul_add,Int.mul_add]
  have e2:BB ^ i*(a.getD i 0*(BB ^ k*b.getD k 0))=BB ^ (i+k)*(a.getD i 0*b.getD k 0):=by
   rw[Int.pow_add];simp only[Int.mul_assoc,Int.mul_left_comm]
  rw[e2,Int.mul_assoc]
  omega
 ·rw[getD_seti,if_neg (fun hx=>by omega)];exact h.r j hj
theorem Mu.row {a b o:List Int} {i:Nat} {c:Int} (h:Mu a b o i b.length c) (hi:i < a.length):Mu a b (o.set (i+b.length) c) (i+1) 0 0:=by
 have hl:=h.l
 refine⟨by simpa using hl,h.d.set h.cd,⟨by decide,by decide⟩,?_,fun j hj=>?_⟩
 ·rw[val_set (by omega),h.r _ (Nat.le_refl _)]
  have hv:=h.v
  rw[List.take_length] at hv
  rw[val_take_s,Int.add_mul,Int.mul_assoc]
  simp only[List.take_zero,val,Int.mul_zero,Int.sub_zero,Int.add_zero]
  omega
 ·rw[getD_seti,if_neg (fun hx=>by omega)];exact h.r j (by omega)
theorem Mu.fin {a b o:List Int} (h:Mu a b o a.length 0 0):Dg o∧val o=val a*val b:=by
 have hv:=h.v
 rw[List.take_length] at hv
 simp only[List.take_zero,val,Int.mul_zero,Int.add_zero] at hv
 exact⟨h.d,hv⟩
end Go.Proofs.YtaongbhamadlkaaGreat
namespace Go.Proofs.YtaongbhamadlkaaGreat
open W Go.RowKit
attribute [local irreducible] WC WL WD YO LO LoopEnd W.Fin Scalar SliceT FieldAt Row ArrT AllocT KnS Has W.One SrcE IntT
set_option maxHeartbeats 4000000 in
set_option maxRecDepth 8000 in
theorem plus0_c (u w:Value) (a b:List Int) (u' w':Value) (a' b':List Int) (ha:Dg a) (hb:Dg b) (hl:a.length≤1000000000) (hl2:b.length≤a.length) (hsw:(u=u'∧w=w'∧a=a'∧b=b'∧¬a'.length < b'.length)∨(w=u'∧u=w'∧b=a'∧a=b'∧a'.length < b'.length)) :
  FnB Tryz.prog 153 [u',w'] [] [sI u' a',sI w' b'] (IsDg (val a+val b) (a.length+1)):=by
 refine fn_of [(0,u'),(1,w')] 56 Tryz.func153 rfl Tryz.ntmps153 (by kernel_rfl) rfl suA fun h0=>?_
 rcases hsw with ⟨rfl,rfl,rfl,rfl,hc⟩|⟨rfl,rfl,rfl,rfl,hc⟩
 all_goals
  repeat'(first|refine gA ?_|(refine goG ?_;intro g)|(refine goV ?_;intro v))
  refine WC.lp (σ:=Nat×List Int×Int) (fun s=>[(23,.int .i64 (s.1:Int)),(22,.int .i64 (a.length:Int)),(21,u),(5,v),(6,.int .i64 s.2.2),(0,u),(1,w)]) (fun s=>[Ow.slice v 3 1 (ints s.2.1)]) (fun _=>[ge h0,sI u a,sI w b])
   (fun s=>s.1≤a.length∧s.2.1.length=a.length+1∧(s.2.2=0∨s.2.2=1)∧Dg (s.2.1.take s.1)∧val (s.2.1.take s.1)+BB ^ s.1*s.2.2=val (a.take s.1)+val (b.take s.1)) (fun s=>a.length - s.1) (0,List.replicate (a.length+1) 0,0) ⟨by simp,by simp,.inl rfl,by simp[Dg.nil],by simp[val]⟩ ?_
  rintro⟨k,o,c⟩ ⟨hk,ho,hc01,hd,hv⟩
  simp only at hk ho hc01 hd hv ⊢
  by_cases hlt:k < a.length
  ·have h1:0≤a.getD k 0∧a.getD k 0 < 1000000000:=ha.any k
   have h2:0≤b.getD k 0∧b.getD k 0 < 1000000000:=hb.any k
   have hst:=fun x c' h3 h4=>plus_step (a:=a) (b:=b) (o:=o) (k:=k) (c:=c) (v:=x) (by omega) hd hv c' h3 h4
   by_cases hkb:k < b.length
   ·by_cases hcy:1000000000≤a.getD k 0+c+b.getD k 0
    ·repeat'(first|refine gA ?_|(refine goG ?_;intro g)|(refine goV ?_;intro v))
     obtain⟨h5,h6⟩:=hst (a.getD k 0+c+b.getD k 0 - 1000000000) 1 ⟨by omega,by show _ < (1000000000:Int);omega⟩ (by show _+(1000000000:Int)*1=_;omega)
     exact LoopEnd.mk (k+1,o.set k (a.getD k 0+c+b.getD k 0 - 1000000000),1) ⟨by show k+1≤a.length;omega,by simpa using ho,.inr rfl,h5,h6⟩ (by show a.length - (k+1) < a.length - k;omega)
    ·repeat'(first|refine gA ?_|(refine goG ?_;intro g)|(refine goV ?_;intro v))
     obtain⟨h5,h6⟩:=hst (a.getD k 0+c+b.getD k 0) 0 ⟨by omega,by show _ < (1000000000:Int);omega⟩ (by show _+(1000000000:Int)*0=_;omega)
     exact LoopEnd.mk (k+1,o.set k (a.getD k 0+c+b.getD k 0),0) ⟨by show k+1≤a.length;omega,by simpa using ho,.inl rfl,h5,h6⟩ (by show a.length - (k+1) < a.length - k;omega)
   ·have hb0:b.getD k 0=0:=getD_over (by omega)
    by_cases hcy:1000000000≤a.getD k 0+c
    ·repeat'(first|refine gA ?_|(refine goG ?_;intro g)|(refine goV ?_;intro v))
     obtain⟨h5,h6⟩:=hst (a.getD k 0+c - 1000000000) 1 ⟨by omega,by show _ < (1000000000:Int);omega⟩ (by show _+(1000000000:Int)*1=_;omega)
     exact LoopEnd.mk (k+1,o.set k (a.getD k 0+c - 1000000000),1) ⟨by show k+1≤a.length;omega,by simpa using ho,.inr rfl,h5,h6⟩ (by show a.length - (k+1) < a.length - k;omega)
    ·repeat'(first|refine gA ?_|(refine goG ?_;intro g)|(refine goV ?_;intro v))
     obtain⟨h5,h6⟩:=hst (a.getD k 0+c) 0 ⟨by omega,by show _ < (1000000000:Int);omega⟩ (by show _+(1000000000:Int)*0=_;omega)
     exact LoopEnd.mk (k+1,o.set k (a.getD k 0+c),0) ⟨by show k+1≤a.length;omega,by simpa using ho,.inl rfl,h5,h6⟩ (by show a.length - (k+1) < a.length - k;omega)
  ·obtain rfl:k=a.length:=by omega
   obtain⟨h5,h6⟩:=plus_end ho hl2 hd hv ⟨by omega,by show c < (1000000000:Int);omega⟩
   repeat'(first|refine gA ?_|(refine goG ?_;intro g)|(refine goV ?_;intro v))
   refine WC.freezeI (l:=o.set a.length c) (v:=v) (el:=3) (by repeat(first|exact Sel.head|apply Sel.tail)) ?_
   refine WC.ret ?_
   exact Fin.p [] [sI v (o.set a.length c)] (ResE.t1 rfl rfl) meA (List.nil_sublist _) haA ⟨_,rfl,rfl,h5,h6,by simp;omega⟩
theorem plus_c (u w:Value) (a b:List Int) (ha:Dg a) (hb:Dg b) (hl:a.length≤1000000000) (hl2:b.length≤1000000000):FnB Tryz.prog 153 [u,w] [] [sI u a,sI w b] (IsDg (val a+val b) (max a.length b.length+1)):=by
 by_cases c:a.length < b.length
 ·have:=plus0_c w u b a u w a b hb ha hl2 (by omega) (.inr ⟨rfl,rfl,rfl,rfl,c⟩)
  rwa [Int.add_comm,show b.length+1=max a.length b.length+1 by omega] at this
 ·have:=plus0_c u w a b u w a b ha hb hl (by omega) (.inl ⟨rfl,rfl,rfl,rfl,c⟩)
  rwa [show a.length+1=max a.length b.length+1 by omega] at this
end Go.Proofs.YtaongbhamadlkaaGreat
namespace Go.Proofs.YtaongbhamadlkaaGreat
open W Go.RowKit
theorem Mi.step0 {a b o:List Int} {k:Nat} {c v:Int} (h:Mi a b o k c) (hk:k < a.length) (hx:Dgt v) (he:v=a.getD k 0 - c - b.getD k 0):Mi a b (o.set k v) (k+1) 0:=by
 refine h.step hk hx (.inl rfl) (by rw[he];simp) (by simpa using h.l) (take_set_succ (by rw[h.l];exact hk)) (fun h1=>?_) (fun j h1 h2=>?_)
 ·rw[getD_seti,if_neg (fun hx=>by omega),h.r _ (by omega) h1];omega
 ·rw[getD_seti,if_neg (fun hx=>by omega),h.r _ (by omega) h2]
theorem Mi.step1 {a b o:List Int} {k:Nat} {c v:Int} (h:Mi a b o k c) (hk:k+1 < a.length) (hx:Dgt v) (he:v=a.getD k 0 - c - b.getD k 0+1000000000):Mi a b ((o.set k v).set (k+1) ((o.set k v).getD (k+1) 0 - 1)) (k+1) 1:=by
 have e1:(o.set k v).getD (k+1) 0=a.getD (k+1) 0:=by rw[getD_seti,if_neg (fun hx=>by omega),h.r _ (by omega) hk]
 refine h.step (by omega) hx (.inr rfl) (by rw[he];rfl) (by simpa using h.l) ?_ (fun h1=>?_) (fun j h1 h2=>?_)
 ·rw[List.take_set_of_le (Nat.le_refl _),take_set_succ (by rw[h.l];omega)]
 ·rw[getD_seti,if_pos ⟨rfl,by simp[h.l];omega⟩,e1]
 ·rw[getD_seti,if_neg (fun hx=>by omega),getD_seti,if_neg (fun hx=>by omega),h.r _ (by omega) h2]
namespace Mns
attribute [local irreducible] WC WL WD YO LO LoopEnd W.Fin Scalar SliceT FieldAt Row ArrT AllocT KnS Has W.One SrcE IntT
theorem d155 {G G':Prop} (h:G') (s:Bx G'→G:=by
 intro h
 first|(apply WC.draw (id:=7) [0,1,2,3,4,5,6,7,8,9] (.held 0 (.held 1 (.held 2 (.held 3 (.held 4 (.held 5 (.held 6 (.held 7 (.held 8 (.held 9 (.loud 10 (.done)))))))))))) mixed (by kernel_rfl))|fail
 exact Bx.h h):G:=s ⟨h⟩
theorem goB {G G':Prop} (h:G') (s:Bx G'→G:=by
 intro h
 first
  |(apply WL.l;exact rfl;exact rfl;apply LO.copyI;(first|exact T.s22|exact T.s23|exact T.s24|exact T.s48|exact T.s72|exact T.s86|exact T.s129|exact T.s131);exact rfl;exact rfl;exact seA;exact hmA;(simp only[List.length_replicate]);omega)
 exact Bx.h h):G:=s ⟨h⟩
set_option maxHeartbeats 4000000 in
set_option maxRecDepth 8000 in
theorem minus_c (u w:Value) (a b:List Int) (ha:Dg a) (hb:Dg b) (hl:a.length≤1000000000) (hl2:b.length≤a.length) (h0a:0 < a.length) (hle:val b≤val a) :
  FnB Tryz.prog 155 [u,w] [] [sI u a,sI w b] (IsDg (val a - val b) a.length):=by
 refine fn_of [(0,u),(1,w)] 52 Tryz.func155 rfl Tryz.ntmps155 (by kernel_rfl) rfl suA fun h0=>?_
 repeat'(first|refine gB ?_|(refine gH ?_;intro g)|(refine gW ?_;intro v)|refine d155 ?_|fail)
 refine WC.lp (σ:=Nat×List Int×Int) (fun s=>[(15,.int .i64 (s.1:Int)),(14,.int .i64 (a.length:Int)),(5,v),(0,u),(1,w)]) (fun s=>[Ow.slice v 3 1 (ints s.2.1)]) (fun _=>[ge h0,sI u a,sI w b])
  (fun s=>s.1≤a.length∧Mi a b s.2.1 s.1 s.2.2) (fun s=>a.length - s.1) (0,a,0) ⟨by simp,Mi.z⟩ ?_
 rintro⟨k,o,c⟩ ⟨hk,hm⟩
 simp only at hk hm ⊢
 have hol:=hm.l
 by_cases hlt:k < a.length
 ·have h1:0≤a.getD k 0∧a.getD k 0 < 1000000000:=ha.any k
  have h2:0≤b.getD k 0∧b.getD k 0 < 1000000000:=hb.any k
  have hc:=hm.c0
  have hok:o.getD k 0=a.getD k 0 - c:=hm.at' hlt
  have hlast:=hm.last ha hb hl2 hle
  by_cases hkb:k < b.length
  ·have e1:(o.set k (o.getD k 0 - b.getD k 0)).getD k 0=o.getD k 0 - b.getD k 0:=by rw[getD_seti,if_pos ⟨rfl,by omega⟩]
   by_cases hneg:o.getD k 0 - b.getD k 0 < 0
   ·have hk2:k+1 < a.length:=by
     refine Nat.lt_of_not_le fun hx=>?_
     have:=hlast (by omega);omega
    have hs:=hm.step1 hk2 (v:=o.getD k 0 - b.getD k 0+1000000000) ⟨by omega,by show _ < (1000000000:Int);omega⟩ (by omega)
    have hx:=ha.any (k+1)
    have hx':0≤a.getD (k+1) 0∧a.getD (k+1) 0 < 1000000000:=hx
    have e3:(o.set k (o.getD k 0 - b.getD k 0+1000000000)).getD (k+1) 0=a.getD (k+1) 0:=by rw[getD_seti,if_neg (fun hx=>by omega),hm.r _ (by omega) hk2]
    have e4:((k:Int)+1).toNat=k+1:=by omega
    have hng2:(o.set k (o.getD k 0 - b.getD k 0)).getD k 0 < 0:=by rw[e1];exact hneg
    repeat'(first|refine gB ?_|(refine gH ?_;intro g)|(refine gW ?_;intro v)|refine d155 ?_|fail)
    simp only[e1,List.set_set]
    repeat'(first|refine gB ?_|(refine gH ?_;intro g)|(refine gW ?_;intro v)|refine d155 ?_|fail)
    exact LoopEnd.mk (k+1,_,1) ⟨by show k+1≤a.length;omega,hs⟩ (by show a.length - (k+1) < a.length - k;omega)
   ·have hs:=hm.step0 hlt (v:=o.getD k 0 - b.getD k 0) ⟨by omega,by show _ < (1000000000:Int);omega⟩ (by omega)
    have hng2:¬(o.set k (o.getD k 0 - b.getD k 0)).getD k 0 < 0:=by rw[e1];exact hneg
    repeat'(first|refine gB ?_|(refine gH ?_;intro g)|(refine gW ?_;intro v)|refine d155 ?_|fail)
    exact LoopEnd.mk (k+1,_,0) ⟨by show k+1≤a.length;omega,hs⟩ (by show a.length - (k+1) < a.length - k;omega)
  ·have hb0:b.getD k 0=0:=getD_over (by omega)
   by_cases hneg:o.getD k 0 < 0
   ·have hk2:k+1 < a.length:=by
     refine Nat.lt_of_not_le fun hx=>?_
     have:=hlast (by omega);omega
    have hs:=hm.step1 hk2 (v:=o.getD k 0+1000000000) ⟨by omega,by show _ < (1000000000:Int);omega⟩ (by omega)
    have hx':0≤a.getD (k+1) 0∧a.getD (k+1) 0 < 1000000000:=ha.any (k+1)
    have e3:(o.set k (o.getD k 0+1000000000)).getD (k+1) 0=a.getD (k+1) 0:=by rw[getD_seti,if_neg (fun hx=>by omega),hm.r _ (by omega) hk2]
    rw[e3] at hs
    repeat'(first|refine gB ?_|(refine gH ?_;intro g)|(refine gW ?_;intro v)|refine d155 ?_|fail)
    rw[e3]
    repeat'(first|refine gB ?_|(refine gH ?_;intro g)|(refine gW ?_;intro v)|refine d155 ?_|fail)
    exact LoopEnd.mk (k+1,_,1) ⟨by show k+1≤a.length;omega,hs⟩ (by show a.length - (k+1) < a.length - k;omega)
   ·have hs:=hm.step0 hlt (v:=o.getD k 0) ⟨by omega,by show _ < (1000000000:Int);omega⟩ (by omega)
    have e5:o.set k (o.getD k 0)=o:=by
     apply List.ext_getElem?
     intro j
     rw[List.getElem?_set]
     split
     ·rename_i hj;subst hj;rw[if_pos (by omega)];simp[List.getD_eq_getElem?_getD,show k < o.length by omega]
     ·rfl
    rw[e5] at hs
    repeat'(first|refine gB ?_|(refine gH ?_;intro g)|(refine gW ?_;intro v)|refine d155 ?_|fail)
    exact LoopEnd.mk (k+1,o,0) ⟨by show k+1≤a.length;omega,hs⟩ (by show a.length - (k+1) < a.length - k;omega)
 ·obtain rfl:k=a.length:=by omega
  obtain⟨h4,h5,h6⟩:=hm.end' hl2 hle
  repeat'(first|refine gB ?_|(refine gH ?_;intro g)|(refine gW ?_;intro v)|refine d155 ?_|fail)
  refine WC.freezeI (l:=o) (v:=v) (el:=3) (by repeat(first|exact Sel.head|apply Sel.tail)) ?_
  refine WC.ret ?_
  exact Fin.p [] [sI v o] (ResE.t1 rfl rfl) meA (List.nil_sublist _) haA ⟨_,rfl,rfl,h5,h6,by omega⟩
end Mns
end Go.Proofs.YtaongbhamadlkaaGreat
namespace Go.Proofs.YtaongbhamadlkaaGreat
open W Go.RowKit
theorem digs_len1 {n:Nat} (h:(digs n).length=1):n≠0∧n < 1000000000:=by
 have h1:=@digs_lt n
 rw[h] at h1
 exact⟨fun h2=>by have:=digs_len0.2 h2;omega,by simpa using h1⟩
theorem sign_mul {x y:Int} {a b:Bool} (ha:a=decide (x < 0)) (hb:b=decide (y < 0)) (h:x*y≠0):(!(a == b))=decide (x*y < 0):=by
 have hx:x≠0:=fun hx=>h (by rw[hx];simp)
 have hy:y≠0:=fun hy=>h (by rw[hy];simp)
 subst ha hb
 rcases Int.lt_or_lt_of_ne hx with h1|h1 <;> rcases Int.lt_or_lt_of_ne hy with h2|h2
 ·have:=Int.mul_pos_of_neg_of_neg h1 h2
  rw[decide_eq_true h1,decide_eq_true h2,decide_eq_false (by omega)];rfl
 ·have:=Int.mul_neg_of_neg_of_pos h1 h2
  rw[decide_eq_true h1,decide_eq_false (by omega),decide_eq_true this];rfl
 ·have:=Int.mul_neg_of_pos_of_neg h1 h2
  rw[decide_eq_false (by omega),decide_eq_true h2,decide_eq_true this];rfl
 ·have:=Int.mul_pos h1 h2
  rw[decide_eq_false (by omega),decide_eq_false (by omega),decide_eq_false (by omega)];rfl
theorem nabs_mul_val (x y:Int):(x*y).natAbs=(val (digs x.natAbs)*val (digs y.natAbs)).toNat:=by
 rw[val_digs,val_digs,Int.natAbs_mul]
 have:((x.natAbs:Int)*(y.natAbs:Int))=((x.natAbs*y.natAbs:Nat):Int):=by simp
 rw[this,Int.toNat_natCast]
theorem val_mul_ne {x y:Int} (h:val (digs x.natAbs)*val (digs y.natAbs)≠0):x*y≠0:=fun hxy=>by
 rw[val_digs,val_digs] at h
 rcases Int.mul_eq_zero.1 hxy with rfl|rfl <;> simp at h
attribute [local irreducible] WC WL WD YO LO LoopEnd W.Fin Scalar SliceT FieldAt Row ArrT AllocT KnS Has W.One SrcE IntT
theorem d92 {G G':Prop} (h:G') (s:Bx G'→G:=by
 intro h
 first|(apply WC.draw (id:=1) [0,1,2,3,4,5] (.held 0 (.held 1 (.held 2 (.held 3 (.held 4 (.held 5 (.done))))))) mixed (by kernel_rfl))|(apply WC.draw (id:=3) [0,1,2,3,4,5,6,7,8,9,10,11,12,13] (.held 0 (.held 1 (.held 2 (.held 3 (.held 4 (.held 5 (.held 6 (.held 7 (.held 8 (.held 9 (.held 10 (.held 11 (.held 12 (.held 13 (.loud 14 (.loud 15 (.done))))))))))))))))) mixed (by kernel_rfl))|fail
 exact Bx.h h):G:=s ⟨h⟩
theorem YO.bneq {e:Env} {bx:List Ow} {F:List Fct} {ty t':TypeId} {x y:Operand} {a b:Bool} (hx:ev e x=some (.bool a)) (hy:ev e y=some (.bool b)):YO Tryz.prog (.binOp .neq 4 x y t') ty e bx F (.bool (!(a == b))):=YO.bne bool_t hx hy
namespace Mlt
theorem goB {G G':Prop} (h:G') (s:Bx G'→G:=by
 intro h
 first
  |(apply WD.k_neq;exact rfl;(apply YO.bneq;exact rfl;exact rfl);exact rfl;exact rfl)
  |(apply WL.k_neq;(apply YO.bneq;exact rfl;exact rfl);exact rfl;exact rfl)
  |(apply WL.k_mul;(apply YO.mul;exact rfl;exact rfl;omega;omega);exact rfl;exact rfl)
 exact Bx.h h):G:=s ⟨h⟩
set_option maxHeartbeats 4000000 in
set_option maxRecDepth 8000 in
theorem mul_c (v1 v2:Value) (x y:Int) (h1:(digs x.natAbs).length≤1000000000) (h2:(digs y.natAbs).length≤1000000000):FnB Tryz.prog 92 [v1,v2] [] [isZ v1 x,isZ v2 y] (IsZ (x*y)):=by
 refine fn_of [(0,v1),(1,v2)] 100 Tryz.func92 rfl Tryz.ntmps92 (by kernel_rfl) rfl suA fun h0=>?_
 refine WC.openZ (v:=v1) (z:=x) hmA fun n1 d1 hv hb1=>?_
 subst hv
 refine WC.openZ (v:=v2) (z:=y) hmA fun n2 d2 hv hb2=>?_
 subst hv
 obtain⟨a,ha⟩:∃ a,digs x.natAbs=a:=⟨_,rfl⟩
 obtain⟨b,hb⟩:∃ b,digs y.natAbs=b:=⟨_,rfl⟩
 have hda:Dg a:=ha ▸ digs_Dg _
 have hdb:Dg b:=hb ▸ digs_Dg _
 have hab:=nabs_mul_val x y
 have hne:=@val_mul_ne x y
 have hl1:=@digs_len1 x.natAbs
 have hl2:=@digs_len1 y.natAbs
 have hg1:=fun h=>@digs_1 x.natAbs h
 have hg2:=fun h=>@digs_1 y.natAbs h
 refine WC.fact (sI d1 (digs x.natAbs)) (hasZ_d hmA) ?_
 refine WC.fact (sI d2 (digs y.natAbs)) (hasZ_d hmA) ?_
 rw[ha] at h1 hab hne hl1 hg1 ⊢
 rw[hb] at h2 hab hne hl2 hg2 ⊢
 by_cases c1:a.length=1∧b.length=1
 ·obtain⟨c1,c2⟩:=c1
  have hx:=hl1 c1
  have hy:=hl2 c2
  have hg1:=hg1 hx.1 hx.2
  have hg2:=hg2 hy.1 hy.2
  have ea:a.getD 0 0=(x.natAbs:Int):=by rw[hg1];rfl
  have eb:b.getD 0 0=(y.natAbs:Int):=by rw[hg2];rfl
  have hp:x.natAbs*y.natAbs≤999999999*999999999:=Nat.mul_le_mul (by omega) (by omega)
  have hp2:((x.natAbs:Int)*(y.natAbs:Int))=((x.natAbs*y.natAbs:Nat):Int):=by simp
  have q1:0≤(x.natAbs:Int)*(y.natAbs:Int):=by omega
  have q2:(x.natAbs:Int)*(y.natAbs:Int)≤18446744073709551615:=by omega
  have ea':a.getD (0:Int).toNat 0=(x.natAbs:Int):=ea
  have eb':b.getD (0:Int).toNat 0=(y.natAbs:Int):=eb
  have h3:0≤a.getD (0:Int).toNat 0:=by omega
  have h4:0≤b.getD (0:Int).toNat 0:=by omega
  have h5:0≤a.getD (0:Int).toNat 0*b.getD (0:Int).toNat 0:=by rw[ea',eb'];exact q1
  have h6:a.getD (0:Int).toNat 0*b.getD (0:Int).toNat 0≤18446744073709551615:=by rw[ea',eb'];exact q2
  repeat'(first|refine gB ?_|(refine gH ?_;intro g)|(refine gW ?_;intro v)|refine d92 ?_|fail)
  rw[show a.getD (0:Int).toNat 0*b.getD (0:Int).toNat 0=((x.natAbs*y.natAbs:Nat):Int) by rw[ea',eb',hp2]]
  first|refine WL.callK (unsigned_c (!(n1 == n2)) (x.natAbs*y.natAbs) (x*y) (by omega) (Int.natAbs_mul x y) (fun hxy=>sign_mul hb1 hb2 (by rw[Ne,←Int.natAbs_eq_zero,Int.natAbs_mul];exact hxy))) ?_|refine WD.callK (unsigned_c (!(n1 == n2)) (x.natAbs*y.natAbs) (x*y) (by omega) (Int.natAbs_mul x y) (fun hxy=>sign_mul hb1 hb2 (by rw[Ne,←Int.natAbs_eq_zero,Int.natAbs_mul];exact hxy))) ?_|refine LO.callM (unsigned_c (!(n1 == n2)) (x.natAbs*y.natAbs) (x*y) (by omega) (Int.natAbs_mul x y) (fun hxy=>sign_mul hb1 hb2 (by rw[Ne,←Int.natAbs_eq_zero,Int.natAbs_mul];exact hxy))) ?_
  rintro _ _ _ ⟨nb,d,rfl,hb,rfl,rfl⟩
  simp only[List.nil_append,List.cons_append]
  repeat'(first|refine gB ?_|(refine gH ?_;intro g)|(refine gW ?_;intro v)|refine d92 ?_|fail)
  refine WC.ret ?_
  exact Fin.p [] [isZ (.agg #[.bool nb,d]) (x*y)] (ResE.cV rfl rfl meA T.r29 rfl) meA (List.nil_sublist _) haA ⟨nb,_,rfl,hb,rfl,rfl⟩
 ·have hmk:(List.replicate (a.length+b.length) (0:Int)).length=a.length+b.length:=by simp
  have key:¬(a.length=1∧b.length=1):=c1
  have hsplit:(¬a.length=1)∨(a.length=1∧¬b.length=1):=by omega
  rcases hsplit with c2|⟨c2,c3⟩
  all_goals
   repeat'(first|refine gB ?_|(refine gH ?_;intro g)|(refine gW ?_;intro v)|refine d92 ?_|fail)
   rename_i g2 g3
   revert g;intro g4
   refine WC.lp (σ:=Nat×List Int) (fun s=>[(49,.int .i64 (s.1:Int)),(48,.int .i64 (a.length:Int)),(47,d1),(5,d1),(6,d2),(7,v),(2,ptr g2),(3,ptr g3),(4,ptr g4)]) (fun s=>[Ow.slice v 3 1 (ints s.2),Ow.cells g4 29 [.bool false,.slice none 0 0],Ow.cells g3 29 [.bool n2,d2],Ow.cells g2 29 [.bool n1,d1]]) (fun _=>[ge h0,sI d1 a,sI d2 b])
    (fun s=>s.1≤a.length∧Mu a b s.2 s.1 0 0) (fun s=>a.length - s.1) (0,List.replicate (a.length+b.length) 0) ⟨by simp,Mu.z⟩ ?_
   rintro⟨i,o⟩ ⟨hi,hm⟩
   simp only at hi hm ⊢
   have hol:=hm.l
   by_cases hlt:i < a.length
   ·repeat'(first|refine gB ?_|(refine gH ?_;intro g)|(refine gW ?_;intro v)|refine d92 ?_|fail)
    refine WC.lp (σ:=Nat×List Int×Int) (fun s=>[(56,.int .i64 (s.1:Int)),(55,.int .i64 (b.length:Int)),(54,d2),(10,.int .i64 s.2.2),(8,.int .i64 (i:Int)),(9,.int .i64 (a.getD i 0)),(49,.int .i64 (i:Int)),(48,.int .i64 (a.length:Int)),(47,d1),(5,d1),(6,d2),(7,v),(2,ptr g2),(3,ptr g3),(4,ptr g4)]) (fun s=>[Ow.slice v 3 1 (ints s.2.1),Ow.cells g4 29 [.bool false,.slice none 0 0],Ow.cells g3 29 [.bool n2,d2],Ow.cells g2 29 [.bool n1,d1]]) (fun _=>[ge h0,sI d1 a,sI d2 b])
     (fun s=>s.1≤b.length∧Mu a b s.2.1 i s.1 s.2.2) (fun s=>b.length - s.1) (0,o,0) ⟨by simp,hm⟩ ?_
    rintro⟨k,o2,c⟩ ⟨hk,hm2⟩
    simp only at hk hm2 ⊢
    have hol2:=hm2.l
    by_cases hkl:k < b.length
    ·have hbd:=mu_bd (hm2.d.any (i+k)) (hda.any i) (hdb.any k) hm2.cd
     have eik:((i:Int)+(k:Int)).toNat=i+k:=by omega
     have hst:=fun w q hw hq he=>hm2.step hlt hkl (w:=w) (q:=q) hw hq he
     have eo:o2.getD ((i:Int)+(k:Int)).toNat 0=o2.getD (i+k) 0:=by rw[eik]
     have hP1:0≤a.getD i 0*b.getD k 0:=by omega
     have hP2:a.getD i 0*b.getD k 0≤9223372036854775807:=by omega
     have hx:0≤o2.getD (i+k) 0∧o2.getD (i+k) 0 < 1000000000:=hm2.d.any (i+k)
     have hcd:0≤c∧c < 1000000000:=hm2.cd
     have hst:=hst (o2.getD (i+k) 0+a.getD i 0*b.getD k 0+c - (o2.getD (i+k) 0+a.getD i 0*b.getD k 0+c) / 1000000000*1000000000) ((o2.getD (i+k) 0+a.getD i 0*b.getD k 0+c) / 1000000000) ⟨by omega,by show _ < (1000000000:Int);omega⟩ ⟨by omega,by show _ < (1000000000:Int);omega⟩ (by show _+(1000000000:Int)*_=_;omega)
     repeat'(first|refine gB ?_|(refine gH ?_;intro g)|(refine gW ?_;intro v)|refine d92 ?_|fail)
     exact LoopEnd.mk (k+1,_,_) ⟨by show k+1≤b.length;omega,hst⟩ (by show b.length - (k+1) < b.length - k;omega)
    ·obtain rfl:k=b.length:=by omega
     have eik:((i:Int)+(b.length:Int)).toNat=i+b.length:=by omega
     repeat'(first|refine gB ?_|(refine gH ?_;intro g)|(refine gW ?_;intro v)|refine d92 ?_|fail)
     exact LoopEnd.mk (i+1,_) ⟨by show i+1≤a.length;omega,hm2.row hlt⟩ (by show a.length - (i+1) < a.length - i;omega)
   ·obtain rfl:i=a.length:=by omega
    obtain⟨h3,h4⟩:=hm.fin
    repeat'(first|refine gB ?_|(refine gH ?_;intro g)|(refine gW ?_;intro v)|refine d92 ?_|fail)
    refine WL.freezeI (l:=o) (v:=v) (el:=3) (by repeat(first|exact Sel.head|apply Sel.tail)) ?_
    first|refine WL.callK (of_c v (!(n1 == n2)) o (x*y) h3 (by rw[hab,h4]) (fun hxy=>sign_mul hb1 hb2 (hne (by rw[←h4];exact hxy)))) ?_|refine WD.callK (of_c v (!(n1 == n2)) o (x*y) h3 (by rw[hab,h4]) (fun hxy=>sign_mul hb1 hb2 (hne (by rw[←h4];exact hxy)))) ?_|refine LO.callM (of_c v (!(n1 == n2)) o (x*y) h3 (by rw[hab,h4]) (fun hxy=>sign_mul hb1 hb2 (hne (by rw[←h4];exact hxy)))) ?_
    rintro _ _ _ ⟨nb,d,rfl,hb,rfl,rfl⟩
    simp only[List.nil_append,List.cons_append]
    repeat'(first|refine gB ?_|(refine gH ?_;intro g)|(refine gW ?_;intro v)|refine d92 ?_|fail)
    refine WC.ret ?_
    exact Fin.p [] [isZ (.agg #[.bool nb,d]) (x*y)] (ResE.cV rfl rfl meA T.r29 rfl) meA (List.nil_sublist _) haA ⟨nb,_,rfl,hb,rfl,rfl⟩
end Mlt
end Go.Proofs.YtaongbhamadlkaaGreat
namespace Go.Proofs.YtaongbhamadlkaaGreat
open W Go.RowKit
attribute [local irreducible] WC WL WD YO LO LoopEnd W.Fin Scalar SliceT FieldAt Row ArrT AllocT KnS Has W.One SrcE IntT
theorem d154 {G G':Prop} (h:G') (s:Bx G'→G:=by
 intro h
 first|(apply WC.draw (id:=6) [0,1,2,3,4,5,6,7,8] (.held 0 (.held 1 (.held 2 (.held 3 (.held 4 (.held 5 (.held 6 (.held 7 (.held 8 (.done)))))))))) mixed (by kernel_rfl))|(apply WC.draw (id:=7) [0,1,2,3,4,5,6,7,9] (.held 0 (.held 1 (.held 2 (.held 3 (.held 4 (.held 5 (.held 6 (.held 7 (.loud 8 (.held 9 (.done))))))))))) mixed (by kernel_rfl))|fail
 exact Bx.h h):G:=s ⟨h⟩
set_option maxHeartbeats 4000000 in
set_option maxRecDepth 8000 in
theorem isNaN_c (a:Int):FnB Tryz.prog 208 [.int .i64 a] [] [] (IsV (.bool false)):=by
 refine fn_of [(0,(.int .i64 a))] 6 Tryz.func208 rfl Tryz.ntmps208 (by kernel_rfl) rfl suA fun h0=>?_
 repeat'(first|refine gA ?_|(refine goG ?_;intro g)|(refine goV ?_;intro v))
 refine WC.ret ?_
 exact Fin.v (ResE.t1 rfl rfl) meA rfl
set_option maxHeartbeats 4000000 in
set_option maxRecDepth 8000 in
theorem cmpc_c (a b:Int):FnB Tryz.prog 198 [.int .i64 a,.int .i64 b] [] [] (IsV (.int .i64 (cmpI a b))):=by
 refine fn_of [(0,(.int .i64 a)),(1,(.int .i64 b))] 20 Tryz.func198 rfl Tryz.ntmps198 (by kernel_rfl) rfl suA fun h0=>?_
 repeat'(first|refine gA ?_|(refine goG ?_;intro g)|(refine goV ?_;intro v))
 first|refine WL.callV (isNaN_c a) ?_|refine WD.callV (isNaN_c a) ?_
 repeat'(first|refine gA ?_|(refine goG ?_;intro g)|(refine goV ?_;intro v))
 first|refine WL.callV (isNaN_c b) ?_|refine WD.callV (isNaN_c b) ?_
 by_cases h1:a < b
 ·repeat'(first|refine gA ?_|(refine goG ?_;intro g)|(refine goV ?_;intro v))
  refine WC.ret ?_
  exact Fin.v (ResE.t1 rfl rfl) meA (by rw[cmpI,if_pos h1])
 ·by_cases h2:b < a
  ·repeat'(first|refine gA ?_|(refine goG ?_;intro g)|(refine goV ?_;intro v))
   refine WC.ret ?_
   exact Fin.v (ResE.t1 rfl rfl) meA (by rw[cmpI,if_neg h1,if_pos h2])
  ·repeat'(first|refine gA ?_|(refine goG ?_;intro g)|(refine goV ?_;intro v))
   refine WC.ret ?_
   exact Fin.v (ResE.t1 rfl rfl) meA (by rw[cmpI,if_neg h1,if_neg h2])
theorem cmpI_lt {m n:Int} (h:m < n):cmpI m n= -1:=by rw[cmpI,if_pos h]
theorem cmpI_gt {m n:Int} (h:n < m):cmpI m n=1:=by rw[cmpI,if_neg (by omega),if_pos h]
set_option maxHeartbeats 4000000 in
set_option maxRecDepth 8000 in
theorem compare_c (u w:Value) (m n:Nat):FnB Tryz.prog 154 [u,w] [] [sI u (digs m),sI w (digs n)] (IsV (.int .i64 (cmpN m n))):=by
 refine fn_of [(0,u),(1,w)] 41 Tryz.func154 rfl Tryz.ntmps154 (by kernel_rfl) rfl suA fun h0=>?_
 obtain⟨a,ha⟩:∃ a,digs m=a:=⟨_,rfl⟩
 obtain⟨b,hb⟩:∃ b,digs n=b:=⟨_,rfl⟩
 have hcl:=fun hl=>@digs_lt_len m n hl
 have hcg:=fun hl=>@digs_lt_len n m hl
 have hlt:=fun k hl=>@digs_cmp_lt m n k hl
 have hgt:=fun k hl=>@digs_cmp_lt n m k hl
 have heq:=fun hl=>@digs_cmp_eq m n hl
 rw[ha,hb] at *
 refine WC.lenI u a hmA fun hlen=>?_
 refine WC.lenI w b hmA fun hlen2=>?_
 by_cases c0:a.length=b.length
 ·repeat'(first|refine gB ?_|(refine gH ?_;intro g)|(refine gW ?_;intro v)|refine d154 ?_|fail)
  refine WC.lp (σ:=Nat) (fun k=>[(5,.int .i64 ((k:Int) - 1)),(0,u),(1,w)]) (fun _=>[]) (fun _=>[ge h0,sI u a,sI w b]) (fun k=>k≤a.length∧∀ j,k≤j→j < a.length→a.getD j 0=b.getD j 0) (fun k=>k) a.length ⟨Nat.le_refl _,fun j _ _=>by omega⟩ ?_
  rintro k ⟨hk,hs⟩
  by_cases h:0 < k
  ·have e1:((k:Int) - 1).toNat=k - 1:=by omega
   by_cases c1:a.getD (k - 1) 0=b.getD (k - 1) 0
   ·have c1':a.getD ((k:Int) - 1).toNat 0=b.getD ((k:Int) - 1).toNat 0:=by rw[e1];exact c1
    repeat'(first|refine gB ?_|(refine gH ?_;intro g)|(refine gW ?_;intro v)|refine d154 ?_|fail)
    exact LoopEnd.mk (k - 1) ⟨by omega,fun j h4 h5=>if hj:j=k - 1 then hj ▸ c1 else hs j (by omega) h5⟩ (by omega) (by rw[show((k - 1:Nat):Int) - 1=(k:Int) - 1 - 1 by omega];exact suA)
   ·have c1':a.getD ((k:Int) - 1).toNat 0≠b.getD ((k:Int) - 1).toNat 0:=by rw[e1];exact c1
    repeat'(first|refine gB ?_|(refine gH ?_;intro g)|(refine gW ?_;intro v)|refine d154 ?_|fail)
    first|refine WL.callV (cmpc_c (a.getD ((k:Int) - 1).toNat 0) (b.getD ((k:Int) - 1).toNat 0)) ?_|refine WD.callV (cmpc_c (a.getD ((k:Int) - 1).toNat 0) (b.getD ((k:Int) - 1).toNat 0)) ?_
    rw[e1]
    have hv:cmpI (a.getD (k - 1) 0) (b.getD (k - 1) 0)=cmpN m n:=by
     by_cases c2:a.getD (k - 1) 0 < b.getD (k - 1) 0
     ·rw[cmpI_lt c2,cmpN_lt (hlt (k - 1) c0 (by omega) (fun j h4 h5=>hs j (by omega) h5) c2)]
     ·rw[cmpI_gt (by omega),cmpN_gt (hgt (k - 1) c0.symm (by omega) (fun j h4 h5=>(hs j (by omega) (by omega)).symm) (by omega))]
    rw[hv]
    repeat'(first|refine gB ?_|(refine gH ?_;intro g)|(refine gW ?_;intro v)|refine d154 ?_|fail)
    refine WC.ret ?_
    exact Fin.v (ResE.t1 rfl rfl) meA rfl
  ·obtain rfl:k=0:=by omega
   have hmn:=heq c0 fun j hj=>hs j (by omega) hj
   repeat'(first|refine gB ?_|(refine gH ?_;intro g)|(refine gW ?_;intro v)|refine d154 ?_|fail)
   refine WC.ret ?_
   exact Fin.v (ResE.t1 rfl rfl) meA (by rw[hmn,cmpN_eq])
 ·repeat'(first|refine gB ?_|(refine gH ?_;intro g)|(refine gW ?_;intro v)|refine d154 ?_|fail)
  first|refine WL.callV (cmpc_c (a.length:Int) (b.length:Int)) ?_|refine WD.callV (cmpc_c (a.length:Int) (b.length:Int)) ?_
  have hv:cmpI (a.length:Int) (b.length:Int)=cmpN m n:=by
   by_cases c2:a.length < b.length
   ·rw[cmpI_lt (by omega),cmpN_lt (hcl c2)]
   ·rw[cmpI_gt (by omega),cmpN_gt (hcg (by omega))]
  rw[hv]
  repeat'(first|refine gB ?_|(refine gH ?_;intro g)|(refine gW ?_;intro v)|refine d154 ?_|fail)
  refine WC.ret ?_
  exact Fin.v (ResE.t1 rfl rfl) meA rfl
end Go.Proofs.YtaongbhamadlkaaGreat
namespace Go.Proofs.YtaongbhamadlkaaGreat
theorem val_cut (l:List Int) (j:Nat) (h:j≤l.length):val l=val (l.take j)+BB ^ j*val (l.drop j):=by
 have e:=congrArg val (List.take_append_drop j l)
 rw[val_app,List.length_take,Nat.min_eq_left h] at e
 exact e.symm
theorem drop_cons {l:List Int} {j:Nat} (h:j < l.length):l.drop j=l.getD j 0::l.drop (j+1):=by
 rw[show l.getD j 0=l[j] by simp[List.getD_eq_getElem?_getD,h],←List.drop_eq_getElem_cons h]
theorem val_drop {l:List Int} {j:Nat} (h:j < l.length):val (l.drop j)=l.getD j 0+BB*val (l.drop (j+1)):=by
 rw[drop_cons h,val]
theorem val_drop0 {l:List Int} {j:Nat} (h:l.length≤j):val (l.drop j)=0:=by rw[List.drop_eq_nil_of_le h,val]
structure Sh (a:List Int) (b:Int) (q:List Int) (k:Nat) (r:Int):Prop where
 l:q.length=a.length
 d:Dg q
 r0:0≤r∧r < b
 z:∀ j,j < k→q.getD j 0=0
 v:val (a.drop k)=b*val (q.drop k)+r
theorem Sh.z0 {a:List Int} {b:Int} (hb:0 < b):Sh a b (List.replicate a.length 0) a.length 0:=
 ⟨by simp,Dg.rep _,by omega,fun j hj=>by simp[List.getD_eq_getElem?_getD,hj],by rw[val_drop0 (Nat.le_refl _),val_drop0 (by simp)];simp⟩
theorem drop_set_lt {l:List Int} {k j:Nat} {x:Int} (h:k < j):(l.set k x).drop j=l.drop j:=by
 rw[List.drop_set];rw[if_pos h]
theorem getD_set_self {l:List Int} {k:Nat} {x:Int} (h:k < l.length):(l.set k x).getD k 0=x:=by rw[getD_seti,if_pos ⟨rfl,h⟩]
theorem getD_set_ne {l:List Int} {k j:Nat} {x:Int} (h:k≠j):(l.set k x).getD j 0=l.getD j 0:=by rw[getD_seti,if_neg (fun hx=>h hx.1)]
theorem Sh.step {a:List Int} {b:Int} {q:List Int} {k:Nat} {r:Int} (h:Sh a b q (k+1) r) (hk:k < a.length) (ha:Dg a) {x y:Int} (hx:x=(r*BB+a.getD k 0) / b) (hy:y=(r*BB+a.getD k 0) % b):Sh a b (q.set k x) k y:=by
 obtain⟨hr0,hr1⟩:=h.r0
 have hb0:0 < b:=by omega
 have h1:0≤a.getD k 0∧a.getD k 0 < 1000000000:=ha k hk
 have e:=Int.mul_ediv_add_emod (r*BB+a.getD k 0) b
 have hm:=Int.emod_nonneg (r*BB+a.getD k 0) (show b≠0 by omega)
 have hm2:=Int.emod_lt_of_pos (r*BB+a.getD k 0) hb0
 rw[←hx,←hy] at e
 rw[←hy] at hm hm2
 have hx0:0≤x:=by rw[hx];exact Int.ediv_nonneg (by have:=Int.mul_nonneg hr0 (show(0:Int)≤BB by decide);omega) (by omega)
 have hx1:x < BB:=by
  rw[hx];apply Int.ediv_lt_of_lt_mul hb0
  have:r*BB≤(b - 1)*BB:=Int.mul_le_mul_of_nonneg_right (by omega) (by decide)
  rw[Int.sub_mul] at this
  rw[Int.mul_comm BB b];unfold BB at *;omega
 refine⟨by simpa using h.l,h.d.set ⟨hx0,hx1⟩,⟨hm,hm2⟩,fun j hj=>?_,?_⟩
 ·rw[getD_set_ne (by omega)];exact h.z j (by omega)
 ·rw[val_drop hk,h.v,val_drop (l:=q.set k x) (by rw[List.length_set,h.l];exact hk),drop_set_lt (by omega),getD_set_self (by rw[h.l];exact hk)]
  generalize val (q.drop (k+1))=Q at *
  have:b*(x+BB*Q)=b*x+BB*(b*Q):=by rw[Int.mul_add,Int.mul_left_comm]
  rw[this,Int.mul_add,Int.mul_comm BB r];omega
theorem Sh.fin {a:List Int} {b:Int} {q:List Int} {r:Int} (h:Sh a b q 0 r):Dg q∧val q=val a / b∧r=val a % b:=by
 have hv:=h.v
 have hr:=h.r0
 simp only[List.drop_zero] at hv
 have:=(Int.ediv_emod_unique (a:=val a) (b:=b) (r:=r) (q:=val q) (by omega)).2 ⟨by omega,hr.1,hr.2⟩
 exact⟨h.d,this.1.symm,this.2.symm⟩
structure Sk (a:List Int) (m:Int) (o:List Int) (k:Nat) (c:Int):Prop where
 l:o.length=a.length+1
 d:Dg o
 cd:Dgt c
 z:∀ j,k≤j→o.getD j 0=0
 v:val o+BB ^ k*c=val (a.take k)*m
theorem Sk.z0 {a:List Int} {m:Int}:Sk a m (List.replicate (a.length+1) 0) 0 0:=
 ⟨by simp,Dg.rep _,⟨by decide,by decide⟩,fun j _=>by simp only[List.getD_eq_getElem?_getD,List.getElem?_replicate];split <;> rfl,by rw[val_rep];simp[val]⟩
theorem sk_bd {d m c:Int} (hd:Dgt d) (hm:Dgt m) (hc:Dgt c):0≤d*m+c∧d*m+c≤999999999999999999∧0≤d*m:=by
 have:=mu_bd (x:=0) ⟨by decide,by decide⟩ hd hm hc
 omega
theorem Sk.step {a:List Int} {m:Int} {o:List Int} {k:Nat} {c:Int} (h:Sk a m o k c) (hk:k < a.length) (ha:Dg a) (hm:Dgt m) {x y:Int} (hx:x=(a.getD k 0*m+c) % BB) (hy:y=(a.getD k 0*m+c) / BB):Sk a m (o.set k x) (k+1) y:=by
 have hb:=sk_bd (ha k hk) hm h.cd
 have e:x+BB*y=a.getD k 0*m+c:=by rw[hx,hy];exact Int.emod_add_mul_ediv ..
 refine⟨by simpa using h.l,h.d.set ?_,?_,fun j hj=>?_,?_⟩
 ·rw[hx];unfold BB at *;exact⟨by omega,by show _ < (1000000000:Int);omega⟩
 ·rw[hy];unfold BB at *;exact⟨by omega,by show _ < (1000000000:Int);omega⟩
 ·rw[getD_set_ne (by omega)];exact h.z j (by omega)
 ·rw[val_set (by rw[h.l];omega),h.z k (Nat.le_refl _),val_take_s,pow_s,Int.add_mul,←h.v]
  have e2:=congrArg (BB ^ k*·) e
  simp only[Int.mul_add] at e2
  rw[Int.mul_assoc,Int.mul_assoc,Int.sub_zero];omega
theorem Sk.fin {a:List Int} {m:Int} {o:List Int} {c:Int} (h:Sk a m o a.length c):Dg (o.set a.length c)∧val (o.set a.length c)=val a*m:=by
 refine⟨h.d.set h.cd,?_⟩
 rw[val_set (by rw[h.l];omega),h.z _ (Nat.le_refl _),Int.sub_zero,h.v,List.take_length]
end Go.Proofs.YtaongbhamadlkaaGreat
namespace Go.Proofs.YtaongbhamadlkaaGreat
structure Gs (w v p v1 v2 t u2:Int):Prop where
 p0:0 < p
 wl:(t*BB+u2)*p≤w
 wu:w < (t*BB+u2+1)*p
 vl:(v1*BB+v2)*p≤v
 vu:v < (v1*BB+v2+1)*p
 hw:w < BB*v
 w0:0≤w
 h1:500000000≤v1∧v1 < BB
 h2:Dgt v2
 h3:Dgt u2
 t0:0≤t
theorem Gs.v0 {w v p v1 v2 t u2:Int} (h:Gs w v p v1 v2 t u2):0 < v:=by
 have h1:=h.h1
 have h2:0≤v2∧v2 < 1000000000:=h.h2
 have:=Int.mul_pos (show(0:Int) < v1*BB+v2 by unfold BB at *;omega) h.p0
 have:=h.vl
 omega
structure Gg (w v v1 t g r:Int):Prop where
 e:g*v1+r=t
 ge:w / v≤g
 r0:0≤r
 g0:0≤g
theorem Gs.tb {w v p v1 v2 t u2:Int} (h:Gs w v p v1 v2 t u2):t≤v1*BB+(BB - 1):=by
 have h2:0≤v2∧v2 < 1000000000:=h.h2
 have h3:0≤u2∧u2 < 1000000000:=h.h3
 have e1:(t*BB+u2)*p < (BB*(v1*BB+v2+1))*p:=by
  refine Int.lt_of_le_of_lt h.wl (Int.lt_trans h.hw ?_)
  rw[Int.mul_assoc]
  exact Int.mul_lt_mul_of_pos_left h.vu (by decide)
 have e2:=Int.lt_of_mul_lt_mul_right e1 (Int.le_of_lt h.p0)
 unfold BB at *;omega
theorem Gs.start {w v p v1 v2 t u2:Int} (h:Gs w v p v1 v2 t u2):Gg w v v1 t (t / v1) (t % v1):=by
 have hv:=h.v0
 have h1:=h.h1
 have ht:=h.t0
 have e:=Int.mul_ediv_add_emod t v1
 have hm:=Int.emod_nonneg t (show v1≠0 by omega)
 have hm2:=Int.emod_lt_of_pos t (show 0 < v1 by omega)
 refine⟨by rw[Int.mul_comm];exact e,?_,hm,Int.ediv_nonneg ht (by omega)⟩
 have h2:0≤v2∧v2 < 1000000000:=h.h2
 have h3:0≤u2∧u2 < 1000000000:=h.h3
 generalize t / v1=g at *
 generalize t % v1=r at *
 -- w < (g + 1) v
 have:w < (g+1)*v:=by
  have hg0:0≤g+1:=by
   refine Int.not_lt.1 fun hx=>?_
   have:v1*g≤v1*(-2):=Int.mul_le_mul_of_nonneg_left (by omega) (by omega)
   omega
  have q1:(g+1)*((v1*BB+v2)*p)≤(g+1)*v:=Int.mul_le_mul_of_nonneg_left h.vl hg0
  have q2:t*BB+u2+1≤(g+1)*(v1*BB+v2):=by
   have e1:(g+1)*(v1*BB+v2)=(v1*g)*BB+v1*BB+(g+1)*v2:=by
    rw[Int.mul_add,←Int.mul_assoc,Int.add_mul g 1 v1,Int.mul_comm g v1,Int.one_mul,Int.add_mul]
   have e2:0≤(g+1)*v2:=Int.mul_nonneg hg0 h2.1
   rw[e1]
   have e3:(v1*g)*BB=(t - r)*BB:=by congr 1;omega
   rw[e3]
   unfold BB at *;omega
  have q3:(t*BB+u2+1)*p≤((g+1)*(v1*BB+v2))*p:=Int.mul_le_mul_of_nonneg_right q2 (Int.le_of_lt h.p0)
  rw[Int.mul_assoc] at q3
  have:=h.wu
  omega
 have:=Int.ediv_lt_of_lt_mul hv this
 omega
theorem Gs.qb {w v p v1 v2 t u2:Int} (h:Gs w v p v1 v2 t u2):0≤w / v∧w / v < BB:=⟨Int.ediv_nonneg h.w0 (Int.le_of_lt h.v0),Int.ediv_lt_of_lt_mul h.v0 h.hw⟩
theorem Gs.down {w v p v1 v2 t u2 g r:Int} (h:Gs w v p v1 v2 t u2) (hg:Gg w v v1 t g r) (hc:BB≤g∨r*BB+u2 < g*v2):Gg w v v1 t (g - 1) (r+v1):=by
 have hv:=h.v0
 have h1:=h.h1
 have hq:=h.qb
 have hlt:w / v < g:=by
  rcases hc with hc|hc
  ·omega
  ·have e:t*BB+u2+1≤g*(v1*BB+v2):=by
    rw[Int.mul_add,←Int.mul_assoc]
    have:=hg.e
    have e3:t*BB=(g*v1)*BB+r*BB:=by rw[←this,Int.add_mul]
    omega
   have q1:g*((v1*BB+v2)*p)≤g*v:=Int.mul_le_mul_of_nonneg_left h.vl hg.g0
   have q3:(t*BB+u2+1)*p≤(g*(v1*BB+v2))*p:=Int.mul_le_mul_of_nonneg_right e (Int.le_of_lt h.p0)
   rw[Int.mul_assoc] at q3
   have:=h.wu
   exact Int.ediv_lt_of_lt_mul hv (by omega)
 refine⟨?_,by omega,by have:=hg.r0;omega,by omega⟩
 have:=hg.e
 rw[Int.sub_mul];omega
theorem Gs.done {w v p v1 v2 t u2 g r:Int} (h:Gs w v p v1 v2 t u2) (hg:Gg w v v1 t g r) (hc:BB≤r∨(g < BB∧g*v2≤r*BB+u2)):g < BB∧(g=w / v∨g=w / v+1):=by
 have hv:=h.v0
 have h1:=h.h1
 have h2:0≤v2∧v2 < 1000000000:=h.h2
 have h3:0≤u2∧u2 < 1000000000:=h.h3
 have hq:=h.qb
 have htb:=h.tb
 have he:=hg.e
 have hr0:=hg.r0
 have hge:=hg.ge
 have hc2:g < BB∧g*v2≤r*BB+u2:=by
  rcases hc with hc|hc
  ·have hgb:g < BB:=by
    refine Int.not_le.1 fun hx=>?_
    have:BB*v1≤g*v1:=Int.mul_le_mul_of_nonneg_right hx (by omega)
    rw[Int.mul_comm] at this
    unfold BB at *;omega
   refine⟨hgb,?_⟩
   have e1:g*v2≤(BB - 1)*BB:=Int.mul_le_mul (by unfold BB at *;omega) (by unfold BB;omega) h2.1 (by decide)
   unfold BB at *;omega
  ·exact hc
 refine⟨hc2.1,?_⟩
 have:g≤w / v+1:=by
  refine Int.not_lt.1 fun hx=>?_
  -- w < (w / v + 1) v <= (g - 1) v
  have e1:w < (w / v+1)*v:=by
   have:=Int.lt_ediv_add_one_mul_self w hv
   exact this
  have e2:(w / v+1)*v≤(g - 1)*v:=Int.mul_le_mul_of_nonneg_right (by omega) (Int.le_of_lt hv)
  have e3:(g - 1)*v≤(g - 1)*((v1*BB+v2+1)*p):=Int.mul_le_mul_of_nonneg_left (Int.le_of_lt h.vu) (by omega)
  have e4:(g - 1)*(v1*BB+v2+1)≤t*BB+u2:=by
   have x1:(g - 1)*(v1*BB+v2+1)=(g*v1)*BB+g*v2+g - (v1*BB+v2+1):=by
    rw[Int.sub_mul,Int.mul_add,Int.mul_add,←Int.mul_assoc];omega
   have x2:t*BB=(g*v1)*BB+r*BB:=by rw[←he,Int.add_mul]
   rw[x1]
   unfold BB at *;omega
  have e5:((g - 1)*(v1*BB+v2+1))*p≤(t*BB+u2)*p:=Int.mul_le_mul_of_nonneg_right e4 (Int.le_of_lt h.p0)
  rw[Int.mul_assoc] at e5
  have:=h.wl
  omega
 omega
end Go.Proofs.YtaongbhamadlkaaGreat
namespace Go.Proofs.YtaongbhamadlkaaGreat
structure Lg (x:Int) (v:List Int) (m:Nat) (u q:List Int) (j:Nat):Prop where
 lu:u.length=m+v.length
 lq:q.length=m
 du:Dg u
 dq:Dg q
 z:∀ i,i < j→q.getD i 0=0
 v':val u+val v*val q=x
 up:val (u.drop j) < val v
 jm:j≤m
def Dge (u:List Int) (k:Nat):Prop:=∀ j,j < u.length→j≠k→Dgt (u.getD j 0)
theorem Dg.e {u:List Int} (h:Dg u) (k:Nat):Dge u k:=fun j hj _=>h j hj
theorem Dge.set {u:List Int} {k i:Nat} {x:Int} (h:Dge u k) (hx:i≠k→Dgt x):Dge (u.set i x) k:=fun j hj hk=>by
 rw[getD_seti];split
 ·rename_i h2;exact hx (by omega)
 ·exact h j (by simpa using hj) hk
theorem Dge.dg {u:List Int} {k:Nat} (h:Dge u k) (hx:Dgt (u.getD k 0)):Dg u:=fun j hj=>by
 by_cases hk:j=k
 ·subst hk;exact hx
 ·exact h j hj hk
structure Ls (u v:List Int) (g:Int) (j:Nat) (o:List Int) (i:Nat) (c:Int):Prop where
 l:o.length=u.length
 d:Dg o
 cd:Dgt c
 v':val o=val u - BB ^ j*(g*val (v.take i))+BB ^ (j+i)*c
 r:∀ p,(p < j∨j+i≤p)→o.getD p 0=u.getD p 0
theorem Ls.z {u v:List Int} {g:Int} {j:Nat} (h:Dg u):Ls u v g j u 0 0:=⟨rfl,h,⟨by decide,by decide⟩,by simp[val],fun _ _=>rfl⟩
theorem Ls.bd {u v:List Int} {g:Int} {j:Nat} {o:List Int} {i:Nat} {c:Int} (h:Ls u v g j o i c) (hv:Dg v) (hg:Dgt g):0≤g*v.getD i 0∧-999999999999999999≤o.getD (i+j) 0 - g*v.getD i 0 - c∧o.getD (i+j) 0 - g*v.getD i 0 - c < 1000000000∧g*v.getD i 0≤999999998000000001∧0≤o.getD (i+j) 0∧o.getD (i+j) 0 < 1000000000∧0≤c∧c < 1000000000:=by
 have:=mu_bd (h.d.any (i+j)) hg (hv.any i) h.cd
 have h1:0≤o.getD (i+j) 0∧o.getD (i+j) 0 < 1000000000:=h.d.any (i+j)
 have h2:0≤c∧c < 1000000000:=h.cd
 omega
theorem Ls.step {u v:List Int} {g:Int} {j:Nat} {o:List Int} {i:Nat} {c:Int} (h:Ls u v g j o i c) (hu:j+i < u.length) {w c':Int} (hw:Dgt w) (hc:Dgt c') (he:w=o.getD (i+j) 0 - g*v.getD i 0 - c+BB*c'):Ls u v g j (o.set (i+j) w) (i+1) c':=by
 refine⟨by simpa using h.l,h.d.set hw,hc,?_,fun p hp=>?_⟩
 ·rw[val_set (by rw[h.l];omega),h.v',val_take_s,show j+(i+1)=(i+j)+1 by omega,pow_s,show j+i=i+j by omega,he]
  have e2:BB ^ j*(g*(BB ^ i*v.getD i 0))=BB ^ (i+j)*(g*v.getD i 0):=by
   rw[Int.pow_add];simp only[Int.mul_assoc,Int.mul_left_comm]
  rw[Int.mul_add g,Int.mul_add (BB ^ j),e2,Int.mul_assoc,Int.mul_sub,Int.mul_add,Int.mul_sub,Int.mul_sub]
  omega
 ·rw[getD_set_ne (by omega)];exact h.r p (by omega)
structure La (u v:List Int) (j:Nat) (o:List Int) (i:Nat) (c:Int):Prop where
 l:o.length=u.length
 d:Dge o (j+v.length)
 cd:c=0∨c=1
 v':val o=val u+BB ^ j*val (v.take i) - BB ^ (j+i)*c
 r:∀ p,(p < j∨j+i≤p)→o.getD p 0=u.getD p 0
theorem La.z {u v:List Int} {j:Nat} (h:Dge u (j+v.length)):La u v j u 0 0:=⟨rfl,h,.inl rfl,by simp[val],fun _ _=>rfl⟩
theorem La.step {u v:List Int} {j:Nat} {o:List Int} {i:Nat} {c:Int} (h:La u v j o i c) (hi:i < v.length) (hu:j+i < u.length) {w c':Int} (hw:Dgt w) (hc:c'=0∨c'=1) (he:w=o.getD (i+j) 0+v.getD i 0+c - BB*c'):La u v j (o.set (i+j) w) (i+1) c':=by
 refine⟨by simpa using h.l,h.d.set (fun _=>hw),hc,?_,fun p hp=>?_⟩
 ·rw[val_set (by rw[h.l];omega),h.v',val_take_s,show j+(i+1)=(i+j)+1 by omega,pow_s,show j+i=i+j by omega,he]
  have e2:BB ^ j*(BB ^ i*v.getD i 0)=BB ^ (i+j)*v.getD i 0:=by
   rw[Int.pow_add];simp only[Int.mul_assoc,Int.mul_left_comm]
  rw[Int.mul_add (BB ^ j),e2,Int.mul_assoc,Int.mul_sub,Int.mul_sub,Int.mul_add,Int.mul_add]
  omega
 ·rw[getD_set_ne (by omega)];exact h.r p (by omega)
theorem take_same {a b:List Int} {k:Nat} (hl:a.length=b.length) (h:∀ j,j < k→a.getD j 0=b.getD j 0):a.take k=b.take k:=by
 apply List.ext_getElem
 ·simp[hl]
 ·intro i h1 h2
  have:=h i (by simp at h1;omega)
  simp at h1 h2
  simpa [List.getD_eq_getElem?_getD,show i < a.length by omega,show i < b.length by omega] using this
theorem val_tail0:∀ {l:List Int},(∀ j,l.getD j 0=0)→val l=0
 |[],_=>rfl
 |x::l,h=>by
  have h0:=h 0
  rw[val,val_tail0 (l:=l) (fun j=>by have:=h (j+1);rwa [List.getD_cons_succ] at this)]
  simp at h0;rw[h0];rfl
theorem getD_drop {l:List Int} {k j:Nat}:(l.drop k).getD j 0=l.getD (k+j) 0:=by
 simp[List.getD_eq_getElem?_getD,List.getElem?_drop]
theorem Lg.w {x:Int} {v:List Int} {m:Nat} {u q:List Int} {j:Nat} (h:Lg x v m u q (j+1)) (hv:Dg v):0≤val (u.drop j)∧val (u.drop j) < BB*val v:=by
 have hj:=h.jm
 have hl:=h.lu
 have hup:=h.up
 by_cases hn:v.length=0
 ·exfalso
  have:v=[]:=List.eq_nil_of_length_eq_zero hn
  rw[this,val] at hup
  have:=val_nonneg (h.du.drop (j+1))
  omega
 refine⟨val_nonneg (h.du.drop j),?_⟩
 rw[val_drop (by omega)]
 have h1:0≤u.getD j 0∧u.getD j 0 < 1000000000:=h.du.any j
 unfold BB;omega
theorem Lg.top {x:Int} {v:List Int} {m:Nat} {u q:List Int} {j:Nat} (h:Lg x v m u q (j+1)) (hv:Dg v):val (u.drop (j+1+v.length))=0:=by
 have hd:=h.du.drop (j+1)
 have hj:=h.jm
 have hl:=h.lu
 have e:=val_cut (u.drop (j+1)) v.length (by simp;omega)
 rw[List.drop_drop] at e
 have h1:=val_nonneg (hd.take v.length)
 have h2:=val_nonneg (h.du.drop (j+1+v.length))
 have h3:=val_lt hv
 have hup:=h.up
 have hp:=BB_pos v.length
 refine Int.le_antisymm (Int.not_lt.1 fun hx=>?_) h2
 have:=Int.mul_le_mul_of_nonneg_left (show(1:Int)≤val (u.drop (j+1+v.length)) by omega) (Int.le_of_lt hp)
 omega
theorem dg_val0:∀ {l:List Int},Dg l→val l=0→∀ j,l.getD j 0=0
 |[],_,_,_=>by simp
 |x::l,h,hv,j=>by
  have h1:0≤x∧x < 1000000000:=h.head
  have h2:=val_nonneg h.tail
  rw[val] at hv
  have h3:x=0∧val l=0:=by unfold BB at hv;omega
  match j with
  |0=>simpa using h3.1
  |j+1=>rw[List.getD_cons_succ];exact dg_val0 h.tail h3.2 j
theorem Lg.next {x:Int} {v:List Int} {m:Nat} {u q:List Int} {j:Nat} (h:Lg x v m u q (j+1)) (hv:Dg v) (h0:0 < val v) {o:List Int} {g:Int} (hl:o.length=u.length) (hd:Dg o) (ho:val o=val u - BB ^ j*(g*val v)) (hr:∀ p,p < j→o.getD p 0=u.getD p 0) (hg:g=val (u.drop j) / val v):Lg x v m o (q.set j g) j:=by
 have hw:=h.w hv
 have hj:=h.jm
 have hlu:=h.lu
 have hlq:=h.lq
 have q0:0≤g:=hg ▸ Int.ediv_nonneg hw.1 (Int.le_of_lt h0)
 have q1:g < BB:=hg ▸ Int.ediv_lt_of_lt_mul h0 hw.2
 have e1:=val_cut u j (by omega)
 have e2:=val_cut o j (by omega)
 have hp:=BB_pos j
 rw[take_same (k:=j) hl hr,ho] at e2
 have e3:val (o.drop j)=val (u.drop j) - g*val v:=by
  apply Int.eq_of_mul_eq_mul_left (Int.ne_of_gt hp)
  rw[Int.mul_sub];omega
 have e4:=Int.mul_ediv_add_emod (val (u.drop j)) (val v)
 have e5:=Int.emod_lt_of_pos (val (u.drop j)) h0
 rw[←hg,Int.mul_comm] at e4
 refine⟨by omega,by simpa using hlq,hd,h.dq.set ⟨q0,q1⟩,fun i hi=>?_,?_,by omega,by omega⟩
 ·rw[getD_set_ne (by omega)];exact h.z i (by omega)
 ·rw[val_set (by omega),h.z j (by omega),ho,←h.v',Int.sub_zero,Int.mul_add]
  have:val v*(BB ^ j*g)=BB ^ j*(g*val v):=by rw[Int.mul_left_comm,Int.mul_comm (val v) g]
  omega
theorem Ls.end' {x:Int} {v:List Int} {m:Nat} {u q:List Int} {j:Nat} (h:Lg x v m u q (j+1)) (hv:Dg v) (h0:0 < val v) {o:List Int} {g c:Int} (hs:Ls u v g j o v.length c) (hg:g=val (u.drop j) / val v∨g=val (u.drop j) / val v+1) :
  (0≤o.getD (j+v.length) 0 - c→g=val (u.drop j) / val v∧Dg (o.set (j+v.length) (o.getD (j+v.length) 0 - c)))∧
  (o.getD (j+v.length) 0 - c < 0→g=val (u.drop j) / val v+1)∧
  val (o.set (j+v.length) (o.getD (j+v.length) 0 - c))=val u - BB ^ j*(g*val v):=by
 have hw:=h.w hv
 have hj:=h.jm
 have hlu:=h.lu
 have hl:=hs.l
 have hc:0≤c∧c < 1000000000:=hs.cd
 have hk:j+v.length < o.length:=by omega
 have h1:0≤o.getD (j+v.length) 0∧o.getD (j+v.length) 0 < 1000000000:=hs.d.any _
 have ev:val (o.set (j+v.length) (o.getD (j+v.length) 0 - c))=val u - BB ^ j*(g*val v):=by
  rw[val_set hk,hs.v',List.take_length,show o.getD (j+v.length) 0 - c - o.getD (j+v.length) 0= -c by omega,Int.mul_neg];omega
 have hr:∀ p,p < j→(o.set (j+v.length) (o.getD (j+v.length) 0 - c)).getD p 0=u.getD p 0:=fun p hp=>by
  rw[getD_set_ne (by omega)];exact hs.r p (by omega)
 have e1:=val_cut u j (by omega)
 have e2:=val_cut (o.set (j+v.length) (o.getD (j+v.length) 0 - c)) j (by simp;omega)
 have hp:=BB_pos j
 rw[take_same (k:=j) (by simpa using hl) hr,ev] at e2
 have e3:val ((o.set (j+v.length) (o.getD (j+v.length) 0 - c)).drop j)=val (u.drop j) - g*val v:=by
  apply Int.eq_of_mul_eq_mul_left (Int.ne_of_gt hp)
  rw[Int.mul_sub];omega
 have e4:=Int.mul_ediv_add_emod (val (u.drop j)) (val v)
 have e5:=Int.emod_lt_of_pos (val (u.drop j)) h0
 have e6:=Int.emod_nonneg (val (u.drop j)) (Int.ne_of_gt h0)
 refine⟨fun hx=>?_,fun hx=>?_,ev⟩
 ·have hd:Dg (o.set (j+v.length) (o.getD (j+v.length) 0 - c)):=hs.d.set ⟨hx,by show _ < (1000000000:Int);omega⟩
  refine⟨?_,hd⟩
  have:=val_nonneg (hd.drop j)
  rcases hg with hg|hg
  ·exact hg
  ·exfalso
   rw[hg,Int.add_mul,Int.mul_comm (_ / _)] at e3;omega
 ·rcases hg with hg|hg
  ·exfalso
   rw[hg,Int.mul_comm (_ / _)] at e3
   have hlen:v.length < ((o.set (j+v.length) (o.getD (j+v.length) 0 - c)).drop j).length:=by simp;omega
   have e7:=val_cut ((o.set (j+v.length) (o.getD (j+v.length) 0 - c)).drop j) v.length (by omega)
   rw[List.drop_drop,val_drop (j:=j+v.length) (by simp;omega),drop_set_lt (j:=j+v.length+1) (by omega),getD_set_self hk] at e7
   have e8:val (o.drop (j+v.length+1))=0:=by
    apply val_tail0;intro i
    have e:=dg_val0 (h.du.drop _) (h.top hv) i
    rw[getD_drop] at e
    rw[getD_drop,hs.r _ (by omega),show j+v.length+1+i=j+1+v.length+i by omega,e]
   rw[e8] at e7
   have e9:Dg (((o.set (j+v.length) (o.getD (j+v.length) 0 - c)).drop j).take v.length):=fun i hi=>by
    simp at hi
    rw[getD_take (by omega),getD_drop,getD_set_ne (by omega)]
    exact hs.d.any _
   have e10:=val_lt e9
   rw[List.length_take,Nat.min_eq_left (by omega)] at e10
   have hpn:=BB_pos v.length
   have:=Int.mul_le_mul_of_nonneg_left (show o.getD (j+v.length) 0 - c+BB*0≤-1 by omega) (Int.le_of_lt hpn)
   omega
  ·exact hg
theorem La.end' {x:Int} {v:List Int} {m:Nat} {u q:List Int} {j:Nat} (h:Lg x v m u q (j+1)) (hv:Dg v) (h0:0 < val v) {s o:List Int} {g c:Int} (hsl:s.length=u.length) (hsr:∀ p,(p < j∨j+v.length < p)→s.getD p 0=u.getD p 0) (hsv:val s=val u - BB ^ j*(g*val v)) (hg:g=val (u.drop j) / val v+1) (hs:La s v j o v.length c) :
  Dg (o.set (j+v.length) (o.getD (j+v.length) 0+c))∧val (o.set (j+v.length) (o.getD (j+v.length) 0+c))=val u - BB ^ j*((g - 1)*val v)∧∀ p,p < j→(o.set (j+v.length) (o.getD (j+v.length) 0+c)).getD p 0=u.getD p 0:=by
 have hw:=h.w hv
 have hj:=h.jm
 have hlu:=h.lu
 have hl:=hs.l
 have hk:j+v.length < o.length:=by omega
 have ev:val (o.set (j+v.length) (o.getD (j+v.length) 0+c))=val u - BB ^ j*((g - 1)*val v):=by
  rw[val_set hk,hs.v',List.take_length,hsv,show o.getD (j+v.length) 0+c - o.getD (j+v.length) 0=c by omega,Int.sub_mul,Int.mul_sub,Int.one_mul];omega
 have hr:∀ p,p < j→(o.set (j+v.length) (o.getD (j+v.length) 0+c)).getD p 0=u.getD p 0:=fun p hp=>by
  rw[getD_set_ne (by omega),hs.r p (by omega),hsr p (by omega)]
 refine⟨?_,ev,hr⟩
 have e1:=val_cut u j (by omega)
 have e2:=val_cut (o.set (j+v.length) (o.getD (j+v.length) 0+c)) j (by simp;omega)
 have hp:=BB_pos j
 rw[take_same (k:=j) (by simp;omega) hr,ev] at e2
 have e3:val ((o.set (j+v.length) (o.getD (j+v.length) 0+c)).drop j)=val (u.drop j) - (g - 1)*val v:=by
  apply Int.eq_of_mul_eq_mul_left (Int.ne_of_gt hp)
  rw[Int.mul_sub];omega
 have e4:=Int.mul_ediv_add_emod (val (u.drop j)) (val v)
 have e5:=Int.emod_lt_of_pos (val (u.drop j)) h0
 have e6:=Int.emod_nonneg (val (u.drop j)) (Int.ne_of_gt h0)
 rw[show g - 1=val (u.drop j) / val v by omega,Int.mul_comm (_ / _)] at e3
 refine Dge.dg (k:=j+v.length) (hs.d.set (fun hx=>absurd rfl hx)) ?_
 rw[getD_set_self hk]
 have e7:=val_cut ((o.set (j+v.length) (o.getD (j+v.length) 0+c)).drop j) v.length (by simp;omega)
 rw[List.drop_drop,val_drop (j:=j+v.length) (by simp;omega),drop_set_lt (j:=j+v.length+1) (by omega),getD_set_self hk] at e7
 have e8:val (o.drop (j+v.length+1))=0:=by
  apply val_tail0;intro i
  have e:=dg_val0 (h.du.drop _) (h.top hv) i
  rw[getD_drop] at e
  rw[getD_drop,hs.r _ (by omega),hsr _ (by omega),show j+v.length+1+i=j+1+v.length+i by omega,e]
 rw[e8] at e7
 have e9:Dg (((o.set (j+v.length) (o.getD (j+v.length) 0+c)).drop j).take v.length):=fun i hi=>by
  simp at hi
  rw[getD_take (by omega),getD_drop,getD_set_ne (by omega)]
  exact hs.d _ (by omega) (by omega)
 have e10:=val_lt e9
 have e11:=val_nonneg e9
 rw[List.length_take,Nat.min_eq_left (by simp;omega)] at e10
 have hpn:=BB_pos v.length
 have hvl:=val_lt hv
 generalize o.getD (j+v.length) 0+c=y at *
 have:y=0:=by
  rw[Int.mul_zero,Int.add_zero] at e7
  rcases Int.lt_trichotomy y 0 with hy|hy|hy
  ·exfalso
   have:=Int.mul_le_mul_of_nonneg_left (show y≤-1 by omega) (Int.le_of_lt hpn)
   omega
  ·exact hy
  ·exfalso
   have:=Int.mul_le_mul_of_nonneg_left (show 1≤y by omega) (Int.le_of_lt hpn)
   omega
 rw[this];exact⟨by decide,by decide⟩
end Go.Proofs.YtaongbhamadlkaaGreat
namespace Go.Proofs.YtaongbhamadlkaaGreat
theorem scale_half {b s:Int} (hb:1≤b∧b < BB) (hs:s=BB / (b+1)):1≤s∧s < BB∧s*(b+1)≤BB∧500000000≤b*s:=by
 have h1:1≤s:=by rw[hs];exact(Int.le_ediv_iff_mul_le (by omega)).2 (by unfold BB at *;omega)
 have e:=Int.mul_ediv_add_emod BB (b+1)
 have e2:=Int.emod_lt_of_pos BB (show 0 < b+1 by omega)
 have e3:=Int.emod_nonneg BB (show b+1≠0 by omega)
 rw[←hs] at e
 have e4:(b+1)*s=b*s+s:=by rw[Int.add_mul,Int.one_mul]
 have e5:0≤(b - 1)*(s - 1):=Int.mul_nonneg (by omega) (by omega)
 have e6:(b - 1)*(s - 1)=b*s - b - s+1:=by rw[Int.sub_mul,Int.mul_sub];omega
 have e7:1*s≤b*s:=Int.mul_le_mul_of_nonneg_right hb.1 (by omega)
 refine⟨h1,?_,by rw[Int.mul_comm];omega,?_⟩ <;> (unfold BB at *;omega)
theorem scaled_v {b o:List Int} {s:Int} (hb:Dg b) (hn:Nrm b) (h2:2≤b.length) (hs:s=BB / (b.getD (b.length - 1) 0+1)) (hol:o.length=b.length+1) (hod:Dg o) (hov:val o=val b*s) :
  (o.take b.length).length=b.length∧Dg (o.take b.length)∧val (o.take b.length)=val b*s∧500000000≤(o.take b.length).getD (b.length - 1) 0∧0 < val b∧1≤s∧s < BB:=by
 have ht:0≤b.getD (b.length - 1) 0∧b.getD (b.length - 1) 0 < 1000000000:=hb.any _
 have hne:=hn (by omega)
 obtain⟨s1,s2,s3,s4⟩:=scale_half (b:=b.getD (b.length - 1) 0) ⟨by omega,ht.2⟩ hs
 have hcut:=val_cut b (b.length - 1) (by omega)
 rw[val_drop (by omega),val_drop0 (by omega)] at hcut
 have hl1:=val_lt (hb.take (b.length - 1))
 have hl2:=val_nonneg (hb.take (b.length - 1))
 rw[List.length_take,Nat.min_eq_left (by omega)] at hl1
 have hp:=BB_pos (b.length - 1)
 have hps:BB ^ b.length=BB ^ (b.length - 1)*BB:=by rw[←pow_s];congr 1;omega
 generalize b.getD (b.length - 1) 0=t at *
 generalize hpp:BB ^ (b.length - 1)=p at *
 rw[Int.mul_zero,Int.add_zero] at hcut
 have k1:p*t≤val b:=by omega
 have k2:val b < p*(t+1):=by rw[Int.mul_add,Int.mul_one];omega
 have k3:0 < val b:=by
  have:=Int.mul_le_mul_of_nonneg_left (show(1:Int)≤t by omega) (Int.le_of_lt hp)
  omega
 have k4:val b*s < p*BB:=by
  have e1:=Int.mul_lt_mul_of_pos_right k2 (show 0 < s by omega)
  have e2:=Int.mul_le_mul_of_nonneg_left s3 (Int.le_of_lt hp)
  rw[Int.mul_comm s,←Int.mul_assoc] at e2;omega
 have k5:p*500000000≤val b*s:=by
  have e1:=Int.mul_le_mul_of_nonneg_right k1 (show 0≤s by omega)
  have e2:=Int.mul_le_mul_of_nonneg_left s4 (Int.le_of_lt hp)
  rw[Int.mul_assoc] at e1;omega
 have hoc:=val_cut o b.length (by omega)
 rw[val_drop (by omega),val_drop0 (by omega),hov,hps] at hoc
 have ho1:=val_nonneg (hod.take b.length)
 have ho2:0≤o.getD b.length 0∧o.getD b.length 0 < 1000000000:=hod.any _
 have hz:o.getD b.length 0=0:=by
  refine Int.le_antisymm (Int.not_lt.1 fun hx=>?_) ho2.1
  have:=Int.mul_le_mul_of_nonneg_left (show(1:Int)≤o.getD b.length 0+BB*0 by omega) (show 0≤p*BB from Int.mul_nonneg (Int.le_of_lt hp) (by decide))
  omega
 have hlen:(o.take b.length).length=b.length:=by simp;omega
 have hval:val (o.take b.length)=val b*s:=by rw[hz] at hoc;simp at hoc;omega
 refine⟨hlen,hod.take _,hval,?_,k3,s1,s2⟩
 have hc3:=val_cut (o.take b.length) (b.length - 1) (by omega)
 rw[val_drop (by omega),val_drop0 (by omega),hval,hpp] at hc3
 have h4:=val_lt ((hod.take b.length).take (b.length - 1))
 rw[List.length_take,hlen,Nat.min_eq_left (by omega),hpp] at h4
 generalize (o.take b.length).getD (b.length - 1) 0=y at *
 refine Int.not_lt.1 fun hx=>?_
 have:=Int.mul_le_mul_of_nonneg_left (show y+BB*0+1≤500000000 by omega) (Int.le_of_lt hp)
 rw[Int.mul_add,Int.mul_one] at this
 omega
theorem Lg.start {a b v u:List Int} {s:Int} (ha:Dg a) (hv:Dg v) (hvl:v.length=b.length) (hvv:val v=val b*s) (hb0:0 < val b) (hs:1≤s∧s < BB) (h2:2≤b.length) (hbn:Dg b) (hbm:Nrm b) (hab:b.length≤a.length) (hul:u.length=a.length+1) (hud:Dg u) (huv:val u=val a*s) :
  Lg (val a*s) v (a.length - b.length+1) u (List.replicate (a.length - b.length+1) 0) (a.length - b.length+1):=by
 refine⟨by omega,by simp,hud,Dg.rep _,fun i hi=>by simp only[List.getD_eq_getElem?_getD,List.getElem?_replicate];split <;> rfl,by rw[val_rep,huv];omega,?_,Nat.le_refl _⟩
 have hcut:=val_cut u (a.length - b.length+1) (by omega)
 have h1:=val_nonneg (hud.take (a.length - b.length+1))
 have hal:=val_lt ha
 -- val b is at least the power of its length less one
 have hbc:=val_cut b (b.length - 1) (by omega)
 rw[val_drop (by omega),val_drop0 (by omega)] at hbc
 have h3:=val_nonneg (hbn.take (b.length - 1))
 have h4:0≤b.getD (b.length - 1) 0∧b.getD (b.length - 1) 0 < 1000000000:=hbn.any _
 have h5:=hbm (by omega)
 have hp:=BB_pos (b.length - 1)
 have hp2:=BB_pos (a.length - b.length+1)
 have e:BB ^ a.length=BB ^ (a.length - b.length+1)*BB ^ (b.length - 1):=by rw[←Int.pow_add];congr 1;omega
 have h6:=Int.mul_le_mul_of_nonneg_left (show(1:Int)≤b.getD (b.length - 1) 0+BB*0 by omega) (Int.le_of_lt hp)
 rw[e] at hal
 generalize BB ^ (b.length - 1)=p at *
 generalize BB ^ (a.length - b.length+1)=r at *
 have k1:val a*s < (r*p)*s:=Int.mul_lt_mul_of_pos_right hal (by omega)
 have k2:p*s≤val v:=by rw[hvv];exact Int.mul_le_mul_of_nonneg_right (by omega) (by omega)
 have k3:=Int.mul_le_mul_of_nonneg_left k2 (Int.le_of_lt hp2)
 rw[Int.mul_assoc] at k1
 have:r*val (u.drop (a.length - b.length+1)) < r*val v:=by omega
 exact Int.lt_of_mul_lt_mul_left this (Int.le_of_lt hp2)
theorem Lg.gs {x:Int} {v:List Int} {m:Nat} {u q:List Int} {j:Nat} (h:Lg x v m u q (j+1)) (hv:Dg v) (h2:2≤v.length) (h1:500000000≤v.getD (v.length - 1) 0) :
  Gs (val (u.drop j)) (val v) (BB ^ (v.length - 2)) (v.getD (v.length - 1) 0) (v.getD (v.length - 2) 0) (u.getD (j+v.length) 0*BB+u.getD (j+v.length - 1) 0) (u.getD (j+v.length - 2) 0):=by
 have hw:=h.w hv
 have hj:=h.jm
 have hl:=h.lu
 have hp:=BB_pos (v.length - 2)
 have hvc:=val_cut v (v.length - 2) (by omega)
 rw[val_drop (by omega),val_drop (by omega),val_drop0 (by omega),show v.length - 2+1=v.length - 1 by omega] at hvc
 have hvd:=hv.take (v.length - 2)
 have v1:=val_lt hvd
 have v2:=val_nonneg hvd
 rw[List.length_take,Nat.min_eq_left (by omega)] at v1
 have huc:=val_cut (u.drop j) (v.length - 2) (by simp;omega)
 rw[List.drop_drop,val_drop (j:=j+(v.length - 2)) (by omega),val_drop (j:=j+(v.length - 2)+1) (by omega),val_drop (j:=j+(v.length - 2)+1+1) (by omega),show j+(v.length - 2)+1+1+1=j+1+v.length by omega,h.top hv,show j+(v.length - 2)+1+1=j+v.length by omega,show j+(v.length - 2)+1=j+v.length - 1 by omega,show j+(v.length - 2)=j+v.length - 2 by omega] at huc
 have hud:=(h.du.drop j).take (v.length - 2)
 have u1:=val_lt hud
 have u2:=val_nonneg hud
 rw[List.length_take,Nat.min_eq_left (by simp;omega)] at u1
 have d1:0≤u.getD (j+v.length) 0∧u.getD (j+v.length) 0 < 1000000000:=h.du.any _
 have d2:0≤u.getD (j+v.length - 1) 0∧u.getD (j+v.length - 1) 0 < 1000000000:=h.du.any _
 have d3:0≤v.getD (v.length - 1) 0∧v.getD (v.length - 1) 0 < 1000000000:=hv.any _
 have d4:=h.du.any (j+v.length - 2)
 have d5:=hv.any (v.length - 2)
 generalize BB ^ (v.length - 2)=p at *
 generalize u.getD (j+v.length) 0=x1 at *
 generalize u.getD (j+v.length - 1) 0=x2 at *
 generalize u.getD (j+v.length - 2) 0=x3 at *
 generalize v.getD (v.length - 1) 0=y1 at *
 generalize v.getD (v.length - 2) 0=y2 at *
 have e1:p*(x3+BB*(x2+BB*(x1+BB*0)))=((x1*BB+x2)*BB+x3)*p:=by rw[Int.mul_comm];congr 1;unfold BB;omega
 have e2:p*(y2+BB*(y1+BB*0))=(y1*BB+y2)*p:=by rw[Int.mul_comm];congr 1;unfold BB;omega
 rw[e1] at huc
 rw[e2] at hvc
 refine⟨hp,by omega,?_,by omega,?_,hw.2,hw.1,⟨h1,d3.2⟩,d5,d4,by unfold BB;omega⟩
 ·rw[Int.add_mul _ 1,Int.one_mul];omega
 ·rw[Int.add_mul _ 1,Int.one_mul];omega
theorem Lg.fin {a b v u q:List Int} {m:Nat} {s:Int} (h:Lg (val a*s) v m u q 0) (hv:Dg v) (hvv:val v=val b*s) (hb0:0 < val b) (hs:1≤s):val q=val a / val b∧val (u.take v.length)=(val a % val b)*s∧Dg q∧Dg (u.take v.length):=by
 have hup:=h.up
 rw[List.drop_zero] at hup
 have he:=h.v'
 have hu0:=val_nonneg h.du
 have hcut:=val_cut u v.length (by have:=h.lu;omega)
 have h1:=val_nonneg (h.du.take v.length)
 have h2:=val_nonneg (h.du.drop v.length)
 have h3:=val_lt hv
 have hp:=BB_pos v.length
 have hz:val (u.drop v.length)=0:=by
  refine Int.le_antisymm (Int.not_lt.1 fun hx=>?_) h2
  have:=Int.mul_le_mul_of_nonneg_left (show(1:Int)≤val (u.drop v.length) by omega) (Int.le_of_lt hp)
  omega
 rw[hz] at hcut
 have e1:val u=(val a - val b*val q)*s:=by
  rw[Int.sub_mul,Int.mul_assoc,Int.mul_comm (val q) s,←Int.mul_assoc,←hvv];omega
 rw[e1] at hup hu0
 rw[hvv] at hup
 have k1:val a - val b*val q < val b:=Int.lt_of_mul_lt_mul_right hup (by omega)
 have k2:0≤val a - val b*val q:=by
  refine Int.not_lt.1 fun hx=>?_
  have:=Int.mul_le_mul_of_nonneg_right (show val a - val b*val q≤-1 by omega) (show 0≤s by omega)
  omega
 have:=(Int.ediv_emod_unique (a:=val a) (b:=val b) (r:=val a - val b*val q) (q:=val q) hb0).2 ⟨by omega,k2,k1⟩
 refine⟨this.1.symm,?_,h.dq,h.du.take _⟩
 rw[this.2,←e1];omega
end Go.Proofs.YtaongbhamadlkaaGreat
namespace Go.Proofs.YtaongbhamadlkaaGreat
open W Go.RowKit
def IsShort (x b:Int) (n:Nat):RPost:=fun v B G=>∃ w q,v=.tuple #[w,.int .i64 (x % b)]∧B=[]∧G=[sI w q]∧Dg q∧val q=x / b∧q.length=n
def IsOD (z:Int) (m:Nat):RPost:=fun v B G=>∃ l,B=[Ow.slice v 3 1 (ints l)]∧G=[]∧Dg l∧val l=z∧l.length=m
namespace Lng
attribute [local irreducible] WC WL WD YO LO LoopEnd W.Fin Scalar SliceT FieldAt Row ArrT AllocT KnS Has W.One SrcE IntT
theorem goB {G G':Prop} (h:G') (s:Bx G'→G:=by
 intro h
 first
  |(apply WL.k_mul;(apply YO.mul;exact rfl;exact rfl;omega;omega);exact rfl;exact rfl)
  |(apply WD.k_quo;exact rfl;(apply YO.quo;exact rfl;exact rfl;omega;omega;omega);exact rfl;exact rfl)
  |(apply WD.k_rem;exact rfl;(apply YO.rem;exact rfl;exact rfl;omega;omega);exact rfl;exact rfl)
 exact Bx.h h):G:=s ⟨h⟩
set_option maxHeartbeats 4000000 in
set_option maxRecDepth 8000 in
theorem scaled_c (u:Value) (a:List Int) (m:Int) (ha:Dg a) (hm:Dgt m) (hl:a.length≤1000000000) :
  FnB Tryz.prog 214 [u,.int .i64 m] [] [sI u a] (IsOD (val a*m) (a.length+1)):=by
 refine fn_of [(0,u),(1,(.int .i64 m))] 40 Tryz.func214 rfl Tryz.ntmps214 (by kernel_rfl) rfl suA fun h0=>?_
 repeat'(first|refine gA ?_|(refine goG ?_;intro g)|(refine goV ?_;intro v))
 refine WC.lp (σ:=Nat×List Int×Int) (fun s=>[(16,.int .i64 (s.1:Int)),(15,.int .i64 (a.length:Int)),(14,u),(6,.int .i64 s.2.2),(5,v),(0,u),(1,.int .i64 m)]) (fun s=>[Ow.slice v 3 1 (ints s.2.1)]) (fun _=>[ge h0,sI u a])
  (fun s=>s.1≤a.length∧Sk a m s.2.1 s.1 s.2.2) (fun s=>a.length - s.1) (0,List.replicate (a.length+1) 0,0) ⟨by simp,Sk.z0⟩ ?_
 rintro⟨k,o,c⟩ ⟨hk,hs⟩
 simp only at hk hs ⊢
 have hol:=hs.l
 by_cases hlt:k < a.length
 ·have hb:=sk_bd (ha k hlt) hm hs.cd
  have hc:0≤c∧c < 1000000000:=hs.cd
  repeat'(first|refine gA ?_|(refine goG ?_;intro g)|(refine goV ?_;intro v))
  exact LoopEnd.mk (k+1,_,_) ⟨by show k+1≤a.length;omega,hs.step hlt ha hm rfl rfl⟩ (by show a.length - (k+1) < a.length - k;omega)
 ·obtain rfl:k=a.length:=by omega
  obtain⟨h5,h6⟩:=hs.fin
  repeat'(first|refine gA ?_|(refine goG ?_;intro g)|(refine goV ?_;intro v))
  refine WC.ret ?_
  exact Fin.p [Ow.slice v 3 1 (ints (o.set a.length c))] [] (ResE.t1 rfl rfl) meA slA haA ⟨_,rfl,rfl,h5,h6,by simp;omega⟩
end Lng
end Go.Proofs.YtaongbhamadlkaaGreat
namespace Go.Proofs.YtaongbhamadlkaaGreat
open W Go.RowKit
namespace Lnh
attribute [local irreducible] WC WL WD YO LO LoopEnd W.Fin Scalar SliceT FieldAt Row ArrT AllocT KnS Has W.One SrcE IntT
theorem goB {G G':Prop} (h:G') (s:Bx G'→G:=by
 intro h
 first
  |(apply WL.k_mul;(apply YO.mul;exact rfl;exact rfl;omega;omega);exact rfl;exact rfl)
  |(apply WD.k_quo;exact rfl;(apply YO.quo;exact rfl;exact rfl;omega;omega;omega);exact rfl;exact rfl)
  |(apply WD.k_rem;exact rfl;(apply YO.rem;exact rfl;exact rfl;omega;omega);exact rfl;exact rfl)
 exact Bx.h h):G:=s ⟨h⟩
theorem goYT {G G':Prop} (h:G') (s:Bx G'→G:=by
 intro h
 (apply WD.yl;exact rfl;(first|(apply YO.move;exact rfl)|(apply YO.assign;exact rfl)|exact y_lss|exact y_add|exact y_len|(first|(first|(apply YO.ix1;exact t6A;exact rfl;exact rfl;exact knA;omega)|(apply YO.ix;exact t6A;exact rfl;exact rfl;exact knA;omega)|(apply YO.ix1';exact t6A;exact rfl;exact rfl;exact knA;omega;omega)|(apply YO.ix';exact t6A;exact rfl;exact rfl;exact knA;omega;omega))|(apply YO.ix1;exact t6A;exact rfl;exact rfl;exact knA;(first|omega|(simp only[List.length_set];omega)))|(apply YO.ix;exact t6A;exact rfl;exact rfl;exact knA;(first|omega|(simp only[List.length_set];omega)))|(apply YO.ix1';exact t6A;exact rfl;exact rfl;exact knA;omega;(first|omega|(simp only[List.length_set];omega))))|(first|(apply YO.ldW;exact t4A;exact rfl;exact meA;exact rfl)|(apply YO.ld42;exact t4A;exact rfl;exact meA)|(apply YO.ld40;exact t4A;exact rfl;exact meA)|(apply YO.ld62;exact t4A;exact rfl;exact meA)|(apply YO.ld51;exact t4A;exact rfl;exact meA)|(apply YO.ldWI0;exact t4A;exact rfl;exact meA;(first|omega|(simp only[List.length_set,List.length_replicate];omega)))|(apply YO.ldWF0;exact t4A;exact rfl;exact hmA;(first|omega|(simp only[List.length_set,List.length_replicate];omega)))|(apply YO.ldCI;exact t2A;exact rfl;exact meA;(first|omega|(simp only[List.length_set,List.length_replicate];omega)))|(apply YO.ldFI;exact t2A;exact rfl;exact hmA;(first|omega|(simp only[List.length_set,List.length_replicate];omega)))|(apply YO.ldF;exact t2A;exact rfl;exact hmA;exact rfl)|(apply YO.ldS;exact t2A;exact rfl;exact hsA;omega)|(apply YO.ldB;exact t2A;exact rfl;exact meA;exact rfl)|(apply YO.ldOI;exact t2A;exact rfl;exact meA;(first|omega|(simp only[List.length_set];omega))))|exact y_pick|exact y_fieldAddr|(first|(first|(first|(apply YO.eql_t;exact rfl;exact rfl;omega)|(apply YO.eql_f;exact rfl;exact rfl;omega))|(apply YO.eqNil_t;exact t6A;exact rfl;exact knA;assumption)|(apply YO.eqNil_f;exact t6A;exact rfl;exact knA;assumption))|(apply YO.beq_t;exact bool_t;exact rfl;exact rfl;(first|rfl|assumption|decide))|(apply YO.beq_f;exact bool_t;exact rfl;exact rfl;(first|rfl|assumption|decide)))|exact y_neq|(apply YO.nil;exact rfl)|(apply YO.extract;exact rfl;exact rfl)|exact y_gtr|exact y_geq|exact y_leq|(apply YO.sub;exact rfl;exact rfl;omega;omega)|exact y_mul|exact y_rem|exact y_quo|exact y_unot|exact y_uneg|(apply YO.max;exact rfl;exact rfl)|(apply YO.min;exact rfl;exact rfl)|exact y_makeFunc|(first|(first|(apply YO.convU;exact t7A;exact t7A;exact rfl;omega;omega)|(apply YO.convI;exact t7A;exact t7A;exact rfl;omega;omega))|(apply YO.convN;exact t7A;exact t7A;exact rfl;omega;omega))|exact y_shl|(apply YO.shr';exact rfl;exact rfl;omega;omega)|exact y_and|exact y_or|(apply YO.anot;exact rfl;exact rfl)|(first|(first|(apply YO.slice;exact t6A;exact rfl;exact knA;exact Or.inl ⟨rfl,rfl⟩;exact Or.inr ⟨_,rfl,rfl⟩;omega;omega)|(apply YO.slice;exact t6A;exact rfl;exact knA;exact Or.inr ⟨_,rfl,rfl⟩;exact Or.inl ⟨rfl,rfl⟩;omega;omega))|(apply YO.slice3;exact t6A;exact rfl;exact knA;exact rfl;exact rfl;omega;omega)));exact rfl;exact rfl)
 exact Bx.h h):G:=s ⟨h⟩
set_option maxHeartbeats 4000000 in
set_option maxRecDepth 8000 in
theorem short_c (u:Value) (a:List Int) (b:Int) (ha:Dg a) (hb:Dgt b) (hb0:0 < b) (hl:a.length≤1000000000) :
  FnB Tryz.prog 210 [u,.int .i64 b] [] [sI u a] (IsShort (val a) b a.length):=by
 refine fn_of [(0,u),(1,(.int .i64 b))] 38 Tryz.func210 rfl Tryz.ntmps210 (by kernel_rfl) rfl suA fun h0=>?_
 have hb':0≤b∧b < 1000000000:=hb
 repeat'(first|refine gB ?_|(refine gH ?_;intro g)|(refine gW ?_;intro v))
 refine WC.lp (σ:=Nat×List Int×Int) (fun s=>[(8,.int .i64 ((s.1:Int) - 1)),(7,.int .i64 s.2.2),(6,v),(0,u),(1,.int .i64 b)]) (fun s=>[Ow.slice v 3 1 (ints s.2.1)]) (fun _=>[ge h0,sI u a])
  (fun s=>s.1≤a.length∧Sh a b s.2.1 s.1 s.2.2) (fun s=>s.1) (a.length,List.replicate a.length 0,0) ⟨Nat.le_refl _,Sh.z0 hb0⟩ ?_
 rintro⟨k,o,c⟩ ⟨hk,hs⟩
 simp only at hk hs ⊢
 have hol:=hs.l
 obtain⟨hc0,hc1⟩:=hs.r0
 match k,hk,hs with
 |k+1,hk,hs=>
  have h1:0≤a.getD k 0∧a.getD k 0 < 1000000000:=ha k (by omega)
  have e1:((k+1:Nat):Int) - 1=(k:Int):=by omega
  rw[e1]
  repeat'(first|refine gB ?_|(refine gH ?_;intro g)|(refine gW ?_;intro v))
  refine WC.drawB (id:=7) [] slA [0,1,2,3,4,5,6,7,10] (.held 0 (.held 1 (.held 2 (.held 3 (.held 4 (.held 5 (.held 6 (.held 7 (.loud 8 (.loud 9 (.held 10 (.done)))))))))))) mixed (by kernel_rfl) ?_
  repeat'(first|refine gB ?_|(refine gH ?_;intro g)|(refine gW ?_;intro v))
  refine goYT ?_
  repeat'(first|refine gB ?_|(refine gH ?_;intro g)|(refine gW ?_;intro v))
  exact LoopEnd.mk (k,_,_) ⟨by show k≤a.length;omega,hs.step (by omega) ha rfl rfl⟩ (by show k < k+1;omega)
 |0,hk,hs=>
  obtain⟨h5,h6,h7⟩:=hs.fin
  repeat'(first|refine gB ?_|(refine gH ?_;intro g)|(refine gW ?_;intro v))
  refine WC.freezeI (l:=o) (v:=v) (el:=3) (by repeat(first|exact Sel.head|apply Sel.tail)) ?_
  refine WC.ret ?_
  exact Fin.p [] [sI v o] (ResE.t2 rfl rfl rfl) meA (List.nil_sublist _) haA ⟨_,_,by rw[h7],rfl,rfl,h5,h6,hol⟩
end Lnh
end Go.Proofs.YtaongbhamadlkaaGreat
namespace Go.Proofs.YtaongbhamadlkaaGreat
open W Go.RowKit
def IsLong (x y:Int) (n m:Nat):RPost:=fun v B G=>∃ w q w2 r,v=.tuple #[w,w2]∧B=[]∧G=[sI w q,sI w2 r]∧Dg q∧val q=x / y∧q.length=n∧Dg r∧val r=x % y∧r.length=m
theorem WD.freezeI {P:Program} {n:Nat} {L:List Oper} {hs:List Nat} {b0:List Ow} {F0:List Fct} {r:Plan} {e:Env} {bx bx':List Ow} {F:List Fct} {Q:Env→List Ow→List Fct→Prop} {v:Value} {el:Nat} {l:List Int} (hs':Sel bx (.slice v el 1 (ints l)) (.slice (.slice none 0 0) el 1 []) bx') (h:WD P n L hs b0 F0 r e bx' (sI v l::F) Q):WD P n L hs b0 F0 r e bx F Q:=fun fr w0 listed a w fuel Q' h1 h2 h3 h4 h5 h6 hk hr ho hf=>h fr w0 listed a w fuel Q' h1 h2 h3 h4 h5 h6 hk hr (ho.freeze hs' (by simp) (by decide) _ fun j hj=>by
  have hj':j < l.length:=by omega
  simp[hj']) hf
theorem WC.scope {P:Program} {n:Nat} {c:Code} {e:Env} {bx:List Ow} {F:List Fct} {Q:Post} (h:WC P n c e bx F Q):WC P n (.scope c) e bx F Q:=fun fr w0 a w hk hr ho=>by
 refine wp_scope_straight (wp_mono (h fr w0 a w hk hr ho) fun ex a' w' hq=>?_)
 cases ex <;> first|exact hq|exact hq.elim
theorem WC.cutB {P:Program} {n k:Nat} {e:Env} {bx:List Ow} {F:List Fct} {x y:Code} {Q:Post} {σ:Type} (E:σ→Env) (B:σ→List Ow) (G:σ→List Fct) (I:σ→Prop)
  (h1:WC P n x e bx F (blockQ k (thenQ (fun e' bx' F'=>∃ s,I s∧W.Sub (E s) e'∧(B s).Sublist bx'∧HasAll F' (G s)) Q)))
  (h2:∀ s,I s→WC P n y (E s) (B s) (G s) Q):WC P n x e bx F (blockQ k (thenQ (fun e bx F=>WC P n y e bx F Q) Q)):=by
 have key:∀ e b f,(∃ s,I s∧W.Sub (E s) e∧(B s).Sublist b∧HasAll f (G s))→WC P n y e b f Q:=fun e b f h=>by
  obtain⟨s,h3,h4,h5,h6⟩:=h
  exact(h2 s h3).weak h4 h5 h6.all
 refine h1.mono fun ex e b f h=>?_
 cases ex with
 |normal=>exact key _ _ _ h
 |exit i=>
  simp only[blockQ] at h ⊢
  cases hb:Nat.beq i k with
  |true=>rw[hb] at h;exact key _ _ _ h
  |false=>rw[hb] at h;exact h
 |goto l=>exact h
 |ret=>exact h
 |panic c=>exact h
 |outgrown=>exact h
namespace Lnl
attribute [local irreducible] WC WL WD YO LO LoopEnd W.Fin Scalar SliceT FieldAt Row ArrT AllocT KnS Has W.One SrcE IntT
theorem d211 {G G':Prop} (h:G') (s:Bx G'→G:=by
 intro h
 first|(apply WC.draw (id:=2) [0,1,3,4,6,7,9,10] (.held 0 (.held 1 (.held 3 (.held 4 (.held 6 (.held 7 (.loud 2 (.loud 5 (.held 9 (.loud 8 (.held 10 (.done)))))))))))) mixed (by kernel_rfl))|(apply WC.draw (id:=8) [0,1,2,3,4,5,6,7,8,9,10,11,12,13,14,15] (.held 0 (.held 1 (.held 2 (.held 3 (.held 4 (.held 5 (.held 6 (.held 7 (.held 8 (.held 9 (.held 10 (.held 11 (.held 12 (.held 13 (.held 14 (.held 15 (.done))))))))))))))))) mixed (by kernel_rfl))|(apply WC.draw (id:=9) [0,1,2,3,4,5,6,7,8,9,10,11,12,13,14,15] (.held 0 (.held 1 (.held 2 (.held 3 (.held 4 (.held 5 (.held 6 (.held 7 (.held 8 (.held 9 (.held 10 (.held 11 (.held 12 (.held 13 (.held 14 (.held 15 (.done))))))))))))))))) mixed (by kernel_rfl))|(apply WC.draw (id:=10) [0,1,2,3,4,5,6,7,8,9,10,11,12,13,14,15,16,17,18,19,20,21] (.held 0 (.held 1 (.held 2 (.held 3 (.held 4 (.held 5 (.held 6 (.held 7 (.held 8 (.held 9 (.held 10 (.held 11 (.held 12 (.held 13 (.held 14 (.held 15 (.held 16 (.held 17 (.held 18 (.held 19 (.held 20 (.held 21 (.done))))))))))))))))))))))) mixed (by kernel_rfl))|(apply WC.draw (id:=18) [0,1,2,3,4,5,6,7,8,9,10,11,12,13,14,15] (.held 0 (.held 1 (.held 2 (.held 3 (.held 4 (.held 5 (.held 6 (.held 7 (.held 8 (.held 9 (.held 10 (.held 11 (.held 12 (.held 13 (.held 14 (.held 15 (.done))))))))))))))))) mixed (by kernel_rfl))|(apply WC.draw (id:=32) [0,1,2,3,4,5,6,7,8,9,10,11,12,13] (.held 0 (.held 1 (.held 2 (.held 3 (.held 4 (.held 5 (.held 6 (.held 7 (.held 8 (.held 9 (.held 10 (.held 11 (.held 12 (.held 13 (.done))))))))))))))) mixed (by kernel_rfl))|fail
 exact Bx.h h):G:=s ⟨h⟩
theorem goB {G G':Prop} (h:G') (s:Bx G'→G:=by
 intro h
 first
  |(apply WL.k_mul;(apply YO.mul;exact rfl;exact rfl;omega;omega);exact rfl;exact rfl)
  |(apply WD.k_mul;exact rfl;(apply YO.mul;exact rfl;exact rfl;omega;omega);exact rfl;exact rfl)
  |(apply WD.k_quo;exact rfl;(apply YO.quo;exact rfl;exact rfl;omega;omega;omega);exact rfl;exact rfl)
  |(apply WD.k_rem;exact rfl;(apply YO.rem;exact rfl;exact rfl;omega;omega);exact rfl;exact rfl)
 exact Bx.h h):G:=s ⟨h⟩
theorem goYT {G G':Prop} (h:G') (s:Bx G'→G:=by
 intro h
 (apply WD.yl;exact rfl;(first|(apply YO.move;exact rfl)|(apply YO.assign;exact rfl)|exact y_lss|exact y_add|exact y_len|(first|(first|(apply YO.ix1;exact t6A;exact rfl;exact rfl;exact knA;omega)|(apply YO.ix;exact t6A;exact rfl;exact rfl;exact knA;omega)|(apply YO.ix1';exact t6A;exact rfl;exact rfl;exact knA;omega;omega)|(apply YO.ix';exact t6A;exact rfl;exact rfl;exact knA;omega;omega))|(apply YO.ix1;exact t6A;exact rfl;exact rfl;exact knA;(first|omega|(simp only[List.length_set];omega)))|(apply YO.ix;exact t6A;exact rfl;exact rfl;exact knA;(first|omega|(simp only[List.length_set];omega)))|(apply YO.ix1';exact t6A;exact rfl;exact rfl;exact knA;omega;(first|omega|(simp only[List.length_set];omega))))|(first|(apply YO.ldW;exact t4A;exact rfl;exact meA;exact rfl)|(apply YO.ld42;exact t4A;exact rfl;exact meA)|(apply YO.ld40;exact t4A;exact rfl;exact meA)|(apply YO.ld62;exact t4A;exact rfl;exact meA)|(apply YO.ld51;exact t4A;exact rfl;exact meA)|(apply YO.ldWI0;exact t4A;exact rfl;exact meA;(first|omega|(simp only[List.length_set,List.length_replicate];omega)))|(apply YO.ldWF0;exact t4A;exact rfl;exact hmA;(first|omega|(simp only[List.length_set,List.length_replicate];omega)))|(apply YO.ldCI;exact t2A;exact rfl;exact meA;(first|omega|(simp only[List.length_set,List.length_replicate];omega)))|(apply YO.ldFI;exact t2A;exact rfl;exact hmA;(first|omega|(simp only[List.length_set,List.length_replicate];omega)))|(apply YO.ldF;exact t2A;exact rfl;exact hmA;exact rfl)|(apply YO.ldS;exact t2A;exact rfl;exact hsA;omega)|(apply YO.ldB;exact t2A;exact rfl;exact meA;exact rfl)|(apply YO.ldOI;exact t2A;exact rfl;exact meA;(first|omega|(simp only[List.length_set];omega))))|exact y_pick|exact y_fieldAddr|(first|(first|(first|(apply YO.eql_t;exact rfl;exact rfl;omega)|(apply YO.eql_f;exact rfl;exact rfl;omega))|(apply YO.eqNil_t;exact t6A;exact rfl;exact knA;assumption)|(apply YO.eqNil_f;exact t6A;exact rfl;exact knA;assumption))|(apply YO.beq_t;exact bool_t;exact rfl;exact rfl;(first|rfl|assumption|decide))|(apply YO.beq_f;exact bool_t;exact rfl;exact rfl;(first|rfl|assumption|decide)))|exact y_neq|(apply YO.nil;exact rfl)|(apply YO.extract;exact rfl;exact rfl)|exact y_gtr|exact y_geq|exact y_leq|(apply YO.sub;exact rfl;exact rfl;omega;omega)|exact y_mul|exact y_rem|exact y_quo|exact y_unot|exact y_uneg|(apply YO.max;exact rfl;exact rfl)|(apply YO.min;exact rfl;exact rfl)|exact y_makeFunc|(first|(first|(apply YO.convU;exact t7A;exact t7A;exact rfl;omega;omega)|(apply YO.convI;exact t7A;exact t7A;exact rfl;omega;omega))|(apply YO.convN;exact t7A;exact t7A;exact rfl;omega;omega))|exact y_shl|(apply YO.shr';exact rfl;exact rfl;omega;omega)|exact y_and|exact y_or|(apply YO.anot;exact rfl;exact rfl)|(first|(first|(apply YO.slice;exact t6A;exact rfl;exact knA;exact Or.inl ⟨rfl,rfl⟩;exact Or.inr ⟨_,rfl,rfl⟩;omega;omega)|(apply YO.slice;exact t6A;exact rfl;exact knA;exact Or.inr ⟨_,rfl,rfl⟩;exact Or.inl ⟨rfl,rfl⟩;omega;omega))|(apply YO.slice3;exact t6A;exact rfl;exact knA;exact rfl;exact rfl;omega;omega)));exact rfl;exact rfl)
 exact Bx.h h):G:=s ⟨h⟩
set_option maxHeartbeats 4000000 in
set_option maxRecDepth 8000 in
theorem long_c (u0 v0:Value) (a b:List Int) (ha:Dg a) (hb:Dg b) (hbn:Nrm b) (h2:2≤b.length) (hab:b.length≤a.length) (hl:a.length≤1000000000) :
  FnB Tryz.prog 211 [u0,v0] [] [sI u0 a,sI v0 b] (IsLong (val a) (val b) (a.length - b.length+1) b.length):=by
 refine fn_of [(0,u0),(1,v0)] 222 Tryz.func211 rfl Tryz.ntmps211 (by kernel_rfl) rfl suA fun h0=>?_
 have en:((b.length:Int) - 1).toNat=b.length - 1:=by omega
 have ht:0≤b.getD ((b.length:Int) - 1).toNat 0∧b.getD ((b.length:Int) - 1).toNat 0 < 1000000000:=hb.any _
 have hne:=hbn (by omega)
 rw[←en] at hne
 obtain⟨s1,s2,s3,s4⟩:=scale_half (b:=b.getD ((b.length:Int) - 1).toNat 0) ⟨by omega,ht.2⟩ rfl
 repeat'(first|refine gB ?_|(refine gH ?_;intro g)|(refine gW ?_;intro v)|refine goYT ?_|refine d211 ?_|fail)
 simp only[show BB=1000000000 from rfl] at s1 s2 s3 s4
 generalize hs:(1000000000:Int) / (b.getD ((b.length:Int) - 1).toNat 0+1)=s at *
 rw[en] at hs
 refine WD.callK (Lng.scaled_c u0 a s ha ⟨by omega,s2⟩ hl) ?_
 rintro vu _ _ ⟨o,rfl,rfl,hod,hov,hol⟩
 simp only[List.nil_append,List.cons_append]
 refine WD.callK (Lng.scaled_c v0 b s hb ⟨by omega,s2⟩ (by omega)) ?_
 rintro vv _ _ ⟨o2,rfl,rfl,hod2,hov2,hol2⟩
 simp only[List.nil_append,List.cons_append]
 obtain⟨k1,k2,k3,k4,k5,-,-⟩:=scaled_v hb hbn h2 hs.symm hol2 hod2 hov2
 refine WD.freezeI (l:=o2) (v:=vv) (el:=3) (by repeat(first|exact Sel.head|apply Sel.tail)) ?_
 repeat'(first|refine gB ?_|(refine gH ?_;intro g)|(refine gW ?_;intro v)|refine goYT ?_|refine d211 ?_|fail)
 rw[show((a.length:Int) - (b.length:Int))=((a.length - b.length:Nat):Int) by omega]
 repeat'(first|refine gB ?_|(refine gH ?_;intro g)|(refine gW ?_;intro v)|refine goYT ?_|refine d211 ?_|fail)
 refine WC.fact (sI (resl vv 0 b.length 1) (o2.take b.length)) (Has.takeI hmA (by omega)) ?_
 generalize resl vv 0 b.length 1=vw at *
 generalize o2.take b.length=w at *
 have hst:=Lg.start ha k2 k1 k3 k5 ⟨s1,s2⟩ h2 hb hbn hab hol hod hov
 rw[show((a.length:Int) - (b.length:Int))=((a.length - b.length+1:Nat):Int) - 1 by omega]
 refine WC.lp (σ:=Nat×List Int×List Int) (fun st=>[(11,.int .i64 ((st.1:Int) - 1)),(10,v),(9,.int .i64 (b.length:Int)),(8,vw),(7,vu),(6,.int .i64 s)]) (fun st=>[Ow.slice v 3 1 (ints st.2.2),Ow.slice vu 3 1 (ints st.2.1)]) (fun _=>[ge h0,sI vw w])
  (fun st=>Lg (val a*s) w (a.length - b.length+1) st.2.1 st.2.2 st.1) (fun st=>st.1) (a.length - b.length+1,o,List.replicate (a.length - b.length+1) 0) hst ?_
 rintro⟨k,u,q⟩ hs
 simp only at hs ⊢
 have hlu:=hs.lu
 have hlq:=hs.lq
 have hjm:=hs.jm
 match k,hs with
 |0,hs=>
  obtain⟨z1,z2,z3,z4⟩:=hs.fin k2 k3 k5 s1
  rw[k1] at z2 z4
  repeat'(first|refine gB ?_|(refine gH ?_;intro g)|(refine gW ?_;intro v)|refine goYT ?_|refine d211 ?_|fail)
  refine WL.freezeI (l:=u) (v:=vu) (el:=3) (by repeat(first|exact Sel.head|apply Sel.tail)) ?_
  refine WL.fact' (sI (resl vu 0 b.length 1) (u.take b.length)) (Has.takeI hmA (by omega)) ?_
  refine WL.callK (Lnh.short_c _ (u.take b.length) s z4 ⟨by omega,s2⟩ (by omega) (by rw[List.length_take];omega)) ?_
  rintro vr _ _ ⟨w1,q1,rfl,rfl,rfl,y1,y2,y3⟩
  simp only[List.nil_append,List.cons_append]
  repeat'(first|refine gB ?_|(refine gH ?_;intro g)|(refine gW ?_;intro v)|refine goYT ?_|refine d211 ?_|fail)
  refine WC.freezeI (l:=q) (v:=v) (el:=3) (by repeat(first|exact Sel.head|apply Sel.tail)) ?_
  refine WC.ret ?_
  exact Fin.p [] [sI v q,sI w1 q1] (ResE.t2 rfl rfl rfl) meA (List.nil_sublist _) haA ⟨_,_,_,_,rfl,rfl,rfl,z3,z1,hs.lq,y1,by rw[y2,z2,Int.mul_ediv_cancel _ (by omega)],by rw[y3,List.length_take];omega⟩
 |j+1,hs=>
  have e1:((j+1:Nat):Int) - 1=(j:Int):=by omega
  rw[e1]
  have hg:=hs.gs k2 (by omega) (by rw[k1];exact k4)
  rw[k1] at hg
  have i2:(((j+b.length:Nat):Int) - 1).toNat=j+b.length - 1:=by omega
  have i3:(((j+b.length:Nat):Int) - 2).toNat=j+b.length - 2:=by omega
  have i4:((b.length:Int) - 1).toNat=b.length - 1:=by omega
  have i5:((b.length:Int) - 2).toNat=b.length - 2:=by omega
  have d1:0≤u.getD (j+b.length) 0∧u.getD (j+b.length) 0 < 1000000000:=hs.du.any _
  have d2:0≤u.getD (((j+b.length:Nat):Int) - 1).toNat 0∧u.getD (((j+b.length:Nat):Int) - 1).toNat 0 < 1000000000:=hs.du.any _
  have d3:0≤u.getD (((j+b.length:Nat):Int) - 2).toNat 0∧u.getD (((j+b.length:Nat):Int) - 2).toNat 0 < 1000000000:=hs.du.any _
  have d4:0≤w.getD ((b.length:Int) - 1).toNat 0∧w.getD ((b.length:Int) - 1).toNat 0 < 1000000000:=k2.any _
  have d5:0≤w.getD ((b.length:Int) - 2).toNat 0∧w.getD ((b.length:Int) - 2).toNat 0 < 1000000000:=k2.any _
  have d6:500000000≤w.getD ((b.length:Int) - 1).toNat 0:=by rw[i4];exact k4
  repeat'(first|refine gB ?_|(refine gH ?_;intro g)|(refine gW ?_;intro v)|refine goYT ?_|refine d211 ?_|fail)
  refine WC.scope ?_
  repeat'(first|refine gB ?_|(refine gH ?_;intro g)|(refine gW ?_;intro v)|refine goYT ?_|refine d211 ?_|fail)
  rw[i2] at d2
  rw[i3] at d3
  rw[i4] at d4 d6
  rw[i5] at d5
  simp only[i2,i4]
  generalize hX:u.getD (j+b.length) 0*BB+u.getD (j+b.length - 1) 0=t at hg
  have hX':u.getD (j+b.length) 0*1000000000+u.getD (j+b.length - 1) 0=t:=hX
  have hst:=hg.start
  refine WC.cutB (σ:=Int) (fun g=>[(13,.int .i64 g),(11,.int .i64 (j:Int)),(10,v),(9,.int .i64 (b.length:Int)),(8,vw),(7,vu),(6,.int .i64 s)]) (fun _=>[Ow.slice v 3 1 (ints q),Ow.slice vu 3 1 (ints u)]) (fun _=>[ge h0,sI vw w])
   (fun g=>0≤g∧g < 1000000000∧(g=val (u.drop j) / val w∨g=val (u.drop j) / val w+1)) ?_ ?_
  ·refine WC.lp (σ:=Int×Int) (fun st=>[(13,.int .i64 st.1),(14,.int .i64 st.2),(11,.int .i64 (j:Int)),(10,v),(9,.int .i64 (b.length:Int)),(8,vw),(7,vu),(6,.int .i64 s)]) (fun _=>[Ow.slice v 3 1 (ints q),Ow.slice vu 3 1 (ints u)]) (fun _=>[ge h0,sI vw w])
    (fun st=>Gg (val (u.drop j)) (val w) (w.getD (b.length - 1) 0) t st.1 st.2∧st.2 < 1000000000) (fun st=>st.1.toNat) (t / w.getD (b.length - 1) 0,t % w.getD (b.length - 1) 0) ⟨hst,by have:=Int.emod_lt_of_pos t (show 0 < w.getD (b.length - 1) 0 by omega);show t % w.getD (b.length - 1) 0 < _;omega⟩ ?_
   rintro⟨g,r⟩ ⟨hG,hr⟩
   simp only at hG hr ⊢
   have hg0:=hG.g0
   have hr0:=hG.r0
   have hgt:g≤1000000001:=by
    have htb:=hg.tb
    have e:=hG.e
    refine Int.not_lt.1 fun hx=>?_
    have:=Int.mul_le_mul_of_nonneg_right (show 1000000002≤g by omega) (show 0≤w.getD (b.length - 1) 0 by omega)
    unfold BB at htb;omega
   have hm0:0≤g*w.getD (b.length - 2) 0:=Int.mul_nonneg hg0 d5.1
   have hm1:g*w.getD (b.length - 2) 0≤1000000001*999999999:=Int.mul_le_mul hgt (by omega) d5.1 (by omega)
   rw[←i5] at hm0 hm1
   rw[←i5] at d5
   rw[←i3] at d3
   have d7:0≤w.getD ((b.length:Int) - 1).toNat 0∧w.getD ((b.length:Int) - 1).toNat 0 < 1000000000:=k2.any _
   by_cases c1:1000000000≤g
   ·have hD:=hg.down hG (.inl c1)
    simp only[←i4] at hD
    by_cases c3:1000000000≤r+w.getD ((b.length:Int) - 1).toNat 0
    ·repeat'(first|refine gB ?_|(refine gH ?_;intro g)|(refine gW ?_;intro v)|refine goYT ?_|refine d211 ?_|fail)
     rw[i4] at hD c3
     have hE:=hg.done hD (.inl c3)
     exact CutEnd (g - 1) ⟨hD.g0,hE⟩
    ·repeat'(first|refine gB ?_|(refine gH ?_;intro g)|(refine gW ?_;intro v)|refine goYT ?_|refine d211 ?_|fail)
     rw[i4] at hD
     rw[i4]
     exact LoopEnd.mk (g - 1,_) ⟨hD,by show r+w.getD (b.length - 1) 0 < 1000000000;rw[i4] at c3;omega⟩ (by show(g - 1).toNat < g.toNat;have:=hD.g0;omega)
   ·by_cases c2:r*1000000000+u.getD (((j+b.length:Nat):Int) - 2).toNat 0 < g*w.getD ((b.length:Int) - 2).toNat 0
    ·have hD:=hg.down hG (.inr (by rw[i3,i5] at c2;exact c2))
     simp only[←i4] at hD
     by_cases c3:1000000000≤r+w.getD ((b.length:Int) - 1).toNat 0
     ·repeat'(first|refine gB ?_|(refine gH ?_;intro g)|(refine gW ?_;intro v)|refine goYT ?_|refine d211 ?_|fail)
      rw[i4] at hD c3
      have hE:=hg.done hD (.inl c3)
      exact CutEnd (g - 1) ⟨hD.g0,hE⟩
     ·repeat'(first|refine gB ?_|(refine gH ?_;intro g)|(refine gW ?_;intro v)|refine goYT ?_|refine d211 ?_|fail)
      rw[i4] at hD
      rw[i4]
      exact LoopEnd.mk (g - 1,_) ⟨hD,by show r+w.getD (b.length - 1) 0 < 1000000000;rw[i4] at c3;omega⟩ (by show(g - 1).toNat < g.toNat;have:=hD.g0;omega)
    ·repeat'(first|refine gB ?_|(refine gH ?_;intro g)|(refine gW ?_;intro v)|refine goYT ?_|refine d211 ?_|fail)
     have hE:=hg.done hG (.inr ⟨by show g < 1000000000;omega,by rw[i3,i5] at c2;exact Int.not_lt.1 c2⟩)
     exact CutEnd g ⟨hg0,hE⟩
  ·rintro g ⟨g0,g1,g2⟩
   repeat'(first|refine gB ?_|(refine gH ?_;intro g)|(refine gW ?_;intro v)|refine goYT ?_|refine d211 ?_|fail)
   refine WC.lp (σ:=Nat×List Int×Int) (fun st=>[(118,.int .i64 (st.1:Int)),(117,.int .i64 (b.length:Int)),(15,.int .i64 st.2.2),(13,.int .i64 g),(11,.int .i64 (j:Int)),(10,v),(9,.int .i64 (b.length:Int)),(8,vw),(7,vu),(6,.int .i64 s)]) (fun st=>[Ow.slice v 3 1 (ints q),Ow.slice vu 3 1 (ints st.2.1)]) (fun _=>[ge h0,sI vw w])
    (fun st=>st.1≤b.length∧Ls u w g j st.2.1 st.1 st.2.2) (fun st=>b.length - st.1) (0,u,0) ⟨Nat.zero_le _,Ls.z hs.du⟩ ?_
   rintro⟨i,o3,c⟩ ⟨hi,hL⟩
   simp only at hi hL ⊢
   have hol3:=hL.l
   by_cases c1:i < b.length
   ·obtain⟨f1,f2,f3,f4,f5,f6,f7,f8⟩:=hL.bd k2 ⟨g0,g1⟩
    by_cases c2:o3.getD (i+j) 0 - g*w.getD i 0 - c < 0
    ·repeat'(first|refine gB ?_|(refine gH ?_;intro g)|(refine gW ?_;intro v)|refine goYT ?_|refine d211 ?_|fail)
     exact LoopEnd.mk (i+1,_,_) ⟨by show i+1≤b.length;omega,hL.step (by omega) (w:=o3.getD (i+j) 0 - g*w.getD i 0 - c+(-(o3.getD (i+j) 0 - g*w.getD i 0 - c)+1000000000 - 1) / 1000000000*1000000000) (c':=(-(o3.getD (i+j) 0 - g*w.getD i 0 - c)+1000000000 - 1) / 1000000000) ⟨by omega,by unfold BB;omega⟩ ⟨by omega,by unfold BB;omega⟩ (by unfold BB;omega)⟩ (by show b.length - (i+1) < b.length - i;omega)
    ·repeat'(first|refine gB ?_|(refine gH ?_;intro g)|(refine gW ?_;intro v)|refine goYT ?_|refine d211 ?_|fail)
     exact LoopEnd.mk (i+1,_,_) ⟨by show i+1≤b.length;omega,hL.step (by omega) (w:=o3.getD (i+j) 0 - g*w.getD i 0 - c) (c':=0) ⟨by omega,by unfold BB;omega⟩ ⟨by omega,by unfold BB;omega⟩ (by omega)⟩ (by show b.length - (i+1) < b.length - i;omega)
   ·obtain rfl:i=b.length:=by omega
    have d8:0≤o3.getD (j+b.length) 0∧o3.getD (j+b.length) 0 < 1000000000:=hL.d.any _
    have d9:0≤c∧c < 1000000000:=hL.cd
    have hv0:0 < val w:=by rw[k3];exact Int.mul_pos k5 (by omega)
    have hL':=hL
    rw[←k1] at hL'
    obtain⟨q1,q2,q3⟩:=Ls.end' hs k2 hv0 hL' g2
    rw[k1] at q1 q2 q3
    have hsl:(o3.set (j+b.length) (o3.getD (j+b.length) 0 - c)).length=u.length:=by rw[List.length_set];exact hol3
    have hself:(o3.set (j+b.length) (o3.getD (j+b.length) 0 - c)).getD (j+b.length) 0=o3.getD (j+b.length) 0 - c:=getD_set_self (by omega)
    have hsr:∀ p,(p < j∨j+b.length < p)→(o3.set (j+b.length) (o3.getD (j+b.length) 0 - c)).getD p 0=u.getD p 0:=fun p hp=>by rw[getD_set_ne (by omega)];exact hL.r p (by omega)
    have hde:Dge (o3.set (j+b.length) (o3.getD (j+b.length) 0 - c)) (j+b.length):=(hL.d.e _).set (fun hx=>absurd rfl hx)
    by_cases c3:o3.getD (j+b.length) 0 - c < 0
    ·have hgq:=q2 c3
     repeat'(first|refine gB ?_|(refine gH ?_;intro g)|(refine gW ?_;intro v)|refine goYT ?_|refine d211 ?_|fail)
     generalize hU:o3.set (j+b.length) (o3.getD (j+b.length) 0 - c)=U at *
     refine WC.lp (σ:=Nat×List Int×Int) (fun st=>[(173,.int .i64 (st.1:Int)),(172,.int .i64 (b.length:Int)),(15,.int .i64 st.2.2),(13,.int .i64 (g - 1)),(11,.int .i64 (j:Int)),(10,v),(9,.int .i64 (b.length:Int)),(8,vw),(7,vu),(6,.int .i64 s)]) (fun st=>[Ow.slice v 3 1 (ints q),Ow.slice vu 3 1 (ints st.2.1)]) (fun _=>[ge h0,sI vw w])
      (fun st=>st.1≤b.length∧La U w j st.2.1 st.1 st.2.2) (fun st=>b.length - st.1) (0,U,0) ⟨Nat.zero_le _,La.z (by rw[k1];exact hde)⟩ ?_
     rintro⟨i,o4,c4⟩ ⟨hi,hA⟩
     simp only at hi hA ⊢
     have hol4:=hA.l
     by_cases c1:i < b.length
     ·have f1:0≤o4.getD (i+j) 0∧o4.getD (i+j) 0 < 1000000000:=hA.d (i+j) (by omega) (by omega)
      have f2:0≤w.getD i 0∧w.getD i 0 < 1000000000:=k2.any i
      have f3:=hA.cd
      repeat'(first|refine gB ?_|(refine gH ?_;intro g)|(refine gW ?_;intro v)|refine goYT ?_|refine d211 ?_|fail)
      exact LoopEnd.mk (i+1,_,_) ⟨by show i+1≤b.length;omega,hA.step (by omega) (by omega) (w:=(o4.getD (i+j) 0+w.getD i 0+c4) % 1000000000) (c':=(o4.getD (i+j) 0+w.getD i 0+c4) / 1000000000) ⟨by omega,by unfold BB;omega⟩ (by omega) (by unfold BB;omega)⟩ (by show b.length - (i+1) < b.length - i;omega)
     ·obtain rfl:i=b.length:=by omega
      have f3:=hA.cd
      have f4:o4.getD (j+b.length) 0=o3.getD (j+b.length) 0 - c:=by rw[hA.r _ (.inr (Nat.le_refl _))];exact hself
      have hA':=hA
      rw[←k1] at hA' hsr
      obtain⟨r1,r2,r3⟩:=La.end' hs k2 hv0 hsl hsr q3 hgq hA'
      rw[k1] at r1 r2 r3
      repeat'(first|refine gB ?_|(refine gH ?_;intro g)|(refine gW ?_;intro v)|refine goYT ?_|refine d211 ?_|fail)
      exact LoopEnd.mk (j,_,_) (hs.next k2 hv0 (by rw[List.length_set];omega) r1 r2 r3 (by omega)) (by show j < j+1;omega)
    ·obtain⟨hgq,hdg⟩:=q1 (by omega)
     repeat'(first|refine gB ?_|(refine gH ?_;intro g)|(refine gW ?_;intro v)|refine goYT ?_|refine d211 ?_|fail)
     exact LoopEnd.mk (j,_,_) (hs.next k2 hv0 hsl hdg q3 (fun p hp=>hsr p (.inl hp)) hgq) (by show j < j+1;omega)
end Lnl
end Go.Proofs.YtaongbhamadlkaaGreat
