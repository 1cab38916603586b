/- Lemmas. Conditions: none. -/
import Derived.Test.YtbnobghgnbockaaGreatZk9
set_option linter.all false
set_option maxHeartbeats 0
set_option maxRecDepth 100000
namespace Go.Proofs.YtbnobghgnbockaaGreat
def JU(l:nd)(j:Nat)(h:j<=l.length):val l=val (l.take j)+BB^j*val (l.drop j):=by
 have e:=congrArg val (cl j l);rw[UQ,ar,aF h] at e;exact e.symm
def drop_cons{l:nd}{j:Nat}(h:j<l.length):l.drop j=l.getD j 0::l.drop (j+1):=by
 rw[show l.getD j 0=l[j] by simp[List.getD_eq_getElem?_getD,h],<-dE h]
def JY{l:nd}{j:Nat}(h:j<l.length):val (l.drop j)=l.getD j 0+BB*val (l.drop (j+1)):=by
 rw[drop_cons h,val]
def XK{l:nd}{j:Nat}(h:l.length<=j):val (l.drop j)=0:=by rw[List.drop_eq_nil_of_le h,val]
structure Sh(a:nd)(b:Int)(q:nd)(k:Nat)(r:Int):Prop where
 l:q.length=a.length
 d:Dg q
 r0:0<=r/\r<b
 z:∀j,j<k->q.getD j 0=0
 v:val (a.drop k)=b*val (q.drop k)+r
def Sh.z0{a:nd}{b:Int}(hb:0<b):Sh a b (List.replicate a.length 0) a.length 0:=
 ⟨by simp,Dg.rep _,by omega,λj hj=>by simp[List.getD_eq_getElem?_getD,hj],by rw[XK (ai _),XK (by simp)];simp⟩
def ZY{l:nd}{k j:Nat}{x:Int}(h:k<j):(l.set k x).drop j=l.drop j:=by
 rw[List.drop_set];rw[ah h]
def Xo{l:nd}{k:Nat}{x:Int}(h:k<l.length):(l.set k x).getD k 0=x:=by rw[Jc,ah ⟨rfl,h⟩]
def getD_set_ne{l:nd}{k j:Nat}{x:Int}(h:k≠j):(l.set k x).getD j 0=l.getD j 0:=by rw[Jc,ae (λhx=>h hx.1)]
def Sh.step{a:nd}{b:Int}{q:nd}{k:Nat}{r:Int}(h:Sh a b q (k+1) r)(hk:k<a.length)(ha:Dg a){x y:Int}(hx:x=(r*BB+a.getD k 0)/b)(hy:y=(r*BB+a.getD k 0)%b):Sh a b (q.set k x) k y:=by
 obtain⟨hr0,hr1⟩:=h.r0;have hb0:0<b:=qo;have h1:0<=a.getD k 0/\a.getD k 0<1000000000:=ha k hk;have e:=bW (r*BB+a.getD k 0) b;have hm:=cL (r*BB+a.getD k 0) (show b≠0 by omega);have hm2:=bN (r*BB+a.getD k 0) hb0;rw[<-hx,<-hy] at e;rw[<-hy] at hm hm2;have hx0:0<=x:=by rw[hx];exact cg (by have:=bU hr0 (show(0:Int)<=BB by decide);omega) qo
 have hx1:x<BB:=by
  rw[hx];apply cn hb0;have:r*BB<=(b-1)*BB:=aC qo qd;rw[cZ] at this;rw[aT BB b];unfold BB at *;omega
 refine⟨by simpa using h.l,h.d.set ⟨hx0,hx1⟩,⟨hm,hm2⟩,λj hj=>?_,?_⟩
 .rw[getD_set_ne qo];exact h.z j qo
 .rw[JY hk,h.v,JY (l:=q.set k x) (by rw[bZ,h.l];exact hk),ZY qo,Xo (by rw[h.l];exact hk)];generalize val (q.drop (k+1))=Q at *;have:b*(x+BB*Q)=b*x+BB*(b*Q):=by rw[Int.mul_add,cR]
  rw[this,Int.mul_add,aT BB r];omega
def Sh.fin{a:nd}{b:Int}{q:nd}{r:Int}(h:Sh a b q 0 r):Dg q/\val q=val a/b/\r=val a%b:=by
 have hv:=h.v;have hr:=h.r0;simp only[List.drop_zero] at hv;have:=(bI (a:=val a) (b:=b) (r:=r) (q:=val q) qo).2 ⟨by omega,hr.1,hr.2⟩;exact⟨h.d,this.1.symm,this.2.symm⟩
structure Sk(a:nd)(m:Int)(o:nd)(k:Nat)(c:Int):Prop where
 l:o.length=a.length+1
 d:Dg o
 cd:Dgt c
 z:∀j,k<=j->o.getD j 0=0
 v:val o+BB^k*c=val (a.take k)*m
def Sk.z0{a:nd}{m:Int}:Sk a m (List.replicate (a.length+1) 0) 0 0:=
 ⟨by simp,Dg.rep _,⟨by decide,by decide⟩,λj _=>by simp only[List.getD_eq_getElem?_getD,List.getElem?_replicate];split<;>rfl,by rw[VR];simp[val]⟩
def sk_bd{d m c:Int}(hd:Dgt d)(hm:Dgt m)(hc:Dgt c):0<=d*m+c/\d*m+c<=999999999999999999/\0<=d*m:=by
 have:=mu_bd (x:=0) ⟨by decide,by decide⟩ hd hm hc;omega
def Sk.step{a:nd}{m:Int}{o:nd}{k:Nat}{c:Int}(h:Sk a m o k c)(hk:k<a.length)(ha:Dg a)(hm:Dgt m){x y:Int}(hx:x=(a.getD k 0*m+c)%BB)(hy:y=(a.getD k 0*m+c)/BB):Sk a m (o.set k x) (k+1) y:=by
 have hb:=sk_bd (ha k hk) hm h.cd;have e:x+BB*y=a.getD k 0*m+c:=by rw[hx,hy];exact Int.emod_add_mul_ediv ..
 refine⟨by simpa using h.l,h.d.set ?_,?_,λj hj=>?_,?_⟩
 .rw[hx];unfold BB at *;exact⟨by omega,by show _<(1000000000:Int);omega⟩
 .rw[hy];unfold BB at *;exact⟨by omega,by show _<(1000000000:Int);omega⟩
 .rw[getD_set_ne qo];exact h.z j qo
 .rw[X6 (by rw[h.l];omega),h.z k (ai _),Jq,Ko,cf,<-h.v];have e2:=congrArg (BB^k*·) e;simp only[Int.mul_add] at e2;rw[Int.mul_assoc,Int.mul_assoc,eC];omega
def Sk.fin{a:nd}{m:Int}{o:nd}{c:Int}(h:Sk a m o a.length c):Dg (o.set a.length c)/\val (o.set a.length c)=val a*m:=by
 refine⟨h.d.set h.cd,?_⟩;rw[X6 (by rw[h.l];omega),h.z _ (ai _),eC,h.v,aQ]
structure Gs(w v p v1 v2 t u2:Int):Prop where
 p0:0<p
 wl:(t*BB+u2)*p<=w
 wu:w<(t*BB+u2+1)*p
 vl:(v1*BB+v2)*p<=v
 vu:v<(v1*BB+v2+1)*p
 hw:w<BB*v
 w0:0<=w
 h1:500000000<=v1/\v1<BB
 h2:Dgt v2
 h3:Dgt u2
 t0:0<=t
def Gs.v0{w v p v1 v2 t u2:Int}(h:Gs w v p v1 v2 t u2):0<v:=by
 have h1:=h.h1;have h2:0<=v2/\v2<1000000000:=h.h2;have:=eQ (show(0:Int)<v1*BB+v2 by unfold BB at *;omega) h.p0;have:=h.vl;omega
structure Gg(w v v1 t g r:Int):Prop where
 e:g*v1+r=t
 ge:w/v<=g
 r0:0<=r
 g0:0<=g
def Gs.tb{w v p v1 v2 t u2:Int}(h:Gs w v p v1 v2 t u2):t<=v1*BB+(BB-1):=by
 have h2:0<=v2/\v2<1000000000:=h.h2;have h3:0<=u2/\u2<1000000000:=h.h3
 have e1:(t*BB+u2)*p<(BB*(v1*BB+v2+1))*p:=by
  refine Int.lt_of_le_of_lt h.wl (Int.lt_trans h.hw ?_);rw[Int.mul_assoc];exact Int.mul_lt_mul_of_pos_left h.vu qd
 have e2:=Int.lt_of_mul_lt_mul_right e1 (aN h.p0);unfold BB at *;omega
def Gs.start{w v p v1 v2 t u2:Int}(h:Gs w v p v1 v2 t u2):Gg w v v1 t (t/v1) (t%v1):=by
 have hv:=h.v0;have h1:=h.h1;have ht:=h.t0;have e:=bW t v1;have hm:=cL t (show v1≠0 by omega);have hm2:=bN t (show 0<v1 by omega);refine⟨by rw[aT];exact e,?_,hm,cg ht qo⟩;have h2:0<=v2/\v2<1000000000:=h.h2;have h3:0<=u2/\u2<1000000000:=h.h3;generalize t/v1=g at *;generalize t%v1=r at *
 have:w<(g+1)*v:=by
  have hg0:0<=g+1:=by
   refine Int.not_lt.1 λhx=>?_;have:v1*g<=v1*(-2):=am qo qo;omega
  have q1:(g+1)*((v1*BB+v2)*p)<=(g+1)*v:=am h.vl hg0
  have q2:t*BB+u2+1<=(g+1)*(v1*BB+v2):=by
   have e1:(g+1)*(v1*BB+v2)=(v1*g)*BB+v1*BB+(g+1)*v2:=by
    rw[Int.mul_add,<-Int.mul_assoc,cf g 1 v1,aT g v1,cO,cf]
   have e2:0<=(g+1)*v2:=bU hg0 h2.1;rw[e1];have e3:(v1*g)*BB=(t-r)*BB:=by congr 1;omega
   rw[e3];unfold BB at *;omega
  have q3:(t*BB+u2+1)*p<=((g+1)*(v1*BB+v2))*p:=aC q2 (aN h.p0);rw[Int.mul_assoc] at q3;have:=h.wu;omega
 have:=cn hv this;omega
def Gs.qb{w v p v1 v2 t u2:Int}(h:Gs w v p v1 v2 t u2):0<=w/v/\w/v<BB:=⟨cg h.w0 (aN h.v0),cn h.v0 h.hw⟩
def Gs.down{w v p v1 v2 t u2 g r:Int}(h:Gs w v p v1 v2 t u2)(hg:Gg w v v1 t g r)(hc:BB<=g\/r*BB+u2<g*v2):Gg w v v1 t (g-1) (r+v1):=by
 have hv:=h.v0;have h1:=h.h1;have hq:=h.qb
 have hlt:w/v<g:=by
  rcases hc with hc|hc
  .omega
  .have e:t*BB+u2+1<=g*(v1*BB+v2):=by
    rw[Int.mul_add,<-Int.mul_assoc];have:=hg.e;have e3:t*BB=(g*v1)*BB+r*BB:=by rw[<-this,cf]
    omega
   have q1:g*((v1*BB+v2)*p)<=g*v:=am h.vl hg.g0;have q3:(t*BB+u2+1)*p<=(g*(v1*BB+v2))*p:=aC e (aN h.p0);rw[Int.mul_assoc] at q3;have:=h.wu;exact cn hv qo
 refine⟨?_,by omega,by have:=hg.r0;omega,by omega⟩;have:=hg.e;rw[cZ];omega
def Gs.done{w v p v1 v2 t u2 g r:Int}(h:Gs w v p v1 v2 t u2)(hg:Gg w v v1 t g r)(hc:BB<=r\/(g<BB/\g*v2<=r*BB+u2)):g<BB/\(g=w/v\/g=w/v+1):=by
 have hv:=h.v0;have h1:=h.h1;have h2:0<=v2/\v2<1000000000:=h.h2;have h3:0<=u2/\u2<1000000000:=h.h3;have hq:=h.qb;have htb:=h.tb;have he:=hg.e;have hr0:=hg.r0;have hge:=hg.ge
 have hc2:g<BB/\g*v2<=r*BB+u2:=by
  rcases hc with hc|hc
  .have hgb:g<BB:=by
    refine Int.not_le.1 λhx=>?_;have:BB*v1<=g*v1:=aC hx qo;rw[aT] at this;unfold BB at *;omega
   refine⟨hgb,?_⟩;have e1:g*v2<=(BB-1)*BB:=fd (by unfold BB at *;omega) (by unfold BB;omega) h2.1 qd;unfold BB at *;omega
  .exact hc
 refine⟨hc2.1,?_⟩
 have:g<=w/v+1:=by
  refine Int.not_lt.1 λhx=>?_
  have e1:w<(w/v+1)*v:=by
   have:=Int.lt_ediv_add_one_mul_self w hv;exact this
  have e2:(w/v+1)*v<=(g-1)*v:=aC qo (aN hv);have e3:(g-1)*v<=(g-1)*((v1*BB+v2+1)*p):=am (aN h.vu) qo
  have e4:(g-1)*(v1*BB+v2+1)<=t*BB+u2:=by
   have x1:(g-1)*(v1*BB+v2+1)=(g*v1)*BB+g*v2+g-(v1*BB+v2+1):=by
    rw[cZ,Int.mul_add,Int.mul_add,<-Int.mul_assoc];omega
   have x2:t*BB=(g*v1)*BB+r*BB:=by rw[<-he,cf]
   rw[x1];unfold BB at *;omega
  have e5:((g-1)*(v1*BB+v2+1))*p<=(t*BB+u2)*p:=aC e4 (aN h.p0);rw[Int.mul_assoc] at e5;have:=h.wl;omega
 omega
structure Lg(x:Int)(v:nd)(m:Nat)(u q:nd)(j:Nat):Prop where
 lu:u.length=m+v.length
 lq:q.length=m
 du:Dg u
 dq:Dg q
 z:∀i,i<j->q.getD i 0=0
 v':val u+val v*val q=x
 up:val (u.drop j)<val v
 jm:j<=m
def Dge(u:nd)(k:Nat):Prop:=∀j,j<u.length->j≠k->Dgt (u.getD j 0)
def Dg.e{u:nd}(h:Dg u)(k:Nat):Dge u k:=λj hj _=>h j hj
def Dge.set{u:nd}{k i:Nat}{x:Int}(h:Dge u k)(hx:i≠k->Dgt x):Dge (u.set i x) k:=λj hj hk=>by
 rw[Jc];split
 .rename_i h2;exact hx qo
 .exact h j (by simpa using hj) hk
def Dge.dg{u:nd}{k:Nat}(h:Dge u k)(hx:Dgt (u.getD k 0)):Dg u:=λj hj=>by
 by_cases hk:j=k
 .subst hk;exact hx
 .exact h j hj hk
structure Ls(u v:nd)(g:Int)(j:Nat)(o:nd)(i:Nat)(c:Int):Prop where
 l:o.length=u.length
 d:Dg o
 cd:Dgt c
 v':val o=val u-BB^j*(g*val (v.take i))+BB^(j+i)*c
 r:∀p,(p<j\/j+i<=p)->o.getD p 0=u.getD p 0
def Ls.z{u v:nd}{g:Int}{j:Nat}(h:Dg u):Ls u v g j u 0 0:=⟨rfl,h,⟨by decide,by decide⟩,by simp[val],λ_ _=>rfl⟩
def Ls.bd{u v:nd}{g:Int}{j:Nat}{o:nd}{i:Nat}{c:Int}(h:Ls u v g j o i c)(hv:Dg v)(hg:Dgt g):0<=g*v.getD i 0/\-999999999999999999<=o.getD (i+j) 0-g*v.getD i 0-c/\o.getD (i+j) 0-g*v.getD i 0-c<1000000000/\g*v.getD i 0<=999999998000000001/\0<=o.getD (i+j) 0/\o.getD (i+j) 0<1000000000/\0<=c/\c<1000000000:=by
 have:=mu_bd (h.d.any (i+j)) hg (hv.any i) h.cd;have h1:0<=o.getD (i+j) 0/\o.getD (i+j) 0<1000000000:=h.d.any (i+j);have h2:0<=c/\c<1000000000:=h.cd;omega
def Ls.step{u v:nd}{g:Int}{j:Nat}{o:nd}{i:Nat}{c:Int}(h:Ls u v g j o i c)(hu:j+i<u.length){w c':Int}(hw:Dgt w)(hc:Dgt c')(he:w=o.getD (i+j) 0-g*v.getD i 0-c+BB*c'):Ls u v g j (o.set (i+j) w) (i+1) c':=by
 refine⟨by simpa using h.l,h.d.set hw,hc,?_,λp hp=>?_⟩
 .rw[X6 (by rw[h.l];omega),h.v',Jq,show j+(i+1)=(i+j)+1 by omega,Ko,show j+i=i+j by omega,he]
  have e2:BB^j*(g*(BB^i*v.getD i 0))=BB^(i+j)*(g*v.getD i 0):=by
   rw[Int.pow_add];simp only[Int.mul_assoc,cR]
  rw[Int.mul_add g,Int.mul_add (BB^j),e2,Int.mul_assoc,bH,Int.mul_add,bH,bH];omega
 .rw[getD_set_ne qo];exact h.r p qo
structure La(u v:nd)(j:Nat)(o:nd)(i:Nat)(c:Int):Prop where
 l:o.length=u.length
 d:Dge o (j+v.length)
 cd:c=0\/c=1
 v':val o=val u+BB^j*val (v.take i)-BB^(j+i)*c
 r:∀p,(p<j\/j+i<=p)->o.getD p 0=u.getD p 0
def La.z{u v:nd}{j:Nat}(h:Dge u (j+v.length)):La u v j u 0 0:=⟨rfl,h,.inl rfl,by simp[val],λ_ _=>rfl⟩
def La.step{u v:nd}{j:Nat}{o:nd}{i:Nat}{c:Int}(h:La u v j o i c)(hi:i<v.length)(hu:j+i<u.length){w c':Int}(hw:Dgt w)(hc:c'=0\/c'=1)(he:w=o.getD (i+j) 0+v.getD i 0+c-BB*c'):La u v j (o.set (i+j) w) (i+1) c':=by
 refine⟨by simpa using h.l,h.d.set (λ_=>hw),hc,?_,λp hp=>?_⟩
 .rw[X6 (by rw[h.l];omega),h.v',Jq,show j+(i+1)=(i+j)+1 by omega,Ko,show j+i=i+j by omega,he]
  have e2:BB^j*(BB^i*v.getD i 0)=BB^(i+j)*v.getD i 0:=by
   rw[Int.pow_add];simp only[Int.mul_assoc,cR]
  rw[Int.mul_add (BB^j),e2,Int.mul_assoc,bH,bH,Int.mul_add,Int.mul_add];omega
 .rw[getD_set_ne qo];exact h.r p qo
def U5{a b:nd}{k:Nat}(hl:a.length=b.length)(h:∀j,j<k->a.getD j 0=b.getD j 0):a.take k=b.take k:=by
 apply cE
 .simp[hl]
 .intro i h1 h2;have:=h i (by simp at h1;omega);simp at h1 h2;simpa [List.getD_eq_getElem?_getD,show i<a.length by omega,show i<b.length by omega] using this
def Vq:∀{l:nd},(∀j,l.getD j 0=0)->val l=0
 |[],_=>rfl
 |x::l,h=>by
  have h0:=h 0;rw[val,Vq (l:=l) (λj=>by have:=h (j+1);rwa [bg] at this)];simp at h0;rw[h0];rfl
def Yl{l:nd}{k j:Nat}:(l.drop k).getD j 0=l.getD (k+j) 0:=by
 simp[List.getD_eq_getElem?_getD,List.getElem?_drop]
def Lg.w{x:Int}{v:nd}{m:Nat}{u q:nd}{j:Nat}(h:Lg x v m u q (j+1))(hv:Dg v):0<=val (u.drop j)/\val (u.drop j)<BB*val v:=by
 have hj:=h.jm;have hl:=h.lu;have hup:=h.up;by_cases hn:v.length=0
 .exfalso;have:v=[]:=bB hn;rw[this,val] at hup;have:=QJ (h.du.drop (j+1));omega
 refine⟨QJ (h.du.drop j),?_⟩;rw[JY qo];have h1:0<=u.getD j 0/\u.getD j 0<1000000000:=h.du.any j;unfold BB;omega
def Lg.top{x:Int}{v:nd}{m:Nat}{u q:nd}{j:Nat}(h:Lg x v m u q (j+1))(hv:Dg v):val (u.drop (j+1+v.length))=0:=by
 have hd:=h.du.drop (j+1);have hj:=h.jm;have hl:=h.lu;have e:=JU (u.drop (j+1)) v.length (by simp;omega);rw[dZ] at e;have h1:=QJ (hd.take v.length);have h2:=QJ (h.du.drop (j+1+v.length));have h3:=Xn hv;have hup:=h.up;have hp:=Xx v.length;refine eX (Int.not_lt.1 λhx=>?_) h2;have:=am (show(1:Int)<=val (u.drop (j+1+v.length)) by omega) (aN hp);omega
def FF:∀{l:nd},Dg l->val l=0->∀j,l.getD j 0=0
 |[],_,_,_=>by simp
 |x::l,h,hv,j=>by
  have h1:0<=x/\x<1000000000:=h.head;have h2:=QJ h.tail;rw[val] at hv;have h3:x=0/\val l=0:=by unfold BB at hv;omega
  match j with
  |0=>simpa using h3.1
  |j+1=>rw[bg];exact FF h.tail h3.2 j
def Lg.next{x:Int}{v:nd}{m:Nat}{u q:nd}{j:Nat}(h:Lg x v m u q (j+1))(hv:Dg v)(h0:0<val v){o:nd}{g:Int}(hl:o.length=u.length)(hd:Dg o)(ho:val o=val u-BB^j*(g*val v))(hr:∀p,p<j->o.getD p 0=u.getD p 0)(hg:g=val (u.drop j)/val v):Lg x v m o (q.set j g) j:=by
 have hw:=h.w hv;have hj:=h.jm;have hlu:=h.lu;have hlq:=h.lq;have q0:0<=g:=hg ▸ cg hw.1 (aN h0);have q1:g<BB:=hg ▸ cn h0 hw.2;have e1:=JU u j qo;have e2:=JU o j qo;have hp:=Xx j;rw[U5 (k:=j) hl hr,ho] at e2
 have e3:val (o.drop j)=val (u.drop j)-g*val v:=by
  apply dF (dP hp);rw[bH];omega
 have e4:=bW (val (u.drop j)) (val v);have e5:=bN (val (u.drop j)) h0;rw[<-hg,aT] at e4;refine⟨by omega,by simpa using hlq,hd,h.dq.set ⟨q0,q1⟩,λi hi=>?_,?_,by omega,by omega⟩
 .rw[getD_set_ne qo];exact h.z i qo
 .rw[X6 qo,h.z j qo,ho,<-h.v',eC,Int.mul_add];have:val v*(BB^j*g)=BB^j*(g*val v):=by rw[cR,aT (val v) g]
  omega
def Ls.end'{x:Int}{v:nd}{m:Nat}{u q:nd}{j:Nat}(h:Lg x v m u q (j+1))(hv:Dg v)(h0:0<val v){o:nd}{g c:Int}(hs:Ls u v g j o v.length c)(hg:g=val (u.drop j)/val v\/g=val (u.drop j)/val v+1) :
  (0<=o.getD (j+v.length) 0-c->g=val (u.drop j)/val v/\Dg (o.set (j+v.length) (o.getD (j+v.length) 0-c)))/\
  (o.getD (j+v.length) 0-c<0->g=val (u.drop j)/val v+1)/\
  val (o.set (j+v.length) (o.getD (j+v.length) 0-c))=val u-BB^j*(g*val v):=by
 have hw:=h.w hv;have hj:=h.jm;have hlu:=h.lu;have hl:=hs.l;have hc:0<=c/\c<1000000000:=hs.cd;have hk:j+v.length<o.length:=qo;have h1:0<=o.getD (j+v.length) 0/\o.getD (j+v.length) 0<1000000000:=hs.d.any _
 have ev:val (o.set (j+v.length) (o.getD (j+v.length) 0-c))=val u-BB^j*(g*val v):=by
  rw[X6 hk,hs.v',aQ,show o.getD (j+v.length) 0-c-o.getD (j+v.length) 0= -c by omega,ee];omega
 have hr:∀p,p<j->(o.set (j+v.length) (o.getD (j+v.length) 0-c)).getD p 0=u.getD p 0:=λp hp=>by
  rw[getD_set_ne qo];exact hs.r p qo
 have e1:=JU u j qo;have e2:=JU (o.set (j+v.length) (o.getD (j+v.length) 0-c)) j (by simp;omega);have hp:=Xx j;rw[U5 (k:=j) (by simpa using hl) hr,ev] at e2
 have e3:val ((o.set (j+v.length) (o.getD (j+v.length) 0-c)).drop j)=val (u.drop j)-g*val v:=by
  apply dF (dP hp);rw[bH];omega
 have e4:=bW (val (u.drop j)) (val v);have e5:=bN (val (u.drop j)) h0;have e6:=cL (val (u.drop j)) (dP h0);refine⟨λhx=>?_,λhx=>?_,ev⟩
 .have hd:Dg (o.set (j+v.length) (o.getD (j+v.length) 0-c)):=hs.d.set ⟨hx,by show _<(1000000000:Int);omega⟩;refine⟨?_,hd⟩;have:=QJ (hd.drop j);rcases hg with hg|hg
  .exact hg
  .exfalso;rw[hg,cf,aT (_/_)] at e3;omega
 .rcases hg with hg|hg
  .exfalso;rw[hg,aT (_/_)] at e3;have hlen:v.length<((o.set (j+v.length) (o.getD (j+v.length) 0-c)).drop j).length:=by simp;omega
   have e7:=JU ((o.set (j+v.length) (o.getD (j+v.length) 0-c)).drop j) v.length qo;rw[dZ,JY (j:=j+v.length) (by simp;omega),ZY (j:=j+v.length+1) qo,Xo hk] at e7
   have e8:val (o.drop (j+v.length+1))=0:=by
    apply Vq;intro i;have e:=FF (h.du.drop _) (h.top hv) i;rw[Yl] at e;rw[Yl,hs.r _ qo,show j+v.length+1+i=j+1+v.length+i by omega,e]
   rw[e8] at e7
   have e9:Dg (((o.set (j+v.length) (o.getD (j+v.length) 0-c)).drop j).take v.length):=λi hi=>by
    simp at hi;rw[Z9 qo,Yl,getD_set_ne qo];exact hs.d.any _
   have e10:=Xn e9;rw[ar,aF qo] at e10;have hpn:=Xx v.length;have:=am (show o.getD (j+v.length) 0-c+BB*0<=-1 by omega) (aN hpn);omega
  .exact hg
def La.end'{x:Int}{v:nd}{m:Nat}{u q:nd}{j:Nat}(h:Lg x v m u q (j+1))(hv:Dg v)(h0:0<val v){s o:nd}{g c:Int}(hsl:s.length=u.length)(hsr:∀p,(p<j\/j+v.length<p)->s.getD p 0=u.getD p 0)(hsv:val s=val u-BB^j*(g*val v))(hg:g=val (u.drop j)/val v+1)(hs:La s v j o v.length c) :
  Dg (o.set (j+v.length) (o.getD (j+v.length) 0+c))/\val (o.set (j+v.length) (o.getD (j+v.length) 0+c))=val u-BB^j*((g-1)*val v)/\∀p,p<j->(o.set (j+v.length) (o.getD (j+v.length) 0+c)).getD p 0=u.getD p 0:=by
 have hw:=h.w hv;have hj:=h.jm;have hlu:=h.lu;have hl:=hs.l;have hk:j+v.length<o.length:=qo
 have ev:val (o.set (j+v.length) (o.getD (j+v.length) 0+c))=val u-BB^j*((g-1)*val v):=by
  rw[X6 hk,hs.v',aQ,hsv,show o.getD (j+v.length) 0+c-o.getD (j+v.length) 0=c by omega,cZ,bH,cO];omega
 have hr:∀p,p<j->(o.set (j+v.length) (o.getD (j+v.length) 0+c)).getD p 0=u.getD p 0:=λp hp=>by
  rw[getD_set_ne qo,hs.r p qo,hsr p qo]
 refine⟨?_,ev,hr⟩;have e1:=JU u j qo;have e2:=JU (o.set (j+v.length) (o.getD (j+v.length) 0+c)) j (by simp;omega);have hp:=Xx j;rw[U5 (k:=j) (by simp;omega) hr,ev] at e2
 have e3:val ((o.set (j+v.length) (o.getD (j+v.length) 0+c)).drop j)=val (u.drop j)-(g-1)*val v:=by
  apply dF (dP hp);rw[bH];omega
 have e4:=bW (val (u.drop j)) (val v);have e5:=bN (val (u.drop j)) h0;have e6:=cL (val (u.drop j)) (dP h0);rw[show g-1=val (u.drop j)/val v by omega,aT (_/_)] at e3;refine Dge.dg (k:=j+v.length) (hs.d.set (λhx=>absurd rfl hx)) ?_;rw[Xo hk];have e7:=JU ((o.set (j+v.length) (o.getD (j+v.length) 0+c)).drop j) v.length (by simp;omega);rw[dZ,JY (j:=j+v.length) (by simp;omega),ZY (j:=j+v.length+1) qo,Xo hk] at e7
 have e8:val (o.drop (j+v.length+1))=0:=by
  apply Vq;intro i;have e:=FF (h.du.drop _) (h.top hv) i;rw[Yl] at e;rw[Yl,hs.r _ qo,hsr _ qo,show j+v.length+1+i=j+1+v.length+i by omega,e]
 rw[e8] at e7
 have e9:Dg (((o.set (j+v.length) (o.getD (j+v.length) 0+c)).drop j).take v.length):=λi hi=>by
  simp at hi;rw[Z9 qo,Yl,getD_set_ne qo];exact hs.d _ qo qo
 have e10:=Xn e9;have e11:=QJ e9;rw[ar,aF (by simp;omega)] at e10;have hpn:=Xx v.length;have hvl:=Xn hv;generalize o.getD (j+v.length) 0+c=y at *
 have:y=0:=by
  rw[eF,eI] at e7;rcases eG y 0 with hy|hy|hy
  .exfalso;have:=am (show y<=-1 by omega) (aN hpn);omega
  .exact hy
  .exfalso;have:=am (show 1<=y by omega) (aN hpn);omega
 rw[this];exact⟨by decide,by decide⟩
def HR{b s:Int}(hb:1<=b/\b<BB)(hs:s=BB/(b+1)):1<=s/\s<BB/\s*(b+1)<=BB/\500000000<=b*s:=by
 have h1:1<=s:=by rw[hs];exact(Int.le_ediv_iff_mul_le qo).2 (by unfold BB at *;omega)
 have e:=bW BB (b+1);have e2:=bN BB (show 0<b+1 by omega);have e3:=cL BB (show b+1≠0 by omega);rw[<-hs] at e;have e4:(b+1)*s=b*s+s:=by rw[cf,cO]
 have e5:0<=(b-1)*(s-1):=bU qo qo;have e6:(b-1)*(s-1)=b*s-b-s+1:=by rw[cZ,bH];omega
 have e7:1*s<=b*s:=aC hb.1 qo;refine⟨h1,?_,by rw[aT];omega,?_⟩<;>(unfold BB at *;omega)
def scaled_v{b o:nd}{s:Int}(hb:Dg b)(hn:Nrm b)(h2:2<=b.length)(hs:s=BB/(b.getD (b.length-1) 0+1))(hol:o.length=b.length+1)(hod:Dg o)(hov:val o=val b*s) :
  (o.take b.length).length=b.length/\Dg (o.take b.length)/\val (o.take b.length)=val b*s/\500000000<=(o.take b.length).getD (b.length-1) 0/\0<val b/\1<=s/\s<BB:=by
 have ht:0<=b.getD (b.length-1) 0/\b.getD (b.length-1) 0<1000000000:=hb.any _;have hne:=hn qo;obtain⟨s1,s2,s3,s4⟩:=HR (b:=b.getD (b.length-1) 0) ⟨by omega,ht.2⟩ hs;have hcut:=JU b (b.length-1) qo;rw[JY qo,XK qo] at hcut;have hl1:=Xn (hb.take (b.length-1));have hl2:=QJ (hb.take (b.length-1));rw[ar,aF qo] at hl1;have hp:=Xx (b.length-1);have hps:BB^b.length=BB^(b.length-1)*BB:=by rw[<-Ko];congr 1;omega
 generalize b.getD (b.length-1) 0=t at *;generalize hpp:BB^(b.length-1)=p at *;rw[eF,eI] at hcut;have k1:p*t<=val b:=qo;have k2:val b<p*(t+1):=by rw[Int.mul_add,eR];omega
 have k3:0<val b:=by
  have:=am (show(1:Int)<=t by omega) (aN hp);omega
 have k4:val b*s<p*BB:=by
  have e1:=Int.mul_lt_mul_of_pos_right k2 (show 0<s by omega);have e2:=am s3 (aN hp);rw[aT s,<-Int.mul_assoc] at e2;omega
 have k5:p*500000000<=val b*s:=by
  have e1:=aC k1 (show 0<=s by omega);have e2:=am s4 (aN hp);rw[Int.mul_assoc] at e1;omega
 have hoc:=JU o b.length qo;rw[JY qo,XK qo,hov,hps] at hoc;have ho1:=QJ (hod.take b.length);have ho2:0<=o.getD b.length 0/\o.getD b.length 0<1000000000:=hod.any _
 have hz:o.getD b.length 0=0:=by
  refine eX (Int.not_lt.1 λhx=>?_) ho2.1;have:=am (show(1:Int)<=o.getD b.length 0+BB*0 by omega) (show 0<=p*BB from bU (aN hp) qd);omega
 have hlen:(o.take b.length).length=b.length:=by simp;omega
 have hval:val (o.take b.length)=val b*s:=by rw[hz] at hoc;simp at hoc;omega
 refine⟨hlen,hod.take _,hval,?_,k3,s1,s2⟩;have hc3:=JU (o.take b.length) (b.length-1) qo;rw[JY qo,XK qo,hval,hpp] at hc3;have h4:=Xn ((hod.take b.length).take (b.length-1));rw[ar,hlen,aF qo,hpp] at h4;generalize (o.take b.length).getD (b.length-1) 0=y at *;refine Int.not_lt.1 λhx=>?_;have:=am (show y+BB*0+1<=500000000 by omega) (aN hp);rw[Int.mul_add,eR] at this;omega
def Lg.start{a b v u:nd}{s:Int}(ha:Dg a)(hv:Dg v)(hvl:v.length=b.length)(hvv:val v=val b*s)(hb0:0<val b)(hs:1<=s/\s<BB)(h2:2<=b.length)(hbn:Dg b)(hbm:Nrm b)(hab:b.length<=a.length)(hul:u.length=a.length+1)(hud:Dg u)(huv:val u=val a*s) :
  Lg (val a*s) v (a.length-b.length+1) u (List.replicate (a.length-b.length+1) 0) (a.length-b.length+1):=by
 refine⟨by omega,by simp,hud,Dg.rep _,λi hi=>by simp only[List.getD_eq_getElem?_getD,List.getElem?_replicate];split<;>rfl,by rw[VR,huv];omega,?_,ai _⟩;have hcut:=JU u (a.length-b.length+1) qo;have h1:=QJ (hud.take (a.length-b.length+1));have hal:=Xn ha;have hbc:=JU b (b.length-1) qo;rw[JY qo,XK qo] at hbc;have h3:=QJ (hbn.take (b.length-1));have h4:0<=b.getD (b.length-1) 0/\b.getD (b.length-1) 0<1000000000:=hbn.any _;have h5:=hbm qo;have hp:=Xx (b.length-1);have hp2:=Xx (a.length-b.length+1);have e:BB^a.length=BB^(a.length-b.length+1)*BB^(b.length-1):=by rw[<-Int.pow_add];congr 1;omega
 have h6:=am (show(1:Int)<=b.getD (b.length-1) 0+BB*0 by omega) (aN hp);rw[e] at hal;generalize BB^(b.length-1)=p at *;generalize BB^(a.length-b.length+1)=r at *;have k1:val a*s<(r*p)*s:=Int.mul_lt_mul_of_pos_right hal qo;have k2:p*s<=val v:=by rw[hvv];exact aC qo qo
 have k3:=am k2 (aN hp2);rw[Int.mul_assoc] at k1;have:r*val (u.drop (a.length-b.length+1))<r*val v:=qo;exact Int.lt_of_mul_lt_mul_left this (aN hp2)
def Lg.gs{x:Int}{v:nd}{m:Nat}{u q:nd}{j:Nat}(h:Lg x v m u q (j+1))(hv:Dg v)(h2:2<=v.length)(h1:500000000<=v.getD (v.length-1) 0) :
  Gs (val (u.drop j)) (val v) (BB^(v.length-2)) (v.getD (v.length-1) 0) (v.getD (v.length-2) 0) (u.getD (j+v.length) 0*BB+u.getD (j+v.length-1) 0) (u.getD (j+v.length-2) 0):=by
 have hw:=h.w hv;have hj:=h.jm;have hl:=h.lu;have hp:=Xx (v.length-2);have hvc:=JU v (v.length-2) qo;rw[JY qo,JY qo,XK qo,show v.length-2+1=v.length-1 by omega] at hvc;have hvd:=hv.take (v.length-2);have v1:=Xn hvd;have v2:=QJ hvd;rw[ar,aF qo] at v1;have huc:=JU (u.drop j) (v.length-2) (by simp;omega);rw[dZ,JY (j:=j+(v.length-2)) qo,JY (j:=j+(v.length-2)+1) qo,JY (j:=j+(v.length-2)+1+1) qo,show j+(v.length-2)+1+1+1=j+1+v.length by omega,h.top hv,show j+(v.length-2)+1+1=j+v.length by omega,show j+(v.length-2)+1=j+v.length-1 by omega,show j+(v.length-2)=j+v.length-2 by omega] at huc;have hud:=(h.du.drop j).take (v.length-2);have u1:=Xn hud;have u2:=QJ hud;rw[ar,aF (by simp;omega)] at u1;have d1:0<=u.getD (j+v.length) 0/\u.getD (j+v.length) 0<1000000000:=h.du.any _;have d2:0<=u.getD (j+v.length-1) 0/\u.getD (j+v.length-1) 0<1000000000:=h.du.any _;have d3:0<=v.getD (v.length-1) 0/\v.getD (v.length-1) 0<1000000000:=hv.any _;have d4:=h.du.any (j+v.length-2);have d5:=hv.any (v.length-2);generalize BB^(v.length-2)=p at *;generalize u.getD (j+v.length) 0=x1 at *;generalize u.getD (j+v.length-1) 0=x2 at *;generalize u.getD (j+v.length-2) 0=x3 at *;generalize v.getD (v.length-1) 0=y1 at *;generalize v.getD (v.length-2) 0=y2 at *;have e1:p*(x3+BB*(x2+BB*(x1+BB*0)))=((x1*BB+x2)*BB+x3)*p:=by rw[aT];congr 1;unfold BB;omega
 have e2:p*(y2+BB*(y1+BB*0))=(y1*BB+y2)*p:=by rw[aT];congr 1;unfold BB;omega
 rw[e1] at huc;rw[e2] at hvc;refine⟨hp,by omega,?_,by omega,?_,hw.2,hw.1,⟨h1,d3.2⟩,d5,d4,by unfold BB;omega⟩
 .rw[cf _ 1,cO];omega
 .rw[cf _ 1,cO];omega
def Lg.fin{a b v u q:nd}{m:Nat}{s:Int}(h:Lg (val a*s) v m u q 0)(hv:Dg v)(hvv:val v=val b*s)(hb0:0<val b)(hs:1<=s):val q=val a/val b/\val (u.take v.length)=(val a%val b)*s/\Dg q/\Dg (u.take v.length):=by
 have hup:=h.up;rw[List.drop_zero] at hup;have he:=h.v';have hu0:=QJ h.du;have hcut:=JU u v.length (by have:=h.lu;omega);have h1:=QJ (h.du.take v.length);have h2:=QJ (h.du.drop v.length);have h3:=Xn hv;have hp:=Xx v.length
 have hz:val (u.drop v.length)=0:=by
  refine eX (Int.not_lt.1 λhx=>?_) h2;have:=am (show(1:Int)<=val (u.drop v.length) by omega) (aN hp);omega
 rw[hz] at hcut
 have e1:val u=(val a-val b*val q)*s:=by
  rw[cZ,Int.mul_assoc,aT (val q) s,<-Int.mul_assoc,<-hvv];omega
 rw[e1] at hup hu0;rw[hvv] at hup;have k1:val a-val b*val q<val b:=Int.lt_of_mul_lt_mul_right hup qo
 have k2:0<=val a-val b*val q:=by
  refine Int.not_lt.1 λhx=>?_;have:=aC (show val a-val b*val q<=-1 by omega) (show 0<=s by omega);omega
 have:=(bI (a:=val a) (b:=val b) (r:=val a-val b*val q) (q:=val q) hb0).2 ⟨by omega,k2,k1⟩;refine⟨this.1.symm,?_,h.dq,h.du.take _⟩;rw[this.2,<-e1];omega
section
open W Go.RowKit
def IsShort(x b:Int)(n:Nat):Qd:=λv B G=>∃w q,v=.tuple #[w,nj (x%b)]/\B=[]/\G=[sI w q]/\Dg q/\val q=x/b/\q.length=n
def IsOD(z:Int)(m:Nat):Qd:=λv B G=>∃l,B=[Ow.slice v 3 1 (ints l)]/\G=[]/\Dg l/\val l=z/\l.length=m
namespace Lng
attribute [local irreducible] WC WL WD YO LO Qq W.Fin Qk Qh Qj Row QZ Qv KnS Has W.One Qo QX
def goB{G G':Prop}(h:G')(s:Bx G'->G:=by
 intro h
 first
  |(apply WL.YE;exact wq35;exact rfl;exact rfl)
  |(apply WD.Y3;exact rfl;exact wq55;exact rfl;exact rfl)
  |(apply WD.ZD;exact rfl;exact wq80;exact rfl;exact rfl)
 exact Bx.h h):G:=s ⟨h⟩
def scaled_c(u:nA)(a:nd)(m:Int)(ha:Dg a)(hm:Dgt m)(hl:a.length<=1000000000) :
  FnB Tryz.prog 228 [u,nj m] [] [sI u a] (IsOD (val a*m) (a.length+1)):=by
 refine fO [(0,u),(1,(nj m))] 40 Tryz.func228 Tryz.ntmps228 λh0=>?_;refine gAr ?_;intro v
 refine WC.lp (σ:=Nat×nd×Int) (λs=>[(16,nj (s.1:Int)),(15,nj (a.length:Int)),(14,u),(6,nj s.2.2),(5,v),(0,u),(1,nj m)]) (λs=>[Ow.slice v 3 1 (ints s.2.1)]) (λ_=>[ge h0,sI u a])
  (λs=>s.1<=a.length/\Sk a m s.2.1 s.1 s.2.2) (λs=>a.length-s.1) (0,List.replicate (a.length+1) 0,0) ⟨by simp,Sk.z0⟩ ?_
 rintro⟨k,o,c⟩ ⟨hk,hs⟩;simp only at hk hs ⊢;have hol:=hs.l;by_cases hlt:k<a.length
 .have hb:=sk_bd (ha k hlt) hm hs.cd;have hc:0<=c/\c<1000000000:=hs.cd;refine gAr ?_;exact Qq.mk (k+1,_,_) ⟨by show k+1<=a.length;omega,hs.step hlt ha hm rfl rfl⟩ wq40
 .obtain rfl:k=a.length:=qo;obtain⟨h5,h6⟩:=hs.fin;refine gAr ?_;refine WC.ret ?_;exact Fin.p [Ow.slice v 3 1 (ints (o.set a.length c))] [] (Qf.t1 rfl rfl) meA slA haA ⟨_,rfl,rfl,h5,h6,by simp;omega⟩
end Lng
namespace Lnh
attribute [local irreducible] WC WL WD YO LO Qq W.Fin Qk Qh Qj Row QZ Qv KnS Has W.One Qo QX
def goB{G G':Prop}(h:G')(s:Bx G'->G:=by
 intro h
 first
  |(apply WL.YE;exact wq35;exact rfl;exact rfl)
  |(apply WD.Y3;exact rfl;exact wq55;exact rfl;exact rfl)
  |(apply WD.ZD;exact rfl;exact wq80;exact rfl;exact rfl)
 exact Bx.h h):G:=s ⟨h⟩
def Zt{G G':Prop}(h:G')(s:Bx G'->G:=by
 intro h
 (apply WD.yl;exact rfl;exact wq7;exact rfl;exact rfl)
 exact Bx.h h):G:=s ⟨h⟩
def short_c(u:nA)(a:nd)(b:Int)(ha:Dg a)(hb:Dgt b)(hb0:0<b)(hl:a.length<=1000000000) :
  FnB Tryz.prog 224 [u,nj b] [] [sI u a] (IsShort (val a) b a.length):=by
 refine fO [(0,u),(1,(nj b))] 38 Tryz.func224 Tryz.ntmps224 λh0=>?_;have hb':0<=b/\b<1000000000:=hb;refine gBr ?_;intro v
 refine WC.lp (σ:=Nat×nd×Int) (λs=>[(8,nj ((s.1:Int)-1)),(7,nj s.2.2),(6,v),(0,u),(1,nj b)]) (λs=>[Ow.slice v 3 1 (ints s.2.1)]) (λ_=>[ge h0,sI u a])
  (λs=>s.1<=a.length/\Sh a b s.2.1 s.1 s.2.2) (λs=>s.1) (a.length,List.replicate a.length 0,0) ⟨ai _,Sh.z0 hb0⟩ ?_
 rintro⟨k,o,c⟩ ⟨hk,hs⟩;simp only at hk hs ⊢;have hol:=hs.l;obtain⟨hc0,hc1⟩:=hs.r0;match k,hk,hs with
 |k+1,hk,hs=>
  have h1:0<=a.getD k 0/\a.getD k 0<1000000000:=ha k qo;have e1:((k+1:Nat):Int)-1=(k:Int):=qo;rw[e1];refine gBr ?_;refine WC.Hw (id:=7) [] slA [0,1,2,3,4,5,6,7,10] (.h 0<|.h 1<|.h 2<|.h 3<|.h 4<|.h 5<|.h 6<|.h 7<|.l 8<|.l 9<|.h 10 .done) mixed kr ?_;refine gBr ?_;refine Zt ?_;refine gBr ?_;exact Qq.mk (k,_,_) ⟨by show k<=a.length;omega,hs.step qo ha rfl rfl⟩ (by show k<k+1;omega)
 |0,hk,hs=>
  obtain⟨h5,h6,h7⟩:=hs.fin;refine gBr ?_;refine WC.Q6 (l:=o) (v:=v) (el:=3) wq3 ?_;refine WC.ret ?_;exact Fp [sI v o] (Qf.t2 rfl rfl rfl) haA ⟨_,_,by rw[h7],rfl,rfl,h5,h6,hol⟩
end Lnh
end
end Go.Proofs.YtbnobghgnbockaaGreat
