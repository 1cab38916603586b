/- Lemmas. Conditions: none. -/
import Derived.Test.YtbnobghgnbockaaGreatZk10
import Derived.Scope
set_option linter.all false
set_option maxHeartbeats 0
set_option maxRecDepth 100000
namespace Go.Proofs.YtbnobghgnbockaaGreat
open Tryz (prog)
open W Go.RowKit
def IsLong(x y:Int)(n m:Nat):Qd:=λv B G=>∃w q w2 r,v=.tuple #[w,w2]/\B=[]/\G=[sI w q,sI w2 r]/\Dg q/\val q=x/y/\q.length=n/\Dg r/\val r=x%y/\r.length=m
def WD.Q6{P:nh}{n:Nat}{L:List Oper}{hs:List Nat}{b0:nw}{F0:nc}{r:Plan}{e:Env}{bx bx':nw}{F:nc}{Q:Env->nw->nc->Prop}{v:nA}{el:Nat}{l:nd}(hs':Sel bx (.slice v el 1 (ints l)) (.slice nz el 1 []) bx')(h:WD P n L hs b0 F0 r e bx' (sI v l::F) Q):WD P n L hs b0 F0 r e bx F Q:=λfr w0 listed a w fuel Q' h1 h2 h3 h4 h5 h6 hk hr ho hf=>h fr w0 listed a w fuel Q' h1 h2 h3 h4 h5 h6 hk hr (ho.freeze hs' (by simp) qd _ λj hj=>by
  have hj':j<l.length:=qo;simp[hj']) hf
def WC.scope{P:nh}{n:Nat}{c:Code}{e:Env}{bx:nw}{F:nc}{Q:Post}(h:WC P n c e bx F Q):WC P n (.scope c) e bx F Q:=λfr w0 a w hk hr ho=>by
 exact wpR_scope (h fr w0 a w hk hr ho)
def WC.JK{P:nh}{n k:Nat}{e:Env}{bx:nw}{F:nc}{x y:Code}{Q:Post}{σ:Type}(E:σ->Env)(B:σ->nw)(G:σ->nc)(I:σ->Prop)
  (h1:WC P n x e bx F (blockQ k (XB (λe' bx' F'=>∃s,I s/\W.Sub (E s) e'/\(B s).Sublist bx'/\Qz F' (G s)) Q)))
  (h2:∀s,I s->WC P n y (E s) (B s) (G s) Q):WC P n x e bx F (blockQ k (XB (λe bx F=>WC P n y e bx F Q) Q)):=by
 have key:∀e b f,(∃s,I s/\W.Sub (E s) e/\(B s).Sublist b/\Qz f (G s))->WC P n y e b f Q:=λe b f h=>by
  obtain⟨s,h3,h4,h5,h6⟩:=h;exact(h2 s h3).weak h4 h5 h6.all
 refine h1.mono λex e b f h=>?_;cases ex with
 |normal=>exact key _ _ _ h
 |exit i=>
  simp only[blockQ] at h ⊢;cases hb:Nat.beq i k with
  |true=>rw[hb] at h;exact key _ _ _ h
  |false=>rw[hb] at h;exact h
 |goto l=>exact h
 |ret=>exact h
 |panic c=>exact h
 |outgrown=>exact h
namespace Lnl
attribute [local irreducible] WC WL WD YO LO Qq W.Fin Qk Qh Qj Row QZ Qv KnS Has W.One Qo QX
def d225{G G':Prop}(h:G')(s:Bx G'->G:=by
 intro h;first|refine gB ?_|refine Zt ?_|(apply WC.draw (id:=2) [0,1,3,4,6,7,9,10] (.h 0<|.h 1<|.h 3<|.h 4<|.h 6<|.h 7<|.l 2<|.l 5<|.h 9<|.l 8<|.h 10 .done) mixed kr)|(apply WC.draw (id:=8) [0,1,2,3,4,5,6,7,8,9,10,11,12,13,14,15] (.h 0<|.h 1<|.h 2<|.h 3<|.h 4<|.h 5<|.h 6<|.h 7<|.h 8<|.h 9<|.h 10<|.h 11<|.h 12<|.h 13<|.h 14<|.h 15 .done) mixed kr)|(apply WC.draw (id:=9) [0,1,2,3,4,5,6,7,8,9,10,11,12,13,14,15] (.h 0<|.h 1<|.h 2<|.h 3<|.h 4<|.h 5<|.h 6<|.h 7<|.h 8<|.h 9<|.h 10<|.h 11<|.h 12<|.h 13<|.h 14<|.h 15 .done) mixed kr)|(apply WC.draw (id:=10) [0,1,2,3,4,5,6,7,8,9,10,11,12,13,14,15,16,17,18,19,20,21] (.h 0<|.h 1<|.h 2<|.h 3<|.h 4<|.h 5<|.h 6<|.h 7<|.h 8<|.h 9<|.h 10<|.h 11<|.h 12<|.h 13<|.h 14<|.h 15<|.h 16<|.h 17<|.h 18<|.h 19<|.h 20<|.h 21 .done) mixed kr)|(apply WC.draw (id:=18) [0,1,2,3,4,5,6,7,8,9,10,11,12,13,14,15] (.h 0<|.h 1<|.h 2<|.h 3<|.h 4<|.h 5<|.h 6<|.h 7<|.h 8<|.h 9<|.h 10<|.h 11<|.h 12<|.h 13<|.h 14<|.h 15 .done) mixed kr)|(apply WC.draw (id:=32) [0,1,2,3,4,5,6,7,8,9,10,11,12,13] (.h 0<|.h 1<|.h 2<|.h 3<|.h 4<|.h 5<|.h 6<|.h 7<|.h 8<|.h 9<|.h 10<|.h 11<|.h 12<|.h 13 .done) mixed kr)|fail
 exact Bx.h h):G:=s ⟨h⟩
def d225r{G G':Prop}(h:G')(s:Bx G'->G:=by
 intro h;repeat'(first|intro(zQ:Nat)|refine d225 ?_|intro zQ)
 repeat revert zQ
 exact Bx.h h):G:=s ⟨h⟩

def goB{G G':Prop}(h:G')(s:Bx G'->G:=by
 intro h
 first
  |(apply WL.YE;exact wq35;exact rfl;exact rfl)
  |(apply WD.YE;exact rfl;exact wq35;exact rfl;exact rfl)
  |(apply WD.Y3;exact rfl;exact wq55;exact rfl;exact rfl)
  |(apply WD.ZD;exact rfl;exact wq80;exact rfl;exact rfl)
 exact Bx.h h):G:=s ⟨h⟩
def Zt{G G':Prop}(h:G')(s:Bx G'->G:=by
 intro h
 (apply WD.yl;exact rfl;exact wq7;exact rfl;exact rfl)
 exact Bx.h h):G:=s ⟨h⟩
def long_c(u0 v0:nA)(a b:nd)(ha:Dg a)(hb:Dg b)(hbn:Nrm b)(h2:2<=b.length)(hab:b.length<=a.length)(hl:a.length<=1000000000) :
  FnB prog 225 [u0,v0] [] [sI u0 a,sI v0 b] (IsLong (val a) (val b) (a.length-b.length+1) b.length):=by
 refine fO [(0,u0),(1,v0)] 222 Tryz.func225 Tryz.ntmps225 λh0=>?_;have en:((b.length:Int)-1).toNat=b.length-1:=qo;have ht:0<=b.getD ((b.length:Int)-1).toNat 0/\b.getD ((b.length:Int)-1).toNat 0<1000000000:=hb.any _;have hne:=hbn qo;rw[<-en] at hne;obtain⟨s1,s2,s3,s4⟩:=HR (b:=b.getD ((b.length:Int)-1).toNat 0) ⟨by omega,ht.2⟩ rfl;refine d225r ?_;simp only[show BB=1000000000 from rfl] at s1 s2 s3 s4;generalize hs:(1000000000:Int)/(b.getD ((b.length:Int)-1).toNat 0+1)=s at *;rw[en] at hs;refine WD.Jj (Lng.scaled_c u0 a s ha ⟨by omega,s2⟩ hl) ?_;rintro vu _ _ ⟨o,rfl,rfl,hod,hov,hol⟩;refine sNn ?_;refine WD.Jj (Lng.scaled_c v0 b s hb ⟨by omega,s2⟩ qo) ?_;rintro vv _ _ ⟨o2,rfl,rfl,hod2,hov2,hol2⟩;refine sNn ?_;obtain⟨k1,k2,k3,k4,k5,-,-⟩:=scaled_v hb hbn h2 hs.symm hol2 hod2 hov2;refine WD.Q6 (l:=o2) (v:=vv) (el:=3) wq3 ?_;refine d225r ?_;rw[show((a.length:Int)-(b.length:Int))=((a.length-b.length:Nat):Int) by omega];refine d225r ?_;intro v;refine WC.fact (sI (resl vv 0 b.length 1) (o2.take b.length)) (Has.takeI hmA qo) ?_;generalize resl vv 0 b.length 1=vw at *;generalize o2.take b.length=w at *;have hst:=Lg.start ha k2 k1 k3 k5 ⟨s1,s2⟩ h2 hb hbn hab hol hod hov;rw[show((a.length:Int)-(b.length:Int))=((a.length-b.length+1:Nat):Int)-1 by omega]
 refine WC.lp (σ:=Nat×nd×nd) (λst=>[(11,.int .i64 ((st.1:Int)-1)),(10,v),(9,.int .i64 (b.length:Int)),(8,vw),(7,vu),(6,.int .i64 s)]) (λst=>[Ow.slice v 3 1 (ints st.2.2),Ow.slice vu 3 1 (ints st.2.1)]) (λ_=>[ge h0,sI vw w])
  (λst=>Lg (val a*s) w (a.length-b.length+1) st.2.1 st.2.2 st.1) (λst=>st.1) (a.length-b.length+1,o,List.replicate (a.length-b.length+1) 0) hst ?_
 rintro⟨k,u,q⟩ hs;simp only at hs ⊢;have hlu:=hs.lu;have hlq:=hs.lq;have hjm:=hs.jm;match k,hs with
 |0,hs=>
  obtain⟨z1,z2,z3,z4⟩:=hs.fin k2 k3 k5 s1;rw[k1] at z2 z4;refine d225r ?_;refine WL.Q6 (l:=u) (v:=vu) (el:=3) wq3 ?_;refine WL.QD (sI (resl vu 0 b.length 1) (u.take b.length)) (Has.takeI hmA qo) ?_;refine WL.Jj (Lnh.short_c _ (u.take b.length) s z4 ⟨by omega,s2⟩ qo (by rw[ar];omega)) ?_;rintro vr _ _ ⟨w1,q1,rfl,rfl,rfl,y1,y2,y3⟩;refine sNn ?_;refine d225r ?_;refine WC.Q6 (l:=q) (v:=v) (el:=3) wq3 ?_;refine WC.ret ?_;exact Fp [sI v q,sI w1 q1] (Qf.t2 rfl rfl rfl) haA ⟨_,_,_,_,rfl,rfl,rfl,z3,z1,hs.lq,y1,by rw[y2,z2,Int.mul_ediv_cancel _ qo],by rw[y3,ar];omega⟩
 |j+1,hs=>
  have e1:((j+1:Nat):Int)-1=(j:Int):=qo;rw[e1];have hg:=hs.gs k2 qo (by rw[k1];exact k4);rw[k1] at hg;have i2:(((j+b.length:Nat):Int)-1).toNat=j+b.length-1:=qo;have i3:(((j+b.length:Nat):Int)-2).toNat=j+b.length-2:=qo;have i4:((b.length:Int)-1).toNat=b.length-1:=qo;have i5:((b.length:Int)-2).toNat=b.length-2:=qo;have d1:0<=u.getD (j+b.length) 0/\u.getD (j+b.length) 0<1000000000:=hs.du.any _;have d2:0<=u.getD (((j+b.length:Nat):Int)-1).toNat 0/\u.getD (((j+b.length:Nat):Int)-1).toNat 0<1000000000:=hs.du.any _;have d3:0<=u.getD (((j+b.length:Nat):Int)-2).toNat 0/\u.getD (((j+b.length:Nat):Int)-2).toNat 0<1000000000:=hs.du.any _;have d4:0<=w.getD ((b.length:Int)-1).toNat 0/\w.getD ((b.length:Int)-1).toNat 0<1000000000:=k2.any _;have d5:0<=w.getD ((b.length:Int)-2).toNat 0/\w.getD ((b.length:Int)-2).toNat 0<1000000000:=k2.any _;have d6:500000000<=w.getD ((b.length:Int)-1).toNat 0:=by rw[i4];exact k4
  refine d225r ?_;refine WC.scope ?_;refine d225r ?_;rw[i2] at d2;rw[i3] at d3;rw[i4] at d4 d6;rw[i5] at d5;simp only[i2,i4];generalize hX:u.getD (j+b.length) 0*BB+u.getD (j+b.length-1) 0=t at hg;have hX':u.getD (j+b.length) 0*1000000000+u.getD (j+b.length-1) 0=t:=hX;have hst:=hg.start
  refine WC.JK (σ:=Int) (λg=>[(13,.int .i64 g),(11,.int .i64 (j:Int)),(10,v),(9,.int .i64 (b.length:Int)),(8,vw),(7,vu),(6,.int .i64 s)]) (λ_=>[Ow.slice v 3 1 (ints q),Ow.slice vu 3 1 (ints u)]) (λ_=>[ge h0,sI vw w])
   (λg=>0<=g/\g<1000000000/\(g=val (u.drop j)/val w\/g=val (u.drop j)/val w+1)) ?_ ?_
  .refine WC.lp (σ:=Int×Int) (λst=>[(13,.int .i64 st.1),(14,.int .i64 st.2),(11,.int .i64 (j:Int)),(10,v),(9,.int .i64 (b.length:Int)),(8,vw),(7,vu),(6,.int .i64 s)]) (λ_=>[Ow.slice v 3 1 (ints q),Ow.slice vu 3 1 (ints u)]) (λ_=>[ge h0,sI vw w])
    (λst=>Gg (val (u.drop j)) (val w) (w.getD (b.length-1) 0) t st.1 st.2/\st.2<1000000000) (λst=>st.1.toNat) (t/w.getD (b.length-1) 0,t%w.getD (b.length-1) 0) ⟨hst,by have:=bN t (show 0<w.getD (b.length-1) 0 by omega);show t%w.getD (b.length-1) 0<_;omega⟩ ?_
   rintro⟨g,r⟩ ⟨hG,hr⟩;simp only at hG hr ⊢;have hg0:=hG.g0;have hr0:=hG.r0
   have hgt:g<=1000000001:=by
    have htb:=hg.tb;have e:=hG.e;refine Int.not_lt.1 λhx=>?_;have:=aC (show 1000000002<=g by omega) (show 0<=w.getD (b.length-1) 0 by omega);unfold BB at htb;omega
   have hm0:0<=g*w.getD (b.length-2) 0:=bU hg0 d5.1;have hm1:g*w.getD (b.length-2) 0<=1000000001*999999999:=fd hgt qo d5.1 qo;rw[<-i5] at hm0 hm1;rw[<-i5] at d5;rw[<-i3] at d3;have d7:0<=w.getD ((b.length:Int)-1).toNat 0/\w.getD ((b.length:Int)-1).toNat 0<1000000000:=k2.any _;by_cases c1:1000000000<=g
   .have hD:=hg.down hG (.inl c1);simp only[<-i4] at hD;by_cases c3:1000000000<=r+w.getD ((b.length:Int)-1).toNat 0
    .refine d225r ?_;rw[i4] at hD c3;have hE:=hg.done hD (.inl c3);exact Qr (g-1) ⟨hD.g0,hE⟩
    .refine d225r ?_;rw[i4] at hD;rw[i4];exact Qq.mk (g-1,_) ⟨hD,by show r+w.getD (b.length-1) 0<1000000000;rw[i4] at c3;omega⟩ (by show(g-1).toNat<g.toNat;have:=hD.g0;omega)
   .by_cases c2:r*1000000000+u.getD (((j+b.length:Nat):Int)-2).toNat 0<g*w.getD ((b.length:Int)-2).toNat 0
    .have hD:=hg.down hG (.inr (by rw[i3,i5] at c2;exact c2));simp only[<-i4] at hD;by_cases c3:1000000000<=r+w.getD ((b.length:Int)-1).toNat 0
     .refine d225r ?_;rw[i4] at hD c3;have hE:=hg.done hD (.inl c3);exact Qr (g-1) ⟨hD.g0,hE⟩
     .refine d225r ?_;rw[i4] at hD;rw[i4];exact Qq.mk (g-1,_) ⟨hD,by show r+w.getD (b.length-1) 0<1000000000;rw[i4] at c3;omega⟩ (by show(g-1).toNat<g.toNat;have:=hD.g0;omega)
    .refine d225r ?_;have hE:=hg.done hG (.inr ⟨by show g<1000000000;omega,by rw[i3,i5] at c2;exact Int.not_lt.1 c2⟩);exact Qr g ⟨hg0,hE⟩
  .rintro g ⟨g0,g1,g2⟩;refine d225r ?_
   refine WC.lp (σ:=Nat×nd×Int) (λst=>[(118,.int .i64 (st.1:Int)),(117,.int .i64 (b.length:Int)),(15,.int .i64 st.2.2),(13,.int .i64 g),(11,.int .i64 (j:Int)),(10,v),(9,.int .i64 (b.length:Int)),(8,vw),(7,vu),(6,.int .i64 s)]) (λst=>[Ow.slice v 3 1 (ints q),Ow.slice vu 3 1 (ints st.2.1)]) (λ_=>[ge h0,sI vw w])
    (λst=>st.1<=b.length/\Ls u w g j st.2.1 st.1 st.2.2) (λst=>b.length-st.1) (0,u,0) ⟨aj _,Ls.z hs.du⟩ ?_
   rintro⟨i,o3,c⟩ ⟨hi,hL⟩;simp only at hi hL ⊢;have hol3:=hL.l;by_cases c1:i<b.length
   .obtain⟨f1,f2,f3,f4,f5,f6,f7,f8⟩:=hL.bd k2 ⟨g0,g1⟩;by_cases c2:o3.getD (i+j) 0-g*w.getD i 0-c<0
    .refine d225r ?_;exact Qq.mk (i+1,_,_) ⟨by show i+1<=b.length;omega,hL.step qo (w:=o3.getD (i+j) 0-g*w.getD i 0-c+(-(o3.getD (i+j) 0-g*w.getD i 0-c)+1000000000-1)/1000000000*1000000000) (c':=(-(o3.getD (i+j) 0-g*w.getD i 0-c)+1000000000-1)/1000000000) ⟨by omega,by unfold BB;omega⟩ ⟨by omega,by unfold BB;omega⟩ (by unfold BB;omega)⟩ wq118
    .refine d225r ?_;exact Qq.mk (i+1,_,_) ⟨by show i+1<=b.length;omega,hL.step qo (w:=o3.getD (i+j) 0-g*w.getD i 0-c) (c':=0) ⟨by omega,by unfold BB;omega⟩ ⟨by omega,by unfold BB;omega⟩ qo⟩ wq118
   .obtain rfl:i=b.length:=qo;have d8:0<=o3.getD (j+b.length) 0/\o3.getD (j+b.length) 0<1000000000:=hL.d.any _;have d9:0<=c/\c<1000000000:=hL.cd;have hv0:0<val w:=by rw[k3];exact eQ k5 qo
    have hL':=hL;rw[<-k1] at hL';obtain⟨q1,q2,q3⟩:=Ls.end' hs k2 hv0 hL' g2;rw[k1] at q1 q2 q3;have hsl:(o3.set (j+b.length) (o3.getD (j+b.length) 0-c)).length=u.length:=by rw[bZ];exact hol3
    have hself:(o3.set (j+b.length) (o3.getD (j+b.length) 0-c)).getD (j+b.length) 0=o3.getD (j+b.length) 0-c:=Xo qo;have hsr:∀p,(p<j\/j+b.length<p)->(o3.set (j+b.length) (o3.getD (j+b.length) 0-c)).getD p 0=u.getD p 0:=λp hp=>by rw[getD_set_ne qo];exact hL.r p qo
    have hde:Dge (o3.set (j+b.length) (o3.getD (j+b.length) 0-c)) (j+b.length):=(hL.d.e _).set (λhx=>absurd rfl hx);by_cases c3:o3.getD (j+b.length) 0-c<0
    .have hgq:=q2 c3;refine d225r ?_;generalize hU:o3.set (j+b.length) (o3.getD (j+b.length) 0-c)=U at *
     refine WC.lp (σ:=Nat×nd×Int) (λst=>[(173,.int .i64 (st.1:Int)),(172,.int .i64 (b.length:Int)),(15,.int .i64 st.2.2),(13,.int .i64 (g-1)),(11,.int .i64 (j:Int)),(10,v),(9,.int .i64 (b.length:Int)),(8,vw),(7,vu),(6,.int .i64 s)]) (λst=>[Ow.slice v 3 1 (ints q),Ow.slice vu 3 1 (ints st.2.1)]) (λ_=>[ge h0,sI vw w])
      (λst=>st.1<=b.length/\La U w j st.2.1 st.1 st.2.2) (λst=>b.length-st.1) (0,U,0) ⟨aj _,La.z (by rw[k1];exact hde)⟩ ?_
     rintro⟨i,o4,c4⟩ ⟨hi,hA⟩;simp only at hi hA ⊢;have hol4:=hA.l;by_cases c1:i<b.length
     .have f1:0<=o4.getD (i+j) 0/\o4.getD (i+j) 0<1000000000:=hA.d (i+j) qo qo;have f2:0<=w.getD i 0/\w.getD i 0<1000000000:=k2.any i;have f3:=hA.cd;refine d225r ?_;exact Qq.mk (i+1,_,_) ⟨by show i+1<=b.length;omega,hA.step qo qo (w:=(o4.getD (i+j) 0+w.getD i 0+c4)%1000000000) (c':=(o4.getD (i+j) 0+w.getD i 0+c4)/1000000000) ⟨by omega,by unfold BB;omega⟩ qo (by unfold BB;omega)⟩ wq118
     .obtain rfl:i=b.length:=qo;have f3:=hA.cd;have f4:o4.getD (j+b.length) 0=o3.getD (j+b.length) 0-c:=by rw[hA.r _ (.inr (ai _))];exact hself
      have hA':=hA;rw[<-k1] at hA' hsr;obtain⟨r1,r2,r3⟩:=La.end' hs k2 hv0 hsl hsr q3 hgq hA';rw[k1] at r1 r2 r3;refine d225r ?_;exact Qq.mk (j,_,_) (hs.next k2 hv0 (by rw[bZ];omega) r1 r2 r3 qo) (by show j<j+1;omega)
    .obtain⟨hgq,hdg⟩:=q1 qo;refine d225r ?_;exact Qq.mk (j,_,_) (hs.next k2 hv0 hsl hdg q3 (λp hp=>hsr p (.inl hp)) hgq) (by show j<j+1;omega)
end Lnl
abbrev B2:Nat:=1000000000000000000
abbrev Lz(n:Nat):Prop:=(Qx n).length<=1000000000
def Lz.of{n:Nat}(h:n<B2):Lz n:=by
 have:=Jx (k:=2) (n:=n) h;show _<=_;omega
def J4{m n:Nat}(h:m<=n):(Qx m).length<=(Qx n).length:=Nat.not_lt.1 λhx=>by have:=QC hx;omega
def Lz.le{m n:Nat}(hn:Lz n)(h:m<=n):Lz m:=aL (J4 h) hn
def JB(m n:Nat):(Qx (m*n)).length<=(Qx m).length+(Qx n).length:=by
 have h1:=@Yd m;have h2:=@Yd n;refine Jx ?_;rw[Nat.pow_add];exact Nat.mul_lt_mul'' h1 h2
def K2(m n:Nat):(Qx (m+n)).length<=max (Qx m).length (Qx n).length+1:=by
 have h1:=@Yd m;have h2:=@Yd n;have h3:(1000000000:Nat)^(Qx m).length<=1000000000^max (Qx m).length (Qx n).length:=aA qd (Nat.le_max_left _ _);have h4:(1000000000:Nat)^(Qx n).length<=1000000000^max (Qx m).length (Qx n).length:=aA qd (Nat.le_max_right _ _);refine Jx ?_;rw[cP];omega
def Y8{n:Nat}(h:¬n<B2):2<(Qx n).length:=Nat.not_le.1 λhx=>h (by
 have:=@Yd n;have h2:(1000000000:Nat)^(Qx n).length<=1000000000^2:=aA qd hx;exact aw this h2)
def Fa{n:Nat}(h:n<B2):(n=0/\Qx n=[])\/((Qx n).length=1/\Qx n=[(n:Int)]/\n≠0/\n<1000000000)\/((Qx n).length=2/\Qx n=[((n%1000000000:Nat):Int),((n/1000000000:Nat):Int)]/\1000000000<=n):=by
 by_cases h0:n=0
 .left;subst h0;exact⟨rfl,JJ⟩
 .by_cases h1:n<1000000000
  .right;left;have:=J1 h0 h1;exact⟨by rw[this];rfl,this,h0,h1⟩
  .right;right;have:=digs_2 (n:=n) qo (by unfold B2 at h;omega);exact⟨by rw[this];rfl,this,by omega⟩
def IsZZ(x y:Int):Qd:=λv b G=>∃n1 d1 n2 d2,v=.tuple #[.agg #[.bool n1,d1],.agg #[.bool n2,d2]]/\n1=decide (x<0)/\n2=decide (y<0)/\b=[]/\G=[isZ (.agg #[.bool n1,d1]) x,isZ (.agg #[.bool n2,d2]) y]
def Qf.cc{P:nh}{e:Env}{bx:nw}{F:nc}{fn:Func}{t s:Tmp}{ty ty2:nl}{g g2 tg tg2 m m2:Nat}{cs cs2:ne}(h:fn.results=#[.cell t ty,.cell s ty2])(hl:W.look e t=some (.pointer (some ⟨g,0,none⟩)))(hl2:W.look e s=some (.pointer (some ⟨g2,0,none⟩)))
  (hb:Ow.cells g tg cs∈bx) (hb2:Ow.cells g2 tg2 cs2∈bx) (hr:Row P ty m) (hm:cs.length=m) (hr2:Row P ty2 m2) (hm2:cs2.length=m2):Qf P fn e bx F (.tuple #[.agg cs.toArray,.agg cs2.toArray]):=λn fr a w hk ho=>by
 have he:=KU (P:=P) (fr:=fr) (w:=w) (t:=ty) (b:=g) (q:=0) (cs:=cs) (es:=#[]) (by rw[hm];exact hr) (λ_ _=>.inl (ho.own hb (by simp[Ow.ids]))) (λi v hv=>by rw[aR,JV (ho.owns _ hb)];exact hv) (Reads.none fr);have he2:=KU (P:=P) (fr:=fr) (w:=w) (t:=ty2) (b:=g2) (q:=0) (cs:=cs2) (es:=(loadVar ty ⟨g,0,none⟩).events P w #[]) (by rw[hm2];exact hr2) (λ_ _=>.inl (ho.own hb2 (by simp[Ow.ids]))) (λi v hv=>by rw[aR,JV (ho.owns _ hb2)];exact hv) he;obtain⟨⟨d,hu,hd⟩,hi⟩:=hr;obtain⟨⟨d',hu',hd'⟩,hi'⟩:=hr2;have h1:a.tmps[t]?.getD undef=.pointer (some ⟨g,0,none⟩):=by rw[hk.at' _ _ hl];rfl
 have h3:a.tmps[s]?.getD undef=.pointer (some ⟨g2,0,none⟩):=by rw[hk.at' _ _ hl2];rfl
 have h2:=run_loadVar_mid (P:=P) w g 0 ty cs d (λi v hv=>by rw[aR,JV (ho.owns _ hb)];exact hv) hu hd (by rw[hi];simp[hm]);have h4:=run_loadVar_mid (P:=P) w g2 0 ty2 cs2 d' (λi v hv=>by rw[aR,JV (ho.owns _ hb2)];exact hv) hu' hd' (by rw[hi'];simp[hm2]);simp only[results,h];refine⟨by simp[h1,h3,asAddr,h2,h4],?_⟩;have h5:=he2.ok;simpa [h1,h3,asAddr,h2,h4] using h5
namespace Dvz
attribute [local irreducible] WC WL WD YO LO Qq W.Fin Qk Qh Qj Row QZ Qv KnS Has W.One Qo QX
def d163{G G':Prop}(h:G')(s:Bx G'->G:=by
 intro h;first|refine gM ?_|(apply WC.draw (id:=1) [0,1,3,4] (.h 0<|.h 1<|.h 3<|.h 4<|.m 2 (.m 5 (.m 6 (.l 7<|.l 8<|.l 9 .done) (.l 7<|.l 6<|.l 8<|.l 9 .done)) (.m 6 (.m 5 (.l 7<|.l 8<|.l 9 .done) (.l 7<|.l 5<|.l 8<|.l 9 .done)) (.l 7<|.m 5 (.l 6<|.l 8<|.l 9 .done) (.l 6<|.l 5<|.l 8<|.l 9 .done)))) (.m 6 (.m 2 (.m 5 (.l 7<|.l 8<|.l 9 .done) (.l 7<|.l 5<|.l 8<|.l 9 .done)) (.l 7<|.l 2<|.l 5<|.l 8<|.l 9 .done)) (.l 7<|.m 2 (.m 5 (.l 6<|.l 8<|.l 9 .done) (.l 6<|.l 5<|.l 8<|.l 9 .done)) (.l 6<|.l 2<|.l 5<|.l 8<|.l 9 .done)))) mixed kr)|(apply WC.draw (id:=7) [0,1,2,3,4,5] (.h 0<|.h 1<|.h 2<|.h 3<|.h 4<|.h 5 .done) mixed kr)|(apply WC.drawR (id:=10) [5] [0,1] (.h 0<|.h 1<|.l 2<|.l 3 .done) mixed kr;exact wq146)|fail
 exact Bx.h h):G:=s ⟨h⟩
def d163r{G G':Prop}(h:G')(s:Bx G'->G:=by
 intro h;repeat'(first|intro(zQ:Nat)|refine d163 ?_|intro zQ)
 repeat revert zQ
 exact Bx.h h):G:=s ⟨h⟩

def d209{G G':Prop}(h:G')(s:Bx G'->G:=by
 intro h;first|refine gB ?_|(apply WC.draw (id:=7) [0,1,2,3,4,5,6,7,8,9] (.h 0<|.h 1<|.h 2<|.h 3<|.h 4<|.h 5<|.h 6<|.h 7<|.h 8<|.h 9 .done) mixed kr)|fail
 exact Bx.h h):G:=s ⟨h⟩
def d211{G G':Prop}(h:G')(s:Bx G'->G:=by
 intro h;first|refine gB ?_|(apply WC.draw (id:=5) [0,1,2,3,5,6,7,8] (.h 0<|.h 1<|.h 2<|.h 3<|.h 5<|.h 6<|.h 7<|.h 8<|.l 4<|.l 9<|.l 10<|.l 11 .done) mixed kr)|fail
 exact Bx.h h):G:=s ⟨h⟩
def d211r{G G':Prop}(h:G')(s:Bx G'->G:=by
 intro h;repeat'(first|intro(zQ:Nat)|refine d211 ?_|intro zQ)
 repeat revert zQ
 exact Bx.h h):G:=s ⟨h⟩

def goB{G G':Prop}(h:G')(s:Bx G'->G:=by
 intro h
 first
  |(apply WL.YE;exact wq35;exact rfl;exact rfl)
  |(apply WD.Y3;exact rfl;exact wq55;exact rfl;exact rfl)
 exact Bx.h h):G:=s ⟨h⟩
def H8(u:nA)(n:Nat)(hn:n<B2):FnB prog 209 [u] [] [sI u (Qx n)] (IsV (.tuple #[nj n,.bool true])):=by
 refine fO [(0,u)] 23 Tryz.func209 Tryz.ntmps209 λh0=>?_;unfold B2 at hn;rcases Fa (n:=n) hn with ⟨h,e⟩|⟨h,e,h2⟩|⟨h,e,h2⟩
 .rw[e];subst h;have hl:([]:nd).length=0:=rfl;repeat'(first|intro(g:Nat)|refine d209 ?_|intro v)
  exact wq73
 .rw[e] at h ⊢;have e0:([(n:Int)].getD (0:Int).toNat 0)=(n:Int):=rfl;repeat'(first|intro(g:Nat)|refine d209 ?_|intro v)
  exact wq73
 .rw[e] at h ⊢;have e0:([((n%1000000000:Nat):Int),((n/1000000000:Nat):Int)].getD (0:Int).toNat 0)=((n%1000000000:Nat):Int):=rfl;have e1:([((n%1000000000:Nat):Int),((n/1000000000:Nat):Int)].getD (1:Int).toNat 0)=((n/1000000000:Nat):Int):=rfl;generalize [((n%1000000000:Nat):Int),((n/1000000000:Nat):Int)]=l at *;have hv:l.getD (1:Int).toNat 0*1000000000+l.getD (0:Int).toNat 0=(n:Int):=qo;repeat'(first|intro(g:Nat)|refine d209 ?_|intro v)
  rw[hv];exact wq73
def U8(u:nA)(n:Nat)(hn:¬n<B2):FnB prog 209 [u] [] [sI u (Qx n)] (IsV (.tuple #[nj 0,nq])):=by
 refine fO [(0,u)] 23 Tryz.func209 Tryz.ntmps209 λh0=>?_;have hl:=Y8 hn;repeat'(first|intro(g:Nat)|refine d209 ?_|intro v)
 exact wq73
def divide2_c(u w:nA)(m n:Nat)(hm:m<B2)(hn:n<B2)(h0n:n≠0):FnB prog 211 [u,w] [] [sI u (Qx m),sI w (Qx n)] (IsZZ ((m/n:Nat):Int) ((m%n:Nat):Int)):=by
 refine fO [(0,u),(1,w)] 69 Tryz.func211 Tryz.ntmps211 λh0=>?_;have hm':m<1000000000000000000:=hm;have hn':n<1000000000000000000:=hn;have q1:m/n<=m:=bR _ _;have q2:m%n<n:=bw _ qo;have e1:(m:Int)/(n:Int)=((m/n:Nat):Int):=by simp
 have e2:(m:Int) % (n:Int)=((m%n:Nat):Int):=by simp
 have e3:(m:Int)/(n:Int)<=(m:Int):=by rw[e1];exact Int.ofNat_le.2 q1
 have e4:0<=(m:Int)/(n:Int):=by rw[e1];exact bz _
 have e5:(m:Int) % (n:Int)<(n:Int):=by rw[e2];exact Int.ofNat_lt.2 q2
 have e6:0<=(m:Int) % (n:Int):=by rw[e2];exact bz _
 refine d211r ?_;intro g g;refine cV (H8 u m hm) ?_;refine d211r ?_;refine cV (H8 w n hn) ?_;refine d211r ?_;rw[e1,e2];refine cK (XJ false (m/n) ((m/n:Nat):Int) qo (aG _) (λ_=>(ak (Int.not_lt.2 (bz _))).symm)) ?_;rintro _ _ _ ⟨n1,d1,rfl,hb1,rfl,rfl⟩;refine sNn ?_;refine d211r ?_;refine cK (XJ false (m%n) ((m%n:Nat):Int) qo (aG _) (λ_=>(ak (Int.not_lt.2 (bz _))).symm)) ?_;rintro _ _ _ ⟨n2,d2,rfl,hb2,rfl,rfl⟩;refine sNn ?_;refine d211r ?_;exact wq34
def len_ne{n:Nat}(h:n≠0):0<(Qx n).length:=by
 have:(Qx n).length≠0:=λh2=>h (QN.1 h2);omega
def FD{n:Nat}(h:(Qx n).length=1):n<1000000000:=by
 have:=@Yd n;rw[h] at this;simpa using this
def K3(u w:nA)(m n:Nat)(hm:Lz m)(hn:Lz n)(h0n:n≠0):FnB prog 211 [u,w] [] [sI u (Qx m),sI w (Qx n)] (IsZZ ((m/n:Nat):Int) ((m%n:Nat):Int)):=by
 have hln:=len_ne h0n;have cz:=λh=>Zy u false (Qx m) ((m%n:Nat):Int) (Qe _) (by rw[Qw,cS h];simp) (λ_=>(ak (Int.not_lt.2 (bz _))).symm);by_cases c1:m<B2
 .by_cases c2:n<B2
  .exact divide2_c u w m n c1 c2 h0n
  .refine fO [(0,u),(1,w)] 69 Tryz.func211 Tryz.ntmps211 λh0=>?_;have hlt:m<n:=qo;have e1:m/n=0:=cw hlt;refine d211r ?_;intro g g;refine cV (H8 u m c1) ?_;refine d211r ?_;refine cV (U8 w n c2) ?_;refine d211r ?_;refine cV (Yn u w m n) ?_;rw[XY hlt];refine d211r ?_;refine cK (cz hlt) ?_;rintro _ _ _ ⟨n2,d2,rfl,hb2,rfl,rfl⟩;refine sNn ?_;refine d211r ?_;rw[e1];exact wq61
 .refine fO [(0,u),(1,w)] 69 Tryz.func211 Tryz.ntmps211 λh0=>?_;refine d211r ?_;intro g g;refine cV (U8 u m c1) ?_;refine d211r ?_;refine cV (Yn u w m n) ?_;by_cases hlt:m<n
  .have e1:m/n=0:=cw hlt;rw[XY hlt];refine d211r ?_;refine cK (cz hlt) ?_;rintro _ _ _ ⟨n2,d2,rfl,hb2,rfl,rfl⟩;refine sNn ?_;refine d211r ?_;rw[e1];exact wq61
  .have hc:0<=Xa m n:=by unfold Xa;rw[ae hlt];split<;>decide
   have v1:val (Qx m)/val (Qx n)=((m/n:Nat):Int):=by rw[Qw,Qw];simp
   have v2:val (Qx m)%val (Qx n)=((m%n:Nat):Int):=by rw[Qw,Qw];simp
   by_cases hl1:(Qx n).length=1
   .have hn9:=FD hl1;have e:=J1 h0n hn9;have e0:(Qx n).getD 0 0=(n:Int):=by rw[e];rfl
    have hr:m%n<n:=bw _ qo;have v1':val (Qx m)/(n:Int)=((m/n:Nat):Int):=by rw[Qw];simp
    have v2':val (Qx m) % (n:Int)=((m%n:Nat):Int):=by rw[Qw];simp
    generalize hD:Qx n=D at *;refine d211r ?_;refine WL.y (YO.ldS (j:=0) (v:=w) (sz:=1) T.sc3 rfl hmA qo) rfl rfl ?_;rw[e0];refine d211r ?_;refine WL.Jj (Lnh.short_c u (Qx m) n (Qe _) ⟨by omega,by unfold BB;omega⟩ qo hm) ?_;rintro _ _ _ ⟨w1,q,rfl,rfl,rfl,y1,y2,y3⟩;refine sNn ?_;rw[v1'] at y2;rw[v2'];refine d211r ?_;refine cK (Zy w1 false q ((m/n:Nat):Int) y1 (by rw[y2,aG,be]) (λ_=>(ak (Int.not_lt.2 (bz _))).symm)) ?_;rintro _ _ _ ⟨n1,d1,rfl,hb1,rfl,rfl⟩;refine sNn ?_;refine d211r ?_;refine cK (XJ false (m%n) ((m%n:Nat):Int) qo (aG _) (λ_=>(ak (Int.not_lt.2 (bz _))).symm)) ?_;rintro _ _ _ ⟨n2,d2,rfl,hb2,rfl,rfl⟩;refine sNn ?_;refine d211r ?_;exact wq34
   .have hlab:(Qx n).length<=(Qx m).length:=Nat.not_lt.1 λhx=>hlt (QC hx);refine d211r ?_;refine WL.Jj (Lnl.long_c u w (Qx m) (Qx n) (Qe _) (Qe _) (ZV _) qo hlab hm) ?_;rintro _ _ _ ⟨w1,q,w2,r,rfl,rfl,rfl,y1,y2,y3,y4,y5,y6⟩;refine sNn ?_;rw[v1] at y2;rw[v2] at y5;refine d211r ?_;refine cK (Zy w1 false q ((m/n:Nat):Int) y1 (by rw[y2,aG,be]) (λ_=>(ak (Int.not_lt.2 (bz _))).symm)) ?_;rintro _ _ _ ⟨n1,d1,rfl,hb1,rfl,rfl⟩;refine sNn ?_;refine d211r ?_;refine cK (Zy w2 false r ((m%n:Nat):Int) y4 (by rw[y5,aG,be]) (λ_=>(ak (Int.not_lt.2 (bz _))).symm)) ?_;rintro _ _ _ ⟨n2,d2,rfl,hb2,rfl,rfl⟩;refine sNn ?_;refine d211r ?_;exact wq34
def VQ{x:Int}(h:Lz x.natAbs):(Qx x.natAbs).length<=1000000000:=h
def GK{x y:Int}(hx:x<0)(hy:y≠0)(hr:x.natAbs%y.natAbs≠0):(x/y).natAbs=x.natAbs/y.natAbs+1/\x%y=(y.natAbs:Int)-((x.natAbs%y.natAbs:Nat):Int)/\(x/y<0↔0<y)/\x/y≠0:=by
 have h1:=dV x.natAbs y.natAbs;have h2:x.natAbs%y.natAbs<y.natAbs:=bw _ qo;generalize x.natAbs/y.natAbs=q at *;generalize x.natAbs%y.natAbs=r at *;have hxe:x= -(x.natAbs:Int):=qo;have h3:(x.natAbs:Int)=(y.natAbs:Int)*q+r:=by rw[<-h1];simp
 have key:x%y=(y.natAbs:Int)-r/\x/y=(if 0<y then -((q:Int)+1) else(q:Int)+1):=by
  by_cases hy2:0<y
  .rw[ah hy2];have hye:(y.natAbs:Int)=y:=qo;rw[hye] at h3 ⊢;have e:x=y*(-((q:Int)+1))+(y-r):=by rw[hxe,h3,ee,Int.mul_add];omega
   have:=bI (a:=x) (b:=y) (r:=y-r) (q:=-((q:Int)+1)) hy2;have:=this.2 ⟨by rw[e];omega,by omega,by omega⟩;exact⟨this.2,this.1⟩
  .rw[ae hy2];have hye:(y.natAbs:Int)= -y:=qo;rw[hye] at h3 ⊢;have e:x=(-y)*(-((q:Int)+1))+((-y)-r):=by rw[hxe,h3,ee,Int.mul_add];omega
   have:=bI (a:=x) (b:=-y) (r:=-y-r) (q:=-((q:Int)+1)) qo;have h5:=this.2 ⟨by rw[e];omega,by omega,by omega⟩;rw[Int.ediv_neg,Int.emod_neg] at h5;exact⟨h5.2,by omega⟩
 obtain⟨k1,k2⟩:=key;rw[k1,k2];split<;>(refine⟨?_,rfl,?_,?_⟩<;>omega)
def GW{x y:Int}(hy:y≠0)(hr:0<=x\/x.natAbs%y.natAbs=0):(x/y).natAbs=x.natAbs/y.natAbs/\x%y=((x.natAbs%y.natAbs:Nat):Int)/\(x/y≠0->(x/y<0↔¬(x<0↔y<0))):=by
 have h1:=dV x.natAbs y.natAbs;have h2:x.natAbs%y.natAbs<y.natAbs:=bw _ qo;generalize x.natAbs/y.natAbs=q at *;generalize x.natAbs%y.natAbs=r at *;have h3:(x.natAbs:Int)=(y.natAbs:Int)*q+r:=by rw[<-h1];simp
 have key:x%y=r/\x/y=(if(x<0↔y<0) then(q:Int) else -(q:Int)):=by
  by_cases hx:x<0
  .have hr0:r=0:=qo;subst hr0;have hxe:x= -(x.natAbs:Int):=qo;by_cases hy2:0<y
   .rw[ae qo];have hye:(y.natAbs:Int)=y:=qo;rw[hye] at h3;have:=(bI (a:=x) (b:=y) (r:=0) (q:=-(q:Int)) hy2).2 ⟨by rw[ee];omega,by omega,by omega⟩;exact⟨this.2,this.1⟩
   .rw[ah qo];have hye:(y.natAbs:Int)= -y:=qo;rw[hye] at h3;have h5:=(bI (a:=x) (b:=-y) (r:=0) (q:=-(q:Int)) qo).2 ⟨by rw[ee];omega,by omega,by omega⟩;rw[Int.ediv_neg,Int.emod_neg] at h5;exact⟨h5.2,by omega⟩
  .have hxe:x=(x.natAbs:Int):=qo;by_cases hy2:0<y
   .rw[ah qo];have hye:(y.natAbs:Int)=y:=qo;rw[hye] at h3;have:=(bI (a:=x) (b:=y) (r:=r) (q:=(q:Int)) hy2).2 ⟨by omega,by omega,by omega⟩;exact⟨this.2,this.1⟩
   .rw[ae qo];have hye:(y.natAbs:Int)= -y:=qo;rw[hye] at h3;have h5:=(bI (a:=x) (b:=-y) (r:=r) (q:=(q:Int)) qo).2 ⟨by omega,by omega,by omega⟩;rw[Int.ediv_neg,Int.emod_neg] at h5;exact⟨h5.2,by omega⟩
 obtain⟨k1,k2⟩:=key;rw[k1,k2];split
 .rename_i hc;refine⟨by omega,rfl,λhq=>?_⟩;omega
 .rename_i hc;refine⟨by omega,rfl,λhq=>?_⟩;omega
def Q5(n:Nat):false=decide ((n:Int)<0):=(ak (Int.not_lt.2 (bz _))).symm
def Yt{m n:Nat}(h:0<n):Nat.gcd n (m%n)=Nat.gcd m n:=by rw[dh m n,Nat.gcd_rec n m,dh]
def gcd_c(v1 v2:nA)(x y:Int)(h1:Lz x.natAbs)(h2:Lz y.natAbs):FnB prog 163 [v1,v2] [] [isZ v1 x,isZ v2 y] (IsZ ((Int.gcd x y:Nat):Int)):=by
 refine fO [(0,v1),(1,v2)] 59 Tryz.func163 Tryz.ntmps163 λh0=>?_;refine WC.Jw (v:=v1) (z:=x) hmA λn1 d1 hv hb1=>?_;subst hv;refine WC.Jw (v:=v2) (z:=y) hmA λn2 d2 hv hb2=>?_;subst hv;have hg:Int.gcd x y=Nat.gcd x.natAbs y.natAbs:=rfl;refine WC.fact (sI d1 (Qx x.natAbs)) (QH hmA) ?_;refine WC.fact (sI d2 (Qx y.natAbs)) (QH hmA) ?_;have cx:=Zy d1 false (Qx x.natAbs) (x.natAbs:Int) (Qe _) (by rw[Qw];simp) (λ_=>Q5 _);have cy:=Zy d2 false (Qx y.natAbs) (y.natAbs:Int) (Qe _) (by rw[Qw];simp) (λ_=>Q5 _);generalize x.natAbs=m at *;generalize y.natAbs=n at *;refine gAr ?_;intro g g g;refine WC.YH (σ:=Nat×Nat×Nat×Bool×nA×Bool×nA) (λs=>[(5,ptr s.1),(6,ptr s.2.1),(4,ptr s.2.2.1)]) (λs=>[Ow.cells s.2.1 73 [.bool s.2.2.2.2.2.1,s.2.2.2.2.2.2],Ow.cells s.1 73 [.bool s.2.2.2.1,s.2.2.2.2.1],Ow.cells s.2.2.1 73 [.bool false,.slice none 0 0]]) (λs=>[ge h0,isZ (.agg #[.bool s.2.2.2.1,s.2.2.2.2.1]) m,isZ (.agg #[.bool s.2.2.2.2.2.1,s.2.2.2.2.2.2]) n]) (λ_=>True) ?_ ?_
 .repeat'(first|intro(g:Nat)|refine d163 ?_|refine gN ?_ ?_|(refine cK (cx) ?_;rintro _ _ _ ⟨zb,zd,rfl,zh,rfl,rfl⟩;refine sNn ?_)|(refine cK (cy) ?_;rintro _ _ _ ⟨zb,zd,rfl,zh,rfl,rfl⟩;refine sNn ?_)|intro v)
  all_goals(apply Ex7;refine⟨trivial,?_,?_,?_⟩;(focus(repeat(first|exact Sub.nil _|refine Sub.cons rfl ?_)));exact wq137;exact wq26)
 rintro⟨g5,g6,g4,b1,e1,b2,e2⟩ _;simp only;rw[hg];refine WC.Jw (v:=.agg #[.bool b1,e1]) (z:=(m:Int)) hmA λb1' e1' hv hbm=>?_;simp at hv;obtain⟨rfl,rfl⟩:=hv;refine d163r ?_;refine WC.lp (σ:=Nat×Nat×Bool×nA×Bool×nA) (λs=>[(5,ptr g5),(6,ptr g6),(4,ptr g4)]) (λs=>[Ow.cells g6 73 [.bool s.2.2.2.2.1,s.2.2.2.2.2],Ow.cells g5 73 [.bool s.2.2.1,s.2.2.2.1],Ow.cells g4 73 [.bool false,.slice none 0 0]]) (λs=>[ge h0,isZ (.agg #[.bool s.2.2.1,s.2.2.2.1]) (s.1:Int),isZ (.agg #[.bool s.2.2.2.2.1,s.2.2.2.2.2]) (s.2.1:Int)]) (λs=>Lz s.1/\Lz s.2.1/\s.2.2.1=decide ((s.1:Int)<0)/\Nat.gcd s.1 s.2.1=Nat.gcd m n) (λs=>s.2.1) (m,n,b1,e1,b2,e2) ⟨h1,h2,hbm,rfl⟩ ?_;clear hbm cx cy h1 h2;rintro⟨m',n',b1',e1',b2',e2'⟩ ⟨h1,h2,hbm,hmn⟩;simp only at h1 h2 hbm hmn ⊢;rw[<-hmn];revert m n b1 e1 b2 e2;intro m1 n1 hg b1 e1 b2 e2 hmn0;clear hmn0 hg;revert m' n' b1' e1' b2' e2';intro m n b1 e1 b2 e2 h1 h2 hbm;refine WC.Jw (v:=.agg #[.bool b2,e2]) (z:=(n:Int)) hmA λb2' e2' hv hbn=>?_;simp at hv;obtain⟨rfl,rfl⟩:=hv;refine WC.fact (sI e1 (Qx m)) (by simpa using QH (z:=(m:Int)) hmA) ?_;refine WC.fact (sI e2 (Qx n)) (by simpa using QH (z:=(n:Int)) hmA) ?_;by_cases c:n=0
 .have hl0:(Qx n).length=0:=QN.2 c;refine d163r ?_;rw[c,dn];exact wq99
 .have hl0:0<(Qx n).length:=len_ne c;have hr:m%n<n:=bw _ qo;by_cases b1':m<B2
  .by_cases b2':n<B2
   .skip
    refine d163r ?_;refine cV (H8 e1 m b1') ?_;refine d163r ?_;refine cV (H8 e2 n b2') ?_;refine d163r ?_;refine WC.lp (σ:=Nat×Nat) (λs=>[(7,.int .i64 (s.1:Int)),(9,.int .i64 (s.2:Int)),(4,ptr g4)]) (λ_=>[Ow.cells g4 73 [.bool false,.slice none 0 0]]) (λ_=>[ge h0]) (λs=>s.1<B2/\s.2<B2/\Nat.gcd s.1 s.2=Nat.gcd m n) (λs=>s.2) (m,n) ⟨b1',b2',rfl⟩ ?_;rintro⟨p,q⟩ ⟨hp,hq,hpq⟩;simp only at hp hq hpq ⊢;have hp':p<1000000000000000000:=hp;have hq':q<1000000000000000000:=hq;by_cases c2:0<q
    .have hr:p%q<q:=bw _ c2;refine d163r ?_;exact Qq.mk (q,p%q) ⟨hq,Nat.lt_trans hr hq,by rw[Yt c2,hpq]⟩ (by show p%q<q;exact hr) wq132
    .obtain rfl:q=0:=qo;rw[dn] at hpq;rw[<-hpq];refine d163r ?_;refine cK (XJ false p (p:Int) qo (aG _) (λ_=>Q5 _)) ?_;rintro _ _ _ ⟨nb,d,rfl,hb,rfl,rfl⟩;refine sNn ?_;refine d163r ?_;exact wq103
   .refine d163r ?_;refine cV (H8 e1 m b1') ?_;refine d163r ?_;refine cV (U8 e2 n b2') ?_;refine d163r ?_;refine WL.Jj (K3 e1 e2 m n h1 h2 c) ?_;rintro _ _ _ ⟨n3,d3,n4,d4,rfl,hb3,hb4,rfl,rfl⟩;refine sNn ?_;refine d163r ?_;intro g g;exact Qq.mk (n,m%n,b2,e2,n4,d4) ⟨h2,h2.le (bE hr),hbn,Yt qo⟩ hr
  .by_cases b2':n<B2
   .refine d163r ?_;refine cV (U8 e1 m b1') ?_;refine d163r ?_;refine cV (H8 e2 n b2') ?_;refine d163r ?_;refine WL.Jj (K3 e1 e2 m n h1 h2 c) ?_;rintro _ _ _ ⟨n3,d3,n4,d4,rfl,hb3,hb4,rfl,rfl⟩;refine sNn ?_;refine d163r ?_;intro g g;exact Qq.mk (n,m%n,b2,e2,n4,d4) ⟨h2,h2.le (bE hr),hbn,Yt qo⟩ hr
   .refine d163r ?_;refine cV (U8 e1 m b1') ?_;refine d163r ?_;refine cV (U8 e2 n b2') ?_;refine d163r ?_;refine WL.Jj (K3 e1 e2 m n h1 h2 c) ?_;rintro _ _ _ ⟨n3,d3,n4,d4,rfl,hb3,hb4,rfl,rfl⟩;refine sNn ?_;refine d163r ?_;intro g g;exact Qq.mk (n,m%n,b2,e2,n4,d4) ⟨h2,h2.le (bE hr),hbn,Yt qo⟩ hr
end Dvz
end Go.Proofs.YtbnobghgnbockaaGreat
