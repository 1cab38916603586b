/- Lemmas for a law. Conditions: none. -/
import Derived.Test.YtbnobghgnbockaaGreatZf24
import Derived.Test.YtbnobghgnbockaaGreatProg
set_option linter.all false
set_option maxHeartbeats 32000000
set_option maxRecDepth 100000
namespace Go.Proofs.YtbnobghgnbockaaGreat
section
open W Go.RowKit
open Bl (Vc Bd Tc Sc)
abbrev VM:=QM×QM
abbrev vcs(m:VM):List Value:=[.bool m.1.1,m.1.2.1,.bool false,m.1.2.2,.bool m.2.1,m.2.2.1,.bool false,m.2.2.2]
abbrev vv(m:VM):Value:=.agg #[.bool m.1.1,m.1.2.1,.bool false,m.1.2.2,.bool m.2.1,m.2.2.1,.bool false,m.2.2.2]
def fV(m:VM)(a:Vc):Fct where
 p h:=(isQ (qv m.1) a.x).p h/\(isQ (qv m.2) a.y).p h
 mono _ _ hl hp:=⟨(isQ _ _).mono _ _ hl hp.1,(isQ _ _).mono _ _ hl hp.2⟩
structure BM where
 c:VM
 lo:QM
 hi:QM
 st:QM
abbrev bcs(m:BM):List Value:=[.bool m.c.1.1,m.c.1.2.1,.bool false,m.c.1.2.2,.bool m.c.2.1,m.c.2.2.1,.bool false,m.c.2.2.2,.bool m.lo.1,m.lo.2.1,.bool false,m.lo.2.2,.bool m.hi.1,m.hi.2.1,.bool false,m.hi.2.2,.bool m.st.1,m.st.2.1,.bool false,m.st.2.2]
abbrev bv(m:BM):Value:=.agg (bcs m).toArray
def fB(m:BM)(b:Bd):Fct where
 p h:=(fV m.c b.c).p h/\(isQ (qv m.lo) b.lo).p h/\(isQ (qv m.hi) b.hi).p h/\(isQ (qv m.st) b.st).p h
 mono _ _ hl hp:=⟨(fV _ _).mono _ _ hl hp.1,(isQ _ _).mono _ _ hl hp.2.1,(isQ _ _).mono _ _ hl hp.2.2.1,(isQ _ _).mono _ _ hl hp.2.2.2⟩
structure ToM where
 p:VM
 q:VM
 n:VM
 r:QM
abbrev tcs(m:ToM)(t:Tc):List Value:=[.int .i64 t.a,.int .i64 t.b,.bool m.p.1.1,m.p.1.2.1,.bool false,m.p.1.2.2,.bool m.p.2.1,m.p.2.2.1,.bool false,m.p.2.2.2,.bool m.q.1.1,m.q.1.2.1,.bool false,m.q.1.2.2,.bool m.q.2.1,m.q.2.2.1,.bool false,m.q.2.2.2,
 .bool m.n.1.1,m.n.1.2.1,.bool false,m.n.1.2.2,.bool m.n.2.1,m.n.2.2.1,.bool false,m.n.2.2.2,.bool m.r.1,m.r.2.1,.bool false,m.r.2.2]
abbrev tv(m:ToM)(t:Tc):Value:=.agg (tcs m t).toArray
def fT(m:ToM)(t:Tc):Fct where
 p h:=(fV m.p t.p).p h/\(fV m.q t.q).p h/\(fV m.n t.n).p h/\(isQ (qv m.r) t.r).p h
 mono _ _ hl hp:=⟨(fV _ _).mono _ _ hl hp.1,(fV _ _).mono _ _ hl hp.2.1,(fV _ _).mono _ _ hl hp.2.2.1,(isQ _ _).mono _ _ hl hp.2.2.2⟩
structure EM where
 at':VM
 t:ToM
structure Ed where
 at':Vc
 t:Tc
abbrev ecs(m:EM)(e:Ed):List Value:=vcs m.at'++tcs m.t e.t
abbrev edv(m:EM)(e:Ed):Value:=.agg (ecs m e).toArray
def fE(m:EM)(e:Ed):Fct where
 p h:=(fV m.at' e.at').p h/\(fT m.t e.t).p h
 mono _ _ hl hp:=⟨(fV _ _).mono _ _ hl hp.1,(fT _ _).mono _ _ hl hp.2⟩
abbrev JD:Shp VM Vc:=⟨8,λm _=>vcs m,fV,by decide,λ_ _=>rfl⟩
abbrev XU:Shp BM Bd:=⟨20,λm _=>bcs m,fB,by decide,λ_ _=>rfl⟩
abbrev Qo:Shp ToM Tc:=⟨30,tcs,fT,by decide,λ_ _=>rfl⟩
abbrev Jc:Shp EM Ed:=⟨38,ecs,fE,by decide,λ_ _=>rfl⟩
abbrev plS:Shp (Value×(Nat->VM)) (Nat×(Nat->Vc)):=⟨1,λm _=>[m.1],λm a=>lF JD m.1 a.1 m.2 a.2,by decide,λ_ _=>rfl⟩
section
variable {F:List Fct}{bx:List Ow}{m:VM}{a:Vc}{bm:BM}{b:Bd}{tm:ToM}{t:Tc}{em:EM}{ed:Ed}
def W.Has.vx(h:Has F (fV m a)):Has F (isQ (qv m.1) a.x):=λp hf=>(h p hf).1
def W.Has.vy(h:Has F (fV m a)):Has F (isQ (qv m.2) a.y):=λp hf=>(h p hf).2
def W.Has.vof(h1:Has F (isQ (qv m.1) a.x))(h2:Has F (isQ (qv m.2) a.y)):Has F (fV m a):=λp hf=>⟨h1 p hf,h2 p hf⟩
def W.Has.bc(h:Has F (fB bm b)):Has F (fV bm.c b.c):=λp hf=>(h p hf).1
def W.Has.bl(h:Has F (fB bm b)):Has F (isQ (qv bm.lo) b.lo):=λp hf=>(h p hf).2.1
def W.Has.bh(h:Has F (fB bm b)):Has F (isQ (qv bm.hi) b.hi):=λp hf=>(h p hf).2.2.1
def W.Has.bs(h:Has F (fB bm b)):Has F (isQ (qv bm.st) b.st):=λp hf=>(h p hf).2.2.2
def W.Has.bof(h1:Has F (fV bm.c b.c))(h2:Has F (isQ (qv bm.lo) b.lo))(h3:Has F (isQ (qv bm.hi) b.hi))(h4:Has F (isQ (qv bm.st) b.st)):Has F (fB bm b):=λp hf=>⟨h1 p hf,h2 p hf,h3 p hf,h4 p hf⟩
def W.Has.tp(h:Has F (fT tm t)):Has F (fV tm.p t.p):=λp hf=>(h p hf).1
def W.Has.tq(h:Has F (fT tm t)):Has F (fV tm.q t.q):=λp hf=>(h p hf).2.1
def W.Has.tn(h:Has F (fT tm t)):Has F (fV tm.n t.n):=λp hf=>(h p hf).2.2.1
def W.Has.trr(h:Has F (fT tm t)):Has F (isQ (qv tm.r) t.r):=λp hf=>(h p hf).2.2.2
def W.Has.ea(h:Has F (fE em ed)):Has F (fV em.at' ed.at'):=λp hf=>(h p hf).1
def W.Has.et(h:Has F (fE em ed)):Has F (fT em.t ed.t):=λp hf=>(h p hf).2
def W.Has.eof(h1:Has F (fV em.at' ed.at'))(h2:Has F (fT em.t ed.t)):Has F (fE em ed):=λp hf=>⟨h1 p hf,h2 p hf⟩
def ZT(h:Has F (fV m a)):QP bx F (vcs m):=
 .cons (One.lit rfl rfl) (.cons (One.sl (KnS.q1 h.vx)) (.cons (One.lit rfl rfl) (.cons (One.sl (KnS.q2 h.vx)) (.cons (One.lit rfl rfl) (.cons (One.sl (KnS.q1 h.vy)) (.cons (One.lit rfl rfl) (.cons (One.sl (KnS.q2 h.vy)) .nil)))))))
def W.QP.app{l k:List Value}(h1:QP bx F l)(h2:QP bx F k):QP bx F (l++k):=by
 induction h1 with
 |nil=>exact h2
 |cons h _ ih=>exact .cons h ih
def one_b(h:Has F (fB bm b)):QP bx F (bcs bm):=(ZT h.bc).app ((YL h.bl).app ((YL h.bh).app (YL h.bs)))
def V9(h:Has F (fT tm t)):QP bx F (tcs tm t):=.cons (One.lit rfl rfl) (.cons (One.lit rfl rfl) ((ZT h.tp).app ((ZT h.tq).app ((ZT h.tn).app (YL h.trr)))))
def one_e(h:Has F (fE em ed)):QP bx F (ecs em ed):=(ZT h.ea).app (V9 h.et)
end
section
variable {F:List Fct}{bx:List Ow}{m:VM}{a:Vc}
def hasV0:Has F (fV (m00,m00) ⟨0,0⟩):=W.Has.vof Jm Jm
def KnS.vx1(h:Has F (fV m a)):KnS bx F m.1.2.1 (Qx (a.x.num).natAbs).length:=KnS.q1 h.vx
def KnS.vx2(h:Has F (fV m a)):KnS bx F m.1.2.2 (Qx (qz a.x).natAbs).length:=KnS.q2 h.vx
end
def IsVc(a:Vc):Qg:=λv B G=>∃m:VM,v=vv m/\B=[]/\G=[fV m a]
inductive Pt:Nat->List Value->List Value->List Value->Prop where
 |nil {cs:List Value}:Pt 0 [] cs cs
 |cons {u c:Value} {us cs cs':List Value}:Pt 0 us cs cs'->Pt 0 (u::us) (c::cs) (u::cs')
 |skip {q:Nat} {c:Value} {us cs cs':List Value}:Pt q us cs cs'->Pt (q+1) us (c::cs) (c::cs')
def Pt.eq{q:Nat}{us cs cs':List Value}(h:Pt q us cs cs'):Q5 cs q us=cs'/\q+us.length<=cs.length:=by
 induction h with
 |nil=>simp[Q5]
 |cons _ ih=>simp only[Q5,List.take_zero,List.nil_append,Nat.zero_add,List.length_cons,List.drop_succ_cons] at ih ⊢;exact⟨by rw[<-ih.1];rfl,by omega⟩
 |skip _ ih=>simp only[Q5,List.take_succ_cons,List.cons_append,List.length_cons] at ih ⊢;exact⟨by rw[<-ih.1,Nat.add_right_comm];rfl,by omega⟩
section
variable {P:Program}{e:Env}{bx bx':List Ow}{F:List Fct}{ty t tg:TypeId}{x y z:Operand}{g q m:Nat}{cs cs' us:List Value}{K:Qg}{a b:VM}{m1 m2:QM}{v:Value}
def LO.storeC(hx:ev e x=some (.pointer (some ⟨g,q,none⟩)))(hy:ev e y=some (.agg us.toArray))(hr:Row P t us.length)(hs:Sel bx (.cells g tg cs) (.cells g tg cs') bx')(hp:Pt q us cs cs')(h1:QP bx F us)(h:K undef bx' F):LO P (.store t x y) ty e bx F K:=
 LO.Hp h1 λh1=>LO.store hx hy (vs:=us) (by simp[Value.cells]) hr.2 h1 hs hp.eq.2 hp.eq.1 h
def LO.KW{us:List Value}(hx:ev e x=some (.pointer (some ⟨g,0,none⟩)))(hy:ev e y=some (.agg us.toArray))(hr:Row P t us.length)(hs:Sel bx (.cells g tg cs) (.cells g tg us) bx')(hl:cs.length=us.length)(h1:QP bx F us)(h:K undef bx' F):LO P (.store t x y) ty e bx F K:=
 LO.Hp h1 λh1=>LO.store hx hy (vs:=us) (by simp[Value.cells]) hr.2 h1 hs qo (by simp[Q5,<-hl]) h
def YO.shl1{k:Nat}{t':TypeId}(hx:ev e x=some (.int .i64 1))(hy:ev e y=some (.int .i64 (k:Int)))(h:k<=60):YO P (.binOp .shl t x y t') ty e bx F (.int .i64 ((2^k:Nat):Int)):=by
 have h1:2^k<=2^60:=Nat.pow_le_pow_right qd h;have h2:(1:Int)*2^((k:Int)).toNat=((2^k:Nat):Int):=by rw[Int.toNat_natCast,Int.one_mul];simp
 have h3:∀N:Nat,N<=2^60->-9223372036854775808<=(N:Int)/\(N:Int)<=9223372036854775807:=λN hN=>by omega
 have:=YO.shl' (P:=P) (bx:=bx) (F:=F) (ty:=ty) (t:=t) (t':=t') hx hy qo qo (by rw[h2];exact(h3 _ h1).1) (by rw[h2];exact(h3 _ h1).2)
 rwa [h2] at this
def YO.buildV(hx:ev e x=some (qv m1))(hy:ev e y=some (qv m2)):YO Tryz.prog (.build 77 #[(0,x),(1,y)]) ty e bx F (vv (m1,m2)):=YO.build (parts:=[(0,x),(1,y)]) (.cons hx (.cons hy .nil)) λ_=>by kernel_rfl
def YO.buildV0:YO Tryz.prog (.build 77 #[]) ty e bx F (vv (m00,m00)):=YO.build (parts:=[]) .nil λ_=>by kernel_rfl
def YO.buildP(hx:ev e x=some (qv m1))(hy:ev e y=some (qv m2)):YO Tryz.prog (.build 127 #[(0,x),(1,y)]) ty e bx F (vv (m1,m2)):=YO.build (parts:=[(0,x),(1,y)]) (.cons hx (.cons hy .nil)) λ_=>by kernel_rfl
def LO.bsR2{m m':QM}(hx:ev e x=some (qv m))(hy:ev e y=some (qv m'))(h:∀v,K v (Ow.slice v 75 4 (Qe 2 (upd (upd (λ_=>m00) 0 m) 1 m'))::bx) F):LO Tryz.prog (.buildSlice 61 2 #[(0,x),(1,y)]) ty e bx F K:=by
 refine LO.buildSlice (el:=75) (sz:=4) (parts:=[(0,x),(1,y)]) (us:=[qv m,qv m']) (cs:=qcs m++qcs m') (.cons hx (.cons hy .nil)) (λ_=>by kernel_rfl) rfl qd λv=>?_;have:=h v
 rwa [<-J1,<-J1,show Qe 0 (λ_=>m00)=[] from rfl,List.nil_append] at this
end
end
section
open W Go.RowKit
open Bl (Vc Bd Tc Sc)
structure LnM where
 a:Value
 m:Nat->QM
 b:QM
structure LnX where
 n:Nat
 a:Nat->Rat
 b:Rat
def fLx(m:LnM)(x:LnX):Fct where
 p h:=(fF m.a x.n m.m x.a).p h/\(isQ (qv m.b) x.b).p h
 mono _ _ hl hp:=⟨(fF _ _ _ _).mono _ _ hl hp.1,(isQ _ _).mono _ _ hl hp.2⟩
abbrev lcs(m:LnM):List Value:=[m.a,.bool m.b.1,m.b.2.1,.bool false,m.b.2.2]
abbrev Qr:Shp LnM LnX:=⟨5,λm _=>lcs m,fLx,by decide,λ_ _=>rfl⟩
def QT.dbl{i:Int}{n:Nat}(h:QT i n):QT (2*i) (2*n):=by
 have e:=h.eq;subst e;have:(2*(n:Int))=((2*n:Nat):Int):=by simp
 rw[this];exact QT.cast _
section
variable {M α:Type}{S:Shp M α}{P:Program}{e:Env}{bx bx':List Ow}{F:List Fct}{ty t el:TypeId}{v u:Value}{x y z:Operand}{n k:Nat}{ms:Nat->M}{xs:Nat->α}{K:Qg}{mm m2 m3:M}{lm l2 l3:LnM}{lx:LnX}
def W.Has.la(h:Has F (fLx lm lx)):Has F (fF lm.a lx.n lm.m lx.a):=λp hf=>(h p hf).1
def W.Has.lb(h:Has F (fLx lm lx)):Has F (isQ (qv lm.b) lx.b):=λp hf=>(h p hf).2
def W.Has.lof(h1:Has F (fF lm.a lx.n lm.m lx.a))(h2:Has F (isQ (qv lm.b) lx.b)):Has F (fLx lm lx):=λp hf=>⟨h1 p hf,h2 p hf⟩
def one_l(h:Has F (fLx lm lx)):QP bx F (lcs lm):=.cons (One.sl (KnS.ff h.la)) (YL h.lb)
def Z6{α:Type}{xs:Nat->α}{n:Nat}:upd xs n (xs n)=xs:=by funext i;unfold upd;split<;>simp_all
def J4:Qt S n ms xs++S.cs mm (xs n)=Qt S (n+1) (upd ms n mm) xs:=by
 have:=UL (S:=S) (n:=n) (ms:=ms) (xs:=xs) (mm:=mm) (aa:=xs n)
 rwa [Z6] at this
def Yj:Qt S n ms xs++S.cs (ms n) (xs n)=Qt S (n+1) ms xs:=by
 have:=J4 (S:=S) (n:=n) (ms:=ms) (xs:=xs) (mm:=ms n)
 rwa [Z6] at this
def W.Has.mappS(h:Has F (lM S n ms xs))(hm:Has F (S.fc (ms n) (xs n))):Has F (lM S (n+1) ms xs):=by
 have:=h.mapp hm
 rwa [Z6,Z6] at this
def W.Has.YC(h:Has F (lM S n ms xs))(hm:Has F (S.fc mm (xs n))):Has F (lM S (n+1) (upd ms n mm) xs):=by
 have:=h.mapp hm
 rwa [Z6] at this
def made_l(m0:M)(x0:α){z:Value}(hz:z.cells.toList=S.cs m0 x0):(madeCells z.cells (n*S.w)).toList=Qt S n (λ_=>m0) (λ_=>x0):=
 madeF n S.w z _ (by rw[<-Array.length_toList,hz,S.len]) S.pos λj=>by
  have hl:j%S.w<(S.cs m0 x0).length:=by rw[S.len];exact Nat.mod_lt _ S.pos
  rw[<-Array.getElem?_toList,hz];show _=some (Jb S.w (λ_=>S.cs m0 x0) j);unfold Jb;rw[List.getD_eq_getElem?_getD,List.getElem?_eq_getElem hl];rfl
def LO.makeL{t1 b:TypeId}{z:Value}{i:Int}(m0:M)(x0:α)(he:Xg P t1 el S.w z b)(hz:z.cells.toList=S.cs m0 x0)(hx:ev e x=some (.int .i64 i))(hy:ev e y=some (.int .i64 i))(hi:QT i n)(hn:n<=1000000)(hb:b<=1000)(h:∀v,K v (lO S v el n (λ_=>m0) (λ_=>x0)::bx) F):LO P (.makeSlice t1 x y) ty e bx F K:=by
 obtain rfl:=hi.eq;have:=Nat.mul_le_mul hb hn;exact LO.make he hx hy qo qo (made_l m0 x0 hz) h
def LO.appG{el' t1 b:TypeId}{n' c:Nat}{z:Value}{news:List Value}{ms':Nat->M}{xs':Nat->α}{bx2:Value->List Ow}(he:Xg P t1 el S.w z b)(hx:ev e x=some v)(hy:ev e y=some u)(hu:Ow.slice u el' S.w news∈bx)(hn:Qt S n ms xs++news=Qt S n' ms' xs')(hc:news.length=c*S.w)(h1:QP bx F news)(hs:∀v',Sel bx (lO S v el n ms xs) (lO S v' el n' ms' xs') (bx2 v'))(hb:b<=1000)(hw:S.w<=100)(hl:n<=1000000)(hc2:c<=10)(h:∀v',K v' (bx2 v') F) :
  LO P (.call {callee:=.builtin .append,args:=#[x,y],argTypes:=#[t1,t1]}) ty e bx F K:=by
 refine LO.byP (λfr w ho=>h1.all ho) λh1=>?_;have hw1:n*S.w<=1000000*100:=Nat.mul_le_mul hl hw;have hw2:c*S.w<=10*100:=Nat.mul_le_mul hc2 hw;have hp:=S.pos
 exact LO.append he hx hy (news:=news) (by rw[hn];exact hs) (Qa.own hu hc hp) h1 (by
  rw[Qy,hc];have:=Nat.mul_le_mul (show n*S.w+c*S.w<=100001000 by omega) hb;omega) (by rw[Qy,hc];omega) h
end
def edT(T:Nat->Tc)(k:Nat):Ed:=⟨if k%2=0 then(T (k/2)).p else(T (k/2)).q,T (k/2)⟩
def edM(T:Nat->ToM)(k:Nat):EM:=⟨if k%2=0 then(T (k/2)).p else(T (k/2)).q,T (k/2)⟩
def edT_0(T:Nat->Tc)(i:Nat):edT T (2*i)=⟨(T i).p,T i⟩/\edT T (2*i+1)=⟨(T i).q,T i⟩:=by
 unfold edT;rw[if_pos (show 2*i%2=0 by omega),if_neg (show ¬(2*i+1)%2=0 by omega),show 2*i/2=i by omega,show(2*i+1)/2=i by omega];exact⟨rfl,rfl⟩
def edM_0(T:Nat->ToM)(i:Nat):edM T (2*i)=⟨(T i).p,T i⟩/\edM T (2*i+1)=⟨(T i).q,T i⟩:=by
 unfold edM;rw[if_pos (show 2*i%2=0 by omega),if_neg (show ¬(2*i+1)%2=0 by omega),show 2*i/2=i by omega,show(2*i+1)/2=i by omega];exact⟨rfl,rfl⟩
section
variable {e:Env}{bx bx':List Ow}{F:List Fct}{ty t el:TypeId}{v u:Value}{x y z:Operand}{n k:Nat}{K:Qg}{lm l2 l3:LnM}{vm:VM}{tm:ToM}{tc:Tc}{m m':QM}{vs:Int}
def YO.buildE(hx:ev e x=some (vv vm))(hy:ev e y=some (tv tm tc)):YO Tryz.prog (.build 163 #[(0,x),(1,y)]) ty e bx F (.agg (vcs vm++tcs tm tc).toArray):=YO.build (parts:=[(0,x),(1,y)]) (.cons hx (.cons hy .nil)) λ_=>by kernel_rfl
def LO.bsE2{a1 a2:VM}{t1 t2:ToM}{c1 c2:Tc}(hx:ev e x=some (.agg (vcs a1++tcs t1 c1).toArray))(hy:ev e y=some (.agg (vcs a2++tcs t2 c2).toArray))(h:∀v,K v (Ow.slice v 163 38 ((vcs a1++tcs t1 c1)++(vcs a2++tcs t2 c2))::bx) F):LO Tryz.prog (.buildSlice 159 2 #[(0,x),(1,y)]) ty e bx F K:=
 LO.buildSlice (el:=163) (sz:=38) (parts:=[(0,x),(1,y)]) (us:=[.agg (vcs a1++tcs t1 c1).toArray,.agg (vcs a2++tcs t2 c2).toArray]) (cs:=(vcs a1++tcs t1 c1)++(vcs a2++tcs t2 c2)) (.cons hx (.cons hy .nil)) (λ_=>by kernel_rfl) rfl qd h
def YO.buildLb(hx:ev e x=some (qv m)):YO Tryz.prog (.build 141 #[(1,x)]) ty e bx F (.agg #[.slice none 0 0,.bool m.1,m.2.1,.bool false,m.2.2]):=YO.build (parts:=[(1,x)]) (.cons hx .nil) λ_=>by kernel_rfl
def YO.buildL2{n':Nat}(hx:ev e x=some v)(hv:KnS bx F v n')(hy:ev e y=some (qv m)):YO Tryz.prog (.build 141 #[(0,x),(1,y)]) ty e bx F (.agg #[v,.bool m.1,m.2.1,.bool false,m.2.2]):=λn1 fr a w o h1 h2 h3 h4=>by
 obtain⟨a',c,rfl,_⟩:=(hv fr w h4).is;exact YO.build (parts:=[(0,x),(1,y)]) (us:=[.slice a' n' c,qv m]) (.cons hx (.cons hy .nil)) (λ_=>by kernel_rfl) n1 fr a w o h1 h2 h3 h4
def YO.buildPr{n':Nat}(hx:ev e x=some (.int .i64 vs))(hy:ev e y=some v)(hv:KnS bx F v n'):YO Tryz.prog (.build 118 #[(0,x),(2,y)]) ty e bx F (.agg #[.int .i64 vs,.slice none 0 0,v]):=λn1 fr a w o h1 h2 h3 h4=>by
 obtain⟨a',c,rfl,_⟩:=(hv fr w h4).is;exact YO.build (parts:=[(0,x),(2,y)]) (us:=[.int .i64 vs,.slice a' n' c]) (.cons hx (.cons hy .nil)) (λ_=>by kernel_rfl) n1 fr a w o h1 h2 h3 h4
def LO.bsL1{n':Nat}{a:Value}{b:QM}(hx:ev e x=some (.agg #[a,.bool b.1,b.2.1,.bool false,b.2.2]))(hv:KnS bx F a n')(h:∀v,K v (Ow.slice v 141 5 [a,.bool b.1,b.2.1,.bool false,b.2.2]::bx) F):LO Tryz.prog (.buildSlice 116 1 #[(0,x)]) ty e bx F K:=by
 refine LO.byP (p:=∃a' c,a=.slice a' n' c) (λfr w ho=>by obtain⟨a',c,h1,_⟩:=(hv fr w ho).is;exact⟨a',c,h1⟩) ?_;rintro⟨a',c,rfl⟩;exact LO.buildSlice (parts:=[(0,x)]) (us:=[.agg #[.slice a' n' c,.bool b.1,b.2.1,.bool false,b.2.2]]) (cs:=[.slice a' n' c,.bool b.1,b.2.1,.bool false,b.2.2]) (.cons hx .nil) (λ_=>by kernel_rfl) rfl qd h
def LO.bsL3{n1 n2 n3:Nat}{a a2 a3:Value}{b b2 b3:QM}(hx:ev e x=some (.agg #[a,.bool b.1,b.2.1,.bool false,b.2.2]))(hy:ev e y=some (.agg #[a2,.bool b2.1,b2.2.1,.bool false,b2.2.2]))(hz:ev e z=some (.agg #[a3,.bool b3.1,b3.2.1,.bool false,b3.2.2]))(hv:KnS bx F a n1)(hv2:KnS bx F a2 n2)(hv3:KnS bx F a3 n3)
  (h:∀v,K v (Ow.slice v 141 5 ([a,.bool b.1,b.2.1,.bool false,b.2.2]++([a2,.bool b2.1,b2.2.1,.bool false,b2.2.2]++[a3,.bool b3.1,b3.2.1,.bool false,b3.2.2]))::bx) F):LO Tryz.prog (.buildSlice 116 3 #[(0,x),(1,y),(2,z)]) ty e bx F K:=by
 refine LO.byP (p:=(∃a' c,a=.slice a' n1 c)/\(∃a' c,a2=.slice a' n2 c)/\∃a' c,a3=.slice a' n3 c) (λfr w ho=>?_) ?_
 ·obtain⟨a1,c1,h1,_⟩:=(hv fr w ho).is;obtain⟨a2,c2,h2,_⟩:=(hv2 fr w ho).is;obtain⟨a3,c3,h3,_⟩:=(hv3 fr w ho).is;exact⟨⟨a1,c1,h1⟩,⟨a2,c2,h2⟩,⟨a3,c3,h3⟩⟩
 rintro⟨⟨a',c,rfl⟩,⟨a2',c2,rfl⟩,⟨a3',c3,rfl⟩⟩;exact LO.buildSlice (parts:=[(0,x),(1,y),(2,z)]) (us:=[.agg #[.slice a' n1 c,.bool b.1,b.2.1,.bool false,b.2.2],.agg #[.slice a2' n2 c2,.bool b2.1,b2.2.1,.bool false,b2.2.2],.agg #[.slice a3' n3 c3,.bool b3.1,b3.2.1,.bool false,b3.2.2]]) (.cons hx (.cons hy (.cons hz .nil))) (λ_=>by kernel_rfl) rfl qd h
def LO.appLn{el':TypeId}{a:Value}{b:QM}{mq:Nat->QM}{ms:Nat->LnM}{xs:Nat->LnX}{bx2:Value->List Ow}(hx:ev e x=some v)(hy:ev e y=some u)(hu:Ow.slice u el' 5 [a,.bool b.1,b.2.1,.bool false,b.2.2]∈bx)(hm:Has F (fLx ⟨a,mq,b⟩ (xs n)))(hs:∀v',Sel bx (lO Qr v 141 n ms xs) (lO Qr v' 141 (n+1) (upd ms n ⟨a,mq,b⟩) xs) (bx2 v'))(hl:n<=1000000)(h:∀v',K v' (bx2 v') F) :
  LO Tryz.prog (.call {callee:=.builtin .append,args:=#[x,y],argTypes:=#[116,116]}) ty e bx F K:=
 LO.appG (S:=Qr) (c:=1) T.e116 hx hy hu (J4 (S:=Qr) (mm:=⟨a,mq,b⟩)) rfl (one_l hm) hs qd qd hl qd h
def LO.appLn3{el':TypeId}{a a2 a3:Value}{b b2 b3:QM}{mq mq2 mq3:Nat->QM}{ms:Nat->LnM}{xs:Nat->LnX}{bx2:Value->List Ow}(hx:ev e x=some v)(hy:ev e y=some u)(hu:Ow.slice u el' 5 ([a,.bool b.1,b.2.1,.bool false,b.2.2]++([a2,.bool b2.1,b2.2.1,.bool false,b2.2.2]++[a3,.bool b3.1,b3.2.1,.bool false,b3.2.2]))∈bx)
  (hm:Has F (fLx ⟨a,mq,b⟩ (xs n))) (hm2:Has F (fLx ⟨a2,mq2,b2⟩ (xs (n+1)))) (hm3:Has F (fLx ⟨a3,mq3,b3⟩ (xs (n+2)))) (hs:∀v',Sel bx (lO Qr v 141 n ms xs) (lO Qr v' 141 (n+3) (upd (upd (upd ms n ⟨a,mq,b⟩) (n+1) ⟨a2,mq2,b2⟩) (n+2) ⟨a3,mq3,b3⟩) xs) (bx2 v')) (hl:n<=1000000) (h:∀v',K v' (bx2 v') F) :
  LO Tryz.prog (.call {callee:=.builtin .append,args:=#[x,y],argTypes:=#[116,116]}) ty e bx F K:=
 LO.appG (S:=Qr) (c:=3) T.e116 hx hy hu (by
  rw[<-J4 (S:=Qr) (n:=n+2),<-J4 (S:=Qr) (n:=n+1),<-J4 (S:=Qr) (n:=n),List.append_assoc,List.append_assoc]) rfl ((one_l hm).app ((one_l hm2).app (one_l hm3))) hs qd qd hl qd h
def LO.appE2{el':TypeId}{i:Nat}{A:Nat->ToM}{A':Nat->Tc}{bx2:Value->List Ow}(hx:ev e x=some v)(hy:ev e y=some u)(hu:Ow.slice u el' 38 (ecs ⟨(A i).p,A i⟩ ⟨(A' i).p,A' i⟩++ecs ⟨(A i).q,A i⟩ ⟨(A' i).q,A' i⟩)∈bx)(hm:Has F (fT (A i) (A' i)))(hs:∀v',Sel bx (lO Jc v 163 (2*i) (edM A) (edT A')) (lO Jc v' 163 (2*(i+1)) (edM A) (edT A')) (bx2 v'))(hl:i<=1000)(h:∀v',K v' (bx2 v') F) :
  LO Tryz.prog (.call {callee:=.builtin .append,args:=#[x,y],argTypes:=#[159,159]}) ty e bx F K:=
 LO.appG (c:=2) T.e159 hx hy hu (by
  have h1:=Yj (S:=Jc) (n:=2*i) (ms:=edM A) (xs:=edT A');have h2:=Yj (S:=Jc) (n:=2*i+1) (ms:=edM A) (xs:=edT A');rw[<-h1,(edT_0 A' i).1,(edM_0 A i).1,(edT_0 A' i).2,(edM_0 A i).2,List.append_assoc] at h2;exact h2) rfl ((one_e (W.Has.eof (W.Has.tp hm) hm)).app (one_e (W.Has.eof (W.Has.tq hm) hm))) hs qd qd qo qd h
def LO.makePu{i:Int}(hx:ev e x=some (.int .i64 i))(hy:ev e y=some (.int .i64 i))(hi:QT i n)(hn:n<=1000000)(h:∀v,K v (lO JD v 127 n (λ_=>(m00,m00)) (λ_=>⟨0,0⟩)::bx) F):LO Tryz.prog (.makeSlice 125 x y) ty e bx F K:=LO.makeL (S:=JD) (m00,m00) ⟨0,0⟩ T.e125 rfl hx hy hi hn qd h
def LO.appR2{el':TypeId}{ms:Nat->QM}{a b:Rat}{bx2:Value->List Ow}(hx:ev e x=some v)(hy:ev e y=some u)(hu:Ow.slice u el' 4 (Qe 2 (upd (upd (λ_=>m00) 0 m) 1 m'))∈bx)(hm:Has F (isQ (qv m) a))(hm':Has F (isQ (qv m') b))(hs:∀v',Sel bx (.slice v 75 4 (Qe n ms)) (.slice v' 75 4 (Qe (n+2) (upd (upd ms n m) (n+1) m'))) (bx2 v'))(hl:n<=1000000)(h:∀v',K v' (bx2 v') F) :
  LO Tryz.prog (.call {callee:=.builtin .append,args:=#[x,y],argTypes:=#[61,61]}) ty e bx F K:=by
 have e2:Qe 2 (upd (upd (λ_=>m00) 0 m) 1 m')=qcs m++qcs m':=by
  rw[<-J1,<-J1,show Qe 0 (λ_=>m00)=[] from rfl,List.nil_append]
 rw[e2] at hu;refine LO.byP (λfr w ho=>((YL (bx:=bx) hm).app (YL hm')).all ho) λh1=>?_;exact LO.append T.e61 hx hy (news:=qcs m++qcs m') (by rw[<-List.append_assoc,J1,J1];exact hs) (Qa.own (n:=2) hu rfl qd) h1 (by rw[Qy];show(n*4+8)*64<=_;omega) (by rw[Qy];show n*4+8<=_;omega) h
end
end
section
open Go.RowKit
open Go.Conc (G base)
namespace W
variable {P:Program}
def sg_endRound{m:Bool}{b:Frame}{a:Act}{cs:List Frame}{w:World}{l:Nat}{r:Loop}(hl:b.roundOf=some l)(hk:b.kind=.normal)(h:w.heap[l]?=some (.loop r)){c0:Frame} :
  stepG P m (G (b.atR a []) (c0::cs)) w=.go (G (c0.finish (.bool true)) cs) (w.putObj l (.loop {r with state:=.ready,pending:=none})) (seen P b.fn ((Instr.endRound l none).events P w #[])):=by
 have h1:=run_endRound (P:=P) none h;simp[G,stepG,stepG.exec,Frame.atR,hl,hk,h1,GStep.after,doReturn]
def bdN(h1:PH)(Y:List Ow->List Fct->Prop):Post
 |.normal=>λ_ bx' F'=>∃bx'' F'',bx''.Sublist bx'/\Has F' (ge h1)/\(∀f∈F'',Has F' f)/\Y bx'' F''
 |_=>λ_ _ _=>False
def Um(P:Program)(l:Nat)(r:Loop)(val:Value)(bx:List Ow)(F:List Fct)(Y:List Ow->List Fct->Prop):Prop:=
 r.params.size=1/\∀fr w,OK fr (.obj l (.loop r)::bx) F w->
  Zb P fr.main fr.sh l r.fn ((r.params.zip #[val]).foldl (λt (p,v)=>t.setIfInBounds p v) r.tmps) r.assign r.body fr.own w
   (λown' v w'=>v=.bool true/\PostB fr (.obj l (.loop r)::bx) w (λ_ B G=>∃bx',B=.obj l (.loop r)::bx'/\Y bx' G) own' v w')
section
variable {n:Nat}{e:Env}{bx:List Ow}{F:List Fct}{l:Nat}{r:Loop}{val:Value}
def yieldC_of{Y:List Ow->List Fct->Prop}{p d:Tmp}{ty:TypeId}{pos:String}{id:Nat}(hk:Kn [] n ⟨r.tmps,[]⟩ e)(hs:r.state=.ready)(hpe:r.pending=none)(hps:r.params=#[p])
  (ha:r.assign=.region id #[{dst:=some d,op:=.assign (.tmp p),type:=ty,pos:=pos,after:=#[],guard:=none}] false) (hp:Nat.blt p n=true) (hd:Nat.blt d n=true)
  (hbody:∀h1,WC P n r.body ((d,val)::(p,val)::e) bx (ge h1::F) (bdN h1 Y)):Um P l r val bx F Y:=by
 refine⟨by rw[hps];rfl,λfr w ho c cs Stop hc=>?_⟩;rw[round_at];have htm:(r.params.zip #[val]).foldl (λt (p,v)=>t.setIfInBounds p v) r.tmps=(Act.put ⟨r.tmps,[]⟩ (some p) val).tmps:=by rw[hps];simp[Act.put]
 rw[htm];have hkp:Kn [] n ⟨(Act.put ⟨r.tmps,[]⟩ (some p) val).tmps,[]⟩ ((p,val)::e):=hk.put hp val;let h1:=imm fr (.obj l (.loop r)::bx) w.heap
 have ho0:OK {fr with ds:=[]} (.obj l (.loop r)::bx) (ge h1::F) w:=(ho.add (f:=ge h1) (PH.le.refl _)).dsw []
 have hwa:WC P n r.assign ((p,val)::e) (.obj l (.loop r)::bx) (ge h1::F) (λex e' bx' F'=>ex=.normal/\e'=(d,val)::(p,val)::e/\bx'=.obj l (.loop r)::bx/\F'=ge h1::F):=by
  rw[ha];refine WC.region (L:=[{dst:=some d,op:=.assign (.tmp p),type:=ty,pos:=pos,after:=#[],guard:=none}]) (WL.XS (YO.assign (by show look _ _=_;rw[Yy,if_pos rfl])) hd rfl (WL.nil ⟨rfl,rfl,rfl,rfl⟩))
 refine hwa {fr with ds:=[]} w _ w hkp (Rest.refl w) ho0 (Xf l r.fn) [.beginRound,.code r.body] (c::cs) Stop (by simp[Xf]) λJ0 ex a1 w1 hq=>?_;cases ex with
 |goto l=>exact hq.elim
 |panic ch=>exact hq.elim
 |outgrown=>exact hq.elim
 |exit id=>obtain⟨_,_,_,_,_,_,_,h,_⟩:=hq;cases h
 |ret=>obtain⟨_,_,_,_,_,_,_,h,_⟩:=hq;cases h
 |normal=>
 obtain⟨hw1,e1,b1,F1,hk1,hr1,ho1,_,rfl,rfl,rfl⟩:=hq;show Run P fr.main fr.sh Stop J0 _ w1;refine Run.go rfl λw2 h2=>?_;have ho2:=ho1.rely h2;have hl2:w2.heap[l]?=some (.loop r):=ho2.owns _ (List.mem_cons_self ..);have hlo:J0 l/\fr.fr l=none:=ho2.apart l (by simp[ids,Ow.ids]);refine⟨_,_,_,Zu (b:=Xf l r.fn) rfl (by simp[Xf]) hl2 hs,⟨⟨rfl,rfl,rfl⟩,by simp,λk _ hk=>World.putObj_heap_other (λe=>hk (e ▸ hlo.1)),λe he=>?_⟩,?_⟩
 ·have he:=Je he;rw[X5 hl2 hs] at he;simp at he;rcases he with rfl|rfl<;>exact .inr (.inr ⟨_,rfl,.inl hlo.1⟩)
 rw[Ql (by simp)];have ho3:=(ho2.ZS (o':=.loop {r with state:=.busy})).hold;have hbd:=hbody h1 (CF.hold (CF.at {fr with ds:=[]} J0) l (.loop {r with state:=.busy})) w a1 (w2.putObj l (.loop {r with state:=.busy})) hk1 (Rest.trans (b:=w2) (hr1.trans h2.rest) ⟨rfl,rfl,rfl⟩) ho3;have hrr:({r with state:=.ready,pending:=none}:Loop)=r:=by rw[<-hs,<-hpe]
 refine hbd (Xf l r.fn) [] (c::cs) Stop (by simp[Xf]) λown4 ex a4 w4 hq=>?_;cases ex with
 |goto l=>exact hq.elim
 |panic ch=>exact hq.elim
 |outgrown=>exact hq.elim
 |ret=>obtain⟨_,_,_,_,_,_,_,h⟩:=hq;exact h.elim
 |exit id=>obtain⟨_,_,_,_,_,_,_,h⟩:=hq;exact h.elim
 |normal=>
  obtain⟨hw4,e4,b4,F4,hk4,hr4,ho4,bx'',F'',hb,hg,hF,hx⟩:=hq;refine Run.go rfl λw5 h5=>?_;have ho5:=(ho4.rely h5).drop hb;have hfl:=ho5.frame.1 l (.loop {r with state:=.busy}) (show(CF.at (CF.hold (CF.at {fr with ds:=[]} J0) l (.loop {r with state:=.busy})) own4).fr l=_ by simp[CF.at,CF.hold]);have hback:OK (fr.at own4) (.obj l (.loop r)::bx'') F4 (w5.putObj l (.loop r)):=((OK.back (fr:=CF.at {fr with ds:=[]} own4) ho5 hlo.2).ZS).dsw fr.ds;refine⟨_,_,_,sg_endRound (b:=Xf l r.fn) rfl rfl hfl.2,⟨⟨rfl,rfl,rfl⟩,by simp,λk _ hk=>World.putObj_heap_other (λe=>hk (e ▸ hfl.1)),λe he=>?_⟩,?_⟩
  ·have he:=Je he;rw[YK hfl.2] at he;simp at he;rcases he with rfl|rfl<;>exact .inr (.inr ⟨_,rfl,.inl hfl.1⟩)
  ·rw[Ql (by simp)];show Run P fr.main fr.sh Stop own4 _ (w5.putObj l (.loop {r with state:=.ready,pending:=none}));rw[hrr];refine hc _ _ _ ⟨rfl,λk hk=>hw4 k (hw1 k hk),_,F'',⟨bx'',rfl,hx⟩,Rest.trans (b:=w5) (hr4.trans h5.rest) ⟨rfl,rfl,rfl⟩,hback.has hg,hback.frame,hback.apart,hback.nodup,hback.owns,λf hf=>hback.has (hF f hf)⟩
def LO.yieldC{Y:List Ow->List Fct->Prop}{x:Operand}{arg:Operand}{ats:Array TypeId}{ty:TypeId}{K:Qg}{bx0:List Ow}(hy:Um P l r val bx F Y)
  (hx:ev e x=some (.func (.yield l) #[] #[])) (hv:ev e arg=some val) (br:List Ow) (hp:bx0.Perm ((.obj l (.loop r)::bx)++br)) {F0:List Fct} (hF:∀f∈F,Has F0 f)
  (hK:∀bx' G,Y bx' G->K (.bool true) ((.obj l (.loop r)::bx')++br) (G++F0)) :
  LO P (.call {callee:=.value x,args:=#[arg],argTypes:=ats}) ty e bx0 F0 K:=λn fr a w o K' hop _ hk ho hnext=>by
 obtain⟨fr',e1',e2',e3,h1,h2,h3⟩:=VS ho (.obj l (.loop r)::bx) br hp;have hl:w.heap[l]?=some (.loop r):=h1.owns _ (List.mem_cons_self ..);have hlo:fr.own l:=by rw[<-e3];exact(h1.apart l (by simp[ids,Ow.ids])).1
 have e1:a.eval x=.func (.yield l) #[] #[]:=hk.eval hx;have e2:a.eval arg=val:=hk.eval hv
 have hrun:(execOp a.eval o).run P w=.ok (.round l r.fn ((r.params.zip #[val]).foldl (λt (p,v)=>t.setIfInBounds p v) r.tmps) r.assign r.body) w:=by
  have:=Yp (P:=P) (args:=#[val]) hl (by rw[hy.1];rfl);simp[execOp,hop,resolve,e1,e2,Deferred.ofValue,invoke,this]
 have hev:(execOp a.eval o).events P w #[]=#[⟨.obj l,false,false⟩]:=by
  have:=ZD (P:=P) (args:=#[val]) (es:=#[]) hl (by rw[hy.1];rfl);have h2:=Yp (P:=P) (args:=#[val]) hl (by rw[hy.1];rfl);unfold execOp;simp[hop,resolve,e1,e2,Deferred.ofValue,invoke,this,h2]
 rw[hrun]
 refine .inl ⟨.look (by
  rw[hev];intro ev he;simp at he;subst he;exact .inr (.inr ⟨l,rfl,hlo⟩)),?_⟩
 rw[Ql (Nat.le_refl _)];have hc:=hy.2 fr' w ⟨h1.frame,h1.apart,h1.nodup,h1.owns,λf hf=>h1.has (hF f hf)⟩;rw[e1',e2',e3] at hc;refine hc.mono λown' v w' hp'=>?_;obtain⟨rfl,hw,B,GG,⟨bx',rfl,hX⟩,hr',hle,hok⟩:=hp';rw[e3] at hw;exact hnext (fr.at own') _ w' _ _ (CF.le_at hw) hr' (h3 own' _ GG w' hw hr' hle hok) (hK bx' GG hX)
end
end W
end
section
open Go.RowKit
open Go.Conc (G base)
namespace W
variable {P:Program}{e:Env}{bx bx':List Ow}{F:List Fct}{ty:TypeId}
def zc1{z:Value}(hz:z.cells=#[z])(n:Nat):(Builtin.zeroCells z.cells n).toList=List.replicate n z:=by
 rw[hz];simp only[Builtin.zeroCells];apply List.ext_getElem
 ·simp
 ·intro i h1 h2;simp[Nat.mod_one]
def LO.clearO{t el n a:Nat}{z v:Value}{x:Operand}{K:Qg}{cs:List Value}(hu:P.underlying t=some (.slice el))(hz:(P.info? el).map (·.zero)=some (some z))(hzc:z.cells=#[z])(h1:z.oneCell'=true)
  (hx:ev e x=some (resl v a n 1)) (hs:Sel bx (.slice v el 1 cs) (.slice v el 1 (cs.take a++List.replicate (n-a) z)) bx') (hn:cs.length=n) (ha:a<=n) (h:K (.tuple #[]) bx' F) :
  LO P (.call {callee:=.builtin .clear,args:=#[x],argTypes:=#[t]}) ty e bx F K:=.of λk fr ac w o hop hk ho=>by
 subst hn;have hx':=hk.eval hx;obtain⟨i,hi,hiz⟩:=Option.map_eq_some_iff.1 hz
 have quiet:∀b c,ac.eval x=.slice b (cs.length-a) c->(b=none\/cs.length-a=0)->∃v w' bx' F',((execOp ac.eval o).run P w=.ok (.value v) w'\/((execOp ac.eval o).run P w=.ok .skip w'/\v=undef))/\(Rest w w'/\w.heap.size<=w'.heap.size/\(∀k,k<w.heap.size->¬fr.own k->w'.heap[k]?=w.heap[k]?)/\∀ev∈(execOp ac.eval o).events P w #[],XX (grow fr.own w w') fr.sh ev)/\OK (fr.grow w w') bx' F' w'/\K v bx' F':=λb c hb hq=>by
  have hr:(Builtin.clear_ #[t] o.type #[.slice b (cs.length-a) c]).run P w=.ok (.tuple #[]) w/\(Builtin.clear_ #[t] o.type #[.slice b (cs.length-a) c]).events P w #[]=#[]:=by
   rcases hq with rfl|hq
   ·simp[Builtin.clear_,run_underlying hu]
   ·rw[hq];cases b<;>simp[Builtin.clear_,run_underlying hu]
  have hsame:cs.length-a=0->cs.take a++List.replicate (cs.length-a) z=cs:=λh0=>by
   rw[h0,List.take_of_length_le qo];simp
  refine⟨.tuple #[],w,bx',F,.inl ?_,⟨Rest.refl w,Nat.le_refl _,λ_ _ _=>rfl,ZF ?_⟩,?_,h⟩
  ·simp[execOp,hop,resolve,hb,invoke,builtin,hr.1]
  ·simp[execOp,hop,resolve,hb,invoke,builtin,hr.1,hr.2]
  ·refine ho.sel hs (Nat.le_refl _) (λ_ _ _=>rfl) (λk hk1=>.inl (by have e:∀q,(Ow.slice v el 1 q).ids=(Ow.slice v el 1 []).ids:=λq=>(by cases v<;>simp[Ow.ids];rename_i ad _ _;cases ad<;>simp);rw[e];rw[e] at hk1;exact hk1)) (by cases v<;>simp[Ow.ids];rename_i ad _ _;cases ad<;>simp) ?_;have hh:=ho.owns _ hs.mem;rcases hq with rfl|hq
   ·obtain⟨m,h2,⟨rfl,h3⟩|⟨g,cap,sp,rfl,h3,h4,h5,h6⟩⟩:=hh
    ·subst h3;have h0:cs=[]:=List.eq_nil_of_length_eq_zero qo;subst h0;exact⟨0,by simp,.inl ⟨rfl,rfl⟩⟩
    ·rw[hx'] at hb;simp only[resl] at hb;split at hb<;>simp at hb
   ·rw[hsame hq];exact hh
 obtain⟨m,h2,⟨rfl,h3⟩|⟨g,cap,sp,rfl,h3,h4,h5,h6⟩⟩:=ho.owns _ hs.mem
 ·subst h3;have h0:cs=[]:=List.eq_nil_of_length_eq_zero qo;subst h0;obtain rfl:a=0:=by simpa using ha
  exact quiet none 0 hx' (.inl rfl)
 ·have hm:cs.length=m:=qo;by_cases hq:cs.length-a=0
  ·exact quiet _ _ hx' (.inr hq)
  ·have hne:cap≠a:=qo
   have hx2:ac.eval x=.slice (some ⟨g,a,none⟩) (cs.length-a) (cap-a):=by
    rw[hx'];simp[resl,hne,Addr.add_lit]
   have hlen:a+0+(List.replicate (cs.length-a) z).length<=(cs++sp).toArray.size:=by simp;omega
   have h1':∀u∈List.replicate (cs.length-a) z,u.oneCell'=true:=λu hu=>by rw[List.eq_of_mem_replicate hu];exact h1
   have hst:=run_storeCells_at P g a el (List.replicate (cs.length-a) z) 0 (cs++sp).toArray w h5 hlen h1'
   have heq:List.take a (cs++sp)++List.replicate (cs.length-a) z++List.drop (a+(cs.length-a)) (cs++sp)=(cs.take a++List.replicate (cs.length-a) z)++sp:=by
    rw[List.take_append_of_le_length qo,show a+(cs.length-a)=cs.length by omega,List.drop_left]
   simp only[Nat.add_zero,List.length_replicate] at hst;rw[heq] at hst;have hzv:∀w,(zeroValue el).run P w=.ok z w:=λw=>by simp[zeroValue,typeInfo,hi,hiz]
   have hze:∀w es,(zeroValue el).events P w es=es:=λw es=>by simp[zeroValue,typeInfo,hi,hiz]
   obtain⟨q,hq2⟩:∃q,cs.length-a=q+1:=⟨cs.length-a-1,by omega⟩
   have hzc2:=zc1 hzc (cs.length-a);refine⟨.tuple #[],w.setRow g ((cs.take a++List.replicate (cs.length-a) z)++sp).toArray,bx',F,.inl ?_,Ys (P:=P) (o:=a) (vs:=List.replicate (cs.length-a) z) (ho.own hs.mem (by simp[Ow.ids])) h5 (by simpa using hlen) h1' ?_,ho.sel hs (by rw[size_setRow];exact Nat.le_refl _) ?_ ?_ ?_ ?_,h⟩
   ·rw[hq2] at hx2 hzc2 hst ⊢;simp[execOp,hop,resolve,hx2,invoke,builtin,Builtin.clear_,run_underlying hu,hzv,hzc2,hst]
   ·rw[hq2] at hx2 hzc2 hst ⊢;simp[execOp,hop,resolve,hx2,invoke,builtin,Builtin.clear_,run_underlying hu,hzv,hze,hzc2,hst]
   ·intro k _ hk2;exact setRow_other w g k _ (by simpa [Ow.ids] using hk2)
   ·intro k hk1;exact .inl hk1
   ·simp[Ow.ids]
   ·have hl:(cs.take a++List.replicate (cs.length-a) z).length=cs.length:=by simp;omega
    exact⟨m,by rw[hl];simpa using h2,.inr ⟨g,cap,sp,rfl,h3,h4,setRow_heap w g _ _ el (0,0) h5,by rw[List.length_append,hl,<-List.length_append];exact h6⟩⟩
end W
end
section
namespace T
open W
def s25:Qw Tryz.prog 25 28 1:=Qw.of kr
def sc25:Qk Tryz.prog 25:=Qk.of kr
def al25:Qv Tryz.prog 25 [.slice none 0 0]:=Qv.of (z:=.slice none 0 0) kr kr
def e25:Xg Tryz.prog 25 28 1 (.slice none 0 0) 24:=⟨by kernel_rfl,by kernel_rfl,by kernel_rfl,by decide⟩
def z25:(Tryz.prog.info? 25).map (·.size)=some 1:=by kernel_rfl
def s33:Qw Tryz.prog 33 32 1:=Qw.of kr
def sc33:Qk Tryz.prog 33:=Qk.of kr
def s40:Qw Tryz.prog 40 63 2:=Qw.of kr
def sc40:Qk Tryz.prog 40:=Qk.of kr
def e40:Xg Tryz.prog 40 63 2 (.agg #[.int .i64 0,.slice none 0 0]) 32:=⟨by kernel_rfl,by kernel_rfl,by kernel_rfl,by decide⟩
def f42_0:Qj Tryz.prog 42 0 0:=Qj.of kr
def f42_1:Qj Tryz.prog 42 1 1:=Qj.of kr
def f42_2:Qj Tryz.prog 42 2 2:=Qj.of kr
def r42:Row Tryz.prog 42 3:=Row.of kr
def al42:Qv Tryz.prog 42 [.slice none 0 0,.slice none 0 0,.slice none 0 0]:=Qv.of (z:=.agg #[.slice none 0 0,.slice none 0 0,.slice none 0 0]) kr kr
def u85:Qs Tryz.prog 85 .u64:=by unfold Qs;kernel_rfl
end T
end
section
def Fr(D A:Nat)(q:Rat):Prop:=∃a:Int,q*(D:Rat)=(a:Rat)/\a.natAbs<=A
section
variable {D E A B:Nat}{p q:Rat}
def Fr.up(h:Fr D A q)(hA:A<=B):Fr D B q:=by
 obtain⟨a,h1,h2⟩:=h;exact⟨a,h1,Nat.le_trans h2 hA⟩
def Fr.mkr(h:Fr D A q)(hD:D≠0):∃a:Int,q=mkRat a D/\a.natAbs<=A:=by
 obtain⟨a,h1,h2⟩:=h;refine⟨a,?_,h2⟩;have hD':(D:Rat)≠0:=by exact_mod_cast hD
 rw[Rat.mkRat_eq_div,<-h1,Rat.div_def,Rat.mul_assoc,Rat.mul_inv_cancel _ hD',Rat.mul_one]
def Fr.of{a:Int}{D:Nat}(hD:D≠0)(h:a.natAbs<=A):Fr D A (Rat.divInt a D):=by
 refine⟨a,?_,h⟩;have hD':(D:Rat)≠0:=by exact_mod_cast hD
 rw[Rat.divInt_ofNat,Rat.mkRat_eq_div,Rat.div_def,Rat.mul_assoc,Rat.inv_mul_cancel _ hD',Rat.mul_one]
def Fr.int(a:Int)(h:a.natAbs<=A):Fr 1 A (a:Rat):=⟨a,by grind,h⟩
def Fr.sc(c:Nat)(h:Fr D A q):Fr (D*c) (A*c) q:=by
 obtain⟨a,h1,h2⟩:=h;refine⟨a*c,?_,?_⟩
 ·rw[Rat.natCast_mul,Rat.intCast_mul,<-Rat.mul_assoc,h1];rfl
 ·rw[Int.natAbs_mul];exact Nat.mul_le_mul_right _ h2
def Fr.sc'{c:Nat}(h:Fr D A q)(hE:D*c=E)(hB:A*c<=B):Fr E B q:=hE ▸ (h.sc c).up hB
def Fr.zero:Fr D A 0:=⟨0,by grind,Nat.zero_le _⟩
end
def Fv(D A:Nat)(a:Bl.Vc):Prop:=Fr D A a.x/\Fr D A a.y
namespace Bl
open X
structure Fs(D A:Nat)(S:Sc):Prop where
 B:∀i,i<S.n->Fv D A (S.B i).c/\Fr D A (S.B i).lo/\Fr D A (S.B i).hi/\Fr D A (S.B i).st
 T:∀j,j<S.m->Fv D A (S.T j).p/\Fv D A (S.T j).q/\Fv D A (S.T j).n/\Fr D A (S.T j).r
def Sat(S:Sc)(c:Nat):Prop:=∃x,K3 (lp S (S.wt c)) x
end Bl
end
end Go.Proofs.YtbnobghgnbockaaGreat
