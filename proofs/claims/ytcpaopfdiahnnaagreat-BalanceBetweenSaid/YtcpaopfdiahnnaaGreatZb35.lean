/- Lemmas for a law. Conditions: none. -/
import Derived.Test.YtcpaopfdiahnnaaGreatZb34
set_option linter.all false
set_option maxHeartbeats 32000000
set_option maxRecDepth 100000
namespace Go.Proofs.YtcpaopfdiahnnaaGreat
section
open Bl (Vc Bd Tc Sc)
namespace Bl
def Zx (l:List Int):Rat:=Rat.divInt (2+atP l 5 3) 2
def V4 (k:Int):Int:=[40,40,40,9,5,2].getD k.toNat 0
def plB (c:Vc) (l:List Int):Bd:=⟨c,Zx l,Zx l+Rat.divInt (atP l 6 3) 2,(V4 (atP l 7 6):Rat)⟩
def slN (k:Int):Int×Int:=[(1,2),(-1,3),(1,1),(-3,4)].getD k.toNat (1,2)
def slP (l:List Int):Vc:=⟨(atP l 2 4:Rat),((1:Int):Rat)⟩
def slQ (l:List Int):Vc:=⟨(slP l).x+(((slN (atP l 1 4)).2:Int):Rat),(slP l).y+((-(slN (atP l 1 4)).1:Int):Rat)⟩
def slC (l:List Int):Vc:=⟨(slP l).x+(Q4 (slQ l) (slP l)).x*Rat.divInt (atP l 3 13 - 1) 10+((0:Int):Rat),(slP l).y+(Q4 (slQ l) (slP l)).y*Rat.divInt (atP l 3 13 - 1) 10+((1:Int):Rat)⟩
def slT (l:List Int):Tc:=⟨0,-1,slP l,slQ l,⟨((slN (atP l 1 4)).1:Rat),((slN (atP l 1 4)).2:Rat)⟩,Rat.divInt (atP l 4 9) 6⟩
def K9 (l:List Int):Sc:=⟨1,1,λ_=>plB (slC l) l,λ_=>slT l⟩
def tcF (a b:Int) (x y:Rat) (h:Int) (r:Rat):Tc:=⟨a,b,⟨x,(h:Rat)⟩,⟨y,(h:Rat)⟩,⟨((0:Int):Rat),((1:Int):Rat)⟩,r⟩
def Qa (l:List Int):Nat:=[1,2,1,2,1,2,1,3].getD (atP l 1 8).toNat 1
def twR (l:List Int):Rat:=Rat.divInt (atP l 2 4) 3
def twL (l:List Int):Nat->Rat×Rat
 |0=>(((0:Int):Rat),((1+atP l 3 5:Int):Rat))
 |i+1=>((twL l i).1+Rat.divInt (atP l (8+2*(i:Int)) 7 - 2) 2,(twL l i).1+Rat.divInt (atP l (8+2*(i:Int)) 7 - 2) 2+((2+atP l (9+2*(i:Int)) 3:Int):Rat))
def twA (l:List Int) (i:Nat):Rat:=if(twL l (i+1)).1 < (twL l i).1 then(twL l i).1 else(twL l (i+1)).1
def twB (l:List Int) (i:Nat):Rat:=if(twL l i).2 < (twL l (i+1)).2 then(twL l i).2 else(twL l (i+1)).2
def tw0:Tc:=⟨0,-1,⟨0,0⟩,⟨0,0⟩,⟨0,0⟩,0⟩
def twT (l:List Int):Nat->Nat×(Nat->Tc)
 |0=>(0,λ_=>tw0)
 |i+1=>if twA l i<=twB l i then((twT l i).1+1,upd (twT l i).2 (twT l i).1 (tcF (i:Int) ((i:Int) - 1) (twA l i) (twB l i) (i:Int) (twR l))) else twT l i
def twC (l:List Int) (i:Nat):Vc:=⟨((twL l (i+1)).1+(twL l (i+1)).2)*Rat.divInt 1 2,Rat.divInt (2*(i:Int)+1) 2⟩
def J2 (l:List Int) (i:Nat):Bd:=plB (twC l i) (l.drop i)
def twW (l:List Int) (n:Nat):Tc:=⟨(n:Int) - 1,-1,⟨(twL l n).1,(((n:Int) - 1:Int):Rat)⟩,⟨(twL l n).1+((0:Int):Rat),(((n:Int) - 1:Int):Rat)+((1:Int):Rat)⟩,⟨((1:Int):Rat),((0:Int):Rat)⟩,twR l⟩
def XJ (l:List Int):Sc:=if atP l 4 3=0 then⟨Qa l,(twT l (Qa l)).1+1,J2 l,upd (twT l (Qa l)).2 (twT l (Qa l)).1 (twW l (Qa l))⟩ else⟨Qa l,(twT l (Qa l)).1,J2 l,(twT l (Qa l)).2⟩
def Ye (l:List Int):Sc:=if atP l 0 4=0 then K9 l else XJ l
def six {k:Int} (h:0<=k∧k < 6):k=0∨k=1∨k=2∨k=3∨k=4∨k=5:=qo
def GY {k:Int} (h:0<=k∧k < 6):0 < V4 k∧V4 k<=40:=by
 rcases six h with rfl|rfl|rfl|rfl|rfl|rfl <;> decide
def slN_lt {k:Int} (h:0<=k∧k < 4):(slN k).1≠0∧(slN k).1.natAbs<=4∧(slN k).2.natAbs<=4:=by
 have:k=0∨k=1∨k=2∨k=3:=qo;rcases this with rfl|rfl|rfl|rfl <;> decide
def ZK (l:List Int):1<=Qa l∧Qa l<=3:=by
 unfold Qa;have h:=QA (l:=l) (i:=1) (m:=8) qd;generalize atP l 1 8=k at h;have:k=0∨k=1∨k=2∨k=3∨k=4∨k=5∨k=6∨k=7:=qo;rcases this with rfl|rfl|rfl|rfl|rfl|rfl|rfl|rfl <;> decide
def divpos {a b:Int} (ha:0 < a) (hb:0 < b):0 < Rat.divInt a b:=by
 obtain⟨d,rfl⟩:=Int.eq_ofNat_of_zero_le (Int.le_of_lt hb);rw[Rat.divInt_ofNat,Rat.mkRat_eq_div,Rat.div_def];exact Rat.mul_pos (by exact_mod_cast ha) (Rat.inv_pos.2 (by exact_mod_cast hb))
def Kw {a b:Int} (ha:0<=a) (hb:0 < b):0<=Rat.divInt a b:=by
 rcases Int.lt_or_eq_of_le ha with h|h
 ·exact Rat.le_of_lt (divpos h hb)
 ·rw[<-h,Rat.zero_divInt];exact Rat.le_refl
def plB_ok (c:Vc) (l:List Int):BdOk (plB c l):=by
 have h5:=QA (l:=l) (i:=5) (m:=3) qd;have h6:=QA (l:=l) (i:=6) (m:=3) qd;have h7:=GY (QA (l:=l) (i:=7) (m:=6) qd);refine⟨divpos qo qd,?_,?_⟩
 ·have:=Kw h6.1 (b:=2) qd;show Zx l<=Zx l+_;grind
 ·show(0:Rat) < ((V4 _:Int):Rat)
  exact_mod_cast h7.1
def plB_fr {c:Vc} {l:List Int} (hc:Fv 60 2400 c):Fv 60 2400 (plB c l).c∧Fr 60 2400 (plB c l).lo∧Fr 60 2400 (plB c l).hi∧Fr 60 2400 (plB c l).st:=by
 have h5:=QA (l:=l) (i:=5) (m:=3) qd;have h6:=QA (l:=l) (i:=6) (m:=3) qd;have h7:=GY (QA (l:=l) (i:=7) (m:=6) qd);have hl:Fr 2 4 (Zx l):=Fr.of (D:=2) qd qo;refine⟨hc,hl.sc' (c:=30) rfl qd,?_,?_⟩
 ·exact(hl.add (Fr.of (D:=2) (A:=2) qd qo)).sc' (c:=30) rfl qd
 ·exact(Fr.int (A:=40) _ qo).sc' (c:=60) rfl qd
def slope_ok (l:List Int):(K9 l).ok:=by
 have hn:=slN_lt (QA (l:=l) (i:=1) (m:=4) qd);have h4:=QA (l:=l) (i:=4) (m:=9) qd;refine⟨by show 1<=5;decide,by show 1<=10;decide,λi _=>plB_ok _ _,λj _=>?_⟩;show Us 1 (slT l);refine⟨by show(0:Int)<=0;decide,by show(0:Int) < 1;decide,by show(-1:Int)<=-1;decide,by show(-1:Int) < 1;decide,by show(0:Int)≠-1;decide,Kw h4.1 qd,λh=>hn.1 ?_,?_⟩
 ·have:=h.1;show(slN _).1=0;have e:(((slN (atP l 1 4)).1:Int):Rat)=0:=this
  exact_mod_cast e
 ·show(((slN (atP l 1 4)).1:Int):Rat)*((slP l).x+(((slN (atP l 1 4)).2:Int):Rat) - (slP l).x)+(((slN (atP l 1 4)).2:Int):Rat)*((slP l).y+((-(slN (atP l 1 4)).1:Int):Rat) - (slP l).y)=0;rw[Rat.intCast_neg];grind
def slope_fs (l:List Int):Fs 60 2400 (K9 l):=by
 have hn:=slN_lt (QA (l:=l) (i:=1) (m:=4) qd);have h2:=QA (l:=l) (i:=2) (m:=4) qd;have h3:=QA (l:=l) (i:=3) (m:=13) qd;have h4:=QA (l:=l) (i:=4) (m:=9) qd;have hp:Fv 1 4 (slP l):=⟨Fr.int _ qo,Fr.int _ qd⟩
 have hq:Fv 1 8 (slQ l):=⟨(hp.1.add (Fr.int (A:=4) _ hn.2.2)).up qd,(hp.2.add (Fr.int (A:=4) _ qo)).up qd⟩
 have hd:Fv 1 12 (Q4 (slQ l) (slP l)):=⟨(hq.1.sub hp.1).up qd,(hq.2.sub hp.2).up qd⟩
 have hx:Fr 10 12 (Rat.divInt (atP l 3 13 - 1) 10):=Fr.of (D:=10) qd qo
 have hc:Fv 60 2400 (slC l):=by
  refine⟨?_,?_⟩
  ·exact(((hp.1.sc' (c:=10) (E:=10) (B:=40) rfl qd).add (hd.1.mul hx)).add ((Fr.int (A:=0) 0 qd).sc' (c:=10) (E:=10) (B:=0) rfl qd)).sc' (c:=6) rfl qd
  ·exact(((hp.2.sc' (c:=10) (E:=10) (B:=40) rfl qd).add (hd.2.mul hx)).add ((Fr.int (A:=1) 1 qd).sc' (c:=10) (E:=10) (B:=10) rfl qd)).sc' (c:=6) rfl qd
 refine⟨λi _=>plB_fr hc,λj _=>?_⟩;exact⟨⟨hp.1.sc' (c:=60) rfl qd,hp.2.sc' (c:=60) rfl qd⟩,⟨hq.1.sc' (c:=60) rfl qd,hq.2.sc' (c:=60) rfl qd⟩,⟨(Fr.int (A:=4) _ hn.2.1).sc' (c:=60) rfl qd,(Fr.int (A:=4) _ hn.2.2).sc' (c:=60) rfl qd⟩,(Fr.of (D:=6) (A:=8) qd qo).sc' (c:=10) rfl qd⟩
def XX (l:List Int):∀ i,Fr 2 (4*i+10) (twL l i).1∧Fr 2 (4*i+10) (twL l i).2
 |0=>by
  have h:=QA (l:=l) (i:=3) (m:=5) qd;exact⟨(Fr.int (A:=0) 0 qd).sc' (c:=2) rfl qd,(Fr.int (A:=5) _ qo).sc' (c:=2) rfl qd⟩
 |i+1=>by
  have h:=QA (l:=l) (i:=8+2*(i:Int)) (m:=7) qd;have h2:=QA (l:=l) (i:=9+2*(i:Int)) (m:=3) qd
  have hl:∀ k,Fr 2 (4*k) (twL l k).1:=λk=>by
   induction k with
   |zero=>exact(Fr.int (A:=0) 0 qd).sc' (c:=2) rfl qd
   |succ k ih=>
    have h:=QA (l:=l) (i:=8+2*(k:Int)) (m:=7) qd;exact(ih.add (Fr.of (D:=2) (A:=4) qd qo)).up qo
  have e:=(hl i).add (Fr.of (a:=atP l (8+2*(i:Int)) 7 - 2) (D:=2) (A:=4) qd qo);exact⟨e.up qo,(e.add ((Fr.int (A:=4) (2+atP l (9+2*(i:Int)) 3) qo).sc' (c:=2) (E:=2) (B:=8) rfl qd)).up qo⟩
def Uv (l:List Int):∀ i,i<=3->(twT l i).1<=i∧∀ n,i<=n->∀ j,j < (twT l i).1->Us n ((twT l i).2 j)∧Fv 60 2400 ((twT l i).2 j).p∧Fv 60 2400 ((twT l i).2 j).q∧Fv 60 2400 ((twT l i).2 j).n∧Fr 60 2400 ((twT l i).2 j).r
 |0,_=>⟨Nat.le_refl _,λn _ j hj=>absurd hj (Nat.not_lt_zero _)⟩
 |i+1,hi=>by
  obtain⟨h1,h2⟩:=Uv l i qo;unfold twT;split
  ·refine⟨by show(twT l i).1+1<=i+1;omega,λn hn j hj=>?_⟩;have hj:j < (twT l i).1+1:=hj;by_cases c:j=(twT l i).1
   ·subst c;simp only[QJ];have hr:=QA (l:=l) (i:=2) (m:=4) qd
    have hA:Fr 2 40 (twA l i):=by
     unfold twA;split
     ·exact(XX l i).1.up qo
     ·exact(XX l (i+1)).1.up qo
    have hB:Fr 2 40 (twB l i):=by
     unfold twB;split
     ·exact(XX l i).2.up qo
     ·exact(XX l (i+1)).2.up qo
    have hh:Fr 60 2400 (((i:Int):Int):Rat):=(Fr.int (A:=3) _ qo).sc' (c:=60) rfl qd;refine⟨⟨by show(0:Int)<=(i:Int);omega,by show(i:Int) < (n:Int);omega,by show(-1:Int)<=(i:Int) - 1;omega,by show(i:Int) - 1 < (n:Int);omega,by show(i:Int)≠(i:Int) - 1;omega,Kw hr.1 qd,λh=>absurd h.2 (by show ¬((1:Int):Rat)=0;decide),?_⟩,⟨hA.sc' (c:=30) rfl qd,hh⟩,⟨hB.sc' (c:=30) rfl qd,hh⟩,⟨(Fr.int (A:=1) _ qd).sc' (c:=60) rfl qd,(Fr.int (A:=1) _ qd).sc' (c:=60) rfl qd⟩,(Fr.of (D:=3) (A:=3) qd qo).sc' (c:=20) rfl qd⟩;show((0:Int):Rat)*(twB l i - twA l i)+((1:Int):Rat)*(((i:Int):Rat) - ((i:Int):Rat))=0;grind
   ·simp only[upd_ne c];exact h2 n qo j qo
  ·exact⟨by omega,λn hn=>h2 n qo⟩
def UT (l:List Int) (i:Nat) (hi:i < 3):BdOk (J2 l i)∧Fv 60 2400 (J2 l i).c∧Fr 60 2400 (J2 l i).lo∧Fr 60 2400 (J2 l i).hi∧Fr 60 2400 (J2 l i).st:=by
 have h:=XX l (i+1);have h1:Fr 2 1 (Rat.divInt 1 2):=Fr.of (D:=2) qd qd;exact⟨plB_ok _ _,plB_fr ⟨((h.1.add h.2).mul h1).sc' (c:=15) rfl qo,(Fr.of (D:=2) (A:=7) qd qo).sc' (c:=30) rfl qd⟩⟩
def tower_ok (l:List Int):(XJ l).ok∧Fs 60 2400 (XJ l):=by
 have hm:=ZK l;obtain⟨h1,h2⟩:=Uv l (Qa l) hm.2;have h2:=h2 (Qa l) (Nat.le_refl _);unfold XJ;split
 ·have hr:=QA (l:=l) (i:=2) (m:=4) qd;have hL:=(XX l (Qa l)).1
  have hW:Us (Qa l) (twW l (Qa l))∧Fv 60 2400 (twW l (Qa l)).p∧Fv 60 2400 (twW l (Qa l)).q∧Fv 60 2400 (twW l (Qa l)).n∧Fr 60 2400 (twW l (Qa l)).r:=by
   have hL':Fr 60 900 (twL l (Qa l)).1:=hL.sc' (c:=30) rfl qo;have hh:Fr 60 180 ((((Qa l:Int) - 1:Int)):Rat):=(Fr.int (A:=3) _ qo).sc' (c:=60) rfl qd;refine⟨⟨by show(0:Int)<=(Qa l:Int) - 1;omega,by show(Qa l:Int) - 1 < _;omega,by show(-1:Int)<=-1;decide,by show(-1:Int) < _;omega,by show(Qa l:Int) - 1≠-1;omega,Kw hr.1 qd,λh=>absurd h.1 (by show ¬((1:Int):Rat)=0;decide),?_⟩,⟨hL'.up qd,hh.up qd⟩,⟨(hL'.add (Fr.zero (A:=0))).up qd,(hh.add ((Fr.int (A:=1) 1 qd).sc' (c:=60) (E:=60) (B:=60) rfl qd)).up qd⟩,⟨(Fr.int (A:=1) _ qd).sc' (c:=60) rfl qd,(Fr.int (A:=1) _ qd).sc' (c:=60) rfl qd⟩,(Fr.of (D:=3) (A:=3) qd qo).sc' (c:=20) rfl qd⟩;show((1:Int):Rat)*((twL l (Qa l)).1+((0:Int):Rat) - (twL l (Qa l)).1)+((0:Int):Rat)*((((Qa l:Int) - 1:Int):Rat)+((1:Int):Rat) - (((Qa l:Int) - 1:Int):Rat))=0;grind
  have hT:∀ j,j < (twT l (Qa l)).1+1->Us (Qa l) (upd (twT l (Qa l)).2 (twT l (Qa l)).1 (twW l (Qa l)) j)∧Fv 60 2400 (upd (twT l (Qa l)).2 (twT l (Qa l)).1 (twW l (Qa l)) j).p∧Fv 60 2400 (upd (twT l (Qa l)).2 (twT l (Qa l)).1 (twW l (Qa l)) j).q∧Fv 60 2400 (upd (twT l (Qa l)).2 (twT l (Qa l)).1 (twW l (Qa l)) j).n∧Fr 60 2400 (upd (twT l (Qa l)).2 (twT l (Qa l)).1 (twW l (Qa l)) j).r:=λj hj=>by
   by_cases c:j=(twT l (Qa l)).1
   ·subst c;rw[QJ];exact hW
   ·rw[upd_ne c];exact h2 j qo
  exact⟨⟨by show Qa l<=5;omega,by show(twT l (Qa l)).1+1<=10;omega,λi hi=>(UT l i (by have:i < Qa l:=hi;omega)).1,λj hj=>(hT j hj).1⟩,λi hi=>(UT l i (by have:i < Qa l:=hi;omega)).2,λj hj=>(hT j hj).2⟩
 ·exact⟨⟨by show Qa l<=5;omega,by show(twT l (Qa l)).1<=10;omega,λi hi=>(UT l i (by have:i < Qa l:=hi;omega)).1,λj hj=>(h2 j hj).1⟩,λi hi=>(UT l i (by have:i < Qa l:=hi;omega)).2,λj hj=>(h2 j hj).2⟩
def GZ (l:List Int):(Ye l).ok:=by unfold Ye;split;exact slope_ok l;exact(tower_ok l).1
def GX (l:List Int):Fs 60 2400 (Ye l):=by unfold Ye;split;exact slope_fs l;exact(tower_ok l).2
end Bl
end
section
open W Go.RowKit
open Bl (Vc Bd Tc Sc)
def y_push0 {e:Env} {bx:List Ow} {F:List Fct} {ty:TypeId} {x:Operand} {m:QM} (hx:ev e x=some (qv m)):YO Tryz.prog (.build 83 #[(0,x)]) ty e bx F (vv (m,m00)):=YO.build (parts:=[(0,x)]) (.cons hx .nil) λ_=>by kernel_rfl
def has_p0 {F:List Fct} {m:QM} {a:Rat} (h:W.Has F (isQ (qv m) a)):W.Has F (fV (m,m00) ⟨a,0⟩):=λp hf=>⟨h p hf,Jy p hf⟩
end
section
open W Go.RowKit
open Bl (Vc Bd Tc Sc)
def IsTc (t:Tc):Qd:=λv B G=>∃ tm:ToM,v=tv tm t∧B=[]∧G=[fT tm t]
def IsScv (S:Sc):Qd:=λv B G=>∃ M:SM,v=.agg #[M.l,M.t]∧B=[]∧G=[fSl M S,fSt M S]
section
variable {e:Env} {bx bx':List Ow} {F:List Fct} {ty t el:TypeId} {x y z u r s:Operand} {v w:Value} {K:Qd} {tm:ToM} {tc:Tc} {bm:BM} {b:Bd} {v1 v2 v3:VM} {n1 n2 n3:QM} {A B:Int} {n m:Nat}
def GF (h1:ev e x=some (.int .i64 A)) (h2:ev e y=some (.int .i64 B)) (h3:ev e z=some (vv v1)) (h4:ev e u=some (vv v2)) (h5:ev e r=some (vv v3)) (h6:ev e s=some (qv n1)):YO Tryz.prog (.build 79 #[(0,x),(1,y),(2,z),(3,u),(4,r),(5,s)]) ty e bx F (tv ⟨v1,v2,v3,n1⟩ ⟨A,B,⟨0,0⟩,⟨0,0⟩,⟨0,0⟩,0⟩):=
 YO.build (parts:=[(0,x),(1,y),(2,z),(3,u),(4,r),(5,s)]) (.cons h1 (.cons h2 (.cons h3 (.cons h4 (.cons h5 (.cons h6 .nil)))))) λ_=>by kernel_rfl
def y_touch5 (h3:ev e z=some (vv v1)) (h4:ev e u=some (vv v2)) (h5:ev e r=some (vv v3)) (h6:ev e s=some (qv n1)):YO Tryz.prog (.build 79 #[(1,.const (.int .i64 (-1))),(2,z),(3,u),(4,r),(5,s)]) ty e bx F (tv ⟨v1,v2,v3,n1⟩ ⟨0,-1,⟨0,0⟩,⟨0,0⟩,⟨0,0⟩,0⟩):=
 YO.build (parts:=[(1,.const (.int .i64 (-1))),(2,z),(3,u),(4,r),(5,s)]) (.cons rfl (.cons h3 (.cons h4 (.cons h5 (.cons h6 .nil))))) λ_=>by kernel_rfl
def y_bodyX (h1:ev e x=some (vv v1)) (h2:ev e y=some (qv n1)) (h3:ev e z=some (qv n2)) (h4:ev e u=some (qv n3)):YO Tryz.prog (.build 88 #[(0,x),(1,y),(2,z),(3,u)]) ty e bx F (bv ⟨v1,n1,n2,n3⟩):=y_body h1 h2 h3 h4
def U1 (hx:ev e x=some v) (hy:ev e y=some w) (hv:KnS bx F v n) (hw:KnS bx F w m):YO Tryz.prog (.build 26 #[(0,x),(1,y)]) ty e bx F (.agg #[v,w]):=λk fr a w0 o h1 h2 h3 h4=>by
 obtain⟨a',c,rfl,_⟩:=(hv fr w0 h4).is;obtain⟨a'',c',rfl,_⟩:=(hw fr w0 h4).is;exact YO.build (parts:=[(0,x),(1,y)]) (us:=[.slice a' n c,.slice a'' m c']) (.cons hx (.cons hy .nil)) (λ_=>by kernel_rfl) k fr a w0 o h1 h2 h3 h4
def LO.bsB1 (hx:ev e x=some (bv bm)) (h:∀ v,K v (Ow.slice v 88 20 (bcs bm)::bx) F):LO Tryz.prog (.buildSlice 23 1 #[(0,x)]) ty e bx F K:=
 LO.buildSlice (el:=88) (sz:=20) (parts:=[(0,x)]) (us:=[bv bm]) (cs:=bcs bm) (.cons hx .nil) (λ_=>by kernel_rfl) rfl qd h
def LO.bsTr (hx:ev e x=some (tv tm tc)) (h:∀ v,K v (Ow.slice v 79 30 (tcs tm tc)::bx) F):LO Tryz.prog (.buildSlice 24 1 #[(0,x)]) ty e bx F K:=
 LO.buildSlice (el:=79) (sz:=30) (parts:=[(0,x)]) (us:=[tv tm tc]) (cs:=tcs tm tc) (.cons hx .nil) (λ_=>by kernel_rfl) rfl qd h
def KnS.o1B (h:Ow.slice v 88 20 (bcs bm)∈bx):KnS bx F v 1:=KnS.o h rfl qd
def KnS.o1T (h:Ow.slice v 79 30 (tcs tm tc)∈bx):KnS bx F v 1:=KnS.o h rfl qd
def y_arr {a b:Int}:YO Tryz.prog (.build 164 #[(0,.const (.int .i64 a)),(1,.const (.int .i64 b))]) ty e bx F (.agg #[.int .i64 a,.int .i64 b]):=YO.build (parts:=[(0,.const (.int .i64 a)),(1,.const (.int .i64 b))]) (.cons rfl (.cons rfl .nil)) λ_=>by kernel_rfl
def LO.bsN4 {a1 a2 b1 b2 c1 c2 d1 d2:Int} (hx:ev e x=some (.agg #[.int .i64 a1,.int .i64 a2])) (hy:ev e y=some (.agg #[.int .i64 b1,.int .i64 b2])) (hz:ev e z=some (.agg #[.int .i64 c1,.int .i64 c2])) (hu:ev e u=some (.agg #[.int .i64 d1,.int .i64 d2])) (h:∀ v,K v (Ow.slice v 164 2 (ints [a1,a2,b1,b2,c1,c2,d1,d2])::bx) F):LO Tryz.prog (.buildSlice 165 4 #[(0,x),(1,y),(2,z),(3,u)]) ty e bx F K:=
 LO.buildSlice (el:=164) (sz:=2) (parts:=[(0,x),(1,y),(2,z),(3,u)]) (us:=[.agg #[.int .i64 a1,.int .i64 a2],.agg #[.int .i64 b1,.int .i64 b2],.agg #[.int .i64 c1,.int .i64 c2],.agg #[.int .i64 d1,.int .i64 d2]]) (cs:=ints [a1,a2,b1,b2,c1,c2,d1,d2]) (.cons hx (.cons hy (.cons hz (.cons hu .nil)))) (λ_=>by kernel_rfl) rfl qd h
def sl_cells (k:Nat) (hk:k < 4):∀ i,i < 2->(ints [1,2,-1,3,1,1,-3,4])[k*2+i]?=[Value.int .i64 (Bl.slN k).1,Value.int .i64 (Bl.slN k).2][i]?:=λi hi=>by
 match k,hk,i,hi with
 |0,_,0,_=>rfl|0,_,1,_=>rfl|1,_,0,_=>rfl|1,_,1,_=>rfl|2,_,0,_=>rfl|2,_,1,_=>rfl|3,_,0,_=>rfl|3,_,1,_=>rfl
def sc_int:Qw Tryz.prog 3:=Qw.of kr
def YO.ldFi {tg g q:Nat} {cs:List Value} (hs:Qw Tryz.prog t) (hx:ev e x=some (.pointer (some ⟨g,q,none⟩))) (hb:Ow.cells g tg cs∈bx) (hq:cs[q]?=some v):YO Tryz.prog (.load t x) ty e bx F v:=YO.ldB hs hx hb hq
def LO.appBd {el':TypeId} {ms:Nat->BM} {xs:Nat->Bd} {bx2:Value->List Ow} (hx:ev e x=some v) (hy:ev e y=some w) (hu:Ow.slice w el' 20 (bcs bm)∈bx) (hm:Has F (fB bm (xs n))) (hs:∀ v',Sel bx (lO Qm v 88 n ms xs) (lO Qm v' 88 (n+1) (upd ms n bm) xs) (bx2 v')) (hl:n<=1000000) (h:∀ v',K v' (bx2 v') F) :
  LO Tryz.prog (.call {callee:=.builtin .append,args:=#[x,y],argTypes:=#[23,23]}) ty e bx F K:=
 LO.appG (S:=Qm) (c:=1) T.e23 hx hy hu (JQ (S:=Qm) (mm:=bm)) rfl (one_b hm) hs qd qd hl qd h
def LO.appTu {el':TypeId} {ms:Nat->ToM} {xs:Nat->Tc} {bx2:Value->List Ow} (hx:ev e x=some v) (hy:ev e y=some w) (hu:Ow.slice w el' 30 (tcs tm tc)∈bx) (hm:Has F (fT tm tc)) (hs:∀ v',Sel bx (lO Qb v 79 n ms xs) (lO Qb v' 79 (n+1) (upd ms n tm) (upd xs n tc)) (bx2 v')) (hl:n<=1000000) (h:∀ v',K v' (bx2 v') F) :
  LO Tryz.prog (.call {callee:=.builtin .append,args:=#[x,y],argTypes:=#[24,24]}) ty e bx F K:=
 LO.appL (S:=Qb) T.e24 hx hy hu (Vm hm) hs qd qd hl h
end
section
variable {P:Program} {e:Env} {bx:List Ow} {F:List Fct} {ty t:TypeId} {x:Operand} {M:Pm} {m gn i:Nat} {ln:Nat->Nat} {a:Nat->Nat->Rat} {b g:Nat->Rat}
def YO.ldPa (hs:Qw P t) (hx:ev e x=some (.pointer (some (eaddr M.lv (i*5+0))))) (h:W.Has F (fPg M m gn ln a b g)) (hi:i < m):YO P (.load t x) ty e bx F (M.av i):=by
 have h1:=YO.ldS (ty:=ty) (bx:=bx) hs hx h.pl (show i*5+0 < m*5 by omega)
 rwa [Vr _ _ _ (by decide:0 < 5)] at h1
def YO.ldPb (hs:Row P t 4) (hx:ev e x=some (.pointer (some (eaddr M.lv (i*5+1))))) (h:W.Has F (fPg M m gn ln a b g)) (hi:i < m):YO P (.load t x) ty e bx F (qv (M.mb i)):=
 YO.ldRS (us:=qcs (M.mb i)) hs hx h.pl qo rfl λk hk=>by
  rw[show i*5+1+k=i*5+(1+k) by omega,Vr _ _ _ qo];match k,hk with|0,_=>rfl|1,_=>rfl|2,_=>rfl|3,_=>rfl
end
namespace K
namespace Q
attribute [local irreducible] WC WL WD YO LO Qq W.Fin Qw Qu Qj Row QQ Qy KnS Has W.One Ql Qr
def goE {G G':Prop} (h:G') (s:Bx G'->G:=by
 intro h
 (first|(apply WL.Js;(first|(apply YO.KT;exact T.Hd;exact rfl)|(apply YO.KT;exact T.Un;exact rfl)|(apply YO.Yx;exact T.Hd;exact rfl;((try simp only[Nat.zero_add,Nat.mul_one,Nat.reduceAdd,Nat.reduceMul]);exact rfl))|(apply YO.Yx;exact T.Un;exact rfl;((try simp only[Nat.zero_add,Nat.mul_one,Nat.reduceAdd,Nat.reduceMul]);exact rfl)));exact rfl;exact rfl)|(apply WL.YN;(first|(apply YO.ldC;exact T.r26;exact rfl;exact meA;(repeat(first|exact Cut.done|apply Cut.take|apply Cut.drop)))|(apply YO.ldCk;exact T.r26;exact rfl;exact hmA;(repeat(first|exact Cut.done|apply Cut.take|apply Cut.drop)))|(apply YO.ldFi;exact sc_int;exact rfl;exact meA;exact rfl)|(apply YO.ldPa;(first|exact T.sc3|exact T.sc4|exact T.sc22|exact T.sc33|exact T.sc34|exact T.sc95|exact T.sc130|exact T.sc154|exact T.sc23|exact T.sc24|exact T.sc46|exact T.sc59|exact T.sc106|exact T.sc115);exact rfl;exact hmA;omega)|(apply YO.ldPb;(first|exact T.r36|exact T.r62|exact T.r64|exact T.K6|exact T.VT|exact T.r48|exact T.r50|exact T.r75|exact T.r79|exact T.r83|exact T.r88|exact T.Gb|exact T.r26|exact T.UX);exact rfl;exact hmA;omega));exact rfl;exact rfl)|(apply WL.Jt;(apply YO.ixNI;exact T.a164;exact rfl;exact rfl;omega;omega;((try simp only[Nat.zero_add,Nat.mul_one,Nat.reduceAdd,Nat.reduceMul]);exact rfl));exact rfl;exact rfl)|(apply WL.YA;(first|exact y_arr|(apply GF;exact rfl;exact rfl;exact rfl;exact rfl;exact rfl;exact rfl)|(apply y_touch5;exact rfl;exact rfl;exact rfl;exact rfl)|(apply y_bodyX;exact rfl;exact rfl;exact rfl;exact rfl)|(apply U1;exact rfl;exact rfl;exact knA;exact knA));exact rfl;exact rfl)|(apply WL.Jz;rotate_left;exact rfl;(first|(apply LO.YX;exact rfl;exact rfl;exact T.r26;exact seA;exact rfl;(repeat(first|exact QC.nil|(apply QC.cons;(apply One.sl;(first|(apply KnS.o1B;exact meA;done)|(apply KnS.o1T;exact meA;done)|exact knA))))))|(apply LO.YX;exact rfl;exact rfl;exact T.UX;exact seA;exact rfl;(repeat(first|exact QC.nil|(apply QC.cons;exact One.lit rfl rfl))))|fail))|(apply WD.Js;exact rfl;(first|(apply YO.KT;exact T.Hd;exact rfl)|(apply YO.KT;exact T.Un;exact rfl)|(apply YO.Yx;exact T.Hd;exact rfl;((try simp only[Nat.zero_add,Nat.mul_one,Nat.reduceAdd,Nat.reduceMul]);exact rfl))|(apply YO.Yx;exact T.Un;exact rfl;((try simp only[Nat.zero_add,Nat.mul_one,Nat.reduceAdd,Nat.reduceMul]);exact rfl)));exact rfl;exact rfl)|(apply WD.YN;exact rfl;(first|(apply YO.ldC;exact T.r26;exact rfl;exact meA;(repeat(first|exact Cut.done|apply Cut.take|apply Cut.drop)))|(apply YO.ldCk;exact T.r26;exact rfl;exact hmA;(repeat(first|exact Cut.done|apply Cut.take|apply Cut.drop)))|(apply YO.ldFi;exact sc_int;exact rfl;exact meA;exact rfl)|(apply YO.ldPa;(first|exact T.sc3|exact T.sc4|exact T.sc22|exact T.sc33|exact T.sc34|exact T.sc95|exact T.sc130|exact T.sc154|exact T.sc23|exact T.sc24|exact T.sc46|exact T.sc59|exact T.sc106|exact T.sc115);exact rfl;exact hmA;omega)|(apply YO.ldPb;(first|exact T.r36|exact T.r62|exact T.r64|exact T.K6|exact T.VT|exact T.r48|exact T.r50|exact T.r75|exact T.r79|exact T.r83|exact T.r88|exact T.Gb|exact T.r26|exact T.UX);exact rfl;exact hmA;omega));exact rfl;exact rfl)|(apply WD.Jt;exact rfl;(apply YO.ixNI;exact T.a164;exact rfl;exact rfl;omega;omega;((try simp only[Nat.zero_add,Nat.mul_one,Nat.reduceAdd,Nat.reduceMul]);exact rfl));exact rfl;exact rfl)|(apply WD.YA;exact rfl;(first|exact y_arr|(apply GF;exact rfl;exact rfl;exact rfl;exact rfl;exact rfl;exact rfl)|(apply y_touch5;exact rfl;exact rfl;exact rfl;exact rfl)|(apply y_bodyX;exact rfl;exact rfl;exact rfl;exact rfl)|(apply U1;exact rfl;exact rfl;exact knA;exact knA));exact rfl;exact rfl)|(apply WD.Jz;exact rfl;rotate_left;exact rfl;(first|(apply LO.YX;exact rfl;exact rfl;exact T.r26;exact seA;exact rfl;(repeat(first|exact QC.nil|(apply QC.cons;(apply One.sl;(first|(apply KnS.o1B;exact meA;done)|(apply KnS.o1T;exact meA;done)|exact knA))))))|(apply LO.YX;exact rfl;exact rfl;exact T.UX;exact seA;exact rfl;(repeat(first|exact QC.nil|(apply QC.cons;exact One.lit rfl rfl))))|fail);constructor;exact ltA)|((first|(apply LO.YX;exact rfl;exact rfl;exact T.r26;exact seA;exact rfl;(repeat(first|exact QC.nil|(apply QC.cons;(apply One.sl;(first|(apply KnS.o1B;exact meA;done)|(apply KnS.o1T;exact meA;done)|exact knA))))))|(apply LO.YX;exact rfl;exact rfl;exact T.UX;exact seA;exact rfl;(repeat(first|exact QC.nil|(apply QC.cons;exact One.lit rfl rfl))))|fail);constructor;exact ltA)|fail)
 exact Bx.h h):G:=s ⟨h⟩
def goEG {G G':Prop} (h:G') (s:Bx G'->G:=by
 intro h
 (first|(apply WL.Yh;rotate_left;exact rfl;exact rfl;apply LO.YF;(first|exact T.al26|exact T.al164|fail))|(apply WD.Yh;exact rfl;rotate_left;exact rfl;exact rfl;apply LO.YF;(first|exact T.al26|exact T.al164|fail);apply Qc;(intro _;exact ltA))|(apply LO.YF;(first|exact T.al26|exact T.al164|fail);apply Qc;(intro _;exact ltA))|fail)
 exact Bx.h h):G:=s ⟨h⟩
def goEV {G G':Prop} (h:G') (s:Bx G'->G:=by
 intro h
 (first|(apply WL.Jv;rotate_left;exact rfl;exact rfl;(first|(apply LO.Hq;exact rfl;exact rfl;exact hmA;(intro _;exact seA);omega;omega)|fail))|(apply WD.Jv;exact rfl;rotate_left;exact rfl;exact rfl;(first|(apply LO.Hq;exact rfl;exact rfl;exact hmA;(intro _;exact seA);omega;omega)|fail);apply Qc;(intro _;exact ltA))|((first|(apply LO.Hq;exact rfl;exact rfl;exact hmA;(intro _;exact seA);omega;omega)|fail);apply Qc;(intro _;exact ltA))|(apply WL.JU;rotate_left;exact rfl;exact rfl;(apply LO.bsB1;exact rfl))|(apply WD.JU;exact rfl;rotate_left;exact rfl;exact rfl;(apply LO.bsB1;exact rfl);apply Qc;(intro _;exact ltA))|((apply LO.bsB1;exact rfl);apply Qc;(intro _;exact ltA))|(apply WL.JU;rotate_left;exact rfl;exact rfl;(apply LO.bsTr;exact rfl))|(apply WD.JU;exact rfl;rotate_left;exact rfl;exact rfl;(apply LO.bsTr;exact rfl);apply Qc;(intro _;exact ltA))|((apply LO.bsTr;exact rfl);apply Qc;(intro _;exact ltA))|(apply WL.JU;rotate_left;exact rfl;exact rfl;(apply LO.bsN4;exact rfl;exact rfl;exact rfl;exact rfl))|(apply WD.JU;exact rfl;rotate_left;exact rfl;exact rfl;(apply LO.bsN4;exact rfl;exact rfl;exact rfl;exact rfl);apply Qc;(intro _;exact ltA))|((apply LO.bsN4;exact rfl;exact rfl;exact rfl;exact rfl);apply Qc;(intro _;exact ltA))|fail)
 exact Bx.h h):G:=s ⟨h⟩
end Q
end K
end
section
open W Go.RowKit
open Bl (Vc Bd Tc Sc)
def Uz {K:Nat} (hK:0 < K) {a b:Int} (ha:a.natAbs < 1000000000) (hb:b.natAbs < 1000000000):Sv K ⟨(a:Rat),(b:Rat)⟩:=⟨by show Sq K (a:Rat);rw[<-di1];exact GK K hK a ha,by show Sq K (b:Rat);rw[<-di1];exact GK K hK b hb⟩
def XD {a:Int} (h1:-100000<=a) (h2:a<=100000):a.natAbs < 1000000000000000000:=qo
def Fr.sq {D A:Nat} {q:Rat} (h:Fr D A q) (hD:D≠0) (h1:D < 1000000000) (h2:A < 1000000000):Sq 1 q:=by
 obtain⟨a,rfl,h3⟩:=h.mkr hD;refine di_num a D hD ?_ ?_
 ·by_cases c:a.natAbs=0
  ·rw[c,Ju];exact Nat.zero_le _
  ·rw[JH qo qo];exact Nat.le_refl _
 ·rw[JH qo h1];exact Nat.le_refl _
def Fv.sv {D A:Nat} {a:Vc} (h:Fv D A a) (hD:D≠0) (h1:D < 1000000000) (h2:A < 1000000000):Sv 1 a:=⟨h.1.sq hD h1 h2,h.2.sq hD h1 h2⟩
def Fs.ss {D A:Nat} {S:Sc} (h:Bl.Fs D A S) (hD:D≠0) (h1:D < 1000000000) (h2:A < 1000000000):Ss 1 S:=
 ⟨λi hi=>let ⟨a,b,c,d⟩:=h.B i hi;⟨a.sv hD h1 h2,b.sq hD h1 h2,c.sq hD h1 h2,d.sq hD h1 h2⟩,λj hj=>let ⟨a,b,c,d⟩:=h.T j hj;⟨a.sv hD h1 h2,b.sv hD h1 h2,c.sv hD h1 h2,d.sq hD h1 h2⟩⟩
namespace K
namespace Q
attribute [local irreducible] WC WL WD YO LO Qq W.Fin Qw Qu Qj Row QQ Qy KnS Has W.One Ql Qr
def d125 {G G':Prop} (h:G') (s:Bx G'->G:=by
 intro h;first|refine gF ?_|(apply WC.draw (id:=2) [0,1,2,3,4,5,6,7,9,10] (.h 0<|.h 1<|.h 2<|.h 3<|.h 4<|.h 5<|.h 6<|.h 7<|.h 9<|.l 8<|.h 10<|.l 11 .done) mixed kr)|fail
 exact Bx.h h):G:=s ⟨h⟩
def flat_c (A B h:Int) (n1 n2 nr:QM) (x y r:Rat) (hh:h.natAbs < 1000000000000000000):FnB Tryz.prog 125 [.int .i64 A,.int .i64 B,qv n1,qv n2,.int .i64 h,qv nr] [] [isQ (qv n1) x,isQ (qv n2) y,isQ (qv nr) r] (IsTc (Bl.tcF A B x y h r)):=by
 refine fO [(0,(.int .i64 A)),(1,(.int .i64 B)),(2,(qv n1)),(3,(qv n2)),(4,(.int .i64 h)),(5,(qv nr))] 27 Tryz.func125 Tryz.ntmps125 λh0=>?_;repeat'(first|intro(g:Nat)|refine d125 ?_|intro v)
 refine cW (Zn.rof h 1 hh qd) λn3=>?_;rw[di1];repeat'(first|intro(g:Nat)|refine d125 ?_|intro v)
 refine cW (Ya 0 1 qd qd) λv4=>?_;first|refine WD.fact (fT ⟨(n1,n3),(n2,n3),v4,nr⟩ (Bl.tcF A B x y h r)) (W.Has.tof (tm:=⟨(n1,n3),(n2,n3),v4,nr⟩) (t:=Bl.tcF A B x y h r) (W.Has.vof (m:=(n1,n3)) (a:=(Bl.tcF A B x y h r).p) hmA hmA) (W.Has.vof (m:=(n2,n3)) (a:=(Bl.tcF A B x y h r).q) hmA hmA) hmA hmA) ?_|skip
 repeat'(first|intro(g:Nat)|refine d125 ?_|intro v)
 refine WC.ret ?_;exact Fp [fT ⟨(n1,n3),(n2,n3),v4,nr⟩ (Bl.tcF A B x y h r)] (rcV T.r79) haA ⟨⟨(n1,n3),(n2,n3),v4,nr⟩,rfl,rfl,rfl⟩
end Q
end K
end
section
open W Go.RowKit
open Bl (Vc Bd Tc Sc)
namespace K
namespace Q
attribute [local irreducible] WC WL WD YO LO Qq W.Fin Qw Qu Qj Row QQ Qy KnS Has W.One Ql Qr
def d122 {G G':Prop} (h:G') (s:Bx G'->G:=by
 intro h;first|refine gE ?_|refine gY ?_|(apply WC.draw (id:=2) [0,1,2,3,8,13] (.h 0<|.h 1<|.h 2<|.h 3<|.h 8<|.m 4 (.m 5 (.m 6 (.m 7 (.l 9<|.l 10<|.l 11<|.l 12<|.h 13<|.l 14 .done) (.l 9<|.l 7<|.l 10<|.l 11<|.l 12<|.h 13<|.l 14 .done)) (.l 7<|.l 6<|.l 9<|.l 10<|.l 11<|.l 12<|.h 13<|.l 14 .done)) (.l 7<|.l 5<|.l 6<|.l 9<|.l 10<|.l 11<|.l 12<|.h 13<|.l 14 .done)) (.l 7<|.l 4<|.l 5<|.l 6<|.l 9<|.l 10<|.l 11<|.l 12<|.h 13<|.l 14 .done)) mixed kr)|fail
 exact Bx.h h):G:=s ⟨h⟩
def plain_c (m:VM) (c:Vc) (lv:Value) (l:List Int) (hl:∀ x∈l,I64 x):FnB Tryz.prog 122 [vv m,lv] [] [fV m c,sI lv l] (IsBdv (Bl.plB c l)):=by
 refine fO [(0,(vv m)),(1,lv)] 24 Tryz.func122 Tryz.ntmps122 λh0=>?_;have h5:=QA (l:=l) (i:=5) (m:=3) qd;have h6:=QA (l:=l) (i:=6) (m:=3) qd;have h7:=QA (l:=l) (i:=7) (m:=6) qd;have hst:=Bl.GY h7;have c6:=Z7 lv l 6 3 hl qd;have c7:=Z7 lv l 7 6 hl qd;have e7:((Bl.V4 (atP l 7 6):Int):Rat)=Rat.divInt (Bl.V4 (atP l 7 6)) 1:=(di1 _).symm;unfold Bl.plB;rw[e7];obtain⟨k7,hk7⟩:∃ k:Nat,atP l 7 6=(k:Int):=⟨(atP l 7 6).toNat,by omega⟩
 rw[hk7] at c7 h7 hst ⊢;have hp1:Sq 1 (Bl.Zx l):=(Fr.of (D:=2) (A:=4) qd qo).sq qd qd qd;have hp2:Sq 1 (Rat.divInt (atP l 6 3) 2):=(Fr.of (D:=2) (A:=2) qd qo).sq qd qd qd;repeat'(first|intro(g:Nat)|refine d122 ?_|refine gN ?_ ?_|intro v)
 refine cV (Z7 lv l 5 3 hl qd) ?_;repeat'(first|intro(g:Nat)|refine d122 ?_|refine gN ?_ ?_|intro v)
 refine cW (Zn.rof (2+atP l 5 3) 2 (XD qo qo) qd) λn1=>?_;repeat'(first|intro(g:Nat)|refine gP ?_|intro v)
 revert g;intro g5;have r6:=Zn.rof (atP l 6 3) 2 (XD qo qo) qd;have r7:=Zn.rof (Bl.V4 k7) 1 (XD qo qo) qd;have ra:=λm=>Zn.UZ n1 m (Bl.Zx l) (Rat.divInt (atP l 6 3) 2) (hp1.sm qd) (hp2.sm qd);unfold Bl.Zx at ra;repeat'(first|intro(g:Nat)|refine d122 ?_|refine gN ?_ ?_|refine cU (c6) ?_|refine cW (r6) λzm=>?_|refine cW (ra _) λzm=>?_|refine cU (c7) ?_|refine cW (r7) λzm=>?_|intro v)
 all_goals
  have hints:ints [40,40,40,9,5,2]=[.int .i64 40,.int .i64 40,.int .i64 40,.int .i64 9,.int .i64 5,.int .i64 2]:=rfl;rw[<-hints];refine WD.yl rfl (YO.ZP T.s22 rfl rfl (KnS.oI (el:=3) (l:=[40,40,40,9,5,2]) (by exact meA)) qo (by show(k7:Int) < 6;omega)) qr qr ?_;refine WD.yl rfl (YO.ZS T.sc3 (el:=3) (l:=[40,40,40,9,5,2]) rfl (by exact meA) (by show(k7:Int).toNat < 6;omega)) qr qr ?_;show WD _ _ _ _ _ _ _ ((21,.int .i64 (Bl.V4 k7))::_) _ _ _;repeat'(first|intro(g:Nat)|refine d122 ?_|refine gN ?_ ?_|refine cW (r7) λzm=>?_|intro v)
 all_goals
  rename_i z6 za
  refine WC.ret ?_;exact Fp [fB ⟨m,n1,za,zm⟩ ⟨c,Rat.divInt (2+atP l 5 3) 2,Rat.divInt (2+atP l 5 3) 2+Rat.divInt (atP l 6 3) 2,Rat.divInt (Bl.V4 k7) 1⟩] (rcV T.r88) (.cons (W.Has.bof (bm:=⟨m,n1,za,zm⟩) (b:=⟨c,Rat.divInt (2+atP l 5 3) 2,Rat.divInt (2+atP l 5 3) 2+Rat.divInt (atP l 6 3) 2,Rat.divInt (Bl.V4 k7) 1⟩) hmA hmA hmA hmA) .nil) ⟨⟨m,n1,za,zm⟩,rfl,rfl,rfl⟩
end Q
end K
end
section
open W Go.RowKit
open Bl (Vc Bd Tc Sc)
def Kq {bm:BM} {b:Bd}:bcs bm=QV Qm 1 (λ_=>bm) (λ_=>b):=JO (S:=Qm) (n:=0) (ms:=λ_=>bm) (xs:=λ_=>b)
def cells_T1 {tm:ToM} {t:Tc}:tcs tm t=QV Qb 1 (λ_=>tm) (λ_=>t):=JO (S:=Qb) (n:=0) (ms:=λ_=>tm) (xs:=λ_=>t)
def Kg {M α:Type} {S:Shp M α} {F:List Fct} {m:M} {x:α} (h:W.Has F (S.fc m x)):W.Has F (lM S 1 (λ_=>m) λ_=>x):=λp hf i _=>h p hf
namespace K
namespace Q
attribute [local irreducible] WC WL WD YO LO Qq W.Fin Qw Qu Qj Row QQ Qy KnS Has W.One Ql Qr
def d53 {G G':Prop} (h:G') (s:Bx G'->G:=by
 intro h;first|refine gE ?_|refine gY ?_|(apply WC.draw (id:=3) [0,1,2,3,4,5] (.h 0<|.h 1<|.h 2<|.h 3<|.h 4<|.h 5<|.m 6 (.m 7 (.l 8<|.l 9 .done) (.l 8<|.l 7<|.l 9 .done)) (.l 8<|.l 6<|.l 7<|.l 9 .done)) mixed kr)|(apply WC.draw (id:=5) [0,1,2,4,9] (.h 0<|.h 1<|.h 2<|.h 4<|.h 9<|.m 3 (.m 5 (.m 6 (.m 7 (.m 8 (.m 10 (.l 11<|.l 12 .done) (.l 11<|.l 10<|.l 12 .done)) (.l 11<|.l 8<|.l 10<|.l 12 .done)) (.l 11<|.l 7<|.l 8<|.l 10<|.l 12 .done)) (.l 11<|.l 6<|.l 7<|.l 8<|.l 10<|.l 12 .done)) (.l 11<|.l 5<|.l 6<|.l 7<|.l 8<|.l 10<|.l 12 .done)) (.l 11<|.l 3<|.l 5<|.l 6<|.l 7<|.l 8<|.l 10<|.l 12 .done)) mixed kr)|(apply WC.draw (id:=6) [0,2,3,4,5,6,7,9,12] (.h 0<|.h 2<|.h 3<|.h 4<|.h 5<|.h 6<|.h 7<|.h 9<|.m 1 (.l 8<|.l 10<|.l 11<|.h 12<|.l 13<|.l 14<|.l 15 .done) (.l 8<|.m 1 (.l 10<|.l 11<|.h 12<|.l 13<|.l 14<|.l 15 .done) (.l 10<|.m 1 (.l 11<|.h 12<|.l 13<|.l 14<|.l 15 .done) (.l 11<|.h 12<|.m 1 (.l 13<|.l 14<|.l 15 .done) (.l 13<|.l 1<|.l 14<|.l 15 .done))))) mixed kr)|fail
 exact Bx.h h):G:=s ⟨h⟩
def slope_c (lv:Value) (l:List Int) (hl:∀ x∈l,I64 x):FnB Tryz.prog 53 [lv] [] [sI lv l] (IsScv (Bl.K9 l)):=by
 refine fO [(0,lv)] 58 Tryz.func53 Tryz.ntmps53 λh0=>?_;have h1:=QA (l:=l) (i:=1) (m:=4) qd;have h2:=QA (l:=l) (i:=2) (m:=4) qd;have h3:=QA (l:=l) (i:=3) (m:=13) qd;have h4:=QA (l:=l) (i:=4) (m:=9) qd;have hn:=Bl.slN_lt h1;have hfs:=Bl.slope_fs l;obtain⟨k1,hk1⟩:∃ k:Nat,atP l 1 4=(k:Int):=⟨(atP l 1 4).toNat,by omega⟩
 have c1:=Z7 lv l 1 4 hl qd;rw[hk1] at c1 hn;have hk4:k1 < 4:=qo;have a1:((Bl.slN k1).1).natAbs<=4:=hn.2.1;have a2:((Bl.slN k1).2).natAbs<=4:=hn.2.2;have hT:Bl.slT l=⟨0,-1,Bl.slP l,Bl.slQ l,⟨((Bl.slN k1).1:Rat),((Bl.slN k1).2:Rat)⟩,Rat.divInt (atP l 4 9) 6⟩:=by unfold Bl.slT;rw[hk1]
 have hQ:Bl.slQ l=⟨(Bl.slP l).x+(((Bl.slN k1).2:Int):Rat),(Bl.slP l).y+((-(Bl.slN k1).1:Int):Rat)⟩:=by unfold Bl.slQ;rw[hk1]
 have hcl:=sl_cells k1 hk4;generalize (Bl.slN k1).1=N1 at *;generalize (Bl.slN k1).2=N2 at *;have hp1:Fv 1 4 (Bl.slP l):=⟨Fr.int _ qo,Fr.int _ qd⟩
 have hq1:Fv 1 8 (Bl.slQ l):=by rw[hQ];exact⟨(hp1.1.add (Fr.int (A:=4) _ a2)).up qd,(hp1.2.add (Fr.int (A:=4) _ qo)).up qd⟩
 have hd1:Fv 1 12 (Bl.Q4 (Bl.slQ l) (Bl.slP l)):=⟨(hq1.1.sub hp1.1).up qd,(hq1.2.sub hp1.2).up qd⟩
 have hx1:Fr 10 12 (Rat.divInt (atP l 3 13 - 1) 10):=Fr.of (D:=10) qd qo;have hdx:Fv 10 144 ⟨(Bl.Q4 (Bl.slQ l) (Bl.slP l)).x*Rat.divInt (atP l 3 13 - 1) 10,(Bl.Q4 (Bl.slQ l) (Bl.slP l)).y*Rat.divInt (atP l 3 13 - 1) 10⟩:=⟨hd1.1.mul hx1,hd1.2.mul hx1⟩
 have hpd:Fv 10 184 ⟨(Bl.slP l).x+(Bl.Q4 (Bl.slQ l) (Bl.slP l)).x*Rat.divInt (atP l 3 13 - 1) 10,(Bl.slP l).y+(Bl.Q4 (Bl.slQ l) (Bl.slP l)).y*Rat.divInt (atP l 3 13 - 1) 10⟩:=⟨((hp1.1.sc' (c:=10) (E:=10) (B:=40) rfl qd).add hdx.1).up qd,((hp1.2.sc' (c:=10) (E:=10) (B:=40) rfl qd).add hdx.2).up qd⟩
 have sp:=hp1.sv qd qd qd;have sq:=hq1.sv qd qd qd;have sd:=hd1.sv qd qd qd;have sx:=hx1.sq qd qd qd;have sdx:=hdx.sv qd qd qd;have spd:=hpd.sv qd qd qd;repeat'(first|intro(g:Nat)|refine d53 ?_|refine gN ?_ ?_|intro v)
 revert g;intro gg;refine cV (c1) ?_;refine WL.y (YO.ix T.s165 rfl rfl (KnS.o (el:=164) (sz:=2) (n:=4) (cs:=ints [1,2,-1,3,1,1,-3,4]) (by exact meA) rfl qd) hk4) qr qr ?_;refine WL.y (YO.ldRO (m:=2) (us:=[.int .i64 N1,.int .i64 N2]) (cs:=ints [1,2,-1,3,1,1,-3,4]) T.UX rfl (by exact meA) rfl hcl) qr qr ?_;repeat'(first|intro(g:Nat)|refine d53 ?_|refine gN ?_ ?_|intro v)
 revert g;intro g3;refine cV (Z7 lv l 2 4 hl qd) ?_;repeat'(first|intro(g:Nat)|refine d53 ?_|refine gN ?_ ?_|intro v)
 refine cW (Ya (atP l 2 4) 1 (XD qo qo) qd) λm4=>?_;rw[show(⟨((atP l 2 4:Int):Rat),((1:Int):Rat)⟩:Vc)=Bl.slP l from rfl];repeat'(first|intro(g:Nat)|refine gP ?_|intro v)
 revert g;intro g4;have v26:=Ya N2 (-N1) (XD qo qo) (XD qo qo);have v27:=λm=>XK m4 m (Bl.slP l) ⟨(N2:Rat),((-N1:Int):Rat)⟩ 1 qd sp (Uz qd qo qo);rw[<-hQ] at v27;refine WC.YJ (σ:=Nat×VM) (λs=>[(5,ptr s.1),(4,ptr g4),(3,ptr g3),(0,lv),(2,ptr gg)]) (λs=>[Ow.cells s.1 75 (vcs s.2),Ow.cells g4 75 (vcs m4),Ow.cells g3 164 [.int .i64 N1,.int .i64 N2],Ow.cells gg 26 [.slice none 0 0,.slice none 0 0]]) (λs=>[fV s.2 (Bl.slQ l),fV m4 (Bl.slP l),ge h0,sI lv l]) (λ_=>True) ?_ ?_
 ·repeat'(first|intro(g:Nat)|refine d53 ?_|refine gN ?_ ?_|refine cW (v26) λzm=>?_|refine cW (v27 _) λzm=>?_|intro v)
  all_goals(apply Ex2;refine⟨trivial,?_,?_,?_⟩;(focus(repeat(first|exact Sub.nil _|refine Sub.cons rfl ?_)));(focus(repeat(first|exact Q9.nil _|(apply Q9.cons;(repeat(first|exact Rem.head|apply Rem.tail))))));(focus(repeat(first|exact Qk.nil|(apply Qk.cons;exact hsA)))))
 rintro⟨g5,m5⟩ _;simp only;repeat'(first|intro(g:Nat)|refine gP ?_|intro v)
 refine cV (Z7 lv l 3 13 hl qd) ?_;repeat'(first|intro(g:Nat)|refine gP ?_|intro v)
 refine cW (Zn.rof (atP l 3 13 - 1) 10 (XD qo qo) qd) λn6=>?_;repeat'(first|intro(g:Nat)|refine gP ?_|intro v)
 revert g;intro g6;have c35:=rvsub_c m5 m4 (Bl.slQ l) (Bl.slP l) 1 qd sq sp;have c37:=λm=>rvscale_c m n6 (Bl.Q4 (Bl.slQ l) (Bl.slP l)) (Rat.divInt (atP l 3 13 - 1) 10) 1 qd sd sx;have c38:=λm=>XK m4 m (Bl.slP l) ⟨(Bl.Q4 (Bl.slQ l) (Bl.slP l)).x*Rat.divInt (atP l 3 13 - 1) 10,(Bl.Q4 (Bl.slQ l) (Bl.slP l)).y*Rat.divInt (atP l 3 13 - 1) 10⟩ 1 qd sp sdx;have c39:=Ya 0 1 qd qd;have c40:=λm m'=>XK m m' ⟨(Bl.slP l).x+(Bl.Q4 (Bl.slQ l) (Bl.slP l)).x*Rat.divInt (atP l 3 13 - 1) 10,(Bl.slP l).y+(Bl.Q4 (Bl.slQ l) (Bl.slP l)).y*Rat.divInt (atP l 3 13 - 1) 10⟩ ⟨((0:Int):Rat),((1:Int):Rat)⟩ 1 qd spd (Uz qd qd qd);have c42:=λm=>plain_c m (Bl.slC l) lv l hl;refine WC.YJ (σ:=Nat×BM) (λs=>[(7,ptr s.1),(5,ptr g5),(4,ptr g4),(3,ptr g3),(0,lv),(2,ptr gg)]) (λs=>[Ow.cells s.1 88 (bcs s.2),Ow.cells g5 75 (vcs m5),Ow.cells g4 75 (vcs m4),Ow.cells g3 164 [.int .i64 N1,.int .i64 N2],Ow.cells gg 26 [.slice none 0 0,.slice none 0 0]]) (λs=>[fB s.2 (Bl.plB (Bl.slC l) l),fV m5 (Bl.slQ l),fV m4 (Bl.slP l),ge h0,sI lv l]) (λ_=>True) ?_ ?_
 ·repeat'(first|intro(g:Nat)|refine d53 ?_|refine gN ?_ ?_|refine cW (c35) λzm=>?_|refine cW (c37 _) λzm=>?_|refine cW (c38 _) λzm=>?_|refine cW (c39) λzm=>?_|refine cW (c40 _ _) λzm=>?_|refine cW (c42 _) λzm=>?_|intro v)
  all_goals(apply Ex2;refine⟨trivial,?_,?_,?_⟩;(focus(repeat(first|exact Sub.nil _|refine Sub.cons rfl ?_)));(focus(repeat(first|exact Q9.nil _|(apply Q9.cons;(repeat(first|exact Rem.head|apply Rem.tail))))));(focus(repeat(first|exact Qk.nil|(apply Qk.cons;exact hsA)))))
 rintro⟨g7,m7⟩ _;simp only;repeat'(first|intro(g:Nat)|refine gP ?_|intro v)
 have c51:=Ya N1 N2 (XD qo qo) (XD qo qo);have c53:=Z7 lv l 4 9 hl qd;have c54:=Zn.rof (atP l 4 9) 6 (XD qo qo) qd;refine WC.YJ (σ:=Value×Value×VM×QM) (λs=>[(2,ptr gg)]) (λs=>[Ow.cells gg 26 [s.1,s.2.1],Ow.slice s.1 88 20 (bcs m7),Ow.slice s.2.1 79 30 (tcs ⟨m4,m5,s.2.2.1,s.2.2.2⟩ (Bl.slT l))]) (λs=>[fV s.2.2.1 ⟨(N1:Rat),(N2:Rat)⟩,isQ (qv s.2.2.2) (Rat.divInt (atP l 4 9) 6),fB m7 (Bl.plB (Bl.slC l) l),fV m5 (Bl.slQ l),fV m4 (Bl.slP l),ge h0]) (λ_=>True) ?_ ?_
 ·repeat'(first|intro(g:Nat)|refine d53 ?_|refine gN ?_ ?_|refine cW (c51) λzm=>?_|refine cU (c53) ?_|refine cW (c54) λzm=>?_|intro v)
  all_goals
   refine WD.yl rfl (U1 rfl rfl (KnS.o1B (bm:=m7) (by exact meA)) (KnS.o1T (by exact meA))) qr qr ?_;refine WD.l0 rfl rfl (LO.YX (us:=[_,_]) rfl rfl T.r26 (by repeat(first|exact Sel.head|apply Sel.tail)) qr (.cons (One.sl (KnS.o1B (bm:=m7) (by exact meA))) (.cons (One.sl (KnS.o1T (by exact meA))) .nil)) ?_);constructor
   ·left;kernel_rfl
   refine goD ?_
  all_goals(apply Ex4;refine⟨trivial,?_,?_,?_⟩;(focus(repeat(first|exact Sub.nil _|refine Sub.cons rfl ?_)));(focus(repeat(first|exact Q9.nil _|(apply Q9.cons;(repeat(first|exact Rem.head|apply Rem.tail))))));(focus(repeat(first|exact Qk.nil|(apply Qk.cons;exact hsA)))))
 rintro⟨bs,ts,mn,mr⟩ _;simp only;rw[Kq (bm:=m7) (b:=Bl.plB (Bl.slC l) l),cells_T1 (tm:=⟨m4,m5,mn,mr⟩) (t:=Bl.slT l)];refine WC.fact (fT ⟨m4,m5,mn,mr⟩ (Bl.slT l)) (by rw[hT];exact W.Has.tof (tm:=⟨m4,m5,mn,mr⟩) hmA hmA hmA hmA) ?_;refine WC.QB (S:=Qm) (v:=bs) (n:=1) (ms:=λ_=>m7) (xs:=λ_=>Bl.plB (Bl.slC l) l) (by repeat(first|exact Sel.head|apply Sel.tail)) (Kg (S:=Qm) (m:=m7) (x:=Bl.plB (Bl.slC l) l) hmA) ?_;refine WC.QB (S:=Qb) (v:=ts) (n:=1) (ms:=λ_=>⟨m4,m5,mn,mr⟩) (xs:=λ_=>Bl.slT l) (by repeat(first|exact Sel.head|apply Sel.tail)) (Kg (S:=Qb) (m:=⟨m4,m5,mn,mr⟩) (x:=Bl.slT l) hmA) ?_;refine WC.ret ?_;exact Fp [lF Qm bs 1 (λ_=>m7) (λ_=>Bl.plB (Bl.slC l) l),lF Qb ts 1 (λ_=>⟨m4,m5,mn,mr⟩) (λ_=>Bl.slT l)] (rcV T.r26) haA ⟨⟨bs,ts,λ_=>m7,λ_=>⟨m4,m5,mn,mr⟩⟩,rfl,rfl,rfl⟩
end Q
end K
end
end Go.Proofs.YtcpaopfdiahnnaaGreat
