/- Lemmas for a law. Conditions: none. -/
import Derived.Test.YtbnobghgnbockaaGreatZg26
import Derived.Test.YtbnobghgnbockaaGreatZg34
set_option linter.all false
set_option maxHeartbeats 32000000
set_option maxRecDepth 100000
namespace Go.Proofs.YtbnobghgnbockaaGreat
section
open Bl (Vc Bd Tc Sc)
namespace Bl
def ZQ(l:List Int):Rat:=Rat.divInt (2+atP l 5 3) 2
def Gq(k:Int):Int:=[40,40,40,9,5,2].getD k.toNat 0
def plB(c:Vc)(l:List Int):Bd:=⟨c,ZQ l,ZQ l+Rat.divInt (atP l 6 3) 2,(Gq (atP l 7 6):Rat)⟩
def slN(k:Int):Int×Int:=[(1,2),(-1,3),(1,1),(-3,4)].getD k.toNat (1,2)
def slP(l:List Int):Vc:=⟨(atP l 2 4:Rat),((1:Int):Rat)⟩
def slQ(l:List Int):Vc:=⟨(slP l).x+(((slN (atP l 1 4)).2:Int):Rat),(slP l).y+((-(slN (atP l 1 4)).1:Int):Rat)⟩
def slC(l:List Int):Vc:=⟨(slP l).x+(Jr (slQ l) (slP l)).x*Rat.divInt (atP l 3 13-1) 10+((0:Int):Rat),(slP l).y+(Jr (slQ l) (slP l)).y*Rat.divInt (atP l 3 13-1) 10+((1:Int):Rat)⟩
def slT(l:List Int):Tc:=⟨0,-1,slP l,slQ l,⟨((slN (atP l 1 4)).1:Rat),((slN (atP l 1 4)).2:Rat)⟩,Rat.divInt (atP l 4 9) 6⟩
def UL(l:List Int):Sc:=⟨1,1,λ_=>plB (slC l) l,λ_=>slT l⟩
def tcF(a b:Int)(x y:Rat)(h:Int)(r:Rat):Tc:=⟨a,b,⟨x,(h:Rat)⟩,⟨y,(h:Rat)⟩,⟨((0:Int):Rat),((1:Int):Rat)⟩,r⟩
def Ql(l:List Int):Nat:=[1,2,1,2,1,2,1,3].getD (atP l 1 8).toNat 1
def twR(l:List Int):Rat:=Rat.divInt (atP l 2 4) 3
def twL(l:List Int):Nat->Rat×Rat
 |0=>(((0:Int):Rat),((1+atP l 3 5:Int):Rat))
 |i+1=>((twL l i).1+Rat.divInt (atP l (8+2*(i:Int)) 7-2) 2,(twL l i).1+Rat.divInt (atP l (8+2*(i:Int)) 7-2) 2+((2+atP l (9+2*(i:Int)) 3:Int):Rat))
def twA(l:List Int)(i:Nat):Rat:=if(twL l (i+1)).1<(twL l i).1 then(twL l i).1 else(twL l (i+1)).1
def twB(l:List Int)(i:Nat):Rat:=if(twL l i).2<(twL l (i+1)).2 then(twL l i).2 else(twL l (i+1)).2
def tw0:Tc:=⟨0,-1,⟨0,0⟩,⟨0,0⟩,⟨0,0⟩,0⟩
def twT(l:List Int):Nat->Nat×(Nat->Tc)
 |0=>(0,λ_=>tw0)
 |i+1=>if twA l i<=twB l i then((twT l i).1+1,upd (twT l i).2 (twT l i).1 (tcF (i:Int) ((i:Int)-1) (twA l i) (twB l i) (i:Int) (twR l))) else twT l i
def twC(l:List Int)(i:Nat):Vc:=⟨((twL l (i+1)).1+(twL l (i+1)).2)*Rat.divInt 1 2,Rat.divInt (2*(i:Int)+1) 2⟩
def Xx(l:List Int)(i:Nat):Bd:=plB (twC l i) (l.drop i)
def twW(l:List Int)(n:Nat):Tc:=⟨(n:Int)-1,-1,⟨(twL l n).1,(((n:Int)-1:Int):Rat)⟩,⟨(twL l n).1+((0:Int):Rat),(((n:Int)-1:Int):Rat)+((1:Int):Rat)⟩,⟨((1:Int):Rat),((0:Int):Rat)⟩,twR l⟩
def XM(l:List Int):Sc:=if atP l 4 3=0 then⟨Ql l,(twT l (Ql l)).1+1,Xx l,upd (twT l (Ql l)).2 (twT l (Ql l)).1 (twW l (Ql l))⟩ else⟨Ql l,(twT l (Ql l)).1,Xx l,(twT l (Ql l)).2⟩
def QL(l:List Int):Sc:=if atP l 0 4=0 then UL l else XM l
def six{k:Int}(h:0<=k/\k<6):k=0\/k=1\/k=2\/k=3\/k=4\/k=5:=qo
def Dc{k:Int}(h:0<=k/\k<6):0<Gq k/\Gq k<=40:=by
 rcases six h with rfl|rfl|rfl|rfl|rfl|rfl<;>decide
def slN_lt{k:Int}(h:0<=k/\k<4):(slN k).1≠0/\(slN k).1.natAbs<=4/\(slN k).2.natAbs<=4:=by
 have:k=0\/k=1\/k=2\/k=3:=qo;rcases this with rfl|rfl|rfl|rfl<;>decide
def ZS(l:List Int):1<=Ql l/\Ql l<=3:=by
 unfold Ql;have h:=QC (l:=l) (i:=1) (m:=8) qd;generalize atP l 1 8=k at h;have:k=0\/k=1\/k=2\/k=3\/k=4\/k=5\/k=6\/k=7:=qo;rcases this with rfl|rfl|rfl|rfl|rfl|rfl|rfl|rfl<;>decide
def divpos{a b:Int}(ha:0<a)(hb:0<b):0<Rat.divInt a b:=by
 obtain⟨d,rfl⟩:=Int.eq_ofNat_of_zero_le (Int.le_of_lt hb);rw[Rat.divInt_ofNat,Rat.mkRat_eq_div,Rat.div_def];exact Rat.mul_pos (by exact_mod_cast ha) (Rat.inv_pos.2 (by exact_mod_cast hb))
def divnn{a b:Int}(ha:0<=a)(hb:0<b):0<=Rat.divInt a b:=by
 rcases Int.lt_or_eq_of_le ha with h|h
 .exact Rat.le_of_lt (divpos h hb)
 .rw[<-h,Rat.zero_divInt];exact Rat.le_refl
def plB_ok(c:Vc)(l:List Int):BdOk (plB c l):=by
 have h5:=QC (l:=l) (i:=5) (m:=3) qd;have h6:=QC (l:=l) (i:=6) (m:=3) qd;have h7:=Dc (QC (l:=l) (i:=7) (m:=6) qd);refine⟨divpos qo qd,?_,?_⟩
 .have:=divnn h6.1 (b:=2) qd;show ZQ l<=ZQ l+_;grind
 .show(0:Rat)<((Gq _:Int):Rat)
  exact_mod_cast h7.1
def plB_fr{c:Vc}{l:List Int}(hc:Fv 60 2400 c):Fv 60 2400 (plB c l).c/\Fr 60 2400 (plB c l).lo/\Fr 60 2400 (plB c l).hi/\Fr 60 2400 (plB c l).st:=by
 have h5:=QC (l:=l) (i:=5) (m:=3) qd;have h6:=QC (l:=l) (i:=6) (m:=3) qd;have h7:=Dc (QC (l:=l) (i:=7) (m:=6) qd);have hl:Fr 2 4 (ZQ l):=Fr.of (D:=2) qd qo;refine⟨hc,hl.sc' (c:=30) rfl qd,?_,?_⟩
 .exact(hl.add (Fr.of (D:=2) (A:=2) qd qo)).sc' (c:=30) rfl qd
 .exact(Fr.int (A:=40) _ qo).sc' (c:=60) rfl qd
def slope_ok(l:List Int):(UL l).ok:=by
 have hn:=slN_lt (QC (l:=l) (i:=1) (m:=4) qd);have h4:=QC (l:=l) (i:=4) (m:=9) qd;refine⟨by show 1<=5;decide,by show 1<=10;decide,λi _=>plB_ok _ _,λj _=>?_⟩;show YE 1 (slT l);refine⟨by show(0:Int)<=0;decide,by show(0:Int)<1;decide,by show(-1:Int)<=-1;decide,by show(-1:Int)<1;decide,by show(0:Int)≠-1;decide,divnn h4.1 qd,λh=>hn.1 ?_,?_⟩
 .have:=h.1;show(slN _).1=0;have e:(((slN (atP l 1 4)).1:Int):Rat)=0:=this
  exact_mod_cast e
 .show(((slN (atP l 1 4)).1:Int):Rat)*((slP l).x+(((slN (atP l 1 4)).2:Int):Rat)-(slP l).x)+(((slN (atP l 1 4)).2:Int):Rat)*((slP l).y+((-(slN (atP l 1 4)).1:Int):Rat)-(slP l).y)=0;rw[Rat.intCast_neg];grind
def slope_fs(l:List Int):Fs 60 2400 (UL l):=by
 have hn:=slN_lt (QC (l:=l) (i:=1) (m:=4) qd);have h2:=QC (l:=l) (i:=2) (m:=4) qd;have h3:=QC (l:=l) (i:=3) (m:=13) qd;have h4:=QC (l:=l) (i:=4) (m:=9) qd;have hp:Fv 1 4 (slP l):=⟨Fr.int _ qo,Fr.int _ qd⟩
 have hq:Fv 1 8 (slQ l):=⟨(hp.1.add (Fr.int (A:=4) _ hn.2.2)).up qd,(hp.2.add (Fr.int (A:=4) _ qo)).up qd⟩
 have hd:Fv 1 12 (Jr (slQ l) (slP l)):=⟨(hq.1.sub hp.1).up qd,(hq.2.sub hp.2).up qd⟩
 have hx:Fr 10 12 (Rat.divInt (atP l 3 13-1) 10):=Fr.of (D:=10) qd qo
 have hc:Fv 60 2400 (slC l):=by
  refine⟨?_,?_⟩
  .exact(((hp.1.sc' (c:=10) (E:=10) (B:=40) rfl qd).add (hd.1.mul hx)).add ((Fr.int (A:=0) 0 qd).sc' (c:=10) (E:=10) (B:=0) rfl qd)).sc' (c:=6) rfl qd
  .exact(((hp.2.sc' (c:=10) (E:=10) (B:=40) rfl qd).add (hd.2.mul hx)).add ((Fr.int (A:=1) 1 qd).sc' (c:=10) (E:=10) (B:=10) rfl qd)).sc' (c:=6) rfl qd
 refine⟨λi _=>plB_fr hc,λj _=>?_⟩;exact⟨⟨hp.1.sc' (c:=60) rfl qd,hp.2.sc' (c:=60) rfl qd⟩,⟨hq.1.sc' (c:=60) rfl qd,hq.2.sc' (c:=60) rfl qd⟩,⟨(Fr.int (A:=4) _ hn.2.1).sc' (c:=60) rfl qd,(Fr.int (A:=4) _ hn.2.2).sc' (c:=60) rfl qd⟩,(Fr.of (D:=6) (A:=8) qd qo).sc' (c:=10) rfl qd⟩
def XO(l:List Int):∀i,Fr 2 (4*i+10) (twL l i).1/\Fr 2 (4*i+10) (twL l i).2
 |0=>by
  have h:=QC (l:=l) (i:=3) (m:=5) qd;exact⟨(Fr.int (A:=0) 0 qd).sc' (c:=2) rfl qd,(Fr.int (A:=5) _ qo).sc' (c:=2) rfl qd⟩
 |i+1=>by
  have h:=QC (l:=l) (i:=8+2*(i:Int)) (m:=7) qd;have h2:=QC (l:=l) (i:=9+2*(i:Int)) (m:=3) qd
  have hl:∀k,Fr 2 (4*k) (twL l k).1:=λk=>by
   induction k with
   |zero=>exact(Fr.int (A:=0) 0 qd).sc' (c:=2) rfl qd
   |succ k ih=>
    have h:=QC (l:=l) (i:=8+2*(k:Int)) (m:=7) qd;exact(ih.add (Fr.of (D:=2) (A:=4) qd qo)).up qo
  have e:=(hl i).add (Fr.of (a:=atP l (8+2*(i:Int)) 7-2) (D:=2) (A:=4) qd qo);exact⟨e.up qo,(e.add ((Fr.int (A:=4) (2+atP l (9+2*(i:Int)) 3) qo).sc' (c:=2) (E:=2) (B:=8) rfl qd)).up qo⟩
def HC(l:List Int):∀i,i<=3->(twT l i).1<=i/\∀n,i<=n->∀j,j<(twT l i).1->YE n ((twT l i).2 j)/\Fv 60 2400 ((twT l i).2 j).p/\Fv 60 2400 ((twT l i).2 j).q/\Fv 60 2400 ((twT l i).2 j).n/\Fr 60 2400 ((twT l i).2 j).r
 |0,_=>⟨Nat.le_refl _,λn _ j hj=>absurd hj (Nat.not_lt_zero _)⟩
 |i+1,hi=>by
  obtain⟨h1,h2⟩:=HC l i qo;unfold twT;split
  .refine⟨by show(twT l i).1+1<=i+1;omega,λn hn j hj=>?_⟩;have hj:j<(twT l i).1+1:=hj;by_cases c:j=(twT l i).1
   .subst c;simp only[QU];have hr:=QC (l:=l) (i:=2) (m:=4) qd
    have hA:Fr 2 40 (twA l i):=by
     unfold twA;split
     .exact(XO l i).1.up qo
     .exact(XO l (i+1)).1.up qo
    have hB:Fr 2 40 (twB l i):=by
     unfold twB;split
     .exact(XO l i).2.up qo
     .exact(XO l (i+1)).2.up qo
    have hh:Fr 60 2400 (((i:Int):Int):Rat):=(Fr.int (A:=3) _ qo).sc' (c:=60) rfl qd;refine⟨⟨by show(0:Int)<=(i:Int);omega,by show(i:Int)<(n:Int);omega,by show(-1:Int)<=(i:Int)-1;omega,by show(i:Int)-1<(n:Int);omega,by show(i:Int)≠(i:Int)-1;omega,divnn hr.1 qd,λh=>absurd h.2 wq120,?_⟩,⟨hA.sc' (c:=30) rfl qd,hh⟩,⟨hB.sc' (c:=30) rfl qd,hh⟩,⟨(Fr.int (A:=1) _ qd).sc' (c:=60) rfl qd,(Fr.int (A:=1) _ qd).sc' (c:=60) rfl qd⟩,(Fr.of (D:=3) (A:=3) qd qo).sc' (c:=20) rfl qd⟩;show((0:Int):Rat)*(twB l i-twA l i)+((1:Int):Rat)*(((i:Int):Rat)-((i:Int):Rat))=0;grind
   .simp only[upd_ne c];exact h2 n qo j qo
  .exact⟨by omega,λn hn=>h2 n qo⟩
def VH(l:List Int)(i:Nat)(hi:i<3):BdOk (Xx l i)/\Fv 60 2400 (Xx l i).c/\Fr 60 2400 (Xx l i).lo/\Fr 60 2400 (Xx l i).hi/\Fr 60 2400 (Xx l i).st:=by
 have h:=XO l (i+1);have h1:Fr 2 1 (Rat.divInt 1 2):=Fr.of (D:=2) qd qd;exact⟨plB_ok _ _,plB_fr ⟨((h.1.add h.2).mul h1).sc' (c:=15) rfl qo,(Fr.of (D:=2) (A:=7) qd qo).sc' (c:=30) rfl qd⟩⟩
def tower_ok(l:List Int):(XM l).ok/\Fs 60 2400 (XM l):=by
 have hm:=ZS l;obtain⟨h1,h2⟩:=HC l (Ql l) hm.2;have h2:=h2 (Ql l) (Nat.le_refl _);unfold XM;split
 .have hr:=QC (l:=l) (i:=2) (m:=4) qd;have hL:=(XO l (Ql l)).1
  have hW:YE (Ql l) (twW l (Ql l))/\Fv 60 2400 (twW l (Ql l)).p/\Fv 60 2400 (twW l (Ql l)).q/\Fv 60 2400 (twW l (Ql l)).n/\Fr 60 2400 (twW l (Ql l)).r:=by
   have hL':Fr 60 900 (twL l (Ql l)).1:=hL.sc' (c:=30) rfl qo;have hh:Fr 60 180 ((((Ql l:Int)-1:Int)):Rat):=(Fr.int (A:=3) _ qo).sc' (c:=60) rfl qd;refine⟨⟨by show(0:Int)<=(Ql l:Int)-1;omega,by show(Ql l:Int)-1<_;omega,by show(-1:Int)<=-1;decide,by show(-1:Int)<_;omega,by show(Ql l:Int)-1≠-1;omega,divnn hr.1 qd,λh=>absurd h.1 wq120,?_⟩,⟨hL'.up qd,hh.up qd⟩,⟨(hL'.add (Fr.zero (A:=0))).up qd,(hh.add ((Fr.int (A:=1) 1 qd).sc' (c:=60) (E:=60) (B:=60) rfl qd)).up qd⟩,⟨(Fr.int (A:=1) _ qd).sc' (c:=60) rfl qd,(Fr.int (A:=1) _ qd).sc' (c:=60) rfl qd⟩,(Fr.of (D:=3) (A:=3) qd qo).sc' (c:=20) rfl qd⟩;show((1:Int):Rat)*((twL l (Ql l)).1+((0:Int):Rat)-(twL l (Ql l)).1)+((0:Int):Rat)*((((Ql l:Int)-1:Int):Rat)+((1:Int):Rat)-(((Ql l:Int)-1:Int):Rat))=0;grind
  have hT:∀j,j<(twT l (Ql l)).1+1->YE (Ql l) (upd (twT l (Ql l)).2 (twT l (Ql l)).1 (twW l (Ql l)) j)/\Fv 60 2400 (upd (twT l (Ql l)).2 (twT l (Ql l)).1 (twW l (Ql l)) j).p/\Fv 60 2400 (upd (twT l (Ql l)).2 (twT l (Ql l)).1 (twW l (Ql l)) j).q/\Fv 60 2400 (upd (twT l (Ql l)).2 (twT l (Ql l)).1 (twW l (Ql l)) j).n/\Fr 60 2400 (upd (twT l (Ql l)).2 (twT l (Ql l)).1 (twW l (Ql l)) j).r:=λj hj=>by
   by_cases c:j=(twT l (Ql l)).1
   .subst c;rw[QU];exact hW
   .rw[upd_ne c];exact h2 j qo
  exact⟨⟨by show Ql l<=5;omega,by show(twT l (Ql l)).1+1<=10;omega,λi hi=>(VH l i wq115).1,λj hj=>(hT j hj).1⟩,λi hi=>(VH l i wq115).2,λj hj=>(hT j hj).2⟩
 .exact⟨⟨by show Ql l<=5;omega,by show(twT l (Ql l)).1<=10;omega,λi hi=>(VH l i wq115).1,λj hj=>(h2 j hj).1⟩,λi hi=>(VH l i wq115).2,λj hj=>(h2 j hj).2⟩
def VY(l:List Int):(QL l).ok:=by unfold QL;split;exact slope_ok l;exact(tower_ok l).1
def Ua(l:List Int):Fs 60 2400 (QL l):=by unfold QL;split;exact slope_fs l;exact(tower_ok l).2
def Dd(l:List Int):1<=(QL l).n/\(QL l).n<=3/\(QL l).m<=4:=by
 have hm:=ZS l;have h1:=(HC l (Ql l) hm.2).1;unfold QL;split
 .exact⟨by show 1<=1;decide,by show 1<=3;decide,by show 1<=4;decide⟩
 .unfold XM;split
  .exact⟨hm.1,hm.2,by show(twT l (Ql l)).1+1<=4;omega⟩
  .exact⟨hm.1,hm.2,by show(twT l (Ql l)).1<=4;omega⟩
end Bl
end
namespace Fx
open Bl
def Q7(n:Nat)(B:Nat->Bd)(t0:Tc)(L:List Tc):Prop:=∀c,c<2^n->Sat (scL n B t0 L) c
end Fx
namespace Fx
open Bl
def some_below(l:List Int):∀j,j<(QL l).m->-1<=((QL l).T j).b/\((QL l).T j).b<((QL l).T j).a:=by
 have hT:∀i j,j<(twT l i).1->-1<=((twT l i).2 j).b/\((twT l i).2 j).b<((twT l i).2 j).a:=by
  intro i;induction i with
  |zero=>exact λj hj=>absurd hj (Nat.not_lt_zero _)
  |succ i ih=>
   intro j;unfold twT;split
   .intro hj;have hj:j<(twT l i).1+1:=hj;by_cases c:j=(twT l i).1
    .subst c;simp only[QU];show -1<=(i:Int)-1/\(i:Int)-1<(i:Int);omega
    .simp only[upd_ne c];exact ih j qo
   .exact ih j
 have hm:=ZS l;unfold QL;split
 .intro j _;show(-1:Int)<=-1/\(-1:Int)<0;decide
 .unfold XM;split
  .intro j hj;have hj:j<(twT l (Ql l)).1+1:=hj;by_cases c:j=(twT l (Ql l)).1
   .subst c;simp only[QU];show(-1:Int)<=-1/\(-1:Int)<(Ql l:Int)-1;omega
   .simp only[upd_ne c];exact hT _ j qo
  .exact hT _
def Zp(t:Tc):Tc:=⟨t.a,t.b,t.p,⟨Rat.divInt 1 2*(t.p.x+t.q.x),Rat.divInt 1 2*(t.p.y+t.q.y)⟩,t.n,t.r⟩
def Jn(l:List Int):Nat:=min 2 (QL l).n
def Yj(deal:List Int):Nat:=(1+atP deal 0 5/2).toNat
def YN(k:Nat)(t:Tc)(ps:List (List Tc)):List (List Tc):=ps.set k (ps.getD k []++[t])
def dealS(n K:Nat)(T:Nat->Tc)(deal:List Int):Nat->List Tc×List (List Tc)
 |0=>([],List.replicate K [])
 |i+1=>
  if(T i).a<(n:Int) then
   let k:=(atP deal (2*(i:Int)+1) ((K:Int)+1)).toNat
   let p:=if k=K then((dealS n K T deal i).1++[T i],(dealS n K T deal i).2) else((dealS n K T deal i).1,YN k (T i) (dealS n K T deal i).2)
   if i=0/\atP deal 2 3=0 then(p.1,YN (atP deal (2*(i:Int)+3) (K:Int)).toNat (Zp (T i)) p.2) else p
  else dealS n K T deal i
def JP(l deal:List Int):List Tc:=(dealS (Jn l) (Yj deal) (QL l).T deal (QL l).m).1
def Jo(l deal:List Int):List (List Tc):=(dealS (Jn l) (Yj deal) (QL l).T deal (QL l).m).2
def GC(deal:List Int):1<=Yj deal/\Yj deal<=3:=by
 have h:=QC (l:=deal) (i:=0) (m:=5) qd;unfold Yj;omega
def ZF(l:List Int):1<=Jn l/\Jn l<=2:=by
 have h:=Dd l;unfold Jn;omega
def Gv(k:Nat)(t:Tc)(ps:List (List Tc)):(YN k t ps).length=ps.length:=by unfold YN;rw[List.length_set]
def ZE{P:Tc->Prop}{k:Nat}{t:Tc}{ps:List (List Tc)}(ht:P t)(h:∀p∈ps,∀x∈p,P x):∀p∈YN k t ps,∀x∈p,P x:=by
 intro p hp x hx;rcases List.mem_or_eq_of_mem_set hp with h1|h1
 .exact h p h1 x hx
 .subst h1;rcases List.mem_append.1 hx with h2|h2
  .rw[List.getD_eq_getElem?_getD] at h2;cases e:ps[k]? with
   |none=>rw[e] at h2;cases h2
   |some q=>rw[e] at h2;exact h q (List.mem_of_getElem? e) x h2
  .rw[List.mem_singleton] at h2;subst h2;exact ht
section
variable {n K:Nat}{T:Nat->Tc}{deal:List Int}
def KB:∀i,(dealS n K T deal i).2.length=K
 |0=>List.length_replicate
 |i+1=>by
  have ih:=KB i;unfold dealS;split
  .dsimp only;split<;>split<;>simp only[Gv,ih]
  .exact ih
def deal_all{P:Tc->Prop}:∀i,(∀j,j<i->(T j).a<(n:Int)->P (T j)/\P (Zp (T j)))->(∀x∈(dealS n K T deal i).1,P x)/\∀p∈(dealS n K T deal i).2,∀x∈p,P x
 |0,_=>⟨λx hx=>(List.not_mem_nil hx).elim,λp hp x hx=>(List.not_mem_nil ((List.mem_replicate.1 hp).2 ▸ hx)).elim⟩
 |i+1,h=>by
  obtain⟨h1,h2⟩:=deal_all i (λj hj=>h j qo);unfold dealS;split
  case isTrue c=>
   obtain⟨h3,h4⟩:=h i qo c;dsimp only
   have h5:∀x∈(dealS n K T deal i).1++[T i],P x:=λx hx=>by
    rcases List.mem_append.1 hx with a|a
    .exact h1 x a
    .rw[List.mem_singleton] at a;subst a;exact h3
   split<;>split
   .exact⟨h5,ZE h4 h2⟩
   .exact⟨h1,ZE h4 (ZE h3 h2)⟩
   .exact⟨h5,h2⟩
   .exact⟨h1,ZE h3 h2⟩
  .exact⟨h1,h2⟩
end
def half_ok{n:Nat}{t:Tc}(h:YE n t):YE n (Zp t):=by
 obtain⟨h1,h2,h3,h4,h5,h6,h7,h8⟩:=h;refine⟨h1,h2,h3,h4,h5,h6,h7,?_⟩;show t.n.x*(Rat.divInt 1 2*(t.p.x+t.q.x)-t.p.x)+t.n.y*(Rat.divInt 1 2*(t.p.y+t.q.y)-t.p.y)=0;have e:Rat.divInt 1 2*2=1:=by decide +kernel
 generalize Rat.divInt 1 2=d at *;grind
def TcF(D A:Nat)(t:Tc):Prop:=Fv D A t.p/\Fv D A t.q/\Fv D A t.n/\Fr D A t.r
def half_fr{D A:Nat}{t:Tc}(h:TcF D A t):TcF (D*2) (A*2) t/\TcF (D*2) (A*2) (Zp t):=by
 obtain⟨h1,h2,h3,h4⟩:=h
 have g:∀{p q:Rat},Fr D A p->Fr D A q->Fr (D*2) (A*2) (Rat.divInt 1 2*(p+q)):=λ{p q} hp hq=>by
  have:=(Fr.of (a:=1) (A:=1) (D:=2) qd qd).mul (hp.add hq);rw[Nat.mul_comm D 2];exact this.up qo
 have s:∀{v:Vc},Fv D A v->Fv (D*2) (A*2) v:=λhv=>⟨hv.1.sc 2,hv.2.sc 2⟩
 exact⟨⟨s h1,s h2,s h3,h4.sc 2⟩,s h1,⟨g h1.1 h2.1,g h1.2 h2.2⟩,s h3,h4.sc 2⟩
def KF(l deal:List Int):(∀x∈JP l deal,YE (Jn l) x/\TcF 120 4800 x)/\∀p∈Jo l deal,∀x∈p,YE (Jn l) x/\TcF 120 4800 x:=by
 refine deal_all (P:=λx=>YE (Jn l) x/\TcF 120 4800 x) _ λj hj ha=>?_;have h1:=(VY l).T j hj;have h2:TcF 60 2400 ((QL l).T j):=(Ua l).T j hj;have h3:=some_below l j hj
 have h4:YE (Jn l) ((QL l).T j):=by
  obtain⟨a,b,c,d,e⟩:=h1;exact⟨a,ha,c,by omega,e⟩
 have h5:=half_fr h2;exact⟨⟨h4,h5.1⟩,half_ok h4,h5.2⟩
def caseP_len(l deal:List Int):(Jo l deal).length=Yj deal:=KB _
end Fx
namespace Fx
open Bl
def Ans(C:List (List Int))(P:List Int->Prop):Option Nat->Prop
 |some i=>Jf C P i
 |none=>U8 C P
section
variable {n:Nat}{B:Nat->Bd}{t0:Tc}{t p:List Tc}{ps:List (List Tc)}{m:Int}{a b:Option Nat}
def StP(n:Nat)(B:Nat->Bd)(t0:Tc)(t:List Tc)(ps:List (List Tc))(s:List Int):Prop:=Q7 n B t0 (Qe t ps s)
end
end Fx
namespace Fx
open Bl
def YF{P:Tc->Prop}{t:List Tc}{ps:List (List Tc)}(h1:∀x∈t,P x)(h2:∀p∈ps,∀x∈p,P x)(s:List Int):∀x∈Qe t ps s,P x:=by
 intro x hx;rcases List.mem_append.1 hx with h|h
 .exact h1 x h
 .obtain⟨k,_,h⟩:=List.mem_flatMap.1 h;rw[List.getD_eq_getElem?_getD] at h;cases e:ps[k.toNat]? with
  |none=>rw[e] at h;exact(List.not_mem_nil h).elim
  |some q=>rw[e] at h;exact h2 q (List.mem_of_getElem? e) x h
def BdF(D A:Nat)(b:Bd):Prop:=Fv D A b.c/\Fr D A b.lo/\Fr D A b.hi/\Fr D A b.st
section
variable {n:Nat}{B:Nat->Bd}{t0:Tc}{L:List Tc}
def V9{P:Tc->Prop}(h:∀x∈L,P x):∀j,j<L.length->P (L.getD j t0):=by
 intro j hj;rw[List.getD_eq_getElem?_getD,List.getElem?_eq_getElem hj];exact h _ (List.getElem_mem hj)
def Dy(hn:n<=5)(hL:L.length<=10)(hB:∀i,i<n->BdOk (B i))(hT:∀x∈L,YE n x):(scL n B t0 L).ok:=⟨hn,hL,hB,V9 hT⟩
def HV{D A:Nat}(hB:∀i,i<n->BdF D A (B i))(hT:∀x∈L,TcF D A x):Fs D A (scL n B t0 L):=⟨hB,V9 hT⟩
end
def Za{t:List Tc}{ps:List (List Tc)}{m:Int}{s:List Int}(h:s∈Qc t ps m):(Qe t ps s).length<=10:=by
 have:=(List.mem_filter.1 h).2;exact of_decide_eq_true this
end Fx
namespace Fx
open Bl X
def Q6(a b:Int):Tc:=⟨0,-1,⟨Rat.divInt a 2,0⟩,⟨Rat.divInt b 2,0⟩,⟨((0:Int):Rat),((1:Int):Rat)⟩,0⟩
def exB:Bd:=⟨⟨((1:Int):Rat),((1:Int):Rat)⟩,Rat.divInt 1 1,Rat.divInt 2 1,Rat.divInt 10 1⟩
structure ExS(S:Sc):Prop where
 n:S.n=1
 B:S.B 0=exB
 T:∀j,j<S.m->∃a b,S.T j=Q6 a b
def ex_frc(a b:Int)(u v:Rat):on (Q6 a b) 0 (frc (Q6 a b) u v)=⟨-v,u⟩:=by
 have e:on (Q6 a b) 0 (frc (Q6 a b) u v)=frc (Q6 a b) u v:=if_pos rfl;rw[e];show Vc.mk (u*((0:Int):Rat)-v*((1:Int):Rat)) (u*((1:Int):Rat)+v*((0:Int):Rat))=_;have c0:((0:Int):Rat)=0:=rfl;have c1:((1:Int):Rat)=1:=rfl;rw[c0,c1,Vc.mk.injEq];constructor<;>grind
def Vl{S:Sc}(h:ExS S){w u v:Nat->Rat}:Bal S w u v↔(∀k,k<2*S.m->0<=u k/\v k=0)/\sm (2*S.m) u=w 0/\sm (2*S.m) (λk=>((S.at k).x-1)*u k)=0/\sm (2*S.m) u<=10:=by
 have c1:((1:Int):Rat)=1:=rfl;have d10:Rat.divInt 10 1=10:=by decide +kernel
 have hr:∀k,k<2*S.m->(S.T (k/2)).r=0:=λk hk=>by
  obtain⟨a,b,e⟩:=h.T (k/2) qo;rw[e];rfl
 have hv:(∀k,k<2*S.m->0<=u k/\v k<=(S.T (k/2)).r*u k/\-v k<=(S.T (k/2)).r*u k)↔∀k,k<2*S.m->0<=u k/\v k=0:=by
  constructor
  .intro g k hk;have:=g k hk;rw[hr k hk] at this;refine⟨this.1,?_⟩;grind
  .intro g k hk;have:=g k hk;rw[hr k hk];refine⟨this.1,by grind,by grind⟩
 unfold Bal;rw[hv,h.n];refine and_congr_right λg=>?_
 have e1:sm (2*S.m) (λk=>(on (S.T (k/2)) 0 (frc (S.T (k/2)) (u k) (v k))).x)=sm (2*S.m) λ_=>0:=Qd λk hk=>by
  obtain⟨a,b,e⟩:=h.T (k/2) qo;rw[e,ex_frc,(g k hk).2];grind
 have e2:sm (2*S.m) (λk=>(on (S.T (k/2)) 0 (frc (S.T (k/2)) (u k) (v k))).y)=sm (2*S.m) u:=Qd λk hk=>by
  obtain⟨a,b,e⟩:=h.T (k/2) qo;rw[e,ex_frc]
 have e3:sm (2*S.m) (λk=>JF (Jr (S.at k) (S.B 0).c) (on (S.T (k/2)) 0 (frc (S.T (k/2)) (u k) (v k))))=sm (2*S.m) λk=>((S.at k).x-1)*u k:=Qd λk hk=>by
  obtain⟨a,b,e⟩:=h.T (k/2) qo;rw[e,ex_frc,(g k hk).2,h.B];show((S.at k).x-((1:Int):Rat))*u k-((S.at k).y-((1:Int):Rat))* -0=_;rw[c1];grind
 have e4:sm (2*S.m) (λk=>if tch (S.T (k/2)) 0 then spn (S.T (k/2)).n*u k else 0)=sm (2*S.m) u:=Qd λk hk=>by
  obtain⟨a,b,e⟩:=h.T (k/2) qo;rw[e,if_pos (show tch (Q6 a b) 0 from .inl rfl)]
  have:spn (Q6 a b).n=1:=by
   show spn ⟨((0:Int):Rat),((1:Int):Rat)⟩=1;decide +kernel
  rw[this];grind
 have z:∀n,sm n (λ_=>(0:Rat))=0:=λn=>by
  induction n with
  |zero=>rfl
  |succ n ih=>show sm n _+0=0;rw[ih];grind
 have hst:(S.B 0).st=10:=by rw[h.B];exact d10
 constructor
 .intro q;obtain⟨a,b,c,d⟩:=q 0 qd;rw[e2] at b;rw[e3] at c;rw[e4,hst] at d;exact⟨b,c,d⟩
 .rintro⟨b,c,d⟩ i hi;obtain rfl:i=0:=qo;rw[e1,e2,e3,e4,hst,z];exact⟨rfl,b,c,d⟩
def exC(L:List Tc):Sc:=scL 1 (λ_=>exB) (Q6 0 0) L
def Fe{L:List Tc}(h:∀x∈L,∃a b,x=Q6 a b):ExS (exC L):=⟨rfl,rfl,V9 h⟩
def Fb(L:List Tc)(c:Nat):(exC L).wt c 0=1\/(exC L).wt c 0=2:=by
 have d1:Rat.divInt 1 1=1:=by decide +kernel
 have d2:Rat.divInt 2 1=2:=by decide +kernel
 unfold Sc.wt;split
 .exact .inr d2
 .exact .inl d1
def sup1(a b:Int):∀x∈[Q6 a b],∃a b,x=Q6 a b:=λx hx=>⟨a,b,List.mem_singleton.1 hx⟩
def Fl:¬Q7 1 (λ_=>exB) (Q6 0 0) []:=λh=>by
 obtain⟨x,hx⟩:=h 0 qd;have h2:=((Vl (Fe (L:=[]) λx hx=>(List.not_mem_nil hx).elim)).1 (YQ.1 hx)).2.1;have h3:(0:Rat)=(exC []).wt 0 0:=h2;rcases Fb [] 0 with e|e<;>rw[e] at h3<;>exact absurd h3 qd
def sm2(f:Nat->Rat):sm (2*1) f=f 0+f 1:=by show 0+f 0+f 1=_;rw[Rat.zero_add]
def sm4(f:Nat->Rat):sm (2*2) f=f 0+f 1+f 2+f 3:=by show 0+f 0+f 1+f 2+f 3=_;rw[Rat.zero_add]
def UB{a b:Int}(h:(a<2/\b<2)\/(2<a/\2<b)):¬Q7 1 (λ_=>exB) (Q6 0 0) [Q6 a b]:=λhs=>by
 obtain⟨x,hx⟩:=hs 0 qd;obtain⟨h1,h2,h3,h4⟩:=(Vl (Fe (sup1 a b))).1 (YQ.1 hx);have a0:=(h1 0 (by show 0<2*1;decide)).1;have a1:=(h1 1 (by show 1<2*1;decide)).1;have h2:sm (2*1) (λk=>x (2*k))=_:=h2;have h3:sm (2*1) (λk=>_*x (2*k))=0:=h3;rw[sm2] at h2 h3;have h3:(Rat.divInt a 2-1)*x (2*0)+(Rat.divInt b 2-1)*x (2*1)=0:=h3
 have ha:Rat.divInt a 2*2=(a:Rat):=by
  rw[Rat.divInt_eq_div,Rat.div_def,Rat.mul_assoc];have:((2:Int):Rat)⁻¹*2=1:=by decide +kernel
  rw[this,Rat.mul_one]
 have hb:Rat.divInt b 2*2=(b:Rat):=by
  rw[Rat.divInt_eq_div,Rat.div_def,Rat.mul_assoc];have:((2:Int):Rat)⁻¹*2=1:=by decide +kernel
  rw[this,Rat.mul_one]
 have hw:0<x (2*0)+x (2*1):=by
  rcases Fb [Q6 a b] 0 with e|e
  .have h2:_=(1:Rat):=h2.trans e;rw[h2];decide
  .have h2:_=(2:Rat):=h2.trans e;rw[h2];decide
 generalize x (2*0)=p at *;generalize x (2*1)=q at *;generalize Rat.divInt a 2=A at *;generalize Rat.divInt b 2=B at *;rcases h with ⟨h5,h6⟩|⟨h5,h6⟩
 .have i1:A<1:=by
   have:(a:Rat)<((2:Int):Rat):=by exact_mod_cast h5
   have c2:((2:Int):Rat)=2:=rfl;rw[c2] at this;grind
  have i2:B<1:=by
   have:(b:Rat)<((2:Int):Rat):=by exact_mod_cast h6
   have c2:((2:Int):Rat)=2:=rfl;rw[c2] at this;grind
  have j1:0<=(1-A)*p:=Rat.mul_nonneg (by grind) a0;have j2:0<=(1-B)*q:=Rat.mul_nonneg (by grind) a1;rcases(Rat.le_iff_lt_or_eq ..).1 a0 with c|c
  .have:=Rat.mul_pos (show 0<1-A by grind) c;grind
  .have:=Rat.mul_pos (show 0<1-B by grind) (show 0<q by grind);grind
 .have i1:1<A:=by
   have:((2:Int):Rat)<(a:Rat):=by exact_mod_cast h5
   have c2:((2:Int):Rat)=2:=rfl;rw[c2] at this;grind
  have i2:1<B:=by
   have:((2:Int):Rat)<(b:Rat):=by exact_mod_cast h6
   have c2:((2:Int):Rat)=2:=rfl;rw[c2] at this;grind
  have j1:0<=(A-1)*p:=Rat.mul_nonneg (by grind) a0;have j2:0<=(B-1)*q:=Rat.mul_nonneg (by grind) a1;rcases(Rat.le_iff_lt_or_eq ..).1 a0 with c|c
  .have:=Rat.mul_pos (show 0<A-1 by grind) c;grind
  .have:=Rat.mul_pos (show 0<B-1 by grind) (show 0<q by grind);grind
def ex_mid:Q7 1 (λ_=>exB) (Q6 0 0) [Q6 1 3]:=λc _=>by
 have hw:=Fb [Q6 1 3] c;generalize hq:(exC [Q6 1 3]).wt c 0=w at hw;refine⟨λj=>if j%2=0 then Rat.divInt 1 2*w else 0,YQ.2 ((Vl (Fe (sup1 1 3))).2 ⟨λk _=>?_,?_,?_,?_⟩)⟩
 .rw[if_pos qo,if_neg qo];rcases hw with rfl|rfl<;>exact⟨by decide +kernel,rfl⟩
 .show sm (2*1) _=(exC [Q6 1 3]).wt c 0;rw[sm2,hq];rcases hw with rfl|rfl<;>decide +kernel
 .show sm (2*1) _=0;rw[sm2];show(Rat.divInt 1 2-1)*(Rat.divInt 1 2*w)+(Rat.divInt 3 2-1)*(Rat.divInt 1 2*w)=0;rcases hw with rfl|rfl<;>decide +kernel
 .show sm (2*1) _<=10;rw[sm2];rcases hw with rfl|rfl<;>decide +kernel
def ex_two:Q7 1 (λ_=>exB) (Q6 0 0) [Q6 0 1,Q6 3 4]:=λc _=>by
 have hw:=Fb [Q6 0 1,Q6 3 4] c
 have hs:∀x∈[Q6 0 1,Q6 3 4],∃a b,x=Q6 a b:=λx hx=>by
  rcases List.mem_cons.1 hx with e|hx
  .exact⟨0,1,e⟩
  .exact⟨3,4,List.mem_singleton.1 hx⟩
 generalize hq:(exC [Q6 0 1,Q6 3 4]).wt c 0=w at hw;refine⟨λj=>if j=0\/j=6 then Rat.divInt 1 2*w else 0,YQ.2 ((Vl (Fe hs)).2 ⟨λk _=>⟨?_,if_neg qo⟩,?_,?_,?_⟩)⟩
 .show 0<=if 2*k=0\/2*k=6 then _ else _;split
  .rcases hw with rfl|rfl<;>decide +kernel
  .decide
 .show sm (2*2) _=(exC [Q6 0 1,Q6 3 4]).wt c 0;rw[sm4,hq];rcases hw with rfl|rfl<;>decide +kernel
 .show sm (2*2) _=0;rw[sm4];show(Rat.divInt 0 2-1)*(Rat.divInt 1 2*w)+(Rat.divInt 1 2-1)*0+(Rat.divInt 3 2-1)*0+(Rat.divInt 4 2-1)*(Rat.divInt 1 2*w)=0;rcases hw with rfl|rfl<;>decide +kernel
 .show sm (2*2) _<=10;rw[sm4];rcases hw with rfl|rfl<;>decide +kernel
def exP:List (List Tc):=[[Q6 0 1],[Q6 3 4],[Q6 1 3]]
def Z1:List (List Tc):=[[Q6 0 1],[Q6 3 4]]
def Y6:Qc [] exP 2=[[],[0],[1],[2],[0,1],[0,2],[1,2]]/\Qc [] Z1 2=[[],[0],[1],[0,1]]/\Qc [] Z1 1=[[],[0],[1]]/\QO 3 2=[[],[0],[1],[2],[0,1],[0,2],[1,2]]:=by
 have h1:QO 3 2=[[],[0],[1],[2],[0,1],[0,2],[1,2]]:=by decide +kernel
 have h2:QO 2 2=[[],[0],[1],[0,1]]:=by decide +kernel
 have h3:QO 2 1=[[],[0],[1]]:=by decide +kernel
 refine⟨?_,?_,?_,h1⟩
 .show(QO 3 2).filter _=_;rw[h1];rfl
 .show(QO 2 2).filter _=_;rw[h2];rfl
 .show(QO 2 1).filter _=_;rw[h3];rfl
def UE:Ans (Qc [] exP 2) (StP 1 (λ_=>exB) (Q6 0 0) [] exP) (some 3)/\Ans (Qc [] Z1 2) (StP 1 (λ_=>exB) (Q6 0 0) [] Z1) (some 3)/\Ans (Qc [] Z1 1) (StP 1 (λ_=>exB) (Q6 0 0) [] Z1) none:=by
 obtain⟨h1,h2,h3,_⟩:=Y6;rw[h1,h2,h3];have three:∀j,j<3->j=0\/j=1\/j=2:=λj h=>by omega
 refine⟨⟨by decide,ex_mid,λj hj=>?_⟩,⟨by decide,ex_two,λj hj=>?_⟩,λj hj=>?_⟩
 .rcases three j hj with rfl|rfl|rfl
  .exact Fl
  .exact UB (.inl ⟨by decide,by decide⟩)
  .exact UB (.inr ⟨by decide,by decide⟩)
 .rcases three j hj with rfl|rfl|rfl
  .exact Fl
  .exact UB (.inl ⟨by decide,by decide⟩)
  .exact UB (.inr ⟨by decide,by decide⟩)
 .rcases three j hj with rfl|rfl|rfl
  .exact Fl
  .exact UB (.inl ⟨by decide,by decide⟩)
  .exact UB (.inr ⟨by decide,by decide⟩)
end Fx
section
open W Go.RowKit
open Bl (Vc Bd Tc Sc)
abbrev d0:Tc:=Fx.Q6 0 0
abbrev tl(L:List Tc)(j:Nat):Tc:=L.getD j d0
abbrev sl(C:List (List Int))(j:Nat):List Int:=C.getD j []
abbrev pl(C:List (List Tc))(j:Nat):List Tc:=C.getD j []
abbrev Qm:Shp Value (List Int):=⟨1,λm _=>[m],λm a=>sI m a,by decide,λ_ _=>rfl⟩
abbrev tlS:Shp (Value×(Nat->ToM)) (List Tc):=⟨1,λm _=>[m.1],λm a=>lF Qz m.1 a.length m.2 (tl a),by decide,λ_ _=>rfl⟩
def Ze{α:Type}(n:Nat)(f g:Nat->α)(j:Nat):α:=if j<n then f j else g (j-n)
def Gm{α:Type}(C:List α)(s d:α):upd (λj=>C.getD j d) C.length s=λj=>(C++[s]).getD j d:=funext λj=>by
 unfold upd;simp only[List.getD_eq_getElem?_getD];by_cases e:j=C.length
 .subst e;rw[if_pos rfl];simp
 .rw[if_neg e];by_cases h:j<C.length
  .rw[List.getElem?_append_left h]
  .rw[List.getElem?_append_right qo,List.getElem?_eq_none qo];obtain⟨q,hq⟩:∃q,j-C.length=q+1:=⟨j-C.length-1,by omega⟩
   rw[hq];simp
def Hq{α:Type}(C D:List α)(d:α):Ze C.length (λj=>C.getD j d) (λj=>D.getD j d)=λj=>(C++D).getD j d:=funext λj=>by
 unfold Ze;simp only[List.getD_eq_getElem?_getD];by_cases h:j<C.length
 .rw[if_pos h,List.getElem?_append_left h]
 .rw[if_neg h,List.getElem?_append_right qo]
section
variable {M α:Type}{S:Shp M α}{P:Program}{e:Env}{bx bx':List Ow}{F:List Fct}{ty t el:TypeId}{v u:Value}{x y:Operand}{n k:Nat}{ms ms2:Nat->M}{xs xs2:Nat->α}{K:Qf}
def lcells_cat2:QX S n ms xs++QX S k ms2 xs2=QX S (n+k) (Ze n ms ms2) (Ze n xs xs2):=by
 have hp:=S.pos;refine Jv (by rw[List.length_append,Qu,Qu,Nat.add_mul]) λj hj=>?_;by_cases h:j<n*S.w
 .rw[List.getElem?_append_left (by rw[Qu];exact h),QK h];have hn:j/S.w<n:=(Nat.div_lt_iff_lt_mul hp).2 h;show some (Je S.w _ j)=some (Je S.w _ j);unfold Je Ze;simp only;rw[if_pos hn,if_pos hn]
 .rw[Nat.add_mul] at hj;rw[List.getElem?_append_right (by rw[Qu];omega),Qu,QK qo]
  have hd:j/S.w=n+(j-n*S.w)/S.w:=by
   obtain⟨r,hr⟩:=Nat.exists_eq_add_of_le (Nat.le_of_not_lt h);rw[hr,Nat.add_sub_cancel_left,Nat.mul_comm n,Nat.mul_add_div hp]
  have hm:j%S.w=(j-n*S.w)%S.w:=by
   obtain⟨r,hr⟩:=Nat.exists_eq_add_of_le (Nat.le_of_not_lt h);rw[hr,Nat.add_sub_cancel_left,Nat.mul_comm n,Nat.mul_add_mod]
  show some (Je S.w _ _)=some (Je S.w _ j);unfold Je Ze;simp only;rw[hd,hm,if_neg (Nat.not_lt.2 (Nat.le_add_right _ _)),if_neg (Nat.not_lt.2 (Nat.le_add_right _ _)),Nat.add_sub_cancel_left]
def W.Has.mcat2(h:Has F (lM S n ms xs))(h2:Has F (lM S k ms2 xs2)):Has F (lM S (n+k) (Ze n ms ms2) (Ze n xs xs2)):=λp hf i hi=>by
 unfold Ze;by_cases c:i<n
 .rw[if_pos c,if_pos c];exact h p hf i c
 .rw[if_neg c,if_neg c];exact h2 p hf (i-n) qo
def VX(h:∀j,j<k->QA bx F (S.cs (ms2 j) (xs2 j))){fr:CF}{w:World}(ho:OK fr bx F w):∀u∈QX S k ms2 xs2,u.oneCell'=true:=λu hu=>by
 have hp:=S.pos;unfold QX Jh at hu;obtain⟨j,hj,rfl⟩:=List.mem_map.1 hu;have hj:=List.mem_range.1 hj;have h1:j/S.w<k:=(Nat.div_lt_iff_lt_mul hp).2 hj;refine(h _ h1).all ho _ ?_;unfold ZU Je;have hm:=Nat.mod_lt j hp;rw[List.getD_eq_getElem?_getD,List.getElem?_eq_getElem (by rw[S.len];exact hm)];exact List.getElem_mem _
def LO.appLF{t1 b:TypeId}{z:Value}{bx2:Value->List Ow}(he:Xm P t1 el S.w z b)(hx:ev e x=some v)(hy:ev e y=some u)(hu:Has F (lF S u k ms2 xs2))(h1:∀j,j<k->QA bx F (S.cs (ms2 j) (xs2 j)))
  (hs:∀v',Sel bx (lO S v el n ms xs) (lO S v' el (n+k) (Ze n ms ms2) (Ze n xs xs2)) (bx2 v')) (hb:b<=1000) (hw:S.w<=100) (hl:n+k<=1000000) (h:∀v',K v' (bx2 v') F) :
  LO P (.call {callee:=.builtin .append,args:=#[x,y],argTypes:=#[t1,t1]}) ty e bx F K:=by
 refine LO.byP (λfr w ho=>VX h1 ho) λh1=>?_;have hw1:(n+k)*S.w<=1000000*100:=Nat.mul_le_mul hl hw;have hl2:(QX S n ms xs).length+(QX S k ms2 xs2).length=(n+k)*S.w:=by rw[Qu,Qu,Nat.add_mul]
 exact LO.append he hx hy (news:=QX S k ms2 xs2) (by rw[lcells_cat2];exact hs) (Qp.fact hu.ls) h1 (by
  rw[hl2];have:=Nat.mul_le_mul (show(n+k)*S.w<=100000000 by omega) hb;omega) (by rw[hl2];omega) h
def lcells_lt{ys:Nat->α}{ns:Nat->M}(h:∀j,j<n->S.cs (ms j) (xs j)=S.cs (ns j) (ys j)):QX S n ms xs=QX S n ns ys:=by
 refine Jv (Qu _ _) λj hj=>?_;rw[QK hj];show some (Je S.w _ j)=some (Je S.w _ j);unfold Je;simp only;rw[h _ ((Nat.div_lt_iff_lt_mul S.pos).2 hj)]
end
namespace Z
attribute [local irreducible] WC WL WD YO LO Qq W.Fin Qv Qh Qj Row QV Qy KnS Has W.One Qp QJ
def cloneI_c(u:Value)(l:List Int)(hn:l.length<=1000):FnB Tryz.prog 61 [u] [] [sI u l] (IsO 3 1 (ints l)):=by
 refine fO [(0,u)] 8 Tryz.func61 Tryz.ntmps61 λh0=>?_;cases hnl:isNil u with
 |true=>
  refine WC.H4 (v:=u) (l:=l) hmA hnl λh=>?_;subst h;repeat'(first|intro(g:Nat)|refine gP ?_|intro v)
  refine WC.QP 3 1 ?_;exact wq83
 |false=>
  repeat'(first|intro(g:Nat)|refine gP ?_|intro v)
  exact wq83
end Z
end
namespace Fx
def goodB(n many:Int):Nat->List Int->Bool
 |0,_=>false
 |f+1,l=>(l.all λx=>decide (0<=x/\x<=20)) && match nxt n many l with|none=>true|some l'=>goodB n many f l'
def chkG:Bool:=(List.range 9).all λn=>(List.range (n+1)).all λk=>goodB (n:Nat) (k:Nat) 100 (start k)
def chkG_ok:chkG=true:=by kernel_rfl
def good_all(n:Nat)(hn:n<=8)(k:Nat)(hk:k<=n):goodB (n:Nat) (k:Nat) 100 (start k)=true:=
 List.all_eq_true.1 (List.all_eq_true.1 chkG_ok n (List.mem_range.2 qo)) k (List.mem_range.2 qo)
def good_bd{n many:Int}{f:Nat}{l:List Int}(h:goodB n many (f+1) l=true):(∀x∈l,0<=x/\x<=20)/\∀l',nxt n many l=some l'->goodB n many f l'=true:=by
 unfold goodB at h;rw[Bool.and_eq_true] at h;refine⟨λx hx=>of_decide_eq_true (List.all_eq_true.1 h.1 x hx),λl' e=>?_⟩;have h2:=h.2;rw[e] at h2;exact h2
def kmax_go{n many:Int}{l:List Int}{j:Nat}(h:l.getD j 0=n-many+(j:Int)):kmax n many l (j+1)=kmax n many l j:=if_pos h
def kmax_stop{n many:Int}{l:List Int}{j:Nat}(h:¬l.getD j 0=n-many+(j:Int)):kmax n many l (j+1)=some j:=if_neg h
def kmax_lt{n many:Int}{l:List Int}:∀{j k:Nat},kmax n many l j=some k->k<j
 |0,_,h=>by cases h
 |j+1,k,h=>by
  unfold kmax at h;split at h
  .have:=kmax_lt h;omega
  .cases h;omega
def nxt_none{n many:Int}{l:List Int}(h:kmax n many l l.length=none):nxt n many l=none:=by unfold nxt;rw[h]
def nxt_some{n many:Int}{l:List Int}{k:Nat}(h:kmax n many l l.length=some k):nxt n many l=some (KX (l.set k (l.getD k 0+1)) (k+1) (l.length-(k+1))):=by unfold nxt;rw[h]
def chs_le(n many:Int):∀f l,(chsF n many f l).length<=f
 |0,_=>by simp[chsF]
 |f+1,l=>by
  unfold chsF;cases h:nxt n many l with
  |none=>simp
  |some l'=>have:=chs_le n many f l';simp;omega
def HU(n:Nat):∀k,(Xw n k).length<=100*k
 |0=>by simp[Xw]
 |k+1=>by
  unfold Xw;have:=HU n k;have:=chs_le n k 100 (start k);unfold chs;rw[List.length_append];omega
def Ue(n most:Int):(QO n most).length<=900:=by
 unfold QO;split
 .simp
 .have:=HU n.toNat (min n.toNat most.toNat+1);omega
def Uq{l:List Int}{j:Nat}(h:j<l.length):l.getD j 0∈l:=by
 rw[List.getD_eq_getElem?_getD,List.getElem?_eq_getElem h];exact List.getElem_mem h
def all_set{P:Int->Prop}{l:List Int}{j:Nat}{y:Int}(h:∀x∈l,P x)(hy:P y):∀x∈l.set j y,P x:=λx hx=>by
 rcases List.mem_or_eq_of_mem_set hx with h1|h1
 .exact h x h1
 .exact h1 ▸ hy
def start_len(k:Nat):(start k).length=k:=by simp[start]
def Z7(many i:Nat):List Int:=(List.range i).map Int.ofNat++List.replicate (many-i) 0
def fill_0(many:Nat):Z7 many 0=List.replicate many 0:=by simp[Z7]
def fill_all(many:Nat):Z7 many many=start many:=by simp[Z7,start]
def fill_len{many i:Nat}(h:i<=many):(Z7 many i).length=many:=by simp[Z7];omega
def fill_set{many i:Nat}(h:i<many):(Z7 many i).set i (i:Int)=Z7 many (i+1):=by
 unfold Z7;rw[List.set_append_right _ _ (by simp)];obtain⟨q,hq⟩:∃q,many-i=q+1:=⟨many-i-1,by omega⟩
 rw[show many-(i+1)=q by omega,hq,List.range_succ,List.replicate_succ];simp
def sets_K{N M:Nat}{most:Int}(hN:N<=8)(hM:(M:Int)=max 0 (min (N:Int) most+1)):QO (N:Int) most=Xw N M:=by
 unfold QO;by_cases c:most<0
 .rw[if_pos (.inr (.inr c))];obtain rfl:M=0:=qo;rfl
 .rw[if_neg qo];have:min ((N:Int).toNat) most.toNat+1=M:=qo;rw[this];rfl
end Fx
end Go.Proofs.YtbnobghgnbockaaGreat
