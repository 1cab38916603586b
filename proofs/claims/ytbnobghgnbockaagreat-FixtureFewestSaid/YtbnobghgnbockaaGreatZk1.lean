/- Lemmas. Conditions: none. -/
import Derived.WalkKit
import Derived.OrdersHeld
import Derived.Deep.MidRow
import Derived.WalkLawsBesides
import Derived.AtR
import Derived.Conc.CompanyDraw
import Derived.Conc.Neutral
import Derived.RangeFuncRecord
set_option linter.all false
set_option maxHeartbeats 0
set_option maxRecDepth 100000
namespace Go.Proofs.YtbnobghgnbockaaGreat
def ae:=@if_neg
def ah:=@if_pos
def ai:=@Nat.le_refl
def aj:=@Nat.zero_le
def ak:=@decide_eq_false
def al:=@decide_eq_false_iff_not
def am:=@Int.mul_le_mul_of_nonneg_left
def an:=@List.mem_cons_self
def ao:=@of_decide_eq_true
def ap:=@of_decide_eq_false
def aq:=@decide_eq_true
def ar:=@List.length_take
def au:=@List.mem_cons_of_mem
def aw:=@Nat.lt_of_lt_of_le
def ay:=@List.perm_append_comm
def aA:=@Nat.pow_le_pow_right
def aB:=@Array.getD_eq_getD_getElem?
def aC:=@Int.mul_le_mul_of_nonneg_right
def aD:=@Classical.byContradiction
def aE:=@Bool.and_eq_true
def aF:=@Nat.min_eq_left
def aG:=@Int.natAbs_natCast
def aH:=@decide_eq_true_eq
def aI:=@List.Sublist.refl
def aJ:=@List.perm_middle
def aK:=@List.length_cons
def aL:=@Nat.le_trans
def aM:=@Nat.mul_le_mul_right
def aN:=@Int.le_of_lt
def aO:=@Nat.mul_le_mul
def aP:=@Nat.le_of_not_lt
def aQ:=@List.take_length
def aR:=@Nat.zero_add
def aS:=@List.flatMap_append
def aT:=@Int.mul_comm
def aU:=@List.append_nil
def aV:=@List.mem_append_right
def aW:=@List.not_mem_nil
def aX:=@List.cons_append
def aY:=@Nat.mul_comm
def aZ:=@List.flatMap_cons
def be:=@Int.toNat_natCast
def bf:=@List.singleton_append
def bg:=@List.getD_cons_succ
def bn:=@List.nil_append
def bo:=@List.take_of_length_le
def bp:=@Int.natAbs_mul
def bq:=@List.mem_cons
def bt:=@List.length_singleton
def bu:=@List.contains_iff_mem
def bw:=@Nat.mod_lt
def bz:=@Int.natCast_nonneg
def bA:=@List.sublist_cons_self
def bB:=@List.eq_nil_of_length_eq_zero
def bC:=@List.length_replicate
def bD:=@Rat.mul_nonneg
def bE:=@Nat.le_of_lt
def bF:=@List.length_nil
def bG:=@List.mem_singleton
def bH:=@Int.mul_sub
def bI:=@Int.ediv_emod_unique
def bJ:=@Nat.eq_of_mul_eq_mul_right
def bK:=@Nat.div_lt_iff_lt_mul
def bL:=@List.length_filter_le
def bM:=@List.nil_sublist
def bN:=@Int.emod_lt_of_pos
def bO:=@eq_comm
def bP:=@Nat.mul_one
def bQ:=@List.mem_of_getElem?
def bR:=@Nat.div_le_self
def bS:=@List.mem_append
def bT:=@Nat.eq_zero_or_pos
def bU:=@Int.mul_nonneg
def bV:=@Nat.le_of_ble_eq_true
def bW:=@Int.mul_ediv_add_emod
def bX:=@Array.mem_of_getElem?
def bY:=@Nat.not_lt_zero
def bZ:=@List.length_set
def b7:=@Bool.or_eq_true
def b8:=@Option.some.injEq
def b9:=@List.map_congr_left
def ca:=@Rat.divInt_ofNat
def cf:=@Int.add_mul
def cg:=@Int.ediv_nonneg
def cl:=@List.take_append_drop
def cn:=@Int.ediv_lt_of_lt_mul
def co:=@beq_iff_eq
def cp:=@Int.natAbs_neg
def cu:=@Option.getD_some
def cw:=@Nat.div_eq_of_lt
def cC:=@Nat.add_zero
def cD:=@List.getElem_mem
def cE:=@List.ext_getElem
def cF:=@Nat.mul_add_mod
def cG:=@Nat.mul_add_div
def cH:=@List.range_succ
def cI:=@List.nodup_cons
def cJ:=@List.map_append
def cL:=@Int.emod_nonneg
def cM:=@Bool.false_eq_true
def cN:=@Nat.add_sub_cancel_left
def cO:=@Int.one_mul
def cP:=@Nat.pow_succ
def cQ:=@Nat.lt_or_ge
def cR:=@Int.mul_left_comm
def cS:=@Nat.mod_eq_of_lt
def cX:=@Rat.mul_one
def cY:=@List.take_append_of_le_length
def cZ:=@Int.sub_mul
def c9:=@Rat.intCast_mul
def da:=@Int.gcd_pos_of_ne_zero_right
def db:=@Int.toNat_of_nonneg
def dc:=@if_true
def de:=@Nat.succ_mul
def df:=@Nat.sub_self
def dh:=@Nat.gcd_comm
def di:=@or_false
def dk:=@Option.isSome_eq_false_iff
def dn:=@Nat.gcd_zero_right
def dw:=@Nat.add_sub_cancel
def dx:=@List.filter_append
def dy:=@Int.tmod_eq_emod_of_nonneg
def dB:=@Int.tdiv_eq_ediv_of_nonneg
def dC:=@Option.isNone_iff_eq_none
def dD:=@List.sublist_append_right
def dE:=@List.drop_eq_getElem_cons
def dF:=@Int.eq_of_mul_eq_mul_left
def dG:=@Rat.neg_num
def dH:=@Rat.mul_pos
def dI:=@Nat.mod_one
def dJ:=@List.sublist_append_left
def dK:=@decide_eq_decide
def dL:=@Nat.exists_eq_add_of_le
def dM:=@List.length_drop
def dN:=@List.filter_cons
def dO:=@Ne.symm
def dP:=@Int.ne_of_gt
def dQ:=@Rat.natCast_mul
def dR:=@Rat.intCast_neg
def dS:=@Option.some.inj
def dU:=@Option.map_some
def dV:=@Nat.div_add_mod
def dW:=@Nat.eq_of_beq_eq_true
def dX:=@if_false
def dY:=@List.mem_append_left
def dZ:=@List.drop_drop
def ee:=@Int.mul_neg
def ef:=@Nat.mul_le_mul_left
def eh:=@List.replicate_succ
def ej:=@Rat.num_mkRat
def ep:=@Rat.den_mkRat
def er:=@Nat.add_assoc
def eu:=@List.map_cons
def ew:=@Rat.num_divInt_den
def ey:=@Option.isSome_none
def ez:=@List.set_cons_succ
def eA:=@Rat.divInt_eq_div
def eB:=@List.ext_getElem?
def eC:=@Int.sub_zero
def eD:=@Int.pow_succ
def eE:=@Int.natAbs_add_le
def eF:=@Int.mul_zero
def eG:=@Int.lt_trichotomy
def eH:=@Int.gcd_dvd_right
def eI:=@Int.add_zero
def eJ:=@And.left
def eK:=@forall_eq
def eL:=@Rat.mkRat_eq_div
def eM:=@List.flatMap_nil
def eN:=@Int.ediv_le_self
def eO:=@Bool.not_eq_true
def eP:=@Rat.le_refl
def eQ:=@Int.mul_pos
def eR:=@Int.mul_one
def eU:=@Rat.zero_divInt
def eV:=@Rat.num_intCast
def eW:=@Rat.den_intCast
def eX:=@Int.le_antisymm
def eY:=@Array.size_push
def eZ:=@Rat.lt_iff
def fa:=@List.take_zero
def fb:=@List.mem_range
def fd:=@Int.mul_le_mul
abbrev nd:=List Int
abbrev ne:=List Go.Value
abbrev nf:=Nat->Rat
abbrev ng:=Nat->Go.Value
abbrev nh:=Go.Program
abbrev ni:=Go.Operand
abbrev nl:=Go.TypeId
abbrev nm:=Go.World
abbrev np:=Go.FuncId
abbrev nu:=Go.Frame
abbrev nA:=Go.Value
abbrev nz:Go.Value:=.slice none 0 0
abbrev nq:Go.Value:=.bool false
abbrev nj(i:Int):Go.Value:=.int .i64 i
theorem nv{α:Type}{A B:List α}(h:∀x∈A,x∈B:=by(intro _ h;repeat(first|exact h|apply au))):∀x∈A,x∈B:=h
def wq1{G:Prop}(h:G:=by first|((focus(apply Or.inr;constructor;(repeat(first|exact wq6|apply List.Sublist.cons_cons|apply List.Sublist.cons));(first|exact λ_ h=>h|(intro f hf;(repeat(first|exact hf|apply List.Mem.tail))));done));done)|fail):G:=h
def wq2{G:Prop}(h:G:=by first|(((try simp only[aR,bP,Nat.reduceAdd,Nat.reduceMul]);exact rfl);done)|fail):G:=h
def wq3{G:Prop}(h:G:=by first|((repeat(first|exact Sel.head|apply Sel.tail));done)|fail):G:=h
def wq4{G:Prop}(h:G:=by first|((refine WC.ret ?_;exact Fin.v (Qf.t1 rfl rfl) meA rfl);done)|fail):G:=h
def wq5{G:Prop}(h:G:=by first|((first|exact One.lit rfl rfl|(apply One.sl;exact knA));done)|fail):G:=h
def wq6{G:Prop}(h:G:=by first|((first|exact aI _|exact bM _);done)|fail):G:=h
def wq7{G:Prop}(h:G:=by first|((first|exact wq42|exact wq164|exact wq169|exact Zd|exact Jv|exact wq21|exact wq22|exact wq31|exact wq45|exact wq16);done)|fail):G:=h
def wq8{G:Prop}(h:G:=by first|((first|(apply YO.ldON;exact t2A;exact rfl;exact meA;omega)|(apply YO.ldOV;exact t2A;exact rfl;exact meA;omega)|exact wq143|(apply YO.ldFf;exact t4A;exact rfl;exact hmA;omega)|(apply YO.ldOR;exact t4A;exact rfl;exact meA;omega)|(apply YO.ldRf;exact t4A;exact rfl;exact hmA;omega;omega)|(apply YO.ldPl;exact t4A;exact rfl;exact hmA;omega)|exact wq144|(apply YO.KD;exact t2A;exact rfl;exact meA;exact wq24));done)|fail):G:=h
def wq9{G:Prop}(h:G:=by first|((first|exact List.Perm.refl _|exact aJ (l₁:=[_])|exact aJ (l₁:=[_,_])|exact aJ (l₁:=[_,_,_])|exact aJ (l₁:=[_,_,_,_])|exact aJ (l₁:=[_,_,_,_,_])|exact aJ (l₁:=[_,_,_,_,_,_])|exact aJ (l₁:=[_,_,_,_,_,_,_])|exact aJ (l₁:=[_,_,_,_,_,_,_,_])|exact aJ (l₁:=[_,_,_,_,_,_,_,_,_])|exact aJ (l₁:=[_,_,_,_,_,_,_,_,_,_])|exact aJ (l₁:=[_,_,_,_,_,_,_,_,_,_,_])|exact aJ (l₁:=[_,_,_,_,_,_,_,_,_,_,_,_])|exact aJ (l₁:=[_,_,_,_,_,_,_,_,_,_,_,_,_])|exact aJ (l₁:=[_,_,_,_,_,_,_,_,_,_,_,_,_,_]));done)|fail):G:=h
def wq10{G:Prop}(h:G:=by first|((first|(simp only[ez,List.set_cons_zero];exact rfl)|exact rfl);done)|fail):G:=h
def wq11{G:Prop}(h:G:=by first|((repeat(first|exact Rem.head|apply Rem.tail));done)|fail):G:=h
def wq12{G:Prop}(h:G:=by first|((first|(simp only[aK,bF];omega)|(simp;omega));done)|fail):G:=h
def wq13{G:Prop}(h:G:=by first|((repeat(first|exact Cut.done|apply Cut.take|apply Cut.drop));done)|fail):G:=h
def wq14{G:Prop}(h:G:=by first|((simp only;omega);done)|fail):G:=h
def wq15{G:Prop}(h:G:=by first|((first|exact wq28|(focus(apply QV.fF;exact meA;exact hmA;done))|(focus(apply QV.rows;(repeat(first|exact aI _|apply List.Sublist.cons));exact hmA;done))|(focus(apply QV.sV;exact meA;done))|(focus(apply QV.sN;exact meA;done)));done)|fail):G:=h
def wq16{G:Prop}(h:G:=by first|((first|(first|(apply YO.slice;exact t6A;exact rfl;exact knA;exact Or.inl ⟨rfl,rfl⟩;exact Or.inr ⟨_,rfl,rfl⟩;omega;omega)|(apply YO.slice;exact t6A;exact rfl;exact knA;exact Or.inr ⟨_,rfl,rfl⟩;exact Or.inl ⟨rfl,rfl⟩;omega;omega))|(apply YO.slice3;exact t6A;exact rfl;exact knA;exact rfl;exact rfl;omega;omega));done)|fail):G:=h
def wq17{G:Prop}(h:G:=by first|((first|exact T.s25|exact T.s33|exact T.s40);done)|fail):G:=h
def wq18{G:Prop}(h:G:=by first|((rw[bO];simp only[aH,al];omega);done)|fail):G:=h
def wq19{G:Prop}(h:G:=by first|((first|exact wq140|exact wq166);done)|fail):G:=h
def wq20{G:Prop}(h:G:=by first|((first|exact wq160|exact T.DK|exact T.DW|exact T.DV|exact T.Kt|exact T.Un|exact T.Ul);done)|fail):G:=h
def wq21{G:Prop}(h:G:=by first|((first|(first|(first|(apply YO.eql_t;exact rfl;exact rfl;omega)|(apply YO.eql_f;exact rfl;exact rfl;omega))|(apply YO.Z8;exact t6A;exact rfl;exact knA;assumption)|(apply YO.Z7;exact t6A;exact rfl;exact knA;assumption))|(apply YO.beq_t;exact Yw;exact rfl;exact rfl;exact wq170)|(apply YO.beq_f;exact Yw;exact rfl;exact rfl;exact wq170));done)|fail):G:=h
def wq22{G:Prop}(h:G:=by first|((first|exact UG|exact wq168|exact wq39|exact UW|exact UK|exact Gz|exact wq41|exact UH|exact Z3|exact Zq|exact Zb|exact Ze|(apply YO.max;exact rfl;exact rfl)|(apply YO.min;exact rfl;exact rfl)|exact XX);done)|fail):G:=h
def wq23{G:Prop}(h:G:=by first|((refine WC.ret ?_;exact Fp [isZ (.agg #[.bool nb,d]) (x+y)] (rcV T.r73) haA ⟨nb,_,rfl,hb,rfl,rfl⟩);done)|fail):G:=h
def wq24{G:Prop}(h:G:=by first|((first|omega|(simp only[bZ,bC];omega));done)|fail):G:=h
def wq25{G:Prop}(h:G:=by first|((first|omega|(simp only[bZ];omega));done)|fail):G:=h
def wq26{G:Prop}(h:G:=by first|((focus(repeat(first|exact Qz.nil|(apply Qz.cons;exact hsA))));done)|fail):G:=h
def wq27{G:Prop}(h:G:=by first|((refine WC.ret ?_;exact Fp [isQ (.agg #[nq,nz,nq,nz]) 0] (rcV T.r75) (.cons Zw .nil) ⟨false,_,_,rfl,rfl,rfl,rfl⟩);done)|fail):G:=h
def wq28{G:Prop}(h:G:=by first|((first|(focus(apply QV.oI;exact meA;done))|(focus(apply QV.c;exact meA;done))|(focus(apply QV.f;exact hsA;done)));done)|fail):G:=h
def wq29{G:Prop}(h:G:=by first|((first|(apply YO.ix1;exact T.s47;exact rfl;exact rfl;exact wq33;omega)|(apply YO.XT;exact T.s47;exact rfl;exact rfl;exact wq33;omega;omega)|(apply YO.ix1;exact T.s47;exact rfl;exact rfl;exact wq37;omega)|(apply YO.XT;exact T.s47;exact rfl;exact rfl;exact wq37;omega;omega)|(apply YO.ix1;exact T.s47;exact rfl;exact rfl;exact knA;omega)|(apply YO.ix;exact T.s47;exact rfl;exact rfl;exact knA;omega)|(apply YO.XT;exact T.s47;exact rfl;exact rfl;exact knA;omega;omega)|(apply YO.ix';exact T.s47;exact rfl;exact rfl;exact knA;omega;omega));done)|fail):G:=h
def wq30{G:Prop}(h:G:=by first|((repeat(first|exact Evs.nil|(apply Evs.cons;exact rfl)));done)|fail):G:=h
def wq31{G:Prop}(h:G:=by first|((first|(first|(apply YO.GX;exact t7A;exact t7A;exact rfl;omega;omega)|(apply YO.convI;exact t7A;exact t7A;exact rfl;omega;omega))|(apply YO.convN;exact t7A;exact t7A;exact rfl;omega;omega));done)|fail):G:=h
def wq32{G:Prop}(h:G:=by first|((refine WC.ret ?_;exact Fp [isZ (.agg #[.bool n5,d5]) (x/y),isZ (.agg #[.bool n6,d6]) (x%y)] (Qf.cc rfl rfl rfl meA meA T.r73 rfl T.r73 rfl) haA ⟨n5,d5,n6,d6,rfl,hbq,hbr,rfl,rfl⟩);done)|fail):G:=h
def wq33{G:Prop}(h:G:=by first|((focus(apply KnS.Yf;exact meA;done));done)|fail):G:=h
def wq34{G:Prop}(h:G:=by first|((refine WC.ret ?_;exact Fp [isZ (.agg #[.bool n1,d1]) ((m/n:Nat):Int),isZ (.agg #[.bool n2,d2]) ((m%n:Nat):Int)] (Qf.cc rfl rfl rfl meA meA T.r73 rfl T.r73 rfl) haA ⟨n1,d1,n2,d2,rfl,hb1,hb2,rfl,rfl⟩);done)|fail):G:=h
def wq35{G:Prop}(h:G:=by first|((apply YO.mul;exact rfl;exact rfl;omega;omega);done)|fail):G:=h
def wq36{G:Prop}(h:G:=by first|((refine WC.ret ?_;exact Fp [isQ (.agg #[.bool nb,e1,nq,e2]) (Rat.divInt p q)] (rcV T.r75) haA ⟨nb,_,_,rfl,hb,rfl,rfl⟩);done)|fail):G:=h
def wq37{G:Prop}(h:G:=by first|((focus(apply KnS.out;exact meA;done));done)|fail):G:=h
def wq38{G:Prop}(h:G:=by first|((first|exact QO []|exact QO [_]|exact QO [_,_]|exact QO [_,_,_]|exact QO [_,_,_,_]|exact QO [_,_,_,_,_]|exact QO [_,_,_,_,_,_]|exact QO [_,_,_,_,_,_,_]|exact QO [_,_,_,_,_,_,_,_]|exact QO [_,_,_,_,_,_,_,_,_]|exact QO [_,_,_,_,_,_,_,_,_,_]|exact QO [_,_,_,_,_,_,_,_,_,_,_]|exact QO [_,_,_,_,_,_,_,_,_,_,_,_]|exact QO [_,_,_,_,_,_,_,_,_,_,_,_,_]|exact QO [_,_,_,_,_,_,_,_,_,_,_,_,_,_]);done)|fail):G:=h
def wq39{G:Prop}(h:G:=by first|((apply YO.extract;exact rfl;exact rfl);done)|fail):G:=h
def wq40{G:Prop}(h:G:=by first|((show a.length-(k+1)<a.length-k;omega);done)|fail):G:=h
def wq41{G:Prop}(h:G:=by first|((apply YO.sub;exact rfl;exact rfl;omega;omega);done)|fail):G:=h
def wq42{G:Prop}(h:G:=by first|((first|exact wq46|exact wq62|exact UU|exact UZ|exact UY);done)|fail):G:=h
def wq43{G:Prop}(h:G:=by first|((apply YO.slice;exact t6A;exact rfl;exact knA;exact Or.inr ⟨_,rfl,rfl⟩;exact Or.inr ⟨_,rfl,rfl⟩;omega;omega);done)|fail):G:=h
def wq44{G:Prop}(h:G:=by first|((first|exact T.Gu|exact T.Gh|exact T.Gf);done)|fail):G:=h
def wq45{G:Prop}(h:G:=by first|((first|exact KZ|exact wq153|exact Gx|exact y_or);done)|fail):G:=h
def wq46{G:Prop}(h:G:=by first|((apply YO.move;exact rfl);done)|fail):G:=h
def wq47{G:Prop}(h:G:=by first|((first|(focus(apply Vd;exact hmA;done))|(focus(apply one_b;exact hmA;done))|(focus(apply one_e;exact hmA;done))|(focus(apply Ud;exact hmA;done)));done)|fail):G:=h
def wq48{G:Prop}(h:G:=by first|((refine WC.ret ?_;exact Fp [isQ (qv m00) 0] (rcV T.r75) (.cons Jr .nil) ⟨m00,rfl,rfl,rfl⟩);done)|fail):G:=h
def wq49{G:Prop}(h:G:=by first|((repeat(first|exact QB.nil|(apply QB.cons;(apply One.sl;(first|(apply KnS.o1B;exact meA;done)|(apply KnS.o1T;exact meA;done)|exact knA)))));done)|fail):G:=h
def wq50{G:Prop}(h:G:=by first|((first|exact T.s28|exact T.s61|exact T.s104|exact T.s116|exact T.s175);done)|fail):G:=h
def wq51{G:Prop}(h:G:=by first|((first|(focus(apply Qo.ints;exact hmA;done))|(focus(apply Qo.Xt;exact meA;done))|(focus(apply Qo.one;exact meA;exact rfl;decide;done)));done)|fail):G:=h
def wq52{G:Prop}(h:G:=by first|((simp only[phi];omega);done)|fail):G:=h
def wq53{G:Prop}(h:G:=by first|((refine WC.ret ?_;exact Fp [isZ (.agg #[nq,nz]) 0] (rcV T.r73) (.cons Hc .nil) ⟨false,_,rfl,rfl,rfl,rfl⟩);done)|fail):G:=h
def wq54{G:Prop}(h:G:=by first|((first|exact y_arr|(apply D1;exact rfl;exact rfl;exact rfl;exact rfl;exact rfl;exact rfl)|(apply y_touch5;exact rfl;exact rfl;exact rfl;exact rfl)|(apply y_bodyX;exact rfl;exact rfl;exact rfl;exact rfl)|(apply VT;exact rfl;exact rfl;exact knA;exact knA));done)|fail):G:=h
def wq55{G:Prop}(h:G:=by first|((apply YO.quo;exact rfl;exact rfl;omega;omega;omega);done)|fail):G:=h
def wq56{G:Prop}(h:G:=by first|((show m-(i+1)<m-i;omega);done)|fail):G:=h
def wq57{G:Prop}(h:G:=by first|((first|(apply YO.Q8;exact T.f42_0;exact rfl)|(apply YO.Q8;exact T.f42_1;exact rfl)|(apply YO.Q8;exact T.f42_2;exact rfl)|(apply YO.Q8;exact T.f35_0;exact rfl)|(apply YO.Q8;exact T.f35_1;exact rfl)|(apply YO.Q8;exact T.f35_2;exact rfl));done)|fail):G:=h
def wq58{G:Prop}(h:G:=by first|((refine WC.ret ?_;exact Fin.v (Qf.t1 rfl rfl) meA (by rw[ak h3]));done)|fail):G:=h
def wq59{G:Prop}(h:G:=by first|((first|(apply YO.Q8;exact T.Vu;exact rfl)|(apply YO.Q8;exact T.Vh;exact rfl));done)|fail):G:=h
def wq60{G:Prop}(h:G:=by first|((apply YO.ldPb;(first|exact wq162|exact wq161|exact T.r22|exact T.r53);exact rfl;exact hmA;omega);done)|fail):G:=h
def wq61{G:Prop}(h:G:=by first|((refine WC.ret ?_;exact Fp [isZ (.agg #[nq,nz]) ((0:Nat):Int),isZ (.agg #[.bool n2,d2]) ((m%n:Nat):Int)] (Qf.cc rfl rfl rfl meA meA T.r73 rfl T.r73 rfl) haA ⟨false,_,n2,d2,rfl,rfl,hb2,rfl,rfl⟩);done)|fail):G:=h
def wq62{G:Prop}(h:G:=by first|((apply YO.assign;exact rfl);done)|fail):G:=h
def wq63{G:Prop}(h:G:=by first|((refine WC.ret ?_;exact Fp [isZ (.agg #[.bool nb,d]) (x*y)] (rcV T.r73) haA ⟨nb,_,rfl,hb,rfl,rfl⟩);done)|fail):G:=h
def wq64{G:Prop}(h:G:=by first|((rw[Qw,Qw];omega);done)|fail):G:=h
def wq65{G:Prop}(h:G:=by first|((refine WC.ret ?_;exact Fp [isZ (.agg #[.bool nb,d]) 1] (rcV T.r73) haA ⟨nb,_,rfl,hb,rfl,rfl⟩);done)|fail):G:=h
def wq66{G:Prop}(h:G:=by first|((refine WC.ret ?_;exact Fp [isZ (.agg #[.bool nb,v]) z] (rcV T.r73) haA ⟨nb,_,rfl,hb,rfl,rfl⟩);done)|fail):G:=h
def wq67{G:Prop}(h:G:=by first|((refine WC.ret ?_;exact Fin.v (Qf.t1 rfl rfl) meA (by simp[c]));done)|fail):G:=h
def wq68{G:Prop}(h:G:=by first|((refine WC.ret ?_;exact Fp [isZ (.agg #[.bool n8,d8]) (x/y),isZ (.agg #[.bool n9,d9]) (x%y)] (Qf.cc rfl rfl rfl meA meA T.r73 rfl T.r73 rfl) haA ⟨n8,d8,n9,d9,rfl,hbq,hbr,rfl,rfl⟩);done)|fail):G:=h
def wq69{G:Prop}(h:G:=by first|((rw[hqa];exact Jy hmA);done)|fail):G:=h
def wq70{G:Prop}(h:G:=by first|((first|(apply YO.ldF;exact T.sc47;exact rfl;exact hmA;exact rfl)|(apply YO.ldB;exact T.sc47;exact rfl;exact meA;exact rfl)|(apply YO.ldFall;exact T.r98;exact rfl;exact hmA;omega));done)|fail):G:=h
def wq71{G:Prop}(h:G:=by first|((first|exact T.r42|exact T.r35);done)|fail):G:=h
def wq72{G:Prop}(h:G:=by first|((simp[Plan.len] at hf;exact hf);done)|fail):G:=h
def wq73{G:Prop}(h:G:=by first|((refine WC.ret ?_;exact Fin.v (Qf.t2 rfl rfl rfl) meA rfl);done)|fail):G:=h
def wq74{G:Prop}(h:G:=by first|((repeat(first|exact List.Mem.head _|apply List.Mem.tail));done)|fail):G:=h
def wq75{G:Prop}(h:G:=by first|((refine WC.ret ?_;exact Fin.p [_] [lM Qp 0 (λ_=>nz) (sl [])] (Qf.t1 rfl rfl) meA (aI _) (.cons W.Has.Uy .nil) ⟨_,rfl,rfl⟩);done)|fail):G:=h
def wq76{G:Prop}(h:G:=by first|((refine WC.ret ?_;exact Fp [lF Qp nz 0 (λ_=>nz) (sl [])] (Qf.t1 rfl rfl) (.cons W.Has.lnil .nil) ⟨_,rfl,rfl⟩);done)|fail):G:=h
def wq77{G:Prop}(h:G:=by first|((rw[size_setRow];exact ai _);done)|fail):G:=h
def wq78{G:Prop}(h:G:=by first|((rw[<-h6];exact W.Has.mk (S:=Qp) (n:=C.length) (ms:=ms) (xs:=xs) hmA d);done)|fail):G:=h
def wq79{G:Prop}(h:G:=by first|((first|exact T.s31|exact T.s32|exact T.s37|exact T.s125|exact T.s159);done)|fail):G:=h
def wq80{G:Prop}(h:G:=by first|((apply YO.rem;exact rfl;exact rfl;omega;omega);done)|fail):G:=h
def wq81{G:Prop}(h:G:=by first|((rw[hv];omega);done)|fail):G:=h
def wq82{G:Prop}(h:G:=by first|((refine WC.ret ?_;exact Fp [] (Qf.t1 rfl rfl) .nil ⟨false,rfl,⟨λh=>absurd h qd,λh=>absurd (h.1 k d).1 (by grind)⟩,rfl,rfl⟩);done)|fail):G:=h
def wq83{G:Prop}(h:G:=by first|((repeat(first|exact QB.nil|(apply QB.cons;exact One.lit rfl rfl)));done)|fail):G:=h
def wq84{G:Prop}(h:G:=by first|((refine WC.ret ?_;exact Fp [isQ (.agg #[.bool n11,d11,nq,d12]) (a*b)] (rcV T.r75) haA ⟨n11,_,_,rfl,hb11,rfl,rfl⟩);done)|fail):G:=h
def wq85{G:Prop}(h:G:=by first|((refine WC.ret ?_;exact Fp [isQ (.agg #[.bool n11,d11,nq,d12]) (a+b)] (rcV T.r75) haA ⟨n11,_,_,rfl,hb11,rfl,rfl⟩);done)|fail):G:=h
def wq86{G:Prop}(h:G:=by first|((first|(apply YO.eqNz_t;exact t6A;exact rfl;exact knA;assumption)|(apply YO.eqNz_f;exact t6A;exact rfl;exact knA;assumption));done)|fail):G:=h
def wq87{G:Prop}(h:G:=by first|((refine WC.ret ?_;exact Fp [isQ (.agg #[.bool n4,d7,nq,d8]) (a-b)] (rcV T.r75) haA ⟨n4,_,_,rfl,hb4,rfl,rfl⟩);done)|fail):G:=h
def wq88{G:Prop}(h:G:=by first|((refine WC.ret ?_;exact Fp [isQ (.agg #[.bool n3,d3,nq,d2]) (-q)] (rcV T.r75) haA ⟨n3,_,_,rfl,hb4,rfl,rfl⟩);done)|fail):G:=h
def wq89{G:Prop}(h:G:=by first|((first|(apply YO.Q8;exact T.f49_0;exact rfl)|(apply YO.Q8;exact T.f49_1;exact rfl)|(apply YO.Q8;exact T.GH;exact rfl));done)|fail):G:=h
def wq90{G:Prop}(h:G:=by first|((refine WC.ret ?_;exact Fp [isZ (.agg #[nq,d2]) (q.den:Int)] (rcV T.r73) haA ⟨false,_,rfl,Q5 _,rfl,rfl⟩);done)|fail):G:=h
def wq91{G:Prop}(h:G:=by first|((refine WC.ret ?_;exact Fp [] (Qf.t1 rfl rfl) .nil ⟨true,rfl,⟨λ_=>Zj.2 ⟨hokE,hokB⟩,λ_=>rfl⟩,rfl,rfl⟩);done)|fail):G:=h
def wq92{G:Prop}(h:G:=by first|((refine WC.ret ?_;exact Fin.o (Qf.t1 rfl rfl) meA meA rfl);done)|fail):G:=h
def wq93{G:Prop}(h:G:=by first|((repeat(first|exact EvP.nil|(apply EvP.cons;exact rfl)));done)|fail):G:=h
def wq94{G:Prop}(h:G:=by first|((repeat(first|exact Pt.nil|apply Pt.cons|apply Pt.skip));done)|fail):G:=h
def wq95{G:Prop}(h:G:=by first|((refine WC.ret ?_;exact Fin.p [_,_] [] (Qf.t1 rfl rfl) meA (aI _) .nil ⟨_,_,rfl,rfl,rfl⟩);done)|fail):G:=h
def wq96{G:Prop}(h:G:=by first|((rw[hz,hd];repeat(first|exact Sel.head|apply Sel.tail));done)|fail):G:=h
def wq97{G:Prop}(h:G:=by first|((first|exact trivial|exact Hush.underlying _|exact Hush.sizeOf _|exact Hush.zeroValue _|exact λ_=>trivial);done)|fail):G:=h
def wq98{G:Prop}(h:G:=by first|((refine WC.ret ?_;exact Fp [isZ (.agg #[nq,d]) (-z)] (rcV T.r73) haA ⟨_,_,rfl,h2,rfl,rfl⟩);done)|fail):G:=h
def wq99{G:Prop}(h:G:=by first|((refine WC.ret ?_;exact Fp [isZ (.agg #[.bool b1,e1]) m] (rcV T.r73) haA ⟨b1,e1,rfl,hbm,rfl,rfl⟩);done)|fail):G:=h
def wq100{G:Prop}(h:G:=by first|((refine WC.ret ?_;exact Fp [isZ (.agg #[.bool nb,d]) (-z)] (rcV T.r73) haA ⟨nb,_,rfl,hb,rfl,rfl⟩);done)|fail):G:=h
def wq101{G:Prop}(h:G:=by first|((refine WC.ret ?_;exact Fp [fV (n1,n2) ⟨a.x*k,a.y*k⟩] (rcV T.r77) haA ⟨(n1,n2),rfl,rfl,rfl⟩);done)|fail):G:=h
def wq102{G:Prop}(h:G:=by first|((refine WC.ret ?_;exact Fin.p [_] [] (Qf.t1 rfl rfl) meA (aI _) .nil ⟨rfl,rfl⟩);done)|fail):G:=h
def wq103{G:Prop}(h:G:=by first|((refine WC.ret ?_;exact Fp [isZ (.agg #[.bool nb,d]) p] (rcV T.r73) haA ⟨nb,d,rfl,hb,rfl,rfl⟩);done)|fail):G:=h
def wq104{G:Prop}(h:G:=by first|((refine WC.ret ?_;exact Fp [isZ (.agg #[.bool nb,e]) n] (rcV T.r73) haA ⟨nb,_,rfl,hb,rfl,rfl⟩);done)|fail):G:=h
def wq105{G:Prop}(h:G:=by first|((refine WC.ret ?_;exact Fin.v (Qf.t1 rfl rfl) meA (by rw[ak (λh=>c (by rw[h]))]));done)|fail):G:=h
def wq106{G:Prop}(h:G:=by first|((refine WC.ret ?_;exact Fp [fV (n1,n2) (Bl.Jl a b)] (rcV T.r77) haA ⟨(n1,n2),rfl,rfl,rfl⟩);done)|fail):G:=h
def wq107{G:Prop}(h:G:=by first|((show n-(k+1)<n-k;omega);done)|fail):G:=h
def wq108{G:Prop}(h:G:=by first|((apply YO.shl';exact rfl;exact rfl;omega;omega;(first|omega|decide);(first|omega|decide));done)|fail):G:=h
def wq109{G:Prop}(h:G:=by first|((refine WC.ret ?_;exact Fp [sI v o] (Qf.t1 rfl rfl) haA ⟨_,rfl,rfl,hd,hval,by omega⟩);done)|fail):G:=h
def wq110{G:Prop}(h:G:=by first|((refine WC.ret ?_;exact Fp [fF v S.n ms (S.wt c)] (Qf.t1 rfl rfl) haA ⟨ms,rfl,rfl⟩);done)|fail):G:=h
def wq111{G:Prop}(h:G:=by first|((show i+1<=m;omega);done)|fail):G:=h
def wq112{G:Prop}(h:G:=by first|((unfold Lp.n;omega);done)|fail):G:=h
def wq113{G:Prop}(h:G:=by first|((first|(apply YO.Q8;exact T.f53_0;exact rfl)|(apply YO.Q8;exact T.GF;exact rfl));done)|fail):G:=h
def wq114{G:Prop}(h:G:=by first|((refine WC.ret ?_;exact Fp [isQ (qv m1) 1] (rcV T.r75) haA ⟨m1,rfl,rfl,rfl⟩);done)|fail):G:=h
def wq115{G:Prop}(h:G:=by first|((refine WC.ret ?_;exact Fin.v (Qf.t1 rfl rfl) meA (by rw[ak qo]));done)|fail):G:=h
def wq116{G:Prop}(h:G:=by first|((rw[hv2,Qw];show((Q+1:Nat):Int).natAbs=((Q:Int)+(1+1000000000*0)).toNat;omega);done)|fail):G:=h
def wq117{G:Prop}(h:G:=by first|((refine WC.ret ?_;exact Fin.v (Qf.t1 rfl rfl) meA (by rw[aq qo]));done)|fail):G:=h
def wq118{G:Prop}(h:G:=by first|((show b.length-(i+1)<b.length-i;omega);done)|fail):G:=h
def wq119{G:Prop}(h:G:=by first|((unfold Lp.la;omega);done)|fail):G:=h
def wq120{G:Prop}(h:G:=by first|((rw[hv3,hra,Qw,Qw];omega);done)|fail):G:=h
def wq121{G:Prop}(h:G:=by first|((focus((repeat(first|exact KM.nil|apply KM.drop|apply KM.keep));done));done)|fail):G:=h
def wq122{G:Prop}(h:G:=by first|((show k+1<=n;omega);done)|fail):G:=h
def wq123{G:Prop}(h:G:=by first|((refine WC.ret ?_;exact Fin.v (Qf.t1 rfl rfl) meA (by rw[hgcd];rfl));done)|fail):G:=h
def wq124{G:Prop}(h:G:=by first|((refine WC.ret ?_;exact Fp [_] (Qf.t1 rfl rfl) sfA ⟨ms,rfl,rfl⟩);done)|fail):G:=h
def wq125{G:Prop}(h:G:=by first|((refine WC.ret ?_;exact Fp [_] (Qf.t1 rfl rfl) sfA ⟨om,rfl,rfl⟩);done)|fail):G:=h
def wq126{G:Prop}(h:G:=by first|((refine WC.ret ?_;exact Fin.v (Qf.t1 rfl rfl) meA (by rw[hmn,Z5]));done)|fail):G:=h
def wq127{G:Prop}(h:G:=by first|((have:i<Qs l:=hi;omega);done)|fail):G:=h
def wq128{G:Prop}(h:G:=by first|((rw[show qz (-q)=qz q by unfold qz;rw[Rat.neg_den]];exact Kq hmA);done)|fail):G:=h
def wq129{G:Prop}(h:G:=by first|((simp only[ids,aZ,bS];exact .inr hk);done)|fail):G:=h
def wq130{G:Prop}(h:G:=by first|((first|(apply y_mch2;exact rfl;exact rfl;exact knA;exact knA));done)|fail):G:=h
def wq131{G:Prop}(h:G:=by first|((show m/1000000000<m;exact hdiv);done)|fail):G:=h
def wq132{G:Prop}(h:G:=by first|((rw[show((p%q:Nat):Int)=(p:Int) % (q:Int) by simp];exact suA);done)|fail):G:=h
def wq133{G:Prop}(h:G:=by first|((show ¬((1:Int):Rat)=0;decide);done)|fail):G:=h
def wq134{G:Prop}(h:G:=by first|((rw[show((k-1:Nat):Int)-1=(k:Int)-1-1 by omega];exact suA);done)|fail):G:=h
def wq135{G:Prop}(h:G:=by first|((first|(apply YO.ldC;exact t4A;exact rfl;exact meA;exact wq13)|(apply YO.ldL;exact t4A;exact rfl;exact hmA;exact wq165;omega;decide;exact wq13)|(apply YO.ldLs;exact t2A;exact rfl;exact hmA;exact wq165;omega;exact wq13)|(apply YO.HX;exact t4A;exact rfl;exact hmA;exact wq13));done)|fail):G:=h
def wq136{G:Prop}(h:G:=by first|((repeat(first|exact QB.nil|(apply QB.cons;exact wq5)));done)|fail):G:=h
def wq137{G:Prop}(h:G:=by first|((focus(repeat(first|exact Jb.nil _|(apply Jb.cons;exact wq11))));done)|fail):G:=h
def wq138{G:Prop}(h:G:=by first|((refine WC.ret ?_;exact Fp [isZ (.agg #[nq,d3]) (x/y),isZ (.agg #[nq,d4]) (x%y)] (Qf.cc rfl rfl rfl meA meA T.r73 rfl T.r73 rfl) haA ⟨false,d3,false,d4,rfl,wq18,hb4,rfl,rfl⟩);done)|fail):G:=h
def wq139{G:Prop}(h:G:=by first|((first|(apply YO.ix1;exact wq17;exact rfl;exact rfl;exact wq33;omega)|(apply YO.XT;exact wq17;exact rfl;exact rfl;exact wq33;omega;omega)|(apply YO.ix1;exact wq17;exact rfl;exact rfl;exact wq37;omega)|(apply YO.XT;exact wq17;exact rfl;exact rfl;exact wq37;omega;omega)|(apply YO.ix1;exact wq17;exact rfl;exact rfl;exact knA;omega)|(apply YO.ix;exact wq17;exact rfl;exact rfl;exact knA;omega)|(apply YO.XT;exact wq17;exact rfl;exact rfl;exact knA;omega;omega)|(apply YO.ix';exact wq17;exact rfl;exact rfl;exact knA;omega;omega));done)|fail):G:=h
def wq140{G:Prop}(h:G:=by first|((first|(apply YO.ix1;exact t6A;exact rfl;exact rfl;exact knA;omega)|(apply YO.ix;exact t6A;exact rfl;exact rfl;exact knA;omega)|(apply YO.XT;exact t6A;exact rfl;exact rfl;exact knA;omega;omega)|(apply YO.ix';exact t6A;exact rfl;exact rfl;exact knA;omega;omega));done)|fail):G:=h
def wq141{G:Prop}(h:G:=by first|((first|(apply YO.ldC;exact wq71;exact rfl;exact meA;exact wq13)|(apply YO.HX;exact wq71;exact rfl;exact hmA;exact wq13)|(apply YO.ldF;exact wq44;exact rfl;exact hmA;exact rfl)|(apply YO.ldB;exact wq44;exact rfl;exact meA;exact rfl)|(apply YO.ldL1;(first|exact wq20|exact wq44);exact rfl;exact hmA;exact rfl;omega;exact rfl)|(apply YO.ldO1;(first|exact wq20|exact wq44);exact rfl;exact meA;exact rfl;omega;exact rfl)|(apply YO.ldOc;(first|exact wq20|exact wq44);exact rfl;exact meA;omega));done)|fail):G:=h
def wq142{G:Prop}(h:G:=by first|((first|(apply YO.slice;exact wq17;exact rfl;exact wq33;exact Or.inl ⟨rfl,rfl⟩;exact Or.inr ⟨_,rfl,rfl⟩;omega;omega)|(apply YO.slice;exact wq17;exact rfl;exact wq33;exact Or.inr ⟨_,rfl,rfl⟩;exact Or.inl ⟨rfl,rfl⟩;omega;omega)|(apply YO.slice;exact wq17;exact rfl;exact knA;exact Or.inl ⟨rfl,rfl⟩;exact Or.inr ⟨_,rfl,rfl⟩;omega;omega)|(apply YO.slice;exact wq17;exact rfl;exact knA;exact Or.inr ⟨_,rfl,rfl⟩;exact Or.inl ⟨rfl,rfl⟩;omega;omega));done)|fail):G:=h
def wq143{G:Prop}(h:G:=by first|((first|(apply YO.ldW;exact t4A;exact rfl;exact meA;exact rfl)|(apply YO.ld42;exact t4A;exact rfl;exact meA)|(apply YO.ld40;exact t4A;exact rfl;exact meA)|(apply YO.ld51;exact t4A;exact rfl;exact meA));done)|fail):G:=h
def wq144{G:Prop}(h:G:=by first|((first|(apply YO.ldF;exact t2A;exact rfl;exact hmA;exact rfl)|(apply YO.ldS;exact t2A;exact rfl;exact hsA;omega)|(apply YO.ldB;exact t2A;exact rfl;exact meA;exact rfl));done)|fail):G:=h
def wq145{G:Prop}(h:G:=by first|((first|exact wq59|(apply YO.QR;exact T.Vu;exact rfl;exact wq2)|(apply YO.QR;exact T.Vh;exact rfl;exact wq2));done)|fail):G:=h
def wq146{G:Prop}(h:G:=by first|((focus((repeat(first|exact Ku.nil _|(apply Ku.cons;exact rfl;exact wq11)));done));done)|fail):G:=h
def wq147{G:Prop}(h:G:=by first|((first|exact wq57|(apply YO.QR;exact T.f42_0;exact rfl;exact wq2)|(apply YO.QR;exact T.f42_1;exact rfl;exact wq2)|(apply YO.QR;exact T.f42_2;exact rfl;exact wq2)|(apply YO.QR;exact T.f35_0;exact rfl;exact wq2)|(apply YO.QR;exact T.f35_1;exact rfl;exact wq2)|(apply YO.QR;exact T.f35_2;exact rfl;exact wq2));done)|fail):G:=h
def wq148{G:Prop}(h:G:=by first|((first|(apply YO.len;exact T.s47;exact rfl;exact wq33)|(apply YO.len;exact T.s47;exact rfl;exact wq37)|(apply YO.len;exact T.s47;exact rfl;exact knA)|(apply YO.len;(first|exact wq50|exact wq79|exact T.s24|exact wq17|exact T.s47);exact rfl;exact knS_nil'));done)|fail):G:=h
def wq149{G:Prop}(h:G:=by first|((first|(apply YO.ldC;exact T.r53;exact rfl;exact meA;exact wq13)|(apply YO.HX;exact T.r53;exact rfl;exact hmA;exact wq13)|(apply YO.ldFi;exact sc_int;exact rfl;exact meA;exact rfl)|(apply YO.ldPa;exact wq20;exact rfl;exact hmA;omega)|exact wq60);done)|fail):G:=h
def wq150{G:Prop}(h:G:=by first|((refine WC.ret ?_;exact Fp [isZ (.agg #[.bool true,d3]) (x/y),isZ (.agg #[nq,d4]) (x%y)] (Qf.cc rfl rfl rfl meA meA T.r73 rfl T.r73 rfl) haA ⟨true,d3,false,d4,rfl,wq18,hb4,rfl,rfl⟩);done)|fail):G:=h
def wq151{G:Prop}(h:G:=by first|((first|exact wq89|(apply YO.QR;exact T.f49_0;exact rfl;exact wq2)|(apply YO.QR;exact T.f49_1;exact rfl;exact wq2)|(apply YO.QR;exact T.GH;exact rfl;exact wq2));done)|fail):G:=h
def wq152{G:Prop}(h:G:=by first|((first|(apply YO.len;exact wq17;exact rfl;exact wq33)|(apply YO.len;exact wq17;exact rfl;exact wq37)|(apply YO.len;exact wq17;exact rfl;exact knA));done)|fail):G:=h
def wq153{G:Prop}(h:G:=by first|((apply YO.shr';exact rfl;exact rfl;omega;omega);done)|fail):G:=h
def wq154{G:Prop}(h:G:=by first|((first|(apply YO.ldC;exact T.r49;exact rfl;exact meA;exact wq13)|(apply YO.HX;exact T.r49;exact rfl;exact hmA;exact wq13)|exact wq70);done)|fail):G:=h
def wq155{G:Prop}(h:G:=by first|((first|(apply YO.ldC;exact T.r98;exact rfl;exact meA;exact wq13)|(apply YO.HX;exact T.r98;exact rfl;exact hmA;exact wq13));done)|fail):G:=h
def wq156{G:Prop}(h:G:=by first|((first|(apply YO.Z8;exact wq17;exact rfl;exact knA;assumption)|(apply YO.Z7;exact wq17;exact rfl;exact knA;assumption));done)|fail):G:=h
def wq157{G:Prop}(h:G:=by first|((first|exact wq113|(apply YO.QR;exact T.f53_0;exact rfl;exact wq2)|(apply YO.QR;exact T.GF;exact rfl;exact wq2));done)|fail):G:=h
def wq158{G:Prop}(h:G:=by first|((apply YO.ldL;exact t4A;exact rfl;exact hmA;(apply Off.add;exact Off.base;exact wq2);omega;decide;exact wq13);done)|fail):G:=h
def wq159{G:Prop}(h:G:=by first|((first|exact wq42|exact Jf|exact YU|exact Zd|exact Jv|exact Zp|exact wq22|exact Vx|exact wq45|exact X7);done)|fail):G:=h
def wq160{G:Prop}(h:G:=by first|((first|exact T.sc3|exact T.sc4|exact T.DZ|exact T.DY|exact T.Ks|exact T.Ua|exact T.Um|exact T.Uo);done)|fail):G:=h
def wq161{G:Prop}(h:G:=by first|((first|exact T.r39|exact T.r63|exact T.r77|exact T.r88|exact T.r93|exact T.r127|exact T.r163);done)|fail):G:=h
def wq162{G:Prop}(h:G:=by first|((first|exact T.r73|exact T.r75|exact T.r118|exact T.r122|exact T.r141);done)|fail):G:=h
def wq163{G:Prop}(h:G:=by first|((apply YO.ixNI;exact T.a22;exact rfl;exact rfl;omega;omega;exact wq2);done)|fail):G:=h
def wq164{G:Prop}(h:G:=by first|((first|exact wq140|(apply YO.ix1;exact t6A;exact rfl;exact rfl;exact knA;exact wq25)|(apply YO.ix;exact t6A;exact rfl;exact rfl;exact knA;exact wq25)|(apply YO.XT;exact t6A;exact rfl;exact rfl;exact knA;omega;exact wq25));done)|fail):G:=h
def wq165{G:Prop}(h:G:=by first|((first|exact Off.base|(apply Off.add;exact Off.base;exact wq2)|(apply Off.add;apply Off.add;exact Off.base;exact wq2;exact wq2)|(apply Off.add;apply Off.add;apply Off.add;exact Off.base;exact wq2;exact wq2;exact wq2));done)|fail):G:=h
def wq166{G:Prop}(h:G:=by first|((first|(apply YO.ix1;exact t6A;exact rfl;exact rfl;exact knA;exact wq24)|(apply YO.ix;exact t6A;exact rfl;exact rfl;exact knA;exact wq24)|(apply YO.XT;exact t6A;exact rfl;exact rfl;exact knA;omega;exact wq24));done)|fail):G:=h
def wq167{G:Prop}(h:G:=by first|((first|exact XA|(first|exact wq16|exact wq43)|exact wq39|exact Jv|exact wq19|(first|exact wq135|exact wq8));done)|fail):G:=h
def wq168{G:Prop}(h:G:=by first|((apply YO.nil;exact rfl);done)|fail):G:=h
def wq169{G:Prop}(h:G:=by first|((first|exact wq143|exact wq144|(apply YO.KD;exact t2A;exact rfl;exact meA;exact wq25));done)|fail):G:=h
def wq170{G:Prop}(h:G:=by first|((first|rfl|assumption|decide);done)|fail):G:=h
theorem qo{p:Prop}(h:p:=by omega):p:=h
theorem qd{p:Prop}(h:p:=by decide):p:=h
theorem qr{p:Prop}(h:p:=by exact rfl):p:=h
theorem kr{α:Type}{a b:α}(h:a=b:=by kernel_rfl):a=b:=h
section
open Go.RowKit
open Go.Conc (G listed)
namespace W
section
variable {P:nh}{m:Bool}{b:nu}{a:Act}{k k':List Item}{cs:List nu}{w w':nm}{x y c:Code}{l id:Nat}{ops:Array Oper}{i:Nat}{rest:List Nat}{o:Oper}{v:nA}
def sg_skip:stepG P m (G (b.atR a (.code .skip::k)) cs) w=.go (G (b.atR a k) cs) w #[]:=by simp[G,stepG,stepG.exec,Frame.atR]
def sg_label:stepG P m (G (b.atR a (.code (.label l)::k)) cs) w=.go (G (b.atR a k) cs) w #[]:=by simp[G,stepG,stepG.exec,Frame.atR]
def KB:stepG P m (G (b.atR a (.inBlock id::k)) cs) w=.go (G (b.atR a k) cs) w #[]:=by simp[G,stepG,stepG.exec,Frame.atR]
def sg_inScope:stepG P m (G (b.atR a (.inScope c::k)) cs) w=.go (G (b.atR a k) cs) w #[]:=by simp[G,stepG,stepG.exec,Frame.atR]
def X1:stepG P m (G (b.atR a (.code (.seq x y)::k)) cs) w=.go (G (b.atR a (.code x::.code y::k)) cs) w #[]:=by simp[G,stepG,stepG.exec,Frame.atR]
def VA{u:ni}{t:Bool}(h:a.eval u=.bool t):stepG P m (G (b.atR a (.code (.cond u x y)::k)) cs) w=.go (G (b.atR a (.code (if t then x else y)::k)) cs) w #[]:=by
 have:=congrFun (Frame.eval_atR b a (.code (.cond u x y)::k)) u;simp only[Frame.atR] at this;simp[G,stepG,stepG.exec,Frame.atR,this,h]
def Up:stepG P m (G (b.atR a (.code (.block id c)::k)) cs) w=.go (G (b.atR a (.code c::.inBlock id::k)) cs) w #[]:=by simp[G,stepG,stepG.exec,Frame.atR]
def sg_scope:stepG P m (G (b.atR a (.code (.scope c)::k)) cs) w=.go (G (b.atR a (.code c::.inScope c::k)) cs) w #[]:=by simp[G,stepG,stepG.exec,Frame.atR]
def DG:stepG P m (G (b.atR a (.code (.loop c)::k)) cs) w=.go (G (b.atR a (.code c::.inLoop c::k)) cs) w #[]:=by simp[G,stepG,stepG.exec,Frame.atR]
def UT:stepG P m (G (b.atR a (.inLoop c::k)) cs) w=.go (G (b.atR a (.code c::.inLoop c::k)) cs) w #[]:=by simp[G,stepG,stepG.exec,Frame.atR]
def sg_exit(h:exitTo id k=some k'):stepG P m (G (b.atR a (.code (.exit id)::k)) cs) w=.go (G (b.atR a k') cs) w #[]:=by simp[G,stepG,stepG.exec,Frame.atR,h]
def sg_ret(hb:b.roundOf=none):stepG P m (G (b.atR a (.code .ret::k)) cs) w=.go (G {b.atR a (.code .ret::k) with mode:=.returning} cs) w #[]:=by simp[G,stepG,stepG.exec,Frame.atR,hb]
def sg_end(hb:b.roundOf=none):stepG P m (G (b.atR a []) cs) w=.go (G {b.atR a [] with mode:=.returning} cs) w #[]:=by simp[G,stepG,stepG.exec,Frame.atR,hb]
def Y6:stepG P m (G (b.atR a (.code (.region id ops false)::k)) cs) w=.go (G (b.atR a (.inRegion ops (List.range ops.size)::k)) cs) w #[]:=by simp[G,stepG,stepG.exec,Frame.atR]
def J5:stepG P m (G (b.atR a (.inRegion ops []::k)) cs) w=.go (G (b.atR a k) cs) w #[]:=by simp[G,stepG,stepG.exec,Frame.atR]
def sg_draw:stepG P m (G (b.atR a (.code (.region id ops true)::k)) cs) w =
  .go (G (b.atR a (.inRegion ops (Region.schedule (P.follows .mixedOrders) ops (w.tape w.drawn (.order b.fn id)))::k)) cs) {w with drawn:=w.drawn+1} #[]:=by
 simp[G,stepG,stepG.exec,Frame.atR,choose,Sem.run,Question.forced,Question.cut]
def ZH(ho:ops[i]?=some o)(v:nA):(b.atR a (.inRegion ops (i::rest)::k)).finish v=b.atR (a.put o.dst v) (.inRegion ops rest::k):=by rw[Frame.finish_atR,ho];rfl
def sg_unwanted(ho:ops[i]?=some o)(hw:Region.wanted o (yielded ops a.tmps)=false):stepG P m (G (b.atR a (.inRegion ops (i::rest)::k)) cs) w=.go (G (b.atR (a.put o.dst undef) (.inRegion ops rest::k)) cs) w #[]:=by
 rw[<-ZH ho];simp[G,stepG,stepG.exec,Frame.atR,ho,hw]
def VN(ho:ops[i]?=some o)(hw:Region.wanted o (yielded ops a.tmps)=true)(hd:∀c,o.op≠.defer c) :
  stepG P m (G (b.atR a (.inRegion ops (i::rest)::k)) cs) w=stepG.apply P true (b.atR a (.inRegion ops (i::rest)::k)) cs none (execOp a.eval o) w:=by
 have he:=Frame.eval_atR b a (.inRegion ops (i::rest)::k);simp only[Frame.atR] at he;simp only[G,stepG,stepG.exec,stepG.oper,Frame.oper?,Frame.atR,ho,hw,he,dU,cu,dc];cases hb:b.roundOf with
 |none=>rfl
 |some l=>cases hop:o.op<;>first|rfl|exact absurd hop (hd _)
def H0(ho:ops[i]?=some o)(hw:Region.wanted o (yielded ops a.tmps)=true)(hd:∀c,o.op≠.defer c)(hk:b.kind≠.early)(hr:(execOp a.eval o).run P w=.ok (.value v) w') :
  stepG P m (G (b.atR a (.inRegion ops (i::rest)::k)) cs) w=.go (G (b.atR (a.put o.dst v) (.inRegion ops rest::k)) cs) w' (listed P b.fn a o w):=by
 have hk':(b.kind == CallKind.early)=false:=by simpa using hk
 rw[VN ho hw hd,<-ZH ho];simp[stepG.apply,hr,G,Frame.atR,hk',GStep.after,listed]
def sg_none(ho:ops[i]?=some o)(hw:Region.wanted o (yielded ops a.tmps)=true)(hd:∀c,o.op≠.defer c)(hk:b.kind≠.early)(hr:(execOp a.eval o).run P w=.ok .skip w') :
  stepG P m (G (b.atR a (.inRegion ops (i::rest)::k)) cs) w=.go (G (b.atR (a.put o.dst undef) (.inRegion ops rest::k)) cs) w' (listed P b.fn a o w):=by
 have hk':(b.kind == CallKind.early)=false:=by simpa using hk
 rw[VN ho hw hd,<-ZH ho];simp[stepG.apply,hr,G,Frame.atR,hk',GStep.after,listed]
def sg_enter{f:np}{args:Array nA}(ho:ops[i]?=some o)(hw:Region.wanted o (yielded ops a.tmps)=true)(hd:∀c,o.op≠.defer c)(hk:b.kind≠.early)(hr:(execOp a.eval o).run P w=.ok (.enter f args) w') :
  stepG P m (G (b.atR a (.inRegion ops (i::rest)::k)) cs) w=.go (G (Frame.enter P f args .normal) (b.atR a (.inRegion ops (i::rest)::k)::cs)) w' (listed P b.fn a o w):=by
 have hk':(b.kind == CallKind.early)=false:=by simpa using hk
 rw[VN ho hw hd];simp[stepG.apply,hr,G,Frame.atR,hk',GStep.after,listed]
def sg_round{l:Nat}{f:np}{tmps:Array nA}(ho:ops[i]?=some o)(hw:Region.wanted o (yielded ops a.tmps)=true)(hd:∀c,o.op≠.defer c)(hk:b.kind≠.early)(hr:(execOp a.eval o).run P w=.ok (.round l f tmps x y) w') :
  stepG P m (G (b.atR a (.inRegion ops (i::rest)::k)) cs) w=.go (G (Frame.round l f tmps x y .normal) (b.atR a (.inRegion ops (i::rest)::k)::cs)) w' (listed P b.fn a o w):=by
 have hk':(b.kind == CallKind.early)=false:=by simpa using hk
 rw[VN ho hw hd];simp[stepG.apply,hr,G,Frame.atR,hk',GStep.after,listed]
def ZN{ρ:ni->nA}{n:Next}(hr:(execOp ρ o).run P w=.ok n w')(hn:∀d,n≠.defer d):∀c,o.op≠.defer c:=by
 intro c hc
 have:(execOp ρ o).run P w=((resolve ρ c o.type).bind λd=>Sem.pure (Next.defer d)).run P w:=by
  simp only[execOp,hc];rfl
 rw[hr,Sem.run_bind'] at this;cases hx:(resolve ρ c o.type).run P w with
 |ok d w1=>
  rw[hx] at this;simp[Result.andThen,Sem.run] at this;exact hn _ this.1
 |halt h w1=>rw[hx] at this;simp[Result.andThen] at this
def mkD(D:Nat):Deferred:={target:=.collected D,args:=#[]}
def XO(l:Nat)(f:np):nu:={(default:nu) with fn:=f,kind:=.normal,roundOf:=some l}
def round_at{l:Nat}{f:np}{tmps:Array nA}:Frame.round l f tmps x y .normal=(XO l f).atR ⟨tmps,[]⟩ [.code x,.beginRound,.code y]:=rfl
def KQ{r:Loop}(hl:b.roundOf=some l)(hk:b.kind≠.early)(h:w.heap[l]?=some (.loop r))(hr:r.state=.ready) :
  stepG P m (G (b.atR a (.beginRound::k)) cs) w=.go (G (b.atR a k) cs) (w.putObj l (.loop {r with state:=.busy})) (seen P b.fn ((Instr.beginRound l).events P w #[])):=by
 have hk':(b.kind == CallKind.early)=false:=by simpa using hk
 have h1:=run_beginRound (P:=P) h hr;simp[G,stepG,stepG.exec,stepG.apply,Frame.atR,hl,hk',h1,GStep.after,Frame.finish]
def Gd{r:Loop}{j:Code}(hl:b.roundOf=some l)(hk:b.kind=.normal)(h:w.heap[l]?=some (.loop r))(hj:j=.ret\/∃id,j=.exit id/\exitTo id k=none){c0:nu} :
  stepG P m (G (b.atR a (.code j::k)) (c0::cs)) w=.go (G (c0.finish nq) cs) (w.putObj l (.loop {r with state:=.done,pending:=some j})) (seen P b.fn ((Instr.endRound l (some j)).events P w #[])):=by
 have h1:=run_endRound (P:=P) (some j) h;rcases hj with rfl|⟨id,rfl,hid⟩
 .simp[G,stepG,stepG.exec,Frame.atR,hl,hk,h1,GStep.after,doReturn]
 .simp[G,stepG,stepG.exec,Frame.atR,hl,hk,h1,GStep.after,doReturn,hid]
def sg_endRange{r:Loop}(h:w.heap[l]?=some (.loop r))(hb:r.state≠.busy) :
  stepG P m (G (b.atR a (.endRangeFunc l::k)) cs) w=.go (G (b.atR a ((r.pending.map Item.code).toList++k)) cs) (w.putObj l (.loop {r with state:=.exhausted})) (seen P b.fn ((Instr.endLoop l).events P w #[])):=by
 have h1:=run_endLoop (P:=P) h hb;simp[G,stepG,stepG.exec,Frame.atR,h1,GStep.after]
def HT{D:Nat}{ds:List Deferred}{tmps:Array nA}{todo:List Item}(h:w.heap[D]?=some (.deferred (some []))) :
  stepG P m (G {b.atR ⟨tmps,mkD D::ds⟩ todo with mode:=.returning} cs) w=.go (G {b.atR ⟨tmps,ds⟩ todo with mode:=.returning} cs) (w.putObj D (.deferred none)) (seen P b.fn ((Instr.takeDeferred D).events P w #[])):=by
 have h1:=run_takeDeferred (P:=P) h;simp[G,stepG,unwind,Frame.atR,mkD,h1,GStep.after]
def sg_range {g:ni} {ps:Array Tmp} {gf:np} {lb:Array nA} (hb:b.roundOf=none) (hk:b.kind≠.early) (hg:a.eval g=.func (.func gf) #[] lb) (hc:∃fn,P.funcs[gf]?=some fn/\(fn.name == "runtime.NumGoroutine")=false/\fn.body.isNone=false) :
  stepG P m (G (b.atR a (.code (.rangeFunc g ps x y)::k)) cs) w =
   .go (G (Frame.enter P gf (#[.func (.yield (w.heap.size+1)) #[] #[]]++lb) .normal) (b.atR ⟨a.tmps,mkD w.heap.size::a.defers⟩ (.inRangeFunc (w.heap.size+1)::k)::cs))
    ((w.alloc (.deferred (some []))).alloc (.loop {state:=.ready,pending:=none,fn:=b.fn,tmps:=a.tmps,params:=ps,assign:=x,body:=y,defers:=w.heap.size})) #[]:=by
 obtain⟨fn,h1,h2,h3⟩:=hc;have hk':(b.kind == CallKind.early)=false:=by simpa using hk
 have h2':¬fn.name= "runtime.NumGoroutine":=by simpa using h2
 have h3':¬fn.body=none:=by cases hb:fn.body<;>simp_all
 have he:=run_enterLoop_outer (P:=P) (w:=w) b.fn a.tmps ps x y;have hev:=congrFun (Frame.eval_atR b a (.code (.rangeFunc g ps x y)::k)) g;simp only[Frame.atR] at hev
 have hev2:∀todo (ds:List Deferred),Frame.eval {fn:=b.fn,tmps:=a.tmps,todo:=todo,defers:=ds,mode:=.run,kind:=b.kind,roundOf:=none} g=.func (.func gf) #[] lb:=λtodo ds=>by
  rw[<-hg];cases g<;>rfl
 simp[G,stepG,stepG.exec,Frame.atR,hb,he,GStep.after,stepG.apply,hk',resolve,hev2,Deferred.ofValue,invoke,callFunc,program,Sem.run,h1,h2',h3',mkD,show ∀fr:nu,fr.eval (.const (.func (.yield (w.heap.size+1)) #[] #[]))=.func (.yield (w.heap.size+1)) #[] #[] from λ_=>rfl];exact⟨rfl,rfl⟩
def ZU{r:Nat}{o:Obj}{es:Array Event}(h:w.heap[r]?=some o)(hc:∀vs ty fr,o≠.cells vs ty fr):(getObj r).events P w es=es.push ⟨.obj r,false,o.isChan⟩:=by
 cases o<;>first|exact absurd rfl (hc _ _ _)|simp[getObj,Sem.events,Sem.runT,h,-Sem.runT_eq]
def XH{r:Nat}{o o':Obj}{es:Array Event}(h:w.heap[r]?=some o')(hc:∀vs ty fr,o'≠.cells vs ty fr):(setObj r o).events P w es=es.push ⟨.obj r,true,o.isChan⟩:=by
 cases o'<;>first|exact absurd rfl (hc _ _ _)|simp[setObj,Sem.events,Sem.runT,h,-Sem.runT_eq]
def XU{r:Nat}{o:Loop}{es:Array Event}(h:w.heap[r]?=some (.loop o)):(Instr.getLoop r).events P w es=es.push ⟨.obj r,false,false⟩:=by
 have h1:=ZU (P:=P) (es:=es) h (by simp);have h2:(getObj r).run P w=.ok (.loop o) w:=by simp[getObj,Sem.run,h]
 simp[Instr.getLoop,h1,h2,Obj.isChan]
def Va{r:Nat}{o:Obj}(h:w.heap[r]?=some o)(hc:∀vs ty fr,o≠.cells vs ty fr):(getObj r).run P w=.ok o w:=by
 cases o<;>first|exact absurd rfl (hc _ _ _)|simp[getObj,Sem.run,h]
def YN{r:Nat}{o o':Obj}(h:w.heap[r]?=some o')(hc:∀vs ty fr,o'≠.cells vs ty fr):(setObj r o).run P w=.ok () (w.putObj r o):=by
 cases o'<;>first|exact absurd rfl (hc _ _ _)|simp[setObj,Sem.run,h,World.putObj]
def run_getLoop{r:Nat}{o:Loop}(h:w.heap[r]?=some (.loop o)):(Instr.getLoop r).run P w=.ok o w:=by
 have h2:=Va (P:=P) h (by simp);simp[Instr.getLoop,h2]
def Yg{D:Nat}{ds:List Deferred}{es:Array Event}(h:w.heap[D]?=some (.deferred (some ds))) :
  (Instr.takeDeferred D).events P w es=(es.push ⟨.obj D,false,false⟩).push ⟨.obj D,true,false⟩:=by
 simp[Instr.takeDeferred,ZU h,Va h,XH h,YN h,Obj.isChan]
def YF{r:Loop}{es:Array Event}(h:w.heap[l]?=some (.loop r))(hr:r.state=.ready) :
  (Instr.beginRound l).events P w es=(es.push ⟨.obj l,false,false⟩).push ⟨.obj l,true,false⟩:=by
 simp[Instr.beginRound,XU h,run_getLoop h,XH h,YN h,Obj.isChan,hr]
def Za{r:Loop}{es:Array Event}{j:Option Code}(h:w.heap[l]?=some (.loop r)) :
  (Instr.endRound l j).events P w es=(es.push ⟨.obj l,false,false⟩).push ⟨.obj l,true,false⟩:=by
 simp[Instr.endRound,XU h,run_getLoop h,XH h,YN h,Obj.isChan]
def Hh{r:Loop}{es:Array Event}(h:w.heap[l]?=some (.loop r))(hr:r.state≠.busy) :
  (Instr.endLoop l).events P w es=(es.push ⟨.obj l,false,false⟩).push ⟨.obj l,true,false⟩:=by
 simp[Instr.endLoop,XU h,run_getLoop h,XH h,YN h,Obj.isChan,hr]
def K5{r:Loop}{es:Array Event}{args:Array nA}(h:w.heap[l]?=some (.loop r))(ha:args.size=r.params.size) :
  (Instr.yield l args).events P w es=es.push ⟨.obj l,false,false⟩:=by
 simp[Instr.yield,XU h,run_getLoop h,ha]
def Zu{r:Loop}{args:Array nA}(h:w.heap[l]?=some (.loop r))(ha:args.size=r.params.size) :
  (Instr.yield l args).run P w=.ok (.round l r.fn ((r.params.zip args).foldl (λtmps (t,a)=>tmps.setIfInBounds t a) r.tmps) r.assign r.body) w:=by
 simp[Instr.yield,run_getLoop h,ha]
end
end W
end
section
open Go.RowKit
open Go.Conc (G base listed)
namespace W
structure Rest(w w':nm):Prop where
 os:w'.os=w.os
 tape:w'.tape=w.tape
 output:w'.output=w.output
def Rest.refl(w:nm):Rest w w:=⟨rfl,rfl,rfl⟩
def Rest.trans{a b c:nm}(h:Rest a b)(k:Rest b c):Rest a c:=⟨k.os.trans h.os,k.tape.trans h.tape,k.output.trans h.output⟩
def Rest.drawn(w:nm)(n:Nat):Rest w {w with drawn:=n}:=⟨rfl,rfl,rfl⟩
abbrev Bk:=Nat->Prop
structure Rly(own sh:Bk)(w w1:nm):Prop where
 rest:Rest w w1
 size:w.heap.size<=w1.heap.size
 keep:∀k,k<w.heap.size->own k\/sh k->w1.heap[k]?=w.heap[k]?
def Rly.refl(own sh:Bk)(w:nm):Rly own sh w w:=⟨.refl w,ai _,λ_ _ _=>rfl⟩
def Rly.trans{own sh:Bk}{a b c:nm}(h:Rly own sh a b)(k:Rly own sh b c):Rly own sh a c:=
 ⟨h.rest.trans k.rest,aL h.size k.size,λi hi ho=>(k.keep i (aw hi h.size) ho).trans (h.keep i hi ho)⟩
def grow(own:Bk)(w w':nm):Bk:=λk=>own k\/(w.heap.size<=k/\k<w'.heap.size)
def QW{own:Bk}{w w':nm}(h:w'.heap.size<=w.heap.size):grow own w w'=own:=by
 funext k;apply propext;unfold grow
 exact⟨λx=>x.elim id λy=>absurd y.2 qo,.inl⟩
def Yk(own sh:Bk)(e:Event):Prop:=(∃a,e.loc=.cell a/\(own a.block\/(sh a.block/\e.write=false)))\/(∃m,e=⟨.mark m,false,true⟩/\Go.Conc.Neutral m)\/∃r,e.loc=.obj r/\own r
def Yk.mono{own own' sh:Bk}{e:Event}(h:Yk own sh e)(ho:∀k,own k->own' k):Yk own' sh e:=
 h.imp (λ⟨a,h2,h3⟩=>⟨a,h2,h3.imp (ho _) id⟩) (Or.imp id λ⟨r,h2,h3⟩=>⟨r,h2,ho _ h3⟩)
structure X8(own sh:Bk)(w w':nm)(es:Array Event):Prop where
 rest:Rest w w'
 size:w.heap.size<=w'.heap.size
 keep:∀k,k<w.heap.size->¬own k->w'.heap[k]?=w.heap[k]?
 evs:∀e∈es,Yk (grow own w w') sh e
def X8.idle(own sh:Bk)(w:nm):X8 own sh w w #[]:=⟨.refl w,ai _,λ_ _ _=>rfl,λe he=>by simp at he⟩
def X8.drawn(own sh:Bk)(w:nm)(n:Nat):X8 own sh w {w with drawn:=n} #[]:=⟨.drawn w n,ai _,λ_ _ _=>rfl,λe he=>by simp at he⟩
structure Md where
 b:Bool
 inv:nm->Prop
 ok:Bk->Bk->nm->nm->Array Event->Bk->Prop
 Sp:Bk->Bk->Goroutine->nm->(Bk->Goroutine->nm->Prop)->Prop
 no:Bk
def Fair(main:Md)(sh own:Bk)(w w':nm)(es:Array Event)(own':Bk):Prop:=(X8 own sh w w' es/\own'=grow own w w')\/main.ok sh own w w' es own'
section
variable (P:nh)(main:Md)(sh:Bk)(Stop:Bk->Goroutine->nm->Prop)
inductive Run:Bk->Goroutine->nm->Prop where
 |stop {own:Bk} {g:Goroutine} {w:nm}:(∀w1,Rly own sh w w1->Stop own g w1)->Run own g w
 |step {own:Bk} {g:Goroutine} {w:nm} (g':nm->Goroutine) (w':nm->nm) (es:nm->Array Event) (own':nm->Bk):g.status=.running->
   (∀w1,Rly own sh w w1->main.inv w1->stepG P main.b g w1=.go (g' w1) (w' w1) (es w1)/\Fair main sh own w1 (w' w1) (es w1) (own' w1))->
   (∀w1,Rly own sh w w1->main.inv w1->Run (own' w1) (g' w1) (w' w1))->Run own g w
 |stroke {own:Bk} {g:Goroutine} {w:nm} (K:Bk->Goroutine->nm->Prop):g.status=.running->(∀w1,Rly own sh w w1->main.Sp sh own g w1 K)->
   (∀own' g' w',K own' g' w'->Run own' g' w')->Run own g w
end
section
variable {P:nh}{main:Md}{sh:Bk}{Stop:Bk->Goroutine->nm->Prop}{own:Bk}{g g':Goroutine}{w w1:nm}
def Run.rely(h:Run P main sh Stop own g w)(hr:Rly own sh w w1):Run P main sh Stop own g w1:=by
 cases h with
 |stop h=>exact .stop λw2 h2=>h w2 (hr.trans h2)
 |step g' w' es own' h1 h2 h3=>exact .step g' w' es own' h1 (λw2 h=>h2 w2 (hr.trans h)) λw2 h=>h3 w2 (hr.trans h)
 |stroke K h1 h2 h3=>exact .stroke K h1 (λw2 h=>h2 w2 (hr.trans h)) h3
def Run.goF(hs:g.status=.running)(h:∀w1,Rly own sh w w1->main.inv w1->∃g' w' es own',stepG P main.b g w1=.go g' w' es/\Fair main sh own w1 w' es own'/\Run P main sh Stop own' g' w'):Run P main sh Stop own g w:=by
 classical
 have h:∀w1,Rly own sh w w1/\main.inv w1->∃g' w' es own',stepG P main.b g w1=.go g' w' es/\Fair main sh own w1 w' es own'/\Run P main sh Stop own' g' w':=λw1 h1=>h w1 h1.1 h1.2
 refine .step (λw1=>if hr:Rly own sh w w1/\main.inv w1 then(h w1 hr).choose else g) (λw1=>if hr:Rly own sh w w1/\main.inv w1 then(h w1 hr).choose_spec.choose else w1)
  (λw1=>if hr:Rly own sh w w1/\main.inv w1 then(h w1 hr).choose_spec.choose_spec.choose else #[]) (λw1=>if hr:Rly own sh w w1/\main.inv w1 then(h w1 hr).choose_spec.choose_spec.choose_spec.choose else own) hs (λw1 hr hi=>?_) λw1 hr hi=>?_
 .simp only[dif_pos (show Rly own sh w w1/\main.inv w1 from⟨hr,hi⟩)];have:=(h w1 ⟨hr,hi⟩).choose_spec.choose_spec.choose_spec.choose_spec;exact⟨this.1,this.2.1⟩
 .simp only[dif_pos (show Rly own sh w w1/\main.inv w1 from⟨hr,hi⟩)];exact(h w1 ⟨hr,hi⟩).choose_spec.choose_spec.choose_spec.choose_spec.2.2
def Run.go(hs:g.status=.running)(h:∀w1,Rly own sh w w1->∃g' w' es,stepG P main.b g w1=.go g' w' es/\X8 own sh w1 w' es/\Run P main sh Stop (grow own w1 w') g' w'):Run P main sh Stop own g w:=
 Run.goF hs λw1 hr _=>let ⟨g',w',es,h1,h2,h3⟩:=h w1 hr;⟨g',w',es,_,h1,.inl ⟨h2,rfl⟩,h3⟩
def Run.quiet(hs:g.status=.running)(h:∀w1,stepG P main.b g w1=.go g' w1 #[])(hk:Run P main sh Stop own g' w):Run P main sh Stop own g w:=
 Run.go hs λw1 hr=>⟨g',w1,#[],h w1,X8.idle _ _ _,by rw[QW (ai _)];exact hk.rely hr⟩
end
section
variable (P:nh)(main:Md)(sh:Bk)(Stop:Bk->Goroutine->nm->Prop)
def Leave(own:Bk)(b:nu)(cs:List nu)(jump:Code)(a:Act)(w:nm):Prop:=
 ∀k,(∀id,jump=.exit id->exitTo id k=none)->Run P main sh Stop own (G (b.atR a (.code jump::k)) cs) w
def After(own:Bk)(b:nu)(k:List Item)(cs:List nu):Exit->Act->nm->Prop
 |.normal,a,w=>Run P main sh Stop own (G (b.atR a k) cs) w
 |.exit id,a,w=>(∃k',exitTo id k=some k'/\Run P main sh Stop own (G (b.atR a k') cs) w)\/(b.roundOf≠none/\exitTo id k=none/\Leave P main sh Stop own b cs (.exit id) a w)
 |.ret,a,w=>(b.roundOf=none->∀todo,Run P main sh Stop own (G {b.atR a todo with mode:=.returning} cs) w)/\(b.roundOf≠none->Leave P main sh Stop own b cs .ret a w)
 |_,_,_=>False
end
def wpR(P:nh)(main:Md)(sh:Bk)(c:Code)(Q:Bk->Exit->Act->nm->Prop)(own:Bk)(a:Act)(w:nm):Prop:=
 ∀b k cs Stop,b.kind≠.early->(∀own' e a' w',Q own' e a' w'->After P main sh Stop own' b k cs e a' w')->Run P main sh Stop own (G (b.atR a (.code c::k)) cs) w
def Vr(P:nh)(main:Md)(sh:Bk)(ops:Array Oper)(todo:List Nat)(Q:Bk->Exit->Act->nm->Prop)(own:Bk)(a:Act)(w:nm):Prop:=
 ∀b k cs Stop,b.kind≠.early->(∀own' e a' w',Q own' e a' w'->After P main sh Stop own' b k cs e a' w')->Run P main sh Stop own (G (b.atR a (.inRegion ops todo::k)) cs) w
section
variable {P:nh}{main:Md}{sh:Bk}{Q Q':Bk->Exit->Act->nm->Prop}{own:Bk}{a:Act}{w w1:nm}{x y c:Code}
def After.push{Stop:Bk->Goroutine->nm->Prop}{b:nu}{it:Item}{k:List Item}{cs:List nu}{e:Exit}(hx:it.plain=true)(he:e≠.normal)(h:After P main sh Stop own b k cs e a w):After P main sh Stop own b (it::k) cs e a w:=by
 cases e with
 |normal=>exact absurd rfl he
 |exit id=>
  have hp:exitTo id (it::k)=exitTo id k:=by cases it<;>simp_all [exitTo,Item.plain]
  rcases h with ⟨k',hk,hg⟩|⟨h1,h2,h3⟩
  .exact .inl ⟨k',by rw[hp];exact hk,hg⟩
  .exact .inr ⟨h1,by rw[hp];exact h2,h3⟩
 |ret=>exact h
 |goto l=>exact h
 |panic ch=>exact h
 |outgrown=>exact h
def After.rely{Stop:Bk->Goroutine->nm->Prop}{b:nu}{k:List Item}{cs:List nu}{e:Exit}(h:After P main sh Stop own b k cs e a w)(hr:Rly own sh w w1):After P main sh Stop own b k cs e a w1:=by
 cases e with
 |normal=>exact Run.rely h hr
 |exit id=>exact Or.imp (λ⟨k',h1,h2⟩=>⟨k',h1,h2.rely hr⟩) (λ⟨h1,h2,h3⟩=>⟨h1,h2,λk hk=>(h3 k hk).rely hr⟩) h
 |ret=>exact⟨λhb todo=>(h.1 hb todo).rely hr,λhb k hk=>(h.2 hb k hk).rely hr⟩
 |goto l=>exact h
 |panic ch=>exact h
 |outgrown=>exact h
def XC(h:wpR P main sh c Q own a w)(hq:∀own' e a w,Q own' e a w->Q' own' e a w):wpR P main sh c Q' own a w:=
 λb k cs Stop hk hc=>h b k cs Stop hk λown' e a' w' q=>hc own' e a' w' (hq _ _ _ _ q)
def wpR_skip(h:Q own .normal a w):wpR P main sh .skip Q own a w:=λ_ _ _ _ _ hc=>Run.quiet rfl (λ_=>sg_skip) (hc _ _ _ _ h)
def wpR_label{l:Nat}(h:Q own .normal a w):wpR P main sh (.label l) Q own a w:=λ_ _ _ _ _ hc=>Run.quiet rfl (λ_=>sg_label) (hc _ _ _ _ h)
def wpR_ret(h:Q own .ret a w):wpR P main sh .ret Q own a w:=λb k _ _ _ hc=>by
 have:=hc _ _ _ _ h;by_cases hb:b.roundOf=none
 .exact Run.quiet rfl (λ_=>sg_ret hb) (this.1 hb _)
 .exact this.2 hb k λid e=>by cases e
def wpR_exit{id:Nat}(h:Q own (.exit id) a w):wpR P main sh (.exit id) Q own a w:=λb k _ _ _ hc=>by
 rcases hc _ _ _ _ h with ⟨k',hk',hg⟩|⟨_,h2,h3⟩
 .exact Run.quiet rfl (λ_=>sg_exit hk') hg
 .exact h3 k λid' e=>by cases e;exact h2
def thenR(P:nh)(main:Md)(sh:Bk)(y:Code)(Q:Bk->Exit->Act->nm->Prop):Bk->Exit->Act->nm->Prop
 |own,.normal,a,w=>wpR P main sh y Q own a w
 |own,e,a,w=>Q own e a w
def wpR_seq(h:wpR P main sh x (thenR P main sh y Q) own a w):wpR P main sh (.seq x y) Q own a w:=by
 intro b k cs Stop hk hc;refine Run.quiet rfl (λ_=>X1) (h b (.code y::k) cs Stop hk λown' e a' w' q=>?_);cases e with
 |normal=>exact q b k cs Stop hk hc
 |exit id=>exact(hc _ _ _ _ q).push rfl (by simp)
 |ret=>exact(hc _ _ _ _ q).push (it:=.code y) rfl (by simp)
 |goto l=>exact hc _ _ _ _ q
 |panic ch=>exact hc _ _ _ _ q
 |outgrown=>exact hc _ _ _ _ q
def wpR_cond{o:ni}{t:Bool}(hc:a.eval o=.bool t)(h:wpR P main sh (if t then x else y) Q own a w):wpR P main sh (.cond o x y) Q own a w:=
 λb k cs Stop hk hq=>Run.quiet rfl (λ_=>VA hc) (h b k cs Stop hk hq)
def inBlockR(id:Nat)(Q:Bk->Exit->Act->nm->Prop):Bk->Exit->Act->nm->Prop
 |own,.exit i,a,w=>if i=id then Q own .normal a w else Q own (.exit i) a w
 |own,e,a,w=>Q own e a w
def wpR_block{id:Nat}(h:wpR P main sh c (inBlockR id Q) own a w):wpR P main sh (.block id c) Q own a w:=by
 intro b k cs Stop hk hc;refine Run.quiet rfl (λ_=>Up) (h b (.inBlock id::k) cs Stop hk λown' e a' w' q=>?_);cases e with
 |normal=>exact Run.quiet rfl (λ_=>KB) (hc _ _ _ _ q)
 |exit i=>
  by_cases hid:i=id
  .simp only[inBlockR,hid,dc] at q;exact .inl ⟨k,by simp[exitTo,hid],hc _ _ _ _ q⟩
  .simp only[inBlockR,hid,dX] at q;have:(id == i)=false:=by simp;exact λh=>hid h.symm
   rcases hc _ _ _ _ q with ⟨k',hk',hg⟩|⟨h1,h2,h3⟩
   .exact .inl ⟨k',by simp[exitTo,this,hk'],hg⟩
   .exact .inr ⟨h1,by simp[exitTo,this,h2],h3⟩
 |ret=>exact hc _ _ _ _ q
 |goto l=>exact hc _ _ _ _ q
 |panic ch=>exact hc _ _ _ _ q
 |outgrown=>exact hc _ _ _ _ q
def wpR_scope(h:wpR P main sh c Q own a w):wpR P main sh (.scope c) Q own a w:=by
 intro b k cs Stop hk hc;refine Run.quiet rfl (λ_=>sg_scope) (h b (.inScope c::k) cs Stop hk λown' e a' w' q=>?_);cases e with
 |normal=>exact Run.quiet rfl (λ_=>sg_inScope) (hc _ _ _ _ q)
 |exit i=>
  rcases hc _ _ _ _ q with ⟨k',hk',hg⟩|⟨h1,h2,h3⟩
  .exact .inl ⟨k',by simpa [exitTo] using hk',hg⟩
  .exact .inr ⟨h1,by simpa [exitTo] using h2,h3⟩
 |ret=>exact hc _ _ _ _ q
 |goto l=>exact hc _ _ _ _ q
 |panic ch=>exact hc _ _ _ _ q
 |outgrown=>exact hc _ _ _ _ q
def wpR_loop{σ:Type}(I:σ->Bk->Act->nm->Prop)(μ:σ->Nat)(s0:σ)(h0:I s0 own a w)
  (round:∀s own a w,I s own a w->wpR P main sh c (λown' e a' w'=>match e with|.normal=>∃s',μ s'<μ s/\I s' own' a' w'|e=>Q own' e a' w') own a w):wpR P main sh (.loop c) Q own a w:=by
 intro b k cs Stop hk hc
 have key:∀(N:Nat) (s:σ) own a w,μ s<N->I s own a w->Run P main sh Stop own (G (b.atR a (.code c::.inLoop c::k)) cs) w:=by
  intro N;induction N with
  |zero=>intro s own a w h;omega
  |succ N ih=>
   intro s own a w hμ hI;refine round s own a w hI b (.inLoop c::k) cs Stop hk λown' e a' w' q=>?_;cases e with
   |normal=>
    obtain⟨s',h1,h2⟩:=q;exact Run.quiet rfl (λ_=>UT) (ih s' own' a' w' qo h2)
   |exit id=>exact(hc _ _ _ _ q).push rfl (by simp)
   |ret=>exact(hc _ _ _ _ q).push (it:=.inLoop c) rfl (by simp)
   |goto l=>exact hc _ _ _ _ q
   |panic ch=>exact hc _ _ _ _ q
   |outgrown=>exact hc _ _ _ _ q
 exact Run.quiet rfl (λ_=>DG) (key (μ s0+1) s0 own a w qo h0)
def wpR_region{id:Nat}{ops:Array Oper}(h:Vr P main sh ops (List.range ops.size) Q own a w):wpR P main sh (.region id ops false) Q own a w:=
 λb k cs Stop hk hc=>Run.quiet rfl (λ_=>Y6) (h b k cs Stop hk hc)
def HK{ops:Array Oper}(h:Q own .normal a w):Vr P main sh ops [] Q own a w:=λ_ _ _ _ _ hc=>Run.quiet rfl (λ_=>J5) (hc _ _ _ _ h)
def Km{ops:Array Oper}{i:Nat}{rest:List Nat}{o:Oper}(ho:ops[i]?=some o)(hw:Region.wanted o (yielded ops a.tmps)=false)(h:Vr P main sh ops rest Q own (a.put o.dst undef) w):Vr P main sh ops (i::rest) Q own a w:=
 λb k cs Stop hk hc=>Run.quiet rfl (λ_=>sg_unwanted ho hw) (h b k cs Stop hk hc)
def Gj{id:Nat}{ops:Array Oper}(hm:P.follows .mixedOrders=true)(h:∀w1,Rly own sh w w1->∀t,Vr P main sh ops (Region.linearise .any ops t) Q own a {w1 with drawn:=w1.drawn+1}):wpR P main sh (.region id ops true) Q own a w:=
 λb k cs Stop hk hc=>Run.go rfl λw1 hr=>⟨_,_,_,sg_draw,X8.drawn _ _ _ _,by
  rw[show grow own w1 {w1 with drawn:=w1.drawn+1}=own from QW (ai _)];have:=h w1 hr (w1.tape w1.drawn (.order b.fn id)) b k cs Stop hk hc;simp only[Region.schedule,hm,Bool.true_or,dc];exact this⟩
end
def Kb(P:nh)(main:Md)(sh:Bk)(c:Code)(Q:Bk->Exit->Act->nm->Prop)(own:Bk)(a:Act)(w:nm):Prop:=
 ∀b k cs Stop,b.roundOf=none->b.kind≠.early->(∀own' e a' w',Q own' e a' w'->After P main sh Stop own' b k cs e a' w')->Run P main sh Stop own (G (b.atR a (.code c::k)) cs) w
section
variable {P:nh}{main:Md}{sh:Bk}{Q Q':Bk->Exit->Act->nm->Prop}{own:Bk}{a:Act}{w w1:nm}{x y c:Code}
def DR(h:wpR P main sh c Q own a w):Kb P main sh c Q own a w:=λb k cs Stop _ hk hc=>h b k cs Stop hk hc
def Yo(h:Kb P main sh c Q own a w)(hq:∀own' e a w,Q own' e a w->Q' own' e a w):Kb P main sh c Q' own a w:=
 λb k cs Stop hb hk hc=>h b k cs Stop hb hk λown' e a' w' q=>hc own' e a' w' (hq _ _ _ _ q)
def thenR0(P:nh)(main:Md)(sh:Bk)(y:Code)(Q:Bk->Exit->Act->nm->Prop):Bk->Exit->Act->nm->Prop
 |own,.normal,a,w=>Kb P main sh y Q own a w
 |own,e,a,w=>Q own e a w
def wpR0_seq(h:Kb P main sh x (thenR0 P main sh y Q) own a w):Kb P main sh (.seq x y) Q own a w:=by
 intro b k cs Stop hb hk hc;refine Run.quiet rfl (λ_=>X1) (h b (.code y::k) cs Stop hb hk λown' e a' w' q=>?_);cases e with
 |normal=>exact q b k cs Stop hb hk hc
 |exit id=>exact(hc _ _ _ _ q).push rfl (by simp)
 |ret=>exact(hc _ _ _ _ q).push (it:=.code y) rfl (by simp)
 |goto l=>exact hc _ _ _ _ q
 |panic ch=>exact hc _ _ _ _ q
 |outgrown=>exact hc _ _ _ _ q
def wpR0_cond{o:ni}{t:Bool}(hc:a.eval o=.bool t)(h:Kb P main sh (if t then x else y) Q own a w):Kb P main sh (.cond o x y) Q own a w:=
 λb k cs Stop hb hk hq=>Run.quiet rfl (λ_=>VA hc) (h b k cs Stop hb hk hq)
def wpR0_block{id:Nat}(h:Kb P main sh c (inBlockR id Q) own a w):Kb P main sh (.block id c) Q own a w:=by
 intro b k cs Stop hb hk hc;refine Run.quiet rfl (λ_=>Up) (h b (.inBlock id::k) cs Stop hb hk λown' e a' w' q=>?_);cases e with
 |normal=>exact Run.quiet rfl (λ_=>KB) (hc _ _ _ _ q)
 |exit i=>
  by_cases hid:i=id
  .simp only[inBlockR,hid,dc] at q;exact .inl ⟨k,by simp[exitTo,hid],hc _ _ _ _ q⟩
  .simp only[inBlockR,hid,dX] at q;have:(id == i)=false:=by simp;exact λh=>hid h.symm
   rcases hc _ _ _ _ q with ⟨k',hk',hg⟩|⟨h1,h2,h3⟩
   .exact .inl ⟨k',by simp[exitTo,this,hk'],hg⟩
   .exact .inr ⟨h1,by simp[exitTo,this,h2],h3⟩
 |ret=>exact hc _ _ _ _ q
 |goto l=>exact hc _ _ _ _ q
 |panic ch=>exact hc _ _ _ _ q
 |outgrown=>exact hc _ _ _ _ q
def wpR0_loop{σ:Type}(I:σ->Bk->Act->nm->Prop)(μ:σ->Nat)(s0:σ)(h0:I s0 own a w)
  (round:∀s own a w,I s own a w->Kb P main sh c (λown' e a' w'=>match e with|.normal=>∃s',μ s'<μ s/\I s' own' a' w'|e=>Q own' e a' w') own a w):Kb P main sh (.loop c) Q own a w:=by
 intro b k cs Stop hb hk hc
 have key:∀(N:Nat) (s:σ) own a w,μ s<N->I s own a w->Run P main sh Stop own (G (b.atR a (.code c::.inLoop c::k)) cs) w:=by
  intro N;induction N with
  |zero=>intro s own a w h;omega
  |succ N ih=>
   intro s own a w hμ hI;refine round s own a w hI b (.inLoop c::k) cs Stop hb hk λown' e a' w' q=>?_;cases e with
   |normal=>
    obtain⟨s',h1,h2⟩:=q;exact Run.quiet rfl (λ_=>UT) (ih s' own' a' w' qo h2)
   |exit id=>exact(hc _ _ _ _ q).push rfl (by simp)
   |ret=>exact(hc _ _ _ _ q).push (it:=.inLoop c) rfl (by simp)
   |goto l=>exact hc _ _ _ _ q
   |panic ch=>exact hc _ _ _ _ q
   |outgrown=>exact hc _ _ _ _ q
 exact Run.quiet rfl (λ_=>DG) (key (μ s0+1) s0 own a w qo h0)
end
end W
end
section
open Go.RowKit
namespace W
abbrev Env:=List (Nat×nA)
def look:Env->Nat->Option nA
 |[],_=>none
 |(k,v)::r,i=>bif Nat.beq k i then some v else look r i
def ev(e:Env):ni->Option nA
 |.tmp t=>look e t
 |.const v=>some v
 |.global g=>some (.pointer (some ⟨g,0,none⟩))
 |.func f=>some (.func (.func f) #[] #[])
structure Kn(ds:List Deferred)(n:Nat)(a:Act)(e:Env):Prop where
 size:a.tmps.size=n
 defers:a.defers=ds
 at':∀k v,look e k=some v->a.tmps[k]?=some v
def Y4(k:Nat)(v:nA)(r:Env)(i:Nat):look ((k,v)::r) i=if k=i then some v else look r i:=by
 show(bif Nat.beq k i then some v else look r i)=_;by_cases h:k=i
 .subst h;simp[Nat.beq_refl]
 .have:Nat.beq k i=false:=by
   cases hb:Nat.beq k i
   .rfl
   .exact absurd (dW hb) h
  simp[this,h]
def Kn.eval{ds:List Deferred}{n:Nat}{a:Act}{e:Env}(h:Kn ds n a e){x:ni}{v:nA}(hx:ev e x=some v):a.eval x=v:=by
 cases x with
 |tmp t=>simp only[ev] at hx;have:=h.at' _ _ hx;simp[Act.eval,aB,this]
 |const u=>simpa [ev,Act.eval] using hx
 |global g=>simpa [ev,Act.eval] using hx
 |func f=>simpa [ev,Act.eval] using hx
def Kn.put{ds:List Deferred}{n:Nat}{a:Act}{e:Env}(h:Kn ds n a e){d:Nat}(hd:Nat.blt d n=true)(v:nA):Kn ds n (a.put (some d) v) ((d,v)::e):=by
 have hd':d<n:=by simpa [Nat.blt_eq] using hd
 refine⟨by simp[Act.put,h.size],by simp[Act.put,h.defers],λk u hk=>?_⟩;rw[Y4] at hk;simp only[Act.put];by_cases hkd:d=k
 .subst hkd;simp at hk;subst hk;rw[Array.getElem?_setIfInBounds];simp[h.size,hd']
 .rw[ae hkd] at hk;rw[Array.getElem?_setIfInBounds,ae hkd];exact h.at' _ _ hk
def Kn.HH{ds:List Deferred}{n:Nat}{a:Act}{e:Env}(h:Kn ds n a e)(v:nA):Kn ds n (a.put none v) e:=by simpa [Act.put] using h
def Sub(e e':Env):Prop:=∀k v,look e k=some v->look e' k=some v
def Sub.nil(e:Env):Sub [] e:=λk v h=>by simp[look] at h
def Sub.cons{k:Nat}{v:nA}{e e':Env}(h:look e' k=some v)(hs:Sub e e'):Sub ((k,v)::e) e':=λi u hi=>by
 rw[Y4] at hi;by_cases hk:k=i
 .subst hk;simp at hi;subst hi;exact h
 .rw[ae hk] at hi;exact hs _ _ hi
def Kn.sub{ds:List Deferred}{n:Nat}{a:Act}{e e':Env}(h:Kn ds n a e)(hs:Sub e' e):Kn ds n a e':=⟨h.size,h.defers,λk v hk=>h.at' _ _ (hs _ _ hk)⟩
structure PH where
 md:Md
 look:Nat->Option Obj
instance:CoeFun PH λ_=>Nat->Option Obj:=⟨PH.look⟩
structure PH.le(h h':PH):Prop where
 md:h'.md=h.md
 look:∀k o,h k=some o->h' k=some o
instance {h h':PH}:CoeFun (h.le h') λ_=>∀k o,h k=some o->h' k=some o:=⟨PH.le.look⟩
def PH.le.refl(h:PH):h.le h:=⟨rfl,λ_ _ x=>x⟩
def PH.le.trans{a b c:PH}(h:a.le b)(k:b.le c):a.le c:=⟨k.md.trans h.md,λ_ _ x=>k _ _ (h _ _ x)⟩
structure Fct where
 p:PH->Prop
 mono:∀h h',PH.le h h'->p h->p h'
abbrev nc:=List Fct
inductive Ow where
 |cells (g:Nat) (t:nl) (cs:ne)
 |slice (v:nA) (e:nl) (sz:Nat) (cs:ne)
 |obj (g:Nat) (o:Obj)
abbrev nw:=List Ow
def Ow.ids:Ow->List Nat
 |.cells g _ _=>[g]
 |.slice (.slice (some a) _ _) _ _ _=>[a.block]
 |.slice _ _ _ _=>[]
 |.obj g _=>[g]
def Ow.holds(H:Array Obj):Ow->Prop
 |.cells g t cs=>H[g]?=some (.cells cs.toArray t (0,0))
 |.slice v e sz cs=>∃n,cs.length=n*sz/\((v=.slice none 0 0/\n=0)\/
   ∃g cap sp,v=.slice (some ⟨g,0,none⟩) n cap/\n<=cap/\cap<=maxLen/\H[g]?=some (.cells (cs++sp).toArray e (0,0))/\(cs++sp).length=cap*sz)
 |.obj g o=>H[g]?=some o
def ids(bx:nw):List Nat:=bx.flatMap Ow.ids
structure CF where
 main:Md
 sh:Bk
 own:Bk
 fr:Nat->Option Obj
 ds:List Deferred:=[]
def CF.grow(c:CF)(w w':nm):CF:={c with own:=W.grow c.own w w'}
structure CF.le(c c':CF):Prop where
 main:c'.main=c.main
 sh:c'.sh=c.sh
 fr:c'.fr=c.fr
 ds:c'.ds=c.ds
 own:∀k,c.own k->c'.own k
def CF.no(c:CF):Bk:=c.main.no
def CF.le.refl(c:CF):c.le c:=⟨rfl,rfl,rfl,rfl,λ_ h=>h⟩
def CF.le.trans{a b c:CF}(h:a.le b)(k:b.le c):a.le c:=⟨k.main.trans h.main,k.sh.trans h.sh,k.fr.trans h.fr,k.ds.trans h.ds,λi hi=>k.own i (h.own i hi)⟩
def CF.le.kn{c c':CF}(h:c.le c'){n:Nat}{a:Act}{e:Env}(hk:Kn c.ds n a e):Kn c'.ds n a e:=by rw[h.ds];exact hk
def CF.le.nk{c c':CF}(h:c.le c'){n:Nat}{a:Act}{e:Env}(hk:Kn c'.ds n a e):Kn c.ds n a e:=by rw[<-h.ds];exact hk
def CF.Dj(c:CF)(w w':nm):c.le (c.grow w w'):=⟨rfl,rfl,rfl,rfl,λ_ h=>.inl h⟩
def CF.QW(c:CF){w w':nm}(h:w'.heap.size<=w.heap.size):c.grow w w'=c:=by unfold CF.grow;rw[W.QW h]
def CF.vs(c:CF):Bk:=λk=>c.sh k/\¬c.main.no k
def CF.vs_w{c:CF}{k:Nat}(h:c.own k\/c.vs k):c.own k\/c.sh k:=h.imp id eJ
open Classical in
noncomputable def CF.see(c:CF)(H:Array Obj)(k:Nat):Option Obj:=if c.own k\/c.vs k then H[k]? else none
def CF.see_some{c:CF}{H:Array Obj}{k:Nat}{o:Obj}(h:c.see H k=some o):(c.own k\/c.vs k)/\H[k]?=some o:=by
 unfold CF.see at h;split at h
 .exact⟨by assumption,h⟩
 .cases h
def CF.Yy{c:CF}{H:Array Obj}{k:Nat}(h:c.own k\/c.vs k):c.see H k=H[k]?:=by unfold CF.see;rw[ah h]
noncomputable def imm(fr:CF)(bx:nw)(H:Array Obj):PH:=⟨fr.main,λk=>if(fr.fr k).isSome ||(ids bx).contains k then none else fr.see H k⟩
def JA{fr:CF}{bx:nw}{H:Array Obj}{k:Nat}{o:Obj}(h:imm fr bx H k=some o):H[k]?=some o:=by
 simp only[imm] at h;split at h
 .cases h
 .exact(CF.see_some h).2
def Yq{fr:CF}{bx:nw}{H:Array Obj}{k:Nat}{o:Obj}(h:imm fr bx H k=some o):fr.own k\/fr.vs k:=by
 simp only[imm] at h;split at h
 .cases h
 .exact(CF.see_some h).1
structure OK(fr:CF)(bx:nw)(F:nc)(w:nm):Prop where
 frame:(∀k o,fr.fr k=some o->fr.own k/\w.heap[k]?=some o)/\(∀k,fr.own k\/fr.sh k->k<w.heap.size)/\∀k,fr.no k->k<w.heap.size/\¬fr.own k
 apart:∀k∈ids bx,fr.own k/\fr.fr k=none
 nodup:(ids bx).Nodup
 owns:∀b∈bx,b.holds w.heap
 facts:∀f∈F,f.p (imm fr bx w.heap)
def OK.drawn{fr:CF}{bx:nw}{F:nc}{w:nm}(h:OK fr bx F w)(n:Nat):OK fr bx F {w with drawn:=n}:=⟨h.frame,h.apart,h.nodup,h.owns,h.facts⟩
def OK.less{fr:CF}{bx:nw}{F F':nc}{w:nm}(h:OK fr bx F w)(hs:∀f∈F',f∈F):OK fr bx F' w:=⟨h.frame,h.apart,h.nodup,h.owns,λf hf=>h.facts f (hs f hf)⟩
def OK.add{fr:CF}{bx:nw}{F:nc}{w:nm}(h:OK fr bx F w){f:Fct}(hf:f.p (imm fr bx w.heap)):OK fr bx (f::F) w:=⟨h.frame,h.apart,h.nodup,h.owns,λg hg=>by
 rcases List.mem_cons.1 hg with rfl|hg
 .exact hf
 .exact h.facts g hg⟩
def JN{bx:nw}{k:Nat}:k∈ids bx↔∃b∈bx,k∈b.ids:=by simp[ids]
def ZG{bx bx':nw}(h:bx'.Sublist bx):(ids bx').Sublist (ids bx):=by
 induction h with
 |slnil=>exact .slnil
 |cons a _ ih=>exact ih.trans (by simp[ids])
 |cons_cons a _ ih=>simpa [ids] using ih
def F8{fr:CF}{bx bx':nw}{H:Array Obj}(hs:∀k,k∈ids bx'->k∈ids bx):(imm fr bx H).le (imm fr bx' H):=.mk rfl λk o ho=>by
 simp only[imm] at *;split at ho
 .cases ho
 .rename_i hc
  rw[ae]
  .exact ho
  .simp only[b7,bu] at hc ⊢;exact λh'=>hc (h'.imp id (hs k))
def OK.drop{fr:CF}{bx bx':nw}{F:nc}{w:nm}(h:OK fr bx F w)(hs:bx'.Sublist bx):OK fr bx' F w:=
 ⟨h.frame,λk hk=>h.apart k ((ZG hs).subset hk),h.nodup.sublist (ZG hs),λb hb=>h.owns b (hs.subset hb),λf hf=>f.mono _ _ (F8 λk hk=>(ZG hs).subset hk) (h.facts f hf)⟩
def OK.perm{fr:CF}{bx bx':nw}{F:nc}{w:nm}(h:OK fr bx F w)(hp:bx.Perm bx'):OK fr bx' F w:=by
 have hi:(ids bx).Perm (ids bx'):=hp.flatMap_right _;exact⟨h.frame,λk hk=>h.apart k (hi.mem_iff.2 hk),hi.nodup_iff.1 h.nodup,λb hb=>h.owns b (hp.mem_iff.2 hb),λf hf=>f.mono _ _ (F8 λk hk=>hi.mem_iff.2 hk) (h.facts f hf)⟩
def Ow.Xk{H H':Array Obj}{b:Ow}(h:b.holds H)(hk:∀k∈b.ids,H'[k]?=H[k]?):b.holds H':=by
 cases b with
 |cells g t cs=>simp only[Ow.holds,Ow.ids,bG,eK] at *;rw[hk];exact h
 |obj g o=>simp only[Ow.holds,Ow.ids,bG,eK] at *;rw[hk];exact h
 |slice v e sz cs=>
  obtain⟨n,h1,h2|⟨g,cap,sp,rfl,h3,h4,h5,h6⟩⟩:=h
  .exact⟨n,h1,.inl h2⟩
  .exact⟨n,h1,.inr ⟨g,cap,sp,rfl,h3,h4,by rw[hk g (by simp[Ow.ids])];exact h5,h6⟩⟩
def Ow.lt{H:Array Obj}{b:Ow}(h:b.holds H):∀k∈b.ids,k<H.size:=by
 cases b with
 |cells g t cs=>simp only[Ow.holds,Ow.ids,bG,eK] at *;exact(Array.getElem?_eq_some_iff.1 h).1
 |obj g o=>simp only[Ow.holds,Ow.ids,bG,eK] at *;exact(Array.getElem?_eq_some_iff.1 h).1
 |slice v e sz cs=>
  obtain⟨n,h1,⟨rfl,h2⟩|⟨g,cap,sp,rfl,h3,h4,h5,h6⟩⟩:=h
  .simp[Ow.ids]
  .simp only[Ow.ids,bG,eK];exact(Array.getElem?_eq_some_iff.1 h5).1
def imm_grow{fr fr':CF}{ob nb bx:nw}{F:nc}{w w':nm}(h:OK fr (ob++bx) F w)(hf:fr.le fr')
  (hk:∀k,k<w.heap.size->fr.own k\/fr.sh k->k∉ids ob->w'.heap[k]?=w.heap[k]?) (hn:∀k∈ids nb,k∈ids ob\/w.heap.size<=k):(imm fr (ob++bx) w.heap).le (imm fr' (nb++bx) w'.heap):=.mk hf.main λk o hio=>by
 have hm:=Yq hio;have hh:=JA hio;have hkl:k<w.heap.size:=(Array.getElem?_eq_some_iff.1 hh).1;simp only[imm] at *;split at hio
 .cases hio
 .rename_i hc
  simp only[b7,bu,ids,aS,bS,not_or] at hc;rw[ae,CF.Yy (hm.imp (hf.own k) (λx=>by unfold CF.vs;rw[hf.sh,hf.main];exact x)),hk k hkl (CF.vs_w hm) hc.2.1]
  .exact hh
  .rw[hf.fr];simp only[b7,bu,ids,aS,bS,not_or];refine⟨hc.1,λh1=>?_,hc.2.2⟩;rcases hn k h1 with h3|h3
   .exact hc.2.1 h3
   .omega
def OK.rely{fr:CF}{bx:nw}{F:nc}{w w1:nm}(h:OK fr bx F w)(hr:Rly fr.own fr.sh w w1):OK fr bx F w1:=by
 have hlt:=h.frame.2.1;refine⟨⟨λk o hf=>⟨(h.frame.1 k o hf).1,?_⟩,λk hk=>aw (hlt k hk) hr.size,λk hk=>⟨aw (h.frame.2.2 k hk).1 hr.size,(h.frame.2.2 k hk).2⟩⟩,h.apart,h.nodup,λb hb=>?_,λf hf=>f.mono (imm fr bx w.heap) _ (.mk rfl λk o hio=>?_) (h.facts f hf)⟩
 .have:=(h.frame.1 k o hf)
  rw[hr.keep k (hlt k (.inl this.1)) (.inl this.1)];exact this.2
 .refine Ow.Xk (h.owns b hb) λk hk=>?_;have:=(h.apart k (JN.2 ⟨b,hb,hk⟩)).1;exact hr.keep k (hlt k (.inl this)) (.inl this)
 .have hm:=Yq hio;simp only[imm] at *;split at hio
  .cases hio
  .rename_i hc
   rw[ae hc,CF.Yy hm,hr.keep k (hlt k (CF.vs_w hm)) (CF.vs_w hm),<-CF.Yy (c:=fr) hm];exact hio
def OK.step{fr:CF}{ob nb bx:nw}{F:nc}{w w':nm}(h:OK fr (ob++bx) F w)(hs:w.heap.size<=w'.heap.size)
  (hk:∀k,k<w.heap.size->k∉ids ob->w'.heap[k]?=w.heap[k]?) (hn:∀k∈ids nb,k∈ids ob\/w.heap.size<=k) (hd:(ids nb).Nodup) (ho:∀b∈nb,b.holds w'.heap):OK (fr.grow w w') (nb++bx) F w':=by
 have hlt:∀b∈ob++bx,∀k∈b.ids,k<w.heap.size:=λb hb=>Ow.lt (h.owns b hb);have hfl:∀k o,fr.fr k=some o->k<w.heap.size:=λk o hf=>(Array.getElem?_eq_some_iff.1 (h.frame.1 k o hf).2).1;have hap:=h.apart;have hnd:=h.nodup;simp only[ids,aS] at hap hnd;have hnot:∀k,k∈ids ob->k∉ids bx:=λk h1 h2=>(List.nodup_append.1 hnd).2.2 k h1 k h2 rfl;have hbxlt:∀k∈ids bx,k<w.heap.size:=λk hk=>by obtain⟨b,hb,hkb⟩:=JN.1 hk;exact hlt b (by simp[hb]) k hkb
 refine⟨⟨λk o hf=>?_,λk hk'=>?_,λk hk'=>⟨aw (h.frame.2.2 k hk').1 hs,λho'=>ho'.elim (h.frame.2.2 k hk').2 λhx=>by have:=(h.frame.2.2 k hk').1;omega⟩⟩,λk hk'=>?_,?_,λb hb=>?_,λf hf=>f.mono _ _ (imm_grow h (CF.Dj _ _ _) (λk h1 _ h2=>hk k h1 h2) hn) (h.facts f hf)⟩
 .have h1:=h.frame.1 k o hf;exact⟨.inl h1.1,by rw[hk k (hfl k o hf) (λhin=>by have:=(hap k (List.mem_append.2 (.inl hin))).2;rw[show fr.fr k=some o from hf] at this;cases this)];exact h1.2⟩
 .rcases hk' with (h1|h1)|h1
  .exact aw (h.frame.2.1 k (.inl h1)) hs
  .exact h1.2
  .exact aw (h.frame.2.1 k (.inr h1)) hs
 .simp only[ids,aS,bS] at hk';rcases hk' with hk'|hk'
  .rcases hn k hk' with h1|h1
   .have:=hap k (List.mem_append.2 (.inl h1));exact⟨.inl this.1,this.2⟩
   .obtain⟨b,hb,hkb⟩:=JN.1 hk';refine⟨.inr ⟨h1,Ow.lt (ho b hb) k hkb⟩,?_⟩;cases hfk:fr.fr k with
    |none=>exact hfk
    |some o=>have:=hfl k o hfk;omega
  .have:=hap k (List.mem_append.2 (.inr hk'));exact⟨.inl this.1,this.2⟩
 .simp only[ids,aS];refine List.nodup_append.2 ⟨hd,(List.nodup_append.1 hnd).2.1,?_⟩;intro k h1 k' h2 he;subst he;rcases hn k h1 with h3|h3
  .exact hnot k h3 h2
  .have:=hbxlt k h2;omega
 .rcases List.mem_append.1 hb with hb|hb
  .exact ho b hb
  .refine Ow.Xk (h.owns b (by simp[hb])) λk hkb=>hk k (hlt b (by simp[hb]) k hkb) λhin=>hnot k hin (JN.2 ⟨b,hb,hkb⟩)
end W
end
end Go.Proofs.YtbnobghgnbockaaGreat
