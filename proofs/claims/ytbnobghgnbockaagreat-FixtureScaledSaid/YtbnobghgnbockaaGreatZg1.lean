/- Lemmas for a law. Conditions: none. -/
import Derived.WalkKit
import Derived.OrdersHeld
import Derived.Deep.MidRow
import Derived.WalkLawsBesides
import Derived.AtR
import Derived.Conc.CompanyDraw
import Derived.Conc.Neutral
import Derived.RangeFuncRecord
set_option linter.all false
set_option maxHeartbeats 32000000
set_option maxRecDepth 100000
namespace Go.Proofs.YtbnobghgnbockaaGreat
theorem wq1{G:Prop}(h:G:=by first|((focus(apply Or.inr;constructor;(repeat(first|exact wq10|apply List.Sublist.cons_cons|apply List.Sublist.cons));(first|exact λ_ h=>h|(intro f hf;(repeat(first|exact hf|apply List.Mem.tail))));done));done)|fail):G:=h
theorem wq2{G:Prop}(h:G:=by first|(((try simp only[Nat.zero_add,Nat.mul_one,Nat.reduceAdd,Nat.reduceMul]);exact rfl);done)|fail):G:=h
theorem wq3{G:Prop}(h:G:=by first|((repeat(first|exact Sel.head|apply Sel.tail));done)|fail):G:=h
theorem wq4{G:Prop}(h:G:=by first|((first|exact wq40|exact wq146|exact wq152|exact Zy|exact Jw|exact wq22|exact wq23|exact wq31|exact wq42|exact wq13);done)|fail):G:=h
theorem wq5{G:Prop}(h:G:=by first|((first|(apply YO.ldON;exact t2A;exact rfl;exact meA;omega)|(apply YO.ldOV;exact t2A;exact rfl;exact meA;omega)|exact wq129|(apply YO.ldFf;exact t4A;exact rfl;exact hmA;omega)|(apply YO.ldOR;exact t4A;exact rfl;exact meA;omega)|(apply YO.ldRf;exact t4A;exact rfl;exact hmA;omega;omega)|(apply YO.ldPl;exact t4A;exact rfl;exact hmA;omega)|exact wq130|(apply YO.Ks;exact t2A;exact rfl;exact meA;exact wq26));done)|fail):G:=h
theorem wq6{G:Prop}(h:G:=by first|((refine WC.ret ?_;exact Fin.v (Qg.t1 rfl rfl) meA rfl);done)|fail):G:=h
theorem wq7{G:Prop}(h:G:=by first|((first|exact One.lit rfl rfl|(apply One.sl;exact knA));done)|fail):G:=h
theorem wq8{G:Prop}(h:G:=by first|((first|exact List.Perm.refl _|exact List.perm_middle (l₁:=[_])|exact List.perm_middle (l₁:=[_,_])|exact List.perm_middle (l₁:=[_,_,_])|exact List.perm_middle (l₁:=[_,_,_,_])|exact List.perm_middle (l₁:=[_,_,_,_,_])|exact List.perm_middle (l₁:=[_,_,_,_,_,_])|exact List.perm_middle (l₁:=[_,_,_,_,_,_,_])|exact List.perm_middle (l₁:=[_,_,_,_,_,_,_,_])|exact List.perm_middle (l₁:=[_,_,_,_,_,_,_,_,_])|exact List.perm_middle (l₁:=[_,_,_,_,_,_,_,_,_,_])|exact List.perm_middle (l₁:=[_,_,_,_,_,_,_,_,_,_,_])|exact List.perm_middle (l₁:=[_,_,_,_,_,_,_,_,_,_,_,_])|exact List.perm_middle (l₁:=[_,_,_,_,_,_,_,_,_,_,_,_,_])|exact List.perm_middle (l₁:=[_,_,_,_,_,_,_,_,_,_,_,_,_,_]));done)|fail):G:=h
theorem wq9{G:Prop}(h:G:=by first|((repeat(first|exact Rem.head|apply Rem.tail));done)|fail):G:=h
theorem wq10{G:Prop}(h:G:=by first|((first|exact List.Sublist.refl _|exact List.nil_sublist _);done)|fail):G:=h
theorem wq11{G:Prop}(h:G:=by first|((first|(simp only[List.set_cons_succ,List.set_cons_zero];exact rfl)|exact rfl);done)|fail):G:=h
theorem wq12{G:Prop}(h:G:=by first|((first|(simp only[List.length_cons,List.length_nil];omega)|(simp;omega));done)|fail):G:=h
theorem wq13{G:Prop}(h:G:=by first|((first|(first|(apply YO.slice;exact t6A;exact rfl;exact knA;exact Or.inl ⟨rfl,rfl⟩;exact Or.inr ⟨_,rfl,rfl⟩;omega;omega)|(apply YO.slice;exact t6A;exact rfl;exact knA;exact Or.inr ⟨_,rfl,rfl⟩;exact Or.inl ⟨rfl,rfl⟩;omega;omega))|(apply YO.slice3;exact t6A;exact rfl;exact knA;exact rfl;exact rfl;omega;omega));done)|fail):G:=h
theorem wq14{G:Prop}(h:G:=by first|((first|exact T.s25|exact T.s33|exact T.s40);done)|fail):G:=h
theorem wq15{G:Prop}(h:G:=by first|((first|exact wq29|(focus(apply QQ.fF;exact meA;exact hmA;done))|(focus(apply QQ.rows;(repeat(first|exact List.Sublist.refl _|apply List.Sublist.cons));exact hmA;done))|(focus(apply QQ.sV;exact meA;done))|(focus(apply QQ.sN;exact meA;done)));done)|fail):G:=h
theorem wq16{G:Prop}(h:G:=by first|((rw[eq_comm];simp only[decide_eq_true_eq,decide_eq_false_iff_not];omega);done)|fail):G:=h
theorem wq17{G:Prop}(h:G:=by first|((first|exact wq127|exact wq148);done)|fail):G:=h
theorem wq18{G:Prop}(h:G:=by first|((simp only;omega);done)|fail):G:=h
theorem wq19{G:Prop}(h:G:=by first|((first|(apply YO.ldC;exact wq140;exact rfl;exact meA;exact wq24)|(apply YO.ldCk;exact wq140;exact rfl;exact hmA;exact wq24)|(apply YO.ldF;exact wq136;exact rfl;exact hmA;exact rfl)|(apply YO.ldB;exact wq136;exact rfl;exact meA;exact rfl)|(apply YO.ldL1;(first|exact wq21|exact wq136);exact rfl;exact hmA;exact rfl;omega;exact rfl)|(apply YO.ldO1;(first|exact wq21|exact wq136);exact rfl;exact meA;exact rfl;omega;exact rfl)|(apply YO.ldOc;(first|exact wq21|exact wq136);exact rfl;exact meA;omega));done)|fail):G:=h
theorem wq20{G:Prop}(h:G:=by first|((focus(repeat(first|exact Qw.nil|(apply Qw.cons;exact hsA))));done)|fail):G:=h
theorem wq21{G:Prop}(h:G:=by first|((first|exact wq150|exact T.Dz|exact T.Dk|exact T.Dw|exact T.Kz|exact T.Uh|exact T.Ug);done)|fail):G:=h
theorem wq22{G:Prop}(h:G:=by first|((first|(first|(first|(apply YO.eql_t;exact rfl;exact rfl;omega)|(apply YO.eql_f;exact rfl;exact rfl;omega))|(apply YO.ZL;exact t6A;exact rfl;exact knA;assumption)|(apply YO.ZN;exact t6A;exact rfl;exact knA;assumption))|(apply YO.beq_t;exact X9;exact rfl;exact rfl;exact wq153)|(apply YO.beq_f;exact X9;exact rfl;exact rfl;exact wq153));done)|fail):G:=h
theorem wq23{G:Prop}(h:G:=by first|((first|exact UJ|exact wq151|exact wq37|exact Ur|exact Up|exact HT|exact wq39|exact UQ|exact UZ|exact UX|exact Zh|exact Zu|(apply YO.max;exact rfl;exact rfl)|(apply YO.min;exact rfl;exact rfl)|exact Xl);done)|fail):G:=h
theorem wq24{G:Prop}(h:G:=by first|((repeat(first|exact Cut.done|apply Cut.take|apply Cut.drop));done)|fail):G:=h
theorem wq25{G:Prop}(h:G:=by first|((refine WC.ret ?_;exact Fp [isZ (.agg #[.bool nb,d]) (x+y)] (rcV T.r73) haA ⟨nb,_,rfl,hb,rfl,rfl⟩);done)|fail):G:=h
theorem wq26{G:Prop}(h:G:=by first|((first|omega|(simp only[List.length_set,List.length_replicate];omega));done)|fail):G:=h
theorem wq27{G:Prop}(h:G:=by first|((first|omega|(simp only[List.length_set];omega));done)|fail):G:=h
theorem wq28{G:Prop}(h:G:=by first|((refine WC.ret ?_;exact Fp [isQ (.agg #[.bool false,.slice none 0 0,.bool false,.slice none 0 0]) 0] (rcV T.r75) (.cons Y7 .nil) ⟨false,_,_,rfl,rfl,rfl,rfl⟩);done)|fail):G:=h
theorem wq29{G:Prop}(h:G:=by first|((first|(focus(apply QQ.oI;exact meA;done))|(focus(apply QQ.c;exact meA;done))|(focus(apply QQ.f;exact hsA;done)));done)|fail):G:=h
theorem wq30{G:Prop}(h:G:=by first|((repeat(first|exact Evs.nil|(apply Evs.cons;exact rfl)));done)|fail):G:=h
theorem wq31{G:Prop}(h:G:=by first|((first|(first|(apply YO.Gf;exact t7A;exact t7A;exact rfl;omega;omega)|(apply YO.convI;exact t7A;exact t7A;exact rfl;omega;omega))|(apply YO.convN;exact t7A;exact t7A;exact rfl;omega;omega));done)|fail):G:=h
theorem wq32{G:Prop}(h:G:=by first|((refine WC.ret ?_;exact Fp [isZ (.agg #[.bool n5,d5]) (x/y),isZ (.agg #[.bool n6,d6]) (x%y)] (Qg.cc rfl rfl rfl meA meA T.r73 rfl T.r73 rfl) haA ⟨n5,d5,n6,d6,rfl,hbq,hbr,rfl,rfl⟩);done)|fail):G:=h
theorem wq33{G:Prop}(h:G:=by first|((refine WC.ret ?_;exact Fp [isZ (.agg #[.bool n1,d1]) ((m/n:Nat):Int),isZ (.agg #[.bool n2,d2]) ((m%n:Nat):Int)] (Qg.cc rfl rfl rfl meA meA T.r73 rfl T.r73 rfl) haA ⟨n1,d1,n2,d2,rfl,hb1,hb2,rfl,rfl⟩);done)|fail):G:=h
theorem wq34{G:Prop}(h:G:=by first|((apply YO.mul;exact rfl;exact rfl;omega;omega);done)|fail):G:=h
theorem wq35{G:Prop}(h:G:=by first|((refine WC.ret ?_;exact Fp [isQ (.agg #[.bool nb,e1,.bool false,e2]) (Rat.divInt p q)] (rcV T.r75) haA ⟨nb,_,_,rfl,hb,rfl,rfl⟩);done)|fail):G:=h
theorem wq36{G:Prop}(h:G:=by first|((first|exact QB []|exact QB [_]|exact QB [_,_]|exact QB [_,_,_]|exact QB [_,_,_,_]|exact QB [_,_,_,_,_]|exact QB [_,_,_,_,_,_]|exact QB [_,_,_,_,_,_,_]|exact QB [_,_,_,_,_,_,_,_]|exact QB [_,_,_,_,_,_,_,_,_]|exact QB [_,_,_,_,_,_,_,_,_,_]|exact QB [_,_,_,_,_,_,_,_,_,_,_]|exact QB [_,_,_,_,_,_,_,_,_,_,_,_]|exact QB [_,_,_,_,_,_,_,_,_,_,_,_,_]|exact QB [_,_,_,_,_,_,_,_,_,_,_,_,_,_]);done)|fail):G:=h
theorem wq37{G:Prop}(h:G:=by first|((apply YO.extract;exact rfl;exact rfl);done)|fail):G:=h
theorem wq38{G:Prop}(h:G:=by first|((show a.length-(k+1)<a.length-k;omega);done)|fail):G:=h
theorem wq39{G:Prop}(h:G:=by first|((apply YO.sub;exact rfl;exact rfl;omega;omega);done)|fail):G:=h
theorem wq40{G:Prop}(h:G:=by first|((first|exact wq141|exact wq57|exact Ut|exact Uo|exact Us);done)|fail):G:=h
theorem wq41{G:Prop}(h:G:=by first|((apply YO.slice;exact t6A;exact rfl;exact knA;exact Or.inr ⟨_,rfl,rfl⟩;exact Or.inr ⟨_,rfl,rfl⟩;omega;omega);done)|fail):G:=h
theorem wq42{G:Prop}(h:G:=by first|((first|exact Kd|exact wq138|exact HS|exact y_or);done)|fail):G:=h
theorem wq43{G:Prop}(h:G:=by first|((focus(apply KnS.Z8;exact meA;done));done)|fail):G:=h
theorem wq44{G:Prop}(h:G:=by first|((first|(focus(apply Uk;exact hmA;done))|(focus(apply one_b;exact hmA;done))|(focus(apply one_e;exact hmA;done))|(focus(apply Uw;exact hmA;done)));done)|fail):G:=h
theorem wq45{G:Prop}(h:G:=by first|((refine WC.ret ?_;exact Fp [isQ (qv m00) 0] (rcV T.r75) (.cons JA .nil) ⟨m00,rfl,rfl,rfl⟩);done)|fail):G:=h
theorem wq46{G:Prop}(h:G:=by first|((repeat(first|exact QA.nil|(apply QA.cons;(apply One.sl;(first|(apply KnS.o1B;exact meA;done)|(apply KnS.o1T;exact meA;done)|exact knA)))));done)|fail):G:=h
theorem wq47{G:Prop}(h:G:=by first|((first|(focus(apply Qp.ints;exact hmA;done))|(focus(apply Qp.Xc;exact meA;done))|(focus(apply Qp.one;exact meA;exact rfl;decide;done)));done)|fail):G:=h
theorem wq48{G:Prop}(h:G:=by first|((simp only[phi];omega);done)|fail):G:=h
theorem wq49{G:Prop}(h:G:=by first|((refine WC.ret ?_;exact Fp [isZ (.agg #[.bool false,.slice none 0 0]) 0] (rcV T.r73) (.cons FZ .nil) ⟨false,_,rfl,rfl,rfl,rfl⟩);done)|fail):G:=h
theorem wq50{G:Prop}(h:G:=by first|((first|exact y_arr|(apply Dr;exact rfl;exact rfl;exact rfl;exact rfl;exact rfl;exact rfl)|(apply y_touch5;exact rfl;exact rfl;exact rfl;exact rfl)|(apply y_bodyX;exact rfl;exact rfl;exact rfl;exact rfl)|(apply Dp;exact rfl;exact rfl;exact knA;exact knA));done)|fail):G:=h
theorem wq51{G:Prop}(h:G:=by first|((apply YO.quo;exact rfl;exact rfl;omega;omega;omega);done)|fail):G:=h
theorem wq52{G:Prop}(h:G:=by first|((show m-(i+1)<m-i;omega);done)|fail):G:=h
theorem wq53{G:Prop}(h:G:=by first|((first|(apply YO.J3;exact T.f42_0;exact rfl)|(apply YO.J3;exact T.f42_1;exact rfl)|(apply YO.J3;exact T.f42_2;exact rfl)|(apply YO.J3;exact T.f35_0;exact rfl)|(apply YO.J3;exact T.f35_1;exact rfl)|(apply YO.J3;exact T.f35_2;exact rfl));done)|fail):G:=h
theorem wq54{G:Prop}(h:G:=by first|((refine WC.ret ?_;exact Fin.v (Qg.t1 rfl rfl) meA (by rw[decide_eq_false h3]));done)|fail):G:=h
theorem wq55{G:Prop}(h:G:=by first|((apply YO.ldPb;(first|exact wq144|exact wq143|exact T.r22|exact T.r53);exact rfl;exact hmA;omega);done)|fail):G:=h
theorem wq56{G:Prop}(h:G:=by first|((refine WC.ret ?_;exact Fp [isZ (.agg #[.bool false,.slice none 0 0]) ((0:Nat):Int),isZ (.agg #[.bool n2,d2]) ((m%n:Nat):Int)] (Qg.cc rfl rfl rfl meA meA T.r73 rfl T.r73 rfl) haA ⟨false,_,n2,d2,rfl,rfl,hb2,rfl,rfl⟩);done)|fail):G:=h
theorem wq57{G:Prop}(h:G:=by first|((apply YO.assign;exact rfl);done)|fail):G:=h
theorem wq58{G:Prop}(h:G:=by first|((refine WC.ret ?_;exact Fp [isZ (.agg #[.bool nb,d]) (x*y)] (rcV T.r73) haA ⟨nb,_,rfl,hb,rfl,rfl⟩);done)|fail):G:=h
theorem wq59{G:Prop}(h:G:=by first|((rw[Qk,Qk];omega);done)|fail):G:=h
theorem wq60{G:Prop}(h:G:=by first|((refine WC.ret ?_;exact Fp [isZ (.agg #[.bool nb,d]) 1] (rcV T.r73) haA ⟨nb,_,rfl,hb,rfl,rfl⟩);done)|fail):G:=h
theorem wq61{G:Prop}(h:G:=by first|((refine WC.ret ?_;exact Fp [isZ (.agg #[.bool nb,v]) z] (rcV T.r73) haA ⟨nb,_,rfl,hb,rfl,rfl⟩);done)|fail):G:=h
theorem wq62{G:Prop}(h:G:=by first|((refine WC.ret ?_;exact Fin.v (Qg.t1 rfl rfl) meA (by simp[c]));done)|fail):G:=h
theorem wq63{G:Prop}(h:G:=by first|((refine WC.ret ?_;exact Fp [isZ (.agg #[.bool n8,d8]) (x/y),isZ (.agg #[.bool n9,d9]) (x%y)] (Qg.cc rfl rfl rfl meA meA T.r73 rfl T.r73 rfl) haA ⟨n8,d8,n9,d9,rfl,hbq,hbr,rfl,rfl⟩);done)|fail):G:=h
theorem wq64{G:Prop}(h:G:=by first|((rw[hqa];exact Q5 hmA);done)|fail):G:=h
theorem wq65{G:Prop}(h:G:=by first|((focus(apply KnS.out;exact meA;done));done)|fail):G:=h
theorem wq66{G:Prop}(h:G:=by first|((simp[Plan.len] at hf;exact hf);done)|fail):G:=h
theorem wq67{G:Prop}(h:G:=by first|((refine WC.ret ?_;exact Fin.v (Qg.t2 rfl rfl rfl) meA rfl);done)|fail):G:=h
theorem wq68{G:Prop}(h:G:=by first|((repeat(first|exact List.Mem.head _|apply List.Mem.tail));done)|fail):G:=h
theorem wq69{G:Prop}(h:G:=by first|((refine WC.ret ?_;exact Fin.p [_] [lM Qm 0 (λ_=>.slice none 0 0) (sl [])] (Qg.t1 rfl rfl) meA (List.Sublist.refl _) (.cons W.Has.Z3 .nil) ⟨_,rfl,rfl⟩);done)|fail):G:=h
theorem wq70{G:Prop}(h:G:=by first|((refine WC.ret ?_;exact Fp [lF Qm (.slice none 0 0) 0 (λ_=>.slice none 0 0) (sl [])] (Qg.t1 rfl rfl) (.cons W.Has.lnil .nil) ⟨_,rfl,rfl⟩);done)|fail):G:=h
theorem wq71{G:Prop}(h:G:=by first|((rw[size_setRow];exact Nat.le_refl _);done)|fail):G:=h
theorem wq72{G:Prop}(h:G:=by first|((rw[<-h6];exact W.Has.mk (S:=Qm) (n:=C.length) (ms:=ms) (xs:=xs) hmA d);done)|fail):G:=h
theorem wq73{G:Prop}(h:G:=by first|((first|exact T.s28|exact T.s61|exact T.s104|exact T.s116|exact T.s175);done)|fail):G:=h
theorem wq74{G:Prop}(h:G:=by first|((apply YO.rem;exact rfl;exact rfl;omega;omega);done)|fail):G:=h
theorem wq75{G:Prop}(h:G:=by first|((rw[hv];omega);done)|fail):G:=h
theorem wq76{G:Prop}(h:G:=by first|((repeat(first|exact QA.nil|(apply QA.cons;exact One.lit rfl rfl)));done)|fail):G:=h
theorem wq77{G:Prop}(h:G:=by first|((refine WC.ret ?_;exact Fp [isQ (.agg #[.bool n11,d11,.bool false,d12]) (a*b)] (rcV T.r75) haA ⟨n11,_,_,rfl,hb11,rfl,rfl⟩);done)|fail):G:=h
theorem wq78{G:Prop}(h:G:=by first|((refine WC.ret ?_;exact Fp [isQ (.agg #[.bool n11,d11,.bool false,d12]) (a+b)] (rcV T.r75) haA ⟨n11,_,_,rfl,hb11,rfl,rfl⟩);done)|fail):G:=h
theorem wq79{G:Prop}(h:G:=by first|((first|(apply YO.eqNz_t;exact t6A;exact rfl;exact knA;assumption)|(apply YO.eqNz_f;exact t6A;exact rfl;exact knA;assumption));done)|fail):G:=h
theorem wq80{G:Prop}(h:G:=by first|((refine WC.ret ?_;exact Fp [isQ (.agg #[.bool n4,d7,.bool false,d8]) (a-b)] (rcV T.r75) haA ⟨n4,_,_,rfl,hb4,rfl,rfl⟩);done)|fail):G:=h
theorem wq81{G:Prop}(h:G:=by first|((refine WC.ret ?_;exact Fp [isQ (.agg #[.bool n3,d3,.bool false,d2]) (-q)] (rcV T.r75) haA ⟨n3,_,_,rfl,hb4,rfl,rfl⟩);done)|fail):G:=h
theorem wq82{G:Prop}(h:G:=by first|((refine WC.ret ?_;exact Fp [isZ (.agg #[.bool false,d2]) (q.den:Int)] (rcV T.r73) haA ⟨false,_,rfl,QT _,rfl,rfl⟩);done)|fail):G:=h
theorem wq83{G:Prop}(h:G:=by first|((refine WC.ret ?_;exact Fin.o (Qg.t1 rfl rfl) meA meA rfl);done)|fail):G:=h
theorem wq84{G:Prop}(h:G:=by first|((repeat(first|exact EvP.nil|(apply EvP.cons;exact rfl)));done)|fail):G:=h
theorem wq85{G:Prop}(h:G:=by first|((repeat(first|exact Pt.nil|apply Pt.cons|apply Pt.skip));done)|fail):G:=h
theorem wq86{G:Prop}(h:G:=by first|((refine WC.ret ?_;exact Fin.p [_,_] [] (Qg.t1 rfl rfl) meA (List.Sublist.refl _) .nil ⟨_,_,rfl,rfl,rfl⟩);done)|fail):G:=h
theorem wq87{G:Prop}(h:G:=by first|((rw[hz,hd];repeat(first|exact Sel.head|apply Sel.tail));done)|fail):G:=h
theorem wq88{G:Prop}(h:G:=by first|((first|exact trivial|exact Hush.underlying _|exact Hush.sizeOf _|exact Hush.zeroValue _|exact λ_=>trivial);done)|fail):G:=h
theorem wq89{G:Prop}(h:G:=by first|((refine WC.ret ?_;exact Fp [isZ (.agg #[.bool false,d]) (-z)] (rcV T.r73) haA ⟨_,_,rfl,h2,rfl,rfl⟩);done)|fail):G:=h
theorem wq90{G:Prop}(h:G:=by first|((refine WC.ret ?_;exact Fp [isZ (.agg #[.bool b1,e1]) m] (rcV T.r73) haA ⟨b1,e1,rfl,hbm,rfl,rfl⟩);done)|fail):G:=h
theorem wq91{G:Prop}(h:G:=by first|((refine WC.ret ?_;exact Fp [isZ (.agg #[.bool nb,d]) (-z)] (rcV T.r73) haA ⟨nb,_,rfl,hb,rfl,rfl⟩);done)|fail):G:=h
theorem wq92{G:Prop}(h:G:=by first|((refine WC.ret ?_;exact Fp [fV (n1,n2) ⟨a.x*k,a.y*k⟩] (rcV T.r77) haA ⟨(n1,n2),rfl,rfl,rfl⟩);done)|fail):G:=h
theorem wq93{G:Prop}(h:G:=by first|((refine WC.ret ?_;exact Fin.p [_] [] (Qg.t1 rfl rfl) meA (List.Sublist.refl _) .nil ⟨rfl,rfl⟩);done)|fail):G:=h
theorem wq94{G:Prop}(h:G:=by first|((refine WC.ret ?_;exact Fp [isZ (.agg #[.bool nb,d]) p] (rcV T.r73) haA ⟨nb,d,rfl,hb,rfl,rfl⟩);done)|fail):G:=h
theorem wq95{G:Prop}(h:G:=by first|((refine WC.ret ?_;exact Fp [isZ (.agg #[.bool nb,e]) n] (rcV T.r73) haA ⟨nb,_,rfl,hb,rfl,rfl⟩);done)|fail):G:=h
theorem wq96{G:Prop}(h:G:=by first|((refine WC.ret ?_;exact Fp [fV (n1,n2) (Bl.Jr a b)] (rcV T.r77) haA ⟨(n1,n2),rfl,rfl,rfl⟩);done)|fail):G:=h
theorem wq97{G:Prop}(h:G:=by first|((show n-(k+1)<n-k;omega);done)|fail):G:=h
theorem wq98{G:Prop}(h:G:=by first|((apply YO.shl';exact rfl;exact rfl;omega;omega;(first|omega|decide);(first|omega|decide));done)|fail):G:=h
theorem wq99{G:Prop}(h:G:=by first|((refine WC.ret ?_;exact Fp [sI v o] (Qg.t1 rfl rfl) haA ⟨_,rfl,rfl,hd,hval,by omega⟩);done)|fail):G:=h
theorem wq100{G:Prop}(h:G:=by first|((show i+1<=m;omega);done)|fail):G:=h
theorem wq101{G:Prop}(h:G:=by first|((unfold Lp.n;omega);done)|fail):G:=h
theorem wq102{G:Prop}(h:G:=by first|((refine WC.ret ?_;exact Fp [isQ (qv m1) 1] (rcV T.r75) haA ⟨m1,rfl,rfl,rfl⟩);done)|fail):G:=h
theorem wq103{G:Prop}(h:G:=by first|((refine WC.ret ?_;exact Fin.v (Qg.t1 rfl rfl) meA (by rw[decide_eq_false qo]));done)|fail):G:=h
theorem wq104{G:Prop}(h:G:=by first|((rw[hv2,Qk];show((Q+1:Nat):Int).natAbs=((Q:Int)+(1+1000000000*0)).toNat;omega);done)|fail):G:=h
theorem wq105{G:Prop}(h:G:=by first|((refine WC.ret ?_;exact Fin.v (Qg.t1 rfl rfl) meA (by rw[decide_eq_true qo]));done)|fail):G:=h
theorem wq106{G:Prop}(h:G:=by first|((show b.length-(i+1)<b.length-i;omega);done)|fail):G:=h
theorem wq107{G:Prop}(h:G:=by first|((unfold Lp.la;omega);done)|fail):G:=h
theorem wq108{G:Prop}(h:G:=by first|((decide +kernel);done)|fail):G:=h
theorem wq109{G:Prop}(h:G:=by first|((rw[hv3,hra,Qk,Qk];omega);done)|fail):G:=h
theorem wq110{G:Prop}(h:G:=by first|((focus((repeat(first|exact KY.nil|apply KY.drop|apply KY.keep));done));done)|fail):G:=h
theorem wq111{G:Prop}(h:G:=by first|((show k+1<=n;omega);done)|fail):G:=h
theorem wq112{G:Prop}(h:G:=by first|((refine WC.ret ?_;exact Fp [_] (Qg.t1 rfl rfl) sfA ⟨ms,rfl,rfl⟩);done)|fail):G:=h
theorem wq113{G:Prop}(h:G:=by first|((refine WC.ret ?_;exact Fp [_] (Qg.t1 rfl rfl) sfA ⟨om,rfl,rfl⟩);done)|fail):G:=h
theorem wq114{G:Prop}(h:G:=by first|((refine WC.ret ?_;exact Fin.v (Qg.t1 rfl rfl) meA (by rw[hmn,ZC]));done)|fail):G:=h
theorem wq115{G:Prop}(h:G:=by first|((have:i<Ql l:=hi;omega);done)|fail):G:=h
theorem wq116{G:Prop}(h:G:=by first|((rw[show qz (-q)=qz q by unfold qz;rw[Rat.neg_den]];exact KT hmA);done)|fail):G:=h
theorem wq117{G:Prop}(h:G:=by first|((simp only[ids,List.flatMap_cons,List.mem_append];exact .inr hk);done)|fail):G:=h
theorem wq118{G:Prop}(h:G:=by first|((show m/1000000000<m;exact hdiv);done)|fail):G:=h
theorem wq119{G:Prop}(h:G:=by first|((rw[show((p%q:Nat):Int)=(p:Int) % (q:Int) by simp];exact suA);done)|fail):G:=h
theorem wq120{G:Prop}(h:G:=by first|((show ¬((1:Int):Rat)=0;decide);done)|fail):G:=h
theorem wq121{G:Prop}(h:G:=by first|((rw[show((k-1:Nat):Int)-1=(k:Int)-1-1 by omega];exact suA);done)|fail):G:=h
theorem wq122{G:Prop}(h:G:=by first|((first|(apply YO.ldC;exact t4A;exact rfl;exact meA;exact wq24)|(apply YO.ldL;exact t4A;exact rfl;exact hmA;exact wq147;omega;decide;exact wq24)|(apply YO.ldLs;exact t2A;exact rfl;exact hmA;exact wq147;omega;exact wq24)|(apply YO.ldCk;exact t4A;exact rfl;exact hmA;exact wq24));done)|fail):G:=h
theorem wq123{G:Prop}(h:G:=by first|((focus(repeat(first|exact Ju.nil _|(apply Ju.cons;exact wq9))));done)|fail):G:=h
theorem wq124{G:Prop}(h:G:=by first|((refine WC.ret ?_;exact Fp [isZ (.agg #[.bool false,d3]) (x/y),isZ (.agg #[.bool false,d4]) (x%y)] (Qg.cc rfl rfl rfl meA meA T.r73 rfl T.r73 rfl) haA ⟨false,d3,false,d4,rfl,wq16,hb4,rfl,rfl⟩);done)|fail):G:=h
theorem wq125{G:Prop}(h:G:=by first|((repeat(first|exact QA.nil|(apply QA.cons;exact wq7)));done)|fail):G:=h
theorem wq126{G:Prop}(h:G:=by first|((first|(apply YO.ix1;exact wq14;exact rfl;exact rfl;exact wq43;omega)|(apply YO.YC;exact wq14;exact rfl;exact rfl;exact wq43;omega;omega)|(apply YO.ix1;exact wq14;exact rfl;exact rfl;exact wq65;omega)|(apply YO.YC;exact wq14;exact rfl;exact rfl;exact wq65;omega;omega)|(apply YO.ix1;exact wq14;exact rfl;exact rfl;exact knA;omega)|(apply YO.ix;exact wq14;exact rfl;exact rfl;exact knA;omega)|(apply YO.YC;exact wq14;exact rfl;exact rfl;exact knA;omega;omega)|(apply YO.ix';exact wq14;exact rfl;exact rfl;exact knA;omega;omega));done)|fail):G:=h
theorem wq127{G:Prop}(h:G:=by first|((first|(apply YO.ix1;exact t6A;exact rfl;exact rfl;exact knA;omega)|(apply YO.ix;exact t6A;exact rfl;exact rfl;exact knA;omega)|(apply YO.YC;exact t6A;exact rfl;exact rfl;exact knA;omega;omega)|(apply YO.ix';exact t6A;exact rfl;exact rfl;exact knA;omega;omega));done)|fail):G:=h
theorem wq128{G:Prop}(h:G:=by first|((first|(apply YO.slice;exact wq14;exact rfl;exact wq43;exact Or.inl ⟨rfl,rfl⟩;exact Or.inr ⟨_,rfl,rfl⟩;omega;omega)|(apply YO.slice;exact wq14;exact rfl;exact wq43;exact Or.inr ⟨_,rfl,rfl⟩;exact Or.inl ⟨rfl,rfl⟩;omega;omega)|(apply YO.slice;exact wq14;exact rfl;exact knA;exact Or.inl ⟨rfl,rfl⟩;exact Or.inr ⟨_,rfl,rfl⟩;omega;omega)|(apply YO.slice;exact wq14;exact rfl;exact knA;exact Or.inr ⟨_,rfl,rfl⟩;exact Or.inl ⟨rfl,rfl⟩;omega;omega));done)|fail):G:=h
theorem wq129{G:Prop}(h:G:=by first|((first|(apply YO.ldW;exact t4A;exact rfl;exact meA;exact rfl)|(apply YO.ld42;exact t4A;exact rfl;exact meA)|(apply YO.ld40;exact t4A;exact rfl;exact meA)|(apply YO.ld51;exact t4A;exact rfl;exact meA));done)|fail):G:=h
theorem wq130{G:Prop}(h:G:=by first|((first|(apply YO.ldF;exact t2A;exact rfl;exact hmA;exact rfl)|(apply YO.ldS;exact t2A;exact rfl;exact hsA;omega)|(apply YO.ldB;exact t2A;exact rfl;exact meA;exact rfl));done)|fail):G:=h
theorem wq131{G:Prop}(h:G:=by first|((focus((repeat(first|exact Z0.nil _|(apply Z0.cons;exact rfl;exact wq9)));done));done)|fail):G:=h
theorem wq132{G:Prop}(h:G:=by first|((first|exact wq53|(apply YO.Jb;exact T.f42_0;exact rfl;exact wq2)|(apply YO.Jb;exact T.f42_1;exact rfl;exact wq2)|(apply YO.Jb;exact T.f42_2;exact rfl;exact wq2)|(apply YO.Jb;exact T.f35_0;exact rfl;exact wq2)|(apply YO.Jb;exact T.f35_1;exact rfl;exact wq2)|(apply YO.Jb;exact T.f35_2;exact rfl;exact wq2));done)|fail):G:=h
theorem wq133{G:Prop}(h:G:=by first|((first|(apply YO.ldC;exact T.r53;exact rfl;exact meA;exact wq24)|(apply YO.ldCk;exact T.r53;exact rfl;exact hmA;exact wq24)|(apply YO.ldFi;exact sc_int;exact rfl;exact meA;exact rfl)|(apply YO.ldPa;exact wq21;exact rfl;exact hmA;omega)|exact wq55);done)|fail):G:=h
theorem wq134{G:Prop}(h:G:=by first|((refine WC.ret ?_;exact Fp [isZ (.agg #[.bool true,d3]) (x/y),isZ (.agg #[.bool false,d4]) (x%y)] (Qg.cc rfl rfl rfl meA meA T.r73 rfl T.r73 rfl) haA ⟨true,d3,false,d4,rfl,wq16,hb4,rfl,rfl⟩);done)|fail):G:=h
theorem wq135{G:Prop}(h:G:=by first|((first|(apply YO.J3;exact T.Gl;exact rfl)|(apply YO.J3;exact T.V8;exact rfl)|(apply YO.Jb;exact T.Gl;exact rfl;exact wq2)|(apply YO.Jb;exact T.V8;exact rfl;exact wq2));done)|fail):G:=h
theorem wq136{G:Prop}(h:G:=by first|((first|exact T.H6|exact T.H7|exact T.H8);done)|fail):G:=h
theorem wq137{G:Prop}(h:G:=by first|((first|(apply YO.len;exact wq14;exact rfl;exact wq43)|(apply YO.len;exact wq14;exact rfl;exact wq65)|(apply YO.len;exact wq14;exact rfl;exact knA));done)|fail):G:=h
theorem wq138{G:Prop}(h:G:=by first|((apply YO.shr';exact rfl;exact rfl;omega;omega);done)|fail):G:=h
theorem wq139{G:Prop}(h:G:=by first|((first|(apply YO.ZL;exact wq14;exact rfl;exact knA;assumption)|(apply YO.ZN;exact wq14;exact rfl;exact knA;assumption));done)|fail):G:=h
theorem wq140{G:Prop}(h:G:=by first|((first|exact T.r42|exact T.r35);done)|fail):G:=h
theorem wq141{G:Prop}(h:G:=by first|((apply YO.move;exact rfl);done)|fail):G:=h
theorem wq142{G:Prop}(h:G:=by first|((first|exact wq40|exact Jd|exact Zv|exact Zy|exact Jw|exact Kg|exact wq23|exact U5|exact wq42|exact X1);done)|fail):G:=h
theorem wq143{G:Prop}(h:G:=by first|((first|exact T.r39|exact T.r63|exact T.r77|exact T.r88|exact T.r93|exact T.r127|exact T.r163);done)|fail):G:=h
theorem wq144{G:Prop}(h:G:=by first|((first|exact T.r73|exact T.r75|exact T.r118|exact T.r122|exact T.r141);done)|fail):G:=h
theorem wq145{G:Prop}(h:G:=by first|((apply YO.ixNI;exact T.a22;exact rfl;exact rfl;omega;omega;exact wq2);done)|fail):G:=h
theorem wq146{G:Prop}(h:G:=by first|((first|exact wq127|(apply YO.ix1;exact t6A;exact rfl;exact rfl;exact knA;exact wq27)|(apply YO.ix;exact t6A;exact rfl;exact rfl;exact knA;exact wq27)|(apply YO.YC;exact t6A;exact rfl;exact rfl;exact knA;omega;exact wq27));done)|fail):G:=h
theorem wq147{G:Prop}(h:G:=by first|((first|exact Off.base|(apply Off.add;exact Off.base;exact wq2)|(apply Off.add;apply Off.add;exact Off.base;exact wq2;exact wq2)|(apply Off.add;apply Off.add;apply Off.add;exact Off.base;exact wq2;exact wq2;exact wq2));done)|fail):G:=h
theorem wq148{G:Prop}(h:G:=by first|((first|(apply YO.ix1;exact t6A;exact rfl;exact rfl;exact knA;exact wq26)|(apply YO.ix;exact t6A;exact rfl;exact rfl;exact knA;exact wq26)|(apply YO.YC;exact t6A;exact rfl;exact rfl;exact knA;omega;exact wq26));done)|fail):G:=h
theorem wq149{G:Prop}(h:G:=by first|((first|exact XG|(first|exact wq13|exact wq41)|exact wq37|exact Jw|exact wq17|(first|exact wq122|exact wq5));done)|fail):G:=h
theorem wq150{G:Prop}(h:G:=by first|((first|exact T.sc3|exact T.sc4|exact T.Dx|exact T.Dv|exact T.Kx|exact T.Uu|exact T.Uf|exact T.Ud);done)|fail):G:=h
theorem wq151{G:Prop}(h:G:=by first|((apply YO.nil;exact rfl);done)|fail):G:=h
theorem wq152{G:Prop}(h:G:=by first|((first|exact wq129|exact wq130|(apply YO.Ks;exact t2A;exact rfl;exact meA;exact wq27));done)|fail):G:=h
theorem wq153{G:Prop}(h:G:=by first|((first|rfl|assumption|decide);done)|fail):G:=h
theorem qo{p:Prop}(h:p:=by omega):p:=h
theorem qd{p:Prop}(h:p:=by decide):p:=h
theorem qr{p:Prop}(h:p:=by exact rfl):p:=h
theorem kr{α:Type}{a b:α}(h:a=b:=by kernel_rfl):a=b:=h
section
open Go.RowKit
open Go.Conc (G listed)
namespace W
section
variable {P:Program}{m:Bool}{b:Frame}{a:Act}{k k':List Item}{cs:List Frame}{w w':World}{x y c:Code}{l id:Nat}{ops:Array Oper}{i:Nat}{rest:List Nat}{o:Oper}{v:Value}
def sg_skip:stepG P m (G (b.atR a (.code .skip::k)) cs) w=.go (G (b.atR a k) cs) w #[]:=by simp[G,stepG,stepG.exec,Frame.atR]
def sg_label:stepG P m (G (b.atR a (.code (.label l)::k)) cs) w=.go (G (b.atR a k) cs) w #[]:=by simp[G,stepG,stepG.exec,Frame.atR]
def KZ:stepG P m (G (b.atR a (.inBlock id::k)) cs) w=.go (G (b.atR a k) cs) w #[]:=by simp[G,stepG,stepG.exec,Frame.atR]
def sg_inScope:stepG P m (G (b.atR a (.inScope c::k)) cs) w=.go (G (b.atR a k) cs) w #[]:=by simp[G,stepG,stepG.exec,Frame.atR]
def XN:stepG P m (G (b.atR a (.code (.seq x y)::k)) cs) w=.go (G (b.atR a (.code x::.code y::k)) cs) w #[]:=by simp[G,stepG,stepG.exec,Frame.atR]
def VK{u:Operand}{t:Bool}(h:a.eval u=.bool t):stepG P m (G (b.atR a (.code (.cond u x y)::k)) cs) w=.go (G (b.atR a (.code (if t then x else y)::k)) cs) w #[]:=by
 have:=congrFun (Frame.eval_atR b a (.code (.cond u x y)::k)) u;simp only[Frame.atR] at this;simp[G,stepG,stepG.exec,Frame.atR,this,h]
def Ub:stepG P m (G (b.atR a (.code (.block id c)::k)) cs) w=.go (G (b.atR a (.code c::.inBlock id::k)) cs) w #[]:=by simp[G,stepG,stepG.exec,Frame.atR]
def sg_scope:stepG P m (G (b.atR a (.code (.scope c)::k)) cs) w=.go (G (b.atR a (.code c::.inScope c::k)) cs) w #[]:=by simp[G,stepG,stepG.exec,Frame.atR]
def Dh:stepG P m (G (b.atR a (.code (.loop c)::k)) cs) w=.go (G (b.atR a (.code c::.inLoop c::k)) cs) w #[]:=by simp[G,stepG,stepG.exec,Frame.atR]
def UN:stepG P m (G (b.atR a (.inLoop c::k)) cs) w=.go (G (b.atR a (.code c::.inLoop c::k)) cs) w #[]:=by simp[G,stepG,stepG.exec,Frame.atR]
def sg_exit(h:exitTo id k=some k'):stepG P m (G (b.atR a (.code (.exit id)::k)) cs) w=.go (G (b.atR a k') cs) w #[]:=by simp[G,stepG,stepG.exec,Frame.atR,h]
def sg_ret(hb:b.roundOf=none):stepG P m (G (b.atR a (.code .ret::k)) cs) w=.go (G {b.atR a (.code .ret::k) with mode:=.returning} cs) w #[]:=by simp[G,stepG,stepG.exec,Frame.atR,hb]
def sg_end(hb:b.roundOf=none):stepG P m (G (b.atR a []) cs) w=.go (G {b.atR a [] with mode:=.returning} cs) w #[]:=by simp[G,stepG,stepG.exec,Frame.atR,hb]
def Y1:stepG P m (G (b.atR a (.code (.region id ops false)::k)) cs) w=.go (G (b.atR a (.inRegion ops (List.range ops.size)::k)) cs) w #[]:=by simp[G,stepG,stepG.exec,Frame.atR]
def JM:stepG P m (G (b.atR a (.inRegion ops []::k)) cs) w=.go (G (b.atR a k) cs) w #[]:=by simp[G,stepG,stepG.exec,Frame.atR]
def sg_draw:stepG P m (G (b.atR a (.code (.region id ops true)::k)) cs) w =
  .go (G (b.atR a (.inRegion ops (Region.schedule (P.follows .mixedOrders) ops (w.tape w.drawn (.order b.fn id)))::k)) cs) {w with drawn:=w.drawn+1} #[]:=by
 simp[G,stepG,stepG.exec,Frame.atR,choose,Sem.run,Question.forced,Question.cut]
def Zo(ho:ops[i]?=some o)(v:Value):(b.atR a (.inRegion ops (i::rest)::k)).finish v=b.atR (a.put o.dst v) (.inRegion ops rest::k):=by rw[Frame.finish_atR,ho];rfl
def sg_unwanted(ho:ops[i]?=some o)(hw:Region.wanted o (yielded ops a.tmps)=false):stepG P m (G (b.atR a (.inRegion ops (i::rest)::k)) cs) w=.go (G (b.atR (a.put o.dst undef) (.inRegion ops rest::k)) cs) w #[]:=by
 rw[<-Zo ho];simp[G,stepG,stepG.exec,Frame.atR,ho,hw]
def VW(ho:ops[i]?=some o)(hw:Region.wanted o (yielded ops a.tmps)=true)(hd:∀c,o.op≠.defer c) :
  stepG P m (G (b.atR a (.inRegion ops (i::rest)::k)) cs) w=stepG.apply P true (b.atR a (.inRegion ops (i::rest)::k)) cs none (execOp a.eval o) w:=by
 have he:=Frame.eval_atR b a (.inRegion ops (i::rest)::k);simp only[Frame.atR] at he;simp only[G,stepG,stepG.exec,stepG.oper,Frame.oper?,Frame.atR,ho,hw,he,Option.map_some,Option.getD_some,if_true];cases hb:b.roundOf with
 |none=>rfl
 |some l=>cases hop:o.op<;>first|rfl|exact absurd hop (hd _)
def HG(ho:ops[i]?=some o)(hw:Region.wanted o (yielded ops a.tmps)=true)(hd:∀c,o.op≠.defer c)(hk:b.kind≠.early)(hr:(execOp a.eval o).run P w=.ok (.value v) w') :
  stepG P m (G (b.atR a (.inRegion ops (i::rest)::k)) cs) w=.go (G (b.atR (a.put o.dst v) (.inRegion ops rest::k)) cs) w' (listed P b.fn a o w):=by
 have hk':(b.kind == CallKind.early)=false:=by simpa using hk
 rw[VW ho hw hd,<-Zo ho];simp[stepG.apply,hr,G,Frame.atR,hk',GStep.after,listed]
def sg_none(ho:ops[i]?=some o)(hw:Region.wanted o (yielded ops a.tmps)=true)(hd:∀c,o.op≠.defer c)(hk:b.kind≠.early)(hr:(execOp a.eval o).run P w=.ok .skip w') :
  stepG P m (G (b.atR a (.inRegion ops (i::rest)::k)) cs) w=.go (G (b.atR (a.put o.dst undef) (.inRegion ops rest::k)) cs) w' (listed P b.fn a o w):=by
 have hk':(b.kind == CallKind.early)=false:=by simpa using hk
 rw[VW ho hw hd,<-Zo ho];simp[stepG.apply,hr,G,Frame.atR,hk',GStep.after,listed]
def sg_enter{f:FuncId}{args:Array Value}(ho:ops[i]?=some o)(hw:Region.wanted o (yielded ops a.tmps)=true)(hd:∀c,o.op≠.defer c)(hk:b.kind≠.early)(hr:(execOp a.eval o).run P w=.ok (.enter f args) w') :
  stepG P m (G (b.atR a (.inRegion ops (i::rest)::k)) cs) w=.go (G (Frame.enter P f args .normal) (b.atR a (.inRegion ops (i::rest)::k)::cs)) w' (listed P b.fn a o w):=by
 have hk':(b.kind == CallKind.early)=false:=by simpa using hk
 rw[VW ho hw hd];simp[stepG.apply,hr,G,Frame.atR,hk',GStep.after,listed]
def sg_round{l:Nat}{f:FuncId}{tmps:Array Value}(ho:ops[i]?=some o)(hw:Region.wanted o (yielded ops a.tmps)=true)(hd:∀c,o.op≠.defer c)(hk:b.kind≠.early)(hr:(execOp a.eval o).run P w=.ok (.round l f tmps x y) w') :
  stepG P m (G (b.atR a (.inRegion ops (i::rest)::k)) cs) w=.go (G (Frame.round l f tmps x y .normal) (b.atR a (.inRegion ops (i::rest)::k)::cs)) w' (listed P b.fn a o w):=by
 have hk':(b.kind == CallKind.early)=false:=by simpa using hk
 rw[VW ho hw hd];simp[stepG.apply,hr,G,Frame.atR,hk',GStep.after,listed]
def ZZ{ρ:Operand->Value}{n:Next}(hr:(execOp ρ o).run P w=.ok n w')(hn:∀d,n≠.defer d):∀c,o.op≠.defer c:=by
 intro c hc
 have:(execOp ρ o).run P w=((resolve ρ c o.type).bind λd=>Sem.pure (Next.defer d)).run P w:=by
  simp only[execOp,hc];rfl
 rw[hr,Sem.run_bind'] at this;cases hx:(resolve ρ c o.type).run P w with
 |ok d w1=>
  rw[hx] at this;simp[Result.andThen,Sem.run] at this;exact hn _ this.1
 |halt h w1=>rw[hx] at this;simp[Result.andThen] at this
def mkD(D:Nat):Deferred:={target:=.collected D,args:=#[]}
def XD(l:Nat)(f:FuncId):Frame:={(default:Frame) with fn:=f,kind:=.normal,roundOf:=some l}
def round_at{l:Nat}{f:FuncId}{tmps:Array Value}:Frame.round l f tmps x y .normal=(XD l f).atR ⟨tmps,[]⟩ [.code x,.beginRound,.code y]:=rfl
def Kk{r:Loop}(hl:b.roundOf=some l)(hk:b.kind≠.early)(h:w.heap[l]?=some (.loop r))(hr:r.state=.ready) :
  stepG P m (G (b.atR a (.beginRound::k)) cs) w=.go (G (b.atR a k) cs) (w.putObj l (.loop {r with state:=.busy})) (seen P b.fn ((Instr.beginRound l).events P w #[])):=by
 have hk':(b.kind == CallKind.early)=false:=by simpa using hk
 have h1:=run_beginRound (P:=P) h hr;simp[G,stepG,stepG.exec,stepG.apply,Frame.atR,hl,hk',h1,GStep.after,Frame.finish]
def H9{r:Loop}{j:Code}(hl:b.roundOf=some l)(hk:b.kind=.normal)(h:w.heap[l]?=some (.loop r))(hj:j=.ret\/∃id,j=.exit id/\exitTo id k=none){c0:Frame} :
  stepG P m (G (b.atR a (.code j::k)) (c0::cs)) w=.go (G (c0.finish (.bool false)) cs) (w.putObj l (.loop {r with state:=.done,pending:=some j})) (seen P b.fn ((Instr.endRound l (some j)).events P w #[])):=by
 have h1:=run_endRound (P:=P) (some j) h;rcases hj with rfl|⟨id,rfl,hid⟩
 .simp[G,stepG,stepG.exec,Frame.atR,hl,hk,h1,GStep.after,doReturn]
 .simp[G,stepG,stepG.exec,Frame.atR,hl,hk,h1,GStep.after,doReturn,hid]
def sg_endRange{r:Loop}(h:w.heap[l]?=some (.loop r))(hb:r.state≠.busy) :
  stepG P m (G (b.atR a (.endRangeFunc l::k)) cs) w=.go (G (b.atR a ((r.pending.map Item.code).toList++k)) cs) (w.putObj l (.loop {r with state:=.exhausted})) (seen P b.fn ((Instr.endLoop l).events P w #[])):=by
 have h1:=run_endLoop (P:=P) h hb;simp[G,stepG,stepG.exec,Frame.atR,h1,GStep.after]
def HH{D:Nat}{ds:List Deferred}{tmps:Array Value}{todo:List Item}(h:w.heap[D]?=some (.deferred (some []))) :
  stepG P m (G {b.atR ⟨tmps,mkD D::ds⟩ todo with mode:=.returning} cs) w=.go (G {b.atR ⟨tmps,ds⟩ todo with mode:=.returning} cs) (w.putObj D (.deferred none)) (seen P b.fn ((Instr.takeDeferred D).events P w #[])):=by
 have h1:=run_takeDeferred (P:=P) h;simp[G,stepG,unwind,Frame.atR,mkD,h1,GStep.after]
def sg_range {g:Operand} {ps:Array Tmp} {gf:FuncId} {lb:Array Value} (hb:b.roundOf=none) (hk:b.kind≠.early) (hg:a.eval g=.func (.func gf) #[] lb) (hc:∃fn,P.funcs[gf]?=some fn/\(fn.name == "runtime.NumGoroutine")=false/\fn.body.isNone=false) :
  stepG P m (G (b.atR a (.code (.rangeFunc g ps x y)::k)) cs) w =
   .go (G (Frame.enter P gf (#[.func (.yield (w.heap.size+1)) #[] #[]]++lb) .normal) (b.atR ⟨a.tmps,mkD w.heap.size::a.defers⟩ (.inRangeFunc (w.heap.size+1)::k)::cs))
    ((w.alloc (.deferred (some []))).alloc (.loop {state:=.ready,pending:=none,fn:=b.fn,tmps:=a.tmps,params:=ps,assign:=x,body:=y,defers:=w.heap.size})) #[]:=by
 obtain⟨fn,h1,h2,h3⟩:=hc;have hk':(b.kind == CallKind.early)=false:=by simpa using hk
 have h2':¬fn.name= "runtime.NumGoroutine":=by simpa using h2
 have h3':¬fn.body=none:=by cases hb:fn.body<;>simp_all
 have he:=run_enterLoop_outer (P:=P) (w:=w) b.fn a.tmps ps x y;have hev:=congrFun (Frame.eval_atR b a (.code (.rangeFunc g ps x y)::k)) g;simp only[Frame.atR] at hev
 have hev2:∀todo (ds:List Deferred),Frame.eval {fn:=b.fn,tmps:=a.tmps,todo:=todo,defers:=ds,mode:=.run,kind:=b.kind,roundOf:=none} g=.func (.func gf) #[] lb:=λtodo ds=>by
  rw[<-hg];cases g<;>rfl
 simp[G,stepG,stepG.exec,Frame.atR,hb,he,GStep.after,stepG.apply,hk',resolve,hev2,Deferred.ofValue,invoke,callFunc,program,Sem.run,h1,h2',h3',mkD,show ∀fr:Frame,fr.eval (.const (.func (.yield (w.heap.size+1)) #[] #[]))=.func (.yield (w.heap.size+1)) #[] #[] from λ_=>rfl];exact⟨rfl,rfl⟩
def Zm{r:Nat}{o:Obj}{es:Array Event}(h:w.heap[r]?=some o)(hc:∀vs ty fr,o≠.cells vs ty fr):(getObj r).events P w es=es.push ⟨.obj r,false,o.isChan⟩:=by
 cases o<;>first|exact absurd rfl (hc _ _ _)|simp[getObj,Sem.events,Sem.runT,h,-Sem.runT_eq]
def XJ{r:Nat}{o o':Obj}{es:Array Event}(h:w.heap[r]?=some o')(hc:∀vs ty fr,o'≠.cells vs ty fr):(setObj r o).events P w es=es.push ⟨.obj r,true,o.isChan⟩:=by
 cases o'<;>first|exact absurd rfl (hc _ _ _)|simp[setObj,Sem.events,Sem.runT,h,-Sem.runT_eq]
def XQ{r:Nat}{o:Loop}{es:Array Event}(h:w.heap[r]?=some (.loop o)):(Instr.getLoop r).events P w es=es.push ⟨.obj r,false,false⟩:=by
 have h1:=Zm (P:=P) (es:=es) h (by simp);have h2:(getObj r).run P w=.ok (.loop o) w:=by simp[getObj,Sem.run,h]
 simp[Instr.getLoop,h1,h2,Obj.isChan]
def Vk{r:Nat}{o:Obj}(h:w.heap[r]?=some o)(hc:∀vs ty fr,o≠.cells vs ty fr):(getObj r).run P w=.ok o w:=by
 cases o<;>first|exact absurd rfl (hc _ _ _)|simp[getObj,Sem.run,h]
def YG{r:Nat}{o o':Obj}(h:w.heap[r]?=some o')(hc:∀vs ty fr,o'≠.cells vs ty fr):(setObj r o).run P w=.ok () (w.putObj r o):=by
 cases o'<;>first|exact absurd rfl (hc _ _ _)|simp[setObj,Sem.run,h,World.putObj]
def run_getLoop{r:Nat}{o:Loop}(h:w.heap[r]?=some (.loop o)):(Instr.getLoop r).run P w=.ok o w:=by
 have h2:=Vk (P:=P) h (by simp);simp[Instr.getLoop,h2]
def Yk{D:Nat}{ds:List Deferred}{es:Array Event}(h:w.heap[D]?=some (.deferred (some ds))) :
  (Instr.takeDeferred D).events P w es=(es.push ⟨.obj D,false,false⟩).push ⟨.obj D,true,false⟩:=by
 simp[Instr.takeDeferred,Zm h,Vk h,XJ h,YG h,Obj.isChan]
def YZ{r:Loop}{es:Array Event}(h:w.heap[l]?=some (.loop r))(hr:r.state=.ready) :
  (Instr.beginRound l).events P w es=(es.push ⟨.obj l,false,false⟩).push ⟨.obj l,true,false⟩:=by
 simp[Instr.beginRound,XQ h,run_getLoop h,XJ h,YG h,Obj.isChan,hr]
def Zf{r:Loop}{es:Array Event}{j:Option Code}(h:w.heap[l]?=some (.loop r)) :
  (Instr.endRound l j).events P w es=(es.push ⟨.obj l,false,false⟩).push ⟨.obj l,true,false⟩:=by
 simp[Instr.endRound,XQ h,run_getLoop h,XJ h,YG h,Obj.isChan]
def V7{r:Loop}{es:Array Event}(h:w.heap[l]?=some (.loop r))(hr:r.state≠.busy) :
  (Instr.endLoop l).events P w es=(es.push ⟨.obj l,false,false⟩).push ⟨.obj l,true,false⟩:=by
 simp[Instr.endLoop,XQ h,run_getLoop h,XJ h,YG h,Obj.isChan,hr]
def KO{r:Loop}{es:Array Event}{args:Array Value}(h:w.heap[l]?=some (.loop r))(ha:args.size=r.params.size) :
  (Instr.yield l args).events P w es=es.push ⟨.obj l,false,false⟩:=by
 simp[Instr.yield,XQ h,run_getLoop h,ha]
def Zq{r:Loop}{args:Array Value}(h:w.heap[l]?=some (.loop r))(ha:args.size=r.params.size) :
  (Instr.yield l args).run P w=.ok (.round l r.fn ((r.params.zip args).foldl (λtmps (t,a)=>tmps.setIfInBounds t a) r.tmps) r.assign r.body) w:=by
 simp[Instr.yield,run_getLoop h,ha]
end
end W
end
section
open Go.RowKit
open Go.Conc (G base listed)
namespace W
structure Rest(w w':World):Prop where
 os:w'.os=w.os
 tape:w'.tape=w.tape
 output:w'.output=w.output
def Rest.refl(w:World):Rest w w:=⟨rfl,rfl,rfl⟩
def Rest.trans{a b c:World}(h:Rest a b)(k:Rest b c):Rest a c:=⟨k.os.trans h.os,k.tape.trans h.tape,k.output.trans h.output⟩
def Rest.drawn(w:World)(n:Nat):Rest w {w with drawn:=n}:=⟨rfl,rfl,rfl⟩
abbrev Bk:=Nat->Prop
structure Rly(own sh:Bk)(w w1:World):Prop where
 rest:Rest w w1
 size:w.heap.size<=w1.heap.size
 keep:∀k,k<w.heap.size->own k\/sh k->w1.heap[k]?=w.heap[k]?
def Rly.refl(own sh:Bk)(w:World):Rly own sh w w:=⟨.refl w,Nat.le_refl _,λ_ _ _=>rfl⟩
def Rly.trans{own sh:Bk}{a b c:World}(h:Rly own sh a b)(k:Rly own sh b c):Rly own sh a c:=
 ⟨h.rest.trans k.rest,Nat.le_trans h.size k.size,λi hi ho=>(k.keep i (Nat.lt_of_lt_of_le hi h.size) ho).trans (h.keep i hi ho)⟩
def grow(own:Bk)(w w':World):Bk:=λk=>own k\/(w.heap.size<=k/\k<w'.heap.size)
def Qt{own:Bk}{w w':World}(h:w'.heap.size<=w.heap.size):grow own w w'=own:=by
 funext k;apply propext;unfold grow
 exact⟨λx=>x.elim id λy=>absurd y.2 qo,.inl⟩
def X7(own sh:Bk)(e:Event):Prop:=(∃a,e.loc=.cell a/\(own a.block\/(sh a.block/\e.write=false)))\/(∃m,e=⟨.mark m,false,true⟩/\Go.Conc.Neutral m)\/∃r,e.loc=.obj r/\own r
def X7.mono{own own' sh:Bk}{e:Event}(h:X7 own sh e)(ho:∀k,own k->own' k):X7 own' sh e:=
 h.imp (λ⟨a,h2,h3⟩=>⟨a,h2,h3.imp (ho _) id⟩) (Or.imp id λ⟨r,h2,h3⟩=>⟨r,h2,ho _ h3⟩)
structure X2(own sh:Bk)(w w':World)(es:Array Event):Prop where
 rest:Rest w w'
 size:w.heap.size<=w'.heap.size
 keep:∀k,k<w.heap.size->¬own k->w'.heap[k]?=w.heap[k]?
 evs:∀e∈es,X7 (grow own w w') sh e
def X2.idle(own sh:Bk)(w:World):X2 own sh w w #[]:=⟨.refl w,Nat.le_refl _,λ_ _ _=>rfl,λe he=>by simp at he⟩
def X2.drawn(own sh:Bk)(w:World)(n:Nat):X2 own sh w {w with drawn:=n} #[]:=⟨.drawn w n,Nat.le_refl _,λ_ _ _=>rfl,λe he=>by simp at he⟩
structure Md where
 b:Bool
 inv:World->Prop
 ok:Bk->Bk->World->World->Array Event->Bk->Prop
 Sp:Bk->Bk->Goroutine->World->(Bk->Goroutine->World->Prop)->Prop
 no:Bk
def Fair(main:Md)(sh own:Bk)(w w':World)(es:Array Event)(own':Bk):Prop:=(X2 own sh w w' es/\own'=grow own w w')\/main.ok sh own w w' es own'
section
variable (P:Program)(main:Md)(sh:Bk)(Stop:Bk->Goroutine->World->Prop)
inductive Run:Bk->Goroutine->World->Prop where
 |stop {own:Bk} {g:Goroutine} {w:World}:(∀w1,Rly own sh w w1->Stop own g w1)->Run own g w
 |step {own:Bk} {g:Goroutine} {w:World} (g':World->Goroutine) (w':World->World) (es:World->Array Event) (own':World->Bk):g.status=.running->
   (∀w1,Rly own sh w w1->main.inv w1->stepG P main.b g w1=.go (g' w1) (w' w1) (es w1)/\Fair main sh own w1 (w' w1) (es w1) (own' w1))->
   (∀w1,Rly own sh w w1->main.inv w1->Run (own' w1) (g' w1) (w' w1))->Run own g w
 |stroke {own:Bk} {g:Goroutine} {w:World} (K:Bk->Goroutine->World->Prop):g.status=.running->(∀w1,Rly own sh w w1->main.Sp sh own g w1 K)->
   (∀own' g' w',K own' g' w'->Run own' g' w')->Run own g w
end
section
variable {P:Program}{main:Md}{sh:Bk}{Stop:Bk->Goroutine->World->Prop}{own:Bk}{g g':Goroutine}{w w1:World}
def Run.rely(h:Run P main sh Stop own g w)(hr:Rly own sh w w1):Run P main sh Stop own g w1:=by
 cases h with
 |stop h=>exact .stop λw2 h2=>h w2 (hr.trans h2)
 |step g' w' es own' h1 h2 h3=>exact .step g' w' es own' h1 (λw2 h=>h2 w2 (hr.trans h)) λw2 h=>h3 w2 (hr.trans h)
 |stroke K h1 h2 h3=>exact .stroke K h1 (λw2 h=>h2 w2 (hr.trans h)) h3
def Run.goF(hs:g.status=.running)(h:∀w1,Rly own sh w w1->main.inv w1->∃g' w' es own',stepG P main.b g w1=.go g' w' es/\Fair main sh own w1 w' es own'/\Run P main sh Stop own' g' w'):Run P main sh Stop own g w:=by
 classical
 have h:∀w1,Rly own sh w w1/\main.inv w1->∃g' w' es own',stepG P main.b g w1=.go g' w' es/\Fair main sh own w1 w' es own'/\Run P main sh Stop own' g' w':=λw1 h1=>h w1 h1.1 h1.2
 refine .step (λw1=>if hr:Rly own sh w w1/\main.inv w1 then(h w1 hr).choose else g) (λw1=>if hr:Rly own sh w w1/\main.inv w1 then(h w1 hr).choose_spec.choose else w1)
  (λw1=>if hr:Rly own sh w w1/\main.inv w1 then(h w1 hr).choose_spec.choose_spec.choose else #[]) (λw1=>if hr:Rly own sh w w1/\main.inv w1 then(h w1 hr).choose_spec.choose_spec.choose_spec.choose else own) hs (λw1 hr hi=>?_) λw1 hr hi=>?_
 .simp only[dif_pos (show Rly own sh w w1/\main.inv w1 from⟨hr,hi⟩)];have:=(h w1 ⟨hr,hi⟩).choose_spec.choose_spec.choose_spec.choose_spec;exact⟨this.1,this.2.1⟩
 .simp only[dif_pos (show Rly own sh w w1/\main.inv w1 from⟨hr,hi⟩)];exact(h w1 ⟨hr,hi⟩).choose_spec.choose_spec.choose_spec.choose_spec.2.2
def Run.go(hs:g.status=.running)(h:∀w1,Rly own sh w w1->∃g' w' es,stepG P main.b g w1=.go g' w' es/\X2 own sh w1 w' es/\Run P main sh Stop (grow own w1 w') g' w'):Run P main sh Stop own g w:=
 Run.goF hs λw1 hr _=>let ⟨g',w',es,h1,h2,h3⟩:=h w1 hr;⟨g',w',es,_,h1,.inl ⟨h2,rfl⟩,h3⟩
def Run.quiet(hs:g.status=.running)(h:∀w1,stepG P main.b g w1=.go g' w1 #[])(hk:Run P main sh Stop own g' w):Run P main sh Stop own g w:=
 Run.go hs λw1 hr=>⟨g',w1,#[],h w1,X2.idle _ _ _,by rw[Qt (Nat.le_refl _)];exact hk.rely hr⟩
end
section
variable (P:Program)(main:Md)(sh:Bk)(Stop:Bk->Goroutine->World->Prop)
def Leave(own:Bk)(b:Frame)(cs:List Frame)(jump:Code)(a:Act)(w:World):Prop:=
 ∀k,(∀id,jump=.exit id->exitTo id k=none)->Run P main sh Stop own (G (b.atR a (.code jump::k)) cs) w
def After(own:Bk)(b:Frame)(k:List Item)(cs:List Frame):Exit->Act->World->Prop
 |.normal,a,w=>Run P main sh Stop own (G (b.atR a k) cs) w
 |.exit id,a,w=>(∃k',exitTo id k=some k'/\Run P main sh Stop own (G (b.atR a k') cs) w)\/(b.roundOf≠none/\exitTo id k=none/\Leave P main sh Stop own b cs (.exit id) a w)
 |.ret,a,w=>(b.roundOf=none->∀todo,Run P main sh Stop own (G {b.atR a todo with mode:=.returning} cs) w)/\(b.roundOf≠none->Leave P main sh Stop own b cs .ret a w)
 |_,_,_=>False
end
def wpR(P:Program)(main:Md)(sh:Bk)(c:Code)(Q:Bk->Exit->Act->World->Prop)(own:Bk)(a:Act)(w:World):Prop:=
 ∀b k cs Stop,b.kind≠.early->(∀own' e a' w',Q own' e a' w'->After P main sh Stop own' b k cs e a' w')->Run P main sh Stop own (G (b.atR a (.code c::k)) cs) w
def Vg(P:Program)(main:Md)(sh:Bk)(ops:Array Oper)(todo:List Nat)(Q:Bk->Exit->Act->World->Prop)(own:Bk)(a:Act)(w:World):Prop:=
 ∀b k cs Stop,b.kind≠.early->(∀own' e a' w',Q own' e a' w'->After P main sh Stop own' b k cs e a' w')->Run P main sh Stop own (G (b.atR a (.inRegion ops todo::k)) cs) w
section
variable {P:Program}{main:Md}{sh:Bk}{Q Q':Bk->Exit->Act->World->Prop}{own:Bk}{a:Act}{w w1:World}{x y c:Code}
def After.push{Stop:Bk->Goroutine->World->Prop}{b:Frame}{it:Item}{k:List Item}{cs:List Frame}{e:Exit}(hx:it.plain=true)(he:e≠.normal)(h:After P main sh Stop own b k cs e a w):After P main sh Stop own b (it::k) cs e a w:=by
 cases e with
 |normal=>exact absurd rfl he
 |exit id=>
  have hp:exitTo id (it::k)=exitTo id k:=by cases it<;>simp_all [exitTo,Item.plain]
  rcases h with ⟨k',hk,hg⟩|⟨h1,h2,h3⟩
  .exact .inl ⟨k',by rw[hp];exact hk,hg⟩
  .exact .inr ⟨h1,by rw[hp];exact h2,h3⟩
 |ret=>exact h
 |goto l=>exact h
 |panic ch=>exact h
 |outgrown=>exact h
def After.rely{Stop:Bk->Goroutine->World->Prop}{b:Frame}{k:List Item}{cs:List Frame}{e:Exit}(h:After P main sh Stop own b k cs e a w)(hr:Rly own sh w w1):After P main sh Stop own b k cs e a w1:=by
 cases e with
 |normal=>exact Run.rely h hr
 |exit id=>exact Or.imp (λ⟨k',h1,h2⟩=>⟨k',h1,h2.rely hr⟩) (λ⟨h1,h2,h3⟩=>⟨h1,h2,λk hk=>(h3 k hk).rely hr⟩) h
 |ret=>exact⟨λhb todo=>(h.1 hb todo).rely hr,λhb k hk=>(h.2 hb k hk).rely hr⟩
 |goto l=>exact h
 |panic ch=>exact h
 |outgrown=>exact h
def XH(h:wpR P main sh c Q own a w)(hq:∀own' e a w,Q own' e a w->Q' own' e a w):wpR P main sh c Q' own a w:=
 λb k cs Stop hk hc=>h b k cs Stop hk λown' e a' w' q=>hc own' e a' w' (hq _ _ _ _ q)
def wpR_skip(h:Q own .normal a w):wpR P main sh .skip Q own a w:=λ_ _ _ _ _ hc=>Run.quiet rfl (λ_=>sg_skip) (hc _ _ _ _ h)
def wpR_label{l:Nat}(h:Q own .normal a w):wpR P main sh (.label l) Q own a w:=λ_ _ _ _ _ hc=>Run.quiet rfl (λ_=>sg_label) (hc _ _ _ _ h)
def wpR_ret(h:Q own .ret a w):wpR P main sh .ret Q own a w:=λb k _ _ _ hc=>by
 have:=hc _ _ _ _ h;by_cases hb:b.roundOf=none
 .exact Run.quiet rfl (λ_=>sg_ret hb) (this.1 hb _)
 .exact this.2 hb k λid e=>by cases e
def wpR_exit{id:Nat}(h:Q own (.exit id) a w):wpR P main sh (.exit id) Q own a w:=λb k _ _ _ hc=>by
 rcases hc _ _ _ _ h with ⟨k',hk',hg⟩|⟨_,h2,h3⟩
 .exact Run.quiet rfl (λ_=>sg_exit hk') hg
 .exact h3 k λid' e=>by cases e;exact h2
def thenR(P:Program)(main:Md)(sh:Bk)(y:Code)(Q:Bk->Exit->Act->World->Prop):Bk->Exit->Act->World->Prop
 |own,.normal,a,w=>wpR P main sh y Q own a w
 |own,e,a,w=>Q own e a w
def wpR_seq(h:wpR P main sh x (thenR P main sh y Q) own a w):wpR P main sh (.seq x y) Q own a w:=by
 intro b k cs Stop hk hc;refine Run.quiet rfl (λ_=>XN) (h b (.code y::k) cs Stop hk λown' e a' w' q=>?_);cases e with
 |normal=>exact q b k cs Stop hk hc
 |exit id=>exact(hc _ _ _ _ q).push rfl (by simp)
 |ret=>exact(hc _ _ _ _ q).push (it:=.code y) rfl (by simp)
 |goto l=>exact hc _ _ _ _ q
 |panic ch=>exact hc _ _ _ _ q
 |outgrown=>exact hc _ _ _ _ q
def wpR_cond{o:Operand}{t:Bool}(hc:a.eval o=.bool t)(h:wpR P main sh (if t then x else y) Q own a w):wpR P main sh (.cond o x y) Q own a w:=
 λb k cs Stop hk hq=>Run.quiet rfl (λ_=>VK hc) (h b k cs Stop hk hq)
def inBlockR(id:Nat)(Q:Bk->Exit->Act->World->Prop):Bk->Exit->Act->World->Prop
 |own,.exit i,a,w=>if i=id then Q own .normal a w else Q own (.exit i) a w
 |own,e,a,w=>Q own e a w
def wpR_block{id:Nat}(h:wpR P main sh c (inBlockR id Q) own a w):wpR P main sh (.block id c) Q own a w:=by
 intro b k cs Stop hk hc;refine Run.quiet rfl (λ_=>Ub) (h b (.inBlock id::k) cs Stop hk λown' e a' w' q=>?_);cases e with
 |normal=>exact Run.quiet rfl (λ_=>KZ) (hc _ _ _ _ q)
 |exit i=>
  by_cases hid:i=id
  .simp only[inBlockR,hid,if_true] at q;exact .inl ⟨k,by simp[exitTo,hid],hc _ _ _ _ q⟩
  .simp only[inBlockR,hid,if_false] at q;have:(id == i)=false:=by simp;exact λh=>hid h.symm
   rcases hc _ _ _ _ q with ⟨k',hk',hg⟩|⟨h1,h2,h3⟩
   .exact .inl ⟨k',by simp[exitTo,this,hk'],hg⟩
   .exact .inr ⟨h1,by simp[exitTo,this,h2],h3⟩
 |ret=>exact hc _ _ _ _ q
 |goto l=>exact hc _ _ _ _ q
 |panic ch=>exact hc _ _ _ _ q
 |outgrown=>exact hc _ _ _ _ q
def wpR_scope(h:wpR P main sh c Q own a w):wpR P main sh (.scope c) Q own a w:=by
 intro b k cs Stop hk hc;refine Run.quiet rfl (λ_=>sg_scope) (h b (.inScope c::k) cs Stop hk λown' e a' w' q=>?_);cases e with
 |normal=>exact Run.quiet rfl (λ_=>sg_inScope) (hc _ _ _ _ q)
 |exit i=>
  rcases hc _ _ _ _ q with ⟨k',hk',hg⟩|⟨h1,h2,h3⟩
  .exact .inl ⟨k',by simpa [exitTo] using hk',hg⟩
  .exact .inr ⟨h1,by simpa [exitTo] using h2,h3⟩
 |ret=>exact hc _ _ _ _ q
 |goto l=>exact hc _ _ _ _ q
 |panic ch=>exact hc _ _ _ _ q
 |outgrown=>exact hc _ _ _ _ q
def wpR_loop{σ:Type}(I:σ->Bk->Act->World->Prop)(μ:σ->Nat)(s0:σ)(h0:I s0 own a w)
  (round:∀s own a w,I s own a w->wpR P main sh c (λown' e a' w'=>match e with|.normal=>∃s',μ s'<μ s/\I s' own' a' w'|e=>Q own' e a' w') own a w):wpR P main sh (.loop c) Q own a w:=by
 intro b k cs Stop hk hc
 have key:∀(N:Nat) (s:σ) own a w,μ s<N->I s own a w->Run P main sh Stop own (G (b.atR a (.code c::.inLoop c::k)) cs) w:=by
  intro N;induction N with
  |zero=>intro s own a w h;omega
  |succ N ih=>
   intro s own a w hμ hI;refine round s own a w hI b (.inLoop c::k) cs Stop hk λown' e a' w' q=>?_;cases e with
   |normal=>
    obtain⟨s',h1,h2⟩:=q;exact Run.quiet rfl (λ_=>UN) (ih s' own' a' w' qo h2)
   |exit id=>exact(hc _ _ _ _ q).push rfl (by simp)
   |ret=>exact(hc _ _ _ _ q).push (it:=.inLoop c) rfl (by simp)
   |goto l=>exact hc _ _ _ _ q
   |panic ch=>exact hc _ _ _ _ q
   |outgrown=>exact hc _ _ _ _ q
 exact Run.quiet rfl (λ_=>Dh) (key (μ s0+1) s0 own a w qo h0)
def wpR_region{id:Nat}{ops:Array Oper}(h:Vg P main sh ops (List.range ops.size) Q own a w):wpR P main sh (.region id ops false) Q own a w:=
 λb k cs Stop hk hc=>Run.quiet rfl (λ_=>Y1) (h b k cs Stop hk hc)
def Hc{ops:Array Oper}(h:Q own .normal a w):Vg P main sh ops [] Q own a w:=λ_ _ _ _ _ hc=>Run.quiet rfl (λ_=>JM) (hc _ _ _ _ h)
def Z9{ops:Array Oper}{i:Nat}{rest:List Nat}{o:Oper}(ho:ops[i]?=some o)(hw:Region.wanted o (yielded ops a.tmps)=false)(h:Vg P main sh ops rest Q own (a.put o.dst undef) w):Vg P main sh ops (i::rest) Q own a w:=
 λb k cs Stop hk hc=>Run.quiet rfl (λ_=>sg_unwanted ho hw) (h b k cs Stop hk hc)
def HR{id:Nat}{ops:Array Oper}(hm:P.follows .mixedOrders=true)(h:∀w1,Rly own sh w w1->∀t,Vg P main sh ops (Region.linearise .any ops t) Q own a {w1 with drawn:=w1.drawn+1}):wpR P main sh (.region id ops true) Q own a w:=
 λb k cs Stop hk hc=>Run.go rfl λw1 hr=>⟨_,_,_,sg_draw,X2.drawn _ _ _ _,by
  rw[show grow own w1 {w1 with drawn:=w1.drawn+1}=own from Qt (Nat.le_refl _)];have:=h w1 hr (w1.tape w1.drawn (.order b.fn id)) b k cs Stop hk hc;simp only[Region.schedule,hm,Bool.true_or,if_true];exact this⟩
end
def Z5(P:Program)(main:Md)(sh:Bk)(c:Code)(Q:Bk->Exit->Act->World->Prop)(own:Bk)(a:Act)(w:World):Prop:=
 ∀b k cs Stop,b.roundOf=none->b.kind≠.early->(∀own' e a' w',Q own' e a' w'->After P main sh Stop own' b k cs e a' w')->Run P main sh Stop own (G (b.atR a (.code c::k)) cs) w
section
variable {P:Program}{main:Md}{sh:Bk}{Q Q':Bk->Exit->Act->World->Prop}{own:Bk}{a:Act}{w w1:World}{x y c:Code}
def Dm(h:wpR P main sh c Q own a w):Z5 P main sh c Q own a w:=λb k cs Stop _ hk hc=>h b k cs Stop hk hc
def Ya(h:Z5 P main sh c Q own a w)(hq:∀own' e a w,Q own' e a w->Q' own' e a w):Z5 P main sh c Q' own a w:=
 λb k cs Stop hb hk hc=>h b k cs Stop hb hk λown' e a' w' q=>hc own' e a' w' (hq _ _ _ _ q)
def thenR0(P:Program)(main:Md)(sh:Bk)(y:Code)(Q:Bk->Exit->Act->World->Prop):Bk->Exit->Act->World->Prop
 |own,.normal,a,w=>Z5 P main sh y Q own a w
 |own,e,a,w=>Q own e a w
def wpR0_seq(h:Z5 P main sh x (thenR0 P main sh y Q) own a w):Z5 P main sh (.seq x y) Q own a w:=by
 intro b k cs Stop hb hk hc;refine Run.quiet rfl (λ_=>XN) (h b (.code y::k) cs Stop hb hk λown' e a' w' q=>?_);cases e with
 |normal=>exact q b k cs Stop hb hk hc
 |exit id=>exact(hc _ _ _ _ q).push rfl (by simp)
 |ret=>exact(hc _ _ _ _ q).push (it:=.code y) rfl (by simp)
 |goto l=>exact hc _ _ _ _ q
 |panic ch=>exact hc _ _ _ _ q
 |outgrown=>exact hc _ _ _ _ q
def wpR0_cond{o:Operand}{t:Bool}(hc:a.eval o=.bool t)(h:Z5 P main sh (if t then x else y) Q own a w):Z5 P main sh (.cond o x y) Q own a w:=
 λb k cs Stop hb hk hq=>Run.quiet rfl (λ_=>VK hc) (h b k cs Stop hb hk hq)
def wpR0_block{id:Nat}(h:Z5 P main sh c (inBlockR id Q) own a w):Z5 P main sh (.block id c) Q own a w:=by
 intro b k cs Stop hb hk hc;refine Run.quiet rfl (λ_=>Ub) (h b (.inBlock id::k) cs Stop hb hk λown' e a' w' q=>?_);cases e with
 |normal=>exact Run.quiet rfl (λ_=>KZ) (hc _ _ _ _ q)
 |exit i=>
  by_cases hid:i=id
  .simp only[inBlockR,hid,if_true] at q;exact .inl ⟨k,by simp[exitTo,hid],hc _ _ _ _ q⟩
  .simp only[inBlockR,hid,if_false] at q;have:(id == i)=false:=by simp;exact λh=>hid h.symm
   rcases hc _ _ _ _ q with ⟨k',hk',hg⟩|⟨h1,h2,h3⟩
   .exact .inl ⟨k',by simp[exitTo,this,hk'],hg⟩
   .exact .inr ⟨h1,by simp[exitTo,this,h2],h3⟩
 |ret=>exact hc _ _ _ _ q
 |goto l=>exact hc _ _ _ _ q
 |panic ch=>exact hc _ _ _ _ q
 |outgrown=>exact hc _ _ _ _ q
def wpR0_loop{σ:Type}(I:σ->Bk->Act->World->Prop)(μ:σ->Nat)(s0:σ)(h0:I s0 own a w)
  (round:∀s own a w,I s own a w->Z5 P main sh c (λown' e a' w'=>match e with|.normal=>∃s',μ s'<μ s/\I s' own' a' w'|e=>Q own' e a' w') own a w):Z5 P main sh (.loop c) Q own a w:=by
 intro b k cs Stop hb hk hc
 have key:∀(N:Nat) (s:σ) own a w,μ s<N->I s own a w->Run P main sh Stop own (G (b.atR a (.code c::.inLoop c::k)) cs) w:=by
  intro N;induction N with
  |zero=>intro s own a w h;omega
  |succ N ih=>
   intro s own a w hμ hI;refine round s own a w hI b (.inLoop c::k) cs Stop hb hk λown' e a' w' q=>?_;cases e with
   |normal=>
    obtain⟨s',h1,h2⟩:=q;exact Run.quiet rfl (λ_=>UN) (ih s' own' a' w' qo h2)
   |exit id=>exact(hc _ _ _ _ q).push rfl (by simp)
   |ret=>exact(hc _ _ _ _ q).push (it:=.inLoop c) rfl (by simp)
   |goto l=>exact hc _ _ _ _ q
   |panic ch=>exact hc _ _ _ _ q
   |outgrown=>exact hc _ _ _ _ q
 exact Run.quiet rfl (λ_=>Dh) (key (μ s0+1) s0 own a w qo h0)
end
end W
end
section
open Go.RowKit
namespace W
abbrev Env:=List (Nat×Value)
def look:Env->Nat->Option Value
 |[],_=>none
 |(k,v)::r,i=>bif Nat.beq k i then some v else look r i
def ev(e:Env):Operand->Option Value
 |.tmp t=>look e t
 |.const v=>some v
 |.global g=>some (.pointer (some ⟨g,0,none⟩))
 |.func f=>some (.func (.func f) #[] #[])
structure Kn(ds:List Deferred)(n:Nat)(a:Act)(e:Env):Prop where
 size:a.tmps.size=n
 defers:a.defers=ds
 at':∀k v,look e k=some v->a.tmps[k]?=some v
def YS(k:Nat)(v:Value)(r:Env)(i:Nat):look ((k,v)::r) i=if k=i then some v else look r i:=by
 show(bif Nat.beq k i then some v else look r i)=_;by_cases h:k=i
 .subst h;simp[Nat.beq_refl]
 .have:Nat.beq k i=false:=by
   cases hb:Nat.beq k i
   .rfl
   .exact absurd (Nat.eq_of_beq_eq_true hb) h
  simp[this,h]
def Kn.eval{ds:List Deferred}{n:Nat}{a:Act}{e:Env}(h:Kn ds n a e){x:Operand}{v:Value}(hx:ev e x=some v):a.eval x=v:=by
 cases x with
 |tmp t=>simp only[ev] at hx;have:=h.at' _ _ hx;simp[Act.eval,Array.getD_eq_getD_getElem?,this]
 |const u=>simpa [ev,Act.eval] using hx
 |global g=>simpa [ev,Act.eval] using hx
 |func f=>simpa [ev,Act.eval] using hx
def Kn.put{ds:List Deferred}{n:Nat}{a:Act}{e:Env}(h:Kn ds n a e){d:Nat}(hd:Nat.blt d n=true)(v:Value):Kn ds n (a.put (some d) v) ((d,v)::e):=by
 have hd':d<n:=by simpa [Nat.blt_eq] using hd
 refine⟨by simp[Act.put,h.size],by simp[Act.put,h.defers],λk u hk=>?_⟩;rw[YS] at hk;simp only[Act.put];by_cases hkd:d=k
 .subst hkd;simp at hk;subst hk;rw[Array.getElem?_setIfInBounds];simp[h.size,hd']
 .rw[if_neg hkd] at hk;rw[Array.getElem?_setIfInBounds,if_neg hkd];exact h.at' _ _ hk
def Kn.Hp{ds:List Deferred}{n:Nat}{a:Act}{e:Env}(h:Kn ds n a e)(v:Value):Kn ds n (a.put none v) e:=by simpa [Act.put] using h
def Sub(e e':Env):Prop:=∀k v,look e k=some v->look e' k=some v
def Sub.nil(e:Env):Sub [] e:=λk v h=>by simp[look] at h
def Sub.cons{k:Nat}{v:Value}{e e':Env}(h:look e' k=some v)(hs:Sub e e'):Sub ((k,v)::e) e':=λi u hi=>by
 rw[YS] at hi;by_cases hk:k=i
 .subst hk;simp at hi;subst hi;exact h
 .rw[if_neg hk] at hi;exact hs _ _ hi
def Kn.sub{ds:List Deferred}{n:Nat}{a:Act}{e e':Env}(h:Kn ds n a e)(hs:Sub e' e):Kn ds n a e':=⟨h.size,h.defers,λk v hk=>h.at' _ _ (hs _ _ hk)⟩
structure PH where
 md:Md
 look:Nat->Option Obj
instance:CoeFun PH λ_=>Nat->Option Obj:=⟨PH.look⟩
structure PH.le(h h':PH):Prop where
 md:h'.md=h.md
 look:∀k o,h k=some o->h' k=some o
instance {h h':PH}:CoeFun (h.le h') λ_=>∀k o,h k=some o->h' k=some o:=⟨PH.le.look⟩
def PH.le.refl(h:PH):h.le h:=⟨rfl,λ_ _ x=>x⟩
def PH.le.trans{a b c:PH}(h:a.le b)(k:b.le c):a.le c:=⟨k.md.trans h.md,λ_ _ x=>k _ _ (h _ _ x)⟩
structure Fct where
 p:PH->Prop
 mono:∀h h',PH.le h h'->p h->p h'
inductive Ow where
 |cells (g:Nat) (t:TypeId) (cs:List Value)
 |slice (v:Value) (e:TypeId) (sz:Nat) (cs:List Value)
 |obj (g:Nat) (o:Obj)
def Ow.ids:Ow->List Nat
 |.cells g _ _=>[g]
 |.slice (.slice (some a) _ _) _ _ _=>[a.block]
 |.slice _ _ _ _=>[]
 |.obj g _=>[g]
def Ow.holds(H:Array Obj):Ow->Prop
 |.cells g t cs=>H[g]?=some (.cells cs.toArray t (0,0))
 |.slice v e sz cs=>∃n,cs.length=n*sz/\((v=.slice none 0 0/\n=0)\/
   ∃g cap sp,v=.slice (some ⟨g,0,none⟩) n cap/\n<=cap/\cap<=maxLen/\H[g]?=some (.cells (cs++sp).toArray e (0,0))/\(cs++sp).length=cap*sz)
 |.obj g o=>H[g]?=some o
def ids(bx:List Ow):List Nat:=bx.flatMap Ow.ids
structure CF where
 main:Md
 sh:Bk
 own:Bk
 fr:Nat->Option Obj
 ds:List Deferred:=[]
def CF.grow(c:CF)(w w':World):CF:={c with own:=W.grow c.own w w'}
structure CF.le(c c':CF):Prop where
 main:c'.main=c.main
 sh:c'.sh=c.sh
 fr:c'.fr=c.fr
 ds:c'.ds=c.ds
 own:∀k,c.own k->c'.own k
def CF.no(c:CF):Bk:=c.main.no
def CF.le.refl(c:CF):c.le c:=⟨rfl,rfl,rfl,rfl,λ_ h=>h⟩
def CF.le.trans{a b c:CF}(h:a.le b)(k:b.le c):a.le c:=⟨k.main.trans h.main,k.sh.trans h.sh,k.fr.trans h.fr,k.ds.trans h.ds,λi hi=>k.own i (h.own i hi)⟩
def CF.le.kn{c c':CF}(h:c.le c'){n:Nat}{a:Act}{e:Env}(hk:Kn c.ds n a e):Kn c'.ds n a e:=by rw[h.ds];exact hk
def CF.le.nk{c c':CF}(h:c.le c'){n:Nat}{a:Act}{e:Env}(hk:Kn c'.ds n a e):Kn c.ds n a e:=by rw[<-h.ds];exact hk
def CF.FG(c:CF)(w w':World):c.le (c.grow w w'):=⟨rfl,rfl,rfl,rfl,λ_ h=>.inl h⟩
def CF.Qt(c:CF){w w':World}(h:w'.heap.size<=w.heap.size):c.grow w w'=c:=by unfold CF.grow;rw[W.Qt h]
def CF.vs(c:CF):Bk:=λk=>c.sh k/\¬c.main.no k
def CF.vs_w{c:CF}{k:Nat}(h:c.own k\/c.vs k):c.own k\/c.sh k:=h.imp id And.left
open Classical in
noncomputable def CF.see(c:CF)(H:Array Obj)(k:Nat):Option Obj:=if c.own k\/c.vs k then H[k]? else none
def CF.see_some{c:CF}{H:Array Obj}{k:Nat}{o:Obj}(h:c.see H k=some o):(c.own k\/c.vs k)/\H[k]?=some o:=by
 unfold CF.see at h;split at h
 .exact⟨by assumption,h⟩
 .cases h
def CF.Yz{c:CF}{H:Array Obj}{k:Nat}(h:c.own k\/c.vs k):c.see H k=H[k]?:=by unfold CF.see;rw[if_pos h]
noncomputable def imm(fr:CF)(bx:List Ow)(H:Array Obj):PH:=⟨fr.main,λk=>if(fr.fr k).isSome ||(ids bx).contains k then none else fr.see H k⟩
def JX{fr:CF}{bx:List Ow}{H:Array Obj}{k:Nat}{o:Obj}(h:imm fr bx H k=some o):H[k]?=some o:=by
 simp only[imm] at h;split at h
 .cases h
 .exact(CF.see_some h).2
def X3{fr:CF}{bx:List Ow}{H:Array Obj}{k:Nat}{o:Obj}(h:imm fr bx H k=some o):fr.own k\/fr.vs k:=by
 simp only[imm] at h;split at h
 .cases h
 .exact(CF.see_some h).1
structure OK(fr:CF)(bx:List Ow)(F:List Fct)(w:World):Prop where
 frame:(∀k o,fr.fr k=some o->fr.own k/\w.heap[k]?=some o)/\(∀k,fr.own k\/fr.sh k->k<w.heap.size)/\∀k,fr.no k->k<w.heap.size/\¬fr.own k
 apart:∀k∈ids bx,fr.own k/\fr.fr k=none
 nodup:(ids bx).Nodup
 owns:∀b∈bx,b.holds w.heap
 facts:∀f∈F,f.p (imm fr bx w.heap)
def OK.drawn{fr:CF}{bx:List Ow}{F:List Fct}{w:World}(h:OK fr bx F w)(n:Nat):OK fr bx F {w with drawn:=n}:=⟨h.frame,h.apart,h.nodup,h.owns,h.facts⟩
def OK.less{fr:CF}{bx:List Ow}{F F':List Fct}{w:World}(h:OK fr bx F w)(hs:∀f∈F',f∈F):OK fr bx F' w:=⟨h.frame,h.apart,h.nodup,h.owns,λf hf=>h.facts f (hs f hf)⟩
def OK.add{fr:CF}{bx:List Ow}{F:List Fct}{w:World}(h:OK fr bx F w){f:Fct}(hf:f.p (imm fr bx w.heap)):OK fr bx (f::F) w:=⟨h.frame,h.apart,h.nodup,h.owns,λg hg=>by
 rcases List.mem_cons.1 hg with rfl|hg
 .exact hf
 .exact h.facts g hg⟩
def JV{bx:List Ow}{k:Nat}:k∈ids bx↔∃b∈bx,k∈b.ids:=by simp[ids]
def Zr{bx bx':List Ow}(h:bx'.Sublist bx):(ids bx').Sublist (ids bx):=by
 induction h with
 |slnil=>exact .slnil
 |cons a _ ih=>exact ih.trans (by simp[ids])
 |cons_cons a _ ih=>simpa [ids] using ih
def FV{fr:CF}{bx bx':List Ow}{H:Array Obj}(hs:∀k,k∈ids bx'->k∈ids bx):(imm fr bx H).le (imm fr bx' H):=.mk rfl λk o ho=>by
 simp only[imm] at *;split at ho
 .cases ho
 .rename_i hc
  rw[if_neg]
  .exact ho
  .simp only[Bool.or_eq_true,List.contains_iff_mem] at hc ⊢;exact λh'=>hc (h'.imp id (hs k))
def OK.drop{fr:CF}{bx bx':List Ow}{F:List Fct}{w:World}(h:OK fr bx F w)(hs:bx'.Sublist bx):OK fr bx' F w:=
 ⟨h.frame,λk hk=>h.apart k ((Zr hs).subset hk),h.nodup.sublist (Zr hs),λb hb=>h.owns b (hs.subset hb),λf hf=>f.mono _ _ (FV λk hk=>(Zr hs).subset hk) (h.facts f hf)⟩
def OK.perm{fr:CF}{bx bx':List Ow}{F:List Fct}{w:World}(h:OK fr bx F w)(hp:bx.Perm bx'):OK fr bx' F w:=by
 have hi:(ids bx).Perm (ids bx'):=hp.flatMap_right _;exact⟨h.frame,λk hk=>h.apart k (hi.mem_iff.2 hk),hi.nodup_iff.1 h.nodup,λb hb=>h.owns b (hp.mem_iff.2 hb),λf hf=>f.mono _ _ (FV λk hk=>hi.mem_iff.2 hk) (h.facts f hf)⟩
def Ow.J4{H H':Array Obj}{b:Ow}(h:b.holds H)(hk:∀k∈b.ids,H'[k]?=H[k]?):b.holds H':=by
 cases b with
 |cells g t cs=>simp only[Ow.holds,Ow.ids,List.mem_singleton,forall_eq] at *;rw[hk];exact h
 |obj g o=>simp only[Ow.holds,Ow.ids,List.mem_singleton,forall_eq] at *;rw[hk];exact h
 |slice v e sz cs=>
  obtain⟨n,h1,h2|⟨g,cap,sp,rfl,h3,h4,h5,h6⟩⟩:=h
  .exact⟨n,h1,.inl h2⟩
  .exact⟨n,h1,.inr ⟨g,cap,sp,rfl,h3,h4,by rw[hk g (by simp[Ow.ids])];exact h5,h6⟩⟩
def Ow.lt{H:Array Obj}{b:Ow}(h:b.holds H):∀k∈b.ids,k<H.size:=by
 cases b with
 |cells g t cs=>simp only[Ow.holds,Ow.ids,List.mem_singleton,forall_eq] at *;exact(Array.getElem?_eq_some_iff.1 h).1
 |obj g o=>simp only[Ow.holds,Ow.ids,List.mem_singleton,forall_eq] at *;exact(Array.getElem?_eq_some_iff.1 h).1
 |slice v e sz cs=>
  obtain⟨n,h1,⟨rfl,h2⟩|⟨g,cap,sp,rfl,h3,h4,h5,h6⟩⟩:=h
  .simp[Ow.ids]
  .simp only[Ow.ids,List.mem_singleton,forall_eq];exact(Array.getElem?_eq_some_iff.1 h5).1
def imm_grow{fr fr':CF}{ob nb bx:List Ow}{F:List Fct}{w w':World}(h:OK fr (ob++bx) F w)(hf:fr.le fr')
  (hk:∀k,k<w.heap.size->fr.own k\/fr.sh k->k∉ids ob->w'.heap[k]?=w.heap[k]?) (hn:∀k∈ids nb,k∈ids ob\/w.heap.size<=k):(imm fr (ob++bx) w.heap).le (imm fr' (nb++bx) w'.heap):=.mk hf.main λk o hio=>by
 have hm:=X3 hio;have hh:=JX hio;have hkl:k<w.heap.size:=(Array.getElem?_eq_some_iff.1 hh).1;simp only[imm] at *;split at hio
 .cases hio
 .rename_i hc
  simp only[Bool.or_eq_true,List.contains_iff_mem,ids,List.flatMap_append,List.mem_append,not_or] at hc;rw[if_neg,CF.Yz (hm.imp (hf.own k) (λx=>by unfold CF.vs;rw[hf.sh,hf.main];exact x)),hk k hkl (CF.vs_w hm) hc.2.1]
  .exact hh
  .rw[hf.fr];simp only[Bool.or_eq_true,List.contains_iff_mem,ids,List.flatMap_append,List.mem_append,not_or];refine⟨hc.1,λh1=>?_,hc.2.2⟩;rcases hn k h1 with h3|h3
   .exact hc.2.1 h3
   .omega
def OK.rely{fr:CF}{bx:List Ow}{F:List Fct}{w w1:World}(h:OK fr bx F w)(hr:Rly fr.own fr.sh w w1):OK fr bx F w1:=by
 have hlt:=h.frame.2.1;refine⟨⟨λk o hf=>⟨(h.frame.1 k o hf).1,?_⟩,λk hk=>Nat.lt_of_lt_of_le (hlt k hk) hr.size,λk hk=>⟨Nat.lt_of_lt_of_le (h.frame.2.2 k hk).1 hr.size,(h.frame.2.2 k hk).2⟩⟩,h.apart,h.nodup,λb hb=>?_,λf hf=>f.mono (imm fr bx w.heap) _ (.mk rfl λk o hio=>?_) (h.facts f hf)⟩
 .have:=(h.frame.1 k o hf)
  rw[hr.keep k (hlt k (.inl this.1)) (.inl this.1)];exact this.2
 .refine Ow.J4 (h.owns b hb) λk hk=>?_;have:=(h.apart k (JV.2 ⟨b,hb,hk⟩)).1;exact hr.keep k (hlt k (.inl this)) (.inl this)
 .have hm:=X3 hio;simp only[imm] at *;split at hio
  .cases hio
  .rename_i hc
   rw[if_neg hc,CF.Yz hm,hr.keep k (hlt k (CF.vs_w hm)) (CF.vs_w hm),<-CF.Yz (c:=fr) hm];exact hio
def OK.step{fr:CF}{ob nb bx:List Ow}{F:List Fct}{w w':World}(h:OK fr (ob++bx) F w)(hs:w.heap.size<=w'.heap.size)
  (hk:∀k,k<w.heap.size->k∉ids ob->w'.heap[k]?=w.heap[k]?) (hn:∀k∈ids nb,k∈ids ob\/w.heap.size<=k) (hd:(ids nb).Nodup) (ho:∀b∈nb,b.holds w'.heap):OK (fr.grow w w') (nb++bx) F w':=by
 have hlt:∀b∈ob++bx,∀k∈b.ids,k<w.heap.size:=λb hb=>Ow.lt (h.owns b hb);have hfl:∀k o,fr.fr k=some o->k<w.heap.size:=λk o hf=>(Array.getElem?_eq_some_iff.1 (h.frame.1 k o hf).2).1;have hap:=h.apart;have hnd:=h.nodup;simp only[ids,List.flatMap_append] at hap hnd;have hnot:∀k,k∈ids ob->k∉ids bx:=λk h1 h2=>(List.nodup_append.1 hnd).2.2 k h1 k h2 rfl;have hbxlt:∀k∈ids bx,k<w.heap.size:=λk hk=>by obtain⟨b,hb,hkb⟩:=JV.1 hk;exact hlt b (by simp[hb]) k hkb
 refine⟨⟨λk o hf=>?_,λk hk'=>?_,λk hk'=>⟨Nat.lt_of_lt_of_le (h.frame.2.2 k hk').1 hs,λho'=>ho'.elim (h.frame.2.2 k hk').2 λhx=>by have:=(h.frame.2.2 k hk').1;omega⟩⟩,λk hk'=>?_,?_,λb hb=>?_,λf hf=>f.mono _ _ (imm_grow h (CF.FG _ _ _) (λk h1 _ h2=>hk k h1 h2) hn) (h.facts f hf)⟩
 .have h1:=h.frame.1 k o hf;exact⟨.inl h1.1,by rw[hk k (hfl k o hf) (λhin=>by have:=(hap k (List.mem_append.2 (.inl hin))).2;rw[show fr.fr k=some o from hf] at this;cases this)];exact h1.2⟩
 .rcases hk' with (h1|h1)|h1
  .exact Nat.lt_of_lt_of_le (h.frame.2.1 k (.inl h1)) hs
  .exact h1.2
  .exact Nat.lt_of_lt_of_le (h.frame.2.1 k (.inr h1)) hs
 .simp only[ids,List.flatMap_append,List.mem_append] at hk';rcases hk' with hk'|hk'
  .rcases hn k hk' with h1|h1
   .have:=hap k (List.mem_append.2 (.inl h1));exact⟨.inl this.1,this.2⟩
   .obtain⟨b,hb,hkb⟩:=JV.1 hk';refine⟨.inr ⟨h1,Ow.lt (ho b hb) k hkb⟩,?_⟩;cases hfk:fr.fr k with
    |none=>exact hfk
    |some o=>have:=hfl k o hfk;omega
  .have:=hap k (List.mem_append.2 (.inr hk'));exact⟨.inl this.1,this.2⟩
 .simp only[ids,List.flatMap_append];refine List.nodup_append.2 ⟨hd,(List.nodup_append.1 hnd).2.1,?_⟩;intro k h1 k' h2 he;subst he;rcases hn k h1 with h3|h3
  .exact hnot k h3 h2
  .have:=hbxlt k h2;omega
 .rcases List.mem_append.1 hb with hb|hb
  .exact ho b hb
  .refine Ow.J4 (h.owns b (by simp[hb])) λk hkb=>hk k (hlt b (by simp[hb]) k hkb) λhin=>hnot k hin (JV.2 ⟨b,hb,hkb⟩)
end W
end
end Go.Proofs.YtbnobghgnbockaaGreat
