/- Lemmas. Conditions: none. -/
import Derived.Test.YtbnobghgnbockaaGreatZk22
import Derived.Conc.DeferLaws
import Derived.Conc.Own2
import Derived.Conc.TokenWalk
set_option linter.all false
set_option maxHeartbeats 0
set_option maxRecDepth 100000
namespace Go.Proofs.YtbnobghgnbockaaGreat
section
open Go.RowKit
open Go.Conc hiding base G
open Go.ConcN
open Go.ConcR (KK WgAt stA smA rd wr mk Payload DC0)
namespace W
def TailW(P:nh)(End:Goroutine->nm->Prop)(g:Goroutine)(w:nm):Prop:=∃m,Goes P true (λ_ _=>True) DC0 End m g w
section
variable (P:nh)(ty:nl)(Wg:Nat)(End Anch:Goroutine->nm->Prop)
def HAcq(g:Goroutine)(w:nm):Prop:=g.status=.running/\∃g',stepG P true g w=.go g' w #[mk (.acquire (stA Wg))]/\TailW P End g' w
def HKe(g:Goroutine)(w:nm):Prop:=g.status=.running/\∃g',stepG P true g w=.go g' w #[mk .enable]/\∃m,Goes P true (RL ty Wg) (DS Wg) (HAcq P Wg End) m g' w
def HW4(g:Goroutine)(w:nm):Prop:=g.status=.running/\(WgAt ty Wg w 0 0->∃g',stepG P true g w=.go g' w #[rd (stA Wg)]/\∃m,Goes P true (RL ty Wg) (DS Wg) (HKe P ty Wg End) m g' w)
def HW3(g:Goroutine)(w:nm):Prop:=g.status=.running/\g.offers=none/\((∃st,WgAt ty Wg w st 0)->stepG P true g w=.go {g with status:=.blocked} w #[])/\
 (WgAt ty Wg w 0 1->∃g',stepG P true g w=.go g' (w.setCell (smA Wg) (.int .u32 0)) (semEvents (smA Wg))/\∃m,Goes P true (RL ty Wg) (DS Wg) (HW4 P ty Wg End) m g' (w.setCell (smA Wg) (.int .u32 0)))
def HW2(vs:Nat)(g:Goroutine)(w:nm):Prop:=g.status=.running/\∀v:Nat,v<2147483648->WgAt ty Wg w (v*KK) 0->
 (v=vs->∃g',stepG P true g w=.go g' (w.setCell (stA Wg) (.int .u64 (v*KK+1))) #[rd (stA Wg),wr (stA Wg)]/\∃m,Goes P true (RL ty Wg) (DS Wg) (HW3 P ty Wg End) m g' (w.setCell (stA Wg) (.int .u64 (v*KK+1))))/\
 (v≠vs->∃g',stepG P true g w=.go g' w #[rd (stA Wg)]/\∃m,Goes P true (RL ty Wg) (DS Wg) Anch m g' w)
def HW1(g:Goroutine)(w:nm):Prop:=g.status=.running/\∀v:Nat,v<2147483648->WgAt ty Wg w (v*KK) 0->∃g',stepG P true g w=.go g' w #[rd (stA Wg)]/\
 (v=0->∃m,Goes P true (RL ty Wg) (DS Wg) (HKe P ty Wg End) m g' w)/\(v≠0->∃m,Goes P true (RL ty Wg) (DS Wg) (HW2 P ty Wg End Anch v) m g' w)
def HKd(g:Goroutine)(w:nm):Prop:=g.status=.running/\∃g',stepG P true g w=.go g' w #[mk .disable]/\∃m,Goes P true (RL ty Wg) (DS Wg) Anch m g' w
end
end W
end
namespace W
open Go.Conc Go.ConcN Go.RowKit Go.Conc.Lib Go.ConcR.Gen Go.ConcN.Gen
open Go.ConcR (KK WgAt stA smA rd wr mk Payload)
def tl(_:True)(_:True):True:=trivial
def Anc(L:WgLink)(Wg:Nat)(c:nu)(cs:List nu)(g:Goroutine)(w:nm):Prop:=
 ∃T:Array nA,g=G ((Go.Conc.base L.wait).at ⟨T,[]⟩ [.code (L7 L),.inLoop (L7 L),.inBlock 0]) (c::cs)/\T.size=84/\T[0]?=some (.pointer (some ⟨Wg,0,none⟩))/\WgLive L.tWg Wg w
section
variable [Payload]{L:WgLink}{Wg:Nat}{End:Goroutine->nm->Prop}{b₀:nu}{a₀:Act}{ops₀:Array Oper}{i₀:Nat}{rest₀:List Nat}{k₀:List Item}{cs:List nu}
def wait_start{P:nh}(H:WgLib P L)(w:nm)(hF:WgLive L.tWg Wg w) :
  Goes P true (RL L.tWg Wg) (DS Wg) (HKd P L.tWg Wg (Anc L Wg (b₀.at a₀ (.inRegion ops₀ (i₀::rest₀)::k₀)) cs)) 3 (G ((Go.Conc.base L.wait).at ⟨#[.pointer (some ⟨Wg,0,none⟩)]++Array.replicate 83 undef,[]⟩ [.code (body_wait L)]) (b₀.at a₀ (.inRegion ops₀ (i₀::rest₀)::k₀)::cs)) w:=by
 lib_facts
 simp only[body_wait,waitFn,cu];refine GA.a ?_ hF;clear hF
 walk_nrm
 refine uQ ?_;refine uT ?_;refine uR ?_;refine uS λw₁ hF=>?_;refine⟨rfl,_,stepG_mark0 .disable (by simp) rfl rfl (by k_ne) rfl H.f_disable (x_disable_n L) (x_disable_b L) (x_disable_x L) (x_disable_f L),3,?_⟩;refine GA.a ?_ hF;clear hF
 walk_nrm
 refine uE ?_;refine uC stepG_block ?_;refine uC stepG_loop ?_;exact uS λw₂ hF=>⟨_,rfl,by simp,by simp,hF⟩
def wait_round{P:nh}(H:WgLib P L)(hT:∀w,End (G (b₀.at (a₀.put ((ops₀[i₀]?).bind (·.dst)) (.tuple #[])) (.inRegion ops₀ rest₀::k₀)) cs) w)
  (g:Goroutine) (w:nm) (h:Anc L Wg (b₀.at a₀ (.inRegion ops₀ (i₀::rest₀)::k₀)) cs g w) :
  ∃m,Goes P true (RL L.tWg Wg) (DS Wg) (HW1 P L.tWg Wg End (Anc L Wg (b₀.at a₀ (.inRegion ops₀ (i₀::rest₀)::k₀)) cs)) m g w:=by
 lib_facts
 obtain⟨T,rfl,hT84,t0,hF⟩:=h;obtain⟨v0,v1,v2,v3,v4,v5,v6,v7,v8,v9,v10,v11,v12,v13,v14,v15,v16,v17,v18,v19,v20,v21,v22,v23,v24,v25,v26,v27,v28,v29,v30,v31,v32,v33,v34,v35,v36,v37,v38,v39,v40,v41,v42,v43,v44,v45,v46,v47,v48,v49,v50,v51,v52,v53,v54,v55,v56,v57,v58,v59,v60,v61,v62,v63,v64,v65,v66,v67,v68,v69,v70,v71,v72,v73,v74,v75,v76,v77,v78,v79,v80,v81,v82,v83,rfl⟩:=array84 T hT84;have hX:True:=trivial;simp only[List.getElem?_toArray,List.getElem?_cons_zero,b8] at t0;subst t0;refine⟨30,?_⟩;refine GA.a ?_ hF;clear hF;simp only[L7,body_wait,waitFn,cu];refine uC stepG_block ?_;refine uQ ?_;refine uR ?_;iterate 3 refine uO ?_
 refine uI rfl λw hF=>goes_call rfl rfl (by k_ne) rfl H.f_uLoad (nm_uLoad L) rfl ⟨dz,GA.a ?_ hF⟩
 walk_nrmf uLoadFn
 refine uQ ?_;refine uR ?_;refine uO ?_;refine uE ?_;refine uQ ?_;refine uR ?_;iterate 3 refine uO ?_
 refine uS λw₁ hF=>?_;refine⟨rfl,λv hv hw=>?_⟩;rcases bT v with rfl|hvp
 .replace hw:WgAt L.tWg Wg w₁ 0 0:=by simpa using hw
  refine⟨_,stepG_load_atomic (v:=0) rfl rfl (by k_ne) rfl H.f_loadU64 (x_loadU64_n L) (x_loadU64_b L) (x_loadU64_x L) .u64 (x_loadU64_f L) rfl hw.cellSt,λ_=>⟨70,?_⟩,λh=>absurd rfl h⟩;clear hw;refine GA.a ?_ hF;clear hF
  walk_nrm
  refine uO ?_;refine uE ?_;refine uC stepG_ret' ?_;refine uI rfl λw hF=>goes_leave1 rfl rfl H.f_uLoad rfl ⟨dz,GA.a ?_ hF⟩
  walk_nrm
  refine uO ?_;refine uE ?_;refine uQ ?_;refine uR ?_;iterate 4 refine uO ?_
  refine uE ?_;refine uQ ?_;refine uR ?_;iterate 4 refine uO ?_
  refine uE ?_;refine uQ ?_;refine uQ ?_;refine uR ?_;iterate 2 refine uO ?_
  refine uE ?_;refine uT ?_;refine uQ ?_;refine uT ?_;refine uQ ?_;refine uR ?_;refine uS λw₅ hF=>?_;refine⟨rfl,_,stepG_mark0 .enable (by simp) rfl rfl (by k_ne) rfl H.f_enable (x_enable_n L) (x_enable_b L) (x_enable_x L) (x_enable_f L),12,?_⟩;refine GA.a ?_ hF;clear hF
  walk_nrm
  refine uE ?_;refine uR ?_;refine uO ?_;refine uV (λw hF=>⟨run_convert_to_unsafe (P:=P) H.underlying_tWgP H.underlying_tUP H.room_tWg (WgLive.cell0 hF).choose_spec,λes=>events_convert_to_unsafe (P:=P) H.underlying_tWgP H.underlying_tUP H.room_tWg (WgLive.cell0 hF).choose_spec es⟩) ?_;refine uS λw₆ hF=>?_;refine⟨rfl,_,stepG_markAt .acquire (by simp) rfl rfl (by k_ne) rfl H.f_acquire (x_acquire_n L) (x_acquire_b L) (x_acquire_x L) (x_acquire_f L) (by simp[Act.eval,stA]),60,?_⟩
  walk_nrm
  u_c stepG_region_end tl hX
  u_c stepG_seq tl hX
  u_c stepG_seq tl hX
  u_reg tl hX
  u_op tl hX
  u_op tl hX
  u_op tl hX
  u_op tl hX
  u_op tl hX
  u_op tl hX
  u_op tl hX
  u_op tl hX
  u_skip tl hX
  u_skip tl hX
  u_op tl hX
  u_c stepG_region_end tl hX
  u_cond false tl hX
  u_c stepG_skip tl hX
  u_c stepG_ret' tl hX
  u_leave0 H.f_wait tl hX
  exact Goes.stop λw₇ _=>hT w₇
 .obtain⟨S,hS⟩:∃S:Int,(v:Int)*KK=S:=⟨_,rfl⟩
  have a1:S/4294967296=(v:Int):=by rw[<-hS];simp only[KK];omega
  have b1:bits .and .u64 S 2147483648=0:=by rw[<-hS];have:=st_flag v 0 qo qo;simpa [KK] using this
  have b2:bits .and .u64 S 2147483647=0:=by rw[<-hS];have:=st_waiters v 0 qo qo;simpa [KK] using this
  have c1:IntKind.i32.wrap (v:Int)=(v:Int):=by rw[IntKind.wrap_i32];omega
  have w1:IntKind.u64.wrap (S+1)=S+1:=by rw[IntKind.wrap_u64,<-hS];simp only[KK];omega
  have q3:decide ((v:Int)<0)=false:=ak qo;have q4:decide (0<(v:Int))=true:=aq qo;have q5:((v:Int) == 0)=false:=by simp;omega
  have q6:decide ((v:Int)=0)=false:=ak qo;rw[hS] at hw;refine⟨_,stepG_load_atomic (v:=S) rfl rfl (by k_ne) rfl H.f_loadU64 (x_loadU64_n L) (x_loadU64_b L) (x_loadU64_x L) .u64 (x_loadU64_f L) rfl hw.cellSt,λh0=>absurd h0 qo,λ_=>⟨60,?_⟩⟩;clear hw;refine GA.a ?_ hF;clear hF
  walk_nrm
  refine uO ?_;refine uE ?_;refine uC stepG_ret' ?_;refine uI rfl λw hF=>goes_leave1 rfl rfl H.f_uLoad rfl ⟨dz,GA.a ?_ hF⟩
  walk_nrm
  refine uO ?_;refine uE ?_;refine uQ ?_;refine uR ?_;iterate 4 refine uO ?_
  refine uE ?_;refine uQ ?_;refine uR ?_;iterate 4 refine uO ?_
  refine uE ?_;refine uQ ?_;refine uQ ?_;refine uR ?_;iterate 2 refine uO ?_
  refine uE ?_;refine uF ?_;refine uC stepG_skip ?_;refine uQ ?_;refine uR ?_;iterate 6 refine uO ?_
  refine uI rfl λw hF=>goes_call rfl rfl (by k_ne) rfl H.f_uCas (nm_uCas L) rfl ⟨dz,GA.a ?_ hF⟩
  walk_nrmf uCasFn
  refine uQ ?_;refine uR ?_;refine uO ?_;refine uE ?_;refine uQ ?_;refine uR ?_;iterate 5 refine uO ?_
  refine uS λw₂ hF=>?_;refine⟨rfl,λv' hv' hw=>⟨λe=>?_,λe=>?_⟩⟩
  .subst e;rw[hS] at hw ⊢;refine⟨_,(stepG_cas_hit (v:=S) (n:=S+1) rfl rfl (by k_ne) rfl H.f_casU64 (x_casU64_n L) (x_casU64_b L) (x_casU64_x L) .u64 (x_casU64_f L) rfl rfl rfl hw.cellSt (hw.thaw 0)).trans (by rfl),70,?_⟩
   replace hF:WgLive L.tWg Wg (w₂.setCell (stA Wg) (.int .u64 (S+1))):=⟨_,_,hw.setSt _⟩
   clear hw;refine GA.a ?_ hF;clear hF
   walk_nrm
   refine uO ?_;refine uE ?_;refine uC stepG_ret' ?_;refine uI rfl λw hF=>goes_leave1 rfl rfl H.f_uCas rfl ⟨dz,GA.a ?_ hF⟩
   walk_nrm
   refine uE ?_;refine uT ?_;refine uQ ?_;refine uQ ?_;refine uR ?_;iterate 4 refine uO ?_
   refine uE ?_;refine uT ?_;refine uR ?_;iterate 3 refine uO ?_
   refine uV (λw hF=>⟨run_convert_to_unsafe (P:=P) H.underlying_tPU32 H.underlying_tUP H.room_tU32 (WgLive.cell1 hF).choose_spec,λes=>events_convert_to_unsafe (P:=P) H.underlying_tPU32 H.underlying_tUP H.room_tU32 (WgLive.cell1 hF).choose_spec es⟩) ?_;refine uI rfl λw hF=>?_;rw[stepG_markAt .write (by simp) rfl rfl (by k_ne) rfl H.f_raceWrite (x_raceWrite_n L) (x_raceWrite_b L) (x_raceWrite_x L) (x_raceWrite_f L) (ad:=⟨Wg,1,none⟩) (by simp[Act.eval]<;>rfl)];simp only[goes_go];refine⟨⟨rfl,λex hex=>?_⟩,?_⟩
   .rw[Array.mem_singleton] at hex;subst hex;exact .inr rfl
   refine GA.a ?_ hF;clear hF
   walk_nrm
   refine uE ?_;refine uQ ?_;refine uR ?_;refine uO ?_;refine uE ?_;refine uQ ?_;refine uQ ?_;refine uR ?_;iterate 4 refine uO ?_
   refine uK ?_;refine uO ?_;refine uE ?_;refine uF ?_;refine uC stepG_skip ?_;refine uQ ?_;refine uR ?_;iterate 4 refine uO ?_
   refine uS λw₃ hF=>?_;refine⟨rfl,rfl,λ⟨st,hw⟩=>stepG_semacquire_wait rfl rfl rfl H.f_semacquire (x_semacquire_n L) (x_semacquire_b L) (x_semacquire_x L) (x_semacquire_f L) (by simp[Act.eval,smA]) hw.cellSm,λhf=>?_⟩;refine⟨_,(stepG_semacquire (n:=1) rfl rfl (by k_ne) rfl H.f_semacquire (x_semacquire_n L) (x_semacquire_b L) (x_semacquire_x L) (x_semacquire_f L) (by simp[Act.eval,smA]) hf.cellSm (by k_ne) (hf.thaw 1)).trans (by rfl),30,?_⟩
   replace hF:WgLive L.tWg Wg (w₃.setCell (smA Wg) (.int .u32 0)):=⟨_,_,hf.setSm 0⟩
   clear hf;refine GA.a ?_ hF;clear hF
   walk_nrm
   refine uE ?_;refine uQ ?_;refine uR ?_;iterate 3 refine uO ?_
   refine uI rfl λw hF=>goes_call rfl rfl (by k_ne) rfl H.f_uLoad (nm_uLoad L) rfl ⟨dz,GA.a ?_ hF⟩
   walk_nrmf uLoadFn
   refine uQ ?_;refine uR ?_;refine uO ?_;refine uE ?_;refine uQ ?_;refine uR ?_;iterate 3 refine uO ?_
   refine uS λw₄ hF=>?_;refine⟨rfl,λhw=>⟨_,stepG_load_atomic (v:=0) rfl rfl (by k_ne) rfl H.f_loadU64 (x_loadU64_n L) (x_loadU64_b L) (x_loadU64_x L) .u64 (x_loadU64_f L) rfl hw.cellSt,30,?_⟩⟩;clear hw;refine GA.a ?_ hF;clear hF
   walk_nrm
   refine uO ?_;refine uE ?_;refine uC stepG_ret' ?_;refine uI rfl λw hF=>goes_leave1 rfl rfl H.f_uLoad rfl ⟨dz,GA.a ?_ hF⟩
   walk_nrm
   iterate 2 refine uO ?_
   refine uE ?_;refine uQ ?_;refine uT ?_;refine uQ ?_;refine uR ?_;refine uS λw₅ hF=>?_;refine⟨rfl,_,stepG_mark0 .enable (by simp) rfl rfl (by k_ne) rfl H.f_enable (x_enable_n L) (x_enable_b L) (x_enable_x L) (x_enable_f L),12,?_⟩;refine GA.a ?_ hF;clear hF
   walk_nrm
   refine uE ?_;refine uR ?_;refine uO ?_;refine uV (λw hF=>⟨run_convert_to_unsafe (P:=P) H.underlying_tWgP H.underlying_tUP H.room_tWg (WgLive.cell0 hF).choose_spec,λes=>events_convert_to_unsafe (P:=P) H.underlying_tWgP H.underlying_tUP H.room_tWg (WgLive.cell0 hF).choose_spec es⟩) ?_;refine uS λw₆ hF=>?_;refine⟨rfl,_,stepG_markAt .acquire (by simp) rfl rfl (by k_ne) rfl H.f_acquire (x_acquire_n L) (x_acquire_b L) (x_acquire_x L) (x_acquire_f L) (by simp[Act.eval,stA]),60,?_⟩
   walk_nrm
   u_c stepG_region_end tl hX
   u_c stepG_seq tl hX
   u_c stepG_seq tl hX
   u_reg tl hX
   u_op tl hX
   u_c stepG_region_end tl hX
   u_cond false tl hX
   u_c stepG_skip tl hX
   u_c stepG_ret' tl hX
   u_leave0 H.f_wait tl hX
   exact Goes.stop λw₇ _=>hT w₇
  .refine⟨_,stepG_cas_miss (v:=(v':Int)*KK) (old:=S) (n:=S+1) rfl rfl (by k_ne) rfl H.f_casU64 (x_casU64_n L) (x_casU64_b L) (x_casU64_x L) .u64 (x_casU64_f L) rfl rfl rfl hw.cellSt (hw.thaw 0) (by rw[<-hS];simp only[KK];omega),20,?_⟩;clear hw;refine GA.a ?_ hF;clear hF
   walk_nrm
   refine uO ?_;refine uE ?_;refine uC stepG_ret' ?_;refine uI rfl λw hF=>goes_leave1 rfl rfl H.f_uCas rfl ⟨dz,GA.a ?_ hF⟩
   walk_nrm
   refine uE ?_;refine uF ?_;refine uC stepG_skip ?_;refine uC stepG_inBlock ?_;refine uC stepG_inLoop ?_;refine uS λw₃ hF=>?_;exact⟨_,rfl,by simp,by simp,hF⟩
end
end W
section
open Go.RowKit
open Go.Conc hiding base
open Go.ConcN
open Go.ConcR (KK WgAt stA smA rd wr mk Payload DC0)
open Go.Conc.Lib (WgLink WgLib)
namespace W
section
variable {P:nh}{main:Md}{sh:Bk}{Stop Stop':GSt}{own:Bk}{g:Goroutine}{w:nm}
def Run.mono(h:Run P main sh Stop own g w)(hk:∀own g w,Stop own g w->Stop' own g w):Run P main sh Stop' own g w:=by
 induction h with
 |stop h=>exact .stop λw1 h1=>hk _ _ _ (h w1 h1)
 |step g' w' es own' h1 h2 _ ih=>exact .step g' w' es own' h1 h2 ih
 |stroke K h1 h2 _ ih=>exact .stroke K h1 h2 ih
end
section
variable {P:nh}{ty:nl}{Wg:Nat}{S0 own:Bk}{Q:nm->Prop}{X:Goroutine->nm->Prop}{Y Next:GSt}
structure JH(Wg:Nat)(S0 own:Bk)(Q:nm->Prop):Prop where
 rely:∀w w1,Q w->Rly own S0 w w1->Q w1
 st:∀w v,Q w->Q (w.setCell (stA Wg) v)
 sm:∀w v,Q w->Q (w.setCell (smA Wg) v)
def rly_wg{w w':nm}(h:Aside Wg w w')(h1:¬own Wg)(h2:¬S0 Wg):Rly own S0 w w':=
 ⟨⟨h.os,h.tape,h.output⟩,Nat.le_of_eq h.size.symm,λk _ hk=>h.block k λe=>hk.elim (λx=>h1 (e ▸ x)) λx=>h2 (e ▸ x)⟩
def JH.all(h1:¬own Wg)(h2:¬S0 Wg)(K:nm->Prop):JH Wg S0 own (λw=>∀w',Rly own S0 w w'->K w'):=
 ⟨λw w1 h r w' h'=>h w' (r.trans h'),λw v h w' h'=>h w' ((rly_wg (aside_setCell w _ v) h1 h2).trans h'),λw v h w' h'=>h w' ((rly_wg (aside_setCell w _ v) h1 h2).trans h')⟩
def HL(hQ:JH Wg S0 own Q):∀(m:Nat) (g:Goroutine) (w:nm),WgLive ty Wg w->Q w->Goes P true (RL ty Wg) (DS Wg) X m g w->
  Run P (YW ty Wg) S0 (λown' g w=>own'=own/\Q w/\(WgLive ty Wg w->X g w)/\∃w0,X g w0) own g w
 |0,g,w,hl,hq,h=>.stop λw1 h1=>⟨rfl,hQ.rely _ _ hq h1,λhi=>h w1 hi,w,h w hl⟩
 |m+1,g,w,hl,hq,h=>by
  rcases h with h|⟨hs,h⟩
  .exact .stop λw1 h1=>⟨rfl,hQ.rely _ _ hq h1,λhi=>h w1 hi,w,h w hl⟩
  .refine Run.goF hs λw1 h1 hi=>?_;have h2:=h w1 hi;show ∃g' w' es own',stepG P true g w1=.go g' w' es/\_;cases hst:stepG P true g w1 with
   |go g' w' es=>
    rw[hst] at h2;obtain⟨⟨rfl,hsd⟩,h3⟩:=h2;exact⟨g',w',es,own,rfl,.inr ⟨rfl,rfl,hsd⟩,HL hQ m g' w' hi (hQ.rely _ _ hq h1) h3⟩
   |_=>rw[hst] at h2;exact h2.elim
def Xf(hQ:JH Wg S0 own Q){m:Nat}{g:Goroutine}{w:nm}(hl:WgLive ty Wg w)(hq:Q w)(h:Goes P true (RL ty Wg) (DS Wg) X m g w)(hk:∀g w,WgLive ty Wg w->Q w->X g w->Y own g w):MR P ty Wg S0 Y own g w:=
 (HL hQ m g w hl hq h).mono λown' g w ⟨h1,h2,h3,_⟩ hl=>by subst h1;exact hk g w hl h2 (h3 hl)
def mr_end(hQ:JH Wg S0 own Q){m:Nat}{g G0:Goroutine}{w:nm}(hl:WgLive ty Wg w)(hq:Q w)(h:Goes P true (RL ty Wg) (DS Wg) (λg _=>g=G0) m g w)(hk:∀w,Q w->MR P ty Wg S0 Next own G0 w):MR P ty Wg S0 Next own g w:=
 (HL hQ m g w hl hq h).bind λown' g w ⟨h1,h2,_,w0,h3⟩=>by subst h1;subst h3;exact hk w h2
def live_st{w:nm}{v:Int}{st sm:Int}(h:WgAt ty Wg w st sm)[Payload]:WgLive ty Wg (w.setCell (stA Wg) (.int .u64 v)):=⟨_,_,h.setSt _⟩
def live_sm{w:nm}{v:Int}{st sm:Int}(h:WgAt ty Wg w st sm)[Payload]:WgLive ty Wg (w.setCell (smA Wg) (.int .u32 v)):=⟨_,_,h.setSm _⟩
def skd_of[Payload](hQ:JH Wg S0 own Q){g G0:Goroutine}{w:nm}(hk:∀w,Q w->MR P ty Wg S0 Next own G0 w)(hl:WgLive ty Wg w)(hq:Q w)(h:GKd P ty Wg (λg _=>g=G0) g w):SKd P ty Wg S0 Next own g w:=by
 obtain⟨h1,g',h2,m,h3⟩:=h;refine⟨h1,g',h2,Xf hQ hl hq h3 λg w hl hq h=>?_⟩;obtain⟨h1,h4⟩:=h;refine⟨h1,λv hv hw=>?_⟩;obtain⟨g',h2,m,h3⟩:=h4 v hv hw;refine⟨g',h2,Xf hQ (live_st hw) (hQ.st _ _ hq) h3 λg w hl hq h=>?_⟩;obtain⟨h1,g',h2,m,h3⟩:=h;exact⟨h1,g',h2,mr_end hQ hl hq h3 hk⟩
def add_run[Payload]{L:WgLink}(H:WgLib P L){b₀:nu}{a₀:Act}{ops₀:Array Oper}{i₀:Nat}{rest₀:List Nat}{k₀:List Item}{cs:List nu}(h1:¬own Wg)(h2:¬S0 Wg){w:nm}(hl:WgLive L.tWg Wg w)
  (hk:∀w',Rly own S0 w w'->MR P L.tWg Wg S0 Next own (G (b₀.at (a₀.put ((ops₀[i₀]?).bind (·.dst)) (.tuple #[])) (.inRegion ops₀ rest₀::k₀)) cs) w') :
  MR P L.tWg Wg S0 (SKd P L.tWg Wg S0 Next) own (G (Frame.enter P L.add #[.pointer (some ⟨Wg,0,none⟩),nj 1] .normal) (b₀.at a₀ (.inRegion ops₀ (i₀::rest₀)::k₀)::cs)) w:=by
 have hQ:=JH.all (Wg:=Wg) h1 h2 (λw'=>MR P L.tWg Wg S0 Next own (G (b₀.at (a₀.put ((ops₀[i₀]?).bind (·.dst)) (.tuple #[])) (.inRegion ops₀ rest₀::k₀)) cs) w');rw[Go.Conc.enter_at (c:=Go.ConcR.Gen.body_add L) _ H.f_add rfl];exact Xf hQ hl hk (add_goes (End:=λg _=>g=G (b₀.at (a₀.put ((ops₀[i₀]?).bind (·.dst)) (.tuple #[])) (.inRegion ops₀ rest₀::k₀)) cs) H (λ_ _=>rfl) w hl) λg w hl hq h=>skd_of hQ (λw hq=>hq w (Rly.refl _ _ _)) hl hq h
variable (P S0) in
def FinW(Kf:GSt):GSt:=λown g w=>∃G0,TailW P (λg _=>g=G0) g w/\∀w',Rly own S0 w w'->Kf own G0 w'
variable (S0) in
def AnW(L:WgLink)(Wg:Nat)(Kf:GSt):GSt:=λown g w=>∃(b₀:nu) (a₀:Act) (ops₀:Array Oper) (i₀:Nat) (rest₀:List Nat) (k₀:List Item) (cs:List nu),
 Anc L Wg (b₀.at a₀ (.inRegion ops₀ (i₀::rest₀)::k₀)) cs g w/\¬own Wg/\∀w',Rly own S0 w w'->Kf own (G (b₀.at (a₀.put ((ops₀[i₀]?).bind (·.dst)) (.tuple #[])) (.inRegion ops₀ rest₀::k₀)) cs) w'
def AnW.running{L:WgLink}{Kf:GSt}{g:Goroutine}{w:nm}(h:AnW S0 L Wg Kf own g w):g.status=.running:=by
 obtain⟨_,_,_,_,_,_,_,⟨_,rfl,_⟩,_⟩:=h;rfl
section
variable [Payload]{Kf:GSt}{G0:Goroutine}{AnchW:GSt}{Anch:Goroutine->nm->Prop}
def wke_of(hQ:JH Wg S0 own (λw=>∀w',Rly own S0 w w'->Kf own G0 w')){g:Goroutine}{w:nm}(hl:WgLive ty Wg w)(hq:∀w',Rly own S0 w w'->Kf own G0 w')(h:HKe P ty Wg (λg _=>g=G0) g w):WKe P ty Wg S0 (FinW P S0 Kf) own g w:=by
 obtain⟨h1,g',h2,m,h3⟩:=h;refine⟨h1,g',h2,Xf hQ hl hq h3 λg w hl hq h=>?_⟩;obtain⟨h1,g',h2,h3⟩:=h;exact⟨h1,g',h2,G0,h3,hq⟩
def ww3_of(hQ:JH Wg S0 own (λw=>∀w',Rly own S0 w w'->Kf own G0 w')){g:Goroutine}{w:nm}(hl:WgLive ty Wg w)(hq:∀w',Rly own S0 w w'->Kf own G0 w')(h:HW3 P ty Wg (λg _=>g=G0) g w):WW3 P ty Wg S0 (FinW P S0 Kf) own g w:=by
 obtain⟨h1,h2,h3,h4⟩:=h;refine⟨h1,h2,h3,λhw=>?_⟩;obtain⟨g',h5,m,h6⟩:=h4 hw;refine⟨g',h5,Xf hQ (live_sm hw) (hQ.sm _ _ hq) h6 λg w hl hq h=>?_⟩;obtain⟨h1,h2⟩:=h;refine⟨h1,λhw=>?_⟩;obtain⟨g',h5,m,h6⟩:=h2 hw;exact⟨g',h5,Xf hQ hl hq h6 λg w hl hq h=>wke_of hQ hl hq h⟩
def ww1_of(hQ:JH Wg S0 own (λw=>∀w',Rly own S0 w w'->Kf own G0 w'))(hA:∀g w,WgLive ty Wg w->(∀w',Rly own S0 w w'->Kf own G0 w')->Anch g w->AnchW own g w){g:Goroutine}{w:nm}(hl:WgLive ty Wg w)(hq:∀w',Rly own S0 w w'->Kf own G0 w')(h:HW1 P ty Wg (λg _=>g=G0) Anch g w):WW1 P ty Wg S0 (FinW P S0 Kf) AnchW own g w:=by
 obtain⟨h1,h2⟩:=h;refine⟨h1,λv hv hw=>?_⟩;obtain⟨g',h3,h4,h5⟩:=h2 v hv hw;refine⟨g',h3,λe=>?_,λe=>?_⟩
 .obtain⟨m,h6⟩:=h4 e;exact Xf hQ hl hq h6 λg w hl hq h=>wke_of hQ hl hq h
 .obtain⟨m,h6⟩:=h5 e;refine Xf hQ hl hq h6 λg w hl hq h=>?_;obtain⟨h1,h2⟩:=h;refine⟨h1,λv' hv' hw'=>?_⟩;obtain⟨h3,h4⟩:=h2 v' hv' hw';refine⟨λe=>?_,λe=>?_⟩
  .obtain⟨g',h5,m,h6⟩:=h3 e;exact⟨g',h5,Xf hQ (live_st hw') (hQ.st _ _ hq) h6 λg w hl hq h=>ww3_of hQ hl hq h⟩
  .obtain⟨g',h5,m,h6⟩:=h4 e;exact⟨g',h5,Xf hQ hl hq h6 hA⟩
def anchor_run{L:WgLink}(H:WgLib P L)(h2:¬S0 Wg){g:Goroutine}{w:nm}(hl:WgLive L.tWg Wg w)(h:AnW S0 L Wg Kf own g w):MR P L.tWg Wg S0 (WW1 P L.tWg Wg S0 (FinW P S0 Kf) (AnW S0 L Wg Kf)) own g w:=by
 obtain⟨b₀,a₀,ops₀,i₀,rest₀,k₀,cs,ha,h1,hq⟩:=h;have hQ:=JH.all (Wg:=Wg) h1 h2 (λw'=>Kf own (G (b₀.at (a₀.put ((ops₀[i₀]?).bind (·.dst)) (.tuple #[])) (.inRegion ops₀ rest₀::k₀)) cs) w');obtain⟨m,hg⟩:=wait_round (End:=λg _=>g=G (b₀.at (a₀.put ((ops₀[i₀]?).bind (·.dst)) (.tuple #[])) (.inRegion ops₀ rest₀::k₀)) cs) H (λ_=>rfl) g w ha;exact Xf hQ hl hq hg λg w hl hq h=>ww1_of hQ (λg w hl hq h=>⟨b₀,a₀,ops₀,i₀,rest₀,k₀,cs,h,h1,hq⟩) hl hq h
def wait_run{L:WgLink}(H:WgLib P L){b₀:nu}{a₀:Act}{ops₀:Array Oper}{i₀:Nat}{rest₀:List Nat}{k₀:List Item}{cs:List nu}(h1:¬own Wg)(h2:¬S0 Wg){w:nm}(hl:WgLive L.tWg Wg w)
  (hk:∀w',Rly own S0 w w'->Kf own (G (b₀.at (a₀.put ((ops₀[i₀]?).bind (·.dst)) (.tuple #[])) (.inRegion ops₀ rest₀::k₀)) cs) w') :
  MR P L.tWg Wg S0 (WKd P L.tWg Wg S0 (AnW S0 L Wg Kf)) own (G (Frame.enter P L.wait #[.pointer (some ⟨Wg,0,none⟩)] .normal) (b₀.at a₀ (.inRegion ops₀ (i₀::rest₀)::k₀)::cs)) w:=by
 have hQ:=JH.all (Wg:=Wg) h1 h2 (λw'=>Kf own (G (b₀.at (a₀.put ((ops₀[i₀]?).bind (·.dst)) (.tuple #[])) (.inRegion ops₀ rest₀::k₀)) cs) w');rw[Go.Conc.enter_at (c:=Go.ConcR.Gen.body_wait L) _ H.f_wait rfl];refine Xf hQ hl hk (wait_start H w hl) λg w hl hq h=>?_;obtain⟨h3,g',h4,m,h5⟩:=h;exact⟨h3,g',h4,Xf hQ hl hq h5 λg w hl hq h=>⟨b₀,a₀,ops₀,i₀,rest₀,k₀,cs,h,h1,hq⟩⟩
end
end
end W
namespace W
section
variable {P:nh}
noncomputable def Hq(P:nh):nu:={(default:nu) with fn:=P.funcs.size,defers:=[],mode:=.panicking [goexitEntry]}
def born_at {f:np} {fn:Func} {c:Code} {capt:Array nA} (hf:P.funcs[f]?=some fn) (hname:(fn.name == "runtime.NumGoroutine")=false) (hb:fn.body=some c) (w:nm) :
  stepG P false (born P {target:=.fn (.func f) capt,args:=#[]}) w=.go (G ((baseD f).at {tmps:=capt++Array.replicate (fn.ntmps-capt.size) undef,defers:=[]} [.code c]) [Hq P]) w #[]:=by
 have h1:¬fn.name= "runtime.NumGoroutine":=by simpa using hname
 have h2:=enter_atD (P:=P) capt hf hb;simp[born,stepG,unwind,callDeferred,invoke,callFunc,hf,h1,hb,seen,GStep.after,G,Hq];exact h2
def quits_tail{f:np}{fn:Func}(hf:P.funcs[f]?=some fn)(hres:fn.results=#[])(T:Array nA)(todo:List Item):QuitsD P 2 0 (G {(baseD f).at ⟨T,[]⟩ todo with mode:=.returning} [Hq P]):=by
 refine QuitsD.ctl (g':=G (Hq P) []) rfl (λw=>?_) ?_
 .simp[G,stepG,unwind,doReturn,results,Frame.at,baseD,Hq,hf,hres,seen,GStep.after,goexitEntry]
 refine QuitsD.ctl (g':={G (Hq P) [] with status:=.finished}) rfl (λw=>?_) ⟨rfl,rfl⟩;simp[G,stepG,unwind,Hq,goexitEntry,Frame.catches];rfl
def wpR0_defer{main:Md}{sh own:Bk}{Q:Bk->Exit->Act->nm->Prop}{a:Act}{w:nm}{id f:Nat}{x:ni}{ats:Array nl}{ty:nl}{pos:String}
  (h:Q own .normal ⟨a.tmps,dcall f #[a.eval x]::a.defers⟩ w):Kb P main sh (.region id #[{dst:=none,op:=.defer {callee:=.value (.func f),args:=#[x],argTypes:=ats},type:=ty,pos:=pos,after:=#[],guard:=none}] false) Q own a w:=by
 intro b k cs Stop hb hk hc;refine Run.quiet rfl (λ_=>Y6) ?_;rw[Frame.atR_of_none hb];refine Run.quiet (g':=G (b.at ⟨a.tmps,dcall f #[a.eval x]::a.defers⟩ (.inRegion #[{dst:=none,op:=.defer {callee:=.value (.func f),args:=#[x],argTypes:=ats},type:=ty,pos:=pos,after:=#[],guard:=none}] []::k)) cs) rfl (λw1=>?_) ?_
 .have:=stepG_defer (P:=P) (main:=main.b) (b:=b) (a:=a) (k:=k) (cs:=cs) (w:=w1) (i:=0) (rest:=[]) (ops:=#[{dst:=none,op:=.defer {callee:=.value (.func f),args:=#[x],argTypes:=ats},type:=ty,pos:=pos,after:=#[],guard:=none}]) (o:={dst:=none,op:=.defer {callee:=.value (.func f),args:=#[x],argTypes:=ats},type:=ty,pos:=pos,after:=#[],guard:=none}) rfl rfl hk rfl;simpa [Act.put] using this
 .rw[<-Frame.atR_of_none hb];exact Run.quiet rfl (λ_=>J5) (hc _ _ _ _ h)
end
section
variable [Payload]{P:nh}{p:Ph}{L:WgLink}{own:Bk}{ri:Nat}{X:Goroutine->nm->Prop}
def run_rw(hS:p.S0 p.Bx):∀(m:Nat) (g:Goroutine) (w:nm),FZ p w->Goes P false (RWb p.ty p.Wg p.Bx) DC0 X m g w->Run P (Gc p ri) p.S0 (λown' g w=>own'=own/\(FZ p w->X g w)) own g w:=by
 have hR:∀w w1,FZ p w->Rly own p.S0 w w1->FZ p w1->RWb p.ty p.Wg p.Bx w w1:=λw w1 hi hr hi1=>by
  have hlt:p.Bx<w.heap.size:=by
   obtain⟨_,⟨cs,h1,_⟩,_⟩:=hi;exact(Array.getElem?_eq_some_iff.1 h1).1
  exact rw_of (hr.keep p.Bx hlt (.inr hS)) hi1.1
 intro m;induction m with
 |zero=>exact λg w hi h=>.stop λw1 h1=>⟨rfl,λhi1=>h w1 (hR w w1 hi h1 hi1)⟩
 |succ m ih=>
  intro g w hi h;rcases h with h|⟨hs,h⟩
  .exact .stop λw1 h1=>⟨rfl,λhi1=>h w1 (hR w w1 hi h1 hi1)⟩
  .refine Run.goF hs λw1 h1 hi1=>?_;have h2:=h w1 (hR w w1 hi h1 hi1);show ∃g' w' es own',stepG P false g w1=.go g' w' es/\_;cases hst:stepG P false g w1 with
   |go g' w' es=>
    rw[hst] at h2;obtain⟨⟨rfl,rfl⟩,h3⟩:=h2;exact⟨g',w',#[],own,rfl,.inl ⟨X8.idle _ _ _,(QW (ai _)).symm⟩,ih g' w' hi1 h3⟩
   |_=>rw[hst] at h2;exact h2.elim
def worker_run (H:WgLib P L) (hL:p.ty=L.tWg) (hS:p.S0 p.Bx) {f:np} {fn:Func} {c:Code} {capt:Array nA} (hf:P.funcs[f]?=some fn) (hname:(fn.name == "runtime.NumGoroutine")=false) (hb:fn.body=some c) (hres:fn.results=#[]) {box:Nat} {w:nm}
  (hwp:∀w1,Rly (λk=>k=box) p.S0 w w1->Kb P (Gc p ri) p.S0 c (λown' e a' w'=>(e=.normal\/e=.ret)/\(∀k,¬own' k)/\a'.defers=[dcall L.done #[.pointer (some ⟨p.Wg,0,none⟩)]]) (λk=>k=box) {tmps:=capt++Array.replicate (fn.ntmps-capt.size) undef,defers:=[]} w1) :
  Wrk P p ri box (born P {target:=.fn (.func f) capt,args:=#[]}) w:=by
 have nmd:((Go.Conc.Lib.doneFn L).name == "runtime.NumGoroutine")=false:=by rfl
 refine Run.go rfl λw1 h1=>⟨_,w1,#[],born_at hf hname hb w1,X8.idle _ _ _,?_⟩
 rw[QW (ai _),<-Frame.atR_of_none (b:=baseD f) rfl]
 have hend:∀(own':Bk) (a':Act) (w':nm) (todo:List Item),(∀k,¬own' k)->a'.defers=[dcall L.done #[.pointer (some ⟨p.Wg,0,none⟩)]]->Run P (Gc p ri) p.S0 (SR0 P p) own' (G {(baseD f).at a' todo with mode:=.returning} [Hq P]) w':=λown' a' w' todo ho hd=>by
  refine Run.goF rfl λw2 h2 hi=>?_;have hst:=stepG_unwind_enter (P:=P) (main:=false) (b:=baseD f) (a:=a') (todo:=todo) (cs:=[Hq P]) (w:=w2) (ds:=[]) (c:=Go.ConcR.Gen.body_done L) hd H.f_done nmd rfl;refine⟨_,w2,#[],own',hst,.inl ⟨X8.idle _ _ _,(QW (ai _)).symm⟩,?_⟩;have hgo:=done_goes (L:=L) (Wg:=p.Wg) (Bx:=p.Bx) (v0:=p.v0) H (c:={(baseD f).at ⟨a'.tmps,[]⟩ todo with mode:=.returning}) (cs:=[Hq P]) rfl (quits_tail hf hres a'.tmps todo) w2 ⟨by rw[<-hL];exact hi.1,hi.2.2.1⟩;rw[<-hL] at hgo;have hrn:=run_rw (p:=p) (ri:=ri) (own:=own') hS 23 _ w2 hi hgo
  have e4:(#[.pointer (some ⟨p.Wg,0,none⟩)]:Array nA)++Array.replicate ((Go.Conc.Lib.doneFn L).ntmps-(#[.pointer (some ⟨p.Wg,0,none⟩)]:Array nA).size) undef=#[.pointer (some ⟨p.Wg,0,none⟩),undef,undef,undef]:=by
   simp[Go.Conc.Lib.doneFn,Array.replicate_succ]
  rw[e4];exact hrn.mono λown2 g w ⟨e,hx⟩=>⟨by subst e;exact ho,hx⟩
 refine hwp w1 h1 (baseD f) [] [Hq P] (SR0 P p) rfl (by simp[baseD]) λown' e a' w' ⟨he,ho,hd⟩=>?_;rcases he with rfl|rfl
 .exact Run.quiet rfl (λ_=>sg_end rfl) (hend own' a' w' [] ho hd)
 .exact⟨λ_ todo=>hend own' a' w' todo ho hd,λh=>absurd rfl h⟩
end
end W
namespace W
def frP(ty:nl)(Wg:Nat)(S0 own:Bk)(ds:List Deferred):CF:={main:=YW ty Wg,sh:=S0,own:=own,fr:=λ_=>none,ds:=ds}
section
variable {ty:nl}{Wg:Nat}{S0 own:Bk}{ds:List Deferred}{F:nc}{w:nm}{g tg:Nat}{cs:ne}
def okP_lose(h:OK (frP ty Wg S0 own ds) [Ow.cells g tg cs] F w):OK (frP ty Wg S0 (λk=>own k/\k≠g) ds) [] F w:=by
 refine⟨⟨λk o hk=>(by cases hk),λk hk=>h.frame.2.1 k (hk.imp eJ id),λk hk=>⟨(h.frame.2.2 k hk).1,λho=>(h.frame.2.2 k hk).2 ho.1⟩⟩,λk hk=>(by simp[ids] at hk),by simp[ids],λb hb=>(by cases hb),λf hf=>f.mono (imm (frP ty Wg S0 own ds) [Ow.cells g tg cs] w.heap) _ (.mk rfl λk o hk=>?_) (h.facts f hf)⟩;have hm:=Yq hk;have hh:=JA hk
 have hv:k≠g:=by
  simp only[imm] at hk;split at hk
  .cases hk
  .rename_i hc
   simp[ids,Ow.ids,frP] at hc;exact hc
 show(if(((none:Option Obj).isSome) ||(ids []).contains k)=true then none else(frP ty Wg S0 (λk=>own k/\k≠g) ds).see w.heap k)=some o;rw[ae (by simp[ids]),CF.Yy (c:=frP ty Wg S0 (λk=>own k/\k≠g) ds) (hm.imp (λx=>⟨x,hv⟩) id)];exact hh
section
variable {bx:nw}
def okP_wg(h:OK (frP ty Wg S0 own ds) bx F w):¬own Wg:=(h.frame.2.2 Wg rfl).2
end
section
def ndf{P:nh}{o:Oper}{a:Act}{w w':nm}{x:Next}(h:(execOp a.eval o).run P w=.ok x w')(hx:∀d,x≠.defer d):∀c,o.op≠.defer c:=λc hc=>by
 have h2:(execOp a.eval o).run P w=((resolve a.eval c o.type).run P w).andThen λd w'=>.ok (.defer d) w':=by simp[hc,execOp,Sem.run]
 rw[h2] at h;generalize (resolve a.eval c o.type).run P w=R at h;cases R with
 |ok d w1=>simp only[Result.andThen_ok] at h;injection h with h1;exact hx _ h1.symm
 |halt d w1=>simp at h
variable {P:nh}{o:Oper}{a:Act}{b:nu}{k:List Item}{Cs:List nu}{Stop:GSt}{id:Nat}{f:np}{args:Array nA}
def wan{ops:Array Oper}{tm:Array nA}(h:o.guard=none):Region.wanted o (yielded ops tm)=true:=by unfold Region.wanted;rw[h]
def G9[Payload](hb:b.roundOf=none)(hk:b.kind≠.early)(hg:o.guard=none)(hr:∀w,(execOp a.eval o).run P w=.ok (.enter f args) w/\(execOp a.eval o).events P w #[]=#[])
  (h:∀w1,Rly own S0 w w1->WgLive ty Wg w1->Run P (YW ty Wg) S0 Stop own (G (Frame.enter P f args .normal) (b.at a (.inRegion #[o] [0]::k)::Cs)) w1) :
  Run P (YW ty Wg) S0 Stop own (G (b.atR a (.code (.region id #[o] false)::k)) Cs) w:=by
 refine Run.quiet rfl (λ_=>Y6) ?_;refine Run.goF rfl λw2 hr2 hi2=>⟨G (Frame.enter P f args .normal) (b.at a (.inRegion #[o] [0]::k)::Cs),w2,#[],own,?_,.inl ⟨X8.idle _ _ _,(QW (ai _)).symm⟩,h w2 hr2 hi2⟩
 have:=sg_enter (P:=P) (m:=true) (b:=b) (k:=k) (cs:=Cs) (i:=0) (rest:=[]) (ops:=#[o]) (o:=o) rfl (wan hg) (ndf (hr w2).1 (by simp)) hk (hr w2).1;rw[listed_none (hr w2).2,Frame.atR_of_none hb] at this;rw[Frame.atR_of_none hb];exact this
end
section
variable {P:nh}{R:Env->nw->nc->Prop}{n:Nat}{c:Code}{e:Env}{bx:nw}{a:Act}{b:nu}{k:List Item}{Cs:List nu}{Stop:GSt}
def UX[Payload](hc:WC P n c e bx F (λex e' bx' F'=>ex=.normal/\R e' bx' F'))(hkn:Kn ds n a e)(ho:OK (frP ty Wg S0 own ds) bx F w)(hk:b.kind≠.early)
  (hn:∀own' a' w' e' bx' F',Kn ds n a' e'->OK (frP ty Wg S0 own' ds) bx' F' w'->R e' bx' F'->Run P (YW ty Wg) S0 Stop own' (G (b.atR a' k) Cs) w') :
  Run P (YW ty Wg) S0 Stop own (G (b.atR a (.code c::k)) Cs) w:=
 hc (frP ty Wg S0 own ds) w a w hkn (Rest.refl _) ho b k Cs Stop hk λown' e a' w' hp=>by
  cases e with
  |normal=>obtain⟨_,e',bx',F',h1,_,h2,_,h3⟩:=hp;exact hn own' a' w' e' bx' F' h1 h2 h3
  |exit id=>obtain⟨_,e',bx',F',h1,_,h2,h3,_⟩:=hp;cases h3
  |ret=>obtain⟨_,e',bx',F',h1,_,h2,h3,_⟩:=hp;cases h3
  |_=>exact hp.elim
end
end
section
variable [Payload]{P:nh}{p:Ph}{L:WgLink}{AnchW:GSt}{N n:Nat}{ds:List Deferred}{FP:nc}{E E1:Nat->Env}{E2 E3:Nat->Nat->Env}{c7 c8 c11 rest:Code}{t31:ni}{id0 id1 id9 id10 id12:Nat}
 {b:nu} {k:List Item} {cs:List nu} {o9 oM oG o12:Oper} {tint:nl} {capt:Nat->Array nA} {fw:np} {Kf:GSt} {b0:Nat}
def rnd(c7 c8 c11:Code)(t31:ni)(id0 id1 id9 id10:Nat)(o9 oM oG:Oper):Code:=
 .seq c7 (.seq (.cond t31 .skip (.exit id0)) (.seq (.block id1 (.seq c8 (.seq (.region id9 #[o9] false) (.region id10 #[oM,oG] false)))) c11))
def starts(H:WgLib P L)(hL:p.ty=L.tWg)(hWg:¬p.S0 p.Wg)(hb:b.roundOf=none)(hk:b.kind≠.early)
  (h7:∀i,i<=N->WC P n c7 (E i) [] FP (λex e' bx' F'=>ex=.normal/\Sub (E1 i) e'/\Qz F' FP))
  (h7t:∀i,i<=N->ev (E1 i) t31=some (.bool (decide (i<N))))
  (h8:∀i,i<N->WC P n c8 (E1 i) [] FP (λex e' bx' F'=>ex=.normal/\∃g,Sub (E2 i g) e'/\bx'=[Ow.cells g tint [.int .i64 (i:Int)]]/\Qz F' FP))
  (h9:∀i g a w,Kn ds n a (E2 i g)->(execOp a.eval o9).run P w=.ok (.enter L.add #[.pointer (some ⟨p.Wg,0,none⟩),.int .i64 1]) w/\(execOp a.eval o9).events P w #[]=#[]) (h9g:o9.guard=none) (h9d:∀i g a,Kn ds n a (E2 i g)->Kn ds n (a.put o9.dst (.tuple #[])) (E2 i g))
  (hM:∀i g a w,Kn ds n a (E2 i g)->(execOp a.eval oM).run P w=.ok (.value (.func (.func fw) #[] (capt g))) w/\(execOp a.eval oM).events P w #[]=#[]) (hMg:oM.guard=none) (hMd:∀i g a,Kn ds n a (E2 i g)->Kn ds n (a.put oM.dst (.func (.func fw) #[] (capt g))) (E3 i g))
  (hG:∀i g a w,Kn ds n a (E3 i g)->(execOp a.eval oG).run P w=.ok (.spawn {target:=.fn (.func fw) (capt g),args:=#[]}) w/\(execOp a.eval oG).events P w #[]=#[]) (hGg:oG.guard=none) (hGd:∀i g a,Kn ds n a (E3 i g)->Kn ds n (a.put oG.dst undef) (E3 i g))
  (h11:∀i g,i<N->WC P n c11 (E3 i g) [] FP (λex e' bx' F'=>ex=.normal/\Sub (E (i+1)) e'/\Qz F' FP))
  (h12:∀a w,Kn ds n a (E1 N)->(execOp a.eval o12).run P w=.ok (.enter L.wait #[.pointer (some ⟨p.Wg,0,none⟩)]) w/\(execOp a.eval o12).events P w #[]=#[]) (h12g:o12.guard=none)
  (hW:∀i g own w,i<N->OK (frP p.ty p.Wg p.S0 own ds) [Ow.cells g tint [.int .i64 (i:Int)]] FP w->Wrk P p i g (born P {target:=.fn (.func fw) (capt g),args:=#[]}) w)
  (hKf:∀own a w,Kn ds n a (E1 N)->OK (frP p.ty p.Wg p.S0 own ds) [] FP w->Kf own (G (b.at (a.put o12.dst (.tuple #[])) (.inRegion #[o12] []::.code rest::k)) cs) w) :
  ∀r,r<=N->∀own a w,Kn ds n a (E (N-r))->OK (frP p.ty p.Wg p.S0 own ds) [] FP w->
   Spw P p.ty p.Wg p.S0 (Wrk P p) (AnW p.S0 L p.Wg Kf) (b0+N) b0 r own (G (b.atR a (.code (rnd c7 c8 c11 t31 id0 id1 id9 id10 o9 oM oG)::.inLoop (rnd c7 c8 c11 t31 id0 id1 id9 id10 o9 oM oG)::.inBlock id0::.code (.seq (.region id12 #[o12] false) rest)::k)) cs) w:=by
 intro r;induction r with
 |zero=>
  intro _ own a w hkn ho;refine Run.quiet rfl (λ_=>X1) ?_;refine UX (h7 N (ai _)) hkn ho hk λXt a1 w1 e1 bx1 F1 k1 o1 ⟨s1,f1⟩=>?_;have o1:=(o1.drop (bM _)).YQ f1.all;have k1:=k1.sub s1;refine Run.quiet rfl (λ_=>X1) ?_;refine Run.quiet rfl (λ_=>VA (k1.eval (h7t N (ai _)))) ?_;simp only[Nat.lt_irrefl,decide_false,cM,dX];refine Run.quiet rfl (λ_=>sg_exit (k':=.code (.seq (.region id12 #[o12] false) rest)::k) (by simp[exitTo])) ?_;refine Run.quiet rfl (λ_=>X1) ?_;refine G9 hb hk h12g (h12 a1 · k1) λw2 hr2 hi2=>?_;simp only[hL];exact wait_run (Kf:=Kf) (b₀:=b) (a₀:=a1) (ops₀:=#[o12]) (i₀:=0) (rest₀:=[]) (k₀:=.code rest::k) H (okP_wg o1) hWg (hL ▸ hi2) λw3 hr3=>hKf Xt a1 w3 k1 (o1.rely (hr2.trans hr3))
 |succ r ih=>
  intro hle own a w hkn ho;have hlt:N-(r+1)<N:=qo;have hnx:N-(r+1)+1=N-r:=qo;have hri:b0+N-(r+1)-b0=N-(r+1):=qo;show MR P p.ty p.Wg p.S0 (SKd P p.ty p.Wg p.S0 (SGo P (Wrk P p) (b0+N-(r+1)-b0) (Spw P p.ty p.Wg p.S0 (Wrk P p) (AnW p.S0 L p.Wg Kf) (b0+N) b0 r))) own _ w;rw[hri]
  obtain⟨X,hX⟩:∃X:GSt,∀own g w,Spw P p.ty p.Wg p.S0 (Wrk P p) (AnW p.S0 L p.Wg Kf) (b0+N) b0 r own g w=MR P p.ty p.Wg p.S0 X own g w:=by
   cases r<;>exact⟨_,λ_ _ _=>rfl⟩
  have ih:=ih qo;rw[<-hnx] at ih;generalize hNx:Spw P p.ty p.Wg p.S0 (Wrk P p) (AnW p.S0 L p.Wg Kf) (b0+N) b0 r=Nx at ih hX ⊢;generalize N-(r+1)=i at hlt ih hkn ⊢;refine Run.quiet rfl (λ_=>X1) ?_;refine UX (h7 i (bE hlt)) hkn ho hk λXt a1 w1 e1 bx1 F1 k1 o1 ⟨s1,f1⟩=>?_;have o1:=(o1.drop (bM _)).YQ f1.all;have k1:=k1.sub s1;refine Run.quiet rfl (λ_=>X1) ?_;refine Run.quiet rfl (λ_=>VA (k1.eval (h7t i (bE hlt)))) ?_;simp only[hlt,decide_true,dc];refine Run.quiet rfl (λ_=>sg_skip) ?_;refine Run.quiet rfl (λ_=>X1) ?_;refine Run.quiet rfl (λ_=>Up) ?_;refine Run.quiet rfl (λ_=>X1) ?_;refine UX (h8 i hlt) k1 o1 hk λown2 a2 w2 e2 bx2 F2 k2 o2 ⟨g,s2,hb2,f2⟩=>?_;subst hb2;have o2:=o2.YQ f2.all;have k2:=k2.sub s2;refine Run.quiet rfl (λ_=>X1) ?_;refine G9 hb hk h9g (h9 i g a2 · k2) λw3 hr3 hi3=>?_;simp only[hL];refine add_run (b₀:=b) (a₀:=a2) (ops₀:=#[o9]) (i₀:=0) (rest₀:=[]) H (okP_wg o2) hWg (hL ▸ hi3) λw4 hr4=>?_;have o4:=o2.rely (hr3.trans hr4);have k4:=h9d i g a2 k2;show MR P L.tWg p.Wg p.S0 _ own2 (G (b.at (a2.put o9.dst (.tuple #[])) _) cs) w4;simp only[<-hL];rw[<-Frame.atR_of_none hb];refine Run.quiet rfl (λ_=>J5) ?_;refine Run.quiet rfl (λ_=>Y6) ?_;refine Run.quiet (g':=G (b.atR ((a2.put o9.dst (.tuple #[])).put oM.dst (.func (.func fw) #[] (capt g))) (.inRegion #[oM,oG] [1]::.inBlock id1::.code c11::.inLoop (rnd c7 c8 c11 t31 id0 id1 id9 id10 o9 oM oG)::.inBlock id0::.code (.seq (.region id12 #[o12] false) rest)::k)) cs) rfl (λw5=>?_) ?_
  .have:=H0 (P:=P) (m:=true) (b:=b) (cs:=cs) (i:=0) (rest:=[1]) (ops:=#[oM,oG]) (o:=oM) (k:=.inBlock id1::.code c11::.inLoop (rnd c7 c8 c11 t31 id0 id1 id9 id10 o9 oM oG)::.inBlock id0::.code (.seq (.region id12 #[o12] false) rest)::k) rfl (wan hMg) (ndf (hM i g _ w5 k4).1 (by simp)) hk (hM i g _ w5 k4).1;rw[listed_none (hM i g _ w5 k4).2] at this;exact this
  have k5:=hMd i g _ k4;refine Run.stop λw6 hr6 hi6=>⟨rfl,G (b.at (((a2.put o9.dst (.tuple #[])).put oM.dst (.func (.func fw) #[] (capt g))).put oG.dst undef) (.inRegion #[oM,oG] []::.inBlock id1::.code c11::.inLoop (rnd c7 c8 c11 t31 id0 id1 id9 id10 o9 oM oG)::.inBlock id0::.code (.seq (.region id12 #[o12] false) rest)::k)) cs,_,g,?_,rfl,(o4.apart g (by simp[ids,Ow.ids])).1,hW i g own2 w6 hlt (o4.rely hr6),?_⟩
  .have:=stepG_spawn (P:=P) (main:=true) (b:=b) (cs:=cs) (i:=1) (rest:=[]) (ops:=#[oM,oG]) (o:=oG) (k:=.inBlock id1::.code c11::.inLoop (rnd c7 c8 c11 t31 id0 id1 id9 id10 o9 oM oG)::.inBlock id0::.code (.seq (.region id12 #[o12] false) rest)::k) rfl (wan hGg) hk (hG i g _ w6 k5).1 rfl;rw[listed_none (hG i g _ w6 k5).2] at this;rw[Frame.atR_of_none hb];exact this
  have k6:=hGd i g _ k5;have o6:=okP_lose (o4.rely hr6);rw[hX,<-Frame.atR_of_none hb];refine Run.quiet rfl (λ_=>J5) ?_;refine Run.quiet rfl (λ_=>KB) ?_;refine UX (h11 i g hlt) k6 o6 hk λown7 a7 w7 e7 bx7 F7 k7 o7 ⟨s7,f7⟩=>?_;refine Run.quiet rfl (λ_=>UT) ?_;have:=ih own7 a7 w7 (k7.sub s7) ((o7.drop (bM _)).YQ f7.all);rw[hX] at this;exact this
end
end W
end
end Go.Proofs.YtbnobghgnbockaaGreat
