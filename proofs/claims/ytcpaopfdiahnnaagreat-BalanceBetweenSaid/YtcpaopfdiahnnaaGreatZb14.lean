/- Lemmas for a law. Conditions: none. -/
import Derived.Test.YtcpaopfdiahnnaaGreatZb13
import Derived.Conc.DeferLaws
set_option linter.all false
set_option maxHeartbeats 32000000
set_option maxRecDepth 100000
namespace Go.Proofs.YtcpaopfdiahnnaaGreat
section
open Go.RowKit
open Go.Conc hiding base G
open Go.ConcN
open Go.ConcR (KK WgAt stA smA rd wr mk Payload DC0)
namespace W
def RL (ty:TypeId) (Wg:Nat):World->World->Prop:=λ_ w1=>WgLive ty Wg w1
def DS (Wg:Nat):World->World->Array Event->Prop:=λw w' es=>w'=w∧Said Wg es
def ds_none {Wg:Nat} {w:World} {es:Array Event} (h:∀ e∈es,False):DS Wg w w es:=⟨rfl,λe he=>(h e he).elim⟩
def wl {ty:TypeId} {Wg:Nat} {w w₁:World} (_:WgLive ty Wg w) (r:RL ty Wg w w₁):WgLive ty Wg w₁:=r
section
variable (P:Program) (ty:TypeId) (Wg:Nat) (End:Goroutine->World->Prop)
def GKe (g:Goroutine) (w:World):Prop:=g.status=.running∧∃ g',stepG P true g w=.go g' w #[mk .enable]∧∃ m,Goes P true (RL ty Wg) (DS Wg) End m g' w
def GA1 (g:Goroutine) (w:World):Prop:=g.status=.running∧∀ v:Nat,v < 2147483647->WgAt ty Wg w (v*KK) 0->
 ∃ g',stepG P true g w=.go g' (w.setCell (stA Wg) (.int .u64 ((v+1)*KK))) #[rd (stA Wg),wr (stA Wg)]∧∃ m,Goes P true (RL ty Wg) (DS Wg) (GKe P ty Wg End) m g' (w.setCell (stA Wg) (.int .u64 ((v+1)*KK)))
def GKd (g:Goroutine) (w:World):Prop:=g.status=.running∧∃ g',stepG P true g w=.go g' w #[mk .disable]∧∃ m,Goes P true (RL ty Wg) (DS Wg) (GA1 P ty Wg End) m g' w
end
end W
end
namespace W
open Go.Conc Go.ConcN Go.RowKit Go.Conc.Lib Go.ConcR.Gen Go.ConcN.Gen
open Go.ConcR (KK WgAt stA smA rd wr mk Payload)
structure Bu (p:Prop):Prop where
 h:p
def GA (P:Program) (I:World->Prop) (R:World->World->Prop) (D:World->World->Array Event->Prop) (End:Goroutine->World->Prop) (m:Nat) (g:Goroutine):Prop:=∀ w,I w->Goes P true R D End m g w
class KpR (I:World->Prop) (R:World->World->Prop):Prop where
 k:∀ {w w₁},I w->R w w₁->I w₁
class NoE (D:World->World->Array Event->Prop):Prop where
 n:∀ {w es},(∀ e∈es,False)->D w w es
section
variable {P:Program} {I:World->Prop} {R:World->World->Prop} {D:World->World->Array Event->Prop} {End:Goroutine->World->Prop} {m:Nat} {g g':Goroutine}
def dz [NoE D] {w:World}:D w w #[]:=NoE.n λe he=>by simp at he
def GA.a {w:World} (h:GA P I R D End m g) (hI:I w):Goes P true R D End m g w:=h w hI
def uI [KpR I R] (hs:g.status=.running) (h:∀ w,I w->(stepG P true g w).goes λg' w' es=>D w w' es∧Goes P true R D End m g' w'):GA P I R D End (m+1) g:=λ_ hF=>Goes.step hs λw1 h1=>h w1 (KpR.k hF h1)
def uS [KpR I R] (h:∀ w,I w->End g w):GA P I R D End m g:=λ_ hF=>Goes.stop λw1 h1=>h w1 (KpR.k hF h1)
def uC [KpR I R] [NoE D] (e:∀ {w},stepG P true g w=.go g' w #[]) (h:GA P I R D End m g') (hs:g.status=.running:=by exact rfl):GA P I R D End (m+1) g:=uI hs λw hF=>by rw[e];exact⟨dz,h w hF⟩
end
section
variable {P:Program} {I:World->Prop} {R:World->World->Prop} {D:World->World->Array Event->Prop} {End:Goroutine->World->Prop} {m:Nat} [KpR I R] [NoE D] {b:Frame} {a:Act} {k:List Item} {cs:List Frame}
def uQ {x y:Code}:GA P I R D End m (G (b.at a (.code x::.code y::k)) cs)->GA P I R D End (m+1) (G (b.at a (.code (.seq x y)::k)) cs):=(uC stepG_seq ·)
def uE {o:Array Oper}:GA P I R D End m (G (b.at a k) cs)->GA P I R D End (m+1) (G (b.at a (.inRegion o []::k)) cs):=(uC stepG_region_end ·)
end
def uO {G G':Prop} (h:G') (s:Bu G'->G:=by
 intro h;refine uI rfl λw hF=>?_;refine goes_oper_k rfl rfl (by k_ne) (λK hK=>?_)
 go_simp
 refine hK _ _ ⟨NoE.n λe he=>?_,?_⟩
 ·have hm:=mem_listed he;simp[go_sem, *] at hm
 clear hK K;try w_num
 exact GA.a (Bu.h h) hF):G:=s ⟨h⟩
def uR {G G':Prop} (h:G') (s:Bu G'->G:=by
 intro h;refine uI rfl λw hF=>?_;rw[stepG_region];simp only[goes_go,List.size_toArray,List.length_cons,List.length_nil,Nat.reduceAdd,Nat.zero_add,List.range,List.range.loop];exact⟨dz,GA.a (Bu.h h) hF⟩):G:=s ⟨h⟩
def uT {G G':Prop} (h:G') (s:Bu G'->G:=by
 intro h;refine uI rfl λw hF=>?_;rw[stepG_cond (t:=true) (by first|rfl|(simp[Act.eval];omega))];simp only[goes_go,if_true];exact⟨dz,GA.a (Bu.h h) hF⟩):G:=s ⟨h⟩
def uF {G G':Prop} (h:G') (s:Bu G'->G:=by
 intro h;refine uI rfl λw hF=>?_;rw[stepG_cond (t:=false) (by first|rfl|(simp[Act.eval];omega))];simp only[goes_go,if_false,Bool.false_eq_true,↓reduceIte];exact⟨dz,GA.a (Bu.h h) hF⟩):G:=s ⟨h⟩
def uK {G G':Prop} (h:G') (s:Bu G'->G:=by
 intro h;refine uI rfl λw hF=>?_;rw[stepG_unwanted rfl rfl];simp only[goes_go];refine⟨dz,?_⟩
 walk_nrm
 exact GA.a (Bu.h h) hF):G:=s ⟨h⟩
def uV {A B:World->Prop} {I:World->Prop} {G G':Prop} (c:∀ w,I w->A w∧B w) (h:G') (s:(∀ w,I w->A w∧B w)->Bu G'->G:=by
 intro c h;refine uI rfl λw hF=>?_;obtain⟨hcv,hce⟩:=c w hF;refine goes_oper_k rfl rfl (by k_ne) (λK hK=>?_)
 go_simp
 refine hK _ _ ⟨NoE.n λe he=>?_,?_⟩
 ·have hm:=mem_listed he;simp[go_sem,hce] at hm
 clear hK K hcv hce;exact GA.a (Bu.h h) hF):G:=s c ⟨h⟩
instance {ty:TypeId} {Wg:Nat}:KpR (WgLive ty Wg) (RL ty Wg):=⟨λh r=>wl h r⟩
instance {Wg:Nat}:NoE (DS Wg):=⟨λh=>ds_none h⟩
section
variable [Payload] {L:WgLink} {Wg:Nat} {End:Goroutine->World->Prop} {b₀:Frame} {a₀:Act} {ops₀:Array Oper} {i₀:Nat} {rest₀:List Nat} {k₀:List Item} {cs:List Frame}
def add_goes {P:Program} (H:WgLib P L) (hT:∀ w,WgLive L.tWg Wg w->End (G (b₀.at (a₀.put ((ops₀[i₀]?).bind (·.dst)) (.tuple #[])) (.inRegion ops₀ rest₀::k₀)) cs) w) (w:World) (hF:WgLive L.tWg Wg w) :
  Goes P true (RL L.tWg Wg) (DS Wg) (GKd P L.tWg Wg End) 12 (G ((Go.Conc.base L.add).at ⟨#[.pointer (some ⟨Wg,0,none⟩),.int .i64 1]++Array.replicate 115 undef,[]⟩ [.code (body_add L)]) (b₀.at a₀ (.inRegion ops₀ (i₀::rest₀)::k₀)::cs)) w:=by
 refine GA.a ?_ hF;clear hF w
 lib_facts
 simp only[body_add,addFn,Option.getD_some]
 walk_nrm
 refine uQ ?_;refine uT ?_;refine uQ ?_;refine uQ ?_;refine uR ?_;iterate 2 refine uO ?_
 refine uE ?_;refine uF ?_;refine uC stepG_skip ?_;refine uQ ?_;refine uR ?_;refine uS λw hF=>?_;refine⟨rfl,_,stepG_mark0 .disable (by simp) rfl rfl (by k_ne) rfl H.f_disable (x_disable_n L) (x_disable_b L) (x_disable_x L) (x_disable_f L),40,?_⟩;refine GA.a ?_ hF;clear hF w
 walk_nrm
 refine uE ?_;refine uR ?_;refine uC (stepG_defer rfl rfl (by k_ne) rfl) ?_
 walk_nrm
 refine uE ?_;refine uQ ?_;refine uR ?_;refine uO ?_;refine uE ?_;refine uQ ?_;refine uQ ?_;refine uR ?_;refine uC (stepG_entry_pure (.bool false) rfl rfl (by k_ne) rfl H.f_inBubble (x_inBubble_n L) (x_inBubble_b L) (x_inBubble_x L) (x_inBubble_f L)) ?_
 walk_nrm
 refine uE ?_;refine uF ?_;refine uC stepG_skip ?_;refine uQ ?_;refine uR ?_;iterate 6 refine uO ?_
 refine uI rfl λw hF=>goes_call rfl rfl (by k_ne) rfl H.f_uAdd (nm_uAdd L) rfl ⟨dz,GA.a ?_ hF⟩
 walk_nrmf uAddFn
 refine uQ ?_;refine uR ?_;refine uO ?_;refine uE ?_;refine uQ ?_;refine uR ?_;iterate 4 refine uO ?_
 refine uS λw₂ hF=>?_;refine⟨rfl,λv hv hw=>?_⟩;rcases Nat.eq_zero_or_pos v with rfl|hvp
 ·replace hw:WgAt L.tWg Wg w₂ 0 0:=by simpa using hw
  have z:(((0:Nat):Int)+1)*KK=KK:=by simp
  rw[z];have e0:IntKind.u64.wrap (0+4294967296)=KK:=qd;refine⟨_,(stepG_add_atomic rfl rfl (by k_ne) rfl H.f_addU64 (x_addU64_n L) (x_addU64_b L) (x_addU64_x L) .u64 (x_addU64_f L) rfl rfl hw.cellSt (hw.thaw 0)).trans (by rw[e0];rfl),110,?_⟩
  replace hF:WgLive L.tWg Wg (w₂.setCell (stA Wg) (.int .u64 KK)):=⟨_,_,hw.setSt _⟩
  clear hw;refine GA.a ?_ hF;clear hF w₂;simp only[KK] at ⊢
  walk_nrm
  refine uO ?_;refine uE ?_;refine uC stepG_ret' ?_;refine uI rfl λw hF=>goes_leave1 rfl rfl H.f_uAdd rfl ⟨dz,GA.a ?_ hF⟩
  walk_nrm
  refine uO ?_;refine uE ?_;refine uQ ?_;refine uQ ?_;refine uR ?_;iterate 4 refine uO ?_
  iterate 2 refine uK ?_
  refine uO ?_;refine uE ?_;refine uF ?_;refine uC stepG_skip ?_;refine uQ ?_;refine uR ?_;iterate 4 refine uO ?_
  refine uE ?_;refine uQ ?_;refine uR ?_;iterate 4 refine uO ?_
  refine uE ?_;refine uQ ?_;refine uQ ?_;refine uR ?_;iterate 10 refine uO ?_
  refine uE ?_;refine uT ?_;refine uR ?_;iterate 3 refine uO ?_
  refine uV (λw hF=>⟨run_convert_to_unsafe (P:=P) H.underlying_tPU32 H.underlying_tUP H.room_tU32 (WgLive.cell1 hF).choose_spec,λes=>events_convert_to_unsafe (P:=P) H.underlying_tPU32 H.underlying_tUP H.room_tU32 (WgLive.cell1 hF).choose_spec es⟩) ?_;refine uI rfl λw hF=>?_;rw[stepG_markAt .read (by simp) rfl rfl (by k_ne) rfl H.f_raceRead (x_raceRead_n L) (x_raceRead_b L) (x_raceRead_x L) (x_raceRead_f L) (ad:=⟨Wg,1,none⟩) (by simp[Act.eval])];simp only[goes_go];refine⟨⟨rfl,λe he=>?_⟩,?_⟩
  ·rw[Array.mem_singleton] at he;subst he;exact .inl rfl
  refine GA.a ?_ hF;clear hF w
  walk_nrm
  refine uE ?_;refine uQ ?_;refine uQ ?_;refine uR ?_;iterate 2 refine uO ?_
  refine uE ?_;refine uF ?_;refine uC stepG_skip ?_;refine uQ ?_;refine uQ ?_;refine uR ?_;iterate 3 refine uO ?_
  iterate 2 refine uK ?_
  iterate 2 refine uO ?_
  iterate 4 refine uK ?_
  refine uO ?_;refine uE ?_;refine uF ?_;refine uC stepG_skip ?_;refine uQ ?_;refine uQ ?_;refine uR ?_;iterate 3 refine uO ?_
  iterate 2 refine uK ?_
  refine uO ?_;refine uE ?_;refine uT ?_;refine uC stepG_ret' ?_;refine uS λw₃ hF=>?_;refine⟨rfl,_,stepG_unwind_entry (v:=.tuple #[]) (evs:=#[mk .enable]) rfl H.f_enable (x_enable_n L) (x_enable_b L) (x_enable_x L) (x_enable_f L) (by simp[Extern.Race.none_]) (by simp[mk]) (by simp[mk]),1,?_⟩;refine GA.a ?_ hF;clear hF w₃;refine uI rfl λw hF=>goes_leave0 rfl rfl H.f_add rfl ⟨dz,GA.a ?_ hF⟩
  walk_nrm
  exact uS λw₄ h₄=>hT w₄ h₄
 ·obtain⟨V,hV⟩:∃ V:Int,V=(v:Int)+1:=⟨_,rfl⟩
  obtain⟨S,hS⟩:∃ S:Int,S=V*KK:=⟨_,rfl⟩
  have eS:IntKind.u64.wrap ((v:Int)*KK+4294967296)=S:=by rw[IntKind.wrap_u64,hS,hV];simp only[KK];omega
  rw[<-hV,<-hS];have a1:S / 4294967296=V:=by rw[hS];simp only[KK];omega
  have b1:bits .and .u64 S 2147483648=0:=by rw[hS,hV];have:=st_flag (v+1) 0 qo qo;simpa [KK] using this
  have b2:bits .and .u64 S 2147483647=0:=by rw[hS,hV];have:=st_waiters (v+1) 0 qo qo;simpa [KK] using this
  have c1:IntKind.i32.wrap V=V:=by rw[IntKind.wrap_i32];omega
  have hV1:1 < V:=qo;have hV2:V < 2147483648:=qo;have q1:(V == 1)=false:=by simp;omega
  have q2:decide (V=1)=false:=decide_eq_false qo;have q3:decide (V < 0)=false:=decide_eq_false qo;have q4:decide (0 < V)=true:=decide_eq_true qo;have q5:(V == 0)=false:=by simp;omega
  have q6:decide (V=0)=false:=decide_eq_false qo;refine⟨_,(stepG_add_atomic rfl rfl (by k_ne) rfl H.f_addU64 (x_addU64_n L) (x_addU64_b L) (x_addU64_x L) .u64 (x_addU64_f L) rfl rfl hw.cellSt (hw.thaw 0)).trans (by rw[eS];rfl),110,?_⟩
  replace hF:WgLive L.tWg Wg (w₂.setCell (stA Wg) (.int .u64 S)):=⟨_,_,hw.setSt _⟩
  clear hw hS hV eS;refine GA.a ?_ hF;clear hF w₂
  walk_nrm
  refine uO ?_;refine uE ?_;refine uC stepG_ret' ?_;refine uI rfl λw hF=>goes_leave1 rfl rfl H.f_uAdd rfl ⟨dz,GA.a ?_ hF⟩
  walk_nrm
  refine uO ?_;refine uE ?_;refine uQ ?_;refine uQ ?_;refine uR ?_;iterate 4 refine uO ?_
  iterate 2 refine uK ?_
  refine uO ?_;refine uE ?_;refine uF ?_;refine uC stepG_skip ?_;refine uQ ?_;refine uR ?_;iterate 4 refine uO ?_
  refine uE ?_;refine uQ ?_;refine uR ?_;iterate 4 refine uO ?_
  refine uE ?_;refine uQ ?_;refine uQ ?_;refine uR ?_;iterate 10 refine uO ?_
  refine uE ?_;refine uF ?_;refine uC stepG_skip ?_;refine uQ ?_;refine uQ ?_;refine uR ?_;iterate 2 refine uO ?_
  refine uE ?_;refine uF ?_;refine uC stepG_skip ?_;refine uQ ?_;refine uQ ?_;refine uR ?_;iterate 3 refine uO ?_
  iterate 2 refine uK ?_
  iterate 2 refine uO ?_
  iterate 4 refine uK ?_
  refine uO ?_;refine uE ?_;refine uF ?_;refine uC stepG_skip ?_;refine uQ ?_;refine uQ ?_;refine uR ?_;iterate 3 refine uO ?_
  iterate 2 refine uK ?_
  refine uO ?_;refine uE ?_;refine uT ?_;refine uC stepG_ret' ?_;refine uS λw₃ hF=>?_;refine⟨rfl,_,stepG_unwind_entry (v:=.tuple #[]) (evs:=#[mk .enable]) rfl H.f_enable (x_enable_n L) (x_enable_b L) (x_enable_x L) (x_enable_f L) (by simp[Extern.Race.none_]) (by simp[mk]) (by simp[mk]),1,?_⟩;refine GA.a ?_ hF;clear hF w₃;refine uI rfl λw hF=>goes_leave0 rfl rfl H.f_add rfl ⟨dz,GA.a ?_ hF⟩
  walk_nrm
  exact uS λw₄ h₄=>hT w₄ h₄
end
end W
section
open Go.RowKit
open Go.Conc hiding base G
open Go.ConcN
open Go.ConcR (KK WgAt stA smA rd wr mk Payload DC0)
namespace W
def TailW (P:Program) (End:Goroutine->World->Prop) (g:Goroutine) (w:World):Prop:=∃ m,Goes P true (λ_ _=>True) DC0 End m g w
section
variable (P:Program) (ty:TypeId) (Wg:Nat) (End Anch:Goroutine->World->Prop)
def HAcq (g:Goroutine) (w:World):Prop:=g.status=.running∧∃ g',stepG P true g w=.go g' w #[mk (.acquire (stA Wg))]∧TailW P End g' w
def HKe (g:Goroutine) (w:World):Prop:=g.status=.running∧∃ g',stepG P true g w=.go g' w #[mk .enable]∧∃ m,Goes P true (RL ty Wg) (DS Wg) (HAcq P Wg End) m g' w
def HW4 (g:Goroutine) (w:World):Prop:=g.status=.running∧(WgAt ty Wg w 0 0->∃ g',stepG P true g w=.go g' w #[rd (stA Wg)]∧∃ m,Goes P true (RL ty Wg) (DS Wg) (HKe P ty Wg End) m g' w)
def HW3 (g:Goroutine) (w:World):Prop:=g.status=.running∧g.offers=none∧((∃ st,WgAt ty Wg w st 0)->stepG P true g w=.go {g with status:=.blocked} w #[])∧
 (WgAt ty Wg w 0 1->∃ g',stepG P true g w=.go g' (w.setCell (smA Wg) (.int .u32 0)) (semEvents (smA Wg))∧∃ m,Goes P true (RL ty Wg) (DS Wg) (HW4 P ty Wg End) m g' (w.setCell (smA Wg) (.int .u32 0)))
def HW2 (vs:Nat) (g:Goroutine) (w:World):Prop:=g.status=.running∧∀ v:Nat,v < 2147483648->WgAt ty Wg w (v*KK) 0->
 (v=vs->∃ g',stepG P true g w=.go g' (w.setCell (stA Wg) (.int .u64 (v*KK+1))) #[rd (stA Wg),wr (stA Wg)]∧∃ m,Goes P true (RL ty Wg) (DS Wg) (HW3 P ty Wg End) m g' (w.setCell (stA Wg) (.int .u64 (v*KK+1))))∧
 (v≠vs->∃ g',stepG P true g w=.go g' w #[rd (stA Wg)]∧∃ m,Goes P true (RL ty Wg) (DS Wg) Anch m g' w)
def HW1 (g:Goroutine) (w:World):Prop:=g.status=.running∧∀ v:Nat,v < 2147483648->WgAt ty Wg w (v*KK) 0->∃ g',stepG P true g w=.go g' w #[rd (stA Wg)]∧
 (v=0->∃ m,Goes P true (RL ty Wg) (DS Wg) (HKe P ty Wg End) m g' w)∧(v≠0->∃ m,Goes P true (RL ty Wg) (DS Wg) (HW2 P ty Wg End Anch v) m g' w)
def HKd (g:Goroutine) (w:World):Prop:=g.status=.running∧∃ g',stepG P true g w=.go g' w #[mk .disable]∧∃ m,Goes P true (RL ty Wg) (DS Wg) Anch m g' w
end
end W
end
namespace W
open Go.Conc Go.ConcN Go.RowKit Go.Conc.Lib Go.ConcR.Gen Go.ConcN.Gen
open Go.ConcR (KK WgAt stA smA rd wr mk Payload)
def tl (_:True) (_:True):True:=trivial
def Anc (L:WgLink) (Wg:Nat) (c:Frame) (cs:List Frame) (g:Goroutine) (w:World):Prop:=
 ∃ T:Array Value,g=G ((Go.Conc.base L.wait).at ⟨T,[]⟩ [.code (L7 L),.inLoop (L7 L),.inBlock 0]) (c::cs)∧T.size=84∧T[0]?=some (.pointer (some ⟨Wg,0,none⟩))∧WgLive L.tWg Wg w
section
variable [Payload] {L:WgLink} {Wg:Nat} {End:Goroutine->World->Prop} {b₀:Frame} {a₀:Act} {ops₀:Array Oper} {i₀:Nat} {rest₀:List Nat} {k₀:List Item} {cs:List Frame}
def wait_start {P:Program} (H:WgLib P L) (w:World) (hF:WgLive L.tWg Wg w) :
  Goes P true (RL L.tWg Wg) (DS Wg) (HKd P L.tWg Wg (Anc L Wg (b₀.at a₀ (.inRegion ops₀ (i₀::rest₀)::k₀)) cs)) 3 (G ((Go.Conc.base L.wait).at ⟨#[.pointer (some ⟨Wg,0,none⟩)]++Array.replicate 83 undef,[]⟩ [.code (body_wait L)]) (b₀.at a₀ (.inRegion ops₀ (i₀::rest₀)::k₀)::cs)) w:=by
 lib_facts
 simp only[body_wait,waitFn,Option.getD_some];refine GA.a ?_ hF;clear hF
 walk_nrm
 refine uQ ?_;refine uT ?_;refine uR ?_;refine uS λw₁ hF=>?_;refine⟨rfl,_,stepG_mark0 .disable (by simp) rfl rfl (by k_ne) rfl H.f_disable (x_disable_n L) (x_disable_b L) (x_disable_x L) (x_disable_f L),3,?_⟩;refine GA.a ?_ hF;clear hF
 walk_nrm
 refine uE ?_;refine uC stepG_block ?_;refine uC stepG_loop ?_;exact uS λw₂ hF=>⟨_,rfl,by simp,by simp,hF⟩
def wait_round {P:Program} (H:WgLib P L) (hT:∀ w,End (G (b₀.at (a₀.put ((ops₀[i₀]?).bind (·.dst)) (.tuple #[])) (.inRegion ops₀ rest₀::k₀)) cs) w)
  (g:Goroutine) (w:World) (h:Anc L Wg (b₀.at a₀ (.inRegion ops₀ (i₀::rest₀)::k₀)) cs g w) :
  ∃ m,Goes P true (RL L.tWg Wg) (DS Wg) (HW1 P L.tWg Wg End (Anc L Wg (b₀.at a₀ (.inRegion ops₀ (i₀::rest₀)::k₀)) cs)) m g w:=by
 lib_facts
 obtain⟨T,rfl,hT84,t0,hF⟩:=h;obtain⟨v0,v1,v2,v3,v4,v5,v6,v7,v8,v9,v10,v11,v12,v13,v14,v15,v16,v17,v18,v19,v20,v21,v22,v23,v24,v25,v26,v27,v28,v29,v30,v31,v32,v33,v34,v35,v36,v37,v38,v39,v40,v41,v42,v43,v44,v45,v46,v47,v48,v49,v50,v51,v52,v53,v54,v55,v56,v57,v58,v59,v60,v61,v62,v63,v64,v65,v66,v67,v68,v69,v70,v71,v72,v73,v74,v75,v76,v77,v78,v79,v80,v81,v82,v83,rfl⟩:=array84 T hT84;have hX:True:=trivial;simp only[List.getElem?_toArray,List.getElem?_cons_zero,Option.some.injEq] at t0;subst t0;refine⟨30,?_⟩;refine GA.a ?_ hF;clear hF;simp only[L7,body_wait,waitFn,Option.getD_some];refine uC stepG_block ?_;refine uQ ?_;refine uR ?_;iterate 3 refine uO ?_
 refine uI rfl λw hF=>goes_call rfl rfl (by k_ne) rfl H.f_uLoad (nm_uLoad L) rfl ⟨dz,GA.a ?_ hF⟩
 walk_nrmf uLoadFn
 refine uQ ?_;refine uR ?_;refine uO ?_;refine uE ?_;refine uQ ?_;refine uR ?_;iterate 3 refine uO ?_
 refine uS λw₁ hF=>?_;refine⟨rfl,λv hv hw=>?_⟩;rcases Nat.eq_zero_or_pos v with rfl|hvp
 ·replace hw:WgAt L.tWg Wg w₁ 0 0:=by simpa using hw
  refine⟨_,stepG_load_atomic (v:=0) rfl rfl (by k_ne) rfl H.f_loadU64 (x_loadU64_n L) (x_loadU64_b L) (x_loadU64_x L) .u64 (x_loadU64_f L) rfl hw.cellSt,λ_=>⟨70,?_⟩,λh=>absurd rfl h⟩;clear hw;refine GA.a ?_ hF;clear hF
  walk_nrm
  refine uO ?_;refine uE ?_;refine uC stepG_ret' ?_;refine uI rfl λw hF=>goes_leave1 rfl rfl H.f_uLoad rfl ⟨dz,GA.a ?_ hF⟩
  walk_nrm
  refine uO ?_;refine uE ?_;refine uQ ?_;refine uR ?_;iterate 4 refine uO ?_
  refine uE ?_;refine uQ ?_;refine uR ?_;iterate 4 refine uO ?_
  refine uE ?_;refine uQ ?_;refine uQ ?_;refine uR ?_;iterate 2 refine uO ?_
  refine uE ?_;refine uT ?_;refine uQ ?_;refine uT ?_;refine uQ ?_;refine uR ?_;refine uS λw₅ hF=>?_;refine⟨rfl,_,stepG_mark0 .enable (by simp) rfl rfl (by k_ne) rfl H.f_enable (x_enable_n L) (x_enable_b L) (x_enable_x L) (x_enable_f L),12,?_⟩;refine GA.a ?_ hF;clear hF
  walk_nrm
  refine uE ?_;refine uR ?_;refine uO ?_;refine uV (λw hF=>⟨run_convert_to_unsafe (P:=P) H.underlying_tWgP H.underlying_tUP H.room_tWg (WgLive.cell0 hF).choose_spec,λes=>events_convert_to_unsafe (P:=P) H.underlying_tWgP H.underlying_tUP H.room_tWg (WgLive.cell0 hF).choose_spec es⟩) ?_;refine uS λw₆ hF=>?_;refine⟨rfl,_,stepG_markAt .acquire (by simp) rfl rfl (by k_ne) rfl H.f_acquire (x_acquire_n L) (x_acquire_b L) (x_acquire_x L) (x_acquire_f L) (by simp[Act.eval,stA]),60,?_⟩
  walk_nrm
  u_c stepG_region_end tl hX
  u_c stepG_seq tl hX
  u_c stepG_seq tl hX
  u_reg tl hX
  u_op tl hX
  u_op tl hX
  u_op tl hX
  u_op tl hX
  u_op tl hX
  u_op tl hX
  u_op tl hX
  u_op tl hX
  u_skip tl hX
  u_skip tl hX
  u_op tl hX
  u_c stepG_region_end tl hX
  u_cond false tl hX
  u_c stepG_skip tl hX
  u_c stepG_ret' tl hX
  u_leave0 H.f_wait tl hX
  exact Goes.stop λw₇ _=>hT w₇
 ·obtain⟨S,hS⟩:∃ S:Int,(v:Int)*KK=S:=⟨_,rfl⟩
  have a1:S / 4294967296=(v:Int):=by rw[<-hS];simp only[KK];omega
  have b1:bits .and .u64 S 2147483648=0:=by rw[<-hS];have:=st_flag v 0 qo qo;simpa [KK] using this
  have b2:bits .and .u64 S 2147483647=0:=by rw[<-hS];have:=st_waiters v 0 qo qo;simpa [KK] using this
  have c1:IntKind.i32.wrap (v:Int)=(v:Int):=by rw[IntKind.wrap_i32];omega
  have w1:IntKind.u64.wrap (S+1)=S+1:=by rw[IntKind.wrap_u64,<-hS];simp only[KK];omega
  have q3:decide ((v:Int) < 0)=false:=decide_eq_false qo;have q4:decide (0 < (v:Int))=true:=decide_eq_true qo;have q5:((v:Int) == 0)=false:=by simp;omega
  have q6:decide ((v:Int)=0)=false:=decide_eq_false qo;rw[hS] at hw;refine⟨_,stepG_load_atomic (v:=S) rfl rfl (by k_ne) rfl H.f_loadU64 (x_loadU64_n L) (x_loadU64_b L) (x_loadU64_x L) .u64 (x_loadU64_f L) rfl hw.cellSt,λh0=>absurd h0 qo,λ_=>⟨60,?_⟩⟩;clear hw;refine GA.a ?_ hF;clear hF
  walk_nrm
  refine uO ?_;refine uE ?_;refine uC stepG_ret' ?_;refine uI rfl λw hF=>goes_leave1 rfl rfl H.f_uLoad rfl ⟨dz,GA.a ?_ hF⟩
  walk_nrm
  refine uO ?_;refine uE ?_;refine uQ ?_;refine uR ?_;iterate 4 refine uO ?_
  refine uE ?_;refine uQ ?_;refine uR ?_;iterate 4 refine uO ?_
  refine uE ?_;refine uQ ?_;refine uQ ?_;refine uR ?_;iterate 2 refine uO ?_
  refine uE ?_;refine uF ?_;refine uC stepG_skip ?_;refine uQ ?_;refine uR ?_;iterate 6 refine uO ?_
  refine uI rfl λw hF=>goes_call rfl rfl (by k_ne) rfl H.f_uCas (nm_uCas L) rfl ⟨dz,GA.a ?_ hF⟩
  walk_nrmf uCasFn
  refine uQ ?_;refine uR ?_;refine uO ?_;refine uE ?_;refine uQ ?_;refine uR ?_;iterate 5 refine uO ?_
  refine uS λw₂ hF=>?_;refine⟨rfl,λv' hv' hw=>⟨λe=>?_,λe=>?_⟩⟩
  ·subst e;rw[hS] at hw ⊢;refine⟨_,(stepG_cas_hit (v:=S) (n:=S+1) rfl rfl (by k_ne) rfl H.f_casU64 (x_casU64_n L) (x_casU64_b L) (x_casU64_x L) .u64 (x_casU64_f L) rfl rfl rfl hw.cellSt (hw.thaw 0)).trans (by rfl),70,?_⟩
   replace hF:WgLive L.tWg Wg (w₂.setCell (stA Wg) (.int .u64 (S+1))):=⟨_,_,hw.setSt _⟩
   clear hw;refine GA.a ?_ hF;clear hF
   walk_nrm
   refine uO ?_;refine uE ?_;refine uC stepG_ret' ?_;refine uI rfl λw hF=>goes_leave1 rfl rfl H.f_uCas rfl ⟨dz,GA.a ?_ hF⟩
   walk_nrm
   refine uE ?_;refine uT ?_;refine uQ ?_;refine uQ ?_;refine uR ?_;iterate 4 refine uO ?_
   refine uE ?_;refine uT ?_;refine uR ?_;iterate 3 refine uO ?_
   refine uV (λw hF=>⟨run_convert_to_unsafe (P:=P) H.underlying_tPU32 H.underlying_tUP H.room_tU32 (WgLive.cell1 hF).choose_spec,λes=>events_convert_to_unsafe (P:=P) H.underlying_tPU32 H.underlying_tUP H.room_tU32 (WgLive.cell1 hF).choose_spec es⟩) ?_;refine uI rfl λw hF=>?_;rw[stepG_markAt .write (by simp) rfl rfl (by k_ne) rfl H.f_raceWrite (x_raceWrite_n L) (x_raceWrite_b L) (x_raceWrite_x L) (x_raceWrite_f L) (ad:=⟨Wg,1,none⟩) (by simp[Act.eval] <;> rfl)];simp only[goes_go];refine⟨⟨rfl,λex hex=>?_⟩,?_⟩
   ·rw[Array.mem_singleton] at hex;subst hex;exact .inr rfl
   refine GA.a ?_ hF;clear hF
   walk_nrm
   refine uE ?_;refine uQ ?_;refine uR ?_;refine uO ?_;refine uE ?_;refine uQ ?_;refine uQ ?_;refine uR ?_;iterate 4 refine uO ?_
   refine uK ?_;refine uO ?_;refine uE ?_;refine uF ?_;refine uC stepG_skip ?_;refine uQ ?_;refine uR ?_;iterate 4 refine uO ?_
   refine uS λw₃ hF=>?_;refine⟨rfl,rfl,λ⟨st,hw⟩=>stepG_semacquire_wait rfl rfl rfl H.f_semacquire (x_semacquire_n L) (x_semacquire_b L) (x_semacquire_x L) (x_semacquire_f L) (by simp[Act.eval,smA]) hw.cellSm,λhf=>?_⟩;refine⟨_,(stepG_semacquire (n:=1) rfl rfl (by k_ne) rfl H.f_semacquire (x_semacquire_n L) (x_semacquire_b L) (x_semacquire_x L) (x_semacquire_f L) (by simp[Act.eval,smA]) hf.cellSm (by k_ne) (hf.thaw 1)).trans (by rfl),30,?_⟩
   replace hF:WgLive L.tWg Wg (w₃.setCell (smA Wg) (.int .u32 0)):=⟨_,_,hf.setSm 0⟩
   clear hf;refine GA.a ?_ hF;clear hF
   walk_nrm
   refine uE ?_;refine uQ ?_;refine uR ?_;iterate 3 refine uO ?_
   refine uI rfl λw hF=>goes_call rfl rfl (by k_ne) rfl H.f_uLoad (nm_uLoad L) rfl ⟨dz,GA.a ?_ hF⟩
   walk_nrmf uLoadFn
   refine uQ ?_;refine uR ?_;refine uO ?_;refine uE ?_;refine uQ ?_;refine uR ?_;iterate 3 refine uO ?_
   refine uS λw₄ hF=>?_;refine⟨rfl,λhw=>⟨_,stepG_load_atomic (v:=0) rfl rfl (by k_ne) rfl H.f_loadU64 (x_loadU64_n L) (x_loadU64_b L) (x_loadU64_x L) .u64 (x_loadU64_f L) rfl hw.cellSt,30,?_⟩⟩;clear hw;refine GA.a ?_ hF;clear hF
   walk_nrm
   refine uO ?_;refine uE ?_;refine uC stepG_ret' ?_;refine uI rfl λw hF=>goes_leave1 rfl rfl H.f_uLoad rfl ⟨dz,GA.a ?_ hF⟩
   walk_nrm
   iterate 2 refine uO ?_
   refine uE ?_;refine uQ ?_;refine uT ?_;refine uQ ?_;refine uR ?_;refine uS λw₅ hF=>?_;refine⟨rfl,_,stepG_mark0 .enable (by simp) rfl rfl (by k_ne) rfl H.f_enable (x_enable_n L) (x_enable_b L) (x_enable_x L) (x_enable_f L),12,?_⟩;refine GA.a ?_ hF;clear hF
   walk_nrm
   refine uE ?_;refine uR ?_;refine uO ?_;refine uV (λw hF=>⟨run_convert_to_unsafe (P:=P) H.underlying_tWgP H.underlying_tUP H.room_tWg (WgLive.cell0 hF).choose_spec,λes=>events_convert_to_unsafe (P:=P) H.underlying_tWgP H.underlying_tUP H.room_tWg (WgLive.cell0 hF).choose_spec es⟩) ?_;refine uS λw₆ hF=>?_;refine⟨rfl,_,stepG_markAt .acquire (by simp) rfl rfl (by k_ne) rfl H.f_acquire (x_acquire_n L) (x_acquire_b L) (x_acquire_x L) (x_acquire_f L) (by simp[Act.eval,stA]),60,?_⟩
   walk_nrm
   u_c stepG_region_end tl hX
   u_c stepG_seq tl hX
   u_c stepG_seq tl hX
   u_reg tl hX
   u_op tl hX
   u_c stepG_region_end tl hX
   u_cond false tl hX
   u_c stepG_skip tl hX
   u_c stepG_ret' tl hX
   u_leave0 H.f_wait tl hX
   exact Goes.stop λw₇ _=>hT w₇
  ·refine⟨_,stepG_cas_miss (v:=(v':Int)*KK) (old:=S) (n:=S+1) rfl rfl (by k_ne) rfl H.f_casU64 (x_casU64_n L) (x_casU64_b L) (x_casU64_x L) .u64 (x_casU64_f L) rfl rfl rfl hw.cellSt (hw.thaw 0) (by rw[<-hS];simp only[KK];omega),20,?_⟩;clear hw;refine GA.a ?_ hF;clear hF
   walk_nrm
   refine uO ?_;refine uE ?_;refine uC stepG_ret' ?_;refine uI rfl λw hF=>goes_leave1 rfl rfl H.f_uCas rfl ⟨dz,GA.a ?_ hF⟩
   walk_nrm
   refine uE ?_;refine uF ?_;refine uC stepG_skip ?_;refine uC stepG_inBlock ?_;refine uC stepG_inLoop ?_;refine uS λw₃ hF=>?_;exact⟨_,rfl,by simp,by simp,hF⟩
end
end W
section
open Go.RowKit
open Go.Conc hiding base
open Go.ConcN
open Go.ConcR (KK WgAt stA smA rd wr mk Payload DC0)
open Go.Conc.Lib (WgLink WgLib)
namespace W
section
variable {P:Program} {main:Md} {sh:Bk} {Stop Stop':GSt} {own:Bk} {g:Goroutine} {w:World}
def Run.mono (h:Run P main sh Stop own g w) (hk:∀ own g w,Stop own g w->Stop' own g w):Run P main sh Stop' own g w:=by
 induction h with
 |stop h=>exact .stop λw1 h1=>hk _ _ _ (h w1 h1)
 |step g' w' es own' h1 h2 _ ih=>exact .step g' w' es own' h1 h2 ih
 |stroke K h1 h2 _ ih=>exact .stroke K h1 h2 ih
end
section
variable {P:Program} {ty:TypeId} {Wg:Nat} {S0 own:Bk} {Q:World->Prop} {X:Goroutine->World->Prop} {Y Next:GSt}
structure XA (Wg:Nat) (S0 own:Bk) (Q:World->Prop):Prop where
 rely:∀ w w1,Q w->Rly own S0 w w1->Q w1
 st:∀ w v,Q w->Q (w.setCell (stA Wg) v)
 sm:∀ w v,Q w->Q (w.setCell (smA Wg) v)
def rly_wg {w w':World} (h:Aside Wg w w') (h1:¬own Wg) (h2:¬S0 Wg):Rly own S0 w w':=
 ⟨⟨h.os,h.tape,h.output⟩,Nat.le_of_eq h.size.symm,λk _ hk=>h.block k λe=>hk.elim (λx=>h1 (e ▸ x)) λx=>h2 (e ▸ x)⟩
def XA.all (h1:¬own Wg) (h2:¬S0 Wg) (K:World->Prop):XA Wg S0 own (λw=>∀ w',Rly own S0 w w'->K w'):=
 ⟨λw w1 h r w' h'=>h w' (r.trans h'),λw v h w' h'=>h w' ((rly_wg (aside_setCell w _ v) h1 h2).trans h'),λw v h w' h'=>h w' ((rly_wg (aside_setCell w _ v) h1 h2).trans h')⟩
def VV (hQ:XA Wg S0 own Q):∀ (m:Nat) (g:Goroutine) (w:World),WgLive ty Wg w->Q w->Goes P true (RL ty Wg) (DS Wg) X m g w->
  Run P (Yd ty Wg) S0 (λown' g w=>own'=own∧Q w∧(WgLive ty Wg w->X g w)∧∃ w0,X g w0) own g w
 |0,g,w,hl,hq,h=>.stop λw1 h1=>⟨rfl,hQ.rely _ _ hq h1,λhi=>h w1 hi,w,h w hl⟩
 |m+1,g,w,hl,hq,h=>by
  rcases h with h|⟨hs,h⟩
  ·exact .stop λw1 h1=>⟨rfl,hQ.rely _ _ hq h1,λhi=>h w1 hi,w,h w hl⟩
  ·refine Run.goF hs λw1 h1 hi=>?_;have h2:=h w1 hi;show ∃ g' w' es own',stepG P true g w1=.go g' w' es∧_;cases hst:stepG P true g w1 with
   |go g' w' es=>
    rw[hst] at h2;obtain⟨⟨rfl,hsd⟩,h3⟩:=h2;exact⟨g',w',es,own,rfl,.inr ⟨rfl,rfl,hsd⟩,VV hQ m g' w' hi (hQ.rely _ _ hq h1) h3⟩
   |_=>rw[hst] at h2;exact h2.elim
def J1 (hQ:XA Wg S0 own Q) {m:Nat} {g:Goroutine} {w:World} (hl:WgLive ty Wg w) (hq:Q w) (h:Goes P true (RL ty Wg) (DS Wg) X m g w) (hk:∀ g w,WgLive ty Wg w->Q w->X g w->Y own g w):MR P ty Wg S0 Y own g w:=
 (VV hQ m g w hl hq h).mono λown' g w ⟨h1,h2,h3,_⟩ hl=>by subst h1;exact hk g w hl h2 (h3 hl)
def mr_end (hQ:XA Wg S0 own Q) {m:Nat} {g G0:Goroutine} {w:World} (hl:WgLive ty Wg w) (hq:Q w) (h:Goes P true (RL ty Wg) (DS Wg) (λg _=>g=G0) m g w) (hk:∀ w,Q w->MR P ty Wg S0 Next own G0 w):MR P ty Wg S0 Next own g w:=
 (VV hQ m g w hl hq h).bind λown' g w ⟨h1,h2,_,w0,h3⟩=>by subst h1;subst h3;exact hk w h2
def live_st {w:World} {v:Int} {st sm:Int} (h:WgAt ty Wg w st sm) [Payload]:WgLive ty Wg (w.setCell (stA Wg) (.int .u64 v)):=⟨_,_,h.setSt _⟩
def live_sm {w:World} {v:Int} {st sm:Int} (h:WgAt ty Wg w st sm) [Payload]:WgLive ty Wg (w.setCell (smA Wg) (.int .u32 v)):=⟨_,_,h.setSm _⟩
def skd_of [Payload] (hQ:XA Wg S0 own Q) {g G0:Goroutine} {w:World} (hk:∀ w,Q w->MR P ty Wg S0 Next own G0 w) (hl:WgLive ty Wg w) (hq:Q w) (h:GKd P ty Wg (λg _=>g=G0) g w):SKd P ty Wg S0 Next own g w:=by
 obtain⟨h1,g',h2,m,h3⟩:=h;refine⟨h1,g',h2,J1 hQ hl hq h3 λg w hl hq h=>?_⟩;obtain⟨h1,h4⟩:=h;refine⟨h1,λv hv hw=>?_⟩;obtain⟨g',h2,m,h3⟩:=h4 v hv hw;refine⟨g',h2,J1 hQ (live_st hw) (hQ.st _ _ hq) h3 λg w hl hq h=>?_⟩;obtain⟨h1,g',h2,m,h3⟩:=h;exact⟨h1,g',h2,mr_end hQ hl hq h3 hk⟩
def add_run [Payload] {L:WgLink} (H:WgLib P L) {b₀:Frame} {a₀:Act} {ops₀:Array Oper} {i₀:Nat} {rest₀:List Nat} {k₀:List Item} {cs:List Frame} (h1:¬own Wg) (h2:¬S0 Wg) {w:World} (hl:WgLive L.tWg Wg w)
  (hk:∀ w',Rly own S0 w w'->MR P L.tWg Wg S0 Next own (G (b₀.at (a₀.put ((ops₀[i₀]?).bind (·.dst)) (.tuple #[])) (.inRegion ops₀ rest₀::k₀)) cs) w') :
  MR P L.tWg Wg S0 (SKd P L.tWg Wg S0 Next) own (G (Frame.enter P L.add #[.pointer (some ⟨Wg,0,none⟩),.int .i64 1] .normal) (b₀.at a₀ (.inRegion ops₀ (i₀::rest₀)::k₀)::cs)) w:=by
 have hQ:=XA.all (Wg:=Wg) h1 h2 (λw'=>MR P L.tWg Wg S0 Next own (G (b₀.at (a₀.put ((ops₀[i₀]?).bind (·.dst)) (.tuple #[])) (.inRegion ops₀ rest₀::k₀)) cs) w');rw[Go.Conc.enter_at (c:=Go.ConcR.Gen.body_add L) _ H.f_add rfl];exact J1 hQ hl hk (add_goes (End:=λg _=>g=G (b₀.at (a₀.put ((ops₀[i₀]?).bind (·.dst)) (.tuple #[])) (.inRegion ops₀ rest₀::k₀)) cs) H (λ_ _=>rfl) w hl) λg w hl hq h=>skd_of hQ (λw hq=>hq w (Rly.refl _ _ _)) hl hq h
variable (P S0) in
def FinW (Kf:GSt):GSt:=λown g w=>∃ G0,TailW P (λg _=>g=G0) g w∧∀ w',Rly own S0 w w'->Kf own G0 w'
variable (S0) in
def AnW (L:WgLink) (Wg:Nat) (Kf:GSt):GSt:=λown g w=>∃ (b₀:Frame) (a₀:Act) (ops₀:Array Oper) (i₀:Nat) (rest₀:List Nat) (k₀:List Item) (cs:List Frame),
 Anc L Wg (b₀.at a₀ (.inRegion ops₀ (i₀::rest₀)::k₀)) cs g w∧¬own Wg∧∀ w',Rly own S0 w w'->Kf own (G (b₀.at (a₀.put ((ops₀[i₀]?).bind (·.dst)) (.tuple #[])) (.inRegion ops₀ rest₀::k₀)) cs) w'
def AnW.running {L:WgLink} {Kf:GSt} {g:Goroutine} {w:World} (h:AnW S0 L Wg Kf own g w):g.status=.running:=by
 obtain⟨_,_,_,_,_,_,_,⟨_,rfl,_⟩,_⟩:=h;rfl
section
variable [Payload] {Kf:GSt} {G0:Goroutine} {AnchW:GSt} {Anch:Goroutine->World->Prop}
def wke_of (hQ:XA Wg S0 own (λw=>∀ w',Rly own S0 w w'->Kf own G0 w')) {g:Goroutine} {w:World} (hl:WgLive ty Wg w) (hq:∀ w',Rly own S0 w w'->Kf own G0 w') (h:HKe P ty Wg (λg _=>g=G0) g w):WKe P ty Wg S0 (FinW P S0 Kf) own g w:=by
 obtain⟨h1,g',h2,m,h3⟩:=h;refine⟨h1,g',h2,J1 hQ hl hq h3 λg w hl hq h=>?_⟩;obtain⟨h1,g',h2,h3⟩:=h;exact⟨h1,g',h2,G0,h3,hq⟩
def ww3_of (hQ:XA Wg S0 own (λw=>∀ w',Rly own S0 w w'->Kf own G0 w')) {g:Goroutine} {w:World} (hl:WgLive ty Wg w) (hq:∀ w',Rly own S0 w w'->Kf own G0 w') (h:HW3 P ty Wg (λg _=>g=G0) g w):WW3 P ty Wg S0 (FinW P S0 Kf) own g w:=by
 obtain⟨h1,h2,h3,h4⟩:=h;refine⟨h1,h2,h3,λhw=>?_⟩;obtain⟨g',h5,m,h6⟩:=h4 hw;refine⟨g',h5,J1 hQ (live_sm hw) (hQ.sm _ _ hq) h6 λg w hl hq h=>?_⟩;obtain⟨h1,h2⟩:=h;refine⟨h1,λhw=>?_⟩;obtain⟨g',h5,m,h6⟩:=h2 hw;exact⟨g',h5,J1 hQ hl hq h6 λg w hl hq h=>wke_of hQ hl hq h⟩
def ww1_of (hQ:XA Wg S0 own (λw=>∀ w',Rly own S0 w w'->Kf own G0 w')) (hA:∀ g w,WgLive ty Wg w->(∀ w',Rly own S0 w w'->Kf own G0 w')->Anch g w->AnchW own g w) {g:Goroutine} {w:World} (hl:WgLive ty Wg w) (hq:∀ w',Rly own S0 w w'->Kf own G0 w') (h:HW1 P ty Wg (λg _=>g=G0) Anch g w):WW1 P ty Wg S0 (FinW P S0 Kf) AnchW own g w:=by
 obtain⟨h1,h2⟩:=h;refine⟨h1,λv hv hw=>?_⟩;obtain⟨g',h3,h4,h5⟩:=h2 v hv hw;refine⟨g',h3,λe=>?_,λe=>?_⟩
 ·obtain⟨m,h6⟩:=h4 e;exact J1 hQ hl hq h6 λg w hl hq h=>wke_of hQ hl hq h
 ·obtain⟨m,h6⟩:=h5 e;refine J1 hQ hl hq h6 λg w hl hq h=>?_;obtain⟨h1,h2⟩:=h;refine⟨h1,λv' hv' hw'=>?_⟩;obtain⟨h3,h4⟩:=h2 v' hv' hw';refine⟨λe=>?_,λe=>?_⟩
  ·obtain⟨g',h5,m,h6⟩:=h3 e;exact⟨g',h5,J1 hQ (live_st hw') (hQ.st _ _ hq) h6 λg w hl hq h=>ww3_of hQ hl hq h⟩
  ·obtain⟨g',h5,m,h6⟩:=h4 e;exact⟨g',h5,J1 hQ hl hq h6 hA⟩
def anchor_run {L:WgLink} (H:WgLib P L) (h2:¬S0 Wg) {g:Goroutine} {w:World} (hl:WgLive L.tWg Wg w) (h:AnW S0 L Wg Kf own g w):MR P L.tWg Wg S0 (WW1 P L.tWg Wg S0 (FinW P S0 Kf) (AnW S0 L Wg Kf)) own g w:=by
 obtain⟨b₀,a₀,ops₀,i₀,rest₀,k₀,cs,ha,h1,hq⟩:=h;have hQ:=XA.all (Wg:=Wg) h1 h2 (λw'=>Kf own (G (b₀.at (a₀.put ((ops₀[i₀]?).bind (·.dst)) (.tuple #[])) (.inRegion ops₀ rest₀::k₀)) cs) w');obtain⟨m,hg⟩:=wait_round (End:=λg _=>g=G (b₀.at (a₀.put ((ops₀[i₀]?).bind (·.dst)) (.tuple #[])) (.inRegion ops₀ rest₀::k₀)) cs) H (λ_=>rfl) g w ha;exact J1 hQ hl hq hg λg w hl hq h=>ww1_of hQ (λg w hl hq h=>⟨b₀,a₀,ops₀,i₀,rest₀,k₀,cs,h,h1,hq⟩) hl hq h
def wait_run {L:WgLink} (H:WgLib P L) {b₀:Frame} {a₀:Act} {ops₀:Array Oper} {i₀:Nat} {rest₀:List Nat} {k₀:List Item} {cs:List Frame} (h1:¬own Wg) (h2:¬S0 Wg) {w:World} (hl:WgLive L.tWg Wg w)
  (hk:∀ w',Rly own S0 w w'->Kf own (G (b₀.at (a₀.put ((ops₀[i₀]?).bind (·.dst)) (.tuple #[])) (.inRegion ops₀ rest₀::k₀)) cs) w') :
  MR P L.tWg Wg S0 (WKd P L.tWg Wg S0 (AnW S0 L Wg Kf)) own (G (Frame.enter P L.wait #[.pointer (some ⟨Wg,0,none⟩)] .normal) (b₀.at a₀ (.inRegion ops₀ (i₀::rest₀)::k₀)::cs)) w:=by
 have hQ:=XA.all (Wg:=Wg) h1 h2 (λw'=>Kf own (G (b₀.at (a₀.put ((ops₀[i₀]?).bind (·.dst)) (.tuple #[])) (.inRegion ops₀ rest₀::k₀)) cs) w');rw[Go.Conc.enter_at (c:=Go.ConcR.Gen.body_wait L) _ H.f_wait rfl];refine J1 hQ hl hk (wait_start H w hl) λg w hl hq h=>?_;obtain⟨h3,g',h4,m,h5⟩:=h;exact⟨h3,g',h4,J1 hQ hl hq h5 λg w hl hq h=>⟨b₀,a₀,ops₀,i₀,rest₀,k₀,cs,h,h1,hq⟩⟩
end
end
end W
end
section
open Go.RowKit
open Go.Conc hiding base
open Go.ConcN
open Go.ConcR (KK WgAt stA smA rd wr mk Payload DC0)
open Go.Conc.Lib (WgLink WgLib)
namespace W
section
variable {P:Program}
noncomputable def U9 (P:Program):Frame:={(default:Frame) with fn:=P.funcs.size,defers:=[],mode:=.panicking [goexitEntry]}
def born_at {f:FuncId} {fn:Func} {c:Code} {capt:Array Value} (hf:P.funcs[f]?=some fn) (hname:(fn.name == "runtime.NumGoroutine")=false) (hb:fn.body=some c) (w:World) :
  stepG P false (born P {target:=.fn (.func f) capt,args:=#[]}) w=.go (G ((baseD f).at {tmps:=capt++Array.replicate (fn.ntmps - capt.size) undef,defers:=[]} [.code c]) [U9 P]) w #[]:=by
 have h1:¬fn.name= "runtime.NumGoroutine":=by simpa using hname
 have h2:=enter_atD (P:=P) capt hf hb;simp[born,stepG,unwind,callDeferred,invoke,callFunc,hf,h1,hb,seen,GStep.after,G,U9];exact h2
def quits_tail {f:FuncId} {fn:Func} (hf:P.funcs[f]?=some fn) (hres:fn.results=#[]) (T:Array Value) (todo:List Item):QuitsD P 2 0 (G {(baseD f).at ⟨T,[]⟩ todo with mode:=.returning} [U9 P]):=by
 refine QuitsD.ctl (g':=G (U9 P) []) rfl (λw=>?_) ?_
 ·simp[G,stepG,unwind,doReturn,results,Frame.at,baseD,U9,hf,hres,seen,GStep.after,goexitEntry]
 refine QuitsD.ctl (g':={G (U9 P) [] with status:=.finished}) rfl (λw=>?_) ⟨rfl,rfl⟩;simp[G,stepG,unwind,U9,goexitEntry,Frame.catches];rfl
def wpR0_defer {main:Md} {sh own:Bk} {Q:Bk->Exit->Act->World->Prop} {a:Act} {w:World} {id f:Nat} {x:Operand} {ats:Array TypeId} {ty:TypeId} {pos:String}
  (h:Q own .normal ⟨a.tmps,dcall f #[a.eval x]::a.defers⟩ w):ZY P main sh (.region id #[{dst:=none,op:=.defer {callee:=.value (.func f),args:=#[x],argTypes:=ats},type:=ty,pos:=pos,after:=#[],guard:=none}] false) Q own a w:=by
 intro b k cs Stop hb hk hc;refine Run.quiet rfl (λ_=>YY) ?_;rw[Frame.atR_of_none hb];refine Run.quiet (g':=G (b.at ⟨a.tmps,dcall f #[a.eval x]::a.defers⟩ (.inRegion #[{dst:=none,op:=.defer {callee:=.value (.func f),args:=#[x],argTypes:=ats},type:=ty,pos:=pos,after:=#[],guard:=none}] []::k)) cs) rfl (λw1=>?_) ?_
 ·have:=stepG_defer (P:=P) (main:=main.b) (b:=b) (a:=a) (k:=k) (cs:=cs) (w:=w1) (i:=0) (rest:=[]) (ops:=#[{dst:=none,op:=.defer {callee:=.value (.func f),args:=#[x],argTypes:=ats},type:=ty,pos:=pos,after:=#[],guard:=none}]) (o:={dst:=none,op:=.defer {callee:=.value (.func f),args:=#[x],argTypes:=ats},type:=ty,pos:=pos,after:=#[],guard:=none}) rfl rfl hk rfl;simpa [Act.put] using this
 ·rw[<-Frame.atR_of_none hb];exact Run.quiet rfl (λ_=>JE) (hc _ _ _ _ h)
end
section
variable [Payload] {P:Program} {p:Ph} {L:WgLink} {own:Bk} {ri:Nat} {X:Goroutine->World->Prop}
def run_rw (hS:p.S0 p.Bx):∀ (m:Nat) (g:Goroutine) (w:World),HG p w->Goes P false (RWb p.ty p.Wg p.Bx) DC0 X m g w->Run P (V5 p ri) p.S0 (λown' g w=>own'=own∧(HG p w->X g w)) own g w:=by
 have hR:∀ w w1,HG p w->Rly own p.S0 w w1->HG p w1->RWb p.ty p.Wg p.Bx w w1:=λw w1 hi hr hi1=>by
  have hlt:p.Bx < w.heap.size:=by
   obtain⟨_,⟨cs,h1,_⟩,_⟩:=hi;exact(Array.getElem?_eq_some_iff.1 h1).1
  exact rw_of (hr.keep p.Bx hlt (.inr hS)) hi1.1
 intro m;induction m with
 |zero=>exact λg w hi h=>.stop λw1 h1=>⟨rfl,λhi1=>h w1 (hR w w1 hi h1 hi1)⟩
 |succ m ih=>
  intro g w hi h;rcases h with h|⟨hs,h⟩
  ·exact .stop λw1 h1=>⟨rfl,λhi1=>h w1 (hR w w1 hi h1 hi1)⟩
  ·refine Run.goF hs λw1 h1 hi1=>?_;have h2:=h w1 (hR w w1 hi h1 hi1);show ∃ g' w' es own',stepG P false g w1=.go g' w' es∧_;cases hst:stepG P false g w1 with
   |go g' w' es=>
    rw[hst] at h2;obtain⟨⟨rfl,rfl⟩,h3⟩:=h2;exact⟨g',w',#[],own,rfl,.inl ⟨XH.idle _ _ _,(Qs (Nat.le_refl _)).symm⟩,ih g' w' hi1 h3⟩
   |_=>rw[hst] at h2;exact h2.elim
def worker_run (H:WgLib P L) (hL:p.ty=L.tWg) (hS:p.S0 p.Bx) {f:FuncId} {fn:Func} {c:Code} {capt:Array Value} (hf:P.funcs[f]?=some fn) (hname:(fn.name == "runtime.NumGoroutine")=false) (hb:fn.body=some c) (hres:fn.results=#[]) {box:Nat} {w:World}
  (hwp:∀ w1,Rly (λk=>k=box) p.S0 w w1->ZY P (V5 p ri) p.S0 c (λown' e a' w'=>(e=.normal∨e=.ret)∧(∀ k,¬own' k)∧a'.defers=[dcall L.done #[.pointer (some ⟨p.Wg,0,none⟩)]]) (λk=>k=box) {tmps:=capt++Array.replicate (fn.ntmps - capt.size) undef,defers:=[]} w1) :
  Wrk P p ri box (born P {target:=.fn (.func f) capt,args:=#[]}) w:=by
 have nmd:((Go.Conc.Lib.doneFn L).name == "runtime.NumGoroutine")=false:=by rfl
 refine Run.go rfl λw1 h1=>⟨_,w1,#[],born_at hf hname hb w1,XH.idle _ _ _,?_⟩
 rw[Qs (Nat.le_refl _),<-Frame.atR_of_none (b:=baseD f) rfl]
 have hend:∀ (own':Bk) (a':Act) (w':World) (todo:List Item),(∀ k,¬own' k)->a'.defers=[dcall L.done #[.pointer (some ⟨p.Wg,0,none⟩)]]->Run P (V5 p ri) p.S0 (SR0 P p) own' (G {(baseD f).at a' todo with mode:=.returning} [U9 P]) w':=λown' a' w' todo ho hd=>by
  refine Run.goF rfl λw2 h2 hi=>?_;have hst:=stepG_unwind_enter (P:=P) (main:=false) (b:=baseD f) (a:=a') (todo:=todo) (cs:=[U9 P]) (w:=w2) (ds:=[]) (c:=Go.ConcR.Gen.body_done L) hd H.f_done nmd rfl;refine⟨_,w2,#[],own',hst,.inl ⟨XH.idle _ _ _,(Qs (Nat.le_refl _)).symm⟩,?_⟩;have hgo:=done_goes (L:=L) (Wg:=p.Wg) (Bx:=p.Bx) (v0:=p.v0) H (c:={(baseD f).at ⟨a'.tmps,[]⟩ todo with mode:=.returning}) (cs:=[U9 P]) rfl (quits_tail hf hres a'.tmps todo) w2 ⟨by rw[<-hL];exact hi.1,hi.2.2.1⟩;rw[<-hL] at hgo;have hrn:=run_rw (p:=p) (ri:=ri) (own:=own') hS 23 _ w2 hi hgo
  have e4:(#[.pointer (some ⟨p.Wg,0,none⟩)]:Array Value)++Array.replicate ((Go.Conc.Lib.doneFn L).ntmps - (#[.pointer (some ⟨p.Wg,0,none⟩)]:Array Value).size) undef=#[.pointer (some ⟨p.Wg,0,none⟩),undef,undef,undef]:=by
   simp[Go.Conc.Lib.doneFn,Array.replicate_succ]
  rw[e4];exact hrn.mono λown2 g w ⟨e,hx⟩=>⟨by subst e;exact ho,hx⟩
 refine hwp w1 h1 (baseD f) [] [U9 P] (SR0 P p) rfl (by simp[baseD]) λown' e a' w' ⟨he,ho,hd⟩=>?_;rcases he with rfl|rfl
 ·exact Run.quiet rfl (λ_=>sg_end rfl) (hend own' a' w' [] ho hd)
 ·exact⟨λ_ todo=>hend own' a' w' todo ho hd,λh=>absurd rfl h⟩
end
end W
end
end Go.Proofs.YtcpaopfdiahnnaaGreat
