/- Lemmas for a law. Conditions: none. -/
import Derived.Test.YtbnobghgnbockaaGreatZf22
import Derived.Conc.DeferLaws
import Derived.Conc.Own2
import Derived.Conc.TokenWalk
set_option linter.all false
set_option maxHeartbeats 32000000
set_option maxRecDepth 100000
namespace Go.Proofs.YtbnobghgnbockaaGreat
section
open Go.RowKit
open Go.Conc hiding base
open Go.ConcN
open Go.ConcR (KK WgAt stA smA rd wr mk Payload DC0)
open Go.Conc.Lib (WgLink WgLib)
namespace W
section
variable {P:Program}{main:Md}{sh:Bk}{Stop Stop':GSt}{own:Bk}{g:Goroutine}{w:World}
def Run.mono(h:Run P main sh Stop own g w)(hk:∀own g w,Stop own g w->Stop' own g w):Run P main sh Stop' own g w:=by
 induction h with
 |stop h=>exact .stop λw1 h1=>hk _ _ _ (h w1 h1)
 |step g' w' es own' h1 h2 _ ih=>exact .step g' w' es own' h1 h2 ih
 |stroke K h1 h2 _ ih=>exact .stroke K h1 h2 ih
end
section
variable {P:Program}{ty:TypeId}{Wg:Nat}{S0 own:Bk}{Q:World->Prop}{X:Goroutine->World->Prop}{Y Next:GSt}
structure Js(Wg:Nat)(S0 own:Bk)(Q:World->Prop):Prop where
 rely:∀w w1,Q w->Rly own S0 w w1->Q w1
 st:∀w v,Q w->Q (w.setCell (stA Wg) v)
 sm:∀w v,Q w->Q (w.setCell (smA Wg) v)
def rly_wg{w w':World}(h:Aside Wg w w')(h1:¬own Wg)(h2:¬S0 Wg):Rly own S0 w w':=
 ⟨⟨h.os,h.tape,h.output⟩,Nat.le_of_eq h.size.symm,λk _ hk=>h.block k λe=>hk.elim (λx=>h1 (e ▸ x)) λx=>h2 (e ▸ x)⟩
def Js.all(h1:¬own Wg)(h2:¬S0 Wg)(K:World->Prop):Js Wg S0 own (λw=>∀w',Rly own S0 w w'->K w'):=
 ⟨λw w1 h r w' h'=>h w' (r.trans h'),λw v h w' h'=>h w' ((rly_wg (aside_setCell w _ v) h1 h2).trans h'),λw v h w' h'=>h w' ((rly_wg (aside_setCell w _ v) h1 h2).trans h')⟩
def U8(hQ:Js Wg S0 own Q):∀(m:Nat) (g:Goroutine) (w:World),WgLive ty Wg w->Q w->Goes P true (RL ty Wg) (DS Wg) X m g w->
  Run P (X1 ty Wg) S0 (λown' g w=>own'=own/\Q w/\(WgLive ty Wg w->X g w)/\∃w0,X g w0) own g w
 |0,g,w,hl,hq,h=>.stop λw1 h1=>⟨rfl,hQ.rely _ _ hq h1,λhi=>h w1 hi,w,h w hl⟩
 |m+1,g,w,hl,hq,h=>by
  rcases h with h|⟨hs,h⟩
  ·exact .stop λw1 h1=>⟨rfl,hQ.rely _ _ hq h1,λhi=>h w1 hi,w,h w hl⟩
  ·refine Run.goF hs λw1 h1 hi=>?_;have h2:=h w1 hi;show ∃g' w' es own',stepG P true g w1=.go g' w' es/\_;cases hst:stepG P true g w1 with
   |go g' w' es=>
    rw[hst] at h2;obtain⟨⟨rfl,hsd⟩,h3⟩:=h2;exact⟨g',w',es,own,rfl,.inr ⟨rfl,rfl,hsd⟩,U8 hQ m g' w' hi (hQ.rely _ _ hq h1) h3⟩
   |_=>rw[hst] at h2;exact h2.elim
def JG(hQ:Js Wg S0 own Q){m:Nat}{g:Goroutine}{w:World}(hl:WgLive ty Wg w)(hq:Q w)(h:Goes P true (RL ty Wg) (DS Wg) X m g w)(hk:∀g w,WgLive ty Wg w->Q w->X g w->Y own g w):MR P ty Wg S0 Y own g w:=
 (U8 hQ m g w hl hq h).mono λown' g w ⟨h1,h2,h3,_⟩ hl=>by subst h1;exact hk g w hl h2 (h3 hl)
def mr_end(hQ:Js Wg S0 own Q){m:Nat}{g G0:Goroutine}{w:World}(hl:WgLive ty Wg w)(hq:Q w)(h:Goes P true (RL ty Wg) (DS Wg) (λg _=>g=G0) m g w)(hk:∀w,Q w->MR P ty Wg S0 Next own G0 w):MR P ty Wg S0 Next own g w:=
 (U8 hQ m g w hl hq h).bind λown' g w ⟨h1,h2,_,w0,h3⟩=>by subst h1;subst h3;exact hk w h2
def live_st{w:World}{v:Int}{st sm:Int}(h:WgAt ty Wg w st sm)[Payload]:WgLive ty Wg (w.setCell (stA Wg) (.int .u64 v)):=⟨_,_,h.setSt _⟩
def live_sm{w:World}{v:Int}{st sm:Int}(h:WgAt ty Wg w st sm)[Payload]:WgLive ty Wg (w.setCell (smA Wg) (.int .u32 v)):=⟨_,_,h.setSm _⟩
def skd_of[Payload](hQ:Js Wg S0 own Q){g G0:Goroutine}{w:World}(hk:∀w,Q w->MR P ty Wg S0 Next own G0 w)(hl:WgLive ty Wg w)(hq:Q w)(h:GKd P ty Wg (λg _=>g=G0) g w):SKd P ty Wg S0 Next own g w:=by
 obtain⟨h1,g',h2,m,h3⟩:=h;refine⟨h1,g',h2,JG hQ hl hq h3 λg w hl hq h=>?_⟩;obtain⟨h1,h4⟩:=h;refine⟨h1,λv hv hw=>?_⟩;obtain⟨g',h2,m,h3⟩:=h4 v hv hw;refine⟨g',h2,JG hQ (live_st hw) (hQ.st _ _ hq) h3 λg w hl hq h=>?_⟩;obtain⟨h1,g',h2,m,h3⟩:=h;exact⟨h1,g',h2,mr_end hQ hl hq h3 hk⟩
def add_run[Payload]{L:WgLink}(H:WgLib P L){b₀:Frame}{a₀:Act}{ops₀:Array Oper}{i₀:Nat}{rest₀:List Nat}{k₀:List Item}{cs:List Frame}(h1:¬own Wg)(h2:¬S0 Wg){w:World}(hl:WgLive L.tWg Wg w)
  (hk:∀w',Rly own S0 w w'->MR P L.tWg Wg S0 Next own (G (b₀.at (a₀.put ((ops₀[i₀]?).bind (·.dst)) (.tuple #[])) (.inRegion ops₀ rest₀::k₀)) cs) w') :
  MR P L.tWg Wg S0 (SKd P L.tWg Wg S0 Next) own (G (Frame.enter P L.add #[.pointer (some ⟨Wg,0,none⟩),.int .i64 1] .normal) (b₀.at a₀ (.inRegion ops₀ (i₀::rest₀)::k₀)::cs)) w:=by
 have hQ:=Js.all (Wg:=Wg) h1 h2 (λw'=>MR P L.tWg Wg S0 Next own (G (b₀.at (a₀.put ((ops₀[i₀]?).bind (·.dst)) (.tuple #[])) (.inRegion ops₀ rest₀::k₀)) cs) w');rw[Go.Conc.enter_at (c:=Go.ConcR.Gen.body_add L) _ H.f_add rfl];exact JG hQ hl hk (add_goes (End:=λg _=>g=G (b₀.at (a₀.put ((ops₀[i₀]?).bind (·.dst)) (.tuple #[])) (.inRegion ops₀ rest₀::k₀)) cs) H (λ_ _=>rfl) w hl) λg w hl hq h=>skd_of hQ (λw hq=>hq w (Rly.refl _ _ _)) hl hq h
variable (P S0) in
def FinW(Kf:GSt):GSt:=λown g w=>∃G0,TailW P (λg _=>g=G0) g w/\∀w',Rly own S0 w w'->Kf own G0 w'
variable (S0) in
def AnW(L:WgLink)(Wg:Nat)(Kf:GSt):GSt:=λown g w=>∃(b₀:Frame) (a₀:Act) (ops₀:Array Oper) (i₀:Nat) (rest₀:List Nat) (k₀:List Item) (cs:List Frame),
 Anc L Wg (b₀.at a₀ (.inRegion ops₀ (i₀::rest₀)::k₀)) cs g w/\¬own Wg/\∀w',Rly own S0 w w'->Kf own (G (b₀.at (a₀.put ((ops₀[i₀]?).bind (·.dst)) (.tuple #[])) (.inRegion ops₀ rest₀::k₀)) cs) w'
def AnW.running{L:WgLink}{Kf:GSt}{g:Goroutine}{w:World}(h:AnW S0 L Wg Kf own g w):g.status=.running:=by
 obtain⟨_,_,_,_,_,_,_,⟨_,rfl,_⟩,_⟩:=h;rfl
section
variable [Payload]{Kf:GSt}{G0:Goroutine}{AnchW:GSt}{Anch:Goroutine->World->Prop}
def wke_of(hQ:Js Wg S0 own (λw=>∀w',Rly own S0 w w'->Kf own G0 w')){g:Goroutine}{w:World}(hl:WgLive ty Wg w)(hq:∀w',Rly own S0 w w'->Kf own G0 w')(h:HKe P ty Wg (λg _=>g=G0) g w):WKe P ty Wg S0 (FinW P S0 Kf) own g w:=by
 obtain⟨h1,g',h2,m,h3⟩:=h;refine⟨h1,g',h2,JG hQ hl hq h3 λg w hl hq h=>?_⟩;obtain⟨h1,g',h2,h3⟩:=h;exact⟨h1,g',h2,G0,h3,hq⟩
def ww3_of(hQ:Js Wg S0 own (λw=>∀w',Rly own S0 w w'->Kf own G0 w')){g:Goroutine}{w:World}(hl:WgLive ty Wg w)(hq:∀w',Rly own S0 w w'->Kf own G0 w')(h:HW3 P ty Wg (λg _=>g=G0) g w):WW3 P ty Wg S0 (FinW P S0 Kf) own g w:=by
 obtain⟨h1,h2,h3,h4⟩:=h;refine⟨h1,h2,h3,λhw=>?_⟩;obtain⟨g',h5,m,h6⟩:=h4 hw;refine⟨g',h5,JG hQ (live_sm hw) (hQ.sm _ _ hq) h6 λg w hl hq h=>?_⟩;obtain⟨h1,h2⟩:=h;refine⟨h1,λhw=>?_⟩;obtain⟨g',h5,m,h6⟩:=h2 hw;exact⟨g',h5,JG hQ hl hq h6 λg w hl hq h=>wke_of hQ hl hq h⟩
def ww1_of(hQ:Js Wg S0 own (λw=>∀w',Rly own S0 w w'->Kf own G0 w'))(hA:∀g w,WgLive ty Wg w->(∀w',Rly own S0 w w'->Kf own G0 w')->Anch g w->AnchW own g w){g:Goroutine}{w:World}(hl:WgLive ty Wg w)(hq:∀w',Rly own S0 w w'->Kf own G0 w')(h:HW1 P ty Wg (λg _=>g=G0) Anch g w):WW1 P ty Wg S0 (FinW P S0 Kf) AnchW own g w:=by
 obtain⟨h1,h2⟩:=h;refine⟨h1,λv hv hw=>?_⟩;obtain⟨g',h3,h4,h5⟩:=h2 v hv hw;refine⟨g',h3,λe=>?_,λe=>?_⟩
 ·obtain⟨m,h6⟩:=h4 e;exact JG hQ hl hq h6 λg w hl hq h=>wke_of hQ hl hq h
 ·obtain⟨m,h6⟩:=h5 e;refine JG hQ hl hq h6 λg w hl hq h=>?_;obtain⟨h1,h2⟩:=h;refine⟨h1,λv' hv' hw'=>?_⟩;obtain⟨h3,h4⟩:=h2 v' hv' hw';refine⟨λe=>?_,λe=>?_⟩
  ·obtain⟨g',h5,m,h6⟩:=h3 e;exact⟨g',h5,JG hQ (live_st hw') (hQ.st _ _ hq) h6 λg w hl hq h=>ww3_of hQ hl hq h⟩
  ·obtain⟨g',h5,m,h6⟩:=h4 e;exact⟨g',h5,JG hQ hl hq h6 hA⟩
def anchor_run{L:WgLink}(H:WgLib P L)(h2:¬S0 Wg){g:Goroutine}{w:World}(hl:WgLive L.tWg Wg w)(h:AnW S0 L Wg Kf own g w):MR P L.tWg Wg S0 (WW1 P L.tWg Wg S0 (FinW P S0 Kf) (AnW S0 L Wg Kf)) own g w:=by
 obtain⟨b₀,a₀,ops₀,i₀,rest₀,k₀,cs,ha,h1,hq⟩:=h;have hQ:=Js.all (Wg:=Wg) h1 h2 (λw'=>Kf own (G (b₀.at (a₀.put ((ops₀[i₀]?).bind (·.dst)) (.tuple #[])) (.inRegion ops₀ rest₀::k₀)) cs) w');obtain⟨m,hg⟩:=wait_round (End:=λg _=>g=G (b₀.at (a₀.put ((ops₀[i₀]?).bind (·.dst)) (.tuple #[])) (.inRegion ops₀ rest₀::k₀)) cs) H (λ_=>rfl) g w ha;exact JG hQ hl hq hg λg w hl hq h=>ww1_of hQ (λg w hl hq h=>⟨b₀,a₀,ops₀,i₀,rest₀,k₀,cs,h,h1,hq⟩) hl hq h
def wait_run{L:WgLink}(H:WgLib P L){b₀:Frame}{a₀:Act}{ops₀:Array Oper}{i₀:Nat}{rest₀:List Nat}{k₀:List Item}{cs:List Frame}(h1:¬own Wg)(h2:¬S0 Wg){w:World}(hl:WgLive L.tWg Wg w)
  (hk:∀w',Rly own S0 w w'->Kf own (G (b₀.at (a₀.put ((ops₀[i₀]?).bind (·.dst)) (.tuple #[])) (.inRegion ops₀ rest₀::k₀)) cs) w') :
  MR P L.tWg Wg S0 (WKd P L.tWg Wg S0 (AnW S0 L Wg Kf)) own (G (Frame.enter P L.wait #[.pointer (some ⟨Wg,0,none⟩)] .normal) (b₀.at a₀ (.inRegion ops₀ (i₀::rest₀)::k₀)::cs)) w:=by
 have hQ:=Js.all (Wg:=Wg) h1 h2 (λw'=>Kf own (G (b₀.at (a₀.put ((ops₀[i₀]?).bind (·.dst)) (.tuple #[])) (.inRegion ops₀ rest₀::k₀)) cs) w');rw[Go.Conc.enter_at (c:=Go.ConcR.Gen.body_wait L) _ H.f_wait rfl];refine JG hQ hl hk (wait_start H w hl) λg w hl hq h=>?_;obtain⟨h3,g',h4,m,h5⟩:=h;exact⟨h3,g',h4,JG hQ hl hq h5 λg w hl hq h=>⟨b₀,a₀,ops₀,i₀,rest₀,k₀,cs,h,h1,hq⟩⟩
end
end
end W
end
section
open Go.RowKit
open Go.Conc hiding base
open Go.ConcN
open Go.ConcR (KK WgAt stA smA rd wr mk Payload DC0)
open Go.Conc.Lib (WgLink WgLib)
namespace W
section
variable {P:Program}
noncomputable def Up(P:Program):Frame:={(default:Frame) with fn:=P.funcs.size,defers:=[],mode:=.panicking [goexitEntry]}
def born_at {f:FuncId} {fn:Func} {c:Code} {capt:Array Value} (hf:P.funcs[f]?=some fn) (hname:(fn.name == "runtime.NumGoroutine")=false) (hb:fn.body=some c) (w:World) :
  stepG P false (born P {target:=.fn (.func f) capt,args:=#[]}) w=.go (G ((baseD f).at {tmps:=capt++Array.replicate (fn.ntmps-capt.size) undef,defers:=[]} [.code c]) [Up P]) w #[]:=by
 have h1:¬fn.name= "runtime.NumGoroutine":=by simpa using hname
 have h2:=enter_atD (P:=P) capt hf hb;simp[born,stepG,unwind,callDeferred,invoke,callFunc,hf,h1,hb,seen,GStep.after,G,Up];exact h2
def quits_tail{f:FuncId}{fn:Func}(hf:P.funcs[f]?=some fn)(hres:fn.results=#[])(T:Array Value)(todo:List Item):QuitsD P 2 0 (G {(baseD f).at ⟨T,[]⟩ todo with mode:=.returning} [Up P]):=by
 refine QuitsD.ctl (g':=G (Up P) []) rfl (λw=>?_) ?_
 ·simp[G,stepG,unwind,doReturn,results,Frame.at,baseD,Up,hf,hres,seen,GStep.after,goexitEntry]
 refine QuitsD.ctl (g':={G (Up P) [] with status:=.finished}) rfl (λw=>?_) ⟨rfl,rfl⟩;simp[G,stepG,unwind,Up,goexitEntry,Frame.catches];rfl
def wpR0_defer{main:Md}{sh own:Bk}{Q:Bk->Exit->Act->World->Prop}{a:Act}{w:World}{id f:Nat}{x:Operand}{ats:Array TypeId}{ty:TypeId}{pos:String}
  (h:Q own .normal ⟨a.tmps,dcall f #[a.eval x]::a.defers⟩ w):Zj P main sh (.region id #[{dst:=none,op:=.defer {callee:=.value (.func f),args:=#[x],argTypes:=ats},type:=ty,pos:=pos,after:=#[],guard:=none}] false) Q own a w:=by
 intro b k cs Stop hb hk hc;refine Run.quiet rfl (λ_=>Yu) ?_;rw[Frame.atR_of_none hb];refine Run.quiet (g':=G (b.at ⟨a.tmps,dcall f #[a.eval x]::a.defers⟩ (.inRegion #[{dst:=none,op:=.defer {callee:=.value (.func f),args:=#[x],argTypes:=ats},type:=ty,pos:=pos,after:=#[],guard:=none}] []::k)) cs) rfl (λw1=>?_) ?_
 ·have:=stepG_defer (P:=P) (main:=main.b) (b:=b) (a:=a) (k:=k) (cs:=cs) (w:=w1) (i:=0) (rest:=[]) (ops:=#[{dst:=none,op:=.defer {callee:=.value (.func f),args:=#[x],argTypes:=ats},type:=ty,pos:=pos,after:=#[],guard:=none}]) (o:={dst:=none,op:=.defer {callee:=.value (.func f),args:=#[x],argTypes:=ats},type:=ty,pos:=pos,after:=#[],guard:=none}) rfl rfl hk rfl;simpa [Act.put] using this
 ·rw[<-Frame.atR_of_none hb];exact Run.quiet rfl (λ_=>Jr) (hc _ _ _ _ h)
end
section
variable [Payload]{P:Program}{p:Ph}{L:WgLink}{own:Bk}{ri:Nat}{X:Goroutine->World->Prop}
def run_rw(hS:p.S0 p.Bx):∀(m:Nat) (g:Goroutine) (w:World),Hl p w->Goes P false (RWb p.ty p.Wg p.Bx) DC0 X m g w->Run P (VJ p ri) p.S0 (λown' g w=>own'=own/\(Hl p w->X g w)) own g w:=by
 have hR:∀w w1,Hl p w->Rly own p.S0 w w1->Hl p w1->RWb p.ty p.Wg p.Bx w w1:=λw w1 hi hr hi1=>by
  have hlt:p.Bx<w.heap.size:=by
   obtain⟨_,⟨cs,h1,_⟩,_⟩:=hi;exact(Array.getElem?_eq_some_iff.1 h1).1
  exact rw_of (hr.keep p.Bx hlt (.inr hS)) hi1.1
 intro m;induction m with
 |zero=>exact λg w hi h=>.stop λw1 h1=>⟨rfl,λhi1=>h w1 (hR w w1 hi h1 hi1)⟩
 |succ m ih=>
  intro g w hi h;rcases h with h|⟨hs,h⟩
  ·exact .stop λw1 h1=>⟨rfl,λhi1=>h w1 (hR w w1 hi h1 hi1)⟩
  ·refine Run.goF hs λw1 h1 hi1=>?_;have h2:=h w1 (hR w w1 hi h1 hi1);show ∃g' w' es own',stepG P false g w1=.go g' w' es/\_;cases hst:stepG P false g w1 with
   |go g' w' es=>
    rw[hst] at h2;obtain⟨⟨rfl,rfl⟩,h3⟩:=h2;exact⟨g',w',#[],own,rfl,.inl ⟨Xr.idle _ _ _,(Ql (Nat.le_refl _)).symm⟩,ih g' w' hi1 h3⟩
   |_=>rw[hst] at h2;exact h2.elim
def worker_run (H:WgLib P L) (hL:p.ty=L.tWg) (hS:p.S0 p.Bx) {f:FuncId} {fn:Func} {c:Code} {capt:Array Value} (hf:P.funcs[f]?=some fn) (hname:(fn.name == "runtime.NumGoroutine")=false) (hb:fn.body=some c) (hres:fn.results=#[]) {box:Nat} {w:World}
  (hwp:∀w1,Rly (λk=>k=box) p.S0 w w1->Zj P (VJ p ri) p.S0 c (λown' e a' w'=>(e=.normal\/e=.ret)/\(∀k,¬own' k)/\a'.defers=[dcall L.done #[.pointer (some ⟨p.Wg,0,none⟩)]]) (λk=>k=box) {tmps:=capt++Array.replicate (fn.ntmps-capt.size) undef,defers:=[]} w1) :
  Wrk P p ri box (born P {target:=.fn (.func f) capt,args:=#[]}) w:=by
 have nmd:((Go.Conc.Lib.doneFn L).name == "runtime.NumGoroutine")=false:=by rfl
 refine Run.go rfl λw1 h1=>⟨_,w1,#[],born_at hf hname hb w1,Xr.idle _ _ _,?_⟩
 rw[Ql (Nat.le_refl _),<-Frame.atR_of_none (b:=baseD f) rfl]
 have hend:∀(own':Bk) (a':Act) (w':World) (todo:List Item),(∀k,¬own' k)->a'.defers=[dcall L.done #[.pointer (some ⟨p.Wg,0,none⟩)]]->Run P (VJ p ri) p.S0 (SR0 P p) own' (G {(baseD f).at a' todo with mode:=.returning} [Up P]) w':=λown' a' w' todo ho hd=>by
  refine Run.goF rfl λw2 h2 hi=>?_;have hst:=stepG_unwind_enter (P:=P) (main:=false) (b:=baseD f) (a:=a') (todo:=todo) (cs:=[Up P]) (w:=w2) (ds:=[]) (c:=Go.ConcR.Gen.body_done L) hd H.f_done nmd rfl;refine⟨_,w2,#[],own',hst,.inl ⟨Xr.idle _ _ _,(Ql (Nat.le_refl _)).symm⟩,?_⟩;have hgo:=done_goes (L:=L) (Wg:=p.Wg) (Bx:=p.Bx) (v0:=p.v0) H (c:={(baseD f).at ⟨a'.tmps,[]⟩ todo with mode:=.returning}) (cs:=[Up P]) rfl (quits_tail hf hres a'.tmps todo) w2 ⟨by rw[<-hL];exact hi.1,hi.2.2.1⟩;rw[<-hL] at hgo;have hrn:=run_rw (p:=p) (ri:=ri) (own:=own') hS 23 _ w2 hi hgo
  have e4:(#[.pointer (some ⟨p.Wg,0,none⟩)]:Array Value)++Array.replicate ((Go.Conc.Lib.doneFn L).ntmps-(#[.pointer (some ⟨p.Wg,0,none⟩)]:Array Value).size) undef=#[.pointer (some ⟨p.Wg,0,none⟩),undef,undef,undef]:=by
   simp[Go.Conc.Lib.doneFn,Array.replicate_succ]
  rw[e4];exact hrn.mono λown2 g w ⟨e,hx⟩=>⟨by subst e;exact ho,hx⟩
 refine hwp w1 h1 (baseD f) [] [Up P] (SR0 P p) rfl (by simp[baseD]) λown' e a' w' ⟨he,ho,hd⟩=>?_;rcases he with rfl|rfl
 ·exact Run.quiet rfl (λ_=>sg_end rfl) (hend own' a' w' [] ho hd)
 ·exact⟨λ_ todo=>hend own' a' w' todo ho hd,λh=>absurd rfl h⟩
end
end W
end
section
open Go.RowKit
open Go.Conc hiding base
open Go.ConcN
open Go.ConcR (KK WgAt stA smA rd wr mk Payload DC0)
open Go.Conc.Lib (WgLink WgLib)
namespace W
def frP(ty:TypeId)(Wg:Nat)(S0 own:Bk)(ds:List Deferred):CF:={main:=X1 ty Wg,sh:=S0,own:=own,fr:=λ_=>none,ds:=ds}
section
variable {ty:TypeId}{Wg:Nat}{S0 own:Bk}{ds:List Deferred}{F:List Fct}{w:World}{g tg:Nat}{cs:List Value}
def okP_lose(h:OK (frP ty Wg S0 own ds) [Ow.cells g tg cs] F w):OK (frP ty Wg S0 (λk=>own k/\k≠g) ds) [] F w:=by
 refine⟨⟨λk o hk=>(by cases hk),λk hk=>h.frame.2.1 k (hk.imp And.left id),λk hk=>⟨(h.frame.2.2 k hk).1,λho=>(h.frame.2.2 k hk).2 ho.1⟩⟩,λk hk=>(by simp[ids] at hk),by simp[ids],λb hb=>(by cases hb),λf hf=>f.mono (imm (frP ty Wg S0 own ds) [Ow.cells g tg cs] w.heap) _ (.mk rfl λk o hk=>?_) (h.facts f hf)⟩;have hm:=Xs hk;have hh:=Jg hk
 have hv:k≠g:=by
  simp only[imm] at hk;split at hk
  ·cases hk
  ·rename_i hc
   simp[ids,Ow.ids,frP] at hc;exact hc
 show(if(((none:Option Obj).isSome) ||(ids []).contains k)=true then none else(frP ty Wg S0 (λk=>own k/\k≠g) ds).see w.heap k)=some o;rw[if_neg (by simp[ids]),CF.XV (c:=frP ty Wg S0 (λk=>own k/\k≠g) ds) (hm.imp (λx=>⟨x,hv⟩) id)];exact hh
section
variable {bx:List Ow}
def okP_wg(h:OK (frP ty Wg S0 own ds) bx F w):¬own Wg:=(h.frame.2.2 Wg rfl).2
end
section
def ndf{P:Program}{o:Oper}{a:Act}{w w':World}{x:Next}(h:(execOp a.eval o).run P w=.ok x w')(hx:∀d,x≠.defer d):∀c,o.op≠.defer c:=λc hc=>by
 have h2:(execOp a.eval o).run P w=((resolve a.eval c o.type).run P w).andThen λd w'=>.ok (.defer d) w':=by simp[hc,execOp,Sem.run]
 rw[h2] at h;generalize (resolve a.eval c o.type).run P w=R at h;cases R with
 |ok d w1=>simp only[Result.andThen_ok] at h;injection h with h1;exact hx _ h1.symm
 |halt d w1=>simp at h
variable {P:Program}{o:Oper}{a:Act}{b:Frame}{k:List Item}{Cs:List Frame}{Stop:GSt}{id:Nat}{f:FuncId}{args:Array Value}
def wan{ops:Array Oper}{tm:Array Value}(h:o.guard=none):Region.wanted o (yielded ops tm)=true:=by unfold Region.wanted;rw[h]
def Hx[Payload](hb:b.roundOf=none)(hk:b.kind≠.early)(hg:o.guard=none)(hr:∀w,(execOp a.eval o).run P w=.ok (.enter f args) w/\(execOp a.eval o).events P w #[]=#[])
  (h:∀w1,Rly own S0 w w1->WgLive ty Wg w1->Run P (X1 ty Wg) S0 Stop own (G (Frame.enter P f args .normal) (b.at a (.inRegion #[o] [0]::k)::Cs)) w1) :
  Run P (X1 ty Wg) S0 Stop own (G (b.atR a (.code (.region id #[o] false)::k)) Cs) w:=by
 refine Run.quiet rfl (λ_=>Yu) ?_;refine Run.goF rfl λw2 hr2 hi2=>⟨G (Frame.enter P f args .normal) (b.at a (.inRegion #[o] [0]::k)::Cs),w2,#[],own,?_,.inl ⟨Xr.idle _ _ _,(Ql (Nat.le_refl _)).symm⟩,h w2 hr2 hi2⟩
 have:=sg_enter (P:=P) (m:=true) (b:=b) (k:=k) (cs:=Cs) (i:=0) (rest:=[]) (ops:=#[o]) (o:=o) rfl (wan hg) (ndf (hr w2).1 (by simp)) hk (hr w2).1;rw[listed_none (hr w2).2,Frame.atR_of_none hb] at this;rw[Frame.atR_of_none hb];exact this
end
section
variable {P:Program}{R:Env->List Ow->List Fct->Prop}{n:Nat}{c:Code}{e:Env}{bx:List Ow}{a:Act}{b:Frame}{k:List Item}{Cs:List Frame}{Stop:GSt}
def Z8[Payload](hc:WC P n c e bx F (λex e' bx' F'=>ex=.normal/\R e' bx' F'))(hkn:Kn ds n a e)(ho:OK (frP ty Wg S0 own ds) bx F w)(hk:b.kind≠.early)
  (hn:∀own' a' w' e' bx' F',Kn ds n a' e'->OK (frP ty Wg S0 own' ds) bx' F' w'->R e' bx' F'->Run P (X1 ty Wg) S0 Stop own' (G (b.atR a' k) Cs) w') :
  Run P (X1 ty Wg) S0 Stop own (G (b.atR a (.code c::k)) Cs) w:=
 hc (frP ty Wg S0 own ds) w a w hkn (Rest.refl _) ho b k Cs Stop hk λown' e a' w' hp=>by
  cases e with
  |normal=>obtain⟨_,e',bx',F',h1,_,h2,_,h3⟩:=hp;exact hn own' a' w' e' bx' F' h1 h2 h3
  |exit id=>obtain⟨_,e',bx',F',h1,_,h2,h3,_⟩:=hp;cases h3
  |ret=>obtain⟨_,e',bx',F',h1,_,h2,h3,_⟩:=hp;cases h3
  |_=>exact hp.elim
end
end
section
variable [Payload]{P:Program}{p:Ph}{L:WgLink}{AnchW:GSt}{N n:Nat}{ds:List Deferred}{FP:List Fct}{E E1:Nat->Env}{E2 E3:Nat->Nat->Env}{c7 c8 c11 rest:Code}{t31:Operand}{id0 id1 id9 id10 id12:Nat}
 {b:Frame} {k:List Item} {cs:List Frame} {o9 oM oG o12:Oper} {tint:TypeId} {capt:Nat->Array Value} {fw:FuncId} {Kf:GSt} {b0:Nat}
def rnd(c7 c8 c11:Code)(t31:Operand)(id0 id1 id9 id10:Nat)(o9 oM oG:Oper):Code:=
 .seq c7 (.seq (.cond t31 .skip (.exit id0)) (.seq (.block id1 (.seq c8 (.seq (.region id9 #[o9] false) (.region id10 #[oM,oG] false)))) c11))
def starts(H:WgLib P L)(hL:p.ty=L.tWg)(hWg:¬p.S0 p.Wg)(hb:b.roundOf=none)(hk:b.kind≠.early)
  (h7:∀i,i<=N->WC P n c7 (E i) [] FP (λex e' bx' F'=>ex=.normal/\Sub (E1 i) e'/\Qu F' FP))
  (h7t:∀i,i<=N->ev (E1 i) t31=some (.bool (decide (i<N))))
  (h8:∀i,i<N->WC P n c8 (E1 i) [] FP (λex e' bx' F'=>ex=.normal/\∃g,Sub (E2 i g) e'/\bx'=[Ow.cells g tint [.int .i64 (i:Int)]]/\Qu F' FP))
  (h9:∀i g a w,Kn ds n a (E2 i g)->(execOp a.eval o9).run P w=.ok (.enter L.add #[.pointer (some ⟨p.Wg,0,none⟩),.int .i64 1]) w/\(execOp a.eval o9).events P w #[]=#[]) (h9g:o9.guard=none) (h9d:∀i g a,Kn ds n a (E2 i g)->Kn ds n (a.put o9.dst (.tuple #[])) (E2 i g))
  (hM:∀i g a w,Kn ds n a (E2 i g)->(execOp a.eval oM).run P w=.ok (.value (.func (.func fw) #[] (capt g))) w/\(execOp a.eval oM).events P w #[]=#[]) (hMg:oM.guard=none) (hMd:∀i g a,Kn ds n a (E2 i g)->Kn ds n (a.put oM.dst (.func (.func fw) #[] (capt g))) (E3 i g))
  (hG:∀i g a w,Kn ds n a (E3 i g)->(execOp a.eval oG).run P w=.ok (.spawn {target:=.fn (.func fw) (capt g),args:=#[]}) w/\(execOp a.eval oG).events P w #[]=#[]) (hGg:oG.guard=none) (hGd:∀i g a,Kn ds n a (E3 i g)->Kn ds n (a.put oG.dst undef) (E3 i g))
  (h11:∀i g,i<N->WC P n c11 (E3 i g) [] FP (λex e' bx' F'=>ex=.normal/\Sub (E (i+1)) e'/\Qu F' FP))
  (h12:∀a w,Kn ds n a (E1 N)->(execOp a.eval o12).run P w=.ok (.enter L.wait #[.pointer (some ⟨p.Wg,0,none⟩)]) w/\(execOp a.eval o12).events P w #[]=#[]) (h12g:o12.guard=none)
  (hW:∀i g own w,i<N->OK (frP p.ty p.Wg p.S0 own ds) [Ow.cells g tint [.int .i64 (i:Int)]] FP w->Wrk P p i g (born P {target:=.fn (.func fw) (capt g),args:=#[]}) w)
  (hKf:∀own a w,Kn ds n a (E1 N)->OK (frP p.ty p.Wg p.S0 own ds) [] FP w->Kf own (G (b.at (a.put o12.dst (.tuple #[])) (.inRegion #[o12] []::.code rest::k)) cs) w) :
  ∀r,r<=N->∀own a w,Kn ds n a (E (N-r))->OK (frP p.ty p.Wg p.S0 own ds) [] FP w->
   Spw P p.ty p.Wg p.S0 (Wrk P p) (AnW p.S0 L p.Wg Kf) (b0+N) b0 r own (G (b.atR a (.code (rnd c7 c8 c11 t31 id0 id1 id9 id10 o9 oM oG)::.inLoop (rnd c7 c8 c11 t31 id0 id1 id9 id10 o9 oM oG)::.inBlock id0::.code (.seq (.region id12 #[o12] false) rest)::k)) cs) w:=by
 intro r;induction r with
 |zero=>
  intro _ own a w hkn ho;refine Run.quiet rfl (λ_=>Xc) ?_;refine Z8 (h7 N (Nat.le_refl _)) hkn ho hk λJ0 a1 w1 e1 bx1 F1 k1 o1 ⟨s1,f1⟩=>?_;have o1:=(o1.drop (List.nil_sublist _)).XR f1.all;have k1:=k1.sub s1;refine Run.quiet rfl (λ_=>Xc) ?_;refine Run.quiet rfl (λ_=>Uh (k1.eval (h7t N (Nat.le_refl _)))) ?_;simp only[Nat.lt_irrefl,decide_false,Bool.false_eq_true,if_false];refine Run.quiet rfl (λ_=>sg_exit (k':=.code (.seq (.region id12 #[o12] false) rest)::k) (by simp[exitTo])) ?_;refine Run.quiet rfl (λ_=>Xc) ?_;refine Hx hb hk h12g (h12 a1 · k1) λw2 hr2 hi2=>?_;simp only[hL];exact wait_run (Kf:=Kf) (b₀:=b) (a₀:=a1) (ops₀:=#[o12]) (i₀:=0) (rest₀:=[]) (k₀:=.code rest::k) H (okP_wg o1) hWg (hL ▸ hi2) λw3 hr3=>hKf J0 a1 w3 k1 (o1.rely (hr2.trans hr3))
 |succ r ih=>
  intro hle own a w hkn ho;have hlt:N-(r+1)<N:=qo;have hnx:N-(r+1)+1=N-r:=qo;have hri:b0+N-(r+1)-b0=N-(r+1):=qo;show MR P p.ty p.Wg p.S0 (SKd P p.ty p.Wg p.S0 (SGo P (Wrk P p) (b0+N-(r+1)-b0) (Spw P p.ty p.Wg p.S0 (Wrk P p) (AnW p.S0 L p.Wg Kf) (b0+N) b0 r))) own _ w;rw[hri]
  obtain⟨X,hX⟩:∃X:GSt,∀own g w,Spw P p.ty p.Wg p.S0 (Wrk P p) (AnW p.S0 L p.Wg Kf) (b0+N) b0 r own g w=MR P p.ty p.Wg p.S0 X own g w:=by
   cases r<;>exact⟨_,λ_ _ _=>rfl⟩
  have ih:=ih qo;rw[<-hnx] at ih;generalize hNx:Spw P p.ty p.Wg p.S0 (Wrk P p) (AnW p.S0 L p.Wg Kf) (b0+N) b0 r=Nx at ih hX ⊢;generalize N-(r+1)=i at hlt ih hkn ⊢;refine Run.quiet rfl (λ_=>Xc) ?_;refine Z8 (h7 i (Nat.le_of_lt hlt)) hkn ho hk λJ0 a1 w1 e1 bx1 F1 k1 o1 ⟨s1,f1⟩=>?_;have o1:=(o1.drop (List.nil_sublist _)).XR f1.all;have k1:=k1.sub s1;refine Run.quiet rfl (λ_=>Xc) ?_;refine Run.quiet rfl (λ_=>Uh (k1.eval (h7t i (Nat.le_of_lt hlt)))) ?_;simp only[hlt,decide_true,if_true];refine Run.quiet rfl (λ_=>sg_skip) ?_;refine Run.quiet rfl (λ_=>Xc) ?_;refine Run.quiet rfl (λ_=>Z3) ?_;refine Run.quiet rfl (λ_=>Xc) ?_;refine Z8 (h8 i hlt) k1 o1 hk λown2 a2 w2 e2 bx2 F2 k2 o2 ⟨g,s2,hb2,f2⟩=>?_;subst hb2;have o2:=o2.XR f2.all;have k2:=k2.sub s2;refine Run.quiet rfl (λ_=>Xc) ?_;refine Hx hb hk h9g (h9 i g a2 · k2) λw3 hr3 hi3=>?_;simp only[hL];refine add_run (b₀:=b) (a₀:=a2) (ops₀:=#[o9]) (i₀:=0) (rest₀:=[]) H (okP_wg o2) hWg (hL ▸ hi3) λw4 hr4=>?_;have o4:=o2.rely (hr3.trans hr4);have k4:=h9d i g a2 k2;show MR P L.tWg p.Wg p.S0 _ own2 (G (b.at (a2.put o9.dst (.tuple #[])) _) cs) w4;simp only[<-hL];rw[<-Frame.atR_of_none hb];refine Run.quiet rfl (λ_=>Jr) ?_;refine Run.quiet rfl (λ_=>Yu) ?_;refine Run.quiet (g':=G (b.atR ((a2.put o9.dst (.tuple #[])).put oM.dst (.func (.func fw) #[] (capt g))) (.inRegion #[oM,oG] [1]::.inBlock id1::.code c11::.inLoop (rnd c7 c8 c11 t31 id0 id1 id9 id10 o9 oM oG)::.inBlock id0::.code (.seq (.region id12 #[o12] false) rest)::k)) cs) rfl (λw5=>?_) ?_
  ·have:=Vy (P:=P) (m:=true) (b:=b) (cs:=cs) (i:=0) (rest:=[1]) (ops:=#[oM,oG]) (o:=oM) (k:=.inBlock id1::.code c11::.inLoop (rnd c7 c8 c11 t31 id0 id1 id9 id10 o9 oM oG)::.inBlock id0::.code (.seq (.region id12 #[o12] false) rest)::k) rfl (wan hMg) (ndf (hM i g _ w5 k4).1 (by simp)) hk (hM i g _ w5 k4).1;rw[listed_none (hM i g _ w5 k4).2] at this;exact this
  have k5:=hMd i g _ k4;refine Run.stop λw6 hr6 hi6=>⟨rfl,G (b.at (((a2.put o9.dst (.tuple #[])).put oM.dst (.func (.func fw) #[] (capt g))).put oG.dst undef) (.inRegion #[oM,oG] []::.inBlock id1::.code c11::.inLoop (rnd c7 c8 c11 t31 id0 id1 id9 id10 o9 oM oG)::.inBlock id0::.code (.seq (.region id12 #[o12] false) rest)::k)) cs,_,g,?_,rfl,(o4.apart g (by simp[ids,Ow.ids])).1,hW i g own2 w6 hlt (o4.rely hr6),?_⟩
  ·have:=stepG_spawn (P:=P) (main:=true) (b:=b) (cs:=cs) (i:=1) (rest:=[]) (ops:=#[oM,oG]) (o:=oG) (k:=.inBlock id1::.code c11::.inLoop (rnd c7 c8 c11 t31 id0 id1 id9 id10 o9 oM oG)::.inBlock id0::.code (.seq (.region id12 #[o12] false) rest)::k) rfl (wan hGg) hk (hG i g _ w6 k5).1 rfl;rw[listed_none (hG i g _ w6 k5).2] at this;rw[Frame.atR_of_none hb];exact this
  have k6:=hGd i g _ k5;have o6:=okP_lose (o4.rely hr6);rw[hX,<-Frame.atR_of_none hb];refine Run.quiet rfl (λ_=>Jr) ?_;refine Run.quiet rfl (λ_=>ZQ) ?_;refine Z8 (h11 i g hlt) k6 o6 hk λown7 a7 w7 e7 bx7 F7 k7 o7 ⟨s7,f7⟩=>?_;refine Run.quiet rfl (λ_=>KQ) ?_;have:=ih own7 a7 w7 (k7.sub s7) ((o7.drop (List.nil_sublist _)).XR f7.all);rw[hX] at this;exact this
end
end W
end
section
open Go.RowKit
open Go.Conc hiding base G
open Go.ConcR (Payload)
namespace W
def ev_fill{P:Program}{g o:Nat}{t:TypeId}:∀(vs:List Value) (i:Nat) (cur:Array Value) (w:World) (es:Array Event),w.heap[g]?=some (.cells cur t (0,0))->o+i+vs.length<=cur.size->(∀v∈vs,v.oneCell'=true)->
  ∀ev∈(storeCells ⟨g,o,none⟩ vs i).events P w es,ev∈es\/∃j,i<=j/\j<i+vs.length/\ev=⟨.cell ⟨g,o+j,none⟩,true,false⟩:=by
 intro vs;induction vs with
 |nil=>intro i cur w es _ _ _ ev h;exact .inl (by simpa [storeCells] using h)
 |cons v rest ih=>
  intro i cur w es hg hl h1 ev h;simp only[List.length_cons] at hl ⊢;have hi:o+i<cur.size:=qo;have hc:w.cell? ⟨g,o+i,none⟩=some cur[o+i]:=by simp[World.cell?,hg,hi]
  have hz:w.frozen? ⟨g,o+i,none⟩=false:=by simp[World.frozen?,hg]
  have h2:=run_store P w ⟨g,o+i,none⟩ v .plain (h1 v (by simp));have h3:=events_store P w es ⟨g,o+i,none⟩ v .plain (h1 v (by simp));rw[hc] at h2 h3;simp only[hz,Bool.false_eq_true,if_false] at h2 h3;rw[setCell_eq_setRow w g (o+i) cur t (0,0) v hg] at h2;simp only[storeCells,Sem.events_bind,Addr.add_lit,h2,Result.evThen_ok,h3] at h;rcases ih (i+1) _ _ _ (setRow_heap w g cur _ t _ hg) (by simp;omega) (λx hx=>h1 x (by simp[hx])) ev h with h|⟨j,h4,h5,h6⟩
  ·rcases Array.mem_push.1 h with h|rfl
   ·exact .inl h
   ·exact .inr ⟨i,Nat.le_refl _,by omega,rfl⟩
  ·exact .inr ⟨j,by omega,by omega,h6⟩
section
variable [Payload]{P:Program}{p:Ph}{n:Nat}{L:List Oper}{e:Env}{i ri:Nat}{t ty:TypeId}{x y:Operand}{pos:String}{af:Array Edge}{v:Value}{vs:List Value}
def odd_store(hL:L[i]?=some ⟨none,.store t x y,ty,pos,af,none⟩)(hx:ev e x=some (.pointer (some ⟨p.C,p.m*ri,none⟩)))(hy:ev e y=some v)(hvs:v.cells.toList=vs)(hsz:(P.info? t).map (·.size)=some vs.length)
  (h1:∀u∈vs,u.oneCell'=true) (hm:vs.length=p.m) (hm0:0<p.m) (hri:ri<p.N) {ds:List Deferred} {own:Bk} {a:Act} {w:World} {Q':RQ} (hk:Kn ds n a e) (ho:∃k,own k) (hF:∀w1,Rly own p.S0 w w1->p.F ri vs (JV (λk=>own k\/p.S0 k) w1))
  (hQ:∀w',Q' (λ_=>False) .normal a w'):OpR P (VJ p ri) p.S0 L.toArray i (λ_ own' a' w'=>Q' own' .normal a' w') own a w:=by
 unfold OpR;have hLa:L.toArray[i]?=some ⟨none,.store t x y,ty,pos,af,none⟩:=by simpa using hL
 simp only[hLa];rw[if_pos (by rfl)];intro w1 hr;refine .inr λhi=>?_;obtain⟨cs,hb,hcs⟩:=hi.2.2.2
 have hfit:p.m*ri+vs.length<=cs.size:=by
  rw[hcs,hm,<-Nat.mul_succ];exact Nat.mul_le_mul_left _ hri
 obtain⟨ti,hti,hisz⟩:=Option.map_eq_some_iff.1 hsz;have hst:=run_storeCells_at P p.C (p.m*ri) p.ety vs 0 cs w1 hb (by simpa using hfit) h1;have hvc:v.cells.size=vs.length:=by rw[<-hvs];simp
 have hc:P.cellsOf t=vs.length:=by simp[Program.cellsOf,hti,hisz]
 have hb':=setRow_heap w1 p.C cs (cs.toList.take (p.m*ri)++vs++cs.toList.drop (p.m*ri+vs.length)).toArray p.ety (0,0) hb;have hl:(cs.toList.take (p.m*ri)++vs++cs.toList.drop (p.m*ri+vs.length)).length=cs.size:=by simp;omega
 refine⟨w1.setRow p.C (cs.toList.take (p.m*ri)++vs++cs.toList.drop (p.m*ri+vs.length)).toArray,λ_=>False,?_,λes hes=>?_,?_⟩
 ·simp[execOp,hk.eval hx,hk.eval hy,Instr.storeAt,Instr.sureAddr,storeVar,run_sizeOf w1 hti,hisz,hvc,hvs,hc,hst]
 ·refine⟨vs,hm,λ_ h=>h,ho,⟨rfl,rfl,rfl⟩,size_setRow _ _ _,λk hk2=>setRow_other w1 p.C k _ hk2,λ_=>⟨_,hb',by simpa [hcs] using hl⟩,λr hr2=>?_,λo2 ho2=>?_,λev hev=>?_,hF w1 hr⟩
  ·have h4:p.m*ri<=cs.size:=qo;have h5:p.m*ri+r<cs.size:=qo;simp only[World.cell?,hb'];simp[List.getElem?_append,hm,hr2,h4,Nat.min_eq_left h4]
  ·have h4:p.m*ri<=cs.size:=qo;simp only[World.cell?,hb',hb]
   have h6:o2<p.m*ri\/p.m*ri+p.m<=o2:=by
    rcases Nat.lt_or_ge o2 (p.m*ri) with h|h
    ·exact .inl h
    ·refine .inr (Nat.le_of_not_lt λh7=>ho2 ?_);rw[Nat.div_eq_iff hm0];constructor<;>(try rw[Nat.mul_comm])<;>omega
   rcases h6 with h6|h6
   ·simp[List.getElem?_append,h6,h4,Nat.min_eq_left h4]
   ·simp[List.getElem?_append,hm,h4,Nat.min_eq_left h4];rw[if_neg qo,if_neg qo]
    congr 1
    omega
  ·have:=hes ev hev;simp[execOp,hk.eval hx,hk.eval hy,Instr.storeAt,Instr.sureAddr,storeVar,sizeOf,typeInfo,run_sizeOf w1 hti,hti,hisz,hvc,hvs,hc,hst] at this;rcases ev_fill vs 0 cs w1 #[] hb (by simpa using hfit) h1 ev this with h|⟨j,_,h5,h6⟩
   ·simp at h
   ·refine⟨p.m*ri+j,?_,h6⟩;rw[Nat.mul_add_div hm0,Nat.div_eq_of_lt qo,Nat.add_zero]
 ·have:a.put none undef=a:=by simp[Act.put]
  rw[this];exact hQ _
end
end W
end
section
open Go.RowKit
open Go.Conc hiding base
open Go.ConcN
open Go.ConcR (KK WgAt stA smA rd wr mk wgBlock Payload DC0)
open Go.Conc.Lib (WgLink WgLib)
namespace W
section
variable {P:Program}{main:Md}{sh own:Bk}{Stop:GSt}{G0:Goroutine}
def run_tail(hb:main.b=true):∀(m:Nat) (g:Goroutine) (w:World),Goes P true (λ_ _=>True) DC0 (λg _=>g=G0) m g w->(∀w',Rly own sh w w'->Run P main sh Stop own G0 w')->Run P main sh Stop own g w
 |0,g,w,h,hk=>by have:=h w trivial;subst this;exact hk w (.refl _ _ _)
 |m+1,g,w,h,hk=>by
  rcases h with h|⟨hs,h⟩
  ·have:=h w trivial;subst this;exact hk w (.refl _ _ _)
  ·refine Run.goF hs λw1 h1 hi=>?_;have h2:=h w1 trivial;rw[hb];cases hst:stepG P true g w1 with
   |go g' w' es=>
    rw[hst] at h2;obtain⟨⟨e1,e2⟩,h3⟩:=h2;subst e1 e2;exact⟨g',_,_,own,rfl,.inl ⟨Xr.idle _ _ _,(Ql (Nat.le_refl _)).symm⟩,run_tail hb m g' _ h3 λw2 h2=>hk w2 (h1.trans h2)⟩
   |_=>rw[hst] at h2;exact h2.elim
end
def isX(P:Program):Fct:=⟨λh=>h.md=XG P,λ_ _ hl h=>hl.md.trans h⟩
def geL(l:Nat->Option Obj):Fct:=⟨λh=>∀k o,l k=some o->h k=some o,λ_ _ hl h k o hk=>hl _ _ (h k o hk)⟩
def Fct.free(f:Fct):Prop:=∀md md' l,f.p ⟨md,l⟩->f.p ⟨md',l⟩
def Fct.free.to{f:Fct}(h:f.free){md md':Md}{l l':Nat->Option Obj}(hp:f.p ⟨md,l⟩)(hl:∀k o,l k=some o->l' k=some o):f.p ⟨md',l'⟩:=f.mono ⟨md',l⟩ _ ⟨rfl,hl⟩ (h _ _ _ hp)
def allF(n:Nat)(f:Nat->Fct):Fct:=⟨λh=>∀i,i<n->(f i).p h,λ_ _ hl h i hi=>(f i).mono _ _ hl (h i hi)⟩
def Jb(m:Nat)(vs:Nat->List Value)(j:Nat):Value:=(vs (j/m)).getD (j%m) undef
def frW[Payload](p:Ph)(ri box:Nat)(ds:List Deferred):CF:={main:=VJ p ri,sh:=p.S0,own:=λk=>k=box,fr:=λ_=>none,ds:=ds}
def To[Payload](p:Ph)(ri:Nat):CF->World->RQ->Prop:=λfr _ Q'=>fr.main=VJ p ri/\fr.sh=p.S0/\∀a w,a.defers=fr.ds->Q' (λ_=>False) .normal a w
def To.up[Payload]{p:Ph}{ri:Nat}(fr fr':CF)(w0:World)(Q':RQ)(h:fr.le fr')(ht:To p ri fr w0 Q'):To p ri fr' w0 Q':=⟨h.main.trans ht.1,h.sh.trans ht.2.1,λa w hd=>ht.2.2 a w (hd.trans h.ds)⟩
open Classical in
noncomputable def ZC(hid:Bk)(l:Nat->Option Obj)(k:Nat):Option Obj:=if hid k then none else l k
def Ha(P:Program)(hid:Bk)(Rr:Nat->List Value->Fct->Prop)(ri:Nat)(vs:List Value)(l:Nat->Option Obj):Prop:=∃f,Rr ri vs f/\f.free/\f.p ⟨XG P,ZC hid l⟩
def Ha.mono{P:Program}{hid:Bk}{Rr:Nat->List Value->Fct->Prop}(ri:Nat)(vs:List Value)(L L':Nat->Option Obj)(hl:∀k o,L k=some o->L' k=some o)(h:Ha P hid Rr ri vs L):Ha P hid Rr ri vs L':=by
 obtain⟨f,h1,h2,h3⟩:=h;refine⟨f,h1,h2,h2.to h3 λk o hk=>?_⟩;unfold ZC at hk ⊢;split at hk
 ·cases hk
 ·rename_i hc;rw[if_neg hc];exact hl k o hk
section
variable [Payload]{P:Program}{p:Ph}{n ri box:Nat}{L:List Oper}{hs:List Nat}{b0 bx:List Ow}{F0 F:List Fct}{e:Env}{i:Nat}{t ty tg:TypeId}{x y:Operand}{pos:String}{af:Array Edge}{v:Value}{vs cs:List Value}{Rr:Nat->List Value->Fct->Prop}
def WDo.store(hL:L[i]?=some ⟨none,.store t x y,ty,pos,af,none⟩)(hl:QF L hs i=true)(hx:ev e x=some (.pointer (some ⟨p.C,p.m*ri,none⟩)))(hy:ev e y=some v)(hvs:v.cells.toList=vs)(hsz:(P.info? t).map (·.size)=some vs.length)
  (h1:∀u∈vs,u.oneCell'=true) (hm:vs.length=p.m) (hm0:0<p.m) (hri:ri<p.N) (hb:Ow.cells box tg cs∈bx) (hpF:p.F=Ha P p.hid Rr) (f:Fct) (hf:Has F f) (hfree:f.free) (hR:Rr ri vs f):WDo P n L hs b0 F0 (.loud i .done) e bx F (To p ri):=
 WDo.odd _ hL hl λfr w0 a w Q' hT hk hr ho=>by
  obtain⟨h2,h3,h4⟩:=hT;rw[h2,h3];refine odd_store hL hx hy hvs hsz h1 hm hm0 hri hk ⟨box,(ho.apart box (Jd.2 ⟨_,hb,by simp[Ow.ids]⟩)).1⟩ (λw1 hr1=>?_) λw'=>h4 a w' hk.defers;have ho1:=ho.rely (w1:=w1) (by rw[h3];exact hr1);rw[hpF];refine⟨f,hR,hfree,hfree.to (ho1.has hf) λk o hk=>?_⟩;have hmi:=Xs hk
  have hnh:¬p.hid k:=λhh=>by
   rcases hmi with hx|hx
   ·exact(ho1.frame.2.2 k (by show fr.main.no k;rw[h2];exact hh)).2 hx
   ·exact hx.2 (by rw[h2];exact hh)
  unfold ZC JV;rw[if_neg hnh,if_pos (by rw[<-h3];exact CF.vs_w hmi)];exact Jg hk
end
section
variable [Payload]{P:Program}{p:Ph}{own:Bk}{ds:List Deferred}{FP:List Fct}{l0:Nat->Option Obj}{w:World}{g tg:Nat}{cs:List Value}
def ok_worker(hfree:∀f∈FP,f.free/\f.p ⟨XG P,ZC p.hid l0⟩)(hl0:∀k o,l0 k=some o->p.S0 k)(hh:∀k,p.hid k->∃o,l0 k=some o)(ho:OK (frP p.ty p.Wg p.S0 own ds) [Ow.cells g tg cs] (geL l0::FP) w)(ri:Nat)(ds':List Deferred):OK (frW p ri g ds') [Ow.cells g tg cs] (geL (ZC p.hid l0)::FP) w:=by
 have hge:=ho.facts _ (List.mem_cons_self ..);have hg:=ho.owns _ (List.mem_cons_self ..);have hlt:g<w.heap.size:=Ow.lt hg g (by simp[Ow.ids])
 have hst:∀k o,l0 k=some o->w.heap[k]?=some o/\k≠g:=λk o hk=>by
  have h1:imm (frP p.ty p.Wg p.S0 own ds) [Ow.cells g tg cs] w.heap k=some o:=hge k o hk;refine⟨Jg h1,?_⟩;simp only[imm] at h1;split at h1
  ·cases h1
  ·rename_i hc
   simp[ids,Ow.ids,frP] at hc;exact hc
 have hw:∀k o,ZC p.hid l0 k=some o->imm (frW p ri g ds') [Ow.cells g tg cs] w.heap k=some o:=λk o hk=>by
  unfold ZC at hk;split at hk
  ·cases hk
  ·rename_i hnh
   show(if(((none:Option Obj).isSome) ||(ids [Ow.cells g tg cs]).contains k)=true then none else(frW p ri g ds').see w.heap k)=some o;rw[if_neg (by simp[ids,Ow.ids,(hst k o hk).2]),CF.XV (c:=frW p ri g ds') (.inr ⟨hl0 k o hk,hnh⟩)];exact(hst k o hk).1
 refine⟨⟨λk o hk=>(by cases hk),λk hk=>?_,λk hk=>?_⟩,λk hk=>?_,by simp[ids,Ow.ids],λb hb=>by rw[List.mem_singleton.1 hb];exact hg,λf hf=>?_⟩
 ·rcases hk with hk|hk
  ·rw[show k=g from hk];exact hlt
  ·exact ho.frame.2.1 k (.inr hk)
 ·obtain⟨o,h1⟩:=hh k hk;have h2:=hst k o h1;exact⟨(Array.getElem?_eq_some_iff.1 h2.1).1,h2.2⟩
 ·simp[ids,Ow.ids] at hk;exact⟨hk,rfl⟩
 ·rcases List.mem_cons.1 hf with rfl|hf
  ·exact hw
  ·exact(hfree f hf).1.to (hfree f hf).2 hw
def worker_wc{L:WgLink}(H:WgLib P L)(hL:p.ty=L.tWg)(hS:p.S0 p.Bx){f:FuncId}{fn:Func}{capt:List Value}{idd idl n:Nat}{x:Operand}{ats:Array TypeId}{tyd:TypeId}{posd:String}{cA:Code}{Lo:List Oper}{e0:Env}
  (hf:P.funcs[f]?=some fn) (hname:(fn.name == "runtime.NumGoroutine")=false)
  (hb:fn.body=some (.seq (.region idd #[{dst:=none,op:=.defer {callee:=.value (.func L.done),args:=#[x],argTypes:=ats},type:=tyd,pos:=posd,after:=#[],guard:=none}] false) (.seq cA (.region idl Lo.toArray true)))) (hres:fn.results=#[]) (hn:fn.ntmps=n) (hargs:Nat.ble capt.length n=true) (he:Sub e0 (parEnv 0 capt)) (hx:ev e0 x=some (.pointer (some ⟨p.Wg,0,none⟩)))
  (hm:P.follows .mixedOrders=true) (hs:List Nat) (pl:Plan) (hck:(Region.noSelect Lo.toArray && (chk Lo hs pl (Array.replicate Lo.length false) && Nat.ble pl.len Lo.length))=true) {ri:Nat} {F:List Fct}
  (hA:WC P n cA e0 [Ow.cells g tg cs] F (λex e bx F'=>ex=.normal/\WDo P n Lo hs bx F' pl e bx F' (To p ri)))
  (ho:∀ds,OK (frW p ri g ds) [Ow.cells g tg cs] F w):Wrk P p ri g (born P {target:=.fn (.func f) capt.toArray,args:=#[]}) w:=by
 have hargs':capt.length<=n:=Nat.le_of_ble_eq_true hargs
 have hk:Kn [] n {tmps:=capt.toArray++Array.replicate (fn.ntmps-capt.toArray.size) undef,defers:=[]} e0:=by
  refine Kn.sub (e:=parEnv 0 capt) ⟨by simp[hn];omega,rfl,λk v hk=>?_⟩ he;obtain⟨_,h2⟩:=YB _ _ _ _ hk;simp at h2;rw[Array.getElem?_append_left (by simpa using (List.getElem?_eq_some_iff.1 h2).1)];simpa using h2
 refine worker_run H hL hS hf hname hb hres λw1 hr1=>?_;refine wpR0_seq (wpR0_defer ?_);rw[hk.eval hx];refine Gh (wpR_seq ?_);have hk2:Kn (frW p ri g [dcall L.done #[.pointer (some ⟨p.Wg,0,none⟩)]]).ds n ⟨(capt.toArray++Array.replicate (fn.ntmps-capt.toArray.size) undef),[dcall L.done #[.pointer (some ⟨p.Wg,0,none⟩)]]⟩ e0:=⟨hk.size,rfl,hk.at'⟩
 have hwp:=hA (frW p ri g [dcall L.done #[.pointer (some ⟨p.Wg,0,none⟩)]]) w1 _ w1 hk2 (.refl _) ((ho _).rely hr1);refine Xu hwp λown' ex a' w' hq=>?_
 have key:∀{ex},(∃e bx F,Kn (frW p ri g [dcall L.done #[.pointer (some ⟨p.Wg,0,none⟩)]]).ds n a' e/\Rest w1 w'/\OK ((frW p ri g [dcall L.done #[.pointer (some ⟨p.Wg,0,none⟩)]]).at own') bx F w'/\ex=Exit.normal/\WDo P n Lo hs bx F pl e bx F (To p ri))->ex=Exit.normal/\wpR P (VJ p ri) p.S0 (.region idl Lo.toArray true) (λown' e a' w'=>(e=.normal\/e=.ret)/\(∀k,¬own' k)/\a'.defers=[dcall L.done #[.pointer (some ⟨p.Wg,0,none⟩)]]) own' a' w':=λ⟨e,bx,F,h1,h2,h3,h4,h5⟩=>⟨h4,by
  refine WDo.draw (fr:=(frW p ri g [dcall L.done #[.pointer (some ⟨p.Wg,0,none⟩)]]).at own') (w0:=w1) (T:=To p ri) hs pl hm hck h5 ⟨rfl,rfl,λa w hd=>⟨w,.refl _ _ _,.inl rfl,λ_ h=>h,hd⟩⟩ h1 h2 h3⟩
 cases ex with
 |normal=>exact(key hq.2).2
 |exit id=>cases(key hq.2).1
 |ret=>cases(key hq.2).1
 |_=>exact hq.elim
end
end W
end
end Go.Proofs.YtbnobghgnbockaaGreat
