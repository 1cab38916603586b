/- Lemmas for a law. Conditions: none. -/
import Derived.Test.YtbnobghgnbockaaGreatZg27
set_option linter.all false
set_option maxHeartbeats 32000000
set_option maxRecDepth 100000
namespace Go.Proofs.YtbnobghgnbockaaGreat
open W Go.RowKit
inductive KY:List Ow->List Ow->Prop where
 |nil:KY [] []
 |drop {v:Value} {el sz:Nat} {cs:List Value} {l l':List Ow}:KY l l'->KY (.slice v el sz cs::l) l'
 |keep {b:Ow} {l l':List Ow}:KY l l'->KY (b::l) (b::l')
def KY.sub{l l':List Ow}(h:KY l l'):l'.Sublist l:=by
 induction h with
 |nil=>exact .slnil
 |drop _ ih=>exact ih.cons _
 |keep _ ih=>exact ih.cons_cons _
def WC.drawS{P:Program}{n:Nat}{L:List Oper}{e:Env}{bx b0:List Ow}{F:List Fct}{id:Nat}{Q:Post}(hs:List Nat)(p:Plan)(hm:P.follows .mixedOrders=true)(hc:(Region.noSelect L.toArray && (chk L hs p (Array.replicate L.length false) && Nat.ble p.len L.length))=true)
  (hr:KY bx b0) (h:WD P n L hs b0 F p e bx F (Q .normal)):WC P n (.region id L.toArray true) e bx F Q:=WC.V3 b0 hr.sub hs p hm hc h
def fcj(l:List Fct):Fct:=⟨λh=>∀f∈l,f.p h,λ_ _ hl h f hf=>f.mono _ _ hl (h f hf)⟩
def W.Has.cj{F:List Fct}:∀{l:List Fct},Qw F l->Has F (fcj l):=λh p hf f hfl=>h.all f hfl p hf
def W.FnB.cj{P:Program}{f:FuncId}{args:List Value}{bx:List Ow}{g:Fct}{l:List Fct}{R:Qf}(h:FnB P f args bx (g::l) R):FnB P f args bx [g,fcj l] R:=
 ⟨h.1,λfr w ho=>h.2 fr w ⟨ho.frame,ho.apart,ho.nodup,ho.owns,λk hk=>by
  rcases List.mem_cons.1 hk with rfl|hk
  .exact ho.facts _ (List.mem_cons_self ..)
  .exact ho.facts (fcj l) (by simp) k hk⟩⟩
def W.FnB.cj2{P:Program}{f:FuncId}{args:List Value}{bx:List Ow}{g g2:Fct}{l:List Fct}{R:Qf}(h:FnB P f args bx (g::g2::l) R):FnB P f args bx [g,g2,fcj l] R:=
 ⟨h.1,λfr w ho=>h.2 fr w ⟨ho.frame,ho.apart,ho.nodup,ho.owns,λk hk=>by
  rcases List.mem_cons.1 hk with rfl|hk
  .exact ho.facts _ (by simp)
  .rcases List.mem_cons.1 hk with rfl|hk
   .exact ho.facts _ (by simp)
   .exact ho.facts (fcj l) (by simp) k hk⟩⟩
section
variable {P:Program}{e:Env}{bx:List Ow}{F:List Fct}{fn:Func}{t s r:Tmp}{ty ty':TypeId}{g g' tg tg' m m':Nat}{cs cs':List Value}{x:Value}
def W.Qg.ccx(h:fn.results=#[.cell t ty,.cell s ty',.tmp r])(hl:W.look e t=some (.pointer (some ⟨g,0,none⟩)))(hb:Ow.cells g tg cs∈bx)(hr:Row P ty m)(hm:cs.length=m)(hl2:W.look e s=some (.pointer (some ⟨g',0,none⟩)))(hb2:Ow.cells g' tg' cs'∈bx)(hr':Row P ty' m')(hm2:cs'.length=m')(hx:W.look e r=some x) :
  Qg P fn e bx F (.tuple #[.agg cs.toArray,.agg cs'.toArray,x]):=λn fr a w hk ho=>by
 have he:=Kl (P:=P) (fr:=fr) (w:=w) (t:=ty) (b:=g) (q:=0) (cs:=cs) (es:=#[]) (by rw[hm];exact hr) (λ_ _=>.inl (ho.own hb (by simp[Ow.ids]))) (λi v hv=>by rw[Nat.zero_add,Ja (ho.owns _ hb)];exact hv) (Reads.none fr);have he2:=Kl (P:=P) (fr:=fr) (w:=w) (t:=ty') (b:=g') (q:=0) (cs:=cs') (by rw[hm2];exact hr') (λ_ _=>.inl (ho.own hb2 (by simp[Ow.ids]))) (λi v hv=>by rw[Nat.zero_add,Ja (ho.owns _ hb2)];exact hv) he;obtain⟨⟨d,hu,hd⟩,hi⟩:=hr;obtain⟨⟨d',hu',hd'⟩,hi'⟩:=hr';have h1:a.tmps[t]?.getD undef=.pointer (some ⟨g,0,none⟩):=by rw[hk.at' _ _ hl];rfl
 have h2:=run_loadVar_mid (P:=P) w g 0 ty cs d (λi v hv=>by rw[Nat.zero_add,Ja (ho.owns _ hb)];exact hv) hu hd (by rw[hi];simp[hm]);have h3:a.tmps[s]?.getD undef=.pointer (some ⟨g',0,none⟩):=by rw[hk.at' _ _ hl2];rfl
 have h4:=run_loadVar_mid (P:=P) w g' 0 ty' cs' d' (λi v hv=>by rw[Nat.zero_add,Ja (ho.owns _ hb2)];exact hv) hu' hd' (by rw[hi'];simp[hm2]);have h5:a.tmps[r]?.getD undef=x:=by rw[hk.at' _ _ hx];rfl
 simp only[results,h];refine⟨by simp[h1,asAddr,h2,h3,h4,h5],?_⟩;have h6:=he2.ok;simpa [h1,asAddr,h2,h3,h4,h5] using h6
end
section
open Bl (Vc Bd Tc Sc)
def IsEnds(M:SM)(S:Sc):Qf:=λv B G=>B=[]/\G=[lF JG v (2*S.m) (edM M.T) (edT S.T)]
def IsR2(p q:Rat):Qf:=λv B G=>∃m1 m2:QM,v=.tuple #[qv m1,qv m2]/\B=[]/\G=[isQ (qv m1) p,isQ (qv m2) q]
def W.Has.edk{M:SM}{S:Sc}{F:List Fct}{i:Nat}(h:Has F (fT (M.T i) (S.T i))):Has F (fE (edM M.T (2*i)) (edT S.T (2*i)))/\Has F (fE (edM M.T (2*i+1)) (edT S.T (2*i+1))):=by
 rw[(edT_0 ..).1,(edT_0 ..).2,(edM_0 ..).1,(edM_0 ..).2];exact⟨W.Has.eof h.tp h,W.Has.eof h.tq h⟩
namespace K
attribute [local irreducible] WC WL WD YO LO Qq W.Fin Qv Qh Qj Row QV Qy KnS Has W.One Qp QJ
def d103{G G':Prop}(h:G')(s:Bx G'->G:=by
 intro h;first|refine gB ?_|(apply WC.draw (id:=1) [0,1,2,3,4,5,6,9,10,11,12,13,14,15] (.h 0<|.h 1<|.h 2<|.h 3<|.h 4<|.h 5<|.h 6<|.h 9<|.h 10<|.h 11<|.h 12<|.h 13<|.h 14<|.h 15<|.l 7<|.l 8<|.l 16<|.l 17<|.l 18<|.l 19<|.l 20 .done) mixed kr)|fail
 exact Bx.h h):G:=s ⟨h⟩
def d108{G G':Prop}(h:G')(s:Bx G'->G:=by
 intro h;first|refine gB ?_|(apply WC.draw (id:=1) [0,1,2,3,5] (.h 0<|.h 1<|.h 2<|.h 3<|.h 5<|.l 4<|.l 6<|.l 7 .done) mixed kr)|fail
 exact Bx.h h):G:=s ⟨h⟩
def ends_c(M:SM)(S:Sc)(ho:S.ok):FnB Tryz.prog 99 [M.t] [] [fSt M S] (IsEnds M S):=by
 refine fO [(0,M.t)] 25 Tryz.func99 Tryz.ntmps99 λh0=>?_;have hm:=ho.m;refine WC.QP 163 38 ?_;repeat'(first|intro(g:Nat)|refine gA ?_|intro v)
 refine WC.lp (σ:=Nat×Value) (λst=>[(8,.int .i64 (st.1:Int)),(7,.int .i64 (S.m:Int)),(6,M.t),(3,st.2)]) (λst=>[lO JG st.2 163 (2*st.1) (edM M.T) (edT S.T)]) (λst=>[lM JG (2*st.1) (edM M.T) (edT S.T),ge h0,fSt M S]) (λst=>st.1<=S.m) (λst=>S.m-st.1) (0,.slice none 0 0) (Nat.zero_le _) ?_ (hG:=.cons W.Has.Z3 haA);rintro⟨i,v⟩ hi;simp only at hi ⊢;by_cases c:i<S.m
 .refine WC.fact (fT (M.T i) (S.T i)) (W.Has.lk (S:=Qz) (v:=M.t) hmA c) ?_;repeat'(first|intro(g:Nat)|refine gA ?_|intro v)
  exact Qq.mk (i+1,_) wq18 wq18 (hG:=.cons (((W.Has.mem wq68:Has _ (lM JG (2*i) (edM M.T) (edT S.T))).mappS (W.Has.edk (M:=M) (S:=S) hmA).1).mappS (W.Has.edk (M:=M) (S:=S) hmA).2) haA)
 .obtain rfl:i=S.m:=qo;repeat'(first|intro(g:Nat)|refine gA ?_|intro v)
  refine WC.QY (S:=JG) (n:=2*S.m) (ms:=edM M.T) (xs:=edT S.T) wq3 hmA ?_;refine WC.ret ?_;exact Fp [lF JG v (2*S.m) (edM M.T) (edT S.T)] (Qg.t1 rfl rfl) haA ⟨rfl,rfl⟩
def G2(M:SM)(S:Sc)(c:Nat)(hn:S.n<=5)(hc:c<2^S.n):FnB Tryz.prog 83 [M.l,.int .i64 (c:Int)] [] [fSl M S] (IsF S.n (S.wt c)):=by
 refine fO [(0,M.l),(1,(.int .i64 (c:Int)))] 46 Tryz.func83 Tryz.ntmps83 λh0=>?_;have h32:2^S.n<=2^5:=Nat.pow_le_pow_right qd hn;obtain⟨N,hN⟩:∃N,2^S.n=N:=⟨_,rfl⟩
 have hc':c<32:=qo;have hcN:(c:Int)<((2^S.n:Nat):Int):=qo;refine WC.QP 75 4 ?_;repeat'(first|intro(g:Nat)|refine gA ?_|intro v)
 refine WC.lp (σ:=Nat×Value×(Nat->QM)) (λst=>[(24,.int .i64 (st.1:Int)),(23,.int .i64 (S.n:Int)),(22,M.l),(1,.int .i64 (c:Int)),(5,st.2.1)]) (λst=>[Ow.slice st.2.1 75 4 (Qa st.1 st.2.2)]) (λst=>[mF st.1 st.2.2 (S.wt c),ge h0,fSl M S]) (λst=>st.1<=S.n) (λst=>S.n-st.1) (0,.slice none 0 0,λ_=>m00) (Nat.zero_le _) ?_ (hG:=.cons (W.Has.mFn _ _) haA);rintro⟨i,v,ms⟩ hi;simp only at hi ⊢;by_cases c1:i<S.n
 .refine WC.fact (fB (M.B i) (S.B i)) (W.Has.lk (S:=Qo) (v:=M.l) hmA c1) ?_;refine WC.fact (isQ (qv (M.B i).lo) (S.B i).lo) (W.Has.bl (b:=S.B i) hmA) ?_;refine WC.fact (isQ (qv (M.B i).hi) (S.B i).hi) (W.Has.bh (b:=S.B i) hmA) ?_;have hq:(c:Int)/2^((i:Int)).toNat=((c/2^i:Nat):Int):=by rw[Int.toNat_natCast];simp
  have hq2:c/2^i<=c:=Nat.div_le_self _ _
  have hX:0<=(c:Int)/2^((i:Int)).toNat/\(c:Int)/2^((i:Int)).toNat<=31/\((c:Int)/2^((i:Int)).toNat%2=1↔c/2^i%2=1):=by
   rw[hq];generalize c/2^i=X at *;omega
  obtain⟨hX0,hX1,hX2⟩:=hX;by_cases c2:c/2^i%2=1
  .have hw:S.wt c i=(S.B i).hi:=if_pos c2;repeat'(first|intro(g:Nat)|refine gA ?_|intro v)
   exact Qq.mk (i+1,_,upd ms i (M.B i).hi) wq18 wq18 (hG:=.cons (W.Has.QN (W.Has.mFapp (qf:=S.wt c) hmA (m:=(M.B i).hi) (z:=(S.B i).hi) hmA) (λk hk=>by unfold upd;split;(rename_i e;rw[e,hw]);rfl)) haA)
  .have hw:S.wt c i=(S.B i).lo:=if_neg c2;repeat'(first|intro(g:Nat)|refine gA ?_|intro v)
   exact Qq.mk (i+1,_,upd ms i (M.B i).lo) wq18 wq18 (hG:=.cons (W.Has.QN (W.Has.mFapp (qf:=S.wt c) hmA (m:=(M.B i).lo) (z:=(S.B i).lo) hmA) (λk hk=>by unfold upd;split;(rename_i e;rw[e,hw]);rfl)) haA)
 .obtain rfl:i=S.n:=qo;repeat'(first|intro(g:Nat)|refine gA ?_|intro v)
  refine WC.Xd v S.n ms (S.wt c) wq3 hmA ?_;refine WC.ret ?_;exact Fp [fF v S.n ms (S.wt c)] (Qg.t1 rfl rfl) haA ⟨ms,rfl,rfl⟩
def forcex_c(me:EM)(e:Ed)(mv:VM)(f:Vc):FnB Tryz.prog 106 [edv me e,vv mv] [] [fV mv f] (IsR f.x):=by
 refine fO [(0,(edv me e)),(1,(vv mv))] 7 Tryz.func106 Tryz.ntmps106 λh0=>?_;refine WC.fact (isQ (qv mv.1) f.x) (W.Has.vx (a:=f) hmA) ?_;refine WC.fact (isQ (qv mv.2) f.y) (W.Has.vy (a:=f) hmA) ?_;repeat'(first|intro(g:Nat)|refine gA ?_|intro v)
 refine WC.ret ?_;exact Fp [isQ (qv mv.1) f.x] (rcV T.r75) haA ⟨mv.1,rfl,rfl,rfl⟩
def forcey_c(me:EM)(e:Ed)(mv:VM)(f:Vc):FnB Tryz.prog 107 [edv me e,vv mv] [] [fV mv f] (IsR f.y):=by
 refine fO [(0,(edv me e)),(1,(vv mv))] 7 Tryz.func107 Tryz.ntmps107 λh0=>?_;refine WC.fact (isQ (qv mv.1) f.x) (W.Has.vx (a:=f) hmA) ?_;refine WC.fact (isQ (qv mv.2) f.y) (W.Has.vy (a:=f) hmA) ?_;repeat'(first|intro(g:Nat)|refine gA ?_|intro v)
 refine WC.ret ?_;exact Fp [isQ (qv mv.2) f.y] (rcV T.r75) haA ⟨mv.2,rfl,rfl,rfl⟩
def torque_c(me:EM)(e:Ed)(mv:VM)(f:Vc)(gb:Nat)(mb:BM)(b:Bd)(K:Nat)(hK:K<=1000000)(he:Sv K e.at')(hf:Sv K f)(hb:Sv K b.c):FnB Tryz.prog 108 [edv me e,vv mv,ptr gb] [] [fV mv f,fE me e,ce gb 88 (bcs mb),fB mb b] (IsR (Bl.JF (Bl.Jr e.at' b.c) f)):=by
 refine fO [(0,(edv me e)),(1,(vv mv)),(2,(ptr gb))] 13 Tryz.func108 Tryz.ntmps108 λh0=>?_;refine WC.fact (fV me.at' e.at') (W.Has.ea (ed:=e) hmA) ?_;refine WC.fact (fV mb.c b.c) (W.Has.bc (bm:=mb) hmA) ?_;repeat'(first|intro(g:Nat)|refine d108 ?_|intro v)
 refine cW (vsub_c me.at' mb.c e.at' b.c K qo he hb) λm2=>?_;repeat'(first|intro(g:Nat)|refine d108 ?_|intro v)
 refine cW (vcross_c m2 mv (Bl.Jr e.at' b.c) f (K+K+1) qo ⟨he.1.sub hb.1,he.2.sub hb.2⟩ ⟨hf.1.up qo,hf.2.up qo⟩) λn2=>?_;repeat'(first|intro(g:Nat)|refine d108 ?_|intro v)
 refine WC.ret ?_;exact Fp [isQ (qv n2) (Bl.JF (Bl.Jr e.at' b.c) f)] (rcV T.r75) haA ⟨n2,rfl,rfl,rfl⟩
def part_c(gf gi:Nat)(i:Nat)(hi:i<=1000)(ff:FuncId)(fc:List Value)(me:EM)(e:Ed)(K:Nat)(h0K:0<K)(hK:K<=1000000)(hn:Sv K e.t.n)(G:Vc->Rat)(Fc:Fct)
  (hf:∀mv f,Sv K f->FnB Tryz.prog ff ([]++[edv me e,vv mv]++fc) [] [fV mv f,fE me e,Fc] (IsR (G f))) :
  FnB Tryz.prog 103 [edv me e,ptr gf,ptr gi] [] [fE me e,ce gf 166 [.func (.func ff) #[] fc.toArray],ce gi 3 [.int .i64 (i:Int)],Fc] (IsR2 (G (Bl.on e.t i e.t.n)) (G (Bl.on e.t i (Bl.turn e.t.n)))):=by
 refine fO [(0,(edv me e)),(1,(ptr gf)),(2,(ptr gi))] 25 Tryz.func103 Tryz.ntmps103 λh0=>?_;refine WC.fact (fT me.t e.t) (W.Has.et (em:=me) hmA) ?_;refine WC.fact (fV me.t.n e.t.n) (W.Has.tn (tm:=me.t) hmA) ?_
 have hs:∀f,Sv K f->Sv K (Bl.on e.t i f):=λf h=>by
  unfold Bl.on;split
  .exact h
  .split
   .exact⟨h.1.neg,h.2.neg⟩
   .exact⟨Sq.zero.up h0K,Sq.zero.up h0K⟩
 have hn2:Sv K (Bl.turn e.t.n):=⟨hn.2.neg,hn.1⟩
 repeat'(first|intro(g:Nat)|refine d103 ?_|intro v)
 refine cW (on_c me e i me.t.n e.t.n K h0K hK hn hi) λm2=>?_;repeat'(first|intro(g:Nat)|refine d103 ?_|intro v)
 refine WD.Xs [] fc (vs:=[edv me e,vv m2]) (hf m2 _ (hs _ hn)) ?_;rintro _ _ _ ⟨n1,rfl,rfl,rfl⟩;refine sNn ?_;repeat'(first|intro(g:Nat)|refine d103 ?_|intro v)
 refine cW (across_c me.t.n e.t.n) λm3=>?_;repeat'(first|intro(g:Nat)|refine d103 ?_|intro v)
 refine cW (on_c me e i m3 (Bl.turn e.t.n) K h0K hK hn2 hi) λm4=>?_;repeat'(first|intro(g:Nat)|refine d103 ?_|intro v)
 refine WD.Xs [] fc (vs:=[edv me e,vv m4]) (hf m4 _ (hs _ hn2)) ?_;rintro _ _ _ ⟨n2,rfl,rfl,rfl⟩;refine sNn ?_;repeat'(first|intro(g:Nat)|refine d103 ?_|intro v)
 refine WC.ret ?_;exact Fp [isQ (qv n1) (G (Bl.on e.t i e.t.n)),isQ (qv n2) (G (Bl.on e.t i (Bl.turn e.t.n)))] (Qg.cc rfl rfl rfl meA meA T.r75 rfl T.r75 rfl) haA ⟨n1,n2,rfl,rfl,rfl⟩
end K
def IsPart(i:Nat)(f:Value)(gi:Nat):Qf:=λv B G=>∃gf,v=.func (.func 103) #[] #[ptr gf,ptr gi]/\B=[]/\G=[ce gf 166 [f]]
def co2(fx fy:Nat->Rat)(s:Rat)(j:Nat):Rat:=(if j%2=0 then fx (j/2) else fy (j/2))*s
def IsAdd(g4:Nat)(vars:Int)(gv:Value)(n:Nat)(ms:Nat->LnM)(xs:Nat->LnX):Qf:=λv B G=>∃lv mm,v=.tuple #[]/\B=[Ow.cells g4 118 [.int .i64 vars,lv,gv],lO QW lv 141 (n+1) (upd ms n mm) xs]/\G=[fLx mm (xs n)]
namespace K
attribute [local irreducible] WC WL WD YO LO Qq W.Fin Qv Qh Qj Row QV Qy KnS Has W.One Qp QJ
def d100{G G':Prop}(h:G')(s:Bx G'->G:=by
 intro h;first|refine gM ?_|refine Vh ?_|(apply WC.draw (id:=1) [0,1,4,5] (.h 0<|.h 1<|.h 5<|.m 2 (.m 3 (.h 4<|.m 6 (.m 7 (.l 8<|.l 9<|.l 10 .done) (.l 8<|.l 7<|.l 9<|.l 10 .done)) (.m 7 (.m 6 (.l 8<|.l 9<|.l 10 .done) (.l 8<|.l 6<|.l 9<|.l 10 .done)) (.l 8<|.m 6 (.l 7<|.l 9<|.l 10 .done) (.l 7<|.l 6<|.l 9<|.l 10 .done)))) (.m 7 (.m 3 (.h 4<|.m 6 (.l 8<|.l 9<|.l 10 .done) (.l 8<|.l 6<|.l 9<|.l 10 .done)) (.l 8<|.l 3<|.h 4<|.l 6<|.l 9<|.l 10 .done)) (.l 8<|.m 3 (.h 4<|.m 6 (.l 7<|.l 9<|.l 10 .done) (.l 7<|.l 6<|.l 9<|.l 10 .done)) (.l 7<|.l 3<|.h 4<|.l 6<|.l 9<|.l 10 .done)))) (.m 7 (.m 2 (.m 3 (.h 4<|.m 6 (.l 8<|.l 9<|.l 10 .done) (.l 8<|.l 6<|.l 9<|.l 10 .done)) (.l 8<|.l 3<|.h 4<|.l 6<|.l 9<|.l 10 .done)) (.l 8<|.l 2<|.l 3<|.h 4<|.l 6<|.l 9<|.l 10 .done)) (.l 8<|.m 2 (.m 3 (.h 4<|.m 6 (.l 7<|.l 9<|.l 10 .done) (.l 7<|.l 6<|.l 9<|.l 10 .done)) (.l 7<|.l 3<|.h 4<|.l 6<|.l 9<|.l 10 .done)) (.l 7<|.l 2<|.l 3<|.h 4<|.l 6<|.l 9<|.l 10 .done)))) mixed kr)|(apply WC.draw (id:=6) [0,1,2,3,5,6] (.h 0<|.h 1<|.h 2<|.h 3<|.h 5<|.h 6<|.l 4<|.l 7<|.l 8<|.l 9<|.f 10<|.l 11 .done) mixed kr)|fail
 exact Bx.h h):G:=s ⟨h⟩
def FO(gi:Nat)(i:Nat)(ff:FuncId)(fc:List Value):FnB Tryz.prog 102 [.func (.func ff) #[] fc.toArray,ptr gi] [] [] (IsPart i (.func (.func ff) #[] fc.toArray) gi):=by
 refine fO [(0,(.func (.func ff) #[] fc.toArray)),(1,(ptr gi))] 5 Tryz.func102 Tryz.ntmps102 λh0=>?_;repeat'(first|intro(g:Nat)|refine gA ?_|intro v)
 refine WC.keep Rem.head ?_;refine WC.ret ?_;exact Fp [ce g 166 [.func (.func ff) #[] fc.toArray]] (Qg.t1 rfl rfl) haA ⟨g,rfl,rfl,rfl⟩
def VL(g3 g4:Nat)(va:Value)(E n:Nat)(em:Nat->EM)(ed:Nat->Ed)(sign:Int)(hsg:sign.natAbs<1000)(mb:QM)(most:Rat)(lv gv:Value)(vars:Int)(ms:Nat->LnM)(xs:Nat->LnX)(ff:FuncId)(fc:List Value)(Fc:Fct)(fx fy:Nat->Rat)(K:Nat)(h0K:0<K)(hK:K<=1000000)(hE:E<=1000)(hn:n<=1000)
  (hmost:Sq K most) (hfx:∀k,k<E->Sq K (fx k)) (hfy:∀k,k<E->Sq K (fy k)) (hxs:xs n=⟨2*E,co2 fx fy (Rat.divInt sign 1),most*Rat.divInt sign 1⟩)
  (hf:∀k,k<E->FnB Tryz.prog ff ([]++[edv (em k) (ed k)]++fc) [] [fE (em k) (ed k),Fc] (IsR2 (fx k) (fy k))) :
  FnB Tryz.prog 100 [.int .i64 sign,qv mb,.func (.func ff) #[] fc.toArray,ptr g3,ptr g4] [Ow.cells g4 118 [.int .i64 vars,lv,gv],lO QW lv 141 n ms xs] [isQ (qv mb) most,ce g3 159 [va],lF JG va E em ed,Fc] (IsAdd g4 vars gv n ms xs):=by
 refine fO [(0,(.int .i64 sign)),(1,(qv mb)),(2,(.func (.func ff) #[] fc.toArray)),(3,(ptr g3)),(4,(ptr g4))] 51 Tryz.func100 Tryz.ntmps100 λh0=>?_;have hs2:Sq K (Rat.divInt sign 1):=De K h0K sign qo;repeat'(first|intro(g:Nat)|refine gA ?_|intro v)
 refine WC.Y4 (σ:=Nat×Nat×QM×QM) (λs=>[(8,ptr s.1),(9,ptr s.2.1),(2,.func (.func ff) #[] fc.toArray),(3,ptr g3),(4,ptr g4)])
  (λs=>[Ow.cells s.1 141 [.slice none 0 0,.bool s.2.2.1.1,s.2.2.1.2.1,.bool false,s.2.2.1.2.2],Ow.cells s.2.1 75 (qcs s.2.2.2),Ow.cells g4 118 [.int .i64 vars,lv,gv],lO QW lv 141 n ms xs])
  (λs=>[isQ (qv s.2.2.1) (most*Rat.divInt sign 1),isQ (qv s.2.2.2) (Rat.divInt sign 1),ge h0,ce g3 159 [va],lF JG va E em ed,Fc]) (λ_=>True) ?_ ?_
 .repeat'(first|intro(g:Nat)|refine d100 ?_|refine gN ?_ ?_|refine cW (Zn.of sign 1 (by show _<1000000000000000000;omega) qd) λzm=>?_|refine cW (Zn.mul mb _ most (Rat.divInt sign 1) (hmost.sm qo) (hs2.sm qo)) λzm=>?_|intro v)
  all_goals(apply Ex4;refine⟨trivial,?_,?_,?_⟩;(focus(repeat(first|exact Sub.nil _|refine Sub.cons rfl ?_)));exact wq123;exact wq20)
 rintro⟨g8,g9,n2,n3⟩ _;simp only;refine WC.QP 75 4 ?_;repeat'(first|intro(g:Nat)|refine d100 ?_|refine gN ?_ ?_|intro v)
 refine WC.lp (σ:=Nat×Value×(Nat->QM)) (λst=>[(23,.int .i64 (st.1:Int)),(22,.int .i64 (E:Int)),(21,va),(8,ptr g8),(9,ptr g9),(2,.func (.func ff) #[] fc.toArray),(3,ptr g3),(4,ptr g4)])
  (λst=>[Ow.slice st.2.1 75 4 (Qa (2*st.1) st.2.2),Ow.cells g8 141 [st.2.1,.bool n2.1,n2.2.1,.bool false,n2.2.2],Ow.cells g9 75 (qcs n3),Ow.cells g4 118 [.int .i64 vars,lv,gv],lO QW lv 141 n ms xs])
  (λst=>[mF (2*st.1) st.2.2 (co2 fx fy (Rat.divInt sign 1)),isQ (qv n2) (most*Rat.divInt sign 1),isQ (qv n3) (Rat.divInt sign 1),ge h0,ce g3 159 [va],lF JG va E em ed,Fc]) (λst=>st.1<=E) (λst=>E-st.1) (0,.slice none 0 0,λ_=>m00) (Nat.zero_le _) ?_ (hG:=.cons (W.Has.mFn _ _) haA)
 rintro⟨k,vq,mq⟩ hk;simp only at hk ⊢;by_cases c:k<E
 .refine WC.fact (fE (em k) (ed k)) (W.Has.lk (S:=JG) (v:=va) hmA c) ?_;repeat'(first|intro(g:Nat)|refine d100 ?_|refine gN ?_ ?_|intro v)
  refine WL.Xs [] fc (vs:=[edv (em k) (ed k)]) (hf k c) ?_;rintro _ _ _ ⟨m1,m2,rfl,rfl,rfl⟩;refine sNn ?_;repeat'(first|intro(g:Nat)|refine d100 ?_|refine gN ?_ ?_|intro v)
  refine cW (Zn.mul m1 n3 (fx k) (Rat.divInt sign 1) ((hfx k c).sm qo) (hs2.sm qo)) λn4=>?_;repeat'(first|intro(g:Nat)|refine d100 ?_|refine gN ?_ ?_|intro v)
  refine cW (Zn.mul m2 n3 (fy k) (Rat.divInt sign 1) ((hfy k c).sm qo) (hs2.sm qo)) λn5=>?_;repeat'(first|intro(g:Nat)|refine d100 ?_|refine gN ?_ ?_|intro v)
  have e1:co2 fx fy (Rat.divInt sign 1) (2*k)=fx k*Rat.divInt sign 1:=by unfold co2;rw[if_pos qo,show 2*k/2=k by omega]
  have e2:co2 fx fy (Rat.divInt sign 1) (2*k+1)=fy k*Rat.divInt sign 1:=by unfold co2;rw[if_neg qo,show(2*k+1)/2=k by omega]
  exact Qq.mk (k+1,_,upd (upd mq (2*k) n4) (2*k+1) n5) wq18 wq18 (hG:=.cons (W.Has.QN (W.Has.mFapp (W.Has.mFapp (n:=2*k) (qf:=co2 fx fy (Rat.divInt sign 1)) hmA (m:=n4) (z:=fx k*Rat.divInt sign 1) hmA) (m:=n5) (z:=fy k*Rat.divInt sign 1) hmA) (λj hj=>by unfold upd;split;(rename_i e;rw[e];exact e2.symm);split;(rename_i e;rw[e];exact e1.symm);rfl)) haA)
 .obtain rfl:k=E:=qo;repeat'(first|intro(g:Nat)|refine d100 ?_|refine gN ?_ ?_|intro v)
  refine WL.Xd vq (2*k) mq (co2 fx fy (Rat.divInt sign 1)) wq3 hmA ?_;refine WL.QE (fLx ⟨vq,mq,n2⟩ (xs n)) (by rw[hxs];exact W.Has.lof hmA hmA) ?_;repeat'(first|intro(g:Nat)|refine d100 ?_|refine gN ?_ ?_|intro v)
  exact Fin.p [_,_] [fLx ⟨vq,mq,n2⟩ (xs n)] (Qg.t0 rfl) meA slA haA ⟨_,⟨vq,mq,n2⟩,rfl,rfl,rfl⟩
end K
end
section
open Bl (Vc Bd Tc Sc)
def LO.ofY{P:Program}{e:Env}{bx:List Ow}{F:List Fct}{ty:TypeId}{op:Op}{r:Value}{K:Qf}(hy:YO P op ty e bx F r)(h:K r bx F):LO P op ty e bx F K:=λn fr a w o K' h1 h2 h3 h4 h5=>by
 have:=hy n fr a w o h1 h2 h3 h4;rw[this.1];refine .inl ⟨.look this.2,?_⟩;rw[Qt (Nat.le_refl _)];exact h5 fr r w bx F (.refl _) (Rest.refl w) h4 h
attribute [local irreducible] WC WL WD YO LO Qq W.Fin Qv Qh Qj Row QV Qy KnS Has W.One Qp QJ
namespace K
def goYB{G G':Prop}(h:G')(s:Bx G'->G:=by
 intro h
 (apply WD.yl;exact rfl;(first|exact wq149|fail);exact rfl;exact rfl)
 exact Bx.h h):G:=s ⟨h⟩
def goLY{G G':Prop}(h:G')(s:Bx G'->G:=by
 intro h
 (apply LO.ofY;(first|exact wq149|fail);constructor;exact ltA)
 exact Bx.h h):G:=s ⟨h⟩
end K
end
section
open Bl (Vc Bd Tc Sc)
def IsZer(E:Nat)(mb:QM):Qf:=λv B G=>∃va,v=.agg #[va,.bool mb.1,mb.2.1,.bool false,mb.2.2]/\B=[Ow.slice va 75 4 (Qa (2*E) λ_=>m00)]/\G=[]
def J0(S:Sc)(r:Nat):LnX:=if r<3*(2*S.m) then⟨2*(2*S.m),Bl.coE (S.T (r/6)).r (r/3) (r%3),0⟩ else⟨2*(2*S.m),Bl.coS S (r-3*(2*S.m)),(S.B (r-3*(2*S.m))).st⟩
def limX_E{S:Sc}{i:Nat}(h:i<2*S.m):J0 S (3*i)=⟨2*(2*S.m),Bl.coE (S.T (i/2)).r i 0,0⟩/\J0 S (3*i+1)=⟨2*(2*S.m),Bl.coE (S.T (i/2)).r i 1,0⟩/\J0 S (3*i+2)=⟨2*(2*S.m),Bl.coE (S.T (i/2)).r i 2,0⟩:=by
 unfold J0;rw[if_pos qo,if_pos qo,if_pos qo,show 3*i/6=i/2 by omega,show 3*i/3=i by omega,show 3*i%3=0 by omega,show(3*i+1)/6=i/2 by omega,show(3*i+1)/3=i by omega,show(3*i+1)%3=1 by omega,show(3*i+2)/6=i/2 by omega,show(3*i+2)/3=i by omega,show(3*i+2)%3=2 by omega];exact⟨rfl,rfl,rfl⟩
def limX_S{S:Sc}{i:Nat}:J0 S (3*(2*S.m)+i)=⟨2*(2*S.m),Bl.coS S i,(S.B i).st⟩:=by
 unfold J0;rw[if_neg qo,show 3*(2*S.m)+i-3*(2*S.m)=i by omega]
def coE_0(r:Rat)(i j:Nat):upd (λ_=>0) ((2*(i:Int)).toNat) (-1) j=Bl.coE r i 0 j:=by
 unfold upd Bl.coE;rw[show(2*(i:Int)).toNat=2*i by omega];split
 .rfl
 .split<;>rfl
def coE_s(r a b:Rat)(i s j:Nat)(ha:a= -r)(hs:s=1/\b=1\/s=2/\b= -1):upd (upd (λ_=>0) ((2*(i:Int)).toNat) a) ((2*(i:Int)+1).toNat) b j=Bl.coE r i s j:=by
 unfold upd Bl.coE;rw[show(2*(i:Int)).toNat=2*i by omega,show(2*(i:Int)+1).toNat=2*i+1 by omega];by_cases h1:j=2*i+1
 .rw[if_pos h1,if_neg qo,if_pos h1,if_neg qo];rcases hs with ⟨rfl,rfl⟩|⟨rfl,rfl⟩
  .rw[if_pos rfl]
  .rw[if_neg qd]
 .rw[if_neg h1];by_cases h2:j=2*i
  .rw[if_pos h2,if_pos h2,if_neg qo,ha]
  .rw[if_neg h2,if_neg h2,if_neg h1]
def Vu(S:Sc)(i k j:Nat):Rat:=if j<2*k then Bl.coS S i j else 0
def coSk_t{S:Sc}{i k:Nat}(h:Bl.tch (S.T (k/2)) i)(j:Nat):upd (Vu S i k) ((2*(k:Int)).toNat) (Bl.spn (S.T (k/2)).n) j=Vu S i (k+1) j:=by
 unfold upd Vu Bl.coS;rw[show(2*(k:Int)).toNat=2*k by omega];by_cases h1:j=2*k
 .rw[if_pos h1,if_pos qo,show j/4=k/2 by omega,if_pos ⟨by omega,h⟩]
 .rw[if_neg h1];by_cases h2:j<2*k
  .rw[if_pos h2,if_pos (show j<2*(k+1) by omega)]
  .rw[if_neg h2];by_cases h3:j<2*(k+1)
   .rw[if_pos h3,if_neg (λh=>by omega)]
   .rw[if_neg h3]
def coSk_n{S:Sc}{i k:Nat}(h:¬Bl.tch (S.T (k/2)) i)(j:Nat):Vu S i k j=Vu S i (k+1) j:=by
 unfold Vu Bl.coS;by_cases h2:j<2*k
 .rw[if_pos h2,if_pos (show j<2*(k+1) by omega)]
 .rw[if_neg h2];by_cases h3:j<2*(k+1)
  .rw[if_pos h3,if_neg (λhx=>h (by rw[show j/4=k/2 by omega] at hx;exact hx.2))]
  .rw[if_neg h3]
def IsLim(S:Sc):Qf:=λv B G=>∃ms,B=[]/\G=[lF QW v (3*(2*S.m)+S.n) ms (J0 S)]
namespace K
attribute [local irreducible] WC WL WD YO LO Qq W.Fin Qv Qh Qj Row QV Qy KnS Has W.One Qp QJ
def d111{G G':Prop}(h:G')(s:Bx G'->G:=by
 intro h;first|refine gB ?_|refine gY ?_|(apply WC.draw (id:=9) [0,1,2,3,4,6] (.h 0<|.h 1<|.h 2<|.h 3<|.h 4<|.l 5<|.h 6<|.l 7 .done) mixed kr)|(apply WC.drawS (id:=10) [0,1,2,3,4,5,6,7,8,9,10] (.h 0<|.h 1<|.h 2<|.h 3<|.h 4<|.h 5<|.h 6<|.h 7<|.h 8<|.h 9<|.h 10<|.l 11<|.l 12<|.l 13<|.l 14 .done) mixed kr;exact wq110)|(apply WC.drawS (id:=11) [0,1,2,3,4,5,6,7,8,9,10] (.h 0<|.h 1<|.h 2<|.h 3<|.h 4<|.h 5<|.h 6<|.h 7<|.h 8<|.h 9<|.h 10<|.l 11<|.l 12<|.l 13<|.l 14<|.l 15 .done) mixed kr;exact wq110)|(apply WC.draw (id:=22) [0,1,2,3,4,5,6,8] (.h 0<|.h 1<|.h 2<|.h 3<|.h 4<|.h 5<|.h 6<|.l 7<|.h 8<|.l 9 .done) mixed kr)|fail
 exact Bx.h h):G:=s ⟨h⟩
def d185{G G':Prop}(h:G')(s:Bx G'->G:=by
 intro h;first|refine gB ?_|refine gY ?_|(apply WC.draw (id:=1) [0,1,2,4] (.h 0<|.h 1<|.h 2<|.h 4<|.l 3<|.l 5<|.l 6 .done) mixed kr)|fail
 exact Bx.h h):G:=s ⟨h⟩
def VD(g3:Nat)(va:Value)(E:Nat)(em:Nat->EM)(ed:Nat->Ed)(mb:QM)(most:Rat)(hE:E<=1000):FnB Tryz.prog 185 [qv mb,ptr g3] [] [isQ (qv mb) most,ce g3 159 [va],lF JG va E em ed] (IsZer E mb):=by
 refine fO [(0,(qv mb)),(1,(ptr g3))] 10 Tryz.func185 Tryz.ntmps185 λh0=>?_;repeat'(first|intro(g:Nat)|refine d185 ?_|intro v)
 refine WC.ret ?_;exact Fin.p [_] [] (Qg.cV rfl rfl meA T.r141 rfl) meA slA .nil ⟨v,rfl,rfl,rfl⟩
def limits_c(M:SM)(S:Sc)(va:Value)(K:Nat)(h0K:0<K)(hK:K<=1000000)(hs:Ss K S)(ho:S.ok):FnB Tryz.prog 111 [M.l,va] [] [fSl M S,lF JG va (2*S.m) (edM M.T) (edT S.T),fSt M S] (IsLim S):=by
 refine fO [(0,M.l),(1,va)] 128 Tryz.func111 Tryz.ntmps111 λh0=>?_;have hn:=ho.n;have hm:=ho.m;repeat'(first|intro(g:Nat)|refine d111 ?_|intro v)
 refine cW (Zn.of 1 1 qd qd) λn1=>?_;rw[show Rat.divInt 1 1=1 by decide +kernel];repeat'(first|intro(g:Nat)|refine d111 ?_|intro v)
 revert g;intro g7;refine WC.keep (g:=g) (t:=159) (cs:=[va]) wq9 ?_;revert g;intro g3;refine WC.QP 141 5 ?_
 refine WC.JS (σ:=Value×(Nat->LnM)) (λst=>[(0,M.l),(3,ptr g3),(5,st.1),(6,.func (.func 185) #[] #[ptr g3])]) (λst=>[lO QW st.1 141 (3*(2*S.m)) st.2 (J0 S)])
  (λst=>[lM QW (3*(2*S.m)) st.2 (J0 S),ge h0,ce g3 159 [va],fSl M S,lF JG va (2*S.m) (edM M.T) (edT S.T),fSt M S]) (λ_=>True) ?_ ?_
 .refine WC.lp (σ:=Nat×Value×(Nat->LnM)) (λst=>[(23,.int .i64 (st.1:Int)),(22,.int .i64 ((2*S.m:Nat):Int)),(21,va),(0,M.l),(3,ptr g3),(5,st.2.1),(6,.func (.func 185) #[] #[ptr g3]),(7,ptr g7)])
   (λst=>[lO QW st.2.1 141 (3*st.1) st.2.2 (J0 S),Ow.cells g7 75 (qcs n1)])
   (λst=>[lM QW (3*st.1) st.2.2 (J0 S),isQ (qv n1) 1,ge h0,ce g3 159 [va],fSl M S,lF JG va (2*S.m) (edM M.T) (edT S.T),fSt M S]) (λst=>st.1<=2*S.m) (λst=>2*S.m-st.1) (0,.slice none 0 0,λ_=>⟨.slice none 0 0,λ_=>m00,m00⟩) (Nat.zero_le _) ?_ (hG:=.cons W.Has.Z3 haA)
  rintro⟨i,lv,ms⟩ hi;simp only at hi ⊢;by_cases c:i<2*S.m
  .refine WC.fact (fE (edM M.T i) (edT S.T i)) (W.Has.lk (S:=JG) (v:=va) hmA c) ?_;refine WC.fact (fT (edM M.T i).t (edT S.T i).t) (W.Has.et (em:=edM M.T i) hmA) ?_;refine WC.fact (isQ (qv (edM M.T i).t.r) (edT S.T i).t.r) (W.Has.trr (t:=(edT S.T i).t) hmA) ?_;repeat'(first|intro(g:Nat)|refine d111 ?_|intro v)
   refine cW (Zn.neg (edM M.T i).t.r (edT S.T i).t.r) λn2=>?_;repeat'(first|intro(g:Nat)|refine d111 ?_|intro v)
   refine WL.Xs [] [ptr g3] (vs:=[qv m00]) (VD g3 va (2*S.m) (edM M.T) (edT S.T) m00 0 qo) ?_;rintro _ _ _ ⟨v1,rfl,rfl,rfl⟩;refine sNn ?_;repeat'(first|intro(g:Nat)|refine d111 ?_|intro v)
   refine WL.Xs [] [ptr g3] (vs:=[qv m00]) (VD g3 va (2*S.m) (edM M.T) (edT S.T) m00 0 qo) ?_;rintro _ _ _ ⟨v2,rfl,rfl,rfl⟩;refine sNn ?_;repeat'(first|intro(g:Nat)|refine d111 ?_|intro v)
   refine WL.Xs [] [ptr g3] (vs:=[qv m00]) (VD g3 va (2*S.m) (edM M.T) (edT S.T) m00 0 qo) ?_;rintro _ _ _ ⟨v3,rfl,rfl,rfl⟩;refine sNn ?_;repeat'(first|intro(g:Nat)|refine d111 ?_|intro v)
   refine cW (Zn.neg n1 1) λn3=>?_;repeat'(first|intro(g:Nat)|refine d111 ?_|intro v)
   refine cW (Zn.neg n1 1) λn4=>?_;repeat'(first|intro(g:Nat)|refine d111 ?_|intro v)
   obtain⟨e0,e1,e2⟩:=limX_E c;refine WL.Xd v1 (2*(2*S.m)) (upd (λ_=>m00) (2*(i:Int)).toNat n3) (Bl.coE (S.T (i/2)).r i 0) wq3 (W.Has.QN (W.Has.Xh (W.Has.mF0 _) (z:=-1) hmA) λj _=>coE_0 _ i j) ?_;refine WL.Xd v2 (2*(2*S.m)) (upd (upd (λ_=>m00) (2*(i:Int)).toNat n2) (2*(i:Int)+1).toNat n1) (Bl.coE (S.T (i/2)).r i 1) wq3 (W.Has.QN (W.Has.Xh (W.Has.Xh (W.Has.mF0 _) (z:=-(edT S.T i).t.r) hmA) (z:=1) hmA) λj _=>coE_s _ _ _ i 1 j rfl (.inl ⟨rfl,rfl⟩)) ?_;refine WL.Xd v3 (2*(2*S.m)) (upd (upd (λ_=>m00) (2*(i:Int)).toNat n2) (2*(i:Int)+1).toNat n4) (Bl.coE (S.T (i/2)).r i 2) wq3 (W.Has.QN (W.Has.Xh (W.Has.Xh (W.Has.mF0 _) (z:=-(edT S.T i).t.r) hmA) (z:=-1) hmA) λj _=>coE_s _ _ _ i 2 j rfl (.inr ⟨rfl,rfl⟩)) ?_;refine WL.QE (fLx ⟨v1,upd (λ_=>m00) (2*(i:Int)).toNat n3,m00⟩ (J0 S (3*i))) (by rw[e0];exact W.Has.lof hmA JA) ?_;refine WL.QE (fLx ⟨v2,upd (upd (λ_=>m00) (2*(i:Int)).toNat n2) (2*(i:Int)+1).toNat n1,m00⟩ (J0 S (3*i+1))) (by rw[e1];exact W.Has.lof hmA JA) ?_;refine WL.QE (fLx ⟨v3,upd (upd (λ_=>m00) (2*(i:Int)).toNat n2) (2*(i:Int)+1).toNat n4,m00⟩ (J0 S (3*i+2))) (by rw[e2];exact W.Has.lof hmA JA) ?_;repeat'(first|intro(g:Nat)|refine d111 ?_|intro v)
   exact Qq.mk (i+1,_,_) wq18 wq18 (hG:=.cons (W.Has.YU (W.Has.YU (W.Has.YU (S:=QW) (n:=3*i) (ms:=ms) (xs:=J0 S) hmA (mm:=⟨v1,_,m00⟩) hmA) (mm:=⟨v2,_,m00⟩) hmA) (mm:=⟨v3,_,m00⟩) hmA) haA)
  .obtain rfl:i=2*S.m:=qo;repeat'(first|intro(g:Nat)|refine d111 ?_|intro v)
   exact Qs (lv,ms) trivial
 .rintro⟨lv,ms⟩ _;simp only;repeat'(first|intro(g:Nat)|refine d111 ?_|intro v)
  refine WC.lp (σ:=Nat×Value×(Nat->LnM)) (λst=>[(84,.int .i64 (st.1:Int)),(83,.int .i64 (S.n:Int)),(82,M.l),(3,ptr g3),(5,st.2.1),(6,.func (.func 185) #[] #[ptr g3])])
   (λst=>[lO QW st.2.1 141 (3*(2*S.m)+st.1) st.2.2 (J0 S)])
   (λst=>[lM QW (3*(2*S.m)+st.1) st.2.2 (J0 S),ge h0,ce g3 159 [va],fSl M S,lF JG va (2*S.m) (edM M.T) (edT S.T),fSt M S]) (λst=>st.1<=S.n) (λst=>S.n-st.1) (0,lv,ms) (Nat.zero_le _) ?_
  rintro⟨i,lv,ms⟩ hi;simp only at hi ⊢;by_cases c:i<S.n
  .refine WC.fact (fB (M.B i) (S.B i)) (W.Has.lk (S:=Qo) (v:=M.l) hmA c) ?_;refine WC.fact (isQ (qv (M.B i).st) (S.B i).st) (W.Has.bs (b:=S.B i) hmA) ?_;repeat'(first|intro(g:Nat)|refine d111 ?_|intro v)
   refine WL.Xs [] [ptr g3] (vs:=[qv (M.B i).st]) (VD g3 va (2*S.m) (edM M.T) (edT S.T) (M.B i).st (S.B i).st qo) ?_;rintro _ _ _ ⟨v1,rfl,rfl,rfl⟩;refine sNn ?_;repeat'(first|intro(g:Nat)|refine d111 ?_|intro v)
   revert g;intro g16
   refine WC.JS (σ:=Nat->QM) (λ_=>[(14,.int .i64 (i:Int)),(16,ptr g16),(84,.int .i64 (i:Int)),(83,.int .i64 (S.n:Int)),(82,M.l),(3,ptr g3),(5,lv),(6,.func (.func 185) #[] #[ptr g3])])
    (λmq=>[Ow.cells g16 141 [v1,.bool (M.B i).st.1,(M.B i).st.2.1,.bool false,(M.B i).st.2.2],Ow.slice v1 75 4 (Qa (2*(2*S.m)) mq),lO QW lv 141 (3*(2*S.m)+i) ms (J0 S)])
    (λmq=>[mF (2*(2*S.m)) mq (Bl.coS S i),isQ (qv (M.B i).st) (S.B i).st,lM QW (3*(2*S.m)+i) ms (J0 S),ge h0,ce g3 159 [va],fSl M S,lF JG va (2*S.m) (edM M.T) (edT S.T),fSt M S]) (λ_=>True) ?_ ?_
   .refine WC.lp (σ:=Nat×(Nat->QM)) (λst=>[(95,.int .i64 (st.1:Int)),(94,.int .i64 ((2*S.m:Nat):Int)),(93,va),(14,.int .i64 (i:Int)),(16,ptr g16),(84,.int .i64 (i:Int)),(83,.int .i64 (S.n:Int)),(82,M.l),(3,ptr g3),(5,lv),(6,.func (.func 185) #[] #[ptr g3])])
     (λst=>[Ow.cells g16 141 [v1,.bool (M.B i).st.1,(M.B i).st.2.1,.bool false,(M.B i).st.2.2],Ow.slice v1 75 4 (Qa (2*(2*S.m)) st.2),lO QW lv 141 (3*(2*S.m)+i) ms (J0 S)])
     (λst=>[mF (2*(2*S.m)) st.2 (Vu S i st.1),isQ (qv (M.B i).st) (S.B i).st,lM QW (3*(2*S.m)+i) ms (J0 S),ge h0,ce g3 159 [va],fSl M S,lF JG va (2*S.m) (edM M.T) (edT S.T),fSt M S]) (λst=>st.1<=2*S.m) (λst=>2*S.m-st.1) (0,λ_=>m00) (Nat.zero_le _) ?_ (hG:=.cons (W.Has.QN (W.Has.mF0 _) λj _=>by unfold Vu;rw[if_neg qo]) haA)
    rintro⟨k,mq⟩ hk;simp only at hk ⊢;by_cases d:k<2*S.m
    .refine WC.fact (fE (edM M.T k) (edT S.T k)) (W.Has.lk (S:=JG) (v:=va) hmA d) ?_;refine WC.fact (fT (edM M.T k).t (edT S.T k).t) (W.Has.et (em:=edM M.T k) hmA) ?_;refine WC.fact (fV (edM M.T k).t.n (edT S.T k).t.n) (W.Has.tn (tm:=(edM M.T k).t) hmA) ?_;have hsn:Sv K (edT S.T k).t.n:=(hs.T (k/2) qo).2.2.1;by_cases d1:(edT S.T k).t.a=(i:Int)
     .repeat'(first|intro(g:Nat)|refine d111 ?_|intro v)
      refine cW (span_c (edM M.T k).t.n (edT S.T k).t.n K hK hsn) λn5=>?_;repeat'(first|intro(g:Nat)|refine d111 ?_|intro v)
      exact Qq.mk (k+1,_) wq18 wq18 (hG:=.cons (W.Has.QN (W.Has.Xh (qf:=Vu S i k) hmA (z:=Bl.spn (edT S.T k).t.n) hmA) λj _=>coSk_t (.inl d1) j) haA)
     .by_cases d2:(edT S.T k).t.b=(i:Int)
      .repeat'(first|intro(g:Nat)|refine d111 ?_|intro v)
       refine cW (span_c (edM M.T k).t.n (edT S.T k).t.n K hK hsn) λn5=>?_;repeat'(first|intro(g:Nat)|refine d111 ?_|intro v)
       exact Qq.mk (k+1,_) wq18 wq18 (hG:=.cons (W.Has.QN (W.Has.Xh (qf:=Vu S i k) hmA (z:=Bl.spn (edT S.T k).t.n) hmA) λj _=>coSk_t (.inr d2) j) haA)
      .repeat'(first|intro(g:Nat)|refine d111 ?_|intro v)
       exact Qq.mk (k+1,mq) wq18 wq18 (hG:=.cons (W.Has.QN (qf:=Vu S i k) hmA λj _=>coSk_n (λh=>h.elim d1 d2) j) haA)
    .obtain rfl:k=2*S.m:=qo;repeat'(first|intro(g:Nat)|refine d111 ?_|intro v)
     exact Qs mq trivial (hG:=.cons (W.Has.QN (qf:=Vu S i (2*S.m)) hmA λj hj=>if_pos hj) haA)
   .intro mq _;repeat'(first|intro(g:Nat)|refine d111 ?_|intro v)
    refine WL.Xd v1 (2*(2*S.m)) mq (Bl.coS S i) wq3 hmA ?_;refine WL.QE (fLx ⟨v1,mq,(M.B i).st⟩ (J0 S (3*(2*S.m)+i))) (by rw[limX_S];exact W.Has.lof hmA hmA) ?_;repeat'(first|intro(g:Nat)|refine d111 ?_|intro v)
    exact Qq.mk (i+1,_,_) wq18 wq18 (hG:=.cons (W.Has.YU (S:=QW) (n:=3*(2*S.m)+i) (ms:=ms) (xs:=J0 S) hmA (mm:=⟨v1,mq,(M.B i).st⟩) hmA) haA)
  .obtain rfl:i=S.n:=qo;repeat'(first|intro(g:Nat)|refine d111 ?_|intro v)
   refine WC.QY (S:=QW) (n:=3*(2*S.m)+S.n) (ms:=ms) (xs:=J0 S) wq3 hmA ?_;refine WC.ret ?_;exact Fp [lF QW lv (3*(2*S.m)+S.n) ms (J0 S)] (Qg.t1 rfl rfl) haA ⟨ms,rfl,rfl⟩
end K
end
end Go.Proofs.YtbnobghgnbockaaGreat
