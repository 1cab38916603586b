/- Lemmas. Conditions: none. -/
import Derived.Test.YtbnobghgnbockaaGreatZk4
set_option linter.all false
set_option maxHeartbeats 0
set_option maxRecDepth 100000
namespace Go.Proofs.YtbnobghgnbockaaGreat
open Go.RowKit
namespace W
variable {P:nh}{n:Nat}{L rest:List Oper}{e:Env}{bx b0:nw}{F F0:nc}{Q:Env->nw->nc->Prop}{d j:Nat}{ty:nl}{pos:String}{af:Array Edge}{g:Option (Nat×Bool)}{v:nA}{hs:List Nat}{r:Plan}
def WL.YZ{x:ni}(hy:YO P (.move x) ty e bx F v)(hd:Nat.blt d n=true)(hg:gok L e g=some true)(h:WL P n L rest ((d,v)::e) bx F Q):WL P n L (⟨some d,.move x,ty,pos,af,g⟩::rest) e bx F Q:=WL.y hy hd hg h
def WD.YZ{x:ni}(hL:L[j]?=some ⟨some d,.move x,ty,pos,af,g⟩)(hy:YO P (.move x) ty e b0 F0 v)(hd:Nat.blt d n=true)(hg:gok L e g=some true)(h:WD P n L hs b0 F0 r ((d,v)::e) bx F Q):WD P n L hs b0 F0 (.held j r) e bx F Q:=WD.y hL hy hd hg h
def WL.YX{x:ni}(hy:YO P (.assign x) ty e bx F v)(hd:Nat.blt d n=true)(hg:gok L e g=some true)(h:WL P n L rest ((d,v)::e) bx F Q):WL P n L (⟨some d,.assign x,ty,pos,af,g⟩::rest) e bx F Q:=WL.y hy hd hg h
def WD.YX{x:ni}(hL:L[j]?=some ⟨some d,.assign x,ty,pos,af,g⟩)(hy:YO P (.assign x) ty e b0 F0 v)(hd:Nat.blt d n=true)(hg:gok L e g=some true)(h:WD P n L hs b0 F0 r ((d,v)::e) bx F Q):WD P n L hs b0 F0 (.held j r) e bx F Q:=WD.y hL hy hd hg h
def WL.Hm{c x y:ni}(hy:YO P (.pick c x y) ty e bx F v)(hd:Nat.blt d n=true)(hg:gok L e g=some true)(h:WL P n L rest ((d,v)::e) bx F Q):WL P n L (⟨some d,.pick c x y,ty,pos,af,g⟩::rest) e bx F Q:=WL.y hy hd hg h
def WD.Hm{c x y:ni}(hL:L[j]?=some ⟨some d,.pick c x y,ty,pos,af,g⟩)(hy:YO P (.pick c x y) ty e b0 F0 v)(hd:Nat.blt d n=true)(hg:gok L e g=some true)(h:WD P n L hs b0 F0 r ((d,v)::e) bx F Q):WD P n L hs b0 F0 (.held j r) e bx F Q:=WD.y hL hy hd hg h
def WL.k_nil{x:ni}(hy:YO P (.nilCheck x) ty e bx F v)(hd:Nat.blt d n=true)(hg:gok L e g=some true)(h:WL P n L rest ((d,v)::e) bx F Q):WL P n L (⟨some d,.nilCheck x,ty,pos,af,g⟩::rest) e bx F Q:=WL.y hy hd hg h
def WD.k_nil{x:ni}(hL:L[j]?=some ⟨some d,.nilCheck x,ty,pos,af,g⟩)(hy:YO P (.nilCheck x) ty e b0 F0 v)(hd:Nat.blt d n=true)(hg:gok L e g=some true)(h:WD P n L hs b0 F0 r ((d,v)::e) bx F Q):WD P n L hs b0 F0 (.held j r) e bx F Q:=WD.y hL hy hd hg h
def WL.Xs{t:nl}{x:ni}(hy:YO P (.load t x) ty e bx F v)(hd:Nat.blt d n=true)(hg:gok L e g=some true)(h:WL P n L rest ((d,v)::e) bx F Q):WL P n L (⟨some d,.load t x,ty,pos,af,g⟩::rest) e bx F Q:=WL.y hy hd hg h
def WD.Xs{t:nl}{x:ni}(hL:L[j]?=some ⟨some d,.load t x,ty,pos,af,g⟩)(hy:YO P (.load t x) ty e b0 F0 v)(hd:Nat.blt d n=true)(hg:gok L e g=some true)(h:WD P n L hs b0 F0 r ((d,v)::e) bx F Q):WD P n L hs b0 F0 (.held j r) e bx F Q:=WD.y hL hy hd hg h
def WL.QS{t:nl}{x:ni}{i:Nat}(hy:YO P (.fieldAddr t x i) ty e bx F v)(hd:Nat.blt d n=true)(hg:gok L e g=some true)(h:WL P n L rest ((d,v)::e) bx F Q):WL P n L (⟨some d,.fieldAddr t x i,ty,pos,af,g⟩::rest) e bx F Q:=WL.y hy hd hg h
def WD.QS{t:nl}{x:ni}{i:Nat}(hL:L[j]?=some ⟨some d,.fieldAddr t x i,ty,pos,af,g⟩)(hy:YO P (.fieldAddr t x i) ty e b0 F0 v)(hd:Nat.blt d n=true)(hg:gok L e g=some true)(h:WD P n L hs b0 F0 r ((d,v)::e) bx F Q):WD P n L hs b0 F0 (.held j r) e bx F Q:=WD.y hL hy hd hg h
def WL.Jz{t:nl}{x y:ni}(hy:YO P (.indexAddr t x y) ty e bx F v)(hd:Nat.blt d n=true)(hg:gok L e g=some true)(h:WL P n L rest ((d,v)::e) bx F Q):WL P n L (⟨some d,.indexAddr t x y,ty,pos,af,g⟩::rest) e bx F Q:=WL.y hy hd hg h
def WD.Jz{t:nl}{x y:ni}(hL:L[j]?=some ⟨some d,.indexAddr t x y,ty,pos,af,g⟩)(hy:YO P (.indexAddr t x y) ty e b0 F0 v)(hd:Nat.blt d n=true)(hg:gok L e g=some true)(h:WD P n L hs b0 F0 r ((d,v)::e) bx F Q):WD P n L hs b0 F0 (.held j r) e bx F Q:=WD.y hL hy hd hg h
def WL.YB{t:nl}{x:ni}{lo hi mx:Option ni}(hy:YO P (.slice t x lo hi mx) ty e bx F v)(hd:Nat.blt d n=true)(hg:gok L e g=some true)(h:WL P n L rest ((d,v)::e) bx F Q):WL P n L (⟨some d,.slice t x lo hi mx,ty,pos,af,g⟩::rest) e bx F Q:=WL.y hy hd hg h
def WD.YB{t:nl}{x:ni}{lo hi mx:Option ni}(hL:L[j]?=some ⟨some d,.slice t x lo hi mx,ty,pos,af,g⟩)(hy:YO P (.slice t x lo hi mx) ty e b0 F0 v)(hd:Nat.blt d n=true)(hg:gok L e g=some true)(h:WD P n L hs b0 F0 r ((d,v)::e) bx F Q):WD P n L hs b0 F0 (.held j r) e bx F Q:=WD.y hL hy hd hg h
def WL.XG{t:nl}{ps:Array (Nat×ni)}(hy:YO P (.build t ps) ty e bx F v)(hd:Nat.blt d n=true)(hg:gok L e g=some true)(h:WL P n L rest ((d,v)::e) bx F Q):WL P n L (⟨some d,.build t ps,ty,pos,af,g⟩::rest) e bx F Q:=WL.y hy hd hg h
def WD.XG{t:nl}{ps:Array (Nat×ni)}(hL:L[j]?=some ⟨some d,.build t ps,ty,pos,af,g⟩)(hy:YO P (.build t ps) ty e b0 F0 v)(hd:Nat.blt d n=true)(hg:gok L e g=some true)(h:WD P n L hs b0 F0 r ((d,v)::e) bx F Q):WD P n L hs b0 F0 (.held j r) e bx F Q:=WD.y hL hy hd hg h
def WL.Y2{x:ni}{i:Nat}(hy:YO P (.extract x i) ty e bx F v)(hd:Nat.blt d n=true)(hg:gok L e g=some true)(h:WL P n L rest ((d,v)::e) bx F Q):WL P n L (⟨some d,.extract x i,ty,pos,af,g⟩::rest) e bx F Q:=WL.y hy hd hg h
def WL.Hl{f:Fn}{a b:Array ni}(hy:YO P (.makeFunc f a b) ty e bx F v)(hd:Nat.blt d n=true)(hg:gok L e g=some true)(h:WL P n L rest ((d,v)::e) bx F Q):WL P n L (⟨some d,.makeFunc f a b,ty,pos,af,g⟩::rest) e bx F Q:=WL.y hy hd hg h
def WL.KF{t t2:nl}{x:ni}(hy:YO P (.convert t t2 x) ty e bx F v)(hd:Nat.blt d n=true)(hg:gok L e g=some true)(h:WL P n L rest ((d,v)::e) bx F Q):WL P n L (⟨some d,.convert t t2 x,ty,pos,af,g⟩::rest) e bx F Q:=WL.y hy hd hg h
def WD.KF{t t2:nl}{x:ni}(hL:L[j]?=some ⟨some d,.convert t t2 x,ty,pos,af,g⟩)(hy:YO P (.convert t t2 x) ty e b0 F0 v)(hd:Nat.blt d n=true)(hg:gok L e g=some true)(h:WD P n L hs b0 F0 r ((d,v)::e) bx F Q):WD P n L hs b0 F0 (.held j r) e bx F Q:=WD.y hL hy hd hg h
def WL.k_add{t t2:nl}{x y:ni}(hy:YO P (.binOp .add t x y t2) ty e bx F v)(hd:Nat.blt d n=true)(hg:gok L e g=some true)(h:WL P n L rest ((d,v)::e) bx F Q):WL P n L (⟨some d,.binOp .add t x y t2,ty,pos,af,g⟩::rest) e bx F Q:=WL.y hy hd hg h
def WD.k_add{t t2:nl}{x y:ni}(hL:L[j]?=some ⟨some d,.binOp .add t x y t2,ty,pos,af,g⟩)(hy:YO P (.binOp .add t x y t2) ty e b0 F0 v)(hd:Nat.blt d n=true)(hg:gok L e g=some true)(h:WD P n L hs b0 F0 r ((d,v)::e) bx F Q):WD P n L hs b0 F0 (.held j r) e bx F Q:=WD.y hL hy hd hg h
def WL.k_sub{t t2:nl}{x y:ni}(hy:YO P (.binOp .sub t x y t2) ty e bx F v)(hd:Nat.blt d n=true)(hg:gok L e g=some true)(h:WL P n L rest ((d,v)::e) bx F Q):WL P n L (⟨some d,.binOp .sub t x y t2,ty,pos,af,g⟩::rest) e bx F Q:=WL.y hy hd hg h
def WD.k_sub{t t2:nl}{x y:ni}(hL:L[j]?=some ⟨some d,.binOp .sub t x y t2,ty,pos,af,g⟩)(hy:YO P (.binOp .sub t x y t2) ty e b0 F0 v)(hd:Nat.blt d n=true)(hg:gok L e g=some true)(h:WD P n L hs b0 F0 r ((d,v)::e) bx F Q):WD P n L hs b0 F0 (.held j r) e bx F Q:=WD.y hL hy hd hg h
def WL.YE{t t2:nl}{x y:ni}(hy:YO P (.binOp .mul t x y t2) ty e bx F v)(hd:Nat.blt d n=true)(hg:gok L e g=some true)(h:WL P n L rest ((d,v)::e) bx F Q):WL P n L (⟨some d,.binOp .mul t x y t2,ty,pos,af,g⟩::rest) e bx F Q:=WL.y hy hd hg h
def WD.YE{t t2:nl}{x y:ni}(hL:L[j]?=some ⟨some d,.binOp .mul t x y t2,ty,pos,af,g⟩)(hy:YO P (.binOp .mul t x y t2) ty e b0 F0 v)(hd:Nat.blt d n=true)(hg:gok L e g=some true)(h:WD P n L hs b0 F0 r ((d,v)::e) bx F Q):WD P n L hs b0 F0 (.held j r) e bx F Q:=WD.y hL hy hd hg h
def WL.Y3{t t2:nl}{x y:ni}(hy:YO P (.binOp .quo t x y t2) ty e bx F v)(hd:Nat.blt d n=true)(hg:gok L e g=some true)(h:WL P n L rest ((d,v)::e) bx F Q):WL P n L (⟨some d,.binOp .quo t x y t2,ty,pos,af,g⟩::rest) e bx F Q:=WL.y hy hd hg h
def WD.Y3{t t2:nl}{x y:ni}(hL:L[j]?=some ⟨some d,.binOp .quo t x y t2,ty,pos,af,g⟩)(hy:YO P (.binOp .quo t x y t2) ty e b0 F0 v)(hd:Nat.blt d n=true)(hg:gok L e g=some true)(h:WD P n L hs b0 F0 r ((d,v)::e) bx F Q):WD P n L hs b0 F0 (.held j r) e bx F Q:=WD.y hL hy hd hg h
def WL.ZD{t t2:nl}{x y:ni}(hy:YO P (.binOp .rem t x y t2) ty e bx F v)(hd:Nat.blt d n=true)(hg:gok L e g=some true)(h:WL P n L rest ((d,v)::e) bx F Q):WL P n L (⟨some d,.binOp .rem t x y t2,ty,pos,af,g⟩::rest) e bx F Q:=WL.y hy hd hg h
def WD.ZD{t t2:nl}{x y:ni}(hL:L[j]?=some ⟨some d,.binOp .rem t x y t2,ty,pos,af,g⟩)(hy:YO P (.binOp .rem t x y t2) ty e b0 F0 v)(hd:Nat.blt d n=true)(hg:gok L e g=some true)(h:WD P n L hs b0 F0 r ((d,v)::e) bx F Q):WD P n L hs b0 F0 (.held j r) e bx F Q:=WD.y hL hy hd hg h
def WL.k_and{t t2:nl}{x y:ni}(hy:YO P (.binOp .and t x y t2) ty e bx F v)(hd:Nat.blt d n=true)(hg:gok L e g=some true)(h:WL P n L rest ((d,v)::e) bx F Q):WL P n L (⟨some d,.binOp .and t x y t2,ty,pos,af,g⟩::rest) e bx F Q:=WL.y hy hd hg h
def WL.Ho{t t2:nl}{x y:ni}(hy:YO P (.binOp .shl t x y t2) ty e bx F v)(hd:Nat.blt d n=true)(hg:gok L e g=some true)(h:WL P n L rest ((d,v)::e) bx F Q):WL P n L (⟨some d,.binOp .shl t x y t2,ty,pos,af,g⟩::rest) e bx F Q:=WL.y hy hd hg h
def WD.Ho{t t2:nl}{x y:ni}(hL:L[j]?=some ⟨some d,.binOp .shl t x y t2,ty,pos,af,g⟩)(hy:YO P (.binOp .shl t x y t2) ty e b0 F0 v)(hd:Nat.blt d n=true)(hg:gok L e g=some true)(h:WD P n L hs b0 F0 r ((d,v)::e) bx F Q):WD P n L hs b0 F0 (.held j r) e bx F Q:=WD.y hL hy hd hg h
def WL.k_shr{t t2:nl}{x y:ni}(hy:YO P (.binOp .shr t x y t2) ty e bx F v)(hd:Nat.blt d n=true)(hg:gok L e g=some true)(h:WL P n L rest ((d,v)::e) bx F Q):WL P n L (⟨some d,.binOp .shr t x y t2,ty,pos,af,g⟩::rest) e bx F Q:=WL.y hy hd hg h
def WL.Uq{t t2:nl}{x y:ni}(hy:YO P (.binOp .eql t x y t2) ty e bx F v)(hd:Nat.blt d n=true)(hg:gok L e g=some true)(h:WL P n L rest ((d,v)::e) bx F Q):WL P n L (⟨some d,.binOp .eql t x y t2,ty,pos,af,g⟩::rest) e bx F Q:=WL.y hy hd hg h
def WD.Uq{t t2:nl}{x y:ni}(hL:L[j]?=some ⟨some d,.binOp .eql t x y t2,ty,pos,af,g⟩)(hy:YO P (.binOp .eql t x y t2) ty e b0 F0 v)(hd:Nat.blt d n=true)(hg:gok L e g=some true)(h:WD P n L hs b0 F0 r ((d,v)::e) bx F Q):WD P n L hs b0 F0 (.held j r) e bx F Q:=WD.y hL hy hd hg h
def WL.ZF{t t2:nl}{x y:ni}(hy:YO P (.binOp .neq t x y t2) ty e bx F v)(hd:Nat.blt d n=true)(hg:gok L e g=some true)(h:WL P n L rest ((d,v)::e) bx F Q):WL P n L (⟨some d,.binOp .neq t x y t2,ty,pos,af,g⟩::rest) e bx F Q:=WL.y hy hd hg h
def WD.ZF{t t2:nl}{x y:ni}(hL:L[j]?=some ⟨some d,.binOp .neq t x y t2,ty,pos,af,g⟩)(hy:YO P (.binOp .neq t x y t2) ty e b0 F0 v)(hd:Nat.blt d n=true)(hg:gok L e g=some true)(h:WD P n L hs b0 F0 r ((d,v)::e) bx F Q):WD P n L hs b0 F0 (.held j r) e bx F Q:=WD.y hL hy hd hg h
def WL.k_lss{t t2:nl}{x y:ni}(hy:YO P (.binOp .lss t x y t2) ty e bx F v)(hd:Nat.blt d n=true)(hg:gok L e g=some true)(h:WL P n L rest ((d,v)::e) bx F Q):WL P n L (⟨some d,.binOp .lss t x y t2,ty,pos,af,g⟩::rest) e bx F Q:=WL.y hy hd hg h
def WD.k_lss{t t2:nl}{x y:ni}(hL:L[j]?=some ⟨some d,.binOp .lss t x y t2,ty,pos,af,g⟩)(hy:YO P (.binOp .lss t x y t2) ty e b0 F0 v)(hd:Nat.blt d n=true)(hg:gok L e g=some true)(h:WD P n L hs b0 F0 r ((d,v)::e) bx F Q):WD P n L hs b0 F0 (.held j r) e bx F Q:=WD.y hL hy hd hg h
def WL.k_leq{t t2:nl}{x y:ni}(hy:YO P (.binOp .leq t x y t2) ty e bx F v)(hd:Nat.blt d n=true)(hg:gok L e g=some true)(h:WL P n L rest ((d,v)::e) bx F Q):WL P n L (⟨some d,.binOp .leq t x y t2,ty,pos,af,g⟩::rest) e bx F Q:=WL.y hy hd hg h
def WL.k_gtr{t t2:nl}{x y:ni}(hy:YO P (.binOp .gtr t x y t2) ty e bx F v)(hd:Nat.blt d n=true)(hg:gok L e g=some true)(h:WL P n L rest ((d,v)::e) bx F Q):WL P n L (⟨some d,.binOp .gtr t x y t2,ty,pos,af,g⟩::rest) e bx F Q:=WL.y hy hd hg h
def WD.k_gtr{t t2:nl}{x y:ni}(hL:L[j]?=some ⟨some d,.binOp .gtr t x y t2,ty,pos,af,g⟩)(hy:YO P (.binOp .gtr t x y t2) ty e b0 F0 v)(hd:Nat.blt d n=true)(hg:gok L e g=some true)(h:WD P n L hs b0 F0 r ((d,v)::e) bx F Q):WD P n L hs b0 F0 (.held j r) e bx F Q:=WD.y hL hy hd hg h
def WL.k_geq{t t2:nl}{x y:ni}(hy:YO P (.binOp .geq t x y t2) ty e bx F v)(hd:Nat.blt d n=true)(hg:gok L e g=some true)(h:WL P n L rest ((d,v)::e) bx F Q):WL P n L (⟨some d,.binOp .geq t x y t2,ty,pos,af,g⟩::rest) e bx F Q:=WL.y hy hd hg h
def WD.k_geq{t t2:nl}{x y:ni}(hL:L[j]?=some ⟨some d,.binOp .geq t x y t2,ty,pos,af,g⟩)(hy:YO P (.binOp .geq t x y t2) ty e b0 F0 v)(hd:Nat.blt d n=true)(hg:gok L e g=some true)(h:WD P n L hs b0 F0 r ((d,v)::e) bx F Q):WD P n L hs b0 F0 (.held j r) e bx F Q:=WD.y hL hy hd hg h
def WL.Hp{t:nl}{x:ni}(hy:YO P (.unOp .neg t x) ty e bx F v)(hd:Nat.blt d n=true)(hg:gok L e g=some true)(h:WL P n L rest ((d,v)::e) bx F Q):WL P n L (⟨some d,.unOp .neg t x,ty,pos,af,g⟩::rest) e bx F Q:=WL.y hy hd hg h
def WD.Hp{t:nl}{x:ni}(hL:L[j]?=some ⟨some d,.unOp .neg t x,ty,pos,af,g⟩)(hy:YO P (.unOp .neg t x) ty e b0 F0 v)(hd:Nat.blt d n=true)(hg:gok L e g=some true)(h:WD P n L hs b0 F0 r ((d,v)::e) bx F Q):WD P n L hs b0 F0 (.held j r) e bx F Q:=WD.y hL hy hd hg h
def WL.Hr{t:nl}{x:ni}(hy:YO P (.unOp .not t x) ty e bx F v)(hd:Nat.blt d n=true)(hg:gok L e g=some true)(h:WL P n L rest ((d,v)::e) bx F Q):WL P n L (⟨some d,.unOp .not t x,ty,pos,af,g⟩::rest) e bx F Q:=WL.y hy hd hg h
def WD.Hr{t:nl}{x:ni}(hL:L[j]?=some ⟨some d,.unOp .not t x,ty,pos,af,g⟩)(hy:YO P (.unOp .not t x) ty e b0 F0 v)(hd:Nat.blt d n=true)(hg:gok L e g=some true)(h:WD P n L hs b0 F0 r ((d,v)::e) bx F Q):WD P n L hs b0 F0 (.held j r) e bx F Q:=WD.y hL hy hd hg h
def WL.Uj{az:Array ni}{ts:Array nl}(hy:YO P (.call {callee:=.builtin .len,args:=az,argTypes:=ts}) ty e bx F v)(hd:Nat.blt d n=true)(hg:gok L e g=some true)(h:WL P n L rest ((d,v)::e) bx F Q):WL P n L (⟨some d,.call {callee:=.builtin .len,args:=az,argTypes:=ts},ty,pos,af,g⟩::rest) e bx F Q:=WL.y hy hd hg h
def WD.Uj{az:Array ni}{ts:Array nl}(hL:L[j]?=some ⟨some d,.call {callee:=.builtin .len,args:=az,argTypes:=ts},ty,pos,af,g⟩)(hy:YO P (.call {callee:=.builtin .len,args:=az,argTypes:=ts}) ty e b0 F0 v)(hd:Nat.blt d n=true)(hg:gok L e g=some true)(h:WD P n L hs b0 F0 r ((d,v)::e) bx F Q):WD P n L hs b0 F0 (.held j r) e bx F Q:=WD.y hL hy hd hg h
def WL.k_min{az:Array ni}{ts:Array nl}(hy:YO P (.call {callee:=.builtin .min,args:=az,argTypes:=ts}) ty e bx F v)(hd:Nat.blt d n=true)(hg:gok L e g=some true)(h:WL P n L rest ((d,v)::e) bx F Q):WL P n L (⟨some d,.call {callee:=.builtin .min,args:=az,argTypes:=ts},ty,pos,af,g⟩::rest) e bx F Q:=WL.y hy hd hg h
def WL.k_max{az:Array ni}{ts:Array nl}(hy:YO P (.call {callee:=.builtin .max,args:=az,argTypes:=ts}) ty e bx F v)(hd:Nat.blt d n=true)(hg:gok L e g=some true)(h:WL P n L rest ((d,v)::e) bx F Q):WL P n L (⟨some d,.call {callee:=.builtin .max,args:=az,argTypes:=ts},ty,pos,af,g⟩::rest) e bx F Q:=WL.y hy hd hg h
def WL.skg{jw:Nat×Bool}{op:Op}(hg:gok L e (some jw)=some false)(hd:Nat.blt d n=true)(h:WL P n L rest ((d,undef)::e) bx F Q):WL P n L (⟨some d,op,ty,pos,af,some jw⟩::rest) e bx F Q:=WL.skip hd hg h
def WD.skg{jw:Nat×Bool}{op:Op}(hL:L[j]?=some ⟨some d,op,ty,pos,af,some jw⟩)(hg:gok L e (some jw)=some false)(hd:Nat.blt d n=true)(h:WD P n L hs b0 F0 r ((d,undef)::e) bx F Q):WD P n L hs b0 F0 (.held j r) e bx F Q:=WD.skip hL hd hg h
def WD.skgl{jw:Nat×Bool}{op:Op}(hL:L[j]?=some ⟨some d,op,ty,pos,af,some jw⟩)(hg:gok L e (some jw)=some false)(hd:Nat.blt d n=true)(h:WD P n L hs b0 F0 r ((d,undef)::e) bx F Q):WD P n L hs b0 F0 (.loud j r) e bx F Q:=WD.lskip hL hd hg h
end W
namespace W
variable {P:nh}{n:Nat}{c:Code}{e:Env}{bx:nw}{F:nc}{Q:Post}
section
variable {σ:Type}(E:σ->Env)(B:σ->nw)(G:σ->nc)(I:σ->Prop)(μ:σ->Nat)
def Qq(s:σ)(e':Env)(bx':nw)(F':nc):Prop:=∃s',(I s'/\μ s'<μ s)/\Sub (E s') e'/\(B s').Sublist bx'/\Qz F' (G s')
def WC.lp(s0:σ)(hI:I s0)(hround:∀s,I s->WC P n c (E s) (B s) (G s) (XB (Qq E B G I μ s) Q))
  (hE:Sub (E s0) e:=by repeat(first|exact Sub.nil _|refine Sub.cons rfl ?_)) (hB:(B s0).Sublist bx:=by repeat(first|exact wq6|apply List.Sublist.cons_cons|apply List.Sublist.cons)) (hG:Qz F (G s0):=by repeat(first|exact Qz.nil|(apply Qz.cons;exact hmA))):WC P n (.loop c) e bx F Q:=
 WC.loop E B G I μ s0 hI hE hB hG.all λs hs=>(hround s hs).mono λx e b f h=>by
  cases x<;>first|exact h|skip
  obtain⟨s',h1,h2,h3,h4⟩:=h;exact⟨s',h1,h2,h3,h4.all⟩
end
def Qq.mk{σ:Type}{E:σ->Env}{B:σ->nw}{G:σ->nc}{I:σ->Prop}{μ:σ->Nat}{s:σ}{e':Env}{bx':nw}{F':nc}(s':σ)
  (hI:I s') (hμ:μ s'<μ s) (hE:Sub (E s') e':=by repeat(first|exact Sub.nil _|refine Sub.cons rfl ?_)) (hB:(B s').Sublist bx':=by repeat(first|exact wq6|apply List.Sublist.cons_cons|apply List.Sublist.cons)) (hG:Qz F' (G s'):=by repeat(first|exact Qz.nil|(apply Qz.cons;exact hmA))):Qq E B G I μ s e' bx' F':=⟨s',⟨hI,hμ⟩,hE,hB,hG⟩
def WC.cut{x y:Code}{σ:Type}(E:σ->Env)(B:σ->nw)(G:σ->nc)(I:σ->Prop)
  (h1:WC P n x e bx F (XB (λe' bx' F'=>∃s,I s/\Sub (E s) e'/\(B s).Sublist bx'/\Qz F' (G s)) Q))
  (h2:∀s,I s->WC P n y (E s) (B s) (G s) Q):WC P n (.seq x y) e bx F Q:=
 WC.seq (h1.mono λex e b f h=>by
  cases ex<;>first|exact h|skip
  obtain⟨s,h3,h4,h5,h6⟩:=h;exact(h2 s h3).weak h4 h5 h6.all)
def Qr{σ:Type}{E:σ->Env}{B:σ->nw}{G:σ->nc}{I:σ->Prop}{e':Env}{bx':nw}{F':nc}(s:σ)(hI:I s)(hE:Sub (E s) e':=by repeat(first|exact Sub.nil _|refine Sub.cons rfl ?_))(hB:(B s).Sublist bx':=by repeat(first|exact wq6|apply List.Sublist.cons_cons|apply List.Sublist.cons))(hG:Qz F' (G s):=by repeat(first|exact Qz.nil|(apply Qz.cons;exact hmA))) :
  ∃s,I s/\Sub (E s) e'/\(B s).Sublist bx'/\Qz F' (G s):=⟨s,hI,hE,hB,hG⟩
def WC.pure{p:Prop}(hp:∀fr w,OK fr bx F w->p)(h:p->WC P n c e bx F Q):WC P n c e bx F Q:=λfr w0 a w hk hr ho=>h (hp fr w ho) fr w0 a w hk hr ho
def WC.lenF{v:nA}{m sz:Nat}{f:ng}(hf:Has F (slC v m sz f))(h:m<=9223372036854775807->WC P n c e bx F Q):WC P n c e bx F Q:=
 WC.pure (λfr w ho=>by
  obtain⟨a,cap,_,h2,h3,_⟩:=ho.has hf;unfold maxLen at h3;omega) h
def WC.ZE(v:nA)(l:nd)(hf:Has F (sI v l))(h:l.length<=9223372036854775807->WC P n c e bx F Q):WC P n c e bx F Q:=WC.lenF hf h
def WC.fact(f:Fct)(hf:Has F f)(h:WC P n c e bx (f::F) Q):WC P n c e bx F Q:=λfr w0 a w hk hr ho=>h fr w0 a w hk hr (ho.add (ho.has hf))
end W
namespace W
variable {P:nh}{n:Nat}{L rest:List Oper}{e:Env}{bx bx' b0:nw}{F F0:nc}{Q:Env->nw->nc->Prop}{d:Nat}{ty:nl}{pos:String}{af:Array Edge}{g:Option (Nat×Bool)}{v u:nA}{hs:List Nat}{r:Plan}
def Qv(P:nh)(t:nl)(cs:ne):Prop:=∃i z,P.info? t=some i/\i.zero=some z/\z.cells.toList=cs
def Qv.of{t:nl}{cs:ne}{z:nA}(h:(P.info? t).map (·.zero)=some (some z))(hz:z.cells.toList=cs):Qv P t cs:=by
 obtain⟨i,h1,h2⟩:=Option.map_eq_some_iff.1 h;exact⟨i,z,h1,h2,hz⟩
def LO.J6{el:nl}{K:Qd}{cs:ne}(ht:Qv P el cs)(h:∀g,K (.pointer (some ⟨g,0,none⟩)) (Ow.cells g el cs::bx) F):LO P (.alloc el) ty e bx F K:=by
 obtain⟨i,z,h1,h2,h3⟩:=ht;exact LO.alloc h1 h2 h3 h
def LO.boxA{el:nl}{x:ni}{K:Qd}{cs:ne}(hx:ev e x=some (.agg cs.toArray))(h:∀g,K (.pointer (some ⟨g,0,none⟩)) (Ow.cells g el cs::bx) F):LO P (.box el x) ty e bx F K:=LO.box hx (by simp[Value.cells]) h
def One(bx:nw)(F:nc)(u:nA):Prop:=∀fr w,OK fr bx F w->u.cells=#[u]/\u.oneCell'=true
def One.lit(h1:u.cells=#[u])(h2:u.oneCell'=true):One bx F u:=λ_ _ _=>⟨h1,h2⟩
def One.sl{m:Nat}(h:KnS bx F u m):One bx F u:=λfr w ho=>by
 obtain⟨a,cap,rfl,_⟩:=(h fr w ho).is;exact⟨rfl,rfl⟩
def LO.byOne{op:Op}{K:Qd}(hu:One bx F u)(h:u.cells=#[u]->u.oneCell'=true->LO P op ty e bx F K):LO P op ty e bx F K:=λn fr a w o K' h1 h2 h3 h4 h5=>
 h (hu fr w h4).1 (hu fr w h4).2 n fr a w o K' h1 h2 h3 h4 h5
def LO.box1{el:nl}{x:ni}{K:Qd}(hx:ev e x=some v)(hu:One bx F v)(h:∀g,K (.pointer (some ⟨g,0,none⟩)) (Ow.cells g el [v]::bx) F):LO P (.box el x) ty e bx F K:=
 LO.byOne hu λhc _=>LO.box hx (by rw[hc]) h
def Vl(cs:ne)(q:Nat)(u:nA)(h:q<cs.length):Jp cs q [u]=cs.set q u:=by
 simp[Jp,List.set_eq_take_append_cons_drop,h]
def LO.Xu{t tg:nl}{x y:ni}{K:Qd}{g q:Nat}{cs cs':ne}(hx:ev e x=some (.pointer (some ⟨g,q,none⟩)))(hy:ev e y=some u)
  (hz:(P.info? t).map (·.size)=some 1) (hu:One bx F u) (hs:Sel bx (.cells g tg cs) (.cells g tg cs') bx') (hq:q<cs.length) (hcs:cs.set q u=cs') (h:K undef bx' F):LO P (.store t x y) ty e bx F K:=
 LO.byOne hu λhc h1=>LO.store hx hy (vs:=[u]) (by rw[hc]) (by simpa using hz) (by simpa using h1) hs (by simp only[aK,bF];omega) (by rw[Vl _ _ _ hq];exact hcs) h
def LO.storeA{t tg:nl}{x y:ni}{K:Qd}{g m:Nat}{cs us:ne}(hx:ev e x=some (.pointer (some ⟨g,0,none⟩)))(hy:ev e y=some (.agg us.toArray))
  (hs:Sel bx (.cells g tg cs) (.cells g tg us) bx') (hr:Row P t m) (hm:us.length=m) (hm2:cs.length=m) (h1:∀c∈us,c.oneCell'=true) (h:K undef bx' F):LO P (.store t x y) ty e bx F K:=
 LO.store hx hy (vs:=us) (by simp[Value.cells]) (by rw[hm];exact hr.2) h1 hs qo (by simp[Jp,hm,<-hm2]) h
def LO.J2{t el sz:nl}{x y:ni}{K:Qd}{j:Nat}{cs cs':ne}(hx:ev e x=some (.pointer (some (eaddr v j))))(hy:ev e y=some u)
  (hz:(P.info? t).map (·.size)=some 1) (hu:One bx F u) (hs:Sel bx (.slice v el sz cs) (.slice v el sz cs') bx') (hj:j<cs.length) (hcs:cs.set j u=cs') (h:K undef bx' F):LO P (.store t x y) ty e bx F K:=
 LO.byOne hu λhc h1=>LO.storeO hx hy hz hc h1 hs hj hcs h
inductive EvP(e:Env):List (Nat×ni)->ne->Prop where
 |nil:EvP e [] []
 |cons {k:Nat} {x:ni} {v:nA} {xs:List (Nat×ni)} {vs:ne}:ev e x=some v->EvP e xs vs->EvP e ((k,x)::xs) (v::vs)
def EvP.evs{ps:List (Nat×ni)}{us:ne}(h:EvP e ps us):Evs e (ps.map (·.2)) us:=by
 induction h with
 |nil=>exact .nil
 |cons h _ ih=>exact .cons h ih
def LO.bs1{t el len:Nat}{parts:List (Nat×ni)}{K:Qd}{us:ne}(_ht:Qh P t el 1)(hv:EvP e parts us)
  (hr:∀w,(Instr.buildSlice t len ((parts.map (·.1)).zip us).toArray).run P w=.ok (.slice (some ⟨w.heap.size,0,none⟩) len len) (w.alloc (.cells us.toArray el))) (hlen:us.length=len) (hmax:len<=9223372036854775807)
  (h:∀v,K v (Ow.slice v el 1 us::bx) F):LO P (.buildSlice t len parts.toArray) ty e bx F K:=LO.buildSlice hv.evs hr qo hmax h
def Qo.Xt{el:Nat}{cs:ne}(h:Ow.slice v el 1 cs∈bx):Qo bx F v cs.length 1 cs:=Qo.own h qo qd
def Qo.one{el sz:Nat}{cs:ne}(h:Ow.slice v el sz cs∈bx)(hn:cs.length=sz)(hsz:0<sz):Qo bx F v 1 sz cs:=Qo.own h qo hsz
def Qo.ints{l:nd}(h:Has F (sI v l)):Qo bx F v l.length 1 (ints l):=by
 have:=Qo.fact (bx:=bx) h;refine(?_:(List.range (l.length*1)).map _=W.ints l) ▸ this;apply cE
 .simp
 .intro i h1 h2;simp at h1 h2 ⊢;simp[h1]
def K9(l:nd):∀u∈ints l,u.oneCell'=true:=by intro u hu;simp[ints] at hu;obtain⟨a,_,rfl⟩:=hu;rfl
def resl:nA->Nat->Nat->ng
 |.slice a _ cap,lo,hi,sz=>.slice (if cap=lo then a else a.map (·.add (lo*sz))) (hi-lo) (cap-lo)
 |v,_,_,_=>v
def ZR{m lo hi sz:Nat}{f:ng}{h:PH}(hp:(slC v m sz f).p h)(h1:lo<=hi)(h2:hi<=m):(slC (resl v lo hi sz) (hi-lo) sz (λj=>f (lo*sz+j))).p h:=by
 obtain⟨a,cap,rfl,h3,h4,h5⟩:=hp;refine⟨_,_,rfl,by omega,by omega,?_⟩;rcases h5 with ⟨rfl,rfl,rfl⟩|⟨b,off,rfl,c,t,fz,h6,h7⟩
 .left;simp;omega
 .right;by_cases hc:cap=lo
  .refine⟨b,off,by simp[hc],c,t,fz,h6,λj hj=>?_⟩;have:hi-lo=0:=qo;simp[this] at hj
  .refine⟨b,off+lo*sz,by simp[hc,Addr.add_lit],c,t,fz,h6,λj hj=>?_⟩;rw[er];refine h7 _ ?_;have h8:lo*sz+(hi-lo)*sz<=m*sz:=by rw[<-Nat.add_mul];exact aM _ qo
   omega
def Y7{m sz:Nat}{f f':ng}{h:PH}(hp:(slC v m sz f).p h)(hf:∀j,j<m*sz->f j=f' j):(slC v m sz f').p h:=by
 obtain⟨a,cap,h1,h3,h4,h5⟩:=hp;refine⟨a,cap,h1,h3,h4,?_⟩;rcases h5 with h5|⟨b,off,h6,c,t,fz,h7,h8⟩
 .exact .inl h5
 .exact .inr ⟨b,off,h6,c,t,fz,h7,λj hj=>by rw[h8 j hj,hf j hj]⟩
def Has.sub{m lo hi sz:Nat}{f:ng}(h:Has F (slC v m sz f))(h1:lo<=hi)(h2:hi<=m):Has F (slC (resl v lo hi sz) (hi-lo) sz (λj=>f (lo*sz+j))):=λph hf=>ZR (h ph hf) h1 h2
def Has.subI{l:nd}{lo hi:Nat}(h:Has F (sI v l))(h1:lo<=hi)(h2:hi<=l.length):Has F (sI (resl v lo hi 1) ((l.take hi).drop lo)):=λph hf=>by
 have:=ZR (h ph hf) h1 h2;have hl:((l.take hi).drop lo).length=hi-lo:=by simp;omega
 show(slC _ ((l.take hi).drop lo).length 1 _).p ph;rw[hl];refine Y7 this λj hj=>?_;simp only[bP] at hj ⊢;have h3:lo+j<l.length:=qo;simp only[List.getD_eq_getElem?_getD,List.getElem?_drop,List.getElem?_take];rw[ah qo]
def Has.takeI{l:nd}{hi:Nat}(h:Has F (sI v l))(h2:hi<=l.length):Has F (sI (resl v 0 hi 1) (l.take hi)):=by simpa using Has.subI h (aj hi) h2
def Has.dropI{l:nd}{lo:Nat}(h:Has F (sI v l))(h2:lo<=l.length):Has F (sI (resl v lo l.length 1) (l.drop lo)):=by simpa using Has.subI h h2 (ai _)
def YO.slice{t el sz m:Nat}{x:ni}{lo hi:Option ni}{a b:Nat}(ht:Qh P t el sz)(hx:ev e x=some v)(hv:KnS bx F v m)
  (hlo:(lo=none/\a=0)\/∃y,lo=some y/\ev e y=some (nj a)) (hhi:(hi=none/\b=m)\/∃y,hi=some y/\ev e y=some (nj b)) (h1:a<=b) (h2:b<=m) :
  YO P (.slice t x lo hi none) ty e bx F (resl v a b sz):=
 .of λk fr ac w o hop hk ho=>by
  obtain⟨hu,i,hi',hsz⟩:=ht;obtain⟨a',cap,rfl,h3,h4,h5⟩:=(hv fr w ho).is;have hna:∀el' nn,P.underlying t≠some (.array nn el'):=λ_ _ h=>by rw[hu] at h;cases h
  have hcz:P.cellsOf el=sz:=by simp[Program.cellsOf,hi',hsz]
  have hbc:b<=cap:=qo;have e1:((b:Int)<=(cap:Int)):=qo;have e2:((a:Int)<=(b:Int)):=qo;have e3:((a:Int)<=(m:Int)):=qo;have hx':=hk.eval hx;have hs:∀w,(sizeOf el).run P w=.ok sz w:=λw=>by simpa [hsz,hcz] using run_sizeOf (P:=P) w hi'
  have e0:(0:Int)<=(a:Int):=qo;have e00:(0:Int)<=(b:Int):=qo;rcases hlo with ⟨rfl,rfl⟩|⟨y,rfl,hy⟩<;>rcases hhi with ⟨rfl,rfl⟩|⟨z,rfl,hz⟩
  .simp[execOp,hop,hx',Instr.sliceAt,run_underlying hu,Instr.slice,Instr.sliceBounds,hs,resl]
  .have hz':=hk.eval hz;constructor<;>simp[execOp,hop,hx',hz',Instr.sliceAt,run_underlying hu,Instr.slice,Instr.sliceBounds,Instr.sliceBound,asIntOf,hs,resl,hbc]
  .have hy':=hk.eval hy;constructor<;>simp[execOp,hop,hx',hy',Instr.sliceAt,run_underlying hu,Instr.slice,Instr.sliceBounds,Instr.sliceBound,asIntOf,hs,resl,h1]
  .have hy':=hk.eval hy;have hz':=hk.eval hz;constructor<;>simp[execOp,hop,hx',hy',hz',Instr.sliceAt,run_underlying hu,Instr.slice,Instr.sliceBounds,Instr.sliceBound,asIntOf,hs,resl,hbc,h1]
section
variable {t t':nl}{x y:ni}{i j:Int}{k k':IntKind}
def QX(P:nh)(t:nl)(k:IntKind):Prop:=P.underlying t=some (.int k)
def YO.GX{s d:nl}{ks:IntKind}(hd:QX P d .u64)(hs:QX P s ks)(hx:ev e x=some (.int k i))(h1:0<=i)(h2:i<=18446744073709551615):YO P (.convert s d x) ty e bx F (.int .u64 i):=by
 have:=YO.conv (P:=P) (bx:=bx) (F:=F) (ty:=ty) hd hs hx
 rwa [wrap_u64 h1 h2] at this
def YO.convI{s d:nl}{ks:IntKind}(hd:QX P d .i64)(hs:QX P s ks)(hx:ev e x=some (.int k i))(h1:-9223372036854775808<=i)(h2:i<=9223372036854775807):YO P (.convert s d x) ty e bx F (nj i):=by
 have:=YO.conv (bx:=bx) (F:=F) (ty:=ty) hd hs hx
 rwa [wrap_i64 h1 h2] at this
def YO.shl'(hx:ev e x=some (nj i))(hy:ev e y=some (.int k' j))(h:0<=j)(h64:j<64)(h1:-9223372036854775808<=i*2^j.toNat)(h2:i*2^j.toNat<=9223372036854775807):YO P (.binOp .shl t x y t') ty e bx F (nj (i*2^j.toNat)):=by
 have:=YO.shl (P:=P) (bx:=bx) (F:=F) (ty:=ty) (t:=t) (t':=t') hx hy h
 rwa [show Min.min j.toNat IntKind.i64.bits=j.toNat from aF (by simp[IntKind.bits];omega),wrap_i64 h1 h2] at this
def YO.shr'(hx:ev e x=some (nj i))(hy:ev e y=some (.int k' j))(h:0<=j)(h64:j<64):YO P (.binOp .shr t x y t') ty e bx F (nj (i/2^j.toNat)):=by
 have:=YO.shr (P:=P) (bx:=bx) (F:=F) (ty:=ty) (t:=t) (t':=t') hx hy h
 rwa [show Min.min j.toNat IntKind.i64.bits=j.toNat from aF (by simp[IntKind.bits];omega),Int.fdiv_eq_ediv_of_nonneg _ (aN (Int.pow_pos qd))] at this
def bv_toNat{i:Int}(h1:0<=i)(h2:i<18446744073709551616):(BitVec.ofInt 64 i).toNat=i.toNat:=by
 rw[BitVec.toNat_ofInt];congr 1;simp;omega
def run_and(h1:0<=i)(h2:i<=9223372036854775807)(h3:0<=j)(h4:j<=9223372036854775807)(w:nm):(binOp .and t (nj i) (nj j)).run P w=.ok (nj ((i.toNat &&& j.toNat:Nat):Int)) w:=by
 have hle:i.toNat &&& j.toNat<=i.toNat:=Nat.and_le_left;simp only[binOp,Op.intBits]
 have:(BitVec.ofInt IntKind.i64.bits i &&& BitVec.ofInt IntKind.i64.bits j).toNat=i.toNat &&& j.toNat:=by
  show(BitVec.ofInt 64 i &&& BitVec.ofInt 64 j).toNat=_;rw[BitVec.toNat_and,bv_toNat h1 qo,bv_toNat h3 qo]
 simp[this,wrap_i64 (n:=((i.toNat &&& j.toNat:Nat):Int)) qo qo]
def YO.and(hx:ev e x=some (nj i))(hy:ev e y=some (nj j))(h1:0<=i)(h2:i<=9223372036854775807)(h3:0<=j)(h4:j<=9223372036854775807):YO P (.binOp .and t x y t') ty e bx F (nj ((i.toNat &&& j.toNat:Nat):Int)):=YO.bits hx hy (run_and h1 h2 h3 h4)
def YO.and1(hx:ev e x=some (nj i))(hy:ev e y=some (nj 1))(h1:0<=i)(h2:i<=9223372036854775807):YO P (.binOp .and t x y t') ty e bx F (nj (i%2)):=by
 have:=YO.and (P:=P) (bx:=bx) (F:=F) (ty:=ty) (t:=t) (t':=t') hx hy h1 h2 qd qd
 rw[show((i.toNat &&& (1:Int).toNat:Nat):Int)=i%2 from by
  show((i.toNat &&& 1:Nat):Int)=_;rw[Nat.and_one_is_mod];omega] at this
 exact this
end
def LO.app{t el sz bytes m:Nat}{z:nA}{x y:ni}{K:Qd}{yv:nA}{cs news:ne}{bx':nA->nw}(ht:Xl P t el sz z bytes)(hx:ev e x=some v)(hy:ev e y=some yv)
  (hsrc:Qo bx F yv m sz news) (hs:∀v',Sel bx (.slice v el sz cs) (.slice v' el sz (cs++news)) (bx' v')) (h1:∀u∈news,u.oneCell'=true) (hlen:(cs.length+news.length)*bytes<=140737488355328) (hmax:cs.length+news.length<=9223372036854775807)
  (h:∀v',K v' (bx' v') F):LO P (.call {callee:=.builtin .append,args:=#[x,y],argTypes:=#[t,t]}) ty e bx F K:=LO.append ht hx hy hs hsrc h1 hlen hmax h
section
variable {op:Op}{K:Qd}{t:nl}{x y:ni}
def WL.JS(hl:LO P (.alloc t) ty e bx F λv bx' F'=>WL P n L rest ((d,v)::e) bx' F' Q)(hd:Nat.blt d n=true)(hg:gok L e g=some true):WL P n L (⟨some d,.alloc t,ty,pos,af,g⟩::rest) e bx F Q:=WL.l hd hg hl
def WL.kl_box(hl:LO P (.box t x) ty e bx F λv bx' F'=>WL P n L rest ((d,v)::e) bx' F' Q)(hd:Nat.blt d n=true)(hg:gok L e g=some true):WL P n L (⟨some d,.box t x,ty,pos,af,g⟩::rest) e bx F Q:=WL.l hd hg hl
def WL.JW{k:Nat}{ps:Array (Nat×ni)}(hl:LO P (.buildSlice t k ps) ty e bx F λv bx' F'=>WL P n L rest ((d,v)::e) bx' F' Q)(hd:Nat.blt d n=true)(hg:gok L e g=some true):WL P n L (⟨some d,.buildSlice t k ps,ty,pos,af,g⟩::rest) e bx F Q:=WL.l hd hg hl
def WL.Ux(hl:LO P (.makeSlice t x y) ty e bx F λv bx' F'=>WL P n L rest ((d,v)::e) bx' F' Q)(hd:Nat.blt d n=true)(hg:gok L e g=some true):WL P n L (⟨some d,.makeSlice t x y,ty,pos,af,g⟩::rest) e bx F Q:=WL.l hd hg hl
def WL.Jn{az:Array ni}{ts:Array nl}(hl:LO P (.call {callee:=.builtin .append,args:=az,argTypes:=ts}) ty e bx F λv bx' F'=>WL P n L rest ((d,v)::e) bx' F' Q)(hd:Nat.blt d n=true)(hg:gok L e g=some true):WL P n L (⟨some d,.call {callee:=.builtin .append,args:=az,argTypes:=ts},ty,pos,af,g⟩::rest) e bx F Q:=WL.l hd hg hl
def WL.Q4(hl:LO P (.store t x y) ty e bx F λ_ bx' F'=>WL P n L rest e bx' F' Q)(hg:gok L e g=some true):WL P n L (⟨none,.store t x y,ty,pos,af,g⟩::rest) e bx F Q:=WL.l0 hg hl
variable {i:Nat}
def WD.JS(hL:L[i]?=some ⟨some d,.alloc t,ty,pos,af,g⟩)(hl:LO P (.alloc t) ty e bx F λv bx' F'=>(Q3 L hs i=true\/(b0.Sublist bx'/\∀f∈F0,f∈F'))/\WD P n L hs b0 F0 r ((d,v)::e) bx' F' Q)(hd:Nat.blt d n=true)(hg:gok L e g=some true):WD P n L hs b0 F0 (.loud i r) e bx F Q:=WD.l hL hd hg hl
def WD.JW{k:Nat}{ps:Array (Nat×ni)}(hL:L[i]?=some ⟨some d,.buildSlice t k ps,ty,pos,af,g⟩)(hl:LO P (.buildSlice t k ps) ty e bx F λv bx' F'=>(Q3 L hs i=true\/(b0.Sublist bx'/\∀f∈F0,f∈F'))/\WD P n L hs b0 F0 r ((d,v)::e) bx' F' Q)(hd:Nat.blt d n=true)(hg:gok L e g=some true):WD P n L hs b0 F0 (.loud i r) e bx F Q:=WD.l hL hd hg hl
def WD.Ux(hL:L[i]?=some ⟨some d,.makeSlice t x y,ty,pos,af,g⟩)(hl:LO P (.makeSlice t x y) ty e bx F λv bx' F'=>(Q3 L hs i=true\/(b0.Sublist bx'/\∀f∈F0,f∈F'))/\WD P n L hs b0 F0 r ((d,v)::e) bx' F' Q)(hd:Nat.blt d n=true)(hg:gok L e g=some true):WD P n L hs b0 F0 (.loud i r) e bx F Q:=WD.l hL hd hg hl
def WD.Jn{az:Array ni}{ts:Array nl}(hL:L[i]?=some ⟨some d,.call {callee:=.builtin .append,args:=az,argTypes:=ts},ty,pos,af,g⟩)(hl:LO P (.call {callee:=.builtin .append,args:=az,argTypes:=ts}) ty e bx F λv bx' F'=>(Q3 L hs i=true\/(b0.Sublist bx'/\∀f∈F0,f∈F'))/\WD P n L hs b0 F0 r ((d,v)::e) bx' F' Q)(hd:Nat.blt d n=true)(hg:gok L e g=some true):WD P n L hs b0 F0 (.loud i r) e bx F Q:=WD.l hL hd hg hl
def WD.Q4(hL:L[i]?=some ⟨none,.store t x y,ty,pos,af,g⟩)(hl:LO P (.store t x y) ty e bx F λ_ bx' F'=>(Q3 L hs i=true\/(b0.Sublist bx'/\∀f∈F0,f∈F'))/\WD P n L hs b0 F0 r e bx' F' Q)(hg:gok L e g=some true):WD P n L hs b0 F0 (.loud i r) e bx F Q:=WD.l0 hL hg hl
end
def KnS.o1{el:Nat}{cs:ne}(h:Ow.slice v el 1 cs∈bx):KnS bx F v cs.length:=KnS.o h qo qd
def KnS.oI{el:Nat}{l:nd}(h:Ow.slice v el 1 (ints l)∈bx):KnS bx F v l.length:=KnS.o h (by simp) qd
def YO.KD{t el:nl}{x:ni}{j:Nat}{l:nd}(hs:Qk P t)(hx:ev e x=some (.pointer (some (eaddr v j))))(hb:Ow.slice v el 1 (ints l)∈bx)(hj:j<l.length):YO P (.load t x) ty e bx F (nj (l.getD j 0)):=
 YO.ldO hs hx hb (by simp[List.getElem?_eq_getElem hj])
end W
namespace W
variable {P:nh}{e:Env}{bx:nw}{F:nc}{ty:nl}{v:nA}
def QV(bx:nw)(F:nc)(f:Fct):Prop:=∀fr w,OK fr bx F w->f.p (imm fr [] w.heap)
def F6{fr:CF}{w:nm}{k:Nat}(h:fr.own k\/fr.vs k)(hf:fr.fr k=none):imm fr [] w.heap k=w.heap[k]?:=by simp[imm,ids,hf,CF.Yy h]
def QV.f{f:Fct}(h:Has F f):QV bx F f:=λfr w ho=>(ho.drop (bM _)).has h
def QV.o{el sz n:Nat}{cs:ne}{f:ng}(hb:Ow.slice v el sz cs∈bx)(hn:cs.length=n*sz)(hsz:0<sz)(hf:∀j,j<n*sz->cs[j]?=some (f j)):QV bx F (slC v n sz f):=λfr w ho=>by
 obtain⟨m,h3,⟨rfl,h4⟩|⟨g,cap,sp,rfl,h4,h5,h6,h7⟩⟩:=ho.owns _ hb
 .subst h4
  have:n=0:=by
   have:n*sz=0:=qo;rcases Nat.mul_eq_zero.1 this with h|h<;>omega
  subst this;exact⟨none,0,rfl,ai _,by simp[maxLen],.inl ⟨rfl,rfl,rfl⟩⟩
 .have hmn:m=n:=bJ hsz qo;subst hmn;refine⟨_,cap,rfl,h4,h5,.inr ⟨g,0,rfl,(cs++sp).toArray,el,(0,0),?_,λj hj=>?_⟩⟩
  .have hg:=ho.apart g (JN.2 ⟨_,hb,by simp[Ow.ids]⟩);rw[F6 (.inl hg.1) hg.2];exact h6
  .have hj':j<cs.length:=qo;simp only[aR,List.getElem?_toArray];rw[List.getElem?_append_left hj'];exact hf j hj
def QV.oI{el:Nat}{l:nd}(hb:Ow.slice v el 1 (ints l)∈bx):QV bx F (sI v l):=
 QV.o hb (by simp) qd λj hj=>by
  have hj':j<l.length:=qo;simp[List.getElem?_eq_getElem hj']
inductive QY(bx:nw)(F:nc):nc->Prop where
 |nil:QY bx F []
 |cons {g:Fct} {G:nc}:QV bx F g->QY bx F G->QY bx F (g::G)
def QY.all{G:nc}(h:QY bx F G):∀g∈G,QV bx F g:=by
 induction h with
 |nil=>simp
 |cons h _ ih=>intro g hg;rcases List.mem_cons.1 hg with rfl|hg;exact h;exact ih _ hg
def lend{fr:CF}{own:Bk}{w w':nm}{b:nw}{G:nc}(h:OK fr bx F w)(hw:∀k,fr.own k->own k)(hle:(imm fr [] w.heap).le (imm (fr.at own) b w'.heap))(hok:OK (fr.at own) b G w'):OK (fr.at own) (b++bx) F w':=by
 have hsame:∀k,k<w.heap.size->fr.own k\/fr.vs k->fr.fr k=none->w'.heap[k]?=w.heap[k]?/\k∉ids b:=λk hk hm hf=>by
  have hs:imm fr [] w.heap k=some w.heap[k]:=by rw[F6 hm hf];simp[hk]
  have h2:=hle _ _ hs;refine⟨(JA h2).trans (by simp[hk]),λhin=>?_⟩;simp only[imm] at h2;rw[ah (by simp[hin])] at h2;cases h2
 have hlt:∀k∈ids bx,k<w.heap.size:=λk hk=>by obtain⟨c,hc,hkc⟩:=JN.1 hk;exact Ow.lt (h.owns c hc) k hkc
 refine⟨hok.frame,λk hk=>?_,?_,λc hc=>?_,λf hf=>f.mono (imm fr bx w.heap) _ (.mk rfl λk o ho=>?_) (h.facts f hf)⟩
 .simp only[ids,aS,bS] at hk;rcases hk with hk|hk
  .exact hok.apart k hk
  .have:=h.apart k hk;exact⟨hw k this.1,this.2⟩
 .simp only[ids,aS];refine List.nodup_append.2 ⟨hok.nodup,h.nodup,λk h1 k' h2 he=>?_⟩;subst he;have:=h.apart k h2;exact(hsame k (hlt k h2) (.inl this.1) this.2).2 h1
 .rcases List.mem_append.1 hc with hc|hc
  .exact hok.owns c hc
  .refine Ow.Xk (h.owns c hc) λk hk=>?_;have:=h.apart k (JN.2 ⟨c,hc,hk⟩);exact(hsame k (hlt k (JN.2 ⟨c,hc,hk⟩)) (.inl this.1) this.2).1
 .have hm:=Yq ho;have hh:=JA ho;simp only[imm] at ho ⊢;split at ho
  .cases ho
  .rename_i hc
   simp only[b7,bu,not_or,eO,dk,dC] at hc;have hkl:k<w.heap.size:=(Array.getElem?_eq_some_iff.1 hh).1;obtain⟨h1,h2⟩:=hsame k hkl hm hc.1;rw[ae,CF.Yy (c:=fr.at own) (hm.imp (hw k) id),h1]
   .exact hh
   .have hc1:(fr.at own).fr k=none:=hc.1;simp only[b7,bu,ids,aS,bS,not_or,hc1];exact⟨by simp,h2,hc.2⟩
def LO.callR{f:np}{x:ni}{args:List ni}{ats:Array nl}{K:Qd}{first cap vs:ne}{F':nc}{R:Qd}
  (hx:ev e x=some (.func (.func f) first.toArray cap.toArray)) (hv:Evs e args vs) (hf:FnB P f (first++vs++cap) [] F' R) (hF:QY bx F F') (hK:∀v b G,R v b G->K v (b++bx) F) :
  LO P (.call {callee:=.value x,args:=args.toArray,argTypes:=ats}) ty e bx F K:=λn fr a w o K' hop _ hk ho hnext=>by
 have hr:=KP (w:=w) hf.1 hop (hk.eval hx) (vs:=first++vs++cap) (by rw[<-hv.map hk];simp);rw[hr.1];refine .inl ⟨.look (by rw[hr.2];simp),?_⟩;rw[QW (ai _)];have h0:=ho.drop (bM bx);have h1:OK fr [] F' w:=⟨h0.frame,h0.apart,h0.nodup,h0.owns,λg hg=>hF.all g hg fr w ho⟩
 refine(hf.2 fr w h1).mono λown v w' ⟨hw,b,G,hR,hr',hle,hok⟩=>?_;exact hnext (fr.at own) v w' _ _ (CF.le_at hw) hr' (lend ho hw hle hok) (hK v b G hR)
def LO.UC{f:np}{x:ni}{args:List ni}{ats:Array nl}{K:Qd}{vs:ne}{F':nc}{u:nA}
  (hx:ev e x=some (.func (.func f) #[] #[])) (hv:Evs e args vs) (hf:FnB P f vs [] F' (IsV u)) (hF:QY bx F F') (hK:K u bx F):LO P (.call {callee:=.value x,args:=args.toArray,argTypes:=ats}) ty e bx F K:=
 LO.callR (first:=[]) (cap:=[]) hx hv (by simpa using hf) hF (by rintro _ _ _ ⟨rfl,rfl,rfl⟩;simpa using hK)
def LO.callRO{f:np}{x:ni}{args:List ni}{ats:Array nl}{K:Qd}{vs:ne}{F':nc}{el sz:Nat}{cs:ne}
  (hx:ev e x=some (.func (.func f) #[] #[])) (hv:Evs e args vs) (hf:FnB P f vs [] F' (IsO el sz cs)) (hF:QY bx F F') (hK:∀v,K v (Ow.slice v el sz cs::bx) F):LO P (.call {callee:=.value x,args:=args.toArray,argTypes:=ats}) ty e bx F K:=
 LO.callR (first:=[]) (cap:=[]) hx hv (by simpa using hf) hF (by rintro v _ _ ⟨rfl,rfl⟩;simpa using hK v)
end W
end Go.Proofs.YtbnobghgnbockaaGreat
