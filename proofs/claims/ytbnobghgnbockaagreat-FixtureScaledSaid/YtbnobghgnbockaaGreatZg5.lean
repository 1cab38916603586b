/- Lemmas for a law. Conditions: none. -/
import Derived.Test.YtbnobghgnbockaaGreatZg4
set_option linter.all false
set_option maxHeartbeats 32000000
set_option maxRecDepth 100000
namespace Go.Proofs.YtbnobghgnbockaaGreat
open Go.RowKit
namespace W
variable {P:Program}{n:Nat}{L rest:List Oper}{e:Env}{bx b0:List Ow}{F F0:List Fct}{Q:Env->List Ow->List Fct->Prop}{d j:Nat}{ty:TypeId}{pos:String}{af:Array Edge}{g:Option (Nat×Bool)}{v:Value}{hs:List Nat}{r:Plan}
def WL.Hy{x:Operand}(hy:YO P (.move x) ty e bx F v)(hd:Nat.blt d n=true)(hg:gok L e g=some true)(h:WL P n L rest ((d,v)::e) bx F Q):WL P n L (⟨some d,.move x,ty,pos,af,g⟩::rest) e bx F Q:=WL.y hy hd hg h
def WD.Hy{x:Operand}(hL:L[j]?=some ⟨some d,.move x,ty,pos,af,g⟩)(hy:YO P (.move x) ty e b0 F0 v)(hd:Nat.blt d n=true)(hg:gok L e g=some true)(h:WD P n L hs b0 F0 r ((d,v)::e) bx F Q):WD P n L hs b0 F0 (.held j r) e bx F Q:=WD.y hL hy hd hg h
def WL.Yp{x:Operand}(hy:YO P (.assign x) ty e bx F v)(hd:Nat.blt d n=true)(hg:gok L e g=some true)(h:WL P n L rest ((d,v)::e) bx F Q):WL P n L (⟨some d,.assign x,ty,pos,af,g⟩::rest) e bx F Q:=WL.y hy hd hg h
def WD.Yp{x:Operand}(hL:L[j]?=some ⟨some d,.assign x,ty,pos,af,g⟩)(hy:YO P (.assign x) ty e b0 F0 v)(hd:Nat.blt d n=true)(hg:gok L e g=some true)(h:WD P n L hs b0 F0 r ((d,v)::e) bx F Q):WD P n L hs b0 F0 (.held j r) e bx F Q:=WD.y hL hy hd hg h
def WL.Hu{c x y:Operand}(hy:YO P (.pick c x y) ty e bx F v)(hd:Nat.blt d n=true)(hg:gok L e g=some true)(h:WL P n L rest ((d,v)::e) bx F Q):WL P n L (⟨some d,.pick c x y,ty,pos,af,g⟩::rest) e bx F Q:=WL.y hy hd hg h
def WD.Hu{c x y:Operand}(hL:L[j]?=some ⟨some d,.pick c x y,ty,pos,af,g⟩)(hy:YO P (.pick c x y) ty e b0 F0 v)(hd:Nat.blt d n=true)(hg:gok L e g=some true)(h:WD P n L hs b0 F0 r ((d,v)::e) bx F Q):WD P n L hs b0 F0 (.held j r) e bx F Q:=WD.y hL hy hd hg h
def WL.k_nil{x:Operand}(hy:YO P (.nilCheck x) ty e bx F v)(hd:Nat.blt d n=true)(hg:gok L e g=some true)(h:WL P n L rest ((d,v)::e) bx F Q):WL P n L (⟨some d,.nilCheck x,ty,pos,af,g⟩::rest) e bx F Q:=WL.y hy hd hg h
def WD.k_nil{x:Operand}(hL:L[j]?=some ⟨some d,.nilCheck x,ty,pos,af,g⟩)(hy:YO P (.nilCheck x) ty e b0 F0 v)(hd:Nat.blt d n=true)(hg:gok L e g=some true)(h:WD P n L hs b0 F0 r ((d,v)::e) bx F Q):WD P n L hs b0 F0 (.held j r) e bx F Q:=WD.y hL hy hd hg h
def WL.Y8{t:TypeId}{x:Operand}(hy:YO P (.load t x) ty e bx F v)(hd:Nat.blt d n=true)(hg:gok L e g=some true)(h:WL P n L rest ((d,v)::e) bx F Q):WL P n L (⟨some d,.load t x,ty,pos,af,g⟩::rest) e bx F Q:=WL.y hy hd hg h
def WD.Y8{t:TypeId}{x:Operand}(hL:L[j]?=some ⟨some d,.load t x,ty,pos,af,g⟩)(hy:YO P (.load t x) ty e b0 F0 v)(hd:Nat.blt d n=true)(hg:gok L e g=some true)(h:WD P n L hs b0 F0 r ((d,v)::e) bx F Q):WD P n L hs b0 F0 (.held j r) e bx F Q:=WD.y hL hy hd hg h
def WL.JZ{t:TypeId}{x:Operand}{i:Nat}(hy:YO P (.fieldAddr t x i) ty e bx F v)(hd:Nat.blt d n=true)(hg:gok L e g=some true)(h:WL P n L rest ((d,v)::e) bx F Q):WL P n L (⟨some d,.fieldAddr t x i,ty,pos,af,g⟩::rest) e bx F Q:=WL.y hy hd hg h
def WD.JZ{t:TypeId}{x:Operand}{i:Nat}(hL:L[j]?=some ⟨some d,.fieldAddr t x i,ty,pos,af,g⟩)(hy:YO P (.fieldAddr t x i) ty e b0 F0 v)(hd:Nat.blt d n=true)(hg:gok L e g=some true)(h:WD P n L hs b0 F0 r ((d,v)::e) bx F Q):WD P n L hs b0 F0 (.held j r) e bx F Q:=WD.y hL hy hd hg h
def WL.JK{t:TypeId}{x y:Operand}(hy:YO P (.indexAddr t x y) ty e bx F v)(hd:Nat.blt d n=true)(hg:gok L e g=some true)(h:WL P n L rest ((d,v)::e) bx F Q):WL P n L (⟨some d,.indexAddr t x y,ty,pos,af,g⟩::rest) e bx F Q:=WL.y hy hd hg h
def WD.JK{t:TypeId}{x y:Operand}(hL:L[j]?=some ⟨some d,.indexAddr t x y,ty,pos,af,g⟩)(hy:YO P (.indexAddr t x y) ty e b0 F0 v)(hd:Nat.blt d n=true)(hg:gok L e g=some true)(h:WD P n L hs b0 F0 r ((d,v)::e) bx F Q):WD P n L hs b0 F0 (.held j r) e bx F Q:=WD.y hL hy hd hg h
def WL.YV{t:TypeId}{x:Operand}{lo hi mx:Option Operand}(hy:YO P (.slice t x lo hi mx) ty e bx F v)(hd:Nat.blt d n=true)(hg:gok L e g=some true)(h:WL P n L rest ((d,v)::e) bx F Q):WL P n L (⟨some d,.slice t x lo hi mx,ty,pos,af,g⟩::rest) e bx F Q:=WL.y hy hd hg h
def WD.YV{t:TypeId}{x:Operand}{lo hi mx:Option Operand}(hL:L[j]?=some ⟨some d,.slice t x lo hi mx,ty,pos,af,g⟩)(hy:YO P (.slice t x lo hi mx) ty e b0 F0 v)(hd:Nat.blt d n=true)(hg:gok L e g=some true)(h:WD P n L hs b0 F0 r ((d,v)::e) bx F Q):WD P n L hs b0 F0 (.held j r) e bx F Q:=WD.y hL hy hd hg h
def WL.Yu{t:TypeId}{ps:Array (Nat×Operand)}(hy:YO P (.build t ps) ty e bx F v)(hd:Nat.blt d n=true)(hg:gok L e g=some true)(h:WL P n L rest ((d,v)::e) bx F Q):WL P n L (⟨some d,.build t ps,ty,pos,af,g⟩::rest) e bx F Q:=WL.y hy hd hg h
def WD.Yu{t:TypeId}{ps:Array (Nat×Operand)}(hL:L[j]?=some ⟨some d,.build t ps,ty,pos,af,g⟩)(hy:YO P (.build t ps) ty e b0 F0 v)(hd:Nat.blt d n=true)(hg:gok L e g=some true)(h:WD P n L hs b0 F0 r ((d,v)::e) bx F Q):WD P n L hs b0 F0 (.held j r) e bx F Q:=WD.y hL hy hd hg h
def WL.YR{x:Operand}{i:Nat}(hy:YO P (.extract x i) ty e bx F v)(hd:Nat.blt d n=true)(hg:gok L e g=some true)(h:WL P n L rest ((d,v)::e) bx F Q):WL P n L (⟨some d,.extract x i,ty,pos,af,g⟩::rest) e bx F Q:=WL.y hy hd hg h
def WL.Hv{f:Fn}{a b:Array Operand}(hy:YO P (.makeFunc f a b) ty e bx F v)(hd:Nat.blt d n=true)(hg:gok L e g=some true)(h:WL P n L rest ((d,v)::e) bx F Q):WL P n L (⟨some d,.makeFunc f a b,ty,pos,af,g⟩::rest) e bx F Q:=WL.y hy hd hg h
def WL.Ko{t t2:TypeId}{x:Operand}(hy:YO P (.convert t t2 x) ty e bx F v)(hd:Nat.blt d n=true)(hg:gok L e g=some true)(h:WL P n L rest ((d,v)::e) bx F Q):WL P n L (⟨some d,.convert t t2 x,ty,pos,af,g⟩::rest) e bx F Q:=WL.y hy hd hg h
def WD.Ko{t t2:TypeId}{x:Operand}(hL:L[j]?=some ⟨some d,.convert t t2 x,ty,pos,af,g⟩)(hy:YO P (.convert t t2 x) ty e b0 F0 v)(hd:Nat.blt d n=true)(hg:gok L e g=some true)(h:WD P n L hs b0 F0 r ((d,v)::e) bx F Q):WD P n L hs b0 F0 (.held j r) e bx F Q:=WD.y hL hy hd hg h
def WL.k_add{t t2:TypeId}{x y:Operand}(hy:YO P (.binOp .add t x y t2) ty e bx F v)(hd:Nat.blt d n=true)(hg:gok L e g=some true)(h:WL P n L rest ((d,v)::e) bx F Q):WL P n L (⟨some d,.binOp .add t x y t2,ty,pos,af,g⟩::rest) e bx F Q:=WL.y hy hd hg h
def WD.k_add{t t2:TypeId}{x y:Operand}(hL:L[j]?=some ⟨some d,.binOp .add t x y t2,ty,pos,af,g⟩)(hy:YO P (.binOp .add t x y t2) ty e b0 F0 v)(hd:Nat.blt d n=true)(hg:gok L e g=some true)(h:WD P n L hs b0 F0 r ((d,v)::e) bx F Q):WD P n L hs b0 F0 (.held j r) e bx F Q:=WD.y hL hy hd hg h
def WL.k_sub{t t2:TypeId}{x y:Operand}(hy:YO P (.binOp .sub t x y t2) ty e bx F v)(hd:Nat.blt d n=true)(hg:gok L e g=some true)(h:WL P n L rest ((d,v)::e) bx F Q):WL P n L (⟨some d,.binOp .sub t x y t2,ty,pos,af,g⟩::rest) e bx F Q:=WL.y hy hd hg h
def WD.k_sub{t t2:TypeId}{x y:Operand}(hL:L[j]?=some ⟨some d,.binOp .sub t x y t2,ty,pos,af,g⟩)(hy:YO P (.binOp .sub t x y t2) ty e b0 F0 v)(hd:Nat.blt d n=true)(hg:gok L e g=some true)(h:WD P n L hs b0 F0 r ((d,v)::e) bx F Q):WD P n L hs b0 F0 (.held j r) e bx F Q:=WD.y hL hy hd hg h
def WL.YW{t t2:TypeId}{x y:Operand}(hy:YO P (.binOp .mul t x y t2) ty e bx F v)(hd:Nat.blt d n=true)(hg:gok L e g=some true)(h:WL P n L rest ((d,v)::e) bx F Q):WL P n L (⟨some d,.binOp .mul t x y t2,ty,pos,af,g⟩::rest) e bx F Q:=WL.y hy hd hg h
def WD.YW{t t2:TypeId}{x y:Operand}(hL:L[j]?=some ⟨some d,.binOp .mul t x y t2,ty,pos,af,g⟩)(hy:YO P (.binOp .mul t x y t2) ty e b0 F0 v)(hd:Nat.blt d n=true)(hg:gok L e g=some true)(h:WD P n L hs b0 F0 r ((d,v)::e) bx F Q):WD P n L hs b0 F0 (.held j r) e bx F Q:=WD.y hL hy hd hg h
def WL.Zt{t t2:TypeId}{x y:Operand}(hy:YO P (.binOp .quo t x y t2) ty e bx F v)(hd:Nat.blt d n=true)(hg:gok L e g=some true)(h:WL P n L rest ((d,v)::e) bx F Q):WL P n L (⟨some d,.binOp .quo t x y t2,ty,pos,af,g⟩::rest) e bx F Q:=WL.y hy hd hg h
def WD.Zt{t t2:TypeId}{x y:Operand}(hL:L[j]?=some ⟨some d,.binOp .quo t x y t2,ty,pos,af,g⟩)(hy:YO P (.binOp .quo t x y t2) ty e b0 F0 v)(hd:Nat.blt d n=true)(hg:gok L e g=some true)(h:WD P n L hs b0 F0 r ((d,v)::e) bx F Q):WD P n L hs b0 F0 (.held j r) e bx F Q:=WD.y hL hy hd hg h
def WL.K5{t t2:TypeId}{x y:Operand}(hy:YO P (.binOp .rem t x y t2) ty e bx F v)(hd:Nat.blt d n=true)(hg:gok L e g=some true)(h:WL P n L rest ((d,v)::e) bx F Q):WL P n L (⟨some d,.binOp .rem t x y t2,ty,pos,af,g⟩::rest) e bx F Q:=WL.y hy hd hg h
def WD.K5{t t2:TypeId}{x y:Operand}(hL:L[j]?=some ⟨some d,.binOp .rem t x y t2,ty,pos,af,g⟩)(hy:YO P (.binOp .rem t x y t2) ty e b0 F0 v)(hd:Nat.blt d n=true)(hg:gok L e g=some true)(h:WD P n L hs b0 F0 r ((d,v)::e) bx F Q):WD P n L hs b0 F0 (.held j r) e bx F Q:=WD.y hL hy hd hg h
def WL.k_and{t t2:TypeId}{x y:Operand}(hy:YO P (.binOp .and t x y t2) ty e bx F v)(hd:Nat.blt d n=true)(hg:gok L e g=some true)(h:WL P n L rest ((d,v)::e) bx F Q):WL P n L (⟨some d,.binOp .and t x y t2,ty,pos,af,g⟩::rest) e bx F Q:=WL.y hy hd hg h
def WL.Hh{t t2:TypeId}{x y:Operand}(hy:YO P (.binOp .shl t x y t2) ty e bx F v)(hd:Nat.blt d n=true)(hg:gok L e g=some true)(h:WL P n L rest ((d,v)::e) bx F Q):WL P n L (⟨some d,.binOp .shl t x y t2,ty,pos,af,g⟩::rest) e bx F Q:=WL.y hy hd hg h
def WD.Hh{t t2:TypeId}{x y:Operand}(hL:L[j]?=some ⟨some d,.binOp .shl t x y t2,ty,pos,af,g⟩)(hy:YO P (.binOp .shl t x y t2) ty e b0 F0 v)(hd:Nat.blt d n=true)(hg:gok L e g=some true)(h:WD P n L hs b0 F0 r ((d,v)::e) bx F Q):WD P n L hs b0 F0 (.held j r) e bx F Q:=WD.y hL hy hd hg h
def WL.k_shr{t t2:TypeId}{x y:Operand}(hy:YO P (.binOp .shr t x y t2) ty e bx F v)(hd:Nat.blt d n=true)(hg:gok L e g=some true)(h:WL P n L rest ((d,v)::e) bx F Q):WL P n L (⟨some d,.binOp .shr t x y t2,ty,pos,af,g⟩::rest) e bx F Q:=WL.y hy hd hg h
def WL.Hk{t t2:TypeId}{x y:Operand}(hy:YO P (.binOp .eql t x y t2) ty e bx F v)(hd:Nat.blt d n=true)(hg:gok L e g=some true)(h:WL P n L rest ((d,v)::e) bx F Q):WL P n L (⟨some d,.binOp .eql t x y t2,ty,pos,af,g⟩::rest) e bx F Q:=WL.y hy hd hg h
def WD.Hk{t t2:TypeId}{x y:Operand}(hL:L[j]?=some ⟨some d,.binOp .eql t x y t2,ty,pos,af,g⟩)(hy:YO P (.binOp .eql t x y t2) ty e b0 F0 v)(hd:Nat.blt d n=true)(hg:gok L e g=some true)(h:WD P n L hs b0 F0 r ((d,v)::e) bx F Q):WD P n L hs b0 F0 (.held j r) e bx F Q:=WD.y hL hy hd hg h
def WL.Zs{t t2:TypeId}{x y:Operand}(hy:YO P (.binOp .neq t x y t2) ty e bx F v)(hd:Nat.blt d n=true)(hg:gok L e g=some true)(h:WL P n L rest ((d,v)::e) bx F Q):WL P n L (⟨some d,.binOp .neq t x y t2,ty,pos,af,g⟩::rest) e bx F Q:=WL.y hy hd hg h
def WD.Zs{t t2:TypeId}{x y:Operand}(hL:L[j]?=some ⟨some d,.binOp .neq t x y t2,ty,pos,af,g⟩)(hy:YO P (.binOp .neq t x y t2) ty e b0 F0 v)(hd:Nat.blt d n=true)(hg:gok L e g=some true)(h:WD P n L hs b0 F0 r ((d,v)::e) bx F Q):WD P n L hs b0 F0 (.held j r) e bx F Q:=WD.y hL hy hd hg h
def WL.k_lss{t t2:TypeId}{x y:Operand}(hy:YO P (.binOp .lss t x y t2) ty e bx F v)(hd:Nat.blt d n=true)(hg:gok L e g=some true)(h:WL P n L rest ((d,v)::e) bx F Q):WL P n L (⟨some d,.binOp .lss t x y t2,ty,pos,af,g⟩::rest) e bx F Q:=WL.y hy hd hg h
def WD.k_lss{t t2:TypeId}{x y:Operand}(hL:L[j]?=some ⟨some d,.binOp .lss t x y t2,ty,pos,af,g⟩)(hy:YO P (.binOp .lss t x y t2) ty e b0 F0 v)(hd:Nat.blt d n=true)(hg:gok L e g=some true)(h:WD P n L hs b0 F0 r ((d,v)::e) bx F Q):WD P n L hs b0 F0 (.held j r) e bx F Q:=WD.y hL hy hd hg h
def WL.k_leq{t t2:TypeId}{x y:Operand}(hy:YO P (.binOp .leq t x y t2) ty e bx F v)(hd:Nat.blt d n=true)(hg:gok L e g=some true)(h:WL P n L rest ((d,v)::e) bx F Q):WL P n L (⟨some d,.binOp .leq t x y t2,ty,pos,af,g⟩::rest) e bx F Q:=WL.y hy hd hg h
def WL.k_gtr{t t2:TypeId}{x y:Operand}(hy:YO P (.binOp .gtr t x y t2) ty e bx F v)(hd:Nat.blt d n=true)(hg:gok L e g=some true)(h:WL P n L rest ((d,v)::e) bx F Q):WL P n L (⟨some d,.binOp .gtr t x y t2,ty,pos,af,g⟩::rest) e bx F Q:=WL.y hy hd hg h
def WD.k_gtr{t t2:TypeId}{x y:Operand}(hL:L[j]?=some ⟨some d,.binOp .gtr t x y t2,ty,pos,af,g⟩)(hy:YO P (.binOp .gtr t x y t2) ty e b0 F0 v)(hd:Nat.blt d n=true)(hg:gok L e g=some true)(h:WD P n L hs b0 F0 r ((d,v)::e) bx F Q):WD P n L hs b0 F0 (.held j r) e bx F Q:=WD.y hL hy hd hg h
def WL.k_geq{t t2:TypeId}{x y:Operand}(hy:YO P (.binOp .geq t x y t2) ty e bx F v)(hd:Nat.blt d n=true)(hg:gok L e g=some true)(h:WL P n L rest ((d,v)::e) bx F Q):WL P n L (⟨some d,.binOp .geq t x y t2,ty,pos,af,g⟩::rest) e bx F Q:=WL.y hy hd hg h
def WD.k_geq{t t2:TypeId}{x y:Operand}(hL:L[j]?=some ⟨some d,.binOp .geq t x y t2,ty,pos,af,g⟩)(hy:YO P (.binOp .geq t x y t2) ty e b0 F0 v)(hd:Nat.blt d n=true)(hg:gok L e g=some true)(h:WD P n L hs b0 F0 r ((d,v)::e) bx F Q):WD P n L hs b0 F0 (.held j r) e bx F Q:=WD.y hL hy hd hg h
def WL.Hg{t:TypeId}{x:Operand}(hy:YO P (.unOp .neg t x) ty e bx F v)(hd:Nat.blt d n=true)(hg:gok L e g=some true)(h:WL P n L rest ((d,v)::e) bx F Q):WL P n L (⟨some d,.unOp .neg t x,ty,pos,af,g⟩::rest) e bx F Q:=WL.y hy hd hg h
def WD.Hg{t:TypeId}{x:Operand}(hL:L[j]?=some ⟨some d,.unOp .neg t x,ty,pos,af,g⟩)(hy:YO P (.unOp .neg t x) ty e b0 F0 v)(hd:Nat.blt d n=true)(hg:gok L e g=some true)(h:WD P n L hs b0 F0 r ((d,v)::e) bx F Q):WD P n L hs b0 F0 (.held j r) e bx F Q:=WD.y hL hy hd hg h
def WL.Hf{t:TypeId}{x:Operand}(hy:YO P (.unOp .not t x) ty e bx F v)(hd:Nat.blt d n=true)(hg:gok L e g=some true)(h:WL P n L rest ((d,v)::e) bx F Q):WL P n L (⟨some d,.unOp .not t x,ty,pos,af,g⟩::rest) e bx F Q:=WL.y hy hd hg h
def WD.Hf{t:TypeId}{x:Operand}(hL:L[j]?=some ⟨some d,.unOp .not t x,ty,pos,af,g⟩)(hy:YO P (.unOp .not t x) ty e b0 F0 v)(hd:Nat.blt d n=true)(hg:gok L e g=some true)(h:WD P n L hs b0 F0 r ((d,v)::e) bx F Q):WD P n L hs b0 F0 (.held j r) e bx F Q:=WD.y hL hy hd hg h
def WL.Hw{az:Array Operand}{ts:Array TypeId}(hy:YO P (.call {callee:=.builtin .len,args:=az,argTypes:=ts}) ty e bx F v)(hd:Nat.blt d n=true)(hg:gok L e g=some true)(h:WL P n L rest ((d,v)::e) bx F Q):WL P n L (⟨some d,.call {callee:=.builtin .len,args:=az,argTypes:=ts},ty,pos,af,g⟩::rest) e bx F Q:=WL.y hy hd hg h
def WD.Hw{az:Array Operand}{ts:Array TypeId}(hL:L[j]?=some ⟨some d,.call {callee:=.builtin .len,args:=az,argTypes:=ts},ty,pos,af,g⟩)(hy:YO P (.call {callee:=.builtin .len,args:=az,argTypes:=ts}) ty e b0 F0 v)(hd:Nat.blt d n=true)(hg:gok L e g=some true)(h:WD P n L hs b0 F0 r ((d,v)::e) bx F Q):WD P n L hs b0 F0 (.held j r) e bx F Q:=WD.y hL hy hd hg h
def WL.k_min{az:Array Operand}{ts:Array TypeId}(hy:YO P (.call {callee:=.builtin .min,args:=az,argTypes:=ts}) ty e bx F v)(hd:Nat.blt d n=true)(hg:gok L e g=some true)(h:WL P n L rest ((d,v)::e) bx F Q):WL P n L (⟨some d,.call {callee:=.builtin .min,args:=az,argTypes:=ts},ty,pos,af,g⟩::rest) e bx F Q:=WL.y hy hd hg h
def WL.k_max{az:Array Operand}{ts:Array TypeId}(hy:YO P (.call {callee:=.builtin .max,args:=az,argTypes:=ts}) ty e bx F v)(hd:Nat.blt d n=true)(hg:gok L e g=some true)(h:WL P n L rest ((d,v)::e) bx F Q):WL P n L (⟨some d,.call {callee:=.builtin .max,args:=az,argTypes:=ts},ty,pos,af,g⟩::rest) e bx F Q:=WL.y hy hd hg h
def WL.skg{jw:Nat×Bool}{op:Op}(hg:gok L e (some jw)=some false)(hd:Nat.blt d n=true)(h:WL P n L rest ((d,undef)::e) bx F Q):WL P n L (⟨some d,op,ty,pos,af,some jw⟩::rest) e bx F Q:=WL.skip hd hg h
def WD.skg{jw:Nat×Bool}{op:Op}(hL:L[j]?=some ⟨some d,op,ty,pos,af,some jw⟩)(hg:gok L e (some jw)=some false)(hd:Nat.blt d n=true)(h:WD P n L hs b0 F0 r ((d,undef)::e) bx F Q):WD P n L hs b0 F0 (.held j r) e bx F Q:=WD.skip hL hd hg h
def WD.skgl{jw:Nat×Bool}{op:Op}(hL:L[j]?=some ⟨some d,op,ty,pos,af,some jw⟩)(hg:gok L e (some jw)=some false)(hd:Nat.blt d n=true)(h:WD P n L hs b0 F0 r ((d,undef)::e) bx F Q):WD P n L hs b0 F0 (.loud j r) e bx F Q:=WD.lskip hL hd hg h
end W
namespace W
variable {P:Program}{n:Nat}{c:Code}{e:Env}{bx:List Ow}{F:List Fct}{Q:Post}
section
variable {σ:Type}(E:σ->Env)(B:σ->List Ow)(G:σ->List Fct)(I:σ->Prop)(μ:σ->Nat)
def Qq(s:σ)(e':Env)(bx':List Ow)(F':List Fct):Prop:=∃s',(I s'/\μ s'<μ s)/\Sub (E s') e'/\(B s').Sublist bx'/\Qw F' (G s')
def WC.lp(s0:σ)(hI:I s0)(hround:∀s,I s->WC P n c (E s) (B s) (G s) (XU (Qq E B G I μ s) Q))
  (hE:Sub (E s0) e:=by repeat(first|exact Sub.nil _|refine Sub.cons rfl ?_)) (hB:(B s0).Sublist bx:=by repeat(first|exact wq10|apply List.Sublist.cons_cons|apply List.Sublist.cons)) (hG:Qw F (G s0):=by repeat(first|exact Qw.nil|(apply Qw.cons;exact hmA))):WC P n (.loop c) e bx F Q:=
 WC.loop E B G I μ s0 hI hE hB hG.all λs hs=>(hround s hs).mono λx e b f h=>by
  cases x<;>first|exact h|skip
  obtain⟨s',h1,h2,h3,h4⟩:=h;exact⟨s',h1,h2,h3,h4.all⟩
end
def Qq.mk{σ:Type}{E:σ->Env}{B:σ->List Ow}{G:σ->List Fct}{I:σ->Prop}{μ:σ->Nat}{s:σ}{e':Env}{bx':List Ow}{F':List Fct}(s':σ)
  (hI:I s') (hμ:μ s'<μ s) (hE:Sub (E s') e':=by repeat(first|exact Sub.nil _|refine Sub.cons rfl ?_)) (hB:(B s').Sublist bx':=by repeat(first|exact wq10|apply List.Sublist.cons_cons|apply List.Sublist.cons)) (hG:Qw F' (G s'):=by repeat(first|exact Qw.nil|(apply Qw.cons;exact hmA))):Qq E B G I μ s e' bx' F':=⟨s',⟨hI,hμ⟩,hE,hB,hG⟩
def WC.cut{x y:Code}{σ:Type}(E:σ->Env)(B:σ->List Ow)(G:σ->List Fct)(I:σ->Prop)
  (h1:WC P n x e bx F (XU (λe' bx' F'=>∃s,I s/\Sub (E s) e'/\(B s).Sublist bx'/\Qw F' (G s)) Q))
  (h2:∀s,I s->WC P n y (E s) (B s) (G s) Q):WC P n (.seq x y) e bx F Q:=
 WC.seq (h1.mono λex e b f h=>by
  cases ex<;>first|exact h|skip
  obtain⟨s,h3,h4,h5,h6⟩:=h;exact(h2 s h3).weak h4 h5 h6.all)
def Qs{σ:Type}{E:σ->Env}{B:σ->List Ow}{G:σ->List Fct}{I:σ->Prop}{e':Env}{bx':List Ow}{F':List Fct}(s:σ)(hI:I s)(hE:Sub (E s) e':=by repeat(first|exact Sub.nil _|refine Sub.cons rfl ?_))(hB:(B s).Sublist bx':=by repeat(first|exact wq10|apply List.Sublist.cons_cons|apply List.Sublist.cons))(hG:Qw F' (G s):=by repeat(first|exact Qw.nil|(apply Qw.cons;exact hmA))) :
  ∃s,I s/\Sub (E s) e'/\(B s).Sublist bx'/\Qw F' (G s):=⟨s,hI,hE,hB,hG⟩
def WC.pure{p:Prop}(hp:∀fr w,OK fr bx F w->p)(h:p->WC P n c e bx F Q):WC P n c e bx F Q:=λfr w0 a w hk hr ho=>h (hp fr w ho) fr w0 a w hk hr ho
def WC.lenF{v:Value}{m sz:Nat}{f:Nat->Value}(hf:Has F (slC v m sz f))(h:m<=9223372036854775807->WC P n c e bx F Q):WC P n c e bx F Q:=
 WC.pure (λfr w ho=>by
  obtain⟨a,cap,_,h2,h3,_⟩:=ho.has hf;unfold maxLen at h3;omega) h
def WC.Kt(v:Value)(l:List Int)(hf:Has F (sI v l))(h:l.length<=9223372036854775807->WC P n c e bx F Q):WC P n c e bx F Q:=WC.lenF hf h
def WC.fact(f:Fct)(hf:Has F f)(h:WC P n c e bx (f::F) Q):WC P n c e bx F Q:=λfr w0 a w hk hr ho=>h fr w0 a w hk hr (ho.add (ho.has hf))
end W
namespace W
variable {P:Program}{n:Nat}{L rest:List Oper}{e:Env}{bx bx' b0:List Ow}{F F0:List Fct}{Q:Env->List Ow->List Fct->Prop}{d:Nat}{ty:TypeId}{pos:String}{af:Array Edge}{g:Option (Nat×Bool)}{v u:Value}{hs:List Nat}{r:Plan}
def Qy(P:Program)(t:TypeId)(cs:List Value):Prop:=∃i z,P.info? t=some i/\i.zero=some z/\z.cells.toList=cs
def Qy.of{t:TypeId}{cs:List Value}{z:Value}(h:(P.info? t).map (·.zero)=some (some z))(hz:z.cells.toList=cs):Qy P t cs:=by
 obtain⟨i,h1,h2⟩:=Option.map_eq_some_iff.1 h;exact⟨i,z,h1,h2,hz⟩
def LO.X8{el:TypeId}{K:Qf}{cs:List Value}(ht:Qy P el cs)(h:∀g,K (.pointer (some ⟨g,0,none⟩)) (Ow.cells g el cs::bx) F):LO P (.alloc el) ty e bx F K:=by
 obtain⟨i,z,h1,h2,h3⟩:=ht;exact LO.alloc h1 h2 h3 h
def LO.boxA{el:TypeId}{x:Operand}{K:Qf}{cs:List Value}(hx:ev e x=some (.agg cs.toArray))(h:∀g,K (.pointer (some ⟨g,0,none⟩)) (Ow.cells g el cs::bx) F):LO P (.box el x) ty e bx F K:=LO.box hx (by simp[Value.cells]) h
def One(bx:List Ow)(F:List Fct)(u:Value):Prop:=∀fr w,OK fr bx F w->u.cells=#[u]/\u.oneCell'=true
def One.lit(h1:u.cells=#[u])(h2:u.oneCell'=true):One bx F u:=λ_ _ _=>⟨h1,h2⟩
def One.sl{m:Nat}(h:KnS bx F u m):One bx F u:=λfr w ho=>by
 obtain⟨a,cap,rfl,_⟩:=(h fr w ho).is;exact⟨rfl,rfl⟩
def LO.byOne{op:Op}{K:Qf}(hu:One bx F u)(h:u.cells=#[u]->u.oneCell'=true->LO P op ty e bx F K):LO P op ty e bx F K:=λn fr a w o K' h1 h2 h3 h4 h5=>
 h (hu fr w h4).1 (hu fr w h4).2 n fr a w o K' h1 h2 h3 h4 h5
def LO.box1{el:TypeId}{x:Operand}{K:Qf}(hx:ev e x=some v)(hu:One bx F v)(h:∀g,K (.pointer (some ⟨g,0,none⟩)) (Ow.cells g el [v]::bx) F):LO P (.box el x) ty e bx F K:=
 LO.byOne hu λhc _=>LO.box hx (by rw[hc]) h
def Vv(cs:List Value)(q:Nat)(u:Value)(h:q<cs.length):Jk cs q [u]=cs.set q u:=by
 simp[Jk,List.set_eq_take_append_cons_drop,h]
def LO.XV{t tg:TypeId}{x y:Operand}{K:Qf}{g q:Nat}{cs cs':List Value}(hx:ev e x=some (.pointer (some ⟨g,q,none⟩)))(hy:ev e y=some u)
  (hz:(P.info? t).map (·.size)=some 1) (hu:One bx F u) (hs:Sel bx (.cells g tg cs) (.cells g tg cs') bx') (hq:q<cs.length) (hcs:cs.set q u=cs') (h:K undef bx' F):LO P (.store t x y) ty e bx F K:=
 LO.byOne hu λhc h1=>LO.store hx hy (vs:=[u]) (by rw[hc]) (by simpa using hz) (by simpa using h1) hs (by simp only[List.length_cons,List.length_nil];omega) (by rw[Vv _ _ _ hq];exact hcs) h
def LO.storeA{t tg:TypeId}{x y:Operand}{K:Qf}{g m:Nat}{cs us:List Value}(hx:ev e x=some (.pointer (some ⟨g,0,none⟩)))(hy:ev e y=some (.agg us.toArray))
  (hs:Sel bx (.cells g tg cs) (.cells g tg us) bx') (hr:Row P t m) (hm:us.length=m) (hm2:cs.length=m) (h1:∀c∈us,c.oneCell'=true) (h:K undef bx' F):LO P (.store t x y) ty e bx F K:=
 LO.store hx hy (vs:=us) (by simp[Value.cells]) (by rw[hm];exact hr.2) h1 hs qo (by simp[Jk,hm,<-hm2]) h
def LO.JB{t el sz:TypeId}{x y:Operand}{K:Qf}{j:Nat}{cs cs':List Value}(hx:ev e x=some (.pointer (some (eaddr v j))))(hy:ev e y=some u)
  (hz:(P.info? t).map (·.size)=some 1) (hu:One bx F u) (hs:Sel bx (.slice v el sz cs) (.slice v el sz cs') bx') (hj:j<cs.length) (hcs:cs.set j u=cs') (h:K undef bx' F):LO P (.store t x y) ty e bx F K:=
 LO.byOne hu λhc h1=>LO.storeO hx hy hz hc h1 hs hj hcs h
inductive EvP(e:Env):List (Nat×Operand)->List Value->Prop where
 |nil:EvP e [] []
 |cons {k:Nat} {x:Operand} {v:Value} {xs:List (Nat×Operand)} {vs:List Value}:ev e x=some v->EvP e xs vs->EvP e ((k,x)::xs) (v::vs)
def EvP.evs{ps:List (Nat×Operand)}{us:List Value}(h:EvP e ps us):Evs e (ps.map (·.2)) us:=by
 induction h with
 |nil=>exact .nil
 |cons h _ ih=>exact .cons h ih
def LO.bs1{t el len:Nat}{parts:List (Nat×Operand)}{K:Qf}{us:List Value}(_ht:Qh P t el 1)(hv:EvP e parts us)
  (hr:∀w,(Instr.buildSlice t len ((parts.map (·.1)).zip us).toArray).run P w=.ok (.slice (some ⟨w.heap.size,0,none⟩) len len) (w.alloc (.cells us.toArray el))) (hlen:us.length=len) (hmax:len<=9223372036854775807)
  (h:∀v,K v (Ow.slice v el 1 us::bx) F):LO P (.buildSlice t len parts.toArray) ty e bx F K:=LO.buildSlice hv.evs hr qo hmax h
def Qp.Xc{el:Nat}{cs:List Value}(h:Ow.slice v el 1 cs∈bx):Qp bx F v cs.length 1 cs:=Qp.own h qo qd
def Qp.one{el sz:Nat}{cs:List Value}(h:Ow.slice v el sz cs∈bx)(hn:cs.length=sz)(hsz:0<sz):Qp bx F v 1 sz cs:=Qp.own h qo hsz
def Qp.ints{l:List Int}(h:Has F (sI v l)):Qp bx F v l.length 1 (ints l):=by
 have:=Qp.fact (bx:=bx) h;refine(?_:(List.range (l.length*1)).map _=W.ints l) ▸ this;apply List.ext_getElem
 .simp
 .intro i h1 h2;simp at h1 h2 ⊢;simp[h1]
def K4(l:List Int):∀u∈ints l,u.oneCell'=true:=by intro u hu;simp[ints] at hu;obtain⟨a,_,rfl⟩:=hu;rfl
def resl:Value->Nat->Nat->Nat->Value
 |.slice a _ cap,lo,hi,sz=>.slice (if cap=lo then a else a.map (·.add (lo*sz))) (hi-lo) (cap-lo)
 |v,_,_,_=>v
def ZV{m lo hi sz:Nat}{f:Nat->Value}{h:PH}(hp:(slC v m sz f).p h)(h1:lo<=hi)(h2:hi<=m):(slC (resl v lo hi sz) (hi-lo) sz (λj=>f (lo*sz+j))).p h:=by
 obtain⟨a,cap,rfl,h3,h4,h5⟩:=hp;refine⟨_,_,rfl,by omega,by omega,?_⟩;rcases h5 with ⟨rfl,rfl,rfl⟩|⟨b,off,rfl,c,t,fz,h6,h7⟩
 .left;simp;omega
 .right;by_cases hc:cap=lo
  .refine⟨b,off,by simp[hc],c,t,fz,h6,λj hj=>?_⟩;have:hi-lo=0:=qo;simp[this] at hj
  .refine⟨b,off+lo*sz,by simp[hc,Addr.add_lit],c,t,fz,h6,λj hj=>?_⟩;rw[Nat.add_assoc];refine h7 _ ?_;have h8:lo*sz+(hi-lo)*sz<=m*sz:=by rw[<-Nat.add_mul];exact Nat.mul_le_mul_right _ qo
   omega
def Yc{m sz:Nat}{f f':Nat->Value}{h:PH}(hp:(slC v m sz f).p h)(hf:∀j,j<m*sz->f j=f' j):(slC v m sz f').p h:=by
 obtain⟨a,cap,h1,h3,h4,h5⟩:=hp;refine⟨a,cap,h1,h3,h4,?_⟩;rcases h5 with h5|⟨b,off,h6,c,t,fz,h7,h8⟩
 .exact .inl h5
 .exact .inr ⟨b,off,h6,c,t,fz,h7,λj hj=>by rw[h8 j hj,hf j hj]⟩
def Has.sub{m lo hi sz:Nat}{f:Nat->Value}(h:Has F (slC v m sz f))(h1:lo<=hi)(h2:hi<=m):Has F (slC (resl v lo hi sz) (hi-lo) sz (λj=>f (lo*sz+j))):=λph hf=>ZV (h ph hf) h1 h2
def Has.subI{l:List Int}{lo hi:Nat}(h:Has F (sI v l))(h1:lo<=hi)(h2:hi<=l.length):Has F (sI (resl v lo hi 1) ((l.take hi).drop lo)):=λph hf=>by
 have:=ZV (h ph hf) h1 h2;have hl:((l.take hi).drop lo).length=hi-lo:=by simp;omega
 show(slC _ ((l.take hi).drop lo).length 1 _).p ph;rw[hl];refine Yc this λj hj=>?_;simp only[Nat.mul_one] at hj ⊢;have h3:lo+j<l.length:=qo;simp only[List.getD_eq_getElem?_getD,List.getElem?_drop,List.getElem?_take];rw[if_pos qo]
def Has.takeI{l:List Int}{hi:Nat}(h:Has F (sI v l))(h2:hi<=l.length):Has F (sI (resl v 0 hi 1) (l.take hi)):=by simpa using Has.subI h (Nat.zero_le hi) h2
def Has.dropI{l:List Int}{lo:Nat}(h:Has F (sI v l))(h2:lo<=l.length):Has F (sI (resl v lo l.length 1) (l.drop lo)):=by simpa using Has.subI h h2 (Nat.le_refl _)
def YO.slice{t el sz m:Nat}{x:Operand}{lo hi:Option Operand}{a b:Nat}(ht:Qh P t el sz)(hx:ev e x=some v)(hv:KnS bx F v m)
  (hlo:(lo=none/\a=0)\/∃y,lo=some y/\ev e y=some (.int .i64 (a:Int))) (hhi:(hi=none/\b=m)\/∃y,hi=some y/\ev e y=some (.int .i64 (b:Int))) (h1:a<=b) (h2:b<=m) :
  YO P (.slice t x lo hi none) ty e bx F (resl v a b sz):=
 .of λk fr ac w o hop hk ho=>by
  obtain⟨hu,i,hi',hsz⟩:=ht;obtain⟨a',cap,rfl,h3,h4,h5⟩:=(hv fr w ho).is;have hna:∀el' nn,P.underlying t≠some (.array nn el'):=λ_ _ h=>by rw[hu] at h;cases h
  have hcz:P.cellsOf el=sz:=by simp[Program.cellsOf,hi',hsz]
  have hbc:b<=cap:=qo;have e1:((b:Int)<=(cap:Int)):=qo;have e2:((a:Int)<=(b:Int)):=qo;have e3:((a:Int)<=(m:Int)):=qo;have hx':=hk.eval hx;have hs:∀w,(sizeOf el).run P w=.ok sz w:=λw=>by simpa [hsz,hcz] using run_sizeOf (P:=P) w hi'
  have e0:(0:Int)<=(a:Int):=qo;have e00:(0:Int)<=(b:Int):=qo;rcases hlo with ⟨rfl,rfl⟩|⟨y,rfl,hy⟩<;>rcases hhi with ⟨rfl,rfl⟩|⟨z,rfl,hz⟩
  .simp[execOp,hop,hx',Instr.sliceAt,run_underlying hu,Instr.slice,Instr.sliceBounds,hs,resl]
  .have hz':=hk.eval hz;constructor<;>simp[execOp,hop,hx',hz',Instr.sliceAt,run_underlying hu,Instr.slice,Instr.sliceBounds,Instr.sliceBound,asIntOf,hs,resl,hbc]
  .have hy':=hk.eval hy;constructor<;>simp[execOp,hop,hx',hy',Instr.sliceAt,run_underlying hu,Instr.slice,Instr.sliceBounds,Instr.sliceBound,asIntOf,hs,resl,h1]
  .have hy':=hk.eval hy;have hz':=hk.eval hz;constructor<;>simp[execOp,hop,hx',hy',hz',Instr.sliceAt,run_underlying hu,Instr.slice,Instr.sliceBounds,Instr.sliceBound,asIntOf,hs,resl,hbc,h1]
section
variable {t t':TypeId}{x y:Operand}{i j:Int}{k k':IntKind}
def QJ(P:Program)(t:TypeId)(k:IntKind):Prop:=P.underlying t=some (.int k)
def YO.Gf{s d:TypeId}{ks:IntKind}(hd:QJ P d .u64)(hs:QJ P s ks)(hx:ev e x=some (.int k i))(h1:0<=i)(h2:i<=18446744073709551615):YO P (.convert s d x) ty e bx F (.int .u64 i):=by
 have:=YO.conv (P:=P) (bx:=bx) (F:=F) (ty:=ty) hd hs hx
 rwa [wrap_u64 h1 h2] at this
def YO.convI{s d:TypeId}{ks:IntKind}(hd:QJ P d .i64)(hs:QJ P s ks)(hx:ev e x=some (.int k i))(h1:-9223372036854775808<=i)(h2:i<=9223372036854775807):YO P (.convert s d x) ty e bx F (.int .i64 i):=by
 have:=YO.conv (bx:=bx) (F:=F) (ty:=ty) hd hs hx
 rwa [wrap_i64 h1 h2] at this
def YO.shl'(hx:ev e x=some (.int .i64 i))(hy:ev e y=some (.int k' j))(h:0<=j)(h64:j<64)(h1:-9223372036854775808<=i*2^j.toNat)(h2:i*2^j.toNat<=9223372036854775807):YO P (.binOp .shl t x y t') ty e bx F (.int .i64 (i*2^j.toNat)):=by
 have:=YO.shl (P:=P) (bx:=bx) (F:=F) (ty:=ty) (t:=t) (t':=t') hx hy h
 rwa [show Min.min j.toNat IntKind.i64.bits=j.toNat from Nat.min_eq_left (by simp[IntKind.bits];omega),wrap_i64 h1 h2] at this
def YO.shr'(hx:ev e x=some (.int .i64 i))(hy:ev e y=some (.int k' j))(h:0<=j)(h64:j<64):YO P (.binOp .shr t x y t') ty e bx F (.int .i64 (i/2^j.toNat)):=by
 have:=YO.shr (P:=P) (bx:=bx) (F:=F) (ty:=ty) (t:=t) (t':=t') hx hy h
 rwa [show Min.min j.toNat IntKind.i64.bits=j.toNat from Nat.min_eq_left (by simp[IntKind.bits];omega),Int.fdiv_eq_ediv_of_nonneg _ (Int.le_of_lt (Int.pow_pos qd))] at this
def bv_toNat{i:Int}(h1:0<=i)(h2:i<18446744073709551616):(BitVec.ofInt 64 i).toNat=i.toNat:=by
 rw[BitVec.toNat_ofInt];congr 1;simp;omega
def run_and(h1:0<=i)(h2:i<=9223372036854775807)(h3:0<=j)(h4:j<=9223372036854775807)(w:World):(binOp .and t (.int .i64 i) (.int .i64 j)).run P w=.ok (.int .i64 ((i.toNat &&& j.toNat:Nat):Int)) w:=by
 have hle:i.toNat &&& j.toNat<=i.toNat:=Nat.and_le_left;simp only[binOp,Op.intBits]
 have:(BitVec.ofInt IntKind.i64.bits i &&& BitVec.ofInt IntKind.i64.bits j).toNat=i.toNat &&& j.toNat:=by
  show(BitVec.ofInt 64 i &&& BitVec.ofInt 64 j).toNat=_;rw[BitVec.toNat_and,bv_toNat h1 qo,bv_toNat h3 qo]
 simp[this,wrap_i64 (n:=((i.toNat &&& j.toNat:Nat):Int)) qo qo]
def YO.and(hx:ev e x=some (.int .i64 i))(hy:ev e y=some (.int .i64 j))(h1:0<=i)(h2:i<=9223372036854775807)(h3:0<=j)(h4:j<=9223372036854775807):YO P (.binOp .and t x y t') ty e bx F (.int .i64 ((i.toNat &&& j.toNat:Nat):Int)):=YO.bits hx hy (run_and h1 h2 h3 h4)
def YO.and1(hx:ev e x=some (.int .i64 i))(hy:ev e y=some (.int .i64 1))(h1:0<=i)(h2:i<=9223372036854775807):YO P (.binOp .and t x y t') ty e bx F (.int .i64 (i%2)):=by
 have:=YO.and (P:=P) (bx:=bx) (F:=F) (ty:=ty) (t:=t) (t':=t') hx hy h1 h2 qd qd
 rw[show((i.toNat &&& (1:Int).toNat:Nat):Int)=i%2 from by
  show((i.toNat &&& 1:Nat):Int)=_;rw[Nat.and_one_is_mod];omega] at this
 exact this
end
def LO.app{t el sz bytes m:Nat}{z:Value}{x y:Operand}{K:Qf}{yv:Value}{cs news:List Value}{bx':Value->List Ow}(ht:Xm P t el sz z bytes)(hx:ev e x=some v)(hy:ev e y=some yv)
  (hsrc:Qp bx F yv m sz news) (hs:∀v',Sel bx (.slice v el sz cs) (.slice v' el sz (cs++news)) (bx' v')) (h1:∀u∈news,u.oneCell'=true) (hlen:(cs.length+news.length)*bytes<=140737488355328) (hmax:cs.length+news.length<=9223372036854775807)
  (h:∀v',K v' (bx' v') F):LO P (.call {callee:=.builtin .append,args:=#[x,y],argTypes:=#[t,t]}) ty e bx F K:=LO.append ht hx hy hs hsrc h1 hlen hmax h
section
variable {op:Op}{K:Qf}{t:TypeId}{x y:Operand}
def WL.XX(hl:LO P (.alloc t) ty e bx F λv bx' F'=>WL P n L rest ((d,v)::e) bx' F' Q)(hd:Nat.blt d n=true)(hg:gok L e g=some true):WL P n L (⟨some d,.alloc t,ty,pos,af,g⟩::rest) e bx F Q:=WL.l hd hg hl
def WL.kl_box(hl:LO P (.box t x) ty e bx F λv bx' F'=>WL P n L rest ((d,v)::e) bx' F' Q)(hd:Nat.blt d n=true)(hg:gok L e g=some true):WL P n L (⟨some d,.box t x,ty,pos,af,g⟩::rest) e bx F Q:=WL.l hd hg hl
def WL.JW{k:Nat}{ps:Array (Nat×Operand)}(hl:LO P (.buildSlice t k ps) ty e bx F λv bx' F'=>WL P n L rest ((d,v)::e) bx' F' Q)(hd:Nat.blt d n=true)(hg:gok L e g=some true):WL P n L (⟨some d,.buildSlice t k ps,ty,pos,af,g⟩::rest) e bx F Q:=WL.l hd hg hl
def WL.K6(hl:LO P (.makeSlice t x y) ty e bx F λv bx' F'=>WL P n L rest ((d,v)::e) bx' F' Q)(hd:Nat.blt d n=true)(hg:gok L e g=some true):WL P n L (⟨some d,.makeSlice t x y,ty,pos,af,g⟩::rest) e bx F Q:=WL.l hd hg hl
def WL.Jy{az:Array Operand}{ts:Array TypeId}(hl:LO P (.call {callee:=.builtin .append,args:=az,argTypes:=ts}) ty e bx F λv bx' F'=>WL P n L rest ((d,v)::e) bx' F' Q)(hd:Nat.blt d n=true)(hg:gok L e g=some true):WL P n L (⟨some d,.call {callee:=.builtin .append,args:=az,argTypes:=ts},ty,pos,af,g⟩::rest) e bx F Q:=WL.l hd hg hl
def WL.Jc(hl:LO P (.store t x y) ty e bx F λ_ bx' F'=>WL P n L rest e bx' F' Q)(hg:gok L e g=some true):WL P n L (⟨none,.store t x y,ty,pos,af,g⟩::rest) e bx F Q:=WL.l0 hg hl
variable {i:Nat}
def WD.XX(hL:L[i]?=some ⟨some d,.alloc t,ty,pos,af,g⟩)(hl:LO P (.alloc t) ty e bx F λv bx' F'=>(QR L hs i=true\/(b0.Sublist bx'/\∀f∈F0,f∈F'))/\WD P n L hs b0 F0 r ((d,v)::e) bx' F' Q)(hd:Nat.blt d n=true)(hg:gok L e g=some true):WD P n L hs b0 F0 (.loud i r) e bx F Q:=WD.l hL hd hg hl
def WD.JW{k:Nat}{ps:Array (Nat×Operand)}(hL:L[i]?=some ⟨some d,.buildSlice t k ps,ty,pos,af,g⟩)(hl:LO P (.buildSlice t k ps) ty e bx F λv bx' F'=>(QR L hs i=true\/(b0.Sublist bx'/\∀f∈F0,f∈F'))/\WD P n L hs b0 F0 r ((d,v)::e) bx' F' Q)(hd:Nat.blt d n=true)(hg:gok L e g=some true):WD P n L hs b0 F0 (.loud i r) e bx F Q:=WD.l hL hd hg hl
def WD.K6(hL:L[i]?=some ⟨some d,.makeSlice t x y,ty,pos,af,g⟩)(hl:LO P (.makeSlice t x y) ty e bx F λv bx' F'=>(QR L hs i=true\/(b0.Sublist bx'/\∀f∈F0,f∈F'))/\WD P n L hs b0 F0 r ((d,v)::e) bx' F' Q)(hd:Nat.blt d n=true)(hg:gok L e g=some true):WD P n L hs b0 F0 (.loud i r) e bx F Q:=WD.l hL hd hg hl
def WD.Jy{az:Array Operand}{ts:Array TypeId}(hL:L[i]?=some ⟨some d,.call {callee:=.builtin .append,args:=az,argTypes:=ts},ty,pos,af,g⟩)(hl:LO P (.call {callee:=.builtin .append,args:=az,argTypes:=ts}) ty e bx F λv bx' F'=>(QR L hs i=true\/(b0.Sublist bx'/\∀f∈F0,f∈F'))/\WD P n L hs b0 F0 r ((d,v)::e) bx' F' Q)(hd:Nat.blt d n=true)(hg:gok L e g=some true):WD P n L hs b0 F0 (.loud i r) e bx F Q:=WD.l hL hd hg hl
def WD.Jc(hL:L[i]?=some ⟨none,.store t x y,ty,pos,af,g⟩)(hl:LO P (.store t x y) ty e bx F λ_ bx' F'=>(QR L hs i=true\/(b0.Sublist bx'/\∀f∈F0,f∈F'))/\WD P n L hs b0 F0 r e bx' F' Q)(hg:gok L e g=some true):WD P n L hs b0 F0 (.loud i r) e bx F Q:=WD.l0 hL hg hl
end
def KnS.o1{el:Nat}{cs:List Value}(h:Ow.slice v el 1 cs∈bx):KnS bx F v cs.length:=KnS.o h qo qd
def KnS.oI{el:Nat}{l:List Int}(h:Ow.slice v el 1 (ints l)∈bx):KnS bx F v l.length:=KnS.o h (by simp) qd
def YO.Ks{t el:TypeId}{x:Operand}{j:Nat}{l:List Int}(hs:Qv P t)(hx:ev e x=some (.pointer (some (eaddr v j))))(hb:Ow.slice v el 1 (ints l)∈bx)(hj:j<l.length):YO P (.load t x) ty e bx F (.int .i64 (l.getD j 0)):=
 YO.ldO hs hx hb (by simp[List.getElem?_eq_getElem hj])
end W
namespace W
variable {P:Program}{e:Env}{bx:List Ow}{F:List Fct}{ty:TypeId}{v:Value}
def QQ(bx:List Ow)(F:List Fct)(f:Fct):Prop:=∀fr w,OK fr bx F w->f.p (imm fr [] w.heap)
def FW{fr:CF}{w:World}{k:Nat}(h:fr.own k\/fr.vs k)(hf:fr.fr k=none):imm fr [] w.heap k=w.heap[k]?:=by simp[imm,ids,hf,CF.Yz h]
def QQ.f{f:Fct}(h:Has F f):QQ bx F f:=λfr w ho=>(ho.drop (List.nil_sublist _)).has h
def QQ.o{el sz n:Nat}{cs:List Value}{f:Nat->Value}(hb:Ow.slice v el sz cs∈bx)(hn:cs.length=n*sz)(hsz:0<sz)(hf:∀j,j<n*sz->cs[j]?=some (f j)):QQ bx F (slC v n sz f):=λfr w ho=>by
 obtain⟨m,h3,⟨rfl,h4⟩|⟨g,cap,sp,rfl,h4,h5,h6,h7⟩⟩:=ho.owns _ hb
 .subst h4
  have:n=0:=by
   have:n*sz=0:=qo;rcases Nat.mul_eq_zero.1 this with h|h<;>omega
  subst this;exact⟨none,0,rfl,Nat.le_refl _,by simp[maxLen],.inl ⟨rfl,rfl,rfl⟩⟩
 .have hmn:m=n:=Nat.eq_of_mul_eq_mul_right hsz qo;subst hmn;refine⟨_,cap,rfl,h4,h5,.inr ⟨g,0,rfl,(cs++sp).toArray,el,(0,0),?_,λj hj=>?_⟩⟩
  .have hg:=ho.apart g (JV.2 ⟨_,hb,by simp[Ow.ids]⟩);rw[FW (.inl hg.1) hg.2];exact h6
  .have hj':j<cs.length:=qo;simp only[Nat.zero_add,List.getElem?_toArray];rw[List.getElem?_append_left hj'];exact hf j hj
def QQ.oI{el:Nat}{l:List Int}(hb:Ow.slice v el 1 (ints l)∈bx):QQ bx F (sI v l):=
 QQ.o hb (by simp) qd λj hj=>by
  have hj':j<l.length:=qo;simp[List.getElem?_eq_getElem hj']
inductive QZ(bx:List Ow)(F:List Fct):List Fct->Prop where
 |nil:QZ bx F []
 |cons {g:Fct} {G:List Fct}:QQ bx F g->QZ bx F G->QZ bx F (g::G)
def QZ.all{G:List Fct}(h:QZ bx F G):∀g∈G,QQ bx F g:=by
 induction h with
 |nil=>simp
 |cons h _ ih=>intro g hg;rcases List.mem_cons.1 hg with rfl|hg;exact h;exact ih _ hg
def lend{fr:CF}{own:Bk}{w w':World}{b:List Ow}{G:List Fct}(h:OK fr bx F w)(hw:∀k,fr.own k->own k)(hle:(imm fr [] w.heap).le (imm (fr.at own) b w'.heap))(hok:OK (fr.at own) b G w'):OK (fr.at own) (b++bx) F w':=by
 have hsame:∀k,k<w.heap.size->fr.own k\/fr.vs k->fr.fr k=none->w'.heap[k]?=w.heap[k]?/\k∉ids b:=λk hk hm hf=>by
  have hs:imm fr [] w.heap k=some w.heap[k]:=by rw[FW hm hf];simp[hk]
  have h2:=hle _ _ hs;refine⟨(JX h2).trans (by simp[hk]),λhin=>?_⟩;simp only[imm] at h2;rw[if_pos (by simp[hin])] at h2;cases h2
 have hlt:∀k∈ids bx,k<w.heap.size:=λk hk=>by obtain⟨c,hc,hkc⟩:=JV.1 hk;exact Ow.lt (h.owns c hc) k hkc
 refine⟨hok.frame,λk hk=>?_,?_,λc hc=>?_,λf hf=>f.mono (imm fr bx w.heap) _ (.mk rfl λk o ho=>?_) (h.facts f hf)⟩
 .simp only[ids,List.flatMap_append,List.mem_append] at hk;rcases hk with hk|hk
  .exact hok.apart k hk
  .have:=h.apart k hk;exact⟨hw k this.1,this.2⟩
 .simp only[ids,List.flatMap_append];refine List.nodup_append.2 ⟨hok.nodup,h.nodup,λk h1 k' h2 he=>?_⟩;subst he;have:=h.apart k h2;exact(hsame k (hlt k h2) (.inl this.1) this.2).2 h1
 .rcases List.mem_append.1 hc with hc|hc
  .exact hok.owns c hc
  .refine Ow.J4 (h.owns c hc) λk hk=>?_;have:=h.apart k (JV.2 ⟨c,hc,hk⟩);exact(hsame k (hlt k (JV.2 ⟨c,hc,hk⟩)) (.inl this.1) this.2).1
 .have hm:=X3 ho;have hh:=JX ho;simp only[imm] at ho ⊢;split at ho
  .cases ho
  .rename_i hc
   simp only[Bool.or_eq_true,List.contains_iff_mem,not_or,Bool.not_eq_true,Option.isSome_eq_false_iff,Option.isNone_iff_eq_none] at hc;have hkl:k<w.heap.size:=(Array.getElem?_eq_some_iff.1 hh).1;obtain⟨h1,h2⟩:=hsame k hkl hm hc.1;rw[if_neg,CF.Yz (c:=fr.at own) (hm.imp (hw k) id),h1]
   .exact hh
   .have hc1:(fr.at own).fr k=none:=hc.1;simp only[Bool.or_eq_true,List.contains_iff_mem,ids,List.flatMap_append,List.mem_append,not_or,hc1];exact⟨by simp,h2,hc.2⟩
def LO.callR{f:FuncId}{x:Operand}{args:List Operand}{ats:Array TypeId}{K:Qf}{first cap vs:List Value}{F':List Fct}{R:Qf}
  (hx:ev e x=some (.func (.func f) first.toArray cap.toArray)) (hv:Evs e args vs) (hf:FnB P f (first++vs++cap) [] F' R) (hF:QZ bx F F') (hK:∀v b G,R v b G->K v (b++bx) F) :
  LO P (.call {callee:=.value x,args:=args.toArray,argTypes:=ats}) ty e bx F K:=λn fr a w o K' hop _ hk ho hnext=>by
 have hr:=KH (w:=w) hf.1 hop (hk.eval hx) (vs:=first++vs++cap) (by rw[<-hv.map hk];simp);rw[hr.1];refine .inl ⟨.look (by rw[hr.2];simp),?_⟩;rw[Qt (Nat.le_refl _)];have h0:=ho.drop (List.nil_sublist bx);have h1:OK fr [] F' w:=⟨h0.frame,h0.apart,h0.nodup,h0.owns,λg hg=>hF.all g hg fr w ho⟩
 refine(hf.2 fr w h1).mono λown v w' ⟨hw,b,G,hR,hr',hle,hok⟩=>?_;exact hnext (fr.at own) v w' _ _ (CF.le_at hw) hr' (lend ho hw hle hok) (hK v b G hR)
def LO.UU{f:FuncId}{x:Operand}{args:List Operand}{ats:Array TypeId}{K:Qf}{vs:List Value}{F':List Fct}{u:Value}
  (hx:ev e x=some (.func (.func f) #[] #[])) (hv:Evs e args vs) (hf:FnB P f vs [] F' (IsV u)) (hF:QZ bx F F') (hK:K u bx F):LO P (.call {callee:=.value x,args:=args.toArray,argTypes:=ats}) ty e bx F K:=
 LO.callR (first:=[]) (cap:=[]) hx hv (by simpa using hf) hF (by rintro _ _ _ ⟨rfl,rfl,rfl⟩;simpa using hK)
def LO.callRO{f:FuncId}{x:Operand}{args:List Operand}{ats:Array TypeId}{K:Qf}{vs:List Value}{F':List Fct}{el sz:Nat}{cs:List Value}
  (hx:ev e x=some (.func (.func f) #[] #[])) (hv:Evs e args vs) (hf:FnB P f vs [] F' (IsO el sz cs)) (hF:QZ bx F F') (hK:∀v,K v (Ow.slice v el sz cs::bx) F):LO P (.call {callee:=.value x,args:=args.toArray,argTypes:=ats}) ty e bx F K:=
 LO.callR (first:=[]) (cap:=[]) hx hv (by simpa using hf) hF (by rintro v _ _ ⟨rfl,rfl⟩;simpa using hK v)
end W
end Go.Proofs.YtbnobghgnbockaaGreat
