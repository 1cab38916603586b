/- Lemmas for the proof of a law: The executor: the steps by the operation's kind. Written by a program. Conditions: none. -/
import Derived.Test.YtaongbhamadlkaaGreatBq1
import Derived.Test.YtaongbhamadlkaaGreatProg
import Derived.Shelf.SlGeneric
import Derived.Shelf.SortM.Plain
import Derived.Shelf.SortM.SortNone
import Derived.Ground.SlgmProg
import Derived.Shelf.Slices.CompactI
import Derived.Shelf.SlicesE.DeleteFunc
import Derived.RangeFuncBox
import Derived.OwnWalkIn
import Derived.TacticsInMore
import Derived.LoopNIn
import Derived.LoopIn
import Derived.Sort.Grow
set_option linter.unusedVariables false
set_option linter.unusedSimpArgs false
set_option linter.unusedSectionVars false
namespace Go.Proofs.YtaongbhamadlkaaGreat
open Go.RowKit
namespace W
variable {P:Program} {n:Nat} {L rest:List Oper} {e:Env} {bx b0:List Ow} {F F0:List Fct} {Q:Env→List Ow→List Fct→Prop} {d j:Nat} {ty:TypeId} {pos:String} {af:Array Edge} {g:Option (Nat×Bool)} {v:Value} {hs:List Nat} {r:Plan}
theorem WL.k_move {x:Operand} (hy:YO P (.move x) ty e bx F v) (hd:Nat.blt d n=true) (hg:gok L e g=some true) (h:WL P n L rest ((d,v)::e) bx F Q):WL P n L (⟨some d,.move x,ty,pos,af,g⟩::rest) e bx F Q:=WL.y hy hd hg h
theorem WD.k_move {x:Operand} (hL:L[j]?=some ⟨some d,.move x,ty,pos,af,g⟩) (hy:YO P (.move x) ty e b0 F0 v) (hd:Nat.blt d n=true) (hg:gok L e g=some true) (h:WD P n L hs b0 F0 r ((d,v)::e) bx F Q):WD P n L hs b0 F0 (.held j r) e bx F Q:=WD.y hL hy hd hg h
theorem WL.k_assign {x:Operand} (hy:YO P (.assign x) ty e bx F v) (hd:Nat.blt d n=true) (hg:gok L e g=some true) (h:WL P n L rest ((d,v)::e) bx F Q):WL P n L (⟨some d,.assign x,ty,pos,af,g⟩::rest) e bx F Q:=WL.y hy hd hg h
theorem WD.k_assign {x:Operand} (hL:L[j]?=some ⟨some d,.assign x,ty,pos,af,g⟩) (hy:YO P (.assign x) ty e b0 F0 v) (hd:Nat.blt d n=true) (hg:gok L e g=some true) (h:WD P n L hs b0 F0 r ((d,v)::e) bx F Q):WD P n L hs b0 F0 (.held j r) e bx F Q:=WD.y hL hy hd hg h
theorem WL.k_pick {c x y:Operand} (hy:YO P (.pick c x y) ty e bx F v) (hd:Nat.blt d n=true) (hg:gok L e g=some true) (h:WL P n L rest ((d,v)::e) bx F Q):WL P n L (⟨some d,.pick c x y,ty,pos,af,g⟩::rest) e bx F Q:=WL.y hy hd hg h
theorem WD.k_pick {c x y:Operand} (hL:L[j]?=some ⟨some d,.pick c x y,ty,pos,af,g⟩) (hy:YO P (.pick c x y) ty e b0 F0 v) (hd:Nat.blt d n=true) (hg:gok L e g=some true) (h:WD P n L hs b0 F0 r ((d,v)::e) bx F Q):WD P n L hs b0 F0 (.held j r) e bx F Q:=WD.y hL hy hd hg h
theorem WL.k_nil {x:Operand} (hy:YO P (.nilCheck x) ty e bx F v) (hd:Nat.blt d n=true) (hg:gok L e g=some true) (h:WL P n L rest ((d,v)::e) bx F Q):WL P n L (⟨some d,.nilCheck x,ty,pos,af,g⟩::rest) e bx F Q:=WL.y hy hd hg h
theorem WD.k_nil {x:Operand} (hL:L[j]?=some ⟨some d,.nilCheck x,ty,pos,af,g⟩) (hy:YO P (.nilCheck x) ty e b0 F0 v) (hd:Nat.blt d n=true) (hg:gok L e g=some true) (h:WD P n L hs b0 F0 r ((d,v)::e) bx F Q):WD P n L hs b0 F0 (.held j r) e bx F Q:=WD.y hL hy hd hg h
theorem WL.k_load {t:TypeId} {x:Operand} (hy:YO P (.load t x) ty e bx F v) (hd:Nat.blt d n=true) (hg:gok L e g=some true) (h:WL P n L rest ((d,v)::e) bx F Q):WL P n L (⟨some d,.load t x,ty,pos,af,g⟩::rest) e bx F Q:=WL.y hy hd hg h
theorem WD.k_load {t:TypeId} {x:Operand} (hL:L[j]?=some ⟨some d,.load t x,ty,pos,af,g⟩) (hy:YO P (.load t x) ty e b0 F0 v) (hd:Nat.blt d n=true) (hg:gok L e g=some true) (h:WD P n L hs b0 F0 r ((d,v)::e) bx F Q):WD P n L hs b0 F0 (.held j r) e bx F Q:=WD.y hL hy hd hg h
theorem WL.k_fieldAddr {t:TypeId} {x:Operand} {i:Nat} (hy:YO P (.fieldAddr t x i) ty e bx F v) (hd:Nat.blt d n=true) (hg:gok L e g=some true) (h:WL P n L rest ((d,v)::e) bx F Q):WL P n L (⟨some d,.fieldAddr t x i,ty,pos,af,g⟩::rest) e bx F Q:=WL.y hy hd hg h
theorem WD.k_fieldAddr {t:TypeId} {x:Operand} {i:Nat} (hL:L[j]?=some ⟨some d,.fieldAddr t x i,ty,pos,af,g⟩) (hy:YO P (.fieldAddr t x i) ty e b0 F0 v) (hd:Nat.blt d n=true) (hg:gok L e g=some true) (h:WD P n L hs b0 F0 r ((d,v)::e) bx F Q):WD P n L hs b0 F0 (.held j r) e bx F Q:=WD.y hL hy hd hg h
theorem WL.k_field {t:TypeId} {x:Operand} {i:Nat} (hy:YO P (.field t x i) ty e bx F v) (hd:Nat.blt d n=true) (hg:gok L e g=some true) (h:WL P n L rest ((d,v)::e) bx F Q):WL P n L (⟨some d,.field t x i,ty,pos,af,g⟩::rest) e bx F Q:=WL.y hy hd hg h
theorem WD.k_field {t:TypeId} {x:Operand} {i:Nat} (hL:L[j]?=some ⟨some d,.field t x i,ty,pos,af,g⟩) (hy:YO P (.field t x i) ty e b0 F0 v) (hd:Nat.blt d n=true) (hg:gok L e g=some true) (h:WD P n L hs b0 F0 r ((d,v)::e) bx F Q):WD P n L hs b0 F0 (.held j r) e bx F Q:=WD.y hL hy hd hg h
theorem WL.k_indexAddr {t:TypeId} {x y:Operand} (hy:YO P (.indexAddr t x y) ty e bx F v) (hd:Nat.blt d n=true) (hg:gok L e g=some true) (h:WL P n L rest ((d,v)::e) bx F Q):WL P n L (⟨some d,.indexAddr t x y,ty,pos,af,g⟩::rest) e bx F Q:=WL.y hy hd hg h
theorem WD.k_indexAddr {t:TypeId} {x y:Operand} (hL:L[j]?=some ⟨some d,.indexAddr t x y,ty,pos,af,g⟩) (hy:YO P (.indexAddr t x y) ty e b0 F0 v) (hd:Nat.blt d n=true) (hg:gok L e g=some true) (h:WD P n L hs b0 F0 r ((d,v)::e) bx F Q):WD P n L hs b0 F0 (.held j r) e bx F Q:=WD.y hL hy hd hg h
theorem WL.k_slice {t:TypeId} {x:Operand} {lo hi mx:Option Operand} (hy:YO P (.slice t x lo hi mx) ty e bx F v) (hd:Nat.blt d n=true) (hg:gok L e g=some true) (h:WL P n L rest ((d,v)::e) bx F Q):WL P n L (⟨some d,.slice t x lo hi mx,ty,pos,af,g⟩::rest) e bx F Q:=WL.y hy hd hg h
theorem WD.k_slice {t:TypeId} {x:Operand} {lo hi mx:Option Operand} (hL:L[j]?=some ⟨some d,.slice t x lo hi mx,ty,pos,af,g⟩) (hy:YO P (.slice t x lo hi mx) ty e b0 F0 v) (hd:Nat.blt d n=true) (hg:gok L e g=some true) (h:WD P n L hs b0 F0 r ((d,v)::e) bx F Q):WD P n L hs b0 F0 (.held j r) e bx F Q:=WD.y hL hy hd hg h
theorem WL.k_build {t:TypeId} {ps:Array (Nat×Operand)} (hy:YO P (.build t ps) ty e bx F v) (hd:Nat.blt d n=true) (hg:gok L e g=some true) (h:WL P n L rest ((d,v)::e) bx F Q):WL P n L (⟨some d,.build t ps,ty,pos,af,g⟩::rest) e bx F Q:=WL.y hy hd hg h
theorem WD.k_build {t:TypeId} {ps:Array (Nat×Operand)} (hL:L[j]?=some ⟨some d,.build t ps,ty,pos,af,g⟩) (hy:YO P (.build t ps) ty e b0 F0 v) (hd:Nat.blt d n=true) (hg:gok L e g=some true) (h:WD P n L hs b0 F0 r ((d,v)::e) bx F Q):WD P n L hs b0 F0 (.held j r) e bx F Q:=WD.y hL hy hd hg h
theorem WL.k_extract {x:Operand} {i:Nat} (hy:YO P (.extract x i) ty e bx F v) (hd:Nat.blt d n=true) (hg:gok L e g=some true) (h:WL P n L rest ((d,v)::e) bx F Q):WL P n L (⟨some d,.extract x i,ty,pos,af,g⟩::rest) e bx F Q:=WL.y hy hd hg h
theorem WD.k_extract {x:Operand} {i:Nat} (hL:L[j]?=some ⟨some d,.extract x i,ty,pos,af,g⟩) (hy:YO P (.extract x i) ty e b0 F0 v) (hd:Nat.blt d n=true) (hg:gok L e g=some true) (h:WD P n L hs b0 F0 r ((d,v)::e) bx F Q):WD P n L hs b0 F0 (.held j r) e bx F Q:=WD.y hL hy hd hg h
theorem WL.k_makeFunc {f:Fn} {a b:Array Operand} (hy:YO P (.makeFunc f a b) ty e bx F v) (hd:Nat.blt d n=true) (hg:gok L e g=some true) (h:WL P n L rest ((d,v)::e) bx F Q):WL P n L (⟨some d,.makeFunc f a b,ty,pos,af,g⟩::rest) e bx F Q:=WL.y hy hd hg h
theorem WD.k_makeFunc {f:Fn} {a b:Array Operand} (hL:L[j]?=some ⟨some d,.makeFunc f a b,ty,pos,af,g⟩) (hy:YO P (.makeFunc f a b) ty e b0 F0 v) (hd:Nat.blt d n=true) (hg:gok L e g=some true) (h:WD P n L hs b0 F0 r ((d,v)::e) bx F Q):WD P n L hs b0 F0 (.held j r) e bx F Q:=WD.y hL hy hd hg h
theorem WL.k_conv {t t2:TypeId} {x:Operand} (hy:YO P (.convert t t2 x) ty e bx F v) (hd:Nat.blt d n=true) (hg:gok L e g=some true) (h:WL P n L rest ((d,v)::e) bx F Q):WL P n L (⟨some d,.convert t t2 x,ty,pos,af,g⟩::rest) e bx F Q:=WL.y hy hd hg h
theorem WD.k_conv {t t2:TypeId} {x:Operand} (hL:L[j]?=some ⟨some d,.convert t t2 x,ty,pos,af,g⟩) (hy:YO P (.convert t t2 x) ty e b0 F0 v) (hd:Nat.blt d n=true) (hg:gok L e g=some true) (h:WD P n L hs b0 F0 r ((d,v)::e) bx F Q):WD P n L hs b0 F0 (.held j r) e bx F Q:=WD.y hL hy hd hg h
theorem WL.k_add {t t2:TypeId} {x y:Operand} (hy:YO P (.binOp .add t x y t2) ty e bx F v) (hd:Nat.blt d n=true) (hg:gok L e g=some true) (h:WL P n L rest ((d,v)::e) bx F Q):WL P n L (⟨some d,.binOp .add t x y t2,ty,pos,af,g⟩::rest) e bx F Q:=WL.y hy hd hg h
theorem WD.k_add {t t2:TypeId} {x y:Operand} (hL:L[j]?=some ⟨some d,.binOp .add t x y t2,ty,pos,af,g⟩) (hy:YO P (.binOp .add t x y t2) ty e b0 F0 v) (hd:Nat.blt d n=true) (hg:gok L e g=some true) (h:WD P n L hs b0 F0 r ((d,v)::e) bx F Q):WD P n L hs b0 F0 (.held j r) e bx F Q:=WD.y hL hy hd hg h
theorem WL.k_sub {t t2:TypeId} {x y:Operand} (hy:YO P (.binOp .sub t x y t2) ty e bx F v) (hd:Nat.blt d n=true) (hg:gok L e g=some true) (h:WL P n L rest ((d,v)::e) bx F Q):WL P n L (⟨some d,.binOp .sub t x y t2,ty,pos,af,g⟩::rest) e bx F Q:=WL.y hy hd hg h
theorem WD.k_sub {t t2:TypeId} {x y:Operand} (hL:L[j]?=some ⟨some d,.binOp .sub t x y t2,ty,pos,af,g⟩) (hy:YO P (.binOp .sub t x y t2) ty e b0 F0 v) (hd:Nat.blt d n=true) (hg:gok L e g=some true) (h:WD P n L hs b0 F0 r ((d,v)::e) bx F Q):WD P n L hs b0 F0 (.held j r) e bx F Q:=WD.y hL hy hd hg h
theorem WL.k_mul {t t2:TypeId} {x y:Operand} (hy:YO P (.binOp .mul t x y t2) ty e bx F v) (hd:Nat.blt d n=true) (hg:gok L e g=some true) (h:WL P n L rest ((d,v)::e) bx F Q):WL P n L (⟨some d,.binOp .mul t x y t2,ty,pos,af,g⟩::rest) e bx F Q:=WL.y hy hd hg h
theorem WD.k_mul {t t2:TypeId} {x y:Operand} (hL:L[j]?=some ⟨some d,.binOp .mul t x y t2,ty,pos,af,g⟩) (hy:YO P (.binOp .mul t x y t2) ty e b0 F0 v) (hd:Nat.blt d n=true) (hg:gok L e g=some true) (h:WD P n L hs b0 F0 r ((d,v)::e) bx F Q):WD P n L hs b0 F0 (.held j r) e bx F Q:=WD.y hL hy hd hg h
theorem WL.k_quo {t t2:TypeId} {x y:Operand} (hy:YO P (.binOp .quo t x y t2) ty e bx F v) (hd:Nat.blt d n=true) (hg:gok L e g=some true) (h:WL P n L rest ((d,v)::e) bx F Q):WL P n L (⟨some d,.binOp .quo t x y t2,ty,pos,af,g⟩::rest) e bx F Q:=WL.y hy hd hg h
theorem WD.k_quo {t t2:TypeId} {x y:Operand} (hL:L[j]?=some ⟨some d,.binOp .quo t x y t2,ty,pos,af,g⟩) (hy:YO P (.binOp .quo t x y t2) ty e b0 F0 v) (hd:Nat.blt d n=true) (hg:gok L e g=some true) (h:WD P n L hs b0 F0 r ((d,v)::e) bx F Q):WD P n L hs b0 F0 (.held j r) e bx F Q:=WD.y hL hy hd hg h
theorem WL.k_rem {t t2:TypeId} {x y:Operand} (hy:YO P (.binOp .rem t x y t2) ty e bx F v) (hd:Nat.blt d n=true) (hg:gok L e g=some true) (h:WL P n L rest ((d,v)::e) bx F Q):WL P n L (⟨some d,.binOp .rem t x y t2,ty,pos,af,g⟩::rest) e bx F Q:=WL.y hy hd hg h
theorem WD.k_rem {t t2:TypeId} {x y:Operand} (hL:L[j]?=some ⟨some d,.binOp .rem t x y t2,ty,pos,af,g⟩) (hy:YO P (.binOp .rem t x y t2) ty e b0 F0 v) (hd:Nat.blt d n=true) (hg:gok L e g=some true) (h:WD P n L hs b0 F0 r ((d,v)::e) bx F Q):WD P n L hs b0 F0 (.held j r) e bx F Q:=WD.y hL hy hd hg h
theorem WL.k_and {t t2:TypeId} {x y:Operand} (hy:YO P (.binOp .and t x y t2) ty e bx F v) (hd:Nat.blt d n=true) (hg:gok L e g=some true) (h:WL P n L rest ((d,v)::e) bx F Q):WL P n L (⟨some d,.binOp .and t x y t2,ty,pos,af,g⟩::rest) e bx F Q:=WL.y hy hd hg h
theorem WD.k_and {t t2:TypeId} {x y:Operand} (hL:L[j]?=some ⟨some d,.binOp .and t x y t2,ty,pos,af,g⟩) (hy:YO P (.binOp .and t x y t2) ty e b0 F0 v) (hd:Nat.blt d n=true) (hg:gok L e g=some true) (h:WD P n L hs b0 F0 r ((d,v)::e) bx F Q):WD P n L hs b0 F0 (.held j r) e bx F Q:=WD.y hL hy hd hg h
theorem WL.k_or {t t2:TypeId} {x y:Operand} (hy:YO P (.binOp .or t x y t2) ty e bx F v) (hd:Nat.blt d n=true) (hg:gok L e g=some true) (h:WL P n L rest ((d,v)::e) bx F Q):WL P n L (⟨some d,.binOp .or t x y t2,ty,pos,af,g⟩::rest) e bx F Q:=WL.y hy hd hg h
theorem WD.k_or {t t2:TypeId} {x y:Operand} (hL:L[j]?=some ⟨some d,.binOp .or t x y t2,ty,pos,af,g⟩) (hy:YO P (.binOp .or t x y t2) ty e b0 F0 v) (hd:Nat.blt d n=true) (hg:gok L e g=some true) (h:WD P n L hs b0 F0 r ((d,v)::e) bx F Q):WD P n L hs b0 F0 (.held j r) e bx F Q:=WD.y hL hy hd hg h
theorem WL.k_shl {t t2:TypeId} {x y:Operand} (hy:YO P (.binOp .shl t x y t2) ty e bx F v) (hd:Nat.blt d n=true) (hg:gok L e g=some true) (h:WL P n L rest ((d,v)::e) bx F Q):WL P n L (⟨some d,.binOp .shl t x y t2,ty,pos,af,g⟩::rest) e bx F Q:=WL.y hy hd hg h
theorem WD.k_shl {t t2:TypeId} {x y:Operand} (hL:L[j]?=some ⟨some d,.binOp .shl t x y t2,ty,pos,af,g⟩) (hy:YO P (.binOp .shl t x y t2) ty e b0 F0 v) (hd:Nat.blt d n=true) (hg:gok L e g=some true) (h:WD P n L hs b0 F0 r ((d,v)::e) bx F Q):WD P n L hs b0 F0 (.held j r) e bx F Q:=WD.y hL hy hd hg h
theorem WL.k_shr {t t2:TypeId} {x y:Operand} (hy:YO P (.binOp .shr t x y t2) ty e bx F v) (hd:Nat.blt d n=true) (hg:gok L e g=some true) (h:WL P n L rest ((d,v)::e) bx F Q):WL P n L (⟨some d,.binOp .shr t x y t2,ty,pos,af,g⟩::rest) e bx F Q:=WL.y hy hd hg h
theorem WD.k_shr {t t2:TypeId} {x y:Operand} (hL:L[j]?=some ⟨some d,.binOp .shr t x y t2,ty,pos,af,g⟩) (hy:YO P (.binOp .shr t x y t2) ty e b0 F0 v) (hd:Nat.blt d n=true) (hg:gok L e g=some true) (h:WD P n L hs b0 F0 r ((d,v)::e) bx F Q):WD P n L hs b0 F0 (.held j r) e bx F Q:=WD.y hL hy hd hg h
theorem WL.k_andNot {t t2:TypeId} {x y:Operand} (hy:YO P (.binOp .andNot t x y t2) ty e bx F v) (hd:Nat.blt d n=true) (hg:gok L e g=some true) (h:WL P n L rest ((d,v)::e) bx F Q):WL P n L (⟨some d,.binOp .andNot t x y t2,ty,pos,af,g⟩::rest) e bx F Q:=WL.y hy hd hg h
theorem WD.k_andNot {t t2:TypeId} {x y:Operand} (hL:L[j]?=some ⟨some d,.binOp .andNot t x y t2,ty,pos,af,g⟩) (hy:YO P (.binOp .andNot t x y t2) ty e b0 F0 v) (hd:Nat.blt d n=true) (hg:gok L e g=some true) (h:WD P n L hs b0 F0 r ((d,v)::e) bx F Q):WD P n L hs b0 F0 (.held j r) e bx F Q:=WD.y hL hy hd hg h
theorem WL.k_eql {t t2:TypeId} {x y:Operand} (hy:YO P (.binOp .eql t x y t2) ty e bx F v) (hd:Nat.blt d n=true) (hg:gok L e g=some true) (h:WL P n L rest ((d,v)::e) bx F Q):WL P n L (⟨some d,.binOp .eql t x y t2,ty,pos,af,g⟩::rest) e bx F Q:=WL.y hy hd hg h
theorem WD.k_eql {t t2:TypeId} {x y:Operand} (hL:L[j]?=some ⟨some d,.binOp .eql t x y t2,ty,pos,af,g⟩) (hy:YO P (.binOp .eql t x y t2) ty e b0 F0 v) (hd:Nat.blt d n=true) (hg:gok L e g=some true) (h:WD P n L hs b0 F0 r ((d,v)::e) bx F Q):WD P n L hs b0 F0 (.held j r) e bx F Q:=WD.y hL hy hd hg h
theorem WL.k_neq {t t2:TypeId} {x y:Operand} (hy:YO P (.binOp .neq t x y t2) ty e bx F v) (hd:Nat.blt d n=true) (hg:gok L e g=some true) (h:WL P n L rest ((d,v)::e) bx F Q):WL P n L (⟨some d,.binOp .neq t x y t2,ty,pos,af,g⟩::rest) e bx F Q:=WL.y hy hd hg h
theorem WD.k_neq {t t2:TypeId} {x y:Operand} (hL:L[j]?=some ⟨some d,.binOp .neq t x y t2,ty,pos,af,g⟩) (hy:YO P (.binOp .neq t x y t2) ty e b0 F0 v) (hd:Nat.blt d n=true) (hg:gok L e g=some true) (h:WD P n L hs b0 F0 r ((d,v)::e) bx F Q):WD P n L hs b0 F0 (.held j r) e bx F Q:=WD.y hL hy hd hg h
theorem WL.k_lss {t t2:TypeId} {x y:Operand} (hy:YO P (.binOp .lss t x y t2) ty e bx F v) (hd:Nat.blt d n=true) (hg:gok L e g=some true) (h:WL P n L rest ((d,v)::e) bx F Q):WL P n L (⟨some d,.binOp .lss t x y t2,ty,pos,af,g⟩::rest) e bx F Q:=WL.y hy hd hg h
theorem WD.k_lss {t t2:TypeId} {x y:Operand} (hL:L[j]?=some ⟨some d,.binOp .lss t x y t2,ty,pos,af,g⟩) (hy:YO P (.binOp .lss t x y t2) ty e b0 F0 v) (hd:Nat.blt d n=true) (hg:gok L e g=some true) (h:WD P n L hs b0 F0 r ((d,v)::e) bx F Q):WD P n L hs b0 F0 (.held j r) e bx F Q:=WD.y hL hy hd hg h
theorem WL.k_leq {t t2:TypeId} {x y:Operand} (hy:YO P (.binOp .leq t x y t2) ty e bx F v) (hd:Nat.blt d n=true) (hg:gok L e g=some true) (h:WL P n L rest ((d,v)::e) bx F Q):WL P n L (⟨some d,.binOp .leq t x y t2,ty,pos,af,g⟩::rest) e bx F Q:=WL.y hy hd hg h
theorem WD.k_leq {t t2:TypeId} {x y:Operand} (hL:L[j]?=some ⟨some d,.binOp .leq t x y t2,ty,pos,af,g⟩) (hy:YO P (.binOp .leq t x y t2) ty e b0 F0 v) (hd:Nat.blt d n=true) (hg:gok L e g=some true) (h:WD P n L hs b0 F0 r ((d,v)::e) bx F Q):WD P n L hs b0 F0 (.held j r) e bx F Q:=WD.y hL hy hd hg h
theorem WL.k_gtr {t t2:TypeId} {x y:Operand} (hy:YO P (.binOp .gtr t x y t2) ty e bx F v) (hd:Nat.blt d n=true) (hg:gok L e g=some true) (h:WL P n L rest ((d,v)::e) bx F Q):WL P n L (⟨some d,.binOp .gtr t x y t2,ty,pos,af,g⟩::rest) e bx F Q:=WL.y hy hd hg h
theorem WD.k_gtr {t t2:TypeId} {x y:Operand} (hL:L[j]?=some ⟨some d,.binOp .gtr t x y t2,ty,pos,af,g⟩) (hy:YO P (.binOp .gtr t x y t2) ty e b0 F0 v) (hd:Nat.blt d n=true) (hg:gok L e g=some true) (h:WD P n L hs b0 F0 r ((d,v)::e) bx F Q):WD P n L hs b0 F0 (.held j r) e bx F Q:=WD.y hL hy hd hg h
theorem WL.k_geq {t t2:TypeId} {x y:Operand} (hy:YO P (.binOp .geq t x y t2) ty e bx F v) (hd:Nat.blt d n=true) (hg:gok L e g=some true) (h:WL P n L rest ((d,v)::e) bx F Q):WL P n L (⟨some d,.binOp .geq t x y t2,ty,pos,af,g⟩::rest) e bx F Q:=WL.y hy hd hg h
theorem WD.k_geq {t t2:TypeId} {x y:Operand} (hL:L[j]?=some ⟨some d,.binOp .geq t x y t2,ty,pos,af,g⟩) (hy:YO P (.binOp .geq t x y t2) ty e b0 F0 v) (hd:Nat.blt d n=true) (hg:gok L e g=some true) (h:WD P n L hs b0 F0 r ((d,v)::e) bx F Q):WD P n L hs b0 F0 (.held j r) e bx F Q:=WD.y hL hy hd hg h
theorem WL.k_uneg {t:TypeId} {x:Operand} (hy:YO P (.unOp .neg t x) ty e bx F v) (hd:Nat.blt d n=true) (hg:gok L e g=some true) (h:WL P n L rest ((d,v)::e) bx F Q):WL P n L (⟨some d,.unOp .neg t x,ty,pos,af,g⟩::rest) e bx F Q:=WL.y hy hd hg h
theorem WD.k_uneg {t:TypeId} {x:Operand} (hL:L[j]?=some ⟨some d,.unOp .neg t x,ty,pos,af,g⟩) (hy:YO P (.unOp .neg t x) ty e b0 F0 v) (hd:Nat.blt d n=true) (hg:gok L e g=some true) (h:WD P n L hs b0 F0 r ((d,v)::e) bx F Q):WD P n L hs b0 F0 (.held j r) e bx F Q:=WD.y hL hy hd hg h
theorem WL.k_unot {t:TypeId} {x:Operand} (hy:YO P (.unOp .not t x) ty e bx F v) (hd:Nat.blt d n=true) (hg:gok L e g=some true) (h:WL P n L rest ((d,v)::e) bx F Q):WL P n L (⟨some d,.unOp .not t x,ty,pos,af,g⟩::rest) e bx F Q:=WL.y hy hd hg h
theorem WD.k_unot {t:TypeId} {x:Operand} (hL:L[j]?=some ⟨some d,.unOp .not t x,ty,pos,af,g⟩) (hy:YO P (.unOp .not t x) ty e b0 F0 v) (hd:Nat.blt d n=true) (hg:gok L e g=some true) (h:WD P n L hs b0 F0 r ((d,v)::e) bx F Q):WD P n L hs b0 F0 (.held j r) e bx F Q:=WD.y hL hy hd hg h
theorem WL.k_len {az:Array Operand} {ts:Array TypeId} (hy:YO P (.call {callee:=.builtin .len,args:=az,argTypes:=ts}) ty e bx F v) (hd:Nat.blt d n=true) (hg:gok L e g=some true) (h:WL P n L rest ((d,v)::e) bx F Q):WL P n L (⟨some d,.call {callee:=.builtin .len,args:=az,argTypes:=ts},ty,pos,af,g⟩::rest) e bx F Q:=WL.y hy hd hg h
theorem WD.k_len {az:Array Operand} {ts:Array TypeId} (hL:L[j]?=some ⟨some d,.call {callee:=.builtin .len,args:=az,argTypes:=ts},ty,pos,af,g⟩) (hy:YO P (.call {callee:=.builtin .len,args:=az,argTypes:=ts}) ty e b0 F0 v) (hd:Nat.blt d n=true) (hg:gok L e g=some true) (h:WD P n L hs b0 F0 r ((d,v)::e) bx F Q):WD P n L hs b0 F0 (.held j r) e bx F Q:=WD.y hL hy hd hg h
theorem WL.k_min {az:Array Operand} {ts:Array TypeId} (hy:YO P (.call {callee:=.builtin .min,args:=az,argTypes:=ts}) ty e bx F v) (hd:Nat.blt d n=true) (hg:gok L e g=some true) (h:WL P n L rest ((d,v)::e) bx F Q):WL P n L (⟨some d,.call {callee:=.builtin .min,args:=az,argTypes:=ts},ty,pos,af,g⟩::rest) e bx F Q:=WL.y hy hd hg h
theorem WD.k_min {az:Array Operand} {ts:Array TypeId} (hL:L[j]?=some ⟨some d,.call {callee:=.builtin .min,args:=az,argTypes:=ts},ty,pos,af,g⟩) (hy:YO P (.call {callee:=.builtin .min,args:=az,argTypes:=ts}) ty e b0 F0 v) (hd:Nat.blt d n=true) (hg:gok L e g=some true) (h:WD P n L hs b0 F0 r ((d,v)::e) bx F Q):WD P n L hs b0 F0 (.held j r) e bx F Q:=WD.y hL hy hd hg h
theorem WL.k_max {az:Array Operand} {ts:Array TypeId} (hy:YO P (.call {callee:=.builtin .max,args:=az,argTypes:=ts}) ty e bx F v) (hd:Nat.blt d n=true) (hg:gok L e g=some true) (h:WL P n L rest ((d,v)::e) bx F Q):WL P n L (⟨some d,.call {callee:=.builtin .max,args:=az,argTypes:=ts},ty,pos,af,g⟩::rest) e bx F Q:=WL.y hy hd hg h
theorem WD.k_max {az:Array Operand} {ts:Array TypeId} (hL:L[j]?=some ⟨some d,.call {callee:=.builtin .max,args:=az,argTypes:=ts},ty,pos,af,g⟩) (hy:YO P (.call {callee:=.builtin .max,args:=az,argTypes:=ts}) ty e b0 F0 v) (hd:Nat.blt d n=true) (hg:gok L e g=some true) (h:WD P n L hs b0 F0 r ((d,v)::e) bx F Q):WD P n L hs b0 F0 (.held j r) e bx F Q:=WD.y hL hy hd hg h
theorem WL.skg {jw:Nat×Bool} {op:Op} (hg:gok L e (some jw)=some false) (hd:Nat.blt d n=true) (h:WL P n L rest ((d,undef)::e) bx F Q):WL P n L (⟨some d,op,ty,pos,af,some jw⟩::rest) e bx F Q:=WL.skip hd hg h
theorem WL.skg0 {jw:Nat×Bool} {op:Op} (hg:gok L e (some jw)=some false) (h:WL P n L rest e bx F Q):WL P n L (⟨none,op,ty,pos,af,some jw⟩::rest) e bx F Q:=WL.skip0 hg h
theorem WD.skg {jw:Nat×Bool} {op:Op} (hL:L[j]?=some ⟨some d,op,ty,pos,af,some jw⟩) (hg:gok L e (some jw)=some false) (hd:Nat.blt d n=true) (h:WD P n L hs b0 F0 r ((d,undef)::e) bx F Q):WD P n L hs b0 F0 (.held j r) e bx F Q:=WD.skip hL hd hg h
theorem WD.skgl {jw:Nat×Bool} {op:Op} (hL:L[j]?=some ⟨some d,op,ty,pos,af,some jw⟩) (hg:gok L e (some jw)=some false) (hd:Nat.blt d n=true) (h:WD P n L hs b0 F0 r ((d,undef)::e) bx F Q):WD P n L hs b0 F0 (.loud j r) e bx F Q:=WD.lskip hL hd hg h
theorem WD.skgl0 {jw:Nat×Bool} {op:Op} (hL:L[j]?=some ⟨none,op,ty,pos,af,some jw⟩) (hg:gok L e (some jw)=some false) (h:WD P n L hs b0 F0 r e bx F Q):WD P n L hs b0 F0 (.loud j r) e bx F Q:=WD.lskip0 hL hg h
end W
end Go.Proofs.YtaongbhamadlkaaGreat
namespace Go.Proofs.YtaongbhamadlkaaGreat
open Go.RowKit
namespace W
variable {P:Program} {n:Nat} {c:Code} {e:Env} {bx:List Ow} {F:List Fct} {Q:Post}
section
variable {σ:Type} (E:σ→Env) (B:σ→List Ow) (G:σ→List Fct) (I:σ→Prop) (μ:σ→Nat)
def LoopEnd (s:σ) (e':Env) (bx':List Ow) (F':List Fct):Prop:=∃ s',(I s'∧μ s' < μ s)∧Sub (E s') e'∧(B s').Sublist bx'∧HasAll F' (G s')
theorem WC.lp (s0:σ) (hI:I s0) (hround:∀ s,I s→WC P n c (E s) (B s) (G s) (thenQ (LoopEnd E B G I μ s) Q))
  (hE:Sub (E s0) e:=by repeat(first|exact Sub.nil _|refine Sub.cons rfl ?_)) (hB:(B s0).Sublist bx:=by repeat(first|exact List.Sublist.refl _|exact List.nil_sublist _|apply List.Sublist.cons_cons|apply List.Sublist.cons)) (hG:HasAll F (G s0):=by repeat(first|exact HasAll.nil|(apply HasAll.cons;(focus(apply Has.mem;(repeat(first|exact List.Mem.head _|apply List.Mem.tail));done))))):WC P n (.loop c) e bx F Q:=
 WC.loop E B G I μ s0 hI hE hB hG.all fun s hs=>(hround s hs).mono fun x e b f h=>by
  cases x <;> first|exact h|skip
  obtain⟨s',h1,h2,h3,h4⟩:=h
  exact⟨s',h1,h2,h3,h4.all⟩
end
theorem LoopEnd.mk {σ:Type} {E:σ→Env} {B:σ→List Ow} {G:σ→List Fct} {I:σ→Prop} {μ:σ→Nat} {s:σ} {e':Env} {bx':List Ow} {F':List Fct} (s':σ)
  (hI:I s') (hμ:μ s' < μ s) (hE:Sub (E s') e':=by repeat(first|exact Sub.nil _|refine Sub.cons rfl ?_)) (hB:(B s').Sublist bx':=by repeat(first|exact List.Sublist.refl _|exact List.nil_sublist _|apply List.Sublist.cons_cons|apply List.Sublist.cons)) (hG:HasAll F' (G s'):=by repeat(first|exact HasAll.nil|(apply HasAll.cons;(focus(apply Has.mem;(repeat(first|exact List.Mem.head _|apply List.Mem.tail));done))))):LoopEnd E B G I μ s e' bx' F':=⟨s',⟨hI,hμ⟩,hE,hB,hG⟩
theorem WC.cut {x y:Code} {σ:Type} (E:σ→Env) (B:σ→List Ow) (G:σ→List Fct) (I:σ→Prop)
  (h1:WC P n x e bx F (thenQ (fun e' bx' F'=>∃ s,I s∧Sub (E s) e'∧(B s).Sublist bx'∧HasAll F' (G s)) Q))
  (h2:∀ s,I s→WC P n y (E s) (B s) (G s) Q):WC P n (.seq x y) e bx F Q:=
 WC.seq (h1.mono fun ex e b f h=>by
  cases ex <;> first|exact h|skip
  obtain⟨s,h3,h4,h5,h6⟩:=h
  exact(h2 s h3).weak h4 h5 h6.all)
theorem CutEnd {σ:Type} {E:σ→Env} {B:σ→List Ow} {G:σ→List Fct} {I:σ→Prop} {e':Env} {bx':List Ow} {F':List Fct} (s:σ) (hI:I s) (hE:Sub (E s) e':=by repeat(first|exact Sub.nil _|refine Sub.cons rfl ?_)) (hB:(B s).Sublist bx':=by repeat(first|exact List.Sublist.refl _|exact List.nil_sublist _|apply List.Sublist.cons_cons|apply List.Sublist.cons)) (hG:HasAll F' (G s):=by repeat(first|exact HasAll.nil|(apply HasAll.cons;(focus(apply Has.mem;(repeat(first|exact List.Mem.head _|apply List.Mem.tail));done))))) :
  ∃ s,I s∧Sub (E s) e'∧(B s).Sublist bx'∧HasAll F' (G s):=⟨s,hI,hE,hB,hG⟩
theorem WC.pure {p:Prop} (hp:∀ fr w,OK fr bx F w→p) (h:p→WC P n c e bx F Q):WC P n c e bx F Q:=fun fr w0 a w hk hr ho=>h (hp fr w ho) fr w0 a w hk hr ho
theorem WC.lenF {v:Value} {m sz:Nat} {f:Nat→Value} (hf:Has F (slC v m sz f)) (h:m≤9223372036854775807→WC P n c e bx F Q):WC P n c e bx F Q:=
 WC.pure (fun fr w ho=>by
  obtain⟨a,cap,_,h2,h3,_⟩:=ho.has hf
  unfold maxLen at h3;omega) h
theorem WC.lenI (v:Value) (l:List Int) (hf:Has F (sI v l)) (h:l.length≤9223372036854775807→WC P n c e bx F Q):WC P n c e bx F Q:=WC.lenF hf h
theorem WC.fact (f:Fct) (hf:Has F f) (h:WC P n c e bx (f::F) Q):WC P n c e bx F Q:=fun fr w0 a w hk hr ho=>h fr w0 a w hk hr (ho.add (ho.has hf))
end W
end Go.Proofs.YtaongbhamadlkaaGreat
namespace Go.Proofs.YtaongbhamadlkaaGreat
open Go.RowKit
namespace W
variable {P:Program} {n:Nat} {L rest:List Oper} {e:Env} {bx bx' b0:List Ow} {F F0:List Fct} {Q:Env→List Ow→List Fct→Prop} {d:Nat} {ty:TypeId} {pos:String} {af:Array Edge} {g:Option (Nat×Bool)} {v u:Value} {hs:List Nat} {r:Plan}
def AllocT (P:Program) (t:TypeId) (cs:List Value):Prop:=∃ i z,P.info? t=some i∧i.zero=some z∧z.cells.toList=cs
theorem AllocT.of {t:TypeId} {cs:List Value} {z:Value} (h:(P.info? t).map (·.zero)=some (some z)) (hz:z.cells.toList=cs):AllocT P t cs:=by
 obtain⟨i,h1,h2⟩:=Option.map_eq_some_iff.1 h
 exact⟨i,z,h1,h2,hz⟩
theorem LO.alloc' {el:TypeId} {K:RPost} {cs:List Value} (ht:AllocT P el cs) (h:∀ g,K (.pointer (some ⟨g,0,none⟩)) (Ow.cells g el cs::bx) F):LO P (.alloc el) ty e bx F K:=by
 obtain⟨i,z,h1,h2,h3⟩:=ht
 exact LO.alloc h1 h2 h3 h
theorem LO.boxA {el:TypeId} {x:Operand} {K:RPost} {cs:List Value} (hx:ev e x=some (.agg cs.toArray)) (h:∀ g,K (.pointer (some ⟨g,0,none⟩)) (Ow.cells g el cs::bx) F):LO P (.box el x) ty e bx F K:=LO.box hx (by simp[Value.cells]) h
def One (bx:List Ow) (F:List Fct) (u:Value):Prop:=∀ fr w,OK fr bx F w→u.cells=#[u]∧u.oneCell'=true
theorem One.lit (h1:u.cells=#[u]) (h2:u.oneCell'=true):One bx F u:=fun _ _ _=>⟨h1,h2⟩
theorem One.sl {m:Nat} (h:KnS bx F u m):One bx F u:=fun fr w ho=>by
 obtain⟨a,cap,rfl,_⟩:=(h fr w ho).is
 exact⟨rfl,rfl⟩
theorem LO.byOne {op:Op} {K:RPost} (hu:One bx F u) (h:u.cells=#[u]→u.oneCell'=true→LO P op ty e bx F K):LO P op ty e bx F K:=fun n fr a w o next Q' h1 h2 h3 h4 h5=>
 h (hu fr w h4).1 (hu fr w h4).2 n fr a w o next Q' h1 h2 h3 h4 h5
theorem LO.box1 {el:TypeId} {x:Operand} {K:RPost} (hx:ev e x=some v) (hu:One bx F v) (h:∀ g,K (.pointer (some ⟨g,0,none⟩)) (Ow.cells g el [v]::bx) F):LO P (.box el x) ty e bx F K:=
 LO.byOne hu fun hc _=>LO.box hx (by rw[hc]) h
theorem setMany_one (cs:List Value) (q:Nat) (u:Value) (h:q < cs.length):setMany cs q [u]=cs.set q u:=by
 simp[setMany,List.set_eq_take_append_cons_drop,h]
theorem LO.store1 {t tg:TypeId} {x y:Operand} {K:RPost} {g q:Nat} {cs cs':List Value} (hx:ev e x=some (.pointer (some ⟨g,q,none⟩))) (hy:ev e y=some u)
  (hz:(P.info? t).map (·.size)=some 1) (hu:One bx F u) (hs:Sel bx (.cells g tg cs) (.cells g tg cs') bx') (hq:q < cs.length) (hcs:cs.set q u=cs') (h:K undef bx' F):LO P (.store t x y) ty e bx F K:=
 LO.byOne hu fun hc h1=>LO.store hx hy (vs:=[u]) (by rw[hc]) (by simpa using hz) (by simpa using h1) hs (by simp only[List.length_cons,List.length_nil];omega) (by rw[setMany_one _ _ _ hq];exact hcs) h
theorem LO.storeA {t tg:TypeId} {x y:Operand} {K:RPost} {g m:Nat} {cs us:List Value} (hx:ev e x=some (.pointer (some ⟨g,0,none⟩))) (hy:ev e y=some (.agg us.toArray))
  (hs:Sel bx (.cells g tg cs) (.cells g tg us) bx') (hr:Row P t m) (hm:us.length=m) (hm2:cs.length=m) (h1:∀ c∈us,c.oneCell'=true) (h:K undef bx' F):LO P (.store t x y) ty e bx F K:=
 LO.store hx hy (vs:=us) (by simp[Value.cells]) (by rw[hm];exact hr.2) h1 hs (by omega) (by simp[setMany,hm,←hm2]) h
theorem LO.storeO1 {t el sz:TypeId} {x y:Operand} {K:RPost} {j:Nat} {cs cs':List Value} (hx:ev e x=some (.pointer (some (eaddr v j)))) (hy:ev e y=some u)
  (hz:(P.info? t).map (·.size)=some 1) (hu:One bx F u) (hs:Sel bx (.slice v el sz cs) (.slice v el sz cs') bx') (hj:j < cs.length) (hcs:cs.set j u=cs') (h:K undef bx' F):LO P (.store t x y) ty e bx F K:=
 LO.byOne hu fun hc h1=>LO.storeO hx hy hz hc h1 hs hj hcs h
inductive EvP (e:Env):List (Nat×Operand)→List Value→Prop where
 |nil:EvP e [] []
 |cons {k:Nat} {x:Operand} {v:Value} {xs:List (Nat×Operand)} {vs:List Value}:ev e x=some v→EvP e xs vs→EvP e ((k,x)::xs) (v::vs)
theorem EvP.evs {ps:List (Nat×Operand)} {us:List Value} (h:EvP e ps us):Evs e (ps.map (·.2)) us:=by
 induction h with
 |nil=>exact .nil
 |cons h _ ih=>exact .cons h ih
theorem LO.bs1 {t el len:Nat} {parts:List (Nat×Operand)} {K:RPost} {us:List Value} (_ht:SliceT P t el 1) (hv:EvP e parts us)
  (hr:∀ w,(Instr.buildSlice t len ((parts.map (·.1)).zip us).toArray).run P w=.ok (.slice (some ⟨w.heap.size,0,none⟩) len len) (w.alloc (.cells us.toArray el))) (hlen:us.length=len) (hmax:len≤9223372036854775807)
  (h:∀ v,K v (Ow.slice v el 1 us::bx) F):LO P (.buildSlice t len parts.toArray) ty e bx F K:=LO.buildSlice hv.evs hr (by omega) hmax h
theorem SrcE.own1 {el:Nat} {cs:List Value} (h:Ow.slice v el 1 cs∈bx):SrcE bx F v cs.length 1 cs:=SrcE.own h (by omega) (by decide)
theorem SrcE.one {el sz:Nat} {cs:List Value} (h:Ow.slice v el sz cs∈bx) (hn:cs.length=sz) (hsz:0 < sz):SrcE bx F v 1 sz cs:=SrcE.own h (by omega) hsz
theorem SrcE.ints {l:List Int} (h:Has F (sI v l)):SrcE bx F v l.length 1 (ints l):=by
 have:=SrcE.fact (bx:=bx) h
 refine(?_:(List.range (l.length*1)).map _=W.ints l) ▸ this
 apply List.ext_getElem
 ·simp
 ·intro i h1 h2
  simp at h1 h2 ⊢
  simp[h1]
theorem ints_one (l:List Int):∀ u∈ints l,u.oneCell'=true:=by intro u hu;simp[ints] at hu;obtain⟨a,_,rfl⟩:=hu;rfl
def resl:Value→Nat→Nat→Nat→Value
 |.slice a _ cap,lo,hi,sz=>.slice (if cap=lo then a else a.map (·.add (lo*sz))) (hi - lo) (cap - lo)
 |v,_,_,_=>v
theorem resl_slC {m lo hi sz:Nat} {f:Nat→Value} {h:PH} (hp:(slC v m sz f).p h) (h1:lo≤hi) (h2:hi≤m):(slC (resl v lo hi sz) (hi - lo) sz (fun j=>f (lo*sz+j))).p h:=by
 obtain⟨a,cap,rfl,h3,h4,h5⟩:=hp
 refine⟨_,_,rfl,by omega,by omega,?_⟩
 rcases h5 with ⟨rfl,rfl,rfl⟩|⟨b,off,rfl,c,t,fz,h6,h7⟩
 ·left;simp;omega
 ·right
  by_cases hc:cap=lo
  ·refine⟨b,off,by simp[hc],c,t,fz,h6,fun j hj=>?_⟩
   have:hi - lo=0:=by omega
   simp[this] at hj
  ·refine⟨b,off+lo*sz,by simp[hc,Addr.add_lit],c,t,fz,h6,fun j hj=>?_⟩
   rw[Nat.add_assoc]
   refine h7 _ ?_
   have h8:lo*sz+(hi - lo)*sz≤m*sz:=by rw[←Nat.add_mul];exact Nat.mul_le_mul_right _ (by omega)
   omega
theorem slC_congr {m sz:Nat} {f f':Nat→Value} {h:PH} (hp:(slC v m sz f).p h) (hf:∀ j,j < m*sz→f j=f' j):(slC v m sz f').p h:=by
 obtain⟨a,cap,h1,h3,h4,h5⟩:=hp
 refine⟨a,cap,h1,h3,h4,?_⟩
 rcases h5 with h5|⟨b,off,h6,c,t,fz,h7,h8⟩
 ·exact .inl h5
 ·exact .inr ⟨b,off,h6,c,t,fz,h7,fun j hj=>by rw[h8 j hj,hf j hj]⟩
theorem Has.sub {m lo hi sz:Nat} {f:Nat→Value} (h:Has F (slC v m sz f)) (h1:lo≤hi) (h2:hi≤m):Has F (slC (resl v lo hi sz) (hi - lo) sz (fun j=>f (lo*sz+j))):=fun ph hf=>resl_slC (h ph hf) h1 h2
theorem Has.subI {l:List Int} {lo hi:Nat} (h:Has F (sI v l)) (h1:lo≤hi) (h2:hi≤l.length):Has F (sI (resl v lo hi 1) ((l.take hi).drop lo)):=fun ph hf=>by
 have:=resl_slC (h ph hf) h1 h2
 have hl:((l.take hi).drop lo).length=hi - lo:=by simp;omega
 show(slC _ ((l.take hi).drop lo).length 1 _).p ph
 rw[hl]
 refine slC_congr this fun j hj=>?_
 simp only[Nat.mul_one] at hj ⊢
 have h3:lo+j < l.length:=by omega
 simp only[List.getD_eq_getElem?_getD,List.getElem?_drop,List.getElem?_take]
 rw[if_pos (by omega)]
theorem Has.takeI {l:List Int} {hi:Nat} (h:Has F (sI v l)) (h2:hi≤l.length):Has F (sI (resl v 0 hi 1) (l.take hi)):=by simpa using Has.subI h (Nat.zero_le hi) h2
theorem YO.slice {t el sz m:Nat} {x:Operand} {lo hi:Option Operand} {a b:Nat} (ht:SliceT P t el sz) (hx:ev e x=some v) (hv:KnS bx F v m)
  (hlo:(lo=none∧a=0)∨∃ y,lo=some y∧ev e y=some (.int .i64 (a:Int))) (hhi:(hi=none∧b=m)∨∃ y,hi=some y∧ev e y=some (.int .i64 (b:Int))) (h1:a≤b) (h2:b≤m) :
  YO P (.slice t x lo hi none) ty e bx F (resl v a b sz):=
 .of fun k fr ac w o hop hk ho=>by
  obtain⟨hu,i,hi',hsz⟩:=ht
  obtain⟨a',cap,rfl,h3,h4,h5⟩:=(hv fr w ho).is
  have hna:∀ el' nn,P.underlying t≠some (.array nn el'):=fun _ _ h=>by rw[hu] at h;cases h
  have hcz:P.cellsOf el=sz:=by simp[Program.cellsOf,hi',hsz]
  have hbc:b≤cap:=by omega
  have e1:((b:Int)≤(cap:Int)):=by omega
  have e2:((a:Int)≤(b:Int)):=by omega
  have e3:((a:Int)≤(m:Int)):=by omega
  have hx':=hk.eval hx
  have hs:∀ w,(sizeOf el).run P w=.ok sz w:=fun w=>by simpa [hsz,hcz] using run_sizeOf (P:=P) w hi'
  have e0:(0:Int)≤(a:Int):=by omega
  have e00:(0:Int)≤(b:Int):=by omega
  rcases hlo with ⟨rfl,rfl⟩|⟨y,rfl,hy⟩ <;> rcases hhi with ⟨rfl,rfl⟩|⟨z,rfl,hz⟩
  ·simp[execOp,hop,hx',Instr.sliceAt,run_underlying hu,Instr.slice,Instr.sliceBounds,hs,resl]
  ·have hz':=hk.eval hz
   simp[execOp,hop,hx',hz',Instr.sliceAt,run_underlying hu,Instr.slice,Instr.sliceBounds,Instr.sliceBound,asIntOf,hs,resl,hbc]
  ·have hy':=hk.eval hy
   simp[execOp,hop,hx',hy',Instr.sliceAt,run_underlying hu,Instr.slice,Instr.sliceBounds,Instr.sliceBound,asIntOf,hs,resl,h1]
  ·have hy':=hk.eval hy
   have hz':=hk.eval hz
   simp[execOp,hop,hx',hy',hz',Instr.sliceAt,run_underlying hu,Instr.slice,Instr.sliceBounds,Instr.sliceBound,asIntOf,hs,resl,hbc,h1]
section
variable {t t':TypeId} {x y:Operand} {i j:Int} {k k':IntKind}
def IntT (P:Program) (t:TypeId) (k:IntKind):Prop:=P.underlying t=some (.int k)
theorem YO.convU {s d:TypeId} {ks:IntKind} (hd:IntT P d .u64) (hs:IntT P s ks) (hx:ev e x=some (.int k i)) (h1:0≤i) (h2:i≤18446744073709551615):YO P (.convert s d x) ty e bx F (.int .u64 i):=by
 have:=YO.conv (P:=P) (bx:=bx) (F:=F) (ty:=ty) hd hs hx
 rwa [wrap_u64 h1 h2] at this
theorem YO.convI {s d:TypeId} {ks:IntKind} (hd:IntT P d .i64) (hs:IntT P s ks) (hx:ev e x=some (.int k i)) (h1:-9223372036854775808≤i) (h2:i≤9223372036854775807):YO P (.convert s d x) ty e bx F (.int .i64 i):=by
 have:=YO.conv (bx:=bx) (F:=F) (ty:=ty) hd hs hx
 rwa [wrap_i64 h1 h2] at this
theorem YO.shl' (hx:ev e x=some (.int .i64 i)) (hy:ev e y=some (.int k' j)) (h:0≤j) (h64:j < 64) (h1:-9223372036854775808≤i*2 ^ j.toNat) (h2:i*2 ^ j.toNat≤9223372036854775807):YO P (.binOp .shl t x y t') ty e bx F (.int .i64 (i*2 ^ j.toNat)):=by
 have:=YO.shl (P:=P) (bx:=bx) (F:=F) (ty:=ty) (t:=t) (t':=t') hx hy h
 rwa [show Min.min j.toNat IntKind.i64.bits=j.toNat from Nat.min_eq_left (by simp[IntKind.bits];omega),wrap_i64 h1 h2] at this
theorem YO.shr' (hx:ev e x=some (.int .i64 i)) (hy:ev e y=some (.int k' j)) (h:0≤j) (h64:j < 64):YO P (.binOp .shr t x y t') ty e bx F (.int .i64 (i / 2 ^ j.toNat)):=by
 have:=YO.shr (P:=P) (bx:=bx) (F:=F) (ty:=ty) (t:=t) (t':=t') hx hy h
 rwa [show Min.min j.toNat IntKind.i64.bits=j.toNat from Nat.min_eq_left (by simp[IntKind.bits];omega),Int.fdiv_eq_ediv_of_nonneg _ (Int.le_of_lt (Int.pow_pos (by decide)))] at this
theorem bv_toNat {i:Int} (h1:0≤i) (h2:i < 18446744073709551616):(BitVec.ofInt 64 i).toNat=i.toNat:=by
 rw[BitVec.toNat_ofInt];congr 1;simp;omega
theorem run_and (h1:0≤i) (h2:i≤9223372036854775807) (h3:0≤j) (h4:j≤9223372036854775807) (w:World):(binOp .and t (.int .i64 i) (.int .i64 j)).run P w=.ok (.int .i64 ((i.toNat &&& j.toNat:Nat):Int)) w:=by
 have hle:i.toNat &&& j.toNat≤i.toNat:=Nat.and_le_left
 simp only[binOp,Op.intBits]
 have:(BitVec.ofInt IntKind.i64.bits i &&& BitVec.ofInt IntKind.i64.bits j).toNat=i.toNat &&& j.toNat:=by
  show(BitVec.ofInt 64 i &&& BitVec.ofInt 64 j).toNat=_
  rw[BitVec.toNat_and,bv_toNat h1 (by omega),bv_toNat h3 (by omega)]
 simp[this,wrap_i64 (n:=((i.toNat &&& j.toNat:Nat):Int)) (by omega) (by omega)]
theorem YO.and (hx:ev e x=some (.int .i64 i)) (hy:ev e y=some (.int .i64 j)) (h1:0≤i) (h2:i≤9223372036854775807) (h3:0≤j) (h4:j≤9223372036854775807):YO P (.binOp .and t x y t') ty e bx F (.int .i64 ((i.toNat &&& j.toNat:Nat):Int)):=YO.bits hx hy (run_and h1 h2 h3 h4)
theorem run_or (h1:0≤i) (h2:i≤9223372036854775807) (h3:0≤j) (h4:j≤9223372036854775807) (w:World):(binOp .or t (.int .i64 i) (.int .i64 j)).run P w=.ok (.int .i64 ((i.toNat |||j.toNat:Nat):Int)) w:=by
 have hle:i.toNat |||j.toNat < 2 ^ 63:=Nat.or_lt_two_pow (by omega) (by omega)
 simp only[binOp,Op.intBits]
 have:(BitVec.ofInt IntKind.i64.bits i |||BitVec.ofInt IntKind.i64.bits j).toNat=i.toNat |||j.toNat:=by
  show(BitVec.ofInt 64 i |||BitVec.ofInt 64 j).toNat=_
  rw[BitVec.toNat_or,bv_toNat h1 (by omega),bv_toNat h3 (by omega)]
 simp[this,wrap_i64 (n:=((i.toNat |||j.toNat:Nat):Int)) (by omega) (by omega)]
theorem YO.or (hx:ev e x=some (.int .i64 i)) (hy:ev e y=some (.int .i64 j)) (h1:0≤i) (h2:i≤9223372036854775807) (h3:0≤j) (h4:j≤9223372036854775807):YO P (.binOp .or t x y t') ty e bx F (.int .i64 ((i.toNat |||j.toNat:Nat):Int)):=YO.bits hx hy (run_or h1 h2 h3 h4)
theorem YO.and1 (hx:ev e x=some (.int .i64 i)) (hy:ev e y=some (.int .i64 1)) (h1:0≤i) (h2:i≤9223372036854775807):YO P (.binOp .and t x y t') ty e bx F (.int .i64 (i % 2)):=by
 have:=YO.and (P:=P) (bx:=bx) (F:=F) (ty:=ty) (t:=t) (t':=t') hx hy h1 h2 (by decide) (by decide)
 rw[show((i.toNat &&& (1:Int).toNat:Nat):Int)=i % 2 from by
  show((i.toNat &&& 1:Nat):Int)=_
  rw[Nat.and_one_is_mod];omega] at this
 exact this
end
theorem LO.app {t el sz bytes m:Nat} {z:Value} {x y:Operand} {K:RPost} {yv:Value} {cs news:List Value} {bx':Value→List Ow} (ht:ElemT P t el sz z bytes) (hx:ev e x=some v) (hy:ev e y=some yv)
  (hsrc:SrcE bx F yv m sz news) (hs:∀ v',Sel bx (.slice v el sz cs) (.slice v' el sz (cs++news)) (bx' v')) (h1:∀ u∈news,u.oneCell'=true) (hlen:(cs.length+news.length)*bytes≤140737488355328) (hmax:cs.length+news.length≤9223372036854775807)
  (h:∀ v',K v' (bx' v') F):LO P (.call {callee:=.builtin .append,args:=#[x,y],argTypes:=#[t,t]}) ty e bx F K:=LO.append ht hx hy hs hsrc h1 hlen hmax h
section
variable {op:Op} {K:RPost} {t:TypeId} {x y:Operand}
theorem WL.l' (hl:LO P op ty e bx F fun v bx' F'=>WL P n L rest ((d,v)::e) bx' F' Q) (hd:Nat.blt d n=true) (hg:gok L e g=some true):WL P n L (⟨some d,op,ty,pos,af,g⟩::rest) e bx F Q:=WL.l hd hg hl
theorem WL.kl_alloc (hl:LO P (.alloc t) ty e bx F fun v bx' F'=>WL P n L rest ((d,v)::e) bx' F' Q) (hd:Nat.blt d n=true) (hg:gok L e g=some true):WL P n L (⟨some d,.alloc t,ty,pos,af,g⟩::rest) e bx F Q:=WL.l hd hg hl
theorem WL.kl_box (hl:LO P (.box t x) ty e bx F fun v bx' F'=>WL P n L rest ((d,v)::e) bx' F' Q) (hd:Nat.blt d n=true) (hg:gok L e g=some true):WL P n L (⟨some d,.box t x,ty,pos,af,g⟩::rest) e bx F Q:=WL.l hd hg hl
theorem WL.kl_bs {k:Nat} {ps:Array (Nat×Operand)} (hl:LO P (.buildSlice t k ps) ty e bx F fun v bx' F'=>WL P n L rest ((d,v)::e) bx' F' Q) (hd:Nat.blt d n=true) (hg:gok L e g=some true):WL P n L (⟨some d,.buildSlice t k ps,ty,pos,af,g⟩::rest) e bx F Q:=WL.l hd hg hl
theorem WL.kl_ms (hl:LO P (.makeSlice t x y) ty e bx F fun v bx' F'=>WL P n L rest ((d,v)::e) bx' F' Q) (hd:Nat.blt d n=true) (hg:gok L e g=some true):WL P n L (⟨some d,.makeSlice t x y,ty,pos,af,g⟩::rest) e bx F Q:=WL.l hd hg hl
theorem WL.kl_app {az:Array Operand} {ts:Array TypeId} (hl:LO P (.call {callee:=.builtin .append,args:=az,argTypes:=ts}) ty e bx F fun v bx' F'=>WL P n L rest ((d,v)::e) bx' F' Q) (hd:Nat.blt d n=true) (hg:gok L e g=some true):WL P n L (⟨some d,.call {callee:=.builtin .append,args:=az,argTypes:=ts},ty,pos,af,g⟩::rest) e bx F Q:=WL.l hd hg hl
theorem WL.kl_store (hl:LO P (.store t x y) ty e bx F fun _ bx' F'=>WL P n L rest e bx' F' Q) (hg:gok L e g=some true):WL P n L (⟨none,.store t x y,ty,pos,af,g⟩::rest) e bx F Q:=WL.l0 hg hl
variable {i:Nat}
theorem WD.kl_alloc (hL:L[i]?=some ⟨some d,.alloc t,ty,pos,af,g⟩) (hl:LO P (.alloc t) ty e bx F fun v bx' F'=>(lateB L hs i=true∨(b0.Sublist bx'∧∀ f∈F0,f∈F'))∧WD P n L hs b0 F0 r ((d,v)::e) bx' F' Q) (hd:Nat.blt d n=true) (hg:gok L e g=some true):WD P n L hs b0 F0 (.loud i r) e bx F Q:=WD.l hL hd hg hl
theorem WD.kl_box (hL:L[i]?=some ⟨some d,.box t x,ty,pos,af,g⟩) (hl:LO P (.box t x) ty e bx F fun v bx' F'=>(lateB L hs i=true∨(b0.Sublist bx'∧∀ f∈F0,f∈F'))∧WD P n L hs b0 F0 r ((d,v)::e) bx' F' Q) (hd:Nat.blt d n=true) (hg:gok L e g=some true):WD P n L hs b0 F0 (.loud i r) e bx F Q:=WD.l hL hd hg hl
theorem WD.kl_bs {k:Nat} {ps:Array (Nat×Operand)} (hL:L[i]?=some ⟨some d,.buildSlice t k ps,ty,pos,af,g⟩) (hl:LO P (.buildSlice t k ps) ty e bx F fun v bx' F'=>(lateB L hs i=true∨(b0.Sublist bx'∧∀ f∈F0,f∈F'))∧WD P n L hs b0 F0 r ((d,v)::e) bx' F' Q) (hd:Nat.blt d n=true) (hg:gok L e g=some true):WD P n L hs b0 F0 (.loud i r) e bx F Q:=WD.l hL hd hg hl
theorem WD.kl_ms (hL:L[i]?=some ⟨some d,.makeSlice t x y,ty,pos,af,g⟩) (hl:LO P (.makeSlice t x y) ty e bx F fun v bx' F'=>(lateB L hs i=true∨(b0.Sublist bx'∧∀ f∈F0,f∈F'))∧WD P n L hs b0 F0 r ((d,v)::e) bx' F' Q) (hd:Nat.blt d n=true) (hg:gok L e g=some true):WD P n L hs b0 F0 (.loud i r) e bx F Q:=WD.l hL hd hg hl
theorem WD.kl_app {az:Array Operand} {ts:Array TypeId} (hL:L[i]?=some ⟨some d,.call {callee:=.builtin .append,args:=az,argTypes:=ts},ty,pos,af,g⟩) (hl:LO P (.call {callee:=.builtin .append,args:=az,argTypes:=ts}) ty e bx F fun v bx' F'=>(lateB L hs i=true∨(b0.Sublist bx'∧∀ f∈F0,f∈F'))∧WD P n L hs b0 F0 r ((d,v)::e) bx' F' Q) (hd:Nat.blt d n=true) (hg:gok L e g=some true):WD P n L hs b0 F0 (.loud i r) e bx F Q:=WD.l hL hd hg hl
theorem WD.kl_store (hL:L[i]?=some ⟨none,.store t x y,ty,pos,af,g⟩) (hl:LO P (.store t x y) ty e bx F fun _ bx' F'=>(lateB L hs i=true∨(b0.Sublist bx'∧∀ f∈F0,f∈F'))∧WD P n L hs b0 F0 r e bx' F' Q) (hg:gok L e g=some true):WD P n L hs b0 F0 (.loud i r) e bx F Q:=WD.l0 hL hg hl
theorem WD.lc {c:Callee} {az:Array Operand} {ts:Array TypeId} (hL:L[i]?=some ⟨some d,.call {callee:=c,args:=az,argTypes:=ts},ty,pos,af,g⟩) (hl:LO P (.call {callee:=c,args:=az,argTypes:=ts}) ty e bx F fun v bx' F'=>(lateB L hs i=true∨(b0.Sublist bx'∧∀ f∈F0,f∈F'))∧WD P n L hs b0 F0 r ((d,v)::e) bx' F' Q) (hd:Nat.blt d n=true) (hg:gok L e g=some true):WD P n L hs b0 F0 (.loud i r) e bx F Q:=WD.l hL hd hg hl
end
theorem KnS.o1 {el:Nat} {cs:List Value} (h:Ow.slice v el 1 cs∈bx):KnS bx F v cs.length:=KnS.o h (by omega) (by decide)
theorem KnS.oI {el:Nat} {l:List Int} (h:Ow.slice v el 1 (ints l)∈bx):KnS bx F v l.length:=KnS.o h (by simp) (by decide)
theorem YO.ldOI {t el:TypeId} {x:Operand} {j:Nat} {l:List Int} (hs:Scalar P t) (hx:ev e x=some (.pointer (some (eaddr v j)))) (hb:Ow.slice v el 1 (ints l)∈bx) (hj:j < l.length):YO P (.load t x) ty e bx F (.int .i64 (l.getD j 0)):=
 YO.ldO hs hx hb (by simp[List.getElem?_eq_getElem hj])
end W
end Go.Proofs.YtaongbhamadlkaaGreat
namespace Go.Proofs.YtaongbhamadlkaaGreat
open Go.RowKit
namespace W
variable {P:Program} {e:Env} {bx:List Ow} {F:List Fct} {ty:TypeId} {v:Value}
def HasB (bx:List Ow) (F:List Fct) (f:Fct):Prop:=∀ fr w,OK fr bx F w→f.p (imm fr [] w.heap)
theorem imm_nil {fr:PH} {w:World} (k:Nat):imm fr [] w.heap k=if(fr k).isSome then none else w.heap[k]?:=by simp[imm,ids]
theorem HasB.f {f:Fct} (h:Has F f):HasB bx F f:=fun fr w ho=>(ho.drop (List.nil_sublist _)).has h
theorem HasB.o {el sz n:Nat} {cs:List Value} {f:Nat→Value} (hb:Ow.slice v el sz cs∈bx) (hn:cs.length=n*sz) (hsz:0 < sz) (hf:∀ j,j < n*sz→cs[j]?=some (f j)):HasB bx F (slC v n sz f):=fun fr w ho=>by
 obtain⟨m,h3,⟨rfl,h4⟩|⟨g,cap,sp,rfl,h4,h5,h6,h7⟩⟩:=ho.owns _ hb
 ·subst h4
  have:n=0:=by
   have:n*sz=0:=by omega
   rcases Nat.mul_eq_zero.1 this with h|h <;> omega
  subst this
  exact⟨none,0,rfl,Nat.le_refl _,by simp[maxLen],.inl ⟨rfl,rfl,rfl⟩⟩
 ·have hmn:m=n:=Nat.eq_of_mul_eq_mul_right hsz (by omega)
  subst hmn
  refine⟨_,cap,rfl,h4,h5,.inr ⟨g,0,rfl,(cs++sp).toArray,el,(0,0),?_,fun j hj=>?_⟩⟩
  ·rw[imm_nil,ho.apart g (mem_ids.2 ⟨_,hb,by simp[Ow.ids]⟩)];exact h6
  ·have hj':j < cs.length:=by omega
   simp only[Nat.zero_add,List.getElem?_toArray]
   rw[List.getElem?_append_left hj'];exact hf j hj
theorem HasB.oI {el:Nat} {l:List Int} (hb:Ow.slice v el 1 (ints l)∈bx):HasB bx F (sI v l):=
 HasB.o hb (by simp) (by decide) fun j hj=>by
  have hj':j < l.length:=by omega
  simp[List.getElem?_eq_getElem hj']
inductive HasAllB (bx:List Ow) (F:List Fct):List Fct→Prop where
 |nil:HasAllB bx F []
 |cons {g:Fct} {G:List Fct}:HasB bx F g→HasAllB bx F G→HasAllB bx F (g::G)
theorem HasAllB.all {G:List Fct} (h:HasAllB bx F G):∀ g∈G,HasB bx F g:=by
 induction h with
 |nil=>simp
 |cons h _ ih=>intro g hg;rcases List.mem_cons.1 hg with rfl|hg;exact h;exact ih _ hg
theorem lend {fr:PH} {w w':World} {b:List Ow} {G:List Fct} (h:OK fr bx F w) (hle:(imm fr [] w.heap).le (imm fr b w'.heap)) (hok:OK fr b G w'):OK fr (b++bx) F w':=by
 have hsame:∀ k,k < w.heap.size→fr k=none→w'.heap[k]?=w.heap[k]?∧k∉ids b:=fun k hk hf=>by
  have hs:imm fr [] w.heap k=some w.heap[k]:=by rw[imm_nil,hf];simp[hk]
  have h2:=hle _ _ hs
  refine⟨(imm_heap h2).trans (by simp[hk]),fun hin=>?_⟩
  unfold imm at h2
  rw[if_pos (by simp[hin])] at h2;cases h2
 have hlt:∀ k∈ids bx,k < w.heap.size:=fun k hk=>by obtain⟨c,hc,hkc⟩:=mem_ids.1 hk;exact Ow.lt (h.owns c hc) k hkc
 refine⟨hok.frame,fun k hk=>?_,?_,fun c hc=>?_,fun f hf=>f.mono _ _ (fun k o ho=>?_) (h.facts f hf)⟩
 ·simp only[ids,List.flatMap_append,List.mem_append] at hk
  rcases hk with hk|hk
  ·exact hok.apart k hk
  ·exact h.apart k hk
 ·simp only[ids,List.flatMap_append]
  refine List.nodup_append.2 ⟨hok.nodup,h.nodup,fun k h1 k' h2 he=>?_⟩
  subst he
  exact(hsame k (hlt k h2) (h.apart k h2)).2 h1
 ·rcases List.mem_append.1 hc with hc|hc
  ·exact hok.owns c hc
  ·exact Ow.holds_congr (h.owns c hc) fun k hk=>(hsame k (hlt k (mem_ids.2 ⟨c,hc,hk⟩)) (h.apart k (mem_ids.2 ⟨c,hc,hk⟩))).1
 ·unfold imm at ho ⊢
  split at ho
  ·cases ho
  ·rename_i hc
   simp only[Bool.or_eq_true,List.contains_iff_mem,not_or,Bool.not_eq_true,Option.isSome_eq_false_iff,Option.isNone_iff_eq_none] at hc
   have hkl:k < w.heap.size:=(Array.getElem?_eq_some_iff.1 ho).1
   obtain⟨h1,h2⟩:=hsame k hkl hc.1
   rw[if_neg,h1]
   ·exact ho
   ·simp only[Bool.or_eq_true,List.contains_iff_mem,ids,List.flatMap_append,List.mem_append,not_or,hc.1]
    exact⟨by simp,h2,hc.2⟩
theorem LO.callR {f:FuncId} {x:Operand} {args:List Operand} {ats:Array TypeId} {K:RPost} {first cap vs:List Value} {F':List Fct} {R:RPost}
  (hx:ev e x=some (.func (.func f) first.toArray cap.toArray)) (hv:Evs e args vs) (hf:FnB P f (first++vs++cap) [] F' R) (hF:HasAllB bx F F') (hK:∀ v b G,R v b G→K v (b++bx) F) :
  LO P (.call {callee:=.value x,args:=args.toArray,argTypes:=ats}) ty e bx F K:=fun n fr a w o next Q' hop _ hk ho hnext=>by
 refine upon_call hf.1 hop (hk.eval hx) (vs:=first++vs++cap) (by rw[←hv.map hk];simp) ?_
 have h0:=ho.drop (List.nil_sublist bx)
 have h1:OK fr [] F' w:=⟨h0.frame,h0.apart,h0.nodup,h0.owns,fun g hg=>hF.all g hg fr w ho⟩
 refine(hf.2 fr w h1).mono fun e' w' ⟨v,b,G,he,hR,hr,hle,hok⟩=>?_
 subst he
 exact hnext v w' _ _ hr (lend ho hle hok) (hK v b G hR)
theorem LO.callRV {f:FuncId} {x:Operand} {args:List Operand} {ats:Array TypeId} {K:RPost} {vs:List Value} {F':List Fct} {u:Value}
  (hx:ev e x=some (.func (.func f) #[] #[])) (hv:Evs e args vs) (hf:FnB P f vs [] F' (IsV u)) (hF:HasAllB bx F F') (hK:K u bx F):LO P (.call {callee:=.value x,args:=args.toArray,argTypes:=ats}) ty e bx F K:=
 LO.callR (first:=[]) (cap:=[]) hx hv (by simpa using hf) hF (by rintro _ _ _ ⟨rfl,rfl,rfl⟩;simpa using hK)
theorem LO.callRO {f:FuncId} {x:Operand} {args:List Operand} {ats:Array TypeId} {K:RPost} {vs:List Value} {F':List Fct} {el sz:Nat} {cs:List Value}
  (hx:ev e x=some (.func (.func f) #[] #[])) (hv:Evs e args vs) (hf:FnB P f vs [] F' (IsO el sz cs)) (hF:HasAllB bx F F') (hK:∀ v,K v (Ow.slice v el sz cs::bx) F):LO P (.call {callee:=.value x,args:=args.toArray,argTypes:=ats}) ty e bx F K:=
 LO.callR (first:=[]) (cap:=[]) hx hv (by simpa using hf) hF (by rintro v _ _ ⟨rfl,rfl⟩;simpa using hK v)
end W
end Go.Proofs.YtaongbhamadlkaaGreat
namespace Go.Proofs.YtaongbhamadlkaaGreat
namespace T
open W
theorem sc3:Scalar Tryz.prog 3:=Scalar.of (by kernel_rfl)
theorem u3:IntT Tryz.prog 3 .i64:=by unfold IntT;kernel_rfl
theorem al3:AllocT Tryz.prog 3 [.int .i64 0]:=AllocT.of (z:=.int .i64 0) (by kernel_rfl) (by kernel_rfl)
theorem z3:(Tryz.prog.info? 3).map (·.size)=some 1:=by kernel_rfl
theorem sc4:Scalar Tryz.prog 4:=Scalar.of (by kernel_rfl)
theorem al4:AllocT Tryz.prog 4 [.bool false]:=AllocT.of (z:=.bool false) (by kernel_rfl) (by kernel_rfl)
theorem z4:(Tryz.prog.info? 4).map (·.size)=some 1:=by kernel_rfl
theorem s22:SliceT Tryz.prog 22 3 1:=SliceT.of (by kernel_rfl)
theorem sc22:Scalar Tryz.prog 22:=Scalar.of (by kernel_rfl)
theorem al22:AllocT Tryz.prog 22 [.slice none 0 0]:=AllocT.of (z:=.slice none 0 0) (by kernel_rfl) (by kernel_rfl)
theorem e22:ElemT Tryz.prog 22 3 1 (.int .i64 0) 8:=⟨by kernel_rfl,by kernel_rfl,by kernel_rfl,by decide⟩
theorem z22:(Tryz.prog.info? 22).map (·.size)=some 1:=by kernel_rfl
theorem s23:SliceT Tryz.prog 23 60 5:=SliceT.of (by kernel_rfl)
theorem sc23:Scalar Tryz.prog 23:=Scalar.of (by kernel_rfl)
theorem al23:AllocT Tryz.prog 23 [.slice none 0 0]:=AllocT.of (z:=.slice none 0 0) (by kernel_rfl) (by kernel_rfl)
theorem e23:ElemT Tryz.prog 23 60 5 (.agg #[.slice none 0 0,.bool false,.slice none 0 0,.bool false,.slice none 0 0]) 88:=⟨by kernel_rfl,by kernel_rfl,by kernel_rfl,by decide⟩
theorem z23:(Tryz.prog.info? 23).map (·.size)=some 1:=by kernel_rfl
theorem s24:SliceT Tryz.prog 24 31 4:=SliceT.of (by kernel_rfl)
theorem sc24:Scalar Tryz.prog 24:=Scalar.of (by kernel_rfl)
theorem al24:AllocT Tryz.prog 24 [.slice none 0 0]:=AllocT.of (z:=.slice none 0 0) (by kernel_rfl) (by kernel_rfl)
theorem e24:ElemT Tryz.prog 24 31 4 (.agg #[.bool false,.slice none 0 0,.bool false,.slice none 0 0]) 64:=⟨by kernel_rfl,by kernel_rfl,by kernel_rfl,by decide⟩
theorem z24:(Tryz.prog.info? 24).map (·.size)=some 1:=by kernel_rfl
theorem f26_0:FieldAt Tryz.prog 26 0 0:=FieldAt.of (by kernel_rfl)
theorem f26_1:FieldAt Tryz.prog 26 1 1:=FieldAt.of (by kernel_rfl)
theorem f26_2:FieldAt Tryz.prog 26 2 2:=FieldAt.of (by kernel_rfl)
theorem r26:Row Tryz.prog 26 3:=Row.of (by kernel_rfl)
theorem al26:AllocT Tryz.prog 26 [.int .i64 0,.slice none 0 0,.slice none 0 0]:=AllocT.of (z:=.agg #[.int .i64 0,.slice none 0 0,.slice none 0 0]) (by kernel_rfl) (by kernel_rfl)
theorem f29_0:FieldAt Tryz.prog 29 0 0:=FieldAt.of (by kernel_rfl)
theorem f29_1:FieldAt Tryz.prog 29 1 1:=FieldAt.of (by kernel_rfl)
theorem r29:Row Tryz.prog 29 2:=Row.of (by kernel_rfl)
theorem al29:AllocT Tryz.prog 29 [.bool false,.slice none 0 0]:=AllocT.of (z:=.agg #[.bool false,.slice none 0 0]) (by kernel_rfl) (by kernel_rfl)
theorem f31_0:FieldAt Tryz.prog 31 0 0:=FieldAt.of (by kernel_rfl)
theorem f31_1:FieldAt Tryz.prog 31 1 2:=FieldAt.of (by kernel_rfl)
theorem r31:Row Tryz.prog 31 4:=Row.of (by kernel_rfl)
theorem al31:AllocT Tryz.prog 31 [.bool false,.slice none 0 0,.bool false,.slice none 0 0]:=AllocT.of (z:=.agg #[.bool false,.slice none 0 0,.bool false,.slice none 0 0]) (by kernel_rfl) (by kernel_rfl)
theorem f33_0:FieldAt Tryz.prog 33 0 0:=FieldAt.of (by kernel_rfl)
theorem f33_1:FieldAt Tryz.prog 33 1 1:=FieldAt.of (by kernel_rfl)
theorem f33_2:FieldAt Tryz.prog 33 2 2:=FieldAt.of (by kernel_rfl)
theorem f33_3:FieldAt Tryz.prog 33 3 3:=FieldAt.of (by kernel_rfl)
theorem r33:Row Tryz.prog 33 7:=Row.of (by kernel_rfl)
theorem al33:AllocT Tryz.prog 33 [.int .i64 0,.slice none 0 0,.slice none 0 0,.bool false,.slice none 0 0,.bool false,.slice none 0 0]:=AllocT.of (z:=.agg #[.int .i64 0,.slice none 0 0,.slice none 0 0,.bool false,.slice none 0 0,.bool false,.slice none 0 0]) (by kernel_rfl) (by kernel_rfl)
theorem sc34:Scalar Tryz.prog 34:=Scalar.of (by kernel_rfl)
theorem u34:IntT Tryz.prog 34 .i64:=by unfold IntT;kernel_rfl
theorem al34:AllocT Tryz.prog 34 [.int .i64 0]:=AllocT.of (z:=.int .i64 0) (by kernel_rfl) (by kernel_rfl)
theorem z34:(Tryz.prog.info? 34).map (·.size)=some 1:=by kernel_rfl
theorem s48:SliceT Tryz.prog 48 33 7:=SliceT.of (by kernel_rfl)
theorem sc48:Scalar Tryz.prog 48:=Scalar.of (by kernel_rfl)
theorem al48:AllocT Tryz.prog 48 [.slice none 0 0]:=AllocT.of (z:=.slice none 0 0) (by kernel_rfl) (by kernel_rfl)
theorem e48:ElemT Tryz.prog 48 33 7 (.agg #[.int .i64 0,.slice none 0 0,.slice none 0 0,.bool false,.slice none 0 0,.bool false,.slice none 0 0]) 120:=⟨by kernel_rfl,by kernel_rfl,by kernel_rfl,by decide⟩
theorem z48:(Tryz.prog.info? 48).map (·.size)=some 1:=by kernel_rfl
theorem f60_0:FieldAt Tryz.prog 60 0 0:=FieldAt.of (by kernel_rfl)
theorem f60_1:FieldAt Tryz.prog 60 1 1:=FieldAt.of (by kernel_rfl)
theorem r60:Row Tryz.prog 60 5:=Row.of (by kernel_rfl)
theorem al60:AllocT Tryz.prog 60 [.slice none 0 0,.bool false,.slice none 0 0,.bool false,.slice none 0 0]:=AllocT.of (z:=.agg #[.slice none 0 0,.bool false,.slice none 0 0,.bool false,.slice none 0 0]) (by kernel_rfl) (by kernel_rfl)
theorem s72:SliceT Tryz.prog 72 77 6:=SliceT.of (by kernel_rfl)
theorem sc72:Scalar Tryz.prog 72:=Scalar.of (by kernel_rfl)
theorem al72:AllocT Tryz.prog 72 [.slice none 0 0]:=AllocT.of (z:=.slice none 0 0) (by kernel_rfl) (by kernel_rfl)
theorem e72:ElemT Tryz.prog 72 77 6 (.agg #[.int .i64 0,.int .i64 0,.bool false,.slice none 0 0,.bool false,.slice none 0 0]) 80:=⟨by kernel_rfl,by kernel_rfl,by kernel_rfl,by decide⟩
theorem z72:(Tryz.prog.info? 72).map (·.size)=some 1:=by kernel_rfl
theorem f77_0:FieldAt Tryz.prog 77 0 0:=FieldAt.of (by kernel_rfl)
theorem f77_1:FieldAt Tryz.prog 77 1 1:=FieldAt.of (by kernel_rfl)
theorem f77_2:FieldAt Tryz.prog 77 2 2:=FieldAt.of (by kernel_rfl)
theorem r77:Row Tryz.prog 77 6:=Row.of (by kernel_rfl)
theorem al77:AllocT Tryz.prog 77 [.int .i64 0,.int .i64 0,.bool false,.slice none 0 0,.bool false,.slice none 0 0]:=AllocT.of (z:=.agg #[.int .i64 0,.int .i64 0,.bool false,.slice none 0 0,.bool false,.slice none 0 0]) (by kernel_rfl) (by kernel_rfl)
theorem sc84:Scalar Tryz.prog 84:=Scalar.of (by kernel_rfl)
theorem al84:AllocT Tryz.prog 84 [.pointer none]:=AllocT.of (z:=.pointer none) (by kernel_rfl) (by kernel_rfl)
theorem z84:(Tryz.prog.info? 84).map (·.size)=some 1:=by kernel_rfl
theorem s86:SliceT Tryz.prog 86 24 1:=SliceT.of (by kernel_rfl)
theorem sc86:Scalar Tryz.prog 86:=Scalar.of (by kernel_rfl)
theorem al86:AllocT Tryz.prog 86 [.slice none 0 0]:=AllocT.of (z:=.slice none 0 0) (by kernel_rfl) (by kernel_rfl)
theorem e86:ElemT Tryz.prog 86 24 1 (.slice none 0 0) 24:=⟨by kernel_rfl,by kernel_rfl,by kernel_rfl,by decide⟩
theorem z86:(Tryz.prog.info? 86).map (·.size)=some 1:=by kernel_rfl
theorem f88_0:FieldAt Tryz.prog 88 0 0:=FieldAt.of (by kernel_rfl)
theorem f88_1:FieldAt Tryz.prog 88 1 1:=FieldAt.of (by kernel_rfl)
theorem f88_2:FieldAt Tryz.prog 88 2 2:=FieldAt.of (by kernel_rfl)
theorem f88_3:FieldAt Tryz.prog 88 3 3:=FieldAt.of (by kernel_rfl)
theorem f88_4:FieldAt Tryz.prog 88 4 4:=FieldAt.of (by kernel_rfl)
theorem f88_5:FieldAt Tryz.prog 88 5 5:=FieldAt.of (by kernel_rfl)
theorem r88:Row Tryz.prog 88 6:=Row.of (by kernel_rfl)
theorem al88:AllocT Tryz.prog 88 [.int .i64 0,.int .i64 0,.int .i64 0,.slice none 0 0,.slice none 0 0,.slice none 0 0]:=AllocT.of (z:=.agg #[.int .i64 0,.int .i64 0,.int .i64 0,.slice none 0 0,.slice none 0 0,.slice none 0 0]) (by kernel_rfl) (by kernel_rfl)
theorem sc103:Scalar Tryz.prog 103:=Scalar.of (by kernel_rfl)
theorem al103:AllocT Tryz.prog 103 [.pointer none]:=AllocT.of (z:=.pointer none) (by kernel_rfl) (by kernel_rfl)
theorem z103:(Tryz.prog.info? 103).map (·.size)=some 1:=by kernel_rfl
theorem f107_0:FieldAt Tryz.prog 107 0 0:=FieldAt.of (by kernel_rfl)
theorem f107_1:FieldAt Tryz.prog 107 1 1:=FieldAt.of (by kernel_rfl)
theorem f107_2:FieldAt Tryz.prog 107 2 2:=FieldAt.of (by kernel_rfl)
theorem r107:Row Tryz.prog 107 3:=Row.of (by kernel_rfl)
theorem al107:AllocT Tryz.prog 107 [.slice none 0 0,.slice none 0 0,.slice none 0 0]:=AllocT.of (z:=.agg #[.slice none 0 0,.slice none 0 0,.slice none 0 0]) (by kernel_rfl) (by kernel_rfl)
theorem f123_0:FieldAt Tryz.prog 123 0 0:=FieldAt.of (by kernel_rfl)
theorem f123_1:FieldAt Tryz.prog 123 1 1:=FieldAt.of (by kernel_rfl)
theorem r123:Row Tryz.prog 123 2:=Row.of (by kernel_rfl)
theorem al123:AllocT Tryz.prog 123 [.int .i64 0,.slice none 0 0]:=AllocT.of (z:=.agg #[.int .i64 0,.slice none 0 0]) (by kernel_rfl) (by kernel_rfl)
theorem s129:SliceT Tryz.prog 129 131 1:=SliceT.of (by kernel_rfl)
theorem sc129:Scalar Tryz.prog 129:=Scalar.of (by kernel_rfl)
theorem al129:AllocT Tryz.prog 129 [.slice none 0 0]:=AllocT.of (z:=.slice none 0 0) (by kernel_rfl) (by kernel_rfl)
theorem e129:ElemT Tryz.prog 129 131 1 (.slice none 0 0) 24:=⟨by kernel_rfl,by kernel_rfl,by kernel_rfl,by decide⟩
theorem z129:(Tryz.prog.info? 129).map (·.size)=some 1:=by kernel_rfl
theorem s131:SliceT Tryz.prog 131 134 5:=SliceT.of (by kernel_rfl)
theorem sc131:Scalar Tryz.prog 131:=Scalar.of (by kernel_rfl)
theorem al131:AllocT Tryz.prog 131 [.slice none 0 0]:=AllocT.of (z:=.slice none 0 0) (by kernel_rfl) (by kernel_rfl)
theorem e131:ElemT Tryz.prog 131 134 5 (.agg #[.bool false,.bool false,.slice none 0 0,.bool false,.slice none 0 0]) 72:=⟨by kernel_rfl,by kernel_rfl,by kernel_rfl,by decide⟩
theorem z131:(Tryz.prog.info? 131).map (·.size)=some 1:=by kernel_rfl
theorem f134_0:FieldAt Tryz.prog 134 0 0:=FieldAt.of (by kernel_rfl)
theorem f134_1:FieldAt Tryz.prog 134 1 1:=FieldAt.of (by kernel_rfl)
theorem r134:Row Tryz.prog 134 5:=Row.of (by kernel_rfl)
theorem al134:AllocT Tryz.prog 134 [.bool false,.bool false,.slice none 0 0,.bool false,.slice none 0 0]:=AllocT.of (z:=.agg #[.bool false,.bool false,.slice none 0 0,.bool false,.slice none 0 0]) (by kernel_rfl) (by kernel_rfl)
theorem sc162:Scalar Tryz.prog 162:=Scalar.of (by kernel_rfl)
theorem u162:IntT Tryz.prog 162 .u64:=by unfold IntT;kernel_rfl
theorem al162:AllocT Tryz.prog 162 [.int .u64 0]:=AllocT.of (z:=.int .u64 0) (by kernel_rfl) (by kernel_rfl)
theorem z162:(Tryz.prog.info? 162).map (·.size)=some 1:=by kernel_rfl
end T
end Go.Proofs.YtaongbhamadlkaaGreat
namespace Go.Proofs.YtaongbhamadlkaaGreat
open Go.RowKit Go.Sort Go.Shelf
def laySort_ren:Go.Shelf.Ren:=⟨fun|5=>83|8=>140|7=>139|19=>192|20=>193|10=>183|11=>184|12=>185|13=>186|14=>187|15=>188|16=>189|17=>190|18=>191|30=>203|31=>204|32=>205|33=>206|34=>207|35=>208|40=>213|n=>n,fun|23=>22|25=>3|3=>3|32=>156|22=>22|0=>0|44=>188|46=>162|4=>4|36=>181|35=>180|41=>185|5=>5|9=>9|53=>195|57=>199|63=>204|64=>205|n=>n,fun|n=>n⟩
theorem laySort:SlLaysM.n5 Tryz.prog laySort_ren:={
 mixed:=by kernel_rfl
 f5:=⟨Tryz.f83.name,by decide,Tryz.func83.trans (congrArg some (by kernel_rfl))⟩
 f7:=⟨Tryz.f139.name,by decide,Tryz.func139.trans (congrArg some (by kernel_rfl))⟩
 f8:=Tryz.func140.trans (congrArg some (by kernel_rfl))
 f10:=⟨Tryz.f183.name,by decide,Tryz.func183.trans (congrArg some (by kernel_rfl))⟩
 f11:=⟨Tryz.f184.name,by decide,Tryz.func184.trans (congrArg some (by kernel_rfl))⟩
 f12:=⟨Tryz.f185.name,by decide,Tryz.func185.trans (congrArg some (by kernel_rfl))⟩
 f13:=⟨Tryz.f186.name,by decide,Tryz.func186.trans (congrArg some (by kernel_rfl))⟩
 f14:=⟨Tryz.f187.name,by decide,Tryz.func187.trans (congrArg some (by kernel_rfl))⟩
 f15:=⟨Tryz.f188.name,by decide,Tryz.func188.trans (congrArg some (by kernel_rfl))⟩
 f16:=⟨Tryz.f189.name,by decide,Tryz.func189.trans (congrArg some (by kernel_rfl))⟩
 f17:=⟨Tryz.f190.name,by decide,Tryz.func190.trans (congrArg some (by kernel_rfl))⟩
 f18:=⟨Tryz.f191.name,by decide,Tryz.func191.trans (congrArg some (by kernel_rfl))⟩
 f19:=Tryz.func192.trans (congrArg some (by kernel_rfl))
 f20:=Tryz.func193.trans (congrArg some (by kernel_rfl))
 f30:=⟨Tryz.f203.name,by decide,Tryz.func203.trans (congrArg some (by kernel_rfl))⟩
 f31:=Tryz.func204.trans (congrArg some (by kernel_rfl))
 f32:=Tryz.func205.trans (congrArg some (by kernel_rfl))
 f33:=⟨Tryz.f206.name,by decide,Tryz.func206.trans (congrArg some (by kernel_rfl))⟩
 f34:=⟨Tryz.f207.name,by decide,Tryz.func207.trans (congrArg some (by kernel_rfl))⟩
 f35:=⟨Tryz.f208.name,by decide,Tryz.func208.trans (congrArg some (by kernel_rfl))⟩
 f40:=⟨Tryz.f213.name,by decide,Tryz.func213.trans (congrArg some (by kernel_rfl))⟩
 t0:=Tryz.underlying0
 a0:=Tryz.isAgg0
 z0:=Tryz.sizeOf0
 v0:=Tryz.zeroValue0
 t3:=Tryz.underlying3
 a3:=Tryz.isAgg3
 z3:=Tryz.sizeOf3
 v3:=Tryz.zeroValue3
 t4:=Tryz.underlying4
 a4:=Tryz.isAgg4
 z4:=Tryz.sizeOf4
 v4:=Tryz.zeroValue4
 t5:=Tryz.underlying5
 a5:=Tryz.isAgg5
 z5:=Tryz.sizeOf5
 v5:=Tryz.zeroValue5
 t9:=Tryz.underlying9
 a9:=Tryz.isAgg9
 z9:=Tryz.sizeOf9
 v9:=Tryz.zeroValue9
 t22:=Tryz.underlying22
 a22:=Tryz.isAgg22
 z22:=Tryz.sizeOf22
 v22:=Tryz.zeroValue22
 t23:=Tryz.underlying22
 a23:=Tryz.isAgg22
 z23:=Tryz.sizeOf22
 v23:=Tryz.zeroValue22
 t25:=Tryz.underlying3
 a25:=Tryz.isAgg3
 z25:=Tryz.sizeOf3
 v25:=Tryz.zeroValue3
 t32:=Tryz.underlying156
 a32:=Tryz.isAgg156
 z32:=Tryz.sizeOf156
 v32:=Tryz.zeroValue156
 t35:=Tryz.underlying180
 a35:=Tryz.isAgg180
 z35:=Tryz.sizeOf180
 v35:=Tryz.zeroValue180
 t36:=Tryz.underlying181
 a36:=Tryz.isAgg181
 z36:=Tryz.sizeOf181
 v36:=Tryz.zeroValue181
 t41:=Tryz.underlying185
 a41:=Tryz.isAgg185
 z41:=Tryz.sizeOf185
 v41:=Tryz.zeroValue185
 t44:=Tryz.underlying188
 a44:=Tryz.isAgg188
 z44:=Tryz.sizeOf188
 v44:=Tryz.zeroValue188
 t46:=Tryz.underlying162
 a46:=Tryz.isAgg162
 z46:=Tryz.sizeOf162
 v46:=Tryz.zeroValue162
 t53:=Tryz.underlying195
 a53:=Tryz.isAgg195
 z53:=Tryz.sizeOf195
 v53:=Tryz.zeroValue195
 t57:=Tryz.underlying199
 a57:=Tryz.isAgg199
 z57:=Tryz.sizeOf199
 v57:=Tryz.zeroValue199
 t63:=Tryz.underlying204
 a63:=Tryz.isAgg204
 z63:=Tryz.sizeOf204
 v63:=Tryz.zeroValue204
 t64:=Tryz.underlying205
 a64:=Tryz.isAgg205
 z64:=Tryz.sizeOf205
 v64:=Tryz.zeroValue205}
def layCompact_ren:Go.Shelf.Ren:=⟨fun|20=>84|n=>n,fun|22=>22|3=>3|4=>4|0=>0|n=>n,fun|n=>n⟩
theorem layCompact:Lays2.n20 Tryz.prog layCompact_ren:={
 mixed:=by kernel_rfl
 f20:=Tryz.func84.trans (congrArg some (by kernel_rfl))
 t0:=Tryz.underlying0
 a0:=Tryz.isAgg0
 z0:=Tryz.sizeOf0
 v0:=Tryz.zeroValue0
 t3:=Tryz.underlying3
 a3:=Tryz.isAgg3
 z3:=Tryz.sizeOf3
 v3:=Tryz.zeroValue3
 t4:=Tryz.underlying4
 a4:=Tryz.isAgg4
 z4:=Tryz.sizeOf4
 v4:=Tryz.zeroValue4
 t22:=Tryz.underlying22
 a22:=Tryz.isAgg22
 z22:=Tryz.sizeOf22
 v22:=Tryz.zeroValue22
 i3:=by kernel_rfl}
def layDelete_ren:Go.Shelf.Ren:=⟨fun|10=>80|6=>138|n=>n,fun|22=>22|23=>3|25=>111|3=>3|4=>4|0=>0|n=>n,fun|n=>n⟩
theorem layDelete:SlLaysH.n10 Tryz.prog layDelete_ren:={
 mixed:=by kernel_rfl
 f6:=⟨Tryz.f138.name,by decide,Tryz.func138.trans (congrArg some (by kernel_rfl))⟩
 f10:=⟨Tryz.f80.name,by decide,Tryz.func80.trans (congrArg some (by kernel_rfl))⟩
 t0:=Tryz.underlying0
 a0:=Tryz.isAgg0
 z0:=Tryz.sizeOf0
 v0:=Tryz.zeroValue0
 t3:=Tryz.underlying3
 a3:=Tryz.isAgg3
 z3:=Tryz.sizeOf3
 v3:=Tryz.zeroValue3
 t4:=Tryz.underlying4
 a4:=Tryz.isAgg4
 z4:=Tryz.sizeOf4
 v4:=Tryz.zeroValue4
 t22:=Tryz.underlying22
 a22:=Tryz.isAgg22
 z22:=Tryz.sizeOf22
 v22:=Tryz.zeroValue22
 a23:=Tryz.isAgg3
 z23:=Tryz.sizeOf3
 t25:=Tryz.underlying111
 a25:=Tryz.isAgg111
 z25:=Tryz.sizeOf111
 v25:=Tryz.zeroValue111}
end Go.Proofs.YtaongbhamadlkaaGreat
namespace Go.Proofs.YtaongbhamadlkaaGreat
open Go.RowKit
namespace W
variable {P:Program} {e:Env} {bx:List Ow} {F:List Fct} {ty:TypeId}
def anot (i j:Int):Int:=IntKind.i64.wrap (BitVec.ofInt 64 i &&& ~~~(BitVec.ofInt 64 j)).toNat
theorem YO.anot {t t':TypeId} {x y:Operand} {i j:Int} (hx:ev e x=some (.int .i64 i)) (hy:ev e y=some (.int .i64 j)):YO P (.binOp .andNot t x y t') ty e bx F (.int .i64 (anot i j)):=
 YO.bits hx hy fun w=>by
  simp only[binOp,Op.intBits]
  simp[W.anot]
  rfl
variable {v u:Value} {bx':List Ow}
inductive OneL (bx:List Ow) (F:List Fct):List Value→Prop where
 |nil:OneL bx F []
 |cons {u:Value} {us:List Value}:One bx F u→OneL bx F us→OneL bx F (u::us)
theorem OneL.all {us:List Value} (h:OneL bx F us) {fr:PH} {w:World} (ho:OK fr bx F w):∀ c∈us,c.oneCell'=true:=by
 induction h with
 |nil=>simp
 |cons h _ ih=>intro c hc;rcases List.mem_cons.1 hc with rfl|hc;exact(h fr w ho).2;exact ih c hc
theorem LO.byOneL {op:Op} {K:RPost} {us:List Value} (hu:OneL bx F us) (h:(∀ c∈us,c.oneCell'=true)→LO P op ty e bx F K):LO P op ty e bx F K:=fun n fr a w o next Q' h1 h2 h3 h4 h5=>
 h (hu.all h4) n fr a w o next Q' h1 h2 h3 h4 h5
theorem LO.storeL {t tg:TypeId} {x y:Operand} {K:RPost} {g m:Nat} {cs us:List Value} (hx:ev e x=some (.pointer (some ⟨g,0,none⟩))) (hy:ev e y=some (.agg us.toArray))
  (hs:Sel bx (.cells g tg cs) (.cells g tg us) bx') (hr:Row P t m) (hm:us.length=m) (hm2:cs.length=m) (h1:OneL bx F us) (h:K undef bx' F):LO P (.store t x y) ty e bx F K:=
 LO.byOneL h1 fun h1=>LO.storeA hx hy hs hr hm hm2 h1 h
end W
end Go.Proofs.YtaongbhamadlkaaGreat
namespace Go.Proofs.YtaongbhamadlkaaGreat
open Go.RowKit
namespace W
variable {P:Program} {e:Env} {bx bx':List Ow} {F:List Fct} {ty:TypeId} {v u:Value}
def ce (g:Nat) (t:TypeId) (cs:List Value):Fct where
 p h:=h g=some (.cells cs.toArray t (0,0))
 mono _ _ hl hp:=hl _ _ hp
theorem ce_cell {fr:PH} {w:World} (ho:OK fr bx F w) {g:Nat} {t:TypeId} {cs:List Value} (h:Has F (ce g t cs)) (q:Nat):w.cell? ⟨g,q,none⟩=cs[q]?:=by
 have:=imm_heap (ho.has h)
 simp[World.cell?,this]
theorem YO.ldF {t tg:TypeId} {x:Operand} {g q:Nat} {cs:List Value} (hs:Scalar P t) (hx:ev e x=some (.pointer (some ⟨g,q,none⟩))) (hb:Has F (ce g tg cs)) (hv:cs[q]?=some v):YO P (.load t x) ty e bx F v:=
 YO.ld hs hx rfl fun fr w ho=>by rw[ce_cell ho hb];exact hv
theorem ints_at {L:List Int} {q:Nat} (hq:q < L.length):(ints L)[q]?=some (.int .i64 (L.getD q 0)):=by simp[List.getElem?_eq_getElem hq]
theorem YO.ldCI {t tg:TypeId} {x:Operand} {g q:Nat} {L:List Int} (hs:Scalar P t) (hx:ev e x=some (.pointer (some ⟨g,q,none⟩))) (hb:Ow.cells g tg (ints L)∈bx) (hq:q < L.length):YO P (.load t x) ty e bx F (.int .i64 (L.getD q 0)):=
 YO.ldB hs hx hb (ints_at hq)
theorem YO.ldFI {t tg:TypeId} {x:Operand} {g q:Nat} {L:List Int} (hs:Scalar P t) (hx:ev e x=some (.pointer (some ⟨g,q,none⟩))) (hb:Has F (ce g tg (ints L))) (hq:q < L.length):YO P (.load t x) ty e bx F (.int .i64 (L.getD q 0)):=
 YO.ldF hs hx hb (ints_at hq)
theorem ints_row {w:World} {g q m:Nat} {L:List Int} (h:∀ q,w.cell? ⟨g,q,none⟩=(ints L)[q]?) (i:Nat) (u:Value) (hu:(ints ((L.drop q).take m))[i]?=some u):w.cell? ⟨g,q+i,none⟩=some u:=by
 rw[h]
 simp only[ints,List.getElem?_map,List.getElem?_take,List.getElem?_drop] at hu ⊢
 split at hu
 ·exact hu
 ·cases hu
theorem YO.ldWI {t tg m:Nat} {x:Operand} {g q:Nat} {L:List Int} (hs:Row P t m) (hx:ev e x=some (.pointer (some ⟨g,q,none⟩))) (hb:Ow.cells g tg (ints L)∈bx) (hq:q+m≤L.length):YO P (.load t x) ty e bx F (.agg (ints ((L.drop q).take m)).toArray):=
 YO.ldRow (by rw[show(ints ((L.drop q).take m)).length=m from by simp;omega];exact hs) hx rfl fun fr w ho=>ints_row fun q=>own_cell (ho.owns _ hb)
theorem YO.ldWF {t tg m:Nat} {x:Operand} {g q:Nat} {L:List Int} (hs:Row P t m) (hx:ev e x=some (.pointer (some ⟨g,q,none⟩))) (hb:Has F (ce g tg (ints L))) (hq:q+m≤L.length):YO P (.load t x) ty e bx F (.agg (ints ((L.drop q).take m)).toArray):=
 YO.ldRow (by rw[show(ints ((L.drop q).take m)).length=m from by simp;omega];exact hs) hx rfl fun fr w ho=>ints_row fun q=>ce_cell ho hb q
theorem whole {L:List Int} {m:Nat} (h:L.length=m):(L.drop 0).take m=L:=by subst h;simp
theorem YO.ldWI0 {t tg m:Nat} {x:Operand} {g:Nat} {L:List Int} (hs:Row P t m) (hx:ev e x=some (.pointer (some ⟨g,0,none⟩))) (hb:Ow.cells g tg (ints L)∈bx) (hq:L.length=m):YO P (.load t x) ty e bx F (.agg (ints L).toArray):=by
 have:=YO.ldWI (ty:=ty) (F:=F) hs hx hb (by omega)
 rwa [whole hq] at this
theorem YO.ldWF0 {t tg m:Nat} {x:Operand} {g:Nat} {L:List Int} (hs:Row P t m) (hx:ev e x=some (.pointer (some ⟨g,0,none⟩))) (hb:Has F (ce g tg (ints L))) (hq:L.length=m):YO P (.load t x) ty e bx F (.agg (ints L).toArray):=by
 have:=YO.ldWF (ty:=ty) (bx:=bx) hs hx hb (by omega)
 rwa [whole hq] at this
theorem LO.storeI {t tg:TypeId} {x y:Operand} {K:RPost} {g q:Nat} {L:List Int} {n:Int} (hx:ev e x=some (.pointer (some ⟨g,q,none⟩))) (hy:ev e y=some (.int .i64 n))
  (hz:(P.info? t).map (·.size)=some 1) (hs:Sel bx (.cells g tg (ints L)) (.cells g tg (ints (L.set q n))) bx') (hq:q < L.length) (h:K undef bx' F):LO P (.store t x y) ty e bx F K:=
 LO.store1 hx hy hz (One.lit rfl rfl) hs (by simpa using hq) (by simp[ints,List.map_set]) h
theorem LO.storeWI {t tg m:Nat} {x y:Operand} {K:RPost} {g:Nat} {cs:List Value} {L:List Int} (hx:ev e x=some (.pointer (some ⟨g,0,none⟩))) (hy:ev e y=some (.agg (ints L).toArray))
  (hs:Sel bx (.cells g tg cs) (.cells g tg (ints L)) bx') (hr:Row P t m) (hm:L.length=m) (hm2:cs.length=m) (h:K undef bx' F):LO P (.store t x y) ty e bx F K:=
 LO.storeA hx hy hs hr (by simpa using hm) hm2 (ints_one L) h
theorem HasB.c {g:Nat} {t:TypeId} {cs:List Value} (hb:Ow.cells g t cs∈bx):HasB bx F (ce g t cs):=fun fr w ho=>by
 have h:=ho.owns _ hb
 simp only[Ow.holds] at h
 show imm fr [] w.heap g=_
 rw[imm_nil,ho.apart g (mem_ids.2 ⟨_,hb,by simp[Ow.ids]⟩)];exact h
def isNil:Value→Bool
 |.slice none _ _=>true
 |_=>false
theorem run_eqnil {t el:TypeId} {a:Option Addr} {l c:Nat} (d:Nat) (w:World) (h:P.underlying t=some (.slice el)):(Op.equalIn (d+1) t (.slice a l c) (.slice none 0 0)).run P w=.ok (isNil (.slice a l c)) w:=by
 cases a <;> simp[Op.equalIn,run_underlying h,isNil]
theorem YO.eqNil {t el n:Nat} {x:Operand} (hs:SliceT P t el 1) (hx:ev e x=some v) (hv:KnS bx F v n) (ty2:TypeId):YO P (.binOp .eql t x (.const (.slice none 0 0)) ty2) ty e bx F (.bool (isNil v)):=.of fun k fr a w o hop hk ho=>by
 have hx':=hk.eval hx
 obtain⟨a',cap,rfl,_,_,h5⟩:=(hv fr w ho).is
 have he:(eqGuard .eql t x (.const (.slice none 0 0)) (.slice a' n cap) (.slice none 0 0)).run P w=.ok () w:=by unfold eqGuard;simp[Sem.run_pure]
 have h2:a.eval (.const (.slice none 0 0))=.slice none 0 0:=rfl
 have h3:(Op.equal t (.slice a' n cap) (.slice none 0 0)).run P w=.ok (isNil (.slice a' n cap)) w:=run_eqnil 9999 w hs.1
 simp[execOp,hop,hx',h2,he,binOp,h3]
theorem YO.eqNil_t {t el n:Nat} {x:Operand} {ty2:TypeId} (hs:SliceT P t el 1) (hx:ev e x=some v) (hv:KnS bx F v n) (h:isNil v=true):YO P (.binOp .eql t x (.const (.slice none 0 0)) ty2) ty e bx F (.bool true):=by rw[←h];exact YO.eqNil hs hx hv ty2
theorem YO.eqNil_f {t el n:Nat} {x:Operand} {ty2:TypeId} (hs:SliceT P t el 1) (hx:ev e x=some v) (hv:KnS bx F v n) (h:isNil v=false):YO P (.binOp .eql t x (.const (.slice none 0 0)) ty2) ty e bx F (.bool false):=by rw[←h];exact YO.eqNil hs hx hv ty2
theorem WC.nil0 {n:Nat} {c:Code} {Q:Post} {l:List Int} (hf:Has F (sI v l)) (hn:isNil v=true) (h:l=[]→WC P n c e bx F Q):WC P n c e bx F Q:=
 WC.pure (fun fr w ho=>by
  obtain⟨a,cap,rfl,h2,h3,h4|⟨b,off,rfl,_⟩⟩:=ho.has hf
  ·exact List.eq_nil_of_length_eq_zero h4.2.1
  ·cases hn) h
end W
end Go.Proofs.YtaongbhamadlkaaGreat
namespace Go.Proofs.YtaongbhamadlkaaGreat
open Go.RowKit Go.Sort Go.Shelf W
def srt (l:List Int):List Int:=l.mergeSort fun x y=>decide (x≤y)
theorem srt_len (l:List Int):(srt l).length=l.length:=by unfold srt;exact List.length_mergeSort l
theorem row_fn {f:FuncId} {rest:List Value} {l new:List Int} {v:Value} {F:List Fct} (hc:Callable Tryz.prog f) (hne:l≠[]) (hlen:new.length≤l.length)
  (h:∀ fr w g cap,v=.slice (some ⟨g,0,none⟩) l.length cap→l.length≤cap→OK fr [Ow.slice v 3 1 (ints l)] F w→Holds (Value.int .i64) w g 0 l.toArray→Calls Tryz.prog f (v::rest).toArray w fun e w'=>e=.returned (.slice (some ⟨g,0,none⟩) new.length cap)∧∃ q,w'=putRow (Value.int .i64) (Sort.ahead w q) g 0 (new++List.replicate (l.length - new.length) 0).toArray) :
  FnB Tryz.prog f (v::rest) [Ow.slice v 3 1 (ints l)] F (IsO 3 1 (ints new)):=by
 refine⟨hc,fun fr w ho=>?_⟩
 obtain⟨n,h1,⟨_,h2⟩|⟨g,cap,sp,rfl,h3,h4,h5,h6⟩⟩:=ho.owns _ (.head _)
 ·exfalso;subst h2;simp at h1;exact hne h1
 have hn:n=l.length:=by simpa using h1.symm
 subst hn
 have hH:Holds (Value.int .i64) w g 0 l.toArray:=fun j hj=>by
  have hj':j < l.length:=by simpa using hj
  constructor
  ·unfold World.cell?
   rw[h5]
   simp[hj']
   rw[List.getElem?_append_left (by simpa using hj')]
   simp[hj']
  ·unfold World.frozen?;rw[h5];simp
 refine(h fr w g cap rfl h3 ho hH).mono ?_
 rintro e w' ⟨rfl,q,rfl⟩
 have hw':(putRow (Value.int .i64) (Sort.ahead w q) g 0 (new++List.replicate (l.length - new.length) 0).toArray).heap[g]?=some (.cells (ints new++(ints (List.replicate (l.length - new.length) 0)++sp)).toArray 3 (0,0)):=by
  unfold putRow mapBlock
  show(w.heap.modify g _)[g]?=_
  rw[Array.getElem?_modify,if_pos rfl,h5]
  simp only[Option.map_some,onCells]
  congr 2
  apply Array.ext_getElem?
  intro k
  unfold putCells
  rw[Array.getElem?_mapIdx]
  simp only[List.getElem?_toArray]
  rw[←List.append_assoc]
  by_cases hk:k < l.length
  ·rw[List.getElem?_append_left (by simpa using hk),List.getElem?_append_left (by simp;omega)]
   have e1:(ints l)[k]?=some (.int .i64 l[k]):=by simp[hk]
   rw[e1,Option.map_some,if_pos (by simp;omega)]
   rw[show ints new++ints (List.replicate (l.length - new.length) 0)=ints (new++List.replicate (l.length - new.length) 0) by simp[ints]]
   have hk2:k < (new++List.replicate (l.length - new.length) 0).length:=by simp;omega
   have e3:(ints (new++List.replicate (l.length - new.length) 0))[k]?=some (.int .i64 (new++List.replicate (l.length - new.length) 0)[k]):=by
    unfold ints;rw[List.getElem?_map,List.getElem?_eq_getElem hk2];rfl
   rw[e3,getElem!_pos _ _ (by simpa using hk2)]
   rfl
  ·rw[List.getElem?_append_right (by simp;omega),List.getElem?_append_right (by simp;omega)]
   have e2:(ints l).length=(ints new++ints (List.replicate (l.length - new.length) 0)).length:=by simp;omega
   rw[e2]
   cases sp[k - (ints new++ints (List.replicate (l.length - new.length) 0)).length]? with
   |none=>rfl
   |some x=>rw[Option.map_some,if_neg (by simp;omega)]
 have hother:∀ k,k≠g→(putRow (Value.int .i64) (Sort.ahead w q) g 0 (new++List.replicate (l.length - new.length) 0).toArray).heap[k]?=w.heap[k]?:=fun k hk=>by
  unfold putRow mapBlock
  show(w.heap.modify g _)[k]?=_
  rw[Array.getElem?_modify,if_neg (fun h=>hk h.symm)]
 have hids:∀ k∈ids [Ow.slice (.slice (some ⟨g,0,none⟩) new.length cap) 3 1 (ints new)],k∈ids [Ow.slice (.slice (some ⟨g,0,none⟩) l.length cap) 3 1 (ints l)]∨w.heap.size≤k:=fun k hk=>.inl (by simpa [ids,Ow.ids] using hk)
 have hkeep:∀ k,k < w.heap.size→k∉ids [Ow.slice (.slice (some ⟨g,0,none⟩) l.length cap) 3 1 (ints l)]→(putRow (Value.int .i64) (Sort.ahead w q) g 0 (new++List.replicate (l.length - new.length) 0).toArray).heap[k]?=w.heap[k]?:=fun k _ hk=>hother k (by simpa [ids,Ow.ids] using hk)
 refine⟨_,[Ow.slice (.slice (some ⟨g,0,none⟩) new.length cap) 3 1 (ints new)],[],rfl,⟨rfl,rfl⟩,⟨rfl,rfl,rfl⟩,?_,?_⟩
 ·have:=imm_step (ob:=[Ow.slice (.slice (some ⟨g,0,none⟩) l.length cap) 3 1 (ints l)]) (bx:=[]) (nb:=[Ow.slice (.slice (some ⟨g,0,none⟩) new.length cap) 3 1 (ints new)]) ho hkeep hids
  simpa using this
 ·have:=OK.step (ob:=[Ow.slice (.slice (some ⟨g,0,none⟩) l.length cap) 3 1 (ints l)]) (bx:=[]) (nb:=[Ow.slice (.slice (some ⟨g,0,none⟩) new.length cap) 3 1 (ints new)]) ho hkeep hids (by simp[ids,Ow.ids]) (fun b hb=>by
   rw[List.mem_singleton] at hb;subst hb
   refine⟨new.length,by simp,.inr ⟨g,cap,ints (List.replicate (l.length - new.length) 0)++sp,rfl,by omega,h4,hw',?_⟩⟩
   simp only[List.length_append,List.length_map,List.length_replicate] at h6 ⊢
   omega)
  exact this.less (fun f hf=>by cases hf)
theorem compact_le (l:List Int):(Lib.compact l).length≤l.length:=by
 unfold Lib.compact Lib.compactUpTo
 rw[List.length_map]
 exact Nat.le_trans (List.length_filter_le _ _) (by simp)
theorem compact_c (v:Value) (l:List Int) (hl:l.length≤1000000) (hne:l≠[]):FnB Tryz.prog 84 [v] [Ow.slice v 3 1 (ints l)] [] (IsO 3 1 (ints (Lib.compact l))):=
 row_fn ⟨Tryz.f84,Tryz.func84,by kernel_rfl,by kernel_rfl⟩ hne (compact_le l) fun fr w g cap hv hcap _ hH=>by
  subst hv
  exact Any.slices_Compact_int layCompact g 0 cap l w hH (by omega) hcap
theorem delete_row {v:Value} {l:List Int} {F:List Fct} (hl:l.length≤1000000) (hne:l≠[]) (p:Int→Bool) (g:Nat) (lb:Array Value) (eg:∀ args w,(callFunc g args).run Tryz.prog w=.ok (.enter g args) w)
  (hp:∀ fr w b cap,v=.slice (some ⟨b,0,none⟩) l.length cap→OK fr [Ow.slice v 3 1 (ints l)] F w→PredAt Tryz.prog g lb (Value.int .i64) p w∧PredOver Tryz.prog g lb (Value.int .i64) p b 0 l.length w) :
  FnB Tryz.prog 80 [v,.func (.func g) #[] lb] [Ow.slice v 3 1 (ints l)] F (IsO 3 1 (ints (l.filter fun x=>!p x))):=
 row_fn ⟨Tryz.f80,Tryz.func80,by kernel_rfl,by kernel_rfl⟩ hne (List.length_filter_le _ _) fun fr w b cap hv hcap ho hH=>by
  obtain⟨h1,h2⟩:=hp fr w b cap hv ho
  subst hv
  have:=AnyE.slices_DeleteFunc layDelete (Value.int .i64) (fun _=>rfl) p g lb eg 0 (fun w=>Tryz.zeroValue3 w) b 0 cap l.toArray w h1 h2 hH (by simp;omega) (by simpa using hcap)
  exact this
end Go.Proofs.YtaongbhamadlkaaGreat
namespace Go.Proofs.YtaongbhamadlkaaGreat
open Go.RowKit
namespace W
variable {P:Program} {e:Env} {bx bx' b0:List Ow} {F F0 F':List Fct} {ty:TypeId} {v u:Value}
theorem run_eqbool {t:TypeId} {a b:Bool} (d:Nat) (w:World) (h:P.underlying t=some .bool):(Op.equalIn (d+1) t (.bool a) (.bool b)).run P w=.ok (a == b) w:=by
 simp[Op.equalIn,run_underlying h]
def BoolT (P:Program) (t:TypeId):Prop:=P.underlying t=some .bool
section
variable {t t':TypeId} {x y:Operand} {a b:Bool}
theorem YO.beq (ht:BoolT P t) (hx:ev e x=some (.bool a)) (hy:ev e y=some (.bool b)):YO P (.binOp .eql t x y t') ty e bx F (.bool (a == b)):=.of fun n fr ac w o hop hk _=>by
 have hx':=hk.eval hx
 have hy':=hk.eval hy
 have he:(eqGuard .eql t x y (.bool a) (.bool b)).run P w=.ok () w:=by unfold eqGuard;simp[Sem.run_pure]
 have h3:(Op.equal t (.bool a) (.bool b)).run P w=.ok (a == b) w:=run_eqbool 9999 w ht
 simp[execOp,hop,hx',hy',he,binOp,h3]
theorem YO.bne (ht:BoolT P t) (hx:ev e x=some (.bool a)) (hy:ev e y=some (.bool b)):YO P (.binOp .neq t x y t') ty e bx F (.bool (!(a == b))):=.of fun n fr ac w o hop hk _=>by
 have hx':=hk.eval hx
 have hy':=hk.eval hy
 have he:(eqGuard .neq t x y (.bool a) (.bool b)).run P w=.ok () w:=by unfold eqGuard;simp[Sem.run_pure]
 have h3:(Op.equal t (.bool a) (.bool b)).run P w=.ok (a == b) w:=run_eqbool 9999 w ht
 simp[execOp,hop,hx',hy',he,binOp,h3]
theorem YO.beq_t (ht:BoolT P t) (hx:ev e x=some (.bool a)) (hy:ev e y=some (.bool b)) (h:a=b):YO P (.binOp .eql t x y t') ty e bx F (.bool true):=by subst h;simpa using YO.beq (P:=P) (ty:=ty) (bx:=bx) (F:=F) (t':=t') ht hx hy
theorem YO.beq_f (ht:BoolT P t) (hx:ev e x=some (.bool a)) (hy:ev e y=some (.bool b)) (h:a≠b):YO P (.binOp .eql t x y t') ty e bx F (.bool false):=by
 have:=YO.beq (P:=P) (ty:=ty) (bx:=bx) (F:=F) (t':=t') ht hx hy
 rwa [show(a == b)=false from by simpa using h] at this
theorem YO.bne_t (ht:BoolT P t) (hx:ev e x=some (.bool a)) (hy:ev e y=some (.bool b)) (h:a≠b):YO P (.binOp .neq t x y t') ty e bx F (.bool true):=by
 have:=YO.bne (P:=P) (ty:=ty) (bx:=bx) (F:=F) (t':=t') ht hx hy
 rwa [show(a == b)=false from by simpa using h] at this
theorem YO.bne_f (ht:BoolT P t) (hx:ev e x=some (.bool a)) (hy:ev e y=some (.bool b)) (h:a=b):YO P (.binOp .neq t x y t') ty e bx F (.bool false):=by subst h;simpa using YO.bne (P:=P) (ty:=ty) (bx:=bx) (F:=F) (t':=t') ht hx hy
end
section
variable {t t':TypeId} {x y:Operand} {i j:Int}
theorem YO.uquo (hx:ev e x=some (.int .u64 i)) (hy:ev e y=some (.int .u64 j)) (h1:0≤i) (h2:0 < j) (h3:i≤18446744073709551615):YO P (.binOp .quo t x y t') ty e bx F (.int .u64 (i / j)):=
 YO.ii hx hy fun w=>by
  have hj:¬j=0:=by omega
  have h4:i.tdiv j=i / j:=Int.tdiv_eq_ediv_of_nonneg h1
  have h5:i / j≤i:=Int.ediv_le_self _ h1
  have h6:0≤i / j:=Int.ediv_nonneg h1 (by omega)
  simp[binOp,Op.intDiv,hj,h4,wrap_u64 h6 (by omega)]
theorem YO.urem (hx:ev e x=some (.int .u64 i)) (hy:ev e y=some (.int .u64 j)) (h1:0≤i) (h2:0 < j):YO P (.binOp .rem t x y t') ty e bx F (.int .u64 (i % j)):=
 YO.ii hx hy fun w=>by
  have hj:¬j=0:=by omega
  have h4:i.tmod j=i % j:=Int.tmod_eq_emod_of_nonneg h1
  simp[binOp,Op.intDiv,hj,h4]
theorem YO.umul (hx:ev e x=some (.int .u64 i)) (hy:ev e y=some (.int .u64 j)) (h1:0≤i*j) (h2:i*j≤18446744073709551615):YO P (.binOp .mul t x y t') ty e bx F (.int .u64 (i*j)):=
 YO.ii hx hy fun w=>by rw[run_mul,wrap_u64 h1 h2]
theorem wrap_u64n {n:Int} (h:-18446744073709551616≤n) (h2:n < 0):IntKind.u64.wrap n=n+18446744073709551616:=by
 simp only[IntKind.wrap,IntKind.bits,IntKind.signed,Bool.false_and]
 simp;omega
theorem YO.convN {s d:TypeId} {ks:IntKind} (hd:IntT P d .u64) (hs:IntT P s ks) (hx:ev e x=some (.int .i64 i)) (h1:-9223372036854775808≤i) (h2:i < 0):YO P (.convert s d x) ty e bx F (.int .u64 (i+18446744073709551616)):=by
 have:=YO.conv (P:=P) (bx:=bx) (F:=F) (ty:=ty) hd hs hx
 rwa [wrap_u64n (by omega) h2] at this
theorem YO.uneg (hx:ev e x=some (.int .u64 i)) (h1:0 < i) (h2:i < 18446744073709551616):YO P (.unOp .neg t x) ty e bx F (.int .u64 (18446744073709551616 - i)):=
 .of fun n fr a w o hop hk _=>by
  have:IntKind.u64.wrap (-i)=18446744073709551616 - i:=by rw[wrap_u64n (by omega) (by omega)];omega
  simp[execOp,hop,hk.eval hx,Op.unary,Op.intArith,this]
end
section
theorem YO.fieldN {P:Program} {e:Env} {bx:List Ow} {F:List Fct} {ty:TypeId} {s i off:Nat} {x:Operand} {b q r:Nat} (hf:FieldAt P s i off) (hx:ev e x=some (.pointer (some ⟨b,q,none⟩))) (hr:q+off=r):YO P (.fieldAddr s x i) ty e bx F (.pointer (some ⟨b,r,none⟩)):=by subst hr;exact YO.fieldAddr hf hx
end
def resl3:Value→Nat→Nat→Value
 |.slice a _ _,n,m=>.slice a n m
 |v,_,_=>v
theorem YO.slice3 {t el sz m:Nat} {x y z:Operand} {n:Nat} (ht:SliceT P t el sz) (hx:ev e x=some v) (hv:KnS bx F v m) (hy:ev e y=some (.int .i64 (n:Int))) (hz:ev e z=some (.int .i64 (n:Int))) (h2:n≤m) (h0:0 < n) :
  YO P (.slice t x none (some y) (some z)) ty e bx F (resl3 v n n):=
 .of fun k fr ac w o hop hk ho=>by
  obtain⟨hu,i,hi',hsz⟩:=ht
  obtain⟨a',cap,rfl,h3,h4,h5⟩:=(hv fr w ho).is
  have hcz:P.cellsOf el=sz:=by simp[Program.cellsOf,hi',hsz]
  have hbc:n≤cap:=by omega
  have hx':=hk.eval hx
  have hy':=hk.eval hy
  have hz':=hk.eval hz
  have hs:∀ w,(sizeOf el).run P w=.ok sz w:=fun w=>by simpa [hsz,hcz] using run_sizeOf (P:=P) w hi'
  have hn0:¬n=0:=by omega
  simp[execOp,hop,hx',hy',hz',Instr.sliceAt,run_underlying hu,Instr.slice,Instr.sliceBounds,Instr.sliceBound,asIntOf,hs,resl3,hbc,hn0,Addr.add_lit]
  rcases h5 with ⟨rfl,rfl,rfl⟩|⟨b,off,rfl⟩
  ·omega
  ·simp[Addr.add_lit]
theorem Has.res3 {l:List Int} {n:Nat} (h:Has F (sI v l)) (h2:n≤l.length):Has F (sI (resl3 v n n) (l.take n)):=fun ph hf=>by
 obtain⟨a,cap,rfl,h3,h4,h5⟩:=h ph hf
 have hl:(l.take n).length=n:=by simp;omega
 show(slC _ (l.take n).length 1 _).p ph
 rw[hl]
 refine⟨_,_,rfl,Nat.le_refl _,by omega,?_⟩
 rcases h5 with ⟨rfl,h6,rfl⟩|⟨b,off,rfl,c,t,fz,h6,h7⟩
 ·left
  refine⟨rfl,by omega,by omega⟩
 ·right
  refine⟨b,off,rfl,c,t,fz,h6,fun j hj=>?_⟩
  rw[h7 j (by omega)]
  simp only[List.getD_eq_getElem?_getD,List.getElem?_take]
  rw[if_pos (by omega)]
theorem YO.ldW {t tg g m:Nat} {x:Operand} {cs:List Value} (hs:Row P t m) (hx:ev e x=some (.pointer (some ⟨g,0,none⟩))) (hb:Ow.cells g tg cs∈bx) (hm:cs.length=m):YO P (.load t x) ty e bx F (.agg cs.toArray):=YO.ldRB hs hx hb hm (by subst hm;simp)
theorem YO.ld42 {t tg g:Nat} {x:Operand} {a b c d:Value} (hs:Row P t 2) (hx:ev e x=some (.pointer (some ⟨g,2,none⟩))) (hb:Ow.cells g tg [a,b,c,d]∈bx):YO P (.load t x) ty e bx F (.agg #[c,d]):=YO.ldRB hs hx hb (us:=[c,d]) rfl rfl
theorem YO.ld40 {t tg g:Nat} {x:Operand} {a b c d:Value} (hs:Row P t 2) (hx:ev e x=some (.pointer (some ⟨g,0,none⟩))) (hb:Ow.cells g tg [a,b,c,d]∈bx):YO P (.load t x) ty e bx F (.agg #[a,b]):=YO.ldRB hs hx hb (us:=[a,b]) rfl rfl
theorem YO.ld62 {t tg g:Nat} {x:Operand} {f k a b c d:Value} (hs:Row P t 4) (hx:ev e x=some (.pointer (some ⟨g,2,none⟩))) (hb:Ow.cells g tg [f,k,a,b,c,d]∈bx):YO P (.load t x) ty e bx F (.agg #[a,b,c,d]):=YO.ldRB hs hx hb (us:=[a,b,c,d]) rfl rfl
theorem YO.ld51 {t tg g:Nat} {x:Operand} {f a b c d:Value} (hs:Row P t 4) (hx:ev e x=some (.pointer (some ⟨g,1,none⟩))) (hb:Ow.cells g tg [f,a,b,c,d]∈bx):YO P (.load t x) ty e bx F (.agg #[a,b,c,d]):=YO.ldRB hs hx hb (us:=[a,b,c,d]) rfl rfl
theorem YO.ldRO {t el sz m:Nat} {x:Operand} {j:Nat} {cs us:List Value} (hs:Row P t m) (hx:ev e x=some (.pointer (some (eaddr v j)))) (hb:Ow.slice v el sz cs∈bx) (hm:us.length=m) (hu:∀ i,i < m→cs[j+i]?=us[i]?):YO P (.load t x) ty e bx F (.agg us.toArray):=
 YO.ldRow (by rw[hm];exact hs) hx (eaddr_spot _ _) fun fr w ho i u hv=>by
  have hi:i < m:=by rw[←hm];exact(List.getElem?_eq_some_iff.1 hv).1
  have:=own_slice_cell (ho.owns _ hb) (show cs[j+i]?=some u by rw[hu i hi];exact hv)
  rw[←eaddr_add] at this;exact this
theorem setMany_len {cs vs:List Value} {q:Nat} (h:q+vs.length≤cs.length):(setMany cs q vs).length=cs.length:=by simp[setMany];omega
theorem LO.storeOR {t el sz:TypeId} {x y:Operand} {K:RPost} {j:Nat} {cs cs' vs:List Value} (hx:ev e x=some (.pointer (some (eaddr v j)))) (hy:ev e y=some (.agg vs.toArray))
  (hsz:Row P t vs.length) (h1:OneL bx F vs) (hs:Sel bx (.slice v el sz cs) (.slice v el sz cs') bx') (hj:j+vs.length≤cs.length) (h0:0 < vs.length) (hcs:setMany cs j vs=cs')
  (h:K undef bx' F):LO P (.store t x y) ty e bx F K:=LO.byOneL h1 fun h1=>.of fun n fr a w o hop hk ho=>by
 subst hcs
 obtain⟨m,h2,⟨rfl,h3⟩|⟨g,cap,sp,rfl,h3,h4,h5,h6⟩⟩:=ho.owns _ hs.mem
 ·subst h3;simp at h2;subst h2;simp only[List.length_nil] at hj;omega
 ·obtain⟨i,hi,hisz⟩:=Option.map_eq_some_iff.1 hsz.2
  have hst:=run_storeCells_at P g j el vs 0 (cs++sp).toArray w h5 (by simp;omega) h1
  have hc:P.cellsOf t=vs.length:=by simp[Program.cellsOf,hi,hisz]
  have heq:(List.take j (cs++sp)++vs++List.drop (j+vs.length) (cs++sp))=setMany cs j vs++sp:=by
   rw[List.take_append_of_le_length (by omega),List.drop_append_of_le_length (by omega)];simp[setMany]
  have hlen:=setMany_len hj
  refine⟨undef,w.setRow g (setMany cs j vs++sp).toArray,bx',F,.inr ⟨?_,rfl⟩,⟨rfl,rfl,rfl⟩,ho.sel hs ?_ ?_ ?_ ?_,h⟩
  ·rw[←heq]
   simp only[Nat.add_zero] at hst
   simp[execOp,hop,hk.eval hx,hk.eval hy,Instr.storeAt,Instr.sureAddr,storeVar,run_sizeOf w hi,hisz,Value.cells,hc,eaddr,hst]
  ·intro k _ hk2;exact setRow_other w g k _ (by simpa [Ow.ids] using hk2)
  ·intro k hk1;exact .inl hk1
  ·simp[Ow.ids]
  ·exact⟨m,by rw[hlen];exact h2,.inr ⟨g,cap,sp,rfl,h3,h4,setRow_heap w g _ _ el (0,0) h5,by simp[hlen];simpa using h6⟩⟩
theorem ints_setW {l:List Int} {j:Nat} {n:Int}:(ints l).set j (.int .i64 n)=ints (l.set j n):=by simp[ints,List.map_set]
theorem LO.storeOI {t el:TypeId} {x y:Operand} {K:RPost} {j:Nat} {n:Int} {l:List Int} (hx:ev e x=some (.pointer (some (eaddr v j)))) (hy:ev e y=some (.int .i64 n))
  (hz:(P.info? t).map (·.size)=some 1) (hs:Sel bx (.slice v el 1 (ints l)) (.slice v el 1 (ints (l.set j n))) bx') (hj:j < l.length) (h:K undef bx' F):LO P (.store t x y) ty e bx F K:=
 LO.storeO1 hx hy hz (One.lit rfl rfl) hs (by simpa using hj) ints_setW h
theorem LO.copyI {t el:TypeId} {x y:Operand} {K:RPost} {l a:List Int} (ht:SliceT P t el 1) (hx:ev e x=some v) (hy:ev e y=some u) (hs:Sel bx (.slice v el 1 (ints l)) (.slice v el 1 (ints a)) bx') (hu:Has F (sI u a)) (hl:l.length=a.length) (h0:0 < a.length)
  (h:K (.int .i64 (a.length:Int)) bx' F):LO P (.call {callee:=.builtin .copy,args:=#[x,y],argTypes:=#[t,t]}) ty e bx F K:=.of fun k fr ac w o hop hk ho=>by
 obtain⟨m,h2,⟨rfl,h3⟩|⟨g,cap,sp,rfl,h3,h4,h5,h6⟩⟩:=ho.owns _ hs.mem
 ·subst h3;simp at h2;subst h2;simp at hl;omega
 ·have hml:m=a.length:=by simp at h2;omega
  have hfu:=ho.has hu
  obtain⟨ad,c,rfl,h7,h8,⟨rfl,h9,_⟩|⟨b,off,rfl,h9⟩⟩:=id hfu
  ·omega
  ·have hsz:(P.info? el).map (·.size)=some 1:=by
    obtain⟨_,i,hi,hi2⟩:=ht
    simp[hi,hi2]
   have hst:=run_copy_row (P:=P) w t t o.type el g 0 m cap ⟨b,off,none⟩ a.length c (ints l++sp).toArray el (ints a) ht.1 hsz h5 (by simp[hml]) (fun j v hj=>by
    have hja:j < a.length:=by simpa using (List.getElem?_eq_some_iff.1 hj).1
    have:=slC_cell hfu (j:=j) (by omega)
    rw[Addr.add_lit]
    simp only[eaddr] at this
    rw[this]
    simp[List.getElem?_eq_getElem hja] at hj
    simp[List.getD_eq_getElem?_getD,hja,hj]) (by simp;omega) (ints_one a)
   have heq:((ints l++sp).toArray.toList.take 0++ints a++(ints l++sp).toArray.toList.drop (0+(ints a).length))=ints a++sp:=by
    simp[←hl]
   rw[heq] at hst
   refine⟨.int .i64 (a.length:Int),w.setRow g (ints a++sp).toArray,bx',F,.inl ?_,⟨rfl,rfl,rfl⟩,ho.sel hs ?_ ?_ ?_ ?_,h⟩
   ·have hx':=hk.eval hx
    have hy':=hk.eval hy
    simp[execOp,hop,resolve,hx',hy',invoke,builtin,hst,goInt]
   ·intro k _ hk2;exact setRow_other w g k _ (by simpa [Ow.ids] using hk2)
   ·intro k hk1;exact .inl hk1
   ·simp[Ow.ids]
   ·exact⟨m,by simp[hml],.inr ⟨g,cap,sp,rfl,h3,h4,setRow_heap w g _ _ el (0,0) h5,by simp;simpa [hl] using h6⟩⟩
theorem ResE.cV {fn:Func} {t:Tmp} {ty:TypeId} {g tg m:Nat} {cs:List Value} (h:fn.results=#[.cell t ty]) (hl:look e t=some (.pointer (some ⟨g,0,none⟩))) (hb:Ow.cells g tg cs∈bx) (hr:Row P ty m) (hm:cs.length=m):ResE P fn e bx F (.agg cs.toArray):=fun n fr a w hk ho=>by
 obtain⟨⟨d,hu,hd⟩,hi⟩:=hr
 have h1:a.tmps[t]?.getD undef=.pointer (some ⟨g,0,none⟩):=by rw[hk.at' _ _ hl];rfl
 have h2:=run_loadVar_mid (P:=P) w g 0 ty cs d (fun i v hv=>by rw[Nat.zero_add,own_cell (ho.owns _ hb)];exact hv) hu hd (by rw[hi];simp[hm])
 simp only[results,h]
 simp[h1,asAddr,h2]
section
variable {n:Nat} {L rest:List Oper} {Q:Env→List Ow→List Fct→Prop} {d i:Nat} {pos:String} {af:Array Edge} {g:Option (Nat×Bool)} {hs:List Nat} {r:Plan} {f:FuncId} {x:Operand} {args:List Operand} {ats:Array TypeId} {vs first cap:List Value} {R:RPost}
theorem WD.facts (hF:∀ fr w,OK fr bx F w→OK fr bx F' w) (h:WD P n L hs b0 F0 r e bx F' Q):WD P n L hs b0 F0 r e bx F Q:=fun fr w0 listed a w fuel Q' h1 h2 h3 h4 h5 h6 hk hr ho hf=>h fr w0 listed a w fuel Q' h1 h2 h3 h4 h5 h6 hk hr (hF fr w ho) hf
end
end W
end Go.Proofs.YtaongbhamadlkaaGreat
namespace Go.Proofs.YtaongbhamadlkaaGreat
abbrev BB:Int:=1000000000
def val:List Int→Int
 |[]=>0
 |d::r=>d+BB*val r
abbrev Dgt (x:Int):Prop:=0≤x∧x < BB
def Dg (l:List Int):Prop:=∀ j,j < l.length→Dgt (l.getD j 0)
def digs (n:Nat):List Int:=if h:n=0 then[] else((n % 1000000000:Nat):Int)::digs (n / 1000000000)
decreasing_by omega
def Nrm (l:List Int):Prop:=0 < l.length→l.getD (l.length - 1) 0≠0
theorem digs_0:digs 0=[]:=by rw[digs];simp
theorem digs_pos {n:Nat} (h:n≠0):digs n=((n % 1000000000:Nat):Int)::digs (n / 1000000000):=by rw[digs];simp[h]
theorem Dg.nil:Dg []:=fun j hj=>by simp at hj
theorem Dg.cons {x:Int} {l:List Int} (h1:Dgt x) (h2:Dg l):Dg (x::l):=fun j hj=>by
 match j with
 |0=>exact h1
 |j+1=>rw[List.getD_cons_succ];exact h2 j (by simpa using hj)
theorem Dg.head {x:Int} {l:List Int} (h:Dg (x::l)):Dgt x:=h 0 (by simp)
theorem Dg.tail {x:Int} {l:List Int} (h:Dg (x::l)):Dg l:=fun j hj=>by
 have:=h (j+1) (by simpa using hj)
 rwa [List.getD_cons_succ] at this
theorem getD_app1 {a b:List Int} {j:Nat} (h:j < a.length):(a++b).getD j 0=a.getD j 0:=by
 simp[List.getD_eq_getElem?_getD,List.getElem?_append_left h]
theorem getD_app2 {a b:List Int} {j:Nat} (h:a.length≤j):(a++b).getD j 0=b.getD (j - a.length) 0:=by
 simp[List.getD_eq_getElem?_getD,List.getElem?_append_right h]
theorem Dg.app {a b:List Int} (h1:Dg a) (h2:Dg b):Dg (a++b):=fun j hj=>by
 by_cases h:j < a.length
 ·rw[getD_app1 h];exact h1 j h
 ·rw[getD_app2 (by omega)];exact h2 _ (by simp at hj;omega)
theorem getD_take {l:List Int} {j n:Nat} (h:j < n):(l.take n).getD j 0=l.getD j 0:=by
 simp[List.getD_eq_getElem?_getD,List.getElem?_take,h]
theorem Dg.take {l:List Int} (h:Dg l) (n:Nat):Dg (l.take n):=fun j hj=>by
 rw[List.length_take] at hj
 rw[getD_take (by omega)];exact h j (by omega)
theorem Dg.any {l:List Int} (h:Dg l) (j:Nat):Dgt (l.getD j 0):=by
 by_cases hj:j < l.length
 ·exact h j hj
 ·rw[List.getD_eq_getElem?_getD,List.getElem?_eq_none (by omega)];exact⟨by simp,by show(0:Int) < 1000000000;decide⟩
theorem digs_Dg:∀ n,Dg (digs n):=fun n=>by
 induction n using Nat.strongRecOn with
 |_ n ih=>
  by_cases h:n=0
  ·subst h;rw[digs_0];exact .nil
  ·rw[digs_pos h];exact .cons ⟨by omega,by unfold BB;omega⟩ (ih _ (by omega))
theorem val_digs:∀ n:Nat,val (digs n)=n:=fun n=>by
 induction n using Nat.strongRecOn with
 |_ n ih=>
  by_cases h:n=0
  ·subst h;rw[digs_0];rfl
  ·rw[digs_pos h,val,ih _ (by omega)];unfold BB;omega
theorem digs_Nrm:∀ n,Nrm (digs n):=fun n=>by
 induction n using Nat.strongRecOn with
 |_ n ih=>
  by_cases h:n=0
  ·subst h;rw[digs_0];intro h;simp at h
  ·rw[digs_pos h]
   intro _
   by_cases h2:n / 1000000000=0
   ·rw[h2,digs_0];show((n % 1000000000:Nat):Int)≠0;omega
   ·have:=ih (n / 1000000000) (by omega)
    have hl:0 < (digs (n / 1000000000)).length:=by rw[digs_pos h2];simp
    rw[List.length_cons,Nat.add_sub_cancel]
    rw[show(digs (n / 1000000000)).length=((digs (n / 1000000000)).length - 1)+1 by omega,List.getD_cons_succ]
    exact this hl
theorem val_nonneg:∀ {l:List Int},Dg l→0≤val l
 |[],_=>Int.le_refl _
 |x::l,h=>by have:=val_nonneg h.tail;have:=h.head;rw[val];unfold BB at *;omega
theorem val_inj:∀ {a b:List Int},Dg a→Dg b→Nrm a→Nrm b→val a=val b→a=b
 |[],[],_,_,_,_,_=>rfl
 |[],y::b,_,h2,_,n2,hv=>by
  exfalso
  have h0:=val_nonneg h2.tail
  have h1:=h2.head
  rw[val,val] at hv
  by_cases hb:b=[]
  ·subst hb;have:=n2 (by simp);simp at this;rw[val] at hv;unfold BB at *;omega
  ·have hv0:val b=0:=by unfold BB at *;omega
   have hbn:b=[]:=by
    have:=val_inj (a:=[]) .nil h2.tail (fun h=>by simp at h) (fun hl=>by
     have:=n2 (by simp)
     rw[List.length_cons,Nat.add_sub_cancel,show b.length=(b.length - 1)+1 by omega,List.getD_cons_succ] at this
     exact this) (by rw[hv0];rfl)
    exact this.symm
   exact hb hbn
 |x::a,[],h1,_,n1,_,hv=>by
  exfalso
  have h0:=val_nonneg h1.tail
  have h2:=h1.head
  rw[val,val] at hv
  by_cases hb:a=[]
  ·subst hb;have:=n1 (by simp);simp at this;rw[val] at hv;unfold BB at *;omega
  ·have hv0:val a=0:=by unfold BB at *;omega
   have hbn:a=[]:=val_inj (b:=[]) h1.tail .nil (fun hl=>by
     have:=n1 (by simp)
     rw[List.length_cons,Nat.add_sub_cancel,show a.length=(a.length - 1)+1 by omega,List.getD_cons_succ] at this
     exact this) (fun h=>by simp at h) (by rw[hv0];rfl)
   exact hb hbn
 |x::a,y::b,h1,h2,n1,n2,hv=>by
  have hx:=h1.head
  have hy:=h2.head
  rw[val,val] at hv
  have hx':0≤x∧x < 1000000000:=hx
  have hy':0≤y∧y < 1000000000:=hy
  have hv':x+1000000000*val a=y+1000000000*val b:=hv
  have hxy:x=y∧val a=val b:=by omega
  have nt:∀ {z:Int} {l:List Int},Nrm (z::l)→Nrm l:=fun {z l} hn hl=>by
   have:=hn (by simp)
   rw[List.length_cons,Nat.add_sub_cancel,show l.length=(l.length - 1)+1 by omega,List.getD_cons_succ] at this
   exact this
  rw[hxy.1,val_inj h1.tail h2.tail (nt n1) (nt n2) hxy.2]
theorem digs_val {l:List Int} (h:Dg l) (hn:Nrm l):l=digs (val l).toNat:=by
 refine val_inj h (digs_Dg _) hn (digs_Nrm _) ?_
 rw[val_digs,Int.toNat_of_nonneg (val_nonneg h)]
theorem val_app:∀ {a b:List Int},val (a++b)=val a+BB ^ a.length*val b
 |[],b=>by simp[val]
 |x::a,b=>by
  rw[List.cons_append,val,val,val_app,List.length_cons,Int.pow_succ,Int.mul_add,←Int.mul_assoc,Int.mul_comm BB (BB ^ a.length)];omega
theorem BB_pos (n:Nat):(0:Int) < BB ^ n:=Int.pow_pos (by decide)
theorem val_lt:∀ {l:List Int},Dg l→val l < BB ^ l.length
 |[],_=>by simp[val]
 |x::l,h=>by
  have h1:=val_lt h.tail
  have h2:0≤x∧x < 1000000000:=h.head
  rw[val,List.length_cons,Int.pow_succ]
  have:BB ^ l.length*BB=BB*BB ^ l.length:=Int.mul_comm _ _
  rw[this]
  generalize BB ^ l.length=p at *
  show x+1000000000*val l < 1000000000*p
  omega
theorem val_rep:∀ n,val (List.replicate n 0)=0
 |0=>rfl
 |n+1=>by rw[List.replicate_succ,val,val_rep n];rfl
theorem Dg.rep (n:Nat):Dg (List.replicate n 0):=fun j hj=>by
 rw[List.length_replicate] at hj
 simp only[List.getD_eq_getElem?_getD,List.getElem?_replicate,hj,if_true,Option.getD_some];exact⟨by decide,by decide⟩
theorem take_succ' {l:List Int} {k:Nat} (h:k < l.length):l.take (k+1)=l.take k++[l.getD k 0]:=by
 rw[List.take_succ_eq_append_getElem h];simp[List.getD_eq_getElem?_getD,h]
theorem val_take_succ {l:List Int} {k:Nat} (h:k < l.length):val (l.take (k+1))=val (l.take k)+BB ^ k*l.getD k 0:=by
 rw[take_succ' h,val_app,List.length_take,Nat.min_eq_left (by omega)]
 simp[val]
theorem val_take_over {l:List Int} {k:Nat} (h:l.length≤k):val (l.take k)=val l:=by rw[List.take_of_length_le h]
theorem take_set_succ {l:List Int} {k:Nat} {x:Int} (h:k < l.length):(l.set k x).take (k+1)=l.take k++[x]:=by
 rw[take_succ' (by simpa using h)]
 congr 1
 ·rw[List.take_set_of_le (Nat.le_refl _)]
 ·simp[List.getD_eq_getElem?_getD,h]
theorem getD_seti {l:List Int} {i j:Nat} {x:Int}:(l.set i x).getD j 0=if i=j∧i < l.length then x else l.getD j 0:=by
 simp only[List.getD_eq_getElem?_getD,List.getElem?_set]
 by_cases h:i=j
 ·subst h
  by_cases h2:i < l.length
  ·simp[h2]
  ·simp[h2]
 ·simp[h]
theorem Dg.set {l:List Int} (h:Dg l) {k:Nat} {x:Int} (hx:Dgt x):Dg (l.set k x):=fun j hj=>by
 rw[getD_seti];split
 ·exact hx
 ·exact h j (by simpa using hj)
theorem val_set:∀ {l:List Int} {k:Nat} {x:Int},k < l.length→val (l.set k x)=val l+BB ^ k*(x - l.getD k 0)
 |[],k,x,h=>by simp at h
 |y::l,0,x,_=>by simp[val];omega
 |y::l,k+1,x,h=>by
  have ih:=val_set (l:=l) (k:=k) (x:=x) (by simpa using h)
  rw[List.set_cons_succ,val,val,ih,List.getD_cons_succ,Int.pow_succ,Int.mul_add,Int.mul_comm (BB ^ k) BB,Int.mul_assoc];omega
theorem digs_len0 {n:Nat}:(digs n).length=0↔n=0:=by
 constructor
 ·intro h
  by_cases h2:n=0
  ·exact h2
  ·rw[digs_pos h2] at h;simp at h
 ·rintro rfl;rw[digs_0];rfl
theorem digs_len_le:∀ {k n:Nat},n < 1000000000 ^ k→(digs n).length≤k
 |0,n,h=>by simp at h;subst h;rw[digs_0];simp
 |k+1,n,h=>by
  by_cases h2:n=0
  ·subst h2;rw[digs_0];simp
  ·rw[digs_pos h2,List.length_cons]
   have:=digs_len_le (k:=k) (n:=n / 1000000000) (by rw[Nat.pow_succ] at h;omega)
   omega
theorem digs_lt {n:Nat}:n < 1000000000 ^ (digs n).length:=by
 have h:=val_lt (digs_Dg n)
 rw[val_digs] at h
 have:((1000000000 ^ (digs n).length:Nat):Int)=BB ^ (digs n).length:=by simp
 omega
theorem digs_1 {n:Nat} (h:n≠0) (h2:n < 1000000000):digs n=[(n:Int)]:=by
 rw[digs_pos h,show n / 1000000000=0 by omega,digs_0,show n % 1000000000=n by omega]
theorem digs_2 {n:Nat} (h:1000000000≤n) (h2:n < 1000000000*1000000000):digs n=[((n % 1000000000:Nat):Int),((n / 1000000000:Nat):Int)]:=by
 rw[digs_pos (by omega),digs_1 (by omega) (by omega)]
end Go.Proofs.YtaongbhamadlkaaGreat
namespace Go.Proofs.YtaongbhamadlkaaGreat
open W Go.RowKit
abbrev ptr (g:Nat):Value:=.pointer (some ⟨g,0,none⟩)
def isZ (v:Value) (z:Int):Fct where
 p h:=∃ b d,v=.agg #[.bool b,d]∧b=decide (z < 0)∧(sI d (digs z.natAbs)).p h
 mono h h' hl:=by
  rintro⟨b,d,h1,h2,h3⟩
  exact⟨b,d,h1,h2,(sI _ _).mono _ _ hl h3⟩
def qz (q:Rat):Int:=if q.den=1 then 0 else q.den
def isQ (v:Value) (q:Rat):Fct where
 p h:=∃ b d1 d2,v=.agg #[.bool b,d1,.bool false,d2]∧b=decide (q.num < 0)∧(sI d1 (digs q.num.natAbs)).p h∧(sI d2 (digs (qz q).natAbs)).p h
 mono h h' hl:=by
  rintro⟨b,d1,d2,h1,h2,h3,h4⟩
  exact⟨b,d1,d2,h1,h2,(sI _ _).mono _ _ hl h3,(sI _ _).mono _ _ hl h4⟩
theorem qz_nonneg (q:Rat):0≤qz q:=by unfold qz;split <;> omega
section
variable {F:List Fct} {bx:List Ow} {v d a b c:Value} {z:Int} {q:Rat}
theorem hasZ_d (h:Has F (isZ (.agg #[a,d]) z)):Has F (sI d (digs z.natAbs)):=fun ph hf=>by
 obtain⟨b,d',h1,_,h3⟩:=h ph hf
 simp at h1;obtain⟨rfl,rfl⟩:=h1;exact h3
theorem hasQ_d1 (h:Has F (isQ (.agg #[a,d,b,c]) q)):Has F (sI d (digs q.num.natAbs)):=fun ph hf=>by
 obtain⟨_,d',_,h1,_,h3,_⟩:=h ph hf
 simp at h1;obtain⟨rfl,rfl,rfl,rfl⟩:=h1;exact h3
theorem hasQ_d2 (h:Has F (isQ (.agg #[a,b,c,d]) q)):Has F (sI d (digs (qz q).natAbs)):=fun ph hf=>by
 obtain⟨_,d',_,h1,_,_,h3⟩:=h ph hf
 simp at h1;obtain⟨rfl,rfl,rfl,rfl⟩:=h1;exact h3
theorem hasQ_P (h:Has F (isQ (.agg #[a,d,b,c]) q)):Has F (isZ (.agg #[a,d]) q.num):=fun ph hf=>by
 obtain⟨x,d',_,h1,h2,h3,_⟩:=h ph hf
 simp at h1;obtain⟨rfl,rfl,rfl,rfl⟩:=h1;exact⟨x,d,rfl,h2,h3⟩
theorem hasQ_Q (h:Has F (isQ (.agg #[a,b,c,d]) q)):Has F (isZ (.agg #[c,d]) (qz q)):=fun ph hf=>by
 obtain⟨x,d',_,h1,h2,_,h3⟩:=h ph hf
 simp at h1;obtain⟨rfl,rfl,rfl,rfl⟩:=h1
 exact⟨false,d,rfl,by have:=qz_nonneg q;simp;omega,h3⟩
theorem hasZ_of {nb:Bool} (hb:nb=decide (z < 0)) (h:Has F (sI d (digs z.natAbs))):Has F (isZ (.agg #[.bool nb,d]) z):=fun ph hf=>⟨nb,d,rfl,hb,h ph hf⟩
theorem hasQ_of {nb:Bool} {d1 d2:Value} (hb:nb=decide (q.num < 0)) (h:Has F (sI d1 (digs q.num.natAbs))) (h2:Has F (sI d2 (digs (qz q).natAbs))):Has F (isQ (.agg #[.bool nb,d1,.bool false,d2]) q):=fun ph hf=>⟨nb,d1,d2,rfl,hb,h ph hf,h2 ph hf⟩
theorem KnS.zd (h:Has F (isZ (.agg #[a,d]) z)):KnS bx F d (digs z.natAbs).length:=KnS.f (hasZ_d h)
theorem KnS.q1 (h:Has F (isQ (.agg #[a,d,b,c]) q)):KnS bx F d (digs q.num.natAbs).length:=KnS.f (hasQ_d1 h)
theorem KnS.q2 (h:Has F (isQ (.agg #[a,b,c,d]) q)):KnS bx F d (digs (qz q).natAbs).length:=KnS.f (hasQ_d2 h)
theorem nil0:Has F (sI (.slice none 0 0) []):=fun _ _=>⟨none,0,rfl,Nat.le_refl _,by simp[maxLen],.inl ⟨rfl,rfl,rfl⟩⟩
theorem hasZ_0:Has F (isZ (.agg #[.bool false,.slice none 0 0]) 0):=hasZ_of rfl (by simpa [digs_0] using nil0)
theorem hasQ_0:Has F (isQ (.agg #[.bool false,.slice none 0 0,.bool false,.slice none 0 0]) 0):=hasQ_of rfl (by simpa [digs_0] using nil0) (by simpa [digs_0,qz] using nil0)
section
variable {P:Program} {n:Nat} {L rest:List Oper} {e:Env} {Q:Env→List Ow→List Fct→Prop} {c':Code} {Q2:Post} {hs:List Nat} {r:Plan} {b0:List Ow} {F0:List Fct}
theorem opZ {fr:PH} {w:World} (ho:OK fr bx F w) (h:Has F (isZ v z)):∃ nb d,v=.agg #[.bool nb,d]∧nb=decide (z < 0):=by
 obtain⟨b,d,h1,h2,_⟩:=ho.has h
 exact⟨b,d,h1,h2⟩
theorem opQ {fr:PH} {w:World} (ho:OK fr bx F w) (h:Has F (isQ v q)):∃ nb d1 d2,v=.agg #[.bool nb,d1,.bool false,d2]∧nb=decide (q.num < 0):=by
 obtain⟨b,d1,d2,h1,h2,_⟩:=ho.has h
 exact⟨b,d1,d2,h1,h2⟩
theorem WC.openZ (hz:Has F (isZ v z)) (h:∀ nb d,v=.agg #[.bool nb,d]→nb=decide (z < 0)→WC P n c' e bx F Q2):WC P n c' e bx F Q2:=fun fr w0 a w hk hr ho=>by
 obtain⟨nb,d,h1,h2⟩:=opZ ho hz
 exact h nb d h1 h2 fr w0 a w hk hr ho
theorem WC.openQ (hz:Has F (isQ v q)) (h:∀ nb d1 d2,v=.agg #[.bool nb,d1,.bool false,d2]→nb=decide (q.num < 0)→WC P n c' e bx F Q2):WC P n c' e bx F Q2:=fun fr w0 a w hk hr ho=>by
 obtain⟨nb,d1,d2,h1,h2⟩:=opQ ho hz
 exact h nb d1 d2 h1 h2 fr w0 a w hk hr ho
theorem WL.openZ (hz:Has F (isZ v z)) (h:∀ nb d,v=.agg #[.bool nb,d]→nb=decide (z < 0)→WL P n L rest e bx F Q):WL P n L rest e bx F Q:=fun fr w0 a w Q' hQ hk hr ho=>by
 obtain⟨nb,d,h1,h2⟩:=opZ ho hz
 exact h nb d h1 h2 fr w0 a w Q' hQ hk hr ho
theorem WL.openQ (hz:Has F (isQ v q)) (h:∀ nb d1 d2,v=.agg #[.bool nb,d1,.bool false,d2]→nb=decide (q.num < 0)→WL P n L rest e bx F Q):WL P n L rest e bx F Q:=fun fr w0 a w Q' hQ hk hr ho=>by
 obtain⟨nb,d1,d2,h1,h2⟩:=opQ ho hz
 exact h nb d1 d2 h1 h2 fr w0 a w Q' hQ hk hr ho
theorem WD.fact (f:Fct) (hf:Has F f) (h:WD P n L hs b0 F0 r e bx (f::F) Q):WD P n L hs b0 F0 r e bx F Q:=WD.facts (fun _ _ ho=>ho.add (ho.has hf)) h
theorem WL.fact' (f:Fct) (hf:Has F f) (h:WL P n L rest e bx (f::F) Q):WL P n L rest e bx F Q:=fun fr w0 a w Q' hQ hk hr ho=>h fr w0 a w Q' hQ hk hr (ho.add (ho.has hf))
end
end
def IsZ (z:Int):RPost:=fun v b G=>∃ nb d,v=.agg #[.bool nb,d]∧nb=decide (z < 0)∧b=[]∧G=[isZ (.agg #[.bool nb,d]) z]
def IsQ (q:Rat):RPost:=fun v b G=>∃ nb d1 d2,v=.agg #[.bool nb,d1,.bool false,d2]∧nb=decide (q.num < 0)∧b=[]∧G=[isQ (.agg #[.bool nb,d1,.bool false,d2]) q]
def IsDg (z:Int) (m:Nat):RPost:=fun v b G=>∃ l,b=[]∧G=[sI v l]∧Dg l∧val l=z∧l.length≤m
theorem mixed:Tryz.prog.follows .mixedOrders=true:=by kernel_rfl
theorem bool_t:BoolT Tryz.prog 4:=by unfold BoolT;kernel_rfl
section
variable {e:Env} {bx:List Ow} {F:List Fct} {ty:TypeId} {x y:Operand} {a b c d:Value} {n m:Nat} {nb:Bool} {K:RPost}
theorem YO.buildZ0:YO Tryz.prog (.build 29 #[]) ty e bx F (.agg #[.bool false,.slice none 0 0]):=YO.build (parts:=[]) .nil fun w=>run_build w 29 _ _ (by kernel_rfl)
theorem YO.buildZ (h1:ev e x=some (.bool nb)) (h2:ev e y=some d) (kd:KnS bx F d n):YO Tryz.prog (.build 29 #[(0,x),(1,y)]) ty e bx F (.agg #[.bool nb,d]):=fun k fr ac w o hop hty hk ho=>by
 obtain⟨p1,q1,rfl,_⟩:=(kd fr w ho).is
 exact(YO.build (P:=Tryz.prog) (bx:=bx) (F:=F) (ty:=ty) (parts:=[(0,x),(1,y)]) (.cons h1 (.cons h2 .nil)) fun w=>run_build w 29 _ _ (by kernel_rfl)) k fr ac w o hop hty hk ho
theorem YO.buildQ0:YO Tryz.prog (.build 31 #[]) ty e bx F (.agg #[.bool false,.slice none 0 0,.bool false,.slice none 0 0]):=YO.build (parts:=[]) .nil fun w=>run_build w 31 _ _ (by kernel_rfl)
theorem YO.buildQ1 (h1:ev e x=some (.agg #[a,b])):YO Tryz.prog (.build 31 #[(0,x)]) ty e bx F (.agg #[a,b,.bool false,.slice none 0 0]):=YO.build (parts:=[(0,x)]) (.cons h1 .nil) fun w=>run_build w 31 _ _ (by kernel_rfl)
theorem YO.buildQ2 (h1:ev e x=some (.agg #[a,b])) (h2:ev e y=some (.agg #[c,d])):YO Tryz.prog (.build 31 #[(0,x),(1,y)]) ty e bx F (.agg #[a,b,c,d]):=YO.build (parts:=[(0,x),(1,y)]) (.cons h1 (.cons h2 .nil)) fun w=>run_build w 31 _ _ (by kernel_rfl)
inductive NatI:Int→Nat→Prop where
 |cast (n:Nat):NatI n n
 |one:NatI 1 1
 |add {i j:Int} {m n:Nat}:NatI i m→NatI j n→NatI (i+j) (m+n)
theorem NatI.eq {i:Int} {n:Nat} (h:NatI i n):i=n:=by
 induction h with
 |cast n=>rfl
 |one=>rfl
 |add _ _ h1 h2=>rw[h1,h2];simp
theorem made1 (z:Value) (hz:z.cells=#[z]) (n:Nat):(madeCells z.cells (n*1)).toList=List.replicate n z:=by
 rw[hz,Nat.mul_one]
 apply List.ext_getElem
 ·simp[madeCells]
 ·intro i h1 h2
  simp[madeCells,Nat.mod_one]
theorem LO.makeI {i:Int} (hx:ev e x=some (.int .i64 i)) (hy:ev e y=some (.int .i64 i)) (hi:NatI i n) (hb:n≤10000000000000) (h:∀ v,K v (Ow.slice v 3 1 (ints (List.replicate n 0))::bx) F):LO Tryz.prog (.makeSlice 22 x y) ty e bx F K:=by
 obtain rfl:=hi.eq
 exact LO.make T.e22 hx hy (by omega) (by omega) (by rw[made1 _ rfl n,ints,List.map_replicate]) h
end
section
variable {P:Program} {n:Nat} {L rest:List Oper} {c:Code} {e:Env} {bx bx':List Ow} {F:List Fct} {Q:Post} {Q2:Env→List Ow→List Fct→Prop} {v:Value} {el:Nat} {l:List Int}
theorem WC.freezeI (hs:Sel bx (.slice v el 1 (ints l)) (.slice (.slice none 0 0) el 1 []) bx') (h:WC P n c e bx' (sI v l::F) Q):WC P n c e bx F Q:=fun fr w0 a w hk hr ho=>h fr w0 a w hk hr (ho.freeze hs (by simp) (by decide) _ fun j hj=>by
  have hj':j < l.length:=by omega
  simp[hj'])
theorem WL.freezeI (hs:Sel bx (.slice v el 1 (ints l)) (.slice (.slice none 0 0) el 1 []) bx') (h:WL P n L rest e bx' (sI v l::F) Q2):WL P n L rest e bx F Q2:=fun fr w0 a w Q' hQ hk hr ho=>h fr w0 a w Q' hQ hk hr (ho.freeze hs (by simp) (by decide) _ fun j hj=>by
  have hj':j < l.length:=by omega
  simp[hj'])
end
end Go.Proofs.YtaongbhamadlkaaGreat
