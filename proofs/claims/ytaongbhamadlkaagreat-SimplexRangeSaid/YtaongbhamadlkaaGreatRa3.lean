/- Lemmas for the proof of a law: The law SimplexRange, walked. Conditions: none. -/
import Derived.Test.YtaongbhamadlkaaGreatBs1
import Derived.Test.YtaongbhamadlkaaGreatBs10
import Derived.Test.YtaongbhamadlkaaGreatBs11
import Derived.Test.YtaongbhamadlkaaGreatBs12
import Derived.Test.YtaongbhamadlkaaGreatBs13
import Derived.Test.YtaongbhamadlkaaGreatBs14
import Derived.Test.YtaongbhamadlkaaGreatBs2
import Derived.Test.YtaongbhamadlkaaGreatBs3
import Derived.Test.YtaongbhamadlkaaGreatBs4
import Derived.Test.YtaongbhamadlkaaGreatBs5
import Derived.Test.YtaongbhamadlkaaGreatBs6
import Derived.Test.YtaongbhamadlkaaGreatBs7
import Derived.Test.YtaongbhamadlkaaGreatBs8
import Derived.Test.YtaongbhamadlkaaGreatBs9
import Derived.Test.YtaongbhamadlkaaGreatRa2
import Derived.Test.YtaongbhamadlkaaGreatRa1
set_option linter.unusedVariables false
set_option linter.unusedSimpArgs false
set_option linter.unusedSectionVars false
namespace Go.Proofs.YtaongbhamadlkaaGreat
open W Go.RowKit
theorem at_neg {v:Nat} {g x:Nat→Rat}:X.at_ v (fun k=>-(g k)) x= -(X.at_ v g x):=by
 unfold X.at_
 have h:=X.sm_mul (f:=fun k=>g k*x k) (-1) v
 rw[show(-1:Rat)*X.sm v (fun k=>g k*x k)= -(X.sm v fun k=>g k*x k) by grind] at h
 rw[←h]
 exact X.sm_congr fun k _=>by grind
theorem range_one {v:Nat} {L:List X.Ln} {f g:Nat→Rat} {k j:Int} {z t:Rat} (h:X.Sem (X.lpOf v L f) k z) (h2:X.Sem (X.lpOf v L g) j t):k=1↔j=1:=by
 rw[h.one,h2.one];exact Iff.rfl
theorem range_le {v:Nat} {L:List X.Ln} {g:Nat→Rat} {z t:Rat} (h:X.Sem (X.lpOf v L fun k=>-(g k)) 0 z) (h2:X.Sem (X.lpOf v L g) 0 t):-z≤t:=by
 rcases h with ⟨h,_⟩|⟨_,⟨x,h3,h4⟩,_⟩|⟨h,_⟩
 ·cases h
 ·rcases h2 with ⟨h,_⟩|⟨_,_,h5⟩|⟨h,_⟩
  ·cases h
  ·have h6:=h5 x h3
   change X.at_ v (fun k=>-(g k)) x=z at h4
   change X.at_ v g x≤t at h6
   rw[at_neg] at h4
   grind
  ·cases h
 ·cases h
namespace U.V
open Z
attribute [local irreducible] WC WL WD YO LO LoopEnd W.Fin Scalar SliceT FieldAt Row ArrT AllocT KnS Has W.One SrcE IntT
theorem d9 {G G':Prop} (h:G') (s:Bx G'→G:=by
 intro h
 first|(apply WC.draw (id:=4) [0,2,4,8,9,10,16] (.held 0 (.held 2 (.held 4 (.more 1 (.more 3 (.more 5 (.more 6 (.more 7 (.held 8 (.free 11 (.held 9 (.held 10 (.more 12 (.loud 13 (.loud 14 (.loud 15 (.held 16 (.done))))) (.loud 13 (.loud 12 (.loud 14 (.loud 15 (.held 16 (.done))))))))))) (.more 12 (.more 7 (.held 8 (.free 11 (.held 9 (.held 10 (.loud 13 (.loud 14 (.loud 15 (.held 16 (.done))))))))) (.loud 13 (.loud 7 (.held 8 (.free 11 (.held 9 (.held 10 (.loud 14 (.loud 15 (.held 16 (.done))))))))))) (.loud 13 (.more 7 (.held 8 (.free 11 (.held 9 (.held 10 (.loud 12 (.loud 14 (.loud 15 (.held 16 (.done))))))))) (.loud 12 (.loud 7 (.held 8 (.free 11 (.held 9 (.held 10 (.loud 14 (.loud 15 (.held 16 (.done)))))))))))))) (.more 12 (.more 6 (.more 7 (.held 8 (.free 11 (.held 9 (.held 10 (.loud 13 (.loud 14 (.loud 15 (.held 16 (.done))))))))) (.loud 13 (.loud 7 (.held 8 (.free 11 (.held 9 (.held 10 (.loud 14 (.loud 15 (.held 16 (.done))))))))))) (.loud 13 (.loud 6 (.loud 7 (.held 8 (.free 11 (.held 9 (.held 10 (.loud 14 (.loud 15 (.held 16 (.done)))))))))))) (.loud 13 (.more 6 (.more 7 (.held 8 (.free 11 (.held 9 (.held 10 (.loud 12 (.loud 14 (.loud 15 (.held 16 (.done))))))))) (.loud 12 (.loud 7 (.held 8 (.free 11 (.held 9 (.held 10 (.loud 14 (.loud 15 (.held 16 (.done))))))))))) (.loud 12 (.loud 6 (.loud 7 (.held 8 (.free 11 (.held 9 (.held 10 (.loud 14 (.loud 15 (.held 16 (.done))))))))))))))) (.more 12 (.more 5 (.more 6 (.more 7 (.held 8 (.free 11 (.held 9 (.held 10 (.loud 13 (.loud 14 (.loud 15 (.held 16 (.done))))))))) (.loud 13 (.loud 7 (.held 8 (.free 11 (.held 9 (.held 10 (.loud 14 (.loud 15 (.held 16 (.done))))))))))) (.loud 13 (.loud 6 (.loud 7 (.held 8 (.free 11 (.held 9 (.held 10 (.loud 14 (.loud 15 (.held 16 (.done)))))))))))) (.loud 13 (.loud 5 (.loud 6 (.loud 7 (.held 8 (.free 11 (.held 9 (.held 10 (.loud 14 (.loud 15 (.held 16 (.done))))))))))))) (.loud 13 (.more 5 (.more 6 (.more 7 (.held 8 (.free 11 (.held 9 (.held 10 (.loud 12 (.loud 14 (.loud 15 (.held 16 (.done))))))))) (.loud 12 (.loud 7 (.held 8 (.free 11 (.held 9 (.held 10 (.loud 14 (.loud 15 (.held 16 (.done))))))))))) (.loud 12 (.loud 6 (.loud 7 (.held 8 (.free 11 (.held 9 (.held 10 (.loud 14 (.loud 15 (.held 16 (.done)))))))))))) (.loud 12 (.loud 5 (.loud 6 (.loud 7 (.held 8 (.free 11 (.held 9 (.held 10 (.loud 14 (.loud 15 (.held 16 (.done)))))))))))))))) (.more 5 (.more 3 (.more 6 (.more 7 (.held 8 (.free 11 (.held 9 (.held 10 (.more 12 (.loud 13 (.loud 14 (.loud 15 (.held 16 (.done))))) (.loud 13 (.loud 12 (.loud 14 (.loud 15 (.held 16 (.done))))))))))) (.more 12 (.more 7 (.held 8 (.free 11 (.held 9 (.held 10 (.loud 13 (.loud 14 (.loud 15 (.held 16 (.done))))))))) (.loud 13 (.loud 7 (.held 8 (.free 11 (.held 9 (.held 10 (.loud 14 (.loud 15 (.held 16 (.done))))))))))) (.loud 13 (.more 7 (.held 8 (.free 11 (.held 9 (.held 10 (.loud 12 (.loud 14 (.loud 15 (.held 16 (.done))))))))) (.loud 12 (.loud 7 (.held 8 (.free 11 (.held 9 (.held 10 (.loud 14 (.loud 15 (.held 16 (.done)))))))))))))) (.more 12 (.more 6 (.more 7 (.held 8 (.free 11 (.held 9 (.held 10 (.loud 13 (.loud 14 (.loud 15 (.held 16 (.done))))))))) (.loud 13 (.loud 7 (.held 8 (.free 11 (.held 9 (.held 10 (.loud 14 (.loud 15 (.held 16 (.done))))))))))) (.loud 13 (.loud 6 (.loud 7 (.held 8 (.free 11 (.held 9 (.held 10 (.loud 14 (.loud 15 (.held 16 (.done)))))))))))) (.loud 13 (.more 6 (.more 7 (.held 8 (.free 11 (.held 9 (.held 10 (.loud 12 (.loud 14 (.loud 15 (.held 16 (.done))))))))) (.loud 12 (.loud 7 (.held 8 (.free 11 (.held 9 (.held 10 (.loud 14 (.loud 15 (.held 16 (.done))))))))))) (.loud 12 (.loud 6 (.loud 7 (.held 8 (.free 11 (.held 9 (.held 10 (.loud 14 (.loud 15 (.held 16 (.done))))))))))))))) (.more 12 (.more 3 (.more 6 (.more 7 (.held 8 (.free 11 (.held 9 (.held 10 (.loud 13 (.loud 14 (.loud 15 (.held 16 (.done))))))))) (.loud 13 (.loud 7 (.held 8 (.free 11 (.held 9 (.held 10 (.loud 14 (.loud 15 (.held 16 (.done))))))))))) (.loud 13 (.loud 6 (.loud 7 (.held 8 (.free 11 (.held 9 (.held 10 (.loud 14 (.loud 15 (.held 16 (.done)))))))))))) (.loud 13 (.loud 3 (.loud 6 (.loud 7 (.held 8 (.free 11 (.held 9 (.held 10 (.loud 14 (.loud 15 (.held 16 (.done))))))))))))) (.loud 13 (.more 3 (.more 6 (.more 7 (.held 8 (.free 11 (.held 9 (.held 10 (.loud 12 (.loud 14 (.loud 15 (.held 16 (.done))))))))) (.loud 12 (.loud 7 (.held 8 (.free 11 (.held 9 (.held 10 (.loud 14 (.loud 15 (.held 16 (.done))))))))))) (.loud 12 (.loud 6 (.loud 7 (.held 8 (.free 11 (.held 9 (.held 10 (.loud 14 (.loud 15 (.held 16 (.done)))))))))))) (.loud 12 (.loud 3 (.loud 6 (.loud 7 (.held 8 (.free 11 (.held 9 (.held 10 (.loud 14 (.loud 15 (.held 16 (.done)))))))))))))))) (.more 12 (.more 3 (.more 5 (.more 6 (.more 7 (.held 8 (.free 11 (.held 9 (.held 10 (.loud 13 (.loud 14 (.loud 15 (.held 16 (.done))))))))) (.loud 13 (.loud 7 (.held 8 (.free 11 (.held 9 (.held 10 (.loud 14 (.loud 15 (.held 16 (.done))))))))))) (.loud 13 (.loud 6 (.loud 7 (.held 8 (.free 11 (.held 9 (.held 10 (.loud 14 (.loud 15 (.held 16 (.done)))))))))))) (.loud 13 (.loud 5 (.loud 6 (.loud 7 (.held 8 (.free 11 (.held 9 (.held 10 (.loud 14 (.loud 15 (.held 16 (.done))))))))))))) (.more 5 (.more 3 (.more 6 (.more 7 (.held 8 (.free 11 (.held 9 (.held 10 (.loud 13 (.loud 14 (.loud 15 (.held 16 (.done))))))))) (.loud 13 (.loud 7 (.held 8 (.free 11 (.held 9 (.held 10 (.loud 14 (.loud 15 (.held 16 (.done))))))))))) (.loud 13 (.loud 6 (.loud 7 (.held 8 (.free 11 (.held 9 (.held 10 (.loud 14 (.loud 15 (.held 16 (.done)))))))))))) (.loud 13 (.loud 3 (.loud 6 (.loud 7 (.held 8 (.free 11 (.held 9 (.held 10 (.loud 14 (.loud 15 (.held 16 (.done))))))))))))) (.loud 13 (.more 3 (.loud 5 (.loud 6 (.loud 7 (.held 8 (.free 11 (.held 9 (.held 10 (.loud 14 (.loud 15 (.held 16 (.done))))))))))) (.loud 5 (.loud 3 (.loud 6 (.loud 7 (.held 8 (.free 11 (.held 9 (.held 10 (.loud 14 (.loud 15 (.held 16 (.done)))))))))))))))) (.loud 13 (.more 3 (.more 5 (.more 6 (.more 7 (.held 8 (.free 11 (.held 9 (.held 10 (.loud 12 (.loud 14 (.loud 15 (.held 16 (.done))))))))) (.loud 12 (.loud 7 (.held 8 (.free 11 (.held 9 (.held 10 (.loud 14 (.loud 15 (.held 16 (.done))))))))))) (.loud 12 (.loud 6 (.loud 7 (.held 8 (.free 11 (.held 9 (.held 10 (.loud 14 (.loud 15 (.held 16 (.done)))))))))))) (.loud 12 (.loud 5 (.loud 6 (.loud 7 (.held 8 (.free 11 (.held 9 (.held 10 (.loud 14 (.loud 15 (.held 16 (.done))))))))))))) (.more 5 (.more 3 (.more 6 (.more 7 (.held 8 (.free 11 (.held 9 (.held 10 (.loud 12 (.loud 14 (.loud 15 (.held 16 (.done))))))))) (.loud 12 (.loud 7 (.held 8 (.free 11 (.held 9 (.held 10 (.loud 14 (.loud 15 (.held 16 (.done))))))))))) (.loud 12 (.loud 6 (.loud 7 (.held 8 (.free 11 (.held 9 (.held 10 (.loud 14 (.loud 15 (.held 16 (.done)))))))))))) (.loud 12 (.loud 3 (.loud 6 (.loud 7 (.held 8 (.free 11 (.held 9 (.held 10 (.loud 14 (.loud 15 (.held 16 (.done))))))))))))) (.loud 12 (.more 3 (.loud 5 (.loud 6 (.loud 7 (.held 8 (.free 11 (.held 9 (.held 10 (.loud 14 (.loud 15 (.held 16 (.done))))))))))) (.loud 5 (.loud 3 (.loud 6 (.loud 7 (.held 8 (.free 11 (.held 9 (.held 10 (.loud 14 (.loud 15 (.held 16 (.done)))))))))))))))))))) (.more 5 (.more 1 (.more 3 (.more 6 (.more 7 (.held 8 (.free 11 (.held 9 (.held 10 (.more 12 (.loud 13 (.loud 14 (.loud 15 (.held 16 (.done))))) (.loud 13 (.loud 12 (.loud 14 (.loud 15 (.held 16 (.done))))))))))) (.more 12 (.more 7 (.held 8 (.free 11 (.held 9 (.held 10 (.loud 13 (.loud 14 (.loud 15 (.held 16 (.done))))))))) (.loud 13 (.loud 7 (.held 8 (.free 11 (.held 9 (.held 10 (.loud 14 (.loud 15 (.held 16 (.done))))))))))) (.loud 13 (.more 7 (.held 8 (.free 11 (.held 9 (.held 10 (.loud 12 (.loud 14 (.loud 15 (.held 16 (.done))))))))) (.loud 12 (.loud 7 (.held 8 (.free 11 (.held 9 (.held 10 (.loud 14 (.loud 15 (.held 16 (.done)))))))))))))) (.more 12 (.more 6 (.more 7 (.held 8 (.free 11 (.held 9 (.held 10 (.loud 13 (.loud 14 (.loud 15 (.held 16 (.done))))))))) (.loud 13 (.loud 7 (.held 8 (.free 11 (.held 9 (.held 10 (.loud 14 (.loud 15 (.held 16 (.done))))))))))) (.loud 13 (.loud 6 (.loud 7 (.held 8 (.free 11 (.held 9 (.held 10 (.loud 14 (.loud 15 (.held 16 (.done)))))))))))) (.loud 13 (.more 6 (.more 7 (.held 8 (.free 11 (.held 9 (.held 10 (.loud 12 (.loud 14 (.loud 15 (.held 16 (.done))))))))) (.loud 12 (.loud 7 (.held 8 (.free 11 (.held 9 (.held 10 (.loud 14 (.loud 15 (.held 16 (.done))))))))))) (.loud 12 (.loud 6 (.loud 7 (.held 8 (.free 11 (.held 9 (.held 10 (.loud 14 (.loud 15 (.held 16 (.done))))))))))))))) (.more 12 (.more 3 (.more 6 (.more 7 (.held 8 (.free 11 (.held 9 (.held 10 (.loud 13 (.loud 14 (.loud 15 (.held 16 (.done))))))))) (.loud 13 (.loud 7 (.held 8 (.free 11 (.held 9 (.held 10 (.loud 14 (.loud 15 (.held 16 (.done))))))))))) (.loud 13 (.loud 6 (.loud 7 (.held 8 (.free 11 (.held 9 (.held 10 (.loud 14 (.loud 15 (.held 16 (.done)))))))))))) (.loud 13 (.loud 3 (.loud 6 (.loud 7 (.held 8 (.free 11 (.held 9 (.held 10 (.loud 14 (.loud 15 (.held 16 (.done))))))))))))) (.loud 13 (.more 3 (.more 6 (.more 7 (.held 8 (.free 11 (.held 9 (.held 10 (.loud 12 (.loud 14 (.loud 15 (.held 16 (.done))))))))) (.loud 12 (.loud 7 (.held 8 (.free 11 (.held 9 (.held 10 (.loud 14 (.loud 15 (.held 16 (.done))))))))))) (.loud 12 (.loud 6 (.loud 7 (.held 8 (.free 11 (.held 9 (.held 10 (.loud 14 (.loud 15 (.held 16 (.done)))))))))))) (.loud 12 (.loud 3 (.loud 6 (.loud 7 (.held 8 (.free 11 (.held 9 (.held 10 (.loud 14 (.loud 15 (.held 16 (.done)))))))))))))))) (.more 12 (.more 1 (.more 3 (.more 6 (.more 7 (.held 8 (.free 11 (.held 9 (.held 10 (.loud 13 (.loud 14 (.loud 15 (.held 16 (.done))))))))) (.loud 13 (.loud 7 (.held 8 (.free 11 (.held 9 (.held 10 (.loud 14 (.loud 15 (.held 16 (.done))))))))))) (.loud 13 (.loud 6 (.loud 7 (.held 8 (.free 11 (.held 9 (.held 10 (.loud 14 (.loud 15 (.held 16 (.done)))))))))))) (.loud 13 (.loud 3 (.loud 6 (.loud 7 (.held 8 (.free 11 (.held 9 (.held 10 (.loud 14 (.loud 15 (.held 16 (.done))))))))))))) (.loud 13 (.loud 1 (.loud 3 (.loud 6 (.loud 7 (.held 8 (.free 11 (.held 9 (.held 10 (.loud 14 (.loud 15 (.held 16 (.done)))))))))))))) (.loud 13 (.more 1 (.more 3 (.more 6 (.more 7 (.held 8 (.free 11 (.held 9 (.held 10 (.loud 12 (.loud 14 (.loud 15 (.held 16 (.done))))))))) (.loud 12 (.loud 7 (.held 8 (.free 11 (.held 9 (.held 10 (.loud 14 (.loud 15 (.held 16 (.done))))))))))) (.loud 12 (.loud 6 (.loud 7 (.held 8 (.free 11 (.held 9 (.held 10 (.loud 14 (.loud 15 (.held 16 (.done)))))))))))) (.loud 12 (.loud 3 (.loud 6 (.loud 7 (.held 8 (.free 11 (.held 9 (.held 10 (.loud 14 (.loud 15 (.held 16 (.done))))))))))))) (.loud 12 (.loud 1 (.loud 3 (.loud 6 (.loud 7 (.held 8 (.free 11 (.held 9 (.held 10 (.loud 14 (.loud 15 (.held 16 (.done))))))))))))))))) (.more 12 (.more 1 (.more 3 (.more 5 (.more 6 (.more 7 (.held 8 (.free 11 (.held 9 (.held 10 (.loud 13 (.loud 14 (.loud 15 (.held 16 (.done))))))))) (.loud 13 (.loud 7 (.held 8 (.free 11 (.held 9 (.held 10 (.loud 14 (.loud 15 (.held 16 (.done))))))))))) (.loud 13 (.loud 6 (.loud 7 (.held 8 (.free 11 (.held 9 (.held 10 (.loud 14 (.loud 15 (.held 16 (.done)))))))))))) (.loud 13 (.loud 5 (.loud 6 (.loud 7 (.held 8 (.free 11 (.held 9 (.held 10 (.loud 14 (.loud 15 (.held 16 (.done))))))))))))) (.more 5 (.more 3 (.more 6 (.more 7 (.held 8 (.free 11 (.held 9 (.held 10 (.loud 13 (.loud 14 (.loud 15 (.held 16 (.done))))))))) (.loud 13 (.loud 7 (.held 8 (.free 11 (.held 9 (.held 10 (.loud 14 (.loud 15 (.held 16 (.done))))))))))) (.loud 13 (.loud 6 (.loud 7 (.held 8 (.free 11 (.held 9 (.held 10 (.loud 14 (.loud 15 (.held 16 (.done)))))))))))) (.loud 13 (.loud 3 (.loud 6 (.loud 7 (.held 8 (.free 11 (.held 9 (.held 10 (.loud 14 (.loud 15 (.held 16 (.done))))))))))))) (.loud 13 (.more 3 (.loud 5 (.loud 6 (.loud 7 (.held 8 (.free 11 (.held 9 (.held 10 (.loud 14 (.loud 15 (.held 16 (.done))))))))))) (.loud 5 (.loud 3 (.loud 6 (.loud 7 (.held 8 (.free 11 (.held 9 (.held 10 (.loud 14 (.loud 15 (.held 16 (.done)))))))))))))))) (.more 5 (.more 1 (.more 3 (.more 6 (.more 7 (.held 8 (.free 11 (.held 9 (.held 10 (.loud 13 (.loud 14 (.loud 15 (.held 16 (.done))))))))) (.loud 13 (.loud 7 (.held 8 (.free 11 (.held 9 (.held 10 (.loud 14 (.loud 15 (.held 16 (.done))))))))))) (.loud 13 (.loud 6 (.loud 7 (.held 8 (.free 11 (.held 9 (.held 10 (.loud 14 (.loud 15 (.held 16 (.done)))))))))))) (.loud 13 (.loud 3 (.loud 6 (.loud 7 (.held 8 (.free 11 (.held 9 (.held 10 (.loud 14 (.loud 15 (.held 16 (.done))))))))))))) (.loud 13 (.loud 1 (.loud 3 (.loud 6 (.loud 7 (.held 8 (.free 11 (.held 9 (.held 10 (.loud 14 (.loud 15 (.held 16 (.done)))))))))))))) (.loud 13 (.more 1 (.more 3 (.loud 5 (.loud 6 (.loud 7 (.held 8 (.free 11 (.held 9 (.held 10 (.loud 14 (.loud 15 (.held 16 (.done))))))))))) (.loud 5 (.loud 3 (.loud 6 (.loud 7 (.held 8 (.free 11 (.held 9 (.held 10 (.loud 14 (.loud 15 (.held 16 (.done))))))))))))) (.loud 5 (.loud 1 (.loud 3 (.loud 6 (.loud 7 (.held 8 (.free 11 (.held 9 (.held 10 (.loud 14 (.loud 15 (.held 16 (.done))))))))))))))))) (.loud 13 (.more 1 (.more 3 (.more 5 (.more 6 (.more 7 (.held 8 (.free 11 (.held 9 (.held 10 (.loud 12 (.loud 14 (.loud 15 (.held 16 (.done))))))))) (.loud 12 (.loud 7 (.held 8 (.free 11 (.held 9 (.held 10 (.loud 14 (.loud 15 (.held 16 (.done))))))))))) (.loud 12 (.loud 6 (.loud 7 (.held 8 (.free 11 (.held 9 (.held 10 (.loud 14 (.loud 15 (.held 16 (.done)))))))))))) (.loud 12 (.loud 5 (.loud 6 (.loud 7 (.held 8 (.free 11 (.held 9 (.held 10 (.loud 14 (.loud 15 (.held 16 (.done))))))))))))) (.more 5 (.more 3 (.more 6 (.more 7 (.held 8 (.free 11 (.held 9 (.held 10 (.loud 12 (.loud 14 (.loud 15 (.held 16 (.done))))))))) (.loud 12 (.loud 7 (.held 8 (.free 11 (.held 9 (.held 10 (.loud 14 (.loud 15 (.held 16 (.done))))))))))) (.loud 12 (.loud 6 (.loud 7 (.held 8 (.free 11 (.held 9 (.held 10 (.loud 14 (.loud 15 (.held 16 (.done)))))))))))) (.loud 12 (.loud 3 (.loud 6 (.loud 7 (.held 8 (.free 11 (.held 9 (.held 10 (.loud 14 (.loud 15 (.held 16 (.done))))))))))))) (.loud 12 (.more 3 (.loud 5 (.loud 6 (.loud 7 (.held 8 (.free 11 (.held 9 (.held 10 (.loud 14 (.loud 15 (.held 16 (.done))))))))))) (.loud 5 (.loud 3 (.loud 6 (.loud 7 (.held 8 (.free 11 (.held 9 (.held 10 (.loud 14 (.loud 15 (.held 16 (.done)))))))))))))))) (.more 5 (.more 1 (.more 3 (.more 6 (.more 7 (.held 8 (.free 11 (.held 9 (.held 10 (.loud 12 (.loud 14 (.loud 15 (.held 16 (.done))))))))) (.loud 12 (.loud 7 (.held 8 (.free 11 (.held 9 (.held 10 (.loud 14 (.loud 15 (.held 16 (.done))))))))))) (.loud 12 (.loud 6 (.loud 7 (.held 8 (.free 11 (.held 9 (.held 10 (.loud 14 (.loud 15 (.held 16 (.done)))))))))))) (.loud 12 (.loud 3 (.loud 6 (.loud 7 (.held 8 (.free 11 (.held 9 (.held 10 (.loud 14 (.loud 15 (.held 16 (.done))))))))))))) (.loud 12 (.loud 1 (.loud 3 (.loud 6 (.loud 7 (.held 8 (.free 11 (.held 9 (.held 10 (.loud 14 (.loud 15 (.held 16 (.done)))))))))))))) (.loud 12 (.more 1 (.more 3 (.loud 5 (.loud 6 (.loud 7 (.held 8 (.free 11 (.held 9 (.held 10 (.loud 14 (.loud 15 (.held 16 (.done))))))))))) (.loud 5 (.loud 3 (.loud 6 (.loud 7 (.held 8 (.free 11 (.held 9 (.held 10 (.loud 14 (.loud 15 (.held 16 (.done))))))))))))) (.loud 5 (.loud 1 (.loud 3 (.loud 6 (.loud 7 (.held 8 (.free 11 (.held 9 (.held 10 (.loud 14 (.loud 15 (.held 16 (.done)))))))))))))))))))))))) mixed (by kernel_rfl))|(apply WC.draw (id:=17) [0,1,2,3,4,5,6,7,8,9,10,12,13,15,16,17,19,20] (.held 0 (.held 1 (.held 2 (.held 3 (.held 4 (.held 5 (.held 6 (.held 7 (.held 8 (.held 9 (.held 10 (.held 12 (.held 13 (.loud 11 (.loud 14 (.held 15 (.held 16 (.held 17 (.loud 18 (.held 19 (.held 20 (.done)))))))))))))))))))))) mixed (by kernel_rfl))|fail
 exact Bx.h h):G:=s ⟨h⟩
set_option maxHeartbeats 32000000 in
set_option maxRecDepth 60000 in
theorem rangeLaw_h (hlv:FnB Tryz.prog 18 [] [] [] (IsV (.bool true))) (v0 v1:Value) (l ml:List Int) (how:Int) (hl:∀ x∈l,I64 x) (hml:∀ x∈ml,I64 x) (hh:I64 how) (hlen:ml.length≤17592186043904) :
  FnB Tryz.prog 9 [v0,v1,.int .i64 how] [] [sI v0 l,sI v1 ml] (IsV (.bool true)):=by
 refine fn_of [(0,v0),(1,v1),(2,(.int .i64 how))] 172 Tryz.func9 rfl Tryz.ntmps9 (by kernel_rfl) rfl suA fun h0=>?_
 have hV:=someV_le l
 have hF:=someFits l
 have hS:=someL_sq l 6
 have hLn:=someL_len l 6
 have hdv:=someDok l
 have hd6:=someDok6 l
 have hR:=szR_1 (someV l) 6 1
 have ha3:=@atP_lt l 0 3 (by decide)
 have hG:=fun k (_:k < someV l)=>someG_sq (atP l 0 3::ml) k
 repeat'(first|refine gA ?_|(refine goG ?_;intro g)|(refine goV ?_;intro v)|refine goE ?_|(refine goEG ?_;intro g)|(refine goEV ?_;intro v)|refine goD ?_|refine goXD ?_|(refine goDG ?_;intro g)|(refine goDV ?_;intro v)|apply WD.more_of|refine WM.more (by exact rfl) (by exact rfl) (by exact rfl) ?_ ?_|refine WM.one (by exact rfl) (by exact rfl) (by exact rfl) ?_|refine WM.more0 (by exact rfl) (by exact rfl) ?_ ?_|refine WM.one0 (by exact rfl) (by exact rfl) ?_|(refine goLG ?_;intro g)|(refine goLV ?_;intro v)|refine goLS ?_|refine goYL ?_|refine d9 ?_|fail)
 refine WL.callK (some_c v0 l 6 hl (by decide)) ?_
 rintro _ _ _ ⟨M,rfl,rfl,rfl⟩
 simp only[List.nil_append,List.cons_append]
 rw[show(someP l 6).v=someV l from rfl,show someP l 6=X.lpOf (someV l) (someL l 6) (someG l) from rfl]
 refine WL.fact' (fF M.gv (someV l) M.mg (someG l)) (W.Has.pG (L:=someL l 6) hmA) ?_
 refine WL.fact' (fLn M (someV l) (someL l 6)) (W.Has.pL (g:=someG l) hmA) ?_
 repeat'(first|refine gA ?_|(refine goG ?_;intro g)|(refine goV ?_;intro v)|refine goE ?_|(refine goEG ?_;intro g)|(refine goEV ?_;intro v)|refine goD ?_|refine goXD ?_|(refine goDG ?_;intro g)|(refine goDV ?_;intro v)|apply WD.more_of|refine WM.more (by exact rfl) (by exact rfl) (by exact rfl) ?_ ?_|refine WM.one (by exact rfl) (by exact rfl) (by exact rfl) ?_|refine WM.more0 (by exact rfl) (by exact rfl) ?_ ?_|refine WM.one0 (by exact rfl) (by exact rfl) ?_|(refine goLG ?_;intro g)|(refine goLV ?_;intro v)|refine goLS ?_|refine goYL ?_|refine d9 ?_|fail)
 revert g;intro gp
 first|refine WL.callV (at_c v0 l (0:Int) 3 hl (by decide)) ?_|refine WD.callV (at_c v0 l (0:Int) 3 hl (by decide)) ?_
 repeat'(first|refine gA ?_|(refine goG ?_;intro g)|(refine goV ?_;intro v)|refine goE ?_|(refine goEG ?_;intro g)|(refine goEV ?_;intro v)|refine goD ?_|refine goXD ?_|(refine goDG ?_;intro g)|(refine goDV ?_;intro v)|apply WD.more_of|refine WM.more (by exact rfl) (by exact rfl) (by exact rfl) ?_ ?_|refine WM.one (by exact rfl) (by exact rfl) (by exact rfl) ?_|refine WM.more0 (by exact rfl) (by exact rfl) ?_ ?_|refine WM.one0 (by exact rfl) (by exact rfl) ?_|(refine goLG ?_;intro g)|(refine goLV ?_;intro v)|refine goLS ?_|refine goYL ?_|refine d9 ?_|fail)
 refine WL.freezeI (l:=atP l 0 3::ml) (v:=v) (el:=3) (by repeat(first|exact Sel.head|apply Sel.tail)) ?_
 refine WL.callK (some_c v (atP l 0 3::ml) 0 (I64_cons ha3 hml) (by decide)) ?_
 rintro _ _ _ ⟨N,rfl,rfl,rfl⟩
 simp only[List.nil_append,List.cons_append]
 rw[show(someP (atP l 0 3::ml) 0).v=someV (atP l 0 3::ml) from rfl,show someP (atP l 0 3::ml) 0=X.lpOf (someV (atP l 0 3::ml)) (someL (atP l 0 3::ml) 0) (someG (atP l 0 3::ml)) from rfl]
 rw[someV_cons]
 refine WL.fact' (fF N.gv (someV l) N.mg (someG (atP l 0 3::ml))) (W.Has.pG (L:=someL (atP l 0 3::ml) 0) hmA) ?_
 generalize someG (atP l 0 3::ml)=gq at *
 generalize someL l 6=L at *
 generalize someG l=gf at *
 generalize someV l=vn at *
 have hv48:=hF.v
 repeat'(first|refine gA ?_|(refine goG ?_;intro g)|(refine goV ?_;intro v)|refine goE ?_|(refine goEG ?_;intro g)|(refine goEV ?_;intro v)|refine goD ?_|refine goXD ?_|(refine goDG ?_;intro g)|(refine goDV ?_;intro v)|apply WD.more_of|refine WM.more (by exact rfl) (by exact rfl) (by exact rfl) ?_ ?_|refine WM.one (by exact rfl) (by exact rfl) (by exact rfl) ?_|refine WM.more0 (by exact rfl) (by exact rfl) ?_ ?_|refine WM.one0 (by exact rfl) (by exact rfl) ?_|(refine goLG ?_;intro g)|(refine goLV ?_;intro v)|refine goLS ?_|refine goYL ?_|refine d9 ?_|fail)
 refine WL.callK (range_c M L gf gq N.mg N.gv hF hS hLn hG) ?_
 rintro _ _ _ ⟨A,C,k,j,xn,yn,un,wn,x,y,u,w,z,t,rfl,rfl,rfl,hA,hC,hx,hy,hz,hu,hw,ht⟩
 simp only[List.nil_append,List.cons_append]
 refine WL.fact' (fF A.xv xn A.mx x) (W.Has.ax (M:=A) (xn:=xn) (yn:=yn) (x:=x) (y:=y) (z:=z) hmA) ?_
 refine WL.fact' (fF A.yv yn A.my y) (W.Has.ay (M:=A) (xn:=xn) (yn:=yn) (x:=x) (y:=y) (z:=z) hmA) ?_
 refine WL.fact' (isQ (qv A.mz) z) (W.Has.az (M:=A) (xn:=xn) (yn:=yn) (x:=x) (y:=y) (z:=z) hmA) ?_
 refine WL.fact' (fF C.xv un C.mx u) (W.Has.ax (M:=C) (xn:=un) (yn:=wn) (x:=u) (y:=w) (z:=t) hmA) ?_
 refine WL.fact' (fF C.yv wn C.my w) (W.Has.ay (M:=C) (xn:=un) (yn:=wn) (x:=u) (y:=w) (z:=t) hmA) ?_
 refine WL.fact' (isQ (qv C.mz) t) (W.Has.az (M:=C) (xn:=un) (yn:=wn) (x:=u) (y:=w) (z:=t) hmA) ?_
 repeat'(first|refine gA ?_|(refine goG ?_;intro g)|(refine goV ?_;intro v)|refine goE ?_|(refine goEG ?_;intro g)|(refine goEV ?_;intro v))
 rename_i g9
 revert g;intro g10
 refine WC.cutP (σ:=Nat) (fun st=>[(7,ptr st),(8,N.gv),(9,ptr g9),(10,ptr g10),(11,.int .i64 0),(14,.int .i64 1),(6,.bool false),(2,.int .i64 how)])
  (fun st=>[Ow.cells st 26 (pcs M vn),Ow.cells g9 33 (acs A k),Ow.cells g10 33 (acs C j)]) (fun _=>[fA A xn yn x y z,fA C un wn u w t,fF N.gv vn N.mg gq,fP M (X.lpOf vn L gf),ge h0]) (fun _=>True) ?_ ?_
 ·refine WC.weak (e':=[(7,ptr gp),(8,N.gv),(9,ptr g9),(10,ptr g10),(11,.int .i64 0),(6,.bool false),(2,.int .i64 how)]) (bx':=[Ow.cells g10 33 (acs C j),Ow.cells g9 33 (acs A k),Ow.cells gp 26 (pcs M vn)])
   (F':=[isQ (qv m00) 0,fLn M vn L,fF M.gv vn M.mg gf,fA A xn yn x y z,fA C un wn u w t,fF N.gv vn N.mg gq,fP M (X.lpOf vn L gf),ge h0]) suA slA (by intro f hf;simp only[List.mem_cons,List.not_mem_nil,or_false] at hf;rcases hf with rfl|rfl|rfl|rfl|rfl|rfl|rfl|rfl <;> first|exact hasQ0|exact hmA) ?_
  exact range4_h M N A C vn xn yn un wn L gf gq x y u w z t k j how gp g9 g10 h0 hF.v (by omega)
 rintro gp -
 refine WC.fact (fF A.xv xn A.mx x) (W.Has.ax (M:=A) (xn:=xn) (yn:=yn) (x:=x) (y:=y) (z:=z) hmA) ?_
 refine WC.fact (fF A.yv yn A.my y) (W.Has.ay (M:=A) (xn:=xn) (yn:=yn) (x:=x) (y:=y) (z:=z) hmA) ?_
 refine WC.fact (fF C.xv un C.mx u) (W.Has.ax (M:=C) (xn:=un) (yn:=wn) (x:=u) (y:=w) (z:=t) hmA) ?_
 refine WC.fact (fF C.yv wn C.my w) (W.Has.ay (M:=C) (xn:=un) (yn:=wn) (x:=u) (y:=w) (z:=t) hmA) ?_
 refine WC.fact (isQ (qv A.mz) z) (W.Has.az (M:=A) (xn:=xn) (yn:=yn) (x:=x) (y:=y) (z:=z) hmA) ?_
 refine WC.fact (isQ (qv C.mz) t) (W.Has.az (M:=C) (xn:=un) (yn:=wn) (x:=u) (y:=w) (z:=t) hmA) ?_
 refine WC.fact (fLn M vn L) (W.Has.pL (g:=gf) hmA) ?_
 refine WC.fact (fF M.gv vn M.mg gf) (W.Has.pG (L:=L) hmA) ?_
 have hdq:szR vn 6 1≤400000000:=v3 (P:=fun v=>szR v 6 1≤400000000) hV (by decide +kernel) (by decide +kernel) (by decide +kernel)
 repeat'(first|refine gA ?_|(refine goG ?_;intro g)|(refine goV ?_;intro v)|refine goE ?_|(refine goEG ?_;intro g)|(refine goEV ?_;intro v)|refine goD ?_|refine goXD ?_|(refine goDG ?_;intro g)|(refine goDV ?_;intro v)|apply WD.more_of|refine WM.more (by exact rfl) (by exact rfl) (by exact rfl) ?_ ?_|refine WM.one (by exact rfl) (by exact rfl) (by exact rfl) ?_|refine WM.more0 (by exact rfl) (by exact rfl) ?_ ?_|refine WM.one0 (by exact rfl) (by exact rfl) ?_|(refine goLG ?_;intro g)|(refine goLV ?_;intro v)|refine goLS ?_|refine goYL ?_|refine d9 ?_|fail)
 refine WL.callK (wrong_c M vn L gf how hh hF.v hV.1 (by omega)) ?_
 rintro _ _ _ ⟨Mw,vars,mw,gn,ln,aw,bw,gw,E,rfl,rfl,rfl,hE,hE2⟩
 simp only[List.nil_append,List.cons_append]
 refine WL.fact' (fF Mw.gv gn Mw.mg gw) (W.Has.pg (M:=Mw) (m:=mw) (gn:=gn) (ln:=ln) (a:=aw) (b:=bw) (g:=gw) hmA) ?_
 repeat'(first|refine gA ?_|(refine goG ?_;intro g)|(refine goV ?_;intro v)|refine goE ?_|(refine goEG ?_;intro g)|(refine goEV ?_;intro v)|refine goD ?_|refine goXD ?_|(refine goDG ?_;intro g)|(refine goDV ?_;intro v)|apply WD.more_of|refine WM.more (by exact rfl) (by exact rfl) (by exact rfl) ?_ ?_|refine WM.one (by exact rfl) (by exact rfl) (by exact rfl) ?_|refine WM.more0 (by exact rfl) (by exact rfl) ?_ ?_|refine WM.one0 (by exact rfl) (by exact rfl) ?_|(refine goLG ?_;intro g)|(refine goLV ?_;intro v)|refine goLS ?_|refine goYL ?_|refine d9 ?_|fail)
 revert g;intro g15
 first|refine WL.callV (range0_c Mw vars mw gn ln aw bw gw E N.gv hE (by omega)) ?_|refine WD.callV (range0_c Mw vars mw gn ln aw bw gw E N.gv hE (by omega)) ?_
 repeat'(first|refine gA ?_|(refine goG ?_;intro g)|(refine goV ?_;intro v)|refine goE ?_|(refine goEG ?_;intro g)|(refine goEV ?_;intro v)|refine goD ?_|refine goXD ?_|(refine goDG ?_;intro g)|(refine goDV ?_;intro v)|apply WD.more_of|refine WM.more (by exact rfl) (by exact rfl) (by exact rfl) ?_ ?_|refine WM.one (by exact rfl) (by exact rfl) (by exact rfl) ?_|refine WM.more0 (by exact rfl) (by exact rfl) ?_ ?_|refine WM.one0 (by exact rfl) (by exact rfl) ?_|(refine goLG ?_;intro g)|(refine goLV ?_;intro v)|refine goLS ?_|refine goYL ?_|refine d9 ?_|fail)
 revert g;intro g20
 refine WL.callK (negated_f N.gv vn N.mg gq (by omega) (fun k hk=>(hG k hk).sm (by decide))) ?_
 rintro sv _ _ ⟨ms,rfl,rfl⟩
 simp only[List.nil_append,List.cons_append]
 repeat'(first|refine gA ?_|(refine goG ?_;intro g)|(refine goV ?_;intro v)|refine goE ?_|(refine goEG ?_;intro g)|(refine goEV ?_;intro v)|refine goD ?_|refine goXD ?_|(refine goDG ?_;intro g)|(refine goDV ?_;intro v)|apply WD.more_of|refine WM.more (by exact rfl) (by exact rfl) (by exact rfl) ?_ ?_|refine WM.one (by exact rfl) (by exact rfl) (by exact rfl) ?_|refine WM.more0 (by exact rfl) (by exact rfl) ?_ ?_|refine WM.one0 (by exact rfl) (by exact rfl) ?_|(refine goLG ?_;intro g)|(refine goLV ?_;intro v)|refine goLS ?_|refine goYL ?_|refine d9 ?_|fail)
 revert g;intro g21
 refine WL.fact' (fP (M.wg sv ms) (X.lpOf vn L fun k=>-(gq k))) (W.Has.lnp (M:=M.wg sv ms) (W.Has.lnwg (M:=M) hmA) (show Has _ (fF sv vn ms fun k=>-(gq k)) from hmA)) ?_
 refine WL.callK (solveL_c (M.wg sv ms) hF hS hLn (fun k hk=>(hG k hk).neg)) ?_
 rintro _ _ _ ⟨A2,k2,xn2,yn2,x2,y2,z2,rfl,rfl,rfl,hA2,hx2,hy2,hz2⟩
 simp only[List.nil_append,List.cons_append]
 refine WL.fact' (fF A2.xv xn2 A2.mx x2) (W.Has.ax (M:=A2) (xn:=xn2) (yn:=yn2) (x:=x2) (y:=y2) (z:=z2) hmA) ?_
 refine WL.fact' (fF A2.yv yn2 A2.my y2) (W.Has.ay (M:=A2) (xn:=xn2) (yn:=yn2) (x:=x2) (y:=y2) (z:=z2) hmA) ?_
 refine WL.fact' (isQ (qv A2.mz) z2) (W.Has.az (M:=A2) (xn:=xn2) (yn:=yn2) (x:=x2) (y:=y2) (z:=z2) hmA) ?_
 repeat'(first|refine gA ?_|(refine goG ?_;intro g)|(refine goV ?_;intro v)|refine goE ?_|(refine goEG ?_;intro g)|(refine goEV ?_;intro v)|refine goD ?_|refine goXD ?_|(refine goDG ?_;intro g)|(refine goDV ?_;intro v)|apply WD.more_of|refine WM.more (by exact rfl) (by exact rfl) (by exact rfl) ?_ ?_|refine WM.one (by exact rfl) (by exact rfl) (by exact rfl) ?_|refine WM.more0 (by exact rfl) (by exact rfl) ?_ ?_|refine WM.one0 (by exact rfl) (by exact rfl) ?_|(refine goLG ?_;intro g)|(refine goLV ?_;intro v)|refine goLS ?_|refine goYL ?_|refine d9 ?_|fail)
 revert g;intro g22
 refine WL.fact' (fP (M.wg N.gv N.mg) (X.lpOf vn L gq)) (W.Has.lnp (M:=M.wg N.gv N.mg) (W.Has.lnwg (M:=M) hmA) (show Has _ (fF N.gv vn N.mg gq) from hmA)) ?_
 refine WL.callK (solveL_c (M.wg N.gv N.mg) hF hS hLn hG) ?_
 rintro _ _ _ ⟨C2,j2,un2,wn2,u2,w2,t2,rfl,rfl,rfl,hC2,hu2,hw2,ht2⟩
 simp only[List.nil_append,List.cons_append]
 refine WL.fact' (fF C2.xv un2 C2.mx u2) (W.Has.ax (M:=C2) (xn:=un2) (yn:=wn2) (x:=u2) (y:=w2) (z:=t2) hmA) ?_
 refine WL.fact' (fF C2.yv wn2 C2.my w2) (W.Has.ay (M:=C2) (xn:=un2) (yn:=wn2) (x:=u2) (y:=w2) (z:=t2) hmA) ?_
 refine WL.fact' (isQ (qv C2.mz) t2) (W.Has.az (M:=C2) (xn:=un2) (yn:=wn2) (x:=u2) (y:=w2) (z:=t2) hmA) ?_
 obtain⟨hk,rfl⟩:=hA2.sem.uniq hA.sem
 obtain⟨hj,rfl⟩:=hC2.sem.uniq hC.sem
 obtain rfl:k2=k:=by omega
 obtain rfl:j2=j:=by omega
 repeat'(first|refine gA ?_|(refine goG ?_;intro g)|(refine goV ?_;intro v)|refine goE ?_|(refine goEG ?_;intro g)|(refine goEV ?_;intro v)|refine goD ?_|refine goXD ?_|(refine goDG ?_;intro g)|(refine goDV ?_;intro v)|apply WD.more_of|refine WM.more (by exact rfl) (by exact rfl) (by exact rfl) ?_ ?_|refine WM.one (by exact rfl) (by exact rfl) (by exact rfl) ?_|refine WM.more0 (by exact rfl) (by exact rfl) ?_ ?_|refine WM.one0 (by exact rfl) (by exact rfl) ?_|(refine goLG ?_;intro g)|(refine goLV ?_;intro v)|refine goLS ?_|refine goYL ?_|refine d9 ?_|fail)
 first|refine WL.callV (Zn.same A.mz A2.mz z2 z2) ?_|refine WD.callV (Zn.same A.mz A2.mz z2 z2) ?_
 rw[decide_eq_true (rfl:z2=z2)]
 repeat'(first|refine gA ?_|(refine goG ?_;intro g)|(refine goV ?_;intro v)|refine goE ?_|(refine goEG ?_;intro g)|(refine goEV ?_;intro v)|refine goD ?_|refine goXD ?_|(refine goDG ?_;intro g)|(refine goDV ?_;intro v)|apply WD.more_of|refine WM.more (by exact rfl) (by exact rfl) (by exact rfl) ?_ ?_|refine WM.one (by exact rfl) (by exact rfl) (by exact rfl) ?_|refine WM.more0 (by exact rfl) (by exact rfl) ?_ ?_|refine WM.one0 (by exact rfl) (by exact rfl) ?_|(refine goLG ?_;intro g)|(refine goLV ?_;intro v)|refine goLS ?_|refine goYL ?_|refine d9 ?_|fail)
 first|refine WL.callV (Zn.same C.mz C2.mz t2 t2) ?_|refine WD.callV (Zn.same C.mz C2.mz t2 t2) ?_
 rw[decide_eq_true (rfl:t2=t2)]
 repeat'(first|refine gA ?_|(refine goG ?_;intro g)|(refine goV ?_;intro v)|refine goE ?_|(refine goEG ?_;intro g)|(refine goEV ?_;intro v)|refine goD ?_|refine goXD ?_|(refine goDG ?_;intro g)|(refine goDV ?_;intro v)|apply WD.more_of|refine WM.more (by exact rfl) (by exact rfl) (by exact rfl) ?_ ?_|refine WM.one (by exact rfl) (by exact rfl) (by exact rfl) ?_|refine WM.more0 (by exact rfl) (by exact rfl) ?_ ?_|refine WM.one0 (by exact rfl) (by exact rfl) ?_|(refine goLG ?_;intro g)|(refine goLV ?_;intro v)|refine goLS ?_|refine goYL ?_|refine d9 ?_|fail)
 have hr1:=rright_c (M.wg sv ms) vn L (fun k=>-(gq k)) A (szR vn 6 1) xn yn x y z2 (k2:Nat) hdv (hd6.le hLn) (by omega) (by omega) (hS.up hR) (fun k hk=>((hG k hk).neg).up hR) hx hy
 rw[ans_right hA] at hr1
 have hr2:=rright_c (M.wg N.gv N.mg) vn L gq C (szR vn 6 1) un wn u w t2 (j2:Nat) hdv (hd6.le hLn) (by omega) (by omega) (hS.up hR) (fun k hk=>(hG k hk).up hR) hu hw
 rw[ans_right hC] at hr2
 first|refine WL.callV (hr1) ?_|refine WD.callV (hr1) ?_
 repeat'(first|refine gA ?_|(refine goG ?_;intro g)|(refine goV ?_;intro v)|refine goE ?_|(refine goEG ?_;intro g)|(refine goEV ?_;intro v)|refine goD ?_|refine goXD ?_|(refine goDG ?_;intro g)|(refine goDV ?_;intro v)|apply WD.more_of|refine WM.more (by exact rfl) (by exact rfl) (by exact rfl) ?_ ?_|refine WM.one (by exact rfl) (by exact rfl) (by exact rfl) ?_|refine WM.more0 (by exact rfl) (by exact rfl) ?_ ?_|refine WM.one0 (by exact rfl) (by exact rfl) ?_|(refine goLG ?_;intro g)|(refine goLV ?_;intro v)|refine goLS ?_|refine goYL ?_|refine d9 ?_|fail)
 first|refine WL.callV (hr2) ?_|refine WD.callV (hr2) ?_
 have h1:=range_one hA.sem hC.sem
 by_cases c1:k2=1
 ·subst c1
  obtain rfl:j2=1:=by have:=h1.1 rfl;omega
  repeat'(first|refine gA ?_|(refine goG ?_;intro g)|(refine goV ?_;intro v)|refine goE ?_|(refine goEG ?_;intro g)|(refine goEV ?_;intro v)|refine goD ?_|refine goXD ?_|(refine goDG ?_;intro g)|(refine goDV ?_;intro v)|apply WD.more_of|refine WM.more (by exact rfl) (by exact rfl) (by exact rfl) ?_ ?_|refine WM.one (by exact rfl) (by exact rfl) (by exact rfl) ?_|refine WM.more0 (by exact rfl) (by exact rfl) ?_ ?_|refine WM.one0 (by exact rfl) (by exact rfl) ?_|(refine goLG ?_;intro g)|(refine goLV ?_;intro v)|refine goLS ?_|refine goYL ?_|refine d9 ?_|fail)
  first|refine WL.callV (hlv) ?_|refine WD.callV (hlv) ?_
  repeat'(first|refine gA ?_|(refine goG ?_;intro g)|(refine goV ?_;intro v)|refine goE ?_|(refine goEG ?_;intro g)|(refine goEV ?_;intro v)|refine goD ?_|refine goXD ?_|(refine goDG ?_;intro g)|(refine goDV ?_;intro v)|apply WD.more_of|refine WM.more (by exact rfl) (by exact rfl) (by exact rfl) ?_ ?_|refine WM.one (by exact rfl) (by exact rfl) (by exact rfl) ?_|refine WM.more0 (by exact rfl) (by exact rfl) ?_ ?_|refine WM.one0 (by exact rfl) (by exact rfl) ?_|(refine goLG ?_;intro g)|(refine goLV ?_;intro v)|refine goLS ?_|refine goYL ?_|refine d9 ?_|fail)
  exact WC.ret (Fin.v (ResE.t1 rfl rfl) meA rfl)
 have c1':(k2:Int)≠1:=by omega
 have c2':(j2:Int)≠1:=fun h=>c1' (h1.2 h)
 by_cases c0:k2=0
 case' neg=>
  have c0':(k2:Int)≠0:=by omega
  repeat'(first|refine gA ?_|(refine goG ?_;intro g)|(refine goV ?_;intro v)|refine goE ?_|(refine goEG ?_;intro g)|(refine goEV ?_;intro v)|refine goD ?_|refine goXD ?_|(refine goDG ?_;intro g)|(refine goDV ?_;intro v)|apply WD.more_of|refine WM.more (by exact rfl) (by exact rfl) (by exact rfl) ?_ ?_|refine WM.one (by exact rfl) (by exact rfl) (by exact rfl) ?_|refine WM.more0 (by exact rfl) (by exact rfl) ?_ ?_|refine WM.one0 (by exact rfl) (by exact rfl) ?_|(refine goLG ?_;intro g)|(refine goLV ?_;intro v)|refine goLS ?_|refine goYL ?_|refine d9 ?_|fail)
  first|refine WL.callV (hlv) ?_|refine WD.callV (hlv) ?_
  repeat'(first|refine gA ?_|(refine goG ?_;intro g)|(refine goV ?_;intro v)|refine goE ?_|(refine goEG ?_;intro g)|(refine goEV ?_;intro v)|refine goD ?_|refine goXD ?_|(refine goDG ?_;intro g)|(refine goDV ?_;intro v)|apply WD.more_of|refine WM.more (by exact rfl) (by exact rfl) (by exact rfl) ?_ ?_|refine WM.one (by exact rfl) (by exact rfl) (by exact rfl) ?_|refine WM.more0 (by exact rfl) (by exact rfl) ?_ ?_|refine WM.one0 (by exact rfl) (by exact rfl) ?_|(refine goLG ?_;intro g)|(refine goLV ?_;intro v)|refine goLS ?_|refine goYL ?_|refine d9 ?_|fail)
  exact WC.ret (Fin.v (ResE.t1 rfl rfl) meA rfl)
 subst c0
 by_cases d0:j2=0
 case' neg=>
  have d0':(j2:Int)≠0:=by omega
  repeat'(first|refine gA ?_|(refine goG ?_;intro g)|(refine goV ?_;intro v)|refine goE ?_|(refine goEG ?_;intro g)|(refine goEV ?_;intro v)|refine goD ?_|refine goXD ?_|(refine goDG ?_;intro g)|(refine goDV ?_;intro v)|apply WD.more_of|refine WM.more (by exact rfl) (by exact rfl) (by exact rfl) ?_ ?_|refine WM.one (by exact rfl) (by exact rfl) (by exact rfl) ?_|refine WM.more0 (by exact rfl) (by exact rfl) ?_ ?_|refine WM.one0 (by exact rfl) (by exact rfl) ?_|(refine goLG ?_;intro g)|(refine goLV ?_;intro v)|refine goLS ?_|refine goYL ?_|refine d9 ?_|fail)
  first|refine WL.callV (hlv) ?_|refine WD.callV (hlv) ?_
  repeat'(first|refine gA ?_|(refine goG ?_;intro g)|(refine goV ?_;intro v)|refine goE ?_|(refine goEG ?_;intro g)|(refine goEV ?_;intro v)|refine goD ?_|refine goXD ?_|(refine goDG ?_;intro g)|(refine goDV ?_;intro v)|apply WD.more_of|refine WM.more (by exact rfl) (by exact rfl) (by exact rfl) ?_ ?_|refine WM.one (by exact rfl) (by exact rfl) (by exact rfl) ?_|refine WM.more0 (by exact rfl) (by exact rfl) ?_ ?_|refine WM.one0 (by exact rfl) (by exact rfl) ?_|(refine goLG ?_;intro g)|(refine goLV ?_;intro v)|refine goLS ?_|refine goYL ?_|refine d9 ?_|fail)
  exact WC.ret (Fin.v (ResE.t1 rfl rfl) meA rfl)
 subst d0
 have hle:=cmp_le.2 (range_le hA.sem hC.sem)
 have hcmp:=fun m=>Zn.cmp m C.mz (-z2) t2 (hz.neg.sm hdq) (ht.sm hdq)
 repeat'(first|refine gA ?_|(refine goG ?_;intro g)|(refine goV ?_;intro v)|refine goE ?_|(refine goEG ?_;intro g)|(refine goEV ?_;intro v)|refine goD ?_|refine goXD ?_|(refine goDG ?_;intro g)|(refine goDV ?_;intro v)|apply WD.more_of|refine WM.more (by exact rfl) (by exact rfl) (by exact rfl) ?_ ?_|refine WM.one (by exact rfl) (by exact rfl) (by exact rfl) ?_|refine WM.more0 (by exact rfl) (by exact rfl) ?_ ?_|refine WM.one0 (by exact rfl) (by exact rfl) ?_|(refine goLG ?_;intro g)|(refine goLV ?_;intro v)|refine goLS ?_|refine goYL ?_|refine d9 ?_|fail)
 first|refine WL.callK (Zn.neg A.mz z2) ?_|refine WD.callK (Zn.neg A.mz z2) ?_|refine LO.callM (Zn.neg A.mz z2) ?_
 rintro _ _ _ ⟨m3,rfl,rfl,rfl⟩
 simp only[List.nil_append,List.cons_append]
 repeat'(first|refine gA ?_|(refine goG ?_;intro g)|(refine goV ?_;intro v)|refine goE ?_|(refine goEG ?_;intro g)|(refine goEV ?_;intro v)|refine goD ?_|refine goXD ?_|(refine goDG ?_;intro g)|(refine goDV ?_;intro v)|apply WD.more_of|refine WM.more (by exact rfl) (by exact rfl) (by exact rfl) ?_ ?_|refine WM.one (by exact rfl) (by exact rfl) (by exact rfl) ?_|refine WM.more0 (by exact rfl) (by exact rfl) ?_ ?_|refine WM.one0 (by exact rfl) (by exact rfl) ?_|(refine goLG ?_;intro g)|(refine goLV ?_;intro v)|refine goLS ?_|refine goYL ?_|refine d9 ?_|fail)
 first|refine WL.callV (hcmp m3) ?_ (hF:=.cons (.f hmA) (.cons (.f hmA) .nil))|refine WD.callV (hcmp m3) ?_ (hF:=.cons (.f hmA) (.cons (.f hmA) .nil))
 repeat'(first|refine gA ?_|(refine goG ?_;intro g)|(refine goV ?_;intro v)|refine goE ?_|(refine goEG ?_;intro g)|(refine goEV ?_;intro v)|refine goD ?_|refine goXD ?_|(refine goDG ?_;intro g)|(refine goDV ?_;intro v)|apply WD.more_of|refine WM.more (by exact rfl) (by exact rfl) (by exact rfl) ?_ ?_|refine WM.one (by exact rfl) (by exact rfl) (by exact rfl) ?_|refine WM.more0 (by exact rfl) (by exact rfl) ?_ ?_|refine WM.one0 (by exact rfl) (by exact rfl) ?_|(refine goLG ?_;intro g)|(refine goLV ?_;intro v)|refine goLS ?_|refine goYL ?_|refine d9 ?_|fail)
 first|refine WL.callV (hlv) ?_|refine WD.callV (hlv) ?_
 repeat'(first|refine gA ?_|(refine goG ?_;intro g)|(refine goV ?_;intro v)|refine goE ?_|(refine goEG ?_;intro g)|(refine goEV ?_;intro v)|refine goD ?_|refine goXD ?_|(refine goDG ?_;intro g)|(refine goDV ?_;intro v)|apply WD.more_of|refine WM.more (by exact rfl) (by exact rfl) (by exact rfl) ?_ ?_|refine WM.one (by exact rfl) (by exact rfl) (by exact rfl) ?_|refine WM.more0 (by exact rfl) (by exact rfl) ?_ ?_|refine WM.one0 (by exact rfl) (by exact rfl) ?_|(refine goLG ?_;intro g)|(refine goLV ?_;intro v)|refine goLS ?_|refine goYL ?_|refine d9 ?_|fail)
 exact WC.ret (Fin.v (ResE.t1 rfl rfl) meA rfl)
end U.V
end Go.Proofs.YtaongbhamadlkaaGreat
