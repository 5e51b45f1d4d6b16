import Derived.Test.YtlabjopijpkiaaaGreatJAW
set_option maxHeartbeats 16000000
set_option maxRecDepth 20000
set_option linter.unusedSectionVars false
set_option linter.unusedSimpArgs false
set_option linter.unusedVariables false
namespace Go.TL
open Go.Proofs
variable [ZX]
theorem Ff (l:List (Int×Int)):Zh (NS l) (ξ (l.map λx=>[x.1,x.2])):=by
 refine .sl I λi a b c d=>?_;rw[YU] at c d;rw[YU] at d;cases e:l[i]? with
 | none=>rw[e] at c;cases c
 | some x=>rw[e] at c d;cases c;cases d;exact .one .ex rfl rfl
end Go.TL
