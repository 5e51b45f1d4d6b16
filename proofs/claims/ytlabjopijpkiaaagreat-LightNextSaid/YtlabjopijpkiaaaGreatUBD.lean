import Derived.Test.YtlabjopijpkiaaaGreatUBC
set_option maxHeartbeats 16000000
set_option maxRecDepth 20000
set_option linter.unusedSectionVars false
set_option linter.unusedSimpArgs false
set_option linter.unusedVariables false
namespace Go.TL
open Go.Proofs
section
variable [bt]
theorem gΑ (l:List Int):ao Tryz.prog 22 [a2 J 1 l] [] (λr s=>r=.an 0 1 0 0/\s=[b1 ⟨l,1⟩]) (λ_ _=>False):=by
 refine ao.body Φ Tryz.func22 rfl rfl Tryz.ntmps22 rfl rfl θ ?_
 repeat apply ar
 refine um ?_
 repeat apply ar
 refine dG (A:=[5]) Φ λΕ ζ=>bT ?_;apply ζ;refine Ζ ?_;exact W.ret ⟨_,rfl,rfl,rfl⟩
end
end Go.TL
