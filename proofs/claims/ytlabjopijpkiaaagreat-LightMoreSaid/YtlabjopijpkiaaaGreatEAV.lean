import Derived.Test.YtlabjopijpkiaaaGreatEAU
set_option maxHeartbeats 16000000
set_option maxRecDepth 20000
set_option linter.unusedSectionVars false
set_option linter.unusedSimpArgs false
set_option linter.unusedVariables false
namespace Go.TL
open Go.Proofs
section
variable [bq]
theorem gΝ (l:List Int):af Tryz.prog 22 [bD I 1 l] [] (λr s=>r=.ak 0 1 0 0/\s=[b4 ⟨l,1⟩]) (λ_ _=>False):=by
 refine af.body Φ Tryz.func22 rfl rfl Tryz.ntmps22 rfl rfl η ?_
 repeat apply ae
 refine l9 ?_
 repeat apply ae
 refine dj (A:=[5]) Φ λΚ κ=>bp ?_;apply κ;refine Η ?_;exact W.ret ⟨_,rfl,rfl,rfl⟩
end
end Go.TL
