import Derived.Test.YtlabjopijpkiaaaGreatVBC
set_option maxHeartbeats 16000000
set_option maxRecDepth 20000
set_option linter.unusedSectionVars false
set_option linter.unusedSimpArgs false
set_option linter.unusedVariables false
namespace Go.TL
open Go.Proofs
section
variable [bn]
theorem dΝ (l:List Int):ae Tryz.prog 22 [bO I 1 l] [] (λr s=>r=.ar 0 1 0 0/\s=[cb ⟨l,1⟩]) (λ_ _=>False):=by
 refine ae.body Ρ Tryz.func22 rfl rfl Tryz.ntmps22 rfl rfl η ?_
 repeat apply ad
 refine mQ ?_
 repeat apply ad
 refine dM (A:=[5]) Ρ λΕ ζ=>bD ?_;apply ζ;refine Η ?_;exact W.ret ⟨_,rfl,rfl,rfl⟩
end
end Go.TL
