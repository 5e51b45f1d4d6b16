import Derived.Test.YtlabjopijpkiaaaGreatCBC
set_option maxHeartbeats 16000000
set_option maxRecDepth 20000
set_option linter.unusedSectionVars false
set_option linter.unusedSimpArgs false
set_option linter.unusedVariables false
namespace Go.TL
open Go.Proofs
section
variable [bp]
theorem fς (l:List Int):ab Tryz.prog 22 [bt I 1 l] [] (λr s=>r=.ah 0 1 0 0/\s=[bz ⟨l,1⟩]) (λ_ _=>False):=by
 refine ab.body Υ Tryz.func22 rfl rfl Tryz.ntmps22 rfl rfl ζ ?_
 repeat apply Ω
 refine lE ?_
 repeat apply Ω
 refine dB (A:=[5]) Υ λΘ θ=>bD ?_;apply θ;refine Η ?_;exact W.ret ⟨_,rfl,rfl,rfl⟩
end
end Go.TL
