import Derived.Test.YtlabjopijpkiaaaGreatSBD
set_option maxHeartbeats 16000000
set_option maxRecDepth 20000
set_option linter.unusedSectionVars false
set_option linter.unusedSimpArgs false
set_option linter.unusedVariables false
namespace Go.TL
open Go.Proofs
section
variable [bm]
theorem gΙ (l:List Int):ak Tryz.prog 22 [aP R 1 l] [] (λr s=>r=.al 0 1 0 0/\s=[b6 ⟨l,1⟩]) (λ_ _=>False):=by
 refine ak.body Ι Tryz.func22 rfl rfl Tryz.ntmps22 rfl rfl (by simp) ?_
 repeat apply κ
 refine ν λη I=>?_;simp;(repeat (rw[δ];simp));apply I
 repeat apply κ
 refine dw (A:=[5]) Ι λη I=>?_;simp;(repeat (rw[δ];simp));apply I;(repeat (first|apply κ|(refine ν λη I=>?_;simp;(repeat (rw[δ];simp));apply I)));exact W.ret ⟨_,rfl,rfl,rfl⟩
end
end Go.TL
