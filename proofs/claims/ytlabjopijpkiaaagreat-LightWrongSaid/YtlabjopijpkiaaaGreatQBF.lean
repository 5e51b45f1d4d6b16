import Derived.Test.YtlabjopijpkiaaaGreatQBE
set_option maxHeartbeats 16000000
set_option maxRecDepth 20000
set_option linter.unusedSectionVars false
set_option linter.unusedSimpArgs false
set_option linter.unusedVariables false
namespace Go.TL
open Go.Proofs
section
variable [bn]
theorem fτ (l:List Int):ak Tryz.prog 22 [bf R 1 l] [] (λr s=>r=.Ψ 0 1 0 0/\s=[b4 ⟨l,1⟩]) (λ_ _=>False):=by
 refine ak.body Κ Tryz.func22 rfl rfl Tryz.ntmps22 rfl rfl (by simp) ?_
 repeat apply κ
 refine ξ λη I=>?_;simp;(repeat (rw[δ];simp));apply I
 repeat apply κ
 refine c7 (A:=[5]) Κ λη I=>?_;simp;(repeat (rw[δ];simp));apply I;(repeat (first|apply κ|(refine ξ λη I=>?_;simp;(repeat (rw[δ];simp));apply I)));exact W.ret ⟨_,rfl,rfl,rfl⟩
end
end Go.TL
