import Derived.Test.YtlabjopijpkiaaaGreatQBU
set_option maxHeartbeats 16000000
set_option maxRecDepth 20000
set_option linter.unusedSectionVars false
set_option linter.unusedSimpArgs false
set_option linter.unusedVariables false
namespace Go.TL
open Go.Proofs
section
variable [bd]
theorem cΡ (l:List Int):ak Tryz.prog 22 [a3 U 1 l] [] (fun r s=>r=.ag 0 1 0 0∧s=[b1 ⟨l,1⟩]) (fun _ _=>False):=by
 refine ak.body Θ Tryz.func22 rfl rfl Tryz.ntmps22 rfl rfl (by simp) ?_
 repeat first|apply ι
 refine ν fun J I=>?_;simp;(repeat (rw[ζ];simp));apply I;clear I J
 repeat first|apply ι
 refine de (A:=[5]) Θ fun J I=>?_;simp;(repeat (rw[ζ];simp));apply I;clear I J;(repeat (first|apply ι|(refine ν fun J I=>?_;simp;(repeat (rw[ζ];simp));apply I;clear I J)));exact W.ret ⟨_,rfl,rfl,rfl⟩
end
end Go.TL
