import Derived.Test.YtlabjopijpkiaaaGreatSAL
set_option maxHeartbeats 16000000
set_option maxRecDepth 20000
set_option linter.unusedSectionVars false
set_option linter.unusedSimpArgs false
set_option linter.unusedVariables false
namespace Go.TL
open Go.Proofs
variable [bm]
@[simp] theorem t3:a6 3=some ⟨1,.int .i64,.int .i64 0,8,none⟩:=by kernel_rfl
@[simp] theorem t4:a6 4=some ⟨1,.bool,.bool false,1,none⟩:=by kernel_rfl
@[simp] theorem t5:a6 5=some ⟨1,.int .u8,.int .u8 0,1,none⟩:=by kernel_rfl
@[simp] theorem t9:a6 9=some ⟨1,.string,.string ⟨#[]⟩,16,none⟩:=by kernel_rfl
@[simp] theorem t21:a6 21=some ⟨1,.int .i32,.int .i32 0,4,none⟩:=by kernel_rfl
@[simp] theorem t22:a6 22=some ⟨1,.slice 77,.slice none 0 0,24,none⟩:=by kernel_rfl
@[simp] theorem jΟ:hp a6 22=some (77,2,none):=by kernel_rfl
@[simp] theorem t23:a6 23=some ⟨1,.slice 29,.slice none 0 0,24,none⟩:=by kernel_rfl
@[simp] theorem jΡ:hp a6 23=some (29,1,none):=by kernel_rfl
@[simp] theorem t24:a6 24=some ⟨1,.slice 60,.slice none 0 0,24,none⟩:=by kernel_rfl
@[simp] theorem jΤ:hp a6 24=some (60,1,none):=by kernel_rfl
noncomputable def Oa:TypeDesc:=((a6 26).getD ⟨0,.bool,.nilFunc,0,none⟩).bD
@[simp] theorem t26:a6 26=some ⟨3,Oa,.agg #[.slice none 0 0,.slice none 0 0,.slice none 0 0],72,none⟩:=by kernel_rfl
@[simp] theorem jΥ:kP Oa=true:=by kernel_rfl
@[simp] theorem jΦ:fG a6 26 0=some (0,22):=by kernel_rfl
@[simp] theorem jΧ:fG a6 26 1=some (1,23):=by kernel_rfl
@[simp] theorem jΨ:fG a6 26 2=some (2,24):=by kernel_rfl
@[simp] theorem jΩ (a7:θ->Bool) (cO:List (Nat×θ)):mB a6 a7 26 cO=ub [(0,1),(1,1),(2,1)] (.agg #[.slice none 0 0,.slice none 0 0,.slice none 0 0]) a7 cO:=by kernel_rfl
noncomputable def Ib:TypeDesc:=((a6 28).getD ⟨0,.bool,.nilFunc,0,none⟩).bD
@[simp] theorem t28:a6 28=some ⟨3,Ib,.agg #[.int .i64 0,.int .i64 0,.int .i64 0],24,some [(.int .i64,0),(.int .i64,1),(.int .i64,2)]⟩:=by kernel_rfl
@[simp] theorem kα:kP Ib=true:=by kernel_rfl
@[simp] theorem kβ:fG a6 28 0=some (0,3):=by kernel_rfl
@[simp] theorem kγ:fG a6 28 1=some (1,3):=by kernel_rfl
@[simp] theorem kδ:fG a6 28 2=some (2,3):=by kernel_rfl
@[simp] theorem kε (a7:θ->Bool) (cO:List (Nat×θ)):mB a6 a7 28 cO=ub [(0,1),(1,1),(2,1)] (.agg #[.int .i64 0,.int .i64 0,.int .i64 0]) a7 cO:=by kernel_rfl
@[simp] theorem t29:a6 29=some ⟨1,.slice 3,.slice none 0 0,24,none⟩:=by kernel_rfl
@[simp] theorem kζ:hp a6 29=some (3,1,none):=by kernel_rfl
@[simp] theorem t38:a6 38=some ⟨1,.int .i64,.int .i64 0,8,none⟩:=by kernel_rfl
@[simp] theorem t48:a6 48=some ⟨1,.slice 54,.slice none 0 0,24,none⟩:=by kernel_rfl
@[simp] theorem kη:hp a6 48=some (54,2,none):=by kernel_rfl
noncomputable def Ic:TypeDesc:=((a6 54).getD ⟨0,.bool,.nilFunc,0,none⟩).bD
@[simp] theorem t54:a6 54=some ⟨2,Ic,.agg #[.slice none 0 0,.slice none 0 0],48,none⟩:=by kernel_rfl
@[simp] theorem kθ:kP Ic=true:=by kernel_rfl
@[simp] theorem kι:fG a6 54 0=some (0,29):=by kernel_rfl
@[simp] theorem kκ:fG a6 54 1=some (1,23):=by kernel_rfl
@[simp] theorem kμ (a7:θ->Bool) (cO:List (Nat×θ)):mB a6 a7 54 cO=ub [(0,1),(1,1)] (.agg #[.slice none 0 0,.slice none 0 0]) a7 cO:=by kernel_rfl
@[simp] theorem t60:a6 60=some ⟨1,.slice 28,.slice none 0 0,24,none⟩:=by kernel_rfl
@[simp] theorem kν:hp a6 60=some (28,3,none):=by kernel_rfl
@[simp] theorem t65:a6 65=some ⟨1,.slice 23,.slice none 0 0,24,none⟩:=by kernel_rfl
@[simp] theorem kξ:hp a6 65=some (23,1,none):=by kernel_rfl
noncomputable def Ob:TypeDesc:=((a6 72).getD ⟨0,.bool,.nilFunc,0,none⟩).bD
@[simp] theorem t72:a6 72=some ⟨1,Ob,.nilFunc,8,none⟩:=by kernel_rfl
@[simp] theorem kο:kP Ob=false:=by kernel_rfl
noncomputable def Ie:TypeDesc:=((a6 77).getD ⟨0,.bool,.nilFunc,0,none⟩).bD
@[simp] theorem t77:a6 77=some ⟨2,Ie,.agg #[.string ⟨#[]⟩,.int .i64 0],24,some [(.string,0),(.int .i64,1)]⟩:=by kernel_rfl
@[simp] theorem kπ:kP Ie=true:=by kernel_rfl
@[simp] theorem kρ:fG a6 77 0=some (0,9):=by kernel_rfl
@[simp] theorem kς:fG a6 77 1=some (1,3):=by kernel_rfl
@[simp] theorem kτ (a7:θ->Bool) (cO:List (Nat×θ)):mB a6 a7 77 cO=ub [(0,1),(1,1)] (.agg #[.string ⟨#[]⟩,.int .i64 0]) a7 cO:=by kernel_rfl
@[simp] theorem t91:a6 91=some ⟨1,.int .u64,.int .u64 0,8,none⟩:=by kernel_rfl
@[simp] theorem kυ:fG a6 93 0=some (0,29):=by kernel_rfl
@[simp] theorem kφ:fG a6 93 1=some (1,91):=by kernel_rfl
@[simp] theorem kχ (a7:θ->Bool) (cO:List (Nat×θ)):mB a6 a7 93 cO=ub [(0,1),(1,1)] (.agg #[.slice none 0 0,.int .u64 0]) a7 cO:=by kernel_rfl
@[simp] theorem t95:a6 95=some ⟨1,.int .u64,.int .u64 0,8,none⟩:=by kernel_rfl
noncomputable def Oc:TypeDesc:=((a6 98).getD ⟨0,.bool,.nilFunc,0,none⟩).bD
@[simp] theorem t98:a6 98=some ⟨3,Oc,.agg #[.slice none 0 0,.slice none 0 0,.slice none 0 0],72,none⟩:=by kernel_rfl
@[simp] theorem kψ:kP Oc=true:=by kernel_rfl
@[simp] theorem kω:fG a6 98 0=some (0,26):=by kernel_rfl
@[simp] theorem kΑ (a7:θ->Bool) (cO:List (Nat×θ)):mB a6 a7 98 cO=ub [(0,3)] (.agg #[.slice none 0 0,.slice none 0 0,.slice none 0 0]) a7 cO:=by kernel_rfl
@[simp] theorem t99:a6 99=some ⟨1,.slice 110,.slice none 0 0,24,none⟩:=by kernel_rfl
@[simp] theorem kΒ:hp a6 99=some (110,3,none):=by kernel_rfl
@[simp] theorem t102:a6 102=some ⟨2,.array 2 3,.agg #[.int .i64 0,.int .i64 0],16,some [(.int .i64,0),(.int .i64,1)]⟩:=by kernel_rfl
@[simp] theorem kΓ:hp a6 102=some (3,1,some 2):=by kernel_rfl
@[simp] theorem kΔ (a7:θ->Bool) (cO:List (Nat×θ)):mB a6 a7 102 cO=Ac 1 (.agg #[.int .i64 0,.int .i64 0]) a7 cO:=by kernel_rfl
noncomputable def XF:TypeDesc:=((a6 104).getD ⟨0,.bool,.nilFunc,0,none⟩).bD
@[simp] theorem t104:a6 104=some ⟨4,XF,.agg #[.int .i64 0,.int .i64 0,.int .i64 0,.bool false],32,none⟩:=by kernel_rfl
@[simp] theorem kΕ:fG a6 104 0=some (0,102):=by kernel_rfl
@[simp] theorem kΖ:fG a6 104 1=some (2,3):=by kernel_rfl
@[simp] theorem kΗ:fG a6 104 2=some (3,4):=by kernel_rfl
@[simp] theorem t106:a6 106=some ⟨1,.map 113 3,.map none,8,none⟩:=by kernel_rfl
@[simp] theorem t107:a6 107=some ⟨2,.array 2 3,.agg #[.int .i64 0,.int .i64 0],16,some [(.int .i64,0),(.int .i64,1)]⟩:=by kernel_rfl
@[simp] theorem kΘ (a7:θ->Bool) (cO:List (Nat×θ)):mB a6 a7 107 cO=Ac 1 (.agg #[.int .i64 0,.int .i64 0]) a7 cO:=by kernel_rfl
@[simp] theorem t108:a6 108=some ⟨1,.slice 111,.slice none 0 0,24,none⟩:=by kernel_rfl
@[simp] theorem kΙ:hp a6 108=some (111,1,none):=by kernel_rfl
noncomputable def Ig:TypeDesc:=((a6 110).getD ⟨0,.bool,.nilFunc,0,none⟩).bD
@[simp] theorem t110:a6 110=some ⟨3,Ig,.agg #[.int .i64 0,.int .i64 0,.slice none 0 0],40,none⟩:=by kernel_rfl
@[simp] theorem kΚ:kP Ig=true:=by kernel_rfl
@[simp] theorem kΜ:fG a6 110 0=some (0,107):=by kernel_rfl
@[simp] theorem kΝ:fG a6 110 1=some (2,108):=by kernel_rfl
@[simp] theorem kΞ (a7:θ->Bool) (cO:List (Nat×θ)):mB a6 a7 110 cO=ub [(0,2),(2,1)] (.agg #[.int .i64 0,.int .i64 0,.slice none 0 0]) a7 cO:=by kernel_rfl
@[simp] theorem t111:a6 111=some ⟨1,.slice 112,.slice none 0 0,24,none⟩:=by kernel_rfl
@[simp] theorem kΟ:hp a6 111=some (112,2,none):=by kernel_rfl
@[simp] theorem t112:a6 112=some ⟨2,.array 2 3,.agg #[.int .i64 0,.int .i64 0],16,some [(.int .i64,0),(.int .i64,1)]⟩:=by kernel_rfl
@[simp] theorem kΡ:hp a6 112=some (3,1,some 2):=by kernel_rfl
@[simp] theorem kΤ (a7:θ->Bool) (cO:List (Nat×θ)):mB a6 a7 112 cO=Ac 1 (.agg #[.int .i64 0,.int .i64 0]) a7 cO:=by kernel_rfl
@[simp] theorem t113:a6 113=some ⟨1,.int .i64,.int .i64 0,8,none⟩:=by kernel_rfl
@[simp] theorem t132:a6 132=some ⟨1,.slice 21,.slice none 0 0,24,none⟩:=by kernel_rfl
@[simp] theorem kΥ:hp a6 132=some (21,1,none):=by kernel_rfl
@[simp] theorem t139:a6 139=some ⟨3,.array 3 72,.agg #[.nilFunc,.nilFunc,.nilFunc],24,none⟩:=by kernel_rfl
@[simp] theorem kΦ (a7:θ->Bool) (cO:List (Nat×θ)):mB a6 a7 139 cO=Ac 1 (.agg #[.nilFunc,.nilFunc,.nilFunc]) a7 cO:=by kernel_rfl
@[simp] theorem t156:a6 156=some ⟨1,.map 157 3,.map none,8,none⟩:=by kernel_rfl
@[simp] theorem t157:a6 157=some ⟨4,.array 4 113,.agg #[.int .i64 0,.int .i64 0,.int .i64 0,.int .i64 0],32,some [(.int .i64,0),(.int .i64,1),(.int .i64,2),(.int .i64,3)]⟩:=by kernel_rfl
@[simp] theorem kΧ:hp a6 157=some (113,1,some 4):=by kernel_rfl
@[simp] theorem t169:a6 169=some ⟨1,.int .u32,.int .u32 0,4,none⟩:=by kernel_rfl
@[simp] theorem kΨ:fG a6 171 0=some (0,21):=by kernel_rfl
@[simp] theorem kΩ:fG a6 171 1=some (1,169):=by kernel_rfl
@[simp] theorem lα:fG a6 173 1=some (0,171):=by kernel_rfl
@[simp] theorem lβ:fG a6 177 2=some (0,91):=by kernel_rfl
@[simp] theorem lγ:fG a6 179 1=some (0,177):=by kernel_rfl
@[simp] theorem lδ:fG a6 179 2=some (1,169):=by kernel_rfl
@[simp] theorem t190:a6 190=some ⟨1,.slice 9,.slice none 0 0,24,none⟩:=by kernel_rfl
@[simp] theorem lε:hp a6 190=some (9,1,none):=by kernel_rfl
@[simp] theorem t204:a6 204=some ⟨1,.map 112 4,.map none,8,none⟩:=by kernel_rfl
@[simp] theorem t248:a6 248=some ⟨1,.int .u64,.int .u64 0,8,none⟩:=by kernel_rfl
@[simp] theorem lζ:ku a6 22 22=some (77,2,⟨2,Ie,.agg #[.string ⟨#[]⟩,.int .i64 0],24,some [(.string,0),(.int .i64,1)]⟩):=by kernel_rfl
@[simp] theorem lη:ku a6 23 23=some (29,1,⟨1,.slice 3,.slice none 0 0,24,none⟩):=by kernel_rfl
@[simp] theorem lθ:ku a6 24 24=some (60,1,⟨1,.slice 28,.slice none 0 0,24,none⟩):=by kernel_rfl
@[simp] theorem lι:ku a6 29 29=some (3,1,⟨1,.int .i64,.int .i64 0,8,none⟩):=by kernel_rfl
@[simp] theorem lκ:ku a6 48 48=some (54,2,⟨2,Ic,.agg #[.slice none 0 0,.slice none 0 0],48,none⟩):=by kernel_rfl
@[simp] theorem lμ:ku a6 60 60=some (28,3,⟨3,Ib,.agg #[.int .i64 0,.int .i64 0,.int .i64 0],24,some [(.int .i64,0),(.int .i64,1),(.int .i64,2)]⟩):=by kernel_rfl
@[simp] theorem lν:ku a6 65 65=some (23,1,⟨1,.slice 29,.slice none 0 0,24,none⟩):=by kernel_rfl
@[simp] theorem lξ:ku a6 99 99=some (110,3,⟨3,Ig,.agg #[.int .i64 0,.int .i64 0,.slice none 0 0],40,none⟩):=by kernel_rfl
@[simp] theorem lο:ku a6 108 108=some (111,1,⟨1,.slice 112,.slice none 0 0,24,none⟩):=by kernel_rfl
@[simp] theorem lπ:ku a6 111 111=some (112,2,⟨2,.array 2 3,.agg #[.int .i64 0,.int .i64 0],16,some [(.int .i64,0),(.int .i64,1)]⟩):=by kernel_rfl
@[simp] theorem lρ:ku a6 132 132=some (21,1,⟨1,.int .i32,.int .i32 0,4,none⟩):=by kernel_rfl
end Go.TL
