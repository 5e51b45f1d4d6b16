import Derived.Test.YtlabjopijpkiaaaGreatQAT
set_option maxHeartbeats 16000000
set_option maxRecDepth 20000
set_option linter.unusedSectionVars false
set_option linter.unusedSimpArgs false
set_option linter.unusedVariables false
namespace Go.TL
open Go.Proofs
variable [bd]
@[simp] theorem t3:a9 3=some ⟨1,.int .i64,.int .i64 0,8,none⟩:=by kernel_rfl
@[simp] theorem t4:a9 4=some ⟨1,.bool,.bool false,1,none⟩:=by kernel_rfl
@[simp] theorem t5:a9 5=some ⟨1,.int .u8,.int .u8 0,1,none⟩:=by kernel_rfl
@[simp] theorem t9:a9 9=some ⟨1,.string,.string ⟨#[]⟩,16,none⟩:=by kernel_rfl
@[simp] theorem t21:a9 21=some ⟨1,.int .i32,.int .i32 0,4,none⟩:=by kernel_rfl
@[simp] theorem t22:a9 22=some ⟨1,.slice 77,.slice none 0 0,24,none⟩:=by kernel_rfl
@[simp] theorem eΔ:hg a9 22=some (77,2,none):=by kernel_rfl
@[simp] theorem t23:a9 23=some ⟨1,.slice 29,.slice none 0 0,24,none⟩:=by kernel_rfl
@[simp] theorem eΕ:hg a9 23=some (29,1,none):=by kernel_rfl
@[simp] theorem t24:a9 24=some ⟨1,.slice 60,.slice none 0 0,24,none⟩:=by kernel_rfl
@[simp] theorem eΖ:hg a9 24=some (60,1,none):=by kernel_rfl
noncomputable def LV:TypeDesc:=((a9 26).getD ⟨0,.bool,.nilFunc,0,none⟩).bA
@[simp] theorem t26:a9 26=some ⟨3,LV,.agg #[.slice none 0 0,.slice none 0 0,.slice none 0 0],72,none⟩:=by kernel_rfl
@[simp] theorem eΗ:kV LV=true:=by kernel_rfl
@[simp] theorem eΘ:fR a9 26 0=some (0,22):=by kernel_rfl
@[simp] theorem eΙ:fR a9 26 1=some (1,23):=by kernel_rfl
@[simp] theorem eΚ:fR a9 26 2=some (2,24):=by kernel_rfl
@[simp] theorem eΜ (a0:θ→Bool) (cK:List (Nat×θ)):mz a9 a0 26 cK=uR [(0,1),(1,1),(2,1)] (.agg #[.slice none 0 0,.slice none 0 0,.slice none 0 0]) a0 cK:=by kernel_rfl
noncomputable def GB:TypeDesc:=((a9 28).getD ⟨0,.bool,.nilFunc,0,none⟩).bA
@[simp] theorem t28:a9 28=some ⟨3,GB,.agg #[.int .i64 0,.int .i64 0,.int .i64 0],24,some [(.int .i64,0),(.int .i64,1),(.int .i64,2)]⟩:=by kernel_rfl
@[simp] theorem eΝ:kV GB=true:=by kernel_rfl
@[simp] theorem eΞ:fR a9 28 0=some (0,3):=by kernel_rfl
@[simp] theorem eΟ:fR a9 28 1=some (1,3):=by kernel_rfl
@[simp] theorem eΡ:fR a9 28 2=some (2,3):=by kernel_rfl
@[simp] theorem eΤ (a0:θ→Bool) (cK:List (Nat×θ)):mz a9 a0 28 cK=uR [(0,1),(1,1),(2,1)] (.agg #[.int .i64 0,.int .i64 0,.int .i64 0]) a0 cK:=by kernel_rfl
@[simp] theorem t29:a9 29=some ⟨1,.slice 3,.slice none 0 0,24,none⟩:=by kernel_rfl
@[simp] theorem eΥ:hg a9 29=some (3,1,none):=by kernel_rfl
@[simp] theorem t38:a9 38=some ⟨1,.int .i64,.int .i64 0,8,none⟩:=by kernel_rfl
@[simp] theorem t60:a9 60=some ⟨1,.slice 28,.slice none 0 0,24,none⟩:=by kernel_rfl
@[simp] theorem eΦ:hg a9 60=some (28,3,none):=by kernel_rfl
@[simp] theorem eΧ:hg a9 65=some (23,1,none):=by kernel_rfl
noncomputable def LW:TypeDesc:=((a9 72).getD ⟨0,.bool,.nilFunc,0,none⟩).bA
@[simp] theorem t72:a9 72=some ⟨1,LW,.nilFunc,8,none⟩:=by kernel_rfl
@[simp] theorem eΨ:kV LW=false:=by kernel_rfl
noncomputable def GC:TypeDesc:=((a9 77).getD ⟨0,.bool,.nilFunc,0,none⟩).bA
@[simp] theorem t77:a9 77=some ⟨2,GC,.agg #[.string ⟨#[]⟩,.int .i64 0],24,some [(.string,0),(.int .i64,1)]⟩:=by kernel_rfl
@[simp] theorem eΩ:kV GC=true:=by kernel_rfl
@[simp] theorem fα:fR a9 77 0=some (0,9):=by kernel_rfl
@[simp] theorem fβ:fR a9 77 1=some (1,3):=by kernel_rfl
@[simp] theorem fγ (a0:θ→Bool) (cK:List (Nat×θ)):mz a9 a0 77 cK=uR [(0,1),(1,1)] (.agg #[.string ⟨#[]⟩,.int .i64 0]) a0 cK:=by kernel_rfl
@[simp] theorem t91:a9 91=some ⟨1,.int .u64,.int .u64 0,8,none⟩:=by kernel_rfl
@[simp] theorem fδ:fR a9 93 0=some (0,29):=by kernel_rfl
@[simp] theorem fε:fR a9 93 1=some (1,91):=by kernel_rfl
@[simp] theorem fζ (a0:θ→Bool) (cK:List (Nat×θ)):mz a9 a0 93 cK=uR [(0,1),(1,1)] (.agg #[.slice none 0 0,.int .u64 0]) a0 cK:=by kernel_rfl
@[simp] theorem t95:a9 95=some ⟨1,.int .u64,.int .u64 0,8,none⟩:=by kernel_rfl
noncomputable def LX:TypeDesc:=((a9 98).getD ⟨0,.bool,.nilFunc,0,none⟩).bA
@[simp] theorem t98:a9 98=some ⟨3,LX,.agg #[.slice none 0 0,.slice none 0 0,.slice none 0 0],72,none⟩:=by kernel_rfl
@[simp] theorem fη:kV LX=true:=by kernel_rfl
@[simp] theorem fθ:fR a9 98 0=some (0,26):=by kernel_rfl
@[simp] theorem fι (a0:θ→Bool) (cK:List (Nat×θ)):mz a9 a0 98 cK=uR [(0,3)] (.agg #[.slice none 0 0,.slice none 0 0,.slice none 0 0]) a0 cK:=by kernel_rfl
@[simp] theorem t99:a9 99=some ⟨1,.slice 110,.slice none 0 0,24,none⟩:=by kernel_rfl
@[simp] theorem fκ:hg a9 99=some (110,3,none):=by kernel_rfl
@[simp] theorem t102:a9 102=some ⟨2,.array 2 3,.agg #[.int .i64 0,.int .i64 0],16,some [(.int .i64,0),(.int .i64,1)]⟩:=by kernel_rfl
@[simp] theorem fμ:hg a9 102=some (3,1,some 2):=by kernel_rfl
@[simp] theorem fν (a0:θ→Bool) (cK:List (Nat×θ)):mz a9 a0 102 cK=y9 1 (.agg #[.int .i64 0,.int .i64 0]) a0 cK:=by kernel_rfl
noncomputable def Ux:TypeDesc:=((a9 104).getD ⟨0,.bool,.nilFunc,0,none⟩).bA
@[simp] theorem t104:a9 104=some ⟨4,Ux,.agg #[.int .i64 0,.int .i64 0,.int .i64 0,.bool false],32,none⟩:=by kernel_rfl
@[simp] theorem fξ:fR a9 104 0=some (0,102):=by kernel_rfl
@[simp] theorem fο:fR a9 104 1=some (2,3):=by kernel_rfl
@[simp] theorem fπ:fR a9 104 2=some (3,4):=by kernel_rfl
@[simp] theorem t106:a9 106=some ⟨1,.map 113 3,.map none,8,none⟩:=by kernel_rfl
@[simp] theorem t107:a9 107=some ⟨2,.array 2 3,.agg #[.int .i64 0,.int .i64 0],16,some [(.int .i64,0),(.int .i64,1)]⟩:=by kernel_rfl
@[simp] theorem fρ (a0:θ→Bool) (cK:List (Nat×θ)):mz a9 a0 107 cK=y9 1 (.agg #[.int .i64 0,.int .i64 0]) a0 cK:=by kernel_rfl
@[simp] theorem t108:a9 108=some ⟨1,.slice 111,.slice none 0 0,24,none⟩:=by kernel_rfl
@[simp] theorem fς:hg a9 108=some (111,1,none):=by kernel_rfl
noncomputable def GD:TypeDesc:=((a9 110).getD ⟨0,.bool,.nilFunc,0,none⟩).bA
@[simp] theorem t110:a9 110=some ⟨3,GD,.agg #[.int .i64 0,.int .i64 0,.slice none 0 0],40,none⟩:=by kernel_rfl
@[simp] theorem fτ:kV GD=true:=by kernel_rfl
@[simp] theorem fυ:fR a9 110 0=some (0,107):=by kernel_rfl
@[simp] theorem fφ:fR a9 110 1=some (2,108):=by kernel_rfl
@[simp] theorem fχ (a0:θ→Bool) (cK:List (Nat×θ)):mz a9 a0 110 cK=uR [(0,2),(2,1)] (.agg #[.int .i64 0,.int .i64 0,.slice none 0 0]) a0 cK:=by kernel_rfl
@[simp] theorem t111:a9 111=some ⟨1,.slice 112,.slice none 0 0,24,none⟩:=by kernel_rfl
@[simp] theorem fψ:hg a9 111=some (112,2,none):=by kernel_rfl
@[simp] theorem t112:a9 112=some ⟨2,.array 2 3,.agg #[.int .i64 0,.int .i64 0],16,some [(.int .i64,0),(.int .i64,1)]⟩:=by kernel_rfl
@[simp] theorem fω:hg a9 112=some (3,1,some 2):=by kernel_rfl
@[simp] theorem fΑ (a0:θ→Bool) (cK:List (Nat×θ)):mz a9 a0 112 cK=y9 1 (.agg #[.int .i64 0,.int .i64 0]) a0 cK:=by kernel_rfl
@[simp] theorem t113:a9 113=some ⟨1,.int .i64,.int .i64 0,8,none⟩:=by kernel_rfl
@[simp] theorem t132:a9 132=some ⟨1,.slice 21,.slice none 0 0,24,none⟩:=by kernel_rfl
@[simp] theorem fΒ:hg a9 132=some (21,1,none):=by kernel_rfl
@[simp] theorem t139:a9 139=some ⟨3,.array 3 72,.agg #[.nilFunc,.nilFunc,.nilFunc],24,none⟩:=by kernel_rfl
@[simp] theorem fΓ (a0:θ→Bool) (cK:List (Nat×θ)):mz a9 a0 139 cK=y9 1 (.agg #[.nilFunc,.nilFunc,.nilFunc]) a0 cK:=by kernel_rfl
@[simp] theorem t156:a9 156=some ⟨1,.map 157 3,.map none,8,none⟩:=by kernel_rfl
@[simp] theorem t157:a9 157=some ⟨4,.array 4 113,.agg #[.int .i64 0,.int .i64 0,.int .i64 0,.int .i64 0],32,some [(.int .i64,0),(.int .i64,1),(.int .i64,2),(.int .i64,3)]⟩:=by kernel_rfl
@[simp] theorem fΔ:hg a9 157=some (113,1,some 4):=by kernel_rfl
@[simp] theorem t169:a9 169=some ⟨1,.int .u32,.int .u32 0,4,none⟩:=by kernel_rfl
@[simp] theorem fΕ:fR a9 171 0=some (0,21):=by kernel_rfl
@[simp] theorem fΖ:fR a9 171 1=some (1,169):=by kernel_rfl
@[simp] theorem fΗ:fR a9 173 1=some (0,171):=by kernel_rfl
@[simp] theorem fΘ:fR a9 177 2=some (0,91):=by kernel_rfl
@[simp] theorem fΙ:fR a9 179 1=some (0,177):=by kernel_rfl
@[simp] theorem fΚ:fR a9 179 2=some (1,169):=by kernel_rfl
@[simp] theorem t190:a9 190=some ⟨1,.slice 9,.slice none 0 0,24,none⟩:=by kernel_rfl
@[simp] theorem fΜ:hg a9 190=some (9,1,none):=by kernel_rfl
@[simp] theorem t204:a9 204=some ⟨1,.map 112 4,.map none,8,none⟩:=by kernel_rfl
@[simp] theorem t248:a9 248=some ⟨1,.int .u64,.int .u64 0,8,none⟩:=by kernel_rfl
@[simp] theorem fΝ:kh a9 22 22=some (77,2,⟨2,GC,.agg #[.string ⟨#[]⟩,.int .i64 0],24,some [(.string,0),(.int .i64,1)]⟩):=by kernel_rfl
@[simp] theorem fΞ:kh a9 23 23=some (29,1,⟨1,.slice 3,.slice none 0 0,24,none⟩):=by kernel_rfl
@[simp] theorem fΟ:kh a9 24 24=some (60,1,⟨1,.slice 28,.slice none 0 0,24,none⟩):=by kernel_rfl
@[simp] theorem fΡ:kh a9 29 29=some (3,1,⟨1,.int .i64,.int .i64 0,8,none⟩):=by kernel_rfl
@[simp] theorem fΤ:kh a9 60 60=some (28,3,⟨3,GB,.agg #[.int .i64 0,.int .i64 0,.int .i64 0],24,some [(.int .i64,0),(.int .i64,1),(.int .i64,2)]⟩):=by kernel_rfl
@[simp] theorem fΥ:kh a9 65 65=some (23,1,⟨1,.slice 29,.slice none 0 0,24,none⟩):=by kernel_rfl
@[simp] theorem fΦ:kh a9 99 99=some (110,3,⟨3,GD,.agg #[.int .i64 0,.int .i64 0,.slice none 0 0],40,none⟩):=by kernel_rfl
@[simp] theorem fΧ:kh a9 108 108=some (111,1,⟨1,.slice 112,.slice none 0 0,24,none⟩):=by kernel_rfl
@[simp] theorem fΨ:kh a9 111 111=some (112,2,⟨2,.array 2 3,.agg #[.int .i64 0,.int .i64 0],16,some [(.int .i64,0),(.int .i64,1)]⟩):=by kernel_rfl
@[simp] theorem fΩ:kh a9 132 132=some (21,1,⟨1,.int .i32,.int .i32 0,4,none⟩):=by kernel_rfl
end Go.TL
