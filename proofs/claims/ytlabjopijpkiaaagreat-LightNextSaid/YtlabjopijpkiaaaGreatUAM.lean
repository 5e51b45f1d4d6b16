import Derived.Test.YtlabjopijpkiaaaGreatUAL
set_option maxHeartbeats 16000000
set_option maxRecDepth 20000
set_option linter.unusedSectionVars false
set_option linter.unusedSimpArgs false
set_option linter.unusedVariables false
namespace Go.TL
open Go.Proofs
variable [bt]
@[simp] theorem t3:a7 3=some ⟨1,.int .i64,.int .i64 0,8,none⟩:=by kernel_rfl
@[simp] theorem t4:a7 4=some ⟨1,.bool,.bool false,1,none⟩:=by kernel_rfl
@[simp] theorem t5:a7 5=some ⟨1,.int .u8,.int .u8 0,1,none⟩:=by kernel_rfl
@[simp] theorem t9:a7 9=some ⟨1,.string,.string ⟨#[]⟩,16,none⟩:=by kernel_rfl
@[simp] theorem t21:a7 21=some ⟨1,.int .i32,.int .i32 0,4,none⟩:=by kernel_rfl
@[simp] theorem t22:a7 22=some ⟨1,.slice 77,.slice none 0 0,24,none⟩:=by kernel_rfl
@[simp] theorem jΕ:hB a7 22=some (77,2,none):=by kernel_rfl
@[simp] theorem t23:a7 23=some ⟨1,.slice 29,.slice none 0 0,24,none⟩:=by kernel_rfl
@[simp] theorem jΖ:hB a7 23=some (29,1,none):=by kernel_rfl
@[simp] theorem t24:a7 24=some ⟨1,.slice 60,.slice none 0 0,24,none⟩:=by kernel_rfl
@[simp] theorem jΗ:hB a7 24=some (60,1,none):=by kernel_rfl
noncomputable def On:TypeDesc:=((a7 26).getD ⟨0,.bool,.nilFunc,0,none⟩).bG
@[simp] theorem t26:a7 26=some ⟨3,On,.agg #[.slice none 0 0,.slice none 0 0,.slice none 0 0],72,none⟩:=by kernel_rfl
@[simp] theorem jΘ:lU On=true:=by kernel_rfl
@[simp] theorem jΙ:fT a7 26 0=some (0,22):=by kernel_rfl
@[simp] theorem jΚ:fT a7 26 1=some (1,23):=by kernel_rfl
@[simp] theorem jΜ:fT a7 26 2=some (2,24):=by kernel_rfl
@[simp] theorem jΝ (a9:η->Bool) (cT:List (Nat×η)):mL a7 a9 26 cT=uk [(0,1),(1,1),(2,1)] (.agg #[.slice none 0 0,.slice none 0 0,.slice none 0 0]) a9 cT:=by kernel_rfl
noncomputable def Iv:TypeDesc:=((a7 28).getD ⟨0,.bool,.nilFunc,0,none⟩).bG
@[simp] theorem t28:a7 28=some ⟨3,Iv,.agg #[.int .i64 0,.int .i64 0,.int .i64 0],24,some [(.int .i64,0),(.int .i64,1),(.int .i64,2)]⟩:=by kernel_rfl
@[simp] theorem jΞ:lU Iv=true:=by kernel_rfl
@[simp] theorem jΟ:fT a7 28 0=some (0,3):=by kernel_rfl
@[simp] theorem jΡ:fT a7 28 1=some (1,3):=by kernel_rfl
@[simp] theorem jΤ:fT a7 28 2=some (2,3):=by kernel_rfl
@[simp] theorem jΥ (a9:η->Bool) (cT:List (Nat×η)):mL a7 a9 28 cT=uk [(0,1),(1,1),(2,1)] (.agg #[.int .i64 0,.int .i64 0,.int .i64 0]) a9 cT:=by kernel_rfl
@[simp] theorem t29:a7 29=some ⟨1,.slice 3,.slice none 0 0,24,none⟩:=by kernel_rfl
@[simp] theorem jΦ:hB a7 29=some (3,1,none):=by kernel_rfl
@[simp] theorem t38:a7 38=some ⟨1,.int .i64,.int .i64 0,8,none⟩:=by kernel_rfl
@[simp] theorem t48:a7 48=some ⟨1,.slice 54,.slice none 0 0,24,none⟩:=by kernel_rfl
@[simp] theorem jΧ:hB a7 48=some (54,2,none):=by kernel_rfl
noncomputable def Oo:TypeDesc:=((a7 54).getD ⟨0,.bool,.nilFunc,0,none⟩).bG
@[simp] theorem t54:a7 54=some ⟨2,Oo,.agg #[.slice none 0 0,.slice none 0 0],48,none⟩:=by kernel_rfl
@[simp] theorem jΨ:fT a7 54 0=some (0,29):=by kernel_rfl
@[simp] theorem jΩ:fT a7 54 1=some (1,23):=by kernel_rfl
@[simp] theorem kα (a9:η->Bool) (cT:List (Nat×η)):mL a7 a9 54 cT=uk [(0,1),(1,1)] (.agg #[.slice none 0 0,.slice none 0 0]) a9 cT:=by kernel_rfl
@[simp] theorem t60:a7 60=some ⟨1,.slice 28,.slice none 0 0,24,none⟩:=by kernel_rfl
@[simp] theorem kβ:hB a7 60=some (28,3,none):=by kernel_rfl
@[simp] theorem t65:a7 65=some ⟨1,.slice 23,.slice none 0 0,24,none⟩:=by kernel_rfl
@[simp] theorem kγ:hB a7 65=some (23,1,none):=by kernel_rfl
noncomputable def Oq:TypeDesc:=((a7 72).getD ⟨0,.bool,.nilFunc,0,none⟩).bG
@[simp] theorem t72:a7 72=some ⟨1,Oq,.nilFunc,8,none⟩:=by kernel_rfl
@[simp] theorem kδ:lU Oq=false:=by kernel_rfl
noncomputable def Iw:TypeDesc:=((a7 77).getD ⟨0,.bool,.nilFunc,0,none⟩).bG
@[simp] theorem t77:a7 77=some ⟨2,Iw,.agg #[.string ⟨#[]⟩,.int .i64 0],24,some [(.string,0),(.int .i64,1)]⟩:=by kernel_rfl
@[simp] theorem kε:lU Iw=true:=by kernel_rfl
@[simp] theorem kζ:fT a7 77 0=some (0,9):=by kernel_rfl
@[simp] theorem kη:fT a7 77 1=some (1,3):=by kernel_rfl
@[simp] theorem kθ (a9:η->Bool) (cT:List (Nat×η)):mL a7 a9 77 cT=uk [(0,1),(1,1)] (.agg #[.string ⟨#[]⟩,.int .i64 0]) a9 cT:=by kernel_rfl
@[simp] theorem t91:a7 91=some ⟨1,.int .u64,.int .u64 0,8,none⟩:=by kernel_rfl
@[simp] theorem kι:fT a7 93 0=some (0,29):=by kernel_rfl
@[simp] theorem kκ:fT a7 93 1=some (1,91):=by kernel_rfl
@[simp] theorem kμ (a9:η->Bool) (cT:List (Nat×η)):mL a7 a9 93 cT=uk [(0,1),(1,1)] (.agg #[.slice none 0 0,.int .u64 0]) a9 cT:=by kernel_rfl
@[simp] theorem t95:a7 95=some ⟨1,.int .u64,.int .u64 0,8,none⟩:=by kernel_rfl
noncomputable def Ot:TypeDesc:=((a7 98).getD ⟨0,.bool,.nilFunc,0,none⟩).bG
@[simp] theorem t98:a7 98=some ⟨3,Ot,.agg #[.slice none 0 0,.slice none 0 0,.slice none 0 0],72,none⟩:=by kernel_rfl
@[simp] theorem kν:lU Ot=true:=by kernel_rfl
@[simp] theorem kξ:fT a7 98 0=some (0,26):=by kernel_rfl
@[simp] theorem kο (a9:η->Bool) (cT:List (Nat×η)):mL a7 a9 98 cT=uk [(0,3)] (.agg #[.slice none 0 0,.slice none 0 0,.slice none 0 0]) a9 cT:=by kernel_rfl
@[simp] theorem t99:a7 99=some ⟨1,.slice 110,.slice none 0 0,24,none⟩:=by kernel_rfl
@[simp] theorem kπ:hB a7 99=some (110,3,none):=by kernel_rfl
@[simp] theorem t102:a7 102=some ⟨2,.array 2 3,.agg #[.int .i64 0,.int .i64 0],16,some [(.int .i64,0),(.int .i64,1)]⟩:=by kernel_rfl
@[simp] theorem kρ:hB a7 102=some (3,1,some 2):=by kernel_rfl
@[simp] theorem kς (a9:η->Bool) (cT:List (Nat×η)):mL a7 a9 102 cT=Aq 1 (.agg #[.int .i64 0,.int .i64 0]) a9 cT:=by kernel_rfl
noncomputable def XJ:TypeDesc:=((a7 104).getD ⟨0,.bool,.nilFunc,0,none⟩).bG
@[simp] theorem t104:a7 104=some ⟨4,XJ,.agg #[.int .i64 0,.int .i64 0,.int .i64 0,.bool false],32,none⟩:=by kernel_rfl
@[simp] theorem kτ:fT a7 104 0=some (0,102):=by kernel_rfl
@[simp] theorem kυ:fT a7 104 1=some (2,3):=by kernel_rfl
@[simp] theorem kφ:fT a7 104 2=some (3,4):=by kernel_rfl
@[simp] theorem t106:a7 106=some ⟨1,.map 113 3,.map none,8,none⟩:=by kernel_rfl
@[simp] theorem t107:a7 107=some ⟨2,.array 2 3,.agg #[.int .i64 0,.int .i64 0],16,some [(.int .i64,0),(.int .i64,1)]⟩:=by kernel_rfl
@[simp] theorem kχ (a9:η->Bool) (cT:List (Nat×η)):mL a7 a9 107 cT=Aq 1 (.agg #[.int .i64 0,.int .i64 0]) a9 cT:=by kernel_rfl
@[simp] theorem t108:a7 108=some ⟨1,.slice 111,.slice none 0 0,24,none⟩:=by kernel_rfl
@[simp] theorem kψ:hB a7 108=some (111,1,none):=by kernel_rfl
noncomputable def Ix:TypeDesc:=((a7 110).getD ⟨0,.bool,.nilFunc,0,none⟩).bG
@[simp] theorem t110:a7 110=some ⟨3,Ix,.agg #[.int .i64 0,.int .i64 0,.slice none 0 0],40,none⟩:=by kernel_rfl
@[simp] theorem kω:lU Ix=true:=by kernel_rfl
@[simp] theorem kΑ:fT a7 110 0=some (0,107):=by kernel_rfl
@[simp] theorem kΒ:fT a7 110 1=some (2,108):=by kernel_rfl
@[simp] theorem kΓ (a9:η->Bool) (cT:List (Nat×η)):mL a7 a9 110 cT=uk [(0,2),(2,1)] (.agg #[.int .i64 0,.int .i64 0,.slice none 0 0]) a9 cT:=by kernel_rfl
@[simp] theorem t111:a7 111=some ⟨1,.slice 112,.slice none 0 0,24,none⟩:=by kernel_rfl
@[simp] theorem kΔ:hB a7 111=some (112,2,none):=by kernel_rfl
@[simp] theorem t112:a7 112=some ⟨2,.array 2 3,.agg #[.int .i64 0,.int .i64 0],16,some [(.int .i64,0),(.int .i64,1)]⟩:=by kernel_rfl
@[simp] theorem kΕ:hB a7 112=some (3,1,some 2):=by kernel_rfl
@[simp] theorem kΖ (a9:η->Bool) (cT:List (Nat×η)):mL a7 a9 112 cT=Aq 1 (.agg #[.int .i64 0,.int .i64 0]) a9 cT:=by kernel_rfl
@[simp] theorem t113:a7 113=some ⟨1,.int .i64,.int .i64 0,8,none⟩:=by kernel_rfl
@[simp] theorem t132:a7 132=some ⟨1,.slice 21,.slice none 0 0,24,none⟩:=by kernel_rfl
@[simp] theorem kΗ:hB a7 132=some (21,1,none):=by kernel_rfl
@[simp] theorem t139:a7 139=some ⟨3,.array 3 72,.agg #[.nilFunc,.nilFunc,.nilFunc],24,none⟩:=by kernel_rfl
@[simp] theorem kΘ (a9:η->Bool) (cT:List (Nat×η)):mL a7 a9 139 cT=Aq 1 (.agg #[.nilFunc,.nilFunc,.nilFunc]) a9 cT:=by kernel_rfl
@[simp] theorem t156:a7 156=some ⟨1,.map 157 3,.map none,8,none⟩:=by kernel_rfl
@[simp] theorem t157:a7 157=some ⟨4,.array 4 113,.agg #[.int .i64 0,.int .i64 0,.int .i64 0,.int .i64 0],32,some [(.int .i64,0),(.int .i64,1),(.int .i64,2),(.int .i64,3)]⟩:=by kernel_rfl
@[simp] theorem kΙ:hB a7 157=some (113,1,some 4):=by kernel_rfl
@[simp] theorem t169:a7 169=some ⟨1,.int .u32,.int .u32 0,4,none⟩:=by kernel_rfl
@[simp] theorem kΚ:fT a7 171 0=some (0,21):=by kernel_rfl
@[simp] theorem kΜ:fT a7 171 1=some (1,169):=by kernel_rfl
@[simp] theorem kΝ:fT a7 173 1=some (0,171):=by kernel_rfl
@[simp] theorem kΞ:fT a7 177 2=some (0,91):=by kernel_rfl
@[simp] theorem kΟ:fT a7 179 1=some (0,177):=by kernel_rfl
@[simp] theorem kΡ:fT a7 179 2=some (1,169):=by kernel_rfl
@[simp] theorem t190:a7 190=some ⟨1,.slice 9,.slice none 0 0,24,none⟩:=by kernel_rfl
@[simp] theorem kΤ:hB a7 190=some (9,1,none):=by kernel_rfl
@[simp] theorem t204:a7 204=some ⟨1,.map 112 4,.map none,8,none⟩:=by kernel_rfl
@[simp] theorem t248:a7 248=some ⟨1,.int .u64,.int .u64 0,8,none⟩:=by kernel_rfl
@[simp] theorem kΥ:kI a7 22 22=some (77,2,⟨2,Iw,.agg #[.string ⟨#[]⟩,.int .i64 0],24,some [(.string,0),(.int .i64,1)]⟩):=by kernel_rfl
@[simp] theorem kΦ:kI a7 23 23=some (29,1,⟨1,.slice 3,.slice none 0 0,24,none⟩):=by kernel_rfl
@[simp] theorem kΧ:kI a7 24 24=some (60,1,⟨1,.slice 28,.slice none 0 0,24,none⟩):=by kernel_rfl
@[simp] theorem kΨ:kI a7 29 29=some (3,1,⟨1,.int .i64,.int .i64 0,8,none⟩):=by kernel_rfl
@[simp] theorem kΩ:kI a7 48 48=some (54,2,⟨2,Oo,.agg #[.slice none 0 0,.slice none 0 0],48,none⟩):=by kernel_rfl
@[simp] theorem lα:kI a7 60 60=some (28,3,⟨3,Iv,.agg #[.int .i64 0,.int .i64 0,.int .i64 0],24,some [(.int .i64,0),(.int .i64,1),(.int .i64,2)]⟩):=by kernel_rfl
@[simp] theorem lβ:kI a7 65 65=some (23,1,⟨1,.slice 29,.slice none 0 0,24,none⟩):=by kernel_rfl
@[simp] theorem lγ:kI a7 99 99=some (110,3,⟨3,Ix,.agg #[.int .i64 0,.int .i64 0,.slice none 0 0],40,none⟩):=by kernel_rfl
@[simp] theorem lδ:kI a7 108 108=some (111,1,⟨1,.slice 112,.slice none 0 0,24,none⟩):=by kernel_rfl
@[simp] theorem lε:kI a7 111 111=some (112,2,⟨2,.array 2 3,.agg #[.int .i64 0,.int .i64 0],16,some [(.int .i64,0),(.int .i64,1)]⟩):=by kernel_rfl
@[simp] theorem lζ:kI a7 132 132=some (21,1,⟨1,.int .i32,.int .i32 0,4,none⟩):=by kernel_rfl
end Go.TL
