import Derived.Test.YtlabjopijpkiaaaGreatDAL
set_option maxHeartbeats 16000000
set_option maxRecDepth 20000
set_option linter.unusedSectionVars false
set_option linter.unusedSimpArgs false
set_option linter.unusedVariables false
namespace Go.TL
open Go.Proofs
variable [bj]
@[simp] theorem t3:bf 3=some ⟨1,.int .i64,.int .i64 0,8,none⟩:=by kernel_rfl
@[simp] theorem t4:bf 4=some ⟨1,.bool,.bool false,1,none⟩:=by kernel_rfl
@[simp] theorem t5:bf 5=some ⟨1,.int .u8,.int .u8 0,1,none⟩:=by kernel_rfl
@[simp] theorem t9:bf 9=some ⟨1,.string,.string ⟨#[]⟩,16,none⟩:=by kernel_rfl
@[simp] theorem t21:bf 21=some ⟨1,.int .i32,.int .i32 0,4,none⟩:=by kernel_rfl
@[simp] theorem t22:bf 22=some ⟨1,.slice 77,.slice none 0 0,24,none⟩:=by kernel_rfl
@[simp] theorem fο:hS bf 22=some (77,2,none):=by kernel_rfl
@[simp] theorem t23:bf 23=some ⟨1,.slice 29,.slice none 0 0,24,none⟩:=by kernel_rfl
@[simp] theorem fπ:hS bf 23=some (29,1,none):=by kernel_rfl
@[simp] theorem t24:bf 24=some ⟨1,.slice 60,.slice none 0 0,24,none⟩:=by kernel_rfl
@[simp] theorem fρ:hS bf 24=some (60,1,none):=by kernel_rfl
noncomputable def MK:TypeDesc:=((bf 26).getD ⟨0,.bool,.nilFunc,0,none⟩).bE
@[simp] theorem t26:bf 26=some ⟨3,MK,.agg #[.slice none 0 0,.slice none 0 0,.slice none 0 0],72,none⟩:=by kernel_rfl
@[simp] theorem fς:kO MK=true:=by kernel_rfl
@[simp] theorem fτ:gK bf 26 0=some (0,22):=by kernel_rfl
@[simp] theorem fυ:gK bf 26 1=some (1,23):=by kernel_rfl
@[simp] theorem fφ:gK bf 26 2=some (2,24):=by kernel_rfl
@[simp] theorem fχ (bd:θ->Bool) (c7:List (Nat×θ)):nD bf bd 26 c7=xj [(0,1),(1,1),(2,1)] (.agg #[.slice none 0 0,.slice none 0 0,.slice none 0 0]) bd c7:=by kernel_rfl
noncomputable def Hb:TypeDesc:=((bf 28).getD ⟨0,.bool,.nilFunc,0,none⟩).bE
@[simp] theorem t28:bf 28=some ⟨3,Hb,.agg #[.int .i64 0,.int .i64 0,.int .i64 0],24,some [(.int .i64,0),(.int .i64,1),(.int .i64,2)]⟩:=by kernel_rfl
@[simp] theorem fψ:kO Hb=true:=by kernel_rfl
@[simp] theorem fω:gK bf 28 0=some (0,3):=by kernel_rfl
@[simp] theorem fΑ:gK bf 28 1=some (1,3):=by kernel_rfl
@[simp] theorem fΒ:gK bf 28 2=some (2,3):=by kernel_rfl
@[simp] theorem fΓ (bd:θ->Bool) (c7:List (Nat×θ)):nD bf bd 28 c7=xj [(0,1),(1,1),(2,1)] (.agg #[.int .i64 0,.int .i64 0,.int .i64 0]) bd c7:=by kernel_rfl
@[simp] theorem t29:bf 29=some ⟨1,.slice 3,.slice none 0 0,24,none⟩:=by kernel_rfl
@[simp] theorem fΔ:hS bf 29=some (3,1,none):=by kernel_rfl
@[simp] theorem t38:bf 38=some ⟨1,.int .i64,.int .i64 0,8,none⟩:=by kernel_rfl
@[simp] theorem t60:bf 60=some ⟨1,.slice 28,.slice none 0 0,24,none⟩:=by kernel_rfl
@[simp] theorem fΕ:hS bf 60=some (28,3,none):=by kernel_rfl
noncomputable def ML:TypeDesc:=((bf 72).getD ⟨0,.bool,.nilFunc,0,none⟩).bE
@[simp] theorem t72:bf 72=some ⟨1,ML,.nilFunc,8,none⟩:=by kernel_rfl
@[simp] theorem fΖ:kO ML=false:=by kernel_rfl
noncomputable def Hc:TypeDesc:=((bf 77).getD ⟨0,.bool,.nilFunc,0,none⟩).bE
@[simp] theorem t77:bf 77=some ⟨2,Hc,.agg #[.string ⟨#[]⟩,.int .i64 0],24,some [(.string,0),(.int .i64,1)]⟩:=by kernel_rfl
@[simp] theorem fΗ:kO Hc=true:=by kernel_rfl
@[simp] theorem fΘ:gK bf 77 0=some (0,9):=by kernel_rfl
@[simp] theorem fΙ:gK bf 77 1=some (1,3):=by kernel_rfl
@[simp] theorem fΚ (bd:θ->Bool) (c7:List (Nat×θ)):nD bf bd 77 c7=xj [(0,1),(1,1)] (.agg #[.string ⟨#[]⟩,.int .i64 0]) bd c7:=by kernel_rfl
@[simp] theorem fΜ:hS bf 85=some (4,1,none):=by kernel_rfl
@[simp] theorem t91:bf 91=some ⟨1,.int .u64,.int .u64 0,8,none⟩:=by kernel_rfl
@[simp] theorem t95:bf 95=some ⟨1,.int .u64,.int .u64 0,8,none⟩:=by kernel_rfl
noncomputable def MM:TypeDesc:=((bf 98).getD ⟨0,.bool,.nilFunc,0,none⟩).bE
@[simp] theorem t98:bf 98=some ⟨3,MM,.agg #[.slice none 0 0,.slice none 0 0,.slice none 0 0],72,none⟩:=by kernel_rfl
@[simp] theorem fΝ:kO MM=true:=by kernel_rfl
@[simp] theorem fΞ:gK bf 98 0=some (0,26):=by kernel_rfl
@[simp] theorem fΟ (bd:θ->Bool) (c7:List (Nat×θ)):nD bf bd 98 c7=xj [(0,3)] (.agg #[.slice none 0 0,.slice none 0 0,.slice none 0 0]) bd c7:=by kernel_rfl
@[simp] theorem t99:bf 99=some ⟨1,.slice 110,.slice none 0 0,24,none⟩:=by kernel_rfl
@[simp] theorem fΡ:hS bf 99=some (110,3,none):=by kernel_rfl
@[simp] theorem t102:bf 102=some ⟨2,.array 2 3,.agg #[.int .i64 0,.int .i64 0],16,some [(.int .i64,0),(.int .i64,1)]⟩:=by kernel_rfl
@[simp] theorem fΤ:hS bf 102=some (3,1,some 2):=by kernel_rfl
@[simp] theorem fΥ (bd:θ->Bool) (c7:List (Nat×θ)):nD bf bd 102 c7=zL 1 (.agg #[.int .i64 0,.int .i64 0]) bd c7:=by kernel_rfl
noncomputable def Vs:TypeDesc:=((bf 104).getD ⟨0,.bool,.nilFunc,0,none⟩).bE
@[simp] theorem t104:bf 104=some ⟨4,Vs,.agg #[.int .i64 0,.int .i64 0,.int .i64 0,.bool false],32,none⟩:=by kernel_rfl
@[simp] theorem fΦ:gK bf 104 0=some (0,102):=by kernel_rfl
@[simp] theorem fΧ:gK bf 104 1=some (2,3):=by kernel_rfl
@[simp] theorem fΨ:gK bf 104 2=some (3,4):=by kernel_rfl
@[simp] theorem t106:bf 106=some ⟨1,.map 113 3,.map none,8,none⟩:=by kernel_rfl
@[simp] theorem t107:bf 107=some ⟨2,.array 2 3,.agg #[.int .i64 0,.int .i64 0],16,some [(.int .i64,0),(.int .i64,1)]⟩:=by kernel_rfl
@[simp] theorem fΩ (bd:θ->Bool) (c7:List (Nat×θ)):nD bf bd 107 c7=zL 1 (.agg #[.int .i64 0,.int .i64 0]) bd c7:=by kernel_rfl
@[simp] theorem t108:bf 108=some ⟨1,.slice 111,.slice none 0 0,24,none⟩:=by kernel_rfl
@[simp] theorem gα:hS bf 108=some (111,1,none):=by kernel_rfl
noncomputable def Hd:TypeDesc:=((bf 110).getD ⟨0,.bool,.nilFunc,0,none⟩).bE
@[simp] theorem t110:bf 110=some ⟨3,Hd,.agg #[.int .i64 0,.int .i64 0,.slice none 0 0],40,none⟩:=by kernel_rfl
@[simp] theorem gβ:kO Hd=true:=by kernel_rfl
@[simp] theorem gγ:gK bf 110 0=some (0,107):=by kernel_rfl
@[simp] theorem gδ:gK bf 110 1=some (2,108):=by kernel_rfl
@[simp] theorem gε (bd:θ->Bool) (c7:List (Nat×θ)):nD bf bd 110 c7=xj [(0,2),(2,1)] (.agg #[.int .i64 0,.int .i64 0,.slice none 0 0]) bd c7:=by kernel_rfl
@[simp] theorem t111:bf 111=some ⟨1,.slice 112,.slice none 0 0,24,none⟩:=by kernel_rfl
@[simp] theorem gζ:hS bf 111=some (112,2,none):=by kernel_rfl
@[simp] theorem t112:bf 112=some ⟨2,.array 2 3,.agg #[.int .i64 0,.int .i64 0],16,some [(.int .i64,0),(.int .i64,1)]⟩:=by kernel_rfl
@[simp] theorem gη:hS bf 112=some (3,1,some 2):=by kernel_rfl
@[simp] theorem gθ (bd:θ->Bool) (c7:List (Nat×θ)):nD bf bd 112 c7=zL 1 (.agg #[.int .i64 0,.int .i64 0]) bd c7:=by kernel_rfl
@[simp] theorem t113:bf 113=some ⟨1,.int .i64,.int .i64 0,8,none⟩:=by kernel_rfl
@[simp] theorem t132:bf 132=some ⟨1,.slice 21,.slice none 0 0,24,none⟩:=by kernel_rfl
@[simp] theorem gι:hS bf 132=some (21,1,none):=by kernel_rfl
noncomputable def MN:TypeDesc:=((bf 136).getD ⟨0,.bool,.nilFunc,0,none⟩).bE
@[simp] theorem t136:bf 136=some ⟨1,MN,.nilFunc,8,none⟩:=by kernel_rfl
@[simp] theorem gκ:kO MN=false:=by kernel_rfl
@[simp] theorem t139:bf 139=some ⟨3,.array 3 72,.agg #[.nilFunc,.nilFunc,.nilFunc],24,none⟩:=by kernel_rfl
@[simp] theorem gμ (bd:θ->Bool) (c7:List (Nat×θ)):nD bf bd 139 c7=zL 1 (.agg #[.nilFunc,.nilFunc,.nilFunc]) bd c7:=by kernel_rfl
@[simp] theorem t156:bf 156=some ⟨1,.map 157 3,.map none,8,none⟩:=by kernel_rfl
@[simp] theorem t157:bf 157=some ⟨4,.array 4 113,.agg #[.int .i64 0,.int .i64 0,.int .i64 0,.int .i64 0],32,some [(.int .i64,0),(.int .i64,1),(.int .i64,2),(.int .i64,3)]⟩:=by kernel_rfl
@[simp] theorem gν:hS bf 157=some (113,1,some 4):=by kernel_rfl
@[simp] theorem t169:bf 169=some ⟨1,.int .u32,.int .u32 0,4,none⟩:=by kernel_rfl
@[simp] theorem gξ:gK bf 171 0=some (0,21):=by kernel_rfl
@[simp] theorem gο:gK bf 171 1=some (1,169):=by kernel_rfl
@[simp] theorem gπ:gK bf 173 1=some (0,171):=by kernel_rfl
@[simp] theorem gρ:gK bf 177 2=some (0,91):=by kernel_rfl
@[simp] theorem gς:gK bf 179 1=some (0,177):=by kernel_rfl
@[simp] theorem gτ:gK bf 179 2=some (1,169):=by kernel_rfl
@[simp] theorem t204:bf 204=some ⟨1,.map 112 4,.map none,8,none⟩:=by kernel_rfl
@[simp] theorem t248:bf 248=some ⟨1,.int .u64,.int .u64 0,8,none⟩:=by kernel_rfl
@[simp] theorem gυ:lC bf 22 22=some (77,2,⟨2,Hc,.agg #[.string ⟨#[]⟩,.int .i64 0],24,some [(.string,0),(.int .i64,1)]⟩):=by kernel_rfl
@[simp] theorem gφ:lC bf 23 23=some (29,1,⟨1,.slice 3,.slice none 0 0,24,none⟩):=by kernel_rfl
@[simp] theorem gχ:lC bf 24 24=some (60,1,⟨1,.slice 28,.slice none 0 0,24,none⟩):=by kernel_rfl
@[simp] theorem gψ:lC bf 29 29=some (3,1,⟨1,.int .i64,.int .i64 0,8,none⟩):=by kernel_rfl
@[simp] theorem gω:lC bf 60 60=some (28,3,⟨3,Hb,.agg #[.int .i64 0,.int .i64 0,.int .i64 0],24,some [(.int .i64,0),(.int .i64,1),(.int .i64,2)]⟩):=by kernel_rfl
@[simp] theorem gΑ:lC bf 99 99=some (110,3,⟨3,Hd,.agg #[.int .i64 0,.int .i64 0,.slice none 0 0],40,none⟩):=by kernel_rfl
@[simp] theorem gΒ:lC bf 108 108=some (111,1,⟨1,.slice 112,.slice none 0 0,24,none⟩):=by kernel_rfl
@[simp] theorem gΓ:lC bf 111 111=some (112,2,⟨2,.array 2 3,.agg #[.int .i64 0,.int .i64 0],16,some [(.int .i64,0),(.int .i64,1)]⟩):=by kernel_rfl
@[simp] theorem gΔ:lC bf 132 132=some (21,1,⟨1,.int .i32,.int .i32 0,4,none⟩):=by kernel_rfl
end Go.TL
