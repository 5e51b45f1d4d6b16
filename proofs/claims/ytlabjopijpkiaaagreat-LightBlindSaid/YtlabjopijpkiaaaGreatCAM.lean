import Derived.Test.YtlabjopijpkiaaaGreatCAL
set_option maxHeartbeats 16000000
set_option maxRecDepth 20000
set_option linter.unusedSectionVars false
set_option linter.unusedSimpArgs false
set_option linter.unusedVariables false
namespace Go.TL
open Go.Proofs
variable [bp]
@[simp] theorem t3:bg 3=some ⟨1,.int .i64,.int .i64 0,8,none⟩:=by kernel_rfl
@[simp] theorem t4:bg 4=some ⟨1,.bool,.bool false,1,none⟩:=by kernel_rfl
@[simp] theorem t5:bg 5=some ⟨1,.int .u8,.int .u8 0,1,none⟩:=by kernel_rfl
@[simp] theorem t9:bg 9=some ⟨1,.string,.string ⟨#[]⟩,16,none⟩:=by kernel_rfl
@[simp] theorem t21:bg 21=some ⟨1,.int .i32,.int .i32 0,4,none⟩:=by kernel_rfl
@[simp] theorem t22:bg 22=some ⟨1,.slice 77,.slice none 0 0,24,none⟩:=by kernel_rfl
@[simp] theorem hΨ:iD bg 22=some (77,2,none):=by kernel_rfl
@[simp] theorem t23:bg 23=some ⟨1,.slice 29,.slice none 0 0,24,none⟩:=by kernel_rfl
@[simp] theorem hΩ:iD bg 23=some (29,1,none):=by kernel_rfl
@[simp] theorem t24:bg 24=some ⟨1,.slice 60,.slice none 0 0,24,none⟩:=by kernel_rfl
@[simp] theorem iα:iD bg 24=some (60,1,none):=by kernel_rfl
noncomputable def Nw:TypeDesc:=((bg 26).getD ⟨0,.bool,.nilFunc,0,none⟩).bG
@[simp] theorem t26:bg 26=some ⟨3,Nw,.agg #[.slice none 0 0,.slice none 0 0,.slice none 0 0],72,none⟩:=by kernel_rfl
@[simp] theorem iβ:l9 Nw=true:=by kernel_rfl
@[simp] theorem iγ:gE bg 26 0=some (0,22):=by kernel_rfl
@[simp] theorem iδ:gE bg 26 1=some (1,23):=by kernel_rfl
@[simp] theorem iε:gE bg 26 2=some (2,24):=by kernel_rfl
@[simp] theorem iζ (bc:η->Bool) (cZ:List (Nat×η)):nM bg bc 26 cZ=wG [(0,1),(1,1),(2,1)] (.agg #[.slice none 0 0,.slice none 0 0,.slice none 0 0]) bc cZ:=by kernel_rfl
noncomputable def H7:TypeDesc:=((bg 28).getD ⟨0,.bool,.nilFunc,0,none⟩).bG
@[simp] theorem t28:bg 28=some ⟨3,H7,.agg #[.int .i64 0,.int .i64 0,.int .i64 0],24,some [(.int .i64,0),(.int .i64,1),(.int .i64,2)]⟩:=by kernel_rfl
@[simp] theorem iη:l9 H7=true:=by kernel_rfl
@[simp] theorem iθ:gE bg 28 0=some (0,3):=by kernel_rfl
@[simp] theorem iι:gE bg 28 1=some (1,3):=by kernel_rfl
@[simp] theorem iκ:gE bg 28 2=some (2,3):=by kernel_rfl
@[simp] theorem iμ (bc:η->Bool) (cZ:List (Nat×η)):nM bg bc 28 cZ=wG [(0,1),(1,1),(2,1)] (.agg #[.int .i64 0,.int .i64 0,.int .i64 0]) bc cZ:=by kernel_rfl
@[simp] theorem t29:bg 29=some ⟨1,.slice 3,.slice none 0 0,24,none⟩:=by kernel_rfl
@[simp] theorem iν:iD bg 29=some (3,1,none):=by kernel_rfl
@[simp] theorem t38:bg 38=some ⟨1,.int .i64,.int .i64 0,8,none⟩:=by kernel_rfl
@[simp] theorem t60:bg 60=some ⟨1,.slice 28,.slice none 0 0,24,none⟩:=by kernel_rfl
@[simp] theorem iξ:iD bg 60=some (28,3,none):=by kernel_rfl
noncomputable def Nx:TypeDesc:=((bg 72).getD ⟨0,.bool,.nilFunc,0,none⟩).bG
@[simp] theorem t72:bg 72=some ⟨1,Nx,.nilFunc,8,none⟩:=by kernel_rfl
@[simp] theorem iο:l9 Nx=false:=by kernel_rfl
noncomputable def H8:TypeDesc:=((bg 77).getD ⟨0,.bool,.nilFunc,0,none⟩).bG
@[simp] theorem t77:bg 77=some ⟨2,H8,.agg #[.string ⟨#[]⟩,.int .i64 0],24,some [(.string,0),(.int .i64,1)]⟩:=by kernel_rfl
@[simp] theorem iπ:l9 H8=true:=by kernel_rfl
@[simp] theorem iρ:gE bg 77 0=some (0,9):=by kernel_rfl
@[simp] theorem iς:gE bg 77 1=some (1,3):=by kernel_rfl
@[simp] theorem iτ (bc:η->Bool) (cZ:List (Nat×η)):nM bg bc 77 cZ=wG [(0,1),(1,1)] (.agg #[.string ⟨#[]⟩,.int .i64 0]) bc cZ:=by kernel_rfl
@[simp] theorem t91:bg 91=some ⟨1,.int .u64,.int .u64 0,8,none⟩:=by kernel_rfl
@[simp] theorem iυ:gE bg 93 0=some (0,29):=by kernel_rfl
@[simp] theorem iφ:gE bg 93 1=some (1,91):=by kernel_rfl
@[simp] theorem iχ (bc:η->Bool) (cZ:List (Nat×η)):nM bg bc 93 cZ=wG [(0,1),(1,1)] (.agg #[.slice none 0 0,.int .u64 0]) bc cZ:=by kernel_rfl
@[simp] theorem t95:bg 95=some ⟨1,.int .u64,.int .u64 0,8,none⟩:=by kernel_rfl
noncomputable def Ny:TypeDesc:=((bg 98).getD ⟨0,.bool,.nilFunc,0,none⟩).bG
@[simp] theorem t98:bg 98=some ⟨3,Ny,.agg #[.slice none 0 0,.slice none 0 0,.slice none 0 0],72,none⟩:=by kernel_rfl
@[simp] theorem iψ:l9 Ny=true:=by kernel_rfl
@[simp] theorem iω:gE bg 98 0=some (0,26):=by kernel_rfl
@[simp] theorem iΑ (bc:η->Bool) (cZ:List (Nat×η)):nM bg bc 98 cZ=wG [(0,3)] (.agg #[.slice none 0 0,.slice none 0 0,.slice none 0 0]) bc cZ:=by kernel_rfl
@[simp] theorem t99:bg 99=some ⟨1,.slice 110,.slice none 0 0,24,none⟩:=by kernel_rfl
@[simp] theorem iΒ:iD bg 99=some (110,3,none):=by kernel_rfl
@[simp] theorem t102:bg 102=some ⟨2,.array 2 3,.agg #[.int .i64 0,.int .i64 0],16,some [(.int .i64,0),(.int .i64,1)]⟩:=by kernel_rfl
@[simp] theorem iΓ:iD bg 102=some (3,1,some 2):=by kernel_rfl
@[simp] theorem iΔ (bc:η->Bool) (cZ:List (Nat×η)):nM bg bc 102 cZ=AO 1 (.agg #[.int .i64 0,.int .i64 0]) bc cZ:=by kernel_rfl
noncomputable def WB:TypeDesc:=((bg 104).getD ⟨0,.bool,.nilFunc,0,none⟩).bG
@[simp] theorem t104:bg 104=some ⟨4,WB,.agg #[.int .i64 0,.int .i64 0,.int .i64 0,.bool false],32,none⟩:=by kernel_rfl
@[simp] theorem iΕ:gE bg 104 0=some (0,102):=by kernel_rfl
@[simp] theorem iΖ:gE bg 104 1=some (2,3):=by kernel_rfl
@[simp] theorem iΗ:gE bg 104 2=some (3,4):=by kernel_rfl
@[simp] theorem t106:bg 106=some ⟨1,.map 113 3,.map none,8,none⟩:=by kernel_rfl
@[simp] theorem t107:bg 107=some ⟨2,.array 2 3,.agg #[.int .i64 0,.int .i64 0],16,some [(.int .i64,0),(.int .i64,1)]⟩:=by kernel_rfl
@[simp] theorem iΘ (bc:η->Bool) (cZ:List (Nat×η)):nM bg bc 107 cZ=AO 1 (.agg #[.int .i64 0,.int .i64 0]) bc cZ:=by kernel_rfl
@[simp] theorem t108:bg 108=some ⟨1,.slice 111,.slice none 0 0,24,none⟩:=by kernel_rfl
@[simp] theorem iΙ:iD bg 108=some (111,1,none):=by kernel_rfl
noncomputable def H9:TypeDesc:=((bg 110).getD ⟨0,.bool,.nilFunc,0,none⟩).bG
@[simp] theorem t110:bg 110=some ⟨3,H9,.agg #[.int .i64 0,.int .i64 0,.slice none 0 0],40,none⟩:=by kernel_rfl
@[simp] theorem iΚ:l9 H9=true:=by kernel_rfl
@[simp] theorem iΜ:gE bg 110 0=some (0,107):=by kernel_rfl
@[simp] theorem iΝ:gE bg 110 1=some (2,108):=by kernel_rfl
@[simp] theorem iΞ (bc:η->Bool) (cZ:List (Nat×η)):nM bg bc 110 cZ=wG [(0,2),(2,1)] (.agg #[.int .i64 0,.int .i64 0,.slice none 0 0]) bc cZ:=by kernel_rfl
@[simp] theorem t111:bg 111=some ⟨1,.slice 112,.slice none 0 0,24,none⟩:=by kernel_rfl
@[simp] theorem iΟ:iD bg 111=some (112,2,none):=by kernel_rfl
@[simp] theorem t112:bg 112=some ⟨2,.array 2 3,.agg #[.int .i64 0,.int .i64 0],16,some [(.int .i64,0),(.int .i64,1)]⟩:=by kernel_rfl
@[simp] theorem iΡ:iD bg 112=some (3,1,some 2):=by kernel_rfl
@[simp] theorem iΤ (bc:η->Bool) (cZ:List (Nat×η)):nM bg bc 112 cZ=AO 1 (.agg #[.int .i64 0,.int .i64 0]) bc cZ:=by kernel_rfl
@[simp] theorem t113:bg 113=some ⟨1,.int .i64,.int .i64 0,8,none⟩:=by kernel_rfl
@[simp] theorem t132:bg 132=some ⟨1,.slice 21,.slice none 0 0,24,none⟩:=by kernel_rfl
@[simp] theorem iΥ:iD bg 132=some (21,1,none):=by kernel_rfl
@[simp] theorem t139:bg 139=some ⟨3,.array 3 72,.agg #[.nilFunc,.nilFunc,.nilFunc],24,none⟩:=by kernel_rfl
@[simp] theorem iΦ (bc:η->Bool) (cZ:List (Nat×η)):nM bg bc 139 cZ=AO 1 (.agg #[.nilFunc,.nilFunc,.nilFunc]) bc cZ:=by kernel_rfl
@[simp] theorem t156:bg 156=some ⟨1,.map 157 3,.map none,8,none⟩:=by kernel_rfl
@[simp] theorem t157:bg 157=some ⟨4,.array 4 113,.agg #[.int .i64 0,.int .i64 0,.int .i64 0,.int .i64 0],32,some [(.int .i64,0),(.int .i64,1),(.int .i64,2),(.int .i64,3)]⟩:=by kernel_rfl
@[simp] theorem iΧ:iD bg 157=some (113,1,some 4):=by kernel_rfl
@[simp] theorem t169:bg 169=some ⟨1,.int .u32,.int .u32 0,4,none⟩:=by kernel_rfl
@[simp] theorem iΨ:gE bg 171 0=some (0,21):=by kernel_rfl
@[simp] theorem iΩ:gE bg 171 1=some (1,169):=by kernel_rfl
@[simp] theorem jα:gE bg 173 1=some (0,171):=by kernel_rfl
@[simp] theorem jβ:gE bg 177 2=some (0,91):=by kernel_rfl
@[simp] theorem jγ:gE bg 179 1=some (0,177):=by kernel_rfl
@[simp] theorem jδ:gE bg 179 2=some (1,169):=by kernel_rfl
@[simp] theorem t190:bg 190=some ⟨1,.slice 9,.slice none 0 0,24,none⟩:=by kernel_rfl
@[simp] theorem jε:iD bg 190=some (9,1,none):=by kernel_rfl
@[simp] theorem t204:bg 204=some ⟨1,.map 112 4,.map none,8,none⟩:=by kernel_rfl
@[simp] theorem t248:bg 248=some ⟨1,.int .u64,.int .u64 0,8,none⟩:=by kernel_rfl
@[simp] theorem jζ:ma bg 22 22=some (77,2,⟨2,H8,.agg #[.string ⟨#[]⟩,.int .i64 0],24,some [(.string,0),(.int .i64,1)]⟩):=by kernel_rfl
@[simp] theorem jη:ma bg 23 23=some (29,1,⟨1,.slice 3,.slice none 0 0,24,none⟩):=by kernel_rfl
@[simp] theorem jθ:ma bg 24 24=some (60,1,⟨1,.slice 28,.slice none 0 0,24,none⟩):=by kernel_rfl
@[simp] theorem jι:ma bg 29 29=some (3,1,⟨1,.int .i64,.int .i64 0,8,none⟩):=by kernel_rfl
@[simp] theorem jκ:ma bg 60 60=some (28,3,⟨3,H7,.agg #[.int .i64 0,.int .i64 0,.int .i64 0],24,some [(.int .i64,0),(.int .i64,1),(.int .i64,2)]⟩):=by kernel_rfl
@[simp] theorem jμ:ma bg 99 99=some (110,3,⟨3,H9,.agg #[.int .i64 0,.int .i64 0,.slice none 0 0],40,none⟩):=by kernel_rfl
@[simp] theorem jν:ma bg 108 108=some (111,1,⟨1,.slice 112,.slice none 0 0,24,none⟩):=by kernel_rfl
@[simp] theorem jξ:ma bg 111 111=some (112,2,⟨2,.array 2 3,.agg #[.int .i64 0,.int .i64 0],16,some [(.int .i64,0),(.int .i64,1)]⟩):=by kernel_rfl
@[simp] theorem jο:ma bg 132 132=some (21,1,⟨1,.int .i32,.int .i32 0,4,none⟩):=by kernel_rfl
end Go.TL
