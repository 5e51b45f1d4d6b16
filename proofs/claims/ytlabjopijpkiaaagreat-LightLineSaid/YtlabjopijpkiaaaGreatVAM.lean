import Derived.Test.YtlabjopijpkiaaaGreatVAL
set_option maxHeartbeats 16000000
set_option maxRecDepth 20000
set_option linter.unusedSectionVars false
set_option linter.unusedSimpArgs false
set_option linter.unusedVariables false
namespace Go.TL
open Go.Proofs
variable [bn]
@[simp] theorem t3:bk 3=some ⟨1,.int .i64,.int .i64 0,8,none⟩:=by kernel_rfl
@[simp] theorem t4:bk 4=some ⟨1,.bool,.bool false,1,none⟩:=by kernel_rfl
@[simp] theorem t5:bk 5=some ⟨1,.int .u8,.int .u8 0,1,none⟩:=by kernel_rfl
@[simp] theorem t9:bk 9=some ⟨1,.string,.string ⟨#[]⟩,16,none⟩:=by kernel_rfl
@[simp] theorem t21:bk 21=some ⟨1,.int .i32,.int .i32 0,4,none⟩:=by kernel_rfl
@[simp] theorem t22:bk 22=some ⟨1,.slice 77,.slice none 0 0,24,none⟩:=by kernel_rfl
@[simp] theorem hδ:ig bk 22=some (77,2,none):=by kernel_rfl
@[simp] theorem t23:bk 23=some ⟨1,.slice 29,.slice none 0 0,24,none⟩:=by kernel_rfl
@[simp] theorem hε:ig bk 23=some (29,1,none):=by kernel_rfl
@[simp] theorem t24:bk 24=some ⟨1,.slice 60,.slice none 0 0,24,none⟩:=by kernel_rfl
@[simp] theorem hζ:ig bk 24=some (60,1,none):=by kernel_rfl
noncomputable def M7:TypeDesc:=((bk 26).getD ⟨0,.bool,.nilFunc,0,none⟩).bI
@[simp] theorem t26:bk 26=some ⟨3,M7,.agg #[.slice none 0 0,.slice none 0 0,.slice none 0 0],72,none⟩:=by kernel_rfl
@[simp] theorem hη:lW M7=true:=by kernel_rfl
@[simp] theorem hθ:gA bk 26 0=some (0,22):=by kernel_rfl
@[simp] theorem hι:gA bk 26 1=some (1,23):=by kernel_rfl
@[simp] theorem hκ:gA bk 26 2=some (2,24):=by kernel_rfl
@[simp] theorem hμ (a':θ->Bool) (c5:List (Nat×θ)):ny bk a' 26 c5=vV [(0,1),(1,1),(2,1)] (.agg #[.slice none 0 0,.slice none 0 0,.slice none 0 0]) a' c5:=by kernel_rfl
noncomputable def HF:TypeDesc:=((bk 28).getD ⟨0,.bool,.nilFunc,0,none⟩).bI
@[simp] theorem t28:bk 28=some ⟨3,HF,.agg #[.int .i64 0,.int .i64 0,.int .i64 0],24,some [(.int .i64,0),(.int .i64,1),(.int .i64,2)]⟩:=by kernel_rfl
@[simp] theorem hν:lW HF=true:=by kernel_rfl
@[simp] theorem hξ:gA bk 28 0=some (0,3):=by kernel_rfl
@[simp] theorem hο:gA bk 28 1=some (1,3):=by kernel_rfl
@[simp] theorem hπ:gA bk 28 2=some (2,3):=by kernel_rfl
@[simp] theorem hρ (a':θ->Bool) (c5:List (Nat×θ)):ny bk a' 28 c5=vV [(0,1),(1,1),(2,1)] (.agg #[.int .i64 0,.int .i64 0,.int .i64 0]) a' c5:=by kernel_rfl
@[simp] theorem t29:bk 29=some ⟨1,.slice 3,.slice none 0 0,24,none⟩:=by kernel_rfl
@[simp] theorem hς:ig bk 29=some (3,1,none):=by kernel_rfl
@[simp] theorem t38:bk 38=some ⟨1,.int .i64,.int .i64 0,8,none⟩:=by kernel_rfl
@[simp] theorem t60:bk 60=some ⟨1,.slice 28,.slice none 0 0,24,none⟩:=by kernel_rfl
@[simp] theorem hτ:ig bk 60=some (28,3,none):=by kernel_rfl
noncomputable def M8:TypeDesc:=((bk 72).getD ⟨0,.bool,.nilFunc,0,none⟩).bI
@[simp] theorem t72:bk 72=some ⟨1,M8,.nilFunc,8,none⟩:=by kernel_rfl
@[simp] theorem hυ:lW M8=false:=by kernel_rfl
noncomputable def HG:TypeDesc:=((bk 77).getD ⟨0,.bool,.nilFunc,0,none⟩).bI
@[simp] theorem t77:bk 77=some ⟨2,HG,.agg #[.string ⟨#[]⟩,.int .i64 0],24,some [(.string,0),(.int .i64,1)]⟩:=by kernel_rfl
@[simp] theorem hφ:lW HG=true:=by kernel_rfl
@[simp] theorem hχ:gA bk 77 0=some (0,9):=by kernel_rfl
@[simp] theorem hψ:gA bk 77 1=some (1,3):=by kernel_rfl
@[simp] theorem hω (a':θ->Bool) (c5:List (Nat×θ)):ny bk a' 77 c5=vV [(0,1),(1,1)] (.agg #[.string ⟨#[]⟩,.int .i64 0]) a' c5:=by kernel_rfl
@[simp] theorem t91:bk 91=some ⟨1,.int .u64,.int .u64 0,8,none⟩:=by kernel_rfl
@[simp] theorem hΑ:gA bk 93 0=some (0,29):=by kernel_rfl
@[simp] theorem hΒ:gA bk 93 1=some (1,91):=by kernel_rfl
@[simp] theorem hΓ (a':θ->Bool) (c5:List (Nat×θ)):ny bk a' 93 c5=vV [(0,1),(1,1)] (.agg #[.slice none 0 0,.int .u64 0]) a' c5:=by kernel_rfl
@[simp] theorem t95:bk 95=some ⟨1,.int .u64,.int .u64 0,8,none⟩:=by kernel_rfl
noncomputable def M9:TypeDesc:=((bk 98).getD ⟨0,.bool,.nilFunc,0,none⟩).bI
@[simp] theorem t98:bk 98=some ⟨3,M9,.agg #[.slice none 0 0,.slice none 0 0,.slice none 0 0],72,none⟩:=by kernel_rfl
@[simp] theorem hΔ:lW M9=true:=by kernel_rfl
@[simp] theorem hΕ:gA bk 98 0=some (0,26):=by kernel_rfl
@[simp] theorem hΖ (a':θ->Bool) (c5:List (Nat×θ)):ny bk a' 98 c5=vV [(0,3)] (.agg #[.slice none 0 0,.slice none 0 0,.slice none 0 0]) a' c5:=by kernel_rfl
@[simp] theorem t99:bk 99=some ⟨1,.slice 110,.slice none 0 0,24,none⟩:=by kernel_rfl
@[simp] theorem hΗ:ig bk 99=some (110,3,none):=by kernel_rfl
@[simp] theorem t102:bk 102=some ⟨2,.array 2 3,.agg #[.int .i64 0,.int .i64 0],16,some [(.int .i64,0),(.int .i64,1)]⟩:=by kernel_rfl
@[simp] theorem hΘ:ig bk 102=some (3,1,some 2):=by kernel_rfl
@[simp] theorem hΙ (a':θ->Bool) (c5:List (Nat×θ)):ny bk a' 102 c5=z8 1 (.agg #[.int .i64 0,.int .i64 0]) a' c5:=by kernel_rfl
noncomputable def VX:TypeDesc:=((bk 104).getD ⟨0,.bool,.nilFunc,0,none⟩).bI
@[simp] theorem t104:bk 104=some ⟨4,VX,.agg #[.int .i64 0,.int .i64 0,.int .i64 0,.bool false],32,none⟩:=by kernel_rfl
@[simp] theorem hΚ:gA bk 104 0=some (0,102):=by kernel_rfl
@[simp] theorem hΜ:gA bk 104 1=some (2,3):=by kernel_rfl
@[simp] theorem hΝ:gA bk 104 2=some (3,4):=by kernel_rfl
@[simp] theorem t106:bk 106=some ⟨1,.map 113 3,.map none,8,none⟩:=by kernel_rfl
@[simp] theorem t107:bk 107=some ⟨2,.array 2 3,.agg #[.int .i64 0,.int .i64 0],16,some [(.int .i64,0),(.int .i64,1)]⟩:=by kernel_rfl
@[simp] theorem hΞ (a':θ->Bool) (c5:List (Nat×θ)):ny bk a' 107 c5=z8 1 (.agg #[.int .i64 0,.int .i64 0]) a' c5:=by kernel_rfl
@[simp] theorem t108:bk 108=some ⟨1,.slice 111,.slice none 0 0,24,none⟩:=by kernel_rfl
@[simp] theorem hΟ:ig bk 108=some (111,1,none):=by kernel_rfl
noncomputable def HH:TypeDesc:=((bk 110).getD ⟨0,.bool,.nilFunc,0,none⟩).bI
@[simp] theorem t110:bk 110=some ⟨3,HH,.agg #[.int .i64 0,.int .i64 0,.slice none 0 0],40,none⟩:=by kernel_rfl
@[simp] theorem hΡ:lW HH=true:=by kernel_rfl
@[simp] theorem hΤ:gA bk 110 0=some (0,107):=by kernel_rfl
@[simp] theorem hΥ:gA bk 110 1=some (2,108):=by kernel_rfl
@[simp] theorem hΦ (a':θ->Bool) (c5:List (Nat×θ)):ny bk a' 110 c5=vV [(0,2),(2,1)] (.agg #[.int .i64 0,.int .i64 0,.slice none 0 0]) a' c5:=by kernel_rfl
@[simp] theorem t111:bk 111=some ⟨1,.slice 112,.slice none 0 0,24,none⟩:=by kernel_rfl
@[simp] theorem hΧ:ig bk 111=some (112,2,none):=by kernel_rfl
@[simp] theorem t112:bk 112=some ⟨2,.array 2 3,.agg #[.int .i64 0,.int .i64 0],16,some [(.int .i64,0),(.int .i64,1)]⟩:=by kernel_rfl
@[simp] theorem hΨ:ig bk 112=some (3,1,some 2):=by kernel_rfl
@[simp] theorem hΩ (a':θ->Bool) (c5:List (Nat×θ)):ny bk a' 112 c5=z8 1 (.agg #[.int .i64 0,.int .i64 0]) a' c5:=by kernel_rfl
@[simp] theorem t113:bk 113=some ⟨1,.int .i64,.int .i64 0,8,none⟩:=by kernel_rfl
@[simp] theorem t132:bk 132=some ⟨1,.slice 21,.slice none 0 0,24,none⟩:=by kernel_rfl
@[simp] theorem iα:ig bk 132=some (21,1,none):=by kernel_rfl
@[simp] theorem t139:bk 139=some ⟨3,.array 3 72,.agg #[.nilFunc,.nilFunc,.nilFunc],24,none⟩:=by kernel_rfl
@[simp] theorem iβ (a':θ->Bool) (c5:List (Nat×θ)):ny bk a' 139 c5=z8 1 (.agg #[.nilFunc,.nilFunc,.nilFunc]) a' c5:=by kernel_rfl
@[simp] theorem t156:bk 156=some ⟨1,.map 157 3,.map none,8,none⟩:=by kernel_rfl
@[simp] theorem t157:bk 157=some ⟨4,.array 4 113,.agg #[.int .i64 0,.int .i64 0,.int .i64 0,.int .i64 0],32,some [(.int .i64,0),(.int .i64,1),(.int .i64,2),(.int .i64,3)]⟩:=by kernel_rfl
@[simp] theorem iγ:ig bk 157=some (113,1,some 4):=by kernel_rfl
@[simp] theorem t169:bk 169=some ⟨1,.int .u32,.int .u32 0,4,none⟩:=by kernel_rfl
@[simp] theorem iδ:gA bk 171 0=some (0,21):=by kernel_rfl
@[simp] theorem iε:gA bk 171 1=some (1,169):=by kernel_rfl
@[simp] theorem iζ:gA bk 173 1=some (0,171):=by kernel_rfl
@[simp] theorem iη:gA bk 177 2=some (0,91):=by kernel_rfl
@[simp] theorem iθ:gA bk 179 1=some (0,177):=by kernel_rfl
@[simp] theorem iι:gA bk 179 2=some (1,169):=by kernel_rfl
@[simp] theorem t190:bk 190=some ⟨1,.slice 9,.slice none 0 0,24,none⟩:=by kernel_rfl
@[simp] theorem iκ:ig bk 190=some (9,1,none):=by kernel_rfl
@[simp] theorem t204:bk 204=some ⟨1,.map 112 4,.map none,8,none⟩:=by kernel_rfl
@[simp] theorem t248:bk 248=some ⟨1,.int .u64,.int .u64 0,8,none⟩:=by kernel_rfl
@[simp] theorem iμ:lY bk 22 22=some (77,2,⟨2,HG,.agg #[.string ⟨#[]⟩,.int .i64 0],24,some [(.string,0),(.int .i64,1)]⟩):=by kernel_rfl
@[simp] theorem iν:lY bk 23 23=some (29,1,⟨1,.slice 3,.slice none 0 0,24,none⟩):=by kernel_rfl
@[simp] theorem iξ:lY bk 24 24=some (60,1,⟨1,.slice 28,.slice none 0 0,24,none⟩):=by kernel_rfl
@[simp] theorem iο:lY bk 29 29=some (3,1,⟨1,.int .i64,.int .i64 0,8,none⟩):=by kernel_rfl
@[simp] theorem iπ:lY bk 60 60=some (28,3,⟨3,HF,.agg #[.int .i64 0,.int .i64 0,.int .i64 0],24,some [(.int .i64,0),(.int .i64,1),(.int .i64,2)]⟩):=by kernel_rfl
@[simp] theorem iρ:lY bk 99 99=some (110,3,⟨3,HH,.agg #[.int .i64 0,.int .i64 0,.slice none 0 0],40,none⟩):=by kernel_rfl
@[simp] theorem iς:lY bk 108 108=some (111,1,⟨1,.slice 112,.slice none 0 0,24,none⟩):=by kernel_rfl
@[simp] theorem iτ:lY bk 111 111=some (112,2,⟨2,.array 2 3,.agg #[.int .i64 0,.int .i64 0],16,some [(.int .i64,0),(.int .i64,1)]⟩):=by kernel_rfl
@[simp] theorem iυ:lY bk 132 132=some (21,1,⟨1,.int .i32,.int .i32 0,4,none⟩):=by kernel_rfl
end Go.TL
