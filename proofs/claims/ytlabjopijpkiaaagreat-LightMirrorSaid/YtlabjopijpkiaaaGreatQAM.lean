import Derived.Test.YtlabjopijpkiaaaGreatQAL
set_option maxHeartbeats 16000000
set_option maxRecDepth 20000
set_option linter.unusedSectionVars false
set_option linter.unusedSimpArgs false
set_option linter.unusedVariables false
namespace Go.TL
open Go.Proofs
variable [bh]
@[simp] theorem t3:a4 3=some ⟨1,.int .i64,.int .i64 0,8,none⟩:=by kernel_rfl
@[simp] theorem t4:a4 4=some ⟨1,.bool,.bool false,1,none⟩:=by kernel_rfl
@[simp] theorem t5:a4 5=some ⟨1,.int .u8,.int .u8 0,1,none⟩:=by kernel_rfl
@[simp] theorem t9:a4 9=some ⟨1,.string,.string ⟨#[]⟩,16,none⟩:=by kernel_rfl
@[simp] theorem t21:a4 21=some ⟨1,.int .i32,.int .i32 0,4,none⟩:=by kernel_rfl
@[simp] theorem t22:a4 22=some ⟨1,.slice 77,.slice none 0 0,24,none⟩:=by kernel_rfl
@[simp] theorem bθ:g1 a4 22=some (77,2,none):=by kernel_rfl
@[simp] theorem t23:a4 23=some ⟨1,.slice 29,.slice none 0 0,24,none⟩:=by kernel_rfl
@[simp] theorem bι:g1 a4 23=some (29,1,none):=by kernel_rfl
@[simp] theorem t24:a4 24=some ⟨1,.slice 60,.slice none 0 0,24,none⟩:=by kernel_rfl
@[simp] theorem bκ:g1 a4 24=some (60,1,none):=by kernel_rfl
noncomputable def Kk:TypeDesc:=((a4 26).getD ⟨0,.bool,.nilFunc,0,none⟩).bl
@[simp] theorem t26:a4 26=some ⟨3,Kk,.agg #[.slice none 0 0,.slice none 0 0,.slice none 0 0],72,none⟩:=by kernel_rfl
@[simp] theorem bμ:jO Kk=true:=by kernel_rfl
@[simp] theorem bν:fy a4 26 0=some (0,22):=by kernel_rfl
@[simp] theorem bξ:fy a4 26 1=some (1,23):=by kernel_rfl
@[simp] theorem bο:fy a4 26 2=some (2,24):=by kernel_rfl
@[simp] theorem bπ (aU:ζ->Bool) (cC:List (Nat×ζ)):l4 a4 aU 26 cC=tN [(0,1),(1,1),(2,1)] (.agg #[.slice none 0 0,.slice none 0 0,.slice none 0 0]) aU cC:=by kernel_rfl
noncomputable def Fx:TypeDesc:=((a4 28).getD ⟨0,.bool,.nilFunc,0,none⟩).bl
@[simp] theorem t28:a4 28=some ⟨3,Fx,.agg #[.int .i64 0,.int .i64 0,.int .i64 0],24,some [(.int .i64,0),(.int .i64,1),(.int .i64,2)]⟩:=by kernel_rfl
@[simp] theorem bρ:jO Fx=true:=by kernel_rfl
@[simp] theorem bς:fy a4 28 0=some (0,3):=by kernel_rfl
@[simp] theorem bτ:fy a4 28 1=some (1,3):=by kernel_rfl
@[simp] theorem bυ:fy a4 28 2=some (2,3):=by kernel_rfl
@[simp] theorem bφ (aU:ζ->Bool) (cC:List (Nat×ζ)):l4 a4 aU 28 cC=tN [(0,1),(1,1),(2,1)] (.agg #[.int .i64 0,.int .i64 0,.int .i64 0]) aU cC:=by kernel_rfl
@[simp] theorem t29:a4 29=some ⟨1,.slice 3,.slice none 0 0,24,none⟩:=by kernel_rfl
@[simp] theorem bχ:g1 a4 29=some (3,1,none):=by kernel_rfl
@[simp] theorem t38:a4 38=some ⟨1,.int .i64,.int .i64 0,8,none⟩:=by kernel_rfl
@[simp] theorem t60:a4 60=some ⟨1,.slice 28,.slice none 0 0,24,none⟩:=by kernel_rfl
@[simp] theorem bψ:g1 a4 60=some (28,3,none):=by kernel_rfl
noncomputable def Kl:TypeDesc:=((a4 72).getD ⟨0,.bool,.nilFunc,0,none⟩).bl
@[simp] theorem t72:a4 72=some ⟨1,Kl,.nilFunc,8,none⟩:=by kernel_rfl
@[simp] theorem bω:jO Kl=false:=by kernel_rfl
noncomputable def Fy:TypeDesc:=((a4 77).getD ⟨0,.bool,.nilFunc,0,none⟩).bl
@[simp] theorem t77:a4 77=some ⟨2,Fy,.agg #[.string ⟨#[]⟩,.int .i64 0],24,some [(.string,0),(.int .i64,1)]⟩:=by kernel_rfl
@[simp] theorem bΑ:jO Fy=true:=by kernel_rfl
@[simp] theorem bΒ:fy a4 77 0=some (0,9):=by kernel_rfl
@[simp] theorem bΓ:fy a4 77 1=some (1,3):=by kernel_rfl
@[simp] theorem bΔ (aU:ζ->Bool) (cC:List (Nat×ζ)):l4 a4 aU 77 cC=tN [(0,1),(1,1)] (.agg #[.string ⟨#[]⟩,.int .i64 0]) aU cC:=by kernel_rfl
@[simp] theorem t91:a4 91=some ⟨1,.int .u64,.int .u64 0,8,none⟩:=by kernel_rfl
@[simp] theorem bΕ:fy a4 93 0=some (0,29):=by kernel_rfl
@[simp] theorem bΖ:fy a4 93 1=some (1,91):=by kernel_rfl
@[simp] theorem bΗ (aU:ζ->Bool) (cC:List (Nat×ζ)):l4 a4 aU 93 cC=tN [(0,1),(1,1)] (.agg #[.slice none 0 0,.int .u64 0]) aU cC:=by kernel_rfl
@[simp] theorem t95:a4 95=some ⟨1,.int .u64,.int .u64 0,8,none⟩:=by kernel_rfl
noncomputable def Km:TypeDesc:=((a4 98).getD ⟨0,.bool,.nilFunc,0,none⟩).bl
@[simp] theorem t98:a4 98=some ⟨3,Km,.agg #[.slice none 0 0,.slice none 0 0,.slice none 0 0],72,none⟩:=by kernel_rfl
@[simp] theorem bΘ:jO Km=true:=by kernel_rfl
@[simp] theorem bΙ:fy a4 98 0=some (0,26):=by kernel_rfl
@[simp] theorem bΚ (aU:ζ->Bool) (cC:List (Nat×ζ)):l4 a4 aU 98 cC=tN [(0,3)] (.agg #[.slice none 0 0,.slice none 0 0,.slice none 0 0]) aU cC:=by kernel_rfl
@[simp] theorem t99:a4 99=some ⟨1,.slice 110,.slice none 0 0,24,none⟩:=by kernel_rfl
@[simp] theorem bΜ:g1 a4 99=some (110,3,none):=by kernel_rfl
@[simp] theorem t102:a4 102=some ⟨2,.array 2 3,.agg #[.int .i64 0,.int .i64 0],16,some [(.int .i64,0),(.int .i64,1)]⟩:=by kernel_rfl
@[simp] theorem bΝ:g1 a4 102=some (3,1,some 2):=by kernel_rfl
@[simp] theorem bΞ (aU:ζ->Bool) (cC:List (Nat×ζ)):l4 a4 aU 102 cC=yf 1 (.agg #[.int .i64 0,.int .i64 0]) aU cC:=by kernel_rfl
noncomputable def SR:TypeDesc:=((a4 104).getD ⟨0,.bool,.nilFunc,0,none⟩).bl
@[simp] theorem t104:a4 104=some ⟨4,SR,.agg #[.int .i64 0,.int .i64 0,.int .i64 0,.bool false],32,none⟩:=by kernel_rfl
@[simp] theorem bΟ:fy a4 104 0=some (0,102):=by kernel_rfl
@[simp] theorem bΡ:fy a4 104 1=some (2,3):=by kernel_rfl
@[simp] theorem bΤ:fy a4 104 2=some (3,4):=by kernel_rfl
@[simp] theorem t106:a4 106=some ⟨1,.map 113 3,.map none,8,none⟩:=by kernel_rfl
@[simp] theorem t107:a4 107=some ⟨2,.array 2 3,.agg #[.int .i64 0,.int .i64 0],16,some [(.int .i64,0),(.int .i64,1)]⟩:=by kernel_rfl
@[simp] theorem bΥ (aU:ζ->Bool) (cC:List (Nat×ζ)):l4 a4 aU 107 cC=yf 1 (.agg #[.int .i64 0,.int .i64 0]) aU cC:=by kernel_rfl
@[simp] theorem t108:a4 108=some ⟨1,.slice 111,.slice none 0 0,24,none⟩:=by kernel_rfl
@[simp] theorem bΦ:g1 a4 108=some (111,1,none):=by kernel_rfl
noncomputable def Fz:TypeDesc:=((a4 110).getD ⟨0,.bool,.nilFunc,0,none⟩).bl
@[simp] theorem t110:a4 110=some ⟨3,Fz,.agg #[.int .i64 0,.int .i64 0,.slice none 0 0],40,none⟩:=by kernel_rfl
@[simp] theorem bΧ:jO Fz=true:=by kernel_rfl
@[simp] theorem bΨ:fy a4 110 0=some (0,107):=by kernel_rfl
@[simp] theorem bΩ:fy a4 110 1=some (2,108):=by kernel_rfl
@[simp] theorem cα (aU:ζ->Bool) (cC:List (Nat×ζ)):l4 a4 aU 110 cC=tN [(0,2),(2,1)] (.agg #[.int .i64 0,.int .i64 0,.slice none 0 0]) aU cC:=by kernel_rfl
@[simp] theorem t111:a4 111=some ⟨1,.slice 112,.slice none 0 0,24,none⟩:=by kernel_rfl
@[simp] theorem cβ:g1 a4 111=some (112,2,none):=by kernel_rfl
@[simp] theorem t112:a4 112=some ⟨2,.array 2 3,.agg #[.int .i64 0,.int .i64 0],16,some [(.int .i64,0),(.int .i64,1)]⟩:=by kernel_rfl
@[simp] theorem cγ:g1 a4 112=some (3,1,some 2):=by kernel_rfl
@[simp] theorem cδ (aU:ζ->Bool) (cC:List (Nat×ζ)):l4 a4 aU 112 cC=yf 1 (.agg #[.int .i64 0,.int .i64 0]) aU cC:=by kernel_rfl
@[simp] theorem t113:a4 113=some ⟨1,.int .i64,.int .i64 0,8,none⟩:=by kernel_rfl
@[simp] theorem t132:a4 132=some ⟨1,.slice 21,.slice none 0 0,24,none⟩:=by kernel_rfl
@[simp] theorem cε:g1 a4 132=some (21,1,none):=by kernel_rfl
noncomputable def Kn:TypeDesc:=((a4 136).getD ⟨0,.bool,.nilFunc,0,none⟩).bl
@[simp] theorem t136:a4 136=some ⟨1,Kn,.nilFunc,8,none⟩:=by kernel_rfl
@[simp] theorem cζ:jO Kn=false:=by kernel_rfl
@[simp] theorem t139:a4 139=some ⟨3,.array 3 72,.agg #[.nilFunc,.nilFunc,.nilFunc],24,none⟩:=by kernel_rfl
@[simp] theorem cη (aU:ζ->Bool) (cC:List (Nat×ζ)):l4 a4 aU 139 cC=yf 1 (.agg #[.nilFunc,.nilFunc,.nilFunc]) aU cC:=by kernel_rfl
@[simp] theorem t156:a4 156=some ⟨1,.map 157 3,.map none,8,none⟩:=by kernel_rfl
@[simp] theorem t157:a4 157=some ⟨4,.array 4 113,.agg #[.int .i64 0,.int .i64 0,.int .i64 0,.int .i64 0],32,some [(.int .i64,0),(.int .i64,1),(.int .i64,2),(.int .i64,3)]⟩:=by kernel_rfl
@[simp] theorem cθ:g1 a4 157=some (113,1,some 4):=by kernel_rfl
@[simp] theorem t169:a4 169=some ⟨1,.int .u32,.int .u32 0,4,none⟩:=by kernel_rfl
@[simp] theorem cι:fy a4 171 0=some (0,21):=by kernel_rfl
@[simp] theorem cκ:fy a4 171 1=some (1,169):=by kernel_rfl
@[simp] theorem cμ:fy a4 173 1=some (0,171):=by kernel_rfl
@[simp] theorem cν:fy a4 177 2=some (0,91):=by kernel_rfl
@[simp] theorem cξ:fy a4 179 1=some (0,177):=by kernel_rfl
@[simp] theorem cο:fy a4 179 2=some (1,169):=by kernel_rfl
@[simp] theorem t190:a4 190=some ⟨1,.slice 9,.slice none 0 0,24,none⟩:=by kernel_rfl
@[simp] theorem cπ:g1 a4 190=some (9,1,none):=by kernel_rfl
@[simp] theorem t204:a4 204=some ⟨1,.map 112 4,.map none,8,none⟩:=by kernel_rfl
@[simp] theorem cρ:kx a4 22 22=some (77,2,⟨2,Fy,.agg #[.string ⟨#[]⟩,.int .i64 0],24,some [(.string,0),(.int .i64,1)]⟩):=by kernel_rfl
@[simp] theorem cς:kx a4 23 23=some (29,1,⟨1,.slice 3,.slice none 0 0,24,none⟩):=by kernel_rfl
@[simp] theorem cτ:kx a4 24 24=some (60,1,⟨1,.slice 28,.slice none 0 0,24,none⟩):=by kernel_rfl
@[simp] theorem cυ:kx a4 29 29=some (3,1,⟨1,.int .i64,.int .i64 0,8,none⟩):=by kernel_rfl
@[simp] theorem cφ:kx a4 60 60=some (28,3,⟨3,Fx,.agg #[.int .i64 0,.int .i64 0,.int .i64 0],24,some [(.int .i64,0),(.int .i64,1),(.int .i64,2)]⟩):=by kernel_rfl
@[simp] theorem cχ:kx a4 99 99=some (110,3,⟨3,Fz,.agg #[.int .i64 0,.int .i64 0,.slice none 0 0],40,none⟩):=by kernel_rfl
@[simp] theorem cψ:kx a4 108 108=some (111,1,⟨1,.slice 112,.slice none 0 0,24,none⟩):=by kernel_rfl
@[simp] theorem cω:kx a4 111 111=some (112,2,⟨2,.array 2 3,.agg #[.int .i64 0,.int .i64 0],16,some [(.int .i64,0),(.int .i64,1)]⟩):=by kernel_rfl
@[simp] theorem cΑ:kx a4 132 132=some (21,1,⟨1,.int .i32,.int .i32 0,4,none⟩):=by kernel_rfl
end Go.TL
