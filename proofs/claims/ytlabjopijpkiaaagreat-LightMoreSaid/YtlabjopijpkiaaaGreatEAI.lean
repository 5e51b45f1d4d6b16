import Derived.Test.YtlabjopijpkiaaaGreatEAH
set_option maxHeartbeats 16000000
set_option maxRecDepth 20000
set_option linter.unusedSectionVars false
set_option linter.unusedSimpArgs false
set_option linter.unusedVariables false
namespace Go.TL
open Go.Proofs
variable [bq]
@[simp] theorem t3:bm 3=some ⟨1,.int .i64,.int .i64 0,8,none⟩:=by kernel_rfl
@[simp] theorem t4:bm 4=some ⟨1,.bool,.bool false,1,none⟩:=by kernel_rfl
@[simp] theorem t5:bm 5=some ⟨1,.int .u8,.int .u8 0,1,none⟩:=by kernel_rfl
@[simp] theorem t9:bm 9=some ⟨1,.string,.string ⟨#[]⟩,16,none⟩:=by kernel_rfl
@[simp] theorem t21:bm 21=some ⟨1,.int .i32,.int .i32 0,4,none⟩:=by kernel_rfl
@[simp] theorem t22:bm 22=some ⟨1,.slice 77,.slice none 0 0,24,none⟩:=by kernel_rfl
@[simp] theorem kΑ:iV bm 22=some (77,2,none):=by kernel_rfl
@[simp] theorem t23:bm 23=some ⟨1,.slice 29,.slice none 0 0,24,none⟩:=by kernel_rfl
@[simp] theorem kΒ:iV bm 23=some (29,1,none):=by kernel_rfl
@[simp] theorem t24:bm 24=some ⟨1,.slice 60,.slice none 0 0,24,none⟩:=by kernel_rfl
@[simp] theorem kΓ:iV bm 24=some (60,1,none):=by kernel_rfl
noncomputable def Ou:TypeDesc:=((bm 26).getD ⟨0,.bool,.nilFunc,0,none⟩).bM
@[simp] theorem t26:bm 26=some ⟨3,Ou,.agg #[.slice none 0 0,.slice none 0 0,.slice none 0 0],72,none⟩:=by kernel_rfl
@[simp] theorem kΔ:mG Ou=true:=by kernel_rfl
@[simp] theorem kΕ:gQ bm 26 0=some (0,22):=by kernel_rfl
@[simp] theorem kΖ:gQ bm 26 1=some (1,23):=by kernel_rfl
@[simp] theorem kΗ:gQ bm 26 2=some (2,24):=by kernel_rfl
@[simp] theorem kΘ (bl:θ->Bool) (dc:List (Nat×θ)):oi bm bl 26 dc=xc [(0,1),(1,1),(2,1)] (.agg #[.slice none 0 0,.slice none 0 0,.slice none 0 0]) bl dc:=by kernel_rfl
noncomputable def IQ:TypeDesc:=((bm 28).getD ⟨0,.bool,.nilFunc,0,none⟩).bM
@[simp] theorem t28:bm 28=some ⟨3,IQ,.agg #[.int .i64 0,.int .i64 0,.int .i64 0],24,some [(.int .i64,0),(.int .i64,1),(.int .i64,2)]⟩:=by kernel_rfl
@[simp] theorem kΙ:mG IQ=true:=by kernel_rfl
@[simp] theorem kΚ:gQ bm 28 0=some (0,3):=by kernel_rfl
@[simp] theorem kΜ:gQ bm 28 1=some (1,3):=by kernel_rfl
@[simp] theorem kΝ:gQ bm 28 2=some (2,3):=by kernel_rfl
@[simp] theorem kΞ (bl:θ->Bool) (dc:List (Nat×θ)):oi bm bl 28 dc=xc [(0,1),(1,1),(2,1)] (.agg #[.int .i64 0,.int .i64 0,.int .i64 0]) bl dc:=by kernel_rfl
@[simp] theorem t29:bm 29=some ⟨1,.slice 3,.slice none 0 0,24,none⟩:=by kernel_rfl
@[simp] theorem kΟ:iV bm 29=some (3,1,none):=by kernel_rfl
@[simp] theorem t38:bm 38=some ⟨1,.int .i64,.int .i64 0,8,none⟩:=by kernel_rfl
@[simp] theorem t60:bm 60=some ⟨1,.slice 28,.slice none 0 0,24,none⟩:=by kernel_rfl
@[simp] theorem kΡ:iV bm 60=some (28,3,none):=by kernel_rfl
noncomputable def Ov:TypeDesc:=((bm 72).getD ⟨0,.bool,.nilFunc,0,none⟩).bM
@[simp] theorem t72:bm 72=some ⟨1,Ov,.nilFunc,8,none⟩:=by kernel_rfl
@[simp] theorem kΤ:mG Ov=false:=by kernel_rfl
noncomputable def IS:TypeDesc:=((bm 77).getD ⟨0,.bool,.nilFunc,0,none⟩).bM
@[simp] theorem t77:bm 77=some ⟨2,IS,.agg #[.string ⟨#[]⟩,.int .i64 0],24,some [(.string,0),(.int .i64,1)]⟩:=by kernel_rfl
@[simp] theorem kΥ:mG IS=true:=by kernel_rfl
@[simp] theorem kΦ:gQ bm 77 0=some (0,9):=by kernel_rfl
@[simp] theorem kΧ:gQ bm 77 1=some (1,3):=by kernel_rfl
@[simp] theorem kΨ (bl:θ->Bool) (dc:List (Nat×θ)):oi bm bl 77 dc=xc [(0,1),(1,1)] (.agg #[.string ⟨#[]⟩,.int .i64 0]) bl dc:=by kernel_rfl
@[simp] theorem t91:bm 91=some ⟨1,.int .u64,.int .u64 0,8,none⟩:=by kernel_rfl
@[simp] theorem kΩ:gQ bm 93 0=some (0,29):=by kernel_rfl
@[simp] theorem lα:gQ bm 93 1=some (1,91):=by kernel_rfl
@[simp] theorem lβ (bl:θ->Bool) (dc:List (Nat×θ)):oi bm bl 93 dc=xc [(0,1),(1,1)] (.agg #[.slice none 0 0,.int .u64 0]) bl dc:=by kernel_rfl
@[simp] theorem t95:bm 95=some ⟨1,.int .u64,.int .u64 0,8,none⟩:=by kernel_rfl
noncomputable def Ow:TypeDesc:=((bm 98).getD ⟨0,.bool,.nilFunc,0,none⟩).bM
@[simp] theorem t98:bm 98=some ⟨3,Ow,.agg #[.slice none 0 0,.slice none 0 0,.slice none 0 0],72,none⟩:=by kernel_rfl
@[simp] theorem lγ:mG Ow=true:=by kernel_rfl
@[simp] theorem lδ:gQ bm 98 0=some (0,26):=by kernel_rfl
@[simp] theorem lε (bl:θ->Bool) (dc:List (Nat×θ)):oi bm bl 98 dc=xc [(0,3)] (.agg #[.slice none 0 0,.slice none 0 0,.slice none 0 0]) bl dc:=by kernel_rfl
@[simp] theorem t99:bm 99=some ⟨1,.slice 110,.slice none 0 0,24,none⟩:=by kernel_rfl
@[simp] theorem lζ:iV bm 99=some (110,3,none):=by kernel_rfl
@[simp] theorem t102:bm 102=some ⟨2,.array 2 3,.agg #[.int .i64 0,.int .i64 0],16,some [(.int .i64,0),(.int .i64,1)]⟩:=by kernel_rfl
@[simp] theorem lη:iV bm 102=some (3,1,some 2):=by kernel_rfl
@[simp] theorem lθ (bl:θ->Bool) (dc:List (Nat×θ)):oi bm bl 102 dc=Bb 1 (.agg #[.int .i64 0,.int .i64 0]) bl dc:=by kernel_rfl
noncomputable def XP:TypeDesc:=((bm 104).getD ⟨0,.bool,.nilFunc,0,none⟩).bM
@[simp] theorem t104:bm 104=some ⟨4,XP,.agg #[.int .i64 0,.int .i64 0,.int .i64 0,.bool false],32,none⟩:=by kernel_rfl
@[simp] theorem lι:gQ bm 104 0=some (0,102):=by kernel_rfl
@[simp] theorem lκ:gQ bm 104 1=some (2,3):=by kernel_rfl
@[simp] theorem lμ:gQ bm 104 2=some (3,4):=by kernel_rfl
@[simp] theorem t106:bm 106=some ⟨1,.map 113 3,.map none,8,none⟩:=by kernel_rfl
@[simp] theorem t107:bm 107=some ⟨2,.array 2 3,.agg #[.int .i64 0,.int .i64 0],16,some [(.int .i64,0),(.int .i64,1)]⟩:=by kernel_rfl
@[simp] theorem lν (bl:θ->Bool) (dc:List (Nat×θ)):oi bm bl 107 dc=Bb 1 (.agg #[.int .i64 0,.int .i64 0]) bl dc:=by kernel_rfl
@[simp] theorem t108:bm 108=some ⟨1,.slice 111,.slice none 0 0,24,none⟩:=by kernel_rfl
@[simp] theorem lξ:iV bm 108=some (111,1,none):=by kernel_rfl
noncomputable def IT:TypeDesc:=((bm 110).getD ⟨0,.bool,.nilFunc,0,none⟩).bM
@[simp] theorem t110:bm 110=some ⟨3,IT,.agg #[.int .i64 0,.int .i64 0,.slice none 0 0],40,none⟩:=by kernel_rfl
@[simp] theorem lο:mG IT=true:=by kernel_rfl
@[simp] theorem lπ:gQ bm 110 0=some (0,107):=by kernel_rfl
@[simp] theorem lρ:gQ bm 110 1=some (2,108):=by kernel_rfl
@[simp] theorem lς (bl:θ->Bool) (dc:List (Nat×θ)):oi bm bl 110 dc=xc [(0,2),(2,1)] (.agg #[.int .i64 0,.int .i64 0,.slice none 0 0]) bl dc:=by kernel_rfl
@[simp] theorem t111:bm 111=some ⟨1,.slice 112,.slice none 0 0,24,none⟩:=by kernel_rfl
@[simp] theorem lτ:iV bm 111=some (112,2,none):=by kernel_rfl
@[simp] theorem t112:bm 112=some ⟨2,.array 2 3,.agg #[.int .i64 0,.int .i64 0],16,some [(.int .i64,0),(.int .i64,1)]⟩:=by kernel_rfl
@[simp] theorem lυ:iV bm 112=some (3,1,some 2):=by kernel_rfl
@[simp] theorem lφ (bl:θ->Bool) (dc:List (Nat×θ)):oi bm bl 112 dc=Bb 1 (.agg #[.int .i64 0,.int .i64 0]) bl dc:=by kernel_rfl
@[simp] theorem t113:bm 113=some ⟨1,.int .i64,.int .i64 0,8,none⟩:=by kernel_rfl
@[simp] theorem t132:bm 132=some ⟨1,.slice 21,.slice none 0 0,24,none⟩:=by kernel_rfl
@[simp] theorem lχ:iV bm 132=some (21,1,none):=by kernel_rfl
@[simp] theorem t139:bm 139=some ⟨3,.array 3 72,.agg #[.nilFunc,.nilFunc,.nilFunc],24,none⟩:=by kernel_rfl
@[simp] theorem lψ (bl:θ->Bool) (dc:List (Nat×θ)):oi bm bl 139 dc=Bb 1 (.agg #[.nilFunc,.nilFunc,.nilFunc]) bl dc:=by kernel_rfl
@[simp] theorem t156:bm 156=some ⟨1,.map 157 3,.map none,8,none⟩:=by kernel_rfl
@[simp] theorem t157:bm 157=some ⟨4,.array 4 113,.agg #[.int .i64 0,.int .i64 0,.int .i64 0,.int .i64 0],32,some [(.int .i64,0),(.int .i64,1),(.int .i64,2),(.int .i64,3)]⟩:=by kernel_rfl
@[simp] theorem lω:iV bm 157=some (113,1,some 4):=by kernel_rfl
@[simp] theorem t169:bm 169=some ⟨1,.int .u32,.int .u32 0,4,none⟩:=by kernel_rfl
@[simp] theorem lΑ:gQ bm 171 0=some (0,21):=by kernel_rfl
@[simp] theorem lΒ:gQ bm 171 1=some (1,169):=by kernel_rfl
@[simp] theorem lΓ:gQ bm 173 1=some (0,171):=by kernel_rfl
@[simp] theorem lΔ:gQ bm 177 2=some (0,91):=by kernel_rfl
@[simp] theorem lΕ:gQ bm 179 1=some (0,177):=by kernel_rfl
@[simp] theorem lΖ:gQ bm 179 2=some (1,169):=by kernel_rfl
@[simp] theorem t190:bm 190=some ⟨1,.slice 9,.slice none 0 0,24,none⟩:=by kernel_rfl
@[simp] theorem lΗ:iV bm 190=some (9,1,none):=by kernel_rfl
@[simp] theorem t204:bm 204=some ⟨1,.map 112 4,.map none,8,none⟩:=by kernel_rfl
@[simp] theorem t248:bm 248=some ⟨1,.int .u64,.int .u64 0,8,none⟩:=by kernel_rfl
@[simp] theorem lΘ:mJ bm 22 22=some (77,2,⟨2,IS,.agg #[.string ⟨#[]⟩,.int .i64 0],24,some [(.string,0),(.int .i64,1)]⟩):=by kernel_rfl
@[simp] theorem lΙ:mJ bm 23 23=some (29,1,⟨1,.slice 3,.slice none 0 0,24,none⟩):=by kernel_rfl
@[simp] theorem lΚ:mJ bm 24 24=some (60,1,⟨1,.slice 28,.slice none 0 0,24,none⟩):=by kernel_rfl
@[simp] theorem lΜ:mJ bm 29 29=some (3,1,⟨1,.int .i64,.int .i64 0,8,none⟩):=by kernel_rfl
@[simp] theorem lΝ:mJ bm 60 60=some (28,3,⟨3,IQ,.agg #[.int .i64 0,.int .i64 0,.int .i64 0],24,some [(.int .i64,0),(.int .i64,1),(.int .i64,2)]⟩):=by kernel_rfl
@[simp] theorem lΞ:mJ bm 99 99=some (110,3,⟨3,IT,.agg #[.int .i64 0,.int .i64 0,.slice none 0 0],40,none⟩):=by kernel_rfl
@[simp] theorem lΟ:mJ bm 108 108=some (111,1,⟨1,.slice 112,.slice none 0 0,24,none⟩):=by kernel_rfl
@[simp] theorem lΡ:mJ bm 111 111=some (112,2,⟨2,.array 2 3,.agg #[.int .i64 0,.int .i64 0],16,some [(.int .i64,0),(.int .i64,1)]⟩):=by kernel_rfl
@[simp] theorem lΤ:mJ bm 132 132=some (21,1,⟨1,.int .i32,.int .i32 0,4,none⟩):=by kernel_rfl
end Go.TL
