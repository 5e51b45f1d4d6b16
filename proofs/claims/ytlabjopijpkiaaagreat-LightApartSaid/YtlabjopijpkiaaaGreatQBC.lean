import Derived.Sort.LotA
import Derived.Test.YtlabjopijpkiaaaGreatQAV
import Derived.Test.YtlabjopijpkiaaaGreatQAY
import Derived.Test.YtlabjopijpkiaaaGreatQBB
set_option maxHeartbeats 16000000
set_option maxRecDepth 20000
set_option linter.unusedSectionVars false
set_option linter.unusedSimpArgs false
set_option linter.unusedVariables false
namespace Go.TL
open Go.Proofs
variable [bd]
theorem Mn {α:Type} [Inhabited α] {lt:α→α→Bool} (ξ:Go.Sort.SWO lt) (μ:∀x y,lt x y=false→lt y x=false→x=y) (l:List α):(Go.Sort.insertionSort lt l.toArray 0 l.length).toList=l.mergeSort (fun x y=>!lt y x):=by
 obtain⟨R,γ⟩:=Go.Sort.insertionSort_holds (lt:=lt) ξ l.toArray 0 l.length (Nat.zero_le _) (by simp);exact Go.Sort.sorted_unique_holds (lt:=lt) ξ μ l.toArray _ (by simpa using R) (by simpa using γ)
theorem Vo (x y:Int) (h:Go.Sort.ltInt x y=false) (k:Go.Sort.ltInt y x=false):x=y:=by
 simp[Go.Sort.ltInt] at h k;omega
theorem Vp:GR 12:=fun l ω=>by
 have h:=UQ l.toArray l.length (by simp) ω;rw[Mn Go.Sort.swo_ltInt Vo l] at h;have e:(fun x y:Int=>!Go.Sort.ltInt y x)=fun x y=>decide (x≤y):=by
  funext x y;rw[Bool.eq_iff_iff];simp[Go.Sort.ltInt]
 rw[e] at h;exact h
theorem rU (x y:Int×Int):ar mI x y=decide (x.1<y.1∨(x.1=y.1∧x.2<y.2)):=by
 unfold ar mI;simp only[om,oj];by_cases R:x.1<y.1
 ·simp[R]
 ·by_cases γ:y.1<x.1
  ·have:¬x.1=y.1:=by omega
   simp[R,γ,this]
  ·have ο:x.1=y.1:=by omega
   by_cases Ι:x.2<y.2
   ·simp[ο,Ι]
   ·by_cases ay:y.2<x.2
    ·simp[ο,Ι,ay]
    ·simp[ο,Ι,ay]
theorem wQ:Go.Sort.SWO (ar mI) where
 irrefl x:=by rw[rU];simp
 trans x y z h k:=by
  rw[rU] at *;simp at *;omega
 ntrans x y z h k:=by
  rw[rU] at *;simp at *;omega
theorem Mo (x y:Int×Int) (h:ar mI x y=false) (k:ar mI y x=false):x=y:=by
 rw[rU] at *;simp at h k;apply Prod.ext<;>omega
abbrev kq (x y:Int×Int):Bool:=!ar mI y x
theorem Vq {l m:List (Int×Int)} (χ:l.Perm m) (hm:m.Pairwise fun x y=>x.1<y.1∨(x.1=y.1∧x.2<y.2)):l.mergeSort kq=m:=by
 have GV:∀a b c:Int×Int,kq a b=true→kq b c=true→kq a c=true:=fun a b c h k=>by
  simp only[kq,rU] at *;simp at *;omega
 have GW:∀a b:Int×Int,(kq a b||kq b a)=true:=fun a b=>by
  simp only[kq,rU];simp;omega
 have s1:=List.pairwise_mergeSort (le:=kq) GV GW l
 have dB:(l.mergeSort kq).Perm m:=(List.mergeSort_perm l kq).trans χ;refine List.Perm.eq_of_pairwise (le:=fun a b=>kq a b=true) (fun a b _ _ h k=>?_) s1 (hm.imp fun {a b} h=>?_) dB
 ·simp only[kq,rU] at h k;simp at h k;apply Prod.ext<;>omega
 ·simp only[kq,rU];simp;omega
theorem Vr (ai:θ) (bR:az 0 ai):av Tryz.prog 234 [.sl true 0 [],U 0,U 0,ai] (.bt []):=by
 refine ak.body Θ Tryz.func234 rfl rfl Tryz.ntmps234 rfl rfl (by simp) ?_;(repeat (first|apply ι|(refine ν fun J I=>?_;simp;(repeat (rw[ζ];simp));apply I;clear I J)));refine .loop ?_;(repeat (first|apply ι|(refine ν fun J I=>?_;simp;(repeat (rw[ζ];simp));apply I;clear I J)));refine ah rfl ?_;refine W.exit rfl ?_;exact W.nil ⟨_,rfl,db.refl _,rfl⟩
theorem Vs (lim:Nat) (ai:θ) (bR:az 0 ai):av Tryz.prog 211 [.sl true 0 [],U 0,U 0,U lim,ai] (.bt []):=by
 refine ak.body Θ Tryz.func211 rfl rfl Tryz.ntmps211 rfl rfl (by simp) ?_;(repeat (first|apply ι|(refine ν fun J I=>?_;simp;(repeat (rw[ζ];simp));apply I;clear I J)));refine .loop ?_;(repeat (first|apply ι|(refine ν fun J I=>?_;simp;(repeat (rw[ζ];simp));apply I;clear I J)));refine al rfl ?_;(repeat (first|apply ι));refine ν fun J I=>?_;simp;(repeat (rw[ζ];simp));refine av.c (Vr ai bR) (aI.refl _) (by simp[bR]) (by simp) ?_;simp;(repeat (rw[ζ];simp));apply I;clear I J;exact W.ret ⟨_,rfl,db.refl _,rfl⟩
theorem Vt (ai:θ) (bR:az 0 ai):av Tryz.prog 173 [.sl true 0 [],ai] (.bt []):=by
 refine ak.body Θ Tryz.func173 rfl rfl Tryz.ntmps173 rfl rfl (by simp) ?_;have Δ:IntKind.u64.wrap (0:Int)=0:=by decide
 (repeat (first|apply ι|(refine ν fun J I=>?_;simp;(repeat (rw[ζ];simp));apply I;clear I J)));(repeat (first|apply ι));refine ν fun J I=>?_;simp;(repeat (rw[ζ];simp[Δ]));refine av.c (uU 0 (by omega)) (aI.refl _) (by simp) (by simp) ?_;simp;(repeat (rw[ζ];simp));refine av.c (Vs (Go.Sort.bitsLen 0) ai bR) (aI.refl _) (by simp[bR]) (by simp) ?_;simp;(repeat (rw[ζ];simp));apply I;clear I J;exact W.nil ⟨_,rfl,db.refl _,rfl⟩
theorem Vu (ai:θ) (bR:az 0 ai):av Tryz.prog 217 [.sl true 0 [],U 0,U 0,ai] (.bt []):=by
 refine ak.body Θ Tryz.func217 rfl rfl Tryz.ntmps217 rfl rfl (by simp) ?_;(repeat (first|apply ι|(refine ν fun J I=>?_;simp;(repeat (rw[ζ];simp));apply I;clear I J)));refine .loop ?_;(repeat (first|apply ι|(refine ν fun J I=>?_;simp;(repeat (rw[ζ];simp));apply I;clear I J)));refine ah rfl ?_;refine W.exit rfl ?_;exact W.nil ⟨_,rfl,db.refl _,rfl⟩
theorem Vv (lim:Nat) (ai:θ) (bR:az 0 ai):av Tryz.prog 182 [.sl true 0 [],U 0,U 0,U lim,ai] (.bt []):=by
 refine ak.body Θ Tryz.func182 rfl rfl Tryz.ntmps182 rfl rfl (by simp) ?_;(repeat (first|apply ι|(refine ν fun J I=>?_;simp;(repeat (rw[ζ];simp));apply I;clear I J)));refine .loop ?_;(repeat (first|apply ι|(refine ν fun J I=>?_;simp;(repeat (rw[ζ];simp));apply I;clear I J)));refine al rfl ?_;(repeat (first|apply ι));refine ν fun J I=>?_;simp;(repeat (rw[ζ];simp));refine av.c (Vu ai bR) (aI.refl _) (by simp[bR]) (by simp) ?_;simp;(repeat (rw[ζ];simp));apply I;clear I J;exact W.ret ⟨_,rfl,db.refl _,rfl⟩
theorem Vw (ai:θ) (bR:az 0 ai):av Tryz.prog 147 [.sl true 0 [],ai] (.bt []):=by
 refine ak.body Θ Tryz.func147 rfl rfl Tryz.ntmps147 rfl rfl (by simp) ?_;have Δ:IntKind.u64.wrap (0:Int)=0:=by decide
 (repeat (first|apply ι|(refine ν fun J I=>?_;simp;(repeat (rw[ζ];simp));apply I;clear I J)));(repeat (first|apply ι));refine ν fun J I=>?_;simp;(repeat (rw[ζ];simp[Δ]));refine av.c (uU 0 (by omega)) (aI.refl _) (by simp) (by simp) ?_;simp;(repeat (rw[ζ];simp));refine av.c (Vv (Go.Sort.bitsLen 0) ai bR) (aI.refl _) (by simp[bR]) (by simp) ?_;simp;(repeat (rw[ζ];simp));apply I;clear I J;exact W.nil ⟨_,rfl,db.refl _,rfl⟩
theorem ey.struct {h id k:Nat} {σ:List Row} {t:TypeId} {l cs:List θ} (bU:h≤id) (bH:σ[id]?=some (.cells t k [.aU l])) (hlen:cs.length=l.length) (H:∀(x:Nat) (a b9:θ),l[x]?=some a→cs[x]?=some b9→ey h σ a b9):ey h σ (.ag id 1 0 0) (.aa cs):=
 .ag bU bH rfl rfl (by simp[θ.cells,hlen]) fun x a b9 R γ=>H x a b9 (by simpa[θ.cells] using R) γ
abbrev gr (a b c:θ):Row:=.cells 26 3 [.aU [a,b,c]]
def uY (s:aM) (i:Nat):List Row:=if i=0 then [gr (.sl true 0 []) (.sl true 0 []) (.sl true 0 []),gr (aP s.af) (aO s.an) (.sl true 0 [])] else
 [gr (.sl true 0 []) (.sl true 0 []) (.sl true 0 []),gr (aP s.af) (aO s.an) (.ms 2 i 0 i),.cells 60 1 ((s.cells.take i).map k5)]
theorem Vx (s:aM) (h:s.small):av Tryz.prog 25 [eP s] (eP s):=by
 refine ak.body Θ Tryz.func25 rfl rfl Tryz.ntmps25 rfl rfl (by simp) ?_;obtain⟨R,γ,ο,Ι,ay⟩:=h
 repeat first|apply ι
 refine de (A:=[2]) Θ fun J I=>?_;simp;(repeat (rw[ζ];simp));apply I;clear I J
 repeat first|apply ι
 refine W.draw (A:=[3]) Θ mixed fun J I=>?_;simp;(repeat (rw[bp];simp));refine⟨by omega,?_⟩;refine gn (av.p (Uz s.an (by omega) (fun x δ=>by have:=Ι x δ;omega)) (aI.refl _) (by simp) (by simp)) ?_;simp;(repeat (rw[bp];simp));refine⟨bL (by kernel_rfl),I _ _ ?_⟩;clear I J;(repeat (first|apply ι|(refine ν fun J I=>?_;simp;(repeat (rw[ζ];simp));apply I;clear I J)));refine W.iter (fun i:Nat=>i≤s.cells.length) (fun i=>[(1,.aa [aP s.af,aO s.an,bz s.cells]),(2,.ag 0 1 0 0),(3,.ag 1 1 0 0),(4,U i)]) (fun i=>uY s i) (fun i=>s.cells.length-i) 0 (Nat.zero_le _) rfl (by simp) (fun i hi Γ=>?_);(repeat (first|apply ι|(refine ν fun J I=>?_;simp;(repeat (rw[ζ];simp));apply I;clear I J)));refine W.dY rfl (fun η=>?_) (fun η=>?_)
 ·have η:i<s.cells.length:=by simpa using η
  have χ:s.cells[i].length<2 ^ 30:=ay _ (List.getElem_mem η)
  have κ:(s.cells.map k5).take (i+1)=(s.cells.map k5).take i++[k5 s.cells[i]]:=by rw[List.take_succ_eq_append_getElem (by simpa using η)];simp
  by_cases Ν:i=0
  ·subst Ν
   repeat first|apply ι
   refine W.draw (A:=[30]) Θ mixed fun J I=>?_;simp;(repeat (rw[bp];simp[uY,η]));refine⟨by omega,?_⟩;refine⟨bL (by kernel_rfl),I _ _ ?_⟩;clear I J;(repeat (first|apply ι|(refine ν fun J I=>?_;simp;(repeat (rw[ζ];simp));apply I;clear I J)));refine W.to (Γ 1 η (by omega)) ?_ ?_
   ·simp only[uY,List.map_take,κ];simp
   ·simp[CK,eD η (show s.cells.length<2 ^ 62 by omega)]
  ·repeat first|apply ι
   refine W.draw (A:=[30]) Θ mixed fun J I=>?_;simp;(repeat (rw[bp];simp[uY,η,Ν,Nat.min_eq_left hi]));refine⟨by omega,by omega,?_⟩;refine⟨bL (by kernel_rfl),I _ _ ?_⟩;clear I J;(repeat (first|apply ι|(refine ν fun J I=>?_;simp;(repeat (rw[ζ];simp));apply I;clear I J)));refine W.to (Γ (i+1) η (by omega)) ?_ ?_
   ·simp[uY,κ]
   ·simp[eD η (show s.cells.length<2 ^ 62 by omega)]
 ·have η:i=s.cells.length:=by simp at η;omega
  subst η;refine W.exit rfl ?_;by_cases Ν:s.cells.length=0
  ·(repeat (first|apply ι|(refine ν fun J I=>?_;simp;(repeat (rw[ζ];simp[uY,Ν]));apply I;clear I J)));have kN:s.cells=[]:=dq.1 Ν;refine W.cut 0 (Nat.zero_le _) [(2,.aa [aP s.af,aO s.an,.sl true 0 []])] (by simp) (by simp) ?_ ?_
   ·simp;refine .struct (Nat.zero_le _) (show _=some (Row.cells _ _ [.aU _]) from rfl) rfl fun x a b9 R γ=>?_
    match x with
    | 0=>simp at R γ;subst R;subst γ;exact .low (by simp)
    | 1=>simp at R γ;subst R;subst γ;exact .low (by simp)
    | 2=>simp at R γ;subst R;subst γ;exact .low (by simp)
    | x+3=>simp at γ
   ·refine W.ret ?_;refine⟨_,by simp;rfl,?_,rfl⟩;show db _ (.aU [aP s.af,aO s.an,.sl false 1 (s.cells.map k5)]);rw[kN];exact .aU (.cons (.refl _) (.cons (.refl _) (.cons .nil .nil)))
  ·(repeat (first|apply ι|(refine ν fun J I=>?_;simp;(repeat (rw[ζ];simp[uY,Ν]));apply I;clear I J)));refine W.cut 0 (Nat.zero_le _) [(2,.aa [aP s.af,aO s.an,bz s.cells])] (by simp) (by simp) ?_ ?_
   ·simp;refine .struct (Nat.zero_le _) (show _=some (Row.cells _ _ [.aU _]) from rfl) rfl fun x a b9 R γ=>?_
    match x with
    | 0=>simp at R γ;subst R;subst γ;exact .low (by simp)
    | 1=>simp at R γ;subst R;subst γ;exact .low (by simp)
    | 2=>simp at R γ;subst R;subst γ;exact .own (Nat.zero_le _) rfl (by simp) (by simp)
    | x+3=>simp at γ
   ·refine W.ret ?_;refine⟨_,by simp;rfl,?_,rfl⟩;exact .refl _
abbrev dp (r:Int×Int):θ×θ:=(ax r,bm true)
theorem Vy (x y:Int×Int):aeqv a9 112 (ax x) (ax y)=some (decide (x=y)):=by
 simp[aeqv,jc,lK];rw[Bool.eq_iff_iff];simp[Prod.ext_iff]
theorem Vz (r:Int×Int):∀(l:List (Int×Int)) (n:Nat),r∉l→hj a9 112 (ax r) (l.map dp) n=some none:=by
 intro l
 induction l with
 | nil=>intro n _;rfl
 | cons x l Γ=>
  intro n h;simp only[List.map_cons,hj];have R:¬r=x:=fun e=>h (by simp[e]);have:=Vy r x;rw[this,decide_eq_false R];exact Γ (n+1) fun hm=>h (by simp[hm])
def lX (i j:Nat):List (Int×Int):=(List.range j).map fun y:Nat=>((i:Int)-1,(y:Int)-1)
def oy (n i:Nat):List (Int×Int):=(List.range i).flatMap fun x=>lX x (n+1)
def GX (n:Nat):List (Int×Int):=oy n (n+1)
theorem Mp (i j:Nat):lX i (j+1)=lX i j++[((i:Int)-1,(j:Int)-1)]:=by simp[lX,List.range_succ]
theorem GY (n i:Nat):oy n (i+1)=oy n i++lX i (n+1):=by simp[oy,List.range_succ]
theorem CX {i j:Nat} {r:Int×Int} (h:r∈lX i j):r.1=(i:Int)-1∧r.2<(j:Int)-1:=by
 unfold lX at h;obtain⟨y,Ο,rfl⟩:=List.mem_map.1 h;have:=List.mem_range.1 Ο;exact⟨rfl,by simp;omega⟩
theorem Mq {n i:Nat} {r:Int×Int} (h:r∈oy n i):r.1<(i:Int)-1:=by
 unfold oy at h;obtain⟨x,δ,γ⟩:=List.mem_flatMap.1 h;have:=List.mem_range.1 δ;have:=(CX γ).1;omega
def fz (s:aM) (p:Int×Int) (c:Nat):List (Int×Int):=(GX s.af.length).filter fun r=>s.lR p r c
theorem VA (i j:Nat):(lX i j).Pairwise fun x y=>x.1<y.1∨(x.1=y.1∧x.2<y.2):=by
 induction j with
 | zero=>simp[lX]
 | succ j Γ=>
  rw[Mp,List.pairwise_append];refine⟨Γ,by simp,fun a μ b hb=>?_⟩;simp at hb;subst hb;have:=CX μ;exact .inr ⟨this.1,by simpa using this.2⟩
theorem VB (n i:Nat):(oy n i).Pairwise fun x y=>x.1<y.1∨(x.1=y.1∧x.2<y.2):=by
 induction i with
 | zero=>simp[oy]
 | succ i Γ=>
  rw[GY,List.pairwise_append];refine⟨Γ,VA _ _,fun a μ b hb=>.inl ?_⟩;have:=Mq μ;have:=(CX hb).1;omega
theorem VC (s:aM) (p:Int×Int) (c:Nat):(fz s p c).Pairwise fun x y=>x.1<y.1∨(x.1=y.1∧x.2<y.2):=(VB _ _).filter _
def CY (N:Nat):Prop:=∀(l:List (Int×Int)),l.length≤N→ak Tryz.prog 173 [.ms 0 l.length 0 l.length,.fn (.func 174) [] []] [.cells 112 2 (l.map ax)] (fun r s=>r=.bt []∧s=[.cells 112 2 ((l.mergeSort kq).map ax)]) (fun _ _=>False)
theorem VD:CY 12:=fun l ω=>by
 have h:=UM l.toArray l.length (by simp) ω (.fn (.func 174) [] []) mI (by simp[k2]) (fun x y=>av.p (L2 x y) (aI.refl _) (by simp) (by simp));rw[Mn wQ Mo l] at h;exact h
def hF (q:Int×Int→Bool) (n i j:Nat):List (Int×Int):=(oy n i++lX i j).filter q
theorem GZ {q:Int×Int→Bool} {n:Nat}:hF q n 0 0=[]:=by simp[hF,oy,lX]
theorem G1 {q:Int×Int→Bool} {n i:Nat}:hF q n i (n+1)=hF q n (i+1) 0:=by simp[hF,GY,lX]
theorem Mr {q:Int×Int→Bool} {n i j:Nat}:hF q n i (j+1)=hF q n i j++if q ((i:Int)-1,(j:Int)-1) then [((i:Int)-1,(j:Int)-1)] else []:=by
 unfold hF;rw[Mp,←List.append_assoc,List.filter_append];simp[List.filter_cons]
theorem G2 {q:Int×Int→Bool} {n:Nat}:hF q n (n+1) 0=(GX n).filter q:=by simp[hF,lX,GX]
theorem VE {q:Int×Int→Bool} {n i j:Nat}:((i:Int)-1,(j:Int)-1)∉hF q n i j:=by
 unfold hF;rw[List.mem_filter,List.mem_append];rintro⟨h|h,_⟩
 ·have:=Mq h;simp at this
 ·have:=(CX h).2;simp at this
def mK (l:List θ):θ:=if l.isEmpty then .sl true 0 [] else .ms 3 l.length 0 l.length
def cQ (l:List θ):List Row:=if l.isEmpty then [] else [.cells 111 1 l]
abbrev g6:Row:=.cells 110 3 [.aU [U 0,U 0,.sl true 0 []]]
abbrev gd (p:Int×Int) (L:List θ):Row:=.cells 110 3 [.aU [U p.1,U p.2,mK L]]
def cI (id:Nat) (l:List θ):θ:=if l.isEmpty then .sl true 0 [] else .ms id l.length 0 l.length
theorem gR {id:Nat} {l:List θ} (h:l≠[]):cI id l=.ms id l.length 0 l.length:=by unfold cI;rw[if_neg (by simpa using h)]
theorem VF {l:List θ}:az ((cQ l).length+3) (mK l):=by
 unfold mK cQ;cases l.isEmpty<;>simp[od]
theorem VG {h:Nat} {l:List θ} (hb:∀e∈l,∀a∈e.cells,az 0 a):∀r∈cQ l,eN h r:=by
 intro r κ;unfold cQ at κ;cases ω:l.isEmpty with
 | true=>rw[ω] at κ;simp at κ
 | false=>
  rw[ω] at κ;simp at κ;subst κ;exact fun e he a μ=>(hb e he a μ).mono (Nat.zero_le _)
theorem eN.mono {h cP:Nat} {r:Row} (hb:eN h r) (aS:h≤cP):eN cP r:=by
 cases r with
 | cells t k l=>exact fun e he a μ=>(hb e he a μ).mono aS
 | map es=>exact fun e he=>⟨(hb e he).1.mono aS,(hb e he).2.mono aS⟩
 | iter m left cur=>exact⟨Nat.lt_of_lt_of_le hb.1 aS,fun e he=>⟨(hb.2.1 e he).1.mono aS,(hb.2.1 e he).2.mono aS⟩,fun e he=>⟨(hb.2.2 e he).1.mono aS,(hb.2.2 e he).2.mono aS⟩⟩
 | dead=>trivial
theorem VH {h id:Nat} {l:List θ} (aS:l≠[]→id<h):az h (cI id l):=by
 by_cases ω:l=[]
 ·subst ω;unfold cI;simp
 ·rw[gR ω];exact od.2 (aS ω)
theorem Ms {α:Type} (l:List α) (i:Nat) (h:i<l.length):(l[i]::l.eraseIdx i).Perm l:=by
 induction l generalizing i with
 | nil=>simp at h
 | cons a l Γ=>
  cases i with
  | zero=>exact .refl _
  | succ i=>
   simp only[List.getElem_cons_succ,List.eraseIdx_cons_succ];exact(List.Perm.swap _ _ _).trans (.cons a (Γ i (by simpa using h)))
theorem zm {h id k:Nat} {t:TypeId} {l:List θ} {σ:List Row} (bU:h≤id) (κ:l≠[]→σ[id]?=some (.cells t k l)) (hb:∀e∈l,∀a∈e.cells,az h a):ey h σ (cI id l) (fq k l):=by
 by_cases ω:l=[]
 ·subst ω;exact .low (by unfold cI;simp)
 ·have e:fq k l=.sl false k l:=by unfold fq;rw[if_neg (by simpa using ω)]
  rw[gR ω,e];exact .own bU (κ ω) rfl hb
theorem G3 (k:Nat) (m:List θ):∃b kk l,fq k m=.sl b kk l:=by
 unfold fq;split
 ·exact⟨_,_,_,rfl⟩
 ·exact⟨_,_,_,rfl⟩
theorem Mt {α β:Type} (f:α→β) (l:List α) (i:Nat):(l.map f).eraseIdx i=(l.eraseIdx i).map f:=by
 induction l generalizing i with
 | nil=>rfl
 | cons a l Γ=>cases i<;>simp[Γ]
theorem VI (s:aM) (ξ:s.small) (Τ:s.af.length<2 ^ 20) (p:Int×Int) (hv:∀c∈s.cells,∀x∈c,0≤x.cE∧x.cE<s.an.length) (N:Nat) (cm:N<2 ^ 20) (fS:CY N) (hle:∀c,c<s.cells.length→(fz s p c).length≤N) :
  av Tryz.prog 143 [eP s,ax p] (cX ⟨p.1,p.2,(List.range s.cells.length).map (fz s p)⟩):=by
 refine ak.body Θ Tryz.func143 rfl rfl Tryz.ntmps143 rfl rfl (by simp) ?_
 repeat first|apply ι
 refine de (A:=[4]) Θ fun J I=>?_;simp;(repeat (rw[ζ];simp));apply I;clear I J
 repeat first|apply ι
 refine de (A:=[5]) Θ fun J I=>?_;simp;(repeat (rw[ζ];simp));apply I;clear I J
 repeat first|apply ι
 (repeat (first|apply ι));refine ν fun J I=>?_;simp;(repeat (rw[ζ];simp));apply I;clear I J;(repeat (first|apply ι|(refine ν fun J I=>?_;simp;(repeat (rw[ζ];simp));apply I;clear I J)));have hy:s.cells.length<2 ^ 30:=ξ.2.2.1;refine W.iter (fun c:Nat=>c≤s.cells.length) (fun c=>[(2,.aa [aP s.af,aO s.an,bz s.cells]),(3,.aa [U p.1,U p.2]),(4,.ag 0 1 0 0),(5,.ag 1 1 0 0),(6,.mp 2),(19,U s.cells.length),(20,U c)])
  (fun c=>g6::gd p ((List.range c).map fun c=>fq 2 ((fz s p c).map ax))::.map []::cQ ((List.range c).map fun c=>fq 2 ((fz s p c).map ax))) (fun c=>s.cells.length-c) 0 (Nat.zero_le _) (by simp[mK,cQ]) (by simp) (fun c η Γ=>?_)
 obtain⟨L,aD⟩:∃L,L=(List.range c).map fun c=>fq 2 ((fz s p c).map ax):=⟨_,rfl⟩;refine W.to (σ':=g6::gd p L::.map []::cQ L) (env':=[(2,.aa [aP s.af,aO s.an,bz s.cells]),(3,.aa [U p.1,U p.2]),(4,.ag 0 1 0 0),(5,.ag 1 1 0 0),(6,.mp 2),(19,U s.cells.length),(20,U c)]) ?_ (by rw[aD]) (by simp);(repeat (first|apply ι|(refine ν fun J I=>?_;simp;(repeat (rw[ζ];simp));apply I;clear I J)));refine W.dY rfl (fun η=>?_) (fun η=>?_)
 ·have aZ:c<s.cells.length:=by simpa using η
  (repeat (first|apply ι|(refine ν fun J I=>?_;simp;(repeat (rw[ζ];simp));apply I;clear I J)));obtain⟨n,Η⟩:∃n,n=s.af.length:=⟨_,rfl⟩;have qc:n<2 ^ 20:=by omega
  obtain⟨q,Υ⟩:∃q:Int×Int→Bool,q=fun r=>s.lR p r c:=⟨_,rfl⟩;have rV:∀e∈L,∀a∈e.cells,az 0 a:=by
   rw[aD];intro e he a μ;obtain⟨x,_,rfl⟩:=List.mem_map.1 he;unfold fq at μ;split at μ<;>simp[θ.cells] at μ<;>subst μ<;>simp
  have fD:∀(M:List (Int×Int)) (h:Nat),eN h (.map (M.map dp)):=fun M h e he=>by
   obtain⟨x,_,rfl⟩:=List.mem_map.1 he;simp
  have js:∀M:List (Int×Int),∀r∈g6::gd p L::.map (M.map dp)::cQ L,eN (g6::gd p L::.map (M.map dp)::cQ L).length r:=fun M r κ=>by
   simp only[List.mem_cons] at κ;rcases κ with rfl|rfl|rfl|κ
   ·simp[eN,θ.cells]
   ·simp[eN,θ.cells];exact VF
   ·exact fD M _
   ·exact VG rV r κ
  refine W.iter (fun i:Nat=>i≤n+1) (fun i=>[(2,.aa [aP s.af,aO s.an,bz s.cells]),(3,.aa [U p.1,U p.2]),(4,.ag 0 1 0 0),(5,.ag 1 1 0 0),(6,.mp 2),(19,U s.cells.length),(20,U c),(7,U c),(8,U ((i:Int)-1))])
   (fun i=>g6::gd p L::.map ((hF q n i 0).map dp)::cQ L) (fun i=>n+1-i) 0 (Nat.zero_le _) (by rw[GZ];rfl) (by simp) (fun i hi gq=>?_)
  (repeat (first|apply ι|(refine ν fun J I=>?_;simp;(repeat (rw[ζ];simp));apply I;clear I J)));by_cases bb:i<n+1
  ·refine al (by simp[←Η];omega) ?_;(repeat (first|apply ι|(refine ν fun J I=>?_;simp;(repeat (rw[ζ];simp));apply I;clear I J)));refine W.iter (fun j:Nat=>j≤n+1) (fun j=>[(2,.aa [aP s.af,aO s.an,bz s.cells]),(3,.aa [U p.1,U p.2]),(4,.ag 0 1 0 0),(5,.ag 1 1 0 0),(6,.mp 2),(19,U s.cells.length),(20,U c),(7,U c),(8,U ((i:Int)-1)),(9,U ((j:Int)-1))])
    (fun j=>g6::gd p L::.map ((hF q n i j).map dp)::cQ L) (fun j=>n+1-j) 0 (Nat.zero_le _) rfl (by simp) (fun j ε mL=>?_)
   (repeat (first|apply ι|(refine ν fun J I=>?_;simp;(repeat (rw[ζ];simp));apply I;clear I J)));by_cases eI:j<n+1
   ·refine al (by simp[←Η];omega) ?_
    repeat first|apply ι
    obtain⟨M,dj⟩:∃M,M=hF q n i j:=⟨_,rfl⟩;refine W.to (σ':=g6::gd p L::.map (M.map dp)::cQ L) (env':=[(2,.aa [aP s.af,aO s.an,bz s.cells]),(3,.aa [U p.1,U p.2]),(4,.ag 0 1 0 0),(5,.ag 1 1 0 0),(6,.mp 2),(19,U s.cells.length),(20,U c),(7,U c),(8,U ((i:Int)-1)),(9,U ((j:Int)-1))]) ?_ (by rw[dj]) (by simp);have VJ:hj a9 112 (.aU [U ((i:Int)-1),U ((j:Int)-1)]) (M.map dp) 0=some none:=Vz _ M 0 (by rw[dj];exact VE);have j6:∀es,ng (g6::gd p L::.map es::cQ L) 2=true:=fun es=>by unfold cQ;cases L.isEmpty<;>simp[ng]
    refine de (A:=[10]) Θ fun J I=>?_;simp;(repeat (rw[ζ];simp));apply I;clear I J;refine W.mJ (σ0:=g6::gd p L::.map (M.map dp)::cQ L) (Nat.zero_le _) (js M) (by simp) [(10,.aa [U ((i:Int)-1),U ((j:Int)-1)]),(2,.aa [aP s.af,aO s.an,bz s.cells]),(3,.aa [U p.1,U p.2]),(4,.ag 0 1 0 0),(5,.ag 1 1 0 0),(6,.mp 2),(19,U s.cells.length),(20,U c),(7,U c),(8,U ((i:Int)-1)),(9,U ((j:Int)-1))] (by simp[je,rC]) ?_;have nA:=fy (show j<2 ^ 62 by omega);(repeat (first|apply ι));refine ν fun J I=>?_;simp;(repeat (rw[ζ];simp));refine av.c (UE s ξ p ((i:Int)-1,(j:Int)-1) c aZ (hv _ (List.getElem_mem aZ)) (by simp;omega) (by simp;omega)) (aI.refl _) (by simp) (by simp) ?_;simp;(repeat (rw[ζ];simp));apply I;clear I J;have G4:s.lR p ((i:Int)-1,(j:Int)-1) c=q ((i:Int)-1,(j:Int)-1):=by rw[Υ]
    rw[G4];have dF:=Mr (q:=q) (n:=n) (i:=i) (j:=j);cases zn:q ((i:Int)-1,(j:Int)-1)
    ·refine ah rfl ?_;(repeat (first|apply ι|(refine ν fun J I=>?_;simp;(repeat (rw[ζ];simp[nA]));apply I;clear I J)));rw[zn] at dF;refine W.to (mL (j+1) (by omega) (by omega)) ?_ ?_
     ·rw[dF,dj];simp
     ·simp
    ·refine al rfl ?_
     repeat first|apply ι
     refine ν fun J I=>?_;simp;(repeat (rw[ζ];simp[VJ,j6,-ng]));apply I;clear I J;(repeat (first|apply ι|(refine ν fun J I=>?_;simp;(repeat (rw[ζ];simp[nA]));apply I;clear I J)));rw[zn] at dF;refine W.to (mL (j+1) (by omega) (by omega)) ?_ ?_
     ·rw[dF,dj];simp
     ·simp
   ·refine ah (by simp[←Η];omega) ?_;refine W.exit rfl ?_;have uZ:j=n+1:=by omega
    subst uZ;(repeat (first|apply ι|(refine ν fun J I=>?_;simp;(repeat (rw[ζ];simp));apply I;clear I J)));refine W.to (gq (i+1) (by omega) (by omega)) ?_ ?_
    ·rw[G1]
    ·have:=fy (show i<2 ^ 62 by omega);simp[this]
  ·refine ah (by simp[←Η];omega) ?_;refine W.exit rfl ?_;have dO:i=n+1:=by omega
   subst dO;obtain⟨D,dJ⟩:∃D,D=fz s p c:=⟨_,rfl⟩;have G5:hF q n (n+1) 0=D:=by rw[G2,dJ,Υ,Η];rfl
   rw[G5];have u1:D.length≤N:=by rw[dJ];exact hle c aZ
   refine W.to (σ':=g6::gd p L::.map (D.map dp)::cQ L) (env':=[(2,.aa [aP s.af,aO s.an,bz s.cells]),(3,.aa [U p.1,U p.2]),(4,.ag 0 1 0 0),(5,.ag 1 1 0 0),(6,.mp 2),(19,U s.cells.length),(20,U c),(7,U c)]) ?_ rfl (by simp);(repeat (first|apply ι|(refine ν fun J I=>?_;simp;(repeat (rw[ζ];simp));apply I;clear I J)));refine W.iter (fun x:List (Int×Int)×List (Int×Int)×Option (θ×θ)=>(x.1++x.2.1).Perm D∧(x.2.2=none∨∃y,x.2.2=some (dp y)))
    (fun x=>[(2,.aa [aP s.af,aO s.an,bz s.cells]),(3,.aa [U p.1,U p.2]),(4,.ag 0 1 0 0),(5,.ag 1 1 0 0),(6,.mp 2),(19,U s.cells.length),(20,U c),(7,U c),(11,cI ((cQ L).length+1+1+1+1) (x.1.map ax)),(50,.it ((cQ L).length+1+1+1))])
    (fun x=>g6::gd p L::.map (D.map dp)::(cQ L++(.iter 2 (x.2.1.map dp) x.2.2::bq 112 2 (x.1.map ax)))) (fun x=>x.2.1.length) ([],D,none) ⟨by simp,.inl rfl⟩ (by simp[bq]) (by simp[cI]) (fun x δ u2=>?_)
   obtain⟨K,ab,cur⟩:=x;obtain⟨χ,B1⟩:=δ;simp only at χ B1
   repeat (first|apply ι)
   cases ab with
   | nil=>
    (repeat (first|apply ι));refine ν fun J I=>?_;simp;(repeat (rw[ζ];simp));apply I;clear I J
    repeat first|apply ι
    refine ah rfl ?_;refine W.exit rfl ?_;have u3:K.Perm D:=by simpa using χ
    repeat first|apply ι
    have G6:K.length≤N:=by rw[u3.length_eq];exact u1
    have VK:K.mergeSort kq=D:=by
     rw[dJ] at u3 ⊢;exact Vq u3 (VC s p c)
    refine W.hl (A:=[]) Θ [(2,.aa [aP s.af,aO s.an,bz s.cells]),(3,.aa [U p.1,U p.2]),(4,.ag 0 1 0 0),(5,.ag 1 1 0 0),(6,.mp 2),(19,U s.cells.length),(20,U c),(11,cI ((cQ L).length+1+1+1+1) (D.map ax))]
     (g6::gd p L::.map (D.map dp)::(cQ L++(.iter 2 [] cur::bq 112 2 (D.map ax)))) ?_ (by
     clear u2 gq Γ js fD hle hv rV;by_cases Ν:K=[]
     ·subst Ν;have VL:D=[]:=u3.symm.eq_nil;rw[VL];simp only[List.map_nil,iG,show cI ((cQ L).length+1+1+1+1) []=.sl true 0 [] from rfl];simp;(repeat (rw[ζ];simp));refine av.c (Vt _ (by simp[k2])) (aI.refl _) (by simp[k2]) (by simp) ?_;simp;(repeat (rw[ζ];simp));(try simp)
     ·have fV:K.map ax≠[]:=by simpa using Ν
      have VM:D≠[]:=fun e=>Ν (by rw[e] at u3;exact u3.eq_nil)
      have Mu:D.map ax≠[]:=by simpa using VM
      rw[gR fV,ea fV,gR Mu,ea Mu];simp;(repeat (rw[ζ];simp));have n5:az 0 (.fn (.func 174) [] []):=by simp[k2]
      refine ak.one (fS K G6) ((cQ L).length+1+1+1+1) (by simp) (uT rK) (uT rK) (by simp[nn,n5.ih 1]) (by simp[fJ]) (by simp[np,n5.dP [(cQ L).length+1+1+1+1]]) ?_;simp[dP,hE];(repeat (rw[ζ];simp));(try simp[VK,u3.length_eq]))
    refine W.cut ((cQ L).length+1+1+1) (Nat.zero_le _) [(2,.aa [aP s.af,aO s.an,bz s.cells]),(3,.aa [U p.1,U p.2]),(4,.ag 0 1 0 0),(5,.ag 1 1 0 0),(6,.mp 2),(19,U s.cells.length),(20,U c),(11,fq 2 (D.map ax))] (by simp) (fun id r bU κ=>?_) ?_ ?_
    ·refine js D r ?_;have e:g6::gd p L::.map (D.map dp)::(cQ L++(.iter 2 [] cur::bq 112 2 (D.map ax)))=(g6::gd p L::.map (D.map dp)::cQ L)++(.iter 2 [] cur::bq 112 2 (D.map ax)):=by simp
     rw[e,dU (by simpa using bU)] at κ;exact cl κ
    ·have VN:ey ((cQ L).length+1+1+1) (g6::gd p L::.map (D.map dp)::(cQ L++(.iter 2 [] cur::bq 112 2 (D.map ax)))) (cI ((cQ L).length+1+1+1+1) (D.map ax)) (fq 2 (D.map ax)):=zm (t:=112) (by omega) (fun ω=>by rw[ea ω];simp) (fun e he a μ=>by
      obtain⟨z,_,rfl⟩:=List.mem_map.1 he;exact(rK z a μ).mono (Nat.zero_le _))
     intro z Ν;simp only[List.mem_cons,List.not_mem_nil,or_false] at Ν;rcases Ν with rfl|rfl|rfl|rfl|rfl|rfl|rfl|rfl
     all_goals first|exact VN|exact .low (by simp[je,rC])
    ·obtain⟨iV,u4⟩:∃iV,iV=L++[fq 2 (D.map ax)]:=⟨_,rfl⟩;have lW:L.length<2 ^ 30:=by rw[aD];simp;omega
     refine W.to (σ':=g6::gd p L::.map (D.map dp)::cQ L) (env':=[(2,.aa [aP s.af,aO s.an,bz s.cells]),(3,.aa [U p.1,U p.2]),(4,.ag 0 1 0 0),(5,.ag 1 1 0 0),(6,.mp 2),(19,U s.cells.length),(20,U c),(11,fq 2 (D.map ax))]) ?_ (by simp) (by simp)
     repeat first|apply ι
     refine W.hl (A:=[65]) Θ [(2,.aa [aP s.af,aO s.an,bz s.cells]),(3,.aa [U p.1,U p.2]),(4,.ag 0 1 0 0),(5,.ag 1 1 0 0),(6,.mp 2),(19,U s.cells.length),(20,U c)] (g6::gd p iV::.map (D.map dp)::cQ iV) ?_ (by
      clear u2 gq Γ js fD hle hv;obtain⟨CZ,Mv,sl,ow⟩:=G3 2 (D.map ax);rw[ow] at u4 ⊢;by_cases Ν:L=[]
      ·have G7:iV=[.sl CZ Mv sl]:=by rw[u4,Ν];rfl
       rw[G7];subst Ν;simp only[gd,cQ,mK,List.isEmpty_nil,List.isEmpty_cons,if_true,if_false];(try simp);(repeat (rw[ζ];simp));(try simp[])
      ·have lU:L.length≤4294967295:=by omega
       have c1:mK L=.ms 3 L.length 0 L.length:=by unfold mK;rw[if_neg (by simpa using Ν)]
       have c2:cQ L=[.cells 111 1 L]:=by unfold cQ;rw[if_neg (by simpa using Ν)]
       have c3:mK iV=.ms 3 (L.length+1) 0 (L.length+1):=by rw[u4];unfold mK;rw[if_neg (by simp)];simp
       have c4:cQ iV=[.cells 111 1 (L++[.sl CZ Mv sl])]:=by rw[u4];unfold cQ;rw[if_neg (by simp)]
       simp only[gd];rw[c1,c2,c3,c4];(try simp);(repeat (rw[ζ];simp[lU]));(try simp[lU]))
     have j6:∀es,ng (g6::gd p iV::.map es::cQ iV) 2=true:=fun es=>by unfold cQ;cases iV.isEmpty<;>simp[ng]
     repeat first|apply ι
     refine ν fun J I=>?_;simp;(repeat (rw[ζ];simp[j6,-ng]));apply I;clear I J;(repeat (first|apply ι|(refine ν fun J I=>?_;simp;(repeat (rw[ζ];simp));apply I;clear I J)));have zk:iV=(List.range (c+1)).map fun c=>fq 2 ((fz s p c).map ax):=by rw[u4,aD,dJ,List.range_succ];simp
     refine W.to (Γ (c+1) (by omega) (by omega)) ?_ ?_
     ·rw[←zk]
     ·simp[eD aZ (show s.cells.length<2 ^ 62 by omega)]
   | cons y ab=>
    (repeat (first|apply ι));refine ν fun J I=>?_;simp;(repeat (rw[ζ];simp));intro i hi;obtain⟨x,δ⟩:∃x,x=(y::ab)[i]'(by simpa using hi):=⟨_,rfl⟩;have G8:(dp y::List.map dp ab)[i]?=some (dp x):=by
     have:(List.map dp (y::ab))[i]?=some (dp x):=by
      rw[List.getElem?_map,bc (by simpa using hi),δ];rfl
     simpa using this
    have G9:(dp y::List.map dp ab).eraseIdx i=((y::ab).eraseIdx i).map dp:=by
     exact Mt dp (y::ab) i
    rw[G8,G9];simp;(repeat (rw[ζ];simp));apply I;clear I J
    repeat first|apply ι
    refine al rfl ?_
    repeat first|apply ι
    refine de (A:=[12]) Θ fun J I=>?_;simp;(repeat (rw[ζ];simp));apply I;clear I J;have fa:∀r∈g6::gd p L::.map (D.map dp)::(cQ L++(.iter 2 (((y::ab).eraseIdx i).map dp) (some (dp x))::bq 112 2 (K.map ax))),eN (g6::gd p L::.map (D.map dp)::(cQ L++(.iter 2 (((y::ab).eraseIdx i).map dp) (some (dp x))::bq 112 2 (K.map ax)))).length r:=by
     intro r κ;have e2:r∈g6::gd p L::.map (D.map dp)::cQ L∨r∈(.iter 2 (((y::ab).eraseIdx i).map dp) (some (dp x))::bq 112 2 (K.map ax)):=by
      have:r∈(g6::gd p L::.map (D.map dp)::cQ L)++(.iter 2 (((y::ab).eraseIdx i).map dp) (some (dp x))::bq 112 2 (K.map ax)):=by simpa using κ
      exact List.mem_append.1 this
     rcases e2 with e2|e2
     ·exact eN.mono (js D r e2) (by simp)
     ·rcases List.mem_cons.1 e2 with rfl|e2
      ·refine⟨by simp,fun e he=>?_,fun e he=>?_⟩
       ·obtain⟨z,_,rfl⟩:=List.mem_map.1 he;simp
       ·cases he;simp
      ·unfold bq at e2;split at e2
       ·simp at e2
       ·simp at e2;subst e2;intro e he a μ;obtain⟨z,_,rfl⟩:=List.mem_map.1 he;simp[θ.cells] at μ;rcases μ with rfl|rfl<;>simp
    refine W.to (σ':=(g6::gd p L::.map (D.map dp)::(cQ L++(.iter 2 (((y::ab).eraseIdx i).map dp) (some (dp x))::bq 112 2 (K.map ax))))++[.cells 112 2 [ax x]]) (env':=[(12,.ag (g6::gd p L::.map (D.map dp)::(cQ L++(.iter 2 (((y::ab).eraseIdx i).map dp) (some (dp x))::bq 112 2 (K.map ax)))).length 1 0 0),(2,.aa [aP s.af,aO s.an,bz s.cells]),(3,.aa [U p.1,U p.2]),(4,.ag 0 1 0 0),(5,.ag 1 1 0 0),(6,.mp 2),(19,U s.cells.length),(20,U c),(7,U c),(11,cI ((cQ L).length+1+1+1+1) (K.map ax)),(50,.it ((cQ L).length+1+1+1))]) ?_ (by simp) (by simp);refine W.mJ (σ0:=g6::gd p L::.map (D.map dp)::(cQ L++(.iter 2 (((y::ab).eraseIdx i).map dp) (some (dp x))::bq 112 2 (K.map ax)))) (Nat.zero_le _) fa (by simp) [(12,.aa [U x.1,U x.2]),(2,.aa [aP s.af,aO s.an,bz s.cells]),(3,.aa [U p.1,U p.2]),(4,.ag 0 1 0 0),(5,.ag 1 1 0 0),(6,.mp 2),(19,U s.cells.length),(20,U c),(7,U c),(11,cI ((cQ L).length+1+1+1+1) (K.map ax)),(50,.it ((cQ L).length+1+1+1))] (by
     have hb:=VH (h:=(cQ L).length+((bq 112 2 (K.map ax)).length+1)+1+1+1) (id:=(cQ L).length+1+1+1+1) (l:=K.map ax) (fun ω=>by rw[ea ω];simp);clear u2 gq Γ js fa fD hle hv rV;simp[je,rC,T5,hb]
     ) ?_
    repeat first|apply ι
    have G6:K.length<2 ^ 20:=by
     have:=χ.length_eq;simp at this;omega
    refine W.hl (A:=[58]) Θ [(2,.aa [aP s.af,aO s.an,bz s.cells]),(3,.aa [U p.1,U p.2]),(4,.ag 0 1 0 0),(5,.ag 1 1 0 0),(6,.mp 2),(19,U s.cells.length),(20,U c),(7,U c),(11,cI ((cQ L).length+1+1+1+1) ((K++[x]).map ax)),(50,.it ((cQ L).length+1+1+1))]
     (g6::gd p L::.map (D.map dp)::(cQ L++(.iter 2 (((y::ab).eraseIdx i).map dp) (some (dp x))::bq 112 2 ((K++[x]).map ax)))) ?_ (by
     clear u2 gq Γ js fa fD hle hv rV;by_cases Ν:K=[]
     ·subst Ν;simp only[List.map_nil,iG,show cI ((cQ L).length+1+1+1+1) []=.sl true 0 [] from rfl];(try simp);(repeat (rw[ζ];simp[iG]));(try simp[iG]);exact⟨rfl,rfl⟩
     ·have lU:K.length≤4294967295:=by omega
      have fV:K.map ax≠[]:=by simpa using Ν
      rw[gR fV,ea fV];(try simp);(repeat (rw[ζ];simp[lU]));(try simp[lU]);rw[ea (by simp),gR (by simp)];simp)
    (repeat (first|apply ι|(refine ν fun J I=>?_;simp;(repeat (rw[ζ];simp));apply I;clear I J)));have Mw:(x::(y::ab).eraseIdx i).Perm (y::ab):=by
     rw[δ];exact Ms _ _ _
    refine W.to (u2 (K++[x],(y::ab).eraseIdx i,some (dp x)) ⟨?_,.inr ⟨x,rfl⟩⟩ ?_) (by simp) (by simp)
    ·simp only[List.append_assoc,List.singleton_append];exact(Mw.append_left K).trans χ
    ·have:=Mw.length_eq;simp at this;simp only[List.length_cons];omega
 ·have u5:c=s.cells.length:=by simp at η;omega
  subst u5;refine W.exit rfl ?_
  repeat first|apply ι
  clear Γ;have rV:∀e∈L,∀a∈e.cells,az 0 a:=by
   rw[aD];intro e he a μ;obtain⟨x,_,rfl⟩:=List.mem_map.1 he;unfold fq at μ;split at μ<;>simp[θ.cells] at μ<;>subst μ<;>simp
  refine W.hl (A:=[]) Θ [(4,.ag 0 1 0 0)] (.cells 110 3 [.aU [U p.1,U p.2,mK L]]::gd p L::.map []::cQ L) ?_ (by
   simp only[gd];by_cases Ν:L=[]
   ·rw[show mK L=.sl true 0 [] by rw[Ν];rfl];(try simp);(repeat (rw[ζ];simp));(try simp[])
   ·rw[show mK L=.ms 3 L.length 0 L.length by unfold mK;rw[if_neg (by simpa using Ν)],show cQ L=[.cells 111 1 L] by unfold cQ;rw[if_neg (by simpa using Ν)]];(try simp);(repeat (rw[ζ];simp));(try simp[]))
  refine W.cut 0 (Nat.zero_le _) [(4,.aa [U p.1,U p.2,fq 1 L])] (Nat.zero_le _) (fun id r bU=>by omega) (fun z Ν=>by
   simp at Ν;subst Ν;exact ey.struct (k:=3) (t:=110) (l:=[U p.1,U p.2,mK L]) (Nat.zero_le _) rfl rfl (fun x a b9 R γ=>by
    match x with
    | 0=>simp at R γ;subst R;subst γ;exact .low (by simp)
    | 1=>simp at R γ;subst R;subst γ;exact .low (by simp)
    | 2=>
     simp at R γ;subst R;subst γ;exact zm (id:=3) (t:=111) (l:=L) (Nat.zero_le _) (fun ω=>by
      have:cQ L=[.cells 111 1 L]:=by unfold cQ;rw[if_neg (by simpa using ω)]
      simp[this]) rV
    | x+3=>simp at R)) ?_
  (repeat (first|apply ι|(refine ν fun J I=>?_;simp;(repeat (rw[ζ];simp));apply I;clear I J)));refine W.ret ⟨_,rfl,?_,rfl⟩;refine db.aU (aI.cons (.refl _) (aI.cons (.refl _) (aI.cons (.trans db.acc ?_) .nil)));rw[aD];show db _ (.sl false 1 (((List.range s.cells.length).map (fz s p)).map lP));rw[List.map_map];refine db.map fun x _=>.one db.acc ?_ rfl;obtain⟨b,k,l,he⟩:=G3 2 ((fz s p x).map ax);rw[he];rfl
structure k7 where
 c:Int
 n:Int
 least:Int
 some:Bool
def k7.take (b:k7) (c n m:Int):k7:=if b.some=false∨m<b.least then⟨c,n,m,true⟩ else b
abbrev k8 (b:k7):θ:=.aU [U b.c,U b.n,U b.least,bm b.some]
theorem VO (b:k7) (c n m:Int):ak Tryz.prog 76 [.ag 0 1 0 0,.aU [U c,U n],U m] [.cells 104 4 [k8 b]] (fun r s=>r=.bt []∧s=[.cells 104 4 [k8 (b.take c n m)]]) (fun _ _=>False):=by
 obtain⟨dr,oW,l0,Ex⟩:=b;refine ak.body Θ Tryz.func76 rfl rfl Tryz.ntmps76 rfl rfl (by simp) ?_;(repeat (first|apply ι|(refine ν fun J I=>?_;simp;(repeat (rw[ζ];simp));apply I;clear I J)));cases Ex
 ·have e:k7.take ⟨dr,oW,l0,false⟩ c n m=⟨c,n,m,true⟩:=by simp[k7.take]
  rw[e];(repeat (first|apply ι|(refine ν fun J I=>?_;simp;(repeat (rw[ζ];simp));apply I;clear I J)));refine al rfl ?_;(repeat (first|apply ι|(refine ν fun J I=>?_;simp;(repeat (rw[ζ];simp));apply I;clear I J)));exact W.nil ⟨_,rfl,rfl,rfl⟩
 ·(repeat (first|apply ι|(refine ν fun J I=>?_;simp;(repeat (rw[ζ];simp));apply I;clear I J)));by_cases h:m<l0
  ·have e:k7.take ⟨dr,oW,l0,true⟩ c n m=⟨c,n,m,true⟩:=by simp[k7.take,h]
   rw[e];refine al (by simp[h]) ?_;(repeat (first|apply ι|(refine ν fun J I=>?_;simp;(repeat (rw[ζ];simp));apply I;clear I J)));exact W.nil ⟨_,rfl,rfl,rfl⟩
  ·have e:k7.take ⟨dr,oW,l0,true⟩ c n m=⟨dr,oW,l0,true⟩:=by simp[k7.take,h]
   rw[e];refine ah (by simp[h]) ?_;(repeat (first|apply ι|(refine ν fun J I=>?_;simp;(repeat (rw[ζ];simp));apply I;clear I J)));exact W.nil ⟨_,rfl,rfl,rfl⟩
abbrev hX (e:Int×Int):θ×θ:=(U e.1,U e.2)
def s7:List (Int×Int)→Int→Int→List (Int×Int)
 | [],k,n=>[(k,IntKind.i64.wrap (0+n))]
 | e::r,k,n=>if k=e.1 then(k,IntKind.i64.wrap (e.2+n))::r else e::s7 r k n
theorem VP (k n:Int):∀(m:List (Int×Int)) (d:Nat),(hj a9 113 (U k) (m.map hX) d=some none∧s7 m k n=m++[(k,IntKind.i64.wrap (0+n))])∨∃i v,i<m.length∧hj a9 113 (U k) (m.map hX) d=some (some (d+i,U v))∧s7 m k n=m.set i (k,IntKind.i64.wrap (v+n)):=by
 intro m
 induction m with
 | nil=>intro d;exact .inl ⟨rfl,rfl⟩
 | cons e r Γ=>
  intro d;have Υ:aeqv a9 113 (U k) (U e.1)=some (k==e.1):=by simp[aeqv,jc,lK,h8]
  by_cases h:k=e.1
  ·refine .inr ⟨0,e.2,by simp,?_,by simp[s7,h]⟩;simp only[List.map_cons,hj,Υ];simp[h]
  ·have hb:(k==e.1)=false:=by simpa using h
   rcases Γ (d+1) with⟨R,γ⟩|⟨i,v,R,γ,ο⟩
   ·refine .inl ⟨?_,by simp[s7,h,γ]⟩;simp only[List.map_cons,hj,Υ,hb,cond_false];exact R
   ·refine .inr ⟨i+1,v,by simp;omega,?_,by simp[s7,h,ο]⟩;simp only[List.map_cons,hj,Υ,hb,cond_false];rw[γ];have:d+1+i=d+(i+1):=by omega
    rw[this]
end Go.TL
