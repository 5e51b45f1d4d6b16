import Derived.Sort.LotA
import Derived.Test.YtlabjopijpkiaaaGreatSAN
import Derived.Test.YtlabjopijpkiaaaGreatSAP
import Derived.Test.YtlabjopijpkiaaaGreatSAR
set_option maxHeartbeats 16000000
set_option maxRecDepth 20000
set_option linter.unusedSectionVars false
set_option linter.unusedSimpArgs false
set_option linter.unusedVariables false
namespace Go.TL
open Go.Proofs
variable [bm]
abbrev jL (n:Int):θ:=.z (.int .i32 n)
theorem Yr (l:List Int):sG (l.map jL)=some l:=by
 induction l with
 | nil=>rfl
 | cons a l Δ=>simp[sG,Δ]
def uu (s:aL) (F:List Found) (lower:Bool) (eQ:ByteArray->Int) (c:Nat):Int:=
 let l:=qo F c lower
 if 1<l.length then 63 else if l.headD 0<0 then 45 else match s.ae[(l.headD 0).toNat]? with|some g=>eQ g.name|none=>0
def po (s:aL) (F:List Found) (lower:Bool) (eQ:ByteArray->Int) (c:Nat):List Int:=(List.range c).map (uu s F lower eQ)
def uv (s:aL) (F:List Found) (lower:Bool) (eQ:ByteArray->Int):ByteArray×Int:=
 if(fM s true F).2.2=0 then(spell (po s F lower eQ s.cells.length),0) else(⟨#[]⟩,(fM s true F).2.2)
structure OD (s:aL) (F:List Found) (lower:Bool) (eQ:ByteArray->Int) (N:Nat):Prop where
 rv:F.length<2 ^ 20
 cells:∀f∈F,f.cells.length=s.cells.length/\∀c∈f.cells,c.length<2 ^ 20
 some:∀c,c<s.cells.length->j' F c lower≠[]/\(j' F c lower).length<=N/\qo F c lower≠[]/\(qo F c lower).length<2 ^ 30/\∀x∈qo F c lower,x<s.ae.length
 name:∀g∈s.ae,(Conv.runesFrom g.name g.name.size 0 #[])[0]?=Option.some (.int .i32 (eQ g.name))
theorem Ys (s:aL) (ο:s.small) (F:List Found) (gu:sY s F) (lower:Bool) (eQ:ByteArray->Int) (N:Nat) (b8:N<2 ^ 20) (e5:Iv N) (aC:OD s F lower eQ N) :
  ay Tryz.prog 40 [eV s,a4 lower] (.bn [nA (uv s F lower eQ).1,R (uv s F lower eQ).2]):=by
 refine ak.body Ι Tryz.func40 rfl rfl Tryz.ntmps40 rfl rfl (by simp) ?_;(repeat (first|apply κ|(refine ν λη I=>?_;simp;(repeat (rw[δ];simp));apply I)));(repeat apply κ);refine dw (A:=[6]) Ι λη I=>?_;simp;(repeat (rw[δ];simp));refine ay.c (Ed s ο true F gu) (aK.refl _) (by simp) (by simp) ?_;simp;(repeat (rw[δ];simp));apply I;by_cases b:(fM s true F).2.2=0
 case neg=>
  have e:uv s F lower eQ=(⟨#[]⟩,(fM s true F).2.2):=by unfold uv;rw[if_neg b]
  rw[e];generalize (fM s true F).2.2=eE at b;(repeat (first|apply κ|(refine ν λη I=>?_;simp;(repeat (rw[δ];simp));apply I)));refine aj (by simp[b]) ?_;(repeat (first|apply κ|(refine ν λη I=>?_;simp;(repeat (rw[δ];simp));apply I)));refine W.drop (h:=0) (σ':=[]) (Nat.zero_le _) (Nat.zero_le _) (by simp) rfl [(4,nA ⟨#[]⟩),(5,R eE)] (by simp) ?_;refine W.ret ⟨_,rfl,?_,rfl⟩;exact .refl _
 have e:fM s true F=(s,F,0):=by
  unfold fM at b ⊢;split at b
  ·rename_i h;simp at b;exact absurd b h
  ·split at b
   ·simp at b
   ·rename_i J γ;rw[if_neg J,if_neg γ]
 have Ε:uv s F lower eQ=(spell (po s F lower eQ s.cells.length),0):=by unfold uv;rw[if_pos b]
 rw[Ε,e];refine W.fix (id:=0) (σ':=[]) (Nat.zero_le _) rfl (by simp) (by simp) rfl [(1,a4 lower),(6,.Ψ [aO s.ae,aI s.ai,bf s.cells]),(7,cQ F),(8,R 0)] (by simp) ?_;(repeat (first|apply κ|(refine ν λη I=>?_;simp;(repeat (rw[δ];simp));apply I)));refine ah rfl ?_;(repeat (first|apply κ|(refine ν λη I=>?_;simp;(repeat (rw[δ];simp));apply I)));have hR:s.cells.length<2 ^ 30:=ο.2.2.1;refine W.iter (λc:Nat=>c<=s.cells.length) (λc=>[(1,a4 lower),(6,.Ψ [aO s.ae,aI s.ai,bf s.cells]),(7,cQ F),(9,ee ((po s F lower eQ c).map jL)),(25,R s.cells.length),(26,R c)])
  (λc=>bj 21 1 ((po s F lower eQ c).map jL)) (λc=>s.cells.length-c) 0 (Nat.zero_le _) rfl (by simp[po,pj]) (λc jz Δ=>?_)
 (repeat (first|apply κ|(refine ν λη I=>?_;simp;(repeat (rw[δ];simp));apply I)));refine W.en rfl (λζ=>?_) (λζ=>?_)
 ·have a5:c<s.cells.length:=by simpa using ζ
  obtain⟨J,γ,π,Μ,aA⟩:=aC.some c a5;obtain⟨Ω,bb⟩:∃Ω,Ω=po s F lower eQ c:=⟨_,rfl⟩;have uw:Ω.length=c:=by rw[bb];simp[po]
  have dU:po s F lower eQ (c+1)=Ω++[uu s F lower eQ c]:=by rw[bb];unfold po;rw[List.range_succ,List.map_append];rfl
  refine W.to (σ':=bj 21 1 (Ω.map jL)) (env':=[(1,a4 lower),(6,.Ψ [aO s.ae,aI s.ai,bf s.cells]),(7,cQ F),(9,ee (Ω.map jL)),(25,R s.cells.length),(26,R c)]) ?_ (by rw[bb]) (by rw[bb];simp);(repeat (first|apply κ|(refine ν λη I=>?_;simp;(repeat (rw[δ];simp));apply I)));(repeat apply κ);refine ν λη I=>?_;simp;(repeat (rw[δ];simp));refine ay.c (Yp F c lower aC.rv (λf Φ=>⟨by rw[(aC.cells f Φ).1];exact a5,(aC.cells f Φ).2⟩) N b8 e5 J γ) (aK.refl _) (by simp) (by simp) ?_;simp;(repeat (rw[δ];simp));apply I;have j9:Ω.length<=4294967295:=by omega
  obtain⟨l,ω⟩:∃l,l=qo F c lower:=⟨_,rfl⟩;have oo:uu s F lower eQ c=if 1<l.length then 63 else if l.headD 0<0 then 45 else match s.ae[(l.headD 0).toNat]? with|some g=>eQ g.name|none=>0:=by rw[ω];rfl
  rw[<-ω] at π Μ aA ⊢;clear ω bb;(repeat (first|apply κ|(refine ν λη I=>?_;simp;(repeat (rw[δ];simp));apply I)));by_cases q:1<l.length
  ·have μ:uu s F lower eQ c=63:=by rw[oo,if_pos q]
   refine aj (by simp;omega) ?_
   repeat apply κ
   refine W.fL (A:=[57]) Ι [(1,a4 lower),(6,.Ψ [aO s.ae,aI s.ai,bf s.cells]),(7,cQ F),(9,ee ((Ω++[63]).map jL)),(25,R s.cells.length),(26,R c)] (bj 21 1 ((Ω++[63]).map jL)) ?_ (by
    rw[List.map_append];by_cases Θ:Ω.map jL=[]
    ·rw[Θ,pj,iJ];(try simp);(repeat (rw[δ];simp));(try simp[]);simp[bj,ee]
    ·rw[rr Θ,dY Θ];(try simp);(repeat (rw[δ];simp));(try simp[]);simp[sX,x4,j9])
   (repeat (first|apply κ|(refine ν λη I=>?_;simp;(repeat (rw[δ];simp));apply I)));refine W.to (Δ (c+1) a5 (by omega)) ?_ ?_
   ·simp only[dU,μ,List.map_append,List.map_cons,List.map_nil]
   ·rw[dU,μ];simp[fe a5 (show s.cells.length<2 ^ 62 by omega)]
  ·obtain⟨x,U⟩:∃x,l=[x]:=by
    match l,π,q with
    | [x],_,_=>exact⟨x,rfl⟩
    | x::y::z,_,q=>simp at q
   subst U;refine ah (by simp) ?_;(repeat (first|apply κ|(refine ν λη I=>?_;simp;(repeat (rw[δ];simp));apply I)));by_cases g:x<0
   ·have μ:uu s F lower eQ c=45:=by rw[oo];simp[g]
    refine aj (by simp[g]) ?_;(repeat (first|apply κ|(refine ν λη I=>?_;simp;(repeat (rw[δ];simp));apply I)));refine W.fL (A:=[57]) Ι [(1,a4 lower),(6,.Ψ [aO s.ae,aI s.ai,bf s.cells]),(7,cQ F),(9,ee ((Ω++[45]).map jL)),(25,R s.cells.length),(26,R c)] (bj 21 1 ((Ω++[45]).map jL)) ?_ (by
     rw[List.map_append];by_cases Θ:Ω.map jL=[]
     ·rw[Θ,pj,iJ];(try simp);(repeat (rw[δ];simp));(try simp[]);simp[bj,ee]
     ·rw[rr Θ,dY Θ];(try simp);(repeat (rw[δ];simp));(try simp[]);simp[sX,x4,j9])
    (repeat (first|apply κ|(refine ν λη I=>?_;simp;(repeat (rw[δ];simp));apply I)));refine W.to (Δ (c+1) a5 (by omega)) ?_ ?_
    ·simp only[dU,μ,List.map_append,List.map_cons,List.map_nil]
    ·rw[dU,μ];simp[fe a5 (show s.cells.length<2 ^ 62 by omega)]
   ·obtain⟨k,rfl⟩:∃k:Nat,x=k:=⟨x.toNat,by omega⟩;have χ:k<s.ae.length:=by have:=aA (k:Int) (by simp);omega
    have μ:uu s F lower eQ c=eQ s.ae[k].name:=by rw[oo];simp[g,χ]
    have kS:=aC.name _ (List.getElem_mem χ)
    have Ap:∀h:0<(Conv.runesFrom s.ae[k].name s.ae[k].name.size 0 #[]).size,(Conv.runesFrom s.ae[k].name s.ae[k].name.size 0 #[])[0]'h=.int .i32 (eQ s.ae[k].name):=λh=>by
     rw[e7 h] at kS;exact Option.some.inj kS
    have Ef:0<(Conv.runesFrom s.ae[k].name s.ae[k].name.size 0 #[]).size:=(Array.getElem?_eq_some_iff.1 kS).1;refine ah (by simp) ?_;refine W.draw (A:=[]) Ι mixed λη I=>?_;simp;(repeat (rw[ba];simp[χ,kS,Ef]));try rw[a']
    refine⟨bK (by kernel_rfl),I _ _ ?_⟩
    repeat apply κ
    refine W.forget [(1,a4 lower),(6,.Ψ [aO s.ae,aI s.ai,bf s.cells]),(7,cQ F),(9,ee (Ω.map jL)),(11,jL (eQ s.ae[k].name)),(25,R s.cells.length),(26,R c)] (by simp[Ap Ef]) ?_;refine W.fL (A:=[57]) Ι [(1,a4 lower),(6,.Ψ [aO s.ae,aI s.ai,bf s.cells]),(7,cQ F),(9,ee ((Ω++[(eQ s.ae[k].name)]).map jL)),(25,R s.cells.length),(26,R c)] (bj 21 1 ((Ω++[(eQ s.ae[k].name)]).map jL)) ?_ (by
     rw[List.map_append];by_cases Θ:Ω.map jL=[]
     ·rw[Θ,pj,iJ];(try simp);(repeat (rw[δ];simp));(try simp[]);simp[bj,ee]
     ·rw[rr Θ,dY Θ];(try simp);(repeat (rw[δ];simp));(try simp[]);simp[sX,x4,j9])
    (repeat (first|apply κ|(refine ν λη I=>?_;simp;(repeat (rw[δ];simp));apply I)));refine W.to (Δ (c+1) a5 (by omega)) ?_ ?_
    ·simp only[dU,μ,List.map_append,List.map_cons,List.map_nil]
    ·rw[dU,μ];simp[fe a5 (show s.cells.length<2 ^ 62 by omega)]
 ·have ζ:c=s.cells.length:=by simp at ζ;omega
  subst ζ;refine W.exit rfl ?_;(repeat (first|apply κ|(refine ν λη I=>?_;simp;(repeat (rw[δ];simp));apply I)));obtain⟨Ω,bb⟩:∃Ω,Ω=po s F lower eQ s.cells.length:=⟨_,rfl⟩;rw[<-bb];refine W.to (σ':=bj 21 1 (Ω.map jL)) (env':=[(9,ee (Ω.map jL))]) ?_ rfl (by simp);by_cases Θ:Ω.map jL=[]
  ·have jY:Ω=[]:=by simpa using Θ
   rw[Θ,pj,iJ,jY];have hm:sG []=some []:=rfl;(repeat apply κ);refine ν λη I=>?_;simp;(repeat (rw[δ];simp[hm]));apply I;refine W.ret ⟨_,rfl,?_,rfl⟩;exact .refl _
  ·have hm:sG (List.take Ω.length (Ω.map jL))=some Ω:=by
    rw[List.take_of_length_le (by simp)];exact Yr Ω
   rw[rr Θ,dY Θ];(repeat apply κ);refine ν λη I=>?_;simp;(repeat (rw[δ];simp[hm]));apply I;refine W.drop (h:=0) (σ':=[]) (Nat.zero_le _) (Nat.zero_le _) (by simp) rfl [(4,nA (spell Ω)),(5,R 0)] (by simp) ?_;refine W.ret ⟨_,rfl,?_,rfl⟩;exact .refl _
theorem OE {α:Type} [Inhabited α] {lt:α->α->Bool} (ο:Go.Sort.SWO lt) (ξ:∀x y,lt x y=false->lt y x=false->x=y) (l:List α):(Go.Sort.insertionSort lt l.toArray 0 l.length).toList=l.mergeSort (λx y=>!lt y x):=by
 obtain⟨J,γ⟩:=Go.Sort.insertionSort_holds (lt:=lt) ο l.toArray 0 l.length (Nat.zero_le _) (by simp);exact Go.Sort.sorted_unique_holds (lt:=lt) ο ξ l.toArray _ (by simpa using J) (by simpa using γ)
theorem Yt (x y:Int) (h:Go.Sort.ltInt x y=false) (k:Go.Sort.ltInt y x=false):x=y:=by
 simp[Go.Sort.ltInt] at h k;omega
theorem Yu:Iv 12:=λl ω=>by
 have h:=XY l.toArray l.length (by simp) ω;rw[OE Go.Sort.swo_ltInt Yt l] at h;have e:(λx y:Int=>!Go.Sort.ltInt y x)=λx y=>decide (x<=y):=by
  funext x y;rw[Bool.eq_iff_iff];simp[Go.Sort.ltInt]
 rw[e] at h;exact h
theorem s0 (x y:Int×Int):av nB x y=decide (x.1<y.1\/(x.1=y.1/\x.2<y.2)):=by
 unfold av nB;simp only[pd,pb];by_cases J:x.1<y.1
 ·simp[J]
 ·by_cases γ:y.1<x.1
  ·have:¬x.1=y.1:=by omega
   simp[J,γ,this]
  ·have π:x.1=y.1:=by omega
   by_cases Μ:x.2<y.2
   ·simp[π,Μ]
   ·by_cases aA:y.2<x.2
    ·simp[π,Μ,aA]
    ·simp[π,Μ,aA]
theorem x5:Go.Sort.SWO (av nB) where
 irrefl x:=by rw[s0];simp
 trans x y z h k:=by
  rw[s0] at *;simp at *;omega
 ntrans x y z h k:=by
  rw[s0] at *;simp at *;omega
theorem OF (x y:Int×Int) (h:av nB x y=false) (k:av nB y x=false):x=y:=by
 rw[s0] at *;simp at h k;apply Prod.ext<;>omega
abbrev kZ (x y:Int×Int):Bool:=!av nB y x
theorem Yv {l m:List (Int×Int)} (ψ:l.Perm m) (hm:m.Pairwise λx y=>x.1<y.1\/(x.1=y.1/\x.2<y.2)):l.mergeSort kZ=m:=by
 have Ix:∀a b c:Int×Int,kZ a b=true->kZ b c=true->kZ a c=true:=λa b c h k=>by
  simp only[kZ,s0] at *;simp at *;omega
 have Iy:∀a b:Int×Int,(kZ a b||kZ b a)=true:=λa b=>by
  simp only[kZ,s0];simp;omega
 have s1:=List.pairwise_mergeSort (le:=kZ) Ix Iy l
 have dH:(l.mergeSort kZ).Perm m:=(List.mergeSort_perm l kZ).trans ψ;refine List.Perm.eq_of_pairwise (le:=λa b=>kZ a b=true) (λa b _ _ h k=>?_) s1 (hm.imp λ{a b} h=>?_) dH
 ·simp only[kZ,s0] at h k;simp at h k;apply Prod.ext<;>omega
 ·simp only[kZ,s0];simp;omega
theorem Yw (an:θ) (bV:au 0 an):ay Tryz.prog 234 [.sl true 0 [],R 0,R 0,an] (.bn []):=by
 refine ak.body Ι Tryz.func234 rfl rfl Tryz.ntmps234 rfl rfl (by simp) ?_;(repeat (first|apply κ|(refine ν λη I=>?_;simp;(repeat (rw[δ];simp));apply I)));refine .loop ?_;(repeat (first|apply κ|(refine ν λη I=>?_;simp;(repeat (rw[δ];simp));apply I)));refine ah rfl ?_;refine W.exit rfl ?_;exact W.nil ⟨_,rfl,cG.refl _,rfl⟩
theorem Yx (lim:Nat) (an:θ) (bV:au 0 an):ay Tryz.prog 211 [.sl true 0 [],R 0,R 0,R lim,an] (.bn []):=by
 refine ak.body Ι Tryz.func211 rfl rfl Tryz.ntmps211 rfl rfl (by simp) ?_;(repeat (first|apply κ|(refine ν λη I=>?_;simp;(repeat (rw[δ];simp));apply I)));refine .loop ?_;(repeat (first|apply κ|(refine ν λη I=>?_;simp;(repeat (rw[δ];simp));apply I)));refine aj rfl ?_;(repeat apply κ);refine ν λη I=>?_;simp;(repeat (rw[δ];simp));refine ay.c (Yw an bV) (aK.refl _) (by simp[bV]) (by simp) ?_;simp;(repeat (rw[δ];simp));apply I;exact W.ret ⟨_,rfl,cG.refl _,rfl⟩
theorem Yy (an:θ) (bV:au 0 an):ay Tryz.prog 173 [.sl true 0 [],an] (.bn []):=by
 refine ak.body Ι Tryz.func173 rfl rfl Tryz.ntmps173 rfl rfl (by simp) ?_;have Ε:IntKind.u64.wrap (0:Int)=0:=by decide
 (repeat (first|apply κ|(refine ν λη I=>?_;simp;(repeat (rw[δ];simp));apply I)));(repeat apply κ);refine ν λη I=>?_;simp;(repeat (rw[δ];simp[Ε]));refine ay.c (wa 0 (by omega)) (aK.refl _) (by simp) (by simp) ?_;simp;(repeat (rw[δ];simp));refine ay.c (Yx (Go.Sort.bitsLen 0) an bV) (aK.refl _) (by simp[bV]) (by simp) ?_;simp;(repeat (rw[δ];simp));apply I;exact W.nil ⟨_,rfl,cG.refl _,rfl⟩
theorem Yz (an:θ) (bV:au 0 an):ay Tryz.prog 217 [.sl true 0 [],R 0,R 0,an] (.bn []):=by
 refine ak.body Ι Tryz.func217 rfl rfl Tryz.ntmps217 rfl rfl (by simp) ?_;(repeat (first|apply κ|(refine ν λη I=>?_;simp;(repeat (rw[δ];simp));apply I)));refine .loop ?_;(repeat (first|apply κ|(refine ν λη I=>?_;simp;(repeat (rw[δ];simp));apply I)));refine ah rfl ?_;refine W.exit rfl ?_;exact W.nil ⟨_,rfl,cG.refl _,rfl⟩
theorem YA (lim:Nat) (an:θ) (bV:au 0 an):ay Tryz.prog 182 [.sl true 0 [],R 0,R 0,R lim,an] (.bn []):=by
 refine ak.body Ι Tryz.func182 rfl rfl Tryz.ntmps182 rfl rfl (by simp) ?_;(repeat (first|apply κ|(refine ν λη I=>?_;simp;(repeat (rw[δ];simp));apply I)));refine .loop ?_;(repeat (first|apply κ|(refine ν λη I=>?_;simp;(repeat (rw[δ];simp));apply I)));refine aj rfl ?_;(repeat apply κ);refine ν λη I=>?_;simp;(repeat (rw[δ];simp));refine ay.c (Yz an bV) (aK.refl _) (by simp[bV]) (by simp) ?_;simp;(repeat (rw[δ];simp));apply I;exact W.ret ⟨_,rfl,cG.refl _,rfl⟩
theorem YB (an:θ) (bV:au 0 an):ay Tryz.prog 147 [.sl true 0 [],an] (.bn []):=by
 refine ak.body Ι Tryz.func147 rfl rfl Tryz.ntmps147 rfl rfl (by simp) ?_;have Ε:IntKind.u64.wrap (0:Int)=0:=by decide
 (repeat (first|apply κ|(refine ν λη I=>?_;simp;(repeat (rw[δ];simp));apply I)));(repeat apply κ);refine ν λη I=>?_;simp;(repeat (rw[δ];simp[Ε]));refine ay.c (wa 0 (by omega)) (aK.refl _) (by simp) (by simp) ?_;simp;(repeat (rw[δ];simp));refine ay.c (YA (Go.Sort.bitsLen 0) an bV) (aK.refl _) (by simp[bV]) (by simp) ?_;simp;(repeat (rw[δ];simp));apply I;exact W.nil ⟨_,rfl,cG.refl _,rfl⟩
theorem ed.struct {h id k:Nat} {σ:List Row} {t:TypeId} {l cs:List θ} (bW:h<=id) (bC:σ[id]?=some (.cells t k [.aS l])) (hlen:cs.length=l.length) (H:∀(x:Nat) (a b1:θ),l[x]?=some a->cs[x]?=some b1->ed h σ a b1):ed h σ (.al id 1 0 0) (.Ψ cs):=
 .al bW bC rfl rfl (by simp[θ.cells,hlen]) λx a b1 J γ=>H x a b1 (by simpa[θ.cells] using J) γ
abbrev gR (a b c:θ):Row:=.cells 26 3 [.aS [a,b,c]]
abbrev dx (r:Int×Int):θ×θ:=(az r,a4 true)
theorem YC (x y:Int×Int):aeqv a6 112 (az x) (az y)=some (decide (x=y)):=by
 simp[aeqv,jD,mD];rw[Bool.eq_iff_iff];simp[Prod.ext_iff]
theorem YD (r:Int×Int):∀(l:List (Int×Int)) (n:Nat),r∉l->hF a6 112 (az r) (l.map dx) n=some none:=by
 intro l
 induction l with
 | nil=>intro n _;rfl
 | cons x l Δ=>
  intro n h;simp only[List.map_cons,hF];have J:¬r=x:=λe=>h (by simp[e]);have:=YC r x;rw[this,decide_eq_false J];exact Δ (n+1) λhm=>h (by simp[hm])
def lU (i j:Nat):List (Int×Int):=(List.range j).map λy:Nat=>((i:Int)-1,(y:Int)-1)
def oq (n i:Nat):List (Int×Int):=(List.range i).flatMap λx=>lU x (n+1)
def Aq (n:Nat):List (Int×Int):=oq n (n+1)
theorem OG (i j:Nat):lU i (j+1)=lU i j++[((i:Int)-1,(j:Int)-1)]:=by simp[lU,List.range_succ]
theorem Iz (n i:Nat):oq n (i+1)=oq n i++lU i (n+1):=by simp[oq,List.range_succ]
theorem Eg {i j:Nat} {r:Int×Int} (h:r∈lU i j):r.1=(i:Int)-1/\r.2<(j:Int)-1:=by
 unfold lU at h;obtain⟨y,Ξ,rfl⟩:=List.mem_map.1 h;have:=List.mem_range.1 Ξ;exact⟨rfl,by simp;omega⟩
theorem OH {n i:Nat} {r:Int×Int} (h:r∈oq n i):r.1<(i:Int)-1:=by
 unfold oq at h;obtain⟨x,U,γ⟩:=List.mem_flatMap.1 h;have:=List.mem_range.1 U;have:=(Eg γ).1;omega
def ff (s:aL) (p:Int×Int) (c:Nat):List (Int×Int):=(Aq s.ae.length).filter λr=>s.mM p r c
theorem YE (i j:Nat):(lU i j).Pairwise λx y=>x.1<y.1\/(x.1=y.1/\x.2<y.2):=by
 induction j with
 | zero=>simp[lU]
 | succ j Δ=>
  rw[OG,List.pairwise_append];refine⟨Δ,by simp,λa ξ b hb=>?_⟩;simp at hb;subst hb;have:=Eg ξ;exact .inr ⟨this.1,by simpa using this.2⟩
theorem YF (n i:Nat):(oq n i).Pairwise λx y=>x.1<y.1\/(x.1=y.1/\x.2<y.2):=by
 induction i with
 | zero=>simp[oq]
 | succ i Δ=>
  rw[Iz,List.pairwise_append];refine⟨Δ,YE _ _,λa ξ b hb=>.inl ?_⟩;have:=OH ξ;have:=(Eg hb).1;omega
theorem YG (s:aL) (p:Int×Int) (c:Nat):(ff s p c).Pairwise λx y=>x.1<y.1\/(x.1=y.1/\x.2<y.2):=(YF _ _).filter _
def Eh (N:Nat):Prop:=∀(l:List (Int×Int)),l.length<=N->ak Tryz.prog 173 [.ms 0 l.length 0 l.length,.fn (.func 174) [] []] [.cells 112 2 (l.map az)] (λr s=>r=.bn []/\s=[.cells 112 2 ((l.mergeSort kZ).map az)]) (λ_ _=>False)
theorem YH:Eh 12:=λl ω=>by
 have h:=XU l.toArray l.length (by simp) ω (.fn (.func 174) [] []) nB (by simp[lP]) (λx y=>ay.p (Oh x y) (aK.refl _) (by simp) (by simp));rw[OE x5 OF l] at h;exact h
def hU (q:Int×Int->Bool) (n i j:Nat):List (Int×Int):=(oq n i++lU i j).filter q
theorem IA {q:Int×Int->Bool} {n:Nat}:hU q n 0 0=[]:=by simp[hU,oq,lU]
theorem IB {q:Int×Int->Bool} {n i:Nat}:hU q n i (n+1)=hU q n (i+1) 0:=by simp[hU,Iz,lU]
theorem OI {q:Int×Int->Bool} {n i j:Nat}:hU q n i (j+1)=hU q n i j++if q ((i:Int)-1,(j:Int)-1) then [((i:Int)-1,(j:Int)-1)] else []:=by
 unfold hU;rw[OG,<-List.append_assoc,List.filter_append];simp[List.filter_cons]
theorem Ei {q:Int×Int->Bool} {n:Nat}:hU q n (n+1) 0=(Aq n).filter q:=by simp[hU,lU,Aq]
theorem YI {q:Int×Int->Bool} {n i j:Nat}:((i:Int)-1,(j:Int)-1)∉hU q n i j:=by
 unfold hU;rw[List.mem_filter,List.mem_append];rintro⟨h|h,_⟩
 ·have:=OH h;simp at this
 ·have:=(Eg h).2;simp at this
def nG (l:List θ):θ:=if l.isEmpty then .sl true 0 [] else .ms 3 l.length 0 l.length
def cW (l:List θ):List Row:=if l.isEmpty then [] else [.cells 111 1 l]
abbrev hs:Row:=.cells 110 3 [.aS [R 0,R 0,.sl true 0 []]]
abbrev gy (p:Int×Int) (L:List θ):Row:=.cells 110 3 [.aS [R p.1,R p.2,nG L]]
def cq (id:Nat) (l:List θ):θ:=if l.isEmpty then .sl true 0 [] else .ms id l.length 0 l.length
theorem gz {id:Nat} {l:List θ} (h:l≠[]):cq id l=.ms id l.length 0 l.length:=by unfold cq;rw[if_neg (by simpa using h)]
theorem YJ {l:List θ}:au ((cW l).length+3) (nG l):=by
 unfold nG cW;cases l.isEmpty<;>simp[nx]
theorem YK {h:Nat} {l:List θ} (hb:∀e∈l,∀a∈e.cells,au 0 a):∀r∈cW l,eK h r:=by
 intro r μ;unfold cW at μ;cases ω:l.isEmpty with
 | true=>rw[ω] at μ;simp at μ
 | false=>
  rw[ω] at μ;simp at μ;subst μ;exact λe he a ξ=>(hb e he a ξ).mono (Nat.zero_le _)
theorem eK.mono {h cJ:Nat} {r:Row} (hb:eK h r) (aU:h<=cJ):eK cJ r:=by
 cases r with
 | cells t k l=>exact λe he a ξ=>(hb e he a ξ).mono aU
 | map es=>exact λe he=>⟨(hb e he).1.mono aU,(hb e he).2.mono aU⟩
 | iter m left cur=>exact⟨Nat.lt_of_lt_of_le hb.1 aU,λe he=>⟨(hb.2.1 e he).1.mono aU,(hb.2.1 e he).2.mono aU⟩,λe he=>⟨(hb.2.2 e he).1.mono aU,(hb.2.2 e he).2.mono aU⟩⟩
 | dead=>trivial
theorem YL {h id:Nat} {l:List θ} (aU:l≠[]->id<h):au h (cq id l):=by
 by_cases ω:l=[]
 ·subst ω;unfold cq;simp
 ·rw[gz ω];exact nx.2 (aU ω)
theorem OJ {α:Type} (l:List α) (i:Nat) (h:i<l.length):(l[i]::l.eraseIdx i).Perm l:=by
 induction l generalizing i with
 | nil=>simp at h
 | cons a l Δ=>
  cases i with
  | zero=>exact .refl _
  | succ i=>
   simp only[List.getElem_cons_succ,List.eraseIdx_cons_succ];exact(List.Perm.swap _ _ _).trans (.cons a (Δ i (by simpa using h)))
theorem Ar {h id k:Nat} {t:TypeId} {l:List θ} {σ:List Row} (bW:h<=id) (μ:l≠[]->σ[id]?=some (.cells t k l)) (hb:∀e∈l,∀a∈e.cells,au h a):ed h σ (cq id l) (fA k l):=by
 by_cases ω:l=[]
 ·subst ω;exact .low (by unfold cq;simp)
 ·have e:fA k l=.sl false k l:=by unfold fA;rw[if_neg (by simpa using ω)]
  rw[gz ω,e];exact .own bW (μ ω) rfl hb
theorem IC (k:Nat) (m:List θ):∃b kk l,fA k m=.sl b kk l:=by
 unfold fA;split
 ·exact⟨_,_,_,rfl⟩
 ·exact⟨_,_,_,rfl⟩
theorem OK {α β:Type} (f:α->β) (l:List α) (i:Nat):(l.map f).eraseIdx i=(l.eraseIdx i).map f:=by
 induction l generalizing i with
 | nil=>rfl
 | cons a l Δ=>cases i<;>simp[Δ]
theorem YM (s:aL) (ο:s.small) (Υ:s.ae.length<2 ^ 20) (p:Int×Int) (hv:∀c∈s.cells,∀x∈c,0<=x.cL/\x.cL<s.ai.length) (N:Nat) (b8:N<2 ^ 20) (e5:Eh N) (hle:∀c,c<s.cells.length->(ff s p c).length<=N) :
  ay Tryz.prog 143 [eV s,az p] (c7 ⟨p.1,p.2,(List.range s.cells.length).map (ff s p)⟩):=by
 refine ak.body Ι Tryz.func143 rfl rfl Tryz.ntmps143 rfl rfl (by simp) ?_
 repeat apply κ
 refine dw (A:=[4]) Ι λη I=>?_;simp;(repeat (rw[δ];simp));apply I
 repeat apply κ
 refine dw (A:=[5]) Ι λη I=>?_;simp;(repeat (rw[δ];simp));apply I
 repeat apply κ
 (repeat apply κ);refine ν λη I=>?_;simp;(repeat (rw[δ];simp));apply I;(repeat (first|apply κ|(refine ν λη I=>?_;simp;(repeat (rw[δ];simp));apply I)));have hR:s.cells.length<2 ^ 30:=ο.2.2.1;refine W.iter (λc:Nat=>c<=s.cells.length) (λc=>[(2,.Ψ [aO s.ae,aI s.ai,bf s.cells]),(3,.Ψ [R p.1,R p.2]),(4,.al 0 1 0 0),(5,.al 1 1 0 0),(6,.mp 2),(19,R s.cells.length),(20,R c)])
  (λc=>hs::gy p ((List.range c).map λc=>fA 2 ((ff s p c).map az))::.map []::cW ((List.range c).map λc=>fA 2 ((ff s p c).map az))) (λc=>s.cells.length-c) 0 (Nat.zero_le _) (by simp[nG,cW]) (by simp) (λc ζ Δ=>?_)
 obtain⟨L,aC⟩:∃L,L=(List.range c).map λc=>fA 2 ((ff s p c).map az):=⟨_,rfl⟩;refine W.to (σ':=hs::gy p L::.map []::cW L) (env':=[(2,.Ψ [aO s.ae,aI s.ai,bf s.cells]),(3,.Ψ [R p.1,R p.2]),(4,.al 0 1 0 0),(5,.al 1 1 0 0),(6,.mp 2),(19,R s.cells.length),(20,R c)]) ?_ (by rw[aC]) (by simp);(repeat (first|apply κ|(refine ν λη I=>?_;simp;(repeat (rw[δ];simp));apply I)));refine W.en rfl (λζ=>?_) (λζ=>?_)
 ·have a5:c<s.cells.length:=by simpa using ζ
  (repeat (first|apply κ|(refine ν λη I=>?_;simp;(repeat (rw[δ];simp));apply I)));obtain⟨n,Η⟩:∃n,n=s.ae.length:=⟨_,rfl⟩;have q4:n<2 ^ 20:=by omega
  obtain⟨q,Ρ⟩:∃q:Int×Int->Bool,q=λr=>s.mM p r c:=⟨_,rfl⟩;have s3:∀e∈L,∀a∈e.cells,au 0 a:=by
   rw[aC];intro e he a ξ;obtain⟨x,_,rfl⟩:=List.mem_map.1 he;unfold fA at ξ;split at ξ<;>simp[θ.cells] at ξ<;>subst ξ<;>simp
  have fu:∀(M:List (Int×Int)) (h:Nat),eK h (.map (M.map dx)):=λM h e he=>by
   obtain⟨x,_,rfl⟩:=List.mem_map.1 he;simp
  have jX:∀M:List (Int×Int),∀r∈hs::gy p L::.map (M.map dx)::cW L,eK (hs::gy p L::.map (M.map dx)::cW L).length r:=λM r μ=>by
   simp only[List.mem_cons] at μ;rcases μ with rfl|rfl|rfl|μ
   ·simp[eK,θ.cells]
   ·simp[eK,θ.cells];exact YJ
   ·exact fu M _
   ·exact YK s3 r μ
  refine W.iter (λi:Nat=>i<=n+1) (λi=>[(2,.Ψ [aO s.ae,aI s.ai,bf s.cells]),(3,.Ψ [R p.1,R p.2]),(4,.al 0 1 0 0),(5,.al 1 1 0 0),(6,.mp 2),(19,R s.cells.length),(20,R c),(7,R c),(8,R ((i:Int)-1))])
   (λi=>hs::gy p L::.map ((hU q n i 0).map dx)::cW L) (λi=>n+1-i) 0 (Nat.zero_le _) (by rw[IA];rfl) (by simp) (λi hi fK=>?_)
  (repeat (first|apply κ|(refine ν λη I=>?_;simp;(repeat (rw[δ];simp));apply I)));by_cases br:i<n+1
  ·refine aj (by simp[<-Η];omega) ?_;(repeat (first|apply κ|(refine ν λη I=>?_;simp;(repeat (rw[δ];simp));apply I)));refine W.iter (λj:Nat=>j<=n+1) (λj=>[(2,.Ψ [aO s.ae,aI s.ai,bf s.cells]),(3,.Ψ [R p.1,R p.2]),(4,.al 0 1 0 0),(5,.al 1 1 0 0),(6,.mp 2),(19,R s.cells.length),(20,R c),(7,R c),(8,R ((i:Int)-1)),(9,R ((j:Int)-1))])
    (λj=>hs::gy p L::.map ((hU q n i j).map dx)::cW L) (λj=>n+1-j) 0 (Nat.zero_le _) rfl (by simp) (λj ε jM=>?_)
   (repeat (first|apply κ|(refine ν λη I=>?_;simp;(repeat (rw[δ];simp));apply I)));by_cases eO:j<n+1
   ·refine aj (by simp[<-Η];omega) ?_
    repeat apply κ
    obtain⟨M,c0⟩:∃M,M=hU q n i j:=⟨_,rfl⟩;refine W.to (σ':=hs::gy p L::.map (M.map dx)::cW L) (env':=[(2,.Ψ [aO s.ae,aI s.ai,bf s.cells]),(3,.Ψ [R p.1,R p.2]),(4,.al 0 1 0 0),(5,.al 1 1 0 0),(6,.mp 2),(19,R s.cells.length),(20,R c),(7,R c),(8,R ((i:Int)-1)),(9,R ((j:Int)-1))]) ?_ (by rw[c0]) (by simp);have YN:hF a6 112 (.aS [R ((i:Int)-1),R ((j:Int)-1)]) (M.map dx) 0=some none:=YD _ M 0 (by rw[c0];exact YI);have kK:∀es,n9 (hs::gy p L::.map es::cW L) 2=true:=λes=>by unfold cW;cases L.isEmpty<;>simp[n9]
    refine dw (A:=[10]) Ι λη I=>?_;simp;(repeat (rw[δ];simp));apply I;refine W.pk (σ0:=hs::gy p L::.map (M.map dx)::cW L) (Nat.zero_le _) (jX M) (by simp) [(10,.Ψ [R ((i:Int)-1),R ((j:Int)-1)]),(2,.Ψ [aO s.ae,aI s.ai,bf s.cells]),(3,.Ψ [R p.1,R p.2]),(4,.al 0 1 0 0),(5,.al 1 1 0 0),(6,.mp 2),(19,R s.cells.length),(20,R c),(7,R c),(8,R ((i:Int)-1)),(9,R ((j:Int)-1))] (by simp[kU,sL]) ?_;have kg:=fJ (show j<2 ^ 62 by omega);(repeat apply κ);refine ν λη I=>?_;simp;(repeat (rw[δ];simp));refine ay.c (XL s ο p ((i:Int)-1,(j:Int)-1) c a5 (hv _ (List.getElem_mem a5)) (by simp;omega) (by simp;omega)) (aK.refl _) (by simp) (by simp) ?_;simp;(repeat (rw[δ];simp));apply I;have ID:s.mM p ((i:Int)-1,(j:Int)-1) c=q ((i:Int)-1,(j:Int)-1):=by rw[Ρ]
    rw[ID];have dU:=OI (q:=q) (n:=n) (i:=i) (j:=j);cases As:q ((i:Int)-1,(j:Int)-1)
    ·refine ah rfl ?_;(repeat (first|apply κ|(refine ν λη I=>?_;simp;(repeat (rw[δ];simp[kg]));apply I)));rw[As] at dU;refine W.to (jM (j+1) (by omega) (by omega)) ?_ ?_
     ·rw[dU,c0];simp
     ·simp
    ·refine aj rfl ?_
     repeat apply κ
     refine ν λη I=>?_;simp;(repeat (rw[δ];simp[YN,kK,-n9]));apply I;(repeat (first|apply κ|(refine ν λη I=>?_;simp;(repeat (rw[δ];simp[kg]));apply I)));rw[As] at dU;refine W.to (jM (j+1) (by omega) (by omega)) ?_ ?_
     ·rw[dU,c0];simp
     ·simp
   ·refine ah (by simp[<-Η];omega) ?_;refine W.exit rfl ?_;have pq:j=n+1:=by omega
    subst pq;(repeat (first|apply κ|(refine ν λη I=>?_;simp;(repeat (rw[δ];simp));apply I)));refine W.to (fK (i+1) (by omega) (by omega)) ?_ ?_
    ·rw[IB]
    ·have:=fJ (show i<2 ^ 62 by omega);simp[this]
  ·refine ah (by simp[<-Η];omega) ?_;refine W.exit rfl ?_;have dL:i=n+1:=by omega
   subst dL;obtain⟨D,dQ⟩:∃D,D=ff s p c:=⟨_,rfl⟩;have IE:hU q n (n+1) 0=D:=by rw[Ei,dQ,Ρ,Η];rfl
   rw[IE];have wi:D.length<=N:=by rw[dQ];exact hle c a5
   refine W.to (σ':=hs::gy p L::.map (D.map dx)::cW L) (env':=[(2,.Ψ [aO s.ae,aI s.ai,bf s.cells]),(3,.Ψ [R p.1,R p.2]),(4,.al 0 1 0 0),(5,.al 1 1 0 0),(6,.mp 2),(19,R s.cells.length),(20,R c),(7,R c)]) ?_ rfl (by simp);(repeat (first|apply κ|(refine ν λη I=>?_;simp;(repeat (rw[δ];simp));apply I)));refine W.iter (λx:List (Int×Int)×List (Int×Int)×Option (θ×θ)=>(x.1++x.2.1).Perm D/\(x.2.2=none\/∃y,x.2.2=some (dx y)))
    (λx=>[(2,.Ψ [aO s.ae,aI s.ai,bf s.cells]),(3,.Ψ [R p.1,R p.2]),(4,.al 0 1 0 0),(5,.al 1 1 0 0),(6,.mp 2),(19,R s.cells.length),(20,R c),(7,R c),(11,cq ((cW L).length+1+1+1+1) (x.1.map az)),(50,.it ((cW L).length+1+1+1))])
    (λx=>hs::gy p L::.map (D.map dx)::(cW L++(.iter 2 (x.2.1.map dx) x.2.2::bj 112 2 (x.1.map az)))) (λx=>x.2.1.length) ([],D,none) ⟨by simp,.inl rfl⟩ (by simp[bj]) (by simp[cq]) (λx U ry=>?_)
   obtain⟨K,Ω,cur⟩:=x;obtain⟨ψ,Df⟩:=U;simp only at ψ Df
   repeat apply κ
   cases Ω with
   | nil=>
    (repeat apply κ);refine ν λη I=>?_;simp;(repeat (rw[δ];simp));apply I
    repeat apply κ
    refine ah rfl ?_;refine W.exit rfl ?_;have wj:K.Perm D:=by simpa using ψ
    repeat apply κ
    have OL:K.length<=N:=by rw[wj.length_eq];exact wi
    have YO:K.mergeSort kZ=D:=by
     rw[dQ] at wj ⊢;exact Yv wj (YG s p c)
    refine W.fL (A:=[]) Ι [(2,.Ψ [aO s.ae,aI s.ai,bf s.cells]),(3,.Ψ [R p.1,R p.2]),(4,.al 0 1 0 0),(5,.al 1 1 0 0),(6,.mp 2),(19,R s.cells.length),(20,R c),(11,cq ((cW L).length+1+1+1+1) (D.map az))]
     (hs::gy p L::.map (D.map dx)::(cW L++(.iter 2 [] cur::bj 112 2 (D.map az)))) ?_ (by
     clear ry fK Δ jX fu hle hv s3;by_cases Θ:K=[]
     ·subst Θ;have YP:D=[]:=wj.symm.eq_nil;rw[YP];simp only[List.map_nil,iJ,show cq ((cW L).length+1+1+1+1) []=.sl true 0 [] from rfl];simp;(repeat (rw[δ];simp));refine ay.c (Yy _ (by simp[lP])) (aK.refl _) (by simp[lP]) (by simp) ?_;simp;(repeat (rw[δ];simp));(try simp)
     ·have gl:K.map az≠[]:=by simpa using Θ
      have YQ:D≠[]:=λe=>Θ (by rw[e] at wj;exact wj.eq_nil)
      have OM:D.map az≠[]:=by simpa using YQ
      rw[gz gl,dY gl,gz OM,dY OM];simp;(repeat (rw[δ];simp));have o0:au 0 (.fn (.func 174) [] []):=by simp[lP]
      refine ak.one (e5 K OL) ((cW L).length+1+1+1+1) (by simp) (uf sR) (uf sR) (by simp[nC,o0.ih 1]) (by simp[ga]) (by simp[nD,o0.dM [(cW L).length+1+1+1+1]]) ?_;simp[dM,hH];(repeat (rw[δ];simp));(try simp[YO,wj.length_eq]))
    refine W.cut ((cW L).length+1+1+1) (Nat.zero_le _) [(2,.Ψ [aO s.ae,aI s.ai,bf s.cells]),(3,.Ψ [R p.1,R p.2]),(4,.al 0 1 0 0),(5,.al 1 1 0 0),(6,.mp 2),(19,R s.cells.length),(20,R c),(11,fA 2 (D.map az))] (by simp) (λid r bW μ=>?_) ?_ ?_
    ·refine jX D r ?_;have e:hs::gy p L::.map (D.map dx)::(cW L++(.iter 2 [] cur::bj 112 2 (D.map az)))=(hs::gy p L::.map (D.map dx)::cW L)++(.iter 2 [] cur::bj 112 2 (D.map az)):=by simp
     rw[e,dB (by simpa using bW)] at μ;exact ck μ
    ·have YR:ed ((cW L).length+1+1+1) (hs::gy p L::.map (D.map dx)::(cW L++(.iter 2 [] cur::bj 112 2 (D.map az)))) (cq ((cW L).length+1+1+1+1) (D.map az)) (fA 2 (D.map az)):=Ar (t:=112) (by omega) (λω=>by rw[dY ω];simp) (λe he a ξ=>by
      obtain⟨z,_,rfl⟩:=List.mem_map.1 he;exact(sR z a ξ).mono (Nat.zero_le _))
     intro z Θ;simp only[List.mem_cons,List.not_mem_nil,or_false] at Θ;rcases Θ with rfl|rfl|rfl|rfl|rfl|rfl|rfl|rfl
     all_goals first|exact YR|exact .low (by simp[kU,sL])
    ·obtain⟨js,wm⟩:∃js,js=L++[fA 2 (D.map az)]:=⟨_,rfl⟩;have mR:L.length<2 ^ 30:=by rw[aC];simp;omega
     refine W.to (σ':=hs::gy p L::.map (D.map dx)::cW L) (env':=[(2,.Ψ [aO s.ae,aI s.ai,bf s.cells]),(3,.Ψ [R p.1,R p.2]),(4,.al 0 1 0 0),(5,.al 1 1 0 0),(6,.mp 2),(19,R s.cells.length),(20,R c),(11,fA 2 (D.map az))]) ?_ (by simp) (by simp)
     repeat apply κ
     refine W.fL (A:=[65]) Ι [(2,.Ψ [aO s.ae,aI s.ai,bf s.cells]),(3,.Ψ [R p.1,R p.2]),(4,.al 0 1 0 0),(5,.al 1 1 0 0),(6,.mp 2),(19,R s.cells.length),(20,R c)] (hs::gy p js::.map (D.map dx)::cW js) ?_ (by
      clear ry fK Δ jX fu hle hv;obtain⟨Ej,ON,sl,ru⟩:=IC 2 (D.map az);rw[ru] at wm ⊢;by_cases Θ:L=[]
      ·have IF:js=[.sl Ej ON sl]:=by rw[wm,Θ];rfl
       rw[IF];subst Θ;simp only[gy,cW,nG,List.isEmpty_nil,List.isEmpty_cons,if_true,if_false];(try simp);(repeat (rw[δ];simp));(try simp[])
      ·have j9:L.length<=4294967295:=by omega
       have c1:nG L=.ms 3 L.length 0 L.length:=by unfold nG;rw[if_neg (by simpa using Θ)]
       have c2:cW L=[.cells 111 1 L]:=by unfold cW;rw[if_neg (by simpa using Θ)]
       have c3:nG js=.ms 3 (L.length+1) 0 (L.length+1):=by rw[wm];unfold nG;rw[if_neg (by simp)];simp
       have c4:cW js=[.cells 111 1 (L++[.sl Ej ON sl])]:=by rw[wm];unfold cW;rw[if_neg (by simp)]
       simp only[gy];rw[c1,c2,c3,c4];(try simp);(repeat (rw[δ];simp[j9]));(try simp[j9]))
     have kK:∀es,n9 (hs::gy p js::.map es::cW js) 2=true:=λes=>by unfold cW;cases js.isEmpty<;>simp[n9]
     repeat apply κ
     refine ν λη I=>?_;simp;(repeat (rw[δ];simp[kK,-n9]));apply I;(repeat (first|apply κ|(refine ν λη I=>?_;simp;(repeat (rw[δ];simp));apply I)));have An:js=(List.range (c+1)).map λc=>fA 2 ((ff s p c).map az):=by rw[wm,aC,dQ,List.range_succ];simp
     refine W.to (Δ (c+1) (by omega) (by omega)) ?_ ?_
     ·rw[<-An]
     ·simp[fe a5 (show s.cells.length<2 ^ 62 by omega)]
   | cons y Ω=>
    (repeat apply κ);refine ν λη I=>?_;simp;(repeat (rw[δ];simp));intro i hi;obtain⟨x,U⟩:∃x,x=(y::Ω)[i]'(by simpa using hi):=⟨_,rfl⟩;have IG:(dx y::List.map dx Ω)[i]?=some (dx x):=by
     have:(List.map dx (y::Ω))[i]?=some (dx x):=by
      rw[List.getElem?_map,aW (by simpa using hi),U];rfl
     simpa using this
    have IH:(dx y::List.map dx Ω).eraseIdx i=((y::Ω).eraseIdx i).map dx:=by
     exact OK dx (y::Ω) i
    rw[IG,IH];simp;(repeat (rw[δ];simp));apply I
    repeat apply κ
    refine aj rfl ?_
    repeat apply κ
    refine dw (A:=[12]) Ι λη I=>?_;simp;(repeat (rw[δ];simp));apply I;have fj:∀r∈hs::gy p L::.map (D.map dx)::(cW L++(.iter 2 (((y::Ω).eraseIdx i).map dx) (some (dx x))::bj 112 2 (K.map az))),eK (hs::gy p L::.map (D.map dx)::(cW L++(.iter 2 (((y::Ω).eraseIdx i).map dx) (some (dx x))::bj 112 2 (K.map az)))).length r:=by
     intro r μ;have fa:r∈hs::gy p L::.map (D.map dx)::cW L\/r∈(.iter 2 (((y::Ω).eraseIdx i).map dx) (some (dx x))::bj 112 2 (K.map az)):=by
      have:r∈(hs::gy p L::.map (D.map dx)::cW L)++(.iter 2 (((y::Ω).eraseIdx i).map dx) (some (dx x))::bj 112 2 (K.map az)):=by simpa using μ
      exact List.mem_append.1 this
     rcases fa with fa|fa
     ·exact eK.mono (jX D r fa) (by simp)
     ·rcases List.mem_cons.1 fa with rfl|fa
      ·refine⟨by simp,λe he=>?_,λe he=>?_⟩
       ·obtain⟨z,_,rfl⟩:=List.mem_map.1 he;simp
       ·cases he;simp
      ·unfold bj at fa;split at fa
       ·simp at fa
       ·simp at fa;subst fa;intro e he a ξ;obtain⟨z,_,rfl⟩:=List.mem_map.1 he;simp[θ.cells] at ξ;rcases ξ with rfl|rfl<;>simp
    refine W.to (σ':=(hs::gy p L::.map (D.map dx)::(cW L++(.iter 2 (((y::Ω).eraseIdx i).map dx) (some (dx x))::bj 112 2 (K.map az))))++[.cells 112 2 [az x]]) (env':=[(12,.al (hs::gy p L::.map (D.map dx)::(cW L++(.iter 2 (((y::Ω).eraseIdx i).map dx) (some (dx x))::bj 112 2 (K.map az)))).length 1 0 0),(2,.Ψ [aO s.ae,aI s.ai,bf s.cells]),(3,.Ψ [R p.1,R p.2]),(4,.al 0 1 0 0),(5,.al 1 1 0 0),(6,.mp 2),(19,R s.cells.length),(20,R c),(7,R c),(11,cq ((cW L).length+1+1+1+1) (K.map az)),(50,.it ((cW L).length+1+1+1))]) ?_ (by simp) (by simp);refine W.pk (σ0:=hs::gy p L::.map (D.map dx)::(cW L++(.iter 2 (((y::Ω).eraseIdx i).map dx) (some (dx x))::bj 112 2 (K.map az)))) (Nat.zero_le _) fj (by simp) [(12,.Ψ [R x.1,R x.2]),(2,.Ψ [aO s.ae,aI s.ai,bf s.cells]),(3,.Ψ [R p.1,R p.2]),(4,.al 0 1 0 0),(5,.al 1 1 0 0),(6,.mp 2),(19,R s.cells.length),(20,R c),(7,R c),(11,cq ((cW L).length+1+1+1+1) (K.map az)),(50,.it ((cW L).length+1+1+1))] (by
     have hb:=YL (h:=(cW L).length+((bj 112 2 (K.map az)).length+1)+1+1+1) (id:=(cW L).length+1+1+1+1) (l:=K.map az) (λω=>by rw[dY ω];simp);clear ry fK Δ jX fj fu hle hv s3;simp[kU,sL,W9,hb]
     ) ?_
    repeat apply κ
    have OL:K.length<2 ^ 20:=by
     have:=ψ.length_eq;simp at this;omega
    refine W.fL (A:=[58]) Ι [(2,.Ψ [aO s.ae,aI s.ai,bf s.cells]),(3,.Ψ [R p.1,R p.2]),(4,.al 0 1 0 0),(5,.al 1 1 0 0),(6,.mp 2),(19,R s.cells.length),(20,R c),(7,R c),(11,cq ((cW L).length+1+1+1+1) ((K++[x]).map az)),(50,.it ((cW L).length+1+1+1))]
     (hs::gy p L::.map (D.map dx)::(cW L++(.iter 2 (((y::Ω).eraseIdx i).map dx) (some (dx x))::bj 112 2 ((K++[x]).map az)))) ?_ (by
     clear ry fK Δ jX fj fu hle hv s3;by_cases Θ:K=[]
     ·subst Θ;simp only[List.map_nil,iJ,show cq ((cW L).length+1+1+1+1) []=.sl true 0 [] from rfl];(try simp);(repeat (rw[δ];simp[iJ]));(try simp[iJ]);exact⟨rfl,rfl⟩
     ·have j9:K.length<=4294967295:=by omega
      have gl:K.map az≠[]:=by simpa using Θ
      rw[gz gl,dY gl];(try simp);(repeat (rw[δ];simp[j9]));(try simp[j9]);rw[dY (by simp),gz (by simp)];simp)
    (repeat (first|apply κ|(refine ν λη I=>?_;simp;(repeat (rw[δ];simp));apply I)));have OO:(x::(y::Ω).eraseIdx i).Perm (y::Ω):=by
     rw[U];exact OJ _ _ _
    refine W.to (ry (K++[x],(y::Ω).eraseIdx i,some (dx x)) ⟨?_,.inr ⟨x,rfl⟩⟩ ?_) (by simp) (by simp)
    ·simp only[List.append_assoc,List.singleton_append];exact(OO.append_left K).trans ψ
    ·have:=OO.length_eq;simp at this;simp only[List.length_cons];omega
 ·have wq:c=s.cells.length:=by simp at ζ;omega
  subst wq;refine W.exit rfl ?_
  repeat apply κ
  clear Δ;have s3:∀e∈L,∀a∈e.cells,au 0 a:=by
   rw[aC];intro e he a ξ;obtain⟨x,_,rfl⟩:=List.mem_map.1 he;unfold fA at ξ;split at ξ<;>simp[θ.cells] at ξ<;>subst ξ<;>simp
  refine W.fL (A:=[]) Ι [(4,.al 0 1 0 0)] (.cells 110 3 [.aS [R p.1,R p.2,nG L]]::gy p L::.map []::cW L) ?_ (by
   simp only[gy];by_cases Θ:L=[]
   ·rw[show nG L=.sl true 0 [] by rw[Θ];rfl];(try simp);(repeat (rw[δ];simp));(try simp[])
   ·rw[show nG L=.ms 3 L.length 0 L.length by unfold nG;rw[if_neg (by simpa using Θ)],show cW L=[.cells 111 1 L] by unfold cW;rw[if_neg (by simpa using Θ)]];(try simp);(repeat (rw[δ];simp));(try simp[]))
  refine W.cut 0 (Nat.zero_le _) [(4,.Ψ [R p.1,R p.2,fA 1 L])] (Nat.zero_le _) (λid r bW=>by omega) (λz Θ=>by
   simp at Θ;subst Θ;exact ed.struct (k:=3) (t:=110) (l:=[R p.1,R p.2,nG L]) (Nat.zero_le _) rfl rfl (λx a b1 J γ=>by
    match x with
    | 0=>simp at J γ;subst J;subst γ;exact .low (by simp)
    | 1=>simp at J γ;subst J;subst γ;exact .low (by simp)
    | 2=>
     simp at J γ;subst J;subst γ;exact Ar (id:=3) (t:=111) (l:=L) (Nat.zero_le _) (λω=>by
      have:cW L=[.cells 111 1 L]:=by unfold cW;rw[if_neg (by simpa using ω)]
      simp[this]) s3
    | x+3=>simp at J)) ?_
  (repeat (first|apply κ|(refine ν λη I=>?_;simp;(repeat (rw[δ];simp));apply I)));refine W.ret ⟨_,rfl,?_,rfl⟩;refine cG.aS (aK.cons (.refl _) (aK.cons (.refl _) (aK.cons (.trans cG.acc ?_) .nil)));rw[aC];show cG _ (.sl false 1 (((List.range s.cells.length).map (ff s p)).map mK));rw[List.map_map];refine cG.map λx _=>.one cG.acc ?_ rfl;obtain⟨b,k,l,he⟩:=IC 2 ((ff s p x).map az);rw[he];rfl
structure lV where
 c:Int
 n:Int
 least:Int
 some:Bool
def lV.take (b:lV) (c n m:Int):lV:=if b.some=false\/m<b.least then⟨c,n,m,true⟩ else b
abbrev lW (b:lV):θ:=.aS [R b.c,R b.n,R b.least,a4 b.some]
theorem YS (b:lV) (c n m:Int):ak Tryz.prog 76 [.al 0 1 0 0,.aS [R c,R n],R m] [.cells 104 4 [lW b]] (λr s=>r=.bn []/\s=[.cells 104 4 [lW (b.take c n m)]]) (λ_ _=>False):=by
 obtain⟨dD,pO,l0,nX⟩:=b;refine ak.body Ι Tryz.func76 rfl rfl Tryz.ntmps76 rfl rfl (by simp) ?_;(repeat (first|apply κ|(refine ν λη I=>?_;simp;(repeat (rw[δ];simp));apply I)));cases nX
 ·have e:lV.take ⟨dD,pO,l0,false⟩ c n m=⟨c,n,m,true⟩:=by simp[lV.take]
  rw[e];(repeat (first|apply κ|(refine ν λη I=>?_;simp;(repeat (rw[δ];simp));apply I)));refine aj rfl ?_;(repeat (first|apply κ|(refine ν λη I=>?_;simp;(repeat (rw[δ];simp));apply I)));exact W.nil ⟨_,rfl,rfl,rfl⟩
 ·(repeat (first|apply κ|(refine ν λη I=>?_;simp;(repeat (rw[δ];simp));apply I)));by_cases h:m<l0
  ·have e:lV.take ⟨dD,pO,l0,true⟩ c n m=⟨c,n,m,true⟩:=by simp[lV.take,h]
   rw[e];refine aj (by simp[h]) ?_;(repeat (first|apply κ|(refine ν λη I=>?_;simp;(repeat (rw[δ];simp));apply I)));exact W.nil ⟨_,rfl,rfl,rfl⟩
  ·have e:lV.take ⟨dD,pO,l0,true⟩ c n m=⟨dD,pO,l0,true⟩:=by simp[lV.take,h]
   rw[e];refine ah (by simp[h]) ?_;(repeat (first|apply κ|(refine ν λη I=>?_;simp;(repeat (rw[δ];simp));apply I)));exact W.nil ⟨_,rfl,rfl,rfl⟩
abbrev im (e:Int×Int):θ×θ:=(R e.1,R e.2)
def uy:List (Int×Int)->Int->Int->List (Int×Int)
 | [],k,n=>[(k,IntKind.i64.wrap (0+n))]
 | e::r,k,n=>if k=e.1 then(k,IntKind.i64.wrap (e.2+n))::r else e::uy r k n
theorem YT (k n:Int):∀(m:List (Int×Int)) (d:Nat),(hF a6 113 (R k) (m.map im) d=some none/\uy m k n=m++[(k,IntKind.i64.wrap (0+n))])\/∃i v,i<m.length/\hF a6 113 (R k) (m.map im) d=some (some (d+i,R v))/\uy m k n=m.set i (k,IntKind.i64.wrap (v+n)):=by
 intro m
 induction m with
 | nil=>intro d;exact .inl ⟨rfl,rfl⟩
 | cons e r Δ=>
  intro d;have Ρ:aeqv a6 113 (R k) (R e.1)=some (k==e.1):=by simp[aeqv,jD,mD,iX]
  by_cases h:k=e.1
  ·refine .inr ⟨0,e.2,by simp,?_,by simp[uy,h]⟩;simp only[List.map_cons,hF,Ρ];simp[h]
  ·have hb:(k==e.1)=false:=by simpa using h
   rcases Δ (d+1) with⟨J,γ⟩|⟨i,v,J,γ,π⟩
   ·refine .inl ⟨?_,by simp[uy,h,γ]⟩;simp only[List.map_cons,hF,Ρ,hb,cond_false];exact J
   ·refine .inr ⟨i+1,v,by simp;omega,?_,by simp[uy,h,π]⟩;simp only[List.map_cons,hF,Ρ,hb,cond_false];rw[γ];have:d+1+i=d+(i+1):=by omega
    rw[this]
theorem ak.YU {P:Program} {σ:List Row} {g:FuncId} {as0 first:List θ} {row row':Row} {r:θ} {K E:θ->List Row->Prop} (h:ak P g as0 [row] (λa s=>a=r/\s=[row']) (λ_ _=>False)) (id:Nat) (bW:σ[id]?=some row) (ψ:iG row) (fX:iG row') (ξ:∀a∈as0,ga 1 a) (μ:ga 1 r)
  {args:List θ} (mG:first++args=as0.map (dM [id])) (I:K (dM [id] r) (σ.set id row')):hG P (.fn (.func g) first []) args σ K E:=by
 have aU:=ak.rows (σ:=σ) h [id] (by simp) rfl (λj i ε=>by
  cases j with
  | zero=>simp at ε;subst ε;exact bW
  | succ j=>simp at ε) (λr μ=>by simp at μ;subst μ;exact ψ) (by simpa using ξ) (K':=K) (E':=E) (λa s ⟨J,γ⟩=>by
   subst J;subst γ;refine⟨λx U=>by simp at U;subst U;exact fX,μ,?_⟩;simpa[names,qd,ie] using I) (λa s h=>h.elim)
 exact ak.call (first:=first) (captured:=[]) (by rw[List.append_nil,mG];exact aU)
def uz (s:aL) (f:Found) (c n:Nat) (m:List (Int×Int)) (j:Nat):List (Int×Int):=(((f.cells[c]?).getD []).take j).foldl (λm r=>uy m (s.di (f.u,f.v) r n) (f.many c)) m
def wu (s:aL) (F:List Found) (c n i:Nat):List (Int×Int):=(F.take i).foldl (λm f=>uz s f c n m ((f.cells[c]?).getD []).length) []
def uA (a:Int) (l:List (Int×Int)):Int:=l.foldl (λa e=>max a e.2) a
def Ek (s:aL) (F:List Found) (c n:Nat):Int:=uA 0 (wu s F c n F.length)
def wv (s:aL) (F:List Found) (c:Nat) (b:lV) (n:Nat):lV:=(List.range n).foldl (λb (n:Nat)=>b.take c n (Ek s F c n)) b
def uB (s:aL) (F:List Found) (c:Nat):lV:=(List.range c).foldl (λb (c:Nat)=>wv s F c b s.ai.length) ⟨0,0,0,false⟩
theorem YV (s:aL) (F:List Found) (c:Nat) (b:lV) (n:Nat):wv s F c b (n+1)=(wv s F c b n).take c n (Ek s F c n):=by simp[wv,List.range_succ,List.foldl_append]
theorem YW (s:aL) (F:List Found) (c:Nat):uB s F (c+1)=wv s F c (uB s F c) s.ai.length:=by simp[uB,List.range_succ,List.foldl_append]
theorem YX (s:aL) (f:Found) (c n:Nat) (m:List (Int×Int)) (j:Nat) (h:j<((f.cells[c]?).getD []).length):uz s f c n m (j+1)=uy (uz s f c n m j) (s.di (f.u,f.v) ((f.cells[c]?).getD [])[j] n) (f.many c):=by
 unfold uz;rw[List.take_succ_eq_append_getElem h,List.foldl_append];rfl
theorem YY (s:aL) (F:List Found) (c n i:Nat) (h:i<F.length):wu s F c n (i+1)=uz s F[i] c n (wu s F c n i) ((F[i].cells[c]?).getD []).length:=by
 unfold wu;rw[List.take_succ_eq_append_getElem h,List.foldl_append];rfl
theorem YZ {a:Int} {l m:List (Int×Int)} (h:l.Perm m):uA a l=uA a m:=h.foldl_eq' (λx _ y _ z=>by omega) a
def s4 (s:aL) (F:List Found):Int×Int×Int×Int:=
 if(fM s true F).2.2≠0 then(0,0,0,(fM s true F).2.2)
 else let b:=uB s F s.cells.length;if b.some=false\/b.least=ja F then(0,0,0,11) else(b.c,b.n,b.least,0)
structure Au (s:aL) (F:List Found):Prop where
 rv:F.length<2 ^ 20
 cells:∀f∈F,f.cells.length=s.cells.length/\(∀c∈f.cells,c.length<2 ^ 20/\∀r∈c,r.1<s.ae.length/\r.2<s.ae.length)
 many:∀f∈F,f.cells.length<2 ^ 62/\∀(gQ:Int) i,i<=f.cells.length->ig f.cells gQ i<2 ^ 62
 count:ja F<2 ^ 62
theorem Y0 (s:aL) (ο:s.small) (F:List Found) (gu:sY s F) (b8:Au s F) :
  ay Tryz.prog 26 [eV s] (.bn [R (s4 s F).1,R (s4 s F).2.1,R (s4 s F).2.2.1,R (s4 s F).2.2.2]):=by
 refine ak.body Ι Tryz.func26 rfl rfl Tryz.ntmps26 rfl rfl (by simp) ?_;(repeat (first|apply κ|(refine ν λη I=>?_;simp;(repeat (rw[δ];simp));apply I)));(repeat apply κ);refine dw (A:=[6]) Ι λη I=>?_;simp;(repeat (rw[δ];simp));refine ay.c (Ed s ο true F gu) (aK.refl _) (by simp) (by simp) ?_;simp;(repeat (rw[δ];simp));apply I;by_cases b:(fM s true F).2.2=0
 case neg=>
  have e:s4 s F=(0,0,0,(fM s true F).2.2):=by unfold s4;rw[if_pos b]
  rw[e];generalize (fM s true F).2.2=eE at b;(repeat (first|apply κ|(refine ν λη I=>?_;simp;(repeat (rw[δ];simp));apply I)));refine aj (by simp[b]) ?_;(repeat (first|apply κ|(refine ν λη I=>?_;simp;(repeat (rw[δ];simp));apply I)));refine W.drop (h:=0) (σ':=[]) (Nat.zero_le _) (Nat.zero_le _) (by simp) rfl [(2,R 0),(3,R 0),(4,R 0),(5,R eE)] (by simp) ?_;refine W.ret ⟨_,rfl,?_,rfl⟩;exact .refl _
 have e:fM s true F=(s,F,0):=by
  unfold fM at b ⊢;split at b
  ·rename_i h;simp at b;exact absurd b h
  ·split at b
   ·simp at b
   ·rename_i J γ;rw[if_neg J,if_neg γ]
 have Ε:s4 s F=let b:=uB s F s.cells.length;if b.some=false\/b.least=ja F then(0,0,0,11) else(b.c,b.n,b.least,0):=by unfold s4;rw[if_neg (by simpa using b)]
 rw[Ε,e];clear Ε;refine W.fix (id:=0) (σ':=[]) (Nat.zero_le _) rfl (by simp) (by simp) rfl [(5,R 0),(6,.Ψ [aO s.ae,aI s.ai,bf s.cells]),(7,cQ F)] (by simp) ?_;(repeat (first|apply κ|(refine ν λη I=>?_;simp;(repeat (rw[δ];simp));apply I)));refine ah rfl ?_
 repeat apply κ
 refine dw (A:=[8]) Ι λη I=>?_;simp;(repeat (rw[δ];simp));apply I;(repeat (first|apply κ|(refine ν λη I=>?_;simp;(repeat (rw[δ];simp));apply I)));have hR:s.cells.length<2 ^ 30:=ο.2.2.1;have lω:s.ai.length<2 ^ 30:=ο.2.1;have rz:∀{b:lV} (M:List (Int×Int)),∀r∈[Row.cells 104 4 [lW b],.map (M.map im)],eK [Row.cells 104 4 [lW b],.map (M.map im)].length r:=λ{b} M r μ=>by
  simp only[List.mem_cons,List.not_mem_nil,or_false] at μ;rcases μ with rfl|rfl
  ·simp[eK,θ.cells]
  ·intro e he;obtain⟨x,_,rfl⟩:=List.mem_map.1 he;simp
 refine W.iter (λc:Nat=>c<=s.cells.length) (λc=>[(6,.Ψ [aO s.ae,aI s.ai,bf s.cells]),(7,cQ F),(8,.al 0 1 0 0),(9,.fn (.func 76) [.al 0 1 0 0] []),(33,R s.cells.length),(34,R c)])
  (λc=>[.cells 104 4 [lW (uB s F c)]]) (λc=>s.cells.length-c) 0 (Nat.zero_le _) rfl (by simp) (λc jz Δ=>?_)
 (repeat (first|apply κ|(refine ν λη I=>?_;simp;(repeat (rw[δ];simp));apply I)));refine W.en rfl (λζ=>?_) (λζ=>?_)
 ·have mC:c<s.cells.length:=by simpa using ζ
  (repeat (first|apply κ|(refine ν λη I=>?_;simp;(repeat (rw[δ];simp));apply I)));obtain⟨cV,jA⟩:∃cV,cV=uB s F c:=⟨_,rfl⟩;refine W.iter (λn:Nat=>n<=s.ai.length) (λn=>[(6,.Ψ [aO s.ae,aI s.ai,bf s.cells]),(7,cQ F),(8,.al 0 1 0 0),(9,.fn (.func 76) [.al 0 1 0 0] []),(10,R c),(33,R s.cells.length),(34,R c),(40,R s.ai.length),(41,R n)])
   (λn=>[.cells 104 4 [lW (wv s F c cV n)]]) (λn=>s.ai.length-n) 0 (Nat.zero_le _) (by rw[jA];rfl) (by simp) (λn q9 fK=>?_)
  (repeat (first|apply κ|(refine ν λη I=>?_;simp;(repeat (rw[δ];simp));apply I)));refine W.en rfl (λa5=>?_) (λa5=>?_)
  ·have q4:n<s.ai.length:=by simpa using a5
   obtain⟨bG,j0⟩:∃bG,bG=wv s F c cV n:=⟨_,rfl⟩;refine W.to (σ':=[.cells 104 4 [lW bG]]) (env':=[(6,.Ψ [aO s.ae,aI s.ai,bf s.cells]),(7,cQ F),(8,.al 0 1 0 0),(9,.fn (.func 76) [.al 0 1 0 0] []),(10,R c),(33,R s.cells.length),(34,R c),(40,R s.ai.length),(41,R n)]) ?_ (by rw[j0]) (by simp);(repeat (first|apply κ|(refine ν λη I=>?_;simp;(repeat (rw[δ];simp));apply I)));refine W.iter (λi:Nat=>i<=F.length) (λi=>[(6,.Ψ [aO s.ae,aI s.ai,bf s.cells]),(7,cQ F),(8,.al 0 1 0 0),(9,.fn (.func 76) [.al 0 1 0 0] []),(10,R c),(33,R s.cells.length),(34,R c),(40,R s.ai.length),(41,R n),(11,R n),(12,.mp 1),(45,cQ F),(46,R F.length),(47,R i)])
    (λi=>[.cells 104 4 [lW bG],.map ((wu s F c n i).map im)]) (λi=>F.length-i) 0 (Nat.zero_le _) rfl (by simp) (λi hi ry=>?_)
   (repeat (first|apply κ|(refine ν λη I=>?_;simp;(repeat (rw[δ];simp));apply I)));by_cases hV:i<F.length
   ·refine aj (by simp[hV]) ?_;obtain⟨M,c0⟩:∃M,M=wu s F c n i:=⟨_,rfl⟩;have k0:=YY s F c n i hV;rw[<-c0] at k0;obtain⟨nH,gr⟩:=b8.cells _ (List.getElem_mem hV);obtain⟨hX,hY⟩:=b8.many _ (List.getElem_mem hV);generalize Φ:F[i]=f at k0 nH gr hX hY;have bP:c<f.cells.length:=by rw[nH];exact mC
    refine W.to (σ':=[.cells 104 4 [lW bG],.map (M.map im)]) (env':=[(6,.Ψ [aO s.ae,aI s.ai,bf s.cells]),(7,cQ F),(8,.al 0 1 0 0),(9,.fn (.func 76) [.al 0 1 0 0] []),(10,R c),(33,R s.cells.length),(34,R c),(40,R s.ai.length),(41,R n),(11,R n),(12,.mp 1),(45,cQ F),(46,R F.length),(47,R i)]) ?_ (by rw[c0]) (by simp)
    repeat apply κ
    refine dw (A:=[14]) Ι λη I=>?_;simp;(repeat (rw[δ];simp[hV,Φ]));apply I;refine W.pk (σ0:=[.cells 104 4 [lW bG],.map (M.map im)]) (Nat.zero_le _) (rz _) (by simp) [(14,.Ψ [R f.u,R f.v,mL f.cells]),(6,.Ψ [aO s.ae,aI s.ai,bf s.cells]),(7,cQ F),(8,.al 0 1 0 0),(9,.fn (.func 76) [.al 0 1 0 0] []),(10,R c),(33,R s.cells.length),(34,R c),(40,R s.ai.length),(41,R n),(11,R n),(12,.mp 1),(45,cQ F),(46,R F.length),(47,R i)] (by simp[kU,sL]) ?_;(repeat (first|apply κ|(refine ν λη I=>?_;simp;(repeat (rw[δ];simp[bP]));apply I)));have Av:(f.cells[c]?).getD []=f.cells[c]:=by simp[bP]
    rw[Av] at k0;have Aw:=gr _ (List.getElem_mem bP);have qp:=YX s f c n M;rw[Av] at qp;generalize f.cells[c]=C at k0 Aw qp;obtain⟨wx,II⟩:=Aw;refine W.iter (λj:Nat=>j<=C.length) (λj=>[(14,.Ψ [R f.u,R f.v,mL f.cells]),(6,.Ψ [aO s.ae,aI s.ai,bf s.cells]),(7,cQ F),(8,.al 0 1 0 0),(9,.fn (.func 76) [.al 0 1 0 0] []),(10,R c),(33,R s.cells.length),(34,R c),(40,R s.ai.length),(41,R n),(11,R n),(12,.mp 1),(45,cQ F),(46,R F.length),(47,R i),(55,mK C),(56,R C.length),(57,R j)])
     (λj=>[.cells 104 4 [lW bG],.map ((uz s f c n M j).map im)]) (λj=>C.length-j) 0 (Nat.zero_le _) (by simp[uz]) (by simp) (λj ε jM=>?_)
    (repeat (first|apply κ|(refine ν λη I=>?_;simp;(repeat (rw[δ];simp));apply I)));by_cases hZ:j<C.length
    ·refine aj (by simp[hZ]) ?_;obtain⟨M2,x6⟩:∃M2,M2=uz s f c n M j:=⟨_,rfl⟩;have qq:=qp j hZ;rw[<-x6] at qq;refine W.to (σ':=[.cells 104 4 [lW bG],.map (M2.map im)]) (env':=[(14,.Ψ [R f.u,R f.v,mL f.cells]),(6,.Ψ [aO s.ae,aI s.ai,bf s.cells]),(7,cQ F),(8,.al 0 1 0 0),(9,.fn (.func 76) [.al 0 1 0 0] []),(10,R c),(33,R s.cells.length),(34,R c),(40,R s.ai.length),(41,R n),(11,R n),(12,.mp 1),(45,cQ F),(46,R F.length),(47,R i),(55,mK C),(56,R C.length),(57,R j)]) ?_ (by rw[x6]) (by simp);obtain⟨pQ,rq⟩:=II _ (List.getElem_mem hZ);generalize μ:C[j]=r at qq pQ rq
     repeat apply κ
     refine dw (A:=[16]) Ι λη I=>?_;simp;(repeat (rw[δ];simp[hZ,μ]));apply I;refine W.pk (σ0:=[.cells 104 4 [lW bG],.map (M2.map im)]) (Nat.zero_le _) (rz _) (by simp) [(16,.Ψ [R r.1,R r.2]),(14,.Ψ [R f.u,R f.v,mL f.cells]),(6,.Ψ [aO s.ae,aI s.ai,bf s.cells]),(7,cQ F),(8,.al 0 1 0 0),(9,.fn (.func 76) [.al 0 1 0 0] []),(10,R c),(33,R s.cells.length),(34,R c),(40,R s.ai.length),(41,R n),(11,R n),(12,.mp 1),(45,cQ F),(46,R F.length),(47,R i),(55,mK C),(56,R C.length),(57,R j)] (by simp[kU,sL]) ?_
     repeat apply κ
     have kg:=fe hZ (show C.length<2 ^ 62 by omega);rcases YT (s.di (f.u,f.v) r n) (f.many c) M2 0 with⟨Τ,af⟩|⟨bZ,v,cP,Τ,af⟩
     ·refine W.draw (A:=[]) Ι mixed λη I=>?_;simp;(repeat (rw[ba];simp[Τ,iX]));try rw[a']
      refine fI (ay.p (Ae s ο (f.u,f.v) r n q4 pQ rq) (aK.refl _) (by simp) (by simp)) ?_;simp[Τ,iX];(repeat (rw[ba];simp[Τ,iX]));try rw[a']
      refine fI (ay.p (D' f c hX (hY c)) (aK.refl _) (by simp) (by simp)) ?_;simp[Τ,iX];(repeat (rw[ba];simp[Τ,iX]));try rw[a']
      refine⟨bK (by kernel_rfl),I _ _ ?_⟩;(repeat (first|apply κ|(refine ν λη I=>?_;simp;(repeat (rw[δ];simp[kg]));apply I)));refine W.to (jM (j+1) hZ (by omega)) ?_ ?_
      ·rw[qq,af];simp
      ·simp[kg]
     ·refine W.draw (A:=[]) Ι mixed λη I=>?_;simp;(repeat (rw[ba];simp[Τ,iX]));try rw[a']
      refine fI (ay.p (Ae s ο (f.u,f.v) r n q4 pQ rq) (aK.refl _) (by simp) (by simp)) ?_;simp[Τ,iX];(repeat (rw[ba];simp[Τ,iX]));try rw[a']
      refine fI (ay.p (D' f c hX (hY c)) (aK.refl _) (by simp) (by simp)) ?_;simp[Τ,iX];(repeat (rw[ba];simp[Τ,iX]));try rw[a']
      refine⟨bK (by kernel_rfl),I _ _ ?_⟩;(repeat (first|apply κ|(refine ν λη I=>?_;simp;(repeat (rw[δ];simp[kg]));apply I)));refine W.to (jM (j+1) hZ (by omega)) ?_ ?_
      ·rw[qq,af];simp
      ·simp[kg]
    ·have pq:j=C.length:=by omega
     subst pq;have iZ:=fe hV (show F.length<2 ^ 62 by have:=b8.rv;omega);refine ah (by simp) ?_;refine W.exit rfl ?_;(repeat (first|apply κ|(refine ν λη I=>?_;simp;(repeat (rw[δ];simp[iZ]));apply I)));refine W.to (ry (i+1) hV (by omega)) ?_ ?_
     ·rw[k0]
     ·simp[iZ]
   ·have dL:i=F.length:=by omega
    subst dL;refine ah (by simp) ?_;refine W.exit rfl ?_;obtain⟨M,c0⟩:∃M,M=wu s F c n F.length:=⟨_,rfl⟩;have Y1:Ek s F c n=uA 0 M:=by rw[c0];rfl
    refine W.to (σ':=[.cells 104 4 [lW bG],.map (M.map im)]) (env':=[(6,.Ψ [aO s.ae,aI s.ai,bf s.cells]),(7,cQ F),(8,.al 0 1 0 0),(9,.fn (.func 76) [.al 0 1 0 0] []),(10,R c),(33,R s.cells.length),(34,R c),(40,R s.ai.length),(41,R n),(11,R n),(12,.mp 1)]) ?_ (by rw[c0]) (by simp);(repeat (first|apply κ|(refine ν λη I=>?_;simp;(repeat (rw[δ];simp));apply I)));refine W.iter (λx:Int×List (Int×Int)×Option (θ×θ)=>uA x.1 x.2.1=uA 0 M) (λx=>[(6,.Ψ [aO s.ae,aI s.ai,bf s.cells]),(7,cQ F),(8,.al 0 1 0 0),(9,.fn (.func 76) [.al 0 1 0 0] []),(10,R c),(33,R s.cells.length),(34,R c),(40,R s.ai.length),(41,R n),(11,R n),(12,.mp 1),(17,R x.1),(76,.it 2)])
     (λx=>[.cells 104 4 [lW bG],.map (M.map im),.iter 1 (x.2.1.map im) x.2.2]) (λx=>x.2.1.length) (0,M,none) rfl rfl (by simp) (λx U Y2=>?_)
    obtain⟨ob,Ω,cur⟩:=x;simp only at U
    repeat apply κ
    cases Ω with
    | nil=>
     (repeat apply κ);refine ν λη I=>?_;simp;(repeat (rw[δ];simp));apply I
     repeat apply κ
     refine ah rfl ?_;refine W.exit rfl ?_;have IJ:ob=Ek s F c n:=by rw[Y1,<-U];rfl
     have Ax:=fe q4 (show s.ai.length<2 ^ 62 by omega);(repeat apply κ);refine ν λη I=>?_;simp;(repeat (rw[δ];simp));refine ak.YU (as0:=[.al 0 1 0 0,.aS [R c,R n],R ob]) (YS bG c n ob) 0 rfl (by simp[iG,θ.cells]) (by simp[iG,θ.cells]) (by simp[ga,o8]) (by simp[ga]) rfl ?_;simp[dM,hH];(repeat (rw[δ];simp));apply I;refine W.drop (h:=1) (σ':=[.cells 104 4 [lW (bG.take c n ob)]]) (Nat.zero_le _) (by simp) (λid r bW μ=>?_) rfl [(6,.Ψ [aO s.ae,aI s.ai,bf s.cells]),(7,cQ F),(8,.al 0 1 0 0),(9,.fn (.func 76) [.al 0 1 0 0] []),(10,R c),(33,R s.cells.length),(34,R c),(40,R s.ai.length),(41,R n)] (by simp[kU]) ?_
     ·obtain rfl:id=0:=by omega
      simp at μ;subst μ;simp[eK,θ.cells]
     (repeat (first|apply κ|(refine ν λη I=>?_;simp;(repeat (rw[δ];simp[Ax]));apply I)));refine W.to (fK (n+1) q4 (by omega)) ?_ ?_
     ·rw[YV,<-j0,IJ]
     ·simp[Ax]
    | cons y Ω=>
     (repeat apply κ);refine ν λη I=>?_;simp;(repeat (rw[δ];simp));intro bZ o1;obtain⟨x,my⟩:∃x,x=(y::Ω)[bZ]'(by simpa using o1):=⟨_,rfl⟩;have IG:(im y::List.map im Ω)[bZ]?=some (im x):=by
      have:(List.map im (y::Ω))[bZ]?=some (im x):=by
       rw[List.getElem?_map,aW (by simpa using o1),my];rfl
      simpa using this
     have IH:(im y::List.map im Ω).eraseIdx bZ=((y::Ω).eraseIdx bZ).map im:=OK im (y::Ω) bZ;rw[IG,IH];simp;(repeat (rw[δ];simp));apply I
     repeat apply κ
     refine aj rfl ?_;(repeat (first|apply κ|(refine ν λη I=>?_;simp;(repeat (rw[δ];simp));apply I)));have OP:bZ<(y::Ω).length:=by simpa using o1
     have hinv:uA (max ob x.2) ((y::Ω).eraseIdx bZ)=uA 0 M:=by
      rw[<-U,<-YZ (OJ (y::Ω) bZ OP),<-my];rfl
     have IJ:max ob x.2=if ob<x.2 then x.2 else ob:=by split<;>omega
     refine W.to (Y2 (max ob x.2,(y::Ω).eraseIdx bZ,some (im x)) hinv (by simp only[List.length_eraseIdx,OP,if_true];omega)) ?_ ?_
     ·simp
     ·simp[IJ]
  ·have bz:n=s.ai.length:=by simp at a5;omega
   subst bz;have wy:=fe mC (show s.cells.length<2 ^ 62 by omega);refine W.exit rfl ?_;(repeat (first|apply κ|(refine ν λη I=>?_;simp;(repeat (rw[δ];simp[wy]));apply I)));refine W.to (Δ (c+1) mC (by omega)) ?_ ?_
   ·rw[YW,<-jA]
   ·simp[wy]
 ·have ζ:c=s.cells.length:=by simp at ζ;omega
  subst ζ;refine W.exit rfl ?_;(repeat (first|apply κ|(refine ν λη I=>?_;simp;(repeat (rw[δ];simp));apply I)));obtain⟨⟨OQ,uj,mh,qb⟩,e'⟩:∃B,B=uB s F s.cells.length:=⟨_,rfl⟩;rw[<-e'];refine W.fix (id:=0) (σ':=[]) (Nat.zero_le _) rfl (by simp) (by simp) rfl [(7,cQ F),(8,.Ψ [R OQ,R uj,R mh,a4 qb])] (by simp) ?_;have J:∀f∈F,f.cells.length<2 ^ 62/\∀i,i<=f.cells.length->ig f.cells (-1) i<2 ^ 62:=λf Φ=>⟨(b8.many f Φ).1,(b8.many f Φ).2 (-1)⟩;cases qb
  ·refine W.draw (A:=[]) Ι mixed λη I=>?_;simp;(repeat (rw[ba];simp));try rw[a']
   refine⟨bK (by kernel_rfl),I _ _ ?_⟩;refine aj rfl ?_;(repeat (first|apply κ|(refine ν λη I=>?_;simp;(repeat (rw[δ];simp));apply I)));refine W.drop (h:=0) (σ':=[]) (Nat.zero_le _) (Nat.zero_le _) (by simp) rfl [(2,R 0),(3,R 0),(4,R 0),(5,R 11)] (by simp) ?_;refine W.ret ⟨_,rfl,?_,rfl⟩;exact .of (by simp)
  ·refine W.draw (A:=[]) Ι mixed λη I=>?_;simp;(repeat (rw[ba];simp));try rw[a']
   refine fI (ay.p (XP F (by have:=b8.rv;omega) J b8.count) (aK.refl _) (by simp) (by simp)) ?_;simp;(repeat (rw[ba];simp));try rw[a']
   refine⟨bK (by kernel_rfl),I _ _ ?_⟩;by_cases q:mh=ja F
   ·refine aj (by simp[q]) ?_;(repeat (first|apply κ|(refine ν λη I=>?_;simp;(repeat (rw[δ];simp));apply I)));refine W.drop (h:=0) (σ':=[]) (Nat.zero_le _) (Nat.zero_le _) (by simp) rfl [(2,R 0),(3,R 0),(4,R 0),(5,R 11)] (by simp) ?_;refine W.ret ⟨_,rfl,?_,rfl⟩;exact .of (by simp[q])
   ·refine ah (by simp[q]) ?_;(repeat (first|apply κ|(refine ν λη I=>?_;simp;(repeat (rw[δ];simp));apply I)));refine W.draw (A:=[]) Ι mixed λη I=>?_;simp;(repeat (rw[ba];simp));try rw[a']
    refine⟨bK (by kernel_rfl),I _ _ ?_⟩;refine W.drop (h:=0) (σ':=[]) (Nat.zero_le _) (Nat.zero_le _) (by simp) rfl [(2,R OQ),(3,R uj),(4,R mh),(5,R 0)] (by simp) ?_;refine W.ret ⟨_,rfl,?_,rfl⟩;exact .of (by simp[q])
theorem Y3 (l:List Int) (ω:l.length<2 ^ 30) :
  ak Tryz.prog 85 [.ms 0 l.length 0 l.length] [.cells 3 1 (l.map R)] (λr s=>(∃e k,r=.sl e k (l.map R)/\(l≠[]->k=1))/\s=[.cells 3 1 (l.map R)]) (λ_ _=>False):=by
 refine ak.body Ι Tryz.func85 rfl rfl Tryz.ntmps85 rfl rfl (by simp) ?_;have j9:l.length<=4294967295:=by omega
 by_cases Θ:l=[]
 ·subst Θ;(repeat (first|apply κ|(refine ν λη I=>?_;simp;(repeat (rw[δ];simp));apply I)));(repeat apply κ);refine ν λη I=>?_;simp;(repeat (rw[δ];simp));intro j ε;apply I;by_cases xX:j=1
  ·refine aj (by simp[xX]) ?_;(repeat (first|apply κ|(refine ν λη I=>?_;simp;(repeat (rw[δ];simp));apply I)));exact W.ret ⟨_,rfl,⟨true,0,rfl,λh=>absurd rfl h⟩,rfl⟩
  ·refine ah (by simp[xX]) ?_
   repeat apply κ
   refine dw (A:=[5,7]) Ι λη I=>?_;simp;(repeat (rw[δ];simp));apply I;refine W.cut 1 (Nat.le_refl _) [(2,.sl false 1 [])] (by simp) (λid r bW μ=>?_) (λp ψ=>?_) ?_
   ·obtain rfl:id=0:=by omega
    simp at μ;subst μ;simp[eK]
   ·obtain rfl:p=(2,.sl false 1 []):=by simpa using ψ
    exact ed.own (id:=1) (t:=3) (Nat.le_refl _) rfl (by simp) (by simp)
   ·exact W.ret ⟨_,rfl,⟨false,1,rfl,λ_=>rfl⟩,rfl⟩
 ·(repeat (first|apply κ|(refine ν λη I=>?_;simp;(repeat (rw[δ];simp));apply I)));(repeat apply κ);refine ν λη I=>?_;simp;(repeat (rw[δ];simp[Θ]));apply I;refine ah rfl ?_
  repeat apply κ
  have kT:List.take l.length (l.map R)=l.map R:=List.take_of_length_le (by simp)
  have Y4:l.length<=4294967296:=by omega
  refine dw (A:=[5,7]) Ι λη I=>?_;simp;(repeat (rw[δ];simp[j9,Θ,kT,Y4]));apply I;have hb:∀e∈l.map R,∀a∈e.cells,au 1 a:=λe he a ξ=>by
   obtain⟨x,_,rfl⟩:=List.mem_map.1 he;simp[θ.cells] at ξ;subst ξ;simp
  refine W.cut 1 (Nat.le_refl _) [(2,.sl false 1 (l.map R))] (by simp) (λid r bW μ=>?_) (λp ψ=>?_) ?_
  ·obtain rfl:id=0:=by omega
   simp at μ;subst μ;exact hb
  ·obtain rfl:p=(2,.sl false 1 (l.map R)):=by simpa using ψ
   exact ed.own (id:=1) (t:=3) (Nat.le_refl _) rfl (by simp) hb
  ·exact W.ret ⟨_,rfl,⟨false,1,rfl,λ_=>rfl⟩,rfl⟩
end Go.TL
