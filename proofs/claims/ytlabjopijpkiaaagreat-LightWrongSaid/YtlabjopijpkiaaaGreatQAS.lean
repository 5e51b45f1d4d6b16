import Derived.Sort.LotA
import Derived.Test.YtlabjopijpkiaaaGreatQAN
import Derived.Test.YtlabjopijpkiaaaGreatQAP
import Derived.Test.YtlabjopijpkiaaaGreatQAR
set_option maxHeartbeats 16000000
set_option maxRecDepth 20000
set_option linter.unusedSectionVars false
set_option linter.unusedSimpArgs false
set_option linter.unusedVariables false
namespace Go.TL
open Go.Proofs
variable [bn]
abbrev jJ (n:Int):θ:=.z (.int .i32 n)
theorem Xb (l:List Int):sn (l.map jJ)=some l:=by
 induction l with
 | nil=>rfl
 | cons a l Δ=>simp[sn,Δ]
def uk (s:aR) (F:List Found) (lower:Bool) (eW:ByteArray->Int) (c:Nat):Int:=
 let l:=p5 F c lower
 if 1<l.length then 63 else if l.headD 0<0 then 45 else match s.ai[(l.headD 0).toNat]? with|some g=>eW g.name|none=>0
def oZ (s:aR) (F:List Found) (lower:Bool) (eW:ByteArray->Int) (c:Nat):List Int:=(List.range c).map (uk s F lower eW)
def um (s:aR) (F:List Found) (lower:Bool) (eW:ByteArray->Int):ByteArray×Int:=
 if(fh s true F).2.2=0 then(spell (oZ s F lower eW s.cells.length),0) else(⟨#[]⟩,(fh s true F).2.2)
structure NW (s:aR) (F:List Found) (lower:Bool) (eW:ByteArray->Int) (N:Nat):Prop where
 uo:F.length<2 ^ 20
 cells:∀f∈F,f.cells.length=s.cells.length/\∀c∈f.cells,c.length<2 ^ 20
 some:∀c,c<s.cells.length->j3 F c lower≠[]/\(j3 F c lower).length<=N/\p5 F c lower≠[]/\(p5 F c lower).length<2 ^ 30/\∀x∈p5 F c lower,x<s.ai.length
 name:∀g∈s.ai,(Conv.runesFrom g.name g.name.size 0 #[])[0]?=Option.some (.int .i32 (eW g.name))
theorem Xc (s:aR) (ο:s.small) (F:List Found) (gf:rj s F) (lower:Bool) (eW:ByteArray->Int) (N:Nat) (ck:N<2 ^ 20) (gi:Ii N) (aD:NW s F lower eW N) :
  az Tryz.prog 40 [d' s,bA lower] (.bu [nj (um s F lower eW).1,R (um s F lower eW).2]):=by
 refine ak.body Κ Tryz.func40 rfl rfl Tryz.ntmps40 rfl rfl (by simp) ?_;(repeat (first|apply κ|(refine ξ λη I=>?_;simp;(repeat (rw[δ];simp));apply I)));(repeat apply κ);refine c7 (A:=[6]) Κ λη I=>?_;simp;(repeat (rw[δ];simp));refine az.c (AF s ο true F gf) (aK.refl _) (by simp) (by simp) ?_;simp;(repeat (rw[δ];simp));apply I;by_cases b:(fh s true F).2.2=0
 case neg=>
  have e:um s F lower eW=(⟨#[]⟩,(fh s true F).2.2):=by unfold um;rw[if_neg b]
  rw[e];generalize (fh s true F).2.2=fz at b;(repeat (first|apply κ|(refine ξ λη I=>?_;simp;(repeat (rw[δ];simp));apply I)));refine al (by simp[b]) ?_;(repeat (first|apply κ|(refine ξ λη I=>?_;simp;(repeat (rw[δ];simp));apply I)));refine W.drop (h:=0) (σ':=[]) (Nat.zero_le _) (Nat.zero_le _) (by simp) rfl [(4,nj ⟨#[]⟩),(5,R fz)] (by simp) ?_;refine W.ret ⟨_,rfl,?_,rfl⟩;exact .refl _
 have e:fh s true F=(s,F,0):=by
  unfold fh at b ⊢;split at b
  ·rename_i h;simp at b;exact absurd b h
  ·split at b
   ·simp at b
   ·rename_i J γ;rw[if_neg J,if_neg γ]
 have Ζ:um s F lower eW=(spell (oZ s F lower eW s.cells.length),0):=by unfold um;rw[if_pos b]
 rw[Ζ,e];refine W.fix (id:=0) (σ':=[]) (Nat.zero_le _) rfl (by simp) (by simp) rfl [(1,bA lower),(6,.ad [aQ s.ai,aN s.ao,bl s.cells]),(7,cR F),(8,R 0)] (by simp) ?_;(repeat (first|apply κ|(refine ξ λη I=>?_;simp;(repeat (rw[δ];simp));apply I)));refine aj rfl ?_;(repeat (first|apply κ|(refine ξ λη I=>?_;simp;(repeat (rw[δ];simp));apply I)));have im:s.cells.length<2 ^ 30:=ο.2.2.1;refine W.iter (λc:Nat=>c<=s.cells.length) (λc=>[(1,bA lower),(6,.ad [aQ s.ai,aN s.ao,bl s.cells]),(7,cR F),(9,eQ ((oZ s F lower eW c).map jJ)),(25,R s.cells.length),(26,R c)])
  (λc=>aL 21 1 ((oZ s F lower eW c).map jJ)) (λc=>s.cells.length-c) 0 (Nat.zero_le _) rfl (by simp[oZ,p1]) (λc kl Δ=>?_)
 (repeat (first|apply κ|(refine ξ λη I=>?_;simp;(repeat (rw[δ];simp));apply I)));refine W.en rfl (λζ=>?_) (λζ=>?_)
 ·have a4:c<s.cells.length:=by simpa using ζ
  obtain⟨J,γ,π,Μ,aB⟩:=aD.some c a4;obtain⟨af,bg⟩:∃af,af=oZ s F lower eW c:=⟨_,rfl⟩;have yd:af.length=c:=by rw[bg];simp[oZ]
  have dc:oZ s F lower eW (c+1)=af++[uk s F lower eW c]:=by rw[bg];unfold oZ;rw[List.range_succ,List.map_append];rfl
  refine W.to (σ':=aL 21 1 (af.map jJ)) (env':=[(1,bA lower),(6,.ad [aQ s.ai,aN s.ao,bl s.cells]),(7,cR F),(9,eQ (af.map jJ)),(25,R s.cells.length),(26,R c)]) ?_ (by rw[bg]) (by rw[bg];simp);(repeat (first|apply κ|(refine ξ λη I=>?_;simp;(repeat (rw[δ];simp));apply I)));(repeat apply κ);refine ξ λη I=>?_;simp;(repeat (rw[δ];simp));refine az.c (W' F c lower aD.uo (λf Τ=>⟨by rw[(aD.cells f Τ).1];exact a4,(aD.cells f Τ).2⟩) N ck gi J γ) (aK.refl _) (by simp) (by simp) ?_;simp;(repeat (rw[δ];simp));apply I;have mB:af.length<=4294967295:=by omega
  obtain⟨l,Α⟩:∃l,l=p5 F c lower:=⟨_,rfl⟩;have ye:uk s F lower eW c=if 1<l.length then 63 else if l.headD 0<0 then 45 else match s.ai[(l.headD 0).toNat]? with|some g=>eW g.name|none=>0:=by rw[Α];rfl
  rw[<-Α] at π Μ aB ⊢;clear Α bg;(repeat (first|apply κ|(refine ξ λη I=>?_;simp;(repeat (rw[δ];simp));apply I)));by_cases q:1<l.length
  ·have μ:uk s F lower eW c=63:=by rw[ye,if_pos q]
   refine al (by simp;omega) ?_
   repeat apply κ
   refine W.fC (A:=[57]) Κ [(1,bA lower),(6,.ad [aQ s.ai,aN s.ao,bl s.cells]),(7,cR F),(9,eQ ((af++[63]).map jJ)),(25,R s.cells.length),(26,R c)] (aL 21 1 ((af++[63]).map jJ)) ?_ (by
    rw[List.map_append];by_cases Η:af.map jJ=[]
    ·rw[Η,p1,h6];(try simp);(repeat (rw[δ];simp));(try simp[]);simp[aL,eQ]
    ·rw[ri Η,c8 Η];(try simp);(repeat (rw[δ];simp));(try simp[]);simp[sH,yc,mB])
   (repeat (first|apply κ|(refine ξ λη I=>?_;simp;(repeat (rw[δ];simp));apply I)));refine W.to (Δ (c+1) a4 (by omega)) ?_ ?_
   ·simp only[dc,μ,List.map_append,List.map_cons,List.map_nil]
   ·rw[dc,μ];simp[e6 a4 (show s.cells.length<2 ^ 62 by omega)]
  ·obtain⟨x,U⟩:∃x,l=[x]:=by
    match l,π,q with
    | [x],_,_=>exact⟨x,rfl⟩
    | x::y::z,_,q=>simp at q
   subst U;refine aj (by simp) ?_;(repeat (first|apply κ|(refine ξ λη I=>?_;simp;(repeat (rw[δ];simp));apply I)));by_cases g:x<0
   ·have μ:uk s F lower eW c=45:=by rw[ye];simp[g]
    refine al (by simp[g]) ?_;(repeat (first|apply κ|(refine ξ λη I=>?_;simp;(repeat (rw[δ];simp));apply I)));refine W.fC (A:=[57]) Κ [(1,bA lower),(6,.ad [aQ s.ai,aN s.ao,bl s.cells]),(7,cR F),(9,eQ ((af++[45]).map jJ)),(25,R s.cells.length),(26,R c)] (aL 21 1 ((af++[45]).map jJ)) ?_ (by
     rw[List.map_append];by_cases Η:af.map jJ=[]
     ·rw[Η,p1,h6];(try simp);(repeat (rw[δ];simp));(try simp[]);simp[aL,eQ]
     ·rw[ri Η,c8 Η];(try simp);(repeat (rw[δ];simp));(try simp[]);simp[sH,yc,mB])
    (repeat (first|apply κ|(refine ξ λη I=>?_;simp;(repeat (rw[δ];simp));apply I)));refine W.to (Δ (c+1) a4 (by omega)) ?_ ?_
    ·simp only[dc,μ,List.map_append,List.map_cons,List.map_nil]
    ·rw[dc,μ];simp[e6 a4 (show s.cells.length<2 ^ 62 by omega)]
   ·obtain⟨k,rfl⟩:∃k:Nat,x=k:=⟨x.toNat,by omega⟩;have χ:k<s.ai.length:=by have:=aB (k:Int) (by simp);omega
    have μ:uk s F lower eW c=eW s.ai[k].name:=by rw[ye];simp[g,χ]
    have kL:=aD.name _ (List.getElem_mem χ)
    have AH:∀h:0<(Conv.runesFrom s.ai[k].name s.ai[k].name.size 0 #[]).size,(Conv.runesFrom s.ai[k].name s.ai[k].name.size 0 #[])[0]'h=.int .i32 (eW s.ai[k].name):=λh=>by
     rw[e9 h] at kL;exact Option.some.inj kL
    have Ej:0<(Conv.runesFrom s.ai[k].name s.ai[k].name.size 0 #[]).size:=(Array.getElem?_eq_some_iff.1 kL).1;refine aj (by simp) ?_;refine W.draw (A:=[]) Κ mixed λη I=>?_;simp;(repeat (rw[bD];simp[χ,kL,Ej]));try rw[bC]
    refine⟨bW (by kernel_rfl),I _ _ ?_⟩
    repeat apply κ
    refine W.forget [(1,bA lower),(6,.ad [aQ s.ai,aN s.ao,bl s.cells]),(7,cR F),(9,eQ (af.map jJ)),(11,jJ (eW s.ai[k].name)),(25,R s.cells.length),(26,R c)] (by simp[AH Ej]) ?_;refine W.fC (A:=[57]) Κ [(1,bA lower),(6,.ad [aQ s.ai,aN s.ao,bl s.cells]),(7,cR F),(9,eQ ((af++[(eW s.ai[k].name)]).map jJ)),(25,R s.cells.length),(26,R c)] (aL 21 1 ((af++[(eW s.ai[k].name)]).map jJ)) ?_ (by
     rw[List.map_append];by_cases Η:af.map jJ=[]
     ·rw[Η,p1,h6];(try simp);(repeat (rw[δ];simp));(try simp[]);simp[aL,eQ]
     ·rw[ri Η,c8 Η];(try simp);(repeat (rw[δ];simp));(try simp[]);simp[sH,yc,mB])
    (repeat (first|apply κ|(refine ξ λη I=>?_;simp;(repeat (rw[δ];simp));apply I)));refine W.to (Δ (c+1) a4 (by omega)) ?_ ?_
    ·simp only[dc,μ,List.map_append,List.map_cons,List.map_nil]
    ·rw[dc,μ];simp[e6 a4 (show s.cells.length<2 ^ 62 by omega)]
 ·have ζ:c=s.cells.length:=by simp at ζ;omega
  subst ζ;refine W.exit rfl ?_;(repeat (first|apply κ|(refine ξ λη I=>?_;simp;(repeat (rw[δ];simp));apply I)));obtain⟨af,bg⟩:∃af,af=oZ s F lower eW s.cells.length:=⟨_,rfl⟩;rw[<-bg];refine W.to (σ':=aL 21 1 (af.map jJ)) (env':=[(9,eQ (af.map jJ))]) ?_ rfl (by simp);by_cases Η:af.map jJ=[]
  ·have gK:af=[]:=by simpa using Η
   rw[Η,p1,h6,gK];have hm:sn []=some []:=rfl;(repeat apply κ);refine ξ λη I=>?_;simp;(repeat (rw[δ];simp[hm]));apply I;refine W.ret ⟨_,rfl,?_,rfl⟩;exact .refl _
  ·have hm:sn (List.take af.length (af.map jJ))=some af:=by
    rw[List.take_of_length_le (by simp)];exact Xb af
   rw[ri Η,c8 Η];(repeat apply κ);refine ξ λη I=>?_;simp;(repeat (rw[δ];simp[hm]));apply I;refine W.drop (h:=0) (σ':=[]) (Nat.zero_le _) (Nat.zero_le _) (by simp) rfl [(4,nj (spell af)),(5,R 0)] (by simp) ?_;refine W.ret ⟨_,rfl,?_,rfl⟩;exact .refl _
theorem NX {α:Type} [Inhabited α] {lt:α->α->Bool} (ο:Go.Sort.SWO lt) (ν:∀x y,lt x y=false->lt y x=false->x=y) (l:List α):(Go.Sort.insertionSort lt l.toArray 0 l.length).toList=l.mergeSort (λx y=>!lt y x):=by
 obtain⟨J,γ⟩:=Go.Sort.insertionSort_holds (lt:=lt) ο l.toArray 0 l.length (Nat.zero_le _) (by simp);exact Go.Sort.sorted_unique_holds (lt:=lt) ο ν l.toArray _ (by simpa using J) (by simpa using γ)
theorem Xd (x y:Int) (h:Go.Sort.ltInt x y=false) (k:Go.Sort.ltInt y x=false):x=y:=by
 simp[Go.Sort.ltInt] at h k;omega
theorem Xe:Ii 12:=λl Α=>by
 have h:=WE l.toArray l.length (by simp) Α;rw[NX Go.Sort.swo_ltInt Xd l] at h;have e:(λx y:Int=>!Go.Sort.ltInt y x)=λx y=>decide (x<=y):=by
  funext x y;rw[Bool.eq_iff_iff];simp[Go.Sort.ltInt]
 rw[e] at h;exact h
theorem sL (x y:Int×Int):ax nm x y=decide (x.1<y.1\/(x.1=y.1/\x.2<y.2)):=by
 unfold ax nm;simp only[oU,oT];by_cases J:x.1<y.1
 ·simp[J]
 ·by_cases γ:y.1<x.1
  ·have:¬x.1=y.1:=by omega
   simp[J,γ,this]
  ·have π:x.1=y.1:=by omega
   by_cases Μ:x.2<y.2
   ·simp[π,Μ]
   ·by_cases aB:y.2<x.2
    ·simp[π,Μ,aB]
    ·simp[π,Μ,aB]
theorem yf:Go.Sort.SWO (ax nm) where
 irrefl x:=by rw[sL];simp
 trans x y z h k:=by
  rw[sL] at *;simp at *;omega
 ntrans x y z h k:=by
  rw[sL] at *;simp at *;omega
theorem NY (x y:Int×Int) (h:ax nm x y=false) (k:ax nm y x=false):x=y:=by
 rw[sL] at *;simp at h k;apply Prod.ext<;>omega
abbrev kT (x y:Int×Int):Bool:=!ax nm y x
theorem Xf {l m:List (Int×Int)} (ω:l.Perm m) (hm:m.Pairwise λx y=>x.1<y.1\/(x.1=y.1/\x.2<y.2)):l.mergeSort kT=m:=by
 have Ik:∀a b c:Int×Int,kT a b=true->kT b c=true->kT a c=true:=λa b c h k=>by
  simp only[kT,sL] at *;simp at *;omega
 have Il:∀a b:Int×Int,(kT a b||kT b a)=true:=λa b=>by
  simp only[kT,sL];simp;omega
 have s1:=List.pairwise_mergeSort (le:=kT) Ik Il l
 have dP:(l.mergeSort kT).Perm m:=(List.mergeSort_perm l kT).trans ω;refine List.Perm.eq_of_pairwise (le:=λa b=>kT a b=true) (λa b _ _ h k=>?_) s1 (hm.imp λ{a b} h=>?_) dP
 ·simp only[kT,sL] at h k;simp at h k;apply Prod.ext<;>omega
 ·simp only[kT,sL];simp;omega
theorem Xg (an:θ) (bR:av 0 an):az Tryz.prog 234 [.sl true 0 [],R 0,R 0,an] (.bu []):=by
 refine ak.body Κ Tryz.func234 rfl rfl Tryz.ntmps234 rfl rfl (by simp) ?_;(repeat (first|apply κ|(refine ξ λη I=>?_;simp;(repeat (rw[δ];simp));apply I)));refine .loop ?_;(repeat (first|apply κ|(refine ξ λη I=>?_;simp;(repeat (rw[δ];simp));apply I)));refine aj rfl ?_;refine W.exit rfl ?_;exact W.nil ⟨_,rfl,cC.refl _,rfl⟩
theorem Xh (lim:Nat) (an:θ) (bR:av 0 an):az Tryz.prog 211 [.sl true 0 [],R 0,R 0,R lim,an] (.bu []):=by
 refine ak.body Κ Tryz.func211 rfl rfl Tryz.ntmps211 rfl rfl (by simp) ?_;(repeat (first|apply κ|(refine ξ λη I=>?_;simp;(repeat (rw[δ];simp));apply I)));refine .loop ?_;(repeat (first|apply κ|(refine ξ λη I=>?_;simp;(repeat (rw[δ];simp));apply I)));refine al rfl ?_;(repeat apply κ);refine ξ λη I=>?_;simp;(repeat (rw[δ];simp));refine az.c (Xg an bR) (aK.refl _) (by simp[bR]) (by simp) ?_;simp;(repeat (rw[δ];simp));apply I;exact W.ret ⟨_,rfl,cC.refl _,rfl⟩
theorem Xi (an:θ) (bR:av 0 an):az Tryz.prog 173 [.sl true 0 [],an] (.bu []):=by
 refine ak.body Κ Tryz.func173 rfl rfl Tryz.ntmps173 rfl rfl (by simp) ?_;have Ζ:IntKind.u64.wrap (0:Int)=0:=by decide
 (repeat (first|apply κ|(refine ξ λη I=>?_;simp;(repeat (rw[δ];simp));apply I)));(repeat apply κ);refine ξ λη I=>?_;simp;(repeat (rw[δ];simp[Ζ]));refine az.c (v3 0 (by omega)) (aK.refl _) (by simp) (by simp) ?_;simp;(repeat (rw[δ];simp));refine az.c (Xh (Go.Sort.bitsLen 0) an bR) (aK.refl _) (by simp[bR]) (by simp) ?_;simp;(repeat (rw[δ];simp));apply I;exact W.nil ⟨_,rfl,cC.refl _,rfl⟩
theorem Xj (an:θ) (bR:av 0 an):az Tryz.prog 217 [.sl true 0 [],R 0,R 0,an] (.bu []):=by
 refine ak.body Κ Tryz.func217 rfl rfl Tryz.ntmps217 rfl rfl (by simp) ?_;(repeat (first|apply κ|(refine ξ λη I=>?_;simp;(repeat (rw[δ];simp));apply I)));refine .loop ?_;(repeat (first|apply κ|(refine ξ λη I=>?_;simp;(repeat (rw[δ];simp));apply I)));refine aj rfl ?_;refine W.exit rfl ?_;exact W.nil ⟨_,rfl,cC.refl _,rfl⟩
theorem Xk (lim:Nat) (an:θ) (bR:av 0 an):az Tryz.prog 182 [.sl true 0 [],R 0,R 0,R lim,an] (.bu []):=by
 refine ak.body Κ Tryz.func182 rfl rfl Tryz.ntmps182 rfl rfl (by simp) ?_;(repeat (first|apply κ|(refine ξ λη I=>?_;simp;(repeat (rw[δ];simp));apply I)));refine .loop ?_;(repeat (first|apply κ|(refine ξ λη I=>?_;simp;(repeat (rw[δ];simp));apply I)));refine al rfl ?_;(repeat apply κ);refine ξ λη I=>?_;simp;(repeat (rw[δ];simp));refine az.c (Xj an bR) (aK.refl _) (by simp[bR]) (by simp) ?_;simp;(repeat (rw[δ];simp));apply I;exact W.ret ⟨_,rfl,cC.refl _,rfl⟩
theorem Xl (an:θ) (bR:av 0 an):az Tryz.prog 147 [.sl true 0 [],an] (.bu []):=by
 refine ak.body Κ Tryz.func147 rfl rfl Tryz.ntmps147 rfl rfl (by simp) ?_;have Ζ:IntKind.u64.wrap (0:Int)=0:=by decide
 (repeat (first|apply κ|(refine ξ λη I=>?_;simp;(repeat (rw[δ];simp));apply I)));(repeat apply κ);refine ξ λη I=>?_;simp;(repeat (rw[δ];simp[Ζ]));refine az.c (v3 0 (by omega)) (aK.refl _) (by simp) (by simp) ?_;simp;(repeat (rw[δ];simp));refine az.c (Xk (Go.Sort.bitsLen 0) an bR) (aK.refl _) (by simp[bR]) (by simp) ?_;simp;(repeat (rw[δ];simp));apply I;exact W.nil ⟨_,rfl,cC.refl _,rfl⟩
theorem eE.struct {h id k:Nat} {σ:List Row} {t:TypeId} {l cs:List θ} (bS:h<=id) (bL:σ[id]?=some (.cells t k [.aW l])) (hlen:cs.length=l.length) (H:∀(x:Nat) (a b9:θ),l[x]?=some a->cs[x]?=some b9->eE h σ a b9):eE h σ (.Ψ id 1 0 0) (.ad cs):=
 .Ψ bS bL rfl rfl (by simp[θ.cells,hlen]) λx a b9 J γ=>H x a b9 (by simpa[θ.cells] using J) γ
abbrev eH (a b c:θ):Row:=.cells 26 3 [.aW [a,b,c]]
abbrev dB (r:Int×Int):θ×θ:=(aA r,bA true)
theorem Xm (x y:Int×Int):aeqv bk 112 (aA x) (aA y)=some (decide (x=y)):=by
 simp[aeqv,jD,mm];rw[Bool.eq_iff_iff];simp[Prod.ext_iff]
theorem Xn (r:Int×Int):∀(l:List (Int×Int)) (n:Nat),r∉l->hL bk 112 (aA r) (l.map dB) n=some none:=by
 intro l
 induction l with
 | nil=>intro n _;rfl
 | cons x l Δ=>
  intro n h;simp only[List.map_cons,hL];have J:¬r=x:=λe=>h (by simp[e]);have:=Xm r x;rw[this,decide_eq_false J];exact Δ (n+1) λhm=>h (by simp[hm])
def lL (i j:Nat):List (Int×Int):=(List.range j).map λy:Nat=>((i:Int)-1,(y:Int)-1)
def n8 (n i:Nat):List (Int×Int):=(List.range i).flatMap λx=>lL x (n+1)
def yg (n:Nat):List (Int×Int):=n8 n (n+1)
theorem NZ (i j:Nat):lL i (j+1)=lL i j++[((i:Int)-1,(j:Int)-1)]:=by simp[lL,List.range_succ]
theorem Im (n i:Nat):n8 n (i+1)=n8 n i++lL i (n+1):=by simp[n8,List.range_succ]
theorem Ek {i j:Nat} {r:Int×Int} (h:r∈lL i j):r.1=(i:Int)-1/\r.2<(j:Int)-1:=by
 unfold lL at h;obtain⟨y,Ο,rfl⟩:=List.mem_map.1 h;have:=List.mem_range.1 Ο;exact⟨rfl,by simp;omega⟩
theorem N0 {n i:Nat} {r:Int×Int} (h:r∈n8 n i):r.1<(i:Int)-1:=by
 unfold n8 at h;obtain⟨x,U,γ⟩:=List.mem_flatMap.1 h;have:=List.mem_range.1 U;have:=(Ek γ).1;omega
def jK (s:aR) (p:Int×Int) (c:Nat):List (Int×Int):=(yg s.ai.length).filter λr=>s.re p r c
theorem Xo (i j:Nat):(lL i j).Pairwise λx y=>x.1<y.1\/(x.1=y.1/\x.2<y.2):=by
 induction j with
 | zero=>simp[lL]
 | succ j Δ=>
  rw[NZ,List.pairwise_append];refine⟨Δ,by simp,λa ν b hb=>?_⟩;simp at hb;subst hb;have:=Ek ν;exact .inr ⟨this.1,by simpa using this.2⟩
theorem Xp (n i:Nat):(n8 n i).Pairwise λx y=>x.1<y.1\/(x.1=y.1/\x.2<y.2):=by
 induction i with
 | zero=>simp[n8]
 | succ i Δ=>
  rw[Im,List.pairwise_append];refine⟨Δ,Xo _ _,λa ν b hb=>.inl ?_⟩;have:=N0 ν;have:=(Ek hb).1;omega
theorem Xq (s:aR) (p:Int×Int) (c:Nat):(jK s p c).Pairwise λx y=>x.1<y.1\/(x.1=y.1/\x.2<y.2):=(Xp _ _).filter _
def El (N:Nat):Prop:=∀(l:List (Int×Int)),l.length<=N->ak Tryz.prog 173 [.ms 0 l.length 0 l.length,.fn (.func 174) [] []] [.cells 112 2 (l.map aA)] (λr s=>r=.bu []/\s=[.cells 112 2 ((l.mergeSort kT).map aA)]) (λ_ _=>False)
theorem Xr:El 12:=λl Α=>by
 have h:=Wz l.toArray l.length (by simp) Α (.fn (.func 174) [] []) nm (by simp[lE]) (λx y=>az.p (ND x y) (aK.refl _) (by simp) (by simp));rw[NX yf NY l] at h;exact h
def kr (q:Int×Int->Bool) (n i j:Nat):List (Int×Int):=(n8 n i++lL i j).filter q
theorem Xs {q:Int×Int->Bool} {n:Nat}:kr q n 0 0=[]:=by simp[kr,n8,lL]
theorem Xt {q:Int×Int->Bool} {n i:Nat}:kr q n i (n+1)=kr q n (i+1) 0:=by simp[kr,Im,lL]
theorem Xu {q:Int×Int->Bool} {n i j:Nat}:kr q n i (j+1)=kr q n i j++if q ((i:Int)-1,(j:Int)-1) then [((i:Int)-1,(j:Int)-1)] else []:=by
 unfold kr;rw[NZ,<-List.append_assoc,List.filter_append];simp[List.filter_cons]
theorem N1 {q:Int×Int->Bool} {n:Nat}:kr q n (n+1) 0=(yg n).filter q:=by simp[kr,lL,yg]
theorem Xv {q:Int×Int->Bool} {n i j:Nat}:((i:Int)-1,(j:Int)-1)∉kr q n i j:=by
 unfold kr;rw[List.mem_filter,List.mem_append];rintro⟨h|h,_⟩
 ·have:=N0 h;simp at this
 ·have:=(Ek h).2;simp at this
def np (l:List θ):θ:=if l.isEmpty then .sl true 0 [] else .ms 3 l.length 0 l.length
def cZ (l:List θ):List Row:=if l.isEmpty then [] else [.cells 111 1 l]
abbrev hA:Row:=.cells 110 3 [.aW [R 0,R 0,.sl true 0 []]]
abbrev gC (p:Int×Int) (L:List θ):Row:=.cells 110 3 [.aW [R p.1,R p.2,np L]]
def aX (id:Nat) (l:List θ):θ:=if l.isEmpty then .sl true 0 [] else .ms id l.length 0 l.length
theorem fi {id:Nat} {l:List θ} (h:l≠[]):aX id l=.ms id l.length 0 l.length:=by unfold aX;rw[if_neg (by simpa using h)]
theorem Xw {l:List θ}:av ((cZ l).length+3) (np l):=by
 unfold np cZ;cases l.isEmpty<;>simp[ng]
theorem Xx {h:Nat} {l:List θ} (hb:∀e∈l,∀a∈e.cells,av 0 a):∀r∈cZ l,ek h r:=by
 intro r μ;unfold cZ at μ;cases Α:l.isEmpty with
 | true=>rw[Α] at μ;simp at μ
 | false=>
  rw[Α] at μ;simp at μ;subst μ;exact λe he a ν=>(hb e he a ν).mono (Nat.zero_le _)
theorem ek.mono {h cW:Nat} {r:Row} (hb:ek h r) (aS:h<=cW):ek cW r:=by
 cases r with
 | cells t k l=>exact λe he a ν=>(hb e he a ν).mono aS
 | map es=>exact λe he=>⟨(hb e he).1.mono aS,(hb e he).2.mono aS⟩
 | iter m left cur=>exact⟨Nat.lt_of_lt_of_le hb.1 aS,λe he=>⟨(hb.2.1 e he).1.mono aS,(hb.2.1 e he).2.mono aS⟩,λe he=>⟨(hb.2.2 e he).1.mono aS,(hb.2.2 e he).2.mono aS⟩⟩
 | dead=>trivial
theorem AI {h id:Nat} {l:List θ} (aS:l≠[]->id<h):av h (aX id l):=by
 by_cases Α:l=[]
 ·subst Α;unfold aX;simp
 ·rw[fi Α];exact ng.2 (aS Α)
theorem N2 {α:Type} (l:List α) (i:Nat) (h:i<l.length):(l[i]::l.eraseIdx i).Perm l:=by
 induction l generalizing i with
 | nil=>simp at h
 | cons a l Δ=>
  cases i with
  | zero=>exact .refl _
  | succ i=>
   simp only[List.getElem_cons_succ,List.eraseIdx_cons_succ];exact(List.Perm.swap _ _ _).trans (.cons a (Δ i (by simpa using h)))
theorem p6 {h id k:Nat} {t:TypeId} {l:List θ} {σ:List Row} (bS:h<=id) (μ:l≠[]->σ[id]?=some (.cells t k l)) (hb:∀e∈l,∀a∈e.cells,av h a):eE h σ (aX id l) (dk k l):=by
 by_cases Α:l=[]
 ·subst Α;exact .low (by unfold aX;simp)
 ·have e:dk k l=.sl false k l:=by unfold dk;rw[if_neg (by simpa using Α)]
  rw[fi Α,e];exact .own bS (μ Α) rfl hb
theorem yh (k:Nat) (m:List θ):∃b kk l,dk k m=.sl b kk l:=by
 unfold dk;split
 ·exact⟨_,_,_,rfl⟩
 ·exact⟨_,_,_,rfl⟩
theorem N3 {α β:Type} (f:α->β) (l:List α) (i:Nat):(l.map f).eraseIdx i=(l.eraseIdx i).map f:=by
 induction l generalizing i with
 | nil=>rfl
 | cons a l Δ=>cases i<;>simp[Δ]
theorem Xy (s:aR) (ο:s.small) (Υ:s.ai.length<2 ^ 20) (p:Int×Int) (hv:∀c∈s.cells,∀x∈c,0<=x.cV/\x.cV<s.ao.length) (N:Nat) (ck:N<2 ^ 20) (gi:El N) (hle:∀c,c<s.cells.length->(jK s p c).length<=N) :
  az Tryz.prog 143 [d' s,aA p] (db ⟨p.1,p.2,(List.range s.cells.length).map (jK s p)⟩):=by
 refine ak.body Κ Tryz.func143 rfl rfl Tryz.ntmps143 rfl rfl (by simp) ?_
 repeat apply κ
 refine c7 (A:=[4]) Κ λη I=>?_;simp;(repeat (rw[δ];simp));apply I
 repeat apply κ
 refine c7 (A:=[5]) Κ λη I=>?_;simp;(repeat (rw[δ];simp));apply I
 repeat apply κ
 (repeat apply κ);refine ξ λη I=>?_;simp;(repeat (rw[δ];simp));apply I;(repeat (first|apply κ|(refine ξ λη I=>?_;simp;(repeat (rw[δ];simp));apply I)));have im:s.cells.length<2 ^ 30:=ο.2.2.1;refine W.iter (λc:Nat=>c<=s.cells.length) (λc=>[(2,.ad [aQ s.ai,aN s.ao,bl s.cells]),(3,.ad [R p.1,R p.2]),(4,.Ψ 0 1 0 0),(5,.Ψ 1 1 0 0),(6,.mp 2),(19,R s.cells.length),(20,R c)])
  (λc=>hA::gC p ((List.range c).map λc=>dk 2 ((jK s p c).map aA))::.map []::cZ ((List.range c).map λc=>dk 2 ((jK s p c).map aA))) (λc=>s.cells.length-c) 0 (Nat.zero_le _) (by simp[np,cZ]) (by simp) (λc ζ Δ=>?_)
 obtain⟨L,aD⟩:∃L,L=(List.range c).map λc=>dk 2 ((jK s p c).map aA):=⟨_,rfl⟩;refine W.to (σ':=hA::gC p L::.map []::cZ L) (env':=[(2,.ad [aQ s.ai,aN s.ao,bl s.cells]),(3,.ad [R p.1,R p.2]),(4,.Ψ 0 1 0 0),(5,.Ψ 1 1 0 0),(6,.mp 2),(19,R s.cells.length),(20,R c)]) ?_ (by rw[aD]) (by simp);(repeat (first|apply κ|(refine ξ λη I=>?_;simp;(repeat (rw[δ];simp));apply I)));refine W.en rfl (λζ=>?_) (λζ=>?_)
 ·have a4:c<s.cells.length:=by simpa using ζ
  (repeat (first|apply κ|(refine ξ λη I=>?_;simp;(repeat (rw[δ];simp));apply I)));obtain⟨n,Ι⟩:∃n,n=s.ai.length:=⟨_,rfl⟩;have qR:n<2 ^ 20:=by omega
  obtain⟨q,Χ⟩:∃q:Int×Int->Bool,q=λr=>s.re p r c:=⟨_,rfl⟩;have sM:∀e∈L,∀a∈e.cells,av 0 a:=by
   rw[aD];intro e he a ν;obtain⟨x,_,rfl⟩:=List.mem_map.1 he;unfold dk at ν;split at ν<;>simp[θ.cells] at ν<;>subst ν<;>simp
  have fx:∀(M:List (Int×Int)) (h:Nat),ek h (.map (M.map dB)):=λM h e he=>by
   obtain⟨x,_,rfl⟩:=List.mem_map.1 he;simp
  have jU:∀M:List (Int×Int),∀r∈hA::gC p L::.map (M.map dB)::cZ L,ek (hA::gC p L::.map (M.map dB)::cZ L).length r:=λM r μ=>by
   simp only[List.mem_cons] at μ;rcases μ with rfl|rfl|rfl|μ
   ·simp[ek,θ.cells]
   ·simp[ek,θ.cells];exact Xw
   ·exact fx M _
   ·exact Xx sM r μ
  refine W.iter (λi:Nat=>i<=n+1) (λi=>[(2,.ad [aQ s.ai,aN s.ao,bl s.cells]),(3,.ad [R p.1,R p.2]),(4,.Ψ 0 1 0 0),(5,.Ψ 1 1 0 0),(6,.mp 2),(19,R s.cells.length),(20,R c),(7,R c),(8,R ((i:Int)-1))])
   (λi=>hA::gC p L::.map ((kr q n i 0).map dB)::cZ L) (λi=>n+1-i) 0 (Nat.zero_le _) (by rw[Xs];rfl) (by simp) (λi hi eg=>?_)
  (repeat (first|apply κ|(refine ξ λη I=>?_;simp;(repeat (rw[δ];simp));apply I)));by_cases bb:i<n+1
  ·refine al (by simp[<-Ι];omega) ?_;(repeat (first|apply κ|(refine ξ λη I=>?_;simp;(repeat (rw[δ];simp));apply I)));refine W.iter (λj:Nat=>j<=n+1) (λj=>[(2,.ad [aQ s.ai,aN s.ao,bl s.cells]),(3,.ad [R p.1,R p.2]),(4,.Ψ 0 1 0 0),(5,.Ψ 1 1 0 0),(6,.mp 2),(19,R s.cells.length),(20,R c),(7,R c),(8,R ((i:Int)-1)),(9,R ((j:Int)-1))])
    (λj=>hA::gC p L::.map ((kr q n i j).map dB)::cZ L) (λj=>n+1-j) 0 (Nat.zero_le _) rfl (by simp) (λj ε lM=>?_)
   (repeat (first|apply κ|(refine ξ λη I=>?_;simp;(repeat (rw[δ];simp));apply I)));by_cases e3:j<n+1
   ·refine al (by simp[<-Ι];omega) ?_
    repeat apply κ
    obtain⟨M,cd⟩:∃M,M=kr q n i j:=⟨_,rfl⟩;refine W.to (σ':=hA::gC p L::.map (M.map dB)::cZ L) (env':=[(2,.ad [aQ s.ai,aN s.ao,bl s.cells]),(3,.ad [R p.1,R p.2]),(4,.Ψ 0 1 0 0),(5,.Ψ 1 1 0 0),(6,.mp 2),(19,R s.cells.length),(20,R c),(7,R c),(8,R ((i:Int)-1)),(9,R ((j:Int)-1))]) ?_ (by rw[cd]) (by simp);have Xz:hL bk 112 (.aW [R ((i:Int)-1),R ((j:Int)-1)]) (M.map dB) 0=some none:=Xn _ M 0 (by rw[cd];exact Xv);have kD:∀es,nW (hA::gC p L::.map es::cZ L) 2=true:=λes=>by unfold cZ;cases L.isEmpty<;>simp[nW]
    refine c7 (A:=[10]) Κ λη I=>?_;simp;(repeat (rw[δ];simp));apply I;refine W.nn (σ0:=hA::gC p L::.map (M.map dB)::cZ L) (Nat.zero_le _) (jU M) (by simp) [(10,.ad [R ((i:Int)-1),R ((j:Int)-1)]),(2,.ad [aQ s.ai,aN s.ao,bl s.cells]),(3,.ad [R p.1,R p.2]),(4,.Ψ 0 1 0 0),(5,.Ψ 1 1 0 0),(6,.mp 2),(19,R s.cells.length),(20,R c),(7,R c),(8,R ((i:Int)-1)),(9,R ((j:Int)-1))] (by simp[hM,ss]) ?_;have o0:=gl (show j<2 ^ 62 by omega);(repeat apply κ);refine ξ λη I=>?_;simp;(repeat (rw[δ];simp));refine az.c (Wr s ο p ((i:Int)-1,(j:Int)-1) c a4 (hv _ (List.getElem_mem a4)) (by simp;omega) (by simp;omega)) (aK.refl _) (by simp) (by simp) ?_;simp;(repeat (rw[δ];simp));apply I;have XA:s.re p ((i:Int)-1,(j:Int)-1) c=q ((i:Int)-1,(j:Int)-1):=by rw[Χ]
    rw[XA];have dc:=Xu (q:=q) (n:=n) (i:=i) (j:=j);cases N4:q ((i:Int)-1,(j:Int)-1)
    ·refine aj rfl ?_;(repeat (first|apply κ|(refine ξ λη I=>?_;simp;(repeat (rw[δ];simp[o0]));apply I)));rw[N4] at dc;refine W.to (lM (j+1) (by omega) (by omega)) ?_ ?_
     ·rw[dc,cd];simp
     ·simp
    ·refine al rfl ?_
     repeat apply κ
     refine ξ λη I=>?_;simp;(repeat (rw[δ];simp[Xz,kD,-nW]));apply I;(repeat (first|apply κ|(refine ξ λη I=>?_;simp;(repeat (rw[δ];simp[o0]));apply I)));rw[N4] at dc;refine W.to (lM (j+1) (by omega) (by omega)) ?_ ?_
     ·rw[dc,cd];simp
     ·simp
   ·refine aj (by simp[<-Ι];omega) ?_;refine W.exit rfl ?_;have v':j=n+1:=by omega
    subst v';(repeat (first|apply κ|(refine ξ λη I=>?_;simp;(repeat (rw[δ];simp));apply I)));refine W.to (eg (i+1) (by omega) (by omega)) ?_ ?_
    ·rw[Xt]
    ·have:=gl (show i<2 ^ 62 by omega);simp[this]
  ·refine aj (by simp[<-Ι];omega) ?_;refine W.exit rfl ?_;have dA:i=n+1:=by omega
   subst dA;obtain⟨D,dL⟩:∃D,D=jK s p c:=⟨_,rfl⟩;have XB:kr q n (n+1) 0=D:=by rw[N1,dL,Χ,Ι];rfl
   rw[XB];have wa:D.length<=N:=by rw[dL];exact hle c a4
   refine W.to (σ':=hA::gC p L::.map (D.map dB)::cZ L) (env':=[(2,.ad [aQ s.ai,aN s.ao,bl s.cells]),(3,.ad [R p.1,R p.2]),(4,.Ψ 0 1 0 0),(5,.Ψ 1 1 0 0),(6,.mp 2),(19,R s.cells.length),(20,R c),(7,R c)]) ?_ rfl (by simp);(repeat (first|apply κ|(refine ξ λη I=>?_;simp;(repeat (rw[δ];simp));apply I)));refine W.iter (λx:List (Int×Int)×List (Int×Int)×Option (θ×θ)=>(x.1++x.2.1).Perm D/\(x.2.2=none\/∃y,x.2.2=some (dB y)))
    (λx=>[(2,.ad [aQ s.ai,aN s.ao,bl s.cells]),(3,.ad [R p.1,R p.2]),(4,.Ψ 0 1 0 0),(5,.Ψ 1 1 0 0),(6,.mp 2),(19,R s.cells.length),(20,R c),(7,R c),(11,aX ((cZ L).length+1+1+1+1) (x.1.map aA)),(50,.it ((cZ L).length+1+1+1))])
    (λx=>hA::gC p L::.map (D.map dB)::(cZ L++(.iter 2 (x.2.1.map dB) x.2.2::aL 112 2 (x.1.map aA)))) (λx=>x.2.1.length) ([],D,none) ⟨by simp,.inl rfl⟩ (by simp[aL]) (by simp[aX]) (λx U wc=>?_)
   obtain⟨K,af,cur⟩:=x;obtain⟨ω,Dq⟩:=U;simp only at ω Dq
   repeat apply κ
   cases af with
   | nil=>
    (repeat apply κ);refine ξ λη I=>?_;simp;(repeat (rw[δ];simp));apply I
    repeat apply κ
    refine aj rfl ?_;refine W.exit rfl ?_;have we:K.Perm D:=by simpa using ω
    repeat apply κ
    have N5:K.length<=N:=by rw[we.length_eq];exact wa
    have XC:K.mergeSort kT=D:=by
     rw[dL] at we ⊢;exact Xf we (Xq s p c)
    refine W.fC (A:=[]) Κ [(2,.ad [aQ s.ai,aN s.ao,bl s.cells]),(3,.ad [R p.1,R p.2]),(4,.Ψ 0 1 0 0),(5,.Ψ 1 1 0 0),(6,.mp 2),(19,R s.cells.length),(20,R c),(11,aX ((cZ L).length+1+1+1+1) (D.map aA))]
     (hA::gC p L::.map (D.map dB)::(cZ L++(.iter 2 [] cur::aL 112 2 (D.map aA)))) ?_ (by
     clear wc eg Δ jU fx hle hv sM;by_cases Η:K=[]
     ·subst Η;have XD:D=[]:=we.symm.eq_nil;rw[XD];simp only[List.map_nil,h6,show aX ((cZ L).length+1+1+1+1) []=.sl true 0 [] from rfl];simp;(repeat (rw[δ];simp));refine az.c (Xi _ (by simp[lE])) (aK.refl _) (by simp[lE]) (by simp) ?_;simp;(repeat (rw[δ];simp));(try simp)
     ·have gp:K.map aA≠[]:=by simpa using Η
      have XE:D≠[]:=λe=>Η (by rw[e] at we;exact we.eq_nil)
      have N6:D.map aA≠[]:=by simpa using XE
      rw[fi gp,c8 gp,fi N6,c8 N6];simp;(repeat (rw[δ];simp));have oH:av 0 (.fn (.func 174) [] []):=by simp[lE]
      refine ak.one (gi K N5) ((cZ L).length+1+1+1+1) (by simp) (pU sA) (pU sA) (by simp[lI,oH.hf 1]) (by simp[fS]) (by simp[lJ,oH.dI [(cZ L).length+1+1+1+1]]) ?_;simp[dI,hN];(repeat (rw[δ];simp));(try simp[XC,we.length_eq]))
    refine W.cut ((cZ L).length+1+1+1) (Nat.zero_le _) [(2,.ad [aQ s.ai,aN s.ao,bl s.cells]),(3,.ad [R p.1,R p.2]),(4,.Ψ 0 1 0 0),(5,.Ψ 1 1 0 0),(6,.mp 2),(19,R s.cells.length),(20,R c),(11,dk 2 (D.map aA))] (by simp) (λid r bS μ=>?_) ?_ ?_
    ·refine jU D r ?_;have e:hA::gC p L::.map (D.map dB)::(cZ L++(.iter 2 [] cur::aL 112 2 (D.map aA)))=(hA::gC p L::.map (D.map dB)::cZ L)++(.iter 2 [] cur::aL 112 2 (D.map aA)):=by simp
     rw[e,ea (by simpa using bS)] at μ;exact cv μ
    ·have XF:eE ((cZ L).length+1+1+1) (hA::gC p L::.map (D.map dB)::(cZ L++(.iter 2 [] cur::aL 112 2 (D.map aA)))) (aX ((cZ L).length+1+1+1+1) (D.map aA)) (dk 2 (D.map aA)):=p6 (t:=112) (by omega) (λΑ=>by rw[c8 Α];simp) (λe he a ν=>by
      obtain⟨z,_,rfl⟩:=List.mem_map.1 he;exact(sA z a ν).mono (Nat.zero_le _))
     intro z Η;simp only[List.mem_cons,List.not_mem_nil,or_false] at Η;rcases Η with rfl|rfl|rfl|rfl|rfl|rfl|rfl|rfl
     all_goals first|exact XF|exact .low (by simp[hM,ss])
    ·obtain⟨jw,wh⟩:∃jw,jw=L++[dk 2 (D.map aA)]:=⟨_,rfl⟩;have mD:L.length<2 ^ 30:=by rw[aD];simp;omega
     refine W.to (σ':=hA::gC p L::.map (D.map dB)::cZ L) (env':=[(2,.ad [aQ s.ai,aN s.ao,bl s.cells]),(3,.ad [R p.1,R p.2]),(4,.Ψ 0 1 0 0),(5,.Ψ 1 1 0 0),(6,.mp 2),(19,R s.cells.length),(20,R c),(11,dk 2 (D.map aA))]) ?_ (by simp) (by simp)
     repeat apply κ
     refine W.fC (A:=[65]) Κ [(2,.ad [aQ s.ai,aN s.ao,bl s.cells]),(3,.ad [R p.1,R p.2]),(4,.Ψ 0 1 0 0),(5,.Ψ 1 1 0 0),(6,.mp 2),(19,R s.cells.length),(20,R c)] (hA::gC p jw::.map (D.map dB)::cZ jw) ?_ (by
      clear wc eg Δ jU fx hle hv;obtain⟨Em,N7,sl,mE⟩:=yh 2 (D.map aA);rw[mE] at wh ⊢;by_cases Η:L=[]
      ·have Io:jw=[.sl Em N7 sl]:=by rw[wh,Η];rfl
       rw[Io];subst Η;simp only[gC,cZ,np,List.isEmpty_nil,List.isEmpty_cons,if_true,if_false];(try simp);(repeat (rw[δ];simp));(try simp[])
      ·have mB:L.length<=4294967295:=by omega
       have c1:np L=.ms 3 L.length 0 L.length:=by unfold np;rw[if_neg (by simpa using Η)]
       have c2:cZ L=[.cells 111 1 L]:=by unfold cZ;rw[if_neg (by simpa using Η)]
       have c3:np jw=.ms 3 (L.length+1) 0 (L.length+1):=by rw[wh];unfold np;rw[if_neg (by simp)];simp
       have c4:cZ jw=[.cells 111 1 (L++[.sl Em N7 sl])]:=by rw[wh];unfold cZ;rw[if_neg (by simp)]
       simp only[gC];rw[c1,c2,c3,c4];(try simp);(repeat (rw[δ];simp[mB]));(try simp[mB]))
     have kD:∀es,nW (hA::gC p jw::.map es::cZ jw) 2=true:=λes=>by unfold cZ;cases jw.isEmpty<;>simp[nW]
     repeat apply κ
     refine ξ λη I=>?_;simp;(repeat (rw[δ];simp[kD,-nW]));apply I;(repeat (first|apply κ|(refine ξ λη I=>?_;simp;(repeat (rw[δ];simp));apply I)));have AG:jw=(List.range (c+1)).map λc=>dk 2 ((jK s p c).map aA):=by rw[wh,aD,dL,List.range_succ];simp
     refine W.to (Δ (c+1) (by omega) (by omega)) ?_ ?_
     ·rw[<-AG]
     ·simp[e6 a4 (show s.cells.length<2 ^ 62 by omega)]
   | cons y af=>
    (repeat apply κ);refine ξ λη I=>?_;simp;(repeat (rw[δ];simp));intro i hi;obtain⟨x,U⟩:∃x,x=(y::af)[i]'(by simpa using hi):=⟨_,rfl⟩;have Ip:(dB y::List.map dB af)[i]?=some (dB x):=by
     have:(List.map dB (y::af))[i]?=some (dB x):=by
      rw[List.getElem?_map,a2 (by simpa using hi),U];rfl
     simpa using this
    have Iq:(dB y::List.map dB af).eraseIdx i=((y::af).eraseIdx i).map dB:=by
     exact N3 dB (y::af) i
    rw[Ip,Iq];simp;(repeat (rw[δ];simp));apply I
    repeat apply κ
    refine al rfl ?_
    repeat apply κ
    refine c7 (A:=[12]) Κ λη I=>?_;simp;(repeat (rw[δ];simp));apply I;have fr:∀r∈hA::gC p L::.map (D.map dB)::(cZ L++(.iter 2 (((y::af).eraseIdx i).map dB) (some (dB x))::aL 112 2 (K.map aA))),ek (hA::gC p L::.map (D.map dB)::(cZ L++(.iter 2 (((y::af).eraseIdx i).map dB) (some (dB x))::aL 112 2 (K.map aA)))).length r:=by
     intro r μ;have fc:r∈hA::gC p L::.map (D.map dB)::cZ L\/r∈(.iter 2 (((y::af).eraseIdx i).map dB) (some (dB x))::aL 112 2 (K.map aA)):=by
      have:r∈(hA::gC p L::.map (D.map dB)::cZ L)++(.iter 2 (((y::af).eraseIdx i).map dB) (some (dB x))::aL 112 2 (K.map aA)):=by simpa using μ
      exact List.mem_append.1 this
     rcases fc with fc|fc
     ·exact ek.mono (jU D r fc) (by simp)
     ·rcases List.mem_cons.1 fc with rfl|fc
      ·refine⟨by simp,λe he=>?_,λe he=>?_⟩
       ·obtain⟨z,_,rfl⟩:=List.mem_map.1 he;simp
       ·cases he;simp
      ·unfold aL at fc;split at fc
       ·simp at fc
       ·simp at fc;subst fc;intro e he a ν;obtain⟨z,_,rfl⟩:=List.mem_map.1 he;simp[θ.cells] at ν;rcases ν with rfl|rfl<;>simp
    refine W.to (σ':=(hA::gC p L::.map (D.map dB)::(cZ L++(.iter 2 (((y::af).eraseIdx i).map dB) (some (dB x))::aL 112 2 (K.map aA))))++[.cells 112 2 [aA x]]) (env':=[(12,.Ψ (hA::gC p L::.map (D.map dB)::(cZ L++(.iter 2 (((y::af).eraseIdx i).map dB) (some (dB x))::aL 112 2 (K.map aA)))).length 1 0 0),(2,.ad [aQ s.ai,aN s.ao,bl s.cells]),(3,.ad [R p.1,R p.2]),(4,.Ψ 0 1 0 0),(5,.Ψ 1 1 0 0),(6,.mp 2),(19,R s.cells.length),(20,R c),(7,R c),(11,aX ((cZ L).length+1+1+1+1) (K.map aA)),(50,.it ((cZ L).length+1+1+1))]) ?_ (by simp) (by simp);refine W.nn (σ0:=hA::gC p L::.map (D.map dB)::(cZ L++(.iter 2 (((y::af).eraseIdx i).map dB) (some (dB x))::aL 112 2 (K.map aA)))) (Nat.zero_le _) fr (by simp) [(12,.ad [R x.1,R x.2]),(2,.ad [aQ s.ai,aN s.ao,bl s.cells]),(3,.ad [R p.1,R p.2]),(4,.Ψ 0 1 0 0),(5,.Ψ 1 1 0 0),(6,.mp 2),(19,R s.cells.length),(20,R c),(7,R c),(11,aX ((cZ L).length+1+1+1+1) (K.map aA)),(50,.it ((cZ L).length+1+1+1))] (by
     have hb:=AI (h:=(cZ L).length+((aL 112 2 (K.map aA)).length+1)+1+1+1) (id:=(cZ L).length+1+1+1+1) (l:=K.map aA) (λΑ=>by rw[c8 Α];simp);clear wc eg Δ jU fr fx hle hv sM;simp[hM,ss,VN,hb]
     ) ?_
    repeat apply κ
    have N5:K.length<2 ^ 20:=by
     have:=ω.length_eq;simp at this;omega
    refine W.fC (A:=[58]) Κ [(2,.ad [aQ s.ai,aN s.ao,bl s.cells]),(3,.ad [R p.1,R p.2]),(4,.Ψ 0 1 0 0),(5,.Ψ 1 1 0 0),(6,.mp 2),(19,R s.cells.length),(20,R c),(7,R c),(11,aX ((cZ L).length+1+1+1+1) ((K++[x]).map aA)),(50,.it ((cZ L).length+1+1+1))]
     (hA::gC p L::.map (D.map dB)::(cZ L++(.iter 2 (((y::af).eraseIdx i).map dB) (some (dB x))::aL 112 2 ((K++[x]).map aA)))) ?_ (by
     clear wc eg Δ jU fr fx hle hv sM;by_cases Η:K=[]
     ·subst Η;simp only[List.map_nil,h6,show aX ((cZ L).length+1+1+1+1) []=.sl true 0 [] from rfl];(try simp);(repeat (rw[δ];simp[h6]));(try simp[h6]);exact⟨rfl,rfl⟩
     ·have mB:K.length<=4294967295:=by omega
      have gp:K.map aA≠[]:=by simpa using Η
      rw[fi gp,c8 gp];(try simp);(repeat (rw[δ];simp[mB]));(try simp[mB]);rw[c8 (by simp),fi (by simp)];simp)
    (repeat (first|apply κ|(refine ξ λη I=>?_;simp;(repeat (rw[δ];simp));apply I)));have N8:(x::(y::af).eraseIdx i).Perm (y::af):=by
     rw[U];exact N2 _ _ _
    refine W.to (wc (K++[x],(y::af).eraseIdx i,some (dB x)) ⟨?_,.inr ⟨x,rfl⟩⟩ ?_) (by simp) (by simp)
    ·simp only[List.append_assoc,List.singleton_append];exact(N8.append_left K).trans ω
    ·have:=N8.length_eq;simp at this;simp only[List.length_cons];omega
 ·have n9:c=s.cells.length:=by simp at ζ;omega
  subst n9;refine W.exit rfl ?_
  repeat apply κ
  clear Δ;have sM:∀e∈L,∀a∈e.cells,av 0 a:=by
   rw[aD];intro e he a ν;obtain⟨x,_,rfl⟩:=List.mem_map.1 he;unfold dk at ν;split at ν<;>simp[θ.cells] at ν<;>subst ν<;>simp
  refine W.fC (A:=[]) Κ [(4,.Ψ 0 1 0 0)] (.cells 110 3 [.aW [R p.1,R p.2,np L]]::gC p L::.map []::cZ L) ?_ (by
   simp only[gC];by_cases Η:L=[]
   ·rw[show np L=.sl true 0 [] by rw[Η];rfl];(try simp);(repeat (rw[δ];simp));(try simp[])
   ·rw[show np L=.ms 3 L.length 0 L.length by unfold np;rw[if_neg (by simpa using Η)],show cZ L=[.cells 111 1 L] by unfold cZ;rw[if_neg (by simpa using Η)]];(try simp);(repeat (rw[δ];simp));(try simp[]))
  refine W.cut 0 (Nat.zero_le _) [(4,.ad [R p.1,R p.2,dk 1 L])] (Nat.zero_le _) (λid r bS=>by omega) (λz Η=>by
   simp at Η;subst Η;exact eE.struct (k:=3) (t:=110) (l:=[R p.1,R p.2,np L]) (Nat.zero_le _) rfl rfl (λx a b9 J γ=>by
    match x with
    | 0=>simp at J γ;subst J;subst γ;exact .low (by simp)
    | 1=>simp at J γ;subst J;subst γ;exact .low (by simp)
    | 2=>
     simp at J γ;subst J;subst γ;exact p6 (id:=3) (t:=111) (l:=L) (Nat.zero_le _) (λΑ=>by
      have:cZ L=[.cells 111 1 L]:=by unfold cZ;rw[if_neg (by simpa using Α)]
      simp[this]) sM
    | x+3=>simp at J)) ?_
  (repeat (first|apply κ|(refine ξ λη I=>?_;simp;(repeat (rw[δ];simp));apply I)));refine W.ret ⟨_,rfl,?_,rfl⟩;refine cC.aW (aK.cons (.refl _) (aK.cons (.refl _) (aK.cons (.trans cC.acc ?_) .nil)));rw[aD];show cC _ (.sl false 1 (((List.range s.cells.length).map (jK s p)).map mx));rw[List.map_map];refine cC.map λx _=>.one cC.acc ?_ rfl;obtain⟨b,k,l,he⟩:=yh 2 ((jK s p x).map aA);rw[he];rfl
structure lN where
 c:Int
 n:Int
 least:Int
 some:Bool
def lN.take (b:lN) (c n m:Int):lN:=if b.some=false\/m<b.least then⟨c,n,m,true⟩ else b
abbrev lO (b:lN):θ:=.aW [R b.c,R b.n,R b.least,bA b.some]
theorem XG (b:lN) (c n m:Int):ak Tryz.prog 76 [.Ψ 0 1 0 0,.aW [R c,R n],R m] [.cells 104 4 [lO b]] (λr s=>r=.bu []/\s=[.cells 104 4 [lO (b.take c n m)]]) (λ_ _=>False):=by
 obtain⟨dC,pz,l0,F1⟩:=b;refine ak.body Κ Tryz.func76 rfl rfl Tryz.ntmps76 rfl rfl (by simp) ?_;(repeat (first|apply κ|(refine ξ λη I=>?_;simp;(repeat (rw[δ];simp));apply I)));cases F1
 ·have e:lN.take ⟨dC,pz,l0,false⟩ c n m=⟨c,n,m,true⟩:=by simp[lN.take]
  rw[e];(repeat (first|apply κ|(refine ξ λη I=>?_;simp;(repeat (rw[δ];simp));apply I)));refine al rfl ?_;(repeat (first|apply κ|(refine ξ λη I=>?_;simp;(repeat (rw[δ];simp));apply I)));exact W.nil ⟨_,rfl,rfl,rfl⟩
 ·(repeat (first|apply κ|(refine ξ λη I=>?_;simp;(repeat (rw[δ];simp));apply I)));by_cases h:m<l0
  ·have e:lN.take ⟨dC,pz,l0,true⟩ c n m=⟨c,n,m,true⟩:=by simp[lN.take,h]
   rw[e];refine al (by simp[h]) ?_;(repeat (first|apply κ|(refine ξ λη I=>?_;simp;(repeat (rw[δ];simp));apply I)));exact W.nil ⟨_,rfl,rfl,rfl⟩
  ·have e:lN.take ⟨dC,pz,l0,true⟩ c n m=⟨dC,pz,l0,true⟩:=by simp[lN.take,h]
   rw[e];refine aj (by simp[h]) ?_;(repeat (first|apply κ|(refine ξ λη I=>?_;simp;(repeat (rw[δ];simp));apply I)));exact W.nil ⟨_,rfl,rfl,rfl⟩
abbrev iy (e:Int×Int):θ×θ:=(R e.1,R e.2)
def uq:List (Int×Int)->Int->Int->List (Int×Int)
 | [],k,n=>[(k,IntKind.i64.wrap (0+n))]
 | e::r,k,n=>if k=e.1 then(k,IntKind.i64.wrap (e.2+n))::r else e::uq r k n
theorem XH (k n:Int):∀(m:List (Int×Int)) (d:Nat),(hL bk 113 (R k) (m.map iy) d=some none/\uq m k n=m++[(k,IntKind.i64.wrap (0+n))])\/∃i v,i<m.length/\hL bk 113 (R k) (m.map iy) d=some (some (d+i,R v))/\uq m k n=m.set i (k,IntKind.i64.wrap (v+n)):=by
 intro m
 induction m with
 | nil=>intro d;exact .inl ⟨rfl,rfl⟩
 | cons e r Δ=>
  intro d;have Χ:aeqv bk 113 (R k) (R e.1)=some (k==e.1):=by simp[aeqv,jD,mm,jb]
  by_cases h:k=e.1
  ·refine .inr ⟨0,e.2,by simp,?_,by simp[uq,h]⟩;simp only[List.map_cons,hL,Χ];simp[h]
  ·have hb:(k==e.1)=false:=by simpa using h
   rcases Δ (d+1) with⟨J,γ⟩|⟨i,v,J,γ,π⟩
   ·refine .inl ⟨?_,by simp[uq,h,γ]⟩;simp only[List.map_cons,hL,Χ,hb,cond_false];exact J
   ·refine .inr ⟨i+1,v,by simp;omega,?_,by simp[uq,h,π]⟩;simp only[List.map_cons,hL,Χ,hb,cond_false];rw[γ];have:d+1+i=d+(i+1):=by omega
    rw[this]
theorem ak.XI {P:Program} {σ:List Row} {g:FuncId} {as0 first:List θ} {row row':Row} {r:θ} {K E:θ->List Row->Prop} (h:ak P g as0 [row] (λa s=>a=r/\s=[row']) (λ_ _=>False)) (id:Nat) (bS:σ[id]?=some row) (ω:iv row) (hU:iv row') (ν:∀a∈as0,fS 1 a) (μ:fS 1 r)
  {args:List θ} (mq:first++args=as0.map (dI [id])) (I:K (dI [id] r) (σ.set id row')):h1 P (.fn (.func g) first []) args σ K E:=by
 have aS:=ak.rows (σ:=σ) h [id] (by simp) rfl (λj i ε=>by
  cases j with
  | zero=>simp at ε;subst ε;exact bS
  | succ j=>simp at ε) (λr μ=>by simp at μ;subst μ;exact ω) (by simpa using ν) (K':=K) (E':=E) (λa s ⟨J,γ⟩=>by
   subst J;subst γ;refine⟨λx U=>by simp at U;subst U;exact hU,μ,?_⟩;simpa[names,pT,iu] using I) (λa s h=>h.elim)
 exact ak.call (first:=first) (captured:=[]) (by rw[List.append_nil,mq];exact aS)
def uu (s:aR) (f:Found) (c n:Nat) (m:List (Int×Int)) (j:Nat):List (Int×Int):=(((f.cells[c]?).getD []).take j).foldl (λm r=>uq m (s.iN (f.u,f.v) r n) (f.many c)) m
def wi (s:aR) (F:List Found) (c n i:Nat):List (Int×Int):=(F.take i).foldl (λm f=>uu s f c n m ((f.cells[c]?).getD []).length) []
def uv (a:Int) (l:List (Int×Int)):Int:=l.foldl (λa e=>max a e.2) a
def En (s:aR) (F:List Found) (c n:Nat):Int:=uv 0 (wi s F c n F.length)
def wj (s:aR) (F:List Found) (c:Nat) (b:lN) (n:Nat):lN:=(List.range n).foldl (λb (n:Nat)=>b.take c n (En s F c n)) b
def uw (s:aR) (F:List Found) (c:Nat):lN:=(List.range c).foldl (λb (c:Nat)=>wj s F c b s.ao.length) ⟨0,0,0,false⟩
theorem XJ (s:aR) (F:List Found) (c:Nat) (b:lN) (n:Nat):wj s F c b (n+1)=(wj s F c b n).take c n (En s F c n):=by simp[wj,List.range_succ,List.foldl_append]
theorem XK (s:aR) (F:List Found) (c:Nat):uw s F (c+1)=wj s F c (uw s F c) s.ao.length:=by simp[uw,List.range_succ,List.foldl_append]
theorem XL (s:aR) (f:Found) (c n:Nat) (m:List (Int×Int)) (j:Nat) (h:j<((f.cells[c]?).getD []).length):uu s f c n m (j+1)=uq (uu s f c n m j) (s.iN (f.u,f.v) ((f.cells[c]?).getD [])[j] n) (f.many c):=by
 unfold uu;rw[List.take_succ_eq_append_getElem h,List.foldl_append];rfl
theorem XM (s:aR) (F:List Found) (c n i:Nat) (h:i<F.length):wi s F c n (i+1)=uu s F[i] c n (wi s F c n i) ((F[i].cells[c]?).getD []).length:=by
 unfold wi;rw[List.take_succ_eq_append_getElem h,List.foldl_append];rfl
theorem XN {a:Int} {l m:List (Int×Int)} (h:l.Perm m):uv a l=uv a m:=h.foldl_eq' (λx _ y _ z=>by omega) a
def sN (s:aR) (F:List Found):Int×Int×Int×Int:=
 if(fh s true F).2.2≠0 then(0,0,0,(fh s true F).2.2)
 else let b:=uw s F s.cells.length;if b.some=false\/b.least=gm F then(0,0,0,11) else(b.c,b.n,b.least,0)
structure Eo (s:aR) (F:List Found):Prop where
 uo:F.length<2 ^ 20
 cells:∀f∈F,f.cells.length=s.cells.length/\(∀c∈f.cells,c.length<2 ^ 20/\∀r∈c,r.1<s.ai.length/\r.2<s.ai.length)
 many:∀f∈F,f.cells.length<2 ^ 62/\∀(gB:Int) i,i<=f.cells.length->h5 f.cells gB i<2 ^ 62
 count:gm F<2 ^ 62
theorem XO (s:aR) (ο:s.small) (F:List Found) (gf:rj s F) (ck:Eo s F) :
  az Tryz.prog 26 [d' s] (.bu [R (sN s F).1,R (sN s F).2.1,R (sN s F).2.2.1,R (sN s F).2.2.2]):=by
 refine ak.body Κ Tryz.func26 rfl rfl Tryz.ntmps26 rfl rfl (by simp) ?_;(repeat (first|apply κ|(refine ξ λη I=>?_;simp;(repeat (rw[δ];simp));apply I)));(repeat apply κ);refine c7 (A:=[6]) Κ λη I=>?_;simp;(repeat (rw[δ];simp));refine az.c (AF s ο true F gf) (aK.refl _) (by simp) (by simp) ?_;simp;(repeat (rw[δ];simp));apply I;by_cases b:(fh s true F).2.2=0
 case neg=>
  have e:sN s F=(0,0,0,(fh s true F).2.2):=by unfold sN;rw[if_pos b]
  rw[e];generalize (fh s true F).2.2=fz at b;(repeat (first|apply κ|(refine ξ λη I=>?_;simp;(repeat (rw[δ];simp));apply I)));refine al (by simp[b]) ?_;(repeat (first|apply κ|(refine ξ λη I=>?_;simp;(repeat (rw[δ];simp));apply I)));refine W.drop (h:=0) (σ':=[]) (Nat.zero_le _) (Nat.zero_le _) (by simp) rfl [(2,R 0),(3,R 0),(4,R 0),(5,R fz)] (by simp) ?_;refine W.ret ⟨_,rfl,?_,rfl⟩;exact .refl _
 have e:fh s true F=(s,F,0):=by
  unfold fh at b ⊢;split at b
  ·rename_i h;simp at b;exact absurd b h
  ·split at b
   ·simp at b
   ·rename_i J γ;rw[if_neg J,if_neg γ]
 have Ζ:sN s F=let b:=uw s F s.cells.length;if b.some=false\/b.least=gm F then(0,0,0,11) else(b.c,b.n,b.least,0):=by unfold sN;rw[if_neg (by simpa using b)]
 rw[Ζ,e];clear Ζ;refine W.fix (id:=0) (σ':=[]) (Nat.zero_le _) rfl (by simp) (by simp) rfl [(5,R 0),(6,.ad [aQ s.ai,aN s.ao,bl s.cells]),(7,cR F)] (by simp) ?_;(repeat (first|apply κ|(refine ξ λη I=>?_;simp;(repeat (rw[δ];simp));apply I)));refine aj rfl ?_
 repeat apply κ
 refine c7 (A:=[8]) Κ λη I=>?_;simp;(repeat (rw[δ];simp));apply I;(repeat (first|apply κ|(refine ξ λη I=>?_;simp;(repeat (rw[δ];simp));apply I)));have im:s.cells.length<2 ^ 30:=ο.2.2.1;have iΝ:s.ao.length<2 ^ 30:=ο.2.1;have rk:∀{b:lN} (M:List (Int×Int)),∀r∈[Row.cells 104 4 [lO b],.map (M.map iy)],ek [Row.cells 104 4 [lO b],.map (M.map iy)].length r:=λ{b} M r μ=>by
  simp only[List.mem_cons,List.not_mem_nil,or_false] at μ;rcases μ with rfl|rfl
  ·simp[ek,θ.cells]
  ·intro e he;obtain⟨x,_,rfl⟩:=List.mem_map.1 he;simp
 refine W.iter (λc:Nat=>c<=s.cells.length) (λc=>[(6,.ad [aQ s.ai,aN s.ao,bl s.cells]),(7,cR F),(8,.Ψ 0 1 0 0),(9,.fn (.func 76) [.Ψ 0 1 0 0] []),(33,R s.cells.length),(34,R c)])
  (λc=>[.cells 104 4 [lO (uw s F c)]]) (λc=>s.cells.length-c) 0 (Nat.zero_le _) rfl (by simp) (λc kl Δ=>?_)
 (repeat (first|apply κ|(refine ξ λη I=>?_;simp;(repeat (rw[δ];simp));apply I)));refine W.en rfl (λζ=>?_) (λζ=>?_)
 ·have ml:c<s.cells.length:=by simpa using ζ
  (repeat (first|apply κ|(refine ξ λη I=>?_;simp;(repeat (rw[δ];simp));apply I)));obtain⟨cK,jA⟩:∃cK,cK=uw s F c:=⟨_,rfl⟩;refine W.iter (λn:Nat=>n<=s.ao.length) (λn=>[(6,.ad [aQ s.ai,aN s.ao,bl s.cells]),(7,cR F),(8,.Ψ 0 1 0 0),(9,.fn (.func 76) [.Ψ 0 1 0 0] []),(10,R c),(33,R s.cells.length),(34,R c),(40,R s.ao.length),(41,R n)])
   (λn=>[.cells 104 4 [lO (wj s F c cK n)]]) (λn=>s.ao.length-n) 0 (Nat.zero_le _) (by rw[jA];rfl) (by simp) (λn qW eg=>?_)
  (repeat (first|apply κ|(refine ξ λη I=>?_;simp;(repeat (rw[δ];simp));apply I)));refine W.en rfl (λa4=>?_) (λa4=>?_)
  ·have qR:n<s.ao.length:=by simpa using a4
   obtain⟨bP,kH⟩:∃bP,bP=wj s F c cK n:=⟨_,rfl⟩;refine W.to (σ':=[.cells 104 4 [lO bP]]) (env':=[(6,.ad [aQ s.ai,aN s.ao,bl s.cells]),(7,cR F),(8,.Ψ 0 1 0 0),(9,.fn (.func 76) [.Ψ 0 1 0 0] []),(10,R c),(33,R s.cells.length),(34,R c),(40,R s.ao.length),(41,R n)]) ?_ (by rw[kH]) (by simp);(repeat (first|apply κ|(refine ξ λη I=>?_;simp;(repeat (rw[δ];simp));apply I)));refine W.iter (λi:Nat=>i<=F.length) (λi=>[(6,.ad [aQ s.ai,aN s.ao,bl s.cells]),(7,cR F),(8,.Ψ 0 1 0 0),(9,.fn (.func 76) [.Ψ 0 1 0 0] []),(10,R c),(33,R s.cells.length),(34,R c),(40,R s.ao.length),(41,R n),(11,R n),(12,.mp 1),(45,cR F),(46,R F.length),(47,R i)])
    (λi=>[.cells 104 4 [lO bP],.map ((wi s F c n i).map iy)]) (λi=>F.length-i) 0 (Nat.zero_le _) rfl (by simp) (λi hi wc=>?_)
   (repeat (first|apply κ|(refine ξ λη I=>?_;simp;(repeat (rw[δ];simp));apply I)));by_cases kU:i<F.length
   ·refine al (by simp[kU]) ?_;obtain⟨M,cd⟩:∃M,M=wi s F c n i:=⟨_,rfl⟩;have jL:=XM s F c n i kU;rw[<-cd] at jL;obtain⟨nq,g4⟩:=ck.cells _ (List.getElem_mem kU);obtain⟨hB,iz⟩:=ck.many _ (List.getElem_mem kU);generalize Τ:F[i]=f at jL nq g4 hB iz;have bj:c<f.cells.length:=by rw[nq];exact ml
    refine W.to (σ':=[.cells 104 4 [lO bP],.map (M.map iy)]) (env':=[(6,.ad [aQ s.ai,aN s.ao,bl s.cells]),(7,cR F),(8,.Ψ 0 1 0 0),(9,.fn (.func 76) [.Ψ 0 1 0 0] []),(10,R c),(33,R s.cells.length),(34,R c),(40,R s.ao.length),(41,R n),(11,R n),(12,.mp 1),(45,cR F),(46,R F.length),(47,R i)]) ?_ (by rw[cd]) (by simp)
    repeat apply κ
    refine c7 (A:=[14]) Κ λη I=>?_;simp;(repeat (rw[δ];simp[kU,Τ]));apply I;refine W.nn (σ0:=[.cells 104 4 [lO bP],.map (M.map iy)]) (Nat.zero_le _) (rk _) (by simp) [(14,.ad [R f.u,R f.v,my f.cells]),(6,.ad [aQ s.ai,aN s.ao,bl s.cells]),(7,cR F),(8,.Ψ 0 1 0 0),(9,.fn (.func 76) [.Ψ 0 1 0 0] []),(10,R c),(33,R s.cells.length),(34,R c),(40,R s.ao.length),(41,R n),(11,R n),(12,.mp 1),(45,cR F),(46,R F.length),(47,R i)] (by simp[hM,ss]) ?_;(repeat (first|apply κ|(refine ξ λη I=>?_;simp;(repeat (rw[δ];simp[bj]));apply I)));have AJ:(f.cells[c]?).getD []=f.cells[c]:=by simp[bj]
    rw[AJ] at jL;have AK:=g4 _ (List.getElem_mem bj);have p7:=XL s f c n M;rw[AJ] at p7;generalize f.cells[c]=C at jL AK p7;obtain⟨wm,Ir⟩:=AK;refine W.iter (λj:Nat=>j<=C.length) (λj=>[(14,.ad [R f.u,R f.v,my f.cells]),(6,.ad [aQ s.ai,aN s.ao,bl s.cells]),(7,cR F),(8,.Ψ 0 1 0 0),(9,.fn (.func 76) [.Ψ 0 1 0 0] []),(10,R c),(33,R s.cells.length),(34,R c),(40,R s.ao.length),(41,R n),(11,R n),(12,.mp 1),(45,cR F),(46,R F.length),(47,R i),(55,mx C),(56,R C.length),(57,R j)])
     (λj=>[.cells 104 4 [lO bP],.map ((uu s f c n M j).map iy)]) (λj=>C.length-j) 0 (Nat.zero_le _) (by simp[uu]) (by simp) (λj ε lM=>?_)
    (repeat (first|apply κ|(refine ξ λη I=>?_;simp;(repeat (rw[δ];simp));apply I)));by_cases h7:j<C.length
    ·refine al (by simp[h7]) ?_;obtain⟨M2,yi⟩:∃M2,M2=uu s f c n M j:=⟨_,rfl⟩;have p8:=p7 j h7;rw[<-yi] at p8;refine W.to (σ':=[.cells 104 4 [lO bP],.map (M2.map iy)]) (env':=[(14,.ad [R f.u,R f.v,my f.cells]),(6,.ad [aQ s.ai,aN s.ao,bl s.cells]),(7,cR F),(8,.Ψ 0 1 0 0),(9,.fn (.func 76) [.Ψ 0 1 0 0] []),(10,R c),(33,R s.cells.length),(34,R c),(40,R s.ao.length),(41,R n),(11,R n),(12,.mp 1),(45,cR F),(46,R F.length),(47,R i),(55,mx C),(56,R C.length),(57,R j)]) ?_ (by rw[yi]) (by simp);obtain⟨r9,ui⟩:=Ir _ (List.getElem_mem h7);generalize μ:C[j]=r at p8 r9 ui
     repeat apply κ
     refine c7 (A:=[16]) Κ λη I=>?_;simp;(repeat (rw[δ];simp[h7,μ]));apply I;refine W.nn (σ0:=[.cells 104 4 [lO bP],.map (M2.map iy)]) (Nat.zero_le _) (rk _) (by simp) [(16,.ad [R r.1,R r.2]),(14,.ad [R f.u,R f.v,my f.cells]),(6,.ad [aQ s.ai,aN s.ao,bl s.cells]),(7,cR F),(8,.Ψ 0 1 0 0),(9,.fn (.func 76) [.Ψ 0 1 0 0] []),(10,R c),(33,R s.cells.length),(34,R c),(40,R s.ao.length),(41,R n),(11,R n),(12,.mp 1),(45,cR F),(46,R F.length),(47,R i),(55,mx C),(56,R C.length),(57,R j)] (by simp[hM,ss]) ?_
     repeat apply κ
     have o0:=e6 h7 (show C.length<2 ^ 62 by omega);rcases XH (s.iN (f.u,f.v) r n) (f.many c) M2 0 with⟨Ρ,ag⟩|⟨cg,v,cP,Ρ,ag⟩
     ·refine W.draw (A:=[]) Κ mixed λη I=>?_;simp;(repeat (rw[bD];simp[Ρ,jb]));try rw[bC]
      refine gU (az.p (Av s ο (f.u,f.v) r n qR r9 ui) (aK.refl _) (by simp) (by simp)) ?_;simp[Ρ,jb];(repeat (rw[bD];simp[Ρ,jb]));try rw[bC]
      refine gU (az.p (Ed f c hB (iz c)) (aK.refl _) (by simp) (by simp)) ?_;simp[Ρ,jb];(repeat (rw[bD];simp[Ρ,jb]));try rw[bC]
      refine⟨bW (by kernel_rfl),I _ _ ?_⟩;(repeat (first|apply κ|(refine ξ λη I=>?_;simp;(repeat (rw[δ];simp[o0]));apply I)));refine W.to (lM (j+1) h7 (by omega)) ?_ ?_
      ·rw[p8,ag];simp
      ·simp[o0]
     ·refine W.draw (A:=[]) Κ mixed λη I=>?_;simp;(repeat (rw[bD];simp[Ρ,jb]));try rw[bC]
      refine gU (az.p (Av s ο (f.u,f.v) r n qR r9 ui) (aK.refl _) (by simp) (by simp)) ?_;simp[Ρ,jb];(repeat (rw[bD];simp[Ρ,jb]));try rw[bC]
      refine gU (az.p (Ed f c hB (iz c)) (aK.refl _) (by simp) (by simp)) ?_;simp[Ρ,jb];(repeat (rw[bD];simp[Ρ,jb]));try rw[bC]
      refine⟨bW (by kernel_rfl),I _ _ ?_⟩;(repeat (first|apply κ|(refine ξ λη I=>?_;simp;(repeat (rw[δ];simp[o0]));apply I)));refine W.to (lM (j+1) h7 (by omega)) ?_ ?_
      ·rw[p8,ag];simp
      ·simp[o0]
    ·have v':j=C.length:=by omega
     subst v';have kO:=e6 kU (show F.length<2 ^ 62 by have:=ck.uo;omega);refine aj (by simp) ?_;refine W.exit rfl ?_;(repeat (first|apply κ|(refine ξ λη I=>?_;simp;(repeat (rw[δ];simp[kO]));apply I)));refine W.to (wc (i+1) kU (by omega)) ?_ ?_
     ·rw[jL]
     ·simp[kO]
   ·have dA:i=F.length:=by omega
    subst dA;refine aj (by simp) ?_;refine W.exit rfl ?_;obtain⟨M,cd⟩:∃M,M=wi s F c n F.length:=⟨_,rfl⟩;have XP:En s F c n=uv 0 M:=by rw[cd];rfl
    refine W.to (σ':=[.cells 104 4 [lO bP],.map (M.map iy)]) (env':=[(6,.ad [aQ s.ai,aN s.ao,bl s.cells]),(7,cR F),(8,.Ψ 0 1 0 0),(9,.fn (.func 76) [.Ψ 0 1 0 0] []),(10,R c),(33,R s.cells.length),(34,R c),(40,R s.ao.length),(41,R n),(11,R n),(12,.mp 1)]) ?_ (by rw[cd]) (by simp);(repeat (first|apply κ|(refine ξ λη I=>?_;simp;(repeat (rw[δ];simp));apply I)));refine W.iter (λx:Int×List (Int×Int)×Option (θ×θ)=>uv x.1 x.2.1=uv 0 M) (λx=>[(6,.ad [aQ s.ai,aN s.ao,bl s.cells]),(7,cR F),(8,.Ψ 0 1 0 0),(9,.fn (.func 76) [.Ψ 0 1 0 0] []),(10,R c),(33,R s.cells.length),(34,R c),(40,R s.ao.length),(41,R n),(11,R n),(12,.mp 1),(17,R x.1),(76,.it 2)])
     (λx=>[.cells 104 4 [lO bP],.map (M.map iy),.iter 1 (x.2.1.map iy) x.2.2]) (λx=>x.2.1.length) (0,M,none) rfl rfl (by simp) (λx U XQ=>?_)
    obtain⟨nZ,af,cur⟩:=x;simp only at U
    repeat apply κ
    cases af with
    | nil=>
     (repeat apply κ);refine ξ λη I=>?_;simp;(repeat (rw[δ];simp));apply I
     repeat apply κ
     refine aj rfl ?_;refine W.exit rfl ?_;have Is:nZ=En s F c n:=by rw[XP,<-U];rfl
     have AL:=e6 qR (show s.ao.length<2 ^ 62 by omega);(repeat apply κ);refine ξ λη I=>?_;simp;(repeat (rw[δ];simp));refine ak.XI (as0:=[.Ψ 0 1 0 0,.aW [R c,R n],R nZ]) (XG bP c n nZ) 0 rfl (by simp[iv,θ.cells]) (by simp[iv,θ.cells]) (by simp[fS,oR]) (by simp[fS]) rfl ?_;simp[dI,hN];(repeat (rw[δ];simp));apply I;refine W.drop (h:=1) (σ':=[.cells 104 4 [lO (bP.take c n nZ)]]) (Nat.zero_le _) (by simp) (λid r bS μ=>?_) rfl [(6,.ad [aQ s.ai,aN s.ao,bl s.cells]),(7,cR F),(8,.Ψ 0 1 0 0),(9,.fn (.func 76) [.Ψ 0 1 0 0] []),(10,R c),(33,R s.cells.length),(34,R c),(40,R s.ao.length),(41,R n)] (by simp[hM]) ?_
     ·obtain rfl:id=0:=by omega
      simp at μ;subst μ;simp[ek,θ.cells]
     (repeat (first|apply κ|(refine ξ λη I=>?_;simp;(repeat (rw[δ];simp[AL]));apply I)));refine W.to (eg (n+1) qR (by omega)) ?_ ?_
     ·rw[XJ,<-kH,Is]
     ·simp[AL]
    | cons y af=>
     (repeat apply κ);refine ξ λη I=>?_;simp;(repeat (rw[δ];simp));intro cg oI;obtain⟨x,nP⟩:∃x,x=(y::af)[cg]'(by simpa using oI):=⟨_,rfl⟩;have Ip:(iy y::List.map iy af)[cg]?=some (iy x):=by
      have:(List.map iy (y::af))[cg]?=some (iy x):=by
       rw[List.getElem?_map,a2 (by simpa using oI),nP];rfl
      simpa using this
     have Iq:(iy y::List.map iy af).eraseIdx cg=((y::af).eraseIdx cg).map iy:=N3 iy (y::af) cg;rw[Ip,Iq];simp;(repeat (rw[δ];simp));apply I
     repeat apply κ
     refine al rfl ?_;(repeat (first|apply κ|(refine ξ λη I=>?_;simp;(repeat (rw[δ];simp));apply I)));have N9:cg<(y::af).length:=by simpa using oI
     have hinv:uv (max nZ x.2) ((y::af).eraseIdx cg)=uv 0 M:=by
      rw[<-U,<-XN (N2 (y::af) cg N9),<-nP];rfl
     have Is:max nZ x.2=if nZ<x.2 then x.2 else nZ:=by split<;>omega
     refine W.to (XQ (max nZ x.2,(y::af).eraseIdx cg,some (iy x)) hinv (by simp only[List.length_eraseIdx,N9,if_true];omega)) ?_ ?_
     ·simp
     ·simp[Is]
  ·have bw:n=s.ao.length:=by simp at a4;omega
   subst bw;have AM:=e6 ml (show s.cells.length<2 ^ 62 by omega);refine W.exit rfl ?_;(repeat (first|apply κ|(refine ξ λη I=>?_;simp;(repeat (rw[δ];simp[AM]));apply I)));refine W.to (Δ (c+1) ml (by omega)) ?_ ?_
   ·rw[XK,<-jA]
   ·simp[AM]
 ·have ζ:c=s.cells.length:=by simp at ζ;omega
  subst ζ;refine W.exit rfl ?_;(repeat (first|apply κ|(refine ξ λη I=>?_;simp;(repeat (rw[δ];simp));apply I)));obtain⟨⟨N',uf,l9,pS⟩,fb⟩:∃B,B=uw s F s.cells.length:=⟨_,rfl⟩;rw[<-fb];refine W.fix (id:=0) (σ':=[]) (Nat.zero_le _) rfl (by simp) (by simp) rfl [(7,cR F),(8,.ad [R N',R uf,R l9,bA pS])] (by simp) ?_;have J:∀f∈F,f.cells.length<2 ^ 62/\∀i,i<=f.cells.length->h5 f.cells (-1) i<2 ^ 62:=λf Τ=>⟨(ck.many f Τ).1,(ck.many f Τ).2 (-1)⟩;cases pS
  ·refine W.draw (A:=[]) Κ mixed λη I=>?_;simp;(repeat (rw[bD];simp));try rw[bC]
   refine⟨bW (by kernel_rfl),I _ _ ?_⟩;refine al rfl ?_;(repeat (first|apply κ|(refine ξ λη I=>?_;simp;(repeat (rw[δ];simp));apply I)));refine W.drop (h:=0) (σ':=[]) (Nat.zero_le _) (Nat.zero_le _) (by simp) rfl [(2,R 0),(3,R 0),(4,R 0),(5,R 11)] (by simp) ?_;refine W.ret ⟨_,rfl,?_,rfl⟩;exact .of (by simp)
  ·refine W.draw (A:=[]) Κ mixed λη I=>?_;simp;(repeat (rw[bD];simp));try rw[bC]
   refine gU (az.p (NF F (by have:=ck.uo;omega) J ck.count) (aK.refl _) (by simp) (by simp)) ?_;simp;(repeat (rw[bD];simp));try rw[bC]
   refine⟨bW (by kernel_rfl),I _ _ ?_⟩;by_cases q:l9=gm F
   ·refine al (by simp[q]) ?_;(repeat (first|apply κ|(refine ξ λη I=>?_;simp;(repeat (rw[δ];simp));apply I)));refine W.drop (h:=0) (σ':=[]) (Nat.zero_le _) (Nat.zero_le _) (by simp) rfl [(2,R 0),(3,R 0),(4,R 0),(5,R 11)] (by simp) ?_;refine W.ret ⟨_,rfl,?_,rfl⟩;exact .of (by simp[q])
   ·refine aj (by simp[q]) ?_;(repeat (first|apply κ|(refine ξ λη I=>?_;simp;(repeat (rw[δ];simp));apply I)));refine W.draw (A:=[]) Κ mixed λη I=>?_;simp;(repeat (rw[bD];simp));try rw[bC]
    refine⟨bW (by kernel_rfl),I _ _ ?_⟩;refine W.drop (h:=0) (σ':=[]) (Nat.zero_le _) (Nat.zero_le _) (by simp) rfl [(2,R N'),(3,R uf),(4,R l9),(5,R 0)] (by simp) ?_;refine W.ret ⟨_,rfl,?_,rfl⟩;exact .of (by simp[q])
theorem XR (l:List Int) (Α:l.length<2 ^ 30) :
  ak Tryz.prog 85 [.ms 0 l.length 0 l.length] [.cells 3 1 (l.map R)] (λr s=>(∃e k,r=.sl e k (l.map R)/\(l≠[]->k=1))/\s=[.cells 3 1 (l.map R)]) (λ_ _=>False):=by
 refine ak.body Κ Tryz.func85 rfl rfl Tryz.ntmps85 rfl rfl (by simp) ?_;have mB:l.length<=4294967295:=by omega
 by_cases Η:l=[]
 ·subst Η;(repeat (first|apply κ|(refine ξ λη I=>?_;simp;(repeat (rw[δ];simp));apply I)));(repeat apply κ);refine ξ λη I=>?_;simp;(repeat (rw[δ];simp));intro j ε;apply I;by_cases x5:j=1
  ·refine al (by simp[x5]) ?_;(repeat (first|apply κ|(refine ξ λη I=>?_;simp;(repeat (rw[δ];simp));apply I)));exact W.ret ⟨_,rfl,⟨true,0,rfl,λh=>absurd rfl h⟩,rfl⟩
  ·refine aj (by simp[x5]) ?_
   repeat apply κ
   refine c7 (A:=[5,7]) Κ λη I=>?_;simp;(repeat (rw[δ];simp));apply I;refine W.cut 1 (Nat.le_refl _) [(2,.sl false 1 [])] (by simp) (λid r bS μ=>?_) (λp ω=>?_) ?_
   ·obtain rfl:id=0:=by omega
    simp at μ;subst μ;simp[ek]
   ·obtain rfl:p=(2,.sl false 1 []):=by simpa using ω
    exact eE.own (id:=1) (t:=3) (Nat.le_refl _) rfl (by simp) (by simp)
   ·exact W.ret ⟨_,rfl,⟨false,1,rfl,λ_=>rfl⟩,rfl⟩
 ·(repeat (first|apply κ|(refine ξ λη I=>?_;simp;(repeat (rw[δ];simp));apply I)));(repeat apply κ);refine ξ λη I=>?_;simp;(repeat (rw[δ];simp[Η]));apply I;refine aj rfl ?_
  repeat apply κ
  have kM:List.take l.length (l.map R)=l.map R:=List.take_of_length_le (by simp)
  have XS:l.length<=4294967296:=by omega
  refine c7 (A:=[5,7]) Κ λη I=>?_;simp;(repeat (rw[δ];simp[mB,Η,kM,XS]));apply I;have hb:∀e∈l.map R,∀a∈e.cells,av 1 a:=λe he a ν=>by
   obtain⟨x,_,rfl⟩:=List.mem_map.1 he;simp[θ.cells] at ν;subst ν;simp
  refine W.cut 1 (Nat.le_refl _) [(2,.sl false 1 (l.map R))] (by simp) (λid r bS μ=>?_) (λp ω=>?_) ?_
  ·obtain rfl:id=0:=by omega
   simp at μ;subst μ;exact hb
  ·obtain rfl:p=(2,.sl false 1 (l.map R)):=by simpa using ω
   exact eE.own (id:=1) (t:=3) (Nat.le_refl _) rfl (by simp) hb
  ·exact W.ret ⟨_,rfl,⟨false,1,rfl,λ_=>rfl⟩,rfl⟩
end Go.TL
