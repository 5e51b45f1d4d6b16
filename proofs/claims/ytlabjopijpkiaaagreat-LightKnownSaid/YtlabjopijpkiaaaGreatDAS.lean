import Derived.Sort.LotA
import Derived.Test.YtlabjopijpkiaaaGreatDAN
import Derived.Test.YtlabjopijpkiaaaGreatDAP
import Derived.Test.YtlabjopijpkiaaaGreatDAR
set_option maxHeartbeats 16000000
set_option maxRecDepth 20000
set_option linter.unusedSectionVars false
set_option linter.unusedSimpArgs false
set_option linter.unusedVariables false
namespace Go.TL
open Go.Proofs
variable [bj]
abbrev jR (n:Int):θ:=.z (.int .i32 n)
theorem V7 (l:List Int):rZ (l.map jR)=some l:=by
 induction l with
 | nil=>rfl
 | cons a l ω=>simp[rZ,ω]
def q7 (s:aL) (F:List Found) (lower:Bool) (e3:ByteArray->Int) (c:Nat):Int:=
 let l:=ew F c lower
 if 1<l.length then 63 else if l.headD 0<0 then 45 else match s.Τ[(l.headD 0).toNat]? with|some g=>e3 g.name|none=>0
def na (s:aL) (F:List Found) (lower:Bool) (e3:ByteArray->Int) (c:Nat):List Int:=(List.range c).map (q7 s F lower e3)
def q8 (s:aL) (F:List Found) (lower:Bool) (e3:ByteArray->Int):ByteArray×Int:=
 if(eH s true F).2.2=0 then(spell (na s F lower e3 s.cells.length),0) else(⟨#[]⟩,(eH s true F).2.2)
structure Hw (s:aL) (F:List Found) (lower:Bool) (e3:ByteArray->Int) (N:Nat):Prop where
 mA:F.length<2 ^ 20
 cells:∀f∈F,f.cells.length=s.cells.length/\∀c∈f.cells,c.length<2 ^ 20
 some:∀c,c<s.cells.length->gP F c lower≠[]/\(gP F c lower).length<=N/\ew F c lower≠[]/\(ew F c lower).length<2 ^ 30/\∀x∈ew F c lower,x<s.Τ.length
 name:∀g∈s.Τ,(Conv.runesFrom g.name g.name.size 0 #[])[0]?=Option.some (.int .i32 (e3 g.name))
theorem Nb (s:aL) (μ:s.small) (F:List Found) (e':m' s F) (lower:Bool) (e3:ByteArray->Int) (N:Nat) (c5:N<2 ^ 20) (fA:xy N) (av:(eH s true F).2.2=0->Hw s F lower e3 N) :
  Ω Tryz.prog 40 [dH s,bs lower] (.a3 [oT (q8 s F lower e3).1,J (q8 s F lower e3).2]):=by
 refine ak.body Ρ Tryz.func40 rfl rfl Tryz.ntmps40 rfl rfl η ?_;refine Β ?_;refine cI ?_;refine cR (A:=[6]) Ρ λΔ ζ=>aV ?_;refine Ω.d (xx s μ true F e') (aV ?_);apply ζ;by_cases b:(eH s true F).2.2=0
 case neg=>
  have e:q8 s F lower e3=(⟨#[]⟩,(eH s true F).2.2):=by unfold q8;rw[if_neg b]
  rw[e];generalize (eH s true F).2.2=eM at b;refine Β ?_;refine aA (by simp[b]) ?_;refine Β ?_;refine W.drop (h:=0) (σ':=[]) (Nat.zero_le _) (Nat.zero_le _) η rfl [(4,oT ⟨#[]⟩),(5,J eM)] η ?_;refine W.rt ?_;exact .refl _
 have av:=av b
 have e:eH s true F=(s,F,0):=by
  unfold eH at b ⊢;split at b
  ·rename_i h;simp at b;exact absurd b h
  ·split at b
   ·simp at b
   ·rename_i I R;rw[if_neg I,if_neg R]
 have Θ:q8 s F lower e3=(spell (na s F lower e3 s.cells.length),0):=by unfold q8;rw[if_pos b]
 rw[Θ,e];refine W.fix (id:=0) (σ':=[]) (Nat.zero_le _) rfl η η rfl [(1,bs lower),(6,.aa [aS s.Τ,aY s.ai,a7 s.cells]),(7,cj F),(8,J 0)] η ?_;refine Β ?_;refine ay rfl ?_;refine Β ?_;have ig:s.cells.length<2 ^ 30:=μ.2.2.1;refine W.iter (λc:Nat=>c<=s.cells.length) (λc=>[(1,bs lower),(6,.aa [aS s.Τ,aY s.ai,a7 s.cells]),(7,cj F),(9,en ((na s F lower e3 c).map jR)),(25,J s.cells.length),(26,J c)])
  (λc=>bF 21 1 ((na s F lower e3 c).map jR)) (λc=>s.cells.length-c) 0 (Nat.zero_le _) rfl (by simp[na,mw]) (λc jE ω=>?_)
 refine Β ?_;refine W.fL rfl (λε=>?_) (λε=>?_)
 ·have bg:c<s.cells.length:=by simpa using ε
  obtain⟨I,R,ν,Ι,aB⟩:=av.some c bg;obtain⟨aj,bm⟩:=aO (na s F lower e3 c);have sy:aj.length=c:=by rw[bm];simp[na]
  have dr:na s F lower e3 (c+1)=aj++[q7 s F lower e3 c]:=by rw[bm];unfold na;rw[List.range_succ,List.map_append];rfl
  refine W.to (σ':=bF 21 1 (aj.map jR)) (env':=[(1,bs lower),(6,.aa [aS s.Τ,aY s.ai,a7 s.cells]),(7,cj F),(9,en (aj.map jR)),(25,J s.cells.length),(26,J c)]) ?_ (by rw[bm]) (by rw[bm];simp);refine Β ?_;refine a5 λΔ ζ=>?_;refine Ω.d (Na F c lower av.mA (λf Υ=>⟨by rw[(av.cells f Υ).1];exact bg,(av.cells f Υ).2⟩) N c5 fA I R) (aV ?_);apply ζ;have hL:aj.length<=4294967295:=γ;obtain⟨l,υ⟩:=aO (ew F c lower);have xz:q7 s F lower e3 c=if 1<l.length then 63 else if l.headD 0<0 then 45 else match s.Τ[(l.headD 0).toNat]? with|some g=>e3 g.name|none=>0:=by rw[υ];rfl
  rw[<-υ] at ν Ι aB ⊢;clear υ bm;refine Β ?_;by_cases q:1<l.length
  ·have ι:q7 s F lower e3 c=63:=by rw[xz,if_pos q]
   refine aA (by simp;omega) ?_
   repeat apply al
   refine W.g8 (A:=[57]) Ρ [(1,bs lower),(6,.aa [aS s.Τ,aY s.ai,a7 s.cells]),(7,cj F),(9,en ((aj++[63]).map jR)),(25,J s.cells.length),(26,J c)] (bF 21 1 ((aj++[63]).map jR)) ?_ (by
    rw[List.map_append];by_cases Μ:aj.map jR=[]
    ·rw[Μ,mw,jg];(try simp);(repeat (rw[ae];simp[]));(try simp[]);simp[bF,en]
    ·rw[nT Μ,fF Μ];(try simp);(repeat (rw[ae];simp[]));(try simp[]);simp[p5,sr,hL])
   refine Β ?_;refine W.to (ω (c+1) bg γ) ?_ ?_
   ·simp only[dr,ι,List.map_append,List.map_cons,List.map_nil]
   ·rw[dr,ι];simp[eX bg (show s.cells.length<2 ^ 62 by omega)]
  ·obtain⟨x,U⟩:∃x,l=[x]:=by
    match l,ν,q with
    | [x],_,_=>exact⟨x,rfl⟩
    | x::y::z,_,q=>simp at q
   subst U;refine ay η ?_;refine Β ?_;by_cases g:x<0
   ·have ι:q7 s F lower e3 c=45:=by rw[xz];simp[g]
    refine aA (by simp[g]) ?_;refine Β ?_;refine W.g8 (A:=[57]) Ρ [(1,bs lower),(6,.aa [aS s.Τ,aY s.ai,a7 s.cells]),(7,cj F),(9,en ((aj++[45]).map jR)),(25,J s.cells.length),(26,J c)] (bF 21 1 ((aj++[45]).map jR)) ?_ (by
     rw[List.map_append];by_cases Μ:aj.map jR=[]
     ·rw[Μ,mw,jg];(try simp);(repeat (rw[ae];simp[]));(try simp[]);simp[bF,en]
     ·rw[nT Μ,fF Μ];(try simp);(repeat (rw[ae];simp[]));(try simp[]);simp[p5,sr,hL])
    refine Β ?_;refine W.to (ω (c+1) bg γ) ?_ ?_
    ·simp only[dr,ι,List.map_append,List.map_cons,List.map_nil]
    ·rw[dr,ι];simp[eX bg (show s.cells.length<2 ^ 62 by omega)]
   ·obtain⟨k,rfl⟩:∃k:Nat,x=k:=⟨x.toNat,γ⟩;have ψ:k<s.Τ.length:=by have:=aB (k:Int) η;omega
    have ι:q7 s F lower e3 c=e3 s.Τ[k].name:=by rw[xz];simp[g,ψ]
    have oN:=av.name _ (List.getElem_mem ψ)
    have Nc:∀h:0<(Conv.runesFrom s.Τ[k].name s.Τ[k].name.size 0 #[]).size,(Conv.runesFrom s.Τ[k].name s.Τ[k].name.size 0 #[])[0]'h=.int .i32 (e3 s.Τ[k].name):=λh=>by
     rw[gF h] at oN;exact Option.some.inj oN
    have Nd:0<(Conv.runesFrom s.Τ[k].name s.Τ[k].name.size 0 #[]).size:=(Array.getElem?_eq_some_iff.1 oN).1;refine ay η ?_;refine fD (Ζ ψ (Ζ oN Nd)) ?_
    repeat apply al
    refine W.forget [(1,bs lower),(6,.aa [aS s.Τ,aY s.ai,a7 s.cells]),(7,cj F),(9,en (aj.map jR)),(11,jR (e3 s.Τ[k].name)),(25,J s.cells.length),(26,J c)] (by simp[Nc Nd]) ?_;refine W.g8 (A:=[57]) Ρ [(1,bs lower),(6,.aa [aS s.Τ,aY s.ai,a7 s.cells]),(7,cj F),(9,en ((aj++[(e3 s.Τ[k].name)]).map jR)),(25,J s.cells.length),(26,J c)] (bF 21 1 ((aj++[(e3 s.Τ[k].name)]).map jR)) ?_ (by
     rw[List.map_append];by_cases Μ:aj.map jR=[]
     ·rw[Μ,mw,jg];(try simp);(repeat (rw[ae];simp[]));(try simp[]);simp[bF,en]
     ·rw[nT Μ,fF Μ];(try simp);(repeat (rw[ae];simp[]));(try simp[]);simp[p5,sr,hL])
    refine Β ?_;refine W.to (ω (c+1) bg γ) ?_ ?_
    ·simp only[dr,ι,List.map_append,List.map_cons,List.map_nil]
    ·rw[dr,ι];simp[eX bg (show s.cells.length<2 ^ 62 by omega)]
 ·have ε:c=s.cells.length:=by simp at ε;omega
  subst ε;refine W.exit rfl ?_;refine Β ?_;obtain⟨aj,bm⟩:=aO (na s F lower e3 s.cells.length);rw[<-bm];refine W.to (σ':=bF 21 1 (aj.map jR)) (env':=[(9,en (aj.map jR))]) ?_ rfl η;by_cases Μ:aj.map jR=[]
  ·have jz:aj=[]:=by simpa using Μ
   rw[Μ,mw,jg,jz];have hm:rZ []=some []:=rfl;refine iE hm λΔ ζ=>?_;apply ζ;refine W.rt ?_;exact .refl _
  ·have hm:rZ (List.take aj.length (aj.map jR))=some aj:=by
    rw[List.take_of_length_le η];exact V7 aj
   rw[nT Μ,fF Μ];refine iE hm λΔ ζ=>?_;apply ζ;refine W.drop (h:=0) (σ':=[]) (Nat.zero_le _) (Nat.zero_le _) η rfl [(4,oT (spell aj)),(5,J 0)] η ?_;refine W.rt ?_;exact .refl _
theorem Hx {α:Type} [Inhabited α] {lt:α->α->Bool} (μ:Go.Sort.SWO lt) (κ:∀x y,lt x y=false->lt y x=false->x=y) (l:List α):(Go.Sort.insertionSort lt l.toArray 0 l.length).toList=l.mergeSort (λx y=>!lt y x):=by
 obtain⟨I,R⟩:=Go.Sort.insertionSort_holds (lt:=lt) μ l.toArray 0 l.length (Nat.zero_le _) η;exact Go.Sort.sorted_unique_holds (lt:=lt) μ κ l.toArray _ (by simpa using I) (by simpa using R)
theorem V8 (x y:Int) (h:Go.Sort.ltInt x y=false) (k:Go.Sort.ltInt y x=false):x=y:=by
 simp[Go.Sort.ltInt] at h k;omega
theorem sz:xy 12:=λl υ=>by
 have h:=VK l.toArray l.length η υ;rw[Hx Go.Sort.swo_ltInt V8 l] at h;have e:(λx y:Int=>!Go.Sort.ltInt y x)=λx y=>decide (x<=y):=by
  funext x y;rw[Bool.eq_iff_iff];simp[Go.Sort.ltInt]
 rw[e] at h;exact h
theorem p6 (x y:Int×Int):ar lK x y=decide (x.1<y.1\/(x.1=y.1/\x.2<y.2)):=by
 unfold ar lK;simp only[oW,oV];by_cases I:x.1<y.1
 ·simp[I]
 ·by_cases R:y.1<x.1
  ·have:¬x.1=y.1:=by omega
   simp[I,R,this]
  ·have ν:x.1=y.1:=by omega
   by_cases Ι:x.2<y.2
   ·simp[ν,Ι]
   ·by_cases aB:y.2<x.2
    ·simp[ν,Ι,aB]
    ·simp[ν,Ι,aB]
theorem vA:Go.Sort.SWO (ar lK) where
 irrefl x:=by rw[p6];simp
 trans x y z h k:=by
  rw[p6] at *;simp at *;omega
 ntrans x y z h k:=by
  rw[p6] at *;simp at *;omega
theorem Dx (x y:Int×Int) (h:ar lK x y=false) (k:ar lK y x=false):x=y:=by
 rw[p6] at *;simp at h k;apply Prod.ext<;>omega
abbrev eI (x y:Int×Int):Bool:=!ar lK y x
theorem V9 {l m:List (Int×Int)} (ς:l.Perm m) (hm:m.Pairwise λx y=>x.1<y.1\/(x.1=y.1/\x.2<y.2)):l.mergeSort eI=m:=by
 have z2:∀a b c:Int×Int,eI a b=true->eI b c=true->eI a c=true:=λa b c h k=>by
  simp only[eI,p6] at *;simp at *;omega
 have z3:∀a b:Int×Int,(eI a b||eI b a)=true:=λa b=>by
  simp only[eI,p6];simp;omega
 have s1:=List.pairwise_mergeSort (le:=eI) z2 z3 l
 have dD:(l.mergeSort eI).Perm m:=(List.mergeSort_perm l eI).trans ς;refine List.Perm.eq_of_pairwise (le:=λa b=>eI a b=true) (λa b _ _ h k=>?_) s1 (hm.imp λ{a b} h=>?_) dD
 ·simp only[eI,p6] at h k;simp at h k;apply Prod.ext<;>omega
 ·simp only[eI,p6];simp;omega
theorem Wa (ag:θ) (bu:aK 0 ag):Ω Tryz.prog 234 [.sl true 0 [],J 0,J 0,ag] (.a3 []):=by
 refine ak.body Ρ Tryz.func234 rfl rfl Tryz.ntmps234 rfl rfl η ?_;refine Β ?_;refine .loop ?_;refine Β ?_;refine ay rfl ?_;refine W.exit rfl ?_;exact W.nil ⟨_,rfl,cp.refl _,rfl⟩
theorem Wb (lim:Nat) (ag:θ) (bu:aK 0 ag):Ω Tryz.prog 211 [.sl true 0 [],J 0,J 0,J lim,ag] (.a3 []):=by
 refine ak.body Ρ Tryz.func211 rfl rfl Tryz.ntmps211 rfl rfl η ?_;refine Β ?_;refine .loop ?_;refine Β ?_;refine aA rfl ?_;refine a5 λΔ ζ=>?_;refine Ω.c (Wa ag bu) (b9.refl _) (by simp[bu]) η ?_;simp;(repeat (rw[ae];simp[]));apply ζ;exact W.ret ⟨_,rfl,cp.refl _,rfl⟩
theorem Wc (ag:θ) (bu:aK 0 ag):Ω Tryz.prog 173 [.sl true 0 [],ag] (.a3 []):=by
 refine ak.body Ρ Tryz.func173 rfl rfl Tryz.ntmps173 rfl rfl η ?_;have Θ:IntKind.u64.wrap (0:Int)=0:=a0;refine Β ?_;(repeat apply al);refine cM λΔ ζ=>?_;simp;(repeat (rw[ae];simp[Θ]));refine Ω.d (sh 0 γ) (aV ?_);refine Ω.c (Wb (Go.Sort.bitsLen 0) ag bu) (b9.refl _) (by simp[bu]) η ?_;simp;(repeat (rw[ae];simp[]));apply ζ;exact W.nil ⟨_,rfl,cp.refl _,rfl⟩
theorem Wd (ag:θ) (bu:aK 0 ag):Ω Tryz.prog 217 [.sl true 0 [],J 0,J 0,ag] (.a3 []):=by
 refine ak.body Ρ Tryz.func217 rfl rfl Tryz.ntmps217 rfl rfl η ?_;refine Β ?_;refine .loop ?_;refine Β ?_;refine ay rfl ?_;refine W.exit rfl ?_;exact W.nil ⟨_,rfl,cp.refl _,rfl⟩
theorem We (lim:Nat) (ag:θ) (bu:aK 0 ag):Ω Tryz.prog 182 [.sl true 0 [],J 0,J 0,J lim,ag] (.a3 []):=by
 refine ak.body Ρ Tryz.func182 rfl rfl Tryz.ntmps182 rfl rfl η ?_;refine Β ?_;refine .loop ?_;refine Β ?_;refine aA rfl ?_;refine a5 λΔ ζ=>?_;refine Ω.c (Wd ag bu) (b9.refl _) (by simp[bu]) η ?_;simp;(repeat (rw[ae];simp[]));apply ζ;exact W.ret ⟨_,rfl,cp.refl _,rfl⟩
theorem Wf (ag:θ) (bu:aK 0 ag):Ω Tryz.prog 147 [.sl true 0 [],ag] (.a3 []):=by
 refine ak.body Ρ Tryz.func147 rfl rfl Tryz.ntmps147 rfl rfl η ?_;have Θ:IntKind.u64.wrap (0:Int)=0:=a0;refine Β ?_;(repeat apply al);refine cM λΔ ζ=>?_;simp;(repeat (rw[ae];simp[Θ]));refine Ω.d (sh 0 γ) (aV ?_);refine Ω.c (We (Go.Sort.bitsLen 0) ag bu) (b9.refl _) (by simp[bu]) η ?_;simp;(repeat (rw[ae];simp[]));apply ζ;exact W.nil ⟨_,rfl,cp.refl _,rfl⟩
theorem Wg (ag:θ) (bu:aK 0 ag):Ω Tryz.prog 183 [.sl true 0 [],J 0,J 0,ag] (.a3 []):=by
 refine ak.body Ρ Tryz.func183 rfl rfl Tryz.ntmps183 rfl rfl η ?_;refine Β ?_;refine .loop ?_;refine Β ?_;refine ay rfl ?_;refine W.exit rfl ?_;exact W.nil ⟨_,rfl,cp.refl _,rfl⟩
theorem Wh (lim:Nat) (ag:θ) (bu:aK 0 ag):Ω Tryz.prog 149 [.sl true 0 [],J 0,J 0,J lim,ag] (.a3 []):=by
 refine ak.body Ρ Tryz.func149 rfl rfl Tryz.ntmps149 rfl rfl η ?_;refine Β ?_;refine .loop ?_;refine Β ?_;refine aA rfl ?_;refine a5 λΔ ζ=>?_;refine Ω.c (Wg ag bu) (b9.refl _) (by simp[bu]) η ?_;simp;(repeat (rw[ae];simp[]));apply ζ;exact W.ret ⟨_,rfl,cp.refl _,rfl⟩
theorem Wi (ag:θ) (bu:aK 0 ag):Ω Tryz.prog 117 [.sl true 0 [],ag] (.a3 []):=by
 refine ak.body Ρ Tryz.func117 rfl rfl Tryz.ntmps117 rfl rfl η ?_;have Θ:IntKind.u64.wrap (0:Int)=0:=a0;refine Β ?_;(repeat apply al);refine cM λΔ ζ=>?_;simp;(repeat (rw[ae];simp[Θ]));refine Ω.d (sh 0 γ) (aV ?_);refine Ω.c (Wh (Go.Sort.bitsLen 0) ag bu) (b9.refl _) (by simp[bu]) η ?_;simp;(repeat (rw[ae];simp[]));apply ζ;exact W.nil ⟨_,rfl,cp.refl _,rfl⟩
theorem eE.struct {h id k:Nat} {σ:List Row} {t:TypeId} {l cs:List θ} (b7:h<=id) (bN:σ[id]?=some (.cells t k [.a6 l])) (hlen:cs.length=l.length) (H:∀(x:Nat) (a bP:θ),l[x]?=some a->cs[x]?=some bP->eE h σ a bP):eE h σ (.an id 1 0 0) (.aa cs):=
 .an b7 bN rfl rfl (by simp[θ.cells,hlen]) λx a bP I R=>H x a bP (by simpa[θ.cells] using I) R
abbrev ft (a b c:θ):Row:=.cells 26 3 [.a6 [a,b,c]]
abbrev dA (r:Int×Int):θ×θ:=(aC r,bs true)
theorem Wj (x y:Int×Int):aeqv bf 112 (aC x) (aC y)=some (decide (x=y)):=by
 simp[aeqv,jK,mg];rw[Bool.eq_iff_iff];simp[Prod.ext_iff]
theorem Wk (r:Int×Int):∀(l:List (Int×Int)) (n:Nat),r∉l->hF bf 112 (aC r) (l.map dA) n=some none:=by
 intro l
 induction l with
 | nil=>intro n _;rfl
 | cons x l ω=>
  intro n h;simp only[List.map_cons,hF];have I:¬r=x:=λe=>h (by simp[e]);have:=Wj r x;rw[this,decide_eq_false I];exact ω (n+1) λhm=>h (by simp[hm])
def lM (i j:Nat):List (Int×Int):=(List.range j).map λy:Nat=>((i:Int)-1,(y:Int)-1)
def nW (n i:Nat):List (Int×Int):=(List.range i).flatMap λx=>lM x (n+1)
def z4 (n:Nat):List (Int×Int):=nW n (n+1)
theorem Nf (i j:Nat):lM i (j+1)=lM i j++[((i:Int)-1,(j:Int)-1)]:=by simp[lM,List.range_succ]
theorem Hy (n i:Nat):nW n (i+1)=nW n i++lM i (n+1):=by simp[nW,List.range_succ]
theorem Dy {i j:Nat} {r:Int×Int} (h:r∈lM i j):r.1=(i:Int)-1/\r.2<(j:Int)-1:=by
 unfold lM at h;obtain⟨y,Φ,rfl⟩:=List.mem_map.1 h;have:=List.mem_range.1 Φ;exact⟨rfl,by simp;omega⟩
theorem Ng {n i:Nat} {r:Int×Int} (h:r∈nW n i):r.1<(i:Int)-1:=by
 unfold nW at h;obtain⟨x,U,R⟩:=List.mem_flatMap.1 h;have:=List.mem_range.1 U;have:=(Dy R).1;omega
def ji (s:aL) (p:Int×Int) (c:Nat):List (Int×Int):=(z4 s.Τ.length).filter λr=>s.vn p r c
theorem Wl (i j:Nat):(lM i j).Pairwise λx y=>x.1<y.1\/(x.1=y.1/\x.2<y.2):=by
 induction j with
 | zero=>simp[lM]
 | succ j ω=>
  rw[Nf,List.pairwise_append];refine⟨ω,η,λa κ b hb=>?_⟩;simp at hb;subst hb;have:=Dy κ;exact .inr ⟨this.1,by simpa using this.2⟩
theorem Wm (n i:Nat):(nW n i).Pairwise λx y=>x.1<y.1\/(x.1=y.1/\x.2<y.2):=by
 induction i with
 | zero=>simp[nW]
 | succ i ω=>
  rw[Hy,List.pairwise_append];refine⟨ω,Wl _ _,λa κ b hb=>.inl ?_⟩;have:=Ng κ;have:=(Dy hb).1;omega
theorem Wn (s:aL) (p:Int×Int) (c:Nat):(ji s p c).Pairwise λx y=>x.1<y.1\/(x.1=y.1/\x.2<y.2):=(Wm _ _).filter _
def Dz (N:Nat):Prop:=∀(l:List (Int×Int)),l.length<=N->ak Tryz.prog 173 [.ms 0 l.length 0 l.length,.fn (.func 174) [] []] [.cells 112 2 (l.map aC)] (λr s=>r=.a3 []/\s=[.cells 112 2 ((l.mergeSort eI).map aC)]) (λ_ _=>False)
theorem Wo:Dz 12:=λl υ=>by
 have h:=VE l.toArray l.length η υ (.fn (.func 174) [] []) lK (by simp[hG]) (λx y=>Ω.p (MR x y) (b9.refl _) η η);rw[Hx vA Dx l] at h;exact h
def kB (q:Int×Int->Bool) (n i j:Nat):List (Int×Int):=(nW n i++lM i j).filter q
theorem Wp {q:Int×Int->Bool} {n:Nat}:kB q n 0 0=[]:=by simp[kB,nW,lM]
theorem Wq {q:Int×Int->Bool} {n i:Nat}:kB q n i (n+1)=kB q n (i+1) 0:=by simp[kB,Hy,lM]
theorem Wr {q:Int×Int->Bool} {n i j:Nat}:kB q n i (j+1)=kB q n i j++if q ((i:Int)-1,(j:Int)-1) then [((i:Int)-1,(j:Int)-1)] else []:=by
 unfold kB;rw[Nf,<-List.append_assoc,List.filter_append];simp[List.filter_cons]
theorem Nh {q:Int×Int->Bool} {n:Nat}:kB q n (n+1) 0=(z4 n).filter q:=by simp[kB,lM,z4]
theorem Ws {q:Int×Int->Bool} {n i j:Nat}:((i:Int)-1,(j:Int)-1)∉kB q n i j:=by
 unfold kB;rw[List.mem_filter,List.mem_append];rintro⟨h|h,_⟩
 ·have:=Ng h;simp at this
 ·have:=(Dy h).2;simp at this
def nb (l:List θ):θ:=if l.isEmpty then .sl true 0 [] else .ms 3 l.length 0 l.length
def cY (l:List θ):List Row:=if l.isEmpty then [] else [.cells 111 1 l]
abbrev ht:Row:=.cells 110 3 [.a6 [J 0,J 0,.sl true 0 []]]
abbrev gA (p:Int×Int) (L:List θ):Row:=.cells 110 3 [.a6 [J p.1,J p.2,nb L]]
def cO (id:Nat) (l:List θ):θ:=if l.isEmpty then .sl true 0 [] else .ms id l.length 0 l.length
theorem o1 {id:Nat} {l:List θ} (h:l≠[]):cO id l=.ms id l.length 0 l.length:=by unfold cO;rw[if_neg (by simpa using h)]
theorem Wt {l:List θ}:aK ((cY l).length+3) (nb l):=by
 unfold nb cY;cases l.isEmpty<;>simp[r9]
theorem Wu {h:Nat} {l:List θ} (hb:∀e∈l,∀a∈e.cells,aK 0 a):∀r∈cY l,eV h r:=by
 intro r ι;unfold cY at ι;cases υ:l.isEmpty with
 | true=>rw[υ] at ι;simp at ι
 | false=>
  rw[υ] at ι;simp at ι;subst ι;exact λe he a κ=>(hb e he a κ).mono (Nat.zero_le _)
theorem eV.mono {h c9:Nat} {r:Row} (hb:eV h r) (aX:h<=c9):eV c9 r:=by
 cases r with
 | cells t k l=>exact λe he a κ=>(hb e he a κ).mono aX
 | map es=>exact λe he=>⟨(hb e he).1.mono aX,(hb e he).2.mono aX⟩
 | iter m left cur=>exact⟨Nat.lt_of_lt_of_le hb.1 aX,λe he=>⟨(hb.2.1 e he).1.mono aX,(hb.2.1 e he).2.mono aX⟩,λe he=>⟨(hb.2.2 e he).1.mono aX,(hb.2.2 e he).2.mono aX⟩⟩
 | dead=>trivial
theorem DC {h id:Nat} {l:List θ} (aX:l≠[]->id<h):aK h (cO id l):=by
 by_cases υ:l=[]
 ·subst υ;unfold cO;simp
 ·rw[o1 υ];exact r9.2 (aX υ)
theorem Ni {α:Type} (l:List α) (i:Nat) (h:i<l.length):(l[i]::l.eraseIdx i).Perm l:=by
 induction l generalizing i with
 | nil=>simp at h
 | cons a l ω=>
  cases i with
  | zero=>exact .refl _
  | succ i=>
   simp only[List.getElem_cons_succ,List.eraseIdx_cons_succ];exact(List.Perm.swap _ _ _).trans (.cons a (ω i (by simpa using h)))
theorem xA {h id k:Nat} {t:TypeId} {l:List θ} {σ:List Row} (b7:h<=id) (ι:l≠[]->σ[id]?=some (.cells t k l)) (hb:∀e∈l,∀a∈e.cells,aK h a):eE h σ (cO id l) (ev k l):=by
 by_cases υ:l=[]
 ·subst υ;exact .low (by unfold cO;simp)
 ·have e:ev k l=.sl false k l:=by unfold ev;rw[if_neg (by simpa using υ)]
  rw[o1 υ,e];exact .own b7 (ι υ) rfl hb
theorem Hz (k:Nat) (m:List θ):∃b kk l,ev k m=.sl b kk l:=by
 unfold ev;split
 ·exact⟨_,_,_,rfl⟩
 ·exact⟨_,_,_,rfl⟩
theorem Nj {α β:Type} (f:α->β) (l:List α) (i:Nat):(l.map f).eraseIdx i=(l.eraseIdx i).map f:=by
 induction l generalizing i with
 | nil=>rfl
 | cons a l ω=>cases i<;>simp[ω]
theorem Wv (s:aL) (μ:s.small) (Ο:s.Τ.length<2 ^ 20) (p:Int×Int) (hv:∀c∈s.cells,∀x∈c,0<=x.c8/\x.c8<s.ai.length) (N:Nat) (c5:N<2 ^ 20) (fA:Dz N) (hle:∀c,c<s.cells.length->(ji s p c).length<=N) :
  Ω Tryz.prog 143 [dH s,aC p] (dd ⟨p.1,p.2,(List.range s.cells.length).map (ji s p)⟩):=by
 refine ak.body Ρ Tryz.func143 rfl rfl Tryz.ntmps143 rfl rfl η ?_
 repeat apply al
 refine cR (A:=[4]) Ρ λΔ ζ=>aV ?_;apply ζ
 repeat apply al
 refine cR (A:=[5]) Ρ λΔ ζ=>aV ?_;apply ζ
 repeat apply al
 refine a5 λΔ ζ=>?_;apply ζ;refine Β ?_;have ig:s.cells.length<2 ^ 30:=μ.2.2.1;refine W.iter (λc:Nat=>c<=s.cells.length) (λc=>[(2,.aa [aS s.Τ,aY s.ai,a7 s.cells]),(3,.aa [J p.1,J p.2]),(4,.an 0 1 0 0),(5,.an 1 1 0 0),(6,.mp 2),(19,J s.cells.length),(20,J c)])
  (λc=>ht::gA p ((List.range c).map λc=>ev 2 ((ji s p c).map aC))::.map []::cY ((List.range c).map λc=>ev 2 ((ji s p c).map aC))) (λc=>s.cells.length-c) 0 (Nat.zero_le _) (by simp[nb,cY]) η (λc ε ω=>?_)
 obtain⟨L,av⟩:=aO ((List.range c).map λc=>ev 2 ((ji s p c).map aC));refine W.to (σ':=ht::gA p L::.map []::cY L) (env':=[(2,.aa [aS s.Τ,aY s.ai,a7 s.cells]),(3,.aa [J p.1,J p.2]),(4,.an 0 1 0 0),(5,.an 1 1 0 0),(6,.mp 2),(19,J s.cells.length),(20,J c)]) ?_ (by rw[av]) η;refine Β ?_;refine W.fL rfl (λε=>?_) (λε=>?_)
 ·have bg:c<s.cells.length:=by simpa using ε
  refine Β ?_;obtain⟨n,Ε⟩:=aO s.Τ.length;have qR:n<2 ^ 20:=γ;obtain⟨q,Χ⟩:=aO (λr=>s.vn p r c:Int×Int->Bool);have sA:∀e∈L,∀a∈e.cells,aK 0 a:=by
   rw[av];intro e he a κ;obtain⟨x,_,rfl⟩:=List.mem_map.1 he;unfold ev at κ;split at κ<;>simp[θ.cells] at κ<;>subst κ<;>simp
  have fR:∀(M:List (Int×Int)) (h:Nat),eV h (.map (M.map dA)):=λM h e he=>by
   obtain⟨x,_,rfl⟩:=List.mem_map.1 he;simp
  have kG:∀M:List (Int×Int),∀r∈ht::gA p L::.map (M.map dA)::cY L,eV (ht::gA p L::.map (M.map dA)::cY L).length r:=λM r ι=>by
   simp only[List.mem_cons] at ι;rcases ι with rfl|rfl|rfl|ι
   ·simp[eV,θ.cells]
   ·simp[eV,θ.cells];exact Wt
   ·exact fR M _
   ·exact Wu sA r ι
  refine W.iter (λi:Nat=>i<=n+1) (λi=>[(2,.aa [aS s.Τ,aY s.ai,a7 s.cells]),(3,.aa [J p.1,J p.2]),(4,.an 0 1 0 0),(5,.an 1 1 0 0),(6,.mp 2),(19,J s.cells.length),(20,J c),(7,J c),(8,J ((i:Int)-1))])
   (λi=>ht::gA p L::.map ((kB q n i 0).map dA)::cY L) (λi=>n+1-i) 0 (Nat.zero_le _) (by rw[Wp];rfl) η (λi hi e6=>?_)
  refine Β ?_;by_cases a4:i<n+1
  ·refine aA (by simp[<-Ε];omega) ?_;refine Β ?_;refine W.iter (λj:Nat=>j<=n+1) (λj=>[(2,.aa [aS s.Τ,aY s.ai,a7 s.cells]),(3,.aa [J p.1,J p.2]),(4,.an 0 1 0 0),(5,.an 1 1 0 0),(6,.mp 2),(19,J s.cells.length),(20,J c),(7,J c),(8,J ((i:Int)-1)),(9,J ((j:Int)-1))])
    (λj=>ht::gA p L::.map ((kB q n i j).map dA)::cY L) (λj=>n+1-j) 0 (Nat.zero_le _) rfl η (λj δ nX=>?_)
   refine Β ?_;by_cases fg:j<n+1
   ·refine aA (by simp[<-Ε];omega) ?_
    repeat apply al
    obtain⟨M,cd⟩:=aO (kB q n i j);refine W.to (σ':=ht::gA p L::.map (M.map dA)::cY L) (env':=[(2,.aa [aS s.Τ,aY s.ai,a7 s.cells]),(3,.aa [J p.1,J p.2]),(4,.an 0 1 0 0),(5,.an 1 1 0 0),(6,.mp 2),(19,J s.cells.length),(20,J c),(7,J c),(8,J ((i:Int)-1)),(9,J ((j:Int)-1))]) ?_ (by rw[cd]) η;have Ww:hF bf 112 (.a6 [J ((i:Int)-1),J ((j:Int)-1)]) (M.map dA) 0=some none:=Wk _ M 0 (by rw[cd];exact Ws);have kK:∀es,nH (ht::gA p L::.map es::cY L) 2=true:=λes=>by unfold cY;cases L.isEmpty<;>simp[nH]
    refine cR (A:=[10]) Ρ λΔ ζ=>aV ?_;apply ζ;refine W.m9 (σ0:=ht::gA p L::.map (M.map dA)::cY L) (Nat.zero_le _) (kG M) η [(10,.aa [J ((i:Int)-1),J ((j:Int)-1)]),(2,.aa [aS s.Τ,aY s.ai,a7 s.cells]),(3,.aa [J p.1,J p.2]),(4,.an 0 1 0 0),(5,.an 1 1 0 0),(6,.mp 2),(19,J s.cells.length),(20,J c),(7,J c),(8,J ((i:Int)-1)),(9,J ((j:Int)-1))] (by simp[kS,sa]) ?_;have q9:=et (show j<2 ^ 62 by omega);refine a5 λΔ ζ=>?_;refine Ω.c (Vv s μ p ((i:Int)-1,(j:Int)-1) c bg (hv _ (List.getElem_mem bg)) (by simp;omega) (by simp;omega)) (b9.refl _) η η ?_;simp;(repeat (rw[ae];simp[]));apply ζ;have Wx:s.vn p ((i:Int)-1,(j:Int)-1) c=q ((i:Int)-1,(j:Int)-1):=by rw[Χ]
    rw[Wx];have dr:=Wr (q:=q) (n:=n) (i:=i) (j:=j);cases Nk:q ((i:Int)-1,(j:Int)-1)
    ·refine ay rfl ?_;refine aT q9 ?_;rw[Nk] at dr;refine W.to (nX (j+1) γ γ) ?_ ?_
     ·rw[dr,cd];simp
     ·simp
    ·refine aA rfl ?_
     repeat apply al
     refine cM λΔ ζ=>?_;simp;(repeat (rw[ae];simp[Ww,kK,-nH]));apply ζ;refine aT q9 ?_;rw[Nk] at dr;refine W.to (nX (j+1) γ γ) ?_ ?_
     ·rw[dr,cd];simp
     ·simp
   ·refine ay (by simp[<-Ε];omega) ?_;refine W.exit rfl ?_;have z5:j=n+1:=γ;subst z5;refine Β ?_;refine W.to (e6 (i+1) γ γ) ?_ ?_
    ·rw[Wq]
    ·have:=et (show i<2 ^ 62 by omega);simp[this]
  ·refine ay (by simp[<-Ε];omega) ?_;refine W.exit rfl ?_;have ec:i=n+1:=γ;subst ec;obtain⟨D,fz⟩:=aO (ji s p c);have Wy:kB q n (n+1) 0=D:=by rw[Nh,fz,Χ,Ε];rfl
   rw[Wy];have Wz:D.length<=N:=by rw[fz];exact hle c bg
   refine W.to (σ':=ht::gA p L::.map (D.map dA)::cY L) (env':=[(2,.aa [aS s.Τ,aY s.ai,a7 s.cells]),(3,.aa [J p.1,J p.2]),(4,.an 0 1 0 0),(5,.an 1 1 0 0),(6,.mp 2),(19,J s.cells.length),(20,J c),(7,J c)]) ?_ rfl η;refine Β ?_;refine W.iter (λx:List (Int×Int)×List (Int×Int)×Option (θ×θ)=>(x.1++x.2.1).Perm D/\(x.2.2=none\/∃y,x.2.2=some (dA y)))
    (λx=>[(2,.aa [aS s.Τ,aY s.ai,a7 s.cells]),(3,.aa [J p.1,J p.2]),(4,.an 0 1 0 0),(5,.an 1 1 0 0),(6,.mp 2),(19,J s.cells.length),(20,J c),(7,J c),(11,cO ((cY L).length+1+1+1+1) (x.1.map aC)),(50,.it ((cY L).length+1+1+1))])
    (λx=>ht::gA p L::.map (D.map dA)::(cY L++(.iter 2 (x.2.1.map dA) x.2.2::bF 112 2 (x.1.map aC)))) (λx=>x.2.1.length) ([],D,none) ⟨η,.inl rfl⟩ (by simp[bF]) (by simp[cO]) (λx U vB=>?_)
   obtain⟨K,aj,cur⟩:=x;obtain⟨ς,CL⟩:=U;simp only at ς CL
   repeat apply al
   cases aj with
   | nil=>
    refine a5 λΔ ζ=>?_;apply ζ
    repeat apply al
    refine ay rfl ?_;refine W.exit rfl ?_;have vC:K.Perm D:=by simpa using ς
    repeat apply al
    have Nl:K.length<=N:=by rw[vC.length_eq];exact Wz
    have WA:K.mergeSort eI=D:=by
     rw[fz] at vC ⊢;exact V9 vC (Wn s p c)
    refine W.g8 (A:=[]) Ρ [(2,.aa [aS s.Τ,aY s.ai,a7 s.cells]),(3,.aa [J p.1,J p.2]),(4,.an 0 1 0 0),(5,.an 1 1 0 0),(6,.mp 2),(19,J s.cells.length),(20,J c),(11,cO ((cY L).length+1+1+1+1) (D.map aC))]
     (ht::gA p L::.map (D.map dA)::(cY L++(.iter 2 [] cur::bF 112 2 (D.map aC)))) ?_ (by
     clear vB e6 ω kG fR hle hv sA;by_cases Μ:K=[]
     ·subst Μ;have WB:D=[]:=vC.symm.eq_nil;rw[WB];simp only[List.map_nil,jg,show cO ((cY L).length+1+1+1+1) []=.sl true 0 [] from rfl];simp;(repeat (rw[ae];simp[]));refine Ω.c (Wc _ (by simp[hG])) (b9.refl _) (by simp[hG]) η ?_;simp;(repeat (rw[ae];simp[]));(try simp)
     ·have xB:K.map aC≠[]:=by simpa using Μ
      have WC:D≠[]:=λe=>Μ (by rw[e] at vC;exact vC.eq_nil)
      have Nm:D.map aC≠[]:=by simpa using WC
      rw[o1 xB,fF xB,o1 Nm,fF Nm];simp;(repeat (rw[ae];simp[]));have oG:aK 0 (.fn (.func 174) [] []):=by simp[hG]
      refine ak.one (fA K Nl) ((cY L).length+1+1+1+1) η (nP si) (nP si) (by simp[jL,oG.kh 1]) (by simp[fB]) (by simp[jM,oG.dO [(cY L).length+1+1+1+1]]) ?_;simp[dO,g5];(repeat (rw[ae];simp[]));(try simp[WA,vC.length_eq]))
    refine W.cut ((cY L).length+1+1+1) (Nat.zero_le _) [(2,.aa [aS s.Τ,aY s.ai,a7 s.cells]),(3,.aa [J p.1,J p.2]),(4,.an 0 1 0 0),(5,.an 1 1 0 0),(6,.mp 2),(19,J s.cells.length),(20,J c),(11,ev 2 (D.map aC))] η (λid r b7 ι=>?_) ?_ ?_
    ·refine kG D r ?_;have e:ht::gA p L::.map (D.map dA)::(cY L++(.iter 2 [] cur::bF 112 2 (D.map aC)))=(ht::gA p L::.map (D.map dA)::cY L)++(.iter 2 [] cur::bF 112 2 (D.map aC)):=η;rw[e,dv (by simpa using b7)] at ι;exact cx ι
    ·have WE:eE ((cY L).length+1+1+1) (ht::gA p L::.map (D.map dA)::(cY L++(.iter 2 [] cur::bF 112 2 (D.map aC)))) (cO ((cY L).length+1+1+1+1) (D.map aC)) (ev 2 (D.map aC)):=xA (t:=112) γ (λυ=>by rw[fF υ];simp) (λe he a κ=>by
      obtain⟨z,_,rfl⟩:=List.mem_map.1 he;exact(si z a κ).mono (Nat.zero_le _))
     intro z Μ;simp only[List.mem_cons,List.not_mem_nil,or_false] at Μ;rcases Μ with rfl|rfl|rfl|rfl|rfl|rfl|rfl|rfl
     all_goals first|exact WE|exact .low (by simp[kS,sa])
    ·obtain⟨ks,p7⟩:=aO (L++[ev 2 (D.map aC)]);have vy:L.length<2 ^ 30:=by rw[av];simp;omega
     refine W.to (σ':=ht::gA p L::.map (D.map dA)::cY L) (env':=[(2,.aa [aS s.Τ,aY s.ai,a7 s.cells]),(3,.aa [J p.1,J p.2]),(4,.an 0 1 0 0),(5,.an 1 1 0 0),(6,.mp 2),(19,J s.cells.length),(20,J c),(11,ev 2 (D.map aC))]) ?_ η η
     repeat apply al
     refine W.g8 (A:=[65]) Ρ [(2,.aa [aS s.Τ,aY s.ai,a7 s.cells]),(3,.aa [J p.1,J p.2]),(4,.an 0 1 0 0),(5,.an 1 1 0 0),(6,.mp 2),(19,J s.cells.length),(20,J c)] (ht::gA p ks::.map (D.map dA)::cY ks) ?_ (by
      clear vB e6 ω kG fR hle hv;obtain⟨Nn,Np,sl,k0⟩:=Hz 2 (D.map aC);rw[k0] at p7 ⊢;by_cases Μ:L=[]
      ·have WG:ks=[.sl Nn Np sl]:=by rw[p7,Μ];rfl
       rw[WG];subst Μ;simp only[gA,cY,nb,List.isEmpty_nil,List.isEmpty_cons,if_true,if_false];(try simp);(repeat (rw[ae];simp[]));(try simp[])
      ·have hL:L.length<=4294967295:=by omega
       have c1:nb L=.ms 3 L.length 0 L.length:=by unfold nb;rw[if_neg (by simpa using Μ)]
       have c2:cY L=[.cells 111 1 L]:=by unfold cY;rw[if_neg (by simpa using Μ)]
       have c3:nb ks=.ms 3 (L.length+1) 0 (L.length+1):=by rw[p7];unfold nb;rw[if_neg η];simp
       have c4:cY ks=[.cells 111 1 (L++[.sl Nn Np sl])]:=by rw[p7];unfold cY;rw[if_neg η]
       simp only[gA];rw[c1,c2,c3,c4];(try simp);(repeat (rw[ae];simp[hL]));(try simp[hL]))
     have kK:∀es,nH (ht::gA p ks::.map es::cY ks) 2=true:=λes=>by unfold cY;cases ks.isEmpty<;>simp[nH]
     repeat apply al
     refine cM λΔ ζ=>?_;simp;(repeat (rw[ae];simp[kK,-nH]));apply ζ;refine Β ?_;have sx:ks=(List.range (c+1)).map λc=>ev 2 ((ji s p c).map aC):=by rw[p7,av,fz,List.range_succ];simp
     refine W.to (ω (c+1) γ γ) ?_ ?_
     ·rw[<-sx]
     ·simp[eX bg (show s.cells.length<2 ^ 62 by omega)]
   | cons y aj=>
    refine a5 λΔ ζ=>?_;intro i hi;obtain⟨x,U⟩:=aO ((y::aj)[i]'(by simpa using hi));have HA:(dA y::List.map dA aj)[i]?=some (dA x):=by
     have:(List.map dA (y::aj))[i]?=some (dA x):=by
      rw[List.getElem?_map,ba (by simpa using hi),U];rfl
     simpa using this
    have HB:(dA y::List.map dA aj).eraseIdx i=((y::aj).eraseIdx i).map dA:=by
     exact Nj dA (y::aj) i
    rw[HA,HB];simp;(repeat (rw[ae];simp[]));apply ζ
    repeat apply al
    refine aA rfl ?_
    repeat apply al
    refine cR (A:=[12]) Ρ λΔ ζ=>aV ?_;apply ζ;have fs:∀r∈ht::gA p L::.map (D.map dA)::(cY L++(.iter 2 (((y::aj).eraseIdx i).map dA) (some (dA x))::bF 112 2 (K.map aC))),eV (ht::gA p L::.map (D.map dA)::(cY L++(.iter 2 (((y::aj).eraseIdx i).map dA) (some (dA x))::bF 112 2 (K.map aC)))).length r:=by
     intro r ι;have fh:r∈ht::gA p L::.map (D.map dA)::cY L\/r∈(.iter 2 (((y::aj).eraseIdx i).map dA) (some (dA x))::bF 112 2 (K.map aC)):=by
      have:r∈(ht::gA p L::.map (D.map dA)::cY L)++(.iter 2 (((y::aj).eraseIdx i).map dA) (some (dA x))::bF 112 2 (K.map aC)):=by simpa using ι
      exact List.mem_append.1 this
     rcases fh with fh|fh
     ·exact eV.mono (kG D r fh) η
     ·rcases List.mem_cons.1 fh with rfl|fh
      ·refine⟨η,λe he=>?_,λe he=>?_⟩
       ·obtain⟨z,_,rfl⟩:=List.mem_map.1 he;simp
       ·cases he;simp
      ·unfold bF at fh;split at fh
       ·simp at fh
       ·simp at fh;subst fh;intro e he a κ;obtain⟨z,_,rfl⟩:=List.mem_map.1 he;simp[θ.cells] at κ;rcases κ with rfl|rfl<;>simp
    refine W.to (σ':=(ht::gA p L::.map (D.map dA)::(cY L++(.iter 2 (((y::aj).eraseIdx i).map dA) (some (dA x))::bF 112 2 (K.map aC))))++[.cells 112 2 [aC x]]) (env':=[(12,.an (ht::gA p L::.map (D.map dA)::(cY L++(.iter 2 (((y::aj).eraseIdx i).map dA) (some (dA x))::bF 112 2 (K.map aC)))).length 1 0 0),(2,.aa [aS s.Τ,aY s.ai,a7 s.cells]),(3,.aa [J p.1,J p.2]),(4,.an 0 1 0 0),(5,.an 1 1 0 0),(6,.mp 2),(19,J s.cells.length),(20,J c),(7,J c),(11,cO ((cY L).length+1+1+1+1) (K.map aC)),(50,.it ((cY L).length+1+1+1))]) ?_ η η;refine W.m9 (σ0:=ht::gA p L::.map (D.map dA)::(cY L++(.iter 2 (((y::aj).eraseIdx i).map dA) (some (dA x))::bF 112 2 (K.map aC)))) (Nat.zero_le _) fs η [(12,.aa [J x.1,J x.2]),(2,.aa [aS s.Τ,aY s.ai,a7 s.cells]),(3,.aa [J p.1,J p.2]),(4,.an 0 1 0 0),(5,.an 1 1 0 0),(6,.mp 2),(19,J s.cells.length),(20,J c),(7,J c),(11,cO ((cY L).length+1+1+1+1) (K.map aC)),(50,.it ((cY L).length+1+1+1))] (by
     have hb:=DC (h:=(cY L).length+((bF 112 2 (K.map aC)).length+1)+1+1+1) (id:=(cY L).length+1+1+1+1) (l:=K.map aC) (λυ=>by rw[fF υ];simp);clear vB e6 ω kG fs fR hle hv sA;simp[kS,sa,UO,hb]
     ) ?_
    repeat apply al
    have Nl:K.length<2 ^ 20:=by
     have:=ς.length_eq;simp at this;omega
    refine W.g8 (A:=[58]) Ρ [(2,.aa [aS s.Τ,aY s.ai,a7 s.cells]),(3,.aa [J p.1,J p.2]),(4,.an 0 1 0 0),(5,.an 1 1 0 0),(6,.mp 2),(19,J s.cells.length),(20,J c),(7,J c),(11,cO ((cY L).length+1+1+1+1) ((K++[x]).map aC)),(50,.it ((cY L).length+1+1+1))]
     (ht::gA p L::.map (D.map dA)::(cY L++(.iter 2 (((y::aj).eraseIdx i).map dA) (some (dA x))::bF 112 2 ((K++[x]).map aC)))) ?_ (by
     clear vB e6 ω kG fs fR hle hv sA;by_cases Μ:K=[]
     ·subst Μ;simp only[List.map_nil,jg,show cO ((cY L).length+1+1+1+1) []=.sl true 0 [] from rfl];(try simp);(repeat (rw[ae];simp[jg]));(try simp[jg]);exact⟨rfl,rfl⟩
     ·have hL:K.length<=4294967295:=by omega
      have xB:K.map aC≠[]:=by simpa using Μ
      rw[o1 xB,fF xB];(try simp);(repeat (rw[ae];simp[hL]));(try simp[hL]);rw[fF η,o1 η];simp)
    refine Β ?_;have Nq:(x::(y::aj).eraseIdx i).Perm (y::aj):=by
     rw[U];exact Ni _ _ _
    refine W.to (vB (K++[x],(y::aj).eraseIdx i,some (dA x)) ⟨?_,.inr ⟨x,rfl⟩⟩ ?_) η η
    ·simp only[List.append_assoc,List.singleton_append];exact(Nq.append_left K).trans ς
    ·have:=Nq.length_eq;simp at this;simp only[List.length_cons];omega
 ·have sB:c=s.cells.length:=by simp at ε;omega
  subst sB;refine W.exit rfl ?_
  repeat apply al
  clear ω;have sA:∀e∈L,∀a∈e.cells,aK 0 a:=by
   rw[av];intro e he a κ;obtain⟨x,_,rfl⟩:=List.mem_map.1 he;unfold ev at κ;split at κ<;>simp[θ.cells] at κ<;>subst κ<;>simp
  refine W.g8 (A:=[]) Ρ [(4,.an 0 1 0 0)] (.cells 110 3 [.a6 [J p.1,J p.2,nb L]]::gA p L::.map []::cY L) ?_ (by
   simp only[gA];by_cases Μ:L=[]
   ·rw[show nb L=.sl true 0 [] by rw[Μ];rfl];(try simp);(repeat (rw[ae];simp[]));(try simp[])
   ·rw[show nb L=.ms 3 L.length 0 L.length by unfold nb;rw[if_neg (by simpa using Μ)],show cY L=[.cells 111 1 L] by unfold cY;rw[if_neg (by simpa using Μ)]];(try simp);(repeat (rw[ae];simp[]));(try simp[]))
  refine W.cut 0 (Nat.zero_le _) [(4,.aa [J p.1,J p.2,ev 1 L])] (Nat.zero_le _) (λid r b7=>γ) (λz Μ=>by
   simp at Μ;subst Μ;exact eE.struct (k:=3) (t:=110) (l:=[J p.1,J p.2,nb L]) (Nat.zero_le _) rfl rfl (λx a bP I R=>by
    match x with
    | 0=>simp at I R;subst I;subst R;exact .low η
    | 1=>simp at I R;subst I;subst R;exact .low η
    | 2=>
     simp at I R;subst I;subst R;exact xA (id:=3) (t:=111) (l:=L) (Nat.zero_le _) (λυ=>by
      have:cY L=[.cells 111 1 L]:=by unfold cY;rw[if_neg (by simpa using υ)]
      simp[this]) sA
    | x+3=>simp at I)) ?_
  refine Β ?_;refine W.rt ?_;refine cp.a6 (b9.cons (.refl _) (b9.cons (.refl _) (b9.cons (.trans cp.acc ?_) .nil)));rw[av];show cp _ (.sl false 1 (((List.range s.cells.length).map (ji s p)).map kg));rw[List.map_map];refine cp.map λx _=>.one cp.acc ?_ rfl;obtain⟨b,k,l,he⟩:=Hz 2 ((ji s p x).map aC);rw[he];rfl
structure lN where
 c:Int
 n:Int
 least:Int
 some:Bool
def lN.take (b:lN) (c n m:Int):lN:=if b.some=false\/m<b.least then⟨c,n,m,true⟩ else b
abbrev lO (b:lN):θ:=.a6 [J b.c,J b.n,J b.least,bs b.some]
theorem WH (b:lN) (c n m:Int):ak Tryz.prog 76 [.an 0 1 0 0,.a6 [J c,J n],J m] [.cells 104 4 [lO b]] (λr s=>r=.a3 []/\s=[.cells 104 4 [lO (b.take c n m)]]) (λ_ _=>False):=by
 obtain⟨dQ,uU,l0,E5⟩:=b;refine ak.body Ρ Tryz.func76 rfl rfl Tryz.ntmps76 rfl rfl η ?_;refine Β ?_;cases E5
 ·have e:lN.take ⟨dQ,uU,l0,false⟩ c n m=⟨c,n,m,true⟩:=by simp[lN.take]
  rw[e];refine Β ?_;refine aA rfl ?_;refine Β ?_;exact W.nil ⟨_,rfl,rfl,rfl⟩
 ·refine Β ?_;by_cases h:m<l0
  ·have e:lN.take ⟨dQ,uU,l0,true⟩ c n m=⟨c,n,m,true⟩:=by simp[lN.take,h]
   rw[e];refine aA (by simp[h]) ?_;refine Β ?_;exact W.nil ⟨_,rfl,rfl,rfl⟩
  ·have e:lN.take ⟨dQ,uU,l0,true⟩ c n m=⟨dQ,uU,l0,true⟩:=by simp[lN.take,h]
   rw[e];refine ay (by simp[h]) ?_;refine Β ?_;exact W.nil ⟨_,rfl,rfl,rfl⟩
abbrev il (e:Int×Int):θ×θ:=(J e.1,J e.2)
def tF:List (Int×Int)->Int->Int->List (Int×Int)
 | [],k,n=>[(k,IntKind.i64.wrap (0+n))]
 | e::r,k,n=>if k=e.1 then(k,IntKind.i64.wrap (e.2+n))::r else e::tF r k n
theorem WI (k n:Int):∀(m:List (Int×Int)) (d:Nat),(hF bf 113 (J k) (m.map il) d=some none/\tF m k n=m++[(k,IntKind.i64.wrap (0+n))])\/∃i v,i<m.length/\hF bf 113 (J k) (m.map il) d=some (some (d+i,J v))/\tF m k n=m.set i (k,IntKind.i64.wrap (v+n)):=by
 intro m
 induction m with
 | nil=>intro d;exact .inl ⟨rfl,rfl⟩
 | cons e r ω=>
  intro d;have Χ:aeqv bf 113 (J k) (J e.1)=some (k==e.1):=by simp[aeqv,jK,mg,iy]
  by_cases h:k=e.1
  ·refine .inr ⟨0,e.2,η,?_,by simp[tF,h]⟩;simp only[List.map_cons,hF,Χ];simp[h]
  ·have hb:(k==e.1)=false:=by simpa using h
   rcases ω (d+1) with⟨I,R⟩|⟨i,v,I,R,ν⟩
   ·refine .inl ⟨?_,by simp[tF,h,R]⟩;simp only[List.map_cons,hF,Χ,hb,cond_false];exact I
   ·refine .inr ⟨i+1,v,by simp;omega,?_,by simp[tF,h,ν]⟩;simp only[List.map_cons,hF,Χ,hb,cond_false];rw[R];have:d+1+i=d+(i+1):=γ;rw[this]
theorem ak.WJ {P:Program} {σ:List Row} {g:FuncId} {as0 first:List θ} {row oX:Row} {r:θ} {K E:θ->List Row->Prop} (h:ak P g as0 [row] (λa s=>a=r/\s=[oX]) (λ_ _=>False)) (id:Nat) (b7:σ[id]?=some row) (ς:jf row) (hO:jf oX) (κ:∀a∈as0,fB 1 a) (ι:fB 1 r)
  {args:List θ} (nI:first++args=as0.map (dO [id])) (ζ:K (dO [id] r) (σ.set id oX)):hV P (.fn (.func g) first []) args σ K E:=by
 have aX:=ak.rows (σ:=σ) h [id] η rfl (λj i δ=>by
  cases j with
  | zero=>simp at δ;subst δ;exact b7
  | succ j=>simp at δ) (λr ι=>by simp at ι;subst ι;exact ς) (by simpa using κ) (K':=K) (E':=E) (λa s ⟨I,R⟩=>by
   subst I;subst R;refine⟨λx U=>by simp at U;subst U;exact hO,ι,?_⟩;simpa[names,vj,je] using ζ) (λa s h=>h.elim)
 exact ak.call (first:=first) (captured:=[]) (by rw[List.append_nil,nI];exact aX)
def tG (s:aL) (f:Found) (c n:Nat) (m:List (Int×Int)) (j:Nat):List (Int×Int):=(((f.cells[c]?).getD []).take j).foldl (λm r=>tF m (s.iF (f.u,f.v) r n) (f.many c)) m
def vD (s:aL) (F:List Found) (c n i:Nat):List (Int×Int):=(F.take i).foldl (λm f=>tG s f c n m ((f.cells[c]?).getD []).length) []
def tH (a:Int) (l:List (Int×Int)):Int:=l.foldl (λa e=>max a e.2) a
def DD (s:aL) (F:List Found) (c n:Nat):Int:=tH 0 (vD s F c n F.length)
def vE (s:aL) (F:List Found) (c:Nat) (b:lN) (n:Nat):lN:=(List.range n).foldl (λb (n:Nat)=>b.take c n (DD s F c n)) b
def tI (s:aL) (F:List Found) (c:Nat):lN:=(List.range c).foldl (λb (c:Nat)=>vE s F c b s.ai.length) ⟨0,0,0,false⟩
theorem WK (s:aL) (F:List Found) (c:Nat) (b:lN) (n:Nat):vE s F c b (n+1)=(vE s F c b n).take c n (DD s F c n):=by simp[vE,List.range_succ,List.foldl_append]
theorem WL (s:aL) (F:List Found) (c:Nat):tI s F (c+1)=vE s F c (tI s F c) s.ai.length:=by simp[tI,List.range_succ,List.foldl_append]
theorem WM (s:aL) (f:Found) (c n:Nat) (m:List (Int×Int)) (j:Nat) (h:j<((f.cells[c]?).getD []).length):tG s f c n m (j+1)=tF (tG s f c n m j) (s.iF (f.u,f.v) ((f.cells[c]?).getD [])[j] n) (f.many c):=by
 unfold tG;rw[List.take_succ_eq_append_getElem h,List.foldl_append];rfl
theorem WN (s:aL) (F:List Found) (c n i:Nat) (h:i<F.length):vD s F c n (i+1)=tG s F[i] c n (vD s F c n i) ((F[i].cells[c]?).getD []).length:=by
 unfold vD;rw[List.take_succ_eq_append_getElem h,List.foldl_append];rfl
theorem WO {a:Int} {l m:List (Int×Int)} (h:l.Perm m):tH a l=tH a m:=h.foldl_eq' (λx _ y _ z=>γ) a
def sC (s:aL) (F:List Found):Int×Int×Int×Int:=
 if(eH s true F).2.2≠0 then(0,0,0,(eH s true F).2.2)
 else let b:=tI s F s.cells.length;if b.some=false\/b.least=g7 F then(0,0,0,11) else(b.c,b.n,b.least,0)
structure DF (s:aL) (F:List Found):Prop where
 mA:F.length<2 ^ 20
 cells:∀f∈F,f.cells.length=s.cells.length/\(∀c∈f.cells,c.length<2 ^ 20/\∀r∈c,r.1<s.Τ.length/\r.2<s.Τ.length)
 many:∀f∈F,f.cells.length<2 ^ 62/\∀(gy:Int) i,i<=f.cells.length->ik f.cells gy i<2 ^ 62
 count:g7 F<2 ^ 62
theorem WQ (s:aL) (μ:s.small) (F:List Found) (e':m' s F) (c5:DF s F) :
  Ω Tryz.prog 26 [dH s] (.a3 [J (sC s F).1,J (sC s F).2.1,J (sC s F).2.2.1,J (sC s F).2.2.2]):=by
 refine ak.body Ρ Tryz.func26 rfl rfl Tryz.ntmps26 rfl rfl η ?_;refine Β ?_;refine cI ?_;refine cR (A:=[6]) Ρ λΔ ζ=>aV ?_;refine Ω.d (xx s μ true F e') (aV ?_);apply ζ;by_cases b:(eH s true F).2.2=0
 case neg=>
  have e:sC s F=(0,0,0,(eH s true F).2.2):=by unfold sC;rw[if_pos b]
  rw[e];generalize (eH s true F).2.2=eM at b;refine Β ?_;refine aA (by simp[b]) ?_;refine Β ?_;refine W.drop (h:=0) (σ':=[]) (Nat.zero_le _) (Nat.zero_le _) η rfl [(2,J 0),(3,J 0),(4,J 0),(5,J eM)] η ?_;refine W.rt ?_;exact .refl _
 have e:eH s true F=(s,F,0):=by
  unfold eH at b ⊢;split at b
  ·rename_i h;simp at b;exact absurd b h
  ·split at b
   ·simp at b
   ·rename_i I R;rw[if_neg I,if_neg R]
 have Θ:sC s F=let b:=tI s F s.cells.length;if b.some=false\/b.least=g7 F then(0,0,0,11) else(b.c,b.n,b.least,0):=by unfold sC;rw[if_neg (by simpa using b)]
 rw[Θ,e];clear Θ;refine W.fix (id:=0) (σ':=[]) (Nat.zero_le _) rfl η η rfl [(5,J 0),(6,.aa [aS s.Τ,aY s.ai,a7 s.cells]),(7,cj F)] η ?_;refine Β ?_;refine ay rfl ?_
 repeat apply al
 refine cR (A:=[8]) Ρ λΔ ζ=>aV ?_;apply ζ;refine Β ?_;have ig:s.cells.length<2 ^ 30:=μ.2.2.1;have gΜ:s.ai.length<2 ^ 30:=μ.2.1;have vF:∀{b:lN} (M:List (Int×Int)),∀r∈[Row.cells 104 4 [lO b],.map (M.map il)],eV [Row.cells 104 4 [lO b],.map (M.map il)].length r:=λ{b} M r ι=>by
  simp only[List.mem_cons,List.not_mem_nil,or_false] at ι;rcases ι with rfl|rfl
  ·simp[eV,θ.cells]
  ·intro e he;obtain⟨x,_,rfl⟩:=List.mem_map.1 he;simp
 refine W.iter (λc:Nat=>c<=s.cells.length) (λc=>[(6,.aa [aS s.Τ,aY s.ai,a7 s.cells]),(7,cj F),(8,.an 0 1 0 0),(9,.fn (.func 76) [.an 0 1 0 0] []),(33,J s.cells.length),(34,J c)])
  (λc=>[.cells 104 4 [lO (tI s F c)]]) (λc=>s.cells.length-c) 0 (Nat.zero_le _) rfl η (λc jE ω=>?_)
 refine Β ?_;refine W.fL rfl (λε=>?_) (λε=>?_)
 ·have kQ:c<s.cells.length:=by simpa using ε
  refine Β ?_;obtain⟨bZ,jF⟩:=aO (tI s F c);refine W.iter (λn:Nat=>n<=s.ai.length) (λn=>[(6,.aa [aS s.Τ,aY s.ai,a7 s.cells]),(7,cj F),(8,.an 0 1 0 0),(9,.fn (.func 76) [.an 0 1 0 0] []),(10,J c),(33,J s.cells.length),(34,J c),(40,J s.ai.length),(41,J n)])
   (λn=>[.cells 104 4 [lO (vE s F c bZ n)]]) (λn=>s.ai.length-n) 0 (Nat.zero_le _) (by rw[jF];rfl) η (λn qW e6=>?_)
  refine Β ?_;refine W.fL rfl (λbg=>?_) (λbg=>?_)
  ·have qR:n<s.ai.length:=by simpa using bg
   obtain⟨bK,kN⟩:=aO (vE s F c bZ n);refine W.to (σ':=[.cells 104 4 [lO bK]]) (env':=[(6,.aa [aS s.Τ,aY s.ai,a7 s.cells]),(7,cj F),(8,.an 0 1 0 0),(9,.fn (.func 76) [.an 0 1 0 0] []),(10,J c),(33,J s.cells.length),(34,J c),(40,J s.ai.length),(41,J n)]) ?_ (by rw[kN]) η;refine Β ?_;refine W.iter (λi:Nat=>i<=F.length) (λi=>[(6,.aa [aS s.Τ,aY s.ai,a7 s.cells]),(7,cj F),(8,.an 0 1 0 0),(9,.fn (.func 76) [.an 0 1 0 0] []),(10,J c),(33,J s.cells.length),(34,J c),(40,J s.ai.length),(41,J n),(11,J n),(12,.mp 1),(45,cj F),(46,J F.length),(47,J i)])
    (λi=>[.cells 104 4 [lO bK],.map ((vD s F c n i).map il)]) (λi=>F.length-i) 0 (Nat.zero_le _) rfl η (λi hi vB=>?_)
   refine Β ?_;by_cases k2:i<F.length
   ·refine aA (by simp[k2]) ?_;obtain⟨M,cd⟩:=aO (vD s F c n i);have nY:=WN s F c n i k2;rw[<-cd] at nY;obtain⟨z6,ia⟩:=c5.cells _ (List.getElem_mem k2);obtain⟨jS,h2⟩:=c5.many _ (List.getElem_mem k2);generalize Υ:F[i]=f at nY z6 ia jS h2;have bA:c<f.cells.length:=by rw[z6];exact kQ
    refine W.to (σ':=[.cells 104 4 [lO bK],.map (M.map il)]) (env':=[(6,.aa [aS s.Τ,aY s.ai,a7 s.cells]),(7,cj F),(8,.an 0 1 0 0),(9,.fn (.func 76) [.an 0 1 0 0] []),(10,J c),(33,J s.cells.length),(34,J c),(40,J s.ai.length),(41,J n),(11,J n),(12,.mp 1),(45,cj F),(46,J F.length),(47,J i)]) ?_ (by rw[cd]) η
    repeat apply al
    refine cR (A:=[14]) Ρ λΔ ζ=>fV (Ζ k2 Υ) ?_;apply ζ;refine W.m9 (σ0:=[.cells 104 4 [lO bK],.map (M.map il)]) (Nat.zero_le _) (vF _) η [(14,.aa [J f.u,J f.v,lJ f.cells]),(6,.aa [aS s.Τ,aY s.ai,a7 s.cells]),(7,cj F),(8,.an 0 1 0 0),(9,.fn (.func 76) [.an 0 1 0 0] []),(10,J c),(33,J s.cells.length),(34,J c),(40,J s.ai.length),(41,J n),(11,J n),(12,.mp 1),(45,cj F),(46,J F.length),(47,J i)] (by simp[kS,sa]) ?_;refine aT bA ?_;have z7:(f.cells[c]?).getD []=f.cells[c]:=by simp[bA]
    rw[z7] at nY;have z8:=ia _ (List.getElem_mem bA);have p8:=WM s f c n M;rw[z7] at p8;generalize f.cells[c]=C at nY z8 p8;obtain⟨WR,HC⟩:=z8;refine W.iter (λj:Nat=>j<=C.length) (λj=>[(14,.aa [J f.u,J f.v,lJ f.cells]),(6,.aa [aS s.Τ,aY s.ai,a7 s.cells]),(7,cj F),(8,.an 0 1 0 0),(9,.fn (.func 76) [.an 0 1 0 0] []),(10,J c),(33,J s.cells.length),(34,J c),(40,J s.ai.length),(41,J n),(11,J n),(12,.mp 1),(45,cj F),(46,J F.length),(47,J i),(55,kg C),(56,J C.length),(57,J j)])
     (λj=>[.cells 104 4 [lO bK],.map ((tG s f c n M j).map il)]) (λj=>C.length-j) 0 (Nat.zero_le _) (by simp[tG]) η (λj δ nX=>?_)
    refine Β ?_;by_cases lP:j<C.length
    ·refine aA (by simp[lP]) ?_;obtain⟨M2,xC⟩:=aO (tG s f c n M j);have p9:=p8 j lP;rw[<-xC] at p9;refine W.to (σ':=[.cells 104 4 [lO bK],.map (M2.map il)]) (env':=[(14,.aa [J f.u,J f.v,lJ f.cells]),(6,.aa [aS s.Τ,aY s.ai,a7 s.cells]),(7,cj F),(8,.an 0 1 0 0),(9,.fn (.func 76) [.an 0 1 0 0] []),(10,J c),(33,J s.cells.length),(34,J c),(40,J s.ai.length),(41,J n),(11,J n),(12,.mp 1),(45,cj F),(46,J F.length),(47,J i),(55,kg C),(56,J C.length),(57,J j)]) ?_ (by rw[xC]) η;obtain⟨oA,pZ⟩:=HC _ (List.getElem_mem lP);generalize ι:C[j]=r at p9 oA pZ
     repeat apply al
     refine cR (A:=[16]) Ρ λΔ ζ=>fV (Ζ lP ι) ?_;apply ζ;refine W.m9 (σ0:=[.cells 104 4 [lO bK],.map (M2.map il)]) (Nat.zero_le _) (vF _) η [(16,.aa [J r.1,J r.2]),(14,.aa [J f.u,J f.v,lJ f.cells]),(6,.aa [aS s.Τ,aY s.ai,a7 s.cells]),(7,cj F),(8,.an 0 1 0 0),(9,.fn (.func 76) [.an 0 1 0 0] []),(10,J c),(33,J s.cells.length),(34,J c),(40,J s.ai.length),(41,J n),(11,J n),(12,.mp 1),(45,cj F),(46,J F.length),(47,J i),(55,kg C),(56,J C.length),(57,J j)] (by simp[kS,sa]) ?_
     repeat apply al
     have q9:=eX lP (show C.length<2 ^ 62 by omega);rcases WI (s.iF (f.u,f.v) r n) (f.many c) M2 0 with⟨Ξ,ah⟩|⟨bY,v,cP,Ξ,ah⟩
     ·refine W.draw (A:=[]) Ρ mixed λΔ ζ=>?_;simp;(repeat (rw[dZ];simp[Ξ,iy]));try rw[dY]
      refine eS (Ω.p (zT s μ (f.u,f.v) r n qR oA pZ) (b9.refl _) η η) ?_;simp[Ξ,iy];(repeat (rw[dZ];simp[Ξ,iy]));try rw[dY]
      refine eS (Ω.p (Ds f c jS (h2 c)) (b9.refl _) η η) ?_;simp[Ξ,iy];(repeat (rw[dZ];simp[Ξ,iy]));try rw[dY]
      refine fC (ζ _ _ ?_);refine aT q9 ?_;refine W.to (nX (j+1) lP γ) ?_ ?_
      ·rw[p9,ah];simp
      ·simp[q9]
     ·refine W.draw (A:=[]) Ρ mixed λΔ ζ=>?_;simp;(repeat (rw[dZ];simp[Ξ,iy]));try rw[dY]
      refine eS (Ω.p (zT s μ (f.u,f.v) r n qR oA pZ) (b9.refl _) η η) ?_;simp[Ξ,iy];(repeat (rw[dZ];simp[Ξ,iy]));try rw[dY]
      refine eS (Ω.p (Ds f c jS (h2 c)) (b9.refl _) η η) ?_;simp[Ξ,iy];(repeat (rw[dZ];simp[Ξ,iy]));try rw[dY]
      refine fC (ζ _ _ ?_);refine aT q9 ?_;refine W.to (nX (j+1) lP γ) ?_ ?_
      ·rw[p9,ah];simp
      ·simp[q9]
    ·have z5:j=C.length:=by omega
     subst z5;have ja:=eX k2 (show F.length<2 ^ 62 by have:=c5.mA;omega);refine ay η ?_;refine W.exit rfl ?_;refine aT ja ?_;refine W.to (vB (i+1) k2 γ) ?_ ?_
     ·rw[nY]
     ·simp[ja]
   ·have ec:i=F.length:=by omega
    subst ec;refine ay η ?_;refine W.exit rfl ?_;obtain⟨M,cd⟩:=aO (vD s F c n F.length);have WS:DD s F c n=tH 0 M:=by rw[cd];rfl
    refine W.to (σ':=[.cells 104 4 [lO bK],.map (M.map il)]) (env':=[(6,.aa [aS s.Τ,aY s.ai,a7 s.cells]),(7,cj F),(8,.an 0 1 0 0),(9,.fn (.func 76) [.an 0 1 0 0] []),(10,J c),(33,J s.cells.length),(34,J c),(40,J s.ai.length),(41,J n),(11,J n),(12,.mp 1)]) ?_ (by rw[cd]) η;refine Β ?_;refine W.iter (λx:Int×List (Int×Int)×Option (θ×θ)=>tH x.1 x.2.1=tH 0 M) (λx=>[(6,.aa [aS s.Τ,aY s.ai,a7 s.cells]),(7,cj F),(8,.an 0 1 0 0),(9,.fn (.func 76) [.an 0 1 0 0] []),(10,J c),(33,J s.cells.length),(34,J c),(40,J s.ai.length),(41,J n),(11,J n),(12,.mp 1),(17,J x.1),(76,.it 2)])
     (λx=>[.cells 104 4 [lO bK],.map (M.map il),.iter 1 (x.2.1.map il) x.2.2]) (λx=>x.2.1.length) (0,M,none) rfl rfl η (λx U WT=>?_)
    obtain⟨nN,aj,cur⟩:=x;simp only at U
    repeat apply al
    cases aj with
    | nil=>
     refine a5 λΔ ζ=>?_;apply ζ
     repeat apply al
     refine ay rfl ?_;refine W.exit rfl ?_;have HD:nN=DD s F c n:=by rw[WS,<-U];rfl
     have z9:=eX qR (show s.ai.length<2 ^ 62 by omega);refine a5 λΔ ζ=>?_;refine ak.WJ (as0:=[.an 0 1 0 0,.a6 [J c,J n],J nN]) (WH bK c n nN) 0 rfl (by simp[jf,θ.cells]) (by simp[jf,θ.cells]) (by simp[fB,pR]) (by simp[fB]) rfl ?_;simp[dO,g5];(repeat (rw[ae];simp[]));apply ζ;refine W.drop (h:=1) (σ':=[.cells 104 4 [lO (bK.take c n nN)]]) (Nat.zero_le _) η (λid r b7 ι=>?_) rfl [(6,.aa [aS s.Τ,aY s.ai,a7 s.cells]),(7,cj F),(8,.an 0 1 0 0),(9,.fn (.func 76) [.an 0 1 0 0] []),(10,J c),(33,J s.cells.length),(34,J c),(40,J s.ai.length),(41,J n)] (by simp[kS]) ?_
     ·obtain rfl:id=0:=by omega
      simp at ι;subst ι;simp[eV,θ.cells]
     refine aT z9 ?_;refine W.to (e6 (n+1) qR γ) ?_ ?_
     ·rw[WK,<-kN,HD]
     ·simp[z9]
    | cons y aj=>
     refine a5 λΔ ζ=>?_;intro bY oH;obtain⟨x,qP⟩:=aO ((y::aj)[bY]'(by simpa using oH));have HA:(il y::List.map il aj)[bY]?=some (il x):=by
      have:(List.map il (y::aj))[bY]?=some (il x):=by
       rw[List.getElem?_map,ba (by simpa using oH),qP];rfl
      simpa using this
     have HB:(il y::List.map il aj).eraseIdx bY=((y::aj).eraseIdx bY).map il:=Nj il (y::aj) bY;rw[HA,HB];simp;(repeat (rw[ae];simp[]));apply ζ
     repeat apply al
     refine aA rfl ?_;refine Β ?_;have Nr:bY<(y::aj).length:=by simpa using oH
     have hinv:tH (max nN x.2) ((y::aj).eraseIdx bY)=tH 0 M:=by
      rw[<-U,<-WO (Ni (y::aj) bY Nr),<-qP];rfl
     have HD:max nN x.2=if nN<x.2 then x.2 else nN:=by split<;>omega
     refine W.to (WT (max nN x.2,(y::aj).eraseIdx bY,some (il x)) hinv (by simp only[List.length_eraseIdx,Nr,if_true];omega)) ?_ ?_
     ·simp
     ·simp[HD]
  ·have bC:n=s.ai.length:=by simp at bg;omega
   subst bC;have z':=eX kQ (show s.cells.length<2 ^ 62 by omega);refine W.exit rfl ?_;refine aT z' ?_;refine W.to (ω (c+1) kQ γ) ?_ ?_
   ·rw[WL,<-jF]
   ·simp[z']
 ·have ε:c=s.cells.length:=by simp at ε;omega
  subst ε;refine W.exit rfl ?_;refine Β ?_;obtain⟨⟨Ns,tC,l6,pN⟩,e1⟩:∃B,B=tI s F s.cells.length:=⟨_,rfl⟩;rw[<-e1];refine W.fix (id:=0) (σ':=[]) (Nat.zero_le _) rfl η η rfl [(7,cj F),(8,.aa [J Ns,J tC,J l6,bs pN])] η ?_;have I:∀f∈F,f.cells.length<2 ^ 62/\∀i,i<=f.cells.length->ik f.cells (-1) i<2 ^ 62:=λf Υ=>⟨(c5.many f Υ).1,(c5.many f Υ).2 (-1)⟩;cases pN
  ·refine vl ?_;refine aA rfl ?_;refine Β ?_;refine W.drop (h:=0) (σ':=[]) (Nat.zero_le _) (Nat.zero_le _) η rfl [(2,J 0),(3,J 0),(4,J 0),(5,J 11)] η ?_;refine W.rt ?_;exact .of η
  ·refine W.draw (A:=[]) Ρ mixed λΔ ζ=>hZ ?_;refine eS (Ω.p (MS F (by have:=c5.mA;omega) I c5.count) (b9.refl _) η η) ?_;simp;(repeat (rw[dZ];simp[]));try rw[dY]
   refine fC (ζ _ _ ?_);by_cases q:l6=g7 F
   ·refine aA (by simp[q]) ?_;refine Β ?_;refine W.drop (h:=0) (σ':=[]) (Nat.zero_le _) (Nat.zero_le _) η rfl [(2,J 0),(3,J 0),(4,J 0),(5,J 11)] η ?_;refine W.rt ?_;exact .of (by simp[q])
   ·refine ay (by simp[q]) ?_;refine Β ?_;refine vl ?_;refine W.drop (h:=0) (σ':=[]) (Nat.zero_le _) (Nat.zero_le _) η rfl [(2,J Ns),(3,J tC),(4,J l6),(5,J 0)] η ?_;refine W.rt ?_;exact .of (by simp[q])
theorem WU (l:List Int) (υ:l.length<2 ^ 30) :
  ak Tryz.prog 85 [.ms 0 l.length 0 l.length] [.cells 3 1 (l.map J)] (λr s=>(∃e k,r=.sl e k (l.map J)/\(l≠[]->k=1))/\s=[.cells 3 1 (l.map J)]) (λ_ _=>False):=by
 refine ak.body Ρ Tryz.func85 rfl rfl Tryz.ntmps85 rfl rfl η ?_;have hL:l.length<=4294967295:=γ;by_cases Μ:l=[]
 ·subst Μ;refine Β ?_;refine a5 λΔ ζ=>?_;intro j δ;apply ζ;by_cases nL:j=1
  ·refine aA (by simp[nL]) ?_;refine Β ?_;exact W.ret ⟨_,rfl,⟨true,0,rfl,λh=>absurd rfl h⟩,rfl⟩
  ·refine ay (by simp[nL]) ?_
   repeat apply al
   refine cR (A:=[5,7]) Ρ λΔ ζ=>aV ?_;apply ζ;refine W.cut 1 (Nat.le_refl _) [(2,.sl false 1 [])] η (λid r b7 ι=>?_) (λp ς=>?_) ?_
   ·obtain rfl:id=0:=by omega
    simp at ι;subst ι;simp[eV]
   ·obtain rfl:p=(2,.sl false 1 []):=by simpa using ς
    exact eE.own (id:=1) (t:=3) (Nat.le_refl _) rfl η η
   ·exact W.ret ⟨_,rfl,⟨false,1,rfl,λ_=>rfl⟩,rfl⟩
 ·refine Β ?_;refine iE Μ λΔ ζ=>?_;apply ζ;refine ay rfl ?_
  repeat apply al
  have nK:List.take l.length (l.map J)=l.map J:=List.take_of_length_le η
  have vG:l.length<=4294967296:=γ;refine cR (A:=[5,7]) Ρ λΔ ζ=>fV (Ζ hL (Ζ Μ (Ζ nK vG))) ?_;apply ζ;have hb:∀e∈l.map J,∀a∈e.cells,aK 1 a:=λe he a κ=>by
   obtain⟨x,_,rfl⟩:=List.mem_map.1 he;simp[θ.cells] at κ;subst κ;simp
  refine W.cut 1 (Nat.le_refl _) [(2,.sl false 1 (l.map J))] η (λid r b7 ι=>?_) (λp ς=>?_) ?_
  ·obtain rfl:id=0:=by omega
   simp at ι;subst ι;exact hb
  ·obtain rfl:p=(2,.sl false 1 (l.map J)):=by simpa using ς
   exact eE.own (id:=1) (t:=3) (Nat.le_refl _) rfl η hb
  ·exact W.ret ⟨_,rfl,⟨false,1,rfl,λ_=>rfl⟩,rfl⟩
end Go.TL
