/- LightApart: for every list of numbers the law returns true. No conditions. -/
import Derived.Carry
import Derived.ChangeSlices
import Derived.Conc.HoldsTime
import Derived.KernelRfl
import Derived.OpenShut
import Derived.Test.YtlabjopijpkiaaaGreatQBP
import Derived.Test.YtlabjopijpkiaaaGreatQBU
import Derived.Test.YtlabjopijpkiaaaGreatQBV
import Derived.Test.YtlabjopijpkiaaaGreatRows
set_option maxHeartbeats 16000000
set_option maxRecDepth 20000
set_option linter.unusedSectionVars false
set_option linter.unusedSimpArgs false
set_option linter.unusedVariables false
namespace Go.TL
open Go.Proofs
abbrev Ek:List θ:=[iH [1,0],iH [2,0],iH [2,1]]
theorem cΤ:∀i,i<3→Ek[i]?=some (iH [(dH i).1,(dH i).2])∧∀h,Ek[i]'h=iH [(dH i).1,(dH i).2]:=fun i hi=>by
 match i with
 | 0=>exact⟨rfl,fun _=>rfl⟩
 | 1=>exact⟨rfl,fun _=>rfl⟩
 | 2=>exact⟨rfl,fun _=>rfl⟩
theorem PN [bd] {s:aM} (h:il s) (i:Nat):ll s i≤i*5764801:=by
 induction i with
 | zero=>simp[ll]
 | succ i Γ=>
  rw[I7,Px];have:=Eh h (dH i) (-1) (Nat.le_refl s.cells.length);omega
theorem cΥ (l:List Int) (ω:l.length<2 ^ 63):@W nG Tryz.prog 0 103 [.code (Tryz.f7.body.getD .skip)] (entry 0 [a3 U 1 l]) [] (fun j env _=>(∃k,j=.code .ret::k)∧a5 env 2=bm true) (fun _ _ _=>False):=by
 letI:bd:=nG;show W Tryz.prog 0 103 [.code _] _ _ _ _
 refine W.seq ?_
 repeat first|apply ι
 refine ν fun J I=>?_;simp;(repeat (rw[ζ];simp));apply I;clear I J;(repeat (first|apply ι));refine de (A:=[3]) Θ fun J I=>?_;simp;(repeat (rw[ζ];simp));refine ak.call (first:=[]) (captured:=[]) ((cΡ l).mono (fun a s ⟨R,γ⟩=>?_) (fun _ _ h=>h.elim));subst R;subst γ;simp;(repeat (rw[ζ];simp));have PO:(⟨l,1⟩:cy).bf.length<2 ^ 63:=ω;generalize (⟨l,1⟩:cy)=d0 at PO;refine tw.c (cω d0 PO 4 3 (by decide) (by decide) (by decide)) 0 rfl (aI.refl _) (by simp) (by
  rintro r ⟨s,rfl,_⟩;simp[gA,θ.cells]) ?_
 rintro r d1 ⟨s,rfl,ξ,gΧ⟩ jC;simp;(repeat (rw[ζ];simp));apply I;clear I J;refine W.mJ (σ0:=[b1 d1]) (Nat.zero_le _) (fun r κ=>by simp at κ;subst κ;exact sc d1 _) (fun a μ=>by simp[θ.cells] at μ;rcases μ with rfl|rfl|rfl<;>simp[gA,θ.cells]) [(3,.aa [aP s.af,aO s.an,bz s.cells])] (by simp[je,θ.cells,gA]) ?_;have p':=ξ.small;have cΦ:=ξ.err;have bν:=ξ.af.hi;(repeat (first|apply ι|(refine ν fun J I=>?_;simp;(repeat (rw[ζ];simp));apply I;clear I J)));refine W.iter (fun i:Nat=>i≤3) (fun i=>[(3,.aa [aP s.af,aO s.an,bz s.cells]),(4,.sl true 1 Ek),(5,U (ll s i)),(6,U i)]) (fun _=>[b1 d1]) (fun i=>3-i) 0 (by decide) rfl (by simp[ll]) (fun i hi Γ=>?_);(repeat (first|apply ι|(refine ν fun J I=>?_;simp;(repeat (rw[ζ];simp));apply I;clear I J)));refine W.dY rfl (fun η=>?_) (fun η=>?_)
 ·have e8:i<3:=by simp at η;omega
  obtain⟨χ,fP⟩:=cΤ i e8;have PQ:=cζ i e8;have dF:=I7 s i;have ow:=PN ξ (i+1);have PR:=fun c (h:il (s.only c))=>cμ (s:=s.only c) e8;have cΧ:=Px (s:=s) (dH i);rw[cΧ] at dF;obtain⟨p,HY⟩:∃p,p=dH i:=⟨_,rfl⟩;rw[←HY] at χ fP PQ dF PR;have PS:=bμ s ξ p PQ;obtain⟨tA,Jf⟩:∃x,x=(List.range s.cells.length).map fun c=>xF (fz s p c):=⟨_,rfl⟩;rw[←Jf] at PS;have El:tA.length=s.cells.length:=by rw[Jf];simp
  obtain⟨xM,Em⟩:∃x,x=Ek:=⟨_,rfl⟩;have En:xM.length=3:=by rw[Em];rfl
  rw[←Em] at χ fP ⊢
  repeat first|apply ι
  refine W.Is (A:=[]) Θ mixed [(3,.aa [aP s.af,aO s.an,bz s.cells]),(4,.sl true 1 xM),(5,U (ll s i)),(6,U i),(7,xE tA),(8,bm true)] [b1 d1] ?_ (by
   simp;(repeat (rw[bp];simp[χ,fP,En]));refine⟨by omega,?_⟩;refine gn (av.p PS (.cons (.refl _) (.cons .ex .nil)) (by simp) (by simp)) ?_;simp;(repeat (rw[bp];simp));(first|exact bL (by kernel_rfl)|(refine⟨bL (by kernel_rfl),?_⟩;simp)))
  (repeat (first|apply ι|(refine ν fun J I=>?_;simp;(repeat (rw[ζ];simp));apply I;clear I J)));refine ah rfl ?_;(repeat (first|apply ι|(refine ν fun J I=>?_;simp;(repeat (rw[ζ];simp));apply I;clear I J)));refine W.iter (fun c:Nat=>c≤s.cells.length) (fun c=>[(3,.aa [aP s.af,aO s.an,bz s.cells]),(4,.sl true 1 xM),(5,U (ll s i)),(6,U i),(7,xE tA),(9,U (fx (eu s p).cells (-1) c)),(10,U c)]) (fun _=>[b1 d1]) (fun c=>s.cells.length-c) 0 (Nat.zero_le _) rfl (by simp[fx]) (fun c nb gq=>?_);(repeat (first|apply ι|(refine ν fun J I=>?_;simp;(repeat (rw[ζ];simp));apply I;clear I J)));by_cases η:c<s.cells.length
  ·refine al (by simp[η]) ?_;have PT:=bc η;have jw:=List.getElem_mem η;obtain⟨aB,jL⟩:∃x,x=s.cells[c]:=⟨_,rfl⟩;rw[←jL] at PT jw;have cg:=cπ (s:=s) p η;have cΨ:=Eh ξ p (-1) (show c+1≤s.cells.length by omega);have o9:=cν ξ jw;have cΩ:=cο (s:=s) p PT;have Eo:=PR aB o9;rw[cΩ] at Eo;have rT:tA[c]?=some (xF (fz s p c)):=by rw[Jf];simp[η]
   obtain⟨Q,Bj⟩:∃x,x=xF (fz s p c):=⟨_,rfl⟩;have dα:Q.length=(fz s p c).length:=by rw[Bj];simp
   rw[←Bj] at rT;have Ep:∀h,tA[c]'h=Q:=fun h=>by rw[bc h] at rT;simpa using rT
   rw[←dα] at cg Eo;have hw:=lj (i:=c) (by omega);have dβ:IntKind.i64.wrap ((fx (eu s p).cells (-1) c:Int)*(Q.length:Int))=(fx (eu s p).cells (-1) (c+1):Nat):=by
    rw[cg,Int.natCast_mul];refine IntWalk.i64_in _ ?_;rw[cg] at cΨ;have:(fx (eu s p).cells (-1) c:Int)*(Q.length:Int)=((fx (eu s p).cells (-1) c*Q.length:Nat):Int):=by rw[Int.natCast_mul]
    rw[this];omega
   have Je:(s.cells.drop c).take 1=[aB]:=by
    rw[List.drop_eq_getElem_cons η,jL];rfl
   repeat first|apply ι
   (repeat (first|apply ι));refine de (A:=[11]) Θ fun J I=>?_;simp;(repeat (rw[ζ];simp));refine av.c (Vx s p') (aI.refl _) (by simp) (by simp) ?_;simp;(repeat (rw[ζ];simp));apply I;clear I J
   repeat first|apply ι
   refine W.hl (A:=[]) Θ [(3,.aa [aP s.af,aO s.an,bz s.cells]),(4,.sl true 1 xM),(5,U (ll s i)),(6,U i),(7,xE tA),(9,U (fx (eu s p).cells (-1) c)),(10,U c),(11,.ag 1 1 0 0)] [b1 d1,gr (aP s.af) (aO s.an) (bz [aB])] ?_ (by
    (try simp);(repeat (rw[ζ];simp[hw]));(try simp[hw]);refine⟨by omega,?_⟩;rw[←List.map_take,←List.map_drop,List.drop_take,show c+1-c=1 by omega,Je];rfl)
   refine W.mJ (σ0:=[b1 d1]) (Nat.zero_le _) (fun r κ=>by simp at κ;subst κ;exact sc d1 _) (fun a μ=>by simp[θ.cells] at μ;rcases μ with rfl|rfl|rfl<;>simp[gA,θ.cells]) [(3,.aa [aP s.af,aO s.an,bz s.cells]),(4,.sl true 1 xM),(5,U (ll s i)),(6,U i),(7,xE tA),(9,U (fx (eu s p).cells (-1) c)),(10,U c),(11,.aa [aP s.af,aO s.an,bz [aB]])] (by simp[je,θ.cells,gA,Em]) ?_;have uq:=Mg (s.only aB) o9.small (gH (s.only aB)) (Pv o9) (by have:=I6 (s.only aB);omega);rw[o9.err] at uq;simp only[if_true] at uq;obtain⟨K,Jg⟩:∃x,x=iI (gH (s.only aB)):=⟨_,rfl⟩;rw[←Jg] at uq Eo;have G6:K.length≤3:=by rw[Jg];simpa[iI] using I6 (s.only aB)
   have dγ:∀y∈K,y.length<2 ^ 62:=fun y Ο=>by
    rw[Jg] at Ο;obtain⟨f,_,rfl⟩:=List.mem_map.1 Ο;simp
   have bb:=ZH K [p.1,p.2] (by omega) dγ
   have dδ:K.contains [p.1,p.2]=decide (0<Q.length):=by
    rw[Bool.eq_iff_iff,List.contains_iff_mem,Eo];simp
   rw[dδ] at bb;(repeat (first|apply ι));refine ν fun J I=>?_;simp;(repeat (rw[ζ];simp));refine av.c (uq) (aI.refl _) (by simp) (by simp) ?_;simp;(repeat (rw[ζ];simp));apply I;clear I J
   repeat first|apply ι
   refine W.Is (A:=[]) Θ mixed [(77,bm false),(3,.aa [aP s.af,aO s.an,bz s.cells]),(4,.sl true 1 xM),(5,U (ll s i)),(6,U i),(7,xE tA),(9,U (fx (eu s p).cells (-1) c)),(10,U c)] [b1 d1] ?_ (by
    simp;(repeat (rw[bp];simp[χ,fP,En,rT,Ep,El,η]));refine⟨by omega,?_⟩;refine gn (av.p bb (.cons (.refl _) (.cons .ex .nil)) (by simp) (by simp)) ?_;have PU:h8 TypeDesc.bool=true:=rfl;by_cases Υ:0<Q.length
    ·have bX:(0:Int)<Q.length:=by omega
     simp;(repeat (rw[bp];simp[χ,fP,En,rT,Ep,El,η,Υ,bX,PU]));(first|exact bL (by kernel_rfl)|(refine⟨bL (by kernel_rfl),?_⟩;simp))
    ·have bX:¬(0:Int)<Q.length:=by omega
     simp;(repeat (rw[bp];simp[χ,fP,En,rT,Ep,El,η,Υ,bX,PU]));(first|exact bL (by kernel_rfl)|(refine⟨bL (by kernel_rfl),?_⟩;simp)))
   refine ah rfl ?_;(repeat (first|apply ι|(refine ν fun J I=>?_;simp;(repeat (rw[ζ];simp[rT,Ep,El,η,dβ,hw]));apply I;clear I J)));exact W.to (gq (c+1) (by omega) (by omega)) rfl (by simp)
  ·refine ah (by simp[η]) ?_;have u5:c=s.cells.length:=by omega
   subst u5;refine W.exit rfl ?_;have dε:IntKind.i64.wrap ((ll s i:Int)+(fx (eu s p).cells (-1) s.cells.length:Nat))=(ll s (i+1):Nat):=by
    rw[dF] at ow ⊢;rw[IntWalk.i64_in _ (by omega),Int.natCast_add]
   have kn:=lj (i:=i) (by omega);(repeat (first|apply ι|(refine ν fun J I=>?_;simp;(repeat (rw[ζ];simp[dε,kn]));apply I;clear I J)));exact W.to (Γ (i+1) e8 (by omega)) rfl (by simp[Em])
 ·have dO:i=3:=by simp at η;omega
  subst dO;refine W.exit rfl ?_;have xd:=Vg s p' (gH s) (Pv ξ) (cι ξ) (by rw[Pw];have:=PN ξ 3;omega);rw[cΦ,Pw] at xd;simp only[if_true] at xd;(repeat (first|apply ι));refine ν fun J I=>?_;simp;(repeat (rw[ζ];simp));refine av.c (xd) (aI.refl _) (by simp) (by simp) ?_;simp;(repeat (rw[ζ];simp));apply I;clear I J;(repeat (first|apply ι));refine ν fun J I=>?_;simp;(repeat (rw[ζ];simp));refine av.c (ZF) (aI.refl _) (by simp) (by simp) ?_;simp;(repeat (rw[ζ];simp));apply I;clear I J;exact W.stop ⟨⟨_,rfl⟩,rfl⟩
theorem dζ:(laidOutB Tryz.prog)=true:=by kernel_rfl
theorem dη:(mapsRowed Tryz.prog)=true:=by kernel_rfl
theorem dθ:((Tryz.prog.stops==[]))=true:=by kernel_rfl
theorem dι:((Tryz.prog.stopKnobs==[]))=true:=by kernel_rfl
theorem dκ:(Tryz.prog.stopsHeard)=true:=by kernel_rfl
theorem dμ:(Tryz.prog.mayEnter)=true:=by kernel_rfl
theorem dν:(YtlabjopijpkiaaaGreat.Rows.lightApartRow.wf (OpenSpec.ofChange YtlabjopijpkiaaaGreat.Rows.lightApartSpec))=true:=by kernel_rfl
theorem dξ:(Tryz.f7.params.all (Tryz.prog.readableRec ·))=true:=by kernel_rfl
theorem dο:(namedTie Tryz.prog YtlabjopijpkiaaaGreat.Rows.lightApartRow.named YtlabjopijpkiaaaGreat.Rows.lightApartSpec.vars)=true:=by kernel_rfl
theorem dπ:((YtlabjopijpkiaaaGreat.Rows.lightApartRow.stops==[]))=true:=by kernel_rfl
theorem dρ:((YtlabjopijpkiaaaGreat.Rows.lightApartRow.knobs==[]))=true:=by kernel_rfl
theorem dς:((YtlabjopijpkiaaaGreat.Rows.lightApartRow.inPlace==Tryz.prog.inPlace 7))=true:=by kernel_rfl
theorem dτ:((YtlabjopijpkiaaaGreat.Rows.lightApartRow.unfollowed==Tryz.prog.unfollowed 7))=true:=by kernel_rfl
theorem dυ:((YtlabjopijpkiaaaGreat.Rows.lightApartRow.recurses==Tryz.prog.recurses 7))=true:=by kernel_rfl
theorem dφ:((YtlabjopijpkiaaaGreat.Rows.lightApartRow.named==Tryz.prog.varsNamed 7))=true:=by kernel_rfl
theorem dχ:((YtlabjopijpkiaaaGreat.Rows.lightApartRow.maps==(Tryz.f7.params.toList++YtlabjopijpkiaaaGreat.Rows.lightApartSpec.plain.varTypes Tryz.prog).any (Tryz.prog.mapsRec ·)))=true:=by kernel_rfl
theorem dψ:((YtlabjopijpkiaaaGreat.Rows.lightApartRow.ifaces==(Tryz.f7.params.toList++YtlabjopijpkiaaaGreat.Rows.lightApartSpec.plain.varTypes Tryz.prog).any (Tryz.prog.ifacesRec ·)))=true:=by kernel_rfl
theorem dω:((YtlabjopijpkiaaaGreat.Rows.lightApartRow.mapsOut==Tryz.prog.mapsAmong Tryz.f7.resultTypes.toList))=true:=by kernel_rfl
theorem dΑ:((YtlabjopijpkiaaaGreat.Rows.lightApartRow.loops==(Tryz.f7.params.toList++YtlabjopijpkiaaaGreat.Rows.lightApartSpec.plain.varTypes Tryz.prog).any (Tryz.prog.loopsFrom ·)))=true:=by kernel_rfl
theorem dΒ:((YtlabjopijpkiaaaGreat.Rows.lightApartRow.wideKeys==(Tryz.f7.params.toList++YtlabjopijpkiaaaGreat.Rows.lightApartSpec.plain.varTypes Tryz.prog++Tryz.f7.resultTypes.toList).any (Tryz.prog.wideKeysFrom ·)))=true:=by kernel_rfl
theorem dΓ:(YtlabjopijpkiaaaGreat.Rows.lightApartSpec.vars.all (Tryz.prog.varReadable ·))=true:=by kernel_rfl
theorem dΔ:(Tryz.f7.resultTypes.all (fun t=>Tryz.prog.readableRec t&&decide (t<Tryz.prog.types.size)))=true:=by kernel_rfl
theorem dΕ:((YtlabjopijpkiaaaGreat.Rows.lightApartRow.ifacesOut==Tryz.f7.resultTypes.toList.any (Tryz.prog.ifacesRec ·)))=true:=by kernel_rfl
theorem dΖ:((YtlabjopijpkiaaaGreat.Rows.lightApartRow.loopsOut==Tryz.f7.resultTypes.toList.any (Tryz.prog.loopsFrom ·)))=true:=by kernel_rfl
theorem dΗ:((YtlabjopijpkiaaaGreat.Rows.lightApartRow.plainKeys==Tryz.prog.plainKeys))=true:=by kernel_rfl
theorem dΘ:(YtlabjopijpkiaaaGreat.Rows.lightApartRow.shortTexts.isNone)=true:=by kernel_rfl
theorem dΙ:((YtlabjopijpkiaaaGreat.Rows.lightApartRow.lifted==Tryz.prog.liftsFinal))=true:=by kernel_rfl
theorem dΚ:((Tryz.prog.make==some YtlabjopijpkiaaaGreat.Rows.lightApartRow.make))=true:=by kernel_rfl
theorem dΜ:((YtlabjopijpkiaaaGreat.Rows.lightApartRow.kinds==(if YtlabjopijpkiaaaGreat.Rows.lightApartRow.domain.isEmpty then [] else Tryz.f7.params.toList.map fun t=>match Tryz.prog.underlying t with|some (.int k)=>some k|_=>none)))=true:=by kernel_rfl
theorem dΝ:((YtlabjopijpkiaaaGreat.Rows.lightApartRow.pinned==YtlabjopijpkiaaaGreat.Rows.lightApartRow.pinnedBy))=true:=by kernel_rfl
theorem dΞ:((YtlabjopijpkiaaaGreat.Rows.lightApartRow.veiled==(Tryz.f7.params.toList++YtlabjopijpkiaaaGreat.Rows.lightApartSpec.plain.varTypes Tryz.prog++Tryz.f7.resultTypes.toList).any (Tryz.prog.veiledRec ·)))=true:=by kernel_rfl
theorem dΟ:(YtlabjopijpkiaaaGreat.Rows.lightApartRow.veiledFits Tryz.prog Tryz.f7.params.toList (Tryz.f7.params.toList++YtlabjopijpkiaaaGreat.Rows.lightApartSpec.plain.varTypes Tryz.prog++Tryz.f7.resultTypes.toList))=true:=by kernel_rfl
theorem dΡ:joinedFacts Tryz.prog 7 Tryz.f7 YtlabjopijpkiaaaGreat.Rows.lightApartSpec YtlabjopijpkiaaaGreat.Rows.lightApartRow=true:=by
 unfold joinedFacts;simp only[Bool.and_eq_true];exact⟨⟨⟨⟨⟨⟨⟨⟨⟨⟨⟨⟨⟨⟨⟨⟨⟨⟨⟨⟨⟨⟨⟨⟨⟨⟨⟨⟨⟨⟨⟨dν,dζ⟩,dη⟩,dξ⟩,dο⟩,dπ⟩,dθ⟩,dρ⟩,dι⟩,dς⟩,dτ⟩,dυ⟩,dφ⟩,dχ⟩,dψ⟩,dω⟩,dΑ⟩,dΒ⟩,dΓ⟩,dΔ⟩,dΕ⟩,dΖ⟩,dΗ⟩,dΘ⟩,dκ⟩,dμ⟩,dΙ⟩,dΚ⟩,dΜ⟩,dΝ⟩,dΞ⟩,dΟ⟩
end Go.TL
namespace Go.TL
open Go.Conc Go.ConcM Go.Proofs
open Go.ChangeShapes Go.WideShapes Go.ChangeAt Go.RowKit
set_option maxRecDepth 100000 in
theorem dΤ (hW:∀(W:World) (l:List Int) (v:Value),l.length<2 ^ 63→aj (pK W) [] [] (a3 U 1 l) v→Comes Tryz.prog (fun v=>v=.bool true) W (solo (Go.Conc.G (Frame.enter Tryz.prog 7 #[v] .normal) []) W) #[])
  (os:Os) (started:os.Started) (H:Type) (enc:TypeId×Value→H) (F:Stop.Interp) :
  ReturnsInLeavingWide YtlabjopijpkiaaaGreat.Rows.lightApartRow.assume Tryz.checked os 7 .any (YtlabjopijpkiaaaGreat.Rows.lightApartSpec.pre6 enc Tryz.prog Tryz.f7 YtlabjopijpkiaaaGreat.Rows.lightApartRow.domain YtlabjopijpkiaaaGreat.Rows.lightApartRow.apart)
   ((OpenSpec.ofChange YtlabjopijpkiaaaGreat.Rows.lightApartSpec).postWith enc Tryz.prog Tryz.f7 F (outsideKept [.timePasses]) YtlabjopijpkiaaaGreat.Rows.lightApartRow.apart YtlabjopijpkiaaaGreat.Rows.lightApartRow.fresh YtlabjopijpkiaaaGreat.Rows.lightApartRow.handsOn):=by
 refine returnsInLeavingWide_of_change_time (C:=Tryz.checked) aθ started Tryz.func7
  (ChangeSpec.witness6c (enc:=enc) (C:=Tryz.checked) ⟨#[],#[.slice none 0 0],[]⟩ 8 (by kernel_rfl) (by kernel_rfl) (by kernel_rfl) (by kernel_rfl)) ?_
 intro W base args ds gs before dΥ PV _ _ _;have DH:∀(j:Nat) t v,Tryz.f7.params[j]?=some t→args[j]?=some v→Value.okWide Tryz.prog W .any base t v:=dΥ;have PW:=PV;obtain⟨p,q,dΦ,EO,rfl,KD,jS⟩:=PV;have bO:DataW.TrodAll enc Tryz.prog W 0 (fun _=>true) true Tryz.f7.params.toList args.toList ds p:=dΦ;rw[Tryz.params7] at bO DH;obtain⟨v0,d0,rfl,rfl,ae⟩:=trodAll_one bO;obtain⟨rfl,rfl⟩:=trodVars_none EO;have aE:∀x∈p,x.block<W.heap.size:=fun x δ=>by simpa using PW.lt x (List.mem_append_left _ δ)
 have lM:∀(Jh:World),Below W.heap.size W Jh→DataW.Trod enc Tryz.prog Jh 0 (fun b=>decide (b<W.heap.size)) true 29 v0 d0 p:=
  fun Jh Η=>Below.trod aι (by kernel_rfl) (of_decide_eq_true (by kernel_rfl)) ae Η aE
 obtain⟨l,ω,BK⟩:∃l:List Int,l.length<2 ^ 63∧aj (pK W) [] [] (a3 U 1 l) v0:=by
  obtain⟨Jc,len,cap,rfl⟩:=okWide_slice Tryz.underlying29 (DH 0 29 v0 rfl rfl);obtain⟨gΨ,Ρ⟩:=ae;rcases open_ints Tryz.underlying29 Tryz.underlying3 aκ Ρ with⟨hy,δ⟩|⟨a,gΩ,FA,fI,hy,_,ω,hm,Ν,δ,wU,hα⟩
  ·simp[Value.cells] at hy;obtain⟨rfl,rfl,rfl⟩:=hy;exact⟨[],by decide,.h7 _ _ (by simp)⟩
  ·simp[Value.cells] at hy;obtain⟨rfl,rfl,rfl⟩:=hy;simp only[if_true] at Ν;refine⟨fI.take len,?_,aν ω (by omega) wU⟩;rw[List.length_take];unfold maxLen at hm;omega
 obtain⟨M,last,o,w',t',r1,r2,r3,v,e,χ,Ξ,ad,aT,ck⟩:=hW W l v0 ω BK;refine⟨M,last,o,w',t',r1,r2,r3,v,e,⟨?_,χ.2.os⟩,Ξ,ad,aT,ck⟩;obtain⟨rfl,υ⟩:=χ;exact⟨_,_,_,[],_,[],PW,trodAll_mk1 (shut_bool Tryz.underlying4 _),trodAll_mk1 (lM _ υ.below),rfl,υ.below.frame _,fun h=>by cases h⟩
theorem dΧ (W:World) (l:List Int) (v:Value) (ω:l.length<2 ^ 63) (κ:aj (pK W) [] [] (a3 U 1 l) v):Comes Tryz.prog (fun v=>v=.bool true) W (solo (Go.Conc.G (Frame.enter Tryz.prog 7 #[v] .normal) []) W) #[]:=
 aη (d:=2) (l:=[a3 U 1 l]) Tryz.func7 rfl (by kernel_rfl) (by kernel_rfl) ⟨rfl,fun i a u R γ=>by
  match i with
  | 0=>simp at R γ;subst R;subst γ;exact κ
  | i+1=>simp at R⟩ (by rw[Tryz.ntmps7];simp) (cΥ l ω)
end Go.TL
namespace Go.Proofs.YtlabjopijpkiaaaGreat
open Go.TL
theorem light_apart:Rows.LightApartSaid:=
 OpenClaim.holds_of_wide_leaving_time 7 Tryz.f7 rfl rfl rfl rfl rfl rfl rfl ⟨rfl,rfl,rfl,rfl,rfl⟩ rfl rfl rfl rfl rfl (by kernel_rfl) Tryz.func7 dΡ
  (of_decide_eq_true (by kernel_rfl)) (by unfold Func.isWrapper;first|(rw[if_pos (by decide +kernel)];kernel_rfl)|(rw[if_neg (by decide +kernel)];exact⟨rfl,rfl⟩))
  (fun os started H enc _ F=>dΤ dΧ os started H enc F)
end Go.Proofs.YtlabjopijpkiaaaGreat
