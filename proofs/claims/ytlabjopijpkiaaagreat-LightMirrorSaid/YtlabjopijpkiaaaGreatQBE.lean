/- LightMirror: for every list of numbers the law returns true. No conditions. -/
import Derived.Carry
import Derived.ChangeSlices
import Derived.Conc.HoldsTime
import Derived.KernelRfl
import Derived.OpenShut
import Derived.Test.YtlabjopijpkiaaaGreatQBA
import Derived.Test.YtlabjopijpkiaaaGreatQBD
import Derived.Test.YtlabjopijpkiaaaGreatRows
set_option maxHeartbeats 16000000
set_option maxRecDepth 20000
set_option linter.unusedSectionVars false
set_option linter.unusedSimpArgs false
set_option linter.unusedVariables false
namespace Go.TL
open Go.Proofs
theorem ZX:(laidOutB Tryz.prog)=true:=by kernel_rfl
theorem ZY:(mapsRowed Tryz.prog)=true:=by kernel_rfl
theorem ZZ:((Tryz.prog.stops==[]))=true:=by kernel_rfl
theorem Z0:((Tryz.prog.stopKnobs==[]))=true:=by kernel_rfl
theorem Z1:(Tryz.prog.stopsHeard)=true:=by kernel_rfl
theorem Z2:(Tryz.prog.mayEnter)=true:=by kernel_rfl
theorem Z3:(YtlabjopijpkiaaaGreat.Rows.lightMirrorRow.wf (OpenSpec.ofChange YtlabjopijpkiaaaGreat.Rows.lightMirrorSpec))=true:=by kernel_rfl
theorem Z4:(Tryz.f9.params.all (Tryz.prog.readableRec ·))=true:=by kernel_rfl
theorem Z5:(namedTie Tryz.prog YtlabjopijpkiaaaGreat.Rows.lightMirrorRow.named YtlabjopijpkiaaaGreat.Rows.lightMirrorSpec.vars)=true:=by kernel_rfl
theorem Z6:((YtlabjopijpkiaaaGreat.Rows.lightMirrorRow.stops==[]))=true:=by kernel_rfl
theorem Z7:((YtlabjopijpkiaaaGreat.Rows.lightMirrorRow.knobs==[]))=true:=by kernel_rfl
theorem Z8:((YtlabjopijpkiaaaGreat.Rows.lightMirrorRow.inPlace==Tryz.prog.inPlace 9))=true:=by kernel_rfl
theorem Z9:((YtlabjopijpkiaaaGreat.Rows.lightMirrorRow.unfollowed==Tryz.prog.unfollowed 9))=true:=by kernel_rfl
theorem Z':((YtlabjopijpkiaaaGreat.Rows.lightMirrorRow.recurses==Tryz.prog.recurses 9))=true:=by kernel_rfl
theorem aα:((YtlabjopijpkiaaaGreat.Rows.lightMirrorRow.named==Tryz.prog.varsNamed 9))=true:=by kernel_rfl
theorem aβ:((YtlabjopijpkiaaaGreat.Rows.lightMirrorRow.maps==(Tryz.f9.params.toList++YtlabjopijpkiaaaGreat.Rows.lightMirrorSpec.plain.varTypes Tryz.prog).any (Tryz.prog.mapsRec ·)))=true:=by kernel_rfl
theorem aγ:((YtlabjopijpkiaaaGreat.Rows.lightMirrorRow.ifaces==(Tryz.f9.params.toList++YtlabjopijpkiaaaGreat.Rows.lightMirrorSpec.plain.varTypes Tryz.prog).any (Tryz.prog.ifacesRec ·)))=true:=by kernel_rfl
theorem aδ:((YtlabjopijpkiaaaGreat.Rows.lightMirrorRow.mapsOut==Tryz.prog.mapsAmong Tryz.f9.resultTypes.toList))=true:=by kernel_rfl
theorem aε:((YtlabjopijpkiaaaGreat.Rows.lightMirrorRow.loops==(Tryz.f9.params.toList++YtlabjopijpkiaaaGreat.Rows.lightMirrorSpec.plain.varTypes Tryz.prog).any (Tryz.prog.loopsFrom ·)))=true:=by kernel_rfl
theorem aζ:((YtlabjopijpkiaaaGreat.Rows.lightMirrorRow.wideKeys==(Tryz.f9.params.toList++YtlabjopijpkiaaaGreat.Rows.lightMirrorSpec.plain.varTypes Tryz.prog++Tryz.f9.resultTypes.toList).any (Tryz.prog.wideKeysFrom ·)))=true:=by kernel_rfl
theorem aη:(YtlabjopijpkiaaaGreat.Rows.lightMirrorSpec.vars.all (Tryz.prog.varReadable ·))=true:=by kernel_rfl
theorem aθ:(Tryz.f9.resultTypes.all (λt=>Tryz.prog.readableRec t&&decide (t<Tryz.prog.types.size)))=true:=by kernel_rfl
theorem aι:((YtlabjopijpkiaaaGreat.Rows.lightMirrorRow.ifacesOut==Tryz.f9.resultTypes.toList.any (Tryz.prog.ifacesRec ·)))=true:=by kernel_rfl
theorem aκ:((YtlabjopijpkiaaaGreat.Rows.lightMirrorRow.loopsOut==Tryz.f9.resultTypes.toList.any (Tryz.prog.loopsFrom ·)))=true:=by kernel_rfl
theorem aμ:((YtlabjopijpkiaaaGreat.Rows.lightMirrorRow.plainKeys==Tryz.prog.plainKeys))=true:=by kernel_rfl
theorem aν:(YtlabjopijpkiaaaGreat.Rows.lightMirrorRow.shortTexts.isNone)=true:=by kernel_rfl
theorem aξ:((YtlabjopijpkiaaaGreat.Rows.lightMirrorRow.lifted==Tryz.prog.liftsFinal))=true:=by kernel_rfl
theorem aο:((Tryz.prog.make==some YtlabjopijpkiaaaGreat.Rows.lightMirrorRow.make))=true:=by kernel_rfl
theorem aπ:((YtlabjopijpkiaaaGreat.Rows.lightMirrorRow.kinds==(if YtlabjopijpkiaaaGreat.Rows.lightMirrorRow.domain.isEmpty then [] else Tryz.f9.params.toList.map λt=>match Tryz.prog.underlying t with|some (.int k)=>some k|_=>none)))=true:=by kernel_rfl
theorem aρ:((YtlabjopijpkiaaaGreat.Rows.lightMirrorRow.pinned==YtlabjopijpkiaaaGreat.Rows.lightMirrorRow.pinnedBy))=true:=by kernel_rfl
theorem aς:((YtlabjopijpkiaaaGreat.Rows.lightMirrorRow.veiled==(Tryz.f9.params.toList++YtlabjopijpkiaaaGreat.Rows.lightMirrorSpec.plain.varTypes Tryz.prog++Tryz.f9.resultTypes.toList).any (Tryz.prog.veiledRec ·)))=true:=by kernel_rfl
theorem aτ:(YtlabjopijpkiaaaGreat.Rows.lightMirrorRow.veiledFits Tryz.prog Tryz.f9.params.toList (Tryz.f9.params.toList++YtlabjopijpkiaaaGreat.Rows.lightMirrorSpec.plain.varTypes Tryz.prog++Tryz.f9.resultTypes.toList))=true:=by kernel_rfl
theorem aυ:joinedFacts Tryz.prog 9 Tryz.f9 YtlabjopijpkiaaaGreat.Rows.lightMirrorSpec YtlabjopijpkiaaaGreat.Rows.lightMirrorRow=true:=by
 unfold joinedFacts;simp only[Bool.and_eq_true];exact⟨⟨⟨⟨⟨⟨⟨⟨⟨⟨⟨⟨⟨⟨⟨⟨⟨⟨⟨⟨⟨⟨⟨⟨⟨⟨⟨⟨⟨⟨⟨Z3,ZX⟩,ZY⟩,Z4⟩,Z5⟩,Z6⟩,ZZ⟩,Z7⟩,Z0⟩,Z8⟩,Z9⟩,Z'⟩,aα⟩,aβ⟩,aγ⟩,aδ⟩,aε⟩,aζ⟩,aη⟩,aθ⟩,aι⟩,aκ⟩,aμ⟩,aν⟩,Z1⟩,Z2⟩,aξ⟩,aο⟩,aπ⟩,aρ⟩,aς⟩,aτ⟩
end Go.TL
namespace Go.TL
open Go.Conc Go.ConcM Go.Proofs
open Go.ChangeShapes Go.WideShapes Go.ChangeAt Go.RowKit
set_option maxRecDepth 100000 in
theorem aφ (hW:∀(W:World) (l:List Int) (v:Value),l.length<2 ^ 63->ah (oW W) [] [] (bC δ 1 l) v->Comes Tryz.prog (λv=>v=.bool true) W (solo (Go.Conc.G (Frame.enter Tryz.prog 9 #[v] .normal) []) W) #[])
  (os:Os) (started:os.Started) (H:Type) (enc:TypeId×Value->H) (F:Stop.Interp) :
  ReturnsInLeavingWide YtlabjopijpkiaaaGreat.Rows.lightMirrorRow.assume Tryz.checked os 9 .any (YtlabjopijpkiaaaGreat.Rows.lightMirrorSpec.pre6 enc Tryz.prog Tryz.f9 YtlabjopijpkiaaaGreat.Rows.lightMirrorRow.domain YtlabjopijpkiaaaGreat.Rows.lightMirrorRow.apart)
   ((OpenSpec.ofChange YtlabjopijpkiaaaGreat.Rows.lightMirrorSpec).postWith enc Tryz.prog Tryz.f9 F (outsideKept [.timePasses]) YtlabjopijpkiaaaGreat.Rows.lightMirrorRow.apart YtlabjopijpkiaaaGreat.Rows.lightMirrorRow.fresh YtlabjopijpkiaaaGreat.Rows.lightMirrorRow.handsOn):=by
 refine returnsInLeavingWide_of_change_time (C:=Tryz.checked) YM started Tryz.func9
  (ChangeSpec.witness6c (enc:=enc) (C:=Tryz.checked) ⟨#[],#[.slice none 0 0],[]⟩ 8 (by kernel_rfl) (by kernel_rfl) (by kernel_rfl) (by kernel_rfl)) ?_
 intro W base args ds gs before aχ N5 _ _ _;have CJ:∀(j:Nat) t v,Tryz.f9.params[j]?=some t->args[j]?=some v->Value.okWide Tryz.prog W .any base t v:=aχ;have N6:=N5;obtain⟨p,q,aψ,DG,rfl,I6,ju⟩:=N5;have bG:DataW.TrodAll enc Tryz.prog W 0 (λ_=>true) true Tryz.f9.params.toList args.toList ds p:=aψ;rw[Tryz.params9] at bG CJ;obtain⟨v0,d0,rfl,rfl,af⟩:=trodAll_one bG;obtain⟨rfl,rfl⟩:=trodVars_none DG;have ar:∀x∈p,x.block<W.heap.size:=λx U=>by simpa using N6.lt x (List.mem_append_left _ U)
 have lh:∀(HE:World),Below W.heap.size W HE->DataW.Trod enc Tryz.prog HE 0 (λb=>decide (b<W.heap.size)) true 29 v0 d0 p:=
  λHE Ι=>Below.trod YN (by kernel_rfl) (of_decide_eq_true (by kernel_rfl)) af Ι ar
 obtain⟨l,Β,AO⟩:∃l:List Int,l.length<2 ^ 63/\ah (oW W) [] [] (bC δ 1 l) v0:=by
  obtain⟨HB,len,cap,rfl⟩:=okWide_slice Tryz.underlying29 (CJ 0 29 v0 rfl rfl);obtain⟨dρ,ab⟩:=af;rcases open_ints Tryz.underlying29 Tryz.underlying3 YO ab with⟨hr,U⟩|⟨a,dς,Es,fs,hr,_,Β,hm,Ν,U,vQ,dτ⟩
  ·simp[Value.cells] at hr;obtain⟨rfl,rfl,rfl⟩:=hr;exact⟨[],by decide,.hN _ _ (by simp)⟩
  ·simp[Value.cells] at hr;obtain⟨rfl,rfl,rfl⟩:=hr;simp only[if_true] at Ν;refine⟨fs.take len,?_,YQ Β (by omega) vQ⟩;rw[List.length_take];unfold maxLen at hm;omega
 obtain⟨M,last,o,w',t',r1,r2,r3,v,e,χ,Ξ,aa,aM,b9⟩:=hW W l v0 Β AO;refine⟨M,last,o,w',t',r1,r2,r3,v,e,⟨?_,χ.2.os⟩,Ξ,aa,aM,b9⟩;obtain⟨rfl,Α⟩:=χ;exact⟨_,_,_,[],_,[],N6,trodAll_mk1 (shut_bool Tryz.underlying4 _),trodAll_mk1 (lh _ Α.below),rfl,Α.below.frame _,λh=>by cases h⟩
theorem aω (W:World) (l:List Int) (v:Value) (Β:l.length<2 ^ 63) (ι:ah (oW W) [] [] (bC δ 1 l) v):Comes Tryz.prog (λv=>v=.bool true) W (solo (Go.Conc.G (Frame.enter Tryz.prog 9 #[v] .normal) []) W) #[]:=
 YL (d:=2) (l:=[bC δ 1 l]) Tryz.func9 rfl (by kernel_rfl) (by kernel_rfl) ⟨rfl,λi a u J R=>by
  match i with
  | 0=>simp at J R;subst J;subst R;exact ι
  | i+1=>simp at J⟩ (by rw[Tryz.ntmps9];simp) (ZK l Β)
end Go.TL
namespace Go.Proofs.YtlabjopijpkiaaaGreat
open Go.TL
theorem light_mirror:Rows.LightMirrorSaid:=
 OpenClaim.holds_of_wide_leaving_time 9 Tryz.f9 rfl rfl rfl rfl rfl rfl rfl ⟨rfl,rfl,rfl,rfl,rfl⟩ rfl rfl rfl rfl rfl (by kernel_rfl) Tryz.func9 aυ
  (of_decide_eq_true (by kernel_rfl)) (by unfold Func.isWrapper;first|(rw[if_pos (by decide +kernel)];kernel_rfl)|(rw[if_neg (by decide +kernel)];exact⟨rfl,rfl⟩))
  (λos started H enc _ F=>aφ aω os started H enc F)
end Go.Proofs.YtlabjopijpkiaaaGreat
