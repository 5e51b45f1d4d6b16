/- LightLine: a letter of Line is a Must, a dash is a cell without a letter in all truths, and a question mark has at least two letters, or one and none. No conditions. -/
import Derived.Carry
import Derived.ChangeSlices
import Derived.Conc.HoldsTime
import Derived.KernelRfl
import Derived.OpenShut
import Derived.Test.YtlabjopijpkiaaaGreatVAZ
import Derived.Test.YtlabjopijpkiaaaGreatVBF
import Derived.Test.YtlabjopijpkiaaaGreatRows
set_option maxHeartbeats 16000000
set_option maxRecDepth 20000
set_option linter.unusedSectionVars false
set_option linter.unusedSimpArgs false
set_option linter.unusedVariables false
namespace Go.TL
open Go.Proofs
@[simp] theorem jι:ja .bool=true:=rfl
theorem fφ [bn] {s:aT} (h:jm s) (c0:cV s≠[]) {c:Nat} (δ:c<s.cells.length) {lower:Bool} {x:Int} (ab:fS (cV s) c lower=[x]):yM s (cV s) c lower x=(1,0):=by
 have γ:=BA (lower:=lower) (x:=x) δ (by rw[ab];simp);unfold yM;rw[if_neg (by rw[h.err];simp),if_neg R,if_neg c0,Int.toNat_natCast,ab,if_neg η];simp
theorem fχ [bn] {s:aT} (h:jm s) (c0:cV s≠[]) {c:Nat} (δ:c<s.cells.length) (lower:Bool):yL s (cV s) c lower=(fS (cV s) c lower,0):=by
 have:(jD s c (cV s)).2.2=0:=by
  unfold jD;rw[if_neg (by rw[h.err];simp),if_neg R];unfold eZ;rw[if_neg (by rw[h.err];simp),if_neg (λq=>c0 q.2)]
 unfold yL;rw[if_pos this,Int.toNat_natCast]
theorem fψ [bn] {s:aT} (h:jm s) (lower:Bool) (c:Nat):(fS (cV s) c lower).length<2 ^ 40:=by
 by_cases δ:c<s.cells.length
 ·have:=Kr (lower:=lower) δ
  have:=h.au.hi;omega
 ·rw[fμ δ];decide
theorem fω (l:List Int) (ο:l.length<2 ^ 63):@W oA Tryz.prog 0 153 [.code (Tryz.f11.body.getD .skip)] (entry 0 [bO I 1 l]) [] (λj env _=>(∃k,j=.code .ret::k)/\a9 env 2=a6 true) (λ_ _ _=>False):=by
 letI:bn:=oA;show W Tryz.prog 0 153 [.code _] _ _ _ _;refine W.seq ?_
 repeat apply ad
 refine mQ ?_;refine tW ?_;refine dM (A:=[3]) Ρ λΕ ζ=>bD ?_;refine ae.call (first:=[]) (captured:=[]) ((dΝ l).mono (λa s ⟨J,U⟩=>?_) (λ_ _ h=>h.elim));subst J;subst U;simp;(repeat (rw[Ο];simp[]));have Rh:(⟨l,1⟩:cD).bf.length<2 ^ 63:=ο;generalize (⟨l,1⟩:cD)=d0 at Rh;refine uO.c (dΨ d0 Rh 5 4 bu bu bu) 0 rfl (bF.refl _) η (by
  rintro r ⟨s,p,rd,rfl,_⟩;simp[iL,θ.cells]) ?_
 rintro r d1 ⟨s,p,rd,rfl,hw⟩ kv;simp;(repeat (rw[Ο];simp[]));apply ζ;clear ζ Ε;refine W.o9 (σ0:=[cb d1]) (Nat.zero_le _) (λr ι=>by simp at ι;subst ι;exact wH d1 _) (λa κ=>by simp[θ.cells] at κ;rcases κ with rfl|rfl|rfl<;>simp[iL,θ.cells]) [(3,.ao [a7 s.au,bc s.aI,ca s.cells])] (by simp[lg,θ.cells,iL]) ?_;have ν:=hw.dΦ;have pI:=ν.small;have c0:=eω hw;have Κ:=dΜ ν;have pj:=ν.many;have jκ:=ν.au.hi;obtain⟨n,Ζ⟩:=aK s.cells.length;refine Η ?_;refine W.iter (λt:Nat=>t<=2) (λt=>[(3,.ao [a7 s.au,bc s.aI,ca s.cells]),(6,I t)]) (λ_=>[cb d1]) (λt=>2-t) 0 (Nat.zero_le _) rfl η (λt Ν Β=>?_);by_cases uD:t<2
 case neg=>
  have g:¬(t:Int)<2:=R;refine aB g ?_;refine aa η ?_;refine W.exit rfl ?_;refine bl λΕ ζ=>?_;refine az.d (bρ) (bD ?_);apply ζ;exact W.stop ⟨⟨_,rfl⟩,rfl⟩
 have ak:(t:Int)<2:=R
 have oO:=gR (i:=t) R;refine aB ak ?_;refine ai η ?_;obtain⟨lo,iJ⟩:∃lo,lo=decide ((t:Int)=1):=⟨_,rfl⟩;obtain⟨B,dU,yP,Ri⟩:=fυ ν c0 lo;have Rj:=Ny s pI _ Κ lo pw 255 bu Kp (fς ν c0 lo);rw[dU] at Rj;have BB:=λc:Nat=>eΑ s pI _ Κ c lo 255 bu Kp (λ_=>yO ν c0 lo);have fΑ:=λ(c:Nat) (x:Int)=>eΒ s pI _ Κ c lo x 255 bu Kp (λ_=>yO ν c0 lo) (fψ ν lo);have fΒ:=λ(c:Nat) (δ:c<n)=>fχ ν c0 (c:=c) R lo;have Fz:=λ(c:Nat) (δ:c<n) (x:Int)=>fφ ν c0 (c:=c) R (lower:=lo) (x:=x);have FA:=λ(c:Nat) (δ:c<n)=>Kq (s:=s) (lower:=lo) (c:=c) R c0;have hlen:=λ(c:Nat) (δ:c<n)=>Kr (s:=s) (lower:=lo) (c:=c) R;have FB:=λ(c:Nat) (δ:c<n) (x:Int)=>BA (s:=s) (lower:=lo) (c:=c) (x:=x) R;rw[<-Ζ] at yP Ri;generalize cV s=F at *;(repeat apply ad);refine bs λΕ ζ=>?_;simp;(repeat (rw[Ο];simp[iJ.symm]));refine az.d (Rj) (bD ?_);apply ζ;(repeat (first|apply ad|(refine bs λΕ ζ=>?_;simp;(repeat (rw[Ο];simp[yP,Ζ.symm]));apply ζ)));refine aa η ?_;refine Η ?_;refine W.iter (λc:Nat=>c<=n) (λc=>[(3,.ao [a7 s.au,bc s.aI,ca s.cells]),(6,I t),(7,mP B),(9,I c)]) (λ_=>[cb d1]) (λc=>n-c) 0 (Nat.zero_le _) rfl η (λc δ gd=>?_);by_cases jU:c<n
 case neg=>
  have g:¬(c:Int)<(n:Int):=R;(repeat (first|apply ad|(refine bs λΕ ζ=>?_;simp;(repeat (rw[Ο];simp[Ζ.symm,g]));apply ζ)));refine aa η ?_;refine W.exit rfl ?_;refine aB oO ?_;exact W.to (Β (t+1) R R) rfl η
 have g:(c:Int)<(n:Int):=R
 have rB:=gR (i:=c) R;(repeat (first|apply ad|(refine bs λΕ ζ=>?_;simp;(repeat (rw[Ο];simp[Ζ.symm,g]));apply ζ)));refine ai η ?_;obtain⟨b,bw,dm,⟨dK,dq,ga⟩⟩:=Ri c jU;have BB:=BB c;have Fz:=Fz c jU;have FA:=FA c jU;have hlen:=hlen c jU;have FB:=FB c jU;rw[fΒ c jU] at BB;obtain⟨L,ab⟩:=aK (fS F c lo);simp only[<-ab] at BB Fz FA hlen FB dK dq ga;have Ks:¬L.length=0:=λh=>FA (dG.1 h);have Rk:IntKind.i64.wrap ((s.au.length:Int)+1)=((s.au.length+1:Nat):Int):=gR R;have xZ:¬(s.au.length:Int)+1<(L.length:Int):=R;have fA:B.data[c]?.getD 0=b:=by rw[<-bw,List.getD_eq_getElem?_getD,Array.getElem?_toList]
 (repeat apply ad);refine bs λΕ ζ=>?_;simp;(repeat (rw[Ο];simp[iJ.symm]));refine az.d (BB) (bD ?_);apply ζ;by_cases q:1<L.length
 ·have BC:(1:Int)<(L.length:Int):=by omega
  have BD:(b.toNat:Int)=63:=by have:=dK.2 q;omega
  refine aB (υ Ks (υ Rk (υ xZ (υ yP (υ g (υ bw (υ fA (υ BC BD)))))))) ?_;refine aa η ?_;refine aB BC ?_;refine ai η ?_;refine W.exit rfl ?_;refine aB rB ?_;exact W.to (gd (c+1) R R) rfl η
 have BC:¬(1:Int)<(L.length:Int):=R
 have BD:¬(b.toNat:Int)=63:=by have:=λh=>q (dK.1 h);omega
 refine aB (υ Ks (υ Rk (υ xZ (υ yP (υ g (υ bw (υ fA (υ BC BD)))))))) ?_;refine aa η ?_;refine aB BC ?_;refine aa η ?_;obtain⟨x,rfl⟩:∃x,L=[x]:=by
  match L,Ks,q with
  | [x],_,_=>exact⟨x,rfl⟩
  | x::y::z,_,q=>simp at q
 have γ:=FB x η
 have hv:=fΑ c x;rw[Fz x rfl] at hv
 repeat apply ad
 refine W.draw (A:=[]) Ρ mixed λΕ ζ=>?_;simp;(repeat (rw[c7];simp[iJ.symm]));try rw[c6]
 refine eA (az.q (hv)) (p7 ?_);refine er (ζ _ _ ?_);have Χ:¬x< -1:=R;have aY:¬(s.au.length:Int)<=x:=R;by_cases I6:x<0
 ·obtain rfl:x=-1:=by omega
  have BD:(b.toNat:Int)=45:=by have:=dq rfl;omega
  refine Η ?_;refine dF (υ yP (υ g (υ bw (υ fA (υ aY BD))))) ?_;refine aa η ?_;refine aB rB ?_;exact W.to (gd (c+1) R R) rfl η
 ·obtain⟨k,rfl⟩:∃k:Nat,x=k:=⟨x.toNat,R⟩;obtain⟨Rl,Ξ,n3⟩:=ga k rfl;have ς:k<s.au.length:=R;have fΓ:∀h,s.au[k]'h=Rl:=λh=>by rw[bg h] at Ξ;exact Option.some.inj Ξ
  have cy:¬(k:Int)=-1:=R
  have Τ:(c:Int)<=(c:Int)+1/\(c:Int)+1<=(n:Int):=R
  have F5:B.extract c (c+1)=Rl.name:=by rw[dm,n3]
  refine Η ?_;refine dF (υ yP (υ g (υ bw (υ fA (υ @Χ (υ aY (υ cy (υ Τ (υ rB (υ Ξ (υ fΓ (υ ς (υ F5 jU))))))))))))) ?_;refine aa η ?_;refine aB rB ?_;exact W.to (gd (c+1) R R) rfl η
theorem fΔ:(laidOutB Tryz.prog)=true:=by kernel_rfl
theorem fΕ:(mapsRowed Tryz.prog)=true:=by kernel_rfl
theorem fΖ:((Tryz.prog.stops==[]))=true:=by kernel_rfl
theorem fΗ:((Tryz.prog.stopKnobs==[]))=true:=by kernel_rfl
theorem fΘ:(Tryz.prog.stopsHeard)=true:=by kernel_rfl
theorem fΙ:(Tryz.prog.mayEnter)=true:=by kernel_rfl
theorem fΚ:(YtlabjopijpkiaaaGreat.Rows.lightLineRow.wf (OpenSpec.ofChange YtlabjopijpkiaaaGreat.Rows.lightLineSpec))=true:=by kernel_rfl
theorem fΜ:(Tryz.f11.params.all (Tryz.prog.readableRec ·))=true:=by kernel_rfl
theorem fΝ:(namedTie Tryz.prog YtlabjopijpkiaaaGreat.Rows.lightLineRow.named YtlabjopijpkiaaaGreat.Rows.lightLineSpec.vars)=true:=by kernel_rfl
theorem fΞ:((YtlabjopijpkiaaaGreat.Rows.lightLineRow.stops==[]))=true:=by kernel_rfl
theorem fΟ:((YtlabjopijpkiaaaGreat.Rows.lightLineRow.knobs==[]))=true:=by kernel_rfl
theorem fΡ:((YtlabjopijpkiaaaGreat.Rows.lightLineRow.inPlace==Tryz.prog.inPlace 11))=true:=by kernel_rfl
theorem fΤ:((YtlabjopijpkiaaaGreat.Rows.lightLineRow.unfollowed==Tryz.prog.unfollowed 11))=true:=by kernel_rfl
theorem fΥ:((YtlabjopijpkiaaaGreat.Rows.lightLineRow.recurses==Tryz.prog.recurses 11))=true:=by kernel_rfl
theorem fΦ:((YtlabjopijpkiaaaGreat.Rows.lightLineRow.named==Tryz.prog.varsNamed 11))=true:=by kernel_rfl
theorem fΧ:((YtlabjopijpkiaaaGreat.Rows.lightLineRow.maps==(Tryz.f11.params.toList++YtlabjopijpkiaaaGreat.Rows.lightLineSpec.plain.varTypes Tryz.prog).any (Tryz.prog.mapsRec ·)))=true:=by kernel_rfl
theorem fΨ:((YtlabjopijpkiaaaGreat.Rows.lightLineRow.ifaces==(Tryz.f11.params.toList++YtlabjopijpkiaaaGreat.Rows.lightLineSpec.plain.varTypes Tryz.prog).any (Tryz.prog.ifacesRec ·)))=true:=by kernel_rfl
theorem fΩ:((YtlabjopijpkiaaaGreat.Rows.lightLineRow.mapsOut==Tryz.prog.mapsAmong Tryz.f11.resultTypes.toList))=true:=by kernel_rfl
theorem gα:((YtlabjopijpkiaaaGreat.Rows.lightLineRow.loops==(Tryz.f11.params.toList++YtlabjopijpkiaaaGreat.Rows.lightLineSpec.plain.varTypes Tryz.prog).any (Tryz.prog.loopsFrom ·)))=true:=by kernel_rfl
theorem gβ:((YtlabjopijpkiaaaGreat.Rows.lightLineRow.wideKeys==(Tryz.f11.params.toList++YtlabjopijpkiaaaGreat.Rows.lightLineSpec.plain.varTypes Tryz.prog++Tryz.f11.resultTypes.toList).any (Tryz.prog.wideKeysFrom ·)))=true:=by kernel_rfl
theorem gγ:(YtlabjopijpkiaaaGreat.Rows.lightLineSpec.vars.all (Tryz.prog.varReadable ·))=true:=by kernel_rfl
theorem gδ:(Tryz.f11.resultTypes.all (λt=>Tryz.prog.readableRec t&&decide (t<Tryz.prog.types.size)))=true:=by kernel_rfl
theorem gε:((YtlabjopijpkiaaaGreat.Rows.lightLineRow.ifacesOut==Tryz.f11.resultTypes.toList.any (Tryz.prog.ifacesRec ·)))=true:=by kernel_rfl
theorem gζ:((YtlabjopijpkiaaaGreat.Rows.lightLineRow.loopsOut==Tryz.f11.resultTypes.toList.any (Tryz.prog.loopsFrom ·)))=true:=by kernel_rfl
theorem gη:((YtlabjopijpkiaaaGreat.Rows.lightLineRow.plainKeys==Tryz.prog.plainKeys))=true:=by kernel_rfl
theorem gθ:(YtlabjopijpkiaaaGreat.Rows.lightLineRow.shortTexts.isNone)=true:=by kernel_rfl
theorem gι:((YtlabjopijpkiaaaGreat.Rows.lightLineRow.lifted==Tryz.prog.liftsFinal))=true:=by kernel_rfl
theorem gκ:((Tryz.prog.make==some YtlabjopijpkiaaaGreat.Rows.lightLineRow.make))=true:=by kernel_rfl
theorem gμ:((YtlabjopijpkiaaaGreat.Rows.lightLineRow.kinds==(if YtlabjopijpkiaaaGreat.Rows.lightLineRow.domain.isEmpty then [] else Tryz.f11.params.toList.map λt=>match Tryz.prog.underlying t with|some (.int k)=>some k|_=>none)))=true:=by kernel_rfl
theorem gν:((YtlabjopijpkiaaaGreat.Rows.lightLineRow.pinned==YtlabjopijpkiaaaGreat.Rows.lightLineRow.pinnedBy))=true:=by kernel_rfl
theorem gξ:((YtlabjopijpkiaaaGreat.Rows.lightLineRow.veiled==(Tryz.f11.params.toList++YtlabjopijpkiaaaGreat.Rows.lightLineSpec.plain.varTypes Tryz.prog++Tryz.f11.resultTypes.toList).any (Tryz.prog.veiledRec ·)))=true:=by kernel_rfl
theorem gο:(YtlabjopijpkiaaaGreat.Rows.lightLineRow.veiledFits Tryz.prog Tryz.f11.params.toList (Tryz.f11.params.toList++YtlabjopijpkiaaaGreat.Rows.lightLineSpec.plain.varTypes Tryz.prog++Tryz.f11.resultTypes.toList))=true:=by kernel_rfl
theorem gπ:joinedFacts Tryz.prog 11 Tryz.f11 YtlabjopijpkiaaaGreat.Rows.lightLineSpec YtlabjopijpkiaaaGreat.Rows.lightLineRow=true:=by
 unfold joinedFacts;simp only[Bool.and_eq_true];exact⟨⟨⟨⟨⟨⟨⟨⟨⟨⟨⟨⟨⟨⟨⟨⟨⟨⟨⟨⟨⟨⟨⟨⟨⟨⟨⟨⟨⟨⟨⟨fΚ,fΔ⟩,fΕ⟩,fΜ⟩,fΝ⟩,fΞ⟩,fΖ⟩,fΟ⟩,fΗ⟩,fΡ⟩,fΤ⟩,fΥ⟩,fΦ⟩,fΧ⟩,fΨ⟩,fΩ⟩,gα⟩,gβ⟩,gγ⟩,gδ⟩,gε⟩,gζ⟩,gη⟩,gθ⟩,fΘ⟩,fΙ⟩,gι⟩,gκ⟩,gμ⟩,gν⟩,gξ⟩,gο⟩
end Go.TL
namespace Go.TL
open Go.Conc Go.ConcM Go.Proofs
open Go.ChangeShapes Go.WideShapes Go.ChangeAt Go.RowKit
set_option maxRecDepth 100000 in
theorem gρ (hW:∀(W:World) (l:List Int) (v:Value),l.length<2 ^ 63->ay (qy W) [] [] (bO I 1 l) v->Comes Tryz.prog (λv=>v=.bool true) W (solo (Go.Conc.G (Frame.enter Tryz.prog 11 #[v] .normal) []) W) #[])
  (os:Os) (started:os.Started) (H:Type) (enc:TypeId×Value->H) (F:Stop.Interp) :
  ReturnsInLeavingWide YtlabjopijpkiaaaGreat.Rows.lightLineRow.assume Tryz.checked os 11 .any (YtlabjopijpkiaaaGreat.Rows.lightLineSpec.pre6 enc Tryz.prog Tryz.f11 YtlabjopijpkiaaaGreat.Rows.lightLineRow.domain YtlabjopijpkiaaaGreat.Rows.lightLineRow.apart)
   ((OpenSpec.ofChange YtlabjopijpkiaaaGreat.Rows.lightLineSpec).postWith enc Tryz.prog Tryz.f11 F (outsideKept [.timePasses]) YtlabjopijpkiaaaGreat.Rows.lightLineRow.apart YtlabjopijpkiaaaGreat.Rows.lightLineRow.fresh YtlabjopijpkiaaaGreat.Rows.lightLineRow.handsOn):=by
 refine returnsInLeavingWide_of_change_time (C:=Tryz.checked) cκ started Tryz.func11
  (ChangeSpec.witness6c (enc:=enc) (C:=Tryz.checked) ⟨#[],#[.slice none 0 0],[]⟩ 8 (by kernel_rfl) (by kernel_rfl) (by kernel_rfl) (by kernel_rfl)) ?_
 intro W base args ds gs before gς Rm _ _ _;have EW:∀(j:Nat) t v,Tryz.f11.params[j]?=some t->args[j]?=some v->Value.okWide Tryz.prog W .any base t v:=gς;have Rn:=Rm;obtain⟨p,q,gτ,oN,rfl,LS,kL⟩:=Rm;have bW:DataW.TrodAll enc Tryz.prog W 0 (λ_=>true) true Tryz.f11.params.toList args.toList ds p:=gτ;rw[Tryz.params11] at bW EW;obtain⟨v0,d0,rfl,rfl,aj⟩:=trodAll_one bW;obtain⟨rfl,rfl⟩:=trodVars_none oN;have aP:∀x∈p,x.block<W.heap.size:=λx γ=>by simpa using Rn.lt x (List.mem_append_left _ γ)
 have mM:∀(Kt:World),Below W.heap.size W Kt->DataW.Trod enc Tryz.prog Kt 0 (λb=>decide (b<W.heap.size)) true 29 v0 d0 p:=
  λKt Ζ=>Below.trod cμ (by kernel_rfl) (of_decide_eq_true (by kernel_rfl)) aj Ζ aP
 obtain⟨l,ο,CU⟩:∃l:List Int,l.length<2 ^ 63/\ay (qy W) [] [] (bO I 1 l) v0:=by
  obtain⟨Bt,len,cap,rfl⟩:=okWide_slice Tryz.underlying29 (EW 0 29 v0 rfl rfl);obtain⟨jμ,Υ⟩:=aj;rcases open_ints Tryz.underlying29 Tryz.underlying3 cν Υ with⟨iI,γ⟩|⟨a,jν,GH,gn,iI,_,ο,hm,Τ,γ,x3,jξ⟩
  ·simp[Value.cells] at iI;obtain⟨rfl,rfl,rfl⟩:=iI;exact⟨[],bu,.i' _ _ η⟩
  ·simp[Value.cells] at iI;obtain⟨rfl,rfl,rfl⟩:=iI;simp only[if_true] at Τ;refine⟨gn.take len,?_,cο ο R x3⟩;rw[List.length_take];unfold maxLen at hm;omega
 obtain⟨M,last,o,w',t',r1,r2,r3,v,e,ψ,Χ,ak,aY,cy⟩:=hW W l v0 ο CU;refine⟨M,last,o,w',t',r1,r2,r3,v,e,⟨?_,ψ.2.os⟩,Χ,ak,aY,cy⟩;obtain⟨rfl,ς⟩:=ψ;exact⟨_,_,_,[],_,[],Rn,trodAll_mk1 (shut_bool Tryz.underlying4 _),trodAll_mk1 (mM _ ς.below),rfl,ς.below.frame _,λh=>by cases h⟩
theorem gυ (W:World) (l:List Int) (v:Value) (ο:l.length<2 ^ 63) (ι:ay (qy W) [] [] (bO I 1 l) v):Comes Tryz.prog (λv=>v=.bool true) W (solo (Go.Conc.G (Frame.enter Tryz.prog 11 #[v] .normal) []) W) #[]:=
 cι (d:=2) (l:=[bO I 1 l]) Tryz.func11 rfl (by kernel_rfl) (by kernel_rfl) ⟨rfl,λi a u J U=>by
  match i with
  | 0=>simp at J U;subst J;subst U;exact ι
  | i+1=>simp at J⟩ (by rw[Tryz.ntmps11];simp) (fω l ο)
end Go.TL
namespace Go.Proofs.YtlabjopijpkiaaaGreat
open Go.TL
theorem light_line:Rows.LightLineSaid:=
 OpenClaim.holds_of_wide_leaving_time 11 Tryz.f11 rfl rfl rfl rfl rfl rfl rfl ⟨rfl,rfl,rfl,rfl,rfl⟩ rfl rfl rfl rfl rfl (by kernel_rfl) Tryz.func11 gπ
  (of_decide_eq_true (by kernel_rfl)) (by unfold Func.isWrapper;first|(rw[if_pos (by decide +kernel)];kernel_rfl)|(rw[if_neg (by decide +kernel)];exact⟨rfl,rfl⟩))
  (λos started H enc _ F=>gρ gυ os started H enc F)
end Go.Proofs.YtlabjopijpkiaaaGreat
