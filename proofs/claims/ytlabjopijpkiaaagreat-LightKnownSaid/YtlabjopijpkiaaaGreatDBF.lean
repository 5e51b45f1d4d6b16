/- LightKnown: the examples of the chapter have the results given there. No conditions. -/
import Derived.Conc.HoldsTime
import Derived.KernelRfl
import Derived.OpenShut
import Derived.Test.YtlabjopijpkiaaaGreatDAZ
import Derived.Test.YtlabjopijpkiaaaGreatDBE
import Derived.Test.YtlabjopijpkiaaaGreatRows
set_option maxHeartbeats 16000000
set_option maxRecDepth 20000
set_option linter.unusedSectionVars false
set_option linter.unusedSimpArgs false
set_option linter.unusedVariables false
namespace Go.TL
open Go.Proofs
theorem Qv [bj] {l m:List (Int×Int)} (ς:l.Perm m) (hm:m.Pairwise λx y=>eI x y=true):l.mergeSort eI=m:=by
 have z2:∀a b c:Int×Int,eI a b=true->eI b c=true->eI a c=true:=λa b c h k=>by
  simp only[eI,p6] at *;simp at *;omega
 have z3:∀a b:Int×Int,(eI a b||eI b a)=true:=λa b=>by
  simp only[eI,p6];simp;omega
 have s1:=List.pairwise_mergeSort (le:=eI) z2 z3 l;exact List.Perm.eq_of_pairwise (le:=λa b=>eI a b=true) (λa b _ _ h k=>Dx a b (by simpa[eI] using k) (by simpa[eI] using h)) s1 hm ((List.mergeSort_perm l _).trans ς)
theorem dφ [bj]:rB aQ (bW aQ) 0=([(1,4)],0):=by
 have e:(fX aQ 0 (bW aQ)).2.2=0:=by decide +kernel
 have Γ:kq (bW aQ) 0=[(1,4),(1,4)]:=by decide +kernel
 unfold rB Ba;rw[if_pos e];show(dT ((kq (bW aQ) 0).mergeSort eI),(0:Int))=_;rw[Γ,Qv (m:=[(1,4),(1,4)]) (.refl _) (by decide +kernel)];decide
theorem dχ [bj]:rB aQ (bW aQ) 1=([(-1,1),(-1,2)],0):=by
 have e:(fX aQ 1 (bW aQ)).2.2=0:=by decide +kernel
 have Γ:kq (bW aQ) 1=[(-1,1),(-1,2),(-1,1),(-1,2)]:=by decide +kernel
 unfold rB Ba;rw[if_pos e];show(dT ((kq (bW aQ) 1).mergeSort eI),(0:Int))=_;rw[Γ,Qv (m:=[(-1,1),(-1,1),(-1,2),(-1,2)]) a0 (by decide +kernel)];decide
theorem dψ:rB aQ (bW aQ) 2=([],3):=by
 have e:(fX aQ 2 (bW aQ)).2.2=3:=by decide +kernel
 unfold rB;rw[e];rfl
theorem JZ:gP (bW aQ) 0 false=[1,1]:=by decide +kernel
theorem J0:gP (bW aQ) 1 false=[-1,-1,-1,-1]:=by decide +kernel
theorem J1:ew (bW aQ) 0 false=[1]:=by
 unfold ew;rw[JZ,Ey (m:=[1,1]) (.refl _) a0];decide
theorem ET:ew (bW aQ) 1 false=[-1]:=by
 unfold ew;rw[J0,Ey (m:=[-1,-1,-1,-1]) (.refl _) a0];decide
theorem dω:(fX aQ 0 (bW aQ)).2.2=0:=by decide +kernel
theorem Qw:(fX aQ 1 (bW aQ)).2.2=0:=by decide +kernel
theorem dΑ:rA aQ (bW aQ) 0 false=([1],0):=by
 unfold rA;rw[if_pos dω];show(ew (bW aQ) 0 false,(0:Int))=_;rw[J1]
theorem dΒ:rA aQ (bW aQ) 1 false=([-1],0):=by
 unfold rA;rw[if_pos Qw];show(ew (bW aQ) 1 false,(0:Int))=_;rw[ET]
theorem dΓ:rA aQ (bW aQ) 1 true=([1,2],0):=by
 unfold rA;rw[if_pos Qw];show(ew (bW aQ) 1 true,(0:Int))=_;rw[AN]
theorem wj (lower:Bool):A6 aQ (bW aQ) lower 12:=by
 refine⟨by decide +kernel,by decide +kernel,λc ε=>?_⟩;have ε:c<2:=ε;cases lower
 ·match c,ε with
  | 0,_=>rw[JZ];decide
  | 1,_=>rw[J0];decide
 ·match c,ε with
  | 0,_=>rw[I6];decide
  | 1,_=>rw[I7];decide
theorem EU:bW aQ≠[]:=by decide +kernel
theorem dΔ:ph aQ (bW aQ) 0 true 4=(1,0):=by
 unfold ph;rw[if_neg (by rw[ru];decide),if_neg a0,if_neg EU];show(if ¬(ew (bW aQ) 0 true).contains 4=true then((2:Int),(0:Int)) else if(ew (bW aQ) 0 true).length=1 then(1,0) else(3,0))=_;rw[I9];decide
theorem dΕ:ph aQ (bW aQ) 1 true 1=(3,0):=by
 unfold ph;rw[if_neg (by rw[ru];decide),if_neg a0,if_neg EU];show(if ¬(ew (bW aQ) 1 true).contains 1=true then((2:Int),(0:Int)) else if(ew (bW aQ) 1 true).length=1 then(1,0) else(3,0))=_;rw[AN];decide
theorem dΖ:ph aQ (bW aQ) 1 true 4=(2,0):=by
 unfold ph;rw[if_neg (by rw[ru];decide),if_neg a0,if_neg EU];show(if ¬(ew (bW aQ) 1 true).contains 4=true then((2:Int),(0:Int)) else if(ew (bW aQ) 1 true).length=1 then(1,0) else(3,0))=_;rw[AN];decide
theorem dΗ:ph aQ (bW aQ) 1 false (-1)=(1,0):=by
 unfold ph;rw[if_neg (by rw[ru];decide),if_neg a0,if_neg EU];show(if ¬(ew (bW aQ) 1 false).contains (-1)=true then((2:Int),(0:Int)) else if(ew (bW aQ) 1 false).length=1 then(1,0) else(3,0))=_;rw[ET];decide
theorem dΘ:Hw aQ (bW aQ) false pd 12:=by
 refine⟨by decide +kernel,by decide +kernel,λc ε=>?_,Pa.name⟩;have ε:c<2:=ε
 match c,ε with
 | 0,_=>rw[JZ,J1];decide
 | 1,_=>rw[J0,ET];decide
theorem dΙ:na aQ (bW aQ) false pd 2=[99,45]:=by
 show [0,1].map (q7 aQ (bW aQ) false pd)=_;simp only[List.map_cons,List.map_nil,q7,J1,ET];decide +kernel
theorem dΚ:q8 aQ (bW aQ) false pd=(spell [99,45],0):=by
 unfold q8;rw[if_pos O9];show(spell (na aQ (bW aQ) false pd 2),(0:Int))=_;rw[dΙ]
theorem dΜ:(spell [99,45]).toList=[99,45]:=by decide +kernel
theorem EV [bj] (lower:Bool) (c:Nat):(ew (bW aQ) c lower).length<2 ^ 40:=cΖ uj lower c
end Go.TL
namespace Go.TL
open Go.Proofs
variable [bj]
abbrev uk:θ:=.sl true 2 [hI ⟨⟨#[98]⟩,9⟩,hI ⟨⟨#[99]⟩,4⟩,hI ⟨⟨#[100]⟩,6⟩,hI ⟨⟨#[105]⟩,48⟩,hI ⟨⟨#[111]⟩,12⟩]
abbrev rC:θ:=.sl true 1 [cE [1,2],cE [0],cE [0,1,2]]
abbrev rD:θ:=.sl true 3 [cA ⟨0,4,59⟩,cA ⟨1,8,3⟩]
abbrev yp:θ:=.sl true 3 [cA ⟨0,0,63⟩,cA ⟨1,4,8⟩]
theorem dΝ (σ:List Row):ak Tryz.prog 72 [] σ (λa s=>a=.a6 [uk,rC,.ms (σ.length+1) 2 0 2]/\s=σ++[.dead,.cells 60 1 [rD,yp]]) (λ_ _=>False):=by
 obtain⟨n,Ε⟩:=aO σ.length;have Ο:=Jd σ;have iP:=Pq σ;have μ:=Je σ;have gu:=Pr σ;rw[<-Ε] at Ο iP μ gu ⊢;refine ak.body Ρ Tryz.func72 rfl rfl Tryz.ntmps72 rfl rfl η ?_
 repeat apply al
 refine cR (A:=[0]) Ρ λΔ ζ=>?_;simp;(repeat (rw[ae];simp[Ε.symm]));apply ζ
 repeat apply al
 refine W.g8 (A:=[17]) Ρ [(0,.an n 1 0 0)] (σ++[ft uk rC (.ms (n+1) 2 0 2),.cells 60 1 [rD,yp]]) ?_ (by
  (try simp);(repeat (rw[ae];simp[Ε.symm,Ο,iP,μ,gu]));(try simp[Ε.symm,Ο,iP,μ,gu]))
 refine W.x6 (σ':=σ++[.dead,.cells 60 1 [rD,yp]]) (id:=n) γ (by rw[iP];rfl) η (by rw[iP];rfl) (λj r δ ι=>⟨r,?_,.inl rfl⟩) [(0,.aa [uk,rC,.ms (n+1) 2 0 2])] (λp ς=>by simp at ς;subst ς;exact .an (e:=.a6 [uk,rC,.ms (n+1) 2 0 2]) rfl) ?_
 ·by_cases e:j<n
  ·rw[dv γ] at ι ⊢;exact ι
  ·obtain⟨k,rfl⟩:∃k,j=n+k:=⟨j-n,γ⟩;rw[Ο] at ι ⊢
   match k,δ,ι with
   | 0,h,_=>exact absurd rfl h
   | k+1,_,ι=>exact ι
 exact W.ret ⟨_,rfl,rfl,rfl⟩
theorem EW {σ:List Row} {K E:θ->List Row->Prop} (ζ:K (.a6 [uk,rC,.ms (σ.length+1) 2 0 2]) (σ++[.dead,.cells 60 1 [rD,yp]])):hV Tryz.prog (.fn (.func 72) [] []) [] σ K E:=
 ak.call (first:=[]) (captured:=[]) ((dΝ σ).mono (λa r ⟨Γ,Θ⟩=>by rw[Γ,Θ];exact ζ) (λa s h=>h.elim))
end Go.TL
namespace Go.TL
open Go.Proofs
theorem EX [bj] {σ:List Row} {i j:Nat} {G L:θ} {C:List θ} (dn:∀a∈[G,L],aK 0 a) (hC:∀e∈C,e.cells=[e]/\aK 0 e) (hi:σ[i]?=some (ft G L (.ms j C.length 0 C.length))) (δ:σ[j]?=some (.cells 60 1 C)):eE 0 σ (.an i 1 0 0) (.aa [G,L,.sl false 1 C]):=by
 refine eE.struct (id:=i) (t:=26) (k:=3) (l:=[G,L,.ms j C.length 0 C.length]) (Nat.zero_le _) hi rfl (λy a bP I R=>?_)
 match y with
 | 0=>simp at I R;subst I;subst R;exact .low (dn _ η)
 | 1=>simp at I R;subst I;subst R;exact .low (dn _ η)
 | 2=>
  simp at I R;subst I;subst R;exact eE.own (Nat.zero_le _) δ rfl (λe he a κ=>by
   obtain⟨ν,Ι⟩:=hC e he;rw[ν] at κ;simp at κ;subst κ;exact Ι)
 | y+3=>simp at I
theorem dΞ:@W n4 Tryz.prog 0 392 [.code (Tryz.f19.body.getD .skip)] (entry 0 []) [] (λj env _=>(∃k,j=.code .ret::k)/\bc env 0=bs true) (λ_ _ _=>False):=by
 letI:bj:=n4;show W Tryz.prog 0 392 [.code _] _ _ _ _;refine W.seq ?_
 repeat apply al
 refine vk ?_;refine cI ?_;refine cR (A:=[1,2,3,4]) Ρ λΔ ζ=>aV ?_;refine EW ?_;simp;(repeat (rw[ae];simp[]));refine EW ?_;simp;(repeat (rw[ae];simp[]));refine EW ?_;simp;(repeat (rw[ae];simp[]));refine EW ?_;simp;(repeat (rw[ae];simp[]));apply ζ;refine Β ?_;refine vl ?_;refine Β ?_;refine vl ?_;refine Β ?_;refine vl ?_;refine W.cut 0 (Nat.le_refl _) [(1,.aa [.sl false 2 [hI ⟨⟨#[98]⟩,9⟩,hI ⟨⟨#[99]⟩,4⟩,hI ⟨⟨#[100]⟩,6⟩,hI ⟨⟨#[105]⟩,48⟩,hI ⟨⟨#[111]⟩,12⟩,hI ⟨⟨#[99]⟩,1⟩],rC,.sl false 1 [rD,yp]]),(2,.aa [uk,rC,.sl false 1 [rD,.sl false 3 [cA ⟨0,0,63⟩,cA ⟨1,4,8⟩,cA JW]]]),(3,.aa [uk,rC,.sl false 1 [rD,.sl false 3 [cA ⟨0,0,63⟩,cA ⟨1,4,8⟩,cA JX]]]),(4,.aa [uk,rC,.sl false 1 [rD,.sl false 3 [cA ⟨0,0,63⟩,cA ⟨1,4,8⟩,cA Bb]]])] η (λid r b7 ι=>γ) (λp ς=>by
  simp only[List.mem_cons,List.not_mem_nil,or_false] at ς;rcases ς with rfl|rfl|rfl|rfl
  ·exact EX (i:=8) (j:=1) (by simp[j8,θ.cells]) (by simp[θ.cells,j8]) rfl rfl
  ·exact EX (i:=9) (j:=3) (by simp[j8,θ.cells]) (by simp[θ.cells,j8]) rfl rfl
  ·exact EX (i:=10) (j:=5) (by simp[j8,θ.cells]) (by simp[θ.cells,j8]) rfl rfl
  ·exact EX (i:=11) (j:=7) (by simp[j8,θ.cells]) (by simp[θ.cells,j8]) rfl rfl) ?_
 rw[List.take_zero];have z0:cp rC (aY aQ.ai):=.map (l:=[[1,2],[0],[0,1,2]]) (f:=cE) λx _=>.one .ex rfl rfl;have ox:cp (.sl false 1 [rD,yp]) (a7 aQ.cells):=.map (l:=[[⟨0,4,59⟩,⟨1,8,3⟩],[⟨0,0,63⟩,⟨1,4,8⟩]]) (f:=λl:List cG=>.sl true 3 (l.map cA)) λx _=>.one .ex rfl rfl;have l7:∀p:cG,cp (.sl false 1 [rD,.sl false 3 [cA ⟨0,0,63⟩,cA ⟨1,4,8⟩,cA p]]) (a7 (aQ.more 1 p).cells):=λp=>by
  refine .sl rfl λi a b I R=>?_
  match i with
  | 0=>simp at I;simp[aL.more,aQ] at R;subst I;subst R;exact .one .ex rfl rfl
  | 1=>simp at I;simp[aL.more,aQ] at R;subst I;subst R;exact .refl _
  | i+2=>simp at I
 refine W.eP [(1,.aa [aS we.Τ,aY we.ai,a7 we.cells]),(2,.aa [aS wh.Τ,aY wh.ai,a7 wh.cells]),(3,.aa [aS wi.Τ,aY wi.ai,a7 wi.cells]),(4,.aa [aS od.Τ,aY od.ai,a7 od.cells])] (λp ς=>by
  simp only[List.mem_cons,List.not_mem_nil,or_false] at ς;rcases ς with rfl|rfl|rfl|rfl
  ·exact cp.aa (.cons (.refl _) (.cons z0 (.cons ox .nil)))
  ·exact cp.aa (.cons .ex (.cons z0 (.cons (l7 JW) .nil)))
  ·exact cp.aa (.cons .ex (.cons z0 (.cons (l7 JX) .nil)))
  ·exact cp.aa (.cons .ex (.cons z0 (.cons (l7 Bb) .nil)))) ?_
 have μ:=Ex.small
 have Η:=O8 Ex
 have Qx:=p1 aQ μ
 have J2:=p1 we dε
 have J3:=p1 wh dζ
 have J4:=p1 wi dη;rw[ru] at Qx;rw[dθ] at J2;rw[dι] at J3;rw[dκ] at J4;obtain⟨hΖ,J5⟩:=aO we;obtain⟨hΗ,AO⟩:=aO wh;obtain⟨eh,zI⟩:=aO wi;obtain⟨bl,J6⟩:=aO od;have EY:=PK od yn.small a0 a0 (λ_=>a0) (EM od) (λ_ k ψ=>⟨A5 (EL yn _) (EL yn _).err,by have:=EK (od.sT (k.map λn:Nat=>(n:Int)));show(bW _).length<_;omega⟩);have J7:=PK aQ μ a0 a0 (λ_=>a0) (EM aQ) (λ_ k ψ=>⟨A5 (EL uj _) (EL uj _).err,by have:=EK (aQ.sT (k.map λn:Nat=>(n:Int)));show(bW _).length<_;omega⟩);rw[ru,dπ] at J7;rw[yn.err,dρ] at EY;simp only[if_true] at J7 EY;rw[<-J5] at J2;rw[<-AO] at J3;rw[<-zI] at J4;rw[<-J6] at EY;rw[<-J5,<-AO,<-zI,<-J6];clear J5 AO zI J6;have tV:=Ev aQ μ [1,0] [1,4] 0;have sk:=Ev aQ μ [1,0] [1,4] 2;have Qy:=Ev aQ μ [0,1] [1,4] 2;rw[dμ] at tV;rw[dν] at sk;rw[dξ] at Qy;have jS:=Hp 48;have h2:=Hp 64;rw[show valid 48=true by decide +kernel,show q5 48=48 by decide +kernel] at jS;rw[show valid 64=false by decide +kernel] at h2;simp at jS h2;have zZ:=V1 aQ μ;rw[ru,dο] at zZ;simp only[if_true] at zZ;have wx:=JU aQ μ _ Η 0 12 a0 JV (λ_=>by decide +kernel);have oA:=JU aQ μ _ Η 1 12 a0 JV (λ_=>by decide +kernel);have pZ:=JU aQ μ _ Η 2 12 a0 JV (λh=>absurd h (by decide +kernel));rw[dφ] at wx;rw[dχ] at oA;rw[dψ] at pZ;have w7:=JL aQ μ _ Η 0 false 12 a0 sz (λ_=>wj false);have w6:=JL aQ μ _ Η 1 false 12 a0 sz (λ_=>wj false);have mr:=JL aQ μ _ Η 1 true 12 a0 sz (λ_=>wj true);rw[dΑ] at w7;rw[dΒ] at w6;rw[dΓ] at mr;have Qz:=EN aQ μ _ Η 0 true 4 12 a0 sz (λ_=>wj true) (EV true);have m8:=EN aQ μ _ Η 1 true 1 12 a0 sz (λ_=>wj true) (EV true);have qj:=EN aQ μ _ Η 1 true 4 12 a0 sz (λ_=>wj true) (EV true);have QA:=EN aQ μ _ Η 1 false (-1) 12 a0 sz (λ_=>wj false) (EV false);rw[dΔ] at Qz;rw[dΕ] at m8;rw[dΖ] at qj;rw[dΗ] at QA;have xU:=M7 aQ μ _ Η (P' uj) (by rw[Qt];decide);have mH:=M7 ui yo.small _ (A5 yo) (P' yo) (by rw[Qu];decide);rw[ru,Qt] at xU;rw[yo.err,Qu] at mH;simp only[if_true] at xU mH;have vx:=Nb aQ μ _ Η false pd 12 a0 sz (λ_=>dΘ);rw[dΚ] at vx;have mA:∀s:aL,(bW s).length<2 ^ 20:=λs=>by have:=EK s;omega
 have k6:=Qf aQ μ 1 Bb _ (bW od) Η (mA _) (mA _) (λ_ _ _ _ _=>A5 yn yn.err)
 have l':=Qf aQ μ 1 JY _ (bW ui) Η (mA _) (mA _) (λ_ _ _ _ _=>A5 yo yo.err);rw[dς] at k6;rw[dτ] at l';have sY:=OQ aQ μ _ Η I8 0 true a0;rw[dυ] at sY;have js:=x1;generalize bW aQ=A' at *;generalize aQ=eg at *;generalize ui=hΘ at *;refine a5 λΔ ζ=>?_;refine Ω.d (Z7) (aV ?_);refine Ω.d (js) (aV ?_);refine Ω.d (Qx) (aV ?_);refine Ω.d (J2) (aV ?_);refine Ω.d (J3) (aV ?_);refine Ω.d (J4) (aV ?_);apply ζ;refine ay η ?_;refine a5 λΔ ζ=>?_;refine Ω.d (js) (aV ?_);refine Ω.c tV (.cons (.refl _) (.cons .ex (.cons .ex (.cons (.refl _) .nil)))) η η ?_;simp;(repeat (rw[ae];simp[]));apply ζ;refine a5 λΔ ζ=>?_;refine Ω.d (js) (aV ?_);refine Ω.c sk (.cons (.refl _) (.cons .ex (.cons .ex (.cons (.refl _) .nil)))) η η ?_;simp;(repeat (rw[ae];simp[]));apply ζ;refine a5 λΔ ζ=>?_;refine Ω.d (js) (aV ?_);refine Ω.c Qy (.cons (.refl _) (.cons .ex (.cons .ex (.cons (.refl _) .nil)))) η η ?_;simp;(repeat (rw[ae];simp[]));apply ζ;refine a5 λΔ ζ=>?_;refine Ω.d (jS) (aV ?_);apply ζ;refine a5 λΔ ζ=>?_;refine Ω.d (h2) (aV ?_);apply ζ;refine a5 λΔ ζ=>?_;refine Ω.d (js) (aV ?_);refine Ω.d (zZ) (aV ?_);apply ζ;refine a5 λΔ ζ=>?_;refine Ω.c (zO [[0,2],[2,0],[3,3],[4,4]] [[0,2],[2,0],[3,3],[4,4]] a0 a0) (.cons (.refl _) (.cons ?_ .nil)) η η ?_
 ·exact .map (l:=[[0,2],[2,0],[3,3],[4,4]]) (f:=λl:List Int=>.sl true 1 (l.map J)) (g:=cS J 1) λx _=>.one .ex rfl rfl
 simp;(repeat (rw[ae];simp[]));apply ζ;refine ay η ?_;refine a5 λΔ ζ=>?_;refine Ω.d (js) (aV ?_);refine Ω.d (wx) (aV ?_);apply ζ;refine a5 λΔ ζ=>?_;refine Ω.d (js) (aV ?_);refine Ω.d (oA) (aV ?_);apply ζ;refine a5 λΔ ζ=>?_;refine Ω.d (js) (aV ?_);refine Ω.d (pZ) (aV ?_);apply ζ;refine a5 λΔ ζ=>?_;refine Ω.d (js) (aV ?_);refine Ω.d (w7) (aV ?_);apply ζ;refine a5 λΔ ζ=>?_;refine Ω.d (js) (aV ?_);refine Ω.d (w6) (aV ?_);apply ζ;refine a5 λΔ ζ=>?_;refine Ω.d (js) (aV ?_);refine Ω.d (mr) (aV ?_);apply ζ;refine a5 λΔ ζ=>?_;refine Ω.c (zO [[1,4]] [[1,4]] a0 a0) (.cons ?_ (.cons ?_ .nil)) (by simp[j8,θ.cells]) η ?_
 ·exact .map (l:=[(1,4)]) (f:=cN) (g:=λx:Int×Int=>cS J 1 [x.1,x.2]) λx _=>.one .ex rfl rfl
 ·exact .map (l:=[[1,4]]) (f:=λl:List Int=>.sl true 1 (l.map J)) (g:=cS J 1) λx _=>.one .ex rfl rfl
 simp;(repeat (rw[ae];simp[]));refine Ω.c (zO [[-1,1],[-1,2]] [[-1,1],[-1,2]] a0 a0) (.cons ?_ (.cons ?_ .nil)) (by simp[j8,θ.cells]) η ?_
 ·exact .map (l:=[(-1,1),(-1,2)]) (f:=cN) (g:=λx:Int×Int=>cS J 1 [x.1,x.2]) λx _=>.one .ex rfl rfl
 ·exact .map (l:=[[-1,1],[-1,2]]) (f:=λl:List Int=>.sl true 1 (l.map J)) (g:=cS J 1) λx _=>.one .ex rfl rfl
 simp;(repeat (rw[ae];simp[]));refine Ω.c (zN [1] [1] a0) (.cons (.refl _) (.cons .ex .nil)) η η ?_;simp;(repeat (rw[ae];simp[]));refine Ω.c (zN [-1] [-1] a0) (.cons (.refl _) (.cons .ex .nil)) η η ?_;simp;(repeat (rw[ae];simp[]));refine Ω.c (zN [1,2] [1,2] a0) (.cons (.refl _) (.cons .ex .nil)) η η ?_;simp;(repeat (rw[ae];simp[]));apply ζ;refine ay η ?_;refine Β ?_;have hj:IntKind.i64.wrap 1=1:=a0;have eC:IntKind.i64.wrap 2=2:=a0;have hB:IntKind.i64.wrap 3=3:=a0;have o4:IntKind.i64.wrap 4=4:=a0;refine W.iter (λi:Nat=>i<=4) (λi=>[(4,.aa [aS bl.Τ,aY bl.ai,a7 bl.cells]),(22,.sl true 1 [J 0,J 1,J 1,J 1]),(23,.sl true 1 [bs true,bs true,bs true,bs false]),(24,.sl true 1 [J 4,J 1,J 4,J (-1)]),(25,.sl true 1 [J 1,J 3,J 2,J 1]),(26,J i)]) (λ_=>[]) (λi=>4-i) 0 a0 rfl η (λi hi ω=>?_);obtain rfl|rfl|rfl|rfl|rfl:i=0\/i=1\/i=2\/i=3\/i=4:=γ
 ·refine Β ?_;refine aA η ?_;refine Β ?_;refine W.draw (A:=[]) Ρ mixed λΔ ζ=>hZ ?_;refine eS (Ω.q (js)) (hZ ?_);refine eS (Ω.q (Qz)) (hZ ?_);refine fC (ζ _ _ ?_);refine Β ?_;refine ay η ?_;refine aT (Ζ hj (Ζ eC (Ζ hB o4))) ?_;exact W.to (ω 1 a0 a0) rfl η
 ·refine Β ?_;refine aA η ?_;refine Β ?_;refine W.draw (A:=[]) Ρ mixed λΔ ζ=>hZ ?_;refine eS (Ω.q (js)) (hZ ?_);refine eS (Ω.q (m8)) (hZ ?_);refine fC (ζ _ _ ?_);refine Β ?_;refine ay η ?_;refine aT (Ζ hj (Ζ eC (Ζ hB o4))) ?_;exact W.to (ω 2 a0 a0) rfl η
 ·refine Β ?_;refine aA η ?_;refine Β ?_;refine W.draw (A:=[]) Ρ mixed λΔ ζ=>hZ ?_;refine eS (Ω.q (js)) (hZ ?_);refine eS (Ω.q (qj)) (hZ ?_);refine fC (ζ _ _ ?_);refine Β ?_;refine ay η ?_;refine aT (Ζ hj (Ζ eC (Ζ hB o4))) ?_;exact W.to (ω 3 a0 a0) rfl η
 ·refine Β ?_;refine aA η ?_;refine Β ?_;refine W.draw (A:=[]) Ρ mixed λΔ ζ=>hZ ?_;refine eS (Ω.q (js)) (hZ ?_);refine eS (Ω.q (QA)) (hZ ?_);refine fC (ζ _ _ ?_);refine Β ?_;refine ay η ?_;refine aT (Ζ hj (Ζ eC (Ζ hB o4))) ?_;exact W.to (ω 4 a0 a0) rfl η
 clear ω hi;refine Β ?_;refine ay η ?_;refine W.exit rfl ?_;refine a5 λΔ ζ=>?_;refine Ω.d (js) (aV ?_);refine Ω.d (xU) (aV ?_);apply ζ;refine a5 λΔ ζ=>?_;refine Ω.d (js) (aV ?_);refine Ω.d (vx) (aV ?_);apply ζ;refine a5 λΔ ζ=>?_;refine Ω.d (js) (aV ?_);refine Ω.d (J7) (aV ?_);apply ζ;refine a5 λΔ ζ=>?_;refine Ω.d (EY) (aV ?_);apply ζ;refine a5 λΔ ζ=>?_;refine Ω.d (js) (aV ?_);refine Ω.d (k6) (aV ?_);apply ζ;refine cI ?_;refine cR (A:=[30]) Ρ λΔ ζ=>aV ?_;refine Ω.d (js) (aV ?_);refine Ω.d (l') (aV ?_);apply ζ;refine iE @dΜ λΔ ζ=>?_;refine Ω.c (zO [[1,0]] [[1,0]] a0 a0) (.cons (.refl _) (.cons ?_ .nil)) η η ?_
 ·exact .map (l:=[[1,0]]) (f:=λl:List Int=>.sl true 1 (l.map J)) (g:=cS J 1) λx _=>.one .ex rfl rfl
 simp;(repeat (rw[ae];simp[]));apply ζ;refine ay η ?_;refine a5 λΔ ζ=>?_;refine Ω.d (mH) (aV ?_);apply ζ;refine a5 λΔ ζ=>?_;refine Ω.d (js) (aV ?_);refine Ω.d (sY) (aV ?_);apply ζ;refine Β ?_;exact W.stop ⟨⟨_,rfl⟩,rfl⟩
theorem dΟ:(laidOutB Tryz.prog)=true:=by kernel_rfl
theorem dΡ:(mapsRowed Tryz.prog)=true:=by kernel_rfl
theorem dΤ:((Tryz.prog.stops==[]))=true:=by kernel_rfl
theorem dΥ:((Tryz.prog.stopKnobs==[]))=true:=by kernel_rfl
theorem dΦ:(Tryz.prog.stopsHeard)=true:=by kernel_rfl
theorem dΧ:(Tryz.prog.mayEnter)=true:=by kernel_rfl
theorem dΨ:(YtlabjopijpkiaaaGreat.Rows.lightKnownRow.wf (OpenSpec.ofChange YtlabjopijpkiaaaGreat.Rows.lightKnownSpec))=true:=by kernel_rfl
theorem dΩ:(Tryz.f19.params.all (Tryz.prog.readableRec ·))=true:=by kernel_rfl
theorem eα:(namedTie Tryz.prog YtlabjopijpkiaaaGreat.Rows.lightKnownRow.named YtlabjopijpkiaaaGreat.Rows.lightKnownSpec.vars)=true:=by kernel_rfl
theorem eβ:((YtlabjopijpkiaaaGreat.Rows.lightKnownRow.stops==[]))=true:=by kernel_rfl
theorem eγ:((YtlabjopijpkiaaaGreat.Rows.lightKnownRow.knobs==[]))=true:=by kernel_rfl
theorem eδ:((YtlabjopijpkiaaaGreat.Rows.lightKnownRow.inPlace==Tryz.prog.inPlace 19))=true:=by kernel_rfl
theorem eε:((YtlabjopijpkiaaaGreat.Rows.lightKnownRow.unfollowed==Tryz.prog.unfollowed 19))=true:=by kernel_rfl
theorem eζ:((YtlabjopijpkiaaaGreat.Rows.lightKnownRow.recurses==Tryz.prog.recurses 19))=true:=by kernel_rfl
theorem eη:((YtlabjopijpkiaaaGreat.Rows.lightKnownRow.named==Tryz.prog.varsNamed 19))=true:=by kernel_rfl
theorem eθ:((YtlabjopijpkiaaaGreat.Rows.lightKnownRow.maps==(Tryz.f19.params.toList++YtlabjopijpkiaaaGreat.Rows.lightKnownSpec.plain.varTypes Tryz.prog).any (Tryz.prog.mapsRec ·)))=true:=by kernel_rfl
theorem eι:((YtlabjopijpkiaaaGreat.Rows.lightKnownRow.ifaces==(Tryz.f19.params.toList++YtlabjopijpkiaaaGreat.Rows.lightKnownSpec.plain.varTypes Tryz.prog).any (Tryz.prog.ifacesRec ·)))=true:=by kernel_rfl
theorem eκ:((YtlabjopijpkiaaaGreat.Rows.lightKnownRow.mapsOut==Tryz.prog.mapsAmong Tryz.f19.resultTypes.toList))=true:=by kernel_rfl
theorem eμ:((YtlabjopijpkiaaaGreat.Rows.lightKnownRow.loops==(Tryz.f19.params.toList++YtlabjopijpkiaaaGreat.Rows.lightKnownSpec.plain.varTypes Tryz.prog).any (Tryz.prog.loopsFrom ·)))=true:=by kernel_rfl
theorem eν:((YtlabjopijpkiaaaGreat.Rows.lightKnownRow.wideKeys==(Tryz.f19.params.toList++YtlabjopijpkiaaaGreat.Rows.lightKnownSpec.plain.varTypes Tryz.prog++Tryz.f19.resultTypes.toList).any (Tryz.prog.wideKeysFrom ·)))=true:=by kernel_rfl
theorem eξ:(YtlabjopijpkiaaaGreat.Rows.lightKnownSpec.vars.all (Tryz.prog.varReadable ·))=true:=by kernel_rfl
theorem eο:(Tryz.f19.resultTypes.all (λt=>Tryz.prog.readableRec t&&decide (t<Tryz.prog.types.size)))=true:=by kernel_rfl
theorem eπ:((YtlabjopijpkiaaaGreat.Rows.lightKnownRow.ifacesOut==Tryz.f19.resultTypes.toList.any (Tryz.prog.ifacesRec ·)))=true:=by kernel_rfl
theorem eρ:((YtlabjopijpkiaaaGreat.Rows.lightKnownRow.loopsOut==Tryz.f19.resultTypes.toList.any (Tryz.prog.loopsFrom ·)))=true:=by kernel_rfl
theorem eς:((YtlabjopijpkiaaaGreat.Rows.lightKnownRow.plainKeys==Tryz.prog.plainKeys))=true:=by kernel_rfl
theorem eτ:(YtlabjopijpkiaaaGreat.Rows.lightKnownRow.shortTexts.isNone)=true:=by kernel_rfl
theorem eυ:((YtlabjopijpkiaaaGreat.Rows.lightKnownRow.lifted==Tryz.prog.liftsFinal))=true:=by kernel_rfl
theorem eφ:((Tryz.prog.make==some YtlabjopijpkiaaaGreat.Rows.lightKnownRow.make))=true:=by kernel_rfl
theorem eχ:((YtlabjopijpkiaaaGreat.Rows.lightKnownRow.kinds==(if YtlabjopijpkiaaaGreat.Rows.lightKnownRow.domain.isEmpty then [] else Tryz.f19.params.toList.map λt=>match Tryz.prog.underlying t with|some (.int k)=>some k|_=>none)))=true:=by kernel_rfl
theorem eψ:((YtlabjopijpkiaaaGreat.Rows.lightKnownRow.pinned==YtlabjopijpkiaaaGreat.Rows.lightKnownRow.pinnedBy))=true:=by kernel_rfl
theorem eω:((YtlabjopijpkiaaaGreat.Rows.lightKnownRow.veiled==(Tryz.f19.params.toList++YtlabjopijpkiaaaGreat.Rows.lightKnownSpec.plain.varTypes Tryz.prog++Tryz.f19.resultTypes.toList).any (Tryz.prog.veiledRec ·)))=true:=by kernel_rfl
theorem eΑ:(YtlabjopijpkiaaaGreat.Rows.lightKnownRow.veiledFits Tryz.prog Tryz.f19.params.toList (Tryz.f19.params.toList++YtlabjopijpkiaaaGreat.Rows.lightKnownSpec.plain.varTypes Tryz.prog++Tryz.f19.resultTypes.toList))=true:=by kernel_rfl
theorem eΒ:joinedFacts Tryz.prog 19 Tryz.f19 YtlabjopijpkiaaaGreat.Rows.lightKnownSpec YtlabjopijpkiaaaGreat.Rows.lightKnownRow=true:=by
 unfold joinedFacts;simp only[Bool.and_eq_true];exact⟨⟨⟨⟨⟨⟨⟨⟨⟨⟨⟨⟨⟨⟨⟨⟨⟨⟨⟨⟨⟨⟨⟨⟨⟨⟨⟨⟨⟨⟨⟨dΨ,dΟ⟩,dΡ⟩,dΩ⟩,eα⟩,eβ⟩,dΤ⟩,eγ⟩,dΥ⟩,eδ⟩,eε⟩,eζ⟩,eη⟩,eθ⟩,eι⟩,eκ⟩,eμ⟩,eν⟩,eξ⟩,eο⟩,eπ⟩,eρ⟩,eς⟩,eτ⟩,dΦ⟩,dΧ⟩,eυ⟩,eφ⟩,eχ⟩,eψ⟩,eω⟩,eΑ⟩
end Go.TL
namespace Go.TL
open Go.Conc Go.ConcM Go.Proofs
open Go.ChangeShapes Go.WideShapes Go.ChangeAt Go.RowKit
theorem eΓ (W:World):Comes Tryz.prog (λv=>v=.bool true) W (solo (Go.Conc.G (Frame.enter Tryz.prog 19 #[] .normal) []) W) #[]:=
 Z' (d:=0) (l:=[]) Tryz.func19 rfl (by kernel_rfl) (by kernel_rfl) ⟨rfl,λi a u I R=>by simp at I⟩ (by rw[Tryz.ntmps19];simp) dΞ
end Go.TL
namespace Go.Proofs.YtlabjopijpkiaaaGreat
open Go.TL
theorem light_known:Rows.LightKnownSaid:=
 OpenClaim.holds_of_wide_leaving_time 19 Tryz.f19 rfl rfl rfl rfl rfl rfl rfl ⟨rfl,rfl,rfl,rfl,rfl⟩ rfl rfl rfl rfl rfl (by kernel_rfl) Tryz.func19 eΒ
  (of_decide_eq_true (by kernel_rfl)) (by unfold Func.isWrapper;first|(rw[if_pos (by decide +kernel)];kernel_rfl)|(rw[if_neg (by decide +kernel)];exact⟨rfl,rfl⟩))
  (λos started H enc _ F=>aβ eΓ os started H enc F)
end Go.Proofs.YtlabjopijpkiaaaGreat
