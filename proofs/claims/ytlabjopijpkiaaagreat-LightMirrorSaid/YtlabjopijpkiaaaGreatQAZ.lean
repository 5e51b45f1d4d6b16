import Derived.Test.YtlabjopijpkiaaaGreatQAN
import Derived.Test.YtlabjopijpkiaaaGreatQAR
import Derived.Test.YtlabjopijpkiaaaGreatQAS
import Derived.Test.YtlabjopijpkiaaaGreatQAY
set_option maxHeartbeats 16000000
set_option maxRecDepth 20000
set_option linter.unusedSectionVars false
set_option linter.unusedSimpArgs false
set_option linter.unusedVariables false
namespace Go.TL
open Go.Conc Go.Proofs
variable [bh]
noncomputable abbrev GO (vs:Array Value):Frame:=Frame.enter Tryz.prog 28 vs .normal
theorem W0 {s:a9} {F:List Found} {cell:Int} (h:(mT s cell F).2.2=0):0<=cell/\cell<s.cells.length/\mT s cell F=(s,F,0):=by
 unfold mT at h ⊢;split at h
 ·rename_i J;simp at h;exact absurd h J
 ·split at h
  ·simp at h
  ·rename_i J R;rw[if_neg J,if_neg R];refine⟨by omega,by omega,?_⟩;unfold ft at h ⊢;rw[if_neg J] at h ⊢;split at h
   ·simp at h
   ·rename_i ς;rw[if_neg ς]
section
variable {Q:Value->Prop} {mn:Bool} {c:Frame} {rest:List Frame}
theorem W1 (s:a9) (ν:s.small) (F:List Found) (gC:se s F) (b8:B5 s F) (cell:Int) (lower:Bool) (Mm:s.ak.length<=4) :
  an Tryz.prog 28 [e8 s,δ cell,bJ lower] (.bn [bC δ 1 (sF s F cell lower).1,δ (sF s F cell lower).2]):=by
 refine⟨⟨_,Tryz.func28,rfl,rfl⟩,λQ mn x c rest eQ d' dC vs U qx GP kB=>?_⟩;obtain rfl:d'=[]:=dk.1 qx.len;rw[oz (body:=Tryz.f28.body.getD .skip) Tryz.func28 rfl];refine V.here (x:=x) (m:=0) (nt:=35) (S:=eQ) (B:=[]) (H:=dC) (σ:=[]) (env:=entry 0 [e8 s,δ cell,bJ lower]) ?_ (e5.enter qx GP (Nat.le_refl _) (by simp));refine V.a0 U rfl ?_;simp only[Tryz.f28,Option.getD_some]
 repeat apply μ
 refine dy (A:=[6,7]) Μ λθ I=>?_;simp;(repeat (rw[ε];simp));apply I;(repeat apply μ);refine dy (A:=[8,9]) Μ λθ I=>?_;simp;(repeat (rw[ε];simp));refine an.c (TB s ν cell F gC) (aE.refl _) (by simp) (by simp) ?_;simp;(repeat (rw[ε];simp));apply I;by_cases b:(mT s cell F).2.2=0
 case neg=>
  have e:sF s F cell lower=([],(mT s cell F).2.2):=by unfold sF;rw[if_pos b]
  rw[e] at kB;generalize (mT s cell F).2.2=fr at b kB ⊢;(repeat (first|apply μ|(refine ξ λθ I=>?_;simp;(repeat (rw[ε];simp));apply I)));refine ax (by simp[b]) ?_;(repeat (first|apply μ|(refine ξ λθ I=>?_;simp;(repeat (rw[ε];simp));apply I)));refine W.stop ?_;intro hB iM gU t5 jh j7;refine aB.ret U rfl rfl ?_;exact Mk U kB rfl rfl rfl rfl jh.ext j7.holds j7.b7 rfl rfl rfl rfl rfl (λh=>absurd rfl h)
 obtain⟨k7,tr,e⟩:=W0 b;obtain⟨n,rfl⟩:∃n:Nat,cell=n:=⟨cell.toNat,by omega⟩;have b3:n<s.cells.length:=by omega
 have Ε:sF s F n lower=match (jB s.ak.length 0).find? (pQ s F n lower) with|some l=>(l.map λn:Nat=>(n:Int),0)|none=>([],11):=by
  unfold sF;rw[if_neg (by simpa using b)];rfl
 rw[e];refine W.fix (id:=3) (σ':=[m2,m3,.cells 98 3 [e8 s]]) (Nat.zero_le _) rfl (by simp) (λid q bS Ψ=>by
  match id,bS,Ψ with
  | 0,_,Ψ=>simp at Ψ;subst Ψ;simp[eJ,ζ.cells]
  | 1,_,Ψ=>simp at Ψ;subst Ψ;simp[eJ,ζ.cells]
  | 2,_,Ψ=>simp at Ψ;subst Ψ;simp[eJ,ζ.cells]) rfl [(3,.Ω [aJ s.Τ,aL s.ak,bx s.cells]),(4,.Ω [δ n]),(5,.Ω [bJ lower]),(6,.ae 0 1 0 0),(7,.ae 1 1 0 0),(8,.ae 2 1 0 0),(9,.Ω [cD F]),(10,δ 0)] (by simp[iZ]) ?_
 refine W.fix (id:=2) (σ':=[m2,m3]) (Nat.zero_le _) rfl (by simp) (λid q bS Ψ=>by
  match id,bS,Ψ with
  | 0,_,Ψ=>simp at Ψ;subst Ψ;simp[eJ,ζ.cells]
  | 1,_,Ψ=>simp at Ψ;subst Ψ;simp[eJ,ζ.cells]) rfl ((10,δ 0)::wh s F n lower) (by simp[iZ]) ?_
 (repeat (first|apply μ|(refine ξ λθ I=>?_;simp;(repeat (rw[ε];simp));apply I)));refine au rfl ?_;(repeat (first|apply μ|(refine ξ λθ I=>?_;simp;(repeat (rw[ε];simp));apply I)));(repeat apply μ);refine ξ λθ I=>?_;simp;(repeat (rw[ε];simp));refine an.c (WW s.ak.length) (aE.refl _) (by simp) (by simp) ?_;simp;(repeat (rw[ε];simp));apply I
 repeat apply μ
 refine W.forget ((25,.fn (.func 126) [] [.Ω [δ s.ak.length]])::wh s F n lower) (by simp) ?_;refine W.stop ?_;intro br bB H1 t1 oB hV;have vQ:∀r∈[m2,m3],wb r:=λr ι=>by
  simp only[List.mem_cons,List.not_mem_nil,or_false] at ι;rcases ι with rfl|rfl<;>exact⟨_,_,_,rfl⟩
 have c6:=hV.b7 25;simp only[aW,if_true] at c6;obtain⟨bj,y1⟩:∃bj,bj=t1.getD 25 undef:=⟨_,rfl⟩;rw[<-y1] at c6;cases c6 with
 | fn w1 lC Ξ aa aM b9=>
 have W2:w1=#[]:=Array.eq_empty_of_size_eq_zero (by rw[<-Ξ];rfl);subst W2;refine aB.rangeFunc U rfl rfl (fo:=.tmp 25) y1.symm ⟨_,Tryz.func126,rfl,rfl⟩ λr1 L J R=>?_;have GQ:¬bB.has r1:=hV.holds.Mj vQ J;have CK:=hV.holds.bq (y:=.deferred (some [])) GQ;have CL:Ext br bB H1 br bB (H1.bq r1 (.deferred (some []))):=Ext.Mi J;have y2:(H1.bq r1 (.deferred (some []))).obj r1=some (.deferred (some [])):=by simp[υ.bq]
 have W3:dC.fresh r1:=oB.ext.grow _ J
 have CM:dC.fresh L:=oB.ext.grow _ (CL.grow _ R);generalize dδ:H1.bq r1 (.deferred (some []))=Mn at R CK CL y2;have CN:r1≠L:=λe=>by rw[e,R.2.2.1] at y2;cases y2
 have Mo:¬bB.has L:=CK.Mj vQ R
 have Mp:∀(S:al) (B:aH) (H:υ) (σ:List Row),eD 2 br bB Mn [m2,m3] S B H σ->bQ br S bB B [m2,m3] σ:=λS B H σ κ=>κ.all CK (by simp)
 have Mq:∀(sG:Frame) (S:al) (B:aH) (H:υ) (σ:List Row) (env:Φ) (l:List Int) (fr:Int) (e:Bool) (kk:Nat),sG.fn=28->sG.kind=.normal->sG.mode=.returning->sG.defers=[⟨.collected r1,#[]⟩]->Ext eQ [] dC S B H->Holds S B σ H->¬B.has r1->H.obj r1=some (.deferred (some []))->
   cY S B σ env sG.tmps->aW env 6=.ae 0 1 0 0->aW env 7=.ae 1 1 0 0->σ[0]?=some (.cells 29 1 [.sl e kk (l.map δ)])->σ[1]?=some (.cells 38 1 [δ fr])->sF s F n lower=(l,fr)->(l≠[]->kk=1)->aB Tryz.prog Q mn x sG (c::rest) H:=
  λsG S B H σ env l fr e kk er fb jQ rT rU W4 W5 sy W6 W7 W8 W9 W' Xa Xb=>by
  refine aB.collected U jQ rT sy ?_;exact Mk U kB (b:={sG with defers:=[]}) er fb rfl jQ (rU.bq W3 ⟨_,sy⟩) (W4.bq W5) W6 W7 W8 W9 W' Xa Xb
 rw[oz (body:=Tryz.f126.body.getD .skip) Tryz.func126 rfl];have GR:e6 br bB [m2,m3] ([p6 L]++[.Ω [δ s.ak.length]]) (#[.func (.yield L) #[] #[]]++lC):=by
  refine e6.append ⟨rfl,λi a v er fb=>?_⟩ ⟨aa,b9⟩
  match i with
  | 0=>simp at er fb;subst er;subst fb;exact .fn #[] #[] rfl rfl (λi a v hi=>by simp at hi) (λi a v hi=>by simp at hi)
  | i+1=>simp at er
 refine WH (o:=⟨br,bB,Mn,[m2,m3],2⟩) (L:=L) (Fnd:=λrem=>(jB s.ak.length 0).find? (pQ s F n lower)=rem.find? (pQ s F n lower)) U (Nat.le_trans Mm (by decide)) ?_ rfl br bB _ _ (eD.of (Ext.Mi R) (bQ.refl ..)) (e5.enter (CK.bq Mo) GR (Nat.le_refl _) (by simp)) Mo (by simp[υ.bq];rfl);refine⟨rfl,by simp[eJ,ζ.cells],by simp[eJ,ζ.cells],rfl,λl rem CO Xc ar S B H ws dε κ ψ j1 aS hv Xd Xe=>?_,λCO S B H κ ψ j1 aS=>?_⟩
 ·obtain⟨GU,uZ⟩:=oM κ.ext GQ y2;have Xf:=Mp _ _ _ _ κ;have pM:=hV.b7.later Xf;have y3:Ext eQ [] dC S B H:=oB.ext.trans (CL.trans κ.ext);obtain⟨w0,rfl⟩:∃w0,ws=#[w0]:=by
   have J:=hv.1;clear hv;obtain⟨wl⟩:=ws
   match wl,J with
   | [w0],_=>exact⟨w0,rfl⟩
  have Xg:((#[26]:Array Tmp).zip #[w0]).foldl (λtmps (t,a)=>tmps.setIfInBounds t a) t1=t1.setIfInBounds 26 w0:=by simp
  change aB Tryz.prog Q mn x (Frame.round L 28 (((#[26]:Array Tmp).zip #[w0]).foldl (λtmps (t,a)=>tmps.setIfInBounds t a) t1) _ _ .normal) _ _;rw[Xg];have Co:ah S B [m2,m3,eZ l] (.ms 2 l.length 0 l.length) w0:=hv.2 0 _ _ rfl rfl;have Xh:l.length<2 ^ 30:=by omega
  have y0:cY S B [m2,m3,eZ l] ((26,.ms 2 l.length 0 l.length)::wh s F n lower) (t1.setIfInBounds 26 w0):=uu (cY.put pM (d:=26) (by rw[hV.size];omega) Co) (by simp);refine V.here (b:=Frame.round L 28 t1 .skip .skip .normal) (t:=t1.setIfInBounds 26 w0) (m:=3) (nt:=35) (S:=S) (B:=B) (H:=H) (σ:=[m2,m3,eZ l]) (env:=(26,.ms 2 l.length 0 l.length)::wh s F n lower) ?_ ⟨ψ,y0,Eq.trans (Array.size_setIfInBounds ..) hV.size,Nat.le_refl _⟩;refine V.a0 U rfl ?_;(repeat (first|apply μ|(refine ξ λθ I=>?_;simp;(repeat (rw[ε];simp));apply I)));refine W.stop ?_;intro jy jz ic t3 gI eY;obtain⟨y4,y5⟩:=oM gI.ext j1 aS;obtain⟨Xi,Xj⟩:=oM gI.ext GU uZ;refine aB.beginRound U rfl rfl y5 rfl ?_;refine V.here (b:=Frame.round L 28 t1 .skip .skip .normal) (m:=3) (nt:=35) ?_ ⟨eY.holds.bq y4,eY.b7,eY.size,eY.rows⟩;refine V.a0 U rfl ?_;(repeat apply μ);refine ξ λθ I=>?_;simp;(repeat (rw[ε];simp));have cG:az 0 (e8 s):=by simp
  have nx:az 0 (cD F):=by simp
  have g2:iJ (eZ l):=tQ (f:=λn:Nat=>δ n) λx=>by simp[ζ.cells]
  refine aC.one (as0:=[e8 s,cD F,δ n,bJ lower,.ms 0 l.length 0 l.length]) (Uz s ν F b8 n b3 lower l (Nat.le_trans Xc Mm) ar) 2 rfl g2 g2 (λa κ=>by
   simp only[List.mem_cons,List.not_mem_nil,or_false] at κ;rcases κ with rfl|rfl|rfl|rfl|rfl
   ·exact cG.hT 1
   ·exact nx.hT 1
   ·exact(az.z _).hT 1
   ·exact(az.z _).hT 1
   ·exact mM.2 (by omega)) ((az.z _).hT 1) (by simp[mN,mO,cG.dP [2],nx.dP [2]]) ?_
  simp[mO];(repeat (rw[ε];simp));apply I;have GV:bQ S jy B jz [m2,m3,eZ l] [m2,m3,eZ l]:=gI.all ψ (Nat.le_refl _);have y6:=λy=>(κ.ext.trans gI.ext).bq R (y:=y) ⟨_,y5⟩;have Xk:=λy=>(y3.trans gI.ext).bq CM (y:=y) ⟨_,y5⟩;cases Mr:pQ s F n lower l
  ·refine au rfl ?_
   repeat apply μ
   refine W.stop ?_;intro hB iM gU t5 jh j7;obtain⟨y7,y8⟩:=oM jh.ext y4 (show(ic.bq L _).obj L=some (.loop _) by simp[υ.bq];rfl);have CP:=jh.all (eY.holds.bq y4) (Nat.le_refl _);refine aB.endRound U rfl rfl rfl y8 (jump:=none) (.inl ⟨rfl,rfl⟩) (Xd (by rw[CO,List.find?_cons,Mr]) hB iM _ ⟨((y6 _).trans jh.ext).bq R ⟨_,y8⟩,?_⟩ (GV.trans CP) (j7.holds.bq y7) y7 (by simp[υ.bq]));exact κ.later.trans (GV.trans CP)
  ·refine ax rfl ?_;obtain⟨z,Ν⟩:∃z,z=l.map λn:Nat=>(n:Int):=⟨_,rfl⟩;have Xl:eZ l=.cells 3 1 (z.map δ):=by rw[Ν,List.map_map];rfl
   have tx:z.length=l.length:=by rw[Ν,List.length_map]
   have Ms:=Us z (by rw[tx];exact Xh);rw[tx,<-Xl] at Ms;have Mt:∀(e:Bool) (k:Nat),az 0 (.sl e k (z.map δ)):=λe k=>by simp
   (repeat apply μ);refine ξ λθ I=>?_;simp;(repeat (rw[ε];simp));refine aC.FF (as0:=[.ms 0 l.length 0 l.length]) Ms 2 rfl g2 (by simp[mM]) (by simp[mN]) (λa a7 af=>?_);obtain⟨⟨e,kk,rfl,pw⟩,rfl⟩:=af;refine⟨eZ l,rfl,g2,(Mt e kk).hT 1,?_⟩;rw[(Mt e kk).dP [2]];simp;(repeat (rw[ε];simp));apply I;refine W.stop ?_;intro hB iM gU t5 jh j7;obtain⟨y7,y8⟩:=oM jh.ext y4 (show(ic.bq L _).obj L=some (.loop _) by simp[υ.bq];rfl);obtain⟨Mu,Xm⟩:=oM jh.ext Xi (show(ic.bq L _).obj r1=some (.deferred (some [])) by simp[υ.bq,CN,Xj]);have CP:=jh.all (eY.holds.bq y4) (Nat.le_refl _);refine aB.endRound U rfl rfl rfl y8 (jump:=some .ret) (.inr (.inl ⟨rfl,_,rfl⟩)) (Xe _ λdζ dη Mv=>?_);obtain⟨er,fb⟩:=(j7.holds.bq (y:=.loop _) y7).qC (λb hb=>Mv.qC hb) Mv.grow;obtain⟨Xn,Mw⟩:=oM fb y7 (show(gU.bq L _).obj L=some (.loop _) by simp[υ.bq];rfl);obtain⟨_,Xo⟩:=oM fb Mu (show(gU.bq L _).obj r1=some (.deferred (some [])) by simp[υ.bq,CN,Xm]);refine aB.K7 (b:={GO vs with defers:=[⟨.collected r1,#[]⟩]}) (t:=t1) U rfl Mw (by simp) ?_;refine aB.ret (b:={GO vs with defers:=[⟨.collected r1,#[]⟩]}) U rfl rfl ?_;refine Mq _ hB iM _ _ (wh s F n lower) z 0 e kk rfl rfl rfl rfl ((((((Xk _).trans jh.ext).bq CM ⟨_,y8⟩)).trans fb).bq CM ⟨_,Mw⟩) (er.bq Xn) Mu (by simp[υ.bq,CN,Xo]) (uu ((pM.later (GV.trans CP))) (by simp)) rfl rfl rfl rfl ?_ pw;rw[Ε,CO,List.find?_cons,Mr,Ν]
 ·obtain⟨GU,uZ⟩:=oM κ.ext GQ y2;have pM:=hV.b7.later (Mp _ _ _ _ κ);have nm:Ext eQ [] dC S B H:=oB.ext.trans (CL.trans κ.ext);refine aB.K7 (b:={GO vs with defers:=[⟨.collected r1,#[]⟩]}) (t:=t1) U rfl aS (by simp) ?_;refine V.here (m:=0) (nt:=35) (S:=S) (B:=B) (σ:=[m2,m3]) (env:=wh s F n lower) ?_ ⟨ψ.bq j1,uu pM (by simp),hV.size,Nat.zero_le _⟩;refine V.a0 U rfl ?_;simp only[Option.map_none,Option.toList_none,List.nil_append];(repeat (first|apply μ|(refine ξ λθ I=>?_;simp;(repeat (rw[ε];simp));apply I)));refine W.stop ?_;intro hB iM gU t5 jh j7;have Xp:∀y,(H.bq L y).obj r1=some (.deferred (some [])):=λy=>by simp[υ.bq,CN,uZ]
  obtain⟨k1,cB⟩:=oM jh.ext GU (Xp _);refine aB.ret U rfl rfl ?_;refine Mq _ hB iM gU _ _ [] 11 true 0 rfl rfl rfl rfl ((nm.bq CM ⟨_,aS⟩).trans jh.ext) j7.holds k1 cB j7.b7 rfl rfl rfl rfl ?_ (λh=>absurd rfl h);rw[Ε,CO];rfl
end
end Go.TL
namespace Go.TL
open Go.Proofs
variable [bh]
def eV:a9:=⟨[⟨⟨#[98]⟩,9⟩,⟨⟨#[99]⟩,4⟩,⟨⟨#[100]⟩,6⟩,⟨⟨#[105]⟩,48⟩,⟨⟨#[111]⟩,12⟩],[[1,2],[0],[0,1,2]],[[⟨0,4,59⟩,⟨1,8,3⟩],[⟨0,0,63⟩,⟨1,4,8⟩]]⟩
theorem y9:an Tryz.prog 72 [] (e8 eV):=by
 refine aC.body Μ Tryz.func72 rfl rfl Tryz.ntmps72 rfl rfl (by simp) ?_
 repeat apply μ
 refine dy (A:=[0]) Μ λθ I=>?_;simp;(repeat (rw[ε];simp));apply I
 repeat apply μ
 (repeat apply μ);refine ξ λθ I=>?_;simp;(repeat (rw[ε];simp));apply I;refine W.fix (id:=0) (σ':=[]) (Nat.zero_le _) rfl (by simp) (by simp) rfl [(0,.Ω [.sl true 2 [eb ⟨⟨#[98]⟩,9⟩,eb ⟨⟨#[99]⟩,4⟩,eb ⟨⟨#[100]⟩,6⟩,eb ⟨⟨#[105]⟩,48⟩,eb ⟨⟨#[111]⟩,12⟩],.sl true 1 [iO [1,2],iO [0],iO [0,1,2]],.sl true 1 [.sl true 3 [eT ⟨0,4,59⟩,eT ⟨1,8,3⟩],.sl true 3 [eT ⟨0,0,63⟩,eT ⟨1,4,8⟩]]])] (by simp) ?_;refine W.ret ⟨_,rfl,?_,rfl⟩;refine .aR (.cons .ex (.cons ?_ (.cons ?_ .nil)))
 ·exact .map (l:=[[1,2],[0],[0,1,2]]) (f:=iO) λx _=>.one .ex rfl rfl
 ·exact .map (l:=[[⟨0,4,59⟩,⟨1,8,3⟩],[⟨0,0,63⟩,⟨1,4,8⟩]]) (f:=λl:List eS=>.sl true 3 (l.map eT)) λx _=>.one .ex rfl rfl
end Go.TL
namespace Go.TL
open Go.Conc Go.Proofs
open Go.ConcN (sumTo upd sumTo_upd upd_ne upd_same sumTo_congr le_sumTo)
variable [bh]
section
variable {P:Program} {Q:Value->Prop} {mn:Bool} {y:aK} {f f' b:Frame} {cs cs':List Frame} {H:υ} {t:Array Value} {k:List Item} {ops:Array Oper} {i:Nat} {rest:List Nat} {op:Oper}
theorem b4.quiet (U:eu y) (ν:∀w,stepG P mn (Go.Conc.G f cs) w=.go (Go.Conc.G f' cs') w #[]) (h:b4 P Q mn y f' cs' H):b4 P Q mn y f cs H:=
 Quiet.goes (.cons ⟨rfl,rfl⟩ ν (.nil _)) U ⟨rfl,rfl⟩ h
theorem b4.next (U:eu y) (hb:b.mode=.run) {id:Nat} {GW:Array Oper} {c:Code} (h:b4 P Q mn y (ai b t (.inRegion GW (List.range GW.size)::.code c::k)) cs H):b4 P Q mn y (ai b t (.inRegion ops []::.code (.seq (.region id GW false) c)::k)) cs H:=
 .quiet U (λw=>(h7 hb w).trans rfl) (.quiet U (λw=>(h7 hb w).trans rfl) (.quiet U (λw=>(h7 hb w).trans rfl) h))
theorem Xq {ty:TypeId} {inf:TypeInfo} {z:Value} (hi:P.info? ty=some inf) (Ν:inf.zero=some z) (w:World) :
  (Instr.alloc ty true (.tuple #[])).run P w=.ok (ptr w.heap.size 0) (w.alloc (.cells z.cells ty (0,0)))/\∀es,(Instr.alloc ty true (.tuple #[])).events P w es=es:=by
 constructor
 ·simp[Instr.alloc,zeroValue,typeInfo,newVar,newRow,hi,Ν,Result.andThen]
 ·intro es;simp[Instr.alloc,zeroValue,typeInfo,newVar,newRow,hi,Ν,Result.andThen,Result.evThen]
theorem b4.GX {ty:TypeId} {inf:TypeInfo} {z:Value} (dN:y.rel=false) (bG:lD b ops i op) (Θ:op.op=.alloc ty) (Ο:op.guard=none) (hi:P.info? ty=some inf) (Ν:inf.zero=some z)
  (h:∀r,H.fresh r->(∀Ρ v,y.ao Ρ=some v->Ρ<r)->b4 P Q mn {y with ao:=upd y.ao r (some (z.cells,ty))} (ai b (put op t (ptr r 0)) (.inRegion ops rest::k)) cs H):b4 P Q mn y (ai b t (.inRegion ops (i::rest)::k)) cs H:=by
 refine Goes.step (eu.ok (.inl dN)) (.inr ⟨⟨rfl,rfl⟩,.inl λw ab hv=>?_⟩);obtain⟨r1,r2⟩:=Xq (P:=P) hi Ν w;have hw:Region.wanted op (yielded ops t)=true:=by unfold Region.wanted;rw[Ο]
 have xz:stepG P mn (Go.Conc.G (ai b t (.inRegion ops (i::rest)::k)) cs) w=.go (Go.Conc.G (ai b (put op t (ptr w.heap.size 0)) (.inRegion ops rest::k)) cs) (w.alloc (.cells z.cells ty (0,0))) #[]:=by
  have e:execOp (a8 t) op=(do pure (.value (<-Instr.alloc ty true (.tuple #[])))):=by unfold execOp;rw[Θ]
  rw[fM bG.run bG.ro,fM bG.run bG.ro,<-sr];have ι:(execOp (⟨t,b.defers⟩:_root_.Go.Act).eval op).run P w=.ok (.value (ptr w.heap.size 0)) (w.alloc (.cells z.cells ty (0,0))):=by rw[kJ,e];simp[r1,Result.andThen]
  have he:(execOp (⟨t,b.defers⟩:_root_.Go.Act).eval op).events P w #[]=#[]:=by rw[kJ,e];simp[r1,r2,Result.evThen]
  rw[stepG_value bG.op hw bG.kd ι];unfold listed;rw[he,seen_none]
 rw[xz];have hu:=(dw.start ab).row z.cells ty;have y':υ.fresh H w.heap.size:=ab.fresh;have iW:Sub H (H.dh w.heap.size z.cells ty):=by
  refine⟨λΡ o v p hb=>⟨p,?_,id⟩,λΡ x hb=>?_,λΡ x hb=>hb⟩
  ·have:Ρ≠w.heap.size:=λe=>by rw[e,y'.1 o] at hb;cases hb
   simpa[υ.dh,this] using hb
  ·have:Ρ≠w.heap.size:=λe=>by rw[e,y'.2.1] at hb;cases hb
   simpa[υ.dh,this] using hb
 have ar:∀Ρ v,y.ao Ρ=some v->Ρ<w.heap.size:=λΡ v hb=>by
  have:=hv Ρ v.1 v.2 hb;exact(Array.getElem?_eq_some_iff.1 this).1
 refine⟨H,upd y.ao w.heap.size (some (z.cells,ty)),⟨rfl,rfl⟩,hu.keeps,iW.fits hu.fit,λΡ c' t' hb=>?_,⟨λΡ o v p hb=>.inr ⟨v,p,hb,id⟩,λΡ hb=>.inr hb⟩,λΡ c' hb=>?_,λe he=>by simp at he,λΡ c' _ _ e he=>by simp at he,h _ y' ar⟩
 ·by_cases e:Ρ=w.heap.size
  ·subst e;rw[upd_same] at hb;cases hb;exact Ai
  ·rw[upd_ne _ _ e] at hb;have J:=hv Ρ c' t' hb;have R:=ar Ρ _ hb;show(w.heap.push _)[Ρ]?=_;rw[Array.getElem?_push_lt R];rw[eM R] at J;exact J
 ·by_cases e:Ρ=w.heap.size
  ·exact .inr ⟨Nat.le_of_eq e.symm,⟨λo ⟨x,U⟩=>(by rw[e,y'.1 o] at U;cases U),λ⟨x,U⟩=>(by rw[e,y'.2.2.1] at U;cases U)⟩⟩
  ·rw[upd_ne _ _ e] at hb;exact .inl hb
theorem Xr {B:Type} {s:Nat}:upd (λ_=>(none:Option B)) s none=λ_=>none:=by
 funext i
 by_cases e:i=s
 ·subst e;exact upd_same ..
 ·exact upd_ne _ _ e
theorem b4.group {sp:Spec} {s m o:Nat} {ty GY za:TypeId} {c:Array Value} (dN:y.rel=false) (fa:y.ao=λ_=>none) (qu:m<s) (GZ:s<o) (eX:sp.aI=some m) (vl:H.fresh o) (eA:sp.bw [] (υ.empty.dh o c za))
  (h:b4 P Q mn {y with tok:=upd y.tok s (.par 0 0 .add),spec:=upd y.spec s (some sp),view:=upd y.view s none} f cs H) :
  b4 P Q mn {y with ao:=upd (upd (upd y.ao m (some (#[.int .i32 0,.int .u32 0],GY))) s (some (#[.int .u64 0,.int .u32 0],ty))) o (some (c,za))} f cs H:=by
 have gP:s≠o:=Nat.ne_of_lt GZ
 have fl:m≠o:=by omega
 have z9:m≠s:=Nat.ne_of_lt qu;refine Goes.step (eu.ok (.inl dN)) (.inr ⟨⟨rfl,rfl⟩,.inr (.inr (.inr (.inr (.inr (.inr (.inr (.inr (.inr (.inr (.inl ⟨o,c,za,upd_same ..,?_⟩))))))))))⟩);refine Goes.step (eu.ok (.inl dN)) (.inr ⟨⟨rfl,rfl⟩,.inr (.inr (.inr (.inr (.inr (.inr (.inr (.inr (.inr (.inr (.inr ⟨s,sp,ty,H,υ.empty.dh o c za,?_,λbO cU=>?_,dN,?_,λ_=>eA,?_⟩))))))))))⟩)
 ·show upd (upd _ o _) o none s=_;rw[upd_ne _ _ gP,upd_ne _ _ gP,upd_same]
 ·rw[eX] at cU;cases cU;refine⟨z9,GY,?_⟩;show upd (upd _ o _) o none m=_;rw[upd_ne _ _ fl,upd_ne _ _ fl,upd_ne _ _ z9,upd_same]
 ·refine⟨⟨λΡ q v p hb=>⟨p,?_,id⟩,λΡ x hb=>?_,λΡ x hb=>hb⟩,⟨λΡ q v p hb=>⟨p,?_,id⟩,λΡ x hb=>?_,λΡ x hb=>(by cases hb)⟩,⟨λΡ q ⟨v,hv⟩ ⟨x,U⟩=>?_,λΡ q ⟨v,hv⟩ ⟨x,U⟩=>?_,λΡ _ ⟨x,U⟩=>(by cases U)⟩⟩
  ·have:Ρ≠o:=λe=>by rw[e,vl.1 q] at hb;cases hb
   simpa[this] using hb
  ·have:Ρ≠o:=λe=>by rw[e,vl.2.1] at hb;cases hb
   simpa[this] using hb
  ·by_cases e:Ρ=o
   ·simpa[υ.dh,e] using hb
   ·simp[υ.dh,e,υ.empty] at hb
  ·by_cases e:Ρ=o
   ·simpa[υ.dh,e] using hb
   ·simp[υ.dh,e,υ.empty] at hb
  ·by_cases e:Ρ=o
   ·rw[e,vl.1 q] at hv;cases hv
   ·simp[υ.dh,e,υ.empty] at U
  ·by_cases e:Ρ=o
   ·rw[e,vl.1 q] at U;cases U
   ·simp[υ.dh,e,υ.empty] at hv
 ·have e:(λΡ=>if Ρ=s\/sp.aI=some Ρ then none else upd (upd (upd (upd y.ao m (some (#[.int .i32 0,.int .u32 0],GY))) s (some (#[.int .u64 0,.int .u32 0],ty))) o (some (c,za))) o none Ρ)=y.ao:=by
   funext Ρ
   rw[fa];by_cases Δ:Ρ=s\/sp.aI=some Ρ
   ·rw[if_pos Δ]
   ·rw[if_neg Δ];rw[eX] at Δ;have Ε:Ρ≠s:=λe=>Δ (.inl e);have a3:Ρ≠m:=λe=>Δ (.inr (by rw[e]));by_cases cg:Ρ=o
    ·rw[cg,upd_same]
    ·rw[upd_ne _ _ cg,upd_ne _ _ cg,upd_ne _ _ Ε,upd_ne _ _ a3]
  have c0:Goes P Q mn (Go.Conc.G f cs) {y with G:=H,ao:=y.ao,tok:=upd y.tok s (.par 0 0 .add),spec:=upd y.spec s (some sp),view:=upd y.view s none}:=h;rw[<-e] at c0;exact c0
theorem b4.D9 {s n p:Nat} {sp:Spec} {g:FuncId} {lC:Array Value} (dN:y.rel=false) (rL:y.deaf=0) (bF:y.spec s=some sp) (Η:y.tok s=.par n (p+1) .add) (bG:lD b ops i op) (Ο:op.guard=none) {fo:Operand} {dI:Array TypeId} (Θ:op.op=.go ⟨.value fo,#[],dI⟩) (pB:op.dst=none)
  (hv:a8 t fo=.func (.func g) #[] lC) {S:al} (ψ:Holds S [] [] H) (J:b4 P Q mn {y with tok:=upd y.tok s (.par n p .add),view:=upd y.view s none} (ai b t (.inRegion ops rest::k)) cs (p1 S H))
  (R:Goes P Q false (born P ⟨.fn (.func g) lC,#[]⟩) {bb (kM s sp) s (.ch (n-(p+1)) .idle .work) none 0 with G:=lL S}):b4 P Q mn y (ai b t (.inRegion ops (i::rest)::k)) cs H:=by
 have hw:Region.wanted op (yielded ops t)=true:=by unfold Region.wanted;rw[Ο]
 have xz:∀w,stepG P mn (Go.Conc.G (ai b t (.inRegion ops (i::rest)::k)) cs) w=.spawn (Go.Conc.G (ai b t (.inRegion ops rest::k)) cs) (born P ⟨.fn (.func g) lC,#[]⟩) w #[]:=λw=>by
  have e:execOp (a8 t) op=(do pure (.spawn (<-Deferred.ofValue (a8 t fo) (#[].map (a8 t))))):=by unfold execOp;rw[Θ];rfl
  rw[fM bG.run bG.ro,fM bG.run bG.ro];have ι:(execOp (⟨t,b.defers⟩:_root_.Go.Act).eval op).run P w=.ok (.spawn ⟨.fn (.func g) lC,#[]⟩) w:=by rw[kJ,e,hv];simp[Deferred.ofValue,Result.andThen]
  have he:(execOp (⟨t,b.defers⟩:_root_.Go.Act).eval op).events P w #[]=#[]:=by rw[kJ,e,hv];simp[Deferred.ofValue,Result.andThen,Result.evThen]
  rw[stepG_spawn (a:=⟨t,b.defers⟩) bG.op hw bG.kd ι rfl];have:(⟨t,b.defers⟩:_root_.Go.Act).put op.dst undef=⟨t,b.defers⟩:=by rw[pB];rfl
  rw[this];unfold listed;rw[he,seen_none]
 refine Goes.step (eu.ok (.inl dN)) (.inr ⟨⟨rfl,rfl⟩,.inr (.inr (.inr (.inr (.inr (.inr (.inr (.inr (.inl ⟨s,sp,n,p,Go.Conc.G (ai b t (.inRegion ops rest::k)) cs,born P ⟨.fn (.func g) lC,#[]⟩,p1 S H,lL S,bF,Η,rL,⟨rfl,rfl⟩,⟨rfl,rfl⟩,dN,λw _=>xz w,Wg ψ,J,?_⟩))))))))⟩);have e:({bb (kM s sp) s (.ch (n-(p+1)) .idle .work) none 0 with G:=lL S}:aK)=⟨lL S,λ_=>none,upd (λ_=>.nil) s (.ch (n-(p+1)) .idle .work),upd (λ_=>none) s (some sp),λ_=>none,0,false⟩:=by
  unfold bb;simp only[Xr]
 rw[<-e];exact R
end
end Go.TL
namespace Go.TL
open Go.Conc Go.Proofs
open Go.ConcN (sumTo upd sumTo_upd upd_ne upd_same sumTo_congr le_sumTo)
noncomputable def wi:Code:=Tryz.f116.body.getD .skip
noncomputable def Mx:Code:=du [1,1,1,1,0,1,0,0,1,1,0,0,1,1,0,0,1,1,0,0,1] wi
noncomputable abbrev CQ (vs:Array Value):Frame:=Frame.enter Tryz.prog 116 vs .normal
abbrev env0 (s m o:Nat) (dK:a9) (rest:Φ):Φ:=(5,.z (ptr o 0))::(4,.z (ptr s 0))::(3,.z (ptr m 0))::(1,.Ω [aJ dK.Τ,aL dK.ak,bx dK.cells])::rest
abbrev wj (s m o:Nat) (dK:a9) (a b:Int) (rest:Φ):Φ:=(7,.Ω [δ b])::(6,.Ω [δ a])::env0 s m o dK rest
structure CR (dK:a9) (fd:Nat->Option Found) (pr:Nat->Int×Int) (F:Nat->Found) (N:Nat->Nat):Prop where
 look:∀k,k<3->∀c:bh,@an c Tryz.prog 143 [e8 dK,b5 (pr k)] (cR (F k))
 many:∀k,k<3->∀c:bh,@an c Tryz.prog 78 [cR (F k),δ (-1)] (δ (N k))
 fd:∀k,fd k=if k<3/\0<N k then some (F k) else none
theorem CR.sh {dK:a9} {fd:Nat->Option Found} {pr:Nat->Int×Int} {F:Nat->Found} {N:Nat->Nat} (h:CR dK fd pr F N) (L:List Nat) (Ι:L.Nodup):(L.filterMap fd).length<=3:=by
 have J:L.filterMap fd=(L.filter (· < 3)).filterMap fd:=by
  rw[List.filterMap_filter];congr 1
  funext k
  by_cases e:k<3
  ·simp[e]
  ·simp[e,h.fd k]
 rw[J];refine Nat.le_trans (List.length_filterMap_le ..) ?_;have R:(L.filter (· < 3)).Nodup:=Ι.filter _;exact Iw 3 _ R λk Α=>by simpa using (List.mem_filter.1 Α).2
variable [bh]
theorem V.boxed {P:Program} {Q:Value->Prop} {mn:Bool} {z:fZ} {b:Frame} {cs:List Frame} {nt:Nat} {o:Base} {k:List Item} {env:Φ} {σ:List Row} {ops:Array Oper} {i:Nat} {rest:List Nat} {op:Oper}
  (U:Seq z) (hb:b.mode=.run) (bZ:b.roundOf=none) (ω:ops[i]?=some op) (Ο:op.guard=none) {ty:TypeId} {uw:Operand} (Θ:op.op=.box ty uw) {l:List ζ} (κ:aG env uw=.aR l) (dx:l.all (ζ.aU [])=true) (bd:0<l.length)
  (h:∀(S:al) (B:aH) (H:υ) (t:Array Value) (r:Nat) (c:Array Value),eD o.m o.S o.B o.H o.σ S B H σ->e5 o.m nt S B H σ env t->H.fresh r->(∃v,(S.lay r c) r 0=some v)->bQ S (S.lay r c) B B σ σ->Ext S B H (S.lay r c) B (H.dh r c ty)->Holds (S.lay r c) B σ (H.dh r c ty)->ah (S.lay r c) B σ (.Ω l) (ptr r 0)->
   aB P Q mn z (ai b (put op t (ptr r 0)) (.inRegion ops rest::k)) cs (H.dh r c ty)):V P Q mn z b cs nt o (.inRegion ops (i::rest)::k) env σ:=by
 intro S B H t Xs χ;refine .op U hb ω (by unfold Region.wanted;rw[Ο]) (.inl bZ) ?_;have e:execOp (a8 t) op=(do pure (.value (<-Instr.box ty (a8 t uw)))):=by unfold execOp;rw[Θ]
 have ι:=kv χ.b7 uw;rw[κ] at ι;rw[e];refine π.bind' ?_;unfold Instr.box;refine π.bind' ?_;unfold newVar newRow;have My:=vc (σ:=σ) dx;have b2:=(ι.cells (a:=.aR l) My).1;refine π.bind' ⟨rfl,λr eP=>π.pure' (π.pure' (π.pure' ?_))⟩;obtain⟨J,R,ς⟩:=χ.holds.lay (c:=(a8 t uw).cells) (t:=ty) eP;have ar:0<(a8 t uw).cells.size:=by rw[b2];exact bd
 exact h S B H t r _ Xs χ eP ⟨(a8 t uw).cells[0],by simp[al.lay,ar]⟩ ς R J (Jj ς (fg.one ι My))
section
variable {y:aK} {Q:Value->Prop} {mn:Bool} {β s m o n:Nat} {br:al} {H1:υ} {fd:Nat->Option Found} {pr:Nat->Int×Int} {F:Nat->Found} {N:Nat->Nat} {sp:Spec} {dK:a9} {v:Option (Nat×aD)} {vs:Array Value} {cs:List Frame} {k:List Item} {rest:Φ}
theorem G1 {a b:Int} (jH:pr n=(a,b)) (η:kL y s sp) (eX:sp.aI=some m) (eA:sp.bw=uo β br o fd) (dQ:∀k,sp.D k υ.empty) (fN:sp.top=3) (Ι:n<3) (k5:CR dK fd pr F N) (oB:∃q v,br β q=some v) (pL:∃q x,H1.av β q=some x) (ι:∀p∈rest,p.1∉[16,15,7,6,5,4,3,1]/\aW rest p.1=p.2)
  (Α:V Tryz.prog Q mn (one (bb y s (.par (n+1) 0 .add) none 0)) (CQ vs) cs 23 ⟨br,[],H1,[],0⟩ k ((6,.Ω [δ a])::env0 s m o dK rest) []) :
  V Tryz.prog Q mn (one (bb y s (.par n 0 .add) v 0)) (CQ vs) cs 23 ⟨br,[],H1,[],0⟩ (.code Mx::k) (wj s m o dK a b rest) []:=by
 letI:bh:=ev;obtain rfl:a=(pr n).1:=by rw[jH]
 obtain rfl:b=(pr n).2:=by rw[jH]
 have U:=η.seq;refine V.a0 (U _ _ _) rfl ?_;simp only[Mx,wi,Tryz.f116,Option.getD_some,du]
 repeat first|apply aO|apply aP|apply aQ|apply wd
 refine W.b0 (.stop ?_);refine V.call (U _ _ _) ⟨rfl,rfl,by simp[Frame.enter],rfl⟩ rfl rfl rfl ⟨_,Tryz.func140,rfl,rfl⟩ λS B H t nE κ χ hv=>?_;obtain rfl:=lE (l:=[ptr s 0,.int .i64 1]) hv;obtain rfl:B=[]:=dk.1 χ.holds.len;rintro kz rfl;refine VK η (by omega) χ.holds λv2 cV bH pE h6=>?_;rw[ho rfl];have tT:bQ S cV [] [] [] []:=⟨pE.cX,λid r h=>by simp at h⟩;refine V.here (x:=one _) (m:=0) (nt:=23) (S:=cV) (B:=[]) (σ:=[]) (env:=(15,.z (.tuple #[]))::wj s m o dK (pr n).1 (pr n).2 rest) ?_ ⟨h6,cY.later (cY.put χ.b7 (d:=15) (by rw[χ.size];omega) (.z (.tuple #[]))) tT,Eq.trans (Array.size_setIfInBounds ..) χ.size,Nat.zero_le _⟩ _ rfl;refine V.a0 (U _ _ _) rfl ?_;refine W.bm ?_;refine W.b0 ?_;refine W.part (A:=[]) Μ [0] [1] rfl λθ I=>?_;(try simp);(repeat (rw[ε];simp));apply I;refine W.stop ?_;intro jy jz ic t3 gI eY;obtain rfl:jz=[]:=dk.1 eY.holds.len;rintro kz rfl;have c6:=eY.b7 16;simp only[aW,if_true] at c6;obtain⟨bj,y1⟩:∃bj,bj=t3.getD 16 undef:=⟨_,rfl⟩;rw[<-y1] at c6;have G2:eD 0 br [] H1 [] jy [] ic []:=κ.trans ((eD.of pE tT).trans gI);cases c6 with
 | fn w1 w2 Ξ aa aM b9=>
  have Δ:w1=#[]:=Array.eq_empty_of_size_eq_zero (by rw[<-Ξ];rfl);subst Δ;obtain⟨l2⟩:=w2
  match l2,aa with
  | [wm,n9,u5,pk,Xt,Xu],_=>
   have sC:wm=ptr s 0:=by have:=b9 0 _ _ rfl rfl;cases this;rfl
   have Xv:Xt=ptr m 0:=by have:=b9 4 _ _ rfl rfl;cases this;rfl
   have Xw:Xu=ptr o 0:=by have:=b9 5 _ _ rfl rfl;cases this;rfl
   subst sC;subst Xv;subst Xw;have GL:e6 jy [] [] (GG s m o dK (pr n).1 (pr n).2) (CE s m o n9 u5 pk):=⟨rfl,λi a v J R=>b9 i a v J R⟩;refine b4.D9 (s:=s) (n:=n+1) (p:=0) (sp:=sp) η.rel rfl η.spec bP ⟨rfl,rfl,by simp[Frame.enter],rfl⟩ rfl rfl rfl y1.symm (S:=jy) eY.holds ?_ ?_
   ·rw[gf];have ν:=Wj eY.holds;have Xx:∀g:ζ,∀p∈(6,.Ω [δ (pr n).1])::env0 s m o dK rest,aW ((16,g)::(15,.z (.tuple #[]))::wj s m o dK (pr n).1 (pr n).2 rest) p.1=p.2:=λg p χ=>by
     simp only[env0,List.mem_cons] at χ;rcases χ with rfl|rfl|rfl|rfl|rfl|χ<;>first|rfl|skip
     obtain⟨J,R⟩:=ι p χ;simp only[List.mem_cons,List.not_mem_nil,or_false,not_or] at J;obtain⟨c1,c2,c3,c4,l5,qK,py,Xy⟩:=J;simp only[aW,Ne.symm c1,Ne.symm c2,Ne.symm c3,Ne.symm c4,Ne.symm l5,Ne.symm qK,Ne.symm py,Ne.symm Xy,if_false];exact R
    refine V.a0 (U (.par (n+1) 0 .add) none 0) rfl (W.bm (W.forget ((6,.Ω [δ (pr n).1])::env0 s m o dK rest) (Xx _) (.stop Α))) jy [] _ t3 (G2.trans (eD.of ν (bQ.refl ..))) ⟨Wh eY.holds,eY.b7,eY.size,Nat.zero_le _⟩ _ rfl
   ·refine Wx eX (by omega) eA (dQ _) (k5.look n Ι) (k5.many n Ι) ?_ (λL aS=>?_) ?_ (λb q u hu=>?_) GL
    ·show fd n=_;rw[k5.fd n];simp[Ι]
    ·rw[List.length_map];have:=k5.sh L aS;omega
    ·obtain⟨q,u,hu⟩:=oB;exact⟨q,u,G2.ext.cX _ _ _ hu⟩
    ·obtain⟨gQ,wm,uv⟩:=pL;rcases G2.ext.pj b q u hu with h|⟨N,h⟩|h
     ·exact .inl (by rw[h];simp)
     ·simp at h
     ·exact .inr (GC uv h)
end
structure Calm (y:aK):Prop where
 rel:y.rel=false
 ao:y.ao=λ_=>none
 deaf:y.deaf=0
 shut:∀s,fi (y.tok s)
def calm:fZ:=Calm
@[reducible] def nN:bh:=⟨λx=>x=calm⟩
variable [bh]
def re (x y:Found):Int:=ov (x.u,x.v) (y.u,y.v)
def m4 (x y:Found):Prop:=x.u<y.u\/(x.u=y.u/\x.v<y.v)
theorem Xz (x y:Found):dt re x y=true↔m4 x y:=by
 have h:=q3 (x.u,x.v) (y.u,y.v)
 have e:dt re x y=dt ov (x.u,x.v) (y.u,y.v):=rfl;rw[e,h];simp[m4]
theorem XA:Go.Sort.SWO (dt re) where
 irrefl x:=B0.irrefl (x.u,x.v)
 trans x y z:=B0.trans (x.u,x.v) (y.u,y.v) (z.u,z.v)
 ntrans x y z:=B0.ntrans (x.u,x.v) (y.u,y.v) (z.u,z.v)
instance:Inhabited Found:=⟨⟨0,0,[]⟩⟩
theorem XB {m:List Found} (h:m.Pairwise m4):∀a∈m,∀b∈m,¬m4 a b->¬m4 b a->a=b:=by
 induction h with
 | nil=>intro a κ;cases κ
 | cons J R Γ=>
  intro a κ b hb ς Κ;rcases List.mem_cons.1 κ with jX|eo<;>rcases List.mem_cons.1 hb with hM|dp
  ·rw[jX,hM]
  ·exact absurd (jX▸J b dp) ς
  ·exact absurd (hM▸J a eo) Κ
  ·exact Γ a eo b dp ς Κ
theorem XC {l m:List Found} (χ:l.Perm m) (hm:m.Pairwise m4):(Go.Sort.insertionSort (dt re) l.toArray 0 l.length).toList=m:=by
 obtain⟨⟨b2,_,G3⟩,R⟩:=Go.Sort.insertionSort_holds (lt:=dt re) XA l.toArray 0 l.length (Nat.zero_le _) (by simp);generalize Go.Sort.insertionSort (dt re) l.toArray 0 l.length=d at b2 G3 R;have Ex:d.size=l.length:=by simpa using b2
 have Δ:d.extract 0 l.length=d:=by rw[<-Ex];exact Array.extract_size
 have Ε:l.toArray.extract 0 l.length=l.toArray:=by
  simp
 rw[Δ,Ε] at G3;have Mz:d.toList.Perm m:=G3.trans χ;have XD:∀x y,dt re x y=false↔¬m4 x y:=λx y=>by rw[<-Xz];simp
 refine List.Perm.eq_of_pairwise (le:=λx y=>¬m4 y x) (λa b κ hb ς Κ=>?_) ?_ (hm.imp λ{a b} h k=>?_) Mz
 ·exact XB hm a (Mz.mem_iff.1 κ) b hb Κ ς
 ·rw[List.pairwise_iff_getElem];intro i j hi γ gx;have:=R i j (Nat.zero_le _) gx (by simpa[Ex] using γ);rw[XD] at this;rw[getElem!_pos d j (by simpa using γ),getElem!_pos d i (by simpa using hi)] at this;simpa using this
 ·simp only[m4] at h k;omega
theorem XE {D:Nat->υ->Prop} (dQ:∀k E,D k E->E=υ.empty):∀(L:List Nat) (E:υ),ko D L E->E=υ.empty:=by
 intro L
 induction L with
 | nil=>intro E h;exact h
 | cons k HP Γ=>
  rintro E ⟨nY,nZ,J,R,_,rfl⟩;rw[dQ k nY J,Γ nZ R];exact DV _
abbrev CS:ζ:=.fn (.func 148) [] []
theorem XF [bh] (x y:Found):ja Tryz.prog CS [cR x,cR y] (δ (re x y)):=λσ=>(S0 x y).c (aE.refl _) (by simp) (by simp) ⟨rfl,rfl⟩
section
variable {y:aK} {Q:Value->Prop} {mn:Bool} {β s m o:Nat} {eQ br:al} {dC H1:υ} {fd:Nat->Option Found} {sp:Spec} {dK:a9} {v:Option (Nat×aD)} {vs:Array Value} {c:Frame} {cs:List Frame}
theorem XG (η:kL y s sp) (eX:sp.aI=some m) (eA:sp.bw=uo β br o fd) (dQ:∀k E,sp.D k E->E=υ.empty) (G4:∀L:List Nat,L.Nodup->(L.filterMap fd).length<=3) {j8:List Found} (G5:(List.range 3).filterMap fd=j8) (sH:j8.Pairwise m4)
  (G6:∀v,Calm (bb y s (.par 3 0 .bf) v 0)) (kB:tB Tryz.prog Q mn calm c cs eQ [] dC [] (λa s=>dr a (cD j8)/\s=[]) (λ_ _=>False)) (y3:Ext eQ [] dC br [] H1) (G7:dC.fresh β) :
  V Tryz.prog Q mn (one (bb y s (.par 3 0 .add) v 0)) (CQ vs) (c::cs) 23 ⟨br,[],H1,[],0⟩ [.code (du [1,1,1,1,1] wi)] (env0 s m o dK []) []:=by
 letI:bh:=ev;have U:=η.seq;refine V.a0 (U _ _ _) rfl ?_;simp only[wi,Tryz.f116,Option.getD_some,du]
 repeat first|apply aO|apply aP|apply aQ|apply wd
 refine W.b0 (.stop ?_);refine V.call (U _ _ _) ⟨rfl,rfl,by simp[Frame.enter],rfl⟩ rfl rfl rfl ⟨_,Tryz.func146,rfl,rfl⟩ λS B H t nE κ χ hv=>?_;obtain rfl:=lE (l:=[ptr s 0]) hv;obtain rfl:B=[]:=dk.1 χ.holds.len;rintro kz rfl;refine VR η χ.holds (n:=3) λaj H' fv e3 fQ ed he ψ IE XH XI b8 a1 bg cr hw v2 cV bH pE=>?_;rw[ho rfl];obtain rfl:=XE dQ fv fQ XH;rw[DV] at pE;obtain⟨kr,MA⟩:=XI (by rw[eX];simp);rw[eA] at MA;obtain⟨hi,gL,p5,uq,gY⟩:=MA;obtain⟨w,f1,f2,f3⟩:=hw;obtain⟨G,cS⟩:∃G,G=e3.filterMap fd:=⟨_,rfl⟩;have G8:G.Perm j8:=by rw[cS,<-G5];exact kr.filterMap _
 have dθ:G.length<=3:=by rw[cS];exact G4 e3 (kr.nodup_iff.2 List.nodup_range)
 rw[<-cS] at uq;obtain⟨GI,l1,l2⟩:=L5 ψ uq bg ⟨w,f1,f3⟩ (CD _);have uy:=Wm (y3.trans (κ.ext.trans he)) (κ.ext.trans he).cX G7 hi ψ uq (CD _);obtain⟨er,fb⟩:=GI.qC (λb hb=>pE.qC hb) pE.grow;have XJ:=uy.trans fb;have aF:t.getD 5 undef=ptr o 0:=by
  have:=χ.b7 5;simp only[aW] at this;generalize t.getD 5 undef=u at this;cases this;rfl
 have pM:cY (aj.plus gL) p5 (fO (G.map cR)) [(5,.ae 0 1 0 0)] (t.setIfInBounds 19 (.tuple #[])):=λi=>by
  simp only[aW];split
  ·rename_i e;subst e;have eF:(t.setIfInBounds 19 (.tuple #[])).getD 5 undef=ptr o 0:=by
    rw[<-aF,Array.getD_eq_getD_getElem?,Array.getD_eq_getD_getElem?,Array.getElem?_setIfInBounds_ne (by decide)]
   rw[eF];have:=ah.ae (S:=aj.plus gL) (B:=p5) (σ:=fO (G.map cR)) (id:=0) (n:=1) (i:=0) (j:=0) (k:=1) (t:=99) (l:=[rb (G.map cR)]) (b:=o) (N:=1) (by simp[fO]) rfl gY;simpa using this
  ·exact .ca _
 refine V.here (x:=one _) (m:=0) (nt:=23) (S:=aj.plus gL) (B:=p5) (σ:=fO (G.map cR)) (env:=[(5,.ae 0 1 0 0)]) ?_ ⟨er,pM,Eq.trans (Array.size_setIfInBounds ..) χ.size,Nat.zero_le _⟩ _ rfl;have fin:∀(e:Bool) (k:Nat),dr (.sl e k (j8.map cR)) (cD j8)->V Tryz.prog Q mn (one (bb y s (.par 3 0 .bf) v2 0)) (CQ vs) (c::cs) 23 ⟨aj.plus gL,p5,bH,fO (G.map cR),0⟩ [.code .ret] [(2,.sl e k (j8.map cR))] []:=λe k G9=>by
  intro hB iM gU t5 jh j7;obtain rfl:iM=[]:=dk.1 j7.holds.len;refine aB.ret (U _ _ _) rfl rfl (aB.back (U _ _ _) rfl rfl (.inl rfl) Tryz.func116 ?_);refine π.mono (λu Gm ⟨Gl,XK,km,zE,aV,Dm⟩=>?_) (λ_ _ h=>h) _ (Bp Μ (a:=.sl e k (j8.map cR)) rfl j7.holds j7.b7);obtain rfl:XK=[]:=dk.1 aV.len;rintro kz rfl;have Cr:=XJ.trans (jh.ext.trans km);exact kB.ret _ [] Gl [] Gm u ⟨G9,rfl⟩ Cr ⟨Cr.cX,λid r h=>by simp at h⟩ aV Dm _ (G6 _)
 refine V.a0 (U _ _ _) rfl ?_;refine W.bm ?_;have nq:∀e∈G.map cR,∀a∈e.cells,az 0 a:=λe he a κ=>by
  obtain⟨z,_,rfl⟩:=List.mem_map.1 he;exact vE z a κ
 by_cases Ν:G=[]
 ·subst Ν;have XL:j8=[]:=G8.symm.eq_nil;subst XL;(repeat (first|apply aO|apply aP|apply aQ|apply wd));refine ξ λθ I=>?_;simp;(repeat (rw[ε];simp[fO,GF,iN]));refine an.c (TU CS (by simp)) (aE.refl _) (by simp) (by simp) ?_;simp;(repeat (rw[ε];simp));apply I;(repeat (first|apply aO|apply aP|apply aQ|apply wd));refine ξ λθ I=>?_;simp;(repeat (rw[ε];simp));apply I;refine W.cut 0 (Nat.zero_le _) [(2,.sl true 0 [])] (Nat.zero_le _) (λid r h=>by omega) (by simp;exact .low (by simp)) ?_;exact .stop (fin _ _ .nil)
 ·have n2:G.map cR≠[]:=by simpa using Ν
  have ν:=XC G8 sH;(repeat (first|apply aO|apply aP|apply aQ|apply wd));refine ξ λθ I=>?_;simp;(repeat (rw[ε];simp[fO,CC n2,ei n2]));have MB:=S9 G.toArray G.length (by simp) (by omega) CS re (by simp) XF;rw[ν] at MB;have hlen:j8.length=G.length:=G8.length_eq.symm;have c6:az 0 CS:=by simp
  have MC:∀e∈j8.map cR,∀a∈e.cells,az 0 a:=λe he a κ=>by
   obtain⟨z,_,rfl⟩:=List.mem_map.1 he;exact vE z a κ
  refine aC.one MB 1 rfl nq MC (by simp[mM,tP,c6.hT 1]) (by simp[fH]) (by simp[mN,mO,c6.dP [1]]) ?_;simp[dP,hy];(repeat (rw[ε];simp));apply I;(repeat (first|apply aO|apply aP|apply aQ|apply wd));refine ξ λθ I=>?_;simp;(repeat (rw[ε];simp));apply I;refine W.cut 0 (Nat.zero_le _) [(2,.sl false 3 (j8.map cR))] (Nat.zero_le _) (λid r h=>by omega) (λp χ=>?_) ?_
  ·obtain rfl:p=(2,.sl false 3 (j8.map cR)):=by simpa using χ
   refine et.own (id:=1) (t:=110) (Nat.zero_le _) rfl (by simp[hlen]) MC
  ·exact .stop (fin _ _ (.refl _))
end
end Go.TL
namespace Go.TL
open Go.Conc Go.Proofs
open Go.ConcN (sumTo upd sumTo_upd upd_ne upd_same sumTo_congr le_sumTo)
theorem Ha {P:Program} {ty:TypeId} {z:Value} (h:((P.info? ty).bind (·.zero))=some z):∃inf,P.info? ty=some inf/\inf.zero=some z:=by
 cases hi:P.info? ty with
 | none=>rw[hi] at h;cases h
 | some inf=>rw[hi] at h;exact⟨inf,rfl,h⟩
theorem XM:((Tryz.prog.info? 173).bind (·.zero))=some (.agg #[.int .i32 0,.int .u32 0]):=by kernel_rfl
theorem XN:((Tryz.prog.info? 179).bind (·.zero))=some (.agg #[.int .u64 0,.int .u32 0]):=by kernel_rfl
theorem XO:((Tryz.prog.info? 99).bind (·.zero))=some (.slice none 0 0):=by kernel_rfl
theorem XP {o:Nat}:Holds eL [some (o,1)] (fO []) (υ.empty.dh o #[.slice none 0 0] 99):=by
 have af:Holds eL [] [] υ.empty:=v5 _
 have Β:fg eL [] [] #[.slice none 0 0] 1 [.sl true 0 []]:=fg.one (a:=.sl true 0 []) (v:=.slice none 0 0) (.hN none 0 λ_=>rfl) rfl;exact(xJ (P:=Tryz.prog) (K:=λr G=>Holds eL [some (r,1)] (fO []) G) (E:=λ_ _=>False) af Β 99 λr _ J _ _=>J).2 o ⟨λ_=>rfl,rfl,rfl,λ_ _=>⟨λ_=>rfl,rfl,rfl⟩⟩
section
variable {fd:Nat->Option Found} {pr:Nat->Int×Int} {F:Nat->Found} {N:Nat->Nat} {dK:a9} {j8:List Found}
theorem XQ (k5:CR dK fd pr F N) (e2:pr 0=(1,0)) (dU:pr 1=(2,0)) (p2:pr 2=(2,1)) (G5:(List.range 3).filterMap fd=j8) (sH:j8.Pairwise m4):@an nN Tryz.prog 116 [e8 dK] (cD j8):=by
 refine⟨⟨_,Tryz.func116,rfl,rfl⟩,λQ mn x c rest eQ d' dC vs sC qx GP kB=>?_⟩;obtain rfl:x=calm:=@Seq.cls nN x sC;obtain rfl:d'=[]:=dk.1 qx.len;rintro y ⟨dN,fa,rL,cG⟩;letI:bh:=ev;have U:Seq (one y):=Seq.ss trivial dN fa;rw[oz (body:=wi) Tryz.func116 rfl];refine V.here (x:=one y) (m:=0) (nt:=23) (S:=eQ) (B:=[]) (H:=dC) (σ:=[]) (env:=entry 0 [e8 dK]) ?_ (e5.enter qx GP (Nat.le_refl _) (by simp)) y rfl;refine V.a0 U rfl ?_;simp only[wi,Tryz.f116,Option.getD_some]
 repeat first|apply aO|apply aP|apply aQ|apply wd
 refine W.b0 (.stop ?_);refine V.boxed U rfl rfl rfl rfl rfl (l:=[aJ dK.Τ,aL dK.ak,bx dK.cells]) rfl rfl (by simp) λS B H t β c1 κ χ nk XR Β he XS GR=>?_;obtain rfl:B=[]:=dk.1 χ.holds.len;refine V.here (x:=one y) (m:=0) (nt:=23) (S:=S.lay β c1) (B:=[]) (σ:=[]) (env:=[(1,.Ω [aJ dK.Τ,aL dK.ak,bx dK.cells])]) ?_
  ⟨XS,uu (cY.put (χ.b7.later Β) (d:=1) (by rw[χ.size];omega) GR) (by simp),Eq.trans (Array.size_setIfInBounds ..) χ.size,Nat.zero_le _⟩
 refine V.a0 U rfl ?_;refine W.part (A:=[]) Μ [1] [] rfl λθ I=>?_;(try simp);(repeat (rw[ε];simp));apply I;refine W.bm ?_
 repeat first|apply aO|apply aP|apply aQ|apply wd
 refine W.b0 (.stop ?_);intro cV fe bH t2 pL jA;obtain rfl:fe=[]:=dk.1 jA.holds.len;rintro kz rfl;obtain⟨i1,Ξ,aa⟩:=Ha XM;obtain⟨i2,aM,b9⟩:=Ha XN;obtain⟨i3,fV,hs⟩:=Ha XO;refine b4.GX dN ⟨rfl,rfl,by simp[Frame.enter],rfl⟩ rfl rfl Ξ aa λm lA _=>?_;refine b4.next ?_ ?_ ?_
 ·exact .inl dN
 ·rfl
 refine b4.GX ?_ ⟨rfl,rfl,by simp[Frame.enter],rfl⟩ rfl rfl aM b9 λs pZ dG=>?_
 ·exact dN
 refine b4.next ?_ ?_ ?_
 ·exact .inl dN
 ·rfl
 refine b4.GX ?_ ⟨rfl,rfl,by simp[Frame.enter],rfl⟩ rfl rfl fV hs λo wq uW=>?_
 ·exact dN
 have qu:m<s:=dG m _ (upd_same ..)
 have GZ:s<o:=uW s _ (upd_same ..);obtain⟨sp,bF⟩:∃sp:Spec,sp=⟨some m,uo β cV o fd,λ_ E=>E=υ.empty,3⟩:=⟨_,rfl⟩;have CU:∃q v,cV β q=some v:=let ⟨u,hu⟩:=XR;⟨0,u,pL.ext.cX _ _ _ hu⟩;have mB:∃q x,bH.av β q=some x:=let ⟨q,u,hu⟩:=CU;let ⟨p,χ⟩:=jA.holds.cX _ _ _ hu;⟨q,_,χ⟩;have MD:β<o:=let ⟨_,_,h⟩:=mB;GC h wq;have eX:sp.aI=some m:=by rw[bF]
 have eA:sp.bw=uo β cV o fd:=by rw[bF]
 have dQ:∀k E,sp.D k E↔E=υ.empty:=λk E=>by rw[bF]
 have fN:sp.top=3:=by rw[bF]
 clear bF;have XT:sp.bw [] (υ.empty.dh o #[.slice none 0 0] 99):=by
  rw[eA];refine⟨⟨λb q x hb=>?_,λb x hb=>?_,λb x hb=>(by cases hb)⟩,eL,_,XP,rfl⟩
  ·by_cases e:b=o
   ·exact .inr (e▸MD)
   ·simp[υ.dh,e,υ.empty] at hb
  ·by_cases e:b=o
   ·exact e▸MD
   ·simp[υ.dh,e,υ.empty] at hb
 refine b4.group (y:=kz) (sp:=sp) dN fa qu GZ eX wq XT ?_;obtain⟨n',wu⟩:∃n':aK,n'={kz with spec:=upd kz.spec s (some sp)}:=⟨_,rfl⟩;have XU:({kz with tok:=upd kz.tok s (.par 0 0 .add),spec:=upd kz.spec s (some sp),view:=upd kz.view s none}:aK)=bb n' s (.par 0 0 .add) none 0:=by
  rw[wu];unfold bb;simp only[rL]
 rw[XU];have zb:kL n' s sp:=by
  rw[wu];refine⟨dN,fa,upd_same ..,by rw[fN];decide,λa7 _=>?_⟩;have:=cG a7;show lU (kz.tok a7);cases ME:kz.tok a7 with
  | nil=>trivial
  | par n p ay=>rw[ME] at this;cases ay<;>first|trivial|exact this.elim
  | ch k mu g=>rw[ME] at this;exact this.elim
 have G6:∀v,Calm (bb n' s (.par 3 0 .bf) v 0):=λv=>by
  rw[wu];refine⟨dN,fa,rfl,λa7=>?_⟩;by_cases e:a7=s
  ·subst e;rw[bP];trivial
  ·rw[yH e];exact cG a7
 have qZ:=zb.seq
 have G4:=k5.sh
 have y3:Ext eQ [] dC cV [] bH:=κ.ext.trans (he.trans pL.ext)
 have G7:dC.fresh β:=κ.ext.grow _ nk;refine V.here (x:=one _) (m:=0) (nt:=23) (S:=cV) (B:=[]) (σ:=[]) (env:=env0 s m o dK []) ?_
  ⟨jA.holds,uu (cY.put (cY.put (cY.put jA.b7 (d:=3) (by rw[jA.size];omega) (.z (ptr m 0))) (d:=4) (by rw[Array.size_setIfInBounds,jA.size];omega) (.z (ptr s 0))) (d:=5) (by rw[Array.size_setIfInBounds,Array.size_setIfInBounds,jA.size];omega) (.z (ptr o 0))) (by simp),
   Eq.trans (Array.size_setIfInBounds ..) (Eq.trans (Array.size_setIfInBounds ..) (Eq.trans (Array.size_setIfInBounds ..) jA.size)),Nat.zero_le _⟩ _ rfl
 have w1:IntKind.i64.wrap 1=1:=by decide
 have w2:IntKind.i64.wrap 2=2:=by decide
 have w3:IntKind.i64.wrap 3=3:=by decide
 refine V.a0 (qZ _ _ _) rfl ?_;refine W.bm ?_;(repeat (first|apply aO|apply aP|apply aQ|apply wd|refine ax rfl ?_|refine au rfl ?_|(refine ξ λθ I=>?_;simp;(repeat (rw[ε];simp));apply I)));refine .loop ?_;(repeat (first|apply aO|apply aP|apply aQ|apply wd|refine ax rfl ?_|refine au rfl ?_|(refine ξ λθ I=>?_;simp;(repeat (rw[ε];simp));apply I)));refine dy (A:=[6]) Μ λθ I=>?_;simp;(repeat (rw[ε];simp));apply I;refine W.fix (id:=0) (σ':=[]) (Nat.zero_le _) rfl (by simp) (by simp) rfl ((6,.Ω [δ 0])::env0 s m o dK [(8,δ 0)]) (by simp) ?_;(repeat (first|apply aO|apply aP|apply aQ|apply wd|refine ax rfl ?_|refine au rfl ?_|(refine ξ λθ I=>?_;simp;(repeat (rw[ε];simp));apply I)));refine .loop ?_;(repeat (first|apply aO|apply aP|apply aQ|apply wd|refine ax rfl ?_|refine au rfl ?_|(refine ξ λθ I=>?_;simp;(repeat (rw[ε];simp));apply I)));refine W.exit rfl ?_;(repeat (first|apply aO|apply aP|apply aQ|apply wd|refine ax rfl ?_|refine au rfl ?_|(refine ξ λθ I=>?_;simp;(repeat (rw[ε];simp[w1,w2,w3]));apply I)));refine .inLoop ?_;(repeat (first|apply aO|apply aP|apply aQ|apply wd|refine ax rfl ?_|refine au rfl ?_|(refine ξ λθ I=>?_;simp;(repeat (rw[ε];simp));apply I)));refine dy (A:=[6]) Μ λθ I=>?_;simp;(repeat (rw[ε];simp));apply I;refine W.fix (id:=0) (σ':=[]) (Nat.zero_le _) rfl (by simp) (by simp) rfl ((6,.Ω [δ 1])::env0 s m o dK [(8,δ 1)]) (by simp) ?_;(repeat (first|apply aO|apply aP|apply aQ|apply wd|refine ax rfl ?_|refine au rfl ?_|(refine ξ λθ I=>?_;simp;(repeat (rw[ε];simp));apply I)));refine .loop ?_;(repeat (first|apply aO|apply aP|apply aQ|apply wd|refine ax rfl ?_|refine au rfl ?_|(refine ξ λθ I=>?_;simp;(repeat (rw[ε];simp));apply I)));refine dy (A:=[7]) Μ λθ I=>?_;simp;(repeat (rw[ε];simp));apply I;refine W.fix (id:=0) (σ':=[]) (Nat.zero_le _) rfl (by simp) (by simp) rfl (wj s m o dK 1 0 [(8,δ 1),(11,δ 1),(12,δ 0)]) (by simp) ?_;refine W.stop (G1 e2 zb eX eA (λk=>(dQ k _).2 rfl) fN (by decide) k5 CU mB (by simp) ?_);refine V.a0 (qZ _ _ _) rfl ?_;(repeat (first|apply aO|apply aP|apply aQ|apply wd|refine ax rfl ?_|refine au rfl ?_|(refine ξ λθ I=>?_;simp;(repeat (rw[ε];simp[w1,w2,w3]));apply I)));refine .inLoop ?_;(repeat (first|apply aO|apply aP|apply aQ|apply wd|refine ax rfl ?_|refine au rfl ?_|(refine ξ λθ I=>?_;simp;(repeat (rw[ε];simp));apply I)));refine W.exit rfl ?_;(repeat (first|apply aO|apply aP|apply aQ|apply wd|refine ax rfl ?_|refine au rfl ?_|(refine ξ λθ I=>?_;simp;(repeat (rw[ε];simp[w1,w2,w3]));apply I)));refine .inLoop ?_;(repeat (first|apply aO|apply aP|apply aQ|apply wd|refine ax rfl ?_|refine au rfl ?_|(refine ξ λθ I=>?_;simp;(repeat (rw[ε];simp));apply I)));refine dy (A:=[6]) Μ λθ I=>?_;simp;(repeat (rw[ε];simp));apply I;refine W.fix (id:=0) (σ':=[]) (Nat.zero_le _) rfl (by simp) (by simp) rfl ((6,.Ω [δ 2])::env0 s m o dK [(8,δ 2)]) (by simp) ?_;(repeat (first|apply aO|apply aP|apply aQ|apply wd|refine ax rfl ?_|refine au rfl ?_|(refine ξ λθ I=>?_;simp;(repeat (rw[ε];simp));apply I)));refine .loop ?_;(repeat (first|apply aO|apply aP|apply aQ|apply wd|refine ax rfl ?_|refine au rfl ?_|(refine ξ λθ I=>?_;simp;(repeat (rw[ε];simp));apply I)));refine dy (A:=[7]) Μ λθ I=>?_;simp;(repeat (rw[ε];simp));apply I;refine W.fix (id:=0) (σ':=[]) (Nat.zero_le _) rfl (by simp) (by simp) rfl (wj s m o dK 2 0 [(8,δ 2),(11,δ 2),(12,δ 0)]) (by simp) ?_;refine W.stop (G1 dU zb eX eA (λk=>(dQ k _).2 rfl) fN (by decide) k5 CU mB (by simp) ?_);refine V.a0 (qZ _ _ _) rfl ?_;(repeat (first|apply aO|apply aP|apply aQ|apply wd|refine ax rfl ?_|refine au rfl ?_|(refine ξ λθ I=>?_;simp;(repeat (rw[ε];simp[w1,w2,w3]));apply I)));refine .inLoop ?_;(repeat (first|apply aO|apply aP|apply aQ|apply wd|refine ax rfl ?_|refine au rfl ?_|(refine ξ λθ I=>?_;simp;(repeat (rw[ε];simp));apply I)));refine dy (A:=[7]) Μ λθ I=>?_;simp;(repeat (rw[ε];simp));apply I;refine W.fix (id:=0) (σ':=[]) (Nat.zero_le _) rfl (by simp) (by simp) rfl (wj s m o dK 2 1 [(8,δ 2),(11,δ 2),(12,δ 1)]) (by simp) ?_;refine W.stop (G1 p2 zb eX eA (λk=>(dQ k _).2 rfl) fN (by decide) k5 CU mB (by simp) ?_);refine V.a0 (qZ _ _ _) rfl ?_;(repeat (first|apply aO|apply aP|apply aQ|apply wd|refine ax rfl ?_|refine au rfl ?_|(refine ξ λθ I=>?_;simp;(repeat (rw[ε];simp[w1,w2,w3]));apply I)));refine .inLoop ?_;(repeat (first|apply aO|apply aP|apply aQ|apply wd|refine ax rfl ?_|refine au rfl ?_|(refine ξ λθ I=>?_;simp;(repeat (rw[ε];simp));apply I)));refine W.exit rfl ?_;(repeat (first|apply aO|apply aP|apply aQ|apply wd|refine ax rfl ?_|refine au rfl ?_|(refine ξ λθ I=>?_;simp;(repeat (rw[ε];simp[w1,w2,w3]));apply I)));refine .inLoop ?_;(repeat (first|apply aO|apply aP|apply aQ|apply wd|refine ax rfl ?_|refine au rfl ?_|(refine ξ λθ I=>?_;simp;(repeat (rw[ε];simp));apply I)));refine W.exit rfl ?_;refine W.forget (env0 s m o dK []) (by simp) ?_;refine W.stop ?_;exact XG zb eX eA (λk E=>(dQ k E).1) G4 G5 sH G6 kB y3 G7
end
end Go.TL
namespace Go.TL
open Go.Proofs
variable [bh]
def a9.ik (s:a9) (n:Int):Bool:=decide (n< -1)||decide ((s.Τ.length:Int)<=n)
def rf (s:a9) (nO nP:List Int) (cK:Int):Int×Int:=
 if s.err≠0 then(0,s.err) else
 match nO,nP with
 | [i0,i1],[l0,l1]=>if l' i0=false\/l' i1=false\/s.ik l0=true\/s.ik l1=true\/cK<0\/(s.ak.length:Int)<=cK then(0,3) else if i0<=i1 then(0,5) else(s.hS (i0,i1) (l0,l1) cK.toNat,0)
 | _,_=>(0,8)
theorem XV (s:a9) (n:Int):an Tryz.prog 92 [δ n,.Ω [aJ s.Τ,aL s.ak,bx s.cells]] (bJ (s.ik n)):=by
 refine aC.body Μ Tryz.func92 rfl rfl Tryz.ntmps92 rfl rfl (by simp) ?_;by_cases h:n< -1
 ·(repeat (first|apply μ|(refine ξ λθ I=>?_;simp;(repeat (rw[ε];simp[h]));apply I)));refine W.ret ⟨_,rfl,?_,rfl⟩;exact .of (by simp[a9.ik,h])
 ·(repeat (first|apply μ|(refine ξ λθ I=>?_;simp;(repeat (rw[ε];simp[h]));apply I)));refine W.ret ⟨_,rfl,?_,rfl⟩;exact .of (by simp[a9.ik,h])
abbrev XW (p:Int×Int):ζ:=.bn [δ p.1,δ p.2]
theorem XX (s:a9) (ν:s.small) (nO nP:List Int) (cK:Int):an Tryz.prog 34 [e8 s,bC δ 1 nO,bC δ 1 nP,δ cK] (XW (rf s nO nP cK)):=by
 refine aC.body Μ Tryz.func34 rfl rfl Tryz.ntmps34 rfl rfl (by simp) ?_;(repeat (first|apply μ|(refine ξ λθ I=>?_;simp;(repeat (rw[ε];simp));apply I)));(repeat apply μ);refine ξ λθ I=>?_;simp;(repeat (rw[ε];simp));refine an.c (BT s ν) (aE.refl _) (by simp) (by simp) ?_;simp;(repeat (rw[ε];simp));apply I;(repeat (first|apply μ|(refine ξ λθ I=>?_;simp;(repeat (rw[ε];simp));apply I)));by_cases cx:s.err=0
 case neg=>
  refine ax (by simp[cx]) ?_;(repeat (first|apply μ|(refine ξ λθ I=>?_;simp;(repeat (rw[ε];simp));apply I)));refine W.ret ⟨_,rfl,?_,rfl⟩;exact .of (by rw[show rf s nO nP cK=(0,s.err) by unfold rf;rw[if_pos cx]];rfl)
 refine au (by simp[cx]) ?_;(repeat (first|apply μ|(refine ξ λθ I=>?_;simp;(repeat (rw[ε];simp));apply I)));have hv:rf s nO nP cK=match (generalizing:=false) nO,nP with
   | [i0,i1],[l0,l1]=>if l' i0=false\/l' i1=false\/s.ik l0=true\/s.ik l1=true\/cK<0\/(s.ak.length:Int)<=cK then(0,3) else if i0<=i1 then(0,5) else(s.hS (i0,i1) (l0,l1) cK.toNat,0)
   | _,_=>(0,8):=by unfold rf;rw[if_neg (by simpa using cx)]
 by_cases bs:(nO.length:Int)=2
 case neg=>
  have e:rf s nO nP cK=(0,8):=by
   rw[hv];split
   ·simp at bs
   ·rfl
  (repeat apply μ);refine ξ λθ I=>?_;simp;(repeat (rw[ε];simp[bs]));apply I;refine ax rfl ?_;(repeat (first|apply μ|(refine ξ λθ I=>?_;simp;(repeat (rw[ε];simp));apply I)));refine W.ret ⟨_,rfl,?_,rfl⟩;exact .of (by rw[e];rfl)
 by_cases cF:(nP.length:Int)=2
 case neg=>
  have e:rf s nO nP cK=(0,8):=by
   rw[hv];split
   ·simp at cF
   ·rfl
  (repeat apply μ);refine ξ λθ I=>?_;simp;(repeat (rw[ε];simp[bs,cF]));apply I;refine ax rfl ?_;(repeat (first|apply μ|(refine ξ λθ I=>?_;simp;(repeat (rw[ε];simp));apply I)));refine W.ret ⟨_,rfl,?_,rfl⟩;exact .of (by rw[e];rfl)
 obtain⟨i0,i1,rfl⟩:∃a b,nO=[a,b]:=by
  match nO,bs with
  | [a,b],_=>exact⟨a,b,rfl⟩
  | [],h=>simp at h
  | [_],h=>simp at h
  | _::_::_::_,h=>simp at h;omega
 obtain⟨l0,l1,rfl⟩:∃a b,nP=[a,b]:=by
  match nP,cF with
  | [a,b],_=>exact⟨a,b,rfl⟩
  | [],h=>simp at h
  | [_],h=>simp at h
  | _::_::_::_,h=>simp at h;omega
 simp only at hv;(repeat apply μ);refine ξ λθ I=>?_;simp;(repeat (rw[ε];simp));apply I;refine au rfl ?_
 repeat apply μ
 have f3:(l' i0=false\/l' i1=false\/s.ik l0=true\/s.ik l1=true\/cK<0\/(s.ak.length:Int)<=cK)->rf s [i0,i1] [l0,l1] cK=(0,3):=λh=>by rw[hv];exact if_pos h
 have XY:([l0,l1].any s.ik)=(s.ik l0||s.ik l1):=by simp
 have call3:an Tryz.prog 94 [bC δ 1 [l0,l1],.fn (.func 92) [] [.Ω [aJ s.Τ,aL s.ak,bx s.cells]]] (bJ (s.ik l0||s.ik l1)):=by
  rw[<-XY];exact Tc [l0,l1] _ s.ik (by simp) (by simp[iH]) (λx _=>λ_=>(XV s x).cc (by simp;exact aE.refl _) (by simp) (by simp) ⟨rfl,rfl⟩)
 cases dA:l' i0
 case false=>
  have a3:=f3 (.inl dA);(repeat apply μ);refine ξ λθ I=>?_;simp;(repeat (rw[ε];simp));refine an.c (nA i0) (aE.refl _) (by simp) (by simp) ?_;simp[dA];(repeat (rw[ε];simp[dA]));apply I;refine ax rfl ?_;(repeat (first|apply μ|(refine ξ λθ I=>?_;simp;(repeat (rw[ε];simp));apply I)));refine W.ret ⟨_,rfl,?_,rfl⟩;exact .of (by rw[a3];rfl)
 cases c1:l' i1
 case false=>
  have a3:=f3 (.inr (.inl c1));(repeat apply μ);refine ξ λθ I=>?_;simp;(repeat (rw[ε];simp));refine an.c (nA i0) (aE.refl _) (by simp) (by simp) ?_;simp[dA];(repeat (rw[ε];simp[dA]));refine an.c (nA i1) (aE.refl _) (by simp) (by simp) ?_;simp[c1];(repeat (rw[ε];simp[c1]));apply I;refine ax rfl ?_;(repeat (first|apply μ|(refine ξ λθ I=>?_;simp;(repeat (rw[ε];simp));apply I)));refine W.ret ⟨_,rfl,?_,rfl⟩;exact .of (by rw[a3];rfl)
 cases c2:s.ik l0||s.ik l1
 case true=>
  have a3:=f3 (.inr (.inr (by rcases Bool.or_eq_true _ _ |>.mp c2 with h|h<;>simp[h])));(repeat apply μ);refine ξ λθ I=>?_;simp;(repeat (rw[ε];simp));refine an.c (nA i0) (aE.refl _) (by simp) (by simp) ?_;simp[dA];(repeat (rw[ε];simp[dA]));refine an.c (nA i1) (aE.refl _) (by simp) (by simp) ?_;simp[c1];(repeat (rw[ε];simp[c1]));refine an.c call3 (aE.refl _) (by simp[iH]) (by simp) ?_;simp[c2];(repeat (rw[ε];simp[c2]));apply I;refine ax rfl ?_;(repeat (first|apply μ|(refine ξ λθ I=>?_;simp;(repeat (rw[ε];simp));apply I)));refine W.ret ⟨_,rfl,?_,rfl⟩;exact .of (by rw[a3];rfl)
 by_cases c3:cK<0
 ·have a3:=f3 (.inr (.inr (.inr (.inr (.inl c3)))));(repeat apply μ);refine ξ λθ I=>?_;simp;(repeat (rw[ε];simp));refine an.c (nA i0) (aE.refl _) (by simp) (by simp) ?_;simp[dA];(repeat (rw[ε];simp[dA]));refine an.c (nA i1) (aE.refl _) (by simp) (by simp) ?_;simp[c1];(repeat (rw[ε];simp[c1]));refine an.c call3 (aE.refl _) (by simp[iH]) (by simp) ?_;simp[c2,c3];(repeat (rw[ε];simp[c2,c3]));apply I;refine ax rfl ?_;(repeat (first|apply μ|(refine ξ λθ I=>?_;simp;(repeat (rw[ε];simp));apply I)));refine W.ret ⟨_,rfl,?_,rfl⟩;exact .of (by rw[a3];rfl)
 by_cases c4:(s.ak.length:Int)<=cK
 ·have a3:=f3 (.inr (.inr (.inr (.inr (.inr c4)))));(repeat apply μ);refine ξ λθ I=>?_;simp;(repeat (rw[ε];simp));refine an.c (nA i0) (aE.refl _) (by simp) (by simp) ?_;simp[dA];(repeat (rw[ε];simp[dA]));refine an.c (nA i1) (aE.refl _) (by simp) (by simp) ?_;simp[c1];(repeat (rw[ε];simp[c1]));refine an.c call3 (aE.refl _) (by simp[iH]) (by simp) ?_;simp[c2,c3,c4];(repeat (rw[ε];simp[c2,c3,c4]));apply I;refine ax rfl ?_;(repeat (first|apply μ|(refine ξ λθ I=>?_;simp;(repeat (rw[ε];simp));apply I)));refine W.ret ⟨_,rfl,?_,rfl⟩;exact .of (by rw[a3];rfl)
 have CV:s.ik l0=false/\s.ik l1=false:=by simpa using c2
 rw[if_neg (by rw[dA,c1,CV.1,CV.2];simp;omega)] at hv;(repeat apply μ);refine ξ λθ I=>?_;simp;(repeat (rw[ε];simp));refine an.c (nA i0) (aE.refl _) (by simp) (by simp) ?_;simp[dA];(repeat (rw[ε];simp[dA]));refine an.c (nA i1) (aE.refl _) (by simp) (by simp) ?_;simp[c1];(repeat (rw[ε];simp[c1]));refine an.c call3 (aE.refl _) (by simp[iH]) (by simp) ?_;simp[c2,c3,c4];(repeat (rw[ε];simp[c2,c3,c4]));apply I;refine au rfl ?_
 repeat apply μ
 refine W.draw (A:=[]) Μ mixed λθ I=>?_;simp;(repeat (rw[cz];simp));try rw[cy]
 refine⟨cZ (by kernel_rfl),I _ _ ?_⟩;by_cases l5:i0<=i1
 ·rw[if_pos l5] at hv;refine ax (by simp[l5]) ?_;(repeat (first|apply μ|(refine ξ λθ I=>?_;simp;(repeat (rw[ε];simp));apply I)));refine W.ret ⟨_,rfl,?_,rfl⟩;exact .of (by rw[hv];rfl)
 ·rw[if_neg l5] at hv;refine au (by simp[l5]) ?_;obtain⟨n,rfl⟩:∃n:Nat,cK=n:=⟨cK.toNat,by omega⟩;have Ι:n<s.ak.length:=by omega
  have cI:l0<s.Τ.length:=by have:=CV.1;simp[a9.ik] at this;omega
  have Ξ:l1<s.Τ.length:=by have:=CV.2;simp[a9.ik] at this;omega
  repeat apply μ
  refine W.draw (A:=[]) Μ mixed λθ I=>?_;simp;(repeat (rw[cz];simp));try rw[cy]
  refine iI (an.p (yi s ν (i0,i1) (l0,l1) n Ι cI Ξ) (aE.refl _) (by simp) (by simp)) ?_;simp;(repeat (rw[cz];simp));try rw[cy]
  refine⟨cZ (by kernel_rfl),I _ _ ?_⟩;(repeat (first|apply μ|(refine ξ λθ I=>?_;simp;(repeat (rw[ε];simp));apply I)));refine W.ret ⟨_,rfl,?_,rfl⟩;exact .of (by rw[hv];rfl)
end Go.TL
namespace Go.TL
open Go.Proofs
def ji:Nat->Int×Int
 | 0=>(1,0)
 | 1=>(2,0)
 | _=>(2,1)
def p8 (s:a9) (p:Int×Int):Found:=⟨p.1,p.2,(List.range s.cells.length).map (mW s p)⟩
def lM (s:a9) (k:Nat):Option Found:=if k<3/\0<(p8 s (ji k)).many (-1) then some (p8 s (ji k)) else none
def j9 (s:a9):List Found:=(List.range 3).filterMap (lM s)
structure MF (N:Nat) (s:a9):Prop where
 small:s.small
 Τ:s.Τ.length<2 ^ 20
 lit:∀c∈s.cells,∀x∈c,0<=x.cK/\x.cK<s.ak.length
 reads:∀k,k<3->∀c,c<s.cells.length->(mW s (ji k) c).length<=N
 many:∀k,k<3->∀i,i<=s.cells.length->lr (p8 s (ji k)).cells (-1) i<2 ^ 62
abbrev MG (s:a9):Prop:=MF 12 s
theorem XZ {N:Nat} (b8:N<2 ^ 20) (gT:∀c:bh,@FU c N) {s:a9} (h:MF N s):@se nN s (j9 s):=λ_=>by
 refine XQ (fd:=lM s) (pr:=ji) (F:=λk=>p8 s (ji k)) (N:=λk=>(p8 s (ji k)).many (-1)) ⟨λk Α c=>?_,λk Α c=>?_,λk=>rfl⟩ rfl rfl rfl rfl ?_
 ·exact @T9 c s h.small h.Τ (ji k) h.lit N b8 (gT c) (h.reads k Α)
 ·have Β:(p8 s (ji k)).cells.length=s.cells.length:=by simp[p8]
  have:=h.small.2.2.1;exact @BP c (p8 s (ji k)) (-1) (by rw[Β];omega) (λi hi=>h.many k Α i (by rw[<-Β];exact hi))
 ·have e:(List.range 3).filterMap (lM s)=(lM s 0).toList++(lM s 1).toList++(lM s 2).toList:=by
   show [0,1,2].filterMap (lM s)=_;simp only[List.filterMap_cons,List.filterMap_nil];cases lM s 0<;>cases lM s 1<;>cases lM s 2<;>rfl
  show((List.range 3).filterMap (lM s)).Pairwise m4;rw[e];have m:∀k x,x∈(lM s k).toList->x=p8 s (ji k):=λk x U=>by
   unfold lM at U;split at U
   ·simpa using U
   ·simp at U
  have one:∀k,((lM s k).toList).Pairwise m4:=λk=>by cases lM s k<;>simp
  rw[List.pairwise_append,List.pairwise_append];refine⟨⟨one 0,one 1,λa κ b hb=>?_⟩,one 2,λa κ b hb=>?_⟩
  ·rw[m 0 a κ,m 1 b hb];exact .inl (show(ji 0).1<(ji 1).1 by decide)
  ·rw[m 2 b hb];rcases List.mem_append.1 κ with κ|κ
   ·rw[m 0 a κ];exact .inl (show(ji 0).1<(ji 2).1 by decide)
   ·rw[m 1 a κ];exact .inr ⟨rfl,show(ji 1).2<(ji 2).2 by decide⟩
theorem X0 {s:a9} (h:MG s):@se nN s (j9 s):=XZ (by decide) (λc=>@T0 c) h
theorem MH:MG eV:=by
 refine⟨by unfold a9.small;decide,by decide,by decide,?_,?_⟩
 ·have:∀k<3,∀c<2,(mW eV (ji k) c).length<=12:=by decide +kernel
  exact this
 ·have:∀k<3,∀i<3,lr (p8 eV (ji k)).cells (-1) i<2 ^ 62:=by decide +kernel
  exact λk Α i hi=>this k Α i (by have:i<=2:=hi;omega)
theorem MI:eV.err=0:=by decide +kernel
theorem X1:q4 eV (j9 eV)=(1,1,2,0):=by decide +kernel
theorem X2:sF eV (j9 eV) 1 true=([1],0):=by decide +kernel
theorem X3:rf eV [1,0] [1,4] 1=(12,0):=by decide +kernel
theorem X4:jZ (j9 eV)=[[1,0],[2,0]]:=by decide +kernel
def wv (b:ByteArray):Int:=(b.data[0]!).toNat
theorem MJ {l m:List Int} (χ:l.Perm m) (hm:m.Pairwise λa b=>a<=b):nG l=m:=by
 have FQ:∀a b c:Int,decide (a<=b)=true->decide (b<=c)=true->decide (a<=c)=true:=λa b c h k=>by simp at *;omega
 have FR:∀a b:Int,(decide (a<=b)||decide (b<=a))=true:=λa b=>by simp;omega
 have s1:=List.pairwise_mergeSort (le:=λx y:Int=>decide (x<=y)) FQ FR l
 have dU:(l.mergeSort λx y:Int=>decide (x<=y)).Perm m:=(List.mergeSort_perm l _).trans χ;exact List.Perm.eq_of_pairwise (le:=λa b:Int=>a<=b) (λa b _ _ h k=>by omega) (s1.imp λ{a b} h=>by simpa using h) hm dU
theorem MK:jd (j9 eV) 0 true=[4,4]:=by decide +kernel
theorem ML:jd (j9 eV) 1 true=[1,2,1,2]:=by decide +kernel
theorem X5:(spell [111,63]).toList=[111,63]:=by decide +kernel
theorem X6:(ft eV true (j9 eV)).2.2=0:=by decide +kernel
theorem X7 {l:List (List (Int×Int))} {ib:Int} (h:∀j:Nat,((l[j]?).getD []).length<=2):∀i,lr l ib i<=2 ^ i:=by
 intro i
 induction i with
 | zero=>simp[lr]
 | succ i Γ=>
  rw[@Ks ⟨λ_=>True⟩,Nat.pow_succ];refine Nat.mul_le_mul Γ ?_;split
  ·omega
  ·exact h i
theorem X8:∀f∈j9 eV,f.cells.length=2/\∀c∈f.cells,c.length<=2:=by decide +kernel
theorem MM:B5 eV (j9 eV):=by
 refine⟨by decide +kernel,by decide +kernel,?_,by decide +kernel⟩;intro f ab;obtain⟨J,R⟩:=X8 f ab;refine⟨by rw[J];decide,λib i hi=>Nat.lt_of_le_of_lt (X7 (λj=>?_) i) ?_⟩
 ·cases γ:f.cells[j]? with
  | none=>simp
  | some c=>simpa using R c (cf γ)
 ·have:2 ^ i<=2 ^ 2:=Nat.pow_le_pow_right (by omega) (by omega);omega
theorem MN:oF (j9 eV) 0 true=[4]:=by
 unfold oF;rw[MK,MJ (m:=[4,4]) (.refl _) (by decide)];decide
theorem MO:oF (j9 eV) 1 true=[1,2]:=by
 unfold oF;rw[ML,MJ (m:=[1,1,2,2]) (by decide) (by decide)];decide
theorem X9:KM eV (j9 eV) true wv 12:=by
 refine⟨by decide +kernel,by decide +kernel,λc η=>?_,λg Ο=>?_⟩
 ·have η:c<2:=η
  match c,η with
  | 0,_=>rw[MK,MN];decide
  | 1,_=>rw[ML,MO];decide
 ·simp only[eV,List.mem_cons,List.not_mem_nil,or_false] at Ο;rcases Ο with rfl|rfl|rfl|rfl|rfl<;>rfl
theorem X':nH eV (j9 eV) true wv 2=[111,63]:=by
 show [0,1].map (sf eV (j9 eV) true wv)=_;simp only[List.map_cons,List.map_nil,sf,MN,MO];decide +kernel
theorem Ya:sg eV (j9 eV) true wv=(spell [111,63],0):=by
 unfold sg;rw[if_pos X6];show(spell (nH eV (j9 eV) true wv 2),(0:Int))=_;rw[X']
theorem Yb:@an nN Tryz.prog 21 [] (bJ true):=by
 letI:bh:=nN;have ν:=MH.small;have Ζ:=X0 MH;refine aC.body Μ Tryz.func21 rfl rfl Tryz.ntmps21 rfl rfl (by simp) ?_;(repeat (first|apply μ|(refine ξ λθ I=>?_;simp;(repeat (rw[ε];simp));apply I)));(repeat apply μ);refine ξ λθ I=>?_;simp;(repeat (rw[ε];simp));refine an.c (y9) (aE.refl _) (by simp) (by simp) ?_;simp;(repeat (rw[ε];simp));refine an.c (XX eV ν [1,0] [1,4] 1) (.cons (.refl _) (.cons .ex (.cons .ex (.cons (.refl _) .nil)))) (by simp) (by simp) ?_;rw[X3];simp;(repeat (rw[ε];simp));apply I;(repeat apply μ);refine ξ λθ I=>?_;simp;(repeat (rw[ε];simp));refine an.c (y9) (aE.refl _) (by simp) (by simp) ?_;simp;(repeat (rw[ε];simp));refine an.c (TC eV ν _ Ζ (by decide +kernel)) (aE.refl _) (by simp) (by simp) ?_;rw[if_pos MI,MI,X4];simp;(repeat (rw[ε];simp));apply I;(repeat apply μ);refine ξ λθ I=>?_;simp;(repeat (rw[ε];simp));refine an.c (y9) (aE.refl _) (by simp) (by simp) ?_;simp;(repeat (rw[ε];simp));refine an.c (TJ eV ν _ Ζ true wv 12 (by decide) TM X9) (aE.refl _) (by simp) (by simp) ?_;rw[Ya];simp;(repeat (rw[ε];simp));apply I;(repeat apply μ);refine ξ λθ I=>?_;simp;(repeat (rw[ε];simp));refine an.c (y9) (aE.refl _) (by simp) (by simp) ?_;simp;(repeat (rw[ε];simp));refine an.c (Uo eV ν _ Ζ MM) (aE.refl _) (by simp) (by simp) ?_;rw[X1];simp;(repeat (rw[ε];simp));apply I;(repeat apply μ);refine ξ λθ I=>?_;simp;(repeat (rw[ε];simp));refine an.c (y9) (aE.refl _) (by simp) (by simp) ?_;simp;(repeat (rw[ε];simp));refine an.c (W1 eV ν _ Ζ MM 1 true (by decide)) (aE.refl _) (by simp) (by simp) ?_;rw[X2];simp;(repeat (rw[ε];simp));apply I;(repeat apply μ);refine ξ λθ I=>?_;simp;(repeat (rw[ε];simp));refine an.c (yr 9) (aE.refl _) (by simp) (by simp) ?_;have fR:valid 9=true:=by decide +kernel
 have fq:fA 9=6:=by decide +kernel
 rw[fR,fq];simp;(repeat (rw[ε];simp));apply I;(repeat apply μ);refine ξ λθ I=>?_;simp;(repeat (rw[ε];simp[X5]));refine an.c (SS [[1,0],[2,0]] [[1,0],[2,0]] (by decide) (by decide)) (.cons (.refl _) (.cons ?_ .nil)) (by simp) (by simp) ?_
 ·exact .map (l:=[[1,0],[2,0]]) (f:=λl:List Int=>.sl true 1 (l.map δ)) (g:=bC δ 1) λx _=>.one .ex rfl rfl
 simp;(repeat (rw[ε];simp));refine an.c (FC [1] [1] (by decide)) (.cons (.refl _) (.cons .ex .nil)) (by simp) (by simp) ?_;simp;(repeat (rw[ε];simp));apply I;refine W.ret ⟨_,rfl,?_,rfl⟩;exact .of (by simp)
end Go.TL
