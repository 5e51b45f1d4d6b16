import Derived.Test.YtlabjopijpkiaaaGreatSAN
import Derived.Test.YtlabjopijpkiaaaGreatSAR
import Derived.Test.YtlabjopijpkiaaaGreatSAS
import Derived.Test.YtlabjopijpkiaaaGreatSAY
set_option maxHeartbeats 16000000
set_option maxRecDepth 20000
set_option linter.unusedSectionVars false
set_option linter.unusedSimpArgs false
set_option linter.unusedVariables false
namespace Go.TL
open Go.Conc Go.Proofs
variable [bm]
noncomputable abbrev Jy (vs:Array Value):Frame:=Frame.enter Tryz.prog 28 vs .normal
theorem bΥ {s:aL} {F:List Found} {cell:Int} (h:(mP s cell F).2.2=0):0<=cell/\cell<s.cells.length/\mP s cell F=(s,F,0):=by
 unfold mP at h ⊢;split at h
 ·rename_i J;simp at h;exact absurd h J
 ·split at h
  ·simp at h
  ·rename_i J γ;rw[if_neg J,if_neg γ];refine⟨by omega,by omega,?_⟩;unfold fM at h ⊢;rw[if_neg J] at h ⊢;split at h
   ·simp at h
   ·rename_i π;rw[if_neg π]
section
variable {Q:Value->Prop} {mn:Bool} {c:Frame} {rest:List Frame}
theorem Qd (s:aL) (ο:s.small) (F:List Found) (gu:sY s F) (b8:Au s F) (cell:Int) (lower:Bool) (Qe:s.ai.length<=4) :
  ay Tryz.prog 28 [eV s,R cell,a4 lower] (.bn [aP R 1 (rP s F cell lower).1,R (rP s F cell lower).2]):=by
 refine⟨⟨_,Tryz.func28,rfl,rfl⟩,λQ mn x c rest fb ek dK vs U sk Jz lO=>?_⟩;obtain rfl:ek=[]:=dp.1 sk.len;rw[qj (body:=Tryz.f28.body.getD .skip) Tryz.func28 rfl];refine V.here (x:=x) (m:=0) (nt:=35) (S:=fb) (B:=[]) (H:=dK) (σ:=[]) (env:=entry 0 [eV s,R cell,a4 lower]) ?_ (fx.enter sk Jz (Nat.le_refl _) (by simp));refine V.bh U rfl ?_;simp only[Tryz.f28,Option.getD_some]
 repeat apply κ
 refine dw (A:=[6,7]) Ι λη I=>?_;simp;(repeat (rw[δ];simp));apply I;(repeat apply κ);refine dw (A:=[8,9]) Ι λη I=>?_;simp;(repeat (rw[δ];simp));refine ay.c (Yl s ο cell F gu) (aK.refl _) (by simp) (by simp) ?_;simp;(repeat (rw[δ];simp));apply I;by_cases b:(mP s cell F).2.2=0
 case neg=>
  have e:rP s F cell lower=([],(mP s cell F).2.2):=by unfold rP;rw[if_pos b]
  rw[e] at lO;generalize (mP s cell F).2.2=eE at b lO ⊢;(repeat (first|apply κ|(refine ν λη I=>?_;simp;(repeat (rw[δ];simp));apply I)));refine aj (by simp[b]) ?_;(repeat (first|apply κ|(refine ν λη I=>?_;simp;(repeat (rw[δ];simp));apply I)));refine W.stop ?_;intro ik jK hI t5 kl lb;refine aM.ret U rfl rfl ?_;exact Qc U lO rfl rfl rfl rfl kl.ext lb.holds lb.cp rfl rfl rfl rfl rfl (λh=>absurd rfl h)
 obtain⟨jz,ns,e⟩:=bΥ b;obtain⟨n,rfl⟩:∃n:Nat,cell=n:=⟨cell.toNat,by omega⟩;have bP:n<s.cells.length:=by omega
 have Ε:rP s F n lower=match (h1 s.ai.length 0).find? (lX s F n lower) with|some l=>(l.map λn:Nat=>(n:Int),0)|none=>([],11):=by
  unfold rP;rw[if_neg (by simpa using b)];rfl
 rw[e];refine W.fix (id:=3) (σ':=[ow,ox,.cells 98 3 [eV s]]) (Nat.zero_le _) rfl (by simp) (λid q bW Ρ=>by
  match id,bW,Ρ with
  | 0,_,Ρ=>simp at Ρ;subst Ρ;simp[eK,θ.cells]
  | 1,_,Ρ=>simp at Ρ;subst Ρ;simp[eK,θ.cells]
  | 2,_,Ρ=>simp at Ρ;subst Ρ;simp[eK,θ.cells]) rfl [(3,.Ψ [aO s.ae,aI s.ai,bf s.cells]),(4,.Ψ [R n]),(5,.Ψ [a4 lower]),(6,.al 0 1 0 0),(7,.al 1 1 0 0),(8,.al 2 1 0 0),(9,.Ψ [cQ F]),(10,R 0)] (by simp[kU]) ?_
 refine W.fix (id:=2) (σ':=[ow,ox]) (Nat.zero_le _) rfl (by simp) (λid q bW Ρ=>by
  match id,bW,Ρ with
  | 0,_,Ρ=>simp at Ρ;subst Ρ;simp[eK,θ.cells]
  | 1,_,Ρ=>simp at Ρ;subst Ρ;simp[eK,θ.cells]) rfl ((10,R 0)::yp s F n lower) (by simp[kU]) ?_
 (repeat (first|apply κ|(refine ν λη I=>?_;simp;(repeat (rw[δ];simp));apply I)));refine ah rfl ?_;(repeat (first|apply κ|(refine ν λη I=>?_;simp;(repeat (rw[δ];simp));apply I)));(repeat apply κ);refine ν λη I=>?_;simp;(repeat (rw[δ];simp));refine ay.c (bΞ s.ai.length) (aK.refl _) (by simp) (by simp) ?_;simp;(repeat (rw[δ];simp));apply I
 repeat apply κ
 refine W.forget ((25,.fn (.func 126) [] [.Ψ [R s.ai.length]])::yp s F n lower) (by simp) ?_;refine W.stop ?_;intro bJ bO H1 t1 oi mN;have x7:∀r∈[ow,ox],yn r:=λr μ=>by
  simp only[List.mem_cons,List.not_mem_nil,or_false] at μ;rcases μ with rfl|rfl<;>exact⟨_,_,_,rfl⟩
 have bV:=mN.cp 25;simp only[a3,if_true] at bV;obtain⟨an,AZ⟩:∃an,an=t1.getD 25 undef:=⟨_,rfl⟩;rw[<-AZ] at bV;cases bV with
 | fn w1 mT Τ af aX cr=>
 have bΦ:w1=#[]:=Array.eq_empty_of_size_eq_zero (by rw[<-Τ];rfl);subst bΦ;refine aM.rangeFunc U rfl rfl (fo:=.tmp 25) AZ.symm ⟨_,Tryz.func126,rfl,rfl⟩ λr1 L J γ=>?_;have JA:¬bO.has r1:=mN.holds.Qb x7 J;have E2:=mN.holds.bI (y:=.deferred (some [])) JA;have E3:Ext bJ bO H1 bJ bO (H1.bI r1 (.deferred (some []))):=Ext.Qa J;have A0:(H1.bI r1 (.deferred (some []))).obj r1=some (.deferred (some [])):=by simp[Α.bI]
 have bΧ:dK.fresh r1:=oi.ext.grow _ J
 have E4:dK.fresh L:=oi.ext.grow _ (E3.grow _ γ);generalize lΞ:H1.bI r1 (.deferred (some []))=Qf at γ E2 E3 A0;have E5:r1≠L:=λe=>by rw[e,γ.2.2.1] at A0;cases A0
 have Qg:¬bO.has L:=E2.Qb x7 γ
 have Qh:∀(S:aB) (B:aR) (H:Α) (σ:List Row),eU 2 bJ bO Qf [ow,ox] S B H σ->b3 bJ S bO B [ow,ox] σ:=λS B H σ ξ=>ξ.all E2 (by simp)
 have Qi:∀(uP:Frame) (S:aB) (B:aR) (H:Α) (σ:List Row) (env:aa) (l:List Int) (eE:Int) (e:Bool) (kk:Nat),uP.fn=28->uP.kind=.normal->uP.mode=.returning->uP.defers=[⟨.collected r1,#[]⟩]->Ext fb [] dK S B H->Holds S B σ H->¬B.has r1->H.obj r1=some (.deferred (some []))->
   de S B σ env uP.tmps->a3 env 6=.al 0 1 0 0->a3 env 7=.al 1 1 0 0->σ[0]?=some (.cells 29 1 [.sl e kk (l.map R)])->σ[1]?=some (.cells 38 1 [R eE])->rP s F n lower=(l,eE)->(l≠[]->kk=1)->aM Tryz.prog Q mn x uP (c::rest) H:=
  λuP S B H σ env l eE e kk eR ew iE sC tW bΨ bΩ uI cα cβ cγ cδ cε cζ cη=>by
  refine aM.collected U iE sC uI ?_;exact Qc U lO (b:={uP with defers:=[]}) eR ew rfl iE (tW.bI bΧ ⟨_,uI⟩) (bΨ.bI bΩ) cα cβ cγ cδ cε cζ cη
 rw[qj (body:=Tryz.f126.body.getD .skip) Tryz.func126 rfl];have JB:fy bJ bO [ow,ox] ([rN L]++[.Ψ [R s.ai.length]]) (#[.func (.yield L) #[] #[]]++mT):=by
  refine fy.append ⟨rfl,λi a v eR ew=>?_⟩ ⟨af,cr⟩
  match i with
  | 0=>simp at eR ew;subst eR;subst ew;exact .fn #[] #[] rfl rfl (λi a v hi=>by simp at hi) (λi a v hi=>by simp at hi)
  | i+1=>simp at eR
 refine bω (o:=⟨bJ,bO,Qf,[ow,ox],2⟩) (L:=L) (Fnd:=λrem=>(h1 s.ai.length 0).find? (lX s F n lower)=rem.find? (lX s F n lower)) U (Nat.le_trans Qe (by decide)) ?_ rfl bJ bO _ _ (eU.of (Ext.Qa γ) (b3.refl ..)) (fx.enter (E2.bI Qg) JB (Nat.le_refl _) (by simp)) Qg (by simp[Α.bI];rfl);refine⟨rfl,by simp[eK,θ.cells],by simp[eK,θ.cells],rfl,λl rem E6 cθ aD S B H ws lΟ ξ Β k5 aC hv cι cκ=>?_,λE6 S B H ξ Β k5 aC=>?_⟩
 ·obtain⟨JC,xu⟩:=qu ξ.ext JA A0;have cμ:=Qh _ _ _ _ ξ;have ru:=mN.cp.later cμ;have A1:Ext fb [] dK S B H:=oi.ext.trans (E3.trans ξ.ext);obtain⟨w0,rfl⟩:∃w0,ws=#[w0]:=by
   have J:=hv.1;clear hv;obtain⟨wl⟩:=ws
   match wl,J with
   | [w0],_=>exact⟨w0,rfl⟩
  have cν:((#[26]:Array Tmp).zip #[w0]).foldl (λtmps (t,a)=>tmps.setIfInBounds t a) t1=t1.setIfInBounds 26 w0:=by simp
  change aM Tryz.prog Q mn x (Frame.round L 28 (((#[26]:Array Tmp).zip #[w0]).foldl (λtmps (t,a)=>tmps.setIfInBounds t a) t1) _ _ .normal) _ _;rw[cν];have ED:ao S B [ow,ox,fl l] (.ms 2 l.length 0 l.length) w0:=hv.2 0 _ _ rfl rfl;have cξ:l.length<2 ^ 30:=by omega
  have AY:de S B [ow,ox,fl l] ((26,.ms 2 l.length 0 l.length)::yp s F n lower) (t1.setIfInBounds 26 w0):=wL (de.put ru (d:=26) (by rw[mN.size];omega) ED) (by simp);refine V.here (b:=Frame.round L 28 t1 .skip .skip .normal) (t:=t1.setIfInBounds 26 w0) (m:=3) (nt:=35) (S:=S) (B:=B) (H:=H) (σ:=[ow,ox,fl l]) (env:=(26,.ms 2 l.length 0 l.length)::yp s F n lower) ?_ ⟨Β,AY,Eq.trans (Array.size_setIfInBounds ..) mN.size,Nat.le_refl _⟩;refine V.bh U rfl ?_;(repeat (first|apply κ|(refine ν λη I=>?_;simp;(repeat (rw[δ];simp));apply I)));refine W.stop ?_;intro kA kB jb t3 gI eW;obtain⟨A2,A3⟩:=qu gI.ext k5 aC;obtain⟨cο,cπ⟩:=qu gI.ext JC xu;refine aM.beginRound U rfl rfl A3 rfl ?_;refine V.here (b:=Frame.round L 28 t1 .skip .skip .normal) (m:=3) (nt:=35) ?_ ⟨eW.holds.bI A2,eW.cp,eW.size,eW.rows⟩;refine V.bh U rfl ?_;(repeat apply κ);refine ν λη I=>?_;simp;(repeat (rw[δ];simp));have cH:au 0 (eV s):=by simp
  have p6:au 0 (cQ F):=by simp
  have gO:iG (fl l):=uf (f:=λn:Nat=>R n) λx=>by simp[θ.cells]
  refine ak.one (as0:=[eV s,cQ F,R n,a4 lower,.ms 0 l.length 0 l.length]) (Y' s ο F b8 n bP lower l (Nat.le_trans cθ Qe) aD) 2 rfl gO gO (λa ξ=>by
   simp only[List.mem_cons,List.not_mem_nil,or_false] at ξ;rcases ξ with rfl|rfl|rfl|rfl|rfl
   ·exact cH.ih 1
   ·exact p6.ih 1
   ·exact(au.z _).ih 1
   ·exact(au.z _).ih 1
   ·exact nC.2 (by omega)) ((au.z _).ih 1) (by simp[nD,od,cH.dM [2],p6.dM [2]]) ?_
  simp[od];(repeat (rw[δ];simp));apply I;have JD:b3 S kA B kB [ow,ox,fl l] [ow,ox,fl l]:=gI.all Β (Nat.le_refl _);have A4:=λy=>(ξ.ext.trans gI.ext).bI γ (y:=y) ⟨_,A3⟩;have cρ:=λy=>(A1.trans gI.ext).bI E4 (y:=y) ⟨_,A3⟩;cases Qj:lX s F n lower l
  ·refine ah rfl ?_
   repeat apply κ
   refine W.stop ?_;intro ik jK hI t5 kl lb;obtain⟨A5,A6⟩:=qu kl.ext A2 (show(jb.bI L _).obj L=some (.loop _) by simp[Α.bI];rfl);have E7:=kl.all (eW.holds.bI A2) (Nat.le_refl _);refine aM.endRound U rfl rfl rfl A6 (jump:=none) (.inl ⟨rfl,rfl⟩) (cι (by rw[E6,List.find?_cons,Qj]) ik jK _ ⟨((A4 _).trans kl.ext).bI γ ⟨_,A6⟩,?_⟩ (JD.trans E7) (lb.holds.bI A5) A5 (by simp[Α.bI]));exact ξ.later.trans (JD.trans E7)
  ·refine aj rfl ?_;obtain⟨z,Θ⟩:∃z,z=l.map λn:Nat=>(n:Int):=⟨_,rfl⟩;have cς:fl l=.cells 3 1 (z.map R):=by rw[Θ,List.map_map];rfl
   have o5:z.length=l.length:=by rw[Θ,List.length_map]
   have Qk:=Y3 z (by rw[o5];exact cξ);rw[o5,<-cς] at Qk;have Ql:∀(e:Bool) (k:Nat),au 0 (.sl e k (z.map R)):=λe k=>by simp
   (repeat apply κ);refine ν λη I=>?_;simp;(repeat (rw[δ];simp));refine ak.Io (as0:=[.ms 0 l.length 0 l.length]) Qk 2 rfl gO (by simp[nC]) (by simp[nD]) (λa bq ag=>?_);obtain⟨⟨e,kk,rfl,q'⟩,rfl⟩:=ag;refine⟨fl l,rfl,gO,(Ql e kk).ih 1,?_⟩;rw[(Ql e kk).dM [2]];simp;(repeat (rw[δ];simp));apply I;refine W.stop ?_;intro ik jK hI t5 kl lb;obtain⟨A5,A6⟩:=qu kl.ext A2 (show(jb.bI L _).obj L=some (.loop _) by simp[Α.bI];rfl);obtain⟨Qm,cτ⟩:=qu kl.ext cο (show(jb.bI L _).obj r1=some (.deferred (some [])) by simp[Α.bI,E5,cπ]);have E7:=kl.all (eW.holds.bI A2) (Nat.le_refl _);refine aM.endRound U rfl rfl rfl A6 (jump:=some .ret) (.inr (.inl ⟨rfl,_,rfl⟩)) (cκ _ λlΡ lΤ Qn=>?_);obtain⟨eR,ew⟩:=(lb.holds.bI (y:=.loop _) A5).su (λb hb=>Qn.su hb) Qn.grow;obtain⟨cυ,Qo⟩:=qu ew A5 (show(hI.bI L _).obj L=some (.loop _) by simp[Α.bI];rfl);obtain⟨_,cφ⟩:=qu ew Qm (show(hI.bI L _).obj r1=some (.deferred (some [])) by simp[Α.bI,E5,cτ]);refine aM.OW (b:={Jy vs with defers:=[⟨.collected r1,#[]⟩]}) (t:=t1) U rfl Qo (by simp) ?_;refine aM.ret (b:={Jy vs with defers:=[⟨.collected r1,#[]⟩]}) U rfl rfl ?_;refine Qi _ ik jK _ _ (yp s F n lower) z 0 e kk rfl rfl rfl rfl ((((((cρ _).trans kl.ext).bI E4 ⟨_,A6⟩)).trans ew).bI E4 ⟨_,Qo⟩) (eR.bI cυ) Qm (by simp[Α.bI,E5,cφ]) (wL ((ru.later (JD.trans E7))) (by simp)) rfl rfl rfl rfl ?_ q';rw[Ε,E6,List.find?_cons,Qj,Θ]
 ·obtain⟨JC,xu⟩:=qu ξ.ext JA A0;have ru:=mN.cp.later (Qh _ _ _ _ ξ);have oW:Ext fb [] dK S B H:=oi.ext.trans (E3.trans ξ.ext);refine aM.OW (b:={Jy vs with defers:=[⟨.collected r1,#[]⟩]}) (t:=t1) U rfl aC (by simp) ?_;refine V.here (m:=0) (nt:=35) (S:=S) (B:=B) (σ:=[ow,ox]) (env:=yp s F n lower) ?_ ⟨Β.bI k5,wL ru (by simp),mN.size,Nat.zero_le _⟩;refine V.bh U rfl ?_;simp only[Option.map_none,Option.toList_none,List.nil_append];(repeat (first|apply κ|(refine ν λη I=>?_;simp;(repeat (rw[δ];simp));apply I)));refine W.stop ?_;intro ik jK hI t5 kl lb;have cχ:∀y,(H.bI L y).obj r1=some (.deferred (some [])):=λy=>by simp[Α.bI,E5,xu]
  obtain⟨k1,cC⟩:=qu kl.ext JC (cχ _);refine aM.ret U rfl rfl ?_;refine Qi _ ik jK hI _ _ [] 11 true 0 rfl rfl rfl rfl ((oW.bI E4 ⟨_,aC⟩).trans kl.ext) lb.holds k1 cC lb.cp rfl rfl rfl rfl ?_ (λh=>absurd rfl h);rw[Ε,E6];rfl
end
end Go.TL
namespace Go.TL
open Go.Proofs
variable [bm]
def fg:aL:=⟨[⟨⟨#[98]⟩,9⟩,⟨⟨#[99]⟩,4⟩,⟨⟨#[100]⟩,6⟩,⟨⟨#[105]⟩,48⟩,⟨⟨#[111]⟩,12⟩],[[1,2],[0],[0,1,2]],[[⟨0,4,59⟩,⟨1,8,3⟩],[⟨0,0,63⟩,⟨1,4,8⟩]]⟩
theorem A7:ay Tryz.prog 72 [] (eV fg):=by
 refine ak.body Ι Tryz.func72 rfl rfl Tryz.ntmps72 rfl rfl (by simp) ?_
 repeat apply κ
 refine dw (A:=[0]) Ι λη I=>?_;simp;(repeat (rw[δ];simp));apply I
 repeat apply κ
 (repeat apply κ);refine ν λη I=>?_;simp;(repeat (rw[δ];simp));apply I;refine W.fix (id:=0) (σ':=[]) (Nat.zero_le _) rfl (by simp) (by simp) rfl [(0,.Ψ [.sl true 2 [eA ⟨⟨#[98]⟩,9⟩,eA ⟨⟨#[99]⟩,4⟩,eA ⟨⟨#[100]⟩,6⟩,eA ⟨⟨#[105]⟩,48⟩,eA ⟨⟨#[111]⟩,12⟩],.sl true 1 [eG [1,2],eG [0],eG [0,1,2]],.sl true 1 [.sl true 3 [eB ⟨0,4,59⟩,eB ⟨1,8,3⟩],.sl true 3 [eB ⟨0,0,63⟩,eB ⟨1,4,8⟩]]])] (by simp) ?_;refine W.ret ⟨_,rfl,?_,rfl⟩;refine .aS (.cons .ex (.cons ?_ (.cons ?_ .nil)))
 ·exact .map (l:=[[1,2],[0],[0,1,2]]) (f:=eG) λx _=>.one .ex rfl rfl
 ·exact .map (l:=[[⟨0,4,59⟩,⟨1,8,3⟩],[⟨0,0,63⟩,⟨1,4,8⟩]]) (f:=λl:List eF=>.sl true 3 (l.map eB)) λx _=>.one .ex rfl rfl
end Go.TL
namespace Go.TL
open Go.Conc Go.Proofs
open Go.ConcN (sumTo upd sumTo_upd upd_ne upd_same sumTo_congr le_sumTo)
variable [bm]
section
variable {P:Program} {Q:Value->Prop} {mn:Bool} {y:aV} {f f' b:Frame} {cs cs':List Frame} {H:Α} {t:Array Value} {k:List Item} {ops:Array Oper} {i:Nat} {rest:List Nat} {op:Oper}
theorem cn.quiet (U:eL y) (ο:∀w,stepG P mn (Go.Conc.G f cs) w=.go (Go.Conc.G f' cs') w #[]) (h:cn P Q mn y f' cs' H):cn P Q mn y f cs H:=
 Quiet.goes (.cons ⟨rfl,rfl⟩ ο (.nil _)) U ⟨rfl,rfl⟩ h
theorem cn.next (U:eL y) (hb:b.mode=.run) {id:Nat} {JE:Array Oper} {c:Code} (h:cn P Q mn y (ar b t (.inRegion JE (List.range JE.size)::.code c::k)) cs H):cn P Q mn y (ar b t (.inRegion ops []::.code (.seq (.region id JE false) c)::k)) cs H:=
 .quiet U (λw=>(iV hb w).trans rfl) (.quiet U (λw=>(iV hb w).trans rfl) (.quiet U (λw=>(iV hb w).trans rfl) h))
theorem cψ {ty:TypeId} {inf:TypeInfo} {z:Value} (hi:P.info? ty=some inf) (Θ:inf.zero=some z) (w:World) :
  (Instr.alloc ty true (.tuple #[])).run P w=.ok (ptr w.heap.size 0) (w.alloc (.cells z.cells ty (0,0)))/\∀es,(Instr.alloc ty true (.tuple #[])).events P w es=es:=by
 constructor
 ·simp[Instr.alloc,zeroValue,typeInfo,newVar,newRow,hi,Θ,Result.andThen]
 ·intro es;simp[Instr.alloc,zeroValue,typeInfo,newVar,newRow,hi,Θ,Result.andThen,Result.evThen]
theorem cn.JF {ty:TypeId} {inf:TypeInfo} {z:Value} (dZ:y.rel=false) (bS:mU b ops i op) (Ν:op.op=.alloc ty) (Υ:op.guard=none) (hi:P.info? ty=some inf) (Θ:inf.zero=some z)
  (h:∀r,H.fresh r->(∀Χ v,y.aF Χ=some v->Χ<r)->cn P Q mn {y with aF:=upd y.aF r (some (z.cells,ty))} (ar b (put op t (ptr r 0)) (.inRegion ops rest::k)) cs H):cn P Q mn y (ar b t (.inRegion ops (i::rest)::k)) cs H:=by
 refine Goes.step (eL.ok (.inl dZ)) (.inr ⟨⟨rfl,rfl⟩,.inl λw Φ hv=>?_⟩);obtain⟨r1,r2⟩:=cψ (P:=P) hi Θ w;have hw:Region.wanted op (yielded ops t)=true:=by unfold Region.wanted;rw[Υ]
 have zy:stepG P mn (Go.Conc.G (ar b t (.inRegion ops (i::rest)::k)) cs) w=.go (Go.Conc.G (ar b (put op t (ptr w.heap.size 0)) (.inRegion ops rest::k)) cs) (w.alloc (.cells z.cells ty (0,0))) #[]:=by
  have e:execOp (bs t) op=(do pure (.value (<-Instr.alloc ty true (.tuple #[])))):=by unfold execOp;rw[Ν]
  rw[gA bS.run bS.ro,gA bS.run bS.ro,<-uD];have μ:(execOp (⟨t,b.defers⟩:_root_.Go.Act).eval op).run P w=.ok (.value (ptr w.heap.size 0)) (w.alloc (.cells z.cells ty (0,0))):=by rw[lY,e];simp[r1,Result.andThen]
  have he:(execOp (⟨t,b.defers⟩:_root_.Go.Act).eval op).events P w #[]=#[]:=by rw[lY,e];simp[r1,r2,Result.evThen]
  rw[stepG_value bS.op hw bS.kd μ];unfold listed;rw[he,seen_none]
 rw[zy];have hu:=(dF.start Φ).row z.cells ty;have A8:Α.fresh H w.heap.size:=Φ.fresh;have jZ:Sub H (H.dv w.heap.size z.cells ty):=by
  refine⟨λΧ o v p hb=>⟨p,?_,id⟩,λΧ x hb=>?_,λΧ x hb=>hb⟩
  ·have:Χ≠w.heap.size:=λe=>by rw[e,A8.1 o] at hb;cases hb
   simpa[Α.dv,this] using hb
  ·have:Χ≠w.heap.size:=λe=>by rw[e,A8.2.1] at hb;cases hb
   simpa[Α.dv,this] using hb
 have aD:∀Χ v,y.aF Χ=some v->Χ<w.heap.size:=λΧ v hb=>by
  have:=hv Χ v.1 v.2 hb;exact(Array.getElem?_eq_some_iff.1 this).1
 refine⟨H,upd y.aF w.heap.size (some (z.cells,ty)),⟨rfl,rfl⟩,hu.keeps,jZ.fits hu.fit,λΧ c' t' hb=>?_,⟨λΧ o v p hb=>.inr ⟨v,p,hb,id⟩,λΧ hb=>.inr hb⟩,λΧ c' hb=>?_,λe he=>by simp at he,λΧ c' _ _ e he=>by simp at he,h _ A8 aD⟩
 ·by_cases e:Χ=w.heap.size
  ·subst e;rw[upd_same] at hb;cases hb;exact Ct
  ·rw[upd_ne _ _ e] at hb;have J:=hv Χ c' t' hb;have γ:=aD Χ _ hb;show(w.heap.push _)[Χ]?=_;rw[Array.getElem?_push_lt γ];rw[e7 γ] at J;exact J
 ·by_cases e:Χ=w.heap.size
  ·exact .inr ⟨Nat.le_of_eq e.symm,⟨λo ⟨x,U⟩=>(by rw[e,A8.1 o] at U;cases U),λ⟨x,U⟩=>(by rw[e,A8.2.2.1] at U;cases U)⟩⟩
  ·rw[upd_ne _ _ e] at hb;exact .inl hb
theorem cω {B:Type} {s:Nat}:upd (λ_=>(none:Option B)) s none=λ_=>none:=by
 funext i
 by_cases e:i=s
 ·subst e;exact upd_same ..
 ·exact upd_ne _ _ e
theorem cn.group {sp:Spec} {s m o:Nat} {ty JG A9:TypeId} {c:Array Value} (dZ:y.rel=false) (fE:y.aF=λ_=>none) (si:m<s) (JH:s<o) (fi:sp.aT=some m) (xM:H.fresh o) (dg:sp.aH [] (Α.empty.dv o c A9))
  (h:cn P Q mn {y with tok:=upd y.tok s (.par 0 0 .add),spec:=upd y.spec s (some sp),view:=upd y.view s none} f cs H) :
  cn P Q mn {y with aF:=upd (upd (upd y.aF m (some (#[.int .i32 0,.int .u32 0],JG))) s (some (#[.int .u64 0,.int .u32 0],ty))) o (some (c,A9))} f cs H:=by
 have hD:s≠o:=Nat.ne_of_lt JH
 have fV:m≠o:=by omega
 have Ck:m≠s:=Nat.ne_of_lt si;refine Goes.step (eL.ok (.inl dZ)) (.inr ⟨⟨rfl,rfl⟩,.inr (.inr (.inr (.inr (.inr (.inr (.inr (.inr (.inr (.inr (.inl ⟨o,c,A9,upd_same ..,?_⟩))))))))))⟩);refine Goes.step (eL.ok (.inl dZ)) (.inr ⟨⟨rfl,rfl⟩,.inr (.inr (.inr (.inr (.inr (.inr (.inr (.inr (.inr (.inr (.inr ⟨s,sp,ty,H,Α.empty.dv o c A9,?_,λb0 da=>?_,dZ,?_,λ_=>dg,?_⟩))))))))))⟩)
 ·show upd (upd _ o _) o none s=_;rw[upd_ne _ _ hD,upd_ne _ _ hD,upd_same]
 ·rw[fi] at da;cases da;refine⟨Ck,JG,?_⟩;show upd (upd _ o _) o none m=_;rw[upd_ne _ _ fV,upd_ne _ _ fV,upd_ne _ _ Ck,upd_same]
 ·refine⟨⟨λΧ q v p hb=>⟨p,?_,id⟩,λΧ x hb=>?_,λΧ x hb=>hb⟩,⟨λΧ q v p hb=>⟨p,?_,id⟩,λΧ x hb=>?_,λΧ x hb=>(by cases hb)⟩,⟨λΧ q ⟨v,hv⟩ ⟨x,U⟩=>?_,λΧ q ⟨v,hv⟩ ⟨x,U⟩=>?_,λΧ _ ⟨x,U⟩=>(by cases U)⟩⟩
  ·have:Χ≠o:=λe=>by rw[e,xM.1 q] at hb;cases hb
   simpa[this] using hb
  ·have:Χ≠o:=λe=>by rw[e,xM.2.1] at hb;cases hb
   simpa[this] using hb
  ·by_cases e:Χ=o
   ·simpa[Α.dv,e] using hb
   ·simp[Α.dv,e,Α.empty] at hb
  ·by_cases e:Χ=o
   ·simpa[Α.dv,e] using hb
   ·simp[Α.dv,e,Α.empty] at hb
  ·by_cases e:Χ=o
   ·rw[e,xM.1 q] at hv;cases hv
   ·simp[Α.dv,e,Α.empty] at U
  ·by_cases e:Χ=o
   ·rw[e,xM.1 q] at U;cases U
   ·simp[Α.dv,e,Α.empty] at hv
 ·have e:(λΧ=>if Χ=s\/sp.aT=some Χ then none else upd (upd (upd (upd y.aF m (some (#[.int .i32 0,.int .u32 0],JG))) s (some (#[.int .u64 0,.int .u32 0],ty))) o (some (c,A9))) o none Χ)=y.aF:=by
   funext Χ
   rw[fE];by_cases Ζ:Χ=s\/sp.aT=some Χ
   ·rw[if_pos Ζ]
   ·rw[if_neg Ζ];rw[fi] at Ζ;have Ε:Χ≠s:=λe=>Ζ (.inl e);have aY:Χ≠m:=λe=>Ζ (.inr (by rw[e]));by_cases cy:Χ=o
    ·rw[cy,upd_same]
    ·rw[upd_ne _ _ cy,upd_ne _ _ cy,upd_ne _ _ Ε,upd_ne _ _ aY]
  have cJ:Goes P Q mn (Go.Conc.G f cs) {y with G:=H,aF:=y.aF,tok:=upd y.tok s (.par 0 0 .add),spec:=upd y.spec s (some sp),view:=upd y.view s none}:=h;rw[<-e] at cJ;exact cJ
theorem cn.GV {s n p:Nat} {sp:Spec} {g:FuncId} {mT:Array Value} (dZ:y.rel=false) (tM:y.deaf=0) (bU:y.spec s=some sp) (Ο:y.tok s=.par n (p+1) .add) (bS:mU b ops i op) (Υ:op.guard=none) {fo:Operand} {dS:Array TypeId} (Ν:op.op=.go ⟨.value fo,#[],dS⟩) (rf:op.dst=none)
  (hv:bs t fo=.func (.func g) #[] mT) {S:aB} (Β:Holds S [] [] H) (J:cn P Q mn {y with tok:=upd y.tok s (.par n p .add),view:=upd y.view s none} (ar b t (.inRegion ops rest::k)) cs (rL S H))
  (γ:Goes P Q false (born P ⟨.fn (.func g) mT,#[]⟩) {bw (l4 s sp) s (.ch (n-(p+1)) .idle .work) none 0 with G:=m2 S}):cn P Q mn y (ar b t (.inRegion ops (i::rest)::k)) cs H:=by
 have hw:Region.wanted op (yielded ops t)=true:=by unfold Region.wanted;rw[Υ]
 have zy:∀w,stepG P mn (Go.Conc.G (ar b t (.inRegion ops (i::rest)::k)) cs) w=.spawn (Go.Conc.G (ar b t (.inRegion ops rest::k)) cs) (born P ⟨.fn (.func g) mT,#[]⟩) w #[]:=λw=>by
  have e:execOp (bs t) op=(do pure (.spawn (<-Deferred.ofValue (bs t fo) (#[].map (bs t))))):=by unfold execOp;rw[Ν];rfl
  rw[gA bS.run bS.ro,gA bS.run bS.ro];have μ:(execOp (⟨t,b.defers⟩:_root_.Go.Act).eval op).run P w=.ok (.spawn ⟨.fn (.func g) mT,#[]⟩) w:=by rw[lY,e,hv];simp[Deferred.ofValue,Result.andThen]
  have he:(execOp (⟨t,b.defers⟩:_root_.Go.Act).eval op).events P w #[]=#[]:=by rw[lY,e,hv];simp[Deferred.ofValue,Result.andThen,Result.evThen]
  rw[stepG_spawn (a:=⟨t,b.defers⟩) bS.op hw bS.kd μ rfl];have:(⟨t,b.defers⟩:_root_.Go.Act).put op.dst undef=⟨t,b.defers⟩:=by rw[rf];rfl
  rw[this];unfold listed;rw[he,seen_none]
 refine Goes.step (eL.ok (.inl dZ)) (.inr ⟨⟨rfl,rfl⟩,.inr (.inr (.inr (.inr (.inr (.inr (.inr (.inr (.inl ⟨s,sp,n,p,Go.Conc.G (ar b t (.inRegion ops rest::k)) cs,born P ⟨.fn (.func g) mT,#[]⟩,rL S H,m2 S,bU,Ο,tM,⟨rfl,rfl⟩,⟨rfl,rfl⟩,dZ,λw _=>zy w,aΧ Β,J,?_⟩))))))))⟩);have e:({bw (l4 s sp) s (.ch (n-(p+1)) .idle .work) none 0 with G:=m2 S}:aV)=⟨m2 S,λ_=>none,upd (λ_=>.nil) s (.ch (n-(p+1)) .idle .work),upd (λ_=>none) s (some sp),λ_=>none,0,false⟩:=by
  unfold bw;simp only[cω]
 rw[<-e];exact γ
end
end Go.TL
namespace Go.TL
open Go.Conc Go.Proofs
open Go.ConcN (sumTo upd sumTo_upd upd_ne upd_same sumTo_congr le_sumTo)
noncomputable def yq:Code:=Tryz.f116.body.getD .skip
noncomputable def Qp:Code:=dC [1,1,1,1,0,1,0,0,1,1,0,0,1,1,0,0,1,1,0,0,1] yq
noncomputable abbrev E8 (vs:Array Value):Frame:=Frame.enter Tryz.prog 116 vs .normal
abbrev env0 (s m o:Nat) (dV:aL) (rest:aa):aa:=(5,.z (ptr o 0))::(4,.z (ptr s 0))::(3,.z (ptr m 0))::(1,.Ψ [aO dV.ae,aI dV.ai,bf dV.cells])::rest
abbrev yr (s m o:Nat) (dV:aL) (a b:Int) (rest:aa):aa:=(7,.Ψ [R b])::(6,.Ψ [R a])::env0 s m o dV rest
structure E9 (dV:aL) (fd:Nat->Option Found) (pr:Nat->Int×Int) (F:Nat->Found) (N:Nat->Nat):Prop where
 look:∀k,k<3->∀c:bm,@ay c Tryz.prog 143 [eV dV,az (pr k)] (c7 (F k))
 many:∀k,k<3->∀c:bm,@ay c Tryz.prog 78 [c7 (F k),R (-1)] (R (N k))
 fd:∀k,fd k=if k<3/\0<N k then some (F k) else none
theorem E9.rv {dV:aL} {fd:Nat->Option Found} {pr:Nat->Int×Int} {F:Nat->Found} {N:Nat->Nat} (h:E9 dV fd pr F N) (L:List Nat) (Η:L.Nodup):(L.filterMap fd).length<=3:=by
 have J:L.filterMap fd=(L.filter (· < 3)).filterMap fd:=by
  rw[List.filterMap_filter];congr 1
  funext k
  by_cases e:k<3
  ·simp[e]
  ·simp[e,h.fd k]
 rw[J];refine Nat.le_trans (List.length_filterMap_le ..) ?_;have γ:(L.filter (· < 3)).Nodup:=Η.filter _;exact Mn 3 _ γ λk χ=>by simpa using (List.mem_filter.1 χ).2
variable [bm]
theorem V.boxed {P:Program} {Q:Value->Prop} {mn:Bool} {z:gN} {b:Frame} {cs:List Frame} {nt:Nat} {o:Base} {k:List Item} {env:aa} {σ:List Row} {ops:Array Oper} {i:Nat} {rest:List Nat} {op:Oper}
  (U:Seq z) (hb:b.mode=.run) (cd:b.roundOf=none) (Γ:ops[i]?=some op) (Υ:op.guard=none) {ty:TypeId} {wM:Operand} (Ν:op.op=.box ty wM) {l:List θ} (ξ:aQ env wM=.aS l) (dG:l.all (θ.a7 [])=true) (bz:0<l.length)
  (h:∀(S:aB) (B:aR) (H:Α) (t:Array Value) (r:Nat) (c:Array Value),eU o.m o.S o.B o.H o.σ S B H σ->fx o.m nt S B H σ env t->H.fresh r->(∃v,(S.lay r c) r 0=some v)->b3 S (S.lay r c) B B σ σ->Ext S B H (S.lay r c) B (H.dv r c ty)->Holds (S.lay r c) B σ (H.dv r c ty)->ao (S.lay r c) B σ (.Ψ l) (ptr r 0)->
   aM P Q mn z (ar b (put op t (ptr r 0)) (.inRegion ops rest::k)) cs (H.dv r c ty)):V P Q mn z b cs nt o (.inRegion ops (i::rest)::k) env σ:=by
 intro S B H t cΑ ψ;refine .op U hb Γ (by unfold Region.wanted;rw[Υ]) (.inl cd) ?_;have e:execOp (bs t) op=(do pure (.value (<-Instr.box ty (bs t wM)))):=by unfold execOp;rw[Ν]
 have μ:=lJ ψ.cp wM;rw[ξ] at μ;rw[e];refine υ.bind' ?_;unfold Instr.box;refine υ.bind' ?_;unfold newVar newRow;have Qq:=xF (σ:=σ) dG;have cm:=(μ.cells (a:=.aS l) Qq).1;refine υ.bind' ⟨rfl,λr fa=>υ.pure' (υ.pure' (υ.pure' ?_))⟩;obtain⟨J,γ,π⟩:=ψ.holds.lay (c:=(bs t wM).cells) (t:=ty) fa;have aD:0<(bs t wM).cells.size:=by rw[cm];exact bz
 exact h S B H t r _ cΑ ψ fa ⟨(bs t wM).cells[0],by simp[aB.lay,aD]⟩ π γ J (M' π (fH.one μ Qq))
section
variable {y:aV} {Q:Value->Prop} {mn:Bool} {β s m o n:Nat} {bJ:aB} {H1:Α} {fd:Nat->Option Found} {pr:Nat->Int×Int} {F:Nat->Found} {N:Nat->Nat} {sp:Spec} {dV:aL} {v:Option (Nat×aN)} {vs:Array Value} {cs:List Frame} {k:List Item} {rest:aa}
theorem JI {a b:Int} (gL:pr n=(a,b)) (ζ:l3 y s sp) (fi:sp.aT=some m) (dg:sp.aH=wI β bJ o fd) (dQ:∀k,sp.D k Α.empty) (gB:sp.top=3) (Η:n<3) (dA:E9 dV fd pr F N) (oi:∃q v,bJ β q=some v) (nF:∃q x,H1.aG β q=some x) (μ:∀p∈rest,p.1∉[16,15,7,6,5,4,3,1]/\a3 rest p.1=p.2)
  (χ:V Tryz.prog Q mn (one (bw y s (.par (n+1) 0 .add) none 0)) (E8 vs) cs 23 ⟨bJ,[],H1,[],0⟩ k ((6,.Ψ [R a])::env0 s m o dV rest) []) :
  V Tryz.prog Q mn (one (bw y s (.par n 0 .add) v 0)) (E8 vs) cs 23 ⟨bJ,[],H1,[],0⟩ (.code Qp::k) (yr s m o dV a b rest) []:=by
 letI:bm:=ep;obtain rfl:a=(pr n).1:=by rw[gL]
 obtain rfl:b=(pr n).2:=by rw[gL]
 have U:=ζ.seq;refine V.bh (U _ _ _) rfl ?_;simp only[Qp,yq,Tryz.f116,Option.getD_some,dC]
 repeat first|apply aZ|apply wb|apply a2|apply wd
 refine W.cj (.stop ?_);refine V.call (U _ _ _) ⟨rfl,rfl,by simp[Frame.enter],rfl⟩ rfl rfl rfl ⟨_,Tryz.func140,rfl,rfl⟩ λS B H t pf ξ ψ hv=>?_;obtain rfl:=mV (l:=[ptr s 0,.int .i64 1]) hv;obtain rfl:B=[]:=dp.1 ψ.holds.len;rintro lL rfl;refine aι ζ (by omega) ψ.holds λv2 cT bN lQ iU=>?_;rw[h' rfl];have sV:b3 S cT [] [] [] []:=⟨lQ.dd,λid r h=>by simp at h⟩;refine V.here (x:=one _) (m:=0) (nt:=23) (S:=cT) (B:=[]) (σ:=[]) (env:=(15,.z (.tuple #[]))::yr s m o dV (pr n).1 (pr n).2 rest) ?_ ⟨iU,de.later (de.put ψ.cp (d:=15) (by rw[ψ.size];omega) (.z (.tuple #[]))) sV,Eq.trans (Array.size_setIfInBounds ..) ψ.size,Nat.zero_le _⟩ _ rfl;refine V.bh (U _ _ _) rfl ?_;refine W.bF ?_;refine W.cj ?_;refine W.part (A:=[]) Ι [0] [1] rfl λη I=>?_;(try simp);(repeat (rw[δ];simp));apply I;refine W.stop ?_;intro kA kB jb t3 gI eW;obtain rfl:kB=[]:=dp.1 eW.holds.len;rintro lL rfl;have bV:=eW.cp 16;simp only[a3,if_true] at bV;obtain⟨an,AZ⟩:∃an,an=t3.getD 16 undef:=⟨_,rfl⟩;rw[<-AZ] at bV;have JJ:eU 0 bJ [] H1 [] kA [] jb []:=ξ.trans ((eU.of lQ sV).trans gI);cases bV with
 | fn w1 w2 Τ af aX cr=>
  have Ζ:w1=#[]:=Array.eq_empty_of_size_eq_zero (by rw[<-Τ];rfl);subst Ζ;obtain⟨l2⟩:=w2
  match l2,af with
  | [Qr,pT,kO,Cz,cΒ,cΓ],_=>
   have uM:Qr=ptr s 0:=by have:=cr 0 _ _ rfl rfl;cases this;rfl
   have cΔ:cΒ=ptr m 0:=by have:=cr 4 _ _ rfl rfl;cases this;rfl
   have cΕ:cΓ=ptr o 0:=by have:=cr 5 _ _ rfl rfl;cases this;rfl
   subst uM;subst cΔ;subst cΕ;have Jt:fy kA [] [] (Jp s m o dV (pr n).1 (pr n).2) (EU s m o pT kO Cz):=⟨rfl,λi a v J γ=>cr i a v J γ⟩;refine cn.GV (s:=s) (n:=n+1) (p:=0) (sp:=sp) ζ.rel rfl ζ.spec b2 ⟨rfl,rfl,by simp[Frame.enter],rfl⟩ rfl rfl rfl AZ.symm (S:=kA) eW.holds ?_ ?_
   ·rw[gT];have ο:=bα eW.holds;have cΖ:∀g:θ,∀p∈(6,.Ψ [R (pr n).1])::env0 s m o dV rest,a3 ((16,g)::(15,.z (.tuple #[]))::yr s m o dV (pr n).1 (pr n).2 rest) p.1=p.2:=λg p ψ=>by
     simp only[env0,List.mem_cons] at ψ;rcases ψ with rfl|rfl|rfl|rfl|rfl|ψ<;>first|rfl|skip
     obtain⟨J,γ⟩:=μ p ψ;simp only[List.mem_cons,List.not_mem_nil,or_false,not_or] at J;obtain⟨c1,c2,c3,c4,nq,sD,rb,cΗ⟩:=J;simp only[a3,Ne.symm c1,Ne.symm c2,Ne.symm c3,Ne.symm c4,Ne.symm nq,Ne.symm sD,Ne.symm rb,Ne.symm cΗ,if_false];exact γ
    refine V.bh (U (.par (n+1) 0 .add) none 0) rfl (W.bF (W.forget ((6,.Ψ [R (pr n).1])::env0 s m o dV rest) (cΖ _) (.stop χ))) kA [] _ t3 (JJ.trans (eU.of ο (b3.refl ..))) ⟨aΨ eW.holds,eW.cp,eW.size,Nat.zero_le _⟩ _ rfl
   ·refine bπ fi (by omega) dg (dQ _) (dA.look n Η) (dA.many n Η) ?_ (λL aC=>?_) ?_ (λb q u hu=>?_) Jt
    ·show fd n=_;rw[dA.fd n];simp[Η]
    ·rw[List.length_map];have:=dA.rv L aC;omega
    ·obtain⟨q,u,hu⟩:=oi;exact⟨q,u,JJ.ext.dd _ _ _ hu⟩
    ·obtain⟨h9,Qr,EX⟩:=nF;rcases JJ.ext.q3 b q u hu with h|⟨N,h⟩|h
     ·exact .inl (by rw[h];simp)
     ·simp at h
     ·exact .inr (Jm EX h)
end
end Go.TL
namespace Go.TL
open Go.Conc Go.Proofs
open Go.ConcN (sumTo upd sumTo_upd upd_ne upd_same sumTo_congr le_sumTo)
structure Calm (y:aV):Prop where
 rel:y.rel=false
 aF:y.aF=λ_=>none
 deaf:y.deaf=0
 shut:∀s,fU (y.tok s)
def calm:gN:=Calm
@[reducible] def oy:bm:=⟨λx=>x=calm⟩
variable [bm]
def tc (x y:Found):Int:=nB (x.u,x.v) (y.u,y.v)
def oz (x y:Found):Prop:=x.u<y.u\/(x.u=y.u/\x.v<y.v)
theorem cΘ (x y:Found):av tc x y=true↔oz x y:=by
 have h:=s0 (x.u,x.v) (y.u,y.v)
 have e:av tc x y=av nB (x.u,x.v) (y.u,y.v):=rfl;rw[e,h];simp[oz]
theorem cΙ:Go.Sort.SWO (av tc) where
 irrefl x:=x5.irrefl (x.u,x.v)
 trans x y z:=x5.trans (x.u,x.v) (y.u,y.v) (z.u,z.v)
 ntrans x y z:=x5.ntrans (x.u,x.v) (y.u,y.v) (z.u,z.v)
instance:Inhabited Found:=⟨⟨0,0,[]⟩⟩
theorem cΚ {m:List Found} (h:m.Pairwise oz):∀a∈m,∀b∈m,¬oz a b->¬oz b a->a=b:=by
 induction h with
 | nil=>intro a ξ;cases ξ
 | cons J γ Δ=>
  intro a ξ b hb π Μ;rcases List.mem_cons.1 ξ with jG|dO<;>rcases List.mem_cons.1 hb with iz|db
  ·rw[jG,iz]
  ·exact absurd (jG▸J b db) π
  ·exact absurd (iz▸J a dO) Μ
  ·exact Δ a dO b db π Μ
theorem cΜ {l m:List Found} (ψ:l.Perm m) (hm:m.Pairwise oz):(Go.Sort.insertionSort (av tc) l.toArray 0 l.length).toList=m:=by
 obtain⟨⟨cm,_,JK⟩,γ⟩:=Go.Sort.insertionSort_holds (lt:=av tc) cΙ l.toArray 0 l.length (Nat.zero_le _) (by simp);generalize Go.Sort.insertionSort (av tc) l.toArray 0 l.length=d at cm JK γ;have Hj:d.size=l.length:=by simpa using cm
 have Ζ:d.extract 0 l.length=d:=by rw[<-Hj];exact Array.extract_size
 have Ε:l.toArray.extract 0 l.length=l.toArray:=by
  simp
 rw[Ζ,Ε] at JK;have Qs:d.toList.Perm m:=JK.trans ψ;have cΝ:∀x y,av tc x y=false↔¬oz x y:=λx y=>by rw[<-cΘ];simp
 refine List.Perm.eq_of_pairwise (le:=λx y=>¬oz y x) (λa b ξ hb π Μ=>?_) ?_ (hm.imp λ{a b} h k=>?_) Qs
 ·exact cΚ hm a (Qs.mem_iff.1 ξ) b hb Μ π
 ·rw[List.pairwise_iff_getElem];intro i j hi ε e0;have:=γ i j (Nat.zero_le _) e0 (by simpa[Hj] using ε);rw[cΝ] at this;rw[getElem!_pos d j (by simpa using ε),getElem!_pos d i (by simpa using hi)] at this;simpa using this
 ·simp only[oz] at h k;omega
theorem cΞ {D:Nat->Α->Prop} (dQ:∀k E,D k E->E=Α.empty):∀(L:List Nat) (E:Α),lC D L E->E=Α.empty:=by
 intro L
 induction L with
 | nil=>intro E h;exact h
 | cons k LK Δ=>
  rintro E ⟨pJ,pK,J,γ,_,rfl⟩;rw[dQ k pJ J,Δ pK γ];exact GG _
end Go.TL
namespace Go.TL
open Go.Conc Go.Proofs
open Go.ConcN (sumTo upd sumTo_upd upd_ne upd_same sumTo_congr le_sumTo)
abbrev Fa:θ:=.fn (.func 148) [] []
theorem cΟ [bm] (x y:Found):gj Tryz.prog Fa [c7 x,c7 y] (R (tc x y)):=λσ=>(XO x y).c (aK.refl _) (by simp) (by simp) ⟨rfl,rfl⟩
section
variable {y:aV} {Q:Value->Prop} {mn:Bool} {β s m o:Nat} {fb bJ:aB} {dK H1:Α} {fd:Nat->Option Found} {sp:Spec} {dV:aL} {v:Option (Nat×aN)} {vs:Array Value} {c:Frame} {cs:List Frame}
theorem cΡ (ζ:l3 y s sp) (fi:sp.aT=some m) (dg:sp.aH=wI β bJ o fd) (dQ:∀k E,sp.D k E->E=Α.empty) (JL:∀L:List Nat,L.Nodup->(L.filterMap fd).length<=3) {lf:List Found} (JM:(List.range 3).filterMap fd=lf) (uQ:lf.Pairwise oz)
  (JN:∀v,Calm (bw y s (.par 3 0 .bA) v 0)) (lO:vU Tryz.prog Q mn calm c cs fb [] dK [] (λa s=>cG a (cQ lf)/\s=[]) (λ_ _=>False)) (A1:Ext fb [] dK bJ [] H1) (A':dK.fresh β) :
  V Tryz.prog Q mn (one (bw y s (.par 3 0 .add) v 0)) (E8 vs) (c::cs) 23 ⟨bJ,[],H1,[],0⟩ [.code (dC [1,1,1,1,1] yq)] (env0 s m o dV []) []:=by
 letI:bm:=ep;have U:=ζ.seq;refine V.bh (U _ _ _) rfl ?_;simp only[yq,Tryz.f116,Option.getD_some,dC]
 repeat first|apply aZ|apply wb|apply a2|apply wd
 refine W.cj (.stop ?_);refine V.call (U _ _ _) ⟨rfl,rfl,by simp[Frame.enter],rfl⟩ rfl rfl rfl ⟨_,Tryz.func146,rfl,rfl⟩ λS B H t pf ξ ψ hv=>?_;obtain rfl:=mV (l:=[ptr s 0]) hv;obtain rfl:B=[]:=dp.1 ψ.holds.len;rintro lL rfl;refine aρ ζ ψ.holds (n:=3) λax H' gf ft gE eu he Β Mv cΤ cΥ b8 a1 bl cz hw v2 cT bN lQ=>?_;rw[h' rfl];obtain rfl:=cΞ dQ gf gE cΤ;rw[GG] at lQ;obtain⟨lG,Qt⟩:=cΥ (by rw[fi];simp);rw[dg] at Qt;obtain⟨hi,ht,rM,wK,e'⟩:=Qt;obtain⟨w,f1,f2,f3⟩:=hw;obtain⟨G,cU⟩:∃G,G=ft.filterMap fd:=⟨_,rfl⟩;have JO:G.Perm lf:=by rw[cU,<-JM];exact lG.filterMap _
 have lΥ:G.length<=3:=by rw[cU];exact JL ft (lG.nodup_iff.2 List.nodup_range)
 rw[<-cU] at wK;obtain⟨Jr,l1,l2⟩:=PW Β wK bl ⟨w,f1,f3⟩ (ET _);have gn:=bδ (A1.trans (ξ.ext.trans he)) (ξ.ext.trans he).dd A' hi Β wK (ET _);obtain⟨eR,ew⟩:=Jr.su (λb hb=>lQ.su hb) lQ.grow;have qB:=gn.trans ew;have aA:t.getD 5 undef=ptr o 0:=by
  have:=ψ.cp 5;simp only[a3] at this;generalize t.getD 5 undef=u at this;cases this;rfl
 have ru:de (ax.plus ht) rM (gC (G.map c7)) [(5,.al 0 1 0 0)] (t.setIfInBounds 19 (.tuple #[])):=λi=>by
  simp only[a3];split
  ·rename_i e;subst e;have eZ:(t.setIfInBounds 19 (.tuple #[])).getD 5 undef=ptr o 0:=by
    rw[<-aA,Array.getD_eq_getD_getElem?,Array.getD_eq_getD_getElem?,Array.getElem?_setIfInBounds_ne (by decide)]
   rw[eZ];have:=ao.al (S:=ax.plus ht) (B:=rM) (σ:=gC (G.map c7)) (id:=0) (n:=1) (i:=0) (j:=0) (k:=1) (t:=99) (l:=[ta (G.map c7)]) (b:=o) (N:=1) (by simp[gC]) rfl e';simpa using this
  ·exact .cg _
 refine V.here (x:=one _) (m:=0) (nt:=23) (S:=ax.plus ht) (B:=rM) (σ:=gC (G.map c7)) (env:=[(5,.al 0 1 0 0)]) ?_ ⟨eR,ru,Eq.trans (Array.size_setIfInBounds ..) ψ.size,Nat.zero_le _⟩ _ rfl;have fin:∀(e:Bool) (k:Nat),cG (.sl e k (lf.map c7)) (cQ lf)->V Tryz.prog Q mn (one (bw y s (.par 3 0 .bA) v2 0)) (E8 vs) (c::cs) 23 ⟨ax.plus ht,rM,bN,gC (G.map c7),0⟩ [.code .ret] [(2,.sl e k (lf.map c7))] []:=λe k cΦ=>by
  intro ik jK hI t5 kl lb;obtain rfl:jK=[]:=dp.1 lb.holds.len;refine aM.ret (U _ _ _) rfl rfl (aM.back (U _ _ _) rfl rfl (.inl rfl) Tryz.func116 ?_);refine υ.mono (λu I9 ⟨I8,cΧ,lA,BP,bc,Gd⟩=>?_) (λ_ _ h=>h) _ (DC Ι (a:=.sl e k (lf.map c7)) rfl lb.holds lb.cp);obtain rfl:cΧ=[]:=dp.1 bc.len;rintro lL rfl;have EG:=qB.trans (kl.ext.trans lA);exact lO.ret _ [] I8 [] I9 u ⟨cΦ,rfl⟩ EG ⟨EG.dd,λid r h=>by simp at h⟩ bc Gd _ (JN _)
 refine V.bh (U _ _ _) rfl ?_;refine W.bF ?_;have o0:∀e∈G.map c7,∀a∈e.cells,au 0 a:=λe he a ξ=>by
  obtain⟨z,_,rfl⟩:=List.mem_map.1 he;exact x0 z a ξ
 by_cases Θ:G=[]
 ·subst Θ;have cΨ:lf=[]:=JO.symm.eq_nil;subst cΨ;(repeat (first|apply aZ|apply wb|apply a2|apply wd));refine ν λη I=>?_;simp;(repeat (rw[δ];simp[gC,Jo,iJ]));refine ay.c (YB Fa (by simp)) (aK.refl _) (by simp) (by simp) ?_;simp;(repeat (rw[δ];simp));apply I;(repeat (first|apply aZ|apply wb|apply a2|apply wd));refine ν λη I=>?_;simp;(repeat (rw[δ];simp));apply I;refine W.cut 0 (Nat.zero_le _) [(2,.sl true 0 [])] (Nat.zero_le _) (λid r h=>by omega) (by simp;exact .low (by simp)) ?_;exact .stop (fin _ _ .nil)
 ·have jY:G.map c7≠[]:=by simpa using Θ
  have ο:=cΜ JO uQ;(repeat (first|apply aZ|apply wb|apply a2|apply wd));refine ν λη I=>?_;simp;(repeat (rw[δ];simp[gC,ES jY,dY jY]));have Qu:=XW G.toArray G.length (by simp) (by omega) Fa tc (by simp) cΟ;rw[ο] at Qu;have hlen:lf.length=G.length:=JO.length_eq.symm;have bV:au 0 Fa:=by simp
  have Qv:∀e∈lf.map c7,∀a∈e.cells,au 0 a:=λe he a ξ=>by
   obtain⟨z,_,rfl⟩:=List.mem_map.1 he;exact x0 z a ξ
  refine ak.one Qu 1 rfl o0 Qv (by simp[nC,v',bV.ih 1]) (by simp[ga]) (by simp[nD,od,bV.dM [1]]) ?_;simp[dM,hH];(repeat (rw[δ];simp));apply I;(repeat (first|apply aZ|apply wb|apply a2|apply wd));refine ν λη I=>?_;simp;(repeat (rw[δ];simp));apply I;refine W.cut 0 (Nat.zero_le _) [(2,.sl false 3 (lf.map c7))] (Nat.zero_le _) (λid r h=>by omega) (λp ψ=>?_) ?_
  ·obtain rfl:p=(2,.sl false 3 (lf.map c7)):=by simpa using ψ
   refine ed.own (id:=1) (t:=110) (Nat.zero_le _) rfl (by simp[hlen]) Qv
  ·exact .stop (fin _ _ (.refl _))
end
theorem JP {P:Program} {ty:TypeId} {z:Value} (h:((P.info? ty).bind (·.zero))=some z):∃inf,P.info? ty=some inf/\inf.zero=some z:=by
 cases hi:P.info? ty with
 | none=>rw[hi] at h;cases h
 | some inf=>rw[hi] at h;exact⟨inf,rfl,h⟩
theorem cΩ:((Tryz.prog.info? 173).bind (·.zero))=some (.agg #[.int .i32 0,.int .u32 0]):=by kernel_rfl
theorem dα:((Tryz.prog.info? 179).bind (·.zero))=some (.agg #[.int .u64 0,.int .u32 0]):=by kernel_rfl
theorem dβ:((Tryz.prog.info? 99).bind (·.zero))=some (.slice none 0 0):=by kernel_rfl
theorem dγ {o:Nat}:Holds e6 [some (o,1)] (gC []) (Α.empty.dv o #[.slice none 0 0] 99):=by
 have ag:Holds e6 [] [] Α.empty:=yh _
 have ω:fH e6 [] [] #[.slice none 0 0] 1 [.sl true 0 []]:=fH.one (a:=.sl true 0 []) (v:=.slice none 0 0) (.iA none 0 λ_=>rfl) rfl;exact(zI (P:=Tryz.prog) (K:=λr G=>Holds e6 [some (r,1)] (gC []) G) (E:=λ_ _=>False) ag ω 99 λr _ J _ _=>J).2 o ⟨λ_=>rfl,rfl,rfl,λ_ _=>⟨λ_=>rfl,rfl,rfl⟩⟩
section
variable {fd:Nat->Option Found} {pr:Nat->Int×Int} {F:Nat->Found} {N:Nat->Nat} {dV:aL} {lf:List Found}
theorem dδ (dA:E9 dV fd pr F N) (fs:pr 0=(1,0)) (dH:pr 1=(2,0)) (p2:pr 2=(2,1)) (JM:(List.range 3).filterMap fd=lf) (uQ:lf.Pairwise oz):@ay oy Tryz.prog 116 [eV dV] (cQ lf):=by
 refine⟨⟨_,Tryz.func116,rfl,rfl⟩,λQ mn x c rest fb ek dK vs uM sk Jz lO=>?_⟩;obtain rfl:x=calm:=@Seq.cls oy x uM;obtain rfl:ek=[]:=dp.1 sk.len;rintro y ⟨dZ,fE,tM,cH⟩;letI:bm:=ep;have U:Seq (one y):=Seq.uE trivial dZ fE;rw[qj (body:=yq) Tryz.func116 rfl];refine V.here (x:=one y) (m:=0) (nt:=23) (S:=fb) (B:=[]) (H:=dK) (σ:=[]) (env:=entry 0 [eV dV]) ?_ (fx.enter sk Jz (Nat.le_refl _) (by simp)) y rfl;refine V.bh U rfl ?_;simp only[yq,Tryz.f116,Option.getD_some]
 repeat first|apply aZ|apply wb|apply a2|apply wd
 refine W.cj (.stop ?_);refine V.boxed U rfl rfl rfl rfl rfl (l:=[aO dV.ae,aI dV.ai,bf dV.cells]) rfl rfl (by simp) λS B H t β c1 ξ ψ ni dε ω he dζ JB=>?_;obtain rfl:B=[]:=dp.1 ψ.holds.len;refine V.here (x:=one y) (m:=0) (nt:=23) (S:=S.lay β c1) (B:=[]) (σ:=[]) (env:=[(1,.Ψ [aO dV.ae,aI dV.ai,bf dV.cells])]) ?_
  ⟨dζ,wL (de.put (ψ.cp.later ω) (d:=1) (by rw[ψ.size];omega) JB) (by simp),Eq.trans (Array.size_setIfInBounds ..) ψ.size,Nat.zero_le _⟩
 refine V.bh U rfl ?_;refine W.part (A:=[]) Ι [1] [] rfl λη I=>?_;(try simp);(repeat (rw[δ];simp));apply I;refine W.bF ?_
 repeat first|apply aZ|apply wb|apply a2|apply wd
 refine W.cj (.stop ?_);intro cT e3 bN t2 nF mO;obtain rfl:e3=[]:=dp.1 mO.holds.len;rintro lL rfl;obtain⟨i1,Τ,af⟩:=JP cΩ;obtain⟨i2,aX,cr⟩:=JP dα;obtain⟨i3,gH,ib⟩:=JP dβ;refine cn.JF dZ ⟨rfl,rfl,by simp[Frame.enter],rfl⟩ rfl rfl Τ af λm hX _=>?_;refine cn.next ?_ ?_ ?_
 ·exact .inl dZ
 ·rfl
 refine cn.JF ?_ ⟨rfl,rfl,by simp[Frame.enter],rfl⟩ rfl rfl aX cr λs rJ dP=>?_
 ·exact dZ
 refine cn.next ?_ ?_ ?_
 ·exact .inl dZ
 ·rfl
 refine cn.JF ?_ ⟨rfl,rfl,by simp[Frame.enter],rfl⟩ rfl rfl gH ib λo wN vA=>?_
 ·exact dZ
 have si:m<s:=dP m _ (upd_same ..)
 have JH:s<o:=vA s _ (upd_same ..);obtain⟨sp,bU⟩:∃sp:Spec,sp=⟨some m,wI β cT o fd,λ_ E=>E=Α.empty,3⟩:=⟨_,rfl⟩;have Fb:∃q v,cT β q=some v:=let ⟨u,hu⟩:=dε;⟨0,u,nF.ext.dd _ _ _ hu⟩;have n4:∃q x,bN.aG β q=some x:=let ⟨q,u,hu⟩:=Fb;let ⟨p,ψ⟩:=mO.holds.dd _ _ _ hu;⟨q,_,ψ⟩;have Qw:β<o:=let ⟨_,_,h⟩:=n4;Jm h wN;have fi:sp.aT=some m:=by rw[bU]
 have dg:sp.aH=wI β cT o fd:=by rw[bU]
 have dQ:∀k E,sp.D k E↔E=Α.empty:=λk E=>by rw[bU]
 have gB:sp.top=3:=by rw[bU]
 clear bU;have dη:sp.aH [] (Α.empty.dv o #[.slice none 0 0] 99):=by
  rw[dg];refine⟨⟨λb q x hb=>?_,λb x hb=>?_,λb x hb=>(by cases hb)⟩,e6,_,dγ,rfl⟩
  ·by_cases e:b=o
   ·exact .inr (e▸Qw)
   ·simp[Α.dv,e,Α.empty] at hb
  ·by_cases e:b=o
   ·exact e▸Qw
   ·simp[Α.dv,e,Α.empty] at hb
 refine cn.group (y:=lL) (sp:=sp) dZ fE si JH fi wN dη ?_;obtain⟨nn,uR⟩:∃nn:aV,nn={lL with spec:=upd lL.spec s (some sp)}:=⟨_,rfl⟩;have dθ:({lL with tok:=upd lL.tok s (.par 0 0 .add),spec:=upd lL.spec s (some sp),view:=upd lL.view s none}:aV)=bw nn s (.par 0 0 .add) none 0:=by
  rw[uR];unfold bw;simp only[tM]
 rw[dθ];have Ba:l3 nn s sp:=by
  rw[uR];refine⟨dZ,fE,upd_same ..,by rw[gB];decide,λbq _=>?_⟩;have:=cH bq;show nf (lL.tok bq);cases Qx:lL.tok bq with
  | nil=>trivial
  | par n p aE=>rw[Qx] at this;cases aE<;>first|trivial|exact this.elim
  | ch k mu g=>rw[Qx] at this;exact this.elim
 have JN:∀v,Calm (bw nn s (.par 3 0 .bA) v 0):=λv=>by
  rw[uR];refine⟨dZ,fE,rfl,λbq=>?_⟩;by_cases e:bq=s
  ·subst e;rw[b2];trivial
  ·rw[AG e];exact cH bq
 have ql:=Ba.seq
 have JL:=dA.rv
 have A1:Ext fb [] dK cT [] bN:=ξ.ext.trans (he.trans nF.ext)
 have A':dK.fresh β:=ξ.ext.grow _ ni;refine V.here (x:=one _) (m:=0) (nt:=23) (S:=cT) (B:=[]) (σ:=[]) (env:=env0 s m o dV []) ?_
  ⟨mO.holds,wL (de.put (de.put (de.put mO.cp (d:=3) (by rw[mO.size];omega) (.z (ptr m 0))) (d:=4) (by rw[Array.size_setIfInBounds,mO.size];omega) (.z (ptr s 0))) (d:=5) (by rw[Array.size_setIfInBounds,Array.size_setIfInBounds,mO.size];omega) (.z (ptr o 0))) (by simp),
   Eq.trans (Array.size_setIfInBounds ..) (Eq.trans (Array.size_setIfInBounds ..) (Eq.trans (Array.size_setIfInBounds ..) mO.size)),Nat.zero_le _⟩ _ rfl
 have w1:IntKind.i64.wrap 1=1:=by decide
 have w2:IntKind.i64.wrap 2=2:=by decide
 have w3:IntKind.i64.wrap 3=3:=by decide
 refine V.bh (ql _ _ _) rfl ?_;refine W.bF ?_;(repeat (first|apply aZ|apply wb|apply a2|apply wd|refine aj rfl ?_|refine ah rfl ?_|(refine ν λη I=>?_;simp;(repeat (rw[δ];simp));apply I)));refine .loop ?_;(repeat (first|apply aZ|apply wb|apply a2|apply wd|refine aj rfl ?_|refine ah rfl ?_|(refine ν λη I=>?_;simp;(repeat (rw[δ];simp));apply I)));refine dw (A:=[6]) Ι λη I=>?_;simp;(repeat (rw[δ];simp));apply I;refine W.fix (id:=0) (σ':=[]) (Nat.zero_le _) rfl (by simp) (by simp) rfl ((6,.Ψ [R 0])::env0 s m o dV [(8,R 0)]) (by simp) ?_;(repeat (first|apply aZ|apply wb|apply a2|apply wd|refine aj rfl ?_|refine ah rfl ?_|(refine ν λη I=>?_;simp;(repeat (rw[δ];simp));apply I)));refine .loop ?_;(repeat (first|apply aZ|apply wb|apply a2|apply wd|refine aj rfl ?_|refine ah rfl ?_|(refine ν λη I=>?_;simp;(repeat (rw[δ];simp));apply I)));refine W.exit rfl ?_;(repeat (first|apply aZ|apply wb|apply a2|apply wd|refine aj rfl ?_|refine ah rfl ?_|(refine ν λη I=>?_;simp;(repeat (rw[δ];simp[w1,w2,w3]));apply I)));refine .inLoop ?_;(repeat (first|apply aZ|apply wb|apply a2|apply wd|refine aj rfl ?_|refine ah rfl ?_|(refine ν λη I=>?_;simp;(repeat (rw[δ];simp));apply I)));refine dw (A:=[6]) Ι λη I=>?_;simp;(repeat (rw[δ];simp));apply I;refine W.fix (id:=0) (σ':=[]) (Nat.zero_le _) rfl (by simp) (by simp) rfl ((6,.Ψ [R 1])::env0 s m o dV [(8,R 1)]) (by simp) ?_;(repeat (first|apply aZ|apply wb|apply a2|apply wd|refine aj rfl ?_|refine ah rfl ?_|(refine ν λη I=>?_;simp;(repeat (rw[δ];simp));apply I)));refine .loop ?_;(repeat (first|apply aZ|apply wb|apply a2|apply wd|refine aj rfl ?_|refine ah rfl ?_|(refine ν λη I=>?_;simp;(repeat (rw[δ];simp));apply I)));refine dw (A:=[7]) Ι λη I=>?_;simp;(repeat (rw[δ];simp));apply I;refine W.fix (id:=0) (σ':=[]) (Nat.zero_le _) rfl (by simp) (by simp) rfl (yr s m o dV 1 0 [(8,R 1),(11,R 1),(12,R 0)]) (by simp) ?_;refine W.stop (JI fs Ba fi dg (λk=>(dQ k _).2 rfl) gB (by decide) dA Fb n4 (by simp) ?_);refine V.bh (ql _ _ _) rfl ?_;(repeat (first|apply aZ|apply wb|apply a2|apply wd|refine aj rfl ?_|refine ah rfl ?_|(refine ν λη I=>?_;simp;(repeat (rw[δ];simp[w1,w2,w3]));apply I)));refine .inLoop ?_;(repeat (first|apply aZ|apply wb|apply a2|apply wd|refine aj rfl ?_|refine ah rfl ?_|(refine ν λη I=>?_;simp;(repeat (rw[δ];simp));apply I)));refine W.exit rfl ?_;(repeat (first|apply aZ|apply wb|apply a2|apply wd|refine aj rfl ?_|refine ah rfl ?_|(refine ν λη I=>?_;simp;(repeat (rw[δ];simp[w1,w2,w3]));apply I)));refine .inLoop ?_;(repeat (first|apply aZ|apply wb|apply a2|apply wd|refine aj rfl ?_|refine ah rfl ?_|(refine ν λη I=>?_;simp;(repeat (rw[δ];simp));apply I)));refine dw (A:=[6]) Ι λη I=>?_;simp;(repeat (rw[δ];simp));apply I;refine W.fix (id:=0) (σ':=[]) (Nat.zero_le _) rfl (by simp) (by simp) rfl ((6,.Ψ [R 2])::env0 s m o dV [(8,R 2)]) (by simp) ?_;(repeat (first|apply aZ|apply wb|apply a2|apply wd|refine aj rfl ?_|refine ah rfl ?_|(refine ν λη I=>?_;simp;(repeat (rw[δ];simp));apply I)));refine .loop ?_;(repeat (first|apply aZ|apply wb|apply a2|apply wd|refine aj rfl ?_|refine ah rfl ?_|(refine ν λη I=>?_;simp;(repeat (rw[δ];simp));apply I)));refine dw (A:=[7]) Ι λη I=>?_;simp;(repeat (rw[δ];simp));apply I;refine W.fix (id:=0) (σ':=[]) (Nat.zero_le _) rfl (by simp) (by simp) rfl (yr s m o dV 2 0 [(8,R 2),(11,R 2),(12,R 0)]) (by simp) ?_;refine W.stop (JI dH Ba fi dg (λk=>(dQ k _).2 rfl) gB (by decide) dA Fb n4 (by simp) ?_);refine V.bh (ql _ _ _) rfl ?_;(repeat (first|apply aZ|apply wb|apply a2|apply wd|refine aj rfl ?_|refine ah rfl ?_|(refine ν λη I=>?_;simp;(repeat (rw[δ];simp[w1,w2,w3]));apply I)));refine .inLoop ?_;(repeat (first|apply aZ|apply wb|apply a2|apply wd|refine aj rfl ?_|refine ah rfl ?_|(refine ν λη I=>?_;simp;(repeat (rw[δ];simp));apply I)));refine dw (A:=[7]) Ι λη I=>?_;simp;(repeat (rw[δ];simp));apply I;refine W.fix (id:=0) (σ':=[]) (Nat.zero_le _) rfl (by simp) (by simp) rfl (yr s m o dV 2 1 [(8,R 2),(11,R 2),(12,R 1)]) (by simp) ?_;refine W.stop (JI p2 Ba fi dg (λk=>(dQ k _).2 rfl) gB (by decide) dA Fb n4 (by simp) ?_);refine V.bh (ql _ _ _) rfl ?_;(repeat (first|apply aZ|apply wb|apply a2|apply wd|refine aj rfl ?_|refine ah rfl ?_|(refine ν λη I=>?_;simp;(repeat (rw[δ];simp[w1,w2,w3]));apply I)));refine .inLoop ?_;(repeat (first|apply aZ|apply wb|apply a2|apply wd|refine aj rfl ?_|refine ah rfl ?_|(refine ν λη I=>?_;simp;(repeat (rw[δ];simp));apply I)));refine W.exit rfl ?_;(repeat (first|apply aZ|apply wb|apply a2|apply wd|refine aj rfl ?_|refine ah rfl ?_|(refine ν λη I=>?_;simp;(repeat (rw[δ];simp[w1,w2,w3]));apply I)));refine .inLoop ?_;(repeat (first|apply aZ|apply wb|apply a2|apply wd|refine aj rfl ?_|refine ah rfl ?_|(refine ν λη I=>?_;simp;(repeat (rw[δ];simp));apply I)));refine W.exit rfl ?_;refine W.forget (env0 s m o dV []) (by simp) ?_;refine W.stop ?_;exact cΡ Ba fi dg (λk E=>(dQ k E).1) JL JM uQ JN lO A1 A'
end
end Go.TL
namespace Go.TL
open Go.Proofs
variable [bm]
def aL.hx (s:aL) (n:Int):Bool:=decide (n< -1)||decide ((s.ae.length:Int)<=n)
def oA (s:aL) (py pz:List Int) (cL:Int):Int×Int:=
 if s.err≠0 then(0,s.err) else
 match py,pz with
 | [i0,i1],[l0,l1]=>if j6 i0=false\/j6 i1=false\/s.hx l0=true\/s.hx l1=true\/cL<0\/(s.ai.length:Int)<=cL then(0,3) else if i0<=i1 then(0,5) else(s.di (i0,i1) (l0,l1) cL.toNat,0)
 | _,_=>(0,8)
theorem dι (s:aL) (n:Int):ay Tryz.prog 92 [R n,.Ψ [aO s.ae,aI s.ai,bf s.cells]] (a4 (s.hx n)):=by
 refine ak.body Ι Tryz.func92 rfl rfl Tryz.ntmps92 rfl rfl (by simp) ?_;by_cases h:n< -1
 ·(repeat (first|apply κ|(refine ν λη I=>?_;simp;(repeat (rw[δ];simp[h]));apply I)));refine W.ret ⟨_,rfl,?_,rfl⟩;exact .of (by simp[aL.hx,h])
 ·(repeat (first|apply κ|(refine ν λη I=>?_;simp;(repeat (rw[δ];simp[h]));apply I)));refine W.ret ⟨_,rfl,?_,rfl⟩;exact .of (by simp[aL.hx,h])
abbrev dκ (p:Int×Int):θ:=.bn [R p.1,R p.2]
theorem Fc (s:aL) (ο:s.small) (py pz:List Int) (cL:Int):ay Tryz.prog 34 [eV s,aP R 1 py,aP R 1 pz,R cL] (dκ (oA s py pz cL)):=by
 refine ak.body Ι Tryz.func34 rfl rfl Tryz.ntmps34 rfl rfl (by simp) ?_;(repeat (first|apply κ|(refine ν λη I=>?_;simp;(repeat (rw[δ];simp));apply I)));(repeat apply κ);refine ν λη I=>?_;simp;(repeat (rw[δ];simp));refine ay.c (Is s ο) (aK.refl _) (by simp) (by simp) ?_;simp;(repeat (rw[δ];simp));apply I;(repeat (first|apply κ|(refine ν λη I=>?_;simp;(repeat (rw[δ];simp));apply I)));by_cases cV:s.err=0
 case neg=>
  refine aj (by simp[cV]) ?_;(repeat (first|apply κ|(refine ν λη I=>?_;simp;(repeat (rw[δ];simp));apply I)));refine W.ret ⟨_,rfl,?_,rfl⟩;exact .of (by rw[show oA s py pz cL=(0,s.err) by unfold oA;rw[if_pos cV]];rfl)
 refine ah (by simp[cV]) ?_;(repeat (first|apply κ|(refine ν λη I=>?_;simp;(repeat (rw[δ];simp));apply I)));have hv:oA s py pz cL=match (generalizing:=false) py,pz with
   | [i0,i1],[l0,l1]=>if j6 i0=false\/j6 i1=false\/s.hx l0=true\/s.hx l1=true\/cL<0\/(s.ai.length:Int)<=cL then(0,3) else if i0<=i1 then(0,5) else(s.di (i0,i1) (l0,l1) cL.toNat,0)
   | _,_=>(0,8):=by unfold oA;rw[if_neg (by simpa using cV)]
 by_cases bG:(py.length:Int)=2
 case neg=>
  have e:oA s py pz cL=(0,8):=by
   rw[hv];split
   ·simp at bG
   ·rfl
  (repeat apply κ);refine ν λη I=>?_;simp;(repeat (rw[δ];simp[bG]));apply I;refine aj rfl ?_;(repeat (first|apply κ|(refine ν λη I=>?_;simp;(repeat (rw[δ];simp));apply I)));refine W.ret ⟨_,rfl,?_,rfl⟩;exact .of (by rw[e];rfl)
 by_cases dj:(pz.length:Int)=2
 case neg=>
  have e:oA s py pz cL=(0,8):=by
   rw[hv];split
   ·simp at dj
   ·rfl
  (repeat apply κ);refine ν λη I=>?_;simp;(repeat (rw[δ];simp[bG,dj]));apply I;refine aj rfl ?_;(repeat (first|apply κ|(refine ν λη I=>?_;simp;(repeat (rw[δ];simp));apply I)));refine W.ret ⟨_,rfl,?_,rfl⟩;exact .of (by rw[e];rfl)
 obtain⟨i0,i1,rfl⟩:∃a b,py=[a,b]:=by
  match py,bG with
  | [a,b],_=>exact⟨a,b,rfl⟩
  | [],h=>simp at h
  | [_],h=>simp at h
  | _::_::_::_,h=>simp at h;omega
 obtain⟨l0,l1,rfl⟩:∃a b,pz=[a,b]:=by
  match pz,dj with
  | [a,b],_=>exact⟨a,b,rfl⟩
  | [],h=>simp at h
  | [_],h=>simp at h
  | _::_::_::_,h=>simp at h;omega
 simp only at hv;(repeat apply κ);refine ν λη I=>?_;simp;(repeat (rw[δ];simp));apply I;refine ah rfl ?_
 repeat apply κ
 have f3:(j6 i0=false\/j6 i1=false\/s.hx l0=true\/s.hx l1=true\/cL<0\/(s.ai.length:Int)<=cL)->oA s [i0,i1] [l0,l1] cL=(0,3):=λh=>by rw[hv];exact if_pos h
 have dμ:([l0,l1].any s.hx)=(s.hx l0||s.hx l1):=by simp
 have call3:ay Tryz.prog 94 [aP R 1 [l0,l1],.fn (.func 92) [] [.Ψ [aO s.ae,aI s.ai,bf s.cells]]] (a4 (s.hx l0||s.hx l1)):=by
  rw[<-dμ];exact X0 [l0,l1] _ s.hx (by simp) (by simp[lP]) (λx _=>λ_=>(dι s x).cc (by simp;exact aK.refl _) (by simp) (by simp) ⟨rfl,rfl⟩)
 cases dD:j6 i0
 case false=>
  have aY:=f3 (.inl dD);(repeat apply κ);refine ν λη I=>?_;simp;(repeat (rw[δ];simp));refine ay.c (pa i0) (aK.refl _) (by simp) (by simp) ?_;simp[dD];(repeat (rw[δ];simp[dD]));apply I;refine aj rfl ?_;(repeat (first|apply κ|(refine ν λη I=>?_;simp;(repeat (rw[δ];simp));apply I)));refine W.ret ⟨_,rfl,?_,rfl⟩;exact .of (by rw[aY];rfl)
 cases c1:j6 i1
 case false=>
  have aY:=f3 (.inr (.inl c1));(repeat apply κ);refine ν λη I=>?_;simp;(repeat (rw[δ];simp));refine ay.c (pa i0) (aK.refl _) (by simp) (by simp) ?_;simp[dD];(repeat (rw[δ];simp[dD]));refine ay.c (pa i1) (aK.refl _) (by simp) (by simp) ?_;simp[c1];(repeat (rw[δ];simp[c1]));apply I;refine aj rfl ?_;(repeat (first|apply κ|(refine ν λη I=>?_;simp;(repeat (rw[δ];simp));apply I)));refine W.ret ⟨_,rfl,?_,rfl⟩;exact .of (by rw[aY];rfl)
 cases c2:s.hx l0||s.hx l1
 case true=>
  have aY:=f3 (.inr (.inr (by rcases Bool.or_eq_true _ _ |>.mp c2 with h|h<;>simp[h])));(repeat apply κ);refine ν λη I=>?_;simp;(repeat (rw[δ];simp));refine ay.c (pa i0) (aK.refl _) (by simp) (by simp) ?_;simp[dD];(repeat (rw[δ];simp[dD]));refine ay.c (pa i1) (aK.refl _) (by simp) (by simp) ?_;simp[c1];(repeat (rw[δ];simp[c1]));refine ay.c call3 (aK.refl _) (by simp[lP]) (by simp) ?_;simp[c2];(repeat (rw[δ];simp[c2]));apply I;refine aj rfl ?_;(repeat (first|apply κ|(refine ν λη I=>?_;simp;(repeat (rw[δ];simp));apply I)));refine W.ret ⟨_,rfl,?_,rfl⟩;exact .of (by rw[aY];rfl)
 by_cases c3:cL<0
 ·have aY:=f3 (.inr (.inr (.inr (.inr (.inl c3)))));(repeat apply κ);refine ν λη I=>?_;simp;(repeat (rw[δ];simp));refine ay.c (pa i0) (aK.refl _) (by simp) (by simp) ?_;simp[dD];(repeat (rw[δ];simp[dD]));refine ay.c (pa i1) (aK.refl _) (by simp) (by simp) ?_;simp[c1];(repeat (rw[δ];simp[c1]));refine ay.c call3 (aK.refl _) (by simp[lP]) (by simp) ?_;simp[c2,c3];(repeat (rw[δ];simp[c2,c3]));apply I;refine aj rfl ?_;(repeat (first|apply κ|(refine ν λη I=>?_;simp;(repeat (rw[δ];simp));apply I)));refine W.ret ⟨_,rfl,?_,rfl⟩;exact .of (by rw[aY];rfl)
 by_cases c4:(s.ai.length:Int)<=cL
 ·have aY:=f3 (.inr (.inr (.inr (.inr (.inr c4)))));(repeat apply κ);refine ν λη I=>?_;simp;(repeat (rw[δ];simp));refine ay.c (pa i0) (aK.refl _) (by simp) (by simp) ?_;simp[dD];(repeat (rw[δ];simp[dD]));refine ay.c (pa i1) (aK.refl _) (by simp) (by simp) ?_;simp[c1];(repeat (rw[δ];simp[c1]));refine ay.c call3 (aK.refl _) (by simp[lP]) (by simp) ?_;simp[c2,c3,c4];(repeat (rw[δ];simp[c2,c3,c4]));apply I;refine aj rfl ?_;(repeat (first|apply κ|(refine ν λη I=>?_;simp;(repeat (rw[δ];simp));apply I)));refine W.ret ⟨_,rfl,?_,rfl⟩;exact .of (by rw[aY];rfl)
 have Fe:s.hx l0=false/\s.hx l1=false:=by simpa using c2
 rw[if_neg (by rw[dD,c1,Fe.1,Fe.2];simp;omega)] at hv;(repeat apply κ);refine ν λη I=>?_;simp;(repeat (rw[δ];simp));refine ay.c (pa i0) (aK.refl _) (by simp) (by simp) ?_;simp[dD];(repeat (rw[δ];simp[dD]));refine ay.c (pa i1) (aK.refl _) (by simp) (by simp) ?_;simp[c1];(repeat (rw[δ];simp[c1]));refine ay.c call3 (aK.refl _) (by simp[lP]) (by simp) ?_;simp[c2,c3,c4];(repeat (rw[δ];simp[c2,c3,c4]));apply I;refine ah rfl ?_
 repeat apply κ
 refine W.draw (A:=[]) Ι mixed λη I=>?_;simp;(repeat (rw[ba];simp));try rw[a']
 refine⟨bK (by kernel_rfl),I _ _ ?_⟩;by_cases nq:i0<=i1
 ·rw[if_pos nq] at hv;refine aj (by simp[nq]) ?_;(repeat (first|apply κ|(refine ν λη I=>?_;simp;(repeat (rw[δ];simp));apply I)));refine W.ret ⟨_,rfl,?_,rfl⟩;exact .of (by rw[hv];rfl)
 ·rw[if_neg nq] at hv;refine ah (by simp[nq]) ?_;obtain⟨n,rfl⟩:∃n:Nat,cL=n:=⟨cL.toNat,by omega⟩;have Η:n<s.ai.length:=by omega
  have cP:l0<s.ae.length:=by have:=Fe.1;simp[aL.hx] at this;omega
  have Τ:l1<s.ae.length:=by have:=Fe.2;simp[aL.hx] at this;omega
  repeat apply κ
  refine W.draw (A:=[]) Ι mixed λη I=>?_;simp;(repeat (rw[ba];simp));try rw[a']
  refine fI (ay.p (Ae s ο (i0,i1) (l0,l1) n Η cP Τ) (aK.refl _) (by simp) (by simp)) ?_;simp;(repeat (rw[ba];simp));try rw[a']
  refine⟨bK (by kernel_rfl),I _ _ ?_⟩;(repeat (first|apply κ|(refine ν λη I=>?_;simp;(repeat (rw[δ];simp));apply I)));refine W.ret ⟨_,rfl,?_,rfl⟩;exact .of (by rw[hv];rfl)
end Go.TL
namespace Go.TL
open Go.Proofs
def cS:Nat->Int×Int
 | 0=>(1,0)
 | 1=>(2,0)
 | _=>(2,1)
def fC (s:aL) (p:Int×Int):Found:=⟨p.1,p.2,(List.range s.cells.length).map (ff s p)⟩
def g8 (s:aL) (k:Nat):Option Found:=if k<3/\0<(fC s (cS k)).many (-1) then some (fC s (cS k)) else none
def eX (s:aL):List Found:=(List.range 3).filterMap (g8 s)
structure JQ (N:Nat) (s:aL):Prop where
 small:s.small
 ae:s.ae.length<2 ^ 20
 lit:∀c∈s.cells,∀x∈c,0<=x.cL/\x.cL<s.ai.length
 reads:∀k,k<3->∀c,c<s.cells.length->(ff s (cS k) c).length<=N
 many:∀k,k<3->∀i,i<=s.cells.length->ig (fC s (cS k)).cells (-1) i<2 ^ 62
abbrev Qy (s:aL):Prop:=JQ 12 s
theorem Qz {N:Nat} (b8:N<2 ^ 20) (e5:∀c:bm,@Eh c N) {s:aL} (h:JQ N s):@sY oy s (eX s):=λ_=>by
 refine dδ (fd:=g8 s) (pr:=cS) (F:=λk=>fC s (cS k)) (N:=λk=>(fC s (cS k)).many (-1)) ⟨λk χ c=>?_,λk χ c=>?_,λk=>rfl⟩ rfl rfl rfl rfl ?_
 ·exact @YM c s h.small h.ae (cS k) h.lit N b8 (e5 c) (h.reads k χ)
 ·have ω:(fC s (cS k)).cells.length=s.cells.length:=by simp[fC]
  have:=h.small.2.2.1;exact @D' c (fC s (cS k)) (-1) (by rw[ω];omega) (λi hi=>h.many k χ i (by rw[<-ω];exact hi))
 ·have e:(List.range 3).filterMap (g8 s)=(g8 s 0).toList++(g8 s 1).toList++(g8 s 2).toList:=by
   show [0,1,2].filterMap (g8 s)=_;simp only[List.filterMap_cons,List.filterMap_nil];cases g8 s 0<;>cases g8 s 1<;>cases g8 s 2<;>rfl
  show((List.range 3).filterMap (g8 s)).Pairwise oz;rw[e];have m:∀k x,x∈(g8 s k).toList->x=fC s (cS k):=λk x U=>by
   unfold g8 at U;split at U
   ·simpa using U
   ·simp at U
  have one:∀k,((g8 s k).toList).Pairwise oz:=λk=>by cases g8 s k<;>simp
  rw[List.pairwise_append,List.pairwise_append];refine⟨⟨one 0,one 1,λa ξ b hb=>?_⟩,one 2,λa ξ b hb=>?_⟩
  ·rw[m 0 a ξ,m 1 b hb];exact .inl (show(cS 0).1<(cS 1).1 by decide)
  ·rw[m 2 b hb];rcases List.mem_append.1 ξ with ξ|ξ
   ·rw[m 0 a ξ];exact .inl (show(cS 0).1<(cS 2).1 by decide)
   ·rw[m 1 a ξ];exact .inr ⟨rfl,show(cS 1).2<(cS 2).2 by decide⟩
theorem dν {s:aL} (h:Qy s):@sY oy s (eX s):=Qz (by decide) (λc=>@YH c) h
theorem QA:Qy fg:=by
 refine⟨by unfold aL.small;decide,by decide,by decide,?_,?_⟩
 ·have:∀k<3,∀c<2,(ff fg (cS k) c).length<=12:=by decide +kernel
  exact this
 ·have:∀k<3,∀i<3,ig (fC fg (cS k)).cells (-1) i<2 ^ 62:=by decide +kernel
  exact λk χ i hi=>this k χ i (by have:i<=2:=hi;omega)
theorem QB:fg.err=0:=by decide +kernel
theorem dξ:s4 fg (eX fg)=(1,1,2,0):=by decide +kernel
theorem dο:rP fg (eX fg) 1 true=([1],0):=by decide +kernel
theorem dπ:oA fg [1,0] [1,4] 1=(12,0):=by decide +kernel
theorem dρ:kY (eX fg)=[[1,0],[2,0]]:=by decide +kernel
def ys (b:ByteArray):Int:=(b.data[0]!).toNat
theorem QC {l m:List Int} (ψ:l.Perm m) (hm:m.Pairwise λa b=>a<=b):pn l=m:=by
 have Ix:∀a b c:Int,decide (a<=b)=true->decide (b<=c)=true->decide (a<=c)=true:=λa b c h k=>by simp at *;omega
 have Iy:∀a b:Int,(decide (a<=b)||decide (b<=a))=true:=λa b=>by simp;omega
 have s1:=List.pairwise_mergeSort (le:=λx y:Int=>decide (x<=y)) Ix Iy l
 have dH:(l.mergeSort λx y:Int=>decide (x<=y)).Perm m:=(List.mergeSort_perm l _).trans ψ;exact List.Perm.eq_of_pairwise (le:=λa b:Int=>a<=b) (λa b _ _ h k=>by omega) (s1.imp λ{a b} h=>by simpa using h) hm dH
theorem QD:j' (eX fg) 0 true=[4,4]:=by decide +kernel
theorem QE:j' (eX fg) 1 true=[1,2,1,2]:=by decide +kernel
theorem dς:(spell [111,63]).toList=[111,63]:=by decide +kernel
theorem dτ:(fM fg true (eX fg)).2.2=0:=by decide +kernel
theorem dυ {l:List (List (Int×Int))} {gQ:Int} (h:∀j:Nat,((l[j]?).getD []).length<=2):∀i,ig l gQ i<=2 ^ i:=by
 intro i
 induction i with
 | zero=>simp[ig]
 | succ i Δ=>
  rw[@D9 ⟨λ_=>True⟩,Nat.pow_succ];refine Nat.mul_le_mul Δ ?_;split
  ·omega
  ·exact h i
theorem dφ:∀f∈eX fg,f.cells.length=2/\∀c∈f.cells,c.length<=2:=by decide +kernel
theorem QF:Au fg (eX fg):=by
 refine⟨by decide +kernel,by decide +kernel,?_,by decide +kernel⟩;intro f Φ;obtain⟨J,γ⟩:=dφ f Φ;refine⟨by rw[J];decide,λgQ i hi=>Nat.lt_of_le_of_lt (dυ (λj=>?_) i) ?_⟩
 ·cases ε:f.cells[j]? with
  | none=>simp
  | some c=>simpa using γ c (ck ε)
 ·have:2 ^ i<=2 ^ 2:=Nat.pow_le_pow_right (by omega) (by omega);omega
theorem QG:qo (eX fg) 0 true=[4]:=by
 unfold qo;rw[QD,QC (m:=[4,4]) (.refl _) (by decide)];decide
theorem QH:qo (eX fg) 1 true=[1,2]:=by
 unfold qo;rw[QE,QC (m:=[1,1,2,2]) (by decide) (by decide)];decide
theorem dχ:OD fg (eX fg) true ys 12:=by
 refine⟨by decide +kernel,by decide +kernel,λc ζ=>?_,λg Υ=>?_⟩
 ·have ζ:c<2:=ζ
  match c,ζ with
  | 0,_=>rw[QD,QG];decide
  | 1,_=>rw[QE,QH];decide
 ·simp only[fg,List.mem_cons,List.not_mem_nil,or_false] at Υ;rcases Υ with rfl|rfl|rfl|rfl|rfl<;>rfl
theorem dψ:po fg (eX fg) true ys 2=[111,63]:=by
 show [0,1].map (uu fg (eX fg) true ys)=_;simp only[List.map_cons,List.map_nil,uu,QG,QH];decide +kernel
theorem dω:uv fg (eX fg) true ys=(spell [111,63],0):=by
 unfold uv;rw[if_pos dτ];show(spell (po fg (eX fg) true ys 2),(0:Int))=_;rw[dψ]
theorem JR:@ay oy Tryz.prog 21 [] (a4 true):=by
 letI:bm:=oy;have ο:=QA.small;have Κ:=dν QA;refine ak.body Ι Tryz.func21 rfl rfl Tryz.ntmps21 rfl rfl (by simp) ?_;(repeat (first|apply κ|(refine ν λη I=>?_;simp;(repeat (rw[δ];simp));apply I)));(repeat apply κ);refine ν λη I=>?_;simp;(repeat (rw[δ];simp));refine ay.c (A7) (aK.refl _) (by simp) (by simp) ?_;simp;(repeat (rw[δ];simp));refine ay.c (Fc fg ο [1,0] [1,4] 1) (.cons (.refl _) (.cons .ex (.cons .ex (.cons (.refl _) .nil)))) (by simp) (by simp) ?_;rw[dπ];simp;(repeat (rw[δ];simp));apply I;(repeat apply κ);refine ν λη I=>?_;simp;(repeat (rw[δ];simp));refine ay.c (A7) (aK.refl _) (by simp) (by simp) ?_;simp;(repeat (rw[δ];simp));refine ay.c (Ym fg ο _ Κ (by decide +kernel)) (aK.refl _) (by simp) (by simp) ?_;rw[if_pos QB,QB,dρ];simp;(repeat (rw[δ];simp));apply I;(repeat apply κ);refine ν λη I=>?_;simp;(repeat (rw[δ];simp));refine ay.c (A7) (aK.refl _) (by simp) (by simp) ?_;simp;(repeat (rw[δ];simp));refine ay.c (Ys fg ο _ Κ true ys 12 (by decide) Yu dχ) (aK.refl _) (by simp) (by simp) ?_;rw[dω];simp;(repeat (rw[δ];simp));apply I;(repeat apply κ);refine ν λη I=>?_;simp;(repeat (rw[δ];simp));refine ay.c (A7) (aK.refl _) (by simp) (by simp) ?_;simp;(repeat (rw[δ];simp));refine ay.c (Y0 fg ο _ Κ QF) (aK.refl _) (by simp) (by simp) ?_;rw[dξ];simp;(repeat (rw[δ];simp));apply I;(repeat apply κ);refine ν λη I=>?_;simp;(repeat (rw[δ];simp));refine ay.c (A7) (aK.refl _) (by simp) (by simp) ?_;simp;(repeat (rw[δ];simp));refine ay.c (Qd fg ο _ Κ QF 1 true (by decide)) (aK.refl _) (by simp) (by simp) ?_;rw[dο];simp;(repeat (rw[δ];simp));apply I;(repeat apply κ);refine ν λη I=>?_;simp;(repeat (rw[δ];simp));refine ay.c (Yh 9) (aK.refl _) (by simp) (by simp) ?_;have eN:valid 9=true:=by decide +kernel
 have ej:D5 9=6:=by decide +kernel
 rw[eN,ej];simp;(repeat (rw[δ];simp));apply I;(repeat apply κ);refine ν λη I=>?_;simp;(repeat (rw[δ];simp[dς]));refine ay.c (XH [[1,0],[2,0]] [[1,0],[2,0]] (by decide) (by decide)) (.cons (.refl _) (.cons ?_ .nil)) (by simp) (by simp) ?_
 ·exact .map (l:=[[1,0],[2,0]]) (f:=λl:List Int=>.sl true 1 (l.map R)) (g:=aP R 1) λx _=>.one .ex rfl rfl
 simp;(repeat (rw[δ];simp));refine ay.c (Ij [1] [1] (by decide)) (.cons (.refl _) (.cons .ex .nil)) (by simp) (by simp) ?_;simp;(repeat (rw[δ];simp));apply I;refine W.ret ⟨_,rfl,?_,rfl⟩;exact .of (by simp)
end Go.TL
namespace Go.TL
open Go.Proofs
variable [bm]
structure cx where
 bg:List Int
 state:Int
abbrev QI (n:Int):θ:=.z (.int .u64 n)
abbrev dΑ (d:cx):θ:=.aS [aP R 1 d.bg,QI d.state]
abbrev b6 (d:cx):Row:=.cells 93 2 [dΑ d]
def Bb (d:cx):Int:=IntKind.u64.wrap (d.bg.headD 0)
def yt (d:cx):Int:=IntKind.u64.wrap (IntKind.u64.wrap (IntKind.u64.wrap (d.state+(if d.bg=[] then 0 else Bb d))+6364136223846793005)*15074714826142052245)
def te (d:cx):Int:=zF .u64 (yt d) ((yt d).fdiv (2 ^ min 29 IntKind.u64.bits))
def rQ (d:cx):Int:=(IntKind.u64.wrap (zF .u64 (te d) ((te d).fdiv (2 ^ min 33 IntKind.u64.bits))*18397679294719823053)).fdiv (2 ^ min 32 IntKind.u64.bits)
def cx.next (d:cx):cx:=⟨d.bg.tail,te d⟩
end Go.TL
