import Derived.Test.YtlabjopijpkiaaaGreatQAN
import Derived.Test.YtlabjopijpkiaaaGreatQAR
import Derived.Test.YtlabjopijpkiaaaGreatQAS
import Derived.Test.YtlabjopijpkiaaaGreatQAY
set_option maxHeartbeats 16000000
set_option maxRecDepth 20000
set_option linter.unusedSectionVars false
set_option linter.unusedSimpArgs false
set_option linter.unusedVariables false
namespace Go.TL
open Go.Conc Go.Proofs
variable [bn]
noncomputable abbrev Jg (vs:Array Value):Frame:=Frame.enter Tryz.prog 28 vs .normal
theorem aζ {s:aR} {F:List Found} {cell:Int} (h:(n6 s cell F).2.2=0):0<=cell/\cell<s.cells.length/\n6 s cell F=(s,F,0):=by
 unfold n6 at h ⊢;split at h
 ·rename_i J;simp at h;exact absurd h J
 ·split at h
  ·simp at h
  ·rename_i J γ;rw[if_neg J,if_neg γ];refine⟨by omega,by omega,?_⟩;unfold fh at h ⊢;rw[if_neg J] at h ⊢;split at h
   ·simp at h
   ·rename_i π;rw[if_neg π]
section
variable {Q:Value->Prop} {mn:Bool} {c:Frame} {rest:List Frame}
theorem aη (s:aR) (ο:s.small) (F:List Found) (gf:rj s F) (ck:Eo s F) (cell:Int) (lower:Bool) (Pw:s.ao.length<=4) :
  az Tryz.prog 28 [d' s,R cell,bA lower] (.bu [bf R 1 (uM s F cell lower).1,R (uM s F cell lower).2]):=by
 refine⟨⟨_,Tryz.func28,rfl,rfl⟩,λQ mn x c rest ee ef dh vs U oE Bb h3=>?_⟩;obtain rfl:ef=[]:=dp.1 oE.len;rw[n4 (body:=Tryz.f28.body.getD .skip) Tryz.func28 rfl];refine V.here (x:=x) (m:=0) (nt:=35) (S:=ee) (B:=[]) (H:=dh) (σ:=[]) (env:=entry 0 [d' s,R cell,bA lower]) ?_ (ff.enter oE Bb (Nat.le_refl _) (by simp));refine V.a' U rfl ?_;simp only[Tryz.f28,Option.getD_some]
 repeat apply κ
 refine c7 (A:=[6,7]) Κ λη I=>?_;simp;(repeat (rw[δ];simp));apply I;(repeat apply κ);refine c7 (A:=[8,9]) Κ λη I=>?_;simp;(repeat (rw[δ];simp));refine az.c (W4 s ο cell F gf) (aK.refl _) (by simp) (by simp) ?_;simp;(repeat (rw[δ];simp));apply I;by_cases b:(n6 s cell F).2.2=0
 case neg=>
  have e:uM s F cell lower=([],(n6 s cell F).2.2):=by unfold uM;rw[if_pos b]
  rw[e] at h3;generalize (n6 s cell F).2.2=fz at b h3 ⊢;(repeat (first|apply κ|(refine ξ λη I=>?_;simp;(repeat (rw[δ];simp));apply I)));refine al (by simp[b]) ?_;(repeat (first|apply κ|(refine ξ λη I=>?_;simp;(repeat (rw[δ];simp));apply I)));refine W.stop ?_;intro gn gP fB t5 fM hg;refine aE.ret U rfl rfl ?_;exact Pv U h3 rfl rfl rfl rfl fM.ext hg.holds hg.b6 rfl rfl rfl rfl rfl (λh=>absurd rfl h)
 obtain⟨kl,oN,e⟩:=aζ b;obtain⟨n,rfl⟩:∃n:Nat,cell=n:=⟨cell.toNat,by omega⟩;have bj:n<s.cells.length:=by omega
 have Ζ:uM s F n lower=match (iQ s.ao.length 0).find? (rl s F n lower) with|some l=>(l.map λn:Nat=>(n:Int),0)|none=>([],11):=by
  unfold uM;rw[if_neg (by simpa using b)];rfl
 rw[e];refine W.fix (id:=3) (σ':=[oc,od,.cells 98 3 [d' s]]) (Nat.zero_le _) rfl (by simp) (λid q bS Χ=>by
  match id,bS,Χ with
  | 0,_,Χ=>simp at Χ;subst Χ;simp[ek,θ.cells]
  | 1,_,Χ=>simp at Χ;subst Χ;simp[ek,θ.cells]
  | 2,_,Χ=>simp at Χ;subst Χ;simp[ek,θ.cells]) rfl [(3,.ad [aQ s.ai,aN s.ao,bl s.cells]),(4,.ad [R n]),(5,.ad [bA lower]),(6,.Ψ 0 1 0 0),(7,.Ψ 1 1 0 0),(8,.Ψ 2 1 0 0),(9,.ad [cR F]),(10,R 0)] (by simp[hM]) ?_
 refine W.fix (id:=2) (σ':=[oc,od]) (Nat.zero_le _) rfl (by simp) (λid q bS Χ=>by
  match id,bS,Χ with
  | 0,_,Χ=>simp at Χ;subst Χ;simp[ek,θ.cells]
  | 1,_,Χ=>simp at Χ;subst Χ;simp[ek,θ.cells]) rfl ((10,R 0)::yD s F n lower) (by simp[hM]) ?_
 (repeat (first|apply κ|(refine ξ λη I=>?_;simp;(repeat (rw[δ];simp));apply I)));refine aj rfl ?_;(repeat (first|apply κ|(refine ξ λη I=>?_;simp;(repeat (rw[δ];simp));apply I)));(repeat apply κ);refine ξ λη I=>?_;simp;(repeat (rw[δ];simp));refine az.c (Pu s.ao.length) (aK.refl _) (by simp) (by simp) ?_;simp;(repeat (rw[δ];simp));apply I
 repeat apply κ
 refine W.forget ((25,.fn (.func 126) [] [.ad [R s.ao.length]])::yD s F n lower) (by simp) ?_;refine W.stop ?_;intro bB bG H1 t1 lK hP;have sO:∀r∈[oc,od],wG r:=λr μ=>by
  simp only[List.mem_cons,List.not_mem_nil,or_false] at μ;rcases μ with rfl|rfl<;>exact⟨_,_,_,rfl⟩
 have bR:=hP.b6 25;simp only[a5,if_true] at bR;obtain⟨an,uN⟩:∃an,an=t1.getD 25 undef:=⟨_,rfl⟩;rw[<-uN] at bR;cases bR with
 | fn w1 kV Ρ ag aV cr=>
 have Jh:w1=#[]:=Array.eq_empty_of_size_eq_zero (by rw[<-Ρ];rfl);subst Jh;refine aE.rangeFunc U rfl rfl (fo:=.tmp 25) uN.symm ⟨_,Tryz.func126,rfl,rfl⟩ λr1 L J γ=>?_;have wM:¬bG.has r1:=hP.holds.E4 sO J;have sX:=hP.holds.aY (y:=.deferred (some [])) wM;have sY:Ext bB bG H1 bB bG (H1.aY r1 (.deferred (some []))):=Ext.E3 J;have qi:(H1.aY r1 (.deferred (some []))).obj r1=some (.deferred (some [])):=by simp[ψ.aY]
 have Ji:dh.fresh r1:=lK.ext.grow _ J
 have sZ:dh.fresh L:=lK.ext.grow _ (sY.grow _ γ);generalize aθ:H1.aY r1 (.deferred (some []))=Bc at γ sX sY qi;have s0:r1≠L:=λe=>by rw[e,γ.2.2.1] at qi;cases qi
 have Bd:¬bG.has L:=sX.E4 sO γ
 have Be:∀(S:aC) (B:aP) (H:ψ) (σ:List Row),eJ 2 bB bG Bc [oc,od] S B H σ->bZ bB S bG B [oc,od] σ:=λS B H σ ν=>ν.all sX (by simp)
 have Bf:∀(k2:Frame) (S:aC) (B:aP) (H:ψ) (σ:List Row) (env:Ω) (l:List Int) (fz:Int) (e:Bool) (kk:Nat),k2.fn=28->k2.kind=.normal->k2.mode=.returning->k2.defers=[⟨.collected r1,#[]⟩]->Ext ee [] dh S B H->Holds S B σ H->¬B.has r1->H.obj r1=some (.deferred (some []))->
   cY S B σ env k2.tmps->a5 env 6=.Ψ 0 1 0 0->a5 env 7=.Ψ 1 1 0 0->σ[0]?=some (.cells 29 1 [.sl e kk (l.map R)])->σ[1]?=some (.cells 38 1 [R fz])->uM s F n lower=(l,fz)->(l≠[]->kk=1)->aE Tryz.prog Q mn x k2 (c::rest) H:=
  λk2 S B H σ env l fz e kk dZ dM h0 qY qZ E5 aι qf Jj Jk Jl Jm aκ aμ aν=>by
  refine aE.collected U h0 qY qf ?_;exact Pv U h3 (b:={k2 with defers:=[]}) dZ dM rfl h0 (qZ.aY Ji ⟨_,qf⟩) (E5.aY aι) Jj Jk Jl Jm aκ aμ aν
 rw[n4 (body:=Tryz.f126.body.getD .skip) Tryz.func126 rfl];have Bg:fg bB bG [oc,od] ([qh L]++[.ad [R s.ao.length]]) (#[.func (.yield L) #[] #[]]++kV):=by
  refine fg.append ⟨rfl,λi a v dZ dM=>?_⟩ ⟨ag,cr⟩
  match i with
  | 0=>simp at dZ dM;subst dZ;subst dM;exact .fn #[] #[] rfl rfl (λi a v hi=>by simp at hi) (λi a v hi=>by simp at hi)
  | i+1=>simp at dZ
 refine Pm (o:=⟨bB,bG,Bc,[oc,od],2⟩) (L:=L) (Fnd:=λrem=>(iQ s.ao.length 0).find? (rl s F n lower)=rem.find? (rl s F n lower)) U (Nat.le_trans Pw (by decide)) ?_ rfl bB bG _ _ (eJ.of (Ext.E3 γ) (bZ.refl ..)) (ff.enter (sX.aY Bd) Bg (Nat.le_refl _) (by simp)) Bd (by simp[ψ.aY];rfl);refine⟨rfl,by simp[ek,θ.cells],by simp[ek,θ.cells],rfl,λl rem s3 Px aH S B H ws aξ ν Β jg aD hv Jn Jo=>?_,λs3 S B H ν Β jg aD=>?_⟩
 ·obtain⟨wN,qO⟩:=iP ν.ext wM qi;have Jp:=Be _ _ _ _ ν;have mE:=hP.b6.later Jp;have wO:Ext ee [] dh S B H:=lK.ext.trans (sY.trans ν.ext);obtain⟨w0,rfl⟩:∃w0,ws=#[w0]:=by
   have J:=hv.1;clear hv;obtain⟨wl⟩:=ws
   match wl,J with
   | [w0],_=>exact⟨w0,rfl⟩
  have Jq:((#[26]:Array Tmp).zip #[w0]).foldl (λtmps (t,a)=>tmps.setIfInBounds t a) t1=t1.setIfInBounds 26 w0:=by simp
  change aE Tryz.prog Q mn x (Frame.round L 28 (((#[26]:Array Tmp).zip #[w0]).foldl (λtmps (t,a)=>tmps.setIfInBounds t a) t1) _ _ .normal) _ _;rw[Jq];have yv:ar S B [oc,od,dQ l] (.ms 2 l.length 0 l.length) w0:=hv.2 0 _ _ rfl rfl;have Py:l.length<2 ^ 30:=by omega
  have wK:cY S B [oc,od,dQ l] ((26,.ms 2 l.length 0 l.length)::yD s F n lower) (t1.setIfInBounds 26 w0):=rD (cY.put mE (d:=26) (by rw[hP.size];omega) yv) (by simp);refine V.here (b:=Frame.round L 28 t1 .skip .skip .normal) (t:=t1.setIfInBounds 26 w0) (m:=3) (nt:=35) (S:=S) (B:=B) (H:=H) (σ:=[oc,od,dQ l]) (env:=(26,.ms 2 l.length 0 l.length)::yD s F n lower) ?_ ⟨Β,wK,Eq.trans (Array.size_setIfInBounds ..) hP.size,Nat.le_refl _⟩;refine V.a' U rfl ?_;(repeat (first|apply κ|(refine ξ λη I=>?_;simp;(repeat (rw[δ];simp));apply I)));refine W.stop ?_;intro jH jI hO t3 fT ey;obtain⟨qj,s4⟩:=iP fT.ext jg aD;obtain⟨Jr,Js⟩:=iP fT.ext wN qO;refine aE.beginRound U rfl rfl s4 rfl ?_;refine V.here (b:=Frame.round L 28 t1 .skip .skip .normal) (m:=3) (nt:=35) ?_ ⟨ey.holds.aY qj,ey.b6,ey.size,ey.rows⟩;refine V.a' U rfl ?_;(repeat apply κ);refine ξ λη I=>?_;simp;(repeat (rw[δ];simp));have cQ:av 0 (d' s):=by simp
  have oM:av 0 (cR F):=by simp
  have eX:iv (dQ l):=pU (f:=λn:Nat=>R n) λx=>by simp[θ.cells]
  refine ak.one (as0:=[d' s,cR F,R n,bA lower,.ms 0 l.length 0 l.length]) (XY s ο F ck n bj lower l (Nat.le_trans Px Pw) aH) 2 rfl eX eX (λa ν=>by
   simp only[List.mem_cons,List.not_mem_nil,or_false] at ν;rcases ν with rfl|rfl|rfl|rfl|rfl
   ·exact cQ.hf 1
   ·exact oM.hf 1
   ·exact(av.z _).hf 1
   ·exact(av.z _).hf 1
   ·exact lI.2 (by omega)) ((av.z _).hf 1) (by simp[lJ,mz,cQ.dI [2],oM.dI [2]]) ?_
  simp[mz];(repeat (rw[δ];simp));apply I;have wP:bZ S jH B jI [oc,od,dQ l] [oc,od,dQ l]:=fT.all Β (Nat.le_refl _);have wQ:=λy=>(ν.ext.trans fT.ext).aY γ (y:=y) ⟨_,s4⟩;have Jt:=λy=>(wO.trans fT.ext).aY sZ (y:=y) ⟨_,s4⟩;cases Pz:rl s F n lower l
  ·refine aj rfl ?_
   repeat apply κ
   refine W.stop ?_;intro gn gP fB t5 fM hg;obtain⟨qk,ql⟩:=iP fM.ext qj (show(hO.aY L _).obj L=some (.loop _) by simp[ψ.aY];rfl);have s5:=fM.all (ey.holds.aY qj) (Nat.le_refl _);refine aE.endRound U rfl rfl rfl ql (jump:=none) (.inl ⟨rfl,rfl⟩) (Jn (by rw[s3,List.find?_cons,Pz]) gn gP _ ⟨((wQ _).trans fM.ext).aY γ ⟨_,ql⟩,?_⟩ (wP.trans s5) (hg.holds.aY qk) qk (by simp[ψ.aY]));exact ν.later.trans (wP.trans s5)
  ·refine al rfl ?_;obtain⟨z,Η⟩:∃z,z=l.map λn:Nat=>(n:Int):=⟨_,rfl⟩;have Ju:dQ l=.cells 3 1 (z.map R):=by rw[Η,List.map_map];rfl
   have nd:z.length=l.length:=by rw[Η,List.length_map]
   have PA:=XR z (by rw[nd];exact Py);rw[nd,<-Ju] at PA;have PB:∀(e:Bool) (k:Nat),av 0 (.sl e k (z.map R)):=λe k=>by simp
   (repeat apply κ);refine ξ λη I=>?_;simp;(repeat (rw[δ];simp));refine ak.H9 (as0:=[.ms 0 l.length 0 l.length]) PA 2 rfl eX (by simp[lI]) (by simp[lJ]) (λa bq ah=>?_);obtain⟨⟨e,kk,rfl,qX⟩,rfl⟩:=ah;refine⟨dQ l,rfl,eX,(PB e kk).hf 1,?_⟩;rw[(PB e kk).dI [2]];simp;(repeat (rw[δ];simp));apply I;refine W.stop ?_;intro gn gP fB t5 fM hg;obtain⟨qk,ql⟩:=iP fM.ext qj (show(hO.aY L _).obj L=some (.loop _) by simp[ψ.aY];rfl);obtain⟨E6,Jv⟩:=iP fM.ext Jr (show(hO.aY L _).obj r1=some (.deferred (some [])) by simp[ψ.aY,s0,Js]);have s5:=fM.all (ey.holds.aY qj) (Nat.le_refl _);refine aE.endRound U rfl rfl rfl ql (jump:=some .ret) (.inr (.inl ⟨rfl,_,rfl⟩)) (Jo _ λaο PC Bh=>?_);obtain⟨dZ,dM⟩:=(hg.holds.aY (y:=.loop _) qk).pE (λb hb=>Bh.pE hb) Bh.grow;obtain⟨Jw,Bi⟩:=iP dM qk (show(fB.aY L _).obj L=some (.loop _) by simp[ψ.aY];rfl);obtain⟨_,Jx⟩:=iP dM E6 (show(fB.aY L _).obj r1=some (.deferred (some [])) by simp[ψ.aY,s0,Jv]);refine aE.Er (b:={Jg vs with defers:=[⟨.collected r1,#[]⟩]}) (t:=t1) U rfl Bi (by simp) ?_;refine aE.ret (b:={Jg vs with defers:=[⟨.collected r1,#[]⟩]}) U rfl rfl ?_;refine Bf _ gn gP _ _ (yD s F n lower) z 0 e kk rfl rfl rfl rfl ((((((Jt _).trans fM.ext).aY sZ ⟨_,ql⟩)).trans dM).aY sZ ⟨_,Bi⟩) (dZ.aY Jw) E6 (by simp[ψ.aY,s0,Jx]) (rD ((mE.later (wP.trans s5))) (by simp)) rfl rfl rfl rfl ?_ qX;rw[Ζ,s3,List.find?_cons,Pz,Η]
 ·obtain⟨wN,qO⟩:=iP ν.ext wM qi;have mE:=hP.b6.later (Be _ _ _ _ ν);have m6:Ext ee [] dh S B H:=lK.ext.trans (sY.trans ν.ext);refine aE.Er (b:={Jg vs with defers:=[⟨.collected r1,#[]⟩]}) (t:=t1) U rfl aD (by simp) ?_;refine V.here (m:=0) (nt:=35) (S:=S) (B:=B) (σ:=[oc,od]) (env:=yD s F n lower) ?_ ⟨Β.aY jg,rD mE (by simp),hP.size,Nat.zero_le _⟩;refine V.a' U rfl ?_;simp only[Option.map_none,Option.toList_none,List.nil_append];(repeat (first|apply κ|(refine ξ λη I=>?_;simp;(repeat (rw[δ];simp));apply I)));refine W.stop ?_;intro gn gP fB t5 fM hg;have Jy:∀y,(H.aY L y).obj r1=some (.deferred (some [])):=λy=>by simp[ψ.aY,s0,qO]
  obtain⟨k1,cy⟩:=iP fM.ext wN (Jy _);refine aE.ret U rfl rfl ?_;refine Bf _ gn gP fB _ _ [] 11 true 0 rfl rfl rfl rfl ((m6.aY sZ ⟨_,aD⟩).trans fM.ext) hg.holds k1 cy hg.b6 rfl rfl rfl rfl ?_ (λh=>absurd rfl h);rw[Ζ,s3];rfl
end
end Go.TL
namespace Go.TL
open Go.Proofs
variable [bn]
def fj:aR:=⟨[⟨⟨#[98]⟩,9⟩,⟨⟨#[99]⟩,4⟩,⟨⟨#[100]⟩,6⟩,⟨⟨#[105]⟩,48⟩,⟨⟨#[111]⟩,12⟩],[[1,2],[0],[0,1,2]],[[⟨0,4,59⟩,⟨1,8,3⟩],[⟨0,0,63⟩,⟨1,4,8⟩]]⟩
theorem Bj:az Tryz.prog 72 [] (d' fj):=by
 refine ak.body Κ Tryz.func72 rfl rfl Tryz.ntmps72 rfl rfl (by simp) ?_
 repeat apply κ
 refine c7 (A:=[0]) Κ λη I=>?_;simp;(repeat (rw[δ];simp));apply I
 repeat apply κ
 (repeat apply κ);refine ξ λη I=>?_;simp;(repeat (rw[δ];simp));apply I;refine W.fix (id:=0) (σ':=[]) (Nat.zero_le _) rfl (by simp) (by simp) rfl [(0,.ad [.sl true 2 [eG ⟨⟨#[98]⟩,9⟩,eG ⟨⟨#[99]⟩,4⟩,eG ⟨⟨#[100]⟩,6⟩,eG ⟨⟨#[105]⟩,48⟩,eG ⟨⟨#[111]⟩,12⟩],.sl true 1 [cu [1,2],cu [0],cu [0,1,2]],.sl true 1 [.sl true 3 [cw ⟨0,4,59⟩,cw ⟨1,8,3⟩],.sl true 3 [cw ⟨0,0,63⟩,cw ⟨1,4,8⟩]]])] (by simp) ?_;refine W.ret ⟨_,rfl,?_,rfl⟩;refine .aW (.cons .ex (.cons ?_ (.cons ?_ .nil)))
 ·exact .map (l:=[[1,2],[0],[0,1,2]]) (f:=cu) λx _=>.one .ex rfl rfl
 ·exact .map (l:=[[⟨0,4,59⟩,⟨1,8,3⟩],[⟨0,0,63⟩,⟨1,4,8⟩]]) (f:=λl:List di=>.sl true 3 (l.map cw)) λx _=>.one .ex rfl rfl
end Go.TL
namespace Go.TL
open Go.Conc Go.Proofs
open Go.ConcN (sumTo upd sumTo_upd upd_ne upd_same sumTo_congr le_sumTo)
variable [bn]
section
variable {P:Program} {Q:Value->Prop} {mn:Bool} {y:aU} {f f' b:Frame} {cs cs':List Frame} {H:ψ} {t:Array Value} {k:List Item} {ops:Array Oper} {i:Nat} {rest:List Nat} {op:Oper}
theorem cq.quiet (U:eR y) (ο:∀w,stepG P mn (Go.Conc.G f cs) w=.go (Go.Conc.G f' cs') w #[]) (h:cq P Q mn y f' cs' H):cq P Q mn y f cs H:=
 Quiet.goes (.cons ⟨rfl,rfl⟩ ο (.nil _)) U ⟨rfl,rfl⟩ h
theorem cq.next (U:eR y) (hb:b.mode=.run) {id:Nat} {Jz:Array Oper} {c:Code} (h:cq P Q mn y (au b t (.inRegion Jz (List.range Jz.size)::.code c::k)) cs H):cq P Q mn y (au b t (.inRegion ops []::.code (.seq (.region id Jz false) c)::k)) cs H:=
 .quiet U (λw=>(i' hb w).trans rfl) (.quiet U (λw=>(i' hb w).trans rfl) (.quiet U (λw=>(i' hb w).trans rfl) h))
theorem aπ {ty:TypeId} {inf:TypeInfo} {z:Value} (hi:P.info? ty=some inf) (Η:inf.zero=some z) (w:World) :
  (Instr.alloc ty true (.tuple #[])).run P w=.ok (ptr w.heap.size 0) (w.alloc (.cells z.cells ty (0,0)))/\∀es,(Instr.alloc ty true (.tuple #[])).events P w es=es:=by
 constructor
 ·simp[Instr.alloc,zeroValue,typeInfo,newVar,newRow,hi,Η,Result.andThen]
 ·intro es;simp[Instr.alloc,zeroValue,typeInfo,newVar,newRow,hi,Η,Result.andThen,Result.evThen]
theorem cq.JA {ty:TypeId} {inf:TypeInfo} {z:Value} (eb:y.rel=false) (bU:mG b ops i op) (Ν:op.op=.alloc ty) (Υ:op.guard=none) (hi:P.info? ty=some inf) (Η:inf.zero=some z)
  (h:∀r,H.fresh r->(∀Φ v,y.aF Φ=some v->Φ<r)->cq P Q mn {y with aF:=upd y.aF r (some (z.cells,ty))} (au b (put op t (ptr r 0)) (.inRegion ops rest::k)) cs H):cq P Q mn y (au b t (.inRegion ops (i::rest)::k)) cs H:=by
 refine Goes.step (eR.ok (.inl eb)) (.inr ⟨⟨rfl,rfl⟩,.inl λw Τ hv=>?_⟩);obtain⟨r1,r2⟩:=aπ (P:=P) hi Η w;have hw:Region.wanted op (yielded ops t)=true:=by unfold Region.wanted;rw[Υ]
 have zF:stepG P mn (Go.Conc.G (au b t (.inRegion ops (i::rest)::k)) cs) w=.go (Go.Conc.G (au b (put op t (ptr w.heap.size 0)) (.inRegion ops rest::k)) cs) (w.alloc (.cells z.cells ty (0,0))) #[]:=by
  have e:execOp (br t) op=(do pure (.value (<-Instr.alloc ty true (.tuple #[])))):=by unfold execOp;rw[Ν]
  rw[gD bU.run bU.ro,gD bU.run bU.ro,<-uA];have μ:(execOp (⟨t,b.defers⟩:_root_.Go.Act).eval op).run P w=.ok (.value (ptr w.heap.size 0)) (w.alloc (.cells z.cells ty (0,0))):=by rw[lP,e];simp[r1,Result.andThen]
  have he:(execOp (⟨t,b.defers⟩:_root_.Go.Act).eval op).events P w #[]=#[]:=by rw[lP,e];simp[r1,r2,Result.evThen]
  rw[stepG_value bU.op hw bU.kd μ];unfold listed;rw[he,seen_none]
 rw[zF];have hu:=(dN.start Τ).row z.cells ty;have Bl:ψ.fresh H w.heap.size:=Τ.fresh;have jV:Sub H (H.dz w.heap.size z.cells ty):=by
  refine⟨λΦ o v p hb=>⟨p,?_,id⟩,λΦ x hb=>?_,λΦ x hb=>hb⟩
  ·have:Φ≠w.heap.size:=λe=>by rw[e,Bl.1 o] at hb;cases hb
   simpa[ψ.dz,this] using hb
  ·have:Φ≠w.heap.size:=λe=>by rw[e,Bl.2.1] at hb;cases hb
   simpa[ψ.dz,this] using hb
 have aH:∀Φ v,y.aF Φ=some v->Φ<w.heap.size:=λΦ v hb=>by
  have:=hv Φ v.1 v.2 hb;exact(Array.getElem?_eq_some_iff.1 this).1
 refine⟨H,upd y.aF w.heap.size (some (z.cells,ty)),⟨rfl,rfl⟩,hu.keeps,jV.fits hu.fit,λΦ c' t' hb=>?_,⟨λΦ o v p hb=>.inr ⟨v,p,hb,id⟩,λΦ hb=>.inr hb⟩,λΦ c' hb=>?_,λe he=>by simp at he,λΦ c' _ _ e he=>by simp at he,h _ Bl aH⟩
 ·by_cases e:Φ=w.heap.size
  ·subst e;rw[upd_same] at hb;cases hb;exact CF
  ·rw[upd_ne _ _ e] at hb;have J:=hv Φ c' t' hb;have γ:=aH Φ _ hb;show(w.heap.push _)[Φ]?=_;rw[Array.getElem?_push_lt γ];rw[e9 γ] at J;exact J
 ·by_cases e:Φ=w.heap.size
  ·exact .inr ⟨Nat.le_of_eq e.symm,⟨λo ⟨x,U⟩=>(by rw[e,Bl.1 o] at U;cases U),λ⟨x,U⟩=>(by rw[e,Bl.2.2.1] at U;cases U)⟩⟩
  ·rw[upd_ne _ _ e] at hb;exact .inl hb
theorem aρ {B:Type} {s:Nat}:upd (λ_=>(none:Option B)) s none=λ_=>none:=by
 funext i
 by_cases e:i=s
 ·subst e;exact upd_same ..
 ·exact upd_ne _ _ e
theorem cq.group {sp:Spec} {s m o:Nat} {ty JB Bm:TypeId} {c:Array Value} (eb:y.rel=false) (fG:y.aF=λ_=>none) (r7:m<s) (JC:s<o) (fq:sp.aT=some m) (xT:H.fresh o) (dn:sp.aI [] (ψ.empty.dz o c Bm))
  (h:cq P Q mn {y with tok:=upd y.tok s (.par 0 0 .add),spec:=upd y.spec s (some sp),view:=upd y.view s none} f cs H) :
  cq P Q mn {y with aF:=upd (upd (upd y.aF m (some (#[.int .i32 0,.int .u32 0],JB))) s (some (#[.int .u64 0,.int .u32 0],ty))) o (some (c,Bm))} f cs H:=by
 have hI:s≠o:=Nat.ne_of_lt JC
 have fP:m≠o:=by omega
 have Cw:m≠s:=Nat.ne_of_lt r7;refine Goes.step (eR.ok (.inl eb)) (.inr ⟨⟨rfl,rfl⟩,.inr (.inr (.inr (.inr (.inr (.inr (.inr (.inr (.inr (.inr (.inl ⟨o,c,Bm,upd_same ..,?_⟩))))))))))⟩);refine Goes.step (eR.ok (.inl eb)) (.inr ⟨⟨rfl,rfl⟩,.inr (.inr (.inr (.inr (.inr (.inr (.inr (.inr (.inr (.inr (.inr ⟨s,sp,ty,H,ψ.empty.dz o c Bm,?_,λb2 df=>?_,eb,?_,λ_=>dn,?_⟩))))))))))⟩)
 ·show upd (upd _ o _) o none s=_;rw[upd_ne _ _ hI,upd_ne _ _ hI,upd_same]
 ·rw[fq] at df;cases df;refine⟨Cw,JB,?_⟩;show upd (upd _ o _) o none m=_;rw[upd_ne _ _ fP,upd_ne _ _ fP,upd_ne _ _ Cw,upd_same]
 ·refine⟨⟨λΦ q v p hb=>⟨p,?_,id⟩,λΦ x hb=>?_,λΦ x hb=>hb⟩,⟨λΦ q v p hb=>⟨p,?_,id⟩,λΦ x hb=>?_,λΦ x hb=>(by cases hb)⟩,⟨λΦ q ⟨v,hv⟩ ⟨x,U⟩=>?_,λΦ q ⟨v,hv⟩ ⟨x,U⟩=>?_,λΦ _ ⟨x,U⟩=>(by cases U)⟩⟩
  ·have:Φ≠o:=λe=>by rw[e,xT.1 q] at hb;cases hb
   simpa[this] using hb
  ·have:Φ≠o:=λe=>by rw[e,xT.2.1] at hb;cases hb
   simpa[this] using hb
  ·by_cases e:Φ=o
   ·simpa[ψ.dz,e] using hb
   ·simp[ψ.dz,e,ψ.empty] at hb
  ·by_cases e:Φ=o
   ·simpa[ψ.dz,e] using hb
   ·simp[ψ.dz,e,ψ.empty] at hb
  ·by_cases e:Φ=o
   ·rw[e,xT.1 q] at hv;cases hv
   ·simp[ψ.dz,e,ψ.empty] at U
  ·by_cases e:Φ=o
   ·rw[e,xT.1 q] at U;cases U
   ·simp[ψ.dz,e,ψ.empty] at hv
 ·have e:(λΦ=>if Φ=s\/sp.aT=some Φ then none else upd (upd (upd (upd y.aF m (some (#[.int .i32 0,.int .u32 0],JB))) s (some (#[.int .u64 0,.int .u32 0],ty))) o (some (c,Bm))) o none Φ)=y.aF:=by
   funext Φ
   rw[fG];by_cases Ε:Φ=s\/sp.aT=some Φ
   ·rw[if_pos Ε]
   ·rw[if_neg Ε];rw[fq] at Ε;have Ζ:Φ≠s:=λe=>Ε (.inl e);have a6:Φ≠m:=λe=>Ε (.inr (by rw[e]));by_cases cD:Φ=o
    ·rw[cD,upd_same]
    ·rw[upd_ne _ _ cD,upd_ne _ _ cD,upd_ne _ _ Ζ,upd_ne _ _ a6]
  have cW:Goes P Q mn (Go.Conc.G f cs) {y with G:=H,aF:=y.aF,tok:=upd y.tok s (.par 0 0 .add),spec:=upd y.spec s (some sp),view:=upd y.view s none}:=h;rw[<-e] at cW;exact cW
theorem cq.GJ {s n p:Nat} {sp:Spec} {g:FuncId} {kV:Array Value} (eb:y.rel=false) (tH:y.deaf=0) (bX:y.spec s=some sp) (Ξ:y.tok s=.par n (p+1) .add) (bU:mG b ops i op) (Υ:op.guard=none) {fo:Operand} {dW:Array TypeId} (Ν:op.op=.go ⟨.value fo,#[],dW⟩) (q4:op.dst=none)
  (hv:br t fo=.func (.func g) #[] kV) {S:aC} (Β:Holds S [] [] H) (J:cq P Q mn {y with tok:=upd y.tok s (.par n p .add),view:=upd y.view s none} (au b t (.inRegion ops rest::k)) cs (rB S H))
  (γ:Goes P Q false (born P ⟨.fn (.func g) kV,#[]⟩) {bx (lS s sp) s (.ch (n-(p+1)) .idle .work) none 0 with G:=mO S}):cq P Q mn y (au b t (.inRegion ops (i::rest)::k)) cs H:=by
 have hw:Region.wanted op (yielded ops t)=true:=by unfold Region.wanted;rw[Υ]
 have zF:∀w,stepG P mn (Go.Conc.G (au b t (.inRegion ops (i::rest)::k)) cs) w=.spawn (Go.Conc.G (au b t (.inRegion ops rest::k)) cs) (born P ⟨.fn (.func g) kV,#[]⟩) w #[]:=λw=>by
  have e:execOp (br t) op=(do pure (.spawn (<-Deferred.ofValue (br t fo) (#[].map (br t))))):=by unfold execOp;rw[Ν];rfl
  rw[gD bU.run bU.ro,gD bU.run bU.ro];have μ:(execOp (⟨t,b.defers⟩:_root_.Go.Act).eval op).run P w=.ok (.spawn ⟨.fn (.func g) kV,#[]⟩) w:=by rw[lP,e,hv];simp[Deferred.ofValue,Result.andThen]
  have he:(execOp (⟨t,b.defers⟩:_root_.Go.Act).eval op).events P w #[]=#[]:=by rw[lP,e,hv];simp[Deferred.ofValue,Result.andThen,Result.evThen]
  rw[stepG_spawn (a:=⟨t,b.defers⟩) bU.op hw bU.kd μ rfl];have:(⟨t,b.defers⟩:_root_.Go.Act).put op.dst undef=⟨t,b.defers⟩:=by rw[q4];rfl
  rw[this];unfold listed;rw[he,seen_none]
 refine Goes.step (eR.ok (.inl eb)) (.inr ⟨⟨rfl,rfl⟩,.inr (.inr (.inr (.inr (.inr (.inr (.inr (.inr (.inl ⟨s,sp,n,p,Go.Conc.G (au b t (.inRegion ops rest::k)) cs,born P ⟨.fn (.func g) kV,#[]⟩,rB S H,mO S,bX,Ξ,tH,⟨rfl,rfl⟩,⟨rfl,rfl⟩,eb,λw _=>zF w,ZC Β,J,?_⟩))))))))⟩);have e:({bx (lS s sp) s (.ch (n-(p+1)) .idle .work) none 0 with G:=mO S}:aU)=⟨mO S,λ_=>none,upd (λ_=>.nil) s (.ch (n-(p+1)) .idle .work),upd (λ_=>none) s (some sp),λ_=>none,0,false⟩:=by
  unfold bx;simp only[aρ]
 rw[<-e];exact γ
end
end Go.TL
namespace Go.TL
open Go.Conc Go.Proofs
open Go.ConcN (sumTo upd sumTo_upd upd_ne upd_same sumTo_congr le_sumTo)
noncomputable def yE:Code:=Tryz.f116.body.getD .skip
noncomputable def PD:Code:=dJ [1,1,1,1,0,1,0,0,1,1,0,0,1,1,0,0,1,1,0,0,1] yE
noncomputable abbrev E7 (vs:Array Value):Frame:=Frame.enter Tryz.prog 116 vs .normal
abbrev env0 (s m o:Nat) (dX:aR) (rest:Ω):Ω:=(5,.z (ptr o 0))::(4,.z (ptr s 0))::(3,.z (ptr m 0))::(1,.ad [aQ dX.ai,aN dX.ao,bl dX.cells])::rest
abbrev yF (s m o:Nat) (dX:aR) (a b:Int) (rest:Ω):Ω:=(7,.ad [R b])::(6,.ad [R a])::env0 s m o dX rest
structure E8 (dX:aR) (fd:Nat->Option Found) (pr:Nat->Int×Int) (F:Nat->Found) (N:Nat->Nat):Prop where
 look:∀k,k<3->∀c:bn,@az c Tryz.prog 143 [d' dX,aA (pr k)] (db (F k))
 many:∀k,k<3->∀c:bn,@az c Tryz.prog 78 [db (F k),R (-1)] (R (N k))
 fd:∀k,fd k=if k<3/\0<N k then some (F k) else none
theorem E8.uo {dX:aR} {fd:Nat->Option Found} {pr:Nat->Int×Int} {F:Nat->Found} {N:Nat->Nat} (h:E8 dX fd pr F N) (L:List Nat) (Ι:L.Nodup):(L.filterMap fd).length<=3:=by
 have J:L.filterMap fd=(L.filter (· < 3)).filterMap fd:=by
  rw[List.filterMap_filter];congr 1
  funext k
  by_cases e:k<3
  ·simp[e]
  ·simp[e,h.fd k]
 rw[J];refine Nat.le_trans (List.length_filterMap_le ..) ?_;have γ:(L.filter (· < 3)).Nodup:=Ι.filter _;exact LJ 3 _ γ λk χ=>by simpa using (List.mem_filter.1 χ).2
variable [bn]
theorem V.boxed {P:Program} {Q:Value->Prop} {mn:Bool} {z:gL} {b:Frame} {cs:List Frame} {nt:Nat} {o:Base} {k:List Item} {env:Ω} {σ:List Row} {ops:Array Oper} {i:Nat} {rest:List Nat} {op:Oper}
  (U:Seq z) (hb:b.mode=.run) (cf:b.roundOf=none) (Γ:ops[i]?=some op) (Υ:op.guard=none) {ty:TypeId} {wR:Operand} (Ν:op.op=.box ty wR) {l:List θ} (ν:aO env wR=.aW l) (dO:l.all (θ.a8 [])=true) (bw:0<l.length)
  (h:∀(S:aC) (B:aP) (H:ψ) (t:Array Value) (r:Nat) (c:Array Value),eJ o.m o.S o.B o.H o.σ S B H σ->ff o.m nt S B H σ env t->H.fresh r->(∃v,(S.lay r c) r 0=some v)->bZ S (S.lay r c) B B σ σ->Ext S B H (S.lay r c) B (H.dz r c ty)->Holds (S.lay r c) B σ (H.dz r c ty)->ar (S.lay r c) B σ (.ad l) (ptr r 0)->
   aE P Q mn z (au b (put op t (ptr r 0)) (.inRegion ops rest::k)) cs (H.dz r c ty)):V P Q mn z b cs nt o (.inRegion ops (i::rest)::k) env σ:=by
 intro S B H t aς ω;refine .op U hb Γ (by unfold Region.wanted;rw[Υ]) (.inl cf) ?_;have e:execOp (br t) op=(do pure (.value (<-Instr.box ty (br t wR)))):=by unfold execOp;rw[Ν]
 have μ:=lz ω.b6 wR;rw[ν] at μ;rw[e];refine υ.bind' ?_;unfold Instr.box;refine υ.bind' ?_;unfold newVar newRow;have PE:=xM (σ:=σ) dO;have cp:=(μ.cells (a:=.aW l) PE).1;refine υ.bind' ⟨rfl,λr fc=>υ.pure' (υ.pure' (υ.pure' ?_))⟩;obtain⟨J,γ,π⟩:=ω.holds.lay (c:=(br t wR).cells) (t:=ty) fc;have aH:0<(br t wR).cells.size:=by rw[cp];exact bw
 exact h S B H t r _ aς ω fc ⟨(br t wR).cells[0],by simp[aC.lay,aH]⟩ π γ J (Mu π (fI.one μ PE))
section
variable {y:aU} {Q:Value->Prop} {mn:Bool} {β s m o n:Nat} {bB:aC} {H1:ψ} {fd:Nat->Option Found} {pr:Nat->Int×Int} {F:Nat->Found} {N:Nat->Nat} {sp:Spec} {dX:aR} {v:Option (Nat×aM)} {vs:Array Value} {cs:List Frame} {k:List Item} {rest:Ω}
theorem JD {a b:Int} (gS:pr n=(a,b)) (ζ:lR y s sp) (fq:sp.aT=some m) (dn:sp.aI=wH β bB o fd) (dL:∀k,sp.D k ψ.empty) (gE:sp.top=3) (Ι:n<3) (dF:E8 dX fd pr F N) (lK:∃q v,bB β q=some v) (rh:∃q x,H1.aG β q=some x) (μ:∀p∈rest,p.1∉[16,15,7,6,5,4,3,1]/\a5 rest p.1=p.2)
  (χ:V Tryz.prog Q mn (one (bx y s (.par (n+1) 0 .add) none 0)) (E7 vs) cs 23 ⟨bB,[],H1,[],0⟩ k ((6,.ad [R a])::env0 s m o dX rest) []) :
  V Tryz.prog Q mn (one (bx y s (.par n 0 .add) v 0)) (E7 vs) cs 23 ⟨bB,[],H1,[],0⟩ (.code PD::k) (yF s m o dX a b rest) []:=by
 letI:bn:=eS;obtain rfl:a=(pr n).1:=by rw[gS]
 obtain rfl:b=(pr n).2:=by rw[gS]
 have U:=ζ.seq;refine V.a' (U _ _ _) rfl ?_;simp only[PD,yE,Tryz.f116,Option.getD_some,dJ]
 repeat first|apply aZ|apply wb|apply a3|apply wd
 refine W.cl (.stop ?_);refine V.call (U _ _ _) ⟨rfl,rfl,by simp[Frame.enter],rfl⟩ rfl rfl rfl ⟨_,Tryz.func140,rfl,rfl⟩ λS B H t oW ν ω hv=>?_;obtain rfl:=mH (l:=[ptr s 0,.int .i64 1]) hv;obtain rfl:B=[]:=dp.1 ω.holds.len;rintro lC rfl;refine Y6 ζ (by omega) ω.holds λv2 cU bO lF iZ=>?_;rw[ij rfl];have sF:bZ S cU [] [] [] []:=⟨lF.dg,λid r h=>by simp at h⟩;refine V.here (x:=one _) (m:=0) (nt:=23) (S:=cU) (B:=[]) (σ:=[]) (env:=(15,.z (.tuple #[]))::yF s m o dX (pr n).1 (pr n).2 rest) ?_ ⟨iZ,cY.later (cY.put ω.b6 (d:=15) (by rw[ω.size];omega) (.z (.tuple #[]))) sF,Eq.trans (Array.size_setIfInBounds ..) ω.size,Nat.zero_le _⟩ _ rfl;refine V.a' (U _ _ _) rfl ?_;refine W.bJ ?_;refine W.cl ?_;refine W.part (A:=[]) Κ [0] [1] rfl λη I=>?_;(try simp);(repeat (rw[δ];simp));apply I;refine W.stop ?_;intro jH jI hO t3 fT ey;obtain rfl:jI=[]:=dp.1 ey.holds.len;rintro lC rfl;have bR:=ey.b6 16;simp only[a5,if_true] at bR;obtain⟨an,uN⟩:∃an,an=t3.getD 16 undef:=⟨_,rfl⟩;rw[<-uN] at bR;have JE:eJ 0 bB [] H1 [] jH [] hO []:=ν.trans ((eJ.of lF sF).trans fT);cases bR with
 | fn w1 w2 Ρ ag aV cr=>
  have Ε:w1=#[]:=Array.eq_empty_of_size_eq_zero (by rw[<-Ρ];rfl);subst Ε;obtain⟨l2⟩:=w2
  match l2,ag with
  | [PF,vx,nR,qQ,aτ,aυ],_=>
   have uJ:PF=ptr s 0:=by have:=cr 0 _ _ rfl rfl;cases this;rfl
   have aφ:aτ=ptr m 0:=by have:=cr 4 _ _ rfl rfl;cases this;rfl
   have aχ:aυ=ptr o 0:=by have:=cr 5 _ _ rfl rfl;cases this;rfl
   subst uJ;subst aφ;subst aχ;have Jc:fg jH [] [] (I8 s m o dX (pr n).1 (pr n).2) (EX s m o vx nR qQ):=⟨rfl,λi a v J γ=>cr i a v J γ⟩;refine cq.GJ (s:=s) (n:=n+1) (p:=0) (sp:=sp) ζ.rel rfl ζ.spec b3 ⟨rfl,rfl,by simp[Frame.enter],rfl⟩ rfl rfl rfl uN.symm (S:=jH) ey.holds ?_ ?_
   ·rw[gX];have ο:=ZF ey.holds;have aψ:∀g:θ,∀p∈(6,.ad [R (pr n).1])::env0 s m o dX rest,a5 ((16,g)::(15,.z (.tuple #[]))::yF s m o dX (pr n).1 (pr n).2 rest) p.1=p.2:=λg p ω=>by
     simp only[env0,List.mem_cons] at ω;rcases ω with rfl|rfl|rfl|rfl|rfl|ω<;>first|rfl|skip
     obtain⟨J,γ⟩:=μ p ω;simp only[List.mem_cons,List.not_mem_nil,or_false,not_or] at J;obtain⟨c1,c2,c3,c4,na,sk,q1,aω⟩:=J;simp only[a5,Ne.symm c1,Ne.symm c2,Ne.symm c3,Ne.symm c4,Ne.symm na,Ne.symm sk,Ne.symm q1,Ne.symm aω,if_false];exact γ
    refine V.a' (U (.par (n+1) 0 .add) none 0) rfl (W.bJ (W.forget ((6,.ad [R (pr n).1])::env0 s m o dX rest) (aψ _) (.stop χ))) jH [] _ t3 (JE.trans (eJ.of ο (bZ.refl ..))) ⟨ZD ey.holds,ey.b6,ey.size,Nat.zero_le _⟩ _ rfl
   ·refine ZT fq (by omega) dn (dL _) (dF.look n Ι) (dF.many n Ι) ?_ (λL aD=>?_) ?_ (λb q u hu=>?_) Jc
    ·show fd n=_;rw[dF.fd n];simp[Ι]
    ·rw[List.length_map];have:=dF.uo L aD;omega
    ·obtain⟨q,u,hu⟩:=lK;exact⟨q,u,JE.ext.dg _ _ _ hu⟩
    ·obtain⟨hJ,PF,sW⟩:=rh;rcases JE.ext.qP b q u hu with h|⟨N,h⟩|h
     ·exact .inl (by rw[h];simp)
     ·simp at h
     ·exact .inr (I5 sW h)
end
end Go.TL
namespace Go.TL
open Go.Conc Go.Proofs
open Go.ConcN (sumTo upd sumTo_upd upd_ne upd_same sumTo_congr le_sumTo)
structure Calm (y:aU):Prop where
 rel:y.rel=false
 aF:y.aF=λ_=>none
 deaf:y.deaf=0
 shut:∀s,fO (y.tok s)
def calm:gL:=Calm
@[reducible] def oe:bn:=⟨λx=>x=calm⟩
variable [bn]
def s6 (x y:Found):Int:=nm (x.u,x.v) (y.u,y.v)
def og (x y:Found):Prop:=x.u<y.u\/(x.u=y.u/\x.v<y.v)
theorem aΑ (x y:Found):ax s6 x y=true↔og x y:=by
 have h:=sL (x.u,x.v) (y.u,y.v)
 have e:ax s6 x y=ax nm (x.u,x.v) (y.u,y.v):=rfl;rw[e,h];simp[og]
theorem aΒ:Go.Sort.SWO (ax s6) where
 irrefl x:=yf.irrefl (x.u,x.v)
 trans x y z:=yf.trans (x.u,x.v) (y.u,y.v) (z.u,z.v)
 ntrans x y z:=yf.ntrans (x.u,x.v) (y.u,y.v) (z.u,z.v)
instance:Inhabited Found:=⟨⟨0,0,[]⟩⟩
theorem aΓ {m:List Found} (h:m.Pairwise og):∀a∈m,∀b∈m,¬og a b->¬og b a->a=b:=by
 induction h with
 | nil=>intro a ν;cases ν
 | cons J γ Δ=>
  intro a ν b hb π Μ;rcases List.mem_cons.1 ν with kR|eh<;>rcases List.mem_cons.1 hb with iH|dG
  ·rw[kR,iH]
  ·exact absurd (kR▸J b dG) π
  ·exact absurd (iH▸J a eh) Μ
  ·exact Δ a eh b dG π Μ
theorem aΔ {l m:List Found} (ω:l.Perm m) (hm:m.Pairwise og):(Go.Sort.insertionSort (ax s6) l.toArray 0 l.length).toList=m:=by
 obtain⟨⟨cp,_,JF⟩,γ⟩:=Go.Sort.insertionSort_holds (lt:=ax s6) aΒ l.toArray 0 l.length (Nat.zero_le _) (by simp);generalize Go.Sort.insertionSort (ax s6) l.toArray 0 l.length=d at cp JF γ;have G8:d.size=l.length:=by simpa using cp
 have Ε:d.extract 0 l.length=d:=by rw[<-G8];exact Array.extract_size
 have Ζ:l.toArray.extract 0 l.length=l.toArray:=by
  simp
 rw[Ε,Ζ] at JF;have PG:d.toList.Perm m:=JF.trans ω;have aΕ:∀x y,ax s6 x y=false↔¬og x y:=λx y=>by rw[<-aΑ];simp
 refine List.Perm.eq_of_pairwise (le:=λx y=>¬og y x) (λa b ν hb π Μ=>?_) ?_ (hm.imp λ{a b} h k=>?_) PG
 ·exact aΓ hm a (PG.mem_iff.1 ν) b hb Μ π
 ·rw[List.pairwise_iff_getElem];intro i j hi ε fE;have:=γ i j (Nat.zero_le _) fE (by simpa[G8] using ε);rw[aΕ] at this;rw[getElem!_pos d j (by simpa using ε),getElem!_pos d i (by simpa using hi)] at this;simpa using this
 ·simp only[og] at h k;omega
theorem aΖ {D:Nat->ψ->Prop} (dL:∀k E,D k E->E=ψ.empty):∀(L:List Nat) (E:ψ),ll D L E->E=ψ.empty:=by
 intro L
 induction L with
 | nil=>intro E h;exact h
 | cons k K5 Δ=>
  rintro E ⟨ps,pt,J,γ,_,rfl⟩;rw[dL k ps J,Δ pt γ];exact Gu _
end Go.TL
namespace Go.TL
open Go.Conc Go.Proofs
open Go.ConcN (sumTo upd sumTo_upd upd_ne upd_same sumTo_congr le_sumTo)
abbrev E9:θ:=.fn (.func 148) [] []
theorem aΗ [bn] (x y:Found):gj Tryz.prog E9 [db x,db y] (R (s6 x y)):=λσ=>(Wu x y).c (aK.refl _) (by simp) (by simp) ⟨rfl,rfl⟩
section
variable {y:aU} {Q:Value->Prop} {mn:Bool} {β s m o:Nat} {ee bB:aC} {dh H1:ψ} {fd:Nat->Option Found} {sp:Spec} {dX:aR} {v:Option (Nat×aM)} {vs:Array Value} {c:Frame} {cs:List Frame}
theorem aΘ (ζ:lR y s sp) (fq:sp.aT=some m) (dn:sp.aI=wH β bB o fd) (dL:∀k E,sp.D k E->E=ψ.empty) (JG:∀L:List Nat,L.Nodup->(L.filterMap fd).length<=3) {k3:List Found} (JH:(List.range 3).filterMap fd=k3) (uO:k3.Pairwise og)
  (JI:∀v,Calm (bx y s (.par 3 0 .bF) v 0)) (h3:tT Tryz.prog Q mn calm c cs ee [] dh [] (λa s=>cC a (cR k3)/\s=[]) (λ_ _=>False)) (wO:Ext ee [] dh bB [] H1) (Bn:dh.fresh β) :
  V Tryz.prog Q mn (one (bx y s (.par 3 0 .add) v 0)) (E7 vs) (c::cs) 23 ⟨bB,[],H1,[],0⟩ [.code (dJ [1,1,1,1,1] yE)] (env0 s m o dX []) []:=by
 letI:bn:=eS;have U:=ζ.seq;refine V.a' (U _ _ _) rfl ?_;simp only[yE,Tryz.f116,Option.getD_some,dJ]
 repeat first|apply aZ|apply wb|apply a3|apply wd
 refine W.cl (.stop ?_);refine V.call (U _ _ _) ⟨rfl,rfl,by simp[Frame.enter],rfl⟩ rfl rfl rfl ⟨_,Tryz.func146,rfl,rfl⟩ λS B H t oW ν ω hv=>?_;obtain rfl:=mH (l:=[ptr s 0]) hv;obtain rfl:B=[]:=dp.1 ω.holds.len;rintro lC rfl;refine Zc ζ ω.holds (n:=3) λay H' ga fw gJ eB he Β LQ aΙ aΚ ck a1 ba cm hw v2 cU bO lF=>?_;rw[ij rfl];obtain rfl:=aΖ dL ga gJ aΙ;rw[Gu] at lF;obtain⟨lq,PH⟩:=aΚ (by rw[fq];simp);rw[dn] at PH;obtain⟨hi,hD,rC,wJ,fb⟩:=PH;obtain⟨w,f1,f2,f3⟩:=hw;obtain⟨G,cX⟩:∃G,G=fw.filterMap fd:=⟨_,rfl⟩;have JJ:G.Perm k3:=by rw[cX,<-JH];exact lq.filterMap _
 have jζ:G.length<=3:=by rw[cX];exact JG fw (lq.nodup_iff.2 List.nodup_range)
 rw[<-cX] at wJ;obtain⟨I',l1,l2⟩:=Pf Β wJ ba ⟨w,f1,f3⟩ (EW _);have hh:=ZI (wO.trans (ν.ext.trans he)) (ν.ext.trans he).dg Bn hi Β wJ (EW _);obtain⟨dZ,dM⟩:=I'.pE (λb hb=>lF.pE hb) lF.grow;have lT:=hh.trans dM;have aB:t.getD 5 undef=ptr o 0:=by
  have:=ω.b6 5;simp only[a5] at this;generalize t.getD 5 undef=u at this;cases this;rfl
 have mE:cY (ay.plus hD) rC (gF (G.map db)) [(5,.Ψ 0 1 0 0)] (t.setIfInBounds 19 (.tuple #[])):=λi=>by
  simp only[a5];split
  ·rename_i e;subst e;have eN:(t.setIfInBounds 19 (.tuple #[])).getD 5 undef=ptr o 0:=by
    rw[<-aB,Array.getD_eq_getD_getElem?,Array.getD_eq_getD_getElem?,Array.getElem?_setIfInBounds_ne (by decide)]
   rw[eN];have:=ar.Ψ (S:=ay.plus hD) (B:=rC) (σ:=gF (G.map db)) (id:=0) (n:=1) (i:=0) (j:=0) (k:=1) (t:=99) (l:=[sV (G.map db)]) (b:=o) (N:=1) (by simp[gF]) rfl fb;simpa using this
  ·exact .cz _
 refine V.here (x:=one _) (m:=0) (nt:=23) (S:=ay.plus hD) (B:=rC) (σ:=gF (G.map db)) (env:=[(5,.Ψ 0 1 0 0)]) ?_ ⟨dZ,mE,Eq.trans (Array.size_setIfInBounds ..) ω.size,Nat.zero_le _⟩ _ rfl;have fin:∀(e:Bool) (k:Nat),cC (.sl e k (k3.map db)) (cR k3)->V Tryz.prog Q mn (one (bx y s (.par 3 0 .bF) v2 0)) (E7 vs) (c::cs) 23 ⟨ay.plus hD,rC,bO,gF (G.map db),0⟩ [.code .ret] [(2,.sl e k (k3.map db))] []:=λe k JK=>by
  intro gn gP fB t5 fM hg;obtain rfl:gP=[]:=dp.1 hg.holds.len;refine aE.ret (U _ _ _) rfl rfl (aE.back (U _ _ _) rfl rfl (.inl rfl) Tryz.func116 ?_);refine υ.mono (λu IQ ⟨IP,aΜ,lj,B0,bc,F2⟩=>?_) (λ_ _ h=>h) _ (Aa Κ (a:=.sl e k (k3.map db)) rfl hg.holds hg.b6);obtain rfl:aΜ=[]:=dp.1 bc.len;rintro lC rfl;have EJ:=lT.trans (fM.ext.trans lj);exact h3.ret _ [] IP [] IQ u ⟨JK,rfl⟩ EJ ⟨EJ.dg,λid r h=>by simp at h⟩ bc F2 _ (JI _)
 refine V.a' (U _ _ _) rfl ?_;refine W.bJ ?_;have oH:∀e∈G.map db,∀a∈e.cells,av 0 a:=λe he a ν=>by
  obtain⟨z,_,rfl⟩:=List.mem_map.1 he;exact x8 z a ν
 by_cases Η:G=[]
 ·subst Η;have aΝ:k3=[]:=JJ.symm.eq_nil;subst aΝ;(repeat (first|apply aZ|apply wb|apply a3|apply wd));refine ξ λη I=>?_;simp;(repeat (rw[δ];simp[gF,I7,h6]));refine az.c (Xl E9 (by simp)) (aK.refl _) (by simp) (by simp) ?_;simp;(repeat (rw[δ];simp));apply I;(repeat (first|apply aZ|apply wb|apply a3|apply wd));refine ξ λη I=>?_;simp;(repeat (rw[δ];simp));apply I;refine W.cut 0 (Nat.zero_le _) [(2,.sl true 0 [])] (Nat.zero_le _) (λid r h=>by omega) (by simp;exact .low (by simp)) ?_;exact .stop (fin _ _ .nil)
 ·have gK:G.map db≠[]:=by simpa using Η
  have ο:=aΔ JJ uO;(repeat (first|apply aZ|apply wb|apply a3|apply wd));refine ξ λη I=>?_;simp;(repeat (rw[δ];simp[gF,EV gK,c8 gK]));have PI:=WB G.toArray G.length (by simp) (by omega) E9 s6 (by simp) aΗ;rw[ο] at PI;have hlen:k3.length=G.length:=JJ.length_eq.symm;have bR:av 0 E9:=by simp
  have PJ:∀e∈k3.map db,∀a∈e.cells,av 0 a:=λe he a ν=>by
   obtain⟨z,_,rfl⟩:=List.mem_map.1 he;exact x8 z a ν
  refine ak.one PI 1 rfl oH PJ (by simp[lI,vZ,bR.hf 1]) (by simp[fS]) (by simp[lJ,mz,bR.dI [1]]) ?_;simp[dI,hN];(repeat (rw[δ];simp));apply I;(repeat (first|apply aZ|apply wb|apply a3|apply wd));refine ξ λη I=>?_;simp;(repeat (rw[δ];simp));apply I;refine W.cut 0 (Nat.zero_le _) [(2,.sl false 3 (k3.map db))] (Nat.zero_le _) (λid r h=>by omega) (λp ω=>?_) ?_
  ·obtain rfl:p=(2,.sl false 3 (k3.map db)):=by simpa using ω
   refine eE.own (id:=1) (t:=110) (Nat.zero_le _) rfl (by simp[hlen]) PJ
  ·exact .stop (fin _ _ (.refl _))
end
theorem JL {P:Program} {ty:TypeId} {z:Value} (h:((P.info? ty).bind (·.zero))=some z):∃inf,P.info? ty=some inf/\inf.zero=some z:=by
 cases hi:P.info? ty with
 | none=>rw[hi] at h;cases h
 | some inf=>rw[hi] at h;exact⟨inf,rfl,h⟩
theorem aΞ:((Tryz.prog.info? 173).bind (·.zero))=some (.agg #[.int .i32 0,.int .u32 0]):=by kernel_rfl
theorem aΟ:((Tryz.prog.info? 179).bind (·.zero))=some (.agg #[.int .u64 0,.int .u32 0]):=by kernel_rfl
theorem aΡ:((Tryz.prog.info? 99).bind (·.zero))=some (.slice none 0 0):=by kernel_rfl
theorem aΤ {o:Nat}:Holds e7 [some (o,1)] (gF []) (ψ.empty.dz o #[.slice none 0 0] 99):=by
 have ah:Holds e7 [] [] ψ.empty:=yw _
 have Α:fI e7 [] [] #[.slice none 0 0] 1 [.sl true 0 []]:=fI.one (a:=.sl true 0 []) (v:=.slice none 0 0) (.iI none 0 λ_=>rfl) rfl;exact(zR (P:=Tryz.prog) (K:=λr G=>Holds e7 [some (r,1)] (gF []) G) (E:=λ_ _=>False) ah Α 99 λr _ J _ _=>J).2 o ⟨λ_=>rfl,rfl,rfl,λ_ _=>⟨λ_=>rfl,rfl,rfl⟩⟩
section
variable {fd:Nat->Option Found} {pr:Nat->Int×Int} {F:Nat->Found} {N:Nat->Nat} {dX:aR} {k3:List Found}
theorem aΥ (dF:E8 dX fd pr F N) (fv:pr 0=(1,0)) (dP:pr 1=(2,0)) (p2:pr 2=(2,1)) (JH:(List.range 3).filterMap fd=k3) (uO:k3.Pairwise og):@az oe Tryz.prog 116 [d' dX] (cR k3):=by
 refine⟨⟨_,Tryz.func116,rfl,rfl⟩,λQ mn x c rest ee ef dh vs uJ oE Bb h3=>?_⟩;obtain rfl:x=calm:=@Seq.cls oe x uJ;obtain rfl:ef=[]:=dp.1 oE.len;rintro y ⟨eb,fG,tH,cQ⟩;letI:bn:=eS;have U:Seq (one y):=Seq.uB trivial eb fG;rw[n4 (body:=yE) Tryz.func116 rfl];refine V.here (x:=one y) (m:=0) (nt:=23) (S:=ee) (B:=[]) (H:=dh) (σ:=[]) (env:=entry 0 [d' dX]) ?_ (ff.enter oE Bb (Nat.le_refl _) (by simp)) y rfl;refine V.a' U rfl ?_;simp only[yE,Tryz.f116,Option.getD_some]
 repeat first|apply aZ|apply wb|apply a3|apply wd
 refine W.cl (.stop ?_);refine V.boxed U rfl rfl rfl rfl rfl (l:=[aQ dX.ai,aN dX.ao,bl dX.cells]) rfl rfl (by simp) λS B H t β c1 ν ω m4 aΦ Α he aΧ Bg=>?_;obtain rfl:B=[]:=dp.1 ω.holds.len;refine V.here (x:=one y) (m:=0) (nt:=23) (S:=S.lay β c1) (B:=[]) (σ:=[]) (env:=[(1,.ad [aQ dX.ai,aN dX.ao,bl dX.cells])]) ?_
  ⟨aΧ,rD (cY.put (ω.b6.later Α) (d:=1) (by rw[ω.size];omega) Bg) (by simp),Eq.trans (Array.size_setIfInBounds ..) ω.size,Nat.zero_le _⟩
 refine V.a' U rfl ?_;refine W.part (A:=[]) Κ [1] [] rfl λη I=>?_;(try simp);(repeat (rw[δ];simp));apply I;refine W.bJ ?_
 repeat first|apply aZ|apply wb|apply a3|apply wd
 refine W.cl (.stop ?_);intro cU e5 bO t2 rh mA;obtain rfl:e5=[]:=dp.1 mA.holds.len;rintro lC rfl;obtain⟨i1,Ρ,ag⟩:=JL aΞ;obtain⟨i2,aV,cr⟩:=JL aΟ;obtain⟨i3,gO,iq⟩:=JL aΡ;refine cq.JA eb ⟨rfl,rfl,by simp[Frame.enter],rfl⟩ rfl rfl Ρ ag λm hB _=>?_;refine cq.next ?_ ?_ ?_
 ·exact .inl eb
 ·rfl
 refine cq.JA ?_ ⟨rfl,rfl,by simp[Frame.enter],rfl⟩ rfl rfl aV cr λs rz dU=>?_
 ·exact eb
 refine cq.next ?_ ?_ ?_
 ·exact .inl eb
 ·rfl
 refine cq.JA ?_ ⟨rfl,rfl,by simp[Frame.enter],rfl⟩ rfl rfl gO iq λo rF py=>?_
 ·exact eb
 have r7:m<s:=dU m _ (upd_same ..)
 have JC:s<o:=py s _ (upd_same ..);obtain⟨sp,bX⟩:∃sp:Spec,sp=⟨some m,wH β cU o fd,λ_ E=>E=ψ.empty,3⟩:=⟨_,rfl⟩;have Fa:∃q v,cU β q=some v:=let ⟨u,hu⟩:=aΦ;⟨0,u,rh.ext.dg _ _ _ hu⟩;have kG:∃q x,bO.aG β q=some x:=let ⟨q,u,hu⟩:=Fa;let ⟨p,ω⟩:=mA.holds.dg _ _ _ hu;⟨q,_,ω⟩;have PK:β<o:=let ⟨_,_,h⟩:=kG;I5 h rF;have fq:sp.aT=some m:=by rw[bX]
 have dn:sp.aI=wH β cU o fd:=by rw[bX]
 have dL:∀k E,sp.D k E↔E=ψ.empty:=λk E=>by rw[bX]
 have gE:sp.top=3:=by rw[bX]
 clear bX;have aΨ:sp.aI [] (ψ.empty.dz o #[.slice none 0 0] 99):=by
  rw[dn];refine⟨⟨λb q x hb=>?_,λb x hb=>?_,λb x hb=>(by cases hb)⟩,e7,_,aΤ,rfl⟩
  ·by_cases e:b=o
   ·exact .inr (e▸PK)
   ·simp[ψ.dz,e,ψ.empty] at hb
  ·by_cases e:b=o
   ·exact e▸PK
   ·simp[ψ.dz,e,ψ.empty] at hb
 refine cq.group (y:=lC) (sp:=sp) eb fG r7 JC fq rF aΨ ?_;obtain⟨lx,qm⟩:∃lx:aU,lx={lC with spec:=upd lC.spec s (some sp)}:=⟨_,rfl⟩;have aΩ:({lC with tok:=upd lC.tok s (.par 0 0 .add),spec:=upd lC.spec s (some sp),view:=upd lC.view s none}:aU)=bx lx s (.par 0 0 .add) none 0:=by
  rw[qm];unfold bx;simp only[tH]
 rw[aΩ];have Bo:lR lx s sp:=by
  rw[qm];refine⟨eb,fG,upd_same ..,by rw[gE];decide,λbq _=>?_⟩;have:=cQ bq;show m1 (lC.tok bq);cases PL:lC.tok bq with
  | nil=>trivial
  | par n p ae=>rw[PL] at this;cases ae<;>first|trivial|exact this.elim
  | ch k mu g=>rw[PL] at this;exact this.elim
 have JI:∀v,Calm (bx lx s (.par 3 0 .bF) v 0):=λv=>by
  rw[qm];refine⟨eb,fG,rfl,λbq=>?_⟩;by_cases e:bq=s
  ·subst e;rw[b3];trivial
  ·rw[AU e];exact cQ bq
 have sC:=Bo.seq
 have JG:=dF.uo
 have wO:Ext ee [] dh cU [] bO:=ν.ext.trans (he.trans rh.ext)
 have Bn:dh.fresh β:=ν.ext.grow _ m4;refine V.here (x:=one _) (m:=0) (nt:=23) (S:=cU) (B:=[]) (σ:=[]) (env:=env0 s m o dX []) ?_
  ⟨mA.holds,rD (cY.put (cY.put (cY.put mA.b6 (d:=3) (by rw[mA.size];omega) (.z (ptr m 0))) (d:=4) (by rw[Array.size_setIfInBounds,mA.size];omega) (.z (ptr s 0))) (d:=5) (by rw[Array.size_setIfInBounds,Array.size_setIfInBounds,mA.size];omega) (.z (ptr o 0))) (by simp),
   Eq.trans (Array.size_setIfInBounds ..) (Eq.trans (Array.size_setIfInBounds ..) (Eq.trans (Array.size_setIfInBounds ..) mA.size)),Nat.zero_le _⟩ _ rfl
 have w1:IntKind.i64.wrap 1=1:=by decide
 have w2:IntKind.i64.wrap 2=2:=by decide
 have w3:IntKind.i64.wrap 3=3:=by decide
 refine V.a' (sC _ _ _) rfl ?_;refine W.bJ ?_;(repeat (first|apply aZ|apply wb|apply a3|apply wd|refine al rfl ?_|refine aj rfl ?_|(refine ξ λη I=>?_;simp;(repeat (rw[δ];simp));apply I)));refine .loop ?_;(repeat (first|apply aZ|apply wb|apply a3|apply wd|refine al rfl ?_|refine aj rfl ?_|(refine ξ λη I=>?_;simp;(repeat (rw[δ];simp));apply I)));refine c7 (A:=[6]) Κ λη I=>?_;simp;(repeat (rw[δ];simp));apply I;refine W.fix (id:=0) (σ':=[]) (Nat.zero_le _) rfl (by simp) (by simp) rfl ((6,.ad [R 0])::env0 s m o dX [(8,R 0)]) (by simp) ?_;(repeat (first|apply aZ|apply wb|apply a3|apply wd|refine al rfl ?_|refine aj rfl ?_|(refine ξ λη I=>?_;simp;(repeat (rw[δ];simp));apply I)));refine .loop ?_;(repeat (first|apply aZ|apply wb|apply a3|apply wd|refine al rfl ?_|refine aj rfl ?_|(refine ξ λη I=>?_;simp;(repeat (rw[δ];simp));apply I)));refine W.exit rfl ?_;(repeat (first|apply aZ|apply wb|apply a3|apply wd|refine al rfl ?_|refine aj rfl ?_|(refine ξ λη I=>?_;simp;(repeat (rw[δ];simp[w1,w2,w3]));apply I)));refine .inLoop ?_;(repeat (first|apply aZ|apply wb|apply a3|apply wd|refine al rfl ?_|refine aj rfl ?_|(refine ξ λη I=>?_;simp;(repeat (rw[δ];simp));apply I)));refine c7 (A:=[6]) Κ λη I=>?_;simp;(repeat (rw[δ];simp));apply I;refine W.fix (id:=0) (σ':=[]) (Nat.zero_le _) rfl (by simp) (by simp) rfl ((6,.ad [R 1])::env0 s m o dX [(8,R 1)]) (by simp) ?_;(repeat (first|apply aZ|apply wb|apply a3|apply wd|refine al rfl ?_|refine aj rfl ?_|(refine ξ λη I=>?_;simp;(repeat (rw[δ];simp));apply I)));refine .loop ?_;(repeat (first|apply aZ|apply wb|apply a3|apply wd|refine al rfl ?_|refine aj rfl ?_|(refine ξ λη I=>?_;simp;(repeat (rw[δ];simp));apply I)));refine c7 (A:=[7]) Κ λη I=>?_;simp;(repeat (rw[δ];simp));apply I;refine W.fix (id:=0) (σ':=[]) (Nat.zero_le _) rfl (by simp) (by simp) rfl (yF s m o dX 1 0 [(8,R 1),(11,R 1),(12,R 0)]) (by simp) ?_;refine W.stop (JD fv Bo fq dn (λk=>(dL k _).2 rfl) gE (by decide) dF Fa kG (by simp) ?_);refine V.a' (sC _ _ _) rfl ?_;(repeat (first|apply aZ|apply wb|apply a3|apply wd|refine al rfl ?_|refine aj rfl ?_|(refine ξ λη I=>?_;simp;(repeat (rw[δ];simp[w1,w2,w3]));apply I)));refine .inLoop ?_;(repeat (first|apply aZ|apply wb|apply a3|apply wd|refine al rfl ?_|refine aj rfl ?_|(refine ξ λη I=>?_;simp;(repeat (rw[δ];simp));apply I)));refine W.exit rfl ?_;(repeat (first|apply aZ|apply wb|apply a3|apply wd|refine al rfl ?_|refine aj rfl ?_|(refine ξ λη I=>?_;simp;(repeat (rw[δ];simp[w1,w2,w3]));apply I)));refine .inLoop ?_;(repeat (first|apply aZ|apply wb|apply a3|apply wd|refine al rfl ?_|refine aj rfl ?_|(refine ξ λη I=>?_;simp;(repeat (rw[δ];simp));apply I)));refine c7 (A:=[6]) Κ λη I=>?_;simp;(repeat (rw[δ];simp));apply I;refine W.fix (id:=0) (σ':=[]) (Nat.zero_le _) rfl (by simp) (by simp) rfl ((6,.ad [R 2])::env0 s m o dX [(8,R 2)]) (by simp) ?_;(repeat (first|apply aZ|apply wb|apply a3|apply wd|refine al rfl ?_|refine aj rfl ?_|(refine ξ λη I=>?_;simp;(repeat (rw[δ];simp));apply I)));refine .loop ?_;(repeat (first|apply aZ|apply wb|apply a3|apply wd|refine al rfl ?_|refine aj rfl ?_|(refine ξ λη I=>?_;simp;(repeat (rw[δ];simp));apply I)));refine c7 (A:=[7]) Κ λη I=>?_;simp;(repeat (rw[δ];simp));apply I;refine W.fix (id:=0) (σ':=[]) (Nat.zero_le _) rfl (by simp) (by simp) rfl (yF s m o dX 2 0 [(8,R 2),(11,R 2),(12,R 0)]) (by simp) ?_;refine W.stop (JD dP Bo fq dn (λk=>(dL k _).2 rfl) gE (by decide) dF Fa kG (by simp) ?_);refine V.a' (sC _ _ _) rfl ?_;(repeat (first|apply aZ|apply wb|apply a3|apply wd|refine al rfl ?_|refine aj rfl ?_|(refine ξ λη I=>?_;simp;(repeat (rw[δ];simp[w1,w2,w3]));apply I)));refine .inLoop ?_;(repeat (first|apply aZ|apply wb|apply a3|apply wd|refine al rfl ?_|refine aj rfl ?_|(refine ξ λη I=>?_;simp;(repeat (rw[δ];simp));apply I)));refine c7 (A:=[7]) Κ λη I=>?_;simp;(repeat (rw[δ];simp));apply I;refine W.fix (id:=0) (σ':=[]) (Nat.zero_le _) rfl (by simp) (by simp) rfl (yF s m o dX 2 1 [(8,R 2),(11,R 2),(12,R 1)]) (by simp) ?_;refine W.stop (JD p2 Bo fq dn (λk=>(dL k _).2 rfl) gE (by decide) dF Fa kG (by simp) ?_);refine V.a' (sC _ _ _) rfl ?_;(repeat (first|apply aZ|apply wb|apply a3|apply wd|refine al rfl ?_|refine aj rfl ?_|(refine ξ λη I=>?_;simp;(repeat (rw[δ];simp[w1,w2,w3]));apply I)));refine .inLoop ?_;(repeat (first|apply aZ|apply wb|apply a3|apply wd|refine al rfl ?_|refine aj rfl ?_|(refine ξ λη I=>?_;simp;(repeat (rw[δ];simp));apply I)));refine W.exit rfl ?_;(repeat (first|apply aZ|apply wb|apply a3|apply wd|refine al rfl ?_|refine aj rfl ?_|(refine ξ λη I=>?_;simp;(repeat (rw[δ];simp[w1,w2,w3]));apply I)));refine .inLoop ?_;(repeat (first|apply aZ|apply wb|apply a3|apply wd|refine al rfl ?_|refine aj rfl ?_|(refine ξ λη I=>?_;simp;(repeat (rw[δ];simp));apply I)));refine W.exit rfl ?_;refine W.forget (env0 s m o dX []) (by simp) ?_;refine W.stop ?_;exact aΘ Bo fq dn (λk E=>(dL k E).1) JG JH uO JI h3 wO Bn
end
end Go.TL
namespace Go.TL
open Go.Proofs
variable [bn]
def aR.jl (s:aR) (n:Int):Bool:=decide (n< -1)||decide ((s.ai.length:Int)<=n)
def s7 (s:aR) (o7 o8:List Int) (cV:Int):Int×Int:=
 if s.err≠0 then(0,s.err) else
 match o7,o8 with
 | [i0,i1],[l0,l1]=>if nk i0=false\/nk i1=false\/s.jl l0=true\/s.jl l1=true\/cV<0\/(s.ao.length:Int)<=cV then(0,3) else if i0<=i1 then(0,5) else(s.iN (i0,i1) (l0,l1) cV.toNat,0)
 | _,_=>(0,8)
theorem bα (s:aR) (n:Int):az Tryz.prog 92 [R n,.ad [aQ s.ai,aN s.ao,bl s.cells]] (bA (s.jl n)):=by
 refine ak.body Κ Tryz.func92 rfl rfl Tryz.ntmps92 rfl rfl (by simp) ?_;by_cases h:n< -1
 ·(repeat (first|apply κ|(refine ξ λη I=>?_;simp;(repeat (rw[δ];simp[h]));apply I)));refine W.ret ⟨_,rfl,?_,rfl⟩;exact .of (by simp[aR.jl,h])
 ·(repeat (first|apply κ|(refine ξ λη I=>?_;simp;(repeat (rw[δ];simp[h]));apply I)));refine W.ret ⟨_,rfl,?_,rfl⟩;exact .of (by simp[aR.jl,h])
abbrev bβ (p:Int×Int):θ:=.bu [R p.1,R p.2]
theorem bγ (s:aR) (ο:s.small) (o7 o8:List Int) (cV:Int):az Tryz.prog 34 [d' s,bf R 1 o7,bf R 1 o8,R cV] (bβ (s7 s o7 o8 cV)):=by
 refine ak.body Κ Tryz.func34 rfl rfl Tryz.ntmps34 rfl rfl (by simp) ?_;(repeat (first|apply κ|(refine ξ λη I=>?_;simp;(repeat (rw[δ];simp));apply I)));(repeat apply κ);refine ξ λη I=>?_;simp;(repeat (rw[δ];simp));refine az.c (Ef s ο) (aK.refl _) (by simp) (by simp) ?_;simp;(repeat (rw[δ];simp));apply I;(repeat (first|apply κ|(refine ξ λη I=>?_;simp;(repeat (rw[δ];simp));apply I)));by_cases cK:s.err=0
 case neg=>
  refine al (by simp[cK]) ?_;(repeat (first|apply κ|(refine ξ λη I=>?_;simp;(repeat (rw[δ];simp));apply I)));refine W.ret ⟨_,rfl,?_,rfl⟩;exact .of (by rw[show s7 s o7 o8 cV=(0,s.err) by unfold s7;rw[if_pos cK]];rfl)
 refine aj (by simp[cK]) ?_;(repeat (first|apply κ|(refine ξ λη I=>?_;simp;(repeat (rw[δ];simp));apply I)));have hv:s7 s o7 o8 cV=match (generalizing:=false) o7,o8 with
   | [i0,i1],[l0,l1]=>if nk i0=false\/nk i1=false\/s.jl l0=true\/s.jl l1=true\/cV<0\/(s.ao.length:Int)<=cV then(0,3) else if i0<=i1 then(0,5) else(s.iN (i0,i1) (l0,l1) cV.toNat,0)
   | _,_=>(0,8):=by unfold s7;rw[if_neg (by simpa using cK)]
 by_cases bP:(o7.length:Int)=2
 case neg=>
  have e:s7 s o7 o8 cV=(0,8):=by
   rw[hv];split
   ·simp at bP
   ·rfl
  (repeat apply κ);refine ξ λη I=>?_;simp;(repeat (rw[δ];simp[bP]));apply I;refine al rfl ?_;(repeat (first|apply κ|(refine ξ λη I=>?_;simp;(repeat (rw[δ];simp));apply I)));refine W.ret ⟨_,rfl,?_,rfl⟩;exact .of (by rw[e];rfl)
 by_cases dw:(o8.length:Int)=2
 case neg=>
  have e:s7 s o7 o8 cV=(0,8):=by
   rw[hv];split
   ·simp at dw
   ·rfl
  (repeat apply κ);refine ξ λη I=>?_;simp;(repeat (rw[δ];simp[bP,dw]));apply I;refine al rfl ?_;(repeat (first|apply κ|(refine ξ λη I=>?_;simp;(repeat (rw[δ];simp));apply I)));refine W.ret ⟨_,rfl,?_,rfl⟩;exact .of (by rw[e];rfl)
 obtain⟨i0,i1,rfl⟩:∃a b,o7=[a,b]:=by
  match o7,bP with
  | [a,b],_=>exact⟨a,b,rfl⟩
  | [],h=>simp at h
  | [_],h=>simp at h
  | _::_::_::_,h=>simp at h;omega
 obtain⟨l0,l1,rfl⟩:∃a b,o8=[a,b]:=by
  match o8,dw with
  | [a,b],_=>exact⟨a,b,rfl⟩
  | [],h=>simp at h
  | [_],h=>simp at h
  | _::_::_::_,h=>simp at h;omega
 simp only at hv;(repeat apply κ);refine ξ λη I=>?_;simp;(repeat (rw[δ];simp));apply I;refine aj rfl ?_
 repeat apply κ
 have f3:(nk i0=false\/nk i1=false\/s.jl l0=true\/s.jl l1=true\/cV<0\/(s.ao.length:Int)<=cV)->s7 s [i0,i1] [l0,l1] cV=(0,3):=λh=>by rw[hv];exact if_pos h
 have bδ:([l0,l1].any s.jl)=(s.jl l0||s.jl l1):=by simp
 have call3:az Tryz.prog 94 [bf R 1 [l0,l1],.fn (.func 92) [] [.ad [aQ s.ai,aN s.ao,bl s.cells]]] (bA (s.jl l0||s.jl l1)):=by
  rw[<-bδ];exact WH [l0,l1] _ s.jl (by simp) (by simp[lE]) (λx _=>λ_=>(bα s x).cc (by simp;exact aK.refl _) (by simp) (by simp) ⟨rfl,rfl⟩)
 cases dC:nk i0
 case false=>
  have a6:=f3 (.inl dC);(repeat apply κ);refine ξ λη I=>?_;simp;(repeat (rw[δ];simp));refine az.c (oS i0) (aK.refl _) (by simp) (by simp) ?_;simp[dC];(repeat (rw[δ];simp[dC]));apply I;refine al rfl ?_;(repeat (first|apply κ|(refine ξ λη I=>?_;simp;(repeat (rw[δ];simp));apply I)));refine W.ret ⟨_,rfl,?_,rfl⟩;exact .of (by rw[a6];rfl)
 cases c1:nk i1
 case false=>
  have a6:=f3 (.inr (.inl c1));(repeat apply κ);refine ξ λη I=>?_;simp;(repeat (rw[δ];simp));refine az.c (oS i0) (aK.refl _) (by simp) (by simp) ?_;simp[dC];(repeat (rw[δ];simp[dC]));refine az.c (oS i1) (aK.refl _) (by simp) (by simp) ?_;simp[c1];(repeat (rw[δ];simp[c1]));apply I;refine al rfl ?_;(repeat (first|apply κ|(refine ξ λη I=>?_;simp;(repeat (rw[δ];simp));apply I)));refine W.ret ⟨_,rfl,?_,rfl⟩;exact .of (by rw[a6];rfl)
 cases c2:s.jl l0||s.jl l1
 case true=>
  have a6:=f3 (.inr (.inr (by rcases Bool.or_eq_true _ _ |>.mp c2 with h|h<;>simp[h])));(repeat apply κ);refine ξ λη I=>?_;simp;(repeat (rw[δ];simp));refine az.c (oS i0) (aK.refl _) (by simp) (by simp) ?_;simp[dC];(repeat (rw[δ];simp[dC]));refine az.c (oS i1) (aK.refl _) (by simp) (by simp) ?_;simp[c1];(repeat (rw[δ];simp[c1]));refine az.c call3 (aK.refl _) (by simp[lE]) (by simp) ?_;simp[c2];(repeat (rw[δ];simp[c2]));apply I;refine al rfl ?_;(repeat (first|apply κ|(refine ξ λη I=>?_;simp;(repeat (rw[δ];simp));apply I)));refine W.ret ⟨_,rfl,?_,rfl⟩;exact .of (by rw[a6];rfl)
 by_cases c3:cV<0
 ·have a6:=f3 (.inr (.inr (.inr (.inr (.inl c3)))));(repeat apply κ);refine ξ λη I=>?_;simp;(repeat (rw[δ];simp));refine az.c (oS i0) (aK.refl _) (by simp) (by simp) ?_;simp[dC];(repeat (rw[δ];simp[dC]));refine az.c (oS i1) (aK.refl _) (by simp) (by simp) ?_;simp[c1];(repeat (rw[δ];simp[c1]));refine az.c call3 (aK.refl _) (by simp[lE]) (by simp) ?_;simp[c2,c3];(repeat (rw[δ];simp[c2,c3]));apply I;refine al rfl ?_;(repeat (first|apply κ|(refine ξ λη I=>?_;simp;(repeat (rw[δ];simp));apply I)));refine W.ret ⟨_,rfl,?_,rfl⟩;exact .of (by rw[a6];rfl)
 by_cases c4:(s.ao.length:Int)<=cV
 ·have a6:=f3 (.inr (.inr (.inr (.inr (.inr c4)))));(repeat apply κ);refine ξ λη I=>?_;simp;(repeat (rw[δ];simp));refine az.c (oS i0) (aK.refl _) (by simp) (by simp) ?_;simp[dC];(repeat (rw[δ];simp[dC]));refine az.c (oS i1) (aK.refl _) (by simp) (by simp) ?_;simp[c1];(repeat (rw[δ];simp[c1]));refine az.c call3 (aK.refl _) (by simp[lE]) (by simp) ?_;simp[c2,c3,c4];(repeat (rw[δ];simp[c2,c3,c4]));apply I;refine al rfl ?_;(repeat (first|apply κ|(refine ξ λη I=>?_;simp;(repeat (rw[δ];simp));apply I)));refine W.ret ⟨_,rfl,?_,rfl⟩;exact .of (by rw[a6];rfl)
 have Fb:s.jl l0=false/\s.jl l1=false:=by simpa using c2
 rw[if_neg (by rw[dC,c1,Fb.1,Fb.2];simp;omega)] at hv;(repeat apply κ);refine ξ λη I=>?_;simp;(repeat (rw[δ];simp));refine az.c (oS i0) (aK.refl _) (by simp) (by simp) ?_;simp[dC];(repeat (rw[δ];simp[dC]));refine az.c (oS i1) (aK.refl _) (by simp) (by simp) ?_;simp[c1];(repeat (rw[δ];simp[c1]));refine az.c call3 (aK.refl _) (by simp[lE]) (by simp) ?_;simp[c2,c3,c4];(repeat (rw[δ];simp[c2,c3,c4]));apply I;refine aj rfl ?_
 repeat apply κ
 refine W.draw (A:=[]) Κ mixed λη I=>?_;simp;(repeat (rw[bD];simp));try rw[bC]
 refine⟨bW (by kernel_rfl),I _ _ ?_⟩;by_cases na:i0<=i1
 ·rw[if_pos na] at hv;refine al (by simp[na]) ?_;(repeat (first|apply κ|(refine ξ λη I=>?_;simp;(repeat (rw[δ];simp));apply I)));refine W.ret ⟨_,rfl,?_,rfl⟩;exact .of (by rw[hv];rfl)
 ·rw[if_neg na] at hv;refine aj (by simp[na]) ?_;obtain⟨n,rfl⟩:∃n:Nat,cV=n:=⟨cV.toNat,by omega⟩;have Ι:n<s.ao.length:=by omega
  have cP:l0<s.ai.length:=by have:=Fb.1;simp[aR.jl] at this;omega
  have Ρ:l1<s.ai.length:=by have:=Fb.2;simp[aR.jl] at this;omega
  repeat apply κ
  refine W.draw (A:=[]) Κ mixed λη I=>?_;simp;(repeat (rw[bD];simp));try rw[bC]
  refine gU (az.p (Av s ο (i0,i1) (l0,l1) n Ι cP Ρ) (aK.refl _) (by simp) (by simp)) ?_;simp;(repeat (rw[bD];simp));try rw[bC]
  refine⟨bW (by kernel_rfl),I _ _ ?_⟩;(repeat (first|apply κ|(refine ξ λη I=>?_;simp;(repeat (rw[δ];simp));apply I)));refine W.ret ⟨_,rfl,?_,rfl⟩;exact .of (by rw[hv];rfl)
end Go.TL
namespace Go.TL
open Go.Proofs
def fU:Nat->Int×Int
 | 0=>(1,0)
 | 1=>(2,0)
 | _=>(2,1)
def gG (s:aR) (p:Int×Int):Found:=⟨p.1,p.2,(List.range s.cells.length).map (jK s p)⟩
def j8 (s:aR) (k:Nat):Option Found:=if k<3/\0<(gG s (fU k)).many (-1) then some (gG s (fU k)) else none
def fl (s:aR):List Found:=(List.range 3).filterMap (j8 s)
structure JM (N:Nat) (s:aR):Prop where
 small:s.small
 ai:s.ai.length<2 ^ 20
 lit:∀c∈s.cells,∀x∈c,0<=x.cV/\x.cV<s.ao.length
 reads:∀k,k<3->∀c,c<s.cells.length->(jK s (fU k) c).length<=N
 many:∀k,k<3->∀i,i<=s.cells.length->h5 (gG s (fU k)).cells (-1) i<2 ^ 62
abbrev PM (s:aR):Prop:=JM 12 s
theorem PN {N:Nat} (ck:N<2 ^ 20) (gi:∀c:bn,@El c N) {s:aR} (h:JM N s):@rj oe s (fl s):=λ_=>by
 refine aΥ (fd:=j8 s) (pr:=fU) (F:=λk=>gG s (fU k)) (N:=λk=>(gG s (fU k)).many (-1)) ⟨λk χ c=>?_,λk χ c=>?_,λk=>rfl⟩ rfl rfl rfl rfl ?_
 ·exact @Xy c s h.small h.ai (fU k) h.lit N ck (gi c) (h.reads k χ)
 ·have Α:(gG s (fU k)).cells.length=s.cells.length:=by simp[gG]
  have:=h.small.2.2.1;exact @Ed c (gG s (fU k)) (-1) (by rw[Α];omega) (λi hi=>h.many k χ i (by rw[<-Α];exact hi))
 ·have e:(List.range 3).filterMap (j8 s)=(j8 s 0).toList++(j8 s 1).toList++(j8 s 2).toList:=by
   show [0,1,2].filterMap (j8 s)=_;simp only[List.filterMap_cons,List.filterMap_nil];cases j8 s 0<;>cases j8 s 1<;>cases j8 s 2<;>rfl
  show((List.range 3).filterMap (j8 s)).Pairwise og;rw[e];have m:∀k x,x∈(j8 s k).toList->x=gG s (fU k):=λk x U=>by
   unfold j8 at U;split at U
   ·simpa using U
   ·simp at U
  have one:∀k,((j8 s k).toList).Pairwise og:=λk=>by cases j8 s k<;>simp
  rw[List.pairwise_append,List.pairwise_append];refine⟨⟨one 0,one 1,λa ν b hb=>?_⟩,one 2,λa ν b hb=>?_⟩
  ·rw[m 0 a ν,m 1 b hb];exact .inl (show(fU 0).1<(fU 1).1 by decide)
  ·rw[m 2 b hb];rcases List.mem_append.1 ν with ν|ν
   ·rw[m 0 a ν];exact .inl (show(fU 0).1<(fU 2).1 by decide)
   ·rw[m 1 a ν];exact .inr ⟨rfl,show(fU 1).2<(fU 2).2 by decide⟩
theorem bε {s:aR} (h:PM s):@rj oe s (fl s):=PN (by decide) (λc=>@Xr c) h
theorem PO:PM fj:=by
 refine⟨by unfold aR.small;decide,by decide,by decide,?_,?_⟩
 ·have:∀k<3,∀c<2,(jK fj (fU k) c).length<=12:=by decide +kernel
  exact this
 ·have:∀k<3,∀i<3,h5 (gG fj (fU k)).cells (-1) i<2 ^ 62:=by decide +kernel
  exact λk χ i hi=>this k χ i (by have:i<=2:=hi;omega)
theorem PQ:fj.err=0:=by decide +kernel
theorem bζ:sN fj (fl fj)=(1,1,2,0):=by decide +kernel
theorem bη:uM fj (fl fj) 1 true=([1],0):=by decide +kernel
theorem bθ:s7 fj [1,0] [1,4] 1=(12,0):=by decide +kernel
theorem bι:kS (fl fj)=[[1,0],[2,0]]:=by decide +kernel
def yG (b:ByteArray):Int:=(b.data[0]!).toNat
theorem PR {l m:List Int} (ω:l.Perm m) (hm:m.Pairwise λa b=>a<=b):oY l=m:=by
 have Ik:∀a b c:Int,decide (a<=b)=true->decide (b<=c)=true->decide (a<=c)=true:=λa b c h k=>by simp at *;omega
 have Il:∀a b:Int,(decide (a<=b)||decide (b<=a))=true:=λa b=>by simp;omega
 have s1:=List.pairwise_mergeSort (le:=λx y:Int=>decide (x<=y)) Ik Il l
 have dP:(l.mergeSort λx y:Int=>decide (x<=y)).Perm m:=(List.mergeSort_perm l _).trans ω;exact List.Perm.eq_of_pairwise (le:=λa b:Int=>a<=b) (λa b _ _ h k=>by omega) (s1.imp λ{a b} h=>by simpa using h) hm dP
theorem PS:j3 (fl fj) 0 true=[4,4]:=by decide +kernel
theorem PT:j3 (fl fj) 1 true=[1,2,1,2]:=by decide +kernel
theorem bκ:(spell [111,63]).toList=[111,63]:=by decide +kernel
theorem bμ:(fh fj true (fl fj)).2.2=0:=by decide +kernel
theorem bν {l:List (List (Int×Int))} {gB:Int} (h:∀j:Nat,((l[j]?).getD []).length<=2):∀i,h5 l gB i<=2 ^ i:=by
 intro i
 induction i with
 | zero=>simp[h5]
 | succ i Δ=>
  rw[@Ec ⟨λ_=>True⟩,Nat.pow_succ];refine Nat.mul_le_mul Δ ?_;split
  ·omega
  ·exact h i
theorem bξ:∀f∈fl fj,f.cells.length=2/\∀c∈f.cells,c.length<=2:=by decide +kernel
theorem PU:Eo fj (fl fj):=by
 refine⟨by decide +kernel,by decide +kernel,?_,by decide +kernel⟩;intro f Τ;obtain⟨J,γ⟩:=bξ f Τ;refine⟨by rw[J];decide,λgB i hi=>Nat.lt_of_le_of_lt (bν (λj=>?_) i) ?_⟩
 ·cases ε:f.cells[j]? with
  | none=>simp
  | some c=>simpa using γ c (cv ε)
 ·have:2 ^ i<=2 ^ 2:=Nat.pow_le_pow_right (by omega) (by omega);omega
theorem PV:p5 (fl fj) 0 true=[4]:=by
 unfold p5;rw[PS,PR (m:=[4,4]) (.refl _) (by decide)];decide
theorem PW:p5 (fl fj) 1 true=[1,2]:=by
 unfold p5;rw[PT,PR (m:=[1,1,2,2]) (by decide) (by decide)];decide
theorem bο:NW fj (fl fj) true yG 12:=by
 refine⟨by decide +kernel,by decide +kernel,λc ζ=>?_,λg Υ=>?_⟩
 ·have ζ:c<2:=ζ
  match c,ζ with
  | 0,_=>rw[PS,PV];decide
  | 1,_=>rw[PT,PW];decide
 ·simp only[fj,List.mem_cons,List.not_mem_nil,or_false] at Υ;rcases Υ with rfl|rfl|rfl|rfl|rfl<;>rfl
theorem bπ:oZ fj (fl fj) true yG 2=[111,63]:=by
 show [0,1].map (uk fj (fl fj) true yG)=_;simp only[List.map_cons,List.map_nil,uk,PV,PW];decide +kernel
theorem bρ:um fj (fl fj) true yG=(spell [111,63],0):=by
 unfold um;rw[if_pos bμ];show(spell (oZ fj (fl fj) true yG 2),(0:Int))=_;rw[bπ]
theorem bς:@az oe Tryz.prog 21 [] (bA true):=by
 letI:bn:=oe;have ο:=PO.small;have Θ:=bε PO;refine ak.body Κ Tryz.func21 rfl rfl Tryz.ntmps21 rfl rfl (by simp) ?_;(repeat (first|apply κ|(refine ξ λη I=>?_;simp;(repeat (rw[δ];simp));apply I)));(repeat apply κ);refine ξ λη I=>?_;simp;(repeat (rw[δ];simp));refine az.c (Bj) (aK.refl _) (by simp) (by simp) ?_;simp;(repeat (rw[δ];simp));refine az.c (bγ fj ο [1,0] [1,4] 1) (.cons (.refl _) (.cons .ex (.cons .ex (.cons (.refl _) .nil)))) (by simp) (by simp) ?_;rw[bθ];simp;(repeat (rw[δ];simp));apply I;(repeat apply κ);refine ξ λη I=>?_;simp;(repeat (rw[δ];simp));refine az.c (Bj) (aK.refl _) (by simp) (by simp) ?_;simp;(repeat (rw[δ];simp));refine az.c (W6 fj ο _ Θ (by decide +kernel)) (aK.refl _) (by simp) (by simp) ?_;rw[if_pos PQ,PQ,bι];simp;(repeat (rw[δ];simp));apply I;(repeat apply κ);refine ξ λη I=>?_;simp;(repeat (rw[δ];simp));refine az.c (Bj) (aK.refl _) (by simp) (by simp) ?_;simp;(repeat (rw[δ];simp));refine az.c (Xc fj ο _ Θ true yG 12 (by decide) Xe bο) (aK.refl _) (by simp) (by simp) ?_;rw[bρ];simp;(repeat (rw[δ];simp));apply I;(repeat apply κ);refine ξ λη I=>?_;simp;(repeat (rw[δ];simp));refine az.c (Bj) (aK.refl _) (by simp) (by simp) ?_;simp;(repeat (rw[δ];simp));refine az.c (XO fj ο _ Θ PU) (aK.refl _) (by simp) (by simp) ?_;rw[bζ];simp;(repeat (rw[δ];simp));apply I;(repeat apply κ);refine ξ λη I=>?_;simp;(repeat (rw[δ];simp));refine az.c (Bj) (aK.refl _) (by simp) (by simp) ?_;simp;(repeat (rw[δ];simp));refine az.c (aη fj ο _ Θ PU 1 true (by decide)) (aK.refl _) (by simp) (by simp) ?_;rw[bη];simp;(repeat (rw[δ];simp));apply I;(repeat apply κ);refine ξ λη I=>?_;simp;(repeat (rw[δ];simp));refine az.c (WZ 9) (aK.refl _) (by simp) (by simp) ?_;have eU:valid 9=true:=by decide +kernel
 have ew:Eb 9=6:=by decide +kernel
 rw[eU,ew];simp;(repeat (rw[δ];simp));apply I;(repeat apply κ);refine ξ λη I=>?_;simp;(repeat (rw[δ];simp[bκ]));refine az.c (Ny [[1,0],[2,0]] [[1,0],[2,0]] (by decide) (by decide)) (.cons (.refl _) (.cons ?_ .nil)) (by simp) (by simp) ?_
 ·exact .map (l:=[[1,0],[2,0]]) (f:=λl:List Int=>.sl true 1 (l.map R)) (g:=bf R 1) λx _=>.one .ex rfl rfl
 simp;(repeat (rw[δ];simp));refine az.c (Nx [1] [1] (by decide)) (.cons (.refl _) (.cons .ex .nil)) (by simp) (by simp) ?_;simp;(repeat (rw[δ];simp));apply I;refine W.ret ⟨_,rfl,?_,rfl⟩;exact .of (by simp)
end Go.TL
namespace Go.TL
open Go.Proofs
variable [bn]
structure cG where
 bm:List Int
 state:Int
abbrev PX (n:Int):θ:=.z (.int .u64 n)
abbrev bτ (d:cG):θ:=.aW [bf R 1 d.bm,PX d.state]
abbrev b4 (d:cG):Row:=.cells 93 2 [bτ d]
def Bp (d:cG):Int:=IntKind.u64.wrap (d.bm.headD 0)
def yH (d:cG):Int:=IntKind.u64.wrap (IntKind.u64.wrap (IntKind.u64.wrap (d.state+(if d.bm=[] then 0 else Bp d))+6364136223846793005)*15074714826142052245)
def s8 (d:cG):Int:=zN .u64 (yH d) ((yH d).fdiv (2 ^ min 29 IntKind.u64.bits))
def rG (d:cG):Int:=(IntKind.u64.wrap (zN .u64 (s8 d) ((s8 d).fdiv (2 ^ min 33 IntKind.u64.bits))*18397679294719823053)).fdiv (2 ^ min 32 IntKind.u64.bits)
def cG.next (d:cG):cG:=⟨d.bm.tail,s8 d⟩
end Go.TL
