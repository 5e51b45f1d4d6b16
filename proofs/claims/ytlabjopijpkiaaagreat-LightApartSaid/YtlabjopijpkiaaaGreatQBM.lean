import Derived.Test.YtlabjopijpkiaaaGreatQBB
import Derived.Test.YtlabjopijpkiaaaGreatQBC
import Derived.Test.YtlabjopijpkiaaaGreatQBL
set_option maxHeartbeats 16000000
set_option maxRecDepth 20000
set_option linter.unusedSectionVars false
set_option linter.unusedSimpArgs false
set_option linter.unusedVariables false
namespace Go.TL
open Go.Conc Go.Proofs
variable [bd]
theorem Yr (n:Nat):av Tryz.prog 83 [U n] (.fn (.func 126) [] [.aa [U n]]):=by
 refine ak.body Θ Tryz.func83 rfl rfl Tryz.ntmps83 rfl rfl (by simp) ?_;(repeat (first|apply ι|(refine ν fun J I=>?_;simp;(repeat (rw[ζ];simp));apply I;clear I J)));refine W.ret ⟨_,rfl,?_,rfl⟩;exact .refl _
theorem Ext.NR {S:aA} {B:aN} {H:ψ} {r:Nat} {y:Obj} (Ρ:H.fresh r):Ext S B H S B (H.bD r y):=
 ⟨fun _ _ _ h=>h,fun b _ hb=>by
  have:b≠r:=fun e=>hb (e▸Ρ);exact mx.of ⟨fun _=>rfl,rfl,by simp[ψ.bD,this]⟩,fun b h=>.inl h,fun b o v h=>.inl h,ψ.Fp⟩
theorem Holds.NS {S:aA} {B:aN} {σ:List Row} {H:ψ} (Α:Holds S B σ H) (k3:∀r∈σ,xh r) {b:Nat} (Ρ:H.fresh b):¬B.has b:=fun⟨N,cm⟩=>by
 obtain⟨id,bU⟩:=List.getElem?_of_mem cm;have aE:id<σ.length:=by rw[←Α.len];exact(b3.1 bU).1
 have κ:=bc aE;obtain⟨t,k,l,e⟩:=k3 _ (cl κ);rw[e] at κ;exact Α.m' κ trivial bU Ρ
def tr (s:aM) (F:List Found) (cell:Int) (lower:Bool):List Int×Int:=
 if(ny s cell F).2.2≠0 then([],(ny s cell F).2.2)
 else match (jY s.an.length 0).find? (qA s F cell.toNat lower) with
 | some l=>(l.map fun n:Nat=>(n:Int),0)
 | none=>([],11)
abbrev nE:Row:=.cells 29 1 [.sl true 0 []]
abbrev nF:Row:=.cells 38 1 [U 0]
abbrev xk (s:aM) (F:List Found) (cell:Int) (lower:Bool):Χ:=[(3,.aa [aP s.af,aO s.an,bz s.cells]),(4,.aa [U cell]),(5,.aa [bm lower]),(6,.ag 0 1 0 0),(7,.ag 1 1 0 0),(8,.aa [aP s.af,aO s.an,bz s.cells]),(9,.aa [cJ F])]
section
variable {Q:Value→Prop} {mn:Bool} {x:gy} {c:Frame} {rest:List Frame} {e3 S:aA} {B:aN} {dE H:ψ} {σ:List Row} {res:List Int×Int} {l:List Int} {fG:Int} {e:Bool} {kk:Nat} {b:Frame} {t:Array Value} {k:List Item} {env:Χ}
theorem NT (δ:Seq x) (k0:uG Tryz.prog Q mn x c rest e3 [] dE [] (fun a s=>db a (.bt [a3 U 1 res.1,U res.2])∧s=[]) (fun _ _=>False)) (b':b.fn=28) (gu:b.kind=.normal) (et:b.defers=[]) (Ys:b.mode=.returning)
  (he:Ext e3 [] dE S B H) (Α:Holds S B σ H) (ξ:c7 S B σ env b.tmps) (a6:a5 env 6=.ag 0 1 0 0) (gv:a5 env 7=.ag 1 1 0 0) (Yt:σ[0]?=some (.cells 29 1 [.sl e kk (l.map U)])) (Yu:σ[1]?=some (.cells 38 1 [U fG])) (eL:res=(l,fG)) (υ:l≠[]→kk=1):aJ Tryz.prog Q mn x b (c::rest) H:=by
 subst eL;refine aJ.back δ Ys et (.inl gu) (fn:=Tryz.f28) (by rw[b'];exact Tryz.func28) ?_;refine ς.mono (fun v hk ⟨hU,jh,eR,tG,ay,xS⟩=>?_) (fun _ _ h=>h) _ (Cl Θ (a:=.bt [.sl e kk (l.map U),U fG]) (show qp a9 [.cell 6 29,.cell 7 38] env σ=some (.bt [.sl e kk (l.map U),U fG]) by simp[qp,rB,wy,a6,gv,Yt,Yu,uI,hP.agg,Ck]) Α ξ);obtain⟨R,γ⟩:=ay.close (h:=0) (fun id r bU=>by omega);simp only[List.take_zero] at R γ;have κ:aj (hU.close jh σ hk 0) [] [] (.bt [.sl e kk (l.map U),U fG]) v:=by
  have hb:az 0 (.bt [.sl e kk (l.map U),U fG]):=by simp
  have:=(xS.later (b0.refl hU jh σ)).any hb [] [];exact this.later ⟨fun b o v hv=>γ.c6 _ _ _ hv,fun id r h=>by simp at h⟩
 have NU:=he.trans (eR.trans γ);refine k0.ret _ [] _ [] hk v ⟨?_,rfl⟩ NU ⟨NU.c6,fun id r h=>by simp at h⟩ R κ;refine .bt (.cons ?_ (.cons (.refl _) .nil));by_cases ω:l=[]
 ·subst ω;exact .nil
 ·rw[υ ω];exact .ex
end
noncomputable abbrev HZ (vs:Array Value):Frame:=Frame.enter Tryz.prog 28 vs .normal
theorem Yv {s:aM} {F:List Found} {cell:Int} (h:(ny s cell F).2.2=0):0≤cell∧cell<s.cells.length∧ny s cell F=(s,F,0):=by
 unfold ny at h ⊢;split at h
 ·rename_i R;simp at h;exact absurd h R
 ·split at h
  ·simp at h
  ·rename_i R γ;rw[if_neg R,if_neg γ];refine⟨by omega,by omega,?_⟩;unfold e6 at h ⊢;rw[if_neg R] at h ⊢;split at h
   ·simp at h
   ·rename_i ο;rw[if_neg ο]
section
variable {Q:Value→Prop} {mn:Bool} {c:Frame} {rest:List Frame}
theorem Yw (s:aM) (ξ:s.small) (F:List Found) (gx:qy s F) (cm:C1 s F) (cell:Int) (lower:Bool) (NV:s.an.length≤4) :
  av Tryz.prog 28 [eP s,U cell,bm lower] (.bt [a3 U 1 (tr s F cell lower).1,U (tr s F cell lower).2]):=by
 refine⟨⟨_,Tryz.func28,rfl,rfl⟩,fun Q mn x c rest e3 eg dE vs δ ra H0 k0=>?_⟩;obtain rfl:eg=[]:=dq.1 ra.len;rw[pj (body:=Tryz.f28.body.getD .skip) Tryz.func28 rfl];refine V.here (x:=x) (m:=0) (nt:=35) (S:=e3) (B:=[]) (H:=dE) (σ:=[]) (env:=entry 0 [eP s,U cell,bm lower]) ?_ (fj.enter ra H0 (Nat.le_refl _) (by simp));refine V.a' δ rfl ?_;simp only[Tryz.f28,Option.getD_some]
 repeat first|apply ι
 refine de (A:=[6,7]) Θ fun J I=>?_;simp;(repeat (rw[ζ];simp));apply I;clear I J;(repeat (first|apply ι));refine de (A:=[8,9]) Θ fun J I=>?_;simp;(repeat (rw[ζ];simp));refine av.c (Vf s ξ cell F gx) (aI.refl _) (by simp) (by simp) ?_;simp;(repeat (rw[ζ];simp));apply I;clear I J;by_cases b:(ny s cell F).2.2=0
 case neg=>
  have e:tr s F cell lower=([],(ny s cell F).2.2):=by unfold tr;rw[if_pos b]
  rw[e] at k0;generalize (ny s cell F).2.2=fG at b k0 ⊢;(repeat (first|apply ι|(refine ν fun J I=>?_;simp;(repeat (rw[ζ];simp));apply I;clear I J)));refine al (by simp[b]) ?_;(repeat (first|apply ι|(refine ν fun J I=>?_;simp;(repeat (rw[ζ];simp));apply I;clear I J)));refine W.stop ?_;intro hU jh hk t5 jH kz;refine aJ.ret δ rfl rfl ?_;exact NT δ k0 rfl rfl rfl rfl jH.ext kz.holds kz.cj rfl rfl rfl rfl rfl (fun h=>absurd rfl h)
 obtain⟨jP,nb,e⟩:=Yv b;obtain⟨n,rfl⟩:∃n:Nat,cell=n:=⟨cell.toNat,by omega⟩;have bY:n<s.cells.length:=by omega
 have Δ:tr s F n lower=match (jY s.an.length 0).find? (qA s F n lower) with|some l=>(l.map fun n:Nat=>(n:Int),0)|none=>([],11):=by
  unfold tr;rw[if_neg (by simpa using b)];rfl
 rw[e];refine W.fix (id:=3) (σ':=[nE,nF,.cells 98 3 [eP s]]) (Nat.zero_le _) rfl (by simp) (fun id q bU Υ=>by
  match id,bU,Υ with
  | 0,_,Υ=>simp at Υ;subst Υ;simp[eN,θ.cells]
  | 1,_,Υ=>simp at Υ;subst Υ;simp[eN,θ.cells]
  | 2,_,Υ=>simp at Υ;subst Υ;simp[eN,θ.cells]) rfl [(3,.aa [aP s.af,aO s.an,bz s.cells]),(4,.aa [U n]),(5,.aa [bm lower]),(6,.ag 0 1 0 0),(7,.ag 1 1 0 0),(8,.ag 2 1 0 0),(9,.aa [cJ F]),(10,U 0)] (by simp[je]) ?_
 refine W.fix (id:=2) (σ':=[nE,nF]) (Nat.zero_le _) rfl (by simp) (fun id q bU Υ=>by
  match id,bU,Υ with
  | 0,_,Υ=>simp at Υ;subst Υ;simp[eN,θ.cells]
  | 1,_,Υ=>simp at Υ;subst Υ;simp[eN,θ.cells]) rfl ((10,U 0)::xk s F n lower) (by simp[je]) ?_
 (repeat (first|apply ι|(refine ν fun J I=>?_;simp;(repeat (rw[ζ];simp));apply I;clear I J)));refine ah rfl ?_;(repeat (first|apply ι|(refine ν fun J I=>?_;simp;(repeat (rw[ζ];simp));apply I;clear I J)));(repeat (first|apply ι));refine ν fun J I=>?_;simp;(repeat (rw[ζ];simp));refine av.c (Yr s.an.length) (aI.refl _) (by simp) (by simp) ?_;simp;(repeat (rw[ζ];simp));apply I;clear I J
 repeat first|apply ι
 refine W.forget ((25,.fn (.func 126) [] [.aa [U s.an.length]])::xk s F n lower) (by simp) ?_;refine W.stop ?_;intro bE bK H1 t1 po lS;have wU:∀r∈[nE,nF],xh r:=fun r κ=>by
  simp only[List.mem_cons,List.not_mem_nil,or_false] at κ;rcases κ with rfl|rfl<;>exact⟨_,_,_,rfl⟩
 have bR:=lS.cj 25;simp only[a5,if_true] at bR;obtain⟨ai,zT⟩:∃ai,ai=t1.getD 25 undef:=⟨_,rfl⟩;rw[←zT] at bR;cases bR with
 | fn w1 lZ Ξ ad aT ck=>
 have Yx:w1=#[]:=Array.eq_empty_of_size_eq_zero (by rw[←Ξ];rfl);subst Yx;refine aJ.rangeFunc δ rfl rfl (fo:=.tmp 25) zT.symm ⟨_,Tryz.func126,rfl,rfl⟩ fun r1 L R γ=>?_;have H2:¬bK.has r1:=lS.holds.NS wU R;have DI:=lS.holds.bD (y:=.deferred (some [])) H2;have DJ:Ext bE bK H1 bE bK (H1.bD r1 (.deferred (some []))):=Ext.NR R;have zU:(H1.bD r1 (.deferred (some []))).obj r1=some (.deferred (some [])):=by simp[ψ.bD]
 have Yy:dE.fresh r1:=po.ext.grow _ R
 have DK:dE.fresh L:=po.ext.grow _ (DJ.grow _ γ);generalize gψ:H1.bD r1 (.deferred (some []))=NW at γ DI DJ zU;have DL:r1≠L:=fun e=>by rw[e,γ.2.2.1] at zU;cases zU
 have NX:¬bK.has L:=DI.NS wU γ
 have NY:∀(S:aA) (B:aN) (H:ψ) (σ:List Row),eO 2 bE bK NW [nE,nF] S B H σ→b0 bE S bK B [nE,nF] σ:=fun S B H σ μ=>μ.all DI (by simp)
 have NZ:∀(ts:Frame) (S:aA) (B:aN) (H:ψ) (σ:List Row) (env:Χ) (l:List Int) (fG:Int) (e:Bool) (kk:Nat),ts.fn=28→ts.kind=.normal→ts.mode=.returning→ts.defers=[⟨.collected r1,#[]⟩]→Ext e3 [] dE S B H→Holds S B σ H→¬B.has r1→H.obj r1=some (.deferred (some []))→
   c7 S B σ env ts.tmps→a5 env 6=.ag 0 1 0 0→a5 env 7=.ag 1 1 0 0→σ[0]?=some (.cells 29 1 [.sl e kk (l.map U)])→σ[1]?=some (.cells 38 1 [U fG])→tr s F n lower=(l,fG)→(l≠[]→kk=1)→aJ Tryz.prog Q mn x ts (c::rest) H:=
  fun ts S B H σ env l fG e kk ew en ia rq sP Yz YA tj YB YC YD YE YF YG YH=>by
  refine aJ.collected δ ia rq tj ?_;exact NT δ k0 (b:={ts with defers:=[]}) ew en rfl ia (sP.bD Yy ⟨_,tj⟩) (Yz.bD YA) YB YC YD YE YF YG YH
 rw[pj (body:=Tryz.f126.body.getD .skip) Tryz.func126 rfl];have H3:fl bE bK [nE,nF] ([qN L]++[.aa [U s.an.length]]) (#[.func (.yield L) #[] #[]]++lZ):=by
  refine fl.append ⟨rfl,fun i a v ew en=>?_⟩ ⟨ad,ck⟩
  match i with
  | 0=>simp at ew en;subst ew;subst en;exact .fn #[] #[] rfl rfl (fun i a v hi=>by simp at hi) (fun i a v hi=>by simp at hi)
  | i+1=>simp at ew
 refine Ye (o:=⟨bE,bK,NW,[nE,nF],2⟩) (L:=L) (Fnd:=fun rem=>(jY s.an.length 0).find? (qA s F n lower)=rem.find? (qA s F n lower)) δ (Nat.le_trans NV (by decide)) ?_ rfl bE bK _ _ (eO.of (Ext.NR γ) (b0.refl ..)) (fj.enter (DI.bD NX) H3 (Nat.le_refl _) (by simp)) NX (by simp[ψ.bD];rfl);refine⟨rfl,by simp[eN,θ.cells],by simp[eN,θ.cells],rfl,fun l rem DN YI aE S B H ws gω μ Α ks aD hv YJ YK=>?_,fun DN S B H μ Α ks aD=>?_⟩
 ·obtain⟨H4,vS⟩:=pA μ.ext H2 zU;have YL:=NY _ _ _ _ μ;have ow:=lS.cj.later YL;have zV:Ext e3 [] dE S B H:=po.ext.trans (DJ.trans μ.ext);obtain⟨w0,rfl⟩:∃w0,ws=#[w0]:=by
   have R:=hv.1;clear hv;obtain⟨wl⟩:=ws
   match wl,R with
   | [w0],_=>exact⟨w0,rfl⟩
  have YM:((#[26]:Array Tmp).zip #[w0]).foldl (fun tmps (t,a)=>tmps.setIfInBounds t a) t1=t1.setIfInBounds 26 w0:=by simp
  change aJ Tryz.prog Q mn x (Frame.round L 28 (((#[26]:Array Tmp).zip #[w0]).foldl (fun tmps (t,a)=>tmps.setIfInBounds t a) t1) _ _ .normal) _ _;rw[YM];have Di:aj S B [nE,nF,fc l] (.ms 2 l.length 0 l.length) w0:=hv.2 0 _ _ rfl rfl;have YN:l.length<2 ^ 30:=by omega
  have zS:c7 S B [nE,nF,fc l] ((26,.ms 2 l.length 0 l.length)::xk s F n lower) (t1.setIfInBounds 26 w0):=vj (c7.put ow (d:=26) (by rw[lS.size];omega) Di) (by simp);refine V.here (b:=Frame.round L 28 t1 .skip .skip .normal) (t:=t1.setIfInBounds 26 w0) (m:=3) (nt:=35) (S:=S) (B:=B) (H:=H) (σ:=[nE,nF,fc l]) (env:=(26,.ms 2 l.length 0 l.length)::xk s F n lower) ?_ ⟨Α,zS,Eq.trans (Array.size_setIfInBounds ..) lS.size,Nat.le_refl _⟩;refine V.a' δ rfl ?_;(repeat (first|apply ι|(refine ν fun J I=>?_;simp;(repeat (rw[ζ];simp));apply I;clear I J)));refine W.stop ?_;intro jW jX iF t3 g5 fb;obtain⟨zW,zX⟩:=pA g5.ext ks aD;obtain⟨YO,YP⟩:=pA g5.ext H4 vS;refine aJ.beginRound δ rfl rfl zX rfl ?_;refine V.here (b:=Frame.round L 28 t1 .skip .skip .normal) (m:=3) (nt:=35) ?_ ⟨fb.holds.bD zW,fb.cj,fb.size,fb.rows⟩;refine V.a' δ rfl ?_;(repeat (first|apply ι));refine ν fun J I=>?_;simp;(repeat (rw[ζ];simp));have cM:az 0 (eP s):=by simp
  have oa:az 0 (cJ F):=by simp
  have hz:ie (fc l):=uT (f:=fun n:Nat=>U n) fun x=>by simp[θ.cells]
  refine ak.one (as0:=[eP s,cJ F,U n,bm lower,.ms 0 l.length 0 l.length]) (V7 s ξ F cm n bY lower l (Nat.le_trans YI NV) aE) 2 rfl hz hz (fun a μ=>by
   simp only[List.mem_cons,List.not_mem_nil,or_false] at μ;rcases μ with rfl|rfl|rfl|rfl|rfl
   ·exact cM.ih 1
   ·exact oa.ih 1
   ·exact(az.z _).ih 1
   ·exact(az.z _).ih 1
   ·exact nn.2 (by omega)) ((az.z _).ih 1) (by simp[np,nq,cM.dP [2],oa.dP [2]]) ?_
  simp[nq];(repeat (rw[ζ];simp));apply I;clear I J;have H5:b0 S jW B jX [nE,nF,fc l] [nE,nF,fc l]:=g5.all Α (Nat.le_refl _);have zY:=fun y=>(μ.ext.trans g5.ext).bD γ (y:=y) ⟨_,zX⟩;have YQ:=fun y=>(zV.trans g5.ext).bD DK (y:=y) ⟨_,zX⟩;cases N0:qA s F n lower l
  ·refine ah rfl ?_
   repeat first|apply ι
   refine W.stop ?_;intro hU jh hk t5 jH kz;obtain⟨zZ,z0⟩:=pA jH.ext zW (show(iF.bD L _).obj L=some (.loop _) by simp[ψ.bD];rfl);have DO:=jH.all (fb.holds.bD zW) (Nat.le_refl _);refine aJ.endRound δ rfl rfl rfl z0 (jump:=none) (.inl ⟨rfl,rfl⟩) (YJ (by rw[DN,List.find?_cons,N0]) hU jh _ ⟨((zY _).trans jH.ext).bD γ ⟨_,z0⟩,?_⟩ (H5.trans DO) (kz.holds.bD zZ) zZ (by simp[ψ.bD]));exact μ.later.trans (H5.trans DO)
  ·refine al rfl ?_;obtain⟨z,Ν⟩:∃z,z=l.map fun n:Nat=>(n:Int):=⟨_,rfl⟩;have YR:fc l=.cells 3 1 (z.map U):=by rw[Ν,List.map_map];rfl
   have ob:z.length=l.length:=by rw[Ν,List.length_map]
   have N1:=V0 z (by rw[ob];exact YN);rw[ob,←YR] at N1;have N2:∀(e:Bool) (k:Nat),az 0 (.sl e k (z.map U)):=fun e k=>by simp
   (repeat (first|apply ι));refine ν fun J I=>?_;simp;(repeat (rw[ζ];simp));refine ak.GK (as0:=[.ms 0 l.length 0 l.length]) N1 2 rfl hz (by simp[nn]) (by simp[np]) (fun a bj ae=>?_);obtain⟨⟨e,kk,rfl,qi⟩,rfl⟩:=ae;refine⟨fc l,rfl,hz,(N2 e kk).ih 1,?_⟩;rw[(N2 e kk).dP [2]];simp;(repeat (rw[ζ];simp));apply I;clear I J;refine W.stop ?_;intro hU jh hk t5 jH kz;obtain⟨zZ,z0⟩:=pA jH.ext zW (show(iF.bD L _).obj L=some (.loop _) by simp[ψ.bD];rfl);obtain⟨N3,YS⟩:=pA jH.ext YO (show(iF.bD L _).obj r1=some (.deferred (some [])) by simp[ψ.bD,DL,YP]);have DO:=jH.all (fb.holds.bD zW) (Nat.le_refl _);refine aJ.endRound δ rfl rfl rfl z0 (jump:=some .ret) (.inr (.inl ⟨rfl,_,rfl⟩)) (YK _ fun gΑ gΒ N4=>?_);obtain⟨ew,en⟩:=(kz.holds.bD (y:=.loop _) zZ).ri (fun b hb=>N4.ri hb) N4.grow;obtain⟨YT,N5⟩:=pA en zZ (show(hk.bD L _).obj L=some (.loop _) by simp[ψ.bD];rfl);obtain⟨_,YU⟩:=pA en N3 (show(hk.bD L _).obj r1=some (.deferred (some [])) by simp[ψ.bD,DL,YS]);refine aJ.ME (b:={HZ vs with defers:=[⟨.collected r1,#[]⟩]}) (t:=t1) δ rfl N5 (by simp) ?_;refine aJ.ret (b:={HZ vs with defers:=[⟨.collected r1,#[]⟩]}) δ rfl rfl ?_;refine NZ _ hU jh _ _ (xk s F n lower) z 0 e kk rfl rfl rfl rfl ((((((YQ _).trans jH.ext).bD DK ⟨_,z0⟩)).trans en).bD DK ⟨_,N5⟩) (ew.bD YT) N3 (by simp[ψ.bD,DL,YU]) (vj ((ow.later (H5.trans DO))) (by simp)) rfl rfl rfl rfl ?_ qi;rw[Δ,DN,List.find?_cons,N0,Ν]
 ·obtain⟨H4,vS⟩:=pA μ.ext H2 zU;have ow:=lS.cj.later (NY _ _ _ _ μ);have n2:Ext e3 [] dE S B H:=po.ext.trans (DJ.trans μ.ext);refine aJ.ME (b:={HZ vs with defers:=[⟨.collected r1,#[]⟩]}) (t:=t1) δ rfl aD (by simp) ?_;refine V.here (m:=0) (nt:=35) (S:=S) (B:=B) (σ:=[nE,nF]) (env:=xk s F n lower) ?_ ⟨Α.bD ks,vj ow (by simp),lS.size,Nat.zero_le _⟩;refine V.a' δ rfl ?_;simp only[Option.map_none,Option.toList_none,List.nil_append];(repeat (first|apply ι|(refine ν fun J I=>?_;simp;(repeat (rw[ζ];simp));apply I;clear I J)));refine W.stop ?_;intro hU jh hk t5 jH kz;have YV:∀y,(H.bD L y).obj r1=some (.deferred (some [])):=fun y=>by simp[ψ.bD,DL,vS]
  obtain⟨k1,cx⟩:=pA jH.ext H4 (YV _);refine aJ.ret δ rfl rfl ?_;refine NZ _ hU jh hk _ _ [] 11 true 0 rfl rfl rfl rfl ((n2.bD DK ⟨_,aD⟩).trans jH.ext) kz.holds k1 cx kz.cj rfl rfl rfl rfl ?_ (fun h=>absurd rfl h);rw[Δ,DN];rfl
end
end Go.TL
namespace Go.TL
open Go.Proofs
variable [bd]
def e7:aM:=⟨[⟨⟨#[98]⟩,9⟩,⟨⟨#[99]⟩,4⟩,⟨⟨#[100]⟩,6⟩,⟨⟨#[105]⟩,48⟩,⟨⟨#[111]⟩,12⟩],[[1,2],[0],[0,1,2]],[[⟨0,4,59⟩,⟨1,8,3⟩],[⟨0,0,63⟩,⟨1,4,8⟩]]⟩
theorem z1:av Tryz.prog 72 [] (eP e7):=by
 refine ak.body Θ Tryz.func72 rfl rfl Tryz.ntmps72 rfl rfl (by simp) ?_
 repeat first|apply ι
 refine de (A:=[0]) Θ fun J I=>?_;simp;(repeat (rw[ζ];simp));apply I;clear I J
 repeat first|apply ι
 (repeat (first|apply ι));refine ν fun J I=>?_;simp;(repeat (rw[ζ];simp));apply I;clear I J;refine W.fix (id:=0) (σ':=[]) (Nat.zero_le _) rfl (by simp) (by simp) rfl [(0,.aa [.sl true 2 [er ⟨⟨#[98]⟩,9⟩,er ⟨⟨#[99]⟩,4⟩,er ⟨⟨#[100]⟩,6⟩,er ⟨⟨#[105]⟩,48⟩,er ⟨⟨#[111]⟩,12⟩],.sl true 1 [iH [1,2],iH [0],iH [0,1,2]],.sl true 1 [.sl true 3 [e5 ⟨0,4,59⟩,e5 ⟨1,8,3⟩],.sl true 3 [e5 ⟨0,0,63⟩,e5 ⟨1,4,8⟩]]])] (by simp) ?_;refine W.ret ⟨_,rfl,?_,rfl⟩;refine .aU (.cons .ex (.cons ?_ (.cons ?_ .nil)))
 ·exact .map (l:=[[1,2],[0],[0,1,2]]) (f:=iH) fun x _=>.one .ex rfl rfl
 ·exact .map (l:=[[⟨0,4,59⟩,⟨1,8,3⟩],[⟨0,0,63⟩,⟨1,4,8⟩]]) (f:=fun l:List dZ=>.sl true 3 (l.map e5)) fun x _=>.one .ex rfl rfl
end Go.TL
namespace Go.TL
open Go.Conc Go.Proofs
open Go.ConcN (sumTo upd sumTo_upd upd_ne upd_same sumTo_congr le_sumTo)
variable [bd]
section
variable {P:Program} {Q:Value→Prop} {mn:Bool} {y:aR} {f f' b:Frame} {cs cs':List Frame} {H:ψ} {t:Array Value} {k:List Item} {ops:Array Oper} {i:Nat} {rest:List Nat} {op:Oper}
theorem cf.quiet (δ:eE y) (ξ:∀w,stepG P mn (Go.Conc.G f cs) w=.go (Go.Conc.G f' cs') w #[]) (h:cf P Q mn y f' cs' H):cf P Q mn y f cs H:=
 Quiet.goes (.cons ⟨rfl,rfl⟩ ξ (.nil _)) δ ⟨rfl,rfl⟩ h
theorem cf.next (δ:eE y) (hb:b.mode=.run) {id:Nat} {H6:Array Oper} {c:Code} (h:cf P Q mn y (ao b t (.inRegion H6 (List.range H6.size)::.code c::k)) cs H):cf P Q mn y (ao b t (.inRegion ops []::.code (.seq (.region id H6 false) c)::k)) cs H:=
 .quiet δ (fun w=>(iB hb w).trans rfl) (.quiet δ (fun w=>(iB hb w).trans rfl) (.quiet δ (fun w=>(iB hb w).trans rfl) h))
theorem YW {ty:TypeId} {inf:TypeInfo} {z:Value} (hi:P.info? ty=some inf) (Ν:inf.zero=some z) (w:World) :
  (Instr.alloc ty true (.tuple #[])).run P w=.ok (ptr w.heap.size 0) (w.alloc (.cells z.cells ty (0,0)))∧∀es,(Instr.alloc ty true (.tuple #[])).events P w es=es:=by
 constructor
 ·simp[Instr.alloc,zeroValue,typeInfo,newVar,newRow,hi,Ν,Result.andThen]
 ·intro es;simp[Instr.alloc,zeroValue,typeInfo,newVar,newRow,hi,Ν,Result.andThen,Result.evThen]
theorem cf.H7 {ty:TypeId} {inf:TypeInfo} {z:Value} (dQ:y.rel=false) (bO:l3 b ops i op) (Κ:op.op=.alloc ty) (Τ:op.guard=none) (hi:P.info? ty=some inf) (Ν:inf.zero=some z)
  (h:∀r,H.fresh r→(∀Φ v,y.aC Φ=some v→Φ<r)→cf P Q mn {y with aC:=upd y.aC r (some (z.cells,ty))} (ao b (put op t (ptr r 0)) (.inRegion ops rest::k)) cs H):cf P Q mn y (ao b t (.inRegion ops (i::rest)::k)) cs H:=by
 refine Goes.step (eE.ok (.inl dQ)) (.inr ⟨⟨rfl,rfl⟩,.inl fun w Ρ hv=>?_⟩);obtain⟨r1,r2⟩:=YW (P:=P) hi Ν w;have hw:Region.wanted op (yielded ops t)=true:=by unfold Region.wanted;rw[Τ]
 have yq:stepG P mn (Go.Conc.G (ao b t (.inRegion ops (i::rest)::k)) cs) w=.go (Go.Conc.G (ao b (put op t (ptr w.heap.size 0)) (.inRegion ops rest::k)) cs) (w.alloc (.cells z.cells ty (0,0))) #[]:=by
  have e:execOp (bk t) op=(do pure (.value (←Instr.alloc ty true (.tuple #[])))):=by unfold execOp;rw[Κ]
  rw[gf bO.run bO.ro,gf bO.run bO.ro,←te];have κ:(execOp (⟨t,b.defers⟩:_root_.Go.Act).eval op).run P w=.ok (.value (ptr w.heap.size 0)) (w.alloc (.cells z.cells ty (0,0))):=by rw[k',e];simp[r1,Result.andThen]
  have he:(execOp (⟨t,b.defers⟩:_root_.Go.Act).eval op).events P w #[]=#[]:=by rw[k',e];simp[r1,r2,Result.evThen]
  rw[stepG_value bO.op hw bO.kd κ];unfold listed;rw[he,seen_none]
 rw[yq];have hu:=(dz.start Ρ).row z.cells ty;have z2:ψ.fresh H w.heap.size:=Ρ.fresh;have ju:Sub H (H.dn w.heap.size z.cells ty):=by
  refine⟨fun Φ o v p hb=>⟨p,?_,id⟩,fun Φ x hb=>?_,fun Φ x hb=>hb⟩
  ·have:Φ≠w.heap.size:=fun e=>by rw[e,z2.1 o] at hb;cases hb
   simpa[ψ.dn,this] using hb
  ·have:Φ≠w.heap.size:=fun e=>by rw[e,z2.2.1] at hb;cases hb
   simpa[ψ.dn,this] using hb
 have aE:∀Φ v,y.aC Φ=some v→Φ<w.heap.size:=fun Φ v hb=>by
  have:=hv Φ v.1 v.2 hb;exact(Array.getElem?_eq_some_iff.1 this).1
 refine⟨H,upd y.aC w.heap.size (some (z.cells,ty)),⟨rfl,rfl⟩,hu.keeps,ju.fits hu.fit,fun Φ c' t' hb=>?_,⟨fun Φ o v p hb=>.inr ⟨v,p,hb,id⟩,fun Φ hb=>.inr hb⟩,fun Φ c' hb=>?_,fun e he=>by simp at he,fun Φ c' _ _ e he=>by simp at he,h _ z2 aE⟩
 ·by_cases e:Φ=w.heap.size
  ·subst e;rw[upd_same] at hb;cases hb;exact Bf
  ·rw[upd_ne _ _ e] at hb;have R:=hv Φ c' t' hb;have γ:=aE Φ _ hb;show(w.heap.push _)[Φ]?=_;rw[Array.getElem?_push_lt γ];rw[eY γ] at R;exact R
 ·by_cases e:Φ=w.heap.size
  ·exact .inr ⟨Nat.le_of_eq e.symm,⟨fun o ⟨x,δ⟩=>(by rw[e,z2.1 o] at δ;cases δ),fun⟨x,δ⟩=>(by rw[e,z2.2.2.1] at δ;cases δ)⟩⟩
  ·rw[upd_ne _ _ e] at hb;exact .inl hb
theorem YX {B:Type} {s:Nat}:upd (fun _=>(none:Option B)) s none=fun _=>none:=by
 funext i
 by_cases e:i=s
 ·subst e;exact upd_same ..
 ·exact upd_ne _ _ e
theorem cf.group {sp:Spec} {s m o:Nat} {ty H8 z3:TypeId} {c:Array Value} (dQ:y.rel=false) (fu:y.aC=fun _=>none) (q8:m<s) (H9:s<o) (e':sp.aQ=some m) (o9:H.fresh o) (da:sp.aG [] (ψ.empty.dn o c z3))
  (h:cf P Q mn {y with tok:=upd y.tok s (.par 0 0 .add),spec:=upd y.spec s (some sp),view:=upd y.view s none} f cs H) :
  cf P Q mn {y with aC:=upd (upd (upd y.aC m (some (#[.int .i32 0,.int .u32 0],H8))) s (some (#[.int .u64 0,.int .u32 0],ty))) o (some (c,z3))} f cs H:=by
 have hc:s≠o:=Nat.ne_of_lt H9
 have fE:m≠o:=by omega
 have A7:m≠s:=Nat.ne_of_lt q8;refine Goes.step (eE.ok (.inl dQ)) (.inr ⟨⟨rfl,rfl⟩,.inr (.inr (.inr (.inr (.inr (.inr (.inr (.inr (.inr (.inr (.inl ⟨o,c,z3,upd_same ..,?_⟩))))))))))⟩);refine Goes.step (eE.ok (.inl dQ)) (.inr ⟨⟨rfl,rfl⟩,.inr (.inr (.inr (.inr (.inr (.inr (.inr (.inr (.inr (.inr (.inr ⟨s,sp,ty,H,ψ.empty.dn o c z3,?_,fun bW c0=>?_,dQ,?_,fun _=>da,?_⟩))))))))))⟩)
 ·show upd (upd _ o _) o none s=_;rw[upd_ne _ _ hc,upd_ne _ _ hc,upd_same]
 ·rw[e'] at c0;cases c0;refine⟨A7,H8,?_⟩;show upd (upd _ o _) o none m=_;rw[upd_ne _ _ fE,upd_ne _ _ fE,upd_ne _ _ A7,upd_same]
 ·refine⟨⟨fun Φ q v p hb=>⟨p,?_,id⟩,fun Φ x hb=>?_,fun Φ x hb=>hb⟩,⟨fun Φ q v p hb=>⟨p,?_,id⟩,fun Φ x hb=>?_,fun Φ x hb=>(by cases hb)⟩,⟨fun Φ q ⟨v,hv⟩ ⟨x,δ⟩=>?_,fun Φ q ⟨v,hv⟩ ⟨x,δ⟩=>?_,fun Φ _ ⟨x,δ⟩=>(by cases δ)⟩⟩
  ·have:Φ≠o:=fun e=>by rw[e,o9.1 q] at hb;cases hb
   simpa[this] using hb
  ·have:Φ≠o:=fun e=>by rw[e,o9.2.1] at hb;cases hb
   simpa[this] using hb
  ·by_cases e:Φ=o
   ·simpa[ψ.dn,e] using hb
   ·simp[ψ.dn,e,ψ.empty] at hb
  ·by_cases e:Φ=o
   ·simpa[ψ.dn,e] using hb
   ·simp[ψ.dn,e,ψ.empty] at hb
  ·by_cases e:Φ=o
   ·rw[e,o9.1 q] at hv;cases hv
   ·simp[ψ.dn,e,ψ.empty] at δ
  ·by_cases e:Φ=o
   ·rw[e,o9.1 q] at δ;cases δ
   ·simp[ψ.dn,e,ψ.empty] at hv
 ·have e:(fun Φ=>if Φ=s∨sp.aQ=some Φ then none else upd (upd (upd (upd y.aC m (some (#[.int .i32 0,.int .u32 0],H8))) s (some (#[.int .u64 0,.int .u32 0],ty))) o (some (c,z3))) o none Φ)=y.aC:=by
   funext Φ
   rw[fu];by_cases Ε:Φ=s∨sp.aQ=some Φ
   ·rw[if_pos Ε]
   ·rw[if_neg Ε];rw[e'] at Ε;have Δ:Φ≠s:=fun e=>Ε (.inl e);have a4:Φ≠m:=fun e=>Ε (.inr (by rw[e]));by_cases cu:Φ=o
    ·rw[cu,upd_same]
    ·rw[upd_ne _ _ cu,upd_ne _ _ cu,upd_ne _ _ Δ,upd_ne _ _ a4]
  have cP:Goes P Q mn (Go.Conc.G f cs) {y with G:=H,aC:=y.aC,tok:=upd y.tok s (.par 0 0 .add),spec:=upd y.spec s (some sp),view:=upd y.view s none}:=h;rw[←e] at cP;exact cP
theorem cf.Ff {s n p:Nat} {sp:Spec} {g:FuncId} {lZ:Array Value} (dQ:y.rel=false) (sF:y.deaf=0) (bQ:y.spec s=some sp) (Μ:y.tok s=.par n (p+1) .add) (bO:l3 b ops i op) (Τ:op.guard=none) {fo:Operand} {dL:Array TypeId} (Κ:op.op=.go ⟨.value fo,#[],dL⟩) (qn:op.dst=none)
  (hv:bk t fo=.func (.func g) #[] lZ) {S:aA} (Α:Holds S [] [] H) (R:cf P Q mn {y with tok:=upd y.tok s (.par n p .add),view:=upd y.view s none} (ao b t (.inRegion ops rest::k)) cs (qL S H))
  (γ:Goes P Q false (born P ⟨.fn (.func g) lZ,#[]⟩) {br (lg s sp) s (.ch (n-(p+1)) .idle .work) none 0 with G:=ma S}):cf P Q mn y (ao b t (.inRegion ops (i::rest)::k)) cs H:=by
 have hw:Region.wanted op (yielded ops t)=true:=by unfold Region.wanted;rw[Τ]
 have yq:∀w,stepG P mn (Go.Conc.G (ao b t (.inRegion ops (i::rest)::k)) cs) w=.spawn (Go.Conc.G (ao b t (.inRegion ops rest::k)) cs) (born P ⟨.fn (.func g) lZ,#[]⟩) w #[]:=fun w=>by
  have e:execOp (bk t) op=(do pure (.spawn (←Deferred.ofValue (bk t fo) (#[].map (bk t))))):=by unfold execOp;rw[Κ];rfl
  rw[gf bO.run bO.ro,gf bO.run bO.ro];have κ:(execOp (⟨t,b.defers⟩:_root_.Go.Act).eval op).run P w=.ok (.spawn ⟨.fn (.func g) lZ,#[]⟩) w:=by rw[k',e,hv];simp[Deferred.ofValue,Result.andThen]
  have he:(execOp (⟨t,b.defers⟩:_root_.Go.Act).eval op).events P w #[]=#[]:=by rw[k',e,hv];simp[Deferred.ofValue,Result.andThen,Result.evThen]
  rw[stepG_spawn (a:=⟨t,b.defers⟩) bO.op hw bO.kd κ rfl];have:(⟨t,b.defers⟩:_root_.Go.Act).put op.dst undef=⟨t,b.defers⟩:=by rw[qn];rfl
  rw[this];unfold listed;rw[he,seen_none]
 refine Goes.step (eE.ok (.inl dQ)) (.inr ⟨⟨rfl,rfl⟩,.inr (.inr (.inr (.inr (.inr (.inr (.inr (.inr (.inl ⟨s,sp,n,p,Go.Conc.G (ao b t (.inRegion ops rest::k)) cs,born P ⟨.fn (.func g) lZ,#[]⟩,qL S H,ma S,bQ,Μ,sF,⟨rfl,rfl⟩,⟨rfl,rfl⟩,dQ,fun w _=>yq w,XQ Α,R,?_⟩))))))))⟩);have e:({br (lg s sp) s (.ch (n-(p+1)) .idle .work) none 0 with G:=ma S}:aR)=⟨ma S,fun _=>none,upd (fun _=>.nil) s (.ch (n-(p+1)) .idle .work),upd (fun _=>none) s (some sp),fun _=>none,0,false⟩:=by
  unfold br;simp only[YX]
 rw[←e];exact γ
end
end Go.TL
namespace Go.TL
open Go.Conc Go.Proofs
open Go.ConcN (sumTo upd sumTo_upd upd_ne upd_same sumTo_congr le_sumTo)
noncomputable def xl:Code:=Tryz.f116.body.getD .skip
noncomputable def N6:Code:=dx [1,1,1,1,0,1,0,0,1,1,0,0,1,1,0,0,1,1,0,0,1] xl
noncomputable abbrev DQ (vs:Array Value):Frame:=Frame.enter Tryz.prog 116 vs .normal
abbrev env0 (s m o:Nat) (dM:aM) (rest:Χ):Χ:=(5,.z (ptr o 0))::(4,.z (ptr s 0))::(3,.z (ptr m 0))::(1,.aa [aP dM.af,aO dM.an,bz dM.cells])::rest
abbrev xm (s m o:Nat) (dM:aM) (a b:Int) (rest:Χ):Χ:=(7,.aa [U b])::(6,.aa [U a])::env0 s m o dM rest
structure DR (dM:aM) (fd:Nat→Option Found) (pr:Nat→Int×Int) (F:Nat→Found) (N:Nat→Nat):Prop where
 look:∀k,k<3→∀c:bd,@av c Tryz.prog 143 [eP dM,ax (pr k)] (cX (F k))
 many:∀k,k<3→∀c:bd,@av c Tryz.prog 78 [cX (F k),U (-1)] (U (N k))
 fd:∀k,fd k=if k<3∧0<N k then some (F k) else none
theorem DR.s6 {dM:aM} {fd:Nat→Option Found} {pr:Nat→Int×Int} {F:Nat→Found} {N:Nat→Nat} (h:DR dM fd pr F N) (L:List Nat) (Η:L.Nodup):(L.filterMap fd).length≤3:=by
 have R:L.filterMap fd=(L.filter (· < 3)).filterMap fd:=by
  rw[List.filterMap_filter];congr 1
  funext k
  by_cases e:k<3
  ·simp[e]
  ·simp[e,h.fd k]
 rw[R];refine Nat.le_trans (List.length_filterMap_le ..) ?_;have γ:(L.filter (· < 3)).Nodup:=Η.filter _;exact J6 3 _ γ fun k υ=>by simpa using (List.mem_filter.1 υ).2
variable [bd]
theorem V.boxed {P:Program} {Q:Value→Prop} {mn:Bool} {z:gy} {b:Frame} {cs:List Frame} {nt:Nat} {o:Base} {k:List Item} {env:Χ} {σ:List Row} {ops:Array Oper} {i:Nat} {rest:List Nat} {op:Oper}
  (δ:Seq z) (hb:b.mode=.run) (b7:b.roundOf=none) (Β:ops[i]?=some op) (Τ:op.guard=none) {ty:TypeId} {vk:Operand} (Κ:op.op=.box ty vk) {l:List θ} (μ:aL env vk=.aU l) (dA:l.all (θ.a0 [])=true) (bu:0<l.length)
  (h:∀(S:aA) (B:aN) (H:ψ) (t:Array Value) (r:Nat) (c:Array Value),eO o.m o.S o.B o.H o.σ S B H σ→fj o.m nt S B H σ env t→H.fresh r→(∃v,(S.lay r c) r 0=some v)→b0 S (S.lay r c) B B σ σ→Ext S B H (S.lay r c) B (H.dn r c ty)→Holds (S.lay r c) B σ (H.dn r c ty)→aj (S.lay r c) B σ (.aa l) (ptr r 0)→
   aJ P Q mn z (ao b (put op t (ptr r 0)) (.inRegion ops rest::k)) cs (H.dn r c ty)):V P Q mn z b cs nt o (.inRegion ops (i::rest)::k) env σ:=by
 intro S B H t YY χ;refine .op δ hb Β (by unfold Region.wanted;rw[Τ]) (.inl b7) ?_;have e:execOp (bk t) op=(do pure (.value (←Instr.box ty (bk t vk)))):=by unfold execOp;rw[Κ]
 have κ:=kW χ.cj vk;rw[μ] at κ;rw[e];refine ς.bind' ?_;unfold Instr.box;refine ς.bind' ?_;unfold newVar newRow;have N7:=v8 (σ:=σ) dA;have cd:=(κ.cells (a:=.aU l) N7).1;refine ς.bind' ⟨rfl,fun r e2=>ς.pure' (ς.pure' (ς.pure' ?_))⟩;obtain⟨R,γ,ο⟩:=χ.holds.lay (c:=(bk t vk).cells) (t:=ty) e2;have aE:0<(bk t vk).cells.size:=by rw[cd];exact bu
 exact h S B H t r _ YY χ e2 ⟨(bk t vk).cells[0],by simp[aA.lay,aE]⟩ ο γ R (KR ο (fw.one κ N7))
section
variable {y:aR} {Q:Value→Prop} {mn:Bool} {β s m o n:Nat} {bE:aA} {H1:ψ} {fd:Nat→Option Found} {pr:Nat→Int×Int} {F:Nat→Found} {N:Nat→Nat} {sp:Spec} {dM:aM} {v:Option (Nat×aK)} {vs:Array Value} {cs:List Frame} {k:List Item} {rest:Χ}
theorem Ia {a b:Int} (gw:pr n=(a,b)) (η:lf y s sp) (e':sp.aQ=some m) (da:sp.aG=vg β bE o fd) (dJ:∀k,sp.D k ψ.empty) (gg:sp.top=3) (Η:n<3) (dR:DR dM fd pr F N) (po:∃q v,bE β q=some v) (qw:∃q x,H1.aF β q=some x) (κ:∀p∈rest,p.1∉[16,15,7,6,5,4,3,1]∧a5 rest p.1=p.2)
  (υ:V Tryz.prog Q mn (one (br y s (.par (n+1) 0 .add) none 0)) (DQ vs) cs 23 ⟨bE,[],H1,[],0⟩ k ((6,.aa [U a])::env0 s m o dM rest) []) :
  V Tryz.prog Q mn (one (br y s (.par n 0 .add) v 0)) (DQ vs) cs 23 ⟨bE,[],H1,[],0⟩ (.code N6::k) (xm s m o dM a b rest) []:=by
 letI:bd:=eF;obtain rfl:a=(pr n).1:=by rw[gw]
 obtain rfl:b=(pr n).2:=by rw[gw]
 have δ:=η.seq;refine V.a' (δ _ _ _) rfl ?_;simp only[N6,xl,Tryz.f116,Option.getD_some,dx]
 repeat first|apply aV|apply wb|apply aX|apply wd
 refine W.ca (.stop ?_);refine V.call (δ _ _ _) ⟨rfl,rfl,by simp[Frame.enter],rfl⟩ rfl rfl rfl ⟨_,Tryz.func140,rfl,rfl⟩ fun S B H t oq μ χ hv=>?_;obtain rfl:=l4 (l:=[ptr s 0,.int .i64 1]) hv;obtain rfl:B=[]:=dq.1 χ.holds.len;rintro kY rfl;refine Xj η (by omega) χ.holds fun v2 cO bJ mE iA=>?_;rw[hO rfl];have rP:b0 S cO [] [] [] []:=⟨mE.c6,fun id r h=>by simp at h⟩;refine V.here (x:=one _) (m:=0) (nt:=23) (S:=cO) (B:=[]) (σ:=[]) (env:=(15,.z (.tuple #[]))::xm s m o dM (pr n).1 (pr n).2 rest) ?_ ⟨iA,c7.later (c7.put χ.cj (d:=15) (by rw[χ.size];omega) (.z (.tuple #[]))) rP,Eq.trans (Array.size_setIfInBounds ..) χ.size,Nat.zero_le _⟩ _ rfl;refine V.a' (δ _ _ _) rfl ?_;refine W.bB ?_;refine W.ca ?_;refine W.part (A:=[]) Θ [0] [1] rfl fun J I=>?_;(try simp);(repeat (rw[ζ];simp));apply I;clear I J;refine W.stop ?_;intro jW jX iF t3 g5 fb;obtain rfl:jX=[]:=dq.1 fb.holds.len;rintro kY rfl;have bR:=fb.cj 16;simp only[a5,if_true] at bR;obtain⟨ai,zT⟩:∃ai,ai=t3.getD 16 undef:=⟨_,rfl⟩;rw[←zT] at bR;have Ib:eO 0 bE [] H1 [] jW [] iF []:=μ.trans ((eO.of mE rP).trans g5);cases bR with
 | fn w1 w2 Ξ ad aT ck=>
  have Ε:w1=#[]:=Array.eq_empty_of_size_eq_zero (by rw[←Ξ];rfl);subst Ε;obtain⟨l2⟩:=w2
  match l2,ad with
  | [N8,ui,m9,qb,YZ,Y0],_=>
   have tn:N8=ptr s 0:=by have:=ck 0 _ _ rfl rfl;cases this;rfl
   have Y1:YZ=ptr m 0:=by have:=ck 4 _ _ rfl rfl;cases this;rfl
   have Y2:Y0=ptr o 0:=by have:=ck 5 _ _ rfl rfl;cases this;rfl
   subst tn;subst Y1;subst Y2;have HU:fl jW [] [] (HP s m o dM (pr n).1 (pr n).2) (Dz s m o ui m9 qb):=⟨rfl,fun i a v R γ=>ck i a v R γ⟩;refine cf.Ff (s:=s) (n:=n+1) (p:=0) (sp:=sp) η.rel rfl η.spec bZ ⟨rfl,rfl,by simp[Frame.enter],rfl⟩ rfl rfl rfl zT.symm (S:=jW) fb.holds ?_ ?_
   ·rw[gD];have ξ:=XT fb.holds;have Y3:∀g:θ,∀p∈(6,.aa [U (pr n).1])::env0 s m o dM rest,a5 ((16,g)::(15,.z (.tuple #[]))::xm s m o dM (pr n).1 (pr n).2 rest) p.1=p.2:=fun g p χ=>by
     simp only[env0,List.mem_cons] at χ;rcases χ with rfl|rfl|rfl|rfl|rfl|χ<;>first|rfl|skip
     obtain⟨R,γ⟩:=κ p χ;simp only[List.mem_cons,List.not_mem_nil,or_false,not_or] at R;obtain⟨c1,c2,c3,c4,mA,rr,qk,Y4⟩:=R;simp only[a5,Ne.symm c1,Ne.symm c2,Ne.symm c3,Ne.symm c4,Ne.symm mA,Ne.symm rr,Ne.symm qk,Ne.symm Y4,if_false];exact γ
    refine V.a' (δ (.par (n+1) 0 .add) none 0) rfl (W.bB (W.forget ((6,.aa [U (pr n).1])::env0 s m o dM rest) (Y3 _) (.stop υ))) jW [] _ t3 (Ib.trans (eO.of ξ (b0.refl ..))) ⟨XR fb.holds,fb.cj,fb.size,Nat.zero_le _⟩ _ rfl
   ·refine X7 e' (by omega) da (dJ _) (dR.look n Η) (dR.many n Η) ?_ (fun L aD=>?_) ?_ (fun b q u hu=>?_) HU
    ·show fd n=_;rw[dR.fd n];simp[Η]
    ·rw[List.length_map];have:=dR.s6 L aD;omega
    ·obtain⟨q,u,hu⟩:=po;exact⟨q,u,Ib.ext.c6 _ _ _ hu⟩
    ·obtain⟨hf,N8,DD⟩:=qw;rcases Ib.ext.qa b q u hu with h|⟨N,h⟩|h
     ·exact .inl (by rw[h];simp)
     ·simp at h
     ·exact .inr (HM DD h)
end
structure Calm (y:aR):Prop where
 rel:y.rel=false
 aC:y.aC=fun _=>none
 deaf:y.deaf=0
 shut:∀s,fC (y.tok s)
def calm:gy:=Calm
@[reducible] def nG:bd:=⟨fun x=>x=calm⟩
variable [bd]
def r8 (x y:Found):Int:=mI (x.u,x.v) (y.u,y.v)
def nH (x y:Found):Prop:=x.u<y.u∨(x.u=y.u∧x.v<y.v)
theorem Y5 (x y:Found):ar r8 x y=true↔nH x y:=by
 have h:=rU (x.u,x.v) (y.u,y.v)
 have e:ar r8 x y=ar mI (x.u,x.v) (y.u,y.v):=rfl;rw[e,h];simp[nH]
theorem Y6:Go.Sort.SWO (ar r8) where
 irrefl x:=wQ.irrefl (x.u,x.v)
 trans x y z:=wQ.trans (x.u,x.v) (y.u,y.v) (z.u,z.v)
 ntrans x y z:=wQ.ntrans (x.u,x.v) (y.u,y.v) (z.u,z.v)
instance:Inhabited Found:=⟨⟨0,0,[]⟩⟩
theorem Y7 {m:List Found} (h:m.Pairwise nH):∀a∈m,∀b∈m,¬nH a b→¬nH b a→a=b:=by
 induction h with
 | nil=>intro a μ;cases μ
 | cons R γ Γ=>
  intro a μ b hb ο Ι;rcases List.mem_cons.1 μ with kp|dV<;>rcases List.mem_cons.1 hb with h6|dv
  ·rw[kp,h6]
  ·exact absurd (kp▸R b dv) ο
  ·exact absurd (h6▸R a dV) Ι
  ·exact Γ a dV b dv ο Ι
theorem Y8 {l m:List Found} (χ:l.Perm m) (hm:m.Pairwise nH):(Go.Sort.insertionSort (ar r8) l.toArray 0 l.length).toList=m:=by
 obtain⟨⟨cd,_,Ic⟩,γ⟩:=Go.Sort.insertionSort_holds (lt:=ar r8) Y6 l.toArray 0 l.length (Nat.zero_le _) (by simp);generalize Go.Sort.insertionSort (ar r8) l.toArray 0 l.length=d at cd Ic γ;have FF:d.size=l.length:=by simpa using cd
 have Ε:d.extract 0 l.length=d:=by rw[←FF];exact Array.extract_size
 have Δ:l.toArray.extract 0 l.length=l.toArray:=by
  simp
 rw[Ε,Δ] at Ic;have N9:d.toList.Perm m:=Ic.trans χ;have Y9:∀x y,ar r8 x y=false↔¬nH x y:=fun x y=>by rw[←Y5];simp
 refine List.Perm.eq_of_pairwise (le:=fun x y=>¬nH y x) (fun a b μ hb ο Ι=>?_) ?_ (hm.imp fun {a b} h k=>?_) N9
 ·exact Y7 hm a (N9.mem_iff.1 μ) b hb Ι ο
 ·rw[List.pairwise_iff_getElem];intro i j hi ε fs;have:=γ i j (Nat.zero_le _) fs (by simpa[FF] using ε);rw[Y9] at this;rw[getElem!_pos d j (by simpa using ε),getElem!_pos d i (by simpa using hi)] at this;simpa using this
 ·simp only[nH] at h k;omega
theorem Y' {D:Nat→ψ→Prop} (dJ:∀k E,D k E→E=ψ.empty):∀(L:List Nat) (E:ψ),kM D L E→E=ψ.empty:=by
 intro L
 induction L with
 | nil=>intro E h;exact h
 | cons k Js Γ=>
  rintro E ⟨oR,oS,R,γ,_,rfl⟩;rw[dJ k oR R,Γ oS γ];exact E1 _
end Go.TL
