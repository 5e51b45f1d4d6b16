import Derived.Test.YtlabjopijpkiaaaGreatQAT
import Derived.Test.YtlabjopijpkiaaaGreatQBP
set_option maxHeartbeats 16000000
set_option maxRecDepth 20000
set_option linter.unusedSectionVars false
set_option linter.unusedSimpArgs false
set_option linter.unusedVariables false
namespace Go.TL
open Go.Proofs
variable [bd]
def tw (g:FuncId) (args:List θ) (d:cy) (ab:θ→Prop):Prop:=ak Tryz.prog g (.ag 0 1 0 0::args) [b1 d] (fun a s=>∃r eb,db a r∧ab r∧s=[b1 eb]∧eb.bf.length≤d.bf.length) (fun _ _=>False)
theorem tw.c {g:FuncId} {args fU:List θ} {d:cy} {ab:θ→Prop} {σ:List Row} {K E:θ→List Row→Prop} (h:tw g args d ab) (id:Nat) (bU:σ[id]?=some (b1 d)) (he:aI fU args) (μ:∀a∈fU,az 0 a) (κ:∀r,ab r→az 0 r) (I:∀r eb,ab r→eb.bf.length≤d.bf.length→K r (σ.set id (b1 eb))):hR Tryz.prog (.fn (.func g) [] []) (.ag id 1 0 0::fU) σ K E:=by
 refine ak.GK (as0:=.ag 0 1 0 0::fU) (K0:=fun a s=>∃eb,ab a∧s=[b1 eb]∧eb.bf.length≤d.bf.length) (ak.nm h (.cons (.refl _) he) fun a s ⟨r,eb,R,γ,ο,Ι⟩=>⟨r,R,eb,γ,ο,Ι⟩) id bU (oH d) ?_ ?_ ?_
 ·intro a hm;rcases List.mem_cons.1 hm with rfl|hm
  ·exact Nat.zero_lt_one
  ·exact(μ a hm).ih 1
 ·rw[List.map_cons,OJ μ];rfl
 ·rintro a s ⟨eb,R,γ,ο⟩;exact⟨b1 eb,γ,oH eb,(κ a R).ih 1,by rw[(κ a R).dP];exact I a eb R ο⟩
section
variable {P:Program} {m nt:Nat} {k:List Item} {env:Χ} {Z:List Item→Χ→List Row→Prop} {E:θ→Χ→List Row→Prop}
theorem W.OT {d:cy} {t kk n:Nat} {l:List θ} {x:Nat} (hm:m≤1) (ω:l.length=n) (hb:∀e∈l,∀a∈e.cells,az 0 a) (hd:a5 env x=.ms 1 n 0 n) (hW:W P m nt k [(x,.sl false kk l)] [b1 d] Z E):W P m nt k env [b1 d,.cells t kk l] Z E:=
 W.cut 1 hm [(x,.sl false kk l)] (by simp) (fun id r bU κ=>by
  have:id=0:=by omega
  subst this;simp at κ;subst κ;exact sc d 1) (fun p χ=>by
  simp at χ;subst χ;show ey 1 _ (a5 env x) _;rw[hd];exact .own (t:=t) (Nat.le_refl _) rfl ω (fun e he a μ=>(hb e he a μ).mono (Nat.zero_le _))) (by simpa using hW)
end
theorem qS {l:List k4}:∀e∈l.map er,∀a∈e.cells,az 0 a:=fun e he a μ=>by
 obtain⟨x,_,rfl⟩:=List.mem_map.1 he;simp[θ.cells] at μ;rcases μ with rfl|rfl<;>exact .z _
def xv:List ByteArray:=[⟨#[97]⟩,⟨#[98]⟩,⟨#[99]⟩,⟨#[100]⟩,⟨#[111]⟩,⟨#[122]⟩]
theorem aχ:∀i<6,xv[i]?=some (mo i):=by decide
structure OU where
 i:Nat
 d:cy
 aG:List Nat
theorem aψ (d:cy) (hd:d.bf.length<2 ^ 63) (h0:Nat) (hY:1≤h0) (xw:h0≤6):tw 128 [U h0] d (fun r=>∃l,r=aP l∧oL l):=by
 unfold tw;refine ak.body Θ Tryz.func128 rfl rfl Tryz.ntmps128 rfl rfl (by simp) ?_;(repeat (first|apply ι|(refine ν fun J I=>?_;simp;(repeat (rw[ζ];simp));apply I;clear I J)));obtain⟨l0,l1⟩:=DY d (a:=1) (b:=63) (by decide) (by decide) (by decide);obtain⟨last,iW⟩:∃x,oI d 1 63=x:=⟨_,rfl⟩;obtain⟨d1,jC⟩:∃x,d.after (IntKind.i64.wrap (63-1))=x:=⟨_,rfl⟩;have aω:d1.bf.length≤d.bf.length:=by rw[←jC];exact mb _ _
 have Ρ:=DX d hd 1 63;rw[iW,jC] at Ρ;rw[iW] at l0 l1;(repeat (first|apply ι));refine ν fun J I=>?_;simp;(repeat (rw[ζ];simp));refine eB.c (Ρ) 0 rfl (aI.refl _) (by simp) (by simp) ?_;simp;(repeat (rw[ζ];simp));apply I;clear I J
 repeat first|apply ι
 have Β:=OL d1 (by omega) 11 (by decide)
 have z':=aο d1
 have D1:=Nat.le_trans (Iu d1 11) aω;obtain⟨ord,tt⟩:∃x,(gS d1 11).1=x:=⟨_,rfl⟩;obtain⟨d2,mS⟩:∃x,(gS d1 11).2=x:=⟨_,rfl⟩;rw[tt] at z';rw[tt,mS] at Β;rw[mS] at D1;(repeat (first|apply ι));refine ν fun J I=>?_;simp;(repeat (rw[ζ];simp));refine eB.c (Β) 0 rfl (aI.refl _) (by simp) (by simp) ?_;simp;(repeat (rw[ζ];simp));apply I;clear I J;(repeat (first|apply ι|(refine ν fun J I=>?_;simp;(repeat (rw[ζ];simp));apply I;clear I J)));obtain⟨oW,hc⟩:=DY d2 (a:=1) (b:=h0) (by omega) (by decide) (by omega);obtain⟨n,Η⟩:∃n:Nat,oI d2 1 h0=n:=⟨(oI d2 1 h0).toNat,by omega⟩;rw[Η] at oW hc;obtain⟨d3,Aa⟩:∃x,d2.after (IntKind.i64.wrap ((h0:Int)-1))=x:=⟨_,rfl⟩;have IA:d3.bf.length≤d.bf.length:=by rw[←Aa];exact Nat.le_trans (mb _ _) D1
 have FN:=DX d2 (by omega) 1 h0;rw[Η,Aa] at FN;(repeat (first|apply ι));refine ν fun J I=>?_;simp;(repeat (rw[ζ];simp));refine eB.c (FN) 0 rfl (aI.refl _) (by simp) (by simp) ?_;simp;(repeat (rw[ζ];simp));apply I;clear I J;(repeat (first|apply ι|(refine ν fun J I=>?_;simp;(repeat (rw[ζ];simp));apply I;clear I J)));have cm:xv.length=6:=rfl;have fS:(iQ++[last]).length=12:=by simp[iQ]
 obtain⟨vp,D2⟩:∃x,x=iQ++[last]:=⟨_,rfl⟩;rw[←D2] at fS;have cY:∀aG:List Nat,(aG.map (j1 ord last)).length=aG.length:=fun aG=>List.length_map _;refine W.iter (fun x:OU=>x.i≤6∧x.d.bf.length≤d.bf.length∧x.aG.Pairwise (· < ·)∧(∀j∈x.aG,j<x.i)∧x.aG.length≤n∧n+x.i≤6+x.aG.length)
  (fun x=>[(0,.ag 0 1 0 0),(5,.sl true 1 (xv.map mG)),(6,.sl true 1 (vp.map U)),(7,a3 U 1 ord),(8,cI 1 ((x.aG.map (j1 ord last)).map er)),(9,U n),(10,U x.i)])
  (fun x=>b1 x.d::bq 77 2 ((x.aG.map (j1 ord last)).map er)) (fun x=>6-x.i) ⟨0,d3,[]⟩ ⟨by simp,IA,by simp,by simp,by simp,by simp;omega⟩ rfl (by rw[D2];intro p χ;simp only[List.mem_cons,List.not_mem_nil,or_false] at χ;rcases χ with rfl|rfl|rfl|rfl|rfl|rfl|rfl<;>rfl) (fun x δ Γ=>?_)
 obtain⟨i,D,aG⟩:=x;obtain⟨aΑ,mT,D3,Ab,OV,aΒ⟩:=δ;simp only at aΑ mT D3 Ab OV aΒ Γ ⊢;obtain⟨G,xx⟩:∃G,G=aG.map (j1 ord last):=⟨_,rfl⟩;have gQ:G.length=aG.length:=by rw[xx];exact cY aG
 rw[←xx];have qZ:(cI 1 (G.map er)=.sl true 0 []∧bq 77 2 (G.map er)=[]∧aG.length=0)∨(cI 1 (G.map er)=.ms 1 aG.length 0 aG.length∧bq 77 2 (G.map er)=[.cells 77 2 (G.map er)]∧0<aG.length):=by
  by_cases Ν:G=[]
  ·subst Ν;exact .inl ⟨rfl,rfl,by simpa using gQ.symm⟩
  ·have fV:G.map er≠[]:=by simpa using Ν
   refine .inr ⟨by rw[gR fV,List.length_map,gQ],ea fV,?_⟩;have:=List.length_pos_iff.2 Ν;omega
 repeat first|apply ι
 refine W.hl (A:=[]) Θ [(35,bm (decide (i<6)&&decide (aG.length<n))),(0,.ag 0 1 0 0),(5,.sl true 1 (xv.map mG)),(6,.sl true 1 (vp.map U)),(7,a3 U 1 ord),(8,cI 1 (G.map er)),(9,U n),(10,U i)] (b1 D::bq 77 2 (G.map er)) ?_ (by
  by_cases hi:i<6
  ·have a2:(i:Int)<6:=by omega
   rcases qZ with⟨Ε,Δ,a4⟩|⟨Ε,Δ,a4⟩
   ·rw[Ε,Δ];(try simp);(repeat (rw[ζ];simp[a2,cm,a4,hi]));(try simp[a2,cm,a4,hi])
   ·rw[Ε,Δ];(try simp);(repeat (rw[ζ];simp[a2,cm,gQ,hi]));(try simp[a2,cm,gQ,hi])
  ·have hi:i=6:=by omega
   subst hi;rcases qZ with⟨Ε,Δ,a4⟩|⟨Ε,Δ,a4⟩
   ·rw[Ε,Δ];(try simp);(repeat (rw[ζ];simp[cm]));(try simp[cm])
   ·rw[Ε,Δ];(try simp);(repeat (rw[ζ];simp[cm]));(try simp[cm]))
 refine W.dY rfl (fun η=>?_) (fun η=>?_)
 ·simp only[Bool.and_eq_true,decide_eq_true_eq] at η;obtain⟨hi,OW⟩:=η;have iL:IntKind.i64.wrap (6-(i:Int))=6-i:=IntWalk.i64_in _ (by omega);have h3:IntKind.i64.wrap ((n:Int)-aG.length)=n-aG.length:=IntWalk.i64_in _ (by omega);have iO:IntKind.i64.wrap ((i:Int)+1)=((i+1:Nat):Int):=by rw[IntWalk.i64_in _ (by omega)];omega
  repeat first|apply ι
  have u1:D.bf.length<2 ^ 63:=by omega
  have sd:=It D u1 3 (by decide) (by decide);obtain⟨π,ru⟩:∃x,vm D 3=x:=⟨_,rfl⟩;obtain⟨oM,pL⟩:∃x,D.after (3-1)=x:=⟨_,rfl⟩;have IB:oM.bf.length≤d.bf.length:=by rw[←pL];exact Nat.le_trans (mb _ _) mT
  rw[ru,pL] at sd;obtain⟨lh,se⟩:∃x,x=if(n:Int)-aG.length<6-i then oM else D:=⟨_,rfl⟩
  have Ac:lh.bf.length≤d.bf.length:=by rw[se];split<;>assumption
  refine W.hl (A:=[]) Θ [(50,bm (decide ((n:Int)-aG.length<6-i)&&π)),(0,.ag 0 1 0 0),(5,.sl true 1 (xv.map mG)),(6,.sl true 1 (vp.map U)),(7,a3 U 1 ord),(8,cI 1 (G.map er)),(9,U n),(10,U i)] (b1 lh::bq 77 2 (G.map er)) ?_ (by
   by_cases mU:(n:Int)-aG.length<6-i
   ·rw[if_pos mU] at se;rw[se];rcases qZ with⟨Ε,Δ,a4⟩|⟨Ε,Δ,a4⟩
    ·rw[Ε,Δ];rw[a4] at mU h3;simp only[Int.natCast_zero,Int.sub_zero] at mU h3;(try simp);(repeat (rw[ζ];simp[cm,iL,h3,mU,a4]));(try simp[cm,iL,h3,mU,a4]);refine eB.c (sd) 0 rfl (aI.refl _) (by simp) (by simp) ?_;simp;(repeat (rw[ζ];simp));(try simp)
    ·rw[Ε,Δ];(try simp);(repeat (rw[ζ];simp[cm,iL,h3,mU,gQ]));(try simp[cm,iL,h3,mU,gQ]);refine eB.c (sd) 0 rfl (aI.refl _) (by simp) (by simp) ?_;simp;(repeat (rw[ζ];simp));(try simp)
   ·rw[if_neg mU] at se;rw[se];rcases qZ with⟨Ε,Δ,a4⟩|⟨Ε,Δ,a4⟩
    ·rw[Ε,Δ];rw[a4] at mU h3;simp only[Int.natCast_zero,Int.sub_zero] at mU h3;(try simp);(repeat (rw[ζ];simp[cm,iL,h3,mU,a4]));(try simp[cm,iL,h3,mU,a4])
    ·rw[Ε,Δ];(try simp);(repeat (rw[ζ];simp[cm,iL,h3,mU,gQ]));(try simp[cm,iL,h3,mU,gQ]))
  refine W.dY rfl (fun aZ=>?_) (fun aZ=>?_)
  ·simp only[Bool.and_eq_true,decide_eq_true_eq] at aZ;refine W.exit rfl ?_;(repeat (first|apply ι|(refine ν fun J I=>?_;simp;(repeat (rw[ζ];simp[iO]));apply I;clear I J)));refine W.to (Γ ⟨i+1,lh,aG⟩ ⟨by show i+1≤6;omega,Ac,D3,fun j ε=>by have:=Ab j ε;show j<i+1;omega,OV,by show n+(i+1)≤6+aG.length;omega⟩ (by show 6-(i+1)<6-i;omega)) (by rw[xx]) ?_;rw[←xx];simp[iO]
  ·have mq:n+i+1≤6+aG.length+1:=by omega
   obtain⟨k,υ,Ad,cg⟩:=z'.get (i:=i) (by omega);obtain⟨cg,_,_⟩:=cg last;have D4:j1 ord last i=⟨mo i,iQ.getD k 0⟩:=by
    obtain⟨Ω,_,gY,e,_⟩:=DZ z' last (i:=i) (by omega);rw[Ad] at gY;have qi:Ω=k:=by have:=Option.some.inj gY;omega
    subst qi;show(⟨mo i,(j1 ord last i).ep⟩:k4)=_;rw[e]
   obtain⟨st,lC⟩:∃x,iQ.getD k 0=x:=⟨_,rfl⟩;rw[lC] at D4;rw[lC,←D2] at cg;have kj:=aχ i hi;have OX:∀h,xv[i]'h=mo i:=fun h=>by rw[bc h] at kj;exact Option.some.inj kj
   have OY:∀h,ord[i]'h=(k:Int):=fun h=>by rw[bc h] at Ad;exact Option.some.inj Ad
   have OZ:∀h,vp[k]'h=st:=fun h=>by rw[bc h] at cg;exact Option.some.inj cg
   have yM:=z'.len
   have D5:(G++[j1 ord last i])=(aG++[i]).map (j1 ord last):=by rw[xx];simp
   repeat first|apply ι
   have bu:(G++[j1 ord last i]).map er≠[]:=by simp
   have tq:(⟨i+1,lh,aG++[i]⟩:OU).i≤6∧lh.bf.length≤d.bf.length∧(aG++[i]).Pairwise (· < ·)∧(∀j∈aG++[i],j<i+1)∧(aG++[i]).length≤n∧n+(i+1)≤6+(aG++[i]).length:=by
    refine⟨hi,Ac,?_,?_,?_,?_⟩
    ·rw[List.pairwise_append];exact⟨D3,by simp,fun a μ b hb=>by simp at hb;subst hb;exact Ab a μ⟩
    ·intro j ε;rcases List.mem_append.1 ε with ε|ε
     ·have:=Ab j ε;omega
     ·simp at ε;omega
    ·simp;omega
    ·simp;omega
   rcases qZ with⟨Ε,Δ,a4⟩|⟨Ε,Δ,a4⟩
   ·rw[Ε,Δ];refine W.draw (A:=[65]) Θ mixed fun J I=>?_;simp;(repeat (rw[bp];simp[cm,fS,yM,kj,OX,Ad,OY,cg,OZ]));refine⟨by omega,by omega,by omega,?_⟩;refine⟨bL (by kernel_rfl),I _ _ ?_⟩;clear I J;(repeat (first|apply ι|(refine ν fun J I=>?_;simp;(repeat (rw[ζ];simp[iO]));apply I;clear I J)));have Ν:G=[]:=dq.1 (by omega);refine W.to (Γ ⟨i+1,lh,aG++[i]⟩ tq (by show 6-(i+1)<6-i;omega)) ?_ ?_
    ·have e:bq 77 2 (((aG++[i]).map (j1 ord last)).map er)=[.cells 77 2 [er ⟨mo i,st⟩]]:=by rw[←D5,ea bu,Ν,D4];rfl
     simp only[e]
    ·have e:cI 1 (((aG++[i]).map (j1 ord last)).map er)=.ms 1 1 0 1:=by rw[←D5,gR bu,Ν,D4];rfl
     simp only[e];simp[iO]
   ·rw[Ε,Δ];refine W.draw (A:=[65]) Θ mixed fun J I=>?_;simp;(repeat (rw[bp];simp[cm,fS,yM,kj,OX,Ad,OY,cg,OZ,gQ]));refine⟨by omega,by omega,by omega,by omega,?_⟩;refine⟨bL (by kernel_rfl),I _ _ ?_⟩;clear I J;(repeat (first|apply ι|(refine ν fun J I=>?_;simp;(repeat (rw[ζ];simp[iO]));apply I;clear I J)));refine W.to (Γ ⟨i+1,lh,aG++[i]⟩ tq (by show 6-(i+1)<6-i;omega)) ?_ ?_
    ·have e:bq 77 2 (((aG++[i]).map (j1 ord last)).map er)=[.cells 77 2 (G.map er++[er ⟨mo i,st⟩])]:=by rw[←D5,ea bu,List.map_append,D4];rfl
     simp only[e]
    ·have e:cI 1 (((aG++[i]).map (j1 ord last)).map er)=.ms 1 (aG.length+1) 0 (aG.length+1):=by rw[←D5,gR bu,List.length_map,List.length_append,gQ];rfl
     simp only[e];simp[iO]
 ·have OW:aG.length=n:=by
   simp only[Bool.and_eq_false_iff,decide_eq_false_iff_not] at η;omega
  refine W.exit rfl ?_;rcases qZ with⟨Ε,Δ,a4⟩|⟨Ε,Δ,a4⟩
  ·omega
  rw[OW] at Ε gQ;have O0:oL G:=by rw[xx];exact aφ z' last D3 (fun j ε=>by have:=Ab j ε;omega) (by omega) (by omega)
  have IC:vp[11]?=some last:=by rw[D2];rfl
  have aΓ:∀h,vp[11]'h=last:=fun h=>by rw[bc h] at IC;exact Option.some.inj IC
  refine W.to (env':=[(0,.ag 0 1 0 0),(6,.sl true 1 (vp.map U)),(8,.ms 1 n 0 n),(9,U n)]) (σ':=[b1 D,.cells 77 2 (G.map er)]) ?_ (by rw[Δ]) (by rw[Ε];simp);have aΔ:IntKind.i64.wrap 11=11:=by decide
  (repeat (first|apply ι|(refine ν fun J I=>?_;simp;(repeat (rw[ζ];simp[fS,IC,aΓ,aΔ]));apply I;clear I J)));refine W.iter (fun x:Nat×Bool=>x.1≤n∧(x.2=true→∀g∈G.take x.1,g.ep≠last)) (fun x=>[(0,.ag 0 1 0 0),(8,.ms 1 n 0 n),(11,U last),(12,bm x.2),(13,U x.1)]) (fun _=>[b1 D,.cells 77 2 (G.map er)]) (fun x=>n-x.1) (0,true) ⟨Nat.zero_le _,by simp⟩ rfl (by simp) (fun x δ Ae=>?_);obtain⟨j,ao⟩:=x;obtain⟨ε,mq⟩:=δ;simp only at ε mq Ae ⊢;(repeat (first|apply ι|(refine ν fun J I=>?_;simp;(repeat (rw[ζ];simp[gQ]));apply I;clear I J)));refine W.dY rfl (fun η=>?_) (fun η=>?_)
  ·have eI:j<n:=by simpa using η
   have ID:G[j]?=some (G[j]'(by omega)):=bc (by omega);obtain⟨g,Τ⟩:∃g,g=G[j]'(by omega):=⟨_,rfl⟩;rw[←Τ] at ID;have O1:∀h,G[j]'h=g:=fun h=>Τ.symm;have iO:IntKind.i64.wrap ((j:Int)+1)=((j+1:Nat):Int):=by rw[IntWalk.i64_in _ (by omega)];omega
   have kl:G.take (j+1)=G.take j++[g]:=by rw[List.take_succ_eq_append_getElem (by omega),Τ]
   repeat first|apply ι
   refine W.hl (A:=[]) Θ [(0,.ag 0 1 0 0),(8,.ms 1 n 0 n),(11,U last),(12,bm (ao&&decide (g.ep≠last))),(13,U j)] [b1 D,.cells 77 2 (G.map er)] ?_ (by
    cases ao
    ·(try simp);(repeat (rw[ζ];simp[gQ]));(try simp[gQ])
    ·(try simp);(repeat (rw[ζ];simp[gQ,ID,O1]));(try simp[gQ,ID,O1]);omega)
   (repeat (first|apply ι|(refine ν fun J I=>?_;simp;(repeat (rw[ζ];simp[iO]));apply I;clear I J)));refine W.to (Ae (j+1,ao&&decide (g.ep≠last)) ⟨eI,fun h=>?_⟩ (by show n-(j+1)<n-j;omega)) rfl (by simp[iO]);simp only[Bool.and_eq_true,decide_eq_true_eq] at h;intro y Ο;rw[kl] at Ο;rcases List.mem_append.1 Ο with Ο|Ο
   ·exact mq h.1 y Ο
   ·simp at Ο;subst Ο;exact h.2
  ·have eI:j=n:=by simp at η;omega
   have aΕ:ao=true→∀g∈G,g.ep≠last:=fun h=>by
    have:=mq h
    rwa [List.take_of_length_le (by omega)] at this
   refine W.exit rfl ?_;have u1:D.bf.length<2 ^ 63:=by omega
   have sd:=It D u1 3 (by decide) (by decide);obtain⟨π,ru⟩:∃x,vm D 3=x:=⟨_,rfl⟩;obtain⟨oM,pL⟩:∃x,D.after (3-1)=x:=⟨_,rfl⟩;have IB:oM.bf.length≤d.bf.length:=by rw[←pL];exact Nat.le_trans (mb _ _) mT
   rw[ru,pL] at sd;obtain⟨lh,se⟩:∃x,x=if ao then oM else D:=⟨_,rfl⟩
   have Ac:lh.bf.length≤d.bf.length:=by rw[se];split<;>assumption
   repeat first|apply ι
   refine W.hl (A:=[]) Θ [(92,bm (ao&&π)),(0,.ag 0 1 0 0),(8,.ms 1 n 0 n),(11,U last)] [b1 lh,.cells 77 2 (G.map er)] ?_ (by
    cases ao
    ·rw[se];(try simp);(repeat (rw[ζ];simp[gQ]));(try simp[gQ])
    ·rw[se];(try simp);(repeat (rw[ζ];simp[gQ]));(try simp[gQ]);refine eB.c (sd) 0 rfl (aI.refl _) (by simp) (by simp) ?_;simp;(repeat (rw[ζ];simp));(try simp))
   refine W.dY rfl (fun aZ=>?_) (fun aZ=>?_)
   ·simp only[Bool.and_eq_true] at aZ;have iL:IntKind.i64.wrap ((n:Int)-1)=n-1:=IntWalk.i64_in _ (by omega);have vY:=tv lh (by omega) ((n:Int)-1);obtain⟨t0,t1⟩:=sa lh ((n:Int)-1) (by omega) (by omega);obtain⟨k,υ⟩:∃k:Nat,hq lh ((n:Int)-1)=k:=⟨(hq lh ((n:Int)-1)).toNat,by omega⟩;obtain⟨IE,O2⟩:∃x,lh.after ((n:Int)-1)=x:=⟨_,rfl⟩;have aΖ:IE.bf.length≤d.bf.length:=by rw[←O2];exact Nat.le_trans (mb _ _) Ac
    rw[υ,O2] at vY;rw[υ] at t1;have O3:k<G.length:=by omega
    have IF:G[k]?=some (G[k]'O3):=bc O3;obtain⟨g,Τ⟩:∃g,g=G[k]'O3:=⟨_,rfl⟩;rw[←Τ] at IF;have O4:∀h,G[k]'h=g:=fun h=>Τ.symm
    repeat first|apply ι
    refine W.hl (A:=[]) Θ [(8,.ms 1 n 0 n)] [b1 IE,.cells 77 2 ((G.set k ⟨g.name,last⟩).map er)] ?_ (by
     (try simp);(repeat (rw[ζ];simp[gQ,iL]));(try simp[gQ,iL]);refine eB.c (vY) 0 rfl (aI.refl _) (by simp) (by simp) ?_;simp[IF,O4,gQ];(repeat (rw[ζ];simp[IF,O4,gQ]));first|omega|(refine⟨by omega,?_⟩;simp[List.map_set]))
    (repeat (first|apply ι|(refine ν fun J I=>?_;simp;(repeat (rw[ζ];simp));apply I;clear I J)));rw[←List.map_set];refine W.OT (x:=4) (n:=n) (l:=(G.set k ⟨g.name,last⟩).map er) (Nat.le_refl _) (by rw[List.length_map];simp[gQ]) qS ?_ ?_
    ·simp
    exact W.ret ⟨_,rfl,_,IE,.refl _,⟨_,rfl,by rw[Τ];exact O0.set O3 l0 l1 (aΕ aZ.1)⟩,rfl,aΖ⟩
   ·(repeat (first|apply ι|(refine ν fun J I=>?_;simp;(repeat (rw[ζ];simp));apply I;clear I J)));refine W.OT (x:=4) (n:=n) (l:=G.map er) (Nat.le_refl _) (by rw[List.length_map];simp[gQ]) qS ?_ ?_
    ·simp
    exact W.ret ⟨_,rfl,_,lh,.refl _,⟨_,rfl,O0⟩,rfl,Ac⟩
end Go.TL
namespace Go.TL
open Go.Conc
variable [bd]
inductive qT (id k:Nat) (l:List θ):θ→θ→Prop where
 | same (a:θ):qT id k l a a
 | ms:qT id k l (.ms id l.length 0 l.length) (.sl false k l)
 | ag {e:θ}:l=[e]→qT id k l (.ag id 1 0 0) (.aa e.cells)
def Af (id k:Nat) (l:List θ) (r r':Row):Prop:=r'=r∨∃t n es es',r=.cells t n es∧r'=.cells t n es'∧es'.length=es.length∧
 ∀(i:Nat) (e aH:θ),es[i]?=some e→es'[i]?=some aH→aH.cells.length=e.cells.length∧∀(x:Nat) (a b9:θ),e.cells[x]?=some a→aH.cells[x]?=some b9→qT id k l a b9
section
variable {P:Program} {S:aA} {B:aN} {H:ψ} {σ σ':List Row} {m nt id k:Nat} {t:TypeId} {l:List θ} {kk:List Item} {env:Χ} {Z:List Item→Χ→List Row→Prop} {E:θ→Χ→List Row→Prop}
def aA.set (S:aA) (B:aN) (H:ψ) (id:Nat):aA:=fun b o=>match B[id]? with
 | some (some (cU,_))=>if b=cU then(H.aF b o).map (·.1) else S b o
 | _=>S b o
theorem O5 {b N:Nat} (hb:B[id]?=some (some (b,N))) (o:Nat):S.set B H id b o=(H.aF b o).map (·.1):=by
 unfold aA.set;rw[hb];simp
theorem O6 (Α:Holds S B σ H) (bH:σ[id]?=some (.cells t k l)):∀b o v,S b o=some v→S.set B H id b o=some v:=fun b o v hv=>by
 unfold aA.set;split
 ·rename_i cU N hb;split
  ·rename_i e;subst e;rw[Α.sep id _ b N bH trivial hb o] at hv;cases hv
  ·exact hv
 ·exact hv
theorem b0.xy (Α:Holds S B σ H) (bH:σ[id]?=some (.cells t k l)) (xz:σ'[id]?=some .dead) (nh:∀j r,j≠id→σ[j]?=some r→∃r',σ'[j]?=some r'∧Af id k l r r'):b0 S (S.set B H id) B B σ σ':=
 ⟨O6 Α bH,fun j r κ=>by
  by_cases e:j=id
  ·subst e;rw[bH] at κ;cases κ;exact⟨.dead,xz,.inr fun n _=>trivial⟩
  ·obtain⟨r',R,γ⟩:=nh j r e κ;refine⟨r',R,?_⟩;rcases γ with rfl|⟨t,n,es,es',rfl,rfl,ο,_⟩
   ·exact Row.sG _ _
   ·exact .inl ⟨es',rfl,ο,rfl⟩⟩
theorem aj.O7 (Α:Holds S B σ H) (bH:σ[id]?=some (.cells t k l)) (ω:b0 S (S.set B H id) B B σ σ') {a b9:θ} (ξ:qT id k l a b9) {v:Value} (κ:aj S B σ a v):aj (S.set B H id) B σ' b9 v:=by
 cases ξ with
 | same=>exact κ.later ω
 | ms=>
  cases κ with
  | ms cap Ξ ad aT ck gm hQ=>
   rw[bH] at Ξ;cases Ξ;by_cases Ν:l=[]
   ·subst Ν;exact .h7 _ _ (by simp)
   ·have o6:0<l.length:=List.length_pos_iff.2 Ν;rcases hQ with hQ|⟨b,N,rfl,rfl,hQ⟩
    ·omega
    ·obtain⟨_,_,_,w,hw⟩:=Α.row id _ _ bH aT;rw[Nat.zero_mul];refine .sl b 0 cap (fun j x=>w j x) (by simp) gm (fun j e ε=>(hw j e ε).1) (fun j e ε x c δ=>?_) (fun j e ε x c δ=>?_)
     ·have:=((hw j e ε).2 x c δ).1;rw[O5 aT,Nat.zero_add,this];rfl
     ·exact(((hw j e ε).2 x c δ).2.1).later ω
  | iC v Ξ ad=>rw[bH] at Ξ;cases Ξ;simp only[Row.gN] at ad;omega
 | @ag e he=>
  subst he;cases κ with
  | ag Ξ ad aT=>
   rw[bH] at Ξ;cases Ξ;obtain⟨_,_,_,w,hw⟩:=Α.row id _ _ bH aT;have ae:=hw 0 e rfl;refine .aa _ _ (fun x=>w 0 x) (fun x a δ=>?_) (fun x a δ=>?_)
   ·have:=(ae.2 x a δ).1;rw[O5 aT,Nat.add_zero,this];rfl
   ·exact((ae.2 x a δ).2.1).later ω
  | ja v Ξ ad=>rw[bH] at Ξ;cases Ξ;simp[Row.gN] at ad
theorem W.xy (hm:m≤id) (bH:σ[id]?=some (.cells t k l)) (hlen:σ'.length=σ.length) (xz:σ'[id]?=some .dead) (nh:∀j r,j≠id→σ[j]?=some r→∃r',σ'[j]?=some r'∧Af id k l r r') (env':Χ) (cC:∀p∈env',qT id k l (a5 env p.1) p.2)
  (hW:W P m nt kk env' σ' Z E):W P m nt kk env σ Z E:=by
 intro Q mn x cs b S B H a9 δ hb χ Ν he;have Α:=χ.holds;have ω:=b0.xy Α bH xz nh;have back:∀j r',j≠id→σ'[j]?=some r'→∃r,σ[j]?=some r∧Af id k l r r':=fun j r' ε h=>by
  have aE:j<σ.length:=by rw[←hlen];exact(b3.1 h).1
  obtain⟨r2,R,γ⟩:=nh j _ ε (bc aE);rw[h] at R;cases R;exact⟨_,bc aE,γ⟩
 have live:∀{r r':Row},Af id k l r r'→r'.live→r.live:=fun {r r'} h hv=>by
  rcases h with rfl|⟨_,_,_,_,rfl,rfl,_⟩
  ·exact hv
  ·trivial
 have iD:Holds (S.set B H id) B σ' H:=by
  refine⟨fun b o v h=>?_,by rw[hlen];exact Α.len,fun j r bo κ eM=>?_,fun i j dX b4 b gk gl fs hi ε g0 dS g1 cG=>?_,fun j r b N κ e4 hb o=>?_⟩
  ·unfold aA.set at h;split at h
   ·split at h
    ·cases η:H.aF b o with
     | none=>rw[η] at h;cases h
     | some x=>rw[η] at h;cases h;exact⟨x.2,rfl⟩
    ·exact Α.c6 b o v h
   ·exact Α.c6 b o v h
  ·by_cases e:j=id
   ·subst e;rw[xz] at κ;cases κ;trivial
   ·obtain⟨r0,R,γ⟩:=back j r e κ;have ο:=Α.row j r0 bo R eM;rcases γ with rfl|⟨t2,n,es,es',rfl,rfl,Ι,ay⟩
    ·refine ο.later ω (fun b N _=>⟨fun _=>rfl,rfl,rfl⟩) fun cD left cur Δ=>?_;subst Δ;obtain⟨_,_,aQ,j',xs,clock,seen,_,ew,⟨es,en⟩,_⟩:=ο;refine⟨?_,rfl,fun b N _=>⟨fun _=>rfl,rfl,rfl⟩⟩;have bu:cD≠id:=fun e=>by subst e;rw[bH] at en;cases en
     obtain⟨r',dB,p2⟩:=nh cD _ bu en;rcases p2 with rfl|⟨_,_,_,_,p3,_⟩
     ·rw[dB,en]
     ·cases p3
    ·cases bo with
     | none=>
      have:es=[]:=ο;subst this;exact dq.1 Ι
     | some y=>
      obtain⟨b,N⟩:=y;obtain⟨Ξ,ad,aT,w,ck⟩:=ο;refine⟨Ξ,by rw[Ι];exact ad,aT,w,fun i aH hi=>?_⟩;have aE:i<es.length:=by rw[←Ι];exact(b3.1 hi).1
      obtain⟨c1,c2⟩:=ck i _ (bc aE);obtain⟨d1,d2⟩:=ay i _ aH (bc aE) hi;refine⟨d1.trans c1,fun x b9 δ=>?_⟩;have sN:x<(es[i]).cells.length:=by rw[←d1];exact(b3.1 δ).1
      obtain⟨ew,en,ia⟩:=c2 x _ (bc sN);exact⟨ew,en.O7 Α bH ω (d2 x _ b9 (bc sN) δ),ia⟩
  ·have O8:∀j r,σ'[j]?=some r→r.live→j≠id:=fun j r h hv e=>by subst e;rw[xz] at h;cases h;exact hv
   obtain⟨r1,a1,bg⟩:=back i dX (O8 i dX hi g0) hi;obtain⟨r2,bI,dc⟩:=back j b4 (O8 j b4 ε dS) ε;exact Α.inj i j r1 r2 b gk gl fs a1 bI (live bg g0) (live dc dS) g1 cG
  ·have bu:j≠id:=fun e=>by subst e;rw[xz] at κ;cases κ;exact e4
   obtain⟨r1,a1,bg⟩:=back j r bu κ;have ξ:=Α.sep j r1 b N a1 (live bg e4) hb o;unfold aA.set;split
   ·rename_i cU gW i';split
    ·rename_i e;subst e;exact(Α.inj j id r1 _ b N gW bu a1 bH (live bg e4) trivial hb i').elim
    ·exact ξ
   ·exact ξ
 have qo:Ext S B H (S.set B H id) B H:=by
  refine⟨O6 Α bH,fun _ _ _=>mx.of ⟨fun _=>rfl,rfl,rfl⟩,fun _ h=>.inl h,fun b o v hv=>?_,fun _ h=>h⟩;unfold aA.set at hv;split at hv
  ·rename_i cU N i';split at hv
   ·rename_i e;subst e;exact .inr (.inl ⟨N,cl i'⟩)
   ·exact .inl hv
  ·exact .inl hv
 have μ:eO m S B H σ (S.set B H id) B H σ':=⟨qo,ω.left m⟩
 have yV:∀(l2:Χ),(∀p∈l2,qT id k l (a5 env p.1) p.2)→∀i,aj S B σ (a5 env i) (a9.getD i undef)→aj (S.set B H id) B σ' (a5 l2 i) (a9.getD i undef):=by
  intro l2
  induction l2 with
  | nil=>intro _ i _;exact .cp _
  | cons p l2 Γ=>
   intro rP i κ;simp only[a5];split
   ·rename_i e;subst e;exact κ.O7 Α bH ω (rP p (by simp))
   ·exact Γ (fun q Υ=>rP q (by simp[Υ])) i κ
 refine hW Q mn x cs b _ _ H a9 δ hb ⟨iD,fun i=>yV env' cC i (χ.cj i),χ.size,by rw[hlen];exact χ.rows⟩ (fun j gO ga cO eV bJ t2 cx Ξ ad aT ck=>?_) (fun a gO ga cO eV bJ t2 cx v Ξ ad aT ck gm=>?_)
 ·exact Ν j gO ga cO eV bJ t2 cx Ξ (μ.trans ad) aT ck
 ·exact he a gO ga cO eV bJ t2 cx v Ξ (μ.trans ad) aT ck gm
end
end Go.TL
namespace Go.TL
open Go.Proofs
variable [bd]
theorem aΗ (d:cy) (n:Nat):(hH d n).1.Pairwise (· < ·)∧∀x∈(hH d n).1,0≤x∧x<n:=by
 induction n with
 | zero=>exact⟨List.Pairwise.nil,fun x h=>(by cases h)⟩
 | succ n Γ=>
  show((hH d n).1++_).Pairwise _∧∀x∈(hH d n).1++_,_;constructor
  ·rw[List.pairwise_append];refine⟨Γ.1,by split<;>simp,fun a μ b hb=>?_⟩;have:=Γ.2 a μ;split at hb
   ·simp at hb;omega
   ·simp at hb
  ·intro x δ;rcases List.mem_append.1 δ with δ|δ
   ·have:=Γ.2 x δ;omega
   ·split at δ
    ·simp at δ;omega
    ·simp at δ
structure vq (L:List (List Int)):Prop where
 lo:1≤L.length
 hi:L.length≤3
 each:∀l∈L,l.length≤3∧l.Pairwise (· < ·)∧∀x∈l,0≤x∧x<3
theorem aΘ {l:List Int} (R:l.Pairwise (· < ·)) (γ:∀x∈l,0≤x∧x<3):wK l=0:=by
 refine z9 fun x δ=>?_;obtain⟨i,hi,rfl⟩:=List.mem_map.1 δ;have hi:=List.mem_range.1 hi;unfold uW;rw[bc hi];have ο:=γ _ (List.getElem_mem hi);simp only;rw[if_neg,if_neg]
 ·rintro⟨ae,Ι⟩;rw[bc (by omega)] at Ι;have:=List.pairwise_iff_getElem.1 R (i-1) i (by omega) hi (by omega);simp only[Option.getD_some] at Ι;omega
 ·unfold jV;simp;omega
theorem vq.err {L:List (List Int)} (h:vq L):nx L=0:=by
 unfold nx;have R:=h.lo;have γ:=h.hi;rw[if_neg (by omega),if_neg (by omega)];refine z9 fun x δ=>?_;obtain⟨i,hi,rfl⟩:=List.mem_map.1 δ;have hi:=List.mem_range.1 hi;rw[bc hi];obtain⟨_,ο,Ι⟩:=h.each _ (List.getElem_mem hi);exact aΘ ο Ι
abbrev bV:θ:=.sl true 0 []
structure aΙ where
 k:Nat
 d:cy
 L:List (List Int)
theorem vr {L:List (List Int)}:∀e∈L.map (a3 U 1),∀a∈e.cells,az 0 a:=fun e he a μ=>by
 obtain⟨x,_,rfl⟩:=List.mem_map.1 he;simp[θ.cells] at μ;subst μ;simp[gA,θ.cells]
theorem aΚ (d:cy) (hd:d.bf.length<2 ^ 63) (h0 cells:Nat) (hY:1≤h0) (xw:h0≤6) (D6:cells≤4) :
  ak Tryz.prog 90 [.ag 0 1 0 0,U h0,U cells] [b1 d] (fun a s=>∃G L nc eb,db a (.aU [aP G,aO L,cI 4 (List.replicate nc bV)])∧oL G∧vq L∧nc≤cells∧s=b1 eb::.dead::.dead::.dead::bq 60 1 (List.replicate nc bV)∧eb.bf.length≤d.bf.length) (fun _ _=>False):=by
 refine ak.body Θ Tryz.func90 rfl rfl Tryz.ntmps90 rfl rfl (by simp) ?_
 repeat first|apply ι
 refine de (A:=[6]) Θ fun J I=>?_;simp;(repeat (rw[ζ];simp));apply I;clear I J
 repeat first|apply ι
 refine de (A:=[7]) Θ fun J I=>?_;simp;(repeat (rw[ζ];simp));refine tw.c (aψ d hd h0 hY xw) 0 rfl (aI.refl _) (by simp) (by rintro r ⟨l,rfl,_⟩;exact gA.2 qS) ?_;rintro r d1 ⟨G,rfl,cY⟩ jC;simp;(repeat (rw[ζ];simp));apply I;clear I J;have aΜ:d1.bf.length<2 ^ 63:=by omega
 obtain⟨oW,hc⟩:=DY d1 (a:=1) (b:=3) (by decide) (by decide) (by decide);obtain⟨nl,rI⟩:∃n:Nat,oI d1 1 3=n:=⟨(oI d1 1 3).toNat,by omega⟩;rw[rI] at oW hc;obtain⟨d2,mS⟩:∃x,d1.after (IntKind.i64.wrap (3-1))=x:=⟨_,rfl⟩;have D1:d2.bf.length≤d.bf.length:=by rw[←mS];exact Nat.le_trans (mb _ _) jC
 have Ρ:=DX d1 aΜ 1 3;rw[rI,mS] at Ρ;(repeat (first|apply ι));refine ν fun J I=>?_;simp;(repeat (rw[ζ];simp));refine eB.c (Ρ) 0 rfl (aI.refl _) (by simp) (by simp) ?_;simp;(repeat (rw[ζ];simp));apply I;clear I J;have IG:∀L:List (List Int),(cI 3 (L.map (a3 U 1))=.sl true 0 []∧bq 29 1 (L.map (a3 U 1))=[]∧L=[])∨(cI 3 (L.map (a3 U 1))=.ms 3 L.length 0 L.length∧bq 29 1 (L.map (a3 U 1))=[.cells 29 1 (L.map (a3 U 1))]∧0<L.length):=fun L=>by
  by_cases Ν:L=[]
  ·subst Ν;exact .inl ⟨rfl,rfl,rfl⟩
  ·have fV:L.map (a3 U 1)≠[]:=by simpa using Ν
   exact .inr ⟨by rw[gR fV,List.length_map],ea fV,List.length_pos_iff.2 Ν⟩
 repeat first|apply ι
 refine W.iter (fun x:aΙ=>x.L.length+x.k=nl∧x.d.bf.length≤d.bf.length∧∀l∈x.L,l.length≤3∧l.Pairwise (· < ·)∧∀y∈l,0≤y∧y<3)
  (fun x=>[(0,.ag 0 1 0 0),(2,U cells),(6,.ag 1 1 0 0),(7,.ag 2 1 0 0),(8,U x.k)])
  (fun x=>b1 x.d::gr bV bV bV::gr (aP G) (cI 3 (x.L.map (a3 U 1))) bV::bq 29 1 (x.L.map (a3 U 1))) (fun x=>x.k) ⟨nl,d2,[]⟩ ⟨by simp,D1,by simp⟩ rfl (by simp) (fun x δ Γ=>?_)
 obtain⟨k,D,L⟩:=x;obtain⟨υ,mT,aD⟩:=δ;simp only at υ mT aD Γ ⊢;(repeat (first|apply ι|(refine ν fun J I=>?_;simp;(repeat (rw[ζ];simp));apply I;clear I J)));refine W.dY rfl (fun η=>?_) (fun η=>?_)
 ·have kB:0<k:=by simpa using η
  obtain⟨j,ε⟩:∃j,k=j+1:=⟨k-1,by omega⟩;have hw:IntKind.i64.wrap ((k:Int)-1)=j:=by rw[IntWalk.i64_in _ (by omega)];omega
  have hi:=aδ D (by omega)
  have μ:=aΗ D 3
  have O9:=OO D 3
  have CW:=ON D 3;obtain⟨l,ω⟩:∃x,(hH D 3).1=x:=⟨_,rfl⟩;obtain⟨oM,pL⟩:∃x,(hH D 3).2=x:=⟨_,rfl⟩;rw[ω,pL] at hi;rw[ω] at μ O9;rw[pL] at CW;have tq:(L++[l]).length+j=nl∧oM.bf.length≤d.bf.length∧∀x∈L++[l],x.length≤3∧x.Pairwise (· < ·)∧∀y∈x,0≤y∧y<3:=by
   refine⟨by simp;omega,by omega,fun x δ=>?_⟩;rcases List.mem_append.1 δ with δ|δ
   ·exact aD x δ
   ·simp at δ;subst δ;exact⟨O9,μ.1,μ.2⟩
  have bu:(L++[l]).map (a3 U 1)≠[]:=by simp
  repeat first|apply ι
  rcases IG L with⟨Ε,Δ,a4⟩|⟨Ε,Δ,a4⟩
  ·rw[Ε,Δ];refine W.Ir (A:=[25]) Θ mixed fun J I=>?_;simp;(repeat (rw[j0];simp[]));(try rw[jZ]);refine eB.e (hi) (aI.refl _) (by simp) (by simp) ?_;simp[];(repeat (rw[j0];simp[]));(try rw[jZ]);refine⟨bL (by kernel_rfl),bL (by kernel_rfl),I _ _ ?_⟩;clear I J;(repeat (first|apply ι|(refine ν fun J I=>?_;simp;(repeat (rw[ζ];simp[hw]));apply I;clear I J)));subst a4;refine W.to (Γ ⟨j,oM,[]++[l]⟩ tq (by show j<k;omega)) ?_ ?_
   ·have e:cI 3 (([]++[l]).map (a3 U 1))=.ms 3 1 0 1:=rfl
    have aH:bq 29 1 (([]++[l]).map (a3 U 1))=[.cells 29 1 [a3 U 1 l]]:=rfl;simp only[e,aH]
   ·simp
  ·rw[Ε,Δ];refine W.Ir (A:=[25]) Θ mixed fun J I=>?_;simp;(repeat (rw[j0];simp[]));(try rw[jZ]);refine eB.e (hi) (aI.refl _) (by simp) (by simp) ?_;simp[];(repeat (rw[j0];simp[]));(try rw[jZ]);refine⟨by omega,?_⟩;refine⟨bL (by kernel_rfl),bL (by kernel_rfl),I _ _ ?_⟩;clear I J;(repeat (first|apply ι|(refine ν fun J I=>?_;simp;(repeat (rw[ζ];simp[hw]));apply I;clear I J)));refine W.to (Γ ⟨j,oM,L++[l]⟩ tq (by show j<k;omega)) ?_ ?_
   ·have e:cI 3 ((L++[l]).map (a3 U 1))=.ms 3 (L.length+1) 0 (L.length+1):=by rw[gR bu,List.length_map,List.length_append];rfl
    have aH:bq 29 1 ((L++[l]).map (a3 U 1))=[.cells 29 1 (L.map (a3 U 1)++[a3 U 1 l])]:=by rw[ea bu,List.map_append];rfl
    simp only[e,aH]
   ·simp
 ·have kB:k=0:=by simp at η;omega
  subst kB;have lW:L.length=nl:=by omega
  have aΝ:vq L:=⟨by omega,by omega,aD⟩;rcases IG L with⟨Ε,Δ,a4⟩|⟨Ε,Δ,a4⟩
  ·subst a4;simp at lW;omega
  refine W.to (env':=[(0,.ag 0 1 0 0),(2,U cells),(6,.ag 1 1 0 0),(7,.ag 2 1 0 0)]) (σ':=[b1 D,gr bV bV bV,gr (aP G) (.ms 3 L.length 0 L.length) bV,.cells 29 1 (L.map (a3 U 1))]) ?_ (by rw[Ε,Δ]) (by simp);clear Γ η IG Ε Δ;refine W.exit rfl ?_;have u1:D.bf.length<2 ^ 63:=by omega
  obtain⟨du,eH⟩:=DY D (a:=0) (b:=cells) (by omega) (by decide) (by omega);obtain⟨nc,rp⟩:∃n:Nat,oI D 0 cells=n:=⟨(oI D 0 cells).toNat,by omega⟩;rw[rp] at du eH;obtain⟨d3,Aa⟩:∃x,D.after (IntKind.i64.wrap ((cells:Int)-0))=x:=⟨_,rfl⟩;have IA:d3.bf.length≤d.bf.length:=by rw[←Aa];exact Nat.le_trans (mb _ _) mT
  have Ρ:=DX D u1 0 cells;rw[rp,Aa] at Ρ;(repeat (first|apply ι));refine ν fun J I=>?_;simp;(repeat (rw[ζ];simp));refine eB.c (Ρ) 0 rfl (aI.refl _) (by simp) (by simp) ?_;simp;(repeat (rw[ζ];simp));apply I;clear I J
  repeat first|apply ι
  refine W.iter (fun x:Nat×Nat=>x.1+x.2=nc)
   (fun x=>[(0,.ag 0 1 0 0),(6,.ag 1 1 0 0),(7,.ag 2 1 0 0),(9,U x.1)])
   (fun x=>b1 d3::gr bV bV bV::gr (aP G) (.ms 3 L.length 0 L.length) (cI 4 (List.replicate x.2 bV))::.cells 29 1 (L.map (a3 U 1))::bq 60 1 (List.replicate x.2 bV)) (fun x=>x.1) (nc,0) (by simp) rfl (by simp) (fun x δ Γ=>?_)
  obtain⟨k,c⟩:=x;simp only at δ Γ ⊢;(repeat (first|apply ι|(refine ν fun J I=>?_;simp;(repeat (rw[ζ];simp));apply I;clear I J)));refine W.dY rfl (fun η=>?_) (fun η=>?_)
  ·have kB:0<k:=by simpa using η
   obtain⟨j,ε⟩:∃j,k=j+1:=⟨k-1,by omega⟩;have hw:IntKind.i64.wrap ((k:Int)-1)=j:=by rw[IntWalk.i64_in _ (by omega)];omega
   have FK:cI 4 (List.replicate (c+1) bV)=.ms 4 (c+1) 0 (c+1):=by rw[gR (by simp),List.length_replicate]
   have zl:bq 60 1 (List.replicate (c+1) bV)=[.cells 60 1 (List.replicate c bV++[bV])]:=by rw[ea (by simp),List.replicate_succ']
   repeat first|apply ι
   by_cases Ν:c=0
   ·subst Ν;have sL:cI 4 (List.replicate 0 bV)=bV:=rfl;have yE:bq 60 1 (List.replicate 0 bV)=[]:=rfl;rw[sL,yE];refine de (A:=[37]) Θ fun J I=>?_;simp;(repeat (rw[ζ];simp));apply I;clear I J;(repeat (first|apply ι|(refine ν fun J I=>?_;simp;(repeat (rw[ζ];simp[hw]));apply I;clear I J)));refine W.to (Γ (j,1) (by show j+1=nc;omega) (by show j<k;omega)) ?_ ?_
    ·simp only[FK,zl];rfl
    ·simp
   ·have sL:cI 4 (List.replicate c bV)=.ms 4 c 0 c:=by rw[gR (by simp[Ν]),List.length_replicate]
    have yE:bq 60 1 (List.replicate c bV)=[.cells 60 1 (List.replicate c bV)]:=ea (by simp[Ν]);rw[sL,yE];refine de (A:=[37]) Θ fun J I=>?_;simp;(repeat (rw[ζ];simp));refine⟨by omega,?_⟩;apply I;clear I J;(repeat (first|apply ι|(refine ν fun J I=>?_;simp;(repeat (rw[ζ];simp[hw]));apply I;clear I J)));refine W.to (Γ (j,c+1) (by show j+(c+1)=nc;omega) (by show j<k;omega)) ?_ ?_
    ·simp only[FK,zl]
    ·simp
  ·have kB:k=0:=by simp at η;omega
   have nZ:c=nc:=by omega
   subst nZ;refine W.exit rfl ?_;obtain⟨C,hC⟩:∃x,x=cI 4 (List.replicate c bV):=⟨_,rfl⟩;obtain⟨RC,D7⟩:∃x,x=bq 60 1 (List.replicate c bV):=⟨_,rfl⟩;rw[←hC,←D7];have aΞ:(C=bV∧RC=[])∨(C=.ms 4 c 0 c∧RC=[.cells 60 1 (List.replicate c bV)]):=by
    by_cases Ν:c=0
    ·subst Ν;exact .inl ⟨hC,D7⟩
    ·exact .inr ⟨by rw[hC,gR (by simp[Ν]),List.length_replicate],by rw[D7,ea (by simp[Ν])]⟩
   repeat first|apply ι
   refine W.hl (A:=[]) Θ [(6,.ag 1 1 0 0)] (b1 d3::gr (aP G) (.ms 3 L.length 0 L.length) C::gr (aP G) (.ms 3 L.length 0 L.length) C::.cells 29 1 (L.map (a3 U 1))::RC) ?_ (by
    rcases aΞ with⟨Ε,Δ⟩|⟨Ε,Δ⟩
    ·rw[Ε,Δ];(try simp);(repeat (rw[ζ];simp));(try simp[])
    ·rw[Ε,Δ];(try simp);(repeat (rw[ζ];simp));(try simp[]))
   have q8:qT 3 1 (L.map (a3 U 1)) (.ms 3 L.length 0 L.length) (aO L):=by
    have:=qT.ms (id:=3) (k:=1) (l:=L.map (a3 U 1))
    rwa [List.length_map] at this
   have b7:Af 3 1 (L.map (a3 U 1)) (gr (aP G) (.ms 3 L.length 0 L.length) C) (gr (aP G) (aO L) C):=by
    refine .inr ⟨26,3,_,_,rfl,rfl,rfl,fun i e aH R γ=>?_⟩
    match i with
    | 0=>
     simp at R γ;subst R;subst γ;refine⟨rfl,fun x a b9 ο Ι=>?_⟩
     match x with
     | 0=>simp[θ.cells] at ο Ι;subst ο;subst Ι;exact .same _
     | 1=>simp[θ.cells] at ο Ι;subst ο;subst Ι;exact q8
     | 2=>simp[θ.cells] at ο Ι;subst ο;subst Ι;exact .same _
     | x+3=>simp[θ.cells] at ο
    | i+1=>simp at R
   refine W.xy (σ':=b1 d3::gr (aP G) (aO L) C::gr (aP G) (aO L) C::.dead::RC) (id:=3) (by simp) rfl rfl rfl (fun j r ε κ=>?_) [(6,.ag 1 1 0 0)] (fun p χ=>by simp at χ;subst χ;exact .same _) ?_
   ·match j,ε,κ with
    | 0,_,κ=>simp at κ;subst κ;exact⟨_,rfl,.inl rfl⟩
    | 1,_,κ=>simp at κ;subst κ;exact⟨_,rfl,b7⟩
    | 2,_,κ=>simp at κ;subst κ;exact⟨_,rfl,b7⟩
    | 3,h,_=>exact absurd rfl h
    | j+4,_,κ=>exact⟨r,κ,.inl rfl⟩
   refine W.xy (σ':=b1 d3::gr (aP G) (aO L) C::.dead::.dead::RC) (id:=2) (by simp) rfl rfl rfl (fun j r ε κ=>?_) [(6,.ag 1 1 0 0)] (fun p χ=>by simp at χ;subst χ;exact .same _) ?_
   ·match j,ε,κ with
    | 0,_,κ=>exact⟨r,κ,.inl rfl⟩
    | 1,_,κ=>exact⟨r,κ,.inl rfl⟩
    | 2,h,_=>exact absurd rfl h
    | j+3,_,κ=>exact⟨r,κ,.inl rfl⟩
   refine W.xy (σ':=b1 d3::.dead::.dead::.dead::RC) (id:=1) (by simp) rfl rfl rfl (fun j r ε κ=>?_) [(6,.aa [aP G,aO L,C])] (fun p χ=>by simp at χ;subst χ;exact .ag (e:=.aU [aP G,aO L,C]) rfl) ?_
   ·match j,ε,κ with
    | 0,_,κ=>exact⟨r,κ,.inl rfl⟩
    | 1,h,_=>exact absurd rfl h
    | j+2,_,κ=>exact⟨r,κ,.inl rfl⟩
   refine W.ret ⟨_,rfl,?_⟩;refine⟨G,L,c,d3,?_,cY,aΝ,by omega,by rw[D7],IA⟩;rw[←hC];exact .refl _
end Go.TL
