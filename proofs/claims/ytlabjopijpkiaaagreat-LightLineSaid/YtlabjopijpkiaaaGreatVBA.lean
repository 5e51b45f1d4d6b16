import Derived.Sort.LotC
import Derived.Sort.LotD5
import Derived.Sort.Walk13a
import Derived.Test.YtlabjopijpkiaaaGreatVAK
import Derived.Test.YtlabjopijpkiaaaGreatVAP
import Derived.Test.YtlabjopijpkiaaaGreatVAR
import Derived.Test.YtlabjopijpkiaaaGreatVAS
import Derived.Test.YtlabjopijpkiaaaGreatVAX
import Derived.Test.YtlabjopijpkiaaaGreatVAZ
set_option maxHeartbeats 16000000
set_option maxRecDepth 20000
set_option linter.unusedSectionVars false
set_option linter.unusedSimpArgs false
set_option linter.unusedVariables false
namespace Go.TL
open Go.Proofs
variable [bn]
def uO (g:FuncId) (args:List θ) (d:cD) (al:θ->Prop):Prop:=ae Tryz.prog g (.ar 0 1 0 0::args) [cb d] (λa s=>∃r dZ,dP a r/\al r/\s=[cb dZ]/\dZ.bf.length<=d.bf.length) (λ_ _=>False)
theorem uO.c {g:FuncId} {args gC:List θ} {d:cD} {al:θ->Prop} {σ:List Row} {K E:θ->List Row->Prop} (h:uO g args d al) (id:Nat) (b9:σ[id]?=some (cb d)) (he:bF gC args) (κ:∀a∈gC,aG 0 a) (ι:∀r,al r->aG 0 r) (ζ:∀r dZ,al r->dZ.bf.length<=d.bf.length->K r (σ.set id (cb dZ))):hG Tryz.prog (.fn (.func g) [] []) (.ar id 1 0 0::gC) σ K E:=by
 refine ae.HO (as0:=.ar 0 1 0 0::gC) (K0:=λa s=>∃dZ,al a/\s=[cb dZ]/\dZ.bf.length<=d.bf.length) (ae.nF h (.cons (.refl _) he) λa s ⟨r,dZ,J,U,μ,Θ⟩=>⟨r,J,dZ,U,μ,Θ⟩) id b9 (pn d) ?_ ?_ ?_
 ·intro a hm;rcases List.mem_cons.1 hm with rfl|hm
  ·exact Nat.zero_lt_one
  ·exact(κ a hm).jg 1
 ·rw[List.map_cons,PX κ];rfl
 ·rintro a s ⟨dZ,J,U,μ⟩;exact⟨cb dZ,U,pn dZ,(ι a J).jg 1,by rw[(ι a J).ei];exact ζ a dZ J μ⟩
section
variable {P:Program} {m nt:Nat} {k:List Item} {env:Ω} {Z:List Item->Ω->List Row->Prop} {E:θ->Ω->List Row->Prop}
theorem W.P8 {d:cD} {t kk n:Nat} {l:List θ} {x:Nat} (hm:m<=1) (ο:l.length=n) (hb:∀e∈l,∀a∈e.cells,aG 0 a) (hd:a9 env x=.ms 1 n 0 n) (hW:W P m nt k [(x,.sl false kk l)] [cb d] Z E):W P m nt k env [cb d,.cells t kk l] Z E:=
 W.cut 1 hm [(x,.sl false kk l)] η (λid r b9 ι=>by
  have:id=0:=R;subst this;simp at ι;subst ι;exact wH d 1) (λp ψ=>by
  simp at ψ;subst ψ;show eT 1 _ (a9 env x) _;rw[hd];exact .own (t:=t) (Nat.le_refl _) rfl ο (λe he a κ=>(hb e he a κ).mono (Nat.zero_le _))) (by simpa using hW)
end
theorem s7 {l:List l8}:∀e∈l.map eP,∀a∈e.cells,aG 0 a:=λe he a κ=>by
 obtain⟨x,_,rfl⟩:=List.mem_map.1 he;simp[θ.cells] at κ;rcases κ with rfl|rfl<;>exact .z _
def yw:List ByteArray:=[⟨#[97]⟩,⟨#[98]⟩,⟨#[99]⟩,⟨#[100]⟩,⟨#[111]⟩,⟨#[122]⟩]
theorem cω:∀i<6,yw[i]?=some (nq i):=bu
structure P9 where
 i:Nat
 d:cD
 an:List Nat
theorem cΑ (d:cD) (hd:d.bf.length<2 ^ 63) (gi:Nat) (hn:1<=gi) (yx:gi<=6):uO 128 [I gi] d (λr=>∃l,r=a7 l/\pt l/\l.length<=gi):=by
 unfold uO;refine ae.body Ρ Tryz.func128 rfl rfl Tryz.ntmps128 rfl rfl η ?_;refine Η ?_;obtain⟨l0,l1⟩:=yv d (a:=1) (b:=63) bu bu bu;obtain⟨last,jS⟩:=bZ (nS d 1 63);obtain⟨d1,kv⟩:=bZ (d.after (IntKind.i64.wrap (63-1)));have cΒ:d1.bf.length<=d.bf.length:=by rw[<-kv];exact lD _ _
 have Υ:=yu d hd 1 63;rw[jS,kv] at Υ;rw[jS] at l0 l1;refine bl λΕ ζ=>?_;refine en.g (Υ) (bD ?_);apply ζ
 repeat apply ad
 have ω:=P0 d1 R 11 bu
 have A':=cρ d1
 have Fb:=Nat.le_trans (Jj d1 11) cΒ;obtain⟨ord,uK⟩:=bZ ((hp d1 11).1);obtain⟨d2,lz⟩:=bZ ((hp d1 11).2);rw[uK] at A';rw[uK,lz] at ω;rw[lz] at Fb;refine bl λΕ ζ=>?_;refine en.g (ω) (bD ?_);apply ζ;refine Η ?_;obtain⟨pH,hU⟩:=yv d2 (a:=1) (b:=gi) R bu R;obtain⟨n,Ζ⟩:∃n:Nat,nS d2 1 gi=n:=⟨(nS d2 1 gi).toNat,R⟩;rw[Ζ] at pH hU;obtain⟨d3,Ba⟩:=bZ (d2.after (IntKind.i64.wrap ((gi:Int)-1)));have Jp:d3.bf.length<=d.bf.length:=by rw[<-Ba];exact Nat.le_trans (lD _ _) Fb
 have GW:=yu d2 R 1 gi;rw[Ζ,Ba] at GW;refine bl λΕ ζ=>?_;refine en.g (GW) (bD ?_);apply ζ;refine Η ?_;have cm:yw.length=6:=rfl;have fh:(jL++[last]).length=12:=by simp[jL]
 obtain⟨wI,Fc⟩:=aK (jL++[last]);rw[<-Fc] at fh;have da:∀an:List Nat,(an.map (kW ord last)).length=an.length:=λan=>List.length_map _;refine W.iter (λx:P9=>x.i<=6/\x.d.bf.length<=d.bf.length/\x.an.Pairwise (· < ·)/\(∀j∈x.an,j<x.i)/\x.an.length<=n/\n+x.i<=6+x.an.length)
  (λx=>[(0,.ar 0 1 0 0),(5,.sl true 1 (yw.map mP)),(6,.sl true 1 (wI.map I)),(7,bO I 1 ord),(8,cY 1 ((x.an.map (kW ord last)).map eP)),(9,I n),(10,I x.i)])
  (λx=>cb x.d::bG 77 2 ((x.an.map (kW ord last)).map eP)) (λx=>6-x.i) ⟨0,d3,[]⟩ ⟨η,Jp,η,η,η,by simp;omega⟩ rfl (by rw[Fc];intro p ψ;simp only[List.mem_cons,List.not_mem_nil,or_false] at ψ;rcases ψ with rfl|rfl|rfl|rfl|rfl|rfl|rfl<;>rfl) (λx γ Β=>?_)
 obtain⟨i,D,an⟩:=x;obtain⟨cΓ,m',Fe,Bb,P',cΔ⟩:=γ;simp only at cΓ m' Fe Bb P' cΔ Β ⊢;obtain⟨G,yy⟩:=aK (an.map (kW ord last));have hM:G.length=an.length:=by rw[yy];exact da an
 rw[<-yy];have rZ:(cY 1 (G.map eP)=.sl true 0 []/\bG 77 2 (G.map eP)=[]/\an.length=0)\/(cY 1 (G.map eP)=.ms 1 an.length 0 an.length/\bG 77 2 (G.map eP)=[.cells 77 2 (G.map eP)]/\0<an.length):=by
  by_cases Τ:G=[]
  ·subst Τ;exact .inl ⟨rfl,rfl,by simpa using hM.symm⟩
  ·have gu:G.map eP≠[]:=by simpa using Τ
   refine .inr ⟨by rw[gX gu,List.length_map,hM],eJ gu,?_⟩;have:=List.length_pos_iff.2 Τ;omega
 repeat apply ad
 refine W.iu (A:=[]) Ρ [(35,a6 (decide (i<6)&&decide (an.length<n))),(0,.ar 0 1 0 0),(5,.sl true 1 (yw.map mP)),(6,.sl true 1 (wI.map I)),(7,bO I 1 ord),(8,cY 1 (G.map eP)),(9,I n),(10,I i)] (cb D::bG 77 2 (G.map eP)) ?_ (by
  by_cases hi:i<6
  ·have aD:(i:Int)<6:=by omega
   rcases rZ with⟨Δ,Γ,a2⟩|⟨Δ,Γ,a2⟩
   ·rw[Δ,Γ];(try simp);(repeat (rw[Ο];simp[aD,cm,a2,hi]));(try simp[aD,cm,a2,hi])
   ·rw[Δ,Γ];(try simp);(repeat (rw[Ο];simp[aD,cm,hM,hi]));(try simp[aD,cm,hM,hi])
  ·have hi:i=6:=by omega
   subst hi;rcases rZ with⟨Δ,Γ,a2⟩|⟨Δ,Γ,a2⟩
   ·rw[Δ,Γ];(try simp);(repeat (rw[Ο];simp[cm]));(try simp[cm])
   ·rw[Δ,Γ];(try simp);(repeat (rw[Ο];simp[cm]));(try simp[cm]))
 refine W.eU rfl (λδ=>?_) (λδ=>?_)
 ·simp only[Bool.and_eq_true,decide_eq_true_eq] at δ;obtain⟨hi,Qa⟩:=δ;have h2:IntKind.i64.wrap (6-(i:Int))=6-i:=IntWalk.i64_in _ R;have g0:IntKind.i64.wrap ((n:Int)-an.length)=n-an.length:=IntWalk.i64_in _ R;have gF:IntKind.i64.wrap ((i:Int)+1)=((i+1:Nat):Int):=by rw[IntWalk.i64_in _ R];omega
  repeat apply ad
  have v9:D.bf.length<2 ^ 63:=R
  have s8:=Ji D v9 3 bu bu;obtain⟨ξ,sx⟩:=bZ (wF D 3);obtain⟨j8,qz⟩:=bZ (D.after (3-1));have Qb:j8.bf.length<=d.bf.length:=by rw[<-qz];exact Nat.le_trans (lD _ _) m'
  rw[sx,qz] at s8;obtain⟨jM,qA⟩:∃x,x=if(n:Int)-an.length<6-i then j8 else D:=⟨_,rfl⟩
  have Bc:jM.bf.length<=d.bf.length:=by rw[qA];split<;>assumption
  refine W.iu (A:=[]) Ρ [(50,a6 (decide ((n:Int)-an.length<6-i)&&ξ)),(0,.ar 0 1 0 0),(5,.sl true 1 (yw.map mP)),(6,.sl true 1 (wI.map I)),(7,bO I 1 ord),(8,cY 1 (G.map eP)),(9,I n),(10,I i)] (cb jM::bG 77 2 (G.map eP)) ?_ (by
   by_cases nT:(n:Int)-an.length<6-i
   ·rw[if_pos nT] at qA;rw[qA];rcases rZ with⟨Δ,Γ,a2⟩|⟨Δ,Γ,a2⟩
    ·rw[Δ,Γ];rw[a2] at nT g0;simp only[Int.natCast_zero,Int.sub_zero] at nT g0;(try simp);(repeat (rw[Ο];simp[cm,h2,g0,nT,a2]));(try simp[cm,h2,g0,nT,a2]);refine en.c (s8) 0 rfl (bF.refl _) η η ?_;simp[];(repeat (rw[Ο];simp[]));(try simp)
    ·rw[Δ,Γ];(try simp);(repeat (rw[Ο];simp[cm,h2,g0,nT,hM]));(try simp[cm,h2,g0,nT,hM]);refine en.c (s8) 0 rfl (bF.refl _) η η ?_;simp[];(repeat (rw[Ο];simp[]));(try simp)
   ·rw[if_neg nT] at qA;rw[qA];rcases rZ with⟨Δ,Γ,a2⟩|⟨Δ,Γ,a2⟩
    ·rw[Δ,Γ];rw[a2] at nT g0;simp only[Int.natCast_zero,Int.sub_zero] at nT g0;(try simp);(repeat (rw[Ο];simp[cm,h2,g0,nT,a2]));(try simp[cm,h2,g0,nT,a2])
    ·rw[Δ,Γ];(try simp);(repeat (rw[Ο];simp[cm,h2,g0,nT,hM]));(try simp[cm,h2,g0,nT,hM]))
  refine W.eU rfl (λaX=>?_) (λaX=>?_)
  ·simp only[Bool.and_eq_true,decide_eq_true_eq] at aX;refine W.exit rfl ?_;refine aB gF ?_;refine W.to (Β ⟨i+1,jM,an⟩ ⟨by show i+1<=6;omega,Bc,Fe,λj ε=>by have:=Bb j ε;show j<i+1;omega,P',by show n+(i+1)<=6+an.length;omega⟩ (by show 6-(i+1)<6-i;omega)) (by rw[yy]) ?_;rw[<-yy];simp[gF]
  ·have lT:n+i+1<=6+an.length+1:=by omega
   obtain⟨k,ς,Bd,cF⟩:=A'.get (i:=i) R;obtain⟨cF,_,_⟩:=cF last;have Ff:kW ord last i=⟨nq i,jL.getD k 0⟩:=by
    obtain⟨ag,_,hy,e,_⟩:=Fa A' last (i:=i) R;rw[Bd] at hy;have q6:ag=k:=by have:=Option.some.inj hy;omega
    subst q6;show(⟨nq i,(kW ord last i).eI⟩:l8)=_;rw[e]
   obtain⟨st,mA⟩:=bZ (jL.getD k 0);rw[mA] at Ff;rw[mA,<-Fc] at cF;have lb:=cω i hi;have Qc:∀h,yw[i]'h=nq i:=λh=>by rw[bg h] at lb;exact Option.some.inj lb
   have Qd:∀h,ord[i]'h=(k:Int):=λh=>by rw[bg h] at Bd;exact Option.some.inj Bd
   have Qe:∀h,wI[k]'h=st:=λh=>by rw[bg h] at cF;exact Option.some.inj cF
   have xC:=A'.len
   have uP:(G++[kW ord last i])=(an++[i]).map (kW ord last):=by rw[yy];simp
   repeat apply ad
   have bA:(G++[kW ord last i]).map eP≠[]:=η
   have uH:(⟨i+1,jM,an++[i]⟩:P9).i<=6/\jM.bf.length<=d.bf.length/\(an++[i]).Pairwise (· < ·)/\(∀j∈an++[i],j<i+1)/\(an++[i]).length<=n/\n+(i+1)<=6+(an++[i]).length:=by
    refine⟨hi,Bc,?_,?_,?_,?_⟩
    ·rw[List.pairwise_append];exact⟨Fe,η,λa κ b hb=>by simp at hb;subst hb;exact Bb a κ⟩
    ·intro j ε;rcases List.mem_append.1 ε with ε|ε
     ·have:=Bb j ε;omega
     ·simp at ε;omega
    ·simp;omega
    ·simp;omega
   rcases rZ with⟨Δ,Γ,a2⟩|⟨Δ,Γ,a2⟩
   ·rw[Δ,Γ];refine W.draw (A:=[65]) Ρ mixed λΕ ζ=>gq (υ cm (υ fh (υ xC (υ lb (υ Qc (υ Bd (υ Qd (υ cF Qe)))))))) ?_;refine⟨R,R,R,?_⟩;refine er (ζ _ _ ?_);refine aB gF ?_;have Τ:G=[]:=dG.1 R;refine W.to (Β ⟨i+1,jM,an++[i]⟩ uH (by show 6-(i+1)<6-i;omega)) ?_ ?_
    ·have e:bG 77 2 (((an++[i]).map (kW ord last)).map eP)=[.cells 77 2 [eP ⟨nq i,st⟩]]:=by rw[<-uP,eJ bA,Τ,Ff];rfl
     simp only[e]
    ·have e:cY 1 (((an++[i]).map (kW ord last)).map eP)=.ms 1 1 0 1:=by rw[<-uP,gX bA,Τ,Ff];rfl
     simp only[e];simp[gF]
   ·rw[Δ,Γ];refine W.draw (A:=[65]) Ρ mixed λΕ ζ=>gq (υ cm (υ fh (υ xC (υ lb (υ Qc (υ Bd (υ Qd (υ cF (υ Qe hM))))))))) ?_;refine⟨R,R,R,R,?_⟩;refine er (ζ _ _ ?_);refine aB gF ?_;refine W.to (Β ⟨i+1,jM,an++[i]⟩ uH (by show 6-(i+1)<6-i;omega)) ?_ ?_
    ·have e:bG 77 2 (((an++[i]).map (kW ord last)).map eP)=[.cells 77 2 (G.map eP++[eP ⟨nq i,st⟩])]:=by rw[<-uP,eJ bA,List.map_append,Ff];rfl
     simp only[e]
    ·have e:cY 1 (((an++[i]).map (kW ord last)).map eP)=.ms 1 (an.length+1) 0 (an.length+1):=by rw[<-uP,gX bA,List.length_map,List.length_append,hM];rfl
     simp only[e];simp[gF]
 ·have Qa:an.length=n:=by
   simp only[Bool.and_eq_false_iff,decide_eq_false_iff_not] at δ;omega
  refine W.exit rfl ?_;rcases rZ with⟨Δ,Γ,a2⟩|⟨Δ,Γ,a2⟩
  ·omega
  rw[Qa] at Δ hM;have Qf:pt G:=by rw[yy];exact cψ A' last Fe (λj ε=>by have:=Bb j ε;omega) R R
  have Jq:wI[11]?=some last:=by rw[Fc];rfl
  have cΕ:∀h,wI[11]'h=last:=λh=>by rw[bg h] at Jq;exact Option.some.inj Jq
  refine W.to (env':=[(0,.ar 0 1 0 0),(6,.sl true 1 (wI.map I)),(8,.ms 1 n 0 n),(9,I n)]) (σ':=[cb D,.cells 77 2 (G.map eP)]) ?_ (by rw[Γ]) (by rw[Δ];simp);have cΖ:IntKind.i64.wrap 11=11:=bu;refine aB (υ fh (υ Jq (υ cΕ cΖ))) ?_;refine W.iter (λx:Nat×Bool=>x.1<=n/\(x.2=true->∀g∈G.take x.1,g.eI≠last)) (λx=>[(0,.ar 0 1 0 0),(8,.ms 1 n 0 n),(11,I last),(12,a6 x.2),(13,I x.1)]) (λ_=>[cb D,.cells 77 2 (G.map eP)]) (λx=>n-x.1) (0,true) ⟨Nat.zero_le _,η⟩ rfl η (λx γ Be=>?_);obtain⟨j,aA⟩:=x;obtain⟨ε,lT⟩:=γ;simp only at ε lT Be ⊢;refine aB hM ?_;refine W.eU rfl (λδ=>?_) (λδ=>?_)
  ·have fe:j<n:=by simpa using δ
   have Jr:G[j]?=some (G[j]'R):=bg R;obtain⟨g,Ξ⟩:=aK (G[j]'R);rw[<-Ξ] at Jr;have Qg:∀h,G[j]'h=g:=λh=>Ξ.symm;have gF:IntKind.i64.wrap ((j:Int)+1)=((j+1:Nat):Int):=by rw[IntWalk.i64_in _ R];omega
   have lf:G.take (j+1)=G.take j++[g]:=by rw[List.take_succ_eq_append_getElem R,Ξ]
   repeat apply ad
   refine W.iu (A:=[]) Ρ [(0,.ar 0 1 0 0),(8,.ms 1 n 0 n),(11,I last),(12,a6 (aA&&decide (g.eI≠last))),(13,I j)] [cb D,.cells 77 2 (G.map eP)] ?_ (by
    cases aA
    ·(try simp);(repeat (rw[Ο];simp[hM]));(try simp[hM])
    ·(try simp);(repeat (rw[Ο];simp[hM,Jr,Qg]));(try simp[hM,Jr,Qg]);omega)
   refine aB gF ?_;refine W.to (Be (j+1,aA&&decide (g.eI≠last)) ⟨fe,λh=>?_⟩ (by show n-(j+1)<n-j;omega)) rfl (by simp[gF]);simp only[Bool.and_eq_true,decide_eq_true_eq] at h;intro y Ι;rw[lf] at Ι;rcases List.mem_append.1 Ι with Ι|Ι
   ·exact lT h.1 y Ι
   ·simp at Ι;subst Ι;exact h.2
  ·have fe:j=n:=by simp at δ;omega
   have cΗ:aA=true->∀g∈G,g.eI≠last:=λh=>by
    have:=lT h
    rwa [List.take_of_length_le R] at this
   refine W.exit rfl ?_;have v9:D.bf.length<2 ^ 63:=R;have s8:=Ji D v9 3 bu bu;obtain⟨ξ,sx⟩:=bZ (wF D 3);obtain⟨j8,qz⟩:=bZ (D.after (3-1));have Qb:j8.bf.length<=d.bf.length:=by rw[<-qz];exact Nat.le_trans (lD _ _) m'
   rw[sx,qz] at s8;obtain⟨jM,qA⟩:=aK (if aA then j8 else D);have Bc:jM.bf.length<=d.bf.length:=by rw[qA];split<;>assumption
   repeat apply ad
   refine W.iu (A:=[]) Ρ [(92,a6 (aA&&ξ)),(0,.ar 0 1 0 0),(8,.ms 1 n 0 n),(11,I last)] [cb jM,.cells 77 2 (G.map eP)] ?_ (by
    cases aA
    ·rw[qA];(try simp);(repeat (rw[Ο];simp[hM]));(try simp[hM])
    ·rw[qA];(try simp);(repeat (rw[Ο];simp[hM]));(try simp[hM]);refine en.c (s8) 0 rfl (bF.refl _) η η ?_;simp[];(repeat (rw[Ο];simp[]));(try simp))
   refine W.eU rfl (λaX=>?_) (λaX=>?_)
   ·simp only[Bool.and_eq_true] at aX;have h2:IntKind.i64.wrap ((n:Int)-1)=n-1:=IntWalk.i64_in _ R;have xm:=wE jM R ((n:Int)-1);obtain⟨t0,t1⟩:=uM jM ((n:Int)-1) R R;obtain⟨k,ς⟩:∃k:Nat,iS jM ((n:Int)-1)=k:=⟨(iS jM ((n:Int)-1)).toNat,R⟩;obtain⟨yz,Bf⟩:=bZ (jM.after ((n:Int)-1));have Js:yz.bf.length<=d.bf.length:=by rw[<-Bf];exact Nat.le_trans (lD _ _) Bc
    rw[ς,Bf] at xm;rw[ς] at t1;have Fg:k<G.length:=R;have Qh:G[k]?=some (G[k]'Fg):=bg Fg;obtain⟨g,Ξ⟩:=aK (G[k]'Fg);rw[<-Ξ] at Qh;have cΘ:∀h,G[k]'h=g:=λh=>Ξ.symm
    repeat apply ad
    refine W.iu (A:=[]) Ρ [(8,.ms 1 n 0 n)] [cb yz,.cells 77 2 ((G.set k ⟨g.name,last⟩).map eP)] ?_ (by
     (try simp);(repeat (rw[Ο];simp[hM,h2]));(try simp[hM,h2]);refine en.g (xm) (gW (υ Qh (υ cΘ hM)) ?_)
     first|omega|(refine⟨R,?_⟩;simp[List.map_set]))
    refine Η ?_;rw[<-List.map_set];refine W.P8 (x:=4) (n:=n) (l:=(G.set k ⟨g.name,last⟩).map eP) (Nat.le_refl _) (by rw[List.length_map];simp[hM]) s7 ?_ ?_
    ·simp
    exact W.ret ⟨_,rfl,_,yz,.refl _,⟨_,rfl,by rw[Ξ];exact Qf.set Fg l0 l1 (cΗ aX.1),by rw[List.length_set];omega⟩,rfl,Js⟩
   ·refine Η ?_;refine W.P8 (x:=4) (n:=n) (l:=G.map eP) (Nat.le_refl _) (by rw[List.length_map];simp[hM]) s7 ?_ ?_
    ·simp
    exact W.ret ⟨_,rfl,_,jM,.refl _,⟨_,rfl,Qf,R⟩,rfl,Bc⟩
end Go.TL
namespace Go.TL
open Go.Conc
variable [bn]
inductive rU (id k:Nat) (l:List θ):θ->θ->Prop where
 | same (a:θ):rU id k l a a
 | ms:rU id k l (.ms id l.length 0 l.length) (.sl false k l)
 | ar {e:θ}:l=[e]->rU id k l (.ar id 1 0 0) (.ao e.cells)
def Bg (id k:Nat) (l:List θ) (r r':Row):Prop:=r'=r\/∃t n es es',r=.cells t n es/\r'=.cells t n es'/\es'.length=es.length/\
 ∀(i:Nat) (e aQ:θ),es[i]?=some e->es'[i]?=some aQ->aQ.cells.length=e.cells.length/\∀(x:Nat) (a cz:θ),e.cells[x]?=some a->aQ.cells[x]?=some cz->rU id k l a cz
section
variable {P:Program} {S:aJ} {B:aV} {H:χ} {σ σ':List Row} {m nt id k:Nat} {t:TypeId} {l:List θ} {kk:List Item} {env:Ω} {Z:List Item->Ω->List Row->Prop} {E:θ->Ω->List Row->Prop}
def aJ.set (S:aJ) (B:aV) (H:χ) (id:Nat):aJ:=λb o=>match B[id]? with
 | some (some (cU,_))=>if b=cU then(H.aO b o).map (·.1) else S b o
 | _=>S b o
theorem Qi {b N:Nat} (hb:B[id]?=some (some (b,N))) (o:Nat):S.set B H id b o=(H.aO b o).map (·.1):=by
 unfold aJ.set;rw[hb];simp
theorem Qj (Α:Holds S B σ H) (bS:σ[id]?=some (.cells t k l)):∀b o v,S b o=some v->S.set B H id b o=some v:=λb o v hv=>by
 unfold aJ.set;split
 ·rename_i cU N hb;split
  ·rename_i e;subst e;rw[Α.sep id _ b N bS trivial hb o] at hv;cases hv
  ·exact hv
 ·exact hv
theorem b8.yA (Α:Holds S B σ H) (bS:σ[id]?=some (.cells t k l)) (yB:σ'[id]?=some .dead) (oc:∀j r,j≠id->σ[j]?=some r->∃r',σ'[j]?=some r'/\Bg id k l r r'):b8 S (S.set B H id) B B σ σ':=
 ⟨Qj Α bS,λj r ι=>by
  by_cases e:j=id
  ·subst e;rw[bS] at ι;cases ι;exact⟨.dead,yB,.inr λn _=>trivial⟩
  ·obtain⟨r',J,U⟩:=oc j r e ι;refine⟨r',J,?_⟩;rcases U with rfl|⟨t,n,es,es',rfl,rfl,μ,_⟩
   ·exact Row.tI _ _
   ·exact .inl ⟨es',rfl,μ,rfl⟩⟩
theorem ay.Qk (Α:Holds S B σ H) (bS:σ[id]?=some (.cells t k l)) (ο:b8 S (S.set B H id) B B σ σ') {a cz:θ} (ν:rU id k l a cz) {v:Value} (ι:ay S B σ a v):ay (S.set B H id) B σ' cz v:=by
 cases ν with
 | same=>exact ι.later ο
 | ms=>
  cases ι with
  | ms cap Χ ak aY cy gB iK=>
   rw[bS] at Χ;cases Χ;by_cases Τ:l=[]
   ·subst Τ;exact .i' _ _ η
   ·have pU:0<l.length:=List.length_pos_iff.2 Τ;rcases iK with iK|⟨b,N,rfl,rfl,iK⟩
    ·omega
    ·obtain⟨_,_,_,w,hw⟩:=Α.row id _ _ bS aY;rw[Nat.zero_mul];refine .sl b 0 cap (λj x=>w j x) η gB (λj e ε=>(hw j e ε).1) (λj e ε x c γ=>?_) (λj e ε x c γ=>?_)
     ·have:=((hw j e ε).2 x c γ).1;rw[Qi aY,Nat.zero_add,this];rfl
     ·exact(((hw j e ε).2 x c γ).2.1).later ο
  | jz v Χ ak=>rw[bS] at Χ;cases Χ;simp only[Row.hh] at ak;omega
 | @ar e he=>
  subst he;cases ι with
  | ar Χ ak aY=>
   rw[bS] at Χ;cases Χ;obtain⟨_,_,_,w,hw⟩:=Α.row id _ _ bS aY;have aj:=hw 0 e rfl;refine .ao _ _ (λx=>w 0 x) (λx a γ=>?_) (λx a γ=>?_)
   ·have:=(aj.2 x a γ).1;rw[Qi aY,Nat.add_zero,this];rfl
   ·exact((aj.2 x a γ).2.1).later ο
  | jY v Χ ak=>rw[bS] at Χ;cases Χ;simp[Row.hh] at ak
theorem W.yA (hm:m<=id) (bS:σ[id]?=some (.cells t k l)) (hlen:σ'.length=σ.length) (yB:σ'[id]?=some .dead) (oc:∀j r,j≠id->σ[j]?=some r->∃r',σ'[j]?=some r'/\Bg id k l r r') (env':Ω) (cT:∀p∈env',rU id k l (a9 env p.1) p.2)
  (hW:W P m nt kk env' σ' Z E):W P m nt kk env σ Z E:=by
 intro Q mn x cs b S B H bk γ hb ψ Τ he;have Α:=ψ.holds;have ο:=b8.yA Α bS yB oc;have back:∀j r',j≠id->σ'[j]?=some r'->∃r,σ[j]?=some r/\Bg id k l r r':=λj r' ε h=>by
  have aP:j<σ.length:=by rw[<-hlen];exact(cf.1 h).1
  obtain⟨r2,J,U⟩:=oc j _ ε (bg aP);rw[h] at J;cases J;exact⟨_,bg aP,U⟩
 have live:∀{r r':Row},Bg id k l r r'->r'.live->r.live:=λ{r r'} h hv=>by
  rcases h with rfl|⟨_,_,_,_,rfl,rfl,_⟩
  ·exact hv
  ·trivial
 have jA:Holds (S.set B H id) B σ' H:=by
  refine⟨λb o v h=>?_,by rw[hlen];exact Α.len,λj r bo ι e7=>?_,λi j ez cg b gU gV fU hi ε iG eu hD cX=>?_,λj r b N ι fv hb o=>?_⟩
  ·unfold aJ.set at h;split at h
   ·split at h
    ·cases δ:H.aO b o with
     | none=>rw[δ] at h;cases h
     | some x=>rw[δ] at h;cases h;exact⟨x.2,rfl⟩
    ·exact Α.dt b o v h
   ·exact Α.dt b o v h
  ·by_cases e:j=id
   ·subst e;rw[yB] at ι;cases ι;trivial
   ·obtain⟨r0,J,U⟩:=back j r e ι;have μ:=Α.row j r0 bo J e7;rcases U with rfl|⟨t2,n,es,es',rfl,rfl,Θ,av⟩
    ·refine μ.later ο (λb N _=>⟨λ_=>rfl,rfl,rfl⟩) λcC left cur Γ=>?_;subst Γ;obtain⟨_,_,aW,k8,xs,clock,seen,_,dK,⟨es,dq⟩,_⟩:=μ;refine⟨?_,rfl,λb N _=>⟨λ_=>rfl,rfl,rfl⟩⟩;have bA:cC≠id:=λe=>by subst e;rw[bS] at dq;cases dq
     obtain⟨r',dy,p2⟩:=oc cC _ bA dq;rcases p2 with rfl|⟨_,_,_,_,p3,_⟩
     ·rw[dy,dq]
     ·cases p3
    ·cases bo with
     | none=>
      have:es=[]:=μ;subst this;exact dG.1 Θ
     | some y=>
      obtain⟨b,N⟩:=y;obtain⟨Χ,ak,aY,w,cy⟩:=μ;refine⟨Χ,by rw[Θ];exact ak,aY,w,λi aQ hi=>?_⟩;have aP:i<es.length:=by rw[<-Θ];exact(cf.1 hi).1
      obtain⟨c1,c2⟩:=cy i _ (bg aP);obtain⟨d1,d2⟩:=av i _ aQ (bg aP) hi;refine⟨d1.trans c1,λx cz γ=>?_⟩;have q7:x<(es[i]).cells.length:=by rw[<-d1];exact(cf.1 γ).1
      obtain⟨dK,dq,ga⟩:=c2 x _ (bg q7);exact⟨dK,dq.Qk Α bS ο (d2 x _ cz (bg q7) γ),ga⟩
  ·have Ql:∀j r,σ'[j]?=some r->r.live->j≠id:=λj r h hv e=>by subst e;rw[yB] at h;cases h;exact hv
   obtain⟨r1,a1,bd⟩:=back i ez (Ql i ez hi iG) hi;obtain⟨r2,bw,dm⟩:=back j cg (Ql j cg ε eu) ε;exact Α.inj i j r1 r2 b gU gV fU a1 bw (live bd iG) (live dm eu) hD cX
  ·have bA:j≠id:=λe=>by subst e;rw[yB] at ι;cases ι;exact fv
   obtain⟨r1,a1,bd⟩:=back j r bA ι;have ν:=Α.sep j r1 b N a1 (live bd fv) hb o;unfold aJ.set;split
   ·rename_i cU ht jX;split
    ·rename_i e;subst e;exact(Α.inj j id r1 _ b N ht bA a1 bS (live bd fv) trivial hb jX).elim
    ·exact ν
   ·exact ν
 have re:Ext S B H (S.set B H id) B H:=by
  refine⟨Qj Α bS,λ_ _ _=>nv.of ⟨λ_=>rfl,rfl,rfl⟩,λ_ h=>.inl h,λb o v hv=>?_,λ_ h=>h⟩;unfold aJ.set at hv;split at hv
  ·rename_i cU N jX;split at hv
   ·rename_i e;subst e;exact .inr (.inl ⟨N,cE jX⟩)
   ·exact .inl hv
  ·exact .inl hv
 have κ:e8 m S B H σ (S.set B H id) B H σ':=⟨re,ο.left m⟩
 have zT:∀(l2:Ω),(∀p∈l2,rU id k l (a9 env p.1) p.2)->∀i,ay S B σ (a9 env i) (bk.getD i undef)->ay (S.set B H id) B σ' (a9 l2 i) (bk.getD i undef):=by
  intro l2
  induction l2 with
  | nil=>intro _ i _;exact .cH _
  | cons p l2 Β=>
   intro qg i ι;simp only[a9];split
   ·rename_i e;subst e;exact ι.Qk Α bS ο (qg p η)
   ·exact Β (λq Φ=>qg q (by simp[Φ])) i ι
 refine hW Q mn x cs b _ _ H bk γ hb ⟨jA,λi=>zT env' cT i (ψ.cA i),ψ.size,by rw[hlen];exact ψ.rows⟩ (λj hj gK c9 ff bR t2 cN Χ ak aY cy=>?_) (λa hj gK c9 ff bR t2 cN v Χ ak aY cy gB=>?_)
 ·exact Τ j hj gK c9 ff bR t2 cN Χ (κ.trans ak) aY cy
 ·exact he a hj gK c9 ff bR t2 cN v Χ (κ.trans ak) aY cy gB
end
end Go.TL
namespace Go.TL
open Go.Proofs
variable [bn]
theorem cΙ (d:cD) (n:Nat):(iw d n).1.Pairwise (· < ·)/\∀x∈(iw d n).1,0<=x/\x<n:=by
 induction n with
 | zero=>exact⟨List.Pairwise.nil,λx h=>(by cases h)⟩
 | succ n Β=>
  show((iw d n).1++_).Pairwise _/\∀x∈(iw d n).1++_,_;constructor
  ·rw[List.pairwise_append];refine⟨Β.1,by split<;>simp,λa κ b hb=>?_⟩;have:=Β.2 a κ;split at hb
   ·simp at hb;omega
   ·simp at hb
  ·intro x γ;rcases List.mem_append.1 γ with γ|γ
   ·have:=Β.2 x γ;omega
   ·split at γ
    ·simp at γ;omega
    ·simp at γ
structure wJ (L:List (List Int)):Prop where
 lo:1<=L.length
 hi:L.length<=3
 each:∀l∈L,l.length<=3/\l.Pairwise (· < ·)/\∀x∈l,0<=x/\x<3
theorem cΚ {l:List Int} (J:l.Pairwise (· < ·)) (U:∀x∈l,0<=x/\x<3):xU l=0:=by
 refine A9 λx γ=>?_;obtain⟨i,hi,rfl⟩:=List.mem_map.1 γ;have hi:=List.mem_range.1 hi;unfold v3;rw[bg hi];have μ:=U _ (List.getElem_mem hi);simp only;rw[if_neg,if_neg]
 ·rintro⟨aj,Θ⟩;rw[bg R] at Θ;have:=List.pairwise_iff_getElem.1 J (i-1) i R hi R;simp only[Option.getD_some] at Θ;omega
 ·unfold nH;simp;omega
theorem wJ.err {L:List (List Int)} (h:wJ L):om L=0:=by
 unfold om;have J:=h.lo;have U:=h.hi;rw[if_neg R,if_neg R];refine A9 λx γ=>?_;obtain⟨i,hi,rfl⟩:=List.mem_map.1 γ;have hi:=List.mem_range.1 hi;rw[bg hi];obtain⟨_,μ,Θ⟩:=h.each _ (List.getElem_mem hi);exact cΚ μ Θ
abbrev bH:θ:=.sl true 0 []
structure cΜ where
 k:Nat
 d:cD
 L:List (List Int)
theorem yC {L:List (List Int)}:∀e∈L.map (bO I 1),∀a∈e.cells,aG 0 a:=λe he a κ=>by
 obtain⟨x,_,rfl⟩:=List.mem_map.1 he;simp[θ.cells] at κ;subst κ;simp[iL,θ.cells]
theorem cΝ (d:cD) (hd:d.bf.length<2 ^ 63) (gi cells:Nat) (hn:1<=gi) (yx:gi<=6) (Fh:cells<=4) :
  ae Tryz.prog 90 [.ar 0 1 0 0,I gi,I cells] [cb d] (λa s=>∃G L nc dZ,dP a (.a5 [a7 G,bc L,cY 4 (List.replicate nc bH)])/\pt G/\wJ L/\(nc<=cells/\G.length<=gi)/\s=cb dZ::.dead::.dead::.dead::bG 60 1 (List.replicate nc bH)/\dZ.bf.length<=d.bf.length) (λ_ _=>False):=by
 refine ae.body Ρ Tryz.func90 rfl rfl Tryz.ntmps90 rfl rfl η ?_
 repeat apply ad
 refine dM (A:=[6]) Ρ λΕ ζ=>bD ?_;apply ζ
 repeat apply ad
 refine dM (A:=[7]) Ρ λΕ ζ=>bD ?_;refine uO.c (cΑ d hd gi hn yx) 0 rfl (bF.refl _) η (by rintro r ⟨l,rfl,_⟩;exact iL.2 s7) ?_;rintro r d1 ⟨G,rfl,da,Jt⟩ kv;simp;(repeat (rw[Ο];simp[]));apply ζ;have cΞ:d1.bf.length<2 ^ 63:=R;obtain⟨pH,hU⟩:=yv d1 (a:=1) (b:=3) bu bu bu;obtain⟨nl,sI⟩:∃n:Nat,nS d1 1 3=n:=⟨(nS d1 1 3).toNat,R⟩;rw[sI] at pH hU;obtain⟨d2,lz⟩:=bZ (d1.after (IntKind.i64.wrap (3-1)));have Fb:d2.bf.length<=d.bf.length:=by rw[<-lz];exact Nat.le_trans (lD _ _) kv
 have Υ:=yu d1 cΞ 1 3;rw[sI,lz] at Υ;refine bl λΕ ζ=>?_;refine en.g (Υ) (bD ?_);apply ζ;have Ju:∀L:List (List Int),(cY 3 (L.map (bO I 1))=.sl true 0 []/\bG 29 1 (L.map (bO I 1))=[]/\L=[])\/(cY 3 (L.map (bO I 1))=.ms 3 L.length 0 L.length/\bG 29 1 (L.map (bO I 1))=[.cells 29 1 (L.map (bO I 1))]/\0<L.length):=λL=>by
  by_cases Τ:L=[]
  ·subst Τ;exact .inl ⟨rfl,rfl,rfl⟩
  ·have gu:L.map (bO I 1)≠[]:=by simpa using Τ
   exact .inr ⟨by rw[gX gu,List.length_map],eJ gu,List.length_pos_iff.2 Τ⟩
 repeat apply ad
 refine W.iter (λx:cΜ=>x.L.length+x.k=nl/\x.d.bf.length<=d.bf.length/\∀l∈x.L,l.length<=3/\l.Pairwise (· < ·)/\∀y∈l,0<=y/\y<3)
  (λx=>[(0,.ar 0 1 0 0),(2,I cells),(6,.ar 1 1 0 0),(7,.ar 2 1 0 0),(8,I x.k)])
  (λx=>cb x.d::g4 bH bH bH::g4 (a7 G) (cY 3 (x.L.map (bO I 1))) bH::bG 29 1 (x.L.map (bO I 1))) (λx=>x.k) ⟨nl,d2,[]⟩ ⟨η,Fb,η⟩ rfl η (λx γ Β=>?_)
 obtain⟨k,D,L⟩:=x;obtain⟨ς,m',ab⟩:=γ;simp only at ς m' ab Β ⊢;refine Η ?_;refine W.eU rfl (λδ=>?_) (λδ=>?_)
 ·have jK:0<k:=by simpa using δ
  obtain⟨j,ε⟩:∃j,k=j+1:=⟨k-1,R⟩;have hw:IntKind.i64.wrap ((k:Int)-1)=j:=by rw[IntWalk.i64_in _ R];omega
  have hi:=cζ D R
  have κ:=cΙ D 3
  have Qm:=P3 D 3
  have Ea:=P2 D 3;obtain⟨l,ο⟩:=bZ ((iw D 3).1);obtain⟨j8,qz⟩:=bZ ((iw D 3).2);rw[ο,qz] at hi;rw[ο] at κ Qm;rw[qz] at Ea;have uH:(L++[l]).length+j=nl/\j8.bf.length<=d.bf.length/\∀x∈L++[l],x.length<=3/\x.Pairwise (· < ·)/\∀y∈x,0<=y/\y<3:=by
   refine⟨by simp;omega,R,λx γ=>?_⟩;rcases List.mem_append.1 γ with γ|γ
   ·exact ab x γ
   ·simp at γ;subst γ;exact⟨Qm,κ.1,κ.2⟩
  have bA:(L++[l]).map (bO I 1)≠[]:=η
  repeat apply ad
  rcases Ju L with⟨Δ,Γ,a2⟩|⟨Δ,Γ,a2⟩
  ·rw[Δ,Γ];refine W.Jh (A:=[25]) Ρ mixed λΕ ζ=>?_;simp;(repeat (rw[pq];simp[]));(try rw[po]);refine en.h (hi) (yt ?_);refine⟨iN (by kernel_rfl),iN (by kernel_rfl),ζ _ _ ?_⟩;refine aB hw ?_;subst a2;refine W.to (Β ⟨j,j8,[]++[l]⟩ uH (by show j<k;omega)) ?_ ?_
   ·have e:cY 3 (([]++[l]).map (bO I 1))=.ms 3 1 0 1:=rfl
    have aQ:bG 29 1 (([]++[l]).map (bO I 1))=[.cells 29 1 [bO I 1 l]]:=rfl;simp only[e,aQ]
   ·simp
  ·rw[Δ,Γ];refine W.Jh (A:=[25]) Ρ mixed λΕ ζ=>?_;simp;(repeat (rw[pq];simp[]));(try rw[po]);refine en.h (hi) (yt ?_);refine⟨R,?_⟩;refine⟨iN (by kernel_rfl),iN (by kernel_rfl),ζ _ _ ?_⟩;refine aB hw ?_;refine W.to (Β ⟨j,j8,L++[l]⟩ uH (by show j<k;omega)) ?_ ?_
   ·have e:cY 3 ((L++[l]).map (bO I 1))=.ms 3 (L.length+1) 0 (L.length+1):=by rw[gX bA,List.length_map,List.length_append];rfl
    have aQ:bG 29 1 ((L++[l]).map (bO I 1))=[.cells 29 1 (L.map (bO I 1)++[bO I 1 l])]:=by rw[eJ bA,List.map_append];rfl
    simp only[e,aQ]
   ·simp
 ·have jK:k=0:=by simp at δ;omega
  subst jK;have mX:L.length=nl:=R;have cΟ:wJ L:=⟨R,R,ab⟩;rcases Ju L with⟨Δ,Γ,a2⟩|⟨Δ,Γ,a2⟩
  ·subst a2;simp at mX;omega
  refine W.to (env':=[(0,.ar 0 1 0 0),(2,I cells),(6,.ar 1 1 0 0),(7,.ar 2 1 0 0)]) (σ':=[cb D,g4 bH bH bH,g4 (a7 G) (.ms 3 L.length 0 L.length) bH,.cells 29 1 (L.map (bO I 1))]) ?_ (by rw[Δ,Γ]) η;clear Β δ Ju Δ Γ;refine W.exit rfl ?_;have v9:D.bf.length<2 ^ 63:=R;obtain⟨dR,dS⟩:=yv D (a:=0) (b:=cells) R bu R;obtain⟨nc,su⟩:∃n:Nat,nS D 0 cells=n:=⟨(nS D 0 cells).toNat,R⟩;rw[su] at dR dS;obtain⟨d3,Ba⟩:=bZ (D.after (IntKind.i64.wrap ((cells:Int)-0)));have Jp:d3.bf.length<=d.bf.length:=by rw[<-Ba];exact Nat.le_trans (lD _ _) m'
  have Υ:=yu D v9 0 cells;rw[su,Ba] at Υ;refine bl λΕ ζ=>?_;refine en.g (Υ) (bD ?_);apply ζ
  repeat apply ad
  refine W.iter (λx:Nat×Nat=>x.1+x.2=nc)
   (λx=>[(0,.ar 0 1 0 0),(6,.ar 1 1 0 0),(7,.ar 2 1 0 0),(9,I x.1)])
   (λx=>cb d3::g4 bH bH bH::g4 (a7 G) (.ms 3 L.length 0 L.length) (cY 4 (List.replicate x.2 bH))::.cells 29 1 (L.map (bO I 1))::bG 60 1 (List.replicate x.2 bH)) (λx=>x.1) (nc,0) η rfl η (λx γ Β=>?_)
  obtain⟨k,c⟩:=x;simp only at γ Β ⊢;refine Η ?_;refine W.eU rfl (λδ=>?_) (λδ=>?_)
  ·have jK:0<k:=by simpa using δ
   obtain⟨j,ε⟩:∃j,k=j+1:=⟨k-1,R⟩;have hw:IntKind.i64.wrap ((k:Int)-1)=j:=by rw[IntWalk.i64_in _ R];omega
   have GR:cY 4 (List.replicate (c+1) bH)=.ms 4 (c+1) 0 (c+1):=by rw[gX η,List.length_replicate]
   have Aj:bG 60 1 (List.replicate (c+1) bH)=[.cells 60 1 (List.replicate c bH++[bH])]:=by rw[eJ η,List.replicate_succ']
   repeat apply ad
   by_cases Τ:c=0
   ·subst Τ;have pR:cY 4 (List.replicate 0 bH)=bH:=rfl;have tN:bG 60 1 (List.replicate 0 bH)=[]:=rfl;rw[pR,tN];refine dM (A:=[37]) Ρ λΕ ζ=>bD ?_;apply ζ;refine aB hw ?_;refine W.to (Β (j,1) (by show j+1=nc;omega) (by show j<k;omega)) ?_ ?_
    ·simp only[GR,Aj];rfl
    ·simp
   ·have pR:cY 4 (List.replicate c bH)=.ms 4 c 0 c:=by rw[gX (by simp[Τ]),List.length_replicate]
    have tN:bG 60 1 (List.replicate c bH)=[.cells 60 1 (List.replicate c bH)]:=eJ (by simp[Τ]);rw[pR,tN];refine dM (A:=[37]) Ρ λΕ ζ=>bD ?_;refine⟨R,?_⟩;apply ζ;refine aB hw ?_;refine W.to (Β (j,c+1) (by show j+(c+1)=nc;omega) (by show j<k;omega)) ?_ ?_
    ·simp only[GR,Aj]
    ·simp
  ·have jK:k=0:=by simp at δ;omega
   have jU:c=nc:=R;subst jU;refine W.exit rfl ?_;obtain⟨C,hC⟩:=aK (cY 4 (List.replicate c bH));obtain⟨RC,Fi⟩:=aK (bG 60 1 (List.replicate c bH));rw[<-hC,<-Fi];have cΡ:(C=bH/\RC=[])\/(C=.ms 4 c 0 c/\RC=[.cells 60 1 (List.replicate c bH)]):=by
    by_cases Τ:c=0
    ·subst Τ;exact .inl ⟨hC,Fi⟩
    ·exact .inr ⟨by rw[hC,gX (by simp[Τ]),List.length_replicate],by rw[Fi,eJ (by simp[Τ])]⟩
   repeat apply ad
   refine W.iu (A:=[]) Ρ [(6,.ar 1 1 0 0)] (cb d3::g4 (a7 G) (.ms 3 L.length 0 L.length) C::g4 (a7 G) (.ms 3 L.length 0 L.length) C::.cells 29 1 (L.map (bO I 1))::RC) ?_ (by
    rcases cΡ with⟨Δ,Γ⟩|⟨Δ,Γ⟩
    ·rw[Δ,Γ];(try simp);(repeat (rw[Ο];simp[]));(try simp[])
    ·rw[Δ,Γ];(try simp);(repeat (rw[Ο];simp[]));(try simp[]))
   have sc:rU 3 1 (L.map (bO I 1)) (.ms 3 L.length 0 L.length) (bc L):=by
    have:=rU.ms (id:=3) (k:=1) (l:=L.map (bO I 1))
    rwa [List.length_map] at this
   have cn:Bg 3 1 (L.map (bO I 1)) (g4 (a7 G) (.ms 3 L.length 0 L.length) C) (g4 (a7 G) (bc L) C):=by
    refine .inr ⟨26,3,_,_,rfl,rfl,rfl,λi e aQ J U=>?_⟩
    match i with
    | 0=>
     simp at J U;subst J;subst U;refine⟨rfl,λx a cz μ Θ=>?_⟩
     match x with
     | 0=>simp[θ.cells] at μ Θ;subst μ;subst Θ;exact .same _
     | 1=>simp[θ.cells] at μ Θ;subst μ;subst Θ;exact sc
     | 2=>simp[θ.cells] at μ Θ;subst μ;subst Θ;exact .same _
     | x+3=>simp[θ.cells] at μ
    | i+1=>simp at J
   refine W.yA (σ':=cb d3::g4 (a7 G) (bc L) C::g4 (a7 G) (bc L) C::.dead::RC) (id:=3) η rfl rfl rfl (λj r ε ι=>?_) [(6,.ar 1 1 0 0)] (λp ψ=>by simp at ψ;subst ψ;exact .same _) ?_
   ·match j,ε,ι with
    | 0,_,ι=>simp at ι;subst ι;exact⟨_,rfl,.inl rfl⟩
    | 1,_,ι=>simp at ι;subst ι;exact⟨_,rfl,cn⟩
    | 2,_,ι=>simp at ι;subst ι;exact⟨_,rfl,cn⟩
    | 3,h,_=>exact absurd rfl h
    | j+4,_,ι=>exact⟨r,ι,.inl rfl⟩
   refine W.yA (σ':=cb d3::g4 (a7 G) (bc L) C::.dead::.dead::RC) (id:=2) η rfl rfl rfl (λj r ε ι=>?_) [(6,.ar 1 1 0 0)] (λp ψ=>by simp at ψ;subst ψ;exact .same _) ?_
   ·match j,ε,ι with
    | 0,_,ι=>exact⟨r,ι,.inl rfl⟩
    | 1,_,ι=>exact⟨r,ι,.inl rfl⟩
    | 2,h,_=>exact absurd rfl h
    | j+3,_,ι=>exact⟨r,ι,.inl rfl⟩
   refine W.yA (σ':=cb d3::.dead::.dead::.dead::RC) (id:=1) η rfl rfl rfl (λj r ε ι=>?_) [(6,.ao [a7 G,bc L,C])] (λp ψ=>by simp at ψ;subst ψ;exact .ar (e:=.a5 [a7 G,bc L,C]) rfl) ?_
   ·match j,ε,ι with
    | 0,_,ι=>exact⟨r,ι,.inl rfl⟩
    | 1,h,_=>exact absurd rfl h
    | j+2,_,ι=>exact⟨r,ι,.inl rfl⟩
   refine W.ret ⟨_,rfl,?_⟩;refine⟨G,L,c,d3,?_,da,cΟ,⟨R,Jt⟩,by rw[Fi],Jp⟩;rw[<-hC];exact .refl _
theorem cΤ:∀a<64,∀b<64,0<=eY .i64 (a:Nat) (b:Nat)/\eY .i64 (a:Nat) (b:Nat)<=63/\0<=k9 .i64 (a:Nat) (b:Nat)/\k9 .i64 (a:Nat) (b:Nat)<=63/\eY .i64 (b:Nat) (k9 .i64 (a:Nat) (b:Nat))=0:=by decide +kernel
theorem Jv {a b:Int} (κ:0<=a/\a<=63) (hb:0<=b/\b<=63):(0<=eY .i64 a b/\eY .i64 a b<=63)/\(0<=k9 .i64 a b/\k9 .i64 a b<=63)/\eY .i64 b (k9 .i64 a b)=0:=by
 obtain⟨x,rfl⟩:∃x:Nat,a=x:=⟨a.toNat,R⟩;obtain⟨y,rfl⟩:∃y:Nat,b=y:=⟨b.toNat,R⟩;obtain⟨J,U,μ,Θ,av⟩:=cΤ x R y R;exact⟨⟨J,U⟩,⟨μ,Θ⟩,av⟩
structure yD (n:Nat) (c:List fi):Prop where
 hi:c.length<=3
 apart:(c.map (·.db)).Nodup
 each:∀p∈c,(0<=p.db/\p.db<n)/\(0<=p.seen/\p.seen<=63)/\(0<=p.bare/\p.bare<=63)/\o0 p.seen p.bare=0
structure jm (s:aT):Prop where
 au:pt s.au
 aI:wJ s.aI
 many:s.cells.length<=4
 cells:∀c∈s.cells,yD s.aI.length c
theorem yD.err {s:aT} {c:List fi} (h:yD s.aI.length c):qh s c=0:=by
 unfold qh;have:=h.hi;rw[if_neg R];refine A9 λx γ=>?_;obtain⟨i,hi,rfl⟩:=List.mem_map.1 γ;have hi:=List.mem_range.1 hi;rw[bg hi];obtain⟨J,U,μ,Θ⟩:=h.each _ (List.getElem_mem hi);simp only;unfold iO;rw[if_neg R,if_neg,if_neg (by unfold valid;simp;omega),if_pos Θ];intro κ;obtain⟨y,Ι,he⟩:=List.any_eq_true.1 κ;obtain⟨j,ε,rfl⟩:=List.mem_take_iff_getElem.1 Ι;have hd:=List.pairwise_iff_getElem.1 h.apart j i (by simp;omega) (by simpa using hi) R;simp at he hd;exact hd he
theorem jm.err {s:aT} (h:jm s):s.err=0:=by
 unfold aT.err;rw[h.au.err,h.aI.err,if_neg η,if_neg η];unfold sQ;have:=h.many;rw[if_neg R];refine A9 λx γ=>?_;obtain⟨i,hi,rfl⟩:=List.mem_map.1 γ;have hi:=List.mem_range.1 hi;rw[bg hi];exact(h.cells _ (List.getElem_mem hi)).err
theorem jm.small {s:aT} (h:jm s):s.small:=by
 have J:=h.au.hi
 have U:=h.aI.hi
 have μ:=h.many;refine⟨R,R,R,λx γ=>?_,λx γ=>?_⟩
 ·have:=(h.aI.each x γ).1;omega
 ·have:=(h.cells x γ).hi;omega
theorem cΥ (d:cD) (hd:d.bf.length<2 ^ 63) (gi cells:Nat) (hn:1<=gi) (yx:gi<=6) (Fh:cells<=4) {σ:List Row} {K E:θ->List Row->Prop} (aj:σ[0]?=some (cb d))
  (ζ:∀G L nc dZ,pt G->wJ L->nc<=cells/\G.length<=gi->dZ.bf.length<=d.bf.length->K (.a5 [a7 G,bc L,cY (σ.length+3) (List.replicate nc bH)]) (σ.set 0 (cb dZ)++(.dead::.dead::.dead::bG 60 1 (List.replicate nc bH)))) :
  hG Tryz.prog (.fn (.func 90) [] []) [.ar 0 1 0 0,I gi,I cells] σ K E:=by
 have ψ:∀nc,∀r∈bG 60 1 (List.replicate nc bH),z5 r:=λnc r ι=>by
  unfold bG at ι;split at ι
  ·cases ι
  ·simp at ι;subst ι;refine .inl λe he a κ=>?_;have:=List.eq_of_mem_replicate he;subst this;simp[θ.cells] at κ;subst κ;simp[iL]
 have J:=ae.nF (cΝ d hd gi cells hn yx Fh) (bF.refl _) (K':=λa s=>∃G L nc dZ,a=.a5 [a7 G,bc L,cY 4 (List.replicate nc bH)]/\pt G/\wJ L/\(nc<=cells/\G.length<=gi)/\s=cb dZ::.dead::.dead::.dead::bG 60 1 (List.replicate nc bH)/\dZ.bf.length<=d.bf.length) (λa s ⟨G,L,nc,dZ,J,U⟩=>⟨_,J,G,L,nc,dZ,rfl,U⟩)
 have a0:=ae.M6 (σ:=σ) J [0] η rfl (λj i ε=>by
  cases j with
  | zero=>simp at ε;subst ε;exact aj
  | succ j=>simp at ε) (λr ι=>by simp at ι;subst ι;exact pn d) (by
   intro a κ;simp at κ;rcases κ with rfl|rfl|rfl
   ·exact Nat.zero_lt_one
   ·exact(aG.z _).jg 1
   ·exact(aG.z _).jg 1) (K':=K) (E':=E) (λa s=>by
   rintro⟨G,L,nc,dZ,rfl,Χ,ak,aY,rfl,cy⟩;refine⟨λr ι=>?_,?_,?_⟩
   ·simp only[List.mem_cons] at ι;rcases ι with rfl|rfl|rfl|rfl|ι
    ·exact .inl (pn dZ)
    ·exact .inr rfl
    ·exact .inr rfl
    ·exact .inr rfl
    ·exact ψ nc r ι
   ·intro a κ;simp only[List.mem_cons,List.not_mem_nil,or_false] at κ;rcases κ with rfl|rfl|rfl
    ·exact aG.top (iL.2 s7) _
    ·exact aG.top (iL.2 yC) _
    ·unfold cY bG;split
     ·exact aG.top η _
     ·show 4<_;simp
   ·have Δ:sG σ [0] (cb dZ::.dead::.dead::.dead::bG 60 1 (List.replicate nc bH))=σ.set 0 (cb dZ)++(.dead::.dead::.dead::bG 60 1 (List.replicate nc bH)):=by
     simp[sG,je]
    have Γ:ei (names [0] σ.length (cb dZ::.dead::.dead::.dead::bG 60 1 (List.replicate nc bH))) (.a5 [a7 G,bc L,cY 4 (List.replicate nc bH)])=.a5 [a7 G,bc L,cY (σ.length+3) (List.replicate nc bH)]:=by
     by_cases Τ:nc=0
     ·subst Τ;rfl
     ·rw[gX (by simp[Τ]),gX (by simp[Τ]),eJ (by simp[Τ])];show θ.a5 [_,_,_]=_;simp[hY,names,List.range_succ]
    rw[Δ,Γ];exact ζ G L nc dZ Χ ak aY cy) (λa s h=>h.elim)
 exact ae.call (first:=[]) (captured:=[]) (by simpa[oh,ei,hY] using a0)
section
variable {P:Program} {m nt:Nat} {k:List Item} {env:Ω} {σ:List Row} {Z:List Item->Ω->List Row->Prop} {E:θ->Ω->List Row->Prop}
theorem W.bind {Qn:List Item->Ω->List Row->Prop} (h:W P m nt k env σ Qn E) (U:∀j e s,Qn j e s->W P m nt j e s Z E):W P m nt k env σ Z E:=
 λQ mn x cs b S B H t γ hb ψ Τ he=>h Q mn x cs b S B H t γ hb ψ
  (λj e s aE B' H' t' ag pR κ h9 ς=>by
   cases ς;exact U j e s pR Q mn x cs b aE B' H' t' γ hb h9 (λcΦ Γ s2 c9 ff bR t2 cN qU bd=>Τ cΦ Γ s2 c9 ff bR t2 cN qU (κ.trans bd)) (λbd Γ s2 c9 ff bR t2 cN v2 qU sj=>he bd Γ s2 c9 ff bR t2 cN v2 qU (κ.trans sj)))
  he
theorem W.upto {a:Item} (env':Ω) (σ':List Row) (J:W P m nt (a::k) env σ (λj e s=>j=k/\s=σ'/\∀p∈env',a9 e p.1=p.2) E) (U:W P m nt k env' σ' Z E):W P m nt (a::k) env σ Z E:=
 .bind J λj e s ⟨ε,ν,he⟩=>by
  subst ε;subst ν;exact .forget env' he U
theorem W.j9 {a:Item} {l:Nat} (env':Ω) (σ':List Row) (J:W P m nt (a::.inBlock l::k) env σ (λj e s=>j=k/\s=σ'/\∀p∈env',a9 e p.1=p.2) E) (U:W P m nt k env' σ' Z E):W P m nt (a::.inBlock l::k) env σ Z E:=
 .bind J λj e s ⟨ε,ν,he⟩=>by
  subst ε;subst ν;exact .forget env' he U
end
section
variable {α:Type} [Inhabited α]
theorem Bh (enc:α->θ) (d:Array α) {i:Nat} (h:i<d.size):(d.toList.map enc)[i]?=some (enc d[i]!):=by
 rw[List.getElem?_map,Array.getElem?_toList,p9 h];rfl
theorem eB (enc:α->θ) {d:Array α} {n:Nat} (Ζ:d.size=n) {i j:Nat} (hi:i<n) (ε:j<n):∃(L:List θ) (x y:α),d.toList.map enc=L/\d[i]! = x/\d[j]! = y/\L.length=n/\(L[i]?=some (enc x)/\∀h,L[i]'h=enc x)/\(L[j]?=some (enc y)/\∀h,L[j]'h=enc y)/\(Go.Sort.swp d i j).toList.map enc=(L.set i (enc y)).set j (enc x)/\∃z,∀h,(L.set i (enc y))[j]'h=enc z:=by
 subst Ζ;refine⟨_,_,_,rfl,rfl,rfl,η,⟨Bh enc d hi,λh=>?_⟩,⟨Bh enc d ε,λh=>?_⟩,by simp[Go.Sort.swp],if i=j then d[j]! else d[j]!,λh=>?_⟩
 ·have:=Bh enc d hi;rw[bg h] at this;exact Option.some.inj this
 ·have:=Bh enc d ε;rw[bg h] at this;exact Option.some.inj this
 ·rw[List.getElem_set,ite_self];split
  ·rfl
  ·have:=Bh enc d ε;rw[bg (by simpa using h)] at this;exact Option.some.inj this
theorem swp_size {d:Array α} {n:Nat} (Ζ:d.size=n) (i j:Nat):(Go.Sort.swp d i j).size=n:=by simp[Go.Sort.swp,Ζ]
theorem uQ (p q:α->Bool) (Φ:∀x,q x = !p x) (d:Array α) {i j ah an:Nat} (aj:0<i) (fU:i<=j+1) (dO:Go.Sort.scanUp p d j i=ah) (cQ:Go.Sort.scanDown q d ah j=an):i<=ah/\ah<=j+1/\an<=j/\ah<=an+1/\(ah<=an->ah<an):=by
 obtain⟨b3,bX,jβ,Qo⟩:=Go.Sort.scanUp_spec p d j _ i rfl;obtain⟨v1,v2,wz,v4⟩:=Go.Sort.scanDown_spec q d ah j;rw[dO] at b3 bX Qo;rw[cQ] at v1 v2 v4;refine⟨b3,bX fU,v1,v2 (bX fU),λh=>?_⟩;rcases Nat.lt_or_ge ah an with dg|dg
 ·exact dg
 ·have e:ah=an:=by omega
  have f1:=Qo R
  have f2:=v4 h R;rw[Φ,<-e,f1] at f2;cases f2
theorem Qp (lt:α->α->Bool) {a b n:Nat}:∀(m i j:Nat) (g:Array α),j+1-i<=m->g.size=n->0<i->i<=j+1->j<b->(Go.Sort.partLoop lt a i j g).2.size=n/\(Go.Sort.partLoop lt a i j g).1<b:=by
 intro m
 induction m with
 | zero=>
  intro i j g hm Ξ aj fU ε;rw[Go.Sort.partLoop_eq];obtain⟨ah,dO⟩:=bZ (Go.Sort.scanUp (λx=>lt x g[a]!) g j i);obtain⟨an,cQ⟩:=bZ (Go.Sort.scanDown (λx=>!lt x g[a]!) g ah j);obtain⟨s1,s2,kD,pB,ki⟩:=uQ (λx=>lt x g[a]!) (λx=>!lt x g[a]!) (λx=>rfl) g aj fU dO cQ;rw[dO,cQ,if_pos (by apply Classical.byContradiction;intro h;have:=ki R;omega)];exact⟨Ξ,by show an<b;omega⟩
 | succ m Β=>
  intro i j g hm Ξ aj fU ε;rw[Go.Sort.partLoop_eq];obtain⟨ah,dO⟩:=bZ (Go.Sort.scanUp (λx=>lt x g[a]!) g j i);obtain⟨an,cQ⟩:=bZ (Go.Sort.scanDown (λx=>!lt x g[a]!) g ah j);obtain⟨s1,s2,kD,pB,ki⟩:=uQ (λx=>lt x g[a]!) (λx=>!lt x g[a]!) (λx=>rfl) g aj fU dO cQ;rw[dO,cQ];by_cases δ:ah > an
  ·rw[if_pos δ];exact⟨Ξ,by show an<b;omega⟩
  ·rw[if_neg δ];have:=ki R;exact Β (ah+1) (an-1) _ R (swp_size Ξ ah an) R R R
theorem Qq (lt:α->α->Bool) (hi first r:Nat) (e:Array α) {c k:Nat} (δ:c=2*r+1) (h:c<hi) (ς:k=if(decide (c+1<hi)&&lt e[first+c]! e[first+(c+1)]!)=true then c+1 else c) :
  Go.Sort.siftDown lt hi first r e=if(!lt e[first+r]! e[first+k]!)=true then e else Go.Sort.siftDown lt hi first k (Go.Sort.swp e (first+r) (first+k)):=by
 subst δ;rw[Go.Sort.siftDown,dif_neg R];have Δ:first+(2*r+1)+1=first+(2*r+1+1):=R
 have Γ:2*r+2=2*r+1+1:=R;by_cases b:(decide (2*r+1+1<hi)&&lt e[first+(2*r+1)]! e[first+(2*r+1+1)]!)=true
 ·rw[if_pos b] at ς;subst ς;rw[Δ,Γ,if_pos b];have a0:2*r+1+1<hi:=by simp at b;exact b.1
  simp only[dif_pos a0]
 ·rw[if_neg b] at ς;subst ς;rw[Δ,if_neg b]
theorem Bi {lt:α->α->Bool} {hi first n:Nat}:∀{r:Nat} {e:Array α},e.size=n->(Go.Sort.siftDown lt hi first r e).size=n:=by
 have key:∀(m r:Nat) (e:Array α),hi-r<=m->e.size=n->(Go.Sort.siftDown lt hi first r e).size=n:=by
  intro m
  induction m with
  | zero=>
   intro r e hm he;rw[Go.Sort.siftDown,dif_pos R];exact he
  | succ m Β=>
   intro r e hm he;rw[Go.Sort.siftDown];split
   ·exact he
   ·split
    ·split
     ·exact he
     ·split
      ·exact Β _ _ R (swp_size he _ _)
      ·exact he
    ·split
     ·exact he
     ·exact Β _ _ R (swp_size he _ _)
 intro r e he;exact key _ r e (Nat.le_refl _) he
theorem Jw {lt:α->α->Bool} {hi first n:Nat}:∀{k:Nat} {e:Array α},e.size=n->(Go.Sort.heapBuild lt hi first k e).size=n
 | 0,_,he=>he
 | k+1,e,he=>by
  show(Go.Sort.heapBuild lt hi first k (Go.Sort.siftDown lt hi first k e)).size=n;exact Jw (Bi he)
theorem s9 (lt:α->α->Bool) (d:Array α) {a b n:Nat} (κ:a<n) (hb:b<n) (s:Nat):(Go.Sort.order2 lt d a b s).1<n/\(Go.Sort.order2 lt d a b s).2.1<n/\(Go.Sort.order2 lt d a b s).2.2<=s+1:=by
 unfold Go.Sort.order2;split
 ·exact⟨hb,κ,Nat.le_refl _⟩
 ·exact⟨κ,hb,Nat.le_succ _⟩
theorem yE (p:α->Bool) (d:Array α) {i j:Nat} (h:j<i):Go.Sort.scanDown p d i j=j:=by
 cases j with
 | zero=>rfl
 | succ j=>rw[Go.Sort.scanDown,if_neg (by simp;omega)]
end
structure Qr (α:Type) where
 a:Nat
 b:Nat
 lim:Nat
 wb:Bool
 wp:Bool
 e:Array α
def rV {α:Type} [Inhabited α] (a l m:Nat):Nat->Nat->UInt64×Array α->UInt64×Array α
 | 0,_,st=>st
 | k+1,idx,st=>rV a l m k (idx+1) (Go.Sort.breakStep a l m st idx)
theorem Qs {α:Type} [Inhabited α] {d:Array α} {a b l c:Nat} (ο:l=b-a) (lO:8<=l) (δ:c=a+(l / 4)*2):Go.Sort.breakPatterns d a b=(rV a l (1 <<< Go.Sort.bitsLen l) 3 (c-1) (UInt64.ofNat l,d)).2:=by
 subst ο;subst δ;unfold Go.Sort.breakPatterns;simp only[ge_iff_le,lO,if_true];rfl
abbrev jN (n:Int):θ:=.z (.int .u64 n)
def pv:Go.Sort.Hint->Int
 | .unknown=>0
 | .increasing=>1
 | .decreasing=>2
theorem Fj {α:Type} {enc:α->θ} {t k:Nat} {d:Array α} {r2:Row} (hb:∀y,∀a∈(enc y).cells,aG 0 a) (id:Nat) (r:Row) (b9:id<1) (ι:[Row.cells t k (d.toList.map enc),r2][id]?=some r):fg 1 r:=by
 obtain rfl:id=0:=R;simp at ι;subst ι;intro e he a κ;obtain⟨y,_,rfl⟩:=List.mem_map.1 he;exact aG.mono (hb y a κ) (Nat.zero_le _)
theorem cΧ {l m:Nat} (h:l<2 ^ 62):IntKind.i64.wrap (Int.tdiv (l:Int) (m:Int))=((l / m:Nat):Int):=by
 rw[Int.tdiv_eq_ediv_of_nonneg R];have J:l / m<=l:=Nat.div_le_self l m;have U:((l:Int) / (m:Int))=((l / m:Nat):Int):=rfl;rw[U];obtain⟨q,Φ⟩:=aK (l / m);rw[<-Φ] at J ⊢;rw[IntWalk.i64_in _ R]
theorem uR {l m:Nat} (h:l<2 ^ 62):IntKind.i64.wrap ((l:Int) / (m:Int))=((l / m:Nat):Int):=by
 have:=cΧ (m:=m) h;rw[Int.tdiv_eq_ediv_of_nonneg R] at this;exact this
theorem s' {x:Nat} (h:x<2 ^ 64):IntKind.u64.wrap (x:Int)=(x:Int):=by
 unfold IntKind.wrap;simp[IntKind.bits,IntKind.signed];omega
theorem Jx {x y:Nat} (γ:x<2 ^ 64) (Ι:y<2 ^ 64):zy .u64 (x:Int) (y:Int)=((x^^^y:Nat):Int):=by
 have h:x^^^y<2 ^ 64:=Nat.xor_lt_two_pow γ Ι
 have e:(BitVec.ofInt 64 (x:Int)^^^BitVec.ofInt 64 (y:Int)).toNat=x^^^y:=by
  rw[BitVec.toNat_xor,BitVec.ofInt_natCast,BitVec.ofInt_natCast,BitVec.toNat_ofNat,BitVec.toNat_ofNat,Nat.mod_eq_of_lt γ,Nat.mod_eq_of_lt Ι]
 show IntKind.u64.wrap (BitVec.ofInt 64 (x:Int)^^^BitVec.ofInt 64 (y:Int)).toNat=_;rw[e];exact s' h
theorem Jy (x k:Nat) (ς:k<=64):IntKind.u64.wrap ((x:Int)*2 ^ min k IntKind.u64.bits)=((x*2 ^ k % 18446744073709551616:Nat):Int):=by
 have e:min k IntKind.u64.bits=k:=Nat.min_eq_left ς;rw[e];have Γ:(x:Int)*2 ^ k=((x*2 ^ k:Nat):Int):=η;rw[Γ];obtain⟨y,Ι⟩:=aK (x*2 ^ k);rw[<-Ι];unfold IntKind.wrap;simp[IntKind.bits,IntKind.signed]
theorem cΨ (x k:Nat) (ς:k<=64):(x:Int).fdiv (2 ^ min k IntKind.u64.bits)=((x / 2 ^ k:Nat):Int):=by
 have e:min k IntKind.u64.bits=k:=Nat.min_eq_left ς;rw[e,Int.fdiv_eq_ediv_of_nonneg _ (Int.le_of_lt (Int.pow_pos bu))];simp
theorem Qt {x y:Nat} (γ:x<2 ^ 64) (Ι:y<2 ^ 64):eY .u64 (x:Int) (y:Int)=((x&&&y:Nat):Int):=by
 have h:x&&&y<2 ^ 64:=Nat.lt_of_le_of_lt Nat.and_le_left γ
 have e:(BitVec.ofInt 64 (x:Int)&&&BitVec.ofInt 64 (y:Int)).toNat=x&&&y:=by
  rw[BitVec.toNat_and,BitVec.ofInt_natCast,BitVec.ofInt_natCast,BitVec.toNat_ofNat,BitVec.toNat_ofNat,Nat.mod_eq_of_lt γ,Nat.mod_eq_of_lt Ι]
 show IntKind.u64.wrap (BitVec.ofInt 64 (x:Int)&&&BitVec.ofInt 64 (y:Int)).toNat=_;rw[e];exact s' h
theorem hP {i:Nat} (h:0<i) (U:i<2 ^ 62):IntKind.i64.wrap ((i:Int)-1)=((i-1:Nat):Int):=by
 rw[IntWalk.i64_in _ R];omega
theorem gR {i:Nat} (U:i<2 ^ 61):IntKind.i64.wrap ((i:Int)+1)=((i+1:Nat):Int):=by
 rw[IntWalk.i64_in _ R];omega
theorem uS {a b:Nat} (h:a<=b) (U:b<2 ^ 62):IntKind.i64.wrap ((b:Int)-a)=((b-a:Nat):Int):=by
 rw[IntWalk.i64_in _ R];omega
theorem cΩ:∀a<64,∀b<64,(k9 .i64 (a:Nat) (b:Nat)=0↔eY .i64 (b:Nat) (a:Nat)=(a:Nat))/\0<=q1 .i64 (a:Nat) (b:Nat)/\q1 .i64 (a:Nat) (b:Nat)<=63:=by decide +kernel
theorem Jz {a b:Int} (κ:0<=a/\a<=63) (hb:0<=b/\b<=63):(k9 .i64 a b=0↔eY .i64 b a=a)/\0<=q1 .i64 a b/\q1 .i64 a b<=63:=by
 obtain⟨x,rfl⟩:∃x:Nat,a=x:=⟨a.toNat,R⟩;obtain⟨y,rfl⟩:∃y:Nat,b=y:=⟨b.toNat,R⟩;exact cΩ x R y R
theorem JA {s:aT} (h:jm s) {g:Int}:0<=s.of g/\s.of g<=63:=by
 unfold aT.of;split
 ·omega
 ·cases Ξ:s.au[g.toNat]? with
  | none=>simp
  | some x=>
   obtain⟨_,a,b⟩:=h.au.each x (cE Ξ);simp;omega
theorem dα {s:aT} (h:jm s) (p r:Int×Int) (n:Nat):0<=s.gb p r n/\s.gb p r n<=63:=by
 have a:∀g,0<=o1 0 (s.of g)/\o1 0 (s.of g)<=63:=λg=>(Jz (a:=0) R (JA h)).2
 have z:(0:Int)<=0/\(0:Int)<=63:=R;unfold aT.gb;simp only;split
 ·split
  ·exact(Jz (a r.1) (JA h)).2
  ·exact(Jz z (JA h)).2
 ·split
  ·exact a r.1
  ·exact z
abbrev Γ (r:Int×Int):θ:=gf [r.1,r.2]
theorem Qu {L:List (Int×Int)}:∀e∈L.map Γ,∀a∈e.cells,aG 0 a:=λe he a κ=>by
 obtain⟨x,_,rfl⟩:=List.mem_map.1 he;simp[θ.cells] at κ;subst κ;simp
theorem dβ (q:Int×Int->Bool) (n i j:Nat):(kU q n i j).length<=i*(n+1)+j:=by
 have h:(ot n i).length=i*(n+1):=by
  induction i with
  | zero=>simp[ot]
  | succ i Β=>rw[HY,List.length_append,Β,Nat.succ_mul];simp[l']
 unfold kU;refine Nat.le_trans (List.length_filter_le _ _) ?_;rw[List.length_append,h];simp[l']
abbrev JB (l:List (Int×Int)):List (List Int):=l.map λr=>[r.1,r.2]
end Go.TL
namespace Go.TL
open Go.Conc Go.Proofs
variable [bn]
end Go.TL
namespace Go.TL
open Go.Proofs
variable [bn]
section
variable {P:Program} {T:bb} {A:List Nat} {m nt:Nat} {k:List Item} {env:Ω} {σ:List Row} {Z:List Item->Ω->List Row->Prop} {E:θ->Ω->List Row->Prop}
theorem W.dγ (Κ:bV P T) (env':Ω) (σ':List Row) {ops:Array Oper} {l:List Nat} (h:W P m nt k env' σ' Z E) (ι:run P T A nt ops l env σ (λe s=>W P m nt k env' σ' Z E->W P m nt k e s Z E) E):W P m nt (.inRegion ops l::k) env σ Z E:=by
 have:=Ho (m:=m) (k:=k) (Z:=Z) Κ [] l env σ (Ds (λe s f=>W.bJ (f h)) _ _ _ ι);simpa using this
end
def nU (l:List fi):θ:=gM 3 (l.map eQ)
def bB (done:List (List fi)) (nc:Nat):List θ:=done.map nU++List.replicate (nc-done.length) bH
theorem dδ (nc:Nat):bB [] nc=List.replicate nc bH:=by simp[bB]
theorem wK {done:List (List fi)} {nc:Nat} (h:done.length<=nc):(bB done nc).length=nc:=by simp[bB];omega
theorem dε {done:List (List fi)}:bB done done.length=done.map nU:=by simp[bB]
theorem dζ {done:List (List fi)} {nc:Nat} (h:done.length<nc):(bB done nc)[done.length]?=some bH:=by
 unfold bB;rw[h6 η,List.length_map,Nat.sub_self,List.getElem?_replicate,if_pos R]
theorem dη {done:List (List fi)} {nc:Nat} (h:done.length<nc) (aL:List fi):(bB done nc).set done.length (nU aL)=bB (done++[aL]) nc:=by
 unfold bB;obtain⟨r,ι⟩:∃r,nc-done.length=r+1:=⟨nc-done.length-1,R⟩;have e:nc-(done++[aL]).length=r:=by simp;omega
 rw[ι,e,List.replicate_succ,List.set_append_right _ _ η,List.length_map,Nat.sub_self,List.set_cons_zero,List.map_append,List.append_assoc];rfl
theorem Qv (l:List fi):aG 0 (nU l):=by
 unfold nU gM;split
 ·simp
 ·refine iL.2 λe he a κ=>?_;obtain⟨x,_,rfl⟩:=List.mem_map.1 he;simp[θ.cells] at κ;rcases κ with rfl|rfl|rfl<;>exact .z _
theorem Qw (l:List fi):(nU l).cells=[nU l]:=by
 unfold nU gM;split<;>rfl
theorem JC {done:List (List fi)} {nc:Nat}:∀e∈bB done nc,e.cells=[e]/\aG 0 e:=λe he=>by
 unfold bB at he;rcases List.mem_append.1 he with he|he
 ·obtain⟨x,_,rfl⟩:=List.mem_map.1 he;exact⟨Qw x,Qv x⟩
 ·have:=List.eq_of_mem_replicate he;subst this;exact⟨rfl,η⟩
structure dθ where
 k:Nat
 d:cD
 aL:List fi
theorem Qx (s:aT) (g:Int) (Ξ:g<s.au.length) (σ:List Row) (id m:Nat) (X:List θ) (mh:X.length=m) (oN:σ[id]?=some (.cells 60 1 X)):ae Tryz.prog 130 [.a5 [a7 s.au,bc s.aI,.ms id m 0 m],I g] σ (λa r=>a=I (s.of g)/\r=σ) (λ_ _=>False):=by
 refine ae.body Ρ Tryz.func130 rfl rfl Tryz.ntmps130 rfl rfl η ?_;refine aB (υ oN mh) ?_;refine W.eU rfl (λδ=>?_) (λδ=>?_)
 ·have δ:g<0:=by simpa using δ
  refine Η ?_;refine W.ret ⟨_,rfl,?_,rfl⟩;show I 0=_;simp[aT.of,δ]
 ·have δ:¬g<0:=by simpa using δ
  obtain⟨n,rfl⟩:∃n:Nat,g=n:=⟨g.toNat,R⟩;have Ζ:n<s.au.length:=R;refine aB Ζ ?_;refine W.ret ⟨_,rfl,?_,rfl⟩;show I s.au[n].eI=_;simp[aT.of,Ζ];intro h;omega
theorem dι (s:aT) (p r:Int×Int) (n:Nat) (Ζ:n<s.aI.length) (ο:∀x∈s.aI,x.length<2 ^ 62) (J:r.1<s.au.length) (U:r.2<s.au.length) (σ:List Row) (id m:Nat) (X:List θ) (mh:X.length=m) (oN:σ[id]?=some (.cells 60 1 X)) :
  ae Tryz.prog 91 [.a5 [a7 s.au,bc s.aI,.ms id m 0 m],bO I 1 [p.1,p.2],bO I 1 [r.1,r.2],I n] σ (λa r2=>a=I (s.gb p r n)/\r2=σ) (λ_ _=>False):=by
 have Bj:=bg Ζ
 have jd:=ο _ (List.getElem_mem Ζ);obtain⟨l,ο⟩:=aK (s.aI[n]);rw[<-ο] at Bj jd;have JD:∀h,s.aI[n]'h=l:=λh=>ο.symm;have hv:s.gb p r n=if l.contains p.2 then o1 (if l.contains p.1 then o1 0 (s.of r.1) else 0) (s.of r.2) else if l.contains p.1 then o1 0 (s.of r.1) else 0:=by
  unfold aT.gb;rw[Bj];rfl
 rw[hv];have bC:∀x:Int,(0<=(if x∈l then((l.idxOf x:Nat):Int) else -1))↔x∈l:=λx=>by
  by_cases h:x∈l
  ·simp[h]
  ·simp[h]
 have s1:=Qx s r.1 J σ id m X mh oN
 have s2:=Qx s r.2 U σ id m X mh oN;generalize s.of r.1=dJ at s1 ⊢;generalize s.of r.2=h8 at s2 ⊢;refine ae.body Ρ Tryz.func91 rfl rfl Tryz.ntmps91 rfl rfl η ?_;refine aB (υ oN mh) ?_;refine W.draw (A:=[]) Ρ mixed λΕ ζ=>gq (υ Ζ (υ Bj JD)) ?_;refine eA (az.p (HK l p.1 jd) (bF.refl _) η η) ?_;simp[bC];(repeat (rw[c7];simp[bC]));try rw[c6]
 refine er (ζ _ _ ?_);by_cases c1:p.1∈l
 ·refine ai (by simp[c1]) ?_;have Δ:l.contains p.1=true:=by simpa using c1
  rw[if_pos Δ]
  repeat apply ad
  refine W.draw (A:=[]) Ρ mixed λΕ ζ=>gq (υ oN mh) ?_;refine DJ (ae.call (first:=[]) (captured:=[]) s1) ?_;simp;(repeat (rw[c7];simp[]));try rw[c6]
  refine er (ζ _ _ ?_)
  repeat apply ad
  refine W.draw (A:=[]) Ρ mixed λΕ ζ=>gq (υ Ζ (υ Bj JD)) ?_;refine eA (az.p (HK l p.2 jd) (bF.refl _) η η) ?_;simp[bC];(repeat (rw[c7];simp[bC]));try rw[c6]
  refine er (ζ _ _ ?_);by_cases c2:p.2∈l
  ·refine ai (by simp[c2]) ?_;have Γ:l.contains p.2=true:=by simpa using c2
   rw[if_pos Γ]
   repeat apply ad
   refine W.draw (A:=[]) Ρ mixed λΕ ζ=>gq (υ oN mh) ?_;refine DJ (ae.call (first:=[]) (captured:=[]) s2) ?_;simp;(repeat (rw[c7];simp[]));try rw[c6]
   refine er (ζ _ _ ?_);refine Η ?_;exact W.ret ⟨_,rfl,rfl,rfl⟩
  ·refine aa (by simp[c2]) ?_;have Γ:¬l.contains p.2=true:=by simpa using c2
   rw[if_neg Γ];refine Η ?_;exact W.ret ⟨_,rfl,rfl,rfl⟩
 ·refine aa (by simp[c1]) ?_;have Δ:¬l.contains p.1=true:=by simpa using c1
  rw[if_neg Δ]
  repeat apply ad
  refine W.draw (A:=[]) Ρ mixed λΕ ζ=>gq (υ Ζ (υ Bj JD)) ?_;refine eA (az.p (HK l p.2 jd) (bF.refl _) η η) ?_;simp[bC];(repeat (rw[c7];simp[bC]));try rw[c6]
  refine er (ζ _ _ ?_);by_cases c2:p.2∈l
  ·refine ai (by simp[c2]) ?_;have Γ:l.contains p.2=true:=by simpa using c2
   rw[if_pos Γ]
   repeat apply ad
   refine W.draw (A:=[]) Ρ mixed λΕ ζ=>gq (υ oN mh) ?_;refine DJ (ae.call (first:=[]) (captured:=[]) s2) ?_;simp;(repeat (rw[c7];simp[]));try rw[c6]
   refine er (ζ _ _ ?_);refine Η ?_;exact W.ret ⟨_,rfl,rfl,rfl⟩
  ·refine aa (by simp[c2]) ?_;have Γ:¬l.contains p.2=true:=by simpa using c2
   rw[if_neg Γ];refine Η ?_;exact W.ret ⟨_,rfl,rfl,rfl⟩
end Go.TL
