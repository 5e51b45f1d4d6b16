import Derived.Sort.LotC
import Derived.Sort.LotD5
import Derived.Sort.Walk13a
import Derived.Test.YtlabjopijpkiaaaGreatQAL
import Derived.Test.YtlabjopijpkiaaaGreatQAP
import Derived.Test.YtlabjopijpkiaaaGreatQAR
import Derived.Test.YtlabjopijpkiaaaGreatQAS
import Derived.Test.YtlabjopijpkiaaaGreatQBA
set_option maxHeartbeats 16000000
set_option maxRecDepth 20000
set_option linter.unusedSectionVars false
set_option linter.unusedSimpArgs false
set_option linter.unusedVariables false
namespace Go.TL
open Go.Proofs
variable [bn]
def uR (g:FuncId) (args:List θ) (d:cG) (af:θ->Prop):Prop:=ak Tryz.prog g (.Ψ 0 1 0 0::args) [b4 d] (λa s=>∃r ep,cC a r/\af r/\s=[b4 ep]/\ep.bm.length<=d.bm.length) (λ_ _=>False)
theorem uR.c {g:FuncId} {args gk:List θ} {d:cG} {af:θ->Prop} {σ:List Row} {K E:θ->List Row->Prop} (h:uR g args d af) (id:Nat) (bS:σ[id]?=some (b4 d)) (he:aK gk args) (ν:∀a∈gk,av 0 a) (μ:∀r,af r->av 0 r) (I:∀r ep,af r->ep.bm.length<=d.bm.length->K r (σ.set id (b4 ep))):h1 Tryz.prog (.fn (.func g) [] []) (.Ψ id 1 0 0::gk) σ K E:=by
 refine ak.H9 (as0:=.Ψ 0 1 0 0::gk) (K0:=λa s=>∃ep,af a/\s=[b4 ep]/\ep.bm.length<=d.bm.length) (ak.kQ h (.cons (.refl _) he) λa s ⟨r,ep,J,γ,π,Μ⟩=>⟨r,J,ep,γ,π,Μ⟩) id bS (o9 d) ?_ ?_ ?_
 ·intro a hm;rcases List.mem_cons.1 hm with rfl|hm
  ·exact Nat.zero_lt_one
  ·exact(ν a hm).hf 1
 ·rw[List.map_cons,Qc ν];rfl
 ·rintro a s ⟨ep,J,γ,π⟩;exact⟨b4 ep,γ,o9 ep,(μ a J).hf 1,by rw[(μ a J).dI];exact I a ep J π⟩
section
variable {P:Program} {m nt:Nat} {k:List Item} {env:Ω} {Z:List Item->Ω->List Row->Prop} {E:θ->Ω->List Row->Prop}
theorem W.Qm {d:cG} {t kk n:Nat} {l:List θ} {x:Nat} (hm:m<=1) (Α:l.length=n) (hb:∀e∈l,∀a∈e.cells,av 0 a) (hd:a5 env x=.ms 1 n 0 n) (hW:W P m nt k [(x,.sl false kk l)] [b4 d] Z E):W P m nt k env [b4 d,.cells t kk l] Z E:=
 W.cut 1 hm [(x,.sl false kk l)] (by simp) (λid r bS μ=>by
  have:id=0:=by omega
  subst this;simp at μ;subst μ;exact ta d 1) (λp ω=>by
  simp at ω;subst ω;show eE 1 _ (a5 env x) _;rw[hd];exact .own (t:=t) (Nat.le_refl _) rfl Α (λe he a ν=>(hb e he a ν).mono (Nat.zero_le _))) (by simpa using hW)
end
theorem rJ {l:List lH}:∀e∈l.map eG,∀a∈e.cells,av 0 a:=λe he a ν=>by
 obtain⟨x,_,rfl⟩:=List.mem_map.1 he;simp[θ.cells] at ν;rcases ν with rfl|rfl<;>exact .z _
def yL:List ByteArray:=[⟨#[97]⟩,⟨#[98]⟩,⟨#[99]⟩,⟨#[100]⟩,⟨#[111]⟩,⟨#[122]⟩]
theorem cΑ:∀i<6,yL[i]?=some (m3 i):=by decide
structure Qn where
 i:Nat
 d:cG
 aI:List Nat
theorem cΒ (d:cG) (hd:d.bm.length<2 ^ 63) (iB:Nat) (hB:1<=iB) (yM:iB<=6):uR 128 [R iB] d (λr=>∃l,r=aQ l/\pe l):=by
 unfold uR;refine ak.body Κ Tryz.func128 rfl rfl Tryz.ntmps128 rfl rfl (by simp) ?_;(repeat (first|apply κ|(refine ξ λη I=>?_;simp;(repeat (rw[δ];simp));apply I)));obtain⟨l0,l1⟩:=Fg d (a:=1) (b:=63) (by decide) (by decide) (by decide);obtain⟨last,ig⟩:∃x,pa d 1 63=x:=⟨_,rfl⟩;obtain⟨d1,j2⟩:∃x,d.after (IntKind.i64.wrap (63-1))=x:=⟨_,rfl⟩;have cΓ:d1.bm.length<=d.bm.length:=by rw[<-j2];exact mP _ _
 have Τ:=Ff d hd 1 63;rw[ig,j2] at Τ;rw[ig] at l0 l1;(repeat apply κ);refine ξ λη I=>?_;simp;(repeat (rw[δ];simp));refine eL.c (Τ) 0 rfl (aK.refl _) (by simp) (by simp) ?_;simp;(repeat (rw[δ];simp));apply I
 repeat apply κ
 have Γ:=Qe d1 (by omega) 11 (by decide)
 have Bu:=cς d1
 have Fi:=Nat.le_trans (JU d1 11) cΓ;obtain⟨ord,uO⟩:∃x,(hj d1 11).1=x:=⟨_,rfl⟩;obtain⟨d2,nz⟩:∃x,(hj d1 11).2=x:=⟨_,rfl⟩;rw[uO] at Bu;rw[uO,nz] at Γ;rw[nz] at Fi;(repeat apply κ);refine ξ λη I=>?_;simp;(repeat (rw[δ];simp));refine eL.c (Γ) 0 rfl (aK.refl _) (by simp) (by simp) ?_;simp;(repeat (rw[δ];simp));apply I;(repeat (first|apply κ|(refine ξ λη I=>?_;simp;(repeat (rw[δ];simp));apply I)));obtain⟨pz,hI⟩:=Fg d2 (a:=1) (b:=iB) (by omega) (by decide) (by omega);obtain⟨n,Ι⟩:∃n:Nat,pa d2 1 iB=n:=⟨(pa d2 1 iB).toNat,by omega⟩;rw[Ι] at pz hI;obtain⟨d3,Bv⟩:∃x,d2.after (IntKind.i64.wrap ((iB:Int)-1))=x:=⟨_,rfl⟩;have J0:d3.bm.length<=d.bm.length:=by rw[<-Bv];exact Nat.le_trans (mP _ _) Fi
 have Hg:=Ff d2 (by omega) 1 iB;rw[Ι,Bv] at Hg;(repeat apply κ);refine ξ λη I=>?_;simp;(repeat (rw[δ];simp));refine eL.c (Hg) 0 rfl (aK.refl _) (by simp) (by simp) ?_;simp;(repeat (rw[δ];simp));apply I;(repeat (first|apply κ|(refine ξ λη I=>?_;simp;(repeat (rw[δ];simp));apply I)));have ck:yL.length=6:=rfl;have gi:(jo++[last]).length=12:=by simp[jo]
 obtain⟨wV,Fj⟩:∃x,x=jo++[last]:=⟨_,rfl⟩;rw[<-Fj] at gi;have cX:∀aI:List Nat,(aI.map (kv ord last)).length=aI.length:=λaI=>List.length_map _;refine W.iter (λx:Qn=>x.i<=6/\x.d.bm.length<=d.bm.length/\x.aI.Pairwise (· < ·)/\(∀j∈x.aI,j<x.i)/\x.aI.length<=n/\n+x.i<=6+x.aI.length)
  (λx=>[(0,.Ψ 0 1 0 0),(5,.sl true 1 (yL.map nj)),(6,.sl true 1 (wV.map R)),(7,bf R 1 ord),(8,aX 1 ((x.aI.map (kv ord last)).map eG)),(9,R n),(10,R x.i)])
  (λx=>b4 x.d::aL 77 2 ((x.aI.map (kv ord last)).map eG)) (λx=>6-x.i) ⟨0,d3,[]⟩ ⟨by simp,J0,by simp,by simp,by simp,by simp;omega⟩ rfl (by rw[Fj];intro p ω;simp only[List.mem_cons,List.not_mem_nil,or_false] at ω;rcases ω with rfl|rfl|rfl|rfl|rfl|rfl|rfl<;>rfl) (λx U Δ=>?_)
 obtain⟨i,D,aI⟩:=x;obtain⟨cΔ,nA,Fl,Bw,Qo,cΕ⟩:=U;simp only at cΔ nA Fl Bw Qo cΕ Δ ⊢;obtain⟨G,yN⟩:∃G,G=aI.map (kv ord last):=⟨_,rfl⟩;have gQ:G.length=aI.length:=by rw[yN];exact cX aI
 rw[<-yN];have rV:(aX 1 (G.map eG)=.sl true 0 []/\aL 77 2 (G.map eG)=[]/\aI.length=0)\/(aX 1 (G.map eG)=.ms 1 aI.length 0 aI.length/\aL 77 2 (G.map eG)=[.cells 77 2 (G.map eG)]/\0<aI.length):=by
  by_cases Η:G=[]
  ·subst Η;exact .inl ⟨rfl,rfl,by simpa using gQ.symm⟩
  ·have gp:G.map eG≠[]:=by simpa using Η
   refine .inr ⟨by rw[fi gp,List.length_map,gQ],c8 gp,?_⟩;have:=List.length_pos_iff.2 Η;omega
 repeat apply κ
 refine W.fC (A:=[]) Κ [(35,bA (decide (i<6)&&decide (aI.length<n))),(0,.Ψ 0 1 0 0),(5,.sl true 1 (yL.map nj)),(6,.sl true 1 (wV.map R)),(7,bf R 1 ord),(8,aX 1 (G.map eG)),(9,R n),(10,R i)] (b4 D::aL 77 2 (G.map eG)) ?_ (by
  by_cases hi:i<6
  ·have a9:(i:Int)<6:=by omega
   rcases rV with⟨Ε,Ζ,a6⟩|⟨Ε,Ζ,a6⟩
   ·rw[Ε,Ζ];(try simp);(repeat (rw[δ];simp[a9,ck,a6,hi]));(try simp[a9,ck,a6,hi])
   ·rw[Ε,Ζ];(try simp);(repeat (rw[δ];simp[a9,ck,gQ,hi]));(try simp[a9,ck,gQ,hi])
  ·have hi:i=6:=by omega
   subst hi;rcases rV with⟨Ε,Ζ,a6⟩|⟨Ε,Ζ,a6⟩
   ·rw[Ε,Ζ];(try simp);(repeat (rw[δ];simp[ck]));(try simp[ck])
   ·rw[Ε,Ζ];(try simp);(repeat (rw[δ];simp[ck]));(try simp[ck]))
 refine W.en rfl (λζ=>?_) (λζ=>?_)
 ·simp only[Bool.and_eq_true,decide_eq_true_eq] at ζ;obtain⟨hi,Qp⟩:=ζ;have fL:IntKind.i64.wrap (6-(i:Int))=6-i:=IntWalk.i64_in _ (by omega);have gw:IntKind.i64.wrap ((n:Int)-aI.length)=n-aI.length:=IntWalk.i64_in _ (by omega);have jk:IntKind.i64.wrap ((i:Int)+1)=((i+1:Nat):Int):=by rw[IntWalk.i64_in _ (by omega)];omega
  repeat apply κ
  have wa:D.bm.length<2 ^ 63:=by omega
  have tc:=JS D wa 3 (by decide) (by decide);obtain⟨ς,sm⟩:∃x,wS D 3=x:=⟨_,rfl⟩;obtain⟨pf,qo⟩:∃x,D.after (3-1)=x:=⟨_,rfl⟩;have J1:pf.bm.length<=d.bm.length:=by rw[<-qo];exact Nat.le_trans (mP _ _) nA
  rw[sm,qo] at tc;obtain⟨lU,te⟩:∃x,x=if(n:Int)-aI.length<6-i then pf else D:=⟨_,rfl⟩
  have Bx:lU.bm.length<=d.bm.length:=by rw[te];split<;>assumption
  refine W.fC (A:=[]) Κ [(50,bA (decide ((n:Int)-aI.length<6-i)&&ς)),(0,.Ψ 0 1 0 0),(5,.sl true 1 (yL.map nj)),(6,.sl true 1 (wV.map R)),(7,bf R 1 ord),(8,aX 1 (G.map eG)),(9,R n),(10,R i)] (b4 lU::aL 77 2 (G.map eG)) ?_ (by
   by_cases nB:(n:Int)-aI.length<6-i
   ·rw[if_pos nB] at te;rw[te];rcases rV with⟨Ε,Ζ,a6⟩|⟨Ε,Ζ,a6⟩
    ·rw[Ε,Ζ];rw[a6] at nB gw;simp only[Int.natCast_zero,Int.sub_zero] at nB gw;(try simp);(repeat (rw[δ];simp[ck,fL,gw,nB,a6]));(try simp[ck,fL,gw,nB,a6]);refine eL.c (tc) 0 rfl (aK.refl _) (by simp) (by simp) ?_;simp;(repeat (rw[δ];simp));(try simp)
    ·rw[Ε,Ζ];(try simp);(repeat (rw[δ];simp[ck,fL,gw,nB,gQ]));(try simp[ck,fL,gw,nB,gQ]);refine eL.c (tc) 0 rfl (aK.refl _) (by simp) (by simp) ?_;simp;(repeat (rw[δ];simp));(try simp)
   ·rw[if_neg nB] at te;rw[te];rcases rV with⟨Ε,Ζ,a6⟩|⟨Ε,Ζ,a6⟩
    ·rw[Ε,Ζ];rw[a6] at nB gw;simp only[Int.natCast_zero,Int.sub_zero] at nB gw;(try simp);(repeat (rw[δ];simp[ck,fL,gw,nB,a6]));(try simp[ck,fL,gw,nB,a6])
    ·rw[Ε,Ζ];(try simp);(repeat (rw[δ];simp[ck,fL,gw,nB,gQ]));(try simp[ck,fL,gw,nB,gQ]))
  refine W.en rfl (λa4=>?_) (λa4=>?_)
  ·simp only[Bool.and_eq_true,decide_eq_true_eq] at a4;refine W.exit rfl ?_;(repeat (first|apply κ|(refine ξ λη I=>?_;simp;(repeat (rw[δ];simp[jk]));apply I)));refine W.to (Δ ⟨i+1,lU,aI⟩ ⟨by show i+1<=6;omega,Bx,Fl,λj ε=>by have:=Bw j ε;show j<i+1;omega,Qo,by show n+(i+1)<=6+aI.length;omega⟩ (by show 6-(i+1)<6-i;omega)) (by rw[yN]) ?_;rw[<-yN];simp[jk]
  ·have m4:n+i+1<=6+aI.length+1:=by omega
   obtain⟨k,χ,By,cE⟩:=Bu.get (i:=i) (by omega);obtain⟨cE,_,_⟩:=cE last;have Fo:kv ord last i=⟨m3 i,jo.getD k 0⟩:=by
    obtain⟨ab,_,hs,e,_⟩:=Fh Bu last (i:=i) (by omega);rw[By] at hs;have qX:ab=k:=by have:=Option.some.inj hs;omega
    subst qX;show(⟨m3 i,(kv ord last i).eF⟩:lH)=_;rw[e]
   obtain⟨st,ma⟩:∃x,jo.getD k 0=x:=⟨_,rfl⟩;rw[ma] at Fo;rw[ma,<-Fj] at cE;have kL:=cΑ i hi;have Qq:∀h,yL[i]'h=m3 i:=λh=>by rw[a2 h] at kL;exact Option.some.inj kL
   have Qr:∀h,ord[i]'h=(k:Int):=λh=>by rw[a2 h] at By;exact Option.some.inj By
   have Qs:∀h,wV[k]'h=st:=λh=>by rw[a2 h] at cE;exact Option.some.inj cE
   have z1:=Bu.len
   have Fp:(G++[kv ord last i])=(aI++[i]).map (kv ord last):=by rw[yN];simp
   repeat apply κ
   have bw:(G++[kv ord last i]).map eG≠[]:=by simp
   have uL:(⟨i+1,lU,aI++[i]⟩:Qn).i<=6/\lU.bm.length<=d.bm.length/\(aI++[i]).Pairwise (· < ·)/\(∀j∈aI++[i],j<i+1)/\(aI++[i]).length<=n/\n+(i+1)<=6+(aI++[i]).length:=by
    refine⟨hi,Bx,?_,?_,?_,?_⟩
    ·rw[List.pairwise_append];exact⟨Fl,by simp,λa ν b hb=>by simp at hb;subst hb;exact Bw a ν⟩
    ·intro j ε;rcases List.mem_append.1 ε with ε|ε
     ·have:=Bw j ε;omega
     ·simp at ε;omega
    ·simp;omega
    ·simp;omega
   rcases rV with⟨Ε,Ζ,a6⟩|⟨Ε,Ζ,a6⟩
   ·rw[Ε,Ζ];refine W.draw (A:=[65]) Κ mixed λη I=>?_;simp;(repeat (rw[bD];simp[ck,gi,z1,kL,Qq,By,Qr,cE,Qs]));try rw[bC]
    refine⟨by omega,by omega,by omega,?_⟩;refine⟨bW (by kernel_rfl),I _ _ ?_⟩;(repeat (first|apply κ|(refine ξ λη I=>?_;simp;(repeat (rw[δ];simp[jk]));apply I)));have Η:G=[]:=dp.1 (by omega);refine W.to (Δ ⟨i+1,lU,aI++[i]⟩ uL (by show 6-(i+1)<6-i;omega)) ?_ ?_
    ·have e:aL 77 2 (((aI++[i]).map (kv ord last)).map eG)=[.cells 77 2 [eG ⟨m3 i,st⟩]]:=by rw[<-Fp,c8 bw,Η,Fo];rfl
     simp only[e]
    ·have e:aX 1 (((aI++[i]).map (kv ord last)).map eG)=.ms 1 1 0 1:=by rw[<-Fp,fi bw,Η,Fo];rfl
     simp only[e];simp[jk]
   ·rw[Ε,Ζ];refine W.draw (A:=[65]) Κ mixed λη I=>?_;simp;(repeat (rw[bD];simp[ck,gi,z1,kL,Qq,By,Qr,cE,Qs,gQ]));try rw[bC]
    refine⟨by omega,by omega,by omega,by omega,?_⟩;refine⟨bW (by kernel_rfl),I _ _ ?_⟩;(repeat (first|apply κ|(refine ξ λη I=>?_;simp;(repeat (rw[δ];simp[jk]));apply I)));refine W.to (Δ ⟨i+1,lU,aI++[i]⟩ uL (by show 6-(i+1)<6-i;omega)) ?_ ?_
    ·have e:aL 77 2 (((aI++[i]).map (kv ord last)).map eG)=[.cells 77 2 (G.map eG++[eG ⟨m3 i,st⟩])]:=by rw[<-Fp,c8 bw,List.map_append,Fo];rfl
     simp only[e]
    ·have e:aX 1 (((aI++[i]).map (kv ord last)).map eG)=.ms 1 (aI.length+1) 0 (aI.length+1):=by rw[<-Fp,fi bw,List.length_map,List.length_append,gQ];rfl
     simp only[e];simp[jk]
 ·have Qp:aI.length=n:=by
   simp only[Bool.and_eq_false_iff,decide_eq_false_iff_not] at ζ;omega
  refine W.exit rfl ?_;rcases rV with⟨Ε,Ζ,a6⟩|⟨Ε,Ζ,a6⟩
  ·omega
  rw[Qp] at Ε gQ;have Qt:pe G:=by rw[yN];exact cω Bu last Fl (λj ε=>by have:=Bw j ε;omega) (by omega) (by omega)
  have J2:wV[11]?=some last:=by rw[Fj];rfl
  have cΖ:∀h,wV[11]'h=last:=λh=>by rw[a2 h] at J2;exact Option.some.inj J2
  refine W.to (env':=[(0,.Ψ 0 1 0 0),(6,.sl true 1 (wV.map R)),(8,.ms 1 n 0 n),(9,R n)]) (σ':=[b4 D,.cells 77 2 (G.map eG)]) ?_ (by rw[Ζ]) (by rw[Ε];simp);have cΗ:IntKind.i64.wrap 11=11:=by decide
  (repeat (first|apply κ|(refine ξ λη I=>?_;simp;(repeat (rw[δ];simp[gi,J2,cΖ,cΗ]));apply I)));refine W.iter (λx:Nat×Bool=>x.1<=n/\(x.2=true->∀g∈G.take x.1,g.eF≠last)) (λx=>[(0,.Ψ 0 1 0 0),(8,.ms 1 n 0 n),(11,R last),(12,bA x.2),(13,R x.1)]) (λ_=>[b4 D,.cells 77 2 (G.map eG)]) (λx=>n-x.1) (0,true) ⟨Nat.zero_le _,by simp⟩ rfl (by simp) (λx U Bz=>?_);obtain⟨j,au⟩:=x;obtain⟨ε,m4⟩:=U;simp only at ε m4 Bz ⊢;(repeat (first|apply κ|(refine ξ λη I=>?_;simp;(repeat (rw[δ];simp[gQ]));apply I)));refine W.en rfl (λζ=>?_) (λζ=>?_)
  ·have e3:j<n:=by simpa using ζ
   have J3:G[j]?=some (G[j]'(by omega)):=a2 (by omega);obtain⟨g,Υ⟩:∃g,g=G[j]'(by omega):=⟨_,rfl⟩;rw[<-Υ] at J3;have Qu:∀h,G[j]'h=g:=λh=>Υ.symm;have jk:IntKind.i64.wrap ((j:Int)+1)=((j+1:Nat):Int):=by rw[IntWalk.i64_in _ (by omega)];omega
   have kM:G.take (j+1)=G.take j++[g]:=by rw[List.take_succ_eq_append_getElem (by omega),Υ]
   repeat apply κ
   refine W.fC (A:=[]) Κ [(0,.Ψ 0 1 0 0),(8,.ms 1 n 0 n),(11,R last),(12,bA (au&&decide (g.eF≠last))),(13,R j)] [b4 D,.cells 77 2 (G.map eG)] ?_ (by
    cases au
    ·(try simp);(repeat (rw[δ];simp[gQ]));(try simp[gQ])
    ·(try simp);(repeat (rw[δ];simp[gQ,J3,Qu]));(try simp[gQ,J3,Qu]);omega)
   (repeat (first|apply κ|(refine ξ λη I=>?_;simp;(repeat (rw[δ];simp[jk]));apply I)));refine W.to (Bz (j+1,au&&decide (g.eF≠last)) ⟨e3,λh=>?_⟩ (by show n-(j+1)<n-j;omega)) rfl (by simp[jk]);simp only[Bool.and_eq_true,decide_eq_true_eq] at h;intro y Ο;rw[kM] at Ο;rcases List.mem_append.1 Ο with Ο|Ο
   ·exact m4 h.1 y Ο
   ·simp at Ο;subst Ο;exact h.2
  ·have e3:j=n:=by simp at ζ;omega
   have cΘ:au=true->∀g∈G,g.eF≠last:=λh=>by
    have:=m4 h
    rwa [List.take_of_length_le (by omega)] at this
   refine W.exit rfl ?_;have wa:D.bm.length<2 ^ 63:=by omega
   have tc:=JS D wa 3 (by decide) (by decide);obtain⟨ς,sm⟩:∃x,wS D 3=x:=⟨_,rfl⟩;obtain⟨pf,qo⟩:∃x,D.after (3-1)=x:=⟨_,rfl⟩;have J1:pf.bm.length<=d.bm.length:=by rw[<-qo];exact Nat.le_trans (mP _ _) nA
   rw[sm,qo] at tc;obtain⟨lU,te⟩:∃x,x=if au then pf else D:=⟨_,rfl⟩
   have Bx:lU.bm.length<=d.bm.length:=by rw[te];split<;>assumption
   repeat apply κ
   refine W.fC (A:=[]) Κ [(92,bA (au&&ς)),(0,.Ψ 0 1 0 0),(8,.ms 1 n 0 n),(11,R last)] [b4 lU,.cells 77 2 (G.map eG)] ?_ (by
    cases au
    ·rw[te];(try simp);(repeat (rw[δ];simp[gQ]));(try simp[gQ])
    ·rw[te];(try simp);(repeat (rw[δ];simp[gQ]));(try simp[gQ]);refine eL.c (tc) 0 rfl (aK.refl _) (by simp) (by simp) ?_;simp;(repeat (rw[δ];simp));(try simp))
   refine W.en rfl (λa4=>?_) (λa4=>?_)
   ·simp only[Bool.and_eq_true] at a4;have fL:IntKind.i64.wrap ((n:Int)-1)=n-1:=IntWalk.i64_in _ (by omega);have xG:=uQ lU (by omega) ((n:Int)-1);obtain⟨t0,t1⟩:=s9 lU ((n:Int)-1) (by omega) (by omega);obtain⟨k,χ⟩:∃k:Nat,hS lU ((n:Int)-1)=k:=⟨(hS lU ((n:Int)-1)).toNat,by omega⟩;obtain⟨J4,Qv⟩:∃x,lU.after ((n:Int)-1)=x:=⟨_,rfl⟩;have cΙ:J4.bm.length<=d.bm.length:=by rw[<-Qv];exact Nat.le_trans (mP _ _) Bx
    rw[χ,Qv] at xG;rw[χ] at t1;have Fq:k<G.length:=by omega
    have J5:G[k]?=some (G[k]'Fq):=a2 Fq;obtain⟨g,Υ⟩:∃g,g=G[k]'Fq:=⟨_,rfl⟩;rw[<-Υ] at J5;have Qw:∀h,G[k]'h=g:=λh=>Υ.symm
    repeat apply κ
    refine W.fC (A:=[]) Κ [(8,.ms 1 n 0 n)] [b4 J4,.cells 77 2 ((G.set k ⟨g.name,last⟩).map eG)] ?_ (by
     (try simp);(repeat (rw[δ];simp[gQ,fL]));(try simp[gQ,fL]);refine eL.c (xG) 0 rfl (aK.refl _) (by simp) (by simp) ?_;simp[J5,Qw,gQ];(repeat (rw[δ];simp[J5,Qw,gQ]))
     first|omega|(refine⟨by omega,?_⟩;simp[List.map_set]))
    (repeat (first|apply κ|(refine ξ λη I=>?_;simp;(repeat (rw[δ];simp));apply I)));rw[<-List.map_set];refine W.Qm (x:=4) (n:=n) (l:=(G.set k ⟨g.name,last⟩).map eG) (Nat.le_refl _) (by rw[List.length_map];simp[gQ]) rJ ?_ ?_
    ·simp
    exact W.ret ⟨_,rfl,_,J4,.refl _,⟨_,rfl,by rw[Υ];exact Qt.set Fq l0 l1 (cΘ a4.1)⟩,rfl,cΙ⟩
   ·(repeat (first|apply κ|(refine ξ λη I=>?_;simp;(repeat (rw[δ];simp));apply I)));refine W.Qm (x:=4) (n:=n) (l:=G.map eG) (Nat.le_refl _) (by rw[List.length_map];simp[gQ]) rJ ?_ ?_
    ·simp
    exact W.ret ⟨_,rfl,_,lU,.refl _,⟨_,rfl,Qt⟩,rfl,Bx⟩
end Go.TL
namespace Go.TL
open Go.Conc
variable [bn]
inductive rK (id k:Nat) (l:List θ):θ->θ->Prop where
 | same (a:θ):rK id k l a a
 | ms:rK id k l (.ms id l.length 0 l.length) (.sl false k l)
 | Ψ {e:θ}:l=[e]->rK id k l (.Ψ id 1 0 0) (.ad e.cells)
def tf (id k:Nat) (l:List θ) (r r':Row):Prop:=r'=r\/∃t n es es',r=.cells t n es/\r'=.cells t n es'/\es'.length=es.length/\
 ∀(i:Nat) (e aJ:θ),es[i]?=some e->es'[i]?=some aJ->aJ.cells.length=e.cells.length/\∀(x:Nat) (a b9:θ),e.cells[x]?=some a->aJ.cells[x]?=some b9->rK id k l a b9
section
variable {P:Program} {S:aC} {B:aP} {H:ψ} {σ σ':List Row} {m nt id k:Nat} {t:TypeId} {l:List θ} {kk:List Item} {env:Ω} {Z:List Item->Ω->List Row->Prop} {E:θ->Ω->List Row->Prop}
def aC.set (S:aC) (B:aP) (H:ψ) (id:Nat):aC:=λb o=>match B[id]? with
 | some (some (cK,_))=>if b=cK then(H.aG b o).map (·.1) else S b o
 | _=>S b o
theorem Qx {b N:Nat} (hb:B[id]?=some (some (b,N))) (o:Nat):S.set B H id b o=(H.aG b o).map (·.1):=by
 unfold aC.set;rw[hb];simp
theorem Qy (Β:Holds S B σ H) (bL:σ[id]?=some (.cells t k l)):∀b o v,S b o=some v->S.set B H id b o=some v:=λb o v hv=>by
 unfold aC.set;split
 ·rename_i cK N hb;split
  ·rename_i e;subst e;rw[Β.sep id _ b N bL trivial hb o] at hv;cases hv
  ·exact hv
 ·exact hv
theorem bZ.uS (Β:Holds S B σ H) (bL:σ[id]?=some (.cells t k l)) (yO:σ'[id]?=some .dead) (nX:∀j r,j≠id->σ[j]?=some r->∃r',σ'[j]?=some r'/\tf id k l r r'):bZ S (S.set B H id) B B σ σ':=
 ⟨Qy Β bL,λj r μ=>by
  by_cases e:j=id
  ·subst e;rw[bL] at μ;cases μ;exact⟨.dead,yO,.inr λn _=>trivial⟩
  ·obtain⟨r',J,γ⟩:=nX j r e μ;refine⟨r',J,?_⟩;rcases γ with rfl|⟨t,n,es,es',rfl,rfl,π,_⟩
   ·exact Row.tI _ _
   ·exact .inl ⟨es',rfl,π,rfl⟩⟩
theorem ar.Qz (Β:Holds S B σ H) (bL:σ[id]?=some (.cells t k l)) (Α:bZ S (S.set B H id) B B σ σ') {a b9:θ} (ο:rK id k l a b9) {v:Value} (μ:ar S B σ a v):ar (S.set B H id) B σ' b9 v:=by
 cases ο with
 | same=>exact μ.later Α
 | ms=>
  cases μ with
  | ms cap Ρ ag aV cr gO iq=>
   rw[bL] at Ρ;cases Ρ;by_cases Η:l=[]
   ·subst Η;exact .iI _ _ (by simp)
   ·have pK:0<l.length:=List.length_pos_iff.2 Η;rcases iq with iq|⟨b,N,rfl,rfl,iq⟩
    ·omega
    ·obtain⟨_,_,_,w,hw⟩:=Β.row id _ _ bL aV;rw[Nat.zero_mul];refine .sl b 0 cap (λj x=>w j x) (by simp) gO (λj e ε=>(hw j e ε).1) (λj e ε x c U=>?_) (λj e ε x c U=>?_)
     ·have:=((hw j e ε).2 x c U).1;rw[Qx aV,Nat.zero_add,this];rfl
     ·exact(((hw j e ε).2 x c U).2.1).later Α
  | ja v Ρ ag=>rw[bL] at Ρ;cases Ρ;simp only[Row.g9] at ag;omega
 | @Ψ e he=>
  subst he;cases μ with
  | Ψ Ρ ag aV=>
   rw[bL] at Ρ;cases Ρ;obtain⟨_,_,_,w,hw⟩:=Β.row id _ _ bL aV;have ah:=hw 0 e rfl;refine .ad _ _ (λx=>w 0 x) (λx a U=>?_) (λx a U=>?_)
   ·have:=(ah.2 x a U).1;rw[Qx aV,Nat.add_zero,this];rfl
   ·exact((ah.2 x a U).2.1).later Α
  | jB v Ρ ag=>rw[bL] at Ρ;cases Ρ;simp[Row.g9] at ag
theorem W.uS (hm:m<=id) (bL:σ[id]?=some (.cells t k l)) (hlen:σ'.length=σ.length) (yO:σ'[id]?=some .dead) (nX:∀j r,j≠id->σ[j]?=some r->∃r',σ'[j]?=some r'/\tf id k l r r') (env':Ω) (cL:∀p∈env',rK id k l (a5 env p.1) p.2)
  (hW:W P m nt kk env' σ' Z E):W P m nt kk env σ Z E:=by
 intro Q mn x cs b S B H bk U hb ω Η he;have Β:=ω.holds;have Α:=bZ.uS Β bL yO nX;have back:∀j r',j≠id->σ'[j]?=some r'->∃r,σ[j]?=some r/\tf id k l r r':=λj r' ε h=>by
  have aH:j<σ.length:=by rw[<-hlen];exact(b7.1 h).1
  obtain⟨r2,J,γ⟩:=nX j _ ε (a2 aH);rw[h] at J;cases J;exact⟨_,a2 aH,γ⟩
 have live:∀{r r':Row},tf id k l r r'->r'.live->r.live:=λ{r r'} h hv=>by
  rcases h with rfl|⟨_,_,_,_,rfl,rfl,_⟩
  ·exact hv
  ·trivial
 have jc:Holds (S.set B H id) B σ' H:=by
  refine⟨λb o v h=>?_,by rw[hlen];exact Β.len,λj r bo μ eZ=>?_,λi j ej b' b gM gN fE hi ε ik ec hx cO=>?_,λj r b N μ fe hb o=>?_⟩
  ·unfold aC.set at h;split at h
   ·split at h
    ·cases ζ:H.aG b o with
     | none=>rw[ζ] at h;cases h
     | some x=>rw[ζ] at h;cases h;exact⟨x.2,rfl⟩
    ·exact Β.dg b o v h
   ·exact Β.dg b o v h
  ·by_cases e:j=id
   ·subst e;rw[yO] at μ;cases μ;trivial
   ·obtain⟨r0,J,γ⟩:=back j r e μ;have π:=Β.row j r0 bo J eZ;rcases γ with rfl|⟨t2,n,es,es',rfl,rfl,Μ,aB⟩
    ·refine π.later Α (λb N _=>⟨λ_=>rfl,rfl,rfl⟩) λcM left cur Ζ=>?_;subst Ζ;obtain⟨_,_,aT,kI,xs,clock,seen,_,dZ,⟨es,dM⟩,_⟩:=π;refine⟨?_,rfl,λb N _=>⟨λ_=>rfl,rfl,rfl⟩⟩;have bw:cM≠id:=λe=>by subst e;rw[bL] at dM;cases dM
     obtain⟨r',dP,p2⟩:=nX cM _ bw dM;rcases p2 with rfl|⟨_,_,_,_,p3,_⟩
     ·rw[dP,dM]
     ·cases p3
    ·cases bo with
     | none=>
      have:es=[]:=π;subst this;exact dp.1 Μ
     | some y=>
      obtain⟨b,N⟩:=y;obtain⟨Ρ,ag,aV,w,cr⟩:=π;refine⟨Ρ,by rw[Μ];exact ag,aV,w,λi aJ hi=>?_⟩;have aH:i<es.length:=by rw[<-Μ];exact(b7.1 hi).1
      obtain⟨c1,c2⟩:=cr i _ (a2 aH);obtain⟨d1,d2⟩:=aB i _ aJ (a2 aH) hi;refine⟨d1.trans c1,λx b9 U=>?_⟩;have tP:x<(es[i]).cells.length:=by rw[<-d1];exact(b7.1 U).1
      obtain⟨dZ,dM,h0⟩:=c2 x _ (a2 tP);exact⟨dZ,dM.Qz Β bL Α (d2 x _ b9 (a2 tP) U),h0⟩
  ·have QA:∀j r,σ'[j]?=some r->r.live->j≠id:=λj r h hv e=>by subst e;rw[yO] at h;cases h;exact hv
   obtain⟨r1,a1,ba⟩:=back i ej (QA i ej hi ik) hi;obtain⟨r2,bP,dw⟩:=back j b' (QA j b' ε ec) ε;exact Β.inj i j r1 r2 b gM gN fE a1 bP (live ba ik) (live dw ec) hx cO
  ·have bw:j≠id:=λe=>by subst e;rw[yO] at μ;cases μ;exact fe
   obtain⟨r1,a1,ba⟩:=back j r bw μ;have ο:=Β.sep j r1 b N a1 (live ba fe) hb o;unfold aC.set;split
   ·rename_i cK ho jA;split
    ·rename_i e;subst e;exact(Β.inj j id r1 _ b N ho bw a1 bL (live ba fe) trivial hb jA).elim
    ·exact ο
   ·exact ο
 have q5:Ext S B H (S.set B H id) B H:=by
  refine⟨Qy Β bL,λ_ _ _=>m8.of ⟨λ_=>rfl,rfl,rfl⟩,λ_ h=>.inl h,λb o v hv=>?_,λ_ h=>h⟩;unfold aC.set at hv;split at hv
  ·rename_i cK N jA;split at hv
   ·rename_i e;subst e;exact .inr (.inl ⟨N,cv jA⟩)
   ·exact .inl hv
  ·exact .inl hv
 have ν:eJ m S B H σ (S.set B H id) B H σ':=⟨q5,Α.left m⟩
 have z9:∀(l2:Ω),(∀p∈l2,rK id k l (a5 env p.1) p.2)->∀i,ar S B σ (a5 env i) (bk.getD i undef)->ar (S.set B H id) B σ' (a5 l2 i) (bk.getD i undef):=by
  intro l2
  induction l2 with
  | nil=>intro _ i _;exact .cz _
  | cons p l2 Δ=>
   intro sF i μ;simp only[a5];split
   ·rename_i e;subst e;exact μ.Qz Β bL Α (sF p (by simp))
   ·exact Δ (λq Χ=>sF q (by simp[Χ])) i μ
 refine hW Q mn x cs b _ _ H bk U hb ⟨jc,λi=>z9 env' cL i (ω.b6 i),ω.size,by rw[hlen];exact ω.rows⟩ (λj ha gA cU e5 bO t2 cy Ρ ag aV cr=>?_) (λa ha gA cU e5 bO t2 cy v Ρ ag aV cr gO=>?_)
 ·exact Η j ha gA cU e5 bO t2 cy Ρ (ν.trans ag) aV cr
 ·exact he a ha gA cU e5 bO t2 cy v Ρ (ν.trans ag) aV cr gO
end
end Go.TL
namespace Go.TL
open Go.Proofs
variable [bn]
theorem cΚ (d:cG) (n:Nat):(h9 d n).1.Pairwise (· < ·)/\∀x∈(h9 d n).1,0<=x/\x<n:=by
 induction n with
 | zero=>exact⟨List.Pairwise.nil,λx h=>(by cases h)⟩
 | succ n Δ=>
  show((h9 d n).1++_).Pairwise _/\∀x∈(h9 d n).1++_,_;constructor
  ·rw[List.pairwise_append];refine⟨Δ.1,by split<;>simp,λa ν b hb=>?_⟩;have:=Δ.2 a ν;split at hb
   ·simp at hb;omega
   ·simp at hb
  ·intro x U;rcases List.mem_append.1 U with U|U
   ·have:=Δ.2 x U;omega
   ·split at U
    ·simp at U;omega
    ·simp at U
structure wW (L:List (List Int)):Prop where
 lo:1<=L.length
 hi:L.length<=3
 each:∀l∈L,l.length<=3/\l.Pairwise (· < ·)/\∀x∈l,0<=x/\x<3
theorem cΜ {l:List Int} (J:l.Pairwise (· < ·)) (γ:∀x∈l,0<=x/\x<3):ya l=0:=by
 refine Bt λx U=>?_;obtain⟨i,hi,rfl⟩:=List.mem_map.1 U;have hi:=List.mem_range.1 hi;unfold v8;rw[a2 hi];have π:=γ _ (List.getElem_mem hi);simp only;rw[if_neg,if_neg]
 ·rintro⟨ah,Μ⟩;rw[a2 (by omega)] at Μ;have:=List.pairwise_iff_getElem.1 J (i-1) i (by omega) hi (by omega);simp only[Option.getD_some] at Μ;omega
 ·unfold nk;simp;omega
theorem wW.err {L:List (List Int)} (h:wW L):n5 L=0:=by
 unfold n5;have J:=h.lo;have γ:=h.hi;rw[if_neg (by omega),if_neg (by omega)];refine Bt λx U=>?_;obtain⟨i,hi,rfl⟩:=List.mem_map.1 U;have hi:=List.mem_range.1 hi;rw[a2 hi];obtain⟨_,π,Μ⟩:=h.each _ (List.getElem_mem hi);exact cΜ π Μ
abbrev bE:θ:=.sl true 0 []
structure cΝ where
 k:Nat
 d:cG
 L:List (List Int)
theorem rL {L:List (List Int)}:∀e∈L.map (bf R 1),∀a∈e.cells,av 0 a:=λe he a ν=>by
 obtain⟨x,_,rfl⟩:=List.mem_map.1 he;simp[θ.cells] at ν;subst ν;simp[fJ,θ.cells]
theorem cΞ (d:cG) (hd:d.bm.length<2 ^ 63) (iB cells:Nat) (hB:1<=iB) (yM:iB<=6) (Fs:cells<=4) :
  ak Tryz.prog 90 [.Ψ 0 1 0 0,R iB,R cells] [b4 d] (λa s=>∃G L nc ep,cC a (.aW [aQ G,aN L,aX 4 (List.replicate nc bE)])/\pe G/\wW L/\nc<=cells/\s=b4 ep::.dead::.dead::.dead::aL 60 1 (List.replicate nc bE)/\ep.bm.length<=d.bm.length) (λ_ _=>False):=by
 refine ak.body Κ Tryz.func90 rfl rfl Tryz.ntmps90 rfl rfl (by simp) ?_
 repeat apply κ
 refine c7 (A:=[6]) Κ λη I=>?_;simp;(repeat (rw[δ];simp));apply I
 repeat apply κ
 refine c7 (A:=[7]) Κ λη I=>?_;simp;(repeat (rw[δ];simp));refine uR.c (cΒ d hd iB hB yM) 0 rfl (aK.refl _) (by simp) (by rintro r ⟨l,rfl,_⟩;exact fJ.2 rJ) ?_;rintro r d1 ⟨G,rfl,cX⟩ j2;simp;(repeat (rw[δ];simp));apply I;have cΟ:d1.bm.length<2 ^ 63:=by omega
 obtain⟨pz,hI⟩:=Fg d1 (a:=1) (b:=3) (by decide) (by decide) (by decide);obtain⟨nl,sy⟩:∃n:Nat,pa d1 1 3=n:=⟨(pa d1 1 3).toNat,by omega⟩;rw[sy] at pz hI;obtain⟨d2,nz⟩:∃x,d1.after (IntKind.i64.wrap (3-1))=x:=⟨_,rfl⟩;have Fi:d2.bm.length<=d.bm.length:=by rw[<-nz];exact Nat.le_trans (mP _ _) j2
 have Τ:=Ff d1 cΟ 1 3;rw[sy,nz] at Τ;(repeat apply κ);refine ξ λη I=>?_;simp;(repeat (rw[δ];simp));refine eL.c (Τ) 0 rfl (aK.refl _) (by simp) (by simp) ?_;simp;(repeat (rw[δ];simp));apply I;have J6:∀L:List (List Int),(aX 3 (L.map (bf R 1))=.sl true 0 []/\aL 29 1 (L.map (bf R 1))=[]/\L=[])\/(aX 3 (L.map (bf R 1))=.ms 3 L.length 0 L.length/\aL 29 1 (L.map (bf R 1))=[.cells 29 1 (L.map (bf R 1))]/\0<L.length):=λL=>by
  by_cases Η:L=[]
  ·subst Η;exact .inl ⟨rfl,rfl,rfl⟩
  ·have gp:L.map (bf R 1)≠[]:=by simpa using Η
   exact .inr ⟨by rw[fi gp,List.length_map],c8 gp,List.length_pos_iff.2 Η⟩
 repeat apply κ
 refine W.iter (λx:cΝ=>x.L.length+x.k=nl/\x.d.bm.length<=d.bm.length/\∀l∈x.L,l.length<=3/\l.Pairwise (· < ·)/\∀y∈l,0<=y/\y<3)
  (λx=>[(0,.Ψ 0 1 0 0),(2,R cells),(6,.Ψ 1 1 0 0),(7,.Ψ 2 1 0 0),(8,R x.k)])
  (λx=>b4 x.d::eH bE bE bE::eH (aQ G) (aX 3 (x.L.map (bf R 1))) bE::aL 29 1 (x.L.map (bf R 1))) (λx=>x.k) ⟨nl,d2,[]⟩ ⟨by simp,Fi,by simp⟩ rfl (by simp) (λx U Δ=>?_)
 obtain⟨k,D,L⟩:=x;obtain⟨χ,nA,aD⟩:=U;simp only at χ nA aD Δ ⊢;(repeat (first|apply κ|(refine ξ λη I=>?_;simp;(repeat (rw[δ];simp));apply I)));refine W.en rfl (λζ=>?_) (λζ=>?_)
 ·have k4:0<k:=by simpa using ζ
  obtain⟨j,ε⟩:∃j,k=j+1:=⟨k-1,by omega⟩;have hw:IntKind.i64.wrap ((k:Int)-1)=j:=by rw[IntWalk.i64_in _ (by omega)];omega
  have hi:=cη D (by omega)
  have ν:=cΚ D 3
  have J7:=Qh D 3
  have Ej:=Qg D 3;obtain⟨l,Α⟩:∃x,(h9 D 3).1=x:=⟨_,rfl⟩;obtain⟨pf,qo⟩:∃x,(h9 D 3).2=x:=⟨_,rfl⟩;rw[Α,qo] at hi;rw[Α] at ν J7;rw[qo] at Ej;have uL:(L++[l]).length+j=nl/\pf.bm.length<=d.bm.length/\∀x∈L++[l],x.length<=3/\x.Pairwise (· < ·)/\∀y∈x,0<=y/\y<3:=by
   refine⟨by simp;omega,by omega,λx U=>?_⟩;rcases List.mem_append.1 U with U|U
   ·exact aD x U
   ·simp at U;subst U;exact⟨J7,ν.1,ν.2⟩
  have bw:(L++[l]).map (bf R 1)≠[]:=by simp
  repeat apply κ
  rcases J6 L with⟨Ε,Ζ,a6⟩|⟨Ε,Ζ,a6⟩
  ·rw[Ε,Ζ];refine W.JQ (A:=[25]) Κ mixed λη I=>?_;simp;(repeat (rw[ku];simp[]));(try rw[ks]);refine eL.e (hi) (aK.refl _) (by simp) (by simp) ?_;simp[];(repeat (rw[ku];simp[]));(try rw[ks]);refine⟨bW (by kernel_rfl),bW (by kernel_rfl),I _ _ ?_⟩;(repeat (first|apply κ|(refine ξ λη I=>?_;simp;(repeat (rw[δ];simp[hw]));apply I)));subst a6;refine W.to (Δ ⟨j,pf,[]++[l]⟩ uL (by show j<k;omega)) ?_ ?_
   ·have e:aX 3 (([]++[l]).map (bf R 1))=.ms 3 1 0 1:=rfl
    have aJ:aL 29 1 (([]++[l]).map (bf R 1))=[.cells 29 1 [bf R 1 l]]:=rfl;simp only[e,aJ]
   ·simp
  ·rw[Ε,Ζ];refine W.JQ (A:=[25]) Κ mixed λη I=>?_;simp;(repeat (rw[ku];simp[]));(try rw[ks]);refine eL.e (hi) (aK.refl _) (by simp) (by simp) ?_;simp[];(repeat (rw[ku];simp[]));(try rw[ks]);refine⟨by omega,?_⟩;refine⟨bW (by kernel_rfl),bW (by kernel_rfl),I _ _ ?_⟩;(repeat (first|apply κ|(refine ξ λη I=>?_;simp;(repeat (rw[δ];simp[hw]));apply I)));refine W.to (Δ ⟨j,pf,L++[l]⟩ uL (by show j<k;omega)) ?_ ?_
   ·have e:aX 3 ((L++[l]).map (bf R 1))=.ms 3 (L.length+1) 0 (L.length+1):=by rw[fi bw,List.length_map,List.length_append];rfl
    have aJ:aL 29 1 ((L++[l]).map (bf R 1))=[.cells 29 1 (L.map (bf R 1)++[bf R 1 l])]:=by rw[c8 bw,List.map_append];rfl
    simp only[e,aJ]
   ·simp
 ·have k4:k=0:=by simp at ζ;omega
  subst k4;have mD:L.length=nl:=by omega
  have cΡ:wW L:=⟨by omega,by omega,aD⟩;rcases J6 L with⟨Ε,Ζ,a6⟩|⟨Ε,Ζ,a6⟩
  ·subst a6;simp at mD;omega
  refine W.to (env':=[(0,.Ψ 0 1 0 0),(2,R cells),(6,.Ψ 1 1 0 0),(7,.Ψ 2 1 0 0)]) (σ':=[b4 D,eH bE bE bE,eH (aQ G) (.ms 3 L.length 0 L.length) bE,.cells 29 1 (L.map (bf R 1))]) ?_ (by rw[Ε,Ζ]) (by simp);clear Δ ζ J6 Ε Ζ;refine W.exit rfl ?_;have wa:D.bm.length<2 ^ 63:=by omega
  obtain⟨dE,eU⟩:=Fg D (a:=0) (b:=cells) (by omega) (by decide) (by omega);obtain⟨nc,sj⟩:∃n:Nat,pa D 0 cells=n:=⟨(pa D 0 cells).toNat,by omega⟩;rw[sj] at dE eU;obtain⟨d3,Bv⟩:∃x,D.after (IntKind.i64.wrap ((cells:Int)-0))=x:=⟨_,rfl⟩;have J0:d3.bm.length<=d.bm.length:=by rw[<-Bv];exact Nat.le_trans (mP _ _) nA
  have Τ:=Ff D wa 0 cells;rw[sj,Bv] at Τ;(repeat apply κ);refine ξ λη I=>?_;simp;(repeat (rw[δ];simp));refine eL.c (Τ) 0 rfl (aK.refl _) (by simp) (by simp) ?_;simp;(repeat (rw[δ];simp));apply I
  repeat apply κ
  refine W.iter (λx:Nat×Nat=>x.1+x.2=nc)
   (λx=>[(0,.Ψ 0 1 0 0),(6,.Ψ 1 1 0 0),(7,.Ψ 2 1 0 0),(9,R x.1)])
   (λx=>b4 d3::eH bE bE bE::eH (aQ G) (.ms 3 L.length 0 L.length) (aX 4 (List.replicate x.2 bE))::.cells 29 1 (L.map (bf R 1))::aL 60 1 (List.replicate x.2 bE)) (λx=>x.1) (nc,0) (by simp) rfl (by simp) (λx U Δ=>?_)
  obtain⟨k,c⟩:=x;simp only at U Δ ⊢;(repeat (first|apply κ|(refine ξ λη I=>?_;simp;(repeat (rw[δ];simp));apply I)));refine W.en rfl (λζ=>?_) (λζ=>?_)
  ·have k4:0<k:=by simpa using ζ
   obtain⟨j,ε⟩:∃j,k=j+1:=⟨k-1,by omega⟩;have hw:IntKind.i64.wrap ((k:Int)-1)=j:=by rw[IntWalk.i64_in _ (by omega)];omega
   have Hd:aX 4 (List.replicate (c+1) bE)=.ms 4 (c+1) 0 (c+1):=by rw[fi (by simp),List.length_replicate]
   have AH:aL 60 1 (List.replicate (c+1) bE)=[.cells 60 1 (List.replicate c bE++[bE])]:=by rw[c8 (by simp),List.replicate_succ']
   repeat apply κ
   by_cases Η:c=0
   ·subst Η;have tN:aX 4 (List.replicate 0 bE)=bE:=rfl;have zT:aL 60 1 (List.replicate 0 bE)=[]:=rfl;rw[tN,zT];refine c7 (A:=[37]) Κ λη I=>?_;simp;(repeat (rw[δ];simp));apply I;(repeat (first|apply κ|(refine ξ λη I=>?_;simp;(repeat (rw[δ];simp[hw]));apply I)));refine W.to (Δ (j,1) (by show j+1=nc;omega) (by show j<k;omega)) ?_ ?_
    ·simp only[Hd,AH];rfl
    ·simp
   ·have tN:aX 4 (List.replicate c bE)=.ms 4 c 0 c:=by rw[fi (by simp[Η]),List.length_replicate]
    have zT:aL 60 1 (List.replicate c bE)=[.cells 60 1 (List.replicate c bE)]:=c8 (by simp[Η]);rw[tN,zT];refine c7 (A:=[37]) Κ λη I=>?_;simp;(repeat (rw[δ];simp));refine⟨by omega,?_⟩;apply I;(repeat (first|apply κ|(refine ξ λη I=>?_;simp;(repeat (rw[δ];simp[hw]));apply I)));refine W.to (Δ (j,c+1) (by show j+(c+1)=nc;omega) (by show j<k;omega)) ?_ ?_
    ·simp only[Hd,AH]
    ·simp
  ·have k4:k=0:=by simp at ζ;omega
   have hr:c=nc:=by omega
   subst hr;refine W.exit rfl ?_;obtain⟨C,hC⟩:∃x,x=aX 4 (List.replicate c bE):=⟨_,rfl⟩;obtain⟨RC,Ft⟩:∃x,x=aL 60 1 (List.replicate c bE):=⟨_,rfl⟩;rw[<-hC,<-Ft];have cΤ:(C=bE/\RC=[])\/(C=.ms 4 c 0 c/\RC=[.cells 60 1 (List.replicate c bE)]):=by
    by_cases Η:c=0
    ·subst Η;exact .inl ⟨hC,Ft⟩
    ·exact .inr ⟨by rw[hC,fi (by simp[Η]),List.length_replicate],by rw[Ft,c8 (by simp[Η])]⟩
   repeat apply κ
   refine W.fC (A:=[]) Κ [(6,.Ψ 1 1 0 0)] (b4 d3::eH (aQ G) (.ms 3 L.length 0 L.length) C::eH (aQ G) (.ms 3 L.length 0 L.length) C::.cells 29 1 (L.map (bf R 1))::RC) ?_ (by
    rcases cΤ with⟨Ε,Ζ⟩|⟨Ε,Ζ⟩
    ·rw[Ε,Ζ];(try simp);(repeat (rw[δ];simp));(try simp[])
    ·rw[Ε,Ζ];(try simp);(repeat (rw[δ];simp));(try simp[]))
   have r7:rK 3 1 (L.map (bf R 1)) (.ms 3 L.length 0 L.length) (aN L):=by
    have:=rK.ms (id:=3) (k:=1) (l:=L.map (bf R 1))
    rwa [List.length_map] at this
   have cf:tf 3 1 (L.map (bf R 1)) (eH (aQ G) (.ms 3 L.length 0 L.length) C) (eH (aQ G) (aN L) C):=by
    refine .inr ⟨26,3,_,_,rfl,rfl,rfl,λi e aJ J γ=>?_⟩
    match i with
    | 0=>
     simp at J γ;subst J;subst γ;refine⟨rfl,λx a b9 π Μ=>?_⟩
     match x with
     | 0=>simp[θ.cells] at π Μ;subst π;subst Μ;exact .same _
     | 1=>simp[θ.cells] at π Μ;subst π;subst Μ;exact r7
     | 2=>simp[θ.cells] at π Μ;subst π;subst Μ;exact .same _
     | x+3=>simp[θ.cells] at π
    | i+1=>simp at J
   refine W.uS (σ':=b4 d3::eH (aQ G) (aN L) C::eH (aQ G) (aN L) C::.dead::RC) (id:=3) (by simp) rfl rfl rfl (λj r ε μ=>?_) [(6,.Ψ 1 1 0 0)] (λp ω=>by simp at ω;subst ω;exact .same _) ?_
   ·match j,ε,μ with
    | 0,_,μ=>simp at μ;subst μ;exact⟨_,rfl,.inl rfl⟩
    | 1,_,μ=>simp at μ;subst μ;exact⟨_,rfl,cf⟩
    | 2,_,μ=>simp at μ;subst μ;exact⟨_,rfl,cf⟩
    | 3,h,_=>exact absurd rfl h
    | j+4,_,μ=>exact⟨r,μ,.inl rfl⟩
   refine W.uS (σ':=b4 d3::eH (aQ G) (aN L) C::.dead::.dead::RC) (id:=2) (by simp) rfl rfl rfl (λj r ε μ=>?_) [(6,.Ψ 1 1 0 0)] (λp ω=>by simp at ω;subst ω;exact .same _) ?_
   ·match j,ε,μ with
    | 0,_,μ=>exact⟨r,μ,.inl rfl⟩
    | 1,_,μ=>exact⟨r,μ,.inl rfl⟩
    | 2,h,_=>exact absurd rfl h
    | j+3,_,μ=>exact⟨r,μ,.inl rfl⟩
   refine W.uS (σ':=b4 d3::.dead::.dead::.dead::RC) (id:=1) (by simp) rfl rfl rfl (λj r ε μ=>?_) [(6,.ad [aQ G,aN L,C])] (λp ω=>by simp at ω;subst ω;exact .Ψ (e:=.aW [aQ G,aN L,C]) rfl) ?_
   ·match j,ε,μ with
    | 0,_,μ=>exact⟨r,μ,.inl rfl⟩
    | 1,h,_=>exact absurd rfl h
    | j+2,_,μ=>exact⟨r,μ,.inl rfl⟩
   refine W.ret ⟨_,rfl,?_⟩;refine⟨G,L,c,d3,?_,cX,cΡ,by omega,by rw[Ft],J0⟩;rw[<-hC];exact .refl _
theorem cΥ:∀a<64,∀b<64,0<=gz .i64 (a:Nat) (b:Nat)/\gz .i64 (a:Nat) (b:Nat)<=63/\0<=qS .i64 (a:Nat) (b:Nat)/\qS .i64 (a:Nat) (b:Nat)<=63/\gz .i64 (b:Nat) (qS .i64 (a:Nat) (b:Nat))=0:=by decide +kernel
theorem J8 {a b:Int} (ν:0<=a/\a<=63) (hb:0<=b/\b<=63):(0<=gz .i64 a b/\gz .i64 a b<=63)/\(0<=qS .i64 a b/\qS .i64 a b<=63)/\gz .i64 b (qS .i64 a b)=0:=by
 obtain⟨x,rfl⟩:∃x:Nat,a=x:=⟨a.toNat,by omega⟩;obtain⟨y,rfl⟩:∃y:Nat,b=y:=⟨b.toNat,by omega⟩;obtain⟨J,γ,π,Μ,aB⟩:=cΥ x (by omega) y (by omega);exact⟨⟨J,γ⟩,⟨π,Μ⟩,aB⟩
structure yP (n:Nat) (c:List di):Prop where
 hi:c.length<=3
 apart:(c.map (·.cV)).Nodup
 each:∀p∈c,(0<=p.cV/\p.cV<n)/\(0<=p.seen/\p.seen<=63)/\(0<=p.bare/\p.bare<=63)/\rb p.seen p.bare=0
structure lV (s:aR):Prop where
 ai:pe s.ai
 ao:wW s.ao
 many:s.cells.length<=4
 cells:∀c∈s.cells,yP s.ao.length c
theorem yP.err {s:aR} {c:List di} (h:yP s.ao.length c):p0 s c=0:=by
 unfold p0;have:=h.hi;rw[if_neg (by omega)];refine Bt λx U=>?_;obtain⟨i,hi,rfl⟩:=List.mem_map.1 U;have hi:=List.mem_range.1 hi;rw[a2 hi];obtain⟨J,γ,π,Μ⟩:=h.each _ (List.getElem_mem hi);simp only;unfold iw;rw[if_neg (by omega),if_neg,if_neg (by unfold valid;simp;omega),if_pos Μ];intro ν;obtain⟨y,Ο,he⟩:=List.any_eq_true.1 ν;obtain⟨j,ε,rfl⟩:=List.mem_take_iff_getElem.1 Ο;have hd:=List.pairwise_iff_getElem.1 h.apart j i (by simp;omega) (by simpa using hi) (by omega);simp at he hd;exact hd he
theorem lV.err {s:aR} (h:lV s):s.err=0:=by
 unfold aR.err;rw[h.ai.err,h.ao.err,if_neg (by simp),if_neg (by simp)];unfold sG;have:=h.many;rw[if_neg (by omega)];refine Bt λx U=>?_;obtain⟨i,hi,rfl⟩:=List.mem_map.1 U;have hi:=List.mem_range.1 hi;rw[a2 hi];exact(h.cells _ (List.getElem_mem hi)).err
theorem lV.small {s:aR} (h:lV s):s.small:=by
 have J:=h.ai.hi
 have γ:=h.ao.hi
 have π:=h.many;refine⟨by omega,by omega,by omega,λx U=>?_,λx U=>?_⟩
 ·have:=(h.ao.each x U).1;omega
 ·have:=(h.cells x U).hi;omega
theorem cΦ (d:cG) (hd:d.bm.length<2 ^ 63) (iB cells:Nat) (hB:1<=iB) (yM:iB<=6) (Fs:cells<=4) {σ:List Row} {K E:θ->List Row->Prop} (ah:σ[0]?=some (b4 d))
  (I:∀G L nc ep,pe G->wW L->nc<=cells->ep.bm.length<=d.bm.length->K (.aW [aQ G,aN L,aX (σ.length+3) (List.replicate nc bE)]) (σ.set 0 (b4 ep)++(.dead::.dead::.dead::aL 60 1 (List.replicate nc bE)))) :
  h1 Tryz.prog (.fn (.func 90) [] []) [.Ψ 0 1 0 0,R iB,R cells] σ K E:=by
 have ω:∀nc,∀r∈aL 60 1 (List.replicate nc bE),Al r:=λnc r μ=>by
  unfold aL at μ;split at μ
  ·cases μ
  ·simp at μ;subst μ;refine .inl λe he a ν=>?_;have:=List.eq_of_mem_replicate he;subst this;simp[θ.cells] at ν;subst ν;simp[fJ]
 have J:=ak.kQ (cΞ d hd iB cells hB yM Fs) (aK.refl _) (K':=λa s=>∃G L nc ep,a=.aW [aQ G,aN L,aX 4 (List.replicate nc bE)]/\pe G/\wW L/\nc<=cells/\s=b4 ep::.dead::.dead::.dead::aL 60 1 (List.replicate nc bE)/\ep.bm.length<=d.bm.length) (λa s ⟨G,L,nc,ep,J,γ⟩=>⟨_,J,G,L,nc,ep,rfl,γ⟩)
 have aS:=ak.HY (σ:=σ) J [0] (by simp) rfl (λj i ε=>by
  cases j with
  | zero=>simp at ε;subst ε;exact ah
  | succ j=>simp at ε) (λr μ=>by simp at μ;subst μ;exact o9 d) (by
   intro a ν;simp at ν;rcases ν with rfl|rfl|rfl
   ·exact Nat.zero_lt_one
   ·exact(av.z _).hf 1
   ·exact(av.z _).hf 1) (K':=K) (E':=E) (λa s=>by
   rintro⟨G,L,nc,ep,rfl,Ρ,ag,aV,rfl,cr⟩;refine⟨λr μ=>?_,?_,?_⟩
   ·simp only[List.mem_cons] at μ;rcases μ with rfl|rfl|rfl|rfl|μ
    ·exact .inl (o9 ep)
    ·exact .inr rfl
    ·exact .inr rfl
    ·exact .inr rfl
    ·exact ω nc r μ
   ·intro a ν;simp only[List.mem_cons,List.not_mem_nil,or_false] at ν;rcases ν with rfl|rfl|rfl
    ·exact av.top (fJ.2 rJ) _
    ·exact av.top (fJ.2 rL) _
    ·unfold aX aL;split
     ·exact av.top (by simp) _
     ·show 4<_;simp
   ·have Ε:pT σ [0] (b4 ep::.dead::.dead::.dead::aL 60 1 (List.replicate nc bE))=σ.set 0 (b4 ep)++(.dead::.dead::.dead::aL 60 1 (List.replicate nc bE)):=by
     simp[pT,iu]
    have Ζ:dI (names [0] σ.length (b4 ep::.dead::.dead::.dead::aL 60 1 (List.replicate nc bE))) (.aW [aQ G,aN L,aX 4 (List.replicate nc bE)])=.aW [aQ G,aN L,aX (σ.length+3) (List.replicate nc bE)]:=by
     by_cases Η:nc=0
     ·subst Η;rfl
     ·rw[fi (by simp[Η]),fi (by simp[Η]),c8 (by simp[Η])];show θ.aW [_,_,_]=_;simp[hN,names,List.range_succ]
    rw[Ε,Ζ];exact I G L nc ep Ρ ag aV cr) (λa s h=>h.elim)
 exact ak.call (first:=[]) (captured:=[]) (by simpa[mz,dI,hN] using aS)
section
variable {P:Program} {m nt:Nat} {k:List Item} {env:Ω} {σ:List Row} {Z:List Item->Ω->List Row->Prop} {E:θ->Ω->List Row->Prop}
theorem W.bind {QB:List Item->Ω->List Row->Prop} (h:W P m nt k env σ QB E) (γ:∀j e s,QB j e s->W P m nt j e s Z E):W P m nt k env σ Z E:=
 λQ mn x cs b S B H t U hb ω Η he=>h Q mn x cs b S B H t U hb ω
  (λj e s ay B' H' t' ab tN ν hU χ=>by
   cases χ;exact γ j e s tN Q mn x cs b ay B' H' t' U hb hU (λcΧ Ζ s2 cU e5 bO t2 cy tA ba=>Η cΧ Ζ s2 cU e5 bO t2 cy tA (ν.trans ba)) (λba Ζ s2 cU e5 bO t2 cy v2 tA pD=>he ba Ζ s2 cU e5 bO t2 cy v2 tA (ν.trans pD)))
  he
theorem W.upto {a:Item} (env':Ω) (σ':List Row) (J:W P m nt (a::k) env σ (λj e s=>j=k/\s=σ'/\∀p∈env',a5 e p.1=p.2) E) (γ:W P m nt k env' σ' Z E):W P m nt (a::k) env σ Z E:=
 .bind J λj e s ⟨ε,ο,he⟩=>by
  subst ε;subst ο;exact .forget env' he γ
theorem W.rM {a:Item} {l:Nat} (env':Ω) (σ':List Row) (J:W P m nt (a::.inBlock l::k) env σ (λj e s=>j=k/\s=σ'/\∀p∈env',a5 e p.1=p.2) E) (γ:W P m nt k env' σ' Z E):W P m nt (a::.inBlock l::k) env σ Z E:=
 .bind J λj e s ⟨ε,ο,he⟩=>by
  subst ε;subst ο;exact .forget env' he γ
end
section
variable {α:Type} [Inhabited α]
theorem BA (enc:α->θ) (d:Array α) {i:Nat} (h:i<d.size):(d.toList.map enc)[i]?=some (enc d[i]!):=by
 rw[List.getElem?_map,Array.getElem?_toList,sz h];rfl
theorem jO (enc:α->θ) {d:Array α} {n:Nat} (Ι:d.size=n) {i j:Nat} (hi:i<n) (ε:j<n):∃(L:List θ) (x y:α),d.toList.map enc=L/\d[i]! = x/\d[j]! = y/\L.length=n/\(L[i]?=some (enc x)/\∀h,L[i]'h=enc x)/\(L[j]?=some (enc y)/\∀h,L[j]'h=enc y)/\(Go.Sort.swp d i j).toList.map enc=(L.set i (enc y)).set j (enc x)/\∃z,∀h,(L.set i (enc y))[j]'h=enc z:=by
 subst Ι;refine⟨_,_,_,rfl,rfl,rfl,by simp,⟨BA enc d hi,λh=>?_⟩,⟨BA enc d ε,λh=>?_⟩,by simp[Go.Sort.swp],if i=j then d[j]! else d[j]!,λh=>?_⟩
 ·have:=BA enc d hi;rw[a2 h] at this;exact Option.some.inj this
 ·have:=BA enc d ε;rw[a2 h] at this;exact Option.some.inj this
 ·rw[List.getElem_set,ite_self];split
  ·rfl
  ·have:=BA enc d ε;rw[a2 (by simpa using h)] at this;exact Option.some.inj this
theorem swp_size {d:Array α} {n:Nat} (Ι:d.size=n) (i j:Nat):(Go.Sort.swp d i j).size=n:=by simp[Go.Sort.swp,Ι]
theorem BB (p q:α->Bool) (Χ:∀x,q x = !p x) (d:Array α) {i j a0 aI:Nat} (ah:0<i) (fE:i<=j+1) (fr:Go.Sort.scanUp p d j i=a0) (dn:Go.Sort.scanDown q d a0 j=aI):i<=a0/\a0<=j+1/\aI<=j/\a0<=aI+1/\(a0<=aI->a0<aI):=by
 obtain⟨ez,ed,jη,QC⟩:=Go.Sort.scanUp_spec p d j _ i rfl;obtain⟨v1,v2,wI,v4⟩:=Go.Sort.scanDown_spec q d a0 j;rw[fr] at ez ed QC;rw[dn] at v1 v2 v4;refine⟨ez,ed fE,v1,v2 (ed fE),λh=>?_⟩;rcases Nat.lt_or_ge a0 aI with cW|cW
 ·exact cW
 ·have e:a0=aI:=by omega
  have f1:=QC (by omega)
  have f2:=v4 h (by omega);rw[Χ,<-e,f1] at f2;cases f2
theorem cΨ (lt:α->α->Bool) {a b n:Nat}:∀(m i j:Nat) (g:Array α),j+1-i<=m->g.size=n->0<i->i<=j+1->j<b->(Go.Sort.partLoop lt a i j g).2.size=n/\(Go.Sort.partLoop lt a i j g).1<b:=by
 intro m
 induction m with
 | zero=>
  intro i j g hm Υ ah fE ε;rw[Go.Sort.partLoop_eq];obtain⟨a0,fr⟩:∃a0,Go.Sort.scanUp (λx=>lt x g[a]!) g j i=a0:=⟨_,rfl⟩;obtain⟨aI,dn⟩:∃aI,Go.Sort.scanDown (λx=>!lt x g[a]!) g a0 j=aI:=⟨_,rfl⟩;obtain⟨s1,s2,ot,u7,ou⟩:=BB (λx=>lt x g[a]!) (λx=>!lt x g[a]!) (λx=>rfl) g ah fE fr dn;rw[fr,dn,if_pos (by apply Classical.byContradiction;intro h;have:=ou (by omega);omega)];exact⟨Υ,by show aI<b;omega⟩
 | succ m Δ=>
  intro i j g hm Υ ah fE ε;rw[Go.Sort.partLoop_eq];obtain⟨a0,fr⟩:∃a0,Go.Sort.scanUp (λx=>lt x g[a]!) g j i=a0:=⟨_,rfl⟩;obtain⟨aI,dn⟩:∃aI,Go.Sort.scanDown (λx=>!lt x g[a]!) g a0 j=aI:=⟨_,rfl⟩;obtain⟨s1,s2,ot,u7,ou⟩:=BB (λx=>lt x g[a]!) (λx=>!lt x g[a]!) (λx=>rfl) g ah fE fr dn;rw[fr,dn];by_cases ζ:a0 > aI
  ·rw[if_pos ζ];exact⟨Υ,by show aI<b;omega⟩
  ·rw[if_neg ζ];have:=ou (by omega);exact Δ (a0+1) (aI-1) _ (by omega) (swp_size Υ a0 aI) (by omega) (by omega) (by omega)
theorem cΩ (lt:α->α->Bool) (hi first r:Nat) (e:Array α) {c k:Nat} (ζ:c=2*r+1) (h:c<hi) (χ:k=if(decide (c+1<hi)&&lt e[first+c]! e[first+(c+1)]!)=true then c+1 else c) :
  Go.Sort.siftDown lt hi first r e=if(!lt e[first+r]! e[first+k]!)=true then e else Go.Sort.siftDown lt hi first k (Go.Sort.swp e (first+r) (first+k)):=by
 subst ζ;rw[Go.Sort.siftDown,dif_neg (by omega)];have Ε:first+(2*r+1)+1=first+(2*r+1+1):=by omega
 have Ζ:2*r+2=2*r+1+1:=by omega
 by_cases b:(decide (2*r+1+1<hi)&&lt e[first+(2*r+1)]! e[first+(2*r+1+1)]!)=true
 ·rw[if_pos b] at χ;subst χ;rw[Ε,Ζ,if_pos b];have aS:2*r+1+1<hi:=by simp at b;exact b.1
  simp only[dif_pos aS]
 ·rw[if_neg b] at χ;subst χ;rw[Ε,if_neg b]
theorem J9 {lt:α->α->Bool} {hi first n:Nat}:∀{r:Nat} {e:Array α},e.size=n->(Go.Sort.siftDown lt hi first r e).size=n:=by
 have key:∀(m r:Nat) (e:Array α),hi-r<=m->e.size=n->(Go.Sort.siftDown lt hi first r e).size=n:=by
  intro m
  induction m with
  | zero=>
   intro r e hm he;rw[Go.Sort.siftDown,dif_pos (by omega)];exact he
  | succ m Δ=>
   intro r e hm he;rw[Go.Sort.siftDown];split
   ·exact he
   ·split
    ·split
     ·exact he
     ·split
      ·exact Δ _ _ (by omega) (swp_size he _ _)
      ·exact he
    ·split
     ·exact he
     ·exact Δ _ _ (by omega) (swp_size he _ _)
 intro r e he;exact key _ r e (Nat.le_refl _) he
theorem QD {lt:α->α->Bool} {hi first n:Nat}:∀{k:Nat} {e:Array α},e.size=n->(Go.Sort.heapBuild lt hi first k e).size=n
 | 0,_,he=>he
 | k+1,e,he=>by
  show(Go.Sort.heapBuild lt hi first k (Go.Sort.siftDown lt hi first k e)).size=n;exact QD (J9 he)
theorem J' (lt:α->α->Bool) (d:Array α) {a b n:Nat} (ν:a<n) (hb:b<n) (s:Nat):(Go.Sort.order2 lt d a b s).1<n/\(Go.Sort.order2 lt d a b s).2.1<n/\(Go.Sort.order2 lt d a b s).2.2<=s+1:=by
 unfold Go.Sort.order2;split
 ·exact⟨hb,ν,Nat.le_refl _⟩
 ·exact⟨ν,hb,Nat.le_succ _⟩
theorem Ka (p:α->Bool) (d:Array α) {i j:Nat} (h:j<i):Go.Sort.scanDown p d i j=j:=by
 cases j with
 | zero=>rfl
 | succ j=>rw[Go.Sort.scanDown,if_neg (by simp;omega)]
end
structure dα (α:Type) where
 a:Nat
 b:Nat
 lim:Nat
 wb:Bool
 wp:Bool
 e:Array α
def yQ {α:Type} [Inhabited α] (a l m:Nat):Nat->Nat->UInt64×Array α->UInt64×Array α
 | 0,_,st=>st
 | k+1,idx,st=>yQ a l m k (idx+1) (Go.Sort.breakStep a l m st idx)
theorem dβ {α:Type} [Inhabited α] {d:Array α} {a b l c:Nat} (Α:l=b-a) (nL:8<=l) (ζ:c=a+(l / 4)*2):Go.Sort.breakPatterns d a b=(yQ a l (1 <<< Go.Sort.bitsLen l) 3 (c-1) (UInt64.ofNat l,d)).2:=by
 subst Α;subst ζ;unfold Go.Sort.breakPatterns;simp only[ge_iff_le,nL,if_true];rfl
abbrev oh (n:Int):θ:=.z (.int .u64 n)
def yR:Go.Sort.Hint->Int
 | .unknown=>0
 | .increasing=>1
 | .decreasing=>2
theorem QE {α:Type} {enc:α->θ} {t k:Nat} {d:Array α} {r2:Row} (hb:∀y,∀a∈(enc y).cells,av 0 a) (id:Nat) (r:Row) (bS:id<1) (μ:[Row.cells t k (d.toList.map enc),r2][id]?=some r):ek 1 r:=by
 obtain rfl:id=0:=by omega
 simp at μ;subst μ;intro e he a ν;obtain⟨y,_,rfl⟩:=List.mem_map.1 he;exact av.mono (hb y a ν) (Nat.zero_le _)
theorem dγ {l m:Nat} (h:l<2 ^ 62):IntKind.i64.wrap (Int.tdiv (l:Int) (m:Int))=((l / m:Nat):Int):=by
 rw[Int.tdiv_eq_ediv_of_nonneg (by omega)];have J:l / m<=l:=Nat.div_le_self l m;have γ:((l:Int) / (m:Int))=((l / m:Nat):Int):=rfl;rw[γ];obtain⟨q,Χ⟩:∃q,q=l / m:=⟨_,rfl⟩;rw[<-Χ] at J ⊢;rw[IntWalk.i64_in _ (by omega)]
theorem Fu {l m:Nat} (h:l<2 ^ 62):IntKind.i64.wrap ((l:Int) / (m:Int))=((l / m:Nat):Int):=by
 have:=dγ (m:=m) h;rw[Int.tdiv_eq_ediv_of_nonneg (by omega)] at this;exact this
theorem yS {x:Nat} (h:x<2 ^ 64):IntKind.u64.wrap (x:Int)=(x:Int):=by
 unfold IntKind.wrap;simp[IntKind.bits,IntKind.signed];omega
theorem Kb {x y:Nat} (U:x<2 ^ 64) (Ο:y<2 ^ 64):zN .u64 (x:Int) (y:Int)=((x^^^y:Nat):Int):=by
 have h:x^^^y<2 ^ 64:=Nat.xor_lt_two_pow U Ο
 have e:(BitVec.ofInt 64 (x:Int)^^^BitVec.ofInt 64 (y:Int)).toNat=x^^^y:=by
  rw[BitVec.toNat_xor,BitVec.ofInt_natCast,BitVec.ofInt_natCast,BitVec.toNat_ofNat,BitVec.toNat_ofNat,Nat.mod_eq_of_lt U,Nat.mod_eq_of_lt Ο]
 show IntKind.u64.wrap (BitVec.ofInt 64 (x:Int)^^^BitVec.ofInt 64 (y:Int)).toNat=_;rw[e];exact yS h
theorem Kc (x k:Nat) (χ:k<=64):IntKind.u64.wrap ((x:Int)*2 ^ min k IntKind.u64.bits)=((x*2 ^ k % 18446744073709551616:Nat):Int):=by
 have e:min k IntKind.u64.bits=k:=Nat.min_eq_left χ;rw[e];have Ζ:(x:Int)*2 ^ k=((x*2 ^ k:Nat):Int):=by simp
 rw[Ζ];obtain⟨y,Ο⟩:∃y,y=x*2 ^ k:=⟨_,rfl⟩;rw[<-Ο];unfold IntKind.wrap;simp[IntKind.bits,IntKind.signed]
theorem dδ (x k:Nat) (χ:k<=64):(x:Int).fdiv (2 ^ min k IntKind.u64.bits)=((x / 2 ^ k:Nat):Int):=by
 have e:min k IntKind.u64.bits=k:=Nat.min_eq_left χ;rw[e,Int.fdiv_eq_ediv_of_nonneg _ (Int.le_of_lt (Int.pow_pos (by decide)))];simp
theorem dε {x y:Nat} (U:x<2 ^ 64) (Ο:y<2 ^ 64):gz .u64 (x:Int) (y:Int)=((x&&&y:Nat):Int):=by
 have h:x&&&y<2 ^ 64:=Nat.lt_of_le_of_lt Nat.and_le_left U
 have e:(BitVec.ofInt 64 (x:Int)&&&BitVec.ofInt 64 (y:Int)).toNat=x&&&y:=by
  rw[BitVec.toNat_and,BitVec.ofInt_natCast,BitVec.ofInt_natCast,BitVec.toNat_ofNat,BitVec.toNat_ofNat,Nat.mod_eq_of_lt U,Nat.mod_eq_of_lt Ο]
 show IntKind.u64.wrap (BitVec.ofInt 64 (x:Int)&&&BitVec.ofInt 64 (y:Int)).toNat=_;rw[e];exact yS h
theorem oi {i:Nat} (h:0<i) (γ:i<2 ^ 62):IntKind.i64.wrap ((i:Int)-1)=((i-1:Nat):Int):=by
 rw[IntWalk.i64_in _ (by omega)];omega
theorem gH {i:Nat} (γ:i<2 ^ 61):IntKind.i64.wrap ((i:Int)+1)=((i+1:Nat):Int):=by
 rw[IntWalk.i64_in _ (by omega)];omega
theorem Kd {a b:Nat} (h:a<=b) (γ:b<2 ^ 62):IntKind.i64.wrap ((b:Int)-a)=((b-a:Nat):Int):=by
 rw[IntWalk.i64_in _ (by omega)];omega
abbrev Ζ (r:Int×Int):θ:=cu [r.1,r.2]
theorem dζ (q:Int×Int->Bool) (n i j:Nat):(kr q n i j).length<=i*(n+1)+j:=by
 have h:(n8 n i).length=i*(n+1):=by
  induction i with
  | zero=>simp[n8]
  | succ i Δ=>rw[Im,List.length_append,Δ,Nat.succ_mul];simp[lL]
 unfold kr;refine Nat.le_trans (List.length_filter_le _ _) ?_;rw[List.length_append,h];simp[lL]
end Go.TL
