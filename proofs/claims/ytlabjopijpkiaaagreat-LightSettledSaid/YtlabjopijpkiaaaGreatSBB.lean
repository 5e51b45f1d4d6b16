import Derived.Sort.LotC
import Derived.Sort.LotD5
import Derived.Sort.Walk13a
import Derived.Test.YtlabjopijpkiaaaGreatSAL
import Derived.Test.YtlabjopijpkiaaaGreatSAP
import Derived.Test.YtlabjopijpkiaaaGreatSAR
import Derived.Test.YtlabjopijpkiaaaGreatSAS
import Derived.Test.YtlabjopijpkiaaaGreatSAZ
import Derived.Test.YtlabjopijpkiaaaGreatSBA
set_option maxHeartbeats 16000000
set_option maxRecDepth 20000
set_option linter.unusedSectionVars false
set_option linter.unusedSimpArgs false
set_option linter.unusedVariables false
namespace Go.TL
open Go.Proofs
variable [bm]
def uU (g:FuncId) (args:List θ) (d:cx) (Ω:θ->Prop):Prop:=ak Tryz.prog g (.al 0 1 0 0::args) [b6 d] (λa s=>∃r ef,cG a r/\Ω r/\s=[b6 ef]/\ef.bg.length<=d.bg.length) (λ_ _=>False)
theorem uU.c {g:FuncId} {args gk:List θ} {d:cx} {Ω:θ->Prop} {σ:List Row} {K E:θ->List Row->Prop} (h:uU g args d Ω) (id:Nat) (bW:σ[id]?=some (b6 d)) (he:aK gk args) (ξ:∀a∈gk,au 0 a) (μ:∀r,Ω r->au 0 r) (I:∀r ef,Ω r->ef.bg.length<=d.bg.length->K r (σ.set id (b6 ef))):hG Tryz.prog (.fn (.func g) [] []) (.al id 1 0 0::gk) σ K E:=by
 refine ak.Io (as0:=.al 0 1 0 0::gk) (K0:=λa s=>∃ef,Ω a/\s=[b6 ef]/\ef.bg.length<=d.bg.length) (ak.kX h (.cons (.refl _) he) λa s ⟨r,ef,J,γ,π,Μ⟩=>⟨r,J,ef,γ,π,Μ⟩) id bW (pA d) ?_ ?_ ?_
 ·intro a hm;rcases List.mem_cons.1 hm with rfl|hm
  ·exact Nat.zero_lt_one
  ·exact(ξ a hm).ih 1
 ·rw[List.map_cons,QY ξ];rfl
 ·rintro a s ⟨ef,J,γ,π⟩;exact⟨b6 ef,γ,pA ef,(μ a J).ih 1,by rw[(μ a J).dM];exact I a ef J π⟩
section
variable {P:Program} {m nt:Nat} {k:List Item} {env:aa} {Z:List Item->aa->List Row->Prop} {E:θ->aa->List Row->Prop}
theorem W.Q9 {d:cx} {t kk n:Nat} {l:List θ} {x:Nat} (hm:m<=1) (ω:l.length=n) (hb:∀e∈l,∀a∈e.cells,au 0 a) (hd:a3 env x=.ms 1 n 0 n) (hW:W P m nt k [(x,.sl false kk l)] [b6 d] Z E):W P m nt k env [b6 d,.cells t kk l] Z E:=
 W.cut 1 hm [(x,.sl false kk l)] (by simp) (λid r bW μ=>by
  have:id=0:=by omega
  subst this;simp at μ;subst μ;exact wS d 1) (λp ψ=>by
  simp at ψ;subst ψ;show ed 1 _ (a3 env x) _;rw[hd];exact .own (t:=t) (Nat.le_refl _) rfl ω (λe he a ξ=>(hb e he a ξ).mono (Nat.zero_le _))) (by simpa using hW)
end
theorem th {l:List lS}:∀e∈l.map eA,∀a∈e.cells,au 0 a:=λe he a ξ=>by
 obtain⟨x,_,rfl⟩:=List.mem_map.1 he;simp[θ.cells] at ξ;rcases ξ with rfl|rfl<;>exact .z _
def yz:List ByteArray:=[⟨#[97]⟩,⟨#[98]⟩,⟨#[99]⟩,⟨#[100]⟩,⟨#[111]⟩,⟨#[122]⟩]
theorem eΖ:∀i<6,yz[i]?=some (nh i):=by decide
structure Q' where
 i:Nat
 d:cx
 aH:List Nat
theorem eΗ (d:cx) (hd:d.bg.length<2 ^ 63) (fO:Nat) (hX:1<=fO) (yA:fO<=6):uU 128 [R fO] d (λr=>∃l,r=aO l/\pD l/\l.length<=fO):=by
 unfold uU;refine ak.body Ι Tryz.func128 rfl rfl Tryz.ntmps128 rfl rfl (by simp) ?_;(repeat (first|apply κ|(refine ν λη I=>?_;simp;(repeat (rw[δ];simp));apply I)));obtain⟨l0,l1⟩:=yy d (a:=1) (b:=63) (by decide) (by decide) (by decide);obtain⟨last,ju⟩:∃x,nO d 1 63=x:=⟨_,rfl⟩;obtain⟨d1,j8⟩:∃x,d.after (IntKind.i64.wrap (63-1))=x:=⟨_,rfl⟩;have eΘ:d1.bg.length<=d.bg.length:=by rw[<-j8];exact lj _ _
 have Φ:=yx d hd 1 63;rw[ju,j8] at Φ;rw[ju] at l0 l1;(repeat apply κ);refine ν λη I=>?_;simp;(repeat (rw[δ];simp));refine er.c (Φ) 0 rfl (aK.refl _) (by simp) (by simp) ?_;simp;(repeat (rw[δ];simp));apply I
 repeat apply κ
 have Γ:=Q1 d1 (by omega) 11 (by decide)
 have Bg:=eψ d1
 have Fi:=Nat.le_trans (JY d1 11) eΘ;obtain⟨ord,uQ⟩:∃x,(g9 d1 11).1=x:=⟨_,rfl⟩;obtain⟨d2,k'⟩:∃x,(g9 d1 11).2=x:=⟨_,rfl⟩;rw[uQ] at Bg;rw[uQ,k'] at Γ;rw[k'] at Fi;(repeat apply κ);refine ν λη I=>?_;simp;(repeat (rw[δ];simp));refine er.c (Γ) 0 rfl (aK.refl _) (by simp) (by simp) ?_;simp;(repeat (rw[δ];simp));apply I;(repeat (first|apply κ|(refine ν λη I=>?_;simp;(repeat (rw[δ];simp));apply I)));obtain⟨pO,hD⟩:=yy d2 (a:=1) (b:=fO) (by omega) (by decide) (by omega);obtain⟨n,Η⟩:∃n:Nat,nO d2 1 fO=n:=⟨(nO d2 1 fO).toNat,by omega⟩;rw[Η] at pO hD;obtain⟨d3,Bh⟩:∃x,d2.after (IntKind.i64.wrap ((fO:Int)-1))=x:=⟨_,rfl⟩;have J4:d3.bg.length<=d.bg.length:=by rw[<-Bh];exact Nat.le_trans (lj _ _) Fi
 have Hr:=yx d2 (by omega) 1 fO;rw[Η,Bh] at Hr;(repeat apply κ);refine ν λη I=>?_;simp;(repeat (rw[δ];simp));refine er.c (Hr) 0 rfl (aK.refl _) (by simp) (by simp) ?_;simp;(repeat (rw[δ];simp));apply I;(repeat (first|apply κ|(refine ν λη I=>?_;simp;(repeat (rw[δ];simp));apply I)));have b8:yz.length=6:=rfl;have e5:(ji++[last]).length=12:=by simp[ji]
 obtain⟨wT,Fj⟩:∃x,x=ji++[last]:=⟨_,rfl⟩;rw[<-Fj] at e5;have cU:∀aH:List Nat,(aH.map (kD ord last)).length=aH.length:=λaH=>List.length_map _;refine W.iter (λx:Q'=>x.i<=6/\x.d.bg.length<=d.bg.length/\x.aH.Pairwise (· < ·)/\(∀j∈x.aH,j<x.i)/\x.aH.length<=n/\n+x.i<=6+x.aH.length)
  (λx=>[(0,.al 0 1 0 0),(5,.sl true 1 (yz.map nA)),(6,.sl true 1 (wT.map R)),(7,aP R 1 ord),(8,cq 1 ((x.aH.map (kD ord last)).map eA)),(9,R n),(10,R x.i)])
  (λx=>b6 x.d::bj 77 2 ((x.aH.map (kD ord last)).map eA)) (λx=>6-x.i) ⟨0,d3,[]⟩ ⟨by simp,J4,by simp,by simp,by simp,by simp;omega⟩ rfl (by rw[Fj];intro p ψ;simp only[List.mem_cons,List.not_mem_nil,or_false] at ψ;rcases ψ with rfl|rfl|rfl|rfl|rfl|rfl|rfl<;>rfl) (λx U Δ=>?_)
 obtain⟨i,D,aH⟩:=x;obtain⟨eΙ,m3,Fl,Bi,Ra,eΚ⟩:=U;simp only at eΙ m3 Fl Bi Ra eΚ Δ ⊢;obtain⟨G,yB⟩:∃G,G=aH.map (kD ord last):=⟨_,rfl⟩;have g7:G.length=aH.length:=by rw[yB];exact cU aH
 rw[<-yB];have r9:(cq 1 (G.map eA)=.sl true 0 []/\bj 77 2 (G.map eA)=[]/\aH.length=0)\/(cq 1 (G.map eA)=.ms 1 aH.length 0 aH.length/\bj 77 2 (G.map eA)=[.cells 77 2 (G.map eA)]/\0<aH.length):=by
  by_cases Θ:G=[]
  ·subst Θ;exact .inl ⟨rfl,rfl,by simpa using g7.symm⟩
  ·have gl:G.map eA≠[]:=by simpa using Θ
   refine .inr ⟨by rw[gz gl,List.length_map,g7],dY gl,?_⟩;have:=List.length_pos_iff.2 Θ;omega
 repeat apply κ
 refine W.fL (A:=[]) Ι [(35,a4 (decide (i<6)&&decide (aH.length<n))),(0,.al 0 1 0 0),(5,.sl true 1 (yz.map nA)),(6,.sl true 1 (wT.map R)),(7,aP R 1 ord),(8,cq 1 (G.map eA)),(9,R n),(10,R i)] (b6 D::bj 77 2 (G.map eA)) ?_ (by
  by_cases hi:i<6
  ·have a9:(i:Int)<6:=by omega
   rcases r9 with⟨Ζ,Ε,aY⟩|⟨Ζ,Ε,aY⟩
   ·rw[Ζ,Ε];(try simp);(repeat (rw[δ];simp[a9,b8,aY,hi]));(try simp[a9,b8,aY,hi])
   ·rw[Ζ,Ε];(try simp);(repeat (rw[δ];simp[a9,b8,g7,hi]));(try simp[a9,b8,g7,hi])
  ·have hi:i=6:=by omega
   subst hi;rcases r9 with⟨Ζ,Ε,aY⟩|⟨Ζ,Ε,aY⟩
   ·rw[Ζ,Ε];(try simp);(repeat (rw[δ];simp[b8]));(try simp[b8])
   ·rw[Ζ,Ε];(try simp);(repeat (rw[δ];simp[b8]));(try simp[b8]))
 refine W.en rfl (λζ=>?_) (λζ=>?_)
 ·simp only[Bool.and_eq_true,decide_eq_true_eq] at ζ;obtain⟨hi,Rb⟩:=ζ;have iq:IntKind.i64.wrap (6-(i:Int))=6-i:=IntWalk.i64_in _ (by omega);have hO:IntKind.i64.wrap ((n:Int)-aH.length)=n-aH.length:=IntWalk.i64_in _ (by omega);have jg:IntKind.i64.wrap ((i:Int)+1)=((i+1:Nat):Int):=by rw[IntWalk.i64_in _ (by omega)];omega
  repeat apply κ
  have wi:D.bg.length<2 ^ 63:=by omega
  have ti:=JX D wi 3 (by decide) (by decide);obtain⟨ς,sF⟩:∃x,wP D 3=x:=⟨_,rfl⟩;obtain⟨jP,qD⟩:∃x,D.after (3-1)=x:=⟨_,rfl⟩;have Rc:jP.bg.length<=d.bg.length:=by rw[<-qD];exact Nat.le_trans (lj _ _) m3
  rw[sF,qD] at ti;obtain⟨jj,qE⟩:∃x,x=if(n:Int)-aH.length<6-i then jP else D:=⟨_,rfl⟩
  have Bj:jj.bg.length<=d.bg.length:=by rw[qE];split<;>assumption
  refine W.fL (A:=[]) Ι [(50,a4 (decide ((n:Int)-aH.length<6-i)&&ς)),(0,.al 0 1 0 0),(5,.sl true 1 (yz.map nA)),(6,.sl true 1 (wT.map R)),(7,aP R 1 ord),(8,cq 1 (G.map eA)),(9,R n),(10,R i)] (b6 jj::bj 77 2 (G.map eA)) ?_ (by
   by_cases nP:(n:Int)-aH.length<6-i
   ·rw[if_pos nP] at qE;rw[qE];rcases r9 with⟨Ζ,Ε,aY⟩|⟨Ζ,Ε,aY⟩
    ·rw[Ζ,Ε];rw[aY] at nP hO;simp only[Int.natCast_zero,Int.sub_zero] at nP hO;(try simp);(repeat (rw[δ];simp[b8,iq,hO,nP,aY]));(try simp[b8,iq,hO,nP,aY]);refine er.c (ti) 0 rfl (aK.refl _) (by simp) (by simp) ?_;simp;(repeat (rw[δ];simp));(try simp)
    ·rw[Ζ,Ε];(try simp);(repeat (rw[δ];simp[b8,iq,hO,nP,g7]));(try simp[b8,iq,hO,nP,g7]);refine er.c (ti) 0 rfl (aK.refl _) (by simp) (by simp) ?_;simp;(repeat (rw[δ];simp));(try simp)
   ·rw[if_neg nP] at qE;rw[qE];rcases r9 with⟨Ζ,Ε,aY⟩|⟨Ζ,Ε,aY⟩
    ·rw[Ζ,Ε];rw[aY] at nP hO;simp only[Int.natCast_zero,Int.sub_zero] at nP hO;(try simp);(repeat (rw[δ];simp[b8,iq,hO,nP,aY]));(try simp[b8,iq,hO,nP,aY])
    ·rw[Ζ,Ε];(try simp);(repeat (rw[δ];simp[b8,iq,hO,nP,g7]));(try simp[b8,iq,hO,nP,g7]))
  refine W.en rfl (λa5=>?_) (λa5=>?_)
  ·simp only[Bool.and_eq_true,decide_eq_true_eq] at a5;refine W.exit rfl ?_;(repeat (first|apply κ|(refine ν λη I=>?_;simp;(repeat (rw[δ];simp[jg]));apply I)));refine W.to (Δ ⟨i+1,jj,aH⟩ ⟨by show i+1<=6;omega,Bj,Fl,λj ε=>by have:=Bi j ε;show j<i+1;omega,Ra,by show n+(i+1)<=6+aH.length;omega⟩ (by show 6-(i+1)<6-i;omega)) (by rw[yB]) ?_;rw[<-yB];simp[jg]
  ·have ni:n+i+1<=6+aH.length+1:=by omega
   obtain⟨k,χ,Bl,cA⟩:=Bg.get (i:=i) (by omega);obtain⟨cA,_,_⟩:=cA last;have yC:kD ord last i=⟨nh i,ji.getD k 0⟩:=by
    obtain⟨ab,_,gM,e,_⟩:=Fh Bg last (i:=i) (by omega);rw[Bl] at gM;have q':ab=k:=by have:=Option.some.inj gM;omega
    subst q';show(⟨nh i,(kD ord last i).eo⟩:lS)=_;rw[e]
   obtain⟨st,mj⟩:∃x,ji.getD k 0=x:=⟨_,rfl⟩;rw[mj] at yC;rw[mj,<-Fj] at cA;have kS:=eΖ i hi;have Re:∀h,yz[i]'h=nh i:=λh=>by rw[aW h] at kS;exact Option.some.inj kS
   have Rf:∀h,ord[i]'h=(k:Int):=λh=>by rw[aW h] at Bl;exact Option.some.inj Bl
   have Rg:∀h,wT[k]'h=st:=λh=>by rw[aW h] at cA;exact Option.some.inj cA
   have zR:=Bg.len
   have uV:(G++[kD ord last i])=(aH++[i]).map (kD ord last):=by rw[yB];simp
   repeat apply κ
   have bz:(G++[kD ord last i]).map eA≠[]:=by simp
   have uO:(⟨i+1,jj,aH++[i]⟩:Q').i<=6/\jj.bg.length<=d.bg.length/\(aH++[i]).Pairwise (· < ·)/\(∀j∈aH++[i],j<i+1)/\(aH++[i]).length<=n/\n+(i+1)<=6+(aH++[i]).length:=by
    refine⟨hi,Bj,?_,?_,?_,?_⟩
    ·rw[List.pairwise_append];exact⟨Fl,by simp,λa ξ b hb=>by simp at hb;subst hb;exact Bi a ξ⟩
    ·intro j ε;rcases List.mem_append.1 ε with ε|ε
     ·have:=Bi j ε;omega
     ·simp at ε;omega
    ·simp;omega
    ·simp;omega
   rcases r9 with⟨Ζ,Ε,aY⟩|⟨Ζ,Ε,aY⟩
   ·rw[Ζ,Ε];refine W.draw (A:=[65]) Ι mixed λη I=>?_;simp;(repeat (rw[ba];simp[b8,e5,zR,kS,Re,Bl,Rf,cA,Rg]));try rw[a']
    refine⟨by omega,by omega,by omega,?_⟩;refine⟨bK (by kernel_rfl),I _ _ ?_⟩;(repeat (first|apply κ|(refine ν λη I=>?_;simp;(repeat (rw[δ];simp[jg]));apply I)));have Θ:G=[]:=dp.1 (by omega);refine W.to (Δ ⟨i+1,jj,aH++[i]⟩ uO (by show 6-(i+1)<6-i;omega)) ?_ ?_
    ·have e:bj 77 2 (((aH++[i]).map (kD ord last)).map eA)=[.cells 77 2 [eA ⟨nh i,st⟩]]:=by rw[<-uV,dY bz,Θ,yC];rfl
     simp only[e]
    ·have e:cq 1 (((aH++[i]).map (kD ord last)).map eA)=.ms 1 1 0 1:=by rw[<-uV,gz bz,Θ,yC];rfl
     simp only[e];simp[jg]
   ·rw[Ζ,Ε];refine W.draw (A:=[65]) Ι mixed λη I=>?_;simp;(repeat (rw[ba];simp[b8,e5,zR,kS,Re,Bl,Rf,cA,Rg,g7]));try rw[a']
    refine⟨by omega,by omega,by omega,by omega,?_⟩;refine⟨bK (by kernel_rfl),I _ _ ?_⟩;(repeat (first|apply κ|(refine ν λη I=>?_;simp;(repeat (rw[δ];simp[jg]));apply I)));refine W.to (Δ ⟨i+1,jj,aH++[i]⟩ uO (by show 6-(i+1)<6-i;omega)) ?_ ?_
    ·have e:bj 77 2 (((aH++[i]).map (kD ord last)).map eA)=[.cells 77 2 (G.map eA++[eA ⟨nh i,st⟩])]:=by rw[<-uV,dY bz,List.map_append,yC];rfl
     simp only[e]
    ·have e:cq 1 (((aH++[i]).map (kD ord last)).map eA)=.ms 1 (aH.length+1) 0 (aH.length+1):=by rw[<-uV,gz bz,List.length_map,List.length_append,g7];rfl
     simp only[e];simp[jg]
 ·have Rb:aH.length=n:=by
   simp only[Bool.and_eq_false_iff,decide_eq_false_iff_not] at ζ;omega
  refine W.exit rfl ?_;rcases r9 with⟨Ζ,Ε,aY⟩|⟨Ζ,Ε,aY⟩
  ·omega
  rw[Rb] at Ζ g7;have Rh:pD G:=by rw[yB];exact eΕ Bg last Fl (λj ε=>by have:=Bi j ε;omega) (by omega) (by omega)
  have J5:wT[11]?=some last:=by rw[Fj];rfl
  have eΜ:∀h,wT[11]'h=last:=λh=>by rw[aW h] at J5;exact Option.some.inj J5
  refine W.to (env':=[(0,.al 0 1 0 0),(6,.sl true 1 (wT.map R)),(8,.ms 1 n 0 n),(9,R n)]) (σ':=[b6 D,.cells 77 2 (G.map eA)]) ?_ (by rw[Ε]) (by rw[Ζ];simp);have eΝ:IntKind.i64.wrap 11=11:=by decide
  (repeat (first|apply κ|(refine ν λη I=>?_;simp;(repeat (rw[δ];simp[e5,J5,eΜ,eΝ]));apply I)));refine W.iter (λx:Nat×Bool=>x.1<=n/\(x.2=true->∀g∈G.take x.1,g.eo≠last)) (λx=>[(0,.al 0 1 0 0),(8,.ms 1 n 0 n),(11,R last),(12,a4 x.2),(13,R x.1)]) (λ_=>[b6 D,.cells 77 2 (G.map eA)]) (λx=>n-x.1) (0,true) ⟨Nat.zero_le _,by simp⟩ rfl (by simp) (λx U Bm=>?_);obtain⟨j,ar⟩:=x;obtain⟨ε,ni⟩:=U;simp only at ε ni Bm ⊢;(repeat (first|apply κ|(refine ν λη I=>?_;simp;(repeat (rw[δ];simp[g7]));apply I)));refine W.en rfl (λζ=>?_) (λζ=>?_)
  ·have eO:j<n:=by simpa using ζ
   have J6:G[j]?=some (G[j]'(by omega)):=aW (by omega);obtain⟨g,Υ⟩:∃g,g=G[j]'(by omega):=⟨_,rfl⟩;rw[<-Υ] at J6;have Ri:∀h,G[j]'h=g:=λh=>Υ.symm;have jg:IntKind.i64.wrap ((j:Int)+1)=((j+1:Nat):Int):=by rw[IntWalk.i64_in _ (by omega)];omega
   have kT:G.take (j+1)=G.take j++[g]:=by rw[List.take_succ_eq_append_getElem (by omega),Υ]
   repeat apply κ
   refine W.fL (A:=[]) Ι [(0,.al 0 1 0 0),(8,.ms 1 n 0 n),(11,R last),(12,a4 (ar&&decide (g.eo≠last))),(13,R j)] [b6 D,.cells 77 2 (G.map eA)] ?_ (by
    cases ar
    ·(try simp);(repeat (rw[δ];simp[g7]));(try simp[g7])
    ·(try simp);(repeat (rw[δ];simp[g7,J6,Ri]));(try simp[g7,J6,Ri]);omega)
   (repeat (first|apply κ|(refine ν λη I=>?_;simp;(repeat (rw[δ];simp[jg]));apply I)));refine W.to (Bm (j+1,ar&&decide (g.eo≠last)) ⟨eO,λh=>?_⟩ (by show n-(j+1)<n-j;omega)) rfl (by simp[jg]);simp only[Bool.and_eq_true,decide_eq_true_eq] at h;intro y Ξ;rw[kT] at Ξ;rcases List.mem_append.1 Ξ with Ξ|Ξ
   ·exact ni h.1 y Ξ
   ·simp at Ξ;subst Ξ;exact h.2
  ·have eO:j=n:=by simp at ζ;omega
   have eΞ:ar=true->∀g∈G,g.eo≠last:=λh=>by
    have:=ni h
    rwa [List.take_of_length_le (by omega)] at this
   refine W.exit rfl ?_;have wi:D.bg.length<2 ^ 63:=by omega
   have ti:=JX D wi 3 (by decide) (by decide);obtain⟨ς,sF⟩:∃x,wP D 3=x:=⟨_,rfl⟩;obtain⟨jP,qD⟩:∃x,D.after (3-1)=x:=⟨_,rfl⟩;have Rc:jP.bg.length<=d.bg.length:=by rw[<-qD];exact Nat.le_trans (lj _ _) m3
   rw[sF,qD] at ti;obtain⟨jj,qE⟩:∃x,x=if ar then jP else D:=⟨_,rfl⟩
   have Bj:jj.bg.length<=d.bg.length:=by rw[qE];split<;>assumption
   repeat apply κ
   refine W.fL (A:=[]) Ι [(92,a4 (ar&&ς)),(0,.al 0 1 0 0),(8,.ms 1 n 0 n),(11,R last)] [b6 jj,.cells 77 2 (G.map eA)] ?_ (by
    cases ar
    ·rw[qE];(try simp);(repeat (rw[δ];simp[g7]));(try simp[g7])
    ·rw[qE];(try simp);(repeat (rw[δ];simp[g7]));(try simp[g7]);refine er.c (ti) 0 rfl (aK.refl _) (by simp) (by simp) ?_;simp;(repeat (rw[δ];simp));(try simp))
   refine W.en rfl (λa5=>?_) (λa5=>?_)
   ·simp only[Bool.and_eq_true] at a5;have iq:IntKind.i64.wrap ((n:Int)-1)=n-1:=IntWalk.i64_in _ (by omega);have xA:=wO jj (by omega) ((n:Int)-1);obtain⟨t0,t1⟩:=uS jj ((n:Int)-1) (by omega) (by omega);obtain⟨k,χ⟩:∃k:Nat,ir jj ((n:Int)-1)=k:=⟨(ir jj ((n:Int)-1)).toNat,by omega⟩;obtain⟨yD,Bn⟩:∃x,jj.after ((n:Int)-1)=x:=⟨_,rfl⟩;have J7:yD.bg.length<=d.bg.length:=by rw[<-Bn];exact Nat.le_trans (lj _ _) Bj
    rw[χ,Bn] at xA;rw[χ] at t1;have Fo:k<G.length:=by omega
    have J8:G[k]?=some (G[k]'Fo):=aW Fo;obtain⟨g,Υ⟩:∃g,g=G[k]'Fo:=⟨_,rfl⟩;rw[<-Υ] at J8;have Rj:∀h,G[k]'h=g:=λh=>Υ.symm
    repeat apply κ
    refine W.fL (A:=[]) Ι [(8,.ms 1 n 0 n)] [b6 yD,.cells 77 2 ((G.set k ⟨g.name,last⟩).map eA)] ?_ (by
     (try simp);(repeat (rw[δ];simp[g7,iq]));(try simp[g7,iq]);refine er.c (xA) 0 rfl (aK.refl _) (by simp) (by simp) ?_;simp[J8,Rj,g7];(repeat (rw[δ];simp[J8,Rj,g7]))
     first|omega|(refine⟨by omega,?_⟩;simp[List.map_set]))
    (repeat (first|apply κ|(refine ν λη I=>?_;simp;(repeat (rw[δ];simp));apply I)));rw[<-List.map_set];refine W.Q9 (x:=4) (n:=n) (l:=(G.set k ⟨g.name,last⟩).map eA) (Nat.le_refl _) (by rw[List.length_map];simp[g7]) th ?_ ?_
    ·simp
    exact W.ret ⟨_,rfl,_,yD,.refl _,⟨_,rfl,by rw[Υ];exact Rh.set Fo l0 l1 (eΞ a5.1),by rw[List.length_set];omega⟩,rfl,J7⟩
   ·(repeat (first|apply κ|(refine ν λη I=>?_;simp;(repeat (rw[δ];simp));apply I)));refine W.Q9 (x:=4) (n:=n) (l:=G.map eA) (Nat.le_refl _) (by rw[List.length_map];simp[g7]) th ?_ ?_
    ·simp
    exact W.ret ⟨_,rfl,_,jj,.refl _,⟨_,rfl,Rh,by omega⟩,rfl,Bj⟩
end Go.TL
namespace Go.TL
open Go.Conc
variable [bm]
inductive rT (id k:Nat) (l:List θ):θ->θ->Prop where
 | same (a:θ):rT id k l a a
 | ms:rT id k l (.ms id l.length 0 l.length) (.sl false k l)
 | al {e:θ}:l=[e]->rT id k l (.al id 1 0 0) (.Ψ e.cells)
def oB (id k:Nat) (l:List θ) (r r':Row):Prop:=r'=r\/∃t n es es',r=.cells t n es/\r'=.cells t n es'/\es'.length=es.length/\
 ∀(i:Nat) (e aJ:θ),es[i]?=some e->es'[i]?=some aJ->aJ.cells.length=e.cells.length/\∀(x:Nat) (a b1:θ),e.cells[x]?=some a->aJ.cells[x]?=some b1->rT id k l a b1
section
variable {P:Program} {S:aB} {B:aR} {H:Α} {σ σ':List Row} {m nt id k:Nat} {t:TypeId} {l:List θ} {kk:List Item} {env:aa} {Z:List Item->aa->List Row->Prop} {E:θ->aa->List Row->Prop}
def aB.set (S:aB) (B:aR) (H:Α) (id:Nat):aB:=λb o=>match B[id]? with
 | some (some (cV,_))=>if b=cV then(H.aG b o).map (·.1) else S b o
 | _=>S b o
theorem Rk {b N:Nat} (hb:B[id]?=some (some (b,N))) (o:Nat):S.set B H id b o=(H.aG b o).map (·.1):=by
 unfold aB.set;rw[hb];simp
theorem Rl (Β:Holds S B σ H) (bC:σ[id]?=some (.cells t k l)):∀b o v,S b o=some v->S.set B H id b o=some v:=λb o v hv=>by
 unfold aB.set;split
 ·rename_i cV N hb;split
  ·rename_i e;subst e;rw[Β.sep id _ b N bC trivial hb o] at hv;cases hv
  ·exact hv
 ·exact hv
theorem b3.rU (Β:Holds S B σ H) (bC:σ[id]?=some (.cells t k l)) (yE:σ'[id]?=some .dead) (n':∀j r,j≠id->σ[j]?=some r->∃r',σ'[j]?=some r'/\oB id k l r r'):b3 S (S.set B H id) B B σ σ':=
 ⟨Rl Β bC,λj r μ=>by
  by_cases e:j=id
  ·subst e;rw[bC] at μ;cases μ;exact⟨.dead,yE,.inr λn _=>trivial⟩
  ·obtain⟨r',J,γ⟩:=n' j r e μ;refine⟨r',J,?_⟩;rcases γ with rfl|⟨t,n,es,es',rfl,rfl,π,_⟩
   ·exact Row.tN _ _
   ·exact .inl ⟨es',rfl,π,rfl⟩⟩
theorem ao.Rm (Β:Holds S B σ H) (bC:σ[id]?=some (.cells t k l)) (ω:b3 S (S.set B H id) B B σ σ') {a b1:θ} (ο:rT id k l a b1) {v:Value} (μ:ao S B σ a v):ao (S.set B H id) B σ' b1 v:=by
 cases ο with
 | same=>exact μ.later ω
 | ms=>
  cases μ with
  | ms cap Τ af aX cr gH ib=>
   rw[bC] at Τ;cases Τ;by_cases Θ:l=[]
   ·subst Θ;exact .iA _ _ (by simp)
   ·have p1:0<l.length:=List.length_pos_iff.2 Θ;rcases ib with ib|⟨b,N,rfl,rfl,ib⟩
    ·omega
    ·obtain⟨_,_,_,w,hw⟩:=Β.row id _ _ bC aX;rw[Nat.zero_mul];refine .sl b 0 cap (λj x=>w j x) (by simp) gH (λj e ε=>(hw j e ε).1) (λj e ε x c U=>?_) (λj e ε x c U=>?_)
     ·have:=((hw j e ε).2 x c U).1;rw[Rk aX,Nat.zero_add,this];rfl
     ·exact(((hw j e ε).2 x c U).2.1).later ω
  | iW v Τ af=>rw[bC] at Τ;cases Τ;simp only[Row.g4] at af;omega
 | @al e he=>
  subst he;cases μ with
  | al Τ af aX=>
   rw[bC] at Τ;cases Τ;obtain⟨_,_,_,w,hw⟩:=Β.row id _ _ bC aX;have ag:=hw 0 e rfl;refine .Ψ _ _ (λx=>w 0 x) (λx a U=>?_) (λx a U=>?_)
   ·have:=(ag.2 x a U).1;rw[Rk aX,Nat.add_zero,this];rfl
   ·exact((ag.2 x a U).2.1).later ω
  | jB v Τ af=>rw[bC] at Τ;cases Τ;simp[Row.g4] at af
theorem W.rU (hm:m<=id) (bC:σ[id]?=some (.cells t k l)) (hlen:σ'.length=σ.length) (yE:σ'[id]?=some .dead) (n':∀j r,j≠id->σ[j]?=some r->∃r',σ'[j]?=some r'/\oB id k l r r') (env':aa) (cD:∀p∈env',rT id k l (a3 env p.1) p.2)
  (hW:W P m nt kk env' σ' Z E):W P m nt kk env σ Z E:=by
 intro Q mn x cs b S B H a6 U hb ψ Θ he;have Β:=ψ.holds;have ω:=b3.rU Β bC yE n';have back:∀j r',j≠id->σ'[j]?=some r'->∃r,σ[j]?=some r/\oB id k l r r':=λj r' ε h=>by
  have aD:j<σ.length:=by rw[<-hlen];exact(b7.1 h).1
  obtain⟨r2,J,γ⟩:=n' j _ ε (aW aD);rw[h] at J;cases J;exact⟨_,aW aD,γ⟩
 have live:∀{r r':Row},oB id k l r r'->r'.live->r.live:=λ{r r'} h hv=>by
  rcases h with rfl|⟨_,_,_,_,rfl,rfl,_⟩
  ·exact hv
  ·trivial
 have iY:Holds (S.set B H id) B σ' H:=by
  refine⟨λb o v h=>?_,by rw[hlen];exact Β.len,λj r bo μ ez=>?_,λi j ec b' b gF gG e0 hi ε hl d' hn cN=>?_,λj r b N μ fc hb o=>?_⟩
  ·unfold aB.set at h;split at h
   ·split at h
    ·cases ζ:H.aG b o with
     | none=>rw[ζ] at h;cases h
     | some x=>rw[ζ] at h;cases h;exact⟨x.2,rfl⟩
    ·exact Β.dd b o v h
   ·exact Β.dd b o v h
  ·by_cases e:j=id
   ·subst e;rw[yE] at μ;cases μ;trivial
   ·obtain⟨r0,J,γ⟩:=back j r e μ;have π:=Β.row j r0 bo J ez;rcases γ with rfl|⟨t2,n,es,es',rfl,rfl,Μ,aA⟩
    ·refine π.later ω (λb N _=>⟨λ_=>rfl,rfl,rfl⟩) λcK left cur Ε=>?_;subst Ε;obtain⟨_,_,aT,kN,xs,clock,seen,_,eR,⟨es,ew⟩,_⟩:=π;refine⟨?_,rfl,λb N _=>⟨λ_=>rfl,rfl,rfl⟩⟩;have bz:cK≠id:=λe=>by subst e;rw[bC] at ew;cases ew
     obtain⟨r',dH,p2⟩:=n' cK _ bz ew;rcases p2 with rfl|⟨_,_,_,_,p3,_⟩
     ·rw[dH,ew]
     ·cases p3
    ·cases bo with
     | none=>
      have:es=[]:=π;subst this;exact dp.1 Μ
     | some y=>
      obtain⟨b,N⟩:=y;obtain⟨Τ,af,aX,w,cr⟩:=π;refine⟨Τ,by rw[Μ];exact af,aX,w,λi aJ hi=>?_⟩;have aD:i<es.length:=by rw[<-Μ];exact(b7.1 hi).1
      obtain⟨c1,c2⟩:=cr i _ (aW aD);obtain⟨d1,d2⟩:=aA i _ aJ (aW aD) hi;refine⟨d1.trans c1,λx b1 U=>?_⟩;have tV:x<(es[i]).cells.length:=by rw[<-d1];exact(b7.1 U).1
      obtain⟨eR,ew,iE⟩:=c2 x _ (aW tV);exact⟨eR,ew.Rm Β bC ω (d2 x _ b1 (aW tV) U),iE⟩
  ·have Rn:∀j r,σ'[j]?=some r->r.live->j≠id:=λj r h hv e=>by subst e;rw[yE] at h;cases h;exact hv
   obtain⟨r1,a1,bl⟩:=back i ec (Rn i ec hi hl) hi;obtain⟨r2,bG,dj⟩:=back j b' (Rn j b' ε d') ε;exact Β.inj i j r1 r2 b gF gG e0 a1 bG (live bl hl) (live dj d') hn cN
  ·have bz:j≠id:=λe=>by subst e;rw[yE] at μ;cases μ;exact fc
   obtain⟨r1,a1,bl⟩:=back j r bz μ;have ο:=Β.sep j r1 b N a1 (live bl fc) hb o;unfold aB.set;split
   ·rename_i cV hg jA;split
    ·rename_i e;subst e;exact(Β.inj j id r1 _ b N hg bz a1 bC (live bl fc) trivial hb jA).elim
    ·exact ο
   ·exact ο
 have rh:Ext S B H (S.set B H id) B H:=by
  refine⟨Rl Β bC,λ_ _ _=>nm.of ⟨λ_=>rfl,rfl,rfl⟩,λ_ h=>.inl h,λb o v hv=>?_,λ_ h=>h⟩;unfold aB.set at hv;split at hv
  ·rename_i cV N jA;split at hv
   ·rename_i e;subst e;exact .inr (.inl ⟨N,ck jA⟩)
   ·exact .inl hv
  ·exact .inl hv
 have ξ:eU m S B H σ (S.set B H id) B H σ':=⟨rh,ω.left m⟩
 have vT:∀(l2:aa),(∀p∈l2,rT id k l (a3 env p.1) p.2)->∀i,ao S B σ (a3 env i) (a6.getD i undef)->ao (S.set B H id) B σ' (a3 l2 i) (a6.getD i undef):=by
  intro l2
  induction l2 with
  | nil=>intro _ i _;exact .cg _
  | cons p l2 Δ=>
   intro sV i μ;simp only[a3];split
   ·rename_i e;subst e;exact μ.Rm Β bC ω (sV p (by simp))
   ·exact Δ (λq Ρ=>sV q (by simp[Ρ])) i μ
 refine hW Q mn x cs b _ _ H a6 U hb ⟨iY,λi=>vT env' cD i (ψ.cp i),ψ.size,by rw[hlen];exact ψ.rows⟩ (λj g5 gw cT e3 bN t2 cC Τ af aX cr=>?_) (λa g5 gw cT e3 bN t2 cC v Τ af aX cr gH=>?_)
 ·exact Θ j g5 gw cT e3 bN t2 cC Τ (ξ.trans af) aX cr
 ·exact he a g5 gw cT e3 bN t2 cC v Τ (ξ.trans af) aX cr gH
end
end Go.TL
namespace Go.TL
open Go.Proofs
variable [bm]
theorem eΟ (d:cx) (n:Nat):(h2 d n).1.Pairwise (· < ·)/\∀x∈(h2 d n).1,0<=x/\x<n:=by
 induction n with
 | zero=>exact⟨List.Pairwise.nil,λx h=>(by cases h)⟩
 | succ n Δ=>
  show((h2 d n).1++_).Pairwise _/\∀x∈(h2 d n).1++_,_;constructor
  ·rw[List.pairwise_append];refine⟨Δ.1,by split<;>simp,λa ξ b hb=>?_⟩;have:=Δ.2 a ξ;split at hb
   ·simp at hb;omega
   ·simp at hb
  ·intro x U;rcases List.mem_append.1 U with U|U
   ·have:=Δ.2 x U;omega
   ·split at U
    ·simp at U;omega
    ·simp at U
structure wU (L:List (List Int)):Prop where
 lo:1<=L.length
 hi:L.length<=3
 each:∀l∈L,l.length<=3/\l.Pairwise (· < ·)/\∀x∈l,0<=x/\x<3
theorem eΡ {l:List Int} (J:l.Pairwise (· < ·)) (γ:∀x∈l,0<=x/\x<3):x3 l=0:=by
 refine Bf λx U=>?_;obtain⟨i,hi,rfl⟩:=List.mem_map.1 U;have hi:=List.mem_range.1 hi;unfold we;rw[aW hi];have π:=γ _ (List.getElem_mem hi);simp only;rw[if_neg,if_neg]
 ·rintro⟨ag,Μ⟩;rw[aW (by omega)] at Μ;have:=List.pairwise_iff_getElem.1 J (i-1) i (by omega) hi (by omega);simp only[Option.getD_some] at Μ;omega
 ·unfold j6;simp;omega
theorem wU.err {L:List (List Int)} (h:wU L):oj L=0:=by
 unfold oj;have J:=h.lo;have γ:=h.hi;rw[if_neg (by omega),if_neg (by omega)];refine Bf λx U=>?_;obtain⟨i,hi,rfl⟩:=List.mem_map.1 U;have hi:=List.mem_range.1 hi;rw[aW hi];obtain⟨_,π,Μ⟩:=h.each _ (List.getElem_mem hi);exact eΡ π Μ
abbrev bE:θ:=.sl true 0 []
structure eΤ where
 k:Nat
 d:cx
 L:List (List Int)
theorem rV {L:List (List Int)}:∀e∈L.map (aP R 1),∀a∈e.cells,au 0 a:=λe he a ξ=>by
 obtain⟨x,_,rfl⟩:=List.mem_map.1 he;simp[θ.cells] at ξ;subst ξ;simp[fZ,θ.cells]
theorem eΥ (d:cx) (hd:d.bg.length<2 ^ 63) (fO cells:Nat) (hX:1<=fO) (yA:fO<=6) (Fp:cells<=4) :
  ak Tryz.prog 90 [.al 0 1 0 0,R fO,R cells] [b6 d] (λa s=>∃G L nc ef,cG a (.aS [aO G,aI L,cq 4 (List.replicate nc bE)])/\pD G/\wU L/\(nc<=cells/\G.length<=fO)/\s=b6 ef::.dead::.dead::.dead::bj 60 1 (List.replicate nc bE)/\ef.bg.length<=d.bg.length) (λ_ _=>False):=by
 refine ak.body Ι Tryz.func90 rfl rfl Tryz.ntmps90 rfl rfl (by simp) ?_
 repeat apply κ
 refine dw (A:=[6]) Ι λη I=>?_;simp;(repeat (rw[δ];simp));apply I
 repeat apply κ
 refine dw (A:=[7]) Ι λη I=>?_;simp;(repeat (rw[δ];simp));refine uU.c (eΗ d hd fO hX yA) 0 rfl (aK.refl _) (by simp) (by rintro r ⟨l,rfl,_⟩;exact fZ.2 th) ?_;rintro r d1 ⟨G,rfl,cU,J9⟩ j8;simp;(repeat (rw[δ];simp));apply I;have eΦ:d1.bg.length<2 ^ 63:=by omega
 obtain⟨pO,hD⟩:=yy d1 (a:=1) (b:=3) (by decide) (by decide) (by decide);obtain⟨nl,oc⟩:∃n:Nat,nO d1 1 3=n:=⟨(nO d1 1 3).toNat,by omega⟩;rw[oc] at pO hD;obtain⟨d2,k'⟩:∃x,d1.after (IntKind.i64.wrap (3-1))=x:=⟨_,rfl⟩;have Fi:d2.bg.length<=d.bg.length:=by rw[<-k'];exact Nat.le_trans (lj _ _) j8
 have Φ:=yx d1 eΦ 1 3;rw[oc,k'] at Φ;(repeat apply κ);refine ν λη I=>?_;simp;(repeat (rw[δ];simp));refine er.c (Φ) 0 rfl (aK.refl _) (by simp) (by simp) ?_;simp;(repeat (rw[δ];simp));apply I;have J':∀L:List (List Int),(cq 3 (L.map (aP R 1))=.sl true 0 []/\bj 29 1 (L.map (aP R 1))=[]/\L=[])\/(cq 3 (L.map (aP R 1))=.ms 3 L.length 0 L.length/\bj 29 1 (L.map (aP R 1))=[.cells 29 1 (L.map (aP R 1))]/\0<L.length):=λL=>by
  by_cases Θ:L=[]
  ·subst Θ;exact .inl ⟨rfl,rfl,rfl⟩
  ·have gl:L.map (aP R 1)≠[]:=by simpa using Θ
   exact .inr ⟨by rw[gz gl,List.length_map],dY gl,List.length_pos_iff.2 Θ⟩
 repeat apply κ
 refine W.iter (λx:eΤ=>x.L.length+x.k=nl/\x.d.bg.length<=d.bg.length/\∀l∈x.L,l.length<=3/\l.Pairwise (· < ·)/\∀y∈l,0<=y/\y<3)
  (λx=>[(0,.al 0 1 0 0),(2,R cells),(6,.al 1 1 0 0),(7,.al 2 1 0 0),(8,R x.k)])
  (λx=>b6 x.d::gR bE bE bE::gR (aO G) (cq 3 (x.L.map (aP R 1))) bE::bj 29 1 (x.L.map (aP R 1))) (λx=>x.k) ⟨nl,d2,[]⟩ ⟨by simp,Fi,by simp⟩ rfl (by simp) (λx U Δ=>?_)
 obtain⟨k,D,L⟩:=x;obtain⟨χ,m3,aC⟩:=U;simp only at χ m3 aC Δ ⊢;(repeat (first|apply κ|(refine ν λη I=>?_;simp;(repeat (rw[δ];simp));apply I)));refine W.en rfl (λζ=>?_) (λζ=>?_)
 ·have lk:0<k:=by simpa using ζ
  obtain⟨j,ε⟩:∃j,k=j+1:=⟨k-1,by omega⟩;have hw:IntKind.i64.wrap ((k:Int)-1)=j:=by rw[IntWalk.i64_in _ (by omega)];omega
  have hi:=eν D (by omega)
  have ξ:=eΟ D 3
  have Fq:=Q4 D 3
  have Ef:=Q3 D 3;obtain⟨l,ω⟩:∃x,(h2 D 3).1=x:=⟨_,rfl⟩;obtain⟨jP,qD⟩:∃x,(h2 D 3).2=x:=⟨_,rfl⟩;rw[ω,qD] at hi;rw[ω] at ξ Fq;rw[qD] at Ef;have uO:(L++[l]).length+j=nl/\jP.bg.length<=d.bg.length/\∀x∈L++[l],x.length<=3/\x.Pairwise (· < ·)/\∀y∈x,0<=y/\y<3:=by
   refine⟨by simp;omega,by omega,λx U=>?_⟩;rcases List.mem_append.1 U with U|U
   ·exact aC x U
   ·simp at U;subst U;exact⟨Fq,ξ.1,ξ.2⟩
  have bz:(L++[l]).map (aP R 1)≠[]:=by simp
  repeat apply κ
  rcases J' L with⟨Ζ,Ε,aY⟩|⟨Ζ,Ε,aY⟩
  ·rw[Ζ,Ε];refine W.JW (A:=[25]) Ι mixed λη I=>?_;simp;(repeat (rw[lh];simp[]));(try rw[lg]);refine er.e (hi) (aK.refl _) (by simp) (by simp) ?_;simp[];(repeat (rw[lh];simp[]));(try rw[lg]);refine⟨bK (by kernel_rfl),bK (by kernel_rfl),I _ _ ?_⟩;(repeat (first|apply κ|(refine ν λη I=>?_;simp;(repeat (rw[δ];simp[hw]));apply I)));subst aY;refine W.to (Δ ⟨j,jP,[]++[l]⟩ uO (by show j<k;omega)) ?_ ?_
   ·have e:cq 3 (([]++[l]).map (aP R 1))=.ms 3 1 0 1:=rfl
    have aJ:bj 29 1 (([]++[l]).map (aP R 1))=[.cells 29 1 [aP R 1 l]]:=rfl;simp only[e,aJ]
   ·simp
  ·rw[Ζ,Ε];refine W.JW (A:=[25]) Ι mixed λη I=>?_;simp;(repeat (rw[lh];simp[]));(try rw[lg]);refine er.e (hi) (aK.refl _) (by simp) (by simp) ?_;simp[];(repeat (rw[lh];simp[]));(try rw[lg]);refine⟨by omega,?_⟩;refine⟨bK (by kernel_rfl),bK (by kernel_rfl),I _ _ ?_⟩;(repeat (first|apply κ|(refine ν λη I=>?_;simp;(repeat (rw[δ];simp[hw]));apply I)));refine W.to (Δ ⟨j,jP,L++[l]⟩ uO (by show j<k;omega)) ?_ ?_
   ·have e:cq 3 ((L++[l]).map (aP R 1))=.ms 3 (L.length+1) 0 (L.length+1):=by rw[gz bz,List.length_map,List.length_append];rfl
    have aJ:bj 29 1 ((L++[l]).map (aP R 1))=[.cells 29 1 (L.map (aP R 1)++[aP R 1 l])]:=by rw[dY bz,List.map_append];rfl
    simp only[e,aJ]
   ·simp
 ·have lk:k=0:=by simp at ζ;omega
  subst lk;have mR:L.length=nl:=by omega
  have eΧ:wU L:=⟨by omega,by omega,aC⟩;rcases J' L with⟨Ζ,Ε,aY⟩|⟨Ζ,Ε,aY⟩
  ·subst aY;simp at mR;omega
  refine W.to (env':=[(0,.al 0 1 0 0),(2,R cells),(6,.al 1 1 0 0),(7,.al 2 1 0 0)]) (σ':=[b6 D,gR bE bE bE,gR (aO G) (.ms 3 L.length 0 L.length) bE,.cells 29 1 (L.map (aP R 1))]) ?_ (by rw[Ζ,Ε]) (by simp);clear Δ ζ J' Ζ Ε;refine W.exit rfl ?_;have wi:D.bg.length<2 ^ 63:=by omega
  obtain⟨dz,eN⟩:=yy D (a:=0) (b:=cells) (by omega) (by decide) (by omega);obtain⟨nc,sB⟩:∃n:Nat,nO D 0 cells=n:=⟨(nO D 0 cells).toNat,by omega⟩;rw[sB] at dz eN;obtain⟨d3,Bh⟩:∃x,D.after (IntKind.i64.wrap ((cells:Int)-0))=x:=⟨_,rfl⟩;have J4:d3.bg.length<=d.bg.length:=by rw[<-Bh];exact Nat.le_trans (lj _ _) m3
  have Φ:=yx D wi 0 cells;rw[sB,Bh] at Φ;(repeat apply κ);refine ν λη I=>?_;simp;(repeat (rw[δ];simp));refine er.c (Φ) 0 rfl (aK.refl _) (by simp) (by simp) ?_;simp;(repeat (rw[δ];simp));apply I
  repeat apply κ
  refine W.iter (λx:Nat×Nat=>x.1+x.2=nc)
   (λx=>[(0,.al 0 1 0 0),(6,.al 1 1 0 0),(7,.al 2 1 0 0),(9,R x.1)])
   (λx=>b6 d3::gR bE bE bE::gR (aO G) (.ms 3 L.length 0 L.length) (cq 4 (List.replicate x.2 bE))::.cells 29 1 (L.map (aP R 1))::bj 60 1 (List.replicate x.2 bE)) (λx=>x.1) (nc,0) (by simp) rfl (by simp) (λx U Δ=>?_)
  obtain⟨k,c⟩:=x;simp only at U Δ ⊢;(repeat (first|apply κ|(refine ν λη I=>?_;simp;(repeat (rw[δ];simp));apply I)));refine W.en rfl (λζ=>?_) (λζ=>?_)
  ·have lk:0<k:=by simpa using ζ
   obtain⟨j,ε⟩:∃j,k=j+1:=⟨k-1,by omega⟩;have hw:IntKind.i64.wrap ((k:Int)-1)=j:=by rw[IntWalk.i64_in _ (by omega)];omega
   have Ho:cq 4 (List.replicate (c+1) bE)=.ms 4 (c+1) 0 (c+1):=by rw[gz (by simp),List.length_replicate]
   have Ap:bj 60 1 (List.replicate (c+1) bE)=[.cells 60 1 (List.replicate c bE++[bE])]:=by rw[dY (by simp),List.replicate_succ']
   repeat apply κ
   by_cases Θ:c=0
   ·subst Θ;have pX:cq 4 (List.replicate 0 bE)=bE:=rfl;have tT:bj 60 1 (List.replicate 0 bE)=[]:=rfl;rw[pX,tT];refine dw (A:=[37]) Ι λη I=>?_;simp;(repeat (rw[δ];simp));apply I;(repeat (first|apply κ|(refine ν λη I=>?_;simp;(repeat (rw[δ];simp[hw]));apply I)));refine W.to (Δ (j,1) (by show j+1=nc;omega) (by show j<k;omega)) ?_ ?_
    ·simp only[Ho,Ap];rfl
    ·simp
   ·have pX:cq 4 (List.replicate c bE)=.ms 4 c 0 c:=by rw[gz (by simp[Θ]),List.length_replicate]
    have tT:bj 60 1 (List.replicate c bE)=[.cells 60 1 (List.replicate c bE)]:=dY (by simp[Θ]);rw[pX,tT];refine dw (A:=[37]) Ι λη I=>?_;simp;(repeat (rw[δ];simp));refine⟨by omega,?_⟩;apply I;(repeat (first|apply κ|(refine ν λη I=>?_;simp;(repeat (rw[δ];simp[hw]));apply I)));refine W.to (Δ (j,c+1) (by show j+(c+1)=nc;omega) (by show j<k;omega)) ?_ ?_
    ·simp only[Ho,Ap]
    ·simp
  ·have lk:k=0:=by simp at ζ;omega
   have kH:c=nc:=by omega
   subst kH;refine W.exit rfl ?_;obtain⟨C,hC⟩:∃x,x=cq 4 (List.replicate c bE):=⟨_,rfl⟩;obtain⟨RC,Fs⟩:∃x,x=bj 60 1 (List.replicate c bE):=⟨_,rfl⟩;rw[<-hC,<-Fs];have eΨ:(C=bE/\RC=[])\/(C=.ms 4 c 0 c/\RC=[.cells 60 1 (List.replicate c bE)]):=by
    by_cases Θ:c=0
    ·subst Θ;exact .inl ⟨hC,Fs⟩
    ·exact .inr ⟨by rw[hC,gz (by simp[Θ]),List.length_replicate],by rw[Fs,dY (by simp[Θ])]⟩
   repeat apply κ
   refine W.fL (A:=[]) Ι [(6,.al 1 1 0 0)] (b6 d3::gR (aO G) (.ms 3 L.length 0 L.length) C::gR (aO G) (.ms 3 L.length 0 L.length) C::.cells 29 1 (L.map (aP R 1))::RC) ?_ (by
    rcases eΨ with⟨Ζ,Ε⟩|⟨Ζ,Ε⟩
    ·rw[Ζ,Ε];(try simp);(repeat (rw[δ];simp));(try simp[])
    ·rw[Ζ,Ε];(try simp);(repeat (rw[δ];simp));(try simp[]))
   have si:rT 3 1 (L.map (aP R 1)) (.ms 3 L.length 0 L.length) (aI L):=by
    have:=rT.ms (id:=3) (k:=1) (l:=L.map (aP R 1))
    rwa [List.length_map] at this
   have cd:oB 3 1 (L.map (aP R 1)) (gR (aO G) (.ms 3 L.length 0 L.length) C) (gR (aO G) (aI L) C):=by
    refine .inr ⟨26,3,_,_,rfl,rfl,rfl,λi e aJ J γ=>?_⟩
    match i with
    | 0=>
     simp at J γ;subst J;subst γ;refine⟨rfl,λx a b1 π Μ=>?_⟩
     match x with
     | 0=>simp[θ.cells] at π Μ;subst π;subst Μ;exact .same _
     | 1=>simp[θ.cells] at π Μ;subst π;subst Μ;exact si
     | 2=>simp[θ.cells] at π Μ;subst π;subst Μ;exact .same _
     | x+3=>simp[θ.cells] at π
    | i+1=>simp at J
   refine W.rU (σ':=b6 d3::gR (aO G) (aI L) C::gR (aO G) (aI L) C::.dead::RC) (id:=3) (by simp) rfl rfl rfl (λj r ε μ=>?_) [(6,.al 1 1 0 0)] (λp ψ=>by simp at ψ;subst ψ;exact .same _) ?_
   ·match j,ε,μ with
    | 0,_,μ=>simp at μ;subst μ;exact⟨_,rfl,.inl rfl⟩
    | 1,_,μ=>simp at μ;subst μ;exact⟨_,rfl,cd⟩
    | 2,_,μ=>simp at μ;subst μ;exact⟨_,rfl,cd⟩
    | 3,h,_=>exact absurd rfl h
    | j+4,_,μ=>exact⟨r,μ,.inl rfl⟩
   refine W.rU (σ':=b6 d3::gR (aO G) (aI L) C::.dead::.dead::RC) (id:=2) (by simp) rfl rfl rfl (λj r ε μ=>?_) [(6,.al 1 1 0 0)] (λp ψ=>by simp at ψ;subst ψ;exact .same _) ?_
   ·match j,ε,μ with
    | 0,_,μ=>exact⟨r,μ,.inl rfl⟩
    | 1,_,μ=>exact⟨r,μ,.inl rfl⟩
    | 2,h,_=>exact absurd rfl h
    | j+3,_,μ=>exact⟨r,μ,.inl rfl⟩
   refine W.rU (σ':=b6 d3::.dead::.dead::.dead::RC) (id:=1) (by simp) rfl rfl rfl (λj r ε μ=>?_) [(6,.Ψ [aO G,aI L,C])] (λp ψ=>by simp at ψ;subst ψ;exact .al (e:=.aS [aO G,aI L,C]) rfl) ?_
   ·match j,ε,μ with
    | 0,_,μ=>exact⟨r,μ,.inl rfl⟩
    | 1,h,_=>exact absurd rfl h
    | j+2,_,μ=>exact⟨r,μ,.inl rfl⟩
   refine W.ret ⟨_,rfl,?_⟩;refine⟨G,L,c,d3,?_,cU,eΧ,⟨by omega,J9⟩,by rw[Fs],J4⟩;rw[<-hC];exact .refl _
theorem eΩ:∀a<64,∀b<64,0<=eS .i64 (a:Nat) (b:Nat)/\eS .i64 (a:Nat) (b:Nat)<=63/\0<=kQ .i64 (a:Nat) (b:Nat)/\kQ .i64 (a:Nat) (b:Nat)<=63/\eS .i64 (b:Nat) (kQ .i64 (a:Nat) (b:Nat))=0:=by decide +kernel
theorem Ka {a b:Int} (ξ:0<=a/\a<=63) (hb:0<=b/\b<=63):(0<=eS .i64 a b/\eS .i64 a b<=63)/\(0<=kQ .i64 a b/\kQ .i64 a b<=63)/\eS .i64 b (kQ .i64 a b)=0:=by
 obtain⟨x,rfl⟩:∃x:Nat,a=x:=⟨a.toNat,by omega⟩;obtain⟨y,rfl⟩:∃y:Nat,b=y:=⟨b.toNat,by omega⟩;obtain⟨J,γ,π,Μ,aA⟩:=eΩ x (by omega) y (by omega);exact⟨⟨J,γ⟩,⟨π,Μ⟩,aA⟩
structure yF (n:Nat) (c:List eF):Prop where
 hi:c.length<=3
 apart:(c.map (·.cL)).Nodup
 each:∀p∈c,(0<=p.cL/\p.cL<n)/\(0<=p.seen/\p.seen<=63)/\(0<=p.bare/\p.bare<=63)/\lT p.seen p.bare=0
structure gX (s:aL):Prop where
 ae:pD s.ae
 ai:wU s.ai
 many:s.cells.length<=4
 cells:∀c∈s.cells,yF s.ai.length c
theorem yF.err {s:aL} {c:List eF} (h:yF s.ai.length c):qn s c=0:=by
 unfold qn;have:=h.hi;rw[if_neg (by omega)];refine Bf λx U=>?_;obtain⟨i,hi,rfl⟩:=List.mem_map.1 U;have hi:=List.mem_range.1 hi;rw[aW hi];obtain⟨J,γ,π,Μ⟩:=h.each _ (List.getElem_mem hi);simp only;unfold ij;rw[if_neg (by omega),if_neg,if_neg (by unfold valid;simp;omega),if_pos Μ];intro ξ;obtain⟨y,Ξ,he⟩:=List.any_eq_true.1 ξ;obtain⟨j,ε,rfl⟩:=List.mem_take_iff_getElem.1 Ξ;have hd:=List.pairwise_iff_getElem.1 h.apart j i (by simp;omega) (by simpa using hi) (by omega);simp at he hd;exact hd he
theorem gX.err {s:aL} (h:gX s):s.err=0:=by
 unfold aL.err;rw[h.ae.err,h.ai.err,if_neg (by simp),if_neg (by simp)];unfold sW;have:=h.many;rw[if_neg (by omega)];refine Bf λx U=>?_;obtain⟨i,hi,rfl⟩:=List.mem_map.1 U;have hi:=List.mem_range.1 hi;rw[aW hi];exact(h.cells _ (List.getElem_mem hi)).err
theorem gX.small {s:aL} (h:gX s):s.small:=by
 have J:=h.ae.hi
 have γ:=h.ai.hi
 have π:=h.many;refine⟨by omega,by omega,by omega,λx U=>?_,λx U=>?_⟩
 ·have:=(h.ai.each x U).1;omega
 ·have:=(h.cells x U).hi;omega
theorem fα (d:cx) (hd:d.bg.length<2 ^ 63) (fO cells:Nat) (hX:1<=fO) (yA:fO<=6) (Fp:cells<=4) {σ:List Row} {K E:θ->List Row->Prop} (ag:σ[0]?=some (b6 d))
  (I:∀G L nc ef,pD G->wU L->nc<=cells/\G.length<=fO->ef.bg.length<=d.bg.length->K (.aS [aO G,aI L,cq (σ.length+3) (List.replicate nc bE)]) (σ.set 0 (b6 ef)++(.dead::.dead::.dead::bj 60 1 (List.replicate nc bE)))) :
  hG Tryz.prog (.fn (.func 90) [] []) [.al 0 1 0 0,R fO,R cells] σ K E:=by
 have ψ:∀nc,∀r∈bj 60 1 (List.replicate nc bE),z' r:=λnc r μ=>by
  unfold bj at μ;split at μ
  ·cases μ
  ·simp at μ;subst μ;refine .inl λe he a ξ=>?_;have:=List.eq_of_mem_replicate he;subst this;simp[θ.cells] at ξ;subst ξ;simp[fZ]
 have J:=ak.kX (eΥ d hd fO cells hX yA Fp) (aK.refl _) (K':=λa s=>∃G L nc ef,a=.aS [aO G,aI L,cq 4 (List.replicate nc bE)]/\pD G/\wU L/\(nc<=cells/\G.length<=fO)/\s=b6 ef::.dead::.dead::.dead::bj 60 1 (List.replicate nc bE)/\ef.bg.length<=d.bg.length) (λa s ⟨G,L,nc,ef,J,γ⟩=>⟨_,J,G,L,nc,ef,rfl,γ⟩)
 have aU:=ak.H8 (σ:=σ) J [0] (by simp) rfl (λj i ε=>by
  cases j with
  | zero=>simp at ε;subst ε;exact ag
  | succ j=>simp at ε) (λr μ=>by simp at μ;subst μ;exact pA d) (by
   intro a ξ;simp at ξ;rcases ξ with rfl|rfl|rfl
   ·exact Nat.zero_lt_one
   ·exact(au.z _).ih 1
   ·exact(au.z _).ih 1) (K':=K) (E':=E) (λa s=>by
   rintro⟨G,L,nc,ef,rfl,Τ,af,aX,rfl,cr⟩;refine⟨λr μ=>?_,?_,?_⟩
   ·simp only[List.mem_cons] at μ;rcases μ with rfl|rfl|rfl|rfl|μ
    ·exact .inl (pA ef)
    ·exact .inr rfl
    ·exact .inr rfl
    ·exact .inr rfl
    ·exact ψ nc r μ
   ·intro a ξ;simp only[List.mem_cons,List.not_mem_nil,or_false] at ξ;rcases ξ with rfl|rfl|rfl
    ·exact au.top (fZ.2 th) _
    ·exact au.top (fZ.2 rV) _
    ·unfold cq bj;split
     ·exact au.top (by simp) _
     ·show 4<_;simp
   ·have Ζ:qd σ [0] (b6 ef::.dead::.dead::.dead::bj 60 1 (List.replicate nc bE))=σ.set 0 (b6 ef)++(.dead::.dead::.dead::bj 60 1 (List.replicate nc bE)):=by
     simp[qd,ie]
    have Ε:dM (names [0] σ.length (b6 ef::.dead::.dead::.dead::bj 60 1 (List.replicate nc bE))) (.aS [aO G,aI L,cq 4 (List.replicate nc bE)])=.aS [aO G,aI L,cq (σ.length+3) (List.replicate nc bE)]:=by
     by_cases Θ:nc=0
     ·subst Θ;rfl
     ·rw[gz (by simp[Θ]),gz (by simp[Θ]),dY (by simp[Θ])];show θ.aS [_,_,_]=_;simp[hH,names,List.range_succ]
    rw[Ζ,Ε];exact I G L nc ef Τ af aX cr) (λa s h=>h.elim)
 exact ak.call (first:=[]) (captured:=[]) (by simpa[od,dM,hH] using aU)
section
variable {P:Program} {m nt:Nat} {k:List Item} {env:aa} {σ:List Row} {Z:List Item->aa->List Row->Prop} {E:θ->aa->List Row->Prop}
theorem W.bind {Ro:List Item->aa->List Row->Prop} (h:W P m nt k env σ Ro E) (γ:∀j e s,Ro j e s->W P m nt j e s Z E):W P m nt k env σ Z E:=
 λQ mn x cs b S B H t U hb ψ Θ he=>h Q mn x cs b S B H t U hb ψ
  (λj e s ax B' H' t' ab pX ξ fX χ=>by
   cases χ;exact γ j e s pX Q mn x cs b ax B' H' t' U hb fX (λfβ Ε s2 cT e3 bN t2 cC qY bl=>Θ fβ Ε s2 cT e3 bN t2 cC qY (ξ.trans bl)) (λbl Ε s2 cT e3 bN t2 cC v2 qY ss=>he bl Ε s2 cT e3 bN t2 cC v2 qY (ξ.trans ss)))
  he
theorem W.upto {a:Item} (env':aa) (σ':List Row) (J:W P m nt (a::k) env σ (λj e s=>j=k/\s=σ'/\∀p∈env',a3 e p.1=p.2) E) (γ:W P m nt k env' σ' Z E):W P m nt (a::k) env σ Z E:=
 .bind J λj e s ⟨ε,ο,he⟩=>by
  subst ε;subst ο;exact .forget env' he γ
theorem W.rW {a:Item} {l:Nat} (env':aa) (σ':List Row) (J:W P m nt (a::.inBlock l::k) env σ (λj e s=>j=k/\s=σ'/\∀p∈env',a3 e p.1=p.2) E) (γ:W P m nt k env' σ' Z E):W P m nt (a::.inBlock l::k) env σ Z E:=
 .bind J λj e s ⟨ε,ο,he⟩=>by
  subst ε;subst ο;exact .forget env' he γ
end
section
variable {α:Type} [Inhabited α]
theorem Bo (enc:α->θ) (d:Array α) {i:Nat} (h:i<d.size):(d.toList.map enc)[i]?=some (enc d[i]!):=by
 rw[List.getElem?_map,Array.getElem?_toList,sQ h];rfl
theorem jQ (enc:α->θ) {d:Array α} {n:Nat} (Η:d.size=n) {i j:Nat} (hi:i<n) (ε:j<n):∃(L:List θ) (x y:α),d.toList.map enc=L/\d[i]! = x/\d[j]! = y/\L.length=n/\(L[i]?=some (enc x)/\∀h,L[i]'h=enc x)/\(L[j]?=some (enc y)/\∀h,L[j]'h=enc y)/\(Go.Sort.swp d i j).toList.map enc=(L.set i (enc y)).set j (enc x)/\∃z,∀h,(L.set i (enc y))[j]'h=enc z:=by
 subst Η;refine⟨_,_,_,rfl,rfl,rfl,by simp,⟨Bo enc d hi,λh=>?_⟩,⟨Bo enc d ε,λh=>?_⟩,by simp[Go.Sort.swp],if i=j then d[j]! else d[j]!,λh=>?_⟩
 ·have:=Bo enc d hi;rw[aW h] at this;exact Option.some.inj this
 ·have:=Bo enc d ε;rw[aW h] at this;exact Option.some.inj this
 ·rw[List.getElem_set,ite_self];split
  ·rfl
  ·have:=Bo enc d ε;rw[aW (by simpa using h)] at this;exact Option.some.inj this
theorem swp_size {d:Array α} {n:Nat} (Η:d.size=n) (i j:Nat):(Go.Sort.swp d i j).size=n:=by simp[Go.Sort.swp,Η]
theorem Bp (p q:α->Bool) (Ρ:∀x,q x = !p x) (d:Array α) {i j a0 aH:Nat} (ag:0<i) (e0:i<=j+1) (fj:Go.Sort.scanUp p d j i=a0) (dg:Go.Sort.scanDown q d a0 j=aH):i<=a0/\a0<=j+1/\aH<=j/\a0<=aH+1/\(a0<=aH->a0<aH):=by
 obtain⟨ea,dT,lΦ,Rp⟩:=Go.Sort.scanUp_spec p d j _ i rfl;obtain⟨v1,v2,wJ,v4⟩:=Go.Sort.scanDown_spec q d a0 j;rw[fj] at ea dT Rp;rw[dg] at v1 v2 v4;refine⟨ea,dT e0,v1,v2 (dT e0),λh=>?_⟩;rcases Nat.lt_or_ge a0 aH with cJ|cJ
 ·exact cJ
 ·have e:a0=aH:=by omega
  have f1:=Rp (by omega)
  have f2:=v4 h (by omega);rw[Ρ,<-e,f1] at f2;cases f2
theorem fγ (lt:α->α->Bool) {a b n:Nat}:∀(m i j:Nat) (g:Array α),j+1-i<=m->g.size=n->0<i->i<=j+1->j<b->(Go.Sort.partLoop lt a i j g).2.size=n/\(Go.Sort.partLoop lt a i j g).1<b:=by
 intro m
 induction m with
 | zero=>
  intro i j g hm Υ ag e0 ε;rw[Go.Sort.partLoop_eq];obtain⟨a0,fj⟩:∃a0,Go.Sort.scanUp (λx=>lt x g[a]!) g j i=a0:=⟨_,rfl⟩;obtain⟨aH,dg⟩:∃aH,Go.Sort.scanDown (λx=>!lt x g[a]!) g a0 j=aH:=⟨_,rfl⟩;obtain⟨s1,s2,oK,vd,oL⟩:=Bp (λx=>lt x g[a]!) (λx=>!lt x g[a]!) (λx=>rfl) g ag e0 fj dg;rw[fj,dg,if_pos (by apply Classical.byContradiction;intro h;have:=oL (by omega);omega)];exact⟨Υ,by show aH<b;omega⟩
 | succ m Δ=>
  intro i j g hm Υ ag e0 ε;rw[Go.Sort.partLoop_eq];obtain⟨a0,fj⟩:∃a0,Go.Sort.scanUp (λx=>lt x g[a]!) g j i=a0:=⟨_,rfl⟩;obtain⟨aH,dg⟩:∃aH,Go.Sort.scanDown (λx=>!lt x g[a]!) g a0 j=aH:=⟨_,rfl⟩;obtain⟨s1,s2,oK,vd,oL⟩:=Bp (λx=>lt x g[a]!) (λx=>!lt x g[a]!) (λx=>rfl) g ag e0 fj dg;rw[fj,dg];by_cases ζ:a0 > aH
  ·rw[if_pos ζ];exact⟨Υ,by show aH<b;omega⟩
  ·rw[if_neg ζ];have:=oL (by omega);exact Δ (a0+1) (aH-1) _ (by omega) (swp_size Υ a0 aH) (by omega) (by omega) (by omega)
theorem fδ (lt:α->α->Bool) (hi first r:Nat) (e:Array α) {c k:Nat} (ζ:c=2*r+1) (h:c<hi) (χ:k=if(decide (c+1<hi)&&lt e[first+c]! e[first+(c+1)]!)=true then c+1 else c) :
  Go.Sort.siftDown lt hi first r e=if(!lt e[first+r]! e[first+k]!)=true then e else Go.Sort.siftDown lt hi first k (Go.Sort.swp e (first+r) (first+k)):=by
 subst ζ;rw[Go.Sort.siftDown,dif_neg (by omega)];have Ζ:first+(2*r+1)+1=first+(2*r+1+1):=by omega
 have Ε:2*r+2=2*r+1+1:=by omega
 by_cases b:(decide (2*r+1+1<hi)&&lt e[first+(2*r+1)]! e[first+(2*r+1+1)]!)=true
 ·rw[if_pos b] at χ;subst χ;rw[Ζ,Ε,if_pos b];have aU:2*r+1+1<hi:=by simp at b;exact b.1
  simp only[dif_pos aU]
 ·rw[if_neg b] at χ;subst χ;rw[Ζ,if_neg b]
theorem Kb {lt:α->α->Bool} {hi first n:Nat}:∀{r:Nat} {e:Array α},e.size=n->(Go.Sort.siftDown lt hi first r e).size=n:=by
 have key:∀(m r:Nat) (e:Array α),hi-r<=m->e.size=n->(Go.Sort.siftDown lt hi first r e).size=n:=by
  intro m
  induction m with
  | zero=>
   intro r e hm he;rw[Go.Sort.siftDown,dif_pos (by omega)];exact he
  | succ m Δ=>
   intro r e hm he;rw[Go.Sort.siftDown];split
   ·exact he
   ·split
    ·split
     ·exact he
     ·split
      ·exact Δ _ _ (by omega) (swp_size he _ _)
      ·exact he
    ·split
     ·exact he
     ·exact Δ _ _ (by omega) (swp_size he _ _)
 intro r e he;exact key _ r e (Nat.le_refl _) he
theorem Rq {lt:α->α->Bool} {hi first n:Nat}:∀{k:Nat} {e:Array α},e.size=n->(Go.Sort.heapBuild lt hi first k e).size=n
 | 0,_,he=>he
 | k+1,e,he=>by
  show(Go.Sort.heapBuild lt hi first k (Go.Sort.siftDown lt hi first k e)).size=n;exact Rq (Kb he)
theorem Kc (lt:α->α->Bool) (d:Array α) {a b n:Nat} (ξ:a<n) (hb:b<n) (s:Nat):(Go.Sort.order2 lt d a b s).1<n/\(Go.Sort.order2 lt d a b s).2.1<n/\(Go.Sort.order2 lt d a b s).2.2<=s+1:=by
 unfold Go.Sort.order2;split
 ·exact⟨hb,ξ,Nat.le_refl _⟩
 ·exact⟨ξ,hb,Nat.le_succ _⟩
theorem Kd (p:α->Bool) (d:Array α) {i j:Nat} (h:j<i):Go.Sort.scanDown p d i j=j:=by
 cases j with
 | zero=>rfl
 | succ j=>rw[Go.Sort.scanDown,if_neg (by simp;omega)]
end
structure fε (α:Type) where
 a:Nat
 b:Nat
 lim:Nat
 wb:Bool
 wp:Bool
 e:Array α
def yG {α:Type} [Inhabited α] (a l m:Nat):Nat->Nat->UInt64×Array α->UInt64×Array α
 | 0,_,st=>st
 | k+1,idx,st=>yG a l m k (idx+1) (Go.Sort.breakStep a l m st idx)
theorem fζ {α:Type} [Inhabited α] {d:Array α} {a b l c:Nat} (ω:l=b-a) (nY:8<=l) (ζ:c=a+(l / 4)*2):Go.Sort.breakPatterns d a b=(yG a l (1 <<< Go.Sort.bitsLen l) 3 (c-1) (UInt64.ofNat l,d)).2:=by
 subst ω;subst ζ;unfold Go.Sort.breakPatterns;simp only[ge_iff_le,nY,if_true];rfl
abbrev oC (n:Int):θ:=.z (.int .u64 n)
def yH:Go.Sort.Hint->Int
 | .unknown=>0
 | .increasing=>1
 | .decreasing=>2
theorem Rr {α:Type} {enc:α->θ} {t k:Nat} {d:Array α} {r2:Row} (hb:∀y,∀a∈(enc y).cells,au 0 a) (id:Nat) (r:Row) (bW:id<1) (μ:[Row.cells t k (d.toList.map enc),r2][id]?=some r):eK 1 r:=by
 obtain rfl:id=0:=by omega
 simp at μ;subst μ;intro e he a ξ;obtain⟨y,_,rfl⟩:=List.mem_map.1 he;exact au.mono (hb y a ξ) (Nat.zero_le _)
theorem fη {l m:Nat} (h:l<2 ^ 62):IntKind.i64.wrap (Int.tdiv (l:Int) (m:Int))=((l / m:Nat):Int):=by
 rw[Int.tdiv_eq_ediv_of_nonneg (by omega)];have J:l / m<=l:=Nat.div_le_self l m;have γ:((l:Int) / (m:Int))=((l / m:Nat):Int):=rfl;rw[γ];obtain⟨q,Ρ⟩:∃q,q=l / m:=⟨_,rfl⟩;rw[<-Ρ] at J ⊢;rw[IntWalk.i64_in _ (by omega)]
theorem Ft {l m:Nat} (h:l<2 ^ 62):IntKind.i64.wrap ((l:Int) / (m:Int))=((l / m:Nat):Int):=by
 have:=fη (m:=m) h;rw[Int.tdiv_eq_ediv_of_nonneg (by omega)] at this;exact this
theorem yI {x:Nat} (h:x<2 ^ 64):IntKind.u64.wrap (x:Int)=(x:Int):=by
 unfold IntKind.wrap;simp[IntKind.bits,IntKind.signed];omega
theorem Ke {x y:Nat} (U:x<2 ^ 64) (Ξ:y<2 ^ 64):zF .u64 (x:Int) (y:Int)=((x^^^y:Nat):Int):=by
 have h:x^^^y<2 ^ 64:=Nat.xor_lt_two_pow U Ξ
 have e:(BitVec.ofInt 64 (x:Int)^^^BitVec.ofInt 64 (y:Int)).toNat=x^^^y:=by
  rw[BitVec.toNat_xor,BitVec.ofInt_natCast,BitVec.ofInt_natCast,BitVec.toNat_ofNat,BitVec.toNat_ofNat,Nat.mod_eq_of_lt U,Nat.mod_eq_of_lt Ξ]
 show IntKind.u64.wrap (BitVec.ofInt 64 (x:Int)^^^BitVec.ofInt 64 (y:Int)).toNat=_;rw[e];exact yI h
theorem Kf (x k:Nat) (χ:k<=64):IntKind.u64.wrap ((x:Int)*2 ^ min k IntKind.u64.bits)=((x*2 ^ k % 18446744073709551616:Nat):Int):=by
 have e:min k IntKind.u64.bits=k:=Nat.min_eq_left χ;rw[e];have Ε:(x:Int)*2 ^ k=((x*2 ^ k:Nat):Int):=by simp
 rw[Ε];obtain⟨y,Ξ⟩:∃y,y=x*2 ^ k:=⟨_,rfl⟩;rw[<-Ξ];unfold IntKind.wrap;simp[IntKind.bits,IntKind.signed]
theorem fθ (x k:Nat) (χ:k<=64):(x:Int).fdiv (2 ^ min k IntKind.u64.bits)=((x / 2 ^ k:Nat):Int):=by
 have e:min k IntKind.u64.bits=k:=Nat.min_eq_left χ;rw[e,Int.fdiv_eq_ediv_of_nonneg _ (Int.le_of_lt (Int.pow_pos (by decide)))];simp
theorem fι {x y:Nat} (U:x<2 ^ 64) (Ξ:y<2 ^ 64):eS .u64 (x:Int) (y:Int)=((x&&&y:Nat):Int):=by
 have h:x&&&y<2 ^ 64:=Nat.lt_of_le_of_lt Nat.and_le_left U
 have e:(BitVec.ofInt 64 (x:Int)&&&BitVec.ofInt 64 (y:Int)).toNat=x&&&y:=by
  rw[BitVec.toNat_and,BitVec.ofInt_natCast,BitVec.ofInt_natCast,BitVec.toNat_ofNat,BitVec.toNat_ofNat,Nat.mod_eq_of_lt U,Nat.mod_eq_of_lt Ξ]
 show IntKind.u64.wrap (BitVec.ofInt 64 (x:Int)&&&BitVec.ofInt 64 (y:Int)).toNat=_;rw[e];exact yI h
theorem oD {i:Nat} (h:0<i) (γ:i<2 ^ 62):IntKind.i64.wrap ((i:Int)-1)=((i-1:Nat):Int):=by
 rw[IntWalk.i64_in _ (by omega)];omega
theorem gY {i:Nat} (γ:i<2 ^ 61):IntKind.i64.wrap ((i:Int)+1)=((i+1:Nat):Int):=by
 rw[IntWalk.i64_in _ (by omega)];omega
theorem Kg {a b:Nat} (h:a<=b) (γ:b<2 ^ 62):IntKind.i64.wrap ((b:Int)-a)=((b-a:Nat):Int):=by
 rw[IntWalk.i64_in _ (by omega)];omega
theorem fκ:∀a<64,∀b<64,(kQ .i64 (a:Nat) (b:Nat)=0↔eS .i64 (b:Nat) (a:Nat)=(a:Nat))/\0<=q5 .i64 (a:Nat) (b:Nat)/\q5 .i64 (a:Nat) (b:Nat)<=63:=by decide +kernel
theorem Fu {a b:Int} (ξ:0<=a/\a<=63) (hb:0<=b/\b<=63):(kQ .i64 a b=0↔eS .i64 b a=a)/\0<=q5 .i64 a b/\q5 .i64 a b<=63:=by
 obtain⟨x,rfl⟩:∃x:Nat,a=x:=⟨a.toNat,by omega⟩;obtain⟨y,rfl⟩:∃y:Nat,b=y:=⟨b.toNat,by omega⟩;exact fκ x (by omega) y (by omega)
theorem Kh {s:aL} (h:gX s) {g:Int}:0<=s.of g/\s.of g<=63:=by
 unfold aL.of;split
 ·omega
 ·cases Υ:s.ae[g.toNat]? with
  | none=>simp
  | some x=>
   obtain⟨_,a,b⟩:=h.ae.each x (ck Υ);simp;omega
theorem Rs {s:aL} (h:gX s) (p r:Int×Int) (n:Nat):0<=s.di p r n/\s.di p r n<=63:=by
 have a:∀g,0<=o9 0 (s.of g)/\o9 0 (s.of g)<=63:=λg=>(Fu (a:=0) (by omega) (Kh h)).2
 have z:(0:Int)<=0/\(0:Int)<=63:=by omega
 unfold aL.di;simp only;split
 ·split
  ·exact(Fu (a r.1) (Kh h)).2
  ·exact(Fu z (Kh h)).2
 ·split
  ·exact a r.1
  ·exact z
def aL.Ki (s:aL) (p r:Int×Int) (x:eF):Bool:=decide (lT (s.di p r x.cL.toNat) x.seen=x.seen)&&decide (lT (s.di p r x.cL.toNat) x.bare=0)
theorem fμ {s:aL} (h:gX s) (p r:Int×Int) {c:List eF} (ζ:c∈s.cells) {x:eF} (U:x∈c):s.Ki p r x=s.jF p r x:=by
 obtain⟨_,γ,_,_⟩:=(h.cells c ζ).each x U;have:=(Fu γ (Rs h p r x.cL.toNat)).1;unfold aL.Ki aL.jF;rw[Bool.eq_iff_iff];simp only[Bool.and_eq_true,decide_eq_true_eq,beq_iff_eq];rw[this]
theorem fν {s:aL} (h:gX s) {p r:Int×Int} (ψ:0<=p.2/\p.2<p.1/\p.1<=2) (J:-1<=r.1/\r.1<s.ae.length) (γ:-1<=r.2/\r.2<s.ae.length) {l:Int} (ω:0<=l/\l<s.ai.length):oA s [p.1,p.2] [r.1,r.2] l=(s.di p r l.toNat,0):=by
 have Ζ:j6 p.1=true:=by unfold j6;simp;omega
 have Ε:j6 p.2=true:=by unfold j6;simp;omega
 have Τ:s.hx r.1=false:=by unfold aL.hx;simp;omega
 have af:s.hx r.2=false:=by unfold aL.hx;simp;omega
 unfold oA;rw[h.err];simp only[ne_eq,not_true_eq_false,if_false];rw[if_neg (by rw[Ζ,Ε,Τ,af];simp;omega),if_neg (by omega)]
theorem fξ (s:aL) (h:gX s) (p r:Int×Int) (ψ:0<=p.2/\p.2<p.1/\p.1<=2) (J:-1<=r.1/\r.1<s.ae.length) (γ:-1<=r.2/\r.2<s.ae.length) (c:Nat) (ζ:c<s.cells.length) :
  ay Tryz.prog 96 [eV s,R c,aP R 1 [p.1,p.2],aP R 1 [r.1,r.2]] (.bn [a4 (s.mM p r c),a4 true]):=by
 have bP:=aW ζ
 have lN:=List.getElem_mem ζ
 have Bq:s.mM p r c=(s.cells[c]).all (s.jF p r):=by unfold aL.mM;rw[bP];rfl
 obtain⟨l,ω⟩:∃l,l=s.cells[c]:=⟨_,rfl⟩;rw[Bq,<-ω];rw[<-ω] at bP lN;have rk:∀h,s.cells[c]'h=l:=λh=>ω.symm;have Ow:l.length<=3:=(h.cells l lN).hi;clear Bq ω;refine ak.body Ι Tryz.func96 rfl rfl Tryz.ntmps96 rfl rfl (by simp) ?_;(repeat (first|apply κ|(refine ν λη I=>?_;simp;(repeat (rw[δ];simp));apply I)));refine W.iter (λi:Nat=>i<=l.length/\∀j,j<i->(ε:j<l.length)->s.jF p r l[j]=true) (λi=>[(1,R c),(2,aP R 1 [p.1,p.2]),(3,aP R 1 [r.1,r.2]),(4,.Ψ [aO s.ae,aI s.ai,bf s.cells]),(10,R i)]) (λ_=>[]) (λi=>l.length-i) 0 ⟨Nat.zero_le _,λj ε=>by omega⟩ rfl (by simp) (λi hi Δ=>?_);obtain⟨mJ,jR⟩:=hi;(repeat (first|apply κ|(refine ν λη I=>?_;simp;(repeat (rw[δ];simp[bP,rk,ζ]));apply I)));by_cases aD:i<l.length
 ·refine aj (by simp[aD]) ?_;have hl:=aW aD;obtain⟨x,U⟩:∃x,x=l[i]:=⟨_,rfl⟩;have v7:x∈l:=U▸List.getElem_mem aD;rw[<-U] at hl;have fο:∀h,l[i]'h=x:=λh=>U.symm;obtain⟨eR,ew,iE,sC⟩:=(h.cells l lN).each x v7;have hv:=Fc s h.small [p.1,p.2] [r.1,r.2] x.cL;rw[fν h ψ J γ eR] at hv;have Φ:=fμ h p r lN v7;obtain⟨n,Η⟩:∃n,n=s.di p r x.cL.toNat:=⟨_,rfl⟩;rw[<-Η] at hv;unfold aL.Ki at Φ;rw[<-Η] at Φ;have hw:=gY (i:=i) (by omega)
  repeat apply κ
  refine dw (A:=[11]) Ι λη I=>?_;simp;(repeat (rw[δ];simp[bP,rk,ζ,hl,fο,aD]));apply I;refine W.fix (id:=0) (σ':=[]) (Nat.zero_le _) rfl (by simp) (by simp) rfl [(1,R c),(2,aP R 1 [p.1,p.2]),(3,aP R 1 [r.1,r.2]),(4,.Ψ [aO s.ae,aI s.ai,bf s.cells]),(10,R i),(11,.Ψ [R x.cL,R x.seen,R x.bare])] (by simp) ?_;(repeat apply κ);refine ν λη I=>?_;simp;(repeat (rw[δ];simp));refine ay.c (hv) (aK.refl _) (by simp) (by simp) ?_;simp;(repeat (rw[δ];simp));apply I;(repeat (first|apply κ|(refine ν λη I=>?_;simp;(repeat (rw[δ];simp));apply I)));refine ah rfl ?_
  repeat apply κ
  refine W.sJ (A:=[]) Ι [(56,a4 (!s.jF p r x)),(1,R c),(2,aP R 1 [p.1,p.2]),(3,aP R 1 [r.1,r.2]),(4,.Ψ [aO s.ae,aI s.ai,bf s.cells]),(10,R i)] ?_ (by
   rw[<-Φ];by_cases bG:lT n x.seen=x.seen<;>by_cases dj:lT n x.bare=0<;>simp[δ,qc,bG,dj])
  cases Ρ:s.jF p r x
  ·refine aj rfl ?_;(repeat (first|apply κ|(refine ν λη I=>?_;simp;(repeat (rw[δ];simp));apply I)));refine W.ret ⟨_,rfl,?_,rfl⟩;have:l.all (s.jF p r)=false:=List.all_eq_false.2 ⟨x,v7,by rw[Ρ];simp⟩;rw[this];exact .of rfl
  ·refine ah rfl ?_;(repeat (first|apply κ|(refine ν λη I=>?_;simp;(repeat (rw[δ];simp[hw]));apply I)));refine W.to (Δ (i+1) ⟨aD,λj ε gx=>?_⟩ (by omega)) rfl (by simp);by_cases e:j=i
   ·subst e;rw[<-U];exact Ρ
   ·exact jR j (by omega) gx
 ·refine ah (by simp[aD]) ?_;refine W.exit rfl ?_;(repeat (first|apply κ|(refine ν λη I=>?_;simp;(repeat (rw[δ];simp));apply I)));refine W.ret ⟨_,rfl,?_,rfl⟩;have:l.all (s.jF p r)=true:=List.all_eq_true.2 λx U=>by
   obtain⟨j,ε,rfl⟩:=List.getElem_of_mem U;exact jR j (by omega) ε
  rw[this];exact .of rfl
abbrev Ε (r:Int×Int):θ:=eG [r.1,r.2]
def nQ (s:aL) (p:Int×Int) (c:Nat):θ:=fA 1 ((ff s p c).map Ε)
theorem Kj {L:List (Int×Int)}:∀e∈L.map Ε,∀a∈e.cells,au 0 a:=λe he a ξ=>by
 obtain⟨x,_,rfl⟩:=List.mem_map.1 he;simp[θ.cells] at ξ;subst ξ;simp
theorem fπ {s:aL} {p:Int×Int} {l:List Nat}:∀e∈l.map (nQ s p),∀a∈e.cells,au 0 a:=λe he a ξ=>by
 obtain⟨x,_,rfl⟩:=List.mem_map.1 he;unfold nQ fA at ξ;split at ξ<;>simp[θ.cells] at ξ<;>subst ξ<;>simp
theorem Kk (q:Int×Int->Bool) (n i j:Nat):(hU q n i j).length<=i*(n+1)+j:=by
 have h:(oq n i).length=i*(n+1):=by
  induction i with
  | zero=>simp[oq]
  | succ i Δ=>rw[Iz,List.length_append,Δ,Nat.succ_mul];simp[lU]
 unfold hU;refine Nat.le_trans (List.length_filter_le _ _) ?_;rw[List.length_append,h];simp[lU]
abbrev l5 (l:List (List (List Int))):θ:=aP aI 1 l
abbrev fP (l:List (Int×Int)):List (List Int):=l.map λr=>[r.1,r.2]
theorem fρ (s:aL) (h:gX s) (p:Int×Int) (ψ:0<=p.2/\p.2<p.1/\p.1<=2) :
  ay Tryz.prog 41 [eV s,aP R 1 [p.1,p.2]] (.bn [l5 ((List.range s.cells.length).map λc=>fP (ff s p c)),a4 true]):=by
 refine ak.body Ι Tryz.func41 rfl rfl Tryz.ntmps41 rfl rfl (by simp) ?_;(repeat (first|apply κ|(refine ν λη I=>?_;simp;(repeat (rw[δ];simp));apply I)));have hR:=h.many;have Rt:=h.ae.hi;refine W.iter (λc:Nat=>c<=s.cells.length) (λc=>[(1,aP R 1 [p.1,p.2]),(2,.Ψ [aO s.ae,aI s.ai,bf s.cells]),(6,ee ((List.range c).map (nQ s p))),(7,R c)]) (λc=>bj 23 1 ((List.range c).map (nQ s p))) (λc=>s.cells.length-c) 0 (Nat.zero_le _) rfl (by simp[pj]) (λc ζ Δ=>?_);obtain⟨O,cI⟩:∃O,O=(List.range c).map (nQ s p):=⟨_,rfl⟩;have Ru:∀e∈O,∀a∈e.cells,au 0 a:=by rw[cI];exact fπ
 refine W.to (σ':=bj 23 1 O) (env':=[(1,aP R 1 [p.1,p.2]),(2,.Ψ [aO s.ae,aI s.ai,bf s.cells]),(6,ee O),(7,R c)]) ?_ (by rw[cI]) (by rw[cI];simp);(repeat (first|apply κ|(refine ν λη I=>?_;simp;(repeat (rw[δ];simp));apply I)));by_cases bP:c<s.cells.length
 ·refine aj (by simp[bP]) ?_;obtain⟨n,Η⟩:∃n,n=s.ae.length:=⟨_,rfl⟩;obtain⟨q,Ρ⟩:∃q:Int×Int->Bool,q=λr=>s.mM p r c:=⟨_,rfl⟩;obtain⟨k,χ⟩:∃k,k=(bj 23 1 O).length:=⟨_,rfl⟩;have hw:=gY (i:=c) (by omega);(repeat (first|apply κ|(refine ν λη I=>?_;simp;(repeat (rw[δ];simp));apply I)));refine W.iter (λi:Nat=>i<=n+1) (λi=>[(1,aP R 1 [p.1,p.2]),(2,.Ψ [aO s.ae,aI s.ai,bf s.cells]),(6,ee O),(7,R c),(8,cq k ((hU q n i 0).map Ε)),(9,R ((i:Int)-1))])
   (λi=>bj 23 1 O++bj 29 1 ((hU q n i 0).map Ε)) (λi=>n+1-i) 0 (Nat.zero_le _) (by rw[IA];simp[iJ]) (by rw[IA];simp[cq]) (λi hi fK=>?_)
  (repeat (first|apply κ|(refine ν λη I=>?_;simp;(repeat (rw[δ];simp));apply I)));by_cases br:i<n+1
  ·refine aj (by simp[<-Η];omega) ?_;(repeat (first|apply κ|(refine ν λη I=>?_;simp;(repeat (rw[δ];simp));apply I)));refine W.iter (λj:Nat=>j<=n+1) (λj=>[(1,aP R 1 [p.1,p.2]),(2,.Ψ [aO s.ae,aI s.ai,bf s.cells]),(6,ee O),(7,R c),(8,cq k ((hU q n i j).map Ε)),(9,R ((i:Int)-1)),(10,R ((j:Int)-1))])
    (λj=>bj 23 1 O++bj 29 1 ((hU q n i j).map Ε)) (λj=>n+1-j) 0 (Nat.zero_le _) rfl (by simp) (λj ε jM=>?_)
   (repeat (first|apply κ|(refine ν λη I=>?_;simp;(repeat (rw[δ];simp));apply I)));by_cases eO:j<n+1
   ·refine aj (by simp[<-Η];omega) ?_;have kg:=fJ (show j<2 ^ 62 by omega);have Φ:=fξ s h p ((i:Int)-1,(j:Int)-1) ψ (by simp;omega) (by simp;omega) c bP;have ID:s.mM p ((i:Int)-1,(j:Int)-1) c=q ((i:Int)-1,(j:Int)-1):=by rw[Ρ]
    rw[ID] at Φ;have dU:=OI (q:=q) (n:=n) (i:=i) (j:=j);obtain⟨M,c0⟩:∃M,M=hU q n i j:=⟨_,rfl⟩;refine W.to (σ':=bj 23 1 O++bj 29 1 (M.map Ε)) (env':=[(1,aP R 1 [p.1,p.2]),(2,.Ψ [aO s.ae,aI s.ai,bf s.cells]),(6,ee O),(7,R c),(8,cq k (M.map Ε)),(9,R ((i:Int)-1)),(10,R ((j:Int)-1))]) ?_ (by rw[c0]) (by rw[c0];simp);(repeat apply κ);refine ν λη I=>?_;simp;(repeat (rw[δ];simp));refine ay.c Φ (aK.cons (.refl _) (.cons (.refl _) (.cons (.refl _) (.cons .ex .nil)))) (by simp) (by simp) ?_;simp;(repeat (rw[δ];simp));apply I;(repeat (first|apply κ|(refine ν λη I=>?_;simp;(repeat (rw[δ];simp));apply I)));refine ah rfl ?_;(repeat (first|apply κ|(refine ν λη I=>?_;simp;(repeat (rw[δ];simp));apply I)));cases As:q ((i:Int)-1,(j:Int)-1)
    ·refine ah rfl ?_;(repeat (first|apply κ|(refine ν λη I=>?_;simp;(repeat (rw[δ];simp[kg]));apply I)));rw[As] at dU;refine W.to (jM (j+1) (by omega) (by omega)) ?_ ?_
     ·rw[dU,c0];simp
     ·rw[dU,c0];simp
    ·refine aj rfl ?_;rw[As] at dU
     repeat apply κ
     refine W.fL (A:=[52]) Ι [(1,aP R 1 [p.1,p.2]),(2,.Ψ [aO s.ae,aI s.ai,bf s.cells]),(6,ee O),(7,R c),(8,cq k ((M++[((i:Int)-1,(j:Int)-1)]).map Ε)),(9,R ((i:Int)-1)),(10,R ((j:Int)-1))] (bj 23 1 O++bj 29 1 ((M++[((i:Int)-1,(j:Int)-1)]).map Ε)) ?_ (by
      have Kl:M.length<=4294967295:=by
       have J:=Kk q n i j
       have γ:i*(n+1)<=7*7:=Nat.mul_le_mul (by omega) (by omega);rw[c0];omega
      clear jM fK Δ;by_cases Θ:M=[]
      ·subst Θ;simp only[List.map_nil,iJ,List.append_nil,show cq k []=.sl true 0 [] from rfl];simp;(repeat (rw[δ];simp));(try simp[cq,bj,χ])
      ·have jY:M.map Ε≠[]:=by simpa using Θ
       rw[gz jY,dY jY];have bC:(bj 23 1 O++[Row.cells 29 1 (M.map Ε)])[k]?=some (Row.cells 29 1 (M.map Ε)):=by rw[χ];simp
       simp;(repeat (rw[δ];simp[bC,Kl]));(try simp[cq,bj,χ]))
     (repeat (first|apply κ|(refine ν λη I=>?_;simp;(repeat (rw[δ];simp[kg]));apply I)));refine W.to (jM (j+1) (by omega) (by omega)) ?_ ?_
     ·rw[dU,c0];simp
     ·rw[dU,c0];simp
   ·refine ah (by simp[<-Η];omega) ?_;refine W.exit rfl ?_;have pq:j=n+1:=by omega
    subst pq;have:=fJ (show i<2 ^ 62 by omega);(repeat (first|apply κ|(refine ν λη I=>?_;simp;(repeat (rw[δ];simp[this]));apply I)));refine W.to (fK (i+1) (by omega) (by omega)) ?_ ?_
    ·rw[IB]
    ·rw[IB];simp
  ·refine ah (by simp[<-Η];omega) ?_;refine W.exit rfl ?_;have dL:i=n+1:=by omega
   subst dL;obtain⟨D,dQ⟩:∃D,D=ff s p c:=⟨_,rfl⟩;have IE:hU q n (n+1) 0=D:=by rw[Ei,dQ,Ρ,Η];rfl
   rw[IE];have Rv:nQ s p c=fA 1 (D.map Ε):=by unfold nQ;rw[dQ]
   refine W.cut (bj 23 1 O).length (Nat.zero_le _) [(1,aP R 1 [p.1,p.2]),(2,.Ψ [aO s.ae,aI s.ai,bf s.cells]),(6,ee O),(7,R c),(8,nQ s p c)] (by simp) ?_ ?_ ?_
   ·intro id r bW μ;rw[dB bW] at μ;exact Al Ru r (ck μ)
   ·intro z Θ;simp only[List.mem_cons,List.not_mem_nil,or_false] at Θ;rcases Θ with rfl|rfl|rfl|rfl|rfl
    ·exact .low (by simp)
    ·exact .low (by simp)
    ·refine .low ?_;show au _ (ee O);unfold ee;by_cases Θ:O=[]
     ·simp[Θ]
     ·rw[if_neg (by simpa using Θ),dY Θ];simp[nx]
    ·exact .low (by simp)
    ·show ed _ _ (cq k (D.map Ε)) (nQ s p c);rw[Rv];refine Ar (t:=29) (by rw[χ];exact Nat.le_refl _) (λΘ=>?_) (λe he a ξ=>au.mono (Kj e he a ξ) (Nat.zero_le _));rw[dY Θ,χ];simp
   have mx:O++[nQ s p c]=(List.range (c+1)).map (nQ s p):=by rw[cI,List.range_succ,List.map_append];rfl
   rw[List.take_left];obtain⟨x,U⟩:∃x,x=nQ s p c:=⟨_,rfl⟩;rw[<-U] at mx ⊢;obtain⟨uW,Km,rX,Kn⟩:=IC 1 (D.map Ε);rw[<-Rv,<-U] at Kn
   repeat apply κ
   refine W.fL (A:=[56]) Ι [(1,aP R 1 [p.1,p.2]),(2,.Ψ [aO s.ae,aI s.ai,bf s.cells]),(6,ee (O++[x])),(7,R c)] (bj 23 1 (O++[x])) ?_ (by
    have Ko:O.length<=4294967295:=by rw[cI];simp;omega
    clear Δ fK mx cI;by_cases Θ:O=[]
    ·subst Θ;rw[Kn];simp only[pj,iJ];simp;(repeat (rw[δ];simp));(try simp[ee,bj])
    ·rw[rr Θ,dY Θ,Kn];simp;(repeat (rw[δ];simp[Ko]));(try simp[ee,bj]))
   (repeat (first|apply κ|(refine ν λη I=>?_;simp;(repeat (rw[δ];simp[hw]));apply I)));exact W.to (Δ (c+1) (by omega) (by omega)) (by rw[mx]) (by rw[mx];simp)
 ·refine ah (by simp[bP]) ?_;have wq:c=s.cells.length:=by omega
  refine W.exit rfl ?_;refine W.Ot (d:=6) Ru [(1,aP R 1 [p.1,p.2])] (by simp) (by simp) ?_;(repeat (first|apply κ|(refine ν λη I=>?_;simp;(repeat (rw[δ];simp));apply I)));refine W.ret ⟨_,rfl,?_,rfl⟩;refine cG.bn (aK.cons ?_ (aK.cons (.refl _) .nil));rw[cI,wq];refine .trans cG.acc ?_;show cG _ (.sl false 1 (((List.range s.cells.length).map λc=>fP (ff s p c)).map aI));rw[List.map_map];refine .map λc _=>.one ?_ (by unfold nQ fA;split<;>rfl) rfl;unfold nQ;refine .trans cG.acc ?_;show cG (.sl false 1 ((ff s p c).map Ε)) (.sl false 1 ((fP (ff s p c)).map (aP R 1)));rw[List.map_map];exact .map λr _=>.one .ex rfl rfl
end Go.TL
namespace Go.TL
open Go.Conc Go.Proofs
variable [bm]
end Go.TL
namespace Go.TL
open Go.Proofs
variable [bm]
end Go.TL
