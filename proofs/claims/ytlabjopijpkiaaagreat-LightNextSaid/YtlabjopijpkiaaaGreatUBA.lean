import Derived.Sort.LotC
import Derived.Sort.LotD5
import Derived.Sort.Walk13a
import Derived.Test.YtlabjopijpkiaaaGreatUAK
import Derived.Test.YtlabjopijpkiaaaGreatUAP
import Derived.Test.YtlabjopijpkiaaaGreatUAR
import Derived.Test.YtlabjopijpkiaaaGreatUAS
import Derived.Test.YtlabjopijpkiaaaGreatUAX
import Derived.Test.YtlabjopijpkiaaaGreatUAZ
set_option maxHeartbeats 16000000
set_option maxRecDepth 20000
set_option linter.unusedSectionVars false
set_option linter.unusedSimpArgs false
set_option linter.unusedVariables false
namespace Go.TL
open Go.Proofs
variable [bt]
def u3 (g:FuncId) (args:List η) (d:cB) (ah:η->Prop):Prop:=ao Tryz.prog g (.an 0 1 0 0::args) [b1 d] (λa s=>∃r dP,cW a r/\ah r/\s=[b1 dP]/\dP.bg.length<=d.bg.length) (λ_ _=>False)
theorem u3.c {g:FuncId} {args gw:List η} {d:cB} {ah:η->Prop} {σ:List Row} {K E:η->List Row->Prop} (h:u3 g args d ah) (id:Nat) (b0:σ[id]?=some (b1 d)) (he:bS gw args) (μ:∀a∈gw,ay 0 a) (κ:∀r,ah r->ay 0 r) (ζ:∀r dP,ah r->dP.bg.length<=d.bg.length->K r (σ.set id (b1 dP))):hE Tryz.prog (.fn (.func g) [] []) (.an id 1 0 0::gw) σ K E:=by
 refine ao.ID (as0:=.an 0 1 0 0::gw) (K0:=λa s=>∃dP,ah a/\s=[b1 dP]/\dP.bg.length<=d.bg.length) (ao.nD h (.cons (.refl _) he) λa s ⟨r,dP,I,U,ξ,Κ⟩=>⟨r,I,dP,U,ξ,Κ⟩) id b0 (pH d) ?_ ?_ ?_
 ·intro a hm;rcases List.mem_cons.1 hm with rfl|hm
  ·exact Nat.zero_lt_one
  ·exact(μ a hm).iU 1
 ·rw[List.map_cons,Rc μ];rfl
 ·rintro a s ⟨dP,I,U,ξ⟩;exact⟨b1 dP,U,pH dP,(κ a I).iU 1,by rw[(κ a I).ed];exact ζ a dP I ξ⟩
section
variable {P:Program} {m nt:Nat} {k:List Item} {env:aa} {Z:List Item->aa->List Row->Prop} {E:η->aa->List Row->Prop}
theorem W.Ro {d:cB} {t kk n:Nat} {l:List η} {x:Nat} (hm:m<=1) (υ:l.length=n) (hb:∀e∈l,∀a∈e.cells,ay 0 a) (hd:a6 env x=.ms 1 n 0 n) (hW:W P m nt k [(x,.sl false kk l)] [b1 d] Z E):W P m nt k env [b1 d,.cells t kk l] Z E:=
 W.cut 1 hm [(x,.sl false kk l)] θ (λid r b0 κ=>by
  have:id=0:=R;subst this;simp at κ;subst κ;exact u2 d 1) (λp ψ=>by
  simp at ψ;subst ψ;show eD 1 _ (a6 env x) _;rw[hd];exact .own (t:=t) (Nat.le_refl _) rfl υ (λe he a μ=>(hb e he a μ).mono (Nat.zero_le _))) (by simpa using hW)
end
theorem ts {l:List l6}:∀e∈l.map eN,∀a∈e.cells,ay 0 a:=λe he a μ=>by
 obtain⟨x,_,rfl⟩:=List.mem_map.1 he;simp[η.cells] at μ;rcases μ with rfl|rfl<;>exact .z _
def yN:List ByteArray:=[⟨#[97]⟩,⟨#[98]⟩,⟨#[99]⟩,⟨#[100]⟩,⟨#[111]⟩,⟨#[122]⟩]
theorem eΙ:∀i<6,yN[i]?=some (nn i):=bD
structure Rp where
 i:Nat
 d:cB
 aN:List Nat
theorem eΚ (d:cB) (hd:d.bg.length<2 ^ 63) (most:Nat) (iz:1<=most) (yO:most<=6):u3 128 [J most] d (λr=>∃l,r=aS l/\pL l/\l.length<=most):=by
 unfold u3;refine ao.body Φ Tryz.func128 rfl rfl Tryz.ntmps128 rfl rfl θ ?_;refine Ζ ?_;obtain⟨l0,l1⟩:=yM d (a:=1) (b:=63) bD bD bD;obtain⟨last,jG⟩:=cZ (nO d 1 63);obtain⟨d1,ko⟩:=cZ (d.after (IntKind.i64.wrap (63-1)));have eΜ:d1.bg.length<=d.bg.length:=by rw[<-ko];exact lB _ _
 have Χ:=yL d hd 1 63;rw[jG,ko] at Χ;rw[jG] at l0 l1;refine bN λΕ ζ=>?_;refine ef.g (Χ) (bT ?_);apply ζ
 repeat apply ar
 have Α:=Rg d1 R 11 bD
 have Bv:=eΒ d1
 have FH:=Nat.le_trans (Kf d1 11) eΜ;obtain⟨ord,uX⟩:=cZ ((hk d1 11).1);obtain⟨d2,ly⟩:=cZ ((hk d1 11).2);rw[uX] at Bv;rw[uX,ly] at Α;rw[ly] at FH;refine bN λΕ ζ=>?_;refine ef.g (Α) (bT ?_);apply ζ;refine Ζ ?_;obtain⟨pX,hP⟩:=yM d2 (a:=1) (b:=most) R bD R;obtain⟨n,Η⟩:∃n:Nat,nO d2 1 most=n:=⟨(nO d2 1 most).toNat,R⟩;rw[Η] at pX hP;obtain⟨d3,Bw⟩:=cZ (d2.after (IntKind.i64.wrap ((most:Int)-1)));have Kl:d3.bg.length<=d.bg.length:=by rw[<-Bw];exact Nat.le_trans (lB _ _) FH
 have HI:=yL d2 R 1 most;rw[Η,Bw] at HI;refine bN λΕ ζ=>?_;refine ef.g (HI) (bT ?_);apply ζ;refine Ζ ?_;have cl:yN.length=6:=rfl;have ff:(jy++[last]).length=12:=by simp[jy]
 obtain⟨wX,FI⟩:=aF (jy++[last]);rw[<-FI] at ff;have c5:∀aN:List Nat,(aN.map (kQ ord last)).length=aN.length:=λaN=>List.length_map _;refine W.iter (λx:Rp=>x.i<=6/\x.d.bg.length<=d.bg.length/\x.aN.Pairwise (· < ·)/\(∀j∈x.aN,j<x.i)/\x.aN.length<=n/\n+x.i<=6+x.aN.length)
  (λx=>[(0,.an 0 1 0 0),(5,.sl true 1 (yN.map nE)),(6,.sl true 1 (wX.map J)),(7,a2 J 1 ord),(8,cy 1 ((x.aN.map (kQ ord last)).map eN)),(9,J n),(10,J x.i)])
  (λx=>b1 x.d::bh 77 2 ((x.aN.map (kQ ord last)).map eN)) (λx=>6-x.i) ⟨0,d3,[]⟩ ⟨θ,Kl,θ,θ,θ,by simp;omega⟩ rfl (by rw[FI];intro p ψ;simp only[List.mem_cons,List.not_mem_nil,or_false] at ψ;rcases ψ with rfl|rfl|rfl|rfl|rfl|rfl|rfl<;>rfl) (λx γ Β=>?_)
 obtain⟨i,D,aN⟩:=x;obtain⟨eΝ,m9,FJ,Bx,Rq,eΞ⟩:=γ;simp only at eΝ m9 FJ Bx Rq eΞ Β ⊢;obtain⟨G,yP⟩:=aF (aN.map (kQ ord last));have hH:G.length=aN.length:=by rw[yP];exact c5 aN
 rw[<-yP];have sh:(cy 1 (G.map eN)=.sl true 0 []/\bh 77 2 (G.map eN)=[]/\aN.length=0)\/(cy 1 (G.map eN)=.ms 1 aN.length 0 aN.length/\bh 77 2 (G.map eN)=[.cells 77 2 (G.map eN)]/\0<aN.length):=by
  by_cases Θ:G=[]
  ·subst Θ;exact .inl ⟨rfl,rfl,by simpa using hH.symm⟩
  ·have gy:G.map eN≠[]:=by simpa using Θ
   refine .inr ⟨by rw[gH gy,List.length_map,hH],ee gy,?_⟩;have:=List.length_pos_iff.2 Θ;omega
 repeat apply ar
 refine W.fA (A:=[]) Φ [(35,bm (decide (i<6)&&decide (aN.length<n))),(0,.an 0 1 0 0),(5,.sl true 1 (yN.map nE)),(6,.sl true 1 (wX.map J)),(7,a2 J 1 ord),(8,cy 1 (G.map eN)),(9,J n),(10,J i)] (b1 D::bh 77 2 (G.map eN)) ?_ (by
  by_cases hi:i<6
  ·have ba:(i:Int)<6:=by omega
   rcases sh with⟨Δ,Γ,a0⟩|⟨Δ,Γ,a0⟩
   ·rw[Δ,Γ];(try simp);(repeat (rw[Υ];simp[ba,cl,a0,hi]));(try simp[ba,cl,a0,hi])
   ·rw[Δ,Γ];(try simp);(repeat (rw[Υ];simp[ba,cl,hH,hi]));(try simp[ba,cl,hH,hi])
  ·have hi:i=6:=by omega
   subst hi;rcases sh with⟨Δ,Γ,a0⟩|⟨Δ,Γ,a0⟩
   ·rw[Δ,Γ];(try simp);(repeat (rw[Υ];simp[cl]));(try simp[cl])
   ·rw[Δ,Γ];(try simp);(repeat (rw[Υ];simp[cl]));(try simp[cl]))
 refine W.eM rfl (λε=>?_) (λε=>?_)
 ·simp only[Bool.and_eq_true,decide_eq_true_eq] at ε;obtain⟨hi,Rr⟩:=ε;have jr:IntKind.i64.wrap (6-(i:Int))=6-i:=IntWalk.i64_in _ R;have iG:IntKind.i64.wrap ((n:Int)-aN.length)=n-aN.length:=IntWalk.i64_in _ R;have jv:IntKind.i64.wrap ((i:Int)+1)=((i+1:Nat):Int):=by rw[IntWalk.i64_in _ R];omega
  repeat apply ar
  have wB:D.bg.length<2 ^ 63:=R
  have tt:=Ke D wB 3 bD bD;obtain⟨ο,sM⟩:=cZ (wU D 3);obtain⟨j0,qN⟩:=cZ (D.after (3-1));have Rs:j0.bg.length<=d.bg.length:=by rw[<-qN];exact Nat.le_trans (lB _ _) m9
  rw[sM,qN] at tt;obtain⟨jz,qO⟩:∃x,x=if(n:Int)-aN.length<6-i then j0 else D:=⟨_,rfl⟩
  have By:jz.bg.length<=d.bg.length:=by rw[qO];split<;>assumption
  refine W.fA (A:=[]) Φ [(50,bm (decide ((n:Int)-aN.length<6-i)&&ο)),(0,.an 0 1 0 0),(5,.sl true 1 (yN.map nE)),(6,.sl true 1 (wX.map J)),(7,a2 J 1 ord),(8,cy 1 (G.map eN)),(9,J n),(10,J i)] (b1 jz::bh 77 2 (G.map eN)) ?_ (by
   by_cases nP:(n:Int)-aN.length<6-i
   ·rw[if_pos nP] at qO;rw[qO];rcases sh with⟨Δ,Γ,a0⟩|⟨Δ,Γ,a0⟩
    ·rw[Δ,Γ];rw[a0] at nP iG;simp only[Int.natCast_zero,Int.sub_zero] at nP iG;(try simp);(repeat (rw[Υ];simp[cl,jr,iG,nP,a0]));(try simp[cl,jr,iG,nP,a0]);refine ef.c (tt) 0 rfl (bS.refl _) θ θ ?_;simp[];(repeat (rw[Υ];simp[]));(try simp)
    ·rw[Δ,Γ];(try simp);(repeat (rw[Υ];simp[cl,jr,iG,nP,hH]));(try simp[cl,jr,iG,nP,hH]);refine ef.c (tt) 0 rfl (bS.refl _) θ θ ?_;simp[];(repeat (rw[Υ];simp[]));(try simp)
   ·rw[if_neg nP] at qO;rw[qO];rcases sh with⟨Δ,Γ,a0⟩|⟨Δ,Γ,a0⟩
    ·rw[Δ,Γ];rw[a0] at nP iG;simp only[Int.natCast_zero,Int.sub_zero] at nP iG;(try simp);(repeat (rw[Υ];simp[cl,jr,iG,nP,a0]));(try simp[cl,jr,iG,nP,a0])
    ·rw[Δ,Γ];(try simp);(repeat (rw[Υ];simp[cl,jr,iG,nP,hH]));(try simp[cl,jr,iG,nP,hH]))
  refine W.eM rfl (λa8=>?_) (λa8=>?_)
  ·simp only[Bool.and_eq_true,decide_eq_true_eq] at a8;refine W.exit rfl ?_;refine aR jv ?_;refine W.to (Β ⟨i+1,jz,aN⟩ ⟨by show i+1<=6;omega,By,FJ,λj δ=>by have:=Bx j δ;show j<i+1;omega,Rq,by show n+(i+1)<=6+aN.length;omega⟩ (by show 6-(i+1)<6-i;omega)) (by rw[yP]) ?_;rw[<-yP];simp[jv]
  ·have np:n+i+1<=6+aN.length+1:=by omega
   obtain⟨k,ς,Bz,cH⟩:=Bv.get (i:=i) R;obtain⟨cH,_,_⟩:=cH last;have FK:kQ ord last i=⟨nn i,jy.getD k 0⟩:=by
    obtain⟨ae,_,hs,e,_⟩:=FG Bv last (i:=i) R;rw[Bz] at hs;have rp:ae=k:=by have:=Option.some.inj hs;omega
    subst rp;show(⟨nn i,(kQ ord last i).eE⟩:l6)=_;rw[e]
   obtain⟨st,mC⟩:=cZ (jy.getD k 0);rw[mC] at FK;rw[mC,<-FI] at cH;have k9:=eΙ i hi;have Rt:∀h,yN[i]'h=nn i:=λh=>by rw[a5 h] at k9;exact Option.some.inj k9
   have Ru:∀h,ord[i]'h=(k:Int):=λh=>by rw[a5 h] at Bz;exact Option.some.inj Bz
   have Rv:∀h,wX[k]'h=st:=λh=>by rw[a5 h] at cH;exact Option.some.inj cH
   have z4:=Bv.len
   have u4:(G++[kQ ord last i])=(aN++[i]).map (kQ ord last):=by rw[yP];simp
   repeat apply ar
   have bA:(G++[kQ ord last i]).map eN≠[]:=θ
   have qL:(⟨i+1,jz,aN++[i]⟩:Rp).i<=6/\jz.bg.length<=d.bg.length/\(aN++[i]).Pairwise (· < ·)/\(∀j∈aN++[i],j<i+1)/\(aN++[i]).length<=n/\n+(i+1)<=6+(aN++[i]).length:=by
    refine⟨hi,By,?_,?_,?_,?_⟩
    ·rw[List.pairwise_append];exact⟨FJ,θ,λa μ b hb=>by simp at hb;subst hb;exact Bx a μ⟩
    ·intro j δ;rcases List.mem_append.1 δ with δ|δ
     ·have:=Bx j δ;omega
     ·simp at δ;omega
    ·simp;omega
    ·simp;omega
   rcases sh with⟨Δ,Γ,a0⟩|⟨Δ,Γ,a0⟩
   ·rw[Δ,Γ];refine W.draw (A:=[65]) Φ mixed λΕ ζ=>iu (Μ cl (Μ ff (Μ z4 (Μ k9 (Μ Rt (Μ Bz (Μ Ru (Μ cH Rv)))))))) ?_;refine⟨R,R,R,?_⟩;refine fy (ζ _ _ ?_);refine aR jv ?_;have Θ:G=[]:=dw.1 R;refine W.to (Β ⟨i+1,jz,aN++[i]⟩ qL (by show 6-(i+1)<6-i;omega)) ?_ ?_
    ·have e:bh 77 2 (((aN++[i]).map (kQ ord last)).map eN)=[.cells 77 2 [eN ⟨nn i,st⟩]]:=by rw[<-u4,ee bA,Θ,FK];rfl
     simp only[e]
    ·have e:cy 1 (((aN++[i]).map (kQ ord last)).map eN)=.ms 1 1 0 1:=by rw[<-u4,gH bA,Θ,FK];rfl
     simp only[e];simp[jv]
   ·rw[Δ,Γ];refine W.draw (A:=[65]) Φ mixed λΕ ζ=>iu (Μ cl (Μ ff (Μ z4 (Μ k9 (Μ Rt (Μ Bz (Μ Ru (Μ cH (Μ Rv hH))))))))) ?_;refine⟨R,R,R,R,?_⟩;refine fy (ζ _ _ ?_);refine aR jv ?_;refine W.to (Β ⟨i+1,jz,aN++[i]⟩ qL (by show 6-(i+1)<6-i;omega)) ?_ ?_
    ·have e:bh 77 2 (((aN++[i]).map (kQ ord last)).map eN)=[.cells 77 2 (G.map eN++[eN ⟨nn i,st⟩])]:=by rw[<-u4,ee bA,List.map_append,FK];rfl
     simp only[e]
    ·have e:cy 1 (((aN++[i]).map (kQ ord last)).map eN)=.ms 1 (aN.length+1) 0 (aN.length+1):=by rw[<-u4,gH bA,List.length_map,List.length_append,hH];rfl
     simp only[e];simp[jv]
 ·have Rr:aN.length=n:=by
   simp only[Bool.and_eq_false_iff,decide_eq_false_iff_not] at ε;omega
  refine W.exit rfl ?_;rcases sh with⟨Δ,Γ,a0⟩|⟨Δ,Γ,a0⟩
  ·omega
  rw[Rr] at Δ hH;have Rw:pL G:=by rw[yP];exact eΘ Bv last FJ (λj δ=>by have:=Bx j δ;omega) R R
  have Km:wX[11]?=some last:=by rw[FI];rfl
  have eΟ:∀h,wX[11]'h=last:=λh=>by rw[a5 h] at Km;exact Option.some.inj Km
  refine W.to (env':=[(0,.an 0 1 0 0),(6,.sl true 1 (wX.map J)),(8,.ms 1 n 0 n),(9,J n)]) (σ':=[b1 D,.cells 77 2 (G.map eN)]) ?_ (by rw[Γ]) (by rw[Δ];simp);have eΡ:IntKind.i64.wrap 11=11:=bD;refine aR (Μ ff (Μ Km (Μ eΟ eΡ))) ?_;refine W.iter (λx:Nat×Bool=>x.1<=n/\(x.2=true->∀g∈G.take x.1,g.eE≠last)) (λx=>[(0,.an 0 1 0 0),(8,.ms 1 n 0 n),(11,J last),(12,bm x.2),(13,J x.1)]) (λ_=>[b1 D,.cells 77 2 (G.map eN)]) (λx=>n-x.1) (0,true) ⟨Nat.zero_le _,θ⟩ rfl θ (λx γ BA=>?_);obtain⟨j,ax⟩:=x;obtain⟨δ,np⟩:=γ;simp only at δ np BA ⊢;refine aR hH ?_;refine W.eM rfl (λε=>?_) (λε=>?_)
  ·have e0:j<n:=by simpa using ε
   have Kn:G[j]?=some (G[j]'R):=a5 R;obtain⟨g,Ρ⟩:=aF (G[j]'R);rw[<-Ρ] at Kn;have Rx:∀h,G[j]'h=g:=λh=>Ρ.symm;have jv:IntKind.i64.wrap ((j:Int)+1)=((j+1:Nat):Int):=by rw[IntWalk.i64_in _ R];omega
   have k':G.take (j+1)=G.take j++[g]:=by rw[List.take_succ_eq_append_getElem R,Ρ]
   repeat apply ar
   refine W.fA (A:=[]) Φ [(0,.an 0 1 0 0),(8,.ms 1 n 0 n),(11,J last),(12,bm (ax&&decide (g.eE≠last))),(13,J j)] [b1 D,.cells 77 2 (G.map eN)] ?_ (by
    cases ax
    ·(try simp);(repeat (rw[Υ];simp[hH]));(try simp[hH])
    ·(try simp);(repeat (rw[Υ];simp[hH,Kn,Rx]));(try simp[hH,Kn,Rx]);omega)
   refine aR jv ?_;refine W.to (BA (j+1,ax&&decide (g.eE≠last)) ⟨e0,λh=>?_⟩ (by show n-(j+1)<n-j;omega)) rfl (by simp[jv]);simp only[Bool.and_eq_true,decide_eq_true_eq] at h;intro y Ο;rw[k'] at Ο;rcases List.mem_append.1 Ο with Ο|Ο
   ·exact np h.1 y Ο
   ·simp at Ο;subst Ο;exact h.2
  ·have e0:j=n:=by simp at ε;omega
   have eΤ:ax=true->∀g∈G,g.eE≠last:=λh=>by
    have:=np h
    rwa [List.take_of_length_le R] at this
   refine W.exit rfl ?_;have wB:D.bg.length<2 ^ 63:=R;have tt:=Ke D wB 3 bD bD;obtain⟨ο,sM⟩:=cZ (wU D 3);obtain⟨j0,qN⟩:=cZ (D.after (3-1));have Rs:j0.bg.length<=d.bg.length:=by rw[<-qN];exact Nat.le_trans (lB _ _) m9
   rw[sM,qN] at tt;obtain⟨jz,qO⟩:=aF (if ax then j0 else D);have By:jz.bg.length<=d.bg.length:=by rw[qO];split<;>assumption
   repeat apply ar
   refine W.fA (A:=[]) Φ [(92,bm (ax&&ο)),(0,.an 0 1 0 0),(8,.ms 1 n 0 n),(11,J last)] [b1 jz,.cells 77 2 (G.map eN)] ?_ (by
    cases ax
    ·rw[qO];(try simp);(repeat (rw[Υ];simp[hH]));(try simp[hH])
    ·rw[qO];(try simp);(repeat (rw[Υ];simp[hH]));(try simp[hH]);refine ef.c (tt) 0 rfl (bS.refl _) θ θ ?_;simp[];(repeat (rw[Υ];simp[]));(try simp))
   refine W.eM rfl (λa8=>?_) (λa8=>?_)
   ·simp only[Bool.and_eq_true] at a8;have jr:IntKind.i64.wrap ((n:Int)-1)=n-1:=IntWalk.i64_in _ R;have xF:=wT jz R ((n:Int)-1);obtain⟨t0,t1⟩:=uZ jz ((n:Int)-1) R R;obtain⟨k,ς⟩:∃k:Nat,iA jz ((n:Int)-1)=k:=⟨(iA jz ((n:Int)-1)).toNat,R⟩;obtain⟨yQ,BB⟩:=cZ (jz.after ((n:Int)-1));have Ko:yQ.bg.length<=d.bg.length:=by rw[<-BB];exact Nat.le_trans (lB _ _) By
    rw[ς,BB] at xF;rw[ς] at t1;have FL:k<G.length:=R;have Ry:G[k]?=some (G[k]'FL):=a5 FL;obtain⟨g,Ρ⟩:=aF (G[k]'FL);rw[<-Ρ] at Ry;have eΥ:∀h,G[k]'h=g:=λh=>Ρ.symm
    repeat apply ar
    refine W.fA (A:=[]) Φ [(8,.ms 1 n 0 n)] [b1 yQ,.cells 77 2 ((G.set k ⟨g.name,last⟩).map eN)] ?_ (by
     (try simp);(repeat (rw[Υ];simp[hH,jr]));(try simp[hH,jr]);refine ef.g (xF) (gQ (Μ Ry (Μ eΥ hH)) ?_)
     first|omega|(refine⟨R,?_⟩;simp[List.map_set]))
    refine Ζ ?_;rw[<-List.map_set];refine W.Ro (x:=4) (n:=n) (l:=(G.set k ⟨g.name,last⟩).map eN) (Nat.le_refl _) (by rw[List.length_map];simp[hH]) ts ?_ ?_
    ·simp
    exact W.ret ⟨_,rfl,_,yQ,.refl _,⟨_,rfl,by rw[Ρ];exact Rw.set FL l0 l1 (eΤ a8.1),by rw[List.length_set];omega⟩,rfl,Ko⟩
   ·refine Ζ ?_;refine W.Ro (x:=4) (n:=n) (l:=G.map eN) (Nat.le_refl _) (by rw[List.length_map];simp[hH]) ts ?_ ?_
    ·simp
    exact W.ret ⟨_,rfl,_,jz,.refl _,⟨_,rfl,Rw,R⟩,rfl,By⟩
end Go.TL
namespace Go.TL
open Go.Conc
variable [bt]
inductive sa (id k:Nat) (l:List η):η->η->Prop where
 | same (a:η):sa id k l a a
 | ms:sa id k l (.ms id l.length 0 l.length) (.sl false k l)
 | an {e:η}:l=[e]->sa id k l (.an id 1 0 0) (.ab e.cells)
def tu (id k:Nat) (l:List η) (r r':Row):Prop:=r'=r\/∃t n es es',r=.cells t n es/\r'=.cells t n es'/\es'.length=es.length/\
 ∀(i:Nat) (e aM:η),es[i]?=some e->es'[i]?=some aM->aM.cells.length=e.cells.length/\∀(x:Nat) (a cn:η),e.cells[x]?=some a->aM.cells[x]?=some cn->sa id k l a cn
section
variable {P:Program} {S:aH} {B:aU} {H:χ} {σ σ':List Row} {m nt id k:Nat} {t:TypeId} {l:List η} {kk:List Item} {env:aa} {Z:List Item->aa->List Row->Prop} {E:η->aa->List Row->Prop}
def aH.set (S:aH) (B:aU) (H:χ) (id:Nat):aH:=λb o=>match B[id]? with
 | some (some (db,_))=>if b=db then(H.aL b o).map (·.1) else S b o
 | _=>S b o
theorem Rz {b N:Nat} (hb:B[id]?=some (some (b,N))) (o:Nat):S.set B H id b o=(H.aL b o).map (·.1):=by
 unfold aH.set;rw[hb];simp
theorem RA (ω:Holds S B σ H) (bF:σ[id]?=some (.cells t k l)):∀b o v,S b o=some v->S.set B H id b o=some v:=λb o v hv=>by
 unfold aH.set;split
 ·rename_i db N hb;split
  ·rename_i e;subst e;rw[ω.sep id _ b N bF trivial hb o] at hv;cases hv
  ·exact hv
 ·exact hv
theorem b'.u5 (ω:Holds S B σ H) (bF:σ[id]?=some (.cells t k l)) (yR:σ'[id]?=some .dead) (ob:∀j r,j≠id->σ[j]?=some r->∃r',σ'[j]?=some r'/\tu id k l r r'):b' S (S.set B H id) B B σ σ':=
 ⟨RA ω bF,λj r κ=>by
  by_cases e:j=id
  ·subst e;rw[bF] at κ;cases κ;exact⟨.dead,yR,.inr λn _=>trivial⟩
  ·obtain⟨r',I,U⟩:=ob j r e κ;refine⟨r',I,?_⟩;rcases U with rfl|⟨t,n,es,es',rfl,rfl,ξ,_⟩
   ·exact Row.tU _ _
   ·exact .inl ⟨es',rfl,ξ,rfl⟩⟩
theorem av.RB (ω:Holds S B σ H) (bF:σ[id]?=some (.cells t k l)) (υ:b' S (S.set B H id) B B σ σ') {a cn:η} (ν:sa id k l a cn) {v:Value} (κ:av S B σ a v):av (S.set B H id) B σ' cn v:=by
 cases ν with
 | same=>exact κ.later υ
 | ms=>
  cases κ with
  | ms cap Τ af aZ cA gP iq=>
   rw[bF] at Τ;cases Τ;by_cases Θ:l=[]
   ·subst Θ;exact .iK _ _ θ
   ·have qa:0<l.length:=List.length_pos_iff.2 Θ;rcases iq with iq|⟨b,N,rfl,rfl,iq⟩
    ·omega
    ·obtain⟨_,_,_,w,hw⟩:=ω.row id _ _ bF aZ;rw[Nat.zero_mul];refine .sl b 0 cap (λj x=>w j x) θ gP (λj e δ=>(hw j e δ).1) (λj e δ x c γ=>?_) (λj e δ x c γ=>?_)
     ·have:=((hw j e δ).2 x c γ).1;rw[Rz aZ,Nat.zero_add,this];rfl
     ·exact(((hw j e δ).2 x c γ).2.1).later υ
  | jg v Τ af=>rw[bF] at Τ;cases Τ;simp only[Row.hf] at af;omega
 | @an e he=>
  subst he;cases κ with
  | an Τ af aZ=>
   rw[bF] at Τ;cases Τ;obtain⟨_,_,_,w,hw⟩:=ω.row id _ _ bF aZ;have ai:=hw 0 e rfl;refine .ab _ _ (λx=>w 0 x) (λx a γ=>?_) (λx a γ=>?_)
   ·have:=(ai.2 x a γ).1;rw[Rz aZ,Nat.add_zero,this];rfl
   ·exact((ai.2 x a γ).2.1).later υ
  | jO v Τ af=>rw[bF] at Τ;cases Τ;simp[Row.hf] at af
theorem W.u5 (hm:m<=id) (bF:σ[id]?=some (.cells t k l)) (hlen:σ'.length=σ.length) (yR:σ'[id]?=some .dead) (ob:∀j r,j≠id->σ[j]?=some r->∃r',σ'[j]?=some r'/\tu id k l r r') (env':aa) (cK:∀p∈env',sa id k l (a6 env p.1) p.2)
  (hW:W P m nt kk env' σ' Z E):W P m nt kk env σ Z E:=by
 intro Q mn x cs b S B H a7 γ hb ψ Θ he;have ω:=ψ.holds;have υ:=b'.u5 ω bF yR ob;have back:∀j r',j≠id->σ'[j]?=some r'->∃r,σ[j]?=some r/\tu id k l r r':=λj r' δ h=>by
  have aB:j<σ.length:=by rw[<-hlen];exact(cf.1 h).1
  obtain⟨r2,I,U⟩:=ob j _ δ (a5 aB);rw[h] at I;cases I;exact⟨_,a5 aB,U⟩
 have live:∀{r r':Row},tu id k l r r'->r'.live->r.live:=λ{r r'} h hv=>by
  rcases h with rfl|⟨_,_,_,_,rfl,rfl,_⟩
  ·exact hv
  ·trivial
 have jj:Holds (S.set B H id) B σ' H:=by
  refine⟨λb o v h=>?_,by rw[hlen];exact ω.len,λj r bo κ e6=>?_,λi j et cg b gN gO fP hi δ hy ek hz cS=>?_,λj r b N κ fr hb o=>?_⟩
  ·unfold aH.set at h;split at h
   ·split at h
    ·cases ε:H.aL b o with
     | none=>rw[ε] at h;cases h
     | some x=>rw[ε] at h;cases h;exact⟨x.2,rfl⟩
    ·exact ω.di b o v h
   ·exact ω.di b o v h
  ·by_cases e:j=id
   ·subst e;rw[yR] at κ;cases κ;trivial
   ·obtain⟨r0,I,U⟩:=back j r e κ;have ξ:=ω.row j r0 bo I e6;rcases U with rfl|⟨t2,n,es,es',rfl,rfl,Κ,aE⟩
    ·refine ξ.later υ (λb N _=>⟨λ_=>rfl,rfl,rfl⟩) λcP left cur Γ=>?_;subst Γ;obtain⟨_,_,aW,k5,xs,clock,seen,_,e3,⟨es,eK⟩,_⟩:=ξ;refine⟨?_,rfl,λb N _=>⟨λ_=>rfl,rfl,rfl⟩⟩;have bA:cP≠id:=λe=>by subst e;rw[bF] at eK;cases eK
     obtain⟨r',dL,p2⟩:=ob cP _ bA eK;rcases p2 with rfl|⟨_,_,_,_,p3,_⟩
     ·rw[dL,eK]
     ·cases p3
    ·cases bo with
     | none=>
      have:es=[]:=ξ;subst this;exact dw.1 Κ
     | some y=>
      obtain⟨b,N⟩:=y;obtain⟨Τ,af,aZ,w,cA⟩:=ξ;refine⟨Τ,by rw[Κ];exact af,aZ,w,λi aM hi=>?_⟩;have aB:i<es.length:=by rw[<-Κ];exact(cf.1 hi).1
      obtain⟨c1,c2⟩:=cA i _ (a5 aB);obtain⟨d1,d2⟩:=aE i _ aM (a5 aB) hi;refine⟨d1.trans c1,λx cn γ=>?_⟩;have rq:x<(es[i]).cells.length:=by rw[<-d1];exact(cf.1 γ).1
      obtain⟨e3,eK,iO⟩:=c2 x _ (a5 rq);exact⟨e3,eK.RB ω bF υ (d2 x _ cn (a5 rq) γ),iO⟩
  ·have RD:∀j r,σ'[j]?=some r->r.live->j≠id:=λj r h hv e=>by subst e;rw[yR] at h;cases h;exact hv
   obtain⟨r1,a1,bk⟩:=back i et (RD i et hi hy) hi;obtain⟨r2,bJ,c8⟩:=back j cg (RD j cg δ ek) δ;exact ω.inj i j r1 r2 b gN gO fP a1 bJ (live bk hy) (live c8 ek) hz cS
  ·have bA:j≠id:=λe=>by subst e;rw[yR] at κ;cases κ;exact fr
   obtain⟨r1,a1,bk⟩:=back j r bA κ;have ν:=ω.sep j r1 b N a1 (live bk fr) hb o;unfold aH.set;split
   ·rename_i db hp jN;split
    ·rename_i e;subst e;exact(ω.inj j id r1 _ b N hp bA a1 bF (live bk fr) trivial hb jN).elim
    ·exact ν
   ·exact ν
 have rB:Ext S B H (S.set B H id) B H:=by
  refine⟨RA ω bF,λ_ _ _=>nu.of ⟨λ_=>rfl,rfl,rfl⟩,λ_ h=>.inl h,λb o v hv=>?_,λ_ h=>h⟩;unfold aH.set at hv;split at hv
  ·rename_i db N jN;split at hv
   ·rename_i e;subst e;exact .inr (.inl ⟨N,cr jN⟩)
   ·exact .inl hv
  ·exact .inl hv
 have μ:e7 m S B H σ (S.set B H id) B H σ':=⟨rB,υ.left m⟩
 have v3:∀(l2:aa),(∀p∈l2,sa id k l (a6 env p.1) p.2)->∀i,av S B σ (a6 env i) (a7.getD i undef)->av (S.set B H id) B σ' (a6 l2 i) (a7.getD i undef):=by
  intro l2
  induction l2 with
  | nil=>intro _ i _;exact .cp _
  | cons p l2 Β=>
   intro s4 i κ;simp only[a6];split
   ·rename_i e;subst e;exact κ.RB ω bF υ (s4 p θ)
   ·exact Β (λq Ψ=>s4 q (by simp[Ψ])) i κ
 refine hW Q mn x cs b _ _ H a7 γ hb ⟨jj,λi=>v3 env' cK i (ψ.cx i),ψ.size,by rw[hlen];exact ψ.rows⟩ (λj hg gE c0 fc bQ t2 cJ Τ af aZ cA=>?_) (λa hg gE c0 fc bQ t2 cJ v Τ af aZ cA gP=>?_)
 ·exact Θ j hg gE c0 fc bQ t2 cJ Τ (μ.trans af) aZ cA
 ·exact he a hg gE c0 fc bQ t2 cJ v Τ (μ.trans af) aZ cA gP
end
end Go.TL
namespace Go.TL
open Go.Proofs
variable [bt]
theorem eΦ (d:cB) (n:Nat):(h8 d n).1.Pairwise (· < ·)/\∀x∈(h8 d n).1,0<=x/\x<n:=by
 induction n with
 | zero=>exact⟨List.Pairwise.nil,λx h=>(by cases h)⟩
 | succ n Β=>
  show((h8 d n).1++_).Pairwise _/\∀x∈(h8 d n).1++_,_;constructor
  ·rw[List.pairwise_append];refine⟨Β.1,by split<;>simp,λa μ b hb=>?_⟩;have:=Β.2 a μ;split at hb
   ·simp at hb;omega
   ·simp at hb
  ·intro x γ;rcases List.mem_append.1 γ with γ|γ
   ·have:=Β.2 x γ;omega
   ·split at γ
    ·simp at γ;omega
    ·simp at γ
structure wY (L:List (List Int)):Prop where
 lo:1<=L.length
 hi:L.length<=3
 each:∀l∈L,l.length<=3/\l.Pairwise (· < ·)/\∀x∈l,0<=x/\x<3
theorem eΧ {l:List Int} (I:l.Pairwise (· < ·)) (U:∀x∈l,0<=x/\x<3):ya l=0:=by
 refine Bu λx γ=>?_;obtain⟨i,hi,rfl⟩:=List.mem_map.1 γ;have hi:=List.mem_range.1 hi;unfold wz;rw[a5 hi];have ξ:=U _ (List.getElem_mem hi);simp only;rw[if_neg,if_neg]
 ·rintro⟨ai,Κ⟩;rw[a5 R] at Κ;have:=List.pairwise_iff_getElem.1 I (i-1) i R hi R;simp only[Option.getD_some] at Κ;omega
 ·unfold kl;simp;omega
theorem wY.err {L:List (List Int)} (h:wY L):oq L=0:=by
 unfold oq;have I:=h.lo;have U:=h.hi;rw[if_neg R,if_neg R];refine Bu λx γ=>?_;obtain⟨i,hi,rfl⟩:=List.mem_map.1 γ;have hi:=List.mem_range.1 hi;rw[a5 hi];obtain⟨_,ξ,Κ⟩:=h.each _ (List.getElem_mem hi);exact eΧ ξ Κ
abbrev bH:η:=.sl true 0 []
structure eΨ where
 k:Nat
 d:cB
 L:List (List Int)
theorem u6 {L:List (List Int)}:∀e∈L.map (a2 J 1),∀a∈e.cells,ay 0 a:=λe he a μ=>by
 obtain⟨x,_,rfl⟩:=List.mem_map.1 he;simp[η.cells] at μ;subst μ;simp[hh,η.cells]
theorem eΩ (d:cB) (hd:d.bg.length<2 ^ 63) (most cells:Nat) (iz:1<=most) (yO:most<=6) (FM:cells<=4) :
  ao Tryz.prog 90 [.an 0 1 0 0,J most,J cells] [b1 d] (λa s=>∃G L nc dP,cW a (.aV [aS G,aQ L,cy 4 (List.replicate nc bH)])/\pL G/\wY L/\(nc<=cells/\G.length<=most)/\s=b1 dP::.dead::.dead::.dead::bh 60 1 (List.replicate nc bH)/\dP.bg.length<=d.bg.length) (λ_ _=>False):=by
 refine ao.body Φ Tryz.func90 rfl rfl Tryz.ntmps90 rfl rfl θ ?_
 repeat apply ar
 refine dG (A:=[6]) Φ λΕ ζ=>bT ?_;apply ζ
 repeat apply ar
 refine dG (A:=[7]) Φ λΕ ζ=>bT ?_;refine u3.c (eΚ d hd most iz yO) 0 rfl (bS.refl _) θ (by rintro r ⟨l,rfl,_⟩;exact hh.2 ts) ?_;rintro r d1 ⟨G,rfl,c5,Kp⟩ ko;simp;(repeat (rw[Υ];simp[]));apply ζ;have fα:d1.bg.length<2 ^ 63:=R;obtain⟨pX,hP⟩:=yM d1 (a:=1) (b:=3) bD bD bD;obtain⟨nl,ph⟩:∃n:Nat,nO d1 1 3=n:=⟨(nO d1 1 3).toNat,R⟩;rw[ph] at pX hP;obtain⟨d2,ly⟩:=cZ (d1.after (IntKind.i64.wrap (3-1)));have FH:d2.bg.length<=d.bg.length:=by rw[<-ly];exact Nat.le_trans (lB _ _) ko
 have Χ:=yL d1 fα 1 3;rw[ph,ly] at Χ;refine bN λΕ ζ=>?_;refine ef.g (Χ) (bT ?_);apply ζ;have Kq:∀L:List (List Int),(cy 3 (L.map (a2 J 1))=.sl true 0 []/\bh 29 1 (L.map (a2 J 1))=[]/\L=[])\/(cy 3 (L.map (a2 J 1))=.ms 3 L.length 0 L.length/\bh 29 1 (L.map (a2 J 1))=[.cells 29 1 (L.map (a2 J 1))]/\0<L.length):=λL=>by
  by_cases Θ:L=[]
  ·subst Θ;exact .inl ⟨rfl,rfl,rfl⟩
  ·have gy:L.map (a2 J 1)≠[]:=by simpa using Θ
   exact .inr ⟨by rw[gH gy,List.length_map],ee gy,List.length_pos_iff.2 Θ⟩
 repeat apply ar
 refine W.iter (λx:eΨ=>x.L.length+x.k=nl/\x.d.bg.length<=d.bg.length/\∀l∈x.L,l.length<=3/\l.Pairwise (· < ·)/\∀y∈l,0<=y/\y<3)
  (λx=>[(0,.an 0 1 0 0),(2,J cells),(6,.an 1 1 0 0),(7,.an 2 1 0 0),(8,J x.k)])
  (λx=>b1 x.d::g1 bH bH bH::g1 (aS G) (cy 3 (x.L.map (a2 J 1))) bH::bh 29 1 (x.L.map (a2 J 1))) (λx=>x.k) ⟨nl,d2,[]⟩ ⟨θ,FH,θ⟩ rfl θ (λx γ Β=>?_)
 obtain⟨k,D,L⟩:=x;obtain⟨ς,m9,aG⟩:=γ;simp only at ς m9 aG Β ⊢;refine Ζ ?_;refine W.eM rfl (λε=>?_) (λε=>?_)
 ·have lC:0<k:=by simpa using ε
  obtain⟨j,δ⟩:∃j,k=j+1:=⟨k-1,R⟩;have hw:IntKind.i64.wrap ((k:Int)-1)=j:=by rw[IntWalk.i64_in _ R];omega
  have hi:=eπ D R
  have μ:=eΦ D 3
  have FN:=Rj D 3
  have EG:=Ri D 3;obtain⟨l,υ⟩:=cZ ((h8 D 3).1);obtain⟨j0,qN⟩:=cZ ((h8 D 3).2);rw[υ,qN] at hi;rw[υ] at μ FN;rw[qN] at EG;have qL:(L++[l]).length+j=nl/\j0.bg.length<=d.bg.length/\∀x∈L++[l],x.length<=3/\x.Pairwise (· < ·)/\∀y∈x,0<=y/\y<3:=by
   refine⟨by simp;omega,R,λx γ=>?_⟩;rcases List.mem_append.1 γ with γ|γ
   ·exact aG x γ
   ·simp at γ;subst γ;exact⟨FN,μ.1,μ.2⟩
  have bA:(L++[l]).map (a2 J 1)≠[]:=θ
  repeat apply ar
  rcases Kq L with⟨Δ,Γ,a0⟩|⟨Δ,Γ,a0⟩
  ·rw[Δ,Γ];refine W.Kc (A:=[25]) Φ mixed λΕ ζ=>?_;simp;(repeat (rw[pJ];simp[]));(try rw[pI]);refine ef.h (hi) (yK ?_);refine⟨jk (by kernel_rfl),jk (by kernel_rfl),ζ _ _ ?_⟩;refine aR hw ?_;subst a0;refine W.to (Β ⟨j,j0,[]++[l]⟩ qL (by show j<k;omega)) ?_ ?_
   ·have e:cy 3 (([]++[l]).map (a2 J 1))=.ms 3 1 0 1:=rfl
    have aM:bh 29 1 (([]++[l]).map (a2 J 1))=[.cells 29 1 [a2 J 1 l]]:=rfl;simp only[e,aM]
   ·simp
  ·rw[Δ,Γ];refine W.Kc (A:=[25]) Φ mixed λΕ ζ=>?_;simp;(repeat (rw[pJ];simp[]));(try rw[pI]);refine ef.h (hi) (yK ?_);refine⟨R,?_⟩;refine⟨jk (by kernel_rfl),jk (by kernel_rfl),ζ _ _ ?_⟩;refine aR hw ?_;refine W.to (Β ⟨j,j0,L++[l]⟩ qL (by show j<k;omega)) ?_ ?_
   ·have e:cy 3 ((L++[l]).map (a2 J 1))=.ms 3 (L.length+1) 0 (L.length+1):=by rw[gH bA,List.length_map,List.length_append];rfl
    have aM:bh 29 1 ((L++[l]).map (a2 J 1))=[.cells 29 1 (L.map (a2 J 1)++[a2 J 1 l])]:=by rw[ee bA,List.map_append];rfl
    simp only[e,aM]
   ·simp
 ·have lC:k=0:=by simp at ε;omega
  subst lC;have mW:L.length=nl:=R;have fβ:wY L:=⟨R,R,aG⟩;rcases Kq L with⟨Δ,Γ,a0⟩|⟨Δ,Γ,a0⟩
  ·subst a0;simp at mW;omega
  refine W.to (env':=[(0,.an 0 1 0 0),(2,J cells),(6,.an 1 1 0 0),(7,.an 2 1 0 0)]) (σ':=[b1 D,g1 bH bH bH,g1 (aS G) (.ms 3 L.length 0 L.length) bH,.cells 29 1 (L.map (a2 J 1))]) ?_ (by rw[Δ,Γ]) θ;clear Β ε Kq Δ Γ;refine W.exit rfl ?_;have wB:D.bg.length<2 ^ 63:=R;obtain⟨dD,eZ⟩:=yM D (a:=0) (b:=cells) R bD R;obtain⟨nc,sJ⟩:∃n:Nat,nO D 0 cells=n:=⟨(nO D 0 cells).toNat,R⟩;rw[sJ] at dD eZ;obtain⟨d3,Bw⟩:=cZ (D.after (IntKind.i64.wrap ((cells:Int)-0)));have Kl:d3.bg.length<=d.bg.length:=by rw[<-Bw];exact Nat.le_trans (lB _ _) m9
  have Χ:=yL D wB 0 cells;rw[sJ,Bw] at Χ;refine bN λΕ ζ=>?_;refine ef.g (Χ) (bT ?_);apply ζ
  repeat apply ar
  refine W.iter (λx:Nat×Nat=>x.1+x.2=nc)
   (λx=>[(0,.an 0 1 0 0),(6,.an 1 1 0 0),(7,.an 2 1 0 0),(9,J x.1)])
   (λx=>b1 d3::g1 bH bH bH::g1 (aS G) (.ms 3 L.length 0 L.length) (cy 4 (List.replicate x.2 bH))::.cells 29 1 (L.map (a2 J 1))::bh 60 1 (List.replicate x.2 bH)) (λx=>x.1) (nc,0) θ rfl θ (λx γ Β=>?_)
  obtain⟨k,c⟩:=x;simp only at γ Β ⊢;refine Ζ ?_;refine W.eM rfl (λε=>?_) (λε=>?_)
  ·have lC:0<k:=by simpa using ε
   obtain⟨j,δ⟩:∃j,k=j+1:=⟨k-1,R⟩;have hw:IntKind.i64.wrap ((k:Int)-1)=j:=by rw[IntWalk.i64_in _ R];omega
   have HF:cy 4 (List.replicate (c+1) bH)=.ms 4 (c+1) 0 (c+1):=by rw[gH θ,List.length_replicate]
   have AE:bh 60 1 (List.replicate (c+1) bH)=[.cells 60 1 (List.replicate c bH++[bH])]:=by rw[ee θ,List.replicate_succ']
   repeat apply ar
   by_cases Θ:c=0
   ·subst Θ;have p8:cy 4 (List.replicate 0 bH)=bH:=rfl;have ua:bh 60 1 (List.replicate 0 bH)=[]:=rfl;rw[p8,ua];refine dG (A:=[37]) Φ λΕ ζ=>bT ?_;apply ζ;refine aR hw ?_;refine W.to (Β (j,1) (by show j+1=nc;omega) (by show j<k;omega)) ?_ ?_
    ·simp only[HF,AE];rfl
    ·simp
   ·have p8:cy 4 (List.replicate c bH)=.ms 4 c 0 c:=by rw[gH (by simp[Θ]),List.length_replicate]
    have ua:bh 60 1 (List.replicate c bH)=[.cells 60 1 (List.replicate c bH)]:=ee (by simp[Θ]);rw[p8,ua];refine dG (A:=[37]) Φ λΕ ζ=>bT ?_;refine⟨R,?_⟩;apply ζ;refine aR hw ?_;refine W.to (Β (j,c+1) (by show j+(c+1)=nc;omega) (by show j<k;omega)) ?_ ?_
    ·simp only[HF,AE]
    ·simp
  ·have lC:k=0:=by simp at ε;omega
   have oY:c=nc:=R;subst oY;refine W.exit rfl ?_;obtain⟨C,hC⟩:=aF (cy 4 (List.replicate c bH));obtain⟨RC,FO⟩:=aF (bh 60 1 (List.replicate c bH));rw[<-hC,<-FO];have fγ:(C=bH/\RC=[])\/(C=.ms 4 c 0 c/\RC=[.cells 60 1 (List.replicate c bH)]):=by
    by_cases Θ:c=0
    ·subst Θ;exact .inl ⟨hC,FO⟩
    ·exact .inr ⟨by rw[hC,gH (by simp[Θ]),List.length_replicate],by rw[FO,ee (by simp[Θ])]⟩
   repeat apply ar
   refine W.fA (A:=[]) Φ [(6,.an 1 1 0 0)] (b1 d3::g1 (aS G) (.ms 3 L.length 0 L.length) C::g1 (aS G) (.ms 3 L.length 0 L.length) C::.cells 29 1 (L.map (a2 J 1))::RC) ?_ (by
    rcases fγ with⟨Δ,Γ⟩|⟨Δ,Γ⟩
    ·rw[Δ,Γ];(try simp);(repeat (rw[Υ];simp[]));(try simp[])
    ·rw[Δ,Γ];(try simp);(repeat (rw[Υ];simp[]));(try simp[]))
   have su:sa 3 1 (L.map (a2 J 1)) (.ms 3 L.length 0 L.length) (aQ L):=by
    have:=sa.ms (id:=3) (k:=1) (l:=L.map (a2 J 1))
    rwa [List.length_map] at this
   have cm:tu 3 1 (L.map (a2 J 1)) (g1 (aS G) (.ms 3 L.length 0 L.length) C) (g1 (aS G) (aQ L) C):=by
    refine .inr ⟨26,3,_,_,rfl,rfl,rfl,λi e aM I U=>?_⟩
    match i with
    | 0=>
     simp at I U;subst I;subst U;refine⟨rfl,λx a cn ξ Κ=>?_⟩
     match x with
     | 0=>simp[η.cells] at ξ Κ;subst ξ;subst Κ;exact .same _
     | 1=>simp[η.cells] at ξ Κ;subst ξ;subst Κ;exact su
     | 2=>simp[η.cells] at ξ Κ;subst ξ;subst Κ;exact .same _
     | x+3=>simp[η.cells] at ξ
    | i+1=>simp at I
   refine W.u5 (σ':=b1 d3::g1 (aS G) (aQ L) C::g1 (aS G) (aQ L) C::.dead::RC) (id:=3) θ rfl rfl rfl (λj r δ κ=>?_) [(6,.an 1 1 0 0)] (λp ψ=>by simp at ψ;subst ψ;exact .same _) ?_
   ·match j,δ,κ with
    | 0,_,κ=>simp at κ;subst κ;exact⟨_,rfl,.inl rfl⟩
    | 1,_,κ=>simp at κ;subst κ;exact⟨_,rfl,cm⟩
    | 2,_,κ=>simp at κ;subst κ;exact⟨_,rfl,cm⟩
    | 3,h,_=>exact absurd rfl h
    | j+4,_,κ=>exact⟨r,κ,.inl rfl⟩
   refine W.u5 (σ':=b1 d3::g1 (aS G) (aQ L) C::.dead::.dead::RC) (id:=2) θ rfl rfl rfl (λj r δ κ=>?_) [(6,.an 1 1 0 0)] (λp ψ=>by simp at ψ;subst ψ;exact .same _) ?_
   ·match j,δ,κ with
    | 0,_,κ=>exact⟨r,κ,.inl rfl⟩
    | 1,_,κ=>exact⟨r,κ,.inl rfl⟩
    | 2,h,_=>exact absurd rfl h
    | j+3,_,κ=>exact⟨r,κ,.inl rfl⟩
   refine W.u5 (σ':=b1 d3::.dead::.dead::.dead::RC) (id:=1) θ rfl rfl rfl (λj r δ κ=>?_) [(6,.ab [aS G,aQ L,C])] (λp ψ=>by simp at ψ;subst ψ;exact .an (e:=.aV [aS G,aQ L,C]) rfl) ?_
   ·match j,δ,κ with
    | 0,_,κ=>exact⟨r,κ,.inl rfl⟩
    | 1,h,_=>exact absurd rfl h
    | j+2,_,κ=>exact⟨r,κ,.inl rfl⟩
   refine W.ret ⟨_,rfl,?_⟩;refine⟨G,L,c,d3,?_,c5,fβ,⟨R,Kp⟩,by rw[FO],Kl⟩;rw[<-hC];exact .refl _
theorem fδ:∀a<64,∀b<64,0<=e4 .i64 (a:Nat) (b:Nat)/\e4 .i64 (a:Nat) (b:Nat)<=63/\0<=k7 .i64 (a:Nat) (b:Nat)/\k7 .i64 (a:Nat) (b:Nat)<=63/\e4 .i64 (b:Nat) (k7 .i64 (a:Nat) (b:Nat))=0:=by decide +kernel
theorem Kr {a b:Int} (μ:0<=a/\a<=63) (hb:0<=b/\b<=63):(0<=e4 .i64 a b/\e4 .i64 a b<=63)/\(0<=k7 .i64 a b/\k7 .i64 a b<=63)/\e4 .i64 b (k7 .i64 a b)=0:=by
 obtain⟨x,rfl⟩:∃x:Nat,a=x:=⟨a.toNat,R⟩;obtain⟨y,rfl⟩:∃y:Nat,b=y:=⟨b.toNat,R⟩;obtain⟨I,U,ξ,Κ,aE⟩:=fδ x R y R;exact⟨⟨I,U⟩,⟨ξ,Κ⟩,aE⟩
structure yS (n:Nat) (c:List eR):Prop where
 hi:c.length<=3
 apart:(c.map (·.cQ)).Nodup
 each:∀p∈c,(0<=p.cQ/\p.cQ<n)/\(0<=p.seen/\p.seen<=63)/\(0<=p.bare/\p.bare<=63)/\l7 p.seen p.bare=0
structure hX (s:aI):Prop where
 ag:pL s.ag
 ak:wY s.ak
 many:s.cells.length<=4
 cells:∀c∈s.cells,yS s.ak.length c
theorem yS.err {s:aI} {c:List eR} (h:yS s.ak.length c):qv s c=0:=by
 unfold qv;have:=h.hi;rw[if_neg R];refine Bu λx γ=>?_;obtain⟨i,hi,rfl⟩:=List.mem_map.1 γ;have hi:=List.mem_range.1 hi;rw[a5 hi];obtain⟨I,U,ξ,Κ⟩:=h.each _ (List.getElem_mem hi);simp only;unfold iv;rw[if_neg R,if_neg,if_neg (by unfold valid;simp;omega),if_pos Κ];intro μ;obtain⟨y,Ο,he⟩:=List.any_eq_true.1 μ;obtain⟨j,δ,rfl⟩:=List.mem_take_iff_getElem.1 Ο;have hd:=List.pairwise_iff_getElem.1 h.apart j i (by simp;omega) (by simpa using hi) R;simp at he hd;exact hd he
theorem hX.err {s:aI} (h:hX s):s.err=0:=by
 unfold aI.err;rw[h.ag.err,h.ak.err,if_neg θ,if_neg θ];unfold s5;have:=h.many;rw[if_neg R];refine Bu λx γ=>?_;obtain⟨i,hi,rfl⟩:=List.mem_map.1 γ;have hi:=List.mem_range.1 hi;rw[a5 hi];exact(h.cells _ (List.getElem_mem hi)).err
theorem hX.small {s:aI} (h:hX s):s.small:=by
 have I:=h.ag.hi
 have U:=h.ak.hi
 have ξ:=h.many;refine⟨R,R,R,λx γ=>?_,λx γ=>?_⟩
 ·have:=(h.ak.each x γ).1;omega
 ·have:=(h.cells x γ).hi;omega
theorem fε (d:cB) (hd:d.bg.length<2 ^ 63) (most cells:Nat) (iz:1<=most) (yO:most<=6) (FM:cells<=4) {σ:List Row} {K E:η->List Row->Prop} (ai:σ[0]?=some (b1 d))
  (ζ:∀G L nc dP,pL G->wY L->nc<=cells/\G.length<=most->dP.bg.length<=d.bg.length->K (.aV [aS G,aQ L,cy (σ.length+3) (List.replicate nc bH)]) (σ.set 0 (b1 dP)++(.dead::.dead::.dead::bh 60 1 (List.replicate nc bH)))) :
  hE Tryz.prog (.fn (.func 90) [] []) [.an 0 1 0 0,J most,J cells] σ K E:=by
 have ψ:∀nc,∀r∈bh 60 1 (List.replicate nc bH),Am r:=λnc r κ=>by
  unfold bh at κ;split at κ
  ·cases κ
  ·simp at κ;subst κ;refine .inl λe he a μ=>?_;have:=List.eq_of_mem_replicate he;subst this;simp[η.cells] at μ;subst μ;simp[hh]
 have I:=ao.nD (eΩ d hd most cells iz yO FM) (bS.refl _) (K':=λa s=>∃G L nc dP,a=.aV [aS G,aQ L,cy 4 (List.replicate nc bH)]/\pL G/\wY L/\(nc<=cells/\G.length<=most)/\s=b1 dP::.dead::.dead::.dead::bh 60 1 (List.replicate nc bH)/\dP.bg.length<=d.bg.length) (λa s ⟨G,L,nc,dP,I,U⟩=>⟨_,I,G,L,nc,dP,rfl,U⟩)
 have aY:=ao.Om (σ:=σ) I [0] θ rfl (λj i δ=>by
  cases j with
  | zero=>simp at δ;subst δ;exact ai
  | succ j=>simp at δ) (λr κ=>by simp at κ;subst κ;exact pH d) (by
   intro a μ;simp at μ;rcases μ with rfl|rfl|rfl
   ·exact Nat.zero_lt_one
   ·exact(ay.z _).iU 1
   ·exact(ay.z _).iU 1) (K':=K) (E':=E) (λa s=>by
   rintro⟨G,L,nc,dP,rfl,Τ,af,aZ,rfl,cA⟩;refine⟨λr κ=>?_,?_,?_⟩
   ·simp only[List.mem_cons] at κ;rcases κ with rfl|rfl|rfl|rfl|κ
    ·exact .inl (pH dP)
    ·exact .inr rfl
    ·exact .inr rfl
    ·exact .inr rfl
    ·exact ψ nc r κ
   ·intro a μ;simp only[List.mem_cons,List.not_mem_nil,or_false] at μ;rcases μ with rfl|rfl|rfl
    ·exact ay.top (hh.2 ts) _
    ·exact ay.top (hh.2 u6) _
    ·unfold cy bh;split
     ·exact ay.top θ _
     ·show 4<_;simp
   ·have Δ:sW σ [0] (b1 dP::.dead::.dead::.dead::bh 60 1 (List.replicate nc bH))=σ.set 0 (b1 dP)++(.dead::.dead::.dead::bh 60 1 (List.replicate nc bH)):=by
     simp[sW,iQ]
    have Γ:ed (names [0] σ.length (b1 dP::.dead::.dead::.dead::bh 60 1 (List.replicate nc bH))) (.aV [aS G,aQ L,cy 4 (List.replicate nc bH)])=.aV [aS G,aQ L,cy (σ.length+3) (List.replicate nc bH)]:=by
     by_cases Θ:nc=0
     ·subst Θ;rfl
     ·rw[gH (by simp[Θ]),gH (by simp[Θ]),ee (by simp[Θ])];show η.aV [_,_,_]=_;simp[h4,names,List.range_succ]
    rw[Δ,Γ];exact ζ G L nc dP Τ af aZ cA) (λa s h=>h.elim)
 exact ao.call (first:=[]) (captured:=[]) (by simpa[oi,ed,h4] using aY)
section
variable {P:Program} {m nt:Nat} {k:List Item} {env:aa} {σ:List Row} {Z:List Item->aa->List Row->Prop} {E:η->aa->List Row->Prop}
theorem W.bind {RE:List Item->aa->List Row->Prop} (h:W P m nt k env σ RE E) (U:∀j e s,RE j e s->W P m nt j e s Z E):W P m nt k env σ Z E:=
 λQ mn x cs b S B H t γ hb ψ Θ he=>h Q mn x cs b S B H t γ hb ψ
  (λj e s aA B' H' t' ae p8 μ gf ς=>by
   cases ς;exact U j e s p8 Q mn x cs b aA B' H' t' γ hb gf (λfζ Γ s2 c0 fc bQ t2 cJ q9 bk=>Θ fζ Γ s2 c0 fc bQ t2 cJ q9 (μ.trans bk)) (λbk Γ s2 c0 fc bQ t2 cJ v2 q9 sC=>he bk Γ s2 c0 fc bQ t2 cJ v2 q9 (μ.trans sC)))
  he
theorem W.upto {a:Item} (env':aa) (σ':List Row) (I:W P m nt (a::k) env σ (λj e s=>j=k/\s=σ'/\∀p∈env',a6 e p.1=p.2) E) (U:W P m nt k env' σ' Z E):W P m nt (a::k) env σ Z E:=
 .bind I λj e s ⟨δ,ν,he⟩=>by
  subst δ;subst ν;exact .forget env' he U
theorem W.sb {a:Item} {l:Nat} (env':aa) (σ':List Row) (I:W P m nt (a::.inBlock l::k) env σ (λj e s=>j=k/\s=σ'/\∀p∈env',a6 e p.1=p.2) E) (U:W P m nt k env' σ' Z E):W P m nt (a::.inBlock l::k) env σ Z E:=
 .bind I λj e s ⟨δ,ν,he⟩=>by
  subst δ;subst ν;exact .forget env' he U
end
section
variable {α:Type} [Inhabited α]
theorem BC (enc:α->η) (d:Array α) {i:Nat} (h:i<d.size):(d.toList.map enc)[i]?=some (enc d[i]!):=by
 rw[List.getElem?_map,Array.getElem?_toList,sX h];rfl
theorem j1 (enc:α->η) {d:Array α} {n:Nat} (Η:d.size=n) {i j:Nat} (hi:i<n) (δ:j<n):∃(L:List η) (x y:α),d.toList.map enc=L/\d[i]! = x/\d[j]! = y/\L.length=n/\(L[i]?=some (enc x)/\∀h,L[i]'h=enc x)/\(L[j]?=some (enc y)/\∀h,L[j]'h=enc y)/\(Go.Sort.swp d i j).toList.map enc=(L.set i (enc y)).set j (enc x)/\∃z,∀h,(L.set i (enc y))[j]'h=enc z:=by
 subst Η;refine⟨_,_,_,rfl,rfl,rfl,θ,⟨BC enc d hi,λh=>?_⟩,⟨BC enc d δ,λh=>?_⟩,by simp[Go.Sort.swp],if i=j then d[j]! else d[j]!,λh=>?_⟩
 ·have:=BC enc d hi;rw[a5 h] at this;exact Option.some.inj this
 ·have:=BC enc d δ;rw[a5 h] at this;exact Option.some.inj this
 ·rw[List.getElem_set,ite_self];split
  ·rfl
  ·have:=BC enc d δ;rw[a5 (by simpa using h)] at this;exact Option.some.inj this
theorem swp_size {d:Array α} {n:Nat} (Η:d.size=n) (i j:Nat):(Go.Sort.swp d i j).size=n:=by simp[Go.Sort.swp,Η]
theorem BD (p q:α->Bool) (Ψ:∀x,q x = !p x) (d:Array α) {i j bb aN:Nat} (ai:0<i) (fP:i<=j+1) (fx:Go.Sort.scanUp p d j i=bb) (dp:Go.Sort.scanDown q d bb j=aN):i<=bb/\bb<=j+1/\aN<=j/\bb<=aN+1/\(bb<=aN->bb<aN):=by
 obtain⟨eF,ei,lΚ,RF⟩:=Go.Sort.scanUp_spec p d j _ i rfl;obtain⟨v1,v2,wO,v4⟩:=Go.Sort.scanDown_spec q d bb j;rw[fx] at eF ei RF;rw[dp] at v1 v2 v4;refine⟨eF,ei fP,v1,v2 (ei fP),λh=>?_⟩;rcases Nat.lt_or_ge bb aN with cU|cU
 ·exact cU
 ·have e:bb=aN:=by omega
  have f1:=RF R
  have f2:=v4 h R;rw[Ψ,<-e,f1] at f2;cases f2
theorem fη (lt:α->α->Bool) {a b n:Nat}:∀(m i j:Nat) (g:Array α),j+1-i<=m->g.size=n->0<i->i<=j+1->j<b->(Go.Sort.partLoop lt a i j g).2.size=n/\(Go.Sort.partLoop lt a i j g).1<b:=by
 intro m
 induction m with
 | zero=>
  intro i j g hm Ρ ai fP δ;rw[Go.Sort.partLoop_eq];obtain⟨bb,fx⟩:=cZ (Go.Sort.scanUp (λx=>lt x g[a]!) g j i);obtain⟨aN,dp⟩:=cZ (Go.Sort.scanDown (λx=>!lt x g[a]!) g bb j);obtain⟨s1,s2,oN,vj,oO⟩:=BD (λx=>lt x g[a]!) (λx=>!lt x g[a]!) (λx=>rfl) g ai fP fx dp;rw[fx,dp,if_pos (by apply Classical.byContradiction;intro h;have:=oO R;omega)];exact⟨Ρ,by show aN<b;omega⟩
 | succ m Β=>
  intro i j g hm Ρ ai fP δ;rw[Go.Sort.partLoop_eq];obtain⟨bb,fx⟩:=cZ (Go.Sort.scanUp (λx=>lt x g[a]!) g j i);obtain⟨aN,dp⟩:=cZ (Go.Sort.scanDown (λx=>!lt x g[a]!) g bb j);obtain⟨s1,s2,oN,vj,oO⟩:=BD (λx=>lt x g[a]!) (λx=>!lt x g[a]!) (λx=>rfl) g ai fP fx dp;rw[fx,dp];by_cases ε:bb > aN
  ·rw[if_pos ε];exact⟨Ρ,by show aN<b;omega⟩
  ·rw[if_neg ε];have:=oO R;exact Β (bb+1) (aN-1) _ R (swp_size Ρ bb aN) R R R
theorem fθ (lt:α->α->Bool) (hi first r:Nat) (e:Array α) {c k:Nat} (ε:c=2*r+1) (h:c<hi) (ς:k=if(decide (c+1<hi)&&lt e[first+c]! e[first+(c+1)]!)=true then c+1 else c) :
  Go.Sort.siftDown lt hi first r e=if(!lt e[first+r]! e[first+k]!)=true then e else Go.Sort.siftDown lt hi first k (Go.Sort.swp e (first+r) (first+k)):=by
 subst ε;rw[Go.Sort.siftDown,dif_neg R];have Δ:first+(2*r+1)+1=first+(2*r+1+1):=R
 have Γ:2*r+2=2*r+1+1:=R;by_cases b:(decide (2*r+1+1<hi)&&lt e[first+(2*r+1)]! e[first+(2*r+1+1)]!)=true
 ·rw[if_pos b] at ς;subst ς;rw[Δ,Γ,if_pos b];have aY:2*r+1+1<hi:=by simp at b;exact b.1
  simp only[dif_pos aY]
 ·rw[if_neg b] at ς;subst ς;rw[Δ,if_neg b]
theorem Ks {lt:α->α->Bool} {hi first n:Nat}:∀{r:Nat} {e:Array α},e.size=n->(Go.Sort.siftDown lt hi first r e).size=n:=by
 have key:∀(m r:Nat) (e:Array α),hi-r<=m->e.size=n->(Go.Sort.siftDown lt hi first r e).size=n:=by
  intro m
  induction m with
  | zero=>
   intro r e hm he;rw[Go.Sort.siftDown,dif_pos R];exact he
  | succ m Β=>
   intro r e hm he;rw[Go.Sort.siftDown];split
   ·exact he
   ·split
    ·split
     ·exact he
     ·split
      ·exact Β _ _ R (swp_size he _ _)
      ·exact he
    ·split
     ·exact he
     ·exact Β _ _ R (swp_size he _ _)
 intro r e he;exact key _ r e (Nat.le_refl _) he
theorem RG {lt:α->α->Bool} {hi first n:Nat}:∀{k:Nat} {e:Array α},e.size=n->(Go.Sort.heapBuild lt hi first k e).size=n
 | 0,_,he=>he
 | k+1,e,he=>by
  show(Go.Sort.heapBuild lt hi first k (Go.Sort.siftDown lt hi first k e)).size=n;exact RG (Ks he)
theorem Kt (lt:α->α->Bool) (d:Array α) {a b n:Nat} (μ:a<n) (hb:b<n) (s:Nat):(Go.Sort.order2 lt d a b s).1<n/\(Go.Sort.order2 lt d a b s).2.1<n/\(Go.Sort.order2 lt d a b s).2.2<=s+1:=by
 unfold Go.Sort.order2;split
 ·exact⟨hb,μ,Nat.le_refl _⟩
 ·exact⟨μ,hb,Nat.le_succ _⟩
theorem Ku (p:α->Bool) (d:Array α) {i j:Nat} (h:j<i):Go.Sort.scanDown p d i j=j:=by
 cases j with
 | zero=>rfl
 | succ j=>rw[Go.Sort.scanDown,if_neg (by simp;omega)]
end
structure fι (α:Type) where
 a:Nat
 b:Nat
 lim:Nat
 wb:Bool
 wp:Bool
 e:Array α
def yT {α:Type} [Inhabited α] (a l m:Nat):Nat->Nat->UInt64×Array α->UInt64×Array α
 | 0,_,st=>st
 | k+1,idx,st=>yT a l m k (idx+1) (Go.Sort.breakStep a l m st idx)
theorem fκ {α:Type} [Inhabited α] {d:Array α} {a b l c:Nat} (υ:l=b-a) (n0:8<=l) (ε:c=a+(l / 4)*2):Go.Sort.breakPatterns d a b=(yT a l (1 <<< Go.Sort.bitsLen l) 3 (c-1) (UInt64.ofNat l,d)).2:=by
 subst υ;subst ε;unfold Go.Sort.breakPatterns;simp only[ge_iff_le,n0,if_true];rfl
abbrev oG (n:Int):η:=.z (.int .u64 n)
def yU:Go.Sort.Hint->Int
 | .unknown=>0
 | .increasing=>1
 | .decreasing=>2
theorem RH {α:Type} {enc:α->η} {t k:Nat} {d:Array α} {r2:Row} (hb:∀y,∀a∈(enc y).cells,ay 0 a) (id:Nat) (r:Row) (b0:id<1) (κ:[Row.cells t k (d.toList.map enc),r2][id]?=some r):eW 1 r:=by
 obtain rfl:id=0:=R;simp at κ;subst κ;intro e he a μ;obtain⟨y,_,rfl⟩:=List.mem_map.1 he;exact ay.mono (hb y a μ) (Nat.zero_le _)
theorem fμ {l m:Nat} (h:l<2 ^ 62):IntKind.i64.wrap (Int.tdiv (l:Int) (m:Int))=((l / m:Nat):Int):=by
 rw[Int.tdiv_eq_ediv_of_nonneg R];have I:l / m<=l:=Nat.div_le_self l m;have U:((l:Int) / (m:Int))=((l / m:Nat):Int):=rfl;rw[U];obtain⟨q,Ψ⟩:=aF (l / m);rw[<-Ψ] at I ⊢;rw[IntWalk.i64_in _ R]
theorem FP {l m:Nat} (h:l<2 ^ 62):IntKind.i64.wrap ((l:Int) / (m:Int))=((l / m:Nat):Int):=by
 have:=fμ (m:=m) h;rw[Int.tdiv_eq_ediv_of_nonneg R] at this;exact this
theorem yV {x:Nat} (h:x<2 ^ 64):IntKind.u64.wrap (x:Int)=(x:Int):=by
 unfold IntKind.wrap;simp[IntKind.bits,IntKind.signed];omega
theorem Kv {x y:Nat} (γ:x<2 ^ 64) (Ο:y<2 ^ 64):zS .u64 (x:Int) (y:Int)=((x^^^y:Nat):Int):=by
 have h:x^^^y<2 ^ 64:=Nat.xor_lt_two_pow γ Ο
 have e:(BitVec.ofInt 64 (x:Int)^^^BitVec.ofInt 64 (y:Int)).toNat=x^^^y:=by
  rw[BitVec.toNat_xor,BitVec.ofInt_natCast,BitVec.ofInt_natCast,BitVec.toNat_ofNat,BitVec.toNat_ofNat,Nat.mod_eq_of_lt γ,Nat.mod_eq_of_lt Ο]
 show IntKind.u64.wrap (BitVec.ofInt 64 (x:Int)^^^BitVec.ofInt 64 (y:Int)).toNat=_;rw[e];exact yV h
theorem Kw (x k:Nat) (ς:k<=64):IntKind.u64.wrap ((x:Int)*2 ^ min k IntKind.u64.bits)=((x*2 ^ k % 18446744073709551616:Nat):Int):=by
 have e:min k IntKind.u64.bits=k:=Nat.min_eq_left ς;rw[e];have Γ:(x:Int)*2 ^ k=((x*2 ^ k:Nat):Int):=θ;rw[Γ];obtain⟨y,Ο⟩:=aF (x*2 ^ k);rw[<-Ο];unfold IntKind.wrap;simp[IntKind.bits,IntKind.signed]
theorem fν (x k:Nat) (ς:k<=64):(x:Int).fdiv (2 ^ min k IntKind.u64.bits)=((x / 2 ^ k:Nat):Int):=by
 have e:min k IntKind.u64.bits=k:=Nat.min_eq_left ς;rw[e,Int.fdiv_eq_ediv_of_nonneg _ (Int.le_of_lt (Int.pow_pos bD))];simp
theorem fξ {x y:Nat} (γ:x<2 ^ 64) (Ο:y<2 ^ 64):e4 .u64 (x:Int) (y:Int)=((x&&&y:Nat):Int):=by
 have h:x&&&y<2 ^ 64:=Nat.lt_of_le_of_lt Nat.and_le_left γ
 have e:(BitVec.ofInt 64 (x:Int)&&&BitVec.ofInt 64 (y:Int)).toNat=x&&&y:=by
  rw[BitVec.toNat_and,BitVec.ofInt_natCast,BitVec.ofInt_natCast,BitVec.toNat_ofNat,BitVec.toNat_ofNat,Nat.mod_eq_of_lt γ,Nat.mod_eq_of_lt Ο]
 show IntKind.u64.wrap (BitVec.ofInt 64 (x:Int)&&&BitVec.ofInt 64 (y:Int)).toNat=_;rw[e];exact yV h
theorem oH {i:Nat} (h:0<i) (U:i<2 ^ 62):IntKind.i64.wrap ((i:Int)-1)=((i-1:Nat):Int):=by
 rw[IntWalk.i64_in _ R];omega
theorem iC {i:Nat} (U:i<2 ^ 61):IntKind.i64.wrap ((i:Int)+1)=((i+1:Nat):Int):=by
 rw[IntWalk.i64_in _ R];omega
theorem Kx {a b:Nat} (h:a<=b) (U:b<2 ^ 62):IntKind.i64.wrap ((b:Int)-a)=((b-a:Nat):Int):=by
 rw[IntWalk.i64_in _ R];omega
theorem fο:∀a<64,∀b<64,(k7 .i64 (a:Nat) (b:Nat)=0↔e4 .i64 (b:Nat) (a:Nat)=(a:Nat))/\0<=rj .i64 (a:Nat) (b:Nat)/\rj .i64 (a:Nat) (b:Nat)<=63:=by decide +kernel
theorem FQ {a b:Int} (μ:0<=a/\a<=63) (hb:0<=b/\b<=63):(k7 .i64 a b=0↔e4 .i64 b a=a)/\0<=rj .i64 a b/\rj .i64 a b<=63:=by
 obtain⟨x,rfl⟩:∃x:Nat,a=x:=⟨a.toNat,R⟩;obtain⟨y,rfl⟩:∃y:Nat,b=y:=⟨b.toNat,R⟩;exact fο x R y R
theorem Ky {s:aI} (h:hX s) {g:Int}:0<=s.of g/\s.of g<=63:=by
 unfold aI.of;split
 ·omega
 ·cases Ρ:s.ag[g.toNat]? with
  | none=>simp
  | some x=>
   obtain⟨_,a,b⟩:=h.ag.each x (cr Ρ);simp;omega
theorem Kz {s:aI} (h:hX s) (p r:Int×Int) (n:Nat):0<=s.dU p r n/\s.dU p r n<=63:=by
 have a:∀g,0<=pf 0 (s.of g)/\pf 0 (s.of g)<=63:=λg=>(FQ (a:=0) R (Ky h)).2
 have z:(0:Int)<=0/\(0:Int)<=63:=R;unfold aI.dU;simp only;split
 ·split
  ·exact(FQ (a r.1) (Ky h)).2
  ·exact(FQ z (Ky h)).2
 ·split
  ·exact a r.1
  ·exact z
def aI.KA (s:aI) (p r:Int×Int) (x:eR):Bool:=decide (l7 (s.dU p r x.cQ.toNat) x.seen=x.seen)&&decide (l7 (s.dU p r x.cQ.toNat) x.bare=0)
theorem fπ {s:aI} (h:hX s) (p r:Int×Int) {c:List eR} (ε:c∈s.cells) {x:eR} (γ:x∈c):s.KA p r x=s.jS p r x:=by
 obtain⟨_,U,_,_⟩:=(h.cells c ε).each x γ;have:=(FQ U (Kz h p r x.cQ.toNat)).1;unfold aI.KA aI.jS;rw[Bool.eq_iff_iff];simp only[Bool.and_eq_true,decide_eq_true_eq,beq_iff_eq];rw[this]
theorem fρ {s:aI} (h:hX s) {p r:Int×Int} (ψ:0<=p.2/\p.2<p.1/\p.1<=2) (I:-1<=r.1/\r.1<s.ag.length) (U:-1<=r.2/\r.2<s.ag.length) {l:Int} (υ:0<=l/\l<s.ak.length):oF s [p.1,p.2] [r.1,r.2] l=(s.dU p r l.toNat,0):=by
 have Δ:kl p.1=true:=by unfold kl;simp;omega
 have Γ:kl p.2=true:=by unfold kl;simp;omega
 have Τ:s.hK r.1=false:=by unfold aI.hK;simp;omega
 have af:s.hK r.2=false:=by unfold aI.hK;simp;omega
 unfold oF;rw[h.err];simp only[ne_eq,not_true_eq_false,if_false];rw[if_neg (by rw[Δ,Γ,Τ,af];simp;omega),if_neg R]
theorem fς (s:aI) (h:hX s) (p r:Int×Int) (ψ:0<=p.2/\p.2<p.1/\p.1<=2) (I:-1<=r.1/\r.1<s.ag.length) (U:-1<=r.2/\r.2<s.ag.length) (c:Nat) (ε:c<s.cells.length) :
  aD Tryz.prog 96 [fs s,J c,a2 J 1 [p.1,p.2],a2 J 1 [r.1,r.2]] (.bw [bm (s.nF p r c),bm true]):=by
 have bX:=a5 ε
 have lZ:=List.getElem_mem ε
 have BE:s.nF p r c=(s.cells[c]).all (s.jS p r):=by unfold aI.nF;rw[bX];rfl
 obtain⟨l,υ⟩:=aF (s.cells[c]);rw[BE,<-υ];rw[<-υ] at bX lZ;have rC:∀h,s.cells[c]'h=l:=λh=>υ.symm;have OL:l.length<=3:=(h.cells l lZ).hi;clear BE υ;refine ao.body Φ Tryz.func96 rfl rfl Tryz.ntmps96 rfl rfl θ ?_;refine Ζ ?_;refine W.iter (λi:Nat=>i<=l.length/\∀j,j<i->(δ:j<l.length)->s.jS p r l[j]=true) (λi=>[(1,J c),(2,a2 J 1 [p.1,p.2]),(3,a2 J 1 [r.1,r.2]),(4,.ab [aS s.ag,aQ s.ak,bl s.cells]),(10,J i)]) (λ_=>[]) (λi=>l.length-i) 0 ⟨Nat.zero_le _,λj δ=>R⟩ rfl θ (λi hi Β=>?_);obtain⟨oe,oI⟩:=hi;refine aR (Μ bX (Μ rC ε)) ?_;by_cases aB:i<l.length
 ·refine al (by simp[aB]) ?_;have hy:=a5 aB;obtain⟨x,γ⟩:=aF (l[i]);have wj:x∈l:=γ▸List.getElem_mem aB;rw[<-γ] at hy;have fτ:∀h,l[i]'h=x:=λh=>γ.symm;obtain⟨e3,eK,iO,sK⟩:=(h.cells l lZ).each x wj;have hv:=J7 s h.small [p.1,p.2] [r.1,r.2] x.cQ;rw[fρ h ψ I U e3] at hv;have Χ:=fπ h p r lZ wj;obtain⟨n,Η⟩:=aF (s.dU p r x.cQ.toNat);rw[<-Η] at hv;unfold aI.KA at Χ;rw[<-Η] at Χ;have hw:=iC (i:=i) R
  repeat apply ar
  refine dG (A:=[11]) Φ λΕ ζ=>gQ (Μ bX (Μ rC (Μ ε (Μ hy (Μ fτ aB))))) ?_;apply ζ;refine W.fix (id:=0) (σ':=[]) (Nat.zero_le _) rfl θ θ rfl [(1,J c),(2,a2 J 1 [p.1,p.2]),(3,a2 J 1 [r.1,r.2]),(4,.ab [aS s.ag,aQ s.ak,bl s.cells]),(10,J i),(11,.ab [J x.cQ,J x.seen,J x.bare])] θ ?_;refine bN λΕ ζ=>?_;refine aD.d (hv) (bT ?_);apply ζ;refine Ζ ?_;refine aj rfl ?_
  repeat apply ar
  refine W.sQ (A:=[]) Φ [(56,bm (!s.jS p r x)),(1,J c),(2,a2 J 1 [p.1,p.2]),(3,a2 J 1 [r.1,r.2]),(4,.ab [aS s.ag,aQ s.ak,bl s.cells]),(10,J i)] ?_ (by
   rw[<-Χ];by_cases bJ:l7 n x.seen=x.seen<;>by_cases c8:l7 n x.bare=0<;>simp[Υ,qi,bJ,c8])
  cases Ψ:s.jS p r x
  ·refine al rfl ?_;refine Ζ ?_;refine W.ret ⟨_,rfl,?_,rfl⟩;have:l.all (s.jS p r)=false:=List.all_eq_false.2 ⟨x,wj,by rw[Ψ];simp⟩;rw[this];exact .of rfl
  ·refine aj rfl ?_;refine aR hw ?_;refine W.to (Β (i+1) ⟨aB,λj δ hF=>?_⟩ R) rfl θ;by_cases e:j=i
   ·subst e;rw[<-γ];exact Ψ
   ·exact oI j R hF
 ·refine aj (by simp[aB]) ?_;refine W.exit rfl ?_;refine Ζ ?_;refine W.ret ⟨_,rfl,?_,rfl⟩;have:l.all (s.jS p r)=true:=List.all_eq_true.2 λx γ=>by
   obtain⟨j,δ,rfl⟩:=List.getElem_of_mem γ;exact oI j R δ
  rw[this];exact .of rfl
abbrev Γ (r:Int×Int):η:=eS [r.1,r.2]
def nQ (s:aI) (p:Int×Int) (c:Nat):η:=fM 1 ((ev s p c).map Γ)
theorem KB {L:List (Int×Int)}:∀e∈L.map Γ,∀a∈e.cells,ay 0 a:=λe he a μ=>by
 obtain⟨x,_,rfl⟩:=List.mem_map.1 he;simp[η.cells] at μ;subst μ;simp
theorem fυ {s:aI} {p:Int×Int} {l:List Nat}:∀e∈l.map (nQ s p),∀a∈e.cells,ay 0 a:=λe he a μ=>by
 obtain⟨x,_,rfl⟩:=List.mem_map.1 he;unfold nQ fM at μ;split at μ<;>simp[η.cells] at μ<;>subst μ<;>simp
theorem RI (q:Int×Int->Bool) (n i j:Nat):(h6 q n i j).length<=i*(n+1)+j:=by
 have h:(ow n i).length=i*(n+1):=by
  induction i with
  | zero=>simp[ow]
  | succ i Β=>rw[IP,List.length_append,Β,Nat.succ_mul];simp[l8]
 unfold h6;refine Nat.le_trans (List.length_filter_le _ _) ?_;rw[List.length_append,h];simp[l8]
abbrev mg (l:List (List (List Int))):η:=a2 aQ 1 l
abbrev h9 (l:List (Int×Int)):List (List Int):=l.map λr=>[r.1,r.2]
theorem fφ (s:aI) (h:hX s) (p:Int×Int) (ψ:0<=p.2/\p.2<p.1/\p.1<=2) :
  aD Tryz.prog 41 [fs s,a2 J 1 [p.1,p.2]] (.bw [mg ((List.range s.cells.length).map λc=>h9 (ev s p c)),bm true]):=by
 refine ao.body Φ Tryz.func41 rfl rfl Tryz.ntmps41 rfl rfl θ ?_;refine Ζ ?_;have gW:=h.many;have RJ:=h.ag.hi;refine W.iter (λc:Nat=>c<=s.cells.length) (λc=>[(1,a2 J 1 [p.1,p.2]),(2,.ab [aS s.ag,aQ s.ak,bl s.cells]),(6,eu ((List.range c).map (nQ s p))),(7,J c)]) (λc=>bh 23 1 ((List.range c).map (nQ s p))) (λc=>s.cells.length-c) 0 (Nat.zero_le _) rfl (by simp[ps]) (λc ε Β=>?_);obtain⟨O,cO⟩:=aF ((List.range c).map (nQ s p));have RK:∀e∈O,∀a∈e.cells,ay 0 a:=by rw[cO];exact fυ
 refine W.to (σ':=bh 23 1 O) (env':=[(1,a2 J 1 [p.1,p.2]),(2,.ab [aS s.ag,aQ s.ak,bl s.cells]),(6,eu O),(7,J c)]) ?_ (by rw[cO]) (by rw[cO];simp);refine Ζ ?_;by_cases bX:c<s.cells.length
 ·refine al (by simp[bX]) ?_;obtain⟨n,Η⟩:=aF s.ag.length;obtain⟨q,Ψ⟩:=aF (λr=>s.nF p r c:Int×Int->Bool);obtain⟨k,ς⟩:=aF ((bh 23 1 O).length);have hw:=iC (i:=c) R;refine Ζ ?_;refine W.iter (λi:Nat=>i<=n+1) (λi=>[(1,a2 J 1 [p.1,p.2]),(2,.ab [aS s.ag,aQ s.ak,bl s.cells]),(6,eu O),(7,J c),(8,cy k ((h6 q n i 0).map Γ)),(9,J ((i:Int)-1))])
   (λi=>bh 23 1 O++bh 29 1 ((h6 q n i 0).map Γ)) (λi=>n+1-i) 0 (Nat.zero_le _) (by rw[IQ];simp[iW]) (by rw[IQ];simp[cy]) (λi hi gk=>?_)
  refine Ζ ?_;by_cases bq:i<n+1
  ·refine al (by simp[<-Η];omega) ?_;refine Ζ ?_;refine W.iter (λj:Nat=>j<=n+1) (λj=>[(1,a2 J 1 [p.1,p.2]),(2,.ab [aS s.ag,aQ s.ak,bl s.cells]),(6,eu O),(7,J c),(8,cy k ((h6 q n i j).map Γ)),(9,J ((i:Int)-1)),(10,J ((j:Int)-1))])
    (λj=>bh 23 1 O++bh 29 1 ((h6 q n i j).map Γ)) (λj=>n+1-j) 0 (Nat.zero_le _) rfl θ (λj δ kr=>?_)
   refine Ζ ?_;by_cases e0:j<n+1
   ·refine al (by simp[<-Η];omega) ?_;have ll:=fV (show j<2 ^ 62 by omega);have Χ:=fς s h p ((i:Int)-1,(j:Int)-1) ψ (by simp;omega) (by simp;omega) c bX;have IV:s.nF p ((i:Int)-1,(j:Int)-1) c=q ((i:Int)-1,(j:Int)-1):=by rw[Ψ]
    rw[IV] at Χ;have dO:=OX (q:=q) (n:=n) (i:=i) (j:=j);obtain⟨M,dm⟩:=aF (h6 q n i j);refine W.to (σ':=bh 23 1 O++bh 29 1 (M.map Γ)) (env':=[(1,a2 J 1 [p.1,p.2]),(2,.ab [aS s.ag,aQ s.ak,bl s.cells]),(6,eu O),(7,J c),(8,cy k (M.map Γ)),(9,J ((i:Int)-1)),(10,J ((j:Int)-1))]) ?_ (by rw[dm]) (by rw[dm];simp);refine bN λΕ ζ=>?_;refine aD.c Χ (bS.cons (.refl _) (.cons (.refl _) (.cons (.refl _) (.cons .ex .nil)))) θ θ ?_;simp;(repeat (rw[Υ];simp[]));apply ζ;refine Ζ ?_;refine aj rfl ?_;refine Ζ ?_;cases AH:q ((i:Int)-1,(j:Int)-1)
    ·refine aj rfl ?_;refine aR ll ?_;rw[AH] at dO;refine W.to (kr (j+1) R R) ?_ ?_
     ·rw[dO,dm];simp
     ·rw[dO,dm];simp
    ·refine al rfl ?_;rw[AH] at dO
     repeat apply ar
     refine W.fA (A:=[52]) Φ [(1,a2 J 1 [p.1,p.2]),(2,.ab [aS s.ag,aQ s.ak,bl s.cells]),(6,eu O),(7,J c),(8,cy k ((M++[((i:Int)-1,(j:Int)-1)]).map Γ)),(9,J ((i:Int)-1)),(10,J ((j:Int)-1))] (bh 23 1 O++bh 29 1 ((M++[((i:Int)-1,(j:Int)-1)]).map Γ)) ?_ (by
      have KC:M.length<=4294967295:=by
       have I:=RI q n i j
       have U:i*(n+1)<=7*7:=Nat.mul_le_mul R R;rw[dm];omega
      clear kr gk Β;by_cases Θ:M=[]
      ·subst Θ;simp only[List.map_nil,iW,List.append_nil,show cy k []=.sl true 0 [] from rfl];simp;(repeat (rw[Υ];simp[]));(try simp[cy,bh,ς])
      ·have kW:M.map Γ≠[]:=by simpa using Θ
       rw[gH kW,ee kW];have bF:(bh 23 1 O++[Row.cells 29 1 (M.map Γ)])[k]?=some (Row.cells 29 1 (M.map Γ)):=by rw[ς];simp
       simp;(repeat (rw[Υ];simp[bF,KC]));(try simp[cy,bh,ς]))
     refine aR ll ?_;refine W.to (kr (j+1) R R) ?_ ?_
     ·rw[dO,dm];simp
     ·rw[dO,dm];simp
   ·refine aj (by simp[<-Η];omega) ?_;refine W.exit rfl ?_;have rL:j=n+1:=R;subst rL;have:=fV (show i<2 ^ 62 by omega);refine aR this ?_;refine W.to (gk (i+1) R R) ?_ ?_
    ·rw[IS]
    ·rw[IS];simp
  ·refine aj (by simp[<-Η];omega) ?_;refine W.exit rfl ?_;have dT:i=n+1:=R;subst dT;obtain⟨D,dZ⟩:=aF (ev s p c);have IW:h6 q n (n+1) 0=D:=by rw[IT,dZ,Ψ,Η];rfl
   rw[IW];have RL:nQ s p c=fM 1 (D.map Γ):=by unfold nQ;rw[dZ]
   refine W.cut (bh 23 1 O).length (Nat.zero_le _) [(1,a2 J 1 [p.1,p.2]),(2,.ab [aS s.ag,aQ s.ak,bl s.cells]),(6,eu O),(7,J c),(8,nQ s p c)] θ ?_ ?_ ?_
   ·intro id r b0 κ;rw[dE b0] at κ;exact AA RK r (cr κ)
   ·intro z Θ;simp only[List.mem_cons,List.not_mem_nil,or_false] at Θ;rcases Θ with rfl|rfl|rfl|rfl|rfl
    ·exact .low θ
    ·exact .low θ
    ·refine .low ?_;show ay _ (eu O);unfold eu;by_cases Θ:O=[]
     ·simp[Θ]
     ·rw[if_neg (by simpa using Θ),ee Θ];simp[oc]
    ·exact .low θ
    ·show eD _ _ (cy k (D.map Γ)) (nQ s p c);rw[RL];refine AG (t:=29) (by rw[ς];exact Nat.le_refl _) (λΘ=>?_) (λe he a μ=>ay.mono (KB e he a μ) (Nat.zero_le _));rw[ee Θ,ς];simp
   have mH:O++[nQ s p c]=(List.range (c+1)).map (nQ s p):=by rw[cO,List.range_succ,List.map_append];rfl
   rw[List.take_left];obtain⟨x,γ⟩:=aF (nQ s p c);rw[<-γ] at mH ⊢;obtain⟨lΜ,lΝ,lΞ,KD⟩:=IU 1 (D.map Γ);rw[<-RL,<-γ] at KD
   repeat apply ar
   refine W.fA (A:=[56]) Φ [(1,a2 J 1 [p.1,p.2]),(2,.ab [aS s.ag,aQ s.ak,bl s.cells]),(6,eu (O++[x])),(7,J c)] (bh 23 1 (O++[x])) ?_ (by
    have KE:O.length<=4294967295:=by rw[cO];simp;omega
    clear Β gk mH cO;by_cases Θ:O=[]
    ·subst Θ;rw[KD];simp only[ps,iW];simp;(repeat (rw[Υ];simp[]));(try simp[eu,bh])
    ·rw[rJ Θ,ee Θ,KD];simp;(repeat (rw[Υ];simp[KE]));(try simp[eu,bh]))
   refine aR hw ?_;exact W.to (Β (c+1) R R) (by rw[mH]) (by rw[mH];simp)
 ·refine aj (by simp[bX]) ?_;have ta:c=s.cells.length:=R;refine W.exit rfl ?_;refine W.OI (d:=6) RK [(1,a2 J 1 [p.1,p.2])] θ θ ?_;refine Ζ ?_;refine W.ret ⟨_,rfl,?_,rfl⟩;refine cW.bw (bS.cons ?_ (bS.cons (.refl _) .nil));rw[cO,ta];refine .trans cW.acc ?_;show cW _ (.sl false 1 (((List.range s.cells.length).map λc=>h9 (ev s p c)).map aQ));rw[List.map_map];refine .map λc _=>.one ?_ (by unfold nQ fM;split<;>rfl) rfl;unfold nQ;refine .trans cW.acc ?_;show cW (.sl false 1 ((ev s p c).map Γ)) (.sl false 1 ((h9 (ev s p c)).map (a2 J 1)));rw[List.map_map];exact .map λr _=>.one .ex rfl rfl
end Go.TL
namespace Go.TL
open Go.Conc Go.Proofs
variable [bt]
end Go.TL
namespace Go.TL
open Go.Proofs
variable [bt]
section
variable {P:Program} {T:bf} {A:List Nat} {m nt:Nat} {k:List Item} {env:aa} {σ:List Row} {Z:List Item->aa->List Row->Prop} {E:η->aa->List Row->Prop}
theorem W.fχ (Ι:bV P T) (env':aa) (σ':List Row) {ops:Array Oper} {l:List Nat} (h:W P m nt k env' σ' Z E) (κ:run P T A nt ops l env σ (λe s=>W P m nt k env' σ' Z E->W P m nt k e s Z E) E):W P m nt (.inRegion ops l::k) env σ Z E:=by
 have:=Ia (m:=m) (k:=k) (Z:=Z) Ι [] l env σ (D5 (λe s f=>W.bI (f h)) _ _ _ κ);simpa using this
end
def nR (l:List eR):η:=fM 3 (l.map eO)
def bB (done:List (List eR)) (nc:Nat):List η:=done.map nR++List.replicate (nc-done.length) bH
theorem fψ (nc:Nat):bB [] nc=List.replicate nc bH:=by simp[bB]
theorem wZ {done:List (List eR)} {nc:Nat} (h:done.length<=nc):(bB done nc).length=nc:=by simp[bB];omega
theorem fω {done:List (List eR)}:bB done done.length=done.map nR:=by simp[bB]
theorem fΑ {done:List (List eR)} {nc:Nat} (h:done.length<nc):(bB done nc)[done.length]?=some bH:=by
 unfold bB;rw[gl θ,List.length_map,Nat.sub_self,List.getElem?_replicate,if_pos R]
theorem fΒ {done:List (List eR)} {nc:Nat} (h:done.length<nc) (aJ:List eR):(bB done nc).set done.length (nR aJ)=bB (done++[aJ]) nc:=by
 unfold bB;obtain⟨r,κ⟩:∃r,nc-done.length=r+1:=⟨nc-done.length-1,R⟩;have e:nc-(done++[aJ]).length=r:=by simp;omega
 rw[κ,e,List.replicate_succ,List.set_append_right _ _ θ,List.length_map,Nat.sub_self,List.set_cons_zero,List.map_append,List.append_assoc];rfl
theorem RN (l:List eR):ay 0 (nR l):=by
 unfold nR fM;split
 ·simp
 ·refine hh.2 λe he a μ=>?_;obtain⟨x,_,rfl⟩:=List.mem_map.1 he;simp[η.cells] at μ;rcases μ with rfl|rfl|rfl<;>exact .z _
theorem RO (l:List eR):(nR l).cells=[nR l]:=by
 unfold nR fM;split<;>rfl
theorem KF {done:List (List eR)} {nc:Nat}:∀e∈bB done nc,e.cells=[e]/\ay 0 e:=λe he=>by
 unfold bB at he;rcases List.mem_append.1 he with he|he
 ·obtain⟨x,_,rfl⟩:=List.mem_map.1 he;exact⟨RO x,RN x⟩
 ·have:=List.eq_of_mem_replicate he;subst this;exact⟨rfl,θ⟩
structure fΓ where
 k:Nat
 d:cB
 aJ:List eR
theorem RP (s:aI) (g:Int) (Ρ:g<s.ag.length) (σ:List Row) (id m:Nat) (X:List η) (jw:X.length=m) (jF:σ[id]?=some (.cells 60 1 X)):ao Tryz.prog 130 [.aV [aS s.ag,aQ s.ak,.ms id m 0 m],J g] σ (λa r=>a=J (s.of g)/\r=σ) (λ_ _=>False):=by
 refine ao.body Φ Tryz.func130 rfl rfl Tryz.ntmps130 rfl rfl θ ?_;refine aR (Μ jF jw) ?_;refine W.eM rfl (λε=>?_) (λε=>?_)
 ·have ε:g<0:=by simpa using ε
  refine Ζ ?_;refine W.ret ⟨_,rfl,?_,rfl⟩;show J 0=_;simp[aI.of,ε]
 ·have ε:¬g<0:=by simpa using ε
  obtain⟨n,rfl⟩:∃n:Nat,g=n:=⟨g.toNat,R⟩;have Η:n<s.ag.length:=R;refine aR Η ?_;refine W.ret ⟨_,rfl,?_,rfl⟩;show J s.ag[n].eE=_;simp[aI.of,Η];intro h;omega
theorem fΔ (s:aI) (p r:Int×Int) (n:Nat) (Η:n<s.ak.length) (υ:∀x∈s.ak,x.length<2 ^ 62) (I:r.1<s.ag.length) (U:r.2<s.ag.length) (σ:List Row) (id m:Nat) (X:List η) (jw:X.length=m) (jF:σ[id]?=some (.cells 60 1 X)) :
  ao Tryz.prog 91 [.aV [aS s.ag,aQ s.ak,.ms id m 0 m],a2 J 1 [p.1,p.2],a2 J 1 [r.1,r.2],J n] σ (λa r2=>a=J (s.dU p r n)/\r2=σ) (λ_ _=>False):=by
 have BF:=a5 Η
 have iN:=υ _ (List.getElem_mem Η);obtain⟨l,υ⟩:=aF (s.ak[n]);rw[<-υ] at BF iN;have KG:∀h,s.ak[n]'h=l:=λh=>υ.symm;have hv:s.dU p r n=if l.contains p.2 then pf (if l.contains p.1 then pf 0 (s.of r.1) else 0) (s.of r.2) else if l.contains p.1 then pf 0 (s.of r.1) else 0:=by
  unfold aI.dU;rw[BF];rfl
 rw[hv];have b6:∀x:Int,(0<=(if x∈l then((l.idxOf x:Nat):Int) else -1))↔x∈l:=λx=>by
  by_cases h:x∈l
  ·simp[h]
  ·simp[h]
 have s1:=RP s r.1 I σ id m X jw jF
 have s2:=RP s r.2 U σ id m X jw jF;generalize s.of r.1=dz at s1 ⊢;generalize s.of r.2=hZ at s2 ⊢;refine ao.body Φ Tryz.func91 rfl rfl Tryz.ntmps91 rfl rfl θ ?_;refine aR (Μ jF jw) ?_;refine W.draw (A:=[]) Φ mixed λΕ ζ=>iu (Μ Η (Μ BF KG)) ?_;refine gv (aD.p (IA l p.1 iN) (bS.refl _) θ θ) ?_;simp[b6];(repeat (rw[dN];simp[b6]));try rw[dM]
 refine fy (ζ _ _ ?_);by_cases c1:p.1∈l
 ·refine al (by simp[c1]) ?_;have Δ:l.contains p.1=true:=by simpa using c1
  rw[if_pos Δ]
  repeat apply ar
  refine W.draw (A:=[]) Φ mixed λΕ ζ=>iu (Μ jF jw) ?_;refine Ei (ao.call (first:=[]) (captured:=[]) s1) ?_;simp;(repeat (rw[dN];simp[]));try rw[dM]
  refine fy (ζ _ _ ?_)
  repeat apply ar
  refine W.draw (A:=[]) Φ mixed λΕ ζ=>iu (Μ Η (Μ BF KG)) ?_;refine gv (aD.p (IA l p.2 iN) (bS.refl _) θ θ) ?_;simp[b6];(repeat (rw[dN];simp[b6]));try rw[dM]
  refine fy (ζ _ _ ?_);by_cases c2:p.2∈l
  ·refine al (by simp[c2]) ?_;have Γ:l.contains p.2=true:=by simpa using c2
   rw[if_pos Γ]
   repeat apply ar
   refine W.draw (A:=[]) Φ mixed λΕ ζ=>iu (Μ jF jw) ?_;refine Ei (ao.call (first:=[]) (captured:=[]) s2) ?_;simp;(repeat (rw[dN];simp[]));try rw[dM]
   refine fy (ζ _ _ ?_);refine Ζ ?_;exact W.ret ⟨_,rfl,rfl,rfl⟩
  ·refine aj (by simp[c2]) ?_;have Γ:¬l.contains p.2=true:=by simpa using c2
   rw[if_neg Γ];refine Ζ ?_;exact W.ret ⟨_,rfl,rfl,rfl⟩
 ·refine aj (by simp[c1]) ?_;have Δ:¬l.contains p.1=true:=by simpa using c1
  rw[if_neg Δ]
  repeat apply ar
  refine W.draw (A:=[]) Φ mixed λΕ ζ=>iu (Μ Η (Μ BF KG)) ?_;refine gv (aD.p (IA l p.2 iN) (bS.refl _) θ θ) ?_;simp[b6];(repeat (rw[dN];simp[b6]));try rw[dM]
  refine fy (ζ _ _ ?_);by_cases c2:p.2∈l
  ·refine al (by simp[c2]) ?_;have Γ:l.contains p.2=true:=by simpa using c2
   rw[if_pos Γ]
   repeat apply ar
   refine W.draw (A:=[]) Φ mixed λΕ ζ=>iu (Μ jF jw) ?_;refine Ei (ao.call (first:=[]) (captured:=[]) s2) ?_;simp;(repeat (rw[dN];simp[]));try rw[dM]
   refine fy (ζ _ _ ?_);refine Ζ ?_;exact W.ret ⟨_,rfl,rfl,rfl⟩
  ·refine aj (by simp[c2]) ?_;have Γ:¬l.contains p.2=true:=by simpa using c2
   rw[if_neg Γ];refine Ζ ?_;exact W.ret ⟨_,rfl,rfl,rfl⟩
end Go.TL
