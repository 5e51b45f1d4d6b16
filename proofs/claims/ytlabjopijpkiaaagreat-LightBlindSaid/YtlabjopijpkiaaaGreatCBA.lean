import Derived.Test.YtlabjopijpkiaaaGreatCAZ
set_option maxHeartbeats 16000000
set_option maxRecDepth 20000
set_option linter.unusedSectionVars false
set_option linter.unusedSimpArgs false
set_option linter.unusedVariables false
namespace Go.TL
open Go.Proofs
variable [bp]
def BT (g:FuncId) (args:List η) (d:cz) (ak:η->Prop):Prop:=ab Tryz.prog g (.ah 0 1 0 0::args) [bz d] (λa s=>∃r cJ,c6 a r/\ak r/\s=[bz cJ]/\cJ.a7.length<=d.a7.length) (λ_ _=>False)
theorem BT.c {g:FuncId} {args fB:List η} {d:cz} {ak:η->Prop} {σ:List Row} {K E:η->List Row->Prop} (h:BT g args d ak) (id:Nat) (b5:σ[id]?=some (bz d)) (he:bI fB args) (κ:∀a∈fB,aJ 0 a) (ι:∀r,ak r->aJ 0 r) (θ:∀r cJ,ak r->cJ.a7.length<=d.a7.length->K r (σ.set id (bz cJ))):ha Tryz.prog (.fn (.func g) [] []) (.ah id 1 0 0::fB) σ K E:=by
 refine ab.Ig (as0:=.ah 0 1 0 0::fB) (K0:=λa s=>∃cJ,ak a/\s=[bz cJ]/\cJ.a7.length<=d.a7.length) (ab.m8 h (.cons (.refl _) he) λa s ⟨r,cJ,J,U,μ,Ε⟩=>⟨r,J,cJ,U,μ,Ε⟩) id b5 (n' d) ?_ ?_ ?_
 ·intro a hm;rcases List.mem_cons.1 hm with rfl|hm
  ·exact Nat.zero_lt_one
  ·exact(κ a hm).iM 1
 ·rw[List.map_cons,Qm κ];rfl
 ·rintro a s ⟨cJ,J,U,μ⟩;exact⟨bz cJ,U,n' cJ,(ι a J).iM 1,by rw[(ι a J).ed];exact θ a cJ J μ⟩
section
variable {P:Program} {m nt:Nat} {k:List Item} {env:Χ} {Z:List Item->Χ->List Row->Prop} {E:η->Χ->List Row->Prop}
theorem W.QJ {d:cz} {t kk n:Nat} {l:List η} {x:Nat} (hm:m<=1) (ξ:l.length=n) (hb:∀e∈l,∀a∈e.cells,aJ 0 a) (hd:a5 env x=.ms 1 n 0 n) (hW:W P m nt k [(x,.sl false kk l)] [bz d] Z E):W P m nt k env [bz d,.cells t kk l] Z E:=
 W.cut 1 hm [(x,.sl false kk l)] ζ (λid r b5 ι=>by
  have:id=0:=R;subst this;simp at ι;subst ι;exact xh d 1) (λp π=>by
  simp at π;subst π;show eJ 1 _ (a5 env x) _;rw[hd];exact .own (t:=t) (Nat.le_refl _) rfl ξ (λe he a κ=>(hb e he a κ).mono (Nat.zero_le _))) (by simpa using hW)
end
theorem tI {l:List mm}:∀e∈l.map eU,∀a∈e.cells,aJ 0 a:=λe he a κ=>by
 obtain⟨x,_,rfl⟩:=List.mem_map.1 he;simp[η.cells] at κ;rcases κ with rfl|rfl<;>exact .z _
def y9:List ByteArray:=[⟨#[97]⟩,⟨#[98]⟩,⟨#[99]⟩,⟨#[100]⟩,⟨#[111]⟩,⟨#[122]⟩]
theorem dΚ:∀i<6,y9[i]?=some (nH i):=br
structure QK where
 i:Nat
 d:cz
 ar:List Nat
theorem dΜ (d:cz) (hd:d.a7.length<2 ^ 63) (gw:Nat) (g5:1<=gw) (vr:gw<=6):BT 128 [I gw] d (λr=>∃l,r=aT l/\pQ l/\l.length<=gw):=by
 unfold BT;refine ab.body Υ Tryz.func128 rfl rfl Tryz.ntmps128 rfl rfl ζ ?_;refine Η ?_;obtain⟨l0,l1⟩:=BR d (a:=1) (b:=63) br br br;obtain⟨last,j4⟩:=b2 (oX d 1 63);obtain⟨d1,kL⟩:=b2 (d.after (IntKind.i64.wrap (63-1)));have dΝ:d1.a7.length<=d.a7.length:=by rw[<-kL];exact k' _ _
 have Τ:=BN d hd 1 63;rw[j4,kL] at Τ;rw[j4] at l0 l1;refine bh λΘ θ=>?_;refine ee.g (Τ) (bD ?_);apply θ
 repeat apply Ω
 have ψ:=Qo d1 R 11 br
 have BU:=dΓ d1
 have FK:=Nat.le_trans (JM d1 11) dΝ;obtain⟨ord,vp⟩:=b2 ((hE d1 11).1);obtain⟨d2,n9⟩:=b2 ((hE d1 11).2);rw[vp] at BU;rw[vp,n9] at ψ;rw[n9] at FK;refine bh λΘ θ=>?_;refine ee.g (ψ) (bD ?_);apply θ;refine Η ?_;obtain⟨p',h7⟩:=BR d2 (a:=1) (b:=gw) R br R;obtain⟨n,Ζ⟩:∃n:Nat,oX d2 1 gw=n:=⟨(oX d2 1 gw).toNat,R⟩;rw[Ζ] at p' h7;obtain⟨d3,BV⟩:=b2 (d2.after (IntKind.i64.wrap ((gw:Int)-1)));have JX:d3.a7.length<=d.a7.length:=by rw[<-BV];exact Nat.le_trans (k' _ _) FK
 have Hm:=BN d2 R 1 gw;rw[Ζ,BV] at Hm;refine bh λΘ θ=>?_;refine ee.g (Hm) (bD ?_);apply θ;refine Η ?_;have ck:y9.length=6:=rfl;have gh:(jY++[last]).length=12:=by simp[jY]
 obtain⟨xk,FL⟩:=aK (jY++[last]);rw[<-FL] at gh;have di:∀ar:List Nat,(ar.map (lb ord last)).length=ar.length:=λar=>List.length_map _;refine W.iter (λx:QK=>x.i<=6/\x.d.a7.length<=d.a7.length/\x.ar.Pairwise (· < ·)/\(∀j∈x.ar,j<x.i)/\x.ar.length<=n/\n+x.i<=6+x.ar.length)
  (λx=>[(0,.ah 0 1 0 0),(5,.sl true 1 (y9.map nT)),(6,.sl true 1 (xk.map I)),(7,bt I 1 ord),(8,dC 1 ((x.ar.map (lb ord last)).map eU)),(9,I n),(10,I x.i)])
  (λx=>bz x.d::bW 77 2 ((x.ar.map (lb ord last)).map eU)) (λx=>6-x.i) ⟨0,d3,[]⟩ ⟨ζ,JX,ζ,ζ,ζ,by simp;omega⟩ rfl (by rw[FL];intro p π;simp only[List.mem_cons,List.not_mem_nil,or_false] at π;rcases π with rfl|rfl|rfl|rfl|rfl|rfl|rfl<;>rfl) (λx γ ω=>?_)
 obtain⟨i,D,ar⟩:=x;obtain⟨dΞ,oa,FM,BW,QL,dΟ⟩:=γ;simp only at dΞ oa FM BW QL dΟ ω ⊢;obtain⟨G,y'⟩:=aK (ar.map (lb ord last));have hY:G.length=ar.length:=by rw[y'];exact di ar
 rw[<-y'];have sz:(dC 1 (G.map eU)=.sl true 0 []/\bW 77 2 (G.map eU)=[]/\ar.length=0)\/(dC 1 (G.map eU)=.ms 1 ar.length 0 ar.length/\bW 77 2 (G.map eU)=[.cells 77 2 (G.map eU)]/\0<ar.length):=by
  by_cases Φ:G=[]
  ·subst Φ;exact .inl ⟨rfl,rfl,by simpa using hY.symm⟩
  ·have gu:G.map eU≠[]:=by simpa using Φ
   refine .inr ⟨by rw[h0 gu,List.length_map,hY],e6 gu,?_⟩;have:=List.length_pos_iff.2 Φ;omega
 repeat apply Ω
 refine W.iN (A:=[]) Υ [(35,a' (decide (i<6)&&decide (ar.length<n))),(0,.ah 0 1 0 0),(5,.sl true 1 (y9.map nT)),(6,.sl true 1 (xk.map I)),(7,bt I 1 ord),(8,dC 1 (G.map eU)),(9,I n),(10,I i)] (bz D::bW 77 2 (G.map eU)) ?_ (by
  by_cases hi:i<6
  ·have aC:(i:Int)<6:=by omega
   rcases sz with⟨Γ,Δ,a4⟩|⟨Γ,Δ,a4⟩
   ·rw[Γ,Δ];(try simp);(repeat (rw[al];simp[aC,ck,a4,hi]));(try simp[aC,ck,a4,hi])
   ·rw[Γ,Δ];(try simp);(repeat (rw[al];simp[aC,ck,hY,hi]));(try simp[aC,ck,hY,hi])
  ·have hi:i=6:=by omega
   subst hi;rcases sz with⟨Γ,Δ,a4⟩|⟨Γ,Δ,a4⟩
   ·rw[Γ,Δ];(try simp);(repeat (rw[al];simp[ck]));(try simp[ck])
   ·rw[Γ,Δ];(try simp);(repeat (rw[al];simp[ck]));(try simp[ck]))
 refine W.eS rfl (λε=>?_) (λε=>?_)
 ·simp only[Bool.and_eq_true,decide_eq_true_eq] at ε;obtain⟨hi,QM⟩:=ε;have hB:IntKind.i64.wrap (6-(i:Int))=6-i:=IntWalk.i64_in _ R;have gO:IntKind.i64.wrap ((n:Int)-ar.length)=n-ar.length:=IntWalk.i64_in _ R;have gJ:IntKind.i64.wrap ((i:Int)+1)=((i+1:Nat):Int):=by rw[IntWalk.i64_in _ R];omega
  repeat apply Ω
  have rX:D.a7.length<2 ^ 63:=R
  have tJ:=JL D rX 3 br br;obtain⟨ο,sZ⟩:=b2 (xf D 3);obtain⟨pR,q0⟩:=b2 (D.after (3-1));have JY:pR.a7.length<=d.a7.length:=by rw[<-q0];exact Nat.le_trans (k' _ _) oa
  rw[sZ,q0] at tJ;obtain⟨mG,tK⟩:∃x,x=if(n:Int)-ar.length<6-i then pR else D:=⟨_,rfl⟩
  have BX:mG.a7.length<=d.a7.length:=by rw[tK];split<;>assumption
  refine W.iN (A:=[]) Υ [(50,a' (decide ((n:Int)-ar.length<6-i)&&ο)),(0,.ah 0 1 0 0),(5,.sl true 1 (y9.map nT)),(6,.sl true 1 (xk.map I)),(7,bt I 1 ord),(8,dC 1 (G.map eU)),(9,I n),(10,I i)] (bz mG::bW 77 2 (G.map eU)) ?_ (by
   by_cases ob:(n:Int)-ar.length<6-i
   ·rw[if_pos ob] at tK;rw[tK];rcases sz with⟨Γ,Δ,a4⟩|⟨Γ,Δ,a4⟩
    ·rw[Γ,Δ];rw[a4] at ob gO;simp only[Int.natCast_zero,Int.sub_zero] at ob gO;(try simp);(repeat (rw[al];simp[ck,hB,gO,ob,a4]));(try simp[ck,hB,gO,ob,a4]);refine ee.c (tJ) 0 rfl (bI.refl _) ζ ζ ?_;simp[];(repeat (rw[al];simp[]));(try simp)
    ·rw[Γ,Δ];(try simp);(repeat (rw[al];simp[ck,hB,gO,ob,hY]));(try simp[ck,hB,gO,ob,hY]);refine ee.c (tJ) 0 rfl (bI.refl _) ζ ζ ?_;simp[];(repeat (rw[al];simp[]));(try simp)
   ·rw[if_neg ob] at tK;rw[tK];rcases sz with⟨Γ,Δ,a4⟩|⟨Γ,Δ,a4⟩
    ·rw[Γ,Δ];rw[a4] at ob gO;simp only[Int.natCast_zero,Int.sub_zero] at ob gO;(try simp);(repeat (rw[al];simp[ck,hB,gO,ob,a4]));(try simp[ck,hB,gO,ob,a4])
    ·rw[Γ,Δ];(try simp);(repeat (rw[al];simp[ck,hB,gO,ob,hY]));(try simp[ck,hB,gO,ob,hY]))
  refine W.eS rfl (λa3=>?_) (λa3=>?_)
  ·simp only[Bool.and_eq_true,decide_eq_true_eq] at a3;refine W.exit rfl ?_;refine aE gJ ?_;refine W.to (ω ⟨i+1,mG,ar⟩ ⟨by show i+1<=6;omega,BX,FM,λj δ=>by have:=BW j δ;show j<i+1;omega,QL,by show n+(i+1)<=6+ar.length;omega⟩ (by show 6-(i+1)<6-i;omega)) (by rw[y']) ?_;rw[<-y'];simp[gJ]
  ·have g8:n+i+1<=6+ar.length+1:=by omega
   obtain⟨k,χ,BY,cH⟩:=BU.get (i:=i) R;obtain⟨cH,_,_⟩:=cH last;have FN:lb ord last i=⟨nH i,jY.getD k 0⟩:=by
    obtain⟨af,_,hL,e,_⟩:=FJ BU last (i:=i) R;rw[BY] at hL;have rF:af=k:=by have:=Option.some.inj hL;omega
    subst rF;show(⟨nH i,(lb ord last i).eT⟩:mm)=_;rw[e]
   obtain⟨st,mT⟩:=b2 (jY.getD k 0);rw[mT] at FN;rw[mT,<-FL] at cH;have lB:=dΚ i hi;have QN:∀h,y9[i]'h=nH i:=λh=>by rw[a8 h] at lB;exact Option.some.inj lB
   have QO:∀h,ord[i]'h=(k:Int):=λh=>by rw[a8 h] at BY;exact Option.some.inj BY
   have QP:∀h,xk[k]'h=st:=λh=>by rw[a8 h] at cH;exact Option.some.inj cH
   have yc:=BU.len
   have FO:(G++[lb ord last i])=(ar++[i]).map (lb ord last):=by rw[y'];simp
   repeat apply Ω
   have bA:(G++[lb ord last i]).map eU≠[]:=ζ
   have vm:(⟨i+1,mG,ar++[i]⟩:QK).i<=6/\mG.a7.length<=d.a7.length/\(ar++[i]).Pairwise (· < ·)/\(∀j∈ar++[i],j<i+1)/\(ar++[i]).length<=n/\n+(i+1)<=6+(ar++[i]).length:=by
    refine⟨hi,BX,?_,?_,?_,?_⟩
    ·rw[List.pairwise_append];exact⟨FM,ζ,λa κ b hb=>by simp at hb;subst hb;exact BW a κ⟩
    ·intro j δ;rcases List.mem_append.1 δ with δ|δ
     ·have:=BW j δ;omega
     ·simp at δ;omega
    ·simp;omega
    ·simp;omega
   rcases sz with⟨Γ,Δ,a4⟩|⟨Γ,Δ,a4⟩
   ·rw[Γ,Δ];refine W.draw (A:=[65]) Υ mixed λΘ θ=>hV (υ ck (υ gh (υ yc (υ lB (υ QN (υ BY (υ QO (υ cH QP)))))))) ?_;refine⟨R,R,R,?_⟩;refine e5 (θ _ _ ?_);refine aE gJ ?_;have Φ:G=[]:=dO.1 R;refine W.to (ω ⟨i+1,mG,ar++[i]⟩ vm (by show 6-(i+1)<6-i;omega)) ?_ ?_
    ·have e:bW 77 2 (((ar++[i]).map (lb ord last)).map eU)=[.cells 77 2 [eU ⟨nH i,st⟩]]:=by rw[<-FO,e6 bA,Φ,FN];rfl
     simp only[e]
    ·have e:dC 1 (((ar++[i]).map (lb ord last)).map eU)=.ms 1 1 0 1:=by rw[<-FO,h0 bA,Φ,FN];rfl
     simp only[e];simp[gJ]
   ·rw[Γ,Δ];refine W.draw (A:=[65]) Υ mixed λΘ θ=>hV (υ ck (υ gh (υ yc (υ lB (υ QN (υ BY (υ QO (υ cH (υ QP hY))))))))) ?_;refine⟨R,R,R,R,?_⟩;refine e5 (θ _ _ ?_);refine aE gJ ?_;refine W.to (ω ⟨i+1,mG,ar++[i]⟩ vm (by show 6-(i+1)<6-i;omega)) ?_ ?_
    ·have e:bW 77 2 (((ar++[i]).map (lb ord last)).map eU)=[.cells 77 2 (G.map eU++[eU ⟨nH i,st⟩])]:=by rw[<-FO,e6 bA,List.map_append,FN];rfl
     simp only[e]
    ·have e:dC 1 (((ar++[i]).map (lb ord last)).map eU)=.ms 1 (ar.length+1) 0 (ar.length+1):=by rw[<-FO,h0 bA,List.length_map,List.length_append,hY];rfl
     simp only[e];simp[gJ]
 ·have QM:ar.length=n:=by
   simp only[Bool.and_eq_false_iff,decide_eq_false_iff_not] at ε;omega
  refine W.exit rfl ?_;rcases sz with⟨Γ,Δ,a4⟩|⟨Γ,Δ,a4⟩
  ·omega
  rw[QM] at Γ hY;have QQ:pQ G:=by rw[y'];exact dΙ BU last FM (λj δ=>by have:=BW j δ;omega) R R
  have JZ:xk[11]?=some last:=by rw[FL];rfl
  have dΡ:∀h,xk[11]'h=last:=λh=>by rw[a8 h] at JZ;exact Option.some.inj JZ
  refine W.to (env':=[(0,.ah 0 1 0 0),(6,.sl true 1 (xk.map I)),(8,.ms 1 n 0 n),(9,I n)]) (σ':=[bz D,.cells 77 2 (G.map eU)]) ?_ (by rw[Δ]) (by rw[Γ];simp);have dΤ:IntKind.i64.wrap 11=11:=br;refine aE (υ gh (υ JZ (υ dΡ dΤ))) ?_;refine W.iter (λx:Nat×Bool=>x.1<=n/\(x.2=true->∀g∈G.take x.1,g.eT≠last)) (λx=>[(0,.ah 0 1 0 0),(8,.ms 1 n 0 n),(11,I last),(12,a' x.2),(13,I x.1)]) (λ_=>[bz D,.cells 77 2 (G.map eU)]) (λx=>n-x.1) (0,true) ⟨Nat.zero_le _,ζ⟩ rfl ζ (λx γ BZ=>?_);obtain⟨j,ax⟩:=x;obtain⟨δ,g8⟩:=γ;simp only at δ g8 BZ ⊢;refine aE hY ?_;refine W.eS rfl (λε=>?_) (λε=>?_)
  ·have e2:j<n:=by simpa using ε
   have J0:G[j]?=some (G[j]'R):=a8 R;obtain⟨g,Ο⟩:=aK (G[j]'R);rw[<-Ο] at J0;have QR:∀h,G[j]'h=g:=λh=>Ο.symm;have gJ:IntKind.i64.wrap ((j:Int)+1)=((j+1:Nat):Int):=by rw[IntWalk.i64_in _ R];omega
   have lC:G.take (j+1)=G.take j++[g]:=by rw[List.take_succ_eq_append_getElem R,Ο]
   repeat apply Ω
   refine W.iN (A:=[]) Υ [(0,.ah 0 1 0 0),(8,.ms 1 n 0 n),(11,I last),(12,a' (ax&&decide (g.eT≠last))),(13,I j)] [bz D,.cells 77 2 (G.map eU)] ?_ (by
    cases ax
    ·(try simp);(repeat (rw[al];simp[hY]));(try simp[hY])
    ·(try simp);(repeat (rw[al];simp[hY,J0,QR]));(try simp[hY,J0,QR]);omega)
   refine aE gJ ?_;refine W.to (BZ (j+1,ax&&decide (g.eT≠last)) ⟨e2,λh=>?_⟩ (by show n-(j+1)<n-j;omega)) rfl (by simp[gJ]);simp only[Bool.and_eq_true,decide_eq_true_eq] at h;intro y Κ;rw[lC] at Κ;rcases List.mem_append.1 Κ with Κ|Κ
   ·exact g8 h.1 y Κ
   ·simp at Κ;subst Κ;exact h.2
  ·have e2:j=n:=by simp at ε;omega
   have dΥ:ax=true->∀g∈G,g.eT≠last:=λh=>by
    have:=g8 h
    rwa [List.take_of_length_le R] at this
   refine W.exit rfl ?_;have rX:D.a7.length<2 ^ 63:=R;have tJ:=JL D rX 3 br br;obtain⟨ο,sZ⟩:=b2 (xf D 3);obtain⟨pR,q0⟩:=b2 (D.after (3-1));have JY:pR.a7.length<=d.a7.length:=by rw[<-q0];exact Nat.le_trans (k' _ _) oa
   rw[sZ,q0] at tJ;obtain⟨mG,tK⟩:=aK (if ax then pR else D);have BX:mG.a7.length<=d.a7.length:=by rw[tK];split<;>assumption
   repeat apply Ω
   refine W.iN (A:=[]) Υ [(92,a' (ax&&ο)),(0,.ah 0 1 0 0),(8,.ms 1 n 0 n),(11,I last)] [bz mG,.cells 77 2 (G.map eU)] ?_ (by
    cases ax
    ·rw[tK];(try simp);(repeat (rw[al];simp[hY]));(try simp[hY])
    ·rw[tK];(try simp);(repeat (rw[al];simp[hY]));(try simp[hY]);refine ee.c (tJ) 0 rfl (bI.refl _) ζ ζ ?_;simp[];(repeat (rw[al];simp[]));(try simp))
   refine W.eS rfl (λa3=>?_) (λa3=>?_)
   ·simp only[Bool.and_eq_true] at a3;have hB:IntKind.i64.wrap ((n:Int)-1)=n-1:=IntWalk.i64_in _ R;have sS:=sm mG R ((n:Int)-1);obtain⟨t0,t1⟩:=qW mG ((n:Int)-1) R R;obtain⟨k,χ⟩:∃k:Nat,hD mG ((n:Int)-1)=k:=⟨(hD mG ((n:Int)-1)).toNat,R⟩;obtain⟨J1,QS⟩:=b2 (mG.after ((n:Int)-1));have dΦ:J1.a7.length<=d.a7.length:=by rw[<-QS];exact Nat.le_trans (k' _ _) BX
    rw[χ,QS] at sS;rw[χ] at t1;have FP:k<G.length:=R;have QT:G[k]?=some (G[k]'FP):=a8 FP;obtain⟨g,Ο⟩:=aK (G[k]'FP);rw[<-Ο] at QT;have dΧ:∀h,G[k]'h=g:=λh=>Ο.symm
    repeat apply Ω
    refine W.iN (A:=[]) Υ [(8,.ms 1 n 0 n)] [bz J1,.cells 77 2 ((G.set k ⟨g.name,last⟩).map eU)] ?_ (by
     (try simp);(repeat (rw[al];simp[hY,hB]));(try simp[hY,hB]);refine ee.g (sS) (gS (υ QT (υ dΧ hY)) ?_)
     first|omega|(refine⟨R,?_⟩;simp[List.map_set]))
    refine Η ?_;rw[<-List.map_set];refine W.QJ (x:=4) (n:=n) (l:=(G.set k ⟨g.name,last⟩).map eU) (Nat.le_refl _) (by rw[List.length_map];simp[hY]) tI ?_ ?_
    ·simp
    exact W.ret ⟨_,rfl,_,J1,.refl _,⟨_,rfl,by rw[Ο];exact QQ.set FP l0 l1 (dΥ a3.1),by rw[List.length_set];omega⟩,rfl,dΦ⟩
   ·refine Η ?_;refine W.QJ (x:=4) (n:=n) (l:=G.map eU) (Nat.le_refl _) (by rw[List.length_map];simp[hY]) tI ?_ ?_
    ·simp
    exact W.ret ⟨_,rfl,_,mG,.refl _,⟨_,rfl,QQ,R⟩,rfl,BX⟩
theorem dΨ (d:cz) (n:Nat):(iQ d n).1.Pairwise (· < ·)/\∀x∈(iQ d n).1,0<=x/\x<n:=by
 induction n with
 | zero=>exact⟨List.Pairwise.nil,λx h=>(by cases h)⟩
 | succ n ω=>
  show((iQ d n).1++_).Pairwise _/\∀x∈(iQ d n).1++_,_;constructor
  ·rw[List.pairwise_append];refine⟨ω.1,by split<;>simp,λa κ b hb=>?_⟩;have:=ω.2 a κ;split at hb
   ·simp at hb;omega
   ·simp at hb
  ·intro x γ;rcases List.mem_append.1 γ with γ|γ
   ·have:=ω.2 x γ;omega
   ·split at γ
    ·simp at γ;omega
    ·simp at γ
structure xl (L:List (List Int)):Prop where
 lo:1<=L.length
 hi:L.length<=4
 each:∀l∈L,l.length<=3/\l.Pairwise (· < ·)/\∀x∈l,0<=x/\x<3
theorem dΩ {l:List Int} (J:l.Pairwise (· < ·)) (U:∀x∈l,0<=x/\x<3):yt l=0:=by
 refine BS λx γ=>?_;obtain⟨i,hi,rfl⟩:=List.mem_map.1 γ;have hi:=List.mem_range.1 hi;unfold wL;rw[a8 hi];have μ:=U _ (List.getElem_mem hi);simp only;rw[if_neg,if_neg]
 ·rintro⟨an,Ε⟩;rw[a8 R] at Ε;have:=List.pairwise_iff_getElem.1 J (i-1) i R hi R;simp only[Option.getD_some] at Ε;omega
 ·unfold k2;simp;omega
theorem xl.err {L:List (List Int)} (h:xl L):oL L=0:=by
 unfold oL;have J:=h.lo;have U:=h.hi;rw[if_neg R,if_neg R];refine BS λx γ=>?_;obtain⟨i,hi,rfl⟩:=List.mem_map.1 γ;have hi:=List.mem_range.1 hi;rw[a8 hi];obtain⟨_,μ,Ε⟩:=h.each _ (List.getElem_mem hi);exact dΩ μ Ε
abbrev b1:η:=.sl true 0 []
structure eα where
 k:Nat
 d:cz
 L:List (List Int)
theorem J2 {L:List (List Int)}:∀e∈L.map (bt I 1),∀a∈e.cells,aJ 0 a:=λe he a κ=>by
 obtain⟨x,_,rfl⟩:=List.mem_map.1 he;simp[η.cells] at κ;subst κ;simp[iG,η.cells]
theorem eβ:∀a<64,∀b<64,0<=ga .i64 (a:Nat) (b:Nat)/\ga .i64 (a:Nat) (b:Nat)<=63/\0<=pj .i64 (a:Nat) (b:Nat)/\pj .i64 (a:Nat) (b:Nat)<=63/\ga .i64 (b:Nat) (pj .i64 (a:Nat) (b:Nat))=0:=by decide +kernel
theorem J3 {a b:Int} (κ:0<=a/\a<=63) (hb:0<=b/\b<=63):(0<=ga .i64 a b/\ga .i64 a b<=63)/\(0<=pj .i64 a b/\pj .i64 a b<=63)/\ga .i64 b (pj .i64 a b)=0:=by
 obtain⟨x,rfl⟩:∃x:Nat,a=x:=⟨a.toNat,R⟩;obtain⟨y,rfl⟩:∃y:Nat,b=y:=⟨b.toNat,R⟩;obtain⟨J,U,μ,Ε,au⟩:=eβ x R y R;exact⟨⟨J,U⟩,⟨μ,Ε⟩,au⟩
structure pS (n:Nat) (c:List c8):Prop where
 hi:c.length<=4
 apart:(c.map (·.light)).Nodup
 each:∀p∈c,(0<=p.light/\p.light<n)/\(0<=p.seen/\p.seen<=63)/\(0<=p.bare/\p.bare<=63)/\rN p.seen p.bare=0
theorem eγ:∀(n:Nat) (l:List Int),l.Nodup->(∀x∈l,0<=x/\x<n)->l.length<=n:=by
 intro n
 induction n with
 | zero=>
  intro l _ h;cases l with
  | nil=>simp
  | cons x l=>have:=h x ζ;omega
 | succ n ω=>
  intro l hd h;have J:=ω (l.erase n) (hd.erase _) λx γ=>by
   have γ:=hd.mem_erase_iff.1 γ
   have:=h x γ.2;omega
  rw[List.length_erase] at J;split at J<;>omega
theorem pS.n1 {n:Nat} {c:List c8} (h:pS n c):c.length<=n:=by
 have:=eγ n (c.map (·.light)) h.apart λx γ=>by
  obtain⟨p,π,rfl⟩:=List.mem_map.1 γ;exact(h.each p π).1
 simpa using this
structure il (s:aS):Prop where
 ae:pQ s.ae
 aj:xl s.aj
 many:s.cells.length<=4
 cells:∀c∈s.cells,pS s.aj.length c
theorem pS.err {s:aS} {c:List c8} (h:pS s.aj.length c):qF s c=0:=by
 unfold qF;have:=h.hi;rw[if_neg R];refine BS λx γ=>?_;obtain⟨i,hi,rfl⟩:=List.mem_map.1 γ;have hi:=List.mem_range.1 hi;rw[a8 hi];obtain⟨J,U,μ,Ε⟩:=h.each _ (List.getElem_mem hi);simp only;unfold jf;rw[if_neg R,if_neg,if_neg (by unfold valid;simp;omega),if_pos Ε];intro κ;obtain⟨y,Κ,he⟩:=List.any_eq_true.1 κ;obtain⟨j,δ,rfl⟩:=List.mem_take_iff_getElem.1 Κ;have hd:=List.pairwise_iff_getElem.1 h.apart j i (by simp;omega) (by simpa using hi) R;simp at he hd;exact hd he
theorem il.err {s:aS} (h:il s):s.err=0:=by
 unfold aS.err;rw[h.ae.err,h.aj.err,if_neg ζ,if_neg ζ];unfold tr;have:=h.many;rw[if_neg R];refine BS λx γ=>?_;obtain⟨i,hi,rfl⟩:=List.mem_map.1 γ;have hi:=List.mem_range.1 hi;rw[a8 hi];exact(h.cells _ (List.getElem_mem hi)).err
theorem il.small {s:aS} (h:il s):s.small:=by
 have J:=h.ae.hi
 have U:=h.aj.hi
 have μ:=h.many;refine⟨R,R,R,λx γ=>?_,λx γ=>?_⟩
 ·have:=(h.aj.each x γ).1;omega
 ·have:=(h.cells x γ).hi;omega
theorem eδ (d:cz) (hd:d.a7.length<2 ^ 63) (gw cells:Nat) (g5:1<=gw) (vr:gw<=6) (za:cells<=4) :
  ab Tryz.prog 90 [.ah 0 1 0 0,I gw,I cells] [bz d] (λa s=>∃G L nc cJ,c6 a (.a0 [aT G,.ms 3 L.length 0 L.length,dC 4 (List.replicate nc b1)])/\pQ G/\xl L/\(nc<=cells/\G.length<=gw/\L.length<=3)/\s=bz cJ::.dead::.dead::.cells 29 1 (L.map (bt I 1))::bW 60 1 (List.replicate nc b1)/\cJ.a7.length<=d.a7.length) (λ_ _=>False):=by
 refine ab.body Υ Tryz.func90 rfl rfl Tryz.ntmps90 rfl rfl ζ ?_
 repeat apply Ω
 refine dB (A:=[6]) Υ λΘ θ=>bD ?_;apply θ
 repeat apply Ω
 refine dB (A:=[7]) Υ λΘ θ=>bD ?_;refine BT.c (dΜ d hd gw g5 vr) 0 rfl (bI.refl _) ζ (by rintro r ⟨l,rfl,_⟩;exact iG.2 tI) ?_;rintro r d1 ⟨G,rfl,di,QU⟩ kL;simp;(repeat (rw[al];simp[]));apply θ;have eε:d1.a7.length<2 ^ 63:=R;obtain⟨p',h7⟩:=BR d1 (a:=1) (b:=3) br br br;obtain⟨nl,ti⟩:∃n:Nat,oX d1 1 3=n:=⟨(oX d1 1 3).toNat,R⟩;rw[ti] at p' h7;obtain⟨d2,n9⟩:=b2 (d1.after (IntKind.i64.wrap (3-1)));have FK:d2.a7.length<=d.a7.length:=by rw[<-n9];exact Nat.le_trans (k' _ _) kL
 have Τ:=BN d1 eε 1 3;rw[ti,n9] at Τ;refine bh λΘ θ=>?_;refine ee.g (Τ) (bD ?_);apply θ;have J4:∀L:List (List Int),(dC 3 (L.map (bt I 1))=.sl true 0 []/\bW 29 1 (L.map (bt I 1))=[]/\L=[])\/(dC 3 (L.map (bt I 1))=.ms 3 L.length 0 L.length/\bW 29 1 (L.map (bt I 1))=[.cells 29 1 (L.map (bt I 1))]/\0<L.length):=λL=>by
  by_cases Φ:L=[]
  ·subst Φ;exact .inl ⟨rfl,rfl,rfl⟩
  ·have gu:L.map (bt I 1)≠[]:=by simpa using Φ
   exact .inr ⟨by rw[h0 gu,List.length_map],e6 gu,List.length_pos_iff.2 Φ⟩
 repeat apply Ω
 refine W.iter (λx:eα=>x.L.length+x.k=nl/\x.d.a7.length<=d.a7.length/\∀l∈x.L,l.length<=3/\l.Pairwise (· < ·)/\∀y∈l,0<=y/\y<3)
  (λx=>[(0,.ah 0 1 0 0),(2,I cells),(6,.ah 1 1 0 0),(7,.ah 2 1 0 0),(8,I x.k)])
  (λx=>bz x.d::ek b1 b1 b1::ek (aT G) (dC 3 (x.L.map (bt I 1))) b1::bW 29 1 (x.L.map (bt I 1))) (λx=>x.k) ⟨nl,d2,[]⟩ ⟨ζ,FK,ζ⟩ rfl ζ (λx γ ω=>?_)
 obtain⟨k,D,L⟩:=x;obtain⟨χ,oa,ai⟩:=γ;simp only at χ oa ai ω ⊢;refine Η ?_;refine W.eS rfl (λε=>?_) (λε=>?_)
 ·have jX:0<k:=by simpa using ε
  obtain⟨j,δ⟩:∃j,k=j+1:=⟨k-1,R⟩;have hw:IntKind.i64.wrap ((k:Int)-1)=j:=by rw[IntWalk.i64_in _ R];omega
  have hi:=dδ D R
  have κ:=dΨ D 3
  have tL:=Qr D 3
  have EE:=Qq D 3;obtain⟨l,ξ⟩:=b2 ((iQ D 3).1);obtain⟨pR,q0⟩:=b2 ((iQ D 3).2);rw[ξ,q0] at hi;rw[ξ] at κ tL;rw[q0] at EE;have vm:(L++[l]).length+j=nl/\pR.a7.length<=d.a7.length/\∀x∈L++[l],x.length<=3/\x.Pairwise (· < ·)/\∀y∈x,0<=y/\y<3:=by
   refine⟨by simp;omega,R,λx γ=>?_⟩;rcases List.mem_append.1 γ with γ|γ
   ·exact ai x γ
   ·simp at γ;subst γ;exact⟨tL,κ.1,κ.2⟩
  have bA:(L++[l]).map (bt I 1)≠[]:=ζ
  repeat apply Ω
  rcases J4 L with⟨Γ,Δ,a4⟩|⟨Γ,Δ,a4⟩
  ·rw[Γ,Δ];refine W.JJ (A:=[25]) Υ mixed λΘ θ=>?_;simp;(repeat (rw[oZ];simp[]));(try rw[oY]);refine ee.h (hi) (xe ?_);refine⟨hg (by kernel_rfl),hg (by kernel_rfl),θ _ _ ?_⟩;refine aE hw ?_;subst a4;refine W.to (ω ⟨j,pR,[]++[l]⟩ vm (by show j<k;omega)) ?_ ?_
   ·have e:dC 3 (([]++[l]).map (bt I 1))=.ms 3 1 0 1:=rfl
    have aM:bW 29 1 (([]++[l]).map (bt I 1))=[.cells 29 1 [bt I 1 l]]:=rfl;simp only[e,aM]
   ·simp
  ·rw[Γ,Δ];refine W.JJ (A:=[25]) Υ mixed λΘ θ=>?_;simp;(repeat (rw[oZ];simp[]));(try rw[oY]);refine ee.h (hi) (xe ?_);refine⟨R,?_⟩;refine⟨hg (by kernel_rfl),hg (by kernel_rfl),θ _ _ ?_⟩;refine aE hw ?_;refine W.to (ω ⟨j,pR,L++[l]⟩ vm (by show j<k;omega)) ?_ ?_
   ·have e:dC 3 ((L++[l]).map (bt I 1))=.ms 3 (L.length+1) 0 (L.length+1):=by rw[h0 bA,List.length_map,List.length_append];rfl
    have aM:bW 29 1 ((L++[l]).map (bt I 1))=[.cells 29 1 (L.map (bt I 1)++[bt I 1 l])]:=by rw[e6 bA,List.map_append];rfl
    simp only[e,aM]
   ·simp
 ·have jX:k=0:=by simp at ε;omega
  subst jX;have jh:L.length=nl:=R;have eζ:xl L:=⟨R,R,ai⟩;rcases J4 L with⟨Γ,Δ,a4⟩|⟨Γ,Δ,a4⟩
  ·subst a4;simp at jh;omega
  refine W.to (env':=[(0,.ah 0 1 0 0),(2,I cells),(6,.ah 1 1 0 0),(7,.ah 2 1 0 0)]) (σ':=[bz D,ek b1 b1 b1,ek (aT G) (.ms 3 L.length 0 L.length) b1,.cells 29 1 (L.map (bt I 1))]) ?_ (by rw[Γ,Δ]) ζ;clear ω ε J4 Γ Δ;refine W.exit rfl ?_;have rX:D.a7.length<2 ^ 63:=R;obtain⟨dT,dU⟩:=BR D (a:=0) (b:=cells) R br R;obtain⟨nc,m1⟩:∃n:Nat,oX D 0 cells=n:=⟨(oX D 0 cells).toNat,R⟩;rw[m1] at dT dU;obtain⟨d3,BV⟩:=b2 (D.after (IntKind.i64.wrap ((cells:Int)-0)));have JX:d3.a7.length<=d.a7.length:=by rw[<-BV];exact Nat.le_trans (k' _ _) oa
  have Τ:=BN D rX 0 cells;rw[m1,BV] at Τ;refine bh λΘ θ=>?_;refine ee.g (Τ) (bD ?_);apply θ
  repeat apply Ω
  refine W.iter (λx:Nat×Nat=>x.1+x.2=nc)
   (λx=>[(0,.ah 0 1 0 0),(6,.ah 1 1 0 0),(7,.ah 2 1 0 0),(9,I x.1)])
   (λx=>bz d3::ek b1 b1 b1::ek (aT G) (.ms 3 L.length 0 L.length) (dC 4 (List.replicate x.2 b1))::.cells 29 1 (L.map (bt I 1))::bW 60 1 (List.replicate x.2 b1)) (λx=>x.1) (nc,0) ζ rfl ζ (λx γ ω=>?_)
  obtain⟨k,c⟩:=x;simp only at γ ω ⊢;refine Η ?_;refine W.eS rfl (λε=>?_) (λε=>?_)
  ·have jX:0<k:=by simpa using ε
   obtain⟨j,δ⟩:∃j,k=j+1:=⟨k-1,R⟩;have hw:IntKind.i64.wrap ((k:Int)-1)=j:=by rw[IntWalk.i64_in _ R];omega
   have Hj:dC 4 (List.replicate (c+1) b1)=.ms 4 (c+1) 0 (c+1):=by rw[h0 ζ,List.length_replicate]
   have A1:bW 60 1 (List.replicate (c+1) b1)=[.cells 60 1 (List.replicate c b1++[b1])]:=by rw[e6 ζ,List.replicate_succ']
   repeat apply Ω
   by_cases Φ:c=0
   ·subst Φ;have uH:dC 4 (List.replicate 0 b1)=b1:=rfl;have Ac:bW 60 1 (List.replicate 0 b1)=[]:=rfl;rw[uH,Ac];refine dB (A:=[37]) Υ λΘ θ=>bD ?_;apply θ;refine aE hw ?_;refine W.to (ω (j,1) (by show j+1=nc;omega) (by show j<k;omega)) ?_ ?_
    ·simp only[Hj,A1];rfl
    ·simp
   ·have uH:dC 4 (List.replicate c b1)=.ms 4 c 0 c:=by rw[h0 (by simp[Φ]),List.length_replicate]
    have Ac:bW 60 1 (List.replicate c b1)=[.cells 60 1 (List.replicate c b1)]:=e6 (by simp[Φ]);rw[uH,Ac];refine dB (A:=[37]) Υ λΘ θ=>bD ?_;refine⟨R,?_⟩;apply θ;refine aE hw ?_;refine W.to (ω (j,c+1) (by show j+(c+1)=nc;omega) (by show j<k;omega)) ?_ ?_
    ·simp only[Hj,A1]
    ·simp
  ·have jX:k=0:=by simp at ε;omega
   have mS:c=nc:=R;subst mS;refine W.exit rfl ?_;obtain⟨C,hC⟩:=aK (dC 4 (List.replicate c b1));obtain⟨RC,FQ⟩:=aK (bW 60 1 (List.replicate c b1));rw[<-hC,<-FQ];have eη:(C=b1/\RC=[])\/(C=.ms 4 c 0 c/\RC=[.cells 60 1 (List.replicate c b1)]):=by
    by_cases Φ:c=0
    ·subst Φ;exact .inl ⟨hC,FQ⟩
    ·exact .inr ⟨by rw[hC,h0 (by simp[Φ]),List.length_replicate],by rw[FQ,e6 (by simp[Φ])]⟩
   repeat apply Ω
   refine W.iN (A:=[]) Υ [(6,.ah 1 1 0 0)] (bz d3::ek (aT G) (.ms 3 L.length 0 L.length) C::ek (aT G) (.ms 3 L.length 0 L.length) C::.cells 29 1 (L.map (bt I 1))::RC) ?_ (by
    rcases eη with⟨Γ,Δ⟩|⟨Γ,Δ⟩
    ·rw[Γ,Δ];(try simp);(repeat (rw[al];simp[]));(try simp[])
    ·rw[Γ,Δ];(try simp);(repeat (rw[al];simp[]));(try simp[]))
   obtain⟨QV,QW⟩:=aK (.cells 29 1 (L.map (bt I 1)):Row);obtain⟨J5,QX⟩:=aK (.ms 3 L.length 0 L.length:η);rw[<-QW,<-QX];refine W.qZ (σ':=bz d3::ek (aT G) J5 C::.dead::QV::RC) (id:=2) ζ rfl rfl rfl (λj r δ ι=>?_) [(6,.ah 1 1 0 0)] (λp π=>by simp at π;subst π;exact .same _) ?_
   ·match j,δ,ι with
    | 0,_,ι=>exact⟨r,ι,.inl rfl⟩
    | 1,_,ι=>exact⟨r,ι,.inl rfl⟩
    | 2,h,_=>exact absurd rfl h
    | j+3,_,ι=>exact⟨r,ι,.inl rfl⟩
   refine W.qZ (σ':=bz d3::.dead::.dead::QV::RC) (id:=1) ζ rfl rfl rfl (λj r δ ι=>?_) [(6,.ao [aT G,J5,C])] (λp π=>by simp at π;subst π;exact .ah (e:=.a0 [aT G,J5,C]) rfl) ?_
   ·match j,δ,ι with
    | 0,_,ι=>exact⟨r,ι,.inl rfl⟩
    | 1,h,_=>exact absurd rfl h
    | j+2,_,ι=>exact⟨r,ι,.inl rfl⟩
   refine W.ret ⟨_,rfl,?_⟩;refine⟨G,L,c,d3,?_,di,eζ,⟨R,QU,R⟩,by rw[FQ,QW],JX⟩;rw[<-hC,<-QX];exact .refl _
theorem eθ (d:cz) (hd:d.a7.length<2 ^ 63) (gw cells:Nat) (g5:1<=gw) (vr:gw<=6) (za:cells<=4) {σ:List Row} {K E:η->List Row->Prop} (an:σ[0]?=some (bz d))
  (θ:∀G L nc cJ,pQ G->xl L->nc<=cells/\G.length<=gw/\L.length<=3->cJ.a7.length<=d.a7.length->K (.a0 [aT G,.ms (σ.length+2) L.length 0 L.length,dC (σ.length+3) (List.replicate nc b1)]) (σ.set 0 (bz cJ)++(.dead::.dead::.cells 29 1 (L.map (bt I 1))::bW 60 1 (List.replicate nc b1)))) :
  ha Tryz.prog (.fn (.func 90) [] []) [.ah 0 1 0 0,I gw,I cells] σ K E:=by
 have π:∀nc,∀r∈bW 60 1 (List.replicate nc b1),AL r:=λnc r ι=>by
  unfold bW at ι;split at ι
  ·cases ι
  ·simp at ι;subst ι;refine .inl λe he a κ=>?_;have:=List.eq_of_mem_replicate he;subst this;simp[η.cells] at κ;subst κ;simp[iG]
 have J:=ab.m8 (eδ d hd gw cells g5 vr za) (bI.refl _) (K':=λa s=>∃G L nc cJ,a=.a0 [aT G,.ms 3 L.length 0 L.length,dC 4 (List.replicate nc b1)]/\pQ G/\xl L/\(nc<=cells/\G.length<=gw/\L.length<=3)/\s=bz cJ::.dead::.dead::.cells 29 1 (L.map (bt I 1))::bW 60 1 (List.replicate nc b1)/\cJ.a7.length<=d.a7.length) (λa s ⟨G,L,nc,cJ,J,U⟩=>⟨_,J,G,L,nc,cJ,rfl,U⟩)
 have aY:=ab.H4 (σ:=σ) J [0] ζ rfl (λj i δ=>by
  cases j with
  | zero=>simp at δ;subst δ;exact an
  | succ j=>simp at δ) (λr ι=>by simp at ι;subst ι;exact n' d) (by
   intro a κ;simp at κ;rcases κ with rfl|rfl|rfl
   ·exact Nat.zero_lt_one
   ·exact(aJ.z _).iM 1
   ·exact(aJ.z _).iM 1) (K':=K) (E':=E) (λa s=>by
   rintro⟨G,L,nc,cJ,rfl,Ρ,aa,aX,rfl,ca⟩;refine⟨λr ι=>?_,?_,?_⟩
   ·simp only[List.mem_cons] at ι;rcases ι with rfl|rfl|rfl|rfl|ι
    ·exact .inl (n' cJ)
    ·exact .inr rfl
    ·exact .inr rfl
    ·exact .inl λe he a κ=>J2 e he a κ
    ·exact π nc r ι
   ·intro a κ;simp only[List.mem_cons,List.not_mem_nil,or_false] at κ;rcases κ with rfl|rfl|rfl
    ·exact aJ.top (iG.2 tI) _
    ·show 3<_;simp
    ·unfold dC bW;split
     ·exact aJ.top ζ _
     ·show 4<_;simp
   ·have Γ:qw σ [0] (bz cJ::.dead::.dead::.cells 29 1 (L.map (bt I 1))::bW 60 1 (List.replicate nc b1))=σ.set 0 (bz cJ)++(.dead::.dead::.cells 29 1 (L.map (bt I 1))::bW 60 1 (List.replicate nc b1)):=by
     simp[qw,jd]
    have Δ:ed (names [0] σ.length (bz cJ::.dead::.dead::.cells 29 1 (L.map (bt I 1))::bW 60 1 (List.replicate nc b1))) (.a0 [aT G,.ms 3 L.length 0 L.length,dC 4 (List.replicate nc b1)])=.a0 [aT G,.ms (σ.length+2) L.length 0 L.length,dC (σ.length+3) (List.replicate nc b1)]:=by
     by_cases Φ:nc=0
     ·subst Φ;rfl
     ·rw[h0 (by simp[Φ]),h0 (by simp[Φ]),e6 (by simp[Φ])];show η.a0 [_,_,_]=_;simp[hS,names,List.range_succ]
    rw[Γ,Δ];exact θ G L nc cJ Ρ aa aX ca) (λa s h=>h.elim)
 exact ab.call (first:=[]) (captured:=[]) (by simpa[nX,ed,hS] using aY)
section
variable {P:Program} {T:bb} {A:List Nat} {m nt:Nat} {k:List Item} {env:Χ} {σ:List Row} {Z:List Item->Χ->List Row->Prop} {E:η->Χ->List Row->Prop}
theorem W.eι (Ι:bN P T) (env':Χ) (σ':List Row) {ops:Array Oper} {l:List Nat} (h:W P m nt k env' σ' Z E) (ι:run P T A nt ops l env σ (λe s=>W P m nt k env' σ' Z E->W P m nt k e s Z E) E):W P m nt (.inRegion ops l::k) env σ Z E:=by
 have:=HP (m:=m) (k:=k) (Z:=Z) Ι [] l env σ (D8 (λe s f=>W.bF (f h)) _ _ _ ι);simpa using this
end
def o0 (l:List c8):η:=gV 3 (l.map eB)
def bm (done:List (List c8)) (nc:Nat):List η:=done.map o0++List.replicate (nc-done.length) b1
theorem eκ (nc:Nat):bm [] nc=List.replicate nc b1:=by simp[bm]
theorem xm {done:List (List c8)} {nc:Nat} (h:done.length<=nc):(bm done nc).length=nc:=by simp[bm];omega
theorem eμ {done:List (List c8)}:bm done done.length=done.map o0:=by simp[bm]
theorem eν {done:List (List c8)} {nc:Nat} (h:done.length<nc):(bm done nc)[done.length]?=some b1:=by
 unfold bm;rw[hp ζ,List.length_map,Nat.sub_self,List.getElem?_replicate,if_pos R]
theorem eξ {done:List (List c8)} {nc:Nat} (h:done.length<nc) (aQ:List c8):(bm done nc).set done.length (o0 aQ)=bm (done++[aQ]) nc:=by
 unfold bm;obtain⟨r,ι⟩:∃r,nc-done.length=r+1:=⟨nc-done.length-1,R⟩;have e:nc-(done++[aQ]).length=r:=by simp;omega
 rw[ι,e,List.replicate_succ,List.set_append_right _ _ ζ,List.length_map,Nat.sub_self,List.set_cons_zero,List.map_append,List.append_assoc];rfl
theorem QY (l:List c8):aJ 0 (o0 l):=by
 unfold o0 gV;split
 ·simp
 ·refine iG.2 λe he a κ=>?_;obtain⟨x,_,rfl⟩:=List.mem_map.1 he;simp[η.cells] at κ;rcases κ with rfl|rfl|rfl<;>exact .z _
theorem QZ (l:List c8):(o0 l).cells=[o0 l]:=by
 unfold o0 gV;split<;>rfl
theorem Q0 {done:List (List c8)} {nc:Nat}:∀e∈bm done nc,e.cells=[e]/\aJ 0 e:=λe he=>by
 unfold bm at he;rcases List.mem_append.1 he with he|he
 ·obtain⟨x,_,rfl⟩:=List.mem_map.1 he;exact⟨QZ x,QY x⟩
 ·have:=List.eq_of_mem_replicate he;subst this;exact⟨rfl,ζ⟩
structure eο where
 d:cz
 done:List (List c8)
structure eπ where
 k:Nat
 d:cz
 aQ:List c8
theorem eρ (d:cz) (hd:d.a7.length<2 ^ 63) (gw cells:Nat) (g5:1<=gw) (vr:gw<=6) (za:cells<=4) :
  ab Tryz.prog 37 [.ah 0 1 0 0,I gw,I cells] [bz d] (λa r=>∃s cJ,c6 a (.a0 [aT s.ae,.ms 4 s.aj.length 0 s.aj.length,bx s.cells])/\(il s/\s.cells.length<=cells/\s.aj.length<=3)/\r=[bz cJ,.dead,.dead,.dead,.cells 29 1 (s.aj.map (bt I 1)),.dead]/\cJ.a7.length<=d.a7.length) (λ_ _=>False):=by
 refine ab.body Υ Tryz.func37 rfl rfl Tryz.ntmps37 rfl rfl ζ ?_
 repeat apply Ω
 refine dB (A:=[6]) Υ λΘ θ=>bD ?_;apply θ
 repeat apply Ω
 refine W.cy ?_;refine W.part (A:=[7]) Υ [0,1,2,3] [4,5] rfl λΘ θ=>?_;(try simp);(repeat (rw[al];simp[]));refine eθ d hd gw cells g5 vr za rfl ?_;intro G L nc d1 di ai ⟨m1,QU,BA⟩ kL;simp only[List.length_cons,List.length_nil,Nat.reduceAdd,List.set_cons_zero,List.cons_append,List.nil_append];obtain⟨cX,zb⟩:=aK L.length;obtain⟨im,q1⟩:=aK (L.map (bt I 1));have kQ:im.length=cX:=by rw[q1,List.length_map,zb]
 have mx:∀h,e3 h (.cells 29 1 im):=λh e he a κ=>by rw[q1] at he;exact(J2 e he a κ).mono (Nat.zero_le _)
 rw[<-zb,<-q1];obtain⟨zc,J6⟩:=aK (dC 5 (List.replicate nc b1));have B0:(nc=0/\zc=b1)\/(0<nc/\zc=.ms 5 nc 0 nc):=by
  by_cases Φ:nc=0
  ·subst Φ;exact .inl ⟨rfl,J6⟩
  ·exact .inr ⟨R,by rw[J6,h0 (by simp[Φ]),List.length_replicate]⟩
 have B1:∀done:List (List c8),done.length<=nc->(nc=0/\bW 60 1 (bm done nc)=[])\/(0<nc/\bW 60 1 (bm done nc)=[.cells 60 1 (bm done nc)]):=λdone hM=>by
  by_cases Φ:nc=0
  ·subst Φ;have:=dO.1 (xm hM);exact .inl ⟨rfl,by rw[this];rfl⟩
  ·exact .inr ⟨R,e6 (λh=>by have:=xm hM;rw[h] at this;simp at this;omega)⟩
 rw[<-J6,<-eκ];rw[M9,pv];apply θ;clear θ Θ;have zd:aJ ([bz d1,ek b1 b1 b1,.dead,.dead,.cells 29 1 im]++bW 60 1 (bm [] nc)).length zc:=by
  rcases B0 with⟨_,e⟩|⟨cF,e⟩
  ·rw[e];simp
  ·rcases B1 [] (Nat.zero_le _) with⟨an,_⟩|⟨_,Δ⟩
   ·omega
   ·rw[e,Δ];exact m5.2 ζ
 refine W.eι (A:=[7]) Υ [(0,.ah 0 1 0 0),(6,.ah 1 1 0 0),(7,.ao [aT G,.ms 4 cX 0 cX,zc])] ([bz d1,ek b1 b1 b1,.dead,.dead,.cells 29 1 im]++bW 60 1 (bm [] nc)) ?_ (by
  have bQ:∀h,∀r∈[bz d1,ek b1 b1 b1,.dead,.dead,.cells 29 1 im]++bW 60 1 (bm [] nc),e3 h r:=λh r ι=>by
   rcases List.mem_append.1 ι with ι|ι
   ·simp only[List.mem_cons,List.not_mem_nil,or_false] at ι;rcases ι with rfl|rfl|rfl|rfl|rfl
    ·exact xh d1 h
    ·intro e he a κ;simp[η.cells] at he;subst he;simp[η.cells] at κ;subst κ;simp
    ·trivial
    ·trivial
    ·exact mx h
   ·exact AY (λe he a κ=>by obtain⟨J,U⟩:=Q0 e he;rw[J] at κ;simp at κ;subst κ;exact U) r ι
  rcases B0 with⟨cF,e⟩|⟨cF,e⟩<;>rcases B1 [] (Nat.zero_le _) with⟨an,Δ⟩|⟨an,Δ⟩
  ·rw[Δ] at bQ zd;rw[e] at zd;rw[e,Δ];(try simp);(repeat (rw[al];simp[kQ]));(try simp[kQ]);intro hW;exact W.pD (σ0:=[bz d1,ek b1 b1 b1,.dead,.dead,.cells 29 1 im]) ζ (bQ _) (λa κ=>by
    simp[η.cells] at κ;rcases κ with rfl|rfl|rfl
    ·exact(iG.2 tI:aJ 0 _).mono (Nat.zero_le _)
    ·exact m5.2 (by first|omega|simp)
    ·exact zd) [(0,.ah 0 1 0 0),(6,.ah 1 1 0 0),(7,.ao [aT G,.ms 4 cX 0 cX,b1])] (by simp[ki,η.cells]) hW
  ·omega
  ·omega
  ·rw[Δ] at bQ zd;rw[e] at zd;rw[e,Δ];have n3:(bm [] nc).length=nc:=xm (Nat.zero_le _);(try simp);(repeat (rw[al];simp[n3,kQ]));(try simp[n3,kQ]);intro hW;exact W.pD (σ0:=[bz d1,ek b1 b1 b1,.dead,.dead,.cells 29 1 im,.cells 60 1 (bm [] nc)]) ζ (bQ _) (λa κ=>by
    simp[η.cells] at κ;rcases κ with rfl|rfl|rfl
    ·exact(iG.2 tI:aJ 0 _).mono (Nat.zero_le _)
    ·exact m5.2 (by first|omega|simp)
    ·exact zd) [(0,.ah 0 1 0 0),(6,.ah 1 1 0 0),(7,.ao [aT G,.ms 4 cX 0 cX,.ms 5 nc 0 nc])] (by simp[ki,η.cells]) hW)
 have Iu:=ai.lo;rw[<-zb] at Iu BA;refine Η ?_;refine W.iter (λx:eο=>x.done.length<=nc/\x.d.a7.length<=d.a7.length/\∀c∈x.done,pS cX c)
  (λx=>[(0,.ah 0 1 0 0),(6,.ah 1 1 0 0),(7,.ao [aT G,.ms 4 cX 0 cX,zc]),(8,I x.done.length)])
  (λx=>[bz x.d,ek b1 b1 b1,.dead,.dead,.cells 29 1 im]++bW 60 1 (bm x.done nc)) (λx=>nc-x.done.length) ⟨d1,[]⟩ ⟨ζ,kL,ζ⟩ rfl ζ (λx γ ω=>?_)
 obtain⟨D,done⟩:=x;obtain⟨hM,oa,xn⟩:=γ;simp only at hM oa xn ω ⊢;obtain⟨c,ze⟩:=aK done.length;rw[<-ze] at hM ω;rw[<-ze]
 repeat apply Ω
 refine W.iN (A:=[]) Υ [(20,a' (decide (c<nc))),(0,.ah 0 1 0 0),(6,.ah 1 1 0 0),(7,.ao [aT G,.ms 4 cX 0 cX,zc]),(8,I c)] ([bz D,ek b1 b1 b1,.dead,.dead,.cells 29 1 im]++bW 60 1 (bm done nc)) ?_ (by
  have n3:(bm done nc).length=nc:=xm R;rcases B0 with⟨cF,e⟩|⟨cF,e⟩<;>rcases B1 done R with⟨an,Δ⟩|⟨an,Δ⟩
  ·rw[e,Δ,an];(try simp);(repeat (rw[al];simp[]));(try simp[])
  ·omega
  ·omega
  ·rw[e,Δ];(try simp);(repeat (rw[al];simp[n3]));(try simp[n3]))
 refine W.eS rfl (λε=>?_) (λε=>?_)
 ·have ε:c<nc:=by simpa using ε
  rcases B0 with⟨cF,_⟩|⟨cF,e⟩
  ·omega
  rcases B1 done R with⟨an,_⟩|⟨an,Δ⟩
  ·omega
  obtain⟨X,qU⟩:=aK (bm done nc);have Q1:X.length=nc:=by rw[qU];exact xm R
  have Q2:X[c]?=some b1:=by rw[qU,ze];exact eν R
  have eς:∀aQ,X.set c (o0 aQ)=bm (done++[aQ]) nc:=λaQ=>by rw[qU,ze];exact eξ R aQ
  have Q3:∀e∈X,e.cells=[e]/\aJ 0 e:=by rw[qU];exact Q0
  have FR:X.set c b1=X:=by
   apply List.ext_getElem?;intro i;rw[List.getElem?_set];split
   ·rename_i e;subst e;split
    ·exact Q2.symm
    ·rename_i h;exact(h R).elim
   ·rfl
  have kl:L.length=cX:=zb.symm;rw[e,Δ,<-qU];simp only[List.cons_append,List.nil_append];have ψ:=Qo D R cX R;have yZ:=JO D cX;have xR:∀x∈(hE D cX).1,0<=x/\x<cX:=λx h=>QG h;have tJ:=QH D cX;have eτ:=JM D cX;obtain⟨ord,vp⟩:=b2 ((hE D cX).1);obtain⟨B2,eυ⟩:=b2 ((hE D cX).2);rw[vp] at ψ yZ xR tJ;rw[eυ] at ψ eτ;refine hz kQ λΘ θ=>?_;refine ee.g (ψ) (bD ?_);apply θ;have Ν:=sm B2 R cX;obtain⟨t0,t1⟩:=qW B2 cX R R;obtain⟨eN,jX⟩:∃k:Nat,hD B2 cX=k:=⟨(hD B2 cX).toNat,R⟩;obtain⟨pR,q0⟩:=b2 (B2.after cX);have JY:pR.a7.length<=d.a7.length:=by rw[<-q0];exact Nat.le_trans (k' _ _) R
  rw[jX,q0] at Ν;rw[jX] at t1;refine hz kQ λΘ θ=>?_;refine ee.g (Ν) (bD ?_);apply θ
  repeat apply Ω
  refine W.iter (λx:eπ=>x.aQ.length+x.k=eN/\x.d.a7.length<=d.a7.length/\x.aQ.map (·.light)=((ord.take eN).drop x.k).reverse/\∀p∈x.aQ,(0<=p.seen/\p.seen<=63)/\(0<=p.bare/\p.bare<=63)/\rN p.seen p.bare=0)
   (λx=>[(0,.ah 0 1 0 0),(6,.ah 1 1 0 0),(7,.ao [aT G,.ms 4 cX 0 cX,.ms 5 nc 0 nc]),(8,I c),(9,bt I 1 ord),(10,I x.k)])
   (λx=>bz x.d::ek b1 b1 b1::.dead::.dead::.cells 29 1 im::.cells 60 1 (X.set c (dC 6 (x.aQ.map eB)))::bW 28 3 (x.aQ.map eB)) (λx=>x.k) ⟨eN,pR,[]⟩
   ⟨ζ,JY,ζ,ζ⟩ (by simp only[List.map_nil];rw[show dC 6 []=b1 from rfl,FR];rfl) ζ (λx γ BZ=>?_)
  obtain⟨k,E,aQ⟩:=x;obtain⟨χ,J7,iE,J8⟩:=γ;simp only at χ J7 iE J8 BZ ⊢;refine Η ?_;refine W.eS rfl (λa3=>?_) (λa3=>?_)
  ·have jX:0<k:=by simpa using a3
   obtain⟨j,δ⟩:∃j,k=j+1:=⟨k-1,R⟩;have hw:IntKind.i64.wrap ((k:Int)-1)=j:=by rw[IntWalk.i64_in _ R];omega
   have Jh:j<ord.length:=R
   have de:ord[j]?=some ord[j]:=a8 Jh;obtain⟨pO,d'⟩:=aK (ord[j]);rw[<-d'] at de;have Q4:∀h,ord[j]'h=pO:=λh=>d'.symm;have zf:=sm E R 63;obtain⟨xj,a1⟩:=qW E 63 br br;obtain⟨v9,tm⟩:=b2 (hD E 63);obtain⟨pZ,Q5⟩:=b2 (E.after 63);have eφ:pZ.a7.length<=d.a7.length:=by rw[<-Q5];exact Nat.le_trans (k' _ _) J7
   rw[tm,Q5] at zf;rw[tm] at xj a1;have kq:=sm pZ R 63;obtain⟨dd,bC⟩:=qW pZ 63 br br;obtain⟨kg,kW⟩:=b2 (hD pZ 63);obtain⟨p0,Q6⟩:=b2 (pZ.after 63);have eχ:p0.a7.length<=d.a7.length:=by rw[<-Q6];exact Nat.le_trans (k' _ _) eφ
   rw[kW,Q6] at kq;rw[kW] at dd bC;obtain⟨⟨h8,eP⟩,_,_⟩:=J3 ⟨xj,a1⟩ ⟨dd,bC⟩;obtain⟨ry,J9⟩:=b2 (ga .i64 v9 kg);rw[J9] at h8 eP;have BB:=cΡ p0 R [0,0,ry] ζ ζ;obtain⟨xo,eW⟩:=b2 (([0,0,ry]:List Int).getD (y2 p0 [0,0,ry]) 0);have Q7:0<=xo/\xo<=63:=by
    rw[<-eW]
    match y2 p0 [0,0,ry] with
    | 0=>simp
    | 1=>simp
    | 2=>simp;omega
    | n+3=>simp
   obtain⟨zg,Q8⟩:=b2 (p0.after ((([0,0,ry]:List Int).length:Int)-1));have eψ:zg.a7.length<=d.a7.length:=by rw[<-Q8];exact Nat.le_trans (k' _ _) eχ
   rw[eW,Q8] at BB;obtain⟨so,mH⟩:=aK (ek b1 b1 b1::.dead::.dead::.cells 29 1 im::.cells 60 1 (X.set c (dC 6 (aQ.map eB)))::bW 28 3 (aQ.map eB):List Row);have B3:(dC 6 (aQ.map eB)=b1/\bW 28 3 (aQ.map eB)=[]/\aQ=[])\/(dC 6 (aQ.map eB)=.ms 6 aQ.length 0 aQ.length/\bW 28 3 (aQ.map eB)=[.cells 28 3 (aQ.map eB)]/\0<aQ.length):=by
    by_cases Φ:aQ=[]
    ·subst Φ;exact .inl ⟨rfl,rfl,rfl⟩
    ·have gu:aQ.map eB≠[]:=by simpa using Φ
     exact .inr ⟨by rw[h0 gu,List.length_map],e6 gu,List.length_pos_iff.2 Φ⟩
   rw[<-mH]
   repeat apply Ω
   refine W.JK (A:=[11]) Υ mixed [(0,.ah 0 1 0 0),(6,.ah 1 1 0 0),(7,.ao [aT G,.ms 4 cX 0 cX,.ms 5 nc 0 nc]),(8,I c),(9,bt I 1 ord),(10,I k),(11,.ah (so.length+1) 1 0 0)] (bz zg::so++[.cells 28 3 [.a0 [I pO,I xo,I 0]]]) ?_ (by
    rcases B3 with⟨f1,f2,f3⟩|⟨f1,f2,f3⟩
    ·rw[f1,f2] at mH;rw[mH];simp;(repeat (rw[oZ];simp[hw,de,Q4,yZ]));(try rw[oY]);refine⟨R,?_⟩;refine ee.h (zf) (xe ?_);refine ee.h (kq) (BM J9 ?_);refine ee.e BB (.cons .ex .nil) ζ ζ ?_;simp;(repeat (rw[oZ];simp[]));(try rw[oY]);refine⟨hg (by kernel_rfl),hg (by kernel_rfl),?_⟩;simp
    ·rw[f1,f2] at mH;rw[mH];simp;(repeat (rw[oZ];simp[hw,de,Q4,yZ]));(try rw[oY]);refine⟨R,?_⟩;refine ee.h (zf) (xe ?_);refine ee.h (kq) (BM J9 ?_);refine ee.e BB (.cons .ex .nil) ζ ζ ?_;simp;(repeat (rw[oZ];simp[]));(try rw[oY]);refine⟨hg (by kernel_rfl),hg (by kernel_rfl),?_⟩;simp)
   have oS:=sm zg R 63;obtain⟨dY,c1⟩:=qW zg 63 br br;obtain⟨nK,qV⟩:=b2 (hD zg 63);obtain⟨B4,Q9⟩:=b2 (zg.after 63);have eω:B4.a7.length<=d.a7.length:=by rw[<-Q9];exact Nat.le_trans (k' _ _) eψ
   rw[qV,Q9] at oS;rw[qV] at dY c1;have Bq:=sm B4 R 63;obtain⟨d0,Q'⟩:=qW B4 63 br br;obtain⟨qd,xp⟩:=b2 (hD B4 63);obtain⟨q2,Ra⟩:=b2 (B4.after 63);have eΑ:q2.a7.length<=d.a7.length:=by rw[<-Ra];exact Nat.le_trans (k' _ _) eω
   rw[xp,Ra] at Bq;rw[xp] at d0 Q';obtain⟨Rb,_,_⟩:=J3 ⟨dY,c1⟩ ⟨d0,Q'⟩;obtain⟨z3,xq⟩:=b2 (ga .i64 nK qd);rw[xq] at Rb;obtain⟨_,rY,Φ⟩:=J3 Rb Q7;obtain⟨zt,uL⟩:=b2 (pj .i64 z3 xo);rw[uL] at rY Φ
   repeat apply Ω
   refine W.JK (A:=[]) Υ mixed [(11,.ah (so.length+1) 1 0 0),(0,.ah 0 1 0 0),(6,.ah 1 1 0 0),(7,.ao [aT G,.ms 4 cX 0 cX,.ms 5 nc 0 nc]),(8,I c),(9,bt I 1 ord),(10,I k)] ((bz q2::so)++[.cells 28 3 [.a0 [I pO,I xo,I zt]]]) ?_ (by
    rcases B3 with⟨f1,f2,f3⟩|⟨f1,f2,f3⟩
    ·rw[f1,f2] at mH;rw[mH];simp;(repeat (rw[oZ];simp[]));(try rw[oY]);refine ee.h (oS) (xe ?_);refine ee.h (Bq) (BM (υ xq uL) ?_);refine⟨hg (by kernel_rfl),hg (by kernel_rfl),?_⟩;simp
    ·rw[f1,f2] at mH;rw[mH];simp;(repeat (rw[oZ];simp[]));(try rw[oY]);refine ee.h (oS) (xe ?_);refine ee.h (Bq) (BM (υ xq uL) ?_);refine⟨hg (by kernel_rfl),hg (by kernel_rfl),?_⟩;simp)
   have eΒ:∀r∈bz q2::so,e3 (bz q2::so).length r:=λr ι=>by
    rcases List.mem_cons.1 ι with rfl|ι
    ·exact xh q2 _
    have hlen:0<aQ.length->6<(bz q2::so).length:=λh=>by
     rcases B3 with⟨_,_,f3⟩|⟨_,f2,_⟩
     ·rw[f3] at h;simp at h
     ·rw[mH,f2];simp
    generalize (bz q2::so).length=N at hlen;rw[mH] at ι;simp only[List.mem_cons] at ι;rcases ι with rfl|rfl|rfl|rfl|rfl|ι
    ·intro e he a κ;simp[η.cells] at he;subst he;simp[η.cells] at κ;subst κ;simp
    ·trivial
    ·trivial
    ·exact mx _
    ·intro e he a κ;rcases List.mem_or_eq_of_mem_set he with he|rfl
     ·obtain⟨J,U⟩:=Q3 e he;rw[J] at κ;simp at κ;subst κ;exact U.mono (Nat.zero_le _)
     ·rcases B3 with⟨f1,_,_⟩|⟨f1,_,f3⟩
      ·rw[f1] at κ;simp[η.cells] at κ;subst κ;simp
      ·rw[f1] at κ;simp[η.cells] at κ;subst κ;exact m5.2 (hlen f3)
    ·refine AY (λe he a κ=>?_) r ι;obtain⟨x,_,rfl⟩:=List.mem_map.1 he;simp[η.cells] at κ;rcases κ with rfl|rfl|rfl<;>exact .z _
   have jΧ:6<=(bz q2::so).length:=by rw[mH];simp
   refine W.pD (σ0:=bz q2::so) ζ eΒ (λa κ=>by simp[η.cells] at κ;rcases κ with rfl|rfl|rfl<;>exact .z _) [(11,.ao [I pO,I xo,I zt]),(0,.ah 0 1 0 0),(6,.ah 1 1 0 0),(7,.ao [aT G,.ms 4 cX 0 cX,.ms 5 nc 0 nc]),(8,I c),(9,bt I 1 ord),(10,I k)] (λp π=>by
    simp only[List.mem_cons,List.not_mem_nil,or_false] at π;rcases π with rfl|rfl|rfl|rfl|rfl|rfl|rfl
    ·exact .inr ⟨rfl,rfl⟩
    ·exact .inl ⟨rfl,ki.2 R⟩
    ·exact .inl ⟨rfl,ki.2 R⟩
    ·refine .inl ⟨rfl,HR.2 λa κ=>?_⟩;simp only[List.mem_cons,List.not_mem_nil,or_false] at κ;rcases κ with rfl|rfl|rfl
     ·exact(iG.2 tI:aJ 0 _).mono (Nat.zero_le _)
     ·exact m5.2 (by first|omega|simp)
     ·exact m5.2 R
    ·exact .inl ⟨rfl,.z _⟩
    ·exact .inl ⟨rfl,(iG.2 (λe he a κ=>by obtain⟨x,_,rfl⟩:=List.mem_map.1 he;simp[η.cells] at κ;subst κ;exact .z _):aJ 0 _).mono (Nat.zero_le _)⟩
    ·exact .inl ⟨rfl,.z _⟩) ?_
   obtain⟨vI,J'⟩:=aK (⟨pO,xo,zt⟩:c8);have bA:(aQ++[vI]).map eB≠[]:=ζ
   repeat apply Ω
   refine W.cΟ (A:=[70]) Υ mixed [(0,.ah 0 1 0 0),(6,.ah 1 1 0 0),(7,.ao [aT G,.ms 4 cX 0 cX,.ms 5 nc 0 nc]),(8,I c),(9,bt I 1 ord),(10,I k)] (bz q2::ek b1 b1 b1::.dead::.dead::.cells 29 1 im::.cells 60 1 (X.set c (dC 6 ((aQ++[vI]).map eB)))::bW 28 3 ((aQ++[vI]).map eB)) ?_ (by
    rw[h0 bA,e6 bA,List.length_map,List.length_append,List.map_append,List.map_cons,List.map_nil,J'];rcases B3 with⟨f1,f2,f3⟩|⟨f1,f2,f3⟩
    ·rw[f1,f2] at mH;rw[mH,FR,f3];simp;(repeat (rw[dq];simp[Q1,Q2]));(try rw[dp]);refine⟨R,?_⟩;refine⟨hg (by kernel_rfl),?_⟩;simp
    ·rw[f1,f2] at mH;rw[mH];have eΓ:∀v,(X.set c v)[c]?=some v:=λv=>by rw[List.getElem?_set_self R]
     have eΔ:∀v h,(X.set c v)[c]'h=v:=λv h=>List.getElem_set_self h;simp;(repeat (rw[dq];simp[Q1,eΓ,eΔ]));(try rw[dp]);refine⟨R,R,R,?_⟩;refine⟨hg (by kernel_rfl),?_⟩;simp)
   refine aE hw ?_;have lC:(ord.take eN).drop j=pO::(ord.take eN).drop k:=by
    have iK:j<(ord.take eN).length:=by rw[List.length_take];omega
    rw[List.drop_eq_getElem_cons iK,δ,List.getElem_take,d']
   refine W.to (BZ ⟨j,q2,aQ++[vI]⟩ ⟨by show(aQ++[vI]).length+j=eN;rw[List.length_append];simp;omega,eΑ,?_,λp π=>?_⟩ (by show j<k;omega)) ζ (by simp[hw])
   ·show(aQ++[vI]).map (·.light)=((ord.take eN).drop j).reverse;rw[lC,List.map_append,iE,List.reverse_cons,J'];rfl
   ·rcases List.mem_append.1 π with π|π
    ·exact J8 p π
    ·simp at π;subst π;subst J';exact⟨Q7,rY,Φ⟩
  ·have jX:k=0:=by simp at a3;omega
   subst jX;have jΨ:aQ.length=eN:=R;rw[List.drop_zero] at iE;have pe:pS cX aQ:=by
    refine⟨R,?_,λp π=>?_⟩
    ·rw[iE];unfold List.Nodup;rw[List.pairwise_reverse];exact(tJ.sublist (List.take_sublist _ _)).imp Ne.symm
    ·have hm:p.light∈aQ.map (·.light):=List.mem_map.2 ⟨p,π,rfl⟩;rw[iE,List.mem_reverse] at hm;have:=xR _ (List.mem_of_mem_take hm);obtain⟨Ρ,aa,aX⟩:=J8 p π;exact⟨this,Ρ,aa,aX⟩
   have hw:IntKind.i64.wrap ((c:Int)+1)=((c+1:Nat):Int):=by rw[IntWalk.i64_in _ R];omega
   have FT:(done++[aQ]).length=c+1:=by simp;omega
   have zh:=ω ⟨E,done++[aQ]⟩ ⟨by show(done++[aQ]).length<=nc;omega,J7,λx γ=>by
    rcases List.mem_append.1 γ with γ|γ
    ·exact xn x γ
    ·simp at γ;subst γ;exact pe⟩ (by show nc-(done++[aQ]).length<nc-c;omega)
   have eΕ:bm (done++[aQ]) nc≠[]:=λh=>by
    have:=xm (done:=done++[aQ]) (nc:=nc) R;rw[h] at this;simp at this;omega
   simp only[FT] at zh;rw[e6 eΕ,<-eς aQ,e] at zh;refine W.exit rfl ?_;by_cases Φ:aQ=[]
   ·subst Φ;rw[show o0 []=b1 from rfl,FR] at zh;rw[show dC 6 (([]:List c8).map eB)=b1 from rfl,show bW 28 3 (([]:List c8).map eB)=[] from rfl,FR];refine aE hw ?_;exact W.to zh rfl (by simp[hw])
   ·have gu:aQ.map eB≠[]:=by simpa using Φ
    have Rc:o0 aQ=.sl false 3 (aQ.map eB):=by unfold o0 gV;rw[if_neg (by simpa using Φ)]
    rw[Rc] at zh;rw[h0 gu,e6 gu];refine W.qZ (σ':=bz E::ek b1 b1 b1::.dead::.dead::.cells 29 1 im::.cells 60 1 (X.set c (.sl false 3 (aQ.map eB)))::[.dead]) (id:=6) ζ rfl rfl rfl (λi r hi ι=>?_) [(0,.ah 0 1 0 0),(6,.ah 1 1 0 0),(7,.ao [aT G,.ms 4 cX 0 cX,.ms 5 nc 0 nc]),(8,I c)] (λp π=>by
     simp only[List.mem_cons,List.not_mem_nil,or_false] at π;rcases π with rfl|rfl|rfl|rfl<;>exact .same _) ?_
    ·match i,hi,ι with
     | 0,_,ι=>exact⟨r,ι,.inl rfl⟩
     | 1,_,ι=>exact⟨r,ι,.inl rfl⟩
     | 2,_,ι=>exact⟨r,ι,.inl rfl⟩
     | 3,_,ι=>exact⟨r,ι,.inl rfl⟩
     | 4,_,ι=>exact⟨r,ι,.inl rfl⟩
     | 5,_,ι=>
      simp at ι;subst ι;refine⟨_,rfl,.inr ⟨60,1,_,_,rfl,rfl,ζ,λy e aM J U=>?_⟩⟩;by_cases Κ:y=c
      ·subst Κ;rw[List.getElem?_set_self R] at J U;cases J;cases U;refine⟨rfl,λx a bT μ Ε=>?_⟩
       match x with
       | 0=>simp[η.cells] at μ Ε;subst μ;subst Ε;have:=sn.ms (id:=6) (k:=3) (l:=aQ.map eB);rwa [List.length_map] at this
       | x+1=>simp[η.cells] at μ
      ·rw[List.getElem?_set_ne (Ne.symm Κ)] at J U;rw[J] at U;cases U;exact⟨rfl,λx a bT μ Ε=>by rw[μ] at Ε;cases Ε;exact .same _⟩
     | 6,h,_=>exact absurd rfl h
     | i+7,_,ι=>simp at ι
    refine W.drop (h:=6) ζ ζ (λi r hi ι=>?_) rfl [(0,.ah 0 1 0 0),(6,.ah 1 1 0 0),(7,.ao [aT G,.ms 4 cX 0 cX,.ms 5 nc 0 nc]),(8,I c)] ?_ ?_
    ·match i,hi,ι with
     | 0,_,ι=>simp at ι;subst ι;exact xh E 6
     | 1,_,ι=>simp at ι;subst ι;intro e he a κ;simp[η.cells] at he;subst he;simp[η.cells] at κ;subst κ;simp
     | 2,_,ι=>simp at ι;subst ι;trivial
     | 3,_,ι=>simp at ι;subst ι;trivial
     | 4,_,ι=>simp at ι;subst ι;exact mx _
     | 5,_,ι=>
      simp at ι;subst ι;intro e he a κ;rcases List.mem_or_eq_of_mem_set he with he|rfl
      ·obtain⟨J,U⟩:=Q3 e he;rw[J] at κ;simp at κ;subst κ;exact U.mono (Nat.zero_le _)
      ·simp[η.cells] at κ;subst κ;have:=QY aQ;rw[Rc] at this;exact this.mono (Nat.zero_le _)
     | i+6,h,_=>omega
    ·intro p π;simp only[List.mem_cons,List.not_mem_nil,or_false] at π;rcases π with rfl|rfl|rfl|rfl
     ·exact⟨rfl,ki.2 R⟩
     ·exact⟨rfl,ki.2 R⟩
     ·refine⟨rfl,HR.2 λa κ=>?_⟩;simp only[List.mem_cons,List.not_mem_nil,or_false] at κ;rcases κ with rfl|rfl|rfl
      ·exact(iG.2 tI:aJ 0 _).mono (Nat.zero_le _)
      ·exact m5.2 (by first|omega|simp)
      ·exact m5.2 R
     ·exact⟨rfl,.z _⟩
    refine aE hw ?_;exact W.to zh rfl (by simp[hw])
 ·have ε:c=nc:=by simp at ε;omega
  subst ε;refine W.exit rfl ?_;have pq:il ⟨G,L,done⟩:=⟨di,ai,by show done.length<=4;omega,λx γ=>by show pS L.length x;rw[<-zb];exact xn x γ⟩;have eΖ:bm done c=done.map o0:=by rw[ze];exact eμ
  have jh:L.length=cX:=zb.symm
  have FT:done.length=c:=ze.symm;rcases B0 with⟨cF,e⟩|⟨cF,e⟩<;>rcases B1 done R with⟨an,Δ⟩|⟨an,Δ⟩
  ·rw[e,Δ];refine aE kQ ?_;have eΗ:done=[]:=dO.1 R;refine W.to (σ':=[bz D,ek (aT G) (.ms 4 cX 0 cX) b1,.dead,.dead,.cells 29 1 im]) (env':=[(6,.ah 1 1 0 0)]) ?_ ζ ζ;refine W.pad (σ':=[bz D,ek (aT G) (.ms 4 cX 0 cX) b1,.dead,.dead,.cells 29 1 im]) 60 1 rfl (λj r h=>⟨r,h,.inl rfl⟩) [(6,.ah 1 1 0 0)] (λp π=>by simp at π;subst π;exact .same _) ?_;refine W.qZ (σ':=[bz D,ek (aT G) (.ms 4 cX 0 cX) b1,.dead,.dead,.cells 29 1 im,.dead]) (id:=5) (k:=1) (l:=[]) ζ rfl rfl rfl (λj r δ ι=>?_) [(6,.ah 1 1 0 0)] (λp π=>by simp at π;subst π;exact .same _) ?_
   ·match j,δ,ι with
    | 0,_,ι=>exact⟨r,ι,.inl rfl⟩
    | 1,_,ι=>exact⟨r,ι,.inl rfl⟩
    | 2,_,ι=>exact⟨r,ι,.inl rfl⟩
    | 3,_,ι=>exact⟨r,ι,.inl rfl⟩
    | 4,_,ι=>exact⟨r,ι,.inl rfl⟩
    | 5,h,_=>exact absurd rfl h
    | j+6,_,ι=>simp at ι
   refine W.qZ (σ':=[bz D,.dead,.dead,.dead,.cells 29 1 im,.dead]) (id:=1) ζ rfl rfl rfl (λj r δ ι=>?_) [(6,.ao [aT G,.ms 4 cX 0 cX,b1])] (λp π=>by simp at π;subst π;exact .ah (e:=.a0 [aT G,.ms 4 cX 0 cX,b1]) rfl) ?_
   ·match j,δ,ι with
    | 0,_,ι=>exact⟨r,ι,.inl rfl⟩
    | 1,h,_=>exact absurd rfl h
    | j+2,_,ι=>exact⟨r,ι,.inl rfl⟩
   refine W.ret ⟨_,rfl,⟨G,L,done⟩,D,?_,⟨pq,by show done.length<=cells;omega,by show L.length<=3;omega⟩,by rw[q1],oa⟩;show c6 _ (.a0 [aT G,.ms 4 L.length 0 L.length,bx done]);rw[eΗ,jh];exact .a0 (.cons (.refl _) (.cons (.refl _) (.cons .nil .nil)))
  ·omega
  ·omega
  ·have n3:(bm done c).length=c:=xm R;rw[e,Δ];refine aE (υ n3 kQ) ?_;refine W.to (σ':=[bz D,ek (aT G) (.ms 4 cX 0 cX) (.ms 5 c 0 c),.dead,.dead,.cells 29 1 im,.cells 60 1 (bm done c)]) (env':=[(6,.ah 1 1 0 0)]) ?_ ζ ζ;have sI:sn 5 1 (bm done c) (.ms 5 c 0 c) (.sl false 1 (bm done c)):=by
    have:=sn.ms (id:=5) (k:=1) (l:=bm done c)
    rwa [n3] at this
   have cu:BO 5 1 (bm done c) (ek (aT G) (.ms 4 cX 0 cX) (.ms 5 c 0 c)) (ek (aT G) (.ms 4 cX 0 cX) (.sl false 1 (bm done c))):=by
    refine .inr ⟨26,3,_,_,rfl,rfl,rfl,λi e aM J U=>?_⟩
    match i with
    | 0=>
     simp at J U;subst J;subst U;refine⟨rfl,λx a bT μ Ε=>?_⟩
     match x with
     | 0=>simp[η.cells] at μ Ε;subst μ;subst Ε;exact .same _
     | 1=>simp[η.cells] at μ Ε;subst μ;subst Ε;exact .same _
     | 2=>simp[η.cells] at μ Ε;subst μ;subst Ε;exact sI
     | x+3=>simp[η.cells] at μ
    | i+1=>simp at J
   refine W.qZ (σ':=[bz D,ek (aT G) (.ms 4 cX 0 cX) (.sl false 1 (bm done c)),.dead,.dead,.cells 29 1 im,.dead]) (id:=5) ζ rfl rfl rfl (λj r δ ι=>?_) [(6,.ah 1 1 0 0)] (λp π=>by simp at π;subst π;exact .same _) ?_
   ·match j,δ,ι with
    | 0,_,ι=>exact⟨r,ι,.inl rfl⟩
    | 1,_,ι=>simp at ι;subst ι;exact⟨_,rfl,cu⟩
    | 2,_,ι=>exact⟨r,ι,.inl rfl⟩
    | 3,_,ι=>exact⟨r,ι,.inl rfl⟩
    | 4,_,ι=>exact⟨r,ι,.inl rfl⟩
    | 5,h,_=>exact absurd rfl h
    | j+6,_,ι=>simp at ι
   refine W.qZ (σ':=[bz D,.dead,.dead,.dead,.cells 29 1 im,.dead]) (id:=1) ζ rfl rfl rfl (λj r δ ι=>?_) [(6,.ao [aT G,.ms 4 cX 0 cX,.sl false 1 (bm done c)])] (λp π=>by simp at π;subst π;exact .ah (e:=.a0 [aT G,.ms 4 cX 0 cX,.sl false 1 (bm done c)]) rfl) ?_
   ·match j,δ,ι with
    | 0,_,ι=>exact⟨r,ι,.inl rfl⟩
    | 1,h,_=>exact absurd rfl h
    | j+2,_,ι=>exact⟨r,ι,.inl rfl⟩
   rw[eΖ];refine W.ret ⟨_,rfl,⟨G,L,done⟩,D,?_,⟨pq,by show done.length<=cells;omega,by show L.length<=3;omega⟩,by rw[q1],oa⟩;show c6 _ (.a0 [aT G,.ms 4 L.length 0 L.length,bx done]);rw[jh];exact .a0 (.cons (.refl _) (.cons (.refl _) (.cons (.map λx _=>.one .acc (QZ x) rfl) .nil)))
theorem eΘ (d:cz) (hd:d.a7.length<2 ^ 63) (gw cells:Nat) (g5:1<=gw) (vr:gw<=6) (za:cells<=4) {σ:List Row} {K E:η->List Row->Prop} (an:σ[0]?=some (bz d))
  (θ:∀s cJ,il s->s.cells.length<=cells->s.aj.length<=3->cJ.a7.length<=d.a7.length->K (.a0 [aT s.ae,.ms (σ.length+3) s.aj.length 0 s.aj.length,bx s.cells]) (σ.set 0 (bz cJ)++[.dead,.dead,.dead,.cells 29 1 (s.aj.map (bt I 1)),.dead])) :
  ha Tryz.prog (.fn (.func 37) [] []) [.ah 0 1 0 0,I gw,I cells] σ K E:=by
 have J:=ab.m8 (eρ d hd gw cells g5 vr za) (bI.refl _) (K':=λa r=>∃s cJ,a=.a0 [aT s.ae,.ms 4 s.aj.length 0 s.aj.length,bx s.cells]/\(il s/\s.cells.length<=cells/\s.aj.length<=3)/\r=[bz cJ,.dead,.dead,.dead,.cells 29 1 (s.aj.map (bt I 1)),.dead]/\cJ.a7.length<=d.a7.length) (λa r ⟨s,cJ,J,U⟩=>⟨_,J,s,cJ,rfl,U⟩)
 have aY:=ab.H4 (σ:=σ) J [0] ζ rfl (λj i δ=>by
  cases j with
  | zero=>simp at δ;subst δ;exact an
  | succ j=>simp at δ) (λr ι=>by simp at ι;subst ι;exact n' d) (by
   intro a κ;simp at κ;rcases κ with rfl|rfl|rfl
   ·exact Nat.zero_lt_one
   ·exact(aJ.z _).iM 1
   ·exact(aJ.z _).iM 1) (K':=K) (E':=E) (λa r=>by
   rintro⟨s,cJ,rfl,⟨Ρ,aa,aX⟩,rfl,ca⟩;refine⟨λr ι=>?_,?_,?_⟩
   ·simp only[List.mem_cons,List.not_mem_nil,or_false] at ι;rcases ι with rfl|rfl|rfl|rfl|rfl|rfl
    ·exact .inl (n' cJ)
    ·exact .inr rfl
    ·exact .inr rfl
    ·exact .inr rfl
    ·exact .inl λe he a κ=>J2 e he a κ
    ·exact .inr rfl
   ·intro a κ;simp only[List.mem_cons,List.not_mem_nil,or_false] at κ;rcases κ with rfl|rfl|rfl
    ·exact aJ.top (iG.2 tI) _
    ·show 4<_;simp
    ·exact aJ.top (by simp[iG,η.cells]) _
   ·have Γ:qw σ [0] [bz cJ,.dead,.dead,.dead,.cells 29 1 (s.aj.map (bt I 1)),.dead]=σ.set 0 (bz cJ)++[.dead,.dead,.dead,.cells 29 1 (s.aj.map (bt I 1)),.dead]:=by
     simp[qw,jd]
    have Δ:ed (names [0] σ.length [bz cJ,.dead,.dead,.dead,.cells 29 1 (s.aj.map (bt I 1)),.dead]) (.a0 [aT s.ae,.ms 4 s.aj.length 0 s.aj.length,bx s.cells])=.a0 [aT s.ae,.ms (σ.length+3) s.aj.length 0 s.aj.length,bx s.cells]:=rfl;rw[Γ,Δ];exact θ s cJ Ρ aa aX ca) (λa s h=>h.elim)
 exact ab.call (first:=[]) (captured:=[]) (by simpa[nX,ed,hS] using aY)
end Go.TL
