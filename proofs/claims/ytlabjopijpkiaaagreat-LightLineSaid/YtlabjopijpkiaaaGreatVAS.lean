import Derived.Test.YtlabjopijpkiaaaGreatVAN
import Derived.Test.YtlabjopijpkiaaaGreatVAR
set_option maxHeartbeats 16000000
set_option maxRecDepth 20000
set_option linter.unusedSectionVars false
set_option linter.unusedSimpArgs false
set_option linter.unusedVariables false
namespace Go.TL
open Go.Proofs
variable [bn]
theorem eT.struct {h id k:Nat} {σ:List Row} {t:TypeId} {l cs:List θ} (b9:h<=id) (bS:σ[id]?=some (.cells t k [.a5 l])) (hlen:cs.length=l.length) (H:∀(x:Nat) (a cz:θ),l[x]?=some a->cs[x]?=some cz->eT h σ a cz):eT h σ (.ar id 1 0 0) (.ao cs):=
 .ar b9 bS rfl rfl (by simp[θ.cells,hlen]) λx a cz J U=>H x a cz (by simpa[θ.cells] using J) U
abbrev g4 (a b c:θ):Row:=.cells 26 3 [.a5 [a,b,c]]
abbrev dN (r:Int×Int):θ×θ:=(aF r,a6 true)
theorem WV (x y:Int×Int):aeqv bk 112 (aF x) (aF y)=some (decide (x=y)):=by
 simp[aeqv,j0,mJ];rw[Bool.eq_iff_iff];simp[Prod.ext_iff]
theorem WW (r:Int×Int):∀(l:List (Int×Int)) (n:Nat),r∉l->hX bk 112 (aF r) (l.map dN) n=some none:=by
 intro l
 induction l with
 | nil=>intro n _;rfl
 | cons x l Β=>
  intro n h;simp only[List.map_cons,hX];have J:¬r=x:=λe=>h (by simp[e]);have:=WV r x;rw[this,decide_eq_false J];exact Β (n+1) λhm=>h (by simp[hm])
def l' (i j:Nat):List (Int×Int):=(List.range j).map λy:Nat=>((i:Int)-1,(y:Int)-1)
def ot (n i:Nat):List (Int×Int):=(List.range i).flatMap λx=>l' x (n+1)
def Ak (n:Nat):List (Int×Int):=ot n (n+1)
theorem NB (i j:Nat):l' i (j+1)=l' i j++[((i:Int)-1,(j:Int)-1)]:=by simp[l',List.range_succ]
theorem HY (n i:Nat):ot n (i+1)=ot n i++l' i (n+1):=by simp[ot,List.range_succ]
theorem Eb {i j:Nat} {r:Int×Int} (h:r∈l' i j):r.1=(i:Int)-1/\r.2<(j:Int)-1:=by
 unfold l' at h;obtain⟨y,Ι,rfl⟩:=List.mem_map.1 h;have:=List.mem_range.1 Ι;exact⟨rfl,by simp;omega⟩
theorem NC {n i:Nat} {r:Int×Int} (h:r∈ot n i):r.1<(i:Int)-1:=by
 unfold ot at h;obtain⟨x,γ,U⟩:=List.mem_flatMap.1 h;have:=List.mem_range.1 γ;have:=(Eb U).1;omega
def jj (s:aT) (p:Int×Int) (c:Nat):List (Int×Int):=(Ak s.au.length).filter λr=>s.sH p r c
theorem WX (i j:Nat):(l' i j).Pairwise λx y=>x.1<y.1\/(x.1=y.1/\x.2<y.2):=by
 induction j with
 | zero=>simp[l']
 | succ j Β=>
  rw[NB,List.pairwise_append];refine⟨Β,η,λa κ b hb=>?_⟩;simp at hb;subst hb;have:=Eb κ;exact .inr ⟨this.1,by simpa using this.2⟩
theorem WY (n i:Nat):(ot n i).Pairwise λx y=>x.1<y.1\/(x.1=y.1/\x.2<y.2):=by
 induction i with
 | zero=>simp[ot]
 | succ i Β=>
  rw[HY,List.pairwise_append];refine⟨Β,WX _ _,λa κ b hb=>.inl ?_⟩;have:=NC κ;have:=(Eb hb).1;omega
theorem WZ (s:aT) (p:Int×Int) (c:Nat):(jj s p c).Pairwise λx y=>x.1<y.1\/(x.1=y.1/\x.2<y.2):=(WY _ _).filter _
def Ec (N:Nat):Prop:=∀(l:List (Int×Int)),l.length<=N->ae Tryz.prog 173 [.ms 0 l.length 0 l.length,.fn (.func 174) [] []] [.cells 112 2 (l.map aF)] (λr s=>r=.bj []/\s=[.cells 112 2 ((l.mergeSort ln).map aF)]) (λ_ _=>False)
theorem W0:Ec 12:=λl ο=>by
 have h:=V9 l.toArray l.length η ο (.fn (.func 174) [] []) nJ (by simp[l6]) (λx y=>az.p (Nd x y) (bF.refl _) η η);rw[Nz xY NA l] at h;exact h
def kU (q:Int×Int->Bool) (n i j:Nat):List (Int×Int):=(ot n i++l' i j).filter q
theorem W1 {q:Int×Int->Bool} {n:Nat}:kU q n 0 0=[]:=by simp[kU,ot,l']
theorem W2 {q:Int×Int->Bool} {n i:Nat}:kU q n i (n+1)=kU q n (i+1) 0:=by simp[kU,HY,l']
theorem W3 {q:Int×Int->Bool} {n i j:Nat}:kU q n i (j+1)=kU q n i j++if q ((i:Int)-1,(j:Int)-1) then [((i:Int)-1,(j:Int)-1)] else []:=by
 unfold kU;rw[NB,<-List.append_assoc,List.filter_append];simp[List.filter_cons]
theorem ND {q:Int×Int->Bool} {n:Nat}:kU q n (n+1) 0=(Ak n).filter q:=by simp[kU,l',Ak]
theorem W4 {q:Int×Int->Bool} {n i j:Nat}:((i:Int)-1,(j:Int)-1)∉kU q n i j:=by
 unfold kU;rw[List.mem_filter,List.mem_append];rintro⟨h|h,_⟩
 ·have:=NC h;simp at this
 ·have:=(Eb h).2;simp at this
def nL (l:List θ):θ:=if l.isEmpty then .sl true 0 [] else .ms 3 l.length 0 l.length
def dc (l:List θ):List Row:=if l.isEmpty then [] else [.cells 111 1 l]
abbrev hN:Row:=.cells 110 3 [.a5 [I 0,I 0,.sl true 0 []]]
abbrev gN (p:Int×Int) (L:List θ):Row:=.cells 110 3 [.a5 [I p.1,I p.2,nL L]]
def cY (id:Nat) (l:List θ):θ:=if l.isEmpty then .sl true 0 [] else .ms id l.length 0 l.length
theorem gX {id:Nat} {l:List θ} (h:l≠[]):cY id l=.ms id l.length 0 l.length:=by unfold cY;rw[if_neg (by simpa using h)]
theorem W5 {l:List θ}:aG ((dc l).length+3) (nL l):=by
 unfold nL dc;cases l.isEmpty<;>simp[rh]
theorem W6 {h:Nat} {l:List θ} (hb:∀e∈l,∀a∈e.cells,aG 0 a):∀r∈dc l,fg h r:=by
 intro r ι;unfold dc at ι;cases ο:l.isEmpty with
 | true=>rw[ο] at ι;simp at ι
 | false=>
  rw[ο] at ι;simp at ι;subst ι;exact λe he a κ=>(hb e he a κ).mono (Nat.zero_le _)
theorem fg.mono {h dg:Nat} {r:Row} (hb:fg h r) (a0:h<=dg):fg dg r:=by
 cases r with
 | cells t k l=>exact λe he a κ=>(hb e he a κ).mono a0
 | map es=>exact λe he=>⟨(hb e he).1.mono a0,(hb e he).2.mono a0⟩
 | iter m left cur=>exact⟨Nat.lt_of_lt_of_le hb.1 a0,λe he=>⟨(hb.2.1 e he).1.mono a0,(hb.2.1 e he).2.mono a0⟩,λe he=>⟨(hb.2.2 e he).1.mono a0,(hb.2.2 e he).2.mono a0⟩⟩
 | dead=>trivial
theorem W7 {h id:Nat} {l:List θ} (a0:l≠[]->id<h):aG h (cY id l):=by
 by_cases ο:l=[]
 ·subst ο;unfold cY;simp
 ·rw[gX ο];exact rh.2 (a0 ο)
theorem NF {α:Type} (l:List α) (i:Nat) (h:i<l.length):(l[i]::l.eraseIdx i).Perm l:=by
 induction l generalizing i with
 | nil=>simp at h
 | cons a l Β=>
  cases i with
  | zero=>exact .refl _
  | succ i=>
   simp only[List.getElem_cons_succ,List.eraseIdx_cons_succ];exact(List.Perm.swap _ _ _).trans (.cons a (Β i (by simpa using h)))
theorem Ed {h id k:Nat} {t:TypeId} {l:List θ} {σ:List Row} (b9:h<=id) (ι:l≠[]->σ[id]?=some (.cells t k l)) (hb:∀e∈l,∀a∈e.cells,aG h a):eT h σ (cY id l) (gM k l):=by
 by_cases ο:l=[]
 ·subst ο;exact .low (by unfold cY;simp)
 ·have e:gM k l=.sl false k l:=by unfold gM;rw[if_neg (by simpa using ο)]
  rw[gX ο,e];exact .own b9 (ι ο) rfl hb
theorem NG (k:Nat) (m:List θ):∃b kk l,gM k m=.sl b kk l:=by
 unfold gM;split
 ·exact⟨_,_,_,rfl⟩
 ·exact⟨_,_,_,rfl⟩
theorem NH {α β:Type} (f:α->β) (l:List α) (i:Nat):(l.map f).eraseIdx i=(l.eraseIdx i).map f:=by
 induction l generalizing i with
 | nil=>rfl
 | cons a l Β=>cases i<;>simp[Β]
theorem W8 (s:aT) (ν:s.small) (Ξ:s.au.length<2 ^ 20) (p:Int×Int) (hv:∀c∈s.cells,∀x∈c,0<=x.db/\x.db<s.aI.length) (N:Nat) (cm:N<2 ^ 20) (fh:Ec N) (hle:∀c,c<s.cells.length->(jj s p c).length<=N) :
  az Tryz.prog 143 [fD s,aF p] (dj ⟨p.1,p.2,(List.range s.cells.length).map (jj s p)⟩):=by
 refine ae.body Ρ Tryz.func143 rfl rfl Tryz.ntmps143 rfl rfl η ?_
 repeat apply ad
 refine dM (A:=[4]) Ρ λΕ ζ=>bD ?_;apply ζ
 repeat apply ad
 refine dM (A:=[5]) Ρ λΕ ζ=>bD ?_;apply ζ
 repeat apply ad
 refine bl λΕ ζ=>?_;apply ζ;refine Η ?_;have iI:s.cells.length<2 ^ 30:=ν.2.2.1;refine W.iter (λc:Nat=>c<=s.cells.length) (λc=>[(2,.ao [a7 s.au,bc s.aI,ca s.cells]),(3,.ao [I p.1,I p.2]),(4,.ar 0 1 0 0),(5,.ar 1 1 0 0),(6,.mp 2),(19,I s.cells.length),(20,I c)])
  (λc=>hN::gN p ((List.range c).map λc=>gM 2 ((jj s p c).map aF))::.map []::dc ((List.range c).map λc=>gM 2 ((jj s p c).map aF))) (λc=>s.cells.length-c) 0 (Nat.zero_le _) (by simp[nL,dc]) η (λc δ Β=>?_)
 obtain⟨L,ab⟩:=aK ((List.range c).map λc=>gM 2 ((jj s p c).map aF));refine W.to (σ':=hN::gN p L::.map []::dc L) (env':=[(2,.ao [a7 s.au,bc s.aI,ca s.cells]),(3,.ao [I p.1,I p.2]),(4,.ar 0 1 0 0),(5,.ar 1 1 0 0),(6,.mp 2),(19,I s.cells.length),(20,I c)]) ?_ (by rw[ab]) η;refine Η ?_;refine W.eU rfl (λδ=>?_) (λδ=>?_)
 ·have aX:c<s.cells.length:=by simpa using δ
  refine Η ?_;obtain⟨n,Ζ⟩:=aK s.au.length;have q0:n<2 ^ 20:=R;obtain⟨q,Φ⟩:=aK (λr=>s.sH p r c:Int×Int->Bool);have pb:∀e∈L,∀a∈e.cells,aG 0 a:=by
   rw[ab];intro e he a κ;obtain⟨x,_,rfl⟩:=List.mem_map.1 he;unfold gM at κ;split at κ<;>simp[θ.cells] at κ<;>subst κ<;>simp
  have gk:∀(M:List (Int×Int)) (h:Nat),fg h (.map (M.map dN)):=λM h e he=>by
   obtain⟨x,_,rfl⟩:=List.mem_map.1 he;simp
  have kl:∀M:List (Int×Int),∀r∈hN::gN p L::.map (M.map dN)::dc L,fg (hN::gN p L::.map (M.map dN)::dc L).length r:=λM r ι=>by
   simp only[List.mem_cons] at ι;rcases ι with rfl|rfl|rfl|ι
   ·simp[fg,θ.cells]
   ·simp[fg,θ.cells];exact W5
   ·exact gk M _
   ·exact W6 pb r ι
  refine W.iter (λi:Nat=>i<=n+1) (λi=>[(2,.ao [a7 s.au,bc s.aI,ca s.cells]),(3,.ao [I p.1,I p.2]),(4,.ar 0 1 0 0),(5,.ar 1 1 0 0),(6,.mp 2),(19,I s.cells.length),(20,I c),(7,I c),(8,I ((i:Int)-1))])
   (λi=>hN::gN p L::.map ((kU q n i 0).map dN)::dc L) (λi=>n+1-i) 0 (Nat.zero_le _) (by rw[W1];rfl) η (λi hi gd=>?_)
  refine Η ?_;by_cases br:i<n+1
  ·refine ai (by simp[<-Ζ];omega) ?_;refine Η ?_;refine W.iter (λj:Nat=>j<=n+1) (λj=>[(2,.ao [a7 s.au,bc s.aI,ca s.cells]),(3,.ao [I p.1,I p.2]),(4,.ar 0 1 0 0),(5,.ar 1 1 0 0),(6,.mp 2),(19,I s.cells.length),(20,I c),(7,I c),(8,I ((i:Int)-1)),(9,I ((j:Int)-1))])
    (λj=>hN::gN p L::.map ((kU q n i j).map dN)::dc L) (λj=>n+1-j) 0 (Nat.zero_le _) rfl η (λj ε ry=>?_)
   refine Η ?_;by_cases fe:j<n+1
   ·refine ai (by simp[<-Ζ];omega) ?_
    repeat apply ad
    obtain⟨M,eo⟩:=aK (kU q n i j);refine W.to (σ':=hN::gN p L::.map (M.map dN)::dc L) (env':=[(2,.ao [a7 s.au,bc s.aI,ca s.cells]),(3,.ao [I p.1,I p.2]),(4,.ar 0 1 0 0),(5,.ar 1 1 0 0),(6,.mp 2),(19,I s.cells.length),(20,I c),(7,I c),(8,I ((i:Int)-1)),(9,I ((j:Int)-1))]) ?_ (by rw[eo]) η;have W9:hX bk 112 (.a5 [I ((i:Int)-1),I ((j:Int)-1)]) (M.map dN) 0=some none:=WW _ M 0 (by rw[eo];exact W4);have k5:∀es,ob (hN::gN p L::.map es::dc L) 2=true:=λes=>by unfold dc;cases L.isEmpty<;>simp[ob]
    refine dM (A:=[10]) Ρ λΕ ζ=>bD ?_;apply ζ;refine W.o9 (σ0:=hN::gN p L::.map (M.map dN)::dc L) (Nat.zero_le _) (kl M) η [(10,.ao [I ((i:Int)-1),I ((j:Int)-1)]),(2,.ao [a7 s.au,bc s.aI,ca s.cells]),(3,.ao [I p.1,I p.2]),(4,.ar 0 1 0 0),(5,.ar 1 1 0 0),(6,.mp 2),(19,I s.cells.length),(20,I c),(7,I c),(8,I ((i:Int)-1)),(9,I ((j:Int)-1))] (by simp[lg,sC]) ?_;have rz:=gr (show j<2 ^ 62 by omega);refine bl λΕ ζ=>?_;refine az.c (V2 s ν p ((i:Int)-1,(j:Int)-1) c aX (hv _ (List.getElem_mem aX)) (by simp;omega) (by simp;omega)) (bF.refl _) η η ?_;simp;(repeat (rw[Ο];simp[]));apply ζ;have W':s.sH p ((i:Int)-1,(j:Int)-1) c=q ((i:Int)-1,(j:Int)-1):=by rw[Φ]
    rw[W'];have eV:=W3 (q:=q) (n:=n) (i:=i) (j:=j);cases NI:q ((i:Int)-1,(j:Int)-1)
    ·refine aa rfl ?_;refine aB rz ?_;rw[NI] at eV;refine W.to (ry (j+1) R R) ?_ ?_
     ·rw[eV,eo];simp
     ·simp
    ·refine ai rfl ?_
     repeat apply ad
     refine bs λΕ ζ=>?_;simp;(repeat (rw[Ο];simp[W9,k5,-ob]));apply ζ;refine aB rz ?_;rw[NI] at eV;refine W.to (ry (j+1) R R) ?_ ?_
     ·rw[eV,eo];simp
     ·simp
   ·refine aa (by simp[<-Ζ];omega) ?_;refine W.exit rfl ?_;have Al:j=n+1:=R;subst Al;refine Η ?_;refine W.to (gd (i+1) R R) ?_ ?_
    ·rw[W2]
    ·have:=gr (show i<2 ^ 62 by omega);simp[this]
  ·refine aa (by simp[<-Ζ];omega) ?_;refine W.exit rfl ?_;have eH:i=n+1:=R;subst eH;obtain⟨D,et⟩:=aK (jj s p c);have Xa:kU q n (n+1) 0=D:=by rw[ND,et,Φ,Ζ];rfl
   rw[Xa];have v9:D.length<=N:=by rw[et];exact hle c aX
   refine W.to (σ':=hN::gN p L::.map (D.map dN)::dc L) (env':=[(2,.ao [a7 s.au,bc s.aI,ca s.cells]),(3,.ao [I p.1,I p.2]),(4,.ar 0 1 0 0),(5,.ar 1 1 0 0),(6,.mp 2),(19,I s.cells.length),(20,I c),(7,I c)]) ?_ rfl η;refine Η ?_;refine W.iter (λx:List (Int×Int)×List (Int×Int)×Option (θ×θ)=>(x.1++x.2.1).Perm D/\(x.2.2=none\/∃y,x.2.2=some (dN y)))
    (λx=>[(2,.ao [a7 s.au,bc s.aI,ca s.cells]),(3,.ao [I p.1,I p.2]),(4,.ar 0 1 0 0),(5,.ar 1 1 0 0),(6,.mp 2),(19,I s.cells.length),(20,I c),(7,I c),(11,cY ((dc L).length+1+1+1+1) (x.1.map aF)),(50,.it ((dc L).length+1+1+1))])
    (λx=>hN::gN p L::.map (D.map dN)::(dc L++(.iter 2 (x.2.1.map dN) x.2.2::bG 112 2 (x.1.map aF)))) (λx=>x.2.1.length) ([],D,none) ⟨η,.inl rfl⟩ (by simp[bG]) (by simp[cY]) (λx γ v'=>?_)
   obtain⟨K,al,cur⟩:=x;obtain⟨ψ,Da⟩:=γ;simp only at ψ Da
   repeat apply ad
   cases al with
   | nil=>
    refine bl λΕ ζ=>?_;apply ζ
    repeat apply ad
    refine aa rfl ?_;refine W.exit rfl ?_;have wa:K.Perm D:=by simpa using ψ
    repeat apply ad
    have NJ:K.length<=N:=by rw[wa.length_eq];exact v9
    have Xb:K.mergeSort ln=D:=by
     rw[et] at wa ⊢;exact WN wa (WZ s p c)
    refine W.iu (A:=[]) Ρ [(2,.ao [a7 s.au,bc s.aI,ca s.cells]),(3,.ao [I p.1,I p.2]),(4,.ar 0 1 0 0),(5,.ar 1 1 0 0),(6,.mp 2),(19,I s.cells.length),(20,I c),(11,cY ((dc L).length+1+1+1+1) (D.map aF))]
     (hN::gN p L::.map (D.map dN)::(dc L++(.iter 2 [] cur::bG 112 2 (D.map aF)))) ?_ (by
     clear v' gd Β kl gk hle hv pb;by_cases Τ:K=[]
     ·subst Τ;have Xc:D=[]:=wa.symm.eq_nil;rw[Xc];simp only[List.map_nil,kx,show cY ((dc L).length+1+1+1+1) []=.sl true 0 [] from rfl];simp;(repeat (rw[Ο];simp[]));refine az.c (WR _ (by simp[l6])) (bF.refl _) (by simp[l6]) η ?_;simp;(repeat (rw[Ο];simp[]));(try simp)
     ·have gu:K.map aF≠[]:=by simpa using Τ
      have Xd:D≠[]:=λe=>Τ (by rw[e] at wa;exact wa.eq_nil)
      have NK:D.map aF≠[]:=by simpa using Xd
      rw[gX gu,eJ gu,gX NK,eJ NK];simp;(repeat (rw[Ο];simp[]));have oU:aG 0 (.fn (.func 174) [] []):=by simp[l6]
      refine ae.one (fh K NJ) ((dc L).length+1+1+1+1) η (vY sJ) (vY sJ) (by simp[oe,oU.jg 1]) (by simp[fQ]) (by simp[og,oU.ei [(dc L).length+1+1+1+1]]) ?_;simp[ei,hY];(repeat (rw[Ο];simp[]));(try simp[Xb,wa.length_eq]))
    refine W.cut ((dc L).length+1+1+1) (Nat.zero_le _) [(2,.ao [a7 s.au,bc s.aI,ca s.cells]),(3,.ao [I p.1,I p.2]),(4,.ar 0 1 0 0),(5,.ar 1 1 0 0),(6,.mp 2),(19,I s.cells.length),(20,I c),(11,gM 2 (D.map aF))] η (λid r b9 ι=>?_) ?_ ?_
    ·refine kl D r ?_;have e:hN::gN p L::.map (D.map dN)::(dc L++(.iter 2 [] cur::bG 112 2 (D.map aF)))=(hN::gN p L::.map (D.map dN)::dc L)++(.iter 2 [] cur::bG 112 2 (D.map aF)):=η;rw[e,ev (by simpa using b9)] at ι;exact cE ι
    ·have Xe:eT ((dc L).length+1+1+1) (hN::gN p L::.map (D.map dN)::(dc L++(.iter 2 [] cur::bG 112 2 (D.map aF)))) (cY ((dc L).length+1+1+1+1) (D.map aF)) (gM 2 (D.map aF)):=Ed (t:=112) R (λο=>by rw[eJ ο];simp) (λe he a κ=>by
      obtain⟨z,_,rfl⟩:=List.mem_map.1 he;exact(sJ z a κ).mono (Nat.zero_le _))
     intro z Τ;simp only[List.mem_cons,List.not_mem_nil,or_false] at Τ;rcases Τ with rfl|rfl|rfl|rfl|rfl|rfl|rfl|rfl
     all_goals first|exact Xe|exact .low (by simp[lg,sC])
    ·obtain⟨kF,wc⟩:=aK (L++[gM 2 (D.map aF)]);have mX:L.length<2 ^ 30:=by rw[ab];simp;omega
     refine W.to (σ':=hN::gN p L::.map (D.map dN)::dc L) (env':=[(2,.ao [a7 s.au,bc s.aI,ca s.cells]),(3,.ao [I p.1,I p.2]),(4,.ar 0 1 0 0),(5,.ar 1 1 0 0),(6,.mp 2),(19,I s.cells.length),(20,I c),(11,gM 2 (D.map aF))]) ?_ η η
     repeat apply ad
     refine W.iu (A:=[65]) Ρ [(2,.ao [a7 s.au,bc s.aI,ca s.cells]),(3,.ao [I p.1,I p.2]),(4,.ar 0 1 0 0),(5,.ar 1 1 0 0),(6,.mp 2),(19,I s.cells.length),(20,I c)] (hN::gN p kF::.map (D.map dN)::dc kF) ?_ (by
      clear v' gd Β kl gk hle hv;obtain⟨Ee,NL,sl,ru⟩:=NG 2 (D.map aF);rw[ru] at wc ⊢;by_cases Τ:L=[]
      ·have xZ:kF=[.sl Ee NL sl]:=by rw[wc,Τ];rfl
       rw[xZ];subst Τ;simp only[gN,dc,nL,List.isEmpty_nil,List.isEmpty_cons,if_true,if_false];(try simp);(repeat (rw[Ο];simp[]));(try simp[])
      ·have ky:L.length<=4294967295:=by omega
       have c1:nL L=.ms 3 L.length 0 L.length:=by unfold nL;rw[if_neg (by simpa using Τ)]
       have c2:dc L=[.cells 111 1 L]:=by unfold dc;rw[if_neg (by simpa using Τ)]
       have c3:nL kF=.ms 3 (L.length+1) 0 (L.length+1):=by rw[wc];unfold nL;rw[if_neg η];simp
       have c4:dc kF=[.cells 111 1 (L++[.sl Ee NL sl])]:=by rw[wc];unfold dc;rw[if_neg η]
       simp only[gN];rw[c1,c2,c3,c4];(try simp);(repeat (rw[Ο];simp[ky]));(try simp[ky]))
     have k5:∀es,ob (hN::gN p kF::.map es::dc kF) 2=true:=λes=>by unfold dc;cases kF.isEmpty<;>simp[ob]
     repeat apply ad
     refine bs λΕ ζ=>?_;simp;(repeat (rw[Ο];simp[k5,-ob]));apply ζ;refine Η ?_;have Ai:kF=(List.range (c+1)).map λc=>gM 2 ((jj s p c).map aF):=by rw[wc,ab,et,List.range_succ];simp
     refine W.to (Β (c+1) R R) ?_ ?_
     ·rw[<-Ai]
     ·simp[fC aX (show s.cells.length<2 ^ 62 by omega)]
   | cons y al=>
    refine bl λΕ ζ=>?_;intro i hi;obtain⟨x,γ⟩:=aK ((y::al)[i]'(by simpa using hi));have HZ:(dN y::List.map dN al)[i]?=some (dN x):=by
     have:(List.map dN (y::al))[i]?=some (dN x):=by
      rw[List.getElem?_map,bg (by simpa using hi),γ];rfl
     simpa using this
    have H0:(dN y::List.map dN al).eraseIdx i=((y::al).eraseIdx i).map dN:=by
     exact NH dN (y::al) i
    rw[HZ,H0];simp;(repeat (rw[Ο];simp[]));apply ζ
    repeat apply ad
    refine ai rfl ?_
    repeat apply ad
    refine dM (A:=[12]) Ρ λΕ ζ=>bD ?_;apply ζ;have dO:∀r∈hN::gN p L::.map (D.map dN)::(dc L++(.iter 2 (((y::al).eraseIdx i).map dN) (some (dN x))::bG 112 2 (K.map aF))),fg (hN::gN p L::.map (D.map dN)::(dc L++(.iter 2 (((y::al).eraseIdx i).map dN) (some (dN x))::bG 112 2 (K.map aF)))).length r:=by
     intro r ι;have ft:r∈hN::gN p L::.map (D.map dN)::dc L\/r∈(.iter 2 (((y::al).eraseIdx i).map dN) (some (dN x))::bG 112 2 (K.map aF)):=by
      have:r∈(hN::gN p L::.map (D.map dN)::dc L)++(.iter 2 (((y::al).eraseIdx i).map dN) (some (dN x))::bG 112 2 (K.map aF)):=by simpa using ι
      exact List.mem_append.1 this
     rcases ft with ft|ft
     ·exact fg.mono (kl D r ft) η
     ·rcases List.mem_cons.1 ft with rfl|ft
      ·refine⟨η,λe he=>?_,λe he=>?_⟩
       ·obtain⟨z,_,rfl⟩:=List.mem_map.1 he;simp
       ·cases he;simp
      ·unfold bG at ft;split at ft
       ·simp at ft
       ·simp at ft;subst ft;intro e he a κ;obtain⟨z,_,rfl⟩:=List.mem_map.1 he;simp[θ.cells] at κ;rcases κ with rfl|rfl<;>simp
    refine W.to (σ':=(hN::gN p L::.map (D.map dN)::(dc L++(.iter 2 (((y::al).eraseIdx i).map dN) (some (dN x))::bG 112 2 (K.map aF))))++[.cells 112 2 [aF x]]) (env':=[(12,.ar (hN::gN p L::.map (D.map dN)::(dc L++(.iter 2 (((y::al).eraseIdx i).map dN) (some (dN x))::bG 112 2 (K.map aF)))).length 1 0 0),(2,.ao [a7 s.au,bc s.aI,ca s.cells]),(3,.ao [I p.1,I p.2]),(4,.ar 0 1 0 0),(5,.ar 1 1 0 0),(6,.mp 2),(19,I s.cells.length),(20,I c),(7,I c),(11,cY ((dc L).length+1+1+1+1) (K.map aF)),(50,.it ((dc L).length+1+1+1))]) ?_ η η;refine W.o9 (σ0:=hN::gN p L::.map (D.map dN)::(dc L++(.iter 2 (((y::al).eraseIdx i).map dN) (some (dN x))::bG 112 2 (K.map aF)))) (Nat.zero_le _) dO η [(12,.ao [I x.1,I x.2]),(2,.ao [a7 s.au,bc s.aI,ca s.cells]),(3,.ao [I p.1,I p.2]),(4,.ar 0 1 0 0),(5,.ar 1 1 0 0),(6,.mp 2),(19,I s.cells.length),(20,I c),(7,I c),(11,cY ((dc L).length+1+1+1+1) (K.map aF)),(50,.it ((dc L).length+1+1+1))] (by
     have hb:=W7 (h:=(dc L).length+((bG 112 2 (K.map aF)).length+1)+1+1+1) (id:=(dc L).length+1+1+1+1) (l:=K.map aF) (λο=>by rw[eJ ο];simp);clear v' gd Β kl dO gk hle hv pb;simp[lg,sC,Vu,hb]
     ) ?_
    repeat apply ad
    have NJ:K.length<2 ^ 20:=by
     have:=ψ.length_eq;simp at this;omega
    refine W.iu (A:=[58]) Ρ [(2,.ao [a7 s.au,bc s.aI,ca s.cells]),(3,.ao [I p.1,I p.2]),(4,.ar 0 1 0 0),(5,.ar 1 1 0 0),(6,.mp 2),(19,I s.cells.length),(20,I c),(7,I c),(11,cY ((dc L).length+1+1+1+1) ((K++[x]).map aF)),(50,.it ((dc L).length+1+1+1))]
     (hN::gN p L::.map (D.map dN)::(dc L++(.iter 2 (((y::al).eraseIdx i).map dN) (some (dN x))::bG 112 2 ((K++[x]).map aF)))) ?_ (by
     clear v' gd Β kl dO gk hle hv pb;by_cases Τ:K=[]
     ·subst Τ;simp only[List.map_nil,kx,show cY ((dc L).length+1+1+1+1) []=.sl true 0 [] from rfl];(try simp);(repeat (rw[Ο];simp[kx]));(try simp[kx]);exact⟨rfl,rfl⟩
     ·have ky:K.length<=4294967295:=by omega
      have gu:K.map aF≠[]:=by simpa using Τ
      rw[gX gu,eJ gu];(try simp);(repeat (rw[Ο];simp[ky]));(try simp[ky]);rw[eJ η,gX η];simp)
    refine Η ?_;have NM:(x::(y::al).eraseIdx i).Perm (y::al):=by
     rw[γ];exact NF _ _ _
    refine W.to (v' (K++[x],(y::al).eraseIdx i,some (dN x)) ⟨?_,.inr ⟨x,rfl⟩⟩ ?_) η η
    ·simp only[List.append_assoc,List.singleton_append];exact(NM.append_left K).trans ψ
    ·have:=NM.length_eq;simp at this;simp only[List.length_cons];omega
 ·have H2:c=s.cells.length:=by simp at δ;omega
  subst H2;refine W.exit rfl ?_
  repeat apply ad
  clear Β;have pb:∀e∈L,∀a∈e.cells,aG 0 a:=by
   rw[ab];intro e he a κ;obtain⟨x,_,rfl⟩:=List.mem_map.1 he;unfold gM at κ;split at κ<;>simp[θ.cells] at κ<;>subst κ<;>simp
  refine W.iu (A:=[]) Ρ [(4,.ar 0 1 0 0)] (.cells 110 3 [.a5 [I p.1,I p.2,nL L]]::gN p L::.map []::dc L) ?_ (by
   simp only[gN];by_cases Τ:L=[]
   ·rw[show nL L=.sl true 0 [] by rw[Τ];rfl];(try simp);(repeat (rw[Ο];simp[]));(try simp[])
   ·rw[show nL L=.ms 3 L.length 0 L.length by unfold nL;rw[if_neg (by simpa using Τ)],show dc L=[.cells 111 1 L] by unfold dc;rw[if_neg (by simpa using Τ)]];(try simp);(repeat (rw[Ο];simp[]));(try simp[]))
  refine W.cut 0 (Nat.zero_le _) [(4,.ao [I p.1,I p.2,gM 1 L])] (Nat.zero_le _) (λid r b9=>R) (λz Τ=>by
   simp at Τ;subst Τ;exact eT.struct (k:=3) (t:=110) (l:=[I p.1,I p.2,nL L]) (Nat.zero_le _) rfl rfl (λx a cz J U=>by
    match x with
    | 0=>simp at J U;subst J;subst U;exact .low η
    | 1=>simp at J U;subst J;subst U;exact .low η
    | 2=>
     simp at J U;subst J;subst U;exact Ed (id:=3) (t:=111) (l:=L) (Nat.zero_le _) (λο=>by
      have:dc L=[.cells 111 1 L]:=by unfold dc;rw[if_neg (by simpa using ο)]
      simp[this]) pb
    | x+3=>simp at J)) ?_
  refine Η ?_;refine W.rt ?_;refine dP.a5 (bF.cons (.refl _) (bF.cons (.refl _) (bF.cons (.trans dP.acc ?_) .nil)));rw[ab];show dP _ (.sl false 1 (((List.range s.cells.length).map (jj s p)).map mR));rw[List.map_map];refine dP.map λx _=>.one dP.acc ?_ rfl;obtain⟨b,k,l,he⟩:=NG 2 ((jj s p x).map aF);rw[he];rfl
structure ma where
 c:Int
 n:Int
 least:Int
 some:Bool
def ma.take (b:ma) (c n m:Int):ma:=if b.some=false\/m<b.least then⟨c,n,m,true⟩ else b
abbrev mb (b:ma):θ:=.a5 [I b.c,I b.n,I b.least,a6 b.some]
theorem Xf (b:ma) (c n m:Int):ae Tryz.prog 76 [.ar 0 1 0 0,.a5 [I c,I n],I m] [.cells 104 4 [mb b]] (λr s=>r=.bj []/\s=[.cells 104 4 [mb (b.take c n m)]]) (λ_ _=>False):=by
 obtain⟨ef,pH,l0,n0⟩:=b;refine ae.body Ρ Tryz.func76 rfl rfl Tryz.ntmps76 rfl rfl η ?_;refine Η ?_;cases n0
 ·have e:ma.take ⟨ef,pH,l0,false⟩ c n m=⟨c,n,m,true⟩:=by simp[ma.take]
  rw[e];refine Η ?_;refine ai rfl ?_;refine Η ?_;exact W.nil ⟨_,rfl,rfl,rfl⟩
 ·refine Η ?_;by_cases h:m<l0
  ·have e:ma.take ⟨ef,pH,l0,true⟩ c n m=⟨c,n,m,true⟩:=by simp[ma.take,h]
   rw[e];refine ai (by simp[h]) ?_;refine Η ?_;exact W.nil ⟨_,rfl,rfl,rfl⟩
  ·have e:ma.take ⟨ef,pH,l0,true⟩ c n m=⟨ef,pH,l0,true⟩:=by simp[ma.take,h]
   rw[e];refine aa (by simp[h]) ?_;refine Η ?_;exact W.nil ⟨_,rfl,rfl,rfl⟩
abbrev iQ (e:Int×Int):θ×θ:=(I e.1,I e.2)
def uh:List (Int×Int)->Int->Int->List (Int×Int)
 | [],k,n=>[(k,IntKind.i64.wrap (0+n))]
 | e::r,k,n=>if k=e.1 then(k,IntKind.i64.wrap (e.2+n))::r else e::uh r k n
theorem Xg (k n:Int):∀(m:List (Int×Int)) (d:Nat),(hX bk 113 (I k) (m.map iQ) d=some none/\uh m k n=m++[(k,IntKind.i64.wrap (0+n))])\/∃i v,i<m.length/\hX bk 113 (I k) (m.map iQ) d=some (some (d+i,I v))/\uh m k n=m.set i (k,IntKind.i64.wrap (v+n)):=by
 intro m
 induction m with
 | nil=>intro d;exact .inl ⟨rfl,rfl⟩
 | cons e r Β=>
  intro d;have Φ:aeqv bk 113 (I k) (I e.1)=some (k==e.1):=by simp[aeqv,j0,mJ,ja]
  by_cases h:k=e.1
  ·refine .inr ⟨0,e.2,η,?_,by simp[uh,h]⟩;simp only[List.map_cons,hX,Φ];simp[h]
  ·have hb:(k==e.1)=false:=by simpa using h
   rcases Β (d+1) with⟨J,U⟩|⟨i,v,J,U,μ⟩
   ·refine .inl ⟨?_,by simp[uh,h,U]⟩;simp only[List.map_cons,hX,Φ,hb,cond_false];exact J
   ·refine .inr ⟨i+1,v,by simp;omega,?_,by simp[uh,h,μ]⟩;simp only[List.map_cons,hX,Φ,hb,cond_false];rw[U];have:d+1+i=d+(i+1):=R;rw[this]
theorem ae.Xh {P:Program} {σ:List Row} {g:FuncId} {as0 first:List θ} {row row':Row} {r:θ} {K E:θ->List Row->Prop} (h:ae P g as0 [row] (λa s=>a=r/\s=[row']) (λ_ _=>False)) (id:Nat) (b9:σ[id]?=some row) (ψ:il row) (h9:il row') (κ:∀a∈as0,fQ 1 a) (ι:fQ 1 r)
  {args:List θ} (mM:first++args=as0.map (ei [id])) (ζ:K (ei [id] r) (σ.set id row')):hG P (.fn (.func g) first []) args σ K E:=by
 have a0:=ae.rows (σ:=σ) h [id] η rfl (λj i ε=>by
  cases j with
  | zero=>simp at ε;subst ε;exact b9
  | succ j=>simp at ε) (λr ι=>by simp at ι;subst ι;exact ψ) (by simpa using κ) (K':=K) (E':=E) (λa s ⟨J,U⟩=>by
   subst J;subst U;refine⟨λx γ=>by simp at γ;subst γ;exact h9,ι,?_⟩;simpa[names,sG,je] using ζ) (λa s h=>h.elim)
 exact ae.call (first:=first) (captured:=[]) (by rw[List.append_nil,mM];exact a0)
def ui (s:aT) (f:Found) (c n:Nat) (m:List (Int×Int)) (j:Nat):List (Int×Int):=(((f.cells[c]?).getD []).take j).foldl (λm r=>uh m (s.gb (f.u,f.v) r n) (f.many c)) m
def we (s:aT) (F:List Found) (c n i:Nat):List (Int×Int):=(F.take i).foldl (λm f=>ui s f c n m ((f.cells[c]?).getD []).length) []
def uj (a:Int) (l:List (Int×Int)):Int:=l.foldl (λa e=>max a e.2) a
def Ef (s:aT) (F:List Found) (c n:Nat):Int:=uj 0 (we s F c n F.length)
def wh (s:aT) (F:List Found) (c:Nat) (b:ma) (n:Nat):ma:=(List.range n).foldl (λb (n:Nat)=>b.take c n (Ef s F c n)) b
def uk (s:aT) (F:List Found) (c:Nat):ma:=(List.range c).foldl (λb (c:Nat)=>wh s F c b s.aI.length) ⟨0,0,0,false⟩
theorem Xi (s:aT) (F:List Found) (c:Nat) (b:ma) (n:Nat):wh s F c b (n+1)=(wh s F c b n).take c n (Ef s F c n):=by simp[wh,List.range_succ,List.foldl_append]
theorem Xj (s:aT) (F:List Found) (c:Nat):uk s F (c+1)=wh s F c (uk s F c) s.aI.length:=by simp[uk,List.range_succ,List.foldl_append]
theorem Xk (s:aT) (f:Found) (c n:Nat) (m:List (Int×Int)) (j:Nat) (h:j<((f.cells[c]?).getD []).length):ui s f c n m (j+1)=uh (ui s f c n m j) (s.gb (f.u,f.v) ((f.cells[c]?).getD [])[j] n) (f.many c):=by
 unfold ui;rw[List.take_succ_eq_append_getElem h,List.foldl_append];rfl
theorem Xl (s:aT) (F:List Found) (c n i:Nat) (h:i<F.length):we s F c n (i+1)=ui s F[i] c n (we s F c n i) ((F[i].cells[c]?).getD []).length:=by
 unfold we;rw[List.take_succ_eq_append_getElem h,List.foldl_append];rfl
theorem Xm {a:Int} {l m:List (Int×Int)} (h:l.Perm m):uj a l=uj a m:=h.foldl_eq' (λx _ y _ z=>R) a
def sU (s:aT) (F:List Found):Int×Int×Int×Int:=
 if(eZ s true F).2.2≠0 then(0,0,0,(eZ s true F).2.2)
 else let b:=uk s F s.cells.length;if b.some=false\/b.least=kP F then(0,0,0,11) else(b.c,b.n,b.least,0)
structure Eg (s:aT) (F:List Found):Prop where
 nK:F.length<2 ^ 20
 cells:∀f∈F,f.cells.length=s.cells.length/\(∀c∈f.cells,c.length<2 ^ 20/\∀r∈c,r.1<s.au.length/\r.2<s.au.length)
 many:∀f∈F,f.cells.length<2 ^ 62/\∀(hJ:Int) i,i<=f.cells.length->ir f.cells hJ i<2 ^ 62
 count:kP F<2 ^ 62
theorem Xn (s:aT) (ν:s.small) (F:List Found) (c0:qi s F) (cm:Eg s F) :
  az Tryz.prog 26 [fD s] (.bj [I (sU s F).1,I (sU s F).2.1,I (sU s F).2.2.1,I (sU s F).2.2.2]):=by
 refine ae.body Ρ Tryz.func26 rfl rfl Tryz.ntmps26 rfl rfl η ?_;refine Η ?_;refine tW ?_;refine dM (A:=[6]) Ρ λΕ ζ=>bD ?_;refine az.d (Ag s ν true F c0) (bD ?_);apply ζ;by_cases b:(eZ s true F).2.2=0
 case neg=>
  have e:sU s F=(0,0,0,(eZ s true F).2.2):=by unfold sU;rw[if_pos b]
  rw[e];generalize (eZ s true F).2.2=fB at b;refine Η ?_;refine ai (by simp[b]) ?_;refine Η ?_;refine W.drop (h:=0) (σ':=[]) (Nat.zero_le _) (Nat.zero_le _) η rfl [(2,I 0),(3,I 0),(4,I 0),(5,I fB)] η ?_;refine W.rt ?_;exact .refl _
 have e:eZ s true F=(s,F,0):=by
  unfold eZ at b ⊢;split at b
  ·rename_i h;simp at b;exact absurd b h
  ·split at b
   ·simp at b
   ·rename_i J U;rw[if_neg J,if_neg U]
 have Γ:sU s F=let b:=uk s F s.cells.length;if b.some=false\/b.least=kP F then(0,0,0,11) else(b.c,b.n,b.least,0):=by unfold sU;rw[if_neg (by simpa using b)]
 rw[Γ,e];clear Γ;refine W.fix (id:=0) (σ':=[]) (Nat.zero_le _) rfl η η rfl [(5,I 0),(6,.ao [a7 s.au,bc s.aI,ca s.cells]),(7,cZ F)] η ?_;refine Η ?_;refine aa rfl ?_
 repeat apply ad
 refine dM (A:=[8]) Ρ λΕ ζ=>bD ?_;apply ζ;refine Η ?_;have iI:s.cells.length<2 ^ 30:=ν.2.2.1;have iΓ:s.aI.length<2 ^ 30:=ν.2.1;have rA:∀{b:ma} (M:List (Int×Int)),∀r∈[Row.cells 104 4 [mb b],.map (M.map iQ)],fg [Row.cells 104 4 [mb b],.map (M.map iQ)].length r:=λ{b} M r ι=>by
  simp only[List.mem_cons,List.not_mem_nil,or_false] at ι;rcases ι with rfl|rfl
  ·simp[fg,θ.cells]
  ·intro e he;obtain⟨x,_,rfl⟩:=List.mem_map.1 he;simp
 refine W.iter (λc:Nat=>c<=s.cells.length) (λc=>[(6,.ao [a7 s.au,bc s.aI,ca s.cells]),(7,cZ F),(8,.ar 0 1 0 0),(9,.fn (.func 76) [.ar 0 1 0 0] []),(33,I s.cells.length),(34,I c)])
  (λc=>[.cells 104 4 [mb (uk s F c)]]) (λc=>s.cells.length-c) 0 (Nat.zero_le _) rfl η (λc ic Β=>?_)
 refine Η ?_;refine W.eU rfl (λδ=>?_) (λδ=>?_)
 ·have mI:c<s.cells.length:=by simpa using δ
  refine Η ?_;obtain⟨cU,jX⟩:=aK (uk s F c);refine W.iter (λn:Nat=>n<=s.aI.length) (λn=>[(6,.ao [a7 s.au,bc s.aI,ca s.cells]),(7,cZ F),(8,.ar 0 1 0 0),(9,.fn (.func 76) [.ar 0 1 0 0] []),(10,I c),(33,I s.cells.length),(34,I c),(40,I s.aI.length),(41,I n)])
   (λn=>[.cells 104 4 [mb (wh s F c cU n)]]) (λn=>s.aI.length-n) 0 (Nat.zero_le _) (by rw[jX];rfl) η (λn q5 gd=>?_)
  refine Η ?_;refine W.eU rfl (λaX=>?_) (λaX=>?_)
  ·have q0:n<s.aI.length:=by simpa using aX
   obtain⟨bw,k7⟩:=aK (wh s F c cU n);refine W.to (σ':=[.cells 104 4 [mb bw]]) (env':=[(6,.ao [a7 s.au,bc s.aI,ca s.cells]),(7,cZ F),(8,.ar 0 1 0 0),(9,.fn (.func 76) [.ar 0 1 0 0] []),(10,I c),(33,I s.cells.length),(34,I c),(40,I s.aI.length),(41,I n)]) ?_ (by rw[k7]) η;refine Η ?_;refine W.iter (λi:Nat=>i<=F.length) (λi=>[(6,.ao [a7 s.au,bc s.aI,ca s.cells]),(7,cZ F),(8,.ar 0 1 0 0),(9,.fn (.func 76) [.ar 0 1 0 0] []),(10,I c),(33,I s.cells.length),(34,I c),(40,I s.aI.length),(41,I n),(11,I n),(12,.mp 1),(45,cZ F),(46,I F.length),(47,I i)])
    (λi=>[.cells 104 4 [mb bw],.map ((we s F c n i).map iQ)]) (λi=>F.length-i) 0 (Nat.zero_le _) rfl η (λi hi v'=>?_)
   refine Η ?_;by_cases lp:i<F.length
   ·refine ai (by simp[lp]) ?_;obtain⟨M,eo⟩:=aK (we s F c n i);have qj:=Xl s F c n i lp;rw[<-eo] at qj;obtain⟨nM,iD⟩:=cm.cells _ (List.getElem_mem lp);obtain⟨hn,iR⟩:=cm.many _ (List.getElem_mem lp);generalize Υ:F[i]=f at qj nM iD hn iR;have cw:c<f.cells.length:=by rw[nM];exact mI
    refine W.to (σ':=[.cells 104 4 [mb bw],.map (M.map iQ)]) (env':=[(6,.ao [a7 s.au,bc s.aI,ca s.cells]),(7,cZ F),(8,.ar 0 1 0 0),(9,.fn (.func 76) [.ar 0 1 0 0] []),(10,I c),(33,I s.cells.length),(34,I c),(40,I s.aI.length),(41,I n),(11,I n),(12,.mp 1),(45,cZ F),(46,I F.length),(47,I i)]) ?_ (by rw[eo]) η
    repeat apply ad
    refine dM (A:=[14]) Ρ λΕ ζ=>gW (υ lp Υ) ?_;apply ζ;refine W.o9 (σ0:=[.cells 104 4 [mb bw],.map (M.map iQ)]) (Nat.zero_le _) (rA _) η [(14,.ao [I f.u,I f.v,mS f.cells]),(6,.ao [a7 s.au,bc s.aI,ca s.cells]),(7,cZ F),(8,.ar 0 1 0 0),(9,.fn (.func 76) [.ar 0 1 0 0] []),(10,I c),(33,I s.cells.length),(34,I c),(40,I s.aI.length),(41,I n),(11,I n),(12,.mp 1),(45,cZ F),(46,I F.length),(47,I i)] (by simp[lg,sC]) ?_;refine aB cw ?_;have Am:(f.cells[c]?).getD []=f.cells[c]:=by simp[cw]
    rw[Am] at qj;have An:=iD _ (List.getElem_mem cw);have qk:=Xk s f c n M;rw[Am] at qk;generalize f.cells[c]=C at qj An qk;obtain⟨Xo,H3⟩:=An;refine W.iter (λj:Nat=>j<=C.length) (λj=>[(14,.ao [I f.u,I f.v,mS f.cells]),(6,.ao [a7 s.au,bc s.aI,ca s.cells]),(7,cZ F),(8,.ar 0 1 0 0),(9,.fn (.func 76) [.ar 0 1 0 0] []),(10,I c),(33,I s.cells.length),(34,I c),(40,I s.aI.length),(41,I n),(11,I n),(12,.mp 1),(45,cZ F),(46,I F.length),(47,I i),(55,mR C),(56,I C.length),(57,I j)])
     (λj=>[.cells 104 4 [mb bw],.map ((ui s f c n M j).map iQ)]) (λj=>C.length-j) 0 (Nat.zero_le _) (by simp[ui]) η (λj ε ry=>?_)
    refine Η ?_;by_cases mc:j<C.length
    ·refine ai (by simp[mc]) ?_;obtain⟨M2,x0⟩:=aK (ui s f c n M j);have ql:=qk j mc;rw[<-x0] at ql;refine W.to (σ':=[.cells 104 4 [mb bw],.map (M2.map iQ)]) (env':=[(14,.ao [I f.u,I f.v,mS f.cells]),(6,.ao [a7 s.au,bc s.aI,ca s.cells]),(7,cZ F),(8,.ar 0 1 0 0),(9,.fn (.func 76) [.ar 0 1 0 0] []),(10,I c),(33,I s.cells.length),(34,I c),(40,I s.aI.length),(41,I n),(11,I n),(12,.mp 1),(45,cZ F),(46,I F.length),(47,I i),(55,mR C),(56,I C.length),(57,I j)]) ?_ (by rw[x0]) η;obtain⟨pK,rq⟩:=H3 _ (List.getElem_mem mc);generalize ι:C[j]=r at ql pK rq
     repeat apply ad
     refine dM (A:=[16]) Ρ λΕ ζ=>gW (υ mc ι) ?_;apply ζ;refine W.o9 (σ0:=[.cells 104 4 [mb bw],.map (M2.map iQ)]) (Nat.zero_le _) (rA _) η [(16,.ao [I r.1,I r.2]),(14,.ao [I f.u,I f.v,mS f.cells]),(6,.ao [a7 s.au,bc s.aI,ca s.cells]),(7,cZ F),(8,.ar 0 1 0 0),(9,.fn (.func 76) [.ar 0 1 0 0] []),(10,I c),(33,I s.cells.length),(34,I c),(40,I s.aI.length),(41,I n),(11,I n),(12,.mp 1),(45,cZ F),(46,I F.length),(47,I i),(55,mR C),(56,I C.length),(57,I j)] (by simp[lg,sC]) ?_
     repeat apply ad
     have rz:=fC mc (show C.length<2 ^ 62 by omega);rcases Xg (s.gb (f.u,f.v) r n) (f.many c) M2 0 with⟨Χ,ak⟩|⟨bC,v,cP,Χ,ak⟩
     ·refine W.draw (A:=[]) Ρ mixed λΕ ζ=>?_;simp;(repeat (rw[c7];simp[Χ,ja]));try rw[c6]
      refine eA (az.p (z' s ν (f.u,f.v) r n q0 pK rq) (bF.refl _) η η) ?_;simp[Χ,ja];(repeat (rw[c7];simp[Χ,ja]));try rw[c6]
      refine eA (az.p (D4 f c hn (iR c)) (bF.refl _) η η) ?_;simp[Χ,ja];(repeat (rw[c7];simp[Χ,ja]));try rw[c6]
      refine er (ζ _ _ ?_);refine aB rz ?_;refine W.to (ry (j+1) mc R) ?_ ?_
      ·rw[ql,ak];simp
      ·simp[rz]
     ·refine W.draw (A:=[]) Ρ mixed λΕ ζ=>?_;simp;(repeat (rw[c7];simp[Χ,ja]));try rw[c6]
      refine eA (az.p (z' s ν (f.u,f.v) r n q0 pK rq) (bF.refl _) η η) ?_;simp[Χ,ja];(repeat (rw[c7];simp[Χ,ja]));try rw[c6]
      refine eA (az.p (D4 f c hn (iR c)) (bF.refl _) η η) ?_;simp[Χ,ja];(repeat (rw[c7];simp[Χ,ja]));try rw[c6]
      refine er (ζ _ _ ?_);refine aB rz ?_;refine W.to (ry (j+1) mc R) ?_ ?_
      ·rw[ql,ak];simp
      ·simp[rz]
    ·have Al:j=C.length:=by omega
     subst Al;have mO:=fC lp (show F.length<2 ^ 62 by have:=cm.nK;omega);refine aa η ?_;refine W.exit rfl ?_;refine aB mO ?_;refine W.to (v' (i+1) lp R) ?_ ?_
     ·rw[qj]
     ·simp[mO]
   ·have eH:i=F.length:=by omega
    subst eH;refine aa η ?_;refine W.exit rfl ?_;obtain⟨M,eo⟩:=aK (we s F c n F.length);have Xp:Ef s F c n=uj 0 M:=by rw[eo];rfl
    refine W.to (σ':=[.cells 104 4 [mb bw],.map (M.map iQ)]) (env':=[(6,.ao [a7 s.au,bc s.aI,ca s.cells]),(7,cZ F),(8,.ar 0 1 0 0),(9,.fn (.func 76) [.ar 0 1 0 0] []),(10,I c),(33,I s.cells.length),(34,I c),(40,I s.aI.length),(41,I n),(11,I n),(12,.mp 1)]) ?_ (by rw[eo]) η;refine Η ?_;refine W.iter (λx:Int×List (Int×Int)×Option (θ×θ)=>uj x.1 x.2.1=uj 0 M) (λx=>[(6,.ao [a7 s.au,bc s.aI,ca s.cells]),(7,cZ F),(8,.ar 0 1 0 0),(9,.fn (.func 76) [.ar 0 1 0 0] []),(10,I c),(33,I s.cells.length),(34,I c),(40,I s.aI.length),(41,I n),(11,I n),(12,.mp 1),(17,I x.1),(76,.it 2)])
     (λx=>[.cells 104 4 [mb bw],.map (M.map iQ),.iter 1 (x.2.1.map iQ) x.2.2]) (λx=>x.2.1.length) (0,M,none) rfl rfl η (λx γ Xq=>?_)
    obtain⟨od,al,cur⟩:=x;simp only at γ
    repeat apply ad
    cases al with
    | nil=>
     refine bl λΕ ζ=>?_;apply ζ
     repeat apply ad
     refine aa rfl ?_;refine W.exit rfl ?_;have H4:od=Ef s F c n:=by rw[Xp,<-γ];rfl
     have Ao:=fC q0 (show s.aI.length<2 ^ 62 by omega);refine bl λΕ ζ=>?_;refine ae.Xh (as0:=[.ar 0 1 0 0,.a5 [I c,I n],I od]) (Xf bw c n od) 0 rfl (by simp[il,θ.cells]) (by simp[il,θ.cells]) (by simp[fQ,nE]) (by simp[fQ]) rfl ?_;simp[ei,hY];(repeat (rw[Ο];simp[]));apply ζ;refine W.drop (h:=1) (σ':=[.cells 104 4 [mb (bw.take c n od)]]) (Nat.zero_le _) η (λid r b9 ι=>?_) rfl [(6,.ao [a7 s.au,bc s.aI,ca s.cells]),(7,cZ F),(8,.ar 0 1 0 0),(9,.fn (.func 76) [.ar 0 1 0 0] []),(10,I c),(33,I s.cells.length),(34,I c),(40,I s.aI.length),(41,I n)] (by simp[lg]) ?_
     ·obtain rfl:id=0:=by omega
      simp at ι;subst ι;simp[fg,θ.cells]
     refine aB Ao ?_;refine W.to (gd (n+1) q0 R) ?_ ?_
     ·rw[Xi,<-k7,H4]
     ·simp[Ao]
    | cons y al=>
     refine bl λΕ ζ=>?_;intro bC mH;obtain⟨x,kI⟩:=aK ((y::al)[bC]'(by simpa using mH));have HZ:(iQ y::List.map iQ al)[bC]?=some (iQ x):=by
      have:(List.map iQ (y::al))[bC]?=some (iQ x):=by
       rw[List.getElem?_map,bg (by simpa using mH),kI];rfl
      simpa using this
     have H0:(iQ y::List.map iQ al).eraseIdx bC=((y::al).eraseIdx bC).map iQ:=NH iQ (y::al) bC;rw[HZ,H0];simp;(repeat (rw[Ο];simp[]));apply ζ
     repeat apply ad
     refine ai rfl ?_;refine Η ?_;have NN:bC<(y::al).length:=by simpa using mH
     have hinv:uj (max od x.2) ((y::al).eraseIdx bC)=uj 0 M:=by
      rw[<-γ,<-Xm (NF (y::al) bC NN),<-kI];rfl
     have H4:max od x.2=if od<x.2 then x.2 else od:=by split<;>omega
     refine W.to (Xq (max od x.2,(y::al).eraseIdx bC,some (iQ x)) hinv (by simp only[List.length_eraseIdx,NN,if_true];omega)) ?_ ?_
     ·simp
     ·simp[H4]
  ·have bA:n=s.aI.length:=by simp at aX;omega
   subst bA;have rB:=fC mI (show s.cells.length<2 ^ 62 by omega);refine W.exit rfl ?_;refine aB rB ?_;refine W.to (Β (c+1) mI R) ?_ ?_
   ·rw[Xj,<-jX]
   ·simp[rB]
 ·have δ:c=s.cells.length:=by simp at δ;omega
  subst δ;refine W.exit rfl ?_;refine Η ?_;obtain⟨⟨NO,ub,my,mL⟩,dU⟩:∃B,B=uk s F s.cells.length:=⟨_,rfl⟩;rw[<-dU];refine W.fix (id:=0) (σ':=[]) (Nat.zero_le _) rfl η η rfl [(7,cZ F),(8,.ao [I NO,I ub,I my,a6 mL])] η ?_;have J:∀f∈F,f.cells.length<2 ^ 62/\∀i,i<=f.cells.length->ir f.cells (-1) i<2 ^ 62:=λf Υ=>⟨(cm.many f Υ).1,(cm.many f Υ).2 (-1)⟩;cases mL
  ·refine tX ?_;refine ai rfl ?_;refine Η ?_;refine W.drop (h:=0) (σ':=[]) (Nat.zero_le _) (Nat.zero_le _) η rfl [(2,I 0),(3,I 0),(4,I 0),(5,I 11)] η ?_;refine W.rt ?_;exact .of η
  ·refine W.draw (A:=[]) Ρ mixed λΕ ζ=>p7 ?_;refine eA (az.p (V5 F (by have:=cm.nK;omega) J cm.count) (bF.refl _) η η) ?_;simp;(repeat (rw[c7];simp[]));try rw[c6]
   refine er (ζ _ _ ?_);by_cases q:my=kP F
   ·refine ai (by simp[q]) ?_;refine Η ?_;refine W.drop (h:=0) (σ':=[]) (Nat.zero_le _) (Nat.zero_le _) η rfl [(2,I 0),(3,I 0),(4,I 0),(5,I 11)] η ?_;refine W.rt ?_;exact .of (by simp[q])
   ·refine aa (by simp[q]) ?_;refine Η ?_;refine tX ?_;refine W.drop (h:=0) (σ':=[]) (Nat.zero_le _) (Nat.zero_le _) η rfl [(2,I NO),(3,I ub),(4,I my),(5,I 0)] η ?_;refine W.rt ?_;exact .of (by simp[q])
theorem Xr (l:List Int) (ο:l.length<2 ^ 30) :
  ae Tryz.prog 85 [.ms 0 l.length 0 l.length] [.cells 3 1 (l.map I)] (λr s=>(∃e k,r=.sl e k (l.map I)/\(l≠[]->k=1))/\s=[.cells 3 1 (l.map I)]) (λ_ _=>False):=by
 refine ae.body Ρ Tryz.func85 rfl rfl Tryz.ntmps85 rfl rfl η ?_;have ky:l.length<=4294967295:=R;by_cases Τ:l=[]
 ·subst Τ;refine Η ?_;refine bl λΕ ζ=>?_;intro j ε;apply ζ;by_cases ri:j=1
  ·refine ai (by simp[ri]) ?_;refine Η ?_;exact W.ret ⟨_,rfl,⟨true,0,rfl,λh=>absurd rfl h⟩,rfl⟩
  ·refine aa (by simp[ri]) ?_
   repeat apply ad
   refine dM (A:=[5,7]) Ρ λΕ ζ=>bD ?_;apply ζ;refine W.cut 1 (Nat.le_refl _) [(2,.sl false 1 [])] η (λid r b9 ι=>?_) (λp ψ=>?_) ?_
   ·obtain rfl:id=0:=by omega
    simp at ι;subst ι;simp[fg]
   ·obtain rfl:p=(2,.sl false 1 []):=by simpa using ψ
    exact eT.own (id:=1) (t:=3) (Nat.le_refl _) rfl η η
   ·exact W.ret ⟨_,rfl,⟨false,1,rfl,λ_=>rfl⟩,rfl⟩
 ·refine Η ?_;refine hI Τ λΕ ζ=>?_;apply ζ;refine aa rfl ?_
  repeat apply ad
  have lf:List.take l.length (l.map I)=l.map I:=List.take_of_length_le η
  have Xs:l.length<=4294967296:=R;refine dM (A:=[5,7]) Ρ λΕ ζ=>gW (υ ky (υ Τ (υ lf Xs))) ?_;apply ζ;have hb:∀e∈l.map I,∀a∈e.cells,aG 1 a:=λe he a κ=>by
   obtain⟨x,_,rfl⟩:=List.mem_map.1 he;simp[θ.cells] at κ;subst κ;simp
  refine W.cut 1 (Nat.le_refl _) [(2,.sl false 1 (l.map I))] η (λid r b9 ι=>?_) (λp ψ=>?_) ?_
  ·obtain rfl:id=0:=by omega
   simp at ι;subst ι;exact hb
  ·obtain rfl:p=(2,.sl false 1 (l.map I)):=by simpa using ψ
   exact eT.own (id:=1) (t:=3) (Nat.le_refl _) rfl η hb
  ·exact W.ret ⟨_,rfl,⟨false,1,rfl,λ_=>rfl⟩,rfl⟩
abbrev um (k:List Int):θ:=.a5 (k.map I)
abbrev pd (e:List Int×Int):θ×θ:=(um e.1,I e.2)
def Ap (m:List (List Int×Int)):Prop:=∀e∈m,e.1.length=4
theorem Xt (x y:List Int) (γ:x.length=4) (Ι:y.length=4):aeqv bk 157 (um x) (um y)=some (decide (x=y)):=by
 match x,γ,y,Ι with
 | [a,b,c,d],_,[cz,Ψ,c',dZ],_=>
  simp[aeqv,j0,mJ,Bool.eq_iff_iff]
def kz:List (List Int×Int)->List Int->Int->List (List Int×Int)
 | [],k,v=>[(k,v)]
 | e::r,k,v=>if k=e.1 then(k,v)::r else e::kz r k v
def wi:List (List Int×Int)->List Int->Option Int
 | [],_=>none
 | e::r,k=>if k=e.1 then some e.2 else wi r k
theorem Xu (k:List Int) (ς:k.length=4):∀(m:List (List Int×Int)) (d:Nat),Ap m->(hX bk 157 (um k) (m.map pd) d=some none/\wi m k=none/\∀v,kz m k v=m++[(k,v)])\/
  ∃i x,i<m.length/\hX bk 157 (um k) (m.map pd) d=some (some (d+i,I x))/\wi m k=some x/\∀v,kz m k v=m.set i (k,v):=by
 intro m
 induction m with
 | nil=>intro d _;exact .inl ⟨rfl,rfl,λ_=>rfl⟩
 | cons e r Β=>
  intro d Θ;have Φ:=Xt k e.1 ς (Θ e η);by_cases h:k=e.1
  ·refine .inr ⟨0,e.2,η,?_,by simp[wi,h],λv=>by simp[kz,h]⟩;simp only[List.map_cons,hX,Φ];simp[h]
  ·have hb:decide (k=e.1)=false:=by simpa using h
   rcases Β (d+1) (λx γ=>Θ x (by simp[γ])) with⟨J,U,μ⟩|⟨i,x,J,U,μ,av⟩
   ·refine .inl ⟨?_,by simp[wi,h,U],λv=>by simp[kz,h,μ]⟩;simp only[List.map_cons,hX,Φ,hb,cond_false];exact J
   ·refine .inr ⟨i+1,x,by simp;omega,?_,by simp[wi,h,μ],λv=>by simp[kz,h,av]⟩;simp only[List.map_cons,hX,Φ,hb,cond_false];rw[U];have:d+1+i=d+(i+1):=R;rw[this]
theorem NP {m:List (List Int×Int)} (h:Ap m) {k:List Int} (ς:k.length=4) (v:Int):Ap (kz m k v):=by
 induction m with
 | nil=>intro e he;simp[kz] at he;subst he;exact ς
 | cons a r Β=>
  intro e he;unfold kz at he;split at he
  ·rcases List.mem_cons.1 he with rfl|he
   ·exact ς
   ·exact h e (by simp[he])
  ·rcases List.mem_cons.1 he with rfl|he
   ·exact h _ η
   ·exact Β (λx γ=>h x (by simp[γ])) e he
def pe (s:aT) (p r:Int×Int) (L:List Nat) (k:Nat):List Int:=((L.take k).map λx=>s.gb p r x)++List.replicate (4-k) 0
theorem NQ {s:aT} {p r:Int×Int} {L:List Nat} {k:Nat} (ς:k<=L.length) (Θ:L.length<=4):(pe s p r L k).length=4:=by simp[pe];omega
theorem Xv {s:aT} {p r:Int×Int} {L:List Nat} {k:Nat} (ς:k<L.length) (Θ:L.length<=4):(pe s p r L k).take k++s.gb p r L[k]::(pe s p r L k).drop (k+1)=pe s p r L (k+1):=by
 have Δ:((L.take k).map λx=>s.gb p r x).length=k:=by simp;omega
 have Γ:4-k=(4-(k+1))+1:=R;unfold pe;rw[List.take_left' Δ,List.drop_append,List.drop_eq_nil_of_le R,Δ,List.take_succ_eq_append_getElem ς,List.map_append,Γ,List.replicate_succ];have a2:k+1-k=1:=R;rw[a2];simp
abbrev x1:=Option (List (List Int×Int))
def x2 (m:x1) (k:List Int) (v:Int):x1:=m.bind λm=>match wi m k with|some x=>if x=v then some (kz m k v) else none|none=>some (kz m k v)
def mY (s:aT) (f:Found) (cell:Nat) (lower:Bool) (L:List Nat) (m:x1) (j:Nat):x1:=(((f.cells[cell]?).getD []).take j).foldl (λm r=>x2 m (pe s (f.u,f.v) r L L.length) (kS lower r)) m
def uo (s:aT) (F:List Found) (cell:Nat) (lower:Bool) (L:List Nat) (i:Nat):x1:=(F.take i).foldl (λm f=>mY s f cell lower L m ((f.cells[cell]?).getD []).length) (some [])
def rC (s:aT) (F:List Found) (cell:Nat) (lower:Bool) (L:List Nat):Bool:=(uo s F cell lower L F.length).isSome
theorem Xw (s:aT) (f:Found) (cell:Nat) (lower:Bool) (L:List Nat) (m:x1) (j:Nat) (h:j<((f.cells[cell]?).getD []).length):mY s f cell lower L m (j+1)=x2 (mY s f cell lower L m j) (pe s (f.u,f.v) ((f.cells[cell]?).getD [])[j] L L.length) (kS lower ((f.cells[cell]?).getD [])[j]):=by
 unfold mY;rw[List.take_succ_eq_append_getElem h,List.foldl_append];rfl
theorem NR (s:aT) (F:List Found) (cell:Nat) (lower:Bool) (L:List Nat) (i:Nat) (h:i<F.length):uo s F cell lower L (i+1)=mY s F[i] cell lower L (uo s F cell lower L i) ((F[i].cells[cell]?).getD []).length:=by
 unfold uo;rw[List.take_succ_eq_append_getElem h,List.foldl_append];rfl
theorem NS (l:List (Int×Int)) (k:(Int×Int)->List Int) (v:Int×Int->Int):l.foldl (λm r=>x2 m (k r) (v r)) none=none:=by
 induction l with
 | nil=>rfl
 | cons a l Β=>exact Β
theorem Xx (s:aT) (F:List Found) (cell:Nat) (lower:Bool) (L:List Nat) {i j:Nat} (hi:i<F.length) (ε:j<=((F[i].cells[cell]?).getD []).length) (h:mY s F[i] cell lower L (uo s F cell lower L i) j=none):rC s F cell lower L=false:=by
 have J:mY s F[i] cell lower L (uo s F cell lower L i) ((F[i].cells[cell]?).getD []).length=none:=by
  unfold mY at h ⊢;rw[List.take_length]
  conv=>lhs;rw[<-List.take_append_drop j ((F[i].cells[cell]?).getD [])]
  rw[List.foldl_append,h];exact NS _ _ _
 rw[<-NR s F cell lower L i hi] at J;unfold rC;unfold uo at J ⊢;rw[List.take_length]
 conv=>lhs;rw[<-List.take_append_drop (i+1) F]
 rw[List.foldl_append,J];have:∀l:List Found,(l.foldl (λm f=>mY s f cell lower L m ((f.cells[cell]?).getD []).length) none)=none:=λl=>by
  induction l with
  | nil=>rfl
  | cons a l Β=>
   rw[List.foldl_cons];have:mY s a cell lower L none ((a.cells[cell]?).getD []).length=none:=by unfold mY;exact NS _ _ _
   rw[this];exact Β
 rw[this];rfl
abbrev fE (L:List Nat):Row:=.cells 3 1 (L.map λn:Nat=>I n)
theorem H5 {h:Nat} {L:List Nat}:fg h (fE L):=λe he a κ=>by
 obtain⟨x,_,rfl⟩:=List.mem_map.1 he;simp[θ.cells] at κ;subst κ;simp
theorem Xy (s:aT) (ν:s.small) (F:List Found) (cm:Eg s F) (cell:Nat) (x3:cell<s.cells.length) (lower:Bool) (L:List Nat) (ab:L.length<=4) (mX:∀x∈L,x<s.aI.length) :
  ae Tryz.prog 84 [fD s,cZ F,I cell,a6 lower,.ms 0 L.length 0 L.length] [fE L] (λr σ=>r=a6 (rC s F cell lower L)/\σ=[fE L]) (λ_ _=>False):=by
 refine ae.body Ρ Tryz.func84 rfl rfl Tryz.ntmps84 rfl rfl η ?_;refine Η ?_;have rA:∀M:List (List Int×Int),∀r∈[fE L,.map (M.map pd)],fg [fE L,.map (M.map pd)].length r:=λM r ι=>by
  simp only[List.mem_cons,List.not_mem_nil,or_false] at ι;rcases ι with rfl|rfl
  ·exact H5
  ·intro e he;obtain⟨x,_,rfl⟩:=List.mem_map.1 he;simp
 refine W.iter (λx:Nat×List (List Int×Int)=>x.1<=F.length/\uo s F cell lower L x.1=some x.2/\Ap x.2) (λ(i,_)=>[(2,I cell),(3,a6 lower),(4,.ms 0 L.length 0 L.length),(5,.ao [a7 s.au,bc s.aI,ca s.cells]),(11,.mp 1),(23,cZ F),(24,I F.length),(25,I i)])
  (λ(_,M)=>[fE L,.map (M.map pd)]) (λx=>F.length-x.1) (0,[]) ⟨Nat.zero_le _,rfl,λe he=>by cases he⟩ rfl η (λx γ Β=>?_)
 obtain⟨i,M⟩:=x;obtain⟨hi,eo,Θ⟩:=γ;simp only at hi eo Θ ⊢;refine Η ?_;by_cases lp:i<F.length
 ·refine ai (by simp[lp]) ?_;have qj:=NR s F cell lower L i lp;have r4:=λj=>Xx s F cell lower L (i:=i) (j:=j) lp;rw[eo] at qj r4;obtain⟨nM,iD⟩:=cm.cells _ (List.getElem_mem lp);generalize Υ:F[i]=f at qj r4 nM iD;have cw:cell<f.cells.length:=by rw[nM];exact x3
  repeat apply ad
  refine dM (A:=[13]) Ρ λΕ ζ=>gW (υ lp Υ) ?_;apply ζ;refine W.o9 (σ0:=[fE L,.map (M.map pd)]) η (rA _) η [(13,.ao [I f.u,I f.v,mS f.cells]),(2,I cell),(3,a6 lower),(4,.ms 0 L.length 0 L.length),(5,.ao [a7 s.au,bc s.aI,ca s.cells]),(11,.mp 1),(23,cZ F),(24,I F.length),(25,I i)] (by simp[lg,sC,rh]) ?_;refine aB cw ?_;have Am:(f.cells[cell]?).getD []=f.cells[cell]:=by simp[cw]
  rw[Am] at qj r4;have An:=iD _ (List.getElem_mem cw);have qk:=Xw s f cell lower L (some M);rw[Am] at qk;generalize f.cells[cell]=C at qj An qk r4;obtain⟨Xo,H3⟩:=An;refine W.iter (λx:Nat×List (List Int×Int)=>x.1<=C.length/\mY s f cell lower L (some M) x.1=some x.2/\Ap x.2) (λ(j,_)=>[(2,I cell),(3,a6 lower),(4,.ms 0 L.length 0 L.length),(5,.ao [a7 s.au,bc s.aI,ca s.cells]),(11,.mp 1),(23,cZ F),(24,I F.length),(25,I i),(13,.ao [I f.u,I f.v,mS f.cells]),(33,mR C),(34,I C.length),(35,I j)])
   (λ(_,M)=>[fE L,.map (M.map pd)]) (λx=>C.length-x.1) (0,M) ⟨Nat.zero_le _,rfl,Θ⟩ rfl η (λx γ gd=>?_)
  obtain⟨j,M2⟩:=x;obtain⟨ε,x0,Aq⟩:=γ;simp only at ε x0 Aq ⊢;refine Η ?_;by_cases mc:j<C.length
  ·refine ai (by simp[mc]) ?_;have ql:=qk j mc;rw[x0] at ql;obtain⟨pK,rq⟩:=H3 _ (List.getElem_mem mc);generalize ι:C[j]=r at ql pK rq
   repeat apply ad
   refine dM (A:=[15]) Ρ λΕ ζ=>gW (υ mc ι) ?_;apply ζ;refine W.o9 (σ0:=[fE L,.map (M2.map pd)]) η (rA _) η [(15,.ao [I r.1,I r.2]),(2,I cell),(3,a6 lower),(4,.ms 0 L.length 0 L.length),(5,.ao [a7 s.au,bc s.aI,ca s.cells]),(11,.mp 1),(23,cZ F),(24,I F.length),(25,I i),(13,.ao [I f.u,I f.v,mS f.cells]),(33,mR C),(34,I C.length),(35,I j)] (by simp[lg,sC,rh]) ?_
   repeat apply ad
   refine dM (A:=[16]) Ρ λΕ ζ=>bD ?_;apply ζ;refine Η ?_;refine W.iter (λk:Nat=>k<=L.length) (λk=>[(2,I cell),(3,a6 lower),(4,.ms 0 L.length 0 L.length),(5,.ao [a7 s.au,bc s.aI,ca s.cells]),(11,.mp 1),(23,cZ F),(24,I F.length),(25,I i),(13,.ao [I f.u,I f.v,mS f.cells]),(33,mR C),(34,I C.length),(35,I j),(15,.ao [I r.1,I r.2]),(16,.ar 2 1 0 0),(39,.ms 0 L.length 0 L.length),(40,I L.length),(41,I k)])
    (λk=>[fE L,.map (M2.map pd),.cells 157 4 [um (pe s (f.u,f.v) r L k)]]) (λk=>L.length-k) 0 (Nat.zero_le _) (by simp[pe]) η (λk ς ry=>?_)
   refine Η ?_;by_cases jw:k<L.length
   ·refine ai (by simp[jw]) ?_;have wj:(k:Int)<4:=R;have iX:k<=3:=R;have tP:=Xv (s:=s) (p:=(f.u,f.v)) (r:=r) jw ab;have hlen:=NQ (s:=s) (p:=(f.u,f.v)) (r:=r) (Nat.le_of_lt jw) ab;have Xz:=mX _ (List.getElem_mem jw);obtain⟨K,ζ⟩:=aK (pe s (f.u,f.v) r L k);rw[<-ζ] at tP hlen ⊢;refine aB (υ jw (υ wj hlen)) ?_;refine hI (υ wj hlen) λΕ ζ=>?_;refine az.c (z' s ν (f.u,f.v) r L[k] Xz pK rq) (bF.refl _) η η ?_;simp[wj,iX,hlen];(repeat (rw[Ο];simp[wj,iX,hlen]));apply ζ;have Ar:=fC jw (show L.length<2 ^ 62 by omega);refine aB Ar ?_;refine W.to (ry (k+1) jw R) ?_ ?_
    ·rw[<-tP];simp
    ·simp[Ar]
   ·have XA:k=L.length:=by omega
    subst XA;refine aa η ?_;refine W.exit rfl ?_;have hlen:=NQ (s:=s) (p:=(f.u,f.v)) (r:=r) (Nat.le_refl _) ab;obtain⟨K,ζ⟩:=aK (pe s (f.u,f.v) r L L.length);obtain⟨v,hv⟩:=aK (kS lower r);rw[<-ζ,<-hv] at ql;rw[<-ζ] at hlen ⊢
    repeat apply ad
    refine W.rf (A:=[]) Ρ [(2,I cell),(3,a6 lower),(4,.ms 0 L.length 0 L.length),(5,.ao [a7 s.au,bc s.aI,ca s.cells]),(11,.mp 1),(23,cZ F),(24,I F.length),(25,I i),(13,.ao [I f.u,I f.v,mS f.cells]),(33,mR C),(34,I C.length),(35,I j),(15,.ao [I r.1,I r.2]),(16,.ar 2 1 0 0),(19,I v)] ?_ (by
     rw[hv];cases lower
     all_goals
      (try simp);(repeat (rw[Ο];simp[]));(try simp[]);refine az.d (HL _) (bD ?_);simp[kS])
    clear ry hv;have rz:=fC mc (show C.length<2 ^ 62 by omega);have k5:ob [fE L,.map (M2.map pd),.cells 157 4 [um K]] 1=true:=by simp[ob]
    have pL:n' bk 157 (um K)=true:=by
     match K,hlen with
     | [a,b,c,d],_=>simp[n',j0,mJ]
    have lf:List.take 4 (K.map I)=K.map I:=List.take_of_length_le (by simp[hlen]);rcases Xu K hlen M2 0 Aq with⟨Χ,ak,aY⟩|⟨bC,x,cP,Χ,ak,aY⟩
    ·have aY:=aY v
     have hm:mY s f cell lower L (some M) (j+1)=some (kz M2 K v):=by rw[ql];simp[x2,ak]
     (repeat (first|apply ad|(refine bs λΕ ζ=>?_;simp;(repeat (rw[Ο];simp[Χ,pL,lf,hlen,-n']));apply ζ)));refine aa rfl ?_;(repeat (first|apply ad|(refine bs λΕ ζ=>?_;simp;(repeat (rw[Ο];simp[Χ,pL,lf,hlen,-n']));apply ζ)));refine W.drop (h:=2) (σ':=[fE L,.map ((kz M2 K v).map pd)]) η η (λid w b9 hw=>fg.mono (rA (kz M2 K v) w (by
      match id,b9,hw with
      | 0,_,hw=>simp at hw;subst hw;simp
      | 1,_,hw=>simp[aY] at hw;subst hw;simp[aY])) η) (by simp[aY]) [(2,I cell),(3,a6 lower),(4,.ms 0 L.length 0 L.length),(5,.ao [a7 s.au,bc s.aI,ca s.cells]),(11,.mp 1),(23,cZ F),(24,I F.length),(25,I i),(13,.ao [I f.u,I f.v,mS f.cells]),(33,mR C),(34,I C.length),(35,I ((j:Int)+1))] (by simp[lg,sC,rh,rz]) ?_
     refine W.to (gd (j+1,kz M2 K v) ⟨mc,hm,NP Aq hlen v⟩ (by simp only;omega)) rfl ?_;simp
    ·have aY:=aY v;(repeat (first|apply ad|(refine bs λΕ ζ=>?_;simp;(repeat (rw[Ο];simp[Χ,pL,lf,hlen,-n']));apply ζ)));by_cases Eh:x=v
     ·have hm:mY s f cell lower L (some M) (j+1)=some (kz M2 K v):=by rw[ql];simp[x2,ak,Eh]
      refine aa (by simp[Eh]) ?_;(repeat (first|apply ad|(refine bs λΕ ζ=>?_;simp;(repeat (rw[Ο];simp[Χ,pL,lf,hlen,-n']));apply ζ)));refine W.drop (h:=2) (σ':=[fE L,.map ((kz M2 K v).map pd)]) η η (λid w b9 hw=>fg.mono (rA (kz M2 K v) w (by
       match id,b9,hw with
       | 0,_,hw=>simp at hw;subst hw;simp
       | 1,_,hw=>simp[aY] at hw;subst hw;simp[aY])) η) (by simp[aY]) [(2,I cell),(3,a6 lower),(4,.ms 0 L.length 0 L.length),(5,.ao [a7 s.au,bc s.aI,ca s.cells]),(11,.mp 1),(23,cZ F),(24,I F.length),(25,I i),(13,.ao [I f.u,I f.v,mS f.cells]),(33,mR C),(34,I C.length),(35,I ((j:Int)+1))] (by simp[lg,sC,rh,rz]) ?_
      refine W.to (gd (j+1,kz M2 K v) ⟨mc,hm,NP Aq hlen v⟩ (by simp only;omega)) rfl ?_;simp
     ·have hm:mY s f cell lower L (some M) (j+1)=none:=by rw[ql];simp[x2,ak,Eh]
      have oQ:=r4 (j+1) mc hm;rw[oQ];refine ai (by simp[Eh]) ?_;refine Η ?_;refine W.drop (h:=1) (σ':=[fE L]) η η (λid w b9 hw=>by
       obtain rfl:id=0:=R;simp at hw;subst hw;exact H5) rfl [(10,a6 false)] η ?_
      exact W.ret ⟨_,rfl,rfl,rfl⟩
  ·have Al:j=C.length:=by omega
   subst Al;have mO:=fC lp (show F.length<2 ^ 62 by have:=cm.nK;omega);refine aa η ?_;refine W.exit rfl ?_;refine aB mO ?_;refine W.to (Β (i+1,M2) ⟨lp,by rw[qj];exact x0,Aq⟩ (by simp only;omega)) rfl ?_;simp[mO]
 ·have eH:i=F.length:=by omega
  subst eH;have oQ:rC s F cell lower L=true:=by unfold rC;rw[eo];rfl
  rw[oQ];refine aa η ?_;refine W.exit rfl ?_;refine Η ?_;refine W.drop (h:=1) (σ':=[fE L]) η η (λid w b9 hw=>by
   obtain rfl:id=0:=R;simp at hw;subst hw;exact H5) rfl [(10,a6 true)] η ?_
  exact W.ret ⟨_,rfl,rfl,rfl⟩
end Go.TL
namespace Go.TL
open Go.Conc Go.Proofs
variable [bn]
section
variable {P:Program} {Q:Value->Prop} {mn:Bool} {x:g1} {cs rest:List Frame} {H:χ} {b f c:Frame} {t:Array Value} {k:List Item} {fn:Func}
theorem π.getLoop {L:Nat} {r:Loop} (h:H.obj L=some (.loop r)) {K:Loop->χ->Prop} {E:Value->χ->Prop} (ς:K r H):π P (Instr.getLoop L) H K E:=by
 unfold Instr.getLoop;refine π.bind' ?_;exact⟨_,h,rfl,π.pure' ς⟩
theorem π.H6 {L:Nat} {r r':Loop} (h:H.obj L=some (.loop r)) {K:Unit->χ->Prop} {E:Value->χ->Prop} (ς:K () (H.bL L (.loop r'))):π P (setObj L (.loop r')) H K E:=
 ⟨⟨_,h⟩,rfl,rfl,π.pure' ς⟩
abbrev NT (st:LoopState) (XB:Option Code) (f:FuncId) (t:Array Value) (c5:Array Tmp) (a sg:Code) (d:Nat):Loop:={state:=st,pending:=XB,fn:=f,tmps:=t,params:=c5,assign:=a,body:=sg,defers:=d}
theorem aR.rangeFunc (γ:Seq x) (hb:b.mode=.run) (cn:b.roundOf=none) {fo:Operand} {c5:Array Tmp} {assign body:Code} {g:FuncId} {mZ:Array Value} (XC:bp t fo=.func (.func g) #[] mZ) (Ξ:Plain P g)
  (h:∀r1 r2,H.fresh r1->(H.bL r1 (.deferred (some []))).fresh r2->aR P Q mn x (Frame.enter P g (#[.func (.yield r2) #[] #[]]++mZ) .normal) ({aA b t (.inRangeFunc r2::k) with defers:=⟨.collected r1,#[]⟩::b.defers}::cs)
   ((H.bL r1 (.deferred (some []))).bL r2 (.loop (NT .ready none b.fn t c5 assign body r1)))) :
  aR P Q mn x (aA b t (.code (.rangeFunc fo c5 assign body)::k)) cs H:=by
 refine .own γ λw Υ=>?_;have cq:π P (Instr.enterLoop b.fn t c5 assign body none) H (λv H'=>∃r1 r2,H.fresh r1/\(H.bL r1 (.deferred (some []))).fresh r2/\v=(r2,[⟨.collected r1,#[]⟩])/\H'=(H.bL r1 (.deferred (some []))).bL r2 (.loop (NT .ready none b.fn t c5 assign body r1))) (λ_ _=>False):=by
  unfold Instr.enterLoop;refine π.bind' (λr1 J=>π.pure' (π.bind' (π.pure' ?_)));refine π.bind' (λr2 U=>π.pure' (π.pure' ?_));exact⟨r1,r2,J,U,rfl,rfl⟩
 obtain⟨H',w',es',hu,ia⟩:=π.sound (P:=P) (G0:=H) (w0:=w) _ cq (dX.start Υ);rcases ia with⟨v,eb,r1,r2,J,U,rfl,rfl⟩|⟨v,eb,dw⟩
 ·refine⟨_,_,w',seen P b.fn es',_,?_,hu.sub λe he=>mem_seen he,h r1 r2 J U⟩;have dI:∀F:Frame,F.tmps=t->resolve F.eval {callee:=.value fo,args:=#[.const (.func (.yield r2) #[] #[])],argTypes:=#[]} 0=Deferred.ofValue (.func (.func g) #[] mZ) #[.func (.yield r2) #[] #[]]:=λF c0=>by
   have:F.eval fo=.func (.func g) #[] mZ:=by rw[<-XC,<-c0];cases fo<;>rfl
   unfold resolve;simp only;rw[this];simp[Frame.eval]
  have hinv:((do let d <-Deferred.ofValue (.func (.func g) #[] mZ) #[.func (.yield r2) #[] #[]];invoke d.target d.args:Sem Next)).runT P w' #[]=(.ok (.enter g (#[.func (.yield r2) #[] #[]]++mZ)) w',#[]):=by
   have:=Ξ.enter (#[.func (.yield r2) #[] #[]]++mZ) w';simpa[Deferred.ofValue,invoke] using this
  rw[jy hb];unfold stepG.exec;simp only[aA,cn,eb];rw[dI _ rfl];unfold stepG.apply;simp only[if_true,hinv];simp[GStep.after,Go.Conc.G,aA,seen_none]
 ·exact dw.elim
theorem aR.NU (γ:Seq x) (hb:b.mode=.run) {L:Nat} {r:Loop} (ab:H.obj L=some (.loop r)) (ν:r.state≠.busy)
  (h:aR P Q mn x (aA b t ((r.pending.map Item.code).toList++k)) cs (H.bL L (.loop {r with state:=.exhausted}))):aR P Q mn x (aA b t (.endRangeFunc L::k)) cs H:=by
 refine .own γ λw Υ=>?_;have cq:π P (Instr.endLoop L) H (λv H'=>v=r.pending/\H'=H.bL L (.loop {r with state:=.exhausted})) (λ_ _=>False):=by
  unfold Instr.endLoop;refine π.bind' (π.getLoop ab ?_);have e:(r.state==.busy)=false:=by cases Φ:r.state<;>first|rfl|exact absurd Φ ν
  simp only[e,Bool.false_eq_true,if_false];exact π.bind' (π.H6 ab (π.pure' ⟨rfl,rfl⟩))
 obtain⟨H',w',es',hu,ia⟩:=π.sound (P:=P) (G0:=H) (w0:=w) _ cq (dX.start Υ);rcases ia with⟨v,eb,rfl,rfl⟩|⟨v,eb,dw⟩
 ·refine⟨_,_,w',seen P b.fn es',_,?_,hu.sub λe he=>mem_seen he,h⟩;rw[jy hb];unfold stepG.exec;simp only[aA,eb];simp[GStep.after,Go.Conc.G]
 ·exact dw.elim
theorem aR.beginRound (γ:Seq x) (hb:b.mode=.run) {L:Nat} (cn:b.roundOf=some L) {r:Loop} (ab:H.obj L=some (.loop r)) (ν:r.state=.ready)
  (h:aR P Q mn x (aA b t k) cs (H.bL L (.loop {r with state:=.busy}))):aR P Q mn x (aA b t (.beginRound::k)) cs H:=by
 refine .own γ λw Υ=>?_;have cq:π P (Instr.beginRound L) H (λ_ H'=>H'=H.bL L (.loop {r with state:=.busy})) (λ_ _=>False):=by
  unfold Instr.beginRound;refine π.bind' (π.getLoop ab (π.bind' (π.H6 ab ?_)));rw[ν];exact π.pure' rfl
 have XD:π P (do Instr.beginRound L;pure Next.skip:Sem Next) H (λv H'=>v=.skip/\H'=H.bL L (.loop {r with state:=.busy})) (λ_ _=>False):=
  π.bind' (π.mono (λ_ _ e=>π.pure' ⟨rfl,e⟩) (λ_ _ h=>h) _ cq)
 obtain⟨H',w',es',hu,ia⟩:=π.sound (P:=P) (G0:=H) (w0:=w) _ XD (dX.start Υ);rcases ia with⟨v,eb,rfl,rfl⟩|⟨v,eb,dw⟩
 ·generalize gk:(if b.kind==.early then #[] else es')=n7;have km:∀e∈seen P b.fn n7,e∈es':=λe he=>by
   have:=mem_seen he;rw[<-gk] at this;split at this
   ·simp at this
   ·exact this
  refine⟨_,_,w',seen P b.fn n7,_,?_,hu.sub km,h⟩;rw[jy hb];unfold stepG.exec;simp only[aA,cn,Option.elim];unfold stepG.apply;simp only[if_true,eb];rw[gk];simp[GStep.after,Go.Conc.G,Frame.finish]
 ·exact dw.elim
theorem aR.endRound (γ:Seq x) (hb:b.mode=.run) {L:Nat} (cn:b.roundOf=some L) (ς:b.kind=.normal) {r:Loop} (ab:H.obj L=some (.loop r)) {jump:Option Code} (ε:(jump=none/\k=[])\/(jump=some .ret/\∃ag,k=.code .ret::ag)\/∃id ag,jump=some (.exit id)/\k=.code (.exit id)::ag/\exitTo id ag=none)
  (h:aR P Q mn x (c.finish (.bool jump.isNone)) rest (H.bL L (.loop {r with state:=if jump.isNone then .ready else .done,pending:=jump}))):aR P Q mn x (aA b t k) (c::rest) H:=by
 refine .own γ λw Υ=>?_;have cq:π P (Instr.endRound L jump) H (λv H'=>v=.bool jump.isNone/\H'=H.bL L (.loop {r with state:=if jump.isNone then .ready else .done,pending:=jump})) (λ_ _=>False):=by
  unfold Instr.endRound;exact π.bind' (π.getLoop ab (π.bind' (π.H6 ab (π.pure' ⟨rfl,rfl⟩))))
 obtain⟨H',w',es',hu,ia⟩:=π.sound (P:=P) (G0:=H) (w0:=w) _ cq (dX.start Υ);rcases ia with⟨v,eb,rfl,rfl⟩|⟨v,eb,dw⟩
 ·refine⟨_,_,w',seen P b.fn es',_,?_,hu.sub λe he=>mem_seen he,h⟩;rw[jy hb];unfold stepG.exec;rcases ε with⟨rfl,rfl⟩|⟨rfl,ag,rfl⟩|⟨id,ag,rfl,rfl,he⟩
  ·simp only[aA,cn,eb];simp[GStep.after,Go.Conc.G,doReturn,ς]
  ·simp only[aA,cn,eb];simp[GStep.after,Go.Conc.G,doReturn,ς]
  ·simp only[aA,cn,he,Option.elim,eb];simp[GStep.after,Go.Conc.G,doReturn,ς]
 ·exact dw.elim
theorem aR.collected (γ:Seq x) (hm:f.mode=.returning) {r:Nat} {ds:List Deferred} (hd:f.defers=⟨.collected r,#[]⟩::ds) (ι:H.obj r=some (.deferred (some [])))
  (h:aR P Q mn x {f with defers:=ds} cs (H.bL r (.deferred none))):aR P Q mn x f cs H:=by
 refine .own γ λw Υ=>?_;have cq:π P (Instr.takeDeferred r) H (λv H'=>v=[]/\H'=H.bL r (.deferred none)) (λ_ _=>False):=by
  unfold Instr.takeDeferred;refine π.bind' ?_;exact⟨_,ι,rfl,π.pure' (π.bind' ⟨⟨_,ι⟩,rfl,rfl,π.pure' (π.pure' ⟨rfl,rfl⟩)⟩)⟩
 obtain⟨H',w',es',hu,ia⟩:=π.sound (P:=P) (G0:=H) (w0:=w) _ cq (dX.start Υ);rcases ia with⟨v,eb,rfl,rfl⟩|⟨v,eb,dw⟩
 ·refine⟨_,_,w',seen P f.fn es',_,?_,hu.sub λe he=>mem_seen he,h⟩;rw[xk (by rw[hm];simp)];unfold unwind;simp only[hd,eb];simp[GStep.after,Go.Conc.G]
 ·exact dw.elim
end
end Go.TL
