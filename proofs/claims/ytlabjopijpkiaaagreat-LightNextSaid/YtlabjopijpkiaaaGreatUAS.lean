import Derived.Test.YtlabjopijpkiaaaGreatUAN
import Derived.Test.YtlabjopijpkiaaaGreatUAR
set_option maxHeartbeats 16000000
set_option maxRecDepth 20000
set_option linter.unusedSectionVars false
set_option linter.unusedSimpArgs false
set_option linter.unusedVariables false
namespace Go.TL
open Go.Proofs
variable [bt]
theorem eD.struct {h id k:Nat} {σ:List Row} {t:TypeId} {l cs:List η} (b0:h<=id) (bF:σ[id]?=some (.cells t k [.aV l])) (hlen:cs.length=l.length) (H:∀(x:Nat) (a cn:η),l[x]?=some a->cs[x]?=some cn->eD h σ a cn):eD h σ (.an id 1 0 0) (.ab cs):=
 .an b0 bF rfl rfl (by simp[η.cells,hlen]) λx a cn I U=>H x a cn (by simpa[η.cells] using I) U
abbrev g1 (a b c:η):Row:=.cells 26 3 [.aV [a,b,c]]
abbrev dB (r:Int×Int):η×η:=(aC r,bm true)
theorem YF (x y:Int×Int):aeqv a7 112 (aC x) (aC y)=some (decide (x=y)):=by
 simp[aeqv,jQ,mM];rw[Bool.eq_iff_iff];simp[Prod.ext_iff]
theorem YG (r:Int×Int):∀(l:List (Int×Int)) (n:Nat),r∉l->hR a7 112 (aC r) (l.map dB) n=some none:=by
 intro l
 induction l with
 | nil=>intro n _;rfl
 | cons x l Β=>
  intro n h;simp only[List.map_cons,hR];have I:¬r=x:=λe=>h (by simp[e]);have:=YF r x;rw[this,decide_eq_false I];exact Β (n+1) λhm=>h (by simp[hm])
def l8 (i j:Nat):List (Int×Int):=(List.range j).map λy:Nat=>((i:Int)-1,(y:Int)-1)
def ow (n i:Nat):List (Int×Int):=(List.range i).flatMap λx=>l8 x (n+1)
def AF (n:Nat):List (Int×Int):=ow n (n+1)
theorem OV (i j:Nat):l8 i (j+1)=l8 i j++[((i:Int)-1,(j:Int)-1)]:=by simp[l8,List.range_succ]
theorem IP (n i:Nat):ow n (i+1)=ow n i++l8 i (n+1):=by simp[ow,List.range_succ]
theorem EH {i j:Nat} {r:Int×Int} (h:r∈l8 i j):r.1=(i:Int)-1/\r.2<(j:Int)-1:=by
 unfold l8 at h;obtain⟨y,Ο,rfl⟩:=List.mem_map.1 h;have:=List.mem_range.1 Ο;exact⟨rfl,by simp;omega⟩
theorem OW {n i:Nat} {r:Int×Int} (h:r∈ow n i):r.1<(i:Int)-1:=by
 unfold ow at h;obtain⟨x,γ,U⟩:=List.mem_flatMap.1 h;have:=List.mem_range.1 γ;have:=(EH U).1;omega
def ev (s:aI) (p:Int×Int) (c:Nat):List (Int×Int):=(AF s.ag.length).filter λr=>s.nF p r c
theorem YH (i j:Nat):(l8 i j).Pairwise λx y=>x.1<y.1\/(x.1=y.1/\x.2<y.2):=by
 induction j with
 | zero=>simp[l8]
 | succ j Β=>
  rw[OV,List.pairwise_append];refine⟨Β,θ,λa μ b hb=>?_⟩;simp at hb;subst hb;have:=EH μ;exact .inr ⟨this.1,by simpa using this.2⟩
theorem YI (n i:Nat):(ow n i).Pairwise λx y=>x.1<y.1\/(x.1=y.1/\x.2<y.2):=by
 induction i with
 | zero=>simp[ow]
 | succ i Β=>
  rw[IP,List.pairwise_append];refine⟨Β,YH _ _,λa μ b hb=>.inl ?_⟩;have:=OW μ;have:=(EH hb).1;omega
theorem YJ (s:aI) (p:Int×Int) (c:Nat):(ev s p c).Pairwise λx y=>x.1<y.1\/(x.1=y.1/\x.2<y.2):=(YI _ _).filter _
def EI (N:Nat):Prop:=∀(l:List (Int×Int)),l.length<=N->ao Tryz.prog 173 [.ms 0 l.length 0 l.length,.fn (.func 174) [] []] [.cells 112 2 (l.map aC)] (λr s=>r=.bw []/\s=[.cells 112 2 ((l.mergeSort lk).map aC)]) (λ_ _=>False)
theorem YK:EI 12:=λl υ=>by
 have h:=XX l.toArray l.length θ υ (.fn (.func 174) [] []) nG (by simp[l4]) (λx y=>aD.p (Oz x y) (bS.refl _) θ θ);rw[OT yd OU l] at h;exact h
def h6 (q:Int×Int->Bool) (n i j:Nat):List (Int×Int):=(ow n i++l8 i j).filter q
theorem IQ {q:Int×Int->Bool} {n:Nat}:h6 q n 0 0=[]:=by simp[h6,ow,l8]
theorem IS {q:Int×Int->Bool} {n i:Nat}:h6 q n i (n+1)=h6 q n (i+1) 0:=by simp[h6,IP,l8]
theorem OX {q:Int×Int->Bool} {n i j:Nat}:h6 q n i (j+1)=h6 q n i j++if q ((i:Int)-1,(j:Int)-1) then [((i:Int)-1,(j:Int)-1)] else []:=by
 unfold h6;rw[OV,<-List.append_assoc,List.filter_append];simp[List.filter_cons]
theorem IT {q:Int×Int->Bool} {n:Nat}:h6 q n (n+1) 0=(AF n).filter q:=by simp[h6,l8,AF]
theorem YL {q:Int×Int->Bool} {n i j:Nat}:((i:Int)-1,(j:Int)-1)∉h6 q n i j:=by
 unfold h6;rw[List.mem_filter,List.mem_append];rintro⟨h|h,_⟩
 ·have:=OW h;simp at this
 ·have:=(EH h).2;simp at this
def nH (l:List η):η:=if l.isEmpty then .sl true 0 [] else .ms 3 l.length 0 l.length
def c6 (l:List η):List Row:=if l.isEmpty then [] else [.cells 111 1 l]
abbrev hI:Row:=.cells 110 3 [.aV [J 0,J 0,.sl true 0 []]]
abbrev gG (p:Int×Int) (L:List η):Row:=.cells 110 3 [.aV [J p.1,J p.2,nH L]]
def cy (id:Nat) (l:List η):η:=if l.isEmpty then .sl true 0 [] else .ms id l.length 0 l.length
theorem gH {id:Nat} {l:List η} (h:l≠[]):cy id l=.ms id l.length 0 l.length:=by unfold cy;rw[if_neg (by simpa using h)]
theorem YM {l:List η}:ay ((c6 l).length+3) (nH l):=by
 unfold nH c6;cases l.isEmpty<;>simp[oc]
theorem YN {h:Nat} {l:List η} (hb:∀e∈l,∀a∈e.cells,ay 0 a):∀r∈c6 l,eW h r:=by
 intro r κ;unfold c6 at κ;cases υ:l.isEmpty with
 | true=>rw[υ] at κ;simp at κ
 | false=>
  rw[υ] at κ;simp at κ;subst κ;exact λe he a μ=>(hb e he a μ).mono (Nat.zero_le _)
theorem eW.mono {h cU:Nat} {r:Row} (hb:eW h r) (aY:h<=cU):eW cU r:=by
 cases r with
 | cells t k l=>exact λe he a μ=>(hb e he a μ).mono aY
 | map es=>exact λe he=>⟨(hb e he).1.mono aY,(hb e he).2.mono aY⟩
 | iter m left cur=>exact⟨Nat.lt_of_lt_of_le hb.1 aY,λe he=>⟨(hb.2.1 e he).1.mono aY,(hb.2.1 e he).2.mono aY⟩,λe he=>⟨(hb.2.2 e he).1.mono aY,(hb.2.2 e he).2.mono aY⟩⟩
 | dead=>trivial
theorem YO {h id:Nat} {l:List η} (aY:l≠[]->id<h):ay h (cy id l):=by
 by_cases υ:l=[]
 ·subst υ;unfold cy;simp
 ·rw[gH υ];exact oc.2 (aY υ)
theorem OY {α:Type} (l:List α) (i:Nat) (h:i<l.length):(l[i]::l.eraseIdx i).Perm l:=by
 induction l generalizing i with
 | nil=>simp at h
 | cons a l Β=>
  cases i with
  | zero=>exact .refl _
  | succ i=>
   simp only[List.getElem_cons_succ,List.eraseIdx_cons_succ];exact(List.Perm.swap _ _ _).trans (.cons a (Β i (by simpa using h)))
theorem AG {h id k:Nat} {t:TypeId} {l:List η} {σ:List Row} (b0:h<=id) (κ:l≠[]->σ[id]?=some (.cells t k l)) (hb:∀e∈l,∀a∈e.cells,ay h a):eD h σ (cy id l) (fM k l):=by
 by_cases υ:l=[]
 ·subst υ;exact .low (by unfold cy;simp)
 ·have e:fM k l=.sl false k l:=by unfold fM;rw[if_neg (by simpa using υ)]
  rw[gH υ,e];exact .own b0 (κ υ) rfl hb
theorem IU (k:Nat) (m:List η):∃b kk l,fM k m=.sl b kk l:=by
 unfold fM;split
 ·exact⟨_,_,_,rfl⟩
 ·exact⟨_,_,_,rfl⟩
theorem OZ {α β:Type} (f:α->β) (l:List α) (i:Nat):(l.map f).eraseIdx i=(l.eraseIdx i).map f:=by
 induction l generalizing i with
 | nil=>rfl
 | cons a l Β=>cases i<;>simp[Β]
theorem YP (s:aI) (ν:s.small) (Ρ:s.ag.length<2 ^ 20) (p:Int×Int) (hv:∀c∈s.cells,∀x∈c,0<=x.cQ/\x.cQ<s.ak.length) (N:Nat) (cl:N<2 ^ 20) (ff:EI N) (hle:∀c,c<s.cells.length->(ev s p c).length<=N) :
  aD Tryz.prog 143 [fs s,aC p] (de ⟨p.1,p.2,(List.range s.cells.length).map (ev s p)⟩):=by
 refine ao.body Φ Tryz.func143 rfl rfl Tryz.ntmps143 rfl rfl θ ?_
 repeat apply ar
 refine dG (A:=[4]) Φ λΕ ζ=>bT ?_;apply ζ
 repeat apply ar
 refine dG (A:=[5]) Φ λΕ ζ=>bT ?_;apply ζ
 repeat apply ar
 refine bN λΕ ζ=>?_;apply ζ;refine Ζ ?_;have gW:s.cells.length<2 ^ 30:=ν.2.2.1;refine W.iter (λc:Nat=>c<=s.cells.length) (λc=>[(2,.ab [aS s.ag,aQ s.ak,bl s.cells]),(3,.ab [J p.1,J p.2]),(4,.an 0 1 0 0),(5,.an 1 1 0 0),(6,.mp 2),(19,J s.cells.length),(20,J c)])
  (λc=>hI::gG p ((List.range c).map λc=>fM 2 ((ev s p c).map aC))::.map []::c6 ((List.range c).map λc=>fM 2 ((ev s p c).map aC))) (λc=>s.cells.length-c) 0 (Nat.zero_le _) (by simp[nH,c6]) θ (λc ε Β=>?_)
 obtain⟨L,aG⟩:=aF ((List.range c).map λc=>fM 2 ((ev s p c).map aC));refine W.to (σ':=hI::gG p L::.map []::c6 L) (env':=[(2,.ab [aS s.ag,aQ s.ak,bl s.cells]),(3,.ab [J p.1,J p.2]),(4,.an 0 1 0 0),(5,.an 1 1 0 0),(6,.mp 2),(19,J s.cells.length),(20,J c)]) ?_ (by rw[aG]) θ;refine Ζ ?_;refine W.eM rfl (λε=>?_) (λε=>?_)
 ·have a8:c<s.cells.length:=by simpa using ε
  refine Ζ ?_;obtain⟨n,Η⟩:=aF s.ag.length;have ri:n<2 ^ 20:=R;obtain⟨q,Ψ⟩:=aF (λr=>s.nF p r c:Int×Int->Bool);have s':∀e∈L,∀a∈e.cells,ay 0 a:=by
   rw[aG];intro e he a μ;obtain⟨x,_,rfl⟩:=List.mem_map.1 he;unfold fM at μ;split at μ<;>simp[η.cells] at μ<;>subst μ<;>simp
  have ga:∀(M:List (Int×Int)) (h:Nat),eW h (.map (M.map dB)):=λM h e he=>by
   obtain⟨x,_,rfl⟩:=List.mem_map.1 he;simp
  have ih:∀M:List (Int×Int),∀r∈hI::gG p L::.map (M.map dB)::c6 L,eW (hI::gG p L::.map (M.map dB)::c6 L).length r:=λM r κ=>by
   simp only[List.mem_cons] at κ;rcases κ with rfl|rfl|rfl|κ
   ·simp[eW,η.cells]
   ·simp[eW,η.cells];exact YM
   ·exact ga M _
   ·exact YN s' r κ
  refine W.iter (λi:Nat=>i<=n+1) (λi=>[(2,.ab [aS s.ag,aQ s.ak,bl s.cells]),(3,.ab [J p.1,J p.2]),(4,.an 0 1 0 0),(5,.an 1 1 0 0),(6,.mp 2),(19,J s.cells.length),(20,J c),(7,J c),(8,J ((i:Int)-1))])
   (λi=>hI::gG p L::.map ((h6 q n i 0).map dB)::c6 L) (λi=>n+1-i) 0 (Nat.zero_le _) (by rw[IQ];rfl) θ (λi hi gk=>?_)
  refine Ζ ?_;by_cases bq:i<n+1
  ·refine al (by simp[<-Η];omega) ?_;refine Ζ ?_;refine W.iter (λj:Nat=>j<=n+1) (λj=>[(2,.ab [aS s.ag,aQ s.ak,bl s.cells]),(3,.ab [J p.1,J p.2]),(4,.an 0 1 0 0),(5,.an 1 1 0 0),(6,.mp 2),(19,J s.cells.length),(20,J c),(7,J c),(8,J ((i:Int)-1)),(9,J ((j:Int)-1))])
    (λj=>hI::gG p L::.map ((h6 q n i j).map dB)::c6 L) (λj=>n+1-j) 0 (Nat.zero_le _) rfl θ (λj δ kr=>?_)
   refine Ζ ?_;by_cases e0:j<n+1
   ·refine al (by simp[<-Η];omega) ?_
    repeat apply ar
    obtain⟨M,dm⟩:=aF (h6 q n i j);refine W.to (σ':=hI::gG p L::.map (M.map dB)::c6 L) (env':=[(2,.ab [aS s.ag,aQ s.ak,bl s.cells]),(3,.ab [J p.1,J p.2]),(4,.an 0 1 0 0),(5,.an 1 1 0 0),(6,.mp 2),(19,J s.cells.length),(20,J c),(7,J c),(8,J ((i:Int)-1)),(9,J ((j:Int)-1))]) ?_ (by rw[dm]) θ;have YQ:hR a7 112 (.aV [J ((i:Int)-1),J ((j:Int)-1)]) (M.map dB) 0=some none:=YG _ M 0 (by rw[dm];exact YL);have kZ:∀es,oa (hI::gG p L::.map es::c6 L) 2=true:=λes=>by unfold c6;cases L.isEmpty<;>simp[oa]
    refine dG (A:=[10]) Φ λΕ ζ=>bT ?_;apply ζ;refine W.pt (σ0:=hI::gG p L::.map (M.map dB)::c6 L) (Nat.zero_le _) (ih M) θ [(10,.ab [J ((i:Int)-1),J ((j:Int)-1)]),(2,.ab [aS s.ag,aQ s.ak,bl s.cells]),(3,.ab [J p.1,J p.2]),(4,.an 0 1 0 0),(5,.an 1 1 0 0),(6,.mp 2),(19,J s.cells.length),(20,J c),(7,J c),(8,J ((i:Int)-1)),(9,J ((j:Int)-1))] (by simp[lb,sS]) ?_;have ll:=fV (show j<2 ^ 62 by omega);refine bN λΕ ζ=>?_;refine aD.c (XO s ν p ((i:Int)-1,(j:Int)-1) c a8 (hv _ (List.getElem_mem a8)) (by simp;omega) (by simp;omega)) (bS.refl _) θ θ ?_;simp;(repeat (rw[Υ];simp[]));apply ζ;have IV:s.nF p ((i:Int)-1,(j:Int)-1) c=q ((i:Int)-1,(j:Int)-1):=by rw[Ψ]
    rw[IV];have dO:=OX (q:=q) (n:=n) (i:=i) (j:=j);cases AH:q ((i:Int)-1,(j:Int)-1)
    ·refine aj rfl ?_;refine aR ll ?_;rw[AH] at dO;refine W.to (kr (j+1) R R) ?_ ?_
     ·rw[dO,dm];simp
     ·simp
    ·refine al rfl ?_
     repeat apply ar
     refine bC λΕ ζ=>?_;simp;(repeat (rw[Υ];simp[YQ,kZ,-oa]));apply ζ;refine aR ll ?_;rw[AH] at dO;refine W.to (kr (j+1) R R) ?_ ?_
     ·rw[dO,dm];simp
     ·simp
   ·refine aj (by simp[<-Η];omega) ?_;refine W.exit rfl ?_;have rL:j=n+1:=R;subst rL;refine Ζ ?_;refine W.to (gk (i+1) R R) ?_ ?_
    ·rw[IS]
    ·have:=fV (show i<2 ^ 62 by omega);simp[this]
  ·refine aj (by simp[<-Η];omega) ?_;refine W.exit rfl ?_;have dT:i=n+1:=R;subst dT;obtain⟨D,dZ⟩:=aF (ev s p c);have IW:h6 q n (n+1) 0=D:=by rw[IT,dZ,Ψ,Η];rfl
   rw[IW];have wB:D.length<=N:=by rw[dZ];exact hle c a8
   refine W.to (σ':=hI::gG p L::.map (D.map dB)::c6 L) (env':=[(2,.ab [aS s.ag,aQ s.ak,bl s.cells]),(3,.ab [J p.1,J p.2]),(4,.an 0 1 0 0),(5,.an 1 1 0 0),(6,.mp 2),(19,J s.cells.length),(20,J c),(7,J c)]) ?_ rfl θ;refine Ζ ?_;refine W.iter (λx:List (Int×Int)×List (Int×Int)×Option (η×η)=>(x.1++x.2.1).Perm D/\(x.2.2=none\/∃y,x.2.2=some (dB y)))
    (λx=>[(2,.ab [aS s.ag,aQ s.ak,bl s.cells]),(3,.ab [J p.1,J p.2]),(4,.an 0 1 0 0),(5,.an 1 1 0 0),(6,.mp 2),(19,J s.cells.length),(20,J c),(7,J c),(11,cy ((c6 L).length+1+1+1+1) (x.1.map aC)),(50,.it ((c6 L).length+1+1+1))])
    (λx=>hI::gG p L::.map (D.map dB)::(c6 L++(.iter 2 (x.2.1.map dB) x.2.2::bh 112 2 (x.1.map aC)))) (λx=>x.2.1.length) ([],D,none) ⟨θ,.inl rfl⟩ (by simp[bh]) (by simp[cy]) (λx γ wC=>?_)
   obtain⟨K,ah,cur⟩:=x;obtain⟨ψ,DK⟩:=γ;simp only at ψ DK
   repeat apply ar
   cases ah with
   | nil=>
    refine bN λΕ ζ=>?_;apply ζ
    repeat apply ar
    refine aj rfl ?_;refine W.exit rfl ?_;have wD:K.Perm D:=by simpa using ψ
    repeat apply ar
    have O0:K.length<=N:=by rw[wD.length_eq];exact wB
    have YR:K.mergeSort lk=D:=by
     rw[dZ] at wD ⊢;exact Yy wD (YJ s p c)
    refine W.fA (A:=[]) Φ [(2,.ab [aS s.ag,aQ s.ak,bl s.cells]),(3,.ab [J p.1,J p.2]),(4,.an 0 1 0 0),(5,.an 1 1 0 0),(6,.mp 2),(19,J s.cells.length),(20,J c),(11,cy ((c6 L).length+1+1+1+1) (D.map aC))]
     (hI::gG p L::.map (D.map dB)::(c6 L++(.iter 2 [] cur::bh 112 2 (D.map aC)))) ?_ (by
     clear wC gk Β ih ga hle hv s';by_cases Θ:K=[]
     ·subst Θ;have IX:D=[]:=wD.symm.eq_nil;rw[IX];simp only[List.map_nil,iW,show cy ((c6 L).length+1+1+1+1) []=.sl true 0 [] from rfl];simp;(repeat (rw[Υ];simp[]));refine aD.c (YB _ (by simp[l4])) (bS.refl _) (by simp[l4]) θ ?_;simp;(repeat (rw[Υ];simp[]));(try simp)
     ·have gy:K.map aC≠[]:=by simpa using Θ
      have YS:D≠[]:=λe=>Θ (by rw[e] at wD;exact wD.eq_nil)
      have O1:D.map aC≠[]:=by simpa using YS
      rw[gH gy,ee gy,gH O1,ee O1];simp;(repeat (rw[Υ];simp[]));have o5:ay 0 (.fn (.func 174) [] []):=by simp[l4]
      refine ao.one (ff K O0) ((c6 L).length+1+1+1+1) θ (wv sY) (wv sY) (by simp[og,o5.iU 1]) (by simp[gj]) (by simp[oh,o5.ed [(c6 L).length+1+1+1+1]]) ?_;simp[ed,h4];(repeat (rw[Υ];simp[]));(try simp[YR,wD.length_eq]))
    refine W.cut ((c6 L).length+1+1+1) (Nat.zero_le _) [(2,.ab [aS s.ag,aQ s.ak,bl s.cells]),(3,.ab [J p.1,J p.2]),(4,.an 0 1 0 0),(5,.an 1 1 0 0),(6,.mp 2),(19,J s.cells.length),(20,J c),(11,fM 2 (D.map aC))] θ (λid r b0 κ=>?_) ?_ ?_
    ·refine ih D r ?_;have e:hI::gG p L::.map (D.map dB)::(c6 L++(.iter 2 [] cur::bh 112 2 (D.map aC)))=(hI::gG p L::.map (D.map dB)::c6 L)++(.iter 2 [] cur::bh 112 2 (D.map aC)):=θ;rw[e,dE (by simpa using b0)] at κ;exact cr κ
    ·have YT:eD ((c6 L).length+1+1+1) (hI::gG p L::.map (D.map dB)::(c6 L++(.iter 2 [] cur::bh 112 2 (D.map aC)))) (cy ((c6 L).length+1+1+1+1) (D.map aC)) (fM 2 (D.map aC)):=AG (t:=112) R (λυ=>by rw[ee υ];simp) (λe he a μ=>by
      obtain⟨z,_,rfl⟩:=List.mem_map.1 he;exact(sY z a μ).mono (Nat.zero_le _))
     intro z Θ;simp only[List.mem_cons,List.not_mem_nil,or_false] at Θ;rcases Θ with rfl|rfl|rfl|rfl|rfl|rfl|rfl|rfl
     all_goals first|exact YT|exact .low (by simp[lb,sS])
    ·obtain⟨kE,wE⟩:=aF (L++[fM 2 (D.map aC)]);have mW:L.length<2 ^ 30:=by rw[aG];simp;omega
     refine W.to (σ':=hI::gG p L::.map (D.map dB)::c6 L) (env':=[(2,.ab [aS s.ag,aQ s.ak,bl s.cells]),(3,.ab [J p.1,J p.2]),(4,.an 0 1 0 0),(5,.an 1 1 0 0),(6,.mp 2),(19,J s.cells.length),(20,J c),(11,fM 2 (D.map aC))]) ?_ θ θ
     repeat apply ar
     refine W.fA (A:=[65]) Φ [(2,.ab [aS s.ag,aQ s.ak,bl s.cells]),(3,.ab [J p.1,J p.2]),(4,.an 0 1 0 0),(5,.an 1 1 0 0),(6,.mp 2),(19,J s.cells.length),(20,J c)] (hI::gG p kE::.map (D.map dB)::c6 kE) ?_ (by
      clear wC gk Β ih ga hle hv;obtain⟨EJ,O2,sl,rK⟩:=IU 2 (D.map aC);rw[rK] at wE ⊢;by_cases Θ:L=[]
      ·have IY:kE=[.sl EJ O2 sl]:=by rw[wE,Θ];rfl
       rw[IY];subst Θ;simp only[gG,c6,nH,List.isEmpty_nil,List.isEmpty_cons,if_true,if_false];(try simp);(repeat (rw[Υ];simp[]));(try simp[])
      ·have kp:L.length<=4294967295:=by omega
       have c1:nH L=.ms 3 L.length 0 L.length:=by unfold nH;rw[if_neg (by simpa using Θ)]
       have c2:c6 L=[.cells 111 1 L]:=by unfold c6;rw[if_neg (by simpa using Θ)]
       have c3:nH kE=.ms 3 (L.length+1) 0 (L.length+1):=by rw[wE];unfold nH;rw[if_neg θ];simp
       have c4:c6 kE=[.cells 111 1 (L++[.sl EJ O2 sl])]:=by rw[wE];unfold c6;rw[if_neg θ]
       simp only[gG];rw[c1,c2,c3,c4];(try simp);(repeat (rw[Υ];simp[kp]));(try simp[kp]))
     have kZ:∀es,oa (hI::gG p kE::.map es::c6 kE) 2=true:=λes=>by unfold c6;cases kE.isEmpty<;>simp[oa]
     repeat apply ar
     refine bC λΕ ζ=>?_;simp;(repeat (rw[Υ];simp[kZ,-oa]));apply ζ;refine Ζ ?_;have AD:kE=(List.range (c+1)).map λc=>fM 2 ((ev s p c).map aC):=by rw[wE,aG,dZ,List.range_succ];simp
     refine W.to (Β (c+1) R R) ?_ ?_
     ·rw[<-AD]
     ·simp[fz a8 (show s.cells.length<2 ^ 62 by omega)]
   | cons y ah=>
    refine bN λΕ ζ=>?_;intro i hi;obtain⟨x,γ⟩:=aF ((y::ah)[i]'(by simpa using hi));have IZ:(dB y::List.map dB ah)[i]?=some (dB x):=by
     have:(List.map dB (y::ah))[i]?=some (dB x):=by
      rw[List.getElem?_map,a5 (by simpa using hi),γ];rfl
     simpa using this
    have I0:(dB y::List.map dB ah).eraseIdx i=((y::ah).eraseIdx i).map dB:=by
     exact OZ dB (y::ah) i
    rw[IZ,I0];simp;(repeat (rw[Υ];simp[]));apply ζ
    repeat apply ar
    refine al rfl ?_
    repeat apply ar
    refine dG (A:=[12]) Φ λΕ ζ=>bT ?_;apply ζ;have fx:∀r∈hI::gG p L::.map (D.map dB)::(c6 L++(.iter 2 (((y::ah).eraseIdx i).map dB) (some (dB x))::bh 112 2 (K.map aC))),eW (hI::gG p L::.map (D.map dB)::(c6 L++(.iter 2 (((y::ah).eraseIdx i).map dB) (some (dB x))::bh 112 2 (K.map aC)))).length r:=by
     intro r κ;have fp:r∈hI::gG p L::.map (D.map dB)::c6 L\/r∈(.iter 2 (((y::ah).eraseIdx i).map dB) (some (dB x))::bh 112 2 (K.map aC)):=by
      have:r∈(hI::gG p L::.map (D.map dB)::c6 L)++(.iter 2 (((y::ah).eraseIdx i).map dB) (some (dB x))::bh 112 2 (K.map aC)):=by simpa using κ
      exact List.mem_append.1 this
     rcases fp with fp|fp
     ·exact eW.mono (ih D r fp) θ
     ·rcases List.mem_cons.1 fp with rfl|fp
      ·refine⟨θ,λe he=>?_,λe he=>?_⟩
       ·obtain⟨z,_,rfl⟩:=List.mem_map.1 he;simp
       ·cases he;simp
      ·unfold bh at fp;split at fp
       ·simp at fp
       ·simp at fp;subst fp;intro e he a μ;obtain⟨z,_,rfl⟩:=List.mem_map.1 he;simp[η.cells] at μ;rcases μ with rfl|rfl<;>simp
    refine W.to (σ':=(hI::gG p L::.map (D.map dB)::(c6 L++(.iter 2 (((y::ah).eraseIdx i).map dB) (some (dB x))::bh 112 2 (K.map aC))))++[.cells 112 2 [aC x]]) (env':=[(12,.an (hI::gG p L::.map (D.map dB)::(c6 L++(.iter 2 (((y::ah).eraseIdx i).map dB) (some (dB x))::bh 112 2 (K.map aC)))).length 1 0 0),(2,.ab [aS s.ag,aQ s.ak,bl s.cells]),(3,.ab [J p.1,J p.2]),(4,.an 0 1 0 0),(5,.an 1 1 0 0),(6,.mp 2),(19,J s.cells.length),(20,J c),(7,J c),(11,cy ((c6 L).length+1+1+1+1) (K.map aC)),(50,.it ((c6 L).length+1+1+1))]) ?_ θ θ;refine W.pt (σ0:=hI::gG p L::.map (D.map dB)::(c6 L++(.iter 2 (((y::ah).eraseIdx i).map dB) (some (dB x))::bh 112 2 (K.map aC)))) (Nat.zero_le _) fx θ [(12,.ab [J x.1,J x.2]),(2,.ab [aS s.ag,aQ s.ak,bl s.cells]),(3,.ab [J p.1,J p.2]),(4,.an 0 1 0 0),(5,.an 1 1 0 0),(6,.mp 2),(19,J s.cells.length),(20,J c),(7,J c),(11,cy ((c6 L).length+1+1+1+1) (K.map aC)),(50,.it ((c6 L).length+1+1+1))] (by
     have hb:=YO (h:=(c6 L).length+((bh 112 2 (K.map aC)).length+1)+1+1+1) (id:=(c6 L).length+1+1+1+1) (l:=K.map aC) (λυ=>by rw[ee υ];simp);clear wC gk Β ih fx ga hle hv s';simp[lb,sS,Xh,hb]
     ) ?_
    repeat apply ar
    have O0:K.length<2 ^ 20:=by
     have:=ψ.length_eq;simp at this;omega
    refine W.fA (A:=[58]) Φ [(2,.ab [aS s.ag,aQ s.ak,bl s.cells]),(3,.ab [J p.1,J p.2]),(4,.an 0 1 0 0),(5,.an 1 1 0 0),(6,.mp 2),(19,J s.cells.length),(20,J c),(7,J c),(11,cy ((c6 L).length+1+1+1+1) ((K++[x]).map aC)),(50,.it ((c6 L).length+1+1+1))]
     (hI::gG p L::.map (D.map dB)::(c6 L++(.iter 2 (((y::ah).eraseIdx i).map dB) (some (dB x))::bh 112 2 ((K++[x]).map aC)))) ?_ (by
     clear wC gk Β ih fx ga hle hv s';by_cases Θ:K=[]
     ·subst Θ;simp only[List.map_nil,iW,show cy ((c6 L).length+1+1+1+1) []=.sl true 0 [] from rfl];(try simp);(repeat (rw[Υ];simp[iW]));(try simp[iW]);exact⟨rfl,rfl⟩
     ·have kp:K.length<=4294967295:=by omega
      have gy:K.map aC≠[]:=by simpa using Θ
      rw[gH gy,ee gy];(try simp);(repeat (rw[Υ];simp[kp]));(try simp[kp]);rw[ee θ,gH θ];simp)
    refine Ζ ?_;have O3:(x::(y::ah).eraseIdx i).Perm (y::ah):=by
     rw[γ];exact OY _ _ _
    refine W.to (wC (K++[x],(y::ah).eraseIdx i,some (dB x)) ⟨?_,.inr ⟨x,rfl⟩⟩ ?_) θ θ
    ·simp only[List.append_assoc,List.singleton_append];exact(O3.append_left K).trans ψ
    ·have:=O3.length_eq;simp at this;simp only[List.length_cons];omega
 ·have ta:c=s.cells.length:=by simp at ε;omega
  subst ta;refine W.exit rfl ?_
  repeat apply ar
  clear Β;have s':∀e∈L,∀a∈e.cells,ay 0 a:=by
   rw[aG];intro e he a μ;obtain⟨x,_,rfl⟩:=List.mem_map.1 he;unfold fM at μ;split at μ<;>simp[η.cells] at μ<;>subst μ<;>simp
  refine W.fA (A:=[]) Φ [(4,.an 0 1 0 0)] (.cells 110 3 [.aV [J p.1,J p.2,nH L]]::gG p L::.map []::c6 L) ?_ (by
   simp only[gG];by_cases Θ:L=[]
   ·rw[show nH L=.sl true 0 [] by rw[Θ];rfl];(try simp);(repeat (rw[Υ];simp[]));(try simp[])
   ·rw[show nH L=.ms 3 L.length 0 L.length by unfold nH;rw[if_neg (by simpa using Θ)],show c6 L=[.cells 111 1 L] by unfold c6;rw[if_neg (by simpa using Θ)]];(try simp);(repeat (rw[Υ];simp[]));(try simp[]))
  refine W.cut 0 (Nat.zero_le _) [(4,.ab [J p.1,J p.2,fM 1 L])] (Nat.zero_le _) (λid r b0=>R) (λz Θ=>by
   simp at Θ;subst Θ;exact eD.struct (k:=3) (t:=110) (l:=[J p.1,J p.2,nH L]) (Nat.zero_le _) rfl rfl (λx a cn I U=>by
    match x with
    | 0=>simp at I U;subst I;subst U;exact .low θ
    | 1=>simp at I U;subst I;subst U;exact .low θ
    | 2=>
     simp at I U;subst I;subst U;exact AG (id:=3) (t:=111) (l:=L) (Nat.zero_le _) (λυ=>by
      have:c6 L=[.cells 111 1 L]:=by unfold c6;rw[if_neg (by simpa using υ)]
      simp[this]) s'
    | x+3=>simp at I)) ?_
  refine Ζ ?_;refine W.rt ?_;refine cW.aV (bS.cons (.refl _) (bS.cons (.refl _) (bS.cons (.trans cW.acc ?_) .nil)));rw[aG];show cW _ (.sl false 1 (((List.range s.cells.length).map (ev s p)).map mQ));rw[List.map_map];refine cW.map λx _=>.one cW.acc ?_ rfl;obtain⟨b,k,l,he⟩:=IU 2 ((ev s p x).map aC);rw[he];rfl
structure ks where
 c:Int
 n:Int
 least:Int
 some:Bool
def ks.take (b:ks) (c n m:Int):ks:=if b.some=false\/m<b.least then⟨c,n,m,true⟩ else b
abbrev l9 (b:ks):η:=.aV [J b.c,J b.n,J b.least,bm b.some]
theorem YU (b:ks) (c n m:Int):ao Tryz.prog 76 [.an 0 1 0 0,.aV [J c,J n],J m] [.cells 104 4 [l9 b]] (λr s=>r=.bw []/\s=[.cells 104 4 [l9 (b.take c n m)]]) (λ_ _=>False):=by
 obtain⟨er,pX,l0,nZ⟩:=b;refine ao.body Φ Tryz.func76 rfl rfl Tryz.ntmps76 rfl rfl θ ?_;refine Ζ ?_;cases nZ
 ·have e:ks.take ⟨er,pX,l0,false⟩ c n m=⟨c,n,m,true⟩:=by simp[ks.take]
  rw[e];refine Ζ ?_;refine al rfl ?_;refine Ζ ?_;exact W.nil ⟨_,rfl,rfl,rfl⟩
 ·refine Ζ ?_;by_cases h:m<l0
  ·have e:ks.take ⟨er,pX,l0,true⟩ c n m=⟨c,n,m,true⟩:=by simp[ks.take,h]
   rw[e];refine al (by simp[h]) ?_;refine Ζ ?_;exact W.nil ⟨_,rfl,rfl,rfl⟩
  ·have e:ks.take ⟨er,pX,l0,true⟩ c n m=⟨er,pX,l0,true⟩:=by simp[ks.take,h]
   rw[e];refine aj (by simp[h]) ?_;refine Ζ ?_;exact W.nil ⟨_,rfl,rfl,rfl⟩
abbrev iy (e:Int×Int):η×η:=(J e.1,J e.2)
def hT:List (Int×Int)->Int->Int->List (Int×Int)
 | [],k,n=>[(k,IntKind.i64.wrap (0+n))]
 | e::r,k,n=>if k=e.1 then(k,IntKind.i64.wrap (e.2+n))::r else e::hT r k n
theorem YV (k n:Int):∀(m:List (Int×Int)) (d:Nat),(hR a7 113 (J k) (m.map iy) d=some none/\hT m k n=m++[(k,IntKind.i64.wrap (0+n))])\/∃i v,i<m.length/\hR a7 113 (J k) (m.map iy) d=some (some (d+i,J v))/\hT m k n=m.set i (k,IntKind.i64.wrap (v+n)):=by
 intro m
 induction m with
 | nil=>intro d;exact .inl ⟨rfl,rfl⟩
 | cons e r Β=>
  intro d;have Ψ:aeqv a7 113 (J k) (J e.1)=some (k==e.1):=by simp[aeqv,jQ,mM,jh]
  by_cases h:k=e.1
  ·refine .inr ⟨0,e.2,θ,?_,by simp[hT,h]⟩;simp only[List.map_cons,hR,Ψ];simp[h]
  ·have hb:(k==e.1)=false:=by simpa using h
   rcases Β (d+1) with⟨I,U⟩|⟨i,v,I,U,ξ⟩
   ·refine .inl ⟨?_,by simp[hT,h,U]⟩;simp only[List.map_cons,hR,Ψ,hb,cond_false];exact I
   ·refine .inr ⟨i+1,v,by simp;omega,?_,by simp[hT,h,ξ]⟩;simp only[List.map_cons,hR,Ψ,hb,cond_false];rw[U];have:d+1+i=d+(i+1):=R;rw[this]
theorem ao.YW {P:Program} {σ:List Row} {g:FuncId} {as0 first:List η} {row row':Row} {r:η} {K E:η->List Row->Prop} (h:ao P g as0 [row] (λa s=>a=r/\s=[row']) (λ_ _=>False)) (id:Nat) (b0:σ[id]?=some row) (ψ:iR row) (gf:iR row') (μ:∀a∈as0,gj 1 a) (κ:gj 1 r)
  {args:List η} (mO:first++args=as0.map (ed [id])) (ζ:K (ed [id] r) (σ.set id row')):hE P (.fn (.func g) first []) args σ K E:=by
 have aY:=ao.rows (σ:=σ) h [id] θ rfl (λj i δ=>by
  cases j with
  | zero=>simp at δ;subst δ;exact b0
  | succ j=>simp at δ) (λr κ=>by simp at κ;subst κ;exact ψ) (by simpa using μ) (K':=K) (E':=E) (λa s ⟨I,U⟩=>by
   subst I;subst U;refine⟨λx γ=>by simp at γ;subst γ;exact gf,κ,?_⟩;simpa[names,sW,iQ] using ζ) (λa s h=>h.elim)
 exact ao.call (first:=first) (captured:=[]) (by rw[List.append_nil,mO];exact aY)
def l' (s:aI) (f:Found) (c n:Nat) (m:List (Int×Int)) (j:Nat):List (Int×Int):=(((f.cells[c]?).getD []).take j).foldl (λm r=>hT m (s.dU (f.u,f.v) r n) (f.many c)) m
def px (s:aI) (F:List Found) (c n i:Nat):List (Int×Int):=(F.take i).foldl (λm f=>l' s f c n m ((f.cells[c]?).getD []).length) []
def ma (a:Int) (l:List (Int×Int)):Int:=l.foldl (λa e=>max a e.2) a
def ye (s:aI) (F:List Found) (c n:Nat):Int:=ma 0 (px s F c n F.length)
def uH (s:aI) (F:List Found) (c:Nat) (b:ks) (n:Nat):ks:=(List.range n).foldl (λb (n:Nat)=>b.take c n (ye s F c n)) b
def rM (s:aI) (F:List Found) (c:Nat):ks:=(List.range c).foldl (λb (c:Nat)=>uH s F c b s.ak.length) ⟨0,0,0,false⟩
theorem O4 (s:aI) (F:List Found) (c:Nat) (b:ks) (n:Nat):uH s F c b (n+1)=(uH s F c b n).take c n (ye s F c n):=by simp[uH,List.range_succ,List.foldl_append]
theorem O5 (s:aI) (F:List Found) (c:Nat):rM s F (c+1)=uH s F c (rM s F c) s.ak.length:=by simp[rM,List.range_succ,List.foldl_append]
theorem YX (s:aI) (f:Found) (c n:Nat) (m:List (Int×Int)) (j:Nat) (h:j<((f.cells[c]?).getD []).length):l' s f c n m (j+1)=hT (l' s f c n m j) (s.dU (f.u,f.v) ((f.cells[c]?).getD [])[j] n) (f.many c):=by
 unfold l';rw[List.take_succ_eq_append_getElem h,List.foldl_append];rfl
theorem YY (s:aI) (F:List Found) (c n i:Nat) (h:i<F.length):px s F c n (i+1)=l' s F[i] c n (px s F c n i) ((F[i].cells[c]?).getD []).length:=by
 unfold px;rw[List.take_succ_eq_append_getElem h,List.foldl_append];rfl
theorem YZ {a:Int} {l m:List (Int×Int)} (h:l.Perm m):ma a l=ma a m:=h.foldl_eq' (λx _ y _ z=>R) a
def py (s:aI) (F:List Found):Int×Int×Int×Int:=
 if(fN s true F).2.2≠0 then(0,0,0,(fN s true F).2.2)
 else let b:=rM s F s.cells.length;if b.some=false\/b.least=iT F then(0,0,0,11) else(b.c,b.n,b.least,0)
structure AI (s:aI) (F:List Found):Prop where
 qx:F.length<2 ^ 20
 cells:∀f∈F,f.cells.length=s.cells.length/\(∀c∈f.cells,c.length<2 ^ 20/\∀r∈c,r.1<s.ag.length/\r.2<s.ag.length)
 many:∀f∈F,f.cells.length<2 ^ 62/\∀(g0:Int) i,i<=f.cells.length->gF f.cells g0 i<2 ^ 62
 count:iT F<2 ^ 62
theorem O6 (s:aI) (ν:s.small) (F:List Found) (gB:s7 s F) (cl:AI s F) :
  aD Tryz.prog 26 [fs s] (.bw [J (py s F).1,J (py s F).2.1,J (py s F).2.2.1,J (py s F).2.2.2]):=by
 refine ao.body Φ Tryz.func26 rfl rfl Tryz.ntmps26 rfl rfl θ ?_;refine Ζ ?_;refine x5 ?_;refine dG (A:=[6]) Φ λΕ ζ=>bT ?_;refine aD.d (EE s ν true F gB) (bT ?_);apply ζ;by_cases b:(fN s true F).2.2=0
 case neg=>
  have e:py s F=(0,0,0,(fN s true F).2.2):=by unfold py;rw[if_pos b]
  rw[e];generalize (fN s true F).2.2=gg at b;refine Ζ ?_;refine al (by simp[b]) ?_;refine Ζ ?_;refine W.drop (h:=0) (σ':=[]) (Nat.zero_le _) (Nat.zero_le _) θ rfl [(2,J 0),(3,J 0),(4,J 0),(5,J gg)] θ ?_;refine W.rt ?_;exact .refl _
 have e:fN s true F=(s,F,0):=by
  unfold fN at b ⊢;split at b
  ·rename_i h;simp at b;exact absurd b h
  ·split at b
   ·simp at b
   ·rename_i I U;rw[if_neg I,if_neg U]
 have Γ:py s F=let b:=rM s F s.cells.length;if b.some=false\/b.least=iT F then(0,0,0,11) else(b.c,b.n,b.least,0):=by unfold py;rw[if_neg (by simpa using b)]
 rw[Γ,e];clear Γ;refine W.fix (id:=0) (σ':=[]) (Nat.zero_le _) rfl θ θ rfl [(5,J 0),(6,.ab [aS s.ag,aQ s.ak,bl s.cells]),(7,cX F)] θ ?_;refine Ζ ?_;refine aj rfl ?_
 repeat apply ar
 refine dG (A:=[8]) Φ λΕ ζ=>bT ?_;apply ζ;refine Ζ ?_;have gW:s.cells.length<2 ^ 30:=ν.2.2.1;have lξ:s.ak.length<2 ^ 30:=ν.2.1;have rN:∀{b:ks} (M:List (Int×Int)),∀r∈[Row.cells 104 4 [l9 b],.map (M.map iy)],eW [Row.cells 104 4 [l9 b],.map (M.map iy)].length r:=λ{b} M r κ=>by
  simp only[List.mem_cons,List.not_mem_nil,or_false] at κ;rcases κ with rfl|rfl
  ·simp[eW,η.cells]
  ·intro e he;obtain⟨x,_,rfl⟩:=List.mem_map.1 he;simp
 refine W.iter (λc:Nat=>c<=s.cells.length) (λc=>[(6,.ab [aS s.ag,aQ s.ak,bl s.cells]),(7,cX F),(8,.an 0 1 0 0),(9,.fn (.func 76) [.an 0 1 0 0] []),(33,J s.cells.length),(34,J c)])
  (λc=>[.cells 104 4 [l9 (rM s F c)]]) (λc=>s.cells.length-c) 0 (Nat.zero_le _) rfl θ (λc jM Β=>?_)
 refine Ζ ?_;refine W.eM rfl (λε=>?_) (λε=>?_)
 ·have ji:c<s.cells.length:=by simpa using ε
  refine Ζ ?_;obtain⟨db,jN⟩:=aF (rM s F c);refine W.iter (λn:Nat=>n<=s.ak.length) (λn=>[(6,.ab [aS s.ag,aQ s.ak,bl s.cells]),(7,cX F),(8,.an 0 1 0 0),(9,.fn (.func 76) [.an 0 1 0 0] []),(10,J c),(33,J s.cells.length),(34,J c),(40,J s.ak.length),(41,J n)])
   (λn=>[.cells 104 4 [l9 (uH s F c db n)]]) (λn=>s.ak.length-n) 0 (Nat.zero_le _) (by rw[jN];rfl) θ (λn rn gk=>?_)
  refine Ζ ?_;refine W.eM rfl (λa8=>?_) (λa8=>?_)
  ·have ri:n<s.ak.length:=by simpa using a8
   obtain⟨bJ,k4⟩:=aF (uH s F c db n);refine W.to (σ':=[.cells 104 4 [l9 bJ]]) (env':=[(6,.ab [aS s.ag,aQ s.ak,bl s.cells]),(7,cX F),(8,.an 0 1 0 0),(9,.fn (.func 76) [.an 0 1 0 0] []),(10,J c),(33,J s.cells.length),(34,J c),(40,J s.ak.length),(41,J n)]) ?_ (by rw[k4]) θ;refine Ζ ?_;refine W.iter (λi:Nat=>i<=F.length) (λi=>[(6,.ab [aS s.ag,aQ s.ak,bl s.cells]),(7,cX F),(8,.an 0 1 0 0),(9,.fn (.func 76) [.an 0 1 0 0] []),(10,J c),(33,J s.cells.length),(34,J c),(40,J s.ak.length),(41,J n),(11,J n),(12,.mp 1),(45,cX F),(46,J F.length),(47,J i)])
    (λi=>[.cells 104 4 [l9 bJ],.map ((px s F c n i).map iy)]) (λi=>F.length-i) 0 (Nat.zero_le _) rfl θ (λi hi wC=>?_)
   refine Ζ ?_;by_cases ln:i<F.length
   ·refine al (by simp[ln]) ?_;obtain⟨M,dm⟩:=aF (px s F c n i);have ox:=YY s F c n i ln;rw[<-dm] at ox;obtain⟨nI,hq⟩:=cl.cells _ (List.getElem_mem ln);obtain⟨iz,jX⟩:=cl.many _ (List.getElem_mem ln);generalize Χ:F[i]=f at ox nI hq iz jX;have bX:c<f.cells.length:=by rw[nI];exact ji
    refine W.to (σ':=[.cells 104 4 [l9 bJ],.map (M.map iy)]) (env':=[(6,.ab [aS s.ag,aQ s.ak,bl s.cells]),(7,cX F),(8,.an 0 1 0 0),(9,.fn (.func 76) [.an 0 1 0 0] []),(10,J c),(33,J s.cells.length),(34,J c),(40,J s.ak.length),(41,J n),(11,J n),(12,.mp 1),(45,cX F),(46,J F.length),(47,J i)]) ?_ (by rw[dm]) θ
    repeat apply ar
    refine dG (A:=[14]) Φ λΕ ζ=>gQ (Μ ln Χ) ?_;apply ζ;refine W.pt (σ0:=[.cells 104 4 [l9 bJ],.map (M.map iy)]) (Nat.zero_le _) (rN _) θ [(14,.ab [J f.u,J f.v,mR f.cells]),(6,.ab [aS s.ag,aQ s.ak,bl s.cells]),(7,cX F),(8,.an 0 1 0 0),(9,.fn (.func 76) [.an 0 1 0 0] []),(10,J c),(33,J s.cells.length),(34,J c),(40,J s.ak.length),(41,J n),(11,J n),(12,.mp 1),(45,cX F),(46,J F.length),(47,J i)] (by simp[lb,sS]) ?_;refine aR bX ?_;have AJ:(f.cells[c]?).getD []=f.cells[c]:=by simp[bX]
    rw[AJ] at ox;have AK:=hq _ (List.getElem_mem bX);have qy:=YX s f c n M;rw[AJ] at qy;generalize f.cells[c]=C at ox AK qy;obtain⟨Y0,I1⟩:=AK;refine W.iter (λj:Nat=>j<=C.length) (λj=>[(14,.ab [J f.u,J f.v,mR f.cells]),(6,.ab [aS s.ag,aQ s.ak,bl s.cells]),(7,cX F),(8,.an 0 1 0 0),(9,.fn (.func 76) [.an 0 1 0 0] []),(10,J c),(33,J s.cells.length),(34,J c),(40,J s.ak.length),(41,J n),(11,J n),(12,.mp 1),(45,cX F),(46,J F.length),(47,J i),(55,mQ C),(56,J C.length),(57,J j)])
     (λj=>[.cells 104 4 [l9 bJ],.map ((l' s f c n M j).map iy)]) (λj=>C.length-j) 0 (Nat.zero_le _) (by simp[l']) θ (λj δ kr=>?_)
    refine Ζ ?_;by_cases mb:j<C.length
    ·refine al (by simp[mb]) ?_;obtain⟨M2,tc⟩:=aF (l' s f c n M j);have qz:=qy j mb;rw[<-tc] at qz;refine W.to (σ':=[.cells 104 4 [l9 bJ],.map (M2.map iy)]) (env':=[(14,.ab [J f.u,J f.v,mR f.cells]),(6,.ab [aS s.ag,aQ s.ak,bl s.cells]),(7,cX F),(8,.an 0 1 0 0),(9,.fn (.func 76) [.an 0 1 0 0] []),(10,J c),(33,J s.cells.length),(34,J c),(40,J s.ak.length),(41,J n),(11,J n),(12,.mp 1),(45,cX F),(46,J F.length),(47,J i),(55,mQ C),(56,J C.length),(57,J j)]) ?_ (by rw[tc]) θ;obtain⟨k3,mU⟩:=I1 _ (List.getElem_mem mb);generalize κ:C[j]=r at qz k3 mU
     repeat apply ar
     refine dG (A:=[16]) Φ λΕ ζ=>gQ (Μ mb κ) ?_;apply ζ;refine W.pt (σ0:=[.cells 104 4 [l9 bJ],.map (M2.map iy)]) (Nat.zero_le _) (rN _) θ [(16,.ab [J r.1,J r.2]),(14,.ab [J f.u,J f.v,mR f.cells]),(6,.ab [aS s.ag,aQ s.ak,bl s.cells]),(7,cX F),(8,.an 0 1 0 0),(9,.fn (.func 76) [.an 0 1 0 0] []),(10,J c),(33,J s.cells.length),(34,J c),(40,J s.ak.length),(41,J n),(11,J n),(12,.mp 1),(45,cX F),(46,J F.length),(47,J i),(55,mQ C),(56,J C.length),(57,J j)] (by simp[lb,sS]) ?_
     repeat apply ar
     have ll:=fz mb (show C.length<2 ^ 62 by omega);rcases YV (s.dU (f.u,f.v) r n) (f.many c) M2 0 with⟨Τ,af⟩|⟨b6,v,cV,Τ,af⟩
     ·refine W.draw (A:=[]) Φ mixed λΕ ζ=>?_;simp;(repeat (rw[dN];simp[Τ,jh]));try rw[dM]
      refine gv (aD.p (As s ν (f.u,f.v) r n ri k3 mU) (bS.refl _) θ θ) ?_;simp[Τ,jh];(repeat (rw[dN];simp[Τ,jh]));try rw[dM]
      refine gv (aD.p (EA f c iz (jX c)) (bS.refl _) θ θ) ?_;simp[Τ,jh];(repeat (rw[dN];simp[Τ,jh]));try rw[dM]
      refine fy (ζ _ _ ?_);refine aR ll ?_;refine W.to (kr (j+1) mb R) ?_ ?_
      ·rw[qz,af];simp
      ·simp[ll]
     ·refine W.draw (A:=[]) Φ mixed λΕ ζ=>?_;simp;(repeat (rw[dN];simp[Τ,jh]));try rw[dM]
      refine gv (aD.p (As s ν (f.u,f.v) r n ri k3 mU) (bS.refl _) θ θ) ?_;simp[Τ,jh];(repeat (rw[dN];simp[Τ,jh]));try rw[dM]
      refine gv (aD.p (EA f c iz (jX c)) (bS.refl _) θ θ) ?_;simp[Τ,jh];(repeat (rw[dN];simp[Τ,jh]));try rw[dM]
      refine fy (ζ _ _ ?_);refine aR ll ?_;refine W.to (kr (j+1) mb R) ?_ ?_
      ·rw[qz,af];simp
      ·simp[ll]
    ·have rL:j=C.length:=by omega
     subst rL;have ki:=fz ln (show F.length<2 ^ 62 by have:=cl.qx;omega);refine aj θ ?_;refine W.exit rfl ?_;refine aR ki ?_;refine W.to (wC (i+1) ln R) ?_ ?_
     ·rw[ox]
     ·simp[ki]
   ·have dT:i=F.length:=by omega
    subst dT;refine aj θ ?_;refine W.exit rfl ?_;obtain⟨M,dm⟩:=aF (px s F c n F.length);have I2:ye s F c n=ma 0 M:=by rw[dm];rfl
    refine W.to (σ':=[.cells 104 4 [l9 bJ],.map (M.map iy)]) (env':=[(6,.ab [aS s.ag,aQ s.ak,bl s.cells]),(7,cX F),(8,.an 0 1 0 0),(9,.fn (.func 76) [.an 0 1 0 0] []),(10,J c),(33,J s.cells.length),(34,J c),(40,J s.ak.length),(41,J n),(11,J n),(12,.mp 1)]) ?_ (by rw[dm]) θ;refine Ζ ?_;refine W.iter (λx:Int×List (Int×Int)×Option (η×η)=>ma x.1 x.2.1=ma 0 M) (λx=>[(6,.ab [aS s.ag,aQ s.ak,bl s.cells]),(7,cX F),(8,.an 0 1 0 0),(9,.fn (.func 76) [.an 0 1 0 0] []),(10,J c),(33,J s.cells.length),(34,J c),(40,J s.ak.length),(41,J n),(11,J n),(12,.mp 1),(17,J x.1),(76,.it 2)])
     (λx=>[.cells 104 4 [l9 bJ],.map (M.map iy),.iter 1 (x.2.1.map iy) x.2.2]) (λx=>x.2.1.length) (0,M,none) rfl rfl θ (λx γ Y1=>?_)
    obtain⟨od,ah,cur⟩:=x;simp only at γ
    repeat apply ar
    cases ah with
    | nil=>
     refine bN λΕ ζ=>?_;apply ζ
     repeat apply ar
     refine aj rfl ?_;refine W.exit rfl ?_;have AL:od=ye s F c n:=by rw[I2,<-γ];rfl
     have AM:=fz ri (show s.ak.length<2 ^ 62 by omega);refine bN λΕ ζ=>?_;refine ao.YW (as0:=[.an 0 1 0 0,.aV [J c,J n],J od]) (YU bJ c n od) 0 rfl (by simp[iR,η.cells]) (by simp[iR,η.cells]) (by simp[gj,pe]) (by simp[gj]) rfl ?_;simp[ed,h4];(repeat (rw[Υ];simp[]));apply ζ;refine W.drop (h:=1) (σ':=[.cells 104 4 [l9 (bJ.take c n od)]]) (Nat.zero_le _) θ (λid r b0 κ=>?_) rfl [(6,.ab [aS s.ag,aQ s.ak,bl s.cells]),(7,cX F),(8,.an 0 1 0 0),(9,.fn (.func 76) [.an 0 1 0 0] []),(10,J c),(33,J s.cells.length),(34,J c),(40,J s.ak.length),(41,J n)] (by simp[lb]) ?_
     ·obtain rfl:id=0:=by omega
      simp at κ;subst κ;simp[eW,η.cells]
     refine aR AM ?_;refine W.to (gk (n+1) ri R) ?_ ?_
     ·rw[O4,<-k4,AL]
     ·simp[AM]
    | cons y ah=>
     refine bN λΕ ζ=>?_;intro b6 o6;obtain⟨x,mI⟩:=aF ((y::ah)[b6]'(by simpa using o6));have IZ:(iy y::List.map iy ah)[b6]?=some (iy x):=by
      have:(List.map iy (y::ah))[b6]?=some (iy x):=by
       rw[List.getElem?_map,a5 (by simpa using o6),mI];rfl
      simpa using this
     have I0:(iy y::List.map iy ah).eraseIdx b6=((y::ah).eraseIdx b6).map iy:=OZ iy (y::ah) b6;rw[IZ,I0];simp;(repeat (rw[Υ];simp[]));apply ζ
     repeat apply ar
     refine al rfl ?_;refine Ζ ?_;have O7:b6<(y::ah).length:=by simpa using o6
     have hinv:ma (max od x.2) ((y::ah).eraseIdx b6)=ma 0 M:=by
      rw[<-γ,<-YZ (OY (y::ah) b6 O7),<-mI];rfl
     have AL:max od x.2=if od<x.2 then x.2 else od:=by split<;>omega
     refine W.to (Y1 (max od x.2,(y::ah).eraseIdx b6,some (iy x)) hinv (by simp only[List.length_eraseIdx,O7,if_true];omega)) ?_ ?_
     ·simp
     ·simp[AL]
  ·have bA:n=s.ak.length:=by simp at a8;omega
   subst bA;have te:=fz ji (show s.cells.length<2 ^ 62 by omega);refine W.exit rfl ?_;refine aR te ?_;refine W.to (Β (c+1) ji R) ?_ ?_
   ·rw[O5,<-jN]
   ·simp[te]
 ·have ε:c=s.cells.length:=by simp at ε;omega
  subst ε;refine W.exit rfl ?_;refine Ζ ?_;obtain⟨⟨O8,uz,mA,qh⟩,fl⟩:∃B,B=rM s F s.cells.length:=⟨_,rfl⟩;rw[<-fl];refine W.fix (id:=0) (σ':=[]) (Nat.zero_le _) rfl θ θ rfl [(7,cX F),(8,.ab [J O8,J uz,J mA,bm qh])] θ ?_;have I:∀f∈F,f.cells.length<2 ^ 62/\∀i,i<=f.cells.length->gF f.cells (-1) i<2 ^ 62:=λf Χ=>⟨(cl.many f Χ).1,(cl.many f Χ).2 (-1)⟩;cases qh
  ·refine uq ?_;refine al rfl ?_;refine Ζ ?_;refine W.drop (h:=0) (σ':=[]) (Nat.zero_le _) (Nat.zero_le _) θ rfl [(2,J 0),(3,J 0),(4,J 0),(5,J 11)] θ ?_;refine W.rt ?_;exact .of θ
  ·refine W.draw (A:=[]) Φ mixed λΕ ζ=>rG ?_;refine gv (aD.p (XS F (by have:=cl.qx;omega) I cl.count) (bS.refl _) θ θ) ?_;simp;(repeat (rw[dN];simp[]));try rw[dM]
   refine fy (ζ _ _ ?_);by_cases q:mA=iT F
   ·refine al (by simp[q]) ?_;refine Ζ ?_;refine W.drop (h:=0) (σ':=[]) (Nat.zero_le _) (Nat.zero_le _) θ rfl [(2,J 0),(3,J 0),(4,J 0),(5,J 11)] θ ?_;refine W.rt ?_;exact .of (by simp[q])
   ·refine aj (by simp[q]) ?_;refine Ζ ?_;refine uq ?_;refine W.drop (h:=0) (σ':=[]) (Nat.zero_le _) (Nat.zero_le _) θ rfl [(2,J O8),(3,J uz),(4,J mA),(5,J 0)] θ ?_;refine W.rt ?_;exact .of (by simp[q])
theorem Y2 (l:List Int) (υ:l.length<2 ^ 30) :
  ao Tryz.prog 85 [.ms 0 l.length 0 l.length] [.cells 3 1 (l.map J)] (λr s=>(∃e k,r=.sl e k (l.map J)/\(l≠[]->k=1))/\s=[.cells 3 1 (l.map J)]) (λ_ _=>False):=by
 refine ao.body Φ Tryz.func85 rfl rfl Tryz.ntmps85 rfl rfl θ ?_;have kp:l.length<=4294967295:=R;by_cases Θ:l=[]
 ·subst Θ;refine Ζ ?_;refine bN λΕ ζ=>?_;intro j δ;apply ζ;by_cases x3:j=1
  ·refine al (by simp[x3]) ?_;refine Ζ ?_;exact W.ret ⟨_,rfl,⟨true,0,rfl,λh=>absurd rfl h⟩,rfl⟩
  ·refine aj (by simp[x3]) ?_
   repeat apply ar
   refine dG (A:=[5,7]) Φ λΕ ζ=>bT ?_;apply ζ;refine W.cut 1 (Nat.le_refl _) [(2,.sl false 1 [])] θ (λid r b0 κ=>?_) (λp ψ=>?_) ?_
   ·obtain rfl:id=0:=by omega
    simp at κ;subst κ;simp[eW]
   ·obtain rfl:p=(2,.sl false 1 []):=by simpa using ψ
    exact eD.own (id:=1) (t:=3) (Nat.le_refl _) rfl θ θ
   ·exact W.ret ⟨_,rfl,⟨false,1,rfl,λ_=>rfl⟩,rfl⟩
 ·refine Ζ ?_;refine h5 Θ λΕ ζ=>?_;apply ζ;refine aj rfl ?_
  repeat apply ar
  have k':List.take l.length (l.map J)=l.map J:=List.take_of_length_le θ
  have Y3:l.length<=4294967296:=R;refine dG (A:=[5,7]) Φ λΕ ζ=>gQ (Μ kp (Μ Θ (Μ k' Y3))) ?_;apply ζ;have hb:∀e∈l.map J,∀a∈e.cells,ay 1 a:=λe he a μ=>by
   obtain⟨x,_,rfl⟩:=List.mem_map.1 he;simp[η.cells] at μ;subst μ;simp
  refine W.cut 1 (Nat.le_refl _) [(2,.sl false 1 (l.map J))] θ (λid r b0 κ=>?_) (λp ψ=>?_) ?_
  ·obtain rfl:id=0:=by omega
   simp at κ;subst κ;exact hb
  ·obtain rfl:p=(2,.sl false 1 (l.map J)):=by simpa using ψ
   exact eD.own (id:=1) (t:=3) (Nat.le_refl _) rfl θ hb
  ·exact W.ret ⟨_,rfl,⟨false,1,rfl,λ_=>rfl⟩,rfl⟩
abbrev uI (k:List Int):η:=.aV (k.map J)
abbrev pz (e:List Int×Int):η×η:=(uI e.1,J e.2)
def AN (m:List (List Int×Int)):Prop:=∀e∈m,e.1.length=4
theorem Y4 (x y:List Int) (γ:x.length=4) (Ο:y.length=4):aeqv a7 157 (uI x) (uI y)=some (decide (x=y)):=by
 match x,γ,y,Ο with
 | [a,b,c,d],_,[cn,Ω,c',dP],_=>
  simp[aeqv,jQ,mM,Bool.eq_iff_iff]
def ku:List (List Int×Int)->List Int->Int->List (List Int×Int)
 | [],k,v=>[(k,v)]
 | e::r,k,v=>if k=e.1 then(k,v)::r else e::ku r k v
def wF:List (List Int×Int)->List Int->Option Int
 | [],_=>none
 | e::r,k=>if k=e.1 then some e.2 else wF r k
theorem Y5 (k:List Int) (ς:k.length=4):∀(m:List (List Int×Int)) (d:Nat),AN m->(hR a7 157 (uI k) (m.map pz) d=some none/\wF m k=none/\∀v,ku m k v=m++[(k,v)])\/
  ∃i x,i<m.length/\hR a7 157 (uI k) (m.map pz) d=some (some (d+i,J x))/\wF m k=some x/\∀v,ku m k v=m.set i (k,v):=by
 intro m
 induction m with
 | nil=>intro d _;exact .inl ⟨rfl,rfl,λ_=>rfl⟩
 | cons e r Β=>
  intro d Κ;have Ψ:=Y4 k e.1 ς (Κ e θ);by_cases h:k=e.1
  ·refine .inr ⟨0,e.2,θ,?_,by simp[wF,h],λv=>by simp[ku,h]⟩;simp only[List.map_cons,hR,Ψ];simp[h]
  ·have hb:decide (k=e.1)=false:=by simpa using h
   rcases Β (d+1) (λx γ=>Κ x (by simp[γ])) with⟨I,U,ξ⟩|⟨i,x,I,U,ξ,aE⟩
   ·refine .inl ⟨?_,by simp[wF,h,U],λv=>by simp[ku,h,ξ]⟩;simp only[List.map_cons,hR,Ψ,hb,cond_false];exact I
   ·refine .inr ⟨i+1,x,by simp;omega,?_,by simp[wF,h,ξ],λv=>by simp[ku,h,aE]⟩;simp only[List.map_cons,hR,Ψ,hb,cond_false];rw[U];have:d+1+i=d+(i+1):=R;rw[this]
theorem O9 {m:List (List Int×Int)} (h:AN m) {k:List Int} (ς:k.length=4) (v:Int):AN (ku m k v):=by
 induction m with
 | nil=>intro e he;simp[ku] at he;subst he;exact ς
 | cons a r Β=>
  intro e he;unfold ku at he;split at he
  ·rcases List.mem_cons.1 he with rfl|he
   ·exact ς
   ·exact h e (by simp[he])
  ·rcases List.mem_cons.1 he with rfl|he
   ·exact h _ θ
   ·exact Β (λx γ=>h x (by simp[γ])) e he
def pA (s:aI) (p r:Int×Int) (L:List Nat) (k:Nat):List Int:=((L.take k).map λx=>s.dU p r x)++List.replicate (4-k) 0
theorem Pa {s:aI} {p r:Int×Int} {L:List Nat} {k:Nat} (ς:k<=L.length) (Κ:L.length<=4):(pA s p r L k).length=4:=by simp[pA];omega
theorem Y6 {s:aI} {p r:Int×Int} {L:List Nat} {k:Nat} (ς:k<L.length) (Κ:L.length<=4):(pA s p r L k).take k++s.dU p r L[k]::(pA s p r L k).drop (k+1)=pA s p r L (k+1):=by
 have Δ:((L.take k).map λx=>s.dU p r x).length=k:=by simp;omega
 have Γ:4-k=(4-(k+1))+1:=R;unfold pA;rw[List.take_left' Δ,List.drop_append,List.drop_eq_nil_of_le R,Δ,List.take_succ_eq_append_getElem ς,List.map_append,Γ,List.replicate_succ];have a0:k+1-k=1:=R;rw[a0];simp
abbrev yf:=Option (List (List Int×Int))
def yg (m:yf) (k:List Int) (v:Int):yf:=m.bind λm=>match wF m k with|some x=>if x=v then some (ku m k v) else none|none=>some (ku m k v)
def mX (s:aI) (f:Found) (cell:Nat) (lower:Bool) (L:List Nat) (m:yf) (j:Nat):yf:=(((f.cells[cell]?).getD []).take j).foldl (λm r=>yg m (pA s (f.u,f.v) r L L.length) (mV lower r)) m
def uJ (s:aI) (F:List Found) (cell:Nat) (lower:Bool) (L:List Nat) (i:Nat):yf:=(F.take i).foldl (λm f=>mX s f cell lower L m ((f.cells[cell]?).getD []).length) (some [])
def rO (s:aI) (F:List Found) (cell:Nat) (lower:Bool) (L:List Nat):Bool:=(uJ s F cell lower L F.length).isSome
theorem Y7 (s:aI) (f:Found) (cell:Nat) (lower:Bool) (L:List Nat) (m:yf) (j:Nat) (h:j<((f.cells[cell]?).getD []).length):mX s f cell lower L m (j+1)=yg (mX s f cell lower L m j) (pA s (f.u,f.v) ((f.cells[cell]?).getD [])[j] L L.length) (mV lower ((f.cells[cell]?).getD [])[j]):=by
 unfold mX;rw[List.take_succ_eq_append_getElem h,List.foldl_append];rfl
theorem Pb (s:aI) (F:List Found) (cell:Nat) (lower:Bool) (L:List Nat) (i:Nat) (h:i<F.length):uJ s F cell lower L (i+1)=mX s F[i] cell lower L (uJ s F cell lower L i) ((F[i].cells[cell]?).getD []).length:=by
 unfold uJ;rw[List.take_succ_eq_append_getElem h,List.foldl_append];rfl
theorem Pd (l:List (Int×Int)) (k:(Int×Int)->List Int) (v:Int×Int->Int):l.foldl (λm r=>yg m (k r) (v r)) none=none:=by
 induction l with
 | nil=>rfl
 | cons a l Β=>exact Β
theorem Y8 (s:aI) (F:List Found) (cell:Nat) (lower:Bool) (L:List Nat) {i j:Nat} (hi:i<F.length) (δ:j<=((F[i].cells[cell]?).getD []).length) (h:mX s F[i] cell lower L (uJ s F cell lower L i) j=none):rO s F cell lower L=false:=by
 have I:mX s F[i] cell lower L (uJ s F cell lower L i) ((F[i].cells[cell]?).getD []).length=none:=by
  unfold mX at h ⊢;rw[List.take_length]
  conv=>lhs;rw[<-List.take_append_drop j ((F[i].cells[cell]?).getD [])]
  rw[List.foldl_append,h];exact Pd _ _ _
 rw[<-Pb s F cell lower L i hi] at I;unfold rO;unfold uJ at I ⊢;rw[List.take_length]
 conv=>lhs;rw[<-List.take_append_drop (i+1) F]
 rw[List.foldl_append,I];have:∀l:List Found,(l.foldl (λm f=>mX s f cell lower L m ((f.cells[cell]?).getD []).length) none)=none:=λl=>by
  induction l with
  | nil=>rfl
  | cons a l Β=>
   rw[List.foldl_cons];have:mX s a cell lower L none ((a.cells[cell]?).getD []).length=none:=by unfold mX;exact Pd _ _ _
   rw[this];exact Β
 rw[this];rfl
abbrev fB (L:List Nat):Row:=.cells 3 1 (L.map λn:Nat=>J n)
theorem I3 {h:Nat} {L:List Nat}:eW h (fB L):=λe he a μ=>by
 obtain⟨x,_,rfl⟩:=List.mem_map.1 he;simp[η.cells] at μ;subst μ;simp
theorem Y9 (s:aI) (ν:s.small) (F:List Found) (cl:AI s F) (cell:Nat) (yh:cell<s.cells.length) (lower:Bool) (L:List Nat) (aG:L.length<=4) (mW:∀x∈L,x<s.ak.length) :
  ao Tryz.prog 84 [fs s,cX F,J cell,bm lower,.ms 0 L.length 0 L.length] [fB L] (λr σ=>r=bm (rO s F cell lower L)/\σ=[fB L]) (λ_ _=>False):=by
 refine ao.body Φ Tryz.func84 rfl rfl Tryz.ntmps84 rfl rfl θ ?_;refine Ζ ?_;have rN:∀M:List (List Int×Int),∀r∈[fB L,.map (M.map pz)],eW [fB L,.map (M.map pz)].length r:=λM r κ=>by
  simp only[List.mem_cons,List.not_mem_nil,or_false] at κ;rcases κ with rfl|rfl
  ·exact I3
  ·intro e he;obtain⟨x,_,rfl⟩:=List.mem_map.1 he;simp
 refine W.iter (λx:Nat×List (List Int×Int)=>x.1<=F.length/\uJ s F cell lower L x.1=some x.2/\AN x.2) (λ(i,_)=>[(2,J cell),(3,bm lower),(4,.ms 0 L.length 0 L.length),(5,.ab [aS s.ag,aQ s.ak,bl s.cells]),(11,.mp 1),(23,cX F),(24,J F.length),(25,J i)])
  (λ(_,M)=>[fB L,.map (M.map pz)]) (λx=>F.length-x.1) (0,[]) ⟨Nat.zero_le _,rfl,λe he=>by cases he⟩ rfl θ (λx γ Β=>?_)
 obtain⟨i,M⟩:=x;obtain⟨hi,dm,Κ⟩:=γ;simp only at hi dm Κ ⊢;refine Ζ ?_;by_cases ln:i<F.length
 ·refine al (by simp[ln]) ?_;have ox:=Pb s F cell lower L i ln;have si:=λj=>Y8 s F cell lower L (i:=i) (j:=j) ln;rw[dm] at ox si;obtain⟨nI,hq⟩:=cl.cells _ (List.getElem_mem ln);generalize Χ:F[i]=f at ox si nI hq;have bX:cell<f.cells.length:=by rw[nI];exact yh
  repeat apply ar
  refine dG (A:=[13]) Φ λΕ ζ=>gQ (Μ ln Χ) ?_;apply ζ;refine W.pt (σ0:=[fB L,.map (M.map pz)]) θ (rN _) θ [(13,.ab [J f.u,J f.v,mR f.cells]),(2,J cell),(3,bm lower),(4,.ms 0 L.length 0 L.length),(5,.ab [aS s.ag,aQ s.ak,bl s.cells]),(11,.mp 1),(23,cX F),(24,J F.length),(25,J i)] (by simp[lb,sS,oc]) ?_;refine aR bX ?_;have AJ:(f.cells[cell]?).getD []=f.cells[cell]:=by simp[bX]
  rw[AJ] at ox si;have AK:=hq _ (List.getElem_mem bX);have qy:=Y7 s f cell lower L (some M);rw[AJ] at qy;generalize f.cells[cell]=C at ox AK qy si;obtain⟨Y0,I1⟩:=AK;refine W.iter (λx:Nat×List (List Int×Int)=>x.1<=C.length/\mX s f cell lower L (some M) x.1=some x.2/\AN x.2) (λ(j,_)=>[(2,J cell),(3,bm lower),(4,.ms 0 L.length 0 L.length),(5,.ab [aS s.ag,aQ s.ak,bl s.cells]),(11,.mp 1),(23,cX F),(24,J F.length),(25,J i),(13,.ab [J f.u,J f.v,mR f.cells]),(33,mQ C),(34,J C.length),(35,J j)])
   (λ(_,M)=>[fB L,.map (M.map pz)]) (λx=>C.length-x.1) (0,M) ⟨Nat.zero_le _,rfl,Κ⟩ rfl θ (λx γ gk=>?_)
  obtain⟨j,M2⟩:=x;obtain⟨δ,tc,AO⟩:=γ;simp only at δ tc AO ⊢;refine Ζ ?_;by_cases mb:j<C.length
  ·refine al (by simp[mb]) ?_;have qz:=qy j mb;rw[tc] at qz;obtain⟨k3,mU⟩:=I1 _ (List.getElem_mem mb);generalize κ:C[j]=r at qz k3 mU
   repeat apply ar
   refine dG (A:=[15]) Φ λΕ ζ=>gQ (Μ mb κ) ?_;apply ζ;refine W.pt (σ0:=[fB L,.map (M2.map pz)]) θ (rN _) θ [(15,.ab [J r.1,J r.2]),(2,J cell),(3,bm lower),(4,.ms 0 L.length 0 L.length),(5,.ab [aS s.ag,aQ s.ak,bl s.cells]),(11,.mp 1),(23,cX F),(24,J F.length),(25,J i),(13,.ab [J f.u,J f.v,mR f.cells]),(33,mQ C),(34,J C.length),(35,J j)] (by simp[lb,sS,oc]) ?_
   repeat apply ar
   refine dG (A:=[16]) Φ λΕ ζ=>bT ?_;apply ζ;refine Ζ ?_;refine W.iter (λk:Nat=>k<=L.length) (λk=>[(2,J cell),(3,bm lower),(4,.ms 0 L.length 0 L.length),(5,.ab [aS s.ag,aQ s.ak,bl s.cells]),(11,.mp 1),(23,cX F),(24,J F.length),(25,J i),(13,.ab [J f.u,J f.v,mR f.cells]),(33,mQ C),(34,J C.length),(35,J j),(15,.ab [J r.1,J r.2]),(16,.an 2 1 0 0),(39,.ms 0 L.length 0 L.length),(40,J L.length),(41,J k)])
    (λk=>[fB L,.map (M2.map pz),.cells 157 4 [uI (pA s (f.u,f.v) r L k)]]) (λk=>L.length-k) 0 (Nat.zero_le _) (by simp[pA]) θ (λk ς kr=>?_)
   refine Ζ ?_;by_cases jd:k<L.length
   ·refine al (by simp[jd]) ?_;have wG:(k:Int)<4:=R;have jH:k<=3:=R;have rr:=Y6 (s:=s) (p:=(f.u,f.v)) (r:=r) jd aG;have hlen:=Pa (s:=s) (p:=(f.u,f.v)) (r:=r) (Nat.le_of_lt jd) aG;have Y':=mW _ (List.getElem_mem jd);obtain⟨K,ζ⟩:=aF (pA s (f.u,f.v) r L k);rw[<-ζ] at rr hlen ⊢;refine aR (Μ jd (Μ wG hlen)) ?_;refine h5 (Μ wG hlen) λΕ ζ=>?_;refine aD.c (As s ν (f.u,f.v) r L[k] Y' k3 mU) (bS.refl _) θ θ ?_;simp[wG,jH,hlen];(repeat (rw[Υ];simp[wG,jH,hlen]));apply ζ;have tf:=fz jd (show L.length<2 ^ 62 by omega);refine aR tf ?_;refine W.to (kr (k+1) jd R) ?_ ?_
    ·rw[<-rr];simp
    ·simp[tf]
   ·have Za:k=L.length:=by omega
    subst Za;refine aj θ ?_;refine W.exit rfl ?_;have hlen:=Pa (s:=s) (p:=(f.u,f.v)) (r:=r) (Nat.le_refl _) aG;obtain⟨K,ζ⟩:=aF (pA s (f.u,f.v) r L L.length);obtain⟨v,hv⟩:=aF (mV lower r);rw[<-ζ,<-hv] at qz;rw[<-ζ] at hlen ⊢
    repeat apply ar
    refine W.sQ (A:=[]) Φ [(2,J cell),(3,bm lower),(4,.ms 0 L.length 0 L.length),(5,.ab [aS s.ag,aQ s.ak,bl s.cells]),(11,.mp 1),(23,cX F),(24,J F.length),(25,J i),(13,.ab [J f.u,J f.v,mR f.cells]),(33,mQ C),(34,J C.length),(35,J j),(15,.ab [J r.1,J r.2]),(16,.an 2 1 0 0),(19,J v)] ?_ (by
     rw[hv];cases lower
     all_goals
      (try simp);(repeat (rw[Υ];simp[]));(try simp[]);refine aD.d (IB _) (bT ?_);simp[mV])
    clear kr hv;have ll:=fz mb (show C.length<2 ^ 62 by omega);have kZ:oa [fB L,.map (M2.map pz),.cells 157 4 [uI K]] 1=true:=by simp[oa]
    have pZ:n9 a7 157 (uI K)=true:=by
     match K,hlen with
     | [a,b,c,d],_=>simp[n9,jQ,mM]
    have k':List.take 4 (K.map J)=K.map J:=List.take_of_length_le (by simp[hlen]);rcases Y5 K hlen M2 0 AO with⟨Τ,af,aZ⟩|⟨b6,x,cV,Τ,af,aZ⟩
    ·have aZ:=aZ v
     have hm:mX s f cell lower L (some M) (j+1)=some (ku M2 K v):=by rw[qz];simp[yg,af]
     (repeat (first|apply ar|(refine bC λΕ ζ=>?_;simp;(repeat (rw[Υ];simp[Τ,pZ,k',hlen,-n9]));apply ζ)));refine aj rfl ?_;(repeat (first|apply ar|(refine bC λΕ ζ=>?_;simp;(repeat (rw[Υ];simp[Τ,pZ,k',hlen,-n9]));apply ζ)));refine W.drop (h:=2) (σ':=[fB L,.map ((ku M2 K v).map pz)]) θ θ (λid w b0 hw=>eW.mono (rN (ku M2 K v) w (by
      match id,b0,hw with
      | 0,_,hw=>simp at hw;subst hw;simp
      | 1,_,hw=>simp[aZ] at hw;subst hw;simp[aZ])) θ) (by simp[aZ]) [(2,J cell),(3,bm lower),(4,.ms 0 L.length 0 L.length),(5,.ab [aS s.ag,aQ s.ak,bl s.cells]),(11,.mp 1),(23,cX F),(24,J F.length),(25,J i),(13,.ab [J f.u,J f.v,mR f.cells]),(33,mQ C),(34,J C.length),(35,J ((j:Int)+1))] (by simp[lb,sS,oc,ll]) ?_
     refine W.to (gk (j+1,ku M2 K v) ⟨mb,hm,O9 AO hlen v⟩ (by simp only;omega)) rfl ?_;simp
    ·have aZ:=aZ v;(repeat (first|apply ar|(refine bC λΕ ζ=>?_;simp;(repeat (rw[Υ];simp[Τ,pZ,k',hlen,-n9]));apply ζ)));by_cases EK:x=v
     ·have hm:mX s f cell lower L (some M) (j+1)=some (ku M2 K v):=by rw[qz];simp[yg,af,EK]
      refine aj (by simp[EK]) ?_;(repeat (first|apply ar|(refine bC λΕ ζ=>?_;simp;(repeat (rw[Υ];simp[Τ,pZ,k',hlen,-n9]));apply ζ)));refine W.drop (h:=2) (σ':=[fB L,.map ((ku M2 K v).map pz)]) θ θ (λid w b0 hw=>eW.mono (rN (ku M2 K v) w (by
       match id,b0,hw with
       | 0,_,hw=>simp at hw;subst hw;simp
       | 1,_,hw=>simp[aZ] at hw;subst hw;simp[aZ])) θ) (by simp[aZ]) [(2,J cell),(3,bm lower),(4,.ms 0 L.length 0 L.length),(5,.ab [aS s.ag,aQ s.ak,bl s.cells]),(11,.mp 1),(23,cX F),(24,J F.length),(25,J i),(13,.ab [J f.u,J f.v,mR f.cells]),(33,mQ C),(34,J C.length),(35,J ((j:Int)+1))] (by simp[lb,sS,oc,ll]) ?_
      refine W.to (gk (j+1,ku M2 K v) ⟨mb,hm,O9 AO hlen v⟩ (by simp only;omega)) rfl ?_;simp
     ·have hm:mX s f cell lower L (some M) (j+1)=none:=by rw[qz];simp[yg,af,EK]
      have o0:=si (j+1) mb hm;rw[o0];refine al (by simp[EK]) ?_;refine Ζ ?_;refine W.drop (h:=1) (σ':=[fB L]) θ θ (λid w b0 hw=>by
       obtain rfl:id=0:=R;simp at hw;subst hw;exact I3) rfl [(10,bm false)] θ ?_
      exact W.ret ⟨_,rfl,rfl,rfl⟩
  ·have rL:j=C.length:=by omega
   subst rL;have ki:=fz ln (show F.length<2 ^ 62 by have:=cl.qx;omega);refine aj θ ?_;refine W.exit rfl ?_;refine aR ki ?_;refine W.to (Β (i+1,M2) ⟨ln,by rw[ox];exact tc,AO⟩ (by simp only;omega)) rfl ?_;simp[ki]
 ·have dT:i=F.length:=by omega
  subst dT;have o0:rO s F cell lower L=true:=by unfold rO;rw[dm];rfl
  rw[o0];refine aj θ ?_;refine W.exit rfl ?_;refine Ζ ?_;refine W.drop (h:=1) (σ':=[fB L]) θ θ (λid w b0 hw=>by
   obtain rfl:id=0:=R;simp at hw;subst hw;exact I3) rfl [(10,bm true)] θ ?_
  exact W.ret ⟨_,rfl,rfl,rfl⟩
end Go.TL
namespace Go.TL
open Go.Conc Go.Proofs
variable [bt]
section
variable {P:Program} {Q:Value->Prop} {mn:Bool} {x:gV} {cs rest:List Frame} {H:χ} {b f c:Frame} {t:Array Value} {k:List Item} {fn:Func}
theorem π.getLoop {L:Nat} {r:Loop} (h:H.obj L=some (.loop r)) {K:Loop->χ->Prop} {E:Value->χ->Prop} (ς:K r H):π P (Instr.getLoop L) H K E:=by
 unfold Instr.getLoop;refine π.bind' ?_;exact⟨_,h,rfl,π.pure' ς⟩
theorem π.I4 {L:Nat} {r r':Loop} (h:H.obj L=some (.loop r)) {K:Unit->χ->Prop} {E:Value->χ->Prop} (ς:K () (H.bL L (.loop r'))):π P (setObj L (.loop r')) H K E:=
 ⟨⟨_,h⟩,rfl,rfl,π.pure' ς⟩
abbrev Pe (st:LoopState) (Zb:Option Code) (f:FuncId) (t:Array Value) (cT:Array Tmp) (a sz:Code) (d:Nat):Loop:={state:=st,pending:=Zb,fn:=f,tmps:=t,params:=cT,assign:=a,body:=sz,defers:=d}
theorem aO.rangeFunc (γ:Seq x) (hb:b.mode=.run) (cm:b.roundOf=none) {fo:Operand} {cT:Array Tmp} {assign body:Code} {g:FuncId} {mY:Array Value} (Zc:br t fo=.func (.func g) #[] mY) (Ρ:Plain P g)
  (h:∀r1 r2,H.fresh r1->(H.bL r1 (.deferred (some []))).fresh r2->aO P Q mn x (Frame.enter P g (#[.func (.yield r2) #[] #[]]++mY) .normal) ({ax b t (.inRangeFunc r2::k) with defers:=⟨.collected r1,#[]⟩::b.defers}::cs)
   ((H.bL r1 (.deferred (some []))).bL r2 (.loop (Pe .ready none b.fn t cT assign body r1)))) :
  aO P Q mn x (ax b t (.code (.rangeFunc fo cT assign body)::k)) cs H:=by
 refine .own γ λw Χ=>?_;have eT:π P (Instr.enterLoop b.fn t cT assign body none) H (λv H'=>∃r1 r2,H.fresh r1/\(H.bL r1 (.deferred (some []))).fresh r2/\v=(r2,[⟨.collected r1,#[]⟩])/\H'=(H.bL r1 (.deferred (some []))).bL r2 (.loop (Pe .ready none b.fn t cT assign body r1))) (λ_ _=>False):=by
  unfold Instr.enterLoop;refine π.bind' (λr1 I=>π.pure' (π.bind' (π.pure' ?_)));refine π.bind' (λr2 U=>π.pure' (π.pure' ?_));exact⟨r1,r2,I,U,rfl,rfl⟩
 obtain⟨H',w',es',hu,h1⟩:=π.sound (P:=P) (G0:=H) (w0:=w) _ eT (dJ.start Χ);rcases h1 with⟨v,dR,r1,r2,I,U,rfl,rfl⟩|⟨v,dR,dn⟩
 ·refine⟨_,_,w',seen P b.fn es',_,?_,hu.sub λe he=>mem_seen he,h r1 r2 I U⟩;have dy:∀F:Frame,F.tmps=t->resolve F.eval {callee:=.value fo,args:=#[.const (.func (.yield r2) #[] #[])],argTypes:=#[]} 0=Deferred.ofValue (.func (.func g) #[] mY) #[.func (.yield r2) #[] #[]]:=λF gB=>by
   have:F.eval fo=.func (.func g) #[] mY:=by rw[<-Zc,<-gB];cases fo<;>rfl
   unfold resolve;simp only;rw[this];simp[Frame.eval]
  have hinv:((do let d <-Deferred.ofValue (.func (.func g) #[] mY) #[.func (.yield r2) #[] #[]];invoke d.target d.args:Sem Next)).runT P w' #[]=(.ok (.enter g (#[.func (.yield r2) #[] #[]]++mY)) w',#[]):=by
   have:=Ρ.enter (#[.func (.yield r2) #[] #[]]++mY) w';simpa[Deferred.ofValue,invoke] using this
  rw[jf hb];unfold stepG.exec;simp only[ax,cm,dR];rw[dy _ rfl];unfold stepG.apply;simp only[if_true,hinv];simp[GStep.after,Go.Conc.G,ax,seen_none]
 ·exact dn.elim
theorem aO.Pf (γ:Seq x) (hb:b.mode=.run) {L:Nat} {r:Loop} (aG:H.obj L=some (.loop r)) (ν:r.state≠.busy)
  (h:aO P Q mn x (ax b t ((r.pending.map Item.code).toList++k)) cs (H.bL L (.loop {r with state:=.exhausted}))):aO P Q mn x (ax b t (.endRangeFunc L::k)) cs H:=by
 refine .own γ λw Χ=>?_;have eT:π P (Instr.endLoop L) H (λv H'=>v=r.pending/\H'=H.bL L (.loop {r with state:=.exhausted})) (λ_ _=>False):=by
  unfold Instr.endLoop;refine π.bind' (π.getLoop aG ?_);have e:(r.state==.busy)=false:=by cases Ψ:r.state<;>first|rfl|exact absurd Ψ ν
  simp only[e,Bool.false_eq_true,if_false];exact π.bind' (π.I4 aG (π.pure' ⟨rfl,rfl⟩))
 obtain⟨H',w',es',hu,h1⟩:=π.sound (P:=P) (G0:=H) (w0:=w) _ eT (dJ.start Χ);rcases h1 with⟨v,dR,rfl,rfl⟩|⟨v,dR,dn⟩
 ·refine⟨_,_,w',seen P b.fn es',_,?_,hu.sub λe he=>mem_seen he,h⟩;rw[jf hb];unfold stepG.exec;simp only[ax,dR];simp[GStep.after,Go.Conc.G]
 ·exact dn.elim
theorem aO.beginRound (γ:Seq x) (hb:b.mode=.run) {L:Nat} (cm:b.roundOf=some L) {r:Loop} (aG:H.obj L=some (.loop r)) (ν:r.state=.ready)
  (h:aO P Q mn x (ax b t k) cs (H.bL L (.loop {r with state:=.busy}))):aO P Q mn x (ax b t (.beginRound::k)) cs H:=by
 refine .own γ λw Χ=>?_;have eT:π P (Instr.beginRound L) H (λ_ H'=>H'=H.bL L (.loop {r with state:=.busy})) (λ_ _=>False):=by
  unfold Instr.beginRound;refine π.bind' (π.getLoop aG (π.bind' (π.I4 aG ?_)));rw[ν];exact π.pure' rfl
 have Zd:π P (do Instr.beginRound L;pure Next.skip:Sem Next) H (λv H'=>v=.skip/\H'=H.bL L (.loop {r with state:=.busy})) (λ_ _=>False):=
  π.bind' (π.mono (λ_ _ e=>π.pure' ⟨rfl,e⟩) (λ_ _ h=>h) _ eT)
 obtain⟨H',w',es',hu,h1⟩:=π.sound (P:=P) (G0:=H) (w0:=w) _ Zd (dJ.start Χ);rcases h1 with⟨v,dR,rfl,rfl⟩|⟨v,dR,dn⟩
 ·generalize ga:(if b.kind==.early then #[] else es')=n5;have j7:∀e∈seen P b.fn n5,e∈es':=λe he=>by
   have:=mem_seen he;rw[<-ga] at this;split at this
   ·simp at this
   ·exact this
  refine⟨_,_,w',seen P b.fn n5,_,?_,hu.sub j7,h⟩;rw[jf hb];unfold stepG.exec;simp only[ax,cm,Option.elim];unfold stepG.apply;simp only[if_true,dR];rw[ga];simp[GStep.after,Go.Conc.G,Frame.finish]
 ·exact dn.elim
theorem aO.endRound (γ:Seq x) (hb:b.mode=.run) {L:Nat} (cm:b.roundOf=some L) (ς:b.kind=.normal) {r:Loop} (aG:H.obj L=some (.loop r)) {jump:Option Code} (δ:(jump=none/\k=[])\/(jump=some .ret/\∃ae,k=.code .ret::ae)\/∃id ae,jump=some (.exit id)/\k=.code (.exit id)::ae/\exitTo id ae=none)
  (h:aO P Q mn x (c.finish (.bool jump.isNone)) rest (H.bL L (.loop {r with state:=if jump.isNone then .ready else .done,pending:=jump}))):aO P Q mn x (ax b t k) (c::rest) H:=by
 refine .own γ λw Χ=>?_;have eT:π P (Instr.endRound L jump) H (λv H'=>v=.bool jump.isNone/\H'=H.bL L (.loop {r with state:=if jump.isNone then .ready else .done,pending:=jump})) (λ_ _=>False):=by
  unfold Instr.endRound;exact π.bind' (π.getLoop aG (π.bind' (π.I4 aG (π.pure' ⟨rfl,rfl⟩))))
 obtain⟨H',w',es',hu,h1⟩:=π.sound (P:=P) (G0:=H) (w0:=w) _ eT (dJ.start Χ);rcases h1 with⟨v,dR,rfl,rfl⟩|⟨v,dR,dn⟩
 ·refine⟨_,_,w',seen P b.fn es',_,?_,hu.sub λe he=>mem_seen he,h⟩;rw[jf hb];unfold stepG.exec;rcases δ with⟨rfl,rfl⟩|⟨rfl,ae,rfl⟩|⟨id,ae,rfl,rfl,he⟩
  ·simp only[ax,cm,dR];simp[GStep.after,Go.Conc.G,doReturn,ς]
  ·simp only[ax,cm,dR];simp[GStep.after,Go.Conc.G,doReturn,ς]
  ·simp only[ax,cm,he,Option.elim,dR];simp[GStep.after,Go.Conc.G,doReturn,ς]
 ·exact dn.elim
theorem aO.collected (γ:Seq x) (hm:f.mode=.returning) {r:Nat} {ds:List Deferred} (hd:f.defers=⟨.collected r,#[]⟩::ds) (κ:H.obj r=some (.deferred (some [])))
  (h:aO P Q mn x {f with defers:=ds} cs (H.bL r (.deferred none))):aO P Q mn x f cs H:=by
 refine .own γ λw Χ=>?_;have eT:π P (Instr.takeDeferred r) H (λv H'=>v=[]/\H'=H.bL r (.deferred none)) (λ_ _=>False):=by
  unfold Instr.takeDeferred;refine π.bind' ?_;exact⟨_,κ,rfl,π.pure' (π.bind' ⟨⟨_,κ⟩,rfl,rfl,π.pure' (π.pure' ⟨rfl,rfl⟩)⟩)⟩
 obtain⟨H',w',es',hu,h1⟩:=π.sound (P:=P) (G0:=H) (w0:=w) _ eT (dJ.start Χ);rcases h1 with⟨v,dR,rfl,rfl⟩|⟨v,dR,dn⟩
 ·refine⟨_,_,w',seen P f.fn es',_,?_,hu.sub λe he=>mem_seen he,h⟩;rw[xD (by rw[hm];simp)];unfold unwind;simp only[hd,dR];simp[GStep.after,Go.Conc.G]
 ·exact dn.elim
end
end Go.TL
