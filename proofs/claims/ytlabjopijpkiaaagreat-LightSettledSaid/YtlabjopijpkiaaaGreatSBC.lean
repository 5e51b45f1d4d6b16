import Derived.Test.YtlabjopijpkiaaaGreatSAP
import Derived.Test.YtlabjopijpkiaaaGreatSBB
set_option maxHeartbeats 16000000
set_option maxRecDepth 20000
set_option linter.unusedSectionVars false
set_option linter.unusedSimpArgs false
set_option linter.unusedVariables false
namespace Go.TL
open Go.Proofs
variable [bm]
theorem fς (l:List Int) (ω:l.length<2 ^ 44):ak Tryz.prog 44 [aP R 1 l] [] (λa s=>a=.ms 0 l.length 0 l.length/\s=[.cells 3 1 (l.map R)]) (λ_ _=>False):=by
 refine ak.body Ι Tryz.func44 rfl rfl Tryz.ntmps44 rfl rfl (by simp) ?_
 repeat apply κ
 refine ν λη I=>?_;simp;(repeat (rw[δ];simp));apply I
 repeat apply κ
 refine dw (A:=[7]) Ι λη I=>?_;simp;(repeat (rw[δ];simp));refine⟨by omega,?_⟩;apply I;(repeat (first|apply κ|(refine ν λη I=>?_;simp;(repeat (rw[δ];simp));apply I)));refine W.iter (λi:Nat=>i<=l.length) (λi=>[(0,aP R 1 l),(3,.ms 0 l.length 0 l.length),(4,R i)]) (λi=>[.cells 3 1 (fill R (R 0) l i)]) (λi=>l.length-i) 0 (Nat.zero_le _) (by simp[Xw]) (by simp) (λi hi Δ=>?_);(repeat (first|apply κ|(refine ν λη I=>?_;simp;(repeat (rw[δ];simp));apply I)));refine W.en rfl (λζ=>?_) (λζ=>?_)
 ·have ζ:i<l.length:=by simpa using ζ
  (repeat (first|apply κ|(refine ν λη I=>?_;simp;(repeat (rw[δ];simp[ζ,Xy R (R 0) l hi,XG R (R 0) l ζ,XA R (R 0) l ζ]));apply I)));refine W.forget _ ?_ (Δ (i+1) ζ (by omega));simp[fe ζ (show l.length<2 ^ 62 by omega)]
 ·have ζ:l.length<=i:=by simpa using ζ
  refine W.exit rfl ?_;(repeat (first|apply κ|(refine ν λη I=>?_;simp;(repeat (rw[δ];simp));apply I)));refine W.ret ⟨_,rfl,rfl,?_⟩;rw[Xx _ _ _ ζ]
theorem Rw (l:List Int) (ω:l.length<2 ^ 44) {σ:List Row} {K E:θ->List Row->Prop} {qF:θ} (he:cG qF (aP R 1 l)) (hb:au 0 qF) (I:K (.ms σ.length l.length 0 l.length) (σ++[.cells 3 1 (l.map R)])) :
  hG Tryz.prog (.fn (.func 44) [] []) [qF] σ K E:=by
 have ag:=ak.kX (fς l ω) (aK.cons he .nil) (K':=λa s=>a=.ms 0 l.length 0 l.length/\s=[.cells 3 1 (l.map R)]) (λa s h=>⟨_,.refl _,h⟩)
 have aU:=ak.H8 (σ:=σ) ag [] (by simp) rfl (λj i ε=>by simp at ε) (λr μ=>by cases μ) (by
   intro a ξ;simp at ξ;subst ξ;exact hb.ih 0) (K':=K) (E':=E) (λa s=>by
   rintro⟨rfl,rfl⟩;refine⟨λr μ=>?_,?_,?_⟩
   ·simp only[List.mem_cons,List.not_mem_nil,or_false] at μ;subst μ;exact .inl (uf (f:=R) λx=>by simp[θ.cells])
   ·exact nC.2 (by simp)
   ·have Ζ:qd σ [] [Row.cells 3 1 (l.map R)]=σ++[.cells 3 1 (l.map R)]:=by simp[qd,ie]
    have Ε:dM (names [] σ.length [Row.cells 3 1 (l.map R)]) (.ms 0 l.length 0 l.length)=.ms σ.length l.length 0 l.length:=by
     rw[nD];simp[hH,names]
    rw[Ζ,Ε];exact I) (λa s h=>h.elim)
 exact ak.call (first:=[]) (captured:=[]) (by simpa[hb.dM []] using aU)
theorem oB.last {id k kk:Nat} {t:TypeId} {M l:List θ} {n:Nat} (Η:n=l.length):oB id k l (.cells t kk (M++[.ms id n 0 n])) (.cells t kk (M++[.sl false k l])):=by
 subst Η;refine .inr ⟨t,kk,_,_,rfl,rfl,by simp,λi e aJ J γ=>?_⟩;by_cases hi:i<M.length
 ·rw[dB hi] at J γ;rw[J] at γ;cases γ;exact⟨rfl,λx a b1 π Μ=>by rw[π] at Μ;cases Μ;exact .same _⟩
 ·rw[fS (by omega)] at J γ;obtain⟨j,ε⟩:∃j,j=i-M.length:=⟨_,rfl⟩;rw[<-ε] at J γ
  match j with
  | 0=>
   simp at J γ;subst J;subst γ;refine⟨rfl,λx a b1 π Μ=>?_⟩
   match x with
   | 0=>simp[θ.cells] at π Μ;subst π;subst Μ;exact .ms
   | x+1=>simp[θ.cells] at π
  | j+1=>simp at J
def tj (c:List Nat):Nat:=match c.getLast? with|none=>0|some x=>x+1
def jS (n:Nat) (c:List Nat) (v:Nat):List (List Nat):=(List.range' (tj c) (v-tj c)).map λx=>c++[x]
def gp (n:Nat):Nat->List (List Nat)
 | 0=>[[]]
 | i+1=>(gp n i).flatMap λc=>jS n c n
abbrev jk (l:List Nat):θ:=aP R 1 (l.map λx:Nat=>(x:Int))
abbrev uX (L:List (List Nat)):θ:=.sl false 1 (L.map jk)
theorem Kp (n:Nat):∀i,∀c∈gp n i,c.length=i
 | 0=>by simp[gp]
 | i+1=>λc ζ=>by
  obtain⟨d,hd,ζ⟩:=List.mem_flatMap.1 ζ;obtain⟨x,_,rfl⟩:=List.mem_map.1 ζ;have:=Kp n i d hd;simp[this]
theorem fτ (n:Nat) (c:List Nat) {v:Nat} (h:tj c<=v):jS n c (v+1)=jS n c v++[c++[v]]:=by
 unfold jS;have e:v+1-tj c=(v-tj c)+1:=by omega
 rw[e,List.range'_concat,List.map_append];simp;omega
theorem Rx (n:Nat) (c:List Nat):jS n c (tj c)=[]:=by simp[jS]
theorem Kq {L:List (List Nat)}:∀e∈L.map jk,∀a∈e.cells,au 0 a:=λe he a ξ=>by
 obtain⟨x,_,rfl⟩:=List.mem_map.1 he;simp[θ.cells] at ξ;subst ξ;refine fZ.2 λb hb c ζ=>?_;obtain⟨y,_,rfl⟩:=List.mem_map.1 hb;simp[θ.cells] at ζ;subst ζ;exact .z _
structure Ry (L:List (List Nat)) (X:θ):Prop where
 sl:∃b kk l,X=.sl b kk l/\l.length=L.length/\(L≠[]->kk=1)/\(∀(j:Nat) (c:List Nat),L[j]?=some c->∃e,l[j]?=some e/\cG e (jk c)/\au 0 e/\(e=.sl true 0 []/\c=[]\/e=jk c))
 qa:au 0 X
 kX:cG X (uX L)
def uY (L:List (List Nat)):List Row:=if L.isEmpty then [] else [.dead,.cells 29 1 (L.map jk)]
def rY (L:List (List Nat)):θ:=if L.isEmpty then .sl true 0 [] else .ms 1 L.length 0 L.length
theorem Fv {L:List (List Nat)} (h:L≠[]):uY L=[.dead,.cells 29 1 (L.map jk)]:=by unfold uY;rw[if_neg (by simpa using h)]
theorem Fw {L:List (List Nat)} (h:L≠[]):rY L=.ms 1 L.length 0 L.length:=by unfold rY;rw[if_neg (by simpa using h)]
theorem fυ (n m:Nat) (Η:n<2 ^ 20) (hm:m<=n+1) (aD:∀i,i<=m->∀c∈gp n i,∀x∈c,x<n) (hle:∀i,i<=m->(gp n i).length<2 ^ 30):ay Tryz.prog 35 [R n,R m] (uX (gp n m)):=by
 refine ak.body Ι Tryz.func35 rfl rfl Tryz.ntmps35 rfl rfl (by simp) ?_;(repeat (first|apply κ|(refine ν λη I=>?_;simp;(repeat (rw[δ];simp));apply I)));refine W.iter (ι:=Nat×θ) (λx=>x.1<=m/\Ry (gp n x.1) x.2) (λx=>[(0,R n),(1,R m),(5,x.2),(6,R x.1)]) (λ_=>[]) (λx=>m-x.1) (0,.sl true 1 [.sl true 0 []]) ⟨Nat.zero_le _,?_,by simp,?_⟩ rfl (by simp) (λx U Δ=>?_)
 ·refine⟨_,_,_,rfl,rfl,λ_=>rfl,λj c ε=>?_⟩
  match j with
  | 0=>simp[gp] at ε;subst ε;exact⟨_,rfl,.nil,by simp,.inl ⟨rfl,rfl⟩⟩
  | j+1=>simp[gp] at ε
 ·exact .sl rfl λi a b J γ=>by
   match i with
   | 0=>simp[gp] at J γ;subst J;subst γ;exact .one .nil rfl rfl
   | i+1=>simp at J
 obtain⟨i,X⟩:=x;obtain⟨hi,gn⟩:=U;simp only at hi gn Δ ⊢;(repeat (first|apply κ|(refine ν λη I=>?_;simp;(repeat (rw[δ];simp));apply I)));by_cases Kr:i<m
 ·refine aj (by simp[Kr]) ?_;obtain⟨C,hC⟩:∃C,C=gp n i:=⟨_,rfl⟩;have wx:=Kp n i;have Br:=aD i (by omega);have Ks:=hle i (by omega);have Rz:gp n (i+1)=C.flatMap λc=>jS n c n:=by rw[hC];rfl
  have RA:=hle (i+1) (by omega);rw[<-hC] at gn wx Br Ks;rw[Rz] at RA;obtain⟨⟨uW,Km,rX,yJ,tk,fφ,fχ⟩,Kt,lΧ⟩:=gn;have hw:=gY (i:=i) (by omega);(repeat (first|apply κ|(refine ν λη I=>?_;simp;(repeat (rw[δ];simp));apply I)));refine W.iter (λj:Nat=>j<=C.length) (λj=>[(0,R n),(1,R m),(5,X),(6,R i),(7,rY ((C.take j).flatMap λc=>jS n c n)),(8,R j)]) (λj=>uY ((C.take j).flatMap λc=>jS n c n)) (λj=>C.length-j) 0 (Nat.zero_le _) (by simp[uY]) (by simp[rY]) (λj ε fK=>?_);obtain⟨M,c0⟩:∃M,M=(C.take j).flatMap λc=>jS n c n:=⟨_,rfl⟩;refine W.to (σ':=uY M) (env':=[(0,R n),(1,R m),(5,.sl uW Km rX),(6,R i),(7,rY M),(8,R j)]) ?_ (by rw[c0]) (by rw[c0,<-yJ];simp);(repeat (first|apply κ|(refine ν λη I=>?_;simp;(repeat (rw[δ];simp[tk]));apply I)));by_cases hZ:j<C.length
  ·refine aj (by simp[hZ]) ?_;have hB:Km=1:=fφ (λh=>by rw[h] at hZ;simp at hZ);subst hB;have uZ:=aW hZ;have ki:=List.getElem_mem hZ;obtain⟨c,ζ⟩:∃c,c=C[j]:=⟨_,rfl⟩;rw[<-ζ] at uZ ki;have bP:=wx c ki;have kH:=Br c ki;obtain⟨e,rj,lQ,RB,RD⟩:=fχ j c uZ;have gx:j<rX.length:=by omega
   have Fx:∀h,rX[j]'h=e:=λh=>by rw[aW h] at rj;simpa using rj
   have k0:(C.take (j+1)).flatMap (λc=>jS n c n)=M++jS n c n:=by
    rw[List.take_succ_eq_append_getElem hZ,List.flatMap_append,<-c0,<-ζ];simp
   have fψ:(M++jS n c n).length<2 ^ 30:=by
    rw[<-k0];refine Nat.lt_of_le_of_lt ?_ RA;rw[List.length_flatMap,List.length_flatMap];have:C.take (j+1)++C.drop (j+1)=C:=List.take_append_drop ..
    conv=>rhs;rw[<-this]
    rw[List.map_append,List.sum_append];omega
   obtain⟨f,Φ⟩:∃f,f=tj c:=⟨_,rfl⟩;have cf:f<=n:=by
    rw[Φ];unfold tj;split
    ·omega
    ·rename_i x U;have:=kH x (List.mem_of_getLast? U);omega
   have kg:=gY (i:=j) (by omega);(repeat (first|apply κ|(refine ν λη I=>?_;simp;(repeat (rw[δ];simp));apply I)));refine W.upto [(0,R n),(1,R m),(5,.sl uW 1 rX),(6,R i),(7,rY M),(8,R j),(9,R f)] (uY M) ?_ ?_
   ·by_cases iR:i=0
    ·subst iR;have A':f=0:=by rw[Φ,dp.1 bP];rfl
     refine ah rfl ?_
     first|apply κ
     exact W.stop ⟨rfl,rfl,by simp[A']⟩
    ·refine aj (by simp;omega) ?_;obtain⟨p,ψ⟩:∃p,i=p+1:=⟨i-1,by omega⟩;have fω:e=jk c:=by
      rcases RD with⟨_,h⟩|h
      ·rw[h] at bP;simp at bP;omega
      ·exact h
     have Ku:p<c.length:=by omega
     have Ao:=aW Ku
     have fΑ:=kH _ (List.getElem_mem Ku);obtain⟨y,Ξ⟩:∃y,y=c[p]:=⟨_,rfl⟩;rw[<-Ξ] at Ao fΑ;have fΒ:∀h,c[p]'h=y:=λh=>Ξ.symm;have fΓ:f=y+1:=by
      rw[Φ];unfold tj;rw[List.getLast?_eq_getElem?,bP,ψ,Nat.add_sub_cancel,Ao]
     have iq:IntKind.i64.wrap ((i:Int)-1)=(p:Int):=by rw[IntWalk.i64_in _ (by omega)];omega
     have hO:=gY (i:=y) (by omega);rw[fω] at rj Fx;refine ν λη I=>?_;simp;(repeat (rw[δ];simp[gx,rj,Fx,iq,Ku,Ao,fΒ,hO]));apply I;exact W.stop ⟨rfl,rfl,by simp[fΓ]⟩
   (repeat (first|apply κ|(refine ν λη I=>?_;simp;(repeat (rw[δ];simp));apply I)));refine W.iter (λv:Nat=>f<=v/\v<=n) (λv=>[(0,R n),(1,R m),(5,.sl uW 1 rX),(6,R i),(7,rY (M++jS n c v)),(8,R j),(10,R v)]) (λv=>uY (M++jS n c v)) (λv=>n-v) f ⟨Nat.le_refl _,cf⟩ (by rw[Φ,Rx];simp) (by rw[Φ,Rx];simp) (λv hv RE=>?_);obtain⟨mH,nE⟩:=hv;(repeat (first|apply κ|(refine ν λη I=>?_;simp;(repeat (rw[δ];simp));apply I)));by_cases Bs:v<n
   ·refine aj (by simp[Bs]) ?_;have fu:=fτ n c (v:=v) (by omega);have fΔ:(c.map λx:Nat=>(x:Int)).length=i:=by rw[List.length_map,bP]
    obtain⟨km,Kv⟩:∃km,km=c.map λx:Nat=>(x:Int):=⟨_,rfl⟩;have tl:(km++[(v:Int)])=(c++[v]).map λx:Nat=>(x:Int):=by rw[Kv,List.map_append];rfl
    rw[<-Kv] at fΔ;have RF:cG e (aP R 1 km):=by rw[Kv];exact lQ
    have Kw:(M++jS n c v).length<2 ^ 30:=by
     refine Nat.lt_of_le_of_lt ?_ fψ;simp[jS];omega
    have RG:=gY (i:=v) (by omega)
    have k4:M++jS n c (v+1)=(M++jS n c v)++[c++[v]]:=by rw[fu,List.append_assoc]
    obtain⟨N,b8⟩:∃N,N=M++jS n c v:=⟨_,rfl⟩;rw[<-b8] at k4 Kw ⊢;have RH:km.length<=4294967295:=by omega
    obtain⟨be,ke,le,E1⟩:∃be ke le,e=.sl be ke le:=by
     rcases RD with⟨h,_⟩|h
     ·exact⟨_,_,_,h⟩
     ·exact⟨_,_,_,h⟩
    subst E1;by_cases Θ:N=[]
    ·subst Θ;have Ζ:rY []=.sl true 0 []:=rfl;have Ε:uY []=[]:=rfl;rw[Ζ,Ε];(repeat apply κ);refine dw (A:=[48,50]) Ι λη I=>?_;simp;(repeat (rw[δ];simp[gx,rj,Fx]));refine Rw km (by omega) RF RB ?_;simp;(repeat (rw[δ];simp[RH]));apply I;have gr:(List.map R km++[R v])=(km++[(v:Int)]).map R:=by rw[List.map_append];rfl
     rw[gr];have p0:km.length+1=((km++[(v:Int)]).map R).length:=by simp
     refine W.rU (σ':=[.dead,.cells 29 1 [.sl false 1 ((km++[(v:Int)]).map R)]]) (id:=0) (by simp) rfl rfl rfl (λx r U μ=>?_) [(0,R n),(1,R m),(5,.sl uW 1 rX),(6,R i),(7,.ms 1 1 0 1),(8,R j),(10,R v)] (λp ψ=>by
      simp only[List.mem_cons,List.not_mem_nil,or_false] at ψ;rcases ψ with rfl|rfl|rfl|rfl|rfl|rfl|rfl<;>exact .same _) ?_
     ·match x,U,μ with
      | 0,h,_=>exact absurd rfl h
      | 1,_,μ=>simp at μ;subst μ;exact⟨_,rfl,oB.last (M:=[]) p0⟩
      | x+2,_,μ=>simp at μ
     have wV:[θ.sl false 1 ((km++[(v:Int)]).map R)]=[c++[v]].map jk:=by rw[tl];rfl
     rw[wV];(repeat (first|apply κ|(refine ν λη I=>?_;simp;(repeat (rw[δ];simp[RG]));apply I)));refine W.to (RE (v+1) ⟨by omega,by omega⟩ (by omega)) ?_ ?_
     ·rw[k4,Fv (by simp)];simp
     ·rw[k4,Fw (by simp)];simp
    ·rw[Fw Θ,Fv Θ];(repeat apply κ);refine dw (A:=[48,50]) Ι λη I=>?_;simp;(repeat (rw[δ];simp[gx,rj,Fx]));refine Rw km (by omega) RF RB ?_;simp;(repeat (rw[δ];simp[RH]));refine⟨by omega,?_⟩;apply I;have gr:(List.map R km++[R v])=(km++[(v:Int)]).map R:=by rw[List.map_append];rfl
     rw[gr];have p0:km.length+1=((km++[(v:Int)]).map R).length:=by simp
     have lΨ:N.length=(N.map jk).length:=by simp
     refine W.rU (σ':=[.dead,.cells 29 1 (N.map jk++[.sl false 1 ((km++[(v:Int)]).map R)]),.dead]) (id:=2) (by simp) rfl rfl rfl (λx r U μ=>?_) [(0,R n),(1,R m),(5,.sl uW 1 rX),(6,R i),(7,.ms 1 (N.length+1) 0 (N.length+1)),(8,R j),(10,R v)] (λp ψ=>by
      simp only[List.mem_cons,List.not_mem_nil,or_false] at ψ;rcases ψ with rfl|rfl|rfl|rfl|rfl|rfl|rfl<;>exact .same _) ?_
     ·match x,U,μ with
      | 0,_,μ=>exact⟨r,μ,.inl rfl⟩
      | 1,_,μ=>simp at μ;subst μ;exact⟨_,rfl,oB.last p0⟩
      | 2,h,_=>exact absurd rfl h
      | x+3,_,μ=>simp at μ
     have wV:(N.map jk++[θ.sl false 1 ((km++[(v:Int)]).map R)])=(N++[c++[v]]).map jk:=by rw[tl,List.map_append (l₁:=N)];rfl
     rw[wV];refine W.drop (h:=2) (by simp) (by simp) (λx r U μ=>?_) rfl [(0,R n),(1,R m),(5,.sl uW 1 rX),(6,R i),(7,.ms 1 (N.length+1) 0 (N.length+1)),(8,R j),(10,R v)] (by
      simp[nx];exact fZ.1 ((yJ▸Kt:au 0 (θ.sl uW 1 rX)).mono (Nat.zero_le 2))) ?_
     ·match x,U,μ with
      | 0,_,μ=>simp at μ;subst μ;trivial
      | 1,_,μ=>cases μ;exact λe he a ξ=>au.mono (Kq e he a ξ) (Nat.zero_le _)
     (repeat (first|apply κ|(refine ν λη I=>?_;simp;(repeat (rw[δ];simp[RG]));apply I)));refine W.to (RE (v+1) ⟨by omega,by omega⟩ (by omega)) ?_ ?_
     ·rw[k4,Fv (by simp)];simp
     ·rw[k4,Fw (by simp)];simp
   ·refine ah (by simp[Bs]) ?_;have fΕ:v=n:=by omega
    subst fΕ;refine W.exit rfl ?_;(repeat (first|apply κ|(refine ν λη I=>?_;simp;(repeat (rw[δ];simp[kg]));apply I)));exact W.to (fK (j+1) (by omega) (by omega)) (by rw[k0]) (by rw[k0,yJ];simp)
  ·refine ah (by simp[hZ]) ?_;have pq:j=C.length:=by omega
   subst pq;rw[List.take_length,<-Rz] at c0;refine W.exit rfl ?_;obtain⟨yK,yL⟩:∃yK,yK=if M=[] then θ.sl true 0 [] else .sl false 1 (M.map jk):=⟨_,rfl⟩
   refine W.cut 0 (Nat.zero_le _) [(0,R n),(1,R m),(6,R i),(7,yK)] (by simp) (λid r h=>by omega) (λz Θ=>by
    simp only[List.mem_cons,List.not_mem_nil,or_false] at Θ;rcases Θ with rfl|rfl|rfl|rfl
    ·exact .low (by simp)
    ·exact .low (by simp)
    ·exact .low (by simp)
    ·show ed 0 _ (rY M) yK;rw[yL];by_cases Θ:M=[]
     ·rw[Θ,if_pos rfl];exact .low (by simp[rY])
     ·rw[if_neg Θ,Fw Θ,Fv Θ];exact .own (Nat.zero_le _) rfl (by simp) Kq) ?_
   have RI:Ry (gp n (i+1)) yK:=by
    rw[<-c0,yL];by_cases Θ:M=[]
    ·rw[if_pos Θ,Θ];exact⟨⟨_,_,_,rfl,rfl,λh=>absurd rfl h,λj c h=>by simp at h⟩,by simp,.nil⟩
    ·rw[if_neg Θ];refine⟨⟨_,_,_,rfl,by simp,λ_=>rfl,λj c h=>⟨jk c,by rw[List.getElem?_map,h];rfl,.refl _,?_,.inr rfl⟩⟩,fZ.2 Kq,.refl _⟩;exact fZ.2 λb hb d hd=>by
      obtain⟨y,_,rfl⟩:=List.mem_map.1 hb;simp[θ.cells] at hd;subst hd;exact .z _
   clear yL;obtain⟨bG,k1,l1,lΩ,_⟩:=RI.sl;(repeat (first|apply κ|(refine ν λη I=>?_;simp;(repeat (rw[δ];simp[hw]));apply I)));exact W.to (Δ (i+1,yK) ⟨Kr,RI⟩ (by show m-(i+1)<m-i;omega)) rfl (by simp)
 ·refine ah (by simp[Kr]) ?_;have dL:i=m:=by omega
  subst dL;refine W.exit rfl ?_;(repeat (first|apply κ|(refine ν λη I=>?_;simp;(repeat (rw[δ];simp));apply I)));refine W.ret ⟨_,rfl,?_,rfl⟩;exact gn.kX
section
variable {P:Program} {T:bd} {A:List Nat} {m nt:Nat} {k:List Item} {env:aa} {σ:List Row} {Z:List Item->aa->List Row->Prop} {E:θ->aa->List Row->Prop}
theorem W.fΖ (Κ:bR P T) (env':aa) (σ':List Row) {ops:Array Oper} {l:List Nat} (h:W P m nt k env' σ' Z E) (μ:run P T A nt ops l env σ (λe s=>W P m nt k env' σ' Z E->W P m nt k e s Z E) E):W P m nt (.inRegion ops l::k) env σ Z E:=by
 have:=HR (m:=m) (k:=k) (Z:=Z) Κ [] l env σ (Dy (λe s f=>W.bF (f h)) _ _ _ μ);simpa using this
end
def nR (l:List eF):θ:=fA 3 (l.map eB)
def bA (done:List (List eF)) (nc:Nat):List θ:=done.map nR++List.replicate (nc-done.length) bE
theorem fΗ (nc:Nat):bA [] nc=List.replicate nc bE:=by simp[bA]
theorem wW {done:List (List eF)} {nc:Nat} (h:done.length<=nc):(bA done nc).length=nc:=by simp[bA];omega
theorem fΘ {done:List (List eF)}:bA done done.length=done.map nR:=by simp[bA]
theorem fΙ {done:List (List eF)} {nc:Nat} (h:done.length<nc):(bA done nc)[done.length]?=some bE:=by
 unfold bA;rw[fS (by simp),List.length_map,Nat.sub_self,List.getElem?_replicate,if_pos (by omega)]
theorem fΚ {done:List (List eF)} {nc:Nat} (h:done.length<nc) (aE:List eF):(bA done nc).set done.length (nR aE)=bA (done++[aE]) nc:=by
 unfold bA;obtain⟨r,μ⟩:∃r,nc-done.length=r+1:=⟨nc-done.length-1,by omega⟩;have e:nc-(done++[aE]).length=r:=by simp;omega
 rw[μ,e,List.replicate_succ,List.set_append_right _ _ (by simp),List.length_map,Nat.sub_self,List.set_cons_zero,List.map_append,List.append_assoc];rfl
theorem RJ (l:List eF):au 0 (nR l):=by
 unfold nR fA;split
 ·simp
 ·refine fZ.2 λe he a ξ=>?_;obtain⟨x,_,rfl⟩:=List.mem_map.1 he;simp[θ.cells] at ξ;rcases ξ with rfl|rfl|rfl<;>exact .z _
theorem RK (l:List eF):(nR l).cells=[nR l]:=by
 unfold nR fA;split<;>rfl
theorem Kx {done:List (List eF)} {nc:Nat}:∀e∈bA done nc,e.cells=[e]/\au 0 e:=λe he=>by
 unfold bA at he;rcases List.mem_append.1 he with he|he
 ·obtain⟨x,_,rfl⟩:=List.mem_map.1 he;exact⟨RK x,RJ x⟩
 ·have:=List.eq_of_mem_replicate he;subst this;exact⟨rfl,by simp⟩
structure fΜ where
 k:Nat
 d:cx
 aE:List eF
theorem RL (s:aL) (g:Int) (Υ:g<s.ae.length) (σ:List Row) (id m:Nat) (X:List θ) (gn:X.length=m) (oV:σ[id]?=some (.cells 60 1 X)):ak Tryz.prog 130 [.aS [aO s.ae,aI s.ai,.ms id m 0 m],R g] σ (λa r=>a=R (s.of g)/\r=σ) (λ_ _=>False):=by
 refine ak.body Ι Tryz.func130 rfl rfl Tryz.ntmps130 rfl rfl (by simp) ?_;(repeat (first|apply κ|(refine ν λη I=>?_;simp;(repeat (rw[δ];simp[oV,gn]));apply I)));refine W.en rfl (λζ=>?_) (λζ=>?_)
 ·have ζ:g<0:=by simpa using ζ
  (repeat (first|apply κ|(refine ν λη I=>?_;simp;(repeat (rw[δ];simp));apply I)));refine W.ret ⟨_,rfl,?_,rfl⟩;show R 0=_;simp[aL.of,ζ]
 ·have ζ:¬g<0:=by simpa using ζ
  obtain⟨n,rfl⟩:∃n:Nat,g=n:=⟨g.toNat,by omega⟩;have Η:n<s.ae.length:=by omega
  (repeat (first|apply κ|(refine ν λη I=>?_;simp;(repeat (rw[δ];simp[Η]));apply I)));refine W.ret ⟨_,rfl,?_,rfl⟩;show R s.ae[n].eo=_;simp[aL.of,Η];intro h;omega
theorem fΝ (s:aL) (p r:Int×Int) (n:Nat) (Η:n<s.ai.length) (ω:∀x∈s.ai,x.length<2 ^ 62) (J:r.1<s.ae.length) (γ:r.2<s.ae.length) (σ:List Row) (id m:Nat) (X:List θ) (gn:X.length=m) (oV:σ[id]?=some (.cells 60 1 X)) :
  ak Tryz.prog 91 [.aS [aO s.ae,aI s.ai,.ms id m 0 m],aP R 1 [p.1,p.2],aP R 1 [r.1,r.2],R n] σ (λa r2=>a=R (s.di p r n)/\r2=σ) (λ_ _=>False):=by
 have Bt:=aW Η
 have iD:=ω _ (List.getElem_mem Η);obtain⟨l,ω⟩:∃l,l=s.ai[n]:=⟨_,rfl⟩;rw[<-ω] at Bt iD;have Ky:∀h,s.ai[n]'h=l:=λh=>ω.symm;have hv:s.di p r n=if l.contains p.2 then o9 (if l.contains p.1 then o9 0 (s.of r.1) else 0) (s.of r.2) else if l.contains p.1 then o9 0 (s.of r.1) else 0:=by
  unfold aL.di;rw[Bt];rfl
 rw[hv];have bZ:∀x:Int,(0<=(if x∈l then((l.idxOf x:Nat):Int) else -1))↔x∈l:=λx=>by
  by_cases h:x∈l
  ·simp[h]
  ·simp[h]
 have s1:=RL s r.1 J σ id m X gn oV
 have s2:=RL s r.2 γ σ id m X gn oV;generalize s.of r.1=du at s1 ⊢;generalize s.of r.2=hN at s2 ⊢;refine ak.body Ι Tryz.func91 rfl rfl Tryz.ntmps91 rfl rfl (by simp) ?_;(repeat (first|apply κ|(refine ν λη I=>?_;simp;(repeat (rw[δ];simp[oV,gn]));apply I)));refine W.draw (A:=[]) Ι mixed λη I=>?_;simp;(repeat (rw[ba];simp[Η,Bt,Ky]));try rw[a']
 refine fI (ay.p (Ik l p.1 iD) (aK.refl _) (by simp) (by simp)) ?_;simp[bZ];(repeat (rw[ba];simp[bZ]));try rw[a']
 refine⟨bK (by kernel_rfl),I _ _ ?_⟩;by_cases c1:p.1∈l
 ·refine aj (by simp[c1]) ?_;have Ζ:l.contains p.1=true:=by simpa using c1
  rw[if_pos Ζ]
  repeat apply κ
  refine W.draw (A:=[]) Ι mixed λη I=>?_;simp;(repeat (rw[ba];simp[oV,gn]));try rw[a']
  refine DR (ak.call (first:=[]) (captured:=[]) s1) ?_;simp;(repeat (rw[ba];simp));try rw[a']
  refine⟨bK (by kernel_rfl),I _ _ ?_⟩
  repeat apply κ
  refine W.draw (A:=[]) Ι mixed λη I=>?_;simp;(repeat (rw[ba];simp[Η,Bt,Ky]));try rw[a']
  refine fI (ay.p (Ik l p.2 iD) (aK.refl _) (by simp) (by simp)) ?_;simp[bZ];(repeat (rw[ba];simp[bZ]));try rw[a']
  refine⟨bK (by kernel_rfl),I _ _ ?_⟩;by_cases c2:p.2∈l
  ·refine aj (by simp[c2]) ?_;have Ε:l.contains p.2=true:=by simpa using c2
   rw[if_pos Ε]
   repeat apply κ
   refine W.draw (A:=[]) Ι mixed λη I=>?_;simp;(repeat (rw[ba];simp[oV,gn]));try rw[a']
   refine DR (ak.call (first:=[]) (captured:=[]) s2) ?_;simp;(repeat (rw[ba];simp));try rw[a']
   refine⟨bK (by kernel_rfl),I _ _ ?_⟩;(repeat (first|apply κ|(refine ν λη I=>?_;simp;(repeat (rw[δ];simp));apply I)));exact W.ret ⟨_,rfl,rfl,rfl⟩
  ·refine ah (by simp[c2]) ?_;have Ε:¬l.contains p.2=true:=by simpa using c2
   rw[if_neg Ε];(repeat (first|apply κ|(refine ν λη I=>?_;simp;(repeat (rw[δ];simp));apply I)));exact W.ret ⟨_,rfl,rfl,rfl⟩
 ·refine ah (by simp[c1]) ?_;have Ζ:¬l.contains p.1=true:=by simpa using c1
  rw[if_neg Ζ]
  repeat apply κ
  refine W.draw (A:=[]) Ι mixed λη I=>?_;simp;(repeat (rw[ba];simp[Η,Bt,Ky]));try rw[a']
  refine fI (ay.p (Ik l p.2 iD) (aK.refl _) (by simp) (by simp)) ?_;simp[bZ];(repeat (rw[ba];simp[bZ]));try rw[a']
  refine⟨bK (by kernel_rfl),I _ _ ?_⟩;by_cases c2:p.2∈l
  ·refine aj (by simp[c2]) ?_;have Ε:l.contains p.2=true:=by simpa using c2
   rw[if_pos Ε]
   repeat apply κ
   refine W.draw (A:=[]) Ι mixed λη I=>?_;simp;(repeat (rw[ba];simp[oV,gn]));try rw[a']
   refine DR (ak.call (first:=[]) (captured:=[]) s2) ?_;simp;(repeat (rw[ba];simp));try rw[a']
   refine⟨bK (by kernel_rfl),I _ _ ?_⟩;(repeat (first|apply κ|(refine ν λη I=>?_;simp;(repeat (rw[δ];simp));apply I)));exact W.ret ⟨_,rfl,rfl,rfl⟩
  ·refine ah (by simp[c2]) ?_;have Ε:¬l.contains p.2=true:=by simpa using c2
   rw[if_neg Ε];(repeat (first|apply κ|(refine ν λη I=>?_;simp;(repeat (rw[δ];simp));apply I)));exact W.ret ⟨_,rfl,rfl,rfl⟩
theorem fΞ (d:Array (Int×Int)) (n a b p:Nat) (Η:d.size=n) (ο:n<2 ^ 40) (iy:a<=p) (fΟ:p<b) (hb:b<=n) (an:θ) (cmp:Int×Int->Int×Int->Int) (bV:au 0 an) (Φ:∀x y,gj Tryz.prog an [az x,az y] (R (cmp x y))) :
  ak Tryz.prog 241 [.ms 0 n 0 n,R a,R b,R p,an] [.cells 112 2 ((d).toList.map az)] (λr s=>r=.bn [R (Go.Sort.partition (av cmp) d a b p).1,a4 (Go.Sort.partition (av cmp) d a b p).2.1]/\s=[.cells 112 2 (((Go.Sort.partition (av cmp) d a b p).2.2).toList.map az)]) (λ_ _=>False):=by
 refine ak.body Ι Tryz.func241 rfl rfl Tryz.ntmps241 rfl rfl (by simp) ?_;have iq:=gY (i:=a) (by omega);have hO:=oD (i:=b) (by omega) (by omega)
 repeat apply κ
 refine ν λη I=>?_;simp;(repeat (rw[δ];simp));apply I;have a9:a<n:=by omega
 have bp:p<n:=by omega
 obtain⟨L,x,y,aC,U,Ξ,ω,⟨J,γ⟩,⟨π,Μ⟩,eH,kn,aA⟩:=jQ az Η a9 bp;refine W.to (σ':=[.cells 112 2 L]) (env':=[(0,.ms 0 n 0 n),(1,R a),(2,R b),(3,R p),(4,an)]) ?_ (by rw[aC]) (by simp);clear U Ξ
 repeat apply κ
 refine W.draw (A:=[]) Ι mixed λη I=>?_;simp;(repeat (rw[ba];simp[ω,J,γ,π,Μ,aA,a9,bp]));try rw[a']
 refine⟨bK (by kernel_rfl),I _ _ ?_⟩;refine W.to (σ':=[.cells 112 2 ((Go.Sort.swp d a p).toList.map az)]) (env':=[(0,.ms 0 n 0 n),(1,R a),(2,R b),(3,R p),(4,an)]) ?_ (by rw[eH]) (by simp);clear a9 bp J γ π Μ aA eH ω aC L x y kn;obtain⟨e,he⟩:∃e,e=Go.Sort.swp d a p:=⟨_,rfl⟩;have e4:e.size=n:=by rw[he];exact swp_size Η a p
 rw[<-he]
 repeat apply κ
 refine ν λη I=>?_;simp;(repeat (rw[δ];simp[iq,hO]));apply I;refine W.to (σ':=[.cells 112 2 ((e).toList.map az)]) (env':=[(0,.ms 0 n 0 n),(1,R a),(4,an),(12,R (a+1:Nat)),(13,R (b-1:Nat))]) ?_ rfl (by simp);obtain⟨a0,fj⟩:∃a0,Go.Sort.scanUp (λx=>av cmp x e[a]!) e (b-1) (a+1)=a0:=⟨_,rfl⟩;obtain⟨aH,dg⟩:∃aH,Go.Sort.scanDown (λx=>!av cmp x e[a]!) e a0 (b-1)=aH:=⟨_,rfl⟩;obtain⟨s1,s2,oK,vd,oL⟩:=Bp (λx=>av cmp x e[a]!) (λx=>!av cmp x e[a]!) (λx=>rfl) e (by omega) (by omega) fj dg;have dA:Go.Sort.partition (av cmp) d a b p=if a0 > aH then(aH,true,Go.Sort.swp e aH a) else((Go.Sort.partLoop (av cmp) a (a0+1) (aH-1) (Go.Sort.swp e a0 aH)).1,false,Go.Sort.swp (Go.Sort.partLoop (av cmp) a (a0+1) (aH-1) (Go.Sort.swp e a0 aH)).2 (Go.Sort.partLoop (av cmp) a (a0+1) (aH-1) (Go.Sort.swp e a0 aH)).1 a):=by
  unfold Go.Sort.partition;simp only[<-he,fj,dg]
 repeat apply κ
 repeat apply κ
 refine W.rW [(0,.ms 0 n 0 n),(1,R a),(4,an),(12,R (a0:Nat)),(13,R (b-1:Nat))] [.cells 112 2 ((e).toList.map az)] ?_ ?_
 ·refine W.iter (λi:Nat=>(a+1)<=i/\i<=(b-1)+1/\Go.Sort.scanUp (λx=>av cmp x e[a]!) e (b-1) i=a0) (λi=>[(0,.ms 0 n 0 n),(1,R a),(4,an),(12,R (i:Nat)),(13,R (b-1:Nat))]) (λ_=>[.cells 112 2 ((e).toList.map az)]) (λi=>(b-1)+1-i) ((a+1)) ⟨Nat.le_refl _,by omega,fj⟩ rfl (by simp) (λi hi Δ=>?_);obtain⟨mJ,jR,fp⟩:=hi;by_cases ζ:i<=(b-1)
  ·have a9:i<n:=by omega
   have bp:a<n:=by omega
   obtain⟨L,x,y,aC,U,Ξ,ω,⟨J,γ⟩,⟨π,Μ⟩,-,-⟩:=jQ az e4 a9 bp;have un:Go.Sort.scanUp (λx=>av cmp x e[a]!) e (b-1) i=if(av cmp x y)=true then Go.Sort.scanUp (λx=>av cmp x e[a]!) e (b-1) (i+1) else i:=by rw[Go.Sort.scanUp];simp[ζ,U,Ξ]
   have hw:=gY (i:=i) (by omega);refine W.to (σ':=[.cells 112 2 L]) (env':=[(0,.ms 0 n 0 n),(1,R a),(4,an),(12,R (i:Nat)),(13,R (b-1:Nat))]) ?_ (by rw[aC]) (by simp);clear U Ξ
   repeat apply κ
   refine W.draw (A:=[]) Ι mixed λη I=>?_;simp;(repeat (rw[ba];simp[ζ,ω,J,γ,π,Μ,a9,bp]));try rw[a']
   refine fI (Φ x y) ?_;simp;(repeat (rw[ba];simp));try rw[a']
   refine⟨bK (by kernel_rfl),I _ _ ?_⟩;by_cases hm:cmp x y<0
   ·refine aj (by simp[hm]) ?_;(repeat (first|apply κ|(refine ν λη I=>?_;simp;(repeat (rw[δ];simp[hw]));apply I)));exact W.to (Δ (i+1) ⟨by omega,by omega,by rw[<-fp,un];simp[hm,av]⟩ (by(try simp only);omega)) (by rw[aC]) (by simp[hw])
   ·refine ah (by simp[hm]) ?_;refine W.exit rfl ?_;exact W.stop ⟨rfl,by rw[aC],by rw[<-fp,un];simp[hm,av]⟩
  ·repeat apply κ
   refine W.draw (A:=[]) Ι mixed λη I=>?_;simp;(repeat (rw[ba];simp[ζ]));try rw[a']
   refine⟨bK (by kernel_rfl),I _ _ ?_⟩;refine ah rfl ?_;refine W.exit rfl ?_;have e:Go.Sort.scanUp (λx=>av cmp x e[a]!) e (b-1) i=i:=by rw[Go.Sort.scanUp];simp[ζ]
   exact W.stop ⟨rfl,rfl,by rw[<-fp,e];simp⟩
 repeat apply κ
 refine W.rW [(0,.ms 0 n 0 n),(1,R a),(4,an),(12,R (a0:Nat)),(13,R (aH:Nat))] [.cells 112 2 ((e).toList.map az)] ?_ ?_
 ·refine W.iter (λi:Nat=>i<=(b-1)/\a0<=i+1/\Go.Sort.scanDown (λx=>!av cmp x e[a]!) e a0 i=aH) (λi=>[(0,.ms 0 n 0 n),(1,R a),(4,an),(12,R (a0:Nat)),(13,R (i:Nat))]) (λ_=>[.cells 112 2 ((e).toList.map az)]) (λi=>i+1-a0) ((b-1)) ⟨Nat.le_refl _,by omega,dg⟩ rfl (by simp) (λi hi Δ=>?_);obtain⟨mJ,jR,fp⟩:=hi;by_cases ζ:a0<=i
  ·have a9:i<n:=by omega
   have bp:a<n:=by omega
   obtain⟨L,x,y,aC,U,Ξ,ω,⟨J,γ⟩,⟨π,Μ⟩,-,-⟩:=jQ az e4 a9 bp;obtain⟨q,Ρ⟩:∃q,i=q+1:=⟨i-1,by omega⟩;have un:Go.Sort.scanDown (λx=>!av cmp x e[a]!) e a0 i=if(!av cmp x y)=true then Go.Sort.scanDown (λx=>!av cmp x e[a]!) e a0 (i-1) else i:=by subst Ρ;rw[Go.Sort.scanDown];simp[ζ,U,Ξ]
   have hw:=oD (i:=i) (by omega) (by omega);refine W.to (σ':=[.cells 112 2 L]) (env':=[(0,.ms 0 n 0 n),(1,R a),(4,an),(12,R (a0:Nat)),(13,R (i:Nat))]) ?_ (by rw[aC]) (by simp);clear U Ξ
   repeat apply κ
   refine W.draw (A:=[]) Ι mixed λη I=>?_;simp;(repeat (rw[ba];simp[ζ,ω,J,γ,π,Μ,a9,bp]));try rw[a']
   refine fI (Φ x y) ?_;simp;(repeat (rw[ba];simp));try rw[a']
   refine⟨bK (by kernel_rfl),I _ _ ?_⟩;by_cases hm:cmp x y<0
   ·refine ah (by simp[hm]) ?_;refine W.exit rfl ?_;exact W.stop ⟨rfl,by rw[aC],by rw[<-fp,un];simp[hm,av]⟩
   ·refine aj (by simp[hm]) ?_;(repeat (first|apply κ|(refine ν λη I=>?_;simp;(repeat (rw[δ];simp[hw]));apply I)));exact W.to (Δ (i-1) ⟨by omega,by omega,by rw[<-fp,un];simp[hm,av]⟩ (by(try simp only);omega)) (by rw[aC]) (by simp[hw])
  ·repeat apply κ
   refine W.draw (A:=[]) Ι mixed λη I=>?_;simp;(repeat (rw[ba];simp[ζ]));try rw[a']
   refine⟨bK (by kernel_rfl),I _ _ ?_⟩;refine ah rfl ?_;refine W.exit rfl ?_;have e:Go.Sort.scanDown (λx=>!av cmp x e[a]!) e a0 i=i:=by exact Kd _ _ (by omega)
   exact W.stop ⟨rfl,rfl,by rw[<-fp,e];simp⟩
 repeat apply κ
 by_cases ζ:a0 > aH
 ·have a5:((aH:Nat):Int)<(a0:Nat):=by omega
  (repeat (first|apply κ|(refine ν λη I=>?_;simp;(repeat (rw[δ];simp[a5]));apply I)));refine aj (by simp[ζ]) ?_;have a9:aH<n:=by omega
  have bp:a<n:=by omega
  obtain⟨L,x,y,aC,U,Ξ,ω,⟨J,γ⟩,⟨π,Μ⟩,eH,kn,aA⟩:=jQ az e4 a9 bp;refine W.to (σ':=[.cells 112 2 L]) (env':=[(0,.ms 0 n 0 n),(1,R a),(4,an),(12,R (a0:Nat)),(13,R (aH:Nat))]) ?_ (by rw[aC]) (by simp);clear U Ξ
  repeat apply κ
  refine W.draw (A:=[]) Ι mixed λη I=>?_;simp;(repeat (rw[ba];simp[ω,J,γ,π,Μ,aA,a9,bp]));try rw[a']
  refine⟨bK (by kernel_rfl),I _ _ ?_⟩;refine W.to (σ':=[.cells 112 2 ((Go.Sort.swp e aH a).toList.map az)]) (env':=[(0,.ms 0 n 0 n),(1,R a),(4,an),(12,R (a0:Nat)),(13,R (aH:Nat))]) ?_ (by rw[eH]) (by simp);clear a9 bp J γ π Μ aA eH ω aC L x y kn;(repeat (first|apply κ|(refine ν λη I=>?_;simp;(repeat (rw[δ];simp));apply I)));exact W.ret ⟨_,rfl,by rw[dA,if_pos ζ];rfl,by rw[dA,if_pos ζ]⟩
 have a5:¬((aH:Nat):Int)<(a0:Nat):=by omega
 have BQ:=oL (by omega)
 have jg:=gY (i:=a0) (by omega)
 have px:=oD (i:=aH) (by omega) (by omega);(repeat (first|apply κ|(refine ν λη I=>?_;simp;(repeat (rw[δ];simp[a5]));apply I)));refine ah (by simp[ζ]) ?_;have a9:a0<n:=by omega
 have bp:aH<n:=by omega
 obtain⟨L,x,y,aC,U,Ξ,ω,⟨J,γ⟩,⟨π,Μ⟩,eH,kn,aA⟩:=jQ az e4 a9 bp;refine W.to (σ':=[.cells 112 2 L]) (env':=[(0,.ms 0 n 0 n),(1,R a),(4,an),(12,R (a0:Nat)),(13,R (aH:Nat))]) ?_ (by rw[aC]) (by simp);clear U Ξ
 repeat apply κ
 refine W.draw (A:=[]) Ι mixed λη I=>?_;simp;(repeat (rw[ba];simp[ω,J,γ,π,Μ,aA,a9,bp]));try rw[a']
 refine⟨bK (by kernel_rfl),I _ _ ?_⟩;refine W.to (σ':=[.cells 112 2 ((Go.Sort.swp e a0 aH).toList.map az)]) (env':=[(0,.ms 0 n 0 n),(1,R a),(4,an),(12,R (a0:Nat)),(13,R (aH:Nat))]) ?_ (by rw[eH]) (by simp);clear a9 bp J γ π Μ aA eH ω aC L x y kn;have vw:=swp_size e4 a0 aH;rw[if_neg ζ] at dA;obtain⟨g,Υ⟩:∃g,g=Go.Sort.swp e a0 aH:=⟨_,rfl⟩;rw[<-Υ] at dA vw;rw[<-Υ];(repeat (first|apply κ|(refine ν λη I=>?_;simp;(repeat (rw[δ];simp[jg,px]));apply I)));refine W.to (σ':=[.cells 112 2 ((g).toList.map az)]) (env':=[(0,.ms 0 n 0 n),(1,R a),(4,an),(12,R (a0+1:Nat)),(13,R (aH-1:Nat))]) ?_ rfl (by simp[jg,px]);have mα:a<a0:=by omega
 have mβ:aH<b:=by omega
 have mγ:a0+1<=aH-1+1:=by omega
 clear fj dg a5 ζ s1 s2 oK vd oL Υ jg px;obtain⟨Ω,l6⟩:∃Ω,Go.Sort.partLoop (av cmp) a (a0+1) (aH-1) g=Ω:=⟨_,rfl⟩
 repeat apply κ
 refine W.rW [(0,.ms 0 n 0 n),(1,R a),(13,R Ω.1)] [.cells 112 2 ((Ω.2).toList.map az)] ?_ ?_
 ·refine W.iter (λq:Nat×Nat×Array (Int×Int)=>q.2.2.size=n/\a<q.1/\q.1<=q.2.1+1/\q.2.1<b/\Go.Sort.partLoop (av cmp) a q.1 q.2.1 q.2.2=Ω) (λq=>[(0,.ms 0 n 0 n),(1,R a),(4,an),(12,R (q.1:Nat)),(13,R (q.2.1:Nat))]) (λq=>[.cells 112 2 ((q.2.2).toList.map az)]) (λq=>q.2.1+1-q.1) (a0+1,aH-1,g) ⟨vw,by(try simp only);omega,by(try simp only);omega,by(try simp only);omega,l6⟩ rfl (by simp) (λq hi Δ=>?_);obtain⟨i,j,f⟩:=q;obtain⟨cf,mJ,jR,fp,bb⟩:=hi;simp only at cf mJ jR fp bb;obtain⟨a0,fj⟩:∃a0,Go.Sort.scanUp (λx=>av cmp x f[a]!) f (j) (i)=a0:=⟨_,rfl⟩;obtain⟨aH,dg⟩:∃aH,Go.Sort.scanDown (λx=>!av cmp x f[a]!) f a0 (j)=aH:=⟨_,rfl⟩;obtain⟨s1,s2,oK,vd,oL⟩:=Bp (λx=>av cmp x f[a]!) (λx=>!av cmp x f[a]!) (λx=>rfl) f (by omega) (by omega) fj dg;have dA:Go.Sort.partLoop (av cmp) a i j f=if a0 > aH then(aH,f) else Go.Sort.partLoop (av cmp) a (a0+1) (aH-1) (Go.Sort.swp f a0 aH):=by
   rw[Go.Sort.partLoop_eq];simp only[fj,dg]
  refine W.to (σ':=[.cells 112 2 ((f).toList.map az)]) (env':=[(0,.ms 0 n 0 n),(1,R a),(4,an),(12,R (i:Nat)),(13,R (j:Nat))]) ?_ rfl (by simp);refine W.block ?_
  repeat apply κ
  refine W.rW [(0,.ms 0 n 0 n),(1,R a),(4,an),(12,R (a0:Nat)),(13,R (j:Nat))] [.cells 112 2 ((f).toList.map az)] ?_ ?_
  ·refine W.iter (λi:Nat=>(i)<=i/\i<=(j)+1/\Go.Sort.scanUp (λx=>av cmp x f[a]!) f (j) i=a0) (λi=>[(0,.ms 0 n 0 n),(1,R a),(4,an),(12,R (i:Nat)),(13,R (j:Nat))]) (λ_=>[.cells 112 2 ((f).toList.map az)]) (λi=>(j)+1-i) ((i)) ⟨Nat.le_refl _,by omega,fj⟩ rfl (by simp) (λi hi Δ=>?_);obtain⟨mJ,jR,fp⟩:=hi;by_cases ζ:i<=(j)
   ·have a9:i<n:=by omega
    have bp:a<n:=by omega
    obtain⟨L,x,y,aC,U,Ξ,ω,⟨J,γ⟩,⟨π,Μ⟩,-,-⟩:=jQ az cf a9 bp;have un:Go.Sort.scanUp (λx=>av cmp x f[a]!) f (j) i=if(av cmp x y)=true then Go.Sort.scanUp (λx=>av cmp x f[a]!) f (j) (i+1) else i:=by rw[Go.Sort.scanUp];simp[ζ,U,Ξ]
    have hw:=gY (i:=i) (by omega);refine W.to (σ':=[.cells 112 2 L]) (env':=[(0,.ms 0 n 0 n),(1,R a),(4,an),(12,R (i:Nat)),(13,R (j:Nat))]) ?_ (by rw[aC]) (by simp);clear U Ξ
    repeat apply κ
    refine W.draw (A:=[]) Ι mixed λη I=>?_;simp;(repeat (rw[ba];simp[ζ,ω,J,γ,π,Μ,a9,bp]));try rw[a']
    refine fI (Φ x y) ?_;simp;(repeat (rw[ba];simp));try rw[a']
    refine⟨bK (by kernel_rfl),I _ _ ?_⟩;by_cases hm:cmp x y<0
    ·refine aj (by simp[hm]) ?_;(repeat (first|apply κ|(refine ν λη I=>?_;simp;(repeat (rw[δ];simp[hw]));apply I)));exact W.to (Δ (i+1) ⟨by omega,by omega,by rw[<-fp,un];simp[hm,av]⟩ (by(try simp only);omega)) (by rw[aC]) (by simp[hw])
    ·refine ah (by simp[hm]) ?_;refine W.exit rfl ?_;exact W.stop ⟨rfl,by rw[aC],by rw[<-fp,un];simp[hm,av]⟩
   ·repeat apply κ
    refine W.draw (A:=[]) Ι mixed λη I=>?_;simp;(repeat (rw[ba];simp[ζ]));try rw[a']
    refine⟨bK (by kernel_rfl),I _ _ ?_⟩;refine ah rfl ?_;refine W.exit rfl ?_;have e:Go.Sort.scanUp (λx=>av cmp x f[a]!) f (j) i=i:=by rw[Go.Sort.scanUp];simp[ζ]
    exact W.stop ⟨rfl,rfl,by rw[<-fp,e];simp⟩
  repeat apply κ
  refine W.rW [(0,.ms 0 n 0 n),(1,R a),(4,an),(12,R (a0:Nat)),(13,R (aH:Nat))] [.cells 112 2 ((f).toList.map az)] ?_ ?_
  ·refine W.iter (λi:Nat=>i<=(j)/\a0<=i+1/\Go.Sort.scanDown (λx=>!av cmp x f[a]!) f a0 i=aH) (λi=>[(0,.ms 0 n 0 n),(1,R a),(4,an),(12,R (a0:Nat)),(13,R (i:Nat))]) (λ_=>[.cells 112 2 ((f).toList.map az)]) (λi=>i+1-a0) ((j)) ⟨Nat.le_refl _,by omega,dg⟩ rfl (by simp) (λi hi Δ=>?_);obtain⟨mJ,jR,fp⟩:=hi;by_cases ζ:a0<=i
   ·have a9:i<n:=by omega
    have bp:a<n:=by omega
    obtain⟨L,x,y,aC,U,Ξ,ω,⟨J,γ⟩,⟨π,Μ⟩,-,-⟩:=jQ az cf a9 bp;obtain⟨q,Ρ⟩:∃q,i=q+1:=⟨i-1,by omega⟩;have un:Go.Sort.scanDown (λx=>!av cmp x f[a]!) f a0 i=if(!av cmp x y)=true then Go.Sort.scanDown (λx=>!av cmp x f[a]!) f a0 (i-1) else i:=by subst Ρ;rw[Go.Sort.scanDown];simp[ζ,U,Ξ]
    have hw:=oD (i:=i) (by omega) (by omega);refine W.to (σ':=[.cells 112 2 L]) (env':=[(0,.ms 0 n 0 n),(1,R a),(4,an),(12,R (a0:Nat)),(13,R (i:Nat))]) ?_ (by rw[aC]) (by simp);clear U Ξ
    repeat apply κ
    refine W.draw (A:=[]) Ι mixed λη I=>?_;simp;(repeat (rw[ba];simp[ζ,ω,J,γ,π,Μ,a9,bp]));try rw[a']
    refine fI (Φ x y) ?_;simp;(repeat (rw[ba];simp));try rw[a']
    refine⟨bK (by kernel_rfl),I _ _ ?_⟩;by_cases hm:cmp x y<0
    ·refine ah (by simp[hm]) ?_;refine W.exit rfl ?_;exact W.stop ⟨rfl,by rw[aC],by rw[<-fp,un];simp[hm,av]⟩
    ·refine aj (by simp[hm]) ?_;(repeat (first|apply κ|(refine ν λη I=>?_;simp;(repeat (rw[δ];simp[hw]));apply I)));exact W.to (Δ (i-1) ⟨by omega,by omega,by rw[<-fp,un];simp[hm,av]⟩ (by(try simp only);omega)) (by rw[aC]) (by simp[hw])
   ·repeat apply κ
    refine W.draw (A:=[]) Ι mixed λη I=>?_;simp;(repeat (rw[ba];simp[ζ]));try rw[a']
    refine⟨bK (by kernel_rfl),I _ _ ?_⟩;refine ah rfl ?_;refine W.exit rfl ?_;have e:Go.Sort.scanDown (λx=>!av cmp x f[a]!) f a0 i=i:=by exact Kd _ _ (by omega)
    exact W.stop ⟨rfl,rfl,by rw[<-fp,e];simp⟩
  repeat apply κ
  by_cases ζ:a0 > aH
  ·have a5:((aH:Nat):Int)<(a0:Nat):=by omega
   (repeat (first|apply κ|(refine ν λη I=>?_;simp;(repeat (rw[δ];simp[a5]));apply I)));refine aj (by simp[ζ]) ?_;refine W.exit rfl ?_;rw[dA,if_pos ζ] at bb;exact W.stop ⟨rfl,by rw[<-bb],by rw[<-bb];simp⟩
  ·have a5:¬((aH:Nat):Int)<(a0:Nat):=by omega
   have BQ:=oL (by omega)
   have jg:=gY (i:=a0) (by omega)
   have px:=oD (i:=aH) (by omega) (by omega);(repeat (first|apply κ|(refine ν λη I=>?_;simp;(repeat (rw[δ];simp[a5]));apply I)));refine ah (by simp[ζ]) ?_;have a9:a0<n:=by omega
   have bp:aH<n:=by omega
   obtain⟨L,x,y,aC,U,Ξ,ω,⟨J,γ⟩,⟨π,Μ⟩,eH,kn,aA⟩:=jQ az cf a9 bp;refine W.to (σ':=[.cells 112 2 L]) (env':=[(0,.ms 0 n 0 n),(1,R a),(4,an),(12,R (a0:Nat)),(13,R (aH:Nat))]) ?_ (by rw[aC]) (by simp);clear U Ξ
   repeat apply κ
   refine W.draw (A:=[]) Ι mixed λη I=>?_;simp;(repeat (rw[ba];simp[ω,J,γ,π,Μ,aA,a9,bp]));try rw[a']
   refine⟨bK (by kernel_rfl),I _ _ ?_⟩;refine W.to (σ':=[.cells 112 2 ((Go.Sort.swp f a0 aH).toList.map az)]) (env':=[(0,.ms 0 n 0 n),(1,R a),(4,an),(12,R (a0:Nat)),(13,R (aH:Nat))]) ?_ (by rw[eH]) (by simp);clear a9 bp J γ π Μ aA eH ω aC L x y kn;(repeat (first|apply κ|(refine ν λη I=>?_;simp;(repeat (rw[δ];simp[jg,px]));apply I)));exact W.to (Δ (a0+1,aH-1,Go.Sort.swp f a0 aH) ⟨swp_size cf a0 aH,by(try simp only);omega,by(try simp only);omega,by(try simp only);omega,by simp;rw[<-bb,dA,if_neg ζ]⟩ (by(try simp only);omega)) rfl (by simp[jg,px])
 rw[l6] at dA;have Ρ:=fγ (av cmp) (a:=a) (b:=b) _ (a0+1) (aH-1) g (Nat.le_refl _) vw (by omega) (by omega) (by omega);rw[l6] at Ρ;obtain⟨Jw,fΡ⟩:=Ρ;obtain⟨j,h⟩:=Ω;simp only at Jw fΡ dA;have a9:j<n:=by omega
 have bp:a<n:=by omega
 obtain⟨L,x,y,aC,U,Ξ,ω,⟨J,γ⟩,⟨π,Μ⟩,eH,kn,aA⟩:=jQ az Jw a9 bp;refine W.to (σ':=[.cells 112 2 L]) (env':=[(0,.ms 0 n 0 n),(1,R a),(13,R (j:Nat))]) ?_ (by rw[aC]) (by simp);clear U Ξ
 repeat apply κ
 refine W.draw (A:=[]) Ι mixed λη I=>?_;simp;(repeat (rw[ba];simp[ω,J,γ,π,Μ,aA,a9,bp]));try rw[a']
 refine⟨bK (by kernel_rfl),I _ _ ?_⟩;refine W.to (σ':=[.cells 112 2 ((Go.Sort.swp h j a).toList.map az)]) (env':=[(0,.ms 0 n 0 n),(1,R a),(13,R (j:Nat))]) ?_ (by rw[eH]) (by simp);clear a9 bp J γ π Μ aA eH ω aC L x y kn;(repeat (first|apply κ|(refine ν λη I=>?_;simp;(repeat (rw[δ];simp));apply I)));exact W.ret ⟨_,rfl,by rw[dA];rfl,by rw[dA]⟩
theorem fΤ (d:Array (Int×Int)) (n a b p:Nat) (Η:d.size=n) (ο:n<2 ^ 40) (iy:a<=p) (fΟ:p<b) (hb:b<=n) (an:θ) (cmp:Int×Int->Int×Int->Int) (bV:au 0 an) (Φ:∀x y,gj Tryz.prog an [az x,az y] (R (cmp x y))) :
  ak Tryz.prog 240 [.ms 0 n 0 n,R a,R b,R p,an] [.cells 112 2 ((d).toList.map az)] (λr s=>r=R (Go.Sort.partitionEqual (av cmp) d a b p).1/\s=[.cells 112 2 (((Go.Sort.partitionEqual (av cmp) d a b p).2).toList.map az)]) (λ_ _=>False):=by
 refine ak.body Ι Tryz.func240 rfl rfl Tryz.ntmps240 rfl rfl (by simp) ?_;have iq:=gY (i:=a) (by omega);have hO:=oD (i:=b) (by omega) (by omega)
 repeat apply κ
 refine ν λη I=>?_;simp;(repeat (rw[δ];simp));apply I;have a9:a<n:=by omega
 have bp:p<n:=by omega
 obtain⟨L,x,y,aC,U,Ξ,ω,⟨J,γ⟩,⟨π,Μ⟩,eH,kn,aA⟩:=jQ az Η a9 bp;refine W.to (σ':=[.cells 112 2 L]) (env':=[(0,.ms 0 n 0 n),(1,R a),(2,R b),(3,R p),(4,an)]) ?_ (by rw[aC]) (by simp);clear U Ξ
 repeat apply κ
 refine W.draw (A:=[]) Ι mixed λη I=>?_;simp;(repeat (rw[ba];simp[ω,J,γ,π,Μ,aA,a9,bp]));try rw[a']
 refine⟨bK (by kernel_rfl),I _ _ ?_⟩;refine W.to (σ':=[.cells 112 2 ((Go.Sort.swp d a p).toList.map az)]) (env':=[(0,.ms 0 n 0 n),(1,R a),(2,R b),(3,R p),(4,an)]) ?_ (by rw[eH]) (by simp);clear a9 bp J γ π Μ aA eH ω aC L x y kn;obtain⟨e,he⟩:∃e,e=Go.Sort.swp d a p:=⟨_,rfl⟩;have e4:e.size=n:=by rw[he];exact swp_size Η a p
 rw[<-he]
 repeat apply κ
 refine ν λη I=>?_;simp;(repeat (rw[δ];simp[iq,hO]));apply I;refine W.to (σ':=[.cells 112 2 ((e).toList.map az)]) (env':=[(0,.ms 0 n 0 n),(1,R a),(4,an),(11,R (a+1:Nat)),(12,R (b-1:Nat))]) ?_ rfl (by simp);obtain⟨Ω,l6⟩:∃Ω,Go.Sort.partEqLoop (av cmp) a (a+1) (b-1) e=Ω:=⟨_,rfl⟩
 repeat apply κ
 refine W.rW [(11,R Ω.1)] [.cells 112 2 ((Ω.2).toList.map az)] ?_ ?_
 ·refine W.iter (λq:Nat×Nat×Array (Int×Int)=>q.2.2.size=n/\a<q.1/\q.1<=q.2.1+1/\q.2.1<b/\Go.Sort.partEqLoop (av cmp) a q.1 q.2.1 q.2.2=Ω) (λq=>[(0,.ms 0 n 0 n),(1,R a),(4,an),(11,R (q.1:Nat)),(12,R (q.2.1:Nat))]) (λq=>[.cells 112 2 ((q.2.2).toList.map az)]) (λq=>q.2.1+1-q.1) (a+1,b-1,e) ⟨e4,by(try simp only);omega,by(try simp only);omega,by(try simp only);omega,l6⟩ rfl (by simp) (λq hi Δ=>?_);obtain⟨i,j,f⟩:=q;obtain⟨cf,mJ,jR,fp,bb⟩:=hi;simp only at cf mJ jR fp bb;obtain⟨a0,fj⟩:∃a0,Go.Sort.scanUp (λx=>!av cmp f[a]! x) f (j) (i)=a0:=⟨_,rfl⟩;obtain⟨aH,dg⟩:∃aH,Go.Sort.scanDown (λx=>av cmp f[a]! x) f a0 (j)=aH:=⟨_,rfl⟩;obtain⟨s1,s2,oK,vd,oL⟩:=Bp (λx=>!av cmp f[a]! x) (λx=>av cmp f[a]! x) (λx=>by simp) f (by omega) (by omega) fj dg;have dA:Go.Sort.partEqLoop (av cmp) a i j f=if a0 > aH then(a0,f) else Go.Sort.partEqLoop (av cmp) a (a0+1) (aH-1) (Go.Sort.swp f a0 aH):=by
   rw[Go.Sort.partEqLoop_eq];simp only[fj,dg]
  refine W.to (σ':=[.cells 112 2 ((f).toList.map az)]) (env':=[(0,.ms 0 n 0 n),(1,R a),(4,an),(11,R (i:Nat)),(12,R (j:Nat))]) ?_ rfl (by simp);refine W.block ?_
  repeat apply κ
  refine W.rW [(0,.ms 0 n 0 n),(1,R a),(4,an),(11,R (a0:Nat)),(12,R (j:Nat))] [.cells 112 2 ((f).toList.map az)] ?_ ?_
  ·refine W.iter (λi:Nat=>(i)<=i/\i<=(j)+1/\Go.Sort.scanUp (λx=>!av cmp f[a]! x) f (j) i=a0) (λi=>[(0,.ms 0 n 0 n),(1,R a),(4,an),(11,R (i:Nat)),(12,R (j:Nat))]) (λ_=>[.cells 112 2 ((f).toList.map az)]) (λi=>(j)+1-i) ((i)) ⟨Nat.le_refl _,by omega,fj⟩ rfl (by simp) (λi hi Δ=>?_);obtain⟨mJ,jR,fp⟩:=hi;by_cases ζ:i<=(j)
   ·have a9:i<n:=by omega
    have bp:a<n:=by omega
    obtain⟨L,x,y,aC,U,Ξ,ω,⟨J,γ⟩,⟨π,Μ⟩,-,-⟩:=jQ az cf a9 bp;have un:Go.Sort.scanUp (λx=>!av cmp f[a]! x) f (j) i=if(!av cmp y x)=true then Go.Sort.scanUp (λx=>!av cmp f[a]! x) f (j) (i+1) else i:=by rw[Go.Sort.scanUp];simp[ζ,U,Ξ]
    have hw:=gY (i:=i) (by omega);refine W.to (σ':=[.cells 112 2 L]) (env':=[(0,.ms 0 n 0 n),(1,R a),(4,an),(11,R (i:Nat)),(12,R (j:Nat))]) ?_ (by rw[aC]) (by simp);clear U Ξ
    repeat apply κ
    refine W.draw (A:=[]) Ι mixed λη I=>?_;simp;(repeat (rw[ba];simp[ζ,ω,J,γ,π,Μ,a9,bp]));try rw[a']
    refine fI (Φ y x) ?_;simp;(repeat (rw[ba];simp));try rw[a']
    refine⟨bK (by kernel_rfl),I _ _ ?_⟩;by_cases hm:cmp y x<0
    ·refine ah (by simp[hm]) ?_;refine W.exit rfl ?_;exact W.stop ⟨rfl,by rw[aC],by rw[<-fp,un];simp[hm,av]⟩
    ·refine aj (by simp[hm]) ?_;(repeat (first|apply κ|(refine ν λη I=>?_;simp;(repeat (rw[δ];simp[hw]));apply I)));exact W.to (Δ (i+1) ⟨by omega,by omega,by rw[<-fp,un];simp[hm,av]⟩ (by(try simp only);omega)) (by rw[aC]) (by simp[hw])
   ·repeat apply κ
    refine W.draw (A:=[]) Ι mixed λη I=>?_;simp;(repeat (rw[ba];simp[ζ]));try rw[a']
    refine⟨bK (by kernel_rfl),I _ _ ?_⟩;refine ah rfl ?_;refine W.exit rfl ?_;have e:Go.Sort.scanUp (λx=>!av cmp f[a]! x) f (j) i=i:=by rw[Go.Sort.scanUp];simp[ζ]
    exact W.stop ⟨rfl,rfl,by rw[<-fp,e];simp⟩
  repeat apply κ
  refine W.rW [(0,.ms 0 n 0 n),(1,R a),(4,an),(11,R (a0:Nat)),(12,R (aH:Nat))] [.cells 112 2 ((f).toList.map az)] ?_ ?_
  ·refine W.iter (λi:Nat=>i<=(j)/\a0<=i+1/\Go.Sort.scanDown (λx=>av cmp f[a]! x) f a0 i=aH) (λi=>[(0,.ms 0 n 0 n),(1,R a),(4,an),(11,R (a0:Nat)),(12,R (i:Nat))]) (λ_=>[.cells 112 2 ((f).toList.map az)]) (λi=>i+1-a0) ((j)) ⟨Nat.le_refl _,by omega,dg⟩ rfl (by simp) (λi hi Δ=>?_);obtain⟨mJ,jR,fp⟩:=hi;by_cases ζ:a0<=i
   ·have a9:i<n:=by omega
    have bp:a<n:=by omega
    obtain⟨L,x,y,aC,U,Ξ,ω,⟨J,γ⟩,⟨π,Μ⟩,-,-⟩:=jQ az cf a9 bp;obtain⟨q,Ρ⟩:∃q,i=q+1:=⟨i-1,by omega⟩;have un:Go.Sort.scanDown (λx=>av cmp f[a]! x) f a0 i=if(av cmp y x)=true then Go.Sort.scanDown (λx=>av cmp f[a]! x) f a0 (i-1) else i:=by subst Ρ;rw[Go.Sort.scanDown];simp[ζ,U,Ξ]
    have hw:=oD (i:=i) (by omega) (by omega);refine W.to (σ':=[.cells 112 2 L]) (env':=[(0,.ms 0 n 0 n),(1,R a),(4,an),(11,R (a0:Nat)),(12,R (i:Nat))]) ?_ (by rw[aC]) (by simp);clear U Ξ
    repeat apply κ
    refine W.draw (A:=[]) Ι mixed λη I=>?_;simp;(repeat (rw[ba];simp[ζ,ω,J,γ,π,Μ,a9,bp]));try rw[a']
    refine fI (Φ y x) ?_;simp;(repeat (rw[ba];simp));try rw[a']
    refine⟨bK (by kernel_rfl),I _ _ ?_⟩;by_cases hm:cmp y x<0
    ·refine aj (by simp[hm]) ?_;(repeat (first|apply κ|(refine ν λη I=>?_;simp;(repeat (rw[δ];simp[hw]));apply I)));exact W.to (Δ (i-1) ⟨by omega,by omega,by rw[<-fp,un];simp[hm,av]⟩ (by(try simp only);omega)) (by rw[aC]) (by simp[hw])
    ·refine ah (by simp[hm]) ?_;refine W.exit rfl ?_;exact W.stop ⟨rfl,by rw[aC],by rw[<-fp,un];simp[hm,av]⟩
   ·repeat apply κ
    refine W.draw (A:=[]) Ι mixed λη I=>?_;simp;(repeat (rw[ba];simp[ζ]));try rw[a']
    refine⟨bK (by kernel_rfl),I _ _ ?_⟩;refine ah rfl ?_;refine W.exit rfl ?_;have e:Go.Sort.scanDown (λx=>av cmp f[a]! x) f a0 i=i:=by exact Kd _ _ (by omega)
    exact W.stop ⟨rfl,rfl,by rw[<-fp,e];simp⟩
  repeat apply κ
  by_cases ζ:a0 > aH
  ·have a5:((aH:Nat):Int)<(a0:Nat):=by omega
   (repeat (first|apply κ|(refine ν λη I=>?_;simp;(repeat (rw[δ];simp[a5]));apply I)));refine aj (by simp[ζ]) ?_;refine W.exit rfl ?_;rw[dA,if_pos ζ] at bb;exact W.stop ⟨rfl,by rw[<-bb],by rw[<-bb];simp⟩
  ·have a5:¬((aH:Nat):Int)<(a0:Nat):=by omega
   have BQ:=oL (by omega)
   have jg:=gY (i:=a0) (by omega)
   have px:=oD (i:=aH) (by omega) (by omega);(repeat (first|apply κ|(refine ν λη I=>?_;simp;(repeat (rw[δ];simp[a5]));apply I)));refine ah (by simp[ζ]) ?_;have a9:a0<n:=by omega
   have bp:aH<n:=by omega
   obtain⟨L,x,y,aC,U,Ξ,ω,⟨J,γ⟩,⟨π,Μ⟩,eH,kn,aA⟩:=jQ az cf a9 bp;refine W.to (σ':=[.cells 112 2 L]) (env':=[(0,.ms 0 n 0 n),(1,R a),(4,an),(11,R (a0:Nat)),(12,R (aH:Nat))]) ?_ (by rw[aC]) (by simp);clear U Ξ
   repeat apply κ
   refine W.draw (A:=[]) Ι mixed λη I=>?_;simp;(repeat (rw[ba];simp[ω,J,γ,π,Μ,aA,a9,bp]));try rw[a']
   refine⟨bK (by kernel_rfl),I _ _ ?_⟩;refine W.to (σ':=[.cells 112 2 ((Go.Sort.swp f a0 aH).toList.map az)]) (env':=[(0,.ms 0 n 0 n),(1,R a),(4,an),(11,R (a0:Nat)),(12,R (aH:Nat))]) ?_ (by rw[eH]) (by simp);clear a9 bp J γ π Μ aA eH ω aC L x y kn;(repeat (first|apply κ|(refine ν λη I=>?_;simp;(repeat (rw[δ];simp[jg,px]));apply I)));exact W.to (Δ (a0+1,aH-1,Go.Sort.swp f a0 aH) ⟨swp_size cf a0 aH,by(try simp only);omega,by(try simp only);omega,by(try simp only);omega,by simp;rw[<-bb,dA,if_neg ζ]⟩ (by(try simp only);omega)) rfl (by simp[jg,px])
 (repeat (first|apply κ|(refine ν λη I=>?_;simp;(repeat (rw[δ];simp));apply I)));have dA:Go.Sort.partitionEqual (av cmp) d a b p=Ω:=by unfold Go.Sort.partitionEqual;rw[<-he,l6]
 exact W.ret ⟨_,rfl,by rw[dA];rfl,by rw[dA]⟩
theorem RN (d:Array (Int×Int)) (n lo hi first:Nat) (Η:d.size=n) (ο:n<2 ^ 40) (mδ:first+hi<=n) (kR:lo<=n) (an:θ) (cmp:Int×Int->Int×Int->Int) (bV:au 0 an) (Φ:∀x y,gj Tryz.prog an [az x,az y] (R (cmp x y))) :
  ak Tryz.prog 254 [.ms 0 n 0 n,R lo,R hi,R first,an] [.cells 112 2 ((d).toList.map az)] (λr s=>r=.bn []/\s=[.cells 112 2 ((Go.Sort.siftDown (av cmp) hi first lo d).toList.map az)]) (λ_ _=>False):=by
 refine ak.body Ι Tryz.func254 rfl rfl Tryz.ntmps254 rfl rfl (by simp) ?_;(repeat (first|apply κ|(refine ν λη I=>?_;simp;(repeat (rw[δ];simp));apply I)));obtain⟨Ω,l6⟩:∃Ω,Go.Sort.siftDown (av cmp) hi first lo d=Ω:=⟨_,rfl⟩
 rw[l6];refine W.iter (λq:Nat×Array (Int×Int)=>q.2.size=n/\q.1<=n/\Go.Sort.siftDown (av cmp) hi first q.1 q.2=Ω) (λq=>[(0,.ms 0 n 0 n),(2,R hi),(3,R first),(4,an),(10,R (q.1:Nat))]) (λq=>[.cells 112 2 ((q.2).toList.map az)]) (λq=>hi-q.1) (lo,d) ⟨Η,kR,l6⟩ rfl (by simp) (λq Ρ Δ=>?_);obtain⟨r,e⟩:=q;obtain⟨e4,μ,bb⟩:=Ρ;simp only at e4 μ bb;obtain⟨c,ζ⟩:∃c,c=2*r+1:=⟨_,rfl⟩;obtain⟨c1,ns⟩:∃c1,c1=c+1:=⟨_,rfl⟩;obtain⟨ar,ni⟩:∃x,x=first+r:=⟨_,rfl⟩
 obtain⟨Kz,Bu⟩:∃x,x=first+c:=⟨_,rfl⟩
 obtain⟨fd,yo⟩:∃x,x=first+(c+1):=⟨_,rfl⟩
 have w1:IntKind.i64.wrap (2*(r:Int))=2*(r:Int):=by rw[IntWalk.i64_in _ (by omega)]
 have w2:IntKind.i64.wrap (2*(r:Int)+1)=(c:Int):=by rw[IntWalk.i64_in _ (by omega)];omega
 have w3:IntKind.i64.wrap ((c:Int)+1)=(c1:Int):=by rw[IntWalk.i64_in _ (by omega)];omega
 have w4:IntKind.i64.wrap ((first:Int)+(c:Int))=(Kz:Int):=by rw[IntWalk.i64_in _ (by omega)];omega
 have yM:IntKind.i64.wrap ((Kz:Int)+1)=(fd:Int):=by rw[IntWalk.i64_in _ (by omega)];omega
 have qG:IntKind.i64.wrap ((first:Int)+(r:Int))=(ar:Int):=by rw[IntWalk.i64_in _ (by omega)];omega
 refine W.to (σ':=[.cells 112 2 ((e).toList.map az)]) (env':=[(0,.ms 0 n 0 n),(2,R hi),(3,R first),(4,an),(10,R (r:Nat))]) ?_ rfl (by simp);(repeat (first|apply κ|(refine ν λη I=>?_;simp;(repeat (rw[δ];simp[w1,w2]));apply I)));by_cases Fy:hi<=c
 ·refine aj (by simp[Fy]) ?_;refine W.exit rfl ?_;exact W.nil ⟨_,rfl,rfl,by rw[<-bb,Go.Sort.siftDown,dif_pos (by omega)]⟩
 refine ah (by simp[Fy]) ?_;obtain⟨B,e'⟩:∃B:Bool,B=(decide (c+1<hi)&&av cmp e[first+c]! e[first+(c+1)]!):=⟨_,rfl⟩;obtain⟨k,χ⟩:∃k,k=if B=true then c+1 else c:=⟨_,rfl⟩
 have mε:k<hi:=by
  rw[χ];split
  ·rename_i h;rw[h] at e';have:=e'.symm;simp at this;omega
  ·omega
 have un:=fδ (av cmp) hi first r e (k:=k) ζ (by omega) (by rw[<-e'];exact χ)
 rw[un] at bb
 repeat apply κ
 refine W.DU (A:=[]) Ι mixed [(40,a4 B),(0,.ms 0 n 0 n),(2,R hi),(3,R first),(4,an),(10,R r),(11,R c)] ?_ (by
  by_cases ml:c1<hi
  ·have a9:Kz<n:=by omega
   have bp:fd<n:=by omega
   obtain⟨L,x,y,aC,U,Ξ,ω,⟨J,γ⟩,⟨π,Μ⟩,-,-⟩:=jQ az e4 a9 bp;have KA:B=av cmp x y:=by rw[e',<-U,<-Ξ,Bu,yo];simp[<-ns,ml]
   have fΥ:(c1:Int)<hi:=by omega
   rw[aC];clear U Ξ;simp;(repeat (rw[ba];simp[w3,w4,yM,ml,fΥ,ω,J,γ,π,Μ,a9,bp]));(try rw[a']);refine fI (Φ x y) ?_;simp;(repeat (rw[ba];simp));(try rw[a']);refine⟨bK (by kernel_rfl),?_⟩;simp[KA,av]
  ·have KA:B=false:=by rw[e'];simp[<-ns,ml]
   simp;(repeat (rw[ba];simp[w3,ml]));(try rw[a']);refine⟨bK (by kernel_rfl),?_⟩;simp[KA])
 have mζ:r<k:=by rw[χ];split<;>omega
 repeat apply κ
 refine W.upto [(0,.ms 0 n 0 n),(2,R hi),(3,R first),(4,an),(10,R (r:Nat)),(11,R (k:Nat))] [.cells 112 2 ((e).toList.map az)] ?_ ?_
 ·cases B with
  | true=>
   refine aj rfl ?_;refine ν λη I=>?_;simp;(repeat (rw[δ];simp[w3]));apply I;exact W.stop ⟨rfl,rfl,by simp[χ,ns]⟩
  | false=>
   refine ah rfl ?_;refine W.skip ?_;exact W.stop ⟨rfl,rfl,by simp[χ]⟩
 obtain⟨fk,fΦ⟩:∃x,x=first+k:=⟨_,rfl⟩
 rw[<-ni,<-fΦ] at bb;have qH:IntKind.i64.wrap ((first:Int)+(k:Int))=(fk:Int):=by rw[IntWalk.i64_in _ (by omega)];omega
 have a9:ar<n:=by omega
 have bp:fk<n:=by omega
 obtain⟨L,x,y,aC,U,Ξ,ω,⟨J,γ⟩,⟨π,Μ⟩,eH,kn,aA⟩:=jQ az e4 a9 bp;rw[U,Ξ] at bb;refine W.to (σ':=[.cells 112 2 L]) (env':=[(0,.ms 0 n 0 n),(2,R hi),(3,R first),(4,an),(10,R (r:Nat)),(11,R (k:Nat))]) ?_ (by rw[aC]) (by simp);clear U Ξ
 repeat apply κ
 refine W.draw (A:=[]) Ι mixed λη I=>?_;simp;(repeat (rw[ba];simp[qG,qH,ω,J,γ,π,Μ,a9,bp]));try rw[a']
 refine fI (Φ x y) ?_;simp;(repeat (rw[ba];simp));try rw[a']
 refine⟨bK (by kernel_rfl),I _ _ ?_⟩;by_cases hm:cmp x y<0
 ·refine ah (by simp[hm]) ?_
  repeat apply κ
  refine W.draw (A:=[]) Ι mixed λη I=>?_;simp;(repeat (rw[ba];simp[qG,qH,ω,J,γ,π,Μ,aA,a9,bp]));try rw[a']
  refine⟨bK (by kernel_rfl),I _ _ ?_⟩;(repeat (first|apply κ|(refine ν λη I=>?_;simp;(repeat (rw[δ];simp));apply I)));refine W.to (Δ (k,Go.Sort.swp e ar fk) ⟨swp_size e4 ar fk,by(try simp only);omega,?_⟩ (by(try simp only);omega)) (by rw[eH]) (by simp);rw[<-bb];simp[hm,av]
 ·refine aj (by simp[hm]) ?_;(repeat (first|apply κ|(refine ν λη I=>?_;simp;(repeat (rw[δ];simp));apply I)));exact W.ret ⟨_,rfl,rfl,by rw[<-aC,<-bb];simp[hm,av]⟩
theorem fΧ (d:Array (Int×Int)) (n a b:Nat) (Η:d.size=n) (ο:n<2 ^ 40) (gL:a<b) (hb:b<=n) (an:θ) (cmp:Int×Int->Int×Int->Int) (bV:au 0 an) (Φ:∀x y,gj Tryz.prog an [az x,az y] (R (cmp x y))) :
  ak Tryz.prog 235 [.ms 0 n 0 n,R a,R b,an] [.cells 112 2 ((d).toList.map az)] (λr s=>r=.bn []/\s=[.cells 112 2 ((Go.Sort.heapSort (av cmp) d a b).toList.map az)]) (λ_ _=>False):=by
 refine ak.body Ι Tryz.func235 rfl rfl Tryz.ntmps235 rfl rfl (by simp) ?_;obtain⟨m,hm⟩:∃m,b-a=m:=⟨_,rfl⟩;have w1:IntKind.i64.wrap ((b:Int)-(a:Int))=(m:Int):=by rw[IntWalk.i64_in _ (by omega)];omega
 have w2:IntKind.i64.wrap ((m:Int)-1)=((m-1:Nat):Int):=oD (by omega) (by omega)
 have w3:IntKind.i64.wrap (((m-1:Nat):Int) / 2)=(((m-1) / 2:Nat):Int):=Ft (m:=2) (by omega);obtain⟨eN,hX⟩:∃x,x=m-1:=⟨_,rfl⟩;obtain⟨ej,hY⟩:∃x,x=(m-1) / 2:=⟨_,rfl⟩;rw[<-hY,<-hX] at w3;rw[<-hX] at w2;have wp:∀k:Nat,k<=n->IntKind.i64.wrap ((k:Int)-1)=(k:Int)-1:=λk χ=>by rw[IntWalk.i64_in _ (by omega)]
 obtain⟨pE,wQ⟩:∃Ω,Go.Sort.heapBuild (av cmp) m a (ej+1) d=Ω:=⟨_,rfl⟩;have dA:Go.Sort.heapSort (av cmp) d a b=Go.Sort.heapPop (av cmp) a m pE:=by unfold Go.Sort.heapSort;rw[hm,<-hY,wQ]
 (repeat (first|apply κ|(refine ν λη I=>?_;simp;(repeat (rw[δ];simp[w1,w2,w3]));apply I)));refine W.rW [(0,.ms 0 n 0 n),(3,an),(8,R a),(9,R 0),(10,R m)] [.cells 112 2 ((pE).toList.map az)] ?_ ?_
 ·refine W.iter (λq:Nat×Array (Int×Int)=>q.2.size=n/\q.1<=ej+1/\Go.Sort.heapBuild (av cmp) m a q.1 q.2=pE) (λq=>[(0,.ms 0 n 0 n),(3,an),(8,R a),(9,R 0),(10,R m),(11,.z (.int .i64 ((q.1:Int)-1)))]) (λq=>[.cells 112 2 ((q.2).toList.map az)]) (λq=>q.1) (ej+1,d) ⟨Η,Nat.le_refl _,wQ⟩ rfl (by simp) (λq Ρ Δ=>?_);obtain⟨k,e⟩:=q;obtain⟨e4,χ,bb⟩:=Ρ;simp only at e4 χ bb;cases k with
  | zero=>
   (repeat (first|apply κ|(refine ν λη I=>?_;simp;(repeat (rw[δ];simp));apply I)));refine ah rfl ?_;refine W.exit rfl ?_;exact W.stop ⟨rfl,by rw[<-bb];rfl,by simp⟩
  | succ k=>
   have lk:(0:Int)<=(k:Int):=by omega
   refine W.to (σ':=[.cells 112 2 ((e).toList.map az)]) (env':=[(0,.ms 0 n 0 n),(3,an),(8,R a),(9,R 0),(10,R m),(11,.z (.int .i64 ((k:Int))))]) ?_ rfl (by simp);(repeat (first|apply κ|(refine ν λη I=>?_;simp;(repeat (rw[δ];simp[lk]));apply I)));refine aj (by simp) ?_;(repeat apply κ);refine ν λη I=>?_;simp;(repeat (rw[δ];simp));refine ak.call (first:=[]) (captured:=[]) ((RN e n k m a e4 ο (by omega) (by omega) an cmp bV Φ).mono (λr s ⟨ea,dT⟩=>?_) (λ_ _ h=>h.elim));subst ea;subst dT;simp;(repeat (rw[δ];simp));apply I;(repeat (first|apply κ|(refine ν λη I=>?_;simp;(repeat (rw[δ];simp[wp k (by omega)]));apply I)));exact W.to (Δ (k,Go.Sort.siftDown (av cmp) m a k e) ⟨Kb e4,by(try simp only);omega,bb⟩ (by simp)) rfl (by simp[wp k (by omega)])
 obtain⟨m4,tg⟩:∃Ω,Go.Sort.heapPop (av cmp) a m pE=Ω:=⟨_,rfl⟩;have fΨ:pE.size=n:=by rw[<-wQ];exact Rq Η
 rw[tg] at dA;(repeat (first|apply κ|(refine ν λη I=>?_;simp;(repeat (rw[δ];simp[w2]));apply I)));refine W.iter (λq:Nat×Array (Int×Int)=>q.2.size=n/\q.1<=m/\Go.Sort.heapPop (av cmp) a q.1 q.2=m4) (λq=>[(0,.ms 0 n 0 n),(3,an),(8,R a),(9,R 0),(10,R m),(12,.z (.int .i64 ((q.1:Int)-1)))]) (λq=>[.cells 112 2 ((q.2).toList.map az)]) (λq=>q.1) (m,pE) ⟨fΨ,Nat.le_refl _,tg⟩ rfl (by simp[hX];omega) (λq Ρ Δ=>?_);obtain⟨k,e⟩:=q;obtain⟨e4,χ,bb⟩:=Ρ;simp only at e4 χ bb;cases k with
 | zero=>
  (repeat (first|apply κ|(refine ν λη I=>?_;simp;(repeat (rw[δ];simp));apply I)));refine ah rfl ?_;refine W.exit rfl ?_;exact W.nil ⟨_,rfl,rfl,by rw[dA,<-bb];rfl⟩
 | succ k=>
  have lk:(0:Int)<=(k:Int):=by omega
  obtain⟨qk,fΩ⟩:∃x,x=a+k:=⟨_,rfl⟩;have qH:IntKind.i64.wrap ((a:Int)+(k:Int))=(qk:Int):=by rw[IntWalk.i64_in _ (by omega)];omega
  refine W.to (σ':=[.cells 112 2 ((e).toList.map az)]) (env':=[(0,.ms 0 n 0 n),(3,an),(8,R a),(9,R 0),(10,R m),(12,.z (.int .i64 ((k:Int))))]) ?_ rfl (by simp);(repeat (first|apply κ|(refine ν λη I=>?_;simp;(repeat (rw[δ];simp[lk]));apply I)));refine aj (by simp) ?_;have a9:a<n:=by omega
  have bp:qk<n:=by omega
  obtain⟨L,x,y,aC,U,Ξ,ω,⟨J,γ⟩,⟨π,Μ⟩,eH,kn,aA⟩:=jQ az e4 a9 bp;refine W.to (σ':=[.cells 112 2 L]) (env':=[(0,.ms 0 n 0 n),(3,an),(8,R a),(9,R 0),(10,R m),(12,.z (.int .i64 ((k:Int))))]) ?_ (by rw[aC]) (by simp);clear U Ξ
  repeat apply κ
  refine W.draw (A:=[]) Ι mixed λη I=>?_;simp;(repeat (rw[ba];simp[ω,J,γ,π,Μ,aA,a9,bp,qH]));try rw[a']
  refine⟨bK (by kernel_rfl),I _ _ ?_⟩;refine W.to (σ':=[.cells 112 2 ((Go.Sort.swp e a qk).toList.map az)]) (env':=[(0,.ms 0 n 0 n),(3,an),(8,R a),(9,R 0),(10,R m),(12,.z (.int .i64 ((k:Int))))]) ?_ (by rw[eH]) (by simp);clear a9 bp J γ π Μ aA eH ω aC L x y kn;(repeat apply κ);refine ν λη I=>?_;simp;(repeat (rw[δ];simp));refine ak.call (first:=[]) (captured:=[]) ((RN (Go.Sort.swp e a qk) n 0 k a (swp_size e4 a qk) ο (by omega) (by omega) an cmp bV Φ).mono (λr s ⟨ea,dT⟩=>?_) (λ_ _ h=>h.elim));subst ea;subst dT;simp;(repeat (rw[δ];simp));apply I;(repeat (first|apply κ|(refine ν λη I=>?_;simp;(repeat (rw[δ];simp[wp k (by omega)]));apply I)));exact W.to (Δ (k,Go.Sort.siftDown (av cmp) k a 0 (Go.Sort.swp e a qk)) ⟨Kb (swp_size e4 a qk),by(try simp only);omega,by rw[fΩ];exact bb⟩ (by simp)) rfl (by simp[wp k (by omega)])
theorem gα (d:Array (Int×Int)) (n a b:Nat) (Η:d.size=n) (ο:n<2 ^ 40) (gL:a<b) (hb:b<=n) (an:θ) (cmp:Int×Int->Int×Int->Int) (bV:au 0 an) (Φ:∀x y,gj Tryz.prog an [az x,az y] (R (cmp x y))) :
  ak Tryz.prog 238 [.ms 0 n 0 n,R a,R b,an] [.cells 112 2 ((d).toList.map az)] (λr s=>r=.bn []/\s=[.cells 112 2 ((Go.Sort.reverseRange d a b).toList.map az)]) (λ_ _=>False):=by
 refine ak.body Ι Tryz.func238 rfl rfl Tryz.ntmps238 rfl rfl (by simp) ?_;have w1:=oD (i:=b) (by omega) (by omega);(repeat (first|apply κ|(refine ν λη I=>?_;simp;(repeat (rw[δ];simp[w1]));apply I)));refine W.iter (λq:Nat×Nat×Array (Int×Int)=>q.2.2.size=n/\q.1<n/\q.2.1<n/\Go.Sort.reverseLoop q.1 q.2.1 q.2.2=Go.Sort.reverseRange d a b) (λq=>[(0,.ms 0 n 0 n),(8,R (q.1:Nat)),(9,R (q.2.1:Nat))]) (λq=>[.cells 112 2 ((q.2.2).toList.map az)]) (λq=>q.2.1-q.1) (a,b-1,d) ⟨Η,by(try simp only);omega,by(try simp only);omega,rfl⟩ rfl (by simp[w1]) (λq Ρ Δ=>?_);obtain⟨i,j,e⟩:=q;obtain⟨e4,hi,ε,bb⟩:=Ρ;simp only at e4 hi ε bb;rw[Go.Sort.reverseLoop] at bb;refine W.to (σ':=[.cells 112 2 ((e).toList.map az)]) (env':=[(0,.ms 0 n 0 n),(8,R (i:Nat)),(9,R (j:Nat))]) ?_ rfl (by simp);(repeat (first|apply κ|(refine ν λη I=>?_;simp;(repeat (rw[δ];simp));apply I)));by_cases ζ:i<j
 ·refine aj (by simp[ζ]) ?_;rw[if_pos ζ] at bb;have w2:=gY (i:=i) (by omega);have w3:=oD (i:=j) (by omega) (by omega);have a9:i<n:=by omega
  have bp:j<n:=by omega
  obtain⟨L,x,y,aC,U,Ξ,ω,⟨J,γ⟩,⟨π,Μ⟩,eH,kn,aA⟩:=jQ az e4 a9 bp;refine W.to (σ':=[.cells 112 2 L]) (env':=[(0,.ms 0 n 0 n),(8,R (i:Nat)),(9,R (j:Nat))]) ?_ (by rw[aC]) (by simp);clear U Ξ
  repeat apply κ
  refine W.draw (A:=[]) Ι mixed λη I=>?_;simp;(repeat (rw[ba];simp[ω,J,γ,π,Μ,aA,a9,bp]));try rw[a']
  refine⟨bK (by kernel_rfl),I _ _ ?_⟩;refine W.to (σ':=[.cells 112 2 ((Go.Sort.swp e i j).toList.map az)]) (env':=[(0,.ms 0 n 0 n),(8,R (i:Nat)),(9,R (j:Nat))]) ?_ (by rw[eH]) (by simp);clear a9 bp J γ π Μ aA eH ω aC L x y kn;(repeat (first|apply κ|(refine ν λη I=>?_;simp;(repeat (rw[δ];simp[w2,w3]));apply I)));exact W.to (Δ (i+1,j-1,Go.Sort.swp e i j) ⟨swp_size e4 i j,by(try simp only);omega,by(try simp only);omega,bb⟩ (by(try simp only);omega)) rfl (by simp[w2,w3])
 ·refine ah (by simp[ζ]) ?_;refine W.exit rfl ?_;rw[if_neg ζ] at bb;exact W.nil ⟨_,rfl,rfl,by rw[bb]⟩
theorem KB (d:Array (Int×Int)) (n a b s:Nat) (Η:d.size=n) (ξ:a<n) (hb:b<n) (ο:s<2 ^ 40) (an:θ) (cmp:Int×Int->Int×Int->Int) (bV:au 0 an) (Φ:∀x y,gj Tryz.prog an [az x,az y] (R (cmp x y))) :
  ak Tryz.prog 258 [.ms 0 n 0 n,R a,R b,.al 1 1 0 0,an] [.cells 112 2 (d.toList.map az),.cells 3 1 [R s]] (λr σ=>r=.bn [R (Go.Sort.order2 (av cmp) d a b s).1,R (Go.Sort.order2 (av cmp) d a b s).2.1]/\σ=[.cells 112 2 (d.toList.map az),.cells 3 1 [R (Go.Sort.order2 (av cmp) d a b s).2.2]]) (λ_ _=>False):=by
 refine ak.body Ι Tryz.func258 rfl rfl Tryz.ntmps258 rfl rfl (by simp) ?_;obtain⟨L,aC⟩:∃L,L=d.toList.map az:=⟨_,rfl⟩;have jH:L.length=n:=by rw[aC];simpa using Η
 obtain⟨x,U⟩:∃x,x=d[a]!:=⟨_,rfl⟩;obtain⟨y,Ξ⟩:∃y,y=d[b]!:=⟨_,rfl⟩;have KC:L[a]?=some (az x):=by rw[aC,U,List.getElem?_map,Array.getElem?_toList,sQ (by omega)];rfl
 have s3:L[b]?=some (az y):=by rw[aC,Ξ,List.getElem?_map,Array.getElem?_toList,sQ (by omega)];rfl
 have gβ:∀h:a<L.length,L[a]=az x:=λh=>by have:=KC;rw[aW h] at this;exact Option.some.inj this
 have gγ:∀h:b<L.length,L[b]=az y:=λh=>by have:=s3;rw[aW h] at this;exact Option.some.inj this
 have hw:IntKind.i64.wrap ((s:Int)+1)=((s+1:Nat):Int):=by rw[IntWalk.i64_in _ (by omega)];omega
 have Γ:Go.Sort.order2 (av cmp) d a b s=if av cmp y x=true then(b,a,s+1) else(a,b,s):=by unfold Go.Sort.order2;rw[<-U,<-Ξ]
 rw[Γ,<-aC];clear aC U Ξ Γ;(repeat (first|apply κ|(refine ν λη I=>?_;simp;(repeat (rw[δ];simp));apply I)));refine W.draw (A:=[]) Ι mixed λη I=>?_;simp;(repeat (rw[ba];simp[jH,KC,s3,gβ,gγ]));try rw[a']
 refine⟨hb,ξ,?_⟩;refine fI (Φ y x) ?_;simp;(repeat (rw[ba];simp));try rw[a']
 refine⟨bK (by kernel_rfl),I _ _ ?_⟩;by_cases hm:cmp y x<0
 ·refine aj (by simp[hm]) ?_;(repeat (first|apply κ|(refine ν λη I=>?_;simp;(repeat (rw[δ];simp[hw]));apply I)));exact W.ret ⟨_,rfl,by simp[av,Go.Sort.ltInt,hm],by simp[av,Go.Sort.ltInt,hm]⟩
 ·refine ah (by simp[hm]) ?_;(repeat (first|apply κ|(refine ν λη I=>?_;simp;(repeat (rw[δ];simp[hw]));apply I)));exact W.ret ⟨_,rfl,by simp[av,Go.Sort.ltInt,hm],by simp[av,Go.Sort.ltInt,hm]⟩
end Go.TL
