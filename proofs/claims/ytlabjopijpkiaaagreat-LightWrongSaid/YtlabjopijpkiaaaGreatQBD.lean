import Derived.Test.YtlabjopijpkiaaaGreatQAP
import Derived.Test.YtlabjopijpkiaaaGreatQBB
import Derived.Test.YtlabjopijpkiaaaGreatQBC
set_option maxHeartbeats 16000000
set_option maxRecDepth 20000
set_option linter.unusedSectionVars false
set_option linter.unusedSimpArgs false
set_option linter.unusedVariables false
namespace Go.TL
open Go.Proofs
variable [bn]
theorem dΜ (l:List Int) (n:Int) (Α:l.length<2 ^ 62):az Tryz.prog 112 [bf R 1 l,R n] (bA (l.contains n)):=
 (Wm l n Α).mono (λ_ _ ⟨J,γ⟩=>⟨.of J,γ⟩) (λ_ _ h=>h)
abbrev rP (s:aR) (V:θ):List Row:=[eH bE bE bE,eH (aQ s.ai) (aN s.ao) V]
theorem dΝ (s:aR) (l:List Int) (Α:l.length<2 ^ 20) (Ke:s.cells.length<2 ^ 20) (pg:∀x∈s.cells,x.length<2 ^ 20) :
  az Tryz.prog 60 [d' s,bf R 1 l] (d' (s.lW l)):=by
 refine ak.body Κ Tryz.func60 rfl rfl Tryz.ntmps60 rfl rfl (by simp) ?_
 repeat apply κ
 refine c7 (A:=[4]) Κ λη I=>?_;simp;(repeat (rw[δ];simp));apply I
 repeat apply κ
 refine c7 (A:=[5]) Κ λη I=>?_;simp;(repeat (rw[δ];simp));apply I;(repeat (first|apply κ|(refine ξ λη I=>?_;simp;(repeat (rw[δ];simp));apply I)));have kz:=λc=>Fx s.cells pg c;refine W.iter (λc:Nat=>c<=s.cells.length) (λc=>[(1,bf R 1 l),(2,.ad [aQ s.ai,aN s.ao,bl s.cells]),(4,.Ψ 0 1 0 0),(5,.Ψ 1 1 0 0),(6,R (fs s.cells c)),(7,R c)]) (λc=>rP s (aX 2 ((List.range c).map (jP l s.cells)))++aL 60 1 ((List.range c).map (jP l s.cells))) (λc=>s.cells.length-c) 0 (Nat.zero_le _) (by simp[h6,aX]) (by simp[fs]) (λc ζ Δ=>?_);obtain⟨O,cj⟩:∃O,O=(List.range c).map (jP l s.cells):=⟨_,rfl⟩;have yU:∀e∈O,∀a∈e.cells,av 0 a:=by rw[cj];exact QG
 refine W.to (σ':=rP s (aX 2 O)++aL 60 1 O) (env':=[(1,bf R 1 l),(2,.ad [aQ s.ai,aN s.ao,bl s.cells]),(4,.Ψ 0 1 0 0),(5,.Ψ 1 1 0 0),(6,R (fs s.cells c)),(7,R c)]) ?_ (by rw[cj]) (by simp);(repeat (first|apply κ|(refine ξ λη I=>?_;simp;(repeat (rw[δ];simp));apply I)));by_cases bj:c<s.cells.length
 ·refine al (by simp[bj]) ?_;have fV:=a2 bj;have eX:=pg _ (List.getElem_mem bj);have BC:=yT s.cells bj;have rF:=kz c;have wX:rN l s.cells c=hT l (fs s.cells c) s.cells[c] s.cells[c].length:=by
   unfold rN;rw[List.getD_eq_getElem?_getD,fV];rfl
  obtain⟨ae,g7⟩:∃x,x=s.cells[c]:=⟨_,rfl⟩;rw[<-g7] at fV eX BC wX;have kx:∀h,s.cells[c]'h=ae:=λh=>g7.symm;obtain⟨o,Γ⟩:∃x,x=fs s.cells c:=⟨_,rfl⟩;have py:c*2 ^ 20<2 ^ 40:=by
   have:c*2 ^ 20<2 ^ 20*2 ^ 20:=Nat.mul_lt_mul_of_pos_right (by omega) (by decide);exact this
  rw[<-Γ] at BC wX rF ⊢;have hw:=gH (i:=c) (by omega);obtain⟨k,χ⟩:∃k,k=(rP s (aX 2 O)++aL 60 1 O).length:=⟨_,rfl⟩;have uU:(aX 2 O=.sl true 0 []/\aL 60 1 O=[]/\O=[])\/(aX 2 O=.ms 2 O.length 0 O.length/\aL 60 1 O=[.cells 60 1 O]/\O≠[]):=by
   by_cases Η:O=[]
   ·exact .inl ⟨by rw[Η];rfl,by rw[Η];rfl,Η⟩
   ·exact .inr ⟨fi Η,c8 Η,Η⟩
  obtain⟨V,hp⟩:∃V,V=aX 2 O:=⟨_,rfl⟩;have dΞ:∀h,3<=h\/O=[]->av h V:=λh aS=>by
   rw[hp];refine AI λΗ=>?_;rcases aS with aS|aS
   ·omega
   ·exact absurd aS Η
  have jπ:V.cells=[V]:=by rw[hp];unfold aX;split<;>rfl
  rw[<-hp] at χ uU ⊢;have dΟ:∀h,3<=h\/O=[]->∀r∈rP s V++aL 60 1 O,ek h r:=λh aS r μ=>by
   rcases List.mem_append.1 μ with μ|μ
   ·simp only[List.mem_cons,List.not_mem_nil,or_false] at μ;rcases μ with rfl|rfl
    ·intro e he a ν;simp[θ.cells] at he;subst he;simp[θ.cells] at ν;subst ν;simp
    ·intro e he a ν;simp[θ.cells] at he;subst he;simp[θ.cells] at ν;rcases ν with rfl|rfl|rfl
     ·simp
     ·simp
     ·exact dΞ h aS
   ·exact sI yU r μ
  (repeat (first|apply κ|(refine ξ λη I=>?_;simp;(repeat (rw[δ];simp[bj,fV,kx]));apply I)));refine W.iter (λi:Nat=>i<=ae.length) (λi=>[(1,bf R 1 l),(2,.ad [aQ s.ai,aN s.ao,bl s.cells]),(4,.Ψ 0 1 0 0),(5,.Ψ 1 1 0 0),(6,R ((o+i:Nat))),(7,R c),(8,aX k ((hT l o ae i).map cw)),(9,R i)]) (λi=>rP s V++aL 60 1 O++aL 28 3 ((hT l o ae i).map cw)) (λi=>ae.length-i) 0 (Nat.zero_le _) (by rw[Fv];simp[h6]) (by rw[Fv];simp[aX]) (λi hi eg=>?_);have wY:=QF l o ae i;obtain⟨M,cd⟩:∃M,M=hT l o ae i:=⟨_,rfl⟩;rw[<-cd] at wY;obtain⟨q,Χ⟩:∃q,q=o+i:=⟨_,rfl⟩;refine W.to (σ':=rP s V++aL 60 1 O++aL 28 3 (M.map cw)) (env':=[(1,bf R 1 l),(2,.ad [aQ s.ai,aN s.ao,bl s.cells]),(4,.Ψ 0 1 0 0),(5,.Ψ 1 1 0 0),(6,R q),(7,R c),(8,aX k (M.map cw)),(9,R i)]) ?_ (by rw[cd]) (by rw[cd,Χ];simp);(repeat (first|apply κ|(refine ξ λη I=>?_;simp;(repeat (rw[δ];simp[bj,fV,kx]));apply I)));by_cases e8:i<ae.length
  ·refine al (by simp[e8]) ?_;have dc:=Fw l o ae e8;rw[<-cd,<-Χ] at dc;have uT:=a2 e8;obtain⟨x,U⟩:∃x,x=ae[i]:=⟨_,rfl⟩;rw[<-U] at uT dc;have yV:∀h,ae[i]'h=x:=λh=>U.symm;have fL:=gH (i:=i) (by omega);have gw:=gH (i:=q) (by omega);have tg:q+1=o+(i+1):=by omega
   (repeat apply κ);refine ξ λη I=>?_;simp;(repeat (rw[δ];simp));refine az.c (dΜ l q (by omega)) (aK.refl _) (by simp) (by simp) ?_;simp;(repeat (rw[δ];simp));apply I
   repeat apply κ
   by_cases bb:(q:Int)∈l
   ·have hr:l.contains (q:Int)=true:=by simpa using bb
    rw[if_pos hr,List.append_nil] at dc;refine aj (by simp[bb]) ?_;(repeat (first|apply κ|(refine ξ λη I=>?_;simp;(repeat (rw[δ];simp[fL,gw]));apply I)));refine W.to (eg (i+1) (by omega) (by omega)) (by rw[dc];simp) ?_;rw[dc,<-tg];simp
   ·have hr:¬l.contains (q:Int)=true:=by simpa using bb
    rw[if_neg hr] at dc;refine al (by simp[bb]) ?_
    repeat apply κ
    obtain⟨Y,lT⟩:∃Y,Y=aL 60 1 O:=⟨_,rfl⟩;rw[<-lT] at χ;rw[<-lT];have Kv:∀r:Row,(eH bE bE bE::eH (aQ s.ai) (aN s.ao) V::(Y++[r]))[k]?=some r:=λr=>by rw[χ];simp
    have Q4:∀r r':Row,(eH bE bE bE::eH (aQ s.ai) (aN s.ao) V::(Y++[r])).set k r'=eH bE bE bE::eH (aQ s.ai) (aN s.ao) V::(Y++[r']):=λr r'=>by rw[χ];simp
    refine W.fC (A:=[43]) Κ [(1,bf R 1 l),(2,.ad [aQ s.ai,aN s.ao,bl s.cells]),(4,.Ψ 0 1 0 0),(5,.Ψ 1 1 0 0),(6,R q),(7,R c),(8,aX k ((M++[x]).map cw)),(9,R i)] (rP s V++Y++aL 28 3 ((M++[x]).map cw)) ?_ (by
     clear eg Δ;by_cases Η:M=[]
     ·subst Η;have Ε:aX k (([]:List di).map cw)=.sl true 0 []:=rfl;have Ζ:aL 28 3 (([]:List di).map cw)=[]:=rfl;rw[Ε,Ζ];simp only[List.append_nil];(try simp);(repeat (rw[δ];simp[bj,fV,kx,e8,uT,yV]));(try simp[bj,fV,kx,e8,uT,yV]);simp[aX,aL,χ]
     ·have gK:M.map cw≠[]:=by simpa using Η
      rw[fi gK,c8 gK];have k5:M.length<=4294967295:=by omega
      (try simp);(repeat (rw[δ];simp[bj,fV,kx,e8,uT,yV,Kv,Q4,k5]));(try simp[bj,fV,kx,e8,uT,yV,Kv,Q4,k5]);simp[aX,aL])
    rw[lT];(repeat (first|apply κ|(refine ξ λη I=>?_;simp;(repeat (rw[δ];simp[fL,gw]));apply I)));refine W.to (eg (i+1) (by omega) (by omega)) (by rw[dc];simp) ?_;rw[dc,<-tg];simp
  ·refine aj (by simp[e8]) ?_;have dA:i=ae.length:=by omega
   subst dA;refine W.exit rfl ?_;refine W.to (σ':=rP s V++aL 60 1 O++aL 28 3 (M.map cw)) (env':=[(1,bf R 1 l),(2,.ad [aQ s.ai,aN s.ao,bl s.cells]),(4,.Ψ 0 1 0 0),(5,.Ψ 1 1 0 0),(6,R q),(7,R c),(8,aX k (M.map cw))]) ?_ (by simp) (by simp);refine W.cut (rP s V++aL 60 1 O).length (by simp) [(1,bf R 1 l),(2,.ad [aQ s.ai,aN s.ao,bl s.cells]),(4,.Ψ 0 1 0 0),(5,.Ψ 1 1 0 0),(6,R q),(7,R c),(8,dk 3 (M.map cw))] (by simp) ?_ ?_ ?_
   ·intro id r bS μ;rw[ea bS] at μ;refine dΟ _ ?_ r (cv μ);by_cases Η:O=[]
    ·exact .inr Η
    ·rw[c8 Η];exact .inl (by simp)
   ·intro z Η;simp only[List.mem_cons,List.not_mem_nil,or_false] at Η;rcases Η with rfl|rfl|rfl|rfl|rfl|rfl|rfl
    ·exact .low (by simp)
    ·exact .low (by simp)
    ·exact .low (hM.2 (by simp))
    ·exact .low (hM.2 (by simp))
    ·exact .low (by simp)
    ·exact .low (by simp)
    ·refine p6 (t:=28) (by rw[χ];exact Nat.le_refl _) (λΗ=>?_) (λe he a ν=>av.mono (Fy e he a ν) (Nat.zero_le _));rw[c8 Η,χ];simp
   have BD:q=fs s.cells (c+1):=by omega
   have mh:O++[jP l s.cells c]=(List.range (c+1)).map (jP l s.cells):=by rw[cj,List.range_succ,List.map_append];rfl
   have Kg:jP l s.cells c=dk 3 (M.map cw):=by unfold jP;rw[wX,cd]
   rw[Kg] at mh;rw[List.take_left];obtain⟨x,U⟩:∃x,x=dk 3 (M.map cw):=⟨_,rfl⟩;obtain⟨ph,wZ,nC,w5⟩:=yh 3 (M.map cw);rw[<-U] at mh w5 ⊢
   repeat apply κ
   refine W.fC (A:=[50]) Κ [(1,bf R 1 l),(2,.ad [aQ s.ai,aN s.ao,bl s.cells]),(4,.Ψ 0 1 0 0),(5,.Ψ 1 1 0 0),(6,R q),(7,R c)] (rP s (aX 2 (O++[x]))++aL 60 1 (O++[x])) ?_ (by
    have Fz:O.length<=4294967295:=by rw[cj];simp;omega
    clear Δ eg mh hp;rcases uU with⟨Ε,Ζ,a6⟩|⟨Ε,Ζ,a6⟩
    ·rw[Ζ,Ε,a6,w5];(try simp);(repeat (rw[δ];simp));(try simp[]);simp[aX,aL]
    ·rw[Ζ,Ε,w5];(try simp);(repeat (rw[δ];simp[Fz]));(try simp[Fz]);simp[aX,aL])
   (repeat (first|apply κ|(refine ξ λη I=>?_;simp;(repeat (rw[δ];simp[hw]));apply I)));exact W.to (Δ (c+1) (by omega) (by omega)) (by rw[mh];simp) (by rw[<-BD];simp)
 ·refine aj (by simp[bj]) ?_;have n9:c=s.cells.length:=by omega
  refine W.exit rfl ?_
  repeat apply κ
  obtain⟨V,hp⟩:∃V,V=aX 2 O:=⟨_,rfl⟩;obtain⟨X,hh⟩:∃X,X=aL 60 1 O:=⟨_,rfl⟩;have uU:(V=.sl true 0 []/\X=[])\/(V=.ms 2 O.length 0 O.length/\X=[.cells 60 1 O]):=by
   by_cases Η:O=[]
   ·exact .inl ⟨by rw[hp,Η];rfl,by rw[hh,Η];rfl⟩
   ·exact .inr ⟨by rw[hp,fi Η],by rw[hh,c8 Η]⟩
  rw[<-hp,<-hh];refine W.fC (A:=[]) Κ [(4,.Ψ 0 1 0 0)] (eH (aQ s.ai) (aN s.ao) V::eH (aQ s.ai) (aN s.ao) V::X) ?_ (by
   rcases uU with⟨Ε,Ζ⟩|⟨Ε,Ζ⟩<;>(rw[Ε,Ζ];(try simp);(repeat (rw[δ];simp));(try simp[])))
  refine W.cut 0 (Nat.zero_le _) [(4,.ad [aQ s.ai,aN s.ao,dk 1 O])] (by simp) (λid r h=>by omega) ?_ ?_
  ·intro z Η;simp only[List.mem_cons,List.not_mem_nil,or_false] at Η;subst Η;refine .struct (id:=0) (by decide) (show _=some (Row.cells _ _ [.aW _]) from rfl) rfl λx a b9 J γ=>?_
   match x with
   | 0=>simp at J γ;subst J;subst γ;exact .low (by simp)
   | 1=>simp at J γ;subst J;subst γ;exact .low (by simp)
   | 2=>
    simp at J γ;subst J;subst γ;rw[hp];refine p6 (t:=60) (by decide) (λΗ=>?_) (λe he a ν=>yU e he a ν);rw[hh,c8 Η];rfl
   | x+3=>simp at γ
  ·repeat apply κ
   refine W.ret ⟨_,rfl,?_,rfl⟩;show cC (.aW [aQ s.ai,aN s.ao,dk 1 O]) _;refine .aW (.cons (.refl _) (.cons (.refl _) (.cons ?_ .nil)));rw[cj,n9];refine .trans cC.acc ?_;show cC (.sl false 1 ((List.range s.cells.length).map (jP l s.cells))) (.sl false 1 (((List.range s.cells.length).map (rN l s.cells)).map je));rw[List.map_map];exact .map λc _=>.one cC.acc (by unfold jP dk;split<;>rfl) rfl
theorem dΡ (d:Array (Int×Int)) (n a b p:Nat) (Ι:d.size=n) (ο:n<2 ^ 40) (iG:a<=p) (dΤ:p<b) (hb:b<=n) (an:θ) (cmp:Int×Int->Int×Int->Int) (bR:av 0 an) (Τ:∀x y,gj Tryz.prog an [aA x,aA y] (R (cmp x y))) :
  ak Tryz.prog 241 [.ms 0 n 0 n,R a,R b,R p,an] [.cells 112 2 ((d).toList.map aA)] (λr s=>r=.bu [R (Go.Sort.partition (ax cmp) d a b p).1,bA (Go.Sort.partition (ax cmp) d a b p).2.1]/\s=[.cells 112 2 (((Go.Sort.partition (ax cmp) d a b p).2.2).toList.map aA)]) (λ_ _=>False):=by
 refine ak.body Κ Tryz.func241 rfl rfl Tryz.ntmps241 rfl rfl (by simp) ?_;have fL:=gH (i:=a) (by omega);have gw:=oi (i:=b) (by omega) (by omega)
 repeat apply κ
 refine ξ λη I=>?_;simp;(repeat (rw[δ];simp));apply I;have a9:a<n:=by omega
 have bp:p<n:=by omega
 obtain⟨L,x,y,aD,U,Ο,Α,⟨J,γ⟩,⟨π,Μ⟩,er,j9,aB⟩:=jO aA Ι a9 bp;refine W.to (σ':=[.cells 112 2 L]) (env':=[(0,.ms 0 n 0 n),(1,R a),(2,R b),(3,R p),(4,an)]) ?_ (by rw[aD]) (by simp);clear U Ο
 repeat apply κ
 refine W.draw (A:=[]) Κ mixed λη I=>?_;simp;(repeat (rw[bD];simp[Α,J,γ,π,Μ,aB,a9,bp]));try rw[bC]
 refine⟨bW (by kernel_rfl),I _ _ ?_⟩;refine W.to (σ':=[.cells 112 2 ((Go.Sort.swp d a p).toList.map aA)]) (env':=[(0,.ms 0 n 0 n),(1,R a),(2,R b),(3,R p),(4,an)]) ?_ (by rw[er]) (by simp);clear a9 bp J γ π Μ aB er Α aD L x y j9;obtain⟨e,he⟩:∃e,e=Go.Sort.swp d a p:=⟨_,rfl⟩;have eP:e.size=n:=by rw[he];exact swp_size Ι a p
 rw[<-he]
 repeat apply κ
 refine ξ λη I=>?_;simp;(repeat (rw[δ];simp[fL,gw]));apply I;refine W.to (σ':=[.cells 112 2 ((e).toList.map aA)]) (env':=[(0,.ms 0 n 0 n),(1,R a),(4,an),(12,R (a+1:Nat)),(13,R (b-1:Nat))]) ?_ rfl (by simp);obtain⟨a0,fr⟩:∃a0,Go.Sort.scanUp (λx=>ax cmp x e[a]!) e (b-1) (a+1)=a0:=⟨_,rfl⟩;obtain⟨aI,dn⟩:∃aI,Go.Sort.scanDown (λx=>!ax cmp x e[a]!) e a0 (b-1)=aI:=⟨_,rfl⟩;obtain⟨s1,s2,ot,u7,ou⟩:=BB (λx=>ax cmp x e[a]!) (λx=>!ax cmp x e[a]!) (λx=>rfl) e (by omega) (by omega) fr dn;have dF:Go.Sort.partition (ax cmp) d a b p=if a0 > aI then(aI,true,Go.Sort.swp e aI a) else((Go.Sort.partLoop (ax cmp) a (a0+1) (aI-1) (Go.Sort.swp e a0 aI)).1,false,Go.Sort.swp (Go.Sort.partLoop (ax cmp) a (a0+1) (aI-1) (Go.Sort.swp e a0 aI)).2 (Go.Sort.partLoop (ax cmp) a (a0+1) (aI-1) (Go.Sort.swp e a0 aI)).1 a):=by
  unfold Go.Sort.partition;simp only[<-he,fr,dn]
 repeat apply κ
 repeat apply κ
 refine W.rM [(0,.ms 0 n 0 n),(1,R a),(4,an),(12,R (a0:Nat)),(13,R (b-1:Nat))] [.cells 112 2 ((e).toList.map aA)] ?_ ?_
 ·refine W.iter (λi:Nat=>(a+1)<=i/\i<=(b-1)+1/\Go.Sort.scanUp (λx=>ax cmp x e[a]!) e (b-1) i=a0) (λi=>[(0,.ms 0 n 0 n),(1,R a),(4,an),(12,R (i:Nat)),(13,R (b-1:Nat))]) (λ_=>[.cells 112 2 ((e).toList.map aA)]) (λi=>(b-1)+1-i) ((a+1)) ⟨Nat.le_refl _,by omega,fr⟩ rfl (by simp) (λi hi Δ=>?_);obtain⟨n0,nE,gu⟩:=hi;by_cases ζ:i<=(b-1)
  ·have a9:i<n:=by omega
   have bp:a<n:=by omega
   obtain⟨L,x,y,aD,U,Ο,Α,⟨J,γ⟩,⟨π,Μ⟩,-,-⟩:=jO aA eP a9 bp;have un:Go.Sort.scanUp (λx=>ax cmp x e[a]!) e (b-1) i=if(ax cmp x y)=true then Go.Sort.scanUp (λx=>ax cmp x e[a]!) e (b-1) (i+1) else i:=by rw[Go.Sort.scanUp];simp[ζ,U,Ο]
   have hw:=gH (i:=i) (by omega);refine W.to (σ':=[.cells 112 2 L]) (env':=[(0,.ms 0 n 0 n),(1,R a),(4,an),(12,R (i:Nat)),(13,R (b-1:Nat))]) ?_ (by rw[aD]) (by simp);clear U Ο
   repeat apply κ
   refine W.draw (A:=[]) Κ mixed λη I=>?_;simp;(repeat (rw[bD];simp[ζ,Α,J,γ,π,Μ,a9,bp]));try rw[bC]
   refine gU (Τ x y) ?_;simp;(repeat (rw[bD];simp));try rw[bC]
   refine⟨bW (by kernel_rfl),I _ _ ?_⟩;by_cases hm:cmp x y<0
   ·refine al (by simp[hm]) ?_;(repeat (first|apply κ|(refine ξ λη I=>?_;simp;(repeat (rw[δ];simp[hw]));apply I)));exact W.to (Δ (i+1) ⟨by omega,by omega,by rw[<-gu,un];simp[hm,ax]⟩ (by(try simp only);omega)) (by rw[aD]) (by simp[hw])
   ·refine aj (by simp[hm]) ?_;refine W.exit rfl ?_;exact W.stop ⟨rfl,by rw[aD],by rw[<-gu,un];simp[hm,ax]⟩
  ·repeat apply κ
   refine W.draw (A:=[]) Κ mixed λη I=>?_;simp;(repeat (rw[bD];simp[ζ]));try rw[bC]
   refine⟨bW (by kernel_rfl),I _ _ ?_⟩;refine aj rfl ?_;refine W.exit rfl ?_;have e:Go.Sort.scanUp (λx=>ax cmp x e[a]!) e (b-1) i=i:=by rw[Go.Sort.scanUp];simp[ζ]
   exact W.stop ⟨rfl,rfl,by rw[<-gu,e];simp⟩
 repeat apply κ
 refine W.rM [(0,.ms 0 n 0 n),(1,R a),(4,an),(12,R (a0:Nat)),(13,R (aI:Nat))] [.cells 112 2 ((e).toList.map aA)] ?_ ?_
 ·refine W.iter (λi:Nat=>i<=(b-1)/\a0<=i+1/\Go.Sort.scanDown (λx=>!ax cmp x e[a]!) e a0 i=aI) (λi=>[(0,.ms 0 n 0 n),(1,R a),(4,an),(12,R (a0:Nat)),(13,R (i:Nat))]) (λ_=>[.cells 112 2 ((e).toList.map aA)]) (λi=>i+1-a0) ((b-1)) ⟨Nat.le_refl _,by omega,dn⟩ rfl (by simp) (λi hi Δ=>?_);obtain⟨n0,nE,gu⟩:=hi;by_cases ζ:a0<=i
  ·have a9:i<n:=by omega
   have bp:a<n:=by omega
   obtain⟨L,x,y,aD,U,Ο,Α,⟨J,γ⟩,⟨π,Μ⟩,-,-⟩:=jO aA eP a9 bp;obtain⟨q,Χ⟩:∃q,i=q+1:=⟨i-1,by omega⟩;have un:Go.Sort.scanDown (λx=>!ax cmp x e[a]!) e a0 i=if(!ax cmp x y)=true then Go.Sort.scanDown (λx=>!ax cmp x e[a]!) e a0 (i-1) else i:=by subst Χ;rw[Go.Sort.scanDown];simp[ζ,U,Ο]
   have hw:=oi (i:=i) (by omega) (by omega);refine W.to (σ':=[.cells 112 2 L]) (env':=[(0,.ms 0 n 0 n),(1,R a),(4,an),(12,R (a0:Nat)),(13,R (i:Nat))]) ?_ (by rw[aD]) (by simp);clear U Ο
   repeat apply κ
   refine W.draw (A:=[]) Κ mixed λη I=>?_;simp;(repeat (rw[bD];simp[ζ,Α,J,γ,π,Μ,a9,bp]));try rw[bC]
   refine gU (Τ x y) ?_;simp;(repeat (rw[bD];simp));try rw[bC]
   refine⟨bW (by kernel_rfl),I _ _ ?_⟩;by_cases hm:cmp x y<0
   ·refine aj (by simp[hm]) ?_;refine W.exit rfl ?_;exact W.stop ⟨rfl,by rw[aD],by rw[<-gu,un];simp[hm,ax]⟩
   ·refine al (by simp[hm]) ?_;(repeat (first|apply κ|(refine ξ λη I=>?_;simp;(repeat (rw[δ];simp[hw]));apply I)));exact W.to (Δ (i-1) ⟨by omega,by omega,by rw[<-gu,un];simp[hm,ax]⟩ (by(try simp only);omega)) (by rw[aD]) (by simp[hw])
  ·repeat apply κ
   refine W.draw (A:=[]) Κ mixed λη I=>?_;simp;(repeat (rw[bD];simp[ζ]));try rw[bC]
   refine⟨bW (by kernel_rfl),I _ _ ?_⟩;refine aj rfl ?_;refine W.exit rfl ?_;have e:Go.Sort.scanDown (λx=>!ax cmp x e[a]!) e a0 i=i:=by exact Ka _ _ (by omega)
   exact W.stop ⟨rfl,rfl,by rw[<-gu,e];simp⟩
 repeat apply κ
 by_cases ζ:a0 > aI
 ·have a4:((aI:Nat):Int)<(a0:Nat):=by omega
  (repeat (first|apply κ|(refine ξ λη I=>?_;simp;(repeat (rw[δ];simp[a4]));apply I)));refine al (by simp[ζ]) ?_;have a9:aI<n:=by omega
  have bp:a<n:=by omega
  obtain⟨L,x,y,aD,U,Ο,Α,⟨J,γ⟩,⟨π,Μ⟩,er,j9,aB⟩:=jO aA eP a9 bp;refine W.to (σ':=[.cells 112 2 L]) (env':=[(0,.ms 0 n 0 n),(1,R a),(4,an),(12,R (a0:Nat)),(13,R (aI:Nat))]) ?_ (by rw[aD]) (by simp);clear U Ο
  repeat apply κ
  refine W.draw (A:=[]) Κ mixed λη I=>?_;simp;(repeat (rw[bD];simp[Α,J,γ,π,Μ,aB,a9,bp]));try rw[bC]
  refine⟨bW (by kernel_rfl),I _ _ ?_⟩;refine W.to (σ':=[.cells 112 2 ((Go.Sort.swp e aI a).toList.map aA)]) (env':=[(0,.ms 0 n 0 n),(1,R a),(4,an),(12,R (a0:Nat)),(13,R (aI:Nat))]) ?_ (by rw[er]) (by simp);clear a9 bp J γ π Μ aB er Α aD L x y j9;(repeat (first|apply κ|(refine ξ λη I=>?_;simp;(repeat (rw[δ];simp));apply I)));exact W.ret ⟨_,rfl,by rw[dF,if_pos ζ];rfl,by rw[dF,if_pos ζ]⟩
 have a4:¬((aI:Nat):Int)<(a0:Nat):=by omega
 have B1:=ou (by omega)
 have jk:=gH (i:=a0) (by omega)
 have o6:=oi (i:=aI) (by omega) (by omega);(repeat (first|apply κ|(refine ξ λη I=>?_;simp;(repeat (rw[δ];simp[a4]));apply I)));refine aj (by simp[ζ]) ?_;have a9:a0<n:=by omega
 have bp:aI<n:=by omega
 obtain⟨L,x,y,aD,U,Ο,Α,⟨J,γ⟩,⟨π,Μ⟩,er,j9,aB⟩:=jO aA eP a9 bp;refine W.to (σ':=[.cells 112 2 L]) (env':=[(0,.ms 0 n 0 n),(1,R a),(4,an),(12,R (a0:Nat)),(13,R (aI:Nat))]) ?_ (by rw[aD]) (by simp);clear U Ο
 repeat apply κ
 refine W.draw (A:=[]) Κ mixed λη I=>?_;simp;(repeat (rw[bD];simp[Α,J,γ,π,Μ,aB,a9,bp]));try rw[bC]
 refine⟨bW (by kernel_rfl),I _ _ ?_⟩;refine W.to (σ':=[.cells 112 2 ((Go.Sort.swp e a0 aI).toList.map aA)]) (env':=[(0,.ms 0 n 0 n),(1,R a),(4,an),(12,R (a0:Nat)),(13,R (aI:Nat))]) ?_ (by rw[er]) (by simp);clear a9 bp J γ π Μ aB er Α aD L x y j9;have vp:=swp_size eP a0 aI;rw[if_neg ζ] at dF;obtain⟨g,Υ⟩:∃g,g=Go.Sort.swp e a0 aI:=⟨_,rfl⟩;rw[<-Υ] at dF vp;rw[<-Υ];(repeat (first|apply κ|(refine ξ λη I=>?_;simp;(repeat (rw[δ];simp[jk,o6]));apply I)));refine W.to (σ':=[.cells 112 2 ((g).toList.map aA)]) (env':=[(0,.ms 0 n 0 n),(1,R a),(4,an),(12,R (a0+1:Nat)),(13,R (aI-1:Nat))]) ?_ rfl (by simp[jk,o6]);have jρ:a<a0:=by omega
 have jς:aI<b:=by omega
 have jτ:a0+1<=aI-1+1:=by omega
 clear fr dn a4 ζ s1 s2 ot u7 ou Υ jk o6;obtain⟨af,lX⟩:∃af,Go.Sort.partLoop (ax cmp) a (a0+1) (aI-1) g=af:=⟨_,rfl⟩
 repeat apply κ
 refine W.rM [(0,.ms 0 n 0 n),(1,R a),(13,R af.1)] [.cells 112 2 ((af.2).toList.map aA)] ?_ ?_
 ·refine W.iter (λq:Nat×Nat×Array (Int×Int)=>q.2.2.size=n/\a<q.1/\q.1<=q.2.1+1/\q.2.1<b/\Go.Sort.partLoop (ax cmp) a q.1 q.2.1 q.2.2=af) (λq=>[(0,.ms 0 n 0 n),(1,R a),(4,an),(12,R (q.1:Nat)),(13,R (q.2.1:Nat))]) (λq=>[.cells 112 2 ((q.2.2).toList.map aA)]) (λq=>q.2.1+1-q.1) (a0+1,aI-1,g) ⟨vp,by(try simp only);omega,by(try simp only);omega,by(try simp only);omega,lX⟩ rfl (by simp) (λq hi Δ=>?_);obtain⟨i,j,f⟩:=q;obtain⟨bY,n0,nE,gu,bg⟩:=hi;simp only at bY n0 nE gu bg;obtain⟨a0,fr⟩:∃a0,Go.Sort.scanUp (λx=>ax cmp x f[a]!) f (j) (i)=a0:=⟨_,rfl⟩;obtain⟨aI,dn⟩:∃aI,Go.Sort.scanDown (λx=>!ax cmp x f[a]!) f a0 (j)=aI:=⟨_,rfl⟩;obtain⟨s1,s2,ot,u7,ou⟩:=BB (λx=>ax cmp x f[a]!) (λx=>!ax cmp x f[a]!) (λx=>rfl) f (by omega) (by omega) fr dn;have dF:Go.Sort.partLoop (ax cmp) a i j f=if a0 > aI then(aI,f) else Go.Sort.partLoop (ax cmp) a (a0+1) (aI-1) (Go.Sort.swp f a0 aI):=by
   rw[Go.Sort.partLoop_eq];simp only[fr,dn]
  refine W.to (σ':=[.cells 112 2 ((f).toList.map aA)]) (env':=[(0,.ms 0 n 0 n),(1,R a),(4,an),(12,R (i:Nat)),(13,R (j:Nat))]) ?_ rfl (by simp);refine W.block ?_
  repeat apply κ
  refine W.rM [(0,.ms 0 n 0 n),(1,R a),(4,an),(12,R (a0:Nat)),(13,R (j:Nat))] [.cells 112 2 ((f).toList.map aA)] ?_ ?_
  ·refine W.iter (λi:Nat=>(i)<=i/\i<=(j)+1/\Go.Sort.scanUp (λx=>ax cmp x f[a]!) f (j) i=a0) (λi=>[(0,.ms 0 n 0 n),(1,R a),(4,an),(12,R (i:Nat)),(13,R (j:Nat))]) (λ_=>[.cells 112 2 ((f).toList.map aA)]) (λi=>(j)+1-i) ((i)) ⟨Nat.le_refl _,by omega,fr⟩ rfl (by simp) (λi hi Δ=>?_);obtain⟨n0,nE,gu⟩:=hi;by_cases ζ:i<=(j)
   ·have a9:i<n:=by omega
    have bp:a<n:=by omega
    obtain⟨L,x,y,aD,U,Ο,Α,⟨J,γ⟩,⟨π,Μ⟩,-,-⟩:=jO aA bY a9 bp;have un:Go.Sort.scanUp (λx=>ax cmp x f[a]!) f (j) i=if(ax cmp x y)=true then Go.Sort.scanUp (λx=>ax cmp x f[a]!) f (j) (i+1) else i:=by rw[Go.Sort.scanUp];simp[ζ,U,Ο]
    have hw:=gH (i:=i) (by omega);refine W.to (σ':=[.cells 112 2 L]) (env':=[(0,.ms 0 n 0 n),(1,R a),(4,an),(12,R (i:Nat)),(13,R (j:Nat))]) ?_ (by rw[aD]) (by simp);clear U Ο
    repeat apply κ
    refine W.draw (A:=[]) Κ mixed λη I=>?_;simp;(repeat (rw[bD];simp[ζ,Α,J,γ,π,Μ,a9,bp]));try rw[bC]
    refine gU (Τ x y) ?_;simp;(repeat (rw[bD];simp));try rw[bC]
    refine⟨bW (by kernel_rfl),I _ _ ?_⟩;by_cases hm:cmp x y<0
    ·refine al (by simp[hm]) ?_;(repeat (first|apply κ|(refine ξ λη I=>?_;simp;(repeat (rw[δ];simp[hw]));apply I)));exact W.to (Δ (i+1) ⟨by omega,by omega,by rw[<-gu,un];simp[hm,ax]⟩ (by(try simp only);omega)) (by rw[aD]) (by simp[hw])
    ·refine aj (by simp[hm]) ?_;refine W.exit rfl ?_;exact W.stop ⟨rfl,by rw[aD],by rw[<-gu,un];simp[hm,ax]⟩
   ·repeat apply κ
    refine W.draw (A:=[]) Κ mixed λη I=>?_;simp;(repeat (rw[bD];simp[ζ]));try rw[bC]
    refine⟨bW (by kernel_rfl),I _ _ ?_⟩;refine aj rfl ?_;refine W.exit rfl ?_;have e:Go.Sort.scanUp (λx=>ax cmp x f[a]!) f (j) i=i:=by rw[Go.Sort.scanUp];simp[ζ]
    exact W.stop ⟨rfl,rfl,by rw[<-gu,e];simp⟩
  repeat apply κ
  refine W.rM [(0,.ms 0 n 0 n),(1,R a),(4,an),(12,R (a0:Nat)),(13,R (aI:Nat))] [.cells 112 2 ((f).toList.map aA)] ?_ ?_
  ·refine W.iter (λi:Nat=>i<=(j)/\a0<=i+1/\Go.Sort.scanDown (λx=>!ax cmp x f[a]!) f a0 i=aI) (λi=>[(0,.ms 0 n 0 n),(1,R a),(4,an),(12,R (a0:Nat)),(13,R (i:Nat))]) (λ_=>[.cells 112 2 ((f).toList.map aA)]) (λi=>i+1-a0) ((j)) ⟨Nat.le_refl _,by omega,dn⟩ rfl (by simp) (λi hi Δ=>?_);obtain⟨n0,nE,gu⟩:=hi;by_cases ζ:a0<=i
   ·have a9:i<n:=by omega
    have bp:a<n:=by omega
    obtain⟨L,x,y,aD,U,Ο,Α,⟨J,γ⟩,⟨π,Μ⟩,-,-⟩:=jO aA bY a9 bp;obtain⟨q,Χ⟩:∃q,i=q+1:=⟨i-1,by omega⟩;have un:Go.Sort.scanDown (λx=>!ax cmp x f[a]!) f a0 i=if(!ax cmp x y)=true then Go.Sort.scanDown (λx=>!ax cmp x f[a]!) f a0 (i-1) else i:=by subst Χ;rw[Go.Sort.scanDown];simp[ζ,U,Ο]
    have hw:=oi (i:=i) (by omega) (by omega);refine W.to (σ':=[.cells 112 2 L]) (env':=[(0,.ms 0 n 0 n),(1,R a),(4,an),(12,R (a0:Nat)),(13,R (i:Nat))]) ?_ (by rw[aD]) (by simp);clear U Ο
    repeat apply κ
    refine W.draw (A:=[]) Κ mixed λη I=>?_;simp;(repeat (rw[bD];simp[ζ,Α,J,γ,π,Μ,a9,bp]));try rw[bC]
    refine gU (Τ x y) ?_;simp;(repeat (rw[bD];simp));try rw[bC]
    refine⟨bW (by kernel_rfl),I _ _ ?_⟩;by_cases hm:cmp x y<0
    ·refine aj (by simp[hm]) ?_;refine W.exit rfl ?_;exact W.stop ⟨rfl,by rw[aD],by rw[<-gu,un];simp[hm,ax]⟩
    ·refine al (by simp[hm]) ?_;(repeat (first|apply κ|(refine ξ λη I=>?_;simp;(repeat (rw[δ];simp[hw]));apply I)));exact W.to (Δ (i-1) ⟨by omega,by omega,by rw[<-gu,un];simp[hm,ax]⟩ (by(try simp only);omega)) (by rw[aD]) (by simp[hw])
   ·repeat apply κ
    refine W.draw (A:=[]) Κ mixed λη I=>?_;simp;(repeat (rw[bD];simp[ζ]));try rw[bC]
    refine⟨bW (by kernel_rfl),I _ _ ?_⟩;refine aj rfl ?_;refine W.exit rfl ?_;have e:Go.Sort.scanDown (λx=>!ax cmp x f[a]!) f a0 i=i:=by exact Ka _ _ (by omega)
    exact W.stop ⟨rfl,rfl,by rw[<-gu,e];simp⟩
  repeat apply κ
  by_cases ζ:a0 > aI
  ·have a4:((aI:Nat):Int)<(a0:Nat):=by omega
   (repeat (first|apply κ|(refine ξ λη I=>?_;simp;(repeat (rw[δ];simp[a4]));apply I)));refine al (by simp[ζ]) ?_;refine W.exit rfl ?_;rw[dF,if_pos ζ] at bg;exact W.stop ⟨rfl,by rw[<-bg],by rw[<-bg];simp⟩
  ·have a4:¬((aI:Nat):Int)<(a0:Nat):=by omega
   have B1:=ou (by omega)
   have jk:=gH (i:=a0) (by omega)
   have o6:=oi (i:=aI) (by omega) (by omega);(repeat (first|apply κ|(refine ξ λη I=>?_;simp;(repeat (rw[δ];simp[a4]));apply I)));refine aj (by simp[ζ]) ?_;have a9:a0<n:=by omega
   have bp:aI<n:=by omega
   obtain⟨L,x,y,aD,U,Ο,Α,⟨J,γ⟩,⟨π,Μ⟩,er,j9,aB⟩:=jO aA bY a9 bp;refine W.to (σ':=[.cells 112 2 L]) (env':=[(0,.ms 0 n 0 n),(1,R a),(4,an),(12,R (a0:Nat)),(13,R (aI:Nat))]) ?_ (by rw[aD]) (by simp);clear U Ο
   repeat apply κ
   refine W.draw (A:=[]) Κ mixed λη I=>?_;simp;(repeat (rw[bD];simp[Α,J,γ,π,Μ,aB,a9,bp]));try rw[bC]
   refine⟨bW (by kernel_rfl),I _ _ ?_⟩;refine W.to (σ':=[.cells 112 2 ((Go.Sort.swp f a0 aI).toList.map aA)]) (env':=[(0,.ms 0 n 0 n),(1,R a),(4,an),(12,R (a0:Nat)),(13,R (aI:Nat))]) ?_ (by rw[er]) (by simp);clear a9 bp J γ π Μ aB er Α aD L x y j9;(repeat (first|apply κ|(refine ξ λη I=>?_;simp;(repeat (rw[δ];simp[jk,o6]));apply I)));exact W.to (Δ (a0+1,aI-1,Go.Sort.swp f a0 aI) ⟨swp_size bY a0 aI,by(try simp only);omega,by(try simp only);omega,by(try simp only);omega,by simp;rw[<-bg,dF,if_neg ζ]⟩ (by(try simp only);omega)) rfl (by simp[jk,o6])
 rw[lX] at dF;have Χ:=cΨ (ax cmp) (a:=a) (b:=b) _ (a0+1) (aI-1) g (Nat.le_refl _) vp (by omega) (by omega) (by omega);rw[lX] at Χ;obtain⟨Je,dΥ⟩:=Χ;obtain⟨j,h⟩:=af;simp only at Je dΥ dF;have a9:j<n:=by omega
 have bp:a<n:=by omega
 obtain⟨L,x,y,aD,U,Ο,Α,⟨J,γ⟩,⟨π,Μ⟩,er,j9,aB⟩:=jO aA Je a9 bp;refine W.to (σ':=[.cells 112 2 L]) (env':=[(0,.ms 0 n 0 n),(1,R a),(13,R (j:Nat))]) ?_ (by rw[aD]) (by simp);clear U Ο
 repeat apply κ
 refine W.draw (A:=[]) Κ mixed λη I=>?_;simp;(repeat (rw[bD];simp[Α,J,γ,π,Μ,aB,a9,bp]));try rw[bC]
 refine⟨bW (by kernel_rfl),I _ _ ?_⟩;refine W.to (σ':=[.cells 112 2 ((Go.Sort.swp h j a).toList.map aA)]) (env':=[(0,.ms 0 n 0 n),(1,R a),(13,R (j:Nat))]) ?_ (by rw[er]) (by simp);clear a9 bp J γ π Μ aB er Α aD L x y j9;(repeat (first|apply κ|(refine ξ λη I=>?_;simp;(repeat (rw[δ];simp));apply I)));exact W.ret ⟨_,rfl,by rw[dF];rfl,by rw[dF]⟩
theorem dΦ (d:Array (Int×Int)) (n a b p:Nat) (Ι:d.size=n) (ο:n<2 ^ 40) (iG:a<=p) (dΤ:p<b) (hb:b<=n) (an:θ) (cmp:Int×Int->Int×Int->Int) (bR:av 0 an) (Τ:∀x y,gj Tryz.prog an [aA x,aA y] (R (cmp x y))) :
  ak Tryz.prog 240 [.ms 0 n 0 n,R a,R b,R p,an] [.cells 112 2 ((d).toList.map aA)] (λr s=>r=R (Go.Sort.partitionEqual (ax cmp) d a b p).1/\s=[.cells 112 2 (((Go.Sort.partitionEqual (ax cmp) d a b p).2).toList.map aA)]) (λ_ _=>False):=by
 refine ak.body Κ Tryz.func240 rfl rfl Tryz.ntmps240 rfl rfl (by simp) ?_;have fL:=gH (i:=a) (by omega);have gw:=oi (i:=b) (by omega) (by omega)
 repeat apply κ
 refine ξ λη I=>?_;simp;(repeat (rw[δ];simp));apply I;have a9:a<n:=by omega
 have bp:p<n:=by omega
 obtain⟨L,x,y,aD,U,Ο,Α,⟨J,γ⟩,⟨π,Μ⟩,er,j9,aB⟩:=jO aA Ι a9 bp;refine W.to (σ':=[.cells 112 2 L]) (env':=[(0,.ms 0 n 0 n),(1,R a),(2,R b),(3,R p),(4,an)]) ?_ (by rw[aD]) (by simp);clear U Ο
 repeat apply κ
 refine W.draw (A:=[]) Κ mixed λη I=>?_;simp;(repeat (rw[bD];simp[Α,J,γ,π,Μ,aB,a9,bp]));try rw[bC]
 refine⟨bW (by kernel_rfl),I _ _ ?_⟩;refine W.to (σ':=[.cells 112 2 ((Go.Sort.swp d a p).toList.map aA)]) (env':=[(0,.ms 0 n 0 n),(1,R a),(2,R b),(3,R p),(4,an)]) ?_ (by rw[er]) (by simp);clear a9 bp J γ π Μ aB er Α aD L x y j9;obtain⟨e,he⟩:∃e,e=Go.Sort.swp d a p:=⟨_,rfl⟩;have eP:e.size=n:=by rw[he];exact swp_size Ι a p
 rw[<-he]
 repeat apply κ
 refine ξ λη I=>?_;simp;(repeat (rw[δ];simp[fL,gw]));apply I;refine W.to (σ':=[.cells 112 2 ((e).toList.map aA)]) (env':=[(0,.ms 0 n 0 n),(1,R a),(4,an),(11,R (a+1:Nat)),(12,R (b-1:Nat))]) ?_ rfl (by simp);obtain⟨af,lX⟩:∃af,Go.Sort.partEqLoop (ax cmp) a (a+1) (b-1) e=af:=⟨_,rfl⟩
 repeat apply κ
 refine W.rM [(11,R af.1)] [.cells 112 2 ((af.2).toList.map aA)] ?_ ?_
 ·refine W.iter (λq:Nat×Nat×Array (Int×Int)=>q.2.2.size=n/\a<q.1/\q.1<=q.2.1+1/\q.2.1<b/\Go.Sort.partEqLoop (ax cmp) a q.1 q.2.1 q.2.2=af) (λq=>[(0,.ms 0 n 0 n),(1,R a),(4,an),(11,R (q.1:Nat)),(12,R (q.2.1:Nat))]) (λq=>[.cells 112 2 ((q.2.2).toList.map aA)]) (λq=>q.2.1+1-q.1) (a+1,b-1,e) ⟨eP,by(try simp only);omega,by(try simp only);omega,by(try simp only);omega,lX⟩ rfl (by simp) (λq hi Δ=>?_);obtain⟨i,j,f⟩:=q;obtain⟨bY,n0,nE,gu,bg⟩:=hi;simp only at bY n0 nE gu bg;obtain⟨a0,fr⟩:∃a0,Go.Sort.scanUp (λx=>!ax cmp f[a]! x) f (j) (i)=a0:=⟨_,rfl⟩;obtain⟨aI,dn⟩:∃aI,Go.Sort.scanDown (λx=>ax cmp f[a]! x) f a0 (j)=aI:=⟨_,rfl⟩;obtain⟨s1,s2,ot,u7,ou⟩:=BB (λx=>!ax cmp f[a]! x) (λx=>ax cmp f[a]! x) (λx=>by simp) f (by omega) (by omega) fr dn;have dF:Go.Sort.partEqLoop (ax cmp) a i j f=if a0 > aI then(a0,f) else Go.Sort.partEqLoop (ax cmp) a (a0+1) (aI-1) (Go.Sort.swp f a0 aI):=by
   rw[Go.Sort.partEqLoop_eq];simp only[fr,dn]
  refine W.to (σ':=[.cells 112 2 ((f).toList.map aA)]) (env':=[(0,.ms 0 n 0 n),(1,R a),(4,an),(11,R (i:Nat)),(12,R (j:Nat))]) ?_ rfl (by simp);refine W.block ?_
  repeat apply κ
  refine W.rM [(0,.ms 0 n 0 n),(1,R a),(4,an),(11,R (a0:Nat)),(12,R (j:Nat))] [.cells 112 2 ((f).toList.map aA)] ?_ ?_
  ·refine W.iter (λi:Nat=>(i)<=i/\i<=(j)+1/\Go.Sort.scanUp (λx=>!ax cmp f[a]! x) f (j) i=a0) (λi=>[(0,.ms 0 n 0 n),(1,R a),(4,an),(11,R (i:Nat)),(12,R (j:Nat))]) (λ_=>[.cells 112 2 ((f).toList.map aA)]) (λi=>(j)+1-i) ((i)) ⟨Nat.le_refl _,by omega,fr⟩ rfl (by simp) (λi hi Δ=>?_);obtain⟨n0,nE,gu⟩:=hi;by_cases ζ:i<=(j)
   ·have a9:i<n:=by omega
    have bp:a<n:=by omega
    obtain⟨L,x,y,aD,U,Ο,Α,⟨J,γ⟩,⟨π,Μ⟩,-,-⟩:=jO aA bY a9 bp;have un:Go.Sort.scanUp (λx=>!ax cmp f[a]! x) f (j) i=if(!ax cmp y x)=true then Go.Sort.scanUp (λx=>!ax cmp f[a]! x) f (j) (i+1) else i:=by rw[Go.Sort.scanUp];simp[ζ,U,Ο]
    have hw:=gH (i:=i) (by omega);refine W.to (σ':=[.cells 112 2 L]) (env':=[(0,.ms 0 n 0 n),(1,R a),(4,an),(11,R (i:Nat)),(12,R (j:Nat))]) ?_ (by rw[aD]) (by simp);clear U Ο
    repeat apply κ
    refine W.draw (A:=[]) Κ mixed λη I=>?_;simp;(repeat (rw[bD];simp[ζ,Α,J,γ,π,Μ,a9,bp]));try rw[bC]
    refine gU (Τ y x) ?_;simp;(repeat (rw[bD];simp));try rw[bC]
    refine⟨bW (by kernel_rfl),I _ _ ?_⟩;by_cases hm:cmp y x<0
    ·refine aj (by simp[hm]) ?_;refine W.exit rfl ?_;exact W.stop ⟨rfl,by rw[aD],by rw[<-gu,un];simp[hm,ax]⟩
    ·refine al (by simp[hm]) ?_;(repeat (first|apply κ|(refine ξ λη I=>?_;simp;(repeat (rw[δ];simp[hw]));apply I)));exact W.to (Δ (i+1) ⟨by omega,by omega,by rw[<-gu,un];simp[hm,ax]⟩ (by(try simp only);omega)) (by rw[aD]) (by simp[hw])
   ·repeat apply κ
    refine W.draw (A:=[]) Κ mixed λη I=>?_;simp;(repeat (rw[bD];simp[ζ]));try rw[bC]
    refine⟨bW (by kernel_rfl),I _ _ ?_⟩;refine aj rfl ?_;refine W.exit rfl ?_;have e:Go.Sort.scanUp (λx=>!ax cmp f[a]! x) f (j) i=i:=by rw[Go.Sort.scanUp];simp[ζ]
    exact W.stop ⟨rfl,rfl,by rw[<-gu,e];simp⟩
  repeat apply κ
  refine W.rM [(0,.ms 0 n 0 n),(1,R a),(4,an),(11,R (a0:Nat)),(12,R (aI:Nat))] [.cells 112 2 ((f).toList.map aA)] ?_ ?_
  ·refine W.iter (λi:Nat=>i<=(j)/\a0<=i+1/\Go.Sort.scanDown (λx=>ax cmp f[a]! x) f a0 i=aI) (λi=>[(0,.ms 0 n 0 n),(1,R a),(4,an),(11,R (a0:Nat)),(12,R (i:Nat))]) (λ_=>[.cells 112 2 ((f).toList.map aA)]) (λi=>i+1-a0) ((j)) ⟨Nat.le_refl _,by omega,dn⟩ rfl (by simp) (λi hi Δ=>?_);obtain⟨n0,nE,gu⟩:=hi;by_cases ζ:a0<=i
   ·have a9:i<n:=by omega
    have bp:a<n:=by omega
    obtain⟨L,x,y,aD,U,Ο,Α,⟨J,γ⟩,⟨π,Μ⟩,-,-⟩:=jO aA bY a9 bp;obtain⟨q,Χ⟩:∃q,i=q+1:=⟨i-1,by omega⟩;have un:Go.Sort.scanDown (λx=>ax cmp f[a]! x) f a0 i=if(ax cmp y x)=true then Go.Sort.scanDown (λx=>ax cmp f[a]! x) f a0 (i-1) else i:=by subst Χ;rw[Go.Sort.scanDown];simp[ζ,U,Ο]
    have hw:=oi (i:=i) (by omega) (by omega);refine W.to (σ':=[.cells 112 2 L]) (env':=[(0,.ms 0 n 0 n),(1,R a),(4,an),(11,R (a0:Nat)),(12,R (i:Nat))]) ?_ (by rw[aD]) (by simp);clear U Ο
    repeat apply κ
    refine W.draw (A:=[]) Κ mixed λη I=>?_;simp;(repeat (rw[bD];simp[ζ,Α,J,γ,π,Μ,a9,bp]));try rw[bC]
    refine gU (Τ y x) ?_;simp;(repeat (rw[bD];simp));try rw[bC]
    refine⟨bW (by kernel_rfl),I _ _ ?_⟩;by_cases hm:cmp y x<0
    ·refine al (by simp[hm]) ?_;(repeat (first|apply κ|(refine ξ λη I=>?_;simp;(repeat (rw[δ];simp[hw]));apply I)));exact W.to (Δ (i-1) ⟨by omega,by omega,by rw[<-gu,un];simp[hm,ax]⟩ (by(try simp only);omega)) (by rw[aD]) (by simp[hw])
    ·refine aj (by simp[hm]) ?_;refine W.exit rfl ?_;exact W.stop ⟨rfl,by rw[aD],by rw[<-gu,un];simp[hm,ax]⟩
   ·repeat apply κ
    refine W.draw (A:=[]) Κ mixed λη I=>?_;simp;(repeat (rw[bD];simp[ζ]));try rw[bC]
    refine⟨bW (by kernel_rfl),I _ _ ?_⟩;refine aj rfl ?_;refine W.exit rfl ?_;have e:Go.Sort.scanDown (λx=>ax cmp f[a]! x) f a0 i=i:=by exact Ka _ _ (by omega)
    exact W.stop ⟨rfl,rfl,by rw[<-gu,e];simp⟩
  repeat apply κ
  by_cases ζ:a0 > aI
  ·have a4:((aI:Nat):Int)<(a0:Nat):=by omega
   (repeat (first|apply κ|(refine ξ λη I=>?_;simp;(repeat (rw[δ];simp[a4]));apply I)));refine al (by simp[ζ]) ?_;refine W.exit rfl ?_;rw[dF,if_pos ζ] at bg;exact W.stop ⟨rfl,by rw[<-bg],by rw[<-bg];simp⟩
  ·have a4:¬((aI:Nat):Int)<(a0:Nat):=by omega
   have B1:=ou (by omega)
   have jk:=gH (i:=a0) (by omega)
   have o6:=oi (i:=aI) (by omega) (by omega);(repeat (first|apply κ|(refine ξ λη I=>?_;simp;(repeat (rw[δ];simp[a4]));apply I)));refine aj (by simp[ζ]) ?_;have a9:a0<n:=by omega
   have bp:aI<n:=by omega
   obtain⟨L,x,y,aD,U,Ο,Α,⟨J,γ⟩,⟨π,Μ⟩,er,j9,aB⟩:=jO aA bY a9 bp;refine W.to (σ':=[.cells 112 2 L]) (env':=[(0,.ms 0 n 0 n),(1,R a),(4,an),(11,R (a0:Nat)),(12,R (aI:Nat))]) ?_ (by rw[aD]) (by simp);clear U Ο
   repeat apply κ
   refine W.draw (A:=[]) Κ mixed λη I=>?_;simp;(repeat (rw[bD];simp[Α,J,γ,π,Μ,aB,a9,bp]));try rw[bC]
   refine⟨bW (by kernel_rfl),I _ _ ?_⟩;refine W.to (σ':=[.cells 112 2 ((Go.Sort.swp f a0 aI).toList.map aA)]) (env':=[(0,.ms 0 n 0 n),(1,R a),(4,an),(11,R (a0:Nat)),(12,R (aI:Nat))]) ?_ (by rw[er]) (by simp);clear a9 bp J γ π Μ aB er Α aD L x y j9;(repeat (first|apply κ|(refine ξ λη I=>?_;simp;(repeat (rw[δ];simp[jk,o6]));apply I)));exact W.to (Δ (a0+1,aI-1,Go.Sort.swp f a0 aI) ⟨swp_size bY a0 aI,by(try simp only);omega,by(try simp only);omega,by(try simp only);omega,by simp;rw[<-bg,dF,if_neg ζ]⟩ (by(try simp only);omega)) rfl (by simp[jk,o6])
 (repeat (first|apply κ|(refine ξ λη I=>?_;simp;(repeat (rw[δ];simp));apply I)));have dF:Go.Sort.partitionEqual (ax cmp) d a b p=af:=by unfold Go.Sort.partitionEqual;rw[<-he,lX]
 exact W.ret ⟨_,rfl,by rw[dF];rfl,by rw[dF]⟩
theorem Q5 (d:Array (Int×Int)) (n lo hi first:Nat) (Ι:d.size=n) (ο:n<2 ^ 40) (jυ:first+hi<=n) (kJ:lo<=n) (an:θ) (cmp:Int×Int->Int×Int->Int) (bR:av 0 an) (Τ:∀x y,gj Tryz.prog an [aA x,aA y] (R (cmp x y))) :
  ak Tryz.prog 254 [.ms 0 n 0 n,R lo,R hi,R first,an] [.cells 112 2 ((d).toList.map aA)] (λr s=>r=.bu []/\s=[.cells 112 2 ((Go.Sort.siftDown (ax cmp) hi first lo d).toList.map aA)]) (λ_ _=>False):=by
 refine ak.body Κ Tryz.func254 rfl rfl Tryz.ntmps254 rfl rfl (by simp) ?_;(repeat (first|apply κ|(refine ξ λη I=>?_;simp;(repeat (rw[δ];simp));apply I)));obtain⟨af,lX⟩:∃af,Go.Sort.siftDown (ax cmp) hi first lo d=af:=⟨_,rfl⟩
 rw[lX];refine W.iter (λq:Nat×Array (Int×Int)=>q.2.size=n/\q.1<=n/\Go.Sort.siftDown (ax cmp) hi first q.1 q.2=af) (λq=>[(0,.ms 0 n 0 n),(2,R hi),(3,R first),(4,an),(10,R (q.1:Nat))]) (λq=>[.cells 112 2 ((q.2).toList.map aA)]) (λq=>hi-q.1) (lo,d) ⟨Ι,kJ,lX⟩ rfl (by simp) (λq Χ Δ=>?_);obtain⟨r,e⟩:=q;obtain⟨eP,μ,bg⟩:=Χ;simp only at eP μ bg;obtain⟨c,ζ⟩:∃c,c=2*r+1:=⟨_,rfl⟩;obtain⟨c1,oN⟩:∃c1,c1=c+1:=⟨_,rfl⟩;obtain⟨au,m4⟩:∃x,x=first+r:=⟨_,rfl⟩
 obtain⟨Kw,BI⟩:∃x,x=first+c:=⟨_,rfl⟩
 obtain⟨fd,yC⟩:∃x,x=first+(c+1):=⟨_,rfl⟩
 have w1:IntKind.i64.wrap (2*(r:Int))=2*(r:Int):=by rw[IntWalk.i64_in _ (by omega)]
 have w2:IntKind.i64.wrap (2*(r:Int)+1)=(c:Int):=by rw[IntWalk.i64_in _ (by omega)];omega
 have w3:IntKind.i64.wrap ((c:Int)+1)=(c1:Int):=by rw[IntWalk.i64_in _ (by omega)];omega
 have w4:IntKind.i64.wrap ((first:Int)+(c:Int))=(Kw:Int):=by rw[IntWalk.i64_in _ (by omega)];omega
 have yX:IntKind.i64.wrap ((Kw:Int)+1)=(fd:Int):=by rw[IntWalk.i64_in _ (by omega)];omega
 have qt:IntKind.i64.wrap ((first:Int)+(r:Int))=(au:Int):=by rw[IntWalk.i64_in _ (by omega)];omega
 refine W.to (σ':=[.cells 112 2 ((e).toList.map aA)]) (env':=[(0,.ms 0 n 0 n),(2,R hi),(3,R first),(4,an),(10,R (r:Nat))]) ?_ rfl (by simp);(repeat (first|apply κ|(refine ξ λη I=>?_;simp;(repeat (rw[δ];simp[w1,w2]));apply I)));by_cases Q6:hi<=c
 ·refine al (by simp[Q6]) ?_;refine W.exit rfl ?_;exact W.nil ⟨_,rfl,rfl,by rw[<-bg,Go.Sort.siftDown,dif_pos (by omega)]⟩
 refine aj (by simp[Q6]) ?_;obtain⟨B,fb⟩:∃B:Bool,B=(decide (c+1<hi)&&ax cmp e[first+c]! e[first+(c+1)]!):=⟨_,rfl⟩;obtain⟨k,χ⟩:∃k,k=if B=true then c+1 else c:=⟨_,rfl⟩
 have jφ:k<hi:=by
  rw[χ];split
  ·rename_i h;rw[h] at fb;have:=fb.symm;simp at this;omega
  ·omega
 have un:=cΩ (ax cmp) hi first r e (k:=k) ζ (by omega) (by rw[<-fb];exact χ)
 rw[un] at bg
 repeat apply κ
 refine W.D2 (A:=[]) Κ mixed [(40,bA B),(0,.ms 0 n 0 n),(2,R hi),(3,R first),(4,an),(10,R r),(11,R c)] ?_ (by
  by_cases mb:c1<hi
  ·have a9:Kw<n:=by omega
   have bp:fd<n:=by omega
   obtain⟨L,x,y,aD,U,Ο,Α,⟨J,γ⟩,⟨π,Μ⟩,-,-⟩:=jO aA eP a9 bp;have Kx:B=ax cmp x y:=by rw[fb,<-U,<-Ο,BI,yC];simp[<-oN,mb]
   have dΧ:(c1:Int)<hi:=by omega
   rw[aD];clear U Ο;simp;(repeat (rw[bD];simp[w3,w4,yX,mb,dΧ,Α,J,γ,π,Μ,a9,bp]));(try rw[bC]);refine gU (Τ x y) ?_;simp;(repeat (rw[bD];simp));(try rw[bC]);refine⟨bW (by kernel_rfl),?_⟩;simp[Kx,ax]
  ·have Kx:B=false:=by rw[fb];simp[<-oN,mb]
   simp;(repeat (rw[bD];simp[w3,mb]));(try rw[bC]);refine⟨bW (by kernel_rfl),?_⟩;simp[Kx])
 have Kv:r<k:=by rw[χ];split<;>omega
 repeat apply κ
 refine W.upto [(0,.ms 0 n 0 n),(2,R hi),(3,R first),(4,an),(10,R (r:Nat)),(11,R (k:Nat))] [.cells 112 2 ((e).toList.map aA)] ?_ ?_
 ·cases B with
  | true=>
   refine al rfl ?_;refine ξ λη I=>?_;simp;(repeat (rw[δ];simp[w3]));apply I;exact W.stop ⟨rfl,rfl,by simp[χ,oN]⟩
  | false=>
   refine aj rfl ?_;refine W.skip ?_;exact W.stop ⟨rfl,rfl,by simp[χ]⟩
 obtain⟨fk,dΨ⟩:∃x,x=first+k:=⟨_,rfl⟩
 rw[<-m4,<-dΨ] at bg;have qu:IntKind.i64.wrap ((first:Int)+(k:Int))=(fk:Int):=by rw[IntWalk.i64_in _ (by omega)];omega
 have a9:au<n:=by omega
 have bp:fk<n:=by omega
 obtain⟨L,x,y,aD,U,Ο,Α,⟨J,γ⟩,⟨π,Μ⟩,er,j9,aB⟩:=jO aA eP a9 bp;rw[U,Ο] at bg;refine W.to (σ':=[.cells 112 2 L]) (env':=[(0,.ms 0 n 0 n),(2,R hi),(3,R first),(4,an),(10,R (r:Nat)),(11,R (k:Nat))]) ?_ (by rw[aD]) (by simp);clear U Ο
 repeat apply κ
 refine W.draw (A:=[]) Κ mixed λη I=>?_;simp;(repeat (rw[bD];simp[qt,qu,Α,J,γ,π,Μ,a9,bp]));try rw[bC]
 refine gU (Τ x y) ?_;simp;(repeat (rw[bD];simp));try rw[bC]
 refine⟨bW (by kernel_rfl),I _ _ ?_⟩;by_cases hm:cmp x y<0
 ·refine aj (by simp[hm]) ?_
  repeat apply κ
  refine W.draw (A:=[]) Κ mixed λη I=>?_;simp;(repeat (rw[bD];simp[qt,qu,Α,J,γ,π,Μ,aB,a9,bp]));try rw[bC]
  refine⟨bW (by kernel_rfl),I _ _ ?_⟩;(repeat (first|apply κ|(refine ξ λη I=>?_;simp;(repeat (rw[δ];simp));apply I)));refine W.to (Δ (k,Go.Sort.swp e au fk) ⟨swp_size eP au fk,by(try simp only);omega,?_⟩ (by(try simp only);omega)) (by rw[er]) (by simp);rw[<-bg];simp[hm,ax]
 ·refine al (by simp[hm]) ?_;(repeat (first|apply κ|(refine ξ λη I=>?_;simp;(repeat (rw[δ];simp));apply I)));exact W.ret ⟨_,rfl,rfl,by rw[<-aD,<-bg];simp[hm,ax]⟩
theorem dΩ (d:Array (Int×Int)) (n a b:Nat) (Ι:d.size=n) (ο:n<2 ^ 40) (gS:a<b) (hb:b<=n) (an:θ) (cmp:Int×Int->Int×Int->Int) (bR:av 0 an) (Τ:∀x y,gj Tryz.prog an [aA x,aA y] (R (cmp x y))) :
  ak Tryz.prog 235 [.ms 0 n 0 n,R a,R b,an] [.cells 112 2 ((d).toList.map aA)] (λr s=>r=.bu []/\s=[.cells 112 2 ((Go.Sort.heapSort (ax cmp) d a b).toList.map aA)]) (λ_ _=>False):=by
 refine ak.body Κ Tryz.func235 rfl rfl Tryz.ntmps235 rfl rfl (by simp) ?_;obtain⟨m,hm⟩:∃m,b-a=m:=⟨_,rfl⟩;have w1:IntKind.i64.wrap ((b:Int)-(a:Int))=(m:Int):=by rw[IntWalk.i64_in _ (by omega)];omega
 have w2:IntKind.i64.wrap ((m:Int)-1)=((m-1:Nat):Int):=oi (by omega) (by omega)
 have w3:IntKind.i64.wrap (((m-1:Nat):Int) / 2)=(((m-1) / 2:Nat):Int):=Fu (m:=2) (by omega);obtain⟨eU,hB⟩:∃x,x=m-1:=⟨_,rfl⟩;obtain⟨ew,iz⟩:∃x,x=(m-1) / 2:=⟨_,rfl⟩;rw[<-iz,<-hB] at w3;rw[<-hB] at w2;have wp:∀k:Nat,k<=n->IntKind.i64.wrap ((k:Int)-1)=(k:Int)-1:=λk χ=>by rw[IntWalk.i64_in _ (by omega)]
 obtain⟨pk,wT⟩:∃af,Go.Sort.heapBuild (ax cmp) m a (ew+1) d=af:=⟨_,rfl⟩;have dF:Go.Sort.heapSort (ax cmp) d a b=Go.Sort.heapPop (ax cmp) a m pk:=by unfold Go.Sort.heapSort;rw[hm,<-iz,wT]
 (repeat (first|apply κ|(refine ξ λη I=>?_;simp;(repeat (rw[δ];simp[w1,w2,w3]));apply I)));refine W.rM [(0,.ms 0 n 0 n),(3,an),(8,R a),(9,R 0),(10,R m)] [.cells 112 2 ((pk).toList.map aA)] ?_ ?_
 ·refine W.iter (λq:Nat×Array (Int×Int)=>q.2.size=n/\q.1<=ew+1/\Go.Sort.heapBuild (ax cmp) m a q.1 q.2=pk) (λq=>[(0,.ms 0 n 0 n),(3,an),(8,R a),(9,R 0),(10,R m),(11,.z (.int .i64 ((q.1:Int)-1)))]) (λq=>[.cells 112 2 ((q.2).toList.map aA)]) (λq=>q.1) (ew+1,d) ⟨Ι,Nat.le_refl _,wT⟩ rfl (by simp) (λq Χ Δ=>?_);obtain⟨k,e⟩:=q;obtain⟨eP,χ,bg⟩:=Χ;simp only at eP χ bg;cases k with
  | zero=>
   (repeat (first|apply κ|(refine ξ λη I=>?_;simp;(repeat (rw[δ];simp));apply I)));refine aj rfl ?_;refine W.exit rfl ?_;exact W.stop ⟨rfl,by rw[<-bg];rfl,by simp⟩
  | succ k=>
   have k4:(0:Int)<=(k:Int):=by omega
   refine W.to (σ':=[.cells 112 2 ((e).toList.map aA)]) (env':=[(0,.ms 0 n 0 n),(3,an),(8,R a),(9,R 0),(10,R m),(11,.z (.int .i64 ((k:Int))))]) ?_ rfl (by simp);(repeat (first|apply κ|(refine ξ λη I=>?_;simp;(repeat (rw[δ];simp[k4]));apply I)));refine al (by simp) ?_;(repeat apply κ);refine ξ λη I=>?_;simp;(repeat (rw[δ];simp));refine ak.call (first:=[]) (captured:=[]) ((Q5 e n k m a eP ο (by omega) (by omega) an cmp bR Τ).mono (λr s ⟨ez,ed⟩=>?_) (λ_ _ h=>h.elim));subst ez;subst ed;simp;(repeat (rw[δ];simp));apply I;(repeat (first|apply κ|(refine ξ λη I=>?_;simp;(repeat (rw[δ];simp[wp k (by omega)]));apply I)));exact W.to (Δ (k,Go.Sort.siftDown (ax cmp) m a k e) ⟨J9 eP,by(try simp only);omega,bg⟩ (by simp)) rfl (by simp[wp k (by omega)])
 obtain⟨mT,s'⟩:∃af,Go.Sort.heapPop (ax cmp) a m pk=af:=⟨_,rfl⟩;have eα:pk.size=n:=by rw[<-wT];exact QD Ι
 rw[s'] at dF;(repeat (first|apply κ|(refine ξ λη I=>?_;simp;(repeat (rw[δ];simp[w2]));apply I)));refine W.iter (λq:Nat×Array (Int×Int)=>q.2.size=n/\q.1<=m/\Go.Sort.heapPop (ax cmp) a q.1 q.2=mT) (λq=>[(0,.ms 0 n 0 n),(3,an),(8,R a),(9,R 0),(10,R m),(12,.z (.int .i64 ((q.1:Int)-1)))]) (λq=>[.cells 112 2 ((q.2).toList.map aA)]) (λq=>q.1) (m,pk) ⟨eα,Nat.le_refl _,s'⟩ rfl (by simp[hB];omega) (λq Χ Δ=>?_);obtain⟨k,e⟩:=q;obtain⟨eP,χ,bg⟩:=Χ;simp only at eP χ bg;cases k with
 | zero=>
  (repeat (first|apply κ|(refine ξ λη I=>?_;simp;(repeat (rw[δ];simp));apply I)));refine aj rfl ?_;refine W.exit rfl ?_;exact W.nil ⟨_,rfl,rfl,by rw[dF,<-bg];rfl⟩
 | succ k=>
  have k4:(0:Int)<=(k:Int):=by omega
  obtain⟨pY,eβ⟩:∃x,x=a+k:=⟨_,rfl⟩;have qu:IntKind.i64.wrap ((a:Int)+(k:Int))=(pY:Int):=by rw[IntWalk.i64_in _ (by omega)];omega
  refine W.to (σ':=[.cells 112 2 ((e).toList.map aA)]) (env':=[(0,.ms 0 n 0 n),(3,an),(8,R a),(9,R 0),(10,R m),(12,.z (.int .i64 ((k:Int))))]) ?_ rfl (by simp);(repeat (first|apply κ|(refine ξ λη I=>?_;simp;(repeat (rw[δ];simp[k4]));apply I)));refine al (by simp) ?_;have a9:a<n:=by omega
  have bp:pY<n:=by omega
  obtain⟨L,x,y,aD,U,Ο,Α,⟨J,γ⟩,⟨π,Μ⟩,er,j9,aB⟩:=jO aA eP a9 bp;refine W.to (σ':=[.cells 112 2 L]) (env':=[(0,.ms 0 n 0 n),(3,an),(8,R a),(9,R 0),(10,R m),(12,.z (.int .i64 ((k:Int))))]) ?_ (by rw[aD]) (by simp);clear U Ο
  repeat apply κ
  refine W.draw (A:=[]) Κ mixed λη I=>?_;simp;(repeat (rw[bD];simp[Α,J,γ,π,Μ,aB,a9,bp,qu]));try rw[bC]
  refine⟨bW (by kernel_rfl),I _ _ ?_⟩;refine W.to (σ':=[.cells 112 2 ((Go.Sort.swp e a pY).toList.map aA)]) (env':=[(0,.ms 0 n 0 n),(3,an),(8,R a),(9,R 0),(10,R m),(12,.z (.int .i64 ((k:Int))))]) ?_ (by rw[er]) (by simp);clear a9 bp J γ π Μ aB er Α aD L x y j9;(repeat apply κ);refine ξ λη I=>?_;simp;(repeat (rw[δ];simp));refine ak.call (first:=[]) (captured:=[]) ((Q5 (Go.Sort.swp e a pY) n 0 k a (swp_size eP a pY) ο (by omega) (by omega) an cmp bR Τ).mono (λr s ⟨ez,ed⟩=>?_) (λ_ _ h=>h.elim));subst ez;subst ed;simp;(repeat (rw[δ];simp));apply I;(repeat (first|apply κ|(refine ξ λη I=>?_;simp;(repeat (rw[δ];simp[wp k (by omega)]));apply I)));exact W.to (Δ (k,Go.Sort.siftDown (ax cmp) k a 0 (Go.Sort.swp e a pY)) ⟨J9 (swp_size eP a pY),by(try simp only);omega,by rw[eβ];exact bg⟩ (by simp)) rfl (by simp[wp k (by omega)])
theorem eγ (d:Array (Int×Int)) (n a b:Nat) (Ι:d.size=n) (ο:n<2 ^ 40) (gS:a<b) (hb:b<=n) (an:θ) (cmp:Int×Int->Int×Int->Int) (bR:av 0 an) (Τ:∀x y,gj Tryz.prog an [aA x,aA y] (R (cmp x y))) :
  ak Tryz.prog 238 [.ms 0 n 0 n,R a,R b,an] [.cells 112 2 ((d).toList.map aA)] (λr s=>r=.bu []/\s=[.cells 112 2 ((Go.Sort.reverseRange d a b).toList.map aA)]) (λ_ _=>False):=by
 refine ak.body Κ Tryz.func238 rfl rfl Tryz.ntmps238 rfl rfl (by simp) ?_;have w1:=oi (i:=b) (by omega) (by omega);(repeat (first|apply κ|(refine ξ λη I=>?_;simp;(repeat (rw[δ];simp[w1]));apply I)));refine W.iter (λq:Nat×Nat×Array (Int×Int)=>q.2.2.size=n/\q.1<n/\q.2.1<n/\Go.Sort.reverseLoop q.1 q.2.1 q.2.2=Go.Sort.reverseRange d a b) (λq=>[(0,.ms 0 n 0 n),(8,R (q.1:Nat)),(9,R (q.2.1:Nat))]) (λq=>[.cells 112 2 ((q.2.2).toList.map aA)]) (λq=>q.2.1-q.1) (a,b-1,d) ⟨Ι,by(try simp only);omega,by(try simp only);omega,rfl⟩ rfl (by simp[w1]) (λq Χ Δ=>?_);obtain⟨i,j,e⟩:=q;obtain⟨eP,hi,ε,bg⟩:=Χ;simp only at eP hi ε bg;rw[Go.Sort.reverseLoop] at bg;refine W.to (σ':=[.cells 112 2 ((e).toList.map aA)]) (env':=[(0,.ms 0 n 0 n),(8,R (i:Nat)),(9,R (j:Nat))]) ?_ rfl (by simp);(repeat (first|apply κ|(refine ξ λη I=>?_;simp;(repeat (rw[δ];simp));apply I)));by_cases ζ:i<j
 ·refine al (by simp[ζ]) ?_;rw[if_pos ζ] at bg;have w2:=gH (i:=i) (by omega);have w3:=oi (i:=j) (by omega) (by omega);have a9:i<n:=by omega
  have bp:j<n:=by omega
  obtain⟨L,x,y,aD,U,Ο,Α,⟨J,γ⟩,⟨π,Μ⟩,er,j9,aB⟩:=jO aA eP a9 bp;refine W.to (σ':=[.cells 112 2 L]) (env':=[(0,.ms 0 n 0 n),(8,R (i:Nat)),(9,R (j:Nat))]) ?_ (by rw[aD]) (by simp);clear U Ο
  repeat apply κ
  refine W.draw (A:=[]) Κ mixed λη I=>?_;simp;(repeat (rw[bD];simp[Α,J,γ,π,Μ,aB,a9,bp]));try rw[bC]
  refine⟨bW (by kernel_rfl),I _ _ ?_⟩;refine W.to (σ':=[.cells 112 2 ((Go.Sort.swp e i j).toList.map aA)]) (env':=[(0,.ms 0 n 0 n),(8,R (i:Nat)),(9,R (j:Nat))]) ?_ (by rw[er]) (by simp);clear a9 bp J γ π Μ aB er Α aD L x y j9;(repeat (first|apply κ|(refine ξ λη I=>?_;simp;(repeat (rw[δ];simp[w2,w3]));apply I)));exact W.to (Δ (i+1,j-1,Go.Sort.swp e i j) ⟨swp_size eP i j,by(try simp only);omega,by(try simp only);omega,bg⟩ (by(try simp only);omega)) rfl (by simp[w2,w3])
 ·refine aj (by simp[ζ]) ?_;refine W.exit rfl ?_;rw[if_neg ζ] at bg;exact W.nil ⟨_,rfl,rfl,by rw[bg]⟩
theorem Ky (d:Array (Int×Int)) (n a b s:Nat) (Ι:d.size=n) (ν:a<n) (hb:b<n) (ο:s<2 ^ 40) (an:θ) (cmp:Int×Int->Int×Int->Int) (bR:av 0 an) (Τ:∀x y,gj Tryz.prog an [aA x,aA y] (R (cmp x y))) :
  ak Tryz.prog 258 [.ms 0 n 0 n,R a,R b,.Ψ 1 1 0 0,an] [.cells 112 2 (d.toList.map aA),.cells 3 1 [R s]] (λr σ=>r=.bu [R (Go.Sort.order2 (ax cmp) d a b s).1,R (Go.Sort.order2 (ax cmp) d a b s).2.1]/\σ=[.cells 112 2 (d.toList.map aA),.cells 3 1 [R (Go.Sort.order2 (ax cmp) d a b s).2.2]]) (λ_ _=>False):=by
 refine ak.body Κ Tryz.func258 rfl rfl Tryz.ntmps258 rfl rfl (by simp) ?_;obtain⟨L,aD⟩:∃L,L=d.toList.map aA:=⟨_,rfl⟩;have j0:L.length=n:=by rw[aD];simpa using Ι
 obtain⟨x,U⟩:∃x,x=d[a]!:=⟨_,rfl⟩;obtain⟨y,Ο⟩:∃y,y=d[b]!:=⟨_,rfl⟩;have Kz:L[a]?=some (aA x):=by rw[aD,U,List.getElem?_map,Array.getElem?_toList,sz (by omega)];rfl
 have sM:L[b]?=some (aA y):=by rw[aD,Ο,List.getElem?_map,Array.getElem?_toList,sz (by omega)];rfl
 have eδ:∀h:a<L.length,L[a]=aA x:=λh=>by have:=Kz;rw[a2 h] at this;exact Option.some.inj this
 have eε:∀h:b<L.length,L[b]=aA y:=λh=>by have:=sM;rw[a2 h] at this;exact Option.some.inj this
 have hw:IntKind.i64.wrap ((s:Int)+1)=((s+1:Nat):Int):=by rw[IntWalk.i64_in _ (by omega)];omega
 have Γ:Go.Sort.order2 (ax cmp) d a b s=if ax cmp y x=true then(b,a,s+1) else(a,b,s):=by unfold Go.Sort.order2;rw[<-U,<-Ο]
 rw[Γ,<-aD];clear aD U Ο Γ;(repeat (first|apply κ|(refine ξ λη I=>?_;simp;(repeat (rw[δ];simp));apply I)));refine W.draw (A:=[]) Κ mixed λη I=>?_;simp;(repeat (rw[bD];simp[j0,Kz,sM,eδ,eε]));try rw[bC]
 refine⟨hb,ν,?_⟩;refine gU (Τ y x) ?_;simp;(repeat (rw[bD];simp));try rw[bC]
 refine⟨bW (by kernel_rfl),I _ _ ?_⟩;by_cases hm:cmp y x<0
 ·refine al (by simp[hm]) ?_;(repeat (first|apply κ|(refine ξ λη I=>?_;simp;(repeat (rw[δ];simp[hw]));apply I)));exact W.ret ⟨_,rfl,by simp[ax,Go.Sort.ltInt,hm],by simp[ax,Go.Sort.ltInt,hm]⟩
 ·refine aj (by simp[hm]) ?_;(repeat (first|apply κ|(refine ξ λη I=>?_;simp;(repeat (rw[δ];simp[hw]));apply I)));exact W.ret ⟨_,rfl,by simp[ax,Go.Sort.ltInt,hm],by simp[ax,Go.Sort.ltInt,hm]⟩
theorem eζ (d:Array (Int×Int)) (n a b c s:Nat) (Ι:d.size=n) (ν:a<n) (hb:b<n) (ζ:c<n) (ο:s<2 ^ 39) (an:θ) (cmp:Int×Int->Int×Int->Int) (bR:av 0 an) (Τ:∀x y,gj Tryz.prog an [aA x,aA y] (R (cmp x y))) :
  ak Tryz.prog 256 [.ms 0 n 0 n,R a,R b,R c,.Ψ 1 1 0 0,an] [.cells 112 2 ((d).toList.map aA),.cells 3 1 [R (s:Nat)]] (λr σ=>r=R (Go.Sort.median (ax cmp) d a b c s).1/\σ=[.cells 112 2 ((d).toList.map aA),.cells 3 1 [R ((Go.Sort.median (ax cmp) d a b c s).2:Nat)]]) (λ_ _=>False):=by
 refine ak.body Κ Tryz.func256 rfl rfl Tryz.ntmps256 rfl rfl (by simp) ?_;obtain⟨r1,Ε⟩:∃r,Go.Sort.order2 (ax cmp) d a b s=r:=⟨_,rfl⟩;have f1:=J' (ax cmp) d (a:=a) (b:=b) (n:=n) (by omega) (by omega) s;have c1:=Ky d n a b s Ι (by omega) (by omega) (by omega) an cmp bR Τ;rw[Ε] at f1 c1;obtain⟨a1,bP,s1⟩:=r1;simp only at f1 c1;obtain⟨r2,Ζ⟩:∃r,Go.Sort.order2 (ax cmp) d bP c s1=r:=⟨_,rfl⟩;have f2:=J' (ax cmp) d (a:=bP) (b:=c) (n:=n) (by omega) (by omega) s1;have c2:=Ky d n bP c s1 Ι (by omega) (by omega) (by omega) an cmp bR Τ;rw[Ζ] at f2 c2;obtain⟨ba,dw,s2⟩:=r2;simp only at f2 c2;obtain⟨r3,a6⟩:∃r,Go.Sort.order2 (ax cmp) d a1 ba s2=r:=⟨_,rfl⟩;have f3:=J' (ax cmp) d (a:=a1) (b:=ba) (n:=n) (by omega) (by omega) s2;have c3:=Ky d n a1 ba s2 Ι (by omega) (by omega) (by omega) an cmp bR Τ;rw[a6] at f3 c3;obtain⟨cm,fN,ot⟩:=r3;simp only at f3 c3;have hm:Go.Sort.median (ax cmp) d a b c s=(fN,ot):=by unfold Go.Sort.median;simp only[Ε,Ζ,a6]
 rw[hm]
 repeat apply κ
 refine ξ λη I=>?_;simp;(repeat (rw[δ];simp));apply I;(repeat apply κ);refine ξ λη I=>?_;simp;(repeat (rw[δ];simp));refine ak.call (first:=[]) (captured:=[]) ((c1).mono (λr s ⟨ez,ed⟩=>?_) (λ_ _ h=>h.elim));subst ez;subst ed;simp;(repeat (rw[δ];simp));apply I;(repeat apply κ);refine ξ λη I=>?_;simp;(repeat (rw[δ];simp));refine ak.call (first:=[]) (captured:=[]) ((c2).mono (λr s ⟨ez,ed⟩=>?_) (λ_ _ h=>h.elim));subst ez;subst ed;simp;(repeat (rw[δ];simp));apply I;(repeat apply κ);refine ξ λη I=>?_;simp;(repeat (rw[δ];simp));refine ak.call (first:=[]) (captured:=[]) ((c3).mono (λr s ⟨ez,ed⟩=>?_) (λ_ _ h=>h.elim));subst ez;subst ed;simp;(repeat (rw[δ];simp));apply I;(repeat (first|apply κ|(refine ξ λη I=>?_;simp;(repeat (rw[δ];simp));apply I)));exact W.ret ⟨_,rfl,rfl,rfl⟩
theorem eη (d:Array (Int×Int)) (n a b:Nat) (Ι:d.size=n) (ο:n<2 ^ 38) (gS:a+12<b) (Q7:b<a+50) (hb:b<=n) (an:θ) (cmp:Int×Int->Int×Int->Int) (bR:av 0 an) (Τ:∀x y,gj Tryz.prog an [aA x,aA y] (R (cmp x y))) :
  ak Tryz.prog 237 [.ms 0 n 0 n,R a,R b,an] [.cells 112 2 ((d).toList.map aA)] (λr s=>r=.bu [R (Go.Sort.choosePivot (ax cmp) d a b).1,R (yR (Go.Sort.choosePivot (ax cmp) d a b).2)]/\s=[.cells 112 2 ((d).toList.map aA)]) (λ_ _=>False):=by
 refine ak.body Κ Tryz.func237 rfl rfl Tryz.ntmps237 rfl rfl (by simp) ?_;obtain⟨l,Α⟩:∃l,l=b-a:=⟨_,rfl⟩;obtain⟨q,Χ⟩:∃q,q=l / 4:=⟨_,rfl⟩;obtain⟨dM,tg⟩:∃x,x=q*2:=⟨_,rfl⟩;obtain⟨h0,BD⟩:∃x,x=q*3:=⟨_,rfl⟩;obtain⟨i,hi⟩:∃x,x=a+q:=⟨_,rfl⟩;obtain⟨j,ε⟩:∃x,x=a+dM:=⟨_,rfl⟩;obtain⟨k,χ⟩:∃x,x=a+h0:=⟨_,rfl⟩;obtain⟨gb,em⟩:∃r,Go.Sort.median (ax cmp) d i j k 0=r:=⟨_,rfl⟩;have KA:=eζ d n i j k 0 Ι (by omega) (by omega) (by omega) (by omega) an cmp bR Τ;rw[em] at KA;obtain⟨om,n2⟩:=gb;simp only at KA;have dF:Go.Sort.choosePivot (ax cmp) d a b=(om,if n2=0 then .increasing else if n2=12 then .decreasing else .unknown):=by
  have nL:8<=l:=by omega
  have eθ:¬50<=l:=by omega
  simp only[Go.Sort.choosePivot,<-Α,<-Χ,Nat.mul_one,<-tg,<-BD,<-hi,<-ε,<-χ,ge_iff_le,if_pos nL,if_neg eθ,em]
 rw[dF];have sS:(8:Int)<=(l:Int):=by omega
 have eι:¬(50:Int)<=(l:Int):=by omega
 have w1:IntKind.i64.wrap ((b:Int)-(a:Int))=(l:Int):=by rw[IntWalk.i64_in _ (by omega)];omega
 have w2:IntKind.i64.wrap ((l:Int) / 4)=(q:Int):=by rw[Χ];exact Fu (m:=4) (by omega)
 have w3:IntKind.i64.wrap (q:Int)=(q:Int):=IntWalk.i64_in _ (by omega)
 have w4:IntKind.i64.wrap ((q:Int)*2)=(dM:Int):=by rw[IntWalk.i64_in _ (by omega)];omega
 have yX:IntKind.i64.wrap ((q:Int)*3)=(h0:Int):=by rw[IntWalk.i64_in _ (by omega)];omega
 have qt:IntKind.i64.wrap ((a:Int)+(q:Int))=(i:Int):=by rw[IntWalk.i64_in _ (by omega)];omega
 have qu:IntKind.i64.wrap ((a:Int)+(dM:Int))=(j:Int):=by rw[IntWalk.i64_in _ (by omega)];omega
 have xb:IntKind.i64.wrap ((a:Int)+(h0:Int))=(k:Int):=by rw[IntWalk.i64_in _ (by omega)];omega
 repeat apply κ
 refine ξ λη I=>?_;simp;(repeat (rw[δ];simp));apply I
 repeat apply κ
 refine ξ λη I=>?_;simp;(repeat (rw[δ];simp[w1]));apply I
 repeat apply κ
 refine c7 (A:=[11]) Κ λη I=>?_;simp;(repeat (rw[δ];simp));apply I;(repeat (first|apply κ|(refine ξ λη I=>?_;simp;(repeat (rw[δ];simp[w2,w3,w4,yX,qt,qu,xb,sS]));apply I)));refine al (by simp) ?_;(repeat (first|apply κ|(refine ξ λη I=>?_;simp;(repeat (rw[δ];simp[eι]));apply I)));refine aj (by simp) ?_;(repeat apply κ);refine ξ λη I=>?_;simp;(repeat (rw[δ];simp));refine ak.call (first:=[]) (captured:=[]) ((KA).mono (λr s ⟨ez,ed⟩=>?_) (λ_ _ h=>h.elim));subst ez;subst ed;simp;(repeat (rw[δ];simp));apply I
 repeat apply κ
 refine ξ λη I=>?_;simp;(repeat (rw[δ];simp));apply I;refine W.drop (h:=1) (by simp) (by simp) (QE sA) rfl [(13,R (om:Nat)),(55,R (n2:Nat))] (by simp) ?_;by_cases ah:n2=0
 ·subst ah;(repeat (first|apply κ|(refine ξ λη I=>?_;simp;(repeat (rw[δ];simp));apply I)));refine al rfl ?_;(repeat (first|apply κ|(refine ξ λη I=>?_;simp;(repeat (rw[δ];simp));apply I)));exact W.ret ⟨_,rfl,rfl,rfl⟩
 have eκ:¬(n2:Int)=0:=by omega
 (repeat (first|apply κ|(refine ξ λη I=>?_;simp;(repeat (rw[δ];simp[eκ]));apply I)));refine aj (by simp[ah]) ?_;by_cases j1:n2=12
 ·subst j1;(repeat (first|apply κ|(refine ξ λη I=>?_;simp;(repeat (rw[δ];simp));apply I)));refine al rfl ?_;(repeat (first|apply κ|(refine ξ λη I=>?_;simp;(repeat (rw[δ];simp));apply I)));exact W.ret ⟨_,rfl,rfl,rfl⟩
 have eμ:¬(n2:Int)=12:=by omega
 (repeat (first|apply κ|(refine ξ λη I=>?_;simp;(repeat (rw[δ];simp[eμ]));apply I)));refine aj (by simp[j1]) ?_;(repeat (first|apply κ|(refine ξ λη I=>?_;simp;(repeat (rw[δ];simp));apply I)));exact W.ret ⟨_,rfl,by simp[ah,j1,yR],rfl⟩
theorem Q8 (d:Array (Int×Int)) (n a b:Nat) (Ι:d.size=n) (ο:n<2 ^ 40) (gS:a<b) (Q7:b<a+50) (hb:b<=n) (an:θ) (cmp:Int×Int->Int×Int->Int) (bR:av 0 an) (Τ:∀x y,gj Tryz.prog an [aA x,aA y] (R (cmp x y))) :
  ak Tryz.prog 239 [.ms 0 n 0 n,R a,R b,an] [.cells 112 2 ((d).toList.map aA)] (λr s=>r=bA (Go.Sort.partialInsertionSort (ax cmp) d a b).2/\s=[.cells 112 2 (((Go.Sort.partialInsertionSort (ax cmp) d a b).1).toList.map aA)]) (λ_ _=>False):=by
 refine ak.body Κ Tryz.func239 rfl rfl Tryz.ntmps239 rfl rfl (by simp) ?_;obtain⟨a0,fr⟩:∃a0,Go.Sort.scanSorted (ax cmp) d b (a+1)=a0:=⟨_,rfl⟩;have dF:Go.Sort.partialInsertionSort (ax cmp) d a b=(d,decide (a0=b)):=by
  unfold Go.Sort.partialInsertionSort;rw[Go.Sort.partialIns,fr];by_cases h:a0=b
  ·simp[h]
  ·simp[h];omega
 rw[dF];have w1:=gH (i:=a) (by omega);(repeat (first|apply κ|(refine ξ λη I=>?_;simp;(repeat (rw[δ];simp[w1]));apply I)));refine .loop ?_;(repeat (first|apply κ|(refine ξ λη I=>?_;simp;(repeat (rw[δ];simp));apply I)));refine al rfl ?_
 repeat apply κ
 refine W.rM [(0,.ms 0 n 0 n),(1,R a),(2,R b),(3,an),(9,R (a0:Nat))] [.cells 112 2 ((d).toList.map aA)] ?_ ?_
 ·refine W.iter (λi:Nat=>a+1<=i/\i<=b/\Go.Sort.scanSorted (ax cmp) d b i=a0) (λi=>[(0,.ms 0 n 0 n),(1,R a),(2,R b),(3,an),(9,R (i:Nat))]) (λ_=>[.cells 112 2 ((d).toList.map aA)]) (λi=>b-i) (a+1) ⟨Nat.le_refl _,by omega,fr⟩ rfl (by simp[w1]) (λi hi Δ=>?_);obtain⟨n0,nE,gu⟩:=hi;by_cases ζ:i<b
  ·obtain⟨p,ω⟩:∃p,p=i-1:=⟨_,rfl⟩;have a9:i<n:=by omega
   have bp:p<n:=by omega
   obtain⟨L,x,y,aD,U,Ο,Α,⟨J,γ⟩,⟨π,Μ⟩,-,-⟩:=jO aA Ι a9 bp;have un:Go.Sort.scanSorted (ax cmp) d b i=if(!ax cmp x y)=true then Go.Sort.scanSorted (ax cmp) d b (i+1) else i:=by rw[Go.Sort.scanSorted];simp[ζ,U,<-ω,Ο]
   have hw:=gH (i:=i) (by omega)
   have gw:IntKind.i64.wrap ((i:Int)-1)=(p:Int):=by rw[IntWalk.i64_in _ (by omega)];omega
   refine W.to (σ':=[.cells 112 2 L]) (env':=[(0,.ms 0 n 0 n),(1,R a),(2,R b),(3,an),(9,R (i:Nat))]) ?_ (by rw[aD]) (by simp);clear U Ο
   repeat apply κ
   refine W.draw (A:=[]) Κ mixed λη I=>?_;simp;(repeat (rw[bD];simp[ζ,gw,Α,J,γ,π,Μ,a9,bp]));try rw[bC]
   refine gU (Τ x y) ?_;simp;(repeat (rw[bD];simp));try rw[bC]
   refine⟨bW (by kernel_rfl),I _ _ ?_⟩;by_cases hm:cmp x y<0
   ·refine aj (by simp[hm]) ?_;refine W.exit rfl ?_;exact W.stop ⟨rfl,by rw[aD],by rw[<-gu,un];simp[hm,ax]⟩
   ·refine al (by simp[hm]) ?_;(repeat (first|apply κ|(refine ξ λη I=>?_;simp;(repeat (rw[δ];simp[hw]));apply I)));exact W.to (Δ (i+1) ⟨by omega,by omega,by rw[<-gu,un];simp[hm,ax]⟩ (by(try simp only);omega)) (by rw[aD]) (by simp[hw])
  ·repeat apply κ
   refine W.draw (A:=[]) Κ mixed λη I=>?_;simp;(repeat (rw[bD];simp[ζ]));try rw[bC]
   refine⟨bW (by kernel_rfl),I _ _ ?_⟩;refine aj rfl ?_;refine W.exit rfl ?_;have e:Go.Sort.scanSorted (ax cmp) d b i=i:=by rw[Go.Sort.scanSorted];simp[ζ]
   exact W.stop ⟨rfl,rfl,by rw[<-gu,e];simp⟩
 by_cases FI:a0=b
 ·have g:(a0:Int)=(b:Int):=by omega
  (repeat (first|apply κ|(refine ξ λη I=>?_;simp;(repeat (rw[δ];simp[g]));apply I)));refine al (by simp[FI]) ?_;(repeat (first|apply κ|(refine ξ λη I=>?_;simp;(repeat (rw[δ];simp));apply I)));exact W.ret ⟨_,rfl,by simp[FI],rfl⟩
 ·have g:¬(a0:Int)=(b:Int):=by omega
  have ag:((b-a:Nat):Int)<50:=by omega
  have w2:=Kd (a:=a) (b:=b) (by omega) (by omega);(repeat (first|apply κ|(refine ξ λη I=>?_;simp;(repeat (rw[δ];simp[g]));apply I)));refine aj (by simp[FI]) ?_;(repeat (first|apply κ|(refine ξ λη I=>?_;simp;(repeat (rw[δ];simp[w2,ag]));apply I)));refine al (by simp) ?_;(repeat (first|apply κ|(refine ξ λη I=>?_;simp;(repeat (rw[δ];simp));apply I)));exact W.ret ⟨_,rfl,by simp[FI],rfl⟩
end Go.TL
