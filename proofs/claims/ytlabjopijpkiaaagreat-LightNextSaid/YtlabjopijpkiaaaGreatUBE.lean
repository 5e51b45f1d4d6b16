import Derived.Test.YtlabjopijpkiaaaGreatUBA
import Derived.Test.YtlabjopijpkiaaaGreatUBC
import Derived.Test.YtlabjopijpkiaaaGreatUBD
set_option maxHeartbeats 16000000
set_option maxRecDepth 20000
set_option linter.unusedSectionVars false
set_option linter.unusedSimpArgs false
set_option linter.unusedVariables false
namespace Go.TL
open Go.Proofs
abbrev BM:List η:=[eS [1,0],eS [2,0],eS [2,1]]
theorem R3:∀i,i<3->BM[i]?=some (eS [(cd i).1,(cd i).2])/\∀h,BM[i]'h=eS [(cd i).1,(cd i).2]:=λi hi=>by
 match i with
 | 0=>exact⟨rfl,λ_=>rfl⟩
 | 1=>exact⟨rfl,λ_=>rfl⟩
 | 2=>exact⟨rfl,λ_=>rfl⟩
theorem gΒ [bt] {s:aI} (h:hX s) (i:Nat):tv s i<=i*5764801:=by
 induction i with
 | zero=>simp[tv]
 | succ i Β=>
  rw[KX,F3];have:=F2 h (cd i) (-1) (Nat.le_refl s.cells.length);omega
end Go.TL
namespace Go.TL
open Go.Proofs
variable [bt]
theorem gΓ:∀n<64,∀s<64,k7 .i64 (s:Nat) (n:Nat)=0->∀o<64,e4 .i64 (s:Nat) (k7 .i64 (o:Nat) (n:Nat))=0:=by decide +kernel
theorem gΔ:∀n<64,∀o<64,k7 .i64 (e4 .i64 (n:Nat) (o:Nat)) (n:Nat)=0:=by decide +kernel
theorem gΕ {n a b:Int} (Η:0<=n/\n<=63) (μ:0<=a/\a<=63) (hb:0<=b/\b<=63):k7 .i64 (e4 .i64 n a) n=0/\e4 .i64 (e4 .i64 n a) (k7 .i64 b n)=0:=by
 obtain⟨⟨I,U⟩,_,_⟩:=Kr Η μ;obtain⟨x,rfl⟩:∃x:Nat,n=x:=⟨n.toNat,R⟩;obtain⟨y,rfl⟩:∃y:Nat,a=y:=⟨a.toNat,R⟩;obtain⟨z,rfl⟩:∃z:Nat,b=z:=⟨b.toNat,R⟩;have e:=gΔ x R y R;refine⟨e,?_⟩;obtain⟨w,hw⟩:∃w:Nat,e4 .i64 (x:Int) (y:Int)=w:=⟨(e4 .i64 (x:Int) (y:Int)).toNat,R⟩;rw[hw] at e U ⊢;exact gΓ x R w R e z R
structure KY (most cells:Nat) (s:aI) (p:Int×Int) (rd:List (Int×Int)):Prop where
 gΖ:∃k,k<3/\p=cd k
 yX:hX s
 many:s.cells.length<=cells
 qx:s.ag.length<=most
 len:rd.length=s.cells.length
 each:∀r∈rd,(-1<=r.1/\r.1<s.ag.length)/\(-1<=r.2/\r.2<s.ag.length)
 right:∀(c:Nat) (r:Int×Int),rd[c]?=some r->s.nF p r c=true
structure gΗ where
 d:cB
 done:List (List eR)
 rd:List (Int×Int)
theorem gΘ (d:cB) (hd:d.bg.length<2 ^ 63) (most cells:Nat) (iz:1<=most) (yO:most<=6) (FM:cells<=4) :
  u3 32 [J most,J cells] d (λr=>∃s p rd,r=.bw [fs s,a2 J 1 [p.1,p.2],aQ (h9 rd)]/\KY most cells s p rd):=by
 unfold u3;refine ao.body Φ Tryz.func32 rfl rfl Tryz.ntmps32 rfl rfl θ ?_
 repeat apply ar
 refine dG (A:=[6]) Φ λΕ ζ=>bT ?_;apply ζ
 repeat apply ar
 refine W.cq ?_;refine W.part (A:=[9]) Φ [0,1,2,3] [4,5] rfl λΕ ζ=>?_;(try simp);(repeat (rw[Υ];simp[]));refine fε d hd most cells iz yO FM rfl ?_;intro G L nc d1 c5 aG ⟨sJ,Kp⟩ ko;simp only[List.length_cons,List.length_nil,Nat.reduceAdd,List.set_cons_zero,List.cons_append,List.nil_append];obtain⟨w8,KZ⟩:=aF (cy 5 (List.replicate nc bH));have yY:(nc=0/\w8=bH)\/(0<nc/\w8=.ms 5 nc 0 nc):=by
  by_cases Θ:nc=0
  ·subst Θ;exact .inl ⟨rfl,KZ⟩
  ·exact .inr ⟨R,by rw[KZ,gH (by simp[Θ]),List.length_replicate]⟩
 have yZ:∀done:List (List eR),done.length<=nc->(nc=0/\bh 60 1 (bB done nc)=[])\/(0<nc/\bh 60 1 (bB done nc)=[.cells 60 1 (bB done nc)]):=λdone k2=>by
  by_cases Θ:nc=0
  ·subst Θ;have:=dw.1 (wZ k2);exact .inl ⟨rfl,by rw[this];rfl⟩
  ·exact .inr ⟨R,ee (λh=>by have:=wZ k2;rw[h] at this;simp at this;omega)⟩
 rw[<-KZ,<-fψ];rw[N0,qi];apply ζ;clear ζ Ε;have y0:ay ([b1 d1,g1 bH bH bH,.dead,.dead,.dead]++bh 60 1 (bB [] nc)).length w8:=by
  rcases yY with⟨_,e⟩|⟨cD,e⟩
  ·rw[e];simp
  ·rcases yZ [] (Nat.zero_le _) with⟨ai,_⟩|⟨_,Γ⟩
   ·omega
   ·rw[e,Γ];exact oc.2 θ
 refine W.fχ (A:=[9]) Φ [(0,.an 0 1 0 0),(6,.an 1 1 0 0),(9,.ab [aS G,aQ L,w8])] ([b1 d1,g1 bH bH bH,.dead,.dead,.dead]++bh 60 1 (bB [] nc)) ?_ (by
  have bF:∀h,∀r∈[b1 d1,g1 bH bH bH,.dead,.dead,.dead]++bh 60 1 (bB [] nc),eW h r:=λh r κ=>by
   rcases List.mem_append.1 κ with κ|κ
   ·simp only[List.mem_cons,List.not_mem_nil,or_false] at κ;rcases κ with rfl|rfl|rfl|rfl|rfl
    ·exact u2 d1 h
    ·intro e he a μ;simp[η.cells] at he;subst he;simp[η.cells] at μ;subst μ;simp
    ·trivial
    ·trivial
    ·trivial
   ·exact AA (λe he a μ=>by obtain⟨I,U⟩:=KF e he;rw[I] at μ;simp at μ;subst μ;exact U) r κ
  rcases yY with⟨cD,e⟩|⟨cD,e⟩<;>rcases yZ [] (Nat.zero_le _) with⟨ai,Γ⟩|⟨ai,Γ⟩
  ·rw[Γ] at bF y0;rw[e] at y0;rw[e,Γ];(try simp);(repeat (rw[Υ];simp[]));(try simp[]);intro hW;exact W.pt (σ0:=[b1 d1,g1 bH bH bH,.dead,.dead,.dead]) θ (bF _) (λa μ=>by
    simp[η.cells] at μ;rcases μ with rfl|rfl|rfl
    ·exact(hh.2 ts:ay 0 _).mono (Nat.zero_le _)
    ·exact(hh.2 u6:ay 0 _).mono (Nat.zero_le _)
    ·exact y0) [(0,.an 0 1 0 0),(6,.an 1 1 0 0),(9,.ab [aS G,aQ L,bH])] (by simp[lb,η.cells]) hW
  ·omega
  ·omega
  ·rw[Γ] at bF y0;rw[e] at y0;rw[e,Γ];have nI:(bB [] nc).length=nc:=wZ (Nat.zero_le _);(try simp);(repeat (rw[Υ];simp[nI]));(try simp[nI]);intro hW;exact W.pt (σ0:=[b1 d1,g1 bH bH bH,.dead,.dead,.dead,.cells 60 1 (bB [] nc)]) θ (bF _) (λa μ=>by
    simp[η.cells] at μ;rcases μ with rfl|rfl|rfl
    ·exact(hh.2 ts:ay 0 _).mono (Nat.zero_le _)
    ·exact(hh.2 u6:ay 0 _).mono (Nat.zero_le _)
    ·exact y0) [(0,.an 0 1 0 0),(6,.an 1 1 0 0),(9,.ab [aS G,aQ L,.ms 5 nc 0 nc])] (by simp[lb,η.cells]) hW)
 obtain⟨mh,F4⟩:=aF L.length;have IY:=aG.lo;have Bg:=aG.hi;have RJ:=c5.hi;have gΙ:=c5.lo;obtain⟨g,Ρ⟩:=aF G.length;rw[<-Ρ] at RJ gΙ;rw[<-F4] at IY Bg;have KL:(L.map (a2 J 1)).length=mh:=by rw[List.length_map,F4]
 have Ν:=wT d1 R 2;obtain⟨t0,t1⟩:=uZ d1 2 bD bD;obtain⟨R4,R5⟩:=cZ (iA d1 2);rw[R5] at Ν t0 t1;clear R5;obtain⟨n2,w9⟩:∃k:Nat,R4=k:=⟨R4.toNat,R⟩;obtain⟨d2,ly⟩:=cZ (d1.after 2);have gΚ:d2.bg.length<=d.bg.length:=by rw[<-ly];exact Nat.le_trans (lB _ _) ko
 rw[w9,ly] at Ν;rw[w9] at t1;have e8:n2<3:=R;obtain⟨y1,K1⟩:=R3 n2 e8;obtain⟨p,ψ⟩:=aF (cd n2);rw[<-ψ] at y1 K1
 repeat apply ar
 refine W.fA (A:=[]) Φ [(0,.an 0 1 0 0),(6,.an 1 1 0 0),(9,.ab [aS G,aQ L,w8]),(10,eS [p.1,p.2])] ([b1 d2,g1 bH bH bH,.dead,.dead,.dead]++bh 60 1 (bB [] nc)) ?_ (by
  have mβ:(n2:Int)<3:=R;rcases yY with⟨cD,e⟩|⟨cD,e⟩<;>rcases yZ [] (Nat.zero_le _) with⟨ai,Γ⟩|⟨ai,Γ⟩
  ·rw[e,Γ];(try simp);(repeat (rw[Υ];simp[]));(try simp[]);refine ef.c Ν 0 rfl (bS.refl _) θ θ ?_;clear Ν y1 K1 w9;obtain rfl|rfl|rfl:n2=0\/n2=1\/n2=2:=R
   all_goals
    subst ψ;simp;(repeat (rw[Υ];simp[]));(try simp[cd])
  ·omega
  ·omega
  ·rw[e,Γ];(try simp);(repeat (rw[Υ];simp[]));(try simp[]);refine ef.c Ν 0 rfl (bS.refl _) θ θ ?_;clear Ν y1 K1 w9;obtain rfl|rfl|rfl:n2=0\/n2=1\/n2=2:=R
   all_goals
    subst ψ;simp;(repeat (rw[Υ];simp[]));(try simp[cd]))
 obtain⟨nZ,ht⟩:=aF (⟨G,L,[]⟩:aI);refine Ζ ?_;refine W.iter (λx:gΗ=>x.done.length<=nc/\x.d.bg.length<=d.bg.length/\(∀c∈x.done,yS mh c)/\x.rd.length=x.done.length/\(∀r∈x.rd,(-1<=r.1/\r.1<g)/\(-1<=r.2/\r.2<g))/\∀(c:Nat) (r:Int×Int) (aJ:List eR),x.rd[c]?=some r->x.done[c]?=some aJ->∀y∈aJ,nZ.jS p r y=true)
  (λx=>[(0,.an 0 1 0 0),(6,.an 1 1 0 0),(9,.ab [aS G,aQ L,w8]),(10,eS [p.1,p.2]),(11,cy 6 (x.rd.map Γ)),(12,J x.done.length)])
  (λx=>[b1 x.d,g1 bH bH bH,.dead,.dead,.dead]++bh 60 1 (bB x.done nc)++bh 29 1 (x.rd.map Γ)) (λx=>nc-x.done.length) ⟨d2,[],[]⟩ ⟨θ,gΚ,θ,rfl,θ,θ⟩ (by simp[iW]) (by simp[cy]) (λx γ Β=>?_)
 obtain⟨D,done,rd⟩:=x;obtain⟨k2,m9,BG,kD,K2,K3⟩:=γ;simp only at k2 m9 BG kD K2 K3 Β ⊢;obtain⟨c,xa⟩:=aF done.length;rw[<-xa] at k2 Β kD;rw[<-xa];have gΜ:(nc=0/\rd=[])\/0<nc:=by
  by_cases Θ:nc=0
  ·exact .inl ⟨Θ,dw.1 R⟩
  ·exact .inr R
 repeat apply ar
 refine W.fA (A:=[]) Φ [(33,bm (decide (c<nc))),(0,.an 0 1 0 0),(6,.an 1 1 0 0),(9,.ab [aS G,aQ L,w8]),(10,eS [p.1,p.2]),(11,cy 6 (rd.map Γ)),(12,J c)] ([b1 D,g1 bH bH bH,.dead,.dead,.dead]++bh 60 1 (bB done nc)++bh 29 1 (rd.map Γ)) ?_ (by
  have nI:(bB done nc).length=nc:=wZ R;obtain⟨R6,F5⟩:=aF (bh 29 1 (rd.map Γ));obtain⟨R7,F6⟩:=aF (cy 6 (rd.map Γ));rw[<-F5,<-F6];rcases yY with⟨cD,e⟩|⟨cD,e⟩<;>rcases yZ done R with⟨ai,Γ⟩|⟨ai,Γ⟩
  ·rw[e,Γ,ai];(try simp);(repeat (rw[Υ];simp[]));(try simp[])
  ·omega
  ·omega
  ·rw[e,Γ];(try simp);(repeat (rw[Υ];simp[nI]));(try simp[nI]))
 refine W.eM rfl (λε=>?_) (λε=>?_)
 ·have ε:c<nc:=by simpa using ε
  rcases yY with⟨cD,_⟩|⟨cD,e⟩
  ·omega
  rcases yZ done R with⟨ai,_⟩|⟨ai,BN⟩
  ·omega
  obtain⟨X,jw⟩:=aF (bB done nc);have xb:X.length=nc:=by rw[jw];exact wZ R
  have K4:X[c]?=some bH:=by rw[jw,xa];exact fΑ R
  have gΝ:∀aJ,X.set c (nR aJ)=bB (done++[aJ]) nc:=λaJ=>by rw[jw,xa];exact fΒ R aJ
  have gΞ:∀e∈X,e.cells=[e]/\ay 0 e:=by rw[jw];exact KF
  have F7:X.set c bH=X:=by
   apply List.ext_getElem?;intro i;rw[List.getElem?_set];split
   ·rename_i e;subst e;split
    ·exact K4.symm
    ·rename_i h;exact(h R).elim
   ·rfl
  have km:L.length=mh:=F4.symm
  have u4:G.length=g:=Ρ.symm;rw[e,BN,<-jw];simp only[List.cons_append,List.nil_append];obtain⟨tw,gΟ⟩:=aF ((g:Int)-1:Int);have wg:IntKind.i64.wrap ((g:Int)-1)=tw:=by rw[gΟ];exact IntWalk.i64_in _ R
  have C0:=yL D R (-1) tw;obtain⟨BO,a1⟩:=yM D (a:=-1) (b:=tw) R bD R;obtain⟨K5,BE⟩:=cZ (nO D (-1) tw);obtain⟨tx,BP⟩:=cZ (D.after (IntKind.i64.wrap (tw- -1)));have gΡ:tx.bg.length<=d.bg.length:=by rw[<-BP];exact Nat.le_trans (lB _ _) m9
  rw[BE,BP] at C0;rw[BE] at BO a1;have Dn:=yL tx R (-1) tw;obtain⟨db,bJ⟩:=yM tx (a:=-1) (b:=tw) R bD R;obtain⟨K6,AB⟩:=cZ (nO tx (-1) tw);obtain⟨j0,qN⟩:=cZ (tx.after (IntKind.i64.wrap (tw- -1)));have Rs:j0.bg.length<=d.bg.length:=by rw[<-qN];exact Nat.le_trans (lB _ _) gΡ
  rw[AB,qN] at Dn;rw[AB] at db bJ;obtain⟨r,κ⟩:=aF ((K5,K6):Int×Int);have k3:r.1=K5:=by rw[κ]
  have mU:r.2=K6:=by rw[κ]
  obtain⟨R6,F5⟩:=aF (bh 29 1 (rd.map Γ));obtain⟨R7,F6⟩:=aF (cy 6 (rd.map Γ));rw[<-F5,<-F6]
  repeat apply ar
  refine W.Rb (A:=[]) Φ mixed [(0,.an 0 1 0 0),(6,.an 1 1 0 0),(9,.ab [aS G,aQ L,.ms 5 nc 0 nc]),(10,eS [p.1,p.2]),(11,R7),(12,J c),(13,Γ r)] (b1 j0::g1 bH bH bH::.dead::.dead::.dead::.cells 60 1 X::R6) ?_ (by
   simp;(repeat (rw[pJ];simp[u4,wg]));(try rw[pI]);refine ef.e C0 (bS.refl _) θ θ ?_;simp;(repeat (rw[pJ];simp[u4,wg]));(try rw[pI]);refine ef.e Dn (bS.refl _) θ θ ?_;simp;(repeat (rw[pJ];simp[u4,wg]));(try rw[pI]);refine⟨jk (by kernel_rfl),jk (by kernel_rfl),?_⟩;simp[κ])
  obtain⟨u',F8⟩:=aF ((rd++[r]).map Γ);have mγ:u'.length=c+1:=by rw[F8];simp[kD]
  have gΤ:∀e∈u',∀a∈e.cells,ay 0 a:=by rw[F8];exact KB
  repeat apply ar
  refine W.fA (A:=[52]) Φ [(0,.an 0 1 0 0),(6,.an 1 1 0 0),(9,.ab [aS G,aQ L,.ms 5 nc 0 nc]),(10,eS [p.1,p.2]),(11,.ms 6 (c+1) 0 (c+1)),(12,J c),(13,Γ r)] (b1 j0::g1 bH bH bH::.dead::.dead::.dead::.cells 60 1 X::[.cells 29 1 u']) ?_ (by
   rw[F8,F5,F6];by_cases Θ:rd=[]
   ·subst Θ;have jM:c=0:=by simpa using kD.symm
    subst jM;have Δ:cy 6 (([]:List (Int×Int)).map Γ)=.sl true 0 []:=rfl;have a0:bh 29 1 (([]:List (Int×Int)).map Γ)=[]:=rfl;rw[Δ,a0];(try simp);(repeat (rw[Υ];simp[]));(try simp[])
   ·have kW:rd.map Γ≠[]:=by simpa using Θ
    rw[gH kW,ee kW];have hle:c<=4294967295:=R;(try simp);(repeat (rw[Υ];simp[kD,hle]));(try simp[kD,hle]))
  have Α:=Rg j0 R mh R
  have wS:=Kh j0 mh
  have vG:∀x∈(hk j0 mh).1,0<=x/\x<mh:=λx h=>Rl h
  have tt:=Rm j0 mh
  have gΥ:=Kf j0 mh;obtain⟨ord,uX⟩:=cZ ((hk j0 mh).1);obtain⟨jz,qO⟩:=cZ ((hk j0 mh).2);rw[uX] at Α wS vG tt;rw[qO] at Α gΥ;refine h5 km λΕ ζ=>?_;refine ef.g (Α) (bT ?_);apply ζ;have K7:=wT jz R mh;obtain⟨gΦ,R8⟩:=uZ jz mh R R;obtain⟨R9,R'⟩:=cZ (iA jz mh);rw[R'] at K7 gΦ R8;clear R';obtain⟨eJ,lC⟩:∃k:Nat,R9=k:=⟨R9.toNat,R⟩;obtain⟨yQ,BB⟩:=cZ (jz.after mh);have Ko:yQ.bg.length<=d.bg.length:=by rw[<-BB];exact Nat.le_trans (lB _ _) R
  rw[lC,BB] at K7;rw[lC] at R8;refine h5 km λΕ ζ=>?_;refine ef.g (K7) (bT ?_);apply ζ
  repeat apply ar
  refine W.iter (λx:fΓ=>x.aJ.length+x.k=eJ/\x.d.bg.length<=d.bg.length/\x.aJ.map (·.cQ)=((ord.take eJ).drop x.k).reverse/\∀y∈x.aJ,((0<=y.seen/\y.seen<=63)/\(0<=y.bare/\y.bare<=63)/\l7 y.seen y.bare=0)/\nZ.jS p r y=true)
   (λx=>[(0,.an 0 1 0 0),(6,.an 1 1 0 0),(9,.ab [aS G,aQ L,.ms 5 nc 0 nc]),(10,eS [p.1,p.2]),(11,.ms 6 (c+1) 0 (c+1)),(12,J c),(13,Γ r),(14,a2 J 1 ord),(15,J x.k)])
   (λx=>b1 x.d::g1 bH bH bH::.dead::.dead::.dead::.cells 60 1 (X.set c (cy 7 (x.aJ.map eO)))::.cells 29 1 u'::bh 28 3 (x.aJ.map eO)) (λx=>x.k) ⟨eJ,yQ,[]⟩
   ⟨θ,Ko,θ,θ⟩ (by simp only[List.map_nil];rw[show cy 7 []=bH from rfl,F7];rfl) θ (λx γ BA=>?_)
  obtain⟨k,E,aJ⟩:=x;obtain⟨ς,K8,gX,F9⟩:=γ;simp only at ς K8 gX F9 BA ⊢;refine Ζ ?_;refine W.eM rfl (λa8=>?_) (λa8=>?_)
  ·have lC:0<k:=by simpa using a8
   obtain⟨j,δ⟩:∃j,k=j+1:=⟨k-1,R⟩;have hw:IntKind.i64.wrap ((k:Int)-1)=j:=by rw[IntWalk.i64_in _ R];omega
   have Fo:j<ord.length:=R
   have dq:ord[j]?=some ord[j]:=a5 Fo
   have ov:=vG _ (List.getElem_mem Fo);obtain⟨K9,kp⟩:=aF (ord[j]);rw[<-kp] at dq ov;have F':∀h,ord[j]'h=K9:=λh=>kp.symm;obtain⟨qR,ek⟩:∃n:Nat,K9=n:=⟨K9.toNat,R⟩;rw[ek] at dq F' ov;have gΧ:(cy 7 (aJ.map eO)=bH/\bh 28 3 (aJ.map eO)=[]/\aJ=[])\/(cy 7 (aJ.map eO)=.ms 7 aJ.length 0 aJ.length/\bh 28 3 (aJ.map eO)=[.cells 28 3 (aJ.map eO)]/\0<aJ.length):=by
    by_cases Θ:aJ=[]
    ·subst Θ;exact .inl ⟨rfl,rfl,rfl⟩
    ·have gy:aJ.map eO≠[]:=by simpa using Θ
     exact .inr ⟨by rw[gH gy,List.length_map],ee gy,List.length_pos_iff.2 Θ⟩
   have cN:=fΔ nZ p r qR (by rw[ht];show qR<L.length;omega) (λx γ=>by rw[ht] at γ;have:=(aG.each x γ).1;omega) (by rw[ht,κ];show K5<G.length;omega) (by rw[ht,κ];show K6<G.length;omega) (b1 E::g1 bH bH bH::.dead::.dead::.dead::.cells 60 1 (X.set c (cy 7 (aJ.map eO)))::.cells 29 1 u'::bh 28 3 (aJ.map eO)) 5 nc (X.set c (cy 7 (aJ.map eO))) (by rw[List.length_set];exact xb) rfl
   have xc:0<=nZ.dU p r qR/\nZ.dU p r qR<=63:=by
    have Χ:hX ⟨G,L,[]⟩:=⟨c5,aG,θ,θ⟩;rw[ht];exact Kz Χ p r qR
   have Sa:∀a b:Int,nZ.jS p r ⟨qR,a,b⟩=(wq a (nZ.dU p r qR)==0&&l7 (nZ.dU p r qR) b==0):=λa b=>by unfold aI.jS;simp
   obtain⟨BQ,Sb⟩:=aF (nZ.dU p r qR);rw[<-Sb] at cN xc;simp only[<-Sb] at Sa;rw[ht] at cN
   repeat apply ar
   refine W.Kd (A:=[]) Φ mixed [(0,.an 0 1 0 0),(6,.an 1 1 0 0),(9,.ab [aS G,aQ L,.ms 5 nc 0 nc]),(10,eS [p.1,p.2]),(11,.ms 6 (c+1) 0 (c+1)),(12,J c),(13,Γ r),(14,a2 J 1 ord),(15,J k),(16,J BQ)] (b1 E::g1 bH bH bH::.dead::.dead::.dead::.cells 60 1 (X.set c (cy 7 (aJ.map eO)))::.cells 29 1 u'::bh 28 3 (aJ.map eO)) ?_ (by
    obtain⟨gΨ,Sc⟩:=aF (bh 28 3 (aJ.map eO));obtain⟨mδ,Sd⟩:=aF (cy 7 (aJ.map eO));rw[<-Sc,<-Sd] at cN;rw[<-Sc,<-Sd,κ];rw[κ] at cN;simp;(repeat (rw[dN];simp[hw,dq,F',wS]));(try rw[dM]);refine⟨R,?_⟩;refine Ei (ao.call (first:=[]) (captured:=[]) (ao.nD cN (.cons (.refl _) (.cons .ex (.cons .ex (.cons (.refl _) .nil)))) (λa s h=>⟨_,.refl _,h⟩))) ?_;simp;(repeat (rw[dN];simp[]));(try rw[dM]);refine⟨jk (by kernel_rfl),?_⟩;simp)
   have La:=wT E R 63;obtain⟨BO,a1⟩:=uZ E 63 bD bD;obtain⟨p1,qs⟩:=cZ (iA E 63);obtain⟨pS,Se⟩:=cZ (E.after 63);have gΩ:pS.bg.length<=d.bg.length:=by rw[<-Se];exact Nat.le_trans (lB _ _) K8
   rw[qs,Se] at La;rw[qs] at BO a1;have pick:∀(F:cB) (x:Int),0<=x->x<=63->0<=([63,x]:List Int).getD (tq F [63,x]) 0/\([63,x]:List Int).getD (tq F [63,x]) 0<=63:=λF x I U=>by
    match tq F [63,x] with
    | 0=>simp
    | 1=>simp;omega
    | n+2=>simp
   have lq:=Re pS R [63,p1] θ θ
   have Lb:=pick pS p1 BO a1;obtain⟨dz,Sf⟩:=cZ (([63,p1]:List Int).getD (tq pS [63,p1]) 0);obtain⟨pT,Sg⟩:=cZ (pS.after ((([63,p1]:List Int).length:Int)-1));have hα:pT.bg.length<=d.bg.length:=by rw[<-Sg];exact Nat.le_trans (lB _ _) gΩ
   rw[Sf,Sg] at lq;rw[Sf] at Lb;have Bh:=wT pT R 63;obtain⟨db,bJ⟩:=uZ pT 63 bD bD;obtain⟨k6,mI⟩:=cZ (iA pT 63);obtain⟨BR,Si⟩:=cZ (pT.after 63);have hβ:BR.bg.length<=d.bg.length:=by rw[<-Si];exact Nat.le_trans (lB _ _) hα
   rw[mI,Si] at Bh;rw[mI] at db bJ;have oA:=Re BR R [63,k6] θ θ;have Lc:=pick BR k6 db bJ;obtain⟨hZ,Sj⟩:=cZ (([63,k6]:List Int).getD (tq BR [63,k6]) 0);obtain⟨Ld,Sk⟩:=cZ (BR.after ((([63,k6]:List Int).length:Int)-1));have hγ:Ld.bg.length<=d.bg.length:=by rw[<-Sk];exact Nat.le_trans (lB _ _) hβ
   rw[Sj,Sk] at oA;rw[Sj] at Lc;obtain⟨Sl,_,_⟩:=Kr xc Lb;obtain⟨_,rN,p8⟩:=Kr Lc xc;obtain⟨ua,Le⟩:=gΕ xc Lb Lc;obtain⟨Sm,dO⟩:=cZ (e4 .i64 BQ dz);obtain⟨Cl,ru⟩:=cZ (k7 .i64 hZ BQ);rw[dO] at Sl ua Le;rw[ru] at rN p8 Le;obtain⟨vl,Lf⟩:=aF (⟨qR,Sm,Cl⟩:eR);have bA:(aJ++[vl]).map eO≠[]:=θ
   repeat apply ar
   refine W.Rb (A:=[105]) Φ mixed [(0,.an 0 1 0 0),(6,.an 1 1 0 0),(9,.ab [aS G,aQ L,.ms 5 nc 0 nc]),(10,eS [p.1,p.2]),(11,.ms 6 (c+1) 0 (c+1)),(12,J c),(13,Γ r),(14,a2 J 1 ord),(15,J k)] (b1 Ld::g1 bH bH bH::.dead::.dead::.dead::.cells 60 1 (X.set c (cy 7 ((aJ++[vl]).map eO)))::.cells 29 1 u'::bh 28 3 ((aJ++[vl]).map eO)) ?_ (by
    rw[gH bA,ee bA,List.length_map,List.length_append,List.map_append,List.map_cons,List.map_nil,Lf];rcases gΧ with⟨f1,f2,f3⟩|⟨f1,f2,f3⟩
    ·rw[f1,f2,F7,f3];simp;(repeat (rw[pJ];simp[hw,dq,F',wS,xb,K4]));(try rw[pI]);refine⟨R,R,?_⟩;refine ef.h (La) (yK ?_);refine ef.e lq (.cons .ex .nil) θ θ ?_;simp[dO];(repeat (rw[pJ];simp[dO]));(try rw[pI]);refine ef.h (Bh) (yK ?_);refine ef.e oA (.cons .ex .nil) θ θ ?_;simp[ru];(repeat (rw[pJ];simp[ru,xb,K4]));(try rw[pI]);refine⟨R,?_⟩;refine⟨jk (by kernel_rfl),jk (by kernel_rfl),?_⟩;simp
    ·rw[f1,f2];have Sn:∀v,(X.set c v)[c]?=some v:=λv=>by rw[List.getElem?_set_self R]
     have So:∀v h,(X.set c v)[c]'h=v:=λv h=>List.getElem_set_self h;simp;(repeat (rw[pJ];simp[hw,dq,F',wS,xb,Sn,So]));(try rw[pI]);refine⟨R,R,?_⟩;refine ef.h (La) (yK ?_);refine ef.e lq (.cons .ex .nil) θ θ ?_;simp[dO];(repeat (rw[pJ];simp[dO]));(try rw[pI]);refine ef.h (Bh) (yK ?_);refine ef.e oA (.cons .ex .nil) θ θ ?_;simp[ru];(repeat (rw[pJ];simp[ru,xb,Sn,So]));(try rw[pI]);refine⟨R,R,?_⟩;refine⟨jk (by kernel_rfl),jk (by kernel_rfl),?_⟩;simp)
   refine aR hw ?_;have k':(ord.take eJ).drop j=(qR:Int)::(ord.take eJ).drop k:=by
    have hF:j<(ord.take eJ).length:=by rw[List.length_take];omega
    rw[List.drop_eq_getElem_cons hF,δ,List.getElem_take,<-kp,ek]
   refine W.to (BA ⟨j,Ld,aJ++[vl]⟩ ⟨by show(aJ++[vl]).length+j=eJ;rw[List.length_append];simp;omega,hγ,?_,λy Ο=>?_⟩ (by show j<k;omega)) θ (by simp[hw])
   ·show(aJ++[vl]).map (·.cQ)=((ord.take eJ).drop j).reverse;rw[k',List.map_append,gX,List.reverse_cons,Lf];rfl
   ·rcases List.mem_append.1 Ο with Ο|Ο
    ·exact F9 y Ο
    ·simp at Ο;subst Ο;subst Lf;refine⟨⟨Sl,rN,Le⟩,?_⟩;rw[Sa];have vD:wq Sm BQ=0:=ua;have q9:l7 BQ Cl=0:=p8;rw[vD,q9];rfl
  ·have lC:k=0:=by simp at a8;omega
   subst lC;have mε:aJ.length=eJ:=R;rw[List.drop_zero] at gX;have o0:yS mh aJ:=by
    refine⟨R,?_,λy Ο=>?_⟩
    ·rw[gX];unfold List.Nodup;rw[List.pairwise_reverse];exact(tt.sublist (List.take_sublist _ _)).imp Ne.symm
    ·have hm:y.cQ∈aJ.map (·.cQ):=List.mem_map.2 ⟨y,Ο,rfl⟩;rw[gX,List.mem_reverse] at hm;have:=vG _ (List.mem_of_mem_take hm);obtain⟨⟨Τ,af,aZ⟩,_⟩:=F9 y Ο;exact⟨this,Τ,af,aZ⟩
   have hw:IntKind.i64.wrap ((c:Int)+1)=((c+1:Nat):Int):=by rw[IntWalk.i64_in _ R];omega
   have hδ:(done++[aJ]).length=c+1:=by simp;omega
   have y2:=Β ⟨E,done++[aJ],rd++[r]⟩ ⟨by show(done++[aJ]).length<=nc;omega,K8,λx γ=>by
    rcases List.mem_append.1 γ with γ|γ
    ·exact BG x γ
    ·simp at γ;subst γ;exact o0,by show(rd++[r]).length=_;simp[kD,xa],λy Ο=>by
    rcases List.mem_append.1 Ο with Ο|Ο
    ·exact K2 y Ο
    ·simp at Ο;subst Ο;rw[k3,mU];omega,λx y z I U=>by
    by_cases γ:x<c
    ·rw[dE R] at I U;exact K3 x y z I U
    ·rw[gl R] at I U;have Δ:x-rd.length=x-c:=by rw[kD]
     rw[Δ] at I;rw[<-xa] at U;cases BS:x-c with
     | zero=>rw[BS] at I U;simp at I U;subst I;subst U;exact λy Ο=>(F9 y Ο).2
     | succ q=>rw[BS] at I;simp at I⟩ (by show nc-(done++[aJ]).length<nc-c;omega)
   have hε:bB (done++[aJ]) nc≠[]:=λh=>by
    have:=wZ (done:=done++[aJ]) (nc:=nc) R;rw[h] at this;simp at this;omega
   have Sp:(rd++[r]).map Γ≠[]:=θ
   have hζ:((rd++[r]).map Γ).length=c+1:=by simp[kD]
   simp only[hδ] at y2;rw[ee hε,ee Sp,gH Sp,hζ,<-F8,<-gΝ aJ,e] at y2;refine W.exit rfl ?_;by_cases Θ:aJ=[]
   ·subst Θ;rw[show nR []=bH from rfl,F7] at y2;rw[show cy 7 (([]:List eR).map eO)=bH from rfl,show bh 28 3 (([]:List eR).map eO)=[] from rfl,F7];refine aR hw ?_;exact W.to y2 rfl (by simp[hw])
   ·have gy:aJ.map eO≠[]:=by simpa using Θ
    have y1:nR aJ=.sl false 3 (aJ.map eO):=by unfold nR fM;rw[if_neg (by simpa using Θ)]
    rw[y1] at y2;rw[gH gy,ee gy];refine W.u5 (σ':=b1 E::g1 bH bH bH::.dead::.dead::.dead::.cells 60 1 (X.set c (.sl false 3 (aJ.map eO)))::.cells 29 1 u'::[.dead]) (id:=7) θ rfl rfl rfl (λi r hi κ=>?_) [(0,.an 0 1 0 0),(6,.an 1 1 0 0),(9,.ab [aS G,aQ L,.ms 5 nc 0 nc]),(10,eS [p.1,p.2]),(11,.ms 6 (c+1) 0 (c+1)),(12,J c)] (λp ψ=>by
     simp only[List.mem_cons,List.not_mem_nil,or_false] at ψ;rcases ψ with rfl|rfl|rfl|rfl|rfl|rfl<;>exact .same _) ?_
    ·match i,hi,κ with
     | 0,_,κ=>exact⟨r,κ,.inl rfl⟩
     | 1,_,κ=>exact⟨r,κ,.inl rfl⟩
     | 2,_,κ=>exact⟨r,κ,.inl rfl⟩
     | 3,_,κ=>exact⟨r,κ,.inl rfl⟩
     | 4,_,κ=>exact⟨r,κ,.inl rfl⟩
     | 5,_,κ=>
      simp at κ;subst κ;refine⟨_,rfl,.inr ⟨60,1,_,_,rfl,rfl,θ,λy e aM I U=>?_⟩⟩;by_cases Ο:y=c
      ·subst Ο;rw[List.getElem?_set_self R] at I U;cases I;cases U;refine⟨rfl,λx a cn ξ Κ=>?_⟩
       match x with
       | 0=>simp[η.cells] at ξ Κ;subst ξ;subst Κ;have:=sa.ms (id:=7) (k:=3) (l:=aJ.map eO);rwa [List.length_map] at this
       | x+1=>simp[η.cells] at ξ
      ·rw[List.getElem?_set_ne (Ne.symm Ο)] at I U;rw[I] at U;cases U;exact⟨rfl,λx a cn ξ Κ=>by rw[ξ] at Κ;cases Κ;exact .same _⟩
     | 6,_,κ=>exact⟨r,κ,.inl rfl⟩
     | 7,h,_=>exact absurd rfl h
     | i+8,_,κ=>simp at κ
    refine W.drop (h:=7) θ θ (λi r hi κ=>?_) rfl [(0,.an 0 1 0 0),(6,.an 1 1 0 0),(9,.ab [aS G,aQ L,.ms 5 nc 0 nc]),(10,eS [p.1,p.2]),(11,.ms 6 (c+1) 0 (c+1)),(12,J c)] ?_ ?_
    ·match i,hi,κ with
     | 0,_,κ=>simp at κ;subst κ;exact u2 E 7
     | 1,_,κ=>simp at κ;subst κ;intro e he a μ;simp[η.cells] at he;subst he;simp[η.cells] at μ;subst μ;simp
     | 2,_,κ=>simp at κ;subst κ;trivial
     | 3,_,κ=>simp at κ;subst κ;trivial
     | 4,_,κ=>simp at κ;subst κ;trivial
     | 5,_,κ=>
      simp at κ;subst κ;intro e he a μ;rcases List.mem_or_eq_of_mem_set he with he|rfl
      ·obtain⟨I,U⟩:=gΞ e he;rw[I] at μ;simp at μ;subst μ;exact U.mono (Nat.zero_le _)
      ·simp[η.cells] at μ;subst μ;have:=RN aJ;rw[y1] at this;exact this.mono (Nat.zero_le _)
     | 6,_,κ=>simp at κ;subst κ;exact λe he a μ=>(gΤ e he a μ).mono (Nat.zero_le _)
     | i+7,h,_=>omega
    ·intro p ψ;simp only[List.mem_cons,List.not_mem_nil,or_false] at ψ;rcases ψ with rfl|rfl|rfl|rfl|rfl|rfl
     ·exact⟨rfl,lb.2 R⟩
     ·exact⟨rfl,lb.2 R⟩
     ·refine⟨rfl,N4.2 λa μ=>?_⟩;simp only[List.mem_cons,List.not_mem_nil,or_false] at μ;rcases μ with rfl|rfl|rfl
      ·exact(hh.2 ts:ay 0 _).mono (Nat.zero_le _)
      ·exact(hh.2 u6:ay 0 _).mono (Nat.zero_le _)
      ·exact oc.2 R
     ·exact⟨rfl,θ⟩
     ·exact⟨rfl,oc.2 R⟩
     ·exact⟨rfl,.z _⟩
    refine aR hw ?_;exact W.to y2 rfl (by simp[hw])
 ·have ε:c=nc:=by simp at ε;omega
  subst ε;refine W.exit rfl ?_;have qc:hX ⟨G,L,done⟩:=⟨c5,aG,by show done.length<=4;omega,λx γ=>by show yS L.length x;rw[<-F4];exact BG x γ⟩;have hη:bB done c=done.map nR:=by rw[xa];exact fω
  have A7:KY most cells ⟨G,L,done⟩ p rd:=⟨⟨n2,e8,ψ⟩,qc,by show done.length<=cells;omega,Kp,by show rd.length=done.length;omega,λr κ=>by show(-1<=r.1/\r.1<G.length)/\_;rw[<-Ρ];exact K2 r κ,λx y h=>by
   unfold aI.nF;show((done[x]?).getD []).all _=true;cases γ:done[x]? with
   | none=>rfl
   | some aJ=>
    refine List.all_eq_true.2 λz Θ=>?_;have:=K3 x y aJ h γ z Θ;rw[ht] at this;exact this⟩
  have hθ:cW (.aV [aS G,aQ L,.sl false 1 (done.map nR)]) (fs ⟨G,L,done⟩):=by
   refine .aV (.cons (.refl _) (.cons (.refl _) (.cons ?_ .nil)));exact .map λx _=>.one .acc (RO x) rfl
  have hι:cW (.sl false 1 (rd.map Γ)) (aQ (h9 rd)):=by
   show cW (.sl false 1 (rd.map Γ)) (.sl false 1 ((h9 rd).map (a2 J 1)));rw[List.map_map];exact .map λr _=>.one .ex rfl rfl
  rcases yY with⟨cD,e⟩|⟨cD,e⟩<;>rcases yZ done R with⟨ai,BN⟩|⟨ai,BN⟩
  ·have BT:rd=[]:=by rcases gΜ with⟨_,h⟩|h;exact h;omega
   have hκ:done=[]:=dw.1 R;rw[e,BN,BT];rw[show cy 6 (([]:List (Int×Int)).map Γ)=bH from rfl,show bh 29 1 (([]:List (Int×Int)).map Γ)=[] from rfl];refine Ζ ?_;refine W.cut 1 θ [(6,.ab [aS G,aQ L,bH]),(7,eS [p.1,p.2]),(8,bH)] θ (λid r b0 κ=>?_) (λz Θ=>?_) ?_
   ·have:id=0:=by omega
    subst this;simp at κ;subst κ;exact u2 D 1
   ·simp only[List.mem_cons,List.not_mem_nil,or_false] at Θ;rcases Θ with rfl|rfl|rfl
    ·show eD 1 _ (a6 _ 6) _;simp;refine .struct θ (show _=some (Row.cells _ _ [.aV _]) from rfl) rfl λx a cn I U=>?_
     match x with
     | 0=>simp at I U;subst I;subst U;exact .low ((hh.2 ts:ay 0 _).mono (Nat.zero_le _))
     | 1=>simp at I U;subst I;subst U;exact .low ((hh.2 u6:ay 0 _).mono (Nat.zero_le _))
     | 2=>simp at I U;subst I;subst U;exact .low θ
     | x+3=>simp at U
    ·exact .low θ
    ·exact .low θ
   ·refine W.ret ⟨_,rfl,_,D,?_,⟨_,p,rd,rfl,A7⟩,rfl,m9⟩;rw[hκ,BT];exact .bw (.cons (.aV (.cons (.refl _) (.cons (.refl _) (.cons .nil .nil)))) (.cons .ex (.cons .nil .nil)))
  ·omega
  ·omega
  ·have nI:(bB done c).length=c:=wZ R
   have BT:rd.map Γ≠[]:=λh=>by
    have:(rd.map Γ).length=0:=by rw[h];rfl
    rw[List.length_map] at this;omega
   rw[e,BN,gH BT,ee BT,List.length_map,kD];refine aR nI ?_;refine W.cut 1 θ [(6,.ab [aS G,aQ L,.sl false 1 (bB done c)]),(7,eS [p.1,p.2]),(8,.sl false 1 (rd.map Γ))] θ (λid r b0 κ=>?_) (λz Θ=>?_) ?_
   ·have:id=0:=by omega
    subst this;simp at κ;subst κ;exact u2 D 1
   ·simp only[List.mem_cons,List.not_mem_nil,or_false] at Θ;rcases Θ with rfl|rfl|rfl
    ·show eD 1 _ (a6 _ 6) _;simp;refine .struct θ (show _=some (Row.cells _ _ [.aV _]) from rfl) rfl λx a cn I U=>?_
     match x with
     | 0=>simp at I U;subst I;subst U;exact .low ((hh.2 ts:ay 0 _).mono (Nat.zero_le _))
     | 1=>simp at I U;subst I;subst U;exact .low ((hh.2 u6:ay 0 _).mono (Nat.zero_le _))
     | 2=>simp at I U;subst I;subst U;exact .own (t:=60) θ rfl nI (λe he a μ=>by
       obtain⟨e3,eK⟩:=KF e he;rw[e3] at μ;simp at μ;subst μ;exact eK.mono (Nat.zero_le _))
     | x+3=>simp at U
    ·exact .low θ
    ·show eD 1 _ (a6 _ 8) _;simp;exact .own (t:=29) (id:=6) θ rfl (by simp[kD]) (λe he a μ=>(KB e he a μ).mono (Nat.zero_le _))
   ·rw[hη];exact W.ret ⟨_,rfl,_,D,.bw (.cons hθ (.cons .ex (.cons hι .nil))),⟨_,p,rd,rfl,A7⟩,rfl,m9⟩
end Go.TL
namespace Go.TL
open Go.Conc Go.Proofs
variable [bt]
theorem W.eG {P:Program} {m nt:Nat} {k:List Item} {env:aa} {σ:List Row} {Z:List Item->aa->List Row->Prop} {E:η->aa->List Row->Prop} (env':aa) (cK:∀p∈env',cW (a6 env p.1) p.2) (hW:W P m nt k env' σ Z E):W P m nt k env σ Z E:=
 λQ mn x cs b S B H t γ hb ψ Θ he=>by
 have v3:∀(l:aa),(∀p∈l,cW (a6 env p.1) p.2)->∀i,cW (a6 env i) (a6 l i):=by
  intro l
  induction l with
  | nil=>intro _ i;exact .cp _
  | cons p l Β=>
   intro υ i;simp only[a6];split
   ·rename_i e;rw[<-e];exact υ p θ
   ·exact Β (λq Ψ=>υ q (by simp[Ψ])) i
 exact hW Q mn x cs b S B H t γ hb ⟨ψ.holds,λi=>v3 env' cK i S B σ _ (ψ.cx i),ψ.size,ψ.rows⟩ Θ he
theorem tu.Sq {id k kk:Nat} {t:TypeId} {M l:List η} {a:η} {n:Nat} (Η:n=l.length):tu id k l (.cells t kk (M++[.aV [a,.ms id n 0 n]])) (.cells t kk (M++[.aV [a,.sl false k l]])):=by
 subst Η;refine .inr ⟨t,kk,_,_,rfl,rfl,θ,λi e aM I U=>?_⟩;by_cases hi:i<M.length
 ·rw[dE hi] at I U;rw[I] at U;cases U;exact⟨rfl,λx a cn ξ Κ=>by rw[ξ] at Κ;cases Κ;exact .same _⟩
 ·rw[gl R] at I U;obtain⟨j,δ⟩:=aF (i-M.length);rw[<-δ] at I U
  match j with
  | 0=>
   simp at I U;subst I;subst U;refine⟨rfl,λx a cn ξ Κ=>?_⟩
   match x with
   | 0=>simp[η.cells] at ξ Κ;subst ξ;subst Κ;exact .same _
   | 1=>simp[η.cells] at ξ Κ;subst ξ;subst Κ;exact .ms
   | x+2=>simp[η.cells] at ξ
  | j+1=>simp at I
abbrev ew:=(Int×Int)×List (Int×Int)
abbrev lF (x:ew):η:=.aV [a2 J 1 [x.1.1,x.1.2],aQ (h9 x.2)]
abbrev j2 (l:List ew):η:=.sl false 2 (l.map lF)
def kA (p:Int×Int) (C:List (Int×Int)):List ew->List ew->List ew
 | acc,[]=>acc
 | acc,x::xs=>if acc.length<=400 then kA p C (acc++C.map λr=>(p,x.2++[r])) xs else acc
def hL (s:aI) (p:Int×Int):Nat->List ew
 | 0=>[(p,[])]
 | c+1=>kA p (ev s p c) [] (hL s p c)
def eg (s:aI) (i:Nat):List ew:=(List.range i).flatMap λk=>hL s (cd k) s.cells.length
theorem Sr (p:Int×Int) (C:List (Int×Int)):∀(xs acc:List ew) (m:Nat),acc.length<=400+m->C.length<=m->(kA p C acc xs).length<=400+m
 | [],acc,m,h,_=>h
 | x::xs,acc,m,h,ε=>by
  unfold kA;split
  ·exact Sr p C xs _ m (by simp;omega) ε
  ·exact h
theorem Lg {s:aI} (h:hX s) (p:Int×Int) (c:Nat):(hL s p c).length<=449:=by
 cases c with
 | zero=>simp[hL]
 | succ c=>exact Sr p _ _ _ 49 θ (BL h p c)
theorem Ss {s:aI} (h:hX s) (i:Nat):(eg s i).length<=i*449:=by
 induction i with
 | zero=>simp[eg]
 | succ i Β=>
  have:eg s (i+1)=eg s i++hL s (cd i) s.cells.length:=by simp[eg,List.range_succ]
  rw[this,List.length_append];have:=Lg h (cd i) s.cells.length;omega
theorem hμ (p:Int×Int) (C:List (Int×Int)) (acc xs:List ew) (h:¬acc.length<=400):kA p C acc xs=acc:=by
 cases xs with
 | nil=>rfl
 | cons x xs=>unfold kA;rw[if_neg h]
theorem hν {s:aI} {p:Int×Int}:∀(c:Nat) (x:ew),x∈hL s p c->x.1=p/\x.2.length=c:=by
 have key:∀(C:List (Int×Int)) (c:Nat) (xs acc:List ew),(∀x∈xs,x.1=p/\x.2.length=c)->(∀x∈acc,x.1=p/\x.2.length=c+1)->∀x∈kA p C acc xs,x.1=p/\x.2.length=c+1:=by
  intro C c xs
  induction xs with
  | nil=>intro acc _ U x γ;exact U x γ
  | cons y xs Β=>
   intro acc I U;unfold kA;split
   ·refine Β _ (λx γ=>I x (by simp[γ])) λx γ=>?_;rcases List.mem_append.1 γ with γ|γ
    ·exact U x γ
    ·obtain⟨r,_,rfl⟩:=List.mem_map.1 γ;have:=(I y θ).2;simp[this]
   ·exact U
 intro c
 induction c with
 | zero=>intro x γ;simp[hL] at γ;subst γ;exact⟨rfl,rfl⟩
 | succ c Β=>exact key _ c _ _ Β θ
end Go.TL
namespace Go.TL
open Go.Proofs
variable [bt]
theorem Ga {L:List ew}:∀e∈L.map lF,∀a∈e.cells,ay 0 a:=λe he a μ=>by
 obtain⟨x,_,rfl⟩:=List.mem_map.1 he;simp[η.cells] at μ;rcases μ with rfl|rfl
 ·simp
 ·exact hh.2 u6
abbrev lG (x:ew):η:=.aV [eS [x.1.1,x.1.2],aQ (h9 x.2)]
theorem St {L:List ew}:∀e∈L.map lG,∀a∈e.cells,ay 0 a:=λe he a μ=>by
 obtain⟨x,_,rfl⟩:=List.mem_map.1 he;simp[η.cells] at μ;rcases μ with rfl|rfl
 ·simp
 ·exact hh.2 u6
theorem hξ {M:List ew}:cW (.sl false 2 (M.map lG)) (j2 M):=.map λx _=>.cons .ex (.cons (.refl _) .nil)
def sc (M:List ew):List Row:=if M.isEmpty then [] else [.dead,.cells 54 2 (M.map lG)]
def sd (q:Nat) (M:List ew):η:=if M.isEmpty then .sl true 0 [] else .ms (q+1) M.length 0 M.length
theorem Gb {M:List ew} (h:M≠[]):sc M=[.dead,.cells 54 2 (M.map lG)]:=by unfold sc;rw[if_neg (by simpa using h)]
theorem Gc {q:Nat} {M:List ew} (h:M≠[]):sd q M=.ms (q+1) M.length 0 M.length:=by unfold sd;rw[if_neg (by simpa using h)]
def oK (i:Nat) (L:List ew):η:=if i=0 then .sl true 0 [] else .ms 0 L.length 0 L.length
def nb (i:Nat) (L:List ew):List Row:=if i=0 then [] else [.cells 54 2 (L.map lF)]
theorem hο {i h:Nat} {L:List ew}:∀r∈nb i L,eW h r:=λr κ=>by
 unfold nb at κ;split at κ
 ·cases κ
 ·simp at κ;subst κ;exact λe he a μ=>(Ga e (by simpa using he) a μ).mono (Nat.zero_le _)
theorem hπ {i:Nat} {L:List ew}:ay (nb i L).length (oK i L):=by
 unfold oK nb;split
 ·simp
 ·exact oc.2 θ
theorem hρ (s:aI) (h:hX s):aD Tryz.prog 33 [fs s] (.bw [j2 (eg s 3),bm (decide ((eg s 3).length<=400)),bm true]):=by
 refine ao.body Φ Tryz.func33 rfl rfl Tryz.ntmps33 rfl rfl θ ?_;refine Ζ ?_;have mζ:=h.many;refine W.iter (λi:Nat=>i<=3) (λi=>[(1,.ab [aS s.ag,aQ s.ak,bl s.cells]),(5,.sl true 1 BM),(6,oK i (eg s i)),(7,J i)]) (λi=>nb i (eg s i)) (λi=>3-i) 0 bD (by simp[nb]) (by simp[oK]) (λi hi Β=>?_);have KE:=Ss h i;have mH:eg s (i+1)=eg s i++hL s (cd i) s.cells.length:=by simp[eg,List.range_succ]
 obtain⟨O,cO⟩:=aF (eg s i);rw[<-cO] at KE mH;refine W.to (σ':=nb i O) (env':=[(1,.ab [aS s.ag,aQ s.ak,bl s.cells]),(5,.sl true 1 BM),(6,oK i O),(7,J i)]) ?_ (by rw[cO]) (by rw[cO];simp);refine Ζ ?_;refine W.eM rfl (λε=>?_) (λε=>?_)
 ·have fC:i<3:=by simp at ε;omega
  obtain⟨ψ,gf⟩:=R3 i fC;have w9:=KV i fC;obtain⟨p,JN⟩:=aF (cd i);rw[<-JN] at ψ gf w9 mH;have Su:=fφ s h p w9;obtain⟨kB,Lh⟩:=aF ((List.range s.cells.length).map λc=>h9 (ev s p c));rw[<-Lh] at Su;have hς:kB.length=s.cells.length:=by rw[Lh];simp
  obtain⟨kS,Gd⟩:=aF BM;have BU:kS.length=3:=by rw[Gd];rfl
  have Sv:ay 0 (.sl true 1 kS):=by rw[Gd];simp
  rw[<-Gd] at ψ gf ⊢;obtain⟨mi,Li⟩:=aF (oK i O);obtain⟨fX,Ge⟩:=aF (nb i O);have Sw:∀h,∀r∈fX,eW h r:=λh=>by rw[Ge];exact hο
  have Sx:ay fX.length mi:=by rw[Li,Ge];exact hπ
  rw[<-Li,<-Ge]
  repeat apply ar
  refine W.Kd (A:=[]) Φ mixed [(1,.ab [aS s.ag,aQ s.ak,bl s.cells]),(5,.sl true 1 kS),(6,mi),(7,J i),(8,mg kB),(9,bm true)] fX ?_ (by
   simp;(repeat (rw[dN];simp[ψ,gf,BU]));(try rw[dM]);refine⟨R,?_⟩;refine gv (aD.p Su (.cons (.refl _) (.cons .ex .nil)) θ θ) ?_;simp;(repeat (rw[dN];simp[]));(try rw[dM]);refine⟨jk (by kernel_rfl),?_⟩;simp)
  refine Ζ ?_;refine aj rfl ?_
  repeat apply ar
  refine W.fA (A:=[]) Φ [(1,.ab [aS s.ag,aQ s.ak,bl s.cells]),(5,.sl true 1 kS),(6,mi),(7,J i),(8,mg kB),(10,.sl true 2 [.aV [eS [p.1,p.2],.sl true 0 []]])] fX ?_ (by
   (try simp);(repeat (rw[Υ];simp[ψ,gf,BU]));(try simp[ψ,gf,BU]);omega)
  refine W.eG [(1,.ab [aS s.ag,aQ s.ak,bl s.cells]),(5,.sl true 1 kS),(6,mi),(7,J i),(8,mg kB),(10,j2 (hL s p 0))] ?_ ?_
  ·intro z Θ;simp only[List.mem_cons,List.not_mem_nil,or_false] at Θ;rcases Θ with rfl|rfl|rfl|rfl|rfl|rfl
   ·exact .refl _
   ·exact .refl _
   ·exact .refl _
   ·exact .refl _
   ·exact .refl _
   ·show cW (.sl true 2 [.aV [eS [p.1,p.2],.sl true 0 []]]) (.sl false 2 ([(p,[])].map lF));refine .sl rfl λi a b I U=>?_
    match i with
    | 0=>simp at I U;subst I;subst U;exact .cons .ex (.cons .nil .nil)
    | i+1=>simp at I
  refine Ζ ?_;refine W.iter (λc:Nat=>c<=s.cells.length) (λc=>[(1,.ab [aS s.ag,aQ s.ak,bl s.cells]),(5,.sl true 1 kS),(6,mi),(7,J i),(8,mg kB),(10,j2 (hL s p c)),(11,J c)]) (λ_=>fX) (λc=>s.cells.length-c) 0 (Nat.zero_le _) rfl θ (λc n8 gk=>?_);have hτ:=Lg h p c;have Lj:hL s p (c+1)=kA p (ev s p c) [] (hL s p c):=rfl;have mη:=Lg h p (c+1);obtain⟨S,ff⟩:=aF (hL s p c);rw[<-ff] at hτ Lj;refine W.to (σ':=fX) (env':=[(1,.ab [aS s.ag,aQ s.ak,bl s.cells]),(5,.sl true 1 kS),(6,mi),(7,J i),(8,mg kB),(10,j2 S),(11,J c)]) ?_ rfl (by rw[ff];simp);refine aR hς ?_;by_cases ε:c<s.cells.length
  ·refine al (by simp[ε]) ?_;have s8:kB[c]?=some (h9 (ev s p c)):=by rw[Lh];simp[ε]
   have uG:=BL h p c;obtain⟨ah,bc⟩:=aF (ev s p c);rw[<-bc] at s8 Lj uG;have Gf:∀h,kB[c]'h=h9 ah:=λh=>by rw[a5 h] at s8;simpa using s8
   have Lk:c<kB.length:=R
   have te:=iC (i:=c) R;obtain⟨q,Ψ⟩:=aF fX.length;refine Ζ ?_;refine W.iter (ι:=Nat×List ew) (λx=>x.1<=S.length/\kA p ah x.2 (S.drop x.1)=hL s p (c+1)/\x.2.length<=449) (λx=>[(1,.ab [aS s.ag,aQ s.ak,bl s.cells]),(5,.sl true 1 kS),(6,mi),(7,J i),(8,mg kB),(10,j2 S),(11,J c),(12,sd q x.2),(13,J x.1)]) (λx=>fX++sc x.2) (λx=>S.length-x.1) (0,[]) ⟨Nat.zero_le _,Lj.symm,θ⟩ (by simp[sc]) (by simp[sd]) (λx γ kr=>?_);obtain⟨k,M⟩:=x;obtain⟨ij,ej,jH⟩:=γ;simp only at ij ej jH kr ⊢;have Gg:(M=[]/\sd q M=.sl true 0 []/\sc M=[])\/(M≠[]/\sd q M=.ms (q+1) M.length 0 M.length/\sc M=[.dead,.cells 54 2 (M.map lG)]):=by
    by_cases Θ:M=[]
    ·exact .inl ⟨Θ,by rw[Θ];rfl,by rw[Θ];rfl⟩
    ·exact .inr ⟨Θ,Gc Θ,Gb Θ⟩
   obtain⟨Gh,Ll⟩:=aF (sd q M);obtain⟨Sy,Lm⟩:=aF (sc M);rw[<-Ll,<-Lm] at Gg;rw[<-Ll,<-Lm]
   repeat apply ar
   refine W.fA (A:=[]) Φ [(56,bm (decide (k<S.length)&&decide (M.length<=400))),(1,.ab [aS s.ag,aQ s.ak,bl s.cells]),(5,.sl true 1 kS),(6,mi),(7,J i),(8,mg kB),(10,j2 S),(11,J c),(12,Gh),(13,J k)] (fX++Sy) ?_ (by
    by_cases mj:k<S.length
    ·rcases Gg with⟨Δ,Γ,a0⟩|⟨Δ,Γ,a0⟩
     ·rw[Γ,a0];(try simp);(repeat (rw[Υ];simp[mj]));(try simp[mj]);simp[Δ]
     ·rw[Γ,a0];have bF:(fX++[Row.dead,Row.cells 54 2 (M.map lG)])[q+1]?=some (Row.cells 54 2 (M.map lG)):=by rw[Ψ];simp
      (try simp);(repeat (rw[Υ];simp[mj,bF]));(try simp[mj,bF]);omega
    ·obtain⟨mθ,mι⟩:=aF Gh;(try simp);(repeat (rw[Υ];simp[mj]));(try simp[mj]))
   by_cases hgo:k<S.length/\M.length<=400
   ·obtain⟨mj,Sz⟩:=hgo;refine al (by simp[mj,Sz]) ?_;have SA:=a5 mj;have Ln:=List.getElem_mem mj;have SB:=List.drop_eq_getElem_cons mj;obtain⟨x,γ⟩:=aF (S[k]);rw[<-γ] at SA Ln SB;have mκ:∀h,S[k]'h=x:=λh=>γ.symm;rw[ff] at Ln;obtain⟨qs,mI⟩:=hν c x Ln;have hυ:kA p ah (M++ah.map λr=>(p,x.2++[r])) (S.drop (k+1))=hL s p (c+1):=by
     rw[SB] at ej;unfold kA at ej;rw[if_pos Sz] at ej;exact ej
    have tf:=iC (i:=k) R;obtain⟨va,BV⟩:=aF (λj=>M++(ah.take j).map λr=>(p,x.2++[r]):Nat->List ew);have SC:va 0=M:=by rw[BV];simp
    have ox:∀j,(δ:j<ah.length)->va (j+1)=va j++[(p,x.2++[ah[j]])]:=λj δ=>by
     rw[BV];simp only;rw[List.take_succ_eq_append_getElem δ,List.map_append,List.append_assoc];rfl
    have KC:∀j,(va j).length<=400+j:=λj=>by rw[BV];simp;omega
    have Gi:va ah.length=M++ah.map λr=>(p,x.2++[r]):=by rw[BV];simp
    clear BV;rw[Ll,Lm];refine Ζ ?_;refine W.iter (λj:Nat=>j<=ah.length) (λj=>[(1,.ab [aS s.ag,aQ s.ak,bl s.cells]),(5,.sl true 1 kS),(6,mi),(7,J i),(8,mg kB),(10,j2 S),(11,J c),(13,J k),(12,sd q (va j)),(14,J j)]) (λj=>fX++sc (va j)) (λj=>ah.length-j) 0 (Nat.zero_le _) (by rw[SC]) (by rw[SC];simp) (λj δ SD=>?_);have vb:=ox j;have hφ:=KC j;obtain⟨N,cl⟩:=aF (va j);rw[<-cl] at vb hφ;refine W.to (σ':=fX++sc N) (env':=[(1,.ab [aS s.ag,aQ s.ak,bl s.cells]),(5,.sl true 1 kS),(6,mi),(7,J i),(8,mg kB),(10,j2 S),(11,J c),(13,J k),(12,sd q N),(14,J j)]) ?_ (by rw[cl]) (by rw[cl];simp);refine aR (Μ s8 (Μ Gf Lk)) ?_;by_cases y3:j<ah.length
    ·refine al (by simp[y3]) ?_;have SE:=a5 y3;have vb:=vb y3;obtain⟨r,κ⟩:=aF (ah[j]);rw[<-κ] at SE vb;have ql:(h9 ah)[j]?=some [r.1,r.2]:=by rw[List.getElem?_map,SE];rfl
     have Lo:∀h,(h9 ah)[j]'h=[r.1,r.2]:=λh=>by rw[a5 h] at ql;simpa using ql
     have gX:(h9 ah).length=ah.length:=θ;obtain⟨ml,Lp⟩:=aF (h9 x.2);have Gj:ml.length=c:=by rw[Lp];simp[mI]
     have hq:ml++[[r.1,r.2]]=h9 (x.2++[r]):=by rw[Lp];simp[h9]
     obtain⟨gΨ,hχ⟩:=aF (h9 ah);rw[<-hχ] at ql Lo gX s8 Gf;have qW:lF x=.aV [a2 J 1 [p.1,p.2],aQ ml]:=by rw[Lp];show η.aV [a2 J 1 [x.1.1,x.1.2],aQ (h9 x.2)]=_;rw[qs]
     have BW:(S.map lF)[k]?=some (.aV [a2 J 1 [p.1,p.2],aQ ml]):=by rw[List.getElem?_map,SA,<-qW];rfl
     have Lq:∀h,(S.map lF)[k]'h=.aV [a2 J 1 [p.1,p.2],aQ ml]:=λh=>by rw[a5 h] at BW;simpa using BW
     have Lr:(S.map lF).length=S.length:=θ;obtain⟨BX,Ls⟩:=aF (S.map lF);rw[<-Ls] at BW Lq Lr;have Lt:j2 S=.sl false 2 BX:=by rw[Ls]
     rw[Lt]
     repeat apply ar
     by_cases Θ:N=[]
     ·have Δ:sd q N=.sl true 0 []:=by rw[Θ];rfl
      have a0:sc N=[]:=by rw[Θ];rfl
      rw[Δ,a0];refine W.draw (A:=[79,88,91]) Φ mixed λΕ ζ=>iu (Μ ψ (Μ gf (Μ BU (Μ s8 (Μ Gf (Μ Lk (Μ ql (Μ Lo (Μ gX (Μ y3 (Μ BW (Μ Lq (Μ Lr (Μ mj Gj)))))))))))))) ?_;refine⟨R,R,R,?_⟩;refine fy (ζ _ _ ?_);have ov:ml.map (a2 J 1)++[a2 J 1 [r.1,r.2]]=(ml++[[r.1,r.2]]).map (a2 J 1):=θ;rw[ov];have vP:c+1=((ml++[[r.1,r.2]]).map (a2 J 1)).length:=by simp[Gj]
      refine W.u5 (σ':=fX++[.dead,.cells 54 2 [.aV [eS [p.1,p.2],.sl false 1 ((ml++[[r.1,r.2]]).map (a2 J 1))]]]) (id:=fX.length) (t:=29) (k:=1) (l:=(ml++[[r.1,r.2]]).map (a2 J 1)) θ (by rw[gl (Nat.le_refl _),Nat.sub_self];rfl) θ θ (λy y4 Ο h'=>?_) [(1,.ab [aS s.ag,aQ s.ak,bl s.cells]),(5,.sl true 1 kS),(6,mi),(7,J i),(8,mg kB),(10,.sl false 2 BX),(11,J c),(13,J k),(12,.ms (fX.length+1) 1 0 1),(14,J j)] (λz Θ=>by
       simp only[List.mem_cons,List.not_mem_nil,or_false] at Θ;rcases Θ with rfl|rfl|rfl|rfl|rfl|rfl|rfl|rfl|rfl|rfl<;>exact .same _) ?_
      ·by_cases v':y<fX.length
       ·rw[dE v'] at h' ⊢;exact⟨y4,h',.inl rfl⟩
       ·rw[gl R] at h' ⊢;obtain⟨u,hu⟩:=aF (y-fX.length);rw[<-hu] at h' ⊢
        match u with
        | 0=>omega
        | 1=>simp at h';subst h';exact⟨_,rfl,tu.Sq (M:=[]) vP⟩
        | u+2=>simp at h'
      rw[hq];have Lu:[η.aV [eS [p.1,p.2],.sl false 1 ((h9 (x.2++[r])).map (a2 J 1))]]=[((p,x.2++[r]):ew)].map lG:=rfl;rw[Lu];have ll:=iC (i:=j) R;refine aR ll ?_;refine W.to (SD (j+1) R R) ?_ ?_
      ·rw[vb,Θ,Gb θ];simp
      ·rw[vb,Θ,Gc θ,Ψ,Lt];simp
     ·rw[Gc Θ,Gb Θ,Ψ];have bF:∀y:Row,(fX++[Row.dead,Row.cells 54 2 (N.map lG),y])[fX.length+1]?=some (Row.cells 54 2 (N.map lG)):=λy=>θ;have rr:∀y z:Row,(fX++[Row.dead,Row.cells 54 2 (N.map lG),y]).set (fX.length+1) z=fX++[Row.dead,z,y]:=λy z=>θ;refine W.draw (A:=[79,88,91]) Φ mixed λΕ ζ=>iu (Μ ψ (Μ gf (Μ BU (Μ s8 (Μ Gf (Μ Lk (Μ ql (Μ Lo (Μ gX (Μ y3 (Μ BW (Μ Lq (Μ Lr (Μ mj (Μ Gj (Μ bF rr)))))))))))))))) ?_;refine⟨R,R,R,R,?_⟩;refine fy (ζ _ _ ?_);have ov:ml.map (a2 J 1)++[a2 J 1 [r.1,r.2]]=(ml++[[r.1,r.2]]).map (a2 J 1):=θ;rw[ov];have vP:c+1=((ml++[[r.1,r.2]]).map (a2 J 1)).length:=by simp[Gj]
      refine W.u5 (σ':=fX++[.dead,.cells 54 2 (N.map lG++[.aV [eS [p.1,p.2],.sl false 1 ((ml++[[r.1,r.2]]).map (a2 J 1))]]),.dead]) (id:=fX.length+2) (t:=29) (k:=1) (l:=(ml++[[r.1,r.2]]).map (a2 J 1)) θ (by rw[gl R,Nat.add_sub_cancel_left];rfl) θ θ (λy y4 Ο h'=>?_) [(1,.ab [aS s.ag,aQ s.ak,bl s.cells]),(5,.sl true 1 kS),(6,mi),(7,J i),(8,mg kB),(10,.sl false 2 BX),(11,J c),(13,J k),(12,.ms (fX.length+1) (N.length+1) 0 (N.length+1)),(14,J j)] (λz Θ=>by
       simp only[List.mem_cons,List.not_mem_nil,or_false] at Θ;rcases Θ with rfl|rfl|rfl|rfl|rfl|rfl|rfl|rfl|rfl|rfl<;>exact .same _) ?_
      ·by_cases v':y<fX.length
       ·rw[dE v'] at h' ⊢;exact⟨y4,h',.inl rfl⟩
       ·rw[gl R] at h' ⊢;obtain⟨u,hu⟩:=aF (y-fX.length);rw[<-hu] at h' ⊢
        match u with
        | 0=>exact⟨y4,h',.inl rfl⟩
        | 1=>simp at h';subst h';exact⟨_,rfl,tu.Sq vP⟩
        | 2=>omega
        | u+3=>simp at h'
      rw[hq];have Lu:N.map lG++[η.aV [eS [p.1,p.2],.sl false 1 ((h9 (x.2++[r])).map (a2 J 1))]]=(N++[((p,x.2++[r]):ew)]).map lG:=by rw[List.map_append];rfl
      rw[Lu];have ll:=iC (i:=j) R;refine W.drop (h:=fX.length+2) θ θ (λy y4 Ο h'=>?_) (show _=fX++[.dead,.cells 54 2 ((N++[((p,x.2++[r]):ew)]).map lG)] by
       rw[List.take_append];simp[List.take_of_length_le]) [(1,.ab [aS s.ag,aQ s.ak,bl s.cells]),(5,.sl true 1 kS),(6,mi),(7,J i),(8,mg kB),(10,.sl false 2 BX),(11,J c),(13,J k),(12,.ms (fX.length+1) (N.length+1) 0 (N.length+1)),(14,J j)] (λz Θ=>?_) ?_
      ·by_cases v':y<fX.length
       ·rw[dE v'] at h';exact Sw _ y4 (cr h')
       ·rw[gl R] at h';obtain⟨u,hu⟩:=aF (y-fX.length);rw[<-hu] at h'
        match u with
        | 0=>simp at h';subst h';trivial
        | 1=>cases h';exact λe he a μ=>(St e he a μ).mono (Nat.zero_le _)
        | u+2=>omega
      ·have hψ:ay 0 (.sl false 2 BX):=by rw[Ls];exact hh.2 Ga
       simp only[List.mem_cons,List.not_mem_nil,or_false] at Θ;rcases Θ with rfl|rfl|rfl|rfl|rfl|rfl|rfl|rfl|rfl|rfl
       ·exact⟨rfl,θ⟩
       ·exact⟨rfl,Sv.mono (Nat.zero_le _)⟩
       ·exact⟨rfl,Sx.mono R⟩
       ·exact⟨rfl,.z _⟩
       ·exact⟨rfl,θ⟩
       ·exact⟨rfl,hψ.mono (Nat.zero_le _)⟩
       ·exact⟨rfl,.z _⟩
       ·exact⟨rfl,.z _⟩
       ·exact⟨rfl,oc.2 R⟩
       ·exact⟨rfl,.z _⟩
      refine aR ll ?_;refine W.to (SD (j+1) R R) ?_ ?_
      ·rw[vb,Gb θ];simp
      ·rw[vb,Gc θ,Ψ,Lt];simp
    ·refine aj (by simp[y3]) ?_;have rL:j=ah.length:=R;refine W.exit rfl ?_;refine aR tf ?_;refine W.to (kr (k+1,M++ah.map λr=>(p,x.2++[r])) ⟨mj,hυ,by simp;omega⟩ (by show S.length-(k+1)<S.length-k;omega)) ?_ ?_
     ·rw[cl,rL,Gi]
     ·rw[cl,rL,Gi];simp
   ·refine aj (by simp;omega) ?_;refine W.exit rfl ?_;have Gi:M=hL s p (c+1):=by
     rw[<-ej];by_cases mj:k<S.length
     ·rw[hμ _ _ _ _ (λh=>hgo ⟨mj,h⟩)]
     ·rw[List.drop_eq_nil_of_le R];rfl
    repeat apply ar
    refine W.fA (A:=[]) Φ [(1,.ab [aS s.ag,aQ s.ak,bl s.cells]),(5,.sl true 1 kS),(6,mi),(7,J i),(8,mg kB),(10,Gh),(11,J c)] (fX++Sy) ?_ (by
     rcases Gg with⟨Δ,Γ,a0⟩|⟨Δ,Γ,a0⟩<;>(rw[Γ];(try simp);(repeat (rw[Υ];simp[]));(try simp[])))
    refine W.cut q (Nat.zero_le _) [(1,.ab [aS s.ag,aQ s.ak,bl s.cells]),(5,.sl true 1 kS),(6,mi),(7,J i),(8,mg kB),(10,if M=[] then .sl true 0 [] else .sl false 2 (M.map lG)),(11,J c)] (by rw[Ψ];simp) (λid r b0 κ=>by
     rw[dE R] at κ;exact Sw q r (cr κ)) (λz Θ=>by
     simp only[List.mem_cons,List.not_mem_nil,or_false] at Θ;rcases Θ with rfl|rfl|rfl|rfl|rfl|rfl|rfl
     ·exact .low θ
     ·exact .low (Sv.mono (Nat.zero_le _))
     ·exact .low (by rw[Ψ];exact Sx)
     ·exact .low θ
     ·exact .low θ
     ·show eD q _ Gh _;rcases Gg with⟨Δ,Γ,a0⟩|⟨Δ,Γ,a0⟩
      ·rw[Γ,if_pos Δ];exact .low θ
      ·rw[Γ,a0,if_neg Δ];exact .own (t:=54) R (by rw[Ψ];simp) θ (λe he a μ=>(St e he a μ).mono (Nat.zero_le _))
     ·exact .low θ) ?_
    rw[Ψ,List.take_left];refine W.eG [(1,.ab [aS s.ag,aQ s.ak,bl s.cells]),(5,.sl true 1 kS),(6,mi),(7,J i),(8,mg kB),(10,j2 M),(11,J c)] (λz Θ=>by
     simp only[List.mem_cons,List.not_mem_nil,or_false] at Θ;rcases Θ with rfl|rfl|rfl|rfl|rfl|rfl|rfl
     ·exact .refl _
     ·exact .refl _
     ·exact .refl _
     ·exact .refl _
     ·exact .refl _
     ·show cW (if M=[] then .sl true 0 [] else .sl false 2 (M.map lG)) (j2 M);by_cases Θ:M=[]
      ·rw[if_pos Θ,Θ];exact .nil
      ·rw[if_neg Θ];exact hξ
     ·exact .refl _) ?_
    refine aR te ?_;exact W.to (gk (c+1) R R) rfl (by rw[Gi];simp)
  ·refine aj (by simp[ε]) ?_;have ta:c=s.cells.length:=R;rw[ta] at ff;rw[<-ff] at mH;refine W.exit rfl ?_;rw[Li,Ge];have ki:=iC (i:=i) R
   repeat apply ar
   refine W.fA (A:=[95]) Φ [(1,.ab [aS s.ag,aQ s.ak,bl s.cells]),(5,.sl true 1 kS),(6,oK (i+1) (O++S)),(7,J i)] (nb (i+1) (O++S)) ?_ (by
    have Δ:oK (i+1) (O++S)=.ms 0 (O++S).length 0 (O++S).length:=rfl
    have Γ:nb (i+1) (O++S)=[.cells 54 2 ((O++S).map lF)]:=rfl;rw[Δ,Γ];have hle:S.length<=4294967296:=R;by_cases Θ:i=0
    ·have hω:O=[]:=by rw[cO,Θ];rfl
     rw[hω,Θ];rw[show oK 0 []=.sl true 0 [] from rfl,show nb 0 []=[] from rfl];(try simp);(repeat (rw[Υ];simp[hle]));(try simp[hle])
    ·rw[show oK i O=.ms 0 O.length 0 O.length from by unfold oK;rw[if_neg Θ],show nb i O=[.cells 54 2 (O.map lF)] from by unfold nb;rw[if_neg Θ]];have SF:O.length<=4294967295:=R;(try simp);(repeat (rw[Υ];simp[hle,SF]));(try simp[hle,SF]);omega)
   refine aR ki ?_;refine W.to (Β (i+1) fC R) ?_ ?_
   ·rw[mH]
   ·rw[mH,Gd];simp
 ·have dT:i=3:=by simp at ε;omega
  refine W.exit rfl ?_;have j6:i≠0:=R;rw[show oK i O=.ms 0 O.length 0 O.length from by unfold oK;rw[if_neg j6],show nb i O=[.cells 54 2 (O.map lF)] from by unfold nb;rw[if_neg j6]];refine W.cut 0 (Nat.zero_le _) [(6,j2 O)] θ (λid r h=>R) (λz Θ=>by
   simp only[List.mem_cons,List.not_mem_nil,or_false] at Θ;subst Θ;exact .own (t:=54) (Nat.zero_le _) rfl θ Ga) ?_
  simp only[List.take_zero];have hΑ:eg s 3=O:=by rw[cO,dT]
  rw[hΑ]
  repeat apply ar
  refine W.fA (A:=[]) Φ [(2,j2 O),(3,bm (decide (O.length<=400))),(4,bm true)] [] ?_ (by
   (try simp);(repeat (rw[Υ];simp[]));(try simp[]);omega)
  refine W.ret ⟨_,rfl,?_,rfl⟩;exact .refl _
end Go.TL
namespace Go.TL
open Go.Proofs
end Go.TL
namespace Go.TL
open Go.Proofs
variable [bt]
def kT (x:ew) (c:Nat):Int×Int:=x.2.getD c (0,0)
theorem hΒ {s:aI} (ν:hX s) {p r:Int×Int} (ψ:0<=p.2/\p.2<p.1/\p.1<=2) (κ:(-1<=r.1/\r.1<s.ag.length)/\(-1<=r.2/\r.2<s.ag.length)) {n:Nat} (Η:n<s.ak.length):oF s [p.1,p.2] [r.1,r.2] n=(s.dU p r n,0):=by
 unfold oF;rw[if_neg (by rw[ν.err];simp)];simp only;rw[if_neg,if_neg R]
 ·simp
 ·simp only[kl,aI.hK,Bool.and_eq_false_iff,Bool.or_eq_true,decide_eq_false_iff_not,decide_eq_true_eq];omega
def SG (s:aI) (x:ew):Prop:=(0<=x.1.2/\x.1.2<x.1.1/\x.1.1<=2)/\∀r∈x.2,(-1<=r.1/\r.1<s.ag.length)/\(-1<=r.2/\r.2<s.ag.length)
theorem Lv {n:Nat} {r:Int×Int}:r∈AF n↔(-1<=r.1/\r.1<n)/\(-1<=r.2/\r.2<n):=by
 unfold AF ow l8;simp only[List.mem_flatMap,List.mem_map,List.mem_range];constructor
 ·rintro⟨x,γ,y,Ο,rfl⟩;simp only;omega
 ·rintro⟨⟨I,U⟩,ξ,Κ⟩;exact⟨(r.1+1).toNat,R,(r.2+1).toNat,R,Prod.ext (by simp only;omega) (by simp only;omega)⟩
theorem hΓ {s:aI} (h:hX s):AI s (en s):=by
 have Κ:=h.many;refine⟨by have:=gψ s;omega,λf Χ=>?_,λf Χ=>?_,?_⟩
 ·obtain⟨k,_,_,rfl⟩:=KW.1 Χ;refine⟨by simp[dW],λc ε=>⟨by have:=R1 h (cd k) c ε;omega,λr κ=>?_⟩⟩;obtain⟨i,_,rfl⟩:=List.mem_map.1 ε;have:=Lv.1 (List.mem_filter.1 κ).1;omega
 ·obtain⟨k,_,_,rfl⟩:=KW.1 Χ;have υ:(dW s (cd k)).cells.length=s.cells.length:=by simp[dW]
  refine⟨R,λg0 i hi=>by have:=F2 h (cd k) g0 (i:=i) R;omega⟩
 ·rw[R2];have:=gΒ h 3;omega
def iD:List (Int×Int)->Int->Int
 | [],_=>0
 | e::r,k=>if k=e.1 then e.2 else iD r k
theorem SH (k n v:Int):∀m:List (Int×Int),iD (hT m k n) v=if v=k then IntKind.i64.wrap (iD m k+n) else iD m v
 | []=>by by_cases h:v=k<;>simp[hT,iD,h]
 | e::r=>by
  have Β:=SH k n v r;by_cases h:k=e.1
  ·by_cases cU:v=e.1<;>simp[hT,iD,h,cU]
  ·by_cases cU:v=e.1
   ·have:¬v=k:=λΓ=>h (Γ▸cU);simp only[hT,if_neg h,iD,if_pos cU,if_neg this]
   ·simp only[hT,if_neg h,iD,if_neg cU,Β]
abbrev pN (m:List (Int×Int)):Prop:=(m.map (·.1)).Nodup
theorem SI (k n x:Int):∀m:List (Int×Int),x∈(hT m k n).map (·.1)->x=k\/x∈m.map (·.1)
 | []=>by simp[hT]
 | e::r=>by
  have Β:=SI k n x r;by_cases h:k=e.1
  ·simp only[hT,if_pos h,List.map_cons,List.mem_cons];rintro(I|I)
   ·exact .inl I
   ·exact .inr (.inr I)
  ·simp only[hT,if_neg h,List.map_cons,List.mem_cons];rintro(I|I)
   ·exact .inr (.inl I)
   ·rcases Β I with I|I
    ·exact .inl I
    ·exact .inr (.inr I)
theorem SJ (k n:Int):∀m:List (Int×Int),pN m->pN (hT m k n)
 | [],_=>by simp[pN,hT]
 | e::r,h=>by
  have U:=List.nodup_cons.1 h;by_cases ς:k=e.1
  ·simp only[pN,hT,if_pos ς,List.map_cons];rw[ς];exact h
  ·simp only[pN,hT,if_neg ς,List.map_cons];refine List.nodup_cons.2 ⟨λhm=>?_,SJ k n r U.2⟩;rcases SI k n _ r hm with I|I
   ·exact ς I.symm
   ·exact U.1 I
theorem SK:∀(m:List (Int×Int)) (k:Int),iD m k=0\/∃e∈m,iD m k=e.2
 | [],_=>.inl rfl
 | e::r,k=>by
  by_cases h:k=e.1
  ·exact .inr ⟨e,θ,by simp[iD,h]⟩
  ·rcases SK r k with I|⟨x,γ,I⟩
   ·exact .inl (by simp only[iD,if_neg h];exact I)
   ·exact .inr ⟨x,by simp[γ],by simp only[iD,if_neg h];exact I⟩
theorem SL:∀(m:List (Int×Int)),pN m->∀e∈m,iD m e.1=e.2
 | [],_,_,h=>by cases h
 | x::r,hu,e,he=>by
  have U:=List.nodup_cons.1 hu;rcases List.mem_cons.1 he with rfl|he
  ·simp[iD]
  ·have:¬e.1=x.1:=λh=>U.1 (by show x.1∈r.map (·.1);rw[<-h];exact List.mem_map.2 ⟨e,he,rfl⟩);simp only[iD,if_neg this];exact SL r U.2 e he
theorem SM:∀(l:List (Int×Int)) (a:Int),a<=ma a l/\(∀e∈l,e.2<=ma a l)/\(ma a l=a\/∃e∈l,e.2=ma a l)
 | [],a=>⟨Int.le_refl _,(λ_ h=>by cases h),.inl rfl⟩
 | x::r,a=>by
  obtain⟨I,U,ξ⟩:=SM r (max a x.2);show a<=ma (max a x.2) r/\(∀e∈x::r,e.2<=ma (max a x.2) r)/\(ma (max a x.2) r=a\/∃e∈x::r,e.2=ma (max a x.2) r);refine⟨R,λe he=>?_,?_⟩
  ·rcases List.mem_cons.1 he with rfl|he
   ·omega
   ·exact U e he
  ·rcases ξ with ξ|⟨e,he,ξ⟩
   ·by_cases h:a<=x.2
    ·exact .inr ⟨x,θ,R⟩
    ·exact .inl R
   ·exact .inr ⟨e,by simp[he],ξ⟩
theorem SN {α:Type} (key:α->Int) (w:Nat):∀(l:List α) (m:List (Int×Int)) (T:Int->Nat),pN m->(∀v,iD m v=T v)->(∀v,T v+l.length*w<2 ^ 62)->
  pN (l.foldl (λm r=>hT m (key r) w) m)/\∀v,iD (l.foldl (λm r=>hT m (key r) w) m) v=((T v+(l.countP λr=>decide (key r=v))*w:Nat):Int)
 | [],m,T,hu,h,_=>⟨hu,λv=>by simp[h v]⟩
 | a::l,m,T,hu,h,hb=>by
  obtain⟨I,U⟩:=SN key w l (hT m (key a) w) (λv=>if v=key a then T v+w else T v) (SJ _ _ _ hu) (λv=>by
   have Lw:=hb (key a);rw[List.length_cons,Nat.add_mul] at Lw;rw[SH,h (key a)];by_cases hv:v=key a
   ·rw[if_pos hv,if_pos hv,hv,IntWalk.i64_in _ R];omega
   ·rw[if_neg hv,if_neg hv,h v]) (λv=>by
   have Lw:=hb v;rw[List.length_cons,Nat.add_mul] at Lw;split<;>omega)
  refine⟨I,λv=>?_⟩;rw[List.foldl_cons,U v,List.countP_cons];by_cases hv:v=key a
  ·have:decide (key a=v)=true:=by simp[hv]
   rw[if_pos hv,this];simp only[if_true];rw[Nat.add_mul];omega
  ·have:decide (key a=v)=false:=by simp[Ne.symm hv]
   rw[if_neg hv,this];simp
def runM (V:List Int):Nat->Nat
 | 0=>0
 | i+1=>max (runM V i) ((V.take (i+1)).count (V.getD i 0))
theorem Lx (V:List Int):∀i,i<=V.length->(∀v,(V.take i).count v<=runM V i)/\(runM V i=0\/∃v,(V.take i).count v=runM V i)
 | 0,_=>⟨λv=>θ,.inl rfl⟩
 | i+1,h=>by
  obtain⟨I,U⟩:=Lx V i R;have hi:i<V.length:=R;have Ν:=List.take_succ_eq_append_getElem hi;have Ρ:V.getD i 0=V[i]:=by rw[List.getD_eq_getElem?_getD,a5 hi];rfl
  have ε:∀v,(V.take (i+1)).count v=(V.take i).count v+if V[i]=v then 1 else 0:=λv=>by
   rw[Ν,List.count_append,List.count_singleton];by_cases hv:V[i]=v<;>simp[hv]
  have κ:runM V (i+1)=max (runM V i) ((V.take (i+1)).count V[i]):=by rw[<-Ρ];rfl
  have ν:=ε V[i];rw[if_pos rfl] at ν;rw[κ];refine⟨λv=>?_,?_⟩
  ·rw[ε v];have:=I v;by_cases hv:V[i]=v
   ·rw[if_pos hv,<-hv,<-ν];omega
   ·rw[if_neg hv];omega
  ·by_cases hle:runM V i<=(V.take (i+1)).count V[i]
   ·exact .inr ⟨V[i],R⟩
   ·rcases U with U|⟨v,U⟩
    ·exact .inl R
    ·refine .inr ⟨v,?_⟩;rw[ε v];by_cases hv:V[i]=v
     ·exfalso;rw[hv] at ν hle;omega
     ·rw[if_neg hv];omega
theorem SO (p:Int×Int) (C:List (Int×Int)):∀(xs acc:List ew),(kA p C acc xs).length<=400->kA p C acc xs=acc++xs.flatMap λx=>C.map λr=>(p,x.2++[r])
 | [],acc,_=>by simp[kA]
 | x::xs,acc,h=>by
  unfold kA at h ⊢;by_cases μ:acc.length<=400
  ·rw[if_pos μ] at h ⊢;rw[SO p C xs _ h,List.flatMap_cons,List.append_assoc]
  ·rw[if_neg μ] at h;exact(μ h).elim
def jA (s:aI) (p:Int×Int):Nat->List ew
 | 0=>[(p,[])]
 | c+1=>(jA s p c).flatMap λx=>(ev s p c).map λr=>(p,x.2++[r])
theorem Ly (s:aI) (p:Int×Int) (c:Nat):jA s p (c+1)=(jA s p c).flatMap λx=>(ev s p c).map λr=>(p,x.2++[r]):=rfl
theorem Lz {α:Type} (n:Nat):∀l:List α,(l.map λ_=>n).sum=l.length*n
 | []=>θ
 | x::l=>by rw[List.map_cons,List.sum_cons,Lz n l,List.length_cons,Nat.add_mul];omega
theorem hΔ {s:aI} (p:Int×Int):∀c,c<=2->(hL s p c).length<=400->hL s p c=jA s p c
 | 0,_,_=>rfl
 | 1,_,_=>by simp[hL,kA,jA]
 | 2,_,h=>by
  have I:hL s p 1=jA s p 1:=by simp[hL,kA,jA]
  have:hL s p 2=kA p (ev s p 1) [] (hL s p 1):=rfl;rw[this] at h ⊢;rw[SO _ _ _ _ h,I];rfl
theorem BY {s:aI} {p:Int×Int}:∀c,∀x∈jA s p c,x.1=p/\x.2.length=c
 | 0,x,γ=>by simp[jA] at γ;subst γ;exact⟨rfl,rfl⟩
 | c+1,x,γ=>by
  obtain⟨y,Ο,γ⟩:=List.mem_flatMap.1 γ;obtain⟨r,_,rfl⟩:=List.mem_map.1 γ;have:=(BY c y Ο).2;exact⟨rfl,by simp[this]⟩
theorem SP {α:Type} (b:α->Bool) (n:Nat):∀l:List α,(l.map λx=>if b x=true then n else 0).sum=l.countP b*n
 | []=>θ
 | x::l=>by
  rw[List.map_cons,List.sum_cons,SP b n l,List.countP_cons,Nat.add_mul];by_cases h:b x=true
  ·rw[if_pos h,if_pos h];omega
  ·rw[if_neg h,if_neg h];omega
theorem SQ (l:List (List (Int×Int))) (c:Nat):∀i,i<=c->gF l c i=gF l (-1) i
 | 0,_=>by simp[gF]
 | i+1,h=>by
  rw[uu,uu,SQ l c i R,if_neg R,if_neg R]
theorem LA {s:aI} (p:Int×Int) {c:Nat} (ε:c<s.cells.length):(((dW s p).cells[c]?).getD [])=ev s p c:=by simp[dW,ε]
theorem Gk {s:aI} (p:Int×Int):∀C,C<=s.cells.length->(jA s p C).length=gF (dW s p).cells (-1) C
 | 0,_=>by simp[jA,gF]
 | C+1,h=>by
  rw[uu,if_neg R,LA p R,<-Gk p C R,Ly,List.length_flatMap];simp only[List.length_map];exact Lz _ _
theorem SR {s:aI} (p:Int×Int) (q:Int×Int->Bool) (c:Nat):∀C,C<=s.cells.length->c<C->(jA s p C).countP (λx=>q (kT x c))=(ev s p c).countP q*gF (dW s p).cells c C
 | 0,_,h=>R
 | C+1,h,ε=>by
  rw[uu,Ly,List.countP_flatMap];by_cases ji:c<C
  ·have Β:=SR (s:=s) p q c C R ji;rw[if_neg R,LA p R];have e:(jA s p C).map (List.countP (λx=>q (kT x c)) ∘ λx=>(ev s p C).map λr=>(p,x.2++[r]))=(jA s p C).map λx=>if q (kT x c)=true then(ev s p C).length else 0:=by
    apply List.map_congr_left;intro x γ;have υ:=(BY C x γ).2;show((ev s p C).map λr=>((p,x.2++[r]):ew)).countP (λx=>q (kT x c))=_;rw[List.countP_map];have Ν:((λx=>q (kT x c)) ∘ λr=>((p,x.2++[r]):ew))=λ_=>q (kT x c):=by
     funext r
     show q ((x.2++[r]).getD c (0,0))=q (x.2.getD c (0,0));rw[List.getD_eq_getElem?_getD,dE R,List.getD_eq_getElem?_getD]
    rw[Ν];by_cases Ψ:q (kT x c)=true
    ·simp[Ψ]
    ·simp[Ψ]
   rw[e,SP (λx=>q (kT x c)),Β,Nat.mul_assoc]
  ·obtain rfl:c=C:=by omega
   rw[if_pos rfl,Nat.mul_one,SQ _ c c (Nat.le_refl _),<-Gk p c R];have e:(jA s p c).map (List.countP (λx=>q (kT x c)) ∘ λx=>(ev s p c).map λr=>(p,x.2++[r]))=(jA s p c).map λ_=>(ev s p c).countP q:=by
    apply List.map_congr_left;intro x γ;have υ:=(BY c x γ).2;show((ev s p c).map λr=>((p,x.2++[r]):ew)).countP (λx=>q (kT x c))=_;rw[List.countP_map];have Ν:((λx=>q (kT x c)) ∘ λr=>((p,x.2++[r]):ew))=q:=by
     funext r
     show q ((x.2++[r]).getD c (0,0))=q r;rw[List.getD_eq_getElem?_getD,gl R,υ,Nat.sub_self];rfl
    rw[Ν]
   rw[e,Lz];exact Nat.mul_comm _ _
abbrev pO (s:aI) (c n:Nat) (x:ew):Int:=s.dU x.1 (kT x c) n
structure qS (s:aI):Prop where
 yX:hX s
 two:s.cells.length<=2
 qx:(eg s 3).length<=400
theorem BZ (s:aI) (i:Nat):eg s (i+1)=eg s i++hL s (cd i) s.cells.length:=by simp[eg,List.range_succ]
theorem SS (s:aI) (i:Nat):∀d,(eg s i).length<=(eg s (i+d)).length
 | 0=>Nat.le_refl _
 | d+1=>by
  have:=SS s i d;rw[show i+(d+1)=i+d+1 by omega,BZ,List.length_append];omega
theorem qS.full {s:aI} (h:qS s) {k:Nat} (ς:k<3):hL s (cd k) s.cells.length=jA s (cd k) s.cells.length:=by
 refine hΔ _ _ h.two ?_;have I:=SS s (k+1) (3-(k+1));rw[show k+1+(3-(k+1))=3 by omega,BZ,List.length_append] at I;have:=h.qx;omega
theorem qS.len {s:aI} (h:qS s):iT (en s)=(eg s 3).length:=by
 rw[R2];have key:∀i,i<=3->tv s i=(eg s i).length:=by
  intro i
  induction i with
  | zero=>intro _;simp[tv,eg]
  | succ i Β=>
   intro hi;rw[KX,Β R,BZ,List.length_append,h.full R,Gk _ _ (Nat.le_refl _),F3]
 exact key 3 bD
theorem hΕ {s:aI} (h:qS s) {c:Nat} (ε:c<s.cells.length) (n:Nat) :
  pN (px s (en s) c n (en s).length)/\∀v,iD (px s (en s) c n (en s).length) v=((eg s 3).countP λx=>decide (pO s c n x=v):Nat):=by
 have key:∀i,i<=3->pN (((List.range i).filterMap (gS s)).foldl (λm f=>l' s f c n m ((f.cells[c]?).getD []).length) [])/\∀v,iD (((List.range i).filterMap (gS s)).foldl (λm f=>l' s f c n m ((f.cells[c]?).getD []).length) []) v=((eg s i).countP λx=>decide (pO s c n x=v):Nat):=by
  intro i
  induction i with
  | zero=>intro _;exact⟨by simp[pN],λv=>by simp[iD,eg]⟩
  | succ i Β=>
   intro hi;obtain⟨I,U⟩:=Β R;have Χ:=h.full (k:=i) R;rw[List.range_succ,List.filterMap_append,List.foldl_append];obtain⟨m,hm⟩:∃m,m=((List.range i).filterMap (gS s)).foldl (λm f=>l' s f c n m ((f.cells[c]?).getD []).length) []:=⟨_,rfl⟩;rw[<-hm] at I U ⊢;by_cases ψ:0<(dW s (cd i)).many (-1)
   ·have Ν:gS s i=some (dW s (cd i)):=by unfold gS;rw[if_pos ⟨R,ψ⟩]
    have υ:[i].filterMap (gS s)=[dW s (cd i)]:=by simp[Ν]
    rw[υ];show pN (l' s _ c n m _)/\∀v,iD (l' s _ c n m _) v=_;have κ:l' s (dW s (cd i)) c n m (((dW s (cd i)).cells[c]?).getD []).length=(ev s (cd i) c).foldl (λm r=>hT m (s.dU (cd i) r n) ((dW s (cd i)).many c:Nat)) m:=by
     unfold l';rw[LA _ ε,List.take_length];rfl
    rw[κ];have jK:(dW s (cd i)).many c=gF (dW s (cd i)).cells c s.cells.length:=by
     have:(dW s (cd i)).cells.length=s.cells.length:=by simp[dW]
     unfold Found.many;rw[this]
    have Ao:(dW s (cd i)).many c<=5764801:=by rw[jK];exact F2 h.yX _ _ (Nat.le_refl _)
    have kD:=BL h.yX (cd i) c
    have mμ:=Ss h.yX i
    have mν:(ev s (cd i) c).length*(dW s (cd i)).many c<=49*5764801:=Nat.mul_le_mul kD Ao;obtain⟨Τ,af⟩:=SN (λr=>s.dU (cd i) r n) ((dW s (cd i)).many c) (ev s (cd i) c) m (λv=>(eg s i).countP λx=>decide (pO s c n x=v)) I U (λv=>by
     have:=List.countP_le_length (p:=λx=>decide (pO s c n x=v)) (l:=eg s i);omega)
    refine⟨Τ,λv=>?_⟩;rw[af v,BZ,List.countP_append,Χ];have e:(jA s (cd i) s.cells.length).countP (λx=>decide (pO s c n x=v))=(jA s (cd i) s.cells.length).countP (λx=>(λr=>decide (s.dU (cd i) r n=v)) (kT x c)):=by
     apply List.countP_congr;intro x γ;have:=(BY _ x γ).1;show decide (s.dU x.1 (kT x c) n=v)=true↔decide (s.dU (cd i) (kT x c) n=v)=true;rw[this]
    rw[e,SR (cd i) (λr=>decide (s.dU (cd i) r n=v)) c _ (Nat.le_refl _) ε,<-jK]
   ·have Ν:gS s i=none:=by unfold gS;rw[if_neg (λh=>ψ h.2)]
    have υ:[i].filterMap (gS s)=[]:=by simp[Ν]
    have Θ:hL s (cd i) s.cells.length=[]:=by
     rw[Χ];apply dw.1;rw[Gk _ _ (Nat.le_refl _),<-F3];omega
    rw[υ,BZ,Θ,List.append_nil];exact⟨I,U⟩
 have ν:px s (en s) c n (en s).length=((List.range 3).filterMap (gS s)).foldl (λm f=>l' s f c n m ((f.cells[c]?).getD []).length) []:=by
  unfold px;rw[List.take_length];rfl
 rw[ν];exact key 3 (Nat.le_refl _)
theorem hΖ {s:aI} (h:qS s) {c:Nat} (ε:c<s.cells.length) (n:Nat):ye s (en s) c n=(runM ((eg s 3).map (pO s c n)) (eg s 3).length:Nat):=by
 obtain⟨I,U⟩:=hΕ h ε n;unfold ye;obtain⟨m,hm⟩:=aF (px s (en s) c n (en s).length);rw[<-hm] at I U ⊢;obtain⟨a1,bk,cz⟩:=SM m 0;obtain⟨V,jF⟩:=aF ((eg s 3).map (pO s c n));have SU:(eg s 3).length=V.length:=by rw[jF,List.length_map]
 have j8:∀v,iD m v=(V.count v:Nat):=λv=>by
  rw[U v,jF,List.count_eq_countP,List.countP_map];congr 2
 obtain⟨bJ,c8⟩:=Lx V V.length (Nat.le_refl _);rw[List.take_length] at bJ c8;rw[<-jF,SU];apply Int.le_antisymm
 ·rcases cz with cz|⟨e,he,cz⟩
  ·omega
  ·have:=SL m I e he;rw[j8] at this;have:=bJ e.1;omega
 ·rcases c8 with c8|⟨v,c8⟩
  ·omega
  ·have:=j8 v;rcases SK m v with ξ|⟨e,he,ξ⟩
   ·omega
   ·have:=bk e he;omega
end Go.TL
