import Derived.Test.YtlabjopijpkiaaaGreatVAX
import Derived.Test.YtlabjopijpkiaaaGreatVBA
import Derived.Test.YtlabjopijpkiaaaGreatVBC
import Derived.Test.YtlabjopijpkiaaaGreatVBD
set_option maxHeartbeats 16000000
set_option maxRecDepth 20000
set_option linter.unusedSectionVars false
set_option linter.unusedSimpArgs false
set_option linter.unusedVariables false
namespace Go.TL
open Go.Proofs
abbrev QH:List θ:=[gf [1,0],gf [2,0],gf [2,1]]
theorem dΞ:∀i,i<3->QH[i]?=some (gf [(fl i).1,(fl i).2])/\∀h,QH[i]'h=gf [(fl i).1,(fl i).2]:=λi hi=>by
 match i with
 | 0=>exact⟨rfl,λ_=>rfl⟩
 | 1=>exact⟨rfl,λ_=>rfl⟩
 | 2=>exact⟨rfl,λ_=>rfl⟩
end Go.TL
namespace Go.TL
open Go.Proofs
variable [bn]
theorem dΟ:∀n<64,∀s<64,k9 .i64 (s:Nat) (n:Nat)=0->∀o<64,eY .i64 (s:Nat) (k9 .i64 (o:Nat) (n:Nat))=0:=by decide +kernel
theorem dΡ:∀n<64,∀o<64,k9 .i64 (eY .i64 (n:Nat) (o:Nat)) (n:Nat)=0:=by decide +kernel
theorem dΤ {n a b:Int} (Ζ:0<=n/\n<=63) (κ:0<=a/\a<=63) (hb:0<=b/\b<=63):k9 .i64 (eY .i64 n a) n=0/\eY .i64 (eY .i64 n a) (k9 .i64 b n)=0:=by
 obtain⟨⟨J,U⟩,_,_⟩:=Jv Ζ κ;obtain⟨x,rfl⟩:∃x:Nat,n=x:=⟨n.toNat,R⟩;obtain⟨y,rfl⟩:∃y:Nat,a=y:=⟨a.toNat,R⟩;obtain⟨z,rfl⟩:∃z:Nat,b=z:=⟨b.toNat,R⟩;have e:=dΡ x R y R;refine⟨e,?_⟩;obtain⟨w,hw⟩:∃w:Nat,eY .i64 (x:Int) (y:Int)=w:=⟨(eY .i64 (x:Int) (y:Int)).toNat,R⟩;rw[hw] at e U ⊢;exact dΟ x R w R e z R
structure J4 (gi cells:Nat) (s:aT) (p:Int×Int) (rd:List (Int×Int)):Prop where
 dΥ:∃k,k<3/\p=fl k
 dΦ:jm s
 many:s.cells.length<=cells
 nK:s.au.length<=gi
 len:rd.length=s.cells.length
 each:∀r∈rd,(-1<=r.1/\r.1<s.au.length)/\(-1<=r.2/\r.2<s.au.length)
 right:∀(c:Nat) (r:Int×Int),rd[c]?=some r->s.sH p r c=true
structure dΧ where
 d:cD
 done:List (List fi)
 rd:List (Int×Int)
theorem dΨ (d:cD) (hd:d.bf.length<2 ^ 63) (gi cells:Nat) (hn:1<=gi) (yx:gi<=6) (Fh:cells<=4) :
  uO 32 [I gi,I cells] d (λr=>∃s p rd,r=.bj [fD s,bO I 1 [p.1,p.2],bc (JB rd)]/\J4 gi cells s p rd):=by
 unfold uO;refine ae.body Ρ Tryz.func32 rfl rfl Tryz.ntmps32 rfl rfl η ?_
 repeat apply ad
 refine dM (A:=[6]) Ρ λΕ ζ=>bD ?_;apply ζ
 repeat apply ad
 refine W.cr ?_;refine W.part (A:=[9]) Ρ [0,1,2,3] [4,5] rfl λΕ ζ=>?_;(try simp);(repeat (rw[Ο];simp[]));refine cΥ d hd gi cells hn yx Fh rfl ?_;intro G L nc d1 da ab ⟨su,Jt⟩ kv;simp only[List.length_cons,List.length_nil,Nat.reduceAdd,List.set_cons_zero,List.cons_append,List.nil_append];obtain⟨wT,J5⟩:=aK (cY 5 (List.replicate nc bH));have yG:(nc=0/\wT=bH)\/(0<nc/\wT=.ms 5 nc 0 nc):=by
  by_cases Τ:nc=0
  ·subst Τ;exact .inl ⟨rfl,J5⟩
  ·exact .inr ⟨R,by rw[J5,gX (by simp[Τ]),List.length_replicate]⟩
 have yH:∀done:List (List fi),done.length<=nc->(nc=0/\bG 60 1 (bB done nc)=[])\/(0<nc/\bG 60 1 (bB done nc)=[.cells 60 1 (bB done nc)]):=λdone hA=>by
  by_cases Τ:nc=0
  ·subst Τ;have:=dG.1 (wK hA);exact .inl ⟨rfl,by rw[this];rfl⟩
  ·exact .inr ⟨R,eJ (λh=>by have:=wK hA;rw[h] at this;simp at this;omega)⟩
 rw[<-J5,<-dδ];rw[MJ,p5];apply ζ;clear ζ Ε;have yI:aG ([cb d1,g4 bH bH bH,.dead,.dead,.dead]++bG 60 1 (bB [] nc)).length wT:=by
  rcases yG with⟨_,e⟩|⟨cl,e⟩
  ·rw[e];simp
  ·rcases yH [] (Nat.zero_le _) with⟨aj,_⟩|⟨_,Γ⟩
   ·omega
   ·rw[e,Γ];exact rh.2 η
 refine W.dγ (A:=[9]) Ρ [(0,.ar 0 1 0 0),(6,.ar 1 1 0 0),(9,.ao [a7 G,bc L,wT])] ([cb d1,g4 bH bH bH,.dead,.dead,.dead]++bG 60 1 (bB [] nc)) ?_ (by
  have bS:∀h,∀r∈[cb d1,g4 bH bH bH,.dead,.dead,.dead]++bG 60 1 (bB [] nc),fg h r:=λh r ι=>by
   rcases List.mem_append.1 ι with ι|ι
   ·simp only[List.mem_cons,List.not_mem_nil,or_false] at ι;rcases ι with rfl|rfl|rfl|rfl|rfl
    ·exact wH d1 h
    ·intro e he a κ;simp[θ.cells] at he;subst he;simp[θ.cells] at κ;subst κ;simp
    ·trivial
    ·trivial
    ·trivial
   ·exact D7 (λe he a κ=>by obtain⟨J,U⟩:=JC e he;rw[J] at κ;simp at κ;subst κ;exact U) r ι
  rcases yG with⟨cl,e⟩|⟨cl,e⟩<;>rcases yH [] (Nat.zero_le _) with⟨aj,Γ⟩|⟨aj,Γ⟩
  ·rw[Γ] at bS yI;rw[e] at yI;rw[e,Γ];(try simp);(repeat (rw[Ο];simp[]));(try simp[]);intro hW;exact W.o9 (σ0:=[cb d1,g4 bH bH bH,.dead,.dead,.dead]) η (bS _) (λa κ=>by
    simp[θ.cells] at κ;rcases κ with rfl|rfl|rfl
    ·exact(iL.2 s7:aG 0 _).mono (Nat.zero_le _)
    ·exact(iL.2 yC:aG 0 _).mono (Nat.zero_le _)
    ·exact yI) [(0,.ar 0 1 0 0),(6,.ar 1 1 0 0),(9,.ao [a7 G,bc L,bH])] (by simp[lg,θ.cells]) hW
  ·omega
  ·omega
  ·rw[Γ] at bS yI;rw[e] at yI;rw[e,Γ];have nM:(bB [] nc).length=nc:=wK (Nat.zero_le _);(try simp);(repeat (rw[Ο];simp[nM]));(try simp[nM]);intro hW;exact W.o9 (σ0:=[cb d1,g4 bH bH bH,.dead,.dead,.dead,.cells 60 1 (bB [] nc)]) η (bS _) (λa κ=>by
    simp[θ.cells] at κ;rcases κ with rfl|rfl|rfl
    ·exact(iL.2 s7:aG 0 _).mono (Nat.zero_le _)
    ·exact(iL.2 yC:aG 0 _).mono (Nat.zero_le _)
    ·exact yI) [(0,.ar 0 1 0 0),(6,.ar 1 1 0 0),(9,.ao [a7 G,bc L,.ms 5 nc 0 nc])] (by simp[lg,θ.cells]) hW)
 obtain⟨mi,Fp⟩:=aK L.length;have xZ:=ab.lo;have AW:=ab.hi;have dΩ:=da.hi;have eα:=da.lo;obtain⟨g,Ξ⟩:=aK G.length;rw[<-Ξ] at dΩ eα;rw[<-Fp] at xZ AW;have yF:(L.map (bO I 1)).length=mi:=by rw[List.length_map,Fp]
 have Ν:=wE d1 R 2;obtain⟨t0,t1⟩:=uM d1 2 bu bu;obtain⟨QI,QJ⟩:=bZ (iS d1 2);rw[QJ] at Ν t0 t1;clear QJ;obtain⟨n2,Fq⟩:∃k:Nat,QI=k:=⟨QI.toNat,R⟩;obtain⟨d2,lz⟩:=bZ (d1.after 2);have eβ:d2.bf.length<=d.bf.length:=by rw[<-lz];exact Nat.le_trans (lD _ _) kv
 rw[Fq,lz] at Ν;rw[Fq] at t1;have e9:n2<3:=R;obtain⟨yJ,J6⟩:=dΞ n2 e9;obtain⟨p,ψ⟩:=aK (fl n2);rw[<-ψ] at yJ J6
 repeat apply ad
 refine W.iu (A:=[]) Ρ [(0,.ar 0 1 0 0),(6,.ar 1 1 0 0),(9,.ao [a7 G,bc L,wT]),(10,gf [p.1,p.2])] ([cb d2,g4 bH bH bH,.dead,.dead,.dead]++bG 60 1 (bB [] nc)) ?_ (by
  have jγ:(n2:Int)<3:=R;rcases yG with⟨cl,e⟩|⟨cl,e⟩<;>rcases yH [] (Nat.zero_le _) with⟨aj,Γ⟩|⟨aj,Γ⟩
  ·rw[e,Γ];(try simp);(repeat (rw[Ο];simp[]));(try simp[]);refine en.c Ν 0 rfl (bF.refl _) η η ?_;clear Ν yJ J6 Fq;obtain rfl|rfl|rfl:n2=0\/n2=1\/n2=2:=R
   all_goals
    subst ψ;simp;(repeat (rw[Ο];simp[]));(try simp[fl])
  ·omega
  ·omega
  ·rw[e,Γ];(try simp);(repeat (rw[Ο];simp[]));(try simp[]);refine en.c Ν 0 rfl (bF.refl _) η η ?_;clear Ν yJ J6 Fq;obtain rfl|rfl|rfl:n2=0\/n2=1\/n2=2:=R
   all_goals
    subst ψ;simp;(repeat (rw[Ο];simp[]));(try simp[fl]))
 obtain⟨n0,hz⟩:=aK (⟨G,L,[]⟩:aT);refine Η ?_;refine W.iter (λx:dΧ=>x.done.length<=nc/\x.d.bf.length<=d.bf.length/\(∀c∈x.done,yD mi c)/\x.rd.length=x.done.length/\(∀r∈x.rd,(-1<=r.1/\r.1<g)/\(-1<=r.2/\r.2<g))/\∀(c:Nat) (r:Int×Int) (aL:List fi),x.rd[c]?=some r->x.done[c]?=some aL->∀y∈aL,n0.o3 p r y=true)
  (λx=>[(0,.ar 0 1 0 0),(6,.ar 1 1 0 0),(9,.ao [a7 G,bc L,wT]),(10,gf [p.1,p.2]),(11,cY 6 (x.rd.map Γ)),(12,I x.done.length)])
  (λx=>[cb x.d,g4 bH bH bH,.dead,.dead,.dead]++bG 60 1 (bB x.done nc)++bG 29 1 (x.rd.map Γ)) (λx=>nc-x.done.length) ⟨d2,[],[]⟩ ⟨η,eβ,η,rfl,η,η⟩ (by simp[kx]) (by simp[cY]) (λx γ Β=>?_)
 obtain⟨D,done,rd⟩:=x;obtain⟨hA,m',wM,lP,J7,J8⟩:=γ;simp only at hA m' wM lP J7 J8 Β ⊢;obtain⟨c,wU⟩:=aK done.length;rw[<-wU] at hA Β lP;rw[<-wU];have eγ:(nc=0/\rd=[])\/0<nc:=by
  by_cases Τ:nc=0
  ·exact .inl ⟨Τ,dG.1 R⟩
  ·exact .inr R
 repeat apply ad
 refine W.iu (A:=[]) Ρ [(33,a6 (decide (c<nc))),(0,.ar 0 1 0 0),(6,.ar 1 1 0 0),(9,.ao [a7 G,bc L,wT]),(10,gf [p.1,p.2]),(11,cY 6 (rd.map Γ)),(12,I c)] ([cb D,g4 bH bH bH,.dead,.dead,.dead]++bG 60 1 (bB done nc)++bG 29 1 (rd.map Γ)) ?_ (by
  have nM:(bB done nc).length=nc:=wK R;obtain⟨QK,Fs⟩:=aK (bG 29 1 (rd.map Γ));obtain⟨QL,Ft⟩:=aK (cY 6 (rd.map Γ));rw[<-Fs,<-Ft];rcases yG with⟨cl,e⟩|⟨cl,e⟩<;>rcases yH done R with⟨aj,Γ⟩|⟨aj,Γ⟩
  ·rw[e,Γ,aj];(try simp);(repeat (rw[Ο];simp[]));(try simp[])
  ·omega
  ·omega
  ·rw[e,Γ];(try simp);(repeat (rw[Ο];simp[nM]));(try simp[nM]))
 refine W.eU rfl (λδ=>?_) (λδ=>?_)
 ·have δ:c<nc:=by simpa using δ
  rcases yG with⟨cl,_⟩|⟨cl,e⟩
  ·omega
  rcases yH done R with⟨aj,_⟩|⟨aj,Br⟩
  ·omega
  obtain⟨X,mh⟩:=aK (bB done nc);have Bs:X.length=nc:=by rw[mh];exact wK R
  have J9:X[c]?=some bH:=by rw[mh,wU];exact dζ R
  have eδ:∀aL,X.set c (nU aL)=bB (done++[aL]) nc:=λaL=>by rw[mh,wU];exact dη R aL
  have eε:∀e∈X,e.cells=[e]/\aG 0 e:=by rw[mh];exact JC
  have Fu:X.set c bH=X:=by
   apply List.ext_getElem?;intro i;rw[List.getElem?_set];split
   ·rename_i e;subst e;split
    ·exact J9.symm
    ·rename_i h;exact(h R).elim
   ·rfl
  have jh:L.length=mi:=Fp.symm
  have uP:G.length=g:=Ξ.symm;rw[e,Br,<-mh];simp only[List.cons_append,List.nil_append];obtain⟨tl,eζ⟩:=aK ((g:Int)-1:Int);have wg:IntKind.i64.wrap ((g:Int)-1)=tl:=by rw[eζ];exact IntWalk.i64_in _ R
  have Ct:=yu D R (-1) tl;obtain⟨Bt,a1⟩:=yv D (a:=-1) (b:=tl) R bu R;obtain⟨J',QM⟩:=bZ (nS D (-1) tl);obtain⟨Bu,QN⟩:=bZ (D.after (IntKind.i64.wrap (tl- -1)));have eη:Bu.bf.length<=d.bf.length:=by rw[<-QN];exact Nat.le_trans (lD _ _) m'
  rw[QM,QN] at Ct;rw[QM] at Bt a1;have CR:=yu Bu R (-1) tl;obtain⟨cU,bw⟩:=yv Bu (a:=-1) (b:=tl) R bu R;obtain⟨Ka,Ah⟩:=bZ (nS Bu (-1) tl);obtain⟨j8,qz⟩:=bZ (Bu.after (IntKind.i64.wrap (tl- -1)));have Qb:j8.bf.length<=d.bf.length:=by rw[<-qz];exact Nat.le_trans (lD _ _) eη
  rw[Ah,qz] at CR;rw[Ah] at cU bw;obtain⟨r,ι⟩:=aK ((J',Ka):Int×Int);have pK:r.1=J':=by rw[ι]
  have rq:r.2=Ka:=by rw[ι]
  obtain⟨QK,Fs⟩:=aK (bG 29 1 (rd.map Γ));obtain⟨QL,Ft⟩:=aK (cY 6 (rd.map Γ));rw[<-Fs,<-Ft]
  repeat apply ad
  refine W.PW (A:=[]) Ρ mixed [(0,.ar 0 1 0 0),(6,.ar 1 1 0 0),(9,.ao [a7 G,bc L,.ms 5 nc 0 nc]),(10,gf [p.1,p.2]),(11,QL),(12,I c),(13,Γ r)] (cb j8::g4 bH bH bH::.dead::.dead::.dead::.cells 60 1 X::QK) ?_ (by
   simp;(repeat (rw[pq];simp[uP,wg]));(try rw[po]);refine en.e Ct (bF.refl _) η η ?_;simp;(repeat (rw[pq];simp[uP,wg]));(try rw[po]);refine en.e CR (bF.refl _) η η ?_;simp;(repeat (rw[pq];simp[uP,wg]));(try rw[po]);refine⟨iN (by kernel_rfl),iN (by kernel_rfl),?_⟩;simp[ι])
  obtain⟨uV,Fv⟩:=aK ((rd++[r]).map Γ);have jδ:uV.length=c+1:=by rw[Fv];simp[lP]
  have eθ:∀e∈uV,∀a∈e.cells,aG 0 a:=by rw[Fv];exact Qu
  repeat apply ad
  refine W.iu (A:=[52]) Ρ [(0,.ar 0 1 0 0),(6,.ar 1 1 0 0),(9,.ao [a7 G,bc L,.ms 5 nc 0 nc]),(10,gf [p.1,p.2]),(11,.ms 6 (c+1) 0 (c+1)),(12,I c),(13,Γ r)] (cb j8::g4 bH bH bH::.dead::.dead::.dead::.cells 60 1 X::[.cells 29 1 uV]) ?_ (by
   rw[Fv,Fs,Ft];by_cases Τ:rd=[]
   ·subst Τ;have ic:c=0:=by simpa using lP.symm
    subst ic;have Δ:cY 6 (([]:List (Int×Int)).map Γ)=.sl true 0 []:=rfl;have a2:bG 29 1 (([]:List (Int×Int)).map Γ)=[]:=rfl;rw[Δ,a2];(try simp);(repeat (rw[Ο];simp[]));(try simp[])
   ·have nn:rd.map Γ≠[]:=by simpa using Τ
    rw[gX nn,eJ nn];have hle:c<=4294967295:=R;(try simp);(repeat (rw[Ο];simp[lP,hle]));(try simp[lP,hle]))
  have ω:=P0 j8 R mi R
  have wD:=Jl j8 mi
  have vo:∀x∈(hp j8 mi).1,0<=x/\x<mi:=λx h=>P5 h
  have s8:=P6 j8 mi
  have eι:=Jj j8 mi;obtain⟨ord,uK⟩:=bZ ((hp j8 mi).1);obtain⟨jM,qA⟩:=bZ ((hp j8 mi).2);rw[uK] at ω wD vo s8;rw[qA] at ω eι;refine hI jh λΕ ζ=>?_;refine en.g (ω) (bD ?_);apply ζ;have Kb:=wE jM R mi;obtain⟨eκ,QO⟩:=uM jM mi R R;obtain⟨QP,QQ⟩:=bZ (iS jM mi);rw[QQ] at Kb eκ QO;clear QQ;obtain⟨eM,jK⟩:∃k:Nat,QP=k:=⟨QP.toNat,R⟩;obtain⟨yz,Bf⟩:=bZ (jM.after mi);have Js:yz.bf.length<=d.bf.length:=by rw[<-Bf];exact Nat.le_trans (lD _ _) R
  rw[jK,Bf] at Kb;rw[jK] at QO;refine hI jh λΕ ζ=>?_;refine en.g (Kb) (bD ?_);apply ζ
  repeat apply ad
  refine W.iter (λx:dθ=>x.aL.length+x.k=eM/\x.d.bf.length<=d.bf.length/\x.aL.map (·.db)=((ord.take eM).drop x.k).reverse/\∀y∈x.aL,((0<=y.seen/\y.seen<=63)/\(0<=y.bare/\y.bare<=63)/\o0 y.seen y.bare=0)/\n0.o3 p r y=true)
   (λx=>[(0,.ar 0 1 0 0),(6,.ar 1 1 0 0),(9,.ao [a7 G,bc L,.ms 5 nc 0 nc]),(10,gf [p.1,p.2]),(11,.ms 6 (c+1) 0 (c+1)),(12,I c),(13,Γ r),(14,bO I 1 ord),(15,I x.k)])
   (λx=>cb x.d::g4 bH bH bH::.dead::.dead::.dead::.cells 60 1 (X.set c (cY 7 (x.aL.map eQ)))::.cells 29 1 uV::bG 28 3 (x.aL.map eQ)) (λx=>x.k) ⟨eM,yz,[]⟩
   ⟨η,Js,η,η⟩ (by simp only[List.map_nil];rw[show cY 7 []=bH from rfl,Fu];rfl) η (λx γ Be=>?_)
  obtain⟨k,E,aL⟩:=x;obtain⟨ς,Kc,ih,Fw⟩:=γ;simp only at ς Kc ih Fw Be ⊢;refine Η ?_;refine W.eU rfl (λaX=>?_) (λaX=>?_)
  ·have jK:0<k:=by simpa using aX
   obtain⟨j,ε⟩:∃j,k=j+1:=⟨k-1,R⟩;have hw:IntKind.i64.wrap ((k:Int)-1)=j:=by rw[IntWalk.i64_in _ R];omega
   have ES:j<ord.length:=R
   have dz:ord[j]?=some ord[j]:=bg ES
   have pa:=vo _ (List.getElem_mem ES);obtain⟨Kd,ky⟩:=aK (ord[j]);rw[<-ky] at dz pa;have Fx:∀h,ord[j]'h=Kd:=λh=>ky.symm;obtain⟨qF,eu⟩:∃n:Nat,Kd=n:=⟨Kd.toNat,R⟩;rw[eu] at dz Fx pa;have eμ:(cY 7 (aL.map eQ)=bH/\bG 28 3 (aL.map eQ)=[]/\aL=[])\/(cY 7 (aL.map eQ)=.ms 7 aL.length 0 aL.length/\bG 28 3 (aL.map eQ)=[.cells 28 3 (aL.map eQ)]/\0<aL.length):=by
    by_cases Τ:aL=[]
    ·subst Τ;exact .inl ⟨rfl,rfl,rfl⟩
    ·have gu:aL.map eQ≠[]:=by simpa using Τ
     exact .inr ⟨by rw[gX gu,List.length_map],eJ gu,List.length_pos_iff.2 Τ⟩
   have cS:=dι n0 p r qF (by rw[hz];show qF<L.length;omega) (λx γ=>by rw[hz] at γ;have:=(ab.each x γ).1;omega) (by rw[hz,ι];show J'<G.length;omega) (by rw[hz,ι];show Ka<G.length;omega) (cb E::g4 bH bH bH::.dead::.dead::.dead::.cells 60 1 (X.set c (cY 7 (aL.map eQ)))::.cells 29 1 uV::bG 28 3 (aL.map eQ)) 5 nc (X.set c (cY 7 (aL.map eQ))) (by rw[List.length_set];exact Bs) rfl
   have Fy:0<=n0.gb p r qF/\n0.gb p r qF<=63:=by
    have Υ:jm ⟨G,L,[]⟩:=⟨da,ab,η,η⟩;rw[hz];exact dα Υ p r qF
   have QR:∀a b:Int,n0.o3 p r ⟨qF,a,b⟩=(vW a (n0.gb p r qF)==0&&o0 (n0.gb p r qF) b==0):=λa b=>by unfold aT.o3;simp
   obtain⟨Bv,QS⟩:=aK (n0.gb p r qF);rw[<-QS] at cS Fy;simp only[<-QS] at QR;rw[hz] at cS
   repeat apply ad
   refine W.bΥ (A:=[]) Ρ mixed [(0,.ar 0 1 0 0),(6,.ar 1 1 0 0),(9,.ao [a7 G,bc L,.ms 5 nc 0 nc]),(10,gf [p.1,p.2]),(11,.ms 6 (c+1) 0 (c+1)),(12,I c),(13,Γ r),(14,bO I 1 ord),(15,I k),(16,I Bv)] (cb E::g4 bH bH bH::.dead::.dead::.dead::.cells 60 1 (X.set c (cY 7 (aL.map eQ)))::.cells 29 1 uV::bG 28 3 (aL.map eQ)) ?_ (by
    obtain⟨jε,QT⟩:=aK (bG 28 3 (aL.map eQ));obtain⟨jζ,QU⟩:=aK (cY 7 (aL.map eQ));rw[<-QT,<-QU] at cS;rw[<-QT,<-QU,ι];rw[ι] at cS;simp;(repeat (rw[c7];simp[hw,dz,Fx,wD]));(try rw[c6]);refine⟨R,?_⟩;refine DJ (ae.call (first:=[]) (captured:=[]) (ae.nF cS (.cons (.refl _) (.cons .ex (.cons .ex (.cons (.refl _) .nil)))) (λa s h=>⟨_,.refl _,h⟩))) ?_;simp;(repeat (rw[c7];simp[]));(try rw[c6]);refine⟨iN (by kernel_rfl),?_⟩;simp)
   have Ke:=wE E R 63;obtain⟨Bt,a1⟩:=uM E 63 bu bu;obtain⟨pN,sM⟩:=bZ (iS E 63);obtain⟨pC,QV⟩:=bZ (E.after 63);have eν:pC.bf.length<=d.bf.length:=by rw[<-QV];exact Nat.le_trans (lD _ _) Kc
   rw[sM,QV] at Ke;rw[sM] at Bt a1;have pick:∀(F:cD) (x:Int),0<=x->x<=63->0<=([63,x]:List Int).getD (s6 F [63,x]) 0/\([63,x]:List Int).getD (s6 F [63,x]) 0<=63:=λF x J U=>by
    match s6 F [63,x] with
    | 0=>simp
    | 1=>simp;omega
    | n+2=>simp
   have lr:=PY pC R [63,pN] η η
   have Kf:=pick pC pN Bt a1;obtain⟨dJ,QW⟩:=bZ (([63,pN]:List Int).getD (s6 pC [63,pN]) 0);obtain⟨pD,QX⟩:=bZ (pC.after ((([63,pN]:List Int).length:Int)-1));have eξ:pD.bf.length<=d.bf.length:=by rw[<-QX];exact Nat.le_trans (lD _ _) eν
   rw[QW,QX] at lr;rw[QW] at Kf;have AX:=wE pD R 63;obtain⟨cU,bw⟩:=uM pD 63 bu bu;obtain⟨ie,kI⟩:=bZ (iS pD 63);obtain⟨Bw,QY⟩:=bZ (pD.after 63);have eο:Bw.bf.length<=d.bf.length:=by rw[<-QY];exact Nat.le_trans (lD _ _) eξ
   rw[kI,QY] at AX;rw[kI] at cU bw;have ox:=PY Bw R [63,ie] η η;have Kg:=pick Bw ie cU bw;obtain⟨h8,QZ⟩:=bZ (([63,ie]:List Int).getD (s6 Bw [63,ie]) 0);obtain⟨Kh,Q0⟩:=bZ (Bw.after ((([63,ie]:List Int).length:Int)-1));have eπ:Kh.bf.length<=d.bf.length:=by rw[<-Q0];exact Nat.le_trans (lD _ _) eο
   rw[QZ,Q0] at ox;rw[QZ] at Kg;obtain⟨Q1,_,_⟩:=Jv Fy Kf;obtain⟨_,rA,pR⟩:=Jv Kg Fy;obtain⟨tN,Ki⟩:=dΤ Fy Kf Kg;obtain⟨Q2,eV⟩:=bZ (eY .i64 Bv dJ);obtain⟨BQ,q8⟩:=bZ (k9 .i64 h8 Bv);rw[eV] at Q1 tN Ki;rw[q8] at rA pR Ki;obtain⟨u5,Kj⟩:=aK (⟨qF,Q2,BQ⟩:fi);have bA:(aL++[u5]).map eQ≠[]:=η
   repeat apply ad
   refine W.PW (A:=[105]) Ρ mixed [(0,.ar 0 1 0 0),(6,.ar 1 1 0 0),(9,.ao [a7 G,bc L,.ms 5 nc 0 nc]),(10,gf [p.1,p.2]),(11,.ms 6 (c+1) 0 (c+1)),(12,I c),(13,Γ r),(14,bO I 1 ord),(15,I k)] (cb Kh::g4 bH bH bH::.dead::.dead::.dead::.cells 60 1 (X.set c (cY 7 ((aL++[u5]).map eQ)))::.cells 29 1 uV::bG 28 3 ((aL++[u5]).map eQ)) ?_ (by
    rw[gX bA,eJ bA,List.length_map,List.length_append,List.map_append,List.map_cons,List.map_nil,Kj];rcases eμ with⟨f1,f2,f3⟩|⟨f1,f2,f3⟩
    ·rw[f1,f2,Fu,f3];simp;(repeat (rw[pq];simp[hw,dz,Fx,wD,Bs,J9]));(try rw[po]);refine⟨R,R,?_⟩;refine en.h (Ke) (yt ?_);refine en.e lr (.cons .ex .nil) η η ?_;simp[eV];(repeat (rw[pq];simp[eV]));(try rw[po]);refine en.h (AX) (yt ?_);refine en.e ox (.cons .ex .nil) η η ?_;simp[q8];(repeat (rw[pq];simp[q8,Bs,J9]));(try rw[po]);refine⟨R,?_⟩;refine⟨iN (by kernel_rfl),iN (by kernel_rfl),?_⟩;simp
    ·rw[f1,f2];have Q3:∀v,(X.set c v)[c]?=some v:=λv=>by rw[List.getElem?_set_self R]
     have Q4:∀v h,(X.set c v)[c]'h=v:=λv h=>List.getElem_set_self h;simp;(repeat (rw[pq];simp[hw,dz,Fx,wD,Bs,Q3,Q4]));(try rw[po]);refine⟨R,R,?_⟩;refine en.h (Ke) (yt ?_);refine en.e lr (.cons .ex .nil) η η ?_;simp[eV];(repeat (rw[pq];simp[eV]));(try rw[po]);refine en.h (AX) (yt ?_);refine en.e ox (.cons .ex .nil) η η ?_;simp[q8];(repeat (rw[pq];simp[q8,Bs,Q3,Q4]));(try rw[po]);refine⟨R,R,?_⟩;refine⟨iN (by kernel_rfl),iN (by kernel_rfl),?_⟩;simp)
   refine aB hw ?_;have lf:(ord.take eM).drop j=(qF:Int)::(ord.take eM).drop k:=by
    have im:j<(ord.take eM).length:=by rw[List.length_take];omega
    rw[List.drop_eq_getElem_cons im,ε,List.getElem_take,<-ky,eu]
   refine W.to (Be ⟨j,Kh,aL++[u5]⟩ ⟨by show(aL++[u5]).length+j=eM;rw[List.length_append];simp;omega,eπ,?_,λy Ι=>?_⟩ (by show j<k;omega)) η (by simp[hw])
   ·show(aL++[u5]).map (·.db)=((ord.take eM).drop j).reverse;rw[lf,List.map_append,ih,List.reverse_cons,Kj];rfl
   ·rcases List.mem_append.1 Ι with Ι|Ι
    ·exact Fw y Ι
    ·simp at Ι;subst Ι;subst Kj;refine⟨⟨Q1,rA,Ki⟩,?_⟩;rw[QR];have vl:vW Q2 Bv=0:=tN;have qU:o0 Bv BQ=0:=pR;rw[vl,qU];rfl
  ·have jK:k=0:=by simp at aX;omega
   subst jK;have jη:aL.length=eM:=R;rw[List.drop_zero] at ih;have oQ:yD mi aL:=by
    refine⟨R,?_,λy Ι=>?_⟩
    ·rw[ih];unfold List.Nodup;rw[List.pairwise_reverse];exact(s8.sublist (List.take_sublist _ _)).imp Ne.symm
    ·have hm:y.db∈aL.map (·.db):=List.mem_map.2 ⟨y,Ι,rfl⟩;rw[ih,List.mem_reverse] at hm;have:=vo _ (List.mem_of_mem_take hm);obtain⟨⟨Χ,ak,aY⟩,_⟩:=Fw y Ι;exact⟨this,Χ,ak,aY⟩
   have hw:IntKind.i64.wrap ((c:Int)+1)=((c+1:Nat):Int):=by rw[IntWalk.i64_in _ R];omega
   have eρ:(done++[aL]).length=c+1:=by simp;omega
   have yK:=Β ⟨E,done++[aL],rd++[r]⟩ ⟨by show(done++[aL]).length<=nc;omega,Kc,λx γ=>by
    rcases List.mem_append.1 γ with γ|γ
    ·exact wM x γ
    ·simp at γ;subst γ;exact oQ,by show(rd++[r]).length=_;simp[lP,wU],λy Ι=>by
    rcases List.mem_append.1 Ι with Ι|Ι
    ·exact J7 y Ι
    ·simp at Ι;subst Ι;rw[pK,rq];omega,λx y z J U=>by
    by_cases γ:x<c
    ·rw[ev R] at J U;exact J8 x y z J U
    ·rw[h6 R] at J U;have Δ:x-rd.length=x-c:=by rw[lP]
     rw[Δ] at J;rw[<-wU] at U;cases Q5:x-c with
     | zero=>rw[Q5] at J U;simp at J U;subst J;subst U;exact λy Ι=>(Fw y Ι).2
     | succ q=>rw[Q5] at J;simp at J⟩ (by show nc-(done++[aL]).length<nc-c;omega)
   have eς:bB (done++[aL]) nc≠[]:=λh=>by
    have:=wK (done:=done++[aL]) (nc:=nc) R;rw[h] at this;simp at this;omega
   have Q6:(rd++[r]).map Γ≠[]:=η
   have eτ:((rd++[r]).map Γ).length=c+1:=by simp[lP]
   simp only[eρ] at yK;rw[eJ eς,eJ Q6,gX Q6,eτ,<-Fv,<-eδ aL,e] at yK;refine W.exit rfl ?_;by_cases Τ:aL=[]
   ·subst Τ;rw[show nU []=bH from rfl,Fu] at yK;rw[show cY 7 (([]:List fi).map eQ)=bH from rfl,show bG 28 3 (([]:List fi).map eQ)=[] from rfl,Fu];refine aB hw ?_;exact W.to yK rfl (by simp[hw])
   ·have gu:aL.map eQ≠[]:=by simpa using Τ
    have yJ:nU aL=.sl false 3 (aL.map eQ):=by unfold nU gM;rw[if_neg (by simpa using Τ)]
    rw[yJ] at yK;rw[gX gu,eJ gu];refine W.yA (σ':=cb E::g4 bH bH bH::.dead::.dead::.dead::.cells 60 1 (X.set c (.sl false 3 (aL.map eQ)))::.cells 29 1 uV::[.dead]) (id:=7) η rfl rfl rfl (λi r hi ι=>?_) [(0,.ar 0 1 0 0),(6,.ar 1 1 0 0),(9,.ao [a7 G,bc L,.ms 5 nc 0 nc]),(10,gf [p.1,p.2]),(11,.ms 6 (c+1) 0 (c+1)),(12,I c)] (λp ψ=>by
     simp only[List.mem_cons,List.not_mem_nil,or_false] at ψ;rcases ψ with rfl|rfl|rfl|rfl|rfl|rfl<;>exact .same _) ?_
    ·match i,hi,ι with
     | 0,_,ι=>exact⟨r,ι,.inl rfl⟩
     | 1,_,ι=>exact⟨r,ι,.inl rfl⟩
     | 2,_,ι=>exact⟨r,ι,.inl rfl⟩
     | 3,_,ι=>exact⟨r,ι,.inl rfl⟩
     | 4,_,ι=>exact⟨r,ι,.inl rfl⟩
     | 5,_,ι=>
      simp at ι;subst ι;refine⟨_,rfl,.inr ⟨60,1,_,_,rfl,rfl,η,λy e aQ J U=>?_⟩⟩;by_cases Ι:y=c
      ·subst Ι;rw[List.getElem?_set_self R] at J U;cases J;cases U;refine⟨rfl,λx a cz μ Θ=>?_⟩
       match x with
       | 0=>simp[θ.cells] at μ Θ;subst μ;subst Θ;have:=rU.ms (id:=7) (k:=3) (l:=aL.map eQ);rwa [List.length_map] at this
       | x+1=>simp[θ.cells] at μ
      ·rw[List.getElem?_set_ne (Ne.symm Ι)] at J U;rw[J] at U;cases U;exact⟨rfl,λx a cz μ Θ=>by rw[μ] at Θ;cases Θ;exact .same _⟩
     | 6,_,ι=>exact⟨r,ι,.inl rfl⟩
     | 7,h,_=>exact absurd rfl h
     | i+8,_,ι=>simp at ι
    refine W.drop (h:=7) η η (λi r hi ι=>?_) rfl [(0,.ar 0 1 0 0),(6,.ar 1 1 0 0),(9,.ao [a7 G,bc L,.ms 5 nc 0 nc]),(10,gf [p.1,p.2]),(11,.ms 6 (c+1) 0 (c+1)),(12,I c)] ?_ ?_
    ·match i,hi,ι with
     | 0,_,ι=>simp at ι;subst ι;exact wH E 7
     | 1,_,ι=>simp at ι;subst ι;intro e he a κ;simp[θ.cells] at he;subst he;simp[θ.cells] at κ;subst κ;simp
     | 2,_,ι=>simp at ι;subst ι;trivial
     | 3,_,ι=>simp at ι;subst ι;trivial
     | 4,_,ι=>simp at ι;subst ι;trivial
     | 5,_,ι=>
      simp at ι;subst ι;intro e he a κ;rcases List.mem_or_eq_of_mem_set he with he|rfl
      ·obtain⟨J,U⟩:=eε e he;rw[J] at κ;simp at κ;subst κ;exact U.mono (Nat.zero_le _)
      ·simp[θ.cells] at κ;subst κ;have:=Qv aL;rw[yJ] at this;exact this.mono (Nat.zero_le _)
     | 6,_,ι=>simp at ι;subst ι;exact λe he a κ=>(eθ e he a κ).mono (Nat.zero_le _)
     | i+7,h,_=>omega
    ·intro p ψ;simp only[List.mem_cons,List.not_mem_nil,or_false] at ψ;rcases ψ with rfl|rfl|rfl|rfl|rfl|rfl
     ·exact⟨rfl,lg.2 R⟩
     ·exact⟨rfl,lg.2 R⟩
     ·refine⟨rfl,MN.2 λa κ=>?_⟩;simp only[List.mem_cons,List.not_mem_nil,or_false] at κ;rcases κ with rfl|rfl|rfl
      ·exact(iL.2 s7:aG 0 _).mono (Nat.zero_le _)
      ·exact(iL.2 yC:aG 0 _).mono (Nat.zero_le _)
      ·exact rh.2 R
     ·exact⟨rfl,η⟩
     ·exact⟨rfl,rh.2 R⟩
     ·exact⟨rfl,.z _⟩
    refine aB hw ?_;exact W.to yK rfl (by simp[hw])
 ·have δ:c=nc:=by simp at δ;omega
  subst δ;refine W.exit rfl ?_;have pW:jm ⟨G,L,done⟩:=⟨da,ab,by show done.length<=4;omega,λx γ=>by show yD L.length x;rw[<-Fp];exact wM x γ⟩;have eυ:bB done c=done.map nU:=by rw[wU];exact dε
  have AM:J4 gi cells ⟨G,L,done⟩ p rd:=⟨⟨n2,e9,ψ⟩,pW,by show done.length<=cells;omega,Jt,by show rd.length=done.length;omega,λr ι=>by show(-1<=r.1/\r.1<G.length)/\_;rw[<-Ξ];exact J7 r ι,λx y h=>by
   unfold aT.sH;show((done[x]?).getD []).all _=true;cases γ:done[x]? with
   | none=>rfl
   | some aL=>
    refine List.all_eq_true.2 λz Τ=>?_;have:=J8 x y aL h γ z Τ;rw[hz] at this;exact this⟩
  have eφ:dP (.a5 [a7 G,bc L,.sl false 1 (done.map nU)]) (fD ⟨G,L,done⟩):=by
   refine .a5 (.cons (.refl _) (.cons (.refl _) (.cons ?_ .nil)));exact .map λx _=>.one .acc (Qw x) rfl
  have eχ:dP (.sl false 1 (rd.map Γ)) (bc (JB rd)):=by
   show dP (.sl false 1 (rd.map Γ)) (.sl false 1 ((JB rd).map (bO I 1)));rw[List.map_map];exact .map λr _=>.one .ex rfl rfl
  rcases yG with⟨cl,e⟩|⟨cl,e⟩<;>rcases yH done R with⟨aj,Br⟩|⟨aj,Br⟩
  ·have Bx:rd=[]:=by rcases eγ with⟨_,h⟩|h;exact h;omega
   have eψ:done=[]:=dG.1 R;rw[e,Br,Bx];rw[show cY 6 (([]:List (Int×Int)).map Γ)=bH from rfl,show bG 29 1 (([]:List (Int×Int)).map Γ)=[] from rfl];refine Η ?_;refine W.cut 1 η [(6,.ao [a7 G,bc L,bH]),(7,gf [p.1,p.2]),(8,bH)] η (λid r b9 ι=>?_) (λz Τ=>?_) ?_
   ·have:id=0:=by omega
    subst this;simp at ι;subst ι;exact wH D 1
   ·simp only[List.mem_cons,List.not_mem_nil,or_false] at Τ;rcases Τ with rfl|rfl|rfl
    ·show eT 1 _ (a9 _ 6) _;simp;refine .struct η (show _=some (Row.cells _ _ [.a5 _]) from rfl) rfl λx a cz J U=>?_
     match x with
     | 0=>simp at J U;subst J;subst U;exact .low ((iL.2 s7:aG 0 _).mono (Nat.zero_le _))
     | 1=>simp at J U;subst J;subst U;exact .low ((iL.2 yC:aG 0 _).mono (Nat.zero_le _))
     | 2=>simp at J U;subst J;subst U;exact .low η
     | x+3=>simp at U
    ·exact .low η
    ·exact .low η
   ·refine W.ret ⟨_,rfl,_,D,?_,⟨_,p,rd,rfl,AM⟩,rfl,m'⟩;rw[eψ,Bx];exact .bj (.cons (.a5 (.cons (.refl _) (.cons (.refl _) (.cons .nil .nil)))) (.cons .ex (.cons .nil .nil)))
  ·omega
  ·omega
  ·have nM:(bB done c).length=c:=wK R
   have Bx:rd.map Γ≠[]:=λh=>by
    have:(rd.map Γ).length=0:=by rw[h];rfl
    rw[List.length_map] at this;omega
   rw[e,Br,gX Bx,eJ Bx,List.length_map,lP];refine aB nM ?_;refine W.cut 1 η [(6,.ao [a7 G,bc L,.sl false 1 (bB done c)]),(7,gf [p.1,p.2]),(8,.sl false 1 (rd.map Γ))] η (λid r b9 ι=>?_) (λz Τ=>?_) ?_
   ·have:id=0:=by omega
    subst this;simp at ι;subst ι;exact wH D 1
   ·simp only[List.mem_cons,List.not_mem_nil,or_false] at Τ;rcases Τ with rfl|rfl|rfl
    ·show eT 1 _ (a9 _ 6) _;simp;refine .struct η (show _=some (Row.cells _ _ [.a5 _]) from rfl) rfl λx a cz J U=>?_
     match x with
     | 0=>simp at J U;subst J;subst U;exact .low ((iL.2 s7:aG 0 _).mono (Nat.zero_le _))
     | 1=>simp at J U;subst J;subst U;exact .low ((iL.2 yC:aG 0 _).mono (Nat.zero_le _))
     | 2=>simp at J U;subst J;subst U;exact .own (t:=60) η rfl nM (λe he a κ=>by
       obtain⟨dK,dq⟩:=JC e he;rw[dK] at κ;simp at κ;subst κ;exact dq.mono (Nat.zero_le _))
     | x+3=>simp at U
    ·exact .low η
    ·show eT 1 _ (a9 _ 8) _;simp;exact .own (t:=29) (id:=6) η rfl (by simp[lP]) (λe he a κ=>(Qu e he a κ).mono (Nat.zero_le _))
   ·rw[eυ];exact W.ret ⟨_,rfl,_,D,.bj (.cons eφ (.cons .ex (.cons eχ .nil))),⟨_,p,rd,rfl,AM⟩,rfl,m'⟩
end Go.TL
namespace Go.TL
open Go.Conc Go.Proofs
variable [bn]
end Go.TL
namespace Go.TL
open Go.Proofs
variable [bn]
end Go.TL
namespace Go.TL
open Go.Proofs
end Go.TL
namespace Go.TL
open Go.Proofs
variable [bn]
theorem Q7 {n:Nat} {r:Int×Int}:r∈Ak n↔(-1<=r.1/\r.1<n)/\(-1<=r.2/\r.2<n):=by
 unfold Ak ot l';simp only[List.mem_flatMap,List.mem_map,List.mem_range];constructor
 ·rintro⟨x,γ,y,Ι,rfl⟩;simp only;omega
 ·rintro⟨⟨J,U⟩,μ,Θ⟩;exact⟨(r.1+1).toNat,R,(r.2+1).toNat,R,Prod.ext (by simp only;omega) (by simp only;omega)⟩
theorem eω {gi cells:Nat} {s:aT} {p:Int×Int} {rd:List (Int×Int)} (h:J4 gi cells s p rd):cV s≠[]:=by
 obtain⟨k,ς,rfl⟩:=h.dΥ;have ο:=h.len;have ι:∀c,c<s.cells.length->0<(jj s (fl k) c).length:=λc δ=>by
  have Ξ:rd[c]?=some (rd[c]'R):=bg R;exact List.length_pos_of_mem (List.mem_filter.2 ⟨Q7.2 (h.each _ (cE Ξ)),h.right c _ Ξ⟩)
 have ψ:∀i,i<=s.cells.length->0<ir (ho s (fl k)).cells (-1) i:=by
  intro i
  induction i with
  | zero=>intro _;simp[ir]
  | succ i Β=>
   intro hi;rw[QG _ R];exact Nat.mul_pos (Β R) (ι i R)
 intro Ζ;have:ho s (fl k)∈cV s:=J3.2 ⟨k,ς,by rw[QF];exact ψ _ (Nat.le_refl _),rfl⟩;rw[Ζ] at this;cases this
structure By (s:aT) (F:List Found) (lower:Bool) (N:Nat):Prop where
 nK:F.length<2 ^ 20
 cells:∀f∈F,f.cells.length=s.cells.length/\∀c∈f.cells,c.length<2 ^ 20
 some:∀c,c<s.cells.length->gg F c lower≠[]/\(gg F c lower).length<=N
theorem By.call {s:aT} {F:List Found} {lower:Bool} {N:Nat} (h:By s F lower N) (cm:N<2 ^ 20) (fh:v7 N) {c:Nat} (δ:c<s.cells.length):az Tryz.prog 95 [cZ F,I c,a6 lower] (bO I 1 (fS F c lower)):=
 Nw F c lower h.nK (λf Υ=>⟨by rw[(h.cells f Υ).1];exact δ,(h.cells f Υ).2⟩) N cm fh (h.some c δ).1 (h.some c δ).2
def yL (s:aT) (F:List Found) (cell:Int) (lower:Bool):List Int×Int:=
 if(jD s cell F).2.2=0 then(fS F cell.toNat lower,0) else([],(jD s cell F).2.2)
theorem eΑ (s:aT) (ν:s.small) (F:List Found) (c0:qi s F) (cell:Int) (lower:Bool) (N:Nat) (cm:N<2 ^ 20) (fh:v7 N) (ab:(jD s cell F).2.2=0->By s F lower N) :
  az Tryz.prog 57 [fD s,I cell,a6 lower] (.bj [bO I 1 (yL s F cell lower).1,I (yL s F cell lower).2]):=by
 refine ae.body Ρ Tryz.func57 rfl rfl Tryz.ntmps57 rfl rfl η ?_;refine Η ?_;refine tW ?_;refine dM (A:=[8]) Ρ λΕ ζ=>bD ?_;refine az.d (Ns s ν cell F c0) (bD ?_);apply ζ;by_cases b:(jD s cell F).2.2=0
 case neg=>
  have e:yL s F cell lower=([],(jD s cell F).2.2):=if_neg b;rw[e];generalize (jD s cell F).2.2=fB at b;refine Η ?_;refine ai (by simp[b]) ?_;refine Η ?_;refine W.drop (h:=0) (Nat.zero_le _) (Nat.zero_le _) η rfl [(6,.sl true 0 []),(7,I fB)] η ?_;refine W.rt ?_;exact .bj (.cons .nil (.cons (.refl _) .nil))
 have e:yL s F cell lower=(fS F cell.toNat lower,0):=if_pos b;obtain⟨ic,kK,Δ⟩:=Pb b;obtain⟨n,rfl⟩:∃n:Nat,cell=n:=⟨cell.toNat,R⟩;rw[e,Δ];have ο:=(ab b).call cm fh (c:=n) R;refine Η ?_;refine aa rfl ?_;refine bl λΕ ζ=>?_;refine az.d (ο) (bD ?_);apply ζ;refine W.drop (h:=0) (Nat.zero_le _) (Nat.zero_le _) η rfl [(6,bO I 1 (fS F n lower)),(7,I 0)] η ?_;refine W.rt ?_;exact .refl _
def yM (s:aT) (F:List Found) (cell:Int) (lower:Bool) (g:Int):Int×Int:=
 if s.err≠0 then(0,s.err) else if cell<0\/(s.cells.length:Int)<=cell\/g< -1\/(s.au.length:Int)<=g then(0,3) else if F=[] then(0,9)
 else if ¬(fS F cell.toNat lower).contains g=true then(2,0) else if(fS F cell.toNat lower).length=1 then(1,0) else(3,0)
theorem eΒ (s:aT) (ν:s.small) (F:List Found) (c0:qi s F) (cell:Int) (lower:Bool) (g:Int) (N:Nat) (cm:N<2 ^ 20) (fh:v7 N) (ab:F≠[]->By s F lower N) (eΓ:∀c,(fS F c lower).length<2 ^ 40) :
  az Tryz.prog 53 [fD s,I cell,a6 lower,I g] (.bj [I (yM s F cell lower g).1,I (yM s F cell lower g).2]):=by
 refine ae.body Ρ Tryz.func53 rfl rfl Tryz.ntmps53 rfl rfl η ?_;refine Η ?_;refine bl λΕ ζ=>?_;refine az.d (D6 s ν) (bD ?_);apply ζ;refine Η ?_;by_cases cU:s.err=0
 case neg=>
  have e:yM s F cell lower g=(0,s.err):=if_pos cU;rw[e];generalize s.err=fB at cU;refine ai (by simp[cU]) ?_;refine Η ?_;refine W.rt ?_;exact .refl _
 have cl:yM s F cell lower g=_:=if_neg (by simpa using cU);refine aa (by simp[cU]) ?_
 repeat apply ad
 refine W.rf (A:=[]) Ρ [(39,a6 (decide (cell<0)||decide ((s.cells.length:Int)<=cell)||decide (g< -1)||decide ((s.au.length:Int)<=g))),(1,I cell),(2,a6 lower),(3,I g),(4,.ao [a7 s.au,bc s.aI,ca s.cells])] ?_ (by
  by_cases dK:cell<0
  ·(try simp);(repeat (rw[Ο];simp[dK]));(try simp[dK])
  ·by_cases dq:(s.cells.length:Int)<=cell
   ·(try simp);(repeat (rw[Ο];simp[dK,dq]));(try simp[dK,dq])
   ·by_cases ga:g< -1
    ·(try simp);(repeat (rw[Ο];simp[dK,dq,ga]));(try simp[dK,dq,ga])
    ·(try simp);(repeat (rw[Ο];simp[dK,dq,ga]));(try simp[dK,dq,ga]))
 by_cases bw:cell<0\/(s.cells.length:Int)<=cell\/g< -1\/(s.au.length:Int)<=g
 ·rw[cl,if_pos bw];refine ai (by simp;omega) ?_;refine Η ?_;refine W.rt ?_;exact .refl _
 rw[cl,if_neg bw];refine aa (by simp;omega) ?_;obtain⟨n,rfl⟩:∃n:Nat,cell=n:=⟨cell.toNat,R⟩;refine tW ?_;refine dM (A:=[11]) Ρ λΕ ζ=>bD ?_;refine az.d (Ag s ν true F c0) (bD ?_);apply ζ;by_cases z:F=[]
 ·have e:eZ s true F=(s,[],9):=by unfold eZ;rw[if_neg (by simpa using cU),if_pos ⟨rfl,z⟩]
  rw[e,if_pos z];refine Η ?_;refine ai η ?_;refine Η ?_;refine W.drop (h:=0) (Nat.zero_le _) (Nat.zero_le _) η rfl [(8,I 0),(9,I 9)] η ?_;refine W.rt ?_;exact .refl _
 have e:eZ s true F=(s,F,0):=by unfold eZ;rw[if_neg (by simpa using cU),if_neg (by simp[z])]
 rw[e,if_neg z];have ο:=(ab z).call cm fh (c:=n) R;have EX:=eΓ n;rw[Int.toNat_natCast];refine Η ?_;refine aa rfl ?_;refine bl λΕ ζ=>?_;refine az.d (ο) (bD ?_);apply ζ;obtain⟨L,eΔ⟩:=aK (fS F n lower);rw[<-eΔ] at EX ⊢;refine Η ?_;refine bl λΕ ζ=>?_;refine az.d (HN L g R) (bD ?_);apply ζ;by_cases q:L.contains g=true
 ·rw[if_neg (by simpa using q)];refine aa (by simpa using q) ?_;refine Η ?_;by_cases dK:L.length=1
  ·rw[if_pos dK];refine ai (by simp[dK]) ?_;refine Η ?_;refine W.drop (h:=0) (Nat.zero_le _) (Nat.zero_le _) η rfl [(8,I 1),(9,I 0)] η ?_;refine W.rt ?_;exact .refl _
  ·rw[if_neg dK];refine aa (by simp;omega) ?_;refine Η ?_;refine W.drop (h:=0) (Nat.zero_le _) (Nat.zero_le _) η rfl [(8,I 3),(9,I 0)] η ?_;refine W.rt ?_;exact .refl _
 ·rw[if_pos q];refine ai (by simpa using q) ?_;refine Η ?_;refine W.drop (h:=0) (Nat.zero_le _) (Nat.zero_le _) η rfl [(8,I 2),(9,I 0)] η ?_;refine W.rt ?_;exact .refl _
theorem eΕ (d:Array (Int)) (n a b p:Nat) (Ζ:d.size=n) (ν:n<2 ^ 40) (ib:a<=p) (JE:p<b) (hb:b<=n)  :
  ae Tryz.prog 205 [.ms 0 n 0 n,I a,I b,I p] [.cells 3 1 ((d).toList.map I)] (λr s=>r=.bj [I (Go.Sort.partition (Go.Sort.ltInt) d a b p).1,a6 (Go.Sort.partition (Go.Sort.ltInt) d a b p).2.1]/\s=[.cells 3 1 (((Go.Sort.partition (Go.Sort.ltInt) d a b p).2.2).toList.map I)]) (λ_ _=>False):=by
 refine ae.body Ρ Tryz.func205 rfl rfl Tryz.ntmps205 rfl rfl η ?_;have h2:=gR (i:=a) R;have g0:=hP (i:=b) R R
 repeat apply ad
 refine mQ ?_;have aD:a<n:=R;have aH:p<n:=R;obtain⟨L,x,y,ab,γ,Ι,ο,⟨J,U⟩,⟨μ,Θ⟩,cq,eC,av⟩:=eB I Ζ aD aH;refine W.to (σ':=[.cells 3 1 L]) (env':=[(0,.ms 0 n 0 n),(1,I a),(2,I b),(3,I p)]) ?_ (by rw[ab]) η;clear γ Ι
 repeat apply ad
 refine dF (υ ο (υ J (υ U (υ μ (υ Θ (υ av (υ aD aH))))))) ?_;refine W.to (σ':=[.cells 3 1 ((Go.Sort.swp d a p).toList.map I)]) (env':=[(0,.ms 0 n 0 n),(1,I a),(2,I b),(3,I p)]) ?_ (by rw[cq]) η;clear aD aH J U μ Θ av cq ο ab L x y eC;obtain⟨e,he⟩:=aK (Go.Sort.swp d a p);have cp:e.size=n:=by rw[he];exact swp_size Ζ a p
 rw[<-he]
 repeat apply ad
 refine nG (υ h2 g0) ?_;refine W.to (σ':=[.cells 3 1 ((e).toList.map I)]) (env':=[(0,.ms 0 n 0 n),(1,I a),(10,I (a+1:Nat)),(11,I (b-1:Nat))]) ?_ rfl η;obtain⟨ah,dO⟩:=bZ (Go.Sort.scanUp (λx=>Go.Sort.ltInt x e[a]!) e (b-1) (a+1));obtain⟨an,cQ⟩:=bZ (Go.Sort.scanDown (λx=>!Go.Sort.ltInt x e[a]!) e ah (b-1));obtain⟨s1,s2,kD,pB,ki⟩:=uQ (λx=>Go.Sort.ltInt x e[a]!) (λx=>!Go.Sort.ltInt x e[a]!) (λx=>rfl) e R R dO cQ;have cB:Go.Sort.partition (Go.Sort.ltInt) d a b p=if ah > an then(an,true,Go.Sort.swp e an a) else((Go.Sort.partLoop (Go.Sort.ltInt) a (ah+1) (an-1) (Go.Sort.swp e ah an)).1,false,Go.Sort.swp (Go.Sort.partLoop (Go.Sort.ltInt) a (ah+1) (an-1) (Go.Sort.swp e ah an)).2 (Go.Sort.partLoop (Go.Sort.ltInt) a (ah+1) (an-1) (Go.Sort.swp e ah an)).1 a):=by
  unfold Go.Sort.partition;simp only[<-he,dO,cQ]
 repeat apply ad
 repeat apply ad
 refine W.j9 [(0,.ms 0 n 0 n),(1,I a),(10,I (ah:Nat)),(11,I (b-1:Nat))] [.cells 3 1 ((e).toList.map I)] ?_ ?_
 ·refine W.iter (λi:Nat=>(a+1)<=i/\i<=(b-1)+1/\Go.Sort.scanUp (λx=>Go.Sort.ltInt x e[a]!) e (b-1) i=ah) (λi=>[(0,.ms 0 n 0 n),(1,I a),(10,I (i:Nat)),(11,I (b-1:Nat))]) (λ_=>[.cells 3 1 ((e).toList.map I)]) (λi=>(b-1)+1-i) ((a+1)) ⟨Nat.le_refl _,R,dO⟩ rfl η (λi hi Β=>?_);obtain⟨iq,ix,dk⟩:=hi;by_cases δ:i<=(b-1)
  ·have aD:i<n:=by omega
   have aH:a<n:=R;obtain⟨L,x,y,ab,γ,Ι,ο,⟨J,U⟩,⟨μ,Θ⟩,-,-⟩:=eB I cp aD aH;have un:Go.Sort.scanUp (λx=>Go.Sort.ltInt x e[a]!) e (b-1) i=if(Go.Sort.ltInt x y)=true then Go.Sort.scanUp (λx=>Go.Sort.ltInt x e[a]!) e (b-1) (i+1) else i:=by rw[Go.Sort.scanUp];simp[δ,γ,Ι]
   have hw:=gR (i:=i) R;refine W.to (σ':=[.cells 3 1 L]) (env':=[(0,.ms 0 n 0 n),(1,I a),(10,I (i:Nat)),(11,I (b-1:Nat))]) ?_ (by rw[ab]) η;clear γ Ι
   repeat apply ad
   refine W.draw (A:=[]) Ρ mixed λΕ ζ=>gq (υ δ (υ ο (υ J (υ U (υ μ (υ Θ (υ aD aH))))))) ?_;refine eA (az.p (nI x y) (bF.refl _) η η) ?_;simp;(repeat (rw[c7];simp[]));try rw[c6]
   refine er (ζ _ _ ?_);by_cases hm:x<y
   ·refine ai (by simp[hm]) ?_;refine aB hw ?_;exact W.to (Β (i+1) ⟨R,R,by rw[<-dk,un];simp[hm,Go.Sort.ltInt]⟩ (by(try simp only);omega)) (by rw[ab]) (by simp[hw])
   ·refine aa (by simp[hm]) ?_;refine W.exit rfl ?_;exact W.stop ⟨rfl,by rw[ab],by rw[<-dk,un];simp[hm,Go.Sort.ltInt]⟩
  ·repeat apply ad
   refine dF δ ?_;refine aa rfl ?_;refine W.exit rfl ?_;have e:Go.Sort.scanUp (λx=>Go.Sort.ltInt x e[a]!) e (b-1) i=i:=by rw[Go.Sort.scanUp];simp[δ]
   exact W.stop ⟨rfl,rfl,by rw[<-dk,e];simp⟩
 repeat apply ad
 refine W.j9 [(0,.ms 0 n 0 n),(1,I a),(10,I (ah:Nat)),(11,I (an:Nat))] [.cells 3 1 ((e).toList.map I)] ?_ ?_
 ·refine W.iter (λi:Nat=>i<=(b-1)/\ah<=i+1/\Go.Sort.scanDown (λx=>!Go.Sort.ltInt x e[a]!) e ah i=an) (λi=>[(0,.ms 0 n 0 n),(1,I a),(10,I (ah:Nat)),(11,I (i:Nat))]) (λ_=>[.cells 3 1 ((e).toList.map I)]) (λi=>i+1-ah) ((b-1)) ⟨Nat.le_refl _,R,cQ⟩ rfl η (λi hi Β=>?_);obtain⟨iq,ix,dk⟩:=hi;by_cases δ:ah<=i
  ·have aD:i<n:=by omega
   have aH:a<n:=R;obtain⟨L,x,y,ab,γ,Ι,ο,⟨J,U⟩,⟨μ,Θ⟩,-,-⟩:=eB I cp aD aH;obtain⟨q,Φ⟩:∃q,i=q+1:=⟨i-1,R⟩;have un:Go.Sort.scanDown (λx=>!Go.Sort.ltInt x e[a]!) e ah i=if(!Go.Sort.ltInt x y)=true then Go.Sort.scanDown (λx=>!Go.Sort.ltInt x e[a]!) e ah (i-1) else i:=by subst Φ;rw[Go.Sort.scanDown];simp[δ,γ,Ι]
   have hw:=hP (i:=i) R R;refine W.to (σ':=[.cells 3 1 L]) (env':=[(0,.ms 0 n 0 n),(1,I a),(10,I (ah:Nat)),(11,I (i:Nat))]) ?_ (by rw[ab]) η;clear γ Ι
   repeat apply ad
   refine W.draw (A:=[]) Ρ mixed λΕ ζ=>gq (υ δ (υ ο (υ J (υ U (υ μ (υ Θ (υ aD aH))))))) ?_;refine eA (az.p (nI x y) (bF.refl _) η η) ?_;simp;(repeat (rw[c7];simp[]));try rw[c6]
   refine er (ζ _ _ ?_);by_cases hm:x<y
   ·refine aa (by simp[hm]) ?_;refine W.exit rfl ?_;exact W.stop ⟨rfl,by rw[ab],by rw[<-dk,un];simp[hm,Go.Sort.ltInt]⟩
   ·refine ai (by simp[hm]) ?_;refine aB hw ?_;exact W.to (Β (i-1) ⟨R,R,by rw[<-dk,un];simp[hm,Go.Sort.ltInt]⟩ (by(try simp only);omega)) (by rw[ab]) (by simp[hw])
  ·repeat apply ad
   refine dF δ ?_;refine aa rfl ?_;refine W.exit rfl ?_;have e:Go.Sort.scanDown (λx=>!Go.Sort.ltInt x e[a]!) e ah i=i:=by exact yE _ _ R
   exact W.stop ⟨rfl,rfl,by rw[<-dk,e];simp⟩
 repeat apply ad
 by_cases δ:ah > an
 ·have aX:((an:Nat):Int)<(ah:Nat):=by omega
  refine aB aX ?_;refine ai (by simp[δ]) ?_;have aD:an<n:=R;have aH:a<n:=R;obtain⟨L,x,y,ab,γ,Ι,ο,⟨J,U⟩,⟨μ,Θ⟩,cq,eC,av⟩:=eB I cp aD aH;refine W.to (σ':=[.cells 3 1 L]) (env':=[(0,.ms 0 n 0 n),(1,I a),(10,I (ah:Nat)),(11,I (an:Nat))]) ?_ (by rw[ab]) η;clear γ Ι
  repeat apply ad
  refine dF (υ ο (υ J (υ U (υ μ (υ Θ (υ av (υ aD aH))))))) ?_;refine W.to (σ':=[.cells 3 1 ((Go.Sort.swp e an a).toList.map I)]) (env':=[(0,.ms 0 n 0 n),(1,I a),(10,I (ah:Nat)),(11,I (an:Nat))]) ?_ (by rw[cq]) η;clear aD aH J U μ Θ av cq ο ab L x y eC;refine Η ?_;exact W.ret ⟨_,rfl,by rw[cB,if_pos δ];rfl,by rw[cB,if_pos δ]⟩
 have aX:¬((an:Nat):Int)<(ah:Nat):=R
 have u3:=ki R
 have gF:=gR (i:=ah) R
 have jl:=hP (i:=an) R R;refine aB aX ?_;refine aa (by simp[δ]) ?_;have aD:ah<n:=R;have aH:an<n:=R;obtain⟨L,x,y,ab,γ,Ι,ο,⟨J,U⟩,⟨μ,Θ⟩,cq,eC,av⟩:=eB I cp aD aH;refine W.to (σ':=[.cells 3 1 L]) (env':=[(0,.ms 0 n 0 n),(1,I a),(10,I (ah:Nat)),(11,I (an:Nat))]) ?_ (by rw[ab]) η;clear γ Ι
 repeat apply ad
 refine dF (υ ο (υ J (υ U (υ μ (υ Θ (υ av (υ aD aH))))))) ?_;refine W.to (σ':=[.cells 3 1 ((Go.Sort.swp e ah an).toList.map I)]) (env':=[(0,.ms 0 n 0 n),(1,I a),(10,I (ah:Nat)),(11,I (an:Nat))]) ?_ (by rw[cq]) η;clear aD aH J U μ Θ av cq ο ab L x y eC;have n3:=swp_size cp ah an;rw[if_neg δ] at cB;obtain⟨g,Ξ⟩:=aK (Go.Sort.swp e ah an);rw[<-Ξ] at cB n3;rw[<-Ξ];refine aB (υ gF jl) ?_;refine W.to (σ':=[.cells 3 1 ((g).toList.map I)]) (env':=[(0,.ms 0 n 0 n),(1,I a),(10,I (ah+1:Nat)),(11,I (an-1:Nat))]) ?_ rfl (by simp[gF,jl]);have dμ:a<ah:=R;have dν:an<b:=R;have dξ:ah+1<=an-1+1:=R;clear dO cQ aX δ s1 s2 kD pB ki Ξ gF jl;obtain⟨al,fp⟩:=bZ (Go.Sort.partLoop (Go.Sort.ltInt) a (ah+1) (an-1) g)
 repeat apply ad
 refine W.j9 [(0,.ms 0 n 0 n),(1,I a),(11,I al.1)] [.cells 3 1 ((al.2).toList.map I)] ?_ ?_
 ·refine W.iter (λq:Nat×Nat×Array (Int)=>q.2.2.size=n/\a<q.1/\q.1<=q.2.1+1/\q.2.1<b/\Go.Sort.partLoop (Go.Sort.ltInt) a q.1 q.2.1 q.2.2=al) (λq=>[(0,.ms 0 n 0 n),(1,I a),(10,I (q.1:Nat)),(11,I (q.2.1:Nat))]) (λq=>[.cells 3 1 ((q.2.2).toList.map I)]) (λq=>q.2.1+1-q.1) (ah+1,an-1,g) ⟨n3,by(try simp only);omega,by(try simp only);omega,by(try simp only);omega,fp⟩ rfl η (λq hi Β=>?_);obtain⟨i,j,f⟩:=q;obtain⟨bM,iq,ix,dk,aN⟩:=hi;simp only at bM iq ix dk aN;obtain⟨ah,dO⟩:=bZ (Go.Sort.scanUp (λx=>Go.Sort.ltInt x f[a]!) f (j) (i));obtain⟨an,cQ⟩:=bZ (Go.Sort.scanDown (λx=>!Go.Sort.ltInt x f[a]!) f ah (j));obtain⟨s1,s2,kD,pB,ki⟩:=uQ (λx=>Go.Sort.ltInt x f[a]!) (λx=>!Go.Sort.ltInt x f[a]!) (λx=>rfl) f R R dO cQ;have cB:Go.Sort.partLoop (Go.Sort.ltInt) a i j f=if ah > an then(an,f) else Go.Sort.partLoop (Go.Sort.ltInt) a (ah+1) (an-1) (Go.Sort.swp f ah an):=by
   rw[Go.Sort.partLoop_eq];simp only[dO,cQ]
  refine W.to (σ':=[.cells 3 1 ((f).toList.map I)]) (env':=[(0,.ms 0 n 0 n),(1,I a),(10,I (i:Nat)),(11,I (j:Nat))]) ?_ rfl η;refine W.block ?_
  repeat apply ad
  refine W.j9 [(0,.ms 0 n 0 n),(1,I a),(10,I (ah:Nat)),(11,I (j:Nat))] [.cells 3 1 ((f).toList.map I)] ?_ ?_
  ·refine W.iter (λi:Nat=>(i)<=i/\i<=(j)+1/\Go.Sort.scanUp (λx=>Go.Sort.ltInt x f[a]!) f (j) i=ah) (λi=>[(0,.ms 0 n 0 n),(1,I a),(10,I (i:Nat)),(11,I (j:Nat))]) (λ_=>[.cells 3 1 ((f).toList.map I)]) (λi=>(j)+1-i) ((i)) ⟨Nat.le_refl _,R,dO⟩ rfl η (λi hi Β=>?_);obtain⟨iq,ix,dk⟩:=hi;by_cases δ:i<=(j)
   ·have aD:i<n:=by omega
    have aH:a<n:=R;obtain⟨L,x,y,ab,γ,Ι,ο,⟨J,U⟩,⟨μ,Θ⟩,-,-⟩:=eB I bM aD aH;have un:Go.Sort.scanUp (λx=>Go.Sort.ltInt x f[a]!) f (j) i=if(Go.Sort.ltInt x y)=true then Go.Sort.scanUp (λx=>Go.Sort.ltInt x f[a]!) f (j) (i+1) else i:=by rw[Go.Sort.scanUp];simp[δ,γ,Ι]
    have hw:=gR (i:=i) R;refine W.to (σ':=[.cells 3 1 L]) (env':=[(0,.ms 0 n 0 n),(1,I a),(10,I (i:Nat)),(11,I (j:Nat))]) ?_ (by rw[ab]) η;clear γ Ι
    repeat apply ad
    refine W.draw (A:=[]) Ρ mixed λΕ ζ=>gq (υ δ (υ ο (υ J (υ U (υ μ (υ Θ (υ aD aH))))))) ?_;refine eA (az.p (nI x y) (bF.refl _) η η) ?_;simp;(repeat (rw[c7];simp[]));try rw[c6]
    refine er (ζ _ _ ?_);by_cases hm:x<y
    ·refine ai (by simp[hm]) ?_;refine aB hw ?_;exact W.to (Β (i+1) ⟨R,R,by rw[<-dk,un];simp[hm,Go.Sort.ltInt]⟩ (by(try simp only);omega)) (by rw[ab]) (by simp[hw])
    ·refine aa (by simp[hm]) ?_;refine W.exit rfl ?_;exact W.stop ⟨rfl,by rw[ab],by rw[<-dk,un];simp[hm,Go.Sort.ltInt]⟩
   ·repeat apply ad
    refine dF δ ?_;refine aa rfl ?_;refine W.exit rfl ?_;have e:Go.Sort.scanUp (λx=>Go.Sort.ltInt x f[a]!) f (j) i=i:=by rw[Go.Sort.scanUp];simp[δ]
    exact W.stop ⟨rfl,rfl,by rw[<-dk,e];simp⟩
  repeat apply ad
  refine W.j9 [(0,.ms 0 n 0 n),(1,I a),(10,I (ah:Nat)),(11,I (an:Nat))] [.cells 3 1 ((f).toList.map I)] ?_ ?_
  ·refine W.iter (λi:Nat=>i<=(j)/\ah<=i+1/\Go.Sort.scanDown (λx=>!Go.Sort.ltInt x f[a]!) f ah i=an) (λi=>[(0,.ms 0 n 0 n),(1,I a),(10,I (ah:Nat)),(11,I (i:Nat))]) (λ_=>[.cells 3 1 ((f).toList.map I)]) (λi=>i+1-ah) ((j)) ⟨Nat.le_refl _,R,cQ⟩ rfl η (λi hi Β=>?_);obtain⟨iq,ix,dk⟩:=hi;by_cases δ:ah<=i
   ·have aD:i<n:=by omega
    have aH:a<n:=R;obtain⟨L,x,y,ab,γ,Ι,ο,⟨J,U⟩,⟨μ,Θ⟩,-,-⟩:=eB I bM aD aH;obtain⟨q,Φ⟩:∃q,i=q+1:=⟨i-1,R⟩;have un:Go.Sort.scanDown (λx=>!Go.Sort.ltInt x f[a]!) f ah i=if(!Go.Sort.ltInt x y)=true then Go.Sort.scanDown (λx=>!Go.Sort.ltInt x f[a]!) f ah (i-1) else i:=by subst Φ;rw[Go.Sort.scanDown];simp[δ,γ,Ι]
    have hw:=hP (i:=i) R R;refine W.to (σ':=[.cells 3 1 L]) (env':=[(0,.ms 0 n 0 n),(1,I a),(10,I (ah:Nat)),(11,I (i:Nat))]) ?_ (by rw[ab]) η;clear γ Ι
    repeat apply ad
    refine W.draw (A:=[]) Ρ mixed λΕ ζ=>gq (υ δ (υ ο (υ J (υ U (υ μ (υ Θ (υ aD aH))))))) ?_;refine eA (az.p (nI x y) (bF.refl _) η η) ?_;simp;(repeat (rw[c7];simp[]));try rw[c6]
    refine er (ζ _ _ ?_);by_cases hm:x<y
    ·refine aa (by simp[hm]) ?_;refine W.exit rfl ?_;exact W.stop ⟨rfl,by rw[ab],by rw[<-dk,un];simp[hm,Go.Sort.ltInt]⟩
    ·refine ai (by simp[hm]) ?_;refine aB hw ?_;exact W.to (Β (i-1) ⟨R,R,by rw[<-dk,un];simp[hm,Go.Sort.ltInt]⟩ (by(try simp only);omega)) (by rw[ab]) (by simp[hw])
   ·repeat apply ad
    refine dF δ ?_;refine aa rfl ?_;refine W.exit rfl ?_;have e:Go.Sort.scanDown (λx=>!Go.Sort.ltInt x f[a]!) f ah i=i:=by exact yE _ _ R
    exact W.stop ⟨rfl,rfl,by rw[<-dk,e];simp⟩
  repeat apply ad
  by_cases δ:ah > an
  ·have aX:((an:Nat):Int)<(ah:Nat):=by omega
   refine aB aX ?_;refine ai (by simp[δ]) ?_;refine W.exit rfl ?_;rw[cB,if_pos δ] at aN;exact W.stop ⟨rfl,by rw[<-aN],by rw[<-aN];simp⟩
  ·have aX:¬((an:Nat):Int)<(ah:Nat):=by omega
   have u3:=ki R
   have gF:=gR (i:=ah) R
   have jl:=hP (i:=an) R R;refine aB aX ?_;refine aa (by simp[δ]) ?_;have aD:ah<n:=R;have aH:an<n:=R;obtain⟨L,x,y,ab,γ,Ι,ο,⟨J,U⟩,⟨μ,Θ⟩,cq,eC,av⟩:=eB I bM aD aH;refine W.to (σ':=[.cells 3 1 L]) (env':=[(0,.ms 0 n 0 n),(1,I a),(10,I (ah:Nat)),(11,I (an:Nat))]) ?_ (by rw[ab]) η;clear γ Ι
   repeat apply ad
   refine dF (υ ο (υ J (υ U (υ μ (υ Θ (υ av (υ aD aH))))))) ?_;refine W.to (σ':=[.cells 3 1 ((Go.Sort.swp f ah an).toList.map I)]) (env':=[(0,.ms 0 n 0 n),(1,I a),(10,I (ah:Nat)),(11,I (an:Nat))]) ?_ (by rw[cq]) η;clear aD aH J U μ Θ av cq ο ab L x y eC;refine aB (υ gF jl) ?_;exact W.to (Β (ah+1,an-1,Go.Sort.swp f ah an) ⟨swp_size bM ah an,by(try simp only);omega,by(try simp only);omega,by(try simp only);omega,by simp;rw[<-aN,cB,if_neg δ]⟩ (by(try simp only);omega)) rfl (by simp[gF,jl])
 rw[fp] at cB;have Φ:=Qp (Go.Sort.ltInt) (a:=a) (b:=b) _ (ah+1) (an-1) g (Nat.le_refl _) n3 R R R;rw[fp] at Φ;obtain⟨yl,JF⟩:=Φ;obtain⟨j,h⟩:=al;simp only at yl JF cB;have aD:j<n:=R;have aH:a<n:=R;obtain⟨L,x,y,ab,γ,Ι,ο,⟨J,U⟩,⟨μ,Θ⟩,cq,eC,av⟩:=eB I yl aD aH;refine W.to (σ':=[.cells 3 1 L]) (env':=[(0,.ms 0 n 0 n),(1,I a),(11,I (j:Nat))]) ?_ (by rw[ab]) η;clear γ Ι
 repeat apply ad
 refine dF (υ ο (υ J (υ U (υ μ (υ Θ (υ av (υ aD aH))))))) ?_;refine W.to (σ':=[.cells 3 1 ((Go.Sort.swp h j a).toList.map I)]) (env':=[(0,.ms 0 n 0 n),(1,I a),(11,I (j:Nat))]) ?_ (by rw[cq]) η;clear aD aH J U μ Θ av cq ο ab L x y eC;refine Η ?_;exact W.ret ⟨_,rfl,by rw[cB];rfl,by rw[cB]⟩
theorem eΖ (d:Array (Int)) (n a b p:Nat) (Ζ:d.size=n) (ν:n<2 ^ 40) (ib:a<=p) (JE:p<b) (hb:b<=n)  :
  ae Tryz.prog 204 [.ms 0 n 0 n,I a,I b,I p] [.cells 3 1 ((d).toList.map I)] (λr s=>r=I (Go.Sort.partitionEqual (Go.Sort.ltInt) d a b p).1/\s=[.cells 3 1 (((Go.Sort.partitionEqual (Go.Sort.ltInt) d a b p).2).toList.map I)]) (λ_ _=>False):=by
 refine ae.body Ρ Tryz.func204 rfl rfl Tryz.ntmps204 rfl rfl η ?_;have h2:=gR (i:=a) R;have g0:=hP (i:=b) R R
 repeat apply ad
 refine mQ ?_;have aD:a<n:=R;have aH:p<n:=R;obtain⟨L,x,y,ab,γ,Ι,ο,⟨J,U⟩,⟨μ,Θ⟩,cq,eC,av⟩:=eB I Ζ aD aH;refine W.to (σ':=[.cells 3 1 L]) (env':=[(0,.ms 0 n 0 n),(1,I a),(2,I b),(3,I p)]) ?_ (by rw[ab]) η;clear γ Ι
 repeat apply ad
 refine dF (υ ο (υ J (υ U (υ μ (υ Θ (υ av (υ aD aH))))))) ?_;refine W.to (σ':=[.cells 3 1 ((Go.Sort.swp d a p).toList.map I)]) (env':=[(0,.ms 0 n 0 n),(1,I a),(2,I b),(3,I p)]) ?_ (by rw[cq]) η;clear aD aH J U μ Θ av cq ο ab L x y eC;obtain⟨e,he⟩:=aK (Go.Sort.swp d a p);have cp:e.size=n:=by rw[he];exact swp_size Ζ a p
 rw[<-he]
 repeat apply ad
 refine nG (υ h2 g0) ?_;refine W.to (σ':=[.cells 3 1 ((e).toList.map I)]) (env':=[(0,.ms 0 n 0 n),(1,I a),(9,I (a+1:Nat)),(10,I (b-1:Nat))]) ?_ rfl η;obtain⟨al,fp⟩:=bZ (Go.Sort.partEqLoop (Go.Sort.ltInt) a (a+1) (b-1) e)
 repeat apply ad
 refine W.j9 [(9,I al.1)] [.cells 3 1 ((al.2).toList.map I)] ?_ ?_
 ·refine W.iter (λq:Nat×Nat×Array (Int)=>q.2.2.size=n/\a<q.1/\q.1<=q.2.1+1/\q.2.1<b/\Go.Sort.partEqLoop (Go.Sort.ltInt) a q.1 q.2.1 q.2.2=al) (λq=>[(0,.ms 0 n 0 n),(1,I a),(9,I (q.1:Nat)),(10,I (q.2.1:Nat))]) (λq=>[.cells 3 1 ((q.2.2).toList.map I)]) (λq=>q.2.1+1-q.1) (a+1,b-1,e) ⟨cp,by(try simp only);omega,by(try simp only);omega,by(try simp only);omega,fp⟩ rfl η (λq hi Β=>?_);obtain⟨i,j,f⟩:=q;obtain⟨bM,iq,ix,dk,aN⟩:=hi;simp only at bM iq ix dk aN;obtain⟨ah,dO⟩:=bZ (Go.Sort.scanUp (λx=>!Go.Sort.ltInt f[a]! x) f (j) (i));obtain⟨an,cQ⟩:=bZ (Go.Sort.scanDown (λx=>Go.Sort.ltInt f[a]! x) f ah (j));obtain⟨s1,s2,kD,pB,ki⟩:=uQ (λx=>!Go.Sort.ltInt f[a]! x) (λx=>Go.Sort.ltInt f[a]! x) (λx=>η) f R R dO cQ;have cB:Go.Sort.partEqLoop (Go.Sort.ltInt) a i j f=if ah > an then(ah,f) else Go.Sort.partEqLoop (Go.Sort.ltInt) a (ah+1) (an-1) (Go.Sort.swp f ah an):=by
   rw[Go.Sort.partEqLoop_eq];simp only[dO,cQ]
  refine W.to (σ':=[.cells 3 1 ((f).toList.map I)]) (env':=[(0,.ms 0 n 0 n),(1,I a),(9,I (i:Nat)),(10,I (j:Nat))]) ?_ rfl η;refine W.block ?_
  repeat apply ad
  refine W.j9 [(0,.ms 0 n 0 n),(1,I a),(9,I (ah:Nat)),(10,I (j:Nat))] [.cells 3 1 ((f).toList.map I)] ?_ ?_
  ·refine W.iter (λi:Nat=>(i)<=i/\i<=(j)+1/\Go.Sort.scanUp (λx=>!Go.Sort.ltInt f[a]! x) f (j) i=ah) (λi=>[(0,.ms 0 n 0 n),(1,I a),(9,I (i:Nat)),(10,I (j:Nat))]) (λ_=>[.cells 3 1 ((f).toList.map I)]) (λi=>(j)+1-i) ((i)) ⟨Nat.le_refl _,R,dO⟩ rfl η (λi hi Β=>?_);obtain⟨iq,ix,dk⟩:=hi;by_cases δ:i<=(j)
   ·have aD:i<n:=by omega
    have aH:a<n:=R;obtain⟨L,x,y,ab,γ,Ι,ο,⟨J,U⟩,⟨μ,Θ⟩,-,-⟩:=eB I bM aD aH;have un:Go.Sort.scanUp (λx=>!Go.Sort.ltInt f[a]! x) f (j) i=if(!Go.Sort.ltInt y x)=true then Go.Sort.scanUp (λx=>!Go.Sort.ltInt f[a]! x) f (j) (i+1) else i:=by rw[Go.Sort.scanUp];simp[δ,γ,Ι]
    have hw:=gR (i:=i) R;refine W.to (σ':=[.cells 3 1 L]) (env':=[(0,.ms 0 n 0 n),(1,I a),(9,I (i:Nat)),(10,I (j:Nat))]) ?_ (by rw[ab]) η;clear γ Ι
    repeat apply ad
    refine W.draw (A:=[]) Ρ mixed λΕ ζ=>gq (υ δ (υ ο (υ J (υ U (υ μ (υ Θ (υ aD aH))))))) ?_;refine eA (az.p (nI y x) (bF.refl _) η η) ?_;simp;(repeat (rw[c7];simp[]));try rw[c6]
    refine er (ζ _ _ ?_);by_cases hm:y<x
    ·refine aa (by simp[hm]) ?_;refine W.exit rfl ?_;exact W.stop ⟨rfl,by rw[ab],by rw[<-dk,un];simp[hm,Go.Sort.ltInt]⟩
    ·refine ai (by simp[hm]) ?_;refine aB hw ?_;exact W.to (Β (i+1) ⟨R,R,by rw[<-dk,un];simp[hm,Go.Sort.ltInt]⟩ (by(try simp only);omega)) (by rw[ab]) (by simp[hw])
   ·repeat apply ad
    refine dF δ ?_;refine aa rfl ?_;refine W.exit rfl ?_;have e:Go.Sort.scanUp (λx=>!Go.Sort.ltInt f[a]! x) f (j) i=i:=by rw[Go.Sort.scanUp];simp[δ]
    exact W.stop ⟨rfl,rfl,by rw[<-dk,e];simp⟩
  repeat apply ad
  refine W.j9 [(0,.ms 0 n 0 n),(1,I a),(9,I (ah:Nat)),(10,I (an:Nat))] [.cells 3 1 ((f).toList.map I)] ?_ ?_
  ·refine W.iter (λi:Nat=>i<=(j)/\ah<=i+1/\Go.Sort.scanDown (λx=>Go.Sort.ltInt f[a]! x) f ah i=an) (λi=>[(0,.ms 0 n 0 n),(1,I a),(9,I (ah:Nat)),(10,I (i:Nat))]) (λ_=>[.cells 3 1 ((f).toList.map I)]) (λi=>i+1-ah) ((j)) ⟨Nat.le_refl _,R,cQ⟩ rfl η (λi hi Β=>?_);obtain⟨iq,ix,dk⟩:=hi;by_cases δ:ah<=i
   ·have aD:i<n:=by omega
    have aH:a<n:=R;obtain⟨L,x,y,ab,γ,Ι,ο,⟨J,U⟩,⟨μ,Θ⟩,-,-⟩:=eB I bM aD aH;obtain⟨q,Φ⟩:∃q,i=q+1:=⟨i-1,R⟩;have un:Go.Sort.scanDown (λx=>Go.Sort.ltInt f[a]! x) f ah i=if(Go.Sort.ltInt y x)=true then Go.Sort.scanDown (λx=>Go.Sort.ltInt f[a]! x) f ah (i-1) else i:=by subst Φ;rw[Go.Sort.scanDown];simp[δ,γ,Ι]
    have hw:=hP (i:=i) R R;refine W.to (σ':=[.cells 3 1 L]) (env':=[(0,.ms 0 n 0 n),(1,I a),(9,I (ah:Nat)),(10,I (i:Nat))]) ?_ (by rw[ab]) η;clear γ Ι
    repeat apply ad
    refine W.draw (A:=[]) Ρ mixed λΕ ζ=>gq (υ δ (υ ο (υ J (υ U (υ μ (υ Θ (υ aD aH))))))) ?_;refine eA (az.p (nI y x) (bF.refl _) η η) ?_;simp;(repeat (rw[c7];simp[]));try rw[c6]
    refine er (ζ _ _ ?_);by_cases hm:y<x
    ·refine ai (by simp[hm]) ?_;refine aB hw ?_;exact W.to (Β (i-1) ⟨R,R,by rw[<-dk,un];simp[hm,Go.Sort.ltInt]⟩ (by(try simp only);omega)) (by rw[ab]) (by simp[hw])
    ·refine aa (by simp[hm]) ?_;refine W.exit rfl ?_;exact W.stop ⟨rfl,by rw[ab],by rw[<-dk,un];simp[hm,Go.Sort.ltInt]⟩
   ·repeat apply ad
    refine dF δ ?_;refine aa rfl ?_;refine W.exit rfl ?_;have e:Go.Sort.scanDown (λx=>Go.Sort.ltInt f[a]! x) f ah i=i:=by exact yE _ _ R
    exact W.stop ⟨rfl,rfl,by rw[<-dk,e];simp⟩
  repeat apply ad
  by_cases δ:ah > an
  ·have aX:((an:Nat):Int)<(ah:Nat):=by omega
   refine aB aX ?_;refine ai (by simp[δ]) ?_;refine W.exit rfl ?_;rw[cB,if_pos δ] at aN;exact W.stop ⟨rfl,by rw[<-aN],by rw[<-aN];simp⟩
  ·have aX:¬((an:Nat):Int)<(ah:Nat):=by omega
   have u3:=ki R
   have gF:=gR (i:=ah) R
   have jl:=hP (i:=an) R R;refine aB aX ?_;refine aa (by simp[δ]) ?_;have aD:ah<n:=R;have aH:an<n:=R;obtain⟨L,x,y,ab,γ,Ι,ο,⟨J,U⟩,⟨μ,Θ⟩,cq,eC,av⟩:=eB I bM aD aH;refine W.to (σ':=[.cells 3 1 L]) (env':=[(0,.ms 0 n 0 n),(1,I a),(9,I (ah:Nat)),(10,I (an:Nat))]) ?_ (by rw[ab]) η;clear γ Ι
   repeat apply ad
   refine dF (υ ο (υ J (υ U (υ μ (υ Θ (υ av (υ aD aH))))))) ?_;refine W.to (σ':=[.cells 3 1 ((Go.Sort.swp f ah an).toList.map I)]) (env':=[(0,.ms 0 n 0 n),(1,I a),(9,I (ah:Nat)),(10,I (an:Nat))]) ?_ (by rw[cq]) η;clear aD aH J U μ Θ av cq ο ab L x y eC;refine aB (υ gF jl) ?_;exact W.to (Β (ah+1,an-1,Go.Sort.swp f ah an) ⟨swp_size bM ah an,by(try simp only);omega,by(try simp only);omega,by(try simp only);omega,by simp;rw[<-aN,cB,if_neg δ]⟩ (by(try simp only);omega)) rfl (by simp[gF,jl])
 refine Η ?_;have cB:Go.Sort.partitionEqual (Go.Sort.ltInt) d a b p=al:=by unfold Go.Sort.partitionEqual;rw[<-he,fp]
 exact W.ret ⟨_,rfl,by rw[cB];rfl,by rw[cB]⟩
end Go.TL
