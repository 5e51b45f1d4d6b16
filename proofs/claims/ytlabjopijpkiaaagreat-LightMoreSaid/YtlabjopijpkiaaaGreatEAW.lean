import Derived.Test.YtlabjopijpkiaaaGreatEAH
import Derived.Test.YtlabjopijpkiaaaGreatEAL
import Derived.Test.YtlabjopijpkiaaaGreatEAN
import Derived.Test.YtlabjopijpkiaaaGreatEAS
import Derived.Test.YtlabjopijpkiaaaGreatEAT
import Derived.Test.YtlabjopijpkiaaaGreatEAU
import Derived.Test.YtlabjopijpkiaaaGreatEAV
set_option maxHeartbeats 16000000
set_option maxRecDepth 20000
set_option linter.unusedSectionVars false
set_option linter.unusedSimpArgs false
set_option linter.unusedVariables false
namespace Go.TL
open Go.Proofs
abbrev R2:am:=[gw [1,0],gw [2,0],gw [2,1]]
theorem gΞ:∀i,i<3->R2[i]?=some (gw [(eb i).1,(eb i).2])/\∀h,R2[i]'h=gw [(eb i).1,(eb i).2]:=λi hi=>by
 match i with
 | 0=>exact⟨rfl,λ_=>rfl⟩
 | 1=>exact⟨rfl,λ_=>rfl⟩
 | 2=>exact⟨rfl,λ_=>rfl⟩
theorem R3 [bq] {s:aU} (h:je s) (i:Nat):vU s i<=i*5764801:=by
 induction i with
 | zero=>simp[vU]
 | succ i Α=>
  rw[rH,Cw];have:=Ll h (eb i) (-1) (Nat.le_refl s.cells.length);omega
end Go.TL
namespace Go.TL
open Go.Proofs
variable [bq]
theorem gΟ:∀n<64,∀s<64,eP .i64 (s:Nat) (n:Nat)=0->∀o<64,eG .i64 (s:Nat) (eP .i64 (o:Nat) (n:Nat))=0:=by decide +kernel
theorem gΡ:∀n<64,∀o<64,eP .i64 (eG .i64 (n:Nat) (o:Nat)) (n:Nat)=0:=by decide +kernel
theorem gΤ {n a b:Int} (Θ:0<=n/\n<=63) (ν:0<=a/\a<=63) (hb:0<=b/\b<=63):eP .i64 (eG .i64 n a) n=0/\eG .i64 (eG .i64 n a) (eP .i64 b n)=0:=by
 obtain⟨⟨U,γ⟩,_,_⟩:=zF Θ ν;obtain⟨x,rfl⟩:∃x:Nat,n=x:=⟨n.toNat,J⟩;obtain⟨y,rfl⟩:∃y:Nat,a=y:=⟨a.toNat,J⟩;obtain⟨z,rfl⟩:∃z:Nat,b=z:=⟨b.toNat,J⟩;have e:=gΡ x J y J;refine⟨e,?_⟩;obtain⟨w,hw⟩:∃w:Nat,eG .i64 (x:Int) (y:Int)=w:=⟨(eG .i64 (x:Int) (y:Int)).toNat,J⟩;rw[hw] at e γ ⊢;exact gΟ x J w J e z J
structure Lm (gy cells:Nat) (s:aU) (p:Int×Int) (rd:List (Int×Int)):Prop where
 gΥ:∃k,k<3/\p=eb k
 gΦ:je s
 many:s.cells.length<=cells
 nM:s.ar.length<=gy
 gΧ:s.az.length<=3
 len:rd.length=s.cells.length
 each:∀r∈rd,(-1<=r.1/\r.1<s.ar.length)/\(-1<=r.2/\r.2<s.ar.length)
 right:∀(c:Nat) (r:Int×Int),rd[c]?=some r->s.p1 p r c=true
structure gΨ where
 d:cJ
 done:List (List cZ)
 rd:List (Int×Int)
theorem gΩ (d:cJ) (hd:d.bg.length<2 ^ 63) (gy cells:Nat) (hZ:1<=gy) (zA:gy<=6) (Gn:cells<=4) :
  vR 32 [I gy,I cells] d (λr=>∃s p rd,r=.bj [fu s,bD I 1 [p.1,p.2],aX (Lg rd)]/\Lm gy cells s p rd):=by
 unfold vR;refine af.body Φ Tryz.func32 rfl rfl Tryz.ntmps32 rfl rfl η ?_
 repeat apply ae
 refine dj (A:=[6]) Φ λΚ κ=>bp ?_;apply κ
 repeat apply ae
 refine W.cC ?_;refine W.part (A:=[9]) Φ [0,1,2,3] [4,5] rfl λΚ κ=>?_;(try simp);(repeat (rw[ah];simp));refine gω d hd gy cells hZ zA Gn rfl ?_;intro G L nc d1 di ad ⟨kD,Lb,zm⟩ lk;simp only[List.length_cons,List.length_nil,Nat.reduceAdd,List.set_cons_zero,List.cons_append,List.nil_append];obtain⟨xX,Ln⟩:=aF (c9 5 (List.replicate nc bK));have zG:(nc=0/\xX=bK)\/(0<nc/\xX=.ms 5 nc 0 nc):=by
  by_cases Ψ:nc=0
  ·subst Ψ;exact .inl ⟨rfl,Ln⟩
  ·exact .inr ⟨J,by rw[Ln,hs (by simp[Ψ]),List.length_replicate]⟩
 have zH:∀done:List (List cZ),done.length<=nc->(nc=0/\bF 60 1 (bH done nc)=[])\/(0<nc/\bF 60 1 (bH done nc)=[.cells 60 1 (bH done nc)]):=λdone h8=>by
  by_cases Ψ:nc=0
  ·subst Ψ;have:=dO.1 (xU h8);exact .inl ⟨rfl,by rw[this];rfl⟩
  ·exact .inr ⟨J,eL (λh=>by have:=xU h8;rw[h] at this;simp at this;omega)⟩
 rw[<-Ln,<-gΔ];rw[N3,pY];apply κ;clear κ Κ;have zI:aG ([b4 d1,ez bK bK bK,.dead,.dead,.dead]++bF 60 1 (bH [] nc)).length xX:=by
  rcases zG with⟨_,e⟩|⟨cu,e⟩
  ·rw[e];simp
  ·rcases zH [] (Nat.zero_le _) with⟨ao,_⟩|⟨_,Ε⟩
   ·omega
   ·rw[e,Ε];exact sj.2 η
 refine W.gΓ (A:=[9]) Φ [(0,.ak 0 1 0 0),(6,.ak 1 1 0 0),(9,.au [aY G,aX L,xX])] ([b4 d1,ez bK bK bK,.dead,.dead,.dead]++bF 60 1 (bH [] nc)) ?_ (by
  have bX:∀h,∀r∈[b4 d1,ez bK bK bK,.dead,.dead,.dead]++bF 60 1 (bH [] nc),fC h r:=λh r μ=>by
   rcases List.mem_append.1 μ with μ|μ
   ·simp only[List.mem_cons,List.not_mem_nil,or_false] at μ;rcases μ with rfl|rfl|rfl|rfl|rfl
    ·exact vL d1 h
    ·intro e he a ν;simp[θ.cells] at he;subst he;simp[θ.cells] at ν;subst ν;simp
    ·trivial
    ·trivial
    ·trivial
   ·exact yX (λe he a ν=>by obtain⟨U,γ⟩:=Lh e he;rw[U] at ν;simp at ν;subst ν;exact γ) r μ
  rcases zG with⟨cu,e⟩|⟨cu,e⟩<;>rcases zH [] (Nat.zero_le _) with⟨ao,Ε⟩|⟨ao,Ε⟩
  ·rw[Ε] at bX zI;rw[e] at zI;rw[e,Ε];(try simp);(repeat (rw[ah];simp));(try simp);intro hW;exact W.oA (σ0:=[b4 d1,ez bK bK bK,.dead,.dead,.dead]) η (bX _) (λa ν=>by
    simp[θ.cells] at ν;rcases ν with rfl|rfl|rfl
    ·exact(g7.2 uv:aG 0 _).mono (Nat.zero_le _)
    ·exact(g7.2 zE:aG 0 _).mono (Nat.zero_le _)
    ·exact zI) [(0,.ak 0 1 0 0),(6,.ak 1 1 0 0),(9,.au [aY G,aX L,bK])] (by simp[l7,θ.cells]) hW
  ·omega
  ·omega
  ·rw[Ε] at bX zI;rw[e] at zI;rw[e,Ε];have oC:(bH [] nc).length=nc:=xU (Nat.zero_le _);(try simp);(repeat (rw[ah];simp[oC]));(try simp[oC]);intro hW;exact W.oA (σ0:=[b4 d1,ez bK bK bK,.dead,.dead,.dead,.cells 60 1 (bH [] nc)]) η (bX _) (λa ν=>by
    simp[θ.cells] at ν;rcases ν with rfl|rfl|rfl
    ·exact(g7.2 uv:aG 0 _).mono (Nat.zero_le _)
    ·exact(g7.2 zE:aG 0 _).mono (Nat.zero_le _)
    ·exact zI) [(0,.ak 0 1 0 0),(6,.ak 1 1 0 0),(9,.au [aY G,aX L,.ms 5 nc 0 nc])] (by simp[l7,θ.cells]) hW)
 obtain⟨iL,vV⟩:=aF L.length;have Fe:=ad.lo;have hα:=zm;have hβ:=di.hi;have hγ:=di.lo;obtain⟨g,Ω⟩:=aF G.length;rw[<-Ω] at hβ hγ;rw[<-vV] at Fe zm;have zw:(L.map (bD I 1)).length=iL:=by rw[List.length_map,vV]
 have Υ:=qq d1 J 2;obtain⟨t0,t1⟩:=pA d1 2 br br;obtain⟨R4,R5⟩:=bG (hN d1 2);rw[R5] at Υ t0 t1;clear R5;obtain⟨oV,Gs⟩:∃k:Nat,R4=k:=⟨R4.toNat,J⟩;obtain⟨d2,j9⟩:=bG (d1.after 2);have Gt:d2.bg.length<=d.bg.length:=by rw[<-j9];exact Nat.le_trans (jy _ _) lk
 rw[Gs,j9] at Υ;rw[Gs] at t1;have fv:oV<3:=J;obtain⟨zJ,Lo⟩:=gΞ oV fv;obtain⟨p,ω⟩:=aF (eb oV);rw[<-ω] at zJ Lo
 repeat apply ae
 refine W.gX (A:=[]) Φ [(0,.ak 0 1 0 0),(6,.ak 1 1 0 0),(9,.au [aY G,aX L,xX]),(10,gw [p.1,p.2])] ([b4 d2,ez bK bK bK,.dead,.dead,.dead]++bF 60 1 (bH [] nc)) ?_ (by
  have mψ:(oV:Int)<3:=J;rcases zG with⟨cu,e⟩|⟨cu,e⟩<;>rcases zH [] (Nat.zero_le _) with⟨ao,Ε⟩|⟨ao,Ε⟩
  ·rw[e,Ε];(try simp);(repeat (rw[ah];simp));(try simp);refine dU.c Υ 0 rfl (b2.refl _) η η ?_;clear Υ zJ Lo Gs;obtain rfl|rfl|rfl:oV=0\/oV=1\/oV=2:=J
   all_goals
    subst ω;simp;(repeat (rw[ah];simp));(try simp[eb])
  ·omega
  ·omega
  ·rw[e,Ε];(try simp);(repeat (rw[ah];simp));(try simp);refine dU.c Υ 0 rfl (b2.refl _) η η ?_;clear Υ zJ Lo Gs;obtain rfl|rfl|rfl:oV=0\/oV=1\/oV=2:=J
   all_goals
    subst ω;simp;(repeat (rw[ah];simp));(try simp[eb]))
 obtain⟨oS,gF⟩:=aF (⟨G,L,[]⟩:aU);refine Η ?_;refine W.iter (λx:gΨ=>x.done.length<=nc/\x.d.bg.length<=d.bg.length/\(∀c∈x.done,oK iL c)/\x.rd.length=x.done.length/\(∀r∈x.rd,(-1<=r.1/\r.1<g)/\(-1<=r.2/\r.2<g))/\∀(c:Nat) (r:Int×Int) (aQ:List cZ),x.rd[c]?=some r->x.done[c]?=some aQ->∀y∈aQ,oS.kH p r y=true)
  (λx=>[(0,.ak 0 1 0 0),(6,.ak 1 1 0 0),(9,.au [aY G,aX L,xX]),(10,gw [p.1,p.2]),(11,c9 6 (x.rd.map Ε)),(12,I x.done.length)])
  (λx=>[b4 x.d,ez bK bK bK,.dead,.dead,.dead]++bF 60 1 (bH x.done nc)++bF 29 1 (x.rd.map Ε)) (λx=>nc-x.done.length) ⟨d2,[],[]⟩ ⟨η,Gt,η,rfl,η,η⟩ (by simp[kL]) (by simp[c9]) (λx δ Α=>?_)
 obtain⟨D,done,rd⟩:=x;obtain⟨h8,nZ,xL,mA,Lp,Lq⟩:=δ;simp only at h8 nZ xL mA Lp Lq Α ⊢;obtain⟨c,xY⟩:=aF done.length;rw[<-xY] at h8 Α mA;rw[<-xY];have hδ:(nc=0/\rd=[])\/0<nc:=by
  by_cases Ψ:nc=0
  ·exact .inl ⟨Ψ,dO.1 J⟩
  ·exact .inr J
 repeat apply ae
 refine W.gX (A:=[]) Φ [(33,ba (decide (c<nc))),(0,.ak 0 1 0 0),(6,.ak 1 1 0 0),(9,.au [aY G,aX L,xX]),(10,gw [p.1,p.2]),(11,c9 6 (rd.map Ε)),(12,I c)] ([b4 D,ez bK bK bK,.dead,.dead,.dead]++bF 60 1 (bH done nc)++bF 29 1 (rd.map Ε)) ?_ (by
  have oC:(bH done nc).length=nc:=xU J;obtain⟨R6,Gu⟩:=aF (bF 29 1 (rd.map Ε));obtain⟨R7,Gv⟩:=aF (c9 6 (rd.map Ε));rw[<-Gu,<-Gv];rcases zG with⟨cu,e⟩|⟨cu,e⟩<;>rcases zH done J with⟨ao,Ε⟩|⟨ao,Ε⟩
  ·rw[e,Ε,ao];(try simp);(repeat (rw[ah];simp));(try simp)
  ·omega
  ·omega
  ·rw[e,Ε];(try simp);(repeat (rw[ah];simp[oC]));(try simp[oC]))
 refine W.ey rfl (λε=>?_) (λε=>?_)
 ·have ε:c<nc:=by simpa using ε
  rcases zG with⟨cu,_⟩|⟨cu,e⟩
  ·omega
  rcases zH done J with⟨ao,_⟩|⟨ao,Cx⟩
  ·omega
  obtain⟨X,jR⟩:=aF (bH done nc);have Cy:X.length=nc:=by rw[jR];exact xU J
  have xZ:X[c]?=some bK:=by rw[jR,xY];exact gΖ J
  have hε:∀aQ,X.set c (oL aQ)=bH (done++[aQ]) nc:=λaQ=>by rw[jR,xY];exact gΗ J aQ
  have hζ:∀e∈X,e.cells=[e]/\aG 0 e:=by rw[jR];exact Lh
  have Gw:X.set c bK=X:=by
   apply List.ext_getElem?;intro i;rw[List.getElem?_set];split
   ·rename_i e;subst e;split
    ·exact xZ.symm
    ·rename_i h;exact(h J).elim
   ·rfl
  have hc:L.length=iL:=vV.symm
  have vS:G.length=g:=Ω.symm;rw[e,Cx,<-jR];simp only[List.cons_append,List.nil_append];obtain⟨uz,hη⟩:=aF ((g:Int)-1:Int);have wg:IntKind.i64.wrap ((g:Int)-1)=uz:=by rw[hη];exact IntWalk.i64_in _ J
  have Dw:=zu D J (-1) uz;obtain⟨qv,a1⟩:=zy D (a:=-1) (b:=uz) J br J;obtain⟨Lr,R8⟩:=bG (oI D (-1) uz);obtain⟨Cz,R9⟩:=bG (D.after (IntKind.i64.wrap (uz- -1)));have hθ:Cz.bg.length<=d.bg.length:=by rw[<-R9];exact Nat.le_trans (jy _ _) nZ
  rw[R8,R9] at Dw;rw[R8] at qv a1;have DY:=zu Cz J (-1) uz;obtain⟨df,bE⟩:=zy Cz (a:=-1) (b:=uz) J br J;obtain⟨Ls,Bj⟩:=bG (oI Cz (-1) uz);obtain⟨kS,rF⟩:=bG (Cz.after (IntKind.i64.wrap (uz- -1)));have RH:kS.bg.length<=d.bg.length:=by rw[<-rF];exact Nat.le_trans (jy _ _) hθ
  rw[Bj,rF] at DY;rw[Bj] at df bE;obtain⟨r,μ⟩:=aF ((Lr,Ls):Int×Int);have ny:r.1=Lr:=by rw[μ]
  have oy:r.2=Ls:=by rw[μ]
  obtain⟨R6,Gu⟩:=aF (bF 29 1 (rd.map Ε));obtain⟨R7,Gv⟩:=aF (c9 6 (rd.map Ε));rw[<-Gu,<-Gv]
  repeat apply ae
  refine W.Gc (A:=[]) Φ mixed [(0,.ak 0 1 0 0),(6,.ak 1 1 0 0),(9,.au [aY G,aX L,.ms 5 nc 0 nc]),(10,gw [p.1,p.2]),(11,R7),(12,I c),(13,Ε r)] (b4 kS::ez bK bK bK::.dead::.dead::.dead::.cells 60 1 X::R6) ?_ (by
   simp;(repeat (rw[m8];simp[vS,wg]));(try rw[m7]);refine dU.e Dw (b2.refl _) η η ?_;simp;(repeat (rw[m8];simp[vS,wg]));(try rw[m7]);refine dU.e DY (b2.refl _) η η ?_;simp;(repeat (rw[m8];simp[vS,wg]));(try rw[m7]);refine⟨hX (by kernel_rfl),hX (by kernel_rfl),?_⟩;simp[μ])
  obtain⟨vW,Gx⟩:=aF ((rd++[r]).map Ε);have mω:vW.length=c+1:=by rw[Gx];simp[mA]
  have hι:∀e∈vW,∀a∈e.cells,aG 0 a:=by rw[Gx];exact RV
  repeat apply ae
  refine W.gX (A:=[52]) Φ [(0,.ak 0 1 0 0),(6,.ak 1 1 0 0),(9,.au [aY G,aX L,.ms 5 nc 0 nc]),(10,gw [p.1,p.2]),(11,.ms 6 (c+1) 0 (c+1)),(12,I c),(13,Ε r)] (b4 kS::ez bK bK bK::.dead::.dead::.dead::.cells 60 1 X::[.cells 29 1 vW]) ?_ (by
   rw[Gx,Gu,Gv];by_cases Ψ:rd=[]
   ·subst Ψ;have iS:c=0:=by simpa using mA.symm
    subst iS;have Ζ:c9 6 (([]:List (Int×Int)).map Ε)=.sl true 0 []:=rfl;have a8:bF 29 1 (([]:List (Int×Int)).map Ε)=[]:=rfl;rw[Ζ,a8];(try simp);(repeat (rw[ah];simp));(try simp)
   ·have ob:rd.map Ε≠[]:=by simpa using Ψ
    rw[hs ob,eL ob];have hle:c<=4294967295:=J;(try simp);(repeat (rw[ah];simp[mA,hle]));(try simp[mA,hle]))
  have Β:=Rc kS J iL J
  have xH:=Kv kS iL
  have wH:∀x∈(h1 kS iL).1,0<=x/\x<iL:=λx h=>Rz h
  have uy:=RA kS iL
  have hκ:=Kt kS iL;obtain⟨ord,vJ⟩:=bG ((h1 kS iL).1);obtain⟨kn,rG⟩:=bG ((h1 kS iL).2);rw[vJ] at Β xH wH uy;rw[rG] at Β hκ;refine g9 hc λΚ κ=>?_;refine dU.g (Β) (bp ?_);apply κ;have Lt:=qq kn J iL;obtain⟨hμ,R'⟩:=pA kn iL J J;obtain⟨Sa,Sb⟩:=bG (hN kn iL);rw[Sb] at Lt hμ R';clear Sb;obtain⟨e1,kj⟩:∃k:Nat,Sa=k:=⟨Sa.toNat,J⟩;obtain⟨zC,Cs⟩:=bG (kn.after iL);have La:zC.bg.length<=d.bg.length:=by rw[<-Cs];exact Nat.le_trans (jy _ _) J
  rw[kj,Cs] at Lt;rw[kj] at R';refine g9 hc λΚ κ=>?_;refine dU.g (Lt) (bp ?_);apply κ
  repeat apply ae
  refine W.iter (λx:gΘ=>x.aQ.length+x.k=e1/\x.d.bg.length<=d.bg.length/\x.aQ.map (·.cd)=((ord.take e1).drop x.k).reverse/\∀y∈x.aQ,((0<=y.seen/\y.seen<=63)/\(0<=y.bare/\y.bare<=63)/\ow y.seen y.bare=0)/\oS.kH p r y=true)
   (λx=>[(0,.ak 0 1 0 0),(6,.ak 1 1 0 0),(9,.au [aY G,aX L,.ms 5 nc 0 nc]),(10,gw [p.1,p.2]),(11,.ms 6 (c+1) 0 (c+1)),(12,I c),(13,Ε r),(14,bD I 1 ord),(15,I x.k)])
   (λx=>b4 x.d::ez bK bK bK::.dead::.dead::.dead::.cells 60 1 (X.set c (c9 7 (x.aQ.map dX)))::.cells 29 1 vW::bF 28 3 (x.aQ.map dX)) (λx=>x.k) ⟨e1,zC,[]⟩
   ⟨η,La,η,η⟩ (by simp only[List.map_nil];rw[show c9 7 []=bK from rfl,Gw];rfl) η (λx δ Cr=>?_)
  obtain⟨k,E,aQ⟩:=x;obtain⟨ψ,Lu,ib,Gy⟩:=δ;simp only at ψ Lu ib Gy Cr ⊢;refine Η ?_;refine W.ey rfl (λa2=>?_) (λa2=>?_)
  ·have kj:0<k:=by simpa using a2
   obtain⟨j,ζ⟩:∃j,k=j+1:=⟨k-1,J⟩;have hw:IntKind.i64.wrap ((k:Int)-1)=j:=by rw[IntWalk.i64_in _ J];omega
   have FW:j<ord.length:=J
   have dg:ord[j]?=some ord[j]:=a6 FW
   have qe:=wH _ (List.getElem_mem FW);obtain⟨Lv,j5⟩:=aF (ord[j]);rw[<-j5] at dg qe;have Gz:∀h,ord[j]'h=Lv:=λh=>j5.symm;obtain⟨mj,ek⟩:∃n:Nat,Lv=n:=⟨Lv.toNat,J⟩;rw[ek] at dg Gz qe;have hν:(c9 7 (aQ.map dX)=bK/\bF 28 3 (aQ.map dX)=[]/\aQ=[])\/(c9 7 (aQ.map dX)=.ms 7 aQ.length 0 aQ.length/\bF 28 3 (aQ.map dX)=[.cells 28 3 (aQ.map dX)]/\0<aQ.length):=by
    by_cases Ψ:aQ=[]
    ·subst Ψ;exact .inl ⟨rfl,rfl,rfl⟩
    ·have gI:aQ.map dX≠[]:=by simpa using Ψ
     exact .inr ⟨by rw[hs gI,List.length_map],eL gI,List.length_pos_iff.2 Ψ⟩
   have c0:=gΙ oS p r mj (by rw[gF];show mj<L.length;omega) (λx δ=>by rw[gF] at δ;have:=(ad.each x δ).1;omega) (by rw[gF,μ];show Lr<G.length;omega) (by rw[gF,μ];show Ls<G.length;omega) (b4 E::ez bK bK bK::.dead::.dead::.dead::.cells 60 1 (X.set c (c9 7 (aQ.map dX)))::.cells 29 1 vW::bF 28 3 (aQ.map dX)) 5 nc (X.set c (c9 7 (aQ.map dX))) (by rw[List.length_set];exact Cy) rfl
   have GA:0<=oS.gv p r mj/\oS.gv p r mj<=63:=by
    have Ρ:je ⟨G,L,[]⟩:=⟨di,ad,η,η⟩;rw[gF];exact RU Ρ p r mj
   have Sc:∀a b:Int,oS.kH p r ⟨mj,a,b⟩=(xd a (oS.gv p r mj)==0&&ow (oS.gv p r mj) b==0):=λa b=>by unfold aU.kH;simp
   obtain⟨CA,Sd⟩:=aF (oS.gv p r mj);rw[<-Sd] at c0 GA;simp only[<-Sd] at Sc;rw[gF] at c0
   repeat apply ae
   refine W.eω (A:=[]) Φ mixed [(0,.ak 0 1 0 0),(6,.ak 1 1 0 0),(9,.au [aY G,aX L,.ms 5 nc 0 nc]),(10,gw [p.1,p.2]),(11,.ms 6 (c+1) 0 (c+1)),(12,I c),(13,Ε r),(14,bD I 1 ord),(15,I k),(16,I CA)] (b4 E::ez bK bK bK::.dead::.dead::.dead::.cells 60 1 (X.set c (c9 7 (aQ.map dX)))::.cells 29 1 vW::bF 28 3 (aQ.map dX)) ?_ (by
    obtain⟨mΑ,Se⟩:=aF (bF 28 3 (aQ.map dX));obtain⟨mΒ,Sf⟩:=aF (c9 7 (aQ.map dX));rw[<-Se,<-Sf] at c0;rw[<-Se,<-Sf,μ];rw[μ] at c0;simp;(repeat (rw[cY];simp[hw,dg,Gz,xH]));(try rw[cX]);refine⟨J,?_⟩;refine EL (af.call (first:=[]) (captured:=[]) (af.nG c0 (.cons (.refl _) (.cons .ex (.cons .ex (.cons (.refl _) .nil)))) (λa s h=>⟨_,.refl _,h⟩))) ?_;simp;(repeat (rw[cY];simp));(try rw[cX]);refine⟨hX (by kernel_rfl),?_⟩;simp)
   have Lw:=qq E J 63;obtain⟨qv,a1⟩:=pA E 63 br br;obtain⟨o0,ph⟩:=bG (hN E 63);obtain⟨qC,Sg⟩:=bG (E.after 63);have hξ:qC.bg.length<=d.bg.length:=by rw[<-Sg];exact Nat.le_trans (jy _ _) Lu
   rw[ph,Sg] at Lw;rw[ph] at qv a1;have pick:∀(F:cJ) (x:Int),0<=x->x<=63->0<=([63,x]:List Int).getD (ry F [63,x]) 0/\([63,x]:List Int).getD (ry F [63,x]) 0<=63:=λF x U γ=>by
    match ry F [63,x] with
    | 0=>simp
    | 1=>simp;omega
    | n+2=>simp
   have mb:=Kr qC J [63,o0] η η
   have Lx:=pick qC o0 qv a1;obtain⟨dR,Si⟩:=bG (([63,o0]:List Int).getD (ry qC [63,o0]) 0);obtain⟨qD,Sj⟩:=bG (qC.after ((([63,o0]:List Int).length:Int)-1));have hο:qD.bg.length<=d.bg.length:=by rw[<-Sj];exact Nat.le_trans (jy _ _) hξ
   rw[Si,Sj] at mb;rw[Si] at Lx;have B0:=qq qD J 63;obtain⟨df,bE⟩:=pA qD 63 br br;obtain⟨h9,jF⟩:=bG (hN qD 63);obtain⟨CB,Sk⟩:=bG (qD.after 63);have hπ:CB.bg.length<=d.bg.length:=by rw[<-Sk];exact Nat.le_trans (jy _ _) hο
   rw[jF,Sk] at B0;rw[jF] at df bE;have pv:=Kr CB J [63,h9] η η;have Ly:=pick CB h9 df bE;obtain⟨iO,Sl⟩:=bG (([63,h9]:List Int).getD (ry CB [63,h9]) 0);obtain⟨Lz,Sm⟩:=bG (CB.after ((([63,h9]:List Int).length:Int)-1));have hρ:Lz.bg.length<=d.bg.length:=by rw[<-Sm];exact Nat.le_trans (jy _ _) hπ
   rw[Sl,Sm] at pv;rw[Sl] at Ly;obtain⟨x0,_,_⟩:=zF GA Lx;obtain⟨_,sw,qP⟩:=zF Ly GA;obtain⟨u2,LA⟩:=gΤ GA Lx Ly;obtain⟨jz,dI⟩:=bG (eG .i64 CA dR);obtain⟨qB,oj⟩:=bG (eP .i64 iO CA);rw[dI] at x0 u2 LA;rw[oj] at sw qP LA;obtain⟨we,LB⟩:=aF (⟨mj,jz,qB⟩:cZ);have bx:(aQ++[we]).map dX≠[]:=η
   repeat apply ae
   refine W.Gc (A:=[105]) Φ mixed [(0,.ak 0 1 0 0),(6,.ak 1 1 0 0),(9,.au [aY G,aX L,.ms 5 nc 0 nc]),(10,gw [p.1,p.2]),(11,.ms 6 (c+1) 0 (c+1)),(12,I c),(13,Ε r),(14,bD I 1 ord),(15,I k)] (b4 Lz::ez bK bK bK::.dead::.dead::.dead::.cells 60 1 (X.set c (c9 7 ((aQ++[we]).map dX)))::.cells 29 1 vW::bF 28 3 ((aQ++[we]).map dX)) ?_ (by
    rw[hs bx,eL bx,List.length_map,List.length_append,List.map_append,List.map_cons,List.map_nil,LB];rcases hν with⟨f1,f2,f3⟩|⟨f1,f2,f3⟩
    ·rw[f1,f2,Gw,f3];simp;(repeat (rw[m8];simp[hw,dg,Gz,xH,Cy,xZ]));(try rw[m7]);refine⟨J,J,?_⟩;refine dU.h (Lw) (zt ?_);refine dU.e mb (.cons .ex .nil) η η ?_;simp[dI];(repeat (rw[m8];simp[dI]));(try rw[m7]);refine dU.h (B0) (zt ?_);refine dU.e pv (.cons .ex .nil) η η ?_;simp[oj];(repeat (rw[m8];simp[oj,Cy,xZ]));(try rw[m7]);refine⟨J,?_⟩;refine⟨hX (by kernel_rfl),hX (by kernel_rfl),?_⟩;simp
    ·rw[f1,f2];have Sn:∀v,(X.set c v)[c]?=some v:=λv=>by rw[List.getElem?_set_self J]
     have So:∀v h,(X.set c v)[c]'h=v:=λv h=>List.getElem_set_self h;simp;(repeat (rw[m8];simp[hw,dg,Gz,xH,Cy,Sn,So]));(try rw[m7]);refine⟨J,J,?_⟩;refine dU.h (Lw) (zt ?_);refine dU.e mb (.cons .ex .nil) η η ?_;simp[dI];(repeat (rw[m8];simp[dI]));(try rw[m7]);refine dU.h (B0) (zt ?_);refine dU.e pv (.cons .ex .nil) η η ?_;simp[oj];(repeat (rw[m8];simp[oj,Cy,Sn,So]));(try rw[m7]);refine⟨J,J,?_⟩;refine⟨hX (by kernel_rfl),hX (by kernel_rfl),?_⟩;simp)
   refine aE hw ?_;have l6:(ord.take e1).drop j=(mj:Int)::(ord.take e1).drop k:=by
    have iZ:j<(ord.take e1).length:=by rw[List.length_take];omega
    rw[List.drop_eq_getElem_cons iZ,ζ,List.getElem_take,<-j5,ek]
   refine W.to (Cr ⟨j,Lz,aQ++[we]⟩ ⟨by show(aQ++[we]).length+j=e1;rw[List.length_append];simp;omega,hρ,?_,λy Μ=>?_⟩ (by show j<k;omega)) η (by simp[hw])
   ·show(aQ++[we]).map (·.cd)=((ord.take e1).drop j).reverse;rw[l6,List.map_append,ib,List.reverse_cons,LB];rfl
   ·rcases List.mem_append.1 Μ with Μ|Μ
    ·exact Gy y Μ
    ·simp at Μ;subst Μ;subst LB;refine⟨⟨x0,sw,LA⟩,?_⟩;rw[Sc];have rX:xd jz CA=0:=u2;have mB:ow CA qB=0:=qP;rw[rX,mB];rfl
  ·have kj:k=0:=by simp at a2;omega
   subst kj;have mΓ:aQ.length=e1:=J;rw[List.drop_zero] at ib;have pP:oK iL aQ:=by
    refine⟨J,?_,λy Μ=>?_⟩
    ·rw[ib];unfold List.Nodup;rw[List.pairwise_reverse];exact(uy.sublist (List.take_sublist _ _)).imp Ne.symm
    ·have hm:y.cd∈aQ.map (·.cd):=List.mem_map.2 ⟨y,Μ,rfl⟩;rw[ib,List.mem_reverse] at hm;have:=wH _ (List.mem_of_mem_take hm);obtain⟨⟨aa,ai,aZ⟩,_⟩:=Gy y Μ;exact⟨this,aa,ai,aZ⟩
   have hw:IntKind.i64.wrap ((c:Int)+1)=((c+1:Nat):Int):=by rw[IntWalk.i64_in _ J];omega
   have hς:(done++[aQ]).length=c+1:=by simp;omega
   have zK:=Α ⟨E,done++[aQ],rd++[r]⟩ ⟨by show(done++[aQ]).length<=nc;omega,Lu,λx δ=>by
    rcases List.mem_append.1 δ with δ|δ
    ·exact xL x δ
    ·simp at δ;subst δ;exact pP,by show(rd++[r]).length=_;simp[mA,xY],λy Μ=>by
    rcases List.mem_append.1 Μ with Μ|Μ
    ·exact Lp y Μ
    ·simp at Μ;subst Μ;rw[ny,oy];omega,λx y z U γ=>by
    by_cases δ:x<c
    ·rw[dM J] at U γ;exact Lq x y z U γ
    ·rw[gA J] at U γ;have Ζ:x-rd.length=x-c:=by rw[mA]
     rw[Ζ] at U;rw[<-xY] at γ;cases Sp:x-c with
     | zero=>rw[Sp] at U γ;simp at U γ;subst U;subst γ;exact λy Μ=>(Gy y Μ).2
     | succ q=>rw[Sp] at U;simp at U⟩ (by show nc-(done++[aQ]).length<nc-c;omega)
   have hτ:bH (done++[aQ]) nc≠[]:=λh=>by
    have:=xU (done:=done++[aQ]) (nc:=nc) J;rw[h] at this;simp at this;omega
   have Sq:(rd++[r]).map Ε≠[]:=η
   have hυ:((rd++[r]).map Ε).length=c+1:=by simp[mA]
   simp only[hς] at zK;rw[eL hτ,eL Sq,hs Sq,hυ,<-Gx,<-hε aQ,e] at zK;refine W.exit rfl ?_;by_cases Ψ:aQ=[]
   ·subst Ψ;rw[show oL []=bK from rfl,Gw] at zK;rw[show c9 7 (([]:List cZ).map dX)=bK from rfl,show bF 28 3 (([]:List cZ).map dX)=[] from rfl,Gw];refine aE hw ?_;exact W.to zK rfl (by simp[hw])
   ·have gI:aQ.map dX≠[]:=by simpa using Ψ
    have zJ:oL aQ=.sl false 3 (aQ.map dX):=by unfold oL hg;rw[if_neg (by simpa using Ψ)]
    rw[zJ] at zK;rw[hs gI,eL gI];refine W.vT (σ':=b4 E::ez bK bK bK::.dead::.dead::.dead::.cells 60 1 (X.set c (.sl false 3 (aQ.map dX)))::.cells 29 1 vW::[.dead]) (id:=7) η rfl rfl rfl (λi r hi μ=>?_) [(0,.ak 0 1 0 0),(6,.ak 1 1 0 0),(9,.au [aY G,aX L,.ms 5 nc 0 nc]),(10,gw [p.1,p.2]),(11,.ms 6 (c+1) 0 (c+1)),(12,I c)] (λp ω=>by
     simp only[List.mem_cons,List.not_mem_nil,or_false] at ω;rcases ω with rfl|rfl|rfl|rfl|rfl|rfl<;>exact .same _) ?_
    ·match i,hi,μ with
     | 0,_,μ=>exact⟨r,μ,.inl rfl⟩
     | 1,_,μ=>exact⟨r,μ,.inl rfl⟩
     | 2,_,μ=>exact⟨r,μ,.inl rfl⟩
     | 3,_,μ=>exact⟨r,μ,.inl rfl⟩
     | 4,_,μ=>exact⟨r,μ,.inl rfl⟩
     | 5,_,μ=>
      simp at μ;subst μ;refine⟨_,rfl,.inr ⟨60,1,_,_,rfl,rfl,η,λy e aP U γ=>?_⟩⟩;by_cases Μ:y=c
      ·subst Μ;rw[List.getElem?_set_self J] at U γ;cases U;cases γ;refine⟨rfl,λx a cj ο Ι=>?_⟩
       match x with
       | 0=>simp[θ.cells] at ο Ι;subst ο;subst Ι;have:=sQ.ms (id:=7) (k:=3) (l:=aQ.map dX);rwa [List.length_map] at this
       | x+1=>simp[θ.cells] at ο
      ·rw[List.getElem?_set_ne (Ne.symm Μ)] at U γ;rw[U] at γ;cases γ;exact⟨rfl,λx a cj ο Ι=>by rw[ο] at Ι;cases Ι;exact .same _⟩
     | 6,_,μ=>exact⟨r,μ,.inl rfl⟩
     | 7,h,_=>exact absurd rfl h
     | i+8,_,μ=>simp at μ
    refine W.drop (h:=7) η η (λi r hi μ=>?_) rfl [(0,.ak 0 1 0 0),(6,.ak 1 1 0 0),(9,.au [aY G,aX L,.ms 5 nc 0 nc]),(10,gw [p.1,p.2]),(11,.ms 6 (c+1) 0 (c+1)),(12,I c)] ?_ ?_
    ·match i,hi,μ with
     | 0,_,μ=>simp at μ;subst μ;exact vL E 7
     | 1,_,μ=>simp at μ;subst μ;intro e he a ν;simp[θ.cells] at he;subst he;simp[θ.cells] at ν;subst ν;simp
     | 2,_,μ=>simp at μ;subst μ;trivial
     | 3,_,μ=>simp at μ;subst μ;trivial
     | 4,_,μ=>simp at μ;subst μ;trivial
     | 5,_,μ=>
      simp at μ;subst μ;intro e he a ν;rcases List.mem_or_eq_of_mem_set he with he|rfl
      ·obtain⟨U,γ⟩:=hζ e he;rw[U] at ν;simp at ν;subst ν;exact γ.mono (Nat.zero_le _)
      ·simp[θ.cells] at ν;subst ν;have:=RX aQ;rw[zJ] at this;exact this.mono (Nat.zero_le _)
     | 6,_,μ=>simp at μ;subst μ;exact λe he a ν=>(hι e he a ν).mono (Nat.zero_le _)
     | i+7,h,_=>omega
    ·intro p ω;simp only[List.mem_cons,List.not_mem_nil,or_false] at ω;rcases ω with rfl|rfl|rfl|rfl|rfl|rfl
     ·exact⟨rfl,l7.2 J⟩
     ·exact⟨rfl,l7.2 J⟩
     ·refine⟨rfl,N7.2 λa ν=>?_⟩;simp only[List.mem_cons,List.not_mem_nil,or_false] at ν;rcases ν with rfl|rfl|rfl
      ·exact(g7.2 uv:aG 0 _).mono (Nat.zero_le _)
      ·exact(g7.2 zE:aG 0 _).mono (Nat.zero_le _)
      ·exact sj.2 J
     ·exact⟨rfl,η⟩
     ·exact⟨rfl,sj.2 J⟩
     ·exact⟨rfl,.z _⟩
    refine aE hw ?_;exact W.to zK rfl (by simp[hw])
 ·have ε:c=nc:=by simp at ε;omega
  subst ε;refine W.exit rfl ?_;have qU:je ⟨G,L,done⟩:=⟨di,ad,by show done.length<=4;omega,λx δ=>by show oK L.length x;rw[<-vV];exact xL x δ⟩;have hφ:bH done c=done.map oL:=by rw[xY];exact gΕ
  have BQ:Lm gy cells ⟨G,L,done⟩ p rd:=⟨⟨oV,fv,ω⟩,qU,by show done.length<=cells;omega,Lb,hα,by show rd.length=done.length;omega,λr μ=>by show(-1<=r.1/\r.1<G.length)/\_;rw[<-Ω];exact Lp r μ,λx y h=>by
   unfold aU.p1;show((done[x]?).getD []).all _=true;cases δ:done[x]? with
   | none=>rfl
   | some aQ=>
    refine List.all_eq_true.2 λz Ψ=>?_;have:=Lq x y aQ h δ z Ψ;rw[gF] at this;exact this⟩
  have hχ:dD (.a3 [aY G,aX L,.sl false 1 (done.map oL)]) (fu ⟨G,L,done⟩):=by
   refine .a3 (.cons (.refl _) (.cons (.refl _) (.cons ?_ .nil)));exact .map λx _=>.one .acc (RY x) rfl
  have hψ:dD (.sl false 1 (rd.map Ε)) (aX (Lg rd)):=by
   show dD (.sl false 1 (rd.map Ε)) (.sl false 1 ((Lg rd).map (bD I 1)));rw[List.map_map];exact .map λr _=>.one .ex rfl rfl
  rcases zG with⟨cu,e⟩|⟨cu,e⟩<;>rcases zH done J with⟨ao,Cx⟩|⟨ao,Cx⟩
  ·have CC:rd=[]:=by rcases hδ with⟨_,h⟩|h;exact h;omega
   have hω:done=[]:=dO.1 J;rw[e,Cx,CC];rw[show c9 6 (([]:List (Int×Int)).map Ε)=bK from rfl,show bF 29 1 (([]:List (Int×Int)).map Ε)=[] from rfl];refine Η ?_;refine W.cut 1 η [(6,.au [aY G,aX L,bK]),(7,gw [p.1,p.2]),(8,bK)] η (λid r cb μ=>?_) (λz Ψ=>?_) ?_
   ·have:id=0:=J
    subst this;simp at μ;subst μ;exact vL D 1
   ·simp only[List.mem_cons,List.not_mem_nil,or_false] at Ψ;rcases Ψ with rfl|rfl|rfl
    ·show eK 1 _ (a' _ 6) _;simp;refine .struct η (show _=some (Row.cells _ _ [.a3 _]) from rfl) rfl λx a cj U γ=>?_
     match x with
     | 0=>simp at U γ;subst U;subst γ;exact .low ((g7.2 uv:aG 0 _).mono (Nat.zero_le _))
     | 1=>simp at U γ;subst U;subst γ;exact .low ((g7.2 zE:aG 0 _).mono (Nat.zero_le _))
     | 2=>simp at U γ;subst U;subst γ;exact .low η
     | x+3=>simp at γ
    ·exact .low η
    ·exact .low η
   ·refine W.ret ⟨_,rfl,_,D,?_,⟨_,p,rd,rfl,BQ⟩,rfl,nZ⟩;rw[hω,CC];exact .bj (.cons (.a3 (.cons (.refl _) (.cons (.refl _) (.cons .nil .nil)))) (.cons .ex (.cons .nil .nil)))
  ·omega
  ·omega
  ·have oC:(bH done c).length=c:=xU J
   have CC:rd.map Ε≠[]:=λh=>by
    have:(rd.map Ε).length=0:=by rw[h];rfl
    rw[List.length_map] at this;omega
   rw[e,Cx,hs CC,eL CC,List.length_map,mA];refine aE oC ?_;refine W.cut 1 η [(6,.au [aY G,aX L,.sl false 1 (bH done c)]),(7,gw [p.1,p.2]),(8,.sl false 1 (rd.map Ε))] η (λid r cb μ=>?_) (λz Ψ=>?_) ?_
   ·have:id=0:=J
    subst this;simp at μ;subst μ;exact vL D 1
   ·simp only[List.mem_cons,List.not_mem_nil,or_false] at Ψ;rcases Ψ with rfl|rfl|rfl
    ·show eK 1 _ (a' _ 6) _;simp;refine .struct η (show _=some (Row.cells _ _ [.a3 _]) from rfl) rfl λx a cj U γ=>?_
     match x with
     | 0=>simp at U γ;subst U;subst γ;exact .low ((g7.2 uv:aG 0 _).mono (Nat.zero_le _))
     | 1=>simp at U γ;subst U;subst γ;exact .low ((g7.2 zE:aG 0 _).mono (Nat.zero_le _))
     | 2=>simp at U γ;subst U;subst γ;exact .own (t:=60) η rfl oC (λe he a ν=>by
       obtain⟨e2,dq⟩:=Lh e he;rw[e2] at ν;simp at ν;subst ν;exact dq.mono (Nat.zero_le _))
     | x+3=>simp at γ
    ·exact .low η
    ·show eK 1 _ (a' _ 8) _;simp;exact .own (t:=29) (id:=6) η rfl (by simp[mA]) (λe he a ν=>(RV e he a ν).mono (Nat.zero_le _))
   ·rw[hφ];exact W.ret ⟨_,rfl,_,D,.bj (.cons hχ (.cons .ex (.cons hψ .nil))),⟨_,p,rd,rfl,BQ⟩,rfl,nZ⟩
end Go.TL
namespace Go.TL
open Go.Conc Go.Proofs
variable [bq]
end Go.TL
namespace Go.TL
open Go.Proofs
variable [bq]
def CD (f:Found) (cell:Nat):List (Int×Int):=(f.cells[cell]?).getD []
def ko (F:List Found) (cell:Nat):List (Int×Int):=F.flatMap λf=>CD f cell
def m9 (F:List Found) (cell:Nat):List (Int×Int):=eM ((ko F cell).mergeSort e7)
def pB (A C:List (Int×Int)) (j:Nat):List (Int×Int):=A++C.take j
theorem GB {l:List (Int×Int)}:∀e∈l.map aL,∀a∈e.cells,aG 0 a:=by
 intro e he a ν;obtain⟨x,_,rfl⟩:=List.mem_map.1 he;simp[θ.cells] at ν;subst ν;simp[g7,θ.cells]
abbrev vX (l:List (Int×Int)):θ:=.sl false 1 (l.map aL)
def uA (s:aU) (F:List Found) (cell:Int):List (Int×Int)×Int:=
 if(ja s cell F).2.2=0 then(m9 F cell.toNat,0) else([],(ja s cell F).2.2)
theorem hΑ (x y:Int×Int):ef Tryz.prog (.fn (.func 120) [] []) [aL x,aL y] (ba (decide (x=y))):=by
 have h:ef Tryz.prog (.fn (.func 120) [] []) [aL x,aL y] (ba (decide ([x.1,x.2]=[y.1,y.2]))):=aB.p (eΨ [x.1,x.2] [y.1,y.2] η) (.cons .ex (.cons .ex .nil)) η η
 have e:decide ([x.1,x.2]=[y.1,y.2])=decide (x=y):=by
  rw[decide_eq_decide];constructor
  ·intro h;simp at h;exact Prod.ext h.1 h.2
  ·rintro rfl;rfl
 rw[e] at h;exact h
theorem hΒ (Ο:θ) (a9:aG 0 Ο):aB Tryz.prog 119 [.sl true 0 [],Ο] (.sl true 0 []):=by
 refine af.body Φ Tryz.func119 rfl rfl Tryz.ntmps119 rfl rfl η ?_;refine Η ?_;refine aC rfl ?_;refine Η ?_;refine W.rt ?_;exact .refl _
theorem Sr {A C:List (Int×Int)}:pB A C 0=A:=by simp[pB]
theorem hΓ {A C:List (Int×Int)} {j:Nat} (h:j<C.length):pB A C (j+1)=pB A C j++[C[j]]:=by
 unfold pB;rw[List.take_succ_eq_append_getElem h,List.append_assoc]
theorem Ss {A C:List (Int×Int)} {j:Nat} (h:C.length<=j):pB A C j=A++C:=by unfold pB;rw[List.take_of_length_le h]
theorem hΔ {A C:List (Int×Int)} {j:Nat}:(pB A C j).length<=A.length+j:=by unfold pB;simp;omega
theorem hΕ (s:aU) (ξ:s.small) (F:List Found) (eI:qa s F) (cell:Int) (N:Nat) (cK:N<2 ^ 20) (eC:Rx N)
  (ad:(ja s cell F).2.2=0->F.length<2 ^ 20/\(∀f∈F,cell.toNat<f.cells.length/\∀c∈f.cells,c.length<2 ^ 20)/\ko F cell.toNat≠[]/\(ko F cell.toNat).length<=N) :
  aB Tryz.prog 62 [fu s,I cell] (.bj [vX (uA s F cell).1,I (uA s F cell).2]):=by
 refine af.body Φ Tryz.func62 rfl rfl Tryz.ntmps62 rfl rfl η ?_;refine Η ?_;refine da ?_;refine dj (A:=[6]) Φ λΚ κ=>bp ?_;refine aB.d (OM s ξ cell F eI) (bp ?_);apply κ;by_cases b:(ja s cell F).2.2=0
 case neg=>
  have e:uA s F cell=([],(ja s cell F).2.2):=if_neg b
  have hΖ:(ja s cell F).2.1=[]:=by
   unfold ja fa at b ⊢;split
   ·rfl
   ·split
    ·rfl
    ·split
     ·rfl
     ·simp_all
  rw[e,hΖ];generalize (ja s cell F).2.2=fK at b;refine W.drop (h:=0) (σ':=[]) (Nat.zero_le _) (Nat.zero_le _) η rfl [(1,I cell),(7,cL []),(8,I fK)] η ?_;refine Η ?_;refine .loop ?_;refine Η ?_;refine ay rfl ?_;refine W.exit rfl ?_;refine bc λΚ κ=>?_;refine aB.d (YM (.fn (.func 118) [] []) (by simp[kG])) (bp ?_);apply κ;refine bc λΚ κ=>?_;refine aB.d (hΒ (.fn (.func 120) [] []) (by simp[kG])) (bp ?_);apply κ;refine W.rt ?_;exact .bj (.cons .nil (.cons (.refl _) .nil))
 have e:uA s F cell=(m9 F cell.toNat,0):=if_pos b;obtain⟨iS,lE,Ζ⟩:=Qq b;obtain⟨Ρ,gR,bx,hle⟩:=ad b;obtain⟨n,rfl⟩:∃n:Nat,cell=n:=⟨cell.toNat,J⟩;rw[e,Ζ];rw[Int.toNat_natCast] at gR bx hle ⊢;refine W.drop (h:=0) (σ':=[]) (Nat.zero_le _) (Nat.zero_le _) η rfl [(1,I n),(7,cL F),(8,I 0)] η ?_;refine Η ?_;refine W.iter (λi:Nat=>i<=F.length) (λi=>[(1,I n),(8,I 0),(9,fg ((ko (F.take i) n).map aL)),(21,cL F),(22,I F.length),(23,I i)])
  (λi=>bF 29 1 ((ko (F.take i) n).map aL)) (λi=>F.length-i) 0 (Nat.zero_le _) rfl (by simp[ko,p']) (λi hi Α=>?_)
 refine Η ?_;have Jb:∀i,(ko (F.take i) n).length<=N:=λi=>by
  have e:ko F n=ko (F.take i) n++ko (F.drop i) n:=by
   conv=>lhs;rw[<-List.take_append_drop i F]
   simp only[ko,List.flatMap_append]
  rw[e,List.length_append] at hle;omega
 refine W.ey rfl (λε=>?_) (λε=>?_)
 ·have aH:i<F.length:=by simpa using ε
  obtain⟨b3,lZ⟩:=gR _ (List.getElem_mem aH);have hC:F[i].cells[n].length<2 ^ 20:=lZ _ (List.getElem_mem b3);obtain⟨A,bY⟩:=aF (ko (F.take i) n);have dI:ko (F.take (i+1)) n=A++F[i].cells[n]:=by
   rw[bY];unfold ko;rw[List.take_succ_eq_append_getElem aH,List.flatMap_append];simp[CD,b3]
  have Bl:(A++F[i].cells[n]).length<=N:=by rw[<-dI];exact Jb _
  rw[List.length_append] at Bl;refine W.to (σ':=bF 29 1 (A.map aL)) (env':=[(1,I n),(8,I 0),(9,fg (A.map aL)),(21,cL F),(22,I F.length),(23,I i)]) ?_ (by rw[bY]) (by rw[bY];simp)
  repeat apply ae
  refine dj (A:=[11]) Φ λΚ κ=>gh aH ?_;apply κ;refine W.oA (Nat.zero_le _) (yX GB) η [(11,.au [I F[i].u,I F[i].v,mV F[i].cells]),(1,I n),(8,I 0),(9,fg (A.map aL)),(21,cL F),(22,I F.length),(23,I i)] η ?_;refine aE b3 ?_;generalize Yy:F[i].cells[n]=C at hC dI Bl;refine W.iter (λj:Nat=>j<=C.length) (λj=>[(1,I n),(8,I 0),(9,fg ((pB A C j).map aL)),(21,cL F),(22,I F.length),(23,I i),(31,k' C),(32,I C.length),(33,I j)])
   (λj=>bF 29 1 ((pB A C j).map aL)) (λj=>C.length-j) 0 (Nat.zero_le _) (by rw[Sr]) (by simp[Sr]) (λj ζ fL=>?_)
  refine Η ?_;refine W.ey rfl (λa2=>?_) (λa2=>?_)
  ·have aI:j<C.length:=by simpa using a2
   obtain⟨L,ad⟩:=aF (pB A C j);have kM:L.length<=A.length+j:=by rw[ad];exact hΔ
   have tP:pB A C (j+1)=L++[C[j]]:=by rw[ad];exact hΓ aI
   refine W.to (σ':=bF 29 1 (L.map aL)) (env':=[(1,I n),(8,I 0),(9,fg (L.map aL)),(21,cL F),(22,I F.length),(23,I i),(31,k' C),(32,I C.length),(33,I j)]) ?_ (by rw[ad]) (by rw[ad];simp)
   repeat apply ae
   refine dj (A:=[13]) Φ λΚ κ=>gh aI ?_;apply κ;refine W.oA (Nat.zero_le _) (yX GB) η [(13,.au [I C[j].1,I C[j].2]),(1,I n),(8,I 0),(9,fg (L.map aL)),(21,cL F),(22,I F.length),(23,I i),(31,k' C),(32,I C.length),(33,I j)] η ?_
   repeat apply ae
   generalize C[j]=r at tP;refine W.gX (A:=[40]) Φ [(1,I n),(8,I 0),(9,fg ((L++[r]).map aL)),(21,cL F),(22,I F.length),(23,I i),(31,k' C),(32,I C.length),(33,I j)] (bF 29 1 ((L++[r]).map aL)) ?_ (by
    have j5:L.length<=4294967295:=J;rw[List.map_append];by_cases Ψ:L.map aL=[]
    ·rw[Ψ,p',kL];(try simp);(repeat (rw[ah];simp));(try simp);simp[bF,fg]
    ·rw[q' Ψ,eL Ψ];(try simp);(repeat (rw[ah];simp));(try simp);simp[sr,xk,j5])
   refine Η ?_;refine W.to (fL (j+1) aI J) ?_ ?_
   ·rw[tP,List.map_append];rfl
   ·rw[tP];simp[eX aI (show C.length<2 ^ 62 by omega)]
  ·have aI:C.length<=j:=by simpa using a2
   refine W.exit rfl ?_;refine Η ?_;refine W.to (Α (i+1) aH J) ?_ ?_
   ·rw[dI,Ss aI]
   ·rw[dI,Ss aI];simp[eX aH (show F.length<2 ^ 62 by omega)]
 ·have aH:i=F.length:=by simp at ε;omega
  refine W.exit rfl ?_;rw[aH,List.take_length];obtain⟨M,db⟩:=aF (ko F n);rw[<-db] at bx hle ⊢;have xm:M.map aL≠[]:=by simpa using bx
  have hB:m9 F n=eM (M.mergeSort e7):=by rw[db];rfl
  have qc:(M.mergeSort e7).length=M.length:=η;refine W.to (σ':=[.cells 29 1 (M.map aL)]) (env':=[(8,I 0),(9,.ms 0 M.length 0 M.length)]) ?_ (eL xm) (by simp[q' xm]);refine bc λΚ κ=>?_;refine af.one (eC M hle) 0 rfl (sn Be) (sn Be) (by simp[mW,fD,mS]) (by simp[fD]) (by simp[mX,eg,hF]) ?_;simp[eg,hF];(repeat (rw[ah];simp));apply κ;refine bc λΚ κ=>?_;have Jc:=eΩ (M.mergeSort e7) M.length qc J (.fn (.func 120) [] []) (by simp[kG]) hΑ;refine af.E4 Jc 0 rfl (sn Be) (by simp[mW,fD,mS]) (by simp[mX,eg,hF]) (λa s ⟨T,ao,U,γ,ο⟩=>⟨_,ο,?_,by subst γ;simp[mW],?_⟩)
  ·intro e he a ν;rcases List.mem_append.1 he with he|he
   ·exact GB e he a ν
   ·rcases ao e he with rfl|⟨x,rfl⟩
    ·simp[θ.cells] at ν;subst ν;simp
    ·simp[θ.cells] at ν;subst ν;simp[g7,θ.cells]
  subst γ;simp[mX];(repeat (rw[ah];simp));apply κ;refine W.cut 0 (Nat.zero_le _) [(4,vX (eM (M.mergeSort e7))),(5,I 0)] η η ?_ ?_
  ·intro p ω;simp only[List.mem_cons,List.not_mem_nil,or_false] at ω;rcases ω with rfl|rfl
   ·have ω:=eK.part (σ:=[.cells 29 1 ((eM (M.mergeSort e7)).map aL++T)]) (id:=0) (t:=29) (k:=1) (l:=(eM (M.mergeSort e7)).map aL) (l2:=T) (m:=(eM (M.mergeSort e7)).length) rfl η GB
    have e:((eM (M.mergeSort e7)).map aL++T).length=M.length:=by rw[List.length_append,List.length_map];exact U
    rw[e] at ω;exact ω
   ·exact .low η
  ·rw[hB];refine W.rt ?_;exact .refl _
end Go.TL
namespace Go.TL
open Go.Proofs
end Go.TL
namespace Go.TL
open Go.Proofs
variable [bq]
theorem St {n:Nat} {r:Int×Int}:r∈Bp n↔(-1<=r.1/\r.1<n)/\(-1<=r.2/\r.2<n):=by
 unfold Bp pn mZ;simp only[List.mem_flatMap,List.mem_map,List.mem_range];constructor
 ·rintro⟨x,δ,y,Μ,rfl⟩;simp only;omega
 ·rintro⟨⟨U,γ⟩,ο,Ι⟩;exact⟨(r.1+1).toNat,J,(r.2+1).toNat,J,Prod.ext (by simp only;omega) (by simp only;omega)⟩
theorem hΗ {gy cells:Nat} {s:aU} {p:Int×Int} {rd:List (Int×Int)} (h:Lm gy cells s p rd):cf s≠[]:=by
 obtain⟨k,ψ,rfl⟩:=h.gΥ;have π:=h.len;have μ:∀c,c<s.cells.length->0<(hH s (eb k) c).length:=λc ε=>by
  have Ω:rd[c]?=some (rd[c]'J):=a6 J;exact List.length_pos_of_mem (List.mem_filter.2 ⟨St.2 (h.each _ (cy Ω)),h.right c _ Ω⟩)
 have ω:∀i,i<=s.cells.length->0<hG (e8 s (eb k)).cells (-1) i:=by
  intro i
  induction i with
  | zero=>intro _;simp[hG]
  | succ i Α=>
   intro hi;rw[Gr _ J];exact Nat.mul_pos (Α J) (μ i J)
 intro Θ;have:e8 s (eb k)∈cf s:=xV.2 ⟨k,ψ,by rw[Cw];exact ω _ (Nat.le_refl _),rfl⟩;rw[Θ] at this;cases this
theorem hΘ {s:aU} {p:Int×Int}:∀{n:Nat},n<=s.cells.length->0<hG (e8 s p).cells (-1) n->∀c,c<n->0<(hH s p c).length:=by
 intro n
 induction n with
 | zero=>intro _ _ c ε;omega
 | succ n Α=>
  intro Θ h c ε;rw[Gr p J] at h;by_cases e:c=n
  ·subst e;exact Nat.pos_of_mul_pos_left h
  ·exact Α J (Nat.pos_of_mul_pos_right h) c J
theorem GC {s:aU} {f:Found} (Ρ:f∈cf s):f.cells.length=s.cells.length/\∀c,c<s.cells.length->∃k,k<3/\f=e8 s (eb k)/\f.cells[c]?=some (hH s (eb k) c)/\0<(hH s (eb k) c).length:=by
 obtain⟨k,ψ,hm,rfl⟩:=xV.1 Ρ;refine⟨by simp[e8],λc ε=>⟨k,ψ,rfl,by simp[e8,ε],?_⟩⟩;rw[Cw] at hm;exact hΘ (Nat.le_refl _) hm c ε
theorem hΙ {s:aU} {p r:Int×Int} {c:Nat} (h:r∈hH s p c):(-1<=r.1/\r.1<s.ar.length)/\(-1<=r.2/\r.2<s.ar.length):=St.1 (List.mem_filter.1 h).1
theorem hΚ {s:aU} {c:Nat} {lower:Bool} {x:Int} (ε:c<s.cells.length):x∈gH (cf s) c lower↔∃f∈cf s,∃r∈(f.cells[c]?).getD [],x=lK lower r:=by
 unfold gH yY;constructor
 ·intro h;obtain⟨f,Ρ,δ⟩:=List.mem_flatMap.1 h;obtain⟨r,μ,rfl⟩:=List.mem_map.1 δ;exact⟨f,Ρ,r,μ,rfl⟩
 ·rintro⟨f,Ρ,r,μ,rfl⟩;exact List.mem_flatMap.2 ⟨f,Ρ,List.mem_map.2 ⟨r,μ,rfl⟩⟩
theorem Su {s:aU} {c:Nat} {lower:Bool} (ε:c<s.cells.length) (eI:cf s≠[]):gH (cf s) c lower≠[]:=by
 obtain⟨f,Ρ⟩:=List.exists_mem_of_ne_nil _ eI;obtain⟨k,_,_,Ω,ω⟩:=(GC Ρ).2 c ε;obtain⟨r,μ⟩:=List.exists_mem_of_ne_nil _ (List.length_pos_iff.1 ω);have:lK lower r∈gH (cf s) c lower:=(hΚ ε).2 ⟨f,Ρ,r,by rw[Ω];exact μ,rfl⟩;intro h;rw[h] at this;cases this
theorem Sv {s:aU} (h:je s) (c:Nat) (lower:Bool) (ε:c<s.cells.length):(gH (cf s) c lower).length<=147:=by
 have key:∀F:List Found,(∀f∈F,f∈cf s)->(gH F c lower).length<=F.length*49:=by
  intro F
  induction F with
  | nil=>intro _;simp[gH]
  | cons f F Α=>
   intro eI;have U:=Α λg Ω=>eI g (by simp[Ω]);obtain⟨k,_,_,Ω,_⟩:=(GC (eI f η)).2 c ε;have γ:=Lj h (eb k) c;have e:gH (f::F) c lower=yY f c lower++gH F c lower:=rfl;rw[e,List.length_append,List.length_cons];have:(yY f c lower).length<=49:=by unfold yY;rw[Ω];simpa using γ
   omega
 have U:=key (cf s) λ_ h=>h
 have:=xW s;omega
theorem hΜ {s:aU} (h:je s) (eI:cf s≠[]) (lower:Bool):fΦ s (cf s) lower 255 where
 nM:=Nat.lt_of_le_of_lt (xW s) br
 cells f Ρ:=⟨(GC Ρ).1,λc ε=>by
  obtain⟨k,_,_,rfl⟩:=xV.1 Ρ;have:=Lk h _ c ε;omega⟩
 some c ε:=⟨Su ε eI,by have:=Sv h c lower ε;omega⟩
theorem Sw {α:Type} [DecidableEq α] {x:α}:∀{l:List α} {a:α},x∈nK a l\/x=a↔x∈l\/x=a:=by
 intro l
 induction l with
 | nil=>intro a;simp[nK]
 | cons b l Α=>
  intro a;unfold nK;split
  ·rename_i h;have h:b=a:=by simpa using h
   subst h;rw[Α];simp only[List.mem_cons];exact⟨λh=>h.elim (λh=>.inl (.inr h)) .inr,λh=>h.elim (λh=>h.elim .inr .inl) .inr⟩
  ·have:=Α (a:=b);simp only[List.mem_cons] at this ⊢;constructor
   ·rintro((h|h)|h)
    ·exact .inl (.inl h)
    ·rcases this.1 (.inl h) with h|h
     ·exact .inl (.inr h)
     ·exact .inl (.inl h)
    ·exact .inr h
   ·rintro((h|h)|h)
    ·exact .inl (.inl h)
    ·rcases this.2 (.inl h) with h|h
     ·exact .inl (.inr h)
     ·exact .inl (.inl h)
    ·exact .inr h
theorem hΝ {α:Type} [DecidableEq α] {x:α} {l:List α}:x∈eM l↔x∈l:=by
 cases l with
 | nil=>exact Iff.rfl
 | cons a l=>
  show x∈a::nK a l↔_
  have:=Sw (x:=x) (l:=l) (a:=a);simp only[List.mem_cons];constructor
  ·rintro(h|h)
   ·exact .inl h
   ·rcases this.1 (.inl h) with h|h
    ·exact .inr h
    ·exact .inl h
  ·rintro(h|h)
   ·exact .inl h
   ·rcases this.2 (.inl h) with h|h
    ·exact .inr h
    ·exact .inl h
theorem hΞ {n:Nat}:∀{l:List Int} {a:Int},l.Pairwise (· < ·)->(∀x∈l,a<=x/\x<a+n)->l.length<=n:=by
 induction n with
 | zero=>
  intro l a _ h;cases l with
  | nil=>simp
  | cons x l=>have:=h x η;omega
 | succ n Α=>
  intro l a ω h;cases l with
  | nil=>simp
  | cons x l=>
   obtain⟨U,γ⟩:=List.pairwise_cons.1 ω;have δ:=h x η;have:=Α (a:=a+1) γ λy Μ=>by have:=U y Μ;have:=h y (by simp[Μ]);omega
   simp only[List.length_cons];omega
end Go.TL
namespace Go.TL
open Go.Conc
variable [bq]
inductive x1 (id:Nat):θ->θ->Prop where
 | same (a:θ):x1 id a a
 | nil {k:Nat}:x1 id (.sl true k []) (.ms id 0 0 0)
def zL (id:Nat) (r r':Row):Prop:=r'=r\/∃t n es es',r=.cells t n es/\r'=.cells t n es'/\es'.length=es.length/\
 ∀(i:Nat) (e aP:θ),es[i]?=some e->es'[i]?=some aP->aP.cells.length=e.cells.length/\∀(x:Nat) (a cj:θ),e.cells[x]?=some a->aP.cells[x]?=some cj->x1 id a cj
section
variable {P:Program} {S:aO} {B:a0} {H:Γ} {σ σ':ac} {m nt k:Nat} {t:TypeId} {kk:List Item} {env:ab} {Z:be} {E:aq}
theorem b8.pad (hlen:B.length=σ.length) (ξ:σ'.length=σ.length) (k4:∀(j:Nat) (r:Row),σ[j]?=some r->∃r',σ'[j]?=some r'/\zL σ.length r r'):b8 S S B (B++[none]) σ (σ'++[.cells t k []]):=
 ⟨λ_ _ _ h=>h,λj r μ=>by
  have aN:=(b0.1 μ).1;obtain⟨r',U,γ⟩:=k4 j r μ;have dV:(B++[none])[j]?=B[j]?:=dM J;refine⟨r',by rw[dM J];exact U,?_⟩;rw[dV];rcases γ with rfl|⟨t,n,es,es',rfl,rfl,ο,_⟩
  ·exact Row.tc _ _
  ·exact .inl ⟨es',rfl,ο,rfl⟩⟩
theorem aA.Fi (hlen:B.length=σ.length) (ξ:σ'.length=σ.length) (π:b8 S S B (B++[none]) σ (σ'++[.cells t k []])) {a cj:θ} (h:x1 σ.length a cj) {v:Value} (μ:aA S B σ a v):aA S (B++[none]) (σ'++[.cells t k []]) cj v:=by
 cases h with
 | same=>exact μ.later π
 | nil=>
  have U:(σ'++[Row.cells t k []])[σ.length]?=some (.cells t k []):=by rw[<-ξ];simp
  have γ:(B++[none])[σ.length]?=some none:=by rw[<-hlen];simp
  cases μ with
  | iT base cap g=>
   obtain rfl:=g rfl;exact .ms 0 U rfl γ (Nat.le_refl _) (Nat.le_refl _) (.inl rfl)
  | sl b o cap w g=>
   obtain rfl:cap=0:=g rfl;exact .ms 0 U rfl γ (Nat.le_refl _) (Nat.le_refl _) (.inl rfl)
theorem W.pad (t:TypeId) (k:Nat) (ξ:σ'.length=σ.length) (k4:∀(j:Nat) (r:Row),σ[j]?=some r->∃r',σ'[j]?=some r'/\zL σ.length r r') (env':ab) (cO:∀p∈env',x1 σ.length (a' env p.1) p.2)
  (hW:W P m nt kk env' (σ'++[.cells t k []]) Z E):W P m nt kk env σ Z E:=by
 intro Q mn x cs b S B H bm δ hb ω Ψ he;have Δ:=ω.holds;have hlen:=Δ.len;have π:b8 S S B (B++[none]) σ (σ'++[.cells t k []]):=b8.pad hlen ξ k4;have Sx:∀j,j<σ.length->(σ'++[Row.cells t k []])[j]?=σ'[j]?:=λj h=>dM J;have CE:∀j,j<σ.length->(B++[none])[j]?=B[j]?:=λj h=>dM J;have back:∀j r',j<σ.length->(σ'++[Row.cells t k []])[j]?=some r'->∃r,σ[j]?=some r/\zL σ.length r r':=λj r' ζ h=>by
  rw[Sx j ζ] at h;obtain⟨r2,U,γ⟩:=k4 j _ (a6 ζ);rw[h] at U;cases U;exact⟨_,a6 ζ,γ⟩
 have live:∀{r r':Row},zL σ.length r r'->r'.live->r.live:=λ{r r'} h hv=>by
  rcases h with rfl|⟨_,_,_,_,rfl,rfl,_⟩
  ·exact hv
  ·trivial
 have low:∀j y,(B++[none])[j]?=some (some y)->j<σ.length:=λj y h=>by
  have U:=(b0.1 h).1;simp at U;by_cases e:j=B.length
  ·subst e;simp at h
  ·omega
 have jo:Holds S (B++[none]) (σ'++[.cells t k []]) H:=by
  refine⟨Δ.dy,by simp;omega,λj r bo μ eJ=>?_,λi j eF cp b gO gP fP hi ζ g5 ek g6 cT=>?_,λj r b N μ fr hb o=>?_⟩
  ·by_cases e:j<σ.length
   ·rw[CE j e] at eJ;obtain⟨r0,U,γ⟩:=back j r e μ;have ο:=Δ.row j r0 bo U eJ;rcases γ with rfl|⟨t2,n,es,es',rfl,rfl,Ι,ax⟩
    ·refine ο.later π (λb N _=>⟨λ_=>rfl,rfl,rfl⟩) λb9 left cur Ε=>?_;subst Ε;obtain⟨_,_,a4,lB,xs,clock,seen,_,e2,⟨es,dq⟩,_⟩:=ο;have hm:=(b0.1 dq).1;refine⟨?_,CE b9 hm,λb N _=>⟨λ_=>rfl,rfl,rfl⟩⟩;obtain⟨r',dz,p2⟩:=k4 b9 _ dq;rcases p2 with rfl|⟨_,_,_,_,p3,_⟩
     ·rw[Sx b9 hm,dz,dq]
     ·cases p3
    ·cases bo with
     | none=>
      have:es=[]:=ο;subst this;exact dO.1 Ι
     | some y=>
      obtain⟨b,N⟩:=y;obtain⟨aa,ai,aZ,w,cn⟩:=ο;refine⟨aa,by rw[Ι];exact ai,aZ,w,λi aP hi=>?_⟩;have aN:i<es.length:=by rw[<-Ι];exact(b0.1 hi).1
      obtain⟨c1,c2⟩:=cn i _ (a6 aN);obtain⟨d1,d2⟩:=ax i _ aP (a6 aN) hi;refine⟨d1.trans c1,λx cj δ=>?_⟩;have o6:x<(es[i]).cells.length:=by rw[<-d1];exact(b0.1 δ).1
      obtain⟨e2,dq,hU⟩:=c2 x _ (a6 o6);exact⟨e2,dq.Fi hlen ξ π (d2 x _ cj (a6 o6) δ),hU⟩
   ·have U:=(b0.1 μ).1;simp at U;have k0:j=σ'.length:=J;subst k0;rw[ξ,<-hlen] at eJ;simp at μ eJ;subst μ;subst eJ;rfl
  ·have li:=low i _ g6
   have mj:=low j _ cT;obtain⟨r1,a1,bb⟩:=back i eF li hi;obtain⟨r2,bE,c6⟩:=back j cp mj ζ;rw[CE i li] at g6;rw[CE j mj] at cT;exact Δ.inj i j r1 r2 b gO gP fP a1 bE (live bb g5) (live c6 ek) g6 cT
  ·have mj:=low j _ hb;obtain⟨r1,a1,bb⟩:=back j r mj μ;rw[CE j mj] at hb;exact Δ.sep j r1 b N a1 (live bb fr) hb o
 have pX:Ext S B H S (B++[none]) H:=(Δ.push (r:=.cells t k []) (bo:=none) (λb N h=>by cases h) (λb _=>⟨λ_=>rfl,rfl,rfl⟩) (λ_=>rfl)).2.1
 have ν:ff m S B H σ S (B++[none]) H (σ'++[.cells t k []]):=⟨pX,π.left m⟩
 have wY:∀(l2:ab),(∀p∈l2,x1 σ.length (a' env p.1) p.2)->∀i,aA S B σ (a' env i) (bm.getD i undef)->aA S (B++[none]) (σ'++[.cells t k []]) (a' l2 i) (bm.getD i undef):=by
  intro l2
  induction l2 with
  | nil=>intro _ i _;exact .cz _
  | cons p l2 Α=>
   intro oz i μ;simp only[a'];split
   ·rename_i e;subst e;exact μ.Fi hlen ξ π (oz p η)
   ·exact Α (λq Χ=>oz q (by simp[Χ])) i μ
 refine hW Q mn x cs b _ _ H bm δ hb ⟨jo,λi=>wY env' cO i (ω.cH i),ω.size,by have:=ω.rows;simp;omega⟩ (λj gS gf c8 e3 bN t2 bT aa ai aZ cn=>?_) (λa gS gf c8 e3 bN t2 bT v aa ai aZ cn gr=>?_)
 ·exact Ψ j gS gf c8 e3 bN t2 bT aa (ν.trans ai) aZ cn
 ·exact he a gS gf c8 e3 bN t2 bT v aa (ν.trans ai) aZ cn gr
theorem W.hΟ (t:TypeId) (k:Nat) {i:Nat} {r r':Row} (hi:σ[i]?=some r) (μ:zL σ.length r r') (env':ab) (cO:∀p∈env',x1 σ.length (a' env p.1) p.2) (hW:W P m nt kk env' (σ.set i r'++[.cells t k []]) Z E):W P m nt kk env σ Z E:=
 W.pad t k η (λj q ζ=>by
  by_cases e:j=i
  ·subst e;rw[hi] at ζ;cases ζ;exact⟨r',by rw[List.getElem?_set_self (b0.1 hi).1],μ⟩
  ·exact⟨q,by rw[List.getElem?_set_ne (Ne.symm e)];exact ζ,.inl rfl⟩) env' cO hW
end
section
variable {P:Program} {T:bk} {A:List Nat} {m nt:Nat} {k:List Item} {env env':ab} {σ:ac} {Z:be} {E:aq} {ops:Array Oper} {lo pu ids:List Nat}
def rI (ids:List Nat):θ->Bool
 | .ak id _ _ _=>ids.contains id
 | .ms id _ _ _=>ids.contains id
 | _=>false
def seen (ids:List Nat) (σ:ac):List (Option Row):=ids.map λid=>σ[id]?
def CF (T:bk) (A:List Nat) (env:ab) (o:Oper) (ids:List Nat) (σ:ac) (K:θ->Prop):Prop:=match o.op with
 | .load ty x=>rI ids (aT env x)=true/\(jK T A env o).ee (λ_=>False) ((o2 T ty σ (aT env x)).ee λa _=>K a)
 | .fieldAddr ty x f=>rI ids (aT env x)=true/\(jK T A env o).ee (λ_=>False) ((o3 T ty f σ (aT env x)).ee λa _=>K a)
 | .indexAddr ty x bz=>rI ids (aT env x)=true/\(jK T A env o).ee (λ_=>False) ((o4 T ty σ (aT env x) (aT env bz)).ee λa _=>K a)
 | _=>False
theorem Sy {o:Oper} {ids:List Nat} {K:θ->Prop}:CF T A env o ids σ K=match o.op with
 | .load ty x=>rI ids (aT env x)=true/\(jK T A env o).ee (λ_=>False) ((o2 T ty σ (aT env x)).ee λa _=>K a)
 | .fieldAddr ty x f=>rI ids (aT env x)=true/\(jK T A env o).ee (λ_=>False) ((o3 T ty f σ (aT env x)).ee λa _=>K a)
 | .indexAddr ty x bz=>rI ids (aT env x)=true/\(jK T A env o).ee (λ_=>False) ((o4 T ty σ (aT env x) (aT env bz)).ee λa _=>K a)
 | _=>False:=Eq.trans rfl rfl
def m' (P:Program) (T:bk) (A:List Nat) (nt:Nat) (ops:Array Oper) (lo pu ids:List Nat):List Nat->ab->ac->List Bool->(ab->ac->Prop)->Prop
 | [],env,σ,tags,K=>tw (nF lo pu) ops tags=true/\K env σ
 | i::is,env,σ,tags,K=>gu ops[i]? λo=>hD nt o=true/\gu (ft env ops o) λw=>
   iE w (m' P T A nt ops lo pu ids is (b7 o env .cz) σ (tags++[false]) K)
    (iE (!lo.contains i) (CF T A env o ids σ λa=>m' P T A nt ops lo pu ids is (b7 o env a) σ (tags++[true]) K)
     (tC P T A env o σ (λa=>m' P T A nt ops lo pu ids is (b7 o env a) σ (tags++[false]) K) (λa σ'=>(pu.contains i=true->seen ids σ'=seen ids σ)/\m' P T A nt ops lo pu ids is (b7 o env a) σ' (tags++[true]) K)))
theorem Sz {tags:List Bool} {K:ab->ac->Prop}:m' P T A nt ops lo pu ids [] env σ tags K=(tw (nF lo pu) ops tags=true/\K env σ):=Eq.trans rfl rfl
theorem SA {i:Nat} {is:List Nat} {tags:List Bool} {K:ab->ac->Prop}:m' P T A nt ops lo pu ids (i::is) env σ tags K=gu ops[i]? λo=>hD nt o=true/\gu (ft env ops o) λw=>
   iE w (m' P T A nt ops lo pu ids is (b7 o env .cz) σ (tags++[false]) K)
    (iE (!lo.contains i) (CF T A env o ids σ λa=>m' P T A nt ops lo pu ids is (b7 o env a) σ (tags++[true]) K)
     (tC P T A env o σ (λa=>m' P T A nt ops lo pu ids is (b7 o env a) σ (tags++[false]) K) (λa σ'=>(pu.contains i=true->seen ids σ'=seen ids σ)/\m' P T A nt ops lo pu ids is (b7 o env a) σ' (tags++[true]) K))):=Eq.trans rfl rfl
theorem SB {i:iU} {l:am} (τ:ac):(sa i l).dC τ=match tt i l with|some a=>.ok a τ|none=>.bad:=by
 unfold sa tt;split
 ·split<;>rfl
 ·cases l<;>rfl
theorem GD {ids:List Nat} {τ:ac} {id:Nat} (h:seen ids τ=seen ids σ) (hi:ids.contains id=true):τ[id]?=σ[id]?:=by
 have hm:=List.contains_iff_mem.1 hi;exact List.map_inj_left.1 h id hm
theorem SC {ids:List Nat} {ty:TypeId} {x:θ} {τ:ac} (lW:seen ids τ=seen ids σ) (δ:rI ids x=true):(∀a σ',o2 T ty σ x=.ok a σ'->o2 T ty τ x=.ok a τ)/\∀p r,o2 T ty σ x≠.b' p r:=by
 unfold o2;split
 ·rename_i id n i j;rw[GD lW δ];split
  ·split
   ·split
    ·rw[SB,SB];split
     ·exact⟨λa σ' h=>(by cases h;rfl),nofun⟩
     ·exact⟨nofun,nofun⟩
    ·exact⟨nofun,nofun⟩
   ·exact⟨nofun,nofun⟩
  ·exact⟨nofun,nofun⟩
 ·exact⟨nofun,nofun⟩
theorem SD {ids:List Nat} {ty:TypeId} {f:Nat} {x:θ} {τ:ac} (lW:seen ids τ=seen ids σ) (δ:rI ids x=true):(∀a σ',o3 T ty f σ x=.ok a σ'->o3 T ty f τ x=.ok a τ)/\∀p r,o3 T ty f σ x≠.b' p r:=by
 unfold o3;split
 ·rename_i id n i j;rw[GD lW δ];split
  ·split
   ·exact⟨λa σ' h=>(by cases h;rfl),nofun⟩
   ·exact⟨nofun,nofun⟩
  ·exact⟨nofun,nofun⟩
 ·exact⟨nofun,nofun⟩
theorem SE {ids:List Nat} {ty:TypeId} {x bz:θ} {τ:ac} (lW:seen ids τ=seen ids σ) (δ:rI ids x=true):(∀a σ',o4 T ty σ x bz≠.ok a σ')/\∀p a σ',o4 T ty σ x bz=.b' p (.ok a σ')->o4 T ty τ x bz=.b' p (.ok a τ):=by
 unfold o4;split
 ·split
  ·rename_i id m i len;rw[GD lW δ];split
   ·split
    ·exact⟨nofun,λp a σ' h=>(by cases h;rfl)⟩
    ·exact⟨nofun,nofun⟩
   ·exact⟨nofun,nofun⟩
  ·exact⟨nofun,nofun⟩
 ·split
  ·rename_i id m i j;rw[GD lW δ];split
   ·split
    ·exact⟨nofun,λp a σ' h=>(by cases h;rfl)⟩
    ·exact⟨nofun,nofun⟩
   ·exact⟨nofun,nofun⟩
  ·exact⟨nofun,nofun⟩
 ·exact⟨nofun,nofun⟩
theorem hΡ (Ν:bU P T) {i:Nat} {o:Oper} {K:θ->Prop} (Β:ops[i]?=some o) (hd:hD nt o=true) (hw:ft env ops o=some true) (h:CF T A env o ids σ K) :
  ∃a,jq o=true/\(∀τ:ac,seen ids τ=seen ids σ->va P m nt k Z E ops i o env τ a τ)/\K a:=by
 unfold CF at h;split at h
 ·rename_i ty x Τ;obtain⟨bd,h⟩:=h;unfold cB.ee at h;split at h
  ·exact h.elim
  ·exact h.2.elim
  ·exact h.elim
  ·rename_i oo;unfold c5.ee at h;split at h
   ·rename_i a σ' ν;refine⟨a,by unfold jq;rw[Τ],λτ lW env' rest ξ hW=>?_,h⟩;refine .op (A:=A) Ν Β (by rw[lG ξ];exact hw) hd (λc ε=>by rw[Τ] at ε;cases ε) ?_;have:iD T A env τ o=.ok a τ:=by unfold iD;rw[Τ];exact(SC lW bd).1 a σ' ν
    rw[tB ξ,yN ξ,oo,this];exact hW
   ·rename_i p a σ' ν;exact absurd ν ((SC (σ:=σ) (τ:=σ) rfl bd).2 _ _)
   ·exact h.elim
 ·rename_i ty x f Τ;obtain⟨bd,h⟩:=h;unfold cB.ee at h;split at h
  ·exact h.elim
  ·exact h.2.elim
  ·exact h.elim
  ·rename_i oo;unfold c5.ee at h;split at h
   ·rename_i a σ' ν;refine⟨a,by unfold jq;rw[Τ],λτ lW env' rest ξ hW=>?_,h⟩;refine .op (A:=A) Ν Β (by rw[lG ξ];exact hw) hd (λc ε=>by rw[Τ] at ε;cases ε) ?_;have:iD T A env τ o=.ok a τ:=by unfold iD;rw[Τ];exact(SD lW bd).1 a σ' ν
    rw[tB ξ,yN ξ,oo,this];exact hW
   ·rename_i p a σ' ν;exact absurd ν ((SD (σ:=σ) (τ:=σ) rfl bd).2 _ _)
   ·exact h.elim
 ·rename_i ty x bz Τ;obtain⟨bd,h⟩:=h;unfold cB.ee at h;split at h
  ·exact h.elim
  ·exact h.2.elim
  ·exact h.elim
  ·rename_i oo;unfold c5.ee at h;split at h
   ·rename_i a σ' ν;exact absurd ν ((SE (σ:=σ) (τ:=σ) rfl bd).1 _ _)
   ·rename_i p a σ' ν;refine⟨a,by unfold jq;rw[Τ],λτ lW env' rest ξ hW=>?_,h.2⟩;refine .op (A:=A) Ν Β (by rw[lG ξ];exact hw) hd (λc ε=>by rw[Τ] at ε;cases ε) ?_;have:iD T A env τ o=.b' p (.ok a τ):=by unfold iD;rw[Τ];exact(SE lW bd).2 p a σ' ν
    rw[tB ξ,yN ξ,oo,this];exact⟨h.1,hW⟩
   ·exact h.elim
 ·exact h.elim
theorem hΤ (Ν:bU P T) {i:Nat} {o:Oper} {gU:θ->Prop} {j0:θ->ac->Prop} (Β:ops[i]?=some o) (hd:hD nt o=true) (hw:ft env ops o=some true) (h:tC P T A env o σ gU j0) :
  ∃a σ' tag,iX P m nt k Z E ops i o env σ tag a σ'/\(tag=false->gU a/\σ'=σ)/\(tag=true->j0 a σ'):=by
 unfold tC at h;split at h
 ·rename_i f args eu Τ;have vd:∀env',pa ops o env env'->aT env' f=aT env f/\args.toList.map (aT env')=args.toList.map (aT env):=λenv' ξ=>by
   have δ:=A3 ξ;rw[Τ] at δ;refine⟨δ f (by simp[Op.operands,Call.operands]),A4 λx A5=>δ x (by simp[Op.operands,Call.operands,A5])⟩
  rcases h with⟨r,ε,h⟩|⟨r,σ',ε,h⟩
  ·refine⟨r,σ,false,?_,λ_=>⟨h,rfl⟩,nofun⟩;unfold iX;simp only[Bool.false_eq_true,if_false];refine⟨λenv' σ' rest ξ hW=>.call Β (by rw[lG ξ];exact hw) hd Τ ?_,trivial⟩;obtain⟨Ζ,Ε⟩:=vd env' ξ;rw[Ζ,Ε];exact(ε σ').mono (λa s ⟨x,y⟩=>by subst x;subst y;exact hW) (λ_ _ h=>h.elim)
  ·refine⟨r,σ',true,?_,nofun,λ_=>h⟩;unfold iX;simp only[if_true];refine⟨?_,λμ=>by unfold jq at μ;rw[Τ] at μ;cases μ⟩;refine λenv' rest ξ hW=>.call Β (by rw[lG ξ];exact hw) hd Τ ?_;obtain⟨Ζ,Ε⟩:=vd env' ξ;rw[Ζ,Ε];exact ε.mono (λa s ⟨x,y⟩=>by subst x;subst y;exact hW) (λ_ _ h=>h.elim)
 ·exact h.elim
 ·exact h.elim
 ·rename_i U γ ο;have ve:∀(r:cB) (a:θ),jK T A env o=r->(∀K:θ->ac->Prop,∀s,K a s->(r.dC s).holds K)->(∀σ s,r.or σ s=r.dC σ)->u' P m nt k Z E ops i o env a:=λr a μ a5 A6 env' σ' rest ξ hW=>by
   refine .op (A:=A) Ν Β (by rw[lG ξ];exact hw) hd (λc ε=>ο c ε) ?_;rw[tB ξ,μ,A6];exact a5 _ _ hW
  unfold cB.ee at h;split at h
  ·rename_i a ν;refine⟨a,σ,false,?_,λ_=>⟨h,rfl⟩,nofun⟩;unfold iX;simp only[Bool.false_eq_true,if_false];exact⟨ve _ a ν (λK s ψ=>ψ) (λ_ _=>rfl),trivial⟩
  ·rename_i p a ν;refine⟨a,σ,false,?_,λ_=>⟨h.2,rfl⟩,nofun⟩;unfold iX;simp only[Bool.false_eq_true,if_false];exact⟨ve _ a ν (λK s ψ=>⟨h.1,ψ⟩) (λ_ _=>rfl),trivial⟩
  ·exact h.elim
  ·rename_i oo;have xb:∀(a:θ) (σ':ac) (r:c5),iD T A env σ o=r->(∀K:θ->ac->Prop,K a σ'->r.holds K)->va P m nt k Z E ops i o env σ a σ':=λa σ' r μ a5 env' rest ξ hW=>by
    refine .op (A:=A) Ν Β (by rw[lG ξ];exact hw) hd (λc ε=>ο c ε) ?_;rw[tB ξ,yN ξ,oo,μ];exact a5 _ hW
   unfold c5.ee at h;split at h
   ·rename_i a σ' ν;refine⟨a,σ',true,?_,nofun,λ_=>h⟩;unfold iX;simp only[if_true];exact⟨xb a σ' _ ν λK ψ=>ψ,λμ=>yO (p:=True) μ (.inl ν)⟩
   ·rename_i p a σ' ν;refine⟨a,σ',true,?_,nofun,λ_=>h.2⟩;unfold iX;simp only[if_true];exact⟨xb a σ' _ ν λK ψ=>⟨h.1,ψ⟩,λμ=>yO μ (.inr ν)⟩
   ·exact h.elim
def LC (lo pu ids:List Nat) (P:Program) (m nt:Nat) (k:List Item) (Z:be) (E:aq) (ops:Array Oper) (i:Nat) (o:Oper) (env:ab) (σ:ac) (tag:Bool) (a:θ) (σ':ac):Prop:=
 iX P m nt k Z E ops i o env σ tag a σ'/\(lo.contains i=true->tag=true->jq o=true/\∀τ:ac,seen ids τ=seen ids σ->va P m nt k Z E ops i o env τ a τ)/\(pu.contains i=true->seen ids σ'=seen ids σ)
theorem hΥ (Ν:bU P T) {i:Nat} {is:List Nat} {tags:List Bool} {K:ab->ac->Prop} (h:m' P T A nt ops lo pu ids (i::is) env σ tags K) :
  ∃o a σ' tag,ops[i]?=some o/\LC lo pu ids P m nt k Z E ops i o env σ tag a σ'/\m' P T A nt ops lo pu ids is (b7 o env a) σ' (tags++[tag]) K:=by
 unfold m' gu at h;split at h
 ·exact h.elim
 ·rename_i o Β;obtain⟨hd,h⟩:=h;split at h
  ·exact h.elim
  rename_i w hw;unfold iE at h;cases w
  ·replace h:=h.1 rfl
   refine⟨o,.cz,σ,false,Β,⟨?_,λ_ h=>(by cases h),λ_=>rfl⟩,h⟩;unfold iX;simp only[Bool.false_eq_true,if_false];exact⟨λenv' σ' rest ξ hW=>.unwanted Β (by rw[lG ξ];exact hw) hd hW,trivial⟩
  ·replace h:=h.2 rfl
   cases π:lo.contains i with
   | true=>
    rw[π] at h;obtain⟨a,U,γ,ο⟩:=hΡ (m:=m) (k:=k) (Z:=Z) (E:=E) Ν Β hd hw (h.1 rfl);refine⟨o,a,σ,true,Β,⟨?_,λ_ _=>⟨U,γ⟩,λ_=>rfl⟩,ο⟩;unfold iX;simp only[if_true];exact⟨γ σ rfl,λ_=>trivial⟩
   | false=>
    rw[π] at h;obtain⟨a,σ',tag,U,γ,ο⟩:=hΤ (m:=m) (k:=k) (Z:=Z) (E:=E) Ν Β hd hw (h.2 rfl);cases tag with
    | false=>
     obtain⟨Ι,rfl⟩:=γ rfl;exact⟨o,a,σ',false,Β,⟨U,λδ=>(by rw[π] at δ;cases δ),λ_=>rfl⟩,Ι⟩
    | true=>
     obtain⟨Ι,ax⟩:=ο rfl;exact⟨o,a,σ',true,Β,⟨U,λδ=>(by rw[π] at δ;cases δ),Ι⟩,ax⟩
theorem hΦ (Ν:bU P T) {K:ab->ac->Prop} {env0:ab}:∀(d i:Nat) (tags:List Bool) (as9:Nat->θ) (σs:Nat->ac),i+d=ops.size->tags.length=i->
  (∀j o,j<i->ops[j]?=some o->LC lo pu ids P m nt k Z E ops j o (cI ops env0 as9 (λ_=>true) j) (σs j) (tags.getD j false) (as9 j) (σs (j+1)))->
  m' P T A nt ops lo pu ids (List.range' i d) (cI ops env0 as9 (λ_=>true) i) (σs i) tags K->
  ∃(tags:List Bool) (as9:Nat->θ) (j2:Nat->ac),tw (nF lo pu) ops tags=true/\j2 0=σs 0/\(∀j o,ops[j]?=some o->LC lo pu ids P m nt k Z E ops j o (cI ops env0 as9 (λ_=>true) j) (j2 j) (tags.getD j false) (as9 j) (j2 (j+1)))/\K (cI ops env0 as9 (λ_=>true) ops.size) (j2 ops.size):=by
 intro d
 induction d with
 | zero=>
  intro i tags as9 σs hi Υ ζ h;simp only[List.range'_zero,m'] at h;have:i=ops.size:=J;subst this;exact⟨tags,as9,σs,h.1,rfl,λj o Β=>ζ j o (Array.getElem?_eq_some_iff.1 Β).1 Β,h.2⟩
 | succ d Α=>
  intro i tags as9 σs hi Υ ζ h;rw[List.range'_succ] at h;obtain⟨o,a,σ',tag,Β,A7,h⟩:=hΥ (m:=m) (k:=k) (Z:=Z) (E:=E) Ν h;let ig:Nat->θ:=λj=>if j=i then a else as9 j
  let j2:Nat->ac:=λj=>if j=i+1 then σ' else σs j
  have q0:∀j,j<=i->cI ops env0 as9 (λ_=>true) j=cI ops env0 ig (λ_=>true) j:=λj ζ=>IJ j λx δ=>by simp only[ig];rw[if_neg J]
  have A8:cI ops env0 ig (λ_=>true) (i+1)=b7 o (cI ops env0 as9 (λ_=>true) i) a:=by
   simp only[cI,if_true,Β];rw[<-q0 i (Nat.le_refl i)];simp only[ig,if_true]
  have:=Α (i+1) (tags++[tag]) ig j2 J (by simp[Υ]) (λj bZ aN dg=>?_) ?_
  ·obtain⟨t2,bb,s2,aa,ai,aZ,cn⟩:=this;exact⟨t2,bb,s2,aa,ai.trans (by simp only[j2];rw[if_neg J]),aZ,cn⟩
  ·by_cases e:j=i
   ·subst e;rw[Β] at dg;cases dg;rw[<-q0 j (Nat.le_refl j)];have Ζ:(tags++[tag]).getD j false=tag:=by rw[List.getD_eq_getElem?_getD,gA J,Υ];simp
    rw[Ζ];simp only[ig,j2,if_true];rw[if_neg J];exact A7
   ·have:=ζ j bZ J dg;rw[<-q0 j J];have Ζ:(tags++[tag]).getD j false=tags.getD j false:=by rw[List.getD_eq_getElem?_getD,dM J,<-List.getD_eq_getElem?_getD]
    rw[Ζ];simp only[ig,j2];rw[if_neg J,if_neg J,if_neg J];exact this
  ·rw[A8];simp only[j2,if_true];exact h
theorem W.SF (lo pu ids:List Nat) (Ν:bU P T) (q1:P.follows .mixedOrders=true) {id:Nat} (h:∀Κ:ab->ac->Prop,(∀env σ,W P m nt k env σ Z E->Κ env σ)->m' P T A nt ops lo pu ids (idx ops.size []) env σ [] Κ):W P m nt (.code (.region id ops true)::k) env σ Z E:=by
 have ao:=h (λenv σ=>W P m nt k env σ Z E) λ_ _ h=>h;rw[idx_eq,List.range_eq_range'] at ao;obtain⟨tags,as9,σs,aa,ai,aZ,cn⟩:=hΦ (m:=m) (k:=k) (Z:=Z) (E:=E) (env0:=env) Ν ops.size 0 [] (λ_=>.cz) (λ_=>σ) J rfl (λj o ζ=>J) ao;intro Q mn x cs b S B H t δ hb ω Ψ he;refine .draw δ hb λn=>?_;have key:=W.N' (lo:=lo) (pu:=pu) (v:=seen ids) (P:=P) (m:=m) (nt:=nt) (k:=k) (Z:=Z) (E:=E) (ops:=ops) (as9:=as9) (σs:=σs) (tags:=tags) (env0:=env) aa
  (λi o Β Υ=>by have:=(aZ i o Β).1;unfold iX at this;rw[Υ] at this;simpa using this)
  (λi o Β Υ=>by have:=(aZ i o Β).1;unfold iX at this;rw[Υ] at this;simpa using this)
  (λi o Β π Υ=>(aZ i o Β).2.1 π Υ) (λi o Β ω=>(aZ i o Β).2.2 ω)
  (.bL cn) ops.size n (Array.replicate ops.size false) env 0 η (λi=>?_) (λi o Β π=>?_) (Nat.zero_le _) (λj ζ _=>?_) ?_
 ·rw[ai] at key;rw[q1];simp only[Region.schedule,Bool.true_or,if_true,Region.linearise];exact key Q mn x cs b S B H t δ hb ω Ψ he
 ·have:∀n,cI ops env as9 (λi=>(Array.replicate ops.size false).getD i false) n=env:=by
   intro n
   induction n with
   | zero=>rfl
   | succ n Α=>
    simp only[cI];have:(Array.replicate ops.size false).getD n false=false:=by
     rw[Array.getD_eq_getD_getElem?,Array.getElem?_replicate];split<;>rfl
    rw[if_neg (by rw[this];simp)];exact Α
  rw[this]
 ·have:(Array.replicate ops.size false).getD i false=false:=by
   rw[Array.getD_eq_getD_getElem?,Array.getElem?_replicate];split<;>rfl
  rw[this] at π;cases π
 ·have:(Array.replicate ops.size false).getD j false=false:=by
   rw[Array.getD_eq_getD_getElem?,Array.getElem?_replicate];split<;>rfl
  rw[this];simp
 ·have:=List.length_filter_le (λi=>!(Array.replicate ops.size false).getD i false) (List.range ops.size);simpa using this
end
end Go.TL
namespace Go.TL
open Go.Proofs
variable [bq]
def gz (b:Nat):List (List cZ)->am
 | []=>[]
 | l::C=>.ms b l.length 0 l.length::gz (b+1) C
def ho (C:List (List cZ)):ac:=C.map λl=>.cells 28 3 (l.map dX)
theorem hΧ (b:Nat) (C:List (List cZ)) (l:List cZ):gz b (C++[l])=gz b C++[.ms (b+C.length) l.length 0 l.length]:=by
 induction C generalizing b with
 | nil=>rfl
 | cons c C Α=>
  show _::gz (b+1) (C++[l])=_;rw[Α,show b+1+C.length=b+(c::C).length by simp;omega];rfl
theorem zM (b:Nat) (C:List (List cZ)):(gz b C).length=C.length:=by
 induction C generalizing b with
 | nil=>rfl
 | cons c C Α=>simp[gz,Α]
theorem SG (σ L:ac) (k:Nat):(σ++L)[σ.length+k]?=L[k]?:=by rw[gA J];congr 1;omega
theorem hΨ (σ L:ac):(σ++L)[σ.length]?=L[0]?:=SG σ L 0
theorem SH (σ L:ac) (k:Nat) (x:Row):(σ++L).set (σ.length+k) x=σ++L.set k x:=by rw[List.set_append_right _ _ J];congr 2;omega
theorem hΩ (σ L:ac) (x:Row):(σ++L).set σ.length x=σ++L.set 0 x:=SH σ L 0 x
theorem iα (s:aU) (h:s.small) (σ:ac):af Tryz.prog 25 [fu s] σ (λa r=>a=.a3 [aY s.ar,aX s.az,.ms (σ.length+2) s.cells.length 0 s.cells.length]/\r=σ++(.dead::.dead::.cells 60 1 (gz (σ.length+3) s.cells)::ho s.cells)) (λ_ _=>False):=by
 obtain⟨U,γ,ο,Ι,ax⟩:=h;obtain⟨n,Θ⟩:=aF σ.length;have Ω:=SG σ;have oU:=hΨ σ;have ξ:=SH σ;have gF:=hΩ σ;rw[<-Θ] at Ω oU ξ gF ⊢;refine af.body Φ Tryz.func25 rfl rfl Tryz.ntmps25 rfl rfl η ?_
 repeat apply ae
 refine dj (A:=[2]) Φ λΚ κ=>?_;simp;(repeat (rw[ah];simp[Θ.symm]));apply κ;refine W.to (σ':=σ++[ez (.sl true 0 []) (.sl true 0 []) (.sl true 0 [])]) (env':=[(1,.au [aY s.ar,aX s.az,bO s.cells]),(2,.ak n 1 0 0)]) ?_ η η
 repeat apply ae
 refine W.draw (A:=[3]) Φ mixed λΚ κ=>?_;simp;(repeat (rw[cY];simp[Θ.symm]));try rw[cX]
 refine⟨J,?_⟩;refine eD (aB.p (XR s.az J (λx δ=>by have:=Ι x δ;omega)) (b2.refl _) η η) ?_;simp[Θ.symm];(repeat (rw[cY];simp[Θ.symm]));try rw[cX]
 refine en (κ _ _ ?_);refine W.to (σ':=σ++[ez (.sl true 0 []) (.sl true 0 []) (.sl true 0 []),ez (aY s.ar) (aX s.az) (.sl true 0 [])]) (env':=[(1,.au [aY s.ar,aX s.az,bO s.cells]),(2,.ak n 1 0 0),(3,.ak (n+1) 1 0 0)]) ?_ η η;have iβ:zL (n+2) (ez (aY s.ar) (aX s.az) (.sl true 0 [])) (ez (aY s.ar) (aX s.az) (.ms (n+2) 0 0 0)):=by
  refine .inr ⟨26,3,_,_,rfl,rfl,rfl,λi e aP U γ=>?_⟩
  match i with
  | 0=>
   simp at U γ;subst U;subst γ;refine⟨rfl,λx a cj ο Ι=>?_⟩
   match x with
   | 0=>simp[θ.cells] at ο Ι;subst ο;subst Ι;exact .same _
   | 1=>simp[θ.cells] at ο Ι;subst ο;subst Ι;exact .same _
   | 2=>simp[θ.cells] at ο Ι;subst ο;subst Ι;exact .nil
   | x+3=>simp[θ.cells] at ο
  | i+1=>simp at U
 have iγ:(σ++[ez (.sl true 0 []) (.sl true 0 []) (.sl true 0 []),ez (aY s.ar) (aX s.az) (.sl true 0 [])]).length=n+2:=by simp[<-Θ]
 refine W.hΟ 60 1 (i:=n+1) (r:=ez (aY s.ar) (aX s.az) (.sl true 0 [])) (r':=ez (aY s.ar) (aX s.az) (.ms (n+2) 0 0 0)) (by rw[Ω];rfl) (by rw[iγ];exact iβ) [(1,.au [aY s.ar,aX s.az,bO s.cells]),(2,.ak n 1 0 0),(3,.ak (n+1) 1 0 0)] (λp ω=>by
  simp only[List.mem_cons,List.not_mem_nil,or_false] at ω;rcases ω with rfl|rfl|rfl<;>exact .same _) ?_
 rw[ξ,List.append_assoc];refine Η ?_;refine W.iter (λi:Nat=>i<=s.cells.length) (λi=>[(1,.au [aY s.ar,aX s.az,bO s.cells]),(2,.ak n 1 0 0),(3,.ak (n+1) 1 0 0),(4,I i)])
  (λi=>σ++(ez (.sl true 0 []) (.sl true 0 []) (.sl true 0 [])::ez (aY s.ar) (aX s.az) (.ms (n+2) i 0 i)::.cells 60 1 (gz (n+3) (s.cells.take i))::ho (s.cells.take i))) (λi=>s.cells.length-i) 0 (Nat.zero_le _) (by simp[gz,ho]) η (λi hi Α=>?_)
 refine Η ?_;refine W.ey rfl (λε=>?_) (λε=>?_)
 ·have ε:i<s.cells.length:=by simpa using ε
  have ω:s.cells[i].length<2 ^ 30:=ax _ (List.getElem_mem ε)
  have dI:s.cells.take (i+1)=s.cells.take i++[s.cells[i]]:=List.take_succ_eq_append_getElem ε
  have gT:=eX ε (show s.cells.length<2 ^ 62 by omega)
  have b3:=a6 ε;obtain⟨l,π⟩:=aF (s.cells[i]);have ot:∀h,s.cells[i]'h=l:=λh=>π.symm;rw[<-π] at dI b3 ω;have LD:(gz (n+3) (s.cells.take i)).length=i:=by rw[zM,List.length_take];omega
  have j6:(ho (s.cells.take i)).length=i:=by unfold ho;rw[List.length_map,List.length_take];omega
  have sR:=hΧ (n+3) (s.cells.take i) l
  have s5:ho (s.cells.take i++[l])=ho (s.cells.take i)++[.cells 28 3 (l.map dX)]:=by simp[ho]
  have Is:(s.cells.take i).length=i:=by rw[List.length_take];omega
  rw[Is] at sR;rw[<-dI] at sR s5;have Α:=Α (i+1) ε J;rw[sR,s5] at Α;obtain⟨M,db⟩:=aF (gz (n+3) (s.cells.take i));obtain⟨R,aM⟩:=aF (ho (s.cells.take i));rw[<-db] at LD Α ⊢;rw[<-aM] at j6 Α ⊢;clear db aM sR s5 dI π;have mΔ:∀x,(σ++(ez (.sl true 0 []) (.sl true 0 []) (.sl true 0 [])::ez (aY s.ar) (aX s.az) (.ms (n+2) (i+1) 0 (i+1))::.cells 60 1 (M++[x])::R))[n+2]?=some (.cells 60 1 (M++[x])):=λx=>by rw[Ω];rfl
  repeat apply ae
  refine W.SF [0,1] [8,9] [n+1] (A:=[28,30]) Φ mixed λΚ κ=>?_;simp[Θ.symm,Ω,oU,ξ,gF,ε,b3,ot,LD,j6]
  repeat (rw[SA];simp[Sy,seen,rI,Θ.symm,Ω,oU,ξ,gF,ε,b3,ot,LD,j6])
  try rw[Sz]
  refine⟨J,J,II (by kernel_rfl),κ _ _ ?_⟩;refine Η ?_;refine W.to Α ?_ (by simp[gT]);simp;omega
 ·have ε:i=s.cells.length:=by simp at ε;omega
  subst ε;refine W.exit rfl ?_;rw[List.take_length];obtain⟨M,db⟩:=aF (gz (n+3) s.cells);obtain⟨R,aM⟩:=aF (ho s.cells);have vY:M.length<=s.cells.length:=by rw[db,zM];exact Nat.le_refl _
  rw[<-db,<-aM]
  repeat apply ae
  refine W.gX (A:=[]) Φ [(2,.ak n 1 0 0)] (σ++(ez (aY s.ar) (aX s.az) (.ms (n+2) s.cells.length 0 s.cells.length)::ez (aY s.ar) (aX s.az) (.ms (n+2) s.cells.length 0 s.cells.length)::.cells 60 1 M::R)) ?_ (by
   (try simp);(repeat (rw[ah];simp[Θ.symm,Ω,oU,ξ,gF,vY]));(try simp[Θ.symm,Ω,oU,ξ,gF,vY]))
  refine W.vT (σ':=σ++(ez (aY s.ar) (aX s.az) (.ms (n+2) s.cells.length 0 s.cells.length)::.dead::.cells 60 1 M::R)) (id:=n+1) J (by rw[Ω];rfl) η (by rw[Ω];rfl) (λj r ζ μ=>⟨r,?_,.inl rfl⟩) [(2,.ak n 1 0 0)] (λp ω=>by simp at ω;subst ω;exact .same _) ?_
  ·by_cases e:j<n
   ·rw[dM J] at μ ⊢;exact μ
   ·obtain⟨k,rfl⟩:∃k,j=n+k:=⟨j-n,J⟩;rw[Ω] at μ ⊢
    match k,ζ,μ with
    | 0,_,μ=>exact μ
    | 1,h,_=>exact absurd rfl h
    | k+2,_,μ=>exact μ
  refine W.vT (σ':=σ++(.dead::.dead::.cells 60 1 M::R)) (id:=n) J (by rw[oU];rfl) η (by rw[oU];rfl) (λj r ζ μ=>⟨r,?_,.inl rfl⟩) [(2,.au [aY s.ar,aX s.az,.ms (n+2) s.cells.length 0 s.cells.length])] (λp ω=>by simp at ω;subst ω;exact .ak (e:=.a3 [aY s.ar,aX s.az,.ms (n+2) s.cells.length 0 s.cells.length]) rfl) ?_
  ·by_cases e:j<n
   ·rw[dM J] at μ ⊢;exact μ
   ·obtain⟨k,rfl⟩:∃k,j=n+k:=⟨j-n,J⟩;rw[Ω] at μ ⊢
    match k,ζ,μ with
    | 0,h,_=>exact absurd rfl h
    | k+1,_,μ=>exact μ
  exact W.ret ⟨_,rfl,rfl,rfl⟩
theorem iδ (s:aU) (h:s.small) {σ:ac} {K E:θ->ac->Prop} {qv:θ} (he:dD qv (fu s)) (hb:aG 0 qv) (κ:K (.a3 [aY s.ar,aX s.az,.ms (σ.length+2) s.cells.length 0 s.cells.length]) (σ++(.dead::.dead::.cells 60 1 (gz (σ.length+3) s.cells)::ho s.cells))) :
  hV Tryz.prog (.fn (.func 25) [] []) [qv] σ K E:=
 af.call (first:=[]) (captured:=[]) (af.mono (af.nG (iα s h σ) (b2.cons he .nil) (K':=λa r=>a=.a3 [aY s.ar,aX s.az,.ms (σ.length+2) s.cells.length 0 s.cells.length]/\r=σ++(.dead::.dead::.cells 60 1 (gz (σ.length+3) s.cells)::ho s.cells)) (λa s h=>⟨_,.refl _,h⟩)) (λa r ⟨Ζ,Ε⟩=>by rw[Ζ,Ε];exact κ) (λa s h=>h.elim))
end Go.TL
namespace Go.TL
open Go.Proofs
@[simp] theorem mΕ:jG .bool=true:=rfl
section
variable [bq]
theorem SI (b:Nat) (L:List (List cZ)) (j:Nat):(gz b L)[j]?=L[j]?.map λl=>.ms (b+j) l.length 0 l.length:=by
 induction L generalizing b j with
 | nil=>simp[gz]
 | cons l L Α=>
  cases j with
  | zero=>simp[gz]
  | succ j=>simp only[gz,List.getElem?_cons_succ];rw[Α,show b+1+j=b+(j+1) by omega]
theorem iε (b:Nat) (L:List (List cZ)) (c:Nat) (x:List cZ):gz b (L.set c x)=(gz b L).set c (.ms (b+c) x.length 0 x.length):=by
 induction L generalizing b c with
 | nil=>simp[gz]
 | cons l L Α=>
  cases c with
  | zero=>simp[gz]
  | succ c=>simp only[gz,List.set_cons_succ];rw[Α,show b+1+c=b+(c+1) by omega]
theorem iζ (L:List (List cZ)) (c:Nat) (x:List cZ):ho (L.set c x)=(ho L).set c (.cells 28 3 (x.map dX)):=by
 unfold ho;rw[List.map_set]
theorem SJ (L:List (List cZ)) (c:Nat):(ho L)[c]?=L[c]?.map λl=>.cells 28 3 (l.map dX):=by unfold ho;rw[List.getElem?_map]
theorem zN (L:List (List cZ)):(ho L).length=L.length:=by unfold ho;rw[List.length_map]
theorem iη {h b id:Nat} {σ:ac} {L:List (List cZ)} (hb:h<=b) (cb:h<=id) (μ:∀(j:Nat) (l:List cZ),L[j]?=some l->σ[b+j]?=some (.cells 28 3 (l.map dX))) (bX:σ[id]?=some (.cells 60 1 (gz b L))):eK h σ (.ms id L.length 0 L.length) (bO L):=by
 have key:∀(j:Nat) (e aP:θ),(gz b L)[0+j]?=some e->(L.map pd)[j]?=some aP->∃l:List cZ,L[j]?=some l/\e=.ms (b+j) l.length 0 l.length/\aP=pd l:=λj e aP U γ=>by
  rw[Nat.zero_add,SI] at U;rw[List.getElem?_map] at γ;cases π:L[j]? with
  | none=>rw[π] at U;cases U
  | some l=>rw[π] at U γ;cases U;cases γ;exact⟨l,rfl,rfl,rfl⟩
 refine .ms cb bX (zM b L) (by rw[Nat.zero_add];exact Nat.le_refl _) η (λj e aP U γ=>?_) (λj e aP U γ x a cj ο Ι=>?_)
 ·obtain⟨l,_,rfl,rfl⟩:=key j e aP U γ;rfl
 ·obtain⟨l,π,rfl,rfl⟩:=key j e aP U γ
  match x with
  | 0=>
   simp[θ.cells] at ο Ι;subst ο;subst Ι;refine eK.own J (μ j l π) η (λe he a ν=>?_);obtain⟨p,_,rfl⟩:=List.mem_map.1 he;simp[θ.cells] at ν;rcases ν with rfl|rfl|rfl<;>simp
  | x+1=>simp[θ.cells] at ο
end
end Go.TL
namespace Go.TL
open Go.Proofs
variable [bq]
theorem iθ {α:Type} [DecidableEq α] {R:α->α->Prop} (iι:∀a b,R a b->R b a->a=b):∀{l:List α} {a:α},(a::l).Pairwise R->(a::nK a l).Pairwise λx y=>R x y/\x≠y:=by
 intro l
 induction l with
 | nil=>intro a _;simp[nK]
 | cons b l Α=>
  intro a h;obtain⟨U,γ⟩:=List.pairwise_cons.1 h;unfold nK;split
  ·rename_i q;have q:b=a:=by simpa using q
   subst q;exact Α γ
  ·rename_i q;have q:¬b=a:=by simpa using q
   refine List.pairwise_cons.2 ⟨λy Μ=>?_,Α γ⟩;have hm:y∈b::l:=by
    rcases List.mem_cons.1 Μ with rfl|Μ
    ·simp
    ·rcases Sw.1 (.inl Μ) with h|rfl
     ·simp[h]
     ·simp
   refine⟨U y hm,λe=>?_⟩;subst e;rcases List.mem_cons.1 hm with e|hm
   ·exact q e.symm
   ·exact q (iι _ _ ((List.pairwise_cons.1 γ).1 _ hm) (U b η))
theorem LF {F:List Found} {c:Nat} {r:Int×Int}:r∈m9 F c↔∃f∈F,r∈CD f c:=by
 unfold m9;rw[hΝ,(List.mergeSort_perm _ _).mem_iff];exact List.mem_flatMap
theorem iκ (F:List Found) (c:Nat):(m9 F c).Pairwise λx y=>x.1<y.1\/(x.1=y.1/\x.2<y.2):=by
 have Bn:∀a b c:Int×Int,e7 a b=true->e7 b c=true->e7 a c=true:=λa b c h k=>by
  simp only[e7,qf] at *;simp at *;omega
 have Bo:∀a b:Int×Int,(e7 a b||e7 b a)=true:=λa b=>by
  simp only[e7,qf];simp;omega
 have ξ:=List.pairwise_mergeSort (le:=e7) Bn Bo (ko F c);unfold m9;obtain⟨L,ad⟩:=aF ((ko F c).mergeSort e7);rw[<-ad] at ξ ⊢;cases L with
 | nil=>exact .nil
 | cons a l=>
  refine(iθ (R:=λx y=>e7 x y=true) (λa b h k=>E8 a b (by simpa[e7] using k) (by simpa[e7] using h)) ξ).imp λ{x y} h=>?_;obtain⟨U,γ⟩:=h;simp only[e7,qf] at U;simp at U;by_cases e:x.1=y.1
  ·have:x.2≠y.2:=λΕ=>γ (Prod.ext e Ε);omega
  ·omega
theorem LG {s:aU} {c:Nat} (ε:c<s.cells.length) {r:Int×Int} (h:r∈m9 (cf s) c):(-1<=r.1/\r.1<s.ar.length)/\(-1<=r.2/\r.2<s.ar.length):=by
 obtain⟨f,Ρ,μ⟩:=LF.1 h;obtain⟨k,_,_,Ω,_⟩:=(GC Ρ).2 c ε;unfold CD at μ;rw[Ω] at μ;exact hΙ μ
theorem SK {s:aU} {c:Nat} (ε:c<s.cells.length) (Ι:s.ar.length<=4):(m9 (cf s) c).length<=25:=by
 have U:((m9 (cf s) c).map λr=>(r.1+1)*5+(r.2+1)).Pairwise (· < ·):=by
  rw[List.pairwise_map];refine List.Pairwise.imp_of_mem (λ{x y} δ Μ h=>?_) (iκ _ _);have:=LG ε δ;have:=LG ε Μ;omega
 have:=hΞ (n:=25) (a:=0) U λz Ψ=>by
  obtain⟨r,μ,rfl⟩:=List.mem_map.1 Ψ;have:=LG ε μ;omega
 rwa [List.length_map] at this
structure n3 (s x:aU):Prop where
 ar:x.ar=s.ar
 cells:x.cells.length=s.cells.length
 right:∀p r c,x.p1 p r c=true->s.p1 p r c=true
theorem n3.reads {s x:aU} (h:n3 s x) {p:Int×Int} {c:Nat} {r:Int×Int} (μ:r∈hH x p c):r∈hH s p c:=by
 unfold hH at *;rw[List.mem_filter] at *;rw[h.ar] at μ;exact⟨μ.1,h.right _ _ _ μ.2⟩
theorem n3.len {s x:aU} (h:n3 s x) (p:Int×Int) (c:Nat):(hH x p c).length<=(hH s p c).length:=by
 unfold hH;rw[h.ar,<-List.countP_eq_length_filter,<-List.countP_eq_length_filter];exact List.countP_mono_left λr _=>h.right p r c
theorem n3.many {s x:aU} (h:n3 s x) (p:Int×Int):(e8 x p).many (-1)<=(e8 s p).many (-1):=by
 rw[Cw,Cw,h.cells];have key:∀n,n<=s.cells.length->hG (e8 x p).cells (-1) n<=hG (e8 s p).cells (-1) n:=by
  intro n
  induction n with
  | zero=>intro _;simp[hG]
  | succ n Α=>
   intro Θ;rw[Gr p (by rw[h.cells];omega),Gr p J];exact Nat.mul_le_mul (Α J) (h.len p n)
 exact key _ (Nat.le_refl _)
theorem n3.count {s x:aU} (h:n3 s x):fR (cf x)<=fR (cf s):=by
 rw[Cv,Cv];have:=h.many (eb 0);have:=h.many (eb 1);have:=h.many (eb 2);rw[rH,rH,rH,rH,rH,rH];have e:∀s,vU s 0=0:=λs=>rfl;rw[e,e];omega
theorem n3.mem {s x:aU} (h:n3 s x) {f:Found} (Ρ:f∈cf x):∃k,k<3/\f=e8 x (eb k)/\e8 s (eb k)∈cf s:=by
 obtain⟨k,ψ,hm,rfl⟩:=xV.1 Ρ;exact⟨k,ψ,rfl,xV.2 ⟨k,ψ,Nat.lt_of_lt_of_le hm (h.many _),rfl⟩⟩
theorem n3.inks {s x:aU} (h:n3 s x) {y:List Int} (Μ:y∈hr (cf x)):y∈hr (cf s):=by
 unfold hr at *;obtain⟨f,Ρ,rfl⟩:=List.mem_map.1 Μ;obtain⟨k,ψ,rfl,Ω⟩:=h.mem Ρ;exact List.mem_map.2 ⟨_,Ω,rfl⟩
theorem n3.readings {s x:aU} (h:n3 s x) {c:Nat} {r:Int×Int} (μ:r∈m9 (cf x) c):r∈m9 (cf s) c:=by
 obtain⟨f,Ρ,μ⟩:=LF.1 μ;obtain⟨k,ψ,rfl,Ω⟩:=h.mem Ρ;refine LF.2 ⟨_,Ω,?_⟩;unfold CD e8 at *;simp only[List.getElem?_map,List.getElem?_range',List.range_eq_range'] at *;rw[h.cells] at μ;cases ε:(List.range' 0 s.cells.length)[c]? with
 | none=>rw[ε] at μ;simp at μ
 | some j=>
  rw[ε] at μ;simp only[Option.map_some,Option.getD_some] at μ ⊢;exact h.reads μ
theorem SL (s:aU):cf s=[]↔fR (cf s)=0:=by
 constructor
 ·intro h;rw[h];rfl
 ·intro h;rw[Cv,rH,rH,rH] at h;refine List.eq_nil_iff_forall_not_mem.2 λf Ρ=>?_;obtain⟨k,ψ,hm,_⟩:=xV.1 Ρ;obtain rfl|rfl|rfl:k=0\/k=1\/k=2:=J
  all_goals omega
def aU.put (s:aU) (c:Nat) (l:List cZ):aU:=⟨s.ar,s.az,s.cells.set c l⟩
theorem iμ {s:aU} (h:je s) {c:Nat} {l:List cZ} (π:oK s.az.length l):je (s.put c l) where
 ar:=h.ar
 az:=h.az
 many:=by show(s.cells.set c l).length<=4;rw[List.length_set];exact h.many
 cells d hd:=by
  rcases List.mem_or_eq_of_mem_set hd with hd|rfl
  ·exact h.cells d hd
  ·exact π
theorem iν {s:aU} {c:Nat} {l l0:List cZ} (ε:s.cells[c]?=some l0) (h:∀p r,l.all (s.kH p r)=true->l0.all (s.kH p r)=true):n3 s (s.put c l) where
 ar:=rfl
 cells:=by show(s.cells.set c l).length=_;rw[List.length_set]
 right p r d:=by
  have aN:=(b0.1 ε).1;unfold aU.p1;show(((s.cells.set c l)[d]?).getD []).all (s.kH p r)=true->_;by_cases e:c=d
  ·subst e;rw[List.getElem?_set_self aN,ε];exact h p r
  ·rw[List.getElem?_set_ne e];exact id
theorem bits_nat:∀a<64,∀b<64,fB .i64 (a:Nat) (b:Nat)=((a|||b:Nat):Int)/\eP .i64 (a:Nat) (b:Nat)=((a&&&(63^^^b):Nat):Int)/\eG .i64 (a:Nat) (b:Nat)=((a&&&b:Nat):Int):=by decide +kernel
theorem SM:∀a<64,∀b<64,(a&&&(63^^^b))&&&b=0/\b&&&(a&&&(63^^^b))=0/\a&&&(63^^^b)<64:=by decide +kernel
theorem GF {a b:Nat} (ν:a<64) (hb:b<64):a|||b<64:=Nat.or_lt_two_pow (n:=6) ν hb
theorem iξ {a b v:Int} (ν:0<=a/\a<=63) (hb:0<=b/\b<=63) (hv:0<=v/\v<=63) (h:eP .i64 (fB .i64 a b) v=0):eP .i64 a v=0:=by
 obtain⟨x,rfl⟩:∃x:Nat,a=x:=⟨a.toNat,J⟩;obtain⟨y,rfl⟩:∃y:Nat,b=y:=⟨b.toNat,J⟩;obtain⟨z,rfl⟩:∃z:Nat,v=z:=⟨v.toNat,J⟩;have δ:x<64:=J;have Μ:y<64:=J;have Ψ:z<64:=J;rw[(bits_nat x δ y Μ).1,(bits_nat _ (GF δ Μ) z Ψ).2.1,Nat.and_or_distrib_right] at h;rw[(bits_nat x δ z Ψ).2.1];have:=@Nat.left_le_or (x&&&(63^^^z)) (y&&&(63^^^z));omega
theorem iο {a b v:Int} (ν:0<=a/\a<=63) (hb:0<=b/\b<=63) (hv:0<=v/\v<=63) (h:eG .i64 v (fB .i64 a b)=0):eG .i64 v a=0:=by
 obtain⟨x,rfl⟩:∃x:Nat,a=x:=⟨a.toNat,J⟩;obtain⟨y,rfl⟩:∃y:Nat,b=y:=⟨b.toNat,J⟩;obtain⟨z,rfl⟩:∃z:Nat,v=z:=⟨v.toNat,J⟩;have δ:x<64:=J;have Μ:y<64:=J;have Ψ:z<64:=J;rw[(bits_nat x δ y Μ).1,(bits_nat z Ψ _ (GF δ Μ)).2.2,Nat.and_or_distrib_left] at h;rw[(bits_nat z Ψ x δ).2.2];have:=@Nat.left_le_or (z&&&x) (z&&&y);omega
theorem iπ {s b n o:Int} (ξ:0<=s/\s<=63) (hb:0<=b/\b<=63) (Θ:0<=n/\n<=63) (Β:0<=o/\o<=63) (h:eG .i64 s b=0) :
  (0<=fB .i64 s (eP .i64 n b)/\fB .i64 s (eP .i64 n b)<=63)/\(0<=fB .i64 b (eP .i64 o (fB .i64 s (eP .i64 n b)))/\fB .i64 b (eP .i64 o (fB .i64 s (eP .i64 n b)))<=63)/\
   (0<=eP .i64 n b/\eP .i64 n b<=63)/\(0<=eP .i64 o (fB .i64 s (eP .i64 n b))/\eP .i64 o (fB .i64 s (eP .i64 n b))<=63)/\
   eG .i64 (fB .i64 s (eP .i64 n b)) (fB .i64 b (eP .i64 o (fB .i64 s (eP .i64 n b))))=0:=by
 obtain⟨x,rfl⟩:∃x:Nat,s=x:=⟨s.toNat,J⟩;obtain⟨y,rfl⟩:∃y:Nat,b=y:=⟨b.toNat,J⟩;obtain⟨z,rfl⟩:∃z:Nat,n=z:=⟨n.toNat,J⟩;obtain⟨w,rfl⟩:∃w:Nat,o=w:=⟨o.toNat,J⟩;have δ:x<64:=J;have Μ:y<64:=J;have Ψ:z<64:=J;have hw:w<64:=J;obtain⟨bI,bw,Ce⟩:=SM z Ψ y Μ;rw[(bits_nat z Ψ y Μ).2.1];obtain⟨u,hu⟩:=aF (z&&&(63^^^y));rw[<-hu] at bI bw Ce ⊢;rw[(bits_nat x δ u Ce).1];have eC:=GF δ Ce;obtain⟨t,Υ⟩:=aF (x|||u);rw[<-Υ] at eC ⊢;obtain⟨v1,v2,rv⟩:=SM w hw t eC;rw[(bits_nat w hw t eC).2.1];obtain⟨v,hv⟩:=aF (w&&&(63^^^t));rw[<-hv] at v1 v2 rv ⊢;rw[(bits_nat y Μ v rv).1];have dV:=GF Μ rv;rw[(bits_nat t eC _ dV).2.2,Nat.and_or_distrib_left,v2,Υ,Nat.and_or_distrib_right,bI];rw[(bits_nat x δ y Μ).2.2] at h;have ao:x&&&y=0:=J;rw[ao];rw[<-Υ];refine⟨J,J,J,J,rfl⟩
theorem iρ (F:List Found) (c:Nat):gH F c true=(ko F c).map (lK true):=by
 unfold gH ko;rw[List.map_flatMap];rfl
theorem iς {s:aU} (h:je s) (eI:cf s≠[]) {c:Nat} (ε:c<s.cells.length):(cf s).length<2 ^ 20/\(∀f∈cf s,c<f.cells.length/\∀d∈f.cells,d.length<2 ^ 20)/\ko (cf s) c≠[]/\(ko (cf s) c).length<=255:=by
 have U:=hΜ h eI true
 have γ:=Su (lower:=true) ε eI
 have ο:=Sv h c true ε;rw[iρ] at γ ο;rw[List.length_map] at ο;refine⟨U.nM,λf Ρ=>⟨by rw[(U.cells f Ρ).1];exact ε,(U.cells f Ρ).2⟩,λe=>γ (by rw[e];rfl),J⟩
theorem SN {s:aU} (h:je s) {c:Nat} (ε:c<s.cells.length):uA s (cf s) c=if cf s=[] then([],9) else(m9 (cf s) c,0):=by
 have e:(ja s c (cf s)).2.2=if cf s=[] then 9 else 0:=by
  unfold ja;rw[if_neg (by rw[h.err];simp),if_neg J];unfold fa;rw[if_neg (by rw[h.err];simp)];by_cases q:cf s=[]
  ·rw[if_pos ⟨rfl,q⟩,if_pos q]
  ·rw[if_neg (λh=>q h.2),if_neg q]
 unfold uA;rw[e];by_cases q:cf s=[]
 ·rw[if_pos q,if_pos q];rfl
 ·rw[if_neg q,if_neg q];rfl
theorem SO {s:aU} (h:je s) {c:Nat} (ε:c<s.cells.length) (Ν:qa s (cf s)):aB Tryz.prog 62 [fu s,I c] (.bj [vX (uA s (cf s) c).1,I (uA s (cf s) c).2]):=
 hΕ s h.small _ Ν c 255 br fΥ λe=>by
  have eI:cf s≠[]:=λq=>by
   unfold ja at e;rw[if_neg (by rw[h.err];simp),if_neg J] at e;unfold fa at e;rw[if_neg (by rw[h.err];simp),if_pos ⟨rfl,q⟩] at e;cases e
  rw[Int.toNat_natCast];exact iς h eI ε
theorem iτ (l:List (Int×Int)):dD (vX l) (aX (l.map λx=>[x.1,x.2])):=by
 refine .sl η λi a b U γ=>?_;rw[List.getElem?_map] at U γ;rw[List.getElem?_map] at γ;cases δ:l[i]? with
 | none=>rw[δ] at U;cases U
 | some x=>rw[δ] at U γ;cases U;cases γ;exact .one .ex rfl rfl
theorem iυ {l:List (Int×Int)} {r:Int×Int} (h:r∈l):(l.map λx=>[x.1,x.2]).contains [r.1,r.2]=true:=List.contains_iff_mem.2 (List.mem_map.2 ⟨r,h,rfl⟩)
end Go.TL
