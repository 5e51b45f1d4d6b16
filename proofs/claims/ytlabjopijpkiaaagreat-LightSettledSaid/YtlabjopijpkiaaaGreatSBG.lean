/- LightSettled: for every list of numbers the law returns true. No conditions. -/
import Derived.Carry
import Derived.ChangeSlices
import Derived.Conc.HoldsTime
import Derived.KernelRfl
import Derived.OpenShut
import Derived.Test.YtlabjopijpkiaaaGreatSBA
import Derived.Test.YtlabjopijpkiaaaGreatSBF
import Derived.Test.YtlabjopijpkiaaaGreatRows
set_option maxHeartbeats 16000000
set_option maxRecDepth 20000
set_option linter.unusedSectionVars false
set_option linter.unusedSimpArgs false
set_option linter.unusedVariables false
namespace Go.TL
open Go.Proofs
variable [bm]
theorem SJ {s:aL} (ο:gX s) {p r:Int×Int} (ψ:0<=p.2/\p.2<p.1/\p.1<=2) (μ:(-1<=r.1/\r.1<s.ae.length)/\(-1<=r.2/\r.2<s.ae.length)) {n:Nat} (Η:n<s.ai.length):oA s [p.1,p.2] [r.1,r.2] n=(s.di p r n,0):=by
 unfold oA;rw[if_neg (by rw[ο.err];simp)];simp only;rw[if_neg,if_neg (by omega)]
 ·simp
 ·simp only[j6,aL.hx,Bool.and_eq_false_iff,Bool.or_eq_true,decide_eq_false_iff_not,decide_eq_true_eq];omega
def F4 (s:aL) (x:fQ):Prop:=(0<=x.1.2/\x.1.2<x.1.1/\x.1.1<=2)/\∀r∈x.2,(-1<=r.1/\r.1<s.ae.length)/\(-1<=r.2/\r.2<s.ae.length)
theorem hΞ (s:aL) (ο:gX s) (x y:fQ) (U:F4 s x) (Ξ:F4 s y) (c:Nat) (F5:c<x.2.length) (F6:c<y.2.length) (L:List Nat) (aC:∀k∈L,k<s.ai.length) (jH:L.length<2 ^ 30) :
  ay Tryz.prog 36 [eV s,iL x,iL y,R c,jk L] (.bn [a4 (tq s x y c L),a4 true]):=by
 obtain⟨p,xs⟩:=x;obtain⟨q,b5⟩:=y;obtain⟨ψ,SK⟩:=U;obtain⟨Ρ,SL⟩:=Ξ;simp only at ψ SK Ρ SL F5 F6;have B2:=SK _ (List.getElem_mem F5);have SM:=SL _ (List.getElem_mem F6);have yR:tp (p,xs) c=xs[c]:=by simp[tp,F5]
 have tK:tp (q,b5) c=b5[c]:=by simp[tp,F6]
 obtain⟨r,μ⟩:∃r,r=xs[c]:=⟨_,rfl⟩;obtain⟨t,Ο⟩:∃t,t=b5[c]:=⟨_,rfl⟩;rw[<-μ] at B2 yR;rw[<-Ο] at SM tK;have gn:(fP xs)[c]?=some [r.1,r.2]:=by rw[List.getElem?_map,aW F5,μ];rfl
 have qB:(fP b5)[c]?=some [t.1,t.2]:=by rw[List.getElem?_map,aW F6,Ο];rfl
 have tk:(fP xs).length=xs.length:=by simp
 have hΟ:(fP b5).length=b5.length:=by simp
 have jG:tq s (p,xs) (q,b5) c L=(decide (r.2≠t.2)&&L.all λk=>decide (s.di p r k=s.di q t k)):=by unfold tq;rw[yR,tK]
 rw[jG];show ay _ _ [eV s,.aS [aP R 1 [p.1,p.2],aI (fP xs)],.aS [aP R 1 [q.1,q.2],aI (fP b5)],R c,jk L] _;obtain⟨X,yJ⟩:∃X,X=fP xs:=⟨_,rfl⟩;obtain⟨Y,SN⟩:∃Y,Y=fP b5:=⟨_,rfl⟩;rw[<-yJ] at gn tk ⊢;rw[<-SN] at qB hΟ ⊢;have yL:∀h,X[c]'h=[r.1,r.2]:=λh=>by rw[aW h] at gn;simpa using gn
 have SO:∀h,Y[c]'h=[t.1,t.2]:=λh=>by rw[aW h] at qB;simpa using qB
 have SP:c<X.length:=by omega
 have SQ:c<Y.length:=by omega
 clear μ Ο yR tK yJ SN jG;refine ak.body Ι Tryz.func36 rfl rfl Tryz.ntmps36 rfl rfl (by simp) ?_;(repeat (first|apply κ|(refine ν λη I=>?_;simp;(repeat (rw[δ];simp));apply I)))
 repeat apply κ
 refine W.yw (A:=[]) Ι mixed [(31,a4 (decide (r.2=t.2))),(4,jk L),(3,R c),(5,.Ψ [aO s.ae,aI s.ai,bf s.cells]),(6,.Ψ [aP R 1 [p.1,p.2],aI X]),(7,.Ψ [aP R 1 [q.1,q.2],aI Y]),(10,a4 false),(11,a4 false)] [] ?_ (by
  simp;(repeat (rw[ba];simp[gn,yL,qB,SO,SP,SQ]));(try rw[a']);refine⟨bK (by kernel_rfl),?_⟩;simp)
 by_cases u3:r.2=t.2
 ·refine aj (by simp[u3]) ?_;(repeat (first|apply κ|(refine ν λη I=>?_;simp;(repeat (rw[δ];simp));apply I)));refine W.ret ⟨_,rfl,?_,rfl⟩;exact .bn (.cons (.of (by simp[u3])) (.cons (.refl _) .nil))
 refine ah (by simp[u3]) ?_;(repeat (first|apply κ|(refine ν λη I=>?_;simp;(repeat (rw[δ];simp));apply I)));refine W.iter (λi:Nat=>i<=L.length/\∀j,j<i->(h:j<L.length)->s.di p r L[j]=s.di q t L[j]) (λi=>[(4,jk L),(3,R c),(5,.Ψ [aO s.ae,aI s.ai,bf s.cells]),(6,.Ψ [aP R 1 [p.1,p.2],aI X]),(7,.Ψ [aP R 1 [q.1,q.2],aI Y]),(12,R i)]) (λ_=>[]) (λi=>L.length-i) 0 ⟨Nat.zero_le _,λj ε=>by omega⟩ rfl (by simp) (λi hi Δ=>?_);obtain⟨mJ,jR⟩:=hi;(repeat (first|apply κ|(refine ν λη I=>?_;simp;(repeat (rw[δ];simp));apply I)));by_cases w9:i<L.length
 ·refine aj (by simp[w9]) ?_;have Ln:=aC _ (List.getElem_mem w9);have Lo:=aW w9;obtain⟨n,Η⟩:∃n,n=L[i]:=⟨_,rfl⟩;rw[<-Η] at Ln Lo;have SR:∀h,L[i]'h=n:=λh=>Η.symm;have mH:=Fc s ο.small [p.1,p.2] [r.1,r.2] n;have nE:=Fc s ο.small [q.1,q.2] [t.1,t.2] n;rw[SJ ο ψ B2 Ln] at mH;rw[SJ ο Ρ SM Ln] at nE;obtain⟨v1,Ζ⟩:∃v,v=s.di p r n:=⟨_,rfl⟩;obtain⟨v2,Ε⟩:∃v,v=s.di q t n:=⟨_,rfl⟩;rw[<-Ζ] at mH;rw[<-Ε] at nE;have iZ:=gY (i:=i) (by omega)
  repeat apply κ
  refine W.yw (A:=[]) Ι mixed [(4,jk L),(3,R c),(5,.Ψ [aO s.ae,aI s.ai,bf s.cells]),(6,.Ψ [aP R 1 [p.1,p.2],aI X]),(7,.Ψ [aP R 1 [q.1,q.2],aI Y]),(12,R i),(13,R v1),(14,R 0)] [] ?_ (by
   simp;(repeat (rw[ba];simp[gn,yL,SP,Lo,SR,w9]));(try rw[a']);refine fI (ay.p mH (aK.refl _) (by simp) (by simp)) ?_;simp;(repeat (rw[ba];simp));(try rw[a']);refine⟨bK (by kernel_rfl),?_⟩;simp)
  repeat apply κ
  refine W.yw (A:=[]) Ι mixed [(4,jk L),(3,R c),(5,.Ψ [aO s.ae,aI s.ai,bf s.cells]),(6,.Ψ [aP R 1 [p.1,p.2],aI X]),(7,.Ψ [aP R 1 [q.1,q.2],aI Y]),(12,R i),(13,R v1),(14,R 0),(15,R v2),(16,R 0)] [] ?_ (by
   simp;(repeat (rw[ba];simp[qB,SO,SQ,Lo,SR,w9]));(try rw[a']);refine fI (ay.p nE (aK.refl _) (by simp) (by simp)) ?_;simp;(repeat (rw[ba];simp));(try rw[a']);refine⟨bK (by kernel_rfl),?_⟩;simp)
  (repeat (first|apply κ|(refine ν λη I=>?_;simp;(repeat (rw[δ];simp));apply I)));refine ah rfl ?_;(repeat (first|apply κ|(refine ν λη I=>?_;simp;(repeat (rw[δ];simp));apply I)));by_cases hv:v1=v2
  ·refine ah (by simp[hv]) ?_;(repeat (first|apply κ|(refine ν λη I=>?_;simp;(repeat (rw[δ];simp[iZ]));apply I)));refine W.to (Δ (i+1) ⟨w9,λj ε h=>?_⟩ (by omega)) rfl (by simp);by_cases sN:j=i
   ·subst sN;rw[<-Η,<-Ζ,<-Ε,hv]
   ·exact jR j (by omega) h
  ·refine aj (by simp[hv]) ?_;(repeat (first|apply κ|(refine ν λη I=>?_;simp;(repeat (rw[δ];simp));apply I)));refine W.ret ⟨_,rfl,?_,rfl⟩;refine .bn (.cons (.of ?_) (.cons (.refl _) .nil));have:(L.all λk=>decide (s.di p r k=s.di q t k))=false:=List.all_eq_false.2 ⟨n,by rw[Η];exact List.getElem_mem _,by rw[<-Ζ,<-Ε];simp[hv]⟩;rw[this];simp
 ·refine ah (by simp[w9]) ?_;refine W.exit rfl ?_;(repeat (first|apply κ|(refine ν λη I=>?_;simp;(repeat (rw[δ];simp));apply I)));refine W.ret ⟨_,rfl,?_,rfl⟩;refine .bn (.cons (.of ?_) (.cons (.refl _) .nil));have:(L.all λk=>decide (s.di p r k=s.di q t k))=true:=List.all_eq_true.2 λk χ=>by
   obtain⟨j,ε,rfl⟩:=List.getElem_of_mem χ;simpa using jR j (by omega) ε
  rw[this];simp[u3]
theorem Lp {n:Nat} {r:Int×Int}:r∈Aq n↔(-1<=r.1/\r.1<n)/\(-1<=r.2/\r.2<n):=by
 unfold Aq oq lU;simp only[List.mem_flatMap,List.mem_map,List.mem_range];constructor
 ·rintro⟨x,U,y,Ξ,rfl⟩;simp only;omega
 ·rintro⟨⟨J,γ⟩,π,Μ⟩;exact⟨(r.1+1).toNat,by omega,(r.2+1).toNat,by omega,Prod.ext (by simp only;omega) (by simp only;omega)⟩
theorem hΡ {s:aL} (h:gX s):Au s (eX s):=by
 have Μ:=h.many;refine⟨by have:=gΗ s;omega,λf Φ=>?_,λf Φ=>?_,?_⟩
 ·obtain⟨k,_,_,rfl⟩:=KO.1 Φ;refine⟨by simp[fC],λc ζ=>⟨by have:=RY h (cS k) c ζ;omega,λr μ=>?_⟩⟩;obtain⟨i,_,rfl⟩:=List.mem_map.1 ζ;have:=Lp.1 (List.mem_filter.1 μ).1;omega
 ·obtain⟨k,_,_,rfl⟩:=KO.1 Φ;have ω:(fC s (cS k)).cells.length=s.cells.length:=by simp[fC]
  refine⟨by omega,λgQ i hi=>by have:=KN h (cS k) gQ (i:=i) (by omega);omega⟩
 ·rw[gΘ];have:=gΚ h 3;omega
theorem Lq {s:aL} (h:s.ae.length<=3) (p:Int×Int) (c:Nat):(ff s p c).length<=16:=by
 have J:=Kk (λr=>s.mM p r c) s.ae.length (s.ae.length+1) 0;rw[Ei] at J;have π:(s.ae.length+1)*(s.ae.length+1)<=4*4:=Nat.mul_le_mul (by omega) (by omega);unfold ff;omega
theorem hΤ {s:aL} (h:s.ae.length<=3):(r5 s).length<=48:=by
 have ag:=Lq h (cS 0) 0
 have J:=Lq h (cS 1) 0
 have γ:=Lq h (cS 2) 0
 have μ:List.range 3=[0,1,2]:=rfl;unfold r5;rw[μ];simp only[List.flatMap_cons,List.flatMap_nil,List.length_append,List.length_map,List.length_nil];omega
theorem hΥ {s:aL} {e:tn} (he:e∈r5 s):F4 s (e.1,[e.2]):=by
 obtain⟨k,χ,he⟩:=List.mem_flatMap.1 he;obtain⟨r,μ,rfl⟩:=List.mem_map.1 he;refine⟨RX k (List.mem_range.1 χ),λx U=>?_⟩;simp at U;subst U;exact Lp.1 (List.mem_filter.1 μ).1
theorem hΦ {fO:Nat} {s:aL} {p:Int×Int} {rd:List (Int×Int)} (h:KQ fO 1 s p rd) (J:s.cells.length=1):eX s≠[]:=by
 obtain⟨k,χ,rfl⟩:=h.gΟ;have ω:=h.len;have Υ:rd[0]?=some (rd[0]'(by omega)):=aW (by omega);have hb:=h.each _ (ck Υ);have μ:=h.right 0 _ Υ;have hm:rd[0]'(by omega)∈ff s (cS k) 0:=List.mem_filter.2 ⟨Lp.2 hb,μ⟩;have ψ:0<(ff s (cS k) 0).length:=List.length_pos_of_mem hm;have:fC s (cS k)∈eX s:=KO.2 ⟨k,χ,by
  rw[KP,J,R0 _ (by omega)];exact Nat.mul_pos (by simp[ig]) ψ,rfl⟩
 intro Η;rw[Η] at this;cases this
def F7:Option (List Nat)->List Int×Int
 | some l=>(l.map λn:Nat=>(n:Int),0)
 | none=>([],11)
theorem hΧ {s:aL} (ο:gX s) (J:s.cells.length=1) (gu:eX s≠[]):rP s (eX s) 0 true=F7 ((h1 s.ai.length 0).find? (lX s (eX s) 0 true)):=by
 have hi:(mP s 0 (eX s)).2.2=0:=by
  unfold mP;rw[if_neg (by rw[ο.err];simp),if_neg (by omega)];unfold fM;rw[if_neg (by rw[ο.err];simp),if_neg (λh=>gu h.2)]
 unfold rP;rw[if_neg (by rw[hi];simp)];rw[show((0:Int).toNat)=0 from rfl];cases (h1 s.ai.length 0).find? (lX s (eX s) 0 true)<;>rfl
end Go.TL
namespace Go.TL
open Go.Proofs
theorem hΨ (l:List Int) (ω:l.length<2 ^ 63):@W oy Tryz.prog 0 129 [.code (Tryz.f5.body.getD .skip)] (entry 0 [aP R 1 l]) [] (λj env _=>(∃k,j=.code .ret::k)/\a3 env 2=a4 true) (λ_ _ _=>False):=by
 letI:bm:=oy;show W Tryz.prog 0 129 [.code _] _ _ _ _;refine W.seq ?_
 repeat apply κ
 refine ν λη I=>?_;simp;(repeat (rw[δ];simp));apply I;(repeat apply κ);refine dw (A:=[3]) Ι λη I=>?_;simp;(repeat (rw[δ];simp));refine ak.call (first:=[]) (captured:=[]) ((gΙ l).mono (λa s ⟨J,γ⟩=>?_) (λ_ _ h=>h.elim));subst J;subst γ;simp;(repeat (rw[δ];simp));have SS:(⟨l,1⟩:cx).bg.length<2 ^ 63:=ω;generalize (⟨l,1⟩:cx)=d0 at SS;refine uU.c (gΥ d0 SS 3 1 (by decide) (by decide) (by decide)) 0 rfl (aK.refl _) (by simp) (by
  rintro r ⟨s,p,rd,rfl,_⟩;simp[fZ,θ.cells]) ?_
 rintro r d1 ⟨s,p,rd,rfl,hw⟩ j8;simp;(repeat (rw[δ];simp));apply I;clear I η;refine W.pk (σ0:=[b6 d1]) (Nat.zero_le _) (λr μ=>by simp at μ;subst μ;exact wS d1 _) (λa ξ=>by simp[θ.cells] at ξ;rcases ξ with rfl|rfl|rfl<;>simp[fZ,θ.cells]) [(3,.Ψ [aO s.ae,aI s.ai,bf s.cells])] (by simp[kU,θ.cells,fZ]) ?_;have ο:=hw.gΡ;have sj:=ο.small;have ns:=hw.many;have Fq:=ο.ai.hi;(repeat (first|apply κ|(refine ν λη I=>?_;simp;(repeat (rw[δ];simp));apply I)));by_cases Θ:s.cells.length=0
 ·refine aj (by simp[dp.1 Θ]) ?_;(repeat apply κ);refine ν λη I=>?_;simp;(repeat (rw[δ];simp));refine ay.c (JR) (aK.refl _) (by simp) (by simp) ?_;simp;(repeat (rw[δ];simp));apply I;exact W.stop ⟨⟨_,rfl⟩,rfl⟩
 have jY:¬s.cells=[]:=λh=>Θ (by rw[h];rfl);refine ah (by simp[jY]) ?_;have J:s.cells.length=1:=by omega
 have gu:=hΦ hw J
 have oX:=hΑ s ο
 have hΩ:(jT s 3).length<=48:=by rw[Lm ο J,List.length_map];exact hΤ hw.rv
 have Lr:∀x∈jT s 3,F4 s x/\x.2.length=1:=λx U=>by
  rw[Lm ο J] at U;obtain⟨e,he,rfl⟩:=List.mem_map.1 U;exact⟨hΥ he,rfl⟩
 have nZ:=Qd s sj (eX s) (gΖ ο) (hΡ ο) 0 true (by omega);rw[hΧ ο J gu] at nZ;have hV:=λL=>hΚ ο J L;obtain⟨P,dA⟩:∃P,P=lX s (eX s) 0 true:=⟨_,rfl⟩;rw[<-dA] at nZ;simp only[<-dA] at hV;clear dA;obtain⟨n,Η⟩:∃n,n=s.ai.length:=⟨_,rfl⟩;rw[<-Η] at nZ Fq;have SU:=hΝ (P:=P) (n:=n) (by omega);have xa:=λm i c=>hΜ (P:=P) (n:=n) (m:=m) (i:=i) (c:=c) (by omega);obtain⟨iα,Ls⟩:∃x,x=(h1 n 0).find? P:=⟨_,rfl⟩;rw[<-Ls] at nZ SU;simp only[<-Ls] at xa;clear Ls;obtain⟨iβ,xb⟩:∃x:List Int×Int,x=F7 iα:=⟨_,rfl⟩;rw[<-xb] at nZ;obtain⟨T,Κ⟩:∃T,T=jT s 3:=⟨_,rfl⟩;rw[<-Κ] at oX hΩ Lr;simp only[<-Κ] at hV;clear Κ;have iγ:decide (T.length<=400)=true:=by simp;omega
 rw[iγ] at oX;have SV:(T.map iL).length=T.length:=List.length_map _;obtain⟨oH,eE⟩:=iβ;simp only at nZ;(repeat apply κ);refine ν λη I=>?_;simp;(repeat (rw[δ];simp));refine ay.c (oX) (aK.refl _) (by simp) (by simp) ?_;simp;(repeat (rw[δ];simp));apply I;have mφ:¬(100:Int)<T.length:=by omega
 (repeat (first|apply κ|(refine ν λη I=>?_;simp;(repeat (rw[δ];simp));apply I)));refine ah (by simp;omega) ?_;(repeat apply κ);refine ν λη I=>?_;simp;(repeat (rw[δ];simp));refine ay.c (nZ) (aK.refl _) (by simp) (by simp) ?_;simp;(repeat (rw[δ];simp));apply I;(repeat (first|apply κ|(refine ν λη I=>?_;simp;(repeat (rw[δ];simp));apply I)));refine W.iter (λm:Nat=>m<=n+1/\∀j,j<m->∀c∈gp n j,P c=false) (λm=>[(3,.Ψ [aO s.ae,aI s.ai,bf s.cells]),(6,jl T),(9,aP R 1 oH),(10,R eE),(11,R m)]) (λ_=>[b6 d1]) (λm=>n+1-m) 0 ⟨Nat.zero_le _,λj ε=>by omega⟩ rfl (by simp) (λm hm Δ=>?_);obtain⟨hX,hY⟩:=hm;have oc:s.ai.length=n:=Η.symm;(repeat (first|apply κ|(refine ν λη I=>?_;simp;(repeat (rw[δ];simp[oc]));apply I)));by_cases mr:m<=n
 ·have mχ:(m:Int)<=n:=by omega
  refine aj (by simp[mr]) ?_;have ml:=fυ n m (by omega) (by omega) (λi hi=>SE n (by omega) i (by omega)) (λi hi=>by have:=SF n (by omega) i (by omega);omega);have xa:=λi c=>xa m i c mr hY;have wx:=Kp n m;have Br:=SE n (by omega) m (by omega);have Ks:=SF n (by omega) m (by omega);obtain⟨C,hC⟩:∃C,C=gp n m:=⟨_,rfl⟩;rw[<-hC] at ml wx Br Ks;simp only[<-hC] at xa;have iδ:=gY (i:=m) (by omega);(repeat apply κ);refine ν λη I=>?_;simp;(repeat (rw[δ];simp[oc]));refine ay.c (ml) (aK.refl _) (by simp) (by simp) ?_;simp;(repeat (rw[δ];simp));apply I;(repeat (first|apply κ|(refine ν λη I=>?_;simp;(repeat (rw[δ];simp));apply I)));refine W.iter (λi:Nat=>i<=C.length/\∀k,k<i->∀d,C[k]?=some d->P d=false) (λi=>[(3,.Ψ [aO s.ae,aI s.ai,bf s.cells]),(6,jl T),(9,aP R 1 oH),(10,R eE),(11,R m),(12,uX C),(13,R i)]) (λ_=>[b6 d1]) (λi=>C.length-i) 0 ⟨Nat.zero_le _,λk χ=>by omega⟩ rfl (by simp) (λi hi fK=>?_);obtain⟨mJ,jR⟩:=hi;(repeat (first|apply κ|(refine ν λη I=>?_;simp;(repeat (rw[δ];simp));apply I)));by_cases nN:i<C.length
  ·refine aj (by simp[nN]) ?_;have uZ:=aW nN;have ki:=List.getElem_mem nN;obtain⟨c,ζ⟩:∃c,c=C[i]:=⟨_,rfl⟩;rw[<-ζ] at uZ ki;have SW:∀h,C[i]'h=c:=λh=>ζ.symm;have bP:=wx c ki;have kH:=Br c ki;have iZ:=gY (i:=i) (by omega);have hV:=hV c;have xa:=xa i c uZ jR;(repeat (first|apply κ|(refine ν λη I=>?_;simp;(repeat (rw[δ];simp));apply I)));refine W.iter (ι:=Nat×Bool) (λx=>x.1<=T.length/\(x.2=true->∀a (ξ:a<T.length),a<x.1->∀b (hb:b<a),tq s T[a] (T[b]'(by omega)) 0 c=false)/\(x.2=false->P c=false)) (λx=>[(3,.Ψ [aO s.ae,aI s.ai,bf s.cells]),(6,jl T),(9,aP R 1 oH),(10,R eE),(11,R m),(12,uX C),(13,R i),(14,a4 x.2),(15,R x.1)]) (λ_=>[b6 d1]) (λx=>T.length-x.1) (0,true) ⟨Nat.zero_le _,λ_ a ξ hb=>by omega,by simp⟩ rfl (by simp) (λx U jM=>?_);obtain⟨a,fn⟩:=x;obtain⟨oi,nF,gI⟩:=U;simp only at oi nF gI jM ⊢
   repeat apply κ
   refine W.fL (A:=[]) Ι [(73,a4 (decide (a<T.length)&&fn)),(3,.Ψ [aO s.ae,aI s.ai,bf s.cells]),(6,jl T),(9,aP R 1 oH),(10,R eE),(11,R m),(12,uX C),(13,R i),(14,a4 fn),(15,R a)] [b6 d1] ?_ (by
    by_cases pF:a<T.length
    ·(try simp);(repeat (rw[δ];simp[pF]));(try simp[pF])
    ·(try simp);(repeat (rw[δ];simp[pF]));(try simp[pF]))
   by_cases hgo:a<T.length/\fn=true
   ·obtain⟨pF,rfl⟩:=hgo;refine aj (by simp[pF]) ?_;have tQ:=aW pF;have FD:=Lr _ (List.getElem_mem pF);obtain⟨x,U⟩:∃x,x=T[a]:=⟨_,rfl⟩;rw[<-U] at tQ FD;have yU:(T.map iL)[a]?=some (iL x):=by rw[List.getElem?_map,tQ];rfl
    have iε:=gY (i:=a) (by omega);(repeat (first|apply κ|(refine ν λη I=>?_;simp;(repeat (rw[δ];simp));apply I)));refine W.iter (ι:=Nat×Bool) (λy=>y.1<=a/\(y.2=true->∀b (hb:b<a),b<y.1->tq s x (T[b]'(by omega)) 0 c=false)/\(y.2=false->P c=false)) (λy=>[(3,.Ψ [aO s.ae,aI s.ai,bf s.cells]),(6,jl T),(9,aP R 1 oH),(10,R eE),(11,R m),(12,uX C),(13,R i),(15,R a),(14,a4 y.2),(16,R y.1)]) (λ_=>[b6 d1]) (λy=>a-y.1) (0,true) ⟨Nat.zero_le _,λ_ b hb ζ=>by omega,by simp⟩ rfl (by simp) (λy Ξ ry=>?_);obtain⟨b,ph⟩:=y;obtain⟨j0,fw,SX⟩:=Ξ;simp only at j0 fw SX ry ⊢
    repeat apply κ
    refine W.fL (A:=[]) Ι [(81,a4 (decide (b<a)&&ph)),(3,.Ψ [aO s.ae,aI s.ai,bf s.cells]),(6,jl T),(9,aP R 1 oH),(10,R eE),(11,R m),(12,uX C),(13,R i),(15,R a),(14,a4 ph),(16,R b)] [b6 d1] ?_ (by
     by_cases j2:b<a
     ·(try simp);(repeat (rw[δ];simp[j2]));(try simp[j2])
     ·(try simp);(repeat (rw[δ];simp[j2]));(try simp[j2]))
    by_cases Lt:b<a/\ph=true
    ·obtain⟨j2,rfl⟩:=Lt;refine aj (by simp[j2]) ?_;have Lu:b<T.length:=by omega
     have SY:=aW Lu
     have ez:=Lr _ (List.getElem_mem Lu);obtain⟨y,Ξ⟩:∃y,y=T[b]:=⟨_,rfl⟩;rw[<-Ξ] at SY ez;have yV:(T.map iL)[b]?=some (iL y):=by rw[List.getElem?_map,SY];rfl
     have qS:=hΞ s ο x y FD.1 ez.1 0 (by omega) (by omega) c (λk χ=>by rw[oc];exact kH k χ) (by omega)
     have iζ:=gY (i:=b) (by omega);obtain⟨q,Ρ⟩:∃q,q=tq s x y 0 c:=⟨_,rfl⟩;rw[<-Ρ] at qS;obtain⟨X,gn⟩:∃X,X=iL x:=⟨_,rfl⟩;obtain⟨Y,qB⟩:∃Y,Y=iL y:=⟨_,rfl⟩;rw[<-gn] at yU;rw[<-qB] at yV;rw[<-gn,<-qB] at qS;obtain⟨yW,Lv⟩:∃yW,yW=T.map iL:=⟨_,rfl⟩;have mψ:X.cells=[X]->True:=λ_=>trivial;rw[<-Lv] at yU yV SV;have SZ:∀h,yW[a]'h=X:=λh=>by rw[aW h] at yU;simpa using yU
     have S0:∀h,yW[b]'h=Y:=λh=>by rw[aW h] at yV;simpa using yV
     have iη:jl T=.sl false 2 yW:=by rw[Lv]
     rw[iη]
     repeat apply κ
     refine W.yw (A:=[]) Ι mixed [(3,.Ψ [aO s.ae,aI s.ai,bf s.cells]),(6,.sl false 2 yW),(9,aP R 1 oH),(10,R eE),(11,R m),(12,uX C),(13,R i),(15,R a),(14,a4 true),(16,R b),(17,a4 q),(18,a4 true)] [b6 d1] ?_ (by
      have S1:X=.aS [aP R 1 [x.1.1,x.1.2],aI (fP x.2)]:=gn
      have S2:Y=.aS [aP R 1 [y.1.1,y.1.2],aI (fP y.2)]:=qB;obtain⟨ea,S3⟩:∃u,u=aP R 1 [x.1.1,x.1.2]:=⟨_,rfl⟩;obtain⟨dT,sE⟩:∃u,u=aI (fP x.2):=⟨_,rfl⟩;obtain⟨v1,mH⟩:∃u,u=aP R 1 [y.1.1,y.1.2]:=⟨_,rfl⟩;obtain⟨v2,nE⟩:∃u,u=aI (fP y.2):=⟨_,rfl⟩;rw[<-S3,<-sE] at S1;rw[<-mH,<-nE] at S2;rw[S1] at yU SZ qS;rw[S2] at yV S0 qS;have iθ:au 0 ea:=by rw[S3];simp
      have iι:au 0 dT:=by rw[sE];exact fZ.2 rV
      have iκ:au 0 v1:=by rw[mH];simp
      have iμ:au 0 v2:=by rw[nE];exact fZ.2 rV
      simp;(repeat (rw[ba];simp[yU,SZ,yV,S0,pF,Lu,SV,uZ,SW,nN]));(try rw[a']);refine fI (ay.p qS (aK.refl _) (by simp[iθ,iι,iκ,iμ]) (by simp)) ?_;simp;(repeat (rw[ba];simp));(try rw[a']);refine⟨bK (by kernel_rfl),?_⟩;simp)
     (repeat (first|apply κ|(refine ν λη I=>?_;simp;(repeat (rw[δ];simp));apply I)));refine ah rfl ?_;(repeat (first|apply κ|(refine ν λη I=>?_;simp;(repeat (rw[δ];simp[iζ]));apply I)));refine W.to (ry (b+1,!q) ⟨j2,λh Χ db mω=>?_,λh=>?_⟩ (by show a-(b+1)<a-b;omega)) rfl (by simp[Lv])
     ·by_cases iν:Χ=b
      ·subst iν;rw[<-Ξ,<-Ρ];simpa using h
      ·exact fw rfl Χ db (by omega)
     ·have P8:q=true:=by simpa using h
      rw[Bool.eq_false_iff];intro Lw;have:=hV.1 Lw a pF b j2;rw[<-U,<-Ξ,<-Ρ,P8] at this;cases this
    ·refine ah (by
      cases ph with
      | false=>simp
      | true=>simp;exact Nat.le_of_not_lt λh=>Lt ⟨h,rfl⟩) ?_
     refine W.exit rfl ?_;(repeat (first|apply κ|(refine ν λη I=>?_;simp;(repeat (rw[δ];simp[iε]));apply I)));refine W.to (jM (a+1,ph) ⟨pF,λh b1 dO aD Χ db=>?_,SX⟩ (by show T.length-(a+1)<T.length-a;omega)) rfl (by simp);by_cases iξ:b1=a
     ·subst iξ;rw[<-U];refine fw h Χ db ?_;have:¬b<b1:=λπ=>Lt ⟨π,h⟩;omega
     ·exact nF rfl b1 dO (by omega) Χ db
   ·refine ah (by
     cases fn with
     | false=>simp
     | true=>simp;exact Nat.le_of_not_lt λh=>hgo ⟨h,rfl⟩) ?_
    refine W.exit rfl ?_;(repeat (first|apply κ|(refine ν λη I=>?_;simp;(repeat (rw[δ];simp));apply I)));cases fn with
    | true=>
     refine aj rfl ?_;have pF:¬a<T.length:=λh=>hgo ⟨h,rfl⟩;have Lw:P c=true:=hV.2 λb1 dO Χ db=>nF rfl b1 dO (by omega) Χ db;have Lx:=xa Lw;rw[Lx] at xb;simp only[F7,Prod.mk.injEq] at xb;obtain⟨FL,P5⟩:=xb;have yC:oH.length<2 ^ 62:=by rw[FL];simp;omega
     have heq:=Ij oH oH yC
     have Fy:(oH==oH)=true:=by simp
     rw[Fy] at heq;have iο:jk c=aP R 1 oH:=by rw[FL]
     subst P5
     repeat apply κ
     (repeat apply κ);refine ν λη I=>?_;simp;(repeat (rw[δ];simp[uZ,SW,nN]));refine ay.c heq (.cons (.refl _) (.cons (.of iο) .nil)) (by simp) (by simp) ?_;simp;(repeat (rw[δ];simp));refine ay.c JR (aK.refl _) (by simp) (by simp) ?_;simp;(repeat (rw[δ];simp));apply I;exact W.stop ⟨⟨_,rfl⟩,rfl⟩
    | false=>
     refine ah rfl ?_;(repeat (first|apply κ|(refine ν λη I=>?_;simp;(repeat (rw[δ];simp[iZ]));apply I)));refine W.to (fK (i+1) ⟨nN,λk χ d hd=>?_⟩ (by omega)) rfl (by simp);by_cases IL:k=i
     ·subst IL;rw[uZ] at hd;cases hd;exact gI rfl
     ·exact jR k (by omega) d hd
  ·refine ah (by simp[nN]) ?_;refine W.exit rfl ?_;(repeat (first|apply κ|(refine ν λη I=>?_;simp;(repeat (rw[δ];simp[iδ]));apply I)));refine W.to (Δ (m+1) ⟨by omega,λj ε d hd=>?_⟩ (by omega)) rfl (by simp);by_cases iπ:j=m
   ·subst iπ;rw[<-hC] at hd;obtain⟨k,χ,rfl⟩:=List.getElem_of_mem hd;exact jR k (by omega) _ (aW χ)
   ·exact hY j (by omega) d hd
 ·refine ah (by simp;omega) ?_;refine W.exit rfl ?_;have Lx:=SU λj ε d hd=>hY j (by omega) d hd;rw[Lx] at xb;simp only[F7,Prod.mk.injEq] at xb;obtain⟨rfl,rfl⟩:=xb
  repeat apply κ
  (repeat apply κ);refine ν λη I=>?_;simp;(repeat (rw[δ];simp));refine ay.c JR (aK.refl _) (by simp) (by simp) ?_;simp;(repeat (rw[δ];simp));apply I;exact W.stop ⟨⟨_,rfl⟩,rfl⟩
theorem iρ:(laidOutB Tryz.prog)=true:=by kernel_rfl
theorem iς:(mapsRowed Tryz.prog)=true:=by kernel_rfl
theorem iτ:((Tryz.prog.stops==[]))=true:=by kernel_rfl
theorem iυ:((Tryz.prog.stopKnobs==[]))=true:=by kernel_rfl
theorem iφ:(Tryz.prog.stopsHeard)=true:=by kernel_rfl
theorem iχ:(Tryz.prog.mayEnter)=true:=by kernel_rfl
theorem iψ:(YtlabjopijpkiaaaGreat.Rows.lightSettledRow.wf (OpenSpec.ofChange YtlabjopijpkiaaaGreat.Rows.lightSettledSpec))=true:=by kernel_rfl
theorem iω:(Tryz.f5.params.all (Tryz.prog.readableRec ·))=true:=by kernel_rfl
theorem iΑ:(namedTie Tryz.prog YtlabjopijpkiaaaGreat.Rows.lightSettledRow.named YtlabjopijpkiaaaGreat.Rows.lightSettledSpec.vars)=true:=by kernel_rfl
theorem iΒ:((YtlabjopijpkiaaaGreat.Rows.lightSettledRow.stops==[]))=true:=by kernel_rfl
theorem iΓ:((YtlabjopijpkiaaaGreat.Rows.lightSettledRow.knobs==[]))=true:=by kernel_rfl
theorem iΔ:((YtlabjopijpkiaaaGreat.Rows.lightSettledRow.inPlace==Tryz.prog.inPlace 5))=true:=by kernel_rfl
theorem iΕ:((YtlabjopijpkiaaaGreat.Rows.lightSettledRow.unfollowed==Tryz.prog.unfollowed 5))=true:=by kernel_rfl
theorem iΖ:((YtlabjopijpkiaaaGreat.Rows.lightSettledRow.recurses==Tryz.prog.recurses 5))=true:=by kernel_rfl
theorem iΗ:((YtlabjopijpkiaaaGreat.Rows.lightSettledRow.named==Tryz.prog.varsNamed 5))=true:=by kernel_rfl
theorem iΘ:((YtlabjopijpkiaaaGreat.Rows.lightSettledRow.maps==(Tryz.f5.params.toList++YtlabjopijpkiaaaGreat.Rows.lightSettledSpec.plain.varTypes Tryz.prog).any (Tryz.prog.mapsRec ·)))=true:=by kernel_rfl
theorem iΙ:((YtlabjopijpkiaaaGreat.Rows.lightSettledRow.ifaces==(Tryz.f5.params.toList++YtlabjopijpkiaaaGreat.Rows.lightSettledSpec.plain.varTypes Tryz.prog).any (Tryz.prog.ifacesRec ·)))=true:=by kernel_rfl
theorem iΚ:((YtlabjopijpkiaaaGreat.Rows.lightSettledRow.mapsOut==Tryz.prog.mapsAmong Tryz.f5.resultTypes.toList))=true:=by kernel_rfl
theorem iΜ:((YtlabjopijpkiaaaGreat.Rows.lightSettledRow.loops==(Tryz.f5.params.toList++YtlabjopijpkiaaaGreat.Rows.lightSettledSpec.plain.varTypes Tryz.prog).any (Tryz.prog.loopsFrom ·)))=true:=by kernel_rfl
theorem iΝ:((YtlabjopijpkiaaaGreat.Rows.lightSettledRow.wideKeys==(Tryz.f5.params.toList++YtlabjopijpkiaaaGreat.Rows.lightSettledSpec.plain.varTypes Tryz.prog++Tryz.f5.resultTypes.toList).any (Tryz.prog.wideKeysFrom ·)))=true:=by kernel_rfl
theorem iΞ:(YtlabjopijpkiaaaGreat.Rows.lightSettledSpec.vars.all (Tryz.prog.varReadable ·))=true:=by kernel_rfl
theorem iΟ:(Tryz.f5.resultTypes.all (λt=>Tryz.prog.readableRec t&&decide (t<Tryz.prog.types.size)))=true:=by kernel_rfl
theorem iΡ:((YtlabjopijpkiaaaGreat.Rows.lightSettledRow.ifacesOut==Tryz.f5.resultTypes.toList.any (Tryz.prog.ifacesRec ·)))=true:=by kernel_rfl
theorem iΤ:((YtlabjopijpkiaaaGreat.Rows.lightSettledRow.loopsOut==Tryz.f5.resultTypes.toList.any (Tryz.prog.loopsFrom ·)))=true:=by kernel_rfl
theorem iΥ:((YtlabjopijpkiaaaGreat.Rows.lightSettledRow.plainKeys==Tryz.prog.plainKeys))=true:=by kernel_rfl
theorem iΦ:(YtlabjopijpkiaaaGreat.Rows.lightSettledRow.shortTexts.isNone)=true:=by kernel_rfl
theorem iΧ:((YtlabjopijpkiaaaGreat.Rows.lightSettledRow.lifted==Tryz.prog.liftsFinal))=true:=by kernel_rfl
theorem iΨ:((Tryz.prog.make==some YtlabjopijpkiaaaGreat.Rows.lightSettledRow.make))=true:=by kernel_rfl
theorem iΩ:((YtlabjopijpkiaaaGreat.Rows.lightSettledRow.kinds==(if YtlabjopijpkiaaaGreat.Rows.lightSettledRow.domain.isEmpty then [] else Tryz.f5.params.toList.map λt=>match Tryz.prog.underlying t with|some (.int k)=>some k|_=>none)))=true:=by kernel_rfl
theorem jα:((YtlabjopijpkiaaaGreat.Rows.lightSettledRow.pinned==YtlabjopijpkiaaaGreat.Rows.lightSettledRow.pinnedBy))=true:=by kernel_rfl
theorem jβ:((YtlabjopijpkiaaaGreat.Rows.lightSettledRow.veiled==(Tryz.f5.params.toList++YtlabjopijpkiaaaGreat.Rows.lightSettledSpec.plain.varTypes Tryz.prog++Tryz.f5.resultTypes.toList).any (Tryz.prog.veiledRec ·)))=true:=by kernel_rfl
theorem jγ:(YtlabjopijpkiaaaGreat.Rows.lightSettledRow.veiledFits Tryz.prog Tryz.f5.params.toList (Tryz.f5.params.toList++YtlabjopijpkiaaaGreat.Rows.lightSettledSpec.plain.varTypes Tryz.prog++Tryz.f5.resultTypes.toList))=true:=by kernel_rfl
theorem jδ:joinedFacts Tryz.prog 5 Tryz.f5 YtlabjopijpkiaaaGreat.Rows.lightSettledSpec YtlabjopijpkiaaaGreat.Rows.lightSettledRow=true:=by
 unfold joinedFacts;simp only[Bool.and_eq_true];exact⟨⟨⟨⟨⟨⟨⟨⟨⟨⟨⟨⟨⟨⟨⟨⟨⟨⟨⟨⟨⟨⟨⟨⟨⟨⟨⟨⟨⟨⟨⟨iψ,iρ⟩,iς⟩,iω⟩,iΑ⟩,iΒ⟩,iτ⟩,iΓ⟩,iυ⟩,iΔ⟩,iΕ⟩,iΖ⟩,iΗ⟩,iΘ⟩,iΙ⟩,iΚ⟩,iΜ⟩,iΝ⟩,iΞ⟩,iΟ⟩,iΡ⟩,iΤ⟩,iΥ⟩,iΦ⟩,iφ⟩,iχ⟩,iΧ⟩,iΨ⟩,iΩ⟩,jα⟩,jβ⟩,jγ⟩
end Go.TL
namespace Go.TL
open Go.Conc Go.ConcM Go.Proofs
open Go.ChangeShapes Go.WideShapes Go.ChangeAt Go.RowKit
set_option maxRecDepth 100000 in
theorem jε (hW:∀(W:World) (l:List Int) (v:Value),l.length<2 ^ 63->ao (qC W) [] [] (aP R 1 l) v->Comes Tryz.prog (λv=>v=.bool true) W (solo (Go.Conc.G (Frame.enter Tryz.prog 5 #[v] .normal) []) W) #[])
  (os:Os) (started:os.Started) (H:Type) (enc:TypeId×Value->H) (F:Stop.Interp) :
  ReturnsInLeavingWide YtlabjopijpkiaaaGreat.Rows.lightSettledRow.assume Tryz.checked os 5 .any (YtlabjopijpkiaaaGreat.Rows.lightSettledSpec.pre6 enc Tryz.prog Tryz.f5 YtlabjopijpkiaaaGreat.Rows.lightSettledRow.domain YtlabjopijpkiaaaGreat.Rows.lightSettledRow.apart)
   ((OpenSpec.ofChange YtlabjopijpkiaaaGreat.Rows.lightSettledSpec).postWith enc Tryz.prog Tryz.f5 F (outsideKept [.timePasses]) YtlabjopijpkiaaaGreat.Rows.lightSettledRow.apart YtlabjopijpkiaaaGreat.Rows.lightSettledRow.fresh YtlabjopijpkiaaaGreat.Rows.lightSettledRow.handsOn):=by
 refine returnsInLeavingWide_of_change_time (C:=Tryz.checked) eρ started Tryz.func5
  (ChangeSpec.witness6c (enc:=enc) (C:=Tryz.checked) ⟨#[],#[.slice none 0 0],[]⟩ 8 (by kernel_rfl) (by kernel_rfl) (by kernel_rfl) (by kernel_rfl)) ?_
 intro W base args ds gs before jζ S4 _ _ _;have E0:∀(j:Nat) t v,Tryz.f5.params[j]?=some t->args[j]?=some v->Value.okWide Tryz.prog W .any base t v:=jζ;have S5:=S4;obtain⟨p,q,jη,oV,rfl,MV,kv⟩:=S4;have bS:DataW.TrodAll enc Tryz.prog W 0 (λ_=>true) true Tryz.f5.params.toList args.toList ds p:=jη;rw[Tryz.params5] at bS E0;obtain⟨v0,d0,rfl,rfl,ag⟩:=trodAll_one bS;obtain⟨rfl,rfl⟩:=trodVars_none oV;have aD:∀x∈p,x.block<W.heap.size:=λx U=>by simpa using S5.lt x (List.mem_append_left _ U)
 have mG:∀(Ly:World),Below W.heap.size W Ly->DataW.Trod enc Tryz.prog Ly 0 (λb=>decide (b<W.heap.size)) true 29 v0 d0 p:=
  λLy Η=>Below.trod eς (by kernel_rfl) (of_decide_eq_true (by kernel_rfl)) ag Η aD
 obtain⟨l,ω,CZ⟩:∃l:List Int,l.length<2 ^ 63/\ao (qC W) [] [] (aP R 1 l) v0:=by
  obtain⟨qF,len,cap,rfl⟩:=okWide_slice Tryz.underlying29 (E0 0 29 v0 rfl rfl);obtain⟨mΑ,Φ⟩:=ag;rcases open_ints Tryz.underlying29 Tryz.underlying3 eτ Φ with⟨hR,U⟩|⟨a,mΒ,He,fY,hR,_,ω,hm,Θ,U,x7,mΓ⟩
  ·simp[Value.cells] at hR;obtain⟨rfl,rfl,rfl⟩:=hR;exact⟨[],by decide,.iA _ _ (by simp)⟩
  ·simp[Value.cells] at hR;obtain⟨rfl,rfl,rfl⟩:=hR;simp only[if_true] at Θ;refine⟨fY.take len,?_,eφ ω (by omega) x7⟩;rw[List.length_take];unfold maxLen at hm;omega
 obtain⟨M,last,o,w',t',r1,r2,r3,v,e,ψ,Τ,af,aX,cr⟩:=hW W l v0 ω CZ;refine⟨M,last,o,w',t',r1,r2,r3,v,e,⟨?_,ψ.2.os⟩,Τ,af,aX,cr⟩;obtain⟨rfl,χ⟩:=ψ;exact⟨_,_,_,[],_,[],S5,trodAll_mk1 (shut_bool Tryz.underlying4 _),trodAll_mk1 (mG _ χ.below),rfl,χ.below.frame _,λh=>by cases h⟩
theorem jθ (W:World) (l:List Int) (v:Value) (ω:l.length<2 ^ 63) (μ:ao (qC W) [] [] (aP R 1 l) v):Comes Tryz.prog (λv=>v=.bool true) W (solo (Go.Conc.G (Frame.enter Tryz.prog 5 #[v] .normal) []) W) #[]:=
 eπ (d:=2) (l:=[aP R 1 l]) Tryz.func5 rfl (by kernel_rfl) (by kernel_rfl) ⟨rfl,λi a u J γ=>by
  match i with
  | 0=>simp at J γ;subst J;subst γ;exact μ
  | i+1=>simp at J⟩ (by rw[Tryz.ntmps5];simp) (hΨ l ω)
end Go.TL
namespace Go.Proofs.YtlabjopijpkiaaaGreat
open Go.TL
theorem light_settled:Rows.LightSettledSaid:=
 OpenClaim.holds_of_wide_leaving_time 5 Tryz.f5 rfl rfl rfl rfl rfl rfl rfl ⟨rfl,rfl,rfl,rfl,rfl⟩ rfl rfl rfl rfl rfl (by kernel_rfl) Tryz.func5 jδ
  (of_decide_eq_true (by kernel_rfl)) (by unfold Func.isWrapper;first|(rw[if_pos (by decide +kernel)];kernel_rfl)|(rw[if_neg (by decide +kernel)];exact⟨rfl,rfl⟩))
  (λos started H enc _ F=>jε jθ os started H enc F)
end Go.Proofs.YtlabjopijpkiaaaGreat
