import Derived.Carry
import Derived.ChangeSame
import Derived.ChangeSlices
import Derived.Conc.HoldsTime
import Derived.Deep.Slices
import Derived.Deep.Strs
import Derived.OpenShut
import Derived.Test.YtlabjopijpkiaaaGreatGAH
import Derived.Test.YtlabjopijpkiaaaGreatRows
set_option maxHeartbeats 16000000
set_option maxRecDepth 20000
set_option linter.unusedSectionVars false
set_option linter.unusedSimpArgs false
set_option linter.unusedVariables false
namespace Go.TL
open Go.Proofs.Tryz
open Go.Conc Go.Proofs
variable [ZS]
noncomputable abbrev xl (vs:Array Value):Frame:=Frame.enter prog 126 vs .normal
abbrev Ri (L:Nat):I:=.fn (.yield L) [] []
structure xk (Q:Value->Prop) (mn:Bool) (x:W') (cs:List Frame) (e:Frame) (o:Base) (L:Nat) (r:Loop) (n:Nat) (b d:Row) (Fnd:List (List Nat)->Prop):Prop where
 m:o.m=2
 xj:X8 2 b
 xi:X8 2 d
 xh:r.params.size=1
 round:∀(l:List Nat) (rem:List (List Nat)),Fnd (l::rem)->l.length<=n->(∀x∈l,x<n)->∀(S:Α) (B:θ) (H:Ψ) (g:Array Value) (c:Frame),Ye 2 o.S o.B o.H o.σ S B H [b,d,XR l]->Holds S B [b,d,XR l] H->¬B.has L->H.obj L=some (.loop r)->X1 S B [b,d,XR l] [.ms 2 l.length 0 l.length] g->
  (Fnd rem->∀(f:Α) (B':θ) (H':Ψ),Ye 2 o.S o.B o.H o.σ f B' H' [b,d,XR l]->ZC S f B B' [b,d,XR l] [b,d,XR l]->Holds f B' [b,d,XR l] H'->¬B'.has L->H'.obj L=some (.loop r)->ξ prog Q mn x (c.finish (.bool true)) (e::cs) H')->
  (∀H',(∀(i:Α) (h:Ψ),Ext X0 [] H' i [] h->ξ prog Q mn x (e.finish (.tuple #[])) cs h)->ξ prog Q mn x (c.finish (.bool false)) (e::cs) H')->
  ξ prog Q mn x (Frame.round L r.fn ((r.params.zip g).foldl (λj (t,a)=>j.setIfInBounds t a) r.tmps) r.assign r.body .normal) (c::e::cs) H
 done:Fnd []->∀(S:Α) (B:θ) (H:Ψ),Ye 2 o.S o.B o.H o.σ S B H [b,d]->Holds S B [b,d] H->¬B.has L->H.obj L=some (.loop r)->ξ prog Q mn x (e.finish (.tuple #[])) cs H
def Rh (c i:Nat):List Int:=(List.range i).map (λj:Nat=>(j:Int))++List.replicate (c-i) 0
theorem xg {c i:Nat} (h:i<c):(Rh c i).set i (i:Int)=Rh c (i+1):=by
 unfold Rh;have a:((List.range i).map λj:Nat=>(j:Int)).length=i:=J;have Χ:c-i=(c-(i+1))+1:=U;rw[Qn _ _ U,a,Qj,Χ,List.replicate_succ,List.set_cons_zero,Uy,Xz];simp
theorem xf {c i:Nat} (h:i<=c):(Rh c i).length=c:=by simp[Rh];omega
theorem xe (c:Nat):(Rh c c).map R=(List.range c).map λn:Nat=>R n:=by simp[Rh]
section
variable {Q:Value->Prop} {mn:Bool} {x:W'} {cs:List Frame} {EB:Frame} {o:Base} {L:Nat} {r:Loop} {n:Nat} {Rg Rf:Row} {Fnd:List (List Nat)->Prop} {vs:Array Value}
theorem xd (v:Seq x) (bi:n<=12) (C:xk Q mn x cs EB o L r n Rg Rf Fnd) (aA:Fnd (Vd n 0)) :
  Qy prog Q mn x (xl vs) (EB::cs) 72 o L r [.code (f126.body.getD .skip)] (entry 0 [Ri L,.Ε [R n]]) [Rg,Rf]:=by
 have E:=C.m;refine Qy.XK v rfl ?_;simp only[f126,Option.getD_some];have ag:=YF (show n<13 by omega) U;refine μ ag ?_;refine W.iter (λc:Nat=>c<=n+1/\Fnd (Vd n c)) (λc=>[(0,Ri L),(1,.Ε [R n]),(9,R ((n:Int)+1)),(10,R c)]) (λ_=>[Rg,Rf]) (λc=>n+1-c) 0 ⟨ω _,aA⟩ rfl (by simp[entry,ag]) (λc aB aC=>?_);obtain⟨bj,T⟩:=aB;refine Φ ?_;by_cases K:c<n+1
 .refine υ (by simp;omega) ?_;refine Φ ?_;have bk:(0:Int)<=c:=U;have aD:(8:Int)*c<=281474976710656:=U;refine YR (A:=[14]) Τ λbl aE=>Z1 ?_;simp[aD];(repeat (rw[Μ];simp));apply aE;refine Φ ?_;refine W.iter (λi:Nat=>i<=c) (λi=>[(0,Ri L),(1,.Ε [R n]),(9,R ((n:Int)+1)),(10,R c),(3,R c),(4,.ms 2 c 0 c),(16,R c),(17,R i)]) (λi=>[Rg,Rf,.cells 3 1 ((Rh c i).map R)]) (λi=>c-i) 0 (ω _) (by simp[Rh]) J (λi hi aF=>?_);refine Φ ?_;by_cases D:i<c
  .refine υ (by simp[D]) ?_;have ah:=YF D (show c<2 ^ 62 by omega);have ai:=xf (St D);have aj:=xg D;obtain⟨G,aG⟩:=Z8 (Rh c i);rw[<-aG] at ai aj ⊢;have aH:i<G.length:=U;refine μ (Ρ ai (Ρ D (Ρ aH ah))) ?_;refine W.to (aF (i+1) D U) ?_ ?_
   .rw[<-aj];simp
   .simp[ah]
  .have aI:i=c:=U
   subst aI;refine χ J ?_;refine W.exit rfl ?_;rw[xe]
   repeat apply Ζ
   refine W.iter (λx:Nat×List Nat=>R3 n x.1 x.2=true/\x.2.length=i/\Fnd (Tb n x.1 x.2++Vd n (i+1))) (λ_=>[(0,Ri L),(1,.Ε [R n]),(9,R ((n:Int)+1)),(10,R i),(3,R i),(4,.ms 2 i 0 i)]) (λx=>[Rg,Rf,XR x.2]) (λx=>x.1) (1000,List.range i)
    ⟨yU n U i K,J,by rw[<-yT K];exact T⟩ rfl J (λx v aJ=>?_)
   obtain⟨g,l⟩:=x;obtain⟨X,f,Y⟩:=v;simp only at X f Y ⊢
   repeat apply Ζ
   refine W.Zt ?_;refine XW [0,1] [2,3] ?_;refine W.stop ?_;obtain⟨y,aK,ak⟩:∃y,Tb n g l++Vd n (i+1)=l::y/\((R4 n l=none/\y=Vd n (i+1))\/∃a b,R4 n l=some a/\g=b+1/\y=Tb n b a++Vd n (i+1)/\R3 n b a=true):=by
    cases al:R4 n l with
    | none=>exact⟨Vd n (i+1),by rw[yQ al];rfl,.inl ⟨rfl,rfl⟩⟩
    | some a=>
     obtain⟨b,F,Χ,aL⟩:=yP X al;exact⟨Tb n b a++Vd n (i+1),by rw[Χ];rfl,.inr ⟨a,b,rfl,F,rfl,aL⟩⟩
   rw[aK] at Y;have am:=yR X;refine Qy.yield v ⟨rfl,rfl,by simp[Frame.enter],rfl⟩ rfl rfl rfl C.xh.symm λS B H t aM M s Z aa hv=>?_;refine C.round l y Y U am S B H aM _ (by rw[<-E];exact M) s.holds Z aa (by rw[f];exact hv) (λab an B' H' aN aO aP aQ aR=>?_) (λH' aS=>?_)
   .rw[Wr rfl];have ad:YS an B' [Rg,Rf,XR l] [(27,.z (.bool true)),(0,Ri L),(1,.Ε [R n]),(9,R ((n:Int)+1)),(10,R i),(3,R i),(4,.ms 2 i 0 i)] (t.setIfInBounds 27 (.bool true)):=OO (YS.put (s.Zr.later aO) (d:=27) (by rw[s.size];omega) (.z _)) J;refine(Qy.XK (env:=[(27,.z (.bool true)),(0,Ri L),(1,.Ε [R n]),(9,R ((n:Int)+1)),(10,R i),(3,R i),(4,.ms 2 i 0 i)]) (σ:=[Rg,Rf,XR l]) (o:=o) (L:=L) (r:=r) (nt:=72) v rfl ?_) an B' H' _ (by rw[E];exact aN) ⟨aP,ad,XU (T3 ..) s.size,by rw[E];simp⟩ aQ aR;refine XW [3] [] ?_;refine W.ZM ?_;refine χ rfl ?_;have ao:IntKind.i64.wrap ((i:Int)-1)=(i:Int)-1:=IntWalk.i64_in _ U;refine μ ao ?_;refine W.iter (λe:Nat=>e<=i/\R5 n l i=R5 n l e) (λe=>[(0,Ri L),(1,.Ε [R n]),(9,R ((n:Int)+1)),(10,R i),(3,R i),(4,.ms 2 i 0 i),(6,R ((e:Int)-1))]) (λ_=>[Rg,Rf,XR l]) (λe=>e) i ⟨ZO _,rfl⟩ rfl (by simp[ao]) (λe aT aU=>?_);obtain⟨bm,ap⟩:=aT
    repeat apply Ζ
    have aq:=YF K (show n+1<2 ^ 62 by omega)
    have ae:R4 n l=(R5 n l e).map λq=>Uf l q (l.length-q):=by unfold R4;rw[f,ap]
    cases e with
    | zero=>
     have aV:y=Vd n (i+1):=by
      rcases ak with⟨_,h⟩|⟨a,b,h,_⟩
      .exact h
      .rw[ae] at h;simp[R5] at h
     rw[aV] at ab;refine QE ?_;refine χ rfl ?_;refine W.exit rfl ?_;refine Φ ?_;refine υ rfl ?_;refine W.exit rfl ?_;refine W.drop (h:=2) (σ':=[Rg,Rf]) (by rw[E];exact ZO _) J (λid q aW u=>by
      match id,aW,u with
      | 0,_,u=>simp at u;subst u;exact C.xj
      | 1,_,u=>simp at u;subst u;exact C.xi) rfl [(0,Ri L),(1,.Ε [R n]),(9,R ((n:Int)+1)),(10,R i)] (by simp[VN]) ?_
     refine μ aq ?_;refine W.to (aC (i+1) ⟨K,ab⟩ U) rfl ?_;simp[aq]
    | succ e=>
     have I:e<l.length:=U
     have bn:=am _ (YB I)
     have N:l.getD e 0=l[e]:=by simp[Xk,I]
     have aX:IntKind.i64.wrap ((n:Int)-i)=(n:Int)-i:=IntWalk.i64_in _ U
     have aY:IntKind.i64.wrap ((n:Int)-i+e)=(n:Int)-i+e:=IntWalk.i64_in _ U
     have ar:IntKind.i64.wrap ((e:Int)-1)=(e:Int)-1:=IntWalk.i64_in _ U
     have au:e<i:=U
     have aZ:((e+1:Nat):Int)-1=e:=U;rw[aZ];refine SL (Ρ I (Ρ au (Ρ f (Ρ aX aY)))) ?_;by_cases u:l[e]+i=n+e
     .have O:R5 n l (e+1)=R5 n l e:=by rw[R5,if_pos (by rw[N,f];exact u)]
      refine υ (by simp;omega) ?_;refine μ ar ?_;refine W.to (aU e ⟨U,by rw[ap,O]⟩ U) rfl ?_;simp[ar]
     .have O:R5 n l (e+1)=some e:=by rw[R5,if_neg (by rw[N,f];exact u)]
      refine χ (by simp;omega) ?_;refine W.exit rfl ?_;refine Φ ?_;refine χ J ?_;obtain⟨a,b,af,bo,a0,a1⟩:∃a b,R4 n l=some a/\g=b+1/\y=Tb n b a++Vd n (i+1)/\R3 n b a=true:=by
       rcases ak with⟨h,_⟩|h
       .rw[ae,O] at h;cases h
       .exact h
      have av:a=Uf l e (i-e):=by
       rw[ae,O] at af;simp at af;rw[<-af,f]
      have a2:IntKind.i64.wrap ((l[e]:Int)+1)=(l[e]:Int)+1:=IntWalk.i64_in _ U
      have aw:IntKind.i64.wrap ((e:Int)+1)=(e:Int)+1:=IntWalk.i64_in _ U;refine μ (Ρ I (Ρ au (Ρ f (Ρ a2 aw)))) ?_;refine W.iter (λp:Nat=>e+1<=p/\p<=i) (λp=>[(0,Ri L),(1,.Ε [R n]),(9,R ((n:Int)+1)),(10,R i),(3,R i),(4,.ms 2 i 0 i),(7,R p)]) (λp=>[Rg,Rf,XR (Uf l e (p-e))]) (λp=>i-p) (e+1) ⟨ZO _,U⟩ (by
       have:e+1-e=1:=U;rw[this,yO I];simp) (by simp[aw]) (λp s a3=>?_)
      obtain⟨bp,bq⟩:=s;refine Φ ?_;by_cases ax:p<i
      .refine υ (by simp[ax]) ?_;obtain⟨q,br⟩:=Z8 (p-1);obtain⟨w,P⟩:=Z8 (Uf l e (p-e));have a4:w.length=i:=by rw[P,Ff U,f]
       have ay:q<w.length:=U
       have a5:p<w.length:=U
       have a6:q<i:=U
       have a7:w[q]=l[e]+(p-e):=by
        have:=yN (l:=l) (i:=e) (k:=p-e) U U
        have F:e+(p-e)-1=q:=U;rw[F,<-P,N] at this;simpa[Xk,ay] using this
       have a8:w.set p (w[q]+1)=Uf l e (p+1-e):=by
        have:=yM (l:=l) (i:=e) (k:=p-e) U
        have F:e+(p-e)=p:=U
        have Χ:p-e+1=p+1-e:=U;rw[F,Χ,<-P,N,<-a7] at this;exact this
       have bs:w[q]<100:=U
       have a9:IntKind.i64.wrap ((p:Int)-1)=(q:Int):=by rw[IntWalk.i64_in _ U];omega
       have a':IntKind.i64.wrap ((w[q]:Int)+1)=(w[q]:Int)+1:=IntWalk.i64_in _ U
       have az:IntKind.i64.wrap ((p:Int)+1)=(p:Int)+1:=IntWalk.i64_in _ U;rw[<-P];refine μ (Ρ a9 (Ρ ay (Ρ a5 (Ρ a6 (Ρ ax (Ρ a4 (Ρ a' az))))))) ?_;refine W.to (a3 (p+1) ⟨U,U⟩ U) ?_ ?_
       .rw[<-a8];simp
       .simp[az]
      .have ba:p=i:=U
       subst ba;refine χ J ?_;refine W.exit rfl ?_
       repeat apply Ζ
       refine W.to (aJ (b,a) ⟨a1,by rw[av,Ff U,f],by rw[<-a0];exact ab⟩ (by show b<g;omega)) (by rw[av]) ?_;simp
   .rw[Wr rfl];have ad:YS X0 [] [] [(27,.z (.bool false))] (t.setIfInBounds 27 (.bool false)):=λj=>by
     simp only[Z'];split
     .rename_i e;subst e;have:(t.setIfInBounds 27 (Value.bool false)).getD 27 undef=.bool false:=by
       have bb:27<t.size:=by rw[s.size];omega
       simp[W3,bb]
      rw[this];exact .z _
     .exact .Zw _
    refine V.here (m:=0) (nt:=72) (S:=X0) (B:=[]) (σ:=[]) (env:=[(27,.z (.bool false))]) ?_ ⟨NR H',ad,XU (T3 ..) s.size,ω _⟩;refine V.XK v rfl ?_;refine XW [3] [] ?_;refine W.ZM ?_;refine υ rfl ?_;refine W.stop ?_;refine V.Iu v rfl rfl rfl rfl func126 rfl λbc bd be bf bg=>?_;obtain rfl:bd=[]:=YV.1 bg.len;exact aS bc be bf.ext
 .have bh:c=n+1:=U
  subst bh;refine χ J ?_;refine W.exit rfl ?_;refine W.stop ?_;intro S B H t M s Z aa;rw[yS] at T;refine ξ.QX v rfl rfl (ξ.back v rfl rfl (.inl rfl) func126 ?_);rw[results_none rfl];rw[E] at M;exact Ω.pure' (C.done T S B H M s.holds Z aa)
end
theorem xc (n:Nat):Ν prog 83 [R n] (.fn (.func 126) [] [.Ε [R n]]):=by
 refine Δ.body Τ func83 rfl rfl ntmps83 rfl rfl J ?_;refine Φ ?_;refine W.rt ?_;exact .refl _
theorem Ext.EA {S:Α} {B:θ} {H:Ψ} {r:Nat} {y:Obj} (a:H.fresh r):Ext S B H S B (H.ZL r y):=
 ⟨λ_ _ _ h=>h,λb _ c=>by
  have:b≠r:=λe=>c (e▸a);exact TN.of ⟨λ_=>rfl,rfl,by simp[Ψ.ZL,this]⟩,λb h=>.inl h,λb o v h=>.inl h,Ψ.Jj⟩
theorem Holds.Ez {S:Α} {B:θ} {σ:Υ} {H:Ψ} (c:Holds S B σ H) (f:∀r∈σ,NM r) {b:Nat} (g:H.fresh b):¬B.has b:=λ⟨N,h⟩=>by
 obtain⟨id,d⟩:=S3 h;have i:id<σ.length:=by rw[<-c.len];exact(ZD.1 d).1
 have a:=ε i;obtain⟨t,k,l,e⟩:=f _ (Zk a);rw[e] at a;exact c.Tt a trivial d g
def PJ (s:ο) (F:List Found) (a:Int) (b:Bool):List Int×Int:=
 if(Tg s a F).2.2≠0 then([],(Tg s a F).2.2)
 else match (Vd s.Β.length 0).find? (Rs s F a.toNat b) with
 | some l=>(l.map λn:Nat=>(n:Int),0)
 | none=>([],11)
abbrev Ta:Row:=.cells 29 1 [.sl true 0 []]
abbrev S':Row:=.cells 38 1 [R 0]
abbrev NK (s:ο) (F:List Found) (a:Int) (b:Bool):Ι:=[(3,ZW s),(4,.Ε [R a]),(5,.Ε [ZQ b]),(6,.Ο 0 1 0 0),(7,.Ο 1 1 0 0),(8,ZW s),(9,.Ε [Y8 F])]
section
variable {Q:Value->Prop} {mn:Bool} {x:W'} {c:Frame} {rest:List Frame} {PK S:Α} {B:θ} {RZ H:Ψ} {σ:Υ} {res:List Int×Int} {l:List Int} {NJ:Int} {e:Bool} {kk:Nat} {b:Frame} {t:Array Value} {k:List Item} {env:Ι}
theorem Ey (n:Seq x) (p:O8 prog Q mn x c rest PK [] RZ [] (λa s=>Y4 a (.ZP [κ R 1 res.1,R res.2])/\s=[]) (λ_ _=>False)) (t:b.fn=28) (u:b.kind=.normal) (w:b.defers=[]) (y:b.mode=.returning)
  (A:Ext PK [] RZ S B H) (C:Holds S B σ H) (D:YS S B σ env b.tmps) (E:Z' env 6=.Ο 0 1 0 0) (F:Z' env 7=.Ο 1 1 0 0) (I:σ[0]?=some (.cells 29 1 [.sl e kk (l.map R)])) (K:σ[1]?=some (.cells 38 1 [R NJ])) (L:res=(l,NJ)) (M:l≠[]->kk=1):ξ prog Q mn x b (c::rest) H:=by
 subst L;refine ξ.back n y w (.inl u) (fn:=f28) (by rw[t];exact func28) ?_;refine Ω.mono (λv f ⟨g,i,N,W,O,P⟩=>?_) (λ_ _ h=>h) _ (KL Τ (a:=.ZP [.sl e kk (l.map R),R NJ]) (show Sf Z7 [.cell 6 29,.cell 7 38] env σ=some (.ZP [.sl e kk (l.map R),R NJ]) by simp[Sf,QM,N',E,F,I,K,QN,WA.agg,KM]) C D);obtain⟨j,d⟩:=O.close (h:=0) (λid r X=>U);simp only[List.take_zero] at j d;have T:Θ (g.close i σ f 0) [] [] (.ZP [.sl e kk (l.map R),R NJ]) v:=by
  have V:Γ 0 (.ZP [.sl e kk (l.map R),R NJ]):=J
  have:=(P.later (ZC.refl g i σ)).any V [] [];exact this.later ⟨λb o v hv=>d.YX _ _ _ hv,λid r h=>by simp at h⟩
 have k:=A.trans (N.trans d);refine p.ret _ [] _ [] f v ⟨?_,rfl⟩ k ⟨k.YX,λid r h=>by simp at h⟩ j T;refine .ZP (.cons ?_ (.cons (.refl _) .nil));by_cases m:l=[]
 .subst m;exact .nil
 .rw[M m];exact .ex
end
noncomputable abbrev HY (vs:Array Value):Frame:=Frame.enter prog 28 vs .normal
theorem xb {s:ο} {F:List Found} {a:Int} (h:(Tg s a F).2.2=0):0<=a/\a<s.cells.length/\Tg s a F=(s,F,0):=by
 unfold Tg at h ⊢;split at h
 .rename_i b;simp at h;exact absurd h b
 .split at h
  .simp at h
  .rename_i b c;rw[if_neg b,if_neg c];refine⟨U,U,?_⟩;unfold XC at h ⊢;rw[if_neg b] at h ⊢;split at h
   .simp at h
   .rename_i d;rw[if_neg d]
section
variable {Q:Value->Prop} {mn:Bool} {c:Frame} {rest:List Frame}
theorem xa (s:ο) (aO:s.small) (F:List Found) (ba:P2 s F) (bb:Kj s F) (D:Int) (g:Bool) (aP:s.Β.length<=4) :
  Ν prog 28 [Zd s,R D,ZQ g] (.ZP [κ R 1 (PJ s F D g).1,R (PJ s F D g).2]):=by
 refine⟨⟨_,func28,rfl,rfl⟩,λQ mn x c rest al bc Z vs p aQ bd am=>?_⟩;obtain rfl:bc=[]:=YV.1 aQ.len;rw[Sc (body:=f28.body.getD .skip) func28 rfl];refine V.here (x:=x) (m:=0) (nt:=35) (S:=al) (B:=[]) (H:=Z) (σ:=[]) (env:=entry 0 [Zd s,R D,ZQ g]) ?_ (XN.enter aQ bd (ZO _) J);refine V.XK p rfl ?_;simp only[f28,Option.getD_some]
 repeat apply Ζ
 refine YR (A:=[6,7]) Τ λan E=>Z1 ?_;apply E;refine Y' ?_;refine YR (A:=[8,9]) Τ λan E=>Z1 ?_;refine Ν.d (zR s aO D F ba) (Z1 ?_);apply E;by_cases b:(Tg s D F).2.2=0
 case neg=>
  have e:PJ s F D g=([],(Tg s D F).2.2):=by unfold PJ;rw[if_pos b]
  rw[e] at am;generalize (Tg s D F).2.2=ao at b am ⊢;refine Φ ?_;refine υ (by simp[b]) ?_;refine Φ ?_;refine W.stop ?_;intro aa ab ad t5 C K;refine ξ.ret p rfl rfl ?_;exact Ey p am rfl rfl rfl rfl C.ext K.holds K.Zr rfl rfl rfl rfl rfl (λh=>absurd rfl h)
 obtain⟨b0,b1,e⟩:=xb b;obtain⟨n,rfl⟩:∃n:Nat,D=n:=⟨D.toNat,U⟩;have be:n<s.cells.length:=U;have Χ:PJ s F n g=match (Vd s.Β.length 0).find? (Rs s F n g) with|some l=>(l.map λn:Nat=>(n:Int),0)|none=>([],11):=by
  unfold PJ;rw[if_neg (by simpa using b)];rfl
 rw[e];refine W.fix (id:=3) (σ':=[Ta,S',.cells 98 3 [Zd s]]) (ω _) rfl J (λid q aD j=>by
  match id,aD,j with
  | 0,_,j=>simp at j;subst j;simp[X8,I.cells]
  | 1,_,j=>simp at j;subst j;simp[X8,I.cells]
  | 2,_,j=>simp at j;subst j;simp[X8,I.cells]) rfl [(3,ZW s),(4,.Ε [R n]),(5,.Ε [ZQ g]),(6,.Ο 0 1 0 0),(7,.Ο 1 1 0 0),(8,.Ο 2 1 0 0),(9,.Ε [Y8 F]),(10,R 0)] (by simp[WH]) ?_
 refine W.fix (id:=2) (σ':=[Ta,S']) (ω _) rfl J (λid q aD j=>by
  match id,aD,j with
  | 0,_,j=>simp at j;subst j;simp[X8,I.cells]
  | 1,_,j=>simp at j;subst j;simp[X8,I.cells]) rfl ((10,R 0)::NK s F n g) (by simp[WH]) ?_
 refine Φ ?_;refine χ rfl ?_;refine Φ ?_;refine ZB λan E=>?_;refine Ν.d (xc s.Β.length) (Z1 ?_);apply E
 repeat apply Ζ
 refine W.forget ((25,.fn (.func 126) [] [.Ε [R s.Β.length]])::NK s F n g) J ?_;refine W.stop ?_;intro T M ap t1 aq N;have aR:∀r∈[Ta,S'],NM r:=λr aS=>by
  simp only[YZ,XY,or_false] at aS;rcases aS with rfl|rfl<;>exact⟨_,_,_,rfl⟩
 have aE:=N.Zr 25;simp only[Z',if_true] at aE;obtain⟨b2,aT⟩:=Z8 (t1.getD 25 undef);rw[<-aT] at aE;cases aE with
 | fn w1 bf bg bh b3 bi=>
 have bj:w1=#[]:=Ma (by rw[<-bg];rfl);subst bj;refine ξ.rangeFunc p rfl rfl (fo:=.tmp 25) aT.symm ⟨_,func126,rfl,rfl⟩ λu L af X=>?_;have aF:¬M.has u:=N.holds.Ez aR af;have ar:=N.holds.ZL (y:=.deferred (some [])) aF;have au:Ext T M ap T M (ap.ZL u (.deferred (some []))):=Ext.EA af;have ag:(ap.ZL u (.deferred (some []))).obj u=some (.deferred (some [])):=by simp[Ψ.ZL]
 have bk:Z.fresh u:=aq.ext.grow _ af
 have av:Z.fresh L:=aq.ext.grow _ (au.grow _ X);generalize b4:ap.ZL u (.deferred (some []))=aU at X ar au ag;have aw:u≠L:=λe=>by rw[e,X.2.2.1] at ag;cases ag
 have aV:¬M.has L:=ar.Ez aR X
 have aW:∀(S:Α) (B:θ) (H:Ψ) (σ:Υ),Ye 2 T M aU [Ta,S'] S B H σ->ZC T S M B [Ta,S'] σ:=λS B H σ w=>w.all ar J
 have aX:∀(O:Frame) (S:Α) (B:θ) (H:Ψ) (σ:Υ) (env:Ι) (l:List Int) (ao:Int) (e:Bool) (kk:Nat),O.fn=28->O.kind=.normal->O.mode=.returning->O.defers=[⟨.collected u,#[]⟩]->Ext al [] Z S B H->Holds S B σ H->¬B.has u->H.obj u=some (.deferred (some []))->
   YS S B σ env O.tmps->Z' env 6=.Ο 0 1 0 0->Z' env 7=.Ο 1 1 0 0->σ[0]?=some (.cells 29 1 [.sl e kk (l.map R)])->σ[1]?=some (.cells 38 1 [R ao])->PJ s F n g=(l,ao)->(l≠[]->kk=1)->ξ prog Q mn x O (c::rest) H:=
  λO S B H σ env l ao e kk Y P aY bl bm bn bo aZ bp bq br bs bt bu bv=>by
  refine ξ.collected p aY bl aZ ?_;exact Ey p am (b:={O with defers:=[]}) Y P rfl aY (bm.ZL bk ⟨_,aZ⟩) (bn.ZL bo) bp bq br bs bt bu bv
 rw[Sc (body:=f126.body.getD .skip) func126 rfl];have bw:X1 T M [Ta,S'] ([Ri L]++[.Ε [R s.Β.length]]) (#[.func (.yield L) #[] #[]]++bf):=by
  refine X1.append ⟨rfl,λi a v Y P=>?_⟩ ⟨bh,bi⟩
  match i with
  | 0=>simp at Y P;subst Y;subst P;exact .fn #[] #[] rfl rfl (λi a v hi=>by simp at hi) (λi a v hi=>by simp at hi)
  | i+1=>simp at Y
 refine xd (o:=⟨T,M,aU,[Ta,S'],2⟩) (L:=L) (Fnd:=λa0=>(Vd s.Β.length 0).find? (Rs s F n g)=a0.find? (Rs s F n g)) p (Xs aP Z2) ?_ rfl T M _ _ (Ye.of (Ext.EA X) (ZC.refl ..)) (XN.enter (ar.ZL aV) bw (ZO _) J) aV (by simp[Ψ.ZL];rfl);refine⟨rfl,by simp[X8,I.cells],by simp[X8,I.cells],rfl,λl a0 ax bx bz S B H a1 b5 w ay aG az hv bA bB=>?_,λax S B H w ay aG az=>?_⟩
 .obtain⟨aH,aI⟩:=R6 w.ext aF ag;have bC:=aW _ _ _ _ w;have aA:=N.Zr.later bC;have bD:Ext al [] Z S B H:=aq.ext.trans (au.trans w.ext);obtain⟨w0,rfl⟩:∃w0,a1=#[w0]:=by
   have af:=hv.1;clear hv;obtain⟨bE⟩:=a1
   match bE,af with
   | [w0],_=>exact⟨w0,rfl⟩
  have bF:((#[26]:Array Tmp).zip #[w0]).foldl (λaJ (t,a)=>aJ.setIfInBounds t a) t1=t1.setIfInBounds 26 w0:=J;change ξ prog Q mn x (Frame.round L 28 (((#[26]:Array Tmp).zip #[w0]).foldl (λaJ (t,a)=>aJ.setIfInBounds t a) t1) _ _ .normal) _ _;rw[bF];have bG:Θ S B [Ta,S',XR l] (.ms 2 l.length 0 l.length) w0:=hv.2 0 _ _ rfl rfl;have bH:l.length<2 ^ 30:=U;have bI:YS S B [Ta,S',XR l] ((26,.ms 2 l.length 0 l.length)::NK s F n g) (t1.setIfInBounds 26 w0):=OO (YS.put aA (d:=26) (by rw[N.size];omega) bG) J;refine V.here (b:=Frame.round L 28 t1 .skip .skip .normal) (t:=t1.setIfInBounds 26 w0) (m:=3) (nt:=35) (S:=S) (B:=B) (H:=H) (σ:=[Ta,S',XR l]) (env:=(26,.ms 2 l.length 0 l.length)::NK s F n g) ?_ ⟨ay,bI,XU (T3 ..) N.size,ZO _⟩;refine V.XK p rfl ?_;refine Φ ?_;refine W.stop ?_;intro bJ bK aK t3 ah ae;obtain⟨ai,aL⟩:=R6 ah.ext aG az;obtain⟨bL,bM⟩:=R6 ah.ext aH aI;refine ξ.beginRound p rfl rfl aL rfl ?_;refine V.here (b:=Frame.round L 28 t1 .skip .skip .normal) (m:=3) (nt:=35) ?_ ⟨ae.holds.ZL ai,ae.Zr,ae.size,ae.rows⟩;refine V.XK p rfl ?_;refine ZB λan E=>?_;have a2:Γ 0 (Zd s):=J;have a3:Γ 0 (Y8 F):=J;have aB:VL (XR l):=O1 (f:=λn:Nat=>R n) λx=>by simp[I.cells]
  refine Δ.one (as0:=[Zd s,Y8 F,R n,ZQ g,.ms 0 l.length 0 l.length]) (y6 s aO F bb n be g l (Xs bx aP) bz) 2 rfl aB aB (λa w=>by
   simp only[YZ,XY,or_false] at w;rcases w with rfl|rfl|rfl|rfl|rfl
   .exact a2.V9 1
   .exact a3.V9 1
   .exact(Γ.z _).V9 1
   .exact(Γ.z _).V9 1
   .exact Tm.2 U) ((Γ.z _).V9 1) (by simp[Tl,Tk,a2.Yt [2],a3.Yt [2]]) ?_
  simp[Tk];(repeat (rw[Μ];simp));apply E;have aM:ZC S bJ B bK [Ta,S',XR l] [Ta,S',XR l]:=ah.all ay (ZO _);have bN:=λy=>(w.ext.trans ah.ext).ZL X (y:=y) ⟨_,aL⟩;have bO:=λy=>(bD.trans ah.ext).ZL av (y:=y) ⟨_,aL⟩;cases a4:Rs s F n g l
  .refine χ rfl ?_
   repeat apply Ζ
   refine W.stop ?_;intro aa ab ad t5 C K;obtain⟨aj,ak⟩:=R6 C.ext ai (show(aK.ZL L _).obj L=some (.loop _) by simp[Ψ.ZL];rfl);have aC:=C.all (ae.holds.ZL ai) (ZO _);refine ξ.endRound p rfl rfl rfl ak (jump:=none) (.inl ⟨rfl,rfl⟩) (bA (by rw[ax,List.find?_cons,a4]) aa ab _ ⟨((bN _).trans C.ext).ZL X ⟨_,ak⟩,?_⟩ (aM.trans aC) (K.holds.ZL aj) aj (by simp[Ψ.ZL]));exact w.later.trans (aM.trans aC)
  .refine υ rfl ?_;obtain⟨z,aN⟩:=Z8 (l.map λn:Nat=>(n:Int));have bP:XR l=.cells 3 1 (z.map R):=by rw[aN,Pz];rfl
   have a5:z.length=l.length:=by rw[aN,Yb]
   have a6:=zb z (by rw[a5];exact bH);rw[a5,<-bP] at a6;have a7:∀(e:Bool) (k:Nat),Γ 0 (.sl e k (z.map R)):=λe k=>J;refine ZB λan E=>?_;refine Δ.IF (as0:=[.ms 0 l.length 0 l.length]) a6 2 rfl aB (by simp[Tm]) (by simp[Tl]) (λa b6 bQ=>?_);obtain⟨⟨e,kk,rfl,bR⟩,rfl⟩:=bQ;refine⟨XR l,rfl,aB,(a7 e kk).V9 1,?_⟩;rw[(a7 e kk).Yt [2]];simp;(repeat (rw[Μ];simp));apply E;refine W.stop ?_;intro aa ab ad t5 C K;obtain⟨aj,ak⟩:=R6 C.ext ai (show(aK.ZL L _).obj L=some (.loop _) by simp[Ψ.ZL];rfl);obtain⟨a8,bS⟩:=R6 C.ext bL (show(aK.ZL L _).obj u=some (.deferred (some [])) by simp[Ψ.ZL,aw,bM]);have aC:=C.all (ae.holds.ZL ai) (ZO _);refine ξ.endRound p rfl rfl rfl ak (jump:=some .ret) (.inr (.inl ⟨rfl,_,rfl⟩)) (bB _ λb7 b8 a9=>?_);obtain⟨Y,P⟩:=(K.holds.ZL (y:=.loop _) aj).QU (λb bT=>a9.QU bT) a9.grow;obtain⟨bU,a'⟩:=R6 P aj (show(ad.ZL L _).obj L=some (.loop _) by simp[Ψ.ZL];rfl);obtain⟨_,bV⟩:=R6 P a8 (show(ad.ZL L _).obj u=some (.deferred (some [])) by simp[Ψ.ZL,aw,bS]);refine ξ.Fw (b:={HY vs with defers:=[⟨.collected u,#[]⟩]}) (t:=t1) p rfl a' J ?_;refine ξ.ret (b:={HY vs with defers:=[⟨.collected u,#[]⟩]}) p rfl rfl ?_;refine aX _ aa ab _ _ (NK s F n g) z 0 e kk rfl rfl rfl rfl ((((((bO _).trans C.ext).ZL av ⟨_,ak⟩)).trans P).ZL av ⟨_,a'⟩) (Y.ZL bU) a8 (by simp[Ψ.ZL,aw,bV]) (OO ((aA.later (aM.trans aC))) J) rfl rfl rfl rfl ?_ bR;rw[Χ,ax,List.find?_cons,a4,aN]
 .obtain⟨aH,aI⟩:=R6 w.ext aF ag;have aA:=N.Zr.later (aW _ _ _ _ w);have bW:Ext al [] Z S B H:=aq.ext.trans (au.trans w.ext);refine ξ.Fw (b:={HY vs with defers:=[⟨.collected u,#[]⟩]}) (t:=t1) p rfl az J ?_;refine V.here (m:=0) (nt:=35) (S:=S) (B:=B) (σ:=[Ta,S']) (env:=NK s F n g) ?_ ⟨ay.ZL aG,OO aA J,N.size,ω _⟩;refine V.XK p rfl ?_;simp only[Option.map_none,Option.toList_none,List.nil_append];refine Φ ?_;refine W.stop ?_;intro aa ab ad t5 C K;have bX:∀y,(H.ZL L y).obj u=some (.deferred (some [])):=λy=>by simp[Ψ.ZL,aw,aI]
  obtain⟨bY,bZ⟩:=R6 C.ext aH (bX _);refine ξ.ret p rfl rfl ?_;refine aX _ aa ab ad _ _ [] 11 true 0 rfl rfl rfl rfl ((bW.ZL av ⟨_,az⟩).trans C.ext) K.holds bY bZ K.Zr rfl rfl rfl rfl ?_ (λh=>absurd rfl h);rw[Χ,ax];rfl
end
end Go.TL
namespace Go.TL
open Go.Proofs.Tryz
open Go.Proofs
variable [ZS]
def XV:ο:=⟨[⟨⟨#[98]⟩,9⟩,⟨⟨#[99]⟩,4⟩,⟨⟨#[100]⟩,6⟩,⟨⟨#[105]⟩,48⟩,⟨⟨#[111]⟩,12⟩],[[1,2],[0],[0,1,2]],[[⟨0,4,59⟩,⟨1,8,3⟩],[⟨0,0,63⟩,⟨1,4,8⟩]]⟩
theorem Ml:Ν prog 72 [] (Zd XV):=by
 refine Δ.body Τ func72 rfl rfl ntmps72 rfl rfl J ?_
 repeat apply Ζ
 refine YR (A:=[0]) Τ λb a=>Z1 ?_;apply a
 repeat apply Ζ
 refine ZB λb a=>?_;apply a;refine W.fix (id:=0) (σ':=[]) (ω _) rfl J J rfl [(0,.Ε [.sl true 2 [Yr ⟨⟨#[98]⟩,9⟩,Yr ⟨⟨#[99]⟩,4⟩,Yr ⟨⟨#[100]⟩,6⟩,Yr ⟨⟨#[105]⟩,48⟩,Yr ⟨⟨#[111]⟩,12⟩],.sl true 1 [YO [1,2],YO [0],YO [0,1,2]],.sl true 1 [.sl true 3 [Zv ⟨0,4,59⟩,Zv ⟨1,8,3⟩],.sl true 3 [Zv ⟨0,0,63⟩,Zv ⟨1,4,8⟩]]])] J ?_;refine W.rt ?_;refine .Z9 (.cons .ex (.cons ?_ (.cons ?_ .nil)))
 .exact .map (l:=[[1,2],[0],[0,1,2]]) (f:=YO) λx _=>.one .ex rfl rfl
 .exact .map (l:=[[⟨0,4,59⟩,⟨1,8,3⟩],[⟨0,0,63⟩,⟨1,4,8⟩]]) (f:=λl:List Y9=>.sl true 3 (l.map Zv)) λx _=>.one .ex rfl rfl
end Go.TL
namespace Go.TL
open Go.Proofs.Tryz
open Go.Conc Go.Proofs
open Go.ConcN (sumTo upd sumTo_upd upd_ne upd_same sumTo_congr le_sumTo)
variable [ZS]
section
variable {P:Program} {Q:Value->Prop} {mn:Bool} {y:γ} {f f' b:Frame} {cs cs':List Frame} {H:Ψ} {t:Array Value} {k:List Item} {ops:Array Oper} {i:Nat} {rest:List Nat} {op:Oper}
theorem Zq.quiet (a:Yc y) (b:∀w,stepG P mn (Go.Conc.G f cs) w=.go (Go.Conc.G f' cs') w #[]) (h:Zq P Q mn y f' cs' H):Zq P Q mn y f cs H:=
 Quiet.goes (.cons ⟨rfl,rfl⟩ b (.nil _)) a ⟨rfl,rfl⟩ h
theorem Zq.next (a:Yc y) (d:b.mode=.run) {id:Nat} {e:Array Oper} {c:Code} (h:Zq P Q mn y (Η b t (.inRegion e (List.range e.size)::.code c::k)) cs H):Zq P Q mn y (Η b t (.inRegion ops []::.code (.seq (.region id e false) c)::k)) cs H:=
 .quiet a (λw=>(V4 d w).trans rfl) (.quiet a (λw=>(V4 d w).trans rfl) (.quiet a (λw=>(V4 d w).trans rfl) h))
theorem w9 {a:TypeId} {b:TypeInfo} {z:Value} (hi:P.info? a=some b) (c:b.zero=some z) (w:World) :
  (Instr.alloc a true (.tuple #[])).run P w=.ok (ptr w.heap.size 0) (w.alloc (.cells z.cells a (0,0)))/\∀es,(Instr.alloc a true (.tuple #[])).events P w es=es:=by
 constructor
 .simp[Instr.alloc,zeroValue,typeInfo,newVar,newRow,hi,c,Result.andThen]
 .intro es;simp[Instr.alloc,zeroValue,typeInfo,newVar,newRow,hi,c,Result.andThen,Result.evThen]
theorem Zq.HX {d:TypeId} {m:TypeInfo} {z:Value} (D:y.rel=false) (f:Uh b ops i op) (E:op.op=.alloc d) (F:op.guard=none) (hi:P.info? d=some m) (I:m.zero=some z)
  (h:∀r,H.fresh r->(∀c v,y.η c=some v->c<r)->Zq P Q mn {y with η:=upd y.η r (some (z.cells,d))} (Η b (put op t (ptr r 0)) (.inRegion ops rest::k)) cs H):Zq P Q mn y (Η b t (.inRegion ops (i::rest)::k)) cs H:=by
 refine Goes.step (Yc.ok (.inl D)) (.inr ⟨⟨rfl,rfl⟩,.inl λw n hv=>?_⟩);obtain⟨s,J⟩:=w9 (P:=P) hi I w;have K:Region.wanted op (yielded ops t)=true:=by unfold Region.wanted;rw[F]
 have L:stepG P mn (Go.Conc.G (Η b t (.inRegion ops (i::rest)::k)) cs) w=.go (Go.Conc.G (Η b (put op t (ptr w.heap.size 0)) (.inRegion ops rest::k)) cs) (w.alloc (.cells z.cells d (0,0))) #[]:=by
  have e:execOp (ZX t) op=(do pure (.value (<-Instr.alloc d true (.tuple #[])))):=by unfold execOp;rw[E]
  rw[Xd f.run f.ro,Xd f.run f.ro,<-PT];have M:(execOp (⟨t,b.defers⟩:_root_.Go.Act).eval op).run P w=.ok (.value (ptr w.heap.size 0)) (w.alloc (.cells z.cells d (0,0))):=by rw[UF,e];simp[s,Result.andThen]
  have g:(execOp (⟨t,b.defers⟩:_root_.Go.Act).eval op).events P w #[]=#[]:=by rw[UF,e];simp[s,J,Result.evThen]
  rw[stepG_value f.op K f.kd M];unfold listed;rw[g,seen_none]
 rw[L];have u:=(YA.start n).row z.cells d;have j:Ψ.fresh H w.heap.size:=n.fresh;have N:Sub H (H.YJ w.heap.size z.cells d):=by
  refine⟨λc o v p a=>⟨p,?_,id⟩,λc x a=>?_,λc x a=>a⟩
  .have:c≠w.heap.size:=λe=>by rw[e,j.1 o] at a;cases a
   simpa[Ψ.YJ,this] using a
  .have:c≠w.heap.size:=λe=>by rw[e,j.2.1] at a;cases a
   simpa[Ψ.YJ,this] using a
 have A:∀c v,y.η c=some v->c<w.heap.size:=λc v a=>by
  have:=hv c v.1 v.2 a;exact(UA.1 this).1
 refine⟨H,upd y.η w.heap.size (some (z.cells,d)),⟨rfl,rfl⟩,u.keeps,N.fits u.fit,λc c' t' a=>?_,⟨λc o v p a=>.inr ⟨v,p,a,id⟩,λc a=>.inr a⟩,λc c' a=>?_,λe g=>by simp at g,λc c' _ _ e g=>by simp at g,h _ j A⟩
 .by_cases e:c=w.heap.size
  .subst e;rw[upd_same] at a;cases a;exact Lz
  .rw[upd_ne _ _ e] at a;have B:=hv c c' t' a;have C:=A c _ a;show(w.heap.push _)[c]?=_;rw[Array.getElem?_push_lt C];rw[X4 C] at B;exact B
 .by_cases e:c=w.heap.size
  .exact .inr ⟨Nat.le_of_eq e.symm,⟨λo ⟨x,l⟩=>(by rw[e,j.1 o] at l;cases l),λ⟨x,l⟩=>(by rw[e,j.2.2.1] at l;cases l)⟩⟩
  .rw[upd_ne _ _ e] at a;exact .inl a
theorem w8 {B:Type} {s:Nat}:upd (λ_=>(none:Option B)) s none=λ_=>none:=by
 funext i
 by_cases e:i=s
 .subst e;exact upd_same ..
 .exact upd_ne _ _ e
theorem Zq.group {sp:Spec} {s m o:Nat} {k l g:TypeId} {c:Array Value} (n:y.rel=false) (D:y.η=λ_=>none) (E:m<s) (F:s<o) (t:sp.Z0=some m) (j:H.fresh o) (I:sp.Yi [] (Ψ.empty.YJ o c g))
  (h:Zq P Q mn {y with tok:=upd y.tok s (.par 0 0 .add),spec:=upd y.spec s (some sp),view:=upd y.view s none} f cs H) :
  Zq P Q mn {y with η:=upd (upd (upd y.η m (some (#[.int .i32 0,.int .u32 0],l))) s (some (#[.int .u64 0,.int .u32 0],k))) o (some (c,g))} f cs H:=by
 have u:s≠o:=Nat.ne_of_lt F
 have w:m≠o:=U
 have A:m≠s:=Nat.ne_of_lt E;refine Goes.step (Yc.ok (.inl n)) (.inr ⟨⟨rfl,rfl⟩,.inr (.inr (.inr (.inr (.inr (.inr (.inr (.inr (.inr (.inr (.inl ⟨o,c,g,upd_same ..,?_⟩))))))))))⟩);refine Goes.step (Yc.ok (.inl n)) (.inr ⟨⟨rfl,rfl⟩,.inr (.inr (.inr (.inr (.inr (.inr (.inr (.inr (.inr (.inr (.inr ⟨s,sp,k,H,Ψ.empty.YJ o c g,?_,λK B=>?_,n,?_,λ_=>I,?_⟩))))))))))⟩)
 .show upd (upd _ o _) o none s=_;rw[upd_ne _ _ u,upd_ne _ _ u,upd_same]
 .rw[t] at B;cases B;refine⟨A,l,?_⟩;show upd (upd _ o _) o none m=_;rw[upd_ne _ _ w,upd_ne _ _ w,upd_ne _ _ A,upd_same]
 .refine⟨⟨λa q v p b=>⟨p,?_,id⟩,λa x b=>?_,λa x b=>b⟩,⟨λa q v p b=>⟨p,?_,id⟩,λa x b=>?_,λa x b=>(by cases b)⟩,⟨λa q ⟨v,hv⟩ ⟨x,d⟩=>?_,λa q ⟨v,hv⟩ ⟨x,d⟩=>?_,λa _ ⟨x,d⟩=>(by cases d)⟩⟩
  .have:a≠o:=λe=>by rw[e,j.1 q] at b;cases b
   simpa[this] using b
  .have:a≠o:=λe=>by rw[e,j.2.1] at b;cases b
   simpa[this] using b
  .by_cases e:a=o
   .simpa[Ψ.YJ,e] using b
   .simp[Ψ.YJ,e,Ψ.empty] at b
  .by_cases e:a=o
   .simpa[Ψ.YJ,e] using b
   .simp[Ψ.YJ,e,Ψ.empty] at b
  .by_cases e:a=o
   .rw[e,j.1 q] at hv;cases hv
   .simp[Ψ.YJ,e,Ψ.empty] at d
  .by_cases e:a=o
   .rw[e,j.1 q] at d;cases d
   .simp[Ψ.YJ,e,Ψ.empty] at hv
 .have e:(λa=>if a=s\/sp.Z0=some a then none else upd (upd (upd (upd y.η m (some (#[.int .i32 0,.int .u32 0],l))) s (some (#[.int .u64 0,.int .u32 0],k))) o (some (c,g))) o none a)=y.η:=by
   funext a
   rw[D];by_cases i:a=s\/sp.Z0=some a
   .rw[if_pos i]
   .rw[if_neg i];rw[t] at i;have Χ:a≠s:=λe=>i (.inl e);have J:a≠m:=λe=>i (.inr (by rw[e]));by_cases r:a=o
    .rw[r,upd_same]
    .rw[upd_ne _ _ r,upd_ne _ _ r,upd_ne _ _ Χ,upd_ne _ _ J]
  have C:Goes P Q mn (Go.Conc.G f cs) {y with G:=H,η:=y.η,tok:=upd y.tok s (.par 0 0 .add),spec:=upd y.spec s (some sp),view:=upd y.view s none}:=h;rw[<-e] at C;exact C
theorem Zq.Jl {s n p:Nat} {sp:Spec} {g:FuncId} {d:Array Value} (f:y.rel=false) (h:y.deaf=0) (j:y.spec s=some sp) (l:y.tok s=.par n (p+1) .add) (c:Uh b ops i op) (m:op.guard=none) {fo:Operand} {o:Array TypeId} (r:op.op=.go ⟨.value fo,#[],o⟩) (u:op.dst=none)
  (hv:ZX t fo=.func (.func g) #[] d) {S:Α} (v:Holds S [] [] H) (x:Zq P Q mn {y with tok:=upd y.tok s (.par n p .add),view:=upd y.view s none} (Η b t (.inRegion ops rest::k)) cs (Rj S H))
  (A:Goes P Q false (born P ⟨.fn (.func g) d,#[]⟩) {ZR (UC s sp) s (.ch (n-(p+1)) .idle .work) none 0 with G:=T' S}):Zq P Q mn y (Η b t (.inRegion ops (i::rest)::k)) cs H:=by
 have B:Region.wanted op (yielded ops t)=true:=by unfold Region.wanted;rw[m]
 have C:∀w,stepG P mn (Go.Conc.G (Η b t (.inRegion ops (i::rest)::k)) cs) w=.spawn (Go.Conc.G (Η b t (.inRegion ops rest::k)) cs) (born P ⟨.fn (.func g) d,#[]⟩) w #[]:=λw=>by
  have e:execOp (ZX t) op=(do pure (.spawn (<-Deferred.ofValue (ZX t fo) (#[].map (ZX t))))):=by unfold execOp;rw[r];rfl
  rw[Xd c.run c.ro,Xd c.run c.ro];have D:(execOp (⟨t,b.defers⟩:_root_.Go.Act).eval op).run P w=.ok (.spawn ⟨.fn (.func g) d,#[]⟩) w:=by rw[UF,e,hv];simp[Deferred.ofValue,Result.andThen]
  have E:(execOp (⟨t,b.defers⟩:_root_.Go.Act).eval op).events P w #[]=#[]:=by rw[UF,e,hv];simp[Deferred.ofValue,Result.andThen,Result.evThen]
  rw[stepG_spawn (a:=⟨t,b.defers⟩) c.op B c.kd D rfl];have:(⟨t,b.defers⟩:_root_.Go.Act).put op.dst undef=⟨t,b.defers⟩:=by rw[u];rfl
  rw[this];unfold listed;rw[E,seen_none]
 refine Goes.step (Yc.ok (.inl f)) (.inr ⟨⟨rfl,rfl⟩,.inr (.inr (.inr (.inr (.inr (.inr (.inr (.inr (.inl ⟨s,sp,n,p,Go.Conc.G (Η b t (.inRegion ops rest::k)) cs,born P ⟨.fn (.func g) d,#[]⟩,Rj S H,T' S,j,l,h,⟨rfl,rfl⟩,⟨rfl,rfl⟩,f,λw _=>C w,xD v,x,?_⟩))))))))⟩);have e:({ZR (UC s sp) s (.ch (n-(p+1)) .idle .work) none 0 with G:=T' S}:γ)=⟨T' S,λ_=>none,upd (λ_=>.nil) s (.ch (n-(p+1)) .idle .work),upd (λ_=>none) s (some sp),λ_=>none,0,false⟩:=by
  unfold ZR;simp only[w8]
 rw[<-e];exact A
end
end Go.TL
namespace Go.TL
open Go.Proofs.Tryz
open Go.Conc Go.Proofs
open Go.ConcN (sumTo upd sumTo_upd upd_ne upd_same sumTo_congr le_sumTo)
noncomputable def NI:Code:=f116.body.getD .skip
noncomputable def Ex:Code:=YC [1,1,1,1,0,1,0,0,1,1,0,0,1,1,0,0,1,1,0,0,1] NI
noncomputable abbrev JO (vs:Array Value):Frame:=Frame.enter prog 116 vs .normal
abbrev env0 (s m o:Nat) (a:ο) (rest:Ι):Ι:=(5,.z (ptr o 0))::(4,.z (ptr s 0))::(3,.z (ptr m 0))::(1,ZW a)::rest
abbrev NH (s m o:Nat) (c:ο) (a b:Int) (rest:Ι):Ι:=(7,.Ε [R b])::(6,.Ε [R a])::env0 s m o c rest
structure JN (a:ο) (fd:Nat->Option Found) (pr:Nat->Int×Int) (F:Nat->Found) (N:Nat->Nat):Prop where
 look:∀k,k<3->∀c:ZS,@Ν c prog 143 [Zd a,Zo (pr k)] (Y0 (F k))
 many:∀k,k<3->∀c:ZS,@Ν c prog 78 [Y0 (F k),R (-1)] (R (N k))
 fd:∀k,fd k=if k<3/\0<N k then some (F k) else none
theorem JN.QC {a:ο} {fd:Nat->Option Found} {pr:Nat->Int×Int} {F:Nat->Found} {N:Nat->Nat} (h:JN a fd pr F N) (L:List Nat) (b:L.Nodup):(L.filterMap fd).length<=3:=by
 have c:L.filterMap fd=(L.filter (· < 3)).filterMap fd:=by
  rw[List.filterMap_filter];congr 1
  funext k
  by_cases e:k<3
  .simp[e]
  .simp[e,h.fd k]
 rw[c];refine Xs (List.length_filterMap_le ..) ?_;have d:(L.filter (· < 3)).Nodup:=b.filter _;exact G9 3 _ d λk f=>by simpa using (S0.1 f).2
variable [ZS]
theorem V.boxed {P:Program} {p:Value->Prop} {mn:Bool} {z:W'} {b:Frame} {cs:List Frame} {nt:Nat} {o:Base} {k:List Item} {env:Ι} {σ:Υ} {ops:Array Oper} {i:Nat} {rest:List Nat} {g:Oper}
  (x:Seq z) (y:b.mode=.run) (A:b.roundOf=none) (C:ops[i]?=some g) (D:g.guard=none) {f:TypeId} {d:Operand} (E:g.op=.box f d) {l:ψ} (F:π env d=.Z9 l) (J:l.all (I.YP [])=true) (K:0<l.length)
  (h:∀(S:Α) (B:θ) (H:Ψ) (t:Array Value) (r:Nat) (c:Array Value),Ye o.m o.S o.B o.H o.σ S B H σ->XN o.m nt S B H σ env t->H.fresh r->(∃v,(S.lay r c) r 0=some v)->ZC S (S.lay r c) B B σ σ->Ext S B H (S.lay r c) B (H.YJ r c f)->Holds (S.lay r c) B σ (H.YJ r c f)->Θ (S.lay r c) B σ (.Ε l) (ptr r 0)->
   ξ P p mn z (Η b (put g t (ptr r 0)) (.inRegion ops rest::k)) cs (H.YJ r c f)):V P p mn z b cs nt o (.inRegion ops (i::rest)::k) env σ:=by
 intro S B H t L j;refine .op x y C (by unfold Region.wanted;rw[D]) (.inl A) ?_;have e:execOp (ZX t) g=(do pure (.value (<-Instr.box f (ZX t d)))):=by unfold execOp;rw[E]
 have n:=UN j.Zr d;rw[F] at n;rw[e];refine Ω.bind' ?_;unfold Instr.box;refine Ω.bind' ?_;unfold newVar newRow;have s:=Oi (σ:=σ) J;have M:=(n.cells (a:=.Z9 l) s).1;refine Ω.bind' ⟨rfl,λr u=>Ω.pure' (Ω.pure' (Ω.pure' ?_))⟩;obtain⟨N,O,w⟩:=j.holds.lay (c:=(ZX t d).cells) (t:=f) u;have Q:0<(ZX t d).cells.size:=by rw[M];exact K
 exact h S B H t r _ L j u ⟨(ZX t d).cells[0],by simp[Α.lay,Q]⟩ w O N (GQ w (XE.one n s))
section
variable {y:γ} {Q:Value->Prop} {mn:Bool} {β s m o n:Nat} {X5:Α} {H1:Ψ} {fd:Nat->Option Found} {pr:Nat->Int×Int} {F:Nat->Found} {N:Nat->Nat} {sp:Spec} {XA:ο} {v:Option (Nat×ν)} {vs:Array Value} {cs:List Frame} {k:List Item} {rest:Ι}
theorem HW {a b:Int} (T:pr n=(a,b)) (f:UE y s sp) (ad:sp.Z0=some m) (ae:sp.Yi=OP β X5 o fd) (af:∀k,sp.D k Ψ.empty) (aR:sp.top=3) (J:n<3) (j:JN XA fd pr F N) (ag:∃q v,X5 β q=some v) (ah:∃q x,H1.ς β q=some x) (ai:∀p∈rest,p.1∉[16,15,7,6,5,4,3,1]/\Z' rest p.1=p.2)
  (aj:V prog Q mn (one (ZR y s (.par (n+1) 0 .add) none 0)) (JO vs) cs 23 ⟨X5,[],H1,[],0⟩ k ((6,.Ε [R a])::env0 s m o XA rest) []) :
  V prog Q mn (one (ZR y s (.par n 0 .add) v 0)) (JO vs) cs 23 ⟨X5,[],H1,[],0⟩ (.code Ex::k) (NH s m o XA a b rest) []:=by
 letI:ZS:=Yo;obtain rfl:a=(pr n).1:=by rw[T]
 obtain rfl:b=(pr n).2:=by rw[T]
 have w:=f.seq;refine V.XK (w _ _ _) rfl ?_;simp only[Ex,NI,f116,Option.getD_some,YC];refine Y' ?_;refine W.Zt (.stop ?_);refine V.call (w _ _ _) ⟨rfl,rfl,by simp[Frame.enter],rfl⟩ rfl rfl rfl ⟨_,func140,rfl,rfl⟩ λS B H t aS ak c hv=>?_;obtain rfl:=Ug (l:=[ptr s 0,.int .i64 1]) hv;obtain rfl:B=[]:=YV.1 c.holds.len;rintro al rfl;refine x5 f U c.holds λaT X aU Y am=>?_;rw[Wr rfl];have Z:ZC S X [] [] [] []:=⟨Y.YX,λid r h=>by simp at h⟩;refine V.here (x:=one _) (m:=0) (nt:=23) (S:=X) (B:=[]) (σ:=[]) (env:=(15,.z (.tuple #[]))::NH s m o XA (pr n).1 (pr n).2 rest) ?_ ⟨am,YS.later (YS.put c.Zr (d:=15) (by rw[c.size];omega) (.z (.tuple #[]))) Z,XU (T3 ..) c.size,ω _⟩ _ rfl;refine V.XK (w _ _ _) rfl ?_;refine W.ZM ?_;refine W.Zt ?_;refine XW [0] [1] ?_;refine W.stop ?_;intro A an ao t3 ap e;obtain rfl:an=[]:=YV.1 e.holds.len;rintro al rfl;have K:=e.Zr 16;simp only[Z',if_true] at K;obtain⟨aV,aa⟩:=Z8 (t3.getD 16 undef);rw[<-aa] at K;have M:Ye 0 X5 [] H1 [] A [] ao []:=ak.trans ((Ye.of Y Z).trans ap);cases K with
 | fn w1 aq ar au aW C=>
  have av:w1=#[]:=Ma (by rw[<-ar];rfl);subst av;obtain⟨l2⟩:=aq
  match l2,au with
  | [ab,aw,ax,ay,az,aA],_=>
   have aB:ab=ptr s 0:=by have:=C 0 _ _ rfl rfl;cases this;rfl
   have aC:az=ptr m 0:=by have:=C 4 _ _ rfl rfl;cases this;rfl
   have aD:aA=ptr o 0:=by have:=C 5 _ _ rfl rfl;cases this;rfl
   subst aB;subst aC;subst aD;have aE:X1 A [] [] (HZ s m o XA (pr n).1 (pr n).2) (JQ s m o aw ax ay):=⟨rfl,λi a v E O=>C i a v E O⟩;refine Zq.Jl (s:=s) (n:=n+1) (p:=0) (sp:=sp) f.rel rfl f.spec Zx ⟨rfl,rfl,by simp[Frame.enter],rfl⟩ rfl rfl rfl aa.symm (S:=A) e.holds ?_ ?_
   .rw[W6];have aF:=xA e.holds;have aG:∀g:I,∀p∈(6,.Ε [R (pr n).1])::env0 s m o XA rest,Z' ((16,g)::(15,.z (.tuple #[]))::NH s m o XA (pr n).1 (pr n).2 rest) p.1=p.2:=λg p c=>by
     simp only[env0,YZ] at c;rcases c with rfl|rfl|rfl|rfl|rfl|c<;>first|rfl|skip
     obtain⟨E,O⟩:=ai p c;simp only[YZ,XY,or_false,not_or] at E;obtain⟨aH,aI,aJ,aK,aL,aM,aN,aO⟩:=E;simp only[Z',Y2 aH,Y2 aI,Y2 aJ,Y2 aK,Y2 aL,Y2 aM,Y2 aN,Y2 aO,if_false];exact O
    refine V.XK (w (.par (n+1) 0 .add) none 0) rfl (W.ZM (W.forget ((6,.Ε [R (pr n).1])::env0 s m o XA rest) (aG _) (.stop aj))) A [] _ t3 (M.trans (Ye.of aF (ZC.refl ..))) ⟨xC e.holds,e.Zr,e.size,ω _⟩ _ rfl
   .refine xm ad U ae (af _) (j.look n J) (j.many n J) ?_ (λL aP=>?_) ?_ (λb q u P=>?_) aE
    .show fd n=_;rw[j.fd n];simp[J]
    .rw[Yb];have:=j.QC L aP;omega
    .obtain⟨q,u,P⟩:=ag;exact⟨q,u,M.ext.YX _ _ _ P⟩
    .obtain⟨aX,ab,aQ⟩:=ah;rcases M.ext.RF b q u P with h|⟨N,h⟩|h
     .exact .inl (by rw[h];simp)
     .simp at h
     .exact .inr (H3 aQ h)
end
end Go.TL
namespace Go.TL
open Go.Proofs.Tryz
open Go.Conc Go.Proofs
open Go.ConcN (sumTo upd sumTo_upd upd_ne upd_same sumTo_congr le_sumTo)
structure Calm (y:γ):Prop where
 rel:y.rel=false
 η:y.η=λ_=>none
 deaf:y.deaf=0
 shut:∀s,Xy (y.tok s)
def calm:W':=Calm
@[reducible] def Sz:ZS:=⟨λx=>x=calm⟩
variable [ZS]
def Qt (x y:Found):Int:=Sd (x.u,x.v) (y.u,y.v)
def S9 (x y:Found):Prop:=x.u<y.u\/(x.u=y.u/\x.v<y.v)
theorem w7 (x y:Found):YD Qt x y=true↔S9 x y:=by
 have h:=QB (x.u,x.v) (y.u,y.v)
 have e:YD Qt x y=YD Sd (x.u,x.v) (y.u,y.v):=rfl;rw[e,h];simp[S9]
theorem w6:Go.Sort.SWO (YD Qt) where
 irrefl x:=Kn.irrefl (x.u,x.v)
 trans x y z:=Kn.trans (x.u,x.v) (y.u,y.v) (z.u,z.v)
 ntrans x y z:=Kn.ntrans (x.u,x.v) (y.u,y.v) (z.u,z.v)
instance:Inhabited Found:=⟨⟨0,0,[]⟩⟩
theorem w5 {m:List Found} (h:m.Pairwise S9):∀a∈m,∀b∈m,¬S9 a b->¬S9 b a->a=b:=by
 induction h with
 | nil=>intro a c;cases c
 | cons d o l=>
  intro a c b n e f;rcases YZ.1 c with g|i<;>rcases YZ.1 n with j|k
  .rw[g,j]
  .exact absurd (g▸d b k) e
  .exact absurd (j▸d a i) f
  .exact l a i b k e f
theorem wZ {l m:List Found} (r:l.Perm m) (e:m.Pairwise S9):(Go.Sort.insertionSort (YD Qt) l.toArray 0 l.length).toList=m:=by
 obtain⟨⟨f,_,c⟩,g⟩:=Go.Sort.insertionSort_holds (lt:=YD Qt) w6 l.toArray 0 l.length (ω _) J;generalize Go.Sort.insertionSort (YD Qt) l.toArray 0 l.length=d at f c g;have n:d.size=l.length:=by simpa using f
 have s:d.extract 0 l.length=d:=by rw[<-n];exact Array.extract_size
 have Χ:l.toArray.extract 0 l.length=l.toArray:=by
  simp
 rw[s,Χ] at c;have o:d.toList.Perm m:=c.trans r;have t:∀x y,YD Qt x y=false↔¬S9 x y:=λx y=>by rw[<-w7];simp
 refine JC (le:=λx y=>¬S9 y x) (λa b u v w A=>?_) ?_ (e.imp λ{a b} h k=>?_) o
 .exact w5 e a (o.mem_iff.1 u) b v A w
 .rw[S4];intro i j hi p B;have:=g i j (ω _) B (by simpa[n] using p);rw[t] at this;rw[getElem!_pos d j (by simpa using p),getElem!_pos d i (by simpa using hi)] at this;simpa using this
 .simp only[S9] at h k;omega
theorem wY {a:Nat->Ψ->Prop} (b:∀k E,a k E->E=Ψ.empty):∀(L:List Nat) (E:Ψ),UR a L E->E=Ψ.empty:=by
 intro L
 induction L with
 | nil=>intro E h;exact h
 | cons k i c=>
  rintro E ⟨d,e,f,g,_,rfl⟩;rw[b k d f,c e g];exact Jo _
end Go.TL
namespace Go.TL
open Go.Proofs.Tryz
open Go.Conc Go.Proofs
open Go.ConcN (sumTo upd sumTo_upd upd_ne upd_same sumTo_congr le_sumTo)
abbrev JM:I:=.fn (.func 148) [] []
theorem wX [ZS] (x y:Found):VM prog JM [Y0 x,Y0 y] (R (Qt x y)):=λσ=>(Ak x y).c (ZZ.refl _) J J ⟨rfl,rfl⟩
section
variable {y:γ} {Q:Value->Prop} {mn:Bool} {β s m o:Nat} {PK X5:Α} {RZ H1:Ψ} {fd:Nat->Option Found} {sp:Spec} {XA:ο} {v:Option (Nat×ν)} {vs:Array Value} {c:Frame} {cs:List Frame}
theorem wW (Z:UE y s sp) (an:sp.Z0=some m) (ao:sp.Yi=OP β X5 o fd) (ap:∀k E,sp.D k E->E=Ψ.empty) (aq:∀L:List Nat,L.Nodup->(L.filterMap fd).length<=3) {d:List Found} (ar:(List.range 3).filterMap fd=d) (au:d.Pairwise S9)
  (av:∀v,Calm (ZR y s (.par 3 0 .Z4) v 0)) (aw:O8 prog Q mn calm c cs PK [] RZ [] (λa s=>Y4 a (Y8 d)/\s=[]) (λ_ _=>False)) (ax:Ext PK [] RZ X5 [] H1) (ay:RZ.fresh β) :
  V prog Q mn (one (ZR y s (.par 3 0 .add) v 0)) (JO vs) (c::cs) 23 ⟨X5,[],H1,[],0⟩ [.code (YC [1,1,1,1,1] NI)] (env0 s m o XA []) []:=by
 letI:ZS:=Yo;have F:=Z.seq;refine V.XK (F _ _ _) rfl ?_;simp only[NI,f116,Option.getD_some,YC];refine Y' ?_;refine W.Zt (.stop ?_);refine V.call (F _ _ _) ⟨rfl,rfl,by simp[Frame.enter],rfl⟩ rfl rfl rfl ⟨_,func146,rfl,rfl⟩ λS B H t a4 g A hv=>?_;obtain rfl:=Ug (l:=[ptr s 0]) hv;obtain rfl:B=[]:=YV.1 A.holds.len;rintro az rfl;refine xZ Z A.holds (n:=3) λI H' aA aa aB a5 C ab a6 aC aD a7 a8 aE a9 aF aG a' aH O=>?_;rw[Wr rfl];obtain rfl:=wY ap aA aB aC;rw[Jo] at O;obtain⟨ad,ae⟩:=aD (by rw[an];simp);rw[ao] at ae;obtain⟨hi,K,M,P,aI⟩:=ae;obtain⟨w,f1,f2,f3⟩:=aF;obtain⟨G,R⟩:=Z8 (aa.filterMap fd);have T:G.Perm d:=by rw[R,<-ar];exact ad.filterMap _
 have ba:G.length<=3:=by rw[R];exact aq aa (ad.nodup_iff.2 LZ)
 rw[<-R] at P;obtain⟨aJ,l1,l2⟩:=EG ab P aE ⟨w,f1,f3⟩ (JR _);have aK:=xx (ax.trans (g.ext.trans C)) (g.ext.trans C).YX ay hi ab P (JR _);obtain⟨aL,aM⟩:=aJ.QU (λb aN=>O.QU aN) O.grow;have aO:=aK.trans aM;have aP:t.getD 5 undef=ptr o 0:=by
  have:=A.Zr 5;simp only[Z'] at this;generalize t.getD 5 undef=u at this;cases this;rfl
 have aQ:YS (I.plus K) M (Xc (G.map Y0)) [(5,.Ο 0 1 0 0)] (t.setIfInBounds 19 (.tuple #[])):=λi=>by
  simp only[Z'];split
  .rename_i e;subst e;have aR:(t.setIfInBounds 19 (.tuple #[])).getD 5 undef=ptr o 0:=by
    rw[<-aP,W3,W3,Vp Z2]
   rw[aR];have:=Θ.Ο (S:=I.plus K) (B:=M) (σ:=Xc (G.map Y0)) (id:=0) (n:=1) (i:=0) (j:=0) (k:=1) (t:=99) (l:=[Qu (G.map Y0)]) (b:=o) (N:=1) (by simp[Xc]) rfl aI;simpa using this
  .exact .Zw _
 refine V.here (x:=one _) (m:=0) (nt:=23) (S:=I.plus K) (B:=M) (σ:=Xc (G.map Y0)) (env:=[(5,.Ο 0 1 0 0)]) ?_ ⟨aL,aQ,XU (T3 ..) A.size,ω _⟩ _ rfl;have af:∀(e:Bool) (k:Nat),Y4 (.sl e k (d.map Y0)) (Y8 d)->V prog Q mn (one (ZR y s (.par 3 0 .Z4) aG 0)) (JO vs) (c::cs) 23 ⟨I.plus K,M,aH,Xc (G.map Y0),0⟩ [.code .ret] [(2,.sl e k (d.map Y0))] []:=λe k aS=>by
  intro bb aT bc t5 aU X;obtain rfl:aT=[]:=YV.1 X.holds.len;refine ξ.ret (F _ _ _) rfl rfl (ξ.back (F _ _ _) rfl rfl (.inl rfl) func116 ?_);refine Ω.mono (λu aV ⟨aW,aX,aY,bd,ag,aZ⟩=>?_) (λ_ _ h=>h) _ (KL Τ (a:=.sl e k (d.map Y0)) rfl X.holds X.Zr);obtain rfl:aX=[]:=YV.1 ag.len;rintro az rfl;have ah:=aO.trans (aU.ext.trans aY);exact aw.ret _ [] aW [] aV u ⟨aS,rfl⟩ ah ⟨ah.YX,λid r h=>by simp at h⟩ ag aZ _ (av _)
 refine V.XK (F _ _ _) rfl ?_;refine W.ZM ?_;have a0:∀e∈G.map Y0,∀a∈e.cells,Γ 0 a:=λe C a g=>by
  obtain⟨z,_,rfl⟩:=YK.1 C;exact N2 z a g
 by_cases ai:G=[]
 .subst ai;have a1:d=[]:=T.symm.eq_nil;subst a1;refine Y' ?_;refine YH λY f=>?_;simp;(repeat (rw[Μ];simp[Xc,H0,VY]));refine Ν.c (zB JM J) (ZZ.refl _) J J ?_;simp;(repeat (rw[Μ];simp));apply f;refine ZB λY f=>?_;apply f;refine W.cut 0 (ω _) [(2,.sl true 0 [])] (ω _) (λid r h=>U) (by simp;exact .low J) ?_;exact .stop (af _ _ .nil)
 .have aj:G.map Y0≠[]:=by simpa using ai
  have a2:=wZ T au;refine Y' ?_;refine YH λY f=>?_;simp;(repeat (rw[Μ];simp[Xc,JS aj,Yz aj]));have ak:=Ab G.toArray G.length J U JM Qt J wX;rw[a2] at ak;have a3:d.length=G.length:=T.length_eq.symm;have al:Γ 0 JM:=J;have am:∀e∈d.map Y0,∀a∈e.cells,Γ 0 a:=λe C a g=>by
   obtain⟨z,_,rfl⟩:=YK.1 C;exact N2 z a g
  refine Δ.one ak 1 rfl a0 am (by simp[Tm,O2,al.V9 1]) (by simp[Xi]) (by simp[Tl,Tk,al.Yt [1]]) ?_;simp[Yt,Wp];(repeat (rw[Μ];simp));apply f;refine ZB λY f=>?_;apply f;refine W.cut 0 (ω _) [(2,.sl false 3 (d.map Y0))] (ω _) (λid r h=>U) (λp A=>?_) ?_
  .obtain rfl:p=(2,.sl false 3 (d.map Y0)):=by simpa using A
   refine Yu.own (id:=1) (t:=110) (ω _) rfl (by simp[a3]) am
  .exact .stop (af _ _ (.refl _))
end
theorem HV {P:Program} {b:TypeId} {z:Value} (h:((P.info? b).bind (·.zero))=some z):∃a,P.info? b=some a/\a.zero=some z:=by
 cases hi:P.info? b with
 | none=>rw[hi] at h;cases h
 | some a=>rw[hi] at h;exact⟨a,rfl,h⟩
theorem wV:((prog.info? 173).bind (·.zero))=some (.agg #[.int .i32 0,.int .u32 0]):=by kernel_rfl
theorem wU:((prog.info? 179).bind (·.zero))=some (.agg #[.int .u64 0,.int .u32 0]):=by kernel_rfl
theorem wT:((prog.info? 99).bind (·.zero))=some (.slice none 0 0):=by kernel_rfl
theorem wS {o:Nat}:Holds X0 [some (o,1)] (Xc []) (Ψ.empty.YJ o #[.slice none 0 0] 99):=by
 have b:Holds X0 [] [] Ψ.empty:=NR _
 have c:XE X0 [] [] #[.slice none 0 0] 1 [.sl true 0 []]:=XE.one (a:=.sl true 0 []) (v:=.slice none 0 0) (.WB none 0 λ_=>rfl) rfl;exact(M0 (P:=prog) (K:=λr G=>Holds X0 [some (r,1)] (Xc []) G) (E:=λ_ _=>False) b c 99 λr _ d _ _=>d).2 o ⟨λ_=>rfl,rfl,rfl,λ_ _=>⟨λ_=>rfl,rfl,rfl⟩⟩
section
variable {fd:Nat->Option Found} {pr:Nat->Int×Int} {F:Nat->Found} {N:Nat->Nat} {XA:ο} {HU:List Found}
theorem wR (X:JN XA fd pr F N) (av:pr 0=(1,0)) (aw:pr 1=(2,0)) (ax:pr 2=(2,1)) (ay:(List.range 3).filterMap fd=HU) (az:HU.Pairwise S9):@Ν Sz prog 116 [Zd XA] (Y8 HU):=by
 refine⟨⟨_,func116,rfl,rfl⟩,λa4 mn x c rest ak aA af vs aB al aC aD=>?_⟩;obtain rfl:x=calm:=@Seq.cls Sz x aB;obtain rfl:aA=[]:=YV.1 al.len;rintro y ⟨f,Y,aE,am⟩;letI:ZS:=Yo;have ag:Seq (one y):=Seq.PS trivial f Y;rw[Sc (body:=NI) func116 rfl];refine V.here (x:=one y) (m:=0) (nt:=23) (S:=ak) (B:=[]) (H:=af) (σ:=[]) (env:=entry 0 [Zd XA]) ?_ (XN.enter al aC (ZO _) J) y rfl;refine V.XK ag rfl ?_;simp only[NI,f116,Option.getD_some];refine Y' ?_;refine W.Zt (.stop ?_);refine V.boxed ag rfl rfl rfl rfl rfl (l:=[ZU XA.Κ,Z3 XA.Β,Vx XA.cells]) rfl rfl J λS B H t r aF an w aG aH aI aJ aK aL=>?_;obtain rfl:B=[]:=YV.1 w.holds.len;refine V.here (x:=one y) (m:=0) (nt:=23) (S:=S.lay r aF) (B:=[]) (σ:=[]) (env:=[(1,ZW XA)]) ?_
  ⟨aK,OO (YS.put (w.Zr.later aI) (d:=1) (by rw[w.size];omega) aL) J,XU (T3 ..) w.size,ω _⟩
 refine V.XK ag rfl ?_;refine XW [1] [] ?_;refine W.ZM ?_;refine Y' ?_;refine W.Zt (.stop ?_);intro L aM ao t2 ap j;obtain rfl:aM=[]:=YV.1 j.holds.len;rintro i rfl;obtain⟨a5,aN,aO⟩:=HV wV;obtain⟨a6,aP,aQ⟩:=HV wU;obtain⟨a7,aR,aS⟩:=HV wT;refine Zq.HX f ⟨rfl,rfl,by simp[Frame.enter],rfl⟩ rfl rfl aN aO λm a8 _=>?_;refine Zq.next ?_ ?_ ?_
 .exact .inl f
 .rfl
 refine Zq.HX ?_ ⟨rfl,rfl,by simp[Frame.enter],rfl⟩ rfl rfl aP aQ λs a9 aT=>?_
 .exact f
 refine Zq.next ?_ ?_ ?_
 .exact .inl f
 .rfl
 refine Zq.HX ?_ ⟨rfl,rfl,by simp[Frame.enter],rfl⟩ rfl rfl aR aS λo aq aU=>?_
 .exact f
 have aV:m<s:=aT m _ (upd_same ..)
 have aW:s<o:=aU s _ (upd_same ..);obtain⟨sp,M⟩:∃sp:Spec,sp=⟨some m,OP r L o fd,λ_ E=>E=Ψ.empty,3⟩:=⟨_,rfl⟩;have Z:∃q v,L r q=some v:=let ⟨u,ah⟩:=aH;⟨0,u,ap.ext.YX _ _ _ ah⟩;have aa:∃q x,ao.ς r q=some x:=let ⟨q,u,ah⟩:=Z;let ⟨p,w⟩:=j.holds.YX _ _ _ ah;⟨q,_,w⟩;have ar:r<o:=let ⟨_,_,h⟩:=aa;H3 h aq;have O:sp.Z0=some m:=by rw[M]
 have P:sp.Yi=OP r L o fd:=by rw[M]
 have ab:∀k E,sp.D k E↔E=Ψ.empty:=λk E=>by rw[M]
 have ad:sp.top=3:=by rw[M]
 clear M;have aX:sp.Yi [] (Ψ.empty.YJ o #[.slice none 0 0] 99):=by
  rw[P];refine⟨⟨λb q x Q=>?_,λb x Q=>?_,λb x Q=>(by cases Q)⟩,X0,_,wS,rfl⟩
  .by_cases e:b=o
   .exact .inr (e▸ar)
   .simp[Ψ.YJ,e,Ψ.empty] at Q
  .by_cases e:b=o
   .exact e▸ar
   .simp[Ψ.YJ,e,Ψ.empty] at Q
 refine Zq.group (y:=i) (sp:=sp) f Y aV aW O aq aX ?_;obtain⟨ai,aj⟩:=Z8 ({i with spec:=upd i.spec s (some sp)}:γ);have aY:({i with tok:=upd i.tok s (.par 0 0 .add),spec:=upd i.spec s (some sp),view:=upd i.view s none}:γ)=ZR ai s (.par 0 0 .add) none 0:=by
  rw[aj];unfold ZR;simp only[aE]
 rw[aY];have T:UE ai s sp:=by
  rw[aj];refine⟨f,Y,upd_same ..,by rw[ad];decide,λC _=>?_⟩;have:=am C;show TS (i.tok C);cases au:i.tok C with
  | nil=>trivial
  | par n p aZ=>rw[au] at this;cases aZ<;>first|trivial|exact this.elim
  | ch k a' g=>rw[au] at this;exact this.elim
 have a0:∀v,Calm (ZR ai s (.par 3 0 .Z4) v 0):=λv=>by
  rw[aj];refine⟨f,Y,rfl,λC=>?_⟩;by_cases e:C=s
  .subst e;rw[Zx];trivial
  .rw[Mw e];exact am C
 have ae:=T.seq
 have a1:=X.QC
 have a2:Ext ak [] af L [] ao:=an.ext.trans (aJ.trans ap.ext)
 have a3:af.fresh r:=an.ext.grow _ aG;refine V.here (x:=one _) (m:=0) (nt:=23) (S:=L) (B:=[]) (σ:=[]) (env:=env0 s m o XA []) ?_
  ⟨j.holds,OO (YS.put (YS.put (YS.put j.Zr (d:=3) (by rw[j.size];omega) (.z (ptr m 0))) (d:=4) (by rw[T3,j.size];omega) (.z (ptr s 0))) (d:=5) (by rw[T3,T3,j.size];omega) (.z (ptr o 0))) J,
   XU (T3 ..) (XU (T3 ..) (XU (T3 ..) j.size)),ω _⟩ _ rfl
 have w1:IntKind.i64.wrap 1=1:=Z2
 have I:IntKind.i64.wrap 2=2:=Z2
 have K:IntKind.i64.wrap 3=3:=Z2;refine V.XK (ae _ _ _) rfl ?_;refine W.ZM ?_;refine WR ?_;refine .loop ?_;refine WR ?_;refine YR (A:=[6]) Τ λU a=>Z1 ?_;apply a;refine W.fix (id:=0) (σ':=[]) (ω _) rfl J J rfl ((6,.Ε [R 0])::env0 s m o XA [(8,R 0)]) J ?_;refine WR ?_;refine .loop ?_;refine WR ?_;refine W.exit rfl ?_;refine WQ (Ρ w1 (Ρ I K)) ?_;refine .inLoop ?_;refine WR ?_;refine YR (A:=[6]) Τ λU a=>Z1 ?_;apply a;refine W.fix (id:=0) (σ':=[]) (ω _) rfl J J rfl ((6,.Ε [R 1])::env0 s m o XA [(8,R 1)]) J ?_;refine WR ?_;refine .loop ?_;refine WR ?_;refine YR (A:=[7]) Τ λU a=>Z1 ?_;apply a;refine W.fix (id:=0) (σ':=[]) (ω _) rfl J J rfl (NH s m o XA 1 0 [(8,R 1),(11,R 1),(12,R 0)]) J ?_;refine W.stop (HW av T O P (λk=>(ab k _).2 rfl) ad Z2 X Z aa J ?_);refine V.XK (ae _ _ _) rfl ?_;refine WQ (Ρ w1 (Ρ I K)) ?_;refine .inLoop ?_;refine WR ?_;refine W.exit rfl ?_;refine WQ (Ρ w1 (Ρ I K)) ?_;refine .inLoop ?_;refine WR ?_;refine YR (A:=[6]) Τ λU a=>Z1 ?_;apply a;refine W.fix (id:=0) (σ':=[]) (ω _) rfl J J rfl ((6,.Ε [R 2])::env0 s m o XA [(8,R 2)]) J ?_;refine WR ?_;refine .loop ?_;refine WR ?_;refine YR (A:=[7]) Τ λU a=>Z1 ?_;apply a;refine W.fix (id:=0) (σ':=[]) (ω _) rfl J J rfl (NH s m o XA 2 0 [(8,R 2),(11,R 2),(12,R 0)]) J ?_;refine W.stop (HW aw T O P (λk=>(ab k _).2 rfl) ad Z2 X Z aa J ?_);refine V.XK (ae _ _ _) rfl ?_;refine WQ (Ρ w1 (Ρ I K)) ?_;refine .inLoop ?_;refine WR ?_;refine YR (A:=[7]) Τ λU a=>Z1 ?_;apply a;refine W.fix (id:=0) (σ':=[]) (ω _) rfl J J rfl (NH s m o XA 2 1 [(8,R 2),(11,R 2),(12,R 1)]) J ?_;refine W.stop (HW ax T O P (λk=>(ab k _).2 rfl) ad Z2 X Z aa J ?_);refine V.XK (ae _ _ _) rfl ?_;refine WQ (Ρ w1 (Ρ I K)) ?_;refine .inLoop ?_;refine WR ?_;refine W.exit rfl ?_;refine WQ (Ρ w1 (Ρ I K)) ?_;refine .inLoop ?_;refine WR ?_;refine W.exit rfl ?_;refine W.forget (env0 s m o XA []) J ?_;refine W.stop ?_;exact wW T O P (λk E=>(ab k E).1) a1 ay az a0 aD a2 a3
end
end Go.TL
namespace Go.TL
open Go.Proofs.Tryz
open Go.Proofs
variable [ZS]
def ο.XZ (s:ο) (n:Int):Bool:=decide (n< -1)||decide ((s.Κ.length:Int)<=n)
def U3 (s:ο) (e f:List Int) (a:Int):Int×Int:=
 if s.err≠0 then(0,s.err) else
 match e,f with
 | [b,c],[d,l1]=>if Xo b=false\/Xo c=false\/s.XZ d=true\/s.XZ l1=true\/a<0\/(s.Β.length:Int)<=a then(0,3) else if b<=c then(0,5) else(s.Yd (b,c) (d,l1) a.toNat,0)
 | _,_=>(0,8)
theorem wQ (s:ο) (n:Int):Ν prog 92 [R n,ZW s] (ZQ (s.XZ n)):=by
 refine Δ.body Τ func92 rfl rfl ntmps92 rfl rfl J ?_;by_cases h:n< -1
 .refine μ h ?_;refine W.rt ?_;exact .of (by simp[ο.XZ,h])
 .refine μ h ?_;refine W.rt ?_;exact .of (by simp[ο.XZ,h])
abbrev Ew (p:Int×Int):I:=.ZP [R p.1,R p.2]
theorem Ev (s:ο) (H:s.small) (l m:List Int) (g:Int):Ν prog 34 [Zd s,κ R 1 l,κ R 1 m,R g] (Ew (U3 s l m g)):=by
 refine Δ.body Τ func34 rfl rfl ntmps34 rfl rfl J ?_;refine Φ ?_;refine ZB λo f=>?_;refine Ν.d (ME s H) (Z1 ?_);apply f;refine Φ ?_;by_cases B:s.err=0
 case neg=>
  refine υ (by simp[B]) ?_;refine Φ ?_;refine W.rt ?_;exact .of (by rw[show U3 s l m g=(0,s.err) by unfold U3;rw[if_pos B]];rfl)
 refine χ (by simp[B]) ?_;refine Φ ?_;have hv:U3 s l m g=match (generalizing:=false) l,m with
   | [i,j],[k,l1]=>if Xo i=false\/Xo j=false\/s.XZ k=true\/s.XZ l1=true\/g<0\/(s.Β.length:Int)<=g then(0,3) else if i<=j then(0,5) else(s.Yd (i,j) (k,l1) g.toNat,0)
   | _,_=>(0,8):=by unfold U3;rw[if_neg (by simpa using B)]
 by_cases C:(l.length:Int)=2
 case neg=>
  have e:U3 s l m g=(0,8):=by
   rw[hv];split
   .simp at C
   .rfl
  refine XM C λo f=>?_;apply f;refine υ rfl ?_;refine Φ ?_;refine W.rt ?_;exact .of (by rw[e];rfl)
 by_cases F:(m.length:Int)=2
 case neg=>
  have e:U3 s l m g=(0,8):=by
   rw[hv];split
   .simp at F
   .rfl
  refine XM (Ρ C F) λo f=>?_;apply f;refine υ rfl ?_;refine Φ ?_;refine W.rt ?_;exact .of (by rw[e];rfl)
 obtain⟨i,j,rfl⟩:∃a b,l=[a,b]:=by
  match l,C with
  | [a,b],_=>exact⟨a,b,rfl⟩
  | [],h=>simp at h
  | [_],h=>simp at h
  | _::_::_::_,h=>simp at h;omega
 obtain⟨k,l1,rfl⟩:∃a b,m=[a,b]:=by
  match m,F with
  | [a,b],_=>exact⟨a,b,rfl⟩
  | [],h=>simp at h
  | [_],h=>simp at h
  | _::_::_::_,h=>simp at h;omega
 simp only at hv;refine ZB λo f=>?_;apply f;refine χ rfl ?_
 repeat apply Ζ
 have f3:(Xo i=false\/Xo j=false\/s.XZ k=true\/s.XZ l1=true\/g<0\/(s.Β.length:Int)<=g)->U3 s [i,j] [k,l1] g=(0,3):=λh=>by rw[hv];exact if_pos h
 have I:([k,l1].any s.XZ)=(s.XZ k||s.XZ l1):=J
 have call3:Ν prog 94 [κ R 1 [k,l1],.fn (.func 92) [] [ZW s]] (ZQ (s.XZ k||s.XZ l1)):=by
  rw[<-I];exact z8 [k,l1] _ s.XZ J (by simp[VN]) (λx _=>λ_=>(wQ s x).cc (by simp;exact ZZ.refl _) J J ⟨rfl,rfl⟩)
 cases u:Xo i
 case false=>
  have t:=f3 (.inl u);refine ZB λo f=>?_;refine Ν.d (SK i) (Xx u ?_);apply f;refine υ rfl ?_;refine Φ ?_;refine W.rt ?_;exact .of (by rw[t];rfl)
 cases v:Xo j
 case false=>
  have t:=f3 (.inr (.inl v));refine ZB λo f=>?_;refine Ν.d (SK i) (Xx u ?_);refine Ν.d (SK j) (Xx v ?_);apply f;refine υ rfl ?_;refine Φ ?_;refine W.rt ?_;exact .of (by rw[t];rfl)
 cases r:s.XZ k||s.XZ l1
 case true=>
  have t:=f3 (.inr (.inr (by rcases Bool.or_eq_true _ _ |>.mp r with h|h<;>simp[h])));refine ZB λo f=>?_;refine Ν.d (SK i) (Xx u ?_);refine Ν.d (SK j) (Xx v ?_);refine Ν.c call3 (ZZ.refl _) (by simp[VN]) J ?_;simp[r];(repeat (rw[Μ];simp[r]));apply f;refine υ rfl ?_;refine Φ ?_;refine W.rt ?_;exact .of (by rw[t];rfl)
 by_cases w:g<0
 .have t:=f3 (.inr (.inr (.inr (.inr (.inl w)))));refine ZB λo f=>?_;refine Ν.d (SK i) (Xx u ?_);refine Ν.d (SK j) (Xx v ?_);refine Ν.c call3 (ZZ.refl _) (by simp[VN]) J ?_;simp[r,w];(repeat (rw[Μ];simp[r,w]));apply f;refine υ rfl ?_;refine Φ ?_;refine W.rt ?_;exact .of (by rw[t];rfl)
 by_cases y:(s.Β.length:Int)<=g
 .have t:=f3 (.inr (.inr (.inr (.inr (.inr y)))));refine ZB λo f=>?_;refine Ν.d (SK i) (Xx u ?_);refine Ν.d (SK j) (Xx v ?_);refine Ν.c call3 (ZZ.refl _) (by simp[VN]) J ?_;simp[r,w,y];(repeat (rw[Μ];simp[r,w,y]));apply f;refine υ rfl ?_;refine Φ ?_;refine W.rt ?_;exact .of (by rw[t];rfl)
 have D:s.XZ k=false/\s.XZ l1=false:=by simpa using r
 rw[if_neg (by rw[u,v,D.1,D.2];simp;omega)] at hv;refine ZB λo f=>?_;refine Ν.d (SK i) (Xx u ?_);refine Ν.d (SK j) (Xx v ?_);refine Ν.c call3 (ZZ.refl _) (by simp[VN]) J ?_;simp[r,w,y];(repeat (rw[Μ];simp[r,w,y]));apply f;refine χ rfl ?_
 repeat apply Ζ
 refine QE ?_;by_cases E:i<=j
 .rw[if_pos E] at hv;refine υ (by simp[E]) ?_;refine Φ ?_;refine W.rt ?_;exact .of (by rw[hv];rfl)
 .rw[if_neg E] at hv;refine χ (by simp[E]) ?_;obtain⟨n,rfl⟩:∃n:Nat,g=n:=⟨g.toNat,U⟩;have K:n<s.Β.length:=U;have L:k<s.Κ.length:=by have:=D.1;simp[ο.XZ] at this;omega
  have M:l1<s.Κ.length:=by have:=D.2;simp[ο.XZ] at this;omega
  repeat apply Ζ
  refine W.draw (A:=[]) Τ mixed λo f=>VK ?_;refine Yl (Ν.p (MG s H (i,j) (k,l1) n K L M) (ZZ.refl _) J J) ?_;simp;(repeat (rw[Zf];simp));try rw[Zg]
  refine XL (f _ _ ?_);refine Φ ?_;refine W.rt ?_;exact .of (by rw[hv];rfl)
end Go.TL
namespace Go.TL
open Go.Proofs.Tryz
open Go.Proofs
def WX:Nat->Int×Int
 | 0=>(1,0)
 | 1=>(2,0)
 | _=>(2,1)
def Re (s:ο) (p:Int×Int):Found:=⟨p.1,p.2,(List.range s.cells.length).map (Td s p)⟩
def T9 (s:ο) (k:Nat):Option Found:=if k<3/\0<(Re s (WX k)).many (-1) then some (Re s (WX k)) else none
def U2 (s:ο):List Found:=(List.range 3).filterMap (T9 s)
structure Eu (N:Nat) (s:ο):Prop where
 small:s.small
 Κ:s.Κ.length<2 ^ 20
 lit:∀c∈s.cells,∀x∈c,0<=x.Zb/\x.Zb<s.Β.length
 reads:∀k,k<3->∀c,c<s.cells.length->(Td s (WX k) c).length<=N
 many:∀k,k<3->∀i,i<=s.cells.length->Ul (Re s (WX k)).cells (-1) i<2 ^ 62
abbrev Et (s:ο):Prop:=Eu 12 s
theorem wP {N:Nat} (n:N<2 ^ 20) (o:∀c:ZS,@Iz c N) {s:ο} (h:Eu N s):@P2 Sz s (U2 s):=λ_=>by
 refine wR (fd:=T9 s) (pr:=WX) (F:=λk=>Re s (WX k)) (N:=λk=>(Re s (WX k)).many (-1)) ⟨λk g c=>?_,λk g c=>?_,λk=>rfl⟩ rfl rfl rfl rfl ?_
 .exact @zl c s h.small h.Κ (WX k) h.lit N n (o c) (h.reads k g)
 .have l:(Re s (WX k)).cells.length=s.cells.length:=by simp[Re]
  have:=h.small.2.2.1;exact @Kr c (Re s (WX k)) (-1) (by rw[l];omega) (λi hi=>h.many k g i (by rw[<-l];exact hi))
 .have e:(List.range 3).filterMap (T9 s)=(T9 s 0).toList++(T9 s 1).toList++(T9 s 2).toList:=by
   show [0,1,2].filterMap (T9 s)=_;simp only[List.filterMap_cons,List.filterMap_nil];cases T9 s 0<;>cases T9 s 1<;>cases T9 s 2<;>rfl
  show((List.range 3).filterMap (T9 s)).Pairwise S9;rw[e];have m:∀k x,x∈(T9 s k).toList->x=Re s (WX k):=λk x f=>by
   unfold T9 at f;split at f
   .simpa using f
   .simp at f
  have one:∀k,((T9 s k).toList).Pairwise S9:=λk=>by cases T9 s k<;>simp
  rw[OG,OG];refine⟨⟨one 0,one 1,λa d b j=>?_⟩,one 2,λa d b j=>?_⟩
  .rw[m 0 a d,m 1 b j];exact .inl (show(WX 0).1<(WX 1).1 by decide)
  .rw[m 2 b j];rcases V6.1 d with d|d
   .rw[m 0 a d];exact .inl (show(WX 0).1<(WX 2).1 by decide)
   .rw[m 1 a d];exact .inr ⟨rfl,show(WX 1).2<(WX 2).2 by decide⟩
theorem wO {s:ο} (h:Et s):@P2 Sz s (U2 s):=wP Z2 (λc=>@zu c) h
theorem Es:Et XV:=by
 refine⟨by unfold ο.small;decide,Z2,Z2,?_,?_⟩
 .have:∀k<3,∀c<2,(Td XV (WX k) c).length<=12:=by decide +kernel
  exact this
 .have:∀k<3,∀i<3,Ul (Re XV (WX k)).cells (-1) i<2 ^ 62:=by decide +kernel
  exact λk a i hi=>this k a i (by have:i<=2:=hi;omega)
theorem Er:XV.err=0:=by decide +kernel
theorem wN:QA XV (U2 XV)=(1,1,2,0):=by decide +kernel
theorem wM:PJ XV (U2 XV) 1 true=([1],0):=by decide +kernel
theorem wL:U3 XV [1,0] [1,4] 1=(12,0):=by decide +kernel
theorem wK:U6 (U2 XV)=[[1,0],[2,0]]:=by decide +kernel
def NG (b:ByteArray):Int:=(b.data[0]!).toNat
theorem Ep {l m:List Int} (d:l.Perm m) (e:m.Pairwise λa b=>a<=b):SG l=m:=by
 have f:∀a b c:Int,decide (a<=b)=true->decide (b<=c)=true->decide (a<=c)=true:=λa b c h k=>by simp at *;omega
 have g:∀a b:Int,(decide (a<=b)||decide (b<=a))=true:=λa b=>by simp;omega
 have i:=List.pairwise_mergeSort (le:=λx y:Int=>decide (x<=y)) f g l
 have j:(l.mergeSort λx y:Int=>decide (x<=y)).Perm m:=(List.mergeSort_perm l _).trans d;exact JC (le:=λa b:Int=>a<=b) (λa b _ _ h k=>U) (i.imp λ{a b} h=>by simpa using h) e j
theorem Eo:Vv (U2 XV) 0 true=[4,4]:=by decide +kernel
theorem En:Vv (U2 XV) 1 true=[1,2,1,2]:=by decide +kernel
theorem wJ:(spell [111,63]).toList=[111,63]:=by decide +kernel
theorem wI:(XC XV true (U2 XV)).2.2=0:=by decide +kernel
theorem wH {l:List (List (Int×Int))} {a:Int} (h:∀j:Nat,((l[j]?).getD []).length<=2):∀i,Ul l a i<=2 ^ i:=by
 intro i
 induction i with
 | zero=>simp[Ul]
 | succ i b=>
  rw[@FZ ⟨λ_=>True⟩,Nat.pow_succ];refine Nat.mul_le_mul b ?_;split
  .omega
  .exact h i
theorem wG:∀f∈U2 XV,f.cells.length=2/\∀c∈f.cells,c.length<=2:=by decide +kernel
theorem Em:Kj XV (U2 XV):=by
 refine⟨by decide +kernel,by decide +kernel,?_,by decide +kernel⟩;intro f a;obtain⟨b,d⟩:=wG f a;refine⟨by rw[b];decide,λg i hi=>Nr (wH (λj=>?_) i) ?_⟩
 .cases e:f.cells[j]? with
  | none=>simp
  | some c=>simpa using d c (Zk e)
 .have:2 ^ i<=2 ^ 2:=Nat.pow_le_pow_right U U;omega
theorem El:R' (U2 XV) 0 true=[4]:=by
 unfold R';rw[Eo,Ep (m:=[4,4]) (.refl _) Z2];decide
theorem Ek:R' (U2 XV) 1 true=[1,2]:=by
 unfold R';rw[En,Ep (m:=[1,1,2,2]) Z2 Z2];decide
theorem wF:FJ XV (U2 XV) true NG 12:=by
 refine⟨by decide +kernel,by decide +kernel,λc a=>?_,λg b=>?_⟩
 .have a:c<2:=a
  match c,a with
  | 0,_=>rw[Eo,El];decide
  | 1,_=>rw[En,Ek];decide
 .simp only[XV,YZ,XY,or_false] at b;rcases b with rfl|rfl|rfl|rfl|rfl<;>rfl
theorem wE:SF XV (U2 XV) true NG 2=[111,63]:=by
 show [0,1].map (P1 XV (U2 XV) true NG)=_;simp only[Xt,TX,P1,El,Ek];decide +kernel
theorem wD:P0 XV (U2 XV) true NG=(spell [111,63],0):=by
 unfold P0;rw[if_pos wI];show(spell (SF XV (U2 XV) true NG 2),(0:Int))=_;rw[wE]
theorem Ej:@Ν Sz prog 21 [] (ZQ true):=by
 letI:ZS:=Sz;have e:=Es.small;have h:=wO Es;refine Δ.body Τ func21 rfl rfl ntmps21 rfl rfl J ?_;refine Φ ?_;refine ZB λb a=>?_;refine Ν.d (Ml) (Z1 ?_);refine Ν.c (Ev XV e [1,0] [1,4] 1) (.cons (.refl _) (.cons .ex (.cons .ex (.cons (.refl _) .nil)))) J J ?_;rw[wL];simp;(repeat (rw[Μ];simp));apply a;refine ZB λb a=>?_;refine Ν.d (Ml) (Z1 ?_);refine Ν.c (zQ XV e _ h (by decide +kernel)) (ZZ.refl _) J J ?_;rw[if_pos Er,Er,wK];simp;(repeat (rw[Μ];simp));apply a;refine ZB λb a=>?_;refine Ν.d (Ml) (Z1 ?_);refine Ν.c (zL XV e _ h true NG 12 Z2 zJ (λ_=>wF)) (ZZ.refl _) J J ?_;rw[wD];simp;(repeat (rw[Μ];simp));apply a;refine ZB λb a=>?_;refine Ν.d (Ml) (Z1 ?_);refine Ν.c (zc XV e _ h Em) (ZZ.refl _) J J ?_;rw[wN];simp;(repeat (rw[Μ];simp));apply a;refine ZB λb a=>?_;refine Ν.d (Ml) (Z1 ?_);refine Ν.c (xa XV e _ h Em 1 true Z2) (ZZ.refl _) J J ?_;rw[wM];simp;(repeat (rw[Μ];simp));apply a;refine ZB λb a=>?_;refine Ν.c (FQ 9) (ZZ.refl _) J J ?_;have i:valid 9=true:=by decide +kernel
 have j:VZ 9=6:=by decide +kernel
 rw[i,j];simp;(repeat (rw[Μ];simp));apply a;refine XM @wJ λb a=>?_;refine Ν.c (II [[1,0],[2,0]] [[1,0],[2,0]] Z2 Z2) (.cons (.refl _) (.cons ?_ .nil)) J J ?_
 .exact .map (l:=[[1,0],[2,0]]) (f:=λl:List Int=>.sl true 1 (l.map R)) (g:=κ R 1) λx _=>.one .ex rfl rfl
 simp;(repeat (rw[Μ];simp));refine Ν.c (Kv [1] [1] Z2) (.cons (.refl _) (.cons .ex .nil)) J J ?_;simp;(repeat (rw[Μ];simp));apply a;refine W.rt ?_;exact .of J
end Go.TL
namespace Go.TL
open Go.Proofs.Tryz
open Go.Proofs
variable [ZS]
structure Zu where
 ζ:List Int
 state:Int
abbrev Ei (n:Int):I:=.z (.int .u64 n)
abbrev wC (d:Zu):I:=.Z9 [κ R 1 d.ζ,Ei d.state]
abbrev ZV (d:Zu):Row:=.cells 93 2 [wC d]
def Mk (d:Zu):Int:=IntKind.u64.wrap (d.ζ.headD 0)
def NF (d:Zu):Int:=IntKind.u64.wrap (IntKind.u64.wrap (IntKind.u64.wrap (d.state+(if d.ζ=[] then 0 else Mk d))+6364136223846793005)*15074714826142052245)
def Qs (d:Zu):Int:=Lx .u64 (NF d) ((NF d).fdiv (2 ^ min 29 IntKind.u64.bits))
def Rc (d:Zu):Int:=(IntKind.u64.wrap (Lx .u64 (Qs d) ((Qs d).fdiv (2 ^ min 33 IntKind.u64.bits))*18397679294719823053)).fdiv (2 ^ min 32 IntKind.u64.bits)
def Zu.next (d:Zu):Zu:=⟨d.ζ.tail,Qs d⟩
theorem wB (d:Zu) (hd:d.ζ.length<2 ^ 63):Δ prog 73 [.Ο 0 1 0 0] [ZV d] (λr s=>r=Ei (Rc d)/\s=[ZV d.next]) (λ_ _=>False):=by
 obtain⟨l,q⟩:=d;refine Δ.body Τ func73 rfl rfl ntmps73 rfl rfl J ?_;refine Φ ?_;cases l with
 | nil=>
  refine χ J ?_;refine Φ ?_;refine QE ?_
  repeat apply Ζ
  refine QE ?_;refine Φ ?_;exact W.ret ⟨_,rfl,by simp[Rc,Qs,NF,Mk],by simp[Zu.next,Qs,NF,Mk]⟩
 | cons a l=>
  refine υ J ?_;refine Φ ?_;have b:List.take l.length (l.map R)=l.map R:=TC J;refine XM b λe c=>?_;refine⟨U,?_⟩;apply c;refine Φ ?_;refine QE ?_
  repeat apply Ζ
  refine QE ?_;refine Φ ?_;exact W.ret ⟨_,rfl,by simp[Rc,Qs,NF,Mk],by simp[Zu.next,Qs,NF,Mk]⟩
def XJ (d:Zu) (n:Int):Int:=if n<=0 then 0 else IntKind.i64.wrap ((IntKind.u64.wrap (Rc d*IntKind.u64.wrap (IntKind.i64.wrap (n+1)))).fdiv (2 ^ min 32 IntKind.u64.bits))
def Zu.after (d:Zu) (n:Int):Zu:=if n<=0 then d else d.next
theorem Sy (d:Zu):VL (ZV d):=by simp[VL,I.cells]
theorem HT (d:Zu) (hd:d.ζ.length<2 ^ 63) (n:Int):Δ prog 24 [.Ο 0 1 0 0,R n] [ZV d] (λr s=>r=R (XJ d n)/\s=[ZV (d.after n)]) (λ_ _=>False):=by
 refine Δ.body Τ func24 rfl rfl ntmps24 rfl rfl J ?_;refine Φ ?_;by_cases h:n<=0
 .refine υ (by simp[h]) ?_;refine Φ ?_;exact W.ret ⟨_,rfl,by simp[XJ,h],by simp[Zu.after,h]⟩
 .refine χ (by simp[h]) ?_;refine Φ ?_;refine ZB λb a=>?_;refine Δ.one (as0:=[.Ο 0 1 0 0]) (wB d hd) 0 rfl (Sy d) (Sy d.next) (by simp[Xi,Rx]) ((Γ.z _).V9 1) rfl ?_;simp[Tk];(repeat (rw[Μ];simp));apply a;exact W.ret ⟨_,rfl,by simp[XJ,h],by simp[Zu.after,h]⟩
def Vb (d:Zu) (a b:Int):Int:=IntKind.i64.wrap (a+XJ d (IntKind.i64.wrap (b-a)))
theorem wA (d:Zu) (hd:d.ζ.length<2 ^ 63) (a b:Int):Δ prog 38 [.Ο 0 1 0 0,R a,R b] [ZV d] (λr s=>r=R (Vb d a b)/\s=[ZV (d.after (IntKind.i64.wrap (b-a)))]) (λ_ _=>False):=by
 refine Δ.body Τ func38 rfl rfl ntmps38 rfl rfl J ?_;refine Φ ?_;refine ZB λe c=>?_;refine Δ.one (as0:=[.Ο 0 1 0 0,R (IntKind.i64.wrap (b-a))]) (HT d hd _) 0 rfl (Sy d) (Sy _) (by simp[Xi,Rx]) ((Γ.z _).V9 1) rfl ?_;simp[Tk];(repeat (rw[Μ];simp));apply c;exact W.ret ⟨_,rfl,rfl,rfl⟩
end Go.TL
namespace Go.TL
open Go.Proofs.Tryz
open Go.Proofs
theorem wz (x:Int):0<=IntKind.u64.wrap x/\IntKind.u64.wrap x<18446744073709551616:=by
 unfold IntKind.wrap;simp[IntKind.bits,IntKind.signed];omega
theorem u64_in (x:Int) (h:0<=x) (a:x<18446744073709551616):IntKind.u64.wrap x=x:=by
 unfold IntKind.wrap;simp[IntKind.bits,IntKind.signed];omega
theorem Eh:(2:Int) ^ min 32 IntKind.u64.bits=4294967296:=Z2
theorem wy (d:Zu):0<=Rc d/\Rc d<4294967296:=by
 unfold Rc;rw[Eh];generalize a:IntKind.u64.wrap _=x;have:=wz (Lx .u64 (Qs d) ((Qs d).fdiv (2 ^ min 33 IntKind.u64.bits))*18397679294719823053);rw[a] at this;rw[Int.fdiv_eq_ediv_of_nonneg _ Z2];omega
theorem T8 (d:Zu) (n:Int) (e:0<=n) (f:n<2147483647):0<=XJ d n/\XJ d n<=n:=by
 unfold XJ;split
 .omega
 .obtain⟨b,g⟩:=wy d;rw[Eh,IntWalk.i64_in (n+1) U,u64_in (n+1) U U];have c:Rc d*(n+1)<=4294967295*(n+1):=Int.mul_le_mul_of_nonneg_right U U;have a:0<=Rc d*(n+1):=Int.mul_nonneg b U;generalize Rc d*(n+1)=y at c a;rw[u64_in y a U,Int.fdiv_eq_ediv_of_nonneg _ Z2,IntWalk.i64_in _ U];omega
end Go.TL
namespace Go.TL
open Go.Proofs.Tryz
open Go.Proofs
variable [ZS]
def RY (d:Zu) (l:List Int):Nat:=(XJ d ((l.length:Int)-1)).toNat
theorem wx (d:Zu) (hd:d.ζ.length<2 ^ 63) (l:List Int) (g:0<l.length) (h:l.length<1000000):Δ prog 61 [.Ο 0 1 0 0,κ R 1 l] [ZV d] (λr s=>r=R (l.getD (RY d l) 0)/\s=[ZV (d.after ((l.length:Int)-1))]) (λ_ _=>False):=by
 refine Δ.body Τ func61 rfl rfl ntmps61 rfl rfl J ?_;have c:IntKind.i64.wrap ((l.length:Int)-1)=(l.length:Int)-1:=IntWalk.i64_in _ U;obtain⟨t0,t1⟩:=T8 d ((l.length:Int)-1) U U;obtain⟨k,b⟩:∃k:Nat,XJ d ((l.length:Int)-1)=k:=⟨(XJ d ((l.length:Int)-1)).toNat,U⟩;have a:k<l.length:=U;have e:RY d l=k:=by unfold RY;rw[b];rfl
 refine Φ ?_;refine XM c λi f=>?_;refine Δ.one (as0:=[.Ο 0 1 0 0,R ((l.length:Int)-1)]) (HT d hd _) 0 rfl (Sy d) (Sy _) (by simp[Xi,Rx]) ((Γ.z _).V9 1) rfl ?_;rw[b];simp[Tk,a];(repeat (rw[Μ];simp[a]));apply f;exact W.ret ⟨_,rfl,by rw[e];simp[Xk,a],rfl⟩
end Go.TL
namespace Go.TL
open Go.Proofs.Tryz
open Go.Conc
variable [ZS]
section
variable {P:Program} {T:Z5} {A:List Nat} {m nt:Nat} {k:List Item} {env:Ι} {σ:Υ} {Z:XF} {E:Yf} {ops:Array Oper}
def Eg (P:Program) (m nt:Nat) (k:List Item) (Z:XF) (E:Yf) (ops:Array Oper) (i:Nat) (o:Oper) (env:Ι) (r:Row) (a:I) (b:Row):Prop:=
 ∀env' τ rest,Tn ops o env env'->W P m nt (.inRegion ops rest::k) (ZE o env' a) (b::τ) Z E->W P m nt (.inRegion ops (i::rest)::k) env' (r::τ) Z E
def StepB (P:Program) (m nt:Nat) (k:List Item) (Z:XF) (E:Yf) (ops:Array Oper) (i:Nat) (o:Oper) (env:Ι) (τ:Υ) (a:I) (b:Υ):Prop:=
 ∀env' r rest,Tn ops o env env'->W P m nt (.inRegion ops rest::k) (ZE o env' a) (r::b) Z E->W P m nt (.inRegion ops (i::rest)::k) env' (r::τ) Z E
theorem Ef {l:Type} {f:Nat->l} {tags:List Bool} (m:∀i o,ops[i]?=some o->writer ops tags i=false->f (i+1)=f i):∀a b,a<=ops.size->b<=ops.size->(∀j,j<ops.size->writer ops tags j=true->(j<a↔j<b))->f a=f b:=by
 have g:∀(d a:Nat),a+d<=ops.size->(∀j,a<=j->j<a+d->writer ops tags j=false)->f (a+d)=f a:=by
  intro d
  induction d with
  | zero=>intro a _ _;rfl
  | succ d n=>
   intro a hle h;have c:ops[a+d]?=some ops[a+d]:=X4 U;have:=m (a+d) _ c (h (a+d) U U);rw[show a+(d+1)=a+d+1 by omega,this];exact n a U λj c k=>h j c U
 intro a b p r h;rcases Nat.le_total a b with hle|hle
 .have:=g (b-a) a U λj c k=>by
   cases e:writer ops tags j with
   | false=>rfl
   | true=>have:=(h j U e).2 U;omega
  rw[show a+(b-a)=b by omega] at this;exact this.symm
 .have:=g (a-b) b U λj c k=>by
   cases e:writer ops tags j with
   | false=>rfl
   | true=>have:=(h j U e).1 U;omega
  rw[show b+(a-b)=a by omega] at this;exact this
theorem Ee {tags:List Bool} (a:Uq ops tags=true):∀i o,ops[i]?=some o->(∀j∈W8 o,j<i)/\∀j b,j<i->ops[j]?=some b->clash ops tags i j o b=true->j∈(KI ops).getD i []:=by
 intro i o d;have hi:i<ops.size:=(UA.1 d).1;unfold Uq QK at a;simp only[WN,UY] at a;have h:=a i hi;rw[d] at h;simp only[VE,WN,decide_eq_true_eq,UY] at h;refine⟨h.1,λj b f g e=>?_⟩;have c:=h.2 j f;rw[g] at c;unfold clash at e;simp only[e,Bool.not_true,Bool.false_or,L6] at c;exact c
theorem Ed {tags:List Bool}:∀j,writer ops tags j=true->tags.getD j false=true:=λj h=>by
 unfold writer at h;rw[VE] at h;exact h.1
theorem Ec {tags:List Bool} {i:Nat} {c:Oper} (e:tags.getD i false=true):∀j a,ops[j]?=some a->writer ops tags j=true->clash ops tags i j c a=true/\clash ops tags j i a c=true:=λj a f b=>by
 have d:=Ed j b;unfold writer at b;rw[d,f] at b;have g:Wq a=false:=by simpa using b
 unfold clash UL QJ;rw[d,e,g];simp
theorem W.wv {as9:Nat->I} {ρs:Nat->Row} {τs:Nat->Υ} {td tb:List Bool} {env0:Ι} (aA:Uq ops td=true) (aB:Uq ops tb=true)
  (aC:∀i o,ops[i]?=some o->td.getD i false=false->tb.getD i false=false->P9 P m nt k Z E ops i o (Zp ops env0 as9 (λ_=>true) i) (as9 i))
  (aD:∀i o,ops[i]?=some o->td.getD i false=true->Eg P m nt k Z E ops i o (Zp ops env0 as9 (λ_=>true) i) (ρs i) (as9 i) (ρs (i+1))/\tb.getD i false=false)
  (aE:∀i o,ops[i]?=some o->tb.getD i false=true->StepB P m nt k Z E ops i o (Zp ops env0 as9 (λ_=>true) i) (τs i) (as9 i) (τs (i+1)))
  (aF:∀i o,ops[i]?=some o->writer ops td i=false->ρs (i+1)=ρs i) (aG:∀i o,ops[i]?=some o->writer ops tb i=false->τs (i+1)=τs i)
  (aH:W P m nt (.inRegion ops []::k) (Zp ops env0 as9 (λ_=>true) ops.size) (ρs ops.size::τs ops.size) Z E) :
  ∀(Q:Nat) (t:Nat) (listed:Array Bool) (env:Ι) (g n:Nat),listed.size=ops.size->
   (∀i,Z' env i=Z' (Zp ops env0 as9 (λi=>listed.getD i false) ops.size) i)->
   (∀i o,ops[i]?=some o->listed.getD i false=true->∀j∈W8 o,listed.getD j false=true)->
   g<=ops.size->n<=ops.size->(∀j,j<ops.size->writer ops td j=true->(listed.getD j false=true↔j<g))->(∀j,j<ops.size->writer ops tb j=true->(listed.getD j false=true↔j<n))->
   ((List.range ops.size).filter λi=>!listed.getD i false).length<=Q->
   W P m nt (.inRegion ops (Region.linearise.go .any ops Q t listed [])::k) env (ρs g::τs n) Z E:=by
 have ad:=Ee aA
 have an:=Ee aB
 have ae:∀i o,ops[i]?=some o->∀j∈W8 o,j<i:=λi o l=>(ad i o l).1
 have ao:=Ef aF
 have ap:=Ef aG;intro Q;have done:∀(t:Nat) (listed:Array Bool) (env:Ι) (g n:Nat),(∀i,i<ops.size->listed.getD i false=true)->(∀i,Z' env i=Z' (Zp ops env0 as9 (λi=>listed.getD i false) ops.size) i)->g<=ops.size->n<=ops.size->
   (∀j,j<ops.size->writer ops td j=true->(listed.getD j false=true↔j<g))->(∀j,j<ops.size->writer ops tb j=true->(listed.getD j false=true↔j<n))->W P m nt (.inRegion ops []::k) env (ρs g::τs n) Z E:=λt listed env g n L M F H v K=>by
  have aI:ρs g=ρs ops.size:=ao g ops.size F (ZO _) λj d p=>by rw[<-v j d p];simp[L j d,d]
  have Χ:τs n=τs ops.size:=ap n ops.size H (ZO _) λj d p=>by rw[<-K j d p];simp[L j d,d]
  rw[aI,Χ];refine .congr (λi=>?_) aH;rw[M i];exact N9 ops.size λi o hi _ _=>L i hi
 have aJ:∀listed:Array Bool,listed.size=ops.size->(∃i,i<ops.size/\listed.getD i false=false)->∃i,i<ops.size/\listed.getD i false=false/\∀j,j<i->listed.getD j false=true:=λlisted R ⟨i,hi,s⟩=>by
  induction i using Nat.strongRecOn with
  | _ i T=>
   by_cases d:∃j,j<i/\listed.getD j false=false
   .obtain⟨j,w,A⟩:=d;exact T j w U A
   .exact⟨i,hi,s,λj aK=>by
     cases h:listed.getD j false with
     | true=>rfl
     | false=>exact absurd ⟨j,aK,h⟩ d⟩
 induction Q with
 | zero=>
  intro t listed env g n R M V F H v K aL;have L:∀i,i<ops.size->listed.getD i false=true:=λi hi=>by
   cases h:listed.getD i false with
   | true=>rfl
   | false=>
    have aa:i∈(List.range ops.size).filter λi=>!listed.getD i false:=by rw[S0];exact⟨UY.2 hi,by rw[h];rfl⟩
    have:((List.range ops.size).filter λi=>!listed.getD i false)=[]:=YV.1 U;rw[this] at aa;simp at aa
  exact done t listed env g n L M F H v K
 | succ Q T=>
  intro t listed env g n R M V F H v K aL;simp only[Region.linearise.go];generalize aM:((List.range ops.size).filter λi=>!listed.getD i true&&((ops[i]?).map (·.after.all λe=>!Region.binds .any e||listed.getD e.on false)).getD false)=N;have aq:∀i,i<ops.size->listed.getD i true=listed.getD i false:=λi hi=>by
   rw[W3,W3,X4 U];rfl
  have ar:∀i,i∈N↔i<ops.size/\listed.getD i false=false/\∀o,ops[i]?=some o->∀j∈W8 o,listed.getD j false=true:=λi=>by
   rw[<-aM];simp only[S0,UY,VE,Bool.not_eq_true'];constructor
   .rintro⟨w,A,C⟩;rw[aq i w] at A;refine⟨w,A,λo l j d=>?_⟩;rw[l] at C;simp only[Option.map_some,Option.getD_some,L2] at C;unfold W8 at d;simp only[YK,S0] at d;obtain⟨e,⟨aN,aO⟩,rfl⟩:=d;have:=C e (by simpa using aN);simpa[aO] using this
   .rintro⟨w,A,C⟩;refine⟨w,by rw[aq i w];exact A,?_⟩;have l:ops[i]?=some ops[i]:=X4 w;rw[l];simp only[Option.map_some,Option.getD_some,L2];intro e aP;by_cases au:Region.binds .any e=true
    .have:=C _ l e.on (by unfold W8;simp only[YK,S0];exact⟨e,⟨by simpa using aP,au⟩,rfl⟩);simp[this]
    .simp[au]
  cases hi:N[t % N.length]? with
  | none=>
   simp only[List.reverse_nil];have aQ:N=[]:=by
    cases aR:N with
    | nil=>rfl
    | cons x xs=>
     rw[aR] at hi;have af:t % (x::xs).length<(x::xs).length:=Nat.mod_lt _ J;rw[ε af] at hi;cases hi
   have L:∀i,i<ops.size->listed.getD i false=true:=λi O=>by
    cases h:listed.getD i false with
    | true=>rfl
    | false=>
     obtain⟨r,w,A,C⟩:=aJ listed R ⟨i,O,h⟩;have:r∈N:=(ar r).2 ⟨w,A,λo l j d=>C j (ae r o l j d)⟩;rw[aQ] at this;simp at this
   exact done t listed env g n L M F H v K
  | some i=>
   simp only;rw[Gk];have aa:i∈N:=Zk hi;obtain⟨w,A,C⟩:=(ar i).1 aa;have l:ops[i]?=some ops[i]:=X4 w;have aS:=KH ae (λj=>listed.getD j false=true) (λj o d s=>V j o d s) i _ l (C _ l);have low:∀j f,j<i->ops[j]?=some f->(clash ops td i j ops[i] f=true\/clash ops tb i j ops[i] f=true)->listed.getD j false=true:=λj f d u B=>aS j (B.elim (λB=>(ad i _ l).2 j f d u B) (λB=>(an i _ l).2 j f d u B));have high:∀j f,i<j->ops[j]?=some f->(clash ops td j i f ops[i]=true\/clash ops tb j i f ops[i]=true)->listed.getD j false=false:=λj f d u B=>by
    cases s:listed.getD j false with
    | false=>rfl
    | true=>
     have:=KH ae (λj=>listed.getD j false=true) (λj o d s=>V j o d s) j f u (V j f u s) i (B.elim (λB=>(ad j f u).2 i _ d l B) (λB=>(an j f u).2 i _ d l B));rw[A] at this;cases this
   have ag:Tn ops ops[i] (Zp ops env0 as9 (λ_=>true) i) env:=λx av=>by
    rw[M x];have ah:Z' (Zp ops env0 as9 (λi=>listed.getD i false) ops.size) x=Z' (Zp ops env0 as9 (λi=>listed.getD i false) i) x:=KG U λj f aT aU u hd=>by
     by_cases e:j=i
     .subst e;exact A
     .refine high j f U u ?_;unfold clash UL QJ;simp[hd,av]
    rw[ah];exact N9 i λj f d u hd=>low j f d u (.inl (by unfold clash UL QJ;simp[hd,av]))
   have ai:∀x,Z' (ZE ops[i] env (as9 i)) x=Z' (Zp ops env0 as9 (λj=>(listed.setIfInBounds i true).getD j false) ops.size) x:=λx=>by
    have D:∀j,(listed.setIfInBounds i true).getD j false=if j=i then true else listed.getD j false:=λj=>by
     rw[W3,W3];by_cases e:j=i
     .subst e;rw[T5 U];simp
     .rw[Vp (Y2 e),if_neg e]
    rw[O5];by_cases hd:ops[i].dst=some x
    .rw[if_pos hd];have ah:Z' (Zp ops env0 as9 (λj=>(listed.setIfInBounds i true).getD j false) ops.size) x=Z' (Zp ops env0 as9 (λj=>(listed.setIfInBounds i true).getD j false) (i+1)) x:=KG U λj f aT aU u aj=>by
      rw[D,if_neg U];refine high j f U u (.inl ?_);unfold clash UL QJ;simp[hd,aj]
     rw[ah];simp only[Zp,D,if_true,l,O5,hd]
    .rw[if_neg hd,M x];exact N9 ops.size λj f d u aj=>by
      rw[D,if_neg];intro e;subst e;rw[l] at u;cases u;exact hd aj
   have D:∀j,(listed.setIfInBounds i true).getD j false=if j=i then true else listed.getD j false:=λj=>by
    rw[W3,W3];by_cases e:j=i
    .subst e;rw[T5 U];simp
    .rw[Vp (Y2 e),if_neg e]
   have ak:((List.range ops.size).filter λj=>!(listed.setIfInBounds i true).getD j false).length<=Q:=by
    have af:((List.range ops.size).filter λj=>!(listed.setIfInBounds i true).getD j false).length<((List.range ops.size).filter λj=>!listed.getD j false).length:=by
     have:((List.range ops.size).filter λj=>!(listed.setIfInBounds i true).getD j false)=((List.range ops.size).filter λj=>!listed.getD j false).filter λj=>j != i:=by
      rw[List.filter_filter];apply List.filter_congr;intro j _;rw[D];by_cases e:j=i
      .subst e;simp
      .simp[e]
     rw[this];have aV:i∈(List.range ops.size).filter λj=>!listed.getD j false:=by
      rw[S0];exact⟨UY.2 w,by rw[A];rfl⟩
     exact List.length_filter_lt_length_iff_exists.2 ⟨i,aV,J⟩
    omega
   have al:∀j o,ops[j]?=some o->(listed.setIfInBounds i true).getD j false=true->∀y∈W8 o,(listed.setIfInBounds i true).getD y false=true:=λj o d s y aw=>by
    rw[D] at s ⊢;by_cases e:y=i
    .rw[if_pos e]
    .rw[if_neg e];by_cases Χ:j=i
     .subst Χ;rw[l] at d;cases d;exact C _ l y aw
     .rw[if_neg Χ] at s;exact V j o d s y aw
   have ab:∀(tags:List Bool) (g:Nat),tags.getD i false=false->(∀j,j<ops.size->writer ops tags j=true->(listed.getD j false=true↔j<g))->∀j,j<ops.size->writer ops tags j=true->((listed.setIfInBounds i true).getD j false=true↔j<g):=λtags g X v j d p=>by
    rw[D];have:j≠i:=λe=>by subst e;rw[Ed j p] at X;cases X
    rw[if_neg this];exact v j d p
   have keepW:∀(tags:List Bool) (g:Nat),writer ops tags i=false->(∀j,j<ops.size->writer ops tags j=true->(listed.getD j false=true↔j<g))->∀j,j<ops.size->writer ops tags j=true->((listed.setIfInBounds i true).getD j false=true↔j<g):=λtags g ax v j d p=>by
    rw[D];have:j≠i:=λe=>by subst e;rw[p] at ax;cases ax
    rw[if_neg this];exact v j d p
   have ay:∀(tags:List Bool),tags.getD i false=true->(∀j f,j<i->ops[j]?=some f->clash ops tags i j ops[i] f=true->listed.getD j false=true)->(∀j f,i<j->ops[j]?=some f->clash ops tags j i f ops[i]=true->listed.getD j false=false)->
     (∀j,j<ops.size->writer ops tags j=true->j<i->listed.getD j false=true)/\(∀j,j<ops.size->writer ops tags j=true->i<j->listed.getD j false=false):=λtags X lo hi=>⟨λj d p am=>lo j _ am (X4 d) (Ec X j _ (X4 d) p).1,λj d p am=>hi j _ am (X4 d) (Ec X j _ (X4 d) p).2⟩
   have az:∀(tags:List Bool) (g:Nat),(∀j,j<ops.size->writer ops tags j=true->j<i->listed.getD j false=true)->(∀j,j<ops.size->writer ops tags j=true->i<j->listed.getD j false=false)->(∀j,j<ops.size->writer ops tags j=true->(listed.getD j false=true↔j<g))->∀j,j<ops.size->writer ops tags j=true->(j<g↔j<i):=λtags g lo hi v j d p=>by
    rw[<-v j d p];constructor
    .intro s;apply T4;intro aW;by_cases e:j=i
     .subst e;rw[A] at s;cases s
     .rw[hi j d p U] at s;cases s
    .exact lo j d p
   have next:∀(tags:List Bool),(∀j,j<ops.size->writer ops tags j=true->j<i->listed.getD j false=true)->(∀j,j<ops.size->writer ops tags j=true->i<j->listed.getD j false=false)->∀j,j<ops.size->writer ops tags j=true->((listed.setIfInBounds i true).getD j false=true↔j<i+1):=λtags lo hi j d p=>by
    rw[D];by_cases e:j=i
    .subst e;simp
    .rw[if_neg e];constructor
     .intro s;apply T4;intro aW;rw[hi j d p U] at s;cases s
     .intro af;exact lo j d p U
   cases Y:td.getD i false with
   | true=>
    obtain⟨aX,S⟩:=aD i _ l Y;obtain⟨lo,O⟩:=ay td Y (λj f a b c=>low j f a b (.inl c)) (λj f a b c=>high j f a b (.inl c));rw[ao g i F U (az td g lo O v)];refine aX env _ _ ag ?_;exact T _ _ _ (i+1) n (by simpa using R) ai al U H (next td lo O) (ab tb n S K) ak
   | false=>
    cases S:tb.getD i false with
    | false=>
     refine aC i _ l Y S env _ _ ag ?_;exact T _ _ _ g n (by simpa using R) ai al F H (ab td g Y v) (ab tb n S K) ak
    | true=>
     obtain⟨lo,O⟩:=ay tb S (λj f a b c=>low j f a b (.inr c)) (λj f a b c=>high j f a b (.inr c));rw[ap n i H U (az tb n lo O K)];refine aE i _ l S env _ _ ag ?_;exact T _ _ _ g (i+1) (by simpa using R) ai al F U (ab td g Y v) (next tb lo O) ak
def ND (f:Row->Za) (K:I->Υ->Prop):Prop:=∃a b,((∀r,f r=.ok a (r::b))\/∃p:Prop,p/\∀r,f r=.Zl p (.ok a (r::b)))/\K a b
theorem wu {f g:Row->Za} {K:I->Υ->Prop} (h:∀r,f r=g r):ND f K=ND g K:=by rw[funext h]
theorem wq {a:I} {τ:Υ} {K:I->Υ->Prop}:ND (λr=>.ok a (r::τ)) K=K a τ:=by
 refine propext ⟨λ⟨b,f,h,d⟩=>?_,λh=>⟨a,τ,.inl λ_=>rfl,h⟩⟩;rcases h with h|⟨p,_,h⟩
 .have:=h (.map []);injection this with e c
  injection c with _ c
  rw[e,c];exact d
 .have:=h (.map []);cases this
theorem wm {p:Prop} {a:I} {τ:Υ} {K:I->Υ->Prop}:ND (λr=>.Zl p (.ok a (r::τ))) K=(p/\K a τ):=by
 refine propext ⟨λ⟨b,i,h,e⟩=>?_,λh=>⟨a,τ,.inr ⟨p,h.1,λ_=>rfl⟩,h.2⟩⟩;rcases h with h|⟨q,f,h⟩
 .have:=h (.map []);cases this
 .have:=h (.map []);injection this with g c
  injection c with c d
  injection d with _ d
  rw[c,d];exact⟨g▸f,e⟩
def Mj (P:Program) (f:I) (args:ψ) (r:Row) (c:I->Prop) (d:I->Row->Prop):Prop:=
 (∃a,VM P f args a/\c a)\/∃a r',(∀τ,WZ P f args (r::τ) (λb s=>b=a/\s=r'::τ) (λ_ _=>False))/\d a r'
theorem wj {P:Program} {f:I} {args:ψ} {r r':Row} {d:I->Prop} {c:I->Row->Prop} {a:I} (h:∀τ,WZ P f args (r::τ) (λb s=>b=a/\s=r'::τ) (λ_ _=>False)) (k:c a r'):Mj P f args r d c:=.inr ⟨a,r',h,k⟩
def Mi (P:Program) (T:Z5) (A:List Nat) (env:Ι) (o:Oper) (r:Row) (τ:Υ) (a:I->Prop) (b:I->Row->Prop) (c:I->Υ->Prop):Prop:=match o.op with
 | .call ⟨.value f,args,_⟩=>Mj P (π env f) (args.toList.map (π env)) r a b
 | .panic _=>False
 | .defer _=>False
 | _=>(Wb T A env o).Yp a (ND (λr=>WJ T A env (r::τ) o) c)
theorem wi {P:Program} {T:Z5} {A:List Nat} {env:Ι} {o:Oper} {r:Row} {τ:Υ} {a:I->Prop} {b:I->Row->Prop} {c:I->Υ->Prop}:Mi P T A env o r τ a b c=match o.op with
 | .call ⟨.value f,args,_⟩=>Mj P (π env f) (args.toList.map (π env)) r a b
 | .panic _=>False
 | .defer _=>False
 | _=>(Wb T A env o).Yp a (ND (λr=>WJ T A env (r::τ) o) c):=XU rfl rfl
def Wi (P:Program) (T:Z5) (A:List Nat) (nt:Nat) (ops:Array Oper):List Nat->Ι->Row->Υ->List Bool->List Bool->(Ι->Υ->Prop)->Prop
 | [],env,r,τ,td,tb,K=>Uq ops td=true/\Uq ops tb=true/\K env (r::τ)
 | i::is,env,r,τ,td,tb,K=>XD ops[i]? λo=>W9 nt o=true/\XD (X7 env ops o) λw=>
   WI w (Wi P T A nt ops is (ZE o env .Zw) r τ (td++[false]) (tb++[false]) K)
    (Mi P T A env o r τ (λa=>Wi P T A nt ops is (ZE o env a) r τ (td++[false]) (tb++[false]) K) (λa r'=>Wi P T A nt ops is (ZE o env a) r' τ (td++[true]) (tb++[false]) K) (λa b=>Wi P T A nt ops is (ZE o env a) r b (td++[false]) (tb++[true]) K))
def Eb (P:Program) (T:Z5) (A:List Nat) (nt:Nat) (ops:Array Oper) (is:List Nat) (o:Oper) (env:Ι) (r:Row) (τ:Υ) (td tb:List Bool) (K:Ι->Υ->Prop) (a:I):Prop:=Wi P T A nt ops is (ZE o env a) r τ (td++[false]) (tb++[false]) K
def Ea (P:Program) (T:Z5) (A:List Nat) (nt:Nat) (ops:Array Oper) (is:List Nat) (o:Oper) (env:Ι) (τ:Υ) (td tb:List Bool) (K:Ι->Υ->Prop) (a:I) (r:Row):Prop:=Wi P T A nt ops is (ZE o env a) r τ (td++[true]) (tb++[false]) K
def D' (P:Program) (T:Z5) (A:List Nat) (nt:Nat) (ops:Array Oper) (is:List Nat) (o:Oper) (env:Ι) (r:Row) (td tb:List Bool) (K:Ι->Υ->Prop) (a:I) (τ:Υ):Prop:=Wi P T A nt ops is (ZE o env a) r τ (td++[false]) (tb++[true]) K
section
variable {is:List Nat} {i:Nat} {o:Oper} {r:Row} {τ:Υ} {td tb:List Bool} {K:Ι->Υ->Prop} {a:I}
theorem Vr:Wi P T A nt ops [] env r τ td tb K=(Uq ops td=true/\Uq ops tb=true/\K env (r::τ)):=XU rfl rfl
theorem Vq:Wi P T A nt ops (i::is) env r τ td tb K=XD ops[i]? λo=>W9 nt o=true/\XD (X7 env ops o) λw=>
   WI w (Wi P T A nt ops is (ZE o env .Zw) r τ (td++[false]) (tb++[false]) K) (Mi P T A env o r τ (Eb P T A nt ops is o env r τ td tb K) (Ea P T A nt ops is o env τ td tb K) (D' P T A nt ops is o env r td tb K)):=XU rfl rfl
theorem wh:Eb P T A nt ops is o env r τ td tb K a=Wi P T A nt ops is (ZE o env a) r τ (td++[false]) (tb++[false]) K:=XU rfl rfl
theorem we:Ea P T A nt ops is o env τ td tb K a r=Wi P T A nt ops is (ZE o env a) r τ (td++[true]) (tb++[false]) K:=XU rfl rfl
theorem wc:D' P T A nt ops is o env r td tb K a τ=Wi P T A nt ops is (ZE o env a) r τ (td++[false]) (tb++[true]) K:=XU rfl rfl
end
def HS (P:Program) (m nt:Nat) (k:List Item) (Z:XF) (E:Yf) (ops:Array Oper) (i:Nat) (o:Oper) (env:Ι) (r:Row) (τ:Υ) (d b:Bool) (a:I) (r':Row) (c:Υ):Prop:=
 (d=true/\b=false/\Eg P m nt k Z E ops i o env r a r'/\c=τ)\/(d=false/\b=true/\StepB P m nt k Z E ops i o env τ a c/\r'=r/\(Wq o=true->c=τ))\/(d=false/\b=false/\P9 P m nt k Z E ops i o env a/\r'=r/\c=τ)
theorem wb (M:ZJ P T) {i:Nat} {is:List Nat} {r:Row} {τ:Υ} {td tb:List Bool} {K:Ι->Υ->Prop} (h:Wi P T A nt ops (i::is) env r τ td tb K) :
  ∃o a r' g d b,ops[i]?=some o/\HS P m nt k Z E ops i o env r τ d b a r' g/\(d=true->Wq o=false)/\Wi P T A nt ops is (ZE o env a) r' g (td++[d]) (tb++[b]) K:=by
 unfold Wi XD at h;split at h
 .exact h.elim
 .rename_i o j;obtain⟨hd,h⟩:=h;split at h
  .exact h.elim
  rename_i w B;unfold WI at h;cases w
  .replace h:=h.1 rfl
   exact⟨o,.Zw,r,τ,false,false,j,.inr (.inr ⟨rfl,rfl,λenv' σ' rest e n=>.unwanted j (by rw[Vh e];exact B) hd n,rfl,rfl⟩),λh=>(by cases h),h⟩
  .replace h:=h.2 rfl
   unfold Mi at h;split at h
   .rename_i f args X D;have N:∀env',Tn ops o env env'->π env' f=π env f/\args.toList.map (π env')=args.toList.map (π env):=λenv' e=>by
     have F:=ML e;rw[D] at F;refine⟨F f (by simp[Op.operands,Call.operands]),MK λx S=>F x (by simp[Op.operands,Call.operands,S])⟩
    rcases h with⟨a,v,h⟩|⟨a,r',v,h⟩
    .refine⟨o,a,r,τ,false,false,j,.inr (.inr ⟨rfl,rfl,λenv' σ' rest e n=>.call j (by rw[Vh e];exact B) hd D ?_,rfl,rfl⟩),λh=>(by cases h),h⟩;obtain⟨H,Χ⟩:=N env' e;rw[H,Χ];exact(v σ').mono (λa s ⟨x,y⟩=>by subst x;subst y;exact n) (λ_ _ h=>h.elim)
    .refine⟨o,a,r',τ,true,false,j,.inl ⟨rfl,rfl,λenv' g rest e n=>.call j (by rw[Vh e];exact B) hd D ?_,rfl⟩,λ_=>(by unfold Wq;rw[D]),h⟩;obtain⟨H,Χ⟩:=N env' e;rw[H,Χ];exact(v g).mono (λa s ⟨x,y⟩=>by subst x;subst y;exact n) (λ_ _ h=>h.elim)
   .exact h.elim
   .exact h.elim
   .rename_i Y aa O;have Q:∀(C:Zs) (a:I),Wb T A env o=C->(∀K:I->Υ->Prop,∀s,K a s->(C.YL s).holds K)->(∀σ s,C.or σ s=C.YL σ)->P9 P m nt k Z E ops i o env a:=λC a u J U env' σ' rest e n=>by
     refine .op (A:=A) M j (by rw[Vh e];exact B) hd (λc v=>O c v) ?_;rw[QI e,u,U];exact J _ _ n
    unfold Zs.Yp at h;split at h
    .rename_i a L;exact⟨o,a,r,τ,false,false,j,.inr (.inr ⟨rfl,rfl,Q _ a L (λK s t=>t) (λ_ _=>rfl),rfl,rfl⟩),λh=>(by cases h),h⟩
    .rename_i p a L;exact⟨o,a,r,τ,false,false,j,.inr (.inr ⟨rfl,rfl,Q _ a L (λK s t=>⟨h.1,t⟩) (λ_ _=>rfl),rfl,rfl⟩),λh=>(by cases h),h.2⟩
    .exact h.elim
    .rename_i V;have W:∀(a:I) (g:Υ),(∀r,∃x:Za,WJ T A env (r::τ) o=x/\∀K:I->Υ->Prop,K a (r::g)->x.holds K)->StepB P m nt k Z E ops i o env τ a g:=λa g u env' r rest e n=>by
      obtain⟨x,u,J⟩:=u r;refine .op (A:=A) M j (by rw[Vh e];exact B) hd (λc v=>O c v) ?_;rw[QI e,N8 e,V,u];exact J _ n
     obtain⟨a,g,l,t⟩:=h;refine⟨o,a,r,g,false,true,j,.inr (.inl ⟨rfl,rfl,W a g λr=>?_,rfl,λu=>?_⟩),λh=>(by cases h),t⟩
     .rcases l with l|⟨p,R,l⟩
      .exact⟨_,l r,λK t=>t⟩
      .exact⟨_,l r,λK t=>⟨R,t⟩⟩
     .have:r::g=r::τ:=by
       rcases l with l|⟨p,R,l⟩
       .exact N7 (p:=True) u (.inl (l r))
       .exact N7 u (.inr (l r))
      injection this
theorem wa (B:ZJ P T) {K:Ι->Υ->Prop} {env0:Ι}:∀(d i:Nat) (td tb:List Bool) (as9:Nat->I) (ρs:Nat->Row) (τs:Nat->Υ),i+d=ops.size->td.length=i->tb.length=i->
  (∀j o,j<i->ops[j]?=some o->HS P m nt k Z E ops j o (Zp ops env0 as9 (λ_=>true) j) (ρs j) (τs j) (td.getD j false) (tb.getD j false) (as9 j) (ρs (j+1)) (τs (j+1))/\(td.getD j false=true->Wq o=false))->
  Wi P T A nt ops (List.range' i d) (Zp ops env0 as9 (λ_=>true) i) (ρs i) (τs i) td tb K->
  ∃(td tb:List Bool) (as9:Nat->I) (b:Nat->Row) (c:Nat->Υ),Uq ops td=true/\Uq ops tb=true/\b 0=ρs 0/\c 0=τs 0/\(∀j o,ops[j]?=some o->HS P m nt k Z E ops j o (Zp ops env0 as9 (λ_=>true) j) (b j) (c j) (td.getD j false) (tb.getD j false) (as9 j) (b (j+1)) (c (j+1))/\(td.getD j false=true->Wq o=false))/\K (Zp ops env0 as9 (λ_=>true) ops.size) (b ops.size::c ops.size):=by
 intro d
 induction d with
 | zero=>
  intro i td tb as9 ρs τs hi n p g h;simp only[List.range'_zero,Wi] at h;have:i=ops.size:=U;subst this;exact⟨td,tb,as9,ρs,τs,h.1,h.2.1,rfl,rfl,λj o l=>g j o (UA.1 l).1 l,h.2.2⟩
 | succ d C=>
  intro i td tb as9 ρs τs hi n p g h;rw[LY] at h;obtain⟨o,a,r',D,r,s,l,F,H,h⟩:=wb (m:=m) (k:=k) (Z:=Z) (E:=E) B h;let f:Nat->I:=λj=>if j=i then a else as9 j
  let b:Nat->Row:=λj=>if j=i+1 then r' else ρs j
  let c:Nat->Υ:=λj=>if j=i+1 then D else τs j
  have u:∀j,j<=i->Zp ops env0 as9 (λ_=>true) j=Zp ops env0 f (λ_=>true) j:=λj g=>IV j λx Y=>by simp only[f];rw[if_neg U]
  have J:Zp ops env0 f (λ_=>true) (i+1)=ZE o (Zp ops env0 as9 (λ_=>true) i) a:=by
   simp only[Zp,if_true,l];rw[<-u i (ZO i)];simp only[f,if_true]
  have w:∀(t:List Bool) (x:Bool),t.length=i->(t++[x]).getD i false=x:=λt x h=>by rw[Xk,XT U,h];simp
  have y:∀(t:List Bool) (x:Bool) (j:Nat),t.length=i->j<i->(t++[x]).getD j false=t.getD j false:=λt x j h g=>by rw[Xk,YU U,<-Xk]
  have:=C (i+1) (td++[r]) (tb++[s]) f b c U (by simp[n]) (by simp[p]) (λj L aa v=>?_) ?_
  .obtain⟨t1,t2,M,N,O,Q,R,S,V,W,X⟩:=this;exact⟨t1,t2,M,N,O,Q,R,S.trans (by simp only[b];rw[if_neg U]),V.trans (by simp only[c];rw[if_neg U]),W,X⟩
  .by_cases e:j=i
   .subst e;rw[l] at v;cases v;rw[<-u j (ZO j),w td r n,w tb s p];simp only[f,b,c,if_true];rw[if_neg U,if_neg U];exact⟨F,H⟩
   .have:=g j L U v;rw[<-u j U,y td r j n U,y tb s j p U];simp only[f,b,c];rw[if_neg U,if_neg U,if_neg U,if_neg U,if_neg U];exact this
  .rw[J];simp only[b,c,if_true];exact h
theorem W.HR (C:ZJ P T) (D:P.follows .mixedOrders=true) {r:Row} {τ:Υ} {id:Nat} (h:∀l:Ι->Υ->Prop,(∀env σ,W P m nt k env σ Z E->l env σ)->Wi P T A nt ops (idx ops.size []) env r τ [] [] l):W P m nt (.code (.region id ops true)::k) env (r::τ) Z E:=by
 have p:=h (λenv σ=>W P m nt k env σ Z E) λ_ _ h=>h;rw[idx_eq,L5] at p;obtain⟨td,tb,as9,ρs,τs,F,I,K,L,f,M⟩:=wa (m:=m) (k:=k) (Z:=Z) (E:=E) (env0:=env) C ops.size 0 [] [] (λ_=>.Zw) (λ_=>r) (λ_=>τ) U rfl rfl (λj o s=>U) p;intro N mn x cs b S B H t u v O Q R;refine .draw u v λn=>?_;have g:∀i:Nat,(Array.replicate ops.size false).getD i false=false:=λi=>by
  rw[W3,PE];split<;>rfl
 have w:=W.wv (P:=P) (m:=m) (nt:=nt) (k:=k) (Z:=Z) (E:=E) (ops:=ops) (as9:=as9) (ρs:=ρs) (τs:=τs) (td:=td) (tb:=tb) (env0:=env) F I
  (λi o c d V=>by
   rcases(f i o c).1 with⟨a,_⟩|⟨_,a,_⟩|⟨_,_,a,_⟩
   .rw[d] at a;cases a
   .rw[V] at a;cases a
   .exact a)
  (λi o c d=>by
   rcases(f i o c).1 with⟨_,b,a,_⟩|⟨a,_⟩|⟨a,_⟩
   .exact⟨a,b⟩
   .rw[d] at a;cases a
   .rw[d] at a;cases a)
  (λi o c d=>by
   rcases(f i o c).1 with⟨_,a,_⟩|⟨_,_,a,_⟩|⟨_,a,_⟩
   .rw[d] at a;cases a
   .exact a
   .rw[d] at a;cases a)
  (λi o c e=>by
   rcases(f i o c).1 with⟨a,_⟩|⟨_,_,_,a,_⟩|⟨_,_,_,a,_⟩
   .unfold writer at e;rw[a,c] at e;simp[(f i o c).2 a] at e
   .exact a
   .exact a)
  (λi o c e=>by
   rcases(f i o c).1 with⟨_,_,_,a⟩|⟨_,b,_,_,a⟩|⟨_,_,_,_,a⟩
   .exact a
   .refine a ?_;unfold writer at e;rw[b,c] at e;simpa using e
   .exact a)
  (.ZM M) ops.size n (Array.replicate ops.size false) env 0 0 J (λi=>?_) (λi o c y=>?_) (ω _) (ω _) (λj s _=>?_) (λj s _=>?_) ?_
 .rw[K,L] at w;rw[D];simp only[Region.schedule,Bool.true_or,if_true,Region.linearise];exact w N mn x cs b S B H t u v O Q R
 .have:∀n,Zp ops env as9 (λi=>(Array.replicate ops.size false).getD i false) n=env:=by
   intro n
   induction n with
   | zero=>rfl
   | succ n X=>
    simp only[Zp];rw[if_neg (by rw[g n];simp)];exact X
  rw[this]
 .rw[g] at y;cases y
 .rw[g];simp
 .rw[g];simp
 .have:=List.length_filter_le (λi=>!(Array.replicate ops.size false).getD i false) (List.range ops.size);simpa using this
theorem v' {K K':Ι->Υ->Prop} (l:∀e s,K e s->K' e s):∀(is:List Nat) (env:Ι) (r:Row) (τ:Υ) (td tb:List Bool),Wi P T A nt ops is env r τ td tb K->Wi P T A nt ops is env r τ td tb K':=by
 intro is
 induction is with
 | nil=>intro env r τ td tb h;exact⟨h.1,h.2.1,l _ _ h.2.2⟩
 | cons i is c=>
  intro env r τ td tb h;unfold Wi XD at h ⊢;cases g:ops[i]? with
  | none=>rw[g] at h;exact h.elim
  | some o=>
   rw[g] at h;simp only at h ⊢;refine⟨h.1,?_⟩
   replace h:=h.2
   cases j:X7 env ops o with
   | none=>rw[j] at h;exact h.elim
   | some w=>
    rw[j] at h;unfold WI at h ⊢;refine⟨λe=>c _ _ _ _ _ (h.1 e),λe=>?_⟩
    replace h:=h.2 e
    unfold Mi at h ⊢;split
    .rename_i f args k b;rw[b] at h;simp only at h;rcases h with⟨a,d,h⟩|⟨a,r',d,h⟩
     .exact .inl ⟨a,d,c _ _ _ _ _ h⟩
     .exact .inr ⟨a,r',d,c _ _ _ _ _ h⟩
    .rename_i b;rw[b] at h;exact h
    .rename_i b;rw[b] at h;exact h
    .rename_i m n p;split at h
     .rename_i f args k b;exact absurd b (m f args k)
     .rename_i y b;exact absurd b (n y)
     .rename_i y b;exact absurd b (p y)
     .unfold Zs.Yp at h ⊢;split at h
      .exact c _ _ _ _ _ h
      .exact⟨h.1,c _ _ _ _ _ h.2⟩
      .exact h.elim
      .obtain⟨a,t,u,v⟩:=h;exact⟨a,t,u,c _ _ _ _ _ v⟩
theorem W.JL (c:ZJ P T) (d:P.follows .mixedOrders=true) (a:Ι) (b:Υ) {r:Row} {τ:Υ} {id:Nat} (h:W P m nt k a b Z E) (f:Wi P T A nt ops (idx ops.size []) env r τ [] [] (λe s=>s=b/\∀p∈a,Z' e p.1=p.2)):W P m nt (.code (.region id ops true)::k) env (r::τ) Z E:=
 W.HR c d λl g=>v' (λe s ⟨i,j⟩=>g e s (i▸W.forget a j h)) _ _ _ _ _ _ f
theorem W.S8 (c:ZJ P T) (d:P.follows .mixedOrders=true) (a:Ι) (b:Υ) {id:Nat} (h:W P m nt k a b Z E) (f:V1 P T A nt ops (idx ops.size []) env σ [] (λe s=>s=b/\∀p∈a,Z' e p.1=p.2)):W P m nt (.code (.region id ops true)::k) env σ Z E:=
 W.draw c d λl g=>Gf (λe s ⟨i,j⟩=>g e s (i▸W.forget a j h)) _ _ _ _ f
end
end Go.TL
namespace Go.TL
open Go.Proofs.Tryz
open Go.Proofs
variable [ZS]
attribute [congr] wu
attribute [simp] wq wm wi wh we wc
def Ze (g:FuncId) (args:ψ) (d:Zu) (r:I) (b:Zu):Prop:=Δ prog g (.Ο 0 1 0 0::args) [ZV d] (λa s=>Y4 a r/\s=[ZV b]) (λ_ _=>False)
theorem D9 {l:ψ} (h:∀a∈l,Γ 0 a) (ρ:List Nat):l.map (Yt ρ)=l:=by
 induction l with
 | nil=>rfl
 | cons a l b=>rw[Xt,(h a J).Yt,b λx c=>h x (by simp[c])]
theorem Ze.c {g:FuncId} {args b:ψ} {d e:Zu} {r:I} {σ:Υ} {K E:I->Υ->Prop} (h:Ze g args d r e) (id:Nat) (j:σ[id]?=some (ZV d)) (k:ZZ b args) (f:∀a∈b,Γ 0 a) (i:Γ 0 r) (l:K r (σ.set id (ZV e))):WZ prog (.fn (.func g) [] []) (.Ο id 1 0 0::b) σ K E:=by
 refine Δ.one (as0:=.Ο 0 1 0 0::b) (r:=r) (row':=ZV e) (Δ.Uo h (.cons (.refl _) k) λa s ⟨m,n⟩=>⟨r,m,rfl,n⟩) id j (Sy d) (Sy e) ?_ (i.V9 1) ?_ ?_
 .intro a hm;rcases YZ.1 hm with rfl|hm
  .exact Nat.zero_lt_one
  .exact(f a hm).V9 1
 .rw[Xt,D9 f];rfl
 .rw[i.Yt];exact l
theorem Ze.e {g:FuncId} {args b:ψ} {d f:Zu} {r:I} {j:I->Prop} {i:I->Row->Prop} (h:Ze g args d r f) (k:ZZ b args) (l:∀a∈b,Γ 0 a) (m:Γ 0 r) (n:i r (ZV f)):Mj prog (.fn (.func g) [] []) (.Ο 0 1 0 0::b) (ZV d) j i:=
 wj (λτ=>h.c 0 rfl k l m ⟨rfl,rfl⟩) n
theorem Ze.g {g:FuncId} {args:ψ} {d b:Zu} {r:I} {σ:Υ} {K E:I->Υ->Prop} (h:Ze g args d r b) (e:K r ((ZV d::σ).set 0 (ZV b))) (f:∀a∈args,Γ 0 a:=by simp) (i:Γ 0 r:=by simp):WZ prog (.fn (.func g) [] []) (.Ο 0 1 0 0::args) (ZV d::σ) K E:=h.c 0 rfl (ZZ.refl _) f i e
theorem Ze.h {g:FuncId} {args:ψ} {d b:Zu} {r:I} {f:I->Prop} {c:I->Row->Prop} (h:Ze g args d r b) (i:c r (ZV b)) (j:∀a∈args,Γ 0 a:=by simp) (k:Γ 0 r:=by simp):Mj prog (.fn (.func g) [] []) (.Ο 0 1 0 0::args) (ZV d) f c:=h.e (ZZ.refl _) j k i
theorem Rb {p q:Prop} (k:q) (h:q->p:=by intro k;simp;(repeat (rw[Vq];simp));(try rw[Vr]);exact k):p:=h k
theorem JK {p f:Prop} {q:f->Prop} (a:f) (k:q a) (h:∀a,q a->p:=by intro b k;simp[b];(repeat (rw[Vq];simp[b]));(try rw[Vr]);exact k):p:=h a k
@[simp] theorem Xl (d:Zu) (n:Int):(d.after n).ζ.length<=d.ζ.length:=by
 unfold Zu.after;split
 .exact ZO _
 .simp[Zu.next]
theorem U1 (d:Zu) (hd:d.ζ.length<2 ^ 63) (n:Int):Ze 24 [R n] d (R (XJ d n)) (d.after n):=(HT d hd n).mono (λa s ⟨b,c⟩=>⟨.of b,c⟩) (λ_ _ h=>h)
theorem Ra (d:Zu) (hd:d.ζ.length<2 ^ 63) (a b:Int):Ze 38 [R a,R b] d (R (Vb d a b)) (d.after (IntKind.i64.wrap (b-a))):=(wA d hd a b).mono (λa s ⟨c,e⟩=>⟨.of c,e⟩) (λ_ _ h=>h)
theorem HQ (d:Zu) (hd:d.ζ.length<2 ^ 63) (l:List Int) (b:0<l.length) (c:l.length<1000000):Ze 61 [κ R 1 l] d (R (l.getD (RY d l) 0)) (d.after ((l.length:Int)-1)):=(wx d hd l b c).mono (λa s ⟨e,f⟩=>⟨.of e,f⟩) (λ_ _ h=>h)
def ON (d:Zu) (n:Int):Bool:=decide (XJ d (n-1)=n.tdiv 2)
theorem HP (d:Zu) (hd:d.ζ.length<2 ^ 63) (n:Int) (e:1<=n) (f:n<1000):Ze 156 [R n] d (ZQ (ON d n)) (d.after (n-1)):=by
 have a:IntKind.i64.wrap (n-1)=n-1:=IntWalk.i64_in _ U;unfold Ze;refine Δ.body Τ func156 rfl rfl ntmps156 rfl rfl J ?_;refine Φ ?_;refine XM a λh b=>?_;refine Ze.g (U1 d hd (n-1)) (Xx a ?_);apply b;have c:IntKind.i64.wrap (n.tdiv 2)=n.tdiv 2:=by
  rw[Int.tdiv_eq_ediv_of_nonneg U];exact IntWalk.i64_in _ U
 rw[c];exact W.ret ⟨_,rfl,.refl _,rfl⟩
def Sx (l:List Int) (k:Nat) (x:Int):List Int:=l.take k++x::l.drop k
def Xb (d:Zu):Nat->List Int×Zu
 | 0=>([],d)
 | i+1=>(Sx (Xb d i).1 (XJ (Xb d i).2 i).toNat i,(Xb d i).2.after i)
theorem JJ (d:Zu) (n:Nat):(Xb d n).2.ζ.length<=d.ζ.length:=by
 induction n with
 | zero=>exact ZO _
 | succ n a=>exact Xs (Xl _ _) a
theorem HO {l:List Int} {k:Nat} {x:Int}:(Sx l k x).length=l.length+1:=by
 unfold Sx;simp;omega
theorem JI (d:Zu) (n:Nat):(Xb d n).1.length=n:=by
 induction n with
 | zero=>rfl
 | succ n a=>show(Sx _ _ _).length=_;rw[HO,a]
def VV (l:List Int) (k:Nat):List Int:=(l++[0]).take (k+1)++l.drop k
theorem v9 (l:List Int):VV l l.length=l++[0]:=by unfold VV;rw[TC J];simp
theorem D8 {l:List Int} {k:Nat} (h:k<=l.length):(VV l k).length=l.length+1:=by
 unfold VV;simp;omega
theorem v8 {l:List Int} {k:Nat} (h:k<l.length):(VV l (k+1))[k]?=some l[k]:=by
 unfold VV;rw[YU (by simp;omega),T2 U,YU h,ε h]
theorem v7 {l:List Int} {k:Nat} (h:k<l.length):(VV l (k+1)).set (k+1) l[k]=VV l k:=by
 unfold VV;have a:((l++[0]).take (k+1+1))=(l++[0]).take (k+1)++[(l++[0])[k+1]'(by simp;omega)]:=UZ (by simp;omega);have Χ:l.drop k=l[k]::l.drop (k+1):=PF h;rw[a,Χ,TZ,Qn _ _ (by simp;omega)];congr 1;have:k+1-((l++[0]).take (k+1)).length=0:=by simp;omega
 rw[this];rfl
theorem v5 {l:List Int} {k:Nat} {x:Int} (h:k<=l.length):(VV l k).set k x=Sx l k x:=by
 unfold VV Sx;have a:((l++[0]).take (k+1))=l.take k++[(l++[0])[k]'(by simp;omega)]:=by
  rw[UZ (by simp;omega),List.take_append_of_le_length h]
 rw[a,TZ,Qn _ _ (by rw[Q6];omega)];have:k-(l.take k).length=0:=by rw[Q6];omega
 rw[this];rfl
theorem HN (d:Zu) (hd:d.ζ.length<2 ^ 63) (n:Nat) (al:n<1000):Ze 63 [R n] d (κ R 1 (Xb d n).1) (Xb d n).2:=by
 unfold Ze;refine Δ.body Τ func63 rfl rfl ntmps63 rfl rfl J ?_;refine Φ ?_;refine W.iter (λi:Nat=>i<=n) (λi=>[(0,.Ο 0 1 0 0),(1,R n),(5,Zm 1 ((Xb d i).1.map R)),(6,R i)]) (λi=>ZV (Xb d i).2::ZY 3 1 ((Xb d i).1.map R)) (λi=>n-i) 0 (ω _) rfl (by simp[Zm,Xb]) (λi hi ad=>?_);refine Φ ?_;refine W.YW rfl (λl=>?_) (λl=>?_)
 .have l:i<n:=by simpa using l
  have C:Xb d (i+1)=(Sx (Xb d i).1 (XJ (Xb d i).2 i).toNat i,(Xb d i).2.after i):=rfl;obtain⟨L,E⟩:=Z8 ((Xb d i).1);obtain⟨f,F⟩:=Z8 ((Xb d i).2);have m:L.length=i:=by rw[E];exact JI d i
  have ae:f.ζ.length<2 ^ 63:=by rw[F];exact Nr (JJ d i) hd
  rw[<-E,<-F] at C;rw[<-E,<-F];obtain⟨t0,t1⟩:=T8 f i U U;obtain⟨o,S⟩:∃k:Nat,XJ f i=k:=⟨(XJ f i).toNat,U⟩;rw[S] at C t1;have af:o<=i:=U;refine ZB λT v=>?_;refine Ze.g (U1 f ae i) (Z1 ?_);rw[S];apply v
  repeat apply Ζ
  refine W.Xv (A:=[19]) Τ [(0,.Ο 0 1 0 0),(1,R n),(5,.ms 1 (i+1) 0 (i+1)),(6,R i),(7,R o)] [ZV (f.after i),.cells 3 1 ((VV L i).map R)] ?_ (by
    have ag:(VV L i).map R=L.map R++[R 0]:=by rw[<-m,v9];simp
    rw[ag];by_cases V:L=[]
    .subst V;have ah:i=0:=by simpa using m.symm
     subst ah;(try simp);(repeat (rw[Μ];simp[VY,show Zm 1 []=.sl true 0 [] from rfl]));(try simp[VY,show Zm 1 []=.sl true 0 [] from rfl])
    .have s:L.map R≠[]:=by simpa using V
     (try simp);(repeat (rw[Μ];simp[XB s,Yz s,m]));(try simp[XB s,Yz s,m]);omega)
  refine Φ ?_;refine W.iter (λk:Nat=>o<=k/\k<=i) (λk=>[(0,.Ο 0 1 0 0),(1,R n),(5,.ms 1 (i+1) 0 (i+1)),(6,R i),(7,R o),(8,R k)]) (λk=>[ZV (f.after i),.cells 3 1 ((VV L k).map R)]) (λk=>k) i ⟨af,ZO _⟩ rfl J (λk am ai=>?_);refine Φ ?_;refine W.YW rfl (λH=>?_) (λH=>?_)
  .have X:o<k:=by simpa using H
   obtain⟨j,Y⟩:∃j,k=j+1:=⟨k-1,U⟩;have Z:j<L.length:=U;have w:IntKind.i64.wrap ((k:Int)-1)=j:=by rw[IntWalk.i64_in _ U];omega
   have K:(VV L k).length=i+1:=by rw[D8 U,m]
   obtain⟨y,M⟩:∃y,(VV L k)[k]?=some y:=⟨_,ε U⟩;obtain⟨b,c⟩:=Z8 ((VV L k).map R);have N:b.length=i+1:=by rw[c,Yb,K]
   have O:b[j]?=some (R L[j]):=by rw[c,Yk,Y,v8 Z];rfl
   have u:b[k]?=some (R y):=by rw[c,Yk,M];rfl
   have P:b.set k (R L[j])=(VV L j).map R:=by rw[c,<-v7 Z,Nl,Y]
   have aj:∀h,b[j]'h=R L[j]:=λh=>by rw[ε h] at O;exact WM O
   have Q:∀h,b[k]'h=R y:=λh=>by rw[ε h] at u;exact WM u
   refine W.to (σ':=[ZV (f.after i),.cells 3 1 b]) (env':=[(0,.Ο 0 1 0 0),(1,R n),(5,.ms 1 (i+1) 0 (i+1)),(6,R i),(7,R o),(8,R k)]) ?_ (by rw[c]) J;refine XM (Ρ w (Ρ N (Ρ O (Ρ u (Ρ aj Q))))) λT v=>?_;refine⟨U,U,?_⟩;apply v;refine μ w ?_;refine W.to (ai j ⟨U,U⟩ U) ?_ ?_
   .rw[P]
   .simp
  .have X:k=o:=by simp at H;omega
   subst X;refine W.exit rfl ?_;have K:(VV L k).length=i+1:=by rw[D8 U,m]
   obtain⟨y,M⟩:∃y,(VV L k)[k]?=some y:=⟨_,ε U⟩;obtain⟨b,c⟩:=Z8 ((VV L k).map R);have N:b.length=i+1:=by rw[c,Yb,K]
   have u:b[k]?=some (R y):=by rw[c,Yk,M];rfl
   have P:b.set k (R i)=(Sx L k i).map R:=by rw[c,<-v5 U,Nl]
   have Q:∀h,b[k]'h=R y:=λh=>by rw[ε h] at u;exact WM u
   refine W.to (σ':=[ZV (f.after i),.cells 3 1 b]) (env':=[(0,.Ο 0 1 0 0),(1,R n),(5,.ms 1 (i+1) 0 (i+1)),(6,R i),(7,R k)]) ?_ (by rw[c]) J;refine XM (Ρ N (Ρ u Q)) λT v=>?_;refine⟨U,?_⟩;apply v;have w:=YF l (show n<2 ^ 62 by omega);refine μ w ?_;have s:(Sx L k i).map R≠[]:=λh=>by have:=congrArg List.length h;rw[Yb,HO] at this;simp at this
   refine W.to (ad (i+1) l U) ?_ ?_
   .rw[C,P,Yz (by simpa using s)];rfl
   .rw[C];simp only[Int.toNat_natCast];rw[XB s];simp[w,HO,m]
 .have l:i=n:=by simp at l;omega
  subst l;refine W.exit rfl ?_;refine Φ ?_;refine W.cut 1 J [(4,Xn 1 ((Xb d i).1.map R))] J (λid r an aa=>?_) ?_ ?_
  .have:id=0:=U
   subst this;simp at aa;subst aa;exact λe D a B=>by simp[I.cells] at D;subst D;simp[I.cells] at B;rcases B with rfl|rfl<;>simp[Yx,I.cells]
  .intro p ab;simp at ab;subst ab;show Yu 1 _ (Z' _ 4) _;simp;refine Kl (t:=3) (ZO _) (λak=>by rw[Yz ak];rfl) (λe D a B=>?_);obtain⟨x,_,rfl⟩:=YK.1 D;simp[I.cells] at B;subst B;exact .z _
  .exact W.ret ⟨_,rfl,.acc,rfl⟩
theorem T7 (d:Zu) (h:Nat):X8 h (ZV d):=λe b a c=>by
 simp[I.cells] at b;subst b;simp[I.cells] at c;rcases c with rfl|rfl<;>simp[Yx,I.cells]
section
variable {P:Program} {m nt:Nat} {k:List Item} {env:Ι} {Z:XF} {E:Yf}
theorem W.v3 {d:Zu} {t kk:Nat} {l:ψ} {x:Nat} (g:m<=1) (h:∀e∈l,∀a∈e.cells,Γ 0 a) (env':Ι) (hd:Z' env x=Zm 1 l) (c:∀p∈env',Z' env p.1=p.2/\Γ 1 p.2) (i:W P m nt k ((x,Xn kk l)::env') [ZV d] Z E):W P m nt k env (ZV d::ZY t kk l) Z E:=
 W.cut 1 g ((x,Xn kk l)::env') J (λid r s f=>by
  have:id=0:=U;subst this;simp at f;subst f;exact T7 d 1) (λp b=>by
  rcases YZ.1 b with rfl|b
  .show Yu 1 _ (Z' env x) _;rw[hd];exact Kl (t:=t) (ZO _) (λj=>by rw[Yz j];rfl) (λe n a o=>(h e n a o).mono (ω _))
  .rw[(c p b).1];exact .low (c p b).2) (by simpa using i)
end
theorem vZ {i n:Nat} (h:i<n) (a:n<1000):IntKind.i64.wrap ((i:Int)+1)=((i+1:Nat):Int):=by
 rw[IntWalk.i64_in _ U];omega
def Ww (d:Zu):Nat->List Int×Zu
 | 0=>([],d)
 | i+1=>((Ww d i).1++(if ON (Ww d i).2 2 then [(i:Int)] else []),(Ww d i).2.after 1)
theorem D7 (d:Zu) (n:Nat):(Ww d n).2.ζ.length<=d.ζ.length:=by
 induction n with
 | zero=>exact ZO _
 | succ n a=>exact Xs (Xl _ _) a
theorem D6 (d:Zu) (n:Nat):(Ww d n).1.length<=n:=by
 induction n with
 | zero=>exact ZO _
 | succ n a=>
  show((Ww d n).1++_).length<=_;rw[Vo];split<;>simp<;>omega
theorem vY (d:Zu) (hd:d.ζ.length<2 ^ 63):Ze 156 [R 2] d (ZQ (ON d 2)) (d.after 1):=HP d hd 2 Z2 Z2
theorem vX (d:Zu) (hd:d.ζ.length<2 ^ 63):Ze 129 [] d (κ R 1 (Ww d 3).1) (Ww d 3).2:=by
 unfold Ze;obtain⟨n,t⟩:=Z8 3;rw[<-t];refine Δ.body Τ func129 rfl rfl ntmps129 rfl rfl J ?_;refine Φ ?_;refine W.iter (λi:Nat=>i<=n) (λi=>[(0,.Ο 0 1 0 0),(3,Zm 1 ((Ww d i).1.map R)),(4,R i)]) (λi=>ZV (Ww d i).2::ZY 3 1 ((Ww d i).1.map R)) (λi=>n-i) 0 (ω _) rfl (by simp[Zm,Ww]) (λi hi p=>?_);refine Φ ?_;refine W.YW rfl (λb=>?_) (λb=>?_)
 .have b:i<n:=by simp at b;omega
  have c:Ww d (i+1)=((Ww d i).1++(if ON (Ww d i).2 2 then [(i:Int)] else []),(Ww d i).2.after 1):=rfl
  have u:=D6 d i;obtain⟨L,m⟩:=Z8 ((Ww d i).1);obtain⟨f,o⟩:=Z8 ((Ww d i).2);have v:f.ζ.length<2 ^ 63:=by rw[o];exact Nr (D7 d i) hd
  rw[<-m,<-o] at c;rw[<-m] at u;rw[<-m,<-o];have h:=vZ b U;refine ZB λB w=>?_;refine Ze.g (vY f v) (Z1 ?_);apply w;cases j:ON f 2
  .refine χ rfl ?_;refine μ h ?_;refine W.to (p (i+1) b U) ?_ ?_
   .rw[c,j];simp
   .rw[c,j];simp[h]
  .refine υ rfl ?_
   repeat apply Ζ
   refine W.Xv (A:=[14]) Τ [(0,.Ο 0 1 0 0),(3,Zm 1 ((L++[(i:Int)]).map R)),(4,R i)] (ZV (f.after 1)::ZY 3 1 ((L++[(i:Int)]).map R)) ?_ (by
    rw[Xz,Xt,TX,Sa,XB (l:=L.map R++[R i]) J];by_cases r:L=[]
    .subst r;(try simp);(repeat (rw[Μ];simp[VY,show Zm 1 []=.sl true 0 [] from rfl]));(try simp[VY,show Zm 1 []=.sl true 0 [] from rfl])
    .have k:L.map R≠[]:=by simpa using r
     (try simp);(repeat (rw[Μ];simp[XB k,Yz k]));(try simp[XB k,Yz k]);omega)
   refine μ h ?_;refine W.to (p (i+1) b U) ?_ ?_
   .rw[c,j];simp
   .rw[c,j];simp[h]
 .have b:i=n:=by simp at b;omega
  subst b;refine W.exit rfl ?_;refine Φ ?_;refine W.v3 (x:=2) J (λe y a s=>?_) [] J J ?_
  .obtain⟨x,_,rfl⟩:=YK.1 y;simp[I.cells] at s;subst s;exact .z _
  .exact W.ret ⟨_,rfl,.acc,rfl⟩
end Go.TL
namespace Go.TL
open Go.Proofs.Tryz
open Go.Conc Go.Proofs
theorem HM:@Seq Sz calm:=@Seq.mk Sz calm rfl (λ_ h=>h.rel) (λ_ h=>h.η)
theorem vW (w:World):Calm (γ.start w):=⟨rfl,rfl,rfl,λ_=>trivial⟩
def U0 (w:World):Α:=λb o=>((Ψ.UP w).ς b o).map (·.1)
theorem vV (w:World):Holds (U0 w) [] [] (Ψ.UP w):=
 ⟨λb o v h=>by
  unfold U0 at h;cases a:(Ψ.UP w).ς b o with
  | none=>rw[a] at h;cases h
  | some x=>rw[a] at h;cases h;exact⟨x.2,rfl⟩,rfl,λid r bo h=>by simp at h,λi j c d b e f _ h=>by simp at h,λid r b N h=>by simp at h⟩
theorem vU {P:Program} {f:FuncId} {fn:Func} {body:Code} {d:Nat} (b:P.funcs[f]?=some fn) (g:fn.body=some body) (i:fn.results=#[.tmp d]) (m:P.inits.idxOf? f=none) {w:World} {l:ψ} {args:Array Value} (n:X1 (U0 w) [] [] l args) (o:l.length<=fn.ntmps)
  (p:@W Sz P 0 fn.ntmps [.code body] (entry 0 l) [] (λj env _=>(∃k,j=.code .ret::k)/\Z' env d=ZQ true) (λ_ _ _=>False)):Comes P (λv=>v=.bool true) w (solo (Go.Conc.G (Frame.enter P f args .normal) []) w) #[]:=by
 letI:ZS:=Sz;refine Goes.comes ?_;show Zq P _ true (γ.start w) (Frame.enter P f args .normal) [] (Ψ.UP w);rw[Sc b g];refine p (λv=>v=.bool true) true calm [] (Frame.enter P f args .normal) (U0 w) [] (Ψ.UP w) _ HM rfl (XN.enter (vV w) n (ZO _) o) (λj env' σ' r B' H' t' c s C t x=>?_) (λa env' σ' r B' H' t' c v A=>A.elim) (γ.start w) (vW w);obtain⟨⟨k,B⟩,hd⟩:=s;have e:c=j:=x;subst e;subst B;refine ξ.ret HM rfl rfl (ξ.done (v:=.bool true) HM (λy h=>h.shut) (λy h=>h.deaf) rfl rfl rfl b m ?_ rfl);have hv:t'.getD d undef=.bool true:=by
  have:=t.Zr d;rw[hd] at this;generalize t'.getD d undef=u at this;cases this;rfl
 show results fn t'=_;unfold results;rw[i];rw[W3] at hv;simp[hv]
end Go.TL
namespace Go.TL
open Go.Proofs.Tryz
open Go.Conc Go.ConcM Go.Proofs
open Go.ChangeShapes Go.WideShapes Go.ChangeAt Go.RowKit
theorem vT:ownKnob prog.godebug=none:=by kernel_rfl
theorem XP.below {W w:World} (h:XP (λ_ _=>False) (λ_=>False) W w):Below W.heap.size W {w with os:=W.os}:=by
 refine⟨rfl,h.tape,h.output,h.size,λk d=>?_⟩;show w.heap[k]?=W.heap[k]?;have e:=X4 d;cases a:Obj.Q3 W.heap[k] with
 | false=>rw[e];exact h.TW k _ e a id
 | true=>
  cases b:W.heap[k] with
  | cells c t f=>
   rw[b] at e;obtain⟨c',g,j,i⟩:=h.cells k c t f e;have:c'=c:=by
    apply OA ;apply Su;intro o;have:=i o id;simpa using this
   rw[e,g,this]
  | _=>rw[b] at a;simp[Obj.Q3] at a
theorem vS:laidOutB prog=true:=by kernel_rfl
theorem vR {W:World} {b o:Nat} {v:Value} (h:W.cell? ⟨b,o,none⟩=some v):U0 W b o=some v:=by
 unfold World.cell? at h;unfold U0 Ψ.UP;simp only at h ⊢;split at h
 .rename_i c t d a;rw[a];simp at h ⊢;exact h
 .cases h
end Go.TL
namespace Go.TL
open Go.Proofs.Tryz
open Go.Conc Go.ConcM Go.Proofs
open Go.ChangeShapes Go.WideShapes Go.ChangeAt Go.RowKit Go.Deep
section
variable {H:Type} {enc:TypeId×Value->H} {P:Program} {W:World}
def Wh (enc:TypeId×Value->H) (P:Program) (W:World) (t:TypeId) (k:Nat) {b:Type} (d:b->Prop) (F:b->I):Prop:=
 ∀(e:Nat) (cs:List Value) (x:DataW H×List MemPlace),DataW.trod enc P W 0 (λ_=>true) true e t cs=some x->∃a:b,d a/\(F a).cells.length=k/\cs.length=k/\∀(j:Nat) (c:I) (v:Value),(F a).cells[j]?=some c->cs[j]?=some v->Θ (U0 W) [] [] c v
theorem OM {t:TypeId} (d:P.underlying t=some (.int .i64)):Wh enc P W t 1 (λ_:Int=>True) R:=λe cs x h=>by
 obtain⟨n,rfl,_⟩:=DataW.trod_int d h;refine⟨n,trivial,rfl,rfl,λj c v a b=>?_⟩
 match j with
 | 0=>simp[I.cells] at a b;subst a;subst b;exact .z _
 | j+1=>simp[I.cells] at a
theorem vQ {t:TypeId} (d:P.underlying t=some .string):Wh enc P W t 1 (λ_:ByteArray=>True) UK:=λe cs x h=>by
 obtain⟨n,rfl,_⟩:=DataW.trod_string d h;refine⟨n,trivial,rfl,rfl,λj c v a b=>?_⟩
 match j with
 | 0=>simp[I.cells] at a b;subst a;subst b;exact .z _
 | j+1=>simp[I.cells] at a
theorem D5 {d:Type} {p:Nat->d->Prop}:∀n,(∀i,i<n->∃a,p i a)->∃l:List d,l.length=n/\∀(i:Nat) (a:d),l[i]?=some a->p i a
 | 0,_=>⟨[],rfl,λi a h=>by simp at h⟩
 | n+1,h=>by
  obtain⟨l,e,f⟩:=D5 n λi hi=>h i U;obtain⟨a,g⟩:=h n U;refine⟨l++[a],by simp[e],λi b c=>?_⟩;by_cases hi:i<l.length
  .rw[YU hi] at c;exact f i b c
  .rw[XT U] at c;obtain⟨j,k⟩:=Z8 (i-l.length);rw[<-k] at c
   match j with
   | 0=>
    simp at c;subst c;rw[show i=n by omega];exact g
   | j+1=>simp at c
theorem Mh {t e:TypeId} {k:Nat} {s:Type} {u:s->Prop} {F:s->I} (L:P.underlying t=some (.slice e)) (M:P.cellsOf e=k) (ai:0<k) (N:Wh enc P W e k u F) :
  Wh enc P W t 1 (λl:List s=>l.length<2 ^ 63/\∀a∈l,u a) (λl=>.sl false k (l.map F)):=λaj cs x h=>by
 rcases open_slice L h with⟨rfl,_⟩|⟨a,len,cap,m,n,ak,al,rfl,_,am,O,Q,_,R⟩
 .refine⟨[],⟨Nat.two_pow_pos 63,J⟩,rfl,rfl,λj c v d p=>?_⟩
  match j with
  | 0=>simp[I.cells] at d p;subst d;subst p;exact .WB _ _ J
  | j+1=>simp[I.cells] at d
 have an:m=cap:=by rw[Q];rfl
 have T:∀i,i<len->∃b:s,u b/\(F b).cells.length=k/\∀(j:Nat) (c:I),(F b).cells[j]?=some c->∃v,W.cell? ((a.add (i*k)).add j)=some v/\Θ (U0 W) [] [] c v:=λi hi=>by
  obtain⟨cs',d,p⟩:=R i U;rw[M] at d;obtain⟨_,ao,V⟩:=World.cells?_some d;obtain⟨b,X,E,ap,Y⟩:=N n cs' _ p;refine⟨b,X,E,λj c g=>?_⟩;have Z:j<k:=by rw[<-E];exact(ZD.1 g).1
  have hv:=ε (show j<cs'.length by omega);exact⟨_,by rw[V j Z,hv],Y j c _ g hv⟩
 obtain⟨l,aa,w⟩:=D5 len T;refine⟨l,⟨by unfold maxLen at O;omega,λb ab=>?_⟩,rfl,rfl,λj c v d p=>?_⟩
 .obtain⟨i,hi,rfl⟩:=T0 ab;exact(w i _ (ε hi)).1
 match j with
 | j+1=>simp[I.cells] at d
 | 0=>
 simp[I.cells] at d p;subst d;subst p;by_cases ad:len=0
 .have:l=[]:=YV.1 U;subst this;subst ad;exact .WB _ _ J
 have H:a.spot=none:=by
  have ae:=ε (show 0<l.length by omega);obtain⟨_,K,A⟩:=w 0 _ ae;have af:=ε (show 0<(F l[0]).cells.length by omega);obtain⟨v,hv,_⟩:=A 0 _ af;unfold World.cell? Addr.add at hv;simp only[Qk,if_true] at hv;cases ag:a.spot with
  | none=>rfl
  | some y=>
   rw[ag] at hv;simp at hv;split at hv<;>simp at hv
 obtain⟨b,o,sp⟩:=a;simp only at H;subst H;have ah:∀i j,((⟨b,o,none⟩:Addr).add i).add j=⟨b,o+i+j,none⟩:=λi j=>by rw[add_plain,add_plain]
 have one:∀(i:Nat) (f:I),(l.map F)[i]?=some f->f.cells.length=k/\∀(j:Nat) (c:I),f.cells[j]?=some c->∃v,U0 W b (o+i*k+j)=some v/\Θ (U0 W) [] [] c v:=λi f hi=>by
  rw[Yk] at hi;cases C:l[i]? with
  | none=>rw[C] at hi;cases hi
  | some y=>
   rw[C] at hi;cases hi;obtain⟨_,K,A⟩:=w i y C;refine⟨K,λj c g=>?_⟩;obtain⟨v,r,D⟩:=A j c g;rw[ah] at r;exact⟨v,vR r,D⟩
 have:=Θ.sl (S:=U0 W) (B:=[]) (σ:=[]) (ex:=false) (k:=k) (l:=l.map F) b o cap (λi j=>(U0 W b (o+i*k+j)).getD undef) J (by rw[Yb];omega)
  (λi f hi=>(one i f hi).1) (λi f hi j c g=>by
   obtain⟨v,r,_⟩:=(one i f hi).2 j c g;rw[r];rfl) (λi f hi j c g=>by
   obtain⟨v,r,D⟩:=(one i f hi).2 j c g;rw[r];exact D)
 rw[Yb,aa] at this;exact this
theorem Mg {a:Type} {cs:List a} {o k j:Nat} (b:j<k):((cs.drop o).take k)[j]?=cs[o+j]?:=by
 rw[T2 b,Uz]
theorem vP {t:TypeId} {f0 f1:Field} {d f:Nat} {g i:Type} {l:g->Prop} {m:i->Prop} {o:g->I} {p:i->I} {k:Type} (G:g->i->k) {r:k->Prop} {F:k->I} (C:P.underlying t=some (.struct #[f0,f1])) (D:f0.offset=0) (E:f1.offset=d)
  (H:P.cellsOf f0.type=d) (J:P.cellsOf f1.type=f) (K:P.cellsOf t=d+f) (L:Wh enc P W f0.type d l o) (M:Wh enc P W f1.type f m p)
  (s:∀a b,(F (G a b)).cells=(o a).cells++(p b).cells) (N:∀a b,l a->m b->r (G a b)):Wh enc P W t (d+f) r F:=λY cs x h=>by
 obtain⟨Z,aa,n,_,O,u,w⟩:=trod_struct2 C h;rw[D,H] at u;rw[E,J] at w;obtain⟨a,Q,y,ab,R⟩:=L _ _ _ u;obtain⟨b,S,A,ad,T⟩:=M _ _ _ w;refine⟨G a b,N a b Q S,by rw[s,Vo,y,A],by rw[O,K],λj c v e B=>?_⟩;rw[s] at e;by_cases V:j<d
 .rw[YU U] at e;exact R j c v e (by rw[Mg V,VD];exact B)
 .rw[XT U,y] at e;have X:j-d<f:=by rw[<-A];exact(ZD.1 e).1
  exact T (j-d) c v e (by rw[Mg X,show d+(j-d)=j by omega];exact B)
theorem D4 {t:TypeId} {f0 f1 f2:Field} {g i k:Type} {p:g->Prop} {r:i->Prop} {s:k->Prop} {u:g->I} {w:i->I} {y:k->I} {l:Type} (G:g->i->k->l) {A:l->Prop} {F:l->I} (H:P.underlying t=some (.struct #[f0,f1,f2])) (J:f0.offset=0) (K:f1.offset=1) (L:f2.offset=2)
  (M:P.cellsOf f0.type=1) (N:P.cellsOf f1.type=1) (O:P.cellsOf f2.type=1) (Q:P.cellsOf t=3) (R:Wh enc P W f0.type 1 p u) (S:Wh enc P W f1.type 1 r w) (T:Wh enc P W f2.type 1 s y)
  (B:∀a b d,(F (G a b d)).cells=(u a).cells++((w b).cells++(y d).cells)) (V:∀a b d,p a->r b->s d->A (G a b d)):Wh enc P W t 3 A F:=λad cs x h=>by
 obtain⟨ae,af,ag,n,_,X,C,D,E⟩:=trod_struct3 H h;rw[J,M] at C;rw[K,N] at D;rw[L,O] at E;obtain⟨a,Y,f,ah,Z⟩:=R _ _ _ C;obtain⟨b,aa,m,ai,ab⟩:=S _ _ _ D;obtain⟨d,d1,d2,d3,d4⟩:=T _ _ _ E;refine⟨G a b d,V a b d Y aa d1,by rw[B,Vo,Vo,f,m,d2],by rw[X,Q],λj c v e o=>?_⟩;rw[B] at e
 match j with
 | 0=>
  rw[YU U] at e;exact Z 0 c v e (by rw[Mg U];exact o)
 | 1=>
  rw[XT U,f,YU U] at e;exact ab 0 c v e (by rw[Mg U];exact o)
 | 2=>
  rw[XT U,f,XT U,m] at e;exact d4 0 c v e (by rw[Mg U];exact o)
 | j+3=>rw[XT U,f,XT U,m,TB U] at e;cases e
end
end Go.TL
