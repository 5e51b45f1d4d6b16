import Derived.Carry
import Derived.ChangeSame
import Derived.ChangeSlices
import Derived.Conc.HoldsTime
import Derived.Deep.Slices
import Derived.Deep.Strs
import Derived.OpenShut
import Derived.Test.YtlabjopijpkiaaaGreatHAH
import Derived.Test.YtlabjopijpkiaaaGreatRows
set_option maxHeartbeats 16000000
set_option maxRecDepth 20000
set_option linter.unusedSectionVars false
set_option linter.unusedSimpArgs false
set_option linter.unusedVariables false
namespace Go.TL
open Go.Proofs.Tryz
open Go.Conc Go.Proofs
variable [ZV]
noncomputable abbrev u' (vs:Array Value):Frame:=Frame.enter prog 126 vs .normal
abbrev QH (L:Nat):I:=.fn (.yield L) [] []
structure u9 (Q:Value->Prop) (mn:Bool) (x:W3) (cs:List Frame) (e:Frame) (o:Base) (L:Nat) (r:Loop) (n:Nat) (b d:Row) (Fnd:List (List Nat)->Prop):Prop where
 m:o.m=2
 u7:XZ 2 b
 u6:XZ 2 d
 u5:r.params.size=1
 round:∀(l:List Nat) (rem:List (List Nat)),Fnd (l::rem)->l.length<=n->(∀x∈l,x<n)->∀(S:ο) (B:δ) (H:Ψ) (g:Array Value) (c:Frame),XY 2 o.S o.B o.H o.σ S B H [b,d,XA l]->Holds S B [b,d,XA l] H->¬B.has L->H.obj L=some (.loop r)->XN S B [b,d,XA l] [.ms 2 l.length 0 l.length] g->
  (Fnd rem->∀(f:ο) (B':δ) (H':Ψ),XY 2 o.S o.B o.H o.σ f B' H' [b,d,XA l]->Zy S f B B' [b,d,XA l] [b,d,XA l]->Holds f B' [b,d,XA l] H'->¬B'.has L->H'.obj L=some (.loop r)->θ prog Q mn x (c.finish (.bool true)) (e::cs) H')->
  (∀H',(∀(i:ο) (h:Ψ),Ext XL [] H' i [] h->θ prog Q mn x (e.finish (.tuple #[])) cs h)->θ prog Q mn x (c.finish (.bool false)) (e::cs) H')->
  θ prog Q mn x (Frame.round L r.fn ((r.params.zip g).foldl (λj (t,a)=>j.setIfInBounds t a) r.tmps) r.assign r.body .normal) (c::e::cs) H
 done:Fnd []->∀(S:ο) (B:δ) (H:Ψ),XY 2 o.S o.B o.H o.σ S B H [b,d]->Holds S B [b,d] H->¬B.has L->H.obj L=some (.loop r)->θ prog Q mn x (e.finish (.tuple #[])) cs H
def QG (c i:Nat):List Int:=(List.range i).map (λj:Nat=>(j:Int))++List.replicate (c-i) 0
theorem u4 {c i:Nat} (h:i<c):(QG c i).set i (i:Int)=QG c (i+1):=by
 unfold QG;have a:((List.range i).map λj:Nat=>(j:Int)).length=i:=J;have Φ:c-i=(c-(i+1))+1:=U;rw[PF _ _ U,a,PB,Φ,List.replicate_succ,List.set_cons_zero,Vp,XR];simp
theorem u3 {c i:Nat} (h:i<=c):(QG c i).length=c:=by simp[QG];omega
theorem u2 (c:Nat):(QG c c).map R=(List.range c).map λn:Nat=>R n:=by simp[QG]
section
variable {Q:Value->Prop} {mn:Bool} {x:W3} {cs:List Frame} {CZ:Frame} {o:Base} {L:Nat} {r:Loop} {n:Nat} {QF QE:Row} {Fnd:List (List Nat)->Prop} {vs:Array Value}
theorem u1 (v:Seq x) (bi:n<=12) (C:u9 Q mn x cs CZ o L r n QF QE Fnd) (aA:Fnd (VW n 0)) :
  PS prog Q mn x (u' vs) (CZ::cs) 72 o L r [.code (f126.body.getD .skip)] (entry 0 [QH L,.π [R n]]) [QF,QE]:=by
 have E:=C.m;refine PS.XB v rfl ?_;simp only[f126,Option.getD_some];have ag:=Yx (show n<13 by omega) U;refine Ι ag ?_;refine W.iter (λc:Nat=>c<=n+1/\Fnd (VW n c)) (λc=>[(0,QH L),(1,.π [R n]),(9,R ((n:Int)+1)),(10,R c)]) (λ_=>[QF,QE]) (λc=>n+1-c) 0 ⟨ω _,aA⟩ rfl (by simp[entry,ag]) (λc aB aC=>?_);obtain⟨bj,T⟩:=aB;refine Χ ?_;by_cases K:c<n+1
 .refine Ε (by simp;omega) ?_;refine Χ ?_;have bk:(0:Int)<=c:=U;have aD:(8:Int)*c<=281474976710656:=U;refine Y4 (A:=[14]) Ρ λbl aE=>Z1 ?_;simp[aD];(repeat (rw[Μ];simp));apply aE;refine Χ ?_;refine W.iter (λi:Nat=>i<=c) (λi=>[(0,QH L),(1,.π [R n]),(9,R ((n:Int)+1)),(10,R c),(3,R c),(4,.ms 2 c 0 c),(16,R c),(17,R i)]) (λi=>[QF,QE,.cells 3 1 ((QG c i).map R)]) (λi=>c-i) 0 (ω _) (by simp[QG]) J (λi hi aF=>?_);refine Χ ?_;by_cases D:i<c
  .refine Ε (by simp[D]) ?_;have ah:=Yx D (show c<2 ^ 62 by omega);have ai:=u3 (RP D);have aj:=u4 D;obtain⟨G,aG⟩:=ψ (QG c i);rw[<-aG] at ai aj ⊢;have aH:i<G.length:=U;refine Ι (Υ ai (Υ D (Υ aH ah))) ?_;refine W.to (aF (i+1) D U) ?_ ?_
   .rw[<-aj];simp
   .simp[ah]
  .have aI:i=c:=U
   subst aI;refine Η J ?_;refine W.exit rfl ?_;rw[u2]
   repeat apply Ο
   refine W.iter (λx:Nat×List Nat=>Rq n x.1 x.2=true/\x.2.length=i/\Fnd (TG n x.1 x.2++VW n (i+1))) (λ_=>[(0,QH L),(1,.π [R n]),(9,R ((n:Int)+1)),(10,R i),(3,R i),(4,.ms 2 i 0 i)]) (λx=>[QF,QE,XA x.2]) (λx=>x.1) (1000,List.range i)
    ⟨w5 n U i K,J,by rw[<-wZ K];exact T⟩ rfl J (λx v aJ=>?_)
   obtain⟨g,l⟩:=x;obtain⟨X,f,Y⟩:=v;simp only at X f Y ⊢
   repeat apply Ο
   refine W.Zm ?_;refine XK [0,1] [2,3] ?_;refine W.stop ?_;obtain⟨y,aK,ak⟩:∃y,TG n g l++VW n (i+1)=l::y/\((Rr n l=none/\y=VW n (i+1))\/∃a b,Rr n l=some a/\g=b+1/\y=TG n b a++VW n (i+1)/\Rq n b a=true):=by
    cases al:Rr n l with
    | none=>exact⟨VW n (i+1),by rw[wW al];rfl,.inl ⟨rfl,rfl⟩⟩
    | some a=>
     obtain⟨b,F,Φ,aL⟩:=wV X al;exact⟨TG n b a++VW n (i+1),by rw[Φ];rfl,.inr ⟨a,b,rfl,F,rfl,aL⟩⟩
   rw[aK] at Y;have am:=wX X;refine PS.yield v ⟨rfl,rfl,by simp[Frame.enter],rfl⟩ rfl rfl rfl C.u5.symm λS B H t aM M s Z aa hv=>?_;refine C.round l y Y U am S B H aM _ (by rw[<-E];exact M) s.holds Z aa (by rw[f];exact hv) (λab an B' H' aN aO aP aQ aR=>?_) (λH' aS=>?_)
   .rw[V4 rfl];have ad:YJ an B' [QF,QE,XA l] [(27,.z (.bool true)),(0,QH L),(1,.π [R n]),(9,R ((n:Int)+1)),(10,R i),(3,R i),(4,.ms 2 i 0 i)] (t.setIfInBounds 27 (.bool true)):=N9 (YJ.put (s.Zn.later aO) (d:=27) (by rw[s.size];omega) (.z _)) J;refine(PS.XB (env:=[(27,.z (.bool true)),(0,QH L),(1,.π [R n]),(9,R ((n:Int)+1)),(10,R i),(3,R i),(4,.ms 2 i 0 i)]) (σ:=[QF,QE,XA l]) (o:=o) (L:=L) (r:=r) (nt:=72) v rfl ?_) an B' H' _ (by rw[E];exact aN) ⟨aP,ad,XH (Tt ..) s.size,by rw[E];simp⟩ aQ aR;refine XK [3] [] ?_;refine W.ZH ?_;refine Η rfl ?_;have ao:IntKind.i64.wrap ((i:Int)-1)=(i:Int)-1:=IntWalk.i64_in _ U;refine Ι ao ?_;refine W.iter (λe:Nat=>e<=i/\Rs n l i=Rs n l e) (λe=>[(0,QH L),(1,.π [R n]),(9,R ((n:Int)+1)),(10,R i),(3,R i),(4,.ms 2 i 0 i),(6,R ((e:Int)-1))]) (λ_=>[QF,QE,XA l]) (λe=>e) i ⟨Z5 _,rfl⟩ rfl (by simp[ao]) (λe aT aU=>?_);obtain⟨bm,ap⟩:=aT
    repeat apply Ο
    have aq:=Yx K (show n+1<2 ^ 62 by omega)
    have ae:Rr n l=(Rs n l e).map λq=>TH l q (l.length-q):=by unfold Rr;rw[f,ap]
    cases e with
    | zero=>
     have aV:y=VW n (i+1):=by
      rcases ak with⟨_,h⟩|⟨a,b,h,_⟩
      .exact h
      .rw[ae] at h;simp[Rs] at h
     rw[aV] at ab;refine Pn ?_;refine Η rfl ?_;refine W.exit rfl ?_;refine Χ ?_;refine Ε rfl ?_;refine W.exit rfl ?_;refine W.drop (h:=2) (σ':=[QF,QE]) (by rw[E];exact Z5 _) J (λid q aW u=>by
      match id,aW,u with
      | 0,_,u=>simp at u;subst u;exact C.u7
      | 1,_,u=>simp at u;subst u;exact C.u6) rfl [(0,QH L),(1,.π [R n]),(9,R ((n:Int)+1)),(10,R i)] (by simp[Uf]) ?_
     refine Ι aq ?_;refine W.to (aC (i+1) ⟨K,ab⟩ U) rfl ?_;simp[aq]
    | succ e=>
     have I:e<l.length:=U
     have bn:=am _ (Y7 I)
     have N:l.getD e 0=l[e]:=by simp[Xd,I]
     have aX:IntKind.i64.wrap ((n:Int)-i)=(n:Int)-i:=IntWalk.i64_in _ U
     have aY:IntKind.i64.wrap ((n:Int)-i+e)=(n:Int)-i+e:=IntWalk.i64_in _ U
     have ar:IntKind.i64.wrap ((e:Int)-1)=(e:Int)-1:=IntWalk.i64_in _ U
     have au:e<i:=U
     have aZ:((e+1:Nat):Int)-1=e:=U;rw[aZ];refine W0 (Υ I (Υ au (Υ f (Υ aX aY)))) ?_;by_cases u:l[e]+i=n+e
     .have O:Rs n l (e+1)=Rs n l e:=by rw[Rs,if_pos (by rw[N,f];exact u)]
      refine Ε (by simp;omega) ?_;refine Ι ar ?_;refine W.to (aU e ⟨U,by rw[ap,O]⟩ U) rfl ?_;simp[ar]
     .have O:Rs n l (e+1)=some e:=by rw[Rs,if_neg (by rw[N,f];exact u)]
      refine Η (by simp;omega) ?_;refine W.exit rfl ?_;refine Χ ?_;refine Η J ?_;obtain⟨a,b,af,bo,a0,a1⟩:∃a b,Rr n l=some a/\g=b+1/\y=TG n b a++VW n (i+1)/\Rq n b a=true:=by
       rcases ak with⟨h,_⟩|h
       .rw[ae,O] at h;cases h
       .exact h
      have av:a=TH l e (i-e):=by
       rw[ae,O] at af;simp at af;rw[<-af,f]
      have a2:IntKind.i64.wrap ((l[e]:Int)+1)=(l[e]:Int)+1:=IntWalk.i64_in _ U
      have aw:IntKind.i64.wrap ((e:Int)+1)=(e:Int)+1:=IntWalk.i64_in _ U;refine Ι (Υ I (Υ au (Υ f (Υ a2 aw)))) ?_;refine W.iter (λp:Nat=>e+1<=p/\p<=i) (λp=>[(0,QH L),(1,.π [R n]),(9,R ((n:Int)+1)),(10,R i),(3,R i),(4,.ms 2 i 0 i),(7,R p)]) (λp=>[QF,QE,XA (TH l e (p-e))]) (λp=>i-p) (e+1) ⟨Z5 _,U⟩ (by
       have:e+1-e=1:=U;rw[this,wU I];simp) (by simp[aw]) (λp s a3=>?_)
      obtain⟨bp,bq⟩:=s;refine Χ ?_;by_cases ax:p<i
      .refine Ε (by simp[ax]) ?_;obtain⟨q,br⟩:=ψ (p-1);obtain⟨w,P⟩:=ψ (TH l e (p-e));have a4:w.length=i:=by rw[P,DD U,f]
       have ay:q<w.length:=U
       have a5:p<w.length:=U
       have a6:q<i:=U
       have a7:w[q]=l[e]+(p-e):=by
        have:=wT (l:=l) (i:=e) (k:=p-e) U U
        have F:e+(p-e)-1=q:=U;rw[F,<-P,N] at this;simpa[Xd,ay] using this
       have a8:w.set p (w[q]+1)=TH l e (p+1-e):=by
        have:=wS (l:=l) (i:=e) (k:=p-e) U
        have F:e+(p-e)=p:=U
        have Φ:p-e+1=p+1-e:=U;rw[F,Φ,<-P,N,<-a7] at this;exact this
       have bs:w[q]<100:=U
       have a9:IntKind.i64.wrap ((p:Int)-1)=(q:Int):=by rw[IntWalk.i64_in _ U];omega
       have a':IntKind.i64.wrap ((w[q]:Int)+1)=(w[q]:Int)+1:=IntWalk.i64_in _ U
       have az:IntKind.i64.wrap ((p:Int)+1)=(p:Int)+1:=IntWalk.i64_in _ U;rw[<-P];refine Ι (Υ a9 (Υ ay (Υ a5 (Υ a6 (Υ ax (Υ a4 (Υ a' az))))))) ?_;refine W.to (a3 (p+1) ⟨U,U⟩ U) ?_ ?_
       .rw[<-a8];simp
       .simp[az]
      .have ba:p=i:=U
       subst ba;refine Η J ?_;refine W.exit rfl ?_
       repeat apply Ο
       refine W.to (aJ (b,a) ⟨a1,by rw[av,DD U,f],by rw[<-a0];exact ab⟩ (by show b<g;omega)) (by rw[av]) ?_;simp
   .rw[V4 rfl];have ad:YJ XL [] [] [(27,.z (.bool false))] (t.setIfInBounds 27 (.bool false)):=λj=>by
     simp only[Z'];split
     .rename_i e;subst e;have:(t.setIfInBounds 27 (Value.bool false)).getD 27 undef=.bool false:=by
       have bb:27<t.size:=by rw[s.size];omega
       simp[WV,bb]
      rw[this];exact .z _
     .exact .Zs _
    refine V.here (m:=0) (nt:=72) (S:=XL) (B:=[]) (σ:=[]) (env:=[(27,.z (.bool false))]) ?_ ⟨M6 H',ad,XH (Tt ..) s.size,ω _⟩;refine V.XB v rfl ?_;refine XK [3] [] ?_;refine W.ZH ?_;refine Ε rfl ?_;refine W.stop ?_;refine V.Hr v rfl rfl rfl rfl func126 rfl λbc bd be bf bg=>?_;obtain rfl:bd=[]:=YR.1 bg.len;exact aS bc be bf.ext
 .have bh:c=n+1:=U
  subst bh;refine Η J ?_;refine W.exit rfl ?_;refine W.stop ?_;intro S B H t M s Z aa;rw[wY] at T;refine θ.Qm v rfl rfl (θ.back v rfl rfl (.inl rfl) func126 ?_);rw[results_none rfl];rw[E] at M;exact Ω.pure' (C.done T S B H M s.holds Z aa)
end
theorem uZ (n:Nat):Κ prog 83 [R n] (.fn (.func 126) [] [.π [R n]]):=by
 refine Ξ.body Ρ func83 rfl rfl ntmps83 rfl rfl J ?_;refine Χ ?_;refine W.rt ?_;exact .refl _
theorem Ext.CY {S:ο} {B:δ} {H:Ψ} {r:Nat} {y:Obj} (a:H.fresh r):Ext S B H S B (H.ZG r y):=
 ⟨λ_ _ _ h=>h,λb _ c=>by
  have:b≠r:=λe=>c (e▸a);exact Tf.of ⟨λ_=>rfl,rfl,by simp[Ψ.ZG,this]⟩,λb h=>.inl h,λb o v h=>.inl h,Ψ.Ij⟩
theorem Holds.CX {S:ο} {B:δ} {σ:Τ} {H:Ψ} (c:Holds S B σ H) (f:∀r∈σ,M0 r) {b:Nat} (g:H.fresh b):¬B.has b:=λ⟨N,h⟩=>by
 obtain⟨id,d⟩:=Sx h;have i:id<σ.length:=by rw[<-c.len];exact(ZB.1 d).1
 have a:=ζ i;obtain⟨t,k,l,e⟩:=f _ (Zp a);rw[e] at a;exact c.SR a trivial d g
def UX (s:Δ) (F:List Found) (a:Int) (lower:Bool):List Int×Int:=
 if(U1 s a F).2.2≠0 then([],(U1 s a F).2.2)
 else match (VW s.Β.length 0).find? (Vx s F a.toNat lower) with
 | some l=>(l.map λn:Nat=>(n:Int),0)
 | none=>([],11)
abbrev SE:Row:=.cells 29 1 [.sl true 0 []]
abbrev SD:Row:=.cells 38 1 [R 0]
abbrev MY (s:Δ) (F:List Found) (a:Int) (lower:Bool):Ζ:=[(3,Z6 s),(4,.π [R a]),(5,.π [ε lower]),(6,.Ν 0 1 0 0),(7,.Ν 1 1 0 0),(8,Z6 s),(9,.π [Y2 F])]
section
variable {Q:Value->Prop} {mn:Bool} {x:W3} {c:Frame} {rest:List Frame} {O4 S:ο} {B:δ} {Rm H:Ψ} {σ:Τ} {res:List Int×Int} {l:List Int} {MX:Int} {e:Bool} {kk:Nat} {b:Frame} {t:Array Value} {k:List Item} {env:Ζ}
theorem GY (n:Seq x) (p:Oq prog Q mn x c rest O4 [] Rm [] (λa s=>Y3 a (.ZX [ν R 1 res.1,R res.2])/\s=[]) (λ_ _=>False)) (t:b.fn=28) (u:b.kind=.normal) (w:b.defers=[]) (y:b.mode=.returning)
  (A:Ext O4 [] Rm S B H) (C:Holds S B σ H) (D:YJ S B σ env b.tmps) (E:Z' env 6=.Ν 0 1 0 0) (F:Z' env 7=.Ν 1 1 0 0) (I:σ[0]?=some (.cells 29 1 [.sl e kk (l.map R)])) (K:σ[1]?=some (.cells 38 1 [R MX])) (L:res=(l,MX)) (M:l≠[]->kk=1):θ prog Q mn x b (c::rest) H:=by
 subst L;refine θ.back n y w (.inl u) (fn:=f28) (by rw[t];exact func28) ?_;refine Ω.mono (λv f ⟨g,i,N,W,O,P⟩=>?_) (λ_ _ h=>h) _ (JW Ρ (a:=.ZX [.sl e kk (l.map R),R MX]) (show RB Z2 [.cell 6 29,.cell 7 38] env σ=some (.ZX [.sl e kk (l.map R),R MX]) by simp[RB,Qa,Nr,E,F,I,K,Qb,Wj.agg,JX]) C D);obtain⟨j,d⟩:=O.close (h:=0) (λid r X=>U);simp only[List.take_zero] at j d;have T:Α (g.close i σ f 0) [] [] (.ZX [.sl e kk (l.map R),R MX]) v:=by
  have V:χ 0 (.ZX [.sl e kk (l.map R),R MX]):=J
  have:=(P.later (Zy.refl g i σ)).any V [] [];exact this.later ⟨λb o v hv=>d.YO _ _ _ hv,λid r h=>by simp at h⟩
 have k:=A.trans (N.trans d);refine p.ret _ [] _ [] f v ⟨?_,rfl⟩ k ⟨k.YO,λid r h=>by simp at h⟩ j T;refine .ZX (.cons ?_ (.cons (.refl _) .nil));by_cases m:l=[]
 .subst m;exact .nil
 .rw[M m];exact .ex
end
noncomputable abbrev GX (vs:Array Value):Frame:=Frame.enter prog 28 vs .normal
theorem uY {s:Δ} {F:List Found} {a:Int} (h:(U1 s a F).2.2=0):0<=a/\a<s.cells.length/\U1 s a F=(s,F,0):=by
 unfold U1 at h ⊢;split at h
 .rename_i b;simp at h;exact absurd h b
 .split at h
  .simp at h
  .rename_i b c;rw[if_neg b,if_neg c];refine⟨U,U,?_⟩;unfold X5 at h ⊢;rw[if_neg b] at h ⊢;split at h
   .simp at h
   .rename_i d;rw[if_neg d]
section
variable {Q:Value->Prop} {mn:Bool} {c:Frame} {rest:List Frame}
theorem CW (s:Δ) (aN:s.small) (F:List Found) (a':Rz s F) (ba:Od s F) (C:Int) (lower:Bool) (aO:s.Β.length<=4) :
  Κ prog 28 [Zh s,R C,ε lower] (.ZX [ν R 1 (UX s F C lower).1,R (UX s F C lower).2]):=by
 refine⟨⟨_,func28,rfl,rfl⟩,λQ mn x c rest ak bb Y vs j aP bc al=>?_⟩;obtain rfl:bb=[]:=YR.1 aP.len;rw[Sa (body:=f28.body.getD .skip) func28 rfl];refine V.here (x:=x) (m:=0) (nt:=35) (S:=ak) (B:=[]) (H:=Y) (σ:=[]) (env:=entry 0 [Zh s,R C,ε lower]) ?_ (XE.enter aP bc (Z5 _) J);refine V.XB j rfl ?_;simp only[f28,Option.getD_some]
 repeat apply Ο
 refine Y4 (A:=[6,7]) Ρ λam D=>Z1 ?_;apply D;refine Y5 ?_;refine Y4 (A:=[8,9]) Ρ λam D=>Z1 ?_;refine Κ.d (Eg s aN C F a') (Z1 ?_);apply D;by_cases b:(U1 s C F).2.2=0
 case neg=>
  have e:UX s F C lower=([],(U1 s C F).2.2):=by unfold UX;rw[if_pos b]
  rw[e] at al;generalize (U1 s C F).2.2=an at b al ⊢;refine Χ ?_;refine Ε (by simp[b]) ?_;refine Χ ?_;refine W.stop ?_;intro Z aa ab t5 w E;refine θ.ret j rfl rfl ?_;exact GY j al rfl rfl rfl rfl w.ext E.holds E.Zn rfl rfl rfl rfl rfl (λh=>absurd rfl h)
 obtain⟨bZ,b0,e⟩:=uY b;obtain⟨n,rfl⟩:∃n:Nat,C=n:=⟨C.toNat,U⟩;have bd:n<s.cells.length:=U;have Φ:UX s F n lower=match (VW s.Β.length 0).find? (Vx s F n lower) with|some l=>(l.map λn:Nat=>(n:Int),0)|none=>([],11):=by
  unfold UX;rw[if_neg (by simpa using b)];rfl
 rw[e];refine W.fix (id:=3) (σ':=[SE,SD,.cells 98 3 [Zh s]]) (ω _) rfl J (λid q aC g=>by
  match id,aC,g with
  | 0,_,g=>simp at g;subst g;simp[XZ,I.cells]
  | 1,_,g=>simp at g;subst g;simp[XZ,I.cells]
  | 2,_,g=>simp at g;subst g;simp[XZ,I.cells]) rfl [(3,Z6 s),(4,.π [R n]),(5,.π [ε lower]),(6,.Ν 0 1 0 0),(7,.Ν 1 1 0 0),(8,.Ν 2 1 0 0),(9,.π [Y2 F]),(10,R 0)] (by simp[Ww]) ?_
 refine W.fix (id:=2) (σ':=[SE,SD]) (ω _) rfl J (λid q aC g=>by
  match id,aC,g with
  | 0,_,g=>simp at g;subst g;simp[XZ,I.cells]
  | 1,_,g=>simp at g;subst g;simp[XZ,I.cells]) rfl ((10,R 0)::MY s F n lower) (by simp[Ww]) ?_
 refine Χ ?_;refine Η rfl ?_;refine Χ ?_;refine ZU λam D=>?_;refine Κ.d (uZ s.Β.length) (Z1 ?_);apply D
 repeat apply Ο
 refine W.forget ((25,.fn (.func 126) [] [.π [R s.Β.length]])::MY s F n lower) J ?_;refine W.stop ?_;intro P K ao t1 ap M;have aQ:∀r∈[SE,SD],M0 r:=λr aR=>by
  simp only[Zf,Yk,or_false] at aR;rcases aR with rfl|rfl<;>exact⟨_,_,_,rfl⟩
 have aD:=M.Zn 25;simp only[Z',if_true] at aD;obtain⟨b1,aS⟩:=ψ (t1.getD 25 undef);rw[<-aS] at aD;cases aD with
 | fn w1 be bf bg b2 bh=>
 have bi:w1=#[]:=Li (by rw[<-bf];rfl);subst bi;refine θ.rangeFunc j rfl rfl (fo:=.tmp 25) aS.symm ⟨_,func126,rfl,rfl⟩ λp L ae T=>?_;have aE:¬K.has p:=M.holds.CX aQ ae;have aq:=M.holds.ZG (y:=.deferred (some [])) aE;have ar:Ext P K ao P K (ao.ZG p (.deferred (some []))):=Ext.CY ae;have af:(ao.ZG p (.deferred (some []))).obj p=some (.deferred (some [])):=by simp[Ψ.ZG]
 have bj:Y.fresh p:=ap.ext.grow _ ae
 have au:Y.fresh L:=ap.ext.grow _ (ar.grow _ T);generalize b3:ao.ZG p (.deferred (some []))=aT at T aq ar af;have av:p≠L:=λe=>by rw[e,T.2.2.1] at af;cases af
 have aU:¬K.has L:=aq.CX aQ T
 have aV:∀(S:ο) (B:δ) (H:Ψ) (σ:Τ),XY 2 P K aT [SE,SD] S B H σ->Zy P S K B [SE,SD] σ:=λS B H σ u=>u.all aq J
 have aW:∀(N:Frame) (S:ο) (B:δ) (H:Ψ) (σ:Τ) (env:Ζ) (l:List Int) (an:Int) (e:Bool) (kk:Nat),N.fn=28->N.kind=.normal->N.mode=.returning->N.defers=[⟨.collected p,#[]⟩]->Ext ak [] Y S B H->Holds S B σ H->¬B.has p->H.obj p=some (.deferred (some []))->
   YJ S B σ env N.tmps->Z' env 6=.Ν 0 1 0 0->Z' env 7=.Ν 1 1 0 0->σ[0]?=some (.cells 29 1 [.sl e kk (l.map R)])->σ[1]?=some (.cells 38 1 [R an])->UX s F n lower=(l,an)->(l≠[]->kk=1)->θ prog Q mn x N (c::rest) H:=
  λN S B H σ env l an e kk X O aX bk bl bm bn aY bo bp bq br bs bt bu=>by
  refine θ.collected j aX bk aY ?_;exact GY j al (b:={N with defers:=[]}) X O rfl aX (bl.ZG bj ⟨_,aY⟩) (bm.ZG bn) bo bp bq br bs bt bu
 rw[Sa (body:=f126.body.getD .skip) func126 rfl];have bv:XN P K [SE,SD] ([QH L]++[.π [R s.Β.length]]) (#[.func (.yield L) #[] #[]]++be):=by
  refine XN.append ⟨rfl,λi a v X O=>?_⟩ ⟨bg,bh⟩
  match i with
  | 0=>simp at X O;subst X;subst O;exact .fn #[] #[] rfl rfl (λi a v hi=>by simp at hi) (λi a v hi=>by simp at hi)
  | i+1=>simp at X
 refine u1 (o:=⟨P,K,aT,[SE,SD],2⟩) (L:=L) (Fnd:=λaZ=>(VW s.Β.length 0).find? (Vx s F n lower)=aZ.find? (Vx s F n lower)) j (Ya aO Z3) ?_ rfl P K _ _ (XY.of (Ext.CY T) (Zy.refl ..)) (XE.enter (aq.ZG aU) bv (Z5 _) J) aU (by simp[Ψ.ZG];rfl);refine⟨rfl,by simp[XZ,I.cells],by simp[XZ,I.cells],rfl,λl aZ aw bw bx S B H a0 b4 u ax aF ay hv bz bA=>?_,λaw S B H u ax aF ay=>?_⟩
 .obtain⟨aG,aH⟩:=Rt u.ext aE af;have bB:=aV _ _ _ _ u;have az:=M.Zn.later bB;have bC:Ext ak [] Y S B H:=ap.ext.trans (ar.trans u.ext);obtain⟨w0,rfl⟩:∃w0,a0=#[w0]:=by
   have ae:=hv.1;clear hv;obtain⟨bD⟩:=a0
   match bD,ae with
   | [w0],_=>exact⟨w0,rfl⟩
  have bE:((#[26]:Array Tmp).zip #[w0]).foldl (λaI (t,a)=>aI.setIfInBounds t a) t1=t1.setIfInBounds 26 w0:=J;change θ prog Q mn x (Frame.round L 28 (((#[26]:Array Tmp).zip #[w0]).foldl (λaI (t,a)=>aI.setIfInBounds t a) t1) _ _ .normal) _ _;rw[bE];have bF:Α S B [SE,SD,XA l] (.ms 2 l.length 0 l.length) w0:=hv.2 0 _ _ rfl rfl;have bG:l.length<2 ^ 30:=U;have bH:YJ S B [SE,SD,XA l] ((26,.ms 2 l.length 0 l.length)::MY s F n lower) (t1.setIfInBounds 26 w0):=N9 (YJ.put az (d:=26) (by rw[M.size];omega) bF) J;refine V.here (b:=Frame.round L 28 t1 .skip .skip .normal) (t:=t1.setIfInBounds 26 w0) (m:=3) (nt:=35) (S:=S) (B:=B) (H:=H) (σ:=[SE,SD,XA l]) (env:=(26,.ms 2 l.length 0 l.length)::MY s F n lower) ?_ ⟨ax,bH,XH (Tt ..) M.size,Z5 _⟩;refine V.XB j rfl ?_;refine Χ ?_;refine W.stop ?_;intro bI bJ aJ t3 ag ad;obtain⟨ah,aK⟩:=Rt ag.ext aF ay;obtain⟨bK,bL⟩:=Rt ag.ext aG aH;refine θ.beginRound j rfl rfl aK rfl ?_;refine V.here (b:=Frame.round L 28 t1 .skip .skip .normal) (m:=3) (nt:=35) ?_ ⟨ad.holds.ZG ah,ad.Zn,ad.size,ad.rows⟩;refine V.XB j rfl ?_;refine ZU λam D=>?_;have a1:χ 0 (Zh s):=J;have a2:χ 0 (Y2 F):=J;have aA:VM (XA l):=Oi (f:=λn:Nat=>R n) λx=>by simp[I.cells]
  refine Ξ.one (as0:=[Zh s,Y2 F,R n,ε lower,.ms 0 l.length 0 l.length]) (xh s aN F ba n bd lower l (Ya bw aO) bx) 2 rfl aA aA (λa u=>by
   simp only[Zf,Yk,or_false] at u;rcases u with rfl|rfl|rfl|rfl|rfl
   .exact a1.VL 1
   .exact a2.VL 1
   .exact(χ.z _).VL 1
   .exact(χ.z _).VL 1
   .exact SJ.2 U) ((χ.z _).VL 1) (by simp[SI,SH,a1.Ym [2],a2.Ym [2]]) ?_
  simp[SH];(repeat (rw[Μ];simp));apply D;have aL:Zy S bI B bJ [SE,SD,XA l] [SE,SD,XA l]:=ag.all ax (Z5 _);have bM:=λy=>(u.ext.trans ag.ext).ZG T (y:=y) ⟨_,aK⟩;have bN:=λy=>(bC.trans ag.ext).ZG au (y:=y) ⟨_,aK⟩;cases a3:Vx s F n lower l
  .refine Η rfl ?_
   repeat apply Ο
   refine W.stop ?_;intro Z aa ab t5 w E;obtain⟨ai,aj⟩:=Rt w.ext ah (show(aJ.ZG L _).obj L=some (.loop _) by simp[Ψ.ZG];rfl);have aB:=w.all (ad.holds.ZG ah) (Z5 _);refine θ.endRound j rfl rfl rfl aj (jump:=none) (.inl ⟨rfl,rfl⟩) (bz (by rw[aw,List.find?_cons,a3]) Z aa _ ⟨((bM _).trans w.ext).ZG T ⟨_,aj⟩,?_⟩ (aL.trans aB) (E.holds.ZG ai) ai (by simp[Ψ.ZG]));exact u.later.trans (aL.trans aB)
  .refine Ε rfl ?_;obtain⟨z,aM⟩:=ψ (l.map λn:Nat=>(n:Int));have bO:XA l=.cells 3 1 (z.map R):=by rw[aM,Qt];rfl
   have a4:z.length=l.length:=by rw[aM,Yh]
   have a5:=xn z (by rw[a4];exact bG);rw[a4,<-bO] at a5;have a6:∀(e:Bool) (k:Nat),χ 0 (.sl e k (z.map R)):=λe k=>J;refine ZU λam D=>?_;refine Ξ.HF (as0:=[.ms 0 l.length 0 l.length]) a5 2 rfl aA (by simp[SJ]) (by simp[SI]) (λa b5 bP=>?_);obtain⟨⟨e,kk,rfl,bQ⟩,rfl⟩:=bP;refine⟨XA l,rfl,aA,(a6 e kk).VL 1,?_⟩;rw[(a6 e kk).Ym [2]];simp;(repeat (rw[Μ];simp));apply D;refine W.stop ?_;intro Z aa ab t5 w E;obtain⟨ai,aj⟩:=Rt w.ext ah (show(aJ.ZG L _).obj L=some (.loop _) by simp[Ψ.ZG];rfl);obtain⟨a7,bR⟩:=Rt w.ext bK (show(aJ.ZG L _).obj p=some (.deferred (some [])) by simp[Ψ.ZG,av,bL]);have aB:=w.all (ad.holds.ZG ah) (Z5 _);refine θ.endRound j rfl rfl rfl aj (jump:=some .ret) (.inr (.inl ⟨rfl,_,rfl⟩)) (bA _ λb6 b7 a8=>?_);obtain⟨X,O⟩:=(E.holds.ZG (y:=.loop _) ai).Qj (λb bS=>a8.Qj bS) a8.grow;obtain⟨bT,a9⟩:=Rt O ai (show(ab.ZG L _).obj L=some (.loop _) by simp[Ψ.ZG];rfl);obtain⟨_,bU⟩:=Rt O a7 (show(ab.ZG L _).obj p=some (.deferred (some [])) by simp[Ψ.ZG,av,bR]);refine θ.DT (b:={GX vs with defers:=[⟨.collected p,#[]⟩]}) (t:=t1) j rfl a9 J ?_;refine θ.ret (b:={GX vs with defers:=[⟨.collected p,#[]⟩]}) j rfl rfl ?_;refine aW _ Z aa _ _ (MY s F n lower) z 0 e kk rfl rfl rfl rfl ((((((bN _).trans w.ext).ZG au ⟨_,aj⟩)).trans O).ZG au ⟨_,a9⟩) (X.ZG bT) a7 (by simp[Ψ.ZG,av,bU]) (N9 ((az.later (aL.trans aB))) J) rfl rfl rfl rfl ?_ bQ;rw[Φ,aw,List.find?_cons,a3,aM]
 .obtain⟨aG,aH⟩:=Rt u.ext aE af;have az:=M.Zn.later (aV _ _ _ _ u);have bV:Ext ak [] Y S B H:=ap.ext.trans (ar.trans u.ext);refine θ.DT (b:={GX vs with defers:=[⟨.collected p,#[]⟩]}) (t:=t1) j rfl ay J ?_;refine V.here (m:=0) (nt:=35) (S:=S) (B:=B) (σ:=[SE,SD]) (env:=MY s F n lower) ?_ ⟨ax.ZG aF,N9 az J,M.size,ω _⟩;refine V.XB j rfl ?_;simp only[Option.map_none,Option.toList_none,List.nil_append];refine Χ ?_;refine W.stop ?_;intro Z aa ab t5 w E;have bW:∀y,(H.ZG L y).obj p=some (.deferred (some [])):=λy=>by simp[Ψ.ZG,av,aH]
  obtain⟨bX,bY⟩:=Rt w.ext aG (bW _);refine θ.ret j rfl rfl ?_;refine aW _ Z aa ab _ _ [] 11 true 0 rfl rfl rfl rfl ((bV.ZG au ⟨_,ay⟩).trans w.ext) E.holds bX bY E.Zn rfl rfl rfl rfl ?_ (λh=>absurd rfl h);rw[Φ,aw];rfl
end
end Go.TL
namespace Go.TL
open Go.Proofs.Tryz
open Go.Proofs
variable [ZV]
def XJ:Δ:=⟨[⟨⟨#[98]⟩,9⟩,⟨⟨#[99]⟩,4⟩,⟨⟨#[100]⟩,6⟩,⟨⟨#[105]⟩,48⟩,⟨⟨#[111]⟩,12⟩],[[1,2],[0],[0,1,2]],[[⟨0,4,59⟩,⟨1,8,3⟩],[⟨0,0,63⟩,⟨1,4,8⟩]]⟩
theorem Lz:Κ prog 72 [] (Zh XJ):=by
 refine Ξ.body Ρ func72 rfl rfl ntmps72 rfl rfl J ?_
 repeat apply Ο
 refine Y4 (A:=[0]) Ρ λb a=>Z1 ?_;apply a
 repeat apply Ο
 refine ZU λb a=>?_;apply a;refine W.fix (id:=0) (σ':=[]) (ω _) rfl J J rfl [(0,.π [.sl true 2 [Ye ⟨⟨#[98]⟩,9⟩,Ye ⟨⟨#[99]⟩,4⟩,Ye ⟨⟨#[100]⟩,6⟩,Ye ⟨⟨#[105]⟩,48⟩,Ye ⟨⟨#[111]⟩,12⟩],.sl true 1 [Yi [1,2],Yi [0],Yi [0,1,2]],.sl true 1 [.sl true 3 [Zr ⟨0,4,59⟩,Zr ⟨1,8,3⟩],.sl true 3 [Zr ⟨0,0,63⟩,Zr ⟨1,4,8⟩]]])] J ?_;refine W.rt ?_;refine .Z7 (.cons .ex (.cons ?_ (.cons ?_ .nil)))
 .exact .map (l:=[[1,2],[0],[0,1,2]]) (f:=Yi) λx _=>.one .ex rfl rfl
 .exact .map (l:=[[⟨0,4,59⟩,⟨1,8,3⟩],[⟨0,0,63⟩,⟨1,4,8⟩]]) (f:=λl:List Y9=>.sl true 3 (l.map Zr)) λx _=>.one .ex rfl rfl
end Go.TL
namespace Go.TL
open Go.Proofs.Tryz
open Go.Conc Go.Proofs
open Go.ConcN (sumTo upd sumTo_upd upd_ne upd_same sumTo_congr le_sumTo)
variable [ZV]
section
variable {P:Program} {Q:Value->Prop} {mn:Bool} {y:Z4} {f f' b:Frame} {cs cs':List Frame} {H:Ψ} {t:Array Value} {k:List Item} {ops:Array Oper} {i:Nat} {rest:List Nat} {op:Oper}
theorem Zk.quiet (a:XW y) (b:∀w,stepG P mn (Go.Conc.G f cs) w=.go (Go.Conc.G f' cs') w #[]) (h:Zk P Q mn y f' cs' H):Zk P Q mn y f cs H:=
 Quiet.goes (.cons ⟨rfl,rfl⟩ b (.nil _)) a ⟨rfl,rfl⟩ h
theorem Zk.next (a:XW y) (d:b.mode=.run) {id:Nat} {e:Array Oper} {c:Code} (h:Zk P Q mn y (υ b t (.inRegion e (List.range e.size)::.code c::k)) cs H):Zk P Q mn y (υ b t (.inRegion ops []::.code (.seq (.region id e false) c)::k)) cs H:=
 .quiet a (λw=>(VE d w).trans rfl) (.quiet a (λw=>(VE d w).trans rfl) (.quiet a (λw=>(VE d w).trans rfl) h))
theorem uX {a:TypeId} {b:TypeInfo} {z:Value} (hi:P.info? a=some b) (c:b.zero=some z) (w:World) :
  (Instr.alloc a true (.tuple #[])).run P w=.ok (ptr w.heap.size 0) (w.alloc (.cells z.cells a (0,0)))/\∀es,(Instr.alloc a true (.tuple #[])).events P w es=es:=by
 constructor
 .simp[Instr.alloc,zeroValue,typeInfo,newVar,newRow,hi,c,Result.andThen]
 .intro es;simp[Instr.alloc,zeroValue,typeInfo,newVar,newRow,hi,c,Result.andThen,Result.evThen]
theorem Zk.GW {d:TypeId} {m:TypeInfo} {z:Value} (D:y.rel=false) (f:TJ b ops i op) (E:op.op=.alloc d) (F:op.guard=none) (hi:P.info? d=some m) (I:m.zero=some z)
  (h:∀r,H.fresh r->(∀c v,y.γ c=some v->c<r)->Zk P Q mn {y with γ:=upd y.γ r (some (z.cells,d))} (υ b (put op t (ptr r 0)) (.inRegion ops rest::k)) cs H):Zk P Q mn y (υ b t (.inRegion ops (i::rest)::k)) cs H:=by
 refine Goes.step (XW.ok (.inl D)) (.inr ⟨⟨rfl,rfl⟩,.inl λw n hv=>?_⟩);obtain⟨s,J⟩:=uX (P:=P) hi I w;have K:Region.wanted op (yielded ops t)=true:=by unfold Region.wanted;rw[F]
 have L:stepG P mn (Go.Conc.G (υ b t (.inRegion ops (i::rest)::k)) cs) w=.go (Go.Conc.G (υ b (put op t (ptr w.heap.size 0)) (.inRegion ops rest::k)) cs) (w.alloc (.cells z.cells d (0,0))) #[]:=by
  have e:execOp (ZS t) op=(do pure (.value (<-Instr.alloc d true (.tuple #[])))):=by unfold execOp;rw[E]
  rw[W' f.run f.ro,W' f.run f.ro,<-Pd];have M:(execOp (⟨t,b.defers⟩:_root_.Go.Act).eval op).run P w=.ok (.value (ptr w.heap.size 0)) (w.alloc (.cells z.cells d (0,0))):=by rw[T9,e];simp[s,Result.andThen]
  have g:(execOp (⟨t,b.defers⟩:_root_.Go.Act).eval op).events P w #[]=#[]:=by rw[T9,e];simp[s,J,Result.evThen]
  rw[stepG_value f.op K f.kd M];unfold listed;rw[g,seen_none]
 rw[L];have u:=(Yu.start n).row z.cells d;have j:Ψ.fresh H w.heap.size:=n.fresh;have N:Sub H (H.YC w.heap.size z.cells d):=by
  refine⟨λc o v p a=>⟨p,?_,id⟩,λc x a=>?_,λc x a=>a⟩
  .have:c≠w.heap.size:=λe=>by rw[e,j.1 o] at a;cases a
   simpa[Ψ.YC,this] using a
  .have:c≠w.heap.size:=λe=>by rw[e,j.2.1] at a;cases a
   simpa[Ψ.YC,this] using a
 have A:∀c v,y.γ c=some v->c<w.heap.size:=λc v a=>by
  have:=hv c v.1 v.2 a;exact(T3.1 this).1
 refine⟨H,upd y.γ w.heap.size (some (z.cells,d)),⟨rfl,rfl⟩,u.keeps,N.fits u.fit,λc c' t' a=>?_,⟨λc o v p a=>.inr ⟨v,p,a,id⟩,λc a=>.inr a⟩,λc c' a=>?_,λe g=>by simp at g,λc c' _ _ e g=>by simp at g,h _ j A⟩
 .by_cases e:c=w.heap.size
  .subst e;rw[upd_same] at a;cases a;exact KH
  .rw[upd_ne _ _ e] at a;have B:=hv c c' t' a;have C:=A c _ a;show(w.heap.push _)[c]?=_;rw[Array.getElem?_push_lt C];rw[XQ C] at B;exact B
 .by_cases e:c=w.heap.size
  .exact .inr ⟨Nat.le_of_eq e.symm,⟨λo ⟨x,l⟩=>(by rw[e,j.1 o] at l;cases l),λ⟨x,l⟩=>(by rw[e,j.2.2.1] at l;cases l)⟩⟩
  .rw[upd_ne _ _ e] at a;exact .inl a
theorem uW {B:Type} {s:Nat}:upd (λ_=>(none:Option B)) s none=λ_=>none:=by
 funext i
 by_cases e:i=s
 .subst e;exact upd_same ..
 .exact upd_ne _ _ e
theorem Zk.group {sp:Spec} {s m o:Nat} {k l g:TypeId} {c:Array Value} (n:y.rel=false) (D:y.γ=λ_=>none) (E:m<s) (F:s<o) (t:sp.ZW=some m) (j:H.fresh o) (I:sp.X2 [] (Ψ.empty.YC o c g))
  (h:Zk P Q mn {y with tok:=upd y.tok s (.par 0 0 .add),spec:=upd y.spec s (some sp),view:=upd y.view s none} f cs H) :
  Zk P Q mn {y with γ:=upd (upd (upd y.γ m (some (#[.int .i32 0,.int .u32 0],l))) s (some (#[.int .u64 0,.int .u32 0],k))) o (some (c,g))} f cs H:=by
 have u:s≠o:=Nat.ne_of_lt F
 have w:m≠o:=U
 have A:m≠s:=Nat.ne_of_lt E;refine Goes.step (XW.ok (.inl n)) (.inr ⟨⟨rfl,rfl⟩,.inr (.inr (.inr (.inr (.inr (.inr (.inr (.inr (.inr (.inr (.inl ⟨o,c,g,upd_same ..,?_⟩))))))))))⟩);refine Goes.step (XW.ok (.inl n)) (.inr ⟨⟨rfl,rfl⟩,.inr (.inr (.inr (.inr (.inr (.inr (.inr (.inr (.inr (.inr (.inr ⟨s,sp,k,H,Ψ.empty.YC o c g,?_,λK B=>?_,n,?_,λ_=>I,?_⟩))))))))))⟩)
 .show upd (upd _ o _) o none s=_;rw[upd_ne _ _ u,upd_ne _ _ u,upd_same]
 .rw[t] at B;cases B;refine⟨A,l,?_⟩;show upd (upd _ o _) o none m=_;rw[upd_ne _ _ w,upd_ne _ _ w,upd_ne _ _ A,upd_same]
 .refine⟨⟨λa q v p b=>⟨p,?_,id⟩,λa x b=>?_,λa x b=>b⟩,⟨λa q v p b=>⟨p,?_,id⟩,λa x b=>?_,λa x b=>(by cases b)⟩,⟨λa q ⟨v,hv⟩ ⟨x,d⟩=>?_,λa q ⟨v,hv⟩ ⟨x,d⟩=>?_,λa _ ⟨x,d⟩=>(by cases d)⟩⟩
  .have:a≠o:=λe=>by rw[e,j.1 q] at b;cases b
   simpa[this] using b
  .have:a≠o:=λe=>by rw[e,j.2.1] at b;cases b
   simpa[this] using b
  .by_cases e:a=o
   .simpa[Ψ.YC,e] using b
   .simp[Ψ.YC,e,Ψ.empty] at b
  .by_cases e:a=o
   .simpa[Ψ.YC,e] using b
   .simp[Ψ.YC,e,Ψ.empty] at b
  .by_cases e:a=o
   .rw[e,j.1 q] at hv;cases hv
   .simp[Ψ.YC,e,Ψ.empty] at d
  .by_cases e:a=o
   .rw[e,j.1 q] at d;cases d
   .simp[Ψ.YC,e,Ψ.empty] at hv
 .have e:(λa=>if a=s\/sp.ZW=some a then none else upd (upd (upd (upd y.γ m (some (#[.int .i32 0,.int .u32 0],l))) s (some (#[.int .u64 0,.int .u32 0],k))) o (some (c,g))) o none a)=y.γ:=by
   funext a
   rw[D];by_cases i:a=s\/sp.ZW=some a
   .rw[if_pos i]
   .rw[if_neg i];rw[t] at i;have Φ:a≠s:=λe=>i (.inl e);have J:a≠m:=λe=>i (.inr (by rw[e]));by_cases r:a=o
    .rw[r,upd_same]
    .rw[upd_ne _ _ r,upd_ne _ _ r,upd_ne _ _ Φ,upd_ne _ _ J]
  have C:Goes P Q mn (Go.Conc.G f cs) {y with G:=H,γ:=y.γ,tok:=upd y.tok s (.par 0 0 .add),spec:=upd y.spec s (some sp),view:=upd y.view s none}:=h;rw[<-e] at C;exact C
theorem Zk.Il {s n p:Nat} {sp:Spec} {g:FuncId} {d:Array Value} (f:y.rel=false) (h:y.deaf=0) (j:y.spec s=some sp) (l:y.tok s=.par n (p+1) .add) (c:TJ b ops i op) (m:op.guard=none) {fo:Operand} {o:Array TypeId} (r:op.op=.go ⟨.value fo,#[],o⟩) (u:op.dst=none)
  (hv:ZS t fo=.func (.func g) #[] d) {S:ο} (v:Holds S [] [] H) (x:Zk P Q mn {y with tok:=upd y.tok s (.par n p .add),view:=upd y.view s none} (υ b t (.inRegion ops rest::k)) cs (QI S H))
  (A:Goes P Q false (born P ⟨.fn (.func g) d,#[]⟩) {ZN (T6 s sp) s (.ch (n-(p+1)) .idle .work) none 0 with G:=TA S}):Zk P Q mn y (υ b t (.inRegion ops (i::rest)::k)) cs H:=by
 have B:Region.wanted op (yielded ops t)=true:=by unfold Region.wanted;rw[m]
 have C:∀w,stepG P mn (Go.Conc.G (υ b t (.inRegion ops (i::rest)::k)) cs) w=.spawn (Go.Conc.G (υ b t (.inRegion ops rest::k)) cs) (born P ⟨.fn (.func g) d,#[]⟩) w #[]:=λw=>by
  have e:execOp (ZS t) op=(do pure (.spawn (<-Deferred.ofValue (ZS t fo) (#[].map (ZS t))))):=by unfold execOp;rw[r];rfl
  rw[W' c.run c.ro,W' c.run c.ro];have D:(execOp (⟨t,b.defers⟩:_root_.Go.Act).eval op).run P w=.ok (.spawn ⟨.fn (.func g) d,#[]⟩) w:=by rw[T9,e,hv];simp[Deferred.ofValue,Result.andThen]
  have E:(execOp (⟨t,b.defers⟩:_root_.Go.Act).eval op).events P w #[]=#[]:=by rw[T9,e,hv];simp[Deferred.ofValue,Result.andThen,Result.evThen]
  rw[stepG_spawn (a:=⟨t,b.defers⟩) c.op B c.kd D rfl];have:(⟨t,b.defers⟩:_root_.Go.Act).put op.dst undef=⟨t,b.defers⟩:=by rw[u];rfl
  rw[this];unfold listed;rw[E,seen_none]
 refine Goes.step (XW.ok (.inl f)) (.inr ⟨⟨rfl,rfl⟩,.inr (.inr (.inr (.inr (.inr (.inr (.inr (.inr (.inl ⟨s,sp,n,p,Go.Conc.G (υ b t (.inRegion ops rest::k)) cs,born P ⟨.fn (.func g) d,#[]⟩,QI S H,TA S,j,l,h,⟨rfl,rfl⟩,⟨rfl,rfl⟩,f,λw _=>C w,vp v,x,?_⟩))))))))⟩);have e:({ZN (T6 s sp) s (.ch (n-(p+1)) .idle .work) none 0 with G:=TA S}:Z4)=⟨TA S,λ_=>none,upd (λ_=>.nil) s (.ch (n-(p+1)) .idle .work),upd (λ_=>none) s (some sp),λ_=>none,0,false⟩:=by
  unfold ZN;simp only[uW]
 rw[<-e];exact A
end
end Go.TL
namespace Go.TL
open Go.Proofs.Tryz
open Go.Conc Go.Proofs
open Go.ConcN (sumTo upd sumTo_upd upd_ne upd_same sumTo_congr le_sumTo)
noncomputable def MW:Code:=f116.body.getD .skip
noncomputable def CV:Code:=Yv [1,1,1,1,0,1,0,0,1,1,0,0,1,1,0,0,1,1,0,0,1] MW
noncomputable abbrev I3 (vs:Array Value):Frame:=Frame.enter prog 116 vs .normal
abbrev env0 (s m o:Nat) (a:Δ) (rest:Ζ):Ζ:=(5,.z (ptr o 0))::(4,.z (ptr s 0))::(3,.z (ptr m 0))::(1,Z6 a)::rest
abbrev MV (s m o:Nat) (c:Δ) (a b:Int) (rest:Ζ):Ζ:=(7,.π [R b])::(6,.π [R a])::env0 s m o c rest
structure I2 (a:Δ) (fd:Nat->Option Found) (pr:Nat->Int×Int) (F:Nat->Found) (N:Nat->Nat):Prop where
 look:∀k,k<3->∀c:ZV,@Κ c prog 143 [Zh a,Zq (pr k)] (YQ (F k))
 many:∀k,k<3->∀c:ZV,@Κ c prog 78 [YQ (F k),R (-1)] (R (N k))
 fd:∀k,fd k=if k<3/\0<N k then some (F k) else none
theorem I2.PV {a:Δ} {fd:Nat->Option Found} {pr:Nat->Int×Int} {F:Nat->Found} {N:Nat->Nat} (h:I2 a fd pr F N) (L:List Nat) (b:L.Nodup):(L.filterMap fd).length<=3:=by
 have c:L.filterMap fd=(L.filter (· < 3)).filterMap fd:=by
  rw[List.filterMap_filter];congr 1
  funext k
  by_cases e:k<3
  .simp[e]
  .simp[e,h.fd k]
 rw[c];refine Ya (ID ..) ?_;have d:(L.filter (· < 3)).Nodup:=b.filter _;exact FE 3 _ d λk f=>by simpa using (S0.1 f).2
variable [ZV]
theorem V.boxed {P:Program} {p:Value->Prop} {mn:Bool} {z:W3} {b:Frame} {cs:List Frame} {nt:Nat} {o:Base} {k:List Item} {env:Ζ} {σ:Τ} {ops:Array Oper} {i:Nat} {rest:List Nat} {g:Oper}
  (x:Seq z) (y:b.mode=.run) (A:b.roundOf=none) (C:ops[i]?=some g) (D:g.guard=none) {f:TypeId} {d:Operand} (E:g.op=.box f d) {l:ξ} (F:κ env d=.Z7 l) (J:l.all (I.YH [])=true) (K:0<l.length)
  (h:∀(S:ο) (B:δ) (H:Ψ) (t:Array Value) (r:Nat) (c:Array Value),XY o.m o.S o.B o.H o.σ S B H σ->XE o.m nt S B H σ env t->H.fresh r->(∃v,(S.lay r c) r 0=some v)->Zy S (S.lay r c) B B σ σ->Ext S B H (S.lay r c) B (H.YC r c f)->Holds (S.lay r c) B σ (H.YC r c f)->Α (S.lay r c) B σ (.π l) (ptr r 0)->
   θ P p mn z (υ b (put g t (ptr r 0)) (.inRegion ops rest::k)) cs (H.YC r c f)):V P p mn z b cs nt o (.inRegion ops (i::rest)::k) env σ:=by
 intro S B H t L j;refine .op x y C (by unfold Region.wanted;rw[D]) (.inl A) ?_;have e:execOp (ZS t) g=(do pure (.value (<-Instr.box f (ZS t d)))):=by unfold execOp;rw[E]
 have n:=Uh j.Zn d;rw[F] at n;rw[e];refine Ω.bind' ?_;unfold Instr.box;refine Ω.bind' ?_;unfold newVar newRow;have s:=NA (σ:=σ) J;have M:=(n.cells (a:=.Z7 l) s).1;refine Ω.bind' ⟨rfl,λr u=>Ω.pure' (Ω.pure' (Ω.pure' ?_))⟩;obtain⟨N,O,w⟩:=j.holds.lay (c:=(ZS t d).cells) (t:=f) u;have Q:0<(ZS t d).cells.size:=by rw[M];exact K
 exact h S B H t r _ L j u ⟨(ZS t d).cells[0],by simp[ο.lay,Q]⟩ w O N (Fl w (Xs.one n s))
section
variable {y:Z4} {Q:Value->Prop} {mn:Bool} {β s m o n:Nat} {XS:ο} {H1:Ψ} {fd:Nat->Option Found} {pr:Nat->Int×Int} {F:Nat->Found} {N:Nat->Nat} {sp:Spec} {Xp:Δ} {v:Option (Nat×η)} {vs:Array Value} {cs:List Frame} {k:List Item} {rest:Ζ}
theorem GV {a b:Int} (T:pr n=(a,b)) (f:T8 y s sp) (ad:sp.ZW=some m) (ae:sp.X2=N' β XS o fd) (af:∀k,sp.D k Ψ.empty) (aR:sp.top=3) (J:n<3) (j:I2 Xp fd pr F N) (ag:∃q v,XS β q=some v) (ah:∃q x,H1.μ β q=some x) (ai:∀p∈rest,p.1∉[16,15,7,6,5,4,3,1]/\Z' rest p.1=p.2)
  (aj:V prog Q mn (one (ZN y s (.par (n+1) 0 .add) none 0)) (I3 vs) cs 23 ⟨XS,[],H1,[],0⟩ k ((6,.π [R a])::env0 s m o Xp rest) []) :
  V prog Q mn (one (ZN y s (.par n 0 .add) v 0)) (I3 vs) cs 23 ⟨XS,[],H1,[],0⟩ (.code CV::k) (MV s m o Xp a b rest) []:=by
 letI:ZV:=Yb;obtain rfl:a=(pr n).1:=by rw[T]
 obtain rfl:b=(pr n).2:=by rw[T]
 have w:=f.seq;refine V.XB (w _ _ _) rfl ?_;simp only[CV,MW,f116,Option.getD_some,Yv];refine Y5 ?_;refine W.Zm (.stop ?_);refine V.call (w _ _ _) ⟨rfl,rfl,by simp[Frame.enter],rfl⟩ rfl rfl rfl ⟨_,func140,rfl,rfl⟩ λS B H t aS ak c hv=>?_;obtain rfl:=TI (l:=[ptr s 0,.int .i64 1]) hv;obtain rfl:B=[]:=YR.1 c.holds.len;rintro al rfl;refine vT f U c.holds λaT X aU Y am=>?_;rw[V4 rfl];have Z:Zy S X [] [] [] []:=⟨Y.YO,λid r h=>by simp at h⟩;refine V.here (x:=one _) (m:=0) (nt:=23) (S:=X) (B:=[]) (σ:=[]) (env:=(15,.z (.tuple #[]))::MV s m o Xp (pr n).1 (pr n).2 rest) ?_ ⟨am,YJ.later (YJ.put c.Zn (d:=15) (by rw[c.size];omega) (.z (.tuple #[]))) Z,XH (Tt ..) c.size,ω _⟩ _ rfl;refine V.XB (w _ _ _) rfl ?_;refine W.ZH ?_;refine W.Zm ?_;refine XK [0] [1] ?_;refine W.stop ?_;intro A an ao t3 ap e;obtain rfl:an=[]:=YR.1 e.holds.len;rintro al rfl;have K:=e.Zn 16;simp only[Z',if_true] at K;obtain⟨aV,aa⟩:=ψ (t3.getD 16 undef);rw[<-aa] at K;have M:XY 0 XS [] H1 [] A [] ao []:=ak.trans ((XY.of Y Z).trans ap);cases K with
 | fn w1 aq ar au aW C=>
  have av:w1=#[]:=Li (by rw[<-ar];rfl);subst av;obtain⟨l2⟩:=aq
  match l2,au with
  | [ab,aw,ax,ay,az,aA],_=>
   have aB:ab=ptr s 0:=by have:=C 0 _ _ rfl rfl;cases this;rfl
   have aC:az=ptr m 0:=by have:=C 4 _ _ rfl rfl;cases this;rfl
   have aD:aA=ptr o 0:=by have:=C 5 _ _ rfl rfl;cases this;rfl
   subst aB;subst aC;subst aD;have aE:XN A [] [] (GZ s m o Xp (pr n).1 (pr n).2) (I5 s m o aw ax ay):=⟨rfl,λi a v E O=>C i a v E O⟩;refine Zk.Il (s:=s) (n:=n+1) (p:=0) (sp:=sp) f.rel rfl f.spec Zu ⟨rfl,rfl,by simp[Frame.enter],rfl⟩ rfl rfl rfl aa.symm (S:=A) e.holds ?_ ?_
   .rw[WY];have aF:=vm e.holds;have aG:∀g:I,∀p∈(6,.π [R (pr n).1])::env0 s m o Xp rest,Z' ((16,g)::(15,.z (.tuple #[]))::MV s m o Xp (pr n).1 (pr n).2 rest) p.1=p.2:=λg p c=>by
     simp only[env0,Zf] at c;rcases c with rfl|rfl|rfl|rfl|rfl|c<;>first|rfl|skip
     obtain⟨E,O⟩:=ai p c;simp only[Zf,Yk,or_false,not_or] at E;obtain⟨aH,aI,aJ,aK,aL,aM,aN,aO⟩:=E;simp only[Z',YZ aH,YZ aI,YZ aJ,YZ aK,YZ aL,YZ aM,YZ aN,YZ aO,if_false];exact O
    refine V.XB (w (.par (n+1) 0 .add) none 0) rfl (W.ZH (W.forget ((6,.π [R (pr n).1])::env0 s m o Xp rest) (aG _) (.stop aj))) A [] _ t3 (M.trans (XY.of aF (Zy.refl ..))) ⟨vo e.holds,e.Zn,e.size,ω _⟩ _ rfl
   .refine va ad U ae (af _) (j.look n J) (j.many n J) ?_ (λL aP=>?_) ?_ (λb q u P=>?_) aE
    .show fd n=_;rw[j.fd n];simp[J]
    .rw[Yh];have:=j.PV L aP;omega
    .obtain⟨q,u,P⟩:=ag;exact⟨q,u,M.ext.YO _ _ _ P⟩
    .obtain⟨aX,ab,aQ⟩:=ah;rcases M.ext.Q2 b q u P with h|⟨N,h⟩|h
     .exact .inl (by rw[h];simp)
     .simp at h
     .exact .inr (G3 aQ h)
end
end Go.TL
namespace Go.TL
open Go.Proofs.Tryz
open Go.Conc Go.Proofs
open Go.ConcN (sumTo upd sumTo_upd upd_ne upd_same sumTo_congr le_sumTo)
structure Calm (y:Z4):Prop where
 rel:y.rel=false
 γ:y.γ=λ_=>none
 deaf:y.deaf=0
 shut:∀s,Xn (y.tok s)
def calm:W3:=Calm
@[reducible] def Tz:ZV:=⟨λx=>x=calm⟩
variable [ZV]
def PM (x y:Found):Int:=Te (x.u,x.v) (y.u,y.v)
def SC (x y:Found):Prop:=x.u<y.u\/(x.u=y.u/\x.v<y.v)
theorem uV (x y:Found):Γ PM x y=true↔SC x y:=by
 have h:=PU (x.u,x.v) (y.u,y.v)
 have e:Γ PM x y=Γ Te (x.u,x.v) (y.u,y.v):=rfl;rw[e,h];simp[SC]
theorem uU:Go.Sort.SWO (Γ PM) where
 irrefl x:=Nh.irrefl (x.u,x.v)
 trans x y z:=Nh.trans (x.u,x.v) (y.u,y.v) (z.u,z.v)
 ntrans x y z:=Nh.ntrans (x.u,x.v) (y.u,y.v) (z.u,z.v)
instance:Inhabited Found:=⟨⟨0,0,[]⟩⟩
theorem uT {m:List Found} (h:m.Pairwise SC):∀a∈m,∀b∈m,¬SC a b->¬SC b a->a=b:=by
 induction h with
 | nil=>intro a c;cases c
 | cons d o l=>
  intro a c b n e f;rcases Zf.1 c with g|i<;>rcases Zf.1 n with j|k
  .rw[g,j]
  .exact absurd (g▸d b k) e
  .exact absurd (j▸d a i) f
  .exact l a i b k e f
theorem uS {l m:List Found} (r:l.Perm m) (e:m.Pairwise SC):(Go.Sort.insertionSort (Γ PM) l.toArray 0 l.length).toList=m:=by
 obtain⟨⟨f,_,c⟩,g⟩:=Go.Sort.insertionSort_holds (lt:=Γ PM) uU l.toArray 0 l.length (ω _) J;generalize Go.Sort.insertionSort (Γ PM) l.toArray 0 l.length=d at f c g;have n:d.size=l.length:=by simpa using f
 have s:d.extract 0 l.length=d:=by rw[<-n];exact Array.extract_size
 have Φ:l.toArray.extract 0 l.length=l.toArray:=by
  simp
 rw[s,Φ] at c;have o:d.toList.Perm m:=c.trans r;have t:∀x y,Γ PM x y=false↔¬SC x y:=λx y=>by rw[<-uV];simp
 refine IE (le:=λx y=>¬SC y x) (λa b u v w A=>?_) ?_ (e.imp λ{a b} h k=>?_) o
 .exact uT e a (o.mem_iff.1 u) b v A w
 .rw[Tu];intro i j hi p B;have:=g i j (ω _) B (by simpa[n] using p);rw[t] at this;rw[getElem!_pos d j (by simpa using p),getElem!_pos d i (by simpa using hi)] at this;simpa using this
 .simp only[SC] at h k;omega
theorem uR {a:Nat->Ψ->Prop} (b:∀k E,a k E->E=Ψ.empty):∀(L:List Nat) (E:Ψ),Ul a L E->E=Ψ.empty:=by
 intro L
 induction L with
 | nil=>intro E h;exact h
 | cons k i c=>
  rintro E ⟨d,e,f,g,_,rfl⟩;rw[b k d f,c e g];exact Ip _
end Go.TL
namespace Go.TL
open Go.Proofs.Tryz
open Go.Conc Go.Proofs
open Go.ConcN (sumTo upd sumTo_upd upd_ne upd_same sumTo_congr le_sumTo)
abbrev I1:I:=.fn (.func 148) [] []
theorem uQ [ZV] (x y:Found):XD prog I1 [YQ x,YQ y] (R (PM x y)):=λσ=>(yp x y).c (ZO.refl _) J J ⟨rfl,rfl⟩
section
variable {y:Z4} {Q:Value->Prop} {mn:Bool} {β s m o:Nat} {O4 XS:ο} {Rm H1:Ψ} {fd:Nat->Option Found} {sp:Spec} {Xp:Δ} {v:Option (Nat×η)} {vs:Array Value} {c:Frame} {cs:List Frame}
theorem uP (Z:T8 y s sp) (an:sp.ZW=some m) (ao:sp.X2=N' β XS o fd) (ap:∀k E,sp.D k E->E=Ψ.empty) (aq:∀L:List Nat,L.Nodup->(L.filterMap fd).length<=3) {d:List Found} (ar:(List.range 3).filterMap fd=d) (au:d.Pairwise SC)
  (av:∀v,Calm (ZN y s (.par 3 0 .ZY) v 0)) (aw:Oq prog Q mn calm c cs O4 [] Rm [] (λa s=>Y3 a (Y2 d)/\s=[]) (λ_ _=>False)) (ax:Ext O4 [] Rm XS [] H1) (ay:Rm.fresh β) :
  V prog Q mn (one (ZN y s (.par 3 0 .add) v 0)) (I3 vs) (c::cs) 23 ⟨XS,[],H1,[],0⟩ [.code (Yv [1,1,1,1,1] MW)] (env0 s m o Xp []) []:=by
 letI:ZV:=Yb;have F:=Z.seq;refine V.XB (F _ _ _) rfl ?_;simp only[MW,f116,Option.getD_some,Yv];refine Y5 ?_;refine W.Zm (.stop ?_);refine V.call (F _ _ _) ⟨rfl,rfl,by simp[Frame.enter],rfl⟩ rfl rfl rfl ⟨_,func146,rfl,rfl⟩ λS B H t a4 g A hv=>?_;obtain rfl:=TI (l:=[ptr s 0]) hv;obtain rfl:B=[]:=YR.1 A.holds.len;rintro az rfl;refine vN Z A.holds (n:=3) λI H' aA aa aB a5 C ab a6 aC aD a7 a8 aE a9 aF aG a' aH O=>?_;rw[V4 rfl];obtain rfl:=uR ap aA aB aC;rw[Ip] at O;obtain⟨ad,ae⟩:=aD (by rw[an];simp);rw[ao] at ae;obtain⟨hi,K,M,P,aI⟩:=ae;obtain⟨w,f1,f2,f3⟩:=aF;obtain⟨G,R⟩:=ψ (aa.filterMap fd);have T:G.Perm d:=by rw[R,<-ar];exact ad.filterMap _
 have ba:G.length<=3:=by rw[R];exact aq aa (ad.nodup_iff.2 K5)
 rw[<-R] at P;obtain⟨aJ,l1,l2⟩:=C4 ab P aE ⟨w,f1,f3⟩ (I6 _);have aK:=vj (ax.trans (g.ext.trans C)) (g.ext.trans C).YO ay hi ab P (I6 _);obtain⟨aL,aM⟩:=aJ.Qj (λb aN=>O.Qj aN) O.grow;have aO:=aK.trans aM;have aP:t.getD 5 undef=ptr o 0:=by
  have:=A.Zn 5;simp only[Z'] at this;generalize t.getD 5 undef=u at this;cases this;rfl
 have aQ:YJ (I.plus K) M (W9 (G.map YQ)) [(5,.Ν 0 1 0 0)] (t.setIfInBounds 19 (.tuple #[])):=λi=>by
  simp only[Z'];split
  .rename_i e;subst e;have aR:(t.setIfInBounds 19 (.tuple #[])).getD 5 undef=ptr o 0:=by
    rw[<-aP,WV,WV,UT Z3]
   rw[aR];have:=Α.Ν (S:=I.plus K) (B:=M) (σ:=W9 (G.map YQ)) (id:=0) (n:=1) (i:=0) (j:=0) (k:=1) (t:=99) (l:=[PN (G.map YQ)]) (b:=o) (N:=1) (by simp[W9]) rfl aI;simpa using this
  .exact .Zs _
 refine V.here (x:=one _) (m:=0) (nt:=23) (S:=I.plus K) (B:=M) (σ:=W9 (G.map YQ)) (env:=[(5,.Ν 0 1 0 0)]) ?_ ⟨aL,aQ,XH (Tt ..) A.size,ω _⟩ _ rfl;have af:∀(e:Bool) (k:Nat),Y3 (.sl e k (d.map YQ)) (Y2 d)->V prog Q mn (one (ZN y s (.par 3 0 .ZY) aG 0)) (I3 vs) (c::cs) 23 ⟨I.plus K,M,aH,W9 (G.map YQ),0⟩ [.code .ret] [(2,.sl e k (d.map YQ))] []:=λe k aS=>by
  intro bb aT bc t5 aU X;obtain rfl:aT=[]:=YR.1 X.holds.len;refine θ.ret (F _ _ _) rfl rfl (θ.back (F _ _ _) rfl rfl (.inl rfl) func116 ?_);refine Ω.mono (λu aV ⟨aW,aX,aY,bd,ag,aZ⟩=>?_) (λ_ _ h=>h) _ (JW Ρ (a:=.sl e k (d.map YQ)) rfl X.holds X.Zn);obtain rfl:aX=[]:=YR.1 ag.len;rintro az rfl;have ah:=aO.trans (aU.ext.trans aY);exact aw.ret _ [] aW [] aV u ⟨aS,rfl⟩ ah ⟨ah.YO,λid r h=>by simp at h⟩ ag aZ _ (av _)
 refine V.XB (F _ _ _) rfl ?_;refine W.ZH ?_;have a0:∀e∈G.map YQ,∀a∈e.cells,χ 0 a:=λe C a g=>by
  obtain⟨z,_,rfl⟩:=Zc.1 C;exact Nk z a g
 by_cases ai:G=[]
 .subst ai;have a1:d=[]:=T.symm.eq_nil;subst a1;refine Y5 ?_;refine YX λY f=>?_;simp;(repeat (rw[Μ];simp[W9,G1,U2]));refine Κ.c (xH I1 J) (ZO.refl _) J J ?_;simp;(repeat (rw[Μ];simp));apply f;refine ZU λY f=>?_;apply f;refine W.cut 0 (ω _) [(2,.sl true 0 [])] (ω _) (λid r h=>U) (by simp;exact .low J) ?_;exact .stop (af _ _ .nil)
 .have aj:G.map YQ≠[]:=by simpa using ai
  have a2:=uS T au;refine Y5 ?_;refine YX λY f=>?_;simp;(repeat (rw[Μ];simp[W9,I7 aj,Yq aj]));have ak:=yg G.toArray G.length J U I1 PM J uQ;rw[a2] at ak;have a3:d.length=G.length:=T.length_eq.symm;have al:χ 0 I1:=J;have am:∀e∈d.map YQ,∀a∈e.cells,χ 0 a:=λe C a g=>by
   obtain⟨z,_,rfl⟩:=Zc.1 C;exact Nk z a g
  refine Ξ.one ak 1 rfl a0 am (by simp[SJ,Oj,al.VL 1]) (by simp[Xm]) (by simp[SI,SH,al.Ym [1]]) ?_;simp[Ym,Wg];(repeat (rw[Μ];simp));apply f;refine ZU λY f=>?_;apply f;refine W.cut 0 (ω _) [(2,.sl false 3 (d.map YQ))] (ω _) (λid r h=>U) (λp A=>?_) ?_
  .obtain rfl:p=(2,.sl false 3 (d.map YQ)):=by simpa using A
   refine Yr.own (id:=1) (t:=110) (ω _) rfl (by simp[a3]) am
  .exact .stop (af _ _ (.refl _))
end
theorem GU {P:Program} {b:TypeId} {z:Value} (h:((P.info? b).bind (·.zero))=some z):∃a,P.info? b=some a/\a.zero=some z:=by
 cases hi:P.info? b with
 | none=>rw[hi] at h;cases h
 | some a=>rw[hi] at h;exact⟨a,rfl,h⟩
theorem uO:((prog.info? 173).bind (·.zero))=some (.agg #[.int .i32 0,.int .u32 0]):=by kernel_rfl
theorem uN:((prog.info? 179).bind (·.zero))=some (.agg #[.int .u64 0,.int .u32 0]):=by kernel_rfl
theorem uM:((prog.info? 99).bind (·.zero))=some (.slice none 0 0):=by kernel_rfl
theorem uL {o:Nat}:Holds XL [some (o,1)] (W9 []) (Ψ.empty.YC o #[.slice none 0 0] 99):=by
 have b:Holds XL [] [] Ψ.empty:=M6 _
 have c:Xs XL [] [] #[.slice none 0 0] 1 [.sl true 0 []]:=Xs.one (a:=.sl true 0 []) (v:=.slice none 0 0) (.Wk none 0 λ_=>rfl) rfl;exact(Mc (P:=prog) (K:=λr G=>Holds XL [some (r,1)] (W9 []) G) (E:=λ_ _=>False) b c 99 λr _ d _ _=>d).2 o ⟨λ_=>rfl,rfl,rfl,λ_ _=>⟨λ_=>rfl,rfl,rfl⟩⟩
section
variable {fd:Nat->Option Found} {pr:Nat->Int×Int} {F:Nat->Found} {N:Nat->Nat} {Xp:Δ} {GR:List Found}
theorem uK (X:I2 Xp fd pr F N) (av:pr 0=(1,0)) (aw:pr 1=(2,0)) (ax:pr 2=(2,1)) (ay:(List.range 3).filterMap fd=GR) (az:GR.Pairwise SC):@Κ Tz prog 116 [Zh Xp] (Y2 GR):=by
 refine⟨⟨_,func116,rfl,rfl⟩,λa4 mn x c rest ak aA af vs aB al aC aD=>?_⟩;obtain rfl:x=calm:=@Seq.cls Tz x aB;obtain rfl:aA=[]:=YR.1 al.len;rintro y ⟨f,Y,aE,am⟩;letI:ZV:=Yb;have ag:Seq (one y):=Seq.Pb trivial f Y;rw[Sa (body:=MW) func116 rfl];refine V.here (x:=one y) (m:=0) (nt:=23) (S:=ak) (B:=[]) (H:=af) (σ:=[]) (env:=entry 0 [Zh Xp]) ?_ (XE.enter al aC (Z5 _) J) y rfl;refine V.XB ag rfl ?_;simp only[MW,f116,Option.getD_some];refine Y5 ?_;refine W.Zm (.stop ?_);refine V.boxed ag rfl rfl rfl rfl rfl (l:=[ZI Xp.ς,ZT Xp.Β,SK Xp.cells]) rfl rfl J λS B H t r aF an w aG aH aI aJ aK aL=>?_;obtain rfl:B=[]:=YR.1 w.holds.len;refine V.here (x:=one y) (m:=0) (nt:=23) (S:=S.lay r aF) (B:=[]) (σ:=[]) (env:=[(1,Z6 Xp)]) ?_
  ⟨aK,N9 (YJ.put (w.Zn.later aI) (d:=1) (by rw[w.size];omega) aL) J,XH (Tt ..) w.size,ω _⟩
 refine V.XB ag rfl ?_;refine XK [1] [] ?_;refine W.ZH ?_;refine Y5 ?_;refine W.Zm (.stop ?_);intro L aM ao t2 ap j;obtain rfl:aM=[]:=YR.1 j.holds.len;rintro i rfl;obtain⟨a5,aN,aO⟩:=GU uO;obtain⟨a6,aP,aQ⟩:=GU uN;obtain⟨a7,aR,aS⟩:=GU uM;refine Zk.GW f ⟨rfl,rfl,by simp[Frame.enter],rfl⟩ rfl rfl aN aO λm a8 _=>?_;refine Zk.next ?_ ?_ ?_
 .exact .inl f
 .rfl
 refine Zk.GW ?_ ⟨rfl,rfl,by simp[Frame.enter],rfl⟩ rfl rfl aP aQ λs a9 aT=>?_
 .exact f
 refine Zk.next ?_ ?_ ?_
 .exact .inl f
 .rfl
 refine Zk.GW ?_ ⟨rfl,rfl,by simp[Frame.enter],rfl⟩ rfl rfl aR aS λo aq aU=>?_
 .exact f
 have aV:m<s:=aT m _ (upd_same ..)
 have aW:s<o:=aU s _ (upd_same ..);obtain⟨sp,M⟩:∃sp:Spec,sp=⟨some m,N' r L o fd,λ_ E=>E=Ψ.empty,3⟩:=⟨_,rfl⟩;have Z:∃q v,L r q=some v:=let ⟨u,ah⟩:=aH;⟨0,u,ap.ext.YO _ _ _ ah⟩;have aa:∃q x,ao.μ r q=some x:=let ⟨q,u,ah⟩:=Z;let ⟨p,w⟩:=j.holds.YO _ _ _ ah;⟨q,_,w⟩;have ar:r<o:=let ⟨_,_,h⟩:=aa;G3 h aq;have O:sp.ZW=some m:=by rw[M]
 have P:sp.X2=N' r L o fd:=by rw[M]
 have ab:∀k E,sp.D k E↔E=Ψ.empty:=λk E=>by rw[M]
 have ad:sp.top=3:=by rw[M]
 clear M;have aX:sp.X2 [] (Ψ.empty.YC o #[.slice none 0 0] 99):=by
  rw[P];refine⟨⟨λb q x Q=>?_,λb x Q=>?_,λb x Q=>(by cases Q)⟩,XL,_,uL,rfl⟩
  .by_cases e:b=o
   .exact .inr (e▸ar)
   .simp[Ψ.YC,e,Ψ.empty] at Q
  .by_cases e:b=o
   .exact e▸ar
   .simp[Ψ.YC,e,Ψ.empty] at Q
 refine Zk.group (y:=i) (sp:=sp) f Y aV aW O aq aX ?_;obtain⟨ai,aj⟩:=ψ ({i with spec:=upd i.spec s (some sp)}:Z4);have aY:({i with tok:=upd i.tok s (.par 0 0 .add),spec:=upd i.spec s (some sp),view:=upd i.view s none}:Z4)=ZN ai s (.par 0 0 .add) none 0:=by
  rw[aj];unfold ZN;simp only[aE]
 rw[aY];have T:T8 ai s sp:=by
  rw[aj];refine⟨f,Y,upd_same ..,by rw[ad];decide,λC _=>?_⟩;have:=am C;show Tl (i.tok C);cases au:i.tok C with
  | nil=>trivial
  | par n p aZ=>rw[au] at this;cases aZ<;>first|trivial|exact this.elim
  | ch k a' g=>rw[au] at this;exact this.elim
 have a0:∀v,Calm (ZN ai s (.par 3 0 .ZY) v 0):=λv=>by
  rw[aj];refine⟨f,Y,rfl,λC=>?_⟩;by_cases e:C=s
  .subst e;rw[Zu];trivial
  .rw[LL e];exact am C
 have ae:=T.seq
 have a1:=X.PV
 have a2:Ext ak [] af L [] ao:=an.ext.trans (aJ.trans ap.ext)
 have a3:af.fresh r:=an.ext.grow _ aG;refine V.here (x:=one _) (m:=0) (nt:=23) (S:=L) (B:=[]) (σ:=[]) (env:=env0 s m o Xp []) ?_
  ⟨j.holds,N9 (YJ.put (YJ.put (YJ.put j.Zn (d:=3) (by rw[j.size];omega) (.z (ptr m 0))) (d:=4) (by rw[Tt,j.size];omega) (.z (ptr s 0))) (d:=5) (by rw[Tt,Tt,j.size];omega) (.z (ptr o 0))) J,
   XH (Tt ..) (XH (Tt ..) (XH (Tt ..) j.size)),ω _⟩ _ rfl
 have w1:IntKind.i64.wrap 1=1:=Z3
 have I:IntKind.i64.wrap 2=2:=Z3
 have K:IntKind.i64.wrap 3=3:=Z3;refine V.XB (ae _ _ _) rfl ?_;refine W.ZH ?_;refine WE ?_;refine .loop ?_;refine WE ?_;refine Y4 (A:=[6]) Ρ λU a=>Z1 ?_;apply a;refine W.fix (id:=0) (σ':=[]) (ω _) rfl J J rfl ((6,.π [R 0])::env0 s m o Xp [(8,R 0)]) J ?_;refine WE ?_;refine .loop ?_;refine WE ?_;refine W.exit rfl ?_;refine WC (Υ w1 (Υ I K)) ?_;refine .inLoop ?_;refine WE ?_;refine Y4 (A:=[6]) Ρ λU a=>Z1 ?_;apply a;refine W.fix (id:=0) (σ':=[]) (ω _) rfl J J rfl ((6,.π [R 1])::env0 s m o Xp [(8,R 1)]) J ?_;refine WE ?_;refine .loop ?_;refine WE ?_;refine Y4 (A:=[7]) Ρ λU a=>Z1 ?_;apply a;refine W.fix (id:=0) (σ':=[]) (ω _) rfl J J rfl (MV s m o Xp 1 0 [(8,R 1),(11,R 1),(12,R 0)]) J ?_;refine W.stop (GV av T O P (λk=>(ab k _).2 rfl) ad Z3 X Z aa J ?_);refine V.XB (ae _ _ _) rfl ?_;refine WC (Υ w1 (Υ I K)) ?_;refine .inLoop ?_;refine WE ?_;refine W.exit rfl ?_;refine WC (Υ w1 (Υ I K)) ?_;refine .inLoop ?_;refine WE ?_;refine Y4 (A:=[6]) Ρ λU a=>Z1 ?_;apply a;refine W.fix (id:=0) (σ':=[]) (ω _) rfl J J rfl ((6,.π [R 2])::env0 s m o Xp [(8,R 2)]) J ?_;refine WE ?_;refine .loop ?_;refine WE ?_;refine Y4 (A:=[7]) Ρ λU a=>Z1 ?_;apply a;refine W.fix (id:=0) (σ':=[]) (ω _) rfl J J rfl (MV s m o Xp 2 0 [(8,R 2),(11,R 2),(12,R 0)]) J ?_;refine W.stop (GV aw T O P (λk=>(ab k _).2 rfl) ad Z3 X Z aa J ?_);refine V.XB (ae _ _ _) rfl ?_;refine WC (Υ w1 (Υ I K)) ?_;refine .inLoop ?_;refine WE ?_;refine Y4 (A:=[7]) Ρ λU a=>Z1 ?_;apply a;refine W.fix (id:=0) (σ':=[]) (ω _) rfl J J rfl (MV s m o Xp 2 1 [(8,R 2),(11,R 2),(12,R 1)]) J ?_;refine W.stop (GV ax T O P (λk=>(ab k _).2 rfl) ad Z3 X Z aa J ?_);refine V.XB (ae _ _ _) rfl ?_;refine WC (Υ w1 (Υ I K)) ?_;refine .inLoop ?_;refine WE ?_;refine W.exit rfl ?_;refine WC (Υ w1 (Υ I K)) ?_;refine .inLoop ?_;refine WE ?_;refine W.exit rfl ?_;refine W.forget (env0 s m o Xp []) J ?_;refine W.stop ?_;exact uP T O P (λk E=>(ab k E).1) a1 ay az a0 aD a2 a3
end
end Go.TL
namespace Go.TL
open Go.Proofs.Tryz
open Go.Proofs
variable [ZV]
def Δ.Vu (s:Δ) (n:Int):Bool:=decide (n< -1)||decide ((s.ς.length:Int)<=n)
def PL (s:Δ) (e f:List Int) (a:Int):Int×Int:=
 if s.err≠0 then(0,s.err) else
 match e,f with
 | [b,c],[d,l1]=>if Vi b=false\/Vi c=false\/s.Vu d=true\/s.Vu l1=true\/a<0\/(s.Β.length:Int)<=a then(0,3) else if b<=c then(0,5) else(s.Y1 (b,c) (d,l1) a.toNat,0)
 | _,_=>(0,8)
theorem uJ (s:Δ) (n:Int):Κ prog 92 [R n,Z6 s] (ε (s.Vu n)):=by
 refine Ξ.body Ρ func92 rfl rfl ntmps92 rfl rfl J ?_;by_cases h:n< -1
 .refine Ι h ?_;refine W.rt ?_;exact .of (by simp[Δ.Vu,h])
 .refine Ι h ?_;refine W.rt ?_;exact .of (by simp[Δ.Vu,h])
abbrev uI (p:Int×Int):I:=.ZX [R p.1,R p.2]
theorem uH (s:Δ) (H:s.small) (l m:List Int) (g:Int):Κ prog 34 [Zh s,ν R 1 l,ν R 1 m,R g] (uI (PL s l m g)):=by
 refine Ξ.body Ρ func34 rfl rfl ntmps34 rfl rfl J ?_;refine Χ ?_;refine ZU λo f=>?_;refine Κ.d (HD s H) (Z1 ?_);apply f;refine Χ ?_;by_cases B:s.err=0
 case neg=>
  refine Ε (by simp[B]) ?_;refine Χ ?_;refine W.rt ?_;exact .of (by rw[show PL s l m g=(0,s.err) by unfold PL;rw[if_pos B]];rfl)
 refine Η (by simp[B]) ?_;refine Χ ?_;have hv:PL s l m g=match (generalizing:=false) l,m with
   | [i,j],[k,l1]=>if Vi i=false\/Vi j=false\/s.Vu k=true\/s.Vu l1=true\/g<0\/(s.Β.length:Int)<=g then(0,3) else if i<=j then(0,5) else(s.Y1 (i,j) (k,l1) g.toNat,0)
   | _,_=>(0,8):=by unfold PL;rw[if_neg (by simpa using B)]
 by_cases C:(l.length:Int)=2
 case neg=>
  have e:PL s l m g=(0,8):=by
   rw[hv];split
   .simp at C
   .rfl
  refine XM C λo f=>?_;apply f;refine Ε rfl ?_;refine Χ ?_;refine W.rt ?_;exact .of (by rw[e];rfl)
 by_cases F:(m.length:Int)=2
 case neg=>
  have e:PL s l m g=(0,8):=by
   rw[hv];split
   .simp at F
   .rfl
  refine XM (Υ C F) λo f=>?_;apply f;refine Ε rfl ?_;refine Χ ?_;refine W.rt ?_;exact .of (by rw[e];rfl)
 obtain⟨i,j,rfl⟩:∃a b,l=[a,b]:=by
  match l,C with
  | [a,b],_=>exact⟨a,b,rfl⟩
  | [],h=>simp at h
  | [_],h=>simp at h
  | _::_::_::_,h=>simp at h;omega
 obtain⟨k,l1,rfl⟩:∃a b,m=[a,b]:=by
  match m,F with
  | [a,b],_=>exact⟨a,b,rfl⟩
  | [],h=>simp at h
  | [_],h=>simp at h
  | _::_::_::_,h=>simp at h;omega
 simp only at hv;refine ZU λo f=>?_;apply f;refine Η rfl ?_
 repeat apply Ο
 have f3:(Vi i=false\/Vi j=false\/s.Vu k=true\/s.Vu l1=true\/g<0\/(s.Β.length:Int)<=g)->PL s [i,j] [k,l1] g=(0,3):=λh=>by rw[hv];exact if_pos h
 have I:([k,l1].any s.Vu)=(s.Vu k||s.Vu l1):=J
 have call3:Κ prog 94 [ν R 1 [k,l1],.fn (.func 92) [] [Z6 s]] (ε (s.Vu k||s.Vu l1)):=by
  rw[<-I];exact yc [k,l1] _ s.Vu J (by simp[Uf]) (λx _=>λ_=>(uJ s x).cc (by simp;exact ZO.refl _) J J ⟨rfl,rfl⟩)
 cases u:Vi i
 case false=>
  have t:=f3 (.inl u);refine ZU λo f=>?_;refine Κ.d (Se i) (XC u ?_);apply f;refine Ε rfl ?_;refine Χ ?_;refine W.rt ?_;exact .of (by rw[t];rfl)
 cases v:Vi j
 case false=>
  have t:=f3 (.inr (.inl v));refine ZU λo f=>?_;refine Κ.d (Se i) (XC u ?_);refine Κ.d (Se j) (XC v ?_);apply f;refine Ε rfl ?_;refine Χ ?_;refine W.rt ?_;exact .of (by rw[t];rfl)
 cases r:s.Vu k||s.Vu l1
 case true=>
  have t:=f3 (.inr (.inr (by rcases Bool.or_eq_true _ _ |>.mp r with h|h<;>simp[h])));refine ZU λo f=>?_;refine Κ.d (Se i) (XC u ?_);refine Κ.d (Se j) (XC v ?_);refine Κ.c call3 (ZO.refl _) (by simp[Uf]) J ?_;simp[r];(repeat (rw[Μ];simp[r]));apply f;refine Ε rfl ?_;refine Χ ?_;refine W.rt ?_;exact .of (by rw[t];rfl)
 by_cases w:g<0
 .have t:=f3 (.inr (.inr (.inr (.inr (.inl w)))));refine ZU λo f=>?_;refine Κ.d (Se i) (XC u ?_);refine Κ.d (Se j) (XC v ?_);refine Κ.c call3 (ZO.refl _) (by simp[Uf]) J ?_;simp[r,w];(repeat (rw[Μ];simp[r,w]));apply f;refine Ε rfl ?_;refine Χ ?_;refine W.rt ?_;exact .of (by rw[t];rfl)
 by_cases y:(s.Β.length:Int)<=g
 .have t:=f3 (.inr (.inr (.inr (.inr (.inr y)))));refine ZU λo f=>?_;refine Κ.d (Se i) (XC u ?_);refine Κ.d (Se j) (XC v ?_);refine Κ.c call3 (ZO.refl _) (by simp[Uf]) J ?_;simp[r,w,y];(repeat (rw[Μ];simp[r,w,y]));apply f;refine Ε rfl ?_;refine Χ ?_;refine W.rt ?_;exact .of (by rw[t];rfl)
 have D:s.Vu k=false/\s.Vu l1=false:=by simpa using r
 rw[if_neg (by rw[u,v,D.1,D.2];simp;omega)] at hv;refine ZU λo f=>?_;refine Κ.d (Se i) (XC u ?_);refine Κ.d (Se j) (XC v ?_);refine Κ.c call3 (ZO.refl _) (by simp[Uf]) J ?_;simp[r,w,y];(repeat (rw[Μ];simp[r,w,y]));apply f;refine Η rfl ?_
 repeat apply Ο
 refine Pn ?_;by_cases E:i<=j
 .rw[if_pos E] at hv;refine Ε (by simp[E]) ?_;refine Χ ?_;refine W.rt ?_;exact .of (by rw[hv];rfl)
 .rw[if_neg E] at hv;refine Η (by simp[E]) ?_;obtain⟨n,rfl⟩:∃n:Nat,g=n:=⟨g.toNat,U⟩;have K:n<s.Β.length:=U;have L:k<s.ς.length:=by have:=D.1;simp[Δ.Vu] at this;omega
  have M:l1<s.ς.length:=by have:=D.2;simp[Δ.Vu] at this;omega
  repeat apply Ο
  refine W.draw (A:=[]) Ρ mixed λo f=>U5 ?_;refine YD (Κ.p (LU s H (i,j) (k,l1) n K L M) (ZO.refl _) J J) ?_;simp;(repeat (rw[ZL];simp));try rw[ZM]
  refine YG (f _ _ ?_);refine Χ ?_;refine W.rt ?_;exact .of (by rw[hv];rfl)
end Go.TL
namespace Go.TL
open Go.Proofs.Tryz
open Go.Proofs
def Yz:Nat->Int×Int
 | 0=>(1,0)
 | 1=>(2,0)
 | _=>(2,1)
def X4 (s:Δ) (p:Int×Int):Found:=⟨p.1,p.2,(List.range s.cells.length).map (Vy s p)⟩
def Wd (s:Δ) (k:Nat):Option Found:=if k<3/\0<(X4 s (Yz k)).many (-1) then some (X4 s (Yz k)) else none
def ZQ (s:Δ):List Found:=(List.range 3).filterMap (Wd s)
structure GQ (N:Nat) (s:Δ):Prop where
 small:s.small
 ς:s.ς.length<2 ^ 20
 lit:∀c∈s.cells,∀x∈c,0<=x.Zd/\x.Zd<s.Β.length
 reads:∀k,k<3->∀c,c<s.cells.length->(Vy s (Yz k) c).length<=N
 many:∀k,k<3->∀i,i<=s.cells.length->Xb (X4 s (Yz k)).cells (-1) i<2 ^ 62
abbrev CU (s:Δ):Prop:=GQ 12 s
theorem CS {N:Nat} (n:N<2 ^ 20) (o:∀c:ZV,@Jy c N) {s:Δ} (h:GQ N s):@Rz Tz s (ZQ s):=λ_=>by
 refine uK (fd:=Wd s) (pr:=Yz) (F:=λk=>X4 s (Yz k)) (N:=λk=>(X4 s (Yz k)).many (-1)) ⟨λk g c=>?_,λk g c=>?_,λk=>rfl⟩ rfl rfl rfl rfl ?_
 .exact @xv c s h.small h.ς (Yz k) h.lit N n (o c) (h.reads k g)
 .have l:(X4 s (Yz k)).cells.length=s.cells.length:=by simp[X4]
  have:=h.small.2.2.1;exact @JD c (X4 s (Yz k)) (-1) (by rw[l];omega) (λi hi=>h.many k g i (by rw[<-l];exact hi))
 .have e:(List.range 3).filterMap (Wd s)=(Wd s 0).toList++(Wd s 1).toList++(Wd s 2).toList:=by
   show [0,1,2].filterMap (Wd s)=_;simp only[List.filterMap_cons,List.filterMap_nil];cases Wd s 0<;>cases Wd s 1<;>cases Wd s 2<;>rfl
  show((List.range 3).filterMap (Wd s)).Pairwise SC;rw[e];have m:∀k x,x∈(Wd s k).toList->x=X4 s (Yz k):=λk x f=>by
   unfold Wd at f;split at f
   .simpa using f
   .simp at f
  have one:∀k,((Wd s k).toList).Pairwise SC:=λk=>by cases Wd s k<;>simp
  rw[NU,NU];refine⟨⟨one 0,one 1,λa d b j=>?_⟩,one 2,λa d b j=>?_⟩
  .rw[m 0 a d,m 1 b j];exact .inl (show(Yz 0).1<(Yz 1).1 by decide)
  .rw[m 2 b j];rcases VG.1 d with d|d
   .rw[m 0 a d];exact .inl (show(Yz 0).1<(Yz 2).1 by decide)
   .rw[m 1 a d];exact .inr ⟨rfl,show(Yz 1).2<(Yz 2).2 by decide⟩
theorem uG {s:Δ} (h:CU s):@Rz Tz s (ZQ s):=CS Z3 (λc=>@xA c) h
theorem CR:CU XJ:=by
 refine⟨by unfold Δ.small;decide,Z3,Z3,?_,?_⟩
 .have:∀k<3,∀c<2,(Vy XJ (Yz k) c).length<=12:=by decide +kernel
  exact this
 .have:∀k<3,∀i<3,Xb (X4 XJ (Yz k)).cells (-1) i<2 ^ 62:=by decide +kernel
  exact λk a i hi=>this k a i (by have:i<=2:=hi;omega)
theorem CQ:XJ.err=0:=by decide +kernel
theorem uF:Vf XJ (ZQ XJ)=(1,1,2,0):=by decide +kernel
theorem uE:UX XJ (ZQ XJ) 1 true=([1],0):=by decide +kernel
theorem uD:PL XJ [1,0] [1,4] 1=(12,0):=by decide +kernel
theorem uC:UB (ZQ XJ)=[[1,0],[2,0]]:=by decide +kernel
def MU (b:ByteArray):Int:=(b.data[0]!).toNat
theorem CP {l m:List Int} (d:l.Perm m) (e:m.Pairwise λa b=>a<=b):R' l=m:=by
 have f:∀a b c:Int,decide (a<=b)=true->decide (b<=c)=true->decide (a<=c)=true:=λa b c h k=>by simp at *;omega
 have g:∀a b:Int,(decide (a<=b)||decide (b<=a))=true:=λa b=>by simp;omega
 have i:=List.pairwise_mergeSort (le:=λx y:Int=>decide (x<=y)) f g l
 have j:(l.mergeSort λx y:Int=>decide (x<=y)).Perm m:=(List.mergeSort_perm l _).trans d;exact IE (le:=λa b:Int=>a<=b) (λa b _ _ h k=>U) (i.imp λ{a b} h=>by simpa using h) e j
theorem CO:U0 (ZQ XJ) 0 true=[4,4]:=by decide +kernel
theorem CN:U0 (ZQ XJ) 1 true=[1,2,1,2]:=by decide +kernel
theorem uB:(spell [111,63]).toList=[111,63]:=by decide +kernel
theorem uA:(X5 XJ true (ZQ XJ)).2.2=0:=by decide +kernel
theorem uz {l:List (List (Int×Int))} {a:Int} (h:∀j:Nat,((l[j]?).getD []).length<=2):∀i,Xb l a i<=2 ^ i:=by
 intro i
 induction i with
 | zero=>simp[Xb]
 | succ i b=>
  rw[@Pl ⟨λ_=>True⟩,Nat.pow_succ];refine RQ b ?_;split
  .omega
  .exact h i
theorem uy:∀f∈ZQ XJ,f.cells.length=2/\∀c∈f.cells,c.length<=2:=by decide +kernel
theorem CM:Od XJ (ZQ XJ):=by
 refine⟨by decide +kernel,by decide +kernel,?_,by decide +kernel⟩;intro f a;obtain⟨b,d⟩:=uy f a;refine⟨by rw[b];decide,λg i hi=>OU (uz (λj=>?_) i) ?_⟩
 .cases e:f.cells[j]? with
  | none=>simp
  | some c=>simpa using d c (Zp e)
 .have:2 ^ i<=2 ^ 2:=Lb U U;omega
theorem CL:Ry (ZQ XJ) 0 true=[4]:=by
 unfold Ry;rw[CO,CP (m:=[4,4]) (.refl _) Z3];decide
theorem CK:Ry (ZQ XJ) 1 true=[1,2]:=by
 unfold Ry;rw[CN,CP (m:=[1,1,2,2]) Z3 Z3];decide
theorem uw:Eb XJ (ZQ XJ) true MU 12:=by
 refine⟨by decide +kernel,by decide +kernel,λc a=>?_,λg b=>?_⟩
 .have a:c<2:=a
  match c,a with
  | 0,_=>rw[CO,CL];decide
  | 1,_=>rw[CN,CK];decide
 .simp only[XJ,Zf,Yk,or_false] at b;rcases b with rfl|rfl|rfl|rfl|rfl<;>rfl
theorem uv:R9 XJ (ZQ XJ) true MU 2=[111,63]:=by
 show [0,1].map (Ph XJ (ZQ XJ) true MU)=_;simp only[X3,T1,Ph,CL,CK];decide +kernel
theorem uu:Pg XJ (ZQ XJ) true MU=(spell [111,63],0):=by
 unfold Pg;rw[if_pos uA];show(spell (R9 XJ (ZQ XJ) true MU 2),(0:Int))=_;rw[uv]
theorem CJ:@Κ Tz prog 21 [] (ε true):=by
 letI:ZV:=Tz;have e:=CR.small;have h:=uG CR;refine Ξ.body Ρ func21 rfl rfl ntmps21 rfl rfl J ?_;refine Χ ?_;refine ZU λb a=>?_;refine Κ.d (Lz) (Z1 ?_);refine Κ.c (uH XJ e [1,0] [1,4] 1) (.cons (.refl _) (.cons .ex (.cons .ex (.cons (.refl _) .nil)))) J J ?_;rw[uD];simp;(repeat (rw[Μ];simp));apply a;refine ZU λb a=>?_;refine Κ.d (Lz) (Z1 ?_);refine Κ.c (xV XJ e _ h (by decide +kernel)) (ZO.refl _) J J ?_;rw[if_pos CQ,CQ,uC];simp;(repeat (rw[Μ];simp));apply a;refine ZU λb a=>?_;refine Κ.d (Lz) (Z1 ?_);refine Κ.c (xQ XJ e _ h true MU 12 Z3 xO (λ_=>uw)) (ZO.refl _) J J ?_;rw[uu];simp;(repeat (rw[Μ];simp));apply a;refine ZU λb a=>?_;refine Κ.d (Lz) (Z1 ?_);refine Κ.c (DZ XJ e _ h CM) (ZO.refl _) J J ?_;rw[uF];simp;(repeat (rw[Μ];simp));apply a;refine ZU λb a=>?_;refine Κ.d (Lz) (Z1 ?_);refine Κ.c (CW XJ e _ h CM 1 true Z3) (ZO.refl _) J J ?_;rw[uE];simp;(repeat (rw[Μ];simp));apply a;refine ZU λb a=>?_;refine Κ.c (xX 9) (ZO.refl _) J J ?_;have i:valid 9=true:=by decide +kernel
 have j:JH 9=6:=by decide +kernel
 rw[i,j];simp;(repeat (rw[Μ];simp));apply a;refine XM @uB λb a=>?_;refine Κ.c (Ew [[1,0],[2,0]] [[1,0],[2,0]] Z3 Z3) (.cons (.refl _) (.cons ?_ .nil)) J J ?_
 .exact .map (l:=[[1,0],[2,0]]) (f:=λl:List Int=>.sl true 1 (l.map R)) (g:=ν R 1) λx _=>.one .ex rfl rfl
 simp;(repeat (rw[Μ];simp));refine Κ.c (HJ [1] [1] Z3) (.cons (.refl _) (.cons .ex .nil)) J J ?_;simp;(repeat (rw[Μ];simp));apply a;refine W.rt ?_;exact .of J
end Go.TL
namespace Go.TL
open Go.Proofs.Tryz
open Go.Proofs
variable [ZV]
structure Zo where
 Z9:List Int
 state:Int
abbrev CI (n:Int):I:=.z (.int .u64 n)
abbrev uq (d:Zo):I:=.Z7 [ν R 1 d.Z9,CI d.state]
abbrev ZK (d:Zo):Row:=.cells 93 2 [uq d]
def Ly (d:Zo):Int:=IntKind.u64.wrap (d.Z9.headD 0)
def MT (d:Zo):Int:=IntKind.u64.wrap (IntKind.u64.wrap (IntKind.u64.wrap (d.state+(if d.Z9=[] then 0 else Ly d))+6364136223846793005)*15074714826142052245)
def PK (d:Zo):Int:=Mf .u64 (MT d) ((MT d).fdiv (2 ^ min 29 IntKind.u64.bits))
def QD (d:Zo):Int:=(IntKind.u64.wrap (Mf .u64 (PK d) ((PK d).fdiv (2 ^ min 33 IntKind.u64.bits))*18397679294719823053)).fdiv (2 ^ min 32 IntKind.u64.bits)
def Zo.next (d:Zo):Zo:=⟨d.Z9.tail,PK d⟩
theorem uo (d:Zo) (hd:d.Z9.length<2 ^ 63):Ξ prog 73 [.Ν 0 1 0 0] [ZK d] (λr s=>r=CI (QD d)/\s=[ZK d.next]) (λ_ _=>False):=by
 obtain⟨l,q⟩:=d;refine Ξ.body Ρ func73 rfl rfl ntmps73 rfl rfl J ?_;refine Χ ?_;cases l with
 | nil=>
  refine Η J ?_;refine Χ ?_;refine Pn ?_
  repeat apply Ο
  refine Pn ?_;refine Χ ?_;exact W.ret ⟨_,rfl,by simp[QD,PK,MT,Ly],by simp[Zo.next,PK,MT,Ly]⟩
 | cons a l=>
  refine Ε J ?_;refine Χ ?_;have b:List.take l.length (l.map R)=l.map R:=US J;refine XM b λe c=>?_;refine⟨U,?_⟩;apply c;refine Χ ?_;refine Pn ?_
  repeat apply Ο
  refine Pn ?_;refine Χ ?_;exact W.ret ⟨_,rfl,by simp[QD,PK,MT,Ly],by simp[Zo.next,PK,MT,Ly]⟩
def Xj (d:Zo) (n:Int):Int:=if n<=0 then 0 else IntKind.i64.wrap ((IntKind.u64.wrap (QD d*IntKind.u64.wrap (IntKind.i64.wrap (n+1)))).fdiv (2 ^ min 32 IntKind.u64.bits))
def Zo.after (d:Zo) (n:Int):Zo:=if n<=0 then d else d.next
theorem R3 (d:Zo):VM (ZK d):=by simp[VM,I.cells]
theorem GP (d:Zo) (hd:d.Z9.length<2 ^ 63) (n:Int):Ξ prog 24 [.Ν 0 1 0 0,R n] [ZK d] (λr s=>r=R (Xj d n)/\s=[ZK (d.after n)]) (λ_ _=>False):=by
 refine Ξ.body Ρ func24 rfl rfl ntmps24 rfl rfl J ?_;refine Χ ?_;by_cases h:n<=0
 .refine Ε (by simp[h]) ?_;refine Χ ?_;exact W.ret ⟨_,rfl,by simp[Xj,h],by simp[Zo.after,h]⟩
 .refine Η (by simp[h]) ?_;refine Χ ?_;refine ZU λb a=>?_;refine Ξ.one (as0:=[.Ν 0 1 0 0]) (uo d hd) 0 rfl (R3 d) (R3 d.next) (by simp[Xm,Sg]) ((χ.z _).VL 1) rfl ?_;simp[SH];(repeat (rw[Μ];simp));apply a;exact W.ret ⟨_,rfl,by simp[Xj,h],by simp[Zo.after,h]⟩
def S9 (d:Zo) (a b:Int):Int:=IntKind.i64.wrap (a+Xj d (IntKind.i64.wrap (b-a)))
theorem um (d:Zo) (hd:d.Z9.length<2 ^ 63) (a b:Int):Ξ prog 38 [.Ν 0 1 0 0,R a,R b] [ZK d] (λr s=>r=R (S9 d a b)/\s=[ZK (d.after (IntKind.i64.wrap (b-a)))]) (λ_ _=>False):=by
 refine Ξ.body Ρ func38 rfl rfl ntmps38 rfl rfl J ?_;refine Χ ?_;refine ZU λe c=>?_;refine Ξ.one (as0:=[.Ν 0 1 0 0,R (IntKind.i64.wrap (b-a))]) (GP d hd _) 0 rfl (R3 d) (R3 _) (by simp[Xm,Sg]) ((χ.z _).VL 1) rfl ?_;simp[SH];(repeat (rw[Μ];simp));apply c;exact W.ret ⟨_,rfl,rfl,rfl⟩
end Go.TL
namespace Go.TL
open Go.Proofs.Tryz
open Go.Proofs
theorem uk (x:Int):0<=IntKind.u64.wrap x/\IntKind.u64.wrap x<18446744073709551616:=by
 unfold IntKind.wrap;simp[IntKind.bits,IntKind.signed];omega
theorem u64_in (x:Int) (h:0<=x) (a:x<18446744073709551616):IntKind.u64.wrap x=x:=by
 unfold IntKind.wrap;simp[IntKind.bits,IntKind.signed];omega
theorem CH:(2:Int) ^ min 32 IntKind.u64.bits=4294967296:=Z3
theorem uj (d:Zo):0<=QD d/\QD d<4294967296:=by
 unfold QD;rw[CH];generalize a:IntKind.u64.wrap _=x;have:=uk (Mf .u64 (PK d) ((PK d).fdiv (2 ^ min 33 IntKind.u64.bits))*18397679294719823053);rw[a] at this;rw[IH _ Z3];omega
theorem S8 (d:Zo) (n:Int) (e:0<=n) (f:n<2147483647):0<=Xj d n/\Xj d n<=n:=by
 unfold Xj;split
 .omega
 .obtain⟨b,g⟩:=uj d;rw[CH,IntWalk.i64_in (n+1) U,u64_in (n+1) U U];have c:QD d*(n+1)<=4294967295*(n+1):=Int.mul_le_mul_of_nonneg_right U U;have a:0<=QD d*(n+1):=Int.mul_nonneg b U;generalize QD d*(n+1)=y at c a;rw[u64_in y a U,IH _ Z3,IntWalk.i64_in _ U];omega
end Go.TL
namespace Go.TL
open Go.Proofs.Tryz
open Go.Proofs
variable [ZV]
def Rl (d:Zo) (l:List Int):Nat:=(Xj d ((l.length:Int)-1)).toNat
theorem ui (d:Zo) (hd:d.Z9.length<2 ^ 63) (l:List Int) (g:0<l.length) (h:l.length<1000000):Ξ prog 61 [.Ν 0 1 0 0,ν R 1 l] [ZK d] (λr s=>r=R (l.getD (Rl d l) 0)/\s=[ZK (d.after ((l.length:Int)-1))]) (λ_ _=>False):=by
 refine Ξ.body Ρ func61 rfl rfl ntmps61 rfl rfl J ?_;have c:IntKind.i64.wrap ((l.length:Int)-1)=(l.length:Int)-1:=IntWalk.i64_in _ U;obtain⟨t0,t1⟩:=S8 d ((l.length:Int)-1) U U;obtain⟨k,b⟩:∃k:Nat,Xj d ((l.length:Int)-1)=k:=⟨(Xj d ((l.length:Int)-1)).toNat,U⟩;have a:k<l.length:=U;have e:Rl d l=k:=by unfold Rl;rw[b];rfl
 refine Χ ?_;refine XM c λi f=>?_;refine Ξ.one (as0:=[.Ν 0 1 0 0,R ((l.length:Int)-1)]) (GP d hd _) 0 rfl (R3 d) (R3 _) (by simp[Xm,Sg]) ((χ.z _).VL 1) rfl ?_;rw[b];simp[SH,a];(repeat (rw[Μ];simp[a]));apply f;exact W.ret ⟨_,rfl,by rw[e];simp[Xd,a],rfl⟩
end Go.TL
namespace Go.TL
open Go.Proofs.Tryz
open Go.Conc
variable [ZV]
section
variable {P:Program} {T:ZZ} {A:List Nat} {m nt:Nat} {k:List Item} {env:Ζ} {σ:Τ} {Z:X9} {E:Yn} {ops:Array Oper}
def CG (P:Program) (m nt:Nat) (k:List Item) (Z:X9) (E:Yn) (ops:Array Oper) (i:Nat) (o:Oper) (env:Ζ) (r:Row) (a:I) (b:Row):Prop:=
 ∀env' τ rest,SL ops o env env'->W P m nt (.inRegion ops rest::k) (Zz o env' a) (b::τ) Z E->W P m nt (.inRegion ops (i::rest)::k) env' (r::τ) Z E
def StepB (P:Program) (m nt:Nat) (k:List Item) (Z:X9) (E:Yn) (ops:Array Oper) (i:Nat) (o:Oper) (env:Ζ) (τ:Τ) (a:I) (b:Τ):Prop:=
 ∀env' r rest,SL ops o env env'->W P m nt (.inRegion ops rest::k) (Zz o env' a) (r::b) Z E->W P m nt (.inRegion ops (i::rest)::k) env' (r::τ) Z E
theorem CF {l:Type} {f:Nat->l} {tags:List Bool} (m:∀i o,ops[i]?=some o->writer ops tags i=false->f (i+1)=f i):∀a b,a<=ops.size->b<=ops.size->(∀j,j<ops.size->writer ops tags j=true->(j<a↔j<b))->f a=f b:=by
 have g:∀(d a:Nat),a+d<=ops.size->(∀j,a<=j->j<a+d->writer ops tags j=false)->f (a+d)=f a:=by
  intro d
  induction d with
  | zero=>intro a _ _;rfl
  | succ d n=>
   intro a hle h;have c:ops[a+d]?=some ops[a+d]:=XQ U;have:=m (a+d) _ c (h (a+d) U U);rw[show a+(d+1)=a+d+1 by omega,this];exact n a U λj c k=>h j c U
 intro a b p r h;rcases Nat.le_total a b with hle|hle
 .have:=g (b-a) a U λj c k=>by
   cases e:writer ops tags j with
   | false=>rfl
   | true=>have:=(h j U e).2 U;omega
  rw[show a+(b-a)=b by omega] at this;exact this.symm
 .have:=g (a-b) b U λj c k=>by
   cases e:writer ops tags j with
   | false=>rfl
   | true=>have:=(h j U e).1 U;omega
  rw[show b+(a-b)=a by omega] at this;exact this
theorem CE {tags:List Bool} (a:TR ops tags=true):∀i o,ops[i]?=some o->(∀j∈W1 o,j<i)/\∀j b,j<i->ops[j]?=some b->clash ops tags i j o b=true->j∈(JU ops).getD i []:=by
 intro i o d;have hi:i<ops.size:=(T3.1 d).1;unfold TR P9 at a;simp only[WU,Wm] at a;have h:=a i hi;rw[d] at h;simp only[V9,WU,decide_eq_true_eq,Wm] at h;refine⟨h.1,λj b f g e=>?_⟩;have c:=h.2 j f;rw[g] at c;unfold clash at e;simp only[e,Bool.not_true,Bool.false_or,Le] at c;exact c
theorem CD {tags:List Bool}:∀j,writer ops tags j=true->tags.getD j false=true:=λj h=>by
 unfold writer at h;rw[V9] at h;exact h.1
theorem CC {tags:List Bool} {i:Nat} {c:Oper} (e:tags.getD i false=true):∀j a,ops[j]?=some a->writer ops tags j=true->clash ops tags i j c a=true/\clash ops tags j i a c=true:=λj a f b=>by
 have d:=CD j b;unfold writer at b;rw[d,f] at b;have g:V3 a=false:=by simpa using b
 unfold clash Ue P8;rw[d,e,g];simp
theorem W.uh {as9:Nat->I} {ρs:Nat->Row} {τs:Nat->Τ} {td tb:List Bool} {env0:Ζ} (aA:TR ops td=true) (aB:TR ops tb=true)
  (aC:∀i o,ops[i]?=some o->td.getD i false=false->tb.getD i false=false->Pq P m nt k Z E ops i o (Zj ops env0 as9 (λ_=>true) i) (as9 i))
  (aD:∀i o,ops[i]?=some o->td.getD i false=true->CG P m nt k Z E ops i o (Zj ops env0 as9 (λ_=>true) i) (ρs i) (as9 i) (ρs (i+1))/\tb.getD i false=false)
  (aE:∀i o,ops[i]?=some o->tb.getD i false=true->StepB P m nt k Z E ops i o (Zj ops env0 as9 (λ_=>true) i) (τs i) (as9 i) (τs (i+1)))
  (aF:∀i o,ops[i]?=some o->writer ops td i=false->ρs (i+1)=ρs i) (aG:∀i o,ops[i]?=some o->writer ops tb i=false->τs (i+1)=τs i)
  (aH:W P m nt (.inRegion ops []::k) (Zj ops env0 as9 (λ_=>true) ops.size) (ρs ops.size::τs ops.size) Z E) :
  ∀(Q:Nat) (t:Nat) (listed:Array Bool) (env:Ζ) (g n:Nat),listed.size=ops.size->
   (∀i,Z' env i=Z' (Zj ops env0 as9 (λi=>listed.getD i false) ops.size) i)->
   (∀i o,ops[i]?=some o->listed.getD i false=true->∀j∈W1 o,listed.getD j false=true)->
   g<=ops.size->n<=ops.size->(∀j,j<ops.size->writer ops td j=true->(listed.getD j false=true↔j<g))->(∀j,j<ops.size->writer ops tb j=true->(listed.getD j false=true↔j<n))->
   ((List.range ops.size).filter λi=>!listed.getD i false).length<=Q->
   W P m nt (.inRegion ops (Region.linearise.go .any ops Q t listed [])::k) env (ρs g::τs n) Z E:=by
 have ad:=CE aA
 have an:=CE aB
 have ae:∀i o,ops[i]?=some o->∀j∈W1 o,j<i:=λi o l=>(ad i o l).1
 have ao:=CF aF
 have ap:=CF aG;intro Q;have done:∀(t:Nat) (listed:Array Bool) (env:Ζ) (g n:Nat),(∀i,i<ops.size->listed.getD i false=true)->(∀i,Z' env i=Z' (Zj ops env0 as9 (λi=>listed.getD i false) ops.size) i)->g<=ops.size->n<=ops.size->
   (∀j,j<ops.size->writer ops td j=true->(listed.getD j false=true↔j<g))->(∀j,j<ops.size->writer ops tb j=true->(listed.getD j false=true↔j<n))->W P m nt (.inRegion ops []::k) env (ρs g::τs n) Z E:=λt listed env g n L M F H v K=>by
  have aI:ρs g=ρs ops.size:=ao g ops.size F (Z5 _) λj d p=>by rw[<-v j d p];simp[L j d,d]
  have Φ:τs n=τs ops.size:=ap n ops.size H (Z5 _) λj d p=>by rw[<-K j d p];simp[L j d,d]
  rw[aI,Φ];refine .congr (λi=>?_) aH;rw[M i];exact Nq ops.size λi o hi _ _=>L i hi
 have aJ:∀listed:Array Bool,listed.size=ops.size->(∃i,i<ops.size/\listed.getD i false=false)->∃i,i<ops.size/\listed.getD i false=false/\∀j,j<i->listed.getD j false=true:=λlisted R ⟨i,hi,s⟩=>by
  induction i using Nat.strongRecOn with
  | _ i T=>
   by_cases d:∃j,j<i/\listed.getD j false=false
   .obtain⟨j,w,A⟩:=d;exact T j w U A
   .exact⟨i,hi,s,λj aK=>by
     cases h:listed.getD j false with
     | true=>rfl
     | false=>exact absurd ⟨j,aK,h⟩ d⟩
 induction Q with
 | zero=>
  intro t listed env g n R M V F H v K aL;have L:∀i,i<ops.size->listed.getD i false=true:=λi hi=>by
   cases h:listed.getD i false with
   | true=>rfl
   | false=>
    have aa:i∈(List.range ops.size).filter λi=>!listed.getD i false:=by rw[S0];exact⟨Wm.2 hi,by rw[h];rfl⟩
    have:((List.range ops.size).filter λi=>!listed.getD i false)=[]:=YR.1 U;rw[this] at aa;simp at aa
  exact done t listed env g n L M F H v K
 | succ Q T=>
  intro t listed env g n R M V F H v K aL;simp only[Region.linearise.go];generalize aM:((List.range ops.size).filter λi=>!listed.getD i true&&((ops[i]?).map (·.after.all λe=>!Region.binds .any e||listed.getD e.on false)).getD false)=N;have aq:∀i,i<ops.size->listed.getD i true=listed.getD i false:=λi hi=>by
   rw[WV,WV,XQ U];rfl
  have ar:∀i,i∈N↔i<ops.size/\listed.getD i false=false/\∀o,ops[i]?=some o->∀j∈W1 o,listed.getD j false=true:=λi=>by
   rw[<-aM];simp only[S0,Wm,V9,Bool.not_eq_true'];constructor
   .rintro⟨w,A,C⟩;rw[aq i w] at A;refine⟨w,A,λo l j d=>?_⟩;rw[l] at C;simp only[Option.map_some,Option.getD_some,K8] at C;unfold W1 at d;simp only[Zc,S0] at d;obtain⟨e,⟨aN,aO⟩,rfl⟩:=d;have:=C e (by simpa using aN);simpa[aO] using this
   .rintro⟨w,A,C⟩;refine⟨w,by rw[aq i w];exact A,?_⟩;have l:ops[i]?=some ops[i]:=XQ w;rw[l];simp only[Option.map_some,Option.getD_some,K8];intro e aP;by_cases au:Region.binds .any e=true
    .have:=C _ l e.on (by unfold W1;simp only[Zc,S0];exact⟨e,⟨by simpa using aP,au⟩,rfl⟩);simp[this]
    .simp[au]
  cases hi:N[t % N.length]? with
  | none=>
   simp only[List.reverse_nil];have aQ:N=[]:=by
    cases aR:N with
    | nil=>rfl
    | cons x xs=>
     rw[aR] at hi;have af:t % (x::xs).length<(x::xs).length:=Nat.mod_lt _ J;rw[ζ af] at hi;cases hi
   have L:∀i,i<ops.size->listed.getD i false=true:=λi O=>by
    cases h:listed.getD i false with
    | true=>rfl
    | false=>
     obtain⟨r,w,A,C⟩:=aJ listed R ⟨i,O,h⟩;have:r∈N:=(ar r).2 ⟨w,A,λo l j d=>C j (ae r o l j d)⟩;rw[aQ] at this;simp at this
   exact done t listed env g n L M F H v K
  | some i=>
   simp only;rw[EO];have aa:i∈N:=Zp hi;obtain⟨w,A,C⟩:=(ar i).1 aa;have l:ops[i]?=some ops[i]:=XQ w;have aS:=JS ae (λj=>listed.getD j false=true) (λj o d s=>V j o d s) i _ l (C _ l);have low:∀j f,j<i->ops[j]?=some f->(clash ops td i j ops[i] f=true\/clash ops tb i j ops[i] f=true)->listed.getD j false=true:=λj f d u B=>aS j (B.elim (λB=>(ad i _ l).2 j f d u B) (λB=>(an i _ l).2 j f d u B));have high:∀j f,i<j->ops[j]?=some f->(clash ops td j i f ops[i]=true\/clash ops tb j i f ops[i]=true)->listed.getD j false=false:=λj f d u B=>by
    cases s:listed.getD j false with
    | false=>rfl
    | true=>
     have:=JS ae (λj=>listed.getD j false=true) (λj o d s=>V j o d s) j f u (V j f u s) i (B.elim (λB=>(ad j f u).2 i _ d l B) (λB=>(an j f u).2 i _ d l B));rw[A] at this;cases this
   have ag:SL ops ops[i] (Zj ops env0 as9 (λ_=>true) i) env:=λx av=>by
    rw[M x];have ah:Z' (Zj ops env0 as9 (λi=>listed.getD i false) ops.size) x=Z' (Zj ops env0 as9 (λi=>listed.getD i false) i) x:=JR U λj f aT aU u hd=>by
     by_cases e:j=i
     .subst e;exact A
     .refine high j f U u ?_;unfold clash Ue P8;simp[hd,av]
    rw[ah];exact Nq i λj f d u hd=>low j f d u (.inl (by unfold clash Ue P8;simp[hd,av]))
   have ai:∀x,Z' (Zz ops[i] env (as9 i)) x=Z' (Zj ops env0 as9 (λj=>(listed.setIfInBounds i true).getD j false) ops.size) x:=λx=>by
    have D:∀j,(listed.setIfInBounds i true).getD j false=if j=i then true else listed.getD j false:=λj=>by
     rw[WV,WV];by_cases e:j=i
     .subst e;rw[Tv U];simp
     .rw[UT (YZ e),if_neg e]
    rw[On];by_cases hd:ops[i].dst=some x
    .rw[if_pos hd];have ah:Z' (Zj ops env0 as9 (λj=>(listed.setIfInBounds i true).getD j false) ops.size) x=Z' (Zj ops env0 as9 (λj=>(listed.setIfInBounds i true).getD j false) (i+1)) x:=JR U λj f aT aU u aj=>by
      rw[D,if_neg U];refine high j f U u (.inl ?_);unfold clash Ue P8;simp[hd,aj]
     rw[ah];simp only[Zj,D,if_true,l,On,hd]
    .rw[if_neg hd,M x];exact Nq ops.size λj f d u aj=>by
      rw[D,if_neg];intro e;subst e;rw[l] at u;cases u;exact hd aj
   have D:∀j,(listed.setIfInBounds i true).getD j false=if j=i then true else listed.getD j false:=λj=>by
    rw[WV,WV];by_cases e:j=i
    .subst e;rw[Tv U];simp
    .rw[UT (YZ e),if_neg e]
   have ak:((List.range ops.size).filter λj=>!(listed.setIfInBounds i true).getD j false).length<=Q:=by
    have af:((List.range ops.size).filter λj=>!(listed.setIfInBounds i true).getD j false).length<((List.range ops.size).filter λj=>!listed.getD j false).length:=by
     have:((List.range ops.size).filter λj=>!(listed.setIfInBounds i true).getD j false)=((List.range ops.size).filter λj=>!listed.getD j false).filter λj=>j != i:=by
      rw[List.filter_filter];apply List.filter_congr;intro j _;rw[D];by_cases e:j=i
      .subst e;simp
      .simp[e]
     rw[this];have aV:i∈(List.range ops.size).filter λj=>!listed.getD j false:=by
      rw[S0];exact⟨Wm.2 w,by rw[A];rfl⟩
     exact List.length_filter_lt_length_iff_exists.2 ⟨i,aV,J⟩
    omega
   have al:∀j o,ops[j]?=some o->(listed.setIfInBounds i true).getD j false=true->∀y∈W1 o,(listed.setIfInBounds i true).getD y false=true:=λj o d s y aw=>by
    rw[D] at s ⊢;by_cases e:y=i
    .rw[if_pos e]
    .rw[if_neg e];by_cases Φ:j=i
     .subst Φ;rw[l] at d;cases d;exact C _ l y aw
     .rw[if_neg Φ] at s;exact V j o d s y aw
   have ab:∀(tags:List Bool) (g:Nat),tags.getD i false=false->(∀j,j<ops.size->writer ops tags j=true->(listed.getD j false=true↔j<g))->∀j,j<ops.size->writer ops tags j=true->((listed.setIfInBounds i true).getD j false=true↔j<g):=λtags g X v j d p=>by
    rw[D];have:j≠i:=λe=>by subst e;rw[CD j p] at X;cases X
    rw[if_neg this];exact v j d p
   have keepW:∀(tags:List Bool) (g:Nat),writer ops tags i=false->(∀j,j<ops.size->writer ops tags j=true->(listed.getD j false=true↔j<g))->∀j,j<ops.size->writer ops tags j=true->((listed.setIfInBounds i true).getD j false=true↔j<g):=λtags g ax v j d p=>by
    rw[D];have:j≠i:=λe=>by subst e;rw[p] at ax;cases ax
    rw[if_neg this];exact v j d p
   have ay:∀(tags:List Bool),tags.getD i false=true->(∀j f,j<i->ops[j]?=some f->clash ops tags i j ops[i] f=true->listed.getD j false=true)->(∀j f,i<j->ops[j]?=some f->clash ops tags j i f ops[i]=true->listed.getD j false=false)->
     (∀j,j<ops.size->writer ops tags j=true->j<i->listed.getD j false=true)/\(∀j,j<ops.size->writer ops tags j=true->i<j->listed.getD j false=false):=λtags X lo hi=>⟨λj d p am=>lo j _ am (XQ d) (CC X j _ (XQ d) p).1,λj d p am=>hi j _ am (XQ d) (CC X j _ (XQ d) p).2⟩
   have az:∀(tags:List Bool) (g:Nat),(∀j,j<ops.size->writer ops tags j=true->j<i->listed.getD j false=true)->(∀j,j<ops.size->writer ops tags j=true->i<j->listed.getD j false=false)->(∀j,j<ops.size->writer ops tags j=true->(listed.getD j false=true↔j<g))->∀j,j<ops.size->writer ops tags j=true->(j<g↔j<i):=λtags g lo hi v j d p=>by
    rw[<-v j d p];constructor
    .intro s;apply Va;intro aW;by_cases e:j=i
     .subst e;rw[A] at s;cases s
     .rw[hi j d p U] at s;cases s
    .exact lo j d p
   have next:∀(tags:List Bool),(∀j,j<ops.size->writer ops tags j=true->j<i->listed.getD j false=true)->(∀j,j<ops.size->writer ops tags j=true->i<j->listed.getD j false=false)->∀j,j<ops.size->writer ops tags j=true->((listed.setIfInBounds i true).getD j false=true↔j<i+1):=λtags lo hi j d p=>by
    rw[D];by_cases e:j=i
    .subst e;simp
    .rw[if_neg e];constructor
     .intro s;apply Va;intro aW;rw[hi j d p U] at s;cases s
     .intro af;exact lo j d p U
   cases Y:td.getD i false with
   | true=>
    obtain⟨aX,S⟩:=aD i _ l Y;obtain⟨lo,O⟩:=ay td Y (λj f a b c=>low j f a b (.inl c)) (λj f a b c=>high j f a b (.inl c));rw[ao g i F U (az td g lo O v)];refine aX env _ _ ag ?_;exact T _ _ _ (i+1) n (by simpa using R) ai al U H (next td lo O) (ab tb n S K) ak
   | false=>
    cases S:tb.getD i false with
    | false=>
     refine aC i _ l Y S env _ _ ag ?_;exact T _ _ _ g n (by simpa using R) ai al F H (ab td g Y v) (ab tb n S K) ak
    | true=>
     obtain⟨lo,O⟩:=ay tb S (λj f a b c=>low j f a b (.inr c)) (λj f a b c=>high j f a b (.inr c));rw[ap n i H U (az tb n lo O K)];refine aE i _ l S env _ _ ag ?_;exact T _ _ _ g (i+1) (by simpa using R) ai al F U (ab td g Y v) (next tb lo O) ak
def MS (f:Row->Y6) (K:I->Τ->Prop):Prop:=∃a b,((∀r,f r=.ok a (r::b))\/∃p:Prop,p/\∀r,f r=.Ze p (.ok a (r::b)))/\K a b
theorem ug {f g:Row->Y6} {K:I->Τ->Prop} (h:∀r,f r=g r):MS f K=MS g K:=by rw[funext h]
theorem uf {a:I} {τ:Τ} {K:I->Τ->Prop}:MS (λr=>.ok a (r::τ)) K=K a τ:=by
 refine propext ⟨λ⟨b,f,h,d⟩=>?_,λh=>⟨a,τ,.inl λ_=>rfl,h⟩⟩;rcases h with h|⟨p,_,h⟩
 .have:=h (.map []);injection this with e c
  injection c with _ c
  rw[e,c];exact d
 .have:=h (.map []);cases this
theorem ub {p:Prop} {a:I} {τ:Τ} {K:I->Τ->Prop}:MS (λr=>.Ze p (.ok a (r::τ))) K=(p/\K a τ):=by
 refine propext ⟨λ⟨b,i,h,e⟩=>?_,λh=>⟨a,τ,.inr ⟨p,h.1,λ_=>rfl⟩,h.2⟩⟩;rcases h with h|⟨q,f,h⟩
 .have:=h (.map []);cases this
 .have:=h (.map []);injection this with g c
  injection c with c d
  injection d with _ d
  rw[c,d];exact⟨g▸f,e⟩
def Lx (P:Program) (f:I) (args:ξ) (r:Row) (c:I->Prop) (d:I->Row->Prop):Prop:=
 (∃a,XD P f args a/\c a)\/∃a r',(∀τ,WO P f args (r::τ) (λb s=>b=a/\s=r'::τ) (λ_ _=>False))/\d a r'
theorem ua {P:Program} {f:I} {args:ξ} {r r':Row} {d:I->Prop} {c:I->Row->Prop} {a:I} (h:∀τ,WO P f args (r::τ) (λb s=>b=a/\s=r'::τ) (λ_ _=>False)) (k:c a r'):Lx P f args r d c:=.inr ⟨a,r',h,k⟩
def Lw (P:Program) (T:ZZ) (A:List Nat) (env:Ζ) (o:Oper) (r:Row) (τ:Τ) (a:I->Prop) (b:I->Row->Prop) (c:I->Τ->Prop):Prop:=match o.op with
 | .call ⟨.value f,args,_⟩=>Lx P (κ env f) (args.toList.map (κ env)) r a b
 | .panic _=>False
 | .defer _=>False
 | _=>(VO T A env o).Yf a (MS (λr=>Wy T A env (r::τ) o) c)
theorem tZ {P:Program} {T:ZZ} {A:List Nat} {env:Ζ} {o:Oper} {r:Row} {τ:Τ} {a:I->Prop} {b:I->Row->Prop} {c:I->Τ->Prop}:Lw P T A env o r τ a b c=match o.op with
 | .call ⟨.value f,args,_⟩=>Lx P (κ env f) (args.toList.map (κ env)) r a b
 | .panic _=>False
 | .defer _=>False
 | _=>(VO T A env o).Yf a (MS (λr=>Wy T A env (r::τ) o) c):=XH rfl rfl
def VV (P:Program) (T:ZZ) (A:List Nat) (nt:Nat) (ops:Array Oper):List Nat->Ζ->Row->Τ->List Bool->List Bool->(Ζ->Τ->Prop)->Prop
 | [],env,r,τ,td,tb,K=>TR ops td=true/\TR ops tb=true/\K env (r::τ)
 | i::is,env,r,τ,td,tb,K=>Xr ops[i]? λo=>W2 nt o=true/\Xr (XT env ops o) λw=>
   Wx w (VV P T A nt ops is (Zz o env .Zs) r τ (td++[false]) (tb++[false]) K)
    (Lw P T A env o r τ (λa=>VV P T A nt ops is (Zz o env a) r τ (td++[false]) (tb++[false]) K) (λa r'=>VV P T A nt ops is (Zz o env a) r' τ (td++[true]) (tb++[false]) K) (λa b=>VV P T A nt ops is (Zz o env a) r b (td++[false]) (tb++[true]) K))
def CB (P:Program) (T:ZZ) (A:List Nat) (nt:Nat) (ops:Array Oper) (is:List Nat) (o:Oper) (env:Ζ) (r:Row) (τ:Τ) (td tb:List Bool) (K:Ζ->Τ->Prop) (a:I):Prop:=VV P T A nt ops is (Zz o env a) r τ (td++[false]) (tb++[false]) K
def CA (P:Program) (T:ZZ) (A:List Nat) (nt:Nat) (ops:Array Oper) (is:List Nat) (o:Oper) (env:Ζ) (τ:Τ) (td tb:List Bool) (K:Ζ->Τ->Prop) (a:I) (r:Row):Prop:=VV P T A nt ops is (Zz o env a) r τ (td++[true]) (tb++[false]) K
def Cz (P:Program) (T:ZZ) (A:List Nat) (nt:Nat) (ops:Array Oper) (is:List Nat) (o:Oper) (env:Ζ) (r:Row) (td tb:List Bool) (K:Ζ->Τ->Prop) (a:I) (τ:Τ):Prop:=VV P T A nt ops is (Zz o env a) r τ (td++[false]) (tb++[true]) K
section
variable {is:List Nat} {i:Nat} {o:Oper} {r:Row} {τ:Τ} {td tb:List Bool} {K:Ζ->Τ->Prop} {a:I}
theorem UW:VV P T A nt ops [] env r τ td tb K=(TR ops td=true/\TR ops tb=true/\K env (r::τ)):=XH rfl rfl
theorem UU:VV P T A nt ops (i::is) env r τ td tb K=Xr ops[i]? λo=>W2 nt o=true/\Xr (XT env ops o) λw=>
   Wx w (VV P T A nt ops is (Zz o env .Zs) r τ (td++[false]) (tb++[false]) K) (Lw P T A env o r τ (CB P T A nt ops is o env r τ td tb K) (CA P T A nt ops is o env τ td tb K) (Cz P T A nt ops is o env r td tb K)):=XH rfl rfl
theorem tY:CB P T A nt ops is o env r τ td tb K a=VV P T A nt ops is (Zz o env a) r τ (td++[false]) (tb++[false]) K:=XH rfl rfl
theorem tX:CA P T A nt ops is o env τ td tb K a r=VV P T A nt ops is (Zz o env a) r τ (td++[true]) (tb++[false]) K:=XH rfl rfl
theorem tW:Cz P T A nt ops is o env r td tb K a τ=VV P T A nt ops is (Zz o env a) r τ (td++[false]) (tb++[true]) K:=XH rfl rfl
end
def GO (P:Program) (m nt:Nat) (k:List Item) (Z:X9) (E:Yn) (ops:Array Oper) (i:Nat) (o:Oper) (env:Ζ) (r:Row) (τ:Τ) (d b:Bool) (a:I) (r':Row) (c:Τ):Prop:=
 (d=true/\b=false/\CG P m nt k Z E ops i o env r a r'/\c=τ)\/(d=false/\b=true/\StepB P m nt k Z E ops i o env τ a c/\r'=r/\(V3 o=true->c=τ))\/(d=false/\b=false/\Pq P m nt k Z E ops i o env a/\r'=r/\c=τ)
theorem tV (M:ZE P T) {i:Nat} {is:List Nat} {r:Row} {τ:Τ} {td tb:List Bool} {K:Ζ->Τ->Prop} (h:VV P T A nt ops (i::is) env r τ td tb K) :
  ∃o a r' g d b,ops[i]?=some o/\GO P m nt k Z E ops i o env r τ d b a r' g/\(d=true->V3 o=false)/\VV P T A nt ops is (Zz o env a) r' g (td++[d]) (tb++[b]) K:=by
 unfold VV Xr at h;split at h
 .exact h.elim
 .rename_i o j;obtain⟨hd,h⟩:=h;split at h
  .exact h.elim
  rename_i w B;unfold Wx at h;cases w
  .replace h:=h.1 rfl
   exact⟨o,.Zs,r,τ,false,false,j,.inr (.inr ⟨rfl,rfl,λenv' σ' rest e n=>.unwanted j (by rw[UK e];exact B) hd n,rfl,rfl⟩),λh=>(by cases h),h⟩
  .replace h:=h.2 rfl
   unfold Lw at h;split at h
   .rename_i f args X D;have N:∀env',SL ops o env env'->κ env' f=κ env f/\args.toList.map (κ env')=args.toList.map (κ env):=λenv' e=>by
     have F:=LY e;rw[D] at F;refine⟨F f (by simp[Op.operands,Call.operands]),LX λx S=>F x (by simp[Op.operands,Call.operands,S])⟩
    rcases h with⟨a,v,h⟩|⟨a,r',v,h⟩
    .refine⟨o,a,r,τ,false,false,j,.inr (.inr ⟨rfl,rfl,λenv' σ' rest e n=>.call j (by rw[UK e];exact B) hd D ?_,rfl,rfl⟩),λh=>(by cases h),h⟩;obtain⟨H,Φ⟩:=N env' e;rw[H,Φ];exact(v σ').mono (λa s ⟨x,y⟩=>by subst x;subst y;exact n) (λ_ _ h=>h.elim)
    .refine⟨o,a,r',τ,true,false,j,.inl ⟨rfl,rfl,λenv' g rest e n=>.call j (by rw[UK e];exact B) hd D ?_,rfl⟩,λ_=>(by unfold V3;rw[D]),h⟩;obtain⟨H,Φ⟩:=N env' e;rw[H,Φ];exact(v g).mono (λa s ⟨x,y⟩=>by subst x;subst y;exact n) (λ_ _ h=>h.elim)
   .exact h.elim
   .exact h.elim
   .rename_i Y aa O;have Q:∀(C:Zl) (a:I),VO T A env o=C->(∀K:I->Τ->Prop,∀s,K a s->(C.YE s).holds K)->(∀σ s,C.or σ s=C.YE σ)->Pq P m nt k Z E ops i o env a:=λC a u J U env' σ' rest e n=>by
     refine .op (A:=A) M j (by rw[UK e];exact B) hd (λc v=>O c v) ?_;rw[P7 e,u,U];exact J _ _ n
    unfold Zl.Yf at h;split at h
    .rename_i a L;exact⟨o,a,r,τ,false,false,j,.inr (.inr ⟨rfl,rfl,Q _ a L (λK s t=>t) (λ_ _=>rfl),rfl,rfl⟩),λh=>(by cases h),h⟩
    .rename_i p a L;exact⟨o,a,r,τ,false,false,j,.inr (.inr ⟨rfl,rfl,Q _ a L (λK s t=>⟨h.1,t⟩) (λ_ _=>rfl),rfl,rfl⟩),λh=>(by cases h),h.2⟩
    .exact h.elim
    .rename_i V;have W:∀(a:I) (g:Τ),(∀r,∃x:Y6,Wy T A env (r::τ) o=x/\∀K:I->Τ->Prop,K a (r::g)->x.holds K)->StepB P m nt k Z E ops i o env τ a g:=λa g u env' r rest e n=>by
      obtain⟨x,u,J⟩:=u r;refine .op (A:=A) M j (by rw[UK e];exact B) hd (λc v=>O c v) ?_;rw[P7 e,Np e,V,u];exact J _ n
     obtain⟨a,g,l,t⟩:=h;refine⟨o,a,r,g,false,true,j,.inr (.inl ⟨rfl,rfl,W a g λr=>?_,rfl,λu=>?_⟩),λh=>(by cases h),t⟩
     .rcases l with l|⟨p,R,l⟩
      .exact⟨_,l r,λK t=>t⟩
      .exact⟨_,l r,λK t=>⟨R,t⟩⟩
     .have:r::g=r::τ:=by
       rcases l with l|⟨p,R,l⟩
       .exact No (p:=True) u (.inl (l r))
       .exact No u (.inr (l r))
      injection this
theorem tU (B:ZE P T) {K:Ζ->Τ->Prop} {env0:Ζ}:∀(d i:Nat) (td tb:List Bool) (as9:Nat->I) (ρs:Nat->Row) (τs:Nat->Τ),i+d=ops.size->td.length=i->tb.length=i->
  (∀j o,j<i->ops[j]?=some o->GO P m nt k Z E ops j o (Zj ops env0 as9 (λ_=>true) j) (ρs j) (τs j) (td.getD j false) (tb.getD j false) (as9 j) (ρs (j+1)) (τs (j+1))/\(td.getD j false=true->V3 o=false))->
  VV P T A nt ops (List.range' i d) (Zj ops env0 as9 (λ_=>true) i) (ρs i) (τs i) td tb K->
  ∃(td tb:List Bool) (as9:Nat->I) (b:Nat->Row) (c:Nat->Τ),TR ops td=true/\TR ops tb=true/\b 0=ρs 0/\c 0=τs 0/\(∀j o,ops[j]?=some o->GO P m nt k Z E ops j o (Zj ops env0 as9 (λ_=>true) j) (b j) (c j) (td.getD j false) (tb.getD j false) (as9 j) (b (j+1)) (c (j+1))/\(td.getD j false=true->V3 o=false))/\K (Zj ops env0 as9 (λ_=>true) ops.size) (b ops.size::c ops.size):=by
 intro d
 induction d with
 | zero=>
  intro i td tb as9 ρs τs hi n p g h;simp only[List.range'_zero,VV] at h;have:i=ops.size:=U;subst this;exact⟨td,tb,as9,ρs,τs,h.1,h.2.1,rfl,rfl,λj o l=>g j o (T3.1 l).1 l,h.2.2⟩
 | succ d C=>
  intro i td tb as9 ρs τs hi n p g h;rw[MB] at h;obtain⟨o,a,r',D,r,s,l,F,H,h⟩:=tV (m:=m) (k:=k) (Z:=Z) (E:=E) B h;let f:Nat->I:=λj=>if j=i then a else as9 j
  let b:Nat->Row:=λj=>if j=i+1 then r' else ρs j
  let c:Nat->Τ:=λj=>if j=i+1 then D else τs j
  have u:∀j,j<=i->Zj ops env0 as9 (λ_=>true) j=Zj ops env0 f (λ_=>true) j:=λj g=>HR j λx Y=>by simp only[f];rw[if_neg U]
  have J:Zj ops env0 f (λ_=>true) (i+1)=Zz o (Zj ops env0 as9 (λ_=>true) i) a:=by
   simp only[Zj,if_true,l];rw[<-u i (Z5 i)];simp only[f,if_true]
  have w:∀(t:List Bool) (x:Bool),t.length=i->(t++[x]).getD i false=x:=λt x h=>by rw[Xd,XG U,h];simp
  have y:∀(t:List Bool) (x:Bool) (j:Nat),t.length=i->j<i->(t++[x]).getD j false=t.getD j false:=λt x j h g=>by rw[Xd,YL U,<-Xd]
  have:=C (i+1) (td++[r]) (tb++[s]) f b c U (by simp[n]) (by simp[p]) (λj L aa v=>?_) ?_
  .obtain⟨t1,t2,M,N,O,Q,R,S,V,W,X⟩:=this;exact⟨t1,t2,M,N,O,Q,R,S.trans (by simp only[b];rw[if_neg U]),V.trans (by simp only[c];rw[if_neg U]),W,X⟩
  .by_cases e:j=i
   .subst e;rw[l] at v;cases v;rw[<-u j (Z5 j),w td r n,w tb s p];simp only[f,b,c,if_true];rw[if_neg U,if_neg U];exact⟨F,H⟩
   .have:=g j L U v;rw[<-u j U,y td r j n U,y tb s j p U];simp only[f,b,c];rw[if_neg U,if_neg U,if_neg U,if_neg U,if_neg U];exact this
  .rw[J];simp only[b,c,if_true];exact h
theorem W.GN (C:ZE P T) (D:P.follows .mixedOrders=true) {r:Row} {τ:Τ} {id:Nat} (h:∀l:Ζ->Τ->Prop,(∀env σ,W P m nt k env σ Z E->l env σ)->VV P T A nt ops (idx ops.size []) env r τ [] [] l):W P m nt (.code (.region id ops true)::k) env (r::τ) Z E:=by
 have p:=h (λenv σ=>W P m nt k env σ Z E) λ_ _ h=>h;rw[idx_eq,Lc] at p;obtain⟨td,tb,as9,ρs,τs,F,I,K,L,f,M⟩:=tU (m:=m) (k:=k) (Z:=Z) (E:=E) (env0:=env) C ops.size 0 [] [] (λ_=>.Zs) (λ_=>r) (λ_=>τ) U rfl rfl (λj o s=>U) p;intro N mn x cs b S B H t u v O Q R;refine .draw u v λn=>?_;have g:∀i:Nat,(Array.replicate ops.size false).getD i false=false:=λi=>by
  rw[WV,OY];split<;>rfl
 have w:=W.uh (P:=P) (m:=m) (nt:=nt) (k:=k) (Z:=Z) (E:=E) (ops:=ops) (as9:=as9) (ρs:=ρs) (τs:=τs) (td:=td) (tb:=tb) (env0:=env) F I
  (λi o c d V=>by
   rcases(f i o c).1 with⟨a,_⟩|⟨_,a,_⟩|⟨_,_,a,_⟩
   .rw[d] at a;cases a
   .rw[V] at a;cases a
   .exact a)
  (λi o c d=>by
   rcases(f i o c).1 with⟨_,b,a,_⟩|⟨a,_⟩|⟨a,_⟩
   .exact⟨a,b⟩
   .rw[d] at a;cases a
   .rw[d] at a;cases a)
  (λi o c d=>by
   rcases(f i o c).1 with⟨_,a,_⟩|⟨_,_,a,_⟩|⟨_,a,_⟩
   .rw[d] at a;cases a
   .exact a
   .rw[d] at a;cases a)
  (λi o c e=>by
   rcases(f i o c).1 with⟨a,_⟩|⟨_,_,_,a,_⟩|⟨_,_,_,a,_⟩
   .unfold writer at e;rw[a,c] at e;simp[(f i o c).2 a] at e
   .exact a
   .exact a)
  (λi o c e=>by
   rcases(f i o c).1 with⟨_,_,_,a⟩|⟨_,b,_,_,a⟩|⟨_,_,_,_,a⟩
   .exact a
   .refine a ?_;unfold writer at e;rw[b,c] at e;simpa using e
   .exact a)
  (.ZH M) ops.size n (Array.replicate ops.size false) env 0 0 J (λi=>?_) (λi o c y=>?_) (ω _) (ω _) (λj s _=>?_) (λj s _=>?_) ?_
 .rw[K,L] at w;rw[D];simp only[Region.schedule,Bool.true_or,if_true,Region.linearise];exact w N mn x cs b S B H t u v O Q R
 .have:∀n,Zj ops env as9 (λi=>(Array.replicate ops.size false).getD i false) n=env:=by
   intro n
   induction n with
   | zero=>rfl
   | succ n X=>
    simp only[Zj];rw[if_neg (by rw[g n];simp)];exact X
  rw[this]
 .rw[g] at y;cases y
 .rw[g];simp
 .rw[g];simp
 .have:=Ld (λi=>!(Array.replicate ops.size false).getD i false) (List.range ops.size);simpa using this
theorem tT {K K':Ζ->Τ->Prop} (l:∀e s,K e s->K' e s):∀(is:List Nat) (env:Ζ) (r:Row) (τ:Τ) (td tb:List Bool),VV P T A nt ops is env r τ td tb K->VV P T A nt ops is env r τ td tb K':=by
 intro is
 induction is with
 | nil=>intro env r τ td tb h;exact⟨h.1,h.2.1,l _ _ h.2.2⟩
 | cons i is c=>
  intro env r τ td tb h;unfold VV Xr at h ⊢;cases g:ops[i]? with
  | none=>rw[g] at h;exact h.elim
  | some o=>
   rw[g] at h;simp only at h ⊢;refine⟨h.1,?_⟩
   replace h:=h.2
   cases j:XT env ops o with
   | none=>rw[j] at h;exact h.elim
   | some w=>
    rw[j] at h;unfold Wx at h ⊢;refine⟨λe=>c _ _ _ _ _ (h.1 e),λe=>?_⟩
    replace h:=h.2 e
    unfold Lw at h ⊢;split
    .rename_i f args k b;rw[b] at h;simp only at h;rcases h with⟨a,d,h⟩|⟨a,r',d,h⟩
     .exact .inl ⟨a,d,c _ _ _ _ _ h⟩
     .exact .inr ⟨a,r',d,c _ _ _ _ _ h⟩
    .rename_i b;rw[b] at h;exact h
    .rename_i b;rw[b] at h;exact h
    .rename_i m n p;split at h
     .rename_i f args k b;exact absurd b (m f args k)
     .rename_i y b;exact absurd b (n y)
     .rename_i y b;exact absurd b (p y)
     .unfold Zl.Yf at h ⊢;split at h
      .exact c _ _ _ _ _ h
      .exact⟨h.1,c _ _ _ _ _ h.2⟩
      .exact h.elim
      .obtain⟨a,t,u,v⟩:=h;exact⟨a,t,u,c _ _ _ _ _ v⟩
theorem W.I0 (c:ZE P T) (d:P.follows .mixedOrders=true) (a:Ζ) (b:Τ) {r:Row} {τ:Τ} {id:Nat} (h:W P m nt k a b Z E) (f:VV P T A nt ops (idx ops.size []) env r τ [] [] (λe s=>s=b/\∀p∈a,Z' e p.1=p.2)):W P m nt (.code (.region id ops true)::k) env (r::τ) Z E:=
 W.GN c d λl g=>tT (λe s ⟨i,j⟩=>g e s (i▸W.forget a j h)) _ _ _ _ _ _ f
theorem W.Uv (c:ZE P T) (d:P.follows .mixedOrders=true) (a:Ζ) (b:Τ) {id:Nat} (h:W P m nt k a b Z E) (f:VB P T A nt ops (idx ops.size []) env σ [] (λe s=>s=b/\∀p∈a,Z' e p.1=p.2)):W P m nt (.code (.region id ops true)::k) env σ Z E:=
 W.draw c d λl g=>EJ (λe s ⟨i,j⟩=>g e s (i▸W.forget a j h)) _ _ _ _ f
end
end Go.TL
namespace Go.TL
open Go.Proofs.Tryz
open Go.Proofs
variable [ZV]
attribute [congr] ug
attribute [simp] uf ub tZ tY tX tW
def YT (g:FuncId) (args:ξ) (d:Zo) (r:I) (b:Zo):Prop:=Ξ prog g (.Ν 0 1 0 0::args) [ZK d] (λa s=>Y3 a r/\s=[ZK b]) (λ_ _=>False)
theorem Cy {l:ξ} (h:∀a∈l,χ 0 a) (ρ:List Nat):l.map (Ym ρ)=l:=by
 induction l with
 | nil=>rfl
 | cons a l b=>rw[X3,(h a J).Ym,b λx c=>h x (by simp[c])]
theorem YT.c {g:FuncId} {args b:ξ} {d e:Zo} {r:I} {σ:Τ} {K E:I->Τ->Prop} (h:YT g args d r e) (id:Nat) (j:σ[id]?=some (ZK d)) (k:ZO b args) (f:∀a∈b,χ 0 a) (i:χ 0 r) (l:K r (σ.set id (ZK e))):WO prog (.fn (.func g) [] []) (.Ν id 1 0 0::b) σ K E:=by
 refine Ξ.one (as0:=.Ν 0 1 0 0::b) (r:=r) (row':=ZK e) (Ξ.TP h (.cons (.refl _) k) λa s ⟨m,n⟩=>⟨r,m,rfl,n⟩) id j (R3 d) (R3 e) ?_ (i.VL 1) ?_ ?_
 .intro a hm;rcases Zf.1 hm with rfl|hm
  .exact Nat.zero_lt_one
  .exact(f a hm).VL 1
 .rw[X3,Cy f];rfl
 .rw[i.Ym];exact l
theorem YT.e {g:FuncId} {args b:ξ} {d f:Zo} {r:I} {j:I->Prop} {i:I->Row->Prop} (h:YT g args d r f) (k:ZO b args) (l:∀a∈b,χ 0 a) (m:χ 0 r) (n:i r (ZK f)):Lx prog (.fn (.func g) [] []) (.Ν 0 1 0 0::b) (ZK d) j i:=
 ua (λτ=>h.c 0 rfl k l m ⟨rfl,rfl⟩) n
theorem YT.g {g:FuncId} {args:ξ} {d b:Zo} {r:I} {σ:Τ} {K E:I->Τ->Prop} (h:YT g args d r b) (e:K r ((ZK d::σ).set 0 (ZK b))) (f:∀a∈args,χ 0 a:=by simp) (i:χ 0 r:=by simp):WO prog (.fn (.func g) [] []) (.Ν 0 1 0 0::args) (ZK d::σ) K E:=h.c 0 rfl (ZO.refl _) f i e
theorem YT.h {g:FuncId} {args:ξ} {d b:Zo} {r:I} {f:I->Prop} {c:I->Row->Prop} (h:YT g args d r b) (i:c r (ZK b)) (j:∀a∈args,χ 0 a:=by simp) (k:χ 0 r:=by simp):Lx prog (.fn (.func g) [] []) (.Ν 0 1 0 0::args) (ZK d) f c:=h.e (ZO.refl _) j k i
theorem QC {p q:Prop} (k:q) (h:q->p:=by intro k;simp;(repeat (rw[UU];simp));(try rw[UW]);exact k):p:=h k
theorem IZ {p f:Prop} {q:f->Prop} (a:f) (k:q a) (h:∀a,q a->p:=by intro b k;simp[b];(repeat (rw[UU];simp[b]));(try rw[UW]);exact k):p:=h a k
@[simp] theorem Ws (d:Zo) (n:Int):(d.after n).Z9.length<=d.Z9.length:=by
 unfold Zo.after;split
 .exact Z5 _
 .simp[Zo.next]
theorem Ty (d:Zo) (hd:d.Z9.length<2 ^ 63) (n:Int):YT 24 [R n] d (R (Xj d n)) (d.after n):=(GP d hd n).mono (λa s ⟨b,c⟩=>⟨.of b,c⟩) (λ_ _ h=>h)
theorem MR (d:Zo) (hd:d.Z9.length<2 ^ 63) (a b:Int):YT 38 [R a,R b] d (R (S9 d a b)) (d.after (IntKind.i64.wrap (b-a))):=(um d hd a b).mono (λa s ⟨c,e⟩=>⟨.of c,e⟩) (λ_ _ h=>h)
theorem GM (d:Zo) (hd:d.Z9.length<2 ^ 63) (l:List Int) (b:0<l.length) (c:l.length<1000000):YT 61 [ν R 1 l] d (R (l.getD (Rl d l) 0)) (d.after ((l.length:Int)-1)):=(ui d hd l b c).mono (λa s ⟨e,f⟩=>⟨.of e,f⟩) (λ_ _ h=>h)
def N8 (d:Zo) (n:Int):Bool:=decide (Xj d (n-1)=n.tdiv 2)
theorem GL (d:Zo) (hd:d.Z9.length<2 ^ 63) (n:Int) (e:1<=n) (f:n<1000):YT 156 [R n] d (ε (N8 d n)) (d.after (n-1)):=by
 have a:IntKind.i64.wrap (n-1)=n-1:=IntWalk.i64_in _ U;unfold YT;refine Ξ.body Ρ func156 rfl rfl ntmps156 rfl rfl J ?_;refine Χ ?_;refine XM a λh b=>?_;refine YT.g (Ty d hd (n-1)) (XC a ?_);apply b;have c:IntKind.i64.wrap (n.tdiv 2)=n.tdiv 2:=by
  rw[IG U];exact IntWalk.i64_in _ U
 rw[c];exact W.ret ⟨_,rfl,.refl _,rfl⟩
def R2 (l:List Int) (k:Nat) (x:Int):List Int:=l.take k++x::l.drop k
def W8 (d:Zo):Nat->List Int×Zo
 | 0=>([],d)
 | i+1=>(R2 (W8 d i).1 (Xj (W8 d i).2 i).toNat i,(W8 d i).2.after i)
theorem IY (d:Zo) (n:Nat):(W8 d n).2.Z9.length<=d.Z9.length:=by
 induction n with
 | zero=>exact Z5 _
 | succ n a=>exact Ya (Ws _ _) a
theorem GK {l:List Int} {k:Nat} {x:Int}:(R2 l k x).length=l.length+1:=by
 unfold R2;simp;omega
theorem IX (d:Zo) (n:Nat):(W8 d n).1.length=n:=by
 induction n with
 | zero=>rfl
 | succ n a=>show(R2 _ _ _).length=_;rw[GK,a]
def Vt (l:List Int) (k:Nat):List Int:=(l++[0]).take (k+1)++l.drop k
theorem tS (l:List Int):Vt l l.length=l++[0]:=by unfold Vt;rw[US J];simp
theorem Cx {l:List Int} {k:Nat} (h:k<=l.length):(Vt l k).length=l.length+1:=by
 unfold Vt;simp;omega
theorem tR {l:List Int} {k:Nat} (h:k<l.length):(Vt l (k+1))[k]?=some l[k]:=by
 unfold Vt;rw[YL (by simp;omega),Ts U,YL h,ζ h]
theorem tQ {l:List Int} {k:Nat} (h:k<l.length):(Vt l (k+1)).set (k+1) l[k]=Vt l k:=by
 unfold Vt;have a:((l++[0]).take (k+1+1))=(l++[0]).take (k+1)++[(l++[0])[k+1]'(by simp;omega)]:=Wp (by simp;omega);have Φ:l.drop k=l[k]::l.drop (k+1):=PH h;rw[a,Φ,Ur,PF _ _ (by simp;omega)];congr 1;have:k+1-((l++[0]).take (k+1)).length=0:=by simp;omega
 rw[this];rfl
theorem tP {l:List Int} {k:Nat} {x:Int} (h:k<=l.length):(Vt l k).set k x=R2 l k x:=by
 unfold Vt R2;have a:((l++[0]).take (k+1))=l.take k++[(l++[0])[k]'(by simp;omega)]:=by
  rw[Wp (by simp;omega),List.take_append_of_le_length h]
 rw[a,Ur,PF _ _ (by rw[Tq];omega)];have:k-(l.take k).length=0:=by rw[Tq];omega
 rw[this];rfl
theorem GJ (d:Zo) (hd:d.Z9.length<2 ^ 63) (n:Nat) (al:n<1000):YT 63 [R n] d (ν R 1 (W8 d n).1) (W8 d n).2:=by
 unfold YT;refine Ξ.body Ρ func63 rfl rfl ntmps63 rfl rfl J ?_;refine Χ ?_;refine W.iter (λi:Nat=>i<=n) (λi=>[(0,.Ν 0 1 0 0),(1,R n),(5,Zg 1 ((W8 d i).1.map R)),(6,R i)]) (λi=>ZK (W8 d i).2::ZR 3 1 ((W8 d i).1.map R)) (λi=>n-i) 0 (ω _) rfl (by simp[Zg,W8]) (λi hi ad=>?_);refine Χ ?_;refine W.YM rfl (λl=>?_) (λl=>?_)
 .have l:i<n:=by simpa using l
  have C:W8 d (i+1)=(R2 (W8 d i).1 (Xj (W8 d i).2 i).toNat i,(W8 d i).2.after i):=rfl;obtain⟨L,E⟩:=ψ ((W8 d i).1);obtain⟨f,F⟩:=ψ ((W8 d i).2);have m:L.length=i:=by rw[E];exact IX d i
  have ae:f.Z9.length<2 ^ 63:=by rw[F];exact OU (IY d i) hd
  rw[<-E,<-F] at C;rw[<-E,<-F];obtain⟨t0,t1⟩:=S8 f i U U;obtain⟨o,S⟩:∃k:Nat,Xj f i=k:=⟨(Xj f i).toNat,U⟩;rw[S] at C t1;have af:o<=i:=U;refine ZU λT v=>?_;refine YT.g (Ty f ae i) (Z1 ?_);rw[S];apply v
  repeat apply Ο
  refine W.Xk (A:=[19]) Ρ [(0,.Ν 0 1 0 0),(1,R n),(5,.ms 1 (i+1) 0 (i+1)),(6,R i),(7,R o)] [ZK (f.after i),.cells 3 1 ((Vt L i).map R)] ?_ (by
    have ag:(Vt L i).map R=L.map R++[R 0]:=by rw[<-m,tS];simp
    rw[ag];by_cases V:L=[]
    .subst V;have ah:i=0:=by simpa using m.symm
     subst ah;(try simp);(repeat (rw[Μ];simp[U2,show Zg 1 []=.sl true 0 [] from rfl]));(try simp[U2,show Zg 1 []=.sl true 0 [] from rfl])
    .have s:L.map R≠[]:=by simpa using V
     (try simp);(repeat (rw[Μ];simp[Xq s,Yq s,m]));(try simp[Xq s,Yq s,m]);omega)
  refine Χ ?_;refine W.iter (λk:Nat=>o<=k/\k<=i) (λk=>[(0,.Ν 0 1 0 0),(1,R n),(5,.ms 1 (i+1) 0 (i+1)),(6,R i),(7,R o),(8,R k)]) (λk=>[ZK (f.after i),.cells 3 1 ((Vt L k).map R)]) (λk=>k) i ⟨af,Z5 _⟩ rfl J (λk am ai=>?_);refine Χ ?_;refine W.YM rfl (λH=>?_) (λH=>?_)
  .have X:o<k:=by simpa using H
   obtain⟨j,Y⟩:∃j,k=j+1:=⟨k-1,U⟩;have Z:j<L.length:=U;have w:IntKind.i64.wrap ((k:Int)-1)=j:=by rw[IntWalk.i64_in _ U];omega
   have K:(Vt L k).length=i+1:=by rw[Cx U,m]
   obtain⟨y,M⟩:∃y,(Vt L k)[k]?=some y:=⟨_,ζ U⟩;obtain⟨b,c⟩:=ψ ((Vt L k).map R);have N:b.length=i+1:=by rw[c,Yh,K]
   have O:b[j]?=some (R L[j]):=by rw[c,Yl,Y,tR Z];rfl
   have u:b[k]?=some (R y):=by rw[c,Yl,M];rfl
   have P:b.set k (R L[j])=(Vt L j).map R:=by rw[c,<-tQ Z,Mx,Y]
   have aj:∀h,b[j]'h=R L[j]:=λh=>by rw[ζ h] at O;exact W4 O
   have Q:∀h,b[k]'h=R y:=λh=>by rw[ζ h] at u;exact W4 u
   refine W.to (σ':=[ZK (f.after i),.cells 3 1 b]) (env':=[(0,.Ν 0 1 0 0),(1,R n),(5,.ms 1 (i+1) 0 (i+1)),(6,R i),(7,R o),(8,R k)]) ?_ (by rw[c]) J;refine XM (Υ w (Υ N (Υ O (Υ u (Υ aj Q))))) λT v=>?_;refine⟨U,U,?_⟩;apply v;refine Ι w ?_;refine W.to (ai j ⟨U,U⟩ U) ?_ ?_
   .rw[P]
   .simp
  .have X:k=o:=by simp at H;omega
   subst X;refine W.exit rfl ?_;have K:(Vt L k).length=i+1:=by rw[Cx U,m]
   obtain⟨y,M⟩:∃y,(Vt L k)[k]?=some y:=⟨_,ζ U⟩;obtain⟨b,c⟩:=ψ ((Vt L k).map R);have N:b.length=i+1:=by rw[c,Yh,K]
   have u:b[k]?=some (R y):=by rw[c,Yl,M];rfl
   have P:b.set k (R i)=(R2 L k i).map R:=by rw[c,<-tP U,Mx]
   have Q:∀h,b[k]'h=R y:=λh=>by rw[ζ h] at u;exact W4 u
   refine W.to (σ':=[ZK (f.after i),.cells 3 1 b]) (env':=[(0,.Ν 0 1 0 0),(1,R n),(5,.ms 1 (i+1) 0 (i+1)),(6,R i),(7,R k)]) ?_ (by rw[c]) J;refine XM (Υ N (Υ u Q)) λT v=>?_;refine⟨U,?_⟩;apply v;have w:=Yx l (show n<2 ^ 62 by omega);refine Ι w ?_;have s:(R2 L k i).map R≠[]:=λh=>by have:=congrArg List.length h;rw[Yh,GK] at this;simp at this
   refine W.to (ad (i+1) l U) ?_ ?_
   .rw[C,P,Yq (by simpa using s)];rfl
   .rw[C];simp only[Int.toNat_natCast];rw[Xq s];simp[w,GK,m]
 .have l:i=n:=by simp at l;omega
  subst l;refine W.exit rfl ?_;refine Χ ?_;refine W.cut 1 J [(4,Xf 1 ((W8 d i).1.map R))] J (λid r an aa=>?_) ?_ ?_
  .have:id=0:=U
   subst this;simp at aa;subst aa;exact λe D a B=>by simp[I.cells] at D;subst D;simp[I.cells] at B;rcases B with rfl|rfl<;>simp[YN,I.cells]
  .intro p ab;simp at ab;subst ab;show Yr 1 _ (Z' _ 4) _;simp;refine Jx (t:=3) (Z5 _) (λak=>by rw[Yq ak];rfl) (λe D a B=>?_);obtain⟨x,_,rfl⟩:=Zc.1 D;simp[I.cells] at B;subst B;exact .z _
  .exact W.ret ⟨_,rfl,.acc,rfl⟩
theorem S7 (d:Zo) (h:Nat):XZ h (ZK d):=λe b a c=>by
 simp[I.cells] at b;subst b;simp[I.cells] at c;rcases c with rfl|rfl<;>simp[YN,I.cells]
section
variable {P:Program} {m nt:Nat} {k:List Item} {env:Ζ} {Z:X9} {E:Yn}
theorem W.tO {d:Zo} {t kk:Nat} {l:ξ} {x:Nat} (g:m<=1) (h:∀e∈l,∀a∈e.cells,χ 0 a) (env':Ζ) (hd:Z' env x=Zg 1 l) (c:∀p∈env',Z' env p.1=p.2/\χ 1 p.2) (i:W P m nt k ((x,Xf kk l)::env') [ZK d] Z E):W P m nt k env (ZK d::ZR t kk l) Z E:=
 W.cut 1 g ((x,Xf kk l)::env') J (λid r s f=>by
  have:id=0:=U;subst this;simp at f;subst f;exact S7 d 1) (λp b=>by
  rcases Zf.1 b with rfl|b
  .show Yr 1 _ (Z' env x) _;rw[hd];exact Jx (t:=t) (Z5 _) (λj=>by rw[Yq j];rfl) (λe n a o=>(h e n a o).mono (ω _))
  .rw[(c p b).1];exact .low (c p b).2) (by simpa using i)
end
theorem tN {i n:Nat} (h:i<n) (a:n<1000):IntKind.i64.wrap ((i:Int)+1)=((i+1:Nat):Int):=by
 rw[IntWalk.i64_in _ U];omega
def Wc (d:Zo):Nat->List Int×Zo
 | 0=>([],d)
 | i+1=>((Wc d i).1++(if N8 (Wc d i).2 2 then [(i:Int)] else []),(Wc d i).2.after 1)
theorem Cw (d:Zo) (n:Nat):(Wc d n).2.Z9.length<=d.Z9.length:=by
 induction n with
 | zero=>exact Z5 _
 | succ n a=>exact Ya (Ws _ _) a
theorem Cv (d:Zo) (n:Nat):(Wc d n).1.length<=n:=by
 induction n with
 | zero=>exact Z5 _
 | succ n a=>
  show((Wc d n).1++_).length<=_;rw[VU];split<;>simp<;>omega
theorem tM (d:Zo) (hd:d.Z9.length<2 ^ 63):YT 156 [R 2] d (ε (N8 d 2)) (d.after 1):=GL d hd 2 Z3 Z3
theorem tL (d:Zo) (hd:d.Z9.length<2 ^ 63):YT 129 [] d (ν R 1 (Wc d 3).1) (Wc d 3).2:=by
 unfold YT;obtain⟨n,t⟩:=ψ 3;rw[<-t];refine Ξ.body Ρ func129 rfl rfl ntmps129 rfl rfl J ?_;refine Χ ?_;refine W.iter (λi:Nat=>i<=n) (λi=>[(0,.Ν 0 1 0 0),(3,Zg 1 ((Wc d i).1.map R)),(4,R i)]) (λi=>ZK (Wc d i).2::ZR 3 1 ((Wc d i).1.map R)) (λi=>n-i) 0 (ω _) rfl (by simp[Zg,Wc]) (λi hi p=>?_);refine Χ ?_;refine W.YM rfl (λb=>?_) (λb=>?_)
 .have b:i<n:=by simp at b;omega
  have c:Wc d (i+1)=((Wc d i).1++(if N8 (Wc d i).2 2 then [(i:Int)] else []),(Wc d i).2.after 1):=rfl
  have u:=Cv d i;obtain⟨L,m⟩:=ψ ((Wc d i).1);obtain⟨f,o⟩:=ψ ((Wc d i).2);have v:f.Z9.length<2 ^ 63:=by rw[o];exact OU (Cw d i) hd
  rw[<-m,<-o] at c;rw[<-m] at u;rw[<-m,<-o];have h:=tN b U;refine ZU λB w=>?_;refine YT.g (tM f v) (Z1 ?_);apply w;cases j:N8 f 2
  .refine Η rfl ?_;refine Ι h ?_;refine W.to (p (i+1) b U) ?_ ?_
   .rw[c,j];simp
   .rw[c,j];simp[h]
  .refine Ε rfl ?_
   repeat apply Ο
   refine W.Xk (A:=[14]) Ρ [(0,.Ν 0 1 0 0),(3,Zg 1 ((L++[(i:Int)]).map R)),(4,R i)] (ZK (f.after 1)::ZR 3 1 ((L++[(i:Int)]).map R)) ?_ (by
    rw[XR,X3,T1,PX,Xq (l:=L.map R++[R i]) J];by_cases r:L=[]
    .subst r;(try simp);(repeat (rw[Μ];simp[U2,show Zg 1 []=.sl true 0 [] from rfl]));(try simp[U2,show Zg 1 []=.sl true 0 [] from rfl])
    .have k:L.map R≠[]:=by simpa using r
     (try simp);(repeat (rw[Μ];simp[Xq k,Yq k]));(try simp[Xq k,Yq k]);omega)
   refine Ι h ?_;refine W.to (p (i+1) b U) ?_ ?_
   .rw[c,j];simp
   .rw[c,j];simp[h]
 .have b:i=n:=by simp at b;omega
  subst b;refine W.exit rfl ?_;refine Χ ?_;refine W.tO (x:=2) J (λe y a s=>?_) [] J J ?_
  .obtain⟨x,_,rfl⟩:=Zc.1 y;simp[I.cells] at s;subst s;exact .z _
  .exact W.ret ⟨_,rfl,.acc,rfl⟩
end Go.TL
namespace Go.TL
open Go.Proofs.Tryz
open Go.Conc Go.Proofs
theorem GI:@Seq Tz calm:=@Seq.mk Tz calm rfl (λ_ h=>h.rel) (λ_ h=>h.γ)
theorem tK (w:World):Calm (Z4.start w):=⟨rfl,rfl,rfl,λ_=>trivial⟩
def Uu (w:World):ο:=λb o=>((Ψ.Uj w).μ b o).map (·.1)
theorem tJ (w:World):Holds (Uu w) [] [] (Ψ.Uj w):=
 ⟨λb o v h=>by
  unfold Uu at h;cases a:(Ψ.Uj w).μ b o with
  | none=>rw[a] at h;cases h
  | some x=>rw[a] at h;cases h;exact⟨x.2,rfl⟩,rfl,λid r bo h=>by simp at h,λi j c d b e f _ h=>by simp at h,λid r b N h=>by simp at h⟩
theorem tI {P:Program} {f:FuncId} {fn:Func} {body:Code} {d:Nat} (b:P.funcs[f]?=some fn) (g:fn.body=some body) (i:fn.results=#[.tmp d]) (m:P.inits.idxOf? f=none) {w:World} {l:ξ} {args:Array Value} (n:XN (Uu w) [] [] l args) (o:l.length<=fn.ntmps)
  (p:@W Tz P 0 fn.ntmps [.code body] (entry 0 l) [] (λj env _=>(∃k,j=.code .ret::k)/\Z' env d=ε true) (λ_ _ _=>False)):Comes P (λv=>v=.bool true) w (solo (Go.Conc.G (Frame.enter P f args .normal) []) w) #[]:=by
 letI:ZV:=Tz;refine Goes.comes ?_;show Zk P _ true (Z4.start w) (Frame.enter P f args .normal) [] (Ψ.Uj w);rw[Sa b g];refine p (λv=>v=.bool true) true calm [] (Frame.enter P f args .normal) (Uu w) [] (Ψ.Uj w) _ GI rfl (XE.enter (tJ w) n (Z5 _) o) (λj env' σ' r B' H' t' c s C t x=>?_) (λa env' σ' r B' H' t' c v A=>A.elim) (Z4.start w) (tK w);obtain⟨⟨k,B⟩,hd⟩:=s;have e:c=j:=x;subst e;subst B;refine θ.ret GI rfl rfl (θ.done (v:=.bool true) GI (λy h=>h.shut) (λy h=>h.deaf) rfl rfl rfl b m ?_ rfl);have hv:t'.getD d undef=.bool true:=by
  have:=t.Zn d;rw[hd] at this;generalize t'.getD d undef=u at this;cases this;rfl
 show results fn t'=_;unfold results;rw[i];rw[WV] at hv;simp[hv]
end Go.TL
namespace Go.TL
open Go.Proofs.Tryz
open Go.Conc Go.ConcM Go.Proofs
open Go.ChangeShapes Go.WideShapes Go.ChangeAt Go.RowKit
theorem tH:ownKnob prog.godebug=none:=by kernel_rfl
theorem Xy.below {W w:World} (h:Xy (λ_ _=>False) (λ_=>False) W w):Below W.heap.size W {w with os:=W.os}:=by
 refine⟨rfl,h.tape,h.output,h.size,λk d=>?_⟩;show w.heap[k]?=W.heap[k]?;have e:=XQ d;cases a:Obj.Qs W.heap[k] with
 | false=>rw[e];exact h.Tp k _ e a id
 | true=>
  cases b:W.heap[k] with
  | cells c t f=>
   rw[b] at e;obtain⟨c',g,j,i⟩:=h.cells k c t f e;have:c'=c:=by
    apply NP ;apply RU;intro o;have:=i o id;simpa using this
   rw[e,g,this]
  | _=>rw[b] at a;simp[Obj.Qs] at a
theorem tG:laidOutB prog=true:=by kernel_rfl
theorem tF {W:World} {b o:Nat} {v:Value} (h:W.cell? ⟨b,o,none⟩=some v):Uu W b o=some v:=by
 unfold World.cell? at h;unfold Uu Ψ.Uj;simp only at h ⊢;split at h
 .rename_i c t d a;rw[a];simp at h ⊢;exact h
 .cases h
end Go.TL
namespace Go.TL
open Go.Proofs.Tryz
open Go.Conc Go.ConcM Go.Proofs
open Go.ChangeShapes Go.WideShapes Go.ChangeAt Go.RowKit Go.Deep
section
variable {H:Type} {enc:TypeId×Value->H} {P:Program} {W:World}
def Wb (enc:TypeId×Value->H) (P:Program) (W:World) (t:TypeId) (k:Nat) {b:Type} (d:b->Prop) (F:b->I):Prop:=
 ∀(e:Nat) (cs:List Value) (x:DataW H×List MemPlace),DataW.trod enc P W 0 (λ_=>true) true e t cs=some x->∃a:b,d a/\(F a).cells.length=k/\cs.length=k/\∀(j:Nat) (c:I) (v:Value),(F a).cells[j]?=some c->cs[j]?=some v->Α (Uu W) [] [] c v
theorem MQ {t:TypeId} (d:P.underlying t=some (.int .i64)):Wb enc P W t 1 (λ_:Int=>True) R:=λe cs x h=>by
 obtain⟨n,rfl,_⟩:=DataW.trod_int d h;refine⟨n,trivial,rfl,rfl,λj c v a b=>?_⟩
 match j with
 | 0=>simp[I.cells] at a b;subst a;subst b;exact .z _
 | j+1=>simp[I.cells] at a
theorem tE {t:TypeId} (d:P.underlying t=some .bool):Wb enc P W t 1 (λ_:Bool=>True) ε:=λe cs x h=>by
 obtain⟨n,rfl,_⟩:=DataW.trod_bool d h;refine⟨n,trivial,rfl,rfl,λj c v a b=>?_⟩
 match j with
 | 0=>simp[I.cells] at a b;subst a;subst b;exact .z _
 | j+1=>simp[I.cells] at a
theorem tD {t:TypeId} (d:P.underlying t=some .string):Wb enc P W t 1 (λ_:ByteArray=>True) TO:=λe cs x h=>by
 obtain⟨n,rfl,_⟩:=DataW.trod_string d h;refine⟨n,trivial,rfl,rfl,λj c v a b=>?_⟩
 match j with
 | 0=>simp[I.cells] at a b;subst a;subst b;exact .z _
 | j+1=>simp[I.cells] at a
theorem Cu {d:Type} {p:Nat->d->Prop}:∀n,(∀i,i<n->∃a,p i a)->∃l:List d,l.length=n/\∀(i:Nat) (a:d),l[i]?=some a->p i a
 | 0,_=>⟨[],rfl,λi a h=>by simp at h⟩
 | n+1,h=>by
  obtain⟨l,e,f⟩:=Cu n λi hi=>h i U;obtain⟨a,g⟩:=h n U;refine⟨l++[a],by simp[e],λi b c=>?_⟩;by_cases hi:i<l.length
  .rw[YL hi] at c;exact f i b c
  .rw[XG U] at c;obtain⟨j,k⟩:=ψ (i-l.length);rw[<-k] at c
   match j with
   | 0=>
    simp at c;subst c;rw[show i=n by omega];exact g
   | j+1=>simp at c
theorem Lv {t e:TypeId} {k:Nat} {s:Type} {u:s->Prop} {F:s->I} (L:P.underlying t=some (.slice e)) (M:P.cellsOf e=k) (ai:0<k) (N:Wb enc P W e k u F) :
  Wb enc P W t 1 (λl:List s=>l.length<2 ^ 63/\∀a∈l,u a) (λl=>.sl false k (l.map F)):=λaj cs x h=>by
 rcases open_slice L h with⟨rfl,_⟩|⟨a,len,cap,m,n,ak,al,rfl,_,am,O,Q,_,R⟩
 .refine⟨[],⟨Nat.two_pow_pos 63,J⟩,rfl,rfl,λj c v d p=>?_⟩
  match j with
  | 0=>simp[I.cells] at d p;subst d;subst p;exact .Wk _ _ J
  | j+1=>simp[I.cells] at d
 have an:m=cap:=by rw[Q];rfl
 have T:∀i,i<len->∃b:s,u b/\(F b).cells.length=k/\∀(j:Nat) (c:I),(F b).cells[j]?=some c->∃v,W.cell? ((a.add (i*k)).add j)=some v/\Α (Uu W) [] [] c v:=λi hi=>by
  obtain⟨cs',d,p⟩:=R i U;rw[M] at d;obtain⟨_,ao,V⟩:=World.cells?_some d;obtain⟨b,X,E,ap,Y⟩:=N n cs' _ p;refine⟨b,X,E,λj c g=>?_⟩;have Z:j<k:=by rw[<-E];exact(ZB.1 g).1
  have hv:=ζ (show j<cs'.length by omega);exact⟨_,by rw[V j Z,hv],Y j c _ g hv⟩
 obtain⟨l,aa,w⟩:=Cu len T;refine⟨l,⟨by unfold maxLen at O;omega,λb ab=>?_⟩,rfl,rfl,λj c v d p=>?_⟩
 .obtain⟨i,hi,rfl⟩:=Us ab;exact(w i _ (ζ hi)).1
 match j with
 | j+1=>simp[I.cells] at d
 | 0=>
 simp[I.cells] at d p;subst d;subst p;by_cases ad:len=0
 .have:l=[]:=YR.1 U;subst this;subst ad;exact .Wk _ _ J
 have H:a.spot=none:=by
  have ae:=ζ (show 0<l.length by omega);obtain⟨_,K,A⟩:=w 0 _ ae;have af:=ζ (show 0<(F l[0]).cells.length by omega);obtain⟨v,hv,_⟩:=A 0 _ af;unfold World.cell? Addr.add at hv;simp only[Qu,if_true] at hv;cases ag:a.spot with
  | none=>rfl
  | some y=>
   rw[ag] at hv;simp at hv;split at hv<;>simp at hv
 obtain⟨b,o,sp⟩:=a;simp only at H;subst H;have ah:∀i j,((⟨b,o,none⟩:Addr).add i).add j=⟨b,o+i+j,none⟩:=λi j=>by rw[add_plain,add_plain]
 have one:∀(i:Nat) (f:I),(l.map F)[i]?=some f->f.cells.length=k/\∀(j:Nat) (c:I),f.cells[j]?=some c->∃v,Uu W b (o+i*k+j)=some v/\Α (Uu W) [] [] c v:=λi f hi=>by
  rw[Yl] at hi;cases C:l[i]? with
  | none=>rw[C] at hi;cases hi
  | some y=>
   rw[C] at hi;cases hi;obtain⟨_,K,A⟩:=w i y C;refine⟨K,λj c g=>?_⟩;obtain⟨v,r,D⟩:=A j c g;rw[ah] at r;exact⟨v,tF r,D⟩
 have:=Α.sl (S:=Uu W) (B:=[]) (σ:=[]) (ex:=false) (k:=k) (l:=l.map F) b o cap (λi j=>(Uu W b (o+i*k+j)).getD undef) J (by rw[Yh];omega)
  (λi f hi=>(one i f hi).1) (λi f hi j c g=>by
   obtain⟨v,r,_⟩:=(one i f hi).2 j c g;rw[r];rfl) (λi f hi j c g=>by
   obtain⟨v,r,D⟩:=(one i f hi).2 j c g;rw[r];exact D)
 rw[Yh,aa] at this;exact this
theorem Lu {a:Type} {cs:List a} {o k j:Nat} (b:j<k):((cs.drop o).take k)[j]?=cs[o+j]?:=by
 rw[Ts b,T2]
theorem tC {t:TypeId} {f0 f1:Field} {d f:Nat} {g i:Type} {l:g->Prop} {m:i->Prop} {o:g->I} {p:i->I} {k:Type} (G:g->i->k) {r:k->Prop} {F:k->I} (C:P.underlying t=some (.struct #[f0,f1])) (D:f0.offset=0) (E:f1.offset=d)
  (H:P.cellsOf f0.type=d) (J:P.cellsOf f1.type=f) (K:P.cellsOf t=d+f) (L:Wb enc P W f0.type d l o) (M:Wb enc P W f1.type f m p)
  (s:∀a b,(F (G a b)).cells=(o a).cells++(p b).cells) (N:∀a b,l a->m b->r (G a b)):Wb enc P W t (d+f) r F:=λY cs x h=>by
 obtain⟨Z,aa,n,_,O,u,w⟩:=trod_struct2 C h;rw[D,H] at u;rw[E,J] at w;obtain⟨a,Q,y,ab,R⟩:=L _ _ _ u;obtain⟨b,S,A,ad,T⟩:=M _ _ _ w;refine⟨G a b,N a b Q S,by rw[s,VU,y,A],by rw[O,K],λj c v e B=>?_⟩;rw[s] at e;by_cases V:j<d
 .rw[YL U] at e;exact R j c v e (by rw[Lu V,U'];exact B)
 .rw[XG U,y] at e;have X:j-d<f:=by rw[<-A];exact(ZB.1 e).1
  exact T (j-d) c v e (by rw[Lu X,show d+(j-d)=j by omega];exact B)
theorem Ct {t:TypeId} {f0 f1 f2:Field} {g i k:Type} {p:g->Prop} {r:i->Prop} {s:k->Prop} {u:g->I} {w:i->I} {y:k->I} {l:Type} (G:g->i->k->l) {A:l->Prop} {F:l->I} (H:P.underlying t=some (.struct #[f0,f1,f2])) (J:f0.offset=0) (K:f1.offset=1) (L:f2.offset=2)
  (M:P.cellsOf f0.type=1) (N:P.cellsOf f1.type=1) (O:P.cellsOf f2.type=1) (Q:P.cellsOf t=3) (R:Wb enc P W f0.type 1 p u) (S:Wb enc P W f1.type 1 r w) (T:Wb enc P W f2.type 1 s y)
  (B:∀a b d,(F (G a b d)).cells=(u a).cells++((w b).cells++(y d).cells)) (V:∀a b d,p a->r b->s d->A (G a b d)):Wb enc P W t 3 A F:=λad cs x h=>by
 obtain⟨ae,af,ag,n,_,X,C,D,E⟩:=trod_struct3 H h;rw[J,M] at C;rw[K,N] at D;rw[L,O] at E;obtain⟨a,Y,f,ah,Z⟩:=R _ _ _ C;obtain⟨b,aa,m,ai,ab⟩:=S _ _ _ D;obtain⟨d,d1,d2,d3,d4⟩:=T _ _ _ E;refine⟨G a b d,V a b d Y aa d1,by rw[B,VU,VU,f,m,d2],by rw[X,Q],λj c v e o=>?_⟩;rw[B] at e
 match j with
 | 0=>
  rw[YL U] at e;exact Z 0 c v e (by rw[Lu U];exact o)
 | 1=>
  rw[XG U,f,YL U] at e;exact ab 0 c v e (by rw[Lu U];exact o)
 | 2=>
  rw[XG U,f,XG U,m] at e;exact d4 0 c v e (by rw[Lu U];exact o)
 | j+3=>rw[XG U,f,XG U,m,S2 U] at e;cases e
end
end Go.TL
