import Derived.Carry
import Derived.ChangeSame
import Derived.ChangeSlices
import Derived.Conc.HoldsTime
import Derived.Deep.Slices
import Derived.Deep.Strs
import Derived.OpenShut
import Derived.Test.YtlabjopijpkiaaaGreatCAH
import Derived.Test.YtlabjopijpkiaaaGreatRows
set_option maxHeartbeats 16000000
set_option maxRecDepth 20000
set_option linter.unusedSectionVars false
set_option linter.unusedSimpArgs false
set_option linter.unusedVariables false
namespace Go.TL
open Go.Proofs.Tryz
open Go.Conc Go.Proofs
variable [ZN]
noncomputable abbrev va (vs:Array Value):Frame:=Frame.enter prog 126 vs .normal
abbrev Rl (L:Nat):I:=.fn (.yield L) [] []
structure u' (Q:Value->Prop) (mn:Bool) (x:W6) (cs:List Frame) (e:Frame) (o:Base) (L:Nat) (r:Loop) (n:Nat) (b d:Row) (Fnd:List (List Nat)->Prop):Prop where
 m:o.m=2
 u9:Yc 2 b
 u7:Yc 2 d
 u6:r.params.size=1
 round:∀(l:List Nat) (rem:List (List Nat)),Fnd (l::rem)->l.length<=n->(∀x∈l,x<n)->∀(S:ο) (B:Z8) (H:Ψ) (g:Array Value) (c:Frame),X5 2 o.S o.B o.H o.σ S B H [b,d,Ym l]->Holds S B [b,d,Ym l] H->¬B.has L->H.obj L=some (.loop r)->XT S B [b,d,Ym l] [.ms 2 l.length 0 l.length] g->
  (Fnd rem->∀(f:ο) (B':Z8) (H':Ψ),X5 2 o.S o.B o.H o.σ f B' H' [b,d,Ym l]->Zw S f B B' [b,d,Ym l] [b,d,Ym l]->Holds f B' [b,d,Ym l] H'->¬B'.has L->H'.obj L=some (.loop r)->ν prog Q mn x (c.finish (.bool true)) (e::cs) H')->
  (∀H',(∀(i:ο) (h:Ψ),Ext XE [] H' i [] h->ν prog Q mn x (e.finish (.tuple #[])) cs h)->ν prog Q mn x (c.finish (.bool false)) (e::cs) H')->
  ν prog Q mn x (Frame.round L r.fn ((r.params.zip g).foldl (λj (t,a)=>j.setIfInBounds t a) r.tmps) r.assign r.body .normal) (c::e::cs) H
 done:Fnd []->∀(S:ο) (B:Z8) (H:Ψ),X5 2 o.S o.B o.H o.σ S B H [b,d]->Holds S B [b,d] H->¬B.has L->H.obj L=some (.loop r)->ν prog Q mn x (e.finish (.tuple #[])) cs H
def QF (c i:Nat):List Int:=(List.range i).map (λj:Nat=>(j:Int))++List.replicate (c-i) 0
theorem u5 {c i:Nat} (h:i<c):(QF c i).set i (i:Int)=QF c (i+1):=by
 unfold QF;have a:((List.range i).map λj:Nat=>(j:Int)).length=i:=J;have Φ:c-i=(c-(i+1))+1:=U;rw[PF _ _ U,a,Py,Φ,List.replicate_succ,List.set_cons_zero,VA,Yd];simp
theorem u4 {c i:Nat} (h:i<=c):(QF c i).length=c:=by simp[QF];omega
theorem u3 (c:Nat):(QF c c).map R=(List.range c).map λn:Nat=>R n:=by simp[QF]
section
variable {Q:Value->Prop} {mn:Bool} {x:W6} {cs:List Frame} {CZ:Frame} {o:Base} {L:Nat} {r:Loop} {n:Nat} {QE QD:Row} {Fnd:List (List Nat)->Prop} {vs:Array Value}
theorem CY (v:Seq x) (bi:n<=12) (C:u' Q mn x cs CZ o L r n QE QD Fnd) (aA:Fnd (VY n 0)) :
  PW prog Q mn x (va vs) (CZ::cs) 72 o L r [.code (f126.body.getD .skip)] (entry 0 [Rl L,.ω [R n]]) [QE,QD]:=by
 have E:=C.m;refine PW.XS v rfl ?_;simp only[f126,Option.getD_some];have ag:=Yw (show n<13 by omega) U;refine Ζ ag ?_;refine W.iter (λc:Nat=>c<=n+1/\Fnd (VY n c)) (λc=>[(0,Rl L),(1,.ω [R n]),(9,R ((n:Int)+1)),(10,R c)]) (λ_=>[QE,QD]) (λc=>n+1-c) 0 ⟨Ε _,aA⟩ rfl (by simp[entry,ag]) (λc aB aC=>?_);obtain⟨bj,T⟩:=aB;refine Χ ?_;by_cases K:c<n+1
 .refine Γ (by simp;omega) ?_;refine Χ ?_;have bk:(0:Int)<=c:=U;have aD:(8:Int)*c<=281474976710656:=U;refine Zj (A:=[14]) Υ λbl aE=>ZY ?_;simp[aD];(repeat (rw[Ν];simp));apply aE;refine Χ ?_;refine W.iter (λi:Nat=>i<=c) (λi=>[(0,Rl L),(1,.ω [R n]),(9,R ((n:Int)+1)),(10,R c),(3,R c),(4,.ms 2 c 0 c),(16,R c),(17,R i)]) (λi=>[QE,QD,.cells 3 1 ((QF c i).map R)]) (λi=>c-i) 0 (Ε _) (by simp[QF]) J (λi hi aF=>?_);refine Χ ?_;by_cases D:i<c
  .refine Γ (by simp[D]) ?_;have ah:=Yw D (show c<2 ^ 62 by omega);have ai:=u4 (RP D);have aj:=u5 D;obtain⟨G,aG⟩:=Ι (QF c i);rw[<-aG] at ai aj ⊢;have aH:i<G.length:=U;refine Ζ (Τ ai (Τ D (Τ aH ah))) ?_;refine W.to (aF (i+1) D U) ?_ ?_
   .rw[<-aj];simp
   .simp[ah]
  .have aI:i=c:=U
   subst aI;refine Η J ?_;refine W.exit rfl ?_;rw[u3]
   repeat apply Ξ
   refine W.iter (λx:Nat×List Nat=>Rq n x.1 x.2=true/\x.2.length=i/\Fnd (TH n x.1 x.2++VY n (i+1))) (λ_=>[(0,Rl L),(1,.ω [R n]),(9,R ((n:Int)+1)),(10,R i),(3,R i),(4,.ms 2 i 0 i)]) (λx=>[QE,QD,Ym x.2]) (λx=>x.1) (1000,List.range i)
    ⟨w6 n U i K,J,by rw[<-w5 K];exact T⟩ rfl J (λx v aJ=>?_)
   obtain⟨g,l⟩:=x;obtain⟨X,f,Y⟩:=v;simp only at X f Y ⊢
   repeat apply Ξ
   refine W.Ze ?_;refine Xy [0,1] [2,3] ?_;refine W.stop ?_;obtain⟨y,aK,ak⟩:∃y,TH n g l++VY n (i+1)=l::y/\((Rr n l=none/\y=VY n (i+1))\/∃a b,Rr n l=some a/\g=b+1/\y=TH n b a++VY n (i+1)/\Rq n b a=true):=by
    cases al:Rr n l with
    | none=>exact⟨VY n (i+1),by rw[wX al];rfl,.inl ⟨rfl,rfl⟩⟩
    | some a=>
     obtain⟨b,F,Φ,aL⟩:=wW X al;exact⟨TH n b a++VY n (i+1),by rw[Φ];rfl,.inr ⟨a,b,rfl,F,rfl,aL⟩⟩
   rw[aK] at Y;have am:=wY X;refine PW.yield v ⟨rfl,rfl,by simp[Frame.enter],rfl⟩ rfl rfl rfl C.u6.symm λS B H t aM M s Z aa hv=>?_;refine C.round l y Y U am S B H aM _ (by rw[<-E];exact M) s.holds Z aa (by rw[f];exact hv) (λab an B' H' aN aO aP aQ aR=>?_) (λH' aS=>?_)
   .rw[V6 rfl];have ad:YS an B' [QE,QD,Ym l] [(27,.z (.bool true)),(0,Rl L),(1,.ω [R n]),(9,R ((n:Int)+1)),(10,R i),(3,R i),(4,.ms 2 i 0 i)] (t.setIfInBounds 27 (.bool true)):=QG (YS.put (s.Zn.later aO) (d:=27) (by rw[s.size];omega) (.z _)) J;refine(PW.XS (env:=[(27,.z (.bool true)),(0,Rl L),(1,.ω [R n]),(9,R ((n:Int)+1)),(10,R i),(3,R i),(4,.ms 2 i 0 i)]) (σ:=[QE,QD,Ym l]) (o:=o) (L:=L) (r:=r) (nt:=72) v rfl ?_) an B' H' _ (by rw[E];exact aN) ⟨aP,ad,XB (T9 ..) s.size,by rw[E];simp⟩ aQ aR;refine Xy [3] [] ?_;refine W.ZC ?_;refine Η rfl ?_;have ao:IntKind.i64.wrap ((i:Int)-1)=(i:Int)-1:=IntWalk.i64_in _ U;refine Ζ ao ?_;refine W.iter (λe:Nat=>e<=i/\Rs n l i=Rs n l e) (λe=>[(0,Rl L),(1,.ω [R n]),(9,R ((n:Int)+1)),(10,R i),(3,R i),(4,.ms 2 i 0 i),(6,R ((e:Int)-1))]) (λ_=>[QE,QD,Ym l]) (λe=>e) i ⟨Z1 _,rfl⟩ rfl (by simp[ao]) (λe aT aU=>?_);obtain⟨bm,ap⟩:=aT
    repeat apply Ξ
    have aq:=Yw K (show n+1<2 ^ 62 by omega)
    have ae:Rr n l=(Rs n l e).map λq=>TI l q (l.length-q):=by unfold Rr;rw[f,ap]
    cases e with
    | zero=>
     have aV:y=VY n (i+1):=by
      rcases ak with⟨_,h⟩|⟨a,b,h,_⟩
      .exact h
      .rw[ae] at h;simp[Rs] at h
     rw[aV] at ab;refine Pk ?_;refine Η rfl ?_;refine W.exit rfl ?_;refine Χ ?_;refine Γ rfl ?_;refine W.exit rfl ?_;refine W.drop (h:=2) (σ':=[QE,QD]) (by rw[E];exact Z1 _) J (λid q aW u=>by
      match id,aW,u with
      | 0,_,u=>simp at u;subst u;exact C.u9
      | 1,_,u=>simp at u;subst u;exact C.u7) rfl [(0,Rl L),(1,.ω [R n]),(9,R ((n:Int)+1)),(10,R i)] (by simp[Ul]) ?_
     refine Ζ aq ?_;refine W.to (aC (i+1) ⟨K,ab⟩ U) rfl ?_;simp[aq]
    | succ e=>
     have I:e<l.length:=U
     have bn:=am _ (Y2 I)
     have N:l.getD e 0=l[e]:=by simp[XJ,I]
     have aX:IntKind.i64.wrap ((n:Int)-i)=(n:Int)-i:=IntWalk.i64_in _ U
     have aY:IntKind.i64.wrap ((n:Int)-i+e)=(n:Int)-i+e:=IntWalk.i64_in _ U
     have ar:IntKind.i64.wrap ((e:Int)-1)=(e:Int)-1:=IntWalk.i64_in _ U
     have au:e<i:=U
     have aZ:((e+1:Nat):Int)-1=e:=U;rw[aZ];refine W0 (Τ I (Τ au (Τ f (Τ aX aY)))) ?_;by_cases u:l[e]+i=n+e
     .have O:Rs n l (e+1)=Rs n l e:=by rw[Rs,if_pos (by rw[N,f];exact u)]
      refine Γ (by simp;omega) ?_;refine Ζ ar ?_;refine W.to (aU e ⟨U,by rw[ap,O]⟩ U) rfl ?_;simp[ar]
     .have O:Rs n l (e+1)=some e:=by rw[Rs,if_neg (by rw[N,f];exact u)]
      refine Η (by simp;omega) ?_;refine W.exit rfl ?_;refine Χ ?_;refine Η J ?_;obtain⟨a,b,af,bo,a0,a1⟩:∃a b,Rr n l=some a/\g=b+1/\y=TH n b a++VY n (i+1)/\Rq n b a=true:=by
       rcases ak with⟨h,_⟩|h
       .rw[ae,O] at h;cases h
       .exact h
      have av:a=TI l e (i-e):=by
       rw[ae,O] at af;simp at af;rw[<-af,f]
      have a2:IntKind.i64.wrap ((l[e]:Int)+1)=(l[e]:Int)+1:=IntWalk.i64_in _ U
      have aw:IntKind.i64.wrap ((e:Int)+1)=(e:Int)+1:=IntWalk.i64_in _ U;refine Ζ (Τ I (Τ au (Τ f (Τ a2 aw)))) ?_;refine W.iter (λp:Nat=>e+1<=p/\p<=i) (λp=>[(0,Rl L),(1,.ω [R n]),(9,R ((n:Int)+1)),(10,R i),(3,R i),(4,.ms 2 i 0 i),(7,R p)]) (λp=>[QE,QD,Ym (TI l e (p-e))]) (λp=>i-p) (e+1) ⟨Z1 _,U⟩ (by
       have:e+1-e=1:=U;rw[this,wV I];simp) (by simp[aw]) (λp s a3=>?_)
      obtain⟨bp,bq⟩:=s;refine Χ ?_;by_cases ax:p<i
      .refine Γ (by simp[ax]) ?_;obtain⟨q,br⟩:=Ι (p-1);obtain⟨w,P⟩:=Ι (TI l e (p-e));have a4:w.length=i:=by rw[P,DD U,f]
       have ay:q<w.length:=U
       have a5:p<w.length:=U
       have a6:q<i:=U
       have a7:w[q]=l[e]+(p-e):=by
        have:=wU (l:=l) (i:=e) (k:=p-e) U U
        have F:e+(p-e)-1=q:=U;rw[F,<-P,N] at this;simpa[XJ,ay] using this
       have a8:w.set p (w[q]+1)=TI l e (p+1-e):=by
        have:=wT (l:=l) (i:=e) (k:=p-e) U
        have F:e+(p-e)=p:=U
        have Φ:p-e+1=p+1-e:=U;rw[F,Φ,<-P,N,<-a7] at this;exact this
       have bs:w[q]<100:=U
       have a9:IntKind.i64.wrap ((p:Int)-1)=(q:Int):=by rw[IntWalk.i64_in _ U];omega
       have a':IntKind.i64.wrap ((w[q]:Int)+1)=(w[q]:Int)+1:=IntWalk.i64_in _ U
       have az:IntKind.i64.wrap ((p:Int)+1)=(p:Int)+1:=IntWalk.i64_in _ U;rw[<-P];refine Ζ (Τ a9 (Τ ay (Τ a5 (Τ a6 (Τ ax (Τ a4 (Τ a' az))))))) ?_;refine W.to (a3 (p+1) ⟨U,U⟩ U) ?_ ?_
       .rw[<-a8];simp
       .simp[az]
      .have ba:p=i:=U
       subst ba;refine Η J ?_;refine W.exit rfl ?_
       repeat apply Ξ
       refine W.to (aJ (b,a) ⟨a1,by rw[av,DD U,f],by rw[<-a0];exact ab⟩ (by show b<g;omega)) (by rw[av]) ?_;simp
   .rw[V6 rfl];have ad:YS XE [] [] [(27,.z (.bool false))] (t.setIfInBounds 27 (.bool false)):=λj=>by
     simp only[Z7];split
     .rename_i e;subst e;have:(t.setIfInBounds 27 (Value.bool false)).getD 27 undef=.bool false:=by
       have bb:27<t.size:=by rw[s.size];omega
       simp[WU,bb]
      rw[this];exact .z _
     .exact .Zk _
    refine V.here (m:=0) (nt:=72) (S:=XE) (B:=[]) (σ:=[]) (env:=[(27,.z (.bool false))]) ?_ ⟨M3 H',ad,XB (T9 ..) s.size,Ε _⟩;refine V.XS v rfl ?_;refine Xy [3] [] ?_;refine W.ZC ?_;refine Γ rfl ?_;refine W.stop ?_;refine V.Hg v rfl rfl rfl rfl func126 rfl λbc bd be bf bg=>?_;obtain rfl:bd=[]:=YP.1 bg.len;exact aS bc be bf.ext
 .have bh:c=n+1:=U
  subst bh;refine Η J ?_;refine W.exit rfl ?_;refine W.stop ?_;intro S B H t M s Z aa;rw[wZ] at T;refine ν.Qm v rfl rfl (ν.back v rfl rfl (.inl rfl) func126 ?_);rw[results_none rfl];rw[E] at M;exact Ω.pure' (C.done T S B H M s.holds Z aa)
end
theorem CX (n:Nat):Κ prog 83 [R n] (.fn (.func 126) [] [.ω [R n]]):=by
 refine Μ.body Υ func83 rfl rfl ntmps83 rfl rfl J ?_;refine Χ ?_;refine W.rt ?_;exact .refl _
theorem Ext.IT {S:ο} {B:Z8} {H:Ψ} {r:Nat} {y:Obj} (a:H.fresh r):Ext S B H S B (H.ZX r y):=
 ⟨λ_ _ _ h=>h,λb _ c=>by
  have:b≠r:=λe=>c (e▸a);exact Tc.of ⟨λ_=>rfl,rfl,by simp[Ψ.ZX,this]⟩,λb h=>.inl h,λb o v h=>.inl h,Ψ.H5⟩
theorem Holds.IS {S:ο} {B:Z8} {σ:Ρ} {H:Ψ} (c:Holds S B σ H) (f:∀r∈σ,N6 r) {b:Nat} (g:H.fresh b):¬B.has b:=λ⟨N,h⟩=>by
 obtain⟨id,d⟩:=Su h;have i:id<σ.length:=by rw[<-c.len];exact(Zu.1 d).1
 have a:=ε i;obtain⟨t,k,l,e⟩:=f _ (Zf a);rw[e] at a;exact c.SQ a trivial d g
def OY (s:υ) (F:List Found) (a:Int) (b:Bool):List Int×Int:=
 if(SF s a F).2.2≠0 then([],(SF s a F).2.2)
 else match (VY s.Β.length 0).find? (QQ s F a.toNat b) with
 | some l=>(l.map λn:Nat=>(n:Int),0)
 | none=>([],11)
abbrev SC:Row:=.cells 29 1 [.sl true 0 []]
abbrev SB:Row:=.cells 38 1 [R 0]
abbrev MW (s:υ) (F:List Found) (a:Int) (b:Bool):Δ:=[(3,Z9 s),(4,.ω [R a]),(5,.ω [ZU b]),(6,.Ο 0 1 0 0),(7,.Ο 1 1 0 0),(8,Z9 s),(9,.ω [YW F])]
section
variable {Q:Value->Prop} {mn:Bool} {x:W6} {c:Frame} {rest:List Frame} {OZ S:ο} {B:Z8} {Rm H:Ψ} {σ:Ρ} {res:List Int×Int} {l:List Int} {MV:Int} {e:Bool} {kk:Nat} {b:Frame} {t:Array Value} {k:List Item} {env:Δ}
theorem CW (n:Seq x) (p:Po prog Q mn x c rest OZ [] Rm [] (λa s=>Zi a (.ZV [ζ R 1 res.1,R res.2])/\s=[]) (λ_ _=>False)) (t:b.fn=28) (u:b.kind=.normal) (w:b.defers=[]) (y:b.mode=.returning)
  (A:Ext OZ [] Rm S B H) (C:Holds S B σ H) (D:YS S B σ env b.tmps) (E:Z7 env 6=.Ο 0 1 0 0) (F:Z7 env 7=.Ο 1 1 0 0) (I:σ[0]?=some (.cells 29 1 [.sl e kk (l.map R)])) (K:σ[1]?=some (.cells 38 1 [R MV])) (L:res=(l,MV)) (M:l≠[]->kk=1):ν prog Q mn x b (c::rest) H:=by
 subst L;refine ν.back n y w (.inl u) (fn:=f28) (by rw[t];exact func28) ?_;refine Ω.mono (λv f ⟨g,i,N,W,O,P⟩=>?_) (λ_ _ h=>h) _ (LX Υ (a:=.ZV [.sl e kk (l.map R),R MV]) (show SJ ZW [.cell 6 29,.cell 7 38] env σ=some (.ZV [.sl e kk (l.map R),R MV]) by simp[SJ,QX,No,E,F,I,K,Qc,Wi.agg,LY]) C D);obtain⟨j,d⟩:=O.close (h:=0) (λid r X=>U);simp only[List.take_zero] at j d;have T:ς (g.close i σ f 0) [] [] (.ZV [.sl e kk (l.map R),R MV]) v:=by
  have V:ψ 0 (.ZV [.sl e kk (l.map R),R MV]):=J
  have:=(P.later (Zw.refl g i σ)).any V [] [];exact this.later ⟨λb o v hv=>d.YL _ _ _ hv,λid r h=>by simp at h⟩
 have k:=A.trans (N.trans d);refine p.ret _ [] _ [] f v ⟨?_,rfl⟩ k ⟨k.YL,λid r h=>by simp at h⟩ j T;refine .ZV (.cons ?_ (.cons (.refl _) .nil));by_cases m:l=[]
 .subst m;exact .nil
 .rw[M m];exact .ex
end
noncomputable abbrev GL (vs:Array Value):Frame:=Frame.enter prog 28 vs .normal
theorem u2 {s:υ} {F:List Found} {a:Int} (h:(SF s a F).2.2=0):0<=a/\a<s.cells.length/\SF s a F=(s,F,0):=by
 unfold SF at h ⊢;split at h
 .rename_i b;simp at h;exact absurd h b
 .split at h
  .simp at h
  .rename_i b c;rw[if_neg b,if_neg c];refine⟨U,U,?_⟩;unfold Xl at h ⊢;rw[if_neg b] at h ⊢;split at h
   .simp at h
   .rename_i d;rw[if_neg d]
section
variable {Q:Value->Prop} {mn:Bool} {c:Frame} {rest:List Frame}
theorem u1 (s:υ) (aO:s.small) (F:List Found) (ba:Ry s F) (bb:Jo s F) (D:Int) (g:Bool) (aP:s.Β.length<=4) :
  Κ prog 28 [ZB s,R D,ZU g] (.ZV [ζ R 1 (OY s F D g).1,R (OY s F D g).2]):=by
 refine⟨⟨_,func28,rfl,rfl⟩,λQ mn x c rest al bc Z vs p aQ bd am=>?_⟩;obtain rfl:bc=[]:=YP.1 aQ.len;rw[SG (body:=f28.body.getD .skip) func28 rfl];refine V.here (x:=x) (m:=0) (nt:=35) (S:=al) (B:=[]) (H:=Z) (σ:=[]) (env:=entry 0 [ZB s,R D,ZU g]) ?_ (XA.enter aQ bd (Z1 _) J);refine V.XS p rfl ?_;simp only[f28,Option.getD_some]
 repeat apply Ξ
 refine Zj (A:=[6,7]) Υ λan E=>ZY ?_;apply E;refine Y1 ?_;refine Zj (A:=[8,9]) Υ λan E=>ZY ?_;refine Κ.d (x0 s aO D F ba) (ZY ?_);apply E;by_cases b:(SF s D F).2.2=0
 case neg=>
  have e:OY s F D g=([],(SF s D F).2.2):=by unfold OY;rw[if_pos b]
  rw[e] at am;generalize (SF s D F).2.2=ao at b am ⊢;refine Χ ?_;refine Γ (by simp[b]) ?_;refine Χ ?_;refine W.stop ?_;intro aa ab ad t5 C K;refine ν.ret p rfl rfl ?_;exact CW p am rfl rfl rfl rfl C.ext K.holds K.Zn rfl rfl rfl rfl rfl (λh=>absurd rfl h)
 obtain⟨b0,b1,e⟩:=u2 b;obtain⟨n,rfl⟩:∃n:Nat,D=n:=⟨D.toNat,U⟩;have be:n<s.cells.length:=U;have Φ:OY s F n g=match (VY s.Β.length 0).find? (QQ s F n g) with|some l=>(l.map λn:Nat=>(n:Int),0)|none=>([],11):=by
  unfold OY;rw[if_neg (by simpa using b)];rfl
 rw[e];refine W.fix (id:=3) (σ':=[SC,SB,.cells 98 3 [ZB s]]) (Ε _) rfl J (λid q aD j=>by
  match id,aD,j with
  | 0,_,j=>simp at j;subst j;simp[Yc,I.cells]
  | 1,_,j=>simp at j;subst j;simp[Yc,I.cells]
  | 2,_,j=>simp at j;subst j;simp[Yc,I.cells]) rfl [(3,Z9 s),(4,.ω [R n]),(5,.ω [ZU g]),(6,.Ο 0 1 0 0),(7,.Ο 1 1 0 0),(8,.Ο 2 1 0 0),(9,.ω [YW F]),(10,R 0)] (by simp[Xz]) ?_
 refine W.fix (id:=2) (σ':=[SC,SB]) (Ε _) rfl J (λid q aD j=>by
  match id,aD,j with
  | 0,_,j=>simp at j;subst j;simp[Yc,I.cells]
  | 1,_,j=>simp at j;subst j;simp[Yc,I.cells]) rfl ((10,R 0)::MW s F n g) (by simp[Xz]) ?_
 refine Χ ?_;refine Η rfl ?_;refine Χ ?_;refine ZP λan E=>?_;refine Κ.d (CX s.Β.length) (ZY ?_);apply E
 repeat apply Ξ
 refine W.forget ((25,.fn (.func 126) [] [.ω [R s.Β.length]])::MW s F n g) J ?_;refine W.stop ?_;intro T M ap t1 aq N;have aR:∀r∈[SC,SB],N6 r:=λr aS=>by
  simp only[Zm,YM,or_false] at aS;rcases aS with rfl|rfl<;>exact⟨_,_,_,rfl⟩
 have aE:=N.Zn 25;simp only[Z7,if_true] at aE;obtain⟨b2,aT⟩:=Ι (t1.getD 25 undef);rw[<-aT] at aE;cases aE with
 | fn w1 bf bg bh b3 bi=>
 have bj:w1=#[]:=MC (by rw[<-bg];rfl);subst bj;refine ν.rangeFunc p rfl rfl (fo:=.tmp 25) aT.symm ⟨_,func126,rfl,rfl⟩ λu L af X=>?_;have aF:¬M.has u:=N.holds.IS aR af;have ar:=N.holds.ZX (y:=.deferred (some [])) aF;have au:Ext T M ap T M (ap.ZX u (.deferred (some []))):=Ext.IT af;have ag:(ap.ZX u (.deferred (some []))).obj u=some (.deferred (some [])):=by simp[Ψ.ZX]
 have bk:Z.fresh u:=aq.ext.grow _ af
 have av:Z.fresh L:=aq.ext.grow _ (au.grow _ X);generalize b4:ap.ZX u (.deferred (some []))=aU at X ar au ag;have aw:u≠L:=λe=>by rw[e,X.2.2.1] at ag;cases ag
 have aV:¬M.has L:=ar.IS aR X
 have aW:∀(S:ο) (B:Z8) (H:Ψ) (σ:Ρ),X5 2 T M aU [SC,SB] S B H σ->Zw T S M B [SC,SB] σ:=λS B H σ w=>w.all ar J
 have aX:∀(O:Frame) (S:ο) (B:Z8) (H:Ψ) (σ:Ρ) (env:Δ) (l:List Int) (ao:Int) (e:Bool) (kk:Nat),O.fn=28->O.kind=.normal->O.mode=.returning->O.defers=[⟨.collected u,#[]⟩]->Ext al [] Z S B H->Holds S B σ H->¬B.has u->H.obj u=some (.deferred (some []))->
   YS S B σ env O.tmps->Z7 env 6=.Ο 0 1 0 0->Z7 env 7=.Ο 1 1 0 0->σ[0]?=some (.cells 29 1 [.sl e kk (l.map R)])->σ[1]?=some (.cells 38 1 [R ao])->OY s F n g=(l,ao)->(l≠[]->kk=1)->ν prog Q mn x O (c::rest) H:=
  λO S B H σ env l ao e kk Y P aY bl bm bn bo aZ bp bq br bs bt bu bv=>by
  refine ν.collected p aY bl aZ ?_;exact CW p am (b:={O with defers:=[]}) Y P rfl aY (bm.ZX bk ⟨_,aZ⟩) (bn.ZX bo) bp bq br bs bt bu bv
 rw[SG (body:=f126.body.getD .skip) func126 rfl];have bw:XT T M [SC,SB] ([Rl L]++[.ω [R s.Β.length]]) (#[.func (.yield L) #[] #[]]++bf):=by
  refine XT.append ⟨rfl,λi a v Y P=>?_⟩ ⟨bh,bi⟩
  match i with
  | 0=>simp at Y P;subst Y;subst P;exact .fn #[] #[] rfl rfl (λi a v hi=>by simp at hi) (λi a v hi=>by simp at hi)
  | i+1=>simp at Y
 refine CY (o:=⟨T,M,aU,[SC,SB],2⟩) (L:=L) (Fnd:=λa0=>(VY s.Β.length 0).find? (QQ s F n g)=a0.find? (QQ s F n g)) p (X1 aP Z0) ?_ rfl T M _ _ (X5.of (Ext.IT X) (Zw.refl ..)) (XA.enter (ar.ZX aV) bw (Z1 _) J) aV (by simp[Ψ.ZX];rfl);refine⟨rfl,by simp[Yc,I.cells],by simp[Yc,I.cells],rfl,λl a0 ax bx bz S B H a1 b5 w ay aG az hv bA bB=>?_,λax S B H w ay aG az=>?_⟩
 .obtain⟨aH,aI⟩:=VG w.ext aF ag;have bC:=aW _ _ _ _ w;have aA:=N.Zn.later bC;have bD:Ext al [] Z S B H:=aq.ext.trans (au.trans w.ext);obtain⟨w0,rfl⟩:∃w0,a1=#[w0]:=by
   have af:=hv.1;clear hv;obtain⟨bE⟩:=a1
   match bE,af with
   | [w0],_=>exact⟨w0,rfl⟩
  have bF:((#[26]:Array Tmp).zip #[w0]).foldl (λaJ (t,a)=>aJ.setIfInBounds t a) t1=t1.setIfInBounds 26 w0:=J;change ν prog Q mn x (Frame.round L 28 (((#[26]:Array Tmp).zip #[w0]).foldl (λaJ (t,a)=>aJ.setIfInBounds t a) t1) _ _ .normal) _ _;rw[bF];have bG:ς S B [SC,SB,Ym l] (.ms 2 l.length 0 l.length) w0:=hv.2 0 _ _ rfl rfl;have bH:l.length<2 ^ 30:=U;have bI:YS S B [SC,SB,Ym l] ((26,.ms 2 l.length 0 l.length)::MW s F n g) (t1.setIfInBounds 26 w0):=QG (YS.put aA (d:=26) (by rw[N.size];omega) bG) J;refine V.here (b:=Frame.round L 28 t1 .skip .skip .normal) (t:=t1.setIfInBounds 26 w0) (m:=3) (nt:=35) (S:=S) (B:=B) (H:=H) (σ:=[SC,SB,Ym l]) (env:=(26,.ms 2 l.length 0 l.length)::MW s F n g) ?_ ⟨ay,bI,XB (T9 ..) N.size,Z1 _⟩;refine V.XS p rfl ?_;refine Χ ?_;refine W.stop ?_;intro bJ bK aK t3 ah ae;obtain⟨ai,aL⟩:=VG ah.ext aG az;obtain⟨bL,bM⟩:=VG ah.ext aH aI;refine ν.beginRound p rfl rfl aL rfl ?_;refine V.here (b:=Frame.round L 28 t1 .skip .skip .normal) (m:=3) (nt:=35) ?_ ⟨ae.holds.ZX ai,ae.Zn,ae.size,ae.rows⟩;refine V.XS p rfl ?_;refine ZP λan E=>?_;have a2:ψ 0 (ZB s):=J;have a3:ψ 0 (YW F):=J;have aB:V4 (Ym l):=QW (f:=λn:Nat=>R n) λx=>by simp[I.cells]
  refine Μ.one (as0:=[ZB s,YW F,R n,ZU g,.ms 0 l.length 0 l.length]) (xi s aO F bb n be g l (X1 bx aP) bz) 2 rfl aB aB (λa w=>by
   simp only[Zm,YM,or_false] at w;rcases w with rfl|rfl|rfl|rfl|rfl
   .exact a2.WA 1
   .exact a3.WA 1
   .exact(ψ.z _).WA 1
   .exact(ψ.z _).WA 1
   .exact TS.2 U) ((ψ.z _).WA 1) (by simp[TR,TQ,a2.Yk [2],a3.Yk [2]]) ?_
  simp[TQ];(repeat (rw[Ν];simp));apply E;have aM:Zw S bJ B bK [SC,SB,Ym l] [SC,SB,Ym l]:=ah.all ay (Z1 _);have bN:=λy=>(w.ext.trans ah.ext).ZX X (y:=y) ⟨_,aL⟩;have bO:=λy=>(bD.trans ah.ext).ZX av (y:=y) ⟨_,aL⟩;cases a4:QQ s F n g l
  .refine Η rfl ?_
   repeat apply Ξ
   refine W.stop ?_;intro aa ab ad t5 C K;obtain⟨aj,ak⟩:=VG C.ext ai (show(aK.ZX L _).obj L=some (.loop _) by simp[Ψ.ZX];rfl);have aC:=C.all (ae.holds.ZX ai) (Z1 _);refine ν.endRound p rfl rfl rfl ak (jump:=none) (.inl ⟨rfl,rfl⟩) (bA (by rw[ax,List.find?_cons,a4]) aa ab _ ⟨((bN _).trans C.ext).ZX X ⟨_,ak⟩,?_⟩ (aM.trans aC) (K.holds.ZX aj) aj (by simp[Ψ.ZX]));exact w.later.trans (aM.trans aC)
  .refine Γ rfl ?_;obtain⟨z,aN⟩:=Ι (l.map λn:Nat=>(n:Int));have bP:Ym l=.cells 3 1 (z.map R):=by rw[aN,Sq];rfl
   have a5:z.length=l.length:=by rw[aN,Yp]
   have a6:=xo z (by rw[a5];exact bH);rw[a5,<-bP] at a6;have a7:∀(e:Bool) (k:Nat),ψ 0 (.sl e k (z.map R)):=λe k=>J;refine ZP λan E=>?_;refine Μ.Hu (as0:=[.ms 0 l.length 0 l.length]) a6 2 rfl aB (by simp[TS]) (by simp[TR]) (λa b6 bQ=>?_);obtain⟨⟨e,kk,rfl,bR⟩,rfl⟩:=bQ;refine⟨Ym l,rfl,aB,(a7 e kk).WA 1,?_⟩;rw[(a7 e kk).Yk [2]];simp;(repeat (rw[Ν];simp));apply E;refine W.stop ?_;intro aa ab ad t5 C K;obtain⟨aj,ak⟩:=VG C.ext ai (show(aK.ZX L _).obj L=some (.loop _) by simp[Ψ.ZX];rfl);obtain⟨a8,bS⟩:=VG C.ext bL (show(aK.ZX L _).obj u=some (.deferred (some [])) by simp[Ψ.ZX,aw,bM]);have aC:=C.all (ae.holds.ZX ai) (Z1 _);refine ν.endRound p rfl rfl rfl ak (jump:=some .ret) (.inr (.inl ⟨rfl,_,rfl⟩)) (bB _ λb7 b8 a9=>?_);obtain⟨Y,P⟩:=(K.holds.ZX (y:=.loop _) aj).RG (λb bT=>a9.RG bT) a9.grow;obtain⟨bU,a'⟩:=VG P aj (show(ad.ZX L _).obj L=some (.loop _) by simp[Ψ.ZX];rfl);obtain⟨_,bV⟩:=VG P a8 (show(ad.ZX L _).obj u=some (.deferred (some [])) by simp[Ψ.ZX,aw,bS]);refine ν.Jn (b:={GL vs with defers:=[⟨.collected u,#[]⟩]}) (t:=t1) p rfl a' J ?_;refine ν.ret (b:={GL vs with defers:=[⟨.collected u,#[]⟩]}) p rfl rfl ?_;refine aX _ aa ab _ _ (MW s F n g) z 0 e kk rfl rfl rfl rfl ((((((bO _).trans C.ext).ZX av ⟨_,ak⟩)).trans P).ZX av ⟨_,a'⟩) (Y.ZX bU) a8 (by simp[Ψ.ZX,aw,bV]) (QG ((aA.later (aM.trans aC))) J) rfl rfl rfl rfl ?_ bR;rw[Φ,ax,List.find?_cons,a4,aN]
 .obtain⟨aH,aI⟩:=VG w.ext aF ag;have aA:=N.Zn.later (aW _ _ _ _ w);have bW:Ext al [] Z S B H:=aq.ext.trans (au.trans w.ext);refine ν.Jn (b:={GL vs with defers:=[⟨.collected u,#[]⟩]}) (t:=t1) p rfl az J ?_;refine V.here (m:=0) (nt:=35) (S:=S) (B:=B) (σ:=[SC,SB]) (env:=MW s F n g) ?_ ⟨ay.ZX aG,QG aA J,N.size,Ε _⟩;refine V.XS p rfl ?_;simp only[Option.map_none,Option.toList_none,List.nil_append];refine Χ ?_;refine W.stop ?_;intro aa ab ad t5 C K;have bX:∀y,(H.ZX L y).obj u=some (.deferred (some [])):=λy=>by simp[Ψ.ZX,aw,aI]
  obtain⟨bY,bZ⟩:=VG C.ext aH (bX _);refine ν.ret p rfl rfl ?_;refine aX _ aa ab ad _ _ [] 11 true 0 rfl rfl rfl rfl ((bW.ZX av ⟨_,az⟩).trans C.ext) K.holds bY bZ K.Zn rfl rfl rfl rfl ?_ (λh=>absurd rfl h);rw[Φ,ax];rfl
end
end Go.TL
namespace Go.TL
open Go.Proofs.Tryz
open Go.Proofs
variable [ZN]
def Xx:υ:=⟨[⟨⟨#[98]⟩,9⟩,⟨⟨#[99]⟩,4⟩,⟨⟨#[100]⟩,6⟩,⟨⟨#[105]⟩,48⟩,⟨⟨#[111]⟩,12⟩],[[1,2],[0],[0,1,2]],[[⟨0,4,59⟩,⟨1,8,3⟩],[⟨0,0,63⟩,⟨1,4,8⟩]]⟩
theorem Lo:Κ prog 72 [] (ZB Xx):=by
 refine Μ.body Υ func72 rfl rfl ntmps72 rfl rfl J ?_
 repeat apply Ξ
 refine Zj (A:=[0]) Υ λb a=>ZY ?_;apply a
 repeat apply Ξ
 refine ZP λb a=>?_;apply a;refine W.fix (id:=0) (σ':=[]) (Ε _) rfl J J rfl [(0,.ω [.sl true 2 [X9 ⟨⟨#[98]⟩,9⟩,X9 ⟨⟨#[99]⟩,4⟩,X9 ⟨⟨#[100]⟩,6⟩,X9 ⟨⟨#[105]⟩,48⟩,X9 ⟨⟨#[111]⟩,12⟩],.sl true 1 [ZE [1,2],ZE [0],ZE [0,1,2]],.sl true 1 [.sl true 3 [Z2 ⟨0,4,59⟩,Z2 ⟨1,8,3⟩],.sl true 3 [Z2 ⟨0,0,63⟩,Z2 ⟨1,4,8⟩]]])] J ?_;refine W.rt ?_;refine .Z' (.cons .ex (.cons ?_ (.cons ?_ .nil)))
 .exact .map (l:=[[1,2],[0],[0,1,2]]) (f:=ZE) λx _=>.one .ex rfl rfl
 .exact .map (l:=[[⟨0,4,59⟩,⟨1,8,3⟩],[⟨0,0,63⟩,⟨1,4,8⟩]]) (f:=λl:List ZF=>.sl true 3 (l.map Z2)) λx _=>.one .ex rfl rfl
end Go.TL
namespace Go.TL
open Go.Proofs.Tryz
open Go.Conc Go.Proofs
open Go.ConcN (sumTo upd sumTo_upd upd_ne upd_same sumTo_congr le_sumTo)
variable [ZN]
section
variable {P:Program} {Q:Value->Prop} {mn:Bool} {y:ZZ} {f f' b:Frame} {cs cs':List Frame} {H:Ψ} {t:Array Value} {k:List Item} {ops:Array Oper} {i:Nat} {rest:List Nat} {op:Oper}
theorem Zb.quiet (a:XQ y) (b:∀w,stepG P mn (Go.Conc.G f cs) w=.go (Go.Conc.G f' cs') w #[]) (h:Zb P Q mn y f' cs' H):Zb P Q mn y f cs H:=
 Quiet.goes (.cons ⟨rfl,rfl⟩ b (.nil _)) a ⟨rfl,rfl⟩ h
theorem Zb.next (a:XQ y) (d:b.mode=.run) {id:Nat} {e:Array Oper} {c:Code} (h:Zb P Q mn y (π b t (.inRegion e (List.range e.size)::.code c::k)) cs H):Zb P Q mn y (π b t (.inRegion ops []::.code (.seq (.region id e false) c)::k)) cs H:=
 .quiet a (λw=>(Vy d w).trans rfl) (.quiet a (λw=>(Vy d w).trans rfl) (.quiet a (λw=>(Vy d w).trans rfl) h))
theorem uZ {a:TypeId} {b:TypeInfo} {z:Value} (hi:P.info? a=some b) (c:b.zero=some z) (w:World) :
  (Instr.alloc a true (.tuple #[])).run P w=.ok (ptr w.heap.size 0) (w.alloc (.cells z.cells a (0,0)))/\∀es,(Instr.alloc a true (.tuple #[])).events P w es=es:=by
 constructor
 .simp[Instr.alloc,zeroValue,typeInfo,newVar,newRow,hi,c,Result.andThen]
 .intro es;simp[Instr.alloc,zeroValue,typeInfo,newVar,newRow,hi,c,Result.andThen,Result.evThen]
theorem Zb.GK {d:TypeId} {m:TypeInfo} {z:Value} (D:y.rel=false) (f:TK b ops i op) (E:op.op=.alloc d) (F:op.guard=none) (hi:P.info? d=some m) (I:m.zero=some z)
  (h:∀r,H.fresh r->(∀c v,y.Z5 c=some v->c<r)->Zb P Q mn {y with Z5:=upd y.Z5 r (some (z.cells,d))} (π b (put op t (ptr r 0)) (.inRegion ops rest::k)) cs H):Zb P Q mn y (π b t (.inRegion ops (i::rest)::k)) cs H:=by
 refine Goes.step (XQ.ok (.inl D)) (.inr ⟨⟨rfl,rfl⟩,.inl λw n hv=>?_⟩);obtain⟨s,J⟩:=uZ (P:=P) hi I w;have K:Region.wanted op (yielded ops t)=true:=by unfold Region.wanted;rw[F]
 have L:stepG P mn (Go.Conc.G (π b t (.inRegion ops (i::rest)::k)) cs) w=.go (Go.Conc.G (π b (put op t (ptr w.heap.size 0)) (.inRegion ops rest::k)) cs) (w.alloc (.cells z.cells d (0,0))) #[]:=by
  have e:execOp (ZM t) op=(do pure (.value (<-Instr.alloc d true (.tuple #[])))):=by unfold execOp;rw[E]
  rw[W' f.run f.ro,W' f.run f.ro,<-O7];have M:(execOp (⟨t,b.defers⟩:_root_.Go.Act).eval op).run P w=.ok (.value (ptr w.heap.size 0)) (w.alloc (.cells z.cells d (0,0))):=by rw[Ug,e];simp[s,Result.andThen]
  have g:(execOp (⟨t,b.defers⟩:_root_.Go.Act).eval op).events P w #[]=#[]:=by rw[Ug,e];simp[s,J,Result.evThen]
  rw[stepG_value f.op K f.kd M];unfold listed;rw[g,seen_none]
 rw[L];have u:=(Yo.start n).row z.cells d;have j:Ψ.fresh H w.heap.size:=n.fresh;have N:Sub H (H.YB w.heap.size z.cells d):=by
  refine⟨λc o v p a=>⟨p,?_,id⟩,λc x a=>?_,λc x a=>a⟩
  .have:c≠w.heap.size:=λe=>by rw[e,j.1 o] at a;cases a
   simpa[Ψ.YB,this] using a
  .have:c≠w.heap.size:=λe=>by rw[e,j.2.1] at a;cases a
   simpa[Ψ.YB,this] using a
 have A:∀c v,y.Z5 c=some v->c<w.heap.size:=λc v a=>by
  have:=hv c v.1 v.2 a;exact(T'.1 this).1
 refine⟨H,upd y.Z5 w.heap.size (some (z.cells,d)),⟨rfl,rfl⟩,u.keeps,N.fits u.fit,λc c' t' a=>?_,⟨λc o v p a=>.inr ⟨v,p,a,id⟩,λc a=>.inr a⟩,λc c' a=>?_,λe g=>by simp at g,λc c' _ _ e g=>by simp at g,h _ j A⟩
 .by_cases e:c=w.heap.size
  .subst e;rw[upd_same] at a;cases a;exact Ku
  .rw[upd_ne _ _ e] at a;have B:=hv c c' t' a;have C:=A c _ a;show(w.heap.push _)[c]?=_;rw[Array.getElem?_push_lt C];rw[XI C] at B;exact B
 .by_cases e:c=w.heap.size
  .exact .inr ⟨Nat.le_of_eq e.symm,⟨λo ⟨x,l⟩=>(by rw[e,j.1 o] at l;cases l),λ⟨x,l⟩=>(by rw[e,j.2.2.1] at l;cases l)⟩⟩
  .rw[upd_ne _ _ e] at a;exact .inl a
theorem uY {B:Type} {s:Nat}:upd (λ_=>(none:Option B)) s none=λ_=>none:=by
 funext i
 by_cases e:i=s
 .subst e;exact upd_same ..
 .exact upd_ne _ _ e
theorem Zb.group {sp:Spec} {s m o:Nat} {k l g:TypeId} {c:Array Value} (n:y.rel=false) (D:y.Z5=λ_=>none) (E:m<s) (F:s<o) (t:sp.ZO=some m) (j:H.fresh o) (I:sp.XV [] (Ψ.empty.YB o c g))
  (h:Zb P Q mn {y with tok:=upd y.tok s (.par 0 0 .add),spec:=upd y.spec s (some sp),view:=upd y.view s none} f cs H) :
  Zb P Q mn {y with Z5:=upd (upd (upd y.Z5 m (some (#[.int .i32 0,.int .u32 0],l))) s (some (#[.int .u64 0,.int .u32 0],k))) o (some (c,g))} f cs H:=by
 have u:s≠o:=Nat.ne_of_lt F
 have w:m≠o:=U
 have A:m≠s:=Nat.ne_of_lt E;refine Goes.step (XQ.ok (.inl n)) (.inr ⟨⟨rfl,rfl⟩,.inr (.inr (.inr (.inr (.inr (.inr (.inr (.inr (.inr (.inr (.inl ⟨o,c,g,upd_same ..,?_⟩))))))))))⟩);refine Goes.step (XQ.ok (.inl n)) (.inr ⟨⟨rfl,rfl⟩,.inr (.inr (.inr (.inr (.inr (.inr (.inr (.inr (.inr (.inr (.inr ⟨s,sp,k,H,Ψ.empty.YB o c g,?_,λK B=>?_,n,?_,λ_=>I,?_⟩))))))))))⟩)
 .show upd (upd _ o _) o none s=_;rw[upd_ne _ _ u,upd_ne _ _ u,upd_same]
 .rw[t] at B;cases B;refine⟨A,l,?_⟩;show upd (upd _ o _) o none m=_;rw[upd_ne _ _ w,upd_ne _ _ w,upd_ne _ _ A,upd_same]
 .refine⟨⟨λa q v p b=>⟨p,?_,id⟩,λa x b=>?_,λa x b=>b⟩,⟨λa q v p b=>⟨p,?_,id⟩,λa x b=>?_,λa x b=>(by cases b)⟩,⟨λa q ⟨v,hv⟩ ⟨x,d⟩=>?_,λa q ⟨v,hv⟩ ⟨x,d⟩=>?_,λa _ ⟨x,d⟩=>(by cases d)⟩⟩
  .have:a≠o:=λe=>by rw[e,j.1 q] at b;cases b
   simpa[this] using b
  .have:a≠o:=λe=>by rw[e,j.2.1] at b;cases b
   simpa[this] using b
  .by_cases e:a=o
   .simpa[Ψ.YB,e] using b
   .simp[Ψ.YB,e,Ψ.empty] at b
  .by_cases e:a=o
   .simpa[Ψ.YB,e] using b
   .simp[Ψ.YB,e,Ψ.empty] at b
  .by_cases e:a=o
   .rw[e,j.1 q] at hv;cases hv
   .simp[Ψ.YB,e,Ψ.empty] at d
  .by_cases e:a=o
   .rw[e,j.1 q] at d;cases d
   .simp[Ψ.YB,e,Ψ.empty] at hv
 .have e:(λa=>if a=s\/sp.ZO=some a then none else upd (upd (upd (upd y.Z5 m (some (#[.int .i32 0,.int .u32 0],l))) s (some (#[.int .u64 0,.int .u32 0],k))) o (some (c,g))) o none a)=y.Z5:=by
   funext a
   rw[D];by_cases i:a=s\/sp.ZO=some a
   .rw[if_pos i]
   .rw[if_neg i];rw[t] at i;have Φ:a≠s:=λe=>i (.inl e);have J:a≠m:=λe=>i (.inr (by rw[e]));by_cases r:a=o
    .rw[r,upd_same]
    .rw[upd_ne _ _ r,upd_ne _ _ r,upd_ne _ _ Φ,upd_ne _ _ J]
  have C:Goes P Q mn (Go.Conc.G f cs) {y with G:=H,Z5:=y.Z5,tok:=upd y.tok s (.par 0 0 .add),spec:=upd y.spec s (some sp),view:=upd y.view s none}:=h;rw[<-e] at C;exact C
theorem Zb.H7 {s n p:Nat} {sp:Spec} {g:FuncId} {d:Array Value} (f:y.rel=false) (h:y.deaf=0) (j:y.spec s=some sp) (l:y.tok s=.par n (p+1) .add) (c:TK b ops i op) (m:op.guard=none) {fo:Operand} {o:Array TypeId} (r:op.op=.go ⟨.value fo,#[],o⟩) (u:op.dst=none)
  (hv:ZM t fo=.func (.func g) #[] d) {S:ο} (v:Holds S [] [] H) (x:Zb P Q mn {y with tok:=upd y.tok s (.par n p .add),view:=upd y.view s none} (π b t (.inRegion ops rest::k)) cs (QH S H))
  (A:Goes P Q false (born P ⟨.fn (.func g) d,#[]⟩) {ZJ (Ud s sp) s (.ch (n-(p+1)) .idle .work) none 0 with G:=TB S}):Zb P Q mn y (π b t (.inRegion ops (i::rest)::k)) cs H:=by
 have B:Region.wanted op (yielded ops t)=true:=by unfold Region.wanted;rw[m]
 have C:∀w,stepG P mn (Go.Conc.G (π b t (.inRegion ops (i::rest)::k)) cs) w=.spawn (Go.Conc.G (π b t (.inRegion ops rest::k)) cs) (born P ⟨.fn (.func g) d,#[]⟩) w #[]:=λw=>by
  have e:execOp (ZM t) op=(do pure (.spawn (<-Deferred.ofValue (ZM t fo) (#[].map (ZM t))))):=by unfold execOp;rw[r];rfl
  rw[W' c.run c.ro,W' c.run c.ro];have D:(execOp (⟨t,b.defers⟩:_root_.Go.Act).eval op).run P w=.ok (.spawn ⟨.fn (.func g) d,#[]⟩) w:=by rw[Ug,e,hv];simp[Deferred.ofValue,Result.andThen]
  have E:(execOp (⟨t,b.defers⟩:_root_.Go.Act).eval op).events P w #[]=#[]:=by rw[Ug,e,hv];simp[Deferred.ofValue,Result.andThen,Result.evThen]
  rw[stepG_spawn (a:=⟨t,b.defers⟩) c.op B c.kd D rfl];have:(⟨t,b.defers⟩:_root_.Go.Act).put op.dst undef=⟨t,b.defers⟩:=by rw[u];rfl
  rw[this];unfold listed;rw[E,seen_none]
 refine Goes.step (XQ.ok (.inl f)) (.inr ⟨⟨rfl,rfl⟩,.inr (.inr (.inr (.inr (.inr (.inr (.inr (.inr (.inl ⟨s,sp,n,p,Go.Conc.G (π b t (.inRegion ops rest::k)) cs,born P ⟨.fn (.func g) d,#[]⟩,QH S H,TB S,j,l,h,⟨rfl,rfl⟩,⟨rfl,rfl⟩,f,λw _=>C w,vq v,x,?_⟩))))))))⟩);have e:({ZJ (Ud s sp) s (.ch (n-(p+1)) .idle .work) none 0 with G:=TB S}:ZZ)=⟨TB S,λ_=>none,upd (λ_=>.nil) s (.ch (n-(p+1)) .idle .work),upd (λ_=>none) s (some sp),λ_=>none,0,false⟩:=by
  unfold ZJ;simp only[uY]
 rw[<-e];exact A
end
end Go.TL
namespace Go.TL
open Go.Proofs.Tryz
open Go.Conc Go.Proofs
open Go.ConcN (sumTo upd sumTo_upd upd_ne upd_same sumTo_congr le_sumTo)
noncomputable def MU:Code:=f116.body.getD .skip
noncomputable def CV:Code:=Yr [1,1,1,1,0,1,0,0,1,1,0,0,1,1,0,0,1,1,0,0,1] MU
noncomputable abbrev IQ (vs:Array Value):Frame:=Frame.enter prog 116 vs .normal
abbrev env0 (s m o:Nat) (a:υ) (rest:Δ):Δ:=(5,.z (ptr o 0))::(4,.z (ptr s 0))::(3,.z (ptr m 0))::(1,Z9 a)::rest
abbrev MT (s m o:Nat) (c:υ) (a b:Int) (rest:Δ):Δ:=(7,.ω [R b])::(6,.ω [R a])::env0 s m o c rest
structure IP (a:υ) (fd:Nat->Option Found) (pr:Nat->Int×Int) (F:Nat->Found) (N:Nat->Nat):Prop where
 look:∀k,k<3->∀c:ZN,@Κ c prog 143 [ZB a,Zh (pr k)] (YK (F k))
 many:∀k,k<3->∀c:ZN,@Κ c prog 78 [YK (F k),R (-1)] (R (N k))
 fd:∀k,fd k=if k<3/\0<N k then some (F k) else none
theorem IP.Rw {a:υ} {fd:Nat->Option Found} {pr:Nat->Int×Int} {F:Nat->Found} {N:Nat->Nat} (h:IP a fd pr F N) (L:List Nat) (b:L.Nodup):(L.filterMap fd).length<=3:=by
 have c:L.filterMap fd=(L.filter (· < 3)).filterMap fd:=by
  rw[List.filterMap_filter];congr 1
  funext k
  by_cases e:k<3
  .simp[e]
  .simp[e,h.fd k]
 rw[c];refine X1 (K6 ..) ?_;have d:(L.filter (· < 3)).Nodup:=b.filter _;exact Fy 3 _ d λk f=>by simpa using (Ss.1 f).2
variable [ZN]
theorem V.boxed {P:Program} {p:Value->Prop} {mn:Bool} {z:W6} {b:Frame} {cs:List Frame} {nt:Nat} {o:Base} {k:List Item} {env:Δ} {σ:Ρ} {ops:Array Oper} {i:Nat} {rest:List Nat} {g:Oper}
  (x:Seq z) (y:b.mode=.run) (A:b.roundOf=none) (C:ops[i]?=some g) (D:g.guard=none) {f:TypeId} {d:Operand} (E:g.op=.box f d) {l:ξ} (F:η env d=.Z' l) (J:l.all (I.YG [])=true) (K:0<l.length)
  (h:∀(S:ο) (B:Z8) (H:Ψ) (t:Array Value) (r:Nat) (c:Array Value),X5 o.m o.S o.B o.H o.σ S B H σ->XA o.m nt S B H σ env t->H.fresh r->(∃v,(S.lay r c) r 0=some v)->Zw S (S.lay r c) B B σ σ->Ext S B H (S.lay r c) B (H.YB r c f)->Holds (S.lay r c) B σ (H.YB r c f)->ς (S.lay r c) B σ (.ω l) (ptr r 0)->
   ν P p mn z (π b (put g t (ptr r 0)) (.inRegion ops rest::k)) cs (H.YB r c f)):V P p mn z b cs nt o (.inRegion ops (i::rest)::k) env σ:=by
 intro S B H t L j;refine .op x y C (by unfold Region.wanted;rw[D]) (.inl A) ?_;have e:execOp (ZM t) g=(do pure (.value (<-Instr.box f (ZM t d)))):=by unfold execOp;rw[E]
 have n:=Un j.Zn d;rw[F] at n;rw[e];refine Ω.bind' ?_;unfold Instr.box;refine Ω.bind' ?_;unfold newVar newRow;have s:=Nx (σ:=σ) J;have M:=(n.cells (a:=.Z' l) s).1;refine Ω.bind' ⟨rfl,λr u=>Ω.pure' (Ω.pure' (Ω.pure' ?_))⟩;obtain⟨N,O,w⟩:=j.holds.lay (c:=(ZM t d).cells) (t:=f) u;have Q:0<(ZM t d).cells.size:=by rw[M];exact K
 exact h S B H t r _ L j u ⟨(ZM t d).cells[0],by simp[ο.lay,Q]⟩ w O N (Fe w (Xn.one n s))
section
variable {y:ZZ} {Q:Value->Prop} {mn:Bool} {β s m o n:Nat} {XK:ο} {H1:Ψ} {fd:Nat->Option Found} {pr:Nat->Int×Int} {F:Nat->Found} {N:Nat->Nat} {sp:Spec} {Xk:υ} {v:Option (Nat×δ)} {vs:Array Value} {cs:List Frame} {k:List Item} {rest:Δ}
theorem GJ {a b:Int} (T:pr n=(a,b)) (f:Uf y s sp) (ad:sp.ZO=some m) (ae:sp.XV=N5 β XK o fd) (af:∀k,sp.D k Ψ.empty) (aR:sp.top=3) (J:n<3) (j:IP Xk fd pr F N) (ag:∃q v,XK β q=some v) (ah:∃q x,H1.κ β q=some x) (ai:∀p∈rest,p.1∉[16,15,7,6,5,4,3,1]/\Z7 rest p.1=p.2)
  (aj:V prog Q mn (one (ZJ y s (.par (n+1) 0 .add) none 0)) (IQ vs) cs 23 ⟨XK,[],H1,[],0⟩ k ((6,.ω [R a])::env0 s m o Xk rest) []) :
  V prog Q mn (one (ZJ y s (.par n 0 .add) v 0)) (IQ vs) cs 23 ⟨XK,[],H1,[],0⟩ (.code CV::k) (MT s m o Xk a b rest) []:=by
 letI:ZN:=X3;obtain rfl:a=(pr n).1:=by rw[T]
 obtain rfl:b=(pr n).2:=by rw[T]
 have w:=f.seq;refine V.XS (w _ _ _) rfl ?_;simp only[CV,MU,f116,Option.getD_some,Yr];refine Y1 ?_;refine W.Ze (.stop ?_);refine V.call (w _ _ _) ⟨rfl,rfl,by simp[Frame.enter],rfl⟩ rfl rfl rfl ⟨_,func140,rfl,rfl⟩ λS B H t aS ak c hv=>?_;obtain rfl:=TJ (l:=[ptr s 0,.int .i64 1]) hv;obtain rfl:B=[]:=YP.1 c.holds.len;rintro al rfl;refine vU f U c.holds λaT X aU Y am=>?_;rw[V6 rfl];have Z:Zw S X [] [] [] []:=⟨Y.YL,λid r h=>by simp at h⟩;refine V.here (x:=one _) (m:=0) (nt:=23) (S:=X) (B:=[]) (σ:=[]) (env:=(15,.z (.tuple #[]))::MT s m o Xk (pr n).1 (pr n).2 rest) ?_ ⟨am,YS.later (YS.put c.Zn (d:=15) (by rw[c.size];omega) (.z (.tuple #[]))) Z,XB (T9 ..) c.size,Ε _⟩ _ rfl;refine V.XS (w _ _ _) rfl ?_;refine W.ZC ?_;refine W.Ze ?_;refine Xy [0] [1] ?_;refine W.stop ?_;intro A an ao t3 ap e;obtain rfl:an=[]:=YP.1 e.holds.len;rintro al rfl;have K:=e.Zn 16;simp only[Z7,if_true] at K;obtain⟨aV,aa⟩:=Ι (t3.getD 16 undef);rw[<-aa] at K;have M:X5 0 XK [] H1 [] A [] ao []:=ak.trans ((X5.of Y Z).trans ap);cases K with
 | fn w1 aq ar au aW C=>
  have av:w1=#[]:=MC (by rw[<-ar];rfl);subst av;obtain⟨l2⟩:=aq
  match l2,au with
  | [ab,aw,ax,ay,az,aA],_=>
   have aB:ab=ptr s 0:=by have:=C 0 _ _ rfl rfl;cases this;rfl
   have aC:az=ptr m 0:=by have:=C 4 _ _ rfl rfl;cases this;rfl
   have aD:aA=ptr o 0:=by have:=C 5 _ _ rfl rfl;cases this;rfl
   subst aB;subst aC;subst aD;have aE:XT A [] [] (GM s m o Xk (pr n).1 (pr n).2) (IV s m o aw ax ay):=⟨rfl,λi a v E O=>C i a v E O⟩;refine Zb.H7 (s:=s) (n:=n+1) (p:=0) (sp:=sp) f.rel rfl f.spec Zo ⟨rfl,rfl,by simp[Frame.enter],rfl⟩ rfl rfl rfl aa.symm (S:=A) e.holds ?_ ?_
   .rw[WY];have aF:=vn e.holds;have aG:∀g:I,∀p∈(6,.ω [R (pr n).1])::env0 s m o Xk rest,Z7 ((16,g)::(15,.z (.tuple #[]))::MT s m o Xk (pr n).1 (pr n).2 rest) p.1=p.2:=λg p c=>by
     simp only[env0,Zm] at c;rcases c with rfl|rfl|rfl|rfl|rfl|c<;>first|rfl|skip
     obtain⟨E,O⟩:=ai p c;simp only[Zm,YM,or_false,not_or] at E;obtain⟨aH,aI,aJ,aK,aL,aM,aN,aO⟩:=E;simp only[Z7,YQ aH,YQ aI,YQ aJ,YQ aK,YQ aL,YQ aM,YQ aN,YQ aO,if_false];exact O
    refine V.XS (w (.par (n+1) 0 .add) none 0) rfl (W.ZC (W.forget ((6,.ω [R (pr n).1])::env0 s m o Xk rest) (aG _) (.stop aj))) A [] _ t3 (M.trans (X5.of aF (Zw.refl ..))) ⟨vp e.holds,e.Zn,e.size,Ε _⟩ _ rfl
   .refine vb ad U ae (af _) (j.look n J) (j.many n J) ?_ (λL aP=>?_) ?_ (λb q u P=>?_) aE
    .show fd n=_;rw[j.fd n];simp[J]
    .rw[Yp];have:=j.Rw L aP;omega
    .obtain⟨q,u,P⟩:=ag;exact⟨q,u,M.ext.YL _ _ _ P⟩
    .obtain⟨aX,ab,aQ⟩:=ah;rcases M.ext.Q4 b q u P with h|⟨N,h⟩|h
     .exact .inl (by rw[h];simp)
     .simp at h
     .exact .inr (GP aQ h)
end
end Go.TL
namespace Go.TL
open Go.Proofs.Tryz
open Go.Conc Go.Proofs
open Go.ConcN (sumTo upd sumTo_upd upd_ne upd_same sumTo_congr le_sumTo)
structure Calm (y:ZZ):Prop where
 rel:y.rel=false
 Z5:y.Z5=λ_=>none
 deaf:y.deaf=0
 shut:∀s,Xj (y.tok s)
def calm:W6:=Calm
@[reducible] def TA:ZN:=⟨λx=>x=calm⟩
variable [ZN]
def PR (x y:Found):Int:=Tb (x.u,x.v) (y.u,y.v)
def SA (x y:Found):Prop:=x.u<y.u\/(x.u=y.u/\x.v<y.v)
theorem uX (x y:Found):χ PR x y=true↔SA x y:=by
 have h:=PZ (x.u,x.v) (y.u,y.v)
 have e:χ PR x y=χ Tb (x.u,x.v) (y.u,y.v):=rfl;rw[e,h];simp[SA]
theorem uW:Go.Sort.SWO (χ PR) where
 irrefl x:=Nd.irrefl (x.u,x.v)
 trans x y z:=Nd.trans (x.u,x.v) (y.u,y.v) (z.u,z.v)
 ntrans x y z:=Nd.ntrans (x.u,x.v) (y.u,y.v) (z.u,z.v)
instance:Inhabited Found:=⟨⟨0,0,[]⟩⟩
theorem uV {m:List Found} (h:m.Pairwise SA):∀a∈m,∀b∈m,¬SA a b->¬SA b a->a=b:=by
 induction h with
 | nil=>intro a c;cases c
 | cons d o l=>
  intro a c b n e f;rcases Zm.1 c with g|i<;>rcases Zm.1 n with j|k
  .rw[g,j]
  .exact absurd (g▸d b k) e
  .exact absurd (j▸d a i) f
  .exact l a i b k e f
theorem uU {l m:List Found} (r:l.Perm m) (e:m.Pairwise SA):(Go.Sort.insertionSort (χ PR) l.toArray 0 l.length).toList=m:=by
 obtain⟨⟨f,_,c⟩,g⟩:=Go.Sort.insertionSort_holds (lt:=χ PR) uW l.toArray 0 l.length (Ε _) J;generalize Go.Sort.insertionSort (χ PR) l.toArray 0 l.length=d at f c g;have n:d.size=l.length:=by simpa using f
 have s:d.extract 0 l.length=d:=by rw[<-n];exact Array.extract_size
 have Φ:l.toArray.extract 0 l.length=l.toArray:=by
  simp
 rw[s,Φ] at c;have o:d.toList.Perm m:=c.trans r;have t:∀x y,χ PR x y=false↔¬SA x y:=λx y=>by rw[<-uX];simp
 refine Ir (le:=λx y=>¬SA y x) (λa b u v w A=>?_) ?_ (e.imp λ{a b} h k=>?_) o
 .exact uV e a (o.mem_iff.1 u) b v A w
 .rw[Tr];intro i j hi p B;have:=g i j (Ε _) B (by simpa[n] using p);rw[t] at this;rw[getElem!_pos d j (by simpa using p),getElem!_pos d i (by simpa using hi)] at this;simpa using this
 .simp only[SA] at h k;omega
theorem uT {a:Nat->Ψ->Prop} (b:∀k E,a k E->E=Ψ.empty):∀(L:List Nat) (E:Ψ),Ur a L E->E=Ψ.empty:=by
 intro L
 induction L with
 | nil=>intro E h;exact h
 | cons k i c=>
  rintro E ⟨d,e,f,g,_,rfl⟩;rw[b k d f,c e g];exact Ia _
end Go.TL
namespace Go.TL
open Go.Proofs.Tryz
open Go.Conc Go.Proofs
open Go.ConcN (sumTo upd sumTo_upd upd_ne upd_same sumTo_congr le_sumTo)
abbrev IN:I:=.fn (.func 148) [] []
theorem uS [ZN] (x y:Found):Xu prog IN [YK x,YK y] (R (PR x y)):=λσ=>(yr x y).c (ZT.refl _) J J ⟨rfl,rfl⟩
section
variable {y:ZZ} {Q:Value->Prop} {mn:Bool} {β s m o:Nat} {OZ XK:ο} {Rm H1:Ψ} {fd:Nat->Option Found} {sp:Spec} {Xk:υ} {v:Option (Nat×δ)} {vs:Array Value} {c:Frame} {cs:List Frame}
theorem uR (Z:Uf y s sp) (an:sp.ZO=some m) (ao:sp.XV=N5 β XK o fd) (ap:∀k E,sp.D k E->E=Ψ.empty) (aq:∀L:List Nat,L.Nodup->(L.filterMap fd).length<=3) {d:List Found} (ar:(List.range 3).filterMap fd=d) (au:d.Pairwise SA)
  (av:∀v,Calm (ZJ y s (.par 3 0 .ZQ) v 0)) (aw:Po prog Q mn calm c cs OZ [] Rm [] (λa s=>Zi a (YW d)/\s=[]) (λ_ _=>False)) (ax:Ext OZ [] Rm XK [] H1) (ay:Rm.fresh β) :
  V prog Q mn (one (ZJ y s (.par 3 0 .add) v 0)) (IQ vs) (c::cs) 23 ⟨XK,[],H1,[],0⟩ [.code (Yr [1,1,1,1,1] MU)] (env0 s m o Xk []) []:=by
 letI:ZN:=X3;have F:=Z.seq;refine V.XS (F _ _ _) rfl ?_;simp only[MU,f116,Option.getD_some,Yr];refine Y1 ?_;refine W.Ze (.stop ?_);refine V.call (F _ _ _) ⟨rfl,rfl,by simp[Frame.enter],rfl⟩ rfl rfl rfl ⟨_,func146,rfl,rfl⟩ λS B H t a4 g A hv=>?_;obtain rfl:=TJ (l:=[ptr s 0]) hv;obtain rfl:B=[]:=YP.1 A.holds.len;rintro az rfl;refine vO Z A.holds (n:=3) λI H' aA aa aB a5 C ab a6 aC aD a7 a8 aE a9 aF aG a' aH O=>?_;rw[V6 rfl];obtain rfl:=uT ap aA aB aC;rw[Ia] at O;obtain⟨ad,ae⟩:=aD (by rw[an];simp);rw[ao] at ae;obtain⟨hi,K,M,P,aI⟩:=ae;obtain⟨w,f1,f2,f3⟩:=aF;obtain⟨G,R⟩:=Ι (aa.filterMap fd);have T:G.Perm d:=by rw[R,<-ar];exact ad.filterMap _
 have ba:G.length<=3:=by rw[R];exact aq aa (ad.nodup_iff.2 KR)
 rw[<-R] at P;obtain⟨aJ,l1,l2⟩:=C4 ab P aE ⟨w,f1,f3⟩ (IW _);have aK:=vk (ax.trans (g.ext.trans C)) (g.ext.trans C).YL ay hi ab P (IW _);obtain⟨aL,aM⟩:=aJ.RG (λb aN=>O.RG aN) O.grow;have aO:=aK.trans aM;have aP:t.getD 5 undef=ptr o 0:=by
  have:=A.Zn 5;simp only[Z7] at this;generalize t.getD 5 undef=u at this;cases this;rfl
 have aQ:YS (I.plus K) M (W9 (G.map YK)) [(5,.Ο 0 1 0 0)] (t.setIfInBounds 19 (.tuple #[])):=λi=>by
  simp only[Z7];split
  .rename_i e;subst e;have aR:(t.setIfInBounds 19 (.tuple #[])).getD 5 undef=ptr o 0:=by
    rw[<-aP,WU,WU,UW Z0]
   rw[aR];have:=ς.Ο (S:=I.plus K) (B:=M) (σ:=W9 (G.map YK)) (id:=0) (n:=1) (i:=0) (j:=0) (k:=1) (t:=99) (l:=[PS (G.map YK)]) (b:=o) (N:=1) (by simp[W9]) rfl aI;simpa using this
  .exact .Zk _
 refine V.here (x:=one _) (m:=0) (nt:=23) (S:=I.plus K) (B:=M) (σ:=W9 (G.map YK)) (env:=[(5,.Ο 0 1 0 0)]) ?_ ⟨aL,aQ,XB (T9 ..) A.size,Ε _⟩ _ rfl;have af:∀(e:Bool) (k:Nat),Zi (.sl e k (d.map YK)) (YW d)->V prog Q mn (one (ZJ y s (.par 3 0 .ZQ) aG 0)) (IQ vs) (c::cs) 23 ⟨I.plus K,M,aH,W9 (G.map YK),0⟩ [.code .ret] [(2,.sl e k (d.map YK))] []:=λe k aS=>by
  intro bb aT bc t5 aU X;obtain rfl:aT=[]:=YP.1 X.holds.len;refine ν.ret (F _ _ _) rfl rfl (ν.back (F _ _ _) rfl rfl (.inl rfl) func116 ?_);refine Ω.mono (λu aV ⟨aW,aX,aY,bd,ag,aZ⟩=>?_) (λ_ _ h=>h) _ (LX Υ (a:=.sl e k (d.map YK)) rfl X.holds X.Zn);obtain rfl:aX=[]:=YP.1 ag.len;rintro az rfl;have ah:=aO.trans (aU.ext.trans aY);exact aw.ret _ [] aW [] aV u ⟨aS,rfl⟩ ah ⟨ah.YL,λid r h=>by simp at h⟩ ag aZ _ (av _)
 refine V.XS (F _ _ _) rfl ?_;refine W.ZC ?_;have a0:∀e∈G.map YK,∀a∈e.cells,ψ 0 a:=λe C a g=>by
  obtain⟨z,_,rfl⟩:=Zd.1 C;exact Ng z a g
 by_cases ai:G=[]
 .subst ai;have a1:d=[]:=T.symm.eq_nil;subst a1;refine Y1 ?_;refine Y8 λY f=>?_;simp;(repeat (rw[Ν];simp[W9,GN,Wo]));refine Κ.c (xL IN J) (ZT.refl _) J J ?_;simp;(repeat (rw[Ν];simp));apply f;refine ZP λY f=>?_;apply f;refine W.cut 0 (Ε _) [(2,.sl true 0 [])] (Ε _) (λid r h=>U) (by simp;exact .low J) ?_;exact .stop (af _ _ .nil)
 .have aj:G.map YK≠[]:=by simpa using ai
  have a2:=uU T au;refine Y1 ?_;refine Y8 λY f=>?_;simp;(repeat (rw[Ν];simp[W9,IX aj,YY aj]));have ak:=yi G.toArray G.length J U IN PR J uS;rw[a2] at ak;have a3:d.length=G.length:=T.length_eq.symm;have al:ψ 0 IN:=J;have am:∀e∈d.map YK,∀a∈e.cells,ψ 0 a:=λe C a g=>by
   obtain⟨z,_,rfl⟩:=Zd.1 C;exact Ng z a g
  refine Μ.one ak 1 rfl a0 am (by simp[TS,Og,al.WA 1]) (by simp[Xh]) (by simp[TR,TQ,al.Yk [1]]) ?_;simp[Yk,Wf];(repeat (rw[Ν];simp));apply f;refine ZP λY f=>?_;apply f;refine W.cut 0 (Ε _) [(2,.sl false 3 (d.map YK))] (Ε _) (λid r h=>U) (λp A=>?_) ?_
  .obtain rfl:p=(2,.sl false 3 (d.map YK)):=by simpa using A
   refine Yz.own (id:=1) (t:=110) (Ε _) rfl (by simp[a3]) am
  .exact .stop (af _ _ (.refl _))
end
theorem GI {P:Program} {b:TypeId} {z:Value} (h:((P.info? b).bind (·.zero))=some z):∃a,P.info? b=some a/\a.zero=some z:=by
 cases hi:P.info? b with
 | none=>rw[hi] at h;cases h
 | some a=>rw[hi] at h;exact⟨a,rfl,h⟩
theorem uQ:((prog.info? 173).bind (·.zero))=some (.agg #[.int .i32 0,.int .u32 0]):=by kernel_rfl
theorem uP:((prog.info? 179).bind (·.zero))=some (.agg #[.int .u64 0,.int .u32 0]):=by kernel_rfl
theorem uO:((prog.info? 99).bind (·.zero))=some (.slice none 0 0):=by kernel_rfl
theorem uN {o:Nat}:Holds XE [some (o,1)] (W9 []) (Ψ.empty.YB o #[.slice none 0 0] 99):=by
 have b:Holds XE [] [] Ψ.empty:=M3 _
 have c:Xn XE [] [] #[.slice none 0 0] 1 [.sl true 0 []]:=Xn.one (a:=.sl true 0 []) (v:=.slice none 0 0) (.Wj none 0 λ_=>rfl) rfl;exact(Ma (P:=prog) (K:=λr G=>Holds XE [some (r,1)] (W9 []) G) (E:=λ_ _=>False) b c 99 λr _ d _ _=>d).2 o ⟨λ_=>rfl,rfl,rfl,λ_ _=>⟨λ_=>rfl,rfl,rfl⟩⟩
section
variable {fd:Nat->Option Found} {pr:Nat->Int×Int} {F:Nat->Found} {N:Nat->Nat} {Xk:υ} {GH:List Found}
theorem uM (X:IP Xk fd pr F N) (av:pr 0=(1,0)) (aw:pr 1=(2,0)) (ax:pr 2=(2,1)) (ay:(List.range 3).filterMap fd=GH) (az:GH.Pairwise SA):@Κ TA prog 116 [ZB Xk] (YW GH):=by
 refine⟨⟨_,func116,rfl,rfl⟩,λa4 mn x c rest ak aA af vs aB al aC aD=>?_⟩;obtain rfl:x=calm:=@Seq.cls TA x aB;obtain rfl:aA=[]:=YP.1 al.len;rintro y ⟨f,Y,aE,am⟩;letI:ZN:=X3;have ag:Seq (one y):=Seq.O6 trivial f Y;rw[SG (body:=MU) func116 rfl];refine V.here (x:=one y) (m:=0) (nt:=23) (S:=ak) (B:=[]) (H:=af) (σ:=[]) (env:=entry 0 [ZB Xk]) ?_ (XA.enter al aC (Z1 _) J) y rfl;refine V.XS ag rfl ?_;simp only[MU,f116,Option.getD_some];refine Y1 ?_;refine W.Ze (.stop ?_);refine V.boxed ag rfl rfl rfl rfl rfl (l:=[Z6 Xk.Α,θ Xk.Β,XL Xk.cells]) rfl rfl J λS B H t r aF an w aG aH aI aJ aK aL=>?_;obtain rfl:B=[]:=YP.1 w.holds.len;refine V.here (x:=one y) (m:=0) (nt:=23) (S:=S.lay r aF) (B:=[]) (σ:=[]) (env:=[(1,Z9 Xk)]) ?_
  ⟨aK,QG (YS.put (w.Zn.later aI) (d:=1) (by rw[w.size];omega) aL) J,XB (T9 ..) w.size,Ε _⟩
 refine V.XS ag rfl ?_;refine Xy [1] [] ?_;refine W.ZC ?_;refine Y1 ?_;refine W.Ze (.stop ?_);intro L aM ao t2 ap j;obtain rfl:aM=[]:=YP.1 j.holds.len;rintro i rfl;obtain⟨a5,aN,aO⟩:=GI uQ;obtain⟨a6,aP,aQ⟩:=GI uP;obtain⟨a7,aR,aS⟩:=GI uO;refine Zb.GK f ⟨rfl,rfl,by simp[Frame.enter],rfl⟩ rfl rfl aN aO λm a8 _=>?_;refine Zb.next ?_ ?_ ?_
 .exact .inl f
 .rfl
 refine Zb.GK ?_ ⟨rfl,rfl,by simp[Frame.enter],rfl⟩ rfl rfl aP aQ λs a9 aT=>?_
 .exact f
 refine Zb.next ?_ ?_ ?_
 .exact .inl f
 .rfl
 refine Zb.GK ?_ ⟨rfl,rfl,by simp[Frame.enter],rfl⟩ rfl rfl aR aS λo aq aU=>?_
 .exact f
 have aV:m<s:=aT m _ (upd_same ..)
 have aW:s<o:=aU s _ (upd_same ..);obtain⟨sp,M⟩:∃sp:Spec,sp=⟨some m,N5 r L o fd,λ_ E=>E=Ψ.empty,3⟩:=⟨_,rfl⟩;have Z:∃q v,L r q=some v:=let ⟨u,ah⟩:=aH;⟨0,u,ap.ext.YL _ _ _ ah⟩;have aa:∃q x,ao.κ r q=some x:=let ⟨q,u,ah⟩:=Z;let ⟨p,w⟩:=j.holds.YL _ _ _ ah;⟨q,_,w⟩;have ar:r<o:=let ⟨_,_,h⟩:=aa;GP h aq;have O:sp.ZO=some m:=by rw[M]
 have P:sp.XV=N5 r L o fd:=by rw[M]
 have ab:∀k E,sp.D k E↔E=Ψ.empty:=λk E=>by rw[M]
 have ad:sp.top=3:=by rw[M]
 clear M;have aX:sp.XV [] (Ψ.empty.YB o #[.slice none 0 0] 99):=by
  rw[P];refine⟨⟨λb q x Q=>?_,λb x Q=>?_,λb x Q=>(by cases Q)⟩,XE,_,uN,rfl⟩
  .by_cases e:b=o
   .exact .inr (e▸ar)
   .simp[Ψ.YB,e,Ψ.empty] at Q
  .by_cases e:b=o
   .exact e▸ar
   .simp[Ψ.YB,e,Ψ.empty] at Q
 refine Zb.group (y:=i) (sp:=sp) f Y aV aW O aq aX ?_;obtain⟨ai,aj⟩:=Ι ({i with spec:=upd i.spec s (some sp)}:ZZ);have aY:({i with tok:=upd i.tok s (.par 0 0 .add),spec:=upd i.spec s (some sp),view:=upd i.view s none}:ZZ)=ZJ ai s (.par 0 0 .add) none 0:=by
  rw[aj];unfold ZJ;simp only[aE]
 rw[aY];have T:Uf ai s sp:=by
  rw[aj];refine⟨f,Y,upd_same ..,by rw[ad];decide,λC _=>?_⟩;have:=am C;show Ti (i.tok C);cases au:i.tok C with
  | nil=>trivial
  | par n p aZ=>rw[au] at this;cases aZ<;>first|trivial|exact this.elim
  | ch k a' g=>rw[au] at this;exact this.elim
 have a0:∀v,Calm (ZJ ai s (.par 3 0 .ZQ) v 0):=λv=>by
  rw[aj];refine⟨f,Y,rfl,λC=>?_⟩;by_cases e:C=s
  .subst e;rw[Zo];trivial
  .rw[Lz e];exact am C
 have ae:=T.seq
 have a1:=X.Rw
 have a2:Ext ak [] af L [] ao:=an.ext.trans (aJ.trans ap.ext)
 have a3:af.fresh r:=an.ext.grow _ aG;refine V.here (x:=one _) (m:=0) (nt:=23) (S:=L) (B:=[]) (σ:=[]) (env:=env0 s m o Xk []) ?_
  ⟨j.holds,QG (YS.put (YS.put (YS.put j.Zn (d:=3) (by rw[j.size];omega) (.z (ptr m 0))) (d:=4) (by rw[T9,j.size];omega) (.z (ptr s 0))) (d:=5) (by rw[T9,T9,j.size];omega) (.z (ptr o 0))) J,
   XB (T9 ..) (XB (T9 ..) (XB (T9 ..) j.size)),Ε _⟩ _ rfl
 have w1:IntKind.i64.wrap 1=1:=Z0
 have I:IntKind.i64.wrap 2=2:=Z0
 have K:IntKind.i64.wrap 3=3:=Z0;refine V.XS (ae _ _ _) rfl ?_;refine W.ZC ?_;refine WE ?_;refine .loop ?_;refine WE ?_;refine Zj (A:=[6]) Υ λU a=>ZY ?_;apply a;refine W.fix (id:=0) (σ':=[]) (Ε _) rfl J J rfl ((6,.ω [R 0])::env0 s m o Xk [(8,R 0)]) J ?_;refine WE ?_;refine .loop ?_;refine WE ?_;refine W.exit rfl ?_;refine WC (Τ w1 (Τ I K)) ?_;refine .inLoop ?_;refine WE ?_;refine Zj (A:=[6]) Υ λU a=>ZY ?_;apply a;refine W.fix (id:=0) (σ':=[]) (Ε _) rfl J J rfl ((6,.ω [R 1])::env0 s m o Xk [(8,R 1)]) J ?_;refine WE ?_;refine .loop ?_;refine WE ?_;refine Zj (A:=[7]) Υ λU a=>ZY ?_;apply a;refine W.fix (id:=0) (σ':=[]) (Ε _) rfl J J rfl (MT s m o Xk 1 0 [(8,R 1),(11,R 1),(12,R 0)]) J ?_;refine W.stop (GJ av T O P (λk=>(ab k _).2 rfl) ad Z0 X Z aa J ?_);refine V.XS (ae _ _ _) rfl ?_;refine WC (Τ w1 (Τ I K)) ?_;refine .inLoop ?_;refine WE ?_;refine W.exit rfl ?_;refine WC (Τ w1 (Τ I K)) ?_;refine .inLoop ?_;refine WE ?_;refine Zj (A:=[6]) Υ λU a=>ZY ?_;apply a;refine W.fix (id:=0) (σ':=[]) (Ε _) rfl J J rfl ((6,.ω [R 2])::env0 s m o Xk [(8,R 2)]) J ?_;refine WE ?_;refine .loop ?_;refine WE ?_;refine Zj (A:=[7]) Υ λU a=>ZY ?_;apply a;refine W.fix (id:=0) (σ':=[]) (Ε _) rfl J J rfl (MT s m o Xk 2 0 [(8,R 2),(11,R 2),(12,R 0)]) J ?_;refine W.stop (GJ aw T O P (λk=>(ab k _).2 rfl) ad Z0 X Z aa J ?_);refine V.XS (ae _ _ _) rfl ?_;refine WC (Τ w1 (Τ I K)) ?_;refine .inLoop ?_;refine WE ?_;refine Zj (A:=[7]) Υ λU a=>ZY ?_;apply a;refine W.fix (id:=0) (σ':=[]) (Ε _) rfl J J rfl (MT s m o Xk 2 1 [(8,R 2),(11,R 2),(12,R 1)]) J ?_;refine W.stop (GJ ax T O P (λk=>(ab k _).2 rfl) ad Z0 X Z aa J ?_);refine V.XS (ae _ _ _) rfl ?_;refine WC (Τ w1 (Τ I K)) ?_;refine .inLoop ?_;refine WE ?_;refine W.exit rfl ?_;refine WC (Τ w1 (Τ I K)) ?_;refine .inLoop ?_;refine WE ?_;refine W.exit rfl ?_;refine W.forget (env0 s m o Xk []) J ?_;refine W.stop ?_;exact uR T O P (λk E=>(ab k E).1) a1 ay az a0 aD a2 a3
end
end Go.TL
namespace Go.TL
open Go.Proofs.Tryz
open Go.Proofs
variable [ZN]
def υ.Vq (s:υ) (n:Int):Bool:=decide (n< -1)||decide ((s.Α.length:Int)<=n)
def PQ (s:υ) (e f:List Int) (a:Int):Int×Int:=
 if s.err≠0 then(0,s.err) else
 match e,f with
 | [b,c],[d,l1]=>if Vd b=false\/Vd c=false\/s.Vq d=true\/s.Vq l1=true\/a<0\/(s.Β.length:Int)<=a then(0,3) else if b<=c then(0,5) else(s.X4 (b,c) (d,l1) a.toNat,0)
 | _,_=>(0,8)
theorem uL (s:υ) (n:Int):Κ prog 92 [R n,Z9 s] (ZU (s.Vq n)):=by
 refine Μ.body Υ func92 rfl rfl ntmps92 rfl rfl J ?_;by_cases h:n< -1
 .refine Ζ h ?_;refine W.rt ?_;exact .of (by simp[υ.Vq,h])
 .refine Ζ h ?_;refine W.rt ?_;exact .of (by simp[υ.Vq,h])
abbrev uK (p:Int×Int):I:=.ZV [R p.1,R p.2]
theorem uJ (s:υ) (H:s.small) (l m:List Int) (g:Int):Κ prog 34 [ZB s,ζ R 1 l,ζ R 1 m,R g] (uK (PQ s l m g)):=by
 refine Μ.body Υ func34 rfl rfl ntmps34 rfl rfl J ?_;refine Χ ?_;refine ZP λo f=>?_;refine Κ.d (LK s H) (ZY ?_);apply f;refine Χ ?_;by_cases B:s.err=0
 case neg=>
  refine Γ (by simp[B]) ?_;refine Χ ?_;refine W.rt ?_;exact .of (by rw[show PQ s l m g=(0,s.err) by unfold PQ;rw[if_pos B]];rfl)
 refine Η (by simp[B]) ?_;refine Χ ?_;have hv:PQ s l m g=match (generalizing:=false) l,m with
   | [i,j],[k,l1]=>if Vd i=false\/Vd j=false\/s.Vq k=true\/s.Vq l1=true\/g<0\/(s.Β.length:Int)<=g then(0,3) else if i<=j then(0,5) else(s.X4 (i,j) (k,l1) g.toNat,0)
   | _,_=>(0,8):=by unfold PQ;rw[if_neg (by simpa using B)]
 by_cases C:(l.length:Int)=2
 case neg=>
  have e:PQ s l m g=(0,8):=by
   rw[hv];split
   .simp at C
   .rfl
  refine XX C λo f=>?_;apply f;refine Γ rfl ?_;refine Χ ?_;refine W.rt ?_;exact .of (by rw[e];rfl)
 by_cases F:(m.length:Int)=2
 case neg=>
  have e:PQ s l m g=(0,8):=by
   rw[hv];split
   .simp at F
   .rfl
  refine XX (Τ C F) λo f=>?_;apply f;refine Γ rfl ?_;refine Χ ?_;refine W.rt ?_;exact .of (by rw[e];rfl)
 obtain⟨i,j,rfl⟩:∃a b,l=[a,b]:=by
  match l,C with
  | [a,b],_=>exact⟨a,b,rfl⟩
  | [],h=>simp at h
  | [_],h=>simp at h
  | _::_::_::_,h=>simp at h;omega
 obtain⟨k,l1,rfl⟩:∃a b,m=[a,b]:=by
  match m,F with
  | [a,b],_=>exact⟨a,b,rfl⟩
  | [],h=>simp at h
  | [_],h=>simp at h
  | _::_::_::_,h=>simp at h;omega
 simp only at hv;refine ZP λo f=>?_;apply f;refine Η rfl ?_
 repeat apply Ξ
 have f3:(Vd i=false\/Vd j=false\/s.Vq k=true\/s.Vq l1=true\/g<0\/(s.Β.length:Int)<=g)->PQ s [i,j] [k,l1] g=(0,3):=λh=>by rw[hv];exact if_pos h
 have I:([k,l1].any s.Vq)=(s.Vq k||s.Vq l1):=J
 have call3:Κ prog 94 [ζ R 1 [k,l1],.fn (.func 92) [] [Z9 s]] (ZU (s.Vq k||s.Vq l1)):=by
  rw[<-I];exact ye [k,l1] _ s.Vq J (by simp[Ul]) (λx _=>λ_=>(uL s x).cc (by simp;exact ZT.refl _) J J ⟨rfl,rfl⟩)
 cases u:Vd i
 case false=>
  have t:=f3 (.inl u);refine ZP λo f=>?_;refine Κ.d (Sb i) (XF u ?_);apply f;refine Γ rfl ?_;refine Χ ?_;refine W.rt ?_;exact .of (by rw[t];rfl)
 cases v:Vd j
 case false=>
  have t:=f3 (.inr (.inl v));refine ZP λo f=>?_;refine Κ.d (Sb i) (XF u ?_);refine Κ.d (Sb j) (XF v ?_);apply f;refine Γ rfl ?_;refine Χ ?_;refine W.rt ?_;exact .of (by rw[t];rfl)
 cases r:s.Vq k||s.Vq l1
 case true=>
  have t:=f3 (.inr (.inr (by rcases Bool.or_eq_true _ _ |>.mp r with h|h<;>simp[h])));refine ZP λo f=>?_;refine Κ.d (Sb i) (XF u ?_);refine Κ.d (Sb j) (XF v ?_);refine Κ.c call3 (ZT.refl _) (by simp[Ul]) J ?_;simp[r];(repeat (rw[Ν];simp[r]));apply f;refine Γ rfl ?_;refine Χ ?_;refine W.rt ?_;exact .of (by rw[t];rfl)
 by_cases w:g<0
 .have t:=f3 (.inr (.inr (.inr (.inr (.inl w)))));refine ZP λo f=>?_;refine Κ.d (Sb i) (XF u ?_);refine Κ.d (Sb j) (XF v ?_);refine Κ.c call3 (ZT.refl _) (by simp[Ul]) J ?_;simp[r,w];(repeat (rw[Ν];simp[r,w]));apply f;refine Γ rfl ?_;refine Χ ?_;refine W.rt ?_;exact .of (by rw[t];rfl)
 by_cases y:(s.Β.length:Int)<=g
 .have t:=f3 (.inr (.inr (.inr (.inr (.inr y)))));refine ZP λo f=>?_;refine Κ.d (Sb i) (XF u ?_);refine Κ.d (Sb j) (XF v ?_);refine Κ.c call3 (ZT.refl _) (by simp[Ul]) J ?_;simp[r,w,y];(repeat (rw[Ν];simp[r,w,y]));apply f;refine Γ rfl ?_;refine Χ ?_;refine W.rt ?_;exact .of (by rw[t];rfl)
 have D:s.Vq k=false/\s.Vq l1=false:=by simpa using r
 rw[if_neg (by rw[u,v,D.1,D.2];simp;omega)] at hv;refine ZP λo f=>?_;refine Κ.d (Sb i) (XF u ?_);refine Κ.d (Sb j) (XF v ?_);refine Κ.c call3 (ZT.refl _) (by simp[Ul]) J ?_;simp[r,w,y];(repeat (rw[Ν];simp[r,w,y]));apply f;refine Η rfl ?_
 repeat apply Ξ
 refine Pk ?_;by_cases E:i<=j
 .rw[if_pos E] at hv;refine Γ (by simp[E]) ?_;refine Χ ?_;refine W.rt ?_;exact .of (by rw[hv];rfl)
 .rw[if_neg E] at hv;refine Η (by simp[E]) ?_;obtain⟨n,rfl⟩:∃n:Nat,g=n:=⟨g.toNat,U⟩;have K:n<s.Β.length:=U;have L:k<s.Α.length:=by have:=D.1;simp[υ.Vq] at this;omega
  have M:l1<s.Α.length:=by have:=D.2;simp[υ.Vq] at this;omega
  repeat apply Ξ
  refine W.draw (A:=[]) Υ mixed λo f=>Vf ?_;refine Ys (Κ.p (LL s H (i,j) (k,l1) n K L M) (ZT.refl _) J J) ?_;simp;(repeat (rw[ZG];simp));try rw[ZH]
  refine YF (f _ _ ?_);refine Χ ?_;refine W.rt ?_;exact .of (by rw[hv];rfl)
end Go.TL
namespace Go.TL
open Go.Proofs.Tryz
open Go.Proofs
def X2:Nat->Int×Int
 | 0=>(1,0)
 | 1=>(2,0)
 | _=>(2,1)
def Wn (s:υ) (p:Int×Int):Found:=⟨p.1,p.2,(List.range s.cells.length).map (Vt s p)⟩
def U' (s:υ) (k:Nat):Option Found:=if k<3/\0<(Wn s (X2 k)).many (-1) then some (Wn s (X2 k)) else none
def W8 (s:υ):List Found:=(List.range 3).filterMap (U' s)
structure GG (N:Nat) (s:υ):Prop where
 small:s.small
 Α:s.Α.length<2 ^ 20
 lit:∀c∈s.cells,∀x∈c,0<=x.Zs/\x.Zs<s.Β.length
 reads:∀k,k<3->∀c,c<s.cells.length->(Vt s (X2 k) c).length<=N
 many:∀k,k<3->∀i,i<=s.cells.length->VK (Wn s (X2 k)).cells (-1) i<2 ^ 62
abbrev CU (s:υ):Prop:=GG 12 s
theorem CS {N:Nat} (n:N<2 ^ 20) (o:∀c:ZN,@Jq c N) {s:υ} (h:GG N s):@Ry TA s (W8 s):=λ_=>by
 refine uM (fd:=U' s) (pr:=X2) (F:=λk=>Wn s (X2 k)) (N:=λk=>(Wn s (X2 k)).many (-1)) ⟨λk g c=>?_,λk g c=>?_,λk=>rfl⟩ rfl rfl rfl rfl ?_
 .exact @xA c s h.small h.Α (X2 k) h.lit N n (o c) (h.reads k g)
 .have l:(Wn s (X2 k)).cells.length=s.cells.length:=by simp[Wn]
  have:=h.small.2.2.1;exact @Jv c (Wn s (X2 k)) (-1) (by rw[l];omega) (λi hi=>h.many k g i (by rw[<-l];exact hi))
 .have e:(List.range 3).filterMap (U' s)=(U' s 0).toList++(U' s 1).toList++(U' s 2).toList:=by
   show [0,1,2].filterMap (U' s)=_;simp only[List.filterMap_cons,List.filterMap_nil];cases U' s 0<;>cases U' s 1<;>cases U' s 2<;>rfl
  show((List.range 3).filterMap (U' s)).Pairwise SA;rw[e];have m:∀k x,x∈(U' s k).toList->x=Wn s (X2 k):=λk x f=>by
   unfold U' at f;split at f
   .simpa using f
   .simp at f
  have one:∀k,((U' s k).toList).Pairwise SA:=λk=>by cases U' s k<;>simp
  rw[NR,NR];refine⟨⟨one 0,one 1,λa d b j=>?_⟩,one 2,λa d b j=>?_⟩
  .rw[m 0 a d,m 1 b j];exact .inl (show(X2 0).1<(X2 1).1 by decide)
  .rw[m 2 b j];rcases WK.1 d with d|d
   .rw[m 0 a d];exact .inl (show(X2 0).1<(X2 2).1 by decide)
   .rw[m 1 a d];exact .inr ⟨rfl,show(X2 1).2<(X2 2).2 by decide⟩
theorem uI {s:υ} (h:CU s):@Ry TA s (W8 s):=CS Z0 (λc=>@xE c) h
theorem CR:CU Xx:=by
 refine⟨by unfold υ.small;decide,Z0,Z0,?_,?_⟩
 .have:∀k<3,∀c<2,(Vt Xx (X2 k) c).length<=12:=by decide +kernel
  exact this
 .have:∀k<3,∀i<3,VK (Wn Xx (X2 k)).cells (-1) i<2 ^ 62:=by decide +kernel
  exact λk a i hi=>this k a i (by have:i<=2:=hi;omega)
theorem CQ:Xx.err=0:=by decide +kernel
theorem uH:PY Xx (W8 Xx)=(1,1,2,0):=by decide +kernel
theorem uG:OY Xx (W8 Xx) 1 true=([1],0):=by decide +kernel
theorem uF:PQ Xx [1,0] [1,4] 1=(12,0):=by decide +kernel
theorem uE:UC (W8 Xx)=[[1,0],[2,0]]:=by decide +kernel
def MS (b:ByteArray):Int:=(b.data[0]!).toNat
theorem CP {l m:List Int} (d:l.Perm m) (e:m.Pairwise λa b=>a<=b):R8 l=m:=by
 have f:∀a b c:Int,decide (a<=b)=true->decide (b<=c)=true->decide (a<=c)=true:=λa b c h k=>by simp at *;omega
 have g:∀a b:Int,(decide (a<=b)||decide (b<=a))=true:=λa b=>by simp;omega
 have i:=List.pairwise_mergeSort (le:=λx y:Int=>decide (x<=y)) f g l
 have j:(l.mergeSort λx y:Int=>decide (x<=y)).Perm m:=(List.mergeSort_perm l _).trans d;exact Ir (le:=λa b:Int=>a<=b) (λa b _ _ h k=>U) (i.imp λ{a b} h=>by simpa using h) e j
theorem CO:U0 (W8 Xx) 0 true=[4,4]:=by decide +kernel
theorem CN:U0 (W8 Xx) 1 true=[1,2,1,2]:=by decide +kernel
theorem uD:(spell [111,63]).toList=[111,63]:=by decide +kernel
theorem uC:(Xl Xx true (W8 Xx)).2.2=0:=by decide +kernel
theorem uB {l:List (List (Int×Int))} {a:Int} (h:∀j:Nat,((l[j]?).getD []).length<=2):∀i,VK l a i<=2 ^ i:=by
 intro i
 induction i with
 | zero=>simp[VK]
 | succ i b=>
  rw[@Jw ⟨λ_=>True⟩,Nat.pow_succ];refine OP b ?_;split
  .omega
  .exact h i
theorem uA:∀f∈W8 Xx,f.cells.length=2/\∀c∈f.cells,c.length<=2:=by decide +kernel
theorem CM:Jo Xx (W8 Xx):=by
 refine⟨by decide +kernel,by decide +kernel,?_,by decide +kernel⟩;intro f a;obtain⟨b,d⟩:=uA f a;refine⟨by rw[b];decide,λg i hi=>OR (uB (λj=>?_) i) ?_⟩
 .cases e:f.cells[j]? with
  | none=>simp
  | some c=>simpa using d c (Zf e)
 .have:2 ^ i<=2 ^ 2:=KZ U U;omega
theorem CL:Rx (W8 Xx) 0 true=[4]:=by
 unfold Rx;rw[CO,CP (m:=[4,4]) (.refl _) Z0];decide
theorem CK:Rx (W8 Xx) 1 true=[1,2]:=by
 unfold Rx;rw[CN,CP (m:=[1,1,2,2]) Z0 Z0];decide
theorem uz:D6 Xx (W8 Xx) true MS 12:=by
 refine⟨by decide +kernel,by decide +kernel,λc a=>?_,λg b=>?_⟩
 .have a:c<2:=a
  match c,a with
  | 0,_=>rw[CO,CL];decide
  | 1,_=>rw[CN,CK];decide
 .simp only[Xx,Zm,YM,or_false] at b;rcases b with rfl|rfl|rfl|rfl|rfl<;>rfl
theorem uy:R7 Xx (W8 Xx) true MS 2=[111,63]:=by
 show [0,1].map (Pg Xx (W8 Xx) true MS)=_;simp only[XC,UU,Pg,CL,CK];decide +kernel
theorem uw:Pf Xx (W8 Xx) true MS=(spell [111,63],0):=by
 unfold Pf;rw[if_pos uC];show(spell (R7 Xx (W8 Xx) true MS 2),(0:Int))=_;rw[uy]
theorem CJ:@Κ TA prog 21 [] (ZU true):=by
 letI:ZN:=TA;have e:=CR.small;have h:=uI CR;refine Μ.body Υ func21 rfl rfl ntmps21 rfl rfl J ?_;refine Χ ?_;refine ZP λb a=>?_;refine Κ.d (Lo) (ZY ?_);refine Κ.c (uJ Xx e [1,0] [1,4] 1) (.cons (.refl _) (.cons .ex (.cons .ex (.cons (.refl _) .nil)))) J J ?_;rw[uF];simp;(repeat (rw[Ν];simp));apply a;refine ZP λb a=>?_;refine Κ.d (Lo) (ZY ?_);refine Κ.c (xZ Xx e _ h (by decide +kernel)) (ZT.refl _) J J ?_;rw[if_pos CQ,CQ,uE];simp;(repeat (rw[Ν];simp));apply a;refine ZP λb a=>?_;refine Κ.d (Lo) (ZY ?_);refine Κ.c (xU Xx e _ h true MS 12 Z0 xS (λ_=>uz)) (ZT.refl _) J J ?_;rw[uw];simp;(repeat (rw[Ν];simp));apply a;refine ZP λb a=>?_;refine Κ.d (Lo) (ZY ?_);refine Κ.c (xp Xx e _ h CM) (ZT.refl _) J J ?_;rw[uH];simp;(repeat (rw[Ν];simp));apply a;refine ZP λb a=>?_;refine Κ.d (Lo) (ZY ?_);refine Κ.c (u1 Xx e _ h CM 1 true Z0) (ZT.refl _) J J ?_;rw[uG];simp;(repeat (rw[Ν];simp));apply a;refine ZP λb a=>?_;refine Κ.c (x2 9) (ZT.refl _) J J ?_;have i:valid 9=true:=by decide +kernel
 have j:Jx 9=6:=by decide +kernel
 rw[i,j];simp;(repeat (rw[Ν];simp));apply a;refine XX @uD λb a=>?_;refine Κ.c (Hx [[1,0],[2,0]] [[1,0],[2,0]] Z0 Z0) (.cons (.refl _) (.cons ?_ .nil)) J J ?_
 .exact .map (l:=[[1,0],[2,0]]) (f:=λl:List Int=>.sl true 1 (l.map R)) (g:=ζ R 1) λx _=>.one .ex rfl rfl
 simp;(repeat (rw[Ν];simp));refine Κ.c (Er [1] [1] Z0) (.cons (.refl _) (.cons .ex .nil)) J J ?_;simp;(repeat (rw[Ν];simp));apply a;refine W.rt ?_;exact .of J
end Go.TL
namespace Go.TL
open Go.Proofs.Tryz
open Go.Proofs
variable [ZN]
structure Zg where
 Z3:List Int
 state:Int
abbrev CI (n:Int):I:=.z (.int .u64 n)
abbrev uv (d:Zg):I:=.Z' [ζ R 1 d.Z3,CI d.state]
abbrev ZK (d:Zg):Row:=.cells 93 2 [uv d]
def Ln (d:Zg):Int:=IntKind.u64.wrap (d.Z3.headD 0)
def MR (d:Zg):Int:=IntKind.u64.wrap (IntKind.u64.wrap (IntKind.u64.wrap (d.state+(if d.Z3=[] then 0 else Ln d))+6364136223846793005)*15074714826142052245)
def PO (d:Zg):Int:=Md .u64 (MR d) ((MR d).fdiv (2 ^ min 29 IntKind.u64.bits))
def QC (d:Zg):Int:=(IntKind.u64.wrap (Md .u64 (PO d) ((PO d).fdiv (2 ^ min 33 IntKind.u64.bits))*18397679294719823053)).fdiv (2 ^ min 32 IntKind.u64.bits)
def Zg.next (d:Zg):Zg:=⟨d.Z3.tail,PO d⟩
theorem uu (d:Zg) (hd:d.Z3.length<2 ^ 63):Μ prog 73 [.Ο 0 1 0 0] [ZK d] (λr s=>r=CI (QC d)/\s=[ZK d.next]) (λ_ _=>False):=by
 obtain⟨l,q⟩:=d;refine Μ.body Υ func73 rfl rfl ntmps73 rfl rfl J ?_;refine Χ ?_;cases l with
 | nil=>
  refine Η J ?_;refine Χ ?_;refine Pk ?_
  repeat apply Ξ
  refine Pk ?_;refine Χ ?_;exact W.ret ⟨_,rfl,by simp[QC,PO,MR,Ln],by simp[Zg.next,PO,MR,Ln]⟩
 | cons a l=>
  refine Γ J ?_;refine Χ ?_;have b:List.take l.length (l.map R)=l.map R:=VB J;refine XX b λe c=>?_;refine⟨U,?_⟩;apply c;refine Χ ?_;refine Pk ?_
  repeat apply Ξ
  refine Pk ?_;refine Χ ?_;exact W.ret ⟨_,rfl,by simp[QC,PO,MR,Ln],by simp[Zg.next,PO,MR,Ln]⟩
def XD (d:Zg) (n:Int):Int:=if n<=0 then 0 else IntKind.i64.wrap ((IntKind.u64.wrap (QC d*IntKind.u64.wrap (IntKind.i64.wrap (n+1)))).fdiv (2 ^ min 32 IntKind.u64.bits))
def Zg.after (d:Zg) (n:Int):Zg:=if n<=0 then d else d.next
theorem R1 (d:Zg):V4 (ZK d):=by simp[V4,I.cells]
theorem GF (d:Zg) (hd:d.Z3.length<2 ^ 63) (n:Int):Μ prog 24 [.Ο 0 1 0 0,R n] [ZK d] (λr s=>r=R (XD d n)/\s=[ZK (d.after n)]) (λ_ _=>False):=by
 refine Μ.body Υ func24 rfl rfl ntmps24 rfl rfl J ?_;refine Χ ?_;by_cases h:n<=0
 .refine Γ (by simp[h]) ?_;refine Χ ?_;exact W.ret ⟨_,rfl,by simp[XD,h],by simp[Zg.after,h]⟩
 .refine Η (by simp[h]) ?_;refine Χ ?_;refine ZP λb a=>?_;refine Μ.one (as0:=[.Ο 0 1 0 0]) (uu d hd) 0 rfl (R1 d) (R1 d.next) (by simp[Xh,Sd]) ((ψ.z _).WA 1) rfl ?_;simp[TQ];(repeat (rw[Ν];simp));apply a;exact W.ret ⟨_,rfl,by simp[XD,h],by simp[Zg.after,h]⟩
def S6 (d:Zg) (a b:Int):Int:=IntKind.i64.wrap (a+XD d (IntKind.i64.wrap (b-a)))
theorem uq (d:Zg) (hd:d.Z3.length<2 ^ 63) (a b:Int):Μ prog 38 [.Ο 0 1 0 0,R a,R b] [ZK d] (λr s=>r=R (S6 d a b)/\s=[ZK (d.after (IntKind.i64.wrap (b-a)))]) (λ_ _=>False):=by
 refine Μ.body Υ func38 rfl rfl ntmps38 rfl rfl J ?_;refine Χ ?_;refine ZP λe c=>?_;refine Μ.one (as0:=[.Ο 0 1 0 0,R (IntKind.i64.wrap (b-a))]) (GF d hd _) 0 rfl (R1 d) (R1 _) (by simp[Xh,Sd]) ((ψ.z _).WA 1) rfl ?_;simp[TQ];(repeat (rw[Ν];simp));apply c;exact W.ret ⟨_,rfl,rfl,rfl⟩
end Go.TL
namespace Go.TL
open Go.Proofs.Tryz
open Go.Proofs
theorem uo (x:Int):0<=IntKind.u64.wrap x/\IntKind.u64.wrap x<18446744073709551616:=by
 unfold IntKind.wrap;simp[IntKind.bits,IntKind.signed];omega
theorem u64_in (x:Int) (h:0<=x) (a:x<18446744073709551616):IntKind.u64.wrap x=x:=by
 unfold IntKind.wrap;simp[IntKind.bits,IntKind.signed];omega
theorem CH:(2:Int) ^ min 32 IntKind.u64.bits=4294967296:=Z0
theorem um (d:Zg):0<=QC d/\QC d<4294967296:=by
 unfold QC;rw[CH];generalize a:IntKind.u64.wrap _=x;have:=uo (Md .u64 (PO d) ((PO d).fdiv (2 ^ min 33 IntKind.u64.bits))*18397679294719823053);rw[a] at this;rw[Iu _ Z0];omega
theorem S5 (d:Zg) (n:Int) (e:0<=n) (f:n<2147483647):0<=XD d n/\XD d n<=n:=by
 unfold XD;split
 .omega
 .obtain⟨b,g⟩:=um d;rw[CH,IntWalk.i64_in (n+1) U,u64_in (n+1) U U];have c:QC d*(n+1)<=4294967295*(n+1):=Int.mul_le_mul_of_nonneg_right U U;have a:0<=QC d*(n+1):=Int.mul_nonneg b U;generalize QC d*(n+1)=y at c a;rw[u64_in y a U,Iu _ Z0,IntWalk.i64_in _ U];omega
end Go.TL
namespace Go.TL
open Go.Proofs.Tryz
open Go.Proofs
variable [ZN]
def R0 (d:Zg) (l:List Int):Nat:=(XD d ((l.length:Int)-1)).toNat
theorem uk (d:Zg) (hd:d.Z3.length<2 ^ 63) (l:List Int) (g:0<l.length) (h:l.length<1000000):Μ prog 61 [.Ο 0 1 0 0,ζ R 1 l] [ZK d] (λr s=>r=R (l.getD (R0 d l) 0)/\s=[ZK (d.after ((l.length:Int)-1))]) (λ_ _=>False):=by
 refine Μ.body Υ func61 rfl rfl ntmps61 rfl rfl J ?_;have c:IntKind.i64.wrap ((l.length:Int)-1)=(l.length:Int)-1:=IntWalk.i64_in _ U;obtain⟨t0,t1⟩:=S5 d ((l.length:Int)-1) U U;obtain⟨k,b⟩:∃k:Nat,XD d ((l.length:Int)-1)=k:=⟨(XD d ((l.length:Int)-1)).toNat,U⟩;have a:k<l.length:=U;have e:R0 d l=k:=by unfold R0;rw[b];rfl
 refine Χ ?_;refine XX c λi f=>?_;refine Μ.one (as0:=[.Ο 0 1 0 0,R ((l.length:Int)-1)]) (GF d hd _) 0 rfl (R1 d) (R1 _) (by simp[Xh,Sd]) ((ψ.z _).WA 1) rfl ?_;rw[b];simp[TQ,a];(repeat (rw[Ν];simp[a]));apply f;exact W.ret ⟨_,rfl,by rw[e];simp[XJ,a],rfl⟩
end Go.TL
namespace Go.TL
open Go.Proofs.Tryz
open Go.Conc
variable [ZN]
section
variable {P:Program} {T:ZR} {A:List Nat} {m nt:Nat} {k:List Item} {env:Δ} {σ:Ρ} {Z:XZ} {E:Yf} {ops:Array Oper}
def CG (P:Program) (m nt:Nat) (k:List Item) (Z:XZ) (E:Yf) (ops:Array Oper) (i:Nat) (o:Oper) (env:Δ) (r:Row) (a:I) (b:Row):Prop:=
 ∀env' τ rest,SI ops o env env'->W P m nt (.inRegion ops rest::k) (Zt o env' a) (b::τ) Z E->W P m nt (.inRegion ops (i::rest)::k) env' (r::τ) Z E
def StepB (P:Program) (m nt:Nat) (k:List Item) (Z:XZ) (E:Yf) (ops:Array Oper) (i:Nat) (o:Oper) (env:Δ) (τ:Ρ) (a:I) (b:Ρ):Prop:=
 ∀env' r rest,SI ops o env env'->W P m nt (.inRegion ops rest::k) (Zt o env' a) (r::b) Z E->W P m nt (.inRegion ops (i::rest)::k) env' (r::τ) Z E
theorem CF {l:Type} {f:Nat->l} {tags:List Bool} (m:∀i o,ops[i]?=some o->writer ops tags i=false->f (i+1)=f i):∀a b,a<=ops.size->b<=ops.size->(∀j,j<ops.size->writer ops tags j=true->(j<a↔j<b))->f a=f b:=by
 have g:∀(d a:Nat),a+d<=ops.size->(∀j,a<=j->j<a+d->writer ops tags j=false)->f (a+d)=f a:=by
  intro d
  induction d with
  | zero=>intro a _ _;rfl
  | succ d n=>
   intro a hle h;have c:ops[a+d]?=some ops[a+d]:=XI U;have:=m (a+d) _ c (h (a+d) U U);rw[show a+(d+1)=a+d+1 by omega,this];exact n a U λj c k=>h j c U
 intro a b p r h;rcases Nat.le_total a b with hle|hle
 .have:=g (b-a) a U λj c k=>by
   cases e:writer ops tags j with
   | false=>rfl
   | true=>have:=(h j U e).2 U;omega
  rw[show a+(b-a)=b by omega] at this;exact this.symm
 .have:=g (a-b) b U λj c k=>by
   cases e:writer ops tags j with
   | false=>rfl
   | true=>have:=(h j U e).1 U;omega
  rw[show b+(a-b)=a by omega] at this;exact this
theorem CE {tags:List Bool} (a:TX ops tags=true):∀i o,ops[i]?=some o->(∀j∈W1 o,j<i)/\∀j b,j<i->ops[j]?=some b->clash ops tags i j o b=true->j∈(JI ops).getD i []:=by
 intro i o d;have hi:i<ops.size:=(T'.1 d).1;unfold TX Qa at a;simp only[Wv,Wb] at a;have h:=a i hi;rw[d] at h;simp only[VT,Wv,decide_eq_true_eq,Wb] at h;refine⟨h.1,λj b f g e=>?_⟩;have c:=h.2 j f;rw[g] at c;unfold clash at e;simp only[e,Bool.not_true,Bool.false_or,K4] at c;exact c
theorem CD {tags:List Bool}:∀j,writer ops tags j=true->tags.getD j false=true:=λj h=>by
 unfold writer at h;rw[VT] at h;exact h.1
theorem CC {tags:List Bool} {i:Nat} {c:Oper} (e:tags.getD i false=true):∀j a,ops[j]?=some a->writer ops tags j=true->clash ops tags i j c a=true/\clash ops tags j i a c=true:=λj a f b=>by
 have d:=CD j b;unfold writer at b;rw[d,f] at b;have g:V5 a=false:=by simpa using b
 unfold clash Uk P';rw[d,e,g];simp
theorem W.uj {as9:Nat->I} {ρs:Nat->Row} {τs:Nat->Ρ} {td tb:List Bool} {env0:Δ} (aA:TX ops td=true) (aB:TX ops tb=true)
  (aC:∀i o,ops[i]?=some o->td.getD i false=false->tb.getD i false=false->Pn P m nt k Z E ops i o (Za ops env0 as9 (λ_=>true) i) (as9 i))
  (aD:∀i o,ops[i]?=some o->td.getD i false=true->CG P m nt k Z E ops i o (Za ops env0 as9 (λ_=>true) i) (ρs i) (as9 i) (ρs (i+1))/\tb.getD i false=false)
  (aE:∀i o,ops[i]?=some o->tb.getD i false=true->StepB P m nt k Z E ops i o (Za ops env0 as9 (λ_=>true) i) (τs i) (as9 i) (τs (i+1)))
  (aF:∀i o,ops[i]?=some o->writer ops td i=false->ρs (i+1)=ρs i) (aG:∀i o,ops[i]?=some o->writer ops tb i=false->τs (i+1)=τs i)
  (aH:W P m nt (.inRegion ops []::k) (Za ops env0 as9 (λ_=>true) ops.size) (ρs ops.size::τs ops.size) Z E) :
  ∀(Q:Nat) (t:Nat) (listed:Array Bool) (env:Δ) (g n:Nat),listed.size=ops.size->
   (∀i,Z7 env i=Z7 (Za ops env0 as9 (λi=>listed.getD i false) ops.size) i)->
   (∀i o,ops[i]?=some o->listed.getD i false=true->∀j∈W1 o,listed.getD j false=true)->
   g<=ops.size->n<=ops.size->(∀j,j<ops.size->writer ops td j=true->(listed.getD j false=true↔j<g))->(∀j,j<ops.size->writer ops tb j=true->(listed.getD j false=true↔j<n))->
   ((List.range ops.size).filter λi=>!listed.getD i false).length<=Q->
   W P m nt (.inRegion ops (Region.linearise.go .any ops Q t listed [])::k) env (ρs g::τs n) Z E:=by
 have ad:=CE aA
 have an:=CE aB
 have ae:∀i o,ops[i]?=some o->∀j∈W1 o,j<i:=λi o l=>(ad i o l).1
 have ao:=CF aF
 have ap:=CF aG;intro Q;have done:∀(t:Nat) (listed:Array Bool) (env:Δ) (g n:Nat),(∀i,i<ops.size->listed.getD i false=true)->(∀i,Z7 env i=Z7 (Za ops env0 as9 (λi=>listed.getD i false) ops.size) i)->g<=ops.size->n<=ops.size->
   (∀j,j<ops.size->writer ops td j=true->(listed.getD j false=true↔j<g))->(∀j,j<ops.size->writer ops tb j=true->(listed.getD j false=true↔j<n))->W P m nt (.inRegion ops []::k) env (ρs g::τs n) Z E:=λt listed env g n L M F H v K=>by
  have aI:ρs g=ρs ops.size:=ao g ops.size F (Z1 _) λj d p=>by rw[<-v j d p];simp[L j d,d]
  have Φ:τs n=τs ops.size:=ap n ops.size H (Z1 _) λj d p=>by rw[<-K j d p];simp[L j d,d]
  rw[aI,Φ];refine .congr (λi=>?_) aH;rw[M i];exact Nn ops.size λi o hi _ _=>L i hi
 have aJ:∀listed:Array Bool,listed.size=ops.size->(∃i,i<ops.size/\listed.getD i false=false)->∃i,i<ops.size/\listed.getD i false=false/\∀j,j<i->listed.getD j false=true:=λlisted R ⟨i,hi,s⟩=>by
  induction i using Nat.strongRecOn with
  | _ i T=>
   by_cases d:∃j,j<i/\listed.getD j false=false
   .obtain⟨j,w,A⟩:=d;exact T j w U A
   .exact⟨i,hi,s,λj aK=>by
     cases h:listed.getD j false with
     | true=>rfl
     | false=>exact absurd ⟨j,aK,h⟩ d⟩
 induction Q with
 | zero=>
  intro t listed env g n R M V F H v K aL;have L:∀i,i<ops.size->listed.getD i false=true:=λi hi=>by
   cases h:listed.getD i false with
   | true=>rfl
   | false=>
    have aa:i∈(List.range ops.size).filter λi=>!listed.getD i false:=by rw[Ss];exact⟨Wb.2 hi,by rw[h];rfl⟩
    have:((List.range ops.size).filter λi=>!listed.getD i false)=[]:=YP.1 U;rw[this] at aa;simp at aa
  exact done t listed env g n L M F H v K
 | succ Q T=>
  intro t listed env g n R M V F H v K aL;simp only[Region.linearise.go];generalize aM:((List.range ops.size).filter λi=>!listed.getD i true&&((ops[i]?).map (·.after.all λe=>!Region.binds .any e||listed.getD e.on false)).getD false)=N;have aq:∀i,i<ops.size->listed.getD i true=listed.getD i false:=λi hi=>by
   rw[WU,WU,XI U];rfl
  have ar:∀i,i∈N↔i<ops.size/\listed.getD i false=false/\∀o,ops[i]?=some o->∀j∈W1 o,listed.getD j false=true:=λi=>by
   rw[<-aM];simp only[Ss,Wb,VT,Bool.not_eq_true'];constructor
   .rintro⟨w,A,C⟩;rw[aq i w] at A;refine⟨w,A,λo l j d=>?_⟩;rw[l] at C;simp only[Option.map_some,Option.getD_some,KX] at C;unfold W1 at d;simp only[Zd,Ss] at d;obtain⟨e,⟨aN,aO⟩,rfl⟩:=d;have:=C e (by simpa using aN);simpa[aO] using this
   .rintro⟨w,A,C⟩;refine⟨w,by rw[aq i w];exact A,?_⟩;have l:ops[i]?=some ops[i]:=XI w;rw[l];simp only[Option.map_some,Option.getD_some,KX];intro e aP;by_cases au:Region.binds .any e=true
    .have:=C _ l e.on (by unfold W1;simp only[Zd,Ss];exact⟨e,⟨by simpa using aP,au⟩,rfl⟩);simp[this]
    .simp[au]
  cases hi:N[t % N.length]? with
  | none=>
   simp only[List.reverse_nil];have aQ:N=[]:=by
    cases aR:N with
    | nil=>rfl
    | cons x xs=>
     rw[aR] at hi;have af:t % (x::xs).length<(x::xs).length:=Nat.mod_lt _ J;rw[ε af] at hi;cases hi
   have L:∀i,i<ops.size->listed.getD i false=true:=λi O=>by
    cases h:listed.getD i false with
    | true=>rfl
    | false=>
     obtain⟨r,w,A,C⟩:=aJ listed R ⟨i,O,h⟩;have:r∈N:=(ar r).2 ⟨w,A,λo l j d=>C j (ae r o l j d)⟩;rw[aQ] at this;simp at this
   exact done t listed env g n L M F H v K
  | some i=>
   simp only;rw[EI];have aa:i∈N:=Zf hi;obtain⟨w,A,C⟩:=(ar i).1 aa;have l:ops[i]?=some ops[i]:=XI w;have aS:=JH ae (λj=>listed.getD j false=true) (λj o d s=>V j o d s) i _ l (C _ l);have low:∀j f,j<i->ops[j]?=some f->(clash ops td i j ops[i] f=true\/clash ops tb i j ops[i] f=true)->listed.getD j false=true:=λj f d u B=>aS j (B.elim (λB=>(ad i _ l).2 j f d u B) (λB=>(an i _ l).2 j f d u B));have high:∀j f,i<j->ops[j]?=some f->(clash ops td j i f ops[i]=true\/clash ops tb j i f ops[i]=true)->listed.getD j false=false:=λj f d u B=>by
    cases s:listed.getD j false with
    | false=>rfl
    | true=>
     have:=JH ae (λj=>listed.getD j false=true) (λj o d s=>V j o d s) j f u (V j f u s) i (B.elim (λB=>(ad j f u).2 i _ d l B) (λB=>(an j f u).2 i _ d l B));rw[A] at this;cases this
   have ag:SI ops ops[i] (Za ops env0 as9 (λ_=>true) i) env:=λx av=>by
    rw[M x];have ah:Z7 (Za ops env0 as9 (λi=>listed.getD i false) ops.size) x=Z7 (Za ops env0 as9 (λi=>listed.getD i false) i) x:=JG U λj f aT aU u hd=>by
     by_cases e:j=i
     .subst e;exact A
     .refine high j f U u ?_;unfold clash Uk P';simp[hd,av]
    rw[ah];exact Nn i λj f d u hd=>low j f d u (.inl (by unfold clash Uk P';simp[hd,av]))
   have ai:∀x,Z7 (Zt ops[i] env (as9 i)) x=Z7 (Za ops env0 as9 (λj=>(listed.setIfInBounds i true).getD j false) ops.size) x:=λx=>by
    have D:∀j,(listed.setIfInBounds i true).getD j false=if j=i then true else listed.getD j false:=λj=>by
     rw[WU,WU];by_cases e:j=i
     .subst e;rw[Tt U];simp
     .rw[UW (YQ e),if_neg e]
    rw[Ol];by_cases hd:ops[i].dst=some x
    .rw[if_pos hd];have ah:Z7 (Za ops env0 as9 (λj=>(listed.setIfInBounds i true).getD j false) ops.size) x=Z7 (Za ops env0 as9 (λj=>(listed.setIfInBounds i true).getD j false) (i+1)) x:=JG U λj f aT aU u aj=>by
      rw[D,if_neg U];refine high j f U u (.inl ?_);unfold clash Uk P';simp[hd,aj]
     rw[ah];simp only[Za,D,if_true,l,Ol,hd]
    .rw[if_neg hd,M x];exact Nn ops.size λj f d u aj=>by
      rw[D,if_neg];intro e;subst e;rw[l] at u;cases u;exact hd aj
   have D:∀j,(listed.setIfInBounds i true).getD j false=if j=i then true else listed.getD j false:=λj=>by
    rw[WU,WU];by_cases e:j=i
    .subst e;rw[Tt U];simp
    .rw[UW (YQ e),if_neg e]
   have ak:((List.range ops.size).filter λj=>!(listed.setIfInBounds i true).getD j false).length<=Q:=by
    have af:((List.range ops.size).filter λj=>!(listed.setIfInBounds i true).getD j false).length<((List.range ops.size).filter λj=>!listed.getD j false).length:=by
     have:((List.range ops.size).filter λj=>!(listed.setIfInBounds i true).getD j false)=((List.range ops.size).filter λj=>!listed.getD j false).filter λj=>j != i:=by
      rw[List.filter_filter];apply List.filter_congr;intro j _;rw[D];by_cases e:j=i
      .subst e;simp
      .simp[e]
     rw[this];have aV:i∈(List.range ops.size).filter λj=>!listed.getD j false:=by
      rw[Ss];exact⟨Wb.2 w,by rw[A];rfl⟩
     exact List.length_filter_lt_length_iff_exists.2 ⟨i,aV,J⟩
    omega
   have al:∀j o,ops[j]?=some o->(listed.setIfInBounds i true).getD j false=true->∀y∈W1 o,(listed.setIfInBounds i true).getD y false=true:=λj o d s y aw=>by
    rw[D] at s ⊢;by_cases e:y=i
    .rw[if_pos e]
    .rw[if_neg e];by_cases Φ:j=i
     .subst Φ;rw[l] at d;cases d;exact C _ l y aw
     .rw[if_neg Φ] at s;exact V j o d s y aw
   have ab:∀(tags:List Bool) (g:Nat),tags.getD i false=false->(∀j,j<ops.size->writer ops tags j=true->(listed.getD j false=true↔j<g))->∀j,j<ops.size->writer ops tags j=true->((listed.setIfInBounds i true).getD j false=true↔j<g):=λtags g X v j d p=>by
    rw[D];have:j≠i:=λe=>by subst e;rw[CD j p] at X;cases X
    rw[if_neg this];exact v j d p
   have keepW:∀(tags:List Bool) (g:Nat),writer ops tags i=false->(∀j,j<ops.size->writer ops tags j=true->(listed.getD j false=true↔j<g))->∀j,j<ops.size->writer ops tags j=true->((listed.setIfInBounds i true).getD j false=true↔j<g):=λtags g ax v j d p=>by
    rw[D];have:j≠i:=λe=>by subst e;rw[p] at ax;cases ax
    rw[if_neg this];exact v j d p
   have ay:∀(tags:List Bool),tags.getD i false=true->(∀j f,j<i->ops[j]?=some f->clash ops tags i j ops[i] f=true->listed.getD j false=true)->(∀j f,i<j->ops[j]?=some f->clash ops tags j i f ops[i]=true->listed.getD j false=false)->
     (∀j,j<ops.size->writer ops tags j=true->j<i->listed.getD j false=true)/\(∀j,j<ops.size->writer ops tags j=true->i<j->listed.getD j false=false):=λtags X lo hi=>⟨λj d p am=>lo j _ am (XI d) (CC X j _ (XI d) p).1,λj d p am=>hi j _ am (XI d) (CC X j _ (XI d) p).2⟩
   have az:∀(tags:List Bool) (g:Nat),(∀j,j<ops.size->writer ops tags j=true->j<i->listed.getD j false=true)->(∀j,j<ops.size->writer ops tags j=true->i<j->listed.getD j false=false)->(∀j,j<ops.size->writer ops tags j=true->(listed.getD j false=true↔j<g))->∀j,j<ops.size->writer ops tags j=true->(j<g↔j<i):=λtags g lo hi v j d p=>by
    rw[<-v j d p];constructor
    .intro s;apply Ts;intro aW;by_cases e:j=i
     .subst e;rw[A] at s;cases s
     .rw[hi j d p U] at s;cases s
    .exact lo j d p
   have next:∀(tags:List Bool),(∀j,j<ops.size->writer ops tags j=true->j<i->listed.getD j false=true)->(∀j,j<ops.size->writer ops tags j=true->i<j->listed.getD j false=false)->∀j,j<ops.size->writer ops tags j=true->((listed.setIfInBounds i true).getD j false=true↔j<i+1):=λtags lo hi j d p=>by
    rw[D];by_cases e:j=i
    .subst e;simp
    .rw[if_neg e];constructor
     .intro s;apply Ts;intro aW;rw[hi j d p U] at s;cases s
     .intro af;exact lo j d p U
   cases Y:td.getD i false with
   | true=>
    obtain⟨aX,S⟩:=aD i _ l Y;obtain⟨lo,O⟩:=ay td Y (λj f a b c=>low j f a b (.inl c)) (λj f a b c=>high j f a b (.inl c));rw[ao g i F U (az td g lo O v)];refine aX env _ _ ag ?_;exact T _ _ _ (i+1) n (by simpa using R) ai al U H (next td lo O) (ab tb n S K) ak
   | false=>
    cases S:tb.getD i false with
    | false=>
     refine aC i _ l Y S env _ _ ag ?_;exact T _ _ _ g n (by simpa using R) ai al F H (ab td g Y v) (ab tb n S K) ak
    | true=>
     obtain⟨lo,O⟩:=ay tb S (λj f a b c=>low j f a b (.inr c)) (λj f a b c=>high j f a b (.inr c));rw[ap n i H U (az tb n lo O K)];refine aE i _ l S env _ _ ag ?_;exact T _ _ _ g (i+1) (by simpa using R) ai al F U (ab td g Y v) (next tb lo O) ak
def MQ (f:Row->YX) (K:I->Ρ->Prop):Prop:=∃a b,((∀r,f r=.ok a (r::b))\/∃p:Prop,p/\∀r,f r=.Y9 p (.ok a (r::b)))/\K a b
theorem ui {f g:Row->YX} {K:I->Ρ->Prop} (h:∀r,f r=g r):MQ f K=MQ g K:=by rw[funext h]
theorem uh {a:I} {τ:Ρ} {K:I->Ρ->Prop}:MQ (λr=>.ok a (r::τ)) K=K a τ:=by
 refine propext ⟨λ⟨b,f,h,d⟩=>?_,λh=>⟨a,τ,.inl λ_=>rfl,h⟩⟩;rcases h with h|⟨p,_,h⟩
 .have:=h (.map []);injection this with e c
  injection c with _ c
  rw[e,c];exact d
 .have:=h (.map []);cases this
theorem ug {p:Prop} {a:I} {τ:Ρ} {K:I->Ρ->Prop}:MQ (λr=>.Y9 p (.ok a (r::τ))) K=(p/\K a τ):=by
 refine propext ⟨λ⟨b,i,h,e⟩=>?_,λh=>⟨a,τ,.inr ⟨p,h.1,λ_=>rfl⟩,h.2⟩⟩;rcases h with h|⟨q,f,h⟩
 .have:=h (.map []);cases this
 .have:=h (.map []);injection this with g c
  injection c with c d
  injection d with _ d
  rw[c,d];exact⟨g▸f,e⟩
def Lm (P:Program) (f:I) (args:ξ) (r:Row) (c:I->Prop) (d:I->Row->Prop):Prop:=
 (∃a,Xu P f args a/\c a)\/∃a r',(∀τ,W5 P f args (r::τ) (λb s=>b=a/\s=r'::τ) (λ_ _=>False))/\d a r'
theorem uf {P:Program} {f:I} {args:ξ} {r r':Row} {d:I->Prop} {c:I->Row->Prop} {a:I} (h:∀τ,W5 P f args (r::τ) (λb s=>b=a/\s=r'::τ) (λ_ _=>False)) (k:c a r'):Lm P f args r d c:=.inr ⟨a,r',h,k⟩
def Ll (P:Program) (T:ZR) (A:List Nat) (env:Δ) (o:Oper) (r:Row) (τ:Ρ) (a:I->Prop) (b:I->Row->Prop) (c:I->Ρ->Prop):Prop:=match o.op with
 | .call ⟨.value f,args,_⟩=>Lm P (η env f) (args.toList.map (η env)) r a b
 | .panic _=>False
 | .defer _=>False
 | _=>(VN T A env o).X' a (MQ (λr=>Wt T A env (r::τ) o) c)
theorem ub {P:Program} {T:ZR} {A:List Nat} {env:Δ} {o:Oper} {r:Row} {τ:Ρ} {a:I->Prop} {b:I->Row->Prop} {c:I->Ρ->Prop}:Ll P T A env o r τ a b c=match o.op with
 | .call ⟨.value f,args,_⟩=>Lm P (η env f) (args.toList.map (η env)) r a b
 | .panic _=>False
 | .defer _=>False
 | _=>(VN T A env o).X' a (MQ (λr=>Wt T A env (r::τ) o) c):=XB rfl rfl
def VX (P:Program) (T:ZR) (A:List Nat) (nt:Nat) (ops:Array Oper):List Nat->Δ->Row->Ρ->List Bool->List Bool->(Δ->Ρ->Prop)->Prop
 | [],env,r,τ,td,tb,K=>TX ops td=true/\TX ops tb=true/\K env (r::τ)
 | i::is,env,r,τ,td,tb,K=>Xm ops[i]? λo=>W2 nt o=true/\Xm (XM env ops o) λw=>
   Ws w (VX P T A nt ops is (Zt o env .Zk) r τ (td++[false]) (tb++[false]) K)
    (Ll P T A env o r τ (λa=>VX P T A nt ops is (Zt o env a) r τ (td++[false]) (tb++[false]) K) (λa r'=>VX P T A nt ops is (Zt o env a) r' τ (td++[true]) (tb++[false]) K) (λa b=>VX P T A nt ops is (Zt o env a) r b (td++[false]) (tb++[true]) K))
def CB (P:Program) (T:ZR) (A:List Nat) (nt:Nat) (ops:Array Oper) (is:List Nat) (o:Oper) (env:Δ) (r:Row) (τ:Ρ) (td tb:List Bool) (K:Δ->Ρ->Prop) (a:I):Prop:=VX P T A nt ops is (Zt o env a) r τ (td++[false]) (tb++[false]) K
def CA (P:Program) (T:ZR) (A:List Nat) (nt:Nat) (ops:Array Oper) (is:List Nat) (o:Oper) (env:Δ) (τ:Ρ) (td tb:List Bool) (K:Δ->Ρ->Prop) (a:I) (r:Row):Prop:=VX P T A nt ops is (Zt o env a) r τ (td++[true]) (tb++[false]) K
def Cz (P:Program) (T:ZR) (A:List Nat) (nt:Nat) (ops:Array Oper) (is:List Nat) (o:Oper) (env:Δ) (r:Row) (td tb:List Bool) (K:Δ->Ρ->Prop) (a:I) (τ:Ρ):Prop:=VX P T A nt ops is (Zt o env a) r τ (td++[false]) (tb++[true]) K
section
variable {is:List Nat} {i:Nat} {o:Oper} {r:Row} {τ:Ρ} {td tb:List Bool} {K:Δ->Ρ->Prop} {a:I}
theorem VE:VX P T A nt ops [] env r τ td tb K=(TX ops td=true/\TX ops tb=true/\K env (r::τ)):=XB rfl rfl
theorem VD:VX P T A nt ops (i::is) env r τ td tb K=Xm ops[i]? λo=>W2 nt o=true/\Xm (XM env ops o) λw=>
   Ws w (VX P T A nt ops is (Zt o env .Zk) r τ (td++[false]) (tb++[false]) K) (Ll P T A env o r τ (CB P T A nt ops is o env r τ td tb K) (CA P T A nt ops is o env τ td tb K) (Cz P T A nt ops is o env r td tb K)):=XB rfl rfl
theorem ua:CB P T A nt ops is o env r τ td tb K a=VX P T A nt ops is (Zt o env a) r τ (td++[false]) (tb++[false]) K:=XB rfl rfl
theorem tZ:CA P T A nt ops is o env τ td tb K a r=VX P T A nt ops is (Zt o env a) r τ (td++[true]) (tb++[false]) K:=XB rfl rfl
theorem tY:Cz P T A nt ops is o env r td tb K a τ=VX P T A nt ops is (Zt o env a) r τ (td++[false]) (tb++[true]) K:=XB rfl rfl
end
def GD (P:Program) (m nt:Nat) (k:List Item) (Z:XZ) (E:Yf) (ops:Array Oper) (i:Nat) (o:Oper) (env:Δ) (r:Row) (τ:Ρ) (d b:Bool) (a:I) (r':Row) (c:Ρ):Prop:=
 (d=true/\b=false/\CG P m nt k Z E ops i o env r a r'/\c=τ)\/(d=false/\b=true/\StepB P m nt k Z E ops i o env τ a c/\r'=r/\(V5 o=true->c=τ))\/(d=false/\b=false/\Pn P m nt k Z E ops i o env a/\r'=r/\c=τ)
theorem tX (M:Zz P T) {i:Nat} {is:List Nat} {r:Row} {τ:Ρ} {td tb:List Bool} {K:Δ->Ρ->Prop} (h:VX P T A nt ops (i::is) env r τ td tb K) :
  ∃o a r' g d b,ops[i]?=some o/\GD P m nt k Z E ops i o env r τ d b a r' g/\(d=true->V5 o=false)/\VX P T A nt ops is (Zt o env a) r' g (td++[d]) (tb++[b]) K:=by
 unfold VX Xm at h;split at h
 .exact h.elim
 .rename_i o j;obtain⟨hd,h⟩:=h;split at h
  .exact h.elim
  rename_i w B;unfold Ws at h;cases w
  .replace h:=h.1 rfl
   exact⟨o,.Zk,r,τ,false,false,j,.inr (.inr ⟨rfl,rfl,λenv' σ' rest e n=>.unwanted j (by rw[UN e];exact B) hd n,rfl,rfl⟩),λh=>(by cases h),h⟩
  .replace h:=h.2 rfl
   unfold Ll at h;split at h
   .rename_i f args X D;have N:∀env',SI ops o env env'->η env' f=η env f/\args.toList.map (η env')=args.toList.map (η env):=λenv' e=>by
     have F:=LS e;rw[D] at F;refine⟨F f (by simp[Op.operands,Call.operands]),LR λx S=>F x (by simp[Op.operands,Call.operands,S])⟩
    rcases h with⟨a,v,h⟩|⟨a,r',v,h⟩
    .refine⟨o,a,r,τ,false,false,j,.inr (.inr ⟨rfl,rfl,λenv' σ' rest e n=>.call j (by rw[UN e];exact B) hd D ?_,rfl,rfl⟩),λh=>(by cases h),h⟩;obtain⟨H,Φ⟩:=N env' e;rw[H,Φ];exact(v σ').mono (λa s ⟨x,y⟩=>by subst x;subst y;exact n) (λ_ _ h=>h.elim)
    .refine⟨o,a,r',τ,true,false,j,.inl ⟨rfl,rfl,λenv' g rest e n=>.call j (by rw[UN e];exact B) hd D ?_,rfl⟩,λ_=>(by unfold V5;rw[D]),h⟩;obtain⟨H,Φ⟩:=N env' e;rw[H,Φ];exact(v g).mono (λa s ⟨x,y⟩=>by subst x;subst y;exact n) (λ_ _ h=>h.elim)
   .exact h.elim
   .exact h.elim
   .rename_i Y aa O;have Q:∀(C:Zc) (a:I),VN T A env o=C->(∀K:I->Ρ->Prop,∀s,K a s->(C.YC s).holds K)->(∀σ s,C.or σ s=C.YC σ)->Pn P m nt k Z E ops i o env a:=λC a u J U env' σ' rest e n=>by
     refine .op (A:=A) M j (by rw[UN e];exact B) hd (λc v=>O c v) ?_;rw[P9 e,u,U];exact J _ _ n
    unfold Zc.X' at h;split at h
    .rename_i a L;exact⟨o,a,r,τ,false,false,j,.inr (.inr ⟨rfl,rfl,Q _ a L (λK s t=>t) (λ_ _=>rfl),rfl,rfl⟩),λh=>(by cases h),h⟩
    .rename_i p a L;exact⟨o,a,r,τ,false,false,j,.inr (.inr ⟨rfl,rfl,Q _ a L (λK s t=>⟨h.1,t⟩) (λ_ _=>rfl),rfl,rfl⟩),λh=>(by cases h),h.2⟩
    .exact h.elim
    .rename_i V;have W:∀(a:I) (g:Ρ),(∀r,∃x:YX,Wt T A env (r::τ) o=x/\∀K:I->Ρ->Prop,K a (r::g)->x.holds K)->StepB P m nt k Z E ops i o env τ a g:=λa g u env' r rest e n=>by
      obtain⟨x,u,J⟩:=u r;refine .op (A:=A) M j (by rw[UN e];exact B) hd (λc v=>O c v) ?_;rw[P9 e,Nm e,V,u];exact J _ n
     obtain⟨a,g,l,t⟩:=h;refine⟨o,a,r,g,false,true,j,.inr (.inl ⟨rfl,rfl,W a g λr=>?_,rfl,λu=>?_⟩),λh=>(by cases h),t⟩
     .rcases l with l|⟨p,R,l⟩
      .exact⟨_,l r,λK t=>t⟩
      .exact⟨_,l r,λK t=>⟨R,t⟩⟩
     .have:r::g=r::τ:=by
       rcases l with l|⟨p,R,l⟩
       .exact Nk (p:=True) u (.inl (l r))
       .exact Nk u (.inr (l r))
      injection this
theorem tW (B:Zz P T) {K:Δ->Ρ->Prop} {env0:Δ}:∀(d i:Nat) (td tb:List Bool) (as9:Nat->I) (ρs:Nat->Row) (τs:Nat->Ρ),i+d=ops.size->td.length=i->tb.length=i->
  (∀j o,j<i->ops[j]?=some o->GD P m nt k Z E ops j o (Za ops env0 as9 (λ_=>true) j) (ρs j) (τs j) (td.getD j false) (tb.getD j false) (as9 j) (ρs (j+1)) (τs (j+1))/\(td.getD j false=true->V5 o=false))->
  VX P T A nt ops (List.range' i d) (Za ops env0 as9 (λ_=>true) i) (ρs i) (τs i) td tb K->
  ∃(td tb:List Bool) (as9:Nat->I) (b:Nat->Row) (c:Nat->Ρ),TX ops td=true/\TX ops tb=true/\b 0=ρs 0/\c 0=τs 0/\(∀j o,ops[j]?=some o->GD P m nt k Z E ops j o (Za ops env0 as9 (λ_=>true) j) (b j) (c j) (td.getD j false) (tb.getD j false) (as9 j) (b (j+1)) (c (j+1))/\(td.getD j false=true->V5 o=false))/\K (Za ops env0 as9 (λ_=>true) ops.size) (b ops.size::c ops.size):=by
 intro d
 induction d with
 | zero=>
  intro i td tb as9 ρs τs hi n p g h;simp only[List.range'_zero,VX] at h;have:i=ops.size:=U;subst this;exact⟨td,tb,as9,ρs,τs,h.1,h.2.1,rfl,rfl,λj o l=>g j o (T'.1 l).1 l,h.2.2⟩
 | succ d C=>
  intro i td tb as9 ρs τs hi n p g h;rw[My] at h;obtain⟨o,a,r',D,r,s,l,F,H,h⟩:=tX (m:=m) (k:=k) (Z:=Z) (E:=E) B h;let f:Nat->I:=λj=>if j=i then a else as9 j
  let b:Nat->Row:=λj=>if j=i+1 then r' else ρs j
  let c:Nat->Ρ:=λj=>if j=i+1 then D else τs j
  have u:∀j,j<=i->Za ops env0 as9 (λ_=>true) j=Za ops env0 f (λ_=>true) j:=λj g=>HG j λx Y=>by simp only[f];rw[if_neg U]
  have J:Za ops env0 f (λ_=>true) (i+1)=Zt o (Za ops env0 as9 (λ_=>true) i) a:=by
   simp only[Za,if_true,l];rw[<-u i (Z1 i)];simp only[f,if_true]
  have w:∀(t:List Bool) (x:Bool),t.length=i->(t++[x]).getD i false=x:=λt x h=>by rw[XJ,Xw U,h];simp
  have y:∀(t:List Bool) (x:Bool) (j:Nat),t.length=i->j<i->(t++[x]).getD j false=t.getD j false:=λt x j h g=>by rw[XJ,Y0 U,<-XJ]
  have:=C (i+1) (td++[r]) (tb++[s]) f b c U (by simp[n]) (by simp[p]) (λj L aa v=>?_) ?_
  .obtain⟨t1,t2,M,N,O,Q,R,S,V,W,X⟩:=this;exact⟨t1,t2,M,N,O,Q,R,S.trans (by simp only[b];rw[if_neg U]),V.trans (by simp only[c];rw[if_neg U]),W,X⟩
  .by_cases e:j=i
   .subst e;rw[l] at v;cases v;rw[<-u j (Z1 j),w td r n,w tb s p];simp only[f,b,c,if_true];rw[if_neg U,if_neg U];exact⟨F,H⟩
   .have:=g j L U v;rw[<-u j U,y td r j n U,y tb s j p U];simp only[f,b,c];rw[if_neg U,if_neg U,if_neg U,if_neg U,if_neg U];exact this
  .rw[J];simp only[b,c,if_true];exact h
theorem W.GC (C:Zz P T) (D:P.follows .mixedOrders=true) {r:Row} {τ:Ρ} {id:Nat} (h:∀l:Δ->Ρ->Prop,(∀env σ,W P m nt k env σ Z E->l env σ)->VX P T A nt ops (idx ops.size []) env r τ [] [] l):W P m nt (.code (.region id ops true)::k) env (r::τ) Z E:=by
 have p:=h (λenv σ=>W P m nt k env σ Z E) λ_ _ h=>h;rw[idx_eq,K2] at p;obtain⟨td,tb,as9,ρs,τs,F,I,K,L,f,M⟩:=tW (m:=m) (k:=k) (Z:=Z) (E:=E) (env0:=env) C ops.size 0 [] [] (λ_=>.Zk) (λ_=>r) (λ_=>τ) U rfl rfl (λj o s=>U) p;intro N mn x cs b S B H t u v O Q R;refine .draw u v λn=>?_;have g:∀i:Nat,(Array.replicate ops.size false).getD i false=false:=λi=>by
  rw[WU,OV];split<;>rfl
 have w:=W.uj (P:=P) (m:=m) (nt:=nt) (k:=k) (Z:=Z) (E:=E) (ops:=ops) (as9:=as9) (ρs:=ρs) (τs:=τs) (td:=td) (tb:=tb) (env0:=env) F I
  (λi o c d V=>by
   rcases(f i o c).1 with⟨a,_⟩|⟨_,a,_⟩|⟨_,_,a,_⟩
   .rw[d] at a;cases a
   .rw[V] at a;cases a
   .exact a)
  (λi o c d=>by
   rcases(f i o c).1 with⟨_,b,a,_⟩|⟨a,_⟩|⟨a,_⟩
   .exact⟨a,b⟩
   .rw[d] at a;cases a
   .rw[d] at a;cases a)
  (λi o c d=>by
   rcases(f i o c).1 with⟨_,a,_⟩|⟨_,_,a,_⟩|⟨_,a,_⟩
   .rw[d] at a;cases a
   .exact a
   .rw[d] at a;cases a)
  (λi o c e=>by
   rcases(f i o c).1 with⟨a,_⟩|⟨_,_,_,a,_⟩|⟨_,_,_,a,_⟩
   .unfold writer at e;rw[a,c] at e;simp[(f i o c).2 a] at e
   .exact a
   .exact a)
  (λi o c e=>by
   rcases(f i o c).1 with⟨_,_,_,a⟩|⟨_,b,_,_,a⟩|⟨_,_,_,_,a⟩
   .exact a
   .refine a ?_;unfold writer at e;rw[b,c] at e;simpa using e
   .exact a)
  (.ZC M) ops.size n (Array.replicate ops.size false) env 0 0 J (λi=>?_) (λi o c y=>?_) (Ε _) (Ε _) (λj s _=>?_) (λj s _=>?_) ?_
 .rw[K,L] at w;rw[D];simp only[Region.schedule,Bool.true_or,if_true,Region.linearise];exact w N mn x cs b S B H t u v O Q R
 .have:∀n,Za ops env as9 (λi=>(Array.replicate ops.size false).getD i false) n=env:=by
   intro n
   induction n with
   | zero=>rfl
   | succ n X=>
    simp only[Za];rw[if_neg (by rw[g n];simp)];exact X
  rw[this]
 .rw[g] at y;cases y
 .rw[g];simp
 .rw[g];simp
 .have:=K3 (λi=>!(Array.replicate ops.size false).getD i false) (List.range ops.size);simpa using this
theorem tV {K K':Δ->Ρ->Prop} (l:∀e s,K e s->K' e s):∀(is:List Nat) (env:Δ) (r:Row) (τ:Ρ) (td tb:List Bool),VX P T A nt ops is env r τ td tb K->VX P T A nt ops is env r τ td tb K':=by
 intro is
 induction is with
 | nil=>intro env r τ td tb h;exact⟨h.1,h.2.1,l _ _ h.2.2⟩
 | cons i is c=>
  intro env r τ td tb h;unfold VX Xm at h ⊢;cases g:ops[i]? with
  | none=>rw[g] at h;exact h.elim
  | some o=>
   rw[g] at h;simp only at h ⊢;refine⟨h.1,?_⟩
   replace h:=h.2
   cases j:XM env ops o with
   | none=>rw[j] at h;exact h.elim
   | some w=>
    rw[j] at h;unfold Ws at h ⊢;refine⟨λe=>c _ _ _ _ _ (h.1 e),λe=>?_⟩
    replace h:=h.2 e
    unfold Ll at h ⊢;split
    .rename_i f args k b;rw[b] at h;simp only at h;rcases h with⟨a,d,h⟩|⟨a,r',d,h⟩
     .exact .inl ⟨a,d,c _ _ _ _ _ h⟩
     .exact .inr ⟨a,r',d,c _ _ _ _ _ h⟩
    .rename_i b;rw[b] at h;exact h
    .rename_i b;rw[b] at h;exact h
    .rename_i m n p;split at h
     .rename_i f args k b;exact absurd b (m f args k)
     .rename_i y b;exact absurd b (n y)
     .rename_i y b;exact absurd b (p y)
     .unfold Zc.X' at h ⊢;split at h
      .exact c _ _ _ _ _ h
      .exact⟨h.1,c _ _ _ _ _ h.2⟩
      .exact h.elim
      .obtain⟨a,t,u,v⟩:=h;exact⟨a,t,u,c _ _ _ _ _ v⟩
theorem W.Lk (c:Zz P T) (d:P.follows .mixedOrders=true) (a:Δ) (b:Ρ) {r:Row} {τ:Ρ} {id:Nat} (h:W P m nt k a b Z E) (f:VX P T A nt ops (idx ops.size []) env r τ [] [] (λe s=>s=b/\∀p∈a,Z7 e p.1=p.2)):W P m nt (.code (.region id ops true)::k) env (r::τ) Z E:=
 W.GC c d λl g=>tV (λe s ⟨i,j⟩=>g e s (i▸W.forget a j h)) _ _ _ _ _ _ f
theorem W.S4 (c:Zz P T) (d:P.follows .mixedOrders=true) (a:Δ) (b:Ρ) {id:Nat} (h:W P m nt k a b Z E) (f:Vv P T A nt ops (idx ops.size []) env σ [] (λe s=>s=b/\∀p∈a,Z7 e p.1=p.2)):W P m nt (.code (.region id ops true)::k) env σ Z E:=
 W.draw c d λl g=>ED (λe s ⟨i,j⟩=>g e s (i▸W.forget a j h)) _ _ _ _ f
end
end Go.TL
namespace Go.TL
open Go.Proofs.Tryz
open Go.Proofs
variable [ZN]
attribute [congr] ui
attribute [simp] uh ug ub ua tZ tY
def Y3 (g:FuncId) (args:ξ) (d:Zg) (r:I) (b:Zg):Prop:=Μ prog g (.Ο 0 1 0 0::args) [ZK d] (λa s=>Zi a r/\s=[ZK b]) (λ_ _=>False)
theorem Cy {l:ξ} (h:∀a∈l,ψ 0 a) (ρ:List Nat):l.map (Yk ρ)=l:=by
 induction l with
 | nil=>rfl
 | cons a l b=>rw[XC,(h a J).Yk,b λx c=>h x (by simp[c])]
theorem Y3.c {g:FuncId} {args b:ξ} {d e:Zg} {r:I} {σ:Ρ} {K E:I->Ρ->Prop} (h:Y3 g args d r e) (id:Nat) (j:σ[id]?=some (ZK d)) (k:ZT b args) (f:∀a∈b,ψ 0 a) (i:ψ 0 r) (l:K r (σ.set id (ZK e))):W5 prog (.fn (.func g) [] []) (.Ο id 1 0 0::b) σ K E:=by
 refine Μ.one (as0:=.Ο 0 1 0 0::b) (r:=r) (row':=ZK e) (Μ.UD h (.cons (.refl _) k) λa s ⟨m,n⟩=>⟨r,m,rfl,n⟩) id j (R1 d) (R1 e) ?_ (i.WA 1) ?_ ?_
 .intro a hm;rcases Zm.1 hm with rfl|hm
  .exact Nat.zero_lt_one
  .exact(f a hm).WA 1
 .rw[XC,Cy f];rfl
 .rw[i.Yk];exact l
theorem Y3.e {g:FuncId} {args b:ξ} {d f:Zg} {r:I} {j:I->Prop} {i:I->Row->Prop} (h:Y3 g args d r f) (k:ZT b args) (l:∀a∈b,ψ 0 a) (m:ψ 0 r) (n:i r (ZK f)):Lm prog (.fn (.func g) [] []) (.Ο 0 1 0 0::b) (ZK d) j i:=
 uf (λτ=>h.c 0 rfl k l m ⟨rfl,rfl⟩) n
theorem Y3.g {g:FuncId} {args:ξ} {d b:Zg} {r:I} {σ:Ρ} {K E:I->Ρ->Prop} (h:Y3 g args d r b) (e:K r ((ZK d::σ).set 0 (ZK b))) (f:∀a∈args,ψ 0 a:=by simp) (i:ψ 0 r:=by simp):W5 prog (.fn (.func g) [] []) (.Ο 0 1 0 0::args) (ZK d::σ) K E:=h.c 0 rfl (ZT.refl _) f i e
theorem Y3.h {g:FuncId} {args:ξ} {d b:Zg} {r:I} {f:I->Prop} {c:I->Row->Prop} (h:Y3 g args d r b) (i:c r (ZK b)) (j:∀a∈args,ψ 0 a:=by simp) (k:ψ 0 r:=by simp):Lm prog (.fn (.func g) [] []) (.Ο 0 1 0 0::args) (ZK d) f c:=h.e (ZT.refl _) j k i
theorem QB {p q:Prop} (k:q) (h:q->p:=by intro k;simp;(repeat (rw[VD];simp));(try rw[VE]);exact k):p:=h k
theorem IM {p f:Prop} {q:f->Prop} (a:f) (k:q a) (h:∀a,q a->p:=by intro b k;simp[b];(repeat (rw[VD];simp[b]));(try rw[VE]);exact k):p:=h a k
theorem Y3.d {g:FuncId} {args b:ξ} {d e:Zg} {r:I} {σ:Ρ} {i:I->Prop} {f:I->Ρ->Prop} (h:Y3 g args d r e) (id:Nat) (j:σ[id]?=some (ZK d)) (k:ZT b args) (l:∀a∈b,ψ 0 a) (m:ψ 0 r) (n:f r (σ.set id (ZK e))):dcall prog (.fn (.func g) [] []) (.Ο id 1 0 0::b) σ i f:=
 Nl (h.c id j k l m ⟨rfl,rfl⟩) n
@[simp] theorem Xc (d:Zg) (n:Int):(d.after n).Z3.length<=d.Z3.length:=by
 unfold Zg.after;split
 .exact Z1 _
 .simp[Zg.next]
theorem U9 (d:Zg) (hd:d.Z3.length<2 ^ 63) (n:Int):Y3 24 [R n] d (R (XD d n)) (d.after n):=(GF d hd n).mono (λa s ⟨b,c⟩=>⟨.of b,c⟩) (λ_ _ h=>h)
theorem MP (d:Zg) (hd:d.Z3.length<2 ^ 63) (a b:Int):Y3 38 [R a,R b] d (R (S6 d a b)) (d.after (IntKind.i64.wrap (b-a))):=(uq d hd a b).mono (λa s ⟨c,e⟩=>⟨.of c,e⟩) (λ_ _ h=>h)
theorem IL (d:Zg) (hd:d.Z3.length<2 ^ 63) (l:List Int) (b:0<l.length) (c:l.length<1000000):Y3 61 [ζ R 1 l] d (R (l.getD (R0 d l) 0)) (d.after ((l.length:Int)-1)):=(uk d hd l b c).mono (λa s ⟨e,f⟩=>⟨.of e,f⟩) (λ_ _ h=>h)
def N4 (d:Zg) (n:Int):Bool:=decide (XD d (n-1)=n.tdiv 2)
theorem GB (d:Zg) (hd:d.Z3.length<2 ^ 63) (n:Int) (e:1<=n) (f:n<1000):Y3 156 [R n] d (ZU (N4 d n)) (d.after (n-1)):=by
 have a:IntKind.i64.wrap (n-1)=n-1:=IntWalk.i64_in _ U;unfold Y3;refine Μ.body Υ func156 rfl rfl ntmps156 rfl rfl J ?_;refine Χ ?_;refine XX a λh b=>?_;refine Y3.g (U9 d hd (n-1)) (XF a ?_);apply b;have c:IntKind.i64.wrap (n.tdiv 2)=n.tdiv 2:=by
  rw[It U];exact IntWalk.i64_in _ U
 rw[c];exact W.ret ⟨_,rfl,.refl _,rfl⟩
def RZ (l:List Int) (k:Nat) (x:Int):List Int:=l.take k++x::l.drop k
def W7 (d:Zg):Nat->List Int×Zg
 | 0=>([],d)
 | i+1=>(RZ (W7 d i).1 (XD (W7 d i).2 i).toNat i,(W7 d i).2.after i)
theorem IK (d:Zg) (n:Nat):(W7 d n).2.Z3.length<=d.Z3.length:=by
 induction n with
 | zero=>exact Z1 _
 | succ n a=>exact X1 (Xc _ _) a
theorem GA {l:List Int} {k:Nat} {x:Int}:(RZ l k x).length=l.length+1:=by
 unfold RZ;simp;omega
theorem IJ (d:Zg) (n:Nat):(W7 d n).1.length=n:=by
 induction n with
 | zero=>rfl
 | succ n a=>show(RZ _ _ _).length=_;rw[GA,a]
def Vp (l:List Int) (k:Nat):List Int:=(l++[0]).take (k+1)++l.drop k
theorem tU (l:List Int):Vp l l.length=l++[0]:=by unfold Vp;rw[VB J];simp
theorem Cx {l:List Int} {k:Nat} (h:k<=l.length):(Vp l k).length=l.length+1:=by
 unfold Vp;simp;omega
theorem tT {l:List Int} {k:Nat} (h:k<l.length):(Vp l (k+1))[k]?=some l[k]:=by
 unfold Vp;rw[Y0 (by simp;omega),Tq U,Y0 h,ε h]
theorem tS {l:List Int} {k:Nat} (h:k<l.length):(Vp l (k+1)).set (k+1) l[k]=Vp l k:=by
 unfold Vp;have a:((l++[0]).take (k+1+1))=(l++[0]).take (k+1)++[(l++[0])[k+1]'(by simp;omega)]:=Wx (by simp;omega);have Φ:l.drop k=l[k]::l.drop (k+1):=PH h;rw[a,Φ,U6,PF _ _ (by simp;omega)];congr 1;have:k+1-((l++[0]).take (k+1)).length=0:=by simp;omega
 rw[this];rfl
theorem tR {l:List Int} {k:Nat} {x:Int} (h:k<=l.length):(Vp l k).set k x=RZ l k x:=by
 unfold Vp RZ;have a:((l++[0]).take (k+1))=l.take k++[(l++[0])[k]'(by simp;omega)]:=by
  rw[Wx (by simp;omega),List.take_append_of_le_length h]
 rw[a,U6,PF _ _ (by rw[T6];omega)];have:k-(l.take k).length=0:=by rw[T6];omega
 rw[this];rfl
theorem Gz (d:Zg) (hd:d.Z3.length<2 ^ 63) (n:Nat) (al:n<1000):Y3 63 [R n] d (ζ R 1 (W7 d n).1) (W7 d n).2:=by
 unfold Y3;refine Μ.body Υ func63 rfl rfl ntmps63 rfl rfl J ?_;refine Χ ?_;refine W.iter (λi:Nat=>i<=n) (λi=>[(0,.Ο 0 1 0 0),(1,R n),(5,Z4 1 ((W7 d i).1.map R)),(6,R i)]) (λi=>ZK (W7 d i).2::μ 3 1 ((W7 d i).1.map R)) (λi=>n-i) 0 (Ε _) rfl (by simp[Z4,W7]) (λi hi ad=>?_);refine Χ ?_;refine W.YN rfl (λl=>?_) (λl=>?_)
 .have l:i<n:=by simpa using l
  have C:W7 d (i+1)=(RZ (W7 d i).1 (XD (W7 d i).2 i).toNat i,(W7 d i).2.after i):=rfl;obtain⟨L,E⟩:=Ι ((W7 d i).1);obtain⟨f,F⟩:=Ι ((W7 d i).2);have m:L.length=i:=by rw[E];exact IJ d i
  have ae:f.Z3.length<2 ^ 63:=by rw[F];exact OR (IK d i) hd
  rw[<-E,<-F] at C;rw[<-E,<-F];obtain⟨t0,t1⟩:=S5 f i U U;obtain⟨o,S⟩:∃k:Nat,XD f i=k:=⟨(XD f i).toNat,U⟩;rw[S] at C t1;have af:o<=i:=U;refine ZP λT v=>?_;refine Y3.g (U9 f ae i) (ZY ?_);rw[S];apply v
  repeat apply Ξ
  refine W.Yn (A:=[19]) Υ [(0,.Ο 0 1 0 0),(1,R n),(5,.ms 1 (i+1) 0 (i+1)),(6,R i),(7,R o)] [ZK (f.after i),.cells 3 1 ((Vp L i).map R)] ?_ (by
    have ag:(Vp L i).map R=L.map R++[R 0]:=by rw[<-m,tU];simp
    rw[ag];by_cases V:L=[]
    .subst V;have ah:i=0:=by simpa using m.symm
     subst ah;(try simp);(repeat (rw[Ν];simp[Wo,show Z4 1 []=.sl true 0 [] from rfl]));(try simp[Wo,show Z4 1 []=.sl true 0 [] from rfl])
    .have s:L.map R≠[]:=by simpa using V
     (try simp);(repeat (rw[Ν];simp[X8 s,YY s,m]));(try simp[X8 s,YY s,m]);omega)
  refine Χ ?_;refine W.iter (λk:Nat=>o<=k/\k<=i) (λk=>[(0,.Ο 0 1 0 0),(1,R n),(5,.ms 1 (i+1) 0 (i+1)),(6,R i),(7,R o),(8,R k)]) (λk=>[ZK (f.after i),.cells 3 1 ((Vp L k).map R)]) (λk=>k) i ⟨af,Z1 _⟩ rfl J (λk am ai=>?_);refine Χ ?_;refine W.YN rfl (λH=>?_) (λH=>?_)
  .have X:o<k:=by simpa using H
   obtain⟨j,Y⟩:∃j,k=j+1:=⟨k-1,U⟩;have Z:j<L.length:=U;have w:IntKind.i64.wrap ((k:Int)-1)=j:=by rw[IntWalk.i64_in _ U];omega
   have K:(Vp L k).length=i+1:=by rw[Cx U,m]
   obtain⟨y,M⟩:∃y,(Vp L k)[k]?=some y:=⟨_,ε U⟩;obtain⟨b,c⟩:=Ι ((Vp L k).map R);have N:b.length=i+1:=by rw[c,Yp,K]
   have O:b[j]?=some (R L[j]):=by rw[c,Yh,Y,tT Z];rfl
   have u:b[k]?=some (R y):=by rw[c,Yh,M];rfl
   have P:b.set k (R L[j])=(Vp L j).map R:=by rw[c,<-tS Z,Mv,Y]
   have aj:∀h,b[j]'h=R L[j]:=λh=>by rw[ε h] at O;exact W3 O
   have Q:∀h,b[k]'h=R y:=λh=>by rw[ε h] at u;exact W3 u
   refine W.to (σ':=[ZK (f.after i),.cells 3 1 b]) (env':=[(0,.Ο 0 1 0 0),(1,R n),(5,.ms 1 (i+1) 0 (i+1)),(6,R i),(7,R o),(8,R k)]) ?_ (by rw[c]) J;refine XX (Τ w (Τ N (Τ O (Τ u (Τ aj Q))))) λT v=>?_;refine⟨U,U,?_⟩;apply v;refine Ζ w ?_;refine W.to (ai j ⟨U,U⟩ U) ?_ ?_
   .rw[P]
   .simp
  .have X:k=o:=by simp at H;omega
   subst X;refine W.exit rfl ?_;have K:(Vp L k).length=i+1:=by rw[Cx U,m]
   obtain⟨y,M⟩:∃y,(Vp L k)[k]?=some y:=⟨_,ε U⟩;obtain⟨b,c⟩:=Ι ((Vp L k).map R);have N:b.length=i+1:=by rw[c,Yp,K]
   have u:b[k]?=some (R y):=by rw[c,Yh,M];rfl
   have P:b.set k (R i)=(RZ L k i).map R:=by rw[c,<-tR U,Mv]
   have Q:∀h,b[k]'h=R y:=λh=>by rw[ε h] at u;exact W3 u
   refine W.to (σ':=[ZK (f.after i),.cells 3 1 b]) (env':=[(0,.Ο 0 1 0 0),(1,R n),(5,.ms 1 (i+1) 0 (i+1)),(6,R i),(7,R k)]) ?_ (by rw[c]) J;refine XX (Τ N (Τ u Q)) λT v=>?_;refine⟨U,?_⟩;apply v;have w:=Yw l (show n<2 ^ 62 by omega);refine Ζ w ?_;have s:(RZ L k i).map R≠[]:=λh=>by have:=congrArg List.length h;rw[Yp,GA] at this;simp at this
   refine W.to (ad (i+1) l U) ?_ ?_
   .rw[C,P,YY (by simpa using s)];rfl
   .rw[C];simp only[Int.toNat_natCast];rw[X8 s];simp[w,GA,m]
 .have l:i=n:=by simp at l;omega
  subst l;refine W.exit rfl ?_;refine Χ ?_;refine W.cut 1 J [(4,YE 1 ((W7 d i).1.map R))] J (λid r an aa=>?_) ?_ ?_
  .have:id=0:=U
   subst this;simp at aa;subst aa;exact λe D a B=>by simp[I.cells] at D;subst D;simp[I.cells] at B;rcases B with rfl|rfl<;>simp[Y6,I.cells]
  .intro p ab;simp at ab;subst ab;show Yz 1 _ (Z7 _ 4) _;simp;refine QR (t:=3) (Z1 _) (λak=>by rw[YY ak];rfl) (λe D a B=>?_);obtain⟨x,_,rfl⟩:=Zd.1 D;simp[I.cells] at B;subst B;exact .z _
  .exact W.ret ⟨_,rfl,.acc,rfl⟩
theorem Tz (d:Zg) (h:Nat):Yc h (ZK d):=λe b a c=>by
 simp[I.cells] at b;subst b;simp[I.cells] at c;rcases c with rfl|rfl<;>simp[Y6,I.cells]
section
variable {P:Program} {m nt:Nat} {k:List Item} {env:Δ} {Z:XZ} {E:Yf}
theorem W.tQ {d:Zg} {t kk:Nat} {l:ξ} {x:Nat} (g:m<=1) (h:∀e∈l,∀a∈e.cells,ψ 0 a) (env':Δ) (hd:Z7 env x=Z4 1 l) (c:∀p∈env',Z7 env p.1=p.2/\ψ 1 p.2) (i:W P m nt k ((x,YE kk l)::env') [ZK d] Z E):W P m nt k env (ZK d::μ t kk l) Z E:=
 W.cut 1 g ((x,YE kk l)::env') J (λid r s f=>by
  have:id=0:=U;subst this;simp at f;subst f;exact Tz d 1) (λp b=>by
  rcases Zm.1 b with rfl|b
  .show Yz 1 _ (Z7 env x) _;rw[hd];exact QR (t:=t) (Z1 _) (λj=>by rw[YY j];rfl) (λe n a o=>(h e n a o).mono (Ε _))
  .rw[(c p b).1];exact .low (c p b).2) (by simpa using i)
end
theorem tP {i n:Nat} (h:i<n) (a:n<1000):IntKind.i64.wrap ((i:Int)+1)=((i+1:Nat):Int):=by
 rw[IntWalk.i64_in _ U];omega
def Wd (d:Zg):Nat->List Int×Zg
 | 0=>([],d)
 | i+1=>((Wd d i).1++(if N4 (Wd d i).2 2 then [(i:Int)] else []),(Wd d i).2.after 1)
theorem Cw (d:Zg) (n:Nat):(Wd d n).2.Z3.length<=d.Z3.length:=by
 induction n with
 | zero=>exact Z1 _
 | succ n a=>exact X1 (Xc _ _) a
theorem Cv (d:Zg) (n:Nat):(Wd d n).1.length<=n:=by
 induction n with
 | zero=>exact Z1 _
 | succ n a=>
  show((Wd d n).1++_).length<=_;rw[Wc];split<;>simp<;>omega
theorem tO (d:Zg) (hd:d.Z3.length<2 ^ 63):Y3 156 [R 2] d (ZU (N4 d 2)) (d.after 1):=GB d hd 2 Z0 Z0
theorem tN (d:Zg) (hd:d.Z3.length<2 ^ 63):Y3 129 [] d (ζ R 1 (Wd d 3).1) (Wd d 3).2:=by
 unfold Y3;obtain⟨n,t⟩:=Ι 3;rw[<-t];refine Μ.body Υ func129 rfl rfl ntmps129 rfl rfl J ?_;refine Χ ?_;refine W.iter (λi:Nat=>i<=n) (λi=>[(0,.Ο 0 1 0 0),(3,Z4 1 ((Wd d i).1.map R)),(4,R i)]) (λi=>ZK (Wd d i).2::μ 3 1 ((Wd d i).1.map R)) (λi=>n-i) 0 (Ε _) rfl (by simp[Z4,Wd]) (λi hi p=>?_);refine Χ ?_;refine W.YN rfl (λb=>?_) (λb=>?_)
 .have b:i<n:=by simp at b;omega
  have c:Wd d (i+1)=((Wd d i).1++(if N4 (Wd d i).2 2 then [(i:Int)] else []),(Wd d i).2.after 1):=rfl
  have u:=Cv d i;obtain⟨L,m⟩:=Ι ((Wd d i).1);obtain⟨f,o⟩:=Ι ((Wd d i).2);have v:f.Z3.length<2 ^ 63:=by rw[o];exact OR (Cw d i) hd
  rw[<-m,<-o] at c;rw[<-m] at u;rw[<-m,<-o];have h:=tP b U;refine ZP λB w=>?_;refine Y3.g (tO f v) (ZY ?_);apply w;cases j:N4 f 2
  .refine Η rfl ?_;refine Ζ h ?_;refine W.to (p (i+1) b U) ?_ ?_
   .rw[c,j];simp
   .rw[c,j];simp[h]
  .refine Γ rfl ?_
   repeat apply Ξ
   refine W.Yn (A:=[14]) Υ [(0,.Ο 0 1 0 0),(3,Z4 1 ((L++[(i:Int)]).map R)),(4,R i)] (ZK (f.after 1)::μ 3 1 ((L++[(i:Int)]).map R)) ?_ (by
    rw[Yd,XC,UU,P0,X8 (l:=L.map R++[R i]) J];by_cases r:L=[]
    .subst r;(try simp);(repeat (rw[Ν];simp[Wo,show Z4 1 []=.sl true 0 [] from rfl]));(try simp[Wo,show Z4 1 []=.sl true 0 [] from rfl])
    .have k:L.map R≠[]:=by simpa using r
     (try simp);(repeat (rw[Ν];simp[X8 k,YY k]));(try simp[X8 k,YY k]);omega)
   refine Ζ h ?_;refine W.to (p (i+1) b U) ?_ ?_
   .rw[c,j];simp
   .rw[c,j];simp[h]
 .have b:i=n:=by simp at b;omega
  subst b;refine W.exit rfl ?_;refine Χ ?_;refine W.tQ (x:=2) J (λe y a s=>?_) [] J J ?_
  .obtain⟨x,_,rfl⟩:=Zd.1 y;simp[I.cells] at s;subst s;exact .z _
  .exact W.ret ⟨_,rfl,.acc,rfl⟩
end Go.TL
namespace Go.TL
open Go.Proofs.Tryz
open Go.Conc Go.Proofs
theorem Gy:@Seq TA calm:=@Seq.mk TA calm rfl (λ_ h=>h.rel) (λ_ h=>h.Z5)
theorem tM (w:World):Calm (ZZ.start w):=⟨rfl,rfl,rfl,λ_=>trivial⟩
def Uy (w:World):ο:=λb o=>((Ψ.Up w).κ b o).map (·.1)
theorem tL (w:World):Holds (Uy w) [] [] (Ψ.Up w):=
 ⟨λb o v h=>by
  unfold Uy at h;cases a:(Ψ.Up w).κ b o with
  | none=>rw[a] at h;cases h
  | some x=>rw[a] at h;cases h;exact⟨x.2,rfl⟩,rfl,λid r bo h=>by simp at h,λi j c d b e f _ h=>by simp at h,λid r b N h=>by simp at h⟩
theorem tK {P:Program} {f:FuncId} {fn:Func} {body:Code} {d:Nat} (b:P.funcs[f]?=some fn) (g:fn.body=some body) (i:fn.results=#[.tmp d]) (m:P.inits.idxOf? f=none) {w:World} {l:ξ} {args:Array Value} (n:XT (Uy w) [] [] l args) (o:l.length<=fn.ntmps)
  (p:@W TA P 0 fn.ntmps [.code body] (entry 0 l) [] (λj env _=>(∃k,j=.code .ret::k)/\Z7 env d=ZU true) (λ_ _ _=>False)):Comes P (λv=>v=.bool true) w (solo (Go.Conc.G (Frame.enter P f args .normal) []) w) #[]:=by
 letI:ZN:=TA;refine Goes.comes ?_;show Zb P _ true (ZZ.start w) (Frame.enter P f args .normal) [] (Ψ.Up w);rw[SG b g];refine p (λv=>v=.bool true) true calm [] (Frame.enter P f args .normal) (Uy w) [] (Ψ.Up w) _ Gy rfl (XA.enter (tL w) n (Z1 _) o) (λj env' σ' r B' H' t' c s C t x=>?_) (λa env' σ' r B' H' t' c v A=>A.elim) (ZZ.start w) (tM w);obtain⟨⟨k,B⟩,hd⟩:=s;have e:c=j:=x;subst e;subst B;refine ν.ret Gy rfl rfl (ν.done (v:=.bool true) Gy (λy h=>h.shut) (λy h=>h.deaf) rfl rfl rfl b m ?_ rfl);have hv:t'.getD d undef=.bool true:=by
  have:=t.Zn d;rw[hd] at this;generalize t'.getD d undef=u at this;cases this;rfl
 show results fn t'=_;unfold results;rw[i];rw[WU] at hv;simp[hv]
end Go.TL
namespace Go.TL
open Go.Proofs.Tryz
open Go.Conc Go.ConcM Go.Proofs
open Go.ChangeShapes Go.WideShapes Go.ChangeAt Go.RowKit
theorem tJ:ownKnob prog.godebug=none:=by kernel_rfl
theorem Xr.below {W w:World} (h:Xr (λ_ _=>False) (λ_=>False) W w):Below W.heap.size W {w with os:=W.os}:=by
 refine⟨rfl,h.tape,h.output,h.size,λk d=>?_⟩;show w.heap[k]?=W.heap[k]?;have e:=XI d;cases a:Obj.Qs W.heap[k] with
 | false=>rw[e];exact h.Tm k _ e a id
 | true=>
  cases b:W.heap[k] with
  | cells c t f=>
   rw[b] at e;obtain⟨c',g,j,i⟩:=h.cells k c t f e;have:c'=c:=by
    apply NM ;apply RQ;intro o;have:=i o id;simpa using this
   rw[e,g,this]
  | _=>rw[b] at a;simp[Obj.Qs] at a
theorem tI:laidOutB prog=true:=by kernel_rfl
theorem tH {W:World} {b o:Nat} {v:Value} (h:W.cell? ⟨b,o,none⟩=some v):Uy W b o=some v:=by
 unfold World.cell? at h;unfold Uy Ψ.Up;simp only at h ⊢;split at h
 .rename_i c t d a;rw[a];simp at h ⊢;exact h
 .cases h
end Go.TL
namespace Go.TL
open Go.Proofs.Tryz
open Go.Conc Go.ConcM Go.Proofs
open Go.ChangeShapes Go.WideShapes Go.ChangeAt Go.RowKit Go.Deep
section
variable {H:Type} {enc:TypeId×Value->H} {P:Program} {W:World}
def VW (enc:TypeId×Value->H) (P:Program) (W:World) (t:TypeId) (k:Nat) {b:Type} (d:b->Prop) (F:b->I):Prop:=
 ∀(e:Nat) (cs:List Value) (x:DataW H×List MemPlace),DataW.trod enc P W 0 (λ_=>true) true e t cs=some x->∃a:b,d a/\(F a).cells.length=k/\cs.length=k/\∀(j:Nat) (c:I) (v:Value),(F a).cells[j]?=some c->cs[j]?=some v->ς (Uy W) [] [] c v
theorem MO {t:TypeId} (d:P.underlying t=some (.int .i64)):VW enc P W t 1 (λ_:Int=>True) R:=λe cs x h=>by
 obtain⟨n,rfl,_⟩:=DataW.trod_int d h;refine⟨n,trivial,rfl,rfl,λj c v a b=>?_⟩
 match j with
 | 0=>simp[I.cells] at a b;subst a;subst b;exact .z _
 | j+1=>simp[I.cells] at a
theorem tG {t:TypeId} (d:P.underlying t=some .string):VW enc P W t 1 (λ_:ByteArray=>True) TV:=λe cs x h=>by
 obtain⟨n,rfl,_⟩:=DataW.trod_string d h;refine⟨n,trivial,rfl,rfl,λj c v a b=>?_⟩
 match j with
 | 0=>simp[I.cells] at a b;subst a;subst b;exact .z _
 | j+1=>simp[I.cells] at a
theorem Cu {d:Type} {p:Nat->d->Prop}:∀n,(∀i,i<n->∃a,p i a)->∃l:List d,l.length=n/\∀(i:Nat) (a:d),l[i]?=some a->p i a
 | 0,_=>⟨[],rfl,λi a h=>by simp at h⟩
 | n+1,h=>by
  obtain⟨l,e,f⟩:=Cu n λi hi=>h i U;obtain⟨a,g⟩:=h n U;refine⟨l++[a],by simp[e],λi b c=>?_⟩;by_cases hi:i<l.length
  .rw[Y0 hi] at c;exact f i b c
  .rw[Xw U] at c;obtain⟨j,k⟩:=Ι (i-l.length);rw[<-k] at c
   match j with
   | 0=>
    simp at c;subst c;rw[show i=n by omega];exact g
   | j+1=>simp at c
theorem Lj {t e:TypeId} {k:Nat} {s:Type} {u:s->Prop} {F:s->I} (L:P.underlying t=some (.slice e)) (M:P.cellsOf e=k) (ai:0<k) (N:VW enc P W e k u F) :
  VW enc P W t 1 (λl:List s=>l.length<2 ^ 63/\∀a∈l,u a) (λl=>.sl false k (l.map F)):=λaj cs x h=>by
 rcases open_slice L h with⟨rfl,_⟩|⟨a,len,cap,m,n,ak,al,rfl,_,am,O,Q,_,R⟩
 .refine⟨[],⟨Nat.two_pow_pos 63,J⟩,rfl,rfl,λj c v d p=>?_⟩
  match j with
  | 0=>simp[I.cells] at d p;subst d;subst p;exact .Wj _ _ J
  | j+1=>simp[I.cells] at d
 have an:m=cap:=by rw[Q];rfl
 have T:∀i,i<len->∃b:s,u b/\(F b).cells.length=k/\∀(j:Nat) (c:I),(F b).cells[j]?=some c->∃v,W.cell? ((a.add (i*k)).add j)=some v/\ς (Uy W) [] [] c v:=λi hi=>by
  obtain⟨cs',d,p⟩:=R i U;rw[M] at d;obtain⟨_,ao,V⟩:=World.cells?_some d;obtain⟨b,X,E,ap,Y⟩:=N n cs' _ p;refine⟨b,X,E,λj c g=>?_⟩;have Z:j<k:=by rw[<-E];exact(Zu.1 g).1
  have hv:=ε (show j<cs'.length by omega);exact⟨_,by rw[V j Z,hv],Y j c _ g hv⟩
 obtain⟨l,aa,w⟩:=Cu len T;refine⟨l,⟨by unfold maxLen at O;omega,λb ab=>?_⟩,rfl,rfl,λj c v d p=>?_⟩
 .obtain⟨i,hi,rfl⟩:=To ab;exact(w i _ (ε hi)).1
 match j with
 | j+1=>simp[I.cells] at d
 | 0=>
 simp[I.cells] at d p;subst d;subst p;by_cases ad:len=0
 .have:l=[]:=YP.1 U;subst this;subst ad;exact .Wj _ _ J
 have H:a.spot=none:=by
  have ae:=ε (show 0<l.length by omega);obtain⟨_,K,A⟩:=w 0 _ ae;have af:=ε (show 0<(F l[0]).cells.length by omega);obtain⟨v,hv,_⟩:=A 0 _ af;unfold World.cell? Addr.add at hv;simp only[Pz,if_true] at hv;cases ag:a.spot with
  | none=>rfl
  | some y=>
   rw[ag] at hv;simp at hv;split at hv<;>simp at hv
 obtain⟨b,o,sp⟩:=a;simp only at H;subst H;have ah:∀i j,((⟨b,o,none⟩:Addr).add i).add j=⟨b,o+i+j,none⟩:=λi j=>by rw[add_plain,add_plain]
 have one:∀(i:Nat) (f:I),(l.map F)[i]?=some f->f.cells.length=k/\∀(j:Nat) (c:I),f.cells[j]?=some c->∃v,Uy W b (o+i*k+j)=some v/\ς (Uy W) [] [] c v:=λi f hi=>by
  rw[Yh] at hi;cases C:l[i]? with
  | none=>rw[C] at hi;cases hi
  | some y=>
   rw[C] at hi;cases hi;obtain⟨_,K,A⟩:=w i y C;refine⟨K,λj c g=>?_⟩;obtain⟨v,r,D⟩:=A j c g;rw[ah] at r;exact⟨v,tH r,D⟩
 have:=ς.sl (S:=Uy W) (B:=[]) (σ:=[]) (ex:=false) (k:=k) (l:=l.map F) b o cap (λi j=>(Uy W b (o+i*k+j)).getD undef) J (by rw[Yp];omega)
  (λi f hi=>(one i f hi).1) (λi f hi j c g=>by
   obtain⟨v,r,_⟩:=(one i f hi).2 j c g;rw[r];rfl) (λi f hi j c g=>by
   obtain⟨v,r,D⟩:=(one i f hi).2 j c g;rw[r];exact D)
 rw[Yp,aa] at this;exact this
theorem Li {a:Type} {cs:List a} {o k j:Nat} (b:j<k):((cs.drop o).take k)[j]?=cs[o+j]?:=by
 rw[Tq b,T7]
theorem tF {t:TypeId} {f0 f1:Field} {d f:Nat} {g i:Type} {l:g->Prop} {m:i->Prop} {o:g->I} {p:i->I} {k:Type} (G:g->i->k) {r:k->Prop} {F:k->I} (C:P.underlying t=some (.struct #[f0,f1])) (D:f0.offset=0) (E:f1.offset=d)
  (H:P.cellsOf f0.type=d) (J:P.cellsOf f1.type=f) (K:P.cellsOf t=d+f) (L:VW enc P W f0.type d l o) (M:VW enc P W f1.type f m p)
  (s:∀a b,(F (G a b)).cells=(o a).cells++(p b).cells) (N:∀a b,l a->m b->r (G a b)):VW enc P W t (d+f) r F:=λY cs x h=>by
 obtain⟨Z,aa,n,_,O,u,w⟩:=trod_struct2 C h;rw[D,H] at u;rw[E,J] at w;obtain⟨a,Q,y,ab,R⟩:=L _ _ _ u;obtain⟨b,S,A,ad,T⟩:=M _ _ _ w;refine⟨G a b,N a b Q S,by rw[s,Wc,y,A],by rw[O,K],λj c v e B=>?_⟩;rw[s] at e;by_cases V:j<d
 .rw[Y0 U] at e;exact R j c v e (by rw[Li V,Vl];exact B)
 .rw[Xw U,y] at e;have X:j-d<f:=by rw[<-A];exact(Zu.1 e).1
  exact T (j-d) c v e (by rw[Li X,show d+(j-d)=j by omega];exact B)
theorem Ct {t:TypeId} {f0 f1 f2:Field} {g i k:Type} {p:g->Prop} {r:i->Prop} {s:k->Prop} {u:g->I} {w:i->I} {y:k->I} {l:Type} (G:g->i->k->l) {A:l->Prop} {F:l->I} (H:P.underlying t=some (.struct #[f0,f1,f2])) (J:f0.offset=0) (K:f1.offset=1) (L:f2.offset=2)
  (M:P.cellsOf f0.type=1) (N:P.cellsOf f1.type=1) (O:P.cellsOf f2.type=1) (Q:P.cellsOf t=3) (R:VW enc P W f0.type 1 p u) (S:VW enc P W f1.type 1 r w) (T:VW enc P W f2.type 1 s y)
  (B:∀a b d,(F (G a b d)).cells=(u a).cells++((w b).cells++(y d).cells)) (V:∀a b d,p a->r b->s d->A (G a b d)):VW enc P W t 3 A F:=λad cs x h=>by
 obtain⟨ae,af,ag,n,_,X,C,D,E⟩:=trod_struct3 H h;rw[J,M] at C;rw[K,N] at D;rw[L,O] at E;obtain⟨a,Y,f,ah,Z⟩:=R _ _ _ C;obtain⟨b,aa,m,ai,ab⟩:=S _ _ _ D;obtain⟨d,d1,d2,d3,d4⟩:=T _ _ _ E;refine⟨G a b d,V a b d Y aa d1,by rw[B,Wc,Wc,f,m,d2],by rw[X,Q],λj c v e o=>?_⟩;rw[B] at e
 match j with
 | 0=>
  rw[Y0 U] at e;exact Z 0 c v e (by rw[Li U];exact o)
 | 1=>
  rw[Xw U,f,Y0 U] at e;exact ab 0 c v e (by rw[Li U];exact o)
 | 2=>
  rw[Xw U,f,Xw U,m] at e;exact d4 0 c v e (by rw[Li U];exact o)
 | j+3=>rw[Xw U,f,Xw U,m,S0 U] at e;cases e
end
end Go.TL
