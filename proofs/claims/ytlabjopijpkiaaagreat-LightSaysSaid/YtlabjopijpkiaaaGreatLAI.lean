import Derived.Carry
import Derived.ChangeSame
import Derived.ChangeSlices
import Derived.Conc.HoldsTime
import Derived.Deep.Slices
import Derived.Deep.Strs
import Derived.OpenShut
import Derived.Test.YtlabjopijpkiaaaGreatLAH
import Derived.Test.YtlabjopijpkiaaaGreatRows
set_option maxHeartbeats 16000000
set_option maxRecDepth 20000
set_option linter.unusedSectionVars false
set_option linter.unusedSimpArgs false
set_option linter.unusedVariables false
namespace Go.TL
open Go.Proofs.Tryz
open Go.Conc Go.Proofs
variable [ZP]
noncomputable abbrev ui (vs:ζ):Frame:=Frame.enter prog 126 vs .normal
abbrev QB (L:Nat):Ψ:=.fn (.yield L) [] []
structure uh (Q:Value->Prop) (mn:Bool) (x:WA) (cs:YU) (e:Frame) (o:Base) (L:Nat) (r:Loop) (n:Nat) (b d:Row) (Fnd:List (ο)->Prop):Prop where
 m:o.m=2
 ug:XF 2 b
 uf:XF 2 d
 ub:r.params.size=1
 round:∀(l:ο) (rem:List (ο)),Fnd (l::rem)->l.length<=n->(∀x∈l,x<n)->∀(S:κ) (B:Z5) (H:Τ) (g:ζ) (c:Frame),XE 2 o.S o.B o.H o.σ S B H [b,d,Xg l]->Holds S B [b,d,Xg l] H->¬B.has L->H.obj L=some (.loop r)->XN S B [b,d,Xg l] [.ms 2 l.length 0 l.length] g->
  (Fnd rem->∀(f:κ) (B':Z5) (H':Τ),XE 2 o.S o.B o.H o.σ f B' H' [b,d,Xg l]->Zm S f B B' [b,d,Xg l] [b,d,Xg l]->Holds f B' [b,d,Xg l] H'->¬B'.has L->H'.obj L=some (.loop r)->γ prog Q mn x (c.finish (.bool true)) (e::cs) H')->
  (∀H',(∀(i:κ) (h:Τ),Ext Xp [] H' i [] h->γ prog Q mn x (e.finish (.tuple #[])) cs h)->γ prog Q mn x (c.finish (.bool false)) (e::cs) H')->
  γ prog Q mn x (Frame.round L r.fn ((r.params.zip g).foldl (λj (t,a)=>j.setIfInBounds t a) r.tmps) r.assign r.body .normal) (c::e::cs) H
 done:Fnd []->∀(S:κ) (B:Z5) (H:Τ),XE 2 o.S o.B o.H o.σ S B H [b,d]->Holds S B [b,d] H->¬B.has L->H.obj L=some (.loop r)->γ prog Q mn x (e.finish (.tuple #[])) cs H
def QA (c i:Nat):ZZ:=(List.range i).map (λj:Nat=>(j:Int))++List.replicate (c-i) 0
theorem ua {c i:Nat} (h:i<c):(QA c i).set i (i:Int)=QA c (i+1):=by
 unfold QA;have a:((List.range i).map λj:Nat=>(j:Int)).length=i:=Ω;have Ρ:c-i=(c-(i+1))+1:=J;rw[Py _ _ J,a,Ps,Ρ,List.replicate_succ,List.set_cons_zero,UB,XA];simp
theorem tZ {c i:Nat} (h:i<=c):(QA c i).length=c:=by simp[QA];omega
theorem tY (c:Nat):(QA c c).map I=(List.range c).map λn:Nat=>I n:=by simp[QA]
section
variable {Q:Value->Prop} {mn:Bool} {x:WA} {cs:YU} {Cr:Frame} {o:Base} {L:Nat} {r:Loop} {n:Nat} {Qz Qy:Row} {Fnd:List (ο)->Prop} {vs:ζ}
theorem tX (v:Seq x) (bi:n<=12) (y:uh Q mn x cs Cr o L r n Qz Qy Fnd) (aA:Fnd (Up n 0)) :
  PL prog Q mn x (ui vs) (Cr::cs) 72 o L r [.code (f126.body.getD .skip)] (entry 0 [QB L,.ξ [I n]]) [Qz,Qy]:=by
 have D:=y.m;refine PL.W' v U ?_;simp only[f126,Option.getD_some];have ag:=Yn (show n<13 by omega) J;refine Ι ag ?_;refine W.iter (λc:Nat=>c<=n+1/\Fnd (Up n c)) (λc=>[(0,QB L),(1,.ξ [I n]),(9,I ((n:Int)+1)),(10,I c)]) (λ_=>[Qz,Qy]) (λc=>n+1-c) 0 ⟨Α _,aA⟩ U (by simp[entry,ag]) (λc aB aC=>?_);obtain⟨bj,T⟩:=aB;refine Χ ?_;by_cases K:c<n+1
 .refine Ζ (by simp;omega) ?_;refine Χ ?_;have bk:(0:Int)<=c:=J;have aD:(8:Int)*c<=281474976710656:=J;refine YY (A:=[14]) Ο λbl aE=>Z9 ?_;simp[aD];(repeat (rw[Θ];simp));apply aE;refine Χ ?_;refine W.iter (λi:Nat=>i<=c) (λi=>[(0,QB L),(1,.ξ [I n]),(9,I ((n:Int)+1)),(10,I c),(3,I c),(4,.ms 2 c 0 c),(16,I c),(17,I i)]) (λi=>[Qz,Qy,.cells 3 1 ((QA c i).map I)]) (λi=>c-i) 0 (Α _) (by simp[QA]) Ω (λi hi aF=>?_);refine Χ ?_;by_cases C:i<c
  .refine Ζ (by simp[C]) ?_;have ah:=Yn C (show c<2 ^ 62 by omega);have ai:=tZ (SM C);have aj:=ua C;obtain⟨G,aG⟩:=Ε (QA c i);rw[<-aG] at ai aj ⊢;have aH:i<G.length:=J;refine Ι (Υ ai (Υ C (Υ aH ah))) ?_;refine W.to (aF (i+1) C J) ?_ ?_
   .rw[<-aj];simp
   .simp[ah]
  .have aI:i=c:=J
   subst aI;refine Η Ω ?_;refine W.exit U ?_;rw[tY]
   repeat apply Ν
   refine W.iter (λx:Nat×ο=>Rn n x.1 x.2=true/\x.2.length=i/\Fnd (Sq n x.1 x.2++Up n (i+1))) (λ_=>[(0,QB L),(1,.ξ [I n]),(9,I ((n:Int)+1)),(10,I i),(3,I i),(4,.ms 2 i 0 i)]) (λx=>[Qz,Qy,Xg x.2]) (λx=>x.1) (1000,List.range i)
    ⟨v3 n J i K,Ω,by rw[<-vZ K];exact T⟩ U Ω (λx v aJ=>?_)
   obtain⟨g,l⟩:=x;obtain⟨X,f,Y⟩:=v;simp only at X f Y ⊢
   repeat apply Ν
   refine W.Za ?_;refine Xn [0,1] [2,3] ?_;refine W.stop ?_;obtain⟨w,aK,ak⟩:∃w,Sq n g l++Up n (i+1)=l::w/\((Ro n l=none/\w=Up n (i+1))\/∃a b,Ro n l=some a/\g=b+1/\w=Sq n b a++Up n (i+1)/\Rn n b a=true):=by
    cases al:Ro n l with
    | none=>exact⟨Up n (i+1),by rw[vW al];rfl,.inl ⟨rfl,rfl⟩⟩
    | some a=>
     obtain⟨b,E,Ρ,aL⟩:=vV X al;exact⟨Sq n b a++Up n (i+1),by rw[Ρ];rfl,.inr ⟨a,b,U,E,U,aL⟩⟩
   rw[aK] at Y;have am:=vX X;refine PL.yield v ⟨U,U,by simp[Frame.enter],U⟩ U U U y.ub.symm λS B H t aM M s Z aa hv=>?_;refine y.round l w Y J am S B H aM _ (by rw[<-D];exact M) s.holds Z aa (by rw[f];exact hv) (λab an B' H' aN aO aP aQ aR=>?_) (λH' aS=>?_)
   .rw[VJ U];have ad:Yv an B' [Qz,Qy,Xg l] [(27,.z (.bool true)),(0,QB L),(1,.ξ [I n]),(9,I ((n:Int)+1)),(10,I i),(3,I i),(4,.ms 2 i 0 i)] (t.setIfInBounds 27 (.bool true)):=NV (Yv.put (s.Y7.later aO) (d:=27) (by rw[s.size];omega) (.z _)) Ω;refine(PL.W' (env:=[(27,.z (.bool true)),(0,QB L),(1,.ξ [I n]),(9,I ((n:Int)+1)),(10,I i),(3,I i),(4,.ms 2 i 0 i)]) (σ:=[Qz,Qy,Xg l]) (o:=o) (L:=L) (r:=r) (nt:=72) v U ?_) an B' H' _ (by rw[D];exact aN) ⟨aP,ad,Xk (Ta ..) s.size,by rw[D];simp⟩ aQ aR;refine Xn [3] [] ?_;refine W.ZB ?_;refine Η U ?_;have ao:IntKind.i64.wrap ((i:Int)-1)=(i:Int)-1:=IntWalk.i64_in _ J;refine Ι ao ?_;refine W.iter (λe:Nat=>e<=i/\Rp n l i=Rp n l e) (λe=>[(0,QB L),(1,.ξ [I n]),(9,I ((n:Int)+1)),(10,I i),(3,I i),(4,.ms 2 i 0 i),(6,I ((e:Int)-1))]) (λ_=>[Qz,Qy,Xg l]) (λe=>e) i ⟨Z6 _,U⟩ U (by simp[ao]) (λe aT aU=>?_);obtain⟨bm,ap⟩:=aT
    repeat apply Ν
    have aq:=Yn K (show n+1<2 ^ 62 by omega)
    have ae:Ro n l=(Rp n l e).map λq=>Tn l q (l.length-q):=by unfold Ro;rw[f,ap]
    cases e with
    | zero=>
     have aV:w=Up n (i+1):=by
      rcases ak with⟨_,h⟩|⟨a,b,h,_⟩
      .exact h
      .rw[ae] at h;simp[Rp] at h
     rw[aV] at ab;refine Pd ?_;refine Η U ?_;refine W.exit U ?_;refine Χ ?_;refine Ζ U ?_;refine W.exit U ?_;refine W.drop (h:=2) (σ':=[Qz,Qy]) (by rw[D];exact Z6 _) Ω (λid q aW u=>by
      match id,aW,u with
      | 0,_,u=>simp at u;subst u;exact y.ug
      | 1,_,u=>simp at u;subst u;exact y.uf) rfl [(0,QB L),(1,.ξ [I n]),(9,I ((n:Int)+1)),(10,I i)] (by simp[U5]) ?_
     refine Ι aq ?_;refine W.to (aC (i+1) ⟨K,ab⟩ J) U ?_;simp[aq]
    | succ e=>
     have F:e<l.length:=J
     have bn:=am _ (Yx F)
     have N:l.getD e 0=l[e]:=by simp[WB,F]
     have aX:IntKind.i64.wrap ((n:Int)-i)=(n:Int)-i:=IntWalk.i64_in _ J
     have aY:IntKind.i64.wrap ((n:Int)-i+e)=(n:Int)-i+e:=IntWalk.i64_in _ J
     have ar:IntKind.i64.wrap ((e:Int)-1)=(e:Int)-1:=IntWalk.i64_in _ J
     have au:e<i:=J
     have aZ:((e+1:Nat):Int)-1=e:=J;rw[aZ];refine XJ (Υ F (Υ au (Υ f (Υ aX aY)))) ?_;by_cases u:l[e]+i=n+e
     .have O:Rp n l (e+1)=Rp n l e:=by rw[Rp,if_pos (by rw[N,f];exact u)]
      refine Ζ (by simp;omega) ?_;refine Ι ar ?_;refine W.to (aU e ⟨J,by rw[ap,O]⟩ J) U ?_;simp[ar]
     .have O:Rp n l (e+1)=some e:=by rw[Rp,if_neg (by rw[N,f];exact u)]
      refine Η (by simp;omega) ?_;refine W.exit U ?_;refine Χ ?_;refine Η Ω ?_;obtain⟨a,b,af,bo,a0,a1⟩:∃a b,Ro n l=some a/\g=b+1/\w=Sq n b a++Up n (i+1)/\Rn n b a=true:=by
       rcases ak with⟨h,_⟩|h
       .rw[ae,O] at h;cases h
       .exact h
      have av:a=Tn l e (i-e):=by
       rw[ae,O] at af;simp at af;rw[<-af,f]
      have a2:IntKind.i64.wrap ((l[e]:Int)+1)=(l[e]:Int)+1:=IntWalk.i64_in _ J
      have aw:IntKind.i64.wrap ((e:Int)+1)=(e:Int)+1:=IntWalk.i64_in _ J;refine Ι (Υ F (Υ au (Υ f (Υ a2 aw)))) ?_;refine W.iter (λp:Nat=>e+1<=p/\p<=i) (λp=>[(0,QB L),(1,.ξ [I n]),(9,I ((n:Int)+1)),(10,I i),(3,I i),(4,.ms 2 i 0 i),(7,I p)]) (λp=>[Qz,Qy,Xg (Tn l e (p-e))]) (λp=>i-p) (e+1) ⟨Z6 _,J⟩ (by
       have:e+1-e=1:=J;rw[this,vU F];simp) (by simp[aw]) (λp s a3=>?_)
      obtain⟨bp,bq⟩:=s;refine Χ ?_;by_cases ax:p<i
      .refine Ζ (by simp[ax]) ?_;obtain⟨q,br⟩:=Ε (p-1);obtain⟨R,P⟩:=Ε (Tn l e (p-e));have a4:R.length=i:=by rw[P,C4 J,f]
       have ay:q<R.length:=J
       have a5:p<R.length:=J
       have a6:q<i:=J
       have a7:R[q]=l[e]+(p-e):=by
        have:=vT (l:=l) (i:=e) (k:=p-e) J J
        have E:e+(p-e)-1=q:=J;rw[E,<-P,N] at this;simpa[WB,ay] using this
       have a8:R.set p (R[q]+1)=Tn l e (p+1-e):=by
        have:=vS (l:=l) (i:=e) (k:=p-e) J
        have E:e+(p-e)=p:=J
        have Ρ:p-e+1=p+1-e:=J;rw[E,Ρ,<-P,N,<-a7] at this;exact this
       have bs:R[q]<100:=J
       have a9:IntKind.i64.wrap ((p:Int)-1)=(q:Int):=by rw[IntWalk.i64_in _ J];omega
       have a':IntKind.i64.wrap ((R[q]:Int)+1)=(R[q]:Int)+1:=IntWalk.i64_in _ J
       have az:IntKind.i64.wrap ((p:Int)+1)=(p:Int)+1:=IntWalk.i64_in _ J;rw[<-P];refine Ι (Υ a9 (Υ ay (Υ a5 (Υ a6 (Υ ax (Υ a4 (Υ a' az))))))) ?_;refine W.to (a3 (p+1) ⟨J,J⟩ J) ?_ ?_
       .rw[<-a8];simp
       .simp[az]
      .have ba:p=i:=J
       subst ba;refine Η Ω ?_;refine W.exit U ?_
       repeat apply Ν
       refine W.to (aJ (b,a) ⟨a1,by rw[av,C4 J,f],by rw[<-a0];exact ab⟩ (by show b<g;omega)) (by rw[av]) ?_;simp
   .rw[VJ U];have ad:Yv Xp [] [] [(27,.z (.bool false))] (t.setIfInBounds 27 (.bool false)):=λj=>by
     simp only[Z3];split
     .rename_i e;subst e;have:(t.setIfInBounds 27 (Value.bool false)).getD 27 undef=.bool false:=by
       have bb:27<t.size:=by rw[s.size];omega
       simp[Wr,bb]
      rw[this];exact .z _
     .exact .Ze _
    refine V.here (m:=0) (nt:=72) (S:=Xp) (B:=[]) (σ:=[]) (env:=[(27,.z (.bool false))]) ?_ ⟨MR H',ad,Xk (Ta ..) s.size,Α _⟩;refine V.W' v U ?_;refine Xn [3] [] ?_;refine W.ZB ?_;refine Ζ U ?_;refine W.stop ?_;refine V.GI v U U U U func126 U λbc bd be bf bg=>?_;obtain rfl:bd=[]:=YA.1 bg.len;exact aS bc be bf.ext
 .have bh:c=n+1:=J
  subst bh;refine Η Ω ?_;refine W.exit U ?_;refine W.stop ?_;intro S B H t M s Z aa;rw[vY] at T;refine γ.Qb v U U (γ.back v U U (.inl U) func126 ?_);rw[results_none U];rw[D] at M;exact Φ.pure' (y.done T S B H M s.holds Z aa)
end
theorem tW (n:Nat):Κ prog 83 [I n] (.fn (.func 126) [] [.ξ [I n]]):=by
 refine Μ.body Ο func83 U U ntmps83 U U Ω ?_;refine Χ ?_;exact W.XL
theorem Ext.Cq {S:κ} {B:Z5} {H:Τ} {r:Nat} {y:Obj} (a:H.fresh r):Ext S B H S B (H.Zx r y):=
 ⟨λ_ _ _ h=>h,λb _ c=>by
  have:b≠r:=λe=>c (e▸a);exact SY.of ⟨λ_=>rfl,U,by simp[Τ.Zx,this]⟩,λb h=>.inl h,λb o v h=>.inl h,Τ.HA⟩
theorem Holds.Cp {S:κ} {B:Z5} {σ:Ξ} {H:Τ} (c:Holds S B σ H) (f:∀r∈σ,MM r) {b:Nat} (g:H.fresh b):¬B.has b:=λ⟨N,h⟩=>by
 obtain⟨id,d⟩:=Sl h;have i:id<σ.length:=by rw[<-c.len];exact(Zo.1 d).1
 have a:=Z7 i;obtain⟨t,k,l,e⟩:=f _ (Y1 a);rw[e] at a;exact c.SE a trivial d g
def OT (s:ω) (F:Zj) (cell:Int) (lower:Bool):ZZ×Int:=
 if(WS s cell F).2.2≠0 then([],(WS s cell F).2.2)
 else match (Up s.θ.length 0).find? (QL s F cell.toNat lower) with
 | some l=>(l.map λn:Nat=>(n:Int),0)
 | none=>([],11)
abbrev Sp:Row:=.cells 29 1 [.sl true 0 []]
abbrev So:Row:=.cells 38 1 [I 0]
abbrev MK (s:ω) (F:Zj) (cell:Int) (lower:Bool):Β:=[(3,ZV s),(4,.ξ [I cell]),(5,.ξ [ν lower]),(6,.Δ 0 1 0 0),(7,.Δ 1 1 0 0),(8,ZV s),(9,.ξ [Y3 F])]
section
variable {Q:Value->Prop} {mn:Bool} {x:WA} {c:Frame} {rest:YU} {OU S:κ} {B:Z5} {Rj H:Τ} {σ:Ξ} {res:ZZ×Int} {l:ZZ} {MJ:Int} {e:Bool} {kk:Nat} {b:Frame} {t:ζ} {k:Zz} {env:Β}
theorem Co (n:Seq x) (p:Od prog Q mn x c rest OU [] Rj [] (λa s=>YR a (.ZY [δ I 1 res.1,I res.2])/\s=[]) (λ_ _=>False)) (t:b.fn=28) (u:b.kind=.normal) (w:b.defers=[]) (y:b.mode=.returning)
  (A:Ext OU [] Rj S B H) (C:Holds S B σ H) (D:Yv S B σ env b.tmps) (E:Z3 env 6=.Δ 0 1 0 0) (F:Z3 env 7=.Δ 1 1 0 0) (K:σ[0]?=some (.cells 29 1 [.sl e kk (l.map I)])) (L:σ[1]?=some (.cells 38 1 [I MJ])) (M:res=(l,MJ)) (N:l≠[]->kk=1):γ prog Q mn x b (c::rest) H:=by
 subst M;refine γ.back n y w (.inl u) (fn:=f28) (by rw[t];exact func28) ?_;refine Φ.mono (λv f ⟨g,i,O,W,P,R⟩=>?_) (λ_ _ h=>h) _ (Jq Ο (a:=.ZY [.sl e kk (l.map I),I MJ]) (show Sx ZS [.cell 6 29,.cell 7 38] env σ=some (.ZY [.sl e kk (l.map I),I MJ]) by simp[Sx,P1,M',E,F,K,L,P2,VX.agg,Jr]) C D);obtain⟨j,d⟩:=P.close (h:=0) (λid r X=>J);simp only[List.take_zero] at j d;have T:υ (g.close i σ f 0) [] [] (.ZY [.sl e kk (l.map I),I MJ]) v:=by
  have V:ς 0 (.ZY [.sl e kk (l.map I),I MJ]):=Ω
  have:=(R.later (Zm.refl g i σ)).any V [] [];exact this.later ⟨λb o v hv=>d.Yy _ _ _ hv,λid r h=>by simp at h⟩
 have k:=A.trans (O.trans d);refine p.ret _ [] _ [] f v ⟨?_,U⟩ k ⟨k.Yy,λid r h=>by simp at h⟩ j T;refine .ZY (.cons ?_ (.cons (.refl _) .nil));by_cases m:l=[]
 .subst m;exact .nil
 .rw[N m];exact .ex
end
noncomputable abbrev Ge (vs:ζ):Frame:=Frame.enter prog 28 vs .normal
theorem Gd {s:ω} {F:Zj} {cell:Int} (h:(WS s cell F).2.2=0):0<=cell/\cell<s.cells.length/\WS s cell F=(s,F,0):=by
 unfold WS at h ⊢;split at h
 .rename_i a;simp at h;exact absurd h a
 .split at h
  .simp at h
  .rename_i a b;rw[if_neg a,if_neg b];refine⟨J,J,?_⟩;unfold X9 at h ⊢;rw[if_neg a] at h ⊢;split at h
   .simp at h
   .rename_i c;rw[if_neg c]
section
variable {Q:Value->Prop} {mn:Bool} {c:Frame} {rest:YU}
theorem tV (s:ω) (aL:s.small) (F:Zj) (a8:SV s F) (a9:IW s F) (cell:Int) (lower:Bool) (aM:s.θ.length<=4) :
  Κ prog 28 [Zq s,I cell,ν lower] (.ZY [δ I 1 (OT s F cell lower).1,I (OT s F cell lower).2]):=by
 refine⟨⟨_,func28,U,U⟩,λQ mn x c rest ai a' T vs j aN ba aj=>?_⟩;obtain rfl:a'=[]:=YA.1 aN.len;rw[Rw (body:=f28.body.getD .skip) func28 U];refine V.here (x:=x) (m:=0) (nt:=35) (S:=ai) (B:=[]) (H:=T) (σ:=[]) (env:=entry 0 [Zq s,I cell,ν lower]) ?_ (Xb.enter aN ba (Z6 _) Ω);refine V.W' j U ?_;simp only[f28,Option.getD_some]
 repeat apply Ν
 refine YY (A:=[6,7]) Ο λak C=>Z9 ?_;apply C;refine YQ ?_;refine YY (A:=[8,9]) Ο λak C=>Z9 ?_;refine Κ.d (GR s aL cell F a8) (Z9 ?_);apply C;by_cases b:(WS s cell F).2.2=0
 case neg=>
  have e:OT s F cell lower=([],(WS s cell F).2.2):=by unfold OT;rw[if_pos b]
  rw[e] at aj;generalize (WS s cell F).2.2=al at b aj ⊢;refine Χ ?_;refine Ζ (by simp[b]) ?_;refine Χ ?_;refine W.stop ?_;intro X Y Z t5 w D;refine γ.ret j U U ?_;exact Co j aj U U U U w.ext D.holds D.Y7 U U U U U (λh=>absurd U h)
 obtain⟨bX,bY,e⟩:=Gd b;obtain⟨n,rfl⟩:∃n:Nat,cell=n:=⟨cell.toNat,J⟩;have bb:n<s.cells.length:=J;have Ρ:OT s F n lower=match (Up s.θ.length 0).find? (QL s F n lower) with|some l=>(l.map λn:Nat=>(n:Int),0)|none=>([],11):=by
  unfold OT;rw[if_neg (by simpa using b)];rfl
 rw[e];refine W.fix (id:=3) (σ':=[Sp,So,.cells 98 3 [Zq s]]) (Α _) U Ω (λid q aA g=>by
  match id,aA,g with
  | 0,_,g=>simp at g;subst g;simp[XF,Ψ.cells]
  | 1,_,g=>simp at g;subst g;simp[XF,Ψ.cells]
  | 2,_,g=>simp at g;subst g;simp[XF,Ψ.cells]) rfl [(3,ZV s),(4,.ξ [I n]),(5,.ξ [ν lower]),(6,.Δ 0 1 0 0),(7,.Δ 1 1 0 0),(8,.Δ 2 1 0 0),(9,.ξ [Y3 F]),(10,I 0)] (by simp[Wb]) ?_
 refine W.fix (id:=2) (σ':=[Sp,So]) (Α _) U Ω (λid q aA g=>by
  match id,aA,g with
  | 0,_,g=>simp at g;subst g;simp[XF,Ψ.cells]
  | 1,_,g=>simp at g;subst g;simp[XF,Ψ.cells]) rfl ((10,I 0)::MK s F n lower) (by simp[Wb]) ?_
 refine Χ ?_;refine Η U ?_;refine Χ ?_;refine Z8 λak C=>?_;refine Κ.d (tW s.θ.length) (Z9 ?_);apply C
 repeat apply Ν
 refine W.forget ((25,.fn (.func 126) [] [.ξ [I s.θ.length]])::MK s F n lower) Ω ?_;refine W.stop ?_;intro O E am t1 an K;have aO:∀r∈[Sp,So],MM r:=λr aP=>by
  simp only[Y9,Yb,or_false] at aP;rcases aP with rfl|rfl<;>exact⟨_,_,_,rfl⟩
 have aB:=K.Y7 25;simp only[Z3,if_true] at aB;obtain⟨bZ,aQ⟩:=Ε (t1.getD 25 undef);rw[<-aQ] at aB;cases aB with
 | fn w1 bc bd be b0 bf=>
 have bg:w1=#[]:=KT (by rw[<-bd];rfl);subst bg;refine γ.rangeFunc j U U (fo:=.tmp 25) aQ.symm ⟨_,func126,U,U⟩ λp L ab P=>?_;have aC:¬E.has p:=K.holds.Cp aO ab;have ao:=K.holds.Zx (y:=.deferred (some [])) aC;have ap:Ext O E am O E (am.Zx p (.deferred (some []))):=Ext.Cq ab;have ad:(am.Zx p (.deferred (some []))).obj p=some (.deferred (some [])):=by simp[Τ.Zx]
 have bh:T.fresh p:=an.ext.grow _ ab
 have aq:T.fresh L:=an.ext.grow _ (ap.grow _ P);generalize b1:am.Zx p (.deferred (some []))=aR at P ao ap ad;have ar:p≠L:=λe=>by rw[e,P.2.2.1] at ad;cases ad
 have aS:¬E.has L:=ao.Cp aO P
 have aT:∀(S:κ) (B:Z5) (H:Τ) (σ:Ξ),XE 2 O E aR [Sp,So] S B H σ->Zm O S E B [Sp,So] σ:=λS B H σ u=>u.all ao Ω
 have aU:∀(M:Frame) (S:κ) (B:Z5) (H:Τ) (σ:Ξ) (env:Β) (l:ZZ) (al:Int) (e:Bool) (kk:Nat),M.fn=28->M.kind=.normal->M.mode=.returning->M.defers=[⟨.collected p,#[]⟩]->Ext ai [] T S B H->Holds S B σ H->¬B.has p->H.obj p=some (.deferred (some []))->
   Yv S B σ env M.tmps->Z3 env 6=.Δ 0 1 0 0->Z3 env 7=.Δ 1 1 0 0->σ[0]?=some (.cells 29 1 [.sl e kk (l.map I)])->σ[1]?=some (.cells 38 1 [I al])->OT s F n lower=(l,al)->(l≠[]->kk=1)->γ prog Q mn x M (c::rest) H:=
  λM S B H σ env l al e kk R N aV bi bj bk bl aW bm bn bo bp bq br bs=>by
  refine γ.collected j aV bi aW ?_;exact Co j aj (b:={M with defers:=[]}) R N U aV (bj.Zx bh ⟨_,aW⟩) (bk.Zx bl) bm bn bo bp bq br bs
 rw[Rw (body:=f126.body.getD .skip) func126 U];have bt:XN O E [Sp,So] ([QB L]++[.ξ [I s.θ.length]]) (#[.func (.yield L) #[] #[]]++bc):=by
  refine XN.append ⟨U,λi a v R N=>?_⟩ ⟨be,bf⟩
  match i with
  | 0=>simp at R N;subst R;subst N;exact .fn #[] #[] rfl rfl (λi a v hi=>by simp at hi) (λi a v hi=>by simp at hi)
  | i+1=>simp at R
 refine tX (o:=⟨O,E,aR,[Sp,So],2⟩) (L:=L) (Fnd:=λaX=>(Up s.θ.length 0).find? (QL s F n lower)=aX.find? (QL s F n lower)) j (XQ aM ZT) ?_ U O E _ _ (XE.of (Ext.Cq P) (Zm.refl ..)) (Xb.enter (ao.Zx aS) bt (Z6 _) Ω) aS (by simp[Τ.Zx];rfl);refine⟨U,by simp[XF,Ψ.cells],by simp[XF,Ψ.cells],U,λl aX au bu bv S B H aY b2 u av aD aw hv bw bx=>?_,λau S B H u av aD aw=>?_⟩
 .obtain⟨aE,aF⟩:=Rq u.ext aC ad;have bz:=aT _ _ _ _ u;have ax:=K.Y7.later bz;have bA:Ext ai [] T S B H:=an.ext.trans (ap.trans u.ext);obtain⟨w0,rfl⟩:∃w0,aY=#[w0]:=by
   have ab:=hv.1;clear hv;obtain⟨bB⟩:=aY
   match bB,ab with
   | [w0],_=>exact⟨w0,rfl⟩
  have bC:((#[26]:Array Tmp).zip #[w0]).foldl (λaG (t,a)=>aG.setIfInBounds t a) t1=t1.setIfInBounds 26 w0:=Ω;change γ prog Q mn x (Frame.round L 28 (((#[26]:Array Tmp).zip #[w0]).foldl (λaG (t,a)=>aG.setIfInBounds t a) t1) _ _ .normal) _ _;rw[bC];have bD:υ S B [Sp,So,Xg l] (.ms 2 l.length 0 l.length) w0:=hv.2 0 _ _ U U;have bE:l.length<2 ^ 30:=J;have bF:Yv S B [Sp,So,Xg l] ((26,.ms 2 l.length 0 l.length)::MK s F n lower) (t1.setIfInBounds 26 w0):=NV (Yv.put ax (d:=26) (by rw[K.size];omega) bD) Ω;refine V.here (b:=Frame.round L 28 t1 .skip .skip .normal) (t:=t1.setIfInBounds 26 w0) (m:=3) (nt:=35) (S:=S) (B:=B) (H:=H) (σ:=[Sp,So,Xg l]) (env:=(26,.ms 2 l.length 0 l.length)::MK s F n lower) ?_ ⟨av,bF,Xk (Ta ..) K.size,Z6 _⟩;refine V.W' j U ?_;refine Χ ?_;refine W.stop ?_;intro bG bH aH t3 ae aa;obtain⟨af,aI⟩:=Rq ae.ext aD aw;obtain⟨bI,bJ⟩:=Rq ae.ext aE aF;refine γ.beginRound j U U aI U ?_;refine V.here (b:=Frame.round L 28 t1 .skip .skip .normal) (m:=3) (nt:=35) ?_ ⟨aa.holds.Zx af,aa.Y7,aa.size,aa.rows⟩;refine V.W' j U ?_;refine Z8 λak C=>?_;have aZ:ς 0 (Zq s):=Ω;have a0:ς 0 (Y3 F):=Ω;have ay:VU (Xg l):=QS (f:=λn:Nat=>I n) λx=>by simp[Ψ.cells]
  refine Μ.one (as0:=[Zq s,Y3 F,I n,ν lower,.ms 0 l.length 0 l.length]) (wm s aL F a9 n bb lower l (XQ bu aM) bv) 2 U ay ay (λa u=>by
   simp only[Y9,Yb,or_false] at u;rcases u with rfl|rfl|rfl|rfl|rfl
   .exact aZ.Vr 1
   .exact a0.Vr 1
   .exact(ς.z _).Vr 1
   .exact(ς.z _).Vr 1
   .exact TY.2 J) ((ς.z _).Vr 1) (by simp[TX,Su,aZ.Yh [2],a0.Yh [2]]) ?_
  simp[Su];(repeat (rw[Θ];simp));apply C;have aJ:Zm S bG B bH [Sp,So,Xg l] [Sp,So,Xg l]:=ae.all av (Z6 _);have bK:=λy=>(u.ext.trans ae.ext).Zx P (y:=y) ⟨_,aI⟩;have bL:=λy=>(bA.trans ae.ext).Zx aq (y:=y) ⟨_,aI⟩;cases a1:QL s F n lower l
  .refine Η U ?_
   repeat apply Ν
   refine W.stop ?_;intro X Y Z t5 w D;obtain⟨ag,ah⟩:=Rq w.ext af (show(aH.Zx L _).obj L=some (.loop _) by simp[Τ.Zx];rfl);have az:=w.all (aa.holds.Zx af) (Z6 _);refine γ.endRound j U U U ah (jump:=none) (.inl ⟨U,U⟩) (bw (by rw[au,List.find?_cons,a1]) X Y _ ⟨((bK _).trans w.ext).Zx P ⟨_,ah⟩,?_⟩ (aJ.trans az) (D.holds.Zx ag) ag (by simp[Τ.Zx]));exact u.later.trans (aJ.trans az)
  .refine Ζ U ?_;obtain⟨z,aK⟩:=Ε (l.map λn:Nat=>(n:Int));have bM:Xg l=.cells 3 1 (z.map I):=by rw[aK,Ra];rfl
   have a2:z.length=l.length:=by rw[aK,X2]
   have a3:=wz z (by rw[a2];exact bE);rw[a2,<-bM] at a3;have a4:∀(e:Bool) (k:Nat),ς 0 (.sl e k (z.map I)):=λe k=>Ω;refine Z8 λak C=>?_;refine Μ.I6 (as0:=[.ms 0 l.length 0 l.length]) a3 2 U ay (by simp[TY]) (by simp[TX]) (λa b3 bN=>?_);obtain⟨⟨e,kk,rfl,bO⟩,rfl⟩:=bN;refine⟨Xg l,U,ay,(a4 e kk).Vr 1,?_⟩;rw[(a4 e kk).Yh [2]];simp;(repeat (rw[Θ];simp));apply C;refine W.stop ?_;intro X Y Z t5 w D;obtain⟨ag,ah⟩:=Rq w.ext af (show(aH.Zx L _).obj L=some (.loop _) by simp[Τ.Zx];rfl);obtain⟨a5,bP⟩:=Rq w.ext bI (show(aH.Zx L _).obj p=some (.deferred (some [])) by simp[Τ.Zx,ar,bJ]);have az:=w.all (aa.holds.Zx af) (Z6 _);refine γ.endRound j U U U ah (jump:=some .ret) (.inr (.inl ⟨U,_,U⟩)) (bx _ λb4 b5 a6=>?_);obtain⟨R,N⟩:=(D.holds.Zx (y:=.loop _) ag).P9 (λb bQ=>a6.P9 bQ) a6.grow;obtain⟨bR,a7⟩:=Rq N ag (show(Z.Zx L _).obj L=some (.loop _) by simp[Τ.Zx];rfl);obtain⟨_,bS⟩:=Rq N a5 (show(Z.Zx L _).obj p=some (.deferred (some [])) by simp[Τ.Zx,ar,bP]);refine γ.Dg (b:={Ge vs with defers:=[⟨.collected p,#[]⟩]}) (t:=t1) j U a7 Ω ?_;refine γ.ret (b:={Ge vs with defers:=[⟨.collected p,#[]⟩]}) j U U ?_;refine aU _ X Y _ _ (MK s F n lower) z 0 e kk U U U U ((((((bL _).trans w.ext).Zx aq ⟨_,ah⟩)).trans N).Zx aq ⟨_,a7⟩) (R.Zx bR) a5 (by simp[Τ.Zx,ar,bS]) (NV ((ax.later (aJ.trans az))) Ω) U U U U ?_ bO;rw[Ρ,au,List.find?_cons,a1,aK]
 .obtain⟨aE,aF⟩:=Rq u.ext aC ad;have ax:=K.Y7.later (aT _ _ _ _ u);have bT:Ext ai [] T S B H:=an.ext.trans (ap.trans u.ext);refine γ.Dg (b:={Ge vs with defers:=[⟨.collected p,#[]⟩]}) (t:=t1) j U aw Ω ?_;refine V.here (m:=0) (nt:=35) (S:=S) (B:=B) (σ:=[Sp,So]) (env:=MK s F n lower) ?_ ⟨av.Zx aD,NV ax Ω,K.size,Α _⟩;refine V.W' j U ?_;simp only[Option.map_none,Option.toList_none,List.nil_append];refine Χ ?_;refine W.stop ?_;intro X Y Z t5 w D;have bU:∀y,(H.Zx L y).obj p=some (.deferred (some [])):=λy=>by simp[Τ.Zx,ar,aF]
  obtain⟨bV,bW⟩:=Rq w.ext aE (bU _);refine γ.ret j U U ?_;refine aU _ X Y Z _ _ [] 11 true 0 U U U U ((bT.Zx aq ⟨_,aw⟩).trans w.ext) D.holds bV bW D.Y7 U U U U ?_ (λh=>absurd U h);rw[Ρ,au];rfl
end
end Go.TL
namespace Go.TL
open Go.Proofs.Tryz
open Go.Proofs
variable [ZP]
def Xm:ω:=⟨[⟨⟨#[98]⟩,9⟩,⟨⟨#[99]⟩,4⟩,⟨⟨#[100]⟩,6⟩,⟨⟨#[105]⟩,48⟩,⟨⟨#[111]⟩,12⟩],[[1,2],[0],[0,1,2]],[[⟨0,4,59⟩,⟨1,8,3⟩],[⟨0,0,63⟩,⟨1,4,8⟩]]⟩
theorem K9:Κ prog 72 [] (Zq Xm):=by
 refine Μ.body Ο func72 U U ntmps72 U U Ω ?_
 repeat apply Ν
 refine YY (A:=[0]) Ο λb a=>Z9 ?_;apply a
 repeat apply Ν
 refine Z8 λb a=>?_;apply a;refine W.fix (id:=0) (σ':=[]) (Α _) U Ω Ω U [(0,.ξ [.sl true 2 [XW ⟨⟨#[98]⟩,9⟩,XW ⟨⟨#[99]⟩,4⟩,XW ⟨⟨#[100]⟩,6⟩,XW ⟨⟨#[105]⟩,48⟩,XW ⟨⟨#[111]⟩,12⟩],.sl true 1 [Yu [1,2],Yu [0],Yu [0,1,2]],.sl true 1 [.sl true 3 [Zi ⟨0,4,59⟩,Zi ⟨1,8,3⟩],.sl true 3 [Zi ⟨0,0,63⟩,Zi ⟨1,4,8⟩]]])] Ω ?_;refine W.rt ?_;refine .ZW (.cons .ex (.cons ?_ (.cons ?_ .nil)))
 .exact .map (l:=[[1,2],[0],[0,1,2]]) (f:=Yu) λx _=>.one .ex U U
 .exact .map (l:=[[⟨0,4,59⟩,⟨1,8,3⟩],[⟨0,0,63⟩,⟨1,4,8⟩]]) (f:=λl:List YV=>.sl true 3 (l.map Zi)) λx _=>.one .ex U U
end Go.TL
namespace Go.TL
open Go.Proofs.Tryz
open Go.Conc Go.Proofs
open Go.ConcN (sumTo upd sumTo_upd upd_ne upd_same sumTo_congr le_sumTo)
variable [ZP]
section
variable {P:Program} {Q:Value->Prop} {mn:Bool} {y:ZU} {f f' b:Frame} {cs cs':YU} {H:Τ} {t:ζ} {k:Zz} {ops:ZC} {i:Nat} {rest:ο} {op:Oper}
theorem Y6.quiet (a:XB y) (b:∀w,stepG P mn (Go.Conc.G f cs) w=.go (Go.Conc.G f' cs') w #[]) (h:Y6 P Q mn y f' cs' H):Y6 P Q mn y f cs H:=
 Quiet.goes (.cons ⟨U,U⟩ b (.nil _)) a ⟨U,U⟩ h
theorem Y6.next (a:XB y) (d:b.mode=.run) {id:Nat} {e:ZC} {c:Code} (h:Y6 P Q mn y (π b t (.inRegion e (List.range e.size)::.code c::k)) cs H):Y6 P Q mn y (π b t (.inRegion ops []::.code (.seq (.region id e false) c)::k)) cs H:=
 .quiet a (λw=>(Vn d w).trans U) (.quiet a (λw=>(Vn d w).trans U) (.quiet a (λw=>(Vn d w).trans U) h))
theorem tU {a:TypeId} {b:TypeInfo} {z:Value} (hi:P.info? a=some b) (c:b.zero=some z) (w:World) :
  (Instr.alloc a true (.tuple #[])).run P w=.ok (ptr w.heap.size 0) (w.alloc (.cells z.cells a (0,0)))/\∀es,(Instr.alloc a true (.tuple #[])).events P w es=es:=by
 constructor
 .simp[Instr.alloc,zeroValue,typeInfo,newVar,newRow,hi,c,Result.andThen]
 .intro es;simp[Instr.alloc,zeroValue,typeInfo,newVar,newRow,hi,c,Result.andThen,Result.evThen]
theorem Y6.Gc {d:TypeId} {m:TypeInfo} {z:Value} (D:y.rel=false) (f:Tp b ops i op) (E:op.op=.alloc d) (F:op.guard=none) (hi:P.info? d=some m) (I:m.zero=some z)
  (h:∀r,H.fresh r->(∀c v,y.Z4 c=some v->c<r)->Y6 P Q mn {y with Z4:=upd y.Z4 r (some (z.cells,d))} (π b (put op t (ptr r 0)) (.inRegion ops rest::k)) cs H):Y6 P Q mn y (π b t (.inRegion ops (i::rest)::k)) cs H:=by
 refine Goes.step (XB.ok (.inl D)) (.inr ⟨⟨U,U⟩,.inl λw n hv=>?_⟩);obtain⟨s,J⟩:=tU (P:=P) hi I w;have K:Region.wanted op (yielded ops t)=true:=by unfold Region.wanted;rw[F]
 have L:stepG P mn (Go.Conc.G (π b t (.inRegion ops (i::rest)::k)) cs) w=.go (Go.Conc.G (π b (put op t (ptr w.heap.size 0)) (.inRegion ops rest::k)) cs) (w.alloc (.cells z.cells d (0,0))) #[]:=by
  have e:execOp (ZJ t) op=(do pure (.value (<-Instr.alloc d true (.tuple #[])))):=by unfold execOp;rw[E]
  rw[WJ f.run f.ro,WJ f.run f.ro,<-O2];have M:(execOp (⟨t,b.defers⟩:_root_.Go.Act).eval op).run P w=.ok (.value (ptr w.heap.size 0)) (w.alloc (.cells z.cells d (0,0))):=by rw[TS,e];simp[s,Result.andThen]
  have g:(execOp (⟨t,b.defers⟩:_root_.Go.Act).eval op).events P w #[]=#[]:=by rw[TS,e];simp[s,J,Result.evThen]
  rw[stepG_value f.op K f.kd M];unfold listed;rw[g,seen_none]
 rw[L];have u:=(Ye.start n).row z.cells d;have j:Τ.fresh H w.heap.size:=n.fresh;have N:Sub H (H.Ym w.heap.size z.cells d):=by
  refine⟨λc o v p a=>⟨p,?_,id⟩,λc x a=>?_,λc x a=>a⟩
  .have:c≠w.heap.size:=λe=>by rw[e,j.1 o] at a;cases a
   simpa[Τ.Ym,this] using a
  .have:c≠w.heap.size:=λe=>by rw[e,j.2.1] at a;cases a
   simpa[Τ.Ym,this] using a
 have A:∀c v,y.Z4 c=some v->c<w.heap.size:=λc v a=>by
  have:=hv c v.1 v.2 a;exact(TJ.1 this).1
 refine⟨H,upd y.Z4 w.heap.size (some (z.cells,d)),⟨U,U⟩,u.keeps,N.fits u.fit,λc c' t' a=>?_,⟨λc o v p a=>.inr ⟨v,p,a,id⟩,λc a=>.inr a⟩,λc c' a=>?_,λe g=>by simp at g,λc c' _ _ e g=>by simp at g,h _ j A⟩
 .by_cases e:c=w.heap.size
  .subst e;rw[upd_same] at a;cases a;exact Kc
  .rw[upd_ne _ _ e] at a;have B:=hv c c' t' a;have C:=A c _ a;show(w.heap.push _)[c]?=_;rw[Array.getElem?_push_lt C];rw[Xu C] at B;exact B
 .by_cases e:c=w.heap.size
  .exact .inr ⟨Nat.le_of_eq e.symm,⟨λo ⟨x,l⟩=>(by rw[e,j.1 o] at l;cases l),λ⟨x,l⟩=>(by rw[e,j.2.2.1] at l;cases l)⟩⟩
  .rw[upd_ne _ _ e] at a;exact .inl a
theorem tT {B:Type} {s:Nat}:upd (λ_=>(none:Option B)) s none=λ_=>none:=by
 funext i
 by_cases e:i=s
 .subst e;exact upd_same ..
 .exact upd_ne _ _ e
theorem Y6.group {sp:Spec} {s m o:Nat} {k l g:TypeId} {c:ζ} (n:y.rel=false) (D:y.Z4=λ_=>none) (E:m<s) (F:s<o) (t:sp.ZK=some m) (j:H.fresh o) (I:sp.XI [] (Τ.empty.Ym o c g))
  (h:Y6 P Q mn {y with tok:=upd y.tok s (.par 0 0 .add),spec:=upd y.spec s (some sp),view:=upd y.view s none} f cs H) :
  Y6 P Q mn {y with Z4:=upd (upd (upd y.Z4 m (some (#[.int .i32 0,.int .u32 0],l))) s (some (#[.int .u64 0,.int .u32 0],k))) o (some (c,g))} f cs H:=by
 have u:s≠o:=Nat.ne_of_lt F
 have w:m≠o:=J
 have A:m≠s:=Nat.ne_of_lt E;refine Goes.step (XB.ok (.inl n)) (.inr ⟨⟨U,U⟩,.inr (.inr (.inr (.inr (.inr (.inr (.inr (.inr (.inr (.inr (.inl ⟨o,c,g,upd_same ..,?_⟩))))))))))⟩);refine Goes.step (XB.ok (.inl n)) (.inr ⟨⟨U,U⟩,.inr (.inr (.inr (.inr (.inr (.inr (.inr (.inr (.inr (.inr (.inr ⟨s,sp,k,H,Τ.empty.Ym o c g,?_,λL B=>?_,n,?_,λ_=>I,?_⟩))))))))))⟩)
 .show upd (upd _ o _) o none s=_;rw[upd_ne _ _ u,upd_ne _ _ u,upd_same]
 .rw[t] at B;cases B;refine⟨A,l,?_⟩;show upd (upd _ o _) o none m=_;rw[upd_ne _ _ w,upd_ne _ _ w,upd_ne _ _ A,upd_same]
 .refine⟨⟨λa q v p b=>⟨p,?_,id⟩,λa x b=>?_,λa x b=>b⟩,⟨λa q v p b=>⟨p,?_,id⟩,λa x b=>?_,λa x b=>(by cases b)⟩,⟨λa q ⟨v,hv⟩ ⟨x,d⟩=>?_,λa q ⟨v,hv⟩ ⟨x,d⟩=>?_,λa _ ⟨x,d⟩=>(by cases d)⟩⟩
  .have:a≠o:=λe=>by rw[e,j.1 q] at b;cases b
   simpa[this] using b
  .have:a≠o:=λe=>by rw[e,j.2.1] at b;cases b
   simpa[this] using b
  .by_cases e:a=o
   .simpa[Τ.Ym,e] using b
   .simp[Τ.Ym,e,Τ.empty] at b
  .by_cases e:a=o
   .simpa[Τ.Ym,e] using b
   .simp[Τ.Ym,e,Τ.empty] at b
  .by_cases e:a=o
   .rw[e,j.1 q] at hv;cases hv
   .simp[Τ.Ym,e,Τ.empty] at d
  .by_cases e:a=o
   .rw[e,j.1 q] at d;cases d
   .simp[Τ.Ym,e,Τ.empty] at hv
 .have e:(λa=>if a=s\/sp.ZK=some a then none else upd (upd (upd (upd y.Z4 m (some (#[.int .i32 0,.int .u32 0],l))) s (some (#[.int .u64 0,.int .u32 0],k))) o (some (c,g))) o none a)=y.Z4:=by
   funext a
   rw[D];by_cases i:a=s\/sp.ZK=some a
   .rw[if_pos i]
   .rw[if_neg i];rw[t] at i;have Ρ:a≠s:=λe=>i (.inl e);have K:a≠m:=λe=>i (.inr (by rw[e]));by_cases r:a=o
    .rw[r,upd_same]
    .rw[upd_ne _ _ r,upd_ne _ _ r,upd_ne _ _ Ρ,upd_ne _ _ K]
  have C:Goes P Q mn (Go.Conc.G f cs) {y with G:=H,Z4:=y.Z4,tok:=upd y.tok s (.par 0 0 .add),spec:=upd y.spec s (some sp),view:=upd y.view s none}:=h;rw[<-e] at C;exact C
theorem Y6.HC {s n p:Nat} {sp:Spec} {g:FuncId} {d:ζ} (f:y.rel=false) (h:y.deaf=0) (j:y.spec s=some sp) (l:y.tok s=.par n (p+1) .add) (c:Tp b ops i op) (m:op.guard=none) {fo:Operand} {o:Array TypeId} (r:op.op=.go ⟨.value fo,#[],o⟩) (u:op.dst=none)
  (hv:ZJ t fo=.func (.func g) #[] d) {S:κ} (v:Holds S [] [] H) (x:Y6 P Q mn {y with tok:=upd y.tok s (.par n p .add),view:=upd y.view s none} (π b t (.inRegion ops rest::k)) cs (QC S H))
  (A:Goes P Q false (born P ⟨.fn (.func g) d,#[]⟩) {ZH (TP s sp) s (.ch (n-(p+1)) .idle .work) none 0 with G:=Tg S}):Y6 P Q mn y (π b t (.inRegion ops (i::rest)::k)) cs H:=by
 have B:Region.wanted op (yielded ops t)=true:=by unfold Region.wanted;rw[m]
 have C:∀w,stepG P mn (Go.Conc.G (π b t (.inRegion ops (i::rest)::k)) cs) w=.spawn (Go.Conc.G (π b t (.inRegion ops rest::k)) cs) (born P ⟨.fn (.func g) d,#[]⟩) w #[]:=λw=>by
  have e:execOp (ZJ t) op=(do pure (.spawn (<-Deferred.ofValue (ZJ t fo) (#[].map (ZJ t))))):=by unfold execOp;rw[r];rfl
  rw[WJ c.run c.ro,WJ c.run c.ro];have D:(execOp (⟨t,b.defers⟩:_root_.Go.Act).eval op).run P w=.ok (.spawn ⟨.fn (.func g) d,#[]⟩) w:=by rw[TS,e,hv];simp[Deferred.ofValue,Result.andThen]
  have E:(execOp (⟨t,b.defers⟩:_root_.Go.Act).eval op).events P w #[]=#[]:=by rw[TS,e,hv];simp[Deferred.ofValue,Result.andThen,Result.evThen]
  rw[stepG_spawn (a:=⟨t,b.defers⟩) c.op B c.kd D U];have:(⟨t,b.defers⟩:_root_.Go.Act).put op.dst undef=⟨t,b.defers⟩:=by rw[u];rfl
  rw[this];unfold listed;rw[E,seen_none]
 refine Goes.step (XB.ok (.inl f)) (.inr ⟨⟨U,U⟩,.inr (.inr (.inr (.inr (.inr (.inr (.inr (.inr (.inl ⟨s,sp,n,p,Go.Conc.G (π b t (.inRegion ops rest::k)) cs,born P ⟨.fn (.func g) d,#[]⟩,QC S H,Tg S,j,l,h,⟨U,U⟩,⟨U,U⟩,f,λw _=>C w,uF v,x,?_⟩))))))))⟩);have e:({ZH (TP s sp) s (.ch (n-(p+1)) .idle .work) none 0 with G:=Tg S}:ZU)=⟨Tg S,λ_=>none,upd (λ_=>.nil) s (.ch (n-(p+1)) .idle .work),upd (λ_=>none) s (some sp),λ_=>none,0,false⟩:=by
  unfold ZH;simp only[tT]
 rw[<-e];exact A
end
end Go.TL
namespace Go.TL
open Go.Proofs.Tryz
open Go.Conc Go.Proofs
open Go.ConcN (sumTo upd sumTo_upd upd_ne upd_same sumTo_congr le_sumTo)
noncomputable def MI:Code:=f116.body.getD .skip
noncomputable def Cn:Code:=Yf [1,1,1,1,0,1,0,0,1,1,0,0,1,1,0,0,1,1,0,0,1] MI
noncomputable abbrev Ip (vs:ζ):Frame:=Frame.enter prog 116 vs .normal
abbrev env0 (s m o:Nat) (a:ω) (rest:Β):Β:=(5,.z (ptr o 0))::(4,.z (ptr s 0))::(3,.z (ptr m 0))::(1,ZV a)::rest
abbrev MH (s m o:Nat) (c:ω) (a b:Int) (rest:Β):Β:=(7,.ξ [I b])::(6,.ξ [I a])::env0 s m o c rest
structure Io (a:ω) (fd:Nat->Option Found) (pr:Nat->Int×Int) (F:Nat->Found) (N:Nat->Nat):Prop where
 look:∀k,k<3->∀c:ZP,@Κ c prog 143 [Zq a,Zb (pr k)] (YB (F k))
 many:∀k,k<3->∀c:ZP,@Κ c prog 78 [YB (F k),I (-1)] (I (N k))
 fd:∀k,fd k=if k<3/\0<N k then some (F k) else none
theorem Io.Tr {a:ω} {fd:Nat->Option Found} {pr:Nat->Int×Int} {F:Nat->Found} {N:Nat->Nat} (h:Io a fd pr F N) (L:ο) (b:L.Nodup):(L.filterMap fd).length<=3:=by
 have c:L.filterMap fd=(L.filter (· < 3)).filterMap fd:=by
  rw[List.filterMap_filter];congr 1
  funext k
  by_cases e:k<3
  .simp[e]
  .simp[e,h.fd k]
 rw[c];refine XQ (HU ..) ?_;have d:(L.filter (· < 3)).Nodup:=b.filter _;exact EV 3 _ d λk f=>by simpa using (TG.1 f).2
variable [ZP]
theorem V.boxed {P:Program} {p:Value->Prop} {mn:Bool} {z:WA} {b:Frame} {cs:YU} {nt:Nat} {o:Base} {k:Zz} {env:Β} {σ:Ξ} {ops:ZC} {i:Nat} {rest:ο} {g:Oper}
  (x:Seq z) (y:b.mode=.run) (A:b.roundOf=none) (C:ops[i]?=some g) (D:g.guard=none) {f:TypeId} {d:Operand} (E:g.op=.box f d) {l:μ} (F:ε env d=.ZW l) (I:l.all (Ψ.Yr [])=true) (J:0<l.length)
  (h:∀(S:κ) (B:Z5) (H:Τ) (t:ζ) (r:Nat) (c:ζ),XE o.m o.S o.B o.H o.σ S B H σ->Xb o.m nt S B H σ env t->H.fresh r->(∃v,(S.lay r c) r 0=some v)->Zm S (S.lay r c) B B σ σ->Ext S B H (S.lay r c) B (H.Ym r c f)->Holds (S.lay r c) B σ (H.Ym r c f)->υ (S.lay r c) B σ (.ξ l) (ptr r 0)->
   γ P p mn z (π b (put g t (ptr r 0)) (.inRegion ops rest::k)) cs (H.Ym r c f)):V P p mn z b cs nt o (.inRegion ops (i::rest)::k) env σ:=by
 intro S B H t K j;refine .op x y C (by unfold Region.wanted;rw[D]) (.inl A) ?_;have e:execOp (ZJ t) g=(do pure (.value (<-Instr.box f (ZJ t d)))):=by unfold execOp;rw[E]
 have n:=T3 j.Y7 d;rw[F] at n;rw[e];refine Φ.bind' ?_;unfold Instr.box;refine Φ.bind' ?_;unfold newVar newRow;have s:=Nj (σ:=σ) I;have L:=(n.cells (a:=.ZW l) s).1;refine Φ.bind' ⟨U,λr u=>Φ.pure' (Φ.pure' (Φ.pure' ?_))⟩;obtain⟨M,N,w⟩:=j.holds.lay (c:=(ZJ t d).cells) (t:=f) u;have O:0<(ZJ t d).cells.size:=by rw[L];exact J
 exact h S B H t r _ K j u ⟨(ZJ t d).cells[0],by simp[κ.lay,O]⟩ w N M (EE w (W4.one n s))
section
variable {y:ZU} {Q:Value->Prop} {mn:Bool} {β s m o n:Nat} {Xv:κ} {H1:Τ} {fd:Nat->Option Found} {pr:Nat->Int×Int} {F:Nat->Found} {N:Nat->Nat} {sp:Spec} {W1:ω} {v:Option (Nat×Z')} {vs:ζ} {cs:YU} {k:Zz} {rest:Β}
theorem Gb {a b:Int} (T:pr n=(a,b)) (f:TR y s sp) (ad:sp.ZK=some m) (ae:sp.XI=NW β Xv o fd) (af:∀k,sp.D k Τ.empty) (aR:sp.top=3) (K:n<3) (j:Io W1 fd pr F N) (ag:∃q v,Xv β q=some v) (ah:∃q x,H1.η β q=some x) (ai:∀p∈rest,p.1∉[16,15,7,6,5,4,3,1]/\Z3 rest p.1=p.2)
  (aj:V prog Q mn (one (ZH y s (.par (n+1) 0 .add) none 0)) (Ip vs) cs 23 ⟨Xv,[],H1,[],0⟩ k ((6,.ξ [I a])::env0 s m o W1 rest) []) :
  V prog Q mn (one (ZH y s (.par n 0 .add) v 0)) (Ip vs) cs 23 ⟨Xv,[],H1,[],0⟩ (.code Cn::k) (MH s m o W1 a b rest) []:=by
 letI:ZP:=XV;obtain rfl:a=(pr n).1:=by rw[T]
 obtain rfl:b=(pr n).2:=by rw[T]
 have w:=f.seq;refine V.W' (w _ _ _) U ?_;simp only[Cn,MI,f116,Option.getD_some,Yf];refine YQ ?_;refine W.Za (.stop ?_);refine V.call (w _ _ _) ⟨U,U,by simp[Frame.enter],U⟩ U U U ⟨_,func140,U,U⟩ λS B H t aS ak c hv=>?_;obtain rfl:=To (l:=[ptr s 0,.int .i64 1]) hv;obtain rfl:B=[]:=YA.1 c.holds.len;rintro al rfl;refine u9 f J c.holds λaT X aU Y am=>?_;rw[VJ U];have Z:Zm S X [] [] [] []:=⟨Y.Yy,λid r h=>by simp at h⟩;refine V.here (x:=one _) (m:=0) (nt:=23) (S:=X) (B:=[]) (σ:=[]) (env:=(15,.z (.tuple #[]))::MH s m o W1 (pr n).1 (pr n).2 rest) ?_ ⟨am,Yv.later (Yv.put c.Y7 (d:=15) (by rw[c.size];omega) (.z (.tuple #[]))) Z,Xk (Ta ..) c.size,Α _⟩ _ U;refine V.W' (w _ _ _) U ?_;refine W.ZB ?_;refine W.Za ?_;refine Xn [0] [1] ?_;refine W.stop ?_;intro A an ao t3 ap e;obtain rfl:an=[]:=YA.1 e.holds.len;rintro al rfl;have M:=e.Y7 16;simp only[Z3,if_true] at M;obtain⟨aV,aa⟩:=Ε (t3.getD 16 undef);rw[<-aa] at M;have O:XE 0 Xv [] H1 [] A [] ao []:=ak.trans ((XE.of Y Z).trans ap);cases M with
 | fn w1 aq ar au aW C=>
  have av:w1=#[]:=KT (by rw[<-ar];rfl);subst av;obtain⟨l2⟩:=aq
  match l2,au with
  | [ab,aw,ax,ay,az,aA],_=>
   have aB:ab=ptr s 0:=by have:=C 0 _ _ U U;cases this;rfl
   have aC:az=ptr m 0:=by have:=C 4 _ _ U U;cases this;rfl
   have aD:aA=ptr o 0:=by have:=C 5 _ _ U U;cases this;rfl
   subst aB;subst aC;subst aD;have aE:XN A [] [] (Gf s m o W1 (pr n).1 (pr n).2) (Ir s m o aw ax ay):=⟨U,λi a v E P=>C i a v E P⟩;refine Y6.HC (s:=s) (n:=n+1) (p:=0) (sp:=sp) f.rel U f.spec Zg ⟨U,U,by simp[Frame.enter],U⟩ U U U aa.symm (S:=A) e.holds ?_ ?_
   .rw[Wv];have aF:=uC e.holds;have aG:∀g:Ψ,∀p∈(6,.ξ [I (pr n).1])::env0 s m o W1 rest,Z3 ((16,g)::(15,.z (.tuple #[]))::MH s m o W1 (pr n).1 (pr n).2 rest) p.1=p.2:=λg p c=>by
     simp only[env0,Y9] at c;rcases c with rfl|rfl|rfl|rfl|rfl|c<;>first|rfl|skip
     obtain⟨E,P⟩:=ai p c;simp only[Y9,Yb,or_false,not_or] at E;obtain⟨aH,aI,aJ,aK,aL,aM,aN,aO⟩:=E;simp only[Z3,YF aH,YF aI,YF aJ,YF aK,YF aL,YF aM,YF aN,YF aO,if_false];exact P
    refine V.W' (w (.par (n+1) 0 .add) none 0) U (W.ZB (W.forget ((6,.ξ [I (pr n).1])::env0 s m o W1 rest) (aG _) (.stop aj))) A [] _ t3 (O.trans (XE.of aF (Zm.refl ..))) ⟨uE e.holds,e.Y7,e.size,Α _⟩ _ U
   .refine uj ad J ae (af _) (j.look n K) (j.many n K) ?_ (λL aP=>?_) ?_ (λb q u R=>?_) aE
    .show fd n=_;rw[j.fd n];simp[K]
    .rw[X2];have:=j.Tr L aP;omega
    .obtain⟨q,u,R⟩:=ag;exact⟨q,u,O.ext.Yy _ _ _ R⟩
    .obtain⟨aX,ab,aQ⟩:=ah;rcases O.ext.QZ b q u R with h|⟨N,h⟩|h
     .exact .inl (by rw[h];simp)
     .simp at h
     .exact .inr (Gi aQ h)
end
end Go.TL
namespace Go.TL
open Go.Proofs.Tryz
open Go.Conc Go.Proofs
open Go.ConcN (sumTo upd sumTo_upd upd_ne upd_same sumTo_congr le_sumTo)
structure Calm (y:ZU):Prop where
 rel:y.rel=false
 Z4:y.Z4=λ_=>none
 deaf:y.deaf=0
 shut:∀s,WY (y.tok s)
def calm:WA:=Calm
@[reducible] def Ue:ZP:=⟨λx=>x=calm⟩
variable [ZP]
def PG (x y:Found):Int:=Uq (x.u,x.v) (y.u,y.v)
def Sn (x y:Found):Prop:=x.u<y.u\/(x.u=y.u/\x.v<y.v)
theorem tS (x y:Found):ψ PG x y=true↔Sn x y:=by
 have h:=R0 (x.u,x.v) (y.u,y.v)
 have e:ψ PG x y=ψ Uq (x.u,x.v) (y.u,y.v):=rfl;rw[e,h];simp[Sn]
theorem tR:Go.Sort.SWO (ψ PG) where
 irrefl x:=O9.irrefl (x.u,x.v)
 trans x y z:=O9.trans (x.u,x.v) (y.u,y.v) (z.u,z.v)
 ntrans x y z:=O9.ntrans (x.u,x.v) (y.u,y.v) (z.u,z.v)
instance:Inhabited Found:=⟨⟨0,0,[]⟩⟩
theorem tQ {m:Zj} (h:m.Pairwise Sn):∀a∈m,∀b∈m,¬Sn a b->¬Sn b a->a=b:=by
 induction h with
 | nil=>intro a c;cases c
 | cons d o l=>
  intro a c b n e f;rcases Y9.1 c with g|i<;>rcases Y9.1 n with j|k
  .rw[g,j]
  .exact absurd (g▸d b k) e
  .exact absurd (j▸d a i) f
  .exact l a i b k e f
theorem tP {l m:Zj} (r:l.Perm m) (e:m.Pairwise Sn):(Go.Sort.insertionSort (ψ PG) l.toArray 0 l.length).toList=m:=by
 obtain⟨⟨f,_,c⟩,g⟩:=Go.Sort.insertionSort_holds (lt:=ψ PG) tR l.toArray 0 l.length (Α _) Ω;generalize Go.Sort.insertionSort (ψ PG) l.toArray 0 l.length=d at f c g;have n:d.size=l.length:=by simpa using f
 have s:d.extract 0 l.length=d:=by rw[<-n];exact Array.extract_size
 have Ρ:l.toArray.extract 0 l.length=l.toArray:=by
  simp
 rw[s,Ρ] at c;have o:d.toList.Perm m:=c.trans r;have t:∀x y,ψ PG x y=false↔¬Sn x y:=λx y=>by rw[<-tS];simp
 refine Mm (le:=λx y=>¬Sn y x) (λa b u v w A=>?_) ?_ (e.imp λ{a b} h k=>?_) o
 .exact tQ e a (o.mem_iff.1 u) b v A w
 .rw[Rc];intro i j hi p B;have:=g i j (Α _) B (by simpa[n] using p);rw[t] at this;rw[getElem!_pos d j (by simpa using p),getElem!_pos d i (by simpa using hi)] at this;simpa using this
 .simp only[Sn] at h k;omega
theorem tO {a:Nat->Τ->Prop} (b:∀k E,a k E->E=Τ.empty):∀(L:ο) (E:Τ),T6 a L E->E=Τ.empty:=by
 intro L
 induction L with
 | nil=>intro E h;exact h
 | cons k i c=>
  rintro E ⟨d,e,f,g,_,rfl⟩;rw[b k d f,c e g];exact HF _
end Go.TL
namespace Go.TL
open Go.Proofs.Tryz
open Go.Conc Go.Proofs
open Go.ConcN (sumTo upd sumTo_upd upd_ne upd_same sumTo_congr le_sumTo)
abbrev Im:Ψ:=.fn (.func 148) [] []
theorem tN [ZP] (x y:Found):XM prog Im [YB x,YB y] (I (PG x y)):=λσ=>(xE x y).c (ZN.refl _) Ω Ω ⟨rfl,rfl⟩
section
variable {y:ZU} {Q:Value->Prop} {mn:Bool} {β s m o:Nat} {OU Xv:κ} {Rj H1:Τ} {fd:Nat->Option Found} {sp:Spec} {W1:ω} {v:Option (Nat×Z')} {vs:ζ} {c:Frame} {cs:YU}
theorem tM (Z:TR y s sp) (an:sp.ZK=some m) (ao:sp.XI=NW β Xv o fd) (ap:∀k E,sp.D k E->E=Τ.empty) (aq:∀L:ο,L.Nodup->(L.filterMap fd).length<=3) {d:Zj} (ar:(List.range 3).filterMap fd=d) (au:d.Pairwise Sn)
  (av:∀v,Calm (ZH y s (.par 3 0 .ZO) v 0)) (aw:Od prog Q mn calm c cs OU [] Rj [] (λa s=>YR a (Y3 d)/\s=[]) (λ_ _=>False)) (ax:Ext OU [] Rj Xv [] H1) (ay:Rj.fresh β) :
  V prog Q mn (one (ZH y s (.par 3 0 .add) v 0)) (Ip vs) (c::cs) 23 ⟨Xv,[],H1,[],0⟩ [.code (Yf [1,1,1,1,1] MI)] (env0 s m o W1 []) []:=by
 letI:ZP:=XV;have F:=Z.seq;refine V.W' (F _ _ _) U ?_;simp only[MI,f116,Option.getD_some,Yf];refine YQ ?_;refine W.Za (.stop ?_);refine V.call (F _ _ _) ⟨U,U,by simp[Frame.enter],U⟩ U U U ⟨_,func146,U,U⟩ λS B H t a4 g A hv=>?_;obtain rfl:=To (l:=[ptr s 0]) hv;obtain rfl:B=[]:=YA.1 A.holds.len;rintro az rfl;refine u2 Z A.holds (n:=3) λI H' aA aa aB a5 C ab a6 aC aD a7 a8 aE a9 aF aG a' aH O=>?_;rw[VJ U];obtain rfl:=tO ap aA aB aC;rw[HF] at O;obtain⟨ad,ae⟩:=aD (by rw[an];simp);rw[ao] at ae;obtain⟨hi,K,M,P,aI⟩:=ae;obtain⟨w,f1,f2,f3⟩:=aF;obtain⟨G,R⟩:=Ε (aa.filterMap fd);have T:G.Perm d:=by rw[R,<-ar];exact ad.filterMap _
 have ba:G.length<=3:=by rw[R];exact aq aa (ad.nodup_iff.2 Kz)
 rw[<-R] at P;obtain⟨aJ,l1,l2⟩:=Cw ab P aE ⟨w,f1,f3⟩ (Is _);have aK:=uz (ax.trans (g.ext.trans C)) (g.ext.trans C).Yy ay hi ab P (Is _);obtain⟨aL,aM⟩:=aJ.P9 (λb aN=>O.P9 aN) O.grow;have aO:=aK.trans aM;have aP:t.getD 5 undef=ptr o 0:=by
  have:=A.Y7 5;simp only[Z3] at this;generalize t.getD 5 undef=u at this;cases this;rfl
 have aQ:Yv (I.plus K) M (WI (G.map YB)) [(5,.Δ 0 1 0 0)] (t.setIfInBounds 19 (.tuple #[])):=λi=>by
  simp only[Z3];split
  .rename_i e;subst e;have aR:(t.setIfInBounds 19 (.tuple #[])).getD 5 undef=ptr o 0:=by
    rw[<-aP,Wr,Wr,UC ZT]
   rw[aR];have:=υ.Δ (S:=I.plus K) (B:=M) (σ:=WI (G.map YB)) (id:=0) (n:=1) (i:=0) (j:=0) (k:=1) (t:=99) (l:=[PH (G.map YB)]) (b:=o) (N:=1) (by simp[WI]) U aI;simpa using this
  .exact .Ze _
 refine V.here (x:=one _) (m:=0) (nt:=23) (S:=I.plus K) (B:=M) (σ:=WI (G.map YB)) (env:=[(5,.Δ 0 1 0 0)]) ?_ ⟨aL,aQ,Xk (Ta ..) A.size,Α _⟩ _ U;have af:∀(e:Bool) (k:Nat),YR (.sl e k (d.map YB)) (Y3 d)->V prog Q mn (one (ZH y s (.par 3 0 .ZO) aG 0)) (Ip vs) (c::cs) 23 ⟨I.plus K,M,aH,WI (G.map YB),0⟩ [.code .ret] [(2,.sl e k (d.map YB))] []:=λe k aS=>by
  intro bb aT bc t5 aU X;obtain rfl:aT=[]:=YA.1 X.holds.len;refine γ.ret (F _ _ _) U U (γ.back (F _ _ _) U U (.inl U) func116 ?_);refine Φ.mono (λu aV ⟨aW,aX,aY,bd,ag,aZ⟩=>?_) (λ_ _ h=>h) _ (Jq Ο (a:=.sl e k (d.map YB)) U X.holds X.Y7);obtain rfl:aX=[]:=YA.1 ag.len;rintro az rfl;have ah:=aO.trans (aU.ext.trans aY);exact aw.ret _ [] aW [] aV u ⟨aS,U⟩ ah ⟨ah.Yy,λid r h=>by simp at h⟩ ag aZ _ (av _)
 refine V.W' (F _ _ _) U ?_;refine W.ZB ?_;have a0:∀e∈G.map YB,∀a∈e.cells,ς 0 a:=λe C a g=>by
  obtain⟨z,_,rfl⟩:=YO.1 C;exact M4 z a g
 by_cases ai:G=[]
 .subst ai;have a1:d=[]:=T.symm.eq_nil;subst a1;refine YQ ?_;refine YZ λY f=>?_;simp;(repeat (rw[Θ];simp[WI,Gg,U0]));refine Κ.c (wT Im Ω) (ZN.refl _) Ω Ω ?_;simp;(repeat (rw[Θ];simp));apply f;refine Z8 λY f=>?_;apply f;refine W.cut 0 (Α _) [(2,.sl true 0 [])] (Α _) (λid r h=>J) (by simp;exact .low Ω) ?_;exact .stop (af _ _ .nil)
 .have aj:G.map YB≠[]:=by simpa using ai
  have a2:=tP T au;refine YQ ?_;refine YZ λY f=>?_;simp;(repeat (rw[Θ];simp[WI,It aj,Yd aj]));have ak:=xx G.toArray G.length Ω J Im PG Ω tN;rw[a2] at ak;have a3:d.length=G.length:=T.length_eq.symm;have al:ς 0 Im:=Ω;have am:∀e∈d.map YB,∀a∈e.cells,ς 0 a:=λe C a g=>by
   obtain⟨z,_,rfl⟩:=YO.1 C;exact M4 z a g
  refine Μ.one ak 1 U a0 am (by simp[TY,N9,al.Vr 1]) (by simp[Xr]) (by simp[TX,Su,al.Yh [1]]) ?_;simp[Yh,Wx];(repeat (rw[Θ];simp));apply f;refine Z8 λY f=>?_;apply f;refine W.cut 0 (Α _) [(2,.sl false 3 (d.map YB))] (Α _) (λid r h=>J) (λp A=>?_) ?_
  .obtain rfl:p=(2,.sl false 3 (d.map YB)):=by simpa using A
   refine X'.own (id:=1) (t:=110) (Α _) U (by simp[a3]) am
  .exact .stop (af _ _ (.refl _))
end
theorem Ga {P:Program} {b:TypeId} {z:Value} (h:((P.info? b).bind (·.zero))=some z):∃a,P.info? b=some a/\a.zero=some z:=by
 cases hi:P.info? b with
 | none=>rw[hi] at h;cases h
 | some a=>rw[hi] at h;exact⟨a,rfl,h⟩
theorem tL:((prog.info? 173).bind (·.zero))=some (.agg #[.int .i32 0,.int .u32 0]):=by kernel_rfl
theorem tK:((prog.info? 179).bind (·.zero))=some (.agg #[.int .u64 0,.int .u32 0]):=by kernel_rfl
theorem tJ:((prog.info? 99).bind (·.zero))=some (.slice none 0 0):=by kernel_rfl
theorem tI {o:Nat}:Holds Xp [some (o,1)] (WI []) (Τ.empty.Ym o #[.slice none 0 0] 99):=by
 have b:Holds Xp [] [] Τ.empty:=MR _
 have c:W4 Xp [] [] #[.slice none 0 0] 1 [.sl true 0 []]:=W4.one (a:=.sl true 0 []) (v:=.slice none 0 0) (.VY none 0 λ_=>rfl) U;exact(LP (P:=prog) (K:=λr G=>Holds Xp [some (r,1)] (WI []) G) (E:=λ_ _=>False) b c 99 λr _ d _ _=>d).2 o ⟨λ_=>rfl,U,U,λ_ _=>⟨λ_=>rfl,U,U⟩⟩
section
variable {fd:Nat->Option Found} {pr:Nat->Int×Int} {F:Nat->Found} {N:Nat->Nat} {W1:ω} {F':Zj}
theorem tH (X:Io W1 fd pr F N) (av:pr 0=(1,0)) (aw:pr 1=(2,0)) (ax:pr 2=(2,1)) (ay:(List.range 3).filterMap fd=F') (az:F'.Pairwise Sn):@Κ Ue prog 116 [Zq W1] (Y3 F'):=by
 refine⟨⟨_,func116,U,U⟩,λa4 mn x c rest ak aA af vs aB al aC aD=>?_⟩;obtain rfl:x=calm:=@Seq.cls Ue x aB;obtain rfl:aA=[]:=YA.1 al.len;rintro y ⟨f,Y,aE,am⟩;letI:ZP:=XV;have ag:Seq (one y):=Seq.O1 trivial f Y;rw[Rw (body:=MI) func116 U];refine V.here (x:=one y) (m:=0) (nt:=23) (S:=ak) (B:=[]) (H:=af) (σ:=[]) (env:=entry 0 [Zq W1]) ?_ (Xb.enter al aC (Z6 _) Ω) y U;refine V.W' ag U ?_;simp only[MI,f116,Option.getD_some];refine YQ ?_;refine W.Za (.stop ?_);refine V.boxed ag U U U U U (l:=[ZD W1.χ,ZM W1.θ,Sv W1.cells]) U U Ω λS B H t r aF an w aG aH aI aJ aK aL=>?_;obtain rfl:B=[]:=YA.1 w.holds.len;refine V.here (x:=one y) (m:=0) (nt:=23) (S:=S.lay r aF) (B:=[]) (σ:=[]) (env:=[(1,ZV W1)]) ?_
  ⟨aK,NV (Yv.put (w.Y7.later aI) (d:=1) (by rw[w.size];omega) aL) Ω,Xk (Ta ..) w.size,Α _⟩
 refine V.W' ag U ?_;refine Xn [1] [] ?_;refine W.ZB ?_;refine YQ ?_;refine W.Za (.stop ?_);intro L aM ao t2 ap j;obtain rfl:aM=[]:=YA.1 j.holds.len;rintro i rfl;obtain⟨a5,aN,aO⟩:=Ga tL;obtain⟨a6,aP,aQ⟩:=Ga tK;obtain⟨a7,aR,aS⟩:=Ga tJ;refine Y6.Gc f ⟨U,U,by simp[Frame.enter],U⟩ U U aN aO λm a8 _=>?_;refine Y6.next ?_ ?_ ?_
 .exact .inl f
 .rfl
 refine Y6.Gc ?_ ⟨U,U,by simp[Frame.enter],U⟩ U U aP aQ λs a9 aT=>?_
 .exact f
 refine Y6.next ?_ ?_ ?_
 .exact .inl f
 .rfl
 refine Y6.Gc ?_ ⟨U,U,by simp[Frame.enter],U⟩ U U aR aS λo aq aU=>?_
 .exact f
 have aV:m<s:=aT m _ (upd_same ..)
 have aW:s<o:=aU s _ (upd_same ..);obtain⟨sp,M⟩:∃sp:Spec,sp=⟨some m,NW r L o fd,λ_ E=>E=Τ.empty,3⟩:=⟨_,U⟩;have Z:∃q v,L r q=some v:=let ⟨u,ah⟩:=aH;⟨0,u,ap.ext.Yy _ _ _ ah⟩;have aa:∃q x,ao.η r q=some x:=let ⟨q,u,ah⟩:=Z;let ⟨p,w⟩:=j.holds.Yy _ _ _ ah;⟨q,_,w⟩;have ar:r<o:=let ⟨_,_,h⟩:=aa;Gi h aq;have O:sp.ZK=some m:=by rw[M]
 have P:sp.XI=NW r L o fd:=by rw[M]
 have ab:∀k E,sp.D k E↔E=Τ.empty:=λk E=>by rw[M]
 have ad:sp.top=3:=by rw[M]
 clear M;have aX:sp.XI [] (Τ.empty.Ym o #[.slice none 0 0] 99):=by
  rw[P];refine⟨⟨λb q x Q=>?_,λb x Q=>?_,λb x Q=>(by cases Q)⟩,Xp,_,tI,U⟩
  .by_cases e:b=o
   .exact .inr (e▸ar)
   .simp[Τ.Ym,e,Τ.empty] at Q
  .by_cases e:b=o
   .exact e▸ar
   .simp[Τ.Ym,e,Τ.empty] at Q
 refine Y6.group (y:=i) (sp:=sp) f Y aV aW O aq aX ?_;obtain⟨ai,aj⟩:=Ε ({i with spec:=upd i.spec s (some sp)}:ZU);have aY:({i with tok:=upd i.tok s (.par 0 0 .add),spec:=upd i.spec s (some sp),view:=upd i.view s none}:ZU)=ZH ai s (.par 0 0 .add) none 0:=by
  rw[aj];unfold ZH;simp only[aE]
 rw[aY];have R:TR ai s sp:=by
  rw[aj];refine⟨f,Y,upd_same ..,by rw[ad];decide,λC _=>?_⟩;have:=am C;show S3 (i.tok C);cases au:i.tok C with
  | nil=>trivial
  | par n p aZ=>rw[au] at this;cases aZ<;>first|trivial|exact this.elim
  | ch k a' g=>rw[au] at this;exact this.elim
 have a0:∀v,Calm (ZH ai s (.par 3 0 .ZO) v 0):=λv=>by
  rw[aj];refine⟨f,Y,U,λC=>?_⟩;by_cases e:C=s
  .subst e;rw[Zg];trivial
  .rw[Lk e];exact am C
 have ae:=R.seq
 have a1:=X.Tr
 have a2:Ext ak [] af L [] ao:=an.ext.trans (aJ.trans ap.ext)
 have a3:af.fresh r:=an.ext.grow _ aG;refine V.here (x:=one _) (m:=0) (nt:=23) (S:=L) (B:=[]) (σ:=[]) (env:=env0 s m o W1 []) ?_
  ⟨j.holds,NV (Yv.put (Yv.put (Yv.put j.Y7 (d:=3) (by rw[j.size];omega) (.z (ptr m 0))) (d:=4) (by rw[Ta,j.size];omega) (.z (ptr s 0))) (d:=5) (by rw[Ta,Ta,j.size];omega) (.z (ptr o 0))) Ω,
   Xk (Ta ..) (Xk (Ta ..) (Xk (Ta ..) j.size)),Α _⟩ _ U
 have w1:IntKind.i64.wrap 1=1:=ZT
 have J:IntKind.i64.wrap 2=2:=ZT
 have K:IntKind.i64.wrap 3=3:=ZT;refine V.W' (ae _ _ _) U ?_;refine W.ZB ?_;refine Wa ?_;refine .loop ?_;refine Wa ?_;refine YY (A:=[6]) Ο λT a=>Z9 ?_;apply a;refine W.fix (id:=0) (σ':=[]) (Α _) U Ω Ω U ((6,.ξ [I 0])::env0 s m o W1 [(8,I 0)]) Ω ?_;refine Wa ?_;refine .loop ?_;refine Wa ?_;refine W.exit U ?_;refine V9 (Υ w1 (Υ J K)) ?_;refine .inLoop ?_;refine Wa ?_;refine YY (A:=[6]) Ο λT a=>Z9 ?_;apply a;refine W.fix (id:=0) (σ':=[]) (Α _) U Ω Ω U ((6,.ξ [I 1])::env0 s m o W1 [(8,I 1)]) Ω ?_;refine Wa ?_;refine .loop ?_;refine Wa ?_;refine YY (A:=[7]) Ο λT a=>Z9 ?_;apply a;refine W.fix (id:=0) (σ':=[]) (Α _) U Ω Ω U (MH s m o W1 1 0 [(8,I 1),(11,I 1),(12,I 0)]) Ω ?_;refine W.stop (Gb av R O P (λk=>(ab k _).2 U) ad ZT X Z aa Ω ?_);refine V.W' (ae _ _ _) U ?_;refine V9 (Υ w1 (Υ J K)) ?_;refine .inLoop ?_;refine Wa ?_;refine W.exit U ?_;refine V9 (Υ w1 (Υ J K)) ?_;refine .inLoop ?_;refine Wa ?_;refine YY (A:=[6]) Ο λT a=>Z9 ?_;apply a;refine W.fix (id:=0) (σ':=[]) (Α _) U Ω Ω U ((6,.ξ [I 2])::env0 s m o W1 [(8,I 2)]) Ω ?_;refine Wa ?_;refine .loop ?_;refine Wa ?_;refine YY (A:=[7]) Ο λT a=>Z9 ?_;apply a;refine W.fix (id:=0) (σ':=[]) (Α _) U Ω Ω U (MH s m o W1 2 0 [(8,I 2),(11,I 2),(12,I 0)]) Ω ?_;refine W.stop (Gb aw R O P (λk=>(ab k _).2 U) ad ZT X Z aa Ω ?_);refine V.W' (ae _ _ _) U ?_;refine V9 (Υ w1 (Υ J K)) ?_;refine .inLoop ?_;refine Wa ?_;refine YY (A:=[7]) Ο λT a=>Z9 ?_;apply a;refine W.fix (id:=0) (σ':=[]) (Α _) U Ω Ω U (MH s m o W1 2 1 [(8,I 2),(11,I 2),(12,I 1)]) Ω ?_;refine W.stop (Gb ax R O P (λk=>(ab k _).2 U) ad ZT X Z aa Ω ?_);refine V.W' (ae _ _ _) U ?_;refine V9 (Υ w1 (Υ J K)) ?_;refine .inLoop ?_;refine Wa ?_;refine W.exit U ?_;refine V9 (Υ w1 (Υ J K)) ?_;refine .inLoop ?_;refine Wa ?_;refine W.exit U ?_;refine W.forget (env0 s m o W1 []) Ω ?_;refine W.stop ?_;exact tM R O P (λk E=>(ab k E).1) a1 ay az a0 aD a2 a3
end
end Go.TL
namespace Go.TL
open Go.Proofs.Tryz
open Go.Proofs
variable [ZP]
def ω.Vg (s:ω) (n:Int):Bool:=decide (n< -1)||decide ((s.χ.length:Int)<=n)
def PF (s:ω) (e f:ZZ) (a:Int):Int×Int:=
 if s.err≠0 then(0,s.err) else
 match e,f with
 | [b,c],[d,l1]=>if UL b=false\/UL c=false\/s.Vg d=true\/s.Vg l1=true\/a<0\/(s.θ.length:Int)<=a then(0,3) else if b<=c then(0,5) else(s.XS (b,c) (d,l1) a.toNat,0)
 | _,_=>(0,8)
theorem tG (s:ω) (n:Int):Κ prog 92 [I n,ZV s] (ν (s.Vg n)):=by
 refine Μ.body Ο func92 U U ntmps92 U U Ω ?_;by_cases h:n< -1
 .refine Ι h ?_;refine W.ZA ?_;simp[ω.Vg,h]
 .refine Ι h ?_;refine W.ZA ?_;simp[ω.Vg,h]
abbrev tF (p:Int×Int):Ψ:=.ZY [I p.1,I p.2]
theorem tE (s:ω) (H:s.small) (l m:ZZ) (g:Int):Κ prog 34 [Zq s,δ I 1 l,δ I 1 m,I g] (tF (PF s l m g)):=by
 refine Μ.body Ο func34 U U ntmps34 U U Ω ?_;refine Χ ?_;refine Z8 λo f=>?_;refine Κ.d (I5 s H) (Z9 ?_);apply f;refine Χ ?_;by_cases B:s.err=0
 case neg=>
  refine Ζ (by simp[B]) ?_;refine Χ ?_;refine W.ZA ?_;rw[show PF s l m g=(0,s.err) by unfold PF;rw[if_pos B]];rfl
 refine Η (by simp[B]) ?_;refine Χ ?_;have hv:PF s l m g=match (generalizing:=false) l,m with
   | [i,j],[k,l1]=>if UL i=false\/UL j=false\/s.Vg k=true\/s.Vg l1=true\/g<0\/(s.θ.length:Int)<=g then(0,3) else if i<=j then(0,5) else(s.XS (i,j) (k,l1) g.toNat,0)
   | _,_=>(0,8):=by unfold PF;rw[if_neg (by simpa using B)]
 by_cases C:(l.length:Int)=2
 case neg=>
  have e:PF s l m g=(0,8):=by
   rw[hv];split
   .simp at C
   .rfl
  refine XD C λo f=>?_;apply f;refine Ζ U ?_;refine Χ ?_;refine W.ZA ?_;rw[e];rfl
 by_cases F:(m.length:Int)=2
 case neg=>
  have e:PF s l m g=(0,8):=by
   rw[hv];split
   .simp at F
   .rfl
  refine XD (Υ C F) λo f=>?_;apply f;refine Ζ U ?_;refine Χ ?_;refine W.ZA ?_;rw[e];rfl
 obtain⟨i,j,rfl⟩:∃a b,l=[a,b]:=by
  match l,C with
  | [a,b],_=>exact⟨a,b,rfl⟩
  | [],h=>simp at h
  | [_],h=>simp at h
  | _::_::_::_,h=>simp at h;omega
 obtain⟨k,l1,rfl⟩:∃a b,m=[a,b]:=by
  match m,F with
  | [a,b],_=>exact⟨a,b,rfl⟩
  | [],h=>simp at h
  | [_],h=>simp at h
  | _::_::_::_,h=>simp at h;omega
 simp only at hv;refine Z8 λo f=>?_;apply f;refine Η U ?_
 repeat apply Ν
 have f3:(UL i=false\/UL j=false\/s.Vg k=true\/s.Vg l1=true\/g<0\/(s.θ.length:Int)<=g)->PF s [i,j] [k,l1] g=(0,3):=λh=>by rw[hv];exact if_pos h
 have K:([k,l1].any s.Vg)=(s.Vg k||s.Vg l1):=Ω
 have call3:Κ prog 94 [δ I 1 [k,l1],.fn (.func 92) [] [ZV s]] (ν (s.Vg k||s.Vg l1)):=by
  rw[<-K];exact xr [k,l1] _ s.Vg Ω (by simp[U5]) (λx _=>λ_=>(tG s x).cc (by simp;exact ZN.refl _) Ω Ω ⟨U,U⟩)
 cases u:UL i
 case false=>
  have t:=f3 (.inl u);refine Z8 λo f=>?_;refine Κ.d (R5 i) (XK u ?_);apply f;refine Ζ U ?_;refine Χ ?_;refine W.ZA ?_;rw[t];rfl
 cases v:UL j
 case false=>
  have t:=f3 (.inr (.inl v));refine Z8 λo f=>?_;refine Κ.d (R5 i) (XK u ?_);refine Κ.d (R5 j) (XK v ?_);apply f;refine Ζ U ?_;refine Χ ?_;refine W.ZA ?_;rw[t];rfl
 cases r:s.Vg k||s.Vg l1
 case true=>
  have t:=f3 (.inr (.inr (by rcases Md _ _ |>.mp r with h|h<;>simp[h])));refine Z8 λo f=>?_;refine Κ.d (R5 i) (XK u ?_);refine Κ.d (R5 j) (XK v ?_);refine Κ.c call3 (ZN.refl _) (by simp[U5]) Ω ?_;simp[r];(repeat (rw[Θ];simp[r]));apply f;refine Ζ U ?_;refine Χ ?_;refine W.ZA ?_;rw[t];rfl
 by_cases w:g<0
 .have t:=f3 (.inr (.inr (.inr (.inr (.inl w)))));refine Z8 λo f=>?_;refine Κ.d (R5 i) (XK u ?_);refine Κ.d (R5 j) (XK v ?_);refine Κ.c call3 (ZN.refl _) (by simp[U5]) Ω ?_;simp[r,w];(repeat (rw[Θ];simp[r,w]));apply f;refine Ζ U ?_;refine Χ ?_;refine W.ZA ?_;rw[t];rfl
 by_cases y:(s.θ.length:Int)<=g
 .have t:=f3 (.inr (.inr (.inr (.inr (.inr y)))));refine Z8 λo f=>?_;refine Κ.d (R5 i) (XK u ?_);refine Κ.d (R5 j) (XK v ?_);refine Κ.c call3 (ZN.refl _) (by simp[U5]) Ω ?_;simp[r,w,y];(repeat (rw[Θ];simp[r,w,y]));apply f;refine Ζ U ?_;refine Χ ?_;refine W.ZA ?_;rw[t];rfl
 have D:s.Vg k=false/\s.Vg l1=false:=by simpa using r
 rw[if_neg (by rw[u,v,D.1,D.2];simp;omega)] at hv;refine Z8 λo f=>?_;refine Κ.d (R5 i) (XK u ?_);refine Κ.d (R5 j) (XK v ?_);refine Κ.c call3 (ZN.refl _) (by simp[U5]) Ω ?_;simp[r,w,y];(repeat (rw[Θ];simp[r,w,y]));apply f;refine Η U ?_
 repeat apply Ν
 refine Pd ?_;by_cases E:i<=j
 .rw[if_pos E] at hv;refine Ζ (by simp[E]) ?_;refine Χ ?_;refine W.ZA ?_;rw[hv];rfl
 .rw[if_neg E] at hv;refine Η (by simp[E]) ?_;obtain⟨n,rfl⟩:∃n:Nat,g=n:=⟨g.toNat,J⟩;have L:n<s.θ.length:=J;have M:k<s.χ.length:=by have:=D.1;simp[ω.Vg] at this;omega
  have N:l1<s.χ.length:=by have:=D.2;simp[ω.Vg] at this;omega
  repeat apply Ν
  refine W.draw (A:=[]) Ο mixed λo f=>Xa ?_;refine Zc (Κ.p (Lv s H (i,j) (k,l1) n L M N) (ZN.refl _) Ω Ω) ?_;simp;(repeat (rw[Z1];simp));try rw[Z2]
  refine Zf (f _ _ ?_);refine Χ ?_;refine W.ZA ?_;rw[hv];rfl
end Go.TL
namespace Go.TL
open Go.Proofs.Tryz
open Go.Proofs
def Yt:Nat->Int×Int
 | 0=>(1,0)
 | 1=>(2,0)
 | _=>(2,1)
def X6 (s:ω) (p:Int×Int):Found:=⟨p.1,p.2,(List.range s.cells.length).map (Wk s p)⟩
def VS (s:ω) (k:Nat):Option Found:=if k<3/\0<(X6 s (Yt k)).many (-1) then some (X6 s (Yt k)) else none
def Y' (s:ω):Zj:=(List.range 3).filterMap (VS s)
structure F9 (N:Nat) (s:ω):Prop where
 small:s.small
 χ:s.χ.length<2 ^ 20
 lit:∀c∈s.cells,∀x∈c,0<=x.YX/\x.YX<s.θ.length
 reads:∀k,k<3->∀c,c<s.cells.length->(Wk s (Yt k) c).length<=N
 many:∀k,k<3->∀i,i<=s.cells.length->WG (X6 s (Yt k)).cells (-1) i<2 ^ 62
abbrev Cm (s:ω):Prop:=F9 12 s
theorem Cl {N:Nat} (n:N<2 ^ 20) (o:∀c:ZP,@I0 c N) {s:ω} (h:F9 N s):@SV Ue s (Y' s):=λ_=>by
 refine tH (fd:=VS s) (pr:=Yt) (F:=λk=>X6 s (Yt k)) (N:=λk=>(X6 s (Yt k)).many (-1)) ⟨λk g c=>?_,λk g c=>?_,λk=>rfl⟩ U U U U ?_
 .exact @wJ c s h.small h.χ (Yt k) h.lit N n (o c) (h.reads k g)
 .have l:(X6 s (Yt k)).cells.length=s.cells.length:=by simp[X6]
  have:=h.small.2.2.1;exact @I8 c (X6 s (Yt k)) (-1) (by rw[l];omega) (λi hi=>h.many k g i (by rw[<-l];exact hi))
 .have e:(List.range 3).filterMap (VS s)=(VS s 0).toList++(VS s 1).toList++(VS s 2).toList:=by
   show [0,1,2].filterMap (VS s)=_;simp only[List.filterMap_cons,List.filterMap_nil];cases VS s 0<;>cases VS s 1<;>cases VS s 2<;>rfl
  show((List.range 3).filterMap (VS s)).Pairwise Sn;rw[e];have m:∀k x,x∈(VS s k).toList->x=X6 s (Yt k):=λk x f=>by
   unfold VS at f;split at f
   .simpa using f
   .simp at f
  have one:∀k,((VS s k).toList).Pairwise Sn:=λk=>by cases VS s k<;>simp
  rw[NF,NF];refine⟨⟨one 0,one 1,λa d b j=>?_⟩,one 2,λa d b j=>?_⟩
  .rw[m 0 a d,m 1 b j];exact .inl (show(Yt 0).1<(Yt 1).1 by decide)
  .rw[m 2 b j];rcases V4.1 d with d|d
   .rw[m 0 a d];exact .inl (show(Yt 0).1<(Yt 2).1 by decide)
   .rw[m 1 a d];exact .inr ⟨U,show(Yt 1).2<(Yt 2).2 by decide⟩
theorem tD {s:ω} (h:Cm s):@SV Ue s (Y' s):=Cl ZT (λc=>@wO c) h
theorem Ck:Cm Xm:=by
 refine⟨by unfold ω.small;decide,ZT,ZT,?_,?_⟩
 .have:∀k<3,∀c<2,(Wk Xm (Yt k) c).length<=12:=by decide +kernel
  exact this
 .have:∀k<3,∀i<3,WG (X6 Xm (Yt k)).cells (-1) i<2 ^ 62:=by decide +kernel
  exact λk a i hi=>this k a i (by have:i<=2:=hi;omega)
theorem Cj:Xm.err=0:=by decide +kernel
theorem tC:PN Xm (Y' Xm)=(1,1,2,0):=by decide +kernel
theorem tB:OT Xm (Y' Xm) 1 true=([1],0):=by decide +kernel
theorem tA:PF Xm [1,0] [1,4] 1=(12,0):=by decide +kernel
theorem tz:WL (Y' Xm)=[[1,0],[2,0]]:=by decide +kernel
def MG (b:ByteArray):Int:=(b.data[0]!).toNat
theorem Ci {l m:ZZ} (d:l.Perm m) (e:m.Pairwise λa b=>a<=b):TW l=m:=by
 have f:∀a b c:Int,decide (a<=b)=true->decide (b<=c)=true->decide (a<=c)=true:=λa b c h k=>by simp at *;omega
 have g:∀a b:Int,(decide (a<=b)||decide (b<=a))=true:=λa b=>by simp;omega
 have i:=KM (le:=λx y:Int=>decide (x<=y)) f g l
 have j:(l.mergeSort λx y:Int=>decide (x<=y)).Perm m:=(Mf l _).trans d;exact Mm (le:=λa b:Int=>a<=b) (λa b _ _ h k=>J) (i.imp λ{a b} h=>by simpa using h) e j
theorem Ch:X4 (Y' Xm) 0 true=[4,4]:=by decide +kernel
theorem Cg:X4 (Y' Xm) 1 true=[1,2,1,2]:=by decide +kernel
theorem tx:(spell [111,63]).toList=[111,63]:=by decide +kernel
theorem tw:(X9 Xm true (Y' Xm)).2.2=0:=by decide +kernel
theorem tv {l:List (List Zu)} {a:Int} (h:∀j:Nat,((l[j]?).getD []).length<=2):∀i,WG l a i<=2 ^ i:=by
 intro i
 induction i with
 | zero=>simp[WG]
 | succ i b=>
  rw[@Lu ⟨λ_=>True⟩,Nat.pow_succ];refine Nz b ?_;split
  .omega
  .exact h i
theorem tu:∀f∈Y' Xm,f.cells.length=2/\∀c∈f.cells,c.length<=2:=by decide +kernel
theorem Cf:IW Xm (Y' Xm):=by
 refine⟨by decide +kernel,by decide +kernel,?_,by decide +kernel⟩;intro f a;obtain⟨b,d⟩:=tu f a;refine⟨by rw[b];decide,λg i hi=>Qp (tv (λj=>?_) i) ?_⟩
 .cases e:f.cells[j]? with
  | none=>simp
  | some c=>simpa using d c (Y1 e)
 .have:2 ^ i<=2 ^ 2:=Mi J J;omega
theorem Ce:X0 (Y' Xm) 0 true=[4]:=by
 unfold X0;rw[Ch,Ci (m:=[4,4]) (.refl _) ZT];decide
theorem Cd:X0 (Y' Xm) 1 true=[1,2]:=by
 unfold X0;rw[Cg,Ci (m:=[1,1,2,2]) ZT ZT];decide
theorem tt:GP Xm (Y' Xm) true MG 12:=by
 refine⟨by decide +kernel,by decide +kernel,λc a=>?_,λg b=>?_⟩
 .have a:c<2:=a
  match c,a with
  | 0,_=>rw[Ch,Ce];decide
  | 1,_=>rw[Cg,Cd];decide
 .simp only[Xm,Y9,Yb,or_false] at b;rcases b with rfl|rfl|rfl|rfl|rfl<;>rfl
theorem ts:UI Xm (Y' Xm) true MG 2=[111,63]:=by
 show [0,1].map (Ru Xm (Y' Xm) true MG)=_;simp only[WZ,TF,Ru,Ce,Cd];decide +kernel
theorem tr:Uh Xm (Y' Xm) true MG=(spell [111,63],0):=by
 unfold Uh;rw[if_pos tw];show(spell (UI Xm (Y' Xm) true MG 2),(0:Int))=_;rw[ts]
theorem Il:@Κ Ue prog 21 [] (ν true):=by
 letI:ZP:=Ue;have e:=Ck.small;have h:=tD Ck;refine Μ.body Ο func21 U U ntmps21 U U Ω ?_;refine Χ ?_;refine Z8 λb a=>?_;refine Κ.d (K9) (Z9 ?_);refine Κ.c (tE Xm e [1,0] [1,4] 1) (.cons (.refl _) (.cons .ex (.cons .ex (.cons (.refl _) .nil)))) Ω Ω ?_;rw[tA];simp;(repeat (rw[Θ];simp));apply a;refine Z8 λb a=>?_;refine Κ.d (K9) (Z9 ?_);refine Κ.c (Dz Xm e _ h (by decide +kernel)) (ZN.refl _) Ω Ω ?_;rw[if_pos Cj,Cj,tz];simp;(repeat (rw[Θ];simp));apply a;refine Z8 λb a=>?_;refine Κ.d (K9) (Z9 ?_);refine Κ.c (Dv Xm e _ h true MG 12 ZT w5 (λ_=>tt)) (ZN.refl _) Ω Ω ?_;rw[tr];simp;(repeat (rw[Θ];simp));apply a;refine Z8 λb a=>?_;refine Κ.d (K9) (Z9 ?_);refine Κ.c (wA Xm e _ h Cf) (ZN.refl _) Ω Ω ?_;rw[tC];simp;(repeat (rw[Θ];simp));apply a;refine Z8 λb a=>?_;refine Κ.d (K9) (Z9 ?_);refine Κ.c (tV Xm e _ h Cf 1 true ZT) (ZN.refl _) Ω Ω ?_;rw[tB];simp;(repeat (rw[Θ];simp));apply a;refine Z8 λb a=>?_;refine Κ.c (xb 9) (ZN.refl _) Ω Ω ?_;have i:valid 9=true:=by decide +kernel
 have j:Jb 9=6:=by decide +kernel
 rw[i,j];simp;(repeat (rw[Θ];simp));apply a;refine XD @tx λb a=>?_;refine Κ.c (Jc [[1,0],[2,0]] [[1,0],[2,0]] ZT ZT) (.cons (.refl _) (.cons ?_ .nil)) Ω Ω ?_
 .exact .map (l:=[[1,0],[2,0]]) (f:=λl:ZZ=>.sl true 1 (l.map I)) (g:=δ I 1) λx _=>.one .ex U U
 simp;(repeat (rw[Θ];simp));refine Κ.c (G2 [1] [1] ZT) (.cons (.refl _) (.cons .ex .nil)) Ω Ω ?_;simp;(repeat (rw[Θ];simp));apply a;refine W.rt ?_;exact .of Ω
end Go.TL
namespace Go.TL
open Go.Proofs.Tryz
open Go.Proofs
variable [ZP]
structure Zd where
 Z0:ZZ
 state:Int
abbrev Cc (n:Int):Ψ:=.z (.int .u64 n)
abbrev tq (d:Zd):Ψ:=.ZW [δ I 1 d.Z0,Cc d.state]
abbrev ZF (d:Zd):Row:=.cells 93 2 [tq d]
def K8 (d:Zd):Int:=IntKind.u64.wrap (d.Z0.headD 0)
def MF (d:Zd):Int:=IntKind.u64.wrap (IntKind.u64.wrap (IntKind.u64.wrap (d.state+(if d.Z0=[] then 0 else K8 d))+6364136223846793005)*15074714826142052245)
def PE (d:Zd):Int:=LS .u64 (MF d) ((MF d).fdiv (2 ^ min 29 IntKind.u64.bits))
def Qx (d:Zd):Int:=(IntKind.u64.wrap (LS .u64 (PE d) ((PE d).fdiv (2 ^ min 33 IntKind.u64.bits))*18397679294719823053)).fdiv (2 ^ min 32 IntKind.u64.bits)
def Zd.next (d:Zd):Zd:=⟨d.Z0.tail,PE d⟩
theorem tp (d:Zd) (hd:d.Z0.length<2 ^ 63):Μ prog 73 [.Δ 0 1 0 0] [ZF d] (λr s=>r=Cc (Qx d)/\s=[ZF d.next]) (λ_ _=>False):=by
 obtain⟨l,q⟩:=d;refine Μ.body Ο func73 U U ntmps73 U U Ω ?_;refine Χ ?_;cases l with
 | nil=>
  refine Η Ω ?_;refine Χ ?_;refine Pd ?_
  repeat apply Ν
  refine Pd ?_;refine Χ ?_;exact W.ret ⟨_,U,by simp[Qx,PE,MF,K8],by simp[Zd.next,PE,MF,K8]⟩
 | cons a l=>
  refine Ζ Ω ?_;refine Χ ?_;have b:List.take l.length (l.map I)=l.map I:=VP Ω;refine XD b λe c=>?_;refine⟨J,?_⟩;apply c;refine Χ ?_;refine Pd ?_
  repeat apply Ν
  refine Pd ?_;refine Χ ?_;exact W.ret ⟨_,U,by simp[Qx,PE,MF,K8],by simp[Zd.next,PE,MF,K8]⟩
def W9 (d:Zd) (n:Int):Int:=if n<=0 then 0 else IntKind.i64.wrap ((IntKind.u64.wrap (Qx d*IntKind.u64.wrap (IntKind.i64.wrap (n+1)))).fdiv (2 ^ min 32 IntKind.u64.bits))
def Zd.after (d:Zd) (n:Int):Zd:=if n<=0 then d else d.next
theorem RS (d:Zd):VU (ZF d):=by simp[VU,Ψ.cells]
theorem F8 (d:Zd) (hd:d.Z0.length<2 ^ 63) (n:Int):Μ prog 24 [.Δ 0 1 0 0,I n] [ZF d] (λr s=>r=I (W9 d n)/\s=[ZF (d.after n)]) (λ_ _=>False):=by
 refine Μ.body Ο func24 U U ntmps24 U U Ω ?_;refine Χ ?_;by_cases h:n<=0
 .refine Ζ (by simp[h]) ?_;refine Χ ?_;exact W.ret ⟨_,U,by simp[W9,h],by simp[Zd.after,h]⟩
 .refine Η (by simp[h]) ?_;refine Χ ?_;refine Z8 λb a=>?_;refine Μ.one (as0:=[.Δ 0 1 0 0]) (tp d hd) 0 U (RS d) (RS d.next) (by simp[Xr,T0]) ((ς.z _).Vr 1) U ?_;simp[Su];(repeat (rw[Θ];simp));apply a;exact W.ret ⟨_,U,by simp[W9,h],by simp[Zd.after,h]⟩
def TO (d:Zd) (a b:Int):Int:=IntKind.i64.wrap (a+W9 d (IntKind.i64.wrap (b-a)))
theorem tn (d:Zd) (hd:d.Z0.length<2 ^ 63) (a b:Int):Μ prog 38 [.Δ 0 1 0 0,I a,I b] [ZF d] (λr s=>r=I (TO d a b)/\s=[ZF (d.after (IntKind.i64.wrap (b-a)))]) (λ_ _=>False):=by
 refine Μ.body Ο func38 U U ntmps38 U U Ω ?_;refine Χ ?_;refine Z8 λe c=>?_;refine Μ.one (as0:=[.Δ 0 1 0 0,I (IntKind.i64.wrap (b-a))]) (F8 d hd _) 0 U (RS d) (RS _) (by simp[Xr,T0]) ((ς.z _).Vr 1) U ?_;simp[Su];(repeat (rw[Θ];simp));apply c;exact W.ret ⟨_,U,U,U⟩
end Go.TL
namespace Go.TL
open Go.Proofs.Tryz
open Go.Proofs
theorem tm (x:Int):0<=IntKind.u64.wrap x/\IntKind.u64.wrap x<18446744073709551616:=by
 unfold IntKind.wrap;simp[IntKind.bits,IntKind.signed];omega
theorem u64_in (x:Int) (h:0<=x) (a:x<18446744073709551616):IntKind.u64.wrap x=x:=by
 unfold IntKind.wrap;simp[IntKind.bits,IntKind.signed];omega
theorem Cb:(2:Int) ^ min 32 IntKind.u64.bits=4294967296:=ZT
theorem tl (d:Zd):0<=Qx d/\Qx d<4294967296:=by
 unfold Qx;rw[Cb];generalize a:IntKind.u64.wrap _=x;have:=tm (LS .u64 (PE d) ((PE d).fdiv (2 ^ min 33 IntKind.u64.bits))*18397679294719823053);rw[a] at this;rw[HX _ ZT];omega
theorem SQ (d:Zd) (n:Int) (e:0<=n) (f:n<2147483647):0<=W9 d n/\W9 d n<=n:=by
 unfold W9;split
 .omega
 .obtain⟨b,g⟩:=tl d;rw[Cb,IntWalk.i64_in (n+1) J,u64_in (n+1) J J];have c:Qx d*(n+1)<=4294967295*(n+1):=Int.mul_le_mul_of_nonneg_right J J;have a:0<=Qx d*(n+1):=Int.mul_nonneg b J;generalize Qx d*(n+1)=y at c a;rw[u64_in y a J,HX _ ZT,IntWalk.i64_in _ J];omega
end Go.TL
namespace Go.TL
open Go.Proofs.Tryz
open Go.Proofs
variable [ZP]
def Ri (d:Zd) (l:ZZ):Nat:=(W9 d ((l.length:Int)-1)).toNat
theorem tk (d:Zd) (hd:d.Z0.length<2 ^ 63) (l:ZZ) (g:0<l.length) (h:l.length<1000000):Μ prog 61 [.Δ 0 1 0 0,δ I 1 l] [ZF d] (λr s=>r=I (l.getD (Ri d l) 0)/\s=[ZF (d.after ((l.length:Int)-1))]) (λ_ _=>False):=by
 refine Μ.body Ο func61 U U ntmps61 U U Ω ?_;have c:IntKind.i64.wrap ((l.length:Int)-1)=(l.length:Int)-1:=IntWalk.i64_in _ J;obtain⟨t0,t1⟩:=SQ d ((l.length:Int)-1) J J;obtain⟨k,b⟩:∃k:Nat,W9 d ((l.length:Int)-1)=k:=⟨(W9 d ((l.length:Int)-1)).toNat,J⟩;have a:k<l.length:=J;have e:Ri d l=k:=by unfold Ri;rw[b];rfl
 refine Χ ?_;refine XD c λi f=>?_;refine Μ.one (as0:=[.Δ 0 1 0 0,I ((l.length:Int)-1)]) (F8 d hd _) 0 U (RS d) (RS _) (by simp[Xr,T0]) ((ς.z _).Vr 1) U ?_;rw[b];simp[Su,a];(repeat (rw[Θ];simp[a]));apply f;exact W.ret ⟨_,U,by rw[e];simp[WB,a],U⟩
end Go.TL
namespace Go.TL
open Go.Proofs.Tryz
open Go.Conc
variable [ZP]
section
variable {P:Program} {T:ZR} {A:ο} {m nt:Nat} {k:Zz} {env:Β} {σ:Ξ} {Z:XO} {E:Ya} {ops:ZC}
def Ca (P:Program) (m nt:Nat) (k:Zz) (Z:XO) (E:Ya) (ops:ZC) (i:Nat) (o:Oper) (env:Β) (r:Row) (a:Ψ) (b:Row):Prop:=
 ∀env' τ rest,Sw ops o env env'->W P m nt (.inRegion ops rest::k) (Zn o env' a) (b::τ) Z E->W P m nt (.inRegion ops (i::rest)::k) env' (r::τ) Z E
def StepB (P:Program) (m nt:Nat) (k:Zz) (Z:XO) (E:Ya) (ops:ZC) (i:Nat) (o:Oper) (env:Β) (τ:Ξ) (a:Ψ) (b:Ξ):Prop:=
 ∀env' r rest,Sw ops o env env'->W P m nt (.inRegion ops rest::k) (Zn o env' a) (r::b) Z E->W P m nt (.inRegion ops (i::rest)::k) env' (r::τ) Z E
theorem B9 {l:Type} {f:Nat->l} {tags:List Bool} (m:∀i o,ops[i]?=some o->writer ops tags i=false->f (i+1)=f i):∀a b,a<=ops.size->b<=ops.size->(∀j,j<ops.size->writer ops tags j=true->(j<a↔j<b))->f a=f b:=by
 have g:∀(d a:Nat),a+d<=ops.size->(∀j,a<=j->j<a+d->writer ops tags j=false)->f (a+d)=f a:=by
  intro d
  induction d with
  | zero=>intro a _ _;rfl
  | succ d n=>
   intro a hle h;have c:ops[a+d]?=some ops[a+d]:=Xu J;have:=m (a+d) _ c (h (a+d) J J);rw[show a+(d+1)=a+d+1 by omega,this];exact n a J λj c k=>h j c J
 intro a b p r h;rcases Nat.le_total a b with hle|hle
 .have:=g (b-a) a J λj c k=>by
   cases e:writer ops tags j with
   | false=>rfl
   | true=>have:=(h j J e).2 J;omega
  rw[show a+(b-a)=b by omega] at this;exact this.symm
 .have:=g (a-b) b J λj c k=>by
   cases e:writer ops tags j with
   | false=>rfl
   | true=>have:=(h j J e).1 J;omega
  rw[show b+(a-b)=a by omega] at this;exact this
theorem B8 {tags:List Bool} (a:Tv ops tags=true):∀i o,ops[i]?=some o->(∀j∈Wy o,j<i)/\∀j b,j<i->ops[j]?=some b->clash ops tags i j o b=true->j∈(Jo ops).getD i []:=by
 intro i o d;have hi:i<ops.size:=(TJ.1 d).1;unfold Tv PZ at a;simp only[V5,UT] at a;have h:=a i hi;rw[d] at h;simp only[VO,V5,decide_eq_true_eq,UT] at h;refine⟨h.1,λj b f g e=>?_⟩;have c:=h.2 j f;rw[g] at c;unfold clash at e;simp only[e,Bool.not_true,Bool.false_or,KJ] at c;exact c
theorem B7 {tags:List Bool}:∀j,writer ops tags j=true->tags.getD j false=true:=λj h=>by
 unfold writer at h;rw[VO] at h;exact h.1
theorem B6 {tags:List Bool} {i:Nat} {c:Oper} (e:tags.getD i false=true):∀j a,ops[j]?=some a->writer ops tags j=true->clash ops tags i j c a=true/\clash ops tags j i a c=true:=λj a f b=>by
 have d:=B7 j b;unfold writer at b;rw[d,f] at b;have g:VI a=false:=by simpa using b
 unfold clash T1 PY;rw[d,e,g];simp
theorem W.tj {as9:Nat->Ψ} {ρs:Nat->Row} {τs:Nat->Ξ} {td tb:List Bool} {env0:Β} (az:Tv ops td=true) (aA:Tv ops tb=true)
  (aB:∀i o,ops[i]?=some o->td.getD i false=false->tb.getD i false=false->Ph P m nt k Z E ops i o (Y5 ops env0 as9 (λ_=>true) i) (as9 i))
  (aC:∀i o,ops[i]?=some o->td.getD i false=true->Ca P m nt k Z E ops i o (Y5 ops env0 as9 (λ_=>true) i) (ρs i) (as9 i) (ρs (i+1))/\tb.getD i false=false)
  (aD:∀i o,ops[i]?=some o->tb.getD i false=true->StepB P m nt k Z E ops i o (Y5 ops env0 as9 (λ_=>true) i) (τs i) (as9 i) (τs (i+1)))
  (aE:∀i o,ops[i]?=some o->writer ops td i=false->ρs (i+1)=ρs i) (aF:∀i o,ops[i]?=some o->writer ops tb i=false->τs (i+1)=τs i)
  (aG:W P m nt (.inRegion ops []::k) (Y5 ops env0 as9 (λ_=>true) ops.size) (ρs ops.size::τs ops.size) Z E) :
  ∀(O:Nat) (t:Nat) (listed:Array Bool) (env:Β) (g n:Nat),listed.size=ops.size->
   (∀i,Z3 env i=Z3 (Y5 ops env0 as9 (λi=>listed.getD i false) ops.size) i)->
   (∀i o,ops[i]?=some o->listed.getD i false=true->∀j∈Wy o,listed.getD j false=true)->
   g<=ops.size->n<=ops.size->(∀j,j<ops.size->writer ops td j=true->(listed.getD j false=true↔j<g))->(∀j,j<ops.size->writer ops tb j=true->(listed.getD j false=true↔j<n))->
   ((List.range ops.size).filter λi=>!listed.getD i false).length<=O->
   W P m nt (.inRegion ops (Region.linearise.go .any ops O t listed [])::k) env (ρs g::τs n) Z E:=by
 have ab:=B8 az
 have am:=B8 aA
 have ad:∀i o,ops[i]?=some o->∀j∈Wy o,j<i:=λi o l=>(ab i o l).1
 have an:=B9 aE
 have ao:=B9 aF;intro O;have done:∀(t:Nat) (listed:Array Bool) (env:Β) (g n:Nat),(∀i,i<ops.size->listed.getD i false=true)->(∀i,Z3 env i=Z3 (Y5 ops env0 as9 (λi=>listed.getD i false) ops.size) i)->g<=ops.size->n<=ops.size->
   (∀j,j<ops.size->writer ops td j=true->(listed.getD j false=true↔j<g))->(∀j,j<ops.size->writer ops tb j=true->(listed.getD j false=true↔j<n))->W P m nt (.inRegion ops []::k) env (ρs g::τs n) Z E:=λt listed env g n K L F H v I=>by
  have aH:ρs g=ρs ops.size:=an g ops.size F (Z6 _) λj d p=>by rw[<-v j d p];simp[K j d,d]
  have Ρ:τs n=τs ops.size:=ao n ops.size H (Z6 _) λj d p=>by rw[<-I j d p];simp[K j d,d]
  rw[aH,Ρ];refine .congr (λi=>?_) aG;rw[L i];exact M9 ops.size λi o hi _ _=>K i hi
 have aI:∀listed:Array Bool,listed.size=ops.size->(∃i,i<ops.size/\listed.getD i false=false)->∃i,i<ops.size/\listed.getD i false=false/\∀j,j<i->listed.getD j false=true:=λlisted Q ⟨i,hi,s⟩=>by
  induction i using Nat.strongRecOn with
  | _ i S=>
   by_cases d:∃j,j<i/\listed.getD j false=false
   .obtain⟨j,w,A⟩:=d;exact S j w J A
   .exact⟨i,hi,s,λj aJ=>by
     cases h:listed.getD j false with
     | true=>rfl
     | false=>exact absurd ⟨j,aJ,h⟩ d⟩
 induction O with
 | zero=>
  intro t listed env g n Q L T F H v I aK;have K:∀i,i<ops.size->listed.getD i false=true:=λi hi=>by
   cases h:listed.getD i false with
   | true=>rfl
   | false=>
    have Y:i∈(List.range ops.size).filter λi=>!listed.getD i false:=by rw[TG];exact⟨UT.2 hi,by rw[h];rfl⟩
    have:((List.range ops.size).filter λi=>!listed.getD i false)=[]:=YA.1 J;rw[this] at Y;simp at Y
  exact done t listed env g n K L F H v I
 | succ O S=>
  intro t listed env g n Q L T F H v I aK;simp only[Region.linearise.go];generalize aL:((List.range ops.size).filter λi=>!listed.getD i true&&((ops[i]?).map (·.after.all λe=>!Region.binds .any e||listed.getD e.on false)).getD false)=M;have ap:∀i,i<ops.size->listed.getD i true=listed.getD i false:=λi hi=>by
   rw[Wr,Wr,Xu J];rfl
  have aq:∀i,i∈M↔i<ops.size/\listed.getD i false=false/\∀o,ops[i]?=some o->∀j∈Wy o,listed.getD j false=true:=λi=>by
   rw[<-aL];simp only[TG,UT,VO,KC];constructor
   .rintro⟨w,A,C⟩;rw[ap i w] at A;refine⟨w,A,λo l j d=>?_⟩;rw[l] at C;simp only[Option.map_some,Option.getD_some,KF] at C;unfold Wy at d;simp only[YO,TG] at d;obtain⟨e,⟨aM,aN⟩,rfl⟩:=d;have:=C e (by simpa using aM);simpa[aN] using this
   .rintro⟨w,A,C⟩;refine⟨w,by rw[ap i w];exact A,?_⟩;have l:ops[i]?=some ops[i]:=Xu w;rw[l];simp only[Option.map_some,Option.getD_some,KF];intro e aO;by_cases ar:Region.binds .any e=true
    .have:=C _ l e.on (by unfold Wy;simp only[YO,TG];exact⟨e,⟨by simpa using aO,ar⟩,U⟩);simp[this]
    .simp[ar]
  cases hi:M[t % M.length]? with
  | none=>
   simp only[List.reverse_nil];have aP:M=[]:=by
    cases aQ:M with
    | nil=>rfl
    | cons x xs=>
     rw[aQ] at hi;have ae:t % (x::xs).length<(x::xs).length:=Nat.mod_lt _ Ω;rw[Z7 ae] at hi;cases hi
   have K:∀i,i<ops.size->listed.getD i false=true:=λi N=>by
    cases h:listed.getD i false with
    | true=>rfl
    | false=>
     obtain⟨r,w,A,C⟩:=aI listed Q ⟨i,N,h⟩;have:r∈M:=(aq r).2 ⟨w,A,λo l j d=>C j (ad r o l j d)⟩;rw[aP] at this;simp at this
   exact done t listed env g n K L F H v I
  | some i=>
   simp only;rw[D'];have Y:i∈M:=Y1 hi;obtain⟨w,A,C⟩:=(aq i).1 Y;have l:ops[i]?=some ops[i]:=Xu w;have aR:=Jn ad (λj=>listed.getD j false=true) (λj o d s=>T j o d s) i _ l (C _ l);have low:∀j f,j<i->ops[j]?=some f->(clash ops td i j ops[i] f=true\/clash ops tb i j ops[i] f=true)->listed.getD j false=true:=λj f d u B=>aR j (B.elim (λB=>(ab i _ l).2 j f d u B) (λB=>(am i _ l).2 j f d u B));have high:∀j f,i<j->ops[j]?=some f->(clash ops td j i f ops[i]=true\/clash ops tb j i f ops[i]=true)->listed.getD j false=false:=λj f d u B=>by
    cases s:listed.getD j false with
    | false=>rfl
    | true=>
     have:=Jn ad (λj=>listed.getD j false=true) (λj o d s=>T j o d s) j f u (T j f u s) i (B.elim (λB=>(ab j f u).2 i _ d l B) (λB=>(am j f u).2 i _ d l B));rw[A] at this;cases this
   have af:Sw ops ops[i] (Y5 ops env0 as9 (λ_=>true) i) env:=λx au=>by
    rw[L x];have ag:Z3 (Y5 ops env0 as9 (λi=>listed.getD i false) ops.size) x=Z3 (Y5 ops env0 as9 (λi=>listed.getD i false) i) x:=Jm J λj f aS aT u hd=>by
     by_cases e:j=i
     .subst e;exact A
     .refine high j f J u ?_;unfold clash T1 PY;simp[hd,au]
    rw[ag];exact M9 i λj f d u hd=>low j f d u (.inl (by unfold clash T1 PY;simp[hd,au]))
   have ah:∀x,Z3 (Zn ops[i] env (as9 i)) x=Z3 (Y5 ops env0 as9 (λj=>(listed.setIfInBounds i true).getD j false) ops.size) x:=λx=>by
    have D:∀j,(listed.setIfInBounds i true).getD j false=if j=i then true else listed.getD j false:=λj=>by
     rw[Wr,Wr];by_cases e:j=i
     .subst e;rw[Tc J];simp
     .rw[UC (YF e),if_neg e]
    rw[Ob];by_cases hd:ops[i].dst=some x
    .rw[if_pos hd];have ag:Z3 (Y5 ops env0 as9 (λj=>(listed.setIfInBounds i true).getD j false) ops.size) x=Z3 (Y5 ops env0 as9 (λj=>(listed.setIfInBounds i true).getD j false) (i+1)) x:=Jm J λj f aS aT u ai=>by
      rw[D,if_neg J];refine high j f J u (.inl ?_);unfold clash T1 PY;simp[hd,ai]
     rw[ag];simp only[Y5,D,if_true,l,Ob,hd]
    .rw[if_neg hd,L x];exact M9 ops.size λj f d u ai=>by
      rw[D,if_neg];intro e;subst e;rw[l] at u;cases u;exact hd ai
   have D:∀j,(listed.setIfInBounds i true).getD j false=if j=i then true else listed.getD j false:=λj=>by
    rw[Wr,Wr];by_cases e:j=i
    .subst e;rw[Tc J];simp
    .rw[UC (YF e),if_neg e]
   have aj:((List.range ops.size).filter λj=>!(listed.setIfInBounds i true).getD j false).length<=O:=by
    have ae:((List.range ops.size).filter λj=>!(listed.setIfInBounds i true).getD j false).length<((List.range ops.size).filter λj=>!listed.getD j false).length:=by
     have:((List.range ops.size).filter λj=>!(listed.setIfInBounds i true).getD j false)=((List.range ops.size).filter λj=>!listed.getD j false).filter λj=>j != i:=by
      rw[List.filter_filter];apply List.filter_congr;intro j _;rw[D];by_cases e:j=i
      .subst e;simp
      .simp[e]
     rw[this];have aU:i∈(List.range ops.size).filter λj=>!listed.getD j false:=by
      rw[TG];exact⟨UT.2 w,by rw[A];rfl⟩
     exact List.length_filter_lt_length_iff_exists.2 ⟨i,aU,Ω⟩
    omega
   have ak:∀j o,ops[j]?=some o->(listed.setIfInBounds i true).getD j false=true->∀y∈Wy o,(listed.setIfInBounds i true).getD y false=true:=λj o d s y av=>by
    rw[D] at s ⊢;by_cases e:y=i
    .rw[if_pos e]
    .rw[if_neg e];by_cases Ρ:j=i
     .subst Ρ;rw[l] at d;cases d;exact C _ l y av
     .rw[if_neg Ρ] at s;exact T j o d s y av
   have aa:∀(tags:List Bool) (g:Nat),tags.getD i false=false->(∀j,j<ops.size->writer ops tags j=true->(listed.getD j false=true↔j<g))->∀j,j<ops.size->writer ops tags j=true->((listed.setIfInBounds i true).getD j false=true↔j<g):=λtags g V v j d p=>by
    rw[D];have:j≠i:=λe=>by subst e;rw[B7 j p] at V;cases V
    rw[if_neg this];exact v j d p
   have keepW:∀(tags:List Bool) (g:Nat),writer ops tags i=false->(∀j,j<ops.size->writer ops tags j=true->(listed.getD j false=true↔j<g))->∀j,j<ops.size->writer ops tags j=true->((listed.setIfInBounds i true).getD j false=true↔j<g):=λtags g aw v j d p=>by
    rw[D];have:j≠i:=λe=>by subst e;rw[p] at aw;cases aw
    rw[if_neg this];exact v j d p
   have ax:∀(tags:List Bool),tags.getD i false=true->(∀j f,j<i->ops[j]?=some f->clash ops tags i j ops[i] f=true->listed.getD j false=true)->(∀j f,i<j->ops[j]?=some f->clash ops tags j i f ops[i]=true->listed.getD j false=false)->
     (∀j,j<ops.size->writer ops tags j=true->j<i->listed.getD j false=true)/\(∀j,j<ops.size->writer ops tags j=true->i<j->listed.getD j false=false):=λtags V lo hi=>⟨λj d p al=>lo j _ al (Xu d) (B6 V j _ (Xu d) p).1,λj d p al=>hi j _ al (Xu d) (B6 V j _ (Xu d) p).2⟩
   have ay:∀(tags:List Bool) (g:Nat),(∀j,j<ops.size->writer ops tags j=true->j<i->listed.getD j false=true)->(∀j,j<ops.size->writer ops tags j=true->i<j->listed.getD j false=false)->(∀j,j<ops.size->writer ops tags j=true->(listed.getD j false=true↔j<g))->∀j,j<ops.size->writer ops tags j=true->(j<g↔j<i):=λtags g lo hi v j d p=>by
    rw[<-v j d p];constructor
    .intro s;apply Tb;intro aV;by_cases e:j=i
     .subst e;rw[A] at s;cases s
     .rw[hi j d p J] at s;cases s
    .exact lo j d p
   have next:∀(tags:List Bool),(∀j,j<ops.size->writer ops tags j=true->j<i->listed.getD j false=true)->(∀j,j<ops.size->writer ops tags j=true->i<j->listed.getD j false=false)->∀j,j<ops.size->writer ops tags j=true->((listed.setIfInBounds i true).getD j false=true↔j<i+1):=λtags lo hi j d p=>by
    rw[D];by_cases e:j=i
    .subst e;simp
    .rw[if_neg e];constructor
     .intro s;apply Tb;intro aV;rw[hi j d p J] at s;cases s
     .intro ae;exact lo j d p J
   cases X:td.getD i false with
   | true=>
    obtain⟨aW,R⟩:=aC i _ l X;obtain⟨lo,N⟩:=ax td X (λj f a b c=>low j f a b (.inl c)) (λj f a b c=>high j f a b (.inl c));rw[an g i F J (ay td g lo N v)];refine aW env _ _ af ?_;exact S _ _ _ (i+1) n (by simpa using Q) ah ak J H (next td lo N) (aa tb n R I) aj
   | false=>
    cases R:tb.getD i false with
    | false=>
     refine aB i _ l X R env _ _ af ?_;exact S _ _ _ g n (by simpa using Q) ah ak F H (aa td g X v) (aa tb n R I) aj
    | true=>
     obtain⟨lo,N⟩:=ax tb R (λj f a b c=>low j f a b (.inr c)) (λj f a b c=>high j f a b (.inr c));rw[ao n i H J (ay tb n lo N I)];refine aD i _ l R env _ _ af ?_;exact S _ _ _ g (i+1) (by simpa using Q) ah ak F J (aa td g X v) (next tb lo N) aj
def ME (f:Row->YP) (K:Ψ->Ξ->Prop):Prop:=∃a b,((∀r,f r=.ok a (r::b))\/∃p:Prop,p/\∀r,f r=.Y0 p (.ok a (r::b)))/\K a b
theorem ti {f g:Row->YP} {K:Ψ->Ξ->Prop} (h:∀r,f r=g r):ME f K=ME g K:=by rw[funext h]
theorem th {a:Ψ} {τ:Ξ} {K:Ψ->Ξ->Prop}:ME (λr=>.ok a (r::τ)) K=K a τ:=by
 refine propext ⟨λ⟨b,f,h,d⟩=>?_,λh=>⟨a,τ,.inl λ_=>rfl,h⟩⟩;rcases h with h|⟨p,_,h⟩
 .have:=h (.map []);injection this with e c
  injection c with _ c
  rw[e,c];exact d
 .have:=h (.map []);cases this
theorem tg {p:Prop} {a:Ψ} {τ:Ξ} {K:Ψ->Ξ->Prop}:ME (λr=>.Y0 p (.ok a (r::τ))) K=(p/\K a τ):=by
 refine propext ⟨λ⟨b,i,h,e⟩=>?_,λh=>⟨a,τ,.inr ⟨p,h.1,λ_=>rfl⟩,h.2⟩⟩;rcases h with h|⟨q,f,h⟩
 .have:=h (.map []);cases this
 .have:=h (.map []);injection this with g c
  injection c with c d
  injection d with _ d
  rw[c,d];exact⟨g▸f,e⟩
def K7 (P:Program) (f:Ψ) (args:μ) (r:Row) (c:Ψ->Prop) (d:Ψ->Row->Prop):Prop:=
 (∃a,XM P f args a/\c a)\/∃a r',(∀τ,Wm P f args (r::τ) (λb s=>b=a/\s=r'::τ) (λ_ _=>False))/\d a r'
theorem tf {P:Program} {f:Ψ} {args:μ} {r r':Row} {d:Ψ->Prop} {c:Ψ->Row->Prop} {a:Ψ} (h:∀τ,Wm P f args (r::τ) (λb s=>b=a/\s=r'::τ) (λ_ _=>False)) (k:c a r'):K7 P f args r d c:=.inr ⟨a,r',h,k⟩
def K6 (P:Program) (T:ZR) (A:ο) (env:Β) (o:Oper) (r:Row) (τ:Ξ) (a:Ψ->Prop) (b:Ψ->Row->Prop) (c:Ψ->Ξ->Prop):Prop:=match o.op with
 | .call ⟨.value f,args,_⟩=>K7 P (ε env f) (args.toList.map (ε env)) r a b
 | .panic _=>False
 | .defer _=>False
 | _=>(Vt T A env o).XX a (ME (λr=>V2 T A env (r::τ) o) c)
theorem te {P:Program} {T:ZR} {A:ο} {env:Β} {o:Oper} {r:Row} {τ:Ξ} {a:Ψ->Prop} {b:Ψ->Row->Prop} {c:Ψ->Ξ->Prop}:K6 P T A env o r τ a b c=match o.op with
 | .call ⟨.value f,args,_⟩=>K7 P (ε env f) (args.toList.map (ε env)) r a b
 | .panic _=>False
 | .defer _=>False
 | _=>(Vt T A env o).XX a (ME (λr=>V2 T A env (r::τ) o) c):=Xk rfl rfl
def VB (P:Program) (T:ZR) (A:ο) (nt:Nat) (ops:ZC):ο->Β->Row->Ξ->List Bool->List Bool->(Β->Ξ->Prop)->Prop
 | [],env,r,τ,td,tb,K=>Tv ops td=true/\Tv ops tb=true/\K env (r::τ)
 | i::is,env,r,τ,td,tb,K=>W3 ops[i]? λo=>Wz nt o=true/\W3 (Xx env ops o) λw=>
   V1 w (VB P T A nt ops is (Zn o env .Ze) r τ (td++[false]) (tb++[false]) K)
    (K6 P T A env o r τ (λa=>VB P T A nt ops is (Zn o env a) r τ (td++[false]) (tb++[false]) K) (λa r'=>VB P T A nt ops is (Zn o env a) r' τ (td++[true]) (tb++[false]) K) (λa b=>VB P T A nt ops is (Zn o env a) r b (td++[false]) (tb++[true]) K))
def B5 (P:Program) (T:ZR) (A:ο) (nt:Nat) (ops:ZC) (is:ο) (o:Oper) (env:Β) (r:Row) (τ:Ξ) (td tb:List Bool) (K:Β->Ξ->Prop) (a:Ψ):Prop:=VB P T A nt ops is (Zn o env a) r τ (td++[false]) (tb++[false]) K
def B4 (P:Program) (T:ZR) (A:ο) (nt:Nat) (ops:ZC) (is:ο) (o:Oper) (env:Β) (τ:Ξ) (td tb:List Bool) (K:Β->Ξ->Prop) (a:Ψ) (r:Row):Prop:=VB P T A nt ops is (Zn o env a) r τ (td++[true]) (tb++[false]) K
def B3 (P:Program) (T:ZR) (A:ο) (nt:Nat) (ops:ZC) (is:ο) (o:Oper) (env:Β) (r:Row) (td tb:List Bool) (K:Β->Ξ->Prop) (a:Ψ) (τ:Ξ):Prop:=VB P T A nt ops is (Zn o env a) r τ (td++[false]) (tb++[true]) K
section
variable {is:ο} {i:Nat} {o:Oper} {r:Row} {τ:Ξ} {td tb:List Bool} {K:Β->Ξ->Prop} {a:Ψ}
theorem UE:VB P T A nt ops [] env r τ td tb K=(Tv ops td=true/\Tv ops tb=true/\K env (r::τ)):=Xk rfl rfl
theorem UD:VB P T A nt ops (i::is) env r τ td tb K=W3 ops[i]? λo=>Wz nt o=true/\W3 (Xx env ops o) λw=>
   V1 w (VB P T A nt ops is (Zn o env .Ze) r τ (td++[false]) (tb++[false]) K) (K6 P T A env o r τ (B5 P T A nt ops is o env r τ td tb K) (B4 P T A nt ops is o env τ td tb K) (B3 P T A nt ops is o env r td tb K)):=Xk U U
theorem tc:B5 P T A nt ops is o env r τ td tb K a=VB P T A nt ops is (Zn o env a) r τ (td++[false]) (tb++[false]) K:=Xk rfl rfl
theorem ta:B4 P T A nt ops is o env τ td tb K a r=VB P T A nt ops is (Zn o env a) r τ (td++[true]) (tb++[false]) K:=Xk rfl rfl
theorem s':B3 P T A nt ops is o env r td tb K a τ=VB P T A nt ops is (Zn o env a) r τ (td++[false]) (tb++[true]) K:=Xk rfl rfl
end
def F7 (P:Program) (m nt:Nat) (k:Zz) (Z:XO) (E:Ya) (ops:ZC) (i:Nat) (o:Oper) (env:Β) (r:Row) (τ:Ξ) (d b:Bool) (a:Ψ) (r':Row) (c:Ξ):Prop:=
 (d=true/\b=false/\Ca P m nt k Z E ops i o env r a r'/\c=τ)\/(d=false/\b=true/\StepB P m nt k Z E ops i o env τ a c/\r'=r/\(VI o=true->c=τ))\/(d=false/\b=false/\Ph P m nt k Z E ops i o env a/\r'=r/\c=τ)
theorem s9 (L:Zv P T) {i:Nat} {is:ο} {r:Row} {τ:Ξ} {td tb:List Bool} {K:Β->Ξ->Prop} (h:VB P T A nt ops (i::is) env r τ td tb K) :
  ∃o a r' g d b,ops[i]?=some o/\F7 P m nt k Z E ops i o env r τ d b a r' g/\(d=true->VI o=false)/\VB P T A nt ops is (Zn o env a) r' g (td++[d]) (tb++[b]) K:=by
 unfold VB W3 at h;split at h
 .exact h.elim
 .rename_i o j;obtain⟨hd,h⟩:=h;split at h
  .exact h.elim
  rename_i w B;unfold V1 at h;cases w
  .replace h:=h.1 U
   exact⟨o,.Ze,r,τ,false,false,j,.inr (.inr ⟨U,U,λenv' σ' rest e n=>.unwanted j (by rw[Us e];exact B) hd n,U,U⟩),λh=>(by cases h),h⟩
  .replace h:=h.2 U
   unfold K6 at h;split at h
   .rename_i f args X D;have M:∀env',Sw ops o env env'->ε env' f=ε env f/\args.toList.map (ε env')=args.toList.map (ε env):=λenv' e=>by
     have F:=Lz e;rw[D] at F;refine⟨F f (by simp[Op.operands,Call.operands]),Ly λx R=>F x (by simp[Op.operands,Call.operands,R])⟩
    rcases h with⟨a,v,h⟩|⟨a,r',v,h⟩
    .refine⟨o,a,r,τ,false,false,j,.inr (.inr ⟨U,U,λenv' σ' rest e n=>.call j (by rw[Us e];exact B) hd D ?_,U,U⟩),λh=>(by cases h),h⟩;obtain⟨H,Ρ⟩:=M env' e;rw[H,Ρ];exact(v σ').mono (λa s ⟨x,y⟩=>by subst x;subst y;exact n) (λ_ _ h=>h.elim)
    .refine⟨o,a,r',τ,true,false,j,.inl ⟨U,U,λenv' g rest e n=>.call j (by rw[Us e];exact B) hd D ?_,U⟩,λ_=>(by unfold VI;rw[D]),h⟩;obtain⟨H,Ρ⟩:=M env' e;rw[H,Ρ];exact(v g).mono (λa s ⟨x,y⟩=>by subst x;subst y;exact n) (λ_ _ h=>h.elim)
   .exact h.elim
   .exact h.elim
   .rename_i Y aa N;have O:∀(C:Y8) (a:Ψ),Vt T A env o=C->(∀K:Ψ->Ξ->Prop,∀s,K a s->(C.Yo s).holds K)->(∀σ s,C.or σ s=C.Yo σ)->Ph P m nt k Z E ops i o env a:=λC a u I S env' σ' rest e n=>by
     refine .op (A:=A) L j (by rw[Us e];exact B) hd (λc v=>N c v) ?_;rw[PX e,u,S];exact I _ _ n
    unfold Y8.XX at h;split at h
    .rename_i a J;exact⟨o,a,r,τ,false,false,j,.inr (.inr ⟨U,U,O _ a J (λK s t=>t) (λ_ _=>rfl),U,U⟩),λh=>(by cases h),h⟩
    .rename_i p a J;exact⟨o,a,r,τ,false,false,j,.inr (.inr ⟨U,U,O _ a J (λK s t=>⟨h.1,t⟩) (λ_ _=>rfl),U,U⟩),λh=>(by cases h),h.2⟩
    .exact h.elim
    .rename_i V;have W:∀(a:Ψ) (g:Ξ),(∀r,∃x:YP,V2 T A env (r::τ) o=x/\∀K:Ψ->Ξ->Prop,K a (r::g)->x.holds K)->StepB P m nt k Z E ops i o env τ a g:=λa g u env' r rest e n=>by
      obtain⟨x,u,I⟩:=u r;refine .op (A:=A) L j (by rw[Us e];exact B) hd (λc v=>N c v) ?_;rw[PX e,M8 e,V,u];exact I _ n
     obtain⟨a,g,l,t⟩:=h;refine⟨o,a,r,g,false,true,j,.inr (.inl ⟨U,U,W a g λr=>?_,U,λu=>?_⟩),λh=>(by cases h),t⟩
     .rcases l with l|⟨p,Q,l⟩
      .exact⟨_,l r,λK t=>t⟩
      .exact⟨_,l r,λK t=>⟨Q,t⟩⟩
     .have:r::g=r::τ:=by
       rcases l with l|⟨p,Q,l⟩
       .exact M7 (p:=True) u (.inl (l r))
       .exact M7 u (.inr (l r))
      injection this
theorem s8 (B:Zv P T) {K:Β->Ξ->Prop} {env0:Β}:∀(d i:Nat) (td tb:List Bool) (as9:Nat->Ψ) (ρs:Nat->Row) (τs:Nat->Ξ),i+d=ops.size->td.length=i->tb.length=i->
  (∀j o,j<i->ops[j]?=some o->F7 P m nt k Z E ops j o (Y5 ops env0 as9 (λ_=>true) j) (ρs j) (τs j) (td.getD j false) (tb.getD j false) (as9 j) (ρs (j+1)) (τs (j+1))/\(td.getD j false=true->VI o=false))->
  VB P T A nt ops (List.range' i d) (Y5 ops env0 as9 (λ_=>true) i) (ρs i) (τs i) td tb K->
  ∃(td tb:List Bool) (as9:Nat->Ψ) (b:Nat->Row) (c:Nat->Ξ),Tv ops td=true/\Tv ops tb=true/\b 0=ρs 0/\c 0=τs 0/\(∀j o,ops[j]?=some o->F7 P m nt k Z E ops j o (Y5 ops env0 as9 (λ_=>true) j) (b j) (c j) (td.getD j false) (tb.getD j false) (as9 j) (b (j+1)) (c (j+1))/\(td.getD j false=true->VI o=false))/\K (Y5 ops env0 as9 (λ_=>true) ops.size) (b ops.size::c ops.size):=by
 intro d
 induction d with
 | zero=>
  intro i td tb as9 ρs τs hi n p g h;simp only[List.range'_zero,VB] at h;have:i=ops.size:=J;subst this;exact⟨td,tb,as9,ρs,τs,h.1,h.2.1,U,U,λj o l=>g j o (TJ.1 l).1 l,h.2.2⟩
 | succ d C=>
  intro i td tb as9 ρs τs hi n p g h;rw[Ky] at h;obtain⟨o,a,r',D,r,s,l,F,H,h⟩:=s9 (m:=m) (k:=k) (Z:=Z) (E:=E) B h;let f:Nat->Ψ:=λj=>if j=i then a else as9 j
  let b:Nat->Row:=λj=>if j=i+1 then r' else ρs j
  let c:Nat->Ξ:=λj=>if j=i+1 then D else τs j
  have u:∀j,j<=i->Y5 ops env0 as9 (λ_=>true) j=Y5 ops env0 f (λ_=>true) j:=λj g=>Ha j λx Y=>by simp only[f];rw[if_neg J]
  have I:Y5 ops env0 f (λ_=>true) (i+1)=Zn o (Y5 ops env0 as9 (λ_=>true) i) a:=by
   simp only[Y5,if_true,l];rw[<-u i (Z6 i)];simp only[f,if_true]
  have w:∀(t:List Bool) (x:Bool),t.length=i->(t++[x]).getD i false=x:=λt x h=>by rw[WB,Xj J,h];simp
  have y:∀(t:List Bool) (x:Bool) (j:Nat),t.length=i->j<i->(t++[x]).getD j false=t.getD j false:=λt x j h g=>by rw[WB,Yz J,<-WB]
  have:=C (i+1) (td++[r]) (tb++[s]) f b c J (by simp[n]) (by simp[p]) (λj L aa v=>?_) ?_
  .obtain⟨t1,t2,M,N,O,Q,R,S,V,W,X⟩:=this;exact⟨t1,t2,M,N,O,Q,R,S.trans (by simp only[b];rw[if_neg J]),V.trans (by simp only[c];rw[if_neg J]),W,X⟩
  .by_cases e:j=i
   .subst e;rw[l] at v;cases v;rw[<-u j (Z6 j),w td r n,w tb s p];simp only[f,b,c,if_true];rw[if_neg J,if_neg J];exact⟨F,H⟩
   .have:=g j L J v;rw[<-u j J,y td r j n J,y tb s j p J];simp only[f,b,c];rw[if_neg J,if_neg J,if_neg J,if_neg J,if_neg J];exact this
  .rw[I];simp only[b,c,if_true];exact h
theorem W.F6 (C:Zv P T) (D:P.follows .mixedOrders=true) {r:Row} {τ:Ξ} {id:Nat} (h:∀l:Β->Ξ->Prop,(∀env σ,W P m nt k env σ Z E->l env σ)->VB P T A nt ops (idx ops.size []) env r τ [] [] l):W P m nt (.code (.region id ops true)::k) env (r::τ) Z E:=by
 have p:=h (λenv σ=>W P m nt k env σ Z E) λ_ _ h=>h;rw[idx_eq,KI] at p;obtain⟨td,tb,as9,ρs,τs,F,I,K,L,f,M⟩:=s8 (m:=m) (k:=k) (Z:=Z) (E:=E) (env0:=env) C ops.size 0 [] [] (λ_=>.Ze) (λ_=>r) (λ_=>τ) J U U (λj o s=>J) p;intro N mn x cs b S B H t u v O Q R;refine .draw u v λn=>?_;have g:∀i:Nat,(Array.replicate ops.size false).getD i false=false:=λi=>by
  rw[Wr,OL];split<;>rfl
 have w:=W.tj (P:=P) (m:=m) (nt:=nt) (k:=k) (Z:=Z) (E:=E) (ops:=ops) (as9:=as9) (ρs:=ρs) (τs:=τs) (td:=td) (tb:=tb) (env0:=env) F I
  (λi o c d V=>by
   rcases(f i o c).1 with⟨a,_⟩|⟨_,a,_⟩|⟨_,_,a,_⟩
   .rw[d] at a;cases a
   .rw[V] at a;cases a
   .exact a)
  (λi o c d=>by
   rcases(f i o c).1 with⟨_,b,a,_⟩|⟨a,_⟩|⟨a,_⟩
   .exact⟨a,b⟩
   .rw[d] at a;cases a
   .rw[d] at a;cases a)
  (λi o c d=>by
   rcases(f i o c).1 with⟨_,a,_⟩|⟨_,_,a,_⟩|⟨_,a,_⟩
   .rw[d] at a;cases a
   .exact a
   .rw[d] at a;cases a)
  (λi o c e=>by
   rcases(f i o c).1 with⟨a,_⟩|⟨_,_,_,a,_⟩|⟨_,_,_,a,_⟩
   .unfold writer at e;rw[a,c] at e;simp[(f i o c).2 a] at e
   .exact a
   .exact a)
  (λi o c e=>by
   rcases(f i o c).1 with⟨_,_,_,a⟩|⟨_,b,_,_,a⟩|⟨_,_,_,_,a⟩
   .exact a
   .refine a ?_;unfold writer at e;rw[b,c] at e;simpa using e
   .exact a)
  (.ZB M) ops.size n (Array.replicate ops.size false) env 0 0 Ω (λi=>?_) (λi o c y=>?_) (Α _) (Α _) (λj s _=>?_) (λj s _=>?_) ?_
 .rw[K,L] at w;rw[D];simp only[Region.schedule,Bool.true_or,if_true,Region.linearise];exact w N mn x cs b S B H t u v O Q R
 .have:∀n,Y5 ops env as9 (λi=>(Array.replicate ops.size false).getD i false) n=env:=by
   intro n
   induction n with
   | zero=>rfl
   | succ n X=>
    simp only[Y5];rw[if_neg (by rw[g n];simp)];exact X
  rw[this]
 .rw[g] at y;cases y
 .rw[g];simp
 .rw[g];simp
 .have:=Mk (λi=>!(Array.replicate ops.size false).getD i false) (List.range ops.size);simpa using this
theorem s7 {K K':Β->Ξ->Prop} (l:∀e s,K e s->K' e s):∀(is:ο) (env:Β) (r:Row) (τ:Ξ) (td tb:List Bool),VB P T A nt ops is env r τ td tb K->VB P T A nt ops is env r τ td tb K':=by
 intro is
 induction is with
 | nil=>intro env r τ td tb h;exact⟨h.1,h.2.1,l _ _ h.2.2⟩
 | cons i is c=>
  intro env r τ td tb h;unfold VB W3 at h ⊢;cases g:ops[i]? with
  | none=>rw[g] at h;exact h.elim
  | some o=>
   rw[g] at h;simp only at h ⊢;refine⟨h.1,?_⟩
   replace h:=h.2
   cases j:Xx env ops o with
   | none=>rw[j] at h;exact h.elim
   | some w=>
    rw[j] at h;unfold V1 at h ⊢;refine⟨λe=>c _ _ _ _ _ (h.1 e),λe=>?_⟩
    replace h:=h.2 e
    unfold K6 at h ⊢;split
    .rename_i f args k b;rw[b] at h;simp only at h;rcases h with⟨a,d,h⟩|⟨a,r',d,h⟩
     .exact .inl ⟨a,d,c _ _ _ _ _ h⟩
     .exact .inr ⟨a,r',d,c _ _ _ _ _ h⟩
    .rename_i b;rw[b] at h;exact h
    .rename_i b;rw[b] at h;exact h
    .rename_i m n p;split at h
     .rename_i f args k b;exact absurd b (m f args k)
     .rename_i y b;exact absurd b (n y)
     .rename_i y b;exact absurd b (p y)
     .unfold Y8.XX at h ⊢;split at h
      .exact c _ _ _ _ _ h
      .exact⟨h.1,c _ _ _ _ _ h.2⟩
      .exact h.elim
      .obtain⟨a,t,u,v⟩:=h;exact⟨a,t,u,c _ _ _ _ _ v⟩
theorem W.Ik (c:Zv P T) (d:P.follows .mixedOrders=true) (a:Β) (b:Ξ) {r:Row} {τ:Ξ} {id:Nat} (h:W P m nt k a b Z E) (f:VB P T A nt ops (idx ops.size []) env r τ [] [] (λe s=>s=b/\∀p∈a,Z3 e p.1=p.2)):W P m nt (.code (.region id ops true)::k) env (r::τ) Z E:=
 W.F6 c d λl g=>s7 (λe s ⟨i,j⟩=>g e s (i▸W.forget a j h)) _ _ _ _ _ _ f
theorem W.Uo (c:Zv P T) (d:P.follows .mixedOrders=true) (a:Β) (b:Ξ) {id:Nat} (h:W P m nt k a b Z E) (f:Vk P T A nt ops (idx ops.size []) env σ [] (λe s=>s=b/\∀p∈a,Z3 e p.1=p.2)):W P m nt (.code (.region id ops true)::k) env σ Z E:=
 W.draw c d λl g=>D5 (λe s ⟨i,j⟩=>g e s (i▸W.forget a j h)) _ _ _ _ f
end
end Go.TL
namespace Go.TL
open Go.Proofs.Tryz
open Go.Proofs
variable [ZP]
attribute [congr] ti
attribute [simp] th tg te tc ta s'
def YM (g:FuncId) (args:μ) (d:Zd) (r:Ψ) (b:Zd):Prop:=Μ prog g (.Δ 0 1 0 0::args) [ZF d] (λa s=>YR a r/\s=[ZF b]) (λ_ _=>False)
theorem B2 {l:μ} (h:∀a∈l,ς 0 a) (ρ:ο):l.map (Yh ρ)=l:=by
 induction l with
 | nil=>rfl
 | cons a l b=>rw[WZ,(h a Ω).Yh,b λx c=>h x (by simp[c])]
theorem YM.c {g:FuncId} {args b:μ} {d e:Zd} {r:Ψ} {σ:Ξ} {K E:Ψ->Ξ->Prop} (h:YM g args d r e) (id:Nat) (j:σ[id]?=some (ZF d)) (k:ZN b args) (f:∀a∈b,ς 0 a) (i:ς 0 r) (l:K r (σ.set id (ZF e))):Wm prog (.fn (.func g) [] []) (.Δ id 1 0 0::b) σ K E:=by
 refine Μ.one (as0:=.Δ 0 1 0 0::b) (r:=r) (row':=ZF e) (Μ.Tt h (.cons (.refl _) k) λa s ⟨m,n⟩=>⟨r,m,U,n⟩) id j (RS d) (RS e) ?_ (i.Vr 1) ?_ ?_
 .intro a hm;rcases Y9.1 hm with rfl|hm
  .exact Nat.zero_lt_one
  .exact(f a hm).Vr 1
 .rw[WZ,B2 f];rfl
 .rw[i.Yh];exact l
theorem YM.e {g:FuncId} {args b:μ} {d f:Zd} {r:Ψ} {j:Ψ->Prop} {i:Ψ->Row->Prop} (h:YM g args d r f) (k:ZN b args) (l:∀a∈b,ς 0 a) (m:ς 0 r) (n:i r (ZF f)):K7 prog (.fn (.func g) [] []) (.Δ 0 1 0 0::b) (ZF d) j i:=
 tf (λτ=>h.c 0 U k l m ⟨U,U⟩) n
theorem YM.g {g:FuncId} {args:μ} {d b:Zd} {r:Ψ} {σ:Ξ} {K E:Ψ->Ξ->Prop} (h:YM g args d r b) (e:K r ((ZF d::σ).set 0 (ZF b))) (f:∀a∈args,ς 0 a:=by simp) (i:ς 0 r:=by simp):Wm prog (.fn (.func g) [] []) (.Δ 0 1 0 0::args) (ZF d::σ) K E:=h.c 0 U (ZN.refl _) f i e
theorem YM.h {g:FuncId} {args:μ} {d b:Zd} {r:Ψ} {f:Ψ->Prop} {c:Ψ->Row->Prop} (h:YM g args d r b) (i:c r (ZF b)) (j:∀a∈args,ς 0 a:=by simp) (k:ς 0 r:=by simp):K7 prog (.fn (.func g) [] []) (.Δ 0 1 0 0::args) (ZF d) f c:=h.e (ZN.refl _) j k i
theorem Qw {p q:Prop} (k:q) (h:q->p:=by intro k;simp;(repeat (rw[UD];simp));(try rw[UE]);exact k):p:=h k
theorem Ij {p f:Prop} {q:f->Prop} (a:f) (k:q a) (h:∀a,q a->p:=by intro b k;simp[b];(repeat (rw[UD];simp[b]));(try rw[UE]);exact k):p:=h a k
@[simp] theorem WE (d:Zd) (n:Int):(d.after n).Z0.length<=d.Z0.length:=by
 unfold Zd.after;split
 .exact Z6 _
 .simp[Zd.next]
theorem Ud (d:Zd) (hd:d.Z0.length<2 ^ 63) (n:Int):YM 24 [I n] d (I (W9 d n)) (d.after n):=(F8 d hd n).mono (λa s ⟨b,c⟩=>⟨.of b,c⟩) (λ_ _ h=>h)
theorem OS (d:Zd) (hd:d.Z0.length<2 ^ 63) (a b:Int):YM 38 [I a,I b] d (I (TO d a b)) (d.after (IntKind.i64.wrap (b-a))):=(tn d hd a b).mono (λa s ⟨c,e⟩=>⟨.of c,e⟩) (λ_ _ h=>h)
theorem F5 (d:Zd) (hd:d.Z0.length<2 ^ 63) (l:ZZ) (b:0<l.length) (c:l.length<1000000):YM 61 [δ I 1 l] d (I (l.getD (Ri d l) 0)) (d.after ((l.length:Int)-1)):=(tk d hd l b c).mono (λa s ⟨e,f⟩=>⟨.of e,f⟩) (λ_ _ h=>h)
def NU (d:Zd) (n:Int):Bool:=decide (W9 d (n-1)=n.tdiv 2)
theorem F4 (d:Zd) (hd:d.Z0.length<2 ^ 63) (n:Int) (e:1<=n) (f:n<1000):YM 156 [I n] d (ν (NU d n)) (d.after (n-1)):=by
 have a:IntKind.i64.wrap (n-1)=n-1:=IntWalk.i64_in _ J;unfold YM;refine Μ.body Ο func156 U U ntmps156 U U Ω ?_;refine Χ ?_;refine XD a λh b=>?_;refine YM.g (Ud d hd (n-1)) (XK a ?_);apply b;have c:IntKind.i64.wrap (n.tdiv 2)=n.tdiv 2:=by
  rw[HW J];exact IntWalk.i64_in _ J
 rw[c];exact W.ret ⟨_,U,.refl _,U⟩
def RR (l:ZZ) (k:Nat) (x:Int):ZZ:=l.take k++x::l.drop k
def WH (d:Zd):Nat->ZZ×Zd
 | 0=>([],d)
 | i+1=>(RR (WH d i).1 (W9 (WH d i).2 i).toNat i,(WH d i).2.after i)
theorem Ii (d:Zd) (n:Nat):(WH d n).2.Z0.length<=d.Z0.length:=by
 induction n with
 | zero=>exact Z6 _
 | succ n a=>exact XQ (WE _ _) a
theorem F3 {l:ZZ} {k:Nat} {x:Int}:(RR l k x).length=l.length+1:=by
 unfold RR;simp;omega
theorem Ih (d:Zd) (n:Nat):(WH d n).1.length=n:=by
 induction n with
 | zero=>rfl
 | succ n a=>show(RR _ _ _).length=_;rw[F3,a]
def Vf (l:ZZ) (k:Nat):ZZ:=(l++[0]).take (k+1)++l.drop k
theorem s6 (l:ZZ):Vf l l.length=l++[0]:=by unfold Vf;rw[VP Ω];simp
theorem B1 {l:ZZ} {k:Nat} (h:k<=l.length):(Vf l k).length=l.length+1:=by
 unfold Vf;simp;omega
theorem s5 {l:ZZ} {k:Nat} (h:k<l.length):(Vf l (k+1))[k]?=some l[k]:=by
 unfold Vf;rw[Yz (by simp;omega),S' J,Yz h,Z7 h]
theorem s4 {l:ZZ} {k:Nat} (h:k<l.length):(Vf l (k+1)).set (k+1) l[k]=Vf l k:=by
 unfold Vf;have a:((l++[0]).take (k+1+1))=(l++[0]).take (k+1)++[(l++[0])[k+1]'(by simp;omega)]:=Ws (by simp;omega);have Ρ:l.drop k=l[k]::l.drop (k+1):=OM h;rw[a,Ρ,TH,Py _ _ (by simp;omega)];congr 1;have:k+1-((l++[0]).take (k+1)).length=0:=by simp;omega
 rw[this];rfl
theorem s3 {l:ZZ} {k:Nat} {x:Int} (h:k<=l.length):(Vf l k).set k x=RR l k x:=by
 unfold Vf RR;have a:((l++[0]).take (k+1))=l.take k++[(l++[0])[k]'(by simp;omega)]:=by
  rw[Ws (by simp;omega),List.take_append_of_le_length h]
 rw[a,TH,Py _ _ (by rw[Qm];omega)];have:k-(l.take k).length=0:=by rw[Qm];omega
 rw[this];rfl
theorem F2 (d:Zd) (hd:d.Z0.length<2 ^ 63) (n:Nat) (ak:n<1000):YM 63 [I n] d (δ I 1 (WH d n).1) (WH d n).2:=by
 unfold YM;refine Μ.body Ο func63 U U ntmps63 U U Ω ?_;refine Χ ?_;refine W.iter (λi:Nat=>i<=n) (λi=>[(0,.Δ 0 1 0 0),(1,I n),(5,Y2 1 ((WH d i).1.map I)),(6,I i)]) (λi=>ZF (WH d i).2::ZL 3 1 ((WH d i).1.map I)) (λi=>n-i) 0 (Α _) U (by simp[Y2,WH]) (λi hi ab=>?_);refine Χ ?_;refine W.YH U (λf=>?_) (λf=>?_)
 .have f:i<n:=by simpa using f
  have B:WH d (i+1)=(RR (WH d i).1 (W9 (WH d i).2 i).toNat i,(WH d i).2.after i):=rfl;obtain⟨L,D⟩:=Ε ((WH d i).1);obtain⟨c,E⟩:=Ε ((WH d i).2);have l:L.length=i:=by rw[D];exact Ih d i
  have ad:c.Z0.length<2 ^ 63:=by rw[E];exact Qp (Ii d i) hd
  rw[<-D,<-E] at B;rw[<-D,<-E];obtain⟨t0,t1⟩:=SQ c i J J;obtain⟨m,Q⟩:∃k:Nat,W9 c i=k:=⟨(W9 c i).toNat,J⟩;rw[Q] at B t1;have ae:m<=i:=J;refine Z8 λS u=>?_;refine YM.g (Ud c ad i) (Z9 ?_);rw[Q];apply u
  repeat apply Ν
  refine W.Xq (A:=[19]) Ο [(0,.Δ 0 1 0 0),(1,I n),(5,.ms 1 (i+1) 0 (i+1)),(6,I i),(7,I m)] [ZF (c.after i),.cells 3 1 ((Vf L i).map I)] ?_ (by
    have af:(Vf L i).map I=L.map I++[I 0]:=by rw[<-l,s6];simp
    rw[af];by_cases T:L=[]
    .subst T;have ag:i=0:=by simpa using l.symm
     subst ag;(try simp);(repeat (rw[Θ];simp[U0,show Y2 1 []=.sl true 0 [] from rfl]));(try simp[U0,show Y2 1 []=.sl true 0 [] from rfl])
    .have o:L.map I≠[]:=by simpa using T
     (try simp);(repeat (rw[Θ];simp[W2 o,Yd o,l]));(try simp[W2 o,Yd o,l]);omega)
  refine Χ ?_;refine W.iter (λk:Nat=>m<=k/\k<=i) (λk=>[(0,.Δ 0 1 0 0),(1,I n),(5,.ms 1 (i+1) 0 (i+1)),(6,I i),(7,I m),(8,I k)]) (λk=>[ZF (c.after i),.cells 3 1 ((Vf L k).map I)]) (λk=>k) i ⟨ae,Z6 _⟩ U Ω (λk al ah=>?_);refine Χ ?_;refine W.YH U (λF=>?_) (λF=>?_)
  .have V:m<k:=by simpa using F
   obtain⟨j,X⟩:∃j,k=j+1:=⟨k-1,J⟩;have Y:j<L.length:=J;have v:IntKind.i64.wrap ((k:Int)-1)=j:=by rw[IntWalk.i64_in _ J];omega
   have H:(Vf L k).length=i+1:=by rw[B1 J,l]
   obtain⟨y,K⟩:∃y,(Vf L k)[k]?=some y:=⟨_,Z7 J⟩;obtain⟨R,b⟩:=Ε ((Vf L k).map I);have M:R.length=i+1:=by rw[b,X2,H]
   have N:R[j]?=some (I L[j]):=by rw[b,Yc,X,s5 Y];rfl
   have s:R[k]?=some (I y):=by rw[b,Yc,K];rfl
   have O:R.set k (I L[j])=(Vf L j).map I:=by rw[b,<-s4 Y,Ma,X]
   have ai:∀h,R[j]'h=I L[j]:=λh=>by rw[Z7 h] at N;exact WW N
   have P:∀h,R[k]'h=I y:=λh=>by rw[Z7 h] at s;exact WW s
   refine W.to (σ':=[ZF (c.after i),.cells 3 1 R]) (env':=[(0,.Δ 0 1 0 0),(1,I n),(5,.ms 1 (i+1) 0 (i+1)),(6,I i),(7,I m),(8,I k)]) ?_ (by rw[b]) Ω;refine XD (Υ v (Υ M (Υ N (Υ s (Υ ai P))))) λS u=>?_;refine⟨J,J,?_⟩;apply u;refine Ι v ?_;refine W.to (ah j ⟨J,J⟩ J) ?_ ?_
   .rw[O]
   .simp
  .have V:k=m:=by simp at F;omega
   subst V;refine W.exit U ?_;have H:(Vf L k).length=i+1:=by rw[B1 J,l]
   obtain⟨y,K⟩:∃y,(Vf L k)[k]?=some y:=⟨_,Z7 J⟩;obtain⟨R,b⟩:=Ε ((Vf L k).map I);have M:R.length=i+1:=by rw[b,X2,H]
   have s:R[k]?=some (I y):=by rw[b,Yc,K];rfl
   have O:R.set k (I i)=(RR L k i).map I:=by rw[b,<-s3 J,Ma]
   have P:∀h,R[k]'h=I y:=λh=>by rw[Z7 h] at s;exact WW s
   refine W.to (σ':=[ZF (c.after i),.cells 3 1 R]) (env':=[(0,.Δ 0 1 0 0),(1,I n),(5,.ms 1 (i+1) 0 (i+1)),(6,I i),(7,I k)]) ?_ (by rw[b]) Ω;refine XD (Υ M (Υ s P)) λS u=>?_;refine⟨J,?_⟩;apply u;have v:=Yn f (show n<2 ^ 62 by omega);refine Ι v ?_;have o:(RR L k i).map I≠[]:=λh=>by have:=congrArg List.length h;rw[X2,F3] at this;simp at this
   refine W.to (ab (i+1) f J) ?_ ?_
   .rw[B,O,Yd (by simpa using o)];rfl
   .rw[B];simp only[Int.toNat_natCast];rw[W2 o];simp[v,F3,l]
 .have f:i=n:=by simp at f;omega
  subst f;refine W.exit U ?_;refine Χ ?_;refine W.cut 1 Ω [(4,WT 1 ((WH d i).1.map I))] Ω (λid r am Z=>?_) ?_ ?_
  .have:id=0:=J
   subst this;simp at Z;subst Z;exact λe C a w=>by simp[Ψ.cells] at C;subst C;simp[Ψ.cells] at w;rcases w with rfl|rfl<;>simp[YD,Ψ.cells]
  .intro p aa;simp at aa;subst aa;show X' 1 _ (Z3 _ 4) _;simp;refine IY (t:=3) (Z6 _) (λaj=>by rw[Yd aj];rfl) (λe C a w=>?_);obtain⟨x,_,rfl⟩:=YO.1 C;simp[Ψ.cells] at w;subst w;exact .z _
  .exact W.ret ⟨_,U,.acc,U⟩
theorem SP (d:Zd) (h:Nat):XF h (ZF d):=λe b a c=>by
 simp[Ψ.cells] at b;subst b;simp[Ψ.cells] at c;rcases c with rfl|rfl<;>simp[YD,Ψ.cells]
section
variable {P:Program} {m nt:Nat} {k:Zz} {env:Β} {Z:XO} {E:Ya}
theorem W.s0 {d:Zd} {t kk:Nat} {l:μ} {x:Nat} (g:m<=1) (h:∀e∈l,∀a∈e.cells,ς 0 a) (env':Β) (hd:Z3 env x=Y2 1 l) (c:∀p∈env',Z3 env p.1=p.2/\ς 1 p.2) (i:W P m nt k ((x,WT kk l)::env') [ZF d] Z E):W P m nt k env (ZF d::ZL t kk l) Z E:=
 W.cut 1 g ((x,WT kk l)::env') Ω (λid r s f=>by
  have:id=0:=J;subst this;simp at f;subst f;exact SP d 1) (λp b=>by
  rcases Y9.1 b with rfl|b
  .show X' 1 _ (Z3 env x) _;rw[hd];exact IY (t:=t) (Z6 _) (λj=>by rw[Yd j];rfl) (λe n a o=>(h e n a o).mono (Α _))
  .rw[(c p b).1];exact .low (c p b).2) (by simpa using i)
end
theorem sZ {i n:Nat} (h:i<n) (a:n<1000):IntKind.i64.wrap ((i:Int)+1)=((i+1:Nat):Int):=by
 rw[IntWalk.i64_in _ J];omega
def VR (d:Zd):Nat->ZZ×Zd
 | 0=>([],d)
 | i+1=>((VR d i).1++(if NU (VR d i).2 2 then [(i:Int)] else []),(VR d i).2.after 1)
theorem B0 (d:Zd) (n:Nat):(VR d n).2.Z0.length<=d.Z0.length:=by
 induction n with
 | zero=>exact Z6 _
 | succ n a=>exact XQ (WE _ _) a
theorem BZ (d:Zd) (n:Nat):(VR d n).1.length<=n:=by
 induction n with
 | zero=>exact Z6 _
 | succ n a=>
  show((VR d n).1++_).length<=_;rw[Vz];split<;>simp<;>omega
theorem sY (d:Zd) (hd:d.Z0.length<2 ^ 63):YM 156 [I 2] d (ν (NU d 2)) (d.after 1):=F4 d hd 2 ZT ZT
theorem sX (d:Zd) (hd:d.Z0.length<2 ^ 63):YM 129 [] d (δ I 1 (VR d 3).1) (VR d 3).2:=by
 unfold YM;obtain⟨n,t⟩:=Ε 3;rw[<-t];refine Μ.body Ο func129 U U ntmps129 U U Ω ?_;refine Χ ?_;refine W.iter (λi:Nat=>i<=n) (λi=>[(0,.Δ 0 1 0 0),(3,Y2 1 ((VR d i).1.map I)),(4,I i)]) (λi=>ZF (VR d i).2::ZL 3 1 ((VR d i).1.map I)) (λi=>n-i) 0 (Α _) U (by simp[Y2,VR]) (λi hi p=>?_);refine Χ ?_;refine W.YH U (λb=>?_) (λb=>?_)
 .have b:i<n:=by simp at b;omega
  have c:VR d (i+1)=((VR d i).1++(if NU (VR d i).2 2 then [(i:Int)] else []),(VR d i).2.after 1):=rfl
  have u:=BZ d i;obtain⟨L,m⟩:=Ε ((VR d i).1);obtain⟨f,o⟩:=Ε ((VR d i).2);have v:f.Z0.length<2 ^ 63:=by rw[o];exact Qp (B0 d i) hd
  rw[<-m,<-o] at c;rw[<-m] at u;rw[<-m,<-o];have h:=sZ b J;refine Z8 λB w=>?_;refine YM.g (sY f v) (Z9 ?_);apply w;cases j:NU f 2
  .refine Η U ?_;refine Ι h ?_;refine W.to (p (i+1) b J) ?_ ?_
   .rw[c,j];simp
   .rw[c,j];simp[h]
  .refine Ζ U ?_
   repeat apply Ν
   refine W.Xq (A:=[14]) Ο [(0,.Δ 0 1 0 0),(3,Y2 1 ((L++[(i:Int)]).map I)),(4,I i)] (ZF (f.after 1)::ZL 3 1 ((L++[(i:Int)]).map I)) ?_ (by
    rw[XA,WZ,TF,QM,W2 (l:=L.map I++[I i]) Ω];by_cases r:L=[]
    .subst r;(try simp);(repeat (rw[Θ];simp[U0,show Y2 1 []=.sl true 0 [] from rfl]));(try simp[U0,show Y2 1 []=.sl true 0 [] from rfl])
    .have k:L.map I≠[]:=by simpa using r
     (try simp);(repeat (rw[Θ];simp[W2 k,Yd k]));(try simp[W2 k,Yd k]);omega)
   refine Ι h ?_;refine W.to (p (i+1) b J) ?_ ?_
   .rw[c,j];simp
   .rw[c,j];simp[h]
 .have b:i=n:=by simp at b;omega
  subst b;refine W.exit U ?_;refine Χ ?_;refine W.s0 (x:=2) Ω (λe y a s=>?_) [] Ω Ω ?_
  .obtain⟨x,_,rfl⟩:=YO.1 y;simp[Ψ.cells] at s;subst s;exact .z _
  .exact W.ret ⟨_,U,.acc,U⟩
end Go.TL
namespace Go.TL
open Go.Proofs.Tryz
open Go.Conc Go.Proofs
theorem F1:@Seq Ue calm:=@Seq.mk Ue calm rfl (λ_ h=>h.rel) (λ_ h=>h.Z4)
theorem sW (w:World):Calm (ZU.start w):=⟨rfl,rfl,rfl,λ_=>trivial⟩
def UW (w:World):κ:=λb o=>((Τ.T5 w).η b o).map (·.1)
theorem sV (w:World):Holds (UW w) [] [] (Τ.T5 w):=
 ⟨λb o v h=>by
  unfold UW at h;cases a:(Τ.T5 w).η b o with
  | none=>rw[a] at h;cases h
  | some x=>rw[a] at h;cases h;exact⟨x.2,rfl⟩,rfl,λid r bo h=>by simp at h,λi j c d b e f _ h=>by simp at h,λid r b N h=>by simp at h⟩
theorem BY {P:Program} {f:FuncId} {fn:Func} {body:Code} {d:Nat} (b:P.funcs[f]?=some fn) (g:fn.body=some body) (i:fn.results=#[.tmp d]) (m:P.inits.idxOf? f=none) {w:World} {l:μ} {args:ζ} (n:XN (UW w) [] [] l args) (o:l.length<=fn.ntmps)
  (p:@W Ue P 0 fn.ntmps [.code body] (entry 0 l) [] (λj env _=>(∃k,j=.code .ret::k)/\Z3 env d=ν true) (λ_ _ _=>False)):Comes P (λv=>v=.bool true) w (solo (Go.Conc.G (Frame.enter P f args .normal) []) w) #[]:=by
 letI:ZP:=Ue;refine Goes.comes ?_;show Y6 P _ true (ZU.start w) (Frame.enter P f args .normal) [] (Τ.T5 w);rw[Rw b g];refine p (λv=>v=.bool true) true calm [] (Frame.enter P f args .normal) (UW w) [] (Τ.T5 w) _ F1 U (Xb.enter (sV w) n (Z6 _) o) (λj env' σ' r B' H' t' c s C t x=>?_) (λa env' σ' r B' H' t' c v A=>A.elim) (ZU.start w) (sW w);obtain⟨⟨k,B⟩,hd⟩:=s;have e:c=j:=x;subst e;subst B;refine γ.ret F1 U U (γ.done (v:=.bool true) F1 (λy h=>h.shut) (λy h=>h.deaf) U U U b m ?_ U);have hv:t'.getD d undef=.bool true:=by
  have:=t.Y7 d;rw[hd] at this;generalize t'.getD d undef=u at this;cases this;rfl
 show results fn t'=_;unfold results;rw[i];rw[Wr] at hv;simp[hv]
end Go.TL
namespace Go.TL
open Go.Proofs.Tryz
open Go.Conc Go.ConcM Go.Proofs
open Go.ChangeShapes Go.WideShapes Go.ChangeAt Go.RowKit
theorem BX:ownKnob prog.godebug=none:=by kernel_rfl
theorem Xd.below {W w:World} (h:Xd (λ_ _=>False) (λ_=>False) W w):Below W.heap.size W {w with os:=W.os}:=by
 refine⟨U,h.tape,h.output,h.size,λk d=>?_⟩;show w.heap[k]?=W.heap[k]?;have e:=Xu d;cases a:Obj.Qh W.heap[k] with
 | false=>rw[e];exact h.S7 k _ e a id
 | true=>
  cases b:W.heap[k] with
  | cells c t f=>
   rw[b] at e;obtain⟨c',g,j,i⟩:=h.cells k c t f e;have:c'=c:=by
    apply Nx ;apply Sj;intro o;have:=i o id;simpa using this
   rw[e,g,this]
  | _=>rw[b] at a;simp[Obj.Qh] at a
theorem BW:laidOutB prog=true:=by kernel_rfl
theorem sU {W:World} {b o:Nat} {v:Value} (h:W.cell? ⟨b,o,none⟩=some v):UW W b o=some v:=by
 unfold World.cell? at h;unfold UW Τ.T5;simp only at h ⊢;split at h
 .rename_i c t d a;rw[a];simp at h ⊢;exact h
 .cases h
end Go.TL
namespace Go.TL
open Go.Proofs.Tryz
open Go.Conc Go.ConcM Go.Proofs
open Go.ChangeShapes Go.WideShapes Go.ChangeAt Go.RowKit Go.Deep
section
variable {H:Type} {enc:TypeId×Value->H} {P:Program} {W:World}
def VQ (enc:TypeId×Value->H) (P:Program) (W:World) (t:TypeId) (k:Nat) {b:Type} (d:b->Prop) (F:b->Ψ):Prop:=
 ∀(e:Nat) (cs:List Value) (x:DataW H×List MemPlace),DataW.trod enc P W 0 (λ_=>true) true e t cs=some x->∃a:b,d a/\(F a).cells.length=k/\cs.length=k/\∀(j:Nat) (c:Ψ) (v:Value),(F a).cells[j]?=some c->cs[j]?=some v->υ (UW W) [] [] c v
theorem OR {t:TypeId} (d:P.underlying t=some (.int .i64)):VQ enc P W t 1 (λ_:Int=>True) I:=λe cs x h=>by
 obtain⟨n,rfl,_⟩:=DataW.trod_int d h;refine⟨n,trivial,U,U,λj c v a b=>?_⟩
 match j with
 | 0=>simp[Ψ.cells] at a b;subst a;subst b;exact .z _
 | j+1=>simp[Ψ.cells] at a
theorem BV {t:TypeId} (d:P.underlying t=some .bool):VQ enc P W t 1 (λ_:Bool=>True) ν:=λe cs x h=>by
 obtain⟨n,rfl,_⟩:=DataW.trod_bool d h;refine⟨n,trivial,U,U,λj c v a b=>?_⟩
 match j with
 | 0=>simp[Ψ.cells] at a b;subst a;subst b;exact .z _
 | j+1=>simp[Ψ.cells] at a
theorem sT {t:TypeId} (d:P.underlying t=some .string):VQ enc P W t 1 (λ_:ByteArray=>True) U4:=λe cs x h=>by
 obtain⟨n,rfl,_⟩:=DataW.trod_string d h;refine⟨n,trivial,U,U,λj c v a b=>?_⟩
 match j with
 | 0=>simp[Ψ.cells] at a b;subst a;subst b;exact .z _
 | j+1=>simp[Ψ.cells] at a
theorem BU {d:Type} {p:Nat->d->Prop}:∀n,(∀i,i<n->∃a,p i a)->∃l:List d,l.length=n/\∀(i:Nat) (a:d),l[i]?=some a->p i a
 | 0,_=>⟨[],rfl,λi a h=>by simp at h⟩
 | n+1,h=>by
  obtain⟨l,e,f⟩:=BU n λi hi=>h i J;obtain⟨a,g⟩:=h n J;refine⟨l++[a],by simp[e],λi b c=>?_⟩;by_cases hi:i<l.length
  .rw[Yz hi] at c;exact f i b c
  .rw[Xj J] at c;obtain⟨j,k⟩:=Ε (i-l.length);rw[<-k] at c
   match j with
   | 0=>
    simp at c;subst c;rw[show i=n by omega];exact g
   | j+1=>simp at c
theorem K5 {t e:TypeId} {k:Nat} {s:Type} {u:s->Prop} {F:s->Ψ} (K:P.underlying t=some (.slice e)) (L:P.cellsOf e=k) (ah:0<k) (M:VQ enc P W e k u F) :
  VQ enc P W t 1 (λl:List s=>l.length<2 ^ 63/\∀a∈l,u a) (λl=>.sl false k (l.map F)):=λai cs x h=>by
 rcases open_slice K h with⟨rfl,_⟩|⟨a,len,cap,m,n,aj,ak,rfl,_,al,N,O,_,Q⟩
 .refine⟨[],⟨Nat.two_pow_pos 63,Ω⟩,U,U,λj c v d p=>?_⟩
  match j with
  | 0=>simp[Ψ.cells] at d p;subst d;subst p;exact .VY _ _ Ω
  | j+1=>simp[Ψ.cells] at d
 have am:m=cap:=by rw[O];rfl
 have R:∀i,i<len->∃b:s,u b/\(F b).cells.length=k/\∀(j:Nat) (c:Ψ),(F b).cells[j]?=some c->∃v,W.cell? ((a.add (i*k)).add j)=some v/\υ (UW W) [] [] c v:=λi hi=>by
  obtain⟨cs',d,p⟩:=Q i J;rw[L] at d;obtain⟨_,an,T⟩:=World.cells?_some d;obtain⟨b,V,E,ao,X⟩:=M n cs' _ p;refine⟨b,V,E,λj c g=>?_⟩;have Y:j<k:=by rw[<-E];exact(Zo.1 g).1
  have hv:=Z7 (show j<cs'.length by omega);exact⟨_,by rw[T j Y,hv],X j c _ g hv⟩
 obtain⟨l,Z,w⟩:=BU len R;refine⟨l,⟨by unfold maxLen at N;omega,λb aa=>?_⟩,U,U,λj c v d p=>?_⟩
 .obtain⟨i,hi,rfl⟩:=S8 aa;exact(w i _ (Z7 hi)).1
 match j with
 | j+1=>simp[Ψ.cells] at d
 | 0=>
 simp[Ψ.cells] at d p;subst d;subst p;by_cases ab:len=0
 .have:l=[]:=YA.1 J;subst this;subst ab;exact .VY _ _ Ω
 have H:a.spot=none:=by
  have ad:=Z7 (show 0<l.length by omega);obtain⟨_,I,A⟩:=w 0 _ ad;have ae:=Z7 (show 0<(F l[0]).cells.length by omega);obtain⟨v,hv,_⟩:=A 0 _ ae;unfold World.cell? Addr.add at hv;simp only[Pt,if_true] at hv;cases af:a.spot with
  | none=>rfl
  | some y=>
   rw[af] at hv;simp at hv;split at hv<;>simp at hv
 obtain⟨b,o,sp⟩:=a;simp only at H;subst H;have ag:∀i j,((⟨b,o,none⟩:Addr).add i).add j=⟨b,o+i+j,none⟩:=λi j=>by rw[add_plain,add_plain]
 have one:∀(i:Nat) (f:Ψ),(l.map F)[i]?=some f->f.cells.length=k/\∀(j:Nat) (c:Ψ),f.cells[j]?=some c->∃v,UW W b (o+i*k+j)=some v/\υ (UW W) [] [] c v:=λi f hi=>by
  rw[Yc] at hi;cases C:l[i]? with
  | none=>rw[C] at hi;cases hi
  | some y=>
   rw[C] at hi;cases hi;obtain⟨_,I,A⟩:=w i y C;refine⟨I,λj c g=>?_⟩;obtain⟨v,r,D⟩:=A j c g;rw[ag] at r;exact⟨v,sU r,D⟩
 have:=υ.sl (S:=UW W) (B:=[]) (σ:=[]) (ex:=false) (k:=k) (l:=l.map F) b o cap (λi j=>(UW W b (o+i*k+j)).getD undef) Ω (by rw[X2];omega)
  (λi f hi=>(one i f hi).1) (λi f hi j c g=>by
   obtain⟨v,r,_⟩:=(one i f hi).2 j c g;rw[r];rfl) (λi f hi j c g=>by
   obtain⟨v,r,D⟩:=(one i f hi).2 j c g;rw[r];exact D)
 rw[X2,Z] at this;exact this
theorem K4 {a:Type} {cs:List a} {o k j:Nat} (b:j<k):((cs.drop o).take k)[j]?=cs[o+j]?:=by
 rw[S' b,TI]
theorem sS {t:TypeId} {f0 f1:Field} {d f:Nat} {g i:Type} {l:g->Prop} {m:i->Prop} {o:g->Ψ} {p:i->Ψ} {k:Type} (G:g->i->k) {r:k->Prop} {F:k->Ψ} (C:P.underlying t=some (.struct #[f0,f1])) (D:f0.offset=0) (E:f1.offset=d)
  (H:P.cellsOf f0.type=d) (I:P.cellsOf f1.type=f) (K:P.cellsOf t=d+f) (L:VQ enc P W f0.type d l o) (M:VQ enc P W f1.type f m p)
  (s:∀a b,(F (G a b)).cells=(o a).cells++(p b).cells) (N:∀a b,l a->m b->r (G a b)):VQ enc P W t (d+f) r F:=λX cs x h=>by
 obtain⟨Y,Z,n,_,O,u,w⟩:=trod_struct2 C h;rw[D,H] at u;rw[E,I] at w;obtain⟨a,Q,y,aa,R⟩:=L _ _ _ u;obtain⟨b,S,A,ab,T⟩:=M _ _ _ w;refine⟨G a b,N a b Q S,by rw[s,Vz,y,A],by rw[O,K],λj c v e B=>?_⟩;rw[s] at e;by_cases U:j<d
 .rw[Yz J] at e;exact R j c v e (by rw[K4 U,US];exact B)
 .rw[Xj J,y] at e;have V:j-d<f:=by rw[<-A];exact(Zo.1 e).1
  exact T (j-d) c v e (by rw[K4 V,show d+(j-d)=j by omega];exact B)
theorem BT {t:TypeId} {f0 f1 f2:Field} {g i k:Type} {p:g->Prop} {r:i->Prop} {s:k->Prop} {u:g->Ψ} {w:i->Ψ} {y:k->Ψ} {l:Type} (G:g->i->k->l) {A:l->Prop} {F:l->Ψ} (H:P.underlying t=some (.struct #[f0,f1,f2])) (I:f0.offset=0) (K:f1.offset=1) (L:f2.offset=2)
  (M:P.cellsOf f0.type=1) (N:P.cellsOf f1.type=1) (O:P.cellsOf f2.type=1) (Q:P.cellsOf t=3) (R:VQ enc P W f0.type 1 p u) (S:VQ enc P W f1.type 1 r w) (T:VQ enc P W f2.type 1 s y)
  (B:∀a b d,(F (G a b d)).cells=(u a).cells++((w b).cells++(y d).cells)) (U:∀a b d,p a->r b->s d->A (G a b d)):VQ enc P W t 3 A F:=λab cs x h=>by
 obtain⟨ad,ae,af,n,_,V,C,D,E⟩:=trod_struct3 H h;rw[I,M] at C;rw[K,N] at D;rw[L,O] at E;obtain⟨a,X,f,ag,Y⟩:=R _ _ _ C;obtain⟨b,Z,m,ah,aa⟩:=S _ _ _ D;obtain⟨d,d1,d2,d3,d4⟩:=T _ _ _ E;refine⟨G a b d,U a b d X Z d1,by rw[B,Vz,Vz,f,m,d2],by rw[V,Q],λj c v e o=>?_⟩;rw[B] at e
 match j with
 | 0=>
  rw[Yz J] at e;exact Y 0 c v e (by rw[K4 J];exact o)
 | 1=>
  rw[Xj J,f,Yz J] at e;exact aa 0 c v e (by rw[K4 J];exact o)
 | 2=>
  rw[Xj J,f,Xj J,m] at e;exact d4 0 c v e (by rw[K4 J];exact o)
 | j+3=>rw[Xj J,f,Xj J,m,Uc J] at e;cases e
end
end Go.TL
