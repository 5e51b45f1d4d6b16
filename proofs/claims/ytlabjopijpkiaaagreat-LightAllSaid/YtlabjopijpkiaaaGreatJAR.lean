import Derived.Test.YtlabjopijpkiaaaGreatJAQ
set_option maxHeartbeats 16000000
set_option maxRecDepth 20000
set_option linter.unusedSectionVars false
set_option linter.unusedSimpArgs false
set_option linter.unusedVariables false
namespace Go.TL
open Go.Proofs.Tryz
open Go.Conc Go.Proofs
open Go.ConcN (sumTo upd sumTo_upd upd_ne upd_same sumTo_congr le_sumTo)
section
variable {β s m o k:Nat} {S XH:μ} {fd:Nat->Option Found} {sp:Spec} {Xy:ψ} {a b:Int} {v1 v2 MO:Value} {f:Found} {n:Nat}
noncomputable abbrev ui (vs:Array Value) (ds:List Deferred):Frame:={Frame.enter prog 141 vs .deferred with defers:=ds}
noncomputable def Ii:Code:=f141.body.getD .skip
theorem uh (al:sp.ZO=some m) (am:sp.top<7) (Y:sp.XQ=NW β XH o fd) (an:sp.D k Χ.empty) (ao:∀c:ZX,@Ε c prog 78 [YN f,J (-1)] (J n)) (Z:fd k=if 0<n then some f else none) {aa:Value->Prop}
  {r:μ} {H' E:Χ} {L:List Nat} (ap:Holds r [] [] H') (ab:sp.XQ L E) (aq:Apart H' E) (ar:∃w,Fits H' w/\Fits E w) (au:((L.filterMap fd).map YN).length<=4294967295) (av:S4 β XH H') (aw:∃q x,H'.θ β q=some x)
  {t:Array Value} (ad:YT r [] [] [(4,.z (ptr m 0)),(5,.z (ptr o 0)),(6,.Θ (YN f).cells)] t) (ax:t.size=20) {vs:Array Value} {d1:Deferred} (ay:N9 prog d1 142 #[ptr s 0]) {ops:Array Oper} :
  Zd prog aa false (ZI (T2 s sp) s (.ch k (.YJ L) .work) none 0) (ο (ui vs [d1]) t [.inRegion ops [],.code (Yq [1,1,1] Ii)]) [under prog] (join H' E):=by
 letI:ZX:=XU;have v:Seq (one (ZI (T2 s sp) s (.ch k (.YJ L) .work) none 0)):=Seq.O8 trivial rfl rfl;rw[Y] at ab;obtain⟨hi,H,C,O,ae⟩:=ab;obtain⟨l,I⟩:=Η ((L.filterMap fd).map YN);have az:l.length<=4294967295:=I▸au;rw[<-I] at O;obtain⟨aA,l1,l2⟩:=Cn ap O aq ar (Ik l);have af:∀b,C.has b->β<b:=λb=>hi.blocks O (Ik l);have aB:∃q x,(join H' E).θ β q=some x:=let ⟨q,x,h⟩:=aw;⟨q,x,join_some h⟩;have aC:t.getD 5 undef=ptr o 0:=by
  have:=ad 5;generalize t.getD 5 undef=u at this;cases this;rfl
 have aD:YT (r.plus H) C (WX l) [(4,.z (ptr m 0)),(5,.Κ 0 1 0 0),(6,.Θ (YN f).cells)] t:=λi=>by
  have P:=(ad i).later l1;simp only[Z7] at P ⊢;by_cases ag:4=i
  .simpa[ag] using P
  by_cases ah:5=i
  .subst ah;simp only[show ¬4=5 by decide,if_false,if_true];rw[aC];have:=π.Κ (S:=r.plus H) (B:=C) (σ:=WX l) (id:=0) (n:=1) (i:=0) (j:=0) (k:=1) (t:=99) (l:=[PF l]) (b:=o) (N:=1) (by simp[WX]) rfl ae;simpa using this
  .simpa[ag,ah] using P
 have ai:∀(K:κ) (g:μ) (p:Z8) (a:Χ) (c:Frame) (d2:Deferred),K=((L++[k]).filterMap fd).map YN->XX 1 (r.plus H) C (join H' E) (WX l) g p a (WX K)->Holds g p (WX K) a->N9 prog d2 145 #[ptr m 0]->
   c.mode=.returning->c.defers=[d2,d1]->c.kind=.deferred->c.fn=141->Zd prog aa false (ZI (T2 s sp) s (.ch k (.YJ L) .work) none 0) c [under prog] a:=λK g p a c d2 e Q aE M aF aG aH aI=>by
  subst e;obtain⟨q,x,aj⟩:=aB;exact uj al am Y an ay M aF aG aH aI aE (by rw[uo Q.later U];exact ae) ((av.join hi).ext Q.ext af aj) (Cm Q.ext (λh=>Nat.lt_irrefl _ (af β h)) ⟨q,x,aj⟩)
 refine V.here (x:=one _) (m:=1) (nt:=20) (S:=r.plus H) (B:=C) (σ:=WX l) (env:=[(4,.z (ptr m 0)),(5,.Κ 0 1 0 0),(6,.Θ (YN f).cells)]) ?_ ⟨aA,aD,ax,by simp[WX]⟩ _ rfl;refine V.XO v rfl ?_;refine W.ZF ?_;simp only[Ii,f141,Option.getD_some,Yq];refine Y1 ?_;refine W.Zg (.stop ?_);refine V.defer v rfl rfl rfl rfl rfl rfl rfl ⟨_,func145,rfl,rfl⟩ λaM aN aO t3 d2 aP ak aJ aK M=>?_;obtain rfl:=TI (l:=[ptr m 0]) aK;rintro y rfl;refine V.here (x:=one _) (m:=1) (nt:=20) ?_ aJ _ rfl;refine V.XO v rfl ?_;refine W.ZF ?_;refine Z' λaQ aL=>?_;refine Ε.d (ao _) (Z6 ?_);apply aL;by_cases R:0<n
 .refine Α (by simp[R]) ?_;refine W.XV (A:=[19]) Ρ [] (WX (l++[YN f])) (.stop ?_) (by
   by_cases F:l=[]
   .subst F;(try simp);(repeat (rw[Ν];simp[WX,F9,Wy]));(try simp[WX,F9,Wy]);exact⟨rfl,rfl⟩
   ·(try simp);(repeat (rw[Ν];simp[WX,Il F,YZ F,Cl,QI]));(try simp[WX,Il F,YZ F,Cl,QI]);exact az)
  intro g p a t5 T X;refine ι.P9 v rfl rfl ?_;rintro y rfl;exact ai _ g p a _ d2 (by rw[Ql,Yc,<-I];simp[Z,R]) (ak.trans T) X.holds M rfl rfl rfl rfl
 .refine Ζ (by simp;omega) ?_;refine Y1 ?_;refine W.stop ?_;intro g p a t5 T X;refine ι.P9 v rfl rfl ?_;rintro y rfl;exact ai _ g p a _ d2 (by rw[Ql,Yc,<-I];simp[Z,R]) (ak.trans T) X.holds M rfl rfl rfl rfl
theorem Qy {S:μ} {B:Z8} {σ:Ο} {env env':ω} {t:Array Value} (h:YT S B σ env t) (a:∀p∈env',Z7 env p.1=p.2):YT S B σ env' t:=by
 induction env' with
 | nil=>exact λi=>.Zl _
 | cons p l b=>
  intro i;simp only[Z7];split
  .rename_i e;have:=a p I;rw[<-this,e];exact h i
  .exact b (λq c=>a q (by simp[c])) i
theorem ug (i:sp.ZO=some m) (j:sp.top<7) (K:sp.XQ=NW β XH o fd) (M:sp.D k Χ.empty) (O:∀c:ZX,@Ε c prog 143 [Yz Xy,Zj (a,b)] (YN f))
  (P:∀c:ZX,@Ε c prog 78 [YN f,J (-1)] (J n)) (Q:fd k=if 0<n then some f else none) (R:∀L:List Nat,L.Nodup->((L.filterMap fd).map YN).length<=4294967295)
  (T:∃q v,S β q=some v) (U:∀b q v,S b q=some v->XH b q≠none\/β<b) (X:Xv S [] [] (F8 s m o Xy a b) (Ij s m o v1 v2 MO)) {p:Value->Prop} :
  Goes prog p false (born prog ⟨.fn (.func 141) (Ij s m o v1 v2 MO),#[]⟩) {ZI (T2 s sp) s (.ch k .idle .work) none 0 with G:=TB S}:=by
 letI:ZX:=XU;have e:Seq (one (ZI (T2 s sp) s (.ch k .idle .work) none 0)):=Seq.O8 trivial rfl rfl;refine Quiet.goes (.cons ⟨rfl,rfl⟩ (λw=>uu ⟨_,func141,rfl,rfl⟩ w) (.nil _)) (.inl rfl) ⟨rfl,rfl⟩ ?_;show Zd prog p false (ZI (T2 s sp) s (.ch k .idle .work) none 0) (Frame.enter prog 141 (Ij s m o v1 v2 MO) .deferred) [under prog] (TB S);rw[SF (body:=Ii) func141 rfl];refine V.here (x:=one _) (m:=0) (nt:=20) (S:=S) (B:=[]) (σ:=[]) (env:=entry 0 (F8 s m o Xy a b)) ?_ (Xw.enter uA X (γ _) I) _ rfl;refine V.XO e rfl ?_;simp only[Ii,f141,Option.getD_some];refine Y1 ?_;refine W.Zg (.stop ?_);refine V.defer e rfl rfl rfl rfl rfl rfl rfl ⟨_,func142,rfl,rfl⟩ λap Y aq t3 d1 ar Z t aa ab=>?_;obtain rfl:=TI (l:=[ptr s 0]) aa;obtain rfl:Y=[]:=YL.1 t.holds.len;rintro y rfl;refine V.here (x:=one _) (m:=0) (nt:=20) ?_ t _ rfl;refine V.XO e rfl ?_;refine W.ZF ?_;refine Y1 ?_;refine Y4 (A:=[6]) Ρ λau ad=>Z6 ?_;refine Ε.d (O _) (Z6 ?_);apply ad;refine W.fix (id:=0) (σ':=[]) (χ _) rfl I I rfl [(4,.z (ptr m 0)),(5,.z (ptr o 0)),(6,.Θ (YN f).cells)] (by simp[entry]) ?_;refine Y1 ?_;refine W.Zg (.stop ?_);refine V.call e ⟨rfl,rfl,by simp[Frame.enter],rfl⟩ rfl rfl rfl ⟨_,func144,rfl,rfl⟩ λav ae aw t4 ax af g ag=>?_;obtain rfl:=TI (l:=[ptr m 0]) ag;obtain rfl:ae=[]:=YL.1 g.holds.len;rintro y rfl;refine vh (Cj i j) g.holds λah ai L E u aj ak al ⟨am,ay,an⟩=>?_;rw[VV rfl];have C:Ext S [] (TB S) ah [] ai:=Z.ext.trans (af.ext.trans u);obtain⟨ao,az,F⟩:=T;have H:∀b,¬Z8.has ([]:Z8) b:=λb ⟨N,h⟩=>by simp at h
 exact uh i j K M P Q aj ak al an (R L am) ((uw U).ext C (λb h=>absurd h (H b)) (Gb F)) (Cm C (H β) ⟨ao,_,Gb F⟩)
  (by
   refine YT.later (Qy (g.put (a:=.z (.tuple #[])) rfl (.z _)).Zm (by simp[Zt])) ⟨u.YO,λid r h=>by simp at h⟩) (g.put (a:=.z (.tuple #[])) rfl (.z _)).size ab
end
end Go.TL
namespace Go.TL
open Go.Proofs.Tryz
open Go.Conc Go.Proofs
variable [ZX]
noncomputable abbrev uf (vs:Array Value):Frame:=Frame.enter prog 126 vs .normal
abbrev Rj (L:Nat):Ω:=.fn (.yield L) [] []
structure ub (Q:Value->Prop) (mn:Bool) (x:W2) (cs:List Frame) (e:Frame) (o:Base) (L:Nat) (r:Loop) (n:Nat) (b d:Row) (Fnd:List (List Nat)->Prop):Prop where
 m:o.m=2
 ua:X6 2 b
 tZ:X6 2 d
 tY:r.params.size=1
 round:∀(l:List Nat) (rem:List (List Nat)),Fnd (l::rem)->l.length<=n->(∀x∈l,x<n)->∀(S:μ) (B:Z8) (H:Χ) (g:Array Value) (c:Frame),XX 2 o.S o.B o.H o.σ S B H [b,d,Yj l]->Holds S B [b,d,Yj l] H->¬B.has L->H.obj L=some (.loop r)->Xv S B [b,d,Yj l] [.ms 2 l.length 0 l.length] g->
  (Fnd rem->∀(f:μ) (B':Z8) (H':Χ),XX 2 o.S o.B o.H o.σ f B' H' [b,d,Yj l]->Zx S f B B' [b,d,Yj l] [b,d,Yj l]->Holds f B' [b,d,Yj l] H'->¬B'.has L->H'.obj L=some (.loop r)->ι prog Q mn x (c.finish (.bool true)) (e::cs) H')->
  (∀H',(∀(i:μ) (h:Χ),Ext Xz [] H' i [] h->ι prog Q mn x (e.finish (.tuple #[])) cs h)->ι prog Q mn x (c.finish (.bool false)) (e::cs) H')->
  ι prog Q mn x (Frame.round L r.fn ((r.params.zip g).foldl (λj (t,a)=>j.setIfInBounds t a) r.tmps) r.assign r.body .normal) (c::e::cs) H
 done:Fnd []->∀(S:μ) (B:Z8) (H:Χ),XX 2 o.S o.B o.H o.σ S B H [b,d]->Holds S B [b,d] H->¬B.has L->H.obj L=some (.loop r)->ι prog Q mn x (e.finish (.tuple #[])) cs H
def Qx (c i:Nat):List Int:=(List.range i).map (λj:Nat=>(j:Int))++List.replicate (c-i) 0
theorem tX {c i:Nat} (h:i<c):(Qx c i).set i (i:Int)=Qx c (i+1):=by
 unfold Qx;have a:((List.range i).map λj:Nat=>(j:Int)).length=i:=I;have Φ:c-i=(c-(i+1))+1:=U;rw[Pz _ _ U,a,Q5,Φ,List.replicate_succ,List.set_cons_zero,V0,Yc];simp
theorem tW {c i:Nat} (h:i<=c):(Qx c i).length=c:=by simp[Qx];omega
theorem tV (c:Nat):(Qx c c).map J=(List.range c).map λn:Nat=>J n:=by simp[Qx]
section
variable {Q:Value->Prop} {mn:Bool} {x:W2} {cs:List Frame} {Ci:Frame} {o:Base} {L:Nat} {r:Loop} {n:Nat} {Qw Qv:Row} {Fnd:List (List Nat)->Prop} {vs:Array Value}
theorem Ch (v:Seq x) (bi:n<=12) (y:ub Q mn x cs Ci o L r n Qw Qv Fnd) (aA:Fnd (V2 n 0)) :
  PJ prog Q mn x (uf vs) (Ci::cs) 72 o L r [.code (f126.body.getD .skip)] (entry 0 [Rj L,.Θ [J n]]) [Qw,Qv]:=by
 have D:=y.m;refine PJ.XO v rfl ?_;simp only[f126,Option.getD_some];have ag:=X5 (show n<13 by omega) U;refine Γ ag ?_;refine W.iter (λc:Nat=>c<=n+1/\Fnd (V2 n c)) (λc=>[(0,Rj L),(1,.Θ [J n]),(9,J ((n:Int)+1)),(10,J c)]) (λ_=>[Qw,Qv]) (λc=>n+1-c) 0 ⟨χ _,aA⟩ rfl (by simp[entry,ag]) (λc aB aC=>?_);obtain⟨bj,T⟩:=aB;refine Τ ?_;by_cases K:c<n+1
 .refine Α (by simp;omega) ?_;refine Τ ?_;have bk:(0:Int)<=c:=U;have aD:(8:Int)*c<=281474976710656:=U;refine Y4 (A:=[14]) Ρ λbl aE=>Z6 ?_;simp[aD];(repeat (rw[Ν];simp));apply aE;refine Τ ?_;refine W.iter (λi:Nat=>i<=c) (λi=>[(0,Rj L),(1,.Θ [J n]),(9,J ((n:Int)+1)),(10,J c),(3,J c),(4,.ms 2 c 0 c),(16,J c),(17,J i)]) (λi=>[Qw,Qv,.cells 3 1 ((Qx c i).map J)]) (λi=>c-i) 0 (χ _) (by simp[Qx]) I (λi hi aF=>?_);refine Τ ?_;by_cases C:i<c
  .refine Α (by simp[C]) ?_;have ah:=X5 C (show c<2 ^ 62 by omega);have ai:=tW (Sr C);have aj:=tX C;obtain⟨G,aG⟩:=Η (Qx c i);rw[<-aG] at ai aj ⊢;have aH:i<G.length:=U;refine Γ (Υ ai (Υ C (Υ aH ah))) ?_;refine W.to (aF (i+1) C U) ?_ ?_
   .rw[<-aj];simp
   .simp[ah]
  .have aI:i=c:=U
   subst aI;refine Ζ I ?_;refine W.exit rfl ?_;rw[tV]
   repeat apply Ξ
   refine W.iter (λx:Nat×List Nat=>Ro n x.1 x.2=true/\x.2.length=i/\Fnd (S6 n x.1 x.2++V2 n (i+1))) (λ_=>[(0,Rj L),(1,.Θ [J n]),(9,J ((n:Int)+1)),(10,J i),(3,J i),(4,.ms 2 i 0 i)]) (λx=>[Qw,Qv,Yj x.2]) (λx=>x.1) (1000,List.range i)
    ⟨vW n U i K,I,by rw[<-CW K];exact T⟩ rfl I (λx v aJ=>?_)
   obtain⟨g,l⟩:=x;obtain⟨X,f,Y⟩:=v;simp only at X f Y ⊢
   repeat apply Ξ
   refine W.Zg ?_;refine Xu [0,1] [2,3] ?_;refine W.stop ?_;obtain⟨w,aK,ak⟩:∃w,S6 n g l++V2 n (i+1)=l::w/\((Rp n l=none/\w=V2 n (i+1))\/∃a b,Rp n l=some a/\g=b+1/\w=S6 n b a++V2 n (i+1)/\Ro n b a=true):=by
    cases al:Rp n l with
    | none=>exact⟨V2 n (i+1),by rw[vT al];rfl,.inl ⟨rfl,rfl⟩⟩
    | some a=>
     obtain⟨b,E,Φ,aL⟩:=vS X al;exact⟨S6 n b a++V2 n (i+1),by rw[Φ];rfl,.inr ⟨a,b,rfl,E,rfl,aL⟩⟩
   rw[aK] at Y;have am:=vU X;refine PJ.yield v ⟨rfl,rfl,by simp[Frame.enter],rfl⟩ rfl rfl rfl y.tY.symm λS B H t aM M s Z aa hv=>?_;refine y.round l w Y U am S B H aM _ (by rw[<-D];exact M) s.holds Z aa (by rw[f];exact hv) (λab an B' H' aN aO aP aQ aR=>?_) (λH' aS=>?_)
   .rw[VV rfl];have ad:YT an B' [Qw,Qv,Yj l] [(27,.z (.bool true)),(0,Rj L),(1,.Θ [J n]),(9,J ((n:Int)+1)),(10,J i),(3,J i),(4,.ms 2 i 0 i)] (t.setIfInBounds 27 (.bool true)):=Qy (YT.put (s.Zm.later aO) (d:=27) (by rw[s.size];omega) (.z _)) I;refine(PJ.XO (env:=[(27,.z (.bool true)),(0,Rj L),(1,.Θ [J n]),(9,J ((n:Int)+1)),(10,J i),(3,J i),(4,.ms 2 i 0 i)]) (σ:=[Qw,Qv,Yj l]) (o:=o) (L:=L) (r:=r) (nt:=72) v rfl ?_) an B' H' _ (by rw[D];exact aN) ⟨aP,ad,Xx (TX ..) s.size,by rw[D];simp⟩ aQ aR;refine Xu [3] [] ?_;refine W.ZF ?_;refine Ζ rfl ?_;have ao:IntKind.i64.wrap ((i:Int)-1)=(i:Int)-1:=IntWalk.i64_in _ U;refine Γ ao ?_;refine W.iter (λe:Nat=>e<=i/\Rq n l i=Rq n l e) (λe=>[(0,Rj L),(1,.Θ [J n]),(9,J ((n:Int)+1)),(10,J i),(3,J i),(4,.ms 2 i 0 i),(6,J ((e:Int)-1))]) (λ_=>[Qw,Qv,Yj l]) (λe=>e) i ⟨γ _,rfl⟩ rfl (by simp[ao]) (λe aT aU=>?_);obtain⟨bm,ap⟩:=aT
    repeat apply Ξ
    have aq:=X5 K (show n+1<2 ^ 62 by omega)
    have ae:Rp n l=(Rq n l e).map λq=>TH l q (l.length-q):=by unfold Rp;rw[f,ap]
    cases e with
    | zero=>
     have aV:w=V2 n (i+1):=by
      rcases ak with⟨_,h⟩|⟨a,b,h,_⟩
      .exact h
      .rw[ae] at h;simp[Rq] at h
     rw[aV] at ab;refine Pj ?_;refine Ζ rfl ?_;refine W.exit rfl ?_;refine Τ ?_;refine Α rfl ?_;refine W.exit rfl ?_;refine W.drop (h:=2) (σ':=[Qw,Qv]) (by rw[D];exact γ _) I (λid q aW u=>by
      match id,aW,u with
      | 0,_,u=>simp at u;subst u;exact y.ua
      | 1,_,u=>simp at u;subst u;exact y.tZ) rfl [(0,Rj L),(1,.Θ [J n]),(9,J ((n:Int)+1)),(10,J i)] (by simp[Va]) ?_
     refine Γ aq ?_;refine W.to (aC (i+1) ⟨K,ab⟩ U) rfl ?_;simp[aq]
    | succ e=>
     have F:e<l.length:=U
     have bn:=am _ (YF F)
     have N:l.getD e 0=l[e]:=by simp[Xr,F]
     have aX:IntKind.i64.wrap ((n:Int)-i)=(n:Int)-i:=IntWalk.i64_in _ U
     have aY:IntKind.i64.wrap ((n:Int)-i+e)=(n:Int)-i+e:=IntWalk.i64_in _ U
     have ar:IntKind.i64.wrap ((e:Int)-1)=(e:Int)-1:=IntWalk.i64_in _ U
     have au:e<i:=U
     have aZ:((e+1:Nat):Int)-1=e:=U;rw[aZ];refine XI (Υ F (Υ au (Υ f (Υ aX aY)))) ?_;by_cases u:l[e]+i=n+e
     .have O:Rq n l (e+1)=Rq n l e:=by rw[Rq,if_pos (by rw[N,f];exact u)]
      refine Α (by simp;omega) ?_;refine Γ ar ?_;refine W.to (aU e ⟨U,by rw[ap,O]⟩ U) rfl ?_;simp[ar]
     .have O:Rq n l (e+1)=some e:=by rw[Rq,if_neg (by rw[N,f];exact u)]
      refine Ζ (by simp;omega) ?_;refine W.exit rfl ?_;refine Τ ?_;refine Ζ I ?_;obtain⟨a,b,af,bo,a0,a1⟩:∃a b,Rp n l=some a/\g=b+1/\w=S6 n b a++V2 n (i+1)/\Ro n b a=true:=by
       rcases ak with⟨h,_⟩|h
       .rw[ae,O] at h;cases h
       .exact h
      have av:a=TH l e (i-e):=by
       rw[ae,O] at af;simp at af;rw[<-af,f]
      have a2:IntKind.i64.wrap ((l[e]:Int)+1)=(l[e]:Int)+1:=IntWalk.i64_in _ U
      have aw:IntKind.i64.wrap ((e:Int)+1)=(e:Int)+1:=IntWalk.i64_in _ U;refine Γ (Υ F (Υ au (Υ f (Υ a2 aw)))) ?_;refine W.iter (λp:Nat=>e+1<=p/\p<=i) (λp=>[(0,Rj L),(1,.Θ [J n]),(9,J ((n:Int)+1)),(10,J i),(3,J i),(4,.ms 2 i 0 i),(7,J p)]) (λp=>[Qw,Qv,Yj (TH l e (p-e))]) (λp=>i-p) (e+1) ⟨γ _,U⟩ (by
       have:e+1-e=1:=U;rw[this,vR F];simp) (by simp[aw]) (λp s a3=>?_)
      obtain⟨bp,bq⟩:=s;refine Τ ?_;by_cases ax:p<i
      .refine Α (by simp[ax]) ?_;obtain⟨q,br⟩:=Η (p-1);obtain⟨R,P⟩:=Η (TH l e (p-e));have a4:R.length=i:=by rw[P,CV U,f]
       have ay:q<R.length:=U
       have a5:p<R.length:=U
       have a6:q<i:=U
       have a7:R[q]=l[e]+(p-e):=by
        have:=vQ (l:=l) (i:=e) (k:=p-e) U U
        have E:e+(p-e)-1=q:=U;rw[E,<-P,N] at this;simpa[Xr,ay] using this
       have a8:R.set p (R[q]+1)=TH l e (p+1-e):=by
        have:=vP (l:=l) (i:=e) (k:=p-e) U
        have E:e+(p-e)=p:=U
        have Φ:p-e+1=p+1-e:=U;rw[E,Φ,<-P,N,<-a7] at this;exact this
       have bs:R[q]<100:=U
       have a9:IntKind.i64.wrap ((p:Int)-1)=(q:Int):=by rw[IntWalk.i64_in _ U];omega
       have a':IntKind.i64.wrap ((R[q]:Int)+1)=(R[q]:Int)+1:=IntWalk.i64_in _ U
       have az:IntKind.i64.wrap ((p:Int)+1)=(p:Int)+1:=IntWalk.i64_in _ U;rw[<-P];refine Γ (Υ a9 (Υ ay (Υ a5 (Υ a6 (Υ ax (Υ a4 (Υ a' az))))))) ?_;refine W.to (a3 (p+1) ⟨U,U⟩ U) ?_ ?_
       .rw[<-a8];simp
       .simp[az]
      .have ba:p=i:=U
       subst ba;refine Ζ I ?_;refine W.exit rfl ?_
       repeat apply Ξ
       refine W.to (aJ (b,a) ⟨a1,by rw[av,CV U,f],by rw[<-a0];exact ab⟩ (by show b<g;omega)) (by rw[av]) ?_;simp
   .rw[VV rfl];have ad:YT Xz [] [] [(27,.z (.bool false))] (t.setIfInBounds 27 (.bool false)):=λj=>by
     simp only[Z7];split
     .rename_i e;subst e;have:(t.setIfInBounds 27 (Value.bool false)).getD 27 undef=.bool false:=by
       have bb:27<t.size:=by rw[s.size];omega
       simp[WG,bb]
      rw[this];exact .z _
     .exact .Zl _
    refine V.here (m:=0) (nt:=72) (S:=Xz) (B:=[]) (σ:=[]) (env:=[(27,.z (.bool false))]) ?_ ⟨MT H',ad,Xx (TX ..) s.size,χ _⟩;refine V.XO v rfl ?_;refine Xu [3] [] ?_;refine W.ZF ?_;refine Α rfl ?_;refine W.stop ?_;refine V.Gz v rfl rfl rfl rfl func126 rfl λbc bd be bf bg=>?_;obtain rfl:bd=[]:=YL.1 bg.len;exact aS bc be bf.ext
 .have bh:c=n+1:=U
  subst bh;refine Ζ I ?_;refine W.exit rfl ?_;refine W.stop ?_;intro S B H t M s Z aa;rw[vV] at T;refine ι.P9 v rfl rfl (ι.back v rfl rfl (.inl rfl) func126 ?_);rw[results_none rfl];rw[D] at M;exact Ψ.pure' (y.done T S B H M s.holds Z aa)
end
theorem Cg (n:Nat):Ε prog 83 [J n] (.fn (.func 126) [] [.Θ [J n]]):=by
 refine Μ.body Ρ func83 rfl rfl ntmps83 rfl rfl I ?_;refine Τ ?_;refine W.rt ?_;exact .refl _
theorem Ext.Ih {S:μ} {B:Z8} {H:Χ} {r:Nat} {y:Obj} (a:H.fresh r):Ext S B H S B (H.ZU r y):=
 ⟨λ_ _ _ h=>h,λb _ c=>by
  have:b≠r:=λe=>c (e▸a);exact Tf.of ⟨λ_=>rfl,rfl,by simp[Χ.ZU,this]⟩,λb h=>.inl h,λb o v h=>.inl h,Χ.Hq⟩
theorem Holds.Ig {S:μ} {B:Z8} {σ:Ο} {H:Χ} (c:Holds S B σ H) (f:∀r∈σ,NX r) {b:Nat} (g:H.fresh b):¬B.has b:=λ⟨N,h⟩=>by
 obtain⟨id,d⟩:=St h;have i:id<σ.length:=by rw[<-c.len];exact(ZA.1 d).1
 have a:=δ i;obtain⟨t,k,l,e⟩:=f _ (Zi a);rw[e] at a;exact c.SP a trivial d g
def S3 (s:ψ) (F:List Found) (cell:Int) (lower:Bool):List Int×Int:=
 if(Xp s cell F).2.2≠0 then([],(Xp s cell F).2.2)
 else match (V2 s.Δ.length 0).find? (Ru s F cell.toNat lower) with
 | some l=>(l.map λn:Nat=>(n:Int),0)
 | none=>([],11)
abbrev SA:Row:=.cells 29 1 [.sl true 0 []]
abbrev Sz:Row:=.cells 38 1 [J 0]
abbrev MN (s:ψ) (F:List Found) (cell:Int) (lower:Bool):ω:=[(3,.Θ [ν s.Ι,ξ s.Δ,Z2 s.cells]),(4,.Θ [J cell]),(5,.Θ [Z4 lower]),(6,.Κ 0 1 0 0),(7,.Κ 1 1 0 0),(8,.Θ [ν s.Ι,ξ s.Δ,Z2 s.cells]),(9,.Θ [Zb F])]
section
variable {Q:Value->Prop} {mn:Bool} {x:W2} {c:Frame} {rest:List Frame} {O1 S:μ} {B:Z8} {Rk H:Χ} {σ:Ο} {res:List Int×Int} {l:List Int} {MM:Int} {e:Bool} {kk:Nat} {b:Frame} {t:Array Value} {k:List Item} {env:ω}
theorem Cf (n:Seq x) (p:Pm prog Q mn x c rest O1 [] Rk [] (λa s=>Zh a (.ZW [Z9 J 1 res.1,J res.2])/\s=[]) (λ_ _=>False)) (t:b.fn=28) (u:b.kind=.normal) (w:b.defers=[]) (y:b.mode=.returning)
  (A:Ext O1 [] Rk S B H) (C:Holds S B σ H) (D:YT S B σ env b.tmps) (E:Z7 env 6=.Κ 0 1 0 0) (F:Z7 env 7=.Κ 1 1 0 0) (K:σ[0]?=some (.cells 29 1 [.sl e kk (l.map J)])) (L:σ[1]?=some (.cells 38 1 [J MM])) (M:res=(l,MM)) (N:l≠[]->kk=1):ι prog Q mn x b (c::rest) H:=by
 subst M;refine ι.back n y w (.inl u) (fn:=f28) (by rw[t];exact func28) ?_;refine Ψ.mono (λv f ⟨g,i,O,W,P,R⟩=>?_) (λ_ _ h=>h) _ (LN Ρ (a:=.ZW [.sl e kk (l.map J),J MM]) (show SJ ZS [.cell 6 29,.cell 7 38] env σ=some (.ZW [.sl e kk (l.map J),J MM]) by simp[SJ,QM,Nd,E,F,K,L,PZ,V5.agg,LO]) C D);obtain⟨j,d⟩:=P.close (h:=0) (λid r X=>U);simp only[List.take_zero] at j d;have T:π (g.close i σ f 0) [] [] (.ZW [.sl e kk (l.map J),J MM]) v:=by
  have V:ς 0 (.ZW [.sl e kk (l.map J),J MM]):=I
  have:=(R.later (Zx.refl g i σ)).any V [] [];exact this.later ⟨λb o v hv=>d.YO _ _ _ hv,λid r h=>by simp at h⟩
 have k:=A.trans (O.trans d);refine p.ret _ [] _ [] f v ⟨?_,rfl⟩ k ⟨k.YO,λid r h=>by simp at h⟩ j T;refine .ZW (.cons ?_ (.cons (.refl _) .nil));by_cases m:l=[]
 .subst m;exact .nil
 .rw[N m];exact .ex
end
noncomputable abbrev F7 (vs:Array Value):Frame:=Frame.enter prog 28 vs .normal
theorem F6 {s:ψ} {F:List Found} {cell:Int} (h:(Xp s cell F).2.2=0):0<=cell/\cell<s.cells.length/\Xp s cell F=(s,F,0):=by
 unfold Xp at h ⊢;split at h
 .rename_i a;simp at h;exact absurd h a
 .split at h
  .simp at h
  .rename_i a b;rw[if_neg a,if_neg b];refine⟨U,U,?_⟩;unfold Yr at h ⊢;rw[if_neg a] at h ⊢;split at h
   .simp at h
   .rename_i c;rw[if_neg c]
section
variable {Q:Value->Prop} {mn:Bool} {c:Frame} {rest:List Frame}
theorem F5 (s:ψ) (aL:s.small) (F:List Found) (a8:S9 s F) (a9:Lr s F) (cell:Int) (lower:Bool) (aM:s.Δ.length<=4) :
  Ε prog 28 [Yz s,J cell,Z4 lower] (.ZW [Z9 J 1 (S3 s F cell lower).1,J (S3 s F cell lower).2]):=by
 refine⟨⟨_,func28,rfl,rfl⟩,λQ mn x c rest ai a' T vs j aN ba aj=>?_⟩;obtain rfl:a'=[]:=YL.1 aN.len;rw[SF (body:=f28.body.getD .skip) func28 rfl];refine V.here (x:=x) (m:=0) (nt:=35) (S:=ai) (B:=[]) (H:=T) (σ:=[]) (env:=entry 0 [Yz s,J cell,Z4 lower]) ?_ (Xw.enter aN ba (γ _) I);refine V.XO j rfl ?_;simp only[f28,Option.getD_some]
 repeat apply Ξ
 refine Y4 (A:=[6,7]) Ρ λak C=>Z6 ?_;apply C;refine Y1 ?_;refine Y4 (A:=[8,9]) Ρ λak C=>Z6 ?_;refine Ε.d (GJ s aL cell F a8) (Z6 ?_);apply C;by_cases b:(Xp s cell F).2.2=0
 case neg=>
  have e:S3 s F cell lower=([],(Xp s cell F).2.2):=by unfold S3;rw[if_pos b]
  rw[e] at aj;generalize (Xp s cell F).2.2=al at b aj ⊢;refine Τ ?_;refine Α (by simp[b]) ?_;refine Τ ?_;refine W.stop ?_;intro X Y Z t5 w D;refine ι.ret j rfl rfl ?_;exact Cf j aj rfl rfl rfl rfl w.ext D.holds D.Zm rfl rfl rfl rfl rfl (λh=>absurd rfl h)
 obtain⟨bX,bY,e⟩:=F6 b;obtain⟨n,rfl⟩:∃n:Nat,cell=n:=⟨cell.toNat,U⟩;have bb:n<s.cells.length:=U;have Φ:S3 s F n lower=match (V2 s.Δ.length 0).find? (Ru s F n lower) with|some l=>(l.map λn:Nat=>(n:Int),0)|none=>([],11):=by
  unfold S3;rw[if_neg (by simpa using b)];rfl
 rw[e];refine W.fix (id:=3) (σ':=[SA,Sz,.cells 98 3 [Yz s]]) (χ _) rfl I (λid q aA g=>by
  match id,aA,g with
  | 0,_,g=>simp at g;subst g;simp[X6,Ω.cells]
  | 1,_,g=>simp at g;subst g;simp[X6,Ω.cells]
  | 2,_,g=>simp at g;subst g;simp[X6,Ω.cells]) rfl [(3,.Θ [ν s.Ι,ξ s.Δ,Z2 s.cells]),(4,.Θ [J n]),(5,.Θ [Z4 lower]),(6,.Κ 0 1 0 0),(7,.Κ 1 1 0 0),(8,.Κ 2 1 0 0),(9,.Θ [Zb F]),(10,J 0)] (by simp[WV]) ?_
 refine W.fix (id:=2) (σ':=[SA,Sz]) (χ _) rfl I (λid q aA g=>by
  match id,aA,g with
  | 0,_,g=>simp at g;subst g;simp[X6,Ω.cells]
  | 1,_,g=>simp at g;subst g;simp[X6,Ω.cells]) rfl ((10,J 0)::MN s F n lower) (by simp[WV]) ?_
 refine Τ ?_;refine Ζ rfl ?_;refine Τ ?_;refine Z' λak C=>?_;refine Ε.d (Cg s.Δ.length) (Z6 ?_);apply C
 repeat apply Ξ
 refine W.forget ((25,.fn (.func 126) [] [.Θ [J s.Δ.length]])::MN s F n lower) I ?_;refine W.stop ?_;intro O E am t1 an K;have aO:∀r∈[SA,Sz],NX r:=λr aP=>by
  simp only[Y6,Ya,or_false] at aP;rcases aP with rfl|rfl<;>exact⟨_,_,_,rfl⟩
 have aB:=K.Zm 25;simp only[Z7,if_true] at aB;obtain⟨bZ,aQ⟩:=Η (t1.getD 25 undef);rw[<-aQ] at aB;cases aB with
 | fn w1 bc bd be b0 bf=>
 have bg:w1=#[]:=Mo (by rw[<-bd];rfl);subst bg;refine ι.rangeFunc j rfl rfl (fo:=.tmp 25) aQ.symm ⟨_,func126,rfl,rfl⟩ λp L ab P=>?_;have aC:¬E.has p:=K.holds.Ig aO ab;have ao:=K.holds.ZU (y:=.deferred (some [])) aC;have ap:Ext O E am O E (am.ZU p (.deferred (some []))):=Ext.Ih ab;have ad:(am.ZU p (.deferred (some []))).obj p=some (.deferred (some [])):=by simp[Χ.ZU]
 have bh:T.fresh p:=an.ext.grow _ ab
 have aq:T.fresh L:=an.ext.grow _ (ap.grow _ P);generalize b1:am.ZU p (.deferred (some []))=aR at P ao ap ad;have ar:p≠L:=λe=>by rw[e,P.2.2.1] at ad;cases ad
 have aS:¬E.has L:=ao.Ig aO P
 have aT:∀(S:μ) (B:Z8) (H:Χ) (σ:Ο),XX 2 O E aR [SA,Sz] S B H σ->Zx O S E B [SA,Sz] σ:=λS B H σ u=>u.all ao I
 have aU:∀(M:Frame) (S:μ) (B:Z8) (H:Χ) (σ:Ο) (env:ω) (l:List Int) (al:Int) (e:Bool) (kk:Nat),M.fn=28->M.kind=.normal->M.mode=.returning->M.defers=[⟨.collected p,#[]⟩]->Ext ai [] T S B H->Holds S B σ H->¬B.has p->H.obj p=some (.deferred (some []))->
   YT S B σ env M.tmps->Z7 env 6=.Κ 0 1 0 0->Z7 env 7=.Κ 1 1 0 0->σ[0]?=some (.cells 29 1 [.sl e kk (l.map J)])->σ[1]?=some (.cells 38 1 [J al])->S3 s F n lower=(l,al)->(l≠[]->kk=1)->ι prog Q mn x M (c::rest) H:=
  λM S B H σ env l al e kk R N aV bi bj bk bl aW bm bn bo bp bq br bs=>by
  refine ι.collected j aV bi aW ?_;exact Cf j aj (b:={M with defers:=[]}) R N rfl aV (bj.ZU bh ⟨_,aW⟩) (bk.ZU bl) bm bn bo bp bq br bs
 rw[SF (body:=f126.body.getD .skip) func126 rfl];have bt:Xv O E [SA,Sz] ([Rj L]++[.Θ [J s.Δ.length]]) (#[.func (.yield L) #[] #[]]++bc):=by
  refine Xv.append ⟨rfl,λi a v R N=>?_⟩ ⟨be,bf⟩
  match i with
  | 0=>simp at R N;subst R;subst N;exact .fn #[] #[] rfl rfl (λi a v hi=>by simp at hi) (λi a v hi=>by simp at hi)
  | i+1=>simp at R
 refine Ch (o:=⟨O,E,aR,[SA,Sz],2⟩) (L:=L) (Fnd:=λaX=>(V2 s.Δ.length 0).find? (Ru s F n lower)=aX.find? (Ru s F n lower)) j (X' aM ZY) ?_ rfl O E _ _ (XX.of (Ext.Ih P) (Zx.refl ..)) (Xw.enter (ao.ZU aS) bt (γ _) I) aS (by simp[Χ.ZU];rfl);refine⟨rfl,by simp[X6,Ω.cells],by simp[X6,Ω.cells],rfl,λl aX au bu bv S B H aY b2 u av aD aw hv bw bx=>?_,λau S B H u av aD aw=>?_⟩
 .obtain⟨aE,aF⟩:=Vy u.ext aC ad;have bz:=aT _ _ _ _ u;have ax:=K.Zm.later bz;have bA:Ext ai [] T S B H:=an.ext.trans (ap.trans u.ext);obtain⟨w0,rfl⟩:∃w0,aY=#[w0]:=by
   have ab:=hv.1;clear hv;obtain⟨bB⟩:=aY
   match bB,ab with
   | [w0],_=>exact⟨w0,rfl⟩
  have bC:((#[26]:Array Tmp).zip #[w0]).foldl (λaG (t,a)=>aG.setIfInBounds t a) t1=t1.setIfInBounds 26 w0:=I;change ι prog Q mn x (Frame.round L 28 (((#[26]:Array Tmp).zip #[w0]).foldl (λaG (t,a)=>aG.setIfInBounds t a) t1) _ _ .normal) _ _;rw[bC];have bD:π S B [SA,Sz,Yj l] (.ms 2 l.length 0 l.length) w0:=hv.2 0 _ _ rfl rfl;have bE:l.length<2 ^ 30:=U;have bF:YT S B [SA,Sz,Yj l] ((26,.ms 2 l.length 0 l.length)::MN s F n lower) (t1.setIfInBounds 26 w0):=Qy (YT.put ax (d:=26) (by rw[K.size];omega) bD) I;refine V.here (b:=Frame.round L 28 t1 .skip .skip .normal) (t:=t1.setIfInBounds 26 w0) (m:=3) (nt:=35) (S:=S) (B:=B) (H:=H) (σ:=[SA,Sz,Yj l]) (env:=(26,.ms 2 l.length 0 l.length)::MN s F n lower) ?_ ⟨av,bF,Xx (TX ..) K.size,γ _⟩;refine V.XO j rfl ?_;refine Τ ?_;refine W.stop ?_;intro bG bH aH t3 ae aa;obtain⟨af,aI⟩:=Vy ae.ext aD aw;obtain⟨bI,bJ⟩:=Vy ae.ext aE aF;refine ι.beginRound j rfl rfl aI rfl ?_;refine V.here (b:=Frame.round L 28 t1 .skip .skip .normal) (m:=3) (nt:=35) ?_ ⟨aa.holds.ZU af,aa.Zm,aa.size,aa.rows⟩;refine V.XO j rfl ?_;refine Z' λak C=>?_;have aZ:ς 0 (Yz s):=I;have a0:ς 0 (Zb F):=I;have ay:V9 (Yj l):=SH (f:=λn:Nat=>J n) λx=>by simp[Ω.cells]
  refine Μ.one (as0:=[Yz s,Zb F,J n,Z4 lower,.ms 0 l.length 0 l.length]) (we s aL F a9 n bb lower l (X' bu aM) bv) 2 rfl ay ay (λa u=>by
   simp only[Y6,Ya,or_false] at u;rcases u with rfl|rfl|rfl|rfl|rfl
   .exact aZ.Wh 1
   .exact a0.Wh 1
   .exact(ς.z _).Wh 1
   .exact(ς.z _).Wh 1
   .exact UG.2 U) ((ς.z _).Wh 1) (by simp[UF,TN,aZ.Yx [2],a0.Yx [2]]) ?_
  simp[TN];(repeat (rw[Ν];simp));apply C;have aJ:Zx S bG B bH [SA,Sz,Yj l] [SA,Sz,Yj l]:=ae.all av (γ _);have bK:=λy=>(u.ext.trans ae.ext).ZU P (y:=y) ⟨_,aI⟩;have bL:=λy=>(bA.trans ae.ext).ZU aq (y:=y) ⟨_,aI⟩;cases a1:Ru s F n lower l
  .refine Ζ rfl ?_
   repeat apply Ξ
   refine W.stop ?_;intro X Y Z t5 w D;obtain⟨ag,ah⟩:=Vy w.ext af (show(aH.ZU L _).obj L=some (.loop _) by simp[Χ.ZU];rfl);have az:=w.all (aa.holds.ZU af) (γ _);refine ι.endRound j rfl rfl rfl ah (jump:=none) (.inl ⟨rfl,rfl⟩) (bw (by rw[au,List.find?_cons,a1]) X Y _ ⟨((bK _).trans w.ext).ZU P ⟨_,ah⟩,?_⟩ (aJ.trans az) (D.holds.ZU ag) ag (by simp[Χ.ZU]));exact u.later.trans (aJ.trans az)
  .refine Α rfl ?_;obtain⟨z,aK⟩:=Η (l.map λn:Nat=>(n:Int));have bM:Yj l=.cells 3 1 (z.map J):=by rw[aK,Sq];rfl
   have a2:z.length=l.length:=by rw[aK,Yp]
   have a3:=wu z (by rw[a2];exact bE);rw[a2,<-bM] at a3;have a4:∀(e:Bool) (k:Nat),ς 0 (.sl e k (z.map J)):=λe k=>I;refine Z' λak C=>?_;refine Μ.I1 (as0:=[.ms 0 l.length 0 l.length]) a3 2 rfl ay (by simp[UG]) (by simp[UF]) (λa b3 bN=>?_);obtain⟨⟨e,kk,rfl,bO⟩,rfl⟩:=bN;refine⟨Yj l,rfl,ay,(a4 e kk).Wh 1,?_⟩;rw[(a4 e kk).Yx [2]];simp;(repeat (rw[Ν];simp));apply C;refine W.stop ?_;intro X Y Z t5 w D;obtain⟨ag,ah⟩:=Vy w.ext af (show(aH.ZU L _).obj L=some (.loop _) by simp[Χ.ZU];rfl);obtain⟨a5,bP⟩:=Vy w.ext bI (show(aH.ZU L _).obj p=some (.deferred (some [])) by simp[Χ.ZU,ar,bJ]);have az:=w.all (aa.holds.ZU af) (γ _);refine ι.endRound j rfl rfl rfl ah (jump:=some .ret) (.inr (.inl ⟨rfl,_,rfl⟩)) (bx _ λb4 b5 a6=>?_);obtain⟨R,N⟩:=(D.holds.ZU (y:=.loop _) ag).RG (λb bQ=>a6.RG bQ) a6.grow;obtain⟨bR,a7⟩:=Vy N ag (show(Z.ZU L _).obj L=some (.loop _) by simp[Χ.ZU];rfl);obtain⟨_,bS⟩:=Vy N a5 (show(Z.ZU L _).obj p=some (.deferred (some [])) by simp[Χ.ZU,ar,bP]);refine ι.IN (b:={F7 vs with defers:=[⟨.collected p,#[]⟩]}) (t:=t1) j rfl a7 I ?_;refine ι.ret (b:={F7 vs with defers:=[⟨.collected p,#[]⟩]}) j rfl rfl ?_;refine aU _ X Y _ _ (MN s F n lower) z 0 e kk rfl rfl rfl rfl ((((((bL _).trans w.ext).ZU aq ⟨_,ah⟩)).trans N).ZU aq ⟨_,a7⟩) (R.ZU bR) a5 (by simp[Χ.ZU,ar,bS]) (Qy ((ax.later (aJ.trans az))) I) rfl rfl rfl rfl ?_ bO;rw[Φ,au,List.find?_cons,a1,aK]
 .obtain⟨aE,aF⟩:=Vy u.ext aC ad;have ax:=K.Zm.later (aT _ _ _ _ u);have bT:Ext ai [] T S B H:=an.ext.trans (ap.trans u.ext);refine ι.IN (b:={F7 vs with defers:=[⟨.collected p,#[]⟩]}) (t:=t1) j rfl aw I ?_;refine V.here (m:=0) (nt:=35) (S:=S) (B:=B) (σ:=[SA,Sz]) (env:=MN s F n lower) ?_ ⟨av.ZU aD,Qy ax I,K.size,χ _⟩;refine V.XO j rfl ?_;simp only[Option.map_none,Option.toList_none,List.nil_append];refine Τ ?_;refine W.stop ?_;intro X Y Z t5 w D;have bU:∀y,(H.ZU L y).obj p=some (.deferred (some [])):=λy=>by simp[Χ.ZU,ar,aF]
  obtain⟨bV,bW⟩:=Vy w.ext aE (bU _);refine ι.ret j rfl rfl ?_;refine aU _ X Y Z _ _ [] 11 true 0 rfl rfl rfl rfl ((bT.ZU aq ⟨_,aw⟩).trans w.ext) D.holds bV bW D.Zm rfl rfl rfl rfl ?_ (λh=>absurd rfl h);rw[Φ,au];rfl
end
end Go.TL
namespace Go.TL
open Go.Proofs.Tryz
open Go.Proofs
variable [ZX]
def Xt:ψ:=⟨[⟨⟨#[98]⟩,9⟩,⟨⟨#[99]⟩,4⟩,⟨⟨#[100]⟩,6⟩,⟨⟨#[105]⟩,48⟩,⟨⟨#[111]⟩,12⟩],[[1,2],[0],[0,1,2]],[[⟨0,4,59⟩,⟨1,8,3⟩],[⟨0,0,63⟩,⟨1,4,8⟩]]⟩
theorem K9:Ε prog 72 [] (Yz Xt):=by
 refine Μ.body Ρ func72 rfl rfl ntmps72 rfl rfl I ?_
 repeat apply Ξ
 refine Y4 (A:=[0]) Ρ λb a=>Z6 ?_;apply a
 repeat apply Ξ
 refine Z' λb a=>?_;apply a;refine W.fix (id:=0) (σ':=[]) (χ _) rfl I I rfl [(0,.Θ [.sl true 2 [XW ⟨⟨#[98]⟩,9⟩,XW ⟨⟨#[99]⟩,4⟩,XW ⟨⟨#[100]⟩,6⟩,XW ⟨⟨#[105]⟩,48⟩,XW ⟨⟨#[111]⟩,12⟩],.sl true 1 [Zr [1,2],Zr [0],Zr [0,1,2]],.sl true 1 [.sl true 3 [Zv ⟨0,4,59⟩,Zv ⟨1,8,3⟩],.sl true 3 [Zv ⟨0,0,63⟩,Zv ⟨1,4,8⟩]]])] I ?_;refine W.rt ?_;refine .ZT (.cons .ex (.cons ?_ (.cons ?_ .nil)))
 .exact .map (l:=[[1,2],[0],[0,1,2]]) (f:=Zr) λx _=>.one .ex rfl rfl
 .exact .map (l:=[[⟨0,4,59⟩,⟨1,8,3⟩],[⟨0,0,63⟩,⟨1,4,8⟩]]) (f:=λl:List Zw=>.sl true 3 (l.map Zv)) λx _=>.one .ex rfl rfl
end Go.TL
namespace Go.TL
open Go.Proofs.Tryz
open Go.Conc Go.Proofs
open Go.ConcN (sumTo upd sumTo_upd upd_ne upd_same sumTo_congr le_sumTo)
variable [ZX]
section
variable {P:Program} {Q:Value->Prop} {mn:Bool} {y:ZZ} {f f' b:Frame} {cs cs':List Frame} {H:Χ} {t:Array Value} {k:List Item} {ops:Array Oper} {i:Nat} {rest:List Nat} {op:Oper}
theorem Zd.quiet (a:XN y) (b:∀w,stepG P mn (Go.Conc.G f cs) w=.go (Go.Conc.G f' cs') w #[]) (h:Zd P Q mn y f' cs' H):Zd P Q mn y f cs H:=
 Quiet.goes (.cons ⟨rfl,rfl⟩ b (.nil _)) a ⟨rfl,rfl⟩ h
theorem Zd.next (a:XN y) (d:b.mode=.run) {id:Nat} {e:Array Oper} {c:Code} (h:Zd P Q mn y (ο b t (.inRegion e (List.range e.size)::.code c::k)) cs H):Zd P Q mn y (ο b t (.inRegion ops []::.code (.seq (.region id e false) c)::k)) cs H:=
 .quiet a (λw=>(Vu d w).trans rfl) (.quiet a (λw=>(Vu d w).trans rfl) (.quiet a (λw=>(Vu d w).trans rfl) h))
theorem tU {a:TypeId} {b:TypeInfo} {z:Value} (hi:P.info? a=some b) (c:b.zero=some z) (w:World) :
  (Instr.alloc a true (.tuple #[])).run P w=.ok (ptr w.heap.size 0) (w.alloc (.cells z.cells a (0,0)))/\∀es,(Instr.alloc a true (.tuple #[])).events P w es=es:=by
 constructor
 .simp[Instr.alloc,zeroValue,typeInfo,newVar,newRow,hi,c,Result.andThen]
 .intro es;simp[Instr.alloc,zeroValue,typeInfo,newVar,newRow,hi,c,Result.andThen,Result.evThen]
theorem Zd.F4 {d:TypeId} {m:TypeInfo} {z:Value} (D:y.rel=false) (f:TJ b ops i op) (E:op.op=.alloc d) (F:op.guard=none) (hi:P.info? d=some m) (I:m.zero=some z)
  (h:∀r,H.fresh r->(∀c v,y.Z3 c=some v->c<r)->Zd P Q mn {y with Z3:=upd y.Z3 r (some (z.cells,d))} (ο b (put op t (ptr r 0)) (.inRegion ops rest::k)) cs H):Zd P Q mn y (ο b t (.inRegion ops (i::rest)::k)) cs H:=by
 refine Goes.step (XN.ok (.inl D)) (.inr ⟨⟨rfl,rfl⟩,.inl λw n hv=>?_⟩);obtain⟨s,J⟩:=tU (P:=P) hi I w;have K:Region.wanted op (yielded ops t)=true:=by unfold Region.wanted;rw[F]
 have L:stepG P mn (Go.Conc.G (ο b t (.inRegion ops (i::rest)::k)) cs) w=.go (Go.Conc.G (ο b (put op t (ptr w.heap.size 0)) (.inRegion ops rest::k)) cs) (w.alloc (.cells z.cells d (0,0))) #[]:=by
  have e:execOp (ZN t) op=(do pure (.value (<-Instr.alloc d true (.tuple #[])))):=by unfold execOp;rw[E]
  rw[WY f.run f.ro,WY f.run f.ro,<-O9];have M:(execOp (⟨t,b.defers⟩:_root_.Go.Act).eval op).run P w=.ok (.value (ptr w.heap.size 0)) (w.alloc (.cells z.cells d (0,0))):=by rw[T5,e];simp[s,Result.andThen]
  have g:(execOp (⟨t,b.defers⟩:_root_.Go.Act).eval op).events P w #[]=#[]:=by rw[T5,e];simp[s,J,Result.evThen]
  rw[stepG_value f.op K f.kd M];unfold listed;rw[g,seen_none]
 rw[L];have u:=(Yo.start n).row z.cells d;have j:Χ.fresh H w.heap.size:=n.fresh;have N:Sub H (H.YB w.heap.size z.cells d):=by
  refine⟨λc o v p a=>⟨p,?_,id⟩,λc x a=>?_,λc x a=>a⟩
  .have:c≠w.heap.size:=λe=>by rw[e,j.1 o] at a;cases a
   simpa[Χ.YB,this] using a
  .have:c≠w.heap.size:=λe=>by rw[e,j.2.1] at a;cases a
   simpa[Χ.YB,this] using a
 have A:∀c v,y.Z3 c=some v->c<w.heap.size:=λc v a=>by
  have:=hv c v.1 v.2 a;exact(TY.1 this).1
 refine⟨H,upd y.Z3 w.heap.size (some (z.cells,d)),⟨rfl,rfl⟩,u.keeps,N.fits u.fit,λc c' t' a=>?_,⟨λc o v p a=>.inr ⟨v,p,a,id⟩,λc a=>.inr a⟩,λc c' a=>?_,λe g=>by simp at g,λc c' _ _ e g=>by simp at g,h _ j A⟩
 .by_cases e:c=w.heap.size
  .subst e;rw[upd_same] at a;cases a;exact J4
  .rw[upd_ne _ _ e] at a;have B:=hv c c' t' a;have C:=A c _ a;show(w.heap.push _)[c]?=_;rw[Array.getElem?_push_lt C];rw[XG C] at B;exact B
 .by_cases e:c=w.heap.size
  .exact .inr ⟨Nat.le_of_eq e.symm,⟨λo ⟨x,l⟩=>(by rw[e,j.1 o] at l;cases l),λ⟨x,l⟩=>(by rw[e,j.2.2.1] at l;cases l)⟩⟩
  .rw[upd_ne _ _ e] at a;exact .inl a
theorem tT {B:Type} {s:Nat}:upd (λ_=>(none:Option B)) s none=λ_=>none:=by
 funext i
 by_cases e:i=s
 .subst e;exact upd_same ..
 .exact upd_ne _ _ e
theorem Zd.group {sp:Spec} {s m o:Nat} {k l g:TypeId} {c:Array Value} (n:y.rel=false) (D:y.Z3=λ_=>none) (E:m<s) (F:s<o) (t:sp.ZO=some m) (j:H.fresh o) (I:sp.XQ [] (Χ.empty.YB o c g))
  (h:Zd P Q mn {y with tok:=upd y.tok s (.par 0 0 .add),spec:=upd y.spec s (some sp),view:=upd y.view s none} f cs H) :
  Zd P Q mn {y with Z3:=upd (upd (upd y.Z3 m (some (#[.int .i32 0,.int .u32 0],l))) s (some (#[.int .u64 0,.int .u32 0],k))) o (some (c,g))} f cs H:=by
 have u:s≠o:=Nat.ne_of_lt F
 have w:m≠o:=U
 have A:m≠s:=Nat.ne_of_lt E;refine Goes.step (XN.ok (.inl n)) (.inr ⟨⟨rfl,rfl⟩,.inr (.inr (.inr (.inr (.inr (.inr (.inr (.inr (.inr (.inr (.inl ⟨o,c,g,upd_same ..,?_⟩))))))))))⟩);refine Goes.step (XN.ok (.inl n)) (.inr ⟨⟨rfl,rfl⟩,.inr (.inr (.inr (.inr (.inr (.inr (.inr (.inr (.inr (.inr (.inr ⟨s,sp,k,H,Χ.empty.YB o c g,?_,λK B=>?_,n,?_,λ_=>I,?_⟩))))))))))⟩)
 .show upd (upd _ o _) o none s=_;rw[upd_ne _ _ u,upd_ne _ _ u,upd_same]
 .rw[t] at B;cases B;refine⟨A,l,?_⟩;show upd (upd _ o _) o none m=_;rw[upd_ne _ _ w,upd_ne _ _ w,upd_ne _ _ A,upd_same]
 .refine⟨⟨λa q v p b=>⟨p,?_,id⟩,λa x b=>?_,λa x b=>b⟩,⟨λa q v p b=>⟨p,?_,id⟩,λa x b=>?_,λa x b=>(by cases b)⟩,⟨λa q ⟨v,hv⟩ ⟨x,d⟩=>?_,λa q ⟨v,hv⟩ ⟨x,d⟩=>?_,λa _ ⟨x,d⟩=>(by cases d)⟩⟩
  .have:a≠o:=λe=>by rw[e,j.1 q] at b;cases b
   simpa[this] using b
  .have:a≠o:=λe=>by rw[e,j.2.1] at b;cases b
   simpa[this] using b
  .by_cases e:a=o
   .simpa[Χ.YB,e] using b
   .simp[Χ.YB,e,Χ.empty] at b
  .by_cases e:a=o
   .simpa[Χ.YB,e] using b
   .simp[Χ.YB,e,Χ.empty] at b
  .by_cases e:a=o
   .rw[e,j.1 q] at hv;cases hv
   .simp[Χ.YB,e,Χ.empty] at d
  .by_cases e:a=o
   .rw[e,j.1 q] at d;cases d
   .simp[Χ.YB,e,Χ.empty] at hv
 .have e:(λa=>if a=s\/sp.ZO=some a then none else upd (upd (upd (upd y.Z3 m (some (#[.int .i32 0,.int .u32 0],l))) s (some (#[.int .u64 0,.int .u32 0],k))) o (some (c,g))) o none a)=y.Z3:=by
   funext a
   rw[D];by_cases i:a=s\/sp.ZO=some a
   .rw[if_pos i]
   .rw[if_neg i];rw[t] at i;have Φ:a≠s:=λe=>i (.inl e);have J:a≠m:=λe=>i (.inr (by rw[e]));by_cases r:a=o
    .rw[r,upd_same]
    .rw[upd_ne _ _ r,upd_ne _ _ r,upd_ne _ _ Φ,upd_ne _ _ J]
  have C:Goes P Q mn (Go.Conc.G f cs) {y with G:=H,Z3:=y.Z3,tok:=upd y.tok s (.par 0 0 .add),spec:=upd y.spec s (some sp),view:=upd y.view s none}:=h;rw[<-e] at C;exact C
theorem Zd.Hs {s n p:Nat} {sp:Spec} {g:FuncId} {d:Array Value} (f:y.rel=false) (h:y.deaf=0) (j:y.spec s=some sp) (l:y.tok s=.par n (p+1) .add) (c:TJ b ops i op) (m:op.guard=none) {fo:Operand} {o:Array TypeId} (r:op.op=.go ⟨.value fo,#[],o⟩) (u:op.dst=none)
  (hv:ZN t fo=.func (.func g) #[] d) {S:μ} (v:Holds S [] [] H) (x:Zd P Q mn {y with tok:=upd y.tok s (.par n p .add),view:=upd y.view s none} (ο b t (.inRegion ops rest::k)) cs (Qz S H))
  (A:Goes P Q false (born P ⟨.fn (.func g) d,#[]⟩) {ZI (T2 s sp) s (.ch (n-(p+1)) .idle .work) none 0 with G:=TB S}):Zd P Q mn y (ο b t (.inRegion ops (i::rest)::k)) cs H:=by
 have B:Region.wanted op (yielded ops t)=true:=by unfold Region.wanted;rw[m]
 have C:∀w,stepG P mn (Go.Conc.G (ο b t (.inRegion ops (i::rest)::k)) cs) w=.spawn (Go.Conc.G (ο b t (.inRegion ops rest::k)) cs) (born P ⟨.fn (.func g) d,#[]⟩) w #[]:=λw=>by
  have e:execOp (ZN t) op=(do pure (.spawn (<-Deferred.ofValue (ZN t fo) (#[].map (ZN t))))):=by unfold execOp;rw[r];rfl
  rw[WY c.run c.ro,WY c.run c.ro];have D:(execOp (⟨t,b.defers⟩:_root_.Go.Act).eval op).run P w=.ok (.spawn ⟨.fn (.func g) d,#[]⟩) w:=by rw[T5,e,hv];simp[Deferred.ofValue,Result.andThen]
  have E:(execOp (⟨t,b.defers⟩:_root_.Go.Act).eval op).events P w #[]=#[]:=by rw[T5,e,hv];simp[Deferred.ofValue,Result.andThen,Result.evThen]
  rw[stepG_spawn (a:=⟨t,b.defers⟩) c.op B c.kd D rfl];have:(⟨t,b.defers⟩:_root_.Go.Act).put op.dst undef=⟨t,b.defers⟩:=by rw[u];rfl
  rw[this];unfold listed;rw[E,seen_none]
 refine Goes.step (XN.ok (.inl f)) (.inr ⟨⟨rfl,rfl⟩,.inr (.inr (.inr (.inr (.inr (.inr (.inr (.inr (.inl ⟨s,sp,n,p,Go.Conc.G (ο b t (.inRegion ops rest::k)) cs,born P ⟨.fn (.func g) d,#[]⟩,Qz S H,TB S,j,l,h,⟨rfl,rfl⟩,⟨rfl,rfl⟩,f,λw _=>C w,uC v,x,?_⟩))))))))⟩);have e:({ZI (T2 s sp) s (.ch (n-(p+1)) .idle .work) none 0 with G:=TB S}:ZZ)=⟨TB S,λ_=>none,upd (λ_=>.nil) s (.ch (n-(p+1)) .idle .work),upd (λ_=>none) s (some sp),λ_=>none,0,false⟩:=by
  unfold ZI;simp only[tT]
 rw[<-e];exact A
end
end Go.TL
namespace Go.TL
open Go.Proofs.Tryz
open Go.Conc Go.Proofs
open Go.ConcN (sumTo upd sumTo_upd upd_ne upd_same sumTo_congr le_sumTo)
noncomputable def ML:Code:=f116.body.getD .skip
noncomputable def Ce:Code:=Yq [1,1,1,1,0,1,0,0,1,1,0,0,1,1,0,0,1,1,0,0,1] ML
noncomputable abbrev Ie (vs:Array Value):Frame:=Frame.enter prog 116 vs .normal
abbrev env0 (s m o:Nat) (a:ψ) (rest:ω):ω:=(5,.z (ptr o 0))::(4,.z (ptr s 0))::(3,.z (ptr m 0))::(1,.Θ [ν a.Ι,ξ a.Δ,Z2 a.cells])::rest
abbrev MK (s m o:Nat) (c:ψ) (a b:Int) (rest:ω):ω:=(7,.Θ [J b])::(6,.Θ [J a])::env0 s m o c rest
structure Ic (a:ψ) (fd:Nat->Option Found) (pr:Nat->Int×Int) (F:Nat->Found) (N:Nat->Nat):Prop where
 look:∀k,k<3->∀c:ZX,@Ε c prog 143 [Yz a,Zj (pr k)] (YN (F k))
 many:∀k,k<3->∀c:ZX,@Ε c prog 78 [YN (F k),J (-1)] (J (N k))
 fd:∀k,fd k=if k<3/\0<N k then some (F k) else none
theorem Ic.Ut {a:ψ} {fd:Nat->Option Found} {pr:Nat->Int×Int} {F:Nat->Found} {N:Nat->Nat} (h:Ic a fd pr F N) (L:List Nat) (b:L.Nodup):(L.filterMap fd).length<=3:=by
 have c:L.filterMap fd=(L.filter (· < 3)).filterMap fd:=by
  rw[List.filterMap_filter];congr 1
  funext k
  by_cases e:k<3
  .simp[e]
  .simp[e,h.fd k]
 rw[c];refine X' (KG ..) ?_;have d:(L.filter (· < 3)).Nodup:=b.filter _;exact EC 3 _ d λk f=>by simpa using (Vh.1 f).2
variable [ZX]
theorem V.boxed {P:Program} {p:Value->Prop} {mn:Bool} {z:W2} {b:Frame} {cs:List Frame} {nt:Nat} {o:Base} {k:List Item} {env:ω} {σ:Ο} {ops:Array Oper} {i:Nat} {rest:List Nat} {g:Oper}
  (x:Seq z) (y:b.mode=.run) (A:b.roundOf=none) (C:ops[i]?=some g) (D:g.guard=none) {f:TypeId} {d:Operand} (E:g.op=.box f d) {l:κ} (F:ζ env d=.ZT l) (I:l.all (Ω.YH [])=true) (J:0<l.length)
  (h:∀(S:μ) (B:Z8) (H:Χ) (t:Array Value) (r:Nat) (c:Array Value),XX o.m o.S o.B o.H o.σ S B H σ->Xw o.m nt S B H σ env t->H.fresh r->(∃v,(S.lay r c) r 0=some v)->Zx S (S.lay r c) B B σ σ->Ext S B H (S.lay r c) B (H.YB r c f)->Holds (S.lay r c) B σ (H.YB r c f)->π (S.lay r c) B σ (.Θ l) (ptr r 0)->
   ι P p mn z (ο b (put g t (ptr r 0)) (.inRegion ops rest::k)) cs (H.YB r c f)):V P p mn z b cs nt o (.inRegion ops (i::rest)::k) env σ:=by
 intro S B H t K j;refine .op x y C (by unfold Region.wanted;rw[D]) (.inl A) ?_;have e:execOp (ZN t) g=(do pure (.value (<-Instr.box f (ZN t d)))):=by unfold execOp;rw[E]
 have n:=Ud j.Zm d;rw[F] at n;rw[e];refine Ψ.bind' ?_;unfold Instr.box;refine Ψ.bind' ?_;unfold newVar newRow;have s:=Nn (σ:=σ) I;have L:=(n.cells (a:=.ZT l) s).1;refine Ψ.bind' ⟨rfl,λr u=>Ψ.pure' (Ψ.pure' (Ψ.pure' ?_))⟩;obtain⟨M,N,w⟩:=j.holds.lay (c:=(ZN t d).cells) (t:=f) u;have O:0<(ZN t d).cells.size:=by rw[L];exact J
 exact h S B H t r _ K j u ⟨(ZN t d).cells[0],by simp[μ.lay,O]⟩ w N M (El w (Xd.one n s))
section
variable {y:ZZ} {Q:Value->Prop} {mn:Bool} {β s m o n:Nat} {XH:μ} {H1:Χ} {fd:Nat->Option Found} {pr:Nat->Int×Int} {F:Nat->Found} {N:Nat->Nat} {sp:Spec} {Xy:ψ} {v:Option (Nat×ε)} {vs:Array Value} {cs:List Frame} {k:List Item} {rest:ω}
theorem F3 {a b:Int} (R:pr n=(a,b)) (f:T4 y s sp) (ab:sp.ZO=some m) (ad:sp.XQ=NW β XH o fd) (ae:∀k,sp.D k Χ.empty) (aQ:sp.top=3) (I:n<3) (j:Ic Xy fd pr F N) (af:∃q v,XH β q=some v) (ag:∃q x,H1.θ β q=some x) (ah:∀p∈rest,p.1∉[16,15,7,6,5,4,3,1]/\Z7 rest p.1=p.2)
  (ai:V prog Q mn (one (ZI y s (.par (n+1) 0 .add) none 0)) (Ie vs) cs 23 ⟨XH,[],H1,[],0⟩ k ((6,.Θ [J a])::env0 s m o Xy rest) []) :
  V prog Q mn (one (ZI y s (.par n 0 .add) v 0)) (Ie vs) cs 23 ⟨XH,[],H1,[],0⟩ (.code Ce::k) (MK s m o Xy a b rest) []:=by
 letI:ZX:=XU;obtain rfl:a=(pr n).1:=by rw[R]
 obtain rfl:b=(pr n).2:=by rw[R]
 have w:=f.seq;refine V.XO (w _ _ _) rfl ?_;simp only[Ce,ML,f116,Option.getD_some,Yq];refine Y1 ?_;refine W.Zg (.stop ?_);refine V.call (w _ _ _) ⟨rfl,rfl,by simp[Frame.enter],rfl⟩ rfl rfl rfl ⟨_,func140,rfl,rfl⟩ λS B H t aR aj c hv=>?_;obtain rfl:=TI (l:=[ptr s 0,.int .i64 1]) hv;obtain rfl:B=[]:=YL.1 c.holds.len;rintro ak rfl;refine u5 f U c.holds λaS T aT X al=>?_;rw[VV rfl];have Y:Zx S T [] [] [] []:=⟨X.YO,λid r h=>by simp at h⟩;refine V.here (x:=one _) (m:=0) (nt:=23) (S:=T) (B:=[]) (σ:=[]) (env:=(15,.z (.tuple #[]))::MK s m o Xy (pr n).1 (pr n).2 rest) ?_ ⟨al,YT.later (YT.put c.Zm (d:=15) (by rw[c.size];omega) (.z (.tuple #[]))) Y,Xx (TX ..) c.size,χ _⟩ _ rfl;refine V.XO (w _ _ _) rfl ?_;refine W.ZF ?_;refine W.Zg ?_;refine Xu [0] [1] ?_;refine W.stop ?_;intro A am an t3 ao e;obtain rfl:am=[]:=YL.1 e.holds.len;rintro ak rfl;have K:=e.Zm 16;simp only[Z7,if_true] at K;obtain⟨aU,Z⟩:=Η (t3.getD 16 undef);rw[<-Z] at K;have M:XX 0 XH [] H1 [] A [] an []:=aj.trans ((XX.of X Y).trans ao);cases K with
 | fn w1 ap aq ar aV C=>
  have au:w1=#[]:=Mo (by rw[<-aq];rfl);subst au;obtain⟨l2⟩:=ap
  match l2,ar with
  | [aa,av,aw,ax,ay,az],_=>
   have aA:aa=ptr s 0:=by have:=C 0 _ _ rfl rfl;cases this;rfl
   have aB:ay=ptr m 0:=by have:=C 4 _ _ rfl rfl;cases this;rfl
   have aC:az=ptr o 0:=by have:=C 5 _ _ rfl rfl;cases this;rfl
   subst aA;subst aB;subst aC;have aD:Xv A [] [] (F8 s m o Xy (pr n).1 (pr n).2) (Ij s m o av aw ax):=⟨rfl,λi a v E O=>C i a v E O⟩;refine Zd.Hs (s:=s) (n:=n+1) (p:=0) (sp:=sp) f.rel rfl f.spec Zn ⟨rfl,rfl,by simp[Frame.enter],rfl⟩ rfl rfl rfl Z.symm (S:=A) e.holds ?_ ?_
   .rw[WK];have aE:=uz e.holds;have aF:∀g:Ω,∀p∈(6,.Θ [J (pr n).1])::env0 s m o Xy rest,Z7 ((16,g)::(15,.z (.tuple #[]))::MK s m o Xy (pr n).1 (pr n).2 rest) p.1=p.2:=λg p c=>by
     simp only[env0,Y6] at c;rcases c with rfl|rfl|rfl|rfl|rfl|c<;>first|rfl|skip
     obtain⟨E,O⟩:=ah p c;simp only[Y6,Ya,or_false,not_or] at E;obtain⟨aG,aH,aI,aJ,aK,aL,aM,aN⟩:=E;simp only[Z7,YR aG,YR aH,YR aI,YR aJ,YR aK,YR aL,YR aM,YR aN,if_false];exact O
    refine V.XO (w (.par (n+1) 0 .add) none 0) rfl (W.ZF (W.forget ((6,.Θ [J (pr n).1])::env0 s m o Xy rest) (aF _) (.stop ai))) A [] _ t3 (M.trans (XX.of aE (Zx.refl ..))) ⟨uB e.holds,e.Zm,e.size,χ _⟩ _ rfl
   .refine ug ab U ad (ae _) (j.look n I) (j.many n I) ?_ (λL aO=>?_) ?_ (λb q u P=>?_) aD
    .show fd n=_;rw[j.fd n];simp[I]
    .rw[Yp];have:=j.Ut L aO;omega
    .obtain⟨q,u,P⟩:=af;exact⟨q,u,M.ext.YO _ _ _ P⟩
    .obtain⟨aW,aa,aP⟩:=ag;rcases M.ext.QT b q u P with h|⟨N,h⟩|h
     .exact .inl (by rw[h];simp)
     .simp at h
     .exact .inr (Ga aP h)
end
end Go.TL
namespace Go.TL
open Go.Proofs.Tryz
open Go.Conc Go.Proofs
open Go.ConcN (sumTo upd sumTo_upd upd_ne upd_same sumTo_congr le_sumTo)
structure Calm (y:ZZ):Prop where
 rel:y.rel=false
 Z3:y.Z3=λ_=>none
 deaf:y.deaf=0
 shut:∀s,W9 (y.tok s)
def calm:W2:=Calm
@[reducible] def Uq:ZX:=⟨λx=>x=calm⟩
variable [ZX]
def PE (x y:Found):Int:=UH (x.u,x.v) (y.u,y.v)
def Sy (x y:Found):Prop:=x.u<y.u\/(x.u=y.u/\x.v<y.v)
theorem tS (x y:Found):υ PE x y=true↔Sy x y:=by
 have h:=R5 (x.u,x.v) (y.u,y.v)
 have e:υ PE x y=υ UH (x.u,x.v) (y.u,y.v):=rfl;rw[e,h];simp[Sy]
theorem tR:Go.Sort.SWO (υ PE) where
 irrefl x:=Pg.irrefl (x.u,x.v)
 trans x y z:=Pg.trans (x.u,x.v) (y.u,y.v) (z.u,z.v)
 ntrans x y z:=Pg.ntrans (x.u,x.v) (y.u,y.v) (z.u,z.v)
instance:Inhabited Found:=⟨⟨0,0,[]⟩⟩
theorem tQ {m:List Found} (h:m.Pairwise Sy):∀a∈m,∀b∈m,¬Sy a b->¬Sy b a->a=b:=by
 induction h with
 | nil=>intro a c;cases c
 | cons d o l=>
  intro a c b n e f;rcases Y6.1 c with g|i<;>rcases Y6.1 n with j|k
  .rw[g,j]
  .exact absurd (g▸d b k) e
  .exact absurd (j▸d a i) f
  .exact l a i b k e f
theorem tP {l m:List Found} (r:l.Perm m) (e:m.Pairwise Sy):(Go.Sort.insertionSort (υ PE) l.toArray 0 l.length).toList=m:=by
 obtain⟨⟨f,_,c⟩,g⟩:=Go.Sort.insertionSort_holds (lt:=υ PE) tR l.toArray 0 l.length (χ _) I;generalize Go.Sort.insertionSort (υ PE) l.toArray 0 l.length=d at f c g;have n:d.size=l.length:=by simpa using f
 have s:d.extract 0 l.length=d:=by rw[<-n];exact Array.extract_size
 have Φ:l.toArray.extract 0 l.length=l.toArray:=by
  simp
 rw[s,Φ] at c;have o:d.toList.Perm m:=c.trans r;have t:∀x y,υ PE x y=false↔¬Sy x y:=λx y=>by rw[<-tS];simp
 refine KH (le:=λx y=>¬Sy y x) (λa b u v w A=>?_) ?_ (e.imp λ{a b} h k=>?_) o
 .exact tQ e a (o.mem_iff.1 u) b v A w
 .rw[Q'];intro i j hi p B;have:=g i j (χ _) B (by simpa[n] using p);rw[t] at this;rw[getElem!_pos d j (by simpa using p),getElem!_pos d i (by simpa using hi)] at this;simpa using this
 .simp only[Sy] at h k;omega
theorem tO {a:Nat->Χ->Prop} (b:∀k E,a k E->E=Χ.empty):∀(L:List Nat) (E:Χ),Ui a L E->E=Χ.empty:=by
 intro L
 induction L with
 | nil=>intro E h;exact h
 | cons k i c=>
  rintro E ⟨d,e,f,g,_,rfl⟩;rw[b k d f,c e g];exact Hv _
end Go.TL
namespace Go.TL
open Go.Proofs.Tryz
open Go.Conc Go.Proofs
open Go.ConcN (sumTo upd sumTo_upd upd_ne upd_same sumTo_congr le_sumTo)
abbrev Ib:Ω:=.fn (.func 148) [] []
theorem tN [ZX] (x y:Found):XS prog Ib [YN x,YN y] (J (PE x y)):=λσ=>(xB x y).c (ZM.refl _) I I ⟨rfl,rfl⟩
section
variable {y:ZZ} {Q:Value->Prop} {mn:Bool} {β s m o:Nat} {O1 XH:μ} {Rk H1:Χ} {fd:Nat->Option Found} {sp:Spec} {Xy:ψ} {v:Option (Nat×ε)} {vs:Array Value} {c:Frame} {cs:List Frame}
theorem tM (Z:T4 y s sp) (an:sp.ZO=some m) (ao:sp.XQ=NW β XH o fd) (ap:∀k E,sp.D k E->E=Χ.empty) (aq:∀L:List Nat,L.Nodup->(L.filterMap fd).length<=3) {d:List Found} (ar:(List.range 3).filterMap fd=d) (au:d.Pairwise Sy)
  (av:∀v,Calm (ZI y s (.par 3 0 .ZP) v 0)) (aw:Pm prog Q mn calm c cs O1 [] Rk [] (λa s=>Zh a (Zb d)/\s=[]) (λ_ _=>False)) (ax:Ext O1 [] Rk XH [] H1) (ay:Rk.fresh β) :
  V prog Q mn (one (ZI y s (.par 3 0 .add) v 0)) (Ie vs) (c::cs) 23 ⟨XH,[],H1,[],0⟩ [.code (Yq [1,1,1,1,1] ML)] (env0 s m o Xy []) []:=by
 letI:ZX:=XU;have F:=Z.seq;refine V.XO (F _ _ _) rfl ?_;simp only[ML,f116,Option.getD_some,Yq];refine Y1 ?_;refine W.Zg (.stop ?_);refine V.call (F _ _ _) ⟨rfl,rfl,by simp[Frame.enter],rfl⟩ rfl rfl rfl ⟨_,func146,rfl,rfl⟩ λS B H t a4 g A hv=>?_;obtain rfl:=TI (l:=[ptr s 0]) hv;obtain rfl:B=[]:=YL.1 A.holds.len;rintro az rfl;refine uY Z A.holds (n:=3) λJ H' aA aa aB a5 C ab a6 aC aD a7 a8 aE a9 aF aG a' aH O=>?_;rw[VV rfl];obtain rfl:=tO ap aA aB aC;rw[Hv] at O;obtain⟨ad,ae⟩:=aD (by rw[an];simp);rw[ao] at ae;obtain⟨hi,K,M,P,aI⟩:=ae;obtain⟨w,f1,f2,f3⟩:=aF;obtain⟨G,R⟩:=Η (aa.filterMap fd);have T:G.Perm d:=by rw[R,<-ar];exact ad.filterMap _
 have ba:G.length<=3:=by rw[R];exact aq aa (ad.nodup_iff.2 Mm)
 rw[<-R] at P;obtain⟨aJ,l1,l2⟩:=Cn ab P aE ⟨w,f1,f3⟩ (Ik _);have aK:=uv (ax.trans (g.ext.trans C)) (g.ext.trans C).YO ay hi ab P (Ik _);obtain⟨aL,aM⟩:=aJ.RG (λb aN=>O.RG aN) O.grow;have aO:=aK.trans aM;have aP:t.getD 5 undef=ptr o 0:=by
  have:=A.Zm 5;simp only[Z7] at this;generalize t.getD 5 undef=u at this;cases this;rfl
 have aQ:YT (J.plus K) M (WX (G.map YN)) [(5,.Κ 0 1 0 0)] (t.setIfInBounds 19 (.tuple #[])):=λi=>by
  simp only[Z7];split
  .rename_i e;subst e;have aR:(t.setIfInBounds 19 (.tuple #[])).getD 5 undef=ptr o 0:=by
    rw[<-aP,WG,WG,UR ZY]
   rw[aR];have:=π.Κ (S:=J.plus K) (B:=M) (σ:=WX (G.map YN)) (id:=0) (n:=1) (i:=0) (j:=0) (k:=1) (t:=99) (l:=[PF (G.map YN)]) (b:=o) (N:=1) (by simp[WX]) rfl aI;simpa using this
  .exact .Zl _
 refine V.here (x:=one _) (m:=0) (nt:=23) (S:=J.plus K) (B:=M) (σ:=WX (G.map YN)) (env:=[(5,.Κ 0 1 0 0)]) ?_ ⟨aL,aQ,Xx (TX ..) A.size,χ _⟩ _ rfl;have af:∀(e:Bool) (k:Nat),Zh (.sl e k (d.map YN)) (Zb d)->V prog Q mn (one (ZI y s (.par 3 0 .ZP) aG 0)) (Ie vs) (c::cs) 23 ⟨J.plus K,M,aH,WX (G.map YN),0⟩ [.code .ret] [(2,.sl e k (d.map YN))] []:=λe k aS=>by
  intro bb aT bc t5 aU X;obtain rfl:aT=[]:=YL.1 X.holds.len;refine ι.ret (F _ _ _) rfl rfl (ι.back (F _ _ _) rfl rfl (.inl rfl) func116 ?_);refine Ψ.mono (λu aV ⟨aW,aX,aY,bd,ag,aZ⟩=>?_) (λ_ _ h=>h) _ (LN Ρ (a:=.sl e k (d.map YN)) rfl X.holds X.Zm);obtain rfl:aX=[]:=YL.1 ag.len;rintro az rfl;have ah:=aO.trans (aU.ext.trans aY);exact aw.ret _ [] aW [] aV u ⟨aS,rfl⟩ ah ⟨ah.YO,λid r h=>by simp at h⟩ ag aZ _ (av _)
 refine V.XO (F _ _ _) rfl ?_;refine W.ZF ?_;have a0:∀e∈G.map YN,∀a∈e.cells,ς 0 a:=λe C a g=>by
  obtain⟨z,_,rfl⟩:=Zq.1 C;exact M7 z a g
 by_cases ai:G=[]
 .subst ai;have a1:d=[]:=T.symm.eq_nil;subst a1;refine Y1 ?_;refine Y9 λY f=>?_;simp;(repeat (rw[Ν];simp[WX,F9,Wy]));refine Ε.c (wQ Ib I) (ZM.refl _) I I ?_;simp;(repeat (rw[Ν];simp));apply f;refine Z' λY f=>?_;apply f;refine W.cut 0 (χ _) [(2,.sl true 0 [])] (χ _) (λid r h=>U) (by simp;exact .low I) ?_;exact .stop (af _ _ .nil)
 .have aj:G.map YN≠[]:=by simpa using ai
  have a2:=tP T au;refine Y1 ?_;refine Y9 λY f=>?_;simp;(repeat (rw[Ν];simp[WX,Il aj,YZ aj]));have ak:=xu G.toArray G.length I U Ib PE I tN;rw[a2] at ak;have a3:d.length=G.length:=T.length_eq.symm;have al:ς 0 Ib:=I;have am:∀e∈d.map YN,∀a∈e.cells,ς 0 a:=λe C a g=>by
   obtain⟨z,_,rfl⟩:=Zq.1 C;exact M7 z a g
  refine Μ.one ak 1 rfl a0 am (by simp[UG,N',al.Wh 1]) (by simp[XC]) (by simp[UF,TN,al.Yx [1]]) ?_;simp[Yx,WM];(repeat (rw[Ν];simp));apply f;refine Z' λY f=>?_;apply f;refine W.cut 0 (χ _) [(2,.sl false 3 (d.map YN))] (χ _) (λid r h=>U) (λp A=>?_) ?_
  .obtain rfl:p=(2,.sl false 3 (d.map YN)):=by simpa using A
   refine Ym.own (id:=1) (t:=110) (χ _) rfl (by simp[a3]) am
  .exact .stop (af _ _ (.refl _))
end
theorem F2 {P:Program} {b:TypeId} {z:Value} (h:((P.info? b).bind (·.zero))=some z):∃a,P.info? b=some a/\a.zero=some z:=by
 cases hi:P.info? b with
 | none=>rw[hi] at h;cases h
 | some a=>rw[hi] at h;exact⟨a,rfl,h⟩
theorem tL:((prog.info? 173).bind (·.zero))=some (.agg #[.int .i32 0,.int .u32 0]):=by kernel_rfl
theorem tK:((prog.info? 179).bind (·.zero))=some (.agg #[.int .u64 0,.int .u32 0]):=by kernel_rfl
theorem tJ:((prog.info? 99).bind (·.zero))=some (.slice none 0 0):=by kernel_rfl
theorem tI {o:Nat}:Holds Xz [some (o,1)] (WX []) (Χ.empty.YB o #[.slice none 0 0] 99):=by
 have b:Holds Xz [] [] Χ.empty:=MT _
 have c:Xd Xz [] [] #[.slice none 0 0] 1 [.sl true 0 []]:=Xd.one (a:=.sl true 0 []) (v:=.slice none 0 0) (.Wo none 0 λ_=>rfl) rfl;exact(L1 (P:=prog) (K:=λr G=>Holds Xz [some (r,1)] (WX []) G) (E:=λ_ _=>False) b c 99 λr _ d _ _=>d).2 o ⟨λ_=>rfl,rfl,rfl,λ_ _=>⟨λ_=>rfl,rfl,rfl⟩⟩
section
variable {fd:Nat->Option Found} {pr:Nat->Int×Int} {F:Nat->Found} {N:Nat->Nat} {Xy:ψ} {F1:List Found}
theorem tH (X:Ic Xy fd pr F N) (av:pr 0=(1,0)) (aw:pr 1=(2,0)) (ax:pr 2=(2,1)) (ay:(List.range 3).filterMap fd=F1) (az:F1.Pairwise Sy):@Ε Uq prog 116 [Yz Xy] (Zb F1):=by
 refine⟨⟨_,func116,rfl,rfl⟩,λa4 mn x c rest ak aA af vs aB al aC aD=>?_⟩;obtain rfl:x=calm:=@Seq.cls Uq x aB;obtain rfl:aA=[]:=YL.1 al.len;rintro y ⟨f,Y,aE,am⟩;letI:ZX:=XU;have ag:Seq (one y):=Seq.O8 trivial f Y;rw[SF (body:=ML) func116 rfl];refine V.here (x:=one y) (m:=0) (nt:=23) (S:=ak) (B:=[]) (H:=af) (σ:=[]) (env:=entry 0 [Yz Xy]) ?_ (Xw.enter al aC (γ _) I) y rfl;refine V.XO ag rfl ?_;simp only[ML,f116,Option.getD_some];refine Y1 ?_;refine W.Zg (.stop ?_);refine V.boxed ag rfl rfl rfl rfl rfl (l:=[ν Xy.Ι,ξ Xy.Δ,Z2 Xy.cells]) rfl rfl I λS B H t r aF an w aG aH aI aJ aK aL=>?_;obtain rfl:B=[]:=YL.1 w.holds.len;refine V.here (x:=one y) (m:=0) (nt:=23) (S:=S.lay r aF) (B:=[]) (σ:=[]) (env:=[(1,.Θ [ν Xy.Ι,ξ Xy.Δ,Z2 Xy.cells])]) ?_
  ⟨aK,Qy (YT.put (w.Zm.later aI) (d:=1) (by rw[w.size];omega) aL) I,Xx (TX ..) w.size,χ _⟩
 refine V.XO ag rfl ?_;refine Xu [1] [] ?_;refine W.ZF ?_;refine Y1 ?_;refine W.Zg (.stop ?_);intro M aM ao t2 ap j;obtain rfl:aM=[]:=YL.1 j.holds.len;rintro i rfl;obtain⟨a5,aN,aO⟩:=F2 tL;obtain⟨a6,aP,aQ⟩:=F2 tK;obtain⟨a7,aR,aS⟩:=F2 tJ;refine Zd.F4 f ⟨rfl,rfl,by simp[Frame.enter],rfl⟩ rfl rfl aN aO λm a8 _=>?_;refine Zd.next ?_ ?_ ?_
 .exact .inl f
 .rfl
 refine Zd.F4 ?_ ⟨rfl,rfl,by simp[Frame.enter],rfl⟩ rfl rfl aP aQ λs a9 aT=>?_
 .exact f
 refine Zd.next ?_ ?_ ?_
 .exact .inl f
 .rfl
 refine Zd.F4 ?_ ⟨rfl,rfl,by simp[Frame.enter],rfl⟩ rfl rfl aR aS λo aq aU=>?_
 .exact f
 have aV:m<s:=aT m _ (upd_same ..)
 have aW:s<o:=aU s _ (upd_same ..);obtain⟨sp,O⟩:∃sp:Spec,sp=⟨some m,NW r M o fd,λ_ E=>E=Χ.empty,3⟩:=⟨_,rfl⟩;have Z:∃q v,M r q=some v:=let ⟨u,ah⟩:=aH;⟨0,u,ap.ext.YO _ _ _ ah⟩;have aa:∃q x,ao.θ r q=some x:=let ⟨q,u,ah⟩:=Z;let ⟨p,w⟩:=j.holds.YO _ _ _ ah;⟨q,_,w⟩;have ar:r<o:=let ⟨_,_,h⟩:=aa;Ga h aq;have P:sp.ZO=some m:=by rw[O]
 have Q:sp.XQ=NW r M o fd:=by rw[O]
 have ab:∀k E,sp.D k E↔E=Χ.empty:=λk E=>by rw[O]
 have ad:sp.top=3:=by rw[O]
 clear O;have aX:sp.XQ [] (Χ.empty.YB o #[.slice none 0 0] 99):=by
  rw[Q];refine⟨⟨λb q x R=>?_,λb x R=>?_,λb x R=>(by cases R)⟩,Xz,_,tI,rfl⟩
  .by_cases e:b=o
   .exact .inr (e▸ar)
   .simp[Χ.YB,e,Χ.empty] at R
  .by_cases e:b=o
   .exact e▸ar
   .simp[Χ.YB,e,Χ.empty] at R
 refine Zd.group (y:=i) (sp:=sp) f Y aV aW P aq aX ?_;obtain⟨ai,aj⟩:=Η ({i with spec:=upd i.spec s (some sp)}:ZZ);have aY:({i with tok:=upd i.tok s (.par 0 0 .add),spec:=upd i.spec s (some sp),view:=upd i.view s none}:ZZ)=ZI ai s (.par 0 0 .add) none 0:=by
  rw[aj];unfold ZI;simp only[aE]
 rw[aY];have T:T4 ai s sp:=by
  rw[aj];refine⟨f,Y,upd_same ..,by rw[ad];decide,λC _=>?_⟩;have:=am C;show Tl (i.tok C);cases au:i.tok C with
  | nil=>trivial
  | par n p aZ=>rw[au] at this;cases aZ<;>first|trivial|exact this.elim
  | ch k a' g=>rw[au] at this;exact this.elim
 have a0:∀v,Calm (ZI ai s (.par 3 0 .ZP) v 0):=λv=>by
  rw[aj];refine⟨f,Y,rfl,λC=>?_⟩;by_cases e:C=s
  .subst e;rw[Zn];trivial
  .rw[Lk e];exact am C
 have ae:=T.seq
 have a1:=X.Ut
 have a2:Ext ak [] af M [] ao:=an.ext.trans (aJ.trans ap.ext)
 have a3:af.fresh r:=an.ext.grow _ aG;refine V.here (x:=one _) (m:=0) (nt:=23) (S:=M) (B:=[]) (σ:=[]) (env:=env0 s m o Xy []) ?_
  ⟨j.holds,Qy (YT.put (YT.put (YT.put j.Zm (d:=3) (by rw[j.size];omega) (.z (ptr m 0))) (d:=4) (by rw[TX,j.size];omega) (.z (ptr s 0))) (d:=5) (by rw[TX,TX,j.size];omega) (.z (ptr o 0))) I,
   Xx (TX ..) (Xx (TX ..) (Xx (TX ..) j.size)),χ _⟩ _ rfl
 have w1:IntKind.i64.wrap 1=1:=ZY
 have K:IntKind.i64.wrap 2=2:=ZY
 have L:IntKind.i64.wrap 3=3:=ZY;refine V.XO (ae _ _ _) rfl ?_;refine W.ZF ?_;refine Wj ?_;refine .loop ?_;refine Wj ?_;refine Y4 (A:=[6]) Ρ λU a=>Z6 ?_;apply a;refine W.fix (id:=0) (σ':=[]) (χ _) rfl I I rfl ((6,.Θ [J 0])::env0 s m o Xy [(8,J 0)]) I ?_;refine Wj ?_;refine .loop ?_;refine Wj ?_;refine W.exit rfl ?_;refine Wi (Υ w1 (Υ K L)) ?_;refine .inLoop ?_;refine Wj ?_;refine Y4 (A:=[6]) Ρ λU a=>Z6 ?_;apply a;refine W.fix (id:=0) (σ':=[]) (χ _) rfl I I rfl ((6,.Θ [J 1])::env0 s m o Xy [(8,J 1)]) I ?_;refine Wj ?_;refine .loop ?_;refine Wj ?_;refine Y4 (A:=[7]) Ρ λU a=>Z6 ?_;apply a;refine W.fix (id:=0) (σ':=[]) (χ _) rfl I I rfl (MK s m o Xy 1 0 [(8,J 1),(11,J 1),(12,J 0)]) I ?_;refine W.stop (F3 av T P Q (λk=>(ab k _).2 rfl) ad ZY X Z aa I ?_);refine V.XO (ae _ _ _) rfl ?_;refine Wi (Υ w1 (Υ K L)) ?_;refine .inLoop ?_;refine Wj ?_;refine W.exit rfl ?_;refine Wi (Υ w1 (Υ K L)) ?_;refine .inLoop ?_;refine Wj ?_;refine Y4 (A:=[6]) Ρ λU a=>Z6 ?_;apply a;refine W.fix (id:=0) (σ':=[]) (χ _) rfl I I rfl ((6,.Θ [J 2])::env0 s m o Xy [(8,J 2)]) I ?_;refine Wj ?_;refine .loop ?_;refine Wj ?_;refine Y4 (A:=[7]) Ρ λU a=>Z6 ?_;apply a;refine W.fix (id:=0) (σ':=[]) (χ _) rfl I I rfl (MK s m o Xy 2 0 [(8,J 2),(11,J 2),(12,J 0)]) I ?_;refine W.stop (F3 aw T P Q (λk=>(ab k _).2 rfl) ad ZY X Z aa I ?_);refine V.XO (ae _ _ _) rfl ?_;refine Wi (Υ w1 (Υ K L)) ?_;refine .inLoop ?_;refine Wj ?_;refine Y4 (A:=[7]) Ρ λU a=>Z6 ?_;apply a;refine W.fix (id:=0) (σ':=[]) (χ _) rfl I I rfl (MK s m o Xy 2 1 [(8,J 2),(11,J 2),(12,J 1)]) I ?_;refine W.stop (F3 ax T P Q (λk=>(ab k _).2 rfl) ad ZY X Z aa I ?_);refine V.XO (ae _ _ _) rfl ?_;refine Wi (Υ w1 (Υ K L)) ?_;refine .inLoop ?_;refine Wj ?_;refine W.exit rfl ?_;refine Wi (Υ w1 (Υ K L)) ?_;refine .inLoop ?_;refine Wj ?_;refine W.exit rfl ?_;refine W.forget (env0 s m o Xy []) I ?_;refine W.stop ?_;exact tM T P Q (λk E=>(ab k E).1) a1 ay az a0 aD a2 a3
end
end Go.TL
