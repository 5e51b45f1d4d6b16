import Derived.Test.YtlabjopijpkiaaaGreatGAC
set_option maxHeartbeats 16000000
set_option maxRecDepth 20000
set_option linter.unusedSectionVars false
set_option linter.unusedSimpArgs false
set_option linter.unusedVariables false
namespace Go.TL
open Go.Conc
def WK (T:Z5) (kt:TypeId) (k:I):List (I×I)->Nat->Option (Option (Nat×I))
 | [],_=>some none
 | e::r,i=>match aeqv T kt k e.1 with
  | some b=>bif b then some (some (i,e.2)) else WK T kt k r (i+1)
  | none=>none
def Tp (T:Z5) (kt:TypeId) (k:I):Bool:=match T kt with
 | some i=>match k with
  | .z _=>Wd i.ZN
  | .Z9 xs=>match i.ZN,i.eqs with
   | .array _ _,some a=>xs.length==a.length&&(VO a xs xs).isSome
   | _,_=>false
  | _=>false
 | none=>false
section
variable {P:Program} {T:Z5} {S:Α} {B:θ} {H:Ψ} {σ:Υ}
theorem GB {a:TypeId} {d:TypeDesc} (hd:P.underlying a=some d) (b:Wd d=true) {v:Value} {em:Bool} {n:Nat} {G:Ψ} {K:Unit->Ψ->Prop} {E:Value->Ψ->Prop} (c:K () G):Ω P (Instr.checkKey em (n+1) a v) G K E:=by
 unfold Instr.checkKey;refine Ω.bind' (Ω.underlying hd ?_);cases d<;>first|(cases b;done)|(cases v<;>exact Ω.pure' c)
theorem I4 (t:ZJ P T) {kt:TypeId} {k:I} {v:Value} (u:Θ S B σ k v) (h:Tp T kt k=true) {em:Bool} {G:Ψ} {K:Unit->Ψ->Prop} {E:Value->Ψ->Prop} (o:K () G):Ω P (Instr.checkKey em 10000 kt v) G K E:=by
 unfold Tp at h;split at h
 .rename_i i hi;obtain⟨⟨p,g⟩,_⟩:=t kt i hi;split at h
  .exact GB (n:=9999) p h o
  .rename_i xs;split at h
   .rename_i n e U w A;rw[A] at g;simp only[VE,beq_iff_eq] at h;obtain⟨_,_,g⟩:=g;rcases g with⟨V,j,_⟩|⟨m,Χ,d,f,j,r,s,C,D,F⟩
    .rw[p,w] at j;cases j
    .cases u with
     | Z9 vs H J=>
      have L:=MV (.Z9 vs H J)
      show Ω P (Instr.checkKey em (9999+1) kt _) G K E;unfold Instr.checkKey;refine Ω.bind' (Ω.underlying j ?_);simp only;rw[forIn_range];refine Ω.bind' ?_;have c:∃b,VO ((List.range m).map λi=>(d,i)) xs xs=some b:=by
       rw[<-F];exact Option.isSome_iff_exists.1 h.2
      have M:∀(l:List Nat) (b:Bool),VO (l.map λi=>(d,i)) xs xs=some b->Ω P (forIn l PUnit.unit λ(i:Nat) (_:PUnit)=>do
        let a <-sizeOf Χ
        let b <-part Χ vs (i*a)
        Instr.checkKey em 9999 Χ b
        pure (ForInStep.yield PUnit.unit)) G (λ_ G'=>K () G') E:=by
       intro l
       induction l with
       | nil=>intro b _;exact .forIn_nil o
       | cons i l N=>
        intro b c;simp only[Xt,VO] at c;split at c<;>try cases c
        rename_i x y O W;split at c<;>try cases c
        rename_i X Q Y R;refine .forIn_cons ?_;refine Ω.bind' (Ω.sizeOf C ?_);rw[D];refine Ω.bind' (MU r s (by rw[Py];exact L _ _ O) ?_);refine Ω.bind' (GB (n:=9998) r s ?_);exact Ω.pure' (N Q R)
      obtain⟨b,c⟩:=c;exact Ω.mono (λ_ G' h=>Ω.pure' h) (λ_ _ h=>h) _ (M (List.range m) b c)
   .cases h
  .cases h
 .cases h
def Pd (S:Α) (B:θ) (σ:Υ) (es:List (I×I)) (a:List MapEntry):Prop:=es.length=a.length/\∀(i:Nat) (e:I×I) (y:MapEntry),es[i]?=some e->a[i]?=some y->Θ S B σ e.1 y.key/\Θ S B σ e.2 y.val
theorem Pd.tail {e:I×I} {es:List (I×I)} {y:MapEntry} {a:List MapEntry} (h:Pd S B σ (e::es) (y::a)):(Θ S B σ e.1 y.key/\Θ S B σ e.2 y.val)/\Pd S B σ es a:=
 ⟨h.2 0 e y rfl rfl,⟨by simpa using h.1,λi b c d f=>h.2 (i+1) b c d f⟩⟩
theorem K5 {kt:TypeId} {k:I}:∀(es:List (I×I)) (n i:Nat) (a:I),WK T kt k es n=some (some (i,a))->n<=i/\∃c,es[i-n]?=some (c,a)/\aeqv T kt k c=some true:=by
 intro es
 induction es with
 | nil=>intro n i a h;cases h
 | cons e es d=>
  intro n i a h;unfold WK at h;split at h
  .rename_i b f;cases b with
   | true=>cases h;exact⟨ZO _,e.1,J,f⟩
   | false=>
    obtain⟨l,c,g,j⟩:=d (n+1) i a h;refine⟨U,c,?_,j⟩;have:i-n=(i-(n+1))+1:=U;rw[this,List.getElem?_cons_succ];exact g
  .cases h
def UM (a:List MapEntry) (b:Nat) (r:Option (Nat×I)):Option (Nat×Value):=r.map λx=>(x.1,((a[x.1-b]?).map (·.val)).getD undef)
theorem BH {d:TypeDesc} {x y:Value} {b:Bool} (h:Ur d x y=some b):Instr.sameNow d x y=some b:=by
 unfold Ur at h;split at h
 .split at h
  .rename_i e;subst e;cases h;simp[Instr.sameNow]
  .cases h
 .cases h;rfl
 .cases h;rfl
 .cases h
theorem BG (p:ZJ P T) {kt:TypeId} {i:WA} (hi:T kt=some i) {k:I} {v:Value} (j:Θ S B σ k v) (l:∃u,k=.z u):∀(es:List (I×I)) (a:List MapEntry) (n:Nat) (r:Option (Nat×I)),Pd S B σ es a->WK T kt k es n=some r->
  Instr.findNow i.ZN v a n=some (UM a n r):=by
 obtain⟨u,rfl⟩:=l;cases j;intro es
 induction es with
 | nil=>
  intro a n r d h;have:a=[]:=by have:=d.1;simpa using this.symm
  subst this;cases h;rfl
 | cons e es m=>
  intro a n r d h;cases a with
  | nil=>have:=d.1;simp at this
  | cons y a=>
   obtain⟨⟨g,s⟩,o⟩:=d.tail;unfold WK at h;split at h
   .rename_i b c;have hv:Ur i.ZN v y.key=some b:=by
     unfold aeqv at c;rw[hi] at c;simp only at c;split at c
     .rename_i x t f Χ;rw[Χ] at g;cases g;cases f;split at c
      .exact c
      .cases c
     .rename_i f _;cases f
     .cases c
    unfold Instr.findNow;rw[BH hv];cases b with
    | true=>cases h;simp[UM]
    | false=>
     have:=m a (n+1) r o h;simp only[this];congr 1;unfold UM;cases r with
     | none=>rfl
     | some x=>
      simp only[Option.map_some];have w:n+1<=x.1:=(K5 es (n+1) x.1 x.2 h).1;have:x.1-n=(x.1-(n+1))+1:=U;rw[this,List.getElem?_cons_succ]
   .cases h
theorem BF (f:ZJ P T) {kt:TypeId} {k:I} {v:Value} (g:Θ S B σ k v) {E:Value->Ψ->Prop}:∀(es:List (I×I)) (a:List MapEntry) (n:Nat) (r:Option (Nat×I)) (K:Option (Nat×Value)->Ψ->Prop),Pd S B σ es a->WK T kt k es n=some r->
  K (UM a n r) H->Ω P (Instr.findAsking kt v a n) H K E:=by
 intro es
 induction es with
 | nil=>
  intro a n r K c h d;have:a=[]:=by have:=c.1;simpa using this.symm
  subst this;cases h;exact Ω.pure' d
 | cons e es i=>
  intro a n r K c h d;cases a with
  | nil=>have:=c.1;simp at this
  | cons y a=>
   obtain⟨⟨j,o⟩,l⟩:=c.tail;unfold WK at h;split at h
   .rename_i b m;unfold Instr.findAsking;refine Ω.bind' (I5 f g j m ?_);cases b with
    | true=>cases h;simp only[if_true];exact Ω.pure' (by simpa[UM] using d)
    | false=>
     simp only[Xu,if_false];refine i a (n+1) r K l h ?_;have:UM (y::a) n r=UM a (n+1) r:=by
      unfold UM;cases r with
      | none=>rfl
      | some x=>
       simp only[Option.map_some];have p:n+1<=x.1:=(K5 es (n+1) x.1 x.2 h).1;have:x.1-n=(x.1-(n+1))+1:=U;rw[this,List.getElem?_cons_succ]
     rw[<-this];exact d
   .cases h
theorem I3 (c:ZJ P T) {kt:TypeId} {k:I} {v:Value} (f:Θ S B σ k v) (b:Tp T kt k=true) {es:List (I×I)} {a:List MapEntry} {r:Option (Nat×I)} (d:Pd S B σ es a) (h:WK T kt k es 0=some r) {K:Option (Nat×Value)->Ψ->Prop} {E:Value->Ψ->Prop} (e:K (UM a 0 r) H) :
  Ω P (Instr.findKey kt v a) H K E:=by
 unfold Instr.findKey;unfold Tp at b;split at b
 .rename_i i hi;refine Ω.bind' (c.ZN hi ?_);split at b
  .rw[BG c hi f ⟨_,rfl⟩ es a 0 r d h];exact Ω.pure' e
  .rename_i xs;cases f with
   | Z9 vs g j=>
    cases a with
    | nil=>
     have:es=[]:=by have:=d.1;simpa using this
     subst this;cases h;exact Ω.pure' e
    | cons y a=>
     have l:Instr.findNow i.ZN (.agg vs) (y::a) 0=none:=by
      unfold Instr.findNow;have:Instr.sameNow i.ZN (.agg vs) y.key=none:=by unfold Instr.sameNow;cases i.ZN<;>rfl
      rw[this]
     rw[l];exact BF c (.Z9 vs g j) es (y::a) 0 r K d h e
  .cases b
 .cases b
def To (σ:Υ) (id:Nat):Bool:=σ.all λr=>match r with|.iter m _ _=>m != id|_=>true
theorem BE {id:Nat} (h:To σ id=true):∀(j:Nat) left a,σ[j]?≠some (Row.iter id left a):=λj left a b=>by
 have:=WN.1 h _ (Zk b);simp at this
def Pb (T:Z5) (a:TypeId):Option (TypeId×TypeId):=match T a with
 | some i=>match i.ZN with|.map k v=>some (k,v)|_=>none
 | none=>none
theorem K4 {a kt vt:TypeId} (h:Pb T a=some (kt,vt)):∃i,T a=some i/\i.ZN=.map kt vt:=by
 unfold Pb at h;split at h
 .rename_i i hi;split at h
  .rename_i k v b;cases h;exact⟨i,hi,b⟩
  .cases h
 .cases h
def I2 (σ:Υ):Za:=.ok (.mp σ.length) (σ++[.map []])
theorem BD (c:Holds S B σ H) (d:TypeId):Zh P (Instr.makeMap d none) S B H σ (I2 σ):=by
 intro K f;unfold Instr.makeMap;refine Ω.bind' ?_;refine λr g=>?_;have h:∀b,(∀N,some (r,0)≠some (b,N))->Vj H (H.ZL r (.map #[] 0)) b:=λb k=>by
  have l:b≠r:=λe=>by subst e;exact k _ rfl
  exact⟨λo=>rfl,rfl,by simp[Ψ.ZL,l]⟩
 have m:ZC S S B (B++[some (r,0)]) σ (σ++[.map []])->VP S (B++[some (r,0)]) (σ++[.map []]) (H.ZL r (.map #[] 0)) (.map []) (some (r,0)):=λ_=>
  ⟨r,0,#[],0,rfl,by simp[Ψ.ZL],rfl,λi e y a=>by simp at a,λi j y z a=>by simp at a⟩
 obtain⟨a,n,p⟩:=c.push (λb N e=>by cases e;exact g) h m;exact Ω.pure' ⟨_,_,_,_,f,n,a,p,.mp (es:=[]) (N:=0) (Le σ _) (Ld c.len _)⟩
def K3 (T:Z5) (d:TypeId) (b:Bool) (σ:Υ) (e k:I):Za:=match Pb T d,e with
 | some (kt,vt),.mp id=>match σ[id]?,T vt with
  | some (.map es),some c=>if Tp T kt k=true then match WK T kt k es 0 with
   | some (some (_,a))=>.ok (if b then .ZP [a,.z (.bool true)] else a) σ
   | some none=>.ok (if b then .ZP [WS c.zero,.z (.bool false)] else WS c.zero) σ
   | none=>.bad else .bad
  | _,_=>.bad
 | _,_=>.bad
theorem MT (c:Holds S B σ H) {id b N:Nat} {es:List (I×I)} (d:σ[id]?=some (.map es)) (f:B[id]?=some (some (b,N))):∃xs a,H.obj b=some (.map xs a)/\QV S B σ es xs a:=by
 obtain⟨i,j,xs,a,e,g,h⟩:=c.row id _ _ d f;cases e;exact⟨xs,a,g,h⟩
theorem QV.Oc {es:List (I×I)} {xs:Array MapEntry} {d:Nat} (h:QV S B σ es xs d):Pd S B σ es xs.toList:=
 ⟨by simpa using h.1,λi e y f c=>by rw[V7] at c;obtain⟨a,b,_⟩:=h.2.1 i e y f c;exact⟨a,b⟩⟩
theorem BC (l:ZJ P T) (g:Holds S B σ H) {n:TypeId} {e:Bool} {mp k:I} {u v:Value} (J:Θ S B σ mp u) (w:Θ S B σ k v):Zh P (Instr.lookup n u v e) S B H σ (K3 T n e σ mp k):=by
 unfold K3;split
 .rename_i kt vt id L;obtain⟨i,hi,M⟩:=K4 L;split
  .rename_i es X o O;split
   .rename_i A;cases J with
    | mp j Q=>
     rename_i b N;rw[o] at j;cases j;obtain⟨xs,Y,R,s⟩:=MT g o Q;have C:∀(r:Option (Nat×I)) (t:Za),WK T kt k es 0=some r->(∀(K:I->Υ->Prop),t.holds K->∃(x:I) (y:Value),True/\Ω P (do
       let (v,U) <-match UM xs.toList 0 r with
        | some (_,v)=>pure (v,true)
        | none=>do pure (<-zeroValue vt,false)
       pure (if e then .tuple #[v,.bool U] else v)) H (Wc S B H σ K) (λ_ _=>False))->Zh P (Instr.lookup n (.map (some b)) v e) S B H σ t:=λr t f V K d=>by
      unfold Instr.lookup;refine Ω.bind' (l.ZN hi ?_);rw[M];refine Ω.bind' ?_;refine⟨_,R,rfl,?_⟩;refine Ω.bind' (Ω.pure' ?_);refine Ω.bind' (I4 l w A ?_);refine Ω.bind' (I3 l w A s.Oc f ?_);obtain⟨_,_,_,h⟩:=V K d;cases m:UM xs.toList 0 r with
      | none=>rw[m] at h;exact h
      | some p=>rw[m] at h;exact h
     split
     .rename_i c a f;refine C _ _ f λK d=>⟨a,undef,trivial,?_⟩;obtain⟨_,Z,D,_⟩:=K5 es 0 c a f;have E:c<xs.size:=by have:=(ZD.1 D).1;rw[<-s.1];simpa using this
      have W:xs[c]?=some xs[c]:=X4 E;obtain⟨_,F,_⟩:=s.2.1 c _ _ (by simpa using D) W;have m:UM xs.toList 0 (some (c,a))=some (c,xs[c].val):=by simp[UM,E]
      rw[m];refine Ω.bind' (Ω.pure' (Ω.pure' ?_));cases e with
      | true=>exact .same g d (Ol F (.z _))
      | false=>exact .same g d F
     .rename_i f;refine C _ _ f λK d=>⟨.Zw,undef,trivial,?_⟩;refine Ω.bind' (l.zero O ?_);refine Ω.bind' (Ω.pure' (Ω.pure' ?_));cases e with
      | true=>exact .same g d (Ol (Sl _) (.z _))
      | false=>exact .same g d (Sl _)
     .exact .bad
    | UO v j=>rw[o] at j;cases j
   .exact .bad
  .exact .bad
 .exact .bad
def MS (T:Z5) (a:TypeId) (σ:Υ) (b k x:I):Za:=match Pb T a,b with
 | some (kt,_),.mp id=>match σ[id]? with
  | some (.map es)=>if Tp T kt k=true/\To σ id=true then match WK T kt k es 0 with
   | some (some (i,_))=>.ok .Zw (σ.set id (.map (es.set i (k,x))))
   | some none=>.ok .Zw (σ.set id (.map (es++[(k,x)])))
   | none=>.bad else .bad
  | _=>.bad
 | _,_=>.bad
theorem I1 (c:Holds S B σ H) {id b N:Nat} {es es':List (I×I)} {xs':Array MapEntry} {clock':Nat} (d:σ[id]?=some (.map es)) (f:B[id]?=some (some (b,N))) (g:To σ id=true) (h:∀{B':θ} {σ':Υ},ZC S S B B' σ σ'->QV S B' σ' es' xs' clock') :
  Holds S (B.set id (some (b,N))) (σ.set id (.map es')) (H.ZL b (.map xs' clock'))/\Ext S B H S (B.set id (some (b,N))) (H.ZL b (.map xs' clock'))/\ZC S S B (B.set id (some (b,N))) σ (σ.set id (.map es')):=
 c.On d trivial f (.inl ⟨es',rfl,rfl⟩) (λa i e=>.inl ⟨i,e⟩) (λa j _=>by
  have k:a≠b:=λe=>by subst e;exact j N rfl
  exact⟨λo=>rfl,rfl,by simp[Ψ.ZL,k]⟩) Ψ.Jj (BE g) λl=>⟨b,N,xs',clock',rfl,by simp[Ψ.ZL],h l⟩
theorem GA (m:ZJ P T) (O:Holds S B σ H) {ab:TypeId} {mp k x:I} {u v w:Value} (aj:Θ S B σ mp u) (n:Θ S B σ k v) (ad:Θ S B σ x w):Oj P (Instr.mapUpdate ab u v w) S B H σ (MS T ab σ mp k x):=by
 unfold MS;split
 .rename_i kt vt id ak;obtain⟨i,hi,ae⟩:=K4 ak;split
  .rename_i es r;split
   .rename_i al;obtain⟨D,af⟩:=al;cases aj with
    | mp s Q=>
     rename_i b N;rw[r] at s;cases s;obtain⟨xs,R,E,f⟩:=MT O r Q;split
     .rename_i h a F;obtain⟨_,aw,o,am⟩:=K5 es 0 h a F;simp only[Nat.sub_zero] at o;have ag:h<es.length:=(ZD.1 o).1;have ah:h<xs.size:=by rw[<-f.1];exact ag
      have t:xs[h]?=some xs[h]:=X4 ah;obtain⟨an,ax,ao⟩:=f.2.1 h _ _ o t;obtain⟨ai,Χ,ap⟩:=BI m n an am;intro K V;unfold Instr.mapUpdate;refine Ω.bind' (m.ZN hi ?_);rw[ae];refine Ω.bind' ⟨_,E,rfl,Ω.pure' ?_⟩;refine Ω.bind' (I4 m n D ?_);refine Ω.bind' (I3 m n D f.Oc F ?_);have aq:UM xs.toList 0 (some (h,a))=some (h,xs[h].val):=by simp[UM,ah]
      rw[aq];simp only[t,Option.map_some,Option.getD_some];unfold Instr.keyThatStays;rw[<-ai];simp only[ap,if_true];refine Ω.bind' (Ω.pure' ?_);obtain⟨W,X,Y⟩:=I1 O (es':=es.set h (k,x)) (xs':=xs.modify h λe=>{e with key:=v,val:=w}) (clock':=R) r Q af λ{B' σ'} l=>by
       refine⟨by simp[f.1],λj e y c d=>?_,λj J y z c d Z=>?_⟩
       .rw[Array.getElem?_modify] at d;by_cases p:h=j
        .subst p;rw[WE ag] at c;rw[if_pos rfl,t] at d;cases c;cases d;exact⟨n.later l,ad.later l,ao⟩
        .rw[VT p] at c;rw[if_neg p] at d;obtain⟨A,C,L⟩:=f.2.1 j e y c d;exact⟨A.later l,C.later l,L⟩
       .have born:∀(j:Nat) (y:MapEntry),(xs.modify h λe=>{e with key:=v,val:=w})[j]?=some y->∃M,xs[j]?=some M/\y.born=M.born:=λj y g=>by
         rw[Array.getElem?_modify] at g;by_cases p:h=j
         .subst p;rw[if_pos rfl,t] at g;cases g;exact⟨_,t,rfl⟩
         .rw[if_neg p] at g;exact⟨y,g,rfl⟩
        obtain⟨M,A,C⟩:=born j y c;obtain⟨ar,L,au⟩:=born J z d;rw[C,au];exact f.2.2 j J M ar A L Z
      exact⟨⟨_,E⟩,rfl,rfl,Ω.pure' ⟨S,_,_,_,V,X,W,Y,.Zw _⟩⟩
     .rename_i F;intro K V;unfold Instr.mapUpdate;refine Ω.bind' (m.ZN hi ?_);rw[ae];refine Ω.bind' ⟨_,E,rfl,Ω.pure' ?_⟩;refine Ω.bind' (I4 m n D ?_);refine Ω.bind' (I3 m n D f.Oc F ?_);simp only[UM,Option.map_none];obtain⟨W,X,Y⟩:=I1 O (es':=es++[(k,x)]) (xs':=xs.push {key:=v,val:=w,born:=R}) (clock':=R+1) r Q af λ{B' σ'} l=>by
       refine⟨by simp[f.1],λj e y c d=>?_,λj J y z c d Z=>?_⟩
       .by_cases aa:j<es.length
        .rw[YU aa] at c;rw[OF,if_neg (by rw[<-f.1];omega)] at d;obtain⟨A,C,L⟩:=f.2.1 j e y c d;exact⟨A.later l,C.later l,U⟩
        .rw[XT U] at c;have av:j=es.length:=by
          have:=(ZD.1 c).1;simp at this;omega
         subst av;rw[OF,if_pos f.1] at d;simp at c;subst c;cases d;exact⟨n.later l,ad.later l,Q4 _⟩
       .rw[OF] at c d;split at c
        .rename_i ai;split at d
         .omega
         .have:=(UA.1 d).1;omega
        .split at d
         .cases d;have aa:=(UA.1 c).1;have o:∃e,es[j]?=some e:=⟨_,ε (by rw[f.1];exact aa)⟩;obtain⟨e,o⟩:=o;exact(f.2.1 j e y o c).2.2
         .exact f.2.2 j J y z c d Z
      exact⟨⟨_,E⟩,rfl,rfl,Ω.pure' ⟨S,_,_,_,V,X,W,Y,.Zw _⟩⟩
     .exact .bad
    | UO v s=>rw[r] at s;cases s
   .exact .bad
  .exact .bad
 .exact .bad
end
section
variable {P:Program} {T:Z5} {S:Α} {B:θ} {H:Ψ} {σ:Υ}
def K2 (T:Z5) (a:TypeId) (σ:Υ) (b:I):Za:=match Pb T a,b with
 | some _,.mp id=>match σ[id]? with
  | some (.map es)=>.ok (.it σ.length) (σ++[.iter id es none])
  | _=>.bad
 | _,_=>.bad
theorem BB (C:ZJ P T) (h:Holds S B σ H) {n:TypeId} {mp:I} {u:Value} (D:Θ S B σ mp u):Zh P (Instr.range n u) S B H σ (K2 T n σ mp):=by
 unfold K2;split
 .rename_i p id E;obtain⟨i,hi,F⟩:=K4 (kt:=p.1) (vt:=p.2) E;split
  .rename_i es a;cases D with
   | mp c s=>
    rename_i b N;rw[a] at c;cases c;obtain⟨xs,d,k,l⟩:=MT h a s;intro K L;unfold Instr.range;refine Ω.bind' (C.ZN hi ?_);rw[F];refine Ω.bind' ?_;refine⟨_,k,rfl,?_⟩;refine Ω.bind' (Ω.pure' ?_);refine Ω.bind' ?_;refine λr t=>?_;have m:b≠r:=λe=>by subst e;rw[t.2.2.1] at k;cases k
    have w:id<σ.length:=(ZD.1 a).1
    have M:∀f,(∀N,some (r,0)≠some (f,N))->Vj H (H.ZL r (.mapIter (some b) d #[] d)) f:=λf O=>by
     have m:f≠r:=λe=>by subst e;exact O _ rfl
     exact⟨λo=>rfl,rfl,by simp[Ψ.ZL,m]⟩
    have Q:ZC S S B (B++[some (r,0)]) σ (σ++[.iter id es none])->VP S (B++[some (r,0)]) (σ++[.iter id es none]) (H.ZL r (.mapIter (some b) d #[] d)) (.iter id es none) (some (r,0)):=λx=>by
     refine⟨r,0,b,N,xs,d,#[],rfl,by rw[YU (by rw[h.len];exact w)];exact s,⟨es,by rw[YU w];exact a⟩,by simp[Ψ.ZL],by simp[Ψ.ZL,m,k],⟨xs.toList,?_,by simpa using l.1,λi e y R U=>?_⟩,λy V=>?_,λe g=>by cases g⟩
     .exact(List.filter_eq_self.2 λe _=>J).symm
     .obtain⟨W,X⟩:=l.Oc.2 i e y R U;exact⟨W.later x,X.later x⟩
     .obtain⟨j,A,rfl⟩:=Array.getElem_of_mem V;have g:∃e,es[j]?=some e:=⟨_,ε (by rw[l.1];exact A)⟩;obtain⟨e,g⟩:=g;exact(l.2.1 j e _ g (X4 A)).2.2
    obtain⟨Y,Z,aa⟩:=h.push (λf ab e=>by cases e;exact t) M Q;exact Ω.pure' ⟨_,_,_,_,L,Z,Y,aa,.it (Le σ _) (Ld h.len _)⟩
   | UO v c=>rw[a] at c;cases c
  .exact .bad
 .exact .bad
theorem BA {c:Type} (f:c->Nat):∀(l:List c) (i:Nat) (e:c),(l.map f).Nodup->l[i]?=some e->l.filter (λx=>f x != f e)=l.eraseIdx i:=by
 intro l
 induction l with
 | nil=>intro i e _ h;simp at h
 | cons a l d=>
  intro i e b h;simp only[Xt,RS] at b;cases i with
  | zero=>
   simp at h;subst h;rw[L0];simp only[bne_self_eq_false,Xu,if_false,List.eraseIdx_cons_zero];rw[List.filter_eq_self];intro x g;simp only[bne_iff_ne,ne_eq];intro e;exact b.1 (e▸List.mem_map_of_mem g)
  | succ i=>
   simp only[List.getElem?_cons_succ] at h;have j:f a≠f e:=λx=>b.1 (x▸List.mem_map_of_mem (Zk h));rw[L0];simp only[bne_iff_ne,ne_eq,j,not_false_eq_true,if_true,List.eraseIdx_cons_succ];rw[d i e b.2 h]
theorem Bz {es:List (I×I)} {xs:Array MapEntry} {a:Nat} (h:QV S B σ es xs a):(xs.toList.map (·.born)).Nodup:=by
 rw[List.Nodup,L1,S4];intro i j hi b c;have:=h.2.2 i j _ _ (X4 (by simpa using hi)) (X4 (by simpa using b)) c;simp only[Array.getElem_toList];omega
def K1 (σ:Υ) (a:I):Za:=match a with
 | .it id=>match σ[id]? with
  | some (.iter m left _)=>if left.isEmpty=true then .ok (.ZP [.z (.bool false)]) σ else
    .all left.length λi=>match left[i]? with
     | some e=>.ok (.ZP [.z (.bool true),e.1,e.2]) (σ.set id (.iter m (left.eraseIdx i) (some e)))
     | none=>.bad
  | _=>.bad
 | _=>.bad
theorem By {a b c:I} {u v w:Value} (f:Θ S B σ a u) (g:Θ S B σ b v) (h:Θ S B σ c w):Θ S B σ (.ZP [a,b,c]) (.tuple #[u,v,w]):=by
 refine .ZP _ rfl λi j k d e=>?_
 match i with
 | 0=>simp at d e;subst d;subst e;exact f
 | 1=>simp at d e;subst d;subst e;exact g
 | 2=>simp at d e;subst d;subst e;exact h
 | i+3=>simp at d
theorem Bx (r:Holds S B σ H) {it:I} {u:Value} (aC:TypeId) (hi:Θ S B σ it u):Zh P (Instr.next u false aC) S B H σ (K1 σ it):=by
 unfold K1;split
 .rename_i id;split
  .rename_i m left aW s;cases hi with
   | it A ak=>
    rename_i aX aY aZ b N;rw[s] at A;cases A;obtain⟨T,al,L,aD,xs,f,seen,V,am,⟨es,M⟩,W,C,⟨t,X,Y,Z⟩,aa,a0⟩:=r.row id _ _ s ak;cases V;obtain⟨xs',clock',an,aE⟩:=MT r M am;rw[C] at an;cases an;have ao:=Bz aE;have ab:L≠b:=λe=>by subst e;rw[W] at C;cases C
    intro K ad;have aF:(xs.filter λe=>!seen.contains e.born).toList=t:=by rw[X];simp
    have aG:(!seen.isEmpty&&!xs.isEmpty&&xs.all (λe=>decide (e.born>=f)))=false:=by
     cases ap:xs.isEmpty with
     | true=>simp
     | false=>
      have D:0<xs.size:=by
       rw[Array.isEmpty_eq_false_iff] at ap;exact Array.size_pos_iff.2 ap
      have aH:xs.all (λe=>decide (e.born>=f))=false:=by
       rw[Array.all_eq_false];refine⟨0,D,?_⟩;have:=aa xs[0] (Array.getElem_mem D);simp;exact this
      rw[aH];simp
    have aI:∀z:Array MapEntry,z=xs.filter (λe=>!seen.contains e.born)->z.filter (λe=>decide (e.born<f))=z/\z.filter (λe=>decide (e.born>=f))=#[]:=λz E=>by
     have aq:∀e∈z,e.born<f:=λe k=>by rw[E] at k;exact aa e (Array.mem_of_mem_filter k)
     constructor
     .rw[Array.filter_eq_self];intro e k;simpa using aq e k
     .rw[Array.filter_eq_empty_iff];intro e k;simpa using aq e k
    unfold Instr.next;refine Ω.bind' ?_;refine⟨_,W,rfl,?_⟩;refine Ω.pure' ?_;simp only;refine Ω.bind' ?_;refine⟨_,C,rfl,?_⟩;refine Ω.pure' ?_;simp only[aG,Xu,if_false];generalize E:xs.filter (λe=>!seen.contains e.born)=z;obtain⟨f1,f2⟩:=aI z E.symm;rw[f1,f2];have O:z.toList=t:=by rw[<-E];exact aF
    by_cases Q:left.isEmpty=true
    .have aJ:left=[]:=Q5.1 Q;subst aJ;have aK:z=#[]:=by
      have:t=[]:=YV.1 (by rw[<-Y];rfl);rw[this] at O;exact Array.toList_eq_nil_iff.1 O
     subst aK;have V:((if(#[]:Array MapEntry).isEmpty=true then #[none] else #[])++Array.map some (#[]++#[]:Array MapEntry))=#[none]:=J;rw[V];refine Ω.bind' ?_;show Ω P (choose (.mapNext 1)) H _ _;unfold choose;simp only[Ω,Question.forced,ZO,decide_true,if_true];exact Ω.pure' (.same r ad (.ZP _ rfl λi a v g p=>by
      match i with
      | 0=>simp at g p;subst g;subst p;exact .z _
      | i+1=>simp at g))
    .rw[if_neg Q] at ad;have ae:z.size=left.length:=by rw[Y,<-O];simp
     have aL:z.isEmpty=false:=by
      rw[Array.isEmpty_eq_false_iff];intro e;rw[e] at ae;exact Q (Q5.2 (YV.1 ae.symm))
     simp only[aL,Xu,if_false,PC,Array.empty_append];refine Ω.bind' ?_;have ar:∀i,i<left.length->Ω P (match (z.map some)[i]? with
       | some (some e)=>do
        setObj b (.mapIter (some L) f (seen.push e.born) f)
        pure (.tuple #[.bool true,e.key,e.val])
       | some none=>pure (.tuple #[.bool false])
       | none=>stuck "Next: no such candidate") H (Wc S B H σ K) (λ_ _=>False):=λi au=>by
      have F:∃d,z[i]?=some d:=⟨_,X4 U⟩;obtain⟨d,F⟩:=F;have av:t[i]?=some d:=by rw[<-O,V7];exact F
      have R:∃e,left[i]?=some e:=⟨_,ε au⟩;obtain⟨le,R⟩:=R;rw[Qm,F];simp only[Option.map_some];have aw:=ad i au;simp only[R] at aw;obtain⟨ax,ay⟩:=Z i _ _ R av;have aM:d∈xs:=by
       have:d∈z:=Array.mem_of_getElem? F;rw[<-E] at this;exact Array.mem_of_mem_filter this
      have aN:id<σ.length:=(ZD.1 s).1
      have a1:id<B.length:=by rw[r.len];exact aN
      have az:id≠m:=λe=>by subst e;rw[s] at M;cases M
      obtain⟨aO,aP,af⟩:=r.On (H':=H.ZL b (.mapIter (some L) f (seen.push d.born) f)) (r':=.iter m (left.eraseIdx i) (some le)) (bo':=some (b,N)) s trivial ak (.inl ⟨_,_,rfl,rfl⟩) (λT al e=>.inl ⟨al,e⟩) (λT g _=>by
       have ab:T≠b:=λe=>by subst e;exact g N rfl
       exact⟨λo=>rfl,rfl,by simp[Ψ.ZL,ab]⟩) Ψ.Jj (λj l c aA=>by
       obtain⟨bo,aQ⟩:=G3 r aA;obtain⟨_,_,_,_,_,_,_,_,_,⟨a2,aB⟩,_⟩:=r.row j _ bo aA aQ;rw[s] at aB;cases aB) (λw=>by
       refine⟨b,N,L,aD,xs,f,seen.push d.born,rfl,by rw[VT az];exact am,⟨es,by rw[VT az];exact M⟩,by simp[Ψ.ZL],by simp[Ψ.ZL,ab,C],⟨t.eraseIdx i,?_,by rw[List.length_eraseIdx,List.length_eraseIdx,Y],λj e y g p=>?_⟩,aa,λe k=>?_⟩
       .have aR:(t.map (·.born)).Nodup:=by
         rw[X];exact ao.sublist (List.filter_sublist.map _)
        rw[<-BA (·.born) t i d aR av,X,List.filter_filter];apply List.filter_congr;intro e _;rw[Array.contains_push,Bool.not_or,Bool.and_comm];congr 1
       .rw[List.getElem?_eraseIdx] at g p;split at g
        .rename_i ag;rw[if_pos ag] at p;obtain⟨ah,ai⟩:=Z j e y g p;exact⟨ah.later w,ai.later w⟩
        .rename_i ag;rw[if_neg ag] at p;obtain⟨ah,ai⟩:=Z (j+1) e y g p;exact⟨ah.later w,ai.later w⟩
       .cases k;refine⟨d.born,d,J,?_,ax.later w,ay.later w⟩;rw[<-Array.find?_toList];obtain⟨q,aS⟩:=S3 (show d∈xs.toList by simpa using aM);have aT:∀(l:List MapEntry) (q:Nat) (e:MapEntry),(l.map (·.born)).Nodup->l[q]?=some e->l.find? (·.born==e.born)=some e:=by
         intro l
         induction l with
         | nil=>intro q e _ h;simp at h
         | cons a l aU=>
          intro q e aj h;simp only[Xt,RS] at aj;rw[List.find?_cons];cases q with
          | zero=>simp at h;subst h;simp
          | succ q=>
           simp only[List.getElem?_cons_succ] at h;have:(a.born==e.born)=false:=by
            simp only[beq_eq_false_iff_ne,ne_eq];intro x;exact aj.1 (x▸List.mem_map_of_mem (Zk h))
           rw[this];exact aU q e aj.2 h
        exact aT xs.toList q _ ao aS)
      refine Ω.bind' ?_;refine⟨⟨_,W⟩,rfl,rfl,?_⟩;refine Ω.pure' ?_;exact Ω.pure' ⟨S,_,_,_,aw,aP,aO,af,By (.z _) (ax.later af) (ay.later af)⟩
     have aV:(z.map some).size=left.length:=by simp[ae]
     show Ω P (choose (.mapNext (z.map some).size)) H _ _;unfold choose;simp only[Ω];have D:0<left.length:=Q9.2 λe=>Q (Q5.2 e);split
     .exact ar 0 D
     .intro n;refine ar _ ?_;simp only[Question.cut,aV];exact Nat.mod_lt _ D
   | TO v A=>rw[s] at A;cases A
  .exact .bad
 .exact .bad
def KZ (σ:Υ) (a:I):Za:=match a with
 | .it id=>match σ[id]? with
  | some (.iter _ _ (some e))=>.ok (.ZP [e.1,e.2]) σ
  | _=>.bad
 | _=>.bad
theorem Bw (d:Holds S B σ H) {it:I} {u:Value} (hi:Θ S B σ it u):Zh P (Instr.entry u) S B H σ (KZ σ it):=by
 unfold KZ;split
 .rename_i id;split
  .rename_i m left e c;cases hi with
   | it a f=>
    rename_i r s t b N;rw[c] at a;cases a;obtain⟨w,x,A,C,xs,D,seen,g,E,F,h,i,_,J,j⟩:=d.row id _ _ c f;cases g;obtain⟨L,y,k,l,n,o⟩:=j e rfl;intro K p;unfold Instr.entry;refine Ω.bind' ?_;refine⟨_,h,rfl,?_⟩;refine Ω.pure' ?_;simp only[k];refine Ω.bind' ?_;refine⟨_,i,rfl,?_⟩;refine Ω.pure' ?_;simp only[bne_self_eq_false,Xu,if_false,l];exact Ω.pure' (.same d p (Ol n o))
   | TO v a=>rw[c] at a;cases a
  .exact .bad
 .exact .bad
@[simp] def I0:Value->Option I
 | .int k z=>some (.z (.int k z))
 | .slice none 0 0=>some (.sl true 0 [])
 | _=>none
theorem Bv {a:Value} {b:I} (h:I0 a=some b):a.cells=#[a]/\b.cells=[b]/\(∀S B σ,Θ S B σ b a)/\One a:=by
 unfold I0 at h;split at h
 .cases h;exact⟨rfl,rfl,λ_ _ _=>.z _,trivial⟩
 .cases h;exact⟨rfl,rfl,λ_ _ _=>.WB _ _ (λ_=>rfl),trivial⟩
 .cases h
def KY (T:Z5) (b:TypeId) (σ:Υ) (x:I):Za:=match x with
 | .ms id n i len=>match T b,σ[id]? with
  | some c,some (.cells t k l)=>match c.ZN with
   | .slice e=>match T e with
    | some d=>match I0 d.zero with
     | some f=>if l.length=n/\k=1/\i+len<=n/\(∀a∈l,a.cells.length=1) then .ok .Zw (σ.set id (.cells t k (l.take i++List.replicate len f++l.drop (i+len)))) else .bad
     | none=>.bad
    | none=>.bad
   | _=>.bad
  | _,_=>.bad
 | _=>.bad
theorem Bu (R:ZJ P T) (p:Holds S B σ H) {V:TypeId} (ag:TypeId) {x:I} {u:Value} (ah:Θ S B σ x u):Zh P (Builtin.clear_ #[V] ag #[u]) S B H σ (KY T V σ x):=by
 unfold KY;split
 .rename_i id n i len;split
  .rename_i aK t k l ai g;split
   .rename_i e aj;split
    .rename_i D ak;split
     .rename_i r al;obtain⟨am,W,an,ao⟩:=Bv al;split
      .rename_i ap;obtain⟨aL,rfl,aM,_⟩:=ap;have X:id<σ.length:=(ZD.1 g).1;have aN:id<B.length:=by rw[p.len];exact X
       intro K E;have Y:len=0->Wc S B H σ K (.tuple #[]) H:=λs=>by
        subst s;have aq:σ.set id (.cells t 1 (l.take i++List.replicate 0 r++l.drop (i+0)))=σ:=by
         rw[List.replicate_zero,TY,Nat.add_zero,OH];apply Su;intro j;by_cases Z:id=j
         .subst Z;rw[WE X,g]
         .rw[VT Z]
        simp only[Za.holds] at E;rw[aq] at E;exact⟨S,B,σ,_,E,.refl _ _ _,p,.refl _ _ _,.Zw _⟩
       cases ah with
       | V3 v h aa=>rw[g] at h;cases h;simp only[Row.W0] at aa;omega
       | ms cap h aa ab aO aP A=>
        rename_i bo base;rw[g] at h;cases h;unfold Builtin.clear_;refine Ω.bind' (R.ZN ai ?_);rw[aj];cases base with
        | none=>
         refine Ω.bind' (Ω.pure' ?_);have s:len=0:=by
          rcases A with A|⟨b,N,_,F,_⟩
          .omega
          .cases F
         exact Ω.pure' (Y s)
        | some a=>
         by_cases s:len=0
         .subst s;refine Ω.bind' (Ω.pure' ?_);exact Ω.pure' (Y rfl)
         .rcases A with A|⟨b,N,rfl,F,A⟩
          .omega
          .cases F;obtain⟨ad,aQ,ae,w,J⟩:=p.row id _ _ g ab;obtain⟨m,rfl⟩:∃m,len=m+1:=⟨len-1,U⟩;simp only;refine Ω.bind' (R.zero ak ?_);have ar:(Builtin.zeroCells D.zero.cells (m+1)).toList=List.replicate (m+1) D.zero:=by
            simp only[Builtin.zeroCells,am];rw[Array.toList_map,Array.toList_range];refine Su λj=>?_;rw[Yk,Nu];by_cases d:j<m+1
            .rw[List.getElem?_range (by simpa using d),if_pos d];simp[Nat.mod_one]
            .rw[TB (by simp;omega),if_neg d];rfl
           rw[ar];have au:∀(y:Nat) (c:I),(l.take i++List.replicate (m+1) r++l.drop (i+(m+1)))[y]?=some c->(i<=y/\y<i+(m+1)/\c=r)\/((y<i\/i+(m+1)<=y)/\l[y]?=some c):=λy c f=>by
            by_cases C:y<i
            .rw[TZ,YU (by simp;omega),T2 C] at f;exact .inr ⟨.inl C,f⟩
            .by_cases L:y<i+(m+1)
             .rw[YU (by simp;omega),XT (by simp;omega),Nu] at f;split at f
              .cases f;exact .inl ⟨U,L,rfl⟩
              .cases f
             .rw[XT (by simp;omega),Uz] at f;have av:i+(m+1)+(y-(l.take i++List.replicate (m+1) r).length)=y:=by simp;omega
              rw[av] at f;exact .inr ⟨.inr U,f⟩
           obtain⟨aw,ax,ay⟩:=p.On (H':=H.WT b i (List.replicate (m+1) D.zero)) (r':=.cells t 1 (l.take i++List.replicate (m+1) r++l.drop (i+(m+1)))) (bo':=some (b,N)) g trivial ab (.inl ⟨_,rfl,by simp;omega,rfl⟩) (λaf az M=>.inl ⟨az,M⟩)
            (λaf h _=>by
             have aA:af≠b:=λM=>by subst M;exact h N rfl
             exact⟨λo=>by simp[Ψ.WT,aA],rfl,rfl⟩) Ψ.Jg (Lp p g) (λaB=>by
             refine⟨ad,by simp;omega,λo aC=>?_,λy j=>if i<=y/\y<i+(m+1) then D.zero else w y j,λy c f=>?_⟩
             .simp only[Ψ.WT];split
              .exact⟨_,rfl⟩
              .exact ae o aC
             .rcases au y c f with⟨C,L,rfl⟩|⟨C,O⟩
              .refine⟨by rw[W];rfl,λj a d=>?_⟩;rw[W] at d;have Q:j=0:=by have:=(ZD.1 d).1;simp at this;omega
               subst Q;simp at d;subst d;simp only[C,L,and_self,if_true];refine⟨?_,an _ _ _,ao⟩;simp only[Ψ.WT,Qo];rw[if_pos ⟨trivial,U,U⟩,Nu,if_pos U];rfl
              .refine⟨(J y c O).1,λj a d=>?_⟩;obtain⟨aD,aE,aF⟩:=(J y c O).2 j a d;have Q:j=0:=by have:=(ZD.1 d).1;rw[(J y c O).1] at this;omega
               subst Q;have aG:¬(i<=y/\y<i+(m+1)):=U;simp only[aG,if_false];refine⟨?_,aE.later aB,aF⟩;simp only[Ψ.WT,Qo];rw[if_neg U];exact aD)
           have aH:(⟨b,i*1,none⟩:Addr)=⟨b,i,none⟩:=by rw[Py]
           rw[aH];refine Ω.bind' ?_;refine Ω.storeCells (G:=H) rfl ⟨t,N,ad⟩ _ 0 H (λv hv=>by rw[JD hv];trivial) (λj _ d=>?_) rfl ?_
           .rw[Qo] at d;obtain⟨aI,aJ⟩:=ae (i+j) U;exact⟨aI,aJ⟩
           .exact Ω.pure' ⟨S,_,_,_,E,ax,aw,ay,.Zw _⟩
      .exact .bad
     .exact .bad
    .exact .bad
   .exact .bad
  .exact .bad
 .exact .bad
def KX (T:Z5) (a:TypeId) (σ:Υ) (b:I):Za:=match Pb T a,b with
 | some _,.mp id=>match σ[id]? with
  | some (.map _)=>if To σ id=true then .ok .Zw (σ.set id (.map [])) else .bad
  | _=>.bad
 | _,_=>KY T a σ b
theorem Bt (f:ZJ P T) (d:Holds S B σ H) {g:TypeId} (h:TypeId) {mp:I} {u:Value} (k:Θ S B σ mp u):Zh P (Builtin.clear_ #[g] h #[u]) S B H σ (KX T g σ mp):=by
 unfold KX;split
 .rename_i l id o;obtain⟨i,hi,p⟩:=K4 (kt:=l.1) (vt:=l.2) o;split
  .rename_i es c;split
   .rename_i r;cases k with
    | mp a m=>
     rename_i b N;rw[c] at a;cases a;obtain⟨xs,s,n,C⟩:=MT d c m;obtain⟨t,w,x⟩:=I1 d (es':=[]) (xs':=#[]) (clock':=s) c m r λ_=>⟨rfl,λi e y a=>by simp at a,λi j y z a=>by simp at a⟩;intro K A;unfold Builtin.clear_;refine Ω.bind' (f.ZN hi ?_);rw[p];refine Ω.bind' ?_;refine⟨_,n,rfl,?_⟩;refine Ω.pure' ?_;refine⟨⟨_,n⟩,rfl,rfl,?_⟩;exact Ω.pure' ⟨S,_,_,_,A,w,t,x,.Zw _⟩
    | UO v a=>rw[c] at a;cases a
   .exact .bad
  .exact .bad
 .exact Bu f d h k
end
def Pa (T:Z5) (c:BinOp) (d:TypeId) (a b:I):Zs:=match aeqv T d a b with
 | some r=>match c with
  | .eql=>.ok (.z (.bool r))
  | .neq=>.ok (.z (.bool !r))
  | _=>.bad
 | none=>.bad
def KW (T:Z5) (c:BinOp) (d:TypeId) (a b:I):Zs:=match a,b with
 | .z x,.z y=>match QT c x y with
  | .ok v=>.ok v
  | .Zl p r=>.Zl p r
  | .bad=>Pa T c d (.z x) (.z y)
 | .Z9 x,.Z9 y=>Pa T c d (.Z9 x) (.Z9 y)
 | _,_=>.bad
def KV (T:Z5) (b:TypeId) (x c:I):Zs:=match T b with
 | some i=>match i.ZN,x,c with
  | .string,.z (.string s),.z (.int _ n)=>.Zl (0<=n/\n<s.size) (.ok (.z (.int .u8 (s.data.toList.getD n.toNat 0).toNat)))
  | .array len e,.Z9 xs,.z (.int _ n)=>match T e with
   | some a=>if a.agg=false/\a.size=1/\xs.length=len then .Zl (0<=n/\n<len) (.ok (xs.getD n.toNat .Zw)) else .bad
   | none=>.bad
  | _,_,_=>.bad
 | none=>.bad
def KU (x:I):Zs:=match x with
 | .Ε c=>.ok (.Ε c)
 | .fn (.func f) a b=>.ok (.fn (.func f) a b)
 | .z (.pointer (some a))=>.ok (.z (.pointer (some a)))
 | _=>.bad
def O9 (σ:Υ) (x:I):Za:=match x with
 | .Ο id n i j=>match σ[id]? with
  | some (.cells _ _ l)=>if l.length=n then .ok (.Ο id n i j) σ else .bad
  | _=>.bad
 | _=>.bad
def KT (T:Z5) (a:TypeId) (x:I):Zs:=match T a with
 | some i=>match i.ZN,x with
  | .array n _,.sl _ k l=>if 0<n/\k=1/\(l.all λe=>decide (e.cells.length=1)&&I.YP [] e)=true then .Zl (n<=l.length) (.ok (.Ε (l.take n))) else .bad
  | _,_=>.bad
 | none=>.bad
def QQ:ψ->Option (List Int)
 | []=>some []
 | .z (.int .i32 n)::r=>(QQ r).map (n::·)
 | _=>none
def spell (l:List Int):ByteArray:=l.foldl (λs n=>s++Utf8.encode n) .empty
def MR (T:Z5) (b:TypeId):Bool:=match T b with
 | some i=>match i.ZN with
  | .slice e=>match T e with|some a=>(match a.ZN with|.int .i32=>true|_=>false)&&a.size==1|none=>false
  | _=>false
 | none=>false
def MQ (T:Z5) (a:TypeId):Bool:=match T a with|some i=>(match i.ZN with|.string=>true|_=>false)|none=>false
def Qa (T:Z5) (src dst:TypeId) (σ:Υ) (x:I):Zs:=if MR T src=true/\MQ T dst=true then match Sk σ x with
 | some (k,l)=>if k=1\/l.isEmpty=true then match QQ l with|some r=>.ok (.z (.string (spell r)))|none=>.bad else .bad
 | none=>.bad else .bad
def KS (T:Z5) (src dst:TypeId) (x:I):Zs:=if MQ T src=true/\MR T dst=true then match x with
 | .z (.string s)=>.ok (.sl false 1 ((Conv.runesFrom s s.size 0 #[]).toList.map .z))
 | _=>.bad else .bad
section
variable {P:Program} {T:Z5} {S:Α} {B:θ} {H:Ψ} {σ:Υ}
theorem Bs {a:BinOp} {b:TypeId} {p q:Operand} {vs d:Array Value} (e:P.eqGuardType P.depth b=false) {G:Ψ} {K:Unit->Ψ->Prop} {E:Value->Ψ->Prop} (c:K () G):Ω P (eqGuard a b p q (.agg vs) (.agg d)) G K E:=by
 cases a<;>first|exact Ω.pure' c|skip
 all_goals
  unfold eqGuard;simp only[Bool.not_true,Xu,if_false];refine Ω.bind' ?_;show Ω P _ G K E;refine Ω.bind' ?_;show Ω P _ G K E;rw[if_pos (by rw[e];rfl)];exact Ω.pure' c
theorem Gz (g:ZJ P T) (h:Holds S B σ H) {d:BinOp} {c:TypeId} {p q:Operand} {a b:I} {v w:Value} (i:Θ S B σ a v) (j:Θ S B σ b w) (k:∀r,aeqv T c a b=some r->(d=.eql\/d=.neq)->∀(K:Unit->Ψ->Prop),K () H->Ω P (eqGuard d c p q v w) H K (λ_ _=>False))
  (l:∀r,aeqv T c a b=some r->(binOp .eql c v w=(do pure (.bool (<-Op.equal c v w)))/\binOp .neq c v w=(do pure (.bool (!(<-Op.equal c v w)))))) :
  Zh P (do eqGuard d c p q v w;binOp d c v w) S B H σ ((Pa T d c a b).YL σ):=by
 unfold Pa;split
 .rename_i r e;obtain⟨m,n⟩:=l r e;split
  .intro K f;refine Ω.bind' (k r e (.inl rfl) _ ?_);rw[m];exact Ω.bind' (I5 g i j e (Ω.pure' (.same h f (.z _))))
  .intro K f;refine Ω.bind' (k r e (.inr rfl) _ ?_);rw[n];exact Ω.bind' (I5 g i j e (Ω.pure' (.same h f (.z _))))
  .exact .bad
 .exact .bad
theorem Br (l:ZJ P T) (m:Holds S B σ H) (j:BinOp) (g:TypeId) (p q:Operand) {a b:I} {v w:Value} (t:Θ S B σ a v) (u:Θ S B σ b w):Zh P (do eqGuard j g p q v w;binOp j g v w) S B H σ ((KW T j g a b).YL σ):=by
 unfold KW;split
 .rename_i x y;have k:=Cm (P:=P) m j g p q v w;cases t;cases u;split
  .rename_i r f;rw[f] at k;exact k
  .rename_i O r f;rw[f] at k;exact k
  .rename_i A;have C:∀r,aeqv T g (.z v) (.z w)=some r->(∃c d,v=.bool c/\w=.bool d)\/¬(j=.eql\/j=.neq):=λr f=>by
    unfold aeqv at f;split at f<;>try cases f
    simp only at f;split at f<;>try cases f
    unfold Ur at f;split at f
    .split at f
     .rename_i e;subst e;refine .inr λn=>?_;rcases n with rfl|rfl<;>simp[QT] at A
     .cases f
    .refine .inr λn=>?_;rcases n with rfl|rfl<;>simp[QT] at A
    .exact .inl ⟨_,_,rfl,rfl⟩
    .cases f
   by_cases o:j=.eql\/j=.neq
   .by_cases f:∃r,aeqv T g (.z v) (.z w)=some r
    .obtain⟨r,f⟩:=f;rcases C r f with⟨c,d,rfl,rfl⟩|h
     .exact Gz l m (.z _) (.z _) (λ_ _ _ K s=>by unfold eqGuard;split<;>exact Ω.pure' s) (λ_ _=>⟨rfl,rfl⟩)
     .exact absurd o h
    .have:aeqv T g (.z v) (.z w)=none:=by
      cases h:aeqv T g (.z v) (.z w) with
      | none=>rfl
      | some r=>exact absurd ⟨r,h⟩ f
     unfold Pa;rw[this];exact .bad
   .unfold Pa;split
    .split
     .exact absurd (.inl rfl) o
     .exact absurd (.inr rfl) o
     .exact .bad
    .exact .bad
 .rename_i x y;cases t with
  | Z9 vs D E=>cases u with
   | Z9 F J L=>
    refine Gz l m (.Z9 vs D E) (.Z9 F J L) (λr f _ K s=>?_) (λ_ _=>⟨rfl,rfl⟩);have M:P.eqGuardType P.depth g=false:=by
     unfold aeqv at f;split at f<;>try cases f
     rename_i i hi;simp only at f;split at f<;>try cases f
     rename_i Q N;have:=(l g i hi).1.2;rw[N] at this;exact this.1
    exact Bs M s
 .exact .bad
theorem Bq (c:ZJ P T) (h:Holds S B σ H) (d:TypeId) {x j:I} {v w:Value} (k:Θ S B σ x v) (hi:Θ S B σ j w):Zh P (Instr.index d v w) S B H σ ((KV T d x j).YL σ):=by
 unfold KV;cases l:T d with
 | none=>exact .bad
 | some i=>
  simp only;split
  .rename_i s kk n f;cases k;cases hi;refine Zh.Zl (r:=(Zs.ok (.z (.int .u8 (s.data.toList.getD n.toNat 0).toNat))).YL σ) λg K a=>?_;unfold Instr.index;refine Ω.bind' (Ω.pure' ?_);refine Ω.bind' (c.ZN l ?_);rw[f];have b:n.toNat<s.data.size:=by have:s.size=s.data.size:=rfl;omega
   have o:(if 0<=n then s[n.toNat]? else none)=some s.data[n.toNat]:=by
    rw[if_pos g.1];show s[n.toNat]?=_;rw[getElem?_pos s n.toNat U];rfl
   simp only[o];have Χ:s.data.toList.getD n.toNat 0=s.data[n.toNat]:=by rw[Xk,V7,X4 b];rfl
   rw[Χ] at a;exact Ω.pure' (.same h a (.z _))
  .rename_i len e xs kk n f;cases hi;split
   .rename_i C m;split
    .rename_i p;obtain⟨t,u,D⟩:=p;refine Zh.Zl (r:=(Zs.ok (xs.getD n.toNat .Zw)).YL σ) λg K a=>?_;cases k with
     | Z9 vs y A=>
      unfold Instr.index;refine Ω.bind' (Ω.pure' ?_);refine Ω.bind' (c.ZN l ?_);rw[f];simp only[g,and_self,if_true];refine Ω.bind' (c.size m ?_);rw[u,Py];unfold part;refine Ω.bind' (c.agg m ?_);rw[t];have b:n.toNat<xs.length:=U;have hv:n.toNat<vs.size:=by rw[<-y];exact b
      simp only[Xu,if_false,X4 hv];have Χ:xs.getD n.toNat .Zw=xs[n.toNat]:=by simp[b]
      rw[Χ] at a;exact Ω.pure' (.same h a (A _ _ _ (ε b) (X4 hv)))
    .exact .bad
   .exact .bad
  .exact .bad
theorem Bp (d:Holds S B σ H) {ρ:Operand->Value} {o:Oper} {x:Operand} (e:o.op=.nilCheck x) {a:I} (c:Θ S B σ a (ρ x)):Does P (execOp ρ o) S B H σ ((KU a).YL σ):=by
 unfold KU;split
 .unfold execOp;rw[e];simp only;generalize ρ x=v at c;cases c with
  | Ε b o w f g=>exact Does.val d (.Ε b o w f g)
 .unfold execOp;rw[e];simp only;generalize ρ x=v at c;cases c with
  | fn vs h f g i j=>exact Does.val d (.fn vs h f g i j)
 .unfold execOp;rw[e];simp only;generalize ρ x=v at c;cases c;exact Does.val d (.z _)
 .exact .bad
theorem Bo (e:Holds S B σ H) {ρ:Operand->Value} {o:Oper} {x:Operand} (f:o.op=.nilCheck x) {a:I} (d:Θ S B σ a (ρ x)):Does P (execOp ρ o) S B H σ (O9 σ a):=by
 unfold O9;split
 .split
  .rename_i t k l g;split
   .rename_i i;unfold execOp;rw[f];simp only;generalize ρ x=v at d;cases d with
    | Ο b c h=>exact Does.val e (.Ο b c h)
    | VQ v b c=>rw[g] at b;cases b;simp only[Row.W0] at c;omega
   .exact .bad
  .exact .bad
 .exact .bad
theorem Bn (p:ZJ P T) (s:Holds S B σ H) (d:TypeId) {x:I} {v:Value} (t:Θ S B σ x v):Zh P (Instr.arrayAt d v) S B H σ ((KT T d x).YL σ):=by
 unfold KT;cases u:T d with
 | none=>exact .bad
 | some i=>
  simp only;split
  .rename_i n e ex k l y;split
   .rename_i A;obtain⟨M,C,h⟩:=A;subst C;refine Zh.Zl (r:=(Zs.ok (.Ε (l.take n))).YL σ) λD K E=>?_;obtain⟨base,cap,rfl,_,_,F⟩:=RB t;obtain⟨b,o,w,rfl,N,J,L⟩:=F (λe=>by subst e;simp at D;omega);unfold Instr.arrayAt;refine Ω.bind' (p.ZN u ?_);rw[y];simp only;rw[if_neg U];rw[WN] at h;have el:∀(j:Nat) (e:I),(l.take n)[j]?=some e->l[j]?=some e/\e.cells=[e]:=λj e c=>by
     have m:=h e (L4 (Zk c));simp only[VE] at m;rw[PB] at c;split at c
     .exact⟨c,I.Jd m.2⟩
     .cases c
    refine Ω.pure' (.same s E (.Ε b o (λj=>w j 0) (λj a c=>?_) (λj a c=>?_)))
    .obtain⟨f,g⟩:=el j a c;have:=J j a f 0 a (by rw[g];rfl);simpa using this
    .obtain⟨f,g⟩:=el j a c;exact L j a f 0 a (by rw[g];rfl)
   .exact .bad
  .exact .bad
theorem Gy {b:TypeId} (h:MR T b=true):∃i e a,T b=some i/\i.ZN=.slice e/\T e=some a/\a.ZN=.int .i32/\a.size=1:=by
 unfold MR at h;split at h
 .rename_i i hi;split at h
  .rename_i e c;split at h
   .rename_i a d;simp only[VE,beq_iff_eq] at h;refine⟨i,e,a,hi,c,d,?_,h.2⟩;have:=h.1;split at this
    .assumption
    .cases this
   .cases h
  .cases h
 .cases h
theorem Gx {a:TypeId} (h:MQ T a=true):∃i,T a=some i/\i.ZN=.string:=by
 unfold MQ at h;split at h
 .rename_i i hi;refine⟨i,hi,?_⟩;split at h
  .assumption
  .cases h
 .cases h
theorem Bm (k:ZJ P T) (u:Holds S B σ H) (src dst:TypeId) {x:I} {v:Value} (d:Θ S B σ x v):Zh P (convert src dst v) S B H σ ((KS T src dst x).YL σ):=by
 unfold KS;split
 .rename_i o;obtain⟨i,hi,w⟩:=Gx o.1;obtain⟨j,e,V,f,A,C,D,W⟩:=Gy o.2;split
  .rename_i s;cases d;intro K p;unfold convert;refine Ω.bind' (k.ZN hi (Ω.bind' (k.ZN f ?_)));rw[w,A];simp only;refine Ω.bind' (k.ZN C ?_);rw[D];simp only;unfold Conv.stringToRunes;refine Ω.bind' ?_;unfold choose;simp only[Ω];have E:(Question.appendCap (Conv.runesFrom s s.size 0 #[]).size 0 e).forced=false:=rfl;rw[E];simp only[Xu,if_false];intro q;generalize F:Conv.runesFrom s s.size 0 #[]=c at p ⊢;have L:c.size<=(Question.appendCap c.size 0 e).cut q:=by simp[Question.cut]
   refine Ω.bind' (Ω.bind' ?_);have M:∀v∈c,One v:=by
    have N:∀(l i:Nat) (g:Array Value),(∀v∈g,One v)->∀v∈Conv.runesFrom s l i g,One v:=by
     intro l
     induction l with
     | zero=>intro i g h;exact h
     | succ n O=>
      intro i g h;unfold Conv.runesFrom;split
      .refine O _ _ λv hv=>?_;rcases OC.1 hv with hv|rfl
       .exact h v hv
       .trivial
      .exact h
    rw[<-F];exact N _ _ _ (λv hv=>by simp at hv)
   have Q:XE S B σ (c++Array.replicate ((Question.appendCap c.size 0 e).cut q-c.size) (.int .i32 0)) 1 (c.toList.map .z):=by
    refine⟨J,λj a f=>?_⟩;rw[Yk,V7] at f;cases d:c[j]? with
    | none=>rw[d] at f;cases f
    | some y=>
     rw[d] at f;cases f;refine⟨rfl,λz b m=>?_⟩
     match z with
     | 0=>
      simp[I.cells] at m;subst m;refine⟨y,?_,.z y,M y (Array.mem_of_getElem? d)⟩;have:=(UA.1 d).1;rw[OJ (by simpa using this)];simpa using d
     | z+1=>simp[I.cells] at m
   refine MZ u _ e λr R U t=>Ω.pure' (Ω.pure' ⟨_,_,_,_,p,U,R,t,?_⟩);have:=Lm (cap:=(Question.appendCap c.size 0 e).cut q) false t Q (by simpa using L) J;simpa using this
  .exact .bad
 .exact .bad
theorem Bl:∀(l:ψ) (r:List Int),QQ l=some r->r.length=l.length/\∀(i:Nat) (n:Int),r[i]?=some n->l[i]?=some (.z (.int .i32 n)):=by
 intro l
 induction l with
 | nil=>intro r h;cases h;exact⟨rfl,λi n h=>by simp at h⟩
 | cons a l e=>
  intro r h;unfold QQ at h;split at h
  .rename_i b;cases b
  .rename_i n j b;cases b;cases c:QQ l with
   | none=>rw[c] at h;cases h
   | some r'=>
    rw[c] at h;cases h;obtain⟨f,g⟩:=e r' c;refine⟨by simp[f],λi m d=>?_⟩;cases i with
    | zero=>simp at d;subst d;rfl
    | succ i=>exact g i m (by simpa using d)
  .cases h
theorem Bj (m:ZJ P T) (p:Holds S B σ H) (src dst:TypeId) {x:I} {v:Value} (L:Θ S B σ x v):Zh P (convert src dst v) S B H σ ((Qa T src dst σ x).YL σ):=by
 unfold Qa;split
 .rename_i D;obtain⟨i,e,ah,hi,M,N,O,ai⟩:=Gy D.1;obtain⟨j,Q,R⟩:=Gx D.2;split
  .rename_i k l V;split
   .rename_i W;split
    .rename_i r X;obtain⟨base,cap,w,rfl,_,t,Y⟩:=Lf p L (k:=1) V U (W.symm);obtain⟨E,Z⟩:=Bl l r X;intro K F;unfold convert;refine Ω.bind' (m.ZN hi (Ω.bind' (m.ZN Q ?_)));rw[M,R];have aa:∀i,i<l.length->w i=.int .i32 (r.getD i 0):=λi y=>by
      have J:r[i]?=some r[i]:=ε U
      have:=(Y i _ (Z i _ J)).2 0 _ rfl;rw[Py,Nat.add_zero] at this;rw[Xk,J];generalize w i=u at this;cases this;rfl
     have ab:Ω P (Conv.runesToString (.slice base l.length cap)) H (Wc S B H σ K) (λ_ _=>False):=by
      unfold Conv.runesToString;rw[Py] at t;cases base with
      | none=>
       simp only;rcases t with g|⟨b,o,A,_⟩
       .have:r=[]:=YV.1 (by rw[E,g]);subst this;exact Ω.pure' (.same p F (.z _))
       .cases A
      | some a=>
       simp only;have ad:∀(d:List Int) (f:ByteArray),Ω P (forIn (d.map λn=>Value.int .i32 n) f λ(c:Value) (s:ByteArray)=>do
         let .int .i32 n:=c|stuck "runesToString: rune expected"
         pure (ForInStep.yield (s++Utf8.encode n))) H (λs H'=>s=d.foldl (λs n=>s++Utf8.encode n) f/\H'=H) (λ_ _=>False):=by
        intro d
        induction d with
        | nil=>intro f;exact .forIn_nil ⟨rfl,rfl⟩
        | cons n d ae=>
         intro f;rw[Xt];refine .forIn_cons ?_;exact Ω.pure' (ae (f++Utf8.encode n))
       have af:Ω P (loadCells a l.length) H (λvs H'=>vs=(r.map λn=>Value.int .i32 n).toArray/\H'=H) (λ_ _=>False):=by
        rcases t with g|⟨b,o,A,ag⟩
        .rw[g];have:r=[]:=YV.1 (by rw[E,g]);subst this;exact Ω.pure' ⟨rfl,rfl⟩
        .cases A;refine Ω.loadCells w rfl ag ⟨?_,rfl⟩;congr 1;apply Su;intro i;rw[Yk,Yk];by_cases y:i<l.length
         .rw[List.getElem?_range y,ε (show i<r.length by omega)];simp only[Option.map_some];rw[aa i y,Xk,ε (show i<r.length by omega)];rfl
         .rw[TB (by simp;omega),TB U];rfl
       refine Ω.bind' (Ω.mono (λvs H' ⟨C,Χ⟩=>?_) (λ_ _ h=>h) _ af);subst C;subst Χ;rw[<-Array.forIn_toList];refine Ω.bind' (Ω.mono (λs H' ⟨C,Χ⟩=>?_) (λ_ _ h=>h) _ (ad r .empty));subst C;subst Χ;exact Ω.pure' (.same p F (.z _))
     have:Ω P (do
      match <-underlying e with
      | .int .u8=>Conv.bytesToString (.slice base l.length cap)
      | .int .i32=>Conv.runesToString (.slice base l.length cap)
      | _=>stuck "Convert: a slice of what to string?") H (Wc S B H σ K) (λ_ _=>False):=by
      refine Ω.bind' (m.ZN N ?_);rw[O];exact ab
     cases base<;>exact this
    .exact .bad
   .exact .bad
  .exact .bad
 .exact .bad
end
def KR (σ:Υ):Za:=.all 2 λj=>.ok (.z (.bool (j==1))) σ
def KQ (T:Z5) (b:TypeId) (σ:Υ) (a:I):Za:=match T b with
 | some i=>match i.ZN with
  | .slice _=>match a with
   | .ms id n i len=>match σ[id]? with
    | some (.cells _ _ l)=>if l.length=n/\i+len<=n then(if len=0 then KR σ else .ok (.z (.bool false)) σ) else .bad
    | _=>.bad
   | .sl _ _ l=>if l.isEmpty then KR σ else .ok (.z (.bool false)) σ
   | _=>.bad
  | _=>.bad
 | none=>.bad
section
variable {P:Program} {T:Z5} {S:Α} {B:θ} {H:Ψ} {σ:Υ}
theorem MP (g:ZJ P T) (d:Holds S B σ H) {a:TypeId} {i:WA} (hi:T a=some i) {e:TypeId} (h:i.ZN=.slice e) (p q:Operand) (base:Option Addr) (len cap:Nat) {f:Za}
  (j:∀K,f.holds K->K (.z (.bool base.isNone)) σ):Zh P (do eqGuard .eql a p q (.slice base len cap) (.slice none 0 0);binOp .eql a (.slice base len cap) (.slice none 0 0)) S B H σ f:=by
 intro K c;have c:=j K c;refine Ω.bind' ?_;unfold eqGuard;refine Ω.pure' ?_;have k:binOp .eql a (.slice base len cap) (.slice none 0 0)=(do pure (Value.bool (<-Op.equal a (.slice base len cap) (.slice none 0 0)))):=rfl;rw[k];refine Ω.bind' ?_;unfold Op.equal;unfold Op.equalIn;refine Ω.bind' (g.ZN hi ?_);rw[h];cases base with
 | none=>exact Ω.pure' (Ω.pure' (.same d c (.z _)))
 | some b=>exact Ω.pure' (Ω.pure' (.same d c (.z _)))
theorem IZ {K:I->Υ->Prop} (h:(KR σ).holds K) (b:Bool):K (.z (.bool b)) σ:=by
 cases b
 .exact h 0 Z2
 .exact h 1 Z2
theorem Bi (d:ZJ P T) (f:Holds S B σ H) (m:TypeId) (p q:Operand) {a:I} {v:Value} (s:Θ S B σ a v):Zh P (do eqGuard .eql m p q v (.slice none 0 0);binOp .eql m v (.slice none 0 0)) S B H σ (KQ T m σ a):=by
 unfold KQ;split
 .rename_i i hi;split
  .rename_i e g;split
   .rename_i id n j len;split
    .rename_i t k l x;split
     .rename_i y;cases s with
      | @ms _ _ _ _ _ _ _ bo base cap h r C D E u=>
       split
       .exact MP d f hi g p q base len cap λK c=>IZ c _
       .rename_i F;refine MP d f hi g p q base len cap λK c=>?_;rcases u with u|⟨b,N,_,A,_⟩
        .omega
        .rw[A];exact c
      | V3 v h r=>
       rw[x] at h;cases h;exact absurd y.1 (Nat.ne_of_gt r)
     .exact .bad
    .exact .bad
   .rename_i l;cases s with
    | WB base cap h=>exact MP d f hi g p q base 0 cap λK c=>IZ c _
    | sl b o cap w h r=>
     split
     .exact MP d f hi g p q _ _ cap λK c=>IZ c _
     .exact MP d f hi g p q _ _ cap λK c=>c
   .exact .bad
  .exact .bad
 .exact .bad
end
def Zs.or (r:Zs) (σ:Υ) (s:Za):Za:=match r with
 | .ok a=>.ok a σ
 | .Zl p r=>.Zl p (r.YL σ)
 | .bad=>s
def Si (A:List Nat) (d:Option Tmp):Bool:=match d with|some d=>A.contains d|none=>false
def QP (env:Ι) (a:Array (Nat×Operand)):List (Nat×I):=a.toList.map λp=>(p.1,π env p.2)
def Ob (c a b:I):Zs:=match c with
 | .z (.bool v)=>match a,b with
  | .z (.bool x),.z (.bool y)=>.ok (.z (.bool (bif v then x else y)))
  | _,_=>match v with|true=>.ok a|false=>.ok b
 | _=>.bad
def QO (T:Z5) (σ:Υ) (src dst:TypeId) (x:I):Zs:=match Od T src dst x with
 | .bad=>match KS T src dst x with
  | .bad=>Qa T src dst σ x
  | r=>r
 | r=>r
def Wb (T:Z5) (A:List Nat) (env:Ι) (o:Oper):Zs:=
 match o.op with
 | .move x=>.ok (π env x)
 | .assign x=>.ok (π env x)
 | .pick c a b=>Ob (π env c) (π env a) (π env b)
 | .alloc e=>if Si A o.dst then .bad else Lj T e
 | .box _ x=>if Si A o.dst then .bad else Oh (π env x)
 | .build e g=>TM T (I.YP []) e (QP env g)
 | .buildSlice e n g=>if Si A o.dst then .bad else MX T (I.YP []) e n (QP env g)
 | .load e x=>Lu T e (π env x)
 | .binOp h e x y _=>KW T h e (π env x) (π env y)
 | .unOp h _ x=>Om h (π env x)
 | .convert s d x=>QO T [] s d (π env x)
 | .index e x i=>KV T e (π env x) (π env i)
 | .nilCheck x=>KU (π env x)
 | .sliceToArrayPointer e x=>KT T e (π env x)
 | .makeInterface e x=>Lv T e (π env x)
 | .makeFunc f j cs=>.ok (.fn f (j.toList.map (π env)) (cs.toList.map (π env)))
 | .makeSlice e n c=>if Si A o.dst then .bad else Lg T e (π env n) (π env c)
 | .slice e x lo hi none=>La T e (π env x) (lo.map (π env)) (hi.map (π env))
 | .fieldAddr e x f=>Ls T e f (π env x)
 | .indexAddr e x i=>Lq T e (π env x) (π env i)
 | .typeAssert x _ e k=>Pg T e k (π env x)
 | .extract x i=>Lw i (π env x)
 | .call ⟨.builtin b,⟨[x]⟩,⟨[e]⟩⟩=>match b with
  | .len=>K8 T e (π env x)
  | _=>.bad
 | .call ⟨.builtin b,⟨[x,y]⟩,⟨[l,e]⟩⟩=>match b with
  | .max=>K6 [π env x,π env y]
  | .append=>if Si A o.dst then .bad else QR T l e (I.YP []) [] (π env x) (π env y)
  | _=>.bad
 | _=>.bad
def WJ (T:Z5) (A:List Nat) (env:Ι) (σ:Υ) (o:Oper):Za:=
 match o.op with
 | .alloc a=>if Si A o.dst then Lk T a σ else .bad
 | .box a x=>if Si A o.dst then Og a σ (π env x) else Ll σ (π env x)
 | .build a e=>(TM T (I.YP σ) a (QP env e)).YL σ
 | .buildSlice a n e=>if Si A o.dst then Li T a n (QP env e) σ else(MX T (I.YP σ) a n (QP env e)).YL σ
 | .load a x=>Ts T a σ (π env x)
 | .store a p x=>Lo T a σ (π env p) (π env x)
 | .convert s d x=>(QO T σ s d (π env x)).YL σ
 | .nilCheck x=>O9 σ (π env x)
 | .binOp .eql a x (.const (.slice none 0 0)) _=>KQ T a σ (π env x)
 | .makeMap _ none=>I2 σ
 | .mapUpdate a m k x=>MS T a σ (π env m) (π env k) (π env x)
 | .insert a m k x=>MS T a σ (π env m) (π env k) (π env x)
 | .lookup a x k j=>K3 T a j σ (π env x) (π env k)
 | .range a x=>K2 T a σ (π env x)
 | .next g false=>K1 σ (π env g)
 | .entry g=>KZ σ (π env g)
 | .makeSlice a n c=>if Si A o.dst then Lh T a (π env n) (π env c) σ else .bad
 | .slice a x lo hi none=>K9 T a σ (π env x) (lo.map (π env)) (hi.map (π env))
 | .fieldAddr a x f=>Tr T a f σ (π env x)
 | .indexAddr a x i=>Tq T a σ (π env x) (π env i)
 | .call ⟨.builtin b,⟨[x]⟩,⟨[a]⟩⟩=>match b with
  | .len=>K7 T a σ (π env x)
  | .clear=>KX T a σ (π env x)
  | _=>.bad
 | .call ⟨.builtin b,⟨[x,y]⟩,⟨[h,a]⟩⟩=>match b with
  | .append=>if Si A o.dst then Lc T h a σ (π env x) (π env y) else(QR T h a (I.YP σ) σ (π env x) (π env y)).YL σ
  | _=>.bad
 | _=>.bad
section
variable {P:Program} {T:Z5} {A:List Nat} {S:Α} {B:θ} {H:Ψ} {σ:Υ} {env:Ι} {t:Array Value}
theorem Zs.Bh {s:Sem Next} {r:Zs} {a:Za} (b:Does P s S B H σ (r.YL σ)) (c:Does P s S B H σ a):Does P s S B H σ (r.or σ a):=by
 cases r with
 | ok x=>exact b
 | Zl p r=>exact b
 | bad=>exact c
theorem Bg (e:Holds S B σ H) {c a b:I} {u v w:Value} (h:Θ S B σ c u) (f:Θ S B σ a v) (g:Θ S B σ b w):Zh P (do pure (if <-asBool u then v else w)) S B H σ ((Ob c a b).YL σ):=by
 unfold Ob;split
 .rename_i x;cases h;split
  .rename_i p q;cases f;cases g;intro K d;refine Ω.bind' (Ω.pure' (Ω.pure' ?_));cases x
   .exact .same e d (.z _)
   .exact .same e d (.z _)
  .cases x
   .exact λK d=>Ω.bind' (Ω.pure' (Ω.pure' (.same e d g)))
   .exact λK d=>Ω.bind' (Ω.pure' (Ω.pure' (.same e d f)))
 .exact .bad
theorem Bf (g:YS S B σ env t) (f:Fn) (e cs:Array Operand):Θ S B σ (.fn f (e.toList.map (π env)) (cs.toList.map (π env))) (.func f (e.map (ZX t)) (cs.map (ZX t))):=by
 refine .fn _ _ J J (λi a v b c=>?_) (λi a v b c=>?_)
 .rw[Yk] at b;rw[Qm] at c;rw[V7] at b;cases d:e[i]? with
  | none=>rw[d] at b;cases b
  | some x=>rw[d] at b c;cases b;cases c;exact UN g x
 .rw[Yk] at b;rw[Qm] at c;rw[V7] at b;cases d:cs[i]? with
  | none=>rw[d] at b;cases b
  | some x=>rw[d] at b c;cases b;cases c;exact UN g x
theorem KP (a:YS S B σ env t) (o:Option Operand):Pe S B σ (o.map (π env)) (o.map (ZX t)):=by
 cases o with
 | none=>trivial
 | some x=>exact UN a x
theorem Gw {a:I} {r:Nat×ψ} (h:Sk [] a=some r):Sk σ a=some r:=by
 cases a<;>first|exact h|(simp[Sk] at h)
theorem Be {st xt:TypeId} {s x:I}:QR T st xt (I.YP []) [] s x=.bad\/QR T st xt (I.YP []) [] s x=QR T st xt (I.YP []) σ s x:=by
 unfold QR;cases a:Sk [] x with
 | none=>left;split<;>simp_all
 | some r=>rw[Gw a];exact .inr rfl
theorem Gv (a:ZJ P T) (b:Holds S B σ H) (src dst:TypeId) {x:I} {v:Value} (c:Θ S B σ x v):Zh P (convert src dst v) S B H σ ((QO T σ src dst x).YL σ):=by
 have d:=BO a b src dst c
 have e:=Bm a b src dst c;unfold QO;split
 .split
  .exact Bj a b src dst c
  .exact e
 .exact d
theorem Bd {src dst:TypeId} {x:I}:Qa T src dst [] x=.bad\/Qa T src dst [] x=Qa T src dst σ x:=by
 unfold Qa;split
 .cases a:Sk [] x with
  | none=>exact .inl rfl
  | some r=>rw[Gw a];exact .inr rfl
 .exact .inl rfl
theorem Bc {src dst:TypeId} {x:I}:QO T [] src dst x=.bad\/QO T [] src dst x=QO T σ src dst x:=by
 unfold QO;split
 .split
  .exact Bd
  .exact .inr rfl
 .exact .inr rfl
theorem Bb (g:ZJ P T) (f:Holds S B σ H) (j:YS S B σ env t) (o:Oper):Does P (execOp (ZX t) o) S B H σ ((Wb T A env o).YL σ):=by
 have d:∀x,Θ S B σ (π env x) (ZX t x):=λx=>UN j x;obtain⟨dst,n,p,pos,r,guard⟩:=o;unfold Wb;simp only;split
 .exact Does.val f (d _)
 .exact Does.val f (d _)
 .rename_i c a b;have:=(Bg (P:=P) f (d c) (d a) (d b)).next;unfold execOp;simp only;refine λK i=>?_;have k:=this K i;simpa using k
 .split
  .exact .bad
  .exact(B3 g f _).next
 .split
  .exact .bad
  .exact(B6 f _ (d _)).next
 .exact(GM g f (λa h=>Ln h) _ j _).next
 .split
  .exact .bad
  .exact(GK g f (λa h=>Ln h) _ _ j _).next
 .exact(Ch g f (d _)).next
 .exact(Br g f _ _ _ _ (d _) (d _)).next
 .exact(Cl f _ (d _)).next
 .rename_i a b x;rcases Bc (T:=T) (σ:=σ) (src:=a) (dst:=b) (x:=π env x) with h|h
  .rw[h];exact .bad
  .rw[h];exact(Gv g f _ _ (d _)).next
 .exact(Bq g f _ (d _) (d _)).next
 .exact Bp f rfl (d _)
 .exact(Bn g f _ (d _)).next
 .exact(Cj g f _ (d _)).next
 .exact Zh.next (Zh.pure f (Bf j _ _ _))
 .split
  .exact .bad
  .exact(BZ g f (d _) (d _)).next
 .exact(BS g f _ (d _) (KP j _) (KP j _)).next
 .exact(Cf g f (d _)).next
 .exact(Cb g f (d _) (d _)).next
 .exact(Ci g f _ _ _ (d _)).next
 .exact(Ck f _ (d _)).next
 .split
  .exact λK i=>by
       refine Ω.bind' (Ω.pure' ?_);have e:∀x:Operand,Array.map (ZX t) {toList:=[x]}=#[ZX t x]:=λx=>J;simp only[invoke,builtin,e];exact(BQ g f _ _ (d _)).next K i
  .exact .bad
 .split
  .exact λK i=>by
       refine Ω.bind' (Ω.pure' ?_);have e:∀x y:Operand,Array.map (ZX t) {toList:=[x,y]}=#[ZX t x,ZX t y]:=λx y=>J;simp only[invoke,builtin,e];exact(BN f _ _ (d _) (d _)).next K i
  .split
   .exact .bad
   .rename_i x y l m _ _;rcases Be (T:=T) (σ:=σ) (st:=l) (xt:=m) (s:=π env x) (x:=π env y) with h|h
    .rw[h];exact .bad
    .rw[h];exact λK i=>by
       refine Ω.bind' (Ω.pure' ?_);have e:∀x y:Operand,Array.map (ZX t) {toList:=[x,y]}=#[ZX t x,ZX t y]:=λx y=>J;simp only[invoke,builtin,e];exact(GH g f (λa h=>Ln h) _ _ _ (d _) (d _)).next K i
  .exact .bad
 .exact .bad
theorem Ba (d:ZJ P T) (c:Holds S B σ H) (g:YS S B σ env t) (o:Oper):Does P (execOp (ZX t) o) S B H σ (WJ T A env σ o):=by
 have b:∀x,Θ S B σ (π env x) (ZX t x):=λx=>UN g x;obtain⟨dst,i,j,pos,k,guard⟩:=o;unfold WJ;simp only;split
 .split
  .exact(B4 d c _).next
  .exact .bad
 .split
  .exact(B5 c _ (b _)).next
  .exact(B7 c _ (b _)).next
 .exact(GM d c (λa h=>h) _ g _).next
 .split
  .exact(B1 d c _ _ g _).next
  .exact(GK d c (λa h=>h) _ _ g _).next
 .exact(Cg d c (b _)).next
 .exact(B8 d c (b _) (b _)).next
 .exact(Gv d c _ _ (b _)).next
 .exact Bo c rfl (b _)
 .exact(Bi d c _ _ _ (b _)).next
 .exact(BD c _).next
 .exact(GA d c (b _) (b _) (b _)).next
 .exact(GA d c (b _) (b _) (b _)).next
 .exact(BC d c (b _) (b _)).next
 .exact(BB d c (b _)).next
 .exact(Bx c _ (b _)).next
 .exact(Bw c (b _)).next
 .split
  .exact(B0 d c (b _) (b _)).next
  .exact .bad
 .exact(BR d c _ (b _) (KP g _) (KP g _)).next
 .exact(Ce d c (b _)).next
 .exact(Ca d c (b _) (b _)).next
 .split
  .exact λK f=>by
       refine Ω.bind' (Ω.pure' ?_);have e:∀x:Operand,Array.map (ZX t) {toList:=[x]}=#[ZX t x]:=λx=>J;simp only[invoke,builtin,e];exact(BP d c _ _ (b _)).next K f
  .exact λK f=>by
       refine Ω.bind' (Ω.pure' ?_);have e:∀x:Operand,Array.map (ZX t) {toList:=[x]}=#[ZX t x]:=λx=>J;simp only[invoke,builtin,e];exact(Bt d c _ (b _)).next K f
  .exact .bad
 .split
  .split
   .exact λK f=>by
       refine Ω.bind' (Ω.pure' ?_);have e:∀x y:Operand,Array.map (ZX t) {toList:=[x,y]}=#[ZX t x,ZX t y]:=λx y=>J;simp only[invoke,builtin,e];exact(BU d c _ _ _ (b _) (b _)).next K f
   .exact λK f=>by
       refine Ω.bind' (Ω.pure' ?_);have e:∀x y:Operand,Array.map (ZX t) {toList:=[x,y]}=#[ZX t x,ZX t y]:=λx y=>J;simp only[invoke,builtin,e];exact(GH d c (λa h=>h) _ _ _ (b _) (b _)).next K f
  .exact .bad
 .exact .bad
end
inductive Γ (h:Nat):I->Prop where
 | z (v:Value):Γ h (.z v)
 | Ε {l:ψ}:(∀a∈l,Γ h a)->Γ h (.Ε l)
 | sl {ex:Bool} {k:Nat} {l:ψ}:(∀e∈l,∀a∈e.cells,Γ h a)->Γ h (.sl ex k l)
 | Z9 {l:ψ}:(∀a∈l,Γ h a)->Γ h (.Z9 l)
 | ZP {l:ψ}:(∀a∈l,Γ h a)->Γ h (.ZP l)
 | Ο {id n i j:Nat}:id<h->Γ h (.Ο id n i j)
 | ms {id n i len:Nat}:id<h->Γ h (.ms id n i len)
 | fn {f:Fn} {b cs:ψ}:(∀a∈b,Γ h a)->(∀a∈cs,Γ h a)->Γ h (.fn f b cs)
 | XG {t:TypeId} {a:I}:Γ h a->Γ h (.XG t a)
 | mp {id:Nat}:id<h->Γ h (.mp id)
 | it {id:Nat}:id<h->Γ h (.it id)
 | Zw:Γ h .Zw
def X8 (h:Nat):Row->Prop
 | .cells _ _ l=>∀e∈l,∀a∈e.cells,Γ h a
 | .map es=>∀e∈es,Γ h e.1/\Γ h e.2
 | .iter m left b=>m<h/\(∀e∈left,Γ h e.1/\Γ h e.2)/\∀e,b=some e->Γ h e.1/\Γ h e.2
 | .dead=>True
inductive Yu (h:Nat) (σ:Υ):I->I->Prop where
 | low {a:I}:Γ h a->Yu h σ a a
 | Zw (a:I):Yu h σ a .Zw
 | ms {id n i len k:Nat} {t:TypeId} {l c:ψ}:h<=id->σ[id]?=some (.cells t k l)->l.length=n->i+len<=n->c.length=len->
   (∀(j:Nat) (e d:I),l[i+j]?=some e->c[j]?=some d->d.cells.length=e.cells.length)->(∀(j:Nat) (e d:I),l[i+j]?=some e->c[j]?=some d->∀(x:Nat) (a b:I),e.cells[x]?=some a->d.cells[x]?=some b->Yu h σ a b)->Yu h σ (.ms id n i len) (.sl false k c)
 | Ο {id n i j k:Nat} {t:TypeId} {l cs:ψ} {e:I}:h<=id->σ[id]?=some (.cells t k l)->l.length=n->l[i]?=some e->cs.length<=e.cells.length-j->
   (∀(x:Nat) (a b:I),e.cells[j+x]?=some a->cs[x]?=some b->Yu h σ a b)->Yu h σ (.Ο id n i j) (.Ε cs)
 | Z9 {l c:ψ}:c.length=l.length->(∀(x:Nat) (a b:I),l[x]?=some a->c[x]?=some b->Yu h σ a b)->Yu h σ (.Z9 l) (.Z9 c)
 | ZP {l c:ψ}:c.length=l.length->(∀(x:Nat) (a b:I),l[x]?=some a->c[x]?=some b->Yu h σ a b)->Yu h σ (.ZP l) (.ZP c)
 | fn {f:Fn} {g m cs cs':ψ}:m.length=g.length->cs'.length=cs.length->(∀(x:Nat) (a b:I),g[x]?=some a->m[x]?=some b->Yu h σ a b)->(∀(x:Nat) (a b:I),cs[x]?=some a->cs'[x]?=some b->Yu h σ a b)->Yu h σ (.fn f g cs) (.fn f m cs')
section
variable {S:Α} {B:θ} {H:Ψ} {σ:Υ} {h:Nat}
def Late (B:θ) (σ:Υ) (h b:Nat):Prop:=∃id t k l N,h<=id/\σ[id]?=some (Row.cells t k l)/\B[id]?=some (some (b,N))
open Classical in
noncomputable def Α.close (S:Α) (B:θ) (σ:Υ) (H:Ψ) (h:Nat):Α:=λb o=>if Late B σ h b then(H.ς b o).map (·.1) else S b o
theorem KO (a:Holds S B σ H):∀b o v,S b o=some v->S.close B σ H h b o=some v:=λb o v hv=>by
 unfold Α.close;split
 .rename_i c;obtain⟨id,t,k,l,N,f,d,e⟩:=c;have:=a.sep id _ b N d trivial e o;rw[hv] at this;cases this
 .exact hv
theorem Θ.Rz (s:Holds S B σ H) {a:I} {v:Value} (t:Θ S B σ a v) (d:Γ h a):Θ (S.close B σ H h) (B.take h) (σ.take h) a v:=by
 have k:∀{u:Type} (l:List u) (i:Nat),i<h->(l.take h)[i]?=l[i]?:=λl i hi=>T2 hi
 induction t with
 | z v=>exact .z v
 | Ε b o w f _ m=>
  cases d with
  | Ε d=>exact .Ε b o w (λj a n=>KO s _ _ _ (f j a n)) λj a n=>m j a n (d a (Zk n))
 | WB base cap h=>exact .WB base cap h
 | sl b o cap w f g p r _ m=>
  cases d with
  | sl d=>exact .sl b o cap w f g p (λi e hi j c n=>KO s _ _ _ (r i e hi j c n)) λi e hi j c n=>m i e hi j c n (d e (Zk hi) c (Zk n))
 | Z9 vs f _ m=>
  cases d with
  | Z9 d=>exact .Z9 vs f λi a v hi hv=>m i a v hi hv (d a (Zk hi))
 | ZP vs f _ m=>
  cases d with
  | ZP d=>exact .ZP vs f λi a v hi hv=>m i a v hi hv (d a (Zk hi))
 | Ο f g p=>
  cases d with
  | Ο d=>exact .Ο (by rw[k _ _ d];exact f) g (by rw[k _ _ d];exact p)
 | VQ v f g=>
  cases d with
  | Ο d=>exact .VQ v (by rw[k _ _ d];exact f) g
 | ms cap f g p r x y=>
  cases d with
  | ms d=>exact .ms cap (by rw[k _ _ d];exact f) g (by rw[k _ _ d];exact p) r x y
 | V3 v f g=>
  cases d with
  | ms d=>exact .V3 v (by rw[k _ _ d];exact f) g
 | fn vs A f g _ _ C D=>
  cases d with
  | fn E F=>exact .fn vs A f g (λi a v hi hv=>C i a v hi hv (E a (Zk hi))) λi a v hi hv=>D i a v hi hv (F a (Zk hi))
 | XG v _ m=>
  cases d with
  | XG d=>exact .XG v (m d)
 | mp f g=>
  cases d with
  | mp d=>exact .mp (by rw[k _ _ d];exact f) (by rw[k _ _ d];exact g)
 | UO v f=>
  cases d with
  | mp d=>exact .UO v (by rw[k _ _ d];exact f)
 | it f g=>
  cases d with
  | it d=>exact .it (by rw[k _ _ d];exact f) (by rw[k _ _ d];exact g)
 | TO v f=>
  cases d with
  | it d=>exact .TO v (by rw[k _ _ d];exact f)
 | Zw v=>exact .Zw v
theorem Gu {id b N:Nat} {t:TypeId} {k:Nat} {l:ψ} (a:h<=id) (c:σ[id]?=some (.cells t k l)) (d:B[id]?=some (some (b,N))) {o:Nat} {v:Value} {p:Bool} (hv:H.ς b o=some (v,p)):S.close B σ H h b o=some v:=by
 unfold Α.close;rw[if_pos ⟨id,t,k,l,N,a,c,d⟩,hv];rfl
theorem Θ.A' (M:Holds S B σ H) {a c:I} (X:Yu h σ a c):∀{v:Value},Θ S B σ a v->Θ (S.close B σ H h) (B.take h) (σ.take h) c v:=by
 induction X with
 | low Y=>intro v o;exact o.Rz M Y
 | Zw a=>intro v _;exact .Zw v
 | @ms id n i len k t l O m g Z P E T _ A=>
  intro v o;cases o with
  | ms cap d p C V ae Q=>
   rw[g] at d;cases d;by_cases W:O=[]
   .subst W;have:len=0:=by rw[<-E];rfl
    subst this;exact .WB _ _ J
   .have af:0<len:=by rw[<-E];exact Q9.2 W
    rcases Q with Q|⟨b,N,rfl,rfl,Q⟩
    .omega
    .obtain⟨_,_,_,w,D⟩:=M.row id _ _ g C;have el:∀(j:Nat) (r:I),O[j]?=some r->∃e,l[i+j]?=some e/\e.cells.length=k/\r.cells.length=k:=λj r u=>by
      have y:j<len:=by rw[<-E];exact(ZD.1 u).1
      have F:l[i+j]?=some l[i+j]:=ε U;exact⟨_,F,(D _ _ F).1,(T j _ r F u).trans (D _ _ F).1⟩
     have:=Θ.sl (S:=S.close B σ H h) (B:=B.take h) (σ:=σ.take h) (ex:=false) (k:=k) (l:=O) b (i*k) cap (λj x=>w (i+j) x) J U (λj r u=>(el j r u).choose_spec.2.2)
      (λj r u x c s=>by
       obtain⟨e,K,Χ,R⟩:=el j r u;have L:x<e.cells.length:=by rw[Χ,<-R];exact(ZD.1 s).1
       have:=((D _ e K).2 x _ (ε L)).1;rw[WW] at this;exact Gu m g C this)
      (λj r u x c s=>by
       obtain⟨e,K,Χ,R⟩:=el j r u;have L:x<e.cells.length:=by rw[Χ,<-R];exact(ZD.1 s).1
       exact A j e r K u x _ c (ε L) s ((D _ e K).2 x _ (ε L)).2.1)
     rw[E] at this;exact this
  | V3 v d p=>rw[g] at d;cases d;simp only[Row.W0] at p;omega
 | @Ο id n i j k t l cs e m g Z P E T A=>
  intro v o;cases o with
  | Ο d p C=>
   rw[g] at d;cases d;obtain⟨_,_,_,w,D⟩:=M.row id _ _ g C;have el:∀(x:Nat) (c:I),cs[x]?=some c->∃a,e.cells[j+x]?=some a:=λx c s=>by
    have:=(ZD.1 s).1;exact⟨_,ε U⟩
   refine .Ε _ _ (λx=>w i (j+x)) (λx c s=>?_) (λx c s=>?_)
   .obtain⟨a,f⟩:=el x c s;have:=((D i e P).2 _ a f).1;rw[<-SZ] at this;exact Gu m g C this
   .obtain⟨a,f⟩:=el x c s;exact A x a c f s ((D i e P).2 _ a f).2.1
  | VQ v d p=>rw[g] at d;cases d;simp only[Row.W0] at p;omega
 | Z9 m g A=>
  intro v o;cases o with
  | Z9 vs d p=>
   refine .Z9 vs (by rw[m,d]) λi c w hi hv=>?_;have y:=(ZD.1 hi).1;have f:=ε (m▸y);exact A i _ c f hi (p i _ w f hv)
 | ZP m g A=>
  intro v o;cases o with
  | ZP vs d p=>
   refine .ZP vs (by rw[m,d]) λi c w hi hv=>?_;have y:=(ZD.1 hi).1;have f:=ε (m▸y);exact A i _ c f hi (p i _ w f hv)
 | fn m g _ _ aa ab=>
  intro v o;cases o with
  | fn vs ad d p C V=>
   refine .fn vs ad (by rw[m,d]) (by rw[g,p]) (λi c w hi hv=>?_) (λi c w hi hv=>?_)
   .have y:=(ZD.1 hi).1
    have f:=ε (m▸y);exact aa i _ c f hi (C i _ w f hv)
   .have y:=(ZD.1 hi).1
    have f:=ε (g▸y);exact ab i _ c f hi (V i _ w f hv)
theorem VP.Rz (f:Holds S B σ H) {r:Row} {bo:Option (Nat×Nat)} (v:VP S B σ H r bo) (A:X8 h r):VP (S.close B σ H h) (B.take h) (σ.take h) H r bo:=by
 have F:∀{M:Type} (l:List M) (i:Nat),i<h->(l.take h)[i]?=l[i]?:=λl i hi=>T2 hi;cases r with
 | cells t k l=>
  cases bo with
  | none=>exact v
  | some x=>
   obtain⟨b,N⟩:=x;obtain⟨n,o,p,w,g⟩:=v;refine⟨n,o,p,w,λi e hi=>⟨(g i e hi).1,λj a I=>?_⟩⟩;obtain⟨s,u,C⟩:=(g i e hi).2 j a I;exact⟨s,u.Rz f (A e (Zk hi) a (Zk I)),C⟩
 | map es=>
  obtain⟨b,N,xs,D,rfl,n,o,p,g⟩:=v;exact⟨b,N,xs,D,rfl,n,o,λi e y a b=>by
   obtain⟨s,u,C⟩:=p i e y a b;exact⟨s.Rz f (A e (Zk a)).1,u.Rz f (A e (Zk a)).2,C⟩,g⟩
 | iter m left X=>
  obtain⟨J,K,L⟩:=A;obtain⟨b,N,O,P,xs,D,seen,rfl,n,o,p,g,⟨Q,R,T,U⟩,V,W⟩:=v;refine⟨b,N,O,P,xs,D,seen,rfl,by rw[F _ _ J];exact n,by rw[F _ _ J];exact o,p,g,⟨Q,R,T,λi e y a b=>?_⟩,V,λe E=>?_⟩
  .obtain⟨s,u⟩:=U i e y a b;exact⟨s.Rz f (K e (Zk a)).1,u.Rz f (K e (Zk a)).2⟩
  .obtain⟨st,y,a,b,c,d⟩:=W e E;exact⟨st,y,a,b,c.Rz f (L e E).1,d.Rz f (L e E).2⟩
 | dead=>trivial
theorem Holds.close (a:Holds S B σ H) (u:∀(id:Nat) (r:Row),id<h->σ[id]?=some r->X8 h r) :
  Holds (S.close B σ H h) (B.take h) (σ.take h) H/\Ext S B H (S.close B σ H h) (B.take h) H:=by
 have c:∀{n:Type} (l:List n) (i:Nat) (x:n),(l.take h)[i]?=some x->i<h/\l[i]?=some x:=λl i x hi=>by
  rw[PB] at hi;split at hi
  .exact⟨‹_›,hi⟩
  .cases hi
 refine⟨⟨λb o v hv=>?_,by simp[a.len],λid r bo g m=>?_,λi j w y b A C D hi E F I J K=>?_,λid r b N g f m o=>?_⟩,⟨KO a,λb _ _=>TN.of ⟨λ_=>rfl,rfl,rfl⟩,λb ⟨N,L⟩=>.inl ⟨N,L4 L⟩,λb o v hv=>?_,λ_ h=>h⟩⟩
 .unfold Α.close at hv;split at hv
  .cases p:H.ς b o with
   | none=>rw[p] at hv;cases hv
   | some x=>rw[p] at hv;cases hv;exact⟨x.2,rfl⟩
  .exact a.YX b o v hv
 .obtain⟨s,e⟩:=c _ _ _ g;obtain⟨_,d⟩:=c _ _ _ m;exact(a.row id r bo e d).Rz a (u id r s e)
 .exact a.inj i j w y b A C D (c _ _ _ hi).2 (c _ _ _ E).2 F I (c _ _ _ J).2 (c _ _ _ K).2
 .obtain⟨s,e⟩:=c _ _ _ g;obtain⟨_,d⟩:=c _ _ _ m;unfold Α.close;rw[if_neg]
  .exact a.sep id r b N e f d o
  .rintro⟨M,t,k,l,O,R,P,Q⟩;exact a.inj id M r _ b N O U e P f trivial d Q
 .unfold Α.close at hv;split at hv
  .rename_i f;obtain⟨id,t,k,l,N,_,_,d⟩:=f;exact .inr (.inl (SN d))
  .exact .inl hv
theorem ZC.close {a:Α} {c:θ} {σ0:Υ} (g:Holds S B σ H) (d:ZC a S c B σ0 σ) (i:σ0.length<=h):ZC a (S.close B σ H h) c (B.take h) σ0 (σ.take h):=
 ⟨λb o v hv=>KO g b o v (d.YX b o v hv),λid r e=>by
  have f:id<h:=L3 (ZD.1 e).1 i;obtain⟨r',j,k⟩:=d.rows id r e;exact⟨r',by rw[T2 f];exact j,by rw[T2 f];exact k⟩⟩
end
end Go.TL
namespace Go.TL
open Go.Conc
variable [ZS]
structure Ye (m:Nat) (S:Α) (B:θ) (H:Ψ) (σ:Υ) (a:Α) (B':θ) (H':Ψ) (σ':Υ):Prop where
 ext:Ext S B H a B' H'
 later:ZC S a (B.take m) B' (σ.take m) σ'
structure XN (m nt:Nat) (S:Α) (B:θ) (H:Ψ) (σ:Υ) (env:Ι) (t:Array Value):Prop where
 holds:Holds S B σ H
 Zr:YS S B σ env t
 size:t.size=nt
 rows:m<=σ.length
section
variable {m:Nat} {S YI Gt:Α} {B B' Gs:θ} {H H' Gr:Ψ} {σ σ' Gq:Υ}
theorem ZC.left (h:ZC S YI B B' σ σ') (m:Nat):ZC S YI (B.take m) B' (σ.take m) σ':=
 ⟨h.YX,λid r a=>by
  rw[PB] at a;split at a
  .rename_i b;rw[T2 b];exact h.rows id r a
  .cases a⟩
theorem ZC.right (h:ZC S YI B B' σ σ') (c:σ.length<=m):ZC S YI B (B'.take m) σ (σ'.take m):=
 ⟨h.YX,λid r a=>by
  have b:id<m:=L3 (ZD.1 a).1 c;rw[T2 b,T2 b];exact h.rows id r a⟩
theorem Ye.of (h:Ext S B H YI B' H') (k:ZC S YI B B' σ σ'):Ye m S B H σ YI B' H' σ':=⟨h,k.left m⟩
theorem Ye.refl:Ye m S B H σ S B H σ:=.of (.refl _ _ _) (.refl _ _ _)
theorem Ye.trans (h:Ye m S B H σ YI B' H' σ') (k:Ye m YI B' H' σ' Gt Gs Gr Gq):Ye m S B H σ Gt Gs Gr Gq:=
 ⟨h.ext.trans k.ext,(h.later.right (m:=m) (by simp;omega)).trans k.later⟩
theorem ZC.length (h:ZC S YI B B' σ σ'):σ.length<=σ'.length:=by
 apply T4;intro c;have a:σ'.length<σ.length:=U;obtain⟨r',b,_⟩:=h.rows σ'.length _ (ε a);simp at b
end
def Leaves (j:List Item) (k:List Item):Prop:=k=j
def W (P:Program) (m nt:Nat) (k:List Item) (env:Ι) (σ:Υ) (Z:XF) (E:Yf):Prop:=
 ∀(e:Value->Prop) (mn:Bool) (x:W') (cs:List Frame) (b:Frame) (S:Α) (B:θ) (H:Ψ) (t:Array Value),Seq x->b.mode=.run->XN m nt S B H σ env t->
  (∀(j:List Item) (env':Ι) (σ':Υ) (c:Α) (B':θ) (H':Ψ) (t':Array Value) (d:List Item),Z j env' σ'->Ye m S B H σ c B' H' σ'->XN m nt c B' H' σ' env' t'->Leaves j d->ξ P e mn x (Η b t' d) cs H')->
  (∀(a:I) (env':Ι) (σ':Υ) (c:Α) (B':θ) (H':Ψ) (t':Array Value) (d:List Item) (v:Value),E a env' σ'->Ye m S B H σ c B' H' σ'->Holds c B' σ' H'->YS c B' σ' env' t'->Θ c B' σ' a v->ξ P e mn x {Η b t' d with mode:=.panicking [{v,recovered:=false}]} cs H')->
  ξ P e mn x (Η b t k) cs H
section
variable {P:Program} {m nt:Nat} {k:List Item} {env:Ι} {σ:Υ} {Z:XF} {E:Yf}
theorem W.stop (h:Z k env σ):W P m nt k env σ Z E:=λ_ _ _ _ _ S B H t _ _ a b _=>b k env σ S B H t k h .refl a rfl
theorem W.nil (h:Z [] env σ):W P m nt [] env σ Z E:=.stop h
theorem W.ret (h:Z (.code .ret::k) env σ):W P m nt (.code .ret::k) env σ Z E:=.stop h
theorem W.skip (h:W P m nt k env σ Z E):W P m nt (.code .skip::k) env σ Z E:=λd mn x cs b S B H t a c e f g=>.skip a c (h d mn x cs b S B H t a c e f g)
theorem W.inBlock {l:Nat} (h:W P m nt k env σ Z E):W P m nt (.inBlock l::k) env σ Z E:=λd mn x cs b S B H t a c e f g=>.inBlock a c (h d mn x cs b S B H t a c e f g)
theorem W.seq {a c:Code} (h:W P m nt (.code a::.code c::k) env σ Z E):W P m nt (.code (.seq a c)::k) env σ Z E:=λf mn x cs b S B H t d e g i j=>.seq d e (h f mn x cs b S B H t d e g i j)
theorem W.block {l:Nat} {c:Code} (h:W P m nt (.code c::.inBlock l::k) env σ Z E):W P m nt (.code (.block l c)::k) env σ Z E:=λe mn x cs b S B H t a d f g i=>.block a d (h e mn x cs b S B H t a d f g i)
theorem W.inLoop {c:Code} (h:W P m nt (.code c::.inLoop c::k) env σ Z E):W P m nt (.inLoop c::k) env σ Z E:=λe mn x cs b S B H t a d f g i=>.inLoop a d (h e mn x cs b S B H t a d f g i)
theorem W.loop {c:Code} (h:W P m nt (.code c::.inLoop c::k) env σ Z E):W P m nt (.code (.loop c)::k) env σ Z E:=λe mn x cs b S B H t a d f g i=>.loop a d (h e mn x cs b S B H t a d f g i)
theorem W.exit {id:Nat} {a:List Item} (e:exitTo id k=some a) (h:W P m nt a env σ Z E):W P m nt (.code (.exit id)::k) env σ Z E:=λf mn x cs b S B H t c d g i j=>.exit c d e (h f mn x cs b S B H t c d g i j)
theorem W.cond {c:Operand} {a e:Code} {v:Bool} (i:π env c=.z (.bool v)) (h:W P m nt (.code (if v then a else e)::k) env σ Z E):W P m nt (.code (.cond c a e)::k) env σ Z E:=λj mn x cs b S B H t d f g l n=>by
 refine .cond (v:=v) d f ?_ (h j mn x cs b S B H t d f g l n);have:=UN g.Zr c;rw[i] at this;rw[M5];generalize ZX t c=u at this;cases this;rfl
theorem W.cut (h:Nat) (aa:m<=h) (env':Ι) (ab:h<=σ.length) (F:∀(id:Nat) (r:Row),id<h->σ[id]?=some r->X8 h r) (I:∀p∈env',Yu h σ (Z' env p.1) p.2) (K:W P m nt k env' (σ.take h) Z E):W P m nt k env σ Z E:=
 λL mn x cs b S B H t M N c O Q=>by
 obtain⟨R,T⟩:=c.holds.close F;have d:ZC S (S.close B σ H h) (B.take m) (B.take h) (σ.take m) (σ.take h):=by
  have:=ZC.close (h:=h) c.holds ((ZC.refl S B σ).left m) (by simp;omega);exact this
 have D:Ye m S B H σ (S.close B σ H h) (B.take h) H (σ.take h):=⟨T,d⟩
 have U:∀(l:Ι),(∀p∈l,Yu h σ (Z' env p.1) p.2)->∀i,Yu h σ (Z' env i) (Z' l i):=by
  intro l
  induction l with
  | nil=>intro _ i;exact .Zw _
  | cons p l V=>
   intro d i;simp only[Z'];split
   .rename_i e;rw[<-e];exact d p J
   .exact V (λq X=>d q (by simp[X])) i
 refine K L mn x cs b _ _ H t M N ⟨R,λi=>(c.Zr i).A' c.holds (U env' I i),c.size,by simp;omega⟩ (λj f g n o s t2 u w y A C=>?_) (λa f g n o s t2 u v w y A C Y=>?_)
 .exact O j f g n o s t2 u w (D.trans y) A C
 .exact Q a f g n o s t2 u v w (D.trans y) A C Y
end
def X1 (S:Α) (B:θ) (σ:Υ) (as9:ψ) (vs:Array Value):Prop:=as9.length=vs.size/\∀(i:Nat) (a:I) (v:Value),as9[i]?=some a->vs[i]?=some v->Θ S B σ a v
structure O8 (P:Program) (d:Value->Prop) (mn:Bool) (x:W') (c:Frame) (rest:List Frame) (S:Α) (B:θ) (H:Ψ) (σ:Υ) (K:I->Υ->Prop) (E:I->Υ->Prop):Prop where
 ret:∀(a:I) (σ':Υ) (b:Α) (B':θ) (H':Ψ) (v:Value),K a σ'->Ext S B H b B' H'->ZC S b B B' σ σ'->Holds b B' σ' H'->Θ b B' σ' a v->ξ P d mn x (c.finish v) rest H'
 Oa:∀(a:I) (σ':Υ) (b:Α) (B':θ) (H':Ψ) (v:Value),E a σ'->Ext S B H b B' H'->ZC S b B B' σ σ'->Holds b B' σ' H'->Θ b B' σ' a v->ξ P d mn x (c.raise [{v,recovered:=false}]) rest H'
def Gp (P:Program) (a:Value->Prop) (mn:Bool) (x:W') (c:Frame) (rest:List Frame):Next->Ψ->Prop
 | .enter g as9,H=>ξ P a mn x (Frame.enter P g as9 .normal) (c::rest) H
 | .round l f b d e,H=>ξ P a mn x (Frame.round l f b d e .normal) (c::rest) H
 | .value v,H=>ξ P a mn x (c.finish v) rest H
 | _,_=>False
def WZ (P:Program) (f:I) (args:ψ) (σ:Υ) (K:I->Υ->Prop) (E:I->Υ->Prop):Prop:=
 ∀(a:Value->Prop) (mn:Bool) (x:W') (c:Frame) (rest:List Frame) (S:Α) (B:θ) (H:Ψ) (b:Value) (vs:Array Value),Seq x->Holds S B σ H->Θ S B σ f b->X1 S B σ args vs->O8 P a mn x c rest S B H σ K E->
  Ω P (do let d <-Deferred.ofValue b vs;invoke d.target d.args) H (Gp P a mn x c rest) (λ_ _=>False)
def Plain (P:Program) (g:FuncId):Prop:=∃fn,P.funcs[g]?=some fn/\(fn.name == "runtime.NumGoroutine")=false/\fn.body.isNone=false
def Δ (P:Program) (g:FuncId) (args:ψ) (σ:Υ) (K:I->Υ->Prop) (E:I->Υ->Prop):Prop:=
 Plain P g/\∀(a:Value->Prop) (mn:Bool) (x:W') (c:Frame) (rest:List Frame) (S:Α) (B:θ) (H:Ψ) (vs:Array Value),Seq x->Holds S B σ H->X1 S B σ args vs->O8 P a mn x c rest S B H σ K E->
  ξ P a mn x (Frame.enter P g vs .normal) (c::rest) H
section
variable {P:Program} {T:Z5} {A:List Nat} {m nt:Nat} {k:List Item} {env:Ι} {σ:Υ} {Z:XF} {E:I->Υ->Prop} {K:I->Υ->Prop} {F:Yf}
theorem X1.append {S:Α} {B:θ} {as9 d:ψ} {vs e:Array Value} (h:X1 S B σ as9 vs) (k:X1 S B σ d e):X1 S B σ (as9++d) (vs++e):=by
 refine⟨by simp[h.1,k.1],λi a v b c=>?_⟩;by_cases f:i<as9.length
 .rw[YU f] at b;rw[OJ (by rw[<-h.1];exact f)] at c;exact h.2 i a v b c
 .rw[XT U] at b;rw[L' (by rw[<-h.1];omega),<-h.1] at c;exact k.2 _ a v b c
theorem Δ.mono {g:FuncId} {args:ψ} {K':I->Υ->Prop} {E':I->Υ->Prop} (h:Δ P g args σ K E) (f:∀a s,K a s->K' a s) (i:∀a s,E a s->E' a s):Δ P g args σ K' E':=
 ⟨h.1,λj mn x c rest S B H vs k l hv e=>h.2 j mn x c rest S B H vs k l hv ⟨λa σ' b B' H' v d=>e.ret a σ' b B' H' v (f _ _ d),λa σ' b B' H' v d=>e.Oa a σ' b B' H' v (i _ _ d)⟩⟩
theorem WZ.mono {f:I} {args:ψ} {K':I->Υ->Prop} {E':I->Υ->Prop} (h:WZ P f args σ K E) (g:∀a s,K a s->K' a s) (i:∀a s,E a s->E' a s):WZ P f args σ K' E':=
 λj mn x c rest S B H k vs l m n hv e=>h j mn x c rest S B H k vs l m n hv ⟨λa σ' b B' H' v d=>e.ret a σ' b B' H' v (g _ _ d),λa σ' b B' H' v d=>e.Oa a σ' b B' H' v (i _ _ d)⟩
theorem Δ.call {g:FuncId} {first args captured:ψ} (h:Δ P g (first++args++captured) σ K E):WZ P (.fn (.func g) first captured) args σ K E:=by
 intro a mn x c rest S B H v vs b d e hv f;cases e with
 | fn i j k l m n=>
  refine Ω.bind' (Ω.pure' ?_);obtain⟨⟨fn,o,p,r⟩,s⟩:=h;unfold invoke;simp only;unfold callFunc;refine Ω.bind' ?_;show Ω P (match P.funcs[g]? with|none=>_|some fn=>_) H _ _;rw[o];simp only[p,r,Xu,if_false];refine Ω.pure' ?_;have t:X1 S B σ first i:=⟨k,m⟩
  have u:X1 S B σ captured j:=⟨l,n⟩;exact s a mn x c rest S B H _ b d ((t.append hv).append u) f
def X7 (env:Ι) (ops:Array Oper) (o:Oper):Option Bool:=match o.guard with
 | none=>some true
 | some (j,a)=>match (ops[j]?).bind (·.dst) with
  | some d=>match Z' env d with
   | .z (.bool b)=>some (b==a)
   | _=>none
  | none=>none
theorem Vz {S:Α} {B:θ} {t:Array Value} (h:YS S B σ env t) {ops:Array Oper} {o:Oper} {w:Bool} (a:X7 env ops o=some w):Region.wanted o (yielded ops t)=w:=by
 unfold X7 at a;unfold Region.wanted;split at a
 .rename_i e;rw[e];cases a;rfl
 .rename_i j g e;rw[e];split at a
  .rename_i d hd;split at a
   .rename_i b i;cases a;have c:=h d;rw[i] at c;unfold yielded;rw[W3] at c;cases f:t[d]? with
    | none=>rw[f] at c;cases c
    | some v=>
     rw[f] at c;simp only[Option.getD_some] at c;cases c;simp only[hd,Option.bind_some,f];cases b<;>cases g<;>rfl
   .cases a
  .cases a
def ZE (o:Oper) (env:Ι) (a:I):Ι:=match o.dst with|some d=>(d,a)::env|none=>env
def W9 (nt:Nat) (o:Oper):Bool:=match o.dst with|some d=>decide (d<nt)|none=>true
theorem Ry {S:Α} {B:θ} {t:Array Value} (h:YS S B σ env t) {o:Oper} (hd:W9 nt o=true) (b:t.size=nt) {a:I} {v:Value} (c:Θ S B σ a v):YS S B σ (ZE o env a) (put o t v)/\(put o t v).size=nt:=by
 unfold ZE put;unfold W9 at hd;cases e:o.dst with
 | none=>exact⟨h,b⟩
 | some d=>
  rw[e] at hd;simp only[decide_eq_true_eq] at hd;exact⟨h.put (by rw[b];exact hd) c,by simp[b]⟩
theorem W.unwanted {ops:Array Oper} {i:Nat} {o:Oper} {rest:List Nat} (f:ops[i]?=some o) (g:X7 env ops o=some false) (hd:W9 nt o=true) (h:W P m nt (.inRegion ops rest::k) (ZE o env .Zw) σ Z F):W P m nt (.inRegion ops (i::rest)::k) env σ Z F:=
 λj mn x cs b S B H t d e c l n=>by
 obtain⟨p,r⟩:=Ry c.Zr hd c.size (a:=.Zw) (v:=undef) (.Zw _);exact .unwanted d e f (Vz c.Zr g) (h j mn x cs b S B H _ d e ⟨c.holds,p,r,c.rows⟩ l n)
theorem W.op (C:ZJ P T) {ops:Array Oper} {i:Nat} {o:Oper} {rest:List Nat} (L:ops[i]?=some o) (M:X7 env ops o=some true) (hd:W9 nt o=true) (N:∀c,o.op≠.defer c)
  (h:((Wb T A env o).or σ (WJ T A env σ o)).holds λa σ'=>W P m nt (.inRegion ops rest::k) (ZE o env a) σ' Z F):W P m nt (.inRegion ops (i::rest)::k) env σ Z F:=
 λD mn x cs b S B H t E I d O Q=>by
 refine .op E I L (Vz d.Zr M) (.inr N) ?_;have R:=Zs.Bh (Bb (A:=A) C d.holds d.Zr o) (Ba (A:=A) C d.holds d.Zr o);refine Ω.mono (λU H' ⟨v,hv,J,B',σ',a,V,X,Y,e,aa⟩=>?_) (λ_ _ h=>h.elim) _ (R _ h);obtain⟨ab,ad⟩:=Ry (d.Zr.later e) hd d.size aa;have K:Ye m S B H σ J B' H' σ':=.of X e;have ae:ξ P D mn x (Η b (put o t v) (.inRegion ops rest::k)) cs H':=
  V D mn x cs b J B' H' _ E I ⟨Y,ab,ad,Xs d.rows e.length⟩ (λj f g l n p t2 r s u w y=>O j f g l n p t2 r s (K.trans u) w y)
   (λaf f g l n p t2 r ag s u w y ah=>Q af f g l n p t2 r ag s (K.trans u) w y ah)
 cases U<;>simp only[G1,reduceCtorEq,Q8] at hv<;>first|(subst hv;exact ae)|skip
theorem W.call {ops:Array Oper} {i:Nat} {o:Oper} {rest:List Nat} (w:ops[i]?=some o) (ad:X7 env ops o=some true) (hd:W9 nt o=true) {f:Operand} {args:Array Operand} {ae:Array TypeId} (X:o.op=.call ⟨.value f,args,ae⟩)
  (h:WZ P (π env f) (args.toList.map (π env)) σ (λa σ'=>W P m nt (.inRegion ops rest::k) (ZE o env a) σ' Z F) (λa s=>F a env s)):W P m nt (.inRegion ops (i::rest)::k) env σ Z F:=
 λY mn x cs b S B H t l A g af aa=>by
 refine .op l A w (Vz g.Zr ad) (.inr λc=>by rw[X];simp) ?_;have ag:X1 S B σ (args.toList.map (π env)) (args.map (ZX t)):=by
  refine⟨J,λi a v p C=>?_⟩;rw[Yk,V7] at p;rw[Qm] at C;cases l:args[i]? with
  | none=>rw[l] at p;cases p
  | some y=>rw[l] at p C;cases p;cases C;exact UN g.Zr y
 have ah:=h Y mn x (Η b t (.inRegion ops (i::rest)::k)) cs S B H (ZX t f) (args.map (ZX t)) l g.holds (UN g.Zr f) ag ⟨λa σ' u B' H' v ai D n E I=>?_,λa σ' u B' H' v aj D n E I=>?_⟩
 .have e:execOp (ZX t) o=(do let d <-Deferred.ofValue (ZX t f) (args.map (ZX t));invoke d.target d.args):=by unfold execOp;rw[X];rfl
  rw[e];refine Ω.mono (λak H' r=>?_) (λ_ _ h=>h.elim) _ ah;cases ak<;>first|exact r.elim|exact r|skip
  rename_i v;have:=Wr (b:=b) (t:=t) (k:=k) (v:=v) w (rest:=rest);simp only[Gp] at r;rw[this] at r;exact r
 .obtain⟨al,am⟩:=Ry (g.Zr.later n) hd g.size I;have ab:Ye m S B H σ u B' H' σ':=.of D n;rw[Wr w];exact ai Y mn x cs b u B' H' _ l A ⟨E,al,am,Xs g.rows n.length⟩ (λj K L M N O t2 Q R T U V=>af j K L M N O t2 Q R (ab.trans T) U V)
   (λan K L M N O t2 Q ao R T U V ap=>aa an K L M N O t2 Q ao R (ab.trans T) U V ap)
 .have:=aa a env σ' u B' H' t (.inRegion ops (i::rest)::k) v aj (.of D n) E (g.Zr.later n) I
  have e:(Η b t (.inRegion ops (i::rest)::k)).raise [{v,recovered:=false}]={Η b t (.inRegion ops (i::rest)::k) with mode:=.panicking [{v,recovered:=false}]}:=by simp[Frame.raise,Η,A]
  rw[e];exact this
theorem W.panic {ops:Array Oper} {i:Nat} {o:Oper} {rest:List Nat} (l:ops[i]?=some o) (n:X7 env ops o=some true) {y:Operand} (j:o.op=.panic y) {f:TypeId} {a:I} (p:π env y=.XG f a) (h:F (.XG f a) env σ):W P m nt (.inRegion ops (i::rest)::k) env σ Z F:=
 λC mn x cs b S B H t r s d D u=>by
 refine .op r s l (Vz d.Zr n) (.inr λc=>by rw[j];simp) ?_;have g:=UN d.Zr y;have e:execOp (ZX t) o=(do pure (.value (<-Instr.panic (ZX t y)))):=by unfold execOp;rw[j]
 rw[e];rw[p] at g;generalize hv:ZX t y=v at g;refine Ω.bind' ?_;cases g with
 | XG w A=>exact u (.XG f a) env σ S B H t _ _ h .refl d.holds d.Zr (.XG w A)
end
def O7 (P:Program) (T:Z5) (A:List Nat) (env:Ι) (o:Oper) (σ:Υ) (K:I->Υ->Prop) (E:Yf):Prop:=match o.op with
 | .call ⟨.value f,args,_⟩=>WZ P (π env f) (args.toList.map (π env)) σ K (λa s=>E a env s)
 | .panic y=>match π env y with|.XG t a=>E (.XG t a) env σ|_=>False
 | .defer _=>False
 | _=>((Wb T A env o).or σ (WJ T A env σ o)).holds K
def WI (w:Bool) (a b:Prop):Prop:=(w=false->a)/\(w=true->b)
theorem A9 {a b:Prop}:WI true a b=b:=by simp[WI]
theorem A8 {a b:Prop}:WI false a b=a:=by simp[WI]
theorem A7 {w w':Bool} {a b:Prop} (h:w=w'):WI w a b=WI w' a b:=by rw[h]
def XD {b:Type} (x:Option b) (f:b->Prop):Prop:=match x with|none=>False|some a=>f a
theorem A6 {b:Type} {a:b} {f:b->Prop}:XD (some a) f=f a:=XU rfl rfl
theorem A5 {a:Type} {f:a->Prop}:XD none f=False:=rfl
theorem A4 {a:Type} {x b:Option a} {f:a->Prop} (h:x=b):XD x f=XD b f:=by rw[h]
theorem A3 {K:I->Υ->Prop} {r r':Za} (h:r=r'):r.holds K=r'.holds K:=by rw[h]
theorem or_congr {r r':Zs} {σ:Υ} {s:Za} (h:r=r'):r.or σ s=r'.or σ s:=by rw[h]
def run (P:Program) (T:Z5) (A:List Nat) (nt:Nat) (ops:Array Oper):List Nat->Ι->Υ->(Ι->Υ->Prop)->(Yf)->Prop
 | [],env,σ,K,_=>K env σ
 | i::is,env,σ,K,E=>XD ops[i]? λo=>W9 nt o=true/\XD (X7 env ops o) λw=>
   WI w (run P T A nt ops is (ZE o env .Zw) σ K E) (O7 P T A env o σ (λa σ'=>run P T A nt ops is (ZE o env a) σ' K E) E)
def Gn (P:Program) (T:Z5) (A:List Nat) (nt:Nat) (ops:Array Oper) (is:List Nat) (o:Oper) (env:Ι) (K:Ι->Υ->Prop) (E:Yf) (a:I) (σ':Υ):Prop:=run P T A nt ops is (ZE o env a) σ' K E
theorem Sg {P:Program} {T:Z5} {A:List Nat} {nt:Nat} {ops:Array Oper} {env:Ι} {σ:Υ} {K:Ι->Υ->Prop} {E:Yf}:run P T A nt ops [] env σ K E=K env σ:=XU rfl rfl
theorem Μ {P:Program} {T:Z5} {A:List Nat} {nt:Nat} {ops:Array Oper} {i:Nat} {is:List Nat} {env:Ι} {σ:Υ} {K:Ι->Υ->Prop} {E:Yf} :
  run P T A nt ops (i::is) env σ K E=XD ops[i]? λo=>W9 nt o=true/\XD (X7 env ops o) λw=>
   WI w (run P T A nt ops is (ZE o env .Zw) σ K E) (O7 P T A env o σ (Gn P T A nt ops is o env K E) E):=XU rfl rfl
theorem O6 {P:Program} {T:Z5} {A:List Nat} {nt:Nat} {ops:Array Oper} {is:List Nat} {o:Oper} {env:Ι} {σ:Υ} {K:Ι->Υ->Prop} {E:Yf} {a:I}:Gn P T A nt ops is o env K E a σ=run P T A nt ops is (ZE o env a) σ K E:=XU rfl rfl
section
variable {P:Program} {T:Z5} {A:List Nat} {m nt:Nat} {k:List Item} {env:Ι} {σ:Υ} {Z:XF} {E:Yf} {K:I->Υ->Prop}
theorem W.ZM {ops:Array Oper} (h:W P m nt k env σ Z E):W P m nt (.inRegion ops []::k) env σ Z E:=λd mn x cs b S B H t a c e f g=>.ZM a c (h d mn x cs b S B H t a c e f g)
theorem IY (t:ZJ P T) {ops:Array Oper} (b:List Nat):∀(is:List Nat) (env:Ι) (σ:Υ),run P T A nt ops is env σ (λenv σ=>W P m nt (.inRegion ops b::k) env σ Z E) E->W P m nt (.inRegion ops (is++b)::k) env σ Z E:=by
 intro is
 induction is with
 | nil=>intro env σ h;exact h
 | cons i is g=>
  intro env σ h;unfold run XD at h;split at h
  .exact h.elim
  .rename_i o d;obtain⟨hd,h⟩:=h;split at h
   .exact h.elim
   rename_i w e;unfold WI at h;cases w
   .exact .unwanted d e hd (g _ _ (h.1 rfl))
   .replace h:=h.2 rfl
    unfold O7 at h;split at h
    .rename_i f args C j;exact .call d e hd j (h.mono (λa s h=>g _ _ h) (λ_ _ h=>h))
    .rename_i y j;split at h
     .rename_i D a u;exact .panic d e j u h
     .exact h.elim
    .exact h.elim
    .rename_i F H v;refine .op (A:=A) t d e hd (λc x=>v c x) ?_;generalize (Wb T A env o).or σ (WJ T A env σ o)=r at h;have B:∀r:Za,r.holds (λa σ'=>run P T A nt ops is (ZE o env a) σ' (λenv σ=>W P m nt (.inRegion ops b::k) env σ Z E) E)->r.holds λa σ'=>W P m nt (.inRegion ops (is++b)::k) (ZE o env a) σ' Z E:=by
      intro r
      induction r with
      | ok a s=>exact λh=>g _ _ h
      | Zl p r l=>exact λh=>⟨h.1,l h.2⟩
      | all n f l=>exact λh i hi=>l i (h i hi)
      | bad=>exact λh=>h
     exact B r h
theorem Za.A2 {K K':I->Υ->Prop} (c:∀a s,K a s->K' a s):∀r:Za,r.holds K->r.holds K':=by
 intro r
 induction r with
 | ok a s=>exact λh=>c _ _ h
 | Zl p r b=>exact λh=>⟨h.1,b h.2⟩
 | all n f b=>exact λh i hi=>b i (h i hi)
 | bad=>exact λh=>h
theorem A1 {env:Ι} {o:Oper} {K K':I->Υ->Prop} (c:∀a s,K a s->K' a s) (h:O7 P T A env o σ K E):O7 P T A env o σ K' E:=by
 unfold O7 at h ⊢;split
 .rename_i f args d b;rw[b] at h;exact WZ.mono h c λ_ _ h=>h
 .rename_i y b;rw[b] at h;exact h
 .rename_i b;rw[b] at h;exact h
 .rename_i e g i;split at h
  .rename_i f args d b;exact absurd b (e f args d)
  .rename_i y b;exact absurd b (g y)
  .rename_i y b;exact absurd b (i y)
  .exact Za.A2 c _ h
theorem KN {ops:Array Oper} {nt:Nat} {K K':Ι->Υ->Prop} (f:∀e s,K e s->K' e s):∀(is:List Nat) (env:Ι) (σ:Υ),run P T A nt ops is env σ K E->run P T A nt ops is env σ K' E:=by
 intro is
 induction is with
 | nil=>intro env σ h;exact f _ _ h
 | cons i is b=>
  intro env σ h;unfold run XD at h ⊢;cases c:ops[i]? with
  | none=>rw[c] at h;exact h.elim
  | some o=>
   rw[c] at h;simp only at h ⊢;refine⟨h.1,?_⟩
   replace h:=h.2
   cases d:X7 env ops o with
   | none=>rw[d] at h;exact h.elim
   | some w=>
    rw[d] at h;unfold WI at h ⊢;exact⟨λe=>b _ _ (h.1 e),λe=>A1 (λa s=>b _ _) (h.2 e)⟩
theorem A0 (a:ZJ P T) {ops:Array Oper} (is:List Nat) (env:Ι) (σ:Υ) (h:run P T A nt ops is env σ (λenv σ=>W P m nt k env σ Z E) E):W P m nt (.inRegion ops is::k) env σ Z E:=by
 have:=IY (A:=A) a [] is env σ (ops:=ops) (k:=k) (Z:=Z) (E:=E) (P:=P) (m:=m) (nt:=nt);rw[TY] at this;refine this ?_;have b:∀(is:List Nat) (env:Ι) (σ:Υ) (K K':Ι->Υ->Prop),(∀e s,K e s->K' e s)->run P T A nt ops is env σ K E->run P T A nt ops is env σ K' E:=λis env σ K K' c h=>KN c is env σ h;exact b is env σ _ _ (λe s h=>.ZM h) h
def idx:Nat->List Nat->List Nat
 | 0,l=>l
 | n+1,l=>idx n (n::l)
theorem idx_eq (n:Nat):idx n []=List.range n:=by
 have:∀(n:Nat) (l:List Nat),idx n l=List.range.loop n l:=by
  intro n
  induction n with
  | zero=>intro l;rfl
  | succ n a=>intro l;exact a _
 exact this n []
theorem YR (e:ZJ P T) {id:Nat} {ops:Array Oper} (h:∀a:Ι->Υ->Prop,(∀env σ,W P m nt k env σ Z E->a env σ)->run P T A nt ops (idx ops.size []) env σ a E):W P m nt (.code (.region id ops false)::k) env σ Z E:=
 λf mn x cs b S B H t c d g i j=>.region c d (A0 e _ _ _ (by rw[<-idx_eq];exact h _ λ_ _ h=>h) f mn x cs b S B H t c d g i j)
theorem W.forget (env':Ι) (d:∀p∈env',Z' env p.1=p.2) (h:W P m nt k env' σ Z E):W P m nt k env σ Z E:=
 λf mn x cs b S B H t g j a n o=>by
 have r:∀(l:Ι),(∀p∈l,Z' env p.1=p.2)->∀i,Z' l i=.Zw\/Z' l i=Z' env i:=by
  intro l
  induction l with
  | nil=>intro _ i;exact .inl rfl
  | cons p l s=>
   intro c i;simp only[Z'];split
   .rename_i e;subst e;exact .inr (c p J).symm
   .exact s (λq u=>c q (by simp[u])) i
 refine h f mn x cs b S B H t g j ⟨a.holds,λi=>?_,a.size,a.rows⟩ n o;rcases r env' d i with e|e
 .rw[e];exact .Zw _
 .rw[e];exact a.Zr i
theorem W.P' (a:ZJ P T) (env':Ι) {id:Nat} {ops:Array Oper} (h:W P m nt k env' σ Z E) (b:run P T A nt ops (idx ops.size []) env σ (λe s=>s=σ/\∀p∈env',Z' e p.1=p.2) E):W P m nt (.code (.region id ops false)::k) env σ Z E:=
 YR a λg c=>KN (λe s ⟨d,f⟩=>c e s (d▸W.forget env' f h)) _ _ _ b
def QN (i:WA) (l:ψ):Option I:=if i.agg then(if i.size<=l.length then some (.Z9 (l.take i.size)) else none) else l.head?
def N' (T:Z5) (a:TypeId) (σ:Υ):I->Option I
 | .Ε b=>match T a with|some i=>QN i b|none=>none
 | .Ο id n i j=>match T a,σ[id]? with
  | some c,some (.cells _ _ l)=>if l.length=n then match l[i]? with
   | some e=>QN c (e.cells.drop j)
   | none=>none else none
  | _,_=>none
 | _=>none
def QM (T:Z5) (env:Ι) (σ:Υ):ResultVar->Option I
 | .tmp t=>some (Z' env t)
 | .cell a b=>N' T b σ (Z' env a)
def KM:ψ->I
 | [a]=>a
 | l=>.ZP l
def Sf (T:Z5) (a:List ResultVar) (env:Ι) (σ:Υ):Option I:=(a.mapM (QM T env σ)).map KM
theorem Gm {i:WA} {l:ψ} {v:I} (h:QN i l=some v):RD i l=.ok v:=by
 unfold QN at h;unfold RD;cases b:i.agg with
 | true=>
  rw[b] at h;simp only[if_true] at h ⊢;split at h
  .rename_i c;cases h;rw[if_pos c]
  .cases h
 | false=>
  rw[b] at h;simp only[Xu,if_false] at h ⊢;cases l with
  | nil=>cases h
  | cons a l=>cases h;rfl
theorem AZ (p:ZJ P T) {S:Α} {B:θ} {H:Ψ} (f:Holds S B σ H) {r:TypeId} {a v:I} {w:Value} (h:N' T r σ a=some v) (s:Θ S B σ a w):Zh P (do loadVar r (<-asAddr w)) S B H σ (.ok v σ):=by
 unfold N' at h;split at h
 .rename_i D;split at h
  .rename_i i hi;cases s with
   | Ε b o w c g=>
    have:=Lt p f hi w (λj a y=>f.YX _ _ _ (c j a y)) g;rw[Gm h] at this;exact this
  .cases h
 .rename_i id n i j;split at h
  .rename_i E t k l hi m;split at h
   .rename_i F;split at h
    .rename_i e A;cases s with
     | Ο c g C=>
      rw[m] at c;cases c;obtain⟨J,w,u⟩:=GZ f m C A;have:=Lt p f hi (l:=e.cells.drop j) (b:=_) (o:=i*k+j) (λx=>w (j+x)) (λx a d=>⟨true,by
       rw[Uz] at d;rw[SZ];exact(u _ a d).1⟩) (λx a d=>by
       rw[Uz] at d;exact(u _ a d).2.1)
      rw[Gm h] at this;exact this
     | VQ v c g=>rw[m] at c;cases c;simp only[Row.W0] at g;omega
    .cases h
   .cases h
  .cases h
 .cases h
theorem KL (K:ZJ P T) {fn:Func} {a:I} (h:Sf T fn.results.toList env σ=some a) {S:Α} {B:θ} {H:Ψ} {t:Array Value} (d:Holds S B σ H) (g:YS S B σ env t) :
  Ω P (results fn t) H (λv H'=>∃c B',Ext S B H c B' H'/\ZC S c B B' σ σ/\Holds c B' σ H'/\Θ c B' σ a v) (λ_ _=>False):=by
 let f:ResultVar->Sem Value:=λr=>match r with
  | .tmp x=>pure (t.getD x undef)
  | .cell a E=>do loadVar E (<-asAddr (t.getD a undef))
 have L:∀(e:List ResultVar) (as9:ψ) (S:Α) (B:θ) (H:Ψ),e.mapM (QM T env σ)=some as9->Holds S B σ H->YS S B σ env t->
   Ω P (e.mapM f) H (λvs H'=>∃c B',Ext S B H c B' H'/\ZC S c B B' σ σ/\Holds c B' σ H'/\as9.length=vs.length/\∀(i:Nat) (a:I) (v:Value),as9[i]?=some a->vs[i]?=some v->Θ c B' σ a v) (λ_ _=>False):=by
  intro e
  induction e with
  | nil=>intro as9 S B H h d _;simp at h;subst h;exact Ω.pure' ⟨S,B,.refl _ _ _,.refl _ _ _,d,rfl,λi a v hi=>by simp at hi⟩
  | cons r e M=>
   intro as9 S B H h d g;rw[List.mapM_cons] at h ⊢;cases j:QM T env σ r with
   | none=>rw[j] at h;cases h
   | some a=>
    rw[j] at h;simp only[Option.bind_eq_bind,Option.bind_some] at h;cases s:e.mapM (QM T env σ) with
    | none=>rw[s] at h;cases h
    | some l2=>
     rw[s] at h;cases h;have step:Ω P (f r) H (λv H'=>∃c B',Ext S B H c B' H'/\ZC S c B B' σ σ/\Holds c B' σ H'/\Θ c B' σ a v) (λ_ _=>False):=by
      cases r with
      | tmp x=>simp only[QM,Q8] at j;subst j;exact Ω.pure' ⟨S,B,.refl _ _ _,.refl _ _ _,d,g x⟩
      | cell x E=>
       refine Ω.mono (λv H' ⟨c,B',σ',m,⟨k,u⟩,N,O,Q,R⟩=>?_) (λ_ _ h=>h) _ (AZ K d j (g x) (λm U=>m=a/\U=σ) ⟨rfl,rfl⟩);subst k;subst u;exact⟨c,B',N,Q,O,R⟩
     refine Ω.bind' (Ω.mono (λv F ⟨w,y,A,l1,k,n⟩=>?_) (λ_ _ h=>h) _ step);refine Ω.bind' (Ω.mono (λvs ab ⟨V,W,Χ,J,u,X,Y⟩=>?_) (λ_ _ h=>h) _ (M l2 w y F s k (g.later l1)));refine Ω.pure' ⟨V,W,A.trans Χ,l1.trans J,u,by simp[X],λi m Z hi hv=>?_⟩
     match i with
     | 0=>simp at hi hv;subst hi;subst hv;exact n.later J
     | i+1=>simp at hi hv;exact Y i m Z hi hv
 unfold Sf at h;cases C:fn.results.toList.mapM (QM T env σ) with
 | none=>rw[C] at h;cases h
 | some as9=>
  rw[C] at h;cases h;have aa:=L fn.results.toList as9 S B H C d g;unfold results;rw[Array.mapM_eq_mapM_toList];refine Ω.bind' ?_;refine Ω.bind (fn.results.toList.mapM f) (Ω.mono (λvs F ⟨w,y,A,l1,k,D,n⟩=>?_) (λ_ _ h=>h) _ aa);refine Ω.pure' ?_;refine Ω.pure' ⟨w,y,A,l1,k,?_⟩;by_cases o:vs.toArray.size=1
  .rw[dif_pos o];have p:vs.length=1:=by simpa using o
   obtain⟨v,rfl⟩:=List.length_eq_one_iff.1 p;obtain⟨a,rfl⟩:=List.length_eq_one_iff.1 (D.trans p);exact n 0 a v rfl rfl
  .rw[dif_neg o];have p:as9.length≠1:=by rw[D];simpa using o
   have:KM as9=.ZP as9:=by
    match as9 with
    | []=>rfl
    | [a]=>simp at p
    | a::b::l=>rfl
   rw[this];exact .ZP _ (by simpa using D) λi a v hi hv=>n i a v hi (by simpa using hv)
def entry:Nat->ψ->Ι
 | _,[]=>[]
 | i,a::as9=>(i,a)::entry (i+1) as9
theorem Gl {S:Α} {B:θ} {as9:ψ} {vs:Array Value} (h:X1 S B σ as9 vs) (n:Nat):YS S B σ (entry 0 as9) (vs++Array.replicate n undef):=by
 have f:∀(l:ψ) (j i:Nat),Z' (entry j l) i=if j<=i then(l[i-j]?).getD .Zw else .Zw:=by
  intro l
  induction l with
  | nil=>intro j i;simp[entry,Z']
  | cons a l g=>
   intro j i;simp only[entry,Z'];by_cases e:j=i
   .subst e;simp
   .rw[if_neg e,g];by_cases b:j<=i
    .rw[if_pos U,if_pos b];have:i-j=(i-(j+1))+1:=U;rw[this,List.getElem?_cons_succ]
    .rw[if_neg U,if_neg b]
 intro i;rw[f,if_pos (ω _),Nat.sub_zero];by_cases c:i<as9.length
 .have d:=ε c;rw[d];have hv:i<vs.size:=by rw[<-h.1];exact c
  rw[W3,OJ hv];exact h.2 i _ _ d (by rw[X4 hv];rfl)
 .rw[TB U];exact .Zw _
def Ends (T:Z5) (b:List ResultVar) (K:I->Υ->Prop) (j:List Item) (env:Ι) (σ:Υ):Prop:=match j with
 | []=>∃a,Sf T b env σ=some a/\K a σ
 | .code .ret::_=>∃a,Sf T b env σ=some a/\K a σ
 | _=>False
theorem Δ.AY {F:I->Υ->Prop} (A:ZJ P T) {g:FuncId} {fn:Func} {body:Code} (f:P.funcs[g]?=some fn) (p:fn.body=some body) (C:(fn.name == "runtime.NumGoroutine")=false) {args:ψ} (aa:args.length<=fn.ntmps)
  (h:W P σ.length fn.ntmps [.code body] (entry 0 args) σ (Ends T fn.results.toList K) (λa _ s=>F a s)):Δ P g args σ K F:=by
 refine⟨⟨fn,f,C,by rw[p];rfl⟩,λr mn x c rest S B H vs b m hv t=>?_⟩;have i:∀{D:Type} (l:List D),l.length=σ.length->l.take σ.length=l:=λl u=>TC U;have E:Frame.enter P g vs .normal=Η (Frame.enter P g vs .normal) (vs++Array.replicate (fn.ntmps-vs.size) undef) [.code body]:=by
  simp[Frame.enter,Η,f,p]
 rw[E];have J:(vs++Array.replicate (fn.ntmps-vs.size) undef).size=fn.ntmps:=by
  have:=hv.1;simp;omega
 refine h r mn x (c::rest) _ S B H _ b rfl ⟨m,Gl hv _,J,ZO _⟩ (λj env' σ' k B' H' t' n d e w u=>?_) (λa env' σ' k B' H' t' n v L e M _ N=>?_)
 .have o:ZC S k B B' σ σ':=by
   have:=e.later
   rwa [i B m.len,i σ rfl] at this
  have y:(∃a,Sf T fn.results.toList env' σ'=some a/\K a σ')->ξ P r mn x {Η (Frame.enter P g vs .normal) t' n with mode:=.returning} (c::rest) H':=λ⟨a,O,Q⟩=>by
   refine .back b rfl rfl (.inl rfl) f ?_;refine Ω.mono (λv R ⟨V,X,Χ,l2,Y,Z⟩=>?_) (λ_ _ h=>h) _ (KL A O w.holds w.Zr);exact t.ret a σ' V X R v Q (e.ext.trans Χ) (o.trans l2) Y Z
  have:n=j:=u;subst this;unfold Ends at d;split at d
  .exact .QX b rfl rfl (y d)
  .exact .ret b rfl rfl (y d)
  .exact d.elim
 .have o:ZC S k B B' σ σ':=by
   have:=e.later
   rwa [i B m.len,i σ rfl] at this
  refine .raised b rfl rfl ?_ (t.Oa a σ' k B' H' v L e.ext o M N);simp[Frame.catches,Η,Frame.enter,f]
end
section
variable {P:Program} {S YI:Α} {B:θ} {H H':Ψ} {σ:Υ}
theorem Θ.take {h:Nat} {a:I} {v:Value} (s:Θ S B σ a v) (d:Γ h a):Θ S (B.take h) (σ.take h) a v:=by
 have k:∀{t:Type} (l:List t) (i:Nat),i<h->(l.take h)[i]?=l[i]?:=λl i hi=>T2 hi
 induction s with
 | z v=>exact .z v
 | Ε b o w f _ m=>
  cases d with
  | Ε d=>exact .Ε b o w f λj a n=>m j a n (d a (Zk n))
 | WB base cap h=>exact .WB base cap h
 | sl b o cap w f g p r _ m=>
  cases d with
  | sl d=>exact .sl b o cap w f g p r λi e hi j c n=>m i e hi j c n (d e (Zk hi) c (Zk n))
 | Z9 vs f _ m=>
  cases d with
  | Z9 d=>exact .Z9 vs f λi a v hi hv=>m i a v hi hv (d a (Zk hi))
 | ZP vs f _ m=>
  cases d with
  | ZP d=>exact .ZP vs f λi a v hi hv=>m i a v hi hv (d a (Zk hi))
 | Ο f g p=>
  cases d with
  | Ο d=>exact .Ο (by rw[k _ _ d];exact f) g (by rw[k _ _ d];exact p)
 | VQ v f g=>
  cases d with
  | Ο d=>exact .VQ v (by rw[k _ _ d];exact f) g
 | ms cap f g p r u x=>
  cases d with
  | ms d=>exact .ms cap (by rw[k _ _ d];exact f) g (by rw[k _ _ d];exact p) r u x
 | V3 v f g=>
  cases d with
  | ms d=>exact .V3 v (by rw[k _ _ d];exact f) g
 | fn vs y f g _ _ A C=>
  cases d with
  | fn D E=>exact .fn vs y f g (λi a v hi hv=>A i a v hi hv (D a (Zk hi))) λi a v hi hv=>C i a v hi hv (E a (Zk hi))
 | XG v _ m=>
  cases d with
  | XG d=>exact .XG v (m d)
 | mp f g=>
  cases d with
  | mp d=>exact .mp (by rw[k _ _ d];exact f) (by rw[k _ _ d];exact g)
 | UO v f=>
  cases d with
  | mp d=>exact .UO v (by rw[k _ _ d];exact f)
 | it f g=>
  cases d with
  | it d=>exact .it (by rw[k _ _ d];exact f) (by rw[k _ _ d];exact g)
 | TO v f=>
  cases d with
  | it d=>exact .TO v (by rw[k _ _ d];exact f)
 | Zw v=>exact .Zw v
theorem Θ.any {a:I} {v:Value} (b:Θ S B σ a v) (c:Γ 0 a) (d:θ) (e:Υ):Θ S d e a v:=by
 have f:Θ S [] [] a v:=by simpa using b.take c
 exact f.later ⟨λ_ _ _ h=>h,λid r h=>by simp at h⟩
theorem Holds.bare (a:Holds S B σ H):Holds S [] [] H:=
 ⟨a.YX,rfl,λid r bo h=>by simp at h,λi j c d b e f g h=>by simp at h,λid r b N h=>by simp at h⟩
theorem Holds.back (a:Holds S B σ H) (c:Ext S [] H YI [] H') (t:Holds YI [] [] H'):Holds YI B σ H'/\Ext S B H YI B H'/\ZC S YI B B σ σ:=by
 have n:ZC S YI B B σ σ:=⟨c.YX,λid r h=>⟨r,h,r.QW _⟩⟩
 have i:∀b,¬θ.has ([]:θ) b:=λb ⟨N,h⟩=>by simp at h
 have p:∀(id:Nat) (r:Row) (b N:Nat),σ[id]?=some r->r.live->B[id]?=some (some (b,N))->Vj H H' b:=λid r b N k j s=>(c.XH b (i b) (a.Tt k j s)).QU λo=>a.sep id r b N k j s o;refine⟨⟨t.YX,a.len,λid r bo d f=>?_,a.inj,λid r b N d g f o=>?_⟩,⟨c.YX,λb _ u=>c.XH b (i b) u,λb l=>.inl l,λb o v hv=>?_,c.grow⟩,n⟩
 .by_cases g:r.live
  .refine(a.row id r bo d f).later n (λb N e=>p id r b N d g (by rw[f,e])) λm left w e=>?_;subst e;obtain⟨_,_,x,y,xs,A,seen,_,k,⟨es,j⟩,_⟩:=a.row id _ bo d f;exact⟨rfl,rfl,λb N l=>p m _ b N j trivial l⟩
  .cases r<;>first|exact absurd trivial g|trivial
 .cases hv:YI b o with
  | none=>rfl
  | some v=>
   rcases c.RF b o v hv with h|h|h
   .rw[a.sep id r b N d g f o] at h;cases h
   .exact absurd h (i b)
   .exact absurd h (a.Tt d g f)
 .rcases c.RF b o v hv with h|h|h
  .exact .inl h
  .exact absurd h (i b)
  .exact .inr (.inr h)
theorem Δ.frame {g:FuncId} {args:ψ} {K:I->Prop} {E:I->Prop} (h:Δ P g args [] (λa s=>K a/\Γ 0 a/\s=[]) (λa s=>E a/\Γ 0 a/\s=[])) (t:∀a∈args,Γ 0 a):Δ P g args σ (λa s=>K a/\s=σ) (λa s=>E a/\s=σ):=by
 refine⟨h.1,λu mn x c rest S B H vs w j hv k=>?_⟩;refine h.2 u mn x c rest S [] H vs w j.bare ⟨hv.1,λi a v l y=>(hv.2 i a v l y).any (t a (Zk l)) _ _⟩ ⟨λa σ' YI B' H' v ⟨b,d,m⟩ n A e f=>?_,λa σ' YI B' H' v ⟨b,d,m⟩ n A e f=>?_⟩
 all_goals
  subst m;have C:B'=[]:=YV.1 (by rw[e.len];rfl);subst C;obtain⟨o,p,r⟩:=j.back n e
 .exact k.ret a σ YI B H' v ⟨b,rfl⟩ p r o (f.any d _ _)
 .exact k.Oa a σ YI B H' v ⟨b,rfl⟩ p r o (f.any d _ _)
def MO (P:Program) (g:FuncId) (args:ψ) (r:I):Prop:=Δ P g args [] (λa s=>a=r/\s=[]) (λ_ _=>False)
theorem MO.call {g:FuncId} {first args captured:ψ} {r:I} {K:I->Υ->Prop} {E:I->Υ->Prop} (h:MO P g (first++args++captured) r) (c:∀a∈first++args++captured,Γ 0 a) (d:Γ 0 r) (e:K r σ) :
  WZ P (.fn (.func g) first captured) args σ K E:=by
 have f:Δ P g (first++args++captured) [] (λa s=>a=r/\Γ 0 a/\s=[]) (λa s=>False/\Γ 0 a/\s=[]):=h.mono (λa s ⟨b,Χ⟩=>⟨b,b▸d,Χ⟩) (λ_ _ h=>h.elim);exact Δ.call ((f.frame (σ:=σ) c).mono (λa s ⟨b,Χ⟩=>by subst b;subst Χ;exact e) (λ_ _ h=>h.1.elim))
end
theorem AX {h:Nat} {v:Value}:Γ h (.z v)↔True:=⟨λ_=>trivial,λ_=>.z v⟩
theorem AW {h:Nat}:Γ h .Zw↔True:=⟨λ_=>trivial,λ_=>.Zw⟩
theorem KJ {h:Nat} {l:ψ}:Γ h (.Ε l)↔∀a∈l,Γ h a:=⟨λx=>by cases x;assumption,.Ε⟩
theorem AV {h:Nat} {l:ψ}:Γ h (.Z9 l)↔∀a∈l,Γ h a:=⟨λx=>by cases x;assumption,.Z9⟩
theorem AU {h:Nat} {l:ψ}:Γ h (.ZP l)↔∀a∈l,Γ h a:=⟨λx=>by cases x;assumption,.ZP⟩
theorem Yx {h:Nat} {ex:Bool} {k:Nat} {l:ψ}:Γ h (.sl ex k l)↔∀e∈l,∀a∈e.cells,Γ h a:=⟨λx=>by cases x;assumption,.sl⟩
theorem AT {h:Nat} {t:TypeId} {a:I}:Γ h (.XG t a)↔Γ h a:=⟨λx=>by cases x;assumption,.XG⟩
theorem WH {h id n i j:Nat}:Γ h (.Ο id n i j)↔id<h:=⟨λx=>by cases x;assumption,.Ο⟩
theorem TK {h id n i j:Nat}:Γ h (.ms id n i j)↔id<h:=⟨λx=>by cases x;assumption,.ms⟩
theorem QL {h id:Nat}:Γ h (.mp id)↔id<h:=⟨λx=>by cases x;assumption,.mp⟩
theorem AS {h id:Nat}:Γ h (.it id)↔id<h:=⟨λx=>by cases x;assumption,.it⟩
theorem VN {h:Nat} {f:Fn} {b cs:ψ}:Γ h (.fn f b cs)↔(∀a∈b,Γ h a)/\∀a∈cs,Γ h a:=⟨λx=>by cases x;exact⟨by assumption,by assumption⟩,λx=>.fn x.1 x.2⟩
end Go.TL
