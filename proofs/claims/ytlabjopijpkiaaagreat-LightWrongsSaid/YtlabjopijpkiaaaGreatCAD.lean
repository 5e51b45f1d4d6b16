import Derived.Test.YtlabjopijpkiaaaGreatCAC
set_option maxHeartbeats 16000000
set_option maxRecDepth 20000
set_option linter.unusedSectionVars false
set_option linter.unusedSimpArgs false
set_option linter.unusedVariables false
namespace Go.TL
open Go.Conc
def Wu (T:ZR) (kt:TypeId) (k:I):List (I×I)->Nat->Option (Option (Nat×I))
 | [],_=>some none
 | e::r,i=>match aeqv T kt k e.1 with
  | some b=>bif b then some (some (i,e.2)) else Wu T kt k r (i+1)
  | none=>none
def SM (T:ZR) (kt:TypeId) (k:I):Bool:=match T kt with
 | some i=>match k with
  | .z _=>VP i.ZD
  | .Z' xs=>match i.ZD,i.eqs with
   | .array _ _,some a=>xs.length==a.length&&(Vg a xs xs).isSome
   | _,_=>false
  | _=>false
 | none=>false
section
variable {P:Program} {T:ZR} {S:ο} {B:Z8} {H:Ψ} {σ:Ρ}
theorem EZ {a:TypeId} {d:TypeDesc} (hd:P.underlying a=some d) (b:VP d=true) {v:Value} {em:Bool} {n:Nat} {G:Ψ} {K:Unit->Ψ->Prop} {E:Value->Ψ->Prop} (c:K () G):Ω P (Instr.checkKey em (n+1) a v) G K E:=by
 unfold Instr.checkKey;refine Ω.bind' (Ω.underlying hd ?_);cases d<;>first|(cases b;done)|(cases v<;>exact Ω.pure' c)
theorem HO (t:Zz P T) {kt:TypeId} {k:I} {v:Value} (u:ς S B σ k v) (h:SM T kt k=true) {em:Bool} {G:Ψ} {K:Unit->Ψ->Prop} {E:Value->Ψ->Prop} (o:K () G):Ω P (Instr.checkKey em 10000 kt v) G K E:=by
 unfold SM at h;split at h
 .rename_i i hi;obtain⟨⟨p,g⟩,_⟩:=t kt i hi;split at h
  .exact EZ (n:=9999) p h o
  .rename_i xs;split at h
   .rename_i n e U w A;rw[A] at g;simp only[VT,beq_iff_eq] at h;obtain⟨_,_,g⟩:=g;rcases g with⟨V,j,_⟩|⟨m,Φ,d,f,j,r,s,C,D,F⟩
    .rw[p,w] at j;cases j
    .cases u with
     | Z' vs H J=>
      have L:=L6 (.Z' vs H J)
      show Ω P (Instr.checkKey em (9999+1) kt _) G K E;unfold Instr.checkKey;refine Ω.bind' (Ω.underlying j ?_);simp only;rw[forIn_range];refine Ω.bind' ?_;have c:∃b,Vg ((List.range m).map λi=>(d,i)) xs xs=some b:=by
       rw[<-F];exact Option.isSome_iff_exists.1 h.2
      have M:∀(l:List Nat) (b:Bool),Vg (l.map λi=>(d,i)) xs xs=some b->Ω P (forIn l PUnit.unit λ(i:Nat) (_:PUnit)=>do
        let a <-sizeOf Φ
        let b <-part Φ vs (i*a)
        Instr.checkKey em 9999 Φ b
        pure (ForInStep.yield PUnit.unit)) G (λ_ G'=>K () G') E:=by
       intro l
       induction l with
       | nil=>intro b _;exact .forIn_nil o
       | cons i l N=>
        intro b c;simp only[XC,Vg] at c;split at c<;>try cases c
        rename_i x y O W;split at c<;>try cases c
        rename_i X Q Y R;refine .forIn_cons ?_;refine Ω.bind' (Ω.sizeOf C ?_);rw[D];refine Ω.bind' (L5 r s (by rw[Qt];exact L _ _ O) ?_);refine Ω.bind' (EZ (n:=9998) r s ?_);exact Ω.pure' (N Q R)
      obtain⟨b,c⟩:=c;exact Ω.mono (λ_ G' h=>Ω.pure' h) (λ_ _ h=>h) _ (M (List.range m) b c)
   .cases h
  .cases h
 .cases h
def Ot (S:ο) (B:Z8) (σ:Ρ) (es:List (I×I)) (a:List MapEntry):Prop:=es.length=a.length/\∀(i:Nat) (e:I×I) (y:MapEntry),es[i]?=some e->a[i]?=some y->ς S B σ e.1 y.key/\ς S B σ e.2 y.val
theorem Ot.tail {e:I×I} {es:List (I×I)} {y:MapEntry} {a:List MapEntry} (h:Ot S B σ (e::es) (y::a)):(ς S B σ e.1 y.key/\ς S B σ e.2 y.val)/\Ot S B σ es a:=
 ⟨h.2 0 e y rfl rfl,⟨by simpa using h.1,λi b c d f=>h.2 (i+1) b c d f⟩⟩
theorem J2 {kt:TypeId} {k:I}:∀(es:List (I×I)) (n i:Nat) (a:I),Wu T kt k es n=some (some (i,a))->n<=i/\∃c,es[i-n]?=some (c,a)/\aeqv T kt k c=some true:=by
 intro es
 induction es with
 | nil=>intro n i a h;cases h
 | cons e es d=>
  intro n i a h;unfold Wu at h;split at h
  .rename_i b f;cases b with
   | true=>cases h;exact⟨Z1 _,e.1,J,f⟩
   | false=>
    obtain⟨l,c,g,j⟩:=d (n+1) i a h;refine⟨U,c,?_,j⟩;have:i-n=(i-(n+1))+1:=U;rw[this,List.getElem?_cons_succ];exact g
  .cases h
def Um (a:List MapEntry) (b:Nat) (r:Option (Nat×I)):Option (Nat×Value):=r.map λx=>(x.1,((a[x.1-b]?).map (·.val)).getD undef)
theorem zM {d:TypeDesc} {x y:Value} {b:Bool} (h:TY d x y=some b):Instr.sameNow d x y=some b:=by
 unfold TY at h;split at h
 .split at h
  .rename_i e;subst e;cases h;simp[Instr.sameNow]
  .cases h
 .cases h;rfl
 .cases h;rfl
 .cases h
theorem zL (p:Zz P T) {kt:TypeId} {i:Wi} (hi:T kt=some i) {k:I} {v:Value} (j:ς S B σ k v) (l:∃u,k=.z u):∀(es:List (I×I)) (a:List MapEntry) (n:Nat) (r:Option (Nat×I)),Ot S B σ es a->Wu T kt k es n=some r->
  Instr.findNow i.ZD v a n=some (Um a n r):=by
 obtain⟨u,rfl⟩:=l;cases j;intro es
 induction es with
 | nil=>
  intro a n r d h;have:a=[]:=by have:=d.1;simpa using this.symm
  subst this;cases h;rfl
 | cons e es m=>
  intro a n r d h;cases a with
  | nil=>have:=d.1;simp at this
  | cons y a=>
   obtain⟨⟨g,s⟩,o⟩:=d.tail;unfold Wu at h;split at h
   .rename_i b c;have hv:TY i.ZD v y.key=some b:=by
     unfold aeqv at c;rw[hi] at c;simp only at c;split at c
     .rename_i x t f Φ;rw[Φ] at g;cases g;cases f;split at c
      .exact c
      .cases c
     .rename_i f _;cases f
     .cases c
    unfold Instr.findNow;rw[zM hv];cases b with
    | true=>cases h;simp[Um]
    | false=>
     have:=m a (n+1) r o h;simp only[this];congr 1;unfold Um;cases r with
     | none=>rfl
     | some x=>
      simp only[Option.map_some];have w:n+1<=x.1:=(J2 es (n+1) x.1 x.2 h).1;have:x.1-n=(x.1-(n+1))+1:=U;rw[this,List.getElem?_cons_succ]
   .cases h
theorem zK (f:Zz P T) {kt:TypeId} {k:I} {v:Value} (g:ς S B σ k v) {E:Value->Ψ->Prop}:∀(es:List (I×I)) (a:List MapEntry) (n:Nat) (r:Option (Nat×I)) (K:Option (Nat×Value)->Ψ->Prop),Ot S B σ es a->Wu T kt k es n=some r->
  K (Um a n r) H->Ω P (Instr.findAsking kt v a n) H K E:=by
 intro es
 induction es with
 | nil=>
  intro a n r K c h d;have:a=[]:=by have:=c.1;simpa using this.symm
  subst this;cases h;exact Ω.pure' d
 | cons e es i=>
  intro a n r K c h d;cases a with
  | nil=>have:=c.1;simp at this
  | cons y a=>
   obtain⟨⟨j,o⟩,l⟩:=c.tail;unfold Wu at h;split at h
   .rename_i b m;unfold Instr.findAsking;refine Ω.bind' (HP f g j m ?_);cases b with
    | true=>cases h;simp only[if_true];exact Ω.pure' (by simpa[Um] using d)
    | false=>
     simp only[Xf,if_false];refine i a (n+1) r K l h ?_;have:Um (y::a) n r=Um a (n+1) r:=by
      unfold Um;cases r with
      | none=>rfl
      | some x=>
       simp only[Option.map_some];have p:n+1<=x.1:=(J2 es (n+1) x.1 x.2 h).1;have:x.1-n=(x.1-(n+1))+1:=U;rw[this,List.getElem?_cons_succ]
     rw[<-this];exact d
   .cases h
theorem HN (c:Zz P T) {kt:TypeId} {k:I} {v:Value} (f:ς S B σ k v) (b:SM T kt k=true) {es:List (I×I)} {a:List MapEntry} {r:Option (Nat×I)} (d:Ot S B σ es a) (h:Wu T kt k es 0=some r) {K:Option (Nat×Value)->Ψ->Prop} {E:Value->Ψ->Prop} (e:K (Um a 0 r) H) :
  Ω P (Instr.findKey kt v a) H K E:=by
 unfold Instr.findKey;unfold SM at b;split at b
 .rename_i i hi;refine Ω.bind' (c.ZD hi ?_);split at b
  .rw[zL c hi f ⟨_,rfl⟩ es a 0 r d h];exact Ω.pure' e
  .rename_i xs;cases f with
   | Z' vs g j=>
    cases a with
    | nil=>
     have:es=[]:=by have:=d.1;simpa using this
     subst this;cases h;exact Ω.pure' e
    | cons y a=>
     have l:Instr.findNow i.ZD (.agg vs) (y::a) 0=none:=by
      unfold Instr.findNow;have:Instr.sameNow i.ZD (.agg vs) y.key=none:=by unfold Instr.sameNow;cases i.ZD<;>rfl
      rw[this]
     rw[l];exact zK c (.Z' vs g j) es (y::a) 0 r K d h e
  .cases b
 .cases b
def SL (σ:Ρ) (id:Nat):Bool:=σ.all λr=>match r with|.iter m _ _=>m != id|_=>true
theorem zJ {id:Nat} (h:SL σ id=true):∀(j:Nat) left a,σ[j]?≠some (Row.iter id left a):=λj left a b=>by
 have:=Wv.1 h _ (Zf b);simp at this
def Oq (T:ZR) (a:TypeId):Option (TypeId×TypeId):=match T a with
 | some i=>match i.ZD with|.map k v=>some (k,v)|_=>none
 | none=>none
theorem J1 {a kt vt:TypeId} (h:Oq T a=some (kt,vt)):∃i,T a=some i/\i.ZD=.map kt vt:=by
 unfold Oq at h;split at h
 .rename_i i hi;split at h
  .rename_i k v b;cases h;exact⟨i,hi,b⟩
  .cases h
 .cases h
def HM (σ:Ρ):YX:=.ok (.mp σ.length) (σ++[.map []])
theorem zI (c:Holds S B σ H) (d:TypeId):Y4 P (Instr.makeMap d none) S B H σ (HM σ):=by
 intro K f;unfold Instr.makeMap;refine Ω.bind' ?_;refine λr g=>?_;have h:∀b,(∀N,some (r,0)≠some (b,N))->UP H (H.ZX r (.map #[] 0)) b:=λb k=>by
  have l:b≠r:=λe=>by subst e;exact k _ rfl
  exact⟨λo=>rfl,rfl,by simp[Ψ.ZX,l]⟩
 have m:Zw S S B (B++[some (r,0)]) σ (σ++[.map []])->Vh S (B++[some (r,0)]) (σ++[.map []]) (H.ZX r (.map #[] 0)) (.map []) (some (r,0)):=λ_=>
  ⟨r,0,#[],0,rfl,by simp[Ψ.ZX],rfl,λi e y a=>by simp at a,λi j y z a=>by simp at a⟩
 obtain⟨a,n,p⟩:=c.push (λb N e=>by cases e;exact g) h m;exact Ω.pure' ⟨_,_,_,_,f,n,a,p,.mp (es:=[]) (N:=0) (Ka σ _) (J' c.len _)⟩
def J0 (T:ZR) (d:TypeId) (b:Bool) (σ:Ρ) (e k:I):YX:=match Oq T d,e with
 | some (kt,vt),.mp id=>match σ[id]?,T vt with
  | some (.map es),some c=>if SM T kt k=true then match Wu T kt k es 0 with
   | some (some (_,a))=>.ok (if b then .ZV [a,.z (.bool true)] else a) σ
   | some none=>.ok (if b then .ZV [WG c.zero,.z (.bool false)] else WG c.zero) σ
   | none=>.bad else .bad
  | _,_=>.bad
 | _,_=>.bad
theorem L4 (c:Holds S B σ H) {id b N:Nat} {es:List (I×I)} (d:σ[id]?=some (.map es)) (f:B[id]?=some (some (b,N))):∃xs a,H.obj b=some (.map xs a)/\Qk S B σ es xs a:=by
 obtain⟨i,j,xs,a,e,g,h⟩:=c.row id _ _ d f;cases e;exact⟨xs,a,g,h⟩
theorem Qk.Nr {es:List (I×I)} {xs:Array MapEntry} {d:Nat} (h:Qk S B σ es xs d):Ot S B σ es xs.toList:=
 ⟨by simpa using h.1,λi e y f c=>by rw[Wl] at c;obtain⟨a,b,_⟩:=h.2.1 i e y f c;exact⟨a,b⟩⟩
theorem zH (l:Zz P T) (g:Holds S B σ H) {n:TypeId} {e:Bool} {mp k:I} {u v:Value} (J:ς S B σ mp u) (w:ς S B σ k v):Y4 P (Instr.lookup n u v e) S B H σ (J0 T n e σ mp k):=by
 unfold J0;split
 .rename_i kt vt id L;obtain⟨i,hi,M⟩:=J1 L;split
  .rename_i es X o O;split
   .rename_i A;cases J with
    | mp j Q=>
     rename_i b N;rw[o] at j;cases j;obtain⟨xs,Y,R,s⟩:=L4 g o Q;have C:∀(r:Option (Nat×I)) (t:YX),Wu T kt k es 0=some r->(∀(K:I->Ρ->Prop),t.holds K->∃(x:I) (y:Value),True/\Ω P (do
       let (v,U) <-match Um xs.toList 0 r with
        | some (_,v)=>pure (v,true)
        | none=>do pure (<-zeroValue vt,false)
       pure (if e then .tuple #[v,.bool U] else v)) H (VO S B H σ K) (λ_ _=>False))->Y4 P (Instr.lookup n (.map (some b)) v e) S B H σ t:=λr t f V K d=>by
      unfold Instr.lookup;refine Ω.bind' (l.ZD hi ?_);rw[M];refine Ω.bind' ?_;refine⟨_,R,rfl,?_⟩;refine Ω.bind' (Ω.pure' ?_);refine Ω.bind' (HO l w A ?_);refine Ω.bind' (HN l w A s.Nr f ?_);obtain⟨_,_,_,h⟩:=V K d;cases m:Um xs.toList 0 r with
      | none=>rw[m] at h;exact h
      | some p=>rw[m] at h;exact h
     split
     .rename_i c a f;refine C _ _ f λK d=>⟨a,undef,trivial,?_⟩;obtain⟨_,Z,D,_⟩:=J2 es 0 c a f;have E:c<xs.size:=by have:=(Zu.1 D).1;rw[<-s.1];simpa using this
      have W:xs[c]?=some xs[c]:=XI E;obtain⟨_,F,_⟩:=s.2.1 c _ _ (by simpa using D) W;have m:Um xs.toList 0 (some (c,a))=some (c,xs[c].val):=by simp[Um,E]
      rw[m];refine Ω.bind' (Ω.pure' (Ω.pure' ?_));cases e with
      | true=>exact .same g d (Nz F (.z _))
      | false=>exact .same g d F
     .rename_i f;refine C _ _ f λK d=>⟨.Zk,undef,trivial,?_⟩;refine Ω.bind' (l.zero O ?_);refine Ω.bind' (Ω.pure' (Ω.pure' ?_));cases e with
      | true=>exact .same g d (Nz (RF _) (.z _))
      | false=>exact .same g d (RF _)
     .exact .bad
    | Uo v j=>rw[o] at j;cases j
   .exact .bad
  .exact .bad
 .exact .bad
def L3 (T:ZR) (a:TypeId) (σ:Ρ) (b k x:I):YX:=match Oq T a,b with
 | some (kt,_),.mp id=>match σ[id]? with
  | some (.map es)=>if SM T kt k=true/\SL σ id=true then match Wu T kt k es 0 with
   | some (some (i,_))=>.ok .Zk (σ.set id (.map (es.set i (k,x))))
   | some none=>.ok .Zk (σ.set id (.map (es++[(k,x)])))
   | none=>.bad else .bad
  | _=>.bad
 | _,_=>.bad
theorem HL (c:Holds S B σ H) {id b N:Nat} {es es':List (I×I)} {xs':Array MapEntry} {clock':Nat} (d:σ[id]?=some (.map es)) (f:B[id]?=some (some (b,N))) (g:SL σ id=true) (h:∀{B':Z8} {σ':Ρ},Zw S S B B' σ σ'->Qk S B' σ' es' xs' clock') :
  Holds S (B.set id (some (b,N))) (σ.set id (.map es')) (H.ZX b (.map xs' clock'))/\Ext S B H S (B.set id (some (b,N))) (H.ZX b (.map xs' clock'))/\Zw S S B (B.set id (some (b,N))) σ (σ.set id (.map es')):=
 c.NB d trivial f (.inl ⟨es',rfl,rfl⟩) (λa i e=>.inl ⟨i,e⟩) (λa j _=>by
  have k:a≠b:=λe=>by subst e;exact j N rfl
  exact⟨λo=>rfl,rfl,by simp[Ψ.ZX,k]⟩) Ψ.H5 (zJ g) λl=>⟨b,N,xs',clock',rfl,by simp[Ψ.ZX],h l⟩
theorem EY (m:Zz P T) (O:Holds S B σ H) {ab:TypeId} {mp k x:I} {u v w:Value} (aj:ς S B σ mp u) (n:ς S B σ k v) (ad:ς S B σ x w):Ny P (Instr.mapUpdate ab u v w) S B H σ (L3 T ab σ mp k x):=by
 unfold L3;split
 .rename_i kt vt id ak;obtain⟨i,hi,ae⟩:=J1 ak;split
  .rename_i es r;split
   .rename_i al;obtain⟨D,af⟩:=al;cases aj with
    | mp s Q=>
     rename_i b N;rw[r] at s;cases s;obtain⟨xs,R,E,f⟩:=L4 O r Q;split
     .rename_i h a F;obtain⟨_,aw,o,am⟩:=J2 es 0 h a F;simp only[Nat.sub_zero] at o;have ag:h<es.length:=(Zu.1 o).1;have ah:h<xs.size:=by rw[<-f.1];exact ag
      have t:xs[h]?=some xs[h]:=XI ah;obtain⟨an,ax,ao⟩:=f.2.1 h _ _ o t;obtain⟨ai,Φ,ap⟩:=zN m n an am;intro K V;unfold Instr.mapUpdate;refine Ω.bind' (m.ZD hi ?_);rw[ae];refine Ω.bind' ⟨_,E,rfl,Ω.pure' ?_⟩;refine Ω.bind' (HO m n D ?_);refine Ω.bind' (HN m n D f.Nr F ?_);have aq:Um xs.toList 0 (some (h,a))=some (h,xs[h].val):=by simp[Um,ah]
      rw[aq];simp only[t,Option.map_some,Option.getD_some];unfold Instr.keyThatStays;rw[<-ai];simp only[ap,if_true];refine Ω.bind' (Ω.pure' ?_);obtain⟨W,X,Y⟩:=HL O (es':=es.set h (k,x)) (xs':=xs.modify h λe=>{e with key:=v,val:=w}) (clock':=R) r Q af λ{B' σ'} l=>by
       refine⟨by simp[f.1],λj e y c d=>?_,λj J y z c d Z=>?_⟩
       .rw[Array.getElem?_modify] at d;by_cases p:h=j
        .subst p;rw[Ww ag] at c;rw[if_pos rfl,t] at d;cases c;cases d;exact⟨n.later l,ad.later l,ao⟩
        .rw[Vm p] at c;rw[if_neg p] at d;obtain⟨A,C,L⟩:=f.2.1 j e y c d;exact⟨A.later l,C.later l,L⟩
       .have born:∀(j:Nat) (y:MapEntry),(xs.modify h λe=>{e with key:=v,val:=w})[j]?=some y->∃M,xs[j]?=some M/\y.born=M.born:=λj y g=>by
         rw[Array.getElem?_modify] at g;by_cases p:h=j
         .subst p;rw[if_pos rfl,t] at g;cases g;exact⟨_,t,rfl⟩
         .rw[if_neg p] at g;exact⟨y,g,rfl⟩
        obtain⟨M,A,C⟩:=born j y c;obtain⟨ar,L,au⟩:=born J z d;rw[C,au];exact f.2.2 j J M ar A L Z
      exact⟨⟨_,E⟩,rfl,rfl,Ω.pure' ⟨S,_,_,_,V,X,W,Y,.Zk _⟩⟩
     .rename_i F;intro K V;unfold Instr.mapUpdate;refine Ω.bind' (m.ZD hi ?_);rw[ae];refine Ω.bind' ⟨_,E,rfl,Ω.pure' ?_⟩;refine Ω.bind' (HO m n D ?_);refine Ω.bind' (HN m n D f.Nr F ?_);simp only[Um,Option.map_none];obtain⟨W,X,Y⟩:=HL O (es':=es++[(k,x)]) (xs':=xs.push {key:=v,val:=w,born:=R}) (clock':=R+1) r Q af λ{B' σ'} l=>by
       refine⟨by simp[f.1],λj e y c d=>?_,λj J y z c d Z=>?_⟩
       .by_cases aa:j<es.length
        .rw[Y0 aa] at c;rw[NQ,if_neg (by rw[<-f.1];omega)] at d;obtain⟨A,C,L⟩:=f.2.1 j e y c d;exact⟨A.later l,C.later l,U⟩
        .rw[Xw U] at c;have av:j=es.length:=by
          have:=(Zu.1 c).1;simp at this;omega
         subst av;rw[NQ,if_pos f.1] at d;simp at c;subst c;cases d;exact⟨n.later l,ad.later l,Qu _⟩
       .rw[NQ] at c d;split at c
        .rename_i ai;split at d
         .omega
         .have:=(T'.1 d).1;omega
        .split at d
         .cases d;have aa:=(T'.1 c).1;have o:∃e,es[j]?=some e:=⟨_,ε (by rw[f.1];exact aa)⟩;obtain⟨e,o⟩:=o;exact(f.2.1 j e y o c).2.2
         .exact f.2.2 j J y z c d Z
      exact⟨⟨_,E⟩,rfl,rfl,Ω.pure' ⟨S,_,_,_,V,X,W,Y,.Zk _⟩⟩
     .exact .bad
    | Uo v s=>rw[r] at s;cases s
   .exact .bad
  .exact .bad
 .exact .bad
end
section
variable {P:Program} {T:ZR} {S:ο} {B:Z8} {H:Ψ} {σ:Ρ}
def JZ (T:ZR) (a:TypeId) (σ:Ρ) (b:I):YX:=match Oq T a,b with
 | some _,.mp id=>match σ[id]? with
  | some (.map es)=>.ok (.it σ.length) (σ++[.iter id es none])
  | _=>.bad
 | _,_=>.bad
theorem zG (C:Zz P T) (h:Holds S B σ H) {n:TypeId} {mp:I} {u:Value} (D:ς S B σ mp u):Y4 P (Instr.range n u) S B H σ (JZ T n σ mp):=by
 unfold JZ;split
 .rename_i p id E;obtain⟨i,hi,F⟩:=J1 (kt:=p.1) (vt:=p.2) E;split
  .rename_i es a;cases D with
   | mp c s=>
    rename_i b N;rw[a] at c;cases c;obtain⟨xs,d,k,l⟩:=L4 h a s;intro K L;unfold Instr.range;refine Ω.bind' (C.ZD hi ?_);rw[F];refine Ω.bind' ?_;refine⟨_,k,rfl,?_⟩;refine Ω.bind' (Ω.pure' ?_);refine Ω.bind' ?_;refine λr t=>?_;have m:b≠r:=λe=>by subst e;rw[t.2.2.1] at k;cases k
    have w:id<σ.length:=(Zu.1 a).1
    have M:∀f,(∀N,some (r,0)≠some (f,N))->UP H (H.ZX r (.mapIter (some b) d #[] d)) f:=λf O=>by
     have m:f≠r:=λe=>by subst e;exact O _ rfl
     exact⟨λo=>rfl,rfl,by simp[Ψ.ZX,m]⟩
    have Q:Zw S S B (B++[some (r,0)]) σ (σ++[.iter id es none])->Vh S (B++[some (r,0)]) (σ++[.iter id es none]) (H.ZX r (.mapIter (some b) d #[] d)) (.iter id es none) (some (r,0)):=λx=>by
     refine⟨r,0,b,N,xs,d,#[],rfl,by rw[Y0 (by rw[h.len];exact w)];exact s,⟨es,by rw[Y0 w];exact a⟩,by simp[Ψ.ZX],by simp[Ψ.ZX,m,k],⟨xs.toList,?_,by simpa using l.1,λi e y R U=>?_⟩,λy V=>?_,λe g=>by cases g⟩
     .exact(List.filter_eq_self.2 λe _=>J).symm
     .obtain⟨W,X⟩:=l.Nr.2 i e y R U;exact⟨W.later x,X.later x⟩
     .obtain⟨j,A,rfl⟩:=Array.getElem_of_mem V;have g:∃e,es[j]?=some e:=⟨_,ε (by rw[l.1];exact A)⟩;obtain⟨e,g⟩:=g;exact(l.2.1 j e _ g (XI A)).2.2
    obtain⟨Y,Z,aa⟩:=h.push (λf ab e=>by cases e;exact t) M Q;exact Ω.pure' ⟨_,_,_,_,L,Z,Y,aa,.it (Ka σ _) (J' h.len _)⟩
   | Uo v c=>rw[a] at c;cases c
  .exact .bad
 .exact .bad
theorem zF {c:Type} (f:c->Nat):∀(l:List c) (i:Nat) (e:c),(l.map f).Nodup->l[i]?=some e->l.filter (λx=>f x != f e)=l.eraseIdx i:=by
 intro l
 induction l with
 | nil=>intro i e _ h;simp at h
 | cons a l d=>
  intro i e b h;simp only[XC,Rg] at b;cases i with
  | zero=>
   simp at h;subst h;rw[KS];simp only[bne_self_eq_false,Xf,if_false,List.eraseIdx_cons_zero];rw[List.filter_eq_self];intro x g;simp only[bne_iff_ne,ne_eq];intro e;exact b.1 (e▸List.mem_map_of_mem g)
  | succ i=>
   simp only[List.getElem?_cons_succ] at h;have j:f a≠f e:=λx=>b.1 (x▸List.mem_map_of_mem (Zf h));rw[KS];simp only[bne_iff_ne,ne_eq,j,not_false_eq_true,if_true,List.eraseIdx_cons_succ];rw[d i e b.2 h]
theorem zE {es:List (I×I)} {xs:Array MapEntry} {a:Nat} (h:Qk S B σ es xs a):(xs.toList.map (·.born)).Nodup:=by
 rw[List.Nodup,KV,Tr];intro i j hi b c;have:=h.2.2 i j _ _ (XI (by simpa using hi)) (XI (by simpa using b)) c;simp only[Array.getElem_toList];omega
def JY (σ:Ρ) (a:I):YX:=match a with
 | .it id=>match σ[id]? with
  | some (.iter m left _)=>if left.isEmpty=true then .ok (.ZV [.z (.bool false)]) σ else
    .all left.length λi=>match left[i]? with
     | some e=>.ok (.ZV [.z (.bool true),e.1,e.2]) (σ.set id (.iter m (left.eraseIdx i) (some e)))
     | none=>.bad
  | _=>.bad
 | _=>.bad
theorem zD {a b c:I} {u v w:Value} (f:ς S B σ a u) (g:ς S B σ b v) (h:ς S B σ c w):ς S B σ (.ZV [a,b,c]) (.tuple #[u,v,w]):=by
 refine .ZV _ rfl λi j k d e=>?_
 match i with
 | 0=>simp at d e;subst d;subst e;exact f
 | 1=>simp at d e;subst d;subst e;exact g
 | 2=>simp at d e;subst d;subst e;exact h
 | i+3=>simp at d
theorem zC (r:Holds S B σ H) {it:I} {u:Value} (aC:TypeId) (hi:ς S B σ it u):Y4 P (Instr.next u false aC) S B H σ (JY σ it):=by
 unfold JY;split
 .rename_i id;split
  .rename_i m left aW s;cases hi with
   | it A ak=>
    rename_i aX aY aZ b N;rw[s] at A;cases A;obtain⟨T,al,L,aD,xs,f,seen,V,am,⟨es,M⟩,W,C,⟨t,X,Y,Z⟩,aa,a0⟩:=r.row id _ _ s ak;cases V;obtain⟨xs',clock',an,aE⟩:=L4 r M am;rw[C] at an;cases an;have ao:=zE aE;have ab:L≠b:=λe=>by subst e;rw[W] at C;cases C
    intro K ad;have aF:(xs.filter λe=>!seen.contains e.born).toList=t:=by rw[X];simp
    have aG:(!seen.isEmpty&&!xs.isEmpty&&xs.all (λe=>decide (e.born>=f)))=false:=by
     cases ap:xs.isEmpty with
     | true=>simp
     | false=>
      have D:0<xs.size:=by
       rw[Array.isEmpty_eq_false_iff] at ap;exact Array.size_pos_iff.2 ap
      have aH:xs.all (λe=>decide (e.born>=f))=false:=by
       rw[Array.all_eq_false];refine⟨0,D,?_⟩;have:=aa xs[0] (Array.getElem_mem D);simp;exact this
      rw[aH];simp
    have aI:∀z:Array MapEntry,z=xs.filter (λe=>!seen.contains e.born)->z.filter (λe=>decide (e.born<f))=z/\z.filter (λe=>decide (e.born>=f))=#[]:=λz E=>by
     have aq:∀e∈z,e.born<f:=λe k=>by rw[E] at k;exact aa e (Array.mem_of_mem_filter k)
     constructor
     .rw[Array.filter_eq_self];intro e k;simpa using aq e k
     .rw[Array.filter_eq_empty_iff];intro e k;simpa using aq e k
    unfold Instr.next;refine Ω.bind' ?_;refine⟨_,W,rfl,?_⟩;refine Ω.pure' ?_;simp only;refine Ω.bind' ?_;refine⟨_,C,rfl,?_⟩;refine Ω.pure' ?_;simp only[aG,Xf,if_false];generalize E:xs.filter (λe=>!seen.contains e.born)=z;obtain⟨f1,f2⟩:=aI z E.symm;rw[f1,f2];have O:z.toList=t:=by rw[<-E];exact aF
    by_cases Q:left.isEmpty=true
    .have aJ:left=[]:=Qv.1 Q;subst aJ;have aK:z=#[]:=by
      have:t=[]:=YP.1 (by rw[<-Y];rfl);rw[this] at O;exact Array.toList_eq_nil_iff.1 O
     subst aK;have V:((if(#[]:Array MapEntry).isEmpty=true then #[none] else #[])++Array.map some (#[]++#[]:Array MapEntry))=#[none]:=J;rw[V];refine Ω.bind' ?_;show Ω P (choose (.mapNext 1)) H _ _;unfold choose;simp only[Ω,Question.forced,Z1,decide_true,if_true];exact Ω.pure' (.same r ad (.ZV _ rfl λi a v g p=>by
      match i with
      | 0=>simp at g p;subst g;subst p;exact .z _
      | i+1=>simp at g))
    .rw[if_neg Q] at ad;have ae:z.size=left.length:=by rw[Y,<-O];simp
     have aL:z.isEmpty=false:=by
      rw[Array.isEmpty_eq_false_iff];intro e;rw[e] at ae;exact Q (Qv.2 (YP.1 ae.symm))
     simp only[aL,Xf,if_false,OT,Array.empty_append];refine Ω.bind' ?_;have ar:∀i,i<left.length->Ω P (match (z.map some)[i]? with
       | some (some e)=>do
        setObj b (.mapIter (some L) f (seen.push e.born) f)
        pure (.tuple #[.bool true,e.key,e.val])
       | some none=>pure (.tuple #[.bool false])
       | none=>stuck "Next: no such candidate") H (VO S B H σ K) (λ_ _=>False):=λi au=>by
      have F:∃d,z[i]?=some d:=⟨_,XI U⟩;obtain⟨d,F⟩:=F;have av:t[i]?=some d:=by rw[<-O,Wl];exact F
      have R:∃e,left[i]?=some e:=⟨_,ε au⟩;obtain⟨le,R⟩:=R;rw[PE,F];simp only[Option.map_some];have aw:=ad i au;simp only[R] at aw;obtain⟨ax,ay⟩:=Z i _ _ R av;have aM:d∈xs:=by
       have:d∈z:=Array.mem_of_getElem? F;rw[<-E] at this;exact Array.mem_of_mem_filter this
      have aN:id<σ.length:=(Zu.1 s).1
      have a1:id<B.length:=by rw[r.len];exact aN
      have az:id≠m:=λe=>by subst e;rw[s] at M;cases M
      obtain⟨aO,aP,af⟩:=r.NB (H':=H.ZX b (.mapIter (some L) f (seen.push d.born) f)) (r':=.iter m (left.eraseIdx i) (some le)) (bo':=some (b,N)) s trivial ak (.inl ⟨_,_,rfl,rfl⟩) (λT al e=>.inl ⟨al,e⟩) (λT g _=>by
       have ab:T≠b:=λe=>by subst e;exact g N rfl
       exact⟨λo=>rfl,rfl,by simp[Ψ.ZX,ab]⟩) Ψ.H5 (λj l c aA=>by
       obtain⟨bo,aQ⟩:=Fs r aA;obtain⟨_,_,_,_,_,_,_,_,_,⟨a2,aB⟩,_⟩:=r.row j _ bo aA aQ;rw[s] at aB;cases aB) (λw=>by
       refine⟨b,N,L,aD,xs,f,seen.push d.born,rfl,by rw[Vm az];exact am,⟨es,by rw[Vm az];exact M⟩,by simp[Ψ.ZX],by simp[Ψ.ZX,ab,C],⟨t.eraseIdx i,?_,by rw[List.length_eraseIdx,List.length_eraseIdx,Y],λj e y g p=>?_⟩,aa,λe k=>?_⟩
       .have aR:(t.map (·.born)).Nodup:=by
         rw[X];exact ao.sublist (List.filter_sublist.map _)
        rw[<-zF (·.born) t i d aR av,X,List.filter_filter];apply List.filter_congr;intro e _;rw[Array.contains_push,Bool.not_or,Bool.and_comm];congr 1
       .rw[List.getElem?_eraseIdx] at g p;split at g
        .rename_i ag;rw[if_pos ag] at p;obtain⟨ah,ai⟩:=Z j e y g p;exact⟨ah.later w,ai.later w⟩
        .rename_i ag;rw[if_neg ag] at p;obtain⟨ah,ai⟩:=Z (j+1) e y g p;exact⟨ah.later w,ai.later w⟩
       .cases k;refine⟨d.born,d,J,?_,ax.later w,ay.later w⟩;rw[<-Array.find?_toList];obtain⟨q,aS⟩:=Su (show d∈xs.toList by simpa using aM);have aT:∀(l:List MapEntry) (q:Nat) (e:MapEntry),(l.map (·.born)).Nodup->l[q]?=some e->l.find? (·.born==e.born)=some e:=by
         intro l
         induction l with
         | nil=>intro q e _ h;simp at h
         | cons a l aU=>
          intro q e aj h;simp only[XC,Rg] at aj;rw[List.find?_cons];cases q with
          | zero=>simp at h;subst h;simp
          | succ q=>
           simp only[List.getElem?_cons_succ] at h;have:(a.born==e.born)=false:=by
            simp only[beq_eq_false_iff_ne,ne_eq];intro x;exact aj.1 (x▸List.mem_map_of_mem (Zf h))
           rw[this];exact aU q e aj.2 h
        exact aT xs.toList q _ ao aS)
      refine Ω.bind' ?_;refine⟨⟨_,W⟩,rfl,rfl,?_⟩;refine Ω.pure' ?_;exact Ω.pure' ⟨S,_,_,_,aw,aP,aO,af,zD (.z _) (ax.later af) (ay.later af)⟩
     have aV:(z.map some).size=left.length:=by simp[ae]
     show Ω P (choose (.mapNext (z.map some).size)) H _ _;unfold choose;simp only[Ω];have D:0<left.length:=RR.2 λe=>Q (Qv.2 e);split
     .exact ar 0 D
     .intro n;refine ar _ ?_;simp only[Question.cut,aV];exact Nat.mod_lt _ D
   | Td v A=>rw[s] at A;cases A
  .exact .bad
 .exact .bad
def JX (σ:Ρ) (a:I):YX:=match a with
 | .it id=>match σ[id]? with
  | some (.iter _ _ (some e))=>.ok (.ZV [e.1,e.2]) σ
  | _=>.bad
 | _=>.bad
theorem zB (d:Holds S B σ H) {it:I} {u:Value} (hi:ς S B σ it u):Y4 P (Instr.entry u) S B H σ (JX σ it):=by
 unfold JX;split
 .rename_i id;split
  .rename_i m left e c;cases hi with
   | it a f=>
    rename_i r s t b N;rw[c] at a;cases a;obtain⟨w,x,A,C,xs,D,seen,g,E,F,h,i,_,J,j⟩:=d.row id _ _ c f;cases g;obtain⟨L,y,k,l,n,o⟩:=j e rfl;intro K p;unfold Instr.entry;refine Ω.bind' ?_;refine⟨_,h,rfl,?_⟩;refine Ω.pure' ?_;simp only[k];refine Ω.bind' ?_;refine⟨_,i,rfl,?_⟩;refine Ω.pure' ?_;simp only[bne_self_eq_false,Xf,if_false,l];exact Ω.pure' (.same d p (Nz n o))
   | Td v a=>rw[c] at a;cases a
  .exact .bad
 .exact .bad
@[simp] def HK:Value->Option I
 | .int k z=>some (.z (.int k z))
 | .slice none 0 0=>some (.sl true 0 [])
 | _=>none
theorem zA {a:Value} {b:I} (h:HK a=some b):a.cells=#[a]/\b.cells=[b]/\(∀S B σ,ς S B σ b a)/\One a:=by
 unfold HK at h;split at h
 .cases h;exact⟨rfl,rfl,λ_ _ _=>.z _,trivial⟩
 .cases h;exact⟨rfl,rfl,λ_ _ _=>.Wj _ _ (λ_=>rfl),trivial⟩
 .cases h
def JW (T:ZR) (b:TypeId) (σ:Ρ) (x:I):YX:=match x with
 | .ms id n i len=>match T b,σ[id]? with
  | some c,some (.cells t k l)=>match c.ZD with
   | .slice e=>match T e with
    | some d=>match HK d.zero with
     | some f=>if l.length=n/\k=1/\i+len<=n/\(∀a∈l,a.cells.length=1) then .ok .Zk (σ.set id (.cells t k (l.take i++List.replicate len f++l.drop (i+len)))) else .bad
     | none=>.bad
    | none=>.bad
   | _=>.bad
  | _,_=>.bad
 | _=>.bad
theorem zz (R:Zz P T) (p:Holds S B σ H) {V:TypeId} (ag:TypeId) {x:I} {u:Value} (ah:ς S B σ x u):Y4 P (Builtin.clear_ #[V] ag #[u]) S B H σ (JW T V σ x):=by
 unfold JW;split
 .rename_i id n i len;split
  .rename_i aK t k l ai g;split
   .rename_i e aj;split
    .rename_i D ak;split
     .rename_i r al;obtain⟨am,W,an,ao⟩:=zA al;split
      .rename_i ap;obtain⟨aL,rfl,aM,_⟩:=ap;have X:id<σ.length:=(Zu.1 g).1;have aN:id<B.length:=by rw[p.len];exact X
       intro K E;have Y:len=0->VO S B H σ K (.tuple #[]) H:=λs=>by
        subst s;have aq:σ.set id (.cells t 1 (l.take i++List.replicate 0 r++l.drop (i+0)))=σ:=by
         rw[List.replicate_zero,Tn,Nat.add_zero,NT];apply RQ;intro j;by_cases Z:id=j
         .subst Z;rw[Ww X,g]
         .rw[Vm Z]
        simp only[YX.holds] at E;rw[aq] at E;exact⟨S,B,σ,_,E,.refl _ _ _,p,.refl _ _ _,.Zk _⟩
       cases ah with
       | Vx v h aa=>rw[g] at h;cases h;simp only[Row.WQ] at aa;omega
       | ms cap h aa ab aO aP A=>
        rename_i bo base;rw[g] at h;cases h;unfold Builtin.clear_;refine Ω.bind' (R.ZD ai ?_);rw[aj];cases base with
        | none=>
         refine Ω.bind' (Ω.pure' ?_);have s:len=0:=by
          rcases A with A|⟨b,N,_,F,_⟩
          .omega
          .cases F
         exact Ω.pure' (Y s)
        | some a=>
         by_cases s:len=0
         .subst s;refine Ω.bind' (Ω.pure' ?_);exact Ω.pure' (Y rfl)
         .rcases A with A|⟨b,N,rfl,F,A⟩
          .omega
          .cases F;obtain⟨ad,aQ,ae,w,J⟩:=p.row id _ _ g ab;obtain⟨m,rfl⟩:∃m,len=m+1:=⟨len-1,U⟩;simp only;refine Ω.bind' (R.zero ak ?_);have ar:(Builtin.zeroCells D.zero.cells (m+1)).toList=List.replicate (m+1) D.zero:=by
            simp only[Builtin.zeroCells,am];rw[Array.toList_map,Array.toList_range];refine RQ λj=>?_;rw[Yh,MB];by_cases d:j<m+1
            .rw[List.getElem?_range (by simpa using d),if_pos d];simp[Nat.mod_one]
            .rw[S0 (by simp;omega),if_neg d];rfl
           rw[ar];have au:∀(y:Nat) (c:I),(l.take i++List.replicate (m+1) r++l.drop (i+(m+1)))[y]?=some c->(i<=y/\y<i+(m+1)/\c=r)\/((y<i\/i+(m+1)<=y)/\l[y]?=some c):=λy c f=>by
            by_cases C:y<i
            .rw[U6,Y0 (by simp;omega),Tq C] at f;exact .inr ⟨.inl C,f⟩
            .by_cases L:y<i+(m+1)
             .rw[Y0 (by simp;omega),Xw (by simp;omega),MB] at f;split at f
              .cases f;exact .inl ⟨U,L,rfl⟩
              .cases f
             .rw[Xw (by simp;omega),T7] at f;have av:i+(m+1)+(y-(l.take i++List.replicate (m+1) r).length)=y:=by simp;omega
              rw[av] at f;exact .inr ⟨.inr U,f⟩
           obtain⟨aw,ax,ay⟩:=p.NB (H':=H.WH b i (List.replicate (m+1) D.zero)) (r':=.cells t 1 (l.take i++List.replicate (m+1) r++l.drop (i+(m+1)))) (bo':=some (b,N)) g trivial ab (.inl ⟨_,rfl,by simp;omega,rfl⟩) (λaf az M=>.inl ⟨az,M⟩)
            (λaf h _=>by
             have aA:af≠b:=λM=>by subst M;exact h N rfl
             exact⟨λo=>by simp[Ψ.WH,aA],rfl,rfl⟩) Ψ.H2 (Kl p g) (λaB=>by
             refine⟨ad,by simp;omega,λo aC=>?_,λy j=>if i<=y/\y<i+(m+1) then D.zero else w y j,λy c f=>?_⟩
             .simp only[Ψ.WH];split
              .exact⟨_,rfl⟩
              .exact ae o aC
             .rcases au y c f with⟨C,L,rfl⟩|⟨C,O⟩
              .refine⟨by rw[W];rfl,λj a d=>?_⟩;rw[W] at d;have Q:j=0:=by have:=(Zu.1 d).1;simp at this;omega
               subst Q;simp at d;subst d;simp only[C,L,and_self,if_true];refine⟨?_,an _ _ _,ao⟩;simp only[Ψ.WH,PG];rw[if_pos ⟨trivial,U,U⟩,MB,if_pos U];rfl
              .refine⟨(J y c O).1,λj a d=>?_⟩;obtain⟨aD,aE,aF⟩:=(J y c O).2 j a d;have Q:j=0:=by have:=(Zu.1 d).1;rw[(J y c O).1] at this;omega
               subst Q;have aG:¬(i<=y/\y<i+(m+1)):=U;simp only[aG,if_false];refine⟨?_,aE.later aB,aF⟩;simp only[Ψ.WH,PG];rw[if_neg U];exact aD)
           have aH:(⟨b,i*1,none⟩:Addr)=⟨b,i,none⟩:=by rw[Qt]
           rw[aH];refine Ω.bind' ?_;refine Ω.storeCells (G:=H) rfl ⟨t,N,ad⟩ _ 0 H (λv hv=>by rw[Is hv];trivial) (λj _ d=>?_) rfl ?_
           .rw[PG] at d;obtain⟨aI,aJ⟩:=ae (i+j) U;exact⟨aI,aJ⟩
           .exact Ω.pure' ⟨S,_,_,_,E,ax,aw,ay,.Zk _⟩
      .exact .bad
     .exact .bad
    .exact .bad
   .exact .bad
  .exact .bad
 .exact .bad
def JV (T:ZR) (a:TypeId) (σ:Ρ) (b:I):YX:=match Oq T a,b with
 | some _,.mp id=>match σ[id]? with
  | some (.map _)=>if SL σ id=true then .ok .Zk (σ.set id (.map [])) else .bad
  | _=>.bad
 | _,_=>JW T a σ b
theorem zy (f:Zz P T) (d:Holds S B σ H) {g:TypeId} (h:TypeId) {mp:I} {u:Value} (k:ς S B σ mp u):Y4 P (Builtin.clear_ #[g] h #[u]) S B H σ (JV T g σ mp):=by
 unfold JV;split
 .rename_i l id o;obtain⟨i,hi,p⟩:=J1 (kt:=l.1) (vt:=l.2) o;split
  .rename_i es c;split
   .rename_i r;cases k with
    | mp a m=>
     rename_i b N;rw[c] at a;cases a;obtain⟨xs,s,n,C⟩:=L4 d c m;obtain⟨t,w,x⟩:=HL d (es':=[]) (xs':=#[]) (clock':=s) c m r λ_=>⟨rfl,λi e y a=>by simp at a,λi j y z a=>by simp at a⟩;intro K A;unfold Builtin.clear_;refine Ω.bind' (f.ZD hi ?_);rw[p];refine Ω.bind' ?_;refine⟨_,n,rfl,?_⟩;refine Ω.pure' ?_;refine⟨⟨_,n⟩,rfl,rfl,?_⟩;exact Ω.pure' ⟨S,_,_,_,A,w,t,x,.Zk _⟩
    | Uo v a=>rw[c] at a;cases a
   .exact .bad
  .exact .bad
 .exact zz f d h k
end
def Oo (T:ZR) (c:BinOp) (d:TypeId) (a b:I):Zc:=match aeqv T d a b with
 | some r=>match c with
  | .eql=>.ok (.z (.bool r))
  | .neq=>.ok (.z (.bool !r))
  | _=>.bad
 | none=>.bad
def JU (T:ZR) (c:BinOp) (d:TypeId) (a b:I):Zc:=match a,b with
 | .z x,.z y=>match Qj c x y with
  | .ok v=>.ok v
  | .Y9 p r=>.Y9 p r
  | .bad=>Oo T c d (.z x) (.z y)
 | .Z' x,.Z' y=>Oo T c d (.Z' x) (.Z' y)
 | _,_=>.bad
def JS (T:ZR) (b:TypeId) (x c:I):Zc:=match T b with
 | some i=>match i.ZD,x,c with
  | .string,.z (.string s),.z (.int _ n)=>.Y9 (0<=n/\n<s.size) (.ok (.z (.int .u8 (s.data.toList.getD n.toNat 0).toNat)))
  | .array len e,.Z' xs,.z (.int _ n)=>match T e with
   | some a=>if a.agg=false/\a.size=1/\xs.length=len then .Y9 (0<=n/\n<len) (.ok (xs.getD n.toNat .Zk)) else .bad
   | none=>.bad
  | _,_,_=>.bad
 | none=>.bad
def JR (x:I):Zc:=match x with
 | .ω c=>.ok (.ω c)
 | .fn (.func f) a b=>.ok (.fn (.func f) a b)
 | .z (.pointer (some a))=>.ok (.z (.pointer (some a)))
 | _=>.bad
def On (σ:Ρ) (x:I):YX:=match x with
 | .Ο id n i j=>match σ[id]? with
  | some (.cells _ _ l)=>if l.length=n then .ok (.Ο id n i j) σ else .bad
  | _=>.bad
 | _=>.bad
def JQ (T:ZR) (a:TypeId) (x:I):Zc:=match T a with
 | some i=>match i.ZD,x with
  | .array n _,.sl _ k l=>if 0<n/\k=1/\(l.all λe=>decide (e.cells.length=1)&&I.YG [] e)=true then .Y9 (n<=l.length) (.ok (.ω (l.take n))) else .bad
  | _,_=>.bad
 | none=>.bad
def Qg:ξ->Option (List Int)
 | []=>some []
 | .z (.int .i32 n)::r=>(Qg r).map (n::·)
 | _=>none
def spell (l:List Int):ByteArray:=l.foldl (λs n=>s++Utf8.encode n) .empty
def L2 (T:ZR) (b:TypeId):Bool:=match T b with
 | some i=>match i.ZD with
  | .slice e=>match T e with|some a=>(match a.ZD with|.int .i32=>true|_=>false)&&a.size==1|none=>false
  | _=>false
 | none=>false
def L1 (T:ZR) (a:TypeId):Bool:=match T a with|some i=>(match i.ZD with|.string=>true|_=>false)|none=>false
def Pp (T:ZR) (src dst:TypeId) (σ:Ρ) (x:I):Zc:=if L2 T src=true/\L1 T dst=true then match RE σ x with
 | some (k,l)=>if k=1\/l.isEmpty=true then match Qg l with|some r=>.ok (.z (.string (spell r)))|none=>.bad else .bad
 | none=>.bad else .bad
def JP (T:ZR) (src dst:TypeId) (x:I):Zc:=if L1 T src=true/\L2 T dst=true then match x with
 | .z (.string s)=>.ok (.sl false 1 ((Conv.runesFrom s s.size 0 #[]).toList.map .z))
 | _=>.bad else .bad
section
variable {P:Program} {T:ZR} {S:ο} {B:Z8} {H:Ψ} {σ:Ρ}
theorem zx {a:BinOp} {b:TypeId} {p q:Operand} {vs d:Array Value} (e:P.eqGuardType P.depth b=false) {G:Ψ} {K:Unit->Ψ->Prop} {E:Value->Ψ->Prop} (c:K () G):Ω P (eqGuard a b p q (.agg vs) (.agg d)) G K E:=by
 cases a<;>first|exact Ω.pure' c|skip
 all_goals
  unfold eqGuard;simp only[Bool.not_true,Xf,if_false];refine Ω.bind' ?_;show Ω P _ G K E;refine Ω.bind' ?_;show Ω P _ G K E;rw[if_pos (by rw[e];rfl)];exact Ω.pure' c
theorem EX (g:Zz P T) (h:Holds S B σ H) {d:BinOp} {c:TypeId} {p q:Operand} {a b:I} {v w:Value} (i:ς S B σ a v) (j:ς S B σ b w) (k:∀r,aeqv T c a b=some r->(d=.eql\/d=.neq)->∀(K:Unit->Ψ->Prop),K () H->Ω P (eqGuard d c p q v w) H K (λ_ _=>False))
  (l:∀r,aeqv T c a b=some r->(binOp .eql c v w=(do pure (.bool (<-Op.equal c v w)))/\binOp .neq c v w=(do pure (.bool (!(<-Op.equal c v w)))))) :
  Y4 P (do eqGuard d c p q v w;binOp d c v w) S B H σ ((Oo T d c a b).YC σ):=by
 unfold Oo;split
 .rename_i r e;obtain⟨m,n⟩:=l r e;split
  .intro K f;refine Ω.bind' (k r e (.inl rfl) _ ?_);rw[m];exact Ω.bind' (HP g i j e (Ω.pure' (.same h f (.z _))))
  .intro K f;refine Ω.bind' (k r e (.inr rfl) _ ?_);rw[n];exact Ω.bind' (HP g i j e (Ω.pure' (.same h f (.z _))))
  .exact .bad
 .exact .bad
theorem zw (l:Zz P T) (m:Holds S B σ H) (j:BinOp) (g:TypeId) (p q:Operand) {a b:I} {v w:Value} (t:ς S B σ a v) (u:ς S B σ b w):Y4 P (do eqGuard j g p q v w;binOp j g v w) S B H σ ((JU T j g a b).YC σ):=by
 unfold JU;split
 .rename_i x y;have k:=Aq (P:=P) m j g p q v w;cases t;cases u;split
  .rename_i r f;rw[f] at k;exact k
  .rename_i O r f;rw[f] at k;exact k
  .rename_i A;have C:∀r,aeqv T g (.z v) (.z w)=some r->(∃c d,v=.bool c/\w=.bool d)\/¬(j=.eql\/j=.neq):=λr f=>by
    unfold aeqv at f;split at f<;>try cases f
    simp only at f;split at f<;>try cases f
    unfold TY at f;split at f
    .split at f
     .rename_i e;subst e;refine .inr λn=>?_;rcases n with rfl|rfl<;>simp[Qj] at A
     .cases f
    .refine .inr λn=>?_;rcases n with rfl|rfl<;>simp[Qj] at A
    .exact .inl ⟨_,_,rfl,rfl⟩
    .cases f
   by_cases o:j=.eql\/j=.neq
   .by_cases f:∃r,aeqv T g (.z v) (.z w)=some r
    .obtain⟨r,f⟩:=f;rcases C r f with⟨c,d,rfl,rfl⟩|h
     .exact EX l m (.z _) (.z _) (λ_ _ _ K s=>by unfold eqGuard;split<;>exact Ω.pure' s) (λ_ _=>⟨rfl,rfl⟩)
     .exact absurd o h
    .have:aeqv T g (.z v) (.z w)=none:=by
      cases h:aeqv T g (.z v) (.z w) with
      | none=>rfl
      | some r=>exact absurd ⟨r,h⟩ f
     unfold Oo;rw[this];exact .bad
   .unfold Oo;split
    .split
     .exact absurd (.inl rfl) o
     .exact absurd (.inr rfl) o
     .exact .bad
    .exact .bad
 .rename_i x y;cases t with
  | Z' vs D E=>cases u with
   | Z' F J L=>
    refine EX l m (.Z' vs D E) (.Z' F J L) (λr f _ K s=>?_) (λ_ _=>⟨rfl,rfl⟩);have M:P.eqGuardType P.depth g=false:=by
     unfold aeqv at f;split at f<;>try cases f
     rename_i i hi;simp only at f;split at f<;>try cases f
     rename_i Q N;have:=(l g i hi).1.2;rw[N] at this;exact this.1
    exact zx M s
 .exact .bad
theorem zv (c:Zz P T) (h:Holds S B σ H) (d:TypeId) {x j:I} {v w:Value} (k:ς S B σ x v) (hi:ς S B σ j w):Y4 P (Instr.index d v w) S B H σ ((JS T d x j).YC σ):=by
 unfold JS;cases l:T d with
 | none=>exact .bad
 | some i=>
  simp only;split
  .rename_i s kk n f;cases k;cases hi;refine Y4.Y9 (r:=(Zc.ok (.z (.int .u8 (s.data.toList.getD n.toNat 0).toNat))).YC σ) λg K a=>?_;unfold Instr.index;refine Ω.bind' (Ω.pure' ?_);refine Ω.bind' (c.ZD l ?_);rw[f];have b:n.toNat<s.data.size:=by have:s.size=s.data.size:=rfl;omega
   have o:(if 0<=n then s[n.toNat]? else none)=some s.data[n.toNat]:=by
    rw[if_pos g.1];show s[n.toNat]?=_;rw[getElem?_pos s n.toNat U];rfl
   simp only[o];have Φ:s.data.toList.getD n.toNat 0=s.data[n.toNat]:=by rw[XJ,Wl,XI b];rfl
   rw[Φ] at a;exact Ω.pure' (.same h a (.z _))
  .rename_i len e xs kk n f;cases hi;split
   .rename_i C m;split
    .rename_i p;obtain⟨t,u,D⟩:=p;refine Y4.Y9 (r:=(Zc.ok (xs.getD n.toNat .Zk)).YC σ) λg K a=>?_;cases k with
     | Z' vs y A=>
      unfold Instr.index;refine Ω.bind' (Ω.pure' ?_);refine Ω.bind' (c.ZD l ?_);rw[f];simp only[g,and_self,if_true];refine Ω.bind' (c.size m ?_);rw[u,Qt];unfold part;refine Ω.bind' (c.agg m ?_);rw[t];have b:n.toNat<xs.length:=U;have hv:n.toNat<vs.size:=by rw[<-y];exact b
      simp only[Xf,if_false,XI hv];have Φ:xs.getD n.toNat .Zk=xs[n.toNat]:=by simp[b]
      rw[Φ] at a;exact Ω.pure' (.same h a (A _ _ _ (ε b) (XI hv)))
    .exact .bad
   .exact .bad
  .exact .bad
theorem zu (d:Holds S B σ H) {ρ:Operand->Value} {o:Oper} {x:Operand} (e:o.op=.nilCheck x) {a:I} (c:ς S B σ a (ρ x)):Does P (execOp ρ o) S B H σ ((JR a).YC σ):=by
 unfold JR;split
 .unfold execOp;rw[e];simp only;generalize ρ x=v at c;cases c with
  | ω b o w f g=>exact Does.val d (.ω b o w f g)
 .unfold execOp;rw[e];simp only;generalize ρ x=v at c;cases c with
  | fn vs h f g i j=>exact Does.val d (.fn vs h f g i j)
 .unfold execOp;rw[e];simp only;generalize ρ x=v at c;cases c;exact Does.val d (.z _)
 .exact .bad
theorem zt (e:Holds S B σ H) {ρ:Operand->Value} {o:Oper} {x:Operand} (f:o.op=.nilCheck x) {a:I} (d:ς S B σ a (ρ x)):Does P (execOp ρ o) S B H σ (On σ a):=by
 unfold On;split
 .split
  .rename_i t k l g;split
   .rename_i i;unfold execOp;rw[f];simp only;generalize ρ x=v at d;cases d with
    | Ο b c h=>exact Does.val e (.Ο b c h)
    | Vi v b c=>rw[g] at b;cases b;simp only[Row.WQ] at c;omega
   .exact .bad
  .exact .bad
 .exact .bad
theorem zs (p:Zz P T) (s:Holds S B σ H) (d:TypeId) {x:I} {v:Value} (t:ς S B σ x v):Y4 P (Instr.arrayAt d v) S B H σ ((JQ T d x).YC σ):=by
 unfold JQ;cases u:T d with
 | none=>exact .bad
 | some i=>
  simp only;split
  .rename_i n e ex k l y;split
   .rename_i A;obtain⟨M,C,h⟩:=A;subst C;refine Y4.Y9 (r:=(Zc.ok (.ω (l.take n))).YC σ) λD K E=>?_;obtain⟨base,cap,rfl,_,_,F⟩:=Q1 t;obtain⟨b,o,w,rfl,N,J,L⟩:=F (λe=>by subst e;simp at D;omega);unfold Instr.arrayAt;refine Ω.bind' (p.ZD u ?_);rw[y];simp only;rw[if_neg U];rw[Wv] at h;have el:∀(j:Nat) (e:I),(l.take n)[j]?=some e->l[j]?=some e/\e.cells=[e]:=λj e c=>by
     have m:=h e (K1 (Zf c));simp only[VT] at m;rw[OS] at c;split at c
     .exact⟨c,I.HY m.2⟩
     .cases c
    refine Ω.pure' (.same s E (.ω b o (λj=>w j 0) (λj a c=>?_) (λj a c=>?_)))
    .obtain⟨f,g⟩:=el j a c;have:=J j a f 0 a (by rw[g];rfl);simpa using this
    .obtain⟨f,g⟩:=el j a c;exact L j a f 0 a (by rw[g];rfl)
   .exact .bad
  .exact .bad
theorem EW {b:TypeId} (h:L2 T b=true):∃i e a,T b=some i/\i.ZD=.slice e/\T e=some a/\a.ZD=.int .i32/\a.size=1:=by
 unfold L2 at h;split at h
 .rename_i i hi;split at h
  .rename_i e c;split at h
   .rename_i a d;simp only[VT,beq_iff_eq] at h;refine⟨i,e,a,hi,c,d,?_,h.2⟩;have:=h.1;split at this
    .assumption
    .cases this
   .cases h
  .cases h
 .cases h
theorem EV {a:TypeId} (h:L1 T a=true):∃i,T a=some i/\i.ZD=.string:=by
 unfold L1 at h;split at h
 .rename_i i hi;refine⟨i,hi,?_⟩;split at h
  .assumption
  .cases h
 .cases h
theorem zr (k:Zz P T) (u:Holds S B σ H) (src dst:TypeId) {x:I} {v:Value} (d:ς S B σ x v):Y4 P (convert src dst v) S B H σ ((JP T src dst x).YC σ):=by
 unfold JP;split
 .rename_i o;obtain⟨i,hi,w⟩:=EV o.1;obtain⟨j,e,V,f,A,C,D,W⟩:=EW o.2;split
  .rename_i s;cases d;intro K p;unfold convert;refine Ω.bind' (k.ZD hi (Ω.bind' (k.ZD f ?_)));rw[w,A];simp only;refine Ω.bind' (k.ZD C ?_);rw[D];simp only;unfold Conv.stringToRunes;refine Ω.bind' ?_;unfold choose;simp only[Ω];have E:(Question.appendCap (Conv.runesFrom s s.size 0 #[]).size 0 e).forced=false:=rfl;rw[E];simp only[Xf,if_false];intro q;generalize F:Conv.runesFrom s s.size 0 #[]=c at p ⊢;have L:c.size<=(Question.appendCap c.size 0 e).cut q:=by simp[Question.cut]
   refine Ω.bind' (Ω.bind' ?_);have M:∀v∈c,One v:=by
    have N:∀(l i:Nat) (g:Array Value),(∀v∈g,One v)->∀v∈Conv.runesFrom s l i g,One v:=by
     intro l
     induction l with
     | zero=>intro i g h;exact h
     | succ n O=>
      intro i g h;unfold Conv.runesFrom;split
      .refine O _ _ λv hv=>?_;rcases NN.1 hv with hv|rfl
       .exact h v hv
       .trivial
      .exact h
    rw[<-F];exact N _ _ _ (λv hv=>by simp at hv)
   have Q:Xn S B σ (c++Array.replicate ((Question.appendCap c.size 0 e).cut q-c.size) (.int .i32 0)) 1 (c.toList.map .z):=by
    refine⟨J,λj a f=>?_⟩;rw[Yh,Wl] at f;cases d:c[j]? with
    | none=>rw[d] at f;cases f
    | some y=>
     rw[d] at f;cases f;refine⟨rfl,λz b m=>?_⟩
     match z with
     | 0=>
      simp[I.cells] at m;subst m;refine⟨y,?_,.z y,M y (Array.mem_of_getElem? d)⟩;have:=(T'.1 d).1;rw[NY (by simpa using this)];simpa using d
     | z+1=>simp[I.cells] at m
   refine L' u _ e λr R U t=>Ω.pure' (Ω.pure' ⟨_,_,_,_,p,U,R,t,?_⟩);have:=Ki (cap:=(Question.appendCap c.size 0 e).cut q) false t Q (by simpa using L) J;simpa using this
  .exact .bad
 .exact .bad
theorem zq:∀(l:ξ) (r:List Int),Qg l=some r->r.length=l.length/\∀(i:Nat) (n:Int),r[i]?=some n->l[i]?=some (.z (.int .i32 n)):=by
 intro l
 induction l with
 | nil=>intro r h;cases h;exact⟨rfl,λi n h=>by simp at h⟩
 | cons a l e=>
  intro r h;unfold Qg at h;split at h
  .rename_i b;cases b
  .rename_i n j b;cases b;cases c:Qg l with
   | none=>rw[c] at h;cases h
   | some r'=>
    rw[c] at h;cases h;obtain⟨f,g⟩:=e r' c;refine⟨by simp[f],λi m d=>?_⟩;cases i with
    | zero=>simp at d;subst d;rfl
    | succ i=>exact g i m (by simpa using d)
  .cases h
theorem zp (m:Zz P T) (p:Holds S B σ H) (src dst:TypeId) {x:I} {v:Value} (L:ς S B σ x v):Y4 P (convert src dst v) S B H σ ((Pp T src dst σ x).YC σ):=by
 unfold Pp;split
 .rename_i D;obtain⟨i,e,ah,hi,M,N,O,ai⟩:=EW D.1;obtain⟨j,Q,R⟩:=EV D.2;split
  .rename_i k l V;split
   .rename_i W;split
    .rename_i r X;obtain⟨base,cap,w,rfl,_,t,Y⟩:=Kb p L (k:=1) V U (W.symm);obtain⟨E,Z⟩:=zq l r X;intro K F;unfold convert;refine Ω.bind' (m.ZD hi (Ω.bind' (m.ZD Q ?_)));rw[M,R];have aa:∀i,i<l.length->w i=.int .i32 (r.getD i 0):=λi y=>by
      have J:r[i]?=some r[i]:=ε U
      have:=(Y i _ (Z i _ J)).2 0 _ rfl;rw[Qt,Nat.add_zero] at this;rw[XJ,J];generalize w i=u at this;cases this;rfl
     have ab:Ω P (Conv.runesToString (.slice base l.length cap)) H (VO S B H σ K) (λ_ _=>False):=by
      unfold Conv.runesToString;rw[Qt] at t;cases base with
      | none=>
       simp only;rcases t with g|⟨b,o,A,_⟩
       .have:r=[]:=YP.1 (by rw[E,g]);subst this;exact Ω.pure' (.same p F (.z _))
       .cases A
      | some a=>
       simp only;have ad:∀(d:List Int) (f:ByteArray),Ω P (forIn (d.map λn=>Value.int .i32 n) f λ(c:Value) (s:ByteArray)=>do
         let .int .i32 n:=c|stuck "runesToString: rune expected"
         pure (ForInStep.yield (s++Utf8.encode n))) H (λs H'=>s=d.foldl (λs n=>s++Utf8.encode n) f/\H'=H) (λ_ _=>False):=by
        intro d
        induction d with
        | nil=>intro f;exact .forIn_nil ⟨rfl,rfl⟩
        | cons n d ae=>
         intro f;rw[XC];refine .forIn_cons ?_;exact Ω.pure' (ae (f++Utf8.encode n))
       have af:Ω P (loadCells a l.length) H (λvs H'=>vs=(r.map λn=>Value.int .i32 n).toArray/\H'=H) (λ_ _=>False):=by
        rcases t with g|⟨b,o,A,ag⟩
        .rw[g];have:r=[]:=YP.1 (by rw[E,g]);subst this;exact Ω.pure' ⟨rfl,rfl⟩
        .cases A;refine Ω.loadCells w rfl ag ⟨?_,rfl⟩;congr 1;apply RQ;intro i;rw[Yh,Yh];by_cases y:i<l.length
         .rw[List.getElem?_range y,ε (show i<r.length by omega)];simp only[Option.map_some];rw[aa i y,XJ,ε (show i<r.length by omega)];rfl
         .rw[S0 (by simp;omega),S0 U];rfl
       refine Ω.bind' (Ω.mono (λvs H' ⟨C,Φ⟩=>?_) (λ_ _ h=>h) _ af);subst C;subst Φ;rw[<-Array.forIn_toList];refine Ω.bind' (Ω.mono (λs H' ⟨C,Φ⟩=>?_) (λ_ _ h=>h) _ (ad r .empty));subst C;subst Φ;exact Ω.pure' (.same p F (.z _))
     have:Ω P (do
      match <-underlying e with
      | .int .u8=>Conv.bytesToString (.slice base l.length cap)
      | .int .i32=>Conv.runesToString (.slice base l.length cap)
      | _=>stuck "Convert: a slice of what to string?") H (VO S B H σ K) (λ_ _=>False):=by
      refine Ω.bind' (m.ZD N ?_);rw[O];exact ab
     cases base<;>exact this
    .exact .bad
   .exact .bad
  .exact .bad
 .exact .bad
end
def JO (σ:Ρ):YX:=.all 2 λj=>.ok (.z (.bool (j==1))) σ
def JN (T:ZR) (b:TypeId) (σ:Ρ) (a:I):YX:=match T b with
 | some i=>match i.ZD with
  | .slice _=>match a with
   | .ms id n i len=>match σ[id]? with
    | some (.cells _ _ l)=>if l.length=n/\i+len<=n then(if len=0 then JO σ else .ok (.z (.bool false)) σ) else .bad
    | _=>.bad
   | .sl _ _ l=>if l.isEmpty then JO σ else .ok (.z (.bool false)) σ
   | _=>.bad
  | _=>.bad
 | none=>.bad
section
variable {P:Program} {T:ZR} {S:ο} {B:Z8} {H:Ψ} {σ:Ρ}
theorem L0 (g:Zz P T) (d:Holds S B σ H) {a:TypeId} {i:Wi} (hi:T a=some i) {e:TypeId} (h:i.ZD=.slice e) (p q:Operand) (base:Option Addr) (len cap:Nat) {f:YX}
  (j:∀K,f.holds K->K (.z (.bool base.isNone)) σ):Y4 P (do eqGuard .eql a p q (.slice base len cap) (.slice none 0 0);binOp .eql a (.slice base len cap) (.slice none 0 0)) S B H σ f:=by
 intro K c;have c:=j K c;refine Ω.bind' ?_;unfold eqGuard;refine Ω.pure' ?_;have k:binOp .eql a (.slice base len cap) (.slice none 0 0)=(do pure (Value.bool (<-Op.equal a (.slice base len cap) (.slice none 0 0)))):=rfl;rw[k];refine Ω.bind' ?_;unfold Op.equal;unfold Op.equalIn;refine Ω.bind' (g.ZD hi ?_);rw[h];cases base with
 | none=>exact Ω.pure' (Ω.pure' (.same d c (.z _)))
 | some b=>exact Ω.pure' (Ω.pure' (.same d c (.z _)))
theorem HJ {K:I->Ρ->Prop} (h:(JO σ).holds K) (b:Bool):K (.z (.bool b)) σ:=by
 cases b
 .exact h 0 Z0
 .exact h 1 Z0
theorem zo (d:Zz P T) (f:Holds S B σ H) (m:TypeId) (p q:Operand) {a:I} {v:Value} (s:ς S B σ a v):Y4 P (do eqGuard .eql m p q v (.slice none 0 0);binOp .eql m v (.slice none 0 0)) S B H σ (JN T m σ a):=by
 unfold JN;split
 .rename_i i hi;split
  .rename_i e g;split
   .rename_i id n j len;split
    .rename_i t k l x;split
     .rename_i y;cases s with
      | @ms _ _ _ _ _ _ _ bo base cap h r C D E u=>
       split
       .exact L0 d f hi g p q base len cap λK c=>HJ c _
       .rename_i F;refine L0 d f hi g p q base len cap λK c=>?_;rcases u with u|⟨b,N,_,A,_⟩
        .omega
        .rw[A];exact c
      | Vx v h r=>
       rw[x] at h;cases h;exact absurd y.1 (Nat.ne_of_gt r)
     .exact .bad
    .exact .bad
   .rename_i l;cases s with
    | Wj base cap h=>exact L0 d f hi g p q base 0 cap λK c=>HJ c _
    | sl b o cap w h r=>
     split
     .exact L0 d f hi g p q _ _ cap λK c=>HJ c _
     .exact L0 d f hi g p q _ _ cap λK c=>c
   .exact .bad
  .exact .bad
 .exact .bad
end
def Zc.or (r:Zc) (σ:Ρ) (s:YX):YX:=match r with
 | .ok a=>.ok a σ
 | .Y9 p r=>.Y9 p (r.YC σ)
 | .bad=>s
def RB (A:List Nat) (d:Option Tmp):Bool:=match d with|some d=>A.contains d|none=>false
def Qf (env:Δ) (a:Array (Nat×Operand)):List (Nat×I):=a.toList.map λp=>(p.1,η env p.2)
def Nq (c a b:I):Zc:=match c with
 | .z (.bool v)=>match a,b with
  | .z (.bool x),.z (.bool y)=>.ok (.z (.bool (bif v then x else y)))
  | _,_=>match v with|true=>.ok a|false=>.ok b
 | _=>.bad
def Qe (T:ZR) (σ:Ρ) (src dst:TypeId) (x:I):Zc:=match Ns T src dst x with
 | .bad=>match JP T src dst x with
  | .bad=>Pp T src dst σ x
  | r=>r
 | r=>r
def VN (T:ZR) (A:List Nat) (env:Δ) (o:Oper):Zc:=
 match o.op with
 | .move x=>.ok (η env x)
 | .assign x=>.ok (η env x)
 | .pick c a b=>Nq (η env c) (η env a) (η env b)
 | .alloc e=>if RB A o.dst then .bad else Kf T e
 | .box _ x=>if RB A o.dst then .bad else Nw (η env x)
 | .build e g=>TZ T (I.YG []) e (Qf env g)
 | .buildSlice e n g=>if RB A o.dst then .bad else L8 T (I.YG []) e n (Qf env g)
 | .load e x=>Kq T e (η env x)
 | .binOp h e x y _=>JU T h e (η env x) (η env y)
 | .unOp h _ x=>NA h (η env x)
 | .convert s d x=>Qe T [] s d (η env x)
 | .index e x i=>JS T e (η env x) (η env i)
 | .nilCheck x=>JR (η env x)
 | .sliceToArrayPointer e x=>JQ T e (η env x)
 | .makeInterface e x=>Kr T e (η env x)
 | .makeFunc f j cs=>.ok (.fn f (j.toList.map (η env)) (cs.toList.map (η env)))
 | .makeSlice e n c=>if RB A o.dst then .bad else Kc T e (η env n) (η env c)
 | .slice e x lo hi none=>J7 T e (η env x) (lo.map (η env)) (hi.map (η env))
 | .fieldAddr e x f=>Ko T e f (η env x)
 | .indexAddr e x i=>Km T e (η env x) (η env i)
 | .typeAssert x _ e k=>Ow T e k (η env x)
 | .extract x i=>Ks i (η env x)
 | .call ⟨.builtin b,⟨[x]⟩,⟨[e]⟩⟩=>match b with
  | .len=>J5 T e (η env x)
  | _=>.bad
 | .call ⟨.builtin b,⟨[x,y]⟩,⟨[l,e]⟩⟩=>match b with
  | .max=>J3 [η env x,η env y]
  | .append=>if RB A o.dst then .bad else Qh T l e (I.YG []) [] (η env x) (η env y)
  | _=>.bad
 | _=>.bad
def Wt (T:ZR) (A:List Nat) (env:Δ) (σ:Ρ) (o:Oper):YX:=
 match o.op with
 | .alloc a=>if RB A o.dst then Kg T a σ else .bad
 | .box a x=>if RB A o.dst then Nv a σ (η env x) else Kh σ (η env x)
 | .build a e=>(TZ T (I.YG σ) a (Qf env e)).YC σ
 | .buildSlice a n e=>if RB A o.dst then Ke T a n (Qf env e) σ else(L8 T (I.YG σ) a n (Qf env e)).YC σ
 | .load a x=>SP T a σ (η env x)
 | .store a p x=>Kk T a σ (η env p) (η env x)
 | .convert s d x=>(Qe T σ s d (η env x)).YC σ
 | .nilCheck x=>On σ (η env x)
 | .binOp .eql a x (.const (.slice none 0 0)) _=>JN T a σ (η env x)
 | .makeMap _ none=>HM σ
 | .mapUpdate a m k x=>L3 T a σ (η env m) (η env k) (η env x)
 | .insert a m k x=>L3 T a σ (η env m) (η env k) (η env x)
 | .lookup a x k j=>J0 T a j σ (η env x) (η env k)
 | .range a x=>JZ T a σ (η env x)
 | .next g false=>JY σ (η env g)
 | .entry g=>JX σ (η env g)
 | .makeSlice a n c=>if RB A o.dst then Kd T a (η env n) (η env c) σ else .bad
 | .slice a x lo hi none=>J6 T a σ (η env x) (lo.map (η env)) (hi.map (η env))
 | .fieldAddr a x f=>SO T a f σ (η env x)
 | .indexAddr a x i=>SN T a σ (η env x) (η env i)
 | .call ⟨.builtin b,⟨[x]⟩,⟨[a]⟩⟩=>match b with
  | .len=>J4 T a σ (η env x)
  | .clear=>JV T a σ (η env x)
  | _=>.bad
 | .call ⟨.builtin b,⟨[x,y]⟩,⟨[h,a]⟩⟩=>match b with
  | .append=>if RB A o.dst then J9 T h a σ (η env x) (η env y) else(Qh T h a (I.YG σ) σ (η env x) (η env y)).YC σ
  | _=>.bad
 | _=>.bad
section
variable {P:Program} {T:ZR} {A:List Nat} {S:ο} {B:Z8} {H:Ψ} {σ:Ρ} {env:Δ} {t:Array Value}
theorem Zc.zn {s:Sem Next} {r:Zc} {a:YX} (b:Does P s S B H σ (r.YC σ)) (c:Does P s S B H σ a):Does P s S B H σ (r.or σ a):=by
 cases r with
 | ok x=>exact b
 | Y9 p r=>exact b
 | bad=>exact c
theorem zm (e:Holds S B σ H) {c a b:I} {u v w:Value} (h:ς S B σ c u) (f:ς S B σ a v) (g:ς S B σ b w):Y4 P (do pure (if <-asBool u then v else w)) S B H σ ((Nq c a b).YC σ):=by
 unfold Nq;split
 .rename_i x;cases h;split
  .rename_i p q;cases f;cases g;intro K d;refine Ω.bind' (Ω.pure' (Ω.pure' ?_));cases x
   .exact .same e d (.z _)
   .exact .same e d (.z _)
  .cases x
   .exact λK d=>Ω.bind' (Ω.pure' (Ω.pure' (.same e d g)))
   .exact λK d=>Ω.bind' (Ω.pure' (Ω.pure' (.same e d f)))
 .exact .bad
theorem zl (g:YS S B σ env t) (f:Fn) (e cs:Array Operand):ς S B σ (.fn f (e.toList.map (η env)) (cs.toList.map (η env))) (.func f (e.map (ZM t)) (cs.map (ZM t))):=by
 refine .fn _ _ J J (λi a v b c=>?_) (λi a v b c=>?_)
 .rw[Yh] at b;rw[PE] at c;rw[Wl] at b;cases d:e[i]? with
  | none=>rw[d] at b;cases b
  | some x=>rw[d] at b c;cases b;cases c;exact Un g x
 .rw[Yh] at b;rw[PE] at c;rw[Wl] at b;cases d:cs[i]? with
  | none=>rw[d] at b;cases b
  | some x=>rw[d] at b c;cases b;cases c;exact Un g x
theorem JM (a:YS S B σ env t) (o:Option Operand):Ou S B σ (o.map (η env)) (o.map (ZM t)):=by
 cases o with
 | none=>trivial
 | some x=>exact Un a x
theorem EU {a:I} {r:Nat×ξ} (h:RE [] a=some r):RE σ a=some r:=by
 cases a<;>first|exact h|(simp[RE] at h)
theorem zk {st xt:TypeId} {s x:I}:Qh T st xt (I.YG []) [] s x=.bad\/Qh T st xt (I.YG []) [] s x=Qh T st xt (I.YG []) σ s x:=by
 unfold Qh;cases a:RE [] x with
 | none=>left;split<;>simp_all
 | some r=>rw[EU a];exact .inr rfl
theorem ET (a:Zz P T) (b:Holds S B σ H) (src dst:TypeId) {x:I} {v:Value} (c:ς S B σ x v):Y4 P (convert src dst v) S B H σ ((Qe T σ src dst x).YC σ):=by
 have d:=zT a b src dst c
 have e:=zr a b src dst c;unfold Qe;split
 .split
  .exact zp a b src dst c
  .exact e
 .exact d
theorem zj {src dst:TypeId} {x:I}:Pp T src dst [] x=.bad\/Pp T src dst [] x=Pp T src dst σ x:=by
 unfold Pp;split
 .cases a:RE [] x with
  | none=>exact .inl rfl
  | some r=>rw[EU a];exact .inr rfl
 .exact .inl rfl
theorem zi {src dst:TypeId} {x:I}:Qe T [] src dst x=.bad\/Qe T [] src dst x=Qe T σ src dst x:=by
 unfold Qe;split
 .split
  .exact zj
  .exact .inr rfl
 .exact .inr rfl
theorem zh (g:Zz P T) (f:Holds S B σ H) (j:YS S B σ env t) (o:Oper):Does P (execOp (ZM t) o) S B H σ ((VN T A env o).YC σ):=by
 have d:∀x,ς S B σ (η env x) (ZM t x):=λx=>Un j x;obtain⟨dst,n,p,pos,r,guard⟩:=o;unfold VN;simp only;split
 .exact Does.val f (d _)
 .exact Does.val f (d _)
 .rename_i c a b;have:=(zm (P:=P) f (d c) (d a) (d b)).next;unfold execOp;simp only;refine λK i=>?_;have k:=this K i;simpa using k
 .split
  .exact .bad
  .exact(z8 g f _).next
 .split
  .exact .bad
  .exact(Aa f _ (d _)).next
 .exact(E9 g f (λa h=>Kj h) _ j _).next
 .split
  .exact .bad
  .exact(E7 g f (λa h=>Kj h) _ _ j _).next
 .exact(Al g f (d _)).next
 .exact(zw g f _ _ _ _ (d _) (d _)).next
 .exact(Ap f _ (d _)).next
 .rename_i a b x;rcases zi (T:=T) (σ:=σ) (src:=a) (dst:=b) (x:=η env x) with h|h
  .rw[h];exact .bad
  .rw[h];exact(ET g f _ _ (d _)).next
 .exact(zv g f _ (d _) (d _)).next
 .exact zu f rfl (d _)
 .exact(zs g f _ (d _)).next
 .exact(An g f _ (d _)).next
 .exact Y4.next (Y4.pure f (zl j _ _ _))
 .split
  .exact .bad
  .exact(z4 g f (d _) (d _)).next
 .exact(zX g f _ (d _) (JM j _) (JM j _)).next
 .exact(Aj g f (d _)).next
 .exact(Af g f (d _) (d _)).next
 .exact(Am g f _ _ _ (d _)).next
 .exact(Ao f _ (d _)).next
 .split
  .exact λK i=>by
       refine Ω.bind' (Ω.pure' ?_);have e:∀x:Operand,Array.map (ZM t) {toList:=[x]}=#[ZM t x]:=λx=>J;simp only[invoke,builtin,e];exact(zV g f _ _ (d _)).next K i
  .exact .bad
 .split
  .exact λK i=>by
       refine Ω.bind' (Ω.pure' ?_);have e:∀x y:Operand,Array.map (ZM t) {toList:=[x,y]}=#[ZM t x,ZM t y]:=λx y=>J;simp only[invoke,builtin,e];exact(zS f _ _ (d _) (d _)).next K i
  .split
   .exact .bad
   .rename_i x y l m _ _;rcases zk (T:=T) (σ:=σ) (st:=l) (xt:=m) (s:=η env x) (x:=η env y) with h|h
    .rw[h];exact .bad
    .rw[h];exact λK i=>by
       refine Ω.bind' (Ω.pure' ?_);have e:∀x y:Operand,Array.map (ZM t) {toList:=[x,y]}=#[ZM t x,ZM t y]:=λx y=>J;simp only[invoke,builtin,e];exact(E4 g f (λa h=>Kj h) _ _ _ (d _) (d _)).next K i
  .exact .bad
 .exact .bad
theorem zg (d:Zz P T) (c:Holds S B σ H) (g:YS S B σ env t) (o:Oper):Does P (execOp (ZM t) o) S B H σ (Wt T A env σ o):=by
 have b:∀x,ς S B σ (η env x) (ZM t x):=λx=>Un g x;obtain⟨dst,i,j,pos,k,guard⟩:=o;unfold Wt;simp only;split
 .split
  .exact(z9 d c _).next
  .exact .bad
 .split
  .exact(z' c _ (b _)).next
  .exact(Ab c _ (b _)).next
 .exact(E9 d c (λa h=>h) _ g _).next
 .split
  .exact(z6 d c _ _ g _).next
  .exact(E7 d c (λa h=>h) _ _ g _).next
 .exact(Ak d c (b _)).next
 .exact(Ac d c (b _) (b _)).next
 .exact(ET d c _ _ (b _)).next
 .exact zt c rfl (b _)
 .exact(zo d c _ _ _ (b _)).next
 .exact(zI c _).next
 .exact(EY d c (b _) (b _) (b _)).next
 .exact(EY d c (b _) (b _) (b _)).next
 .exact(zH d c (b _) (b _)).next
 .exact(zG d c (b _)).next
 .exact(zC c _ (b _)).next
 .exact(zB c (b _)).next
 .split
  .exact(z5 d c (b _) (b _)).next
  .exact .bad
 .exact(zW d c _ (b _) (JM g _) (JM g _)).next
 .exact(Ai d c (b _)).next
 .exact(Ae d c (b _) (b _)).next
 .split
  .exact λK f=>by
       refine Ω.bind' (Ω.pure' ?_);have e:∀x:Operand,Array.map (ZM t) {toList:=[x]}=#[ZM t x]:=λx=>J;simp only[invoke,builtin,e];exact(zU d c _ _ (b _)).next K f
  .exact λK f=>by
       refine Ω.bind' (Ω.pure' ?_);have e:∀x:Operand,Array.map (ZM t) {toList:=[x]}=#[ZM t x]:=λx=>J;simp only[invoke,builtin,e];exact(zy d c _ (b _)).next K f
  .exact .bad
 .split
  .split
   .exact λK f=>by
       refine Ω.bind' (Ω.pure' ?_);have e:∀x y:Operand,Array.map (ZM t) {toList:=[x,y]}=#[ZM t x,ZM t y]:=λx y=>J;simp only[invoke,builtin,e];exact(zZ d c _ _ _ (b _) (b _)).next K f
   .exact λK f=>by
       refine Ω.bind' (Ω.pure' ?_);have e:∀x y:Operand,Array.map (ZM t) {toList:=[x,y]}=#[ZM t x,ZM t y]:=λx y=>J;simp only[invoke,builtin,e];exact(E4 d c (λa h=>h) _ _ _ (b _) (b _)).next K f
  .exact .bad
 .exact .bad
end
inductive ψ (h:Nat):I->Prop where
 | z (v:Value):ψ h (.z v)
 | ω {l:ξ}:(∀a∈l,ψ h a)->ψ h (.ω l)
 | sl {ex:Bool} {k:Nat} {l:ξ}:(∀e∈l,∀a∈e.cells,ψ h a)->ψ h (.sl ex k l)
 | Z' {l:ξ}:(∀a∈l,ψ h a)->ψ h (.Z' l)
 | ZV {l:ξ}:(∀a∈l,ψ h a)->ψ h (.ZV l)
 | Ο {id n i j:Nat}:id<h->ψ h (.Ο id n i j)
 | ms {id n i len:Nat}:id<h->ψ h (.ms id n i len)
 | fn {f:Fn} {b cs:ξ}:(∀a∈b,ψ h a)->(∀a∈cs,ψ h a)->ψ h (.fn f b cs)
 | Xo {t:TypeId} {a:I}:ψ h a->ψ h (.Xo t a)
 | mp {id:Nat}:id<h->ψ h (.mp id)
 | it {id:Nat}:id<h->ψ h (.it id)
 | Zk:ψ h .Zk
def Yc (h:Nat):Row->Prop
 | .cells _ _ l=>∀e∈l,∀a∈e.cells,ψ h a
 | .map es=>∀e∈es,ψ h e.1/\ψ h e.2
 | .iter m left b=>m<h/\(∀e∈left,ψ h e.1/\ψ h e.2)/\∀e,b=some e->ψ h e.1/\ψ h e.2
 | .dead=>True
inductive Yz (h:Nat) (σ:Ρ):I->I->Prop where
 | low {a:I}:ψ h a->Yz h σ a a
 | Zk (a:I):Yz h σ a .Zk
 | ms {id n i len k:Nat} {t:TypeId} {l c:ξ}:h<=id->σ[id]?=some (.cells t k l)->l.length=n->i+len<=n->c.length=len->
   (∀(j:Nat) (e d:I),l[i+j]?=some e->c[j]?=some d->d.cells.length=e.cells.length)->(∀(j:Nat) (e d:I),l[i+j]?=some e->c[j]?=some d->∀(x:Nat) (a b:I),e.cells[x]?=some a->d.cells[x]?=some b->Yz h σ a b)->Yz h σ (.ms id n i len) (.sl false k c)
 | Ο {id n i j k:Nat} {t:TypeId} {l cs:ξ} {e:I}:h<=id->σ[id]?=some (.cells t k l)->l.length=n->l[i]?=some e->cs.length<=e.cells.length-j->
   (∀(x:Nat) (a b:I),e.cells[j+x]?=some a->cs[x]?=some b->Yz h σ a b)->Yz h σ (.Ο id n i j) (.ω cs)
 | Z' {l c:ξ}:c.length=l.length->(∀(x:Nat) (a b:I),l[x]?=some a->c[x]?=some b->Yz h σ a b)->Yz h σ (.Z' l) (.Z' c)
 | ZV {l c:ξ}:c.length=l.length->(∀(x:Nat) (a b:I),l[x]?=some a->c[x]?=some b->Yz h σ a b)->Yz h σ (.ZV l) (.ZV c)
 | fn {f:Fn} {g m cs cs':ξ}:m.length=g.length->cs'.length=cs.length->(∀(x:Nat) (a b:I),g[x]?=some a->m[x]?=some b->Yz h σ a b)->(∀(x:Nat) (a b:I),cs[x]?=some a->cs'[x]?=some b->Yz h σ a b)->Yz h σ (.fn f g cs) (.fn f m cs')
section
variable {S:ο} {B:Z8} {H:Ψ} {σ:Ρ} {h:Nat}
def Late (B:Z8) (σ:Ρ) (h b:Nat):Prop:=∃id t k l N,h<=id/\σ[id]?=some (Row.cells t k l)/\B[id]?=some (some (b,N))
open Classical in
noncomputable def ο.close (S:ο) (B:Z8) (σ:Ρ) (H:Ψ) (h:Nat):ο:=λb o=>if Late B σ h b then(H.κ b o).map (·.1) else S b o
theorem JL (a:Holds S B σ H):∀b o v,S b o=some v->S.close B σ H h b o=some v:=λb o v hv=>by
 unfold ο.close;split
 .rename_i c;obtain⟨id,t,k,l,N,f,d,e⟩:=c;have:=a.sep id _ b N d trivial e o;rw[hv] at this;cases this
 .exact hv
theorem ς.QZ (s:Holds S B σ H) {a:I} {v:Value} (t:ς S B σ a v) (d:ψ h a):ς (S.close B σ H h) (B.take h) (σ.take h) a v:=by
 have k:∀{u:Type} (l:List u) (i:Nat),i<h->(l.take h)[i]?=l[i]?:=λl i hi=>Tq hi
 induction t with
 | z v=>exact .z v
 | ω b o w f _ m=>
  cases d with
  | ω d=>exact .ω b o w (λj a n=>JL s _ _ _ (f j a n)) λj a n=>m j a n (d a (Zf n))
 | Wj base cap h=>exact .Wj base cap h
 | sl b o cap w f g p r _ m=>
  cases d with
  | sl d=>exact .sl b o cap w f g p (λi e hi j c n=>JL s _ _ _ (r i e hi j c n)) λi e hi j c n=>m i e hi j c n (d e (Zf hi) c (Zf n))
 | Z' vs f _ m=>
  cases d with
  | Z' d=>exact .Z' vs f λi a v hi hv=>m i a v hi hv (d a (Zf hi))
 | ZV vs f _ m=>
  cases d with
  | ZV d=>exact .ZV vs f λi a v hi hv=>m i a v hi hv (d a (Zf hi))
 | Ο f g p=>
  cases d with
  | Ο d=>exact .Ο (by rw[k _ _ d];exact f) g (by rw[k _ _ d];exact p)
 | Vi v f g=>
  cases d with
  | Ο d=>exact .Vi v (by rw[k _ _ d];exact f) g
 | ms cap f g p r x y=>
  cases d with
  | ms d=>exact .ms cap (by rw[k _ _ d];exact f) g (by rw[k _ _ d];exact p) r x y
 | Vx v f g=>
  cases d with
  | ms d=>exact .Vx v (by rw[k _ _ d];exact f) g
 | fn vs A f g _ _ C D=>
  cases d with
  | fn E F=>exact .fn vs A f g (λi a v hi hv=>C i a v hi hv (E a (Zf hi))) λi a v hi hv=>D i a v hi hv (F a (Zf hi))
 | Xo v _ m=>
  cases d with
  | Xo d=>exact .Xo v (m d)
 | mp f g=>
  cases d with
  | mp d=>exact .mp (by rw[k _ _ d];exact f) (by rw[k _ _ d];exact g)
 | Uo v f=>
  cases d with
  | mp d=>exact .Uo v (by rw[k _ _ d];exact f)
 | it f g=>
  cases d with
  | it d=>exact .it (by rw[k _ _ d];exact f) (by rw[k _ _ d];exact g)
 | Td v f=>
  cases d with
  | it d=>exact .Td v (by rw[k _ _ d];exact f)
 | Zk v=>exact .Zk v
theorem ES {id b N:Nat} {t:TypeId} {k:Nat} {l:ξ} (a:h<=id) (c:σ[id]?=some (.cells t k l)) (d:B[id]?=some (some (b,N))) {o:Nat} {v:Value} {p:Bool} (hv:H.κ b o=some (v,p)):S.close B σ H h b o=some v:=by
 unfold ο.close;rw[if_pos ⟨id,t,k,l,N,a,c,d⟩,hv];rfl
theorem ς.zf (M:Holds S B σ H) {a c:I} (X:Yz h σ a c):∀{v:Value},ς S B σ a v->ς (S.close B σ H h) (B.take h) (σ.take h) c v:=by
 induction X with
 | low Y=>intro v o;exact o.QZ M Y
 | Zk a=>intro v _;exact .Zk v
 | @ms id n i len k t l O m g Z P E T _ A=>
  intro v o;cases o with
  | ms cap d p C V ae Q=>
   rw[g] at d;cases d;by_cases W:O=[]
   .subst W;have:len=0:=by rw[<-E];rfl
    subst this;exact .Wj _ _ J
   .have af:0<len:=by rw[<-E];exact RR.2 W
    rcases Q with Q|⟨b,N,rfl,rfl,Q⟩
    .omega
    .obtain⟨_,_,_,w,D⟩:=M.row id _ _ g C;have el:∀(j:Nat) (r:I),O[j]?=some r->∃e,l[i+j]?=some e/\e.cells.length=k/\r.cells.length=k:=λj r u=>by
      have y:j<len:=by rw[<-E];exact(Zu.1 u).1
      have F:l[i+j]?=some l[i+j]:=ε U;exact⟨_,F,(D _ _ F).1,(T j _ r F u).trans (D _ _ F).1⟩
     have:=ς.sl (S:=S.close B σ H h) (B:=B.take h) (σ:=σ.take h) (ex:=false) (k:=k) (l:=O) b (i*k) cap (λj x=>w (i+j) x) J U (λj r u=>(el j r u).choose_spec.2.2)
      (λj r u x c s=>by
       obtain⟨e,K,Φ,R⟩:=el j r u;have L:x<e.cells.length:=by rw[Φ,<-R];exact(Zu.1 s).1
       have:=((D _ e K).2 x _ (ε L)).1;rw[WT] at this;exact ES m g C this)
      (λj r u x c s=>by
       obtain⟨e,K,Φ,R⟩:=el j r u;have L:x<e.cells.length:=by rw[Φ,<-R];exact(Zu.1 s).1
       exact A j e r K u x _ c (ε L) s ((D _ e K).2 x _ (ε L)).2.1)
     rw[E] at this;exact this
  | Vx v d p=>rw[g] at d;cases d;simp only[Row.WQ] at p;omega
 | @Ο id n i j k t l cs e m g Z P E T A=>
  intro v o;cases o with
  | Ο d p C=>
   rw[g] at d;cases d;obtain⟨_,_,_,w,D⟩:=M.row id _ _ g C;have el:∀(x:Nat) (c:I),cs[x]?=some c->∃a,e.cells[j+x]?=some a:=λx c s=>by
    have:=(Zu.1 s).1;exact⟨_,ε U⟩
   refine .ω _ _ (λx=>w i (j+x)) (λx c s=>?_) (λx c s=>?_)
   .obtain⟨a,f⟩:=el x c s;have:=((D i e P).2 _ a f).1;rw[<-SZ] at this;exact ES m g C this
   .obtain⟨a,f⟩:=el x c s;exact A x a c f s ((D i e P).2 _ a f).2.1
  | Vi v d p=>rw[g] at d;cases d;simp only[Row.WQ] at p;omega
 | Z' m g A=>
  intro v o;cases o with
  | Z' vs d p=>
   refine .Z' vs (by rw[m,d]) λi c w hi hv=>?_;have y:=(Zu.1 hi).1;have f:=ε (m▸y);exact A i _ c f hi (p i _ w f hv)
 | ZV m g A=>
  intro v o;cases o with
  | ZV vs d p=>
   refine .ZV vs (by rw[m,d]) λi c w hi hv=>?_;have y:=(Zu.1 hi).1;have f:=ε (m▸y);exact A i _ c f hi (p i _ w f hv)
 | fn m g _ _ aa ab=>
  intro v o;cases o with
  | fn vs ad d p C V=>
   refine .fn vs ad (by rw[m,d]) (by rw[g,p]) (λi c w hi hv=>?_) (λi c w hi hv=>?_)
   .have y:=(Zu.1 hi).1
    have f:=ε (m▸y);exact aa i _ c f hi (C i _ w f hv)
   .have y:=(Zu.1 hi).1
    have f:=ε (g▸y);exact ab i _ c f hi (V i _ w f hv)
theorem Vh.QZ (f:Holds S B σ H) {r:Row} {bo:Option (Nat×Nat)} (v:Vh S B σ H r bo) (A:Yc h r):Vh (S.close B σ H h) (B.take h) (σ.take h) H r bo:=by
 have F:∀{M:Type} (l:List M) (i:Nat),i<h->(l.take h)[i]?=l[i]?:=λl i hi=>Tq hi;cases r with
 | cells t k l=>
  cases bo with
  | none=>exact v
  | some x=>
   obtain⟨b,N⟩:=x;obtain⟨n,o,p,w,g⟩:=v;refine⟨n,o,p,w,λi e hi=>⟨(g i e hi).1,λj a I=>?_⟩⟩;obtain⟨s,u,C⟩:=(g i e hi).2 j a I;exact⟨s,u.QZ f (A e (Zf hi) a (Zf I)),C⟩
 | map es=>
  obtain⟨b,N,xs,D,rfl,n,o,p,g⟩:=v;exact⟨b,N,xs,D,rfl,n,o,λi e y a b=>by
   obtain⟨s,u,C⟩:=p i e y a b;exact⟨s.QZ f (A e (Zf a)).1,u.QZ f (A e (Zf a)).2,C⟩,g⟩
 | iter m left X=>
  obtain⟨J,K,L⟩:=A;obtain⟨b,N,O,P,xs,D,seen,rfl,n,o,p,g,⟨Q,R,T,U⟩,V,W⟩:=v;refine⟨b,N,O,P,xs,D,seen,rfl,by rw[F _ _ J];exact n,by rw[F _ _ J];exact o,p,g,⟨Q,R,T,λi e y a b=>?_⟩,V,λe E=>?_⟩
  .obtain⟨s,u⟩:=U i e y a b;exact⟨s.QZ f (K e (Zf a)).1,u.QZ f (K e (Zf a)).2⟩
  .obtain⟨st,y,a,b,c,d⟩:=W e E;exact⟨st,y,a,b,c.QZ f (L e E).1,d.QZ f (L e E).2⟩
 | dead=>trivial
theorem Holds.close (a:Holds S B σ H) (u:∀(id:Nat) (r:Row),id<h->σ[id]?=some r->Yc h r) :
  Holds (S.close B σ H h) (B.take h) (σ.take h) H/\Ext S B H (S.close B σ H h) (B.take h) H:=by
 have c:∀{n:Type} (l:List n) (i:Nat) (x:n),(l.take h)[i]?=some x->i<h/\l[i]?=some x:=λl i x hi=>by
  rw[OS] at hi;split at hi
  .exact⟨‹_›,hi⟩
  .cases hi
 refine⟨⟨λb o v hv=>?_,by simp[a.len],λid r bo g m=>?_,λi j w y b A C D hi E F I J K=>?_,λid r b N g f m o=>?_⟩,⟨JL a,λb _ _=>Tc.of ⟨λ_=>rfl,rfl,rfl⟩,λb ⟨N,L⟩=>.inl ⟨N,K1 L⟩,λb o v hv=>?_,λ_ h=>h⟩⟩
 .unfold ο.close at hv;split at hv
  .cases p:H.κ b o with
   | none=>rw[p] at hv;cases hv
   | some x=>rw[p] at hv;cases hv;exact⟨x.2,rfl⟩
  .exact a.YL b o v hv
 .obtain⟨s,e⟩:=c _ _ _ g;obtain⟨_,d⟩:=c _ _ _ m;exact(a.row id r bo e d).QZ a (u id r s e)
 .exact a.inj i j w y b A C D (c _ _ _ hi).2 (c _ _ _ E).2 F I (c _ _ _ J).2 (c _ _ _ K).2
 .obtain⟨s,e⟩:=c _ _ _ g;obtain⟨_,d⟩:=c _ _ _ m;unfold ο.close;rw[if_neg]
  .exact a.sep id r b N e f d o
  .rintro⟨M,t,k,l,O,R,P,Q⟩;exact a.inj id M r _ b N O U e P f trivial d Q
 .unfold ο.close at hv;split at hv
  .rename_i f;obtain⟨id,t,k,l,N,_,_,d⟩:=f;exact .inr (.inl (Se d))
  .exact .inl hv
theorem Zw.close {a:ο} {c:Z8} {σ0:Ρ} (g:Holds S B σ H) (d:Zw a S c B σ0 σ) (i:σ0.length<=h):Zw a (S.close B σ H h) c (B.take h) σ0 (σ.take h):=
 ⟨λb o v hv=>JL g b o v (d.YL b o v hv),λid r e=>by
  have f:id<h:=KY (Zu.1 e).1 i;obtain⟨r',j,k⟩:=d.rows id r e;exact⟨r',by rw[Tq f];exact j,by rw[Tq f];exact k⟩⟩
end
end Go.TL
namespace Go.TL
open Go.Conc
variable [ZN]
structure X5 (m:Nat) (S:ο) (B:Z8) (H:Ψ) (σ:Ρ) (a:ο) (B':Z8) (H':Ψ) (σ':Ρ):Prop where
 ext:Ext S B H a B' H'
 later:Zw S a (B.take m) B' (σ.take m) σ'
structure XA (m nt:Nat) (S:ο) (B:Z8) (H:Ψ) (σ:Ρ) (env:Δ) (t:Array Value):Prop where
 holds:Holds S B σ H
 Zn:YS S B σ env t
 size:t.size=nt
 rows:m<=σ.length
section
variable {m:Nat} {S YA ER:ο} {B B' EP:Z8} {H H' EO:Ψ} {σ σ' EN:Ρ}
theorem Zw.left (h:Zw S YA B B' σ σ') (m:Nat):Zw S YA (B.take m) B' (σ.take m) σ':=
 ⟨h.YL,λid r a=>by
  rw[OS] at a;split at a
  .rename_i b;rw[Tq b];exact h.rows id r a
  .cases a⟩
theorem Zw.right (h:Zw S YA B B' σ σ') (c:σ.length<=m):Zw S YA B (B'.take m) σ (σ'.take m):=
 ⟨h.YL,λid r a=>by
  have b:id<m:=KY (Zu.1 a).1 c;rw[Tq b,Tq b];exact h.rows id r a⟩
theorem X5.of (h:Ext S B H YA B' H') (k:Zw S YA B B' σ σ'):X5 m S B H σ YA B' H' σ':=⟨h,k.left m⟩
theorem X5.refl:X5 m S B H σ S B H σ:=.of (.refl _ _ _) (.refl _ _ _)
theorem X5.trans (h:X5 m S B H σ YA B' H' σ') (k:X5 m YA B' H' σ' ER EP EO EN):X5 m S B H σ ER EP EO EN:=
 ⟨h.ext.trans k.ext,(h.later.right (m:=m) (by simp;omega)).trans k.later⟩
theorem Zw.length (h:Zw S YA B B' σ σ'):σ.length<=σ'.length:=by
 apply Ts;intro c;have a:σ'.length<σ.length:=U;obtain⟨r',b,_⟩:=h.rows σ'.length _ (ε a);simp at b
end
def Leaves (j:List Item) (k:List Item):Prop:=k=j
def W (P:Program) (m nt:Nat) (k:List Item) (env:Δ) (σ:Ρ) (Z:XZ) (E:Yf):Prop:=
 ∀(e:Value->Prop) (mn:Bool) (x:W6) (cs:List Frame) (b:Frame) (S:ο) (B:Z8) (H:Ψ) (t:Array Value),Seq x->b.mode=.run->XA m nt S B H σ env t->
  (∀(j:List Item) (env':Δ) (σ':Ρ) (c:ο) (B':Z8) (H':Ψ) (t':Array Value) (d:List Item),Z j env' σ'->X5 m S B H σ c B' H' σ'->XA m nt c B' H' σ' env' t'->Leaves j d->ν P e mn x (π b t' d) cs H')->
  (∀(a:I) (env':Δ) (σ':Ρ) (c:ο) (B':Z8) (H':Ψ) (t':Array Value) (d:List Item) (v:Value),E a env' σ'->X5 m S B H σ c B' H' σ'->Holds c B' σ' H'->YS c B' σ' env' t'->ς c B' σ' a v->ν P e mn x {π b t' d with mode:=.panicking [{v,recovered:=false}]} cs H')->
  ν P e mn x (π b t k) cs H
section
variable {P:Program} {m nt:Nat} {k:List Item} {env:Δ} {σ:Ρ} {Z:XZ} {E:Yf}
theorem W.stop (h:Z k env σ):W P m nt k env σ Z E:=λ_ _ _ _ _ S B H t _ _ a b _=>b k env σ S B H t k h .refl a rfl
theorem W.nil (h:Z [] env σ):W P m nt [] env σ Z E:=.stop h
theorem W.ret (h:Z (.code .ret::k) env σ):W P m nt (.code .ret::k) env σ Z E:=.stop h
theorem W.skip (h:W P m nt k env σ Z E):W P m nt (.code .skip::k) env σ Z E:=λd mn x cs b S B H t a c e f g=>.skip a c (h d mn x cs b S B H t a c e f g)
theorem W.label {l:Nat} (h:W P m nt k env σ Z E):W P m nt (.code (.label l)::k) env σ Z E:=λd mn x cs b S B H t a c e f g=>.label a c (h d mn x cs b S B H t a c e f g)
theorem W.inBlock {l:Nat} (h:W P m nt k env σ Z E):W P m nt (.inBlock l::k) env σ Z E:=λd mn x cs b S B H t a c e f g=>.inBlock a c (h d mn x cs b S B H t a c e f g)
theorem W.seq {a c:Code} (h:W P m nt (.code a::.code c::k) env σ Z E):W P m nt (.code (.seq a c)::k) env σ Z E:=λf mn x cs b S B H t d e g i j=>.seq d e (h f mn x cs b S B H t d e g i j)
theorem W.block {l:Nat} {c:Code} (h:W P m nt (.code c::.inBlock l::k) env σ Z E):W P m nt (.code (.block l c)::k) env σ Z E:=λe mn x cs b S B H t a d f g i=>.block a d (h e mn x cs b S B H t a d f g i)
theorem W.inLoop {c:Code} (h:W P m nt (.code c::.inLoop c::k) env σ Z E):W P m nt (.inLoop c::k) env σ Z E:=λe mn x cs b S B H t a d f g i=>.inLoop a d (h e mn x cs b S B H t a d f g i)
theorem W.loop {c:Code} (h:W P m nt (.code c::.inLoop c::k) env σ Z E):W P m nt (.code (.loop c)::k) env σ Z E:=λe mn x cs b S B H t a d f g i=>.loop a d (h e mn x cs b S B H t a d f g i)
theorem W.scope {c:Code} (h:W P m nt (.code c::.inScope c::k) env σ Z E):W P m nt (.code (.scope c)::k) env σ Z E:=λe mn x cs b S B H t a d f g i=>.scope a d (h e mn x cs b S B H t a d f g i)
theorem W.exit {id:Nat} {a:List Item} (e:exitTo id k=some a) (h:W P m nt a env σ Z E):W P m nt (.code (.exit id)::k) env σ Z E:=λf mn x cs b S B H t c d g i j=>.exit c d e (h f mn x cs b S B H t c d g i j)
theorem W.cond {c:Operand} {a e:Code} {v:Bool} (i:η env c=.z (.bool v)) (h:W P m nt (.code (if v then a else e)::k) env σ Z E):W P m nt (.code (.cond c a e)::k) env σ Z E:=λj mn x cs b S B H t d f g l n=>by
 refine .cond (v:=v) d f ?_ (h j mn x cs b S B H t d f g l n);have:=Un g.Zn c;rw[i] at this;rw[Mf];generalize ZM t c=u at this;cases this;rfl
theorem W.cut (h:Nat) (aa:m<=h) (env':Δ) (ab:h<=σ.length) (F:∀(id:Nat) (r:Row),id<h->σ[id]?=some r->Yc h r) (I:∀p∈env',Yz h σ (Z7 env p.1) p.2) (K:W P m nt k env' (σ.take h) Z E):W P m nt k env σ Z E:=
 λL mn x cs b S B H t M N c O Q=>by
 obtain⟨R,T⟩:=c.holds.close F;have d:Zw S (S.close B σ H h) (B.take m) (B.take h) (σ.take m) (σ.take h):=by
  have:=Zw.close (h:=h) c.holds ((Zw.refl S B σ).left m) (by simp;omega);exact this
 have D:X5 m S B H σ (S.close B σ H h) (B.take h) H (σ.take h):=⟨T,d⟩
 have U:∀(l:Δ),(∀p∈l,Yz h σ (Z7 env p.1) p.2)->∀i,Yz h σ (Z7 env i) (Z7 l i):=by
  intro l
  induction l with
  | nil=>intro _ i;exact .Zk _
  | cons p l V=>
   intro d i;simp only[Z7];split
   .rename_i e;rw[<-e];exact d p J
   .exact V (λq X=>d q (by simp[X])) i
 refine K L mn x cs b _ _ H t M N ⟨R,λi=>(c.Zn i).zf c.holds (U env' I i),c.size,by simp;omega⟩ (λj f g n o s t2 u w y A C=>?_) (λa f g n o s t2 u v w y A C Y=>?_)
 .exact O j f g n o s t2 u w (D.trans y) A C
 .exact Q a f g n o s t2 u v w (D.trans y) A C Y
end
def XT (S:ο) (B:Z8) (σ:Ρ) (as9:ξ) (vs:Array Value):Prop:=as9.length=vs.size/\∀(i:Nat) (a:I) (v:Value),as9[i]?=some a->vs[i]?=some v->ς S B σ a v
structure Po (P:Program) (d:Value->Prop) (mn:Bool) (x:W6) (c:Frame) (rest:List Frame) (S:ο) (B:Z8) (H:Ψ) (σ:Ρ) (K:I->Ρ->Prop) (E:I->Ρ->Prop):Prop where
 ret:∀(a:I) (σ':Ρ) (b:ο) (B':Z8) (H':Ψ) (v:Value),K a σ'->Ext S B H b B' H'->Zw S b B B' σ σ'->Holds b B' σ' H'->ς b B' σ' a v->ν P d mn x (c.finish v) rest H'
 Np:∀(a:I) (σ':Ρ) (b:ο) (B':Z8) (H':Ψ) (v:Value),E a σ'->Ext S B H b B' H'->Zw S b B B' σ σ'->Holds b B' σ' H'->ς b B' σ' a v->ν P d mn x (c.raise [{v,recovered:=false}]) rest H'
def EM (P:Program) (a:Value->Prop) (mn:Bool) (x:W6) (c:Frame) (rest:List Frame):Next->Ψ->Prop
 | .enter g as9,H=>ν P a mn x (Frame.enter P g as9 .normal) (c::rest) H
 | .round l f b d e,H=>ν P a mn x (Frame.round l f b d e .normal) (c::rest) H
 | .value v,H=>ν P a mn x (c.finish v) rest H
 | _,_=>False
def W5 (P:Program) (f:I) (args:ξ) (σ:Ρ) (K:I->Ρ->Prop) (E:I->Ρ->Prop):Prop:=
 ∀(a:Value->Prop) (mn:Bool) (x:W6) (c:Frame) (rest:List Frame) (S:ο) (B:Z8) (H:Ψ) (b:Value) (vs:Array Value),Seq x->Holds S B σ H->ς S B σ f b->XT S B σ args vs->Po P a mn x c rest S B H σ K E->
  Ω P (do let d <-Deferred.ofValue b vs;invoke d.target d.args) H (EM P a mn x c rest) (λ_ _=>False)
def Plain (P:Program) (g:FuncId):Prop:=∃fn,P.funcs[g]?=some fn/\(fn.name == "runtime.NumGoroutine")=false/\fn.body.isNone=false
def Μ (P:Program) (g:FuncId) (args:ξ) (σ:Ρ) (K:I->Ρ->Prop) (E:I->Ρ->Prop):Prop:=
 Plain P g/\∀(a:Value->Prop) (mn:Bool) (x:W6) (c:Frame) (rest:List Frame) (S:ο) (B:Z8) (H:Ψ) (vs:Array Value),Seq x->Holds S B σ H->XT S B σ args vs->Po P a mn x c rest S B H σ K E->
  ν P a mn x (Frame.enter P g vs .normal) (c::rest) H
section
variable {P:Program} {T:ZR} {A:List Nat} {m nt:Nat} {k:List Item} {env:Δ} {σ:Ρ} {Z:XZ} {E:I->Ρ->Prop} {K:I->Ρ->Prop} {F:Yf}
theorem XT.append {S:ο} {B:Z8} {as9 d:ξ} {vs e:Array Value} (h:XT S B σ as9 vs) (k:XT S B σ d e):XT S B σ (as9++d) (vs++e):=by
 refine⟨by simp[h.1,k.1],λi a v b c=>?_⟩;by_cases f:i<as9.length
 .rw[Y0 f] at b;rw[NY (by rw[<-h.1];exact f)] at c;exact h.2 i a v b c
 .rw[Xw U] at b;rw[K7 (by rw[<-h.1];omega),<-h.1] at c;exact k.2 _ a v b c
theorem Μ.mono {g:FuncId} {args:ξ} {K':I->Ρ->Prop} {E':I->Ρ->Prop} (h:Μ P g args σ K E) (f:∀a s,K a s->K' a s) (i:∀a s,E a s->E' a s):Μ P g args σ K' E':=
 ⟨h.1,λj mn x c rest S B H vs k l hv e=>h.2 j mn x c rest S B H vs k l hv ⟨λa σ' b B' H' v d=>e.ret a σ' b B' H' v (f _ _ d),λa σ' b B' H' v d=>e.Np a σ' b B' H' v (i _ _ d)⟩⟩
theorem W5.mono {f:I} {args:ξ} {K':I->Ρ->Prop} {E':I->Ρ->Prop} (h:W5 P f args σ K E) (g:∀a s,K a s->K' a s) (i:∀a s,E a s->E' a s):W5 P f args σ K' E':=
 λj mn x c rest S B H k vs l m n hv e=>h j mn x c rest S B H k vs l m n hv ⟨λa σ' b B' H' v d=>e.ret a σ' b B' H' v (g _ _ d),λa σ' b B' H' v d=>e.Np a σ' b B' H' v (i _ _ d)⟩
theorem Μ.call {g:FuncId} {first args captured:ξ} (h:Μ P g (first++args++captured) σ K E):W5 P (.fn (.func g) first captured) args σ K E:=by
 intro a mn x c rest S B H v vs b d e hv f;cases e with
 | fn i j k l m n=>
  refine Ω.bind' (Ω.pure' ?_);obtain⟨⟨fn,o,p,r⟩,s⟩:=h;unfold invoke;simp only;unfold callFunc;refine Ω.bind' ?_;show Ω P (match P.funcs[g]? with|none=>_|some fn=>_) H _ _;rw[o];simp only[p,r,Xf,if_false];refine Ω.pure' ?_;have t:XT S B σ first i:=⟨k,m⟩
  have u:XT S B σ captured j:=⟨l,n⟩;exact s a mn x c rest S B H _ b d ((t.append hv).append u) f
def XM (env:Δ) (ops:Array Oper) (o:Oper):Option Bool:=match o.guard with
 | none=>some true
 | some (j,a)=>match (ops[j]?).bind (·.dst) with
  | some d=>match Z7 env d with
   | .z (.bool b)=>some (b==a)
   | _=>none
  | none=>none
theorem U1 {S:ο} {B:Z8} {t:Array Value} (h:YS S B σ env t) {ops:Array Oper} {o:Oper} {w:Bool} (a:XM env ops o=some w):Region.wanted o (yielded ops t)=w:=by
 unfold XM at a;unfold Region.wanted;split at a
 .rename_i e;rw[e];cases a;rfl
 .rename_i j g e;rw[e];split at a
  .rename_i d hd;split at a
   .rename_i b i;cases a;have c:=h d;rw[i] at c;unfold yielded;rw[WU] at c;cases f:t[d]? with
    | none=>rw[f] at c;cases c
    | some v=>
     rw[f] at c;simp only[Option.getD_some] at c;cases c;simp only[hd,Option.bind_some,f];cases b<;>cases g<;>rfl
   .cases a
  .cases a
def Zt (o:Oper) (env:Δ) (a:I):Δ:=match o.dst with|some d=>(d,a)::env|none=>env
def W2 (nt:Nat) (o:Oper):Bool:=match o.dst with|some d=>decide (d<nt)|none=>true
theorem QY {S:ο} {B:Z8} {t:Array Value} (h:YS S B σ env t) {o:Oper} (hd:W2 nt o=true) (b:t.size=nt) {a:I} {v:Value} (c:ς S B σ a v):YS S B σ (Zt o env a) (put o t v)/\(put o t v).size=nt:=by
 unfold Zt put;unfold W2 at hd;cases e:o.dst with
 | none=>exact⟨h,b⟩
 | some d=>
  rw[e] at hd;simp only[decide_eq_true_eq] at hd;exact⟨h.put (by rw[b];exact hd) c,by simp[b]⟩
theorem W.unwanted {ops:Array Oper} {i:Nat} {o:Oper} {rest:List Nat} (f:ops[i]?=some o) (g:XM env ops o=some false) (hd:W2 nt o=true) (h:W P m nt (.inRegion ops rest::k) (Zt o env .Zk) σ Z F):W P m nt (.inRegion ops (i::rest)::k) env σ Z F:=
 λj mn x cs b S B H t d e c l n=>by
 obtain⟨p,r⟩:=QY c.Zn hd c.size (a:=.Zk) (v:=undef) (.Zk _);exact .unwanted d e f (U1 c.Zn g) (h j mn x cs b S B H _ d e ⟨c.holds,p,r,c.rows⟩ l n)
theorem W.op (C:Zz P T) {ops:Array Oper} {i:Nat} {o:Oper} {rest:List Nat} (L:ops[i]?=some o) (M:XM env ops o=some true) (hd:W2 nt o=true) (N:∀c,o.op≠.defer c)
  (h:((VN T A env o).or σ (Wt T A env σ o)).holds λa σ'=>W P m nt (.inRegion ops rest::k) (Zt o env a) σ' Z F):W P m nt (.inRegion ops (i::rest)::k) env σ Z F:=
 λD mn x cs b S B H t E I d O Q=>by
 refine .op E I L (U1 d.Zn M) (.inr N) ?_;have R:=Zc.zn (zh (A:=A) C d.holds d.Zn o) (zg (A:=A) C d.holds d.Zn o);refine Ω.mono (λU H' ⟨v,hv,J,B',σ',a,V,X,Y,e,aa⟩=>?_) (λ_ _ h=>h.elim) _ (R _ h);obtain⟨ab,ad⟩:=QY (d.Zn.later e) hd d.size aa;have K:X5 m S B H σ J B' H' σ':=.of X e;have ae:ν P D mn x (π b (put o t v) (.inRegion ops rest::k)) cs H':=
  V D mn x cs b J B' H' _ E I ⟨Y,ab,ad,X1 d.rows e.length⟩ (λj f g l n p t2 r s u w y=>O j f g l n p t2 r s (K.trans u) w y)
   (λaf f g l n p t2 r ag s u w y ah=>Q af f g l n p t2 r ag s (K.trans u) w y ah)
 cases U<;>simp only[Fp,reduceCtorEq,Qx] at hv<;>first|(subst hv;exact ae)|skip
theorem W.call {ops:Array Oper} {i:Nat} {o:Oper} {rest:List Nat} (w:ops[i]?=some o) (ad:XM env ops o=some true) (hd:W2 nt o=true) {f:Operand} {args:Array Operand} {ae:Array TypeId} (X:o.op=.call ⟨.value f,args,ae⟩)
  (h:W5 P (η env f) (args.toList.map (η env)) σ (λa σ'=>W P m nt (.inRegion ops rest::k) (Zt o env a) σ' Z F) (λa s=>F a env s)):W P m nt (.inRegion ops (i::rest)::k) env σ Z F:=
 λY mn x cs b S B H t l A g af aa=>by
 refine .op l A w (U1 g.Zn ad) (.inr λc=>by rw[X];simp) ?_;have ag:XT S B σ (args.toList.map (η env)) (args.map (ZM t)):=by
  refine⟨J,λi a v p C=>?_⟩;rw[Yh,Wl] at p;rw[PE] at C;cases l:args[i]? with
  | none=>rw[l] at p;cases p
  | some y=>rw[l] at p C;cases p;cases C;exact Un g.Zn y
 have ah:=h Y mn x (π b t (.inRegion ops (i::rest)::k)) cs S B H (ZM t f) (args.map (ZM t)) l g.holds (Un g.Zn f) ag ⟨λa σ' u B' H' v ai D n E I=>?_,λa σ' u B' H' v aj D n E I=>?_⟩
 .have e:execOp (ZM t) o=(do let d <-Deferred.ofValue (ZM t f) (args.map (ZM t));invoke d.target d.args):=by unfold execOp;rw[X];rfl
  rw[e];refine Ω.mono (λak H' r=>?_) (λ_ _ h=>h.elim) _ ah;cases ak<;>first|exact r.elim|exact r|skip
  rename_i v;have:=V6 (b:=b) (t:=t) (k:=k) (v:=v) w (rest:=rest);simp only[EM] at r;rw[this] at r;exact r
 .obtain⟨al,am⟩:=QY (g.Zn.later n) hd g.size I;have ab:X5 m S B H σ u B' H' σ':=.of D n;rw[V6 w];exact ai Y mn x cs b u B' H' _ l A ⟨E,al,am,X1 g.rows n.length⟩ (λj K L M N O t2 Q R T U V=>af j K L M N O t2 Q R (ab.trans T) U V)
   (λan K L M N O t2 Q ao R T U V ap=>aa an K L M N O t2 Q ao R (ab.trans T) U V ap)
 .have:=aa a env σ' u B' H' t (.inRegion ops (i::rest)::k) v aj (.of D n) E (g.Zn.later n) I
  have e:(π b t (.inRegion ops (i::rest)::k)).raise [{v,recovered:=false}]={π b t (.inRegion ops (i::rest)::k) with mode:=.panicking [{v,recovered:=false}]}:=by simp[Frame.raise,π,A]
  rw[e];exact this
theorem W.panic {ops:Array Oper} {i:Nat} {o:Oper} {rest:List Nat} (l:ops[i]?=some o) (n:XM env ops o=some true) {y:Operand} (j:o.op=.panic y) {f:TypeId} {a:I} (p:η env y=.Xo f a) (h:F (.Xo f a) env σ):W P m nt (.inRegion ops (i::rest)::k) env σ Z F:=
 λC mn x cs b S B H t r s d D u=>by
 refine .op r s l (U1 d.Zn n) (.inr λc=>by rw[j];simp) ?_;have g:=Un d.Zn y;have e:execOp (ZM t) o=(do pure (.value (<-Instr.panic (ZM t y)))):=by unfold execOp;rw[j]
 rw[e];rw[p] at g;generalize hv:ZM t y=v at g;refine Ω.bind' ?_;cases g with
 | Xo w A=>exact u (.Xo f a) env σ S B H t _ _ h .refl d.holds d.Zn (.Xo w A)
end
def Om (P:Program) (T:ZR) (A:List Nat) (env:Δ) (o:Oper) (σ:Ρ) (K:I->Ρ->Prop) (E:Yf):Prop:=match o.op with
 | .call ⟨.value f,args,_⟩=>W5 P (η env f) (args.toList.map (η env)) σ K (λa s=>E a env s)
 | .panic y=>match η env y with|.Xo t a=>E (.Xo t a) env σ|_=>False
 | .defer _=>False
 | _=>((VN T A env o).or σ (Wt T A env σ o)).holds K
def Ws (w:Bool) (a b:Prop):Prop:=(w=false->a)/\(w=true->b)
theorem ze {a b:Prop}:Ws true a b=b:=by simp[Ws]
theorem zd {a b:Prop}:Ws false a b=a:=by simp[Ws]
theorem zc {w w':Bool} {a b:Prop} (h:w=w'):Ws w a b=Ws w' a b:=by rw[h]
def Xm {b:Type} (x:Option b) (f:b->Prop):Prop:=match x with|none=>False|some a=>f a
theorem zb {b:Type} {a:b} {f:b->Prop}:Xm (some a) f=f a:=XB rfl rfl
theorem za {a:Type} {f:a->Prop}:Xm none f=False:=rfl
theorem y' {a:Type} {x b:Option a} {f:a->Prop} (h:x=b):Xm x f=Xm b f:=by rw[h]
theorem y9 {K:I->Ρ->Prop} {r r':YX} (h:r=r'):r.holds K=r'.holds K:=by rw[h]
theorem or_congr {r r':Zc} {σ:Ρ} {s:YX} (h:r=r'):r.or σ s=r'.or σ s:=by rw[h]
def run (P:Program) (T:ZR) (A:List Nat) (nt:Nat) (ops:Array Oper):List Nat->Δ->Ρ->(Δ->Ρ->Prop)->(Yf)->Prop
 | [],env,σ,K,_=>K env σ
 | i::is,env,σ,K,E=>Xm ops[i]? λo=>W2 nt o=true/\Xm (XM env ops o) λw=>
   Ws w (run P T A nt ops is (Zt o env .Zk) σ K E) (Om P T A env o σ (λa σ'=>run P T A nt ops is (Zt o env a) σ' K E) E)
def EL (P:Program) (T:ZR) (A:List Nat) (nt:Nat) (ops:Array Oper) (is:List Nat) (o:Oper) (env:Δ) (K:Δ->Ρ->Prop) (E:Yf) (a:I) (σ':Ρ):Prop:=run P T A nt ops is (Zt o env a) σ' K E
theorem SK {P:Program} {T:ZR} {A:List Nat} {nt:Nat} {ops:Array Oper} {env:Δ} {σ:Ρ} {K:Δ->Ρ->Prop} {E:Yf}:run P T A nt ops [] env σ K E=K env σ:=XB rfl rfl
theorem Ν {P:Program} {T:ZR} {A:List Nat} {nt:Nat} {ops:Array Oper} {i:Nat} {is:List Nat} {env:Δ} {σ:Ρ} {K:Δ->Ρ->Prop} {E:Yf} :
  run P T A nt ops (i::is) env σ K E=Xm ops[i]? λo=>W2 nt o=true/\Xm (XM env ops o) λw=>
   Ws w (run P T A nt ops is (Zt o env .Zk) σ K E) (Om P T A env o σ (EL P T A nt ops is o env K E) E):=XB rfl rfl
theorem LZ {P:Program} {T:ZR} {A:List Nat} {nt:Nat} {ops:Array Oper} {is:List Nat} {o:Oper} {env:Δ} {σ:Ρ} {K:Δ->Ρ->Prop} {E:Yf} {a:I}:EL P T A nt ops is o env K E a σ=run P T A nt ops is (Zt o env a) σ K E:=XB rfl rfl
section
variable {P:Program} {T:ZR} {A:List Nat} {m nt:Nat} {k:List Item} {env:Δ} {σ:Ρ} {Z:XZ} {E:Yf} {K:I->Ρ->Prop}
theorem W.ZC {ops:Array Oper} (h:W P m nt k env σ Z E):W P m nt (.inRegion ops []::k) env σ Z E:=λd mn x cs b S B H t a c e f g=>.ZC a c (h d mn x cs b S B H t a c e f g)
theorem HI (t:Zz P T) {ops:Array Oper} (b:List Nat):∀(is:List Nat) (env:Δ) (σ:Ρ),run P T A nt ops is env σ (λenv σ=>W P m nt (.inRegion ops b::k) env σ Z E) E->W P m nt (.inRegion ops (is++b)::k) env σ Z E:=by
 intro is
 induction is with
 | nil=>intro env σ h;exact h
 | cons i is g=>
  intro env σ h;unfold run Xm at h;split at h
  .exact h.elim
  .rename_i o d;obtain⟨hd,h⟩:=h;split at h
   .exact h.elim
   rename_i w e;unfold Ws at h;cases w
   .exact .unwanted d e hd (g _ _ (h.1 rfl))
   .replace h:=h.2 rfl
    unfold Om at h;split at h
    .rename_i f args C j;exact .call d e hd j (h.mono (λa s h=>g _ _ h) (λ_ _ h=>h))
    .rename_i y j;split at h
     .rename_i D a u;exact .panic d e j u h
     .exact h.elim
    .exact h.elim
    .rename_i F H v;refine .op (A:=A) t d e hd (λc x=>v c x) ?_;generalize (VN T A env o).or σ (Wt T A env σ o)=r at h;have B:∀r:YX,r.holds (λa σ'=>run P T A nt ops is (Zt o env a) σ' (λenv σ=>W P m nt (.inRegion ops b::k) env σ Z E) E)->r.holds λa σ'=>W P m nt (.inRegion ops (is++b)::k) (Zt o env a) σ' Z E:=by
      intro r
      induction r with
      | ok a s=>exact λh=>g _ _ h
      | Y9 p r l=>exact λh=>⟨h.1,l h.2⟩
      | all n f l=>exact λh i hi=>l i (h i hi)
      | bad=>exact λh=>h
     exact B r h
theorem YX.y8 {K K':I->Ρ->Prop} (c:∀a s,K a s->K' a s):∀r:YX,r.holds K->r.holds K':=by
 intro r
 induction r with
 | ok a s=>exact λh=>c _ _ h
 | Y9 p r b=>exact λh=>⟨h.1,b h.2⟩
 | all n f b=>exact λh i hi=>b i (h i hi)
 | bad=>exact λh=>h
theorem y7 {env:Δ} {o:Oper} {K K':I->Ρ->Prop} (c:∀a s,K a s->K' a s) (h:Om P T A env o σ K E):Om P T A env o σ K' E:=by
 unfold Om at h ⊢;split
 .rename_i f args d b;rw[b] at h;exact W5.mono h c λ_ _ h=>h
 .rename_i y b;rw[b] at h;exact h
 .rename_i b;rw[b] at h;exact h
 .rename_i e g i;split at h
  .rename_i f args d b;exact absurd b (e f args d)
  .rename_i y b;exact absurd b (g y)
  .rename_i y b;exact absurd b (i y)
  .exact YX.y8 c _ h
theorem JK {ops:Array Oper} {nt:Nat} {K K':Δ->Ρ->Prop} (f:∀e s,K e s->K' e s):∀(is:List Nat) (env:Δ) (σ:Ρ),run P T A nt ops is env σ K E->run P T A nt ops is env σ K' E:=by
 intro is
 induction is with
 | nil=>intro env σ h;exact f _ _ h
 | cons i is b=>
  intro env σ h;unfold run Xm at h ⊢;cases c:ops[i]? with
  | none=>rw[c] at h;exact h.elim
  | some o=>
   rw[c] at h;simp only at h ⊢;refine⟨h.1,?_⟩
   replace h:=h.2
   cases d:XM env ops o with
   | none=>rw[d] at h;exact h.elim
   | some w=>
    rw[d] at h;unfold Ws at h ⊢;exact⟨λe=>b _ _ (h.1 e),λe=>y7 (λa s=>b _ _) (h.2 e)⟩
theorem y6 (a:Zz P T) {ops:Array Oper} (is:List Nat) (env:Δ) (σ:Ρ) (h:run P T A nt ops is env σ (λenv σ=>W P m nt k env σ Z E) E):W P m nt (.inRegion ops is::k) env σ Z E:=by
 have:=HI (A:=A) a [] is env σ (ops:=ops) (k:=k) (Z:=Z) (E:=E) (P:=P) (m:=m) (nt:=nt);rw[Tn] at this;refine this ?_;have b:∀(is:List Nat) (env:Δ) (σ:Ρ) (K K':Δ->Ρ->Prop),(∀e s,K e s->K' e s)->run P T A nt ops is env σ K E->run P T A nt ops is env σ K' E:=λis env σ K K' c h=>JK c is env σ h;exact b is env σ _ _ (λe s h=>.ZC h) h
def idx:Nat->List Nat->List Nat
 | 0,l=>l
 | n+1,l=>idx n (n::l)
theorem idx_eq (n:Nat):idx n []=List.range n:=by
 have:∀(n:Nat) (l:List Nat),idx n l=List.range.loop n l:=by
  intro n
  induction n with
  | zero=>intro l;rfl
  | succ n a=>intro l;exact a _
 exact this n []
theorem Zj (e:Zz P T) {id:Nat} {ops:Array Oper} (h:∀a:Δ->Ρ->Prop,(∀env σ,W P m nt k env σ Z E->a env σ)->run P T A nt ops (idx ops.size []) env σ a E):W P m nt (.code (.region id ops false)::k) env σ Z E:=
 λf mn x cs b S B H t c d g i j=>.region c d (y6 e _ _ _ (by rw[<-idx_eq];exact h _ λ_ _ h=>h) f mn x cs b S B H t c d g i j)
theorem W.forget (env':Δ) (d:∀p∈env',Z7 env p.1=p.2) (h:W P m nt k env' σ Z E):W P m nt k env σ Z E:=
 λf mn x cs b S B H t g j a n o=>by
 have r:∀(l:Δ),(∀p∈l,Z7 env p.1=p.2)->∀i,Z7 l i=.Zk\/Z7 l i=Z7 env i:=by
  intro l
  induction l with
  | nil=>intro _ i;exact .inl rfl
  | cons p l s=>
   intro c i;simp only[Z7];split
   .rename_i e;subst e;exact .inr (c p J).symm
   .exact s (λq u=>c q (by simp[u])) i
 refine h f mn x cs b S B H t g j ⟨a.holds,λi=>?_,a.size,a.rows⟩ n o;rcases r env' d i with e|e
 .rw[e];exact .Zk _
 .rw[e];exact a.Zn i
theorem W.Qd (a:Zz P T) (env':Δ) {id:Nat} {ops:Array Oper} (h:W P m nt k env' σ Z E) (b:run P T A nt ops (idx ops.size []) env σ (λe s=>s=σ/\∀p∈env',Z7 e p.1=p.2) E):W P m nt (.code (.region id ops false)::k) env σ Z E:=
 Zj a λg c=>JK (λe s ⟨d,f⟩=>c e s (d▸W.forget env' f h)) _ _ _ b
def Qc (i:Wi) (l:ξ):Option I:=if i.agg then(if i.size<=l.length then some (.Z' (l.take i.size)) else none) else l.head?
def No (T:ZR) (a:TypeId) (σ:Ρ):I->Option I
 | .ω b=>match T a with|some i=>Qc i b|none=>none
 | .Ο id n i j=>match T a,σ[id]? with
  | some c,some (.cells _ _ l)=>if l.length=n then match l[i]? with
   | some e=>Qc c (e.cells.drop j)
   | none=>none else none
  | _,_=>none
 | _=>none
def QX (T:ZR) (env:Δ) (σ:Ρ):ResultVar->Option I
 | .tmp t=>some (Z7 env t)
 | .cell a b=>No T b σ (Z7 env a)
def LY:ξ->I
 | [a]=>a
 | l=>.ZV l
def SJ (T:ZR) (a:List ResultVar) (env:Δ) (σ:Ρ):Option I:=(a.mapM (QX T env σ)).map LY
theorem EK {i:Wi} {l:ξ} {v:I} (h:Qc i l=some v):Q2 i l=.ok v:=by
 unfold Qc at h;unfold Q2;cases b:i.agg with
 | true=>
  rw[b] at h;simp only[if_true] at h ⊢;split at h
  .rename_i c;cases h;rw[if_pos c]
  .cases h
 | false=>
  rw[b] at h;simp only[Xf,if_false] at h ⊢;cases l with
  | nil=>cases h
  | cons a l=>cases h;rfl
theorem y5 (p:Zz P T) {S:ο} {B:Z8} {H:Ψ} (f:Holds S B σ H) {r:TypeId} {a v:I} {w:Value} (h:No T r σ a=some v) (s:ς S B σ a w):Y4 P (do loadVar r (<-asAddr w)) S B H σ (.ok v σ):=by
 unfold No at h;split at h
 .rename_i D;split at h
  .rename_i i hi;cases s with
   | ω b o w c g=>
    have:=Kp p f hi w (λj a y=>f.YL _ _ _ (c j a y)) g;rw[EK h] at this;exact this
  .cases h
 .rename_i id n i j;split at h
  .rename_i E t k l hi m;split at h
   .rename_i F;split at h
    .rename_i e A;cases s with
     | Ο c g C=>
      rw[m] at c;cases c;obtain⟨J,w,u⟩:=Fo f m C A;have:=Kp p f hi (l:=e.cells.drop j) (b:=_) (o:=i*k+j) (λx=>w (j+x)) (λx a d=>⟨true,by
       rw[T7] at d;rw[SZ];exact(u _ a d).1⟩) (λx a d=>by
       rw[T7] at d;exact(u _ a d).2.1)
      rw[EK h] at this;exact this
     | Vi v c g=>rw[m] at c;cases c;simp only[Row.WQ] at g;omega
    .cases h
   .cases h
  .cases h
 .cases h
theorem LX (K:Zz P T) {fn:Func} {a:I} (h:SJ T fn.results.toList env σ=some a) {S:ο} {B:Z8} {H:Ψ} {t:Array Value} (d:Holds S B σ H) (g:YS S B σ env t) :
  Ω P (results fn t) H (λv H'=>∃c B',Ext S B H c B' H'/\Zw S c B B' σ σ/\Holds c B' σ H'/\ς c B' σ a v) (λ_ _=>False):=by
 let f:ResultVar->Sem Value:=λr=>match r with
  | .tmp x=>pure (t.getD x undef)
  | .cell a E=>do loadVar E (<-asAddr (t.getD a undef))
 have L:∀(e:List ResultVar) (as9:ξ) (S:ο) (B:Z8) (H:Ψ),e.mapM (QX T env σ)=some as9->Holds S B σ H->YS S B σ env t->
   Ω P (e.mapM f) H (λvs H'=>∃c B',Ext S B H c B' H'/\Zw S c B B' σ σ/\Holds c B' σ H'/\as9.length=vs.length/\∀(i:Nat) (a:I) (v:Value),as9[i]?=some a->vs[i]?=some v->ς c B' σ a v) (λ_ _=>False):=by
  intro e
  induction e with
  | nil=>intro as9 S B H h d _;simp at h;subst h;exact Ω.pure' ⟨S,B,.refl _ _ _,.refl _ _ _,d,rfl,λi a v hi=>by simp at hi⟩
  | cons r e M=>
   intro as9 S B H h d g;rw[List.mapM_cons] at h ⊢;cases j:QX T env σ r with
   | none=>rw[j] at h;cases h
   | some a=>
    rw[j] at h;simp only[Option.bind_eq_bind,Option.bind_some] at h;cases s:e.mapM (QX T env σ) with
    | none=>rw[s] at h;cases h
    | some l2=>
     rw[s] at h;cases h;have step:Ω P (f r) H (λv H'=>∃c B',Ext S B H c B' H'/\Zw S c B B' σ σ/\Holds c B' σ H'/\ς c B' σ a v) (λ_ _=>False):=by
      cases r with
      | tmp x=>simp only[QX,Qx] at j;subst j;exact Ω.pure' ⟨S,B,.refl _ _ _,.refl _ _ _,d,g x⟩
      | cell x E=>
       refine Ω.mono (λv H' ⟨c,B',σ',m,⟨k,u⟩,N,O,Q,R⟩=>?_) (λ_ _ h=>h) _ (y5 K d j (g x) (λm U=>m=a/\U=σ) ⟨rfl,rfl⟩);subst k;subst u;exact⟨c,B',N,Q,O,R⟩
     refine Ω.bind' (Ω.mono (λv F ⟨w,y,A,l1,k,n⟩=>?_) (λ_ _ h=>h) _ step);refine Ω.bind' (Ω.mono (λvs ab ⟨V,W,Φ,J,u,X,Y⟩=>?_) (λ_ _ h=>h) _ (M l2 w y F s k (g.later l1)));refine Ω.pure' ⟨V,W,A.trans Φ,l1.trans J,u,by simp[X],λi m Z hi hv=>?_⟩
     match i with
     | 0=>simp at hi hv;subst hi;subst hv;exact n.later J
     | i+1=>simp at hi hv;exact Y i m Z hi hv
 unfold SJ at h;cases C:fn.results.toList.mapM (QX T env σ) with
 | none=>rw[C] at h;cases h
 | some as9=>
  rw[C] at h;cases h;have aa:=L fn.results.toList as9 S B H C d g;unfold results;rw[Array.mapM_eq_mapM_toList];refine Ω.bind' ?_;refine Ω.bind (fn.results.toList.mapM f) (Ω.mono (λvs F ⟨w,y,A,l1,k,D,n⟩=>?_) (λ_ _ h=>h) _ aa);refine Ω.pure' ?_;refine Ω.pure' ⟨w,y,A,l1,k,?_⟩;by_cases o:vs.toArray.size=1
  .rw[dif_pos o];have p:vs.length=1:=by simpa using o
   obtain⟨v,rfl⟩:=List.length_eq_one_iff.1 p;obtain⟨a,rfl⟩:=List.length_eq_one_iff.1 (D.trans p);exact n 0 a v rfl rfl
  .rw[dif_neg o];have p:as9.length≠1:=by rw[D];simpa using o
   have:LY as9=.ZV as9:=by
    match as9 with
    | []=>rfl
    | [a]=>simp at p
    | a::b::l=>rfl
   rw[this];exact .ZV _ (by simpa using D) λi a v hi hv=>n i a v hi (by simpa using hv)
def entry:Nat->ξ->Δ
 | _,[]=>[]
 | i,a::as9=>(i,a)::entry (i+1) as9
theorem EJ {S:ο} {B:Z8} {as9:ξ} {vs:Array Value} (h:XT S B σ as9 vs) (n:Nat):YS S B σ (entry 0 as9) (vs++Array.replicate n undef):=by
 have f:∀(l:ξ) (j i:Nat),Z7 (entry j l) i=if j<=i then(l[i-j]?).getD .Zk else .Zk:=by
  intro l
  induction l with
  | nil=>intro j i;simp[entry,Z7]
  | cons a l g=>
   intro j i;simp only[entry,Z7];by_cases e:j=i
   .subst e;simp
   .rw[if_neg e,g];by_cases b:j<=i
    .rw[if_pos U,if_pos b];have:i-j=(i-(j+1))+1:=U;rw[this,List.getElem?_cons_succ]
    .rw[if_neg U,if_neg b]
 intro i;rw[f,if_pos (Ε _),Nat.sub_zero];by_cases c:i<as9.length
 .have d:=ε c;rw[d];have hv:i<vs.size:=by rw[<-h.1];exact c
  rw[WU,NY hv];exact h.2 i _ _ d (by rw[XI hv];rfl)
 .rw[S0 U];exact .Zk _
def Ends (T:ZR) (b:List ResultVar) (K:I->Ρ->Prop) (j:List Item) (env:Δ) (σ:Ρ):Prop:=match j with
 | []=>∃a,SJ T b env σ=some a/\K a σ
 | .code .ret::_=>∃a,SJ T b env σ=some a/\K a σ
 | _=>False
theorem Μ.y4 {F:I->Ρ->Prop} (A:Zz P T) {g:FuncId} {fn:Func} {body:Code} (f:P.funcs[g]?=some fn) (p:fn.body=some body) (C:(fn.name == "runtime.NumGoroutine")=false) {args:ξ} (aa:args.length<=fn.ntmps)
  (h:W P σ.length fn.ntmps [.code body] (entry 0 args) σ (Ends T fn.results.toList K) (λa _ s=>F a s)):Μ P g args σ K F:=by
 refine⟨⟨fn,f,C,by rw[p];rfl⟩,λr mn x c rest S B H vs b m hv t=>?_⟩;have i:∀{D:Type} (l:List D),l.length=σ.length->l.take σ.length=l:=λl u=>VB U;have E:Frame.enter P g vs .normal=π (Frame.enter P g vs .normal) (vs++Array.replicate (fn.ntmps-vs.size) undef) [.code body]:=by
  simp[Frame.enter,π,f,p]
 rw[E];have J:(vs++Array.replicate (fn.ntmps-vs.size) undef).size=fn.ntmps:=by
  have:=hv.1;simp;omega
 refine h r mn x (c::rest) _ S B H _ b rfl ⟨m,EJ hv _,J,Z1 _⟩ (λj env' σ' k B' H' t' n d e w u=>?_) (λa env' σ' k B' H' t' n v L e M _ N=>?_)
 .have o:Zw S k B B' σ σ':=by
   have:=e.later
   rwa [i B m.len,i σ rfl] at this
  have y:(∃a,SJ T fn.results.toList env' σ'=some a/\K a σ')->ν P r mn x {π (Frame.enter P g vs .normal) t' n with mode:=.returning} (c::rest) H':=λ⟨a,O,Q⟩=>by
   refine .back b rfl rfl (.inl rfl) f ?_;refine Ω.mono (λv R ⟨V,X,Φ,l2,Y,Z⟩=>?_) (λ_ _ h=>h) _ (LX A O w.holds w.Zn);exact t.ret a σ' V X R v Q (e.ext.trans Φ) (o.trans l2) Y Z
  have:n=j:=u;subst this;unfold Ends at d;split at d
  .exact .Qm b rfl rfl (y d)
  .exact .ret b rfl rfl (y d)
  .exact d.elim
 .have o:Zw S k B B' σ σ':=by
   have:=e.later
   rwa [i B m.len,i σ rfl] at this
  refine .raised b rfl rfl ?_ (t.Np a σ' k B' H' v L e.ext o M N);simp[Frame.catches,π,Frame.enter,f]
end
section
variable {P:Program} {S YA:ο} {B:Z8} {H H':Ψ} {σ:Ρ}
theorem ς.take {h:Nat} {a:I} {v:Value} (s:ς S B σ a v) (d:ψ h a):ς S (B.take h) (σ.take h) a v:=by
 have k:∀{t:Type} (l:List t) (i:Nat),i<h->(l.take h)[i]?=l[i]?:=λl i hi=>Tq hi
 induction s with
 | z v=>exact .z v
 | ω b o w f _ m=>
  cases d with
  | ω d=>exact .ω b o w f λj a n=>m j a n (d a (Zf n))
 | Wj base cap h=>exact .Wj base cap h
 | sl b o cap w f g p r _ m=>
  cases d with
  | sl d=>exact .sl b o cap w f g p r λi e hi j c n=>m i e hi j c n (d e (Zf hi) c (Zf n))
 | Z' vs f _ m=>
  cases d with
  | Z' d=>exact .Z' vs f λi a v hi hv=>m i a v hi hv (d a (Zf hi))
 | ZV vs f _ m=>
  cases d with
  | ZV d=>exact .ZV vs f λi a v hi hv=>m i a v hi hv (d a (Zf hi))
 | Ο f g p=>
  cases d with
  | Ο d=>exact .Ο (by rw[k _ _ d];exact f) g (by rw[k _ _ d];exact p)
 | Vi v f g=>
  cases d with
  | Ο d=>exact .Vi v (by rw[k _ _ d];exact f) g
 | ms cap f g p r u x=>
  cases d with
  | ms d=>exact .ms cap (by rw[k _ _ d];exact f) g (by rw[k _ _ d];exact p) r u x
 | Vx v f g=>
  cases d with
  | ms d=>exact .Vx v (by rw[k _ _ d];exact f) g
 | fn vs y f g _ _ A C=>
  cases d with
  | fn D E=>exact .fn vs y f g (λi a v hi hv=>A i a v hi hv (D a (Zf hi))) λi a v hi hv=>C i a v hi hv (E a (Zf hi))
 | Xo v _ m=>
  cases d with
  | Xo d=>exact .Xo v (m d)
 | mp f g=>
  cases d with
  | mp d=>exact .mp (by rw[k _ _ d];exact f) (by rw[k _ _ d];exact g)
 | Uo v f=>
  cases d with
  | mp d=>exact .Uo v (by rw[k _ _ d];exact f)
 | it f g=>
  cases d with
  | it d=>exact .it (by rw[k _ _ d];exact f) (by rw[k _ _ d];exact g)
 | Td v f=>
  cases d with
  | it d=>exact .Td v (by rw[k _ _ d];exact f)
 | Zk v=>exact .Zk v
theorem ς.any {a:I} {v:Value} (b:ς S B σ a v) (c:ψ 0 a) (d:Z8) (e:Ρ):ς S d e a v:=by
 have f:ς S [] [] a v:=by simpa using b.take c
 exact f.later ⟨λ_ _ _ h=>h,λid r h=>by simp at h⟩
theorem Holds.bare (a:Holds S B σ H):Holds S [] [] H:=
 ⟨a.YL,rfl,λid r bo h=>by simp at h,λi j c d b e f g h=>by simp at h,λid r b N h=>by simp at h⟩
theorem Holds.back (a:Holds S B σ H) (c:Ext S [] H YA [] H') (t:Holds YA [] [] H'):Holds YA B σ H'/\Ext S B H YA B H'/\Zw S YA B B σ σ:=by
 have n:Zw S YA B B σ σ:=⟨c.YL,λid r h=>⟨r,h,r.Ql _⟩⟩
 have i:∀b,¬Z8.has ([]:Z8) b:=λb ⟨N,h⟩=>by simp at h
 have p:∀(id:Nat) (r:Row) (b N:Nat),σ[id]?=some r->r.live->B[id]?=some (some (b,N))->UP H H' b:=λid r b N k j s=>(c.Xp b (i b) (a.SQ k j s)).RG λo=>a.sep id r b N k j s o;refine⟨⟨t.YL,a.len,λid r bo d f=>?_,a.inj,λid r b N d g f o=>?_⟩,⟨c.YL,λb _ u=>c.Xp b (i b) u,λb l=>.inl l,λb o v hv=>?_,c.grow⟩,n⟩
 .by_cases g:r.live
  .refine(a.row id r bo d f).later n (λb N e=>p id r b N d g (by rw[f,e])) λm left w e=>?_;subst e;obtain⟨_,_,x,y,xs,A,seen,_,k,⟨es,j⟩,_⟩:=a.row id _ bo d f;exact⟨rfl,rfl,λb N l=>p m _ b N j trivial l⟩
  .cases r<;>first|exact absurd trivial g|trivial
 .cases hv:YA b o with
  | none=>rfl
  | some v=>
   rcases c.Q4 b o v hv with h|h|h
   .rw[a.sep id r b N d g f o] at h;cases h
   .exact absurd h (i b)
   .exact absurd h (a.SQ d g f)
 .rcases c.Q4 b o v hv with h|h|h
  .exact .inl h
  .exact absurd h (i b)
  .exact .inr (.inr h)
theorem Μ.frame {g:FuncId} {args:ξ} {K:I->Prop} {E:I->Prop} (h:Μ P g args [] (λa s=>K a/\ψ 0 a/\s=[]) (λa s=>E a/\ψ 0 a/\s=[])) (t:∀a∈args,ψ 0 a):Μ P g args σ (λa s=>K a/\s=σ) (λa s=>E a/\s=σ):=by
 refine⟨h.1,λu mn x c rest S B H vs w j hv k=>?_⟩;refine h.2 u mn x c rest S [] H vs w j.bare ⟨hv.1,λi a v l y=>(hv.2 i a v l y).any (t a (Zf l)) _ _⟩ ⟨λa σ' YA B' H' v ⟨b,d,m⟩ n A e f=>?_,λa σ' YA B' H' v ⟨b,d,m⟩ n A e f=>?_⟩
 all_goals
  subst m;have C:B'=[]:=YP.1 (by rw[e.len];rfl);subst C;obtain⟨o,p,r⟩:=j.back n e
 .exact k.ret a σ YA B H' v ⟨b,rfl⟩ p r o (f.any d _ _)
 .exact k.Np a σ YA B H' v ⟨b,rfl⟩ p r o (f.any d _ _)
def LW (P:Program) (g:FuncId) (args:ξ) (r:I):Prop:=Μ P g args [] (λa s=>a=r/\s=[]) (λ_ _=>False)
theorem LW.call {g:FuncId} {first args captured:ξ} {r:I} {K:I->Ρ->Prop} {E:I->Ρ->Prop} (h:LW P g (first++args++captured) r) (c:∀a∈first++args++captured,ψ 0 a) (d:ψ 0 r) (e:K r σ) :
  W5 P (.fn (.func g) first captured) args σ K E:=by
 have f:Μ P g (first++args++captured) [] (λa s=>a=r/\ψ 0 a/\s=[]) (λa s=>False/\ψ 0 a/\s=[]):=h.mono (λa s ⟨b,Φ⟩=>⟨b,b▸d,Φ⟩) (λ_ _ h=>h.elim);exact Μ.call ((f.frame (σ:=σ) c).mono (λa s ⟨b,Φ⟩=>by subst b;subst Φ;exact e) (λ_ _ h=>h.1.elim))
end
theorem y3 {h:Nat} {v:Value}:ψ h (.z v)↔True:=⟨λ_=>trivial,λ_=>.z v⟩
theorem y2 {h:Nat}:ψ h .Zk↔True:=⟨λ_=>trivial,λ_=>.Zk⟩
theorem JJ {h:Nat} {l:ξ}:ψ h (.ω l)↔∀a∈l,ψ h a:=⟨λx=>by cases x;assumption,.ω⟩
theorem y1 {h:Nat} {l:ξ}:ψ h (.Z' l)↔∀a∈l,ψ h a:=⟨λx=>by cases x;assumption,.Z'⟩
theorem y0 {h:Nat} {l:ξ}:ψ h (.ZV l)↔∀a∈l,ψ h a:=⟨λx=>by cases x;assumption,.ZV⟩
theorem Y6 {h:Nat} {ex:Bool} {k:Nat} {l:ξ}:ψ h (.sl ex k l)↔∀e∈l,∀a∈e.cells,ψ h a:=⟨λx=>by cases x;assumption,.sl⟩
theorem yZ {h:Nat} {t:TypeId} {a:I}:ψ h (.Xo t a)↔ψ h a:=⟨λx=>by cases x;assumption,.Xo⟩
theorem Xz {h id n i j:Nat}:ψ h (.Ο id n i j)↔id<h:=⟨λx=>by cases x;assumption,.Ο⟩
theorem UF {h id n i j:Nat}:ψ h (.ms id n i j)↔id<h:=⟨λx=>by cases x;assumption,.ms⟩
theorem Qb {h id:Nat}:ψ h (.mp id)↔id<h:=⟨λx=>by cases x;assumption,.mp⟩
theorem yY {h id:Nat}:ψ h (.it id)↔id<h:=⟨λx=>by cases x;assumption,.it⟩
theorem Ul {h:Nat} {f:Fn} {b cs:ξ}:ψ h (.fn f b cs)↔(∀a∈b,ψ h a)/\∀a∈cs,ψ h a:=⟨λx=>by cases x;exact⟨by assumption,by assumption⟩,λx=>.fn x.1 x.2⟩
end Go.TL
