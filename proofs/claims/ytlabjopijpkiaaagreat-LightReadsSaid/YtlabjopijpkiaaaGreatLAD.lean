import Derived.Test.YtlabjopijpkiaaaGreatLAC
set_option maxHeartbeats 16000000
set_option maxRecDepth 20000
set_option linter.unusedSectionVars false
set_option linter.unusedSimpArgs false
set_option linter.unusedVariables false
namespace Go.TL
open Go.Conc
def V3 (T:ZR) (kt:TypeId) (k:Ψ):List (Ψ×Ψ)->Nat->Option (Option (Nat×Ψ))
 | [],_=>some none
 | e::r,i=>match aeqv T kt k e.1 with
  | some b=>bif b then some (some (i,e.2)) else V3 T kt k r (i+1)
  | none=>none
def SA (T:ZR) (kt:TypeId) (k:Ψ):Bool:=match T kt with
 | some i=>match k with
  | .z _=>Vv i.ZE
  | .ZW xs=>match i.ZE,i.eqs with
   | .array _ _,some a=>xs.length==a.length&&(U6 a xs xs).isSome
   | _,_=>false
  | _=>false
 | none=>false
section
variable {P:Program} {T:ZR} {S:κ} {B:Z5} {H:Τ} {σ:Ξ}
theorem Ep {a:TypeId} {d:TypeDesc} (hd:P.underlying a=some d) (b:Vv d=true) {v:Value} {em:Bool} {n:Nat} {G:Τ} {K:Unit->Τ->Prop} {E:Value->Τ->Prop} (c:K () G):Φ P (Instr.checkKey em (n+1) a v) G K E:=by
 unfold Instr.checkKey;refine Φ.bind' (Φ.underlying hd ?_);cases d<;>first|(cases b;done)|(cases v<;>exact Φ.pure' c)
theorem Hk (t:Zv P T) {kt:TypeId} {k:Ψ} {v:Value} (u:υ S B σ k v) (h:SA T kt k=true) {em:Bool} {G:Τ} {K:Unit->Τ->Prop} {E:Value->Τ->Prop} (o:K () G):Φ P (Instr.checkKey em 10000 kt v) G K E:=by
 unfold SA at h;split at h
 .rename_i i hi;obtain⟨⟨p,g⟩,_⟩:=t kt i hi;split at h
  .exact Ep (n:=9999) p h o
  .rename_i xs;split at h
   .rename_i n e R w A;rw[A] at g;simp only[VO,beq_iff_eq] at h;obtain⟨_,_,g⟩:=g;rcases g with⟨U,j,_⟩|⟨m,Ρ,d,f,j,r,s,C,D,F⟩
    .rw[p,w] at j;cases j
    .cases u with
     | ZW vs H I=>
      have J:=LK (.ZW vs H I)
      show Φ P (Instr.checkKey em (9999+1) kt _) G K E;unfold Instr.checkKey;refine Φ.bind' (Φ.underlying j ?_);simp only;rw[forIn_range];refine Φ.bind' ?_;have c:∃b,U6 ((List.range m).map λi=>(d,i)) xs xs=some b:=by
       rw[<-F];exact Option.isSome_iff_exists.1 h.2
      have L:∀(l:ο) (b:Bool),U6 (l.map λi=>(d,i)) xs xs=some b->Φ P (forIn l PUnit.unit λ(i:Nat) (_:PUnit)=>do
        let a <-sizeOf Ρ
        let b <-part Ρ vs (i*a)
        Instr.checkKey em 9999 Ρ b
        pure (ForInStep.yield PUnit.unit)) G (λ_ G'=>K () G') E:=by
       intro l
       induction l with
       | nil=>intro b _;exact .forIn_nil o
       | cons i l M=>
        intro b c;simp only[WZ,U6] at c;split at c<;>try cases c
        rename_i x y N V;split at c<;>try cases c
        rename_i W O X Q;refine .forIn_cons ?_;refine Φ.bind' (Φ.sizeOf C ?_);rw[D];refine Φ.bind' (LJ r s (by rw[RL];exact J _ _ N) ?_);refine Φ.bind' (Ep (n:=9998) r s ?_);exact Φ.pure' (M O Q)
      obtain⟨b,c⟩:=c;exact Φ.mono (λ_ G' h=>Φ.pure' h) (λ_ _ h=>h) _ (L (List.range m) b c)
   .cases h
  .cases h
 .cases h
def Oh (S:κ) (B:Z5) (σ:Ξ) (es:List (Ψ×Ψ)) (a:List MapEntry):Prop:=es.length=a.length/\∀(i:Nat) (e:Ψ×Ψ) (y:MapEntry),es[i]?=some e->a[i]?=some y->υ S B σ e.1 y.key/\υ S B σ e.2 y.val
theorem Oh.tail {e:Ψ×Ψ} {es:List (Ψ×Ψ)} {y:MapEntry} {a:List MapEntry} (h:Oh S B σ (e::es) (y::a)):(υ S B σ e.1 y.key/\υ S B σ e.2 y.val)/\Oh S B σ es a:=
 ⟨h.2 0 e y U U,⟨by simpa using h.1,λi b c d f=>h.2 (i+1) b c d f⟩⟩
theorem JJ {kt:TypeId} {k:Ψ}:∀(es:List (Ψ×Ψ)) (n i:Nat) (a:Ψ),V3 T kt k es n=some (some (i,a))->n<=i/\∃c,es[i-n]?=some (c,a)/\aeqv T kt k c=some true:=by
 intro es
 induction es with
 | nil=>intro n i a h;cases h
 | cons e es d=>
  intro n i a h;unfold V3 at h;split at h
  .rename_i b f;cases b with
   | true=>cases h;exact⟨Z6 _,e.1,Ω,f⟩
   | false=>
    obtain⟨l,c,g,j⟩:=d (n+1) i a h;refine⟨J,c,?_,j⟩;have:i-n=(i-(n+1))+1:=J;rw[this,List.getElem?_cons_succ];exact g
  .cases h
def T2 (a:List MapEntry) (b:Nat) (r:Option (Nat×Ψ)):Option (Nat×Value):=r.map λx=>(x.1,((a[x.1-b]?).map (·.val)).getD undef)
theorem yY {d:TypeDesc} {x y:Value} {b:Bool} (h:Tx d x y=some b):Instr.sameNow d x y=some b:=by
 unfold Tx at h;split at h
 .split at h
  .rename_i e;subst e;cases h;simp[Instr.sameNow]
  .cases h
 .cases h;rfl
 .cases h;rfl
 .cases h
theorem yX (p:Zv P T) {kt:TypeId} {i:VX} (hi:T kt=some i) {k:Ψ} {v:Value} (j:υ S B σ k v) (l:∃u,k=.z u):∀(es:List (Ψ×Ψ)) (a:List MapEntry) (n:Nat) (r:Option (Nat×Ψ)),Oh S B σ es a->V3 T kt k es n=some r->
  Instr.findNow i.ZE v a n=some (T2 a n r):=by
 obtain⟨u,rfl⟩:=l;cases j;intro es
 induction es with
 | nil=>
  intro a n r d h;have:a=[]:=by have:=d.1;simpa using this.symm
  subst this;cases h;rfl
 | cons e es m=>
  intro a n r d h;cases a with
  | nil=>have:=d.1;simp at this
  | cons y a=>
   obtain⟨⟨g,s⟩,o⟩:=d.tail;unfold V3 at h;split at h
   .rename_i b c;have hv:Tx i.ZE v y.key=some b:=by
     unfold aeqv at c;rw[hi] at c;simp only at c;split at c
     .rename_i x t f Ρ;rw[Ρ] at g;cases g;cases f;split at c
      .exact c
      .cases c
     .rename_i f _;cases f
     .cases c
    unfold Instr.findNow;rw[yY hv];cases b with
    | true=>cases h;simp[T2]
    | false=>
     have:=m a (n+1) r o h;simp only[this];congr 1;unfold T2;cases r with
     | none=>rfl
     | some x=>
      simp only[Option.map_some];have w:n+1<=x.1:=(JJ es (n+1) x.1 x.2 h).1;have:x.1-n=(x.1-(n+1))+1:=J;rw[this,List.getElem?_cons_succ]
   .cases h
theorem yW (f:Zv P T) {kt:TypeId} {k:Ψ} {v:Value} (g:υ S B σ k v) {E:Value->Τ->Prop}:∀(es:List (Ψ×Ψ)) (a:List MapEntry) (n:Nat) (r:Option (Nat×Ψ)) (K:Option (Nat×Value)->Τ->Prop),Oh S B σ es a->V3 T kt k es n=some r->
  K (T2 a n r) H->Φ P (Instr.findAsking kt v a n) H K E:=by
 intro es
 induction es with
 | nil=>
  intro a n r K c h d;have:a=[]:=by have:=c.1;simpa using this.symm
  subst this;cases h;exact Φ.pure' d
 | cons e es i=>
  intro a n r K c h d;cases a with
  | nil=>have:=c.1;simp at this
  | cons y a=>
   obtain⟨⟨j,o⟩,l⟩:=c.tail;unfold V3 at h;split at h
   .rename_i b m;unfold Instr.findAsking;refine Φ.bind' (Hl f g j m ?_);cases b with
    | true=>cases h;simp only[if_true];exact Φ.pure' (by simpa[T2] using d)
    | false=>
     simp only[WX,if_false];refine i a (n+1) r K l h ?_;have:T2 (y::a) n r=T2 a (n+1) r:=by
      unfold T2;cases r with
      | none=>rfl
      | some x=>
       simp only[Option.map_some];have p:n+1<=x.1:=(JJ es (n+1) x.1 x.2 h).1;have:x.1-n=(x.1-(n+1))+1:=J;rw[this,List.getElem?_cons_succ]
     rw[<-this];exact d
   .cases h
theorem Hj (c:Zv P T) {kt:TypeId} {k:Ψ} {v:Value} (f:υ S B σ k v) (b:SA T kt k=true) {es:List (Ψ×Ψ)} {a:List MapEntry} {r:Option (Nat×Ψ)} (d:Oh S B σ es a) (h:V3 T kt k es 0=some r) {K:Option (Nat×Value)->Τ->Prop} {E:Value->Τ->Prop} (e:K (T2 a 0 r) H) :
  Φ P (Instr.findKey kt v a) H K E:=by
 unfold Instr.findKey;unfold SA at b;split at b
 .rename_i i hi;refine Φ.bind' (c.ZE hi ?_);split at b
  .rw[yX c hi f ⟨_,rfl⟩ es a 0 r d h];exact Φ.pure' e
  .rename_i xs;cases f with
   | ZW vs g j=>
    cases a with
    | nil=>
     have:es=[]:=by have:=d.1;simpa using this
     subst this;cases h;exact Φ.pure' e
    | cons y a=>
     have l:Instr.findNow i.ZE (.agg vs) (y::a) 0=none:=by
      unfold Instr.findNow;have:Instr.sameNow i.ZE (.agg vs) y.key=none:=by unfold Instr.sameNow;cases i.ZE<;>rfl
      rw[this]
     rw[l];exact yW c (.ZW vs g j) es (y::a) 0 r K d h e
  .cases b
 .cases b
def Sz (σ:Ξ) (id:Nat):Bool:=σ.all λr=>match r with|.iter m _ _=>m != id|_=>true
theorem yV {id:Nat} (h:Sz σ id=true):∀(j:Nat) left a,σ[j]?≠some (Row.iter id left a):=λj left a b=>by
 have:=V5.1 h _ (Y1 b);simp at this
def Og (T:ZR) (a:TypeId):Option (TypeId×TypeId):=match T a with
 | some i=>match i.ZE with|.map k v=>some (k,v)|_=>none
 | none=>none
theorem JI {a kt vt:TypeId} (h:Og T a=some (kt,vt)):∃i,T a=some i/\i.ZE=.map kt vt:=by
 unfold Og at h;split at h
 .rename_i i hi;split at h
  .rename_i k v b;cases h;exact⟨i,hi,b⟩
  .cases h
 .cases h
def Hi (σ:Ξ):YP:=.ok (.mp σ.length) (σ++[.map []])
theorem yU (c:Holds S B σ H) (d:TypeId):YS P (Instr.makeMap d none) S B H σ (Hi σ):=by
 intro K f;unfold Instr.makeMap;refine Φ.bind' ?_;refine λr g=>?_;have h:∀b,(∀N,some (r,0)≠some (b,N))->Uv H (H.Zx r (.map #[] 0)) b:=λb k=>by
  have l:b≠r:=λe=>by subst e;exact k _ U
  exact⟨λo=>rfl,U,by simp[Τ.Zx,l]⟩
 have m:Zm S S B (B++[some (r,0)]) σ (σ++[.map []])->U7 S (B++[some (r,0)]) (σ++[.map []]) (H.Zx r (.map #[] 0)) (.map []) (some (r,0)):=λ_=>
  ⟨r,0,#[],0,U,by simp[Τ.Zx],U,λi e y a=>by simp at a,λi j y z a=>by simp at a⟩
 obtain⟨a,n,p⟩:=c.push (λb N e=>by cases e;exact g) h m;exact Φ.pure' ⟨_,_,_,_,f,n,a,p,.mp (es:=[]) (N:=0) (JS σ _) (JR c.len _)⟩
def JH (T:ZR) (d:TypeId) (b:Bool) (σ:Ξ) (e k:Ψ):YP:=match Og T d,e with
 | some (kt,vt),.mp id=>match σ[id]?,T vt with
  | some (.map es),some c=>if SA T kt k=true then match V3 T kt k es 0 with
   | some (some (_,a))=>.ok (if b then .ZY [a,.z (.bool true)] else a) σ
   | some none=>.ok (if b then .ZY [Wc c.zero,.z (.bool false)] else Wc c.zero) σ
   | none=>.bad else .bad
  | _,_=>.bad
 | _,_=>.bad
theorem LI (c:Holds S B σ H) {id b N:Nat} {es:List (Ψ×Ψ)} (d:σ[id]?=some (.map es)) (f:B[id]?=some (some (b,N))):∃xs a,H.obj b=some (.map xs a)/\P' S B σ es xs a:=by
 obtain⟨i,j,xs,a,e,g,h⟩:=c.row id _ _ d f;cases e;exact⟨xs,a,g,h⟩
theorem P'.Nc {es:List (Ψ×Ψ)} {xs:Array MapEntry} {d:Nat} (h:P' S B σ es xs d):Oh S B σ es xs.toList:=
 ⟨by simpa using h.1,λi e y f c=>by rw[Wh] at c;obtain⟨a,b,_⟩:=h.2.1 i e y f c;exact⟨a,b⟩⟩
theorem yT (l:Zv P T) (g:Holds S B σ H) {n:TypeId} {e:Bool} {mp k:Ψ} {u v:Value} (I:υ S B σ mp u) (w:υ S B σ k v):YS P (Instr.lookup n u v e) S B H σ (JH T n e σ mp k):=by
 unfold JH;split
 .rename_i kt vt id J;obtain⟨i,hi,L⟩:=JI J;split
  .rename_i es X o M;split
   .rename_i A;cases I with
    | mp j O=>
     rename_i b N;rw[o] at j;cases j;obtain⟨xs,Y,Q,s⟩:=LI g o O;have C:∀(r:Option (Nat×Ψ)) (t:YP),V3 T kt k es 0=some r->(∀(K:Ψ->Ξ->Prop),t.holds K->∃(x:Ψ) (y:Value),True/\Φ P (do
       let (v,R) <-match T2 xs.toList 0 r with
        | some (_,v)=>pure (v,true)
        | none=>do pure (<-zeroValue vt,false)
       pure (if e then .tuple #[v,.bool R] else v)) H (Vu S B H σ K) (λ_ _=>False))->YS P (Instr.lookup n (.map (some b)) v e) S B H σ t:=λr t f V K d=>by
      unfold Instr.lookup;refine Φ.bind' (l.ZE hi ?_);rw[L];refine Φ.bind' ?_;refine⟨_,Q,U,?_⟩;refine Φ.bind' (Φ.pure' ?_);refine Φ.bind' (Hk l w A ?_);refine Φ.bind' (Hj l w A s.Nc f ?_);obtain⟨_,_,_,h⟩:=V K d;cases m:T2 xs.toList 0 r with
      | none=>rw[m] at h;exact h
      | some p=>rw[m] at h;exact h
     split
     .rename_i c a f;refine C _ _ f λK d=>⟨a,undef,trivial,?_⟩;obtain⟨_,Z,D,_⟩:=JJ es 0 c a f;have E:c<xs.size:=by have:=(Zo.1 D).1;rw[<-s.1];simpa using this
      have W:xs[c]?=some xs[c]:=Xu E;obtain⟨_,F,_⟩:=s.2.1 c _ _ (by simpa using D) W;have m:T2 xs.toList 0 (some (c,a))=some (c,xs[c].val):=by simp[T2,E]
      rw[m];refine Φ.bind' (Φ.pure' (Φ.pure' ?_));cases e with
      | true=>exact .same g d (Nl F (.z _))
      | false=>exact .same g d F
     .rename_i f;refine C _ _ f λK d=>⟨.Ze,undef,trivial,?_⟩;refine Φ.bind' (l.zero M ?_);refine Φ.bind' (Φ.pure' (Φ.pure' ?_));cases e with
      | true=>exact .same g d (Nl (RD _) (.z _))
      | false=>exact .same g d (RD _)
     .exact .bad
    | T4 v j=>rw[o] at j;cases j
   .exact .bad
  .exact .bad
 .exact .bad
def LH (T:ZR) (a:TypeId) (σ:Ξ) (b k x:Ψ):YP:=match Og T a,b with
 | some (kt,_),.mp id=>match σ[id]? with
  | some (.map es)=>if SA T kt k=true/\Sz σ id=true then match V3 T kt k es 0 with
   | some (some (i,_))=>.ok .Ze (σ.set id (.map (es.set i (k,x))))
   | some none=>.ok .Ze (σ.set id (.map (es++[(k,x)])))
   | none=>.bad else .bad
  | _=>.bad
 | _,_=>.bad
theorem Hh (c:Holds S B σ H) {id b N:Nat} {es es':List (Ψ×Ψ)} {xs':Array MapEntry} {clock':Nat} (d:σ[id]?=some (.map es)) (f:B[id]?=some (some (b,N))) (g:Sz σ id=true) (h:∀{B':Z5} {σ':Ξ},Zm S S B B' σ σ'->P' S B' σ' es' xs' clock') :
  Holds S (B.set id (some (b,N))) (σ.set id (.map es')) (H.Zx b (.map xs' clock'))/\Ext S B H S (B.set id (some (b,N))) (H.Zx b (.map xs' clock'))/\Zm S S B (B.set id (some (b,N))) σ (σ.set id (.map es')):=
 c.Nn d trivial f (.inl ⟨es',U,U⟩) (λa i e=>.inl ⟨i,e⟩) (λa j _=>by
  have k:a≠b:=λe=>by subst e;exact j N U
  exact⟨λo=>rfl,U,by simp[Τ.Zx,k]⟩) Τ.HA (yV g) λl=>⟨b,N,xs',clock',U,by simp[Τ.Zx],h l⟩
theorem Eo (m:Zv P T) (O:Holds S B σ H) {ab:TypeId} {mp k x:Ψ} {u v w:Value} (aj:υ S B σ mp u) (n:υ S B σ k v) (ad:υ S B σ x w):Nk P (Instr.mapUpdate ab u v w) S B H σ (LH T ab σ mp k x):=by
 unfold LH;split
 .rename_i kt vt id ak;obtain⟨i,hi,ae⟩:=JI ak;split
  .rename_i es r;split
   .rename_i al;obtain⟨D,af⟩:=al;cases aj with
    | mp s Q=>
     rename_i b N;rw[r] at s;cases s;obtain⟨xs,R,E,f⟩:=LI O r Q;split
     .rename_i h a F;obtain⟨_,aw,o,am⟩:=JJ es 0 h a F;simp only[Nat.sub_zero] at o;have ag:h<es.length:=(Zo.1 o).1;have ah:h<xs.size:=by rw[<-f.1];exact ag
      have t:xs[h]?=some xs[h]:=Xu ah;obtain⟨an,ax,ao⟩:=f.2.1 h _ _ o t;obtain⟨ai,Ρ,ap⟩:=yZ m n an am;intro K V;unfold Instr.mapUpdate;refine Φ.bind' (m.ZE hi ?_);rw[ae];refine Φ.bind' ⟨_,E,U,Φ.pure' ?_⟩;refine Φ.bind' (Hk m n D ?_);refine Φ.bind' (Hj m n D f.Nc F ?_);have aq:T2 xs.toList 0 (some (h,a))=some (h,xs[h].val):=by simp[T2,ah]
      rw[aq];simp only[t,Option.map_some,Option.getD_some];unfold Instr.keyThatStays;rw[<-ai];simp only[ap,if_true];refine Φ.bind' (Φ.pure' ?_);obtain⟨W,X,Y⟩:=Hh O (es':=es.set h (k,x)) (xs':=xs.modify h λe=>{e with key:=v,val:=w}) (clock':=R) r Q af λ{B' σ'} l=>by
       refine⟨by simp[f.1],λj e y c d=>?_,λj I y z c d Z=>?_⟩
       .rw[Array.getElem?_modify] at d;by_cases p:h=j
        .subst p;rw[V0 ag] at c;rw[if_pos U,t] at d;cases c;cases d;exact⟨n.later l,ad.later l,ao⟩
        .rw[Vp p] at c;rw[if_neg p] at d;obtain⟨A,C,L⟩:=f.2.1 j e y c d;exact⟨A.later l,C.later l,L⟩
       .have born:∀(j:Nat) (y:MapEntry),(xs.modify h λe=>{e with key:=v,val:=w})[j]?=some y->∃M,xs[j]?=some M/\y.born=M.born:=λj y g=>by
         rw[Array.getElem?_modify] at g;by_cases p:h=j
         .subst p;rw[if_pos U,t] at g;cases g;exact⟨_,t,U⟩
         .rw[if_neg p] at g;exact⟨y,g,U⟩
        obtain⟨M,A,C⟩:=born j y c;obtain⟨ar,L,au⟩:=born I z d;rw[C,au];exact f.2.2 j I M ar A L Z
      exact⟨⟨_,E⟩,U,U,Φ.pure' ⟨S,_,_,_,V,X,W,Y,.Ze _⟩⟩
     .rename_i F;intro K V;unfold Instr.mapUpdate;refine Φ.bind' (m.ZE hi ?_);rw[ae];refine Φ.bind' ⟨_,E,U,Φ.pure' ?_⟩;refine Φ.bind' (Hk m n D ?_);refine Φ.bind' (Hj m n D f.Nc F ?_);simp only[T2,Option.map_none];obtain⟨W,X,Y⟩:=Hh O (es':=es++[(k,x)]) (xs':=xs.push {key:=v,val:=w,born:=R}) (clock':=R+1) r Q af λ{B' σ'} l=>by
       refine⟨by simp[f.1],λj e y c d=>?_,λj I y z c d Z=>?_⟩
       .by_cases aa:j<es.length
        .rw[Yz aa] at c;rw[ND,if_neg (by rw[<-f.1];omega)] at d;obtain⟨A,C,L⟩:=f.2.1 j e y c d;exact⟨A.later l,C.later l,J⟩
        .rw[Xj J] at c;have av:j=es.length:=by
          have:=(Zo.1 c).1;simp at this;omega
         subst av;rw[ND,if_pos f.1] at d;simp at c;subst c;cases d;exact⟨n.later l,ad.later l,Qj _⟩
       .rw[ND] at c d;split at c
        .rename_i ai;split at d
         .omega
         .have:=(TJ.1 d).1;omega
        .split at d
         .cases d;have aa:=(TJ.1 c).1;have o:∃e,es[j]?=some e:=⟨_,Z7 (by rw[f.1];exact aa)⟩;obtain⟨e,o⟩:=o;exact(f.2.1 j e y o c).2.2
         .exact f.2.2 j I y z c d Z
      exact⟨⟨_,E⟩,U,U,Φ.pure' ⟨S,_,_,_,V,X,W,Y,.Ze _⟩⟩
     .exact .bad
    | T4 v s=>rw[r] at s;cases s
   .exact .bad
  .exact .bad
 .exact .bad
end
section
variable {P:Program} {T:ZR} {S:κ} {B:Z5} {H:Τ} {σ:Ξ}
def JG (T:ZR) (a:TypeId) (σ:Ξ) (b:Ψ):YP:=match Og T a,b with
 | some _,.mp id=>match σ[id]? with
  | some (.map es)=>.ok (.it σ.length) (σ++[.iter id es none])
  | _=>.bad
 | _,_=>.bad
theorem yS (C:Zv P T) (h:Holds S B σ H) {n:TypeId} {mp:Ψ} {u:Value} (D:υ S B σ mp u):YS P (Instr.range n u) S B H σ (JG T n σ mp):=by
 unfold JG;split
 .rename_i p id E;obtain⟨i,hi,F⟩:=JI (kt:=p.1) (vt:=p.2) E;split
  .rename_i es a;cases D with
   | mp c s=>
    rename_i b N;rw[a] at c;cases c;obtain⟨xs,d,k,l⟩:=LI h a s;intro K I;unfold Instr.range;refine Φ.bind' (C.ZE hi ?_);rw[F];refine Φ.bind' ?_;refine⟨_,k,U,?_⟩;refine Φ.bind' (Φ.pure' ?_);refine Φ.bind' ?_;refine λr t=>?_;have m:b≠r:=λe=>by subst e;rw[t.2.2.1] at k;cases k
    have w:id<σ.length:=(Zo.1 a).1
    have J:∀f,(∀N,some (r,0)≠some (f,N))->Uv H (H.Zx r (.mapIter (some b) d #[] d)) f:=λf L=>by
     have m:f≠r:=λe=>by subst e;exact L _ U
     exact⟨λo=>rfl,U,by simp[Τ.Zx,m]⟩
    have M:Zm S S B (B++[some (r,0)]) σ (σ++[.iter id es none])->U7 S (B++[some (r,0)]) (σ++[.iter id es none]) (H.Zx r (.mapIter (some b) d #[] d)) (.iter id es none) (some (r,0)):=λx=>by
     refine⟨r,0,b,N,xs,d,#[],U,by rw[Yz (by rw[h.len];exact w)];exact s,⟨es,by rw[Yz w];exact a⟩,by simp[Τ.Zx],by simp[Τ.Zx,m,k],⟨xs.toList,?_,by simpa using l.1,λi e y O Q=>?_⟩,λy R=>?_,λe g=>by cases g⟩
     .exact(List.filter_eq_self.2 λe _=>Ω).symm
     .obtain⟨V,W⟩:=l.Nc.2 i e y O Q;exact⟨V.later x,W.later x⟩
     .obtain⟨j,A,rfl⟩:=Array.getElem_of_mem R;have g:∃e,es[j]?=some e:=⟨_,Z7 (by rw[l.1];exact A)⟩;obtain⟨e,g⟩:=g;exact(l.2.1 j e _ g (Xu A)).2.2
    obtain⟨X,Y,Z⟩:=h.push (λf aa e=>by cases e;exact t) J M;exact Φ.pure' ⟨_,_,_,_,I,Y,X,Z,.it (JS σ _) (JR h.len _)⟩
   | T4 v c=>rw[a] at c;cases c
  .exact .bad
 .exact .bad
theorem yR {c:Type} (f:c->Nat):∀(l:List c) (i:Nat) (e:c),(l.map f).Nodup->l[i]?=some e->l.filter (λx=>f x != f e)=l.eraseIdx i:=by
 intro l
 induction l with
 | nil=>intro i e _ h;simp at h
 | cons a l d=>
  intro i e b h;simp only[WZ,Rb] at b;cases i with
  | zero=>
   simp at h;subst h;rw[KA];simp only[bne_self_eq_false,WX,if_false,List.eraseIdx_cons_zero];rw[List.filter_eq_self];intro x g;simp only[bne_iff_ne,ne_eq];intro e;exact b.1 (e▸List.mem_map_of_mem g)
  | succ i=>
   simp only[List.getElem?_cons_succ] at h;have j:f a≠f e:=λx=>b.1 (x▸List.mem_map_of_mem (Y1 h));rw[KA];simp only[bne_iff_ne,ne_eq,j,not_false_eq_true,if_true,List.eraseIdx_cons_succ];rw[d i e b.2 h]
theorem yQ {es:List (Ψ×Ψ)} {xs:Array MapEntry} {a:Nat} (h:P' S B σ es xs a):(xs.toList.map (·.born)).Nodup:=by
 rw[List.Nodup,KD,Rc];intro i j hi b c;have:=h.2.2 i j _ _ (Xu (by simpa using hi)) (Xu (by simpa using b)) c;simp only[Array.getElem_toList];omega
def JF (σ:Ξ) (a:Ψ):YP:=match a with
 | .it id=>match σ[id]? with
  | some (.iter m left _)=>if left.isEmpty=true then .ok (.ZY [.z (.bool false)]) σ else
    .all left.length λi=>match left[i]? with
     | some e=>.ok (.ZY [.z (.bool true),e.1,e.2]) (σ.set id (.iter m (left.eraseIdx i) (some e)))
     | none=>.bad
  | _=>.bad
 | _=>.bad
theorem yP {a b c:Ψ} {u v w:Value} (f:υ S B σ a u) (g:υ S B σ b v) (h:υ S B σ c w):υ S B σ (.ZY [a,b,c]) (.tuple #[u,v,w]):=by
 refine .ZY _ U λi j k d e=>?_
 match i with
 | 0=>simp at d e;subst d;subst e;exact f
 | 1=>simp at d e;subst d;subst e;exact g
 | 2=>simp at d e;subst d;subst e;exact h
 | i+3=>simp at d
theorem yO (r:Holds S B σ H) {it:Ψ} {u:Value} (aB:TypeId) (hi:υ S B σ it u):YS P (Instr.next u false aB) S B H σ (JF σ it):=by
 unfold JF;split
 .rename_i id;split
  .rename_i m left aV s;cases hi with
   | it A aj=>
    rename_i aW aX aY b N;rw[s] at A;cases A;obtain⟨R,ak,I,aC,xs,f,seen,T,al,⟨es,L⟩,V,C,⟨t,W,X,Y⟩,Z,aZ⟩:=r.row id _ _ s aj;cases T;obtain⟨xs',clock',am,aD⟩:=LI r L al;rw[C] at am;cases am;have an:=yQ aD;have aa:I≠b:=λe=>by subst e;rw[V] at C;cases C
    intro K ab;have aE:(xs.filter λe=>!seen.contains e.born).toList=t:=by rw[W];simp
    have aF:(!seen.isEmpty&&!xs.isEmpty&&xs.all (λe=>decide (e.born>=f)))=false:=by
     cases ao:xs.isEmpty with
     | true=>simp
     | false=>
      have D:0<xs.size:=by
       rw[Array.isEmpty_eq_false_iff] at ao;exact Array.size_pos_iff.2 ao
      have aG:xs.all (λe=>decide (e.born>=f))=false:=by
       rw[Array.all_eq_false];refine⟨0,D,?_⟩;have:=Z xs[0] (Array.getElem_mem D);simp;exact this
      rw[aG];simp
    have aH:∀z:Array MapEntry,z=xs.filter (λe=>!seen.contains e.born)->z.filter (λe=>decide (e.born<f))=z/\z.filter (λe=>decide (e.born>=f))=#[]:=λz E=>by
     have ap:∀e∈z,e.born<f:=λe k=>by rw[E] at k;exact Z e (Array.mem_of_mem_filter k)
     constructor
     .rw[Array.filter_eq_self];intro e k;simpa using ap e k
     .rw[Array.filter_eq_empty_iff];intro e k;simpa using ap e k
    unfold Instr.next;refine Φ.bind' ?_;refine⟨_,V,U,?_⟩;refine Φ.pure' ?_;simp only;refine Φ.bind' ?_;refine⟨_,C,U,?_⟩;refine Φ.pure' ?_;simp only[aF,WX,if_false];generalize E:xs.filter (λe=>!seen.contains e.born)=z;obtain⟨f1,f2⟩:=aH z E.symm;rw[f1,f2];have M:z.toList=t:=by rw[<-E];exact aE
    by_cases O:left.isEmpty=true
    .have aI:left=[]:=Qk.1 O;subst aI;have aJ:z=#[]:=by
      have:t=[]:=YA.1 (by rw[<-X];rfl);rw[this] at M;exact Array.toList_eq_nil_iff.1 M
     subst aJ;have T:((if(#[]:Array MapEntry).isEmpty=true then #[none] else #[])++Array.map some (#[]++#[]:Array MapEntry))=#[none]:=Ω;rw[T];refine Φ.bind' ?_;show Φ P (choose (.mapNext 1)) H _ _;unfold choose;simp only[Φ,Question.forced,Z6,decide_true,if_true];exact Φ.pure' (.same r ab (.ZY _ U λi a v g p=>by
      match i with
      | 0=>simp at g p;subst g;subst p;exact .z _
      | i+1=>simp at g))
    .rw[if_neg O] at ab;have ad:z.size=left.length:=by rw[X,<-M];simp
     have aK:z.isEmpty=false:=by
      rw[Array.isEmpty_eq_false_iff];intro e;rw[e] at ad;exact O (Qk.2 (YA.1 ad.symm))
     simp only[aK,WX,if_false,OI,Array.empty_append];refine Φ.bind' ?_;have aq:∀i,i<left.length->Φ P (match (z.map some)[i]? with
       | some (some e)=>do
        setObj b (.mapIter (some I) f (seen.push e.born) f)
        pure (.tuple #[.bool true,e.key,e.val])
       | some none=>pure (.tuple #[.bool false])
       | none=>stuck "Next: no such candidate") H (Vu S B H σ K) (λ_ _=>False):=λi ar=>by
      have F:∃d,z[i]?=some d:=⟨_,Xu J⟩;obtain⟨d,F⟩:=F;have au:t[i]?=some d:=by rw[<-M,Wh];exact F
      have Q:∃e,left[i]?=some e:=⟨_,Z7 ar⟩;obtain⟨le,Q⟩:=Q;rw[Px,F];simp only[Option.map_some];have av:=ab i ar;simp only[Q] at av;obtain⟨aw,ax⟩:=Y i _ _ Q au;have aL:d∈xs:=by
       have:d∈z:=Array.mem_of_getElem? F;rw[<-E] at this;exact Array.mem_of_mem_filter this
      have aM:id<σ.length:=(Zo.1 s).1
      have a0:id<B.length:=by rw[r.len];exact aM
      have ay:id≠m:=λe=>by subst e;rw[s] at L;cases L
      obtain⟨aN,aO,ae⟩:=r.Nn (H':=H.Zx b (.mapIter (some I) f (seen.push d.born) f)) (r':=.iter m (left.eraseIdx i) (some le)) (bo':=some (b,N)) s trivial aj (.inl ⟨_,_,U,U⟩) (λR ak e=>.inl ⟨ak,e⟩) (λR g _=>by
       have aa:R≠b:=λe=>by subst e;exact g N U
       exact⟨λo=>rfl,U,by simp[Τ.Zx,aa]⟩) Τ.HA (λj l c az=>by
       obtain⟨bo,aP⟩:=EO r az;obtain⟨_,_,_,_,_,_,_,_,_,⟨a1,aA⟩,_⟩:=r.row j _ bo az aP;rw[s] at aA;cases aA) (λw=>by
       refine⟨b,N,I,aC,xs,f,seen.push d.born,U,by rw[Vp ay];exact al,⟨es,by rw[Vp ay];exact L⟩,by simp[Τ.Zx],by simp[Τ.Zx,aa,C],⟨t.eraseIdx i,?_,by rw[List.length_eraseIdx,List.length_eraseIdx,X],λj e y g p=>?_⟩,Z,λe k=>?_⟩
       .have aQ:(t.map (·.born)).Nodup:=by
         rw[W];exact an.sublist (List.filter_sublist.map _)
        rw[<-yR (·.born) t i d aQ au,W,List.filter_filter];apply List.filter_congr;intro e _;rw[Array.contains_push,Bool.not_or,Bool.and_comm];congr 1
       .rw[List.getElem?_eraseIdx] at g p;split at g
        .rename_i af;rw[if_pos af] at p;obtain⟨ag,ah⟩:=Y j e y g p;exact⟨ag.later w,ah.later w⟩
        .rename_i af;rw[if_neg af] at p;obtain⟨ag,ah⟩:=Y (j+1) e y g p;exact⟨ag.later w,ah.later w⟩
       .cases k;refine⟨d.born,d,Ω,?_,aw.later w,ax.later w⟩;rw[<-Array.find?_toList];obtain⟨q,aR⟩:=Sl (show d∈xs.toList by simpa using aL);have aS:∀(l:List MapEntry) (q:Nat) (e:MapEntry),(l.map (·.born)).Nodup->l[q]?=some e->l.find? (·.born==e.born)=some e:=by
         intro l
         induction l with
         | nil=>intro q e _ h;simp at h
         | cons a l aT=>
          intro q e ai h;simp only[WZ,Rb] at ai;rw[List.find?_cons];cases q with
          | zero=>simp at h;subst h;simp
          | succ q=>
           simp only[List.getElem?_cons_succ] at h;have:(a.born==e.born)=false:=by
            simp only[beq_eq_false_iff_ne,ne_eq];intro x;exact ai.1 (x▸List.mem_map_of_mem (Y1 h))
           rw[this];exact aT q e ai.2 h
        exact aS xs.toList q _ an aR)
      refine Φ.bind' ?_;refine⟨⟨_,V⟩,U,U,?_⟩;refine Φ.pure' ?_;exact Φ.pure' ⟨S,_,_,_,av,aO,aN,ae,yP (.z _) (aw.later ae) (ax.later ae)⟩
     have aU:(z.map some).size=left.length:=by simp[ad]
     show Φ P (choose (.mapNext (z.map some).size)) H _ _;unfold choose;simp only[Φ];have D:0<left.length:=RN.2 λe=>O (Qk.2 e);split
     .exact aq 0 D
     .intro n;refine aq _ ?_;simp only[Question.cut,aU];exact Nat.mod_lt _ D
   | SZ v A=>rw[s] at A;cases A
  .exact .bad
 .exact .bad
def JE (σ:Ξ) (a:Ψ):YP:=match a with
 | .it id=>match σ[id]? with
  | some (.iter _ _ (some e))=>.ok (.ZY [e.1,e.2]) σ
  | _=>.bad
 | _=>.bad
theorem yN (d:Holds S B σ H) {it:Ψ} {u:Value} (hi:υ S B σ it u):YS P (Instr.entry u) S B H σ (JE σ it):=by
 unfold JE;split
 .rename_i id;split
  .rename_i m left e c;cases hi with
   | it a f=>
    rename_i r s t b N;rw[c] at a;cases a;obtain⟨w,x,A,C,xs,D,seen,g,E,F,h,i,_,I,j⟩:=d.row id _ _ c f;cases g;obtain⟨J,y,k,l,n,o⟩:=j e U;intro K p;unfold Instr.entry;refine Φ.bind' ?_;refine⟨_,h,U,?_⟩;refine Φ.pure' ?_;simp only[k];refine Φ.bind' ?_;refine⟨_,i,U,?_⟩;refine Φ.pure' ?_;simp only[bne_self_eq_false,WX,if_false,l];exact Φ.pure' (.same d p (Nl n o))
   | SZ v a=>rw[c] at a;cases a
  .exact .bad
 .exact .bad
@[simp] def Hg:Value->Option Ψ
 | .int k z=>some (.z (.int k z))
 | .slice none 0 0=>some (.sl true 0 [])
 | _=>none
theorem yM {a:Value} {b:Ψ} (h:Hg a=some b):a.cells=#[a]/\b.cells=[b]/\(∀S B σ,υ S B σ b a)/\One a:=by
 unfold Hg at h;split at h
 .cases h;exact⟨U,U,λ_ _ _=>.z _,trivial⟩
 .cases h;exact⟨U,U,λ_ _ _=>.VY _ _ (λ_=>rfl),trivial⟩
 .cases h
def JD (T:ZR) (b:TypeId) (σ:Ξ) (x:Ψ):YP:=match x with
 | .ms id n i len=>match T b,σ[id]? with
  | some c,some (.cells t k l)=>match c.ZE with
   | .slice e=>match T e with
    | some d=>match Hg d.zero with
     | some f=>if l.length=n/\k=1/\i+len<=n/\(∀a∈l,a.cells.length=1) then .ok .Ze (σ.set id (.cells t k (l.take i++List.replicate len f++l.drop (i+len)))) else .bad
     | none=>.bad
    | none=>.bad
   | _=>.bad
  | _,_=>.bad
 | _=>.bad
theorem yL (R:Zv P T) (p:Holds S B σ H) {V:TypeId} (ag:TypeId) {x:Ψ} {u:Value} (ah:υ S B σ x u):YS P (Builtin.clear_ #[V] ag #[u]) S B H σ (JD T V σ x):=by
 unfold JD;split
 .rename_i id n i len;split
  .rename_i aK t k l ai g;split
   .rename_i e aj;split
    .rename_i D ak;split
     .rename_i r al;obtain⟨am,W,an,ao⟩:=yM al;split
      .rename_i ap;obtain⟨aL,rfl,aM,_⟩:=ap;have X:id<σ.length:=(Zo.1 g).1;have aN:id<B.length:=by rw[p.len];exact X
       intro K E;have Y:len=0->Vu S B H σ K (.tuple #[]) H:=λs=>by
        subst s;have aq:σ.set id (.cells t 1 (l.take i++List.replicate 0 r++l.drop (i+0)))=σ:=by
         rw[List.replicate_zero,Ul,Nat.add_zero,OK];apply Sj;intro j;by_cases Z:id=j
         .subst Z;rw[V0 X,g]
         .rw[Vp Z]
        simp only[YP.holds] at E;rw[aq] at E;exact⟨S,B,σ,_,E,.refl _ _ _,p,.refl _ _ _,.Ze _⟩
       cases ah with
       | Vm v h aa=>rw[g] at h;cases h;simp only[Row.Wo] at aa;omega
       | ms cap h aa ab aO aP A=>
        rename_i bo base;rw[g] at h;cases h;unfold Builtin.clear_;refine Φ.bind' (R.ZE ai ?_);rw[aj];cases base with
        | none=>
         refine Φ.bind' (Φ.pure' ?_);have s:len=0:=by
          rcases A with A|⟨b,N,_,F,_⟩
          .omega
          .cases F
         exact Φ.pure' (Y s)
        | some a=>
         by_cases s:len=0
         .subst s;refine Φ.bind' (Φ.pure' ?_);exact Φ.pure' (Y U)
         .rcases A with A|⟨b,N,rfl,F,A⟩
          .omega
          .cases F;obtain⟨ad,aQ,ae,w,I⟩:=p.row id _ _ g ab;obtain⟨m,rfl⟩:∃m,len=m+1:=⟨len-1,J⟩;simp only;refine Φ.bind' (R.zero ak ?_);have ar:(Builtin.zeroCells D.zero.cells (m+1)).toList=List.replicate (m+1) D.zero:=by
            simp only[Builtin.zeroCells,am];rw[Array.toList_map,Array.toList_range];refine Sj λj=>?_;rw[Yc,Ml];by_cases d:j<m+1
            .rw[List.getElem?_range (by simpa using d),if_pos d];simp[Nat.mod_one]
            .rw[Uc (by simp;omega),if_neg d];rfl
           rw[ar];have au:∀(y:Nat) (c:Ψ),(l.take i++List.replicate (m+1) r++l.drop (i+(m+1)))[y]?=some c->(i<=y/\y<i+(m+1)/\c=r)\/((y<i\/i+(m+1)<=y)/\l[y]?=some c):=λy c f=>by
            by_cases C:y<i
            .rw[TH,Yz (by simp;omega),S' C] at f;exact .inr ⟨.inl C,f⟩
            .by_cases L:y<i+(m+1)
             .rw[Yz (by simp;omega),Xj (by simp;omega),Ml] at f;split at f
              .cases f;exact .inl ⟨J,L,U⟩
              .cases f
             .rw[Xj (by simp;omega),TI] at f;have av:i+(m+1)+(y-(l.take i++List.replicate (m+1) r).length)=y:=by simp;omega
              rw[av] at f;exact .inr ⟨.inr J,f⟩
           obtain⟨aw,ax,ay⟩:=p.Nn (H':=H.Wd b i (List.replicate (m+1) D.zero)) (r':=.cells t 1 (l.take i++List.replicate (m+1) r++l.drop (i+(m+1)))) (bo':=some (b,N)) g trivial ab (.inl ⟨_,U,by simp;omega,U⟩) (λaf az M=>.inl ⟨az,M⟩)
            (λaf h _=>by
             have aA:af≠b:=λM=>by subst M;exact h N U
             exact⟨λo=>by simp[Τ.Wd,aA],U,U⟩) Τ.Hx (J4 p g) (λaB=>by
             refine⟨ad,by simp;omega,λo aC=>?_,λy j=>if i<=y/\y<i+(m+1) then D.zero else w y j,λy c f=>?_⟩
             .simp only[Τ.Wd];split
              .exact⟨_,U⟩
              .exact ae o aC
             .rcases au y c f with⟨C,L,rfl⟩|⟨C,O⟩
              .refine⟨by rw[W];rfl,λj a d=>?_⟩;rw[W] at d;have Q:j=0:=by have:=(Zo.1 d).1;simp at this;omega
               subst Q;simp at d;subst d;simp only[C,L,and_self,if_true];refine⟨?_,an _ _ _,ao⟩;simp only[Τ.Wd,Pz];rw[if_pos ⟨trivial,J,J⟩,Ml,if_pos J];rfl
              .refine⟨(I y c O).1,λj a d=>?_⟩;obtain⟨aD,aE,aF⟩:=(I y c O).2 j a d;have Q:j=0:=by have:=(Zo.1 d).1;rw[(I y c O).1] at this;omega
               subst Q;have aG:¬(i<=y/\y<i+(m+1)):=J;simp only[aG,if_false];refine⟨?_,aE.later aB,aF⟩;simp only[Τ.Wd,Pz];rw[if_neg J];exact aD)
           have aH:(⟨b,i*1,none⟩:Addr)=⟨b,i,none⟩:=by rw[RL]
           rw[aH];refine Φ.bind' ?_;refine Φ.storeCells (G:=H) U ⟨t,N,ad⟩ _ 0 H (λv hv=>by rw[KO hv];trivial) (λj _ d=>?_) U ?_
           .rw[Pz] at d;obtain⟨aI,aJ⟩:=ae (i+j) J;exact⟨aI,aJ⟩
           .exact Φ.pure' ⟨S,_,_,_,E,ax,aw,ay,.Ze _⟩
      .exact .bad
     .exact .bad
    .exact .bad
   .exact .bad
  .exact .bad
 .exact .bad
def JC (T:ZR) (a:TypeId) (σ:Ξ) (b:Ψ):YP:=match Og T a,b with
 | some _,.mp id=>match σ[id]? with
  | some (.map _)=>if Sz σ id=true then .ok .Ze (σ.set id (.map [])) else .bad
  | _=>.bad
 | _,_=>JD T a σ b
theorem yK (f:Zv P T) (d:Holds S B σ H) {g:TypeId} (h:TypeId) {mp:Ψ} {u:Value} (k:υ S B σ mp u):YS P (Builtin.clear_ #[g] h #[u]) S B H σ (JC T g σ mp):=by
 unfold JC;split
 .rename_i l id o;obtain⟨i,hi,p⟩:=JI (kt:=l.1) (vt:=l.2) o;split
  .rename_i es c;split
   .rename_i r;cases k with
    | mp a m=>
     rename_i b N;rw[c] at a;cases a;obtain⟨xs,s,n,C⟩:=LI d c m;obtain⟨t,w,x⟩:=Hh d (es':=[]) (xs':=#[]) (clock':=s) c m r λ_=>⟨U,λi e y a=>by simp at a,λi j y z a=>by simp at a⟩;intro K A;unfold Builtin.clear_;refine Φ.bind' (f.ZE hi ?_);rw[p];refine Φ.bind' ?_;refine⟨_,n,U,?_⟩;refine Φ.pure' ?_;refine⟨⟨_,n⟩,U,U,?_⟩;exact Φ.pure' ⟨S,_,_,_,A,w,t,x,.Ze _⟩
    | T4 v a=>rw[c] at a;cases a
   .exact .bad
  .exact .bad
 .exact yL f d h k
end
def Of (T:ZR) (c:BinOp) (d:TypeId) (a b:Ψ):Y8:=match aeqv T d a b with
 | some r=>match c with
  | .eql=>.ok (.z (.bool r))
  | .neq=>.ok (.z (.bool !r))
  | _=>.bad
 | none=>.bad
def JB (T:ZR) (c:BinOp) (d:TypeId) (a b:Ψ):Y8:=match a,b with
 | .z x,.z y=>match P8 c x y with
  | .ok v=>.ok v
  | .Y0 p r=>.Y0 p r
  | .bad=>Of T c d (.z x) (.z y)
 | .ZW x,.ZW y=>Of T c d (.ZW x) (.ZW y)
 | _,_=>.bad
def JA (T:ZR) (b:TypeId) (x c:Ψ):Y8:=match T b with
 | some i=>match i.ZE,x,c with
  | .string,.z (.string s),.z (.int _ n)=>.Y0 (0<=n/\n<s.size) (.ok (.z (.int .u8 (s.data.toList.getD n.toNat 0).toNat)))
  | .array len e,.ZW xs,.z (.int _ n)=>match T e with
   | some a=>if a.agg=false/\a.size=1/\xs.length=len then .Y0 (0<=n/\n<len) (.ok (xs.getD n.toNat .Ze)) else .bad
   | none=>.bad
  | _,_,_=>.bad
 | none=>.bad
def Jz (x:Ψ):Y8:=match x with
 | .ξ c=>.ok (.ξ c)
 | .fn (.func f) a b=>.ok (.fn (.func f) a b)
 | .z (.pointer (some a))=>.ok (.z (.pointer (some a)))
 | _=>.bad
def Oe (σ:Ξ) (x:Ψ):YP:=match x with
 | .Δ id n i j=>match σ[id]? with
  | some (.cells _ _ l)=>if l.length=n then .ok (.Δ id n i j) σ else .bad
  | _=>.bad
 | _=>.bad
def Jy (T:ZR) (a:TypeId) (x:Ψ):Y8:=match T a with
 | some i=>match i.ZE,x with
  | .array n _,.sl _ k l=>if 0<n/\k=1/\(l.all λe=>decide (e.cells.length=1)&&Ψ.Yr [] e)=true then .Y0 (n<=l.length) (.ok (.ξ (l.take n))) else .bad
  | _,_=>.bad
 | none=>.bad
def P5:μ->Option (ZZ)
 | []=>some []
 | .z (.int .i32 n)::r=>(P5 r).map (n::·)
 | _=>none
def spell (l:ZZ):ByteArray:=l.foldl (λs n=>s++Utf8.encode n) .empty
def LG (T:ZR) (b:TypeId):Bool:=match T b with
 | some i=>match i.ZE with
  | .slice e=>match T e with|some a=>(match a.ZE with|.int .i32=>true|_=>false)&&a.size==1|none=>false
  | _=>false
 | none=>false
def LF (T:ZR) (a:TypeId):Bool:=match T a with|some i=>(match i.ZE with|.string=>true|_=>false)|none=>false
def Pj (T:ZR) (src dst:TypeId) (σ:Ξ) (x:Ψ):Y8:=if LG T src=true/\LF T dst=true then match RB σ x with
 | some (k,l)=>if k=1\/l.isEmpty=true then match P5 l with|some r=>.ok (.z (.string (spell r)))|none=>.bad else .bad
 | none=>.bad else .bad
def Jx (T:ZR) (src dst:TypeId) (x:Ψ):Y8:=if LF T src=true/\LG T dst=true then match x with
 | .z (.string s)=>.ok (.sl false 1 ((Conv.runesFrom s s.size 0 #[]).toList.map .z))
 | _=>.bad else .bad
section
variable {P:Program} {T:ZR} {S:κ} {B:Z5} {H:Τ} {σ:Ξ}
theorem yJ {a:BinOp} {b:TypeId} {p q:Operand} {vs d:ζ} (e:P.eqGuardType P.depth b=false) {G:Τ} {K:Unit->Τ->Prop} {E:Value->Τ->Prop} (c:K () G):Φ P (eqGuard a b p q (.agg vs) (.agg d)) G K E:=by
 cases a<;>first|exact Φ.pure' c|skip
 all_goals
  unfold eqGuard;simp only[Bool.not_true,WX,if_false];refine Φ.bind' ?_;show Φ P _ G K E;refine Φ.bind' ?_;show Φ P _ G K E;rw[if_pos (by rw[e];rfl)];exact Φ.pure' c
theorem En (g:Zv P T) (h:Holds S B σ H) {d:BinOp} {c:TypeId} {p q:Operand} {a b:Ψ} {v w:Value} (i:υ S B σ a v) (j:υ S B σ b w) (k:∀r,aeqv T c a b=some r->(d=.eql\/d=.neq)->∀(K:Unit->Τ->Prop),K () H->Φ P (eqGuard d c p q v w) H K (λ_ _=>False))
  (l:∀r,aeqv T c a b=some r->(binOp .eql c v w=(do pure (.bool (<-Op.equal c v w)))/\binOp .neq c v w=(do pure (.bool (!(<-Op.equal c v w)))))) :
  YS P (do eqGuard d c p q v w;binOp d c v w) S B H σ ((Of T d c a b).Yo σ):=by
 unfold Of;split
 .rename_i r e;obtain⟨m,n⟩:=l r e;split
  .intro K f;refine Φ.bind' (k r e (.inl U) _ ?_);rw[m];exact Φ.bind' (Hl g i j e (Φ.pure' (.same h f (.z _))))
  .intro K f;refine Φ.bind' (k r e (.inr U) _ ?_);rw[n];exact Φ.bind' (Hl g i j e (Φ.pure' (.same h f (.z _))))
  .exact .bad
 .exact .bad
theorem yI (l:Zv P T) (m:Holds S B σ H) (j:BinOp) (g:TypeId) (p q:Operand) {a b:Ψ} {v w:Value} (t:υ S B σ a v) (u:υ S B σ b w):YS P (do eqGuard j g p q v w;binOp j g v w) S B H σ ((JB T j g a b).Yo σ):=by
 unfold JB;split
 .rename_i x y;have k:=zC (P:=P) m j g p q v w;cases t;cases u;split
  .rename_i r f;rw[f] at k;exact k
  .rename_i N r f;rw[f] at k;exact k
  .rename_i A;have C:∀r,aeqv T g (.z v) (.z w)=some r->(∃c d,v=.bool c/\w=.bool d)\/¬(j=.eql\/j=.neq):=λr f=>by
    unfold aeqv at f;split at f<;>try cases f
    simp only at f;split at f<;>try cases f
    unfold Tx at f;split at f
    .split at f
     .rename_i e;subst e;refine .inr λn=>?_;rcases n with rfl|rfl<;>simp[P8] at A
     .cases f
    .refine .inr λn=>?_;rcases n with rfl|rfl<;>simp[P8] at A
    .exact .inl ⟨_,_,U,U⟩
    .cases f
   by_cases o:j=.eql\/j=.neq
   .by_cases f:∃r,aeqv T g (.z v) (.z w)=some r
    .obtain⟨r,f⟩:=f;rcases C r f with⟨c,d,rfl,rfl⟩|h
     .exact En l m (.z _) (.z _) (λ_ _ _ K s=>by unfold eqGuard;split<;>exact Φ.pure' s) (λ_ _=>⟨U,U⟩)
     .exact absurd o h
    .have:aeqv T g (.z v) (.z w)=none:=by
      cases h:aeqv T g (.z v) (.z w) with
      | none=>rfl
      | some r=>exact absurd ⟨r,h⟩ f
     unfold Of;rw[this];exact .bad
   .unfold Of;split
    .split
     .exact absurd (.inl U) o
     .exact absurd (.inr U) o
     .exact .bad
    .exact .bad
 .rename_i x y;cases t with
  | ZW vs D E=>cases u with
   | ZW F I J=>
    refine En l m (.ZW vs D E) (.ZW F I J) (λr f _ K s=>?_) (λ_ _=>⟨U,U⟩);have L:P.eqGuardType P.depth g=false:=by
     unfold aeqv at f;split at f<;>try cases f
     rename_i i hi;simp only at f;split at f<;>try cases f
     rename_i O M;have:=(l g i hi).1.2;rw[M] at this;exact this.1
    exact yJ L s
 .exact .bad
theorem yH (c:Zv P T) (h:Holds S B σ H) (d:TypeId) {x j:Ψ} {v w:Value} (k:υ S B σ x v) (hi:υ S B σ j w):YS P (Instr.index d v w) S B H σ ((JA T d x j).Yo σ):=by
 unfold JA;cases l:T d with
 | none=>exact .bad
 | some i=>
  simp only;split
  .rename_i s kk n f;cases k;cases hi;refine YS.Y0 (r:=(Y8.ok (.z (.int .u8 (s.data.toList.getD n.toNat 0).toNat))).Yo σ) λg K a=>?_;unfold Instr.index;refine Φ.bind' (Φ.pure' ?_);refine Φ.bind' (c.ZE l ?_);rw[f];have b:n.toNat<s.data.size:=by have:s.size=s.data.size:=rfl;omega
   have o:(if 0<=n then s[n.toNat]? else none)=some s.data[n.toNat]:=by
    rw[if_pos g.1];show s[n.toNat]?=_;rw[getElem?_pos s n.toNat J];rfl
   simp only[o];have Ρ:s.data.toList.getD n.toNat 0=s.data[n.toNat]:=by rw[WB,Wh,Xu b];rfl
   rw[Ρ] at a;exact Φ.pure' (.same h a (.z _))
  .rename_i len e xs kk n f;cases hi;split
   .rename_i C m;split
    .rename_i p;obtain⟨t,u,D⟩:=p;refine YS.Y0 (r:=(Y8.ok (xs.getD n.toNat .Ze)).Yo σ) λg K a=>?_;cases k with
     | ZW vs y A=>
      unfold Instr.index;refine Φ.bind' (Φ.pure' ?_);refine Φ.bind' (c.ZE l ?_);rw[f];simp only[g,and_self,if_true];refine Φ.bind' (c.size m ?_);rw[u,RL];unfold part;refine Φ.bind' (c.agg m ?_);rw[t];have b:n.toNat<xs.length:=J;have hv:n.toNat<vs.size:=by rw[<-y];exact b
      simp only[WX,if_false,Xu hv];have Ρ:xs.getD n.toNat .Ze=xs[n.toNat]:=by simp[b]
      rw[Ρ] at a;exact Φ.pure' (.same h a (A _ _ _ (Z7 b) (Xu hv)))
    .exact .bad
   .exact .bad
  .exact .bad
theorem yG (d:Holds S B σ H) {ρ:Operand->Value} {o:Oper} {x:Operand} (e:o.op=.nilCheck x) {a:Ψ} (c:υ S B σ a (ρ x)):Does P (execOp ρ o) S B H σ ((Jz a).Yo σ):=by
 unfold Jz;split
 .unfold execOp;rw[e];simp only;generalize ρ x=v at c;cases c with
  | ξ b o w f g=>exact Does.val d (.ξ b o w f g)
 .unfold execOp;rw[e];simp only;generalize ρ x=v at c;cases c with
  | fn vs h f g i j=>exact Does.val d (.fn vs h f g i j)
 .unfold execOp;rw[e];simp only;generalize ρ x=v at c;cases c;exact Does.val d (.z _)
 .exact .bad
theorem yF (e:Holds S B σ H) {ρ:Operand->Value} {o:Oper} {x:Operand} (f:o.op=.nilCheck x) {a:Ψ} (d:υ S B σ a (ρ x)):Does P (execOp ρ o) S B H σ (Oe σ a):=by
 unfold Oe;split
 .split
  .rename_i t k l g;split
   .rename_i i;unfold execOp;rw[f];simp only;generalize ρ x=v at d;cases d with
    | Δ b c h=>exact Does.val e (.Δ b c h)
    | U8 v b c=>rw[g] at b;cases b;simp only[Row.Wo] at c;omega
   .exact .bad
  .exact .bad
 .exact .bad
theorem yE (p:Zv P T) (s:Holds S B σ H) (d:TypeId) {x:Ψ} {v:Value} (t:υ S B σ x v):YS P (Instr.arrayAt d v) S B H σ ((Jy T d x).Yo σ):=by
 unfold Jy;cases u:T d with
 | none=>exact .bad
 | some i=>
  simp only;split
  .rename_i n e ex k l y;split
   .rename_i A;obtain⟨M,C,h⟩:=A;subst C;refine YS.Y0 (r:=(Y8.ok (.ξ (l.take n))).Yo σ) λD K E=>?_;obtain⟨base,cap,rfl,_,_,F⟩:=QW t;obtain⟨b,o,w,rfl,N,I,L⟩:=F (λe=>by subst e;simp at D;omega);unfold Instr.arrayAt;refine Φ.bind' (p.ZE u ?_);rw[y];simp only;rw[if_neg J];rw[V5] at h;have el:∀(j:Nat) (e:Ψ),(l.take n)[j]?=some e->l[j]?=some e/\e.cells=[e]:=λj e c=>by
     have m:=h e (KH (Y1 c));simp only[VO] at m;rw[OH] at c;split at c
     .exact⟨c,Ψ.Hu m.2⟩
     .cases c
    refine Φ.pure' (.same s E (.ξ b o (λj=>w j 0) (λj a c=>?_) (λj a c=>?_)))
    .obtain⟨f,g⟩:=el j a c;have:=I j a f 0 a (by rw[g];rfl);simpa using this
    .obtain⟨f,g⟩:=el j a c;exact L j a f 0 a (by rw[g];rfl)
   .exact .bad
  .exact .bad
theorem Em {b:TypeId} (h:LG T b=true):∃i e a,T b=some i/\i.ZE=.slice e/\T e=some a/\a.ZE=.int .i32/\a.size=1:=by
 unfold LG at h;split at h
 .rename_i i hi;split at h
  .rename_i e c;split at h
   .rename_i a d;simp only[VO,beq_iff_eq] at h;refine⟨i,e,a,hi,c,d,?_,h.2⟩;have:=h.1;split at this
    .assumption
    .cases this
   .cases h
  .cases h
 .cases h
theorem El {a:TypeId} (h:LF T a=true):∃i,T a=some i/\i.ZE=.string:=by
 unfold LF at h;split at h
 .rename_i i hi;refine⟨i,hi,?_⟩;split at h
  .assumption
  .cases h
 .cases h
theorem yD (k:Zv P T) (u:Holds S B σ H) (src dst:TypeId) {x:Ψ} {v:Value} (d:υ S B σ x v):YS P (convert src dst v) S B H σ ((Jx T src dst x).Yo σ):=by
 unfold Jx;split
 .rename_i o;obtain⟨i,hi,w⟩:=El o.1;obtain⟨j,e,R,f,A,C,D,V⟩:=Em o.2;split
  .rename_i s;cases d;intro K p;unfold convert;refine Φ.bind' (k.ZE hi (Φ.bind' (k.ZE f ?_)));rw[w,A];simp only;refine Φ.bind' (k.ZE C ?_);rw[D];simp only;unfold Conv.stringToRunes;refine Φ.bind' ?_;unfold choose;simp only[Φ];have E:(Question.appendCap (Conv.runesFrom s s.size 0 #[]).size 0 e).forced=false:=rfl;rw[E];simp only[WX,if_false];intro q;generalize F:Conv.runesFrom s s.size 0 #[]=c at p ⊢;have I:c.size<=(Question.appendCap c.size 0 e).cut q:=by simp[Question.cut]
   refine Φ.bind' (Φ.bind' ?_);have J:∀v∈c,One v:=by
    have L:∀(l i:Nat) (g:ζ),(∀v∈g,One v)->∀v∈Conv.runesFrom s l i g,One v:=by
     intro l
     induction l with
     | zero=>intro i g h;exact h
     | succ n M=>
      intro i g h;unfold Conv.runesFrom;split
      .refine M _ _ λv hv=>?_;rcases NA.1 hv with hv|rfl
       .exact h v hv
       .trivial
      .exact h
    rw[<-F];exact L _ _ _ (λv hv=>by simp at hv)
   have N:W4 S B σ (c++Array.replicate ((Question.appendCap c.size 0 e).cut q-c.size) (.int .i32 0)) 1 (c.toList.map .z):=by
    refine⟨Ω,λj a f=>?_⟩;rw[Yc,Wh] at f;cases d:c[j]? with
    | none=>rw[d] at f;cases f
    | some y=>
     rw[d] at f;cases f;refine⟨U,λz b m=>?_⟩
     match z with
     | 0=>
      simp[Ψ.cells] at m;subst m;refine⟨y,?_,.z y,J y (Array.mem_of_getElem? d)⟩;have:=(TJ.1 d).1;rw[NI (by simpa using this)];simpa using d
     | z+1=>simp[Ψ.cells] at m
   refine LO u _ e λr O Q t=>Φ.pure' (Φ.pure' ⟨_,_,_,_,p,Q,O,t,?_⟩);have:=J1 (cap:=(Question.appendCap c.size 0 e).cut q) false t N (by simpa using I) Ω;simpa using this
  .exact .bad
 .exact .bad
theorem yC:∀(l:μ) (r:ZZ),P5 l=some r->r.length=l.length/\∀(i:Nat) (n:Int),r[i]?=some n->l[i]?=some (.z (.int .i32 n)):=by
 intro l
 induction l with
 | nil=>intro r h;cases h;exact⟨rfl,λi n h=>by simp at h⟩
 | cons a l e=>
  intro r h;unfold P5 at h;split at h
  .rename_i b;cases b
  .rename_i n j b;cases b;cases c:P5 l with
   | none=>rw[c] at h;cases h
   | some r'=>
    rw[c] at h;cases h;obtain⟨f,g⟩:=e r' c;refine⟨by simp[f],λi m d=>?_⟩;cases i with
    | zero=>simp at d;subst d;rfl
    | succ i=>exact g i m (by simpa using d)
  .cases h
theorem yB (m:Zv P T) (p:Holds S B σ H) (src dst:TypeId) {x:Ψ} {v:Value} (L:υ S B σ x v):YS P (convert src dst v) S B H σ ((Pj T src dst σ x).Yo σ):=by
 unfold Pj;split
 .rename_i D;obtain⟨i,e,ah,hi,M,N,O,ai⟩:=Em D.1;obtain⟨j,Q,R⟩:=El D.2;split
  .rename_i k l V;split
   .rename_i W;split
    .rename_i r X;obtain⟨base,cap,w,rfl,_,t,Y⟩:=JU p L (k:=1) V J (W.symm);obtain⟨E,Z⟩:=yC l r X;intro K F;unfold convert;refine Φ.bind' (m.ZE hi (Φ.bind' (m.ZE Q ?_)));rw[M,R];have aa:∀i,i<l.length->w i=.int .i32 (r.getD i 0):=λi y=>by
      have I:r[i]?=some r[i]:=Z7 J
      have:=(Y i _ (Z i _ I)).2 0 _ U;rw[RL,Nat.add_zero] at this;rw[WB,I];generalize w i=u at this;cases this;rfl
     have ab:Φ P (Conv.runesToString (.slice base l.length cap)) H (Vu S B H σ K) (λ_ _=>False):=by
      unfold Conv.runesToString;rw[RL] at t;cases base with
      | none=>
       simp only;rcases t with g|⟨b,o,A,_⟩
       .have:r=[]:=YA.1 (by rw[E,g]);subst this;exact Φ.pure' (.same p F (.z _))
       .cases A
      | some a=>
       simp only;have ad:∀(d:ZZ) (f:ByteArray),Φ P (forIn (d.map λn=>Value.int .i32 n) f λ(c:Value) (s:ByteArray)=>do
         let .int .i32 n:=c|stuck "runesToString: rune expected"
         pure (ForInStep.yield (s++Utf8.encode n))) H (λs H'=>s=d.foldl (λs n=>s++Utf8.encode n) f/\H'=H) (λ_ _=>False):=by
        intro d
        induction d with
        | nil=>intro f;exact .forIn_nil ⟨rfl,rfl⟩
        | cons n d ae=>
         intro f;rw[WZ];refine .forIn_cons ?_;exact Φ.pure' (ae (f++Utf8.encode n))
       have af:Φ P (loadCells a l.length) H (λvs H'=>vs=(r.map λn=>Value.int .i32 n).toArray/\H'=H) (λ_ _=>False):=by
        rcases t with g|⟨b,o,A,ag⟩
        .rw[g];have:r=[]:=YA.1 (by rw[E,g]);subst this;exact Φ.pure' ⟨U,U⟩
        .cases A;refine Φ.loadCells w U ag ⟨?_,U⟩;congr 1;apply Sj;intro i;rw[Yc,Yc];by_cases y:i<l.length
         .rw[List.getElem?_range y,Z7 (show i<r.length by omega)];simp only[Option.map_some];rw[aa i y,WB,Z7 (show i<r.length by omega)];rfl
         .rw[Uc (by simp;omega),Uc J];rfl
       refine Φ.bind' (Φ.mono (λvs H' ⟨C,Ρ⟩=>?_) (λ_ _ h=>h) _ af);subst C;subst Ρ;rw[<-Array.forIn_toList];refine Φ.bind' (Φ.mono (λs H' ⟨C,Ρ⟩=>?_) (λ_ _ h=>h) _ (ad r .empty));subst C;subst Ρ;exact Φ.pure' (.same p F (.z _))
     have:Φ P (do
      match <-underlying e with
      | .int .u8=>Conv.bytesToString (.slice base l.length cap)
      | .int .i32=>Conv.runesToString (.slice base l.length cap)
      | _=>stuck "Convert: a slice of what to string?") H (Vu S B H σ K) (λ_ _=>False):=by
      refine Φ.bind' (m.ZE N ?_);rw[O];exact ab
     cases base<;>exact this
    .exact .bad
   .exact .bad
  .exact .bad
 .exact .bad
end
def Jw (σ:Ξ):YP:=.all 2 λj=>.ok (.z (.bool (j==1))) σ
def Jv (T:ZR) (b:TypeId) (σ:Ξ) (a:Ψ):YP:=match T b with
 | some i=>match i.ZE with
  | .slice _=>match a with
   | .ms id n i len=>match σ[id]? with
    | some (.cells _ _ l)=>if l.length=n/\i+len<=n then(if len=0 then Jw σ else .ok (.z (.bool false)) σ) else .bad
    | _=>.bad
   | .sl _ _ l=>if l.isEmpty then Jw σ else .ok (.z (.bool false)) σ
   | _=>.bad
  | _=>.bad
 | none=>.bad
section
variable {P:Program} {T:ZR} {S:κ} {B:Z5} {H:Τ} {σ:Ξ}
theorem LD (g:Zv P T) (d:Holds S B σ H) {a:TypeId} {i:VX} (hi:T a=some i) {e:TypeId} (h:i.ZE=.slice e) (p q:Operand) (base:Option Addr) (len cap:Nat) {f:YP}
  (j:∀K,f.holds K->K (.z (.bool base.isNone)) σ):YS P (do eqGuard .eql a p q (.slice base len cap) (.slice none 0 0);binOp .eql a (.slice base len cap) (.slice none 0 0)) S B H σ f:=by
 intro K c;have c:=j K c;refine Φ.bind' ?_;unfold eqGuard;refine Φ.pure' ?_;have k:binOp .eql a (.slice base len cap) (.slice none 0 0)=(do pure (Value.bool (<-Op.equal a (.slice base len cap) (.slice none 0 0)))):=rfl;rw[k];refine Φ.bind' ?_;unfold Op.equal;unfold Op.equalIn;refine Φ.bind' (g.ZE hi ?_);rw[h];cases base with
 | none=>exact Φ.pure' (Φ.pure' (.same d c (.z _)))
 | some b=>exact Φ.pure' (Φ.pure' (.same d c (.z _)))
theorem Hf {K:Ψ->Ξ->Prop} (h:(Jw σ).holds K) (b:Bool):K (.z (.bool b)) σ:=by
 cases b
 .exact h 0 ZT
 .exact h 1 ZT
theorem yA (d:Zv P T) (f:Holds S B σ H) (m:TypeId) (p q:Operand) {a:Ψ} {v:Value} (s:υ S B σ a v):YS P (do eqGuard .eql m p q v (.slice none 0 0);binOp .eql m v (.slice none 0 0)) S B H σ (Jv T m σ a):=by
 unfold Jv;split
 .rename_i i hi;split
  .rename_i e g;split
   .rename_i id n j len;split
    .rename_i t k l x;split
     .rename_i y;cases s with
      | @ms _ _ _ _ _ _ _ bo base cap h r C D E u=>
       split
       .exact LD d f hi g p q base len cap λK c=>Hf c _
       .rename_i F;refine LD d f hi g p q base len cap λK c=>?_;rcases u with u|⟨b,N,_,A,_⟩
        .omega
        .rw[A];exact c
      | Vm v h r=>
       rw[x] at h;cases h;exact absurd y.1 (Nat.ne_of_gt r)
     .exact .bad
    .exact .bad
   .rename_i l;cases s with
    | VY base cap h=>exact LD d f hi g p q base 0 cap λK c=>Hf c _
    | sl b o cap w h r=>
     split
     .exact LD d f hi g p q _ _ cap λK c=>Hf c _
     .exact LD d f hi g p q _ _ cap λK c=>c
   .exact .bad
  .exact .bad
 .exact .bad
end
def Y8.or (r:Y8) (σ:Ξ) (s:YP):YP:=match r with
 | .ok a=>.ok a σ
 | .Y0 p r=>.Y0 p (r.Yo σ)
 | .bad=>s
def Rz (A:ο) (d:Option Tmp):Bool:=match d with|some d=>A.contains d|none=>false
def P4 (env:Β) (a:Array (Nat×Operand)):List (Nat×Ψ):=a.toList.map λp=>(p.1,ε env p.2)
def Nb (c a b:Ψ):Y8:=match c with
 | .z (.bool v)=>match a,b with
  | .z (.bool x),.z (.bool y)=>.ok (.z (.bool (bif v then x else y)))
  | _,_=>match v with|true=>.ok a|false=>.ok b
 | _=>.bad
def P3 (T:ZR) (σ:Ξ) (src dst:TypeId) (x:Ψ):Y8:=match Nd T src dst x with
 | .bad=>match Jx T src dst x with
  | .bad=>Pj T src dst σ x
  | r=>r
 | r=>r
def Vt (T:ZR) (A:ο) (env:Β) (o:Oper):Y8:=
 match o.op with
 | .move x=>.ok (ε env x)
 | .assign x=>.ok (ε env x)
 | .pick c a b=>Nb (ε env c) (ε env a) (ε env b)
 | .alloc e=>if Rz A o.dst then .bad else JY T e
 | .box _ x=>if Rz A o.dst then .bad else Ni (ε env x)
 | .build e g=>Ty T (Ψ.Yr []) e (P4 env g)
 | .buildSlice e n g=>if Rz A o.dst then .bad else LM T (Ψ.Yr []) e n (P4 env g)
 | .load e x=>J9 T e (ε env x)
 | .binOp h e x y _=>JB T h e (ε env x) (ε env y)
 | .unOp h _ x=>Nm h (ε env x)
 | .convert s d x=>P3 T [] s d (ε env x)
 | .index e x i=>JA T e (ε env x) (ε env i)
 | .nilCheck x=>Jz (ε env x)
 | .sliceToArrayPointer e x=>Jy T e (ε env x)
 | .makeInterface e x=>J' T e (ε env x)
 | .makeFunc f j cs=>.ok (.fn f (j.toList.map (ε env)) (cs.toList.map (ε env)))
 | .makeSlice e n c=>if Rz A o.dst then .bad else JV T e (ε env n) (ε env c)
 | .slice e x lo hi none=>JO T e (ε env x) (lo.map (ε env)) (hi.map (ε env))
 | .fieldAddr e x f=>J7 T e f (ε env x)
 | .indexAddr e x i=>J5 T e (ε env x) (ε env i)
 | .typeAssert x _ e k=>Ol T e k (ε env x)
 | .extract x i=>Ka i (ε env x)
 | .call ⟨.builtin b,⟨[x]⟩,⟨[e]⟩⟩=>match b with
  | .len=>JM T e (ε env x)
  | _=>.bad
 | .call ⟨.builtin b,⟨[x,y]⟩,⟨[l,e]⟩⟩=>match b with
  | .max=>JK [ε env x,ε env y]
  | .append=>if Rz A o.dst then .bad else P6 T l e (Ψ.Yr []) [] (ε env x) (ε env y)
  | _=>.bad
 | _=>.bad
def V2 (T:ZR) (A:ο) (env:Β) (σ:Ξ) (o:Oper):YP:=
 match o.op with
 | .alloc a=>if Rz A o.dst then JZ T a σ else .bad
 | .box a x=>if Rz A o.dst then Nh a σ (ε env x) else J0 σ (ε env x)
 | .build a e=>(Ty T (Ψ.Yr σ) a (P4 env e)).Yo σ
 | .buildSlice a n e=>if Rz A o.dst then JX T a n (P4 env e) σ else(LM T (Ψ.Yr σ) a n (P4 env e)).Yo σ
 | .load a x=>SD T a σ (ε env x)
 | .store a p x=>J3 T a σ (ε env p) (ε env x)
 | .convert s d x=>(P3 T σ s d (ε env x)).Yo σ
 | .nilCheck x=>Oe σ (ε env x)
 | .binOp .eql a x (.const (.slice none 0 0)) _=>Jv T a σ (ε env x)
 | .makeMap _ none=>Hi σ
 | .mapUpdate a m k x=>LH T a σ (ε env m) (ε env k) (ε env x)
 | .insert a m k x=>LH T a σ (ε env m) (ε env k) (ε env x)
 | .lookup a x k j=>JH T a j σ (ε env x) (ε env k)
 | .range a x=>JG T a σ (ε env x)
 | .next g false=>JF σ (ε env g)
 | .entry g=>JE σ (ε env g)
 | .makeSlice a n c=>if Rz A o.dst then JW T a (ε env n) (ε env c) σ else .bad
 | .slice a x lo hi none=>JN T a σ (ε env x) (lo.map (ε env)) (hi.map (ε env))
 | .fieldAddr a x f=>SC T a f σ (ε env x)
 | .indexAddr a x i=>SB T a σ (ε env x) (ε env i)
 | .call ⟨.builtin b,⟨[x]⟩,⟨[a]⟩⟩=>match b with
  | .len=>JL T a σ (ε env x)
  | .clear=>JC T a σ (ε env x)
  | _=>.bad
 | .call ⟨.builtin b,⟨[x,y]⟩,⟨[h,a]⟩⟩=>match b with
  | .append=>if Rz A o.dst then JQ T h a σ (ε env x) (ε env y) else(P6 T h a (Ψ.Yr σ) σ (ε env x) (ε env y)).Yo σ
  | _=>.bad
 | _=>.bad
section
variable {P:Program} {T:ZR} {A:ο} {S:κ} {B:Z5} {H:Τ} {σ:Ξ} {env:Β} {t:ζ}
theorem Y8.yz {s:Sem Next} {r:Y8} {a:YP} (b:Does P s S B H σ (r.Yo σ)) (c:Does P s S B H σ a):Does P s S B H σ (r.or σ a):=by
 cases r with
 | ok x=>exact b
 | Y0 p r=>exact b
 | bad=>exact c
theorem yy (e:Holds S B σ H) {c a b:Ψ} {u v w:Value} (h:υ S B σ c u) (f:υ S B σ a v) (g:υ S B σ b w):YS P (do pure (if <-asBool u then v else w)) S B H σ ((Nb c a b).Yo σ):=by
 unfold Nb;split
 .rename_i x;cases h;split
  .rename_i p q;cases f;cases g;intro K d;refine Φ.bind' (Φ.pure' (Φ.pure' ?_));cases x
   .exact .same e d (.z _)
   .exact .same e d (.z _)
  .cases x
   .exact λK d=>Φ.bind' (Φ.pure' (Φ.pure' (.same e d g)))
   .exact λK d=>Φ.bind' (Φ.pure' (Φ.pure' (.same e d f)))
 .exact .bad
theorem yx (g:Yv S B σ env t) (f:Fn) (e cs:Array Operand):υ S B σ (.fn f (e.toList.map (ε env)) (cs.toList.map (ε env))) (.func f (e.map (ZJ t)) (cs.map (ZJ t))):=by
 refine .fn _ _ Ω Ω (λi a v b c=>?_) (λi a v b c=>?_)
 .rw[Yc] at b;rw[Px] at c;rw[Wh] at b;cases d:e[i]? with
  | none=>rw[d] at b;cases b
  | some x=>rw[d] at b c;cases b;cases c;exact T3 g x
 .rw[Yc] at b;rw[Px] at c;rw[Wh] at b;cases d:cs[i]? with
  | none=>rw[d] at b;cases b
  | some x=>rw[d] at b c;cases b;cases c;exact T3 g x
theorem Ju (a:Yv S B σ env t) (o:Option Operand):Oi S B σ (o.map (ε env)) (o.map (ZJ t)):=by
 cases o with
 | none=>trivial
 | some x=>exact T3 a x
theorem Ek {a:Ψ} {r:Nat×μ} (h:RB [] a=some r):RB σ a=some r:=by
 cases a<;>first|exact h|(simp[RB] at h)
theorem yw {st xt:TypeId} {s x:Ψ}:P6 T st xt (Ψ.Yr []) [] s x=.bad\/P6 T st xt (Ψ.Yr []) [] s x=P6 T st xt (Ψ.Yr []) σ s x:=by
 unfold P6;cases a:RB [] x with
 | none=>left;split<;>simp_all
 | some r=>rw[Ek a];exact .inr rfl
theorem Ej (a:Zv P T) (b:Holds S B σ H) (src dst:TypeId) {x:Ψ} {v:Value} (c:υ S B σ x v):YS P (convert src dst v) S B H σ ((P3 T σ src dst x).Yo σ):=by
 have d:=y5 a b src dst c
 have e:=yD a b src dst c;unfold P3;split
 .split
  .exact yB a b src dst c
  .exact e
 .exact d
theorem yv {src dst:TypeId} {x:Ψ}:Pj T src dst [] x=.bad\/Pj T src dst [] x=Pj T src dst σ x:=by
 unfold Pj;split
 .cases a:RB [] x with
  | none=>exact .inl rfl
  | some r=>rw[Ek a];exact .inr rfl
 .exact .inl U
theorem yu {src dst:TypeId} {x:Ψ}:P3 T [] src dst x=.bad\/P3 T [] src dst x=P3 T σ src dst x:=by
 unfold P3;split
 .split
  .exact yv
  .exact .inr U
 .exact .inr U
theorem yt (f:Zv P T) (d:Holds S B σ H) (i:Yv S B σ env t) (o:Oper):Does P (execOp (ZJ t) o) S B H σ ((Vt T A env o).Yo σ):=by
 have R:∀x,υ S B σ (ε env x) (ZJ t x):=λx=>T3 i x;obtain⟨dst,m,n,pos,p,guard⟩:=o;unfold Vt;simp only;split
 .exact Does.val d (R _)
 .exact Does.val d (R _)
 .rename_i c a b;have:=(yy (P:=P) d (R c) (R a) (R b)).next;unfold execOp;simp only;refine λK g=>?_;have j:=this K g;simpa using j
 .split
  .exact .bad
  .exact(zj f d _).next
 .split
  .exact .bad
  .exact(zm d _ (R _)).next
 .exact(EA f d (λa h=>J2 h) _ i _).next
 .split
  .exact .bad
  .exact(Ey f d (λa h=>J2 h) _ _ i _).next
 .exact(zx f d (R _)).next
 .exact(yI f d _ _ _ _ (R _) (R _)).next
 .exact(zB d _ (R _)).next
 .rename_i a b x;rcases yu (T:=T) (σ:=σ) (src:=a) (dst:=b) (x:=ε env x) with h|h
  .rw[h];exact .bad
  .rw[h];exact(Ej f d _ _ (R _)).next
 .exact(yH f d _ (R _) (R _)).next
 .exact yG d U (R _)
 .exact(yE f d _ (R _)).next
 .exact(zz f d _ (R _)).next
 .exact YS.next (YS.pure d (yx i _ _ _))
 .split
  .exact .bad
  .exact(zf f d (R _) (R _)).next
 .exact(y9 f d _ (R _) (Ju i _) (Ju i _)).next
 .exact(zv f d (R _)).next
 .exact(zr f d (R _) (R _)).next
 .exact(zy f d _ _ _ (R _)).next
 .exact(zA d _ (R _)).next
 .split
  .exact λK g=>by
       refine Φ.bind' (Φ.pure' ?_);have e:∀x:Operand,Array.map (ZJ t) {toList:=[x]}=#[ZJ t x]:=λx=>Ω;simp only[invoke,builtin,e];exact(y7 f d _ _ (R _)).next K g
  .exact .bad
 .split
  .exact λK g=>by
       refine Φ.bind' (Φ.pure' ?_);have e:∀x y:Operand,Array.map (ZJ t) {toList:=[x,y]}=#[ZJ t x,ZJ t y]:=λx y=>Ω;simp only[invoke,builtin,e];exact(y4 d _ _ (R _) (R _)).next K g
  .split
   .exact .bad
   .rename_i x y k l _ _;rcases yw (T:=T) (σ:=σ) (st:=k) (xt:=l) (s:=ε env x) (x:=ε env y) with h|h
    .rw[h];exact .bad
    .rw[h];exact λK g=>by
       refine Φ.bind' (Φ.pure' ?_);have e:∀x y:Operand,Array.map (ZJ t) {toList:=[x,y]}=#[ZJ t x,ZJ t y]:=λx y=>Ω;simp only[invoke,builtin,e];exact(Ev f d (λa h=>J2 h) _ _ _ (R _) (R _)).next K g
  .exact .bad
 .exact .bad
theorem ys (c:Zv P T) (b:Holds S B σ H) (f:Yv S B σ env t) (o:Oper):Does P (execOp (ZJ t) o) S B H σ (V2 T A env σ o):=by
 have R:∀x,υ S B σ (ε env x) (ZJ t x):=λx=>T3 f x;obtain⟨dst,g,i,pos,j,guard⟩:=o;unfold V2;simp only;split
 .split
  .exact(zk c b _).next
  .exact .bad
 .split
  .exact(zl b _ (R _)).next
  .exact(zn b _ (R _)).next
 .exact(EA c b (λa h=>h) _ f _).next
 .split
  .exact(zh c b _ _ f _).next
  .exact(Ey c b (λa h=>h) _ _ f _).next
 .exact(zw c b (R _)).next
 .exact(zo c b (R _) (R _)).next
 .exact(Ej c b _ _ (R _)).next
 .exact yF b U (R _)
 .exact(yA c b _ _ _ (R _)).next
 .exact(yU b _).next
 .exact(Eo c b (R _) (R _) (R _)).next
 .exact(Eo c b (R _) (R _) (R _)).next
 .exact(yT c b (R _) (R _)).next
 .exact(yS c b (R _)).next
 .exact(yO b _ (R _)).next
 .exact(yN b (R _)).next
 .split
  .exact(zg c b (R _) (R _)).next
  .exact .bad
 .exact(y8 c b _ (R _) (Ju f _) (Ju f _)).next
 .exact(zu c b (R _)).next
 .exact(zq c b (R _) (R _)).next
 .split
  .exact λK d=>by
       refine Φ.bind' (Φ.pure' ?_);have e:∀x:Operand,Array.map (ZJ t) {toList:=[x]}=#[ZJ t x]:=λx=>Ω;simp only[invoke,builtin,e];exact(y6 c b _ _ (R _)).next K d
  .exact λK d=>by
       refine Φ.bind' (Φ.pure' ?_);have e:∀x:Operand,Array.map (ZJ t) {toList:=[x]}=#[ZJ t x]:=λx=>Ω;simp only[invoke,builtin,e];exact(yK c b _ (R _)).next K d
  .exact .bad
 .split
  .split
   .exact λK d=>by
       refine Φ.bind' (Φ.pure' ?_);have e:∀x y:Operand,Array.map (ZJ t) {toList:=[x,y]}=#[ZJ t x,ZJ t y]:=λx y=>Ω;simp only[invoke,builtin,e];exact(za c b _ _ _ (R _) (R _)).next K d
   .exact λK d=>by
       refine Φ.bind' (Φ.pure' ?_);have e:∀x y:Operand,Array.map (ZJ t) {toList:=[x,y]}=#[ZJ t x,ZJ t y]:=λx y=>Ω;simp only[invoke,builtin,e];exact(Ev c b (λa h=>h) _ _ _ (R _) (R _)).next K d
  .exact .bad
 .exact .bad
end
inductive ς (h:Nat):Ψ->Prop where
 | z (v:Value):ς h (.z v)
 | ξ {l:μ}:(∀a∈l,ς h a)->ς h (.ξ l)
 | sl {ex:Bool} {k:Nat} {l:μ}:(∀e∈l,∀a∈e.cells,ς h a)->ς h (.sl ex k l)
 | ZW {l:μ}:(∀a∈l,ς h a)->ς h (.ZW l)
 | ZY {l:μ}:(∀a∈l,ς h a)->ς h (.ZY l)
 | Δ {id n i j:Nat}:id<h->ς h (.Δ id n i j)
 | ms {id n i len:Nat}:id<h->ς h (.ms id n i len)
 | fn {f:Fn} {b cs:μ}:(∀a∈b,ς h a)->(∀a∈cs,ς h a)->ς h (.fn f b cs)
 | W6 {t:TypeId} {a:Ψ}:ς h a->ς h (.W6 t a)
 | mp {id:Nat}:id<h->ς h (.mp id)
 | it {id:Nat}:id<h->ς h (.it id)
 | Ze:ς h .Ze
def XF (h:Nat):Row->Prop
 | .cells _ _ l=>∀e∈l,∀a∈e.cells,ς h a
 | .map es=>∀e∈es,ς h e.1/\ς h e.2
 | .iter m left b=>m<h/\(∀e∈left,ς h e.1/\ς h e.2)/\∀e,b=some e->ς h e.1/\ς h e.2
 | .dead=>True
inductive X' (h:Nat) (σ:Ξ):Ψ->Ψ->Prop where
 | low {a:Ψ}:ς h a->X' h σ a a
 | Ze (a:Ψ):X' h σ a .Ze
 | ms {id n i len k:Nat} {t:TypeId} {l c:μ}:h<=id->σ[id]?=some (.cells t k l)->l.length=n->i+len<=n->c.length=len->
   (∀(j:Nat) (e d:Ψ),l[i+j]?=some e->c[j]?=some d->d.cells.length=e.cells.length)->(∀(j:Nat) (e d:Ψ),l[i+j]?=some e->c[j]?=some d->∀(x:Nat) (a b:Ψ),e.cells[x]?=some a->d.cells[x]?=some b->X' h σ a b)->X' h σ (.ms id n i len) (.sl false k c)
 | Δ {id n i j k:Nat} {t:TypeId} {l cs:μ} {e:Ψ}:h<=id->σ[id]?=some (.cells t k l)->l.length=n->l[i]?=some e->cs.length<=e.cells.length-j->
   (∀(x:Nat) (a b:Ψ),e.cells[j+x]?=some a->cs[x]?=some b->X' h σ a b)->X' h σ (.Δ id n i j) (.ξ cs)
 | ZW {l c:μ}:c.length=l.length->(∀(x:Nat) (a b:Ψ),l[x]?=some a->c[x]?=some b->X' h σ a b)->X' h σ (.ZW l) (.ZW c)
 | ZY {l c:μ}:c.length=l.length->(∀(x:Nat) (a b:Ψ),l[x]?=some a->c[x]?=some b->X' h σ a b)->X' h σ (.ZY l) (.ZY c)
 | fn {f:Fn} {g m cs cs':μ}:m.length=g.length->cs'.length=cs.length->(∀(x:Nat) (a b:Ψ),g[x]?=some a->m[x]?=some b->X' h σ a b)->(∀(x:Nat) (a b:Ψ),cs[x]?=some a->cs'[x]?=some b->X' h σ a b)->X' h σ (.fn f g cs) (.fn f m cs')
section
variable {S:κ} {B:Z5} {H:Τ} {σ:Ξ} {h:Nat}
def Late (B:Z5) (σ:Ξ) (h b:Nat):Prop:=∃id t k l N,h<=id/\σ[id]?=some (Row.cells t k l)/\B[id]?=some (some (b,N))
open Classical in
noncomputable def κ.close (S:κ) (B:Z5) (σ:Ξ) (H:Τ) (h:Nat):κ:=λb o=>if Late B σ h b then(H.η b o).map (·.1) else S b o
theorem Jt (a:Holds S B σ H):∀b o v,S b o=some v->S.close B σ H h b o=some v:=λb o v hv=>by
 unfold κ.close;split
 .rename_i c;obtain⟨id,t,k,l,N,f,d,e⟩:=c;have:=a.sep id _ b N d trivial e o;rw[hv] at this;cases this
 .exact hv
theorem υ.QU (s:Holds S B σ H) {a:Ψ} {v:Value} (t:υ S B σ a v) (d:ς h a):υ (S.close B σ H h) (B.take h) (σ.take h) a v:=by
 have k:∀{u:Type} (l:List u) (i:Nat),i<h->(l.take h)[i]?=l[i]?:=λl i hi=>S' hi
 induction t with
 | z v=>exact .z v
 | ξ b o w f _ m=>
  cases d with
  | ξ d=>exact .ξ b o w (λj a n=>Jt s _ _ _ (f j a n)) λj a n=>m j a n (d a (Y1 n))
 | VY base cap h=>exact .VY base cap h
 | sl b o cap w f g p r _ m=>
  cases d with
  | sl d=>exact .sl b o cap w f g p (λi e hi j c n=>Jt s _ _ _ (r i e hi j c n)) λi e hi j c n=>m i e hi j c n (d e (Y1 hi) c (Y1 n))
 | ZW vs f _ m=>
  cases d with
  | ZW d=>exact .ZW vs f λi a v hi hv=>m i a v hi hv (d a (Y1 hi))
 | ZY vs f _ m=>
  cases d with
  | ZY d=>exact .ZY vs f λi a v hi hv=>m i a v hi hv (d a (Y1 hi))
 | Δ f g p=>
  cases d with
  | Δ d=>exact .Δ (by rw[k _ _ d];exact f) g (by rw[k _ _ d];exact p)
 | U8 v f g=>
  cases d with
  | Δ d=>exact .U8 v (by rw[k _ _ d];exact f) g
 | ms cap f g p r x y=>
  cases d with
  | ms d=>exact .ms cap (by rw[k _ _ d];exact f) g (by rw[k _ _ d];exact p) r x y
 | Vm v f g=>
  cases d with
  | ms d=>exact .Vm v (by rw[k _ _ d];exact f) g
 | fn vs A f g _ _ C D=>
  cases d with
  | fn E F=>exact .fn vs A f g (λi a v hi hv=>C i a v hi hv (E a (Y1 hi))) λi a v hi hv=>D i a v hi hv (F a (Y1 hi))
 | W6 v _ m=>
  cases d with
  | W6 d=>exact .W6 v (m d)
 | mp f g=>
  cases d with
  | mp d=>exact .mp (by rw[k _ _ d];exact f) (by rw[k _ _ d];exact g)
 | T4 v f=>
  cases d with
  | mp d=>exact .T4 v (by rw[k _ _ d];exact f)
 | it f g=>
  cases d with
  | it d=>exact .it (by rw[k _ _ d];exact f) (by rw[k _ _ d];exact g)
 | SZ v f=>
  cases d with
  | it d=>exact .SZ v (by rw[k _ _ d];exact f)
 | Ze v=>exact .Ze v
theorem Ei {id b N:Nat} {t:TypeId} {k:Nat} {l:μ} (a:h<=id) (c:σ[id]?=some (.cells t k l)) (d:B[id]?=some (some (b,N))) {o:Nat} {v:Value} {p:Bool} (hv:H.η b o=some (v,p)):S.close B σ H h b o=some v:=by
 unfold κ.close;rw[if_pos ⟨id,t,k,l,N,a,c,d⟩,hv];rfl
theorem υ.yr (L:Holds S B σ H) {a c:Ψ} (V:X' h σ a c):∀{v:Value},υ S B σ a v->υ (S.close B σ H h) (B.take h) (σ.take h) c v:=by
 induction V with
 | low W=>intro v o;exact o.QU L W
 | Ze a=>intro v _;exact .Ze v
 | @ms id n i len k t l M m g X O E R _ A=>
  intro v o;cases o with
  | ms cap d p C T ab P=>
   rw[g] at d;cases d;by_cases U:M=[]
   .subst U;have:len=0:=by rw[<-E];rfl
    subst this;exact .VY _ _ Ω
   .have ad:0<len:=by rw[<-E];exact RN.2 U
    rcases P with P|⟨b,N,rfl,rfl,P⟩
    .omega
    .obtain⟨_,_,_,w,D⟩:=L.row id _ _ g C;have el:∀(j:Nat) (r:Ψ),M[j]?=some r->∃e,l[i+j]?=some e/\e.cells.length=k/\r.cells.length=k:=λj r u=>by
      have y:j<len:=by rw[<-E];exact(Zo.1 u).1
      have F:l[i+j]?=some l[i+j]:=Z7 J;exact⟨_,F,(D _ _ F).1,(R j _ r F u).trans (D _ _ F).1⟩
     have:=υ.sl (S:=S.close B σ H h) (B:=B.take h) (σ:=σ.take h) (ex:=false) (k:=k) (l:=M) b (i*k) cap (λj x=>w (i+j) x) Ω J (λj r u=>(el j r u).choose_spec.2.2)
      (λj r u x c s=>by
       obtain⟨e,I,Ρ,Q⟩:=el j r u;have K:x<e.cells.length:=by rw[Ρ,<-Q];exact(Zo.1 s).1
       have:=((D _ e I).2 x _ (Z7 K)).1;rw[Wg] at this;exact Ei m g C this)
      (λj r u x c s=>by
       obtain⟨e,I,Ρ,Q⟩:=el j r u;have K:x<e.cells.length:=by rw[Ρ,<-Q];exact(Zo.1 s).1
       exact A j e r I u x _ c (Z7 K) s ((D _ e I).2 x _ (Z7 K)).2.1)
     rw[E] at this;exact this
  | Vm v d p=>rw[g] at d;cases d;simp only[Row.Wo] at p;omega
 | @Δ id n i j k t l cs e m g X O E R A=>
  intro v o;cases o with
  | Δ d p C=>
   rw[g] at d;cases d;obtain⟨_,_,_,w,D⟩:=L.row id _ _ g C;have el:∀(x:Nat) (c:Ψ),cs[x]?=some c->∃a,e.cells[j+x]?=some a:=λx c s=>by
    have:=(Zo.1 s).1;exact⟨_,Z7 J⟩
   refine .ξ _ _ (λx=>w i (j+x)) (λx c s=>?_) (λx c s=>?_)
   .obtain⟨a,f⟩:=el x c s;have:=((D i e O).2 _ a f).1;rw[<-Ub] at this;exact Ei m g C this
   .obtain⟨a,f⟩:=el x c s;exact A x a c f s ((D i e O).2 _ a f).2.1
  | U8 v d p=>rw[g] at d;cases d;simp only[Row.Wo] at p;omega
 | ZW m g A=>
  intro v o;cases o with
  | ZW vs d p=>
   refine .ZW vs (by rw[m,d]) λi c w hi hv=>?_;have y:=(Zo.1 hi).1;have f:=Z7 (m▸y);exact A i _ c f hi (p i _ w f hv)
 | ZY m g A=>
  intro v o;cases o with
  | ZY vs d p=>
   refine .ZY vs (by rw[m,d]) λi c w hi hv=>?_;have y:=(Zo.1 hi).1;have f:=Z7 (m▸y);exact A i _ c f hi (p i _ w f hv)
 | fn m g _ _ Y Z=>
  intro v o;cases o with
  | fn vs aa d p C T=>
   refine .fn vs aa (by rw[m,d]) (by rw[g,p]) (λi c w hi hv=>?_) (λi c w hi hv=>?_)
   .have y:=(Zo.1 hi).1
    have f:=Z7 (m▸y);exact Y i _ c f hi (C i _ w f hv)
   .have y:=(Zo.1 hi).1
    have f:=Z7 (g▸y);exact Z i _ c f hi (T i _ w f hv)
theorem U7.QU (f:Holds S B σ H) {r:Row} {bo:Option (Nat×Nat)} (v:U7 S B σ H r bo) (A:XF h r):U7 (S.close B σ H h) (B.take h) (σ.take h) H r bo:=by
 have F:∀{M:Type} (l:List M) (i:Nat),i<h->(l.take h)[i]?=l[i]?:=λl i hi=>S' hi;cases r with
 | cells t k l=>
  cases bo with
  | none=>exact v
  | some x=>
   obtain⟨b,N⟩:=x;obtain⟨n,o,p,w,g⟩:=v;refine⟨n,o,p,w,λi e hi=>⟨(g i e hi).1,λj a I=>?_⟩⟩;obtain⟨s,u,C⟩:=(g i e hi).2 j a I;exact⟨s,u.QU f (A e (Y1 hi) a (Y1 I)),C⟩
 | map es=>
  obtain⟨b,N,xs,D,rfl,n,o,p,g⟩:=v;exact⟨b,N,xs,D,U,n,o,λi e y a b=>by
   obtain⟨s,u,C⟩:=p i e y a b;exact⟨s.QU f (A e (Y1 a)).1,u.QU f (A e (Y1 a)).2,C⟩,g⟩
 | iter m left Y=>
  obtain⟨J,K,L⟩:=A;obtain⟨b,N,O,P,xs,D,seen,rfl,n,o,p,g,⟨Q,R,T,V⟩,W,X⟩:=v;refine⟨b,N,O,P,xs,D,seen,U,by rw[F _ _ J];exact n,by rw[F _ _ J];exact o,p,g,⟨Q,R,T,λi e y a b=>?_⟩,W,λe E=>?_⟩
  .obtain⟨s,u⟩:=V i e y a b;exact⟨s.QU f (K e (Y1 a)).1,u.QU f (K e (Y1 a)).2⟩
  .obtain⟨st,y,a,b,c,d⟩:=X e E;exact⟨st,y,a,b,c.QU f (L e E).1,d.QU f (L e E).2⟩
 | dead=>trivial
theorem Holds.close (a:Holds S B σ H) (u:∀(id:Nat) (r:Row),id<h->σ[id]?=some r->XF h r) :
  Holds (S.close B σ H h) (B.take h) (σ.take h) H/\Ext S B H (S.close B σ H h) (B.take h) H:=by
 have c:∀{n:Type} (l:List n) (i:Nat) (x:n),(l.take h)[i]?=some x->i<h/\l[i]?=some x:=λl i x hi=>by
  rw[OH] at hi;split at hi
  .exact⟨‹_›,hi⟩
  .cases hi
 refine⟨⟨λb o v hv=>?_,by simp[a.len],λid r bo g m=>?_,λi j w y b A C D hi E F I K L=>?_,λid r b N g f m o=>?_⟩,⟨Jt a,λb _ _=>SY.of ⟨λ_=>rfl,U,U⟩,λb ⟨N,M⟩=>.inl ⟨N,KH M⟩,λb o v hv=>?_,λ_ h=>h⟩⟩
 .unfold κ.close at hv;split at hv
  .cases p:H.η b o with
   | none=>rw[p] at hv;cases hv
   | some x=>rw[p] at hv;cases hv;exact⟨x.2,rfl⟩
  .exact a.Yy b o v hv
 .obtain⟨s,e⟩:=c _ _ _ g;obtain⟨_,d⟩:=c _ _ _ m;exact(a.row id r bo e d).QU a (u id r s e)
 .exact a.inj i j w y b A C D (c _ _ _ hi).2 (c _ _ _ E).2 F I (c _ _ _ K).2 (c _ _ _ L).2
 .obtain⟨s,e⟩:=c _ _ _ g;obtain⟨_,d⟩:=c _ _ _ m;unfold κ.close;rw[if_neg]
  .exact a.sep id r b N e f d o
  .rintro⟨O,t,k,l,P,T,Q,R⟩;exact a.inj id O r _ b N P J e Q f trivial d R
 .unfold κ.close at hv;split at hv
  .rename_i f;obtain⟨id,t,k,l,N,_,_,d⟩:=f;exact .inr (.inl (R7 d))
  .exact .inl hv
theorem Zm.close {a:κ} {c:Z5} {σ0:Ξ} (g:Holds S B σ H) (d:Zm a S c B σ0 σ) (i:σ0.length<=h):Zm a (S.close B σ H h) c (B.take h) σ0 (σ.take h):=
 ⟨λb o v hv=>Jt g b o v (d.Yy b o v hv),λid r e=>by
  have f:id<h:=KG (Zo.1 e).1 i;obtain⟨r',j,k⟩:=d.rows id r e;exact⟨r',by rw[S' f];exact j,by rw[S' f];exact k⟩⟩
end
end Go.TL
namespace Go.TL
open Go.Conc
variable [ZP]
structure XE (m:Nat) (S:κ) (B:Z5) (H:Τ) (σ:Ξ) (a:κ) (B':Z5) (H':Τ) (σ':Ξ):Prop where
 ext:Ext S B H a B' H'
 later:Zm S a (B.take m) B' (σ.take m) σ'
structure Xb (m nt:Nat) (S:κ) (B:Z5) (H:Τ) (σ:Ξ) (env:Β) (t:ζ):Prop where
 holds:Holds S B σ H
 Y7:Yv S B σ env t
 size:t.size=nt
 rows:m<=σ.length
section
variable {m:Nat} {S Yl Eh:κ} {B B' Eg:Z5} {H H' Ef:Τ} {σ σ' Ee:Ξ}
theorem Zm.left (h:Zm S Yl B B' σ σ') (m:Nat):Zm S Yl (B.take m) B' (σ.take m) σ':=
 ⟨h.Yy,λid r a=>by
  rw[OH] at a;split at a
  .rename_i b;rw[S' b];exact h.rows id r a
  .cases a⟩
theorem Zm.right (h:Zm S Yl B B' σ σ') (c:σ.length<=m):Zm S Yl B (B'.take m) σ (σ'.take m):=
 ⟨h.Yy,λid r a=>by
  have b:id<m:=KG (Zo.1 a).1 c;rw[S' b,S' b];exact h.rows id r a⟩
theorem XE.of (h:Ext S B H Yl B' H') (k:Zm S Yl B B' σ σ'):XE m S B H σ Yl B' H' σ':=⟨h,k.left m⟩
theorem XE.refl:XE m S B H σ S B H σ:=.of (.refl _ _ _) (.refl _ _ _)
theorem XE.trans (h:XE m S B H σ Yl B' H' σ') (k:XE m Yl B' H' σ' Eh Eg Ef Ee):XE m S B H σ Eh Eg Ef Ee:=
 ⟨h.ext.trans k.ext,(h.later.right (m:=m) (by simp;omega)).trans k.later⟩
theorem Zm.length (h:Zm S Yl B B' σ σ'):σ.length<=σ'.length:=by
 apply Tb;intro c;have a:σ'.length<σ.length:=J;obtain⟨r',b,_⟩:=h.rows σ'.length _ (Z7 a);simp at b
end
def Leaves (j:Zz) (k:Zz):Prop:=k=j
def W (P:Program) (m nt:Nat) (k:Zz) (env:Β) (σ:Ξ) (Z:XO) (E:Ya):Prop:=
 ∀(e:Value->Prop) (mn:Bool) (x:WA) (cs:YU) (b:Frame) (S:κ) (B:Z5) (H:Τ) (t:ζ),Seq x->b.mode=.run->Xb m nt S B H σ env t->
  (∀(j:Zz) (env':Β) (σ':Ξ) (c:κ) (B':Z5) (H':Τ) (t':ζ) (d:Zz),Z j env' σ'->XE m S B H σ c B' H' σ'->Xb m nt c B' H' σ' env' t'->Leaves j d->γ P e mn x (π b t' d) cs H')->
  (∀(a:Ψ) (env':Β) (σ':Ξ) (c:κ) (B':Z5) (H':Τ) (t':ζ) (d:Zz) (v:Value),E a env' σ'->XE m S B H σ c B' H' σ'->Holds c B' σ' H'->Yv c B' σ' env' t'->υ c B' σ' a v->γ P e mn x {π b t' d with mode:=.panicking [{v,recovered:=false}]} cs H')->
  γ P e mn x (π b t k) cs H
section
variable {P:Program} {m nt:Nat} {k:Zz} {env:Β} {σ:Ξ} {Z:XO} {E:Ya}
theorem W.stop (h:Z k env σ):W P m nt k env σ Z E:=λ_ _ _ _ _ S B H t _ _ a b _=>b k env σ S B H t k h .refl a rfl
theorem W.nil (h:Z [] env σ):W P m nt [] env σ Z E:=.stop h
theorem W.ret (h:Z (.code .ret::k) env σ):W P m nt (.code .ret::k) env σ Z E:=.stop h
theorem W.skip (h:W P m nt k env σ Z E):W P m nt (.code .skip::k) env σ Z E:=λd mn x cs b S B H t a c e f g=>.skip a c (h d mn x cs b S B H t a c e f g)
theorem W.inBlock {l:Nat} (h:W P m nt k env σ Z E):W P m nt (.inBlock l::k) env σ Z E:=λd mn x cs b S B H t a c e f g=>.inBlock a c (h d mn x cs b S B H t a c e f g)
theorem W.seq {a c:Code} (h:W P m nt (.code a::.code c::k) env σ Z E):W P m nt (.code (.seq a c)::k) env σ Z E:=λf mn x cs b S B H t d e g i j=>.seq d e (h f mn x cs b S B H t d e g i j)
theorem W.block {l:Nat} {c:Code} (h:W P m nt (.code c::.inBlock l::k) env σ Z E):W P m nt (.code (.block l c)::k) env σ Z E:=λe mn x cs b S B H t a d f g i=>.block a d (h e mn x cs b S B H t a d f g i)
theorem W.inLoop {c:Code} (h:W P m nt (.code c::.inLoop c::k) env σ Z E):W P m nt (.inLoop c::k) env σ Z E:=λe mn x cs b S B H t a d f g i=>.inLoop a d (h e mn x cs b S B H t a d f g i)
theorem W.loop {c:Code} (h:W P m nt (.code c::.inLoop c::k) env σ Z E):W P m nt (.code (.loop c)::k) env σ Z E:=λe mn x cs b S B H t a d f g i=>.loop a d (h e mn x cs b S B H t a d f g i)
theorem W.exit {id:Nat} {a:Zz} (e:exitTo id k=some a) (h:W P m nt a env σ Z E):W P m nt (.code (.exit id)::k) env σ Z E:=λf mn x cs b S B H t c d g i j=>.exit c d e (h f mn x cs b S B H t c d g i j)
theorem W.cond {c:Operand} {a e:Code} {v:Bool} (i:ε env c=.z (.bool v)) (h:W P m nt (.code (if v then a else e)::k) env σ Z E):W P m nt (.code (.cond c a e)::k) env σ Z E:=λj mn x cs b S B H t d f g l n=>by
 refine .cond (v:=v) d f ?_ (h j mn x cs b S B H t d f g l n);have:=T3 g.Y7 c;rw[i] at this;rw[LV];generalize ZJ t c=u at this;cases this;rfl
theorem W.cut (h:Nat) (Y:m<=h) (env':Β) (aa:h<=σ.length) (F:∀(id:Nat) (r:Row),id<h->σ[id]?=some r->XF h r) (I:∀p∈env',X' h σ (Z3 env p.1) p.2) (J:W P m nt k env' (σ.take h) Z E):W P m nt k env σ Z E:=
 λK mn x cs b S B H t L M c N O=>by
 obtain⟨Q,R⟩:=c.holds.close F;have d:Zm S (S.close B σ H h) (B.take m) (B.take h) (σ.take m) (σ.take h):=by
  have:=Zm.close (h:=h) c.holds ((Zm.refl S B σ).left m) (by simp;omega);exact this
 have D:XE m S B H σ (S.close B σ H h) (B.take h) H (σ.take h):=⟨R,d⟩
 have T:∀(l:Β),(∀p∈l,X' h σ (Z3 env p.1) p.2)->∀i,X' h σ (Z3 env i) (Z3 l i):=by
  intro l
  induction l with
  | nil=>intro _ i;exact .Ze _
  | cons p l U=>
   intro d i;simp only[Z3];split
   .rename_i e;rw[<-e];exact d p Ω
   .exact U (λq V=>d q (by simp[V])) i
 refine J K mn x cs b _ _ H t L M ⟨Q,λi=>(c.Y7 i).yr c.holds (T env' I i),c.size,by simp;omega⟩ (λj f g n o s t2 u w y A C=>?_) (λa f g n o s t2 u v w y A C X=>?_)
 .exact N j f g n o s t2 u w (D.trans y) A C
 .exact O a f g n o s t2 u v w (D.trans y) A C X
end
def XN (S:κ) (B:Z5) (σ:Ξ) (as9:μ) (vs:ζ):Prop:=as9.length=vs.size/\∀(i:Nat) (a:Ψ) (v:Value),as9[i]?=some a->vs[i]?=some v->υ S B σ a v
structure Od (P:Program) (d:Value->Prop) (mn:Bool) (x:WA) (c:Frame) (rest:YU) (S:κ) (B:Z5) (H:Τ) (σ:Ξ) (K:Ψ->Ξ->Prop) (E:Ψ->Ξ->Prop):Prop where
 ret:∀(a:Ψ) (σ':Ξ) (b:κ) (B':Z5) (H':Τ) (v:Value),K a σ'->Ext S B H b B' H'->Zm S b B B' σ σ'->Holds b B' σ' H'->υ b B' σ' a v->γ P d mn x (c.finish v) rest H'
 Na:∀(a:Ψ) (σ':Ξ) (b:κ) (B':Z5) (H':Τ) (v:Value),E a σ'->Ext S B H b B' H'->Zm S b B B' σ σ'->Holds b B' σ' H'->υ b B' σ' a v->γ P d mn x (c.raise [{v,recovered:=false}]) rest H'
def Ed (P:Program) (a:Value->Prop) (mn:Bool) (x:WA) (c:Frame) (rest:YU):Next->Τ->Prop
 | .enter g as9,H=>γ P a mn x (Frame.enter P g as9 .normal) (c::rest) H
 | .round l f b d e,H=>γ P a mn x (Frame.round l f b d e .normal) (c::rest) H
 | .value v,H=>γ P a mn x (c.finish v) rest H
 | _,_=>False
def Wm (P:Program) (f:Ψ) (args:μ) (σ:Ξ) (K:Ψ->Ξ->Prop) (E:Ψ->Ξ->Prop):Prop:=
 ∀(a:Value->Prop) (mn:Bool) (x:WA) (c:Frame) (rest:YU) (S:κ) (B:Z5) (H:Τ) (b:Value) (vs:ζ),Seq x->Holds S B σ H->υ S B σ f b->XN S B σ args vs->Od P a mn x c rest S B H σ K E->
  Φ P (do let d <-Deferred.ofValue b vs;invoke d.target d.args) H (Ed P a mn x c rest) (λ_ _=>False)
def Plain (P:Program) (g:FuncId):Prop:=∃fn,P.funcs[g]?=some fn/\(fn.name == "runtime.NumGoroutine")=false/\fn.body.isNone=false
def Μ (P:Program) (g:FuncId) (args:μ) (σ:Ξ) (K:Ψ->Ξ->Prop) (E:Ψ->Ξ->Prop):Prop:=
 Plain P g/\∀(a:Value->Prop) (mn:Bool) (x:WA) (c:Frame) (rest:YU) (S:κ) (B:Z5) (H:Τ) (vs:ζ),Seq x->Holds S B σ H->XN S B σ args vs->Od P a mn x c rest S B H σ K E->
  γ P a mn x (Frame.enter P g vs .normal) (c::rest) H
section
variable {P:Program} {T:ZR} {A:ο} {m nt:Nat} {k:Zz} {env:Β} {σ:Ξ} {Z:XO} {E:Ψ->Ξ->Prop} {K:Ψ->Ξ->Prop} {F:Ya}
theorem XN.append {S:κ} {B:Z5} {as9 d:μ} {vs e:ζ} (h:XN S B σ as9 vs) (k:XN S B σ d e):XN S B σ (as9++d) (vs++e):=by
 refine⟨by simp[h.1,k.1],λi a v b c=>?_⟩;by_cases f:i<as9.length
 .rw[Yz f] at b;rw[NI (by rw[<-h.1];exact f)] at c;exact h.2 i a v b c
 .rw[Xj J] at b;rw[KS (by rw[<-h.1];omega),<-h.1] at c;exact k.2 _ a v b c
theorem Μ.mono {g:FuncId} {args:μ} {K':Ψ->Ξ->Prop} {E':Ψ->Ξ->Prop} (h:Μ P g args σ K E) (f:∀a s,K a s->K' a s) (i:∀a s,E a s->E' a s):Μ P g args σ K' E':=
 ⟨h.1,λj mn x c rest S B H vs k l hv e=>h.2 j mn x c rest S B H vs k l hv ⟨λa σ' b B' H' v d=>e.ret a σ' b B' H' v (f _ _ d),λa σ' b B' H' v d=>e.Na a σ' b B' H' v (i _ _ d)⟩⟩
theorem Wm.mono {f:Ψ} {args:μ} {K':Ψ->Ξ->Prop} {E':Ψ->Ξ->Prop} (h:Wm P f args σ K E) (g:∀a s,K a s->K' a s) (i:∀a s,E a s->E' a s):Wm P f args σ K' E':=
 λj mn x c rest S B H k vs l m n hv e=>h j mn x c rest S B H k vs l m n hv ⟨λa σ' b B' H' v d=>e.ret a σ' b B' H' v (g _ _ d),λa σ' b B' H' v d=>e.Na a σ' b B' H' v (i _ _ d)⟩
theorem Μ.call {g:FuncId} {first args captured:μ} (h:Μ P g (first++args++captured) σ K E):Wm P (.fn (.func g) first captured) args σ K E:=by
 intro a mn x c rest S B H v vs b d e hv f;cases e with
 | fn i j k l m n=>
  refine Φ.bind' (Φ.pure' ?_);obtain⟨⟨fn,o,p,r⟩,s⟩:=h;unfold invoke;simp only;unfold callFunc;refine Φ.bind' ?_;show Φ P (match P.funcs[g]? with|none=>_|some fn=>_) H _ _;rw[o];simp only[p,r,WX,if_false];refine Φ.pure' ?_;have t:XN S B σ first i:=⟨k,m⟩
  have u:XN S B σ captured j:=⟨l,n⟩;exact s a mn x c rest S B H _ b d ((t.append hv).append u) f
def Xx (env:Β) (ops:ZC) (o:Oper):Option Bool:=match o.guard with
 | none=>some true
 | some (j,a)=>match (ops[j]?).bind (·.dst) with
  | some d=>match Z3 env d with
   | .z (.bool b)=>some (b==a)
   | _=>none
  | none=>none
theorem UO {S:κ} {B:Z5} {t:ζ} (h:Yv S B σ env t) {ops:ZC} {o:Oper} {w:Bool} (a:Xx env ops o=some w):Region.wanted o (yielded ops t)=w:=by
 unfold Xx at a;unfold Region.wanted;split at a
 .rename_i e;rw[e];cases a;rfl
 .rename_i j g e;rw[e];split at a
  .rename_i d hd;split at a
   .rename_i b i;cases a;have c:=h d;rw[i] at c;unfold yielded;rw[Wr] at c;cases f:t[d]? with
    | none=>rw[f] at c;cases c
    | some v=>
     rw[f] at c;simp only[Option.getD_some] at c;cases c;simp only[hd,Option.bind_some,f];cases b<;>cases g<;>rfl
   .cases a
  .cases a
def Zn (o:Oper) (env:Β) (a:Ψ):Β:=match o.dst with|some d=>(d,a)::env|none=>env
def Wz (nt:Nat) (o:Oper):Bool:=match o.dst with|some d=>decide (d<nt)|none=>true
theorem QT {S:κ} {B:Z5} {t:ζ} (h:Yv S B σ env t) {o:Oper} (hd:Wz nt o=true) (b:t.size=nt) {a:Ψ} {v:Value} (c:υ S B σ a v):Yv S B σ (Zn o env a) (put o t v)/\(put o t v).size=nt:=by
 unfold Zn put;unfold Wz at hd;cases e:o.dst with
 | none=>exact⟨h,b⟩
 | some d=>
  rw[e] at hd;simp only[decide_eq_true_eq] at hd;exact⟨h.put (by rw[b];exact hd) c,by simp[b]⟩
theorem W.unwanted {ops:ZC} {i:Nat} {o:Oper} {rest:ο} (f:ops[i]?=some o) (g:Xx env ops o=some false) (hd:Wz nt o=true) (h:W P m nt (.inRegion ops rest::k) (Zn o env .Ze) σ Z F):W P m nt (.inRegion ops (i::rest)::k) env σ Z F:=
 λj mn x cs b S B H t d e c l n=>by
 obtain⟨p,r⟩:=QT c.Y7 hd c.size (a:=.Ze) (v:=undef) (.Ze _);exact .unwanted d e f (UO c.Y7 g) (h j mn x cs b S B H _ d e ⟨c.holds,p,r,c.rows⟩ l n)
theorem W.op (C:Zv P T) {ops:ZC} {i:Nat} {o:Oper} {rest:ο} (L:ops[i]?=some o) (M:Xx env ops o=some true) (hd:Wz nt o=true) (N:∀c,o.op≠.defer c)
  (h:((Vt T A env o).or σ (V2 T A env σ o)).holds λa σ'=>W P m nt (.inRegion ops rest::k) (Zn o env a) σ' Z F):W P m nt (.inRegion ops (i::rest)::k) env σ Z F:=
 λD mn x cs b S B H t E I d O Q=>by
 refine .op E I L (UO d.Y7 M) (.inr N) ?_;have R:=Y8.yz (yt (A:=A) C d.holds d.Y7 o) (ys (A:=A) C d.holds d.Y7 o);refine Φ.mono (λU H' ⟨v,hv,J,B',σ',a,V,X,Y,e,aa⟩=>?_) (λ_ _ h=>h.elim) _ (R _ h);obtain⟨ab,ad⟩:=QT (d.Y7.later e) hd d.size aa;have K:XE m S B H σ J B' H' σ':=.of X e;have ae:γ P D mn x (π b (put o t v) (.inRegion ops rest::k)) cs H':=
  V D mn x cs b J B' H' _ E I ⟨Y,ab,ad,XQ d.rows e.length⟩ (λj f g l n p t2 r s u w y=>O j f g l n p t2 r s (K.trans u) w y)
   (λaf f g l n p t2 r ag s u w y ah=>Q af f g l n p t2 r ag s (K.trans u) w y ah)
 cases U<;>simp only[EM,reduceCtorEq,Qo] at hv<;>first|(subst hv;exact ae)|skip
theorem W.call {ops:ZC} {i:Nat} {o:Oper} {rest:ο} (w:ops[i]?=some o) (ab:Xx env ops o=some true) (hd:Wz nt o=true) {f:Operand} {args:Array Operand} {ad:Array TypeId} (V:o.op=.call ⟨.value f,args,ad⟩)
  (h:Wm P (ε env f) (args.toList.map (ε env)) σ (λa σ'=>W P m nt (.inRegion ops rest::k) (Zn o env a) σ' Z F) (λa s=>F a env s)):W P m nt (.inRegion ops (i::rest)::k) env σ Z F:=
 λX mn x cs b S B H t l A g ae Y=>by
 refine .op l A w (UO g.Y7 ab) (.inr λc=>by rw[V];simp) ?_;have af:XN S B σ (args.toList.map (ε env)) (args.map (ZJ t)):=by
  refine⟨Ω,λi a v p C=>?_⟩;rw[Yc,Wh] at p;rw[Px] at C;cases l:args[i]? with
  | none=>rw[l] at p;cases p
  | some y=>rw[l] at p C;cases p;cases C;exact T3 g.Y7 y
 have ag:=h X mn x (π b t (.inRegion ops (i::rest)::k)) cs S B H (ZJ t f) (args.map (ZJ t)) l g.holds (T3 g.Y7 f) af ⟨λa σ' u B' H' v ah D n E I=>?_,λa σ' u B' H' v ai D n E I=>?_⟩
 .have e:execOp (ZJ t) o=(do let d <-Deferred.ofValue (ZJ t f) (args.map (ZJ t));invoke d.target d.args):=by unfold execOp;rw[V];rfl
  rw[e];refine Φ.mono (λaj H' r=>?_) (λ_ _ h=>h.elim) _ ag;cases aj<;>first|exact r.elim|exact r|skip
  rename_i v;have:=VJ (b:=b) (t:=t) (k:=k) (v:=v) w (rest:=rest);simp only[Ed] at r;rw[this] at r;exact r
 .obtain⟨ak,al⟩:=QT (g.Y7.later n) hd g.size I;have aa:XE m S B H σ u B' H' σ':=.of D n;rw[VJ w];exact ah X mn x cs b u B' H' _ l A ⟨E,ak,al,XQ g.rows n.length⟩ (λj J K L M N t2 O Q R T U=>ae j J K L M N t2 O Q (aa.trans R) T U)
   (λam J K L M N t2 O an Q R T U ao=>Y am J K L M N t2 O an Q (aa.trans R) T U ao)
 .have:=Y a env σ' u B' H' t (.inRegion ops (i::rest)::k) v ai (.of D n) E (g.Y7.later n) I
  have e:(π b t (.inRegion ops (i::rest)::k)).raise [{v,recovered:=false}]={π b t (.inRegion ops (i::rest)::k) with mode:=.panicking [{v,recovered:=false}]}:=by simp[Frame.raise,π,A]
  rw[e];exact this
theorem W.panic {ops:ZC} {i:Nat} {o:Oper} {rest:ο} (l:ops[i]?=some o) (n:Xx env ops o=some true) {y:Operand} (j:o.op=.panic y) {f:TypeId} {a:Ψ} (p:ε env y=.W6 f a) (h:F (.W6 f a) env σ):W P m nt (.inRegion ops (i::rest)::k) env σ Z F:=
 λC mn x cs b S B H t r s d D u=>by
 refine .op r s l (UO d.Y7 n) (.inr λc=>by rw[j];simp) ?_;have g:=T3 d.Y7 y;have e:execOp (ZJ t) o=(do pure (.value (<-Instr.panic (ZJ t y)))):=by unfold execOp;rw[j]
 rw[e];rw[p] at g;generalize hv:ZJ t y=v at g;refine Φ.bind' ?_;cases g with
 | W6 w A=>exact u (.W6 f a) env σ S B H t _ _ h .refl d.holds d.Y7 (.W6 w A)
end
def Oc (P:Program) (T:ZR) (A:ο) (env:Β) (o:Oper) (σ:Ξ) (K:Ψ->Ξ->Prop) (E:Ya):Prop:=match o.op with
 | .call ⟨.value f,args,_⟩=>Wm P (ε env f) (args.toList.map (ε env)) σ K (λa s=>E a env s)
 | .panic y=>match ε env y with|.W6 t a=>E (.W6 t a) env σ|_=>False
 | .defer _=>False
 | _=>((Vt T A env o).or σ (V2 T A env σ o)).holds K
def V1 (w:Bool) (a b:Prop):Prop:=(w=false->a)/\(w=true->b)
theorem yq {a b:Prop}:V1 true a b=b:=by simp[V1]
theorem yp {a b:Prop}:V1 false a b=a:=by simp[V1]
theorem yo {w w':Bool} {a b:Prop} (h:w=w'):V1 w a b=V1 w' a b:=by rw[h]
def W3 {b:Type} (x:Option b) (f:b->Prop):Prop:=match x with|none=>False|some a=>f a
theorem yn {b:Type} {a:b} {f:b->Prop}:W3 (some a) f=f a:=Xk rfl rfl
theorem ym {a:Type} {f:a->Prop}:W3 none f=False:=rfl
theorem yl {a:Type} {x b:Option a} {f:a->Prop} (h:x=b):W3 x f=W3 b f:=by rw[h]
theorem yk {K:Ψ->Ξ->Prop} {r r':YP} (h:r=r'):r.holds K=r'.holds K:=by rw[h]
theorem or_congr {r r':Y8} {σ:Ξ} {s:YP} (h:r=r'):r.or σ s=r'.or σ s:=by rw[h]
def run (P:Program) (T:ZR) (A:ο) (nt:Nat) (ops:ZC):ο->Β->Ξ->(Β->Ξ->Prop)->(Ya)->Prop
 | [],env,σ,K,_=>K env σ
 | i::is,env,σ,K,E=>W3 ops[i]? λo=>Wz nt o=true/\W3 (Xx env ops o) λw=>
   V1 w (run P T A nt ops is (Zn o env .Ze) σ K E) (Oc P T A env o σ (λa σ'=>run P T A nt ops is (Zn o env a) σ' K E) E)
def Ec (P:Program) (T:ZR) (A:ο) (nt:Nat) (ops:ZC) (is:ο) (o:Oper) (env:Β) (K:Β->Ξ->Prop) (E:Ya) (a:Ψ) (σ':Ξ):Prop:=run P T A nt ops is (Zn o env a) σ' K E
theorem Sy {P:Program} {T:ZR} {A:ο} {nt:Nat} {ops:ZC} {env:Β} {σ:Ξ} {K:Β->Ξ->Prop} {E:Ya}:run P T A nt ops [] env σ K E=K env σ:=Xk rfl rfl
theorem Θ {P:Program} {T:ZR} {A:ο} {nt:Nat} {ops:ZC} {i:Nat} {is:ο} {env:Β} {σ:Ξ} {K:Β->Ξ->Prop} {E:Ya} :
  run P T A nt ops (i::is) env σ K E=W3 ops[i]? λo=>Wz nt o=true/\W3 (Xx env ops o) λw=>
   V1 w (run P T A nt ops is (Zn o env .Ze) σ K E) (Oc P T A env o σ (Ec P T A nt ops is o env K E) E):=Xk U U
theorem He {P:Program} {T:ZR} {A:ο} {nt:Nat} {ops:ZC} {is:ο} {o:Oper} {env:Β} {σ:Ξ} {K:Β->Ξ->Prop} {E:Ya} {a:Ψ}:Ec P T A nt ops is o env K E a σ=run P T A nt ops is (Zn o env a) σ K E:=Xk rfl rfl
section
variable {P:Program} {T:ZR} {A:ο} {m nt:Nat} {k:Zz} {env:Β} {σ:Ξ} {Z:XO} {E:Ya} {K:Ψ->Ξ->Prop}
theorem W.ZB {ops:ZC} (h:W P m nt k env σ Z E):W P m nt (.inRegion ops []::k) env σ Z E:=λd mn x cs b S B H t a c e f g=>.ZB a c (h d mn x cs b S B H t a c e f g)
theorem Hd (t:Zv P T) {ops:ZC} (b:ο):∀(is:ο) (env:Β) (σ:Ξ),run P T A nt ops is env σ (λenv σ=>W P m nt (.inRegion ops b::k) env σ Z E) E->W P m nt (.inRegion ops (is++b)::k) env σ Z E:=by
 intro is
 induction is with
 | nil=>intro env σ h;exact h
 | cons i is g=>
  intro env σ h;unfold run W3 at h;split at h
  .exact h.elim
  .rename_i o d;obtain⟨hd,h⟩:=h;split at h
   .exact h.elim
   rename_i w e;unfold V1 at h;cases w
   .exact .unwanted d e hd (g _ _ (h.1 U))
   .replace h:=h.2 U
    unfold Oc at h;split at h
    .rename_i f args C j;exact .call d e hd j (h.mono (λa s h=>g _ _ h) (λ_ _ h=>h))
    .rename_i y j;split at h
     .rename_i D a u;exact .panic d e j u h
     .exact h.elim
    .exact h.elim
    .rename_i F H v;refine .op (A:=A) t d e hd (λc x=>v c x) ?_;generalize (Vt T A env o).or σ (V2 T A env σ o)=r at h;have B:∀r:YP,r.holds (λa σ'=>run P T A nt ops is (Zn o env a) σ' (λenv σ=>W P m nt (.inRegion ops b::k) env σ Z E) E)->r.holds λa σ'=>W P m nt (.inRegion ops (is++b)::k) (Zn o env a) σ' Z E:=by
      intro r
      induction r with
      | ok a s=>exact λh=>g _ _ h
      | Y0 p r l=>exact λh=>⟨h.1,l h.2⟩
      | all n f l=>exact λh i hi=>l i (h i hi)
      | bad=>exact λh=>h
     exact B r h
theorem YP.yj {K K':Ψ->Ξ->Prop} (c:∀a s,K a s->K' a s):∀r:YP,r.holds K->r.holds K':=by
 intro r
 induction r with
 | ok a s=>exact λh=>c _ _ h
 | Y0 p r b=>exact λh=>⟨h.1,b h.2⟩
 | all n f b=>exact λh i hi=>b i (h i hi)
 | bad=>exact λh=>h
theorem yi {env:Β} {o:Oper} {K K':Ψ->Ξ->Prop} (c:∀a s,K a s->K' a s) (h:Oc P T A env o σ K E):Oc P T A env o σ K' E:=by
 unfold Oc at h ⊢;split
 .rename_i f args d b;rw[b] at h;exact Wm.mono h c λ_ _ h=>h
 .rename_i y b;rw[b] at h;exact h
 .rename_i b;rw[b] at h;exact h
 .rename_i e g i;split at h
  .rename_i f args d b;exact absurd b (e f args d)
  .rename_i y b;exact absurd b (g y)
  .rename_i y b;exact absurd b (i y)
  .exact YP.yj c _ h
theorem Js {ops:ZC} {nt:Nat} {K K':Β->Ξ->Prop} (f:∀e s,K e s->K' e s):∀(is:ο) (env:Β) (σ:Ξ),run P T A nt ops is env σ K E->run P T A nt ops is env σ K' E:=by
 intro is
 induction is with
 | nil=>intro env σ h;exact f _ _ h
 | cons i is b=>
  intro env σ h;unfold run W3 at h ⊢;cases c:ops[i]? with
  | none=>rw[c] at h;exact h.elim
  | some o=>
   rw[c] at h;simp only at h ⊢;refine⟨h.1,?_⟩
   replace h:=h.2
   cases d:Xx env ops o with
   | none=>rw[d] at h;exact h.elim
   | some w=>
    rw[d] at h;unfold V1 at h ⊢;exact⟨λe=>b _ _ (h.1 e),λe=>yi (λa s=>b _ _) (h.2 e)⟩
theorem yh (a:Zv P T) {ops:ZC} (is:ο) (env:Β) (σ:Ξ) (h:run P T A nt ops is env σ (λenv σ=>W P m nt k env σ Z E) E):W P m nt (.inRegion ops is::k) env σ Z E:=by
 have:=Hd (A:=A) a [] is env σ (ops:=ops) (k:=k) (Z:=Z) (E:=E) (P:=P) (m:=m) (nt:=nt);rw[Ul] at this;refine this ?_;have b:∀(is:ο) (env:Β) (σ:Ξ) (K K':Β->Ξ->Prop),(∀e s,K e s->K' e s)->run P T A nt ops is env σ K E->run P T A nt ops is env σ K' E:=λis env σ K K' c h=>Js c is env σ h;exact b is env σ _ _ (λe s h=>.ZB h) h
def idx:Nat->ο->ο
 | 0,l=>l
 | n+1,l=>idx n (n::l)
theorem idx_eq (n:Nat):idx n []=List.range n:=by
 have:∀(n:Nat) (l:ο),idx n l=List.range.loop n l:=by
  intro n
  induction n with
  | zero=>intro l;rfl
  | succ n a=>intro l;exact a _
 exact this n []
theorem YY (e:Zv P T) {id:Nat} {ops:ZC} (h:∀a:Β->Ξ->Prop,(∀env σ,W P m nt k env σ Z E->a env σ)->run P T A nt ops (idx ops.size []) env σ a E):W P m nt (.code (.region id ops false)::k) env σ Z E:=
 λf mn x cs b S B H t c d g i j=>.region c d (yh e _ _ _ (by rw[<-idx_eq];exact h _ λ_ _ h=>h) f mn x cs b S B H t c d g i j)
theorem W.forget (env':Β) (d:∀p∈env',Z3 env p.1=p.2) (h:W P m nt k env' σ Z E):W P m nt k env σ Z E:=
 λf mn x cs b S B H t g j a n o=>by
 have r:∀(l:Β),(∀p∈l,Z3 env p.1=p.2)->∀i,Z3 l i=.Ze\/Z3 l i=Z3 env i:=by
  intro l
  induction l with
  | nil=>intro _ i;exact .inl rfl
  | cons p l s=>
   intro c i;simp only[Z3];split
   .rename_i e;subst e;exact .inr (c p Ω).symm
   .exact s (λq u=>c q (by simp[u])) i
 refine h f mn x cs b S B H t g j ⟨a.holds,λi=>?_,a.size,a.rows⟩ n o;rcases r env' d i with e|e
 .rw[e];exact .Ze _
 .rw[e];exact a.Y7 i
theorem W.Ry (a:Zv P T) (env':Β) {id:Nat} {ops:ZC} (h:W P m nt k env' σ Z E) (b:run P T A nt ops (idx ops.size []) env σ (λe s=>s=σ/\∀p∈env',Z3 e p.1=p.2) E):W P m nt (.code (.region id ops false)::k) env σ Z E:=
 YY a λg c=>Js (λe s ⟨d,f⟩=>c e s (d▸W.forget env' f h)) _ _ _ b
def P2 (i:VX) (l:μ):Option Ψ:=if i.agg then(if i.size<=l.length then some (.ZW (l.take i.size)) else none) else l.head?
def M' (T:ZR) (a:TypeId) (σ:Ξ):Ψ->Option Ψ
 | .ξ b=>match T a with|some i=>P2 i b|none=>none
 | .Δ id n i j=>match T a,σ[id]? with
  | some c,some (.cells _ _ l)=>if l.length=n then match l[i]? with
   | some e=>P2 c (e.cells.drop j)
   | none=>none else none
  | _,_=>none
 | _=>none
def P1 (T:ZR) (env:Β) (σ:Ξ):ResultVar->Option Ψ
 | .tmp t=>some (Z3 env t)
 | .cell a b=>M' T b σ (Z3 env a)
def Jr:μ->Ψ
 | [a]=>a
 | l=>.ZY l
def Sx (T:ZR) (a:List ResultVar) (env:Β) (σ:Ξ):Option Ψ:=(a.mapM (P1 T env σ)).map Jr
theorem Eb {i:VX} {l:μ} {v:Ψ} (h:P2 i l=some v):QX i l=.ok v:=by
 unfold P2 at h;unfold QX;cases b:i.agg with
 | true=>
  rw[b] at h;simp only[if_true] at h ⊢;split at h
  .rename_i c;cases h;rw[if_pos c]
  .cases h
 | false=>
  rw[b] at h;simp only[WX,if_false] at h ⊢;cases l with
  | nil=>cases h
  | cons a l=>cases h;rfl
theorem yg (p:Zv P T) {S:κ} {B:Z5} {H:Τ} (f:Holds S B σ H) {r:TypeId} {a v:Ψ} {w:Value} (h:M' T r σ a=some v) (s:υ S B σ a w):YS P (do loadVar r (<-asAddr w)) S B H σ (.ok v σ):=by
 unfold M' at h;split at h
 .rename_i D;split at h
  .rename_i i hi;cases s with
   | ξ b o w c g=>
    have:=J8 p f hi w (λj a y=>f.Yy _ _ _ (c j a y)) g;rw[Eb h] at this;exact this
  .cases h
 .rename_i id n i j;split at h
  .rename_i E t k l hi m;split at h
   .rename_i F;split at h
    .rename_i e A;cases s with
     | Δ c g C=>
      rw[m] at c;cases c;obtain⟨I,w,u⟩:=EL f m C A;have:=J8 p f hi (l:=e.cells.drop j) (b:=_) (o:=i*k+j) (λx=>w (j+x)) (λx a d=>⟨true,by
       rw[TI] at d;rw[Ub];exact(u _ a d).1⟩) (λx a d=>by
       rw[TI] at d;exact(u _ a d).2.1)
      rw[Eb h] at this;exact this
     | U8 v c g=>rw[m] at c;cases c;simp only[Row.Wo] at g;omega
    .cases h
   .cases h
  .cases h
 .cases h
theorem Jq (J:Zv P T) {fn:Func} {a:Ψ} (h:Sx T fn.results.toList env σ=some a) {S:κ} {B:Z5} {H:Τ} {t:ζ} (d:Holds S B σ H) (g:Yv S B σ env t) :
  Φ P (results fn t) H (λv H'=>∃c B',Ext S B H c B' H'/\Zm S c B B' σ σ/\Holds c B' σ H'/\υ c B' σ a v) (λ_ _=>False):=by
 let f:ResultVar->Sem Value:=λr=>match r with
  | .tmp x=>pure (t.getD x undef)
  | .cell a E=>do loadVar E (<-asAddr (t.getD a undef))
 have K:∀(e:List ResultVar) (as9:μ) (S:κ) (B:Z5) (H:Τ),e.mapM (P1 T env σ)=some as9->Holds S B σ H->Yv S B σ env t->
   Φ P (e.mapM f) H (λvs H'=>∃c B',Ext S B H c B' H'/\Zm S c B B' σ σ/\Holds c B' σ H'/\as9.length=vs.length/\∀(i:Nat) (a:Ψ) (v:Value),as9[i]?=some a->vs[i]?=some v->υ c B' σ a v) (λ_ _=>False):=by
  intro e
  induction e with
  | nil=>intro as9 S B H h d _;simp at h;subst h;exact Φ.pure' ⟨S,B,.refl _ _ _,.refl _ _ _,d,rfl,λi a v hi=>by simp at hi⟩
  | cons r e L=>
   intro as9 S B H h d g;rw[List.mapM_cons] at h ⊢;cases j:P1 T env σ r with
   | none=>rw[j] at h;cases h
   | some a=>
    rw[j] at h;simp only[Option.bind_eq_bind,Option.bind_some] at h;cases s:e.mapM (P1 T env σ) with
    | none=>rw[s] at h;cases h
    | some l2=>
     rw[s] at h;cases h;have step:Φ P (f r) H (λv H'=>∃c B',Ext S B H c B' H'/\Zm S c B B' σ σ/\Holds c B' σ H'/\υ c B' σ a v) (λ_ _=>False):=by
      cases r with
      | tmp x=>simp only[P1,Qo] at j;subst j;exact Φ.pure' ⟨S,B,.refl _ _ _,.refl _ _ _,d,g x⟩
      | cell x E=>
       refine Φ.mono (λv H' ⟨c,B',σ',m,⟨k,u⟩,M,N,O,Q⟩=>?_) (λ_ _ h=>h) _ (yg J d j (g x) (λm R=>m=a/\R=σ) ⟨U,U⟩);subst k;subst u;exact⟨c,B',M,O,N,Q⟩
     refine Φ.bind' (Φ.mono (λv F ⟨w,y,A,l1,k,n⟩=>?_) (λ_ _ h=>h) _ step);refine Φ.bind' (Φ.mono (λvs ab ⟨V,W,Ρ,I,u,X,Y⟩=>?_) (λ_ _ h=>h) _ (L l2 w y F s k (g.later l1)));refine Φ.pure' ⟨V,W,A.trans Ρ,l1.trans I,u,by simp[X],λi m Z hi hv=>?_⟩
     match i with
     | 0=>simp at hi hv;subst hi;subst hv;exact n.later I
     | i+1=>simp at hi hv;exact Y i m Z hi hv
 unfold Sx at h;cases C:fn.results.toList.mapM (P1 T env σ) with
 | none=>rw[C] at h;cases h
 | some as9=>
  rw[C] at h;cases h;have aa:=K fn.results.toList as9 S B H C d g;unfold results;rw[Array.mapM_eq_mapM_toList];refine Φ.bind' ?_;refine Φ.bind (fn.results.toList.mapM f) (Φ.mono (λvs F ⟨w,y,A,l1,k,D,n⟩=>?_) (λ_ _ h=>h) _ aa);refine Φ.pure' ?_;refine Φ.pure' ⟨w,y,A,l1,k,?_⟩;by_cases o:vs.toArray.size=1
  .rw[dif_pos o];have p:vs.length=1:=by simpa using o
   obtain⟨v,rfl⟩:=HT.1 p;obtain⟨a,rfl⟩:=HT.1 (D.trans p);exact n 0 a v U U
  .rw[dif_neg o];have p:as9.length≠1:=by rw[D];simpa using o
   have:Jr as9=.ZY as9:=by
    match as9 with
    | []=>rfl
    | [a]=>simp at p
    | a::b::l=>rfl
   rw[this];exact .ZY _ (by simpa using D) λi a v hi hv=>n i a v hi (by simpa using hv)
def entry:Nat->μ->Β
 | _,[]=>[]
 | i,a::as9=>(i,a)::entry (i+1) as9
theorem Ea {S:κ} {B:Z5} {as9:μ} {vs:ζ} (h:XN S B σ as9 vs) (n:Nat):Yv S B σ (entry 0 as9) (vs++Array.replicate n undef):=by
 have f:∀(l:μ) (j i:Nat),Z3 (entry j l) i=if j<=i then(l[i-j]?).getD .Ze else .Ze:=by
  intro l
  induction l with
  | nil=>intro j i;simp[entry,Z3]
  | cons a l g=>
   intro j i;simp only[entry,Z3];by_cases e:j=i
   .subst e;simp
   .rw[if_neg e,g];by_cases b:j<=i
    .rw[if_pos J,if_pos b];have:i-j=(i-(j+1))+1:=J;rw[this,List.getElem?_cons_succ]
    .rw[if_neg J,if_neg b]
 intro i;rw[f,if_pos (Α _),Nat.sub_zero];by_cases c:i<as9.length
 .have d:=Z7 c;rw[d];have hv:i<vs.size:=by rw[<-h.1];exact c
  rw[Wr,NI hv];exact h.2 i _ _ d (by rw[Xu hv];rfl)
 .rw[Uc J];exact .Ze _
def Ends (T:ZR) (b:List ResultVar) (K:Ψ->Ξ->Prop) (j:Zz) (env:Β) (σ:Ξ):Prop:=match j with
 | []=>∃a,Sx T b env σ=some a/\K a σ
 | .code .ret::_=>∃a,Sx T b env σ=some a/\K a σ
 | _=>False
theorem Μ.yf {F:Ψ->Ξ->Prop} (A:Zv P T) {g:FuncId} {fn:Func} {body:Code} (f:P.funcs[g]?=some fn) (p:fn.body=some body) (C:(fn.name == "runtime.NumGoroutine")=false) {args:μ} (aa:args.length<=fn.ntmps)
  (h:W P σ.length fn.ntmps [.code body] (entry 0 args) σ (Ends T fn.results.toList K) (λa _ s=>F a s)):Μ P g args σ K F:=by
 refine⟨⟨fn,f,C,by rw[p];rfl⟩,λr mn x c rest S B H vs b m hv t=>?_⟩;have i:∀{D:Type} (l:List D),l.length=σ.length->l.take σ.length=l:=λl u=>VP J;have E:Frame.enter P g vs .normal=π (Frame.enter P g vs .normal) (vs++Array.replicate (fn.ntmps-vs.size) undef) [.code body]:=by
  simp[Frame.enter,π,f,p]
 rw[E];have I:(vs++Array.replicate (fn.ntmps-vs.size) undef).size=fn.ntmps:=by
  have:=hv.1;simp;omega
 refine h r mn x (c::rest) _ S B H _ b U ⟨m,Ea hv _,I,Z6 _⟩ (λj env' σ' k B' H' t' n d e w u=>?_) (λa env' σ' k B' H' t' n v L e M _ N=>?_)
 .have o:Zm S k B B' σ σ':=by
   have:=e.later
   rwa [i B m.len,i σ U] at this
  have y:(∃a,Sx T fn.results.toList env' σ'=some a/\K a σ')->γ P r mn x {π (Frame.enter P g vs .normal) t' n with mode:=.returning} (c::rest) H':=λ⟨a,O,Q⟩=>by
   refine .back b U U (.inl U) f ?_;refine Φ.mono (λv R ⟨V,X,Ρ,l2,Y,Z⟩=>?_) (λ_ _ h=>h) _ (Jq A O w.holds w.Y7);exact t.ret a σ' V X R v Q (e.ext.trans Ρ) (o.trans l2) Y Z
  have:n=j:=u;subst this;unfold Ends at d;split at d
  .exact .Qb b U U (y d)
  .exact .ret b U U (y d)
  .exact d.elim
 .have o:Zm S k B B' σ σ':=by
   have:=e.later
   rwa [i B m.len,i σ U] at this
  refine .raised b U U ?_ (t.Na a σ' k B' H' v L e.ext o M N);simp[Frame.catches,π,Frame.enter,f]
end
section
variable {P:Program} {S Yl:κ} {B:Z5} {H H':Τ} {σ:Ξ}
theorem υ.take {h:Nat} {a:Ψ} {v:Value} (s:υ S B σ a v) (d:ς h a):υ S (B.take h) (σ.take h) a v:=by
 have k:∀{t:Type} (l:List t) (i:Nat),i<h->(l.take h)[i]?=l[i]?:=λl i hi=>S' hi
 induction s with
 | z v=>exact .z v
 | ξ b o w f _ m=>
  cases d with
  | ξ d=>exact .ξ b o w f λj a n=>m j a n (d a (Y1 n))
 | VY base cap h=>exact .VY base cap h
 | sl b o cap w f g p r _ m=>
  cases d with
  | sl d=>exact .sl b o cap w f g p r λi e hi j c n=>m i e hi j c n (d e (Y1 hi) c (Y1 n))
 | ZW vs f _ m=>
  cases d with
  | ZW d=>exact .ZW vs f λi a v hi hv=>m i a v hi hv (d a (Y1 hi))
 | ZY vs f _ m=>
  cases d with
  | ZY d=>exact .ZY vs f λi a v hi hv=>m i a v hi hv (d a (Y1 hi))
 | Δ f g p=>
  cases d with
  | Δ d=>exact .Δ (by rw[k _ _ d];exact f) g (by rw[k _ _ d];exact p)
 | U8 v f g=>
  cases d with
  | Δ d=>exact .U8 v (by rw[k _ _ d];exact f) g
 | ms cap f g p r u x=>
  cases d with
  | ms d=>exact .ms cap (by rw[k _ _ d];exact f) g (by rw[k _ _ d];exact p) r u x
 | Vm v f g=>
  cases d with
  | ms d=>exact .Vm v (by rw[k _ _ d];exact f) g
 | fn vs y f g _ _ A C=>
  cases d with
  | fn D E=>exact .fn vs y f g (λi a v hi hv=>A i a v hi hv (D a (Y1 hi))) λi a v hi hv=>C i a v hi hv (E a (Y1 hi))
 | W6 v _ m=>
  cases d with
  | W6 d=>exact .W6 v (m d)
 | mp f g=>
  cases d with
  | mp d=>exact .mp (by rw[k _ _ d];exact f) (by rw[k _ _ d];exact g)
 | T4 v f=>
  cases d with
  | mp d=>exact .T4 v (by rw[k _ _ d];exact f)
 | it f g=>
  cases d with
  | it d=>exact .it (by rw[k _ _ d];exact f) (by rw[k _ _ d];exact g)
 | SZ v f=>
  cases d with
  | it d=>exact .SZ v (by rw[k _ _ d];exact f)
 | Ze v=>exact .Ze v
theorem υ.any {a:Ψ} {v:Value} (b:υ S B σ a v) (c:ς 0 a) (d:Z5) (e:Ξ):υ S d e a v:=by
 have f:υ S [] [] a v:=by simpa using b.take c
 exact f.later ⟨λ_ _ _ h=>h,λid r h=>by simp at h⟩
theorem Holds.bare (a:Holds S B σ H):Holds S [] [] H:=
 ⟨a.Yy,U,λid r bo h=>by simp at h,λi j c d b e f g h=>by simp at h,λid r b N h=>by simp at h⟩
theorem Holds.back (a:Holds S B σ H) (c:Ext S [] H Yl [] H') (t:Holds Yl [] [] H'):Holds Yl B σ H'/\Ext S B H Yl B H'/\Zm S Yl B B σ σ:=by
 have n:Zm S Yl B B σ σ:=⟨c.Yy,λid r h=>⟨r,h,r.Qa _⟩⟩
 have i:∀b,¬Z5.has ([]:Z5) b:=λb ⟨N,h⟩=>by simp at h
 have p:∀(id:Nat) (r:Row) (b N:Nat),σ[id]?=some r->r.live->B[id]?=some (some (b,N))->Uv H H' b:=λid r b N k j s=>(c.W7 b (i b) (a.SE k j s)).P9 λo=>a.sep id r b N k j s o;refine⟨⟨t.Yy,a.len,λid r bo d f=>?_,a.inj,λid r b N d g f o=>?_⟩,⟨c.Yy,λb _ u=>c.W7 b (i b) u,λb l=>.inl l,λb o v hv=>?_,c.grow⟩,n⟩
 .by_cases g:r.live
  .refine(a.row id r bo d f).later n (λb N e=>p id r b N d g (by rw[f,e])) λm left w e=>?_;subst e;obtain⟨_,_,x,y,xs,A,seen,_,k,⟨es,j⟩,_⟩:=a.row id _ bo d f;exact⟨U,U,λb N l=>p m _ b N j trivial l⟩
  .cases r<;>first|exact absurd trivial g|trivial
 .cases hv:Yl b o with
  | none=>rfl
  | some v=>
   rcases c.QZ b o v hv with h|h|h
   .rw[a.sep id r b N d g f o] at h;cases h
   .exact absurd h (i b)
   .exact absurd h (a.SE d g f)
 .rcases c.QZ b o v hv with h|h|h
  .exact .inl h
  .exact absurd h (i b)
  .exact .inr (.inr h)
theorem Μ.frame {g:FuncId} {args:μ} {K:Ψ->Prop} {E:Ψ->Prop} (h:Μ P g args [] (λa s=>K a/\ς 0 a/\s=[]) (λa s=>E a/\ς 0 a/\s=[])) (t:∀a∈args,ς 0 a):Μ P g args σ (λa s=>K a/\s=σ) (λa s=>E a/\s=σ):=by
 refine⟨h.1,λu mn x c rest S B H vs w j hv k=>?_⟩;refine h.2 u mn x c rest S [] H vs w j.bare ⟨hv.1,λi a v l y=>(hv.2 i a v l y).any (t a (Y1 l)) _ _⟩ ⟨λa σ' Yl B' H' v ⟨b,d,m⟩ n A e f=>?_,λa σ' Yl B' H' v ⟨b,d,m⟩ n A e f=>?_⟩
 all_goals
  subst m;have C:B'=[]:=YA.1 (by rw[e.len];rfl);subst C;obtain⟨o,p,r⟩:=j.back n e
 .exact k.ret a σ Yl B H' v ⟨b,U⟩ p r o (f.any d _ _)
 .exact k.Na a σ Yl B H' v ⟨b,U⟩ p r o (f.any d _ _)
def LC (P:Program) (g:FuncId) (args:μ) (r:Ψ):Prop:=Μ P g args [] (λa s=>a=r/\s=[]) (λ_ _=>False)
theorem LC.call {g:FuncId} {first args captured:μ} {r:Ψ} {K:Ψ->Ξ->Prop} {E:Ψ->Ξ->Prop} (h:LC P g (first++args++captured) r) (c:∀a∈first++args++captured,ς 0 a) (d:ς 0 r) (e:K r σ) :
  Wm P (.fn (.func g) first captured) args σ K E:=by
 have f:Μ P g (first++args++captured) [] (λa s=>a=r/\ς 0 a/\s=[]) (λa s=>False/\ς 0 a/\s=[]):=h.mono (λa s ⟨b,Ρ⟩=>⟨b,b▸d,Ρ⟩) (λ_ _ h=>h.elim);exact Μ.call ((f.frame (σ:=σ) c).mono (λa s ⟨b,Ρ⟩=>by subst b;subst Ρ;exact e) (λ_ _ h=>h.1.elim))
end
theorem ye {h:Nat} {v:Value}:ς h (.z v)↔True:=⟨λ_=>trivial,λ_=>.z v⟩
theorem yd {h:Nat}:ς h .Ze↔True:=⟨λ_=>trivial,λ_=>.Ze⟩
theorem Jp {h:Nat} {l:μ}:ς h (.ξ l)↔∀a∈l,ς h a:=⟨λx=>by cases x;assumption,.ξ⟩
theorem yc {h:Nat} {l:μ}:ς h (.ZW l)↔∀a∈l,ς h a:=⟨λx=>by cases x;assumption,.ZW⟩
theorem yb {h:Nat} {l:μ}:ς h (.ZY l)↔∀a∈l,ς h a:=⟨λx=>by cases x;assumption,.ZY⟩
theorem YD {h:Nat} {ex:Bool} {k:Nat} {l:μ}:ς h (.sl ex k l)↔∀e∈l,∀a∈e.cells,ς h a:=⟨λx=>by cases x;assumption,.sl⟩
theorem ya {h:Nat} {t:TypeId} {a:Ψ}:ς h (.W6 t a)↔ς h a:=⟨λx=>by cases x;assumption,.W6⟩
theorem Wb {h id n i j:Nat}:ς h (.Δ id n i j)↔id<h:=⟨λx=>by cases x;assumption,.Δ⟩
theorem Tw {h id n i j:Nat}:ς h (.ms id n i j)↔id<h:=⟨λx=>by cases x;assumption,.ms⟩
theorem P0 {h id:Nat}:ς h (.mp id)↔id<h:=⟨λx=>by cases x;assumption,.mp⟩
theorem x' {h id:Nat}:ς h (.it id)↔id<h:=⟨λx=>by cases x;assumption,.it⟩
theorem U5 {h:Nat} {f:Fn} {b cs:μ}:ς h (.fn f b cs)↔(∀a∈b,ς h a)/\∀a∈cs,ς h a:=⟨λx=>by cases x;exact⟨by assumption,by assumption⟩,λx=>.fn x.1 x.2⟩
end Go.TL
