import Derived.Test.YtlabjopijpkiaaaGreatJAG
set_option maxHeartbeats 16000000
set_option maxRecDepth 20000
set_option linter.unusedSectionVars false
set_option linter.unusedSimpArgs false
set_option linter.unusedVariables false
namespace Go.TL
open Go.Conc
def Wc (T:ZR) (kt:TypeId) (k:Ω):List (Ω×Ω)->Nat->Option (Option (Nat×Ω))
 | [],_=>some none
 | e::r,i=>match aeqv T kt k e.1 with
  | some b=>bif b then some (some (i,e.2)) else Wc T kt k r (i+1)
  | none=>none
def SL (T:ZR) (kt:TypeId) (k:Ω):Bool:=match T kt with
 | some i=>match k with
  | .z _=>VF i.ZE
  | .ZT xs=>match i.ZE,i.eqs with
   | .array _ _,some a=>xs.length==a.length&&(Vb a xs xs).isSome
   | _,_=>false
  | _=>false
 | none=>false
section
variable {P:Program} {T:ZR} {S:μ} {B:Z8} {H:Χ} {σ:Ο}
theorem D8 {a:TypeId} {d:TypeDesc} (hd:P.underlying a=some d) (b:VF d=true) {v:Value} {em:Bool} {n:Nat} {G:Χ} {K:Unit->Χ->Prop} {E:Value->Χ->Prop} (c:K () G):Ψ P (Instr.checkKey em (n+1) a v) G K E:=by
 unfold Instr.checkKey;refine Ψ.bind' (Ψ.underlying hd ?_);cases d<;>first|(cases b;done)|(cases v<;>exact Ψ.pure' c)
theorem Ha (t:ZB P T) {kt:TypeId} {k:Ω} {v:Value} (u:π S B σ k v) (h:SL T kt k=true) {em:Bool} {G:Χ} {K:Unit->Χ->Prop} {E:Value->Χ->Prop} (o:K () G):Ψ P (Instr.checkKey em 10000 kt v) G K E:=by
 unfold SL at h;split at h
 .rename_i i hi;obtain⟨⟨p,g⟩,_⟩:=t kt i hi;split at h
  .exact D8 (n:=9999) p h o
  .rename_i xs;split at h
   .rename_i n e R w A;rw[A] at g;simp only[Wt,beq_iff_eq] at h;obtain⟨_,_,g⟩:=g;rcases g with⟨U,j,_⟩|⟨m,Φ,d,f,j,r,s,C,D,F⟩
    .rw[p,w] at j;cases j
    .cases u with
     | ZT vs H I=>
      have J:=LW (.ZT vs H I)
      show Ψ P (Instr.checkKey em (9999+1) kt _) G K E;unfold Instr.checkKey;refine Ψ.bind' (Ψ.underlying j ?_);simp only;rw[forIn_range];refine Ψ.bind' ?_;have c:∃b,Vb ((List.range m).map λi=>(d,i)) xs xs=some b:=by
       rw[<-F];exact Option.isSome_iff_exists.1 h.2
      have L:∀(l:List Nat) (b:Bool),Vb (l.map λi=>(d,i)) xs xs=some b->Ψ P (forIn l PUnit.unit λ(i:Nat) (_:PUnit)=>do
        let a <-sizeOf Φ
        let b <-part Φ vs (i*a)
        Instr.checkKey em 9999 Φ b
        pure (ForInStep.yield PUnit.unit)) G (λ_ G'=>K () G') E:=by
       intro l
       induction l with
       | nil=>intro b _;exact .forIn_nil o
       | cons i l M=>
        intro b c;simp only[Xg,Vb] at c;split at c<;>try cases c
        rename_i x y N V;split at c<;>try cases c
        rename_i W O X Q;refine .forIn_cons ?_;refine Ψ.bind' (Ψ.sizeOf C ?_);rw[D];refine Ψ.bind' (LV r s (by rw[Sp];exact J _ _ N) ?_);refine Ψ.bind' (D8 (n:=9998) r s ?_);exact Ψ.pure' (M O Q)
      obtain⟨b,c⟩:=c;exact Ψ.mono (λ_ G' h=>Ψ.pure' h) (λ_ _ h=>h) _ (L (List.range m) b c)
   .cases h
  .cases h
 .cases h
def Oh (S:μ) (B:Z8) (σ:Ο) (es:List (Ω×Ω)) (a:List MapEntry):Prop:=es.length=a.length/\∀(i:Nat) (e:Ω×Ω) (y:MapEntry),es[i]?=some e->a[i]?=some y->π S B σ e.1 y.key/\π S B σ e.2 y.val
theorem Oh.tail {e:Ω×Ω} {es:List (Ω×Ω)} {y:MapEntry} {a:List MapEntry} (h:Oh S B σ (e::es) (y::a)):(π S B σ e.1 y.key/\π S B σ e.2 y.val)/\Oh S B σ es a:=
 ⟨h.2 0 e y rfl rfl,⟨by simpa using h.1,λi b c d f=>h.2 (i+1) b c d f⟩⟩
theorem Jz {kt:TypeId} {k:Ω}:∀(es:List (Ω×Ω)) (n i:Nat) (a:Ω),Wc T kt k es n=some (some (i,a))->n<=i/\∃c,es[i-n]?=some (c,a)/\aeqv T kt k c=some true:=by
 intro es
 induction es with
 | nil=>intro n i a h;cases h
 | cons e es d=>
  intro n i a h;unfold Wc at h;split at h
  .rename_i b f;cases b with
   | true=>cases h;exact⟨γ _,e.1,I,f⟩
   | false=>
    obtain⟨l,c,g,j⟩:=d (n+1) i a h;refine⟨U,c,?_,j⟩;have:i-n=(i-(n+1))+1:=U;rw[this,List.getElem?_cons_succ];exact g
  .cases h
def Uc (a:List MapEntry) (b:Nat) (r:Option (Nat×Ω)):Option (Nat×Value):=r.map λx=>(x.1,((a[x.1-b]?).map (·.val)).getD undef)
theorem yS {d:TypeDesc} {x y:Value} {b:Bool} (h:TQ d x y=some b):Instr.sameNow d x y=some b:=by
 unfold TQ at h;split at h
 .split at h
  .rename_i e;subst e;cases h;simp[Instr.sameNow]
  .cases h
 .cases h;rfl
 .cases h;rfl
 .cases h
theorem yR (p:ZB P T) {kt:TypeId} {i:V5} (hi:T kt=some i) {k:Ω} {v:Value} (j:π S B σ k v) (l:∃u,k=.z u):∀(es:List (Ω×Ω)) (a:List MapEntry) (n:Nat) (r:Option (Nat×Ω)),Oh S B σ es a->Wc T kt k es n=some r->
  Instr.findNow i.ZE v a n=some (Uc a n r):=by
 obtain⟨u,rfl⟩:=l;cases j;intro es
 induction es with
 | nil=>
  intro a n r d h;have:a=[]:=by have:=d.1;simpa using this.symm
  subst this;cases h;rfl
 | cons e es m=>
  intro a n r d h;cases a with
  | nil=>have:=d.1;simp at this
  | cons y a=>
   obtain⟨⟨g,s⟩,o⟩:=d.tail;unfold Wc at h;split at h
   .rename_i b c;have hv:TQ i.ZE v y.key=some b:=by
     unfold aeqv at c;rw[hi] at c;simp only at c;split at c
     .rename_i x t f Φ;rw[Φ] at g;cases g;cases f;split at c
      .exact c
      .cases c
     .rename_i f _;cases f
     .cases c
    unfold Instr.findNow;rw[yS hv];cases b with
    | true=>cases h;simp[Uc]
    | false=>
     have:=m a (n+1) r o h;simp only[this];congr 1;unfold Uc;cases r with
     | none=>rfl
     | some x=>
      simp only[Option.map_some];have w:n+1<=x.1:=(Jz es (n+1) x.1 x.2 h).1;have:x.1-n=(x.1-(n+1))+1:=U;rw[this,List.getElem?_cons_succ]
   .cases h
theorem yQ (f:ZB P T) {kt:TypeId} {k:Ω} {v:Value} (g:π S B σ k v) {E:Value->Χ->Prop}:∀(es:List (Ω×Ω)) (a:List MapEntry) (n:Nat) (r:Option (Nat×Ω)) (K:Option (Nat×Value)->Χ->Prop),Oh S B σ es a->Wc T kt k es n=some r->
  K (Uc a n r) H->Ψ P (Instr.findAsking kt v a n) H K E:=by
 intro es
 induction es with
 | nil=>
  intro a n r K c h d;have:a=[]:=by have:=c.1;simpa using this.symm
  subst this;cases h;exact Ψ.pure' d
 | cons e es i=>
  intro a n r K c h d;cases a with
  | nil=>have:=c.1;simp at this
  | cons y a=>
   obtain⟨⟨j,o⟩,l⟩:=c.tail;unfold Wc at h;split at h
   .rename_i b m;unfold Instr.findAsking;refine Ψ.bind' (Hb f g j m ?_);cases b with
    | true=>cases h;simp only[if_true];exact Ψ.pure' (by simpa[Uc] using d)
    | false=>
     simp only[W',if_false];refine i a (n+1) r K l h ?_;have:Uc (y::a) n r=Uc a (n+1) r:=by
      unfold Uc;cases r with
      | none=>rfl
      | some x=>
       simp only[Option.map_some];have p:n+1<=x.1:=(Jz es (n+1) x.1 x.2 h).1;have:x.1-n=(x.1-(n+1))+1:=U;rw[this,List.getElem?_cons_succ]
     rw[<-this];exact d
   .cases h
theorem G9 (c:ZB P T) {kt:TypeId} {k:Ω} {v:Value} (f:π S B σ k v) (b:SL T kt k=true) {es:List (Ω×Ω)} {a:List MapEntry} {r:Option (Nat×Ω)} (d:Oh S B σ es a) (h:Wc T kt k es 0=some r) {K:Option (Nat×Value)->Χ->Prop} {E:Value->Χ->Prop} (e:K (Uc a 0 r) H) :
  Ψ P (Instr.findKey kt v a) H K E:=by
 unfold Instr.findKey;unfold SL at b;split at b
 .rename_i i hi;refine Ψ.bind' (c.ZE hi ?_);split at b
  .rw[yR c hi f ⟨_,rfl⟩ es a 0 r d h];exact Ψ.pure' e
  .rename_i xs;cases f with
   | ZT vs g j=>
    cases a with
    | nil=>
     have:es=[]:=by have:=d.1;simpa using this
     subst this;cases h;exact Ψ.pure' e
    | cons y a=>
     have l:Instr.findNow i.ZE (.agg vs) (y::a) 0=none:=by
      unfold Instr.findNow;have:Instr.sameNow i.ZE (.agg vs) y.key=none:=by unfold Instr.sameNow;cases i.ZE<;>rfl
      rw[this]
     rw[l];exact yQ c (.ZT vs g j) es (y::a) 0 r K d h e
  .cases b
 .cases b
def SK (σ:Ο) (id:Nat):Bool:=σ.all λr=>match r with|.iter m _ _=>m != id|_=>true
theorem yP {id:Nat} (h:SK σ id=true):∀(j:Nat) left a,σ[j]?≠some (Row.iter id left a):=λj left a b=>by
 have:=WQ.1 h _ (Zi b);simp at this
def Og (T:ZR) (a:TypeId):Option (TypeId×TypeId):=match T a with
 | some i=>match i.ZE with|.map k v=>some (k,v)|_=>none
 | none=>none
theorem Jy {a kt vt:TypeId} (h:Og T a=some (kt,vt)):∃i,T a=some i/\i.ZE=.map kt vt:=by
 unfold Og at h;split at h
 .rename_i i hi;split at h
  .rename_i k v b;cases h;exact⟨i,hi,b⟩
  .cases h
 .cases h
def G8 (σ:Ο):Y2:=.ok (.mp σ.length) (σ++[.map []])
theorem yO (c:Holds S B σ H) (d:TypeId):Y3 P (Instr.makeMap d none) S B H σ (G8 σ):=by
 intro K f;unfold Instr.makeMap;refine Ψ.bind' ?_;refine λr g=>?_;have h:∀b,(∀N,some (r,0)≠some (b,N))->UL H (H.ZU r (.map #[] 0)) b:=λb k=>by
  have l:b≠r:=λe=>by subst e;exact k _ rfl
  exact⟨λo=>rfl,rfl,by simp[Χ.ZU,l]⟩
 have m:Zx S S B (B++[some (r,0)]) σ (σ++[.map []])->Vd S (B++[some (r,0)]) (σ++[.map []]) (H.ZU r (.map #[] 0)) (.map []) (some (r,0)):=λ_=>
  ⟨r,0,#[],0,rfl,by simp[Χ.ZU],rfl,λi e y a=>by simp at a,λi j y z a=>by simp at a⟩
 obtain⟨a,n,p⟩:=c.push (λb N e=>by cases e;exact g) h m;exact Ψ.pure' ⟨_,_,_,_,f,n,a,p,.mp (es:=[]) (N:=0) (JI σ _) (JH c.len _)⟩
def Jx (T:ZR) (d:TypeId) (b:Bool) (σ:Ο) (e k:Ω):Y2:=match Og T d,e with
 | some (kt,vt),.mp id=>match σ[id]?,T vt with
  | some (.map es),some c=>if SL T kt k=true then match Wc T kt k es 0 with
   | some (some (_,a))=>.ok (if b then .ZW [a,.z (.bool true)] else a) σ
   | some none=>.ok (if b then .ZW [Wm c.zero,.z (.bool false)] else Wm c.zero) σ
   | none=>.bad else .bad
  | _,_=>.bad
 | _,_=>.bad
theorem LU (c:Holds S B σ H) {id b N:Nat} {es:List (Ω×Ω)} (d:σ[id]?=some (.map es)) (f:B[id]?=some (some (b,N))):∃xs a,H.obj b=some (.map xs a)/\P7 S B σ es xs a:=by
 obtain⟨i,j,xs,a,e,g,h⟩:=c.row id _ _ d f;cases e;exact⟨xs,a,g,h⟩
theorem P7.Nh {es:List (Ω×Ω)} {xs:Array MapEntry} {d:Nat} (h:P7 S B σ es xs d):Oh S B σ es xs.toList:=
 ⟨by simpa using h.1,λi e y f c=>by rw[Wv] at c;obtain⟨a,b,_⟩:=h.2.1 i e y f c;exact⟨a,b⟩⟩
theorem yN (l:ZB P T) (g:Holds S B σ H) {n:TypeId} {e:Bool} {mp k:Ω} {u v:Value} (I:π S B σ mp u) (w:π S B σ k v):Y3 P (Instr.lookup n u v e) S B H σ (Jx T n e σ mp k):=by
 unfold Jx;split
 .rename_i kt vt id J;obtain⟨i,hi,L⟩:=Jy J;split
  .rename_i es W o M;split
   .rename_i A;cases I with
    | mp j O=>
     rename_i b N;rw[o] at j;cases j;obtain⟨xs,X,Q,s⟩:=LU g o O;have C:∀(r:Option (Nat×Ω)) (t:Y2),Wc T kt k es 0=some r->(∀(K:Ω->Ο->Prop),t.holds K->∃(x:Ω) (y:Value),True/\Ψ P (do
       let (v,R) <-match Uc xs.toList 0 r with
        | some (_,v)=>pure (v,true)
        | none=>do pure (<-zeroValue vt,false)
       pure (if e then .tuple #[v,.bool R] else v)) H (VE S B H σ K) (λ_ _=>False))->Y3 P (Instr.lookup n (.map (some b)) v e) S B H σ t:=λr t f U K d=>by
      unfold Instr.lookup;refine Ψ.bind' (l.ZE hi ?_);rw[L];refine Ψ.bind' ?_;refine⟨_,Q,rfl,?_⟩;refine Ψ.bind' (Ψ.pure' ?_);refine Ψ.bind' (Ha l w A ?_);refine Ψ.bind' (G9 l w A s.Nh f ?_);obtain⟨_,_,_,h⟩:=U K d;cases m:Uc xs.toList 0 r with
      | none=>rw[m] at h;exact h
      | some p=>rw[m] at h;exact h
     split
     .rename_i c a f;refine C _ _ f λK d=>⟨a,undef,trivial,?_⟩;obtain⟨_,Y,D,_⟩:=Jz es 0 c a f;have E:c<xs.size:=by have:=(ZA.1 D).1;rw[<-s.1];simpa using this
      have V:xs[c]?=some xs[c]:=XG E;obtain⟨_,F,_⟩:=s.2.1 c _ _ (by simpa using D) V;have m:Uc xs.toList 0 (some (c,a))=some (c,xs[c].val):=by simp[Uc,E]
      rw[m];refine Ψ.bind' (Ψ.pure' (Ψ.pure' ?_));cases e with
      | true=>exact .same g d (Nq F (.z _))
      | false=>exact .same g d F
     .rename_i f;refine C _ _ f λK d=>⟨.Zl,undef,trivial,?_⟩;refine Ψ.bind' (l.zero M ?_);refine Ψ.bind' (Ψ.pure' (Ψ.pure' ?_));cases e with
      | true=>exact .same g d (Nq (RF _) (.z _))
      | false=>exact .same g d (RF _)
     .exact .bad
    | Uf v j=>rw[o] at j;cases j
   .exact .bad
  .exact .bad
 .exact .bad
def LS (T:ZR) (a:TypeId) (σ:Ο) (b k x:Ω):Y2:=match Og T a,b with
 | some (kt,_),.mp id=>match σ[id]? with
  | some (.map es)=>if SL T kt k=true/\SK σ id=true then match Wc T kt k es 0 with
   | some (some (i,_))=>.ok .Zl (σ.set id (.map (es.set i (k,x))))
   | some none=>.ok .Zl (σ.set id (.map (es++[(k,x)])))
   | none=>.bad else .bad
  | _=>.bad
 | _,_=>.bad
theorem G7 (c:Holds S B σ H) {id b N:Nat} {es es':List (Ω×Ω)} {xs':Array MapEntry} {clock':Nat} (d:σ[id]?=some (.map es)) (f:B[id]?=some (some (b,N))) (g:SK σ id=true) (h:∀{B':Z8} {σ':Ο},Zx S S B B' σ σ'->P7 S B' σ' es' xs' clock') :
  Holds S (B.set id (some (b,N))) (σ.set id (.map es')) (H.ZU b (.map xs' clock'))/\Ext S B H S (B.set id (some (b,N))) (H.ZU b (.map xs' clock'))/\Zx S S B (B.set id (some (b,N))) σ (σ.set id (.map es')):=
 c.Ns d trivial f (.inl ⟨es',rfl,rfl⟩) (λa i e=>.inl ⟨i,e⟩) (λa j _=>by
  have k:a≠b:=λe=>by subst e;exact j N rfl
  exact⟨λo=>rfl,rfl,by simp[Χ.ZU,k]⟩) Χ.Hq (yP g) λl=>⟨b,N,xs',clock',rfl,by simp[Χ.ZU],h l⟩
theorem D7 (m:ZB P T) (M:Holds S B σ H) {aa:TypeId} {mp k x:Ω} {u v w:Value} (ai:π S B σ mp u) (n:π S B σ k v) (ab:π S B σ x w):Np P (Instr.mapUpdate aa u v w) S B H σ (LS T aa σ mp k x):=by
 unfold LS;split
 .rename_i kt vt id aj;obtain⟨i,hi,ad⟩:=Jy aj;split
  .rename_i es r;split
   .rename_i ak;obtain⟨D,ae⟩:=ak;cases ai with
    | mp s O=>
     rename_i b N;rw[r] at s;cases s;obtain⟨xs,Q,E,f⟩:=LU M r O;split
     .rename_i h a F;obtain⟨_,av,o,al⟩:=Jz es 0 h a F;simp only[Nat.sub_zero] at o;have af:h<es.length:=(ZA.1 o).1;have ag:h<xs.size:=by rw[<-f.1];exact af
      have t:xs[h]?=some xs[h]:=XG ag;obtain⟨am,aw,an⟩:=f.2.1 h _ _ o t;obtain⟨ah,Φ,ao⟩:=yT m n am al;intro K R;unfold Instr.mapUpdate;refine Ψ.bind' (m.ZE hi ?_);rw[ad];refine Ψ.bind' ⟨_,E,rfl,Ψ.pure' ?_⟩;refine Ψ.bind' (Ha m n D ?_);refine Ψ.bind' (G9 m n D f.Nh F ?_);have ap:Uc xs.toList 0 (some (h,a))=some (h,xs[h].val):=by simp[Uc,ag]
      rw[ap];simp only[t,Option.map_some,Option.getD_some];unfold Instr.keyThatStays;rw[<-ah];simp only[ao,if_true];refine Ψ.bind' (Ψ.pure' ?_);obtain⟨V,W,X⟩:=G7 M (es':=es.set h (k,x)) (xs':=xs.modify h λe=>{e with key:=v,val:=w}) (clock':=Q) r O ae λ{B' σ'} l=>by
       refine⟨by simp[f.1],λj e y c d=>?_,λj I y z c d Y=>?_⟩
       .rw[Array.getElem?_modify] at d;by_cases p:h=j
        .subst p;rw[Xa af] at c;rw[if_pos rfl,t] at d;cases c;cases d;exact⟨n.later l,ab.later l,an⟩
        .rw[WR p] at c;rw[if_neg p] at d;obtain⟨A,C,J⟩:=f.2.1 j e y c d;exact⟨A.later l,C.later l,J⟩
       .have born:∀(j:Nat) (y:MapEntry),(xs.modify h λe=>{e with key:=v,val:=w})[j]?=some y->∃L,xs[j]?=some L/\y.born=L.born:=λj y g=>by
         rw[Array.getElem?_modify] at g;by_cases p:h=j
         .subst p;rw[if_pos rfl,t] at g;cases g;exact⟨_,t,rfl⟩
         .rw[if_neg p] at g;exact⟨y,g,rfl⟩
        obtain⟨L,A,C⟩:=born j y c;obtain⟨aq,J,ar⟩:=born I z d;rw[C,ar];exact f.2.2 j I L aq A J Y
      exact⟨⟨_,E⟩,rfl,rfl,Ψ.pure' ⟨S,_,_,_,R,W,V,X,.Zl _⟩⟩
     .rename_i F;intro K R;unfold Instr.mapUpdate;refine Ψ.bind' (m.ZE hi ?_);rw[ad];refine Ψ.bind' ⟨_,E,rfl,Ψ.pure' ?_⟩;refine Ψ.bind' (Ha m n D ?_);refine Ψ.bind' (G9 m n D f.Nh F ?_);simp only[Uc,Option.map_none];obtain⟨V,W,X⟩:=G7 M (es':=es++[(k,x)]) (xs':=xs.push {key:=v,val:=w,born:=Q}) (clock':=Q+1) r O ae λ{B' σ'} l=>by
       refine⟨by simp[f.1],λj e y c d=>?_,λj I y z c d Y=>?_⟩
       .by_cases Z:j<es.length
        .rw[YK Z] at c;rw[NH,if_neg (by rw[<-f.1];omega)] at d;obtain⟨A,C,J⟩:=f.2.1 j e y c d;exact⟨A.later l,C.later l,U⟩
        .rw[W8 U] at c;have au:j=es.length:=by
          have:=(ZA.1 c).1;simp at this;omega
         subst au;rw[NH,if_pos f.1] at d;simp at c;subst c;cases d;exact⟨n.later l,ab.later l,Qg _⟩
       .rw[NH] at c d;split at c
        .rename_i ah;split at d
         .omega
         .have:=(TY.1 d).1;omega
        .split at d
         .cases d;have Z:=(TY.1 c).1;have o:∃e,es[j]?=some e:=⟨_,δ (by rw[f.1];exact Z)⟩;obtain⟨e,o⟩:=o;exact(f.2.1 j e y o c).2.2
         .exact f.2.2 j I y z c d Y
      exact⟨⟨_,E⟩,rfl,rfl,Ψ.pure' ⟨S,_,_,_,R,W,V,X,.Zl _⟩⟩
     .exact .bad
    | Uf v s=>rw[r] at s;cases s
   .exact .bad
  .exact .bad
 .exact .bad
end
section
variable {P:Program} {T:ZR} {S:μ} {B:Z8} {H:Χ} {σ:Ο}
def Jw (T:ZR) (a:TypeId) (σ:Ο) (b:Ω):Y2:=match Og T a,b with
 | some _,.mp id=>match σ[id]? with
  | some (.map es)=>.ok (.it σ.length) (σ++[.iter id es none])
  | _=>.bad
 | _,_=>.bad
theorem yM (C:ZB P T) (h:Holds S B σ H) {n:TypeId} {mp:Ω} {u:Value} (D:π S B σ mp u):Y3 P (Instr.range n u) S B H σ (Jw T n σ mp):=by
 unfold Jw;split
 .rename_i p id E;obtain⟨i,hi,F⟩:=Jy (kt:=p.1) (vt:=p.2) E;split
  .rename_i es a;cases D with
   | mp c s=>
    rename_i b N;rw[a] at c;cases c;obtain⟨xs,d,k,l⟩:=LU h a s;intro K J;unfold Instr.range;refine Ψ.bind' (C.ZE hi ?_);rw[F];refine Ψ.bind' ?_;refine⟨_,k,rfl,?_⟩;refine Ψ.bind' (Ψ.pure' ?_);refine Ψ.bind' ?_;refine λr t=>?_;have m:b≠r:=λe=>by subst e;rw[t.2.2.1] at k;cases k
    have w:id<σ.length:=(ZA.1 a).1
    have L:∀f,(∀N,some (r,0)≠some (f,N))->UL H (H.ZU r (.mapIter (some b) d #[] d)) f:=λf M=>by
     have m:f≠r:=λe=>by subst e;exact M _ rfl
     exact⟨λo=>rfl,rfl,by simp[Χ.ZU,m]⟩
    have O:Zx S S B (B++[some (r,0)]) σ (σ++[.iter id es none])->Vd S (B++[some (r,0)]) (σ++[.iter id es none]) (H.ZU r (.mapIter (some b) d #[] d)) (.iter id es none) (some (r,0)):=λx=>by
     refine⟨r,0,b,N,xs,d,#[],rfl,by rw[YK (by rw[h.len];exact w)];exact s,⟨es,by rw[YK w];exact a⟩,by simp[Χ.ZU],by simp[Χ.ZU,m,k],⟨xs.toList,?_,by simpa using l.1,λi e y Q R=>?_⟩,λy U=>?_,λe g=>by cases g⟩
     .exact(List.filter_eq_self.2 λe _=>I).symm
     .obtain⟨V,W⟩:=l.Nh.2 i e y Q R;exact⟨V.later x,W.later x⟩
     .obtain⟨j,A,rfl⟩:=Array.getElem_of_mem U;have g:∃e,es[j]?=some e:=⟨_,δ (by rw[l.1];exact A)⟩;obtain⟨e,g⟩:=g;exact(l.2.1 j e _ g (XG A)).2.2
    obtain⟨X,Y,Z⟩:=h.push (λf aa e=>by cases e;exact t) L O;exact Ψ.pure' ⟨_,_,_,_,J,Y,X,Z,.it (JI σ _) (JH h.len _)⟩
   | Uf v c=>rw[a] at c;cases c
  .exact .bad
 .exact .bad
theorem yL {α:Type} (f:α->Nat):∀(l:List α) (i:Nat) (e:α),(l.map f).Nodup->l[i]?=some e->l.filter (λx=>f x != f e)=l.eraseIdx i:=by
 intro l
 induction l with
 | nil=>intro i e _ h;simp at h
 | cons a l c=>
  intro i e b h;simp only[Xg,Q7] at b;cases i with
  | zero=>
   simp at h;subst h;rw[Kr];simp only[bne_self_eq_false,W',if_false,List.eraseIdx_cons_zero];rw[List.filter_eq_self];intro x d;simp only[bne_iff_ne,ne_eq];intro e;exact b.1 (e▸List.mem_map_of_mem d)
  | succ i=>
   simp only[List.getElem?_cons_succ] at h;have g:f a≠f e:=λx=>b.1 (x▸List.mem_map_of_mem (Zi h));rw[Kr];simp only[bne_iff_ne,ne_eq,g,not_false_eq_true,if_true,List.eraseIdx_cons_succ];rw[c i e b.2 h]
theorem yK {es:List (Ω×Ω)} {xs:Array MapEntry} {a:Nat} (h:P7 S B σ es xs a):(xs.toList.map (·.born)).Nodup:=by
 rw[List.Nodup,Kw,Q'];intro i j hi b c;have:=h.2.2 i j _ _ (XG (by simpa using hi)) (XG (by simpa using b)) c;simp only[Array.getElem_toList];omega
def Jv (σ:Ο) (a:Ω):Y2:=match a with
 | .it id=>match σ[id]? with
  | some (.iter m left _)=>if left.isEmpty=true then .ok (.ZW [.z (.bool false)]) σ else
    .all left.length λi=>match left[i]? with
     | some e=>.ok (.ZW [.z (.bool true),e.1,e.2]) (σ.set id (.iter m (left.eraseIdx i) (some e)))
     | none=>.bad
  | _=>.bad
 | _=>.bad
theorem yJ {a b c:Ω} {u v w:Value} (f:π S B σ a u) (g:π S B σ b v) (h:π S B σ c w):π S B σ (.ZW [a,b,c]) (.tuple #[u,v,w]):=by
 refine .ZW _ rfl λi j k d e=>?_
 match i with
 | 0=>simp at d e;subst d;subst e;exact f
 | 1=>simp at d e;subst d;subst e;exact g
 | 2=>simp at d e;subst d;subst e;exact h
 | i+3=>simp at d
theorem yI (r:Holds S B σ H) {it:Ω} {u:Value} (aB:TypeId) (hi:π S B σ it u):Y3 P (Instr.next u false aB) S B H σ (Jv σ it):=by
 unfold Jv;split
 .rename_i id;split
  .rename_i m left aV s;cases hi with
   | it A aj=>
    rename_i aW aX aY b N;rw[s] at A;cases A;obtain⟨R,ak,J,aC,xs,f,seen,T,al,⟨es,L⟩,V,C,⟨t,W,X,Y⟩,Z,aZ⟩:=r.row id _ _ s aj;cases T;obtain⟨xs',clock',am,aD⟩:=LU r L al;rw[C] at am;cases am;have an:=yK aD;have aa:J≠b:=λe=>by subst e;rw[V] at C;cases C
    intro K ab;have aE:(xs.filter λe=>!seen.contains e.born).toList=t:=by rw[W];simp
    have aF:(!seen.isEmpty&&!xs.isEmpty&&xs.all (λe=>decide (e.born>=f)))=false:=by
     cases ao:xs.isEmpty with
     | true=>simp
     | false=>
      have D:0<xs.size:=by
       rw[Array.isEmpty_eq_false_iff] at ao;exact Array.size_pos_iff.2 ao
      have aG:xs.all (λe=>decide (e.born>=f))=false:=by
       rw[Array.all_eq_false];refine⟨0,D,?_⟩;have:=Z xs[0] (Array.getElem_mem D);simp;exact this
      rw[aG];simp
    have aH:∀z:Array MapEntry,z=xs.filter (λe=>!seen.contains e.born)->z.filter (λe=>decide (e.born<f))=z/\z.filter (λe=>decide (e.born>=f))=#[]:=λz E=>by
     have ap:∀e∈z,e.born<f:=λe k=>by rw[E] at k;exact Z e (Array.mem_of_mem_filter k)
     constructor
     .rw[Array.filter_eq_self];intro e k;simpa using ap e k
     .rw[Array.filter_eq_empty_iff];intro e k;simpa using ap e k
    unfold Instr.next;refine Ψ.bind' ?_;refine⟨_,V,rfl,?_⟩;refine Ψ.pure' ?_;simp only;refine Ψ.bind' ?_;refine⟨_,C,rfl,?_⟩;refine Ψ.pure' ?_;simp only[aF,W',if_false];generalize E:xs.filter (λe=>!seen.contains e.born)=z;obtain⟨f1,f2⟩:=aH z E.symm;rw[f1,f2];have M:z.toList=t:=by rw[<-E];exact aE
    by_cases O:left.isEmpty=true
    .have aI:left=[]:=Qh.1 O;subst aI;have aJ:z=#[]:=by
      have:t=[]:=YL.1 (by rw[<-X];rfl);rw[this] at M;exact Array.toList_eq_nil_iff.1 M
     subst aJ;have T:((if(#[]:Array MapEntry).isEmpty=true then #[none] else #[])++Array.map some (#[]++#[]:Array MapEntry))=#[none]:=I;rw[T];refine Ψ.bind' ?_;show Ψ P (choose (.mapNext 1)) H _ _;unfold choose;simp only[Ψ,Question.forced,γ,decide_true,if_true];exact Ψ.pure' (.same r ab (.ZW _ rfl λi a v g p=>by
      match i with
      | 0=>simp at g p;subst g;subst p;exact .z _
      | i+1=>simp at g))
    .rw[if_neg O] at ab;have ad:z.size=left.length:=by rw[X,<-M];simp
     have aK:z.isEmpty=false:=by
      rw[Array.isEmpty_eq_false_iff];intro e;rw[e] at ad;exact O (Qh.2 (YL.1 ad.symm))
     simp only[aK,W',if_false,OL,Array.empty_append];refine Ψ.bind' ?_;have aq:∀i,i<left.length->Ψ P (match (z.map some)[i]? with
       | some (some e)=>do
        setObj b (.mapIter (some J) f (seen.push e.born) f)
        pure (.tuple #[.bool true,e.key,e.val])
       | some none=>pure (.tuple #[.bool false])
       | none=>stuck "Next: no such candidate") H (VE S B H σ K) (λ_ _=>False):=λi ar=>by
      have F:∃d,z[i]?=some d:=⟨_,XG U⟩;obtain⟨d,F⟩:=F;have au:t[i]?=some d:=by rw[<-M,Wv];exact F
      have Q:∃e,left[i]?=some e:=⟨_,δ ar⟩;obtain⟨le,Q⟩:=Q;rw[Py,F];simp only[Option.map_some];have av:=ab i ar;simp only[Q] at av;obtain⟨aw,ax⟩:=Y i _ _ Q au;have aL:d∈xs:=by
       have:d∈z:=Array.mem_of_getElem? F;rw[<-E] at this;exact Array.mem_of_mem_filter this
      have aM:id<σ.length:=(ZA.1 s).1
      have a0:id<B.length:=by rw[r.len];exact aM
      have ay:id≠m:=λe=>by subst e;rw[s] at L;cases L
      obtain⟨aN,aO,ae⟩:=r.Ns (H':=H.ZU b (.mapIter (some J) f (seen.push d.born) f)) (r':=.iter m (left.eraseIdx i) (some le)) (bo':=some (b,N)) s trivial aj (.inl ⟨_,_,rfl,rfl⟩) (λR ak e=>.inl ⟨ak,e⟩) (λR g _=>by
       have aa:R≠b:=λe=>by subst e;exact g N rfl
       exact⟨λo=>rfl,rfl,by simp[Χ.ZU,aa]⟩) Χ.Hq (λj l c az=>by
       obtain⟨bo,aP⟩:=Ew r az;obtain⟨_,_,_,_,_,_,_,_,_,⟨a1,aA⟩,_⟩:=r.row j _ bo az aP;rw[s] at aA;cases aA) (λw=>by
       refine⟨b,N,J,aC,xs,f,seen.push d.born,rfl,by rw[WR ay];exact al,⟨es,by rw[WR ay];exact L⟩,by simp[Χ.ZU],by simp[Χ.ZU,aa,C],⟨t.eraseIdx i,?_,by rw[List.length_eraseIdx,List.length_eraseIdx,X],λj e y g p=>?_⟩,Z,λe k=>?_⟩
       .have aQ:(t.map (·.born)).Nodup:=by
         rw[W];exact an.sublist (List.filter_sublist.map _)
        rw[<-yL (·.born) t i d aQ au,W,List.filter_filter];apply Kv;intro e _;rw[Array.contains_push,Bool.not_or,Bool.and_comm];congr 1
       .rw[List.getElem?_eraseIdx] at g p;split at g
        .rename_i af;rw[if_pos af] at p;obtain⟨ag,ah⟩:=Y j e y g p;exact⟨ag.later w,ah.later w⟩
        .rename_i af;rw[if_neg af] at p;obtain⟨ag,ah⟩:=Y (j+1) e y g p;exact⟨ag.later w,ah.later w⟩
       .cases k;refine⟨d.born,d,I,?_,aw.later w,ax.later w⟩;rw[<-Array.find?_toList];obtain⟨q,aR⟩:=St (show d∈xs.toList by simpa using aL);have aS:∀(l:List MapEntry) (q:Nat) (e:MapEntry),(l.map (·.born)).Nodup->l[q]?=some e->l.find? (·.born==e.born)=some e:=by
         intro l
         induction l with
         | nil=>intro q e _ h;simp at h
         | cons a l aT=>
          intro q e ai h;simp only[Xg,Q7] at ai;rw[List.find?_cons];cases q with
          | zero=>simp at h;subst h;simp
          | succ q=>
           simp only[List.getElem?_cons_succ] at h;have:(a.born==e.born)=false:=by
            simp only[beq_eq_false_iff_ne,ne_eq];intro x;exact ai.1 (x▸List.mem_map_of_mem (Zi h))
           rw[this];exact aT q e ai.2 h
        exact aS xs.toList q _ an aR)
      refine Ψ.bind' ?_;refine⟨⟨_,V⟩,rfl,rfl,?_⟩;refine Ψ.pure' ?_;exact Ψ.pure' ⟨S,_,_,_,av,aO,aN,ae,yJ (.z _) (aw.later ae) (ax.later ae)⟩
     have aU:(z.map some).size=left.length:=by simp[ad]
     show Ψ P (choose (.mapNext (z.map some).size)) H _ _;unfold choose;simp only[Ψ];have D:0<left.length:=RQ.2 λe=>O (Qh.2 e);split
     .exact aq 0 D
     .intro n;refine aq _ ?_;simp only[Question.cut,aU];exact Nat.mod_lt _ D
   | Tg v A=>rw[s] at A;cases A
  .exact .bad
 .exact .bad
def Ju (σ:Ο) (a:Ω):Y2:=match a with
 | .it id=>match σ[id]? with
  | some (.iter _ _ (some e))=>.ok (.ZW [e.1,e.2]) σ
  | _=>.bad
 | _=>.bad
theorem yH (d:Holds S B σ H) {it:Ω} {u:Value} (hi:π S B σ it u):Y3 P (Instr.entry u) S B H σ (Ju σ it):=by
 unfold Ju;split
 .rename_i id;split
  .rename_i m left e c;cases hi with
   | it a f=>
    rename_i r s t b N;rw[c] at a;cases a;obtain⟨w,x,A,C,xs,D,seen,g,E,F,h,i,_,I,j⟩:=d.row id _ _ c f;cases g;obtain⟨J,y,k,l,n,o⟩:=j e rfl;intro K p;unfold Instr.entry;refine Ψ.bind' ?_;refine⟨_,h,rfl,?_⟩;refine Ψ.pure' ?_;simp only[k];refine Ψ.bind' ?_;refine⟨_,i,rfl,?_⟩;refine Ψ.pure' ?_;simp only[bne_self_eq_false,W',if_false,l];exact Ψ.pure' (.same d p (Nq n o))
   | Tg v a=>rw[c] at a;cases a
  .exact .bad
 .exact .bad
@[simp] def G6:Value->Option Ω
 | .int k z=>some (.z (.int k z))
 | .slice none 0 0=>some (.sl true 0 [])
 | _=>none
theorem yG {a:Value} {b:Ω} (h:G6 a=some b):a.cells=#[a]/\b.cells=[b]/\(∀S B σ,π S B σ b a)/\One a:=by
 unfold G6 at h;split at h
 .cases h;exact⟨rfl,rfl,λ_ _ _=>.z _,trivial⟩
 .cases h;exact⟨rfl,rfl,λ_ _ _=>.Wo _ _ (λ_=>rfl),trivial⟩
 .cases h
def Jt (T:ZR) (b:TypeId) (σ:Ο) (x:Ω):Y2:=match x with
 | .ms id n i len=>match T b,σ[id]? with
  | some c,some (.cells t k l)=>match c.ZE with
   | .slice e=>match T e with
    | some d=>match G6 d.zero with
     | some f=>if l.length=n/\k=1/\i+len<=n/\(∀a∈l,a.cells.length=1) then .ok .Zl (σ.set id (.cells t k (l.take i++List.replicate len f++l.drop (i+len)))) else .bad
     | none=>.bad
    | none=>.bad
   | _=>.bad
  | _,_=>.bad
 | _=>.bad
theorem yF (Q:ZB P T) (p:Holds S B σ H) {R:TypeId} (ae:TypeId) {x:Ω} {u:Value} (af:π S B σ x u):Y3 P (Builtin.clear_ #[R] ae #[u]) S B H σ (Jt T R σ x):=by
 unfold Jt;split
 .rename_i id n i len;split
  .rename_i aI t k l ag g;split
   .rename_i e ah;split
    .rename_i D ai;split
     .rename_i r aj;obtain⟨ak,V,al,am⟩:=yG aj;split
      .rename_i an;obtain⟨aJ,rfl,aK,_⟩:=an;have W:id<σ.length:=(ZA.1 g).1;have aL:id<B.length:=by rw[p.len];exact W
       intro K E;have same:len=0->VE S B H σ K (.tuple #[]) H:=λs=>by
        subst s;have ao:σ.set id (.cells t 1 (l.take i++List.replicate 0 r++l.drop (i+0)))=σ:=by
         rw[List.replicate_zero,Vw,Nat.add_zero,OP];apply VJ;intro j;by_cases X:id=j
         .subst X;rw[Xa W,g]
         .rw[WR X]
        simp only[Y2.holds] at E;rw[ao] at E;exact⟨S,B,σ,_,E,.refl _ _ _,p,.refl _ _ _,.Zl _⟩
       cases af with
       | Vt v h Y=>rw[g] at h;cases h;simp only[Row.WB] at Y;omega
       | ms cap h Y Z aM aN A=>
        rename_i bo base;rw[g] at h;cases h;unfold Builtin.clear_;refine Ψ.bind' (Q.ZE ag ?_);rw[ah];cases base with
        | none=>
         refine Ψ.bind' (Ψ.pure' ?_);have s:len=0:=by
          rcases A with A|⟨b,N,_,F,_⟩
          .omega
          .cases F
         exact Ψ.pure' (same s)
        | some a=>
         by_cases s:len=0
         .subst s;refine Ψ.bind' (Ψ.pure' ?_);exact Ψ.pure' (same rfl)
         .rcases A with A|⟨b,N,rfl,F,A⟩
          .omega
          .cases F;obtain⟨aa,aO,ab,w,I⟩:=p.row id _ _ g Z;obtain⟨m,rfl⟩:∃m,len=m+1:=⟨len-1,U⟩;simp only;refine Ψ.bind' (Q.zero ai ?_);have ap:(Builtin.zeroCells D.zero.cells (m+1)).toList=List.replicate (m+1) D.zero:=by
            simp only[Builtin.zeroCells,ak];rw[Array.toList_map,Array.toList_range];refine VJ λj=>?_;rw[YU,OQ];by_cases d:j<m+1
            .rw[Q8 (by simpa using d),if_pos d];simp[Nat.mod_one]
            .rw[Wu (by simp;omega),if_neg d];rfl
           rw[ap];have aq:∀(y:Nat) (c:Ω),(l.take i++List.replicate (m+1) r++l.drop (i+(m+1)))[y]?=some c->(i<=y/\y<i+(m+1)/\c=r)\/((y<i\/i+(m+1)<=y)/\l[y]?=some c):=λy c f=>by
            by_cases C:y<i
            .rw[Vi,YK (by simp;omega),Tt C] at f;exact .inr ⟨.inl C,f⟩
            .by_cases J:y<i+(m+1)
             .rw[YK (by simp;omega),W8 (by simp;omega),OQ] at f;split at f
              .cases f;exact .inl ⟨U,J,rfl⟩
              .cases f
             .rw[W8 (by simp;omega),Tq] at f;have ar:i+(m+1)+(y-(l.take i++List.replicate (m+1) r).length)=y:=by simp;omega
              rw[ar] at f;exact .inr ⟨.inr U,f⟩
           obtain⟨au,av,aw⟩:=p.Ns (H':=H.Wn b i (List.replicate (m+1) D.zero)) (r':=.cells t 1 (l.take i++List.replicate (m+1) r++l.drop (i+(m+1)))) (bo':=some (b,N)) g trivial Z (.inl ⟨_,rfl,by simp;omega,rfl⟩) (λad ax L=>.inl ⟨ax,L⟩)
            (λad h _=>by
             have ay:ad≠b:=λL=>by subst L;exact h N rfl
             exact⟨λo=>by simp[Χ.Wn,ay],rfl,rfl⟩) Χ.Hn (JU p g) (λaz=>by
             refine⟨aa,by simp;omega,λo aA=>?_,λy j=>if i<=y/\y<i+(m+1) then D.zero else w y j,λy c f=>?_⟩
             .simp only[Χ.Wn];split
              .exact⟨_,rfl⟩
              .exact ab o aA
             .rcases aq y c f with⟨C,J,rfl⟩|⟨C,M⟩
              .refine⟨by rw[V];rfl,λj a d=>?_⟩;rw[V] at d;have O:j=0:=by have:=(ZA.1 d).1;simp at this;omega
               subst O;simp at d;subst d;simp only[C,J,and_self,if_true];refine⟨?_,al _ _ _,am⟩;simp only[Χ.Wn,Q9];rw[if_pos ⟨trivial,U,U⟩,OQ,if_pos U];rfl
              .refine⟨(I y c M).1,λj a d=>?_⟩;obtain⟨aB,aC,aD⟩:=(I y c M).2 j a d;have O:j=0:=by have:=(ZA.1 d).1;rw[(I y c M).1] at this;omega
               subst O;have aE:¬(i<=y/\y<i+(m+1)):=U;simp only[aE,if_false];refine⟨?_,aC.later az,aD⟩;simp only[Χ.Wn,Q9];rw[if_neg U];exact aB)
           have aF:(⟨b,i*1,none⟩:Addr)=⟨b,i,none⟩:=by rw[Sp]
           rw[aF];refine Ψ.bind' ?_;refine Ψ.storeCells (G:=H) rfl ⟨t,N,aa⟩ _ 0 H (λv hv=>by rw[KI hv];trivial) (λj _ d=>?_) rfl ?_
           .rw[Q9] at d;obtain⟨aG,aH⟩:=ab (i+j) U;exact⟨aG,aH⟩
           .exact Ψ.pure' ⟨S,_,_,_,E,av,au,aw,.Zl _⟩
      .exact .bad
     .exact .bad
    .exact .bad
   .exact .bad
  .exact .bad
 .exact .bad
def Js (T:ZR) (a:TypeId) (σ:Ο) (b:Ω):Y2:=match Og T a,b with
 | some _,.mp id=>match σ[id]? with
  | some (.map _)=>if SK σ id=true then .ok .Zl (σ.set id (.map [])) else .bad
  | _=>.bad
 | _,_=>Jt T a σ b
theorem yE (f:ZB P T) (d:Holds S B σ H) {g:TypeId} (h:TypeId) {mp:Ω} {u:Value} (k:π S B σ mp u):Y3 P (Builtin.clear_ #[g] h #[u]) S B H σ (Js T g σ mp):=by
 unfold Js;split
 .rename_i l id o;obtain⟨i,hi,p⟩:=Jy (kt:=l.1) (vt:=l.2) o;split
  .rename_i es c;split
   .rename_i r;cases k with
    | mp a m=>
     rename_i b N;rw[c] at a;cases a;obtain⟨xs,s,n,C⟩:=LU d c m;obtain⟨t,w,x⟩:=G7 d (es':=[]) (xs':=#[]) (clock':=s) c m r λ_=>⟨rfl,λi e y a=>by simp at a,λi j y z a=>by simp at a⟩;intro K A;unfold Builtin.clear_;refine Ψ.bind' (f.ZE hi ?_);rw[p];refine Ψ.bind' ?_;refine⟨_,n,rfl,?_⟩;refine Ψ.pure' ?_;refine⟨⟨_,n⟩,rfl,rfl,?_⟩;exact Ψ.pure' ⟨S,_,_,_,A,w,t,x,.Zl _⟩
    | Uf v a=>rw[c] at a;cases a
   .exact .bad
  .exact .bad
 .exact yF f d h k
end
def Of (T:ZR) (c:BinOp) (d:TypeId) (a b:Ω):Zf:=match aeqv T d a b with
 | some r=>match c with
  | .eql=>.ok (.z (.bool r))
  | .neq=>.ok (.z (.bool !r))
  | _=>.bad
 | none=>.bad
def Jr (T:ZR) (c:BinOp) (d:TypeId) (a b:Ω):Zf:=match a,b with
 | .z x,.z y=>match P5 c x y with
  | .ok v=>.ok v
  | .Y' p r=>.Y' p r
  | .bad=>Of T c d (.z x) (.z y)
 | .ZT x,.ZT y=>Of T c d (.ZT x) (.ZT y)
 | _,_=>.bad
def Jq (T:ZR) (b:TypeId) (x c:Ω):Zf:=match T b with
 | some i=>match i.ZE,x,c with
  | .string,.z (.string s),.z (.int _ n)=>.Y' (0<=n/\n<s.size) (.ok (.z (.int .u8 (s.data.toList.getD n.toNat 0).toNat)))
  | .array len e,.ZT xs,.z (.int _ n)=>match T e with
   | some a=>if a.agg=false/\a.size=1/\xs.length=len then .Y' (0<=n/\n<len) (.ok (xs.getD n.toNat .Zl)) else .bad
   | none=>.bad
  | _,_,_=>.bad
 | none=>.bad
def Jp (x:Ω):Zf:=match x with
 | .Θ c=>.ok (.Θ c)
 | .fn (.func f) a b=>.ok (.fn (.func f) a b)
 | .z (.pointer (some a))=>.ok (.z (.pointer (some a)))
 | _=>.bad
def Oe (σ:Ο) (x:Ω):Y2:=match x with
 | .Κ id n i j=>match σ[id]? with
  | some (.cells _ _ l)=>if l.length=n then .ok (.Κ id n i j) σ else .bad
  | _=>.bad
 | _=>.bad
def Jo (T:ZR) (a:TypeId) (x:Ω):Zf:=match T a with
 | some i=>match i.ZE,x with
  | .array n _,.sl _ k l=>if 0<n/\k=1/\(l.all λe=>decide (e.cells.length=1)&&Ω.YH [] e)=true then .Y' (n<=l.length) (.ok (.Θ (l.take n))) else .bad
  | _,_=>.bad
 | none=>.bad
def P2:κ->Option (List Int)
 | []=>some []
 | .z (.int .i32 n)::r=>(P2 r).map (n::·)
 | _=>none
def spell (l:List Int):ByteArray:=l.foldl (λs n=>s++Utf8.encode n) .empty
def LR (T:ZR) (b:TypeId):Bool:=match T b with
 | some i=>match i.ZE with
  | .slice e=>match T e with|some a=>(match a.ZE with|.int .i32=>true|_=>false)&&a.size==1|none=>false
  | _=>false
 | none=>false
def LQ (T:ZR) (a:TypeId):Bool:=match T a with|some i=>(match i.ZE with|.string=>true|_=>false)|none=>false
def Pn (T:ZR) (src dst:TypeId) (σ:Ο) (x:Ω):Zf:=if LR T src=true/\LQ T dst=true then match RE σ x with
 | some (k,l)=>if k=1\/l.isEmpty=true then match P2 l with|some r=>.ok (.z (.string (spell r)))|none=>.bad else .bad
 | none=>.bad else .bad
def Jn (T:ZR) (src dst:TypeId) (x:Ω):Zf:=if LQ T src=true/\LR T dst=true then match x with
 | .z (.string s)=>.ok (.sl false 1 ((Conv.runesFrom s s.size 0 #[]).toList.map .z))
 | _=>.bad else .bad
section
variable {P:Program} {T:ZR} {S:μ} {B:Z8} {H:Χ} {σ:Ο}
theorem yD {a:BinOp} {b:TypeId} {p q:Operand} {vs d:Array Value} (e:P.eqGuardType P.depth b=false) {G:Χ} {K:Unit->Χ->Prop} {E:Value->Χ->Prop} (c:K () G):Ψ P (eqGuard a b p q (.agg vs) (.agg d)) G K E:=by
 cases a<;>first|exact Ψ.pure' c|skip
 all_goals
  unfold eqGuard;simp only[Bool.not_true,W',if_false];refine Ψ.bind' ?_;show Ψ P _ G K E;refine Ψ.bind' ?_;show Ψ P _ G K E;rw[if_pos (by rw[e];rfl)];exact Ψ.pure' c
theorem D6 (g:ZB P T) (h:Holds S B σ H) {d:BinOp} {c:TypeId} {p q:Operand} {a b:Ω} {v w:Value} (i:π S B σ a v) (j:π S B σ b w) (k:∀r,aeqv T c a b=some r->(d=.eql\/d=.neq)->∀(K:Unit->Χ->Prop),K () H->Ψ P (eqGuard d c p q v w) H K (λ_ _=>False))
  (l:∀r,aeqv T c a b=some r->(binOp .eql c v w=(do pure (.bool (<-Op.equal c v w)))/\binOp .neq c v w=(do pure (.bool (!(<-Op.equal c v w)))))) :
  Y3 P (do eqGuard d c p q v w;binOp d c v w) S B H σ ((Of T d c a b).YD σ):=by
 unfold Of;split
 .rename_i r e;obtain⟨m,n⟩:=l r e;split
  .intro K f;refine Ψ.bind' (k r e (.inl rfl) _ ?_);rw[m];exact Ψ.bind' (Hb g i j e (Ψ.pure' (.same h f (.z _))))
  .intro K f;refine Ψ.bind' (k r e (.inr rfl) _ ?_);rw[n];exact Ψ.bind' (Hb g i j e (Ψ.pure' (.same h f (.z _))))
  .exact .bad
 .exact .bad
theorem yC (l:ZB P T) (m:Holds S B σ H) (j:BinOp) (g:TypeId) (p q:Operand) {a b:Ω} {v w:Value} (t:π S B σ a v) (u:π S B σ b w):Y3 P (do eqGuard j g p q v w;binOp j g v w) S B H σ ((Jr T j g a b).YD σ):=by
 unfold Jr;split
 .rename_i x y;have k:=zw (P:=P) m j g p q v w;cases t;cases u;split
  .rename_i r f;rw[f] at k;exact k
  .rename_i N r f;rw[f] at k;exact k
  .rename_i A;have C:∀r,aeqv T g (.z v) (.z w)=some r->(∃c d,v=.bool c/\w=.bool d)\/¬(j=.eql\/j=.neq):=λr f=>by
    unfold aeqv at f;split at f<;>try cases f
    simp only at f;split at f<;>try cases f
    unfold TQ at f;split at f
    .split at f
     .rename_i e;subst e;refine .inr λn=>?_;rcases n with rfl|rfl<;>simp[P5] at A
     .cases f
    .refine .inr λn=>?_;rcases n with rfl|rfl<;>simp[P5] at A
    .exact .inl ⟨_,_,rfl,rfl⟩
    .cases f
   by_cases o:j=.eql\/j=.neq
   .by_cases f:∃r,aeqv T g (.z v) (.z w)=some r
    .obtain⟨r,f⟩:=f;rcases C r f with⟨c,d,rfl,rfl⟩|h
     .exact D6 l m (.z _) (.z _) (λ_ _ _ K s=>by unfold eqGuard;split<;>exact Ψ.pure' s) (λ_ _=>⟨rfl,rfl⟩)
     .exact absurd o h
    .have:aeqv T g (.z v) (.z w)=none:=by
      cases h:aeqv T g (.z v) (.z w) with
      | none=>rfl
      | some r=>exact absurd ⟨r,h⟩ f
     unfold Of;rw[this];exact .bad
   .unfold Of;split
    .split
     .exact absurd (.inl rfl) o
     .exact absurd (.inr rfl) o
     .exact .bad
    .exact .bad
 .rename_i x y;cases t with
  | ZT vs D E=>cases u with
   | ZT F I J=>
    refine D6 l m (.ZT vs D E) (.ZT F I J) (λr f _ K s=>?_) (λ_ _=>⟨rfl,rfl⟩);have L:P.eqGuardType P.depth g=false:=by
     unfold aeqv at f;split at f<;>try cases f
     rename_i i hi;simp only at f;split at f<;>try cases f
     rename_i O M;have:=(l g i hi).1.2;rw[M] at this;exact this.1
    exact yD L s
 .exact .bad
theorem yB (c:ZB P T) (h:Holds S B σ H) (d:TypeId) {x j:Ω} {v w:Value} (k:π S B σ x v) (hi:π S B σ j w):Y3 P (Instr.index d v w) S B H σ ((Jq T d x j).YD σ):=by
 unfold Jq;cases l:T d with
 | none=>exact .bad
 | some i=>
  simp only;split
  .rename_i s kk n f;cases k;cases hi;refine Y3.Y' (r:=(Zf.ok (.z (.int .u8 (s.data.toList.getD n.toNat 0).toNat))).YD σ) λg K a=>?_;unfold Instr.index;refine Ψ.bind' (Ψ.pure' ?_);refine Ψ.bind' (c.ZE l ?_);rw[f];have b:n.toNat<s.data.size:=by have:s.size=s.data.size:=rfl;omega
   have o:(if 0<=n then s[n.toNat]? else none)=some s.data[n.toNat]:=by
    rw[if_pos g.1];show s[n.toNat]?=_;rw[getElem?_pos s n.toNat U];rfl
   simp only[o];have Φ:s.data.toList.getD n.toNat 0=s.data[n.toNat]:=by rw[Xr,Wv,XG b];rfl
   rw[Φ] at a;exact Ψ.pure' (.same h a (.z _))
  .rename_i len e xs kk n f;cases hi;split
   .rename_i C m;split
    .rename_i p;obtain⟨t,u,D⟩:=p;refine Y3.Y' (r:=(Zf.ok (xs.getD n.toNat .Zl)).YD σ) λg K a=>?_;cases k with
     | ZT vs y A=>
      unfold Instr.index;refine Ψ.bind' (Ψ.pure' ?_);refine Ψ.bind' (c.ZE l ?_);rw[f];simp only[g,and_self,if_true];refine Ψ.bind' (c.size m ?_);rw[u,Sp];unfold part;refine Ψ.bind' (c.agg m ?_);rw[t];have b:n.toNat<xs.length:=U;have hv:n.toNat<vs.size:=by rw[<-y];exact b
      simp only[W',if_false,XG hv];have Φ:xs.getD n.toNat .Zl=xs[n.toNat]:=by simp[b]
      rw[Φ] at a;exact Ψ.pure' (.same h a (A _ _ _ (δ b) (XG hv)))
    .exact .bad
   .exact .bad
  .exact .bad
theorem yA (d:Holds S B σ H) {ρ:Operand->Value} {o:Oper} {x:Operand} (e:o.op=.nilCheck x) {a:Ω} (c:π S B σ a (ρ x)):Does P (execOp ρ o) S B H σ ((Jp a).YD σ):=by
 unfold Jp;split
 .unfold execOp;rw[e];simp only;generalize ρ x=v at c;cases c with
  | Θ b o w f g=>exact Does.val d (.Θ b o w f g)
 .unfold execOp;rw[e];simp only;generalize ρ x=v at c;cases c with
  | fn vs h f g i j=>exact Does.val d (.fn vs h f g i j)
 .unfold execOp;rw[e];simp only;generalize ρ x=v at c;cases c;exact Does.val d (.z _)
 .exact .bad
theorem yz (e:Holds S B σ H) {ρ:Operand->Value} {o:Oper} {x:Operand} (f:o.op=.nilCheck x) {a:Ω} (d:π S B σ a (ρ x)):Does P (execOp ρ o) S B H σ (Oe σ a):=by
 unfold Oe;split
 .split
  .rename_i t k l g;split
   .rename_i i;unfold execOp;rw[f];simp only;generalize ρ x=v at d;cases d with
    | Κ b c h=>exact Does.val e (.Κ b c h)
    | Ve v b c=>rw[g] at b;cases b;simp only[Row.WB] at c;omega
   .exact .bad
  .exact .bad
 .exact .bad
theorem yy (p:ZB P T) (s:Holds S B σ H) (d:TypeId) {x:Ω} {v:Value} (t:π S B σ x v):Y3 P (Instr.arrayAt d v) S B H σ ((Jo T d x).YD σ):=by
 unfold Jo;cases u:T d with
 | none=>exact .bad
 | some i=>
  simp only;split
  .rename_i n e ex k l y;split
   .rename_i A;obtain⟨L,C,h⟩:=A;subst C;refine Y3.Y' (r:=(Zf.ok (.Θ (l.take n))).YD σ) λD K E=>?_;obtain⟨base,cap,rfl,_,_,F⟩:=QQ t;obtain⟨b,o,w,rfl,M,I,J⟩:=F (λe=>by subst e;simp at D;omega);unfold Instr.arrayAt;refine Ψ.bind' (p.ZE u ?_);rw[y];simp only;rw[if_neg U];rw[WQ] at h;have el:∀(j:Nat) (e:Ω),(l.take n)[j]?=some e->l[j]?=some e/\e.cells=[e]:=λj e c=>by
     have m:=h e (KA (Zi c));simp only[Wt] at m;rw[OK] at c;split at c
     .exact⟨c,Ω.Hk m.2⟩
     .cases c
    refine Ψ.pure' (.same s E (.Θ b o (λj=>w j 0) (λj a c=>?_) (λj a c=>?_)))
    .obtain⟨f,g⟩:=el j a c;have:=I j a f 0 a (by rw[g];rfl);simpa using this
    .obtain⟨f,g⟩:=el j a c;exact J j a f 0 a (by rw[g];rfl)
   .exact .bad
  .exact .bad
theorem D5 {b:TypeId} (h:LR T b=true):∃i e a,T b=some i/\i.ZE=.slice e/\T e=some a/\a.ZE=.int .i32/\a.size=1:=by
 unfold LR at h;split at h
 .rename_i i hi;split at h
  .rename_i e c;split at h
   .rename_i a d;simp only[Wt,beq_iff_eq] at h;refine⟨i,e,a,hi,c,d,?_,h.2⟩;have:=h.1;split at this
    .assumption
    .cases this
   .cases h
  .cases h
 .cases h
theorem D4 {a:TypeId} (h:LQ T a=true):∃i,T a=some i/\i.ZE=.string:=by
 unfold LQ at h;split at h
 .rename_i i hi;refine⟨i,hi,?_⟩;split at h
  .assumption
  .cases h
 .cases h
theorem yx (k:ZB P T) (u:Holds S B σ H) (src dst:TypeId) {x:Ω} {v:Value} (d:π S B σ x v):Y3 P (convert src dst v) S B H σ ((Jn T src dst x).YD σ):=by
 unfold Jn;split
 .rename_i o;obtain⟨i,hi,w⟩:=D4 o.1;obtain⟨j,e,U,f,A,C,D,V⟩:=D5 o.2;split
  .rename_i s;cases d;intro K p;unfold convert;refine Ψ.bind' (k.ZE hi (Ψ.bind' (k.ZE f ?_)));rw[w,A];simp only;refine Ψ.bind' (k.ZE C ?_);rw[D];simp only;unfold Conv.stringToRunes;refine Ψ.bind' ?_;unfold choose;simp only[Ψ];have E:(Question.appendCap (Conv.runesFrom s s.size 0 #[]).size 0 e).forced=false:=rfl;rw[E];simp only[W',if_false];intro q;generalize F:Conv.runesFrom s s.size 0 #[]=c at p ⊢;have J:c.size<=(Question.appendCap c.size 0 e).cut q:=by simp[Question.cut]
   refine Ψ.bind' (Ψ.bind' ?_);have L:∀v∈c,One v:=by
    have M:∀(l i:Nat) (g:Array Value),(∀v∈g,One v)->∀v∈Conv.runesFrom s l i g,One v:=by
     intro l
     induction l with
     | zero=>intro i g h;exact h
     | succ n N=>
      intro i g h;unfold Conv.runesFrom;split
      .refine N _ _ λv hv=>?_;rcases ND.1 hv with hv|rfl
       .exact h v hv
       .trivial
      .exact h
    rw[<-F];exact M _ _ _ (λv hv=>by simp at hv)
   have O:Xd S B σ (c++Array.replicate ((Question.appendCap c.size 0 e).cut q-c.size) (.int .i32 0)) 1 (c.toList.map .z):=by
    refine⟨I,λj a f=>?_⟩;rw[YU,Wv] at f;cases d:c[j]? with
    | none=>rw[d] at f;cases f
    | some y=>
     rw[d] at f;cases f;refine⟨rfl,λz b m=>?_⟩
     match z with
     | 0=>
      simp[Ω.cells] at m;subst m;refine⟨y,?_,.z y,L y (Array.mem_of_getElem? d)⟩;have:=(TY.1 d).1;rw[NM (by simpa using this)];simpa using d
     | z+1=>simp[Ω.cells] at m
   refine L0 u _ e λr Q R t=>Ψ.pure' (Ψ.pure' ⟨_,_,_,_,p,R,Q,t,?_⟩);have:=JQ (cap:=(Question.appendCap c.size 0 e).cut q) false t O (by simpa using J) I;simpa using this
  .exact .bad
 .exact .bad
theorem yw:∀(l:κ) (r:List Int),P2 l=some r->r.length=l.length/\∀(i:Nat) (n:Int),r[i]?=some n->l[i]?=some (.z (.int .i32 n)):=by
 intro l
 induction l with
 | nil=>intro r h;cases h;exact⟨rfl,λi n h=>by simp at h⟩
 | cons a l e=>
  intro r h;unfold P2 at h;split at h
  .rename_i b;cases b
  .rename_i n j b;cases b;cases c:P2 l with
   | none=>rw[c] at h;cases h
   | some r'=>
    rw[c] at h;cases h;obtain⟨f,g⟩:=e r' c;refine⟨by simp[f],λi m d=>?_⟩;cases i with
    | zero=>simp at d;subst d;rfl
    | succ i=>exact g i m (by simpa using d)
  .cases h
theorem yv (m:ZB P T) (p:Holds S B σ H) (src dst:TypeId) {x:Ω} {v:Value} (J:π S B σ x v):Y3 P (convert src dst v) S B H σ ((Pn T src dst σ x).YD σ):=by
 unfold Pn;split
 .rename_i D;obtain⟨i,e,ag,hi,L,M,N,ah⟩:=D5 D.1;obtain⟨j,O,Q⟩:=D4 D.2;split
  .rename_i k l R;split
   .rename_i V;split
    .rename_i r W;obtain⟨base,cap,w,rfl,_,t,X⟩:=JJ p J (k:=1) R U (V.symm);obtain⟨E,Y⟩:=yw l r W;intro K F;unfold convert;refine Ψ.bind' (m.ZE hi (Ψ.bind' (m.ZE O ?_)));rw[L,Q];have Z:∀i,i<l.length->w i=.int .i32 (r.getD i 0):=λi y=>by
      have I:r[i]?=some r[i]:=δ U
      have:=(X i _ (Y i _ I)).2 0 _ rfl;rw[Sp,Nat.add_zero] at this;rw[Xr,I];generalize w i=u at this;cases this;rfl
     have aa:Ψ P (Conv.runesToString (.slice base l.length cap)) H (VE S B H σ K) (λ_ _=>False):=by
      unfold Conv.runesToString;rw[Sp] at t;cases base with
      | none=>
       simp only;rcases t with g|⟨b,o,A,_⟩
       .have:r=[]:=YL.1 (by rw[E,g]);subst this;exact Ψ.pure' (.same p F (.z _))
       .cases A
      | some a=>
       simp only;have ab:∀(d:List Int) (f:ByteArray),Ψ P (forIn (d.map λn=>Value.int .i32 n) f λ(c:Value) (s:ByteArray)=>do
         let .int .i32 n:=c|stuck "runesToString: rune expected"
         pure (ForInStep.yield (s++Utf8.encode n))) H (λs H'=>s=d.foldl (λs n=>s++Utf8.encode n) f/\H'=H) (λ_ _=>False):=by
        intro d
        induction d with
        | nil=>intro f;exact .forIn_nil ⟨rfl,rfl⟩
        | cons n d ad=>
         intro f;rw[Xg];refine .forIn_cons ?_;exact Ψ.pure' (ad (f++Utf8.encode n))
       have ae:Ψ P (loadCells a l.length) H (λvs H'=>vs=(r.map λn=>Value.int .i32 n).toArray/\H'=H) (λ_ _=>False):=by
        rcases t with g|⟨b,o,A,af⟩
        .rw[g];have:r=[]:=YL.1 (by rw[E,g]);subst this;exact Ψ.pure' ⟨rfl,rfl⟩
        .cases A;refine Ψ.loadCells w rfl af ⟨?_,rfl⟩;congr 1;apply VJ;intro i;rw[YU,YU];by_cases y:i<l.length
         .rw[Q8 y,δ (show i<r.length by omega)];simp only[Option.map_some];rw[Z i y,Xr,δ (show i<r.length by omega)];rfl
         .rw[Wu (by simp;omega),Wu U];rfl
       refine Ψ.bind' (Ψ.mono (λvs H' ⟨C,Φ⟩=>?_) (λ_ _ h=>h) _ ae);subst C;subst Φ;rw[<-Array.forIn_toList];refine Ψ.bind' (Ψ.mono (λs H' ⟨C,Φ⟩=>?_) (λ_ _ h=>h) _ (ab r .empty));subst C;subst Φ;exact Ψ.pure' (.same p F (.z _))
     have:Ψ P (do
      match <-underlying e with
      | .int .u8=>Conv.bytesToString (.slice base l.length cap)
      | .int .i32=>Conv.runesToString (.slice base l.length cap)
      | _=>stuck "Convert: a slice of what to string?") H (VE S B H σ K) (λ_ _=>False):=by
      refine Ψ.bind' (m.ZE M ?_);rw[N];exact aa
     cases base<;>exact this
    .exact .bad
   .exact .bad
  .exact .bad
 .exact .bad
end
def Jm (σ:Ο):Y2:=.all 2 λj=>.ok (.z (.bool (j==1))) σ
def Jl (T:ZR) (b:TypeId) (σ:Ο) (a:Ω):Y2:=match T b with
 | some i=>match i.ZE with
  | .slice _=>match a with
   | .ms id n i len=>match σ[id]? with
    | some (.cells _ _ l)=>if l.length=n/\i+len<=n then(if len=0 then Jm σ else .ok (.z (.bool false)) σ) else .bad
    | _=>.bad
   | .sl _ _ l=>if l.isEmpty then Jm σ else .ok (.z (.bool false)) σ
   | _=>.bad
  | _=>.bad
 | none=>.bad
section
variable {P:Program} {T:ZR} {S:μ} {B:Z8} {H:Χ} {σ:Ο}
theorem LP (g:ZB P T) (d:Holds S B σ H) {a:TypeId} {i:V5} (hi:T a=some i) {e:TypeId} (h:i.ZE=.slice e) (p q:Operand) (base:Option Addr) (len cap:Nat) {f:Y2}
  (j:∀K,f.holds K->K (.z (.bool base.isNone)) σ):Y3 P (do eqGuard .eql a p q (.slice base len cap) (.slice none 0 0);binOp .eql a (.slice base len cap) (.slice none 0 0)) S B H σ f:=by
 intro K c;have c:=j K c;refine Ψ.bind' ?_;unfold eqGuard;refine Ψ.pure' ?_;have k:binOp .eql a (.slice base len cap) (.slice none 0 0)=(do pure (Value.bool (<-Op.equal a (.slice base len cap) (.slice none 0 0)))):=rfl;rw[k];refine Ψ.bind' ?_;unfold Op.equal;unfold Op.equalIn;refine Ψ.bind' (g.ZE hi ?_);rw[h];cases base with
 | none=>exact Ψ.pure' (Ψ.pure' (.same d c (.z _)))
 | some b=>exact Ψ.pure' (Ψ.pure' (.same d c (.z _)))
theorem G5 {K:Ω->Ο->Prop} (h:(Jm σ).holds K) (b:Bool):K (.z (.bool b)) σ:=by
 cases b
 .exact h 0 ZY
 .exact h 1 ZY
theorem yu (d:ZB P T) (f:Holds S B σ H) (m:TypeId) (p q:Operand) {a:Ω} {v:Value} (s:π S B σ a v):Y3 P (do eqGuard .eql m p q v (.slice none 0 0);binOp .eql m v (.slice none 0 0)) S B H σ (Jl T m σ a):=by
 unfold Jl;split
 .rename_i i hi;split
  .rename_i e g;split
   .rename_i id n j len;split
    .rename_i t k l x;split
     .rename_i y;cases s with
      | @ms _ _ _ _ _ _ _ bo base cap h r C D E u=>
       split
       .exact LP d f hi g p q base len cap λK c=>G5 c _
       .rename_i F;refine LP d f hi g p q base len cap λK c=>?_;rcases u with u|⟨b,N,_,A,_⟩
        .omega
        .rw[A];exact c
      | Vt v h r=>
       rw[x] at h;cases h;exact absurd y.1 (Nat.ne_of_gt r)
     .exact .bad
    .exact .bad
   .rename_i l;cases s with
    | Wo base cap h=>exact LP d f hi g p q base 0 cap λK c=>G5 c _
    | sl b o cap w h r=>
     split
     .exact LP d f hi g p q _ _ cap λK c=>G5 c _
     .exact LP d f hi g p q _ _ cap λK c=>c
   .exact .bad
  .exact .bad
 .exact .bad
end
def Zf.or (r:Zf) (σ:Ο) (s:Y2):Y2:=match r with
 | .ok a=>.ok a σ
 | .Y' p r=>.Y' p (r.YD σ)
 | .bad=>s
def RB (A:List Nat) (d:Option Tmp):Bool:=match d with|some d=>A.contains d|none=>false
def P1 (env:ω) (a:Array (Nat×Operand)):List (Nat×Ω):=a.toList.map λp=>(p.1,ζ env p.2)
def Ng (c a b:Ω):Zf:=match c with
 | .z (.bool v)=>match a,b with
  | .z (.bool x),.z (.bool y)=>.ok (.z (.bool (bif v then x else y)))
  | _,_=>match v with|true=>.ok a|false=>.ok b
 | _=>.bad
def P0 (T:ZR) (σ:Ο) (src dst:TypeId) (x:Ω):Zf:=match Ni T src dst x with
 | .bad=>match Jn T src dst x with
  | .bad=>Pn T src dst σ x
  | r=>r
 | r=>r
def VD (T:ZR) (A:List Nat) (env:ω) (o:Oper):Zf:=
 match o.op with
 | .move x=>.ok (ζ env x)
 | .assign x=>.ok (ζ env x)
 | .pick c a b=>Ng (ζ env c) (ζ env a) (ζ env b)
 | .alloc e=>if RB A o.dst then .bad else JN T e
 | .box _ x=>if RB A o.dst then .bad else Nm (ζ env x)
 | .build e g=>Te T (Ω.YH []) e (P1 env g)
 | .buildSlice e n g=>if RB A o.dst then .bad else LY T (Ω.YH []) e n (P1 env g)
 | .load e x=>JZ T e (ζ env x)
 | .binOp h e x y _=>Jr T h e (ζ env x) (ζ env y)
 | .unOp h _ x=>Nr h (ζ env x)
 | .convert s d x=>P0 T [] s d (ζ env x)
 | .index e x i=>Jq T e (ζ env x) (ζ env i)
 | .nilCheck x=>Jp (ζ env x)
 | .sliceToArrayPointer e x=>Jo T e (ζ env x)
 | .makeInterface e x=>J0 T e (ζ env x)
 | .makeFunc f j cs=>.ok (.fn f (j.toList.map (ζ env)) (cs.toList.map (ζ env)))
 | .makeSlice e n c=>if RB A o.dst then .bad else JK T e (ζ env n) (ζ env c)
 | .slice e x lo hi none=>JE T e (ζ env x) (lo.map (ζ env)) (hi.map (ζ env))
 | .fieldAddr e x f=>JX T e f (ζ env x)
 | .indexAddr e x i=>JV T e (ζ env x) (ζ env i)
 | .typeAssert x _ e k=>Ol T e k (ζ env x)
 | .extract x i=>J1 i (ζ env x)
 | .call ⟨.builtin b,⟨[x]⟩,⟨[e]⟩⟩=>match b with
  | .len=>JC T e (ζ env x)
  | _=>.bad
 | .call ⟨.builtin b,⟨[x,y]⟩,⟨[l,e]⟩⟩=>match b with
  | .max=>JA [ζ env x,ζ env y]
  | .append=>if RB A o.dst then .bad else P3 T l e (Ω.YH []) [] (ζ env x) (ζ env y)
  | _=>.bad
 | _=>.bad
def Wb (T:ZR) (A:List Nat) (env:ω) (σ:Ο) (o:Oper):Y2:=
 match o.op with
 | .alloc a=>if RB A o.dst then JO T a σ else .bad
 | .box a x=>if RB A o.dst then Nl a σ (ζ env x) else JP σ (ζ env x)
 | .build a e=>(Te T (Ω.YH σ) a (P1 env e)).YD σ
 | .buildSlice a n e=>if RB A o.dst then JM T a n (P1 env e) σ else(LY T (Ω.YH σ) a n (P1 env e)).YD σ
 | .load a x=>SO T a σ (ζ env x)
 | .store a p x=>JS T a σ (ζ env p) (ζ env x)
 | .convert s d x=>(P0 T σ s d (ζ env x)).YD σ
 | .nilCheck x=>Oe σ (ζ env x)
 | .binOp .eql a x (.const (.slice none 0 0)) _=>Jl T a σ (ζ env x)
 | .makeMap _ none=>G8 σ
 | .mapUpdate a m k x=>LS T a σ (ζ env m) (ζ env k) (ζ env x)
 | .insert a m k x=>LS T a σ (ζ env m) (ζ env k) (ζ env x)
 | .lookup a x k j=>Jx T a j σ (ζ env x) (ζ env k)
 | .range a x=>Jw T a σ (ζ env x)
 | .next g false=>Jv σ (ζ env g)
 | .entry g=>Ju σ (ζ env g)
 | .makeSlice a n c=>if RB A o.dst then JL T a (ζ env n) (ζ env c) σ else .bad
 | .slice a x lo hi none=>JD T a σ (ζ env x) (lo.map (ζ env)) (hi.map (ζ env))
 | .fieldAddr a x f=>SN T a f σ (ζ env x)
 | .indexAddr a x i=>SM T a σ (ζ env x) (ζ env i)
 | .call ⟨.builtin b,⟨[x]⟩,⟨[a]⟩⟩=>match b with
  | .len=>JB T a σ (ζ env x)
  | .clear=>Js T a σ (ζ env x)
  | _=>.bad
 | .call ⟨.builtin b,⟨[x,y]⟩,⟨[h,a]⟩⟩=>match b with
  | .append=>if RB A o.dst then JG T h a σ (ζ env x) (ζ env y) else(P3 T h a (Ω.YH σ) σ (ζ env x) (ζ env y)).YD σ
  | _=>.bad
 | _=>.bad
section
variable {P:Program} {T:ZR} {A:List Nat} {S:μ} {B:Z8} {H:Χ} {σ:Ο} {env:ω} {t:Array Value}
theorem Zf.yt {s:Sem Next} {r:Zf} {a:Y2} (b:Does P s S B H σ (r.YD σ)) (c:Does P s S B H σ a):Does P s S B H σ (r.or σ a):=by
 cases r with
 | ok x=>exact b
 | Y' p r=>exact b
 | bad=>exact c
theorem ys (e:Holds S B σ H) {c a b:Ω} {u v w:Value} (h:π S B σ c u) (f:π S B σ a v) (g:π S B σ b w):Y3 P (do pure (if <-asBool u then v else w)) S B H σ ((Ng c a b).YD σ):=by
 unfold Ng;split
 .rename_i x;cases h;split
  .rename_i p q;cases f;cases g;intro K d;refine Ψ.bind' (Ψ.pure' (Ψ.pure' ?_));cases x
   .exact .same e d (.z _)
   .exact .same e d (.z _)
  .cases x
   .exact λK d=>Ψ.bind' (Ψ.pure' (Ψ.pure' (.same e d g)))
   .exact λK d=>Ψ.bind' (Ψ.pure' (Ψ.pure' (.same e d f)))
 .exact .bad
theorem yr (g:YT S B σ env t) (f:Fn) (e cs:Array Operand):π S B σ (.fn f (e.toList.map (ζ env)) (cs.toList.map (ζ env))) (.func f (e.map (ZN t)) (cs.map (ZN t))):=by
 refine .fn _ _ I I (λi a v b c=>?_) (λi a v b c=>?_)
 .rw[YU] at b;rw[Py] at c;rw[Wv] at b;cases d:e[i]? with
  | none=>rw[d] at b;cases b
  | some x=>rw[d] at b c;cases b;cases c;exact Ud g x
 .rw[YU] at b;rw[Py] at c;rw[Wv] at b;cases d:cs[i]? with
  | none=>rw[d] at b;cases b
  | some x=>rw[d] at b c;cases b;cases c;exact Ud g x
theorem Jk (a:YT S B σ env t) (o:Option Operand):Oi S B σ (o.map (ζ env)) (o.map (ZN t)):=by
 cases o with
 | none=>trivial
 | some x=>exact Ud a x
theorem D3 {a:Ω} {r:Nat×κ} (h:RE [] a=some r):RE σ a=some r:=by
 cases a<;>first|exact h|(simp[RE] at h)
theorem yq {st xt:TypeId} {s x:Ω}:P3 T st xt (Ω.YH []) [] s x=.bad\/P3 T st xt (Ω.YH []) [] s x=P3 T st xt (Ω.YH []) σ s x:=by
 unfold P3;cases a:RE [] x with
 | none=>left;split<;>simp_all
 | some r=>rw[D3 a];exact .inr rfl
theorem D2 (a:ZB P T) (b:Holds S B σ H) (src dst:TypeId) {x:Ω} {v:Value} (c:π S B σ x v):Y3 P (convert src dst v) S B H σ ((P0 T σ src dst x).YD σ):=by
 have d:=yZ a b src dst c
 have e:=yx a b src dst c;unfold P0;split
 .split
  .exact yv a b src dst c
  .exact e
 .exact d
theorem yp {src dst:TypeId} {x:Ω}:Pn T src dst [] x=.bad\/Pn T src dst [] x=Pn T src dst σ x:=by
 unfold Pn;split
 .cases a:RE [] x with
  | none=>exact .inl rfl
  | some r=>rw[D3 a];exact .inr rfl
 .exact .inl rfl
theorem yo {src dst:TypeId} {x:Ω}:P0 T [] src dst x=.bad\/P0 T [] src dst x=P0 T σ src dst x:=by
 unfold P0;split
 .split
  .exact yp
  .exact .inr rfl
 .exact .inr rfl
theorem yn (f:ZB P T) (d:Holds S B σ H) (i:YT S B σ env t) (o:Oper):Does P (execOp (ZN t) o) S B H σ ((VD T A env o).YD σ):=by
 have R:∀x,π S B σ (ζ env x) (ZN t x):=λx=>Ud i x;obtain⟨dst,m,n,pos,p,guard⟩:=o;unfold VD;simp only;split
 .exact Does.val d (R _)
 .exact Does.val d (R _)
 .rename_i c a b;have:=(ys (P:=P) d (R c) (R a) (R b)).next;unfold execOp;simp only;refine λK g=>?_;have j:=this K g;simpa using j
 .split
  .exact .bad
  .exact(zd f d _).next
 .split
  .exact .bad
  .exact(zg d _ (R _)).next
 .exact(Eh f d (λa h=>JR h) _ i _).next
 .split
  .exact .bad
  .exact(Ef f d (λa h=>JR h) _ _ i _).next
 .exact(zr f d (R _)).next
 .exact(yC f d _ _ _ _ (R _) (R _)).next
 .exact(zv d _ (R _)).next
 .rename_i a b x;rcases yo (T:=T) (σ:=σ) (src:=a) (dst:=b) (x:=ζ env x) with h|h
  .rw[h];exact .bad
  .rw[h];exact(D2 f d _ _ (R _)).next
 .exact(yB f d _ (R _) (R _)).next
 .exact yA d rfl (R _)
 .exact(yy f d _ (R _)).next
 .exact(zt f d _ (R _)).next
 .exact Y3.next (Y3.pure d (yr i _ _ _))
 .split
  .exact .bad
  .exact(y' f d (R _) (R _)).next
 .exact(y3 f d _ (R _) (Jk i _) (Jk i _)).next
 .exact(zp f d (R _)).next
 .exact(zl f d (R _) (R _)).next
 .exact(zs f d _ _ _ (R _)).next
 .exact(zu d _ (R _)).next
 .split
  .exact λK g=>by
       refine Ψ.bind' (Ψ.pure' ?_);have e:∀x:Operand,Array.map (ZN t) {toList:=[x]}=#[ZN t x]:=λx=>I;simp only[invoke,builtin,e];exact(y1 f d _ _ (R _)).next K g
  .exact .bad
 .split
  .exact λK g=>by
       refine Ψ.bind' (Ψ.pure' ?_);have e:∀x y:Operand,Array.map (ZN t) {toList:=[x,y]}=#[ZN t x,ZN t y]:=λx y=>I;simp only[invoke,builtin,e];exact(yY d _ _ (R _) (R _)).next K g
  .split
   .exact .bad
   .rename_i x y k l _ _;rcases yq (T:=T) (σ:=σ) (st:=k) (xt:=l) (s:=ζ env x) (x:=ζ env y) with h|h
    .rw[h];exact .bad
    .rw[h];exact λK g=>by
       refine Ψ.bind' (Ψ.pure' ?_);have e:∀x y:Operand,Array.map (ZN t) {toList:=[x,y]}=#[ZN t x,ZN t y]:=λx y=>I;simp only[invoke,builtin,e];exact(Ec f d (λa h=>JR h) _ _ _ (R _) (R _)).next K g
  .exact .bad
 .exact .bad
theorem ym (c:ZB P T) (b:Holds S B σ H) (f:YT S B σ env t) (o:Oper):Does P (execOp (ZN t) o) S B H σ (Wb T A env σ o):=by
 have R:∀x,π S B σ (ζ env x) (ZN t x):=λx=>Ud f x;obtain⟨dst,g,i,pos,j,guard⟩:=o;unfold Wb;simp only;split
 .split
  .exact(ze c b _).next
  .exact .bad
 .split
  .exact(zf b _ (R _)).next
  .exact(zh b _ (R _)).next
 .exact(Eh c b (λa h=>h) _ f _).next
 .split
  .exact(zb c b _ _ f _).next
  .exact(Ef c b (λa h=>h) _ _ f _).next
 .exact(zq c b (R _)).next
 .exact(zi c b (R _) (R _)).next
 .exact(D2 c b _ _ (R _)).next
 .exact yz b rfl (R _)
 .exact(yu c b _ _ _ (R _)).next
 .exact(yO b _).next
 .exact(D7 c b (R _) (R _) (R _)).next
 .exact(D7 c b (R _) (R _) (R _)).next
 .exact(yN c b (R _) (R _)).next
 .exact(yM c b (R _)).next
 .exact(yI b _ (R _)).next
 .exact(yH b (R _)).next
 .split
  .exact(za c b (R _) (R _)).next
  .exact .bad
 .exact(y2 c b _ (R _) (Jk f _) (Jk f _)).next
 .exact(zo c b (R _)).next
 .exact(zk c b (R _) (R _)).next
 .split
  .exact λK d=>by
       refine Ψ.bind' (Ψ.pure' ?_);have e:∀x:Operand,Array.map (ZN t) {toList:=[x]}=#[ZN t x]:=λx=>I;simp only[invoke,builtin,e];exact(y0 c b _ _ (R _)).next K d
  .exact λK d=>by
       refine Ψ.bind' (Ψ.pure' ?_);have e:∀x:Operand,Array.map (ZN t) {toList:=[x]}=#[ZN t x]:=λx=>I;simp only[invoke,builtin,e];exact(yE c b _ (R _)).next K d
  .exact .bad
 .split
  .split
   .exact λK d=>by
       refine Ψ.bind' (Ψ.pure' ?_);have e:∀x y:Operand,Array.map (ZN t) {toList:=[x,y]}=#[ZN t x,ZN t y]:=λx y=>I;simp only[invoke,builtin,e];exact(y5 c b _ _ _ (R _) (R _)).next K d
   .exact λK d=>by
       refine Ψ.bind' (Ψ.pure' ?_);have e:∀x y:Operand,Array.map (ZN t) {toList:=[x,y]}=#[ZN t x,ZN t y]:=λx y=>I;simp only[invoke,builtin,e];exact(Ec c b (λa h=>h) _ _ _ (R _) (R _)).next K d
  .exact .bad
 .exact .bad
end
end Go.TL
