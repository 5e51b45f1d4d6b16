import Derived.Test.YtlabjopijpkiaaaGreatUAH
set_option maxHeartbeats 16000000
set_option maxRecDepth 20000
set_option linter.unusedSectionVars false
set_option linter.unusedSimpArgs false
set_option linter.unusedVariables false
namespace Go.TL
open Go.Conc
def hR (T:bf) (kt:TypeId) (k:η):List (η×η)->Nat->Option (Option (Nat×η))
 | [],_=>some none
 | e::r,i=>match aeqv T kt k e.1 with
  | some b=>bif b then some (some (i,e.2)) else hR T kt k r (i+1)
  | none=>none
def n9 (T:bf) (kt:TypeId) (k:η):Bool:=match T kt with
 | some i=>match k with
  | .z _=>jh i.bG
  | .aV xs=>match i.bG,i.eqs with
   | .array _ _,some items=>xs.length==items.length&&(jQ items xs xs).isSome
   | _,_=>false
  | _=>false
 | none=>false
section
variable {P:Program} {T:bf} {S:aH} {B:aU} {H:χ} {σ:List Row}
theorem NI {ty:TypeId} {d:TypeDesc} (hd:P.underlying ty=some d) (ν:jh d=true) {v:Value} {em:Bool} {n:Nat} {G:χ} {K:Unit->χ->Prop} {E:Value->χ->Prop} (ς:K () G):π P (Instr.checkKey em (n+1) ty v) G K E:=by
 unfold Instr.checkKey;refine π.bind' (π.underlying hd ?_);cases d<;>first|(cases ν;done)|(cases v<;>exact π.pure' ς)
theorem HT (Ι:bV P T) {kt:TypeId} {k:η} {v:Value} (ς:av S B σ k v) (h:n9 T kt k=true) {em:Bool} {G:χ} {K:Unit->χ->Prop} {E:Value->χ->Prop} (ζ:K () G):π P (Instr.checkKey em 10000 kt v) G K E:=by
 unfold n9 at h;split at h
 ·rename_i i hi;obtain⟨⟨hu,Ψ⟩,_⟩:=Ι kt i hi;split at h
  ·exact NI (n:=9999) hu h ζ
  ·rename_i xs;split at h
   ·rename_i n e items Wa dr;rw[dr] at Ψ;simp only[Bool.and_eq_true,beq_iff_eq] at h;obtain⟨_,_,Ψ⟩:=Ψ;rcases Ψ with⟨dc,xT,_⟩|⟨m,Γ,d,f,xT,he,ν,Χ,cv,Wb⟩
    ·rw[hu,Wa] at xT;cases xT
    ·cases ς with
     | aV vs Τ af=>
      have Wc:=z2 (.aV vs Τ af)
      show π P (Instr.checkKey em (9999+1) kt _) G K E;unfold Instr.checkKey;refine π.bind' (π.underlying xT ?_);simp only;rw[forIn_range];refine π.bind' ?_;have hb:∃b,jQ ((List.range m).map λi=>(d,i)) xs xs=some b:=by
       rw[<-Wb];exact Option.isSome_iff_exists.1 h.2
      have key:∀(l:List Nat) (b:Bool),jQ (l.map λi=>(d,i)) xs xs=some b->π P (forIn l PUnit.unit λ(i:Nat) (_:PUnit)=>do
        let a <-sizeOf Γ
        let b <-part Γ vs (i*a)
        Instr.checkKey em 9999 Γ b
        pure (ForInStep.yield PUnit.unit)) G (λ_ G'=>K () G') E:=by
       intro l
       induction l with
       | nil=>intro b _;exact .forIn_nil ζ
       | cons i l Β=>
        intro b hb;simp only[List.map_cons,jQ] at hb;split at hb<;>try cases hb
        rename_i x y vT xQ;split at hb<;>try cases hb
        rename_i bJ c1 k4 n8;refine .forIn_cons ?_;refine π.bind' (π.sizeOf Χ ?_);rw[cv];refine π.bind' (z3 he ν (by rw[Nat.mul_one];exact Wc _ _ vT) ?_);refine π.bind' (NI (n:=9998) he ν ?_);exact π.pure' (Β c1 n8)
      obtain⟨b,hb⟩:=hb;exact π.mono (λ_ G' h=>π.pure' h) (λ_ _ h=>h) _ (key (List.range m) b hb)
   ·cases h
  ·cases h
 ·cases h
def vU (S:aH) (B:aU) (σ:List Row) (es:List (η×η)) (cE:List MapEntry):Prop:=es.length=cE.length/\∀(i:Nat) (e:η×η) (y:MapEntry),es[i]?=some e->cE[i]?=some y->av S B σ e.1 y.key/\av S B σ e.2 y.val
theorem vU.tail {e:η×η} {es:List (η×η)} {y:MapEntry} {cE:List MapEntry} (h:vU S B σ (e::es) (y::cE)):(av S B σ e.1 y.key/\av S B σ e.2 y.val)/\vU S B σ es cE:=
 ⟨h.2 0 e y rfl rfl,⟨by simpa using h.1,λi aM lX I U=>h.2 (i+1) aM lX I U⟩⟩
theorem DD {kt:TypeId} {k:η}:∀(es:List (η×η)) (n i:Nat) (a:η),hR T kt k es n=some (some (i,a))->n<=i/\∃ae,es[i-n]?=some (ae,a)/\aeqv T kt k ae=some true:=by
 intro es
 induction es with
 | nil=>intro n i a h;cases h
 | cons e es Β=>
  intro n i a h;unfold hR at h;split at h
  ·rename_i b hb;cases b with
   | true=>cases h;exact⟨Nat.le_refl _,e.1,θ,hb⟩
   | false=>
    obtain⟨I,ae,U,ξ⟩:=Β (n+1) i a h;refine⟨R,ae,?_,ξ⟩;have:i-n=(i-(n+1))+1:=R;rw[this,List.getElem?_cons_succ];exact U
  ·cases h
def lY (cE:List MapEntry) (i0:Nat) (r:Option (Nat×η)):Option (Nat×Value):=r.map λx=>(x.1,((cE[x.1-i0]?).map (·.val)).getD undef)
theorem Wd {d:TypeDesc} {x y:Value} {b:Bool} (h:mM d x y=some b):Instr.sameNow d x y=some b:=by
 unfold mM at h;split at h
 ·split at h
  ·rename_i e;subst e;cases h;simp[Instr.sameNow]
  ·cases h
 ·cases h;rfl
 ·cases h;rfl
 ·cases h
theorem We (Ι:bV P T) {kt:TypeId} {i:im} (hi:T kt=some i) {k:η} {v:Value} (ς:av S B σ k v) (Θ:∃u,k=.z u):∀(es:List (η×η)) (cE:List MapEntry) (n:Nat) (r:Option (Nat×η)),vU S B σ es cE->hR T kt k es n=some r->
  Instr.findNow i.bG v cE n=some (lY cE n r):=by
 obtain⟨u,rfl⟩:=Θ;cases ς;intro es
 induction es with
 | nil=>
  intro cE n r he h;have:cE=[]:=by have:=he.1;simpa using this.symm
  subst this;cases h;rfl
 | cons e es Β=>
  intro cE n r he h;cases cE with
  | nil=>have:=he.1;simp at this
  | cons y cE=>
   obtain⟨⟨I,U⟩,Ν⟩:=he.tail;unfold hR at h;split at h
   ·rename_i b hb;have hv:mM i.bG v y.key=some b:=by
     unfold aeqv at hb;rw[hi] at hb;simp only at hb;split at hb
     ·rename_i x lX Δ Γ;rw[Γ] at I;cases I;cases Δ;split at hb
      ·exact hb
      ·cases hb
     ·rename_i Δ _;cases Δ
     ·cases hb
    unfold Instr.findNow;rw[Wd hv];cases b with
    | true=>cases h;simp[lY]
    | false=>
     have:=Β cE (n+1) r Ν h;simp only[this];congr 1;unfold lY;cases r with
     | none=>rfl
     | some x=>
      simp only[Option.map_some];have γ:n+1<=x.1:=(DD es (n+1) x.1 x.2 h).1;have:x.1-n=(x.1-(n+1))+1:=R;rw[this,List.getElem?_cons_succ]
   ·cases h
theorem Wf (Ι:bV P T) {kt:TypeId} {k:η} {v:Value} (ς:av S B σ k v) {E:Value->χ->Prop}:∀(es:List (η×η)) (cE:List MapEntry) (n:Nat) (r:Option (Nat×η)) (K:Option (Nat×Value)->χ->Prop),vU S B σ es cE->hR T kt k es n=some r->
  K (lY cE n r) H->π P (Instr.findAsking kt v cE n) H K E:=by
 intro es
 induction es with
 | nil=>
  intro cE n r K he h ζ;have:cE=[]:=by have:=he.1;simpa using this.symm
  subst this;cases h;exact π.pure' ζ
 | cons e es Β=>
  intro cE n r K he h ζ;cases cE with
  | nil=>have:=he.1;simp at this
  | cons y cE=>
   obtain⟨⟨I,U⟩,Ν⟩:=he.tail;unfold hR at h;split at h
   ·rename_i b hb;unfold Instr.findAsking;refine π.bind' (HS Ι ς I hb ?_);cases b with
    | true=>cases h;simp only[if_true];exact π.pure' (by simpa[lY] using ζ)
    | false=>
     simp only[Bool.false_eq_true,if_false];refine Β cE (n+1) r K Ν h ?_;have:lY (y::cE) n r=lY cE (n+1) r:=by
      unfold lY;cases r with
      | none=>rfl
      | some x=>
       simp only[Option.map_some];have γ:n+1<=x.1:=(DD es (n+1) x.1 x.2 h).1;have:x.1-n=(x.1-(n+1))+1:=R;rw[this,List.getElem?_cons_succ]
     rw[<-this];exact ζ
   ·cases h
theorem HU (Ι:bV P T) {kt:TypeId} {k:η} {v:Value} (ς:av S B σ k v) (n':n9 T kt k=true) {es:List (η×η)} {cE:List MapEntry} {r:Option (Nat×η)} (he:vU S B σ es cE) (h:hR T kt k es 0=some r) {K:Option (Nat×Value)->χ->Prop} {E:Value->χ->Prop} (ζ:K (lY cE 0 r) H) :
  π P (Instr.findKey kt v cE) H K E:=by
 unfold Instr.findKey;unfold n9 at n';split at n'
 ·rename_i i hi;refine π.bind' (Ι.bG hi ?_);split at n'
  ·rw[We Ι hi ς ⟨_,rfl⟩ es cE 0 r he h];exact π.pure' ζ
  ·rename_i xs;cases ς with
   | aV vs Τ af=>
    cases cE with
    | nil=>
     have:es=[]:=by have:=he.1;simpa using this
     subst this;cases h;exact π.pure' ζ
    | cons y cE=>
     have Η:Instr.findNow i.bG (.agg vs) (y::cE) 0=none:=by
      unfold Instr.findNow;have:Instr.sameNow i.bG (.agg vs) y.key=none:=by unfold Instr.sameNow;cases i.bG<;>rfl
      rw[this]
     rw[Η];exact Wf Ι (.aV vs Τ af) es (y::cE) 0 r K he h ζ
  ·cases n'
 ·cases n'
def oa (σ:List Row) (id:Nat):Bool:=σ.all λr=>match r with|.iter m _ _=>m != id|_=>true
theorem Wg {id:Nat} (h:oa σ id=true):∀(j:Nat) left cur,σ[j]?≠some (Row.iter id left cur):=λj left cur δ=>by
 have:=List.all_eq_true.1 h _ (cr δ);simp at this
def vV (T:bf) (ty:TypeId):Option (TypeId×TypeId):=match T ty with
 | some i=>match i.bG with|.map k v=>some (k,v)|_=>none
 | none=>none
theorem DF {ty kt vt:TypeId} (h:vV T ty=some (kt,vt)):∃i,T ty=some i/\i.bG=.map kt vt:=by
 unfold vV at h;split at h
 ·rename_i i hi;split at h
  ·rename_i k v hu;cases h;exact⟨i,hi,hu⟩
  ·cases h
 ·cases h
def HV (σ:List Row):da:=.ok (.mp σ.length) (σ++[.map []])
theorem Wh (ω:Holds S B σ H) (ty:TypeId):cM P (Instr.makeMap ty none) S B H σ (HV σ):=by
 intro K ζ;unfold Instr.makeMap;refine π.bind' ?_;refine λr κ=>?_;have cH:∀b,(∀N,some (r,0)≠some (b,N))->kH H (H.bL r (.map #[] 0)) b:=λb hb=>by
  have bA:b≠r:=λe=>by subst e;exact hb _ rfl
  exact⟨λo=>rfl,rfl,by simp[χ.bL,bA]⟩
 have bF:b' S S B (B++[some (r,0)]) σ (σ++[.map []])->jP S (B++[some (r,0)]) (σ++[.map []]) (H.bL r (.map #[] 0)) (.map []) (some (r,0)):=λ_=>
  ⟨r,0,#[],0,rfl,by simp[χ.bL],rfl,λi e y I=>by simp at I,λi j y z I=>by simp at I⟩
 obtain⟨I,U,ξ⟩:=ω.push (λb N e=>by cases e;exact κ) cH bF;exact π.pure' ⟨_,_,_,_,ζ,U,I,ξ,.mp (es:=[]) (N:=0) (Dr σ _) (Ds ω.len _)⟩
def DG (T:bf) (ty:TypeId) (ok:Bool) (σ:List Row) (mp k:η):da:=match vV T ty,mp with
 | some (kt,vt),.mp id=>match σ[id]?,T vt with
  | some (.map es),some HW=>if n9 T kt k=true then match hR T kt k es 0 with
   | some (some (_,a))=>.ok (if ok then .bw [a,.z (.bool true)] else a) σ
   | some none=>.ok (if ok then .bw [hA HW.zero,.z (.bool false)] else hA HW.zero) σ
   | none=>.bad else .bad
  | _,_=>.bad
 | _,_=>.bad
theorem z5 (ω:Holds S B σ H) {id b N:Nat} {es:List (η×η)} (hm:σ[id]?=some (.map es)) (hb:B[id]?=some (some (b,N))):∃xs clock,H.obj b=some (.map xs clock)/\sB S B σ es xs clock:=by
 obtain⟨Ω,e1,xs,clock,e,I,U⟩:=ω.row id _ _ hm hb;cases e;exact⟨xs,clock,I,U⟩
theorem sB.xU {es:List (η×η)} {xs:Array MapEntry} {clock:Nat} (h:sB S B σ es xs clock):vU S B σ es xs.toList:=
 ⟨by simpa using h.1,λi e y I U=>by rw[Array.getElem?_toList] at U;obtain⟨a,b,_⟩:=h.2.1 i e y I U;exact⟨a,b⟩⟩
theorem Wi (Ι:bV P T) (ω:Holds S B σ H) {ty:TypeId} {ok:Bool} {mp k:η} {u v:Value} (hm:av S B σ mp u) (ς:av S B σ k v):cM P (Instr.lookup ty u v ok) S B H σ (DG T ty ok σ mp k):=by
 unfold DG;split
 ·rename_i kt vt id vW;obtain⟨i,hi,hu⟩:=DF vW;split
  ·rename_i es HW bF Wj;split
   ·rename_i n';cases hm with
    | mp I U=>
     rename_i b N;rw[bF] at I;cases I;obtain⟨xs,clock,ny,hD⟩:=z5 ω bF U;have go:∀(r:Option (Nat×η)) (res:da),hR T kt k es 0=some r->(∀(K:η->List Row->Prop),res.holds K->∃(x:η) (y:Value),True/\π P (do
       let (v,Wk) <-match lY xs.toList 0 r with
        | some (_,v)=>pure (v,true)
        | none=>do pure (<-zeroValue vt,false)
       pure (if ok then .tuple #[v,.bool Wk] else v)) H (iL S B H σ K) (λ_ _=>False))->cM P (Instr.lookup ty (.map (some b)) v ok) S B H σ res:=λr res Χ e5 K ζ=>by
      unfold Instr.lookup;refine π.bind' (Ι.bG hi ?_);rw[hu];refine π.bind' ?_;refine⟨_,ny,rfl,?_⟩;refine π.bind' (π.pure' ?_);refine π.bind' (HT Ι ς n' ?_);refine π.bind' (HU Ι ς n' hD.xU Χ ?_);obtain⟨_,_,_,h⟩:=e5 K ζ;cases Α:lY xs.toList 0 r with
      | none=>rw[Α] at h;exact h
      | some p=>rw[Α] at h;exact h
     split
     ·rename_i b6 a Χ;refine go _ _ Χ λK ζ=>⟨a,undef,trivial,?_⟩;obtain⟨_,ae,he,_⟩:=DD es 0 b6 a Χ;have aB:b6<xs.size:=by have:=(cf.1 he).1;rw[<-hD.1];simpa using this
      have Ο:xs[b6]?=some xs[b6]:=fh aB;obtain⟨_,κ,_⟩:=hD.2.1 b6 _ _ (by simpa using he) Ο;have Α:lY xs.toList 0 (some (b6,a))=some (b6,xs[b6].val):=by simp[lY,aB]
      rw[Α];refine π.bind' (π.pure' (π.pure' ?_));cases ok with
      | true=>exact .same ω ζ (xI κ (.z _))
      | false=>exact .same ω ζ κ
     ·rename_i Χ;refine go _ _ Χ λK ζ=>⟨.cp,undef,trivial,?_⟩;refine π.bind' (Ι.zero Wj ?_);refine π.bind' (π.pure' (π.pure' ?_));cases ok with
      | true=>exact .same ω ζ (xI (p6 _) (.z _))
      | false=>exact .same ω ζ (p6 _)
     ·exact .bad
    | lT v I=>rw[bF] at I;cases I
   ·exact .bad
  ·exact .bad
 ·exact .bad
def z6 (T:bf) (ty:TypeId) (σ:List Row) (mp k x:η):da:=match vV T ty,mp with
 | some (kt,_),.mp id=>match σ[id]? with
  | some (.map es)=>if n9 T kt k=true/\oa σ id=true then match hR T kt k es 0 with
   | some (some (i,_))=>.ok .cp (σ.set id (.map (es.set i (k,x))))
   | some none=>.ok .cp (σ.set id (.map (es++[(k,x)])))
   | none=>.bad else .bad
  | _=>.bad
 | _,_=>.bad
theorem HX (ω:Holds S B σ H) {id b N:Nat} {es es':List (η×η)} {xs':Array MapEntry} {clock':Nat} (bF:σ[id]?=some (.map es)) (hb:B[id]?=some (some (b,N))) (kZ:oa σ id=true) (dK:∀{B':aU} {σ':List Row},b' S S B B' σ σ'->sB S B' σ' es' xs' clock') :
  Holds S (B.set id (some (b,N))) (σ.set id (.map es')) (H.bL b (.map xs' clock'))/\Ext S B H S (B.set id (some (b,N))) (H.bL b (.map xs' clock'))/\b' S S B (B.set id (some (b,N))) σ (σ.set id (.map es')):=
 ω.xG bF trivial hb (.inl ⟨es',rfl,rfl⟩) (λΩ e1 e=>.inl ⟨e1,e⟩) (λΩ I _=>by
  have bA:Ω≠b:=λe=>by subst e;exact I N rfl
  exact⟨λo=>rfl,rfl,by simp[χ.bL,bA]⟩) χ.Hk (Wg kZ) λυ=>⟨b,N,xs',clock',rfl,by simp[χ.bL],dK υ⟩
theorem NJ (Ι:bV P T) (ω:Holds S B σ H) {ty:TypeId} {mp k x:η} {u v w:Value} (hm:av S B σ mp u) (ς:av S B σ k v) (γ:av S B σ x w):xJ P (Instr.mapUpdate ty u v w) S B H σ (z6 T ty σ mp k x):=by
 unfold z6;split
 ·rename_i kt vt id vW;obtain⟨i,hi,hu⟩:=DF vW;split
  ·rename_i es bF;split
   ·rename_i rp;obtain⟨n',kZ⟩:=rp;cases hm with
    | mp I U=>
     rename_i b N;rw[bF] at I;cases I;obtain⟨xs,clock,ny,hD⟩:=z5 ω bF U;split
     ·rename_i b6 a Χ;obtain⟨_,ae,he,heq⟩:=DD es 0 b6 a Χ;simp only[Nat.sub_zero] at he;have iM:b6<es.length:=(cf.1 he).1;have aB:b6<xs.size:=by rw[<-hD.1];exact iM
      have Ο:xs[b6]?=some xs[b6]:=fh aB;obtain⟨Wl,jτ,xV⟩:=hD.2.1 b6 _ _ he Ο;obtain⟨Δ,Γ,a0⟩:=V9 Ι ς Wl heq;intro K ζ;unfold Instr.mapUpdate;refine π.bind' (Ι.bG hi ?_);rw[hu];refine π.bind' ⟨_,ny,rfl,π.pure' ?_⟩;refine π.bind' (HT Ι ς n' ?_);refine π.bind' (HU Ι ς n' hD.xU Χ ?_);have Α:lY xs.toList 0 (some (b6,a))=some (b6,xs[b6].val):=by simp[lY,aB]
      rw[Α];simp only[Ο,Option.map_some,Option.getD_some];unfold Instr.keyThatStays;rw[<-Δ];simp only[a0,if_true];refine π.bind' (π.pure' ?_);obtain⟨dL,p2,p3⟩:=HX ω (es':=es.set b6 (k,x)) (xs':=xs.modify b6 λe=>{e with key:=v,val:=w}) (clock':=clock) bF U kZ λ{B' σ'} υ=>by
       refine⟨by simp[hD.1],λj e y Τ af=>?_,λj bK y z Τ af HY=>?_⟩
       ·rw[Array.getElem?_modify] at af;by_cases mK:b6=j
        ·subst mK;rw[List.getElem?_set_self iM] at Τ;rw[if_pos rfl,Ο] at af;cases Τ;cases af;exact⟨ς.later υ,γ.later υ,xV⟩
        ·rw[List.getElem?_set_ne mK] at Τ;rw[if_neg mK] at af;obtain⟨c1,c2,c3⟩:=hD.2.1 j e y Τ af;exact⟨c1.later υ,c2.later υ,c3⟩
       ·have born:∀(j:Nat) (y:MapEntry),(xs.modify b6 λe=>{e with key:=v,val:=w})[j]?=some y->∃DH,xs[j]?=some DH/\y.born=DH.born:=λj y g=>by
         rw[Array.getElem?_modify] at g;by_cases mK:b6=j
         ·subst mK;rw[if_pos rfl,Ο] at g;cases g;exact⟨_,Ο,rfl⟩
         ·rw[if_neg mK] at g;exact⟨y,g,rfl⟩
        obtain⟨DH,c1,c2⟩:=born j y Τ;obtain⟨hQ,c3,c4⟩:=born bK z af;rw[c2,c4];exact hD.2.2 j bK DH hQ c1 c3 HY
      exact⟨⟨_,ny⟩,rfl,rfl,π.pure' ⟨S,_,_,_,ζ,p2,dL,p3,.cp _⟩⟩
     ·rename_i Χ;intro K ζ;unfold Instr.mapUpdate;refine π.bind' (Ι.bG hi ?_);rw[hu];refine π.bind' ⟨_,ny,rfl,π.pure' ?_⟩;refine π.bind' (HT Ι ς n' ?_);refine π.bind' (HU Ι ς n' hD.xU Χ ?_);simp only[lY,Option.map_none];obtain⟨dL,p2,p3⟩:=HX ω (es':=es++[(k,x)]) (xs':=xs.push {key:=v,val:=w,born:=clock}) (clock':=clock+1) bF U kZ λ{B' σ'} υ=>by
       refine⟨by simp[hD.1],λj e y Τ af=>?_,λj bK y z Τ af HY=>?_⟩
       ·by_cases δ:j<es.length
        ·rw[dE δ] at Τ;rw[Array.getElem?_push,if_neg (by rw[<-hD.1];omega)] at af;obtain⟨c1,c2,c3⟩:=hD.2.1 j e y Τ af;exact⟨c1.later υ,c2.later υ,R⟩
        ·rw[gl R] at Τ;have fH:j=es.length:=by
          have:=(cf.1 Τ).1;simp at this;omega
         subst fH;rw[Array.getElem?_push,if_pos hD.1] at af;simp at Τ;subst Τ;cases af;exact⟨ς.later υ,γ.later υ,Nat.lt_succ_self _⟩
       ·rw[Array.getElem?_push] at Τ af;split at Τ
        ·rename_i Δ;split at af
         ·omega
         ·have:=(Array.getElem?_eq_some_iff.1 af).1;omega
        ·split at af
         ·cases af;have δ:=(Array.getElem?_eq_some_iff.1 Τ).1;have he:∃e,es[j]?=some e:=⟨_,a5 (by rw[hD.1];exact δ)⟩;obtain⟨e,he⟩:=he;exact(hD.2.1 j e y he Τ).2.2
         ·exact hD.2.2 j bK y z Τ af HY
      exact⟨⟨_,ny⟩,rfl,rfl,π.pure' ⟨S,_,_,_,ζ,p2,dL,p3,.cp _⟩⟩
     ·exact .bad
    | lT v I=>rw[bF] at I;cases I
   ·exact .bad
  ·exact .bad
 ·exact .bad
end
section
variable {P:Program} {T:bf} {S:aH} {B:aU} {H:χ} {σ:List Row}
def DI (T:bf) (ty:TypeId) (σ:List Row) (mp:η):da:=match vV T ty,mp with
 | some _,.mp id=>match σ[id]? with
  | some (.map es)=>.ok (.it σ.length) (σ++[.iter id es none])
  | _=>.bad
 | _,_=>.bad
theorem Wm (Ι:bV P T) (ω:Holds S B σ H) {ty:TypeId} {mp:η} {u:Value} (hm:av S B σ mp u):cM P (Instr.range ty u) S B H σ (DI T ty σ mp):=by
 unfold DI;split
 ·rename_i z7 id vW;obtain⟨i,hi,hu⟩:=DF (kt:=z7.1) (vt:=z7.2) vW;split
  ·rename_i es bF;cases hm with
   | mp I U=>
    rename_i b N;rw[bF] at I;cases I;obtain⟨xs,clock,ny,hD⟩:=z5 ω bF U;intro K ζ;unfold Instr.range;refine π.bind' (Ι.bG hi ?_);rw[hu];refine π.bind' ?_;refine⟨_,ny,rfl,?_⟩;refine π.bind' (π.pure' ?_);refine π.bind' ?_;refine λr κ=>?_;have bA:b≠r:=λe=>by subst e;rw[κ.2.2.1] at ny;cases ny
    have b0:id<σ.length:=(cf.1 bF).1
    have cH:∀Ω,(∀N,some (r,0)≠some (Ω,N))->kH H (H.bL r (.mapIter (some b) clock #[] clock)) Ω:=λΩ hb=>by
     have bA:Ω≠r:=λe=>by subst e;exact hb _ rfl
     exact⟨λo=>rfl,rfl,by simp[χ.bL,bA]⟩
    have zF:b' S S B (B++[some (r,0)]) σ (σ++[.iter id es none])->jP S (B++[some (r,0)]) (σ++[.iter id es none]) (H.bL r (.mapIter (some b) clock #[] clock)) (.iter id es none) (some (r,0)):=λυ=>by
     refine⟨r,0,b,N,xs,clock,#[],rfl,by rw[dE (by rw[ω.len];exact b0)];exact U,⟨es,by rw[dE b0];exact bF⟩,by simp[χ.bL],by simp[χ.bL,bA,ny],⟨xs.toList,?_,by simpa using hD.1,λi e y Τ af=>?_⟩,λy Ο=>?_,λe he=>by cases he⟩
     ·exact(List.filter_eq_self.2 λe _=>θ).symm
     ·obtain⟨c1,c2⟩:=hD.xU.2 i e y Τ af;exact⟨c1.later υ,c2.later υ⟩
     ·obtain⟨j,δ,rfl⟩:=Array.getElem_of_mem Ο;have he:∃e,es[j]?=some e:=⟨_,a5 (by rw[hD.1];exact δ)⟩;obtain⟨e,he⟩:=he;exact(hD.2.1 j e _ he (fh δ)).2.2
    obtain⟨dL,p2,p3⟩:=ω.push (λΩ e1 e=>by cases e;exact κ) cH zF;exact π.pure' ⟨_,_,_,_,ζ,p2,dL,p3,.it (Dr σ _) (Ds ω.len _)⟩
   | lT v I=>rw[bF] at I;cases I
  ·exact .bad
 ·exact .bad
theorem Wn {α:Type} (f:α->Nat):∀(l:List α) (i:Nat) (e:α),(l.map f).Nodup->l[i]?=some e->l.filter (λx=>f x != f e)=l.eraseIdx i:=by
 intro l
 induction l with
 | nil=>intro i e _ h;simp at h
 | cons a l Β=>
  intro i e Η h;simp only[List.map_cons,List.nodup_cons] at Η;cases i with
  | zero=>
   simp at h;subst h;rw[List.filter_cons];simp only[bne_self_eq_false,Bool.false_eq_true,if_false,List.eraseIdx_cons_zero];rw[List.filter_eq_self];intro x γ;simp only[bne_iff_ne,ne_eq];intro e;exact Η.1 (e▸List.mem_map_of_mem γ)
  | succ i=>
   simp only[List.getElem?_cons_succ] at h;have bA:f a≠f e:=λx=>Η.1 (x▸List.mem_map_of_mem (cr h));rw[List.filter_cons];simp only[bne_iff_ne,ne_eq,bA,not_false_eq_true,if_true,List.eraseIdx_cons_succ];rw[Β i e Η.2 h]
theorem Wo {es:List (η×η)} {xs:Array MapEntry} {clock:Nat} (h:sB S B σ es xs clock):(xs.toList.map (·.born)).Nodup:=by
 rw[List.Nodup,List.pairwise_map,List.pairwise_iff_getElem];intro i j hi δ aB;have:=h.2.2 i j _ _ (fh (by simpa using hi)) (fh (by simpa using δ)) aB;simp only[Array.getElem_toList];omega
def DJ (σ:List Row) (it:η):da:=match it with
 | .it id=>match σ[id]? with
  | some (.iter m left _)=>if left.isEmpty=true then .ok (.bw [.z (.bool false)]) σ else
    .all left.length λi=>match left[i]? with
     | some e=>.ok (.bw [.z (.bool true),e.1,e.2]) (σ.set id (.iter m (left.eraseIdx i) (some e)))
     | none=>.bad
  | _=>.bad
 | _=>.bad
theorem Wp {a b c:η} {u v w:Value} (I:av S B σ a u) (U:av S B σ b v) (ξ:av S B σ c w):av S B σ (.bw [a,b,c]) (.tuple #[u,v,w]):=by
 refine .bw _ rfl λi cn fi Τ af=>?_
 match i with
 | 0=>simp at Τ af;subst Τ;subst af;exact I
 | 1=>simp at Τ af;subst Τ;subst af;exact U
 | 2=>simp at Τ af;subst Τ;subst af;exact ξ
 | i+3=>simp at Τ
theorem Wq (ω:Holds S B σ H) {it:η} {u:Value} (ty:TypeId) (hi:av S B σ it u):cM P (Instr.next u false ty) S B H σ (DJ σ it):=by
 unfold DJ;split
 ·rename_i id;split
  ·rename_i m left cur bF;cases hi with
   | it I U=>
    rename_i Hn Ho b7 b N;rw[bF] at I;cases I;obtain⟨Ω,e1,aW,k5,xs,clock,seen,cD,sE,⟨es,z8⟩,sM,vX,⟨cE,HZ,hlen,H0⟩,xV,DK⟩:=ω.row id _ _ bF U;cases cD;obtain⟨xs',clock',NK,hD⟩:=z5 ω z8 sE;rw[vX] at NK;cases NK;have kJ:=Wo hD;have bA:aW≠b:=λe=>by subst e;rw[sM] at vX;cases vX
    intro K ζ;have Wr:(xs.filter λe=>!seen.contains e.born).toList=cE:=by rw[HZ];simp
    have hY:(!seen.isEmpty&&!xs.isEmpty&&xs.all (λe=>decide (e.born>=clock)))=false:=by
     cases γ:xs.isEmpty with
     | true=>simp
     | false=>
      have qa:0<xs.size:=by
       rw[Array.isEmpty_eq_false_iff] at γ;exact Array.size_pos_iff.2 γ
      have ai:xs.all (λe=>decide (e.born>=clock))=false:=by
       rw[Array.all_eq_false];refine⟨0,qa,?_⟩;have:=xV xs[0] (Array.getElem_mem qa);simp;exact this
      rw[ai];simp
    have Ws:∀z:Array MapEntry,z=xs.filter (λe=>!seen.contains e.born)->z.filter (λe=>decide (e.born<clock))=z/\z.filter (λe=>decide (e.born>=clock))=#[]:=λz Θ=>by
     have hb:∀e∈z,e.born<clock:=λe he=>by rw[Θ] at he;exact xV e (Array.mem_of_mem_filter he)
     constructor
     ·rw[Array.filter_eq_self];intro e he;simpa using hb e he
     ·rw[Array.filter_eq_empty_iff];intro e he;simpa using hb e he
    unfold Instr.next;refine π.bind' ?_;refine⟨_,sM,rfl,?_⟩;refine π.pure' ?_;simp only;refine π.bind' ?_;refine⟨_,vX,rfl,?_⟩;refine π.pure' ?_;simp only[hY,Bool.false_eq_true,if_false];generalize Θ:xs.filter (λe=>!seen.contains e.born)=z;obtain⟨f1,f2⟩:=Ws z Θ.symm;rw[f1,f2];have pa:z.toList=cE:=by rw[<-Θ];exact Wr
    by_cases DL:left.isEmpty=true
    ·have HM:left=[]:=List.isEmpty_iff.1 DL;subst HM;have H2:z=#[]:=by
      have:cE=[]:=dw.1 (by rw[<-hlen];rfl);rw[this] at pa;exact Array.toList_eq_nil_iff.1 pa
     subst H2;have cD:((if(#[]:Array MapEntry).isEmpty=true then #[none] else #[])++Array.map some (#[]++#[]:Array MapEntry))=#[none]:=θ;rw[cD];refine π.bind' ?_;show π P (choose (.mapNext 1)) H _ _;unfold choose;simp only[π,Question.forced,Nat.le_refl,decide_true,if_true];exact π.pure' (.same ω ζ (.bw _ rfl λi a v Τ af=>by
      match i with
      | 0=>simp at Τ af;subst Τ;subst af;exact .z _
      | i+1=>simp at Τ))
    ·rw[if_neg DL] at ζ;have rm:z.size=left.length:=by rw[hlen,<-pa];simp
     have Wt:z.isEmpty=false:=by
      rw[Array.isEmpty_eq_false_iff];intro e;rw[e] at rm;exact DL (List.isEmpty_iff.2 (dw.1 rm.symm))
     simp only[Wt,Bool.false_eq_true,if_false,Array.append_empty,Array.empty_append];refine π.bind' ?_;have fin:∀i,i<left.length->π P (match (z.map some)[i]? with
       | some (some e)=>do
        setObj b (.mapIter (some aW) clock (seen.push e.born) clock)
        pure (.tuple #[.bool true,e.key,e.val])
       | some none=>pure (.tuple #[.bool false])
       | none=>stuck "Next: no such candidate") H (iL S B H σ K) (λ_ _=>False):=λi iM=>by
      have z9:∃qf,z[i]?=some qf:=⟨_,fh R⟩;obtain⟨qf,z9⟩:=z9;have NL:cE[i]?=some qf:=by rw[<-pa,Array.getElem?_toList];exact z9
      have hy:∃e,left[i]?=some e:=⟨_,a5 iM⟩;obtain⟨le,hy⟩:=hy;rw[Array.getElem?_map,z9];simp only[Option.map_some];have NM:=ζ i iM;simp only[hy] at NM;obtain⟨r1,r2⟩:=H0 i _ _ hy NL;have lZ:qf∈xs:=by
       have:qf∈z:=Array.mem_of_getElem? z9;rw[<-Θ] at this;exact Array.mem_of_mem_filter this
      have b0:id<σ.length:=(cf.1 bF).1
      have o4:id<B.length:=by rw[ω.len];exact b0
      have NN:id≠m:=λe=>by subst e;rw[bF] at z8;cases z8
      obtain⟨dL,p2,p3⟩:=ω.xG (H':=H.bL b (.mapIter (some aW) clock (seen.push qf.born) clock)) (r':=.iter m (left.eraseIdx i) (some le)) (bo':=some (b,N)) bF trivial U (.inl ⟨_,_,rfl,rfl⟩) (λΩ e1 e=>.inl ⟨e1,e⟩) (λΩ Τ _=>by
       have bA:Ω≠b:=λe=>by subst e;exact Τ N rfl
       exact⟨λo=>rfl,rfl,by simp[χ.bL,bA]⟩) χ.Hk (λj l c δ=>by
       obtain⟨bo,e6⟩:=M' ω δ;obtain⟨_,_,_,_,_,_,_,_,_,⟨n5,NO⟩,_⟩:=ω.row j _ bo δ e6;rw[bF] at NO;cases NO) (λυ=>by
       refine⟨b,N,aW,k5,xs,clock,seen.push qf.born,rfl,by rw[List.getElem?_set_ne NN];exact sE,⟨es,by rw[List.getElem?_set_ne NN];exact z8⟩,by simp[χ.bL],by simp[χ.bL,bA,vX],⟨cE.eraseIdx i,?_,by rw[List.length_eraseIdx,List.length_eraseIdx,hlen],λj e y Τ af=>?_⟩,xV,λe he=>?_⟩
       ·have j7:(cE.map (·.born)).Nodup:=by
         rw[HZ];exact kJ.sublist (List.filter_sublist.map _)
        rw[<-Wn (·.born) cE i qf j7 NL,HZ,List.filter_filter];apply List.filter_congr;intro e _;rw[Array.contains_push,Bool.not_or,Bool.and_comm];congr 1
       ·rw[List.getElem?_eraseIdx] at Τ af;split at Τ
        ·rename_i aB;rw[if_pos aB] at af;obtain⟨c1,c2⟩:=H0 j e y Τ af;exact⟨c1.later υ,c2.later υ⟩
        ·rename_i aB;rw[if_neg aB] at af;obtain⟨c1,c2⟩:=H0 (j+1) e y Τ af;exact⟨c1.later υ,c2.later υ⟩
       ·cases he;refine⟨qf.born,qf,θ,?_,r1.later υ,r2.later υ⟩;rw[<-Array.find?_toList];obtain⟨q,Ψ⟩:=List.getElem?_of_mem (show qf∈xs.toList by simpa using lZ);have key:∀(l:List MapEntry) (q:Nat) (e:MapEntry),(l.map (·.born)).Nodup->l[q]?=some e->l.find? (·.born==e.born)=some e:=by
         intro l
         induction l with
         | nil=>intro q e _ h;simp at h
         | cons a l Β=>
          intro q e Η h;simp only[List.map_cons,List.nodup_cons] at Η;rw[List.find?_cons];cases q with
          | zero=>simp at h;subst h;simp
          | succ q=>
           simp only[List.getElem?_cons_succ] at h;have:(a.born==e.born)=false:=by
            simp only[beq_eq_false_iff_ne,ne_eq];intro x;exact Η.1 (x▸List.mem_map_of_mem (cr h))
           rw[this];exact Β q e Η.2 h
        exact key xs.toList q _ kJ Ψ)
      refine π.bind' ?_;refine⟨⟨_,sM⟩,rfl,rfl,?_⟩;refine π.pure' ?_;exact π.pure' ⟨S,_,_,_,NM,p2,dL,p3,Wp (.z _) (r1.later p3) (r2.later p3)⟩
     have cv:(z.map some).size=left.length:=by simp[rm]
     show π P (choose (.mapNext (z.map some).size)) H _ _;unfold choose;simp only[π];have qa:0<left.length:=List.length_pos_iff.2 λe=>DL (List.isEmpty_iff.2 e);split
     ·exact fin 0 qa
     ·intro n;refine fin _ ?_;simp only[Question.cut,cv];exact Nat.mod_lt _ qa
   | ns v I=>rw[bF] at I;cases I
  ·exact .bad
 ·exact .bad
def DN (σ:List Row) (it:η):da:=match it with
 | .it id=>match σ[id]? with
  | some (.iter _ _ (some e))=>.ok (.bw [e.1,e.2]) σ
  | _=>.bad
 | _=>.bad
theorem Wu (ω:Holds S B σ H) {it:η} {u:Value} (hi:av S B σ it u):cM P (Instr.entry u) S B H σ (DN σ it):=by
 unfold DN;split
 ·rename_i id;split
  ·rename_i m left e bF;cases hi with
   | it I U=>
    rename_i Hn Ho b7 b N;rw[bF] at I;cases I;obtain⟨Ω,e1,aW,k5,xs,clock,seen,cD,sE,z8,sM,vX,_,xV,DK⟩:=ω.row id _ _ bF U;cases cD;obtain⟨Hq,y,Τ,af,aZ,cA⟩:=DK e rfl;intro K ζ;unfold Instr.entry;refine π.bind' ?_;refine⟨_,sM,rfl,?_⟩;refine π.pure' ?_;simp only[Τ];refine π.bind' ?_;refine⟨_,vX,rfl,?_⟩;refine π.pure' ?_;simp only[bne_self_eq_false,Bool.false_eq_true,if_false,af];exact π.pure' (.same ω ζ (xI aZ cA))
   | ns v I=>rw[bF] at I;cases I
  ·exact .bad
 ·exact .bad
def DO (T:bf) (ty:TypeId) (σ:List Row) (x:η):da:=match x with
 | .ms id n i len=>match T ty,σ[id]? with
  | some k0,some (.cells t k l)=>match k0.bG with
   | .slice e=>match T e with
    | some b4=>match b4.zero with
     | .int kd z=>if l.length=n/\k=1/\i+len<=n/\(∀a∈l,a.cells.length=1) then .ok .cp (σ.set id (.cells t k (l.take i++List.replicate len (.z (.int kd z))++l.drop (i+len)))) else .bad
     | _=>.bad
    | none=>.bad
   | _=>.bad
  | _,_=>.bad
 | _=>.bad
theorem Wv (Ι:bV P T) (ω:Holds S B σ H) {ty:TypeId} (rt:TypeId) {x:η} {u:Value} (hm:av S B σ x u):cM P (Builtin.clear_ #[ty] rt #[u]) S B H σ (DO T ty σ x):=by
 unfold DO;split
 ·rename_i id n i len;split
  ·rename_i k0 t k l Ww υ;split
   ·rename_i e hu;split
    ·rename_i b4 dT;split
     ·rename_i kd z Θ;split
      ·rename_i ε;obtain⟨Η,rfl,bq,_⟩:=ε;have b0:id<σ.length:=(cf.1 υ).1;have o4:id<B.length:=by rw[ω.len];exact b0
       intro K ζ;have same:len=0->iL S B H σ K (.tuple #[]) H:=λcD=>by
        subst cD;have rr:σ.set id (.cells t 1 (l.take i++List.replicate 0 (.z (.int kd z))++l.drop (i+0)))=σ:=by
         rw[List.replicate_zero,List.append_nil,Nat.add_zero,List.take_append_drop];apply List.ext_getElem?;intro j;by_cases mK:id=j
         ·subst mK;rw[List.getElem?_set_self b0,υ]
         ·rw[List.getElem?_set_ne mK]
        simp only[da.holds] at ζ;rw[rr] at ζ;exact⟨S,B,σ,_,ζ,.refl _ _ _,ω,.refl _ _ _,.cp _⟩
       cases hm with
       | jg v I U=>rw[υ] at I;cases I;simp only[Row.hf] at U;omega
       | ms cap I U ξ Κ aE bd=>
        rename_i bo base;rw[υ] at I;cases I;unfold Builtin.clear_;refine π.bind' (Ι.bG Ww ?_);rw[hu];cases base with
        | none=>
         refine π.bind' (π.pure' ?_);have cD:len=0:=by
          rcases bd with bd|⟨b,N,_,hb,_⟩
          ·omega
          ·cases hb
         exact π.pure' (same cD)
        | some a=>
         by_cases cD:len=0
         ·subst cD;refine π.bind' (π.pure' ?_);exact π.pure' (same rfl)
         ·rcases bd with bd|⟨b,N,rfl,hb,bd⟩
          ·omega
          ·cases hb;obtain⟨bF,cl,gd,w,hw⟩:=ω.row id _ _ υ ξ;obtain⟨m,rfl⟩:∃m,len=m+1:=⟨len-1,R⟩;simp only;refine π.bind' (Ι.zero dT ?_);rw[Θ];have Wx:(Builtin.zeroCells (Value.int kd z).cells (m+1)).toList=List.replicate (m+1) (.int kd z):=by
            simp only[Builtin.zeroCells,Value.cells];rw[Array.toList_map,Array.toList_range];refine List.ext_getElem? λj=>?_;rw[List.getElem?_map,List.getElem?_replicate];by_cases δ:j<m+1
            ·rw[List.getElem?_range (by simpa using δ),if_pos δ];simp[Nat.mod_one]
            ·rw[List.getElem?_eq_none (by simp;omega),if_neg δ];rfl
           rw[Wx];have gW:∀(y:Nat) (c:η),(l.take i++List.replicate (m+1) (η.z (.int kd z))++l.drop (i+(m+1)))[y]?=some c->(i<=y/\y<i+(m+1)/\c=.z (.int kd z))\/((y<i\/i+(m+1)<=y)/\l[y]?=some c):=λy c Ο=>by
            by_cases c1:y<i
            ·rw[List.append_assoc,dE (by simp;omega),List.getElem?_take_of_lt c1] at Ο;exact .inr ⟨.inl c1,Ο⟩
            ·by_cases c2:y<i+(m+1)
             ·rw[dE (by simp;omega),gl (by simp;omega),List.getElem?_replicate] at Ο;split at Ο
              ·cases Ο;exact .inl ⟨R,c2,rfl⟩
              ·cases Ο
             ·rw[gl (by simp;omega),List.getElem?_drop] at Ο;have Δ:i+(m+1)+(y-(l.take i++List.replicate (m+1) (η.z (.int kd z))).length)=y:=by simp;omega
              rw[Δ] at Ο;exact .inr ⟨.inr R,Ο⟩
           obtain⟨dL,p2,p3⟩:=ω.xG (H':=H.hx b i (List.replicate (m+1) (.int kd z))) (r':=.cells t 1 (l.take i++List.replicate (m+1) (.z (.int kd z))++l.drop (i+(m+1)))) (bo':=some (b,N)) υ trivial ξ (.inl ⟨_,rfl,by simp;omega,rfl⟩) (λΩ e1 aM=>.inl ⟨e1,aM⟩)
            (λΩ I _=>by
             have bA:Ω≠b:=λaM=>by subst aM;exact I N rfl
             exact⟨λo=>by simp[χ.hx,bA],rfl,rfl⟩) χ.Hs (Da ω υ) (λkV=>by
             refine⟨bF,by simp;omega,λo Α=>?_,λy j=>if i<=y/\y<i+(m+1) then .int kd z else w y j,λy c Ο=>?_⟩
             ·simp only[χ.hx];split
              ·exact⟨_,rfl⟩
              ·exact gd o Α
             ·rcases gW y c Ο with⟨c1,c2,rfl⟩|⟨c1,vv⟩
              ·refine⟨rfl,λj a δ=>?_⟩;have fH:j=0:=by have:=(cf.1 δ).1;simp[η.cells] at this;omega
               subst fH;simp[η.cells] at δ;subst δ;simp only[c1,c2,and_self,if_true];refine⟨?_,.z _,trivial⟩;simp only[χ.hx,List.length_replicate];rw[if_pos ⟨trivial,R,R⟩,List.getElem?_replicate,if_pos R];rfl
              ·refine⟨(hw y c vv).1,λj a δ=>?_⟩;obtain⟨Τ,af,aZ⟩:=(hw y c vv).2 j a δ;have fH:j=0:=by have:=(cf.1 δ).1;rw[(hw y c vv).1] at this;omega
               subst fH;have DQ:¬(i<=y/\y<i+(m+1)):=R;simp only[DQ,if_false];refine⟨?_,af.later kV,aZ⟩;simp only[χ.hx,List.length_replicate];rw[if_neg R];exact Τ)
           have μ:(⟨b,i*1,none⟩:Addr)=⟨b,i,none⟩:=by rw[Nat.mul_one]
           rw[μ];refine π.bind' ?_;refine π.storeCells (G:=H) rfl ⟨t,N,bF⟩ _ 0 H (λv hv=>by rw[List.eq_of_mem_replicate hv];trivial) (λj _ δ=>?_) rfl ?_
           ·rw[List.length_replicate] at δ;obtain⟨ei,xT⟩:=gd (i+j) R;exact⟨ei,xT⟩
           ·exact π.pure' ⟨S,_,_,_,ζ,p2,dL,p3,.cp _⟩
      ·exact .bad
     ·exact .bad
    ·exact .bad
   ·exact .bad
  ·exact .bad
 ·exact .bad
def DR (T:bf) (ty:TypeId) (σ:List Row) (mp:η):da:=match vV T ty,mp with
 | some _,.mp id=>match σ[id]? with
  | some (.map _)=>if oa σ id=true then .ok .cp (σ.set id (.map [])) else .bad
  | _=>.bad
 | _,_=>DO T ty σ mp
theorem Wy (Ι:bV P T) (ω:Holds S B σ H) {ty:TypeId} (rt:TypeId) {mp:η} {u:Value} (hm:av S B σ mp u):cM P (Builtin.clear_ #[ty] rt #[u]) S B H σ (DR T ty σ mp):=by
 unfold DR;split
 ·rename_i z7 id vW;obtain⟨i,hi,hu⟩:=DF (kt:=z7.1) (vt:=z7.2) vW;split
  ·rename_i es bF;split
   ·rename_i kZ;cases hm with
    | mp I U=>
     rename_i b N;rw[bF] at I;cases I;obtain⟨xs,clock,ny,hD⟩:=z5 ω bF U;obtain⟨dL,p2,p3⟩:=HX ω (es':=[]) (xs':=#[]) (clock':=clock) bF U kZ λ_=>⟨rfl,λi e y I=>by simp at I,λi j y z I=>by simp at I⟩;intro K ζ;unfold Builtin.clear_;refine π.bind' (Ι.bG hi ?_);rw[hu];refine π.bind' ?_;refine⟨_,ny,rfl,?_⟩;refine π.pure' ?_;refine⟨⟨_,ny⟩,rfl,rfl,?_⟩;exact π.pure' ⟨S,_,_,_,ζ,p2,dL,p3,.cp _⟩
    | lT v I=>rw[bF] at I;cases I
   ·exact .bad
  ·exact .bad
 ·exact Wv Ι ω rt hm
end
def vY (T:bf) (op:BinOp) (ty:TypeId) (a b:η):cF:=match aeqv T ty a b with
 | some r=>match op with
  | .eql=>.ok (.z (.bool r))
  | .neq=>.ok (.z (.bool !r))
  | _=>.bad
 | none=>.bad
def DS (T:bf) (op:BinOp) (ty:TypeId) (a b:η):cF:=match a,b with
 | .z x,.z y=>match sG op x y with
  | .ok v=>.ok v
  | .ca p r=>.ca p r
  | .bad=>vY T op ty (.z x) (.z y)
 | .aV x,.aV y=>vY T op ty (.aV x) (.aV y)
 | _,_=>.bad
def DT (T:bf) (ty:TypeId) (x b6:η):cF:=match T ty with
 | some i=>match i.bG,x,b6 with
  | .string,.z (.string s),.z (.int _ n)=>.ca (0<=n/\n<s.size) (.ok (.z (.int .u8 (s.data.toList.getD n.toNat 0).toNat)))
  | .array len e,.aV xs,.z (.int _ n)=>match T e with
   | some b4=>if b4.agg=false/\b4.size=1/\xs.length=len then .ca (0<=n/\n<len) (.ok (xs.getD n.toNat .cp)) else .bad
   | none=>.bad
  | _,_,_=>.bad
 | none=>.bad
def DU (x:η):cF:=match x with
 | .ab c=>.ok (.ab c)
 | .fn (.func f) a b=>.ok (.fn (.func f) a b)
 | .z (.pointer (some a))=>.ok (.z (.pointer (some a)))
 | _=>.bad
def vZ (σ:List Row) (x:η):da:=match x with
 | .an id n i j=>match σ[id]? with
  | some (.cells _ _ l)=>if l.length=n then .ok (.an id n i j) σ else .bad
  | _=>.bad
 | _=>.bad
def DV (T:bf) (arr:TypeId) (x:η):cF:=match T arr with
 | some i=>match i.bG,x with
  | .array n _,.sl _ k l=>if 0<n/\k=1/\(l.all λe=>decide (e.cells.length=1)&&η.a9 [] e)=true then .ca (n<=l.length) (.ok (.ab (l.take n))) else .bad
  | _,_=>.bad
 | none=>.bad
def sN:List η->Option (List Int)
 | []=>some []
 | .z (.int .i32 n)::r=>(sN r).map (n::·)
 | _=>none
def spell (l:List Int):ByteArray:=l.foldl (λs n=>s++Utf8.encode n) .empty
def z' (T:bf) (ty:TypeId):Bool:=match T ty with
 | some i=>match i.bG with
  | .slice e=>match T e with|some b4=>(match b4.bG with|.int .i32=>true|_=>false)&&b4.size==1|none=>false
  | _=>false
 | none=>false
def Aa (T:bf) (ty:TypeId):Bool:=match T ty with|some i=>(match i.bG with|.string=>true|_=>false)|none=>false
def ug (T:bf) (src dst:TypeId) (σ:List Row) (x:η):cF:=if z' T src=true/\Aa T dst=true then match p' σ x with
 | some (k,l)=>if k=1\/l.isEmpty=true then match sN l with|some r=>.ok (.z (.string (spell r)))|none=>.bad else .bad
 | none=>.bad else .bad
def DW (T:bf) (src dst:TypeId) (x:η):cF:=if Aa T src=true/\z' T dst=true then match x with
 | .z (.string s)=>.ok (.sl false 1 ((Conv.runesFrom s s.size 0 #[]).toList.map .z))
 | _=>.bad else .bad
section
variable {P:Program} {T:bf} {S:aH} {B:aU} {H:χ} {σ:List Row}
theorem Wz {op:BinOp} {ty:TypeId} {p q:Operand} {vs ws:Array Value} (Ρ:P.eqGuardType P.depth ty=false) {G:χ} {K:Unit->χ->Prop} {E:Value->χ->Prop} (ς:K () G):π P (eqGuard op ty p q (.agg vs) (.agg ws)) G K E:=by
 cases op<;>first|exact π.pure' ς|skip
 all_goals
  unfold eqGuard;simp only[Bool.not_true,Bool.false_eq_true,if_false];refine π.bind' ?_;show π P _ G K E;refine π.bind' ?_;show π P _ G K E;rw[if_pos (by rw[Ρ];rfl)];exact π.pure' ς
theorem NP (Ι:bV P T) (ω:Holds S B σ H) {op:BinOp} {ty:TypeId} {p q:Operand} {a b:η} {v w:Value} (μ:av S B σ a v) (hb:av S B σ b w) (NQ:∀r,aeqv T ty a b=some r->(op=.eql\/op=.neq)->∀(K:Unit->χ->Prop),K () H->π P (eqGuard op ty p q v w) H K (λ_ _=>False))
  (WA:∀r,aeqv T ty a b=some r->(binOp .eql ty v w=(do pure (.bool (<-Op.equal ty v w)))/\binOp .neq ty v w=(do pure (.bool (!(<-Op.equal ty v w)))))) :
  cM P (do eqGuard op ty p q v w;binOp op ty v w) S B H σ ((vY T op ty a b).dv σ):=by
 unfold vY;split
 ·rename_i r κ;obtain⟨I,U⟩:=WA r κ;split
  ·intro K ζ;refine π.bind' (NQ r κ (.inl rfl) _ ?_);rw[I];exact π.bind' (HS Ι μ hb κ (π.pure' (.same ω ζ (.z _))))
  ·intro K ζ;refine π.bind' (NQ r κ (.inr rfl) _ ?_);rw[U];exact π.bind' (HS Ι μ hb κ (π.pure' (.same ω ζ (.z _))))
  ·exact .bad
 ·exact .bad
theorem WB (Ι:bV P T) (ω:Holds S B σ H) (op:BinOp) (ty:TypeId) (p q:Operand) {a b:η} {v w:Value} (μ:av S B σ a v) (hb:av S B σ b w):cM P (do eqGuard op ty p q v w;binOp op ty v w) S B H σ ((DS T op ty a b).dv σ):=by
 unfold DS;split
 ·rename_i x y;have Θ:=Vm (P:=P) ω op ty p q v w;cases μ;cases hb;split
  ·rename_i r κ;rw[κ] at Θ;exact Θ
  ·rename_i pp r κ;rw[κ] at Θ;exact Θ
  ·rename_i xW;have h1:∀r,aeqv T ty (.z v) (.z w)=some r->(∃c d,v=.bool c/\w=.bool d)\/¬(op=.eql\/op=.neq):=λr κ=>by
    unfold aeqv at κ;split at κ<;>try cases κ
    simp only at κ;split at κ<;>try cases κ
    unfold mM at κ;split at κ
    ·split at κ
     ·rename_i e;subst e;refine .inr λΑ=>?_;rcases Α with rfl|rfl<;>simp[sG] at xW
     ·cases κ
    ·refine .inr λΑ=>?_;rcases Α with rfl|rfl<;>simp[sG] at xW
    ·exact .inl ⟨_,_,rfl,rfl⟩
    ·cases κ
   by_cases Ξ:op=.eql\/op=.neq
   ·by_cases κ:∃r,aeqv T ty (.z v) (.z w)=some r
    ·obtain⟨r,κ⟩:=κ;rcases h1 r κ with⟨c,d,rfl,rfl⟩|h
     ·exact NP Ι ω (.z _) (.z _) (λ_ _ _ K ζ=>by unfold eqGuard;split<;>exact π.pure' ζ) (λ_ _=>⟨rfl,rfl⟩)
     ·exact absurd Ξ h
    ·have:aeqv T ty (.z v) (.z w)=none:=by
      cases h:aeqv T ty (.z v) (.z w) with
      | none=>rfl
      | some r=>exact absurd ⟨r,h⟩ κ
     unfold vY;rw[this];exact .bad
   ·unfold vY;split
    ·split
     ·exact absurd (.inl rfl) Ξ
     ·exact absurd (.inr rfl) Ξ
     ·exact .bad
    ·exact .bad
 ·rename_i x y;cases μ with
  | aV vs Τ af=>cases hb with
   | aV ws k1 cJ=>
    refine NP Ι ω (.aV vs Τ af) (.aV ws k1 cJ) (λr κ _ K ζ=>?_) (λ_ _=>⟨rfl,rfl⟩);have Ρ:P.eqGuardType P.depth ty=false:=by
     unfold aeqv at κ;split at κ<;>try cases κ
     rename_i i hi;simp only at κ;split at κ<;>try cases κ
     rename_i items dr;have:=(Ι ty i hi).1.2;rw[dr] at this;exact this.1
    exact Wz Ρ ζ
 ·exact .bad
theorem WC (Ι:bV P T) (ω:Holds S B σ H) (ty:TypeId) {x b6:η} {v w:Value} (γ:av S B σ x v) (hi:av S B σ b6 w):cM P (Instr.index ty v w) S B H σ ((DT T ty x b6).dv σ):=by
 unfold DT;cases Ν:T ty with
 | none=>exact .bad
 | some i=>
  simp only;split
  ·rename_i s kk n hu;cases γ;cases hi;refine cM.ca (r:=(cF.ok (.z (.int .u8 (s.data.toList.getD n.toNat 0).toNat))).dv σ) λΗ K ζ=>?_;unfold Instr.index;refine π.bind' (π.pure' ?_);refine π.bind' (Ι.bG Ν ?_);rw[hu];have aB:n.toNat<s.data.size:=by have:s.size=s.data.size:=rfl;omega
   have Δ:(if 0<=n then s[n.toNat]? else none)=some s.data[n.toNat]:=by
    rw[if_pos Η.1];show s[n.toNat]?=_;rw[getElem?_pos s n.toNat R];rfl
   simp only[Δ];have Γ:s.data.toList.getD n.toNat 0=s.data[n.toNat]:=by rw[List.getD_eq_getElem?_getD,Array.getElem?_toList,fh aB];rfl
   rw[Γ] at ζ;exact π.pure' (.same ω ζ (.z _))
  ·rename_i len e xs kk n hu;cases hi;split
   ·rename_i b4 dT;split
    ·rename_i ε;obtain⟨c1,c2,c3⟩:=ε;refine cM.ca (r:=(cF.ok (xs.getD n.toNat .cp)).dv σ) λΗ K ζ=>?_;cases γ with
     | aV vs Τ af=>
      unfold Instr.index;refine π.bind' (π.pure' ?_);refine π.bind' (Ι.bG Ν ?_);rw[hu];simp only[Η,and_self,if_true];refine π.bind' (Ι.size dT ?_);rw[c2,Nat.mul_one];unfold part;refine π.bind' (Ι.agg dT ?_);rw[c1];have aB:n.toNat<xs.length:=R;have hv:n.toNat<vs.size:=by rw[<-Τ];exact aB
      simp only[Bool.false_eq_true,if_false,fh hv];have Γ:xs.getD n.toNat .cp=xs[n.toNat]:=by simp[aB]
      rw[Γ] at ζ;exact π.pure' (.same ω ζ (af _ _ _ (a5 aB) (fh hv)))
    ·exact .bad
   ·exact .bad
  ·exact .bad
theorem WE (ω:Holds S B σ H) {ρ:Operand->Value} {o:Oper} {x:Operand} (Α:o.op=.nilCheck x) {a:η} (μ:av S B σ a (ρ x)):Does P (execOp ρ o) S B H σ ((DU a).dv σ):=by
 unfold DU;split
 ·unfold execOp;rw[Α];simp only;generalize ρ x=v at μ;cases μ with
  | ab b o w I U=>exact Does.val ω (.ab b o w I U)
 ·unfold execOp;rw[Α];simp only;generalize ρ x=v at μ;cases μ with
  | fn vs ws I U ξ Κ=>exact Does.val ω (.fn vs ws I U ξ Κ)
 ·unfold execOp;rw[Α];simp only;generalize ρ x=v at μ;cases μ;exact Does.val ω (.z _)
 ·exact .bad
theorem WG (ω:Holds S B σ H) {ρ:Operand->Value} {o:Oper} {x:Operand} (Α:o.op=.nilCheck x) {a:η} (μ:av S B σ a (ρ x)):Does P (execOp ρ o) S B H σ (vZ σ a):=by
 unfold vZ;split
 ·split
  ·rename_i t k l υ;split
   ·rename_i Η;unfold execOp;rw[Α];simp only;generalize ρ x=v at μ;cases μ with
    | an I U ξ=>exact Does.val ω (.an I U ξ)
    | jO v I U=>rw[υ] at I;cases I;simp only[Row.hf] at U;omega
   ·exact .bad
  ·exact .bad
 ·exact .bad
theorem WH (Ι:bV P T) (ω:Holds S B σ H) (arr:TypeId) {x:η} {v:Value} (γ:av S B σ x v):cM P (Instr.arrayAt arr v) S B H σ ((DV T arr x).dv σ):=by
 unfold DV;cases Ν:T arr with
 | none=>exact .bad
 | some i=>
  simp only;split
  ·rename_i n e ex k l hu;split
   ·rename_i ε;obtain⟨c1,c2,c3⟩:=ε;subst c2;refine cM.ca (r:=(cF.ok (.ab (l.take n))).dv σ) λΗ K ζ=>?_;obtain⟨base,cap,rfl,_,_,ξ⟩:=rk γ;obtain⟨b,o,w,rfl,Κ,aE,bd⟩:=ξ (λe=>by subst e;simp at Η;omega);unfold Instr.arrayAt;refine π.bind' (Ι.bG Ν ?_);rw[hu];simp only;rw[if_neg R];rw[List.all_eq_true] at c3;have el:∀(j:Nat) (e:η),(l.take n)[j]?=some e->l[j]?=some e/\e.cells=[e]:=λj e δ=>by
     have hm:=c3 e (List.mem_of_mem_take (cr δ));simp only[Bool.and_eq_true] at hm;rw[List.getElem?_take] at δ;split at δ
     ·exact⟨δ,η.Hx hm.2⟩
     ·cases δ
    refine π.pure' (.same ω ζ (.ab b o (λj=>w j 0) (λj a δ=>?_) (λj a δ=>?_)))
    ·obtain⟨Τ,af⟩:=el j a δ;have:=aE j a Τ 0 a (by rw[af];rfl);simpa using this
    ·obtain⟨Τ,af⟩:=el j a δ;exact bd j a Τ 0 a (by rw[af];rfl)
   ·exact .bad
  ·exact .bad
theorem NR {ty:TypeId} (h:z' T ty=true):∃i e b4,T ty=some i/\i.bG=.slice e/\T e=some b4/\b4.bG=.int .i32/\b4.size=1:=by
 unfold z' at h;split at h
 ·rename_i i hi;split at h
  ·rename_i e hu;split at h
   ·rename_i b4 dT;simp only[Bool.and_eq_true,beq_iff_eq] at h;refine⟨i,e,b4,hi,hu,dT,?_,h.2⟩;have:=h.1;split at this
    ·assumption
    ·cases this
   ·cases h
  ·cases h
 ·cases h
theorem NS {ty:TypeId} (h:Aa T ty=true):∃i,T ty=some i/\i.bG=.string:=by
 unfold Aa at h;split at h
 ·rename_i i hi;refine⟨i,hi,?_⟩;split at h
  ·assumption
  ·cases h
 ·cases h
theorem WI (Ι:bV P T) (ω:Holds S B σ H) (src dst:TypeId) {x:η} {v:Value} (γ:av S B σ x v):cM P (convert src dst v) S B H σ ((DW T src dst x).dv σ):=by
 unfold DW;split
 ·rename_i ε;obtain⟨i,hi,hu⟩:=NS ε.1;obtain⟨j,e,b4,δ,H3,dT,H4,cv⟩:=NR ε.2;split
  ·rename_i s;cases γ;intro K ζ;unfold convert;refine π.bind' (Ι.bG hi (π.bind' (Ι.bG δ ?_)));rw[hu,H3];simp only;refine π.bind' (Ι.bG dT ?_);rw[H4];simp only;unfold Conv.stringToRunes;refine π.bind' ?_;unfold choose;simp only[π];have Ψ:(Question.appendCap (Conv.runesFrom s s.size 0 #[]).size 0 e).forced=false:=rfl;rw[Ψ];simp only[Bool.false_eq_true,if_false];intro q;generalize H5:Conv.runesFrom s s.size 0 #[]=lW at ζ ⊢;have xL:lW.size<=(Question.appendCap lW.size 0 e).cut q:=by simp[Question.cut]
   refine π.bind' (π.bind' ?_);have WJ:∀v∈lW,One v:=by
    have key:∀(bound i:Nat) (acc:Array Value),(∀v∈acc,One v)->∀v∈Conv.runesFrom s bound i acc,One v:=by
     intro bound
     induction bound with
     | zero=>intro i acc h;exact h
     | succ n Β=>
      intro i acc h;unfold Conv.runesFrom;split
      ·refine Β _ _ λv hv=>?_;rcases Array.mem_push.1 hv with hv|rfl
       ·exact h v hv
       ·trivial
      ·exact h
    rw[<-H5];exact key _ _ _ (λv hv=>by simp at hv)
   have z1:fU S B σ (lW++Array.replicate ((Question.appendCap lW.size 0 e).cut q-lW.size) (.int .i32 0)) 1 (lW.toList.map .z):=by
    refine⟨θ,λj a δ=>?_⟩;rw[List.getElem?_map,Array.getElem?_toList] at δ;cases γ:lW[j]? with
    | none=>rw[γ] at δ;cases δ
    | some y=>
     rw[γ] at δ;cases δ;refine⟨rfl,λz b Θ=>?_⟩
     match z with
     | 0=>
      simp[η.cells] at Θ;subst Θ;refine⟨y,?_,.z y,WJ y (Array.mem_of_getElem? γ)⟩;have:=(Array.getElem?_eq_some_iff.1 γ).1;rw[Array.getElem?_append_left (by simpa using this)];simpa using γ
     | z+1=>simp[η.cells] at Θ
   refine zW ω _ e λr I U ξ=>π.pure' (π.pure' ⟨_,_,_,_,ζ,U,I,ξ,?_⟩);have:=Dd (cap:=(Question.appendCap lW.size 0 e).cut q) false ξ z1 (by simpa using xL) θ;simpa using this
  ·exact .bad
 ·exact .bad
theorem WK:∀(l:List η) (r:List Int),sN l=some r->r.length=l.length/\∀(i:Nat) (n:Int),r[i]?=some n->l[i]?=some (.z (.int .i32 n)):=by
 intro l
 induction l with
 | nil=>intro r h;cases h;exact⟨rfl,λi n h=>by simp at h⟩
 | cons a l Β=>
  intro r h;unfold sN at h;split at h
  ·rename_i heq;cases heq
  ·rename_i n d' heq;cases heq;cases υ:sN l with
   | none=>rw[υ] at h;cases h
   | some r'=>
    rw[υ] at h;cases h;obtain⟨I,U⟩:=Β r' υ;refine⟨by simp[I],λi m hm=>?_⟩;cases i with
    | zero=>simp at hm;subst hm;rfl
    | succ i=>exact U i m (by simpa using hm)
  ·cases h
theorem WL (Ι:bV P T) (ω:Holds S B σ H) (src dst:TypeId) {x:η} {v:Value} (γ:av S B σ x v):cM P (convert src dst v) S B H σ ((ug T src dst σ x).dv σ):=by
 unfold ug;split
 ·rename_i ε;obtain⟨i,e,b4,hi,hu,dT,H4,cv⟩:=NR ε.1;obtain⟨j,δ,H3⟩:=NS ε.2;split
  ·rename_i k l υ;split
   ·rename_i ς;split
    ·rename_i r κ;obtain⟨base,cap,w,rfl,_,H6,H5⟩:=Dp ω γ (k:=1) υ R (ς.symm);obtain⟨kD,WM⟩:=WK l r κ;intro K ζ;unfold convert;refine π.bind' (Ι.bG hi (π.bind' (Ι.bG δ ?_)));rw[hu,H3];have hw:∀i,i<l.length->w i=.int .i32 (r.getD i 0):=λi iM=>by
      have NT:r[i]?=some r[i]:=a5 R
      have:=(H5 i _ (WM i _ NT)).2 0 _ rfl;rw[Nat.mul_one,Nat.add_zero] at this;rw[List.getD_eq_getElem?_getD,NT];generalize w i=u at this;cases this;rfl
     have go:π P (Conv.runesToString (.slice base l.length cap)) H (iL S B H σ K) (λ_ _=>False):=by
      unfold Conv.runesToString;rw[Nat.mul_one] at H6;cases base with
      | none=>
       simp only;rcases H6 with ai|⟨b,o,hb,_⟩
       ·have:r=[]:=dw.1 (by rw[kD,ai]);subst this;exact π.pure' (.same ω ζ (.z _))
       ·cases hb
      | some a=>
       simp only;have fold:∀(rs:List Int) (acc:ByteArray),π P (forIn (rs.map λn=>Value.int .i32 n) acc λ(c:Value) (s:ByteArray)=>do
         let .int .i32 n:=c|stuck "runesToString: rune expected"
         pure (ForInStep.yield (s++Utf8.encode n))) H (λs H'=>s=rs.foldl (λs n=>s++Utf8.encode n) acc/\H'=H) (λ_ _=>False):=by
        intro rs
        induction rs with
        | nil=>intro acc;exact .forIn_nil ⟨rfl,rfl⟩
        | cons n rs Β=>
         intro acc;rw[List.map_cons];refine .forIn_cons ?_;exact π.pure' (Β (acc++Utf8.encode n))
       have cells:π P (loadCells a l.length) H (λvs H'=>vs=(r.map λn=>Value.int .i32 n).toArray/\H'=H) (λ_ _=>False):=by
        rcases H6 with ai|⟨b,o,hb,HN⟩
        ·rw[ai];have:r=[]:=dw.1 (by rw[kD,ai]);subst this;exact π.pure' ⟨rfl,rfl⟩
        ·cases hb;refine π.loadCells w rfl HN ⟨?_,rfl⟩;congr 1;apply List.ext_getElem?;intro i;rw[List.getElem?_map,List.getElem?_map];by_cases iM:i<l.length
         ·rw[List.getElem?_range iM,a5 (show i<r.length by omega)];simp only[Option.map_some];rw[hw i iM,List.getD_eq_getElem?_getD,a5 (show i<r.length by omega)];rfl
         ·rw[List.getElem?_eq_none (by simp;omega),List.getElem?_eq_none R];rfl
       refine π.bind' (π.mono (λvs H' ⟨Δ,Γ⟩=>?_) (λ_ _ h=>h) _ cells);subst Δ;subst Γ;rw[<-Array.forIn_toList];refine π.bind' (π.mono (λs H' ⟨Δ,Γ⟩=>?_) (λ_ _ h=>h) _ (fold r .empty));subst Δ;subst Γ;exact π.pure' (.same ω ζ (.z _))
     have:π P (do
      match <-underlying e with
      | .int .u8=>Conv.bytesToString (.slice base l.length cap)
      | .int .i32=>Conv.runesToString (.slice base l.length cap)
      | _=>stuck "Convert: a slice of what to string?") H (iL S B H σ K) (λ_ _=>False):=by
      refine π.bind' (Ι.bG dT ?_);rw[H4];exact go
     cases base<;>exact this
    ·exact .bad
   ·exact .bad
  ·exact .bad
 ·exact .bad
end
def DX (σ:List Row):da:=.all 2 λj=>.ok (.z (.bool (j==1))) σ
def DY (T:bf) (ty:TypeId) (σ:List Row) (a:η):da:=match T ty with
 | some i=>match i.bG with
  | .slice _=>match a with
   | .ms id n i len=>match σ[id]? with
    | some (.cells _ _ l)=>if l.length=n/\i+len<=n then(if len=0 then DX σ else .ok (.z (.bool false)) σ) else .bad
    | _=>.bad
   | .sl _ _ l=>if l.isEmpty then DX σ else .ok (.z (.bool false)) σ
   | _=>.bad
  | _=>.bad
 | none=>.bad
section
variable {P:Program} {T:bf} {S:aH} {B:aU} {H:χ} {σ:List Row}
theorem Ab (Ι:bV P T) (ω:Holds S B σ H) {ty:TypeId} {i:im} (hi:T ty=some i) {e:TypeId} (hu:i.bG=.slice e) (p q:Operand) (base:Option Addr) (len cap:Nat) {dv:da}
  (WN:∀K,dv.holds K->K (.z (.bool base.isNone)) σ):cM P (do eqGuard .eql ty p q (.slice base len cap) (.slice none 0 0);binOp .eql ty (.slice base len cap) (.slice none 0 0)) S B H σ dv:=by
 intro K ζ;have ζ:=WN K ζ;refine π.bind' ?_;unfold eqGuard;refine π.pure' ?_;have WO:binOp .eql ty (.slice base len cap) (.slice none 0 0)=(do pure (Value.bool (<-Op.equal ty (.slice base len cap) (.slice none 0 0)))):=rfl;rw[WO];refine π.bind' ?_;unfold Op.equal;unfold Op.equalIn;refine π.bind' (Ι.bG hi ?_);rw[hu];cases base with
 | none=>exact π.pure' (π.pure' (.same ω ζ (.z _)))
 | some b=>exact π.pure' (π.pure' (.same ω ζ (.z _)))
theorem H7 {K:η->List Row->Prop} (h:(DX σ).holds K) (b:Bool):K (.z (.bool b)) σ:=by
 cases b
 ·exact h 0 bD
 ·exact h 1 bD
theorem WQ (Ι:bV P T) (ω:Holds S B σ H) (ty:TypeId) (p q:Operand) {a:η} {v:Value} (μ:av S B σ a v):cM P (do eqGuard .eql ty p q v (.slice none 0 0);binOp .eql ty v (.slice none 0 0)) S B H σ (DY T ty σ a):=by
 unfold DY;split
 ·rename_i i hi;split
  ·rename_i e hu;split
   ·rename_i id n j len;split
    ·rename_i t k l κ;split
     ·rename_i ε;cases μ with
      | @ms _ _ _ _ _ _ _ bo base cap I U ξ Κ aE bd=>
       split
       ·exact Ab Ι ω hi hu p q base len cap λK ζ=>H7 ζ _
       ·rename_i hlen;refine Ab Ι ω hi hu p q base len cap λK ζ=>?_;rcases bd with bd|⟨b,N,_,gT,_⟩
        ·omega
        ·rw[gT];exact ζ
      | jg v I U=>
       rw[κ] at I;cases I;exact absurd ε.1 (Nat.ne_of_gt U)
     ·exact .bad
    ·exact .bad
   ·rename_i l;cases μ with
    | iK base cap I=>exact Ab Ι ω hi hu p q base 0 cap λK ζ=>H7 ζ _
    | sl b o cap w I U=>
     split
     ·exact Ab Ι ω hi hu p q _ _ cap λK ζ=>H7 ζ _
     ·exact Ab Ι ω hi hu p q _ _ cap λK ζ=>ζ
   ·exact .bad
  ·exact .bad
 ·exact .bad
end
def cF.or (r:cF) (σ:List Row) (s:da):da:=match r with
 | .ok a=>.ok a σ
 | .ca p r=>.ca p (r.dv σ)
 | .bad=>s
def qg (A:List Nat) (d:Option Tmp):Bool:=match d with|some d=>A.contains d|none=>false
def sO (env:aa) (cT:Array (Nat×Operand)):List (Nat×η):=cT.toList.map λp=>(p.1,aT env p.2)
def xX (c a b:η):cF:=match c with
 | .z (.bool v)=>match a,b with
  | .z (.bool x),.z (.bool y)=>.ok (.z (.bool (bif v then x else y)))
  | _,_=>match v with|true=>.ok a|false=>.ok b
 | _=>.bad
def sP (T:bf) (σ:List Row) (src dst:TypeId) (x:η):cF:=match xP T src dst x with
 | .bad=>match DW T src dst x with
  | .bad=>ug T src dst σ x
  | r=>r
 | r=>r
def mN (T:bf) (A:List Nat) (env:aa) (o:Oper):cF:=
 match o.op with
 | .move x=>.ok (aT env x)
 | .assign x=>.ok (aT env x)
 | .pick c a b=>xX (aT env c) (aT env a) (aT env b)
 | .alloc ty=>if qg A o.dst then .bad else Dg T ty
 | .box _ x=>if qg A o.dst then .bad else xM (aT env x)
 | .build ty cT=>mL T (η.a9 []) ty (sO env cT)
 | .buildSlice ty n cT=>if qg A o.dst then .bad else zY T (η.a9 []) ty n (sO env cT)
 | .load ty x=>C6 T ty (aT env x)
 | .binOp op ty x y _=>DS T op ty (aT env x) (aT env y)
 | .unOp op _ x=>xH op (aT env x)
 | .convert s d x=>sP T [] s d (aT env x)
 | .index ty x i=>DT T ty (aT env x) (aT env i)
 | .nilCheck x=>DU (aT env x)
 | .sliceToArrayPointer ty x=>DV T ty (aT env x)
 | .makeInterface ty x=>C5 T ty (aT env x)
 | .makeFunc f dc cs=>.ok (.fn f (dc.toList.map (aT env)) (cs.toList.map (aT env)))
 | .makeSlice ty n c=>if qg A o.dst then .bad else Dl T ty (aT env n) (aT env c)
 | .slice ty x lo hi none=>Dv T ty (aT env x) (lo.map (aT env)) (hi.map (aT env))
 | .fieldAddr ty x f=>C8 T ty f (aT env x)
 | .indexAddr ty x i=>C' T ty (aT env x) (aT env i)
 | .typeAssert x _ ty ok=>vK T ty ok (aT env x)
 | .extract x i=>C4 i (aT env x)
 | .call ⟨.builtin b,⟨[x]⟩,⟨[ty]⟩⟩=>match b with
  | .len=>Dx T ty (aT env x)
  | _=>.bad
 | .call ⟨.builtin b,⟨[x,y]⟩,⟨[uh,ty]⟩⟩=>match b with
  | .max=>Dz [aT env x,aT env y]
  | .append=>if qg A o.dst then .bad else sI T uh ty (η.a9 []) [] (aT env x) (aT env y)
  | _=>.bad
 | _=>.bad
def kK (T:bf) (A:List Nat) (env:aa) (σ:List Row) (o:Oper):da:=
 match o.op with
 | .alloc ty=>if qg A o.dst then Df T ty σ else .bad
 | .box ty x=>if qg A o.dst then xN ty σ (aT env x) else De σ (aT env x)
 | .build ty cT=>(mL T (η.a9 σ) ty (sO env cT)).dv σ
 | .buildSlice ty n cT=>if qg A o.dst then Dj T ty n (sO env cT) σ else(zY T (η.a9 σ) ty n (sO env cT)).dv σ
 | .load ty x=>vL T ty σ (aT env x)
 | .store ty p x=>Db T ty σ (aT env p) (aT env x)
 | .convert s d x=>(sP T σ s d (aT env x)).dv σ
 | .nilCheck x=>vZ σ (aT env x)
 | .binOp .eql ty x (.const (.slice none 0 0)) _=>DY T ty σ (aT env x)
 | .makeMap _ none=>HV σ
 | .mapUpdate ty m k x=>z6 T ty σ (aT env m) (aT env k) (aT env x)
 | .insert ty m k x=>z6 T ty σ (aT env m) (aT env k) (aT env x)
 | .lookup ty x k ok=>DG T ty ok σ (aT env x) (aT env k)
 | .range ty x=>DI T ty σ (aT env x)
 | .next it false=>DJ σ (aT env it)
 | .entry it=>DN σ (aT env it)
 | .makeSlice ty n c=>if qg A o.dst then Dk T ty (aT env n) (aT env c) σ else .bad
 | .slice ty x lo hi none=>Dw T ty σ (aT env x) (lo.map (aT env)) (hi.map (aT env))
 | .fieldAddr ty x f=>vM T ty f σ (aT env x)
 | .indexAddr ty x i=>vN T ty σ (aT env x) (aT env i)
 | .call ⟨.builtin b,⟨[x]⟩,⟨[ty]⟩⟩=>match b with
  | .len=>Dy T ty σ (aT env x)
  | .clear=>DR T ty σ (aT env x)
  | _=>.bad
 | .call ⟨.builtin b,⟨[x,y]⟩,⟨[uh,ty]⟩⟩=>match b with
  | .append=>if qg A o.dst then Dt T uh ty σ (aT env x) (aT env y) else(sI T uh ty (η.a9 σ) σ (aT env x) (aT env y)).dv σ
  | _=>.bad
 | _=>.bad
section
variable {P:Program} {T:bf} {A:List Nat} {S:aH} {B:aU} {H:χ} {σ:List Row} {env:aa} {t:Array Value}
theorem cF.WR {s:Sem Next} {r:cF} {a:da} (I:Does P s S B H σ (r.dv σ)) (U:Does P s S B H σ a):Does P s S B H σ (r.or σ a):=by
 cases r with
 | ok x=>exact I
 | ca p r=>exact I
 | bad=>exact U
theorem WS (ω:Holds S B σ H) {c a b:η} {u v w:Value} (ε:av S B σ c u) (μ:av S B σ a v) (hb:av S B σ b w):cM P (do pure (if <-asBool u then v else w)) S B H σ ((xX c a b).dv σ):=by
 unfold xX;split
 ·rename_i x;cases ε;split
  ·rename_i p q;cases μ;cases hb;intro K ζ;refine π.bind' (π.pure' (π.pure' ?_));cases x
   ·exact .same ω ζ (.z _)
   ·exact .same ω ζ (.z _)
  ·cases x
   ·exact λK ζ=>π.bind' (π.pure' (π.pure' (.same ω ζ hb)))
   ·exact λK ζ=>π.bind' (π.pure' (π.pure' (.same ω ζ μ)))
 ·exact .bad
theorem WT (cK:dj S B σ env t) (f:Fn) (dc cs:Array Operand):av S B σ (.fn f (dc.toList.map (aT env)) (cs.toList.map (aT env))) (.func f (dc.map (br t)) (cs.map (br t))):=by
 refine .fn _ _ θ θ (λi a v I U=>?_) (λi a v I U=>?_)
 ·rw[List.getElem?_map] at I;rw[Array.getElem?_map] at U;rw[Array.getElem?_toList] at I;cases γ:dc[i]? with
  | none=>rw[γ] at I;cases I
  | some x=>rw[γ] at I U;cases I;cases U;exact lV cK x
 ·rw[List.getElem?_map] at I;rw[Array.getElem?_map] at U;rw[Array.getElem?_toList] at I;cases γ:cs[i]? with
  | none=>rw[γ] at I;cases I
  | some x=>rw[γ] at I U;cases I;cases U;exact lV cK x
theorem DZ (cK:dj S B σ env t) (o:Option Operand):vR S B σ (o.map (aT env)) (o.map (br t)):=by
 cases o with
 | none=>trivial
 | some x=>exact lV cK x
theorem NU {a:η} {r:Nat×List η} (h:p' [] a=some r):p' σ a=some r:=by
 cases a<;>first|exact h|(simp[p'] at h)
theorem WU {st xt:TypeId} {s x:η}:sI T st xt (η.a9 []) [] s x=.bad\/sI T st xt (η.a9 []) [] s x=sI T st xt (η.a9 []) σ s x:=by
 unfold sI;cases γ:p' [] x with
 | none=>left;split<;>simp_all
 | some r=>rw[NU γ];exact .inr rfl
theorem NV (Ι:bV P T) (ω:Holds S B σ H) (src dst:TypeId) {x:η} {v:Value} (γ:av S B σ x v):cM P (convert src dst v) S B H σ ((sP T σ src dst x).dv σ):=by
 have I:=V3 Ι ω src dst γ
 have U:=WI Ι ω src dst γ;unfold sP;split
 ·split
  ·exact WL Ι ω src dst γ
  ·exact U
 ·exact I
theorem WV {src dst:TypeId} {x:η}:ug T src dst [] x=.bad\/ug T src dst [] x=ug T src dst σ x:=by
 unfold ug;split
 ·cases γ:p' [] x with
  | none=>exact .inl rfl
  | some r=>rw[NU γ];exact .inr rfl
 ·exact .inl rfl
theorem WW {src dst:TypeId} {x:η}:sP T [] src dst x=.bad\/sP T [] src dst x=sP T σ src dst x:=by
 unfold sP;split
 ·split
  ·exact WV
  ·exact .inr rfl
 ·exact .inr rfl
theorem WX (Ι:bV P T) (ω:Holds S B σ H) (cK:dj S B σ env t) (o:Oper):Does P (execOp (br t) o) S B H σ ((mN T A env o).dv σ):=by
 have ah:∀x,av S B σ (aT env x) (br t x):=λx=>lV cK x;obtain⟨dst,op,type,pos,after,guard⟩:=o;unfold mN;simp only;split
 ·exact Does.val ω (ah _)
 ·exact Does.val ω (ah _)
 ·rename_i c a b;have:=(WS (P:=P) ω (ah c) (ah a) (ah b)).next;unfold execOp;simp only;refine λK ζ=>?_;have U:=this K ζ;simpa using U
 ·split
  ·exact .bad
  ·exact(VH Ι ω _).next
 ·split
  ·exact .bad
  ·exact(VE ω _ (ah _)).next
 ·exact(Nq Ι ω (λa h=>Dc h) _ cK _).next
 ·split
  ·exact .bad
  ·exact(Nt Ι ω (λa h=>Dc h) _ _ cK _).next
 ·exact(Vs Ι ω (ah _)).next
 ·exact(WB Ι ω _ _ _ _ (ah _) (ah _)).next
 ·exact(Vn ω _ (ah _)).next
 ·rename_i a b x;rcases WW (T:=T) (σ:=σ) (src:=a) (dst:=b) (x:=aT env x) with h|h
  ·rw[h];exact .bad
  ·rw[h];exact(NV Ι ω _ _ (ah _)).next
 ·exact(WC Ι ω _ (ah _) (ah _)).next
 ·exact WE ω rfl (ah _)
 ·exact(WH Ι ω _ (ah _)).next
 ·exact(Vp Ι ω _ (ah _)).next
 ·exact cM.next (cM.pure ω (WT cK _ _ _))
 ·split
  ·exact .bad
  ·exact(VL Ι ω (ah _) (ah _)).next
 ·exact(VZ Ι ω _ (ah _) (DZ cK _) (DZ cK _)).next
 ·exact(Vu Ι ω (ah _)).next
 ·exact(Vz Ι ω (ah _) (ah _)).next
 ·exact(Vq Ι ω _ _ _ (ah _)).next
 ·exact(Vo ω _ (ah _)).next
 ·split
  ·exact λK ζ=>by
       refine π.bind' (π.pure' ?_);have e:∀x:Operand,Array.map (br t) {toList:=[x]}=#[br t x]:=λx=>θ;simp only[invoke,builtin,e];exact(V1 Ι ω _ _ (ah _)).next K ζ
  ·exact .bad
 ·split
  ·exact λK ζ=>by
       refine π.bind' (π.pure' ?_);have e:∀x y:Operand,Array.map (br t) {toList:=[x,y]}=#[br t x,br t y]:=λx y=>θ;simp only[invoke,builtin,e];exact(V4 ω _ _ (ah _) (ah _)).next K ζ
  ·split
   ·exact .bad
   ·rename_i x y uh ty _ _;rcases WU (T:=T) (σ:=σ) (st:=uh) (xt:=ty) (s:=aT env x) (x:=aT env y) with h|h
    ·rw[h];exact .bad
    ·rw[h];exact λK ζ=>by
       refine π.bind' (π.pure' ?_);have e:∀x y:Operand,Array.map (br t) {toList:=[x,y]}=#[br t x,br t y]:=λx y=>θ;simp only[invoke,builtin,e];exact(Nz Ι ω (λa h=>Dc h) _ _ _ (ah _) (ah _)).next K ζ
  ·exact .bad
 ·exact .bad
theorem WY (Ι:bV P T) (ω:Holds S B σ H) (cK:dj S B σ env t) (o:Oper):Does P (execOp (br t) o) S B H σ (kK T A env σ o):=by
 have ah:∀x,av S B σ (aT env x) (br t x):=λx=>lV cK x;obtain⟨dst,op,type,pos,after,guard⟩:=o;unfold kK;simp only;split
 ·split
  ·exact(VG Ι ω _).next
  ·exact .bad
 ·split
  ·exact(VF ω _ (ah _)).next
  ·exact(VD ω _ (ah _)).next
 ·exact(Nq Ι ω (λa h=>h) _ cK _).next
 ·split
  ·exact(VJ Ι ω _ _ cK _).next
  ·exact(Nt Ι ω (λa h=>h) _ _ cK _).next
 ·exact(Vt Ι ω (ah _)).next
 ·exact(VC Ι ω (ah _) (ah _)).next
 ·exact(NV Ι ω _ _ (ah _)).next
 ·exact WG ω rfl (ah _)
 ·exact(WQ Ι ω _ _ _ (ah _)).next
 ·exact(Wh ω _).next
 ·exact(NJ Ι ω (ah _) (ah _) (ah _)).next
 ·exact(NJ Ι ω (ah _) (ah _) (ah _)).next
 ·exact(Wi Ι ω (ah _) (ah _)).next
 ·exact(Wm Ι ω (ah _)).next
 ·exact(Wq ω _ (ah _)).next
 ·exact(Wu ω (ah _)).next
 ·split
  ·exact(VK Ι ω (ah _) (ah _)).next
  ·exact .bad
 ·exact(V0 Ι ω _ (ah _) (DZ cK _) (DZ cK _)).next
 ·exact(Vv Ι ω (ah _)).next
 ·exact(VA Ι ω (ah _) (ah _)).next
 ·split
  ·exact λK ζ=>by
       refine π.bind' (π.pure' ?_);have e:∀x:Operand,Array.map (br t) {toList:=[x]}=#[br t x]:=λx=>θ;simp only[invoke,builtin,e];exact(V2 Ι ω _ _ (ah _)).next K ζ
  ·exact λK ζ=>by
       refine π.bind' (π.pure' ?_);have e:∀x:Operand,Array.map (br t) {toList:=[x]}=#[br t x]:=λx=>θ;simp only[invoke,builtin,e];exact(Wy Ι ω _ (ah _)).next K ζ
  ·exact .bad
 ·split
  ·split
   ·exact λK ζ=>by
       refine π.bind' (π.pure' ?_);have e:∀x y:Operand,Array.map (br t) {toList:=[x,y]}=#[br t x,br t y]:=λx y=>θ;simp only[invoke,builtin,e];exact(VQ Ι ω _ _ _ (ah _) (ah _)).next K ζ
   ·exact λK ζ=>by
       refine π.bind' (π.pure' ?_);have e:∀x y:Operand,Array.map (br t) {toList:=[x,y]}=#[br t x,br t y]:=λx y=>θ;simp only[invoke,builtin,e];exact(Nz Ι ω (λa h=>h) _ _ _ (ah _) (ah _)).next K ζ
  ·exact .bad
 ·exact .bad
end
end Go.TL
