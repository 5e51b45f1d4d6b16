import Derived.Test.YtlabjopijpkiaaaGreatVAH
set_option maxHeartbeats 16000000
set_option maxRecDepth 20000
set_option linter.unusedSectionVars false
set_option linter.unusedSimpArgs false
set_option linter.unusedVariables false
namespace Go.TL
open Go.Conc
def hX (T:bb) (kt:TypeId) (k:θ):List (θ×θ)->Nat->Option (Option (Nat×θ))
 | [],_=>some none
 | e::r,i=>match aeqv T kt k e.1 with
  | some b=>bif b then some (some (i,e.2)) else hX T kt k r (i+1)
  | none=>none
def n' (T:bb) (kt:TypeId) (k:θ):Bool:=match T kt with
 | some i=>match k with
  | .z _=>ja i.bI
  | .a5 xs=>match i.bI,i.eqs with
   | .array _ _,some items=>xs.length==items.length&&(j0 items xs xs).isSome
   | _,_=>false
  | _=>false
 | none=>false
section
variable {P:Program} {T:bb} {S:aJ} {B:aV} {H:χ} {σ:List Row}
theorem Mr {ty:TypeId} {d:TypeDesc} (hd:P.underlying ty=some d) (ν:ja d=true) {v:Value} {em:Bool} {n:Nat} {G:χ} {K:Unit->χ->Prop} {E:Value->χ->Prop} (ς:K () G):π P (Instr.checkKey em (n+1) ty v) G K E:=by
 unfold Instr.checkKey;refine π.bind' (π.underlying hd ?_);cases d<;>first|(cases ν;done)|(cases v<;>exact π.pure' ς)
theorem G9 (Κ:bV P T) {kt:TypeId} {k:θ} {v:Value} (ς:ay S B σ k v) (h:n' T kt k=true) {em:Bool} {G:χ} {K:Unit->χ->Prop} {E:Value->χ->Prop} (ζ:K () G):π P (Instr.checkKey em 10000 kt v) G K E:=by
 unfold n' at h;split at h
 ·rename_i i hi;obtain⟨⟨hu,Φ⟩,_⟩:=Κ kt i hi;split at h
  ·exact Mr (n:=9999) hu h ζ
  ·rename_i xs;split at h
   ·rename_i n e items Un dA;rw[dA] at Φ;simp only[Bool.and_eq_true,beq_iff_eq] at h;obtain⟨_,_,Φ⟩:=Φ;rcases Φ with⟨dh,xD,_⟩|⟨m,Γ,d,f,xD,he,ν,Υ,cv,Uo⟩
    ·rw[hu,Un] at xD;cases xD
    ·cases ς with
     | a5 vs Χ ak=>
      have Up:=zJ (.a5 vs Χ ak)
      show π P (Instr.checkKey em (9999+1) kt _) G K E;unfold Instr.checkKey;refine π.bind' (π.underlying xD ?_);simp only;rw[forIn_range];refine π.bind' ?_;have hb:∃b,j0 ((List.range m).map λi=>(d,i)) xs xs=some b:=by
       rw[<-Uo];exact Option.isSome_iff_exists.1 h.2
      have key:∀(l:List Nat) (b:Bool),j0 (l.map λi=>(d,i)) xs xs=some b->π P (forIn l PUnit.unit λ(i:Nat) (_:PUnit)=>do
        let a <-sizeOf Γ
        let b <-part Γ vs (i*a)
        Instr.checkKey em 9999 Γ b
        pure (ForInStep.yield PUnit.unit)) G (λ_ G'=>K () G') E:=by
       intro l
       induction l with
       | nil=>intro b _;exact .forIn_nil ζ
       | cons i l Β=>
        intro b hb;simp only[List.map_cons,j0] at hb;split at hb<;>try cases hb
        rename_i x y vC xz;split at hb<;>try cases hb
        rename_i bw c1 k7 kK;refine .forIn_cons ?_;refine π.bind' (π.sizeOf Υ ?_);rw[cv];refine π.bind' (zK he ν (by rw[Nat.mul_one];exact Up _ _ vC) ?_);refine π.bind' (Mr (n:=9998) he ν ?_);exact π.pure' (Β c1 kK)
      obtain⟨b,hb⟩:=hb;exact π.mono (λ_ G' h=>π.pure' h) (λ_ _ h=>h) _ (key (List.range m) b hb)
   ·cases h
  ·cases h
 ·cases h
def vD (S:aJ) (B:aV) (σ:List Row) (es:List (θ×θ)) (cJ:List MapEntry):Prop:=es.length=cJ.length/\∀(i:Nat) (e:θ×θ) (y:MapEntry),es[i]?=some e->cJ[i]?=some y->ay S B σ e.1 y.key/\ay S B σ e.2 y.val
theorem vD.tail {e:θ×θ} {es:List (θ×θ)} {y:MapEntry} {cJ:List MapEntry} (h:vD S B σ (e::es) (y::cJ)):(ay S B σ e.1 y.key/\ay S B σ e.2 y.val)/\vD S B σ es cJ:=
 ⟨h.2 0 e y rfl rfl,⟨by simpa using h.1,λi aQ l3 J U=>h.2 (i+1) aQ l3 J U⟩⟩
theorem C5 {kt:TypeId} {k:θ}:∀(es:List (θ×θ)) (n i:Nat) (a:θ),hX T kt k es n=some (some (i,a))->n<=i/\∃ag,es[i-n]?=some (ag,a)/\aeqv T kt k ag=some true:=by
 intro es
 induction es with
 | nil=>intro n i a h;cases h
 | cons e es Β=>
  intro n i a h;unfold hX at h;split at h
  ·rename_i b hb;cases b with
   | true=>cases h;exact⟨Nat.le_refl _,e.1,η,hb⟩
   | false=>
    obtain⟨J,ag,U,μ⟩:=Β (n+1) i a h;refine⟨R,ag,?_,μ⟩;have:i-n=(i-(n+1))+1:=R;rw[this,List.getElem?_cons_succ];exact U
  ·cases h
def l4 (cJ:List MapEntry) (i0:Nat) (r:Option (Nat×θ)):Option (Nat×Value):=r.map λx=>(x.1,((cJ[x.1-i0]?).map (·.val)).getD undef)
theorem Uq {d:TypeDesc} {x y:Value} {b:Bool} (h:mJ d x y=some b):Instr.sameNow d x y=some b:=by
 unfold mJ at h;split at h
 ·split at h
  ·rename_i e;subst e;cases h;simp[Instr.sameNow]
  ·cases h
 ·cases h;rfl
 ·cases h;rfl
 ·cases h
theorem Ur (Κ:bV P T) {kt:TypeId} {i:iH} (hi:T kt=some i) {k:θ} {v:Value} (ς:ay S B σ k v) (Τ:∃u,k=.z u):∀(es:List (θ×θ)) (cJ:List MapEntry) (n:Nat) (r:Option (Nat×θ)),vD S B σ es cJ->hX T kt k es n=some r->
  Instr.findNow i.bI v cJ n=some (l4 cJ n r):=by
 obtain⟨u,rfl⟩:=Τ;cases ς;intro es
 induction es with
 | nil=>
  intro cJ n r he h;have:cJ=[]:=by have:=he.1;simpa using this.symm
  subst this;cases h;rfl
 | cons e es Β=>
  intro cJ n r he h;cases cJ with
  | nil=>have:=he.1;simp at this
  | cons y cJ=>
   obtain⟨⟨J,U⟩,Ν⟩:=he.tail;unfold hX at h;split at h
   ·rename_i b hb;have hv:mJ i.bI v y.key=some b:=by
     unfold aeqv at hb;rw[hi] at hb;simp only at hb;split at hb
     ·rename_i x l3 Δ Γ;rw[Γ] at J;cases J;cases Δ;split at hb
      ·exact hb
      ·cases hb
     ·rename_i Δ _;cases Δ
     ·cases hb
    unfold Instr.findNow;rw[Uq hv];cases b with
    | true=>cases h;simp[l4]
    | false=>
     have:=Β cJ (n+1) r Ν h;simp only[this];congr 1;unfold l4;cases r with
     | none=>rfl
     | some x=>
      simp only[Option.map_some];have γ:n+1<=x.1:=(C5 es (n+1) x.1 x.2 h).1;have:x.1-n=(x.1-(n+1))+1:=R;rw[this,List.getElem?_cons_succ]
   ·cases h
theorem Us (Κ:bV P T) {kt:TypeId} {k:θ} {v:Value} (ς:ay S B σ k v) {E:Value->χ->Prop}:∀(es:List (θ×θ)) (cJ:List MapEntry) (n:Nat) (r:Option (Nat×θ)) (K:Option (Nat×Value)->χ->Prop),vD S B σ es cJ->hX T kt k es n=some r->
  K (l4 cJ n r) H->π P (Instr.findAsking kt v cJ n) H K E:=by
 intro es
 induction es with
 | nil=>
  intro cJ n r K he h ζ;have:cJ=[]:=by have:=he.1;simpa using this.symm
  subst this;cases h;exact π.pure' ζ
 | cons e es Β=>
  intro cJ n r K he h ζ;cases cJ with
  | nil=>have:=he.1;simp at this
  | cons y cJ=>
   obtain⟨⟨J,U⟩,Ν⟩:=he.tail;unfold hX at h;split at h
   ·rename_i b hb;unfold Instr.findAsking;refine π.bind' (G8 Κ ς J hb ?_);cases b with
    | true=>cases h;simp only[if_true];exact π.pure' (by simpa[l4] using ζ)
    | false=>
     simp only[Bool.false_eq_true,if_false];refine Β cJ (n+1) r K Ν h ?_;have:l4 (y::cJ) n r=l4 cJ (n+1) r:=by
      unfold l4;cases r with
      | none=>rfl
      | some x=>
       simp only[Option.map_some];have γ:n+1<=x.1:=(C5 es (n+1) x.1 x.2 h).1;have:x.1-n=(x.1-(n+1))+1:=R;rw[this,List.getElem?_cons_succ]
     rw[<-this];exact ζ
   ·cases h
theorem Ha (Κ:bV P T) {kt:TypeId} {k:θ} {v:Value} (ς:ay S B σ k v) (oa:n' T kt k=true) {es:List (θ×θ)} {cJ:List MapEntry} {r:Option (Nat×θ)} (he:vD S B σ es cJ) (h:hX T kt k es 0=some r) {K:Option (Nat×Value)->χ->Prop} {E:Value->χ->Prop} (ζ:K (l4 cJ 0 r) H) :
  π P (Instr.findKey kt v cJ) H K E:=by
 unfold Instr.findKey;unfold n' at oa;split at oa
 ·rename_i i hi;refine π.bind' (Κ.bI hi ?_);split at oa
  ·rw[Ur Κ hi ς ⟨_,rfl⟩ es cJ 0 r he h];exact π.pure' ζ
  ·rename_i xs;cases ς with
   | a5 vs Χ ak=>
    cases cJ with
    | nil=>
     have:es=[]:=by have:=he.1;simpa using this
     subst this;cases h;exact π.pure' ζ
    | cons y cJ=>
     have Ζ:Instr.findNow i.bI (.agg vs) (y::cJ) 0=none:=by
      unfold Instr.findNow;have:Instr.sameNow i.bI (.agg vs) y.key=none:=by unfold Instr.sameNow;cases i.bI<;>rfl
      rw[this]
     rw[Ζ];exact Us Κ (.a5 vs Χ ak) es (y::cJ) 0 r K he h ζ
  ·cases oa
 ·cases oa
def ob (σ:List Row) (id:Nat):Bool:=σ.all λr=>match r with|.iter m _ _=>m != id|_=>true
theorem Ut {id:Nat} (h:ob σ id=true):∀(j:Nat) left cur,σ[j]?≠some (Row.iter id left cur):=λj left cur ε=>by
 have:=List.all_eq_true.1 h _ (cE ε);simp at this
def vE (T:bb) (ty:TypeId):Option (TypeId×TypeId):=match T ty with
 | some i=>match i.bI with|.map k v=>some (k,v)|_=>none
 | none=>none
theorem C6 {ty kt vt:TypeId} (h:vE T ty=some (kt,vt)):∃i,T ty=some i/\i.bI=.map kt vt:=by
 unfold vE at h;split at h
 ·rename_i i hi;split at h
  ·rename_i k v hu;cases h;exact⟨i,hi,hu⟩
  ·cases h
 ·cases h
def Hb (σ:List Row):df:=.ok (.mp σ.length) (σ++[.map []])
theorem Uu (Α:Holds S B σ H) (ty:TypeId):cR P (Instr.makeMap ty none) S B H σ (Hb σ):=by
 intro K ζ;unfold Instr.makeMap;refine π.bind' ?_;refine λr ι=>?_;have cF:∀b,(∀N,some (r,0)≠some (b,N))->kJ H (H.bL r (.map #[] 0)) b:=λb hb=>by
  have bA:b≠r:=λe=>by subst e;exact hb _ rfl
  exact⟨λo=>rfl,rfl,by simp[χ.bL,bA]⟩
 have bS:b8 S S B (B++[some (r,0)]) σ (σ++[.map []])->jZ S (B++[some (r,0)]) (σ++[.map []]) (H.bL r (.map #[] 0)) (.map []) (some (r,0)):=λ_=>
  ⟨r,0,#[],0,rfl,by simp[χ.bL],rfl,λi e y J=>by simp at J,λi j y z J=>by simp at J⟩
 obtain⟨J,U,μ⟩:=Α.push (λb N e=>by cases e;exact ι) cF bS;exact π.pure' ⟨_,_,_,_,ζ,U,J,μ,.mp (es:=[]) (N:=0) (CV σ _) (CW Α.len _)⟩
def C7 (T:bb) (ty:TypeId) (ok:Bool) (σ:List Row) (mp k:θ):df:=match vE T ty,mp with
 | some (kt,vt),.mp id=>match σ[id]?,T vt with
  | some (.map es),some Hc=>if n' T kt k=true then match hX T kt k es 0 with
   | some (some (_,a))=>.ok (if ok then .bj [a,.z (.bool true)] else a) σ
   | some none=>.ok (if ok then .bj [hE Hc.zero,.z (.bool false)] else hE Hc.zero) σ
   | none=>.bad else .bad
  | _,_=>.bad
 | _,_=>.bad
theorem zL (Α:Holds S B σ H) {id b N:Nat} {es:List (θ×θ)} (hm:σ[id]?=some (.map es)) (hb:B[id]?=some (some (b,N))):∃xs clock,H.obj b=some (.map xs clock)/\si S B σ es xs clock:=by
 obtain⟨Ψ,e4,xs,clock,e,J,U⟩:=Α.row id _ _ hm hb;cases e;exact⟨xs,clock,J,U⟩
theorem si.xE {es:List (θ×θ)} {xs:Array MapEntry} {clock:Nat} (h:si S B σ es xs clock):vD S B σ es xs.toList:=
 ⟨by simpa using h.1,λi e y J U=>by rw[Array.getElem?_toList] at U;obtain⟨a,b,_⟩:=h.2.1 i e y J U;exact⟨a,b⟩⟩
theorem Uv (Κ:bV P T) (Α:Holds S B σ H) {ty:TypeId} {ok:Bool} {mp k:θ} {u v:Value} (hm:ay S B σ mp u) (ς:ay S B σ k v):cR P (Instr.lookup ty u v ok) S B H σ (C7 T ty ok σ mp k):=by
 unfold C7;split
 ·rename_i kt vt id vF;obtain⟨i,hi,hu⟩:=C6 vF;split
  ·rename_i es Hc bS Uw;split
   ·rename_i oa;cases hm with
    | mp J U=>
     rename_i b N;rw[bS] at J;cases J;obtain⟨xs,clock,nA,hF⟩:=zL Α bS U;have go:∀(r:Option (Nat×θ)) (res:df),hX T kt k es 0=some r->(∀(K:θ->List Row->Prop),res.holds K->∃(x:θ) (y:Value),True/\π P (do
       let (v,Ux) <-match l4 xs.toList 0 r with
        | some (_,v)=>pure (v,true)
        | none=>do pure (<-zeroValue vt,false)
       pure (if ok then .tuple #[v,.bool Ux] else v)) H (jb S B H σ K) (λ_ _=>False))->cR P (Instr.lookup ty (.map (some b)) v ok) S B H σ res:=λr res Υ e6 K ζ=>by
      unfold Instr.lookup;refine π.bind' (Κ.bI hi ?_);rw[hu];refine π.bind' ?_;refine⟨_,nA,rfl,?_⟩;refine π.bind' (π.pure' ?_);refine π.bind' (G9 Κ ς oa ?_);refine π.bind' (Ha Κ ς oa hF.xE Υ ?_);obtain⟨_,_,_,h⟩:=e6 K ζ;cases ω:l4 xs.toList 0 r with
      | none=>rw[ω] at h;exact h
      | some p=>rw[ω] at h;exact h
     split
     ·rename_i bC a Υ;refine go _ _ Υ λK ζ=>⟨a,undef,trivial,?_⟩;obtain⟨_,ag,he,_⟩:=C5 es 0 bC a Υ;have aP:bC<xs.size:=by have:=(cf.1 he).1;rw[<-hF.1];simpa using this
      have Ι:xs[bC]?=some xs[bC]:=fq aP;obtain⟨_,ι,_⟩:=hF.2.1 bC _ _ (by simpa using he) Ι;have ω:l4 xs.toList 0 (some (bC,a))=some (bC,xs[bC].val):=by simp[l4,aP]
      rw[ω];refine π.bind' (π.pure' (π.pure' ?_));cases ok with
      | true=>exact .same Α ζ (xp ι (.z _))
      | false=>exact .same Α ζ ι
     ·rename_i Υ;refine go _ _ Υ λK ζ=>⟨.cH,undef,trivial,?_⟩;refine π.bind' (Κ.zero Uw ?_);refine π.bind' (π.pure' (π.pure' ?_));cases ok with
      | true=>exact .same Α ζ (xp (pP _) (.z _))
      | false=>exact .same Α ζ (pP _)
     ·exact .bad
    | lV v J=>rw[bS] at J;cases J
   ·exact .bad
  ·exact .bad
 ·exact .bad
def zM (T:bb) (ty:TypeId) (σ:List Row) (mp k x:θ):df:=match vE T ty,mp with
 | some (kt,_),.mp id=>match σ[id]? with
  | some (.map es)=>if n' T kt k=true/\ob σ id=true then match hX T kt k es 0 with
   | some (some (i,_))=>.ok .cH (σ.set id (.map (es.set i (k,x))))
   | some none=>.ok .cH (σ.set id (.map (es++[(k,x)])))
   | none=>.bad else .bad
  | _=>.bad
 | _,_=>.bad
theorem Hd (Α:Holds S B σ H) {id b N:Nat} {es es':List (θ×θ)} {xs':Array MapEntry} {clock':Nat} (bS:σ[id]?=some (.map es)) (hb:B[id]?=some (some (b,N))) (k5:ob σ id=true) (dY:∀{B':aV} {σ':List Row},b8 S S B B' σ σ'->si S B' σ' es' xs' clock') :
  Holds S (B.set id (some (b,N))) (σ.set id (.map es')) (H.bL b (.map xs' clock'))/\Ext S B H S (B.set id (some (b,N))) (H.bL b (.map xs' clock'))/\b8 S S B (B.set id (some (b,N))) σ (σ.set id (.map es')):=
 Α.xn bS trivial hb (.inl ⟨es',rfl,rfl⟩) (λΨ e4 e=>.inl ⟨e4,e⟩) (λΨ J _=>by
  have bA:Ψ≠b:=λe=>by subst e;exact J N rfl
  exact⟨λo=>rfl,rfl,by simp[χ.bL,bA]⟩) χ.Gv (Ut k5) λο=>⟨b,N,xs',clock',rfl,by simp[χ.bL],dY ο⟩
theorem Ms (Κ:bV P T) (Α:Holds S B σ H) {ty:TypeId} {mp k x:θ} {u v w:Value} (hm:ay S B σ mp u) (ς:ay S B σ k v) (γ:ay S B σ x w):xq P (Instr.mapUpdate ty u v w) S B H σ (zM T ty σ mp k x):=by
 unfold zM;split
 ·rename_i kt vt id vF;obtain⟨i,hi,hu⟩:=C6 vF;split
  ·rename_i es bS;split
   ·rename_i q6;obtain⟨oa,k5⟩:=q6;cases hm with
    | mp J U=>
     rename_i b N;rw[bS] at J;cases J;obtain⟨xs,clock,nA,hF⟩:=zL Α bS U;split
     ·rename_i bC a Υ;obtain⟨_,ag,he,heq⟩:=C5 es 0 bC a Υ;simp only[Nat.sub_zero] at he;have jc:bC<es.length:=(cf.1 he).1;have aP:bC<xs.size:=by rw[<-hF.1];exact jc
      have Ι:xs[bC]?=some xs[bC]:=fq aP;obtain⟨Uy,gΡ,xF⟩:=hF.2.1 bC _ _ he Ι;obtain⟨Δ,Γ,a2⟩:=Um Κ ς Uy heq;intro K ζ;unfold Instr.mapUpdate;refine π.bind' (Κ.bI hi ?_);rw[hu];refine π.bind' ⟨_,nA,rfl,π.pure' ?_⟩;refine π.bind' (G9 Κ ς oa ?_);refine π.bind' (Ha Κ ς oa hF.xE Υ ?_);have ω:l4 xs.toList 0 (some (bC,a))=some (bC,xs[bC].val):=by simp[l4,aP]
      rw[ω];simp only[Ι,Option.map_some,Option.getD_some];unfold Instr.keyThatStays;rw[<-Δ];simp only[a2,if_true];refine π.bind' (π.pure' ?_);obtain⟨dy,p2,p3⟩:=Hd Α (es':=es.set bC (k,x)) (xs':=xs.modify bC λe=>{e with key:=v,val:=w}) (clock':=clock) bS U k5 λ{B' σ'} ο=>by
       refine⟨by simp[hF.1],λj e y Χ ak=>?_,λj bK y z Χ ak He=>?_⟩
       ·rw[Array.getElem?_modify] at ak;by_cases mG:bC=j
        ·subst mG;rw[List.getElem?_set_self jc] at Χ;rw[if_pos rfl,Ι] at ak;cases Χ;cases ak;exact⟨ς.later ο,γ.later ο,xF⟩
        ·rw[List.getElem?_set_ne mG] at Χ;rw[if_neg mG] at ak;obtain⟨c1,c2,c3⟩:=hF.2.1 j e y Χ ak;exact⟨c1.later ο,c2.later ο,c3⟩
       ·have born:∀(j:Nat) (y:MapEntry),(xs.modify bC λe=>{e with key:=v,val:=w})[j]?=some y->∃C8,xs[j]?=some C8/\y.born=C8.born:=λj y g=>by
         rw[Array.getElem?_modify] at g;by_cases mG:bC=j
         ·subst mG;rw[if_pos rfl,Ι] at g;cases g;exact⟨_,Ι,rfl⟩
         ·rw[if_neg mG] at g;exact⟨y,g,rfl⟩
        obtain⟨C8,c1,c2⟩:=born j y Χ;obtain⟨hV,c3,c4⟩:=born bK z ak;rw[c2,c4];exact hF.2.2 j bK C8 hV c1 c3 He
      exact⟨⟨_,nA⟩,rfl,rfl,π.pure' ⟨S,_,_,_,ζ,p2,dy,p3,.cH _⟩⟩
     ·rename_i Υ;intro K ζ;unfold Instr.mapUpdate;refine π.bind' (Κ.bI hi ?_);rw[hu];refine π.bind' ⟨_,nA,rfl,π.pure' ?_⟩;refine π.bind' (G9 Κ ς oa ?_);refine π.bind' (Ha Κ ς oa hF.xE Υ ?_);simp only[l4,Option.map_none];obtain⟨dy,p2,p3⟩:=Hd Α (es':=es++[(k,x)]) (xs':=xs.push {key:=v,val:=w,born:=clock}) (clock':=clock+1) bS U k5 λ{B' σ'} ο=>by
       refine⟨by simp[hF.1],λj e y Χ ak=>?_,λj bK y z Χ ak He=>?_⟩
       ·by_cases ε:j<es.length
        ·rw[ev ε] at Χ;rw[Array.getElem?_push,if_neg (by rw[<-hF.1];omega)] at ak;obtain⟨c1,c2,c3⟩:=hF.2.1 j e y Χ ak;exact⟨c1.later ο,c2.later ο,R⟩
        ·rw[h6 R] at Χ;have fM:j=es.length:=by
          have:=(cf.1 Χ).1;simp at this;omega
         subst fM;rw[Array.getElem?_push,if_pos hF.1] at ak;simp at Χ;subst Χ;cases ak;exact⟨ς.later ο,γ.later ο,Nat.lt_succ_self _⟩
       ·rw[Array.getElem?_push] at Χ ak;split at Χ
        ·rename_i Δ;split at ak
         ·omega
         ·have:=(Array.getElem?_eq_some_iff.1 ak).1;omega
        ·split at ak
         ·cases ak;have ε:=(Array.getElem?_eq_some_iff.1 Χ).1;have he:∃e,es[j]?=some e:=⟨_,bg (by rw[hF.1];exact ε)⟩;obtain⟨e,he⟩:=he;exact(hF.2.1 j e y he Χ).2.2
         ·exact hF.2.2 j bK y z Χ ak He
      exact⟨⟨_,nA⟩,rfl,rfl,π.pure' ⟨S,_,_,_,ζ,p2,dy,p3,.cH _⟩⟩
     ·exact .bad
    | lV v J=>rw[bS] at J;cases J
   ·exact .bad
  ·exact .bad
 ·exact .bad
end
section
variable {P:Program} {T:bb} {S:aJ} {B:aV} {H:χ} {σ:List Row}
def C9 (T:bb) (ty:TypeId) (σ:List Row) (mp:θ):df:=match vE T ty,mp with
 | some _,.mp id=>match σ[id]? with
  | some (.map es)=>.ok (.it σ.length) (σ++[.iter id es none])
  | _=>.bad
 | _,_=>.bad
theorem Uz (Κ:bV P T) (Α:Holds S B σ H) {ty:TypeId} {mp:θ} {u:Value} (hm:ay S B σ mp u):cR P (Instr.range ty u) S B H σ (C9 T ty σ mp):=by
 unfold C9;split
 ·rename_i zN id vF;obtain⟨i,hi,hu⟩:=C6 (kt:=zN.1) (vt:=zN.2) vF;split
  ·rename_i es bS;cases hm with
   | mp J U=>
    rename_i b N;rw[bS] at J;cases J;obtain⟨xs,clock,nA,hF⟩:=zL Α bS U;intro K ζ;unfold Instr.range;refine π.bind' (Κ.bI hi ?_);rw[hu];refine π.bind' ?_;refine⟨_,nA,rfl,?_⟩;refine π.bind' (π.pure' ?_);refine π.bind' ?_;refine λr ι=>?_;have bA:b≠r:=λe=>by subst e;rw[ι.2.2.1] at nA;cases nA
    have b9:id<σ.length:=(cf.1 bS).1
    have cF:∀Ψ,(∀N,some (r,0)≠some (Ψ,N))->kJ H (H.bL r (.mapIter (some b) clock #[] clock)) Ψ:=λΨ hb=>by
     have bA:Ψ≠r:=λe=>by subst e;exact hb _ rfl
     exact⟨λo=>rfl,rfl,by simp[χ.bL,bA]⟩
    have zl:b8 S S B (B++[some (r,0)]) σ (σ++[.iter id es none])->jZ S (B++[some (r,0)]) (σ++[.iter id es none]) (H.bL r (.mapIter (some b) clock #[] clock)) (.iter id es none) (some (r,0)):=λο=>by
     refine⟨r,0,b,N,xs,clock,#[],rfl,by rw[ev (by rw[Α.len];exact b9)];exact U,⟨es,by rw[ev b9];exact bS⟩,by simp[χ.bL],by simp[χ.bL,bA,nA],⟨xs.toList,?_,by simpa using hF.1,λi e y Χ ak=>?_⟩,λy Ι=>?_,λe he=>by cases he⟩
     ·exact(List.filter_eq_self.2 λe _=>η).symm
     ·obtain⟨c1,c2⟩:=hF.xE.2 i e y Χ ak;exact⟨c1.later ο,c2.later ο⟩
     ·obtain⟨j,ε,rfl⟩:=Array.getElem_of_mem Ι;have he:∃e,es[j]?=some e:=⟨_,bg (by rw[hF.1];exact ε)⟩;obtain⟨e,he⟩:=he;exact(hF.2.1 j e _ he (fq ε)).2.2
    obtain⟨dy,p2,p3⟩:=Α.push (λΨ e4 e=>by cases e;exact ι) cF zl;exact π.pure' ⟨_,_,_,_,ζ,p2,dy,p3,.it (CV σ _) (CW Α.len _)⟩
   | lV v J=>rw[bS] at J;cases J
  ·exact .bad
 ·exact .bad
theorem UA {α:Type} (f:α->Nat):∀(l:List α) (i:Nat) (e:α),(l.map f).Nodup->l[i]?=some e->l.filter (λx=>f x != f e)=l.eraseIdx i:=by
 intro l
 induction l with
 | nil=>intro i e _ h;simp at h
 | cons a l Β=>
  intro i e Ζ h;simp only[List.map_cons,List.nodup_cons] at Ζ;cases i with
  | zero=>
   simp at h;subst h;rw[List.filter_cons];simp only[bne_self_eq_false,Bool.false_eq_true,if_false,List.eraseIdx_cons_zero];rw[List.filter_eq_self];intro x γ;simp only[bne_iff_ne,ne_eq];intro e;exact Ζ.1 (e▸List.mem_map_of_mem γ)
  | succ i=>
   simp only[List.getElem?_cons_succ] at h;have bA:f a≠f e:=λx=>Ζ.1 (x▸List.mem_map_of_mem (cE h));rw[List.filter_cons];simp only[bne_iff_ne,ne_eq,bA,not_false_eq_true,if_true,List.eraseIdx_cons_succ];rw[Β i e Ζ.2 h]
theorem UB {es:List (θ×θ)} {xs:Array MapEntry} {clock:Nat} (h:si S B σ es xs clock):(xs.toList.map (·.born)).Nodup:=by
 rw[List.Nodup,List.pairwise_map,List.pairwise_iff_getElem];intro i j hi ε aP;have:=h.2.2 i j _ _ (fq (by simpa using hi)) (fq (by simpa using ε)) aP;simp only[Array.getElem_toList];omega
def C' (σ:List Row) (it:θ):df:=match it with
 | .it id=>match σ[id]? with
  | some (.iter m left _)=>if left.isEmpty=true then .ok (.bj [.z (.bool false)]) σ else
    .all left.length λi=>match left[i]? with
     | some e=>.ok (.bj [.z (.bool true),e.1,e.2]) (σ.set id (.iter m (left.eraseIdx i) (some e)))
     | none=>.bad
  | _=>.bad
 | _=>.bad
theorem UC {a b c:θ} {u v w:Value} (J:ay S B σ a u) (U:ay S B σ b v) (μ:ay S B σ c w):ay S B σ (.bj [a,b,c]) (.tuple #[u,v,w]):=by
 refine .bj _ rfl λi cz fr Χ ak=>?_
 match i with
 | 0=>simp at Χ ak;subst Χ;subst ak;exact J
 | 1=>simp at Χ ak;subst Χ;subst ak;exact U
 | 2=>simp at Χ ak;subst Χ;subst ak;exact μ
 | i+3=>simp at Χ
theorem UD (Α:Holds S B σ H) {it:θ} {u:Value} (ty:TypeId) (hi:ay S B σ it u):cR P (Instr.next u false ty) S B H σ (C' σ it):=by
 unfold C';split
 ·rename_i id;split
  ·rename_i m left cur bS;cases hi with
   | it J U=>
    rename_i Gy Gz b5 b N;rw[bS] at J;cases J;obtain⟨Ψ,e4,aW,k8,xs,clock,seen,cl,sm,⟨es,zO⟩,sx,vG,⟨cJ,Hf,hlen,Hg⟩,xF,Da⟩:=Α.row id _ _ bS U;cases cl;obtain⟨xs',clock',Mt,hF⟩:=zL Α zO sm;rw[vG] at Mt;cases Mt;have kL:=UB hF;have bA:aW≠b:=λe=>by subst e;rw[sx] at vG;cases vG
    intro K ζ;have UE:(xs.filter λe=>!seen.contains e.born).toList=cJ:=by rw[Hf];simp
    have h7:(!seen.isEmpty&&!xs.isEmpty&&xs.all (λe=>decide (e.born>=clock)))=false:=by
     cases γ:xs.isEmpty with
     | true=>simp
     | false=>
      have pU:0<xs.size:=by
       rw[Array.isEmpty_eq_false_iff] at γ;exact Array.size_pos_iff.2 γ
      have aj:xs.all (λe=>decide (e.born>=clock))=false:=by
       rw[Array.all_eq_false];refine⟨0,pU,?_⟩;have:=xF xs[0] (Array.getElem_mem pU);simp;exact this
      rw[aj];simp
    have UF:∀z:Array MapEntry,z=xs.filter (λe=>!seen.contains e.born)->z.filter (λe=>decide (e.born<clock))=z/\z.filter (λe=>decide (e.born>=clock))=#[]:=λz Τ=>by
     have hb:∀e∈z,e.born<clock:=λe he=>by rw[Τ] at he;exact xF e (Array.mem_of_mem_filter he)
     constructor
     ·rw[Array.filter_eq_self];intro e he;simpa using hb e he
     ·rw[Array.filter_eq_empty_iff];intro e he;simpa using hb e he
    unfold Instr.next;refine π.bind' ?_;refine⟨_,sx,rfl,?_⟩;refine π.pure' ?_;simp only;refine π.bind' ?_;refine⟨_,vG,rfl,?_⟩;refine π.pure' ?_;simp only[h7,Bool.false_eq_true,if_false];generalize Τ:xs.filter (λe=>!seen.contains e.born)=z;obtain⟨f1,f2⟩:=UF z Τ.symm;rw[f1,f2];have k':z.toList=cJ:=by rw[<-Τ];exact UE
    by_cases Db:left.isEmpty=true
    ·have G2:left=[]:=List.isEmpty_iff.1 Db;subst G2;have UG:z=#[]:=by
      have:cJ=[]:=dG.1 (by rw[<-hlen];rfl);rw[this] at k';exact Array.toList_eq_nil_iff.1 k'
     subst UG;have cl:((if(#[]:Array MapEntry).isEmpty=true then #[none] else #[])++Array.map some (#[]++#[]:Array MapEntry))=#[none]:=η;rw[cl];refine π.bind' ?_;show π P (choose (.mapNext 1)) H _ _;unfold choose;simp only[π,Question.forced,Nat.le_refl,decide_true,if_true];exact π.pure' (.same Α ζ (.bj _ rfl λi a v Χ ak=>by
      match i with
      | 0=>simp at Χ ak;subst Χ;subst ak;exact .z _
      | i+1=>simp at Χ))
    ·rw[if_neg Db] at ζ;have q4:z.size=left.length:=by rw[hlen,<-k'];simp
     have UH:z.isEmpty=false:=by
      rw[Array.isEmpty_eq_false_iff];intro e;rw[e] at q4;exact Db (List.isEmpty_iff.2 (dG.1 q4.symm))
     simp only[UH,Bool.false_eq_true,if_false,Array.append_empty,Array.empty_append];refine π.bind' ?_;have fin:∀i,i<left.length->π P (match (z.map some)[i]? with
       | some (some e)=>do
        setObj b (.mapIter (some aW) clock (seen.push e.born) clock)
        pure (.tuple #[.bool true,e.key,e.val])
       | some none=>pure (.tuple #[.bool false])
       | none=>stuck "Next: no such candidate") H (jb S B H σ K) (λ_ _=>False):=λi jc=>by
      have zP:∃pZ,z[i]?=some pZ:=⟨_,fq R⟩;obtain⟨pZ,zP⟩:=zP;have Mu:cJ[i]?=some pZ:=by rw[<-k',Array.getElem?_toList];exact zP
      have iG:∃e,left[i]?=some e:=⟨_,bg jc⟩;obtain⟨le,iG⟩:=iG;rw[Array.getElem?_map,zP];simp only[Option.map_some];have Mv:=ζ i jc;simp only[iG] at Mv;obtain⟨r1,r2⟩:=Hg i _ _ iG Mu;have p0:pZ∈xs:=by
       have:pZ∈z:=Array.mem_of_getElem? zP;rw[<-Τ] at this;exact Array.mem_of_mem_filter this
      have b9:id<σ.length:=(cf.1 bS).1
      have oT:id<B.length:=by rw[Α.len];exact b9
      have Mw:id≠m:=λe=>by subst e;rw[bS] at zO;cases zO
      obtain⟨dy,p2,p3⟩:=Α.xn (H':=H.bL b (.mapIter (some aW) clock (seen.push pZ.born) clock)) (r':=.iter m (left.eraseIdx i) (some le)) (bo':=some (b,N)) bS trivial U (.inl ⟨_,_,rfl,rfl⟩) (λΨ e4 e=>.inl ⟨e4,e⟩) (λΨ Χ _=>by
       have bA:Ψ≠b:=λe=>by subst e;exact Χ N rfl
       exact⟨λo=>rfl,rfl,by simp[χ.bL,bA]⟩) χ.Gv (λj l c ε=>by
       obtain⟨bo,e7⟩:=LW Α ε;obtain⟨_,_,_,_,_,_,_,_,_,⟨n7,Mx⟩,_⟩:=Α.row j _ bo ε e7;rw[bS] at Mx;cases Mx) (λο=>by
       refine⟨b,N,aW,k8,xs,clock,seen.push pZ.born,rfl,by rw[List.getElem?_set_ne Mw];exact sm,⟨es,by rw[List.getElem?_set_ne Mw];exact zO⟩,by simp[χ.bL],by simp[χ.bL,bA,vG],⟨cJ.eraseIdx i,?_,by rw[List.length_eraseIdx,List.length_eraseIdx,hlen],λj e y Χ ak=>?_⟩,xF,λe he=>?_⟩
       ·have km:(cJ.map (·.born)).Nodup:=by
         rw[Hf];exact kL.sublist (List.filter_sublist.map _)
        rw[<-UA (·.born) cJ i pZ km Mu,Hf,List.filter_filter];apply List.filter_congr;intro e _;rw[Array.contains_push,Bool.not_or,Bool.and_comm];congr 1
       ·rw[List.getElem?_eraseIdx] at Χ ak;split at Χ
        ·rename_i aP;rw[if_pos aP] at ak;obtain⟨c1,c2⟩:=Hg j e y Χ ak;exact⟨c1.later ο,c2.later ο⟩
        ·rename_i aP;rw[if_neg aP] at ak;obtain⟨c1,c2⟩:=Hg (j+1) e y Χ ak;exact⟨c1.later ο,c2.later ο⟩
       ·cases he;refine⟨pZ.born,pZ,η,?_,r1.later ο,r2.later ο⟩;rw[<-Array.find?_toList];obtain⟨q,Φ⟩:=List.getElem?_of_mem (show pZ∈xs.toList by simpa using p0);have key:∀(l:List MapEntry) (q:Nat) (e:MapEntry),(l.map (·.born)).Nodup->l[q]?=some e->l.find? (·.born==e.born)=some e:=by
         intro l
         induction l with
         | nil=>intro q e _ h;simp at h
         | cons a l Β=>
          intro q e Ζ h;simp only[List.map_cons,List.nodup_cons] at Ζ;rw[List.find?_cons];cases q with
          | zero=>simp at h;subst h;simp
          | succ q=>
           simp only[List.getElem?_cons_succ] at h;have:(a.born==e.born)=false:=by
            simp only[beq_eq_false_iff_ne,ne_eq];intro x;exact Ζ.1 (x▸List.mem_map_of_mem (cE h))
           rw[this];exact Β q e Ζ.2 h
        exact key xs.toList q _ kL Φ)
      refine π.bind' ?_;refine⟨⟨_,sx⟩,rfl,rfl,?_⟩;refine π.pure' ?_;exact π.pure' ⟨S,_,_,_,Mv,p2,dy,p3,UC (.z _) (r1.later p3) (r2.later p3)⟩
     have cv:(z.map some).size=left.length:=by simp[q4]
     show π P (choose (.mapNext (z.map some).size)) H _ _;unfold choose;simp only[π];have pU:0<left.length:=List.length_pos_iff.2 λe=>Db (List.isEmpty_iff.2 e);split
     ·exact fin 0 pU
     ·intro n;refine fin _ ?_;simp only[Question.cut,cv];exact Nat.mod_lt _ pU
   | nu v J=>rw[bS] at J;cases J
  ·exact .bad
 ·exact .bad
def Dc (σ:List Row) (it:θ):df:=match it with
 | .it id=>match σ[id]? with
  | some (.iter _ _ (some e))=>.ok (.bj [e.1,e.2]) σ
  | _=>.bad
 | _=>.bad
theorem UI (Α:Holds S B σ H) {it:θ} {u:Value} (hi:ay S B σ it u):cR P (Instr.entry u) S B H σ (Dc σ it):=by
 unfold Dc;split
 ·rename_i id;split
  ·rename_i m left e bS;cases hi with
   | it J U=>
    rename_i Gy Gz b5 b N;rw[bS] at J;cases J;obtain⟨Ψ,e4,aW,k8,xs,clock,seen,cl,sm,zO,sx,vG,_,xF,Da⟩:=Α.row id _ _ bS U;cases cl;obtain⟨GB,y,Χ,ak,aY,cy⟩:=Da e rfl;intro K ζ;unfold Instr.entry;refine π.bind' ?_;refine⟨_,sx,rfl,?_⟩;refine π.pure' ?_;simp only[Χ];refine π.bind' ?_;refine⟨_,vG,rfl,?_⟩;refine π.pure' ?_;simp only[bne_self_eq_false,Bool.false_eq_true,if_false,ak];exact π.pure' (.same Α ζ (xp aY cy))
   | nu v J=>rw[bS] at J;cases J
  ·exact .bad
 ·exact .bad
def Dd (T:bb) (ty:TypeId) (σ:List Row) (x:θ):df:=match x with
 | .ms id n i len=>match T ty,σ[id]? with
  | some k6,some (.cells t k l)=>match k6.bI with
   | .slice e=>match T e with
    | some b2=>match b2.zero with
     | .int kd z=>if l.length=n/\k=1/\i+len<=n/\(∀a∈l,a.cells.length=1) then .ok .cH (σ.set id (.cells t k (l.take i++List.replicate len (.z (.int kd z))++l.drop (i+len)))) else .bad
     | _=>.bad
    | none=>.bad
   | _=>.bad
  | _,_=>.bad
 | _=>.bad
theorem UJ (Κ:bV P T) (Α:Holds S B σ H) {ty:TypeId} (rt:TypeId) {x:θ} {u:Value} (hm:ay S B σ x u):cR P (Builtin.clear_ #[ty] rt #[u]) S B H σ (Dd T ty σ x):=by
 unfold Dd;split
 ·rename_i id n i len;split
  ·rename_i k6 t k l UK ο;split
   ·rename_i e hu;split
    ·rename_i b2 eH;split
     ·rename_i kd z Τ;split
      ·rename_i δ;obtain⟨Ζ,rfl,br,_⟩:=δ;have b9:id<σ.length:=(cf.1 ο).1;have oT:id<B.length:=by rw[Α.len];exact b9
       intro K ζ;have same:len=0->jb S B H σ K (.tuple #[]) H:=λcl=>by
        subst cl;have tP:σ.set id (.cells t 1 (l.take i++List.replicate 0 (.z (.int kd z))++l.drop (i+0)))=σ:=by
         rw[List.replicate_zero,List.append_nil,Nat.add_zero,List.take_append_drop];apply List.ext_getElem?;intro j;by_cases mG:id=j
         ·subst mG;rw[List.getElem?_set_self b9,ο]
         ·rw[List.getElem?_set_ne mG]
        simp only[df.holds] at ζ;rw[tP] at ζ;exact⟨S,B,σ,_,ζ,.refl _ _ _,Α,.refl _ _ _,.cH _⟩
       cases hm with
       | jz v J U=>rw[ο] at J;cases J;simp only[Row.hh] at U;omega
       | ms cap J U μ Θ av ba=>
        rename_i bo base;rw[ο] at J;cases J;unfold Builtin.clear_;refine π.bind' (Κ.bI UK ?_);rw[hu];cases base with
        | none=>
         refine π.bind' (π.pure' ?_);have cl:len=0:=by
          rcases ba with ba|⟨b,N,_,hb,_⟩
          ·omega
          ·cases hb
         exact π.pure' (same cl)
        | some a=>
         by_cases cl:len=0
         ·subst cl;refine π.bind' (π.pure' ?_);exact π.pure' (same rfl)
         ·rcases ba with ba|⟨b,N,rfl,hb,ba⟩
          ·omega
          ·cases hb;obtain⟨bS,cm,gm,w,hw⟩:=Α.row id _ _ ο μ;obtain⟨m,rfl⟩:∃m,len=m+1:=⟨len-1,R⟩;simp only;refine π.bind' (Κ.zero eH ?_);rw[Τ];have UL:(Builtin.zeroCells (Value.int kd z).cells (m+1)).toList=List.replicate (m+1) (.int kd z):=by
            simp only[Builtin.zeroCells,Value.cells];rw[Array.toList_map,Array.toList_range];refine List.ext_getElem? λj=>?_;rw[List.getElem?_map,List.getElem?_replicate];by_cases ε:j<m+1
            ·rw[List.getElem?_range (by simpa using ε),if_pos ε];simp[Nat.mod_one]
            ·rw[List.getElem?_eq_none (by simp;omega),if_neg ε];rfl
           rw[UL];have iI:∀(y:Nat) (c:θ),(l.take i++List.replicate (m+1) (θ.z (.int kd z))++l.drop (i+(m+1)))[y]?=some c->(i<=y/\y<i+(m+1)/\c=.z (.int kd z))\/((y<i\/i+(m+1)<=y)/\l[y]?=some c):=λy c Ι=>by
            by_cases c1:y<i
            ·rw[List.append_assoc,ev (by simp;omega),List.getElem?_take_of_lt c1] at Ι;exact .inr ⟨.inl c1,Ι⟩
            ·by_cases c2:y<i+(m+1)
             ·rw[ev (by simp;omega),h6 (by simp;omega),List.getElem?_replicate] at Ι;split at Ι
              ·cases Ι;exact .inl ⟨R,c2,rfl⟩
              ·cases Ι
             ·rw[h6 (by simp;omega),List.getElem?_drop] at Ι;have Δ:i+(m+1)+(y-(l.take i++List.replicate (m+1) (θ.z (.int kd z))).length)=y:=by simp;omega
              rw[Δ] at Ι;exact .inr ⟨.inr R,Ι⟩
           obtain⟨dy,p2,p3⟩:=Α.xn (H':=H.hB b i (List.replicate (m+1) (.int kd z))) (r':=.cells t 1 (l.take i++List.replicate (m+1) (.z (.int kd z))++l.drop (i+(m+1)))) (bo':=some (b,N)) ο trivial μ (.inl ⟨_,rfl,by simp;omega,rfl⟩) (λΨ e4 aQ=>.inl ⟨e4,aQ⟩)
            (λΨ J _=>by
             have bA:Ψ≠b:=λaQ=>by subst aQ;exact J N rfl
             exact⟨λo=>by simp[χ.hB,bA],rfl,rfl⟩) χ.GD (CE Α ο) (λkZ=>by
             refine⟨bS,by simp;omega,λo ω=>?_,λy j=>if i<=y/\y<i+(m+1) then .int kd z else w y j,λy c Ι=>?_⟩
             ·simp only[χ.hB];split
              ·exact⟨_,rfl⟩
              ·exact gm o ω
             ·rcases iI y c Ι with⟨c1,c2,rfl⟩|⟨c1,vd⟩
              ·refine⟨rfl,λj a ε=>?_⟩;have fM:j=0:=by have:=(cf.1 ε).1;simp[θ.cells] at this;omega
               subst fM;simp[θ.cells] at ε;subst ε;simp only[c1,c2,and_self,if_true];refine⟨?_,.z _,trivial⟩;simp only[χ.hB,List.length_replicate];rw[if_pos ⟨trivial,R,R⟩,List.getElem?_replicate,if_pos R];rfl
              ·refine⟨(hw y c vd).1,λj a ε=>?_⟩;obtain⟨Χ,ak,aY⟩:=(hw y c vd).2 j a ε;have fM:j=0:=by have:=(cf.1 ε).1;rw[(hw y c vd).1] at this;omega
               subst fM;have vH:¬(i<=y/\y<i+(m+1)):=R;simp only[vH,if_false];refine⟨?_,ak.later kZ,aY⟩;simp only[χ.hB,List.length_replicate];rw[if_neg R];exact Χ)
           have κ:(⟨b,i*1,none⟩:Addr)=⟨b,i,none⟩:=by rw[Nat.mul_one]
           rw[κ];refine π.bind' ?_;refine π.storeCells (G:=H) rfl ⟨t,N,bS⟩ _ 0 H (λv hv=>by rw[List.eq_of_mem_replicate hv];trivial) (λj _ ε=>?_) rfl ?_
           ·rw[List.length_replicate] at ε;obtain⟨bX,xD⟩:=gm (i+j) R;exact⟨bX,xD⟩
           ·exact π.pure' ⟨S,_,_,_,ζ,p2,dy,p3,.cH _⟩
      ·exact .bad
     ·exact .bad
    ·exact .bad
   ·exact .bad
  ·exact .bad
 ·exact .bad
def De (T:bb) (ty:TypeId) (σ:List Row) (mp:θ):df:=match vE T ty,mp with
 | some _,.mp id=>match σ[id]? with
  | some (.map _)=>if ob σ id=true then .ok .cH (σ.set id (.map [])) else .bad
  | _=>.bad
 | _,_=>Dd T ty σ mp
theorem UM (Κ:bV P T) (Α:Holds S B σ H) {ty:TypeId} (rt:TypeId) {mp:θ} {u:Value} (hm:ay S B σ mp u):cR P (Builtin.clear_ #[ty] rt #[u]) S B H σ (De T ty σ mp):=by
 unfold De;split
 ·rename_i zN id vF;obtain⟨i,hi,hu⟩:=C6 (kt:=zN.1) (vt:=zN.2) vF;split
  ·rename_i es bS;split
   ·rename_i k5;cases hm with
    | mp J U=>
     rename_i b N;rw[bS] at J;cases J;obtain⟨xs,clock,nA,hF⟩:=zL Α bS U;obtain⟨dy,p2,p3⟩:=Hd Α (es':=[]) (xs':=#[]) (clock':=clock) bS U k5 λ_=>⟨rfl,λi e y J=>by simp at J,λi j y z J=>by simp at J⟩;intro K ζ;unfold Builtin.clear_;refine π.bind' (Κ.bI hi ?_);rw[hu];refine π.bind' ?_;refine⟨_,nA,rfl,?_⟩;refine π.pure' ?_;refine⟨⟨_,nA⟩,rfl,rfl,?_⟩;exact π.pure' ⟨S,_,_,_,ζ,p2,dy,p3,.cH _⟩
    | lV v J=>rw[bS] at J;cases J
   ·exact .bad
  ·exact .bad
 ·exact UJ Κ Α rt hm
end
def vI (T:bb) (op:BinOp) (ty:TypeId) (a b:θ):cK:=match aeqv T ty a b with
 | some r=>match op with
  | .eql=>.ok (.z (.bool r))
  | .neq=>.ok (.z (.bool !r))
  | _=>.bad
 | none=>.bad
def Df (T:bb) (op:BinOp) (ty:TypeId) (a b:θ):cK:=match a,b with
 | .z x,.z y=>match so op x y with
  | .ok v=>.ok v
  | .b' p r=>.b' p r
  | .bad=>vI T op ty (.z x) (.z y)
 | .a5 x,.a5 y=>vI T op ty (.a5 x) (.a5 y)
 | _,_=>.bad
def Dg (T:bb) (ty:TypeId) (x bC:θ):cK:=match T ty with
 | some i=>match i.bI,x,bC with
  | .string,.z (.string s),.z (.int _ n)=>.b' (0<=n/\n<s.size) (.ok (.z (.int .u8 (s.data.toList.getD n.toNat 0).toNat)))
  | .array len e,.a5 xs,.z (.int _ n)=>match T e with
   | some b2=>if b2.agg=false/\b2.size=1/\xs.length=len then .b' (0<=n/\n<len) (.ok (xs.getD n.toNat .cH)) else .bad
   | none=>.bad
  | _,_,_=>.bad
 | none=>.bad
def Dh (x:θ):cK:=match x with
 | .ao c=>.ok (.ao c)
 | .fn (.func f) a b=>.ok (.fn (.func f) a b)
 | .z (.pointer (some a))=>.ok (.z (.pointer (some a)))
 | _=>.bad
def vJ (σ:List Row) (x:θ):df:=match x with
 | .ar id n i j=>match σ[id]? with
  | some (.cells _ _ l)=>if l.length=n then .ok (.ar id n i j) σ else .bad
  | _=>.bad
 | _=>.bad
def Di (T:bb) (arr:TypeId) (x:θ):cK:=match T arr with
 | some i=>match i.bI,x with
  | .array n _,.sl _ k l=>if 0<n/\k=1/\(l.all λe=>decide (e.cells.length=1)&&θ.a' [] e)=true then .b' (n<=l.length) (.ok (.ao (l.take n))) else .bad
  | _,_=>.bad
 | none=>.bad
def sy:List θ->Option (List Int)
 | []=>some []
 | .z (.int .i32 n)::r=>(sy r).map (n::·)
 | _=>none
def spell (l:List Int):ByteArray:=l.foldl (λs n=>s++Utf8.encode n) .empty
def zQ (T:bb) (ty:TypeId):Bool:=match T ty with
 | some i=>match i.bI with
  | .slice e=>match T e with|some b2=>(match b2.bI with|.int .i32=>true|_=>false)&&b2.size==1|none=>false
  | _=>false
 | none=>false
def zR (T:bb) (ty:TypeId):Bool:=match T ty with|some i=>(match i.bI with|.string=>true|_=>false)|none=>false
def tS (T:bb) (src dst:TypeId) (σ:List Row) (x:θ):cK:=if zQ T src=true/\zR T dst=true then match pT σ x with
 | some (k,l)=>if k=1\/l.isEmpty=true then match sy l with|some r=>.ok (.z (.string (spell r)))|none=>.bad else .bad
 | none=>.bad else .bad
def Dj (T:bb) (src dst:TypeId) (x:θ):cK:=if zR T src=true/\zQ T dst=true then match x with
 | .z (.string s)=>.ok (.sl false 1 ((Conv.runesFrom s s.size 0 #[]).toList.map .z))
 | _=>.bad else .bad
section
variable {P:Program} {T:bb} {S:aJ} {B:aV} {H:χ} {σ:List Row}
theorem UN {op:BinOp} {ty:TypeId} {p q:Operand} {vs ws:Array Value} (Ξ:P.eqGuardType P.depth ty=false) {G:χ} {K:Unit->χ->Prop} {E:Value->χ->Prop} (ς:K () G):π P (eqGuard op ty p q (.agg vs) (.agg ws)) G K E:=by
 cases op<;>first|exact π.pure' ς|skip
 all_goals
  unfold eqGuard;simp only[Bool.not_true,Bool.false_eq_true,if_false];refine π.bind' ?_;show π P _ G K E;refine π.bind' ?_;show π P _ G K E;rw[if_pos (by rw[Ξ];rfl)];exact π.pure' ς
theorem My (Κ:bV P T) (Α:Holds S B σ H) {op:BinOp} {ty:TypeId} {p q:Operand} {a b:θ} {v w:Value} (κ:ay S B σ a v) (hb:ay S B σ b w) (Mz:∀r,aeqv T ty a b=some r->(op=.eql\/op=.neq)->∀(K:Unit->χ->Prop),K () H->π P (eqGuard op ty p q v w) H K (λ_ _=>False))
  (UO:∀r,aeqv T ty a b=some r->(binOp .eql ty v w=(do pure (.bool (<-Op.equal ty v w)))/\binOp .neq ty v w=(do pure (.bool (!(<-Op.equal ty v w)))))) :
  cR P (do eqGuard op ty p q v w;binOp op ty v w) S B H σ ((vI T op ty a b).dE σ):=by
 unfold vI;split
 ·rename_i r ι;obtain⟨J,U⟩:=UO r ι;split
  ·intro K ζ;refine π.bind' (Mz r ι (.inl rfl) _ ?_);rw[J];exact π.bind' (G8 Κ κ hb ι (π.pure' (.same Α ζ (.z _))))
  ·intro K ζ;refine π.bind' (Mz r ι (.inr rfl) _ ?_);rw[U];exact π.bind' (G8 Κ κ hb ι (π.pure' (.same Α ζ (.z _))))
  ·exact .bad
 ·exact .bad
theorem UP (Κ:bV P T) (Α:Holds S B σ H) (op:BinOp) (ty:TypeId) (p q:Operand) {a b:θ} {v w:Value} (κ:ay S B σ a v) (hb:ay S B σ b w):cR P (do eqGuard op ty p q v w;binOp op ty v w) S B H σ ((Df T op ty a b).dE σ):=by
 unfold Df;split
 ·rename_i x y;have Τ:=Tz (P:=P) Α op ty p q v w;cases κ;cases hb;split
  ·rename_i r ι;rw[ι] at Τ;exact Τ
  ·rename_i pp r ι;rw[ι] at Τ;exact Τ
  ·rename_i xG;have ia:∀r,aeqv T ty (.z v) (.z w)=some r->(∃c d,v=.bool c/\w=.bool d)\/¬(op=.eql\/op=.neq):=λr ι=>by
    unfold aeqv at ι;split at ι<;>try cases ι
    simp only at ι;split at ι<;>try cases ι
    unfold mJ at ι;split at ι
    ·split at ι
     ·rename_i e;subst e;refine .inr λω=>?_;rcases ω with rfl|rfl<;>simp[so] at xG
     ·cases ι
    ·refine .inr λω=>?_;rcases ω with rfl|rfl<;>simp[so] at xG
    ·exact .inl ⟨_,_,rfl,rfl⟩
    ·cases ι
   by_cases Μ:op=.eql\/op=.neq
   ·by_cases ι:∃r,aeqv T ty (.z v) (.z w)=some r
    ·obtain⟨r,ι⟩:=ι;rcases ia r ι with⟨c,d,rfl,rfl⟩|h
     ·exact My Κ Α (.z _) (.z _) (λ_ _ _ K ζ=>by unfold eqGuard;split<;>exact π.pure' ζ) (λ_ _=>⟨rfl,rfl⟩)
     ·exact absurd Μ h
    ·have:aeqv T ty (.z v) (.z w)=none:=by
      cases h:aeqv T ty (.z v) (.z w) with
      | none=>rfl
      | some r=>exact absurd ⟨r,h⟩ ι
     unfold vI;rw[this];exact .bad
   ·unfold vI;split
    ·split
     ·exact absurd (.inl rfl) Μ
     ·exact absurd (.inr rfl) Μ
     ·exact .bad
    ·exact .bad
 ·rename_i x y;cases κ with
  | a5 vs Χ ak=>cases hb with
   | a5 ws k1 cN=>
    refine My Κ Α (.a5 vs Χ ak) (.a5 ws k1 cN) (λr ι _ K ζ=>?_) (λ_ _=>⟨rfl,rfl⟩);have Ξ:P.eqGuardType P.depth ty=false:=by
     unfold aeqv at ι;split at ι<;>try cases ι
     rename_i i hi;simp only at ι;split at ι<;>try cases ι
     rename_i items dA;have:=(Κ ty i hi).1.2;rw[dA] at this;exact this.1
    exact UN Ξ ζ
 ·exact .bad
theorem UQ (Κ:bV P T) (Α:Holds S B σ H) (ty:TypeId) {x bC:θ} {v w:Value} (γ:ay S B σ x v) (hi:ay S B σ bC w):cR P (Instr.index ty v w) S B H σ ((Dg T ty x bC).dE σ):=by
 unfold Dg;cases Ν:T ty with
 | none=>exact .bad
 | some i=>
  simp only;split
  ·rename_i s kk n hu;cases γ;cases hi;refine cR.b' (r:=(cK.ok (.z (.int .u8 (s.data.toList.getD n.toNat 0).toNat))).dE σ) λΖ K ζ=>?_;unfold Instr.index;refine π.bind' (π.pure' ?_);refine π.bind' (Κ.bI Ν ?_);rw[hu];have aP:n.toNat<s.data.size:=by have:s.size=s.data.size:=rfl;omega
   have Δ:(if 0<=n then s[n.toNat]? else none)=some s.data[n.toNat]:=by
    rw[if_pos Ζ.1];show s[n.toNat]?=_;rw[getElem?_pos s n.toNat R];rfl
   simp only[Δ];have Γ:s.data.toList.getD n.toNat 0=s.data[n.toNat]:=by rw[List.getD_eq_getElem?_getD,Array.getElem?_toList,fq aP];rfl
   rw[Γ] at ζ;exact π.pure' (.same Α ζ (.z _))
  ·rename_i len e xs kk n hu;cases hi;split
   ·rename_i b2 eH;split
    ·rename_i δ;obtain⟨c1,c2,c3⟩:=δ;refine cR.b' (r:=(cK.ok (xs.getD n.toNat .cH)).dE σ) λΖ K ζ=>?_;cases γ with
     | a5 vs Χ ak=>
      unfold Instr.index;refine π.bind' (π.pure' ?_);refine π.bind' (Κ.bI Ν ?_);rw[hu];simp only[Ζ,and_self,if_true];refine π.bind' (Κ.size eH ?_);rw[c2,Nat.mul_one];unfold part;refine π.bind' (Κ.agg eH ?_);rw[c1];have aP:n.toNat<xs.length:=R;have hv:n.toNat<vs.size:=by rw[<-Χ];exact aP
      simp only[Bool.false_eq_true,if_false,fq hv];have Γ:xs.getD n.toNat .cH=xs[n.toNat]:=by simp[aP]
      rw[Γ] at ζ;exact π.pure' (.same Α ζ (ak _ _ _ (bg aP) (fq hv)))
    ·exact .bad
   ·exact .bad
  ·exact .bad
theorem UR (Α:Holds S B σ H) {ρ:Operand->Value} {o:Oper} {x:Operand} (ω:o.op=.nilCheck x) {a:θ} (κ:ay S B σ a (ρ x)):Does P (execOp ρ o) S B H σ ((Dh a).dE σ):=by
 unfold Dh;split
 ·unfold execOp;rw[ω];simp only;generalize ρ x=v at κ;cases κ with
  | ao b o w J U=>exact Does.val Α (.ao b o w J U)
 ·unfold execOp;rw[ω];simp only;generalize ρ x=v at κ;cases κ with
  | fn vs ws J U μ Θ=>exact Does.val Α (.fn vs ws J U μ Θ)
 ·unfold execOp;rw[ω];simp only;generalize ρ x=v at κ;cases κ;exact Does.val Α (.z _)
 ·exact .bad
theorem US (Α:Holds S B σ H) {ρ:Operand->Value} {o:Oper} {x:Operand} (ω:o.op=.nilCheck x) {a:θ} (κ:ay S B σ a (ρ x)):Does P (execOp ρ o) S B H σ (vJ σ a):=by
 unfold vJ;split
 ·split
  ·rename_i t k l ο;split
   ·rename_i Ζ;unfold execOp;rw[ω];simp only;generalize ρ x=v at κ;cases κ with
    | ar J U μ=>exact Does.val Α (.ar J U μ)
    | jY v J U=>rw[ο] at J;cases J;simp only[Row.hh] at U;omega
   ·exact .bad
  ·exact .bad
 ·exact .bad
theorem UT (Κ:bV P T) (Α:Holds S B σ H) (arr:TypeId) {x:θ} {v:Value} (γ:ay S B σ x v):cR P (Instr.arrayAt arr v) S B H σ ((Di T arr x).dE σ):=by
 unfold Di;cases Ν:T arr with
 | none=>exact .bad
 | some i=>
  simp only;split
  ·rename_i n e ex k l hu;split
   ·rename_i δ;obtain⟨c1,c2,c3⟩:=δ;subst c2;refine cR.b' (r:=(cK.ok (.ao (l.take n))).dE σ) λΖ K ζ=>?_;obtain⟨base,cap,rfl,_,_,μ⟩:=q2 γ;obtain⟨b,o,w,rfl,Θ,av,ba⟩:=μ (λe=>by subst e;simp at Ζ;omega);unfold Instr.arrayAt;refine π.bind' (Κ.bI Ν ?_);rw[hu];simp only;rw[if_neg R];rw[List.all_eq_true] at c3;have el:∀(j:Nat) (e:θ),(l.take n)[j]?=some e->l[j]?=some e/\e.cells=[e]:=λj e ε=>by
     have hm:=c3 e (List.mem_of_mem_take (cE ε));simp only[Bool.and_eq_true] at hm;rw[List.getElem?_take] at ε;split at ε
     ·exact⟨ε,θ.GJ hm.2⟩
     ·cases ε
    refine π.pure' (.same Α ζ (.ao b o (λj=>w j 0) (λj a ε=>?_) (λj a ε=>?_)))
    ·obtain⟨Χ,ak⟩:=el j a ε;have:=av j a Χ 0 a (by rw[ak];rfl);simpa using this
    ·obtain⟨Χ,ak⟩:=el j a ε;exact ba j a Χ 0 a (by rw[ak];rfl)
   ·exact .bad
  ·exact .bad
theorem MA {ty:TypeId} (h:zQ T ty=true):∃i e b2,T ty=some i/\i.bI=.slice e/\T e=some b2/\b2.bI=.int .i32/\b2.size=1:=by
 unfold zQ at h;split at h
 ·rename_i i hi;split at h
  ·rename_i e hu;split at h
   ·rename_i b2 eH;simp only[Bool.and_eq_true,beq_iff_eq] at h;refine⟨i,e,b2,hi,hu,eH,?_,h.2⟩;have:=h.1;split at this
    ·assumption
    ·cases this
   ·cases h
  ·cases h
 ·cases h
theorem MB {ty:TypeId} (h:zR T ty=true):∃i,T ty=some i/\i.bI=.string:=by
 unfold zR at h;split at h
 ·rename_i i hi;refine⟨i,hi,?_⟩;split at h
  ·assumption
  ·cases h
 ·cases h
theorem UU (Κ:bV P T) (Α:Holds S B σ H) (src dst:TypeId) {x:θ} {v:Value} (γ:ay S B σ x v):cR P (convert src dst v) S B H σ ((Dj T src dst x).dE σ):=by
 unfold Dj;split
 ·rename_i δ;obtain⟨i,hi,hu⟩:=MB δ.1;obtain⟨j,e,b2,ε,Hh,eH,Hi,cv⟩:=MA δ.2;split
  ·rename_i s;cases γ;intro K ζ;unfold convert;refine π.bind' (Κ.bI hi (π.bind' (Κ.bI ε ?_)));rw[hu,Hh];simp only;refine π.bind' (Κ.bI eH ?_);rw[Hi];simp only;unfold Conv.stringToRunes;refine π.bind' ?_;unfold choose;simp only[π];have Φ:(Question.appendCap (Conv.runesFrom s s.size 0 #[]).size 0 e).forced=false:=rfl;rw[Φ];simp only[Bool.false_eq_true,if_false];intro q;generalize Hj:Conv.runesFrom s s.size 0 #[]=lZ at ζ ⊢;have xu:lZ.size<=(Question.appendCap lZ.size 0 e).cut q:=by simp[Question.cut]
   refine π.bind' (π.bind' ?_);have UW:∀v∈lZ,One v:=by
    have key:∀(bound i:Nat) (acc:Array Value),(∀v∈acc,One v)->∀v∈Conv.runesFrom s bound i acc,One v:=by
     intro bound
     induction bound with
     | zero=>intro i acc h;exact h
     | succ n Β=>
      intro i acc h;unfold Conv.runesFrom;split
      ·refine Β _ _ λv hv=>?_;rcases Array.mem_push.1 hv with hv|rfl
       ·exact h v hv
       ·trivial
      ·exact h
    rw[<-Hj];exact key _ _ _ (λv hv=>by simp at hv)
   have zI:fZ S B σ (lZ++Array.replicate ((Question.appendCap lZ.size 0 e).cut q-lZ.size) (.int .i32 0)) 1 (lZ.toList.map .z):=by
    refine⟨η,λj a ε=>?_⟩;rw[List.getElem?_map,Array.getElem?_toList] at ε;cases γ:lZ[j]? with
    | none=>rw[γ] at ε;cases ε
    | some y=>
     rw[γ] at ε;cases ε;refine⟨rfl,λz b Τ=>?_⟩
     match z with
     | 0=>
      simp[θ.cells] at Τ;subst Τ;refine⟨y,?_,.z y,UW y (Array.mem_of_getElem? γ)⟩;have:=(Array.getElem?_eq_some_iff.1 γ).1;rw[Array.getElem?_append_left (by simpa using this)];simpa using γ
     | z+1=>simp[θ.cells] at Τ
   refine zD Α _ e λr J U μ=>π.pure' (π.pure' ⟨_,_,_,_,ζ,U,J,μ,?_⟩);have:=CH (cap:=(Question.appendCap lZ.size 0 e).cut q) false μ zI (by simpa using xu) η;simpa using this
  ·exact .bad
 ·exact .bad
theorem UX:∀(l:List θ) (r:List Int),sy l=some r->r.length=l.length/\∀(i:Nat) (n:Int),r[i]?=some n->l[i]?=some (.z (.int .i32 n)):=by
 intro l
 induction l with
 | nil=>intro r h;cases h;exact⟨rfl,λi n h=>by simp at h⟩
 | cons a l Β=>
  intro r h;unfold sy at h;split at h
  ·rename_i heq;cases heq
  ·rename_i n eg heq;cases heq;cases ο:sy l with
   | none=>rw[ο] at h;cases h
   | some r'=>
    rw[ο] at h;cases h;obtain⟨J,U⟩:=Β r' ο;refine⟨by simp[J],λi m hm=>?_⟩;cases i with
    | zero=>simp at hm;subst hm;rfl
    | succ i=>exact U i m (by simpa using hm)
  ·cases h
theorem UY (Κ:bV P T) (Α:Holds S B σ H) (src dst:TypeId) {x:θ} {v:Value} (γ:ay S B σ x v):cR P (convert src dst v) S B H σ ((tS T src dst σ x).dE σ):=by
 unfold tS;split
 ·rename_i δ;obtain⟨i,e,b2,hi,hu,eH,Hi,cv⟩:=MA δ.1;obtain⟨j,ε,Hh⟩:=MB δ.2;split
  ·rename_i k l ο;split
   ·rename_i ς;split
    ·rename_i r ι;obtain⟨base,cap,w,rfl,_,Hk,Hj⟩:=CS Α γ (k:=1) ο R (ς.symm);obtain⟨lP,UZ⟩:=UX l r ι;intro K ζ;unfold convert;refine π.bind' (Κ.bI hi (π.bind' (Κ.bI ε ?_)));rw[hu,Hh];have hw:∀i,i<l.length->w i=.int .i32 (r.getD i 0):=λi jc=>by
      have MC:r[i]?=some r[i]:=bg R
      have:=(Hj i _ (UZ i _ MC)).2 0 _ rfl;rw[Nat.mul_one,Nat.add_zero] at this;rw[List.getD_eq_getElem?_getD,MC];generalize w i=u at this;cases this;rfl
     have go:π P (Conv.runesToString (.slice base l.length cap)) H (jb S B H σ K) (λ_ _=>False):=by
      unfold Conv.runesToString;rw[Nat.mul_one] at Hk;cases base with
      | none=>
       simp only;rcases Hk with aj|⟨b,o,hb,_⟩
       ·have:r=[]:=dG.1 (by rw[lP,aj]);subst this;exact π.pure' (.same Α ζ (.z _))
       ·cases hb
      | some a=>
       simp only;have fold:∀(rs:List Int) (acc:ByteArray),π P (forIn (rs.map λn=>Value.int .i32 n) acc λ(c:Value) (s:ByteArray)=>do
         let .int .i32 n:=c|stuck "runesToString: rune expected"
         pure (ForInStep.yield (s++Utf8.encode n))) H (λs H'=>s=rs.foldl (λs n=>s++Utf8.encode n) acc/\H'=H) (λ_ _=>False):=by
        intro rs
        induction rs with
        | nil=>intro acc;exact .forIn_nil ⟨rfl,rfl⟩
        | cons n rs Β=>
         intro acc;rw[List.map_cons];refine .forIn_cons ?_;exact π.pure' (Β (acc++Utf8.encode n))
       have cells:π P (loadCells a l.length) H (λvs H'=>vs=(r.map λn=>Value.int .i32 n).toArray/\H'=H) (λ_ _=>False):=by
        rcases Hk with aj|⟨b,o,hb,G3⟩
        ·rw[aj];have:r=[]:=dG.1 (by rw[lP,aj]);subst this;exact π.pure' ⟨rfl,rfl⟩
        ·cases hb;refine π.loadCells w rfl G3 ⟨?_,rfl⟩;congr 1;apply List.ext_getElem?;intro i;rw[List.getElem?_map,List.getElem?_map];by_cases jc:i<l.length
         ·rw[List.getElem?_range jc,bg (show i<r.length by omega)];simp only[Option.map_some];rw[hw i jc,List.getD_eq_getElem?_getD,bg (show i<r.length by omega)];rfl
         ·rw[List.getElem?_eq_none (by simp;omega),List.getElem?_eq_none R];rfl
       refine π.bind' (π.mono (λvs H' ⟨Δ,Γ⟩=>?_) (λ_ _ h=>h) _ cells);subst Δ;subst Γ;rw[<-Array.forIn_toList];refine π.bind' (π.mono (λs H' ⟨Δ,Γ⟩=>?_) (λ_ _ h=>h) _ (fold r .empty));subst Δ;subst Γ;exact π.pure' (.same Α ζ (.z _))
     have:π P (do
      match <-underlying e with
      | .int .u8=>Conv.bytesToString (.slice base l.length cap)
      | .int .i32=>Conv.runesToString (.slice base l.length cap)
      | _=>stuck "Convert: a slice of what to string?") H (jb S B H σ K) (λ_ _=>False):=by
      refine π.bind' (Κ.bI eH ?_);rw[Hi];exact go
     cases base<;>exact this
    ·exact .bad
   ·exact .bad
  ·exact .bad
 ·exact .bad
end
def Dk (σ:List Row):df:=.all 2 λj=>.ok (.z (.bool (j==1))) σ
def Dl (T:bb) (ty:TypeId) (σ:List Row) (a:θ):df:=match T ty with
 | some i=>match i.bI with
  | .slice _=>match a with
   | .ms id n i len=>match σ[id]? with
    | some (.cells _ _ l)=>if l.length=n/\i+len<=n then(if len=0 then Dk σ else .ok (.z (.bool false)) σ) else .bad
    | _=>.bad
   | .sl _ _ l=>if l.isEmpty then Dk σ else .ok (.z (.bool false)) σ
   | _=>.bad
  | _=>.bad
 | none=>.bad
section
variable {P:Program} {T:bb} {S:aJ} {B:aV} {H:χ} {σ:List Row}
theorem zS (Κ:bV P T) (Α:Holds S B σ H) {ty:TypeId} {i:iH} (hi:T ty=some i) {e:TypeId} (hu:i.bI=.slice e) (p q:Operand) (base:Option Addr) (len cap:Nat) {dE:df}
  (U0:∀K,dE.holds K->K (.z (.bool base.isNone)) σ):cR P (do eqGuard .eql ty p q (.slice base len cap) (.slice none 0 0);binOp .eql ty (.slice base len cap) (.slice none 0 0)) S B H σ dE:=by
 intro K ζ;have ζ:=U0 K ζ;refine π.bind' ?_;unfold eqGuard;refine π.pure' ?_;have U1:binOp .eql ty (.slice base len cap) (.slice none 0 0)=(do pure (Value.bool (<-Op.equal ty (.slice base len cap) (.slice none 0 0)))):=rfl;rw[U1];refine π.bind' ?_;unfold Op.equal;unfold Op.equalIn;refine π.bind' (Κ.bI hi ?_);rw[hu];cases base with
 | none=>exact π.pure' (π.pure' (.same Α ζ (.z _)))
 | some b=>exact π.pure' (π.pure' (.same Α ζ (.z _)))
theorem Hl {K:θ->List Row->Prop} (h:(Dk σ).holds K) (b:Bool):K (.z (.bool b)) σ:=by
 cases b
 ·exact h 0 bu
 ·exact h 1 bu
theorem U2 (Κ:bV P T) (Α:Holds S B σ H) (ty:TypeId) (p q:Operand) {a:θ} {v:Value} (κ:ay S B σ a v):cR P (do eqGuard .eql ty p q v (.slice none 0 0);binOp .eql ty v (.slice none 0 0)) S B H σ (Dl T ty σ a):=by
 unfold Dl;split
 ·rename_i i hi;split
  ·rename_i e hu;split
   ·rename_i id n j len;split
    ·rename_i t k l ι;split
     ·rename_i δ;cases κ with
      | @ms _ _ _ _ _ _ _ bo base cap J U μ Θ av ba=>
       split
       ·exact zS Κ Α hi hu p q base len cap λK ζ=>Hl ζ _
       ·rename_i hlen;refine zS Κ Α hi hu p q base len cap λK ζ=>?_;rcases ba with ba|⟨b,N,_,gZ,_⟩
        ·omega
        ·rw[gZ];exact ζ
      | jz v J U=>
       rw[ι] at J;cases J;exact absurd δ.1 (Nat.ne_of_gt U)
     ·exact .bad
    ·exact .bad
   ·rename_i l;cases κ with
    | i' base cap J=>exact zS Κ Α hi hu p q base 0 cap λK ζ=>Hl ζ _
    | sl b o cap w J U=>
     split
     ·exact zS Κ Α hi hu p q _ _ cap λK ζ=>Hl ζ _
     ·exact zS Κ Α hi hu p q _ _ cap λK ζ=>ζ
   ·exact .bad
  ·exact .bad
 ·exact .bad
end
def cK.or (r:cK) (σ:List Row) (s:df):df:=match r with
 | .ok a=>.ok a σ
 | .b' p r=>.b' p (r.dE σ)
 | .bad=>s
def p1 (A:List Nat) (d:Option Tmp):Bool:=match d with|some d=>A.contains d|none=>false
def sz (env:Ω) (c5:Array (Nat×Operand)):List (Nat×θ):=c5.toList.map λp=>(p.1,aU env p.2)
def xH (c a b:θ):cK:=match c with
 | .z (.bool v)=>match a,b with
  | .z (.bool x),.z (.bool y)=>.ok (.z (.bool (bif v then x else y)))
  | _,_=>match v with|true=>.ok a|false=>.ok b
 | _=>.bad
def sA (T:bb) (σ:List Row) (src dst:TypeId) (x:θ):cK:=match xy T src dst x with
 | .bad=>match Dj T src dst x with
  | .bad=>tS T src dst σ x
  | r=>r
 | r=>r
def mK (T:bb) (A:List Nat) (env:Ω) (o:Oper):cK:=
 match o.op with
 | .move x=>.ok (aU env x)
 | .assign x=>.ok (aU env x)
 | .pick c a b=>xH (aU env c) (aU env a) (aU env b)
 | .alloc ty=>if p1 A o.dst then .bad else CK T ty
 | .box _ x=>if p1 A o.dst then .bad else xv (aU env x)
 | .build ty c5=>ny T (θ.a' []) ty (sz env c5)
 | .buildSlice ty n c5=>if p1 A o.dst then .bad else zF T (θ.a' []) ty n (sz env c5)
 | .load ty x=>Cz T ty (aU env x)
 | .binOp op ty x y _=>Df T op ty (aU env x) (aU env y)
 | .unOp op _ x=>xo op (aU env x)
 | .convert s d x=>sA T [] s d (aU env x)
 | .index ty x i=>Dg T ty (aU env x) (aU env i)
 | .nilCheck x=>Dh (aU env x)
 | .sliceToArrayPointer ty x=>Di T ty (aU env x)
 | .makeInterface ty x=>Cy T ty (aU env x)
 | .makeFunc f dh cs=>.ok (.fn f (dh.toList.map (aU env)) (cs.toList.map (aU env)))
 | .makeSlice ty n c=>if p1 A o.dst then .bad else CP T ty (aU env n) (aU env c)
 | .slice ty x lo hi none=>CZ T ty (aU env x) (lo.map (aU env)) (hi.map (aU env))
 | .fieldAddr ty x f=>CB T ty f (aU env x)
 | .indexAddr ty x i=>CD T ty (aU env x) (aU env i)
 | .typeAssert x _ ty ok=>vu T ty ok (aU env x)
 | .extract x i=>Cx i (aU env x)
 | .call ⟨.builtin b,⟨[x]⟩,⟨[ty]⟩⟩=>match b with
  | .len=>C1 T ty (aU env x)
  | _=>.bad
 | .call ⟨.builtin b,⟨[x,y]⟩,⟨[tT,ty]⟩⟩=>match b with
  | .max=>C3 [aU env x,aU env y]
  | .append=>if p1 A o.dst then .bad else ss T tT ty (θ.a' []) [] (aU env x) (aU env y)
  | _=>.bad
 | _=>.bad
def kM (T:bb) (A:List Nat) (env:Ω) (σ:List Row) (o:Oper):df:=
 match o.op with
 | .alloc ty=>if p1 A o.dst then CJ T ty σ else .bad
 | .box ty x=>if p1 A o.dst then xw ty σ (aU env x) else CI σ (aU env x)
 | .build ty c5=>(ny T (θ.a' σ) ty (sz env c5)).dE σ
 | .buildSlice ty n c5=>if p1 A o.dst then CN T ty n (sz env c5) σ else(zF T (θ.a' σ) ty n (sz env c5)).dE σ
 | .load ty x=>vv T ty σ (aU env x)
 | .store ty p x=>CF T ty σ (aU env p) (aU env x)
 | .convert s d x=>(sA T σ s d (aU env x)).dE σ
 | .nilCheck x=>vJ σ (aU env x)
 | .binOp .eql ty x (.const (.slice none 0 0)) _=>Dl T ty σ (aU env x)
 | .makeMap _ none=>Hb σ
 | .mapUpdate ty m k x=>zM T ty σ (aU env m) (aU env k) (aU env x)
 | .insert ty m k x=>zM T ty σ (aU env m) (aU env k) (aU env x)
 | .lookup ty x k ok=>C7 T ty ok σ (aU env x) (aU env k)
 | .range ty x=>C9 T ty σ (aU env x)
 | .next it false=>C' σ (aU env it)
 | .entry it=>Dc σ (aU env it)
 | .makeSlice ty n c=>if p1 A o.dst then CO T ty (aU env n) (aU env c) σ else .bad
 | .slice ty x lo hi none=>C0 T ty σ (aU env x) (lo.map (aU env)) (hi.map (aU env))
 | .fieldAddr ty x f=>vw T ty f σ (aU env x)
 | .indexAddr ty x i=>vx T ty σ (aU env x) (aU env i)
 | .call ⟨.builtin b,⟨[x]⟩,⟨[ty]⟩⟩=>match b with
  | .len=>C2 T ty σ (aU env x)
  | .clear=>De T ty σ (aU env x)
  | _=>.bad
 | .call ⟨.builtin b,⟨[x,y]⟩,⟨[tT,ty]⟩⟩=>match b with
  | .append=>if p1 A o.dst then CX T tT ty σ (aU env x) (aU env y) else(ss T tT ty (θ.a' σ) σ (aU env x) (aU env y)).dE σ
  | _=>.bad
 | _=>.bad
section
variable {P:Program} {T:bb} {A:List Nat} {S:aJ} {B:aV} {H:χ} {σ:List Row} {env:Ω} {t:Array Value}
theorem cK.U3 {s:Sem Next} {r:cK} {a:df} (J:Does P s S B H σ (r.dE σ)) (U:Does P s S B H σ a):Does P s S B H σ (r.or σ a):=by
 cases r with
 | ok x=>exact J
 | b' p r=>exact J
 | bad=>exact U
theorem U4 (Α:Holds S B σ H) {c a b:θ} {u v w:Value} (δ:ay S B σ c u) (κ:ay S B σ a v) (hb:ay S B σ b w):cR P (do pure (if <-asBool u then v else w)) S B H σ ((xH c a b).dE σ):=by
 unfold xH;split
 ·rename_i x;cases δ;split
  ·rename_i p q;cases κ;cases hb;intro K ζ;refine π.bind' (π.pure' (π.pure' ?_));cases x
   ·exact .same Α ζ (.z _)
   ·exact .same Α ζ (.z _)
  ·cases x
   ·exact λK ζ=>π.bind' (π.pure' (π.pure' (.same Α ζ hb)))
   ·exact λK ζ=>π.bind' (π.pure' (π.pure' (.same Α ζ κ)))
 ·exact .bad
theorem U5 (cT:du S B σ env t) (f:Fn) (dh cs:Array Operand):ay S B σ (.fn f (dh.toList.map (aU env)) (cs.toList.map (aU env))) (.func f (dh.map (bp t)) (cs.map (bp t))):=by
 refine .fn _ _ η η (λi a v J U=>?_) (λi a v J U=>?_)
 ·rw[List.getElem?_map] at J;rw[Array.getElem?_map] at U;rw[Array.getElem?_toList] at J;cases γ:dh[i]? with
  | none=>rw[γ] at J;cases J
  | some x=>rw[γ] at J U;cases J;cases U;exact lX cT x
 ·rw[List.getElem?_map] at J;rw[Array.getElem?_map] at U;rw[Array.getElem?_toList] at J;cases γ:cs[i]? with
  | none=>rw[γ] at J;cases J
  | some x=>rw[γ] at J U;cases J;cases U;exact lX cT x
theorem Dm (cT:du S B σ env t) (o:Option Operand):vA S B σ (o.map (aU env)) (o.map (bp t)):=by
 cases o with
 | none=>trivial
 | some x=>exact lX cT x
theorem MD {a:θ} {r:Nat×List θ} (h:pT [] a=some r):pT σ a=some r:=by
 cases a<;>first|exact h|(simp[pT] at h)
theorem U6 {st xt:TypeId} {s x:θ}:ss T st xt (θ.a' []) [] s x=.bad\/ss T st xt (θ.a' []) [] s x=ss T st xt (θ.a' []) σ s x:=by
 unfold ss;cases γ:pT [] x with
 | none=>left;split<;>simp_all
 | some r=>rw[MD γ];exact .inr rfl
theorem ME (Κ:bV P T) (Α:Holds S B σ H) (src dst:TypeId) {x:θ} {v:Value} (γ:ay S B σ x v):cR P (convert src dst v) S B H σ ((sA T σ src dst x).dE σ):=by
 have J:=Ug Κ Α src dst γ
 have U:=UU Κ Α src dst γ;unfold sA;split
 ·split
  ·exact UY Κ Α src dst γ
  ·exact U
 ·exact J
theorem U7 {src dst:TypeId} {x:θ}:tS T src dst [] x=.bad\/tS T src dst [] x=tS T src dst σ x:=by
 unfold tS;split
 ·cases γ:pT [] x with
  | none=>exact .inl rfl
  | some r=>rw[MD γ];exact .inr rfl
 ·exact .inl rfl
theorem U8 {src dst:TypeId} {x:θ}:sA T [] src dst x=.bad\/sA T [] src dst x=sA T σ src dst x:=by
 unfold sA;split
 ·split
  ·exact U7
  ·exact .inr rfl
 ·exact .inr rfl
theorem U9 (Κ:bV P T) (Α:Holds S B σ H) (cT:du S B σ env t) (o:Oper):Does P (execOp (bp t) o) S B H σ ((mK T A env o).dE σ):=by
 have al:∀x,ay S B σ (aU env x) (bp t x):=λx=>lX cT x;obtain⟨dst,op,type,pos,after,guard⟩:=o;unfold mK;simp only;split
 ·exact Does.val Α (al _)
 ·exact Does.val Α (al _)
 ·rename_i c a b;have:=(U4 (P:=P) Α (al c) (al a) (al b)).next;unfold execOp;simp only;refine λK ζ=>?_;have U:=this K ζ;simpa using U
 ·split
  ·exact .bad
  ·exact(TV Κ Α _).next
 ·split
  ·exact .bad
  ·exact(TS Α _ (al _)).next
 ·exact(Ma Κ Α (λa h=>CG h) _ cT _).next
 ·split
  ·exact .bad
  ·exact(Md Κ Α (λa h=>CG h) _ _ cT _).next
 ·exact(TF Κ Α (al _)).next
 ·exact(UP Κ Α _ _ _ _ (al _) (al _)).next
 ·exact(TA Α _ (al _)).next
 ·rename_i a b x;rcases U8 (T:=T) (σ:=σ) (src:=a) (dst:=b) (x:=aU env x) with h|h
  ·rw[h];exact .bad
  ·rw[h];exact(ME Κ Α _ _ (al _)).next
 ·exact(UQ Κ Α _ (al _) (al _)).next
 ·exact UR Α rfl (al _)
 ·exact(UT Κ Α _ (al _)).next
 ·exact(TC Κ Α _ (al _)).next
 ·exact cR.next (cR.pure Α (U5 cT _ _ _))
 ·split
  ·exact .bad
  ·exact(TZ Κ Α (al _) (al _)).next
 ·exact(Uc Κ Α _ (al _) (Dm cT _) (Dm cT _)).next
 ·exact(TH Κ Α (al _)).next
 ·exact(TN Κ Α (al _) (al _)).next
 ·exact(TD Κ Α _ _ _ (al _)).next
 ·exact(TB Α _ (al _)).next
 ·split
  ·exact λK ζ=>by
       refine π.bind' (π.pure' ?_);have e:∀x:Operand,Array.map (bp t) {toList:=[x]}=#[bp t x]:=λx=>η;simp only[invoke,builtin,e];exact(Ue Κ Α _ _ (al _)).next K ζ
  ·exact .bad
 ·split
  ·exact λK ζ=>by
       refine π.bind' (π.pure' ?_);have e:∀x y:Operand,Array.map (bp t) {toList:=[x,y]}=#[bp t x,bp t y]:=λx y=>η;simp only[invoke,builtin,e];exact(Uh Α _ _ (al _) (al _)).next K ζ
  ·split
   ·exact .bad
   ·rename_i x y tT ty _ _;rcases U6 (T:=T) (σ:=σ) (st:=tT) (xt:=ty) (s:=aU env x) (x:=aU env y) with h|h
    ·rw[h];exact .bad
    ·rw[h];exact λK ζ=>by
       refine π.bind' (π.pure' ?_);have e:∀x y:Operand,Array.map (bp t) {toList:=[x,y]}=#[bp t x,bp t y]:=λx y=>η;simp only[invoke,builtin,e];exact(Mj Κ Α (λa h=>CG h) _ _ _ (al _) (al _)).next K ζ
  ·exact .bad
 ·exact .bad
theorem U' (Κ:bV P T) (Α:Holds S B σ H) (cT:du S B σ env t) (o:Oper):Does P (execOp (bp t) o) S B H σ (kM T A env σ o):=by
 have al:∀x,ay S B σ (aU env x) (bp t x):=λx=>lX cT x;obtain⟨dst,op,type,pos,after,guard⟩:=o;unfold kM;simp only;split
 ·split
  ·exact(TU Κ Α _).next
  ·exact .bad
 ·split
  ·exact(TT Α _ (al _)).next
  ·exact(TR Α _ (al _)).next
 ·exact(Ma Κ Α (λa h=>h) _ cT _).next
 ·split
  ·exact(TX Κ Α _ _ cT _).next
  ·exact(Md Κ Α (λa h=>h) _ _ cT _).next
 ·exact(TG Κ Α (al _)).next
 ·exact(TQ Κ Α (al _) (al _)).next
 ·exact(ME Κ Α _ _ (al _)).next
 ·exact US Α rfl (al _)
 ·exact(U2 Κ Α _ _ _ (al _)).next
 ·exact(Uu Α _).next
 ·exact(Ms Κ Α (al _) (al _) (al _)).next
 ·exact(Ms Κ Α (al _) (al _) (al _)).next
 ·exact(Uv Κ Α (al _) (al _)).next
 ·exact(Uz Κ Α (al _)).next
 ·exact(UD Α _ (al _)).next
 ·exact(UI Α (al _)).next
 ·split
  ·exact(TY Κ Α (al _) (al _)).next
  ·exact .bad
 ·exact(Ud Κ Α _ (al _) (Dm cT _) (Dm cT _)).next
 ·exact(TI Κ Α (al _)).next
 ·exact(TO Κ Α (al _) (al _)).next
 ·split
  ·exact λK ζ=>by
       refine π.bind' (π.pure' ?_);have e:∀x:Operand,Array.map (bp t) {toList:=[x]}=#[bp t x]:=λx=>η;simp only[invoke,builtin,e];exact(Uf Κ Α _ _ (al _)).next K ζ
  ·exact λK ζ=>by
       refine π.bind' (π.pure' ?_);have e:∀x:Operand,Array.map (bp t) {toList:=[x]}=#[bp t x]:=λx=>η;simp only[invoke,builtin,e];exact(UM Κ Α _ (al _)).next K ζ
  ·exact .bad
 ·split
  ·split
   ·exact λK ζ=>by
       refine π.bind' (π.pure' ?_);have e:∀x y:Operand,Array.map (bp t) {toList:=[x,y]}=#[bp t x,bp t y]:=λx y=>η;simp only[invoke,builtin,e];exact(T4 Κ Α _ _ _ (al _) (al _)).next K ζ
   ·exact λK ζ=>by
       refine π.bind' (π.pure' ?_);have e:∀x y:Operand,Array.map (bp t) {toList:=[x,y]}=#[bp t x,bp t y]:=λx y=>η;simp only[invoke,builtin,e];exact(Mj Κ Α (λa h=>h) _ _ _ (al _) (al _)).next K ζ
  ·exact .bad
 ·exact .bad
end
end Go.TL
