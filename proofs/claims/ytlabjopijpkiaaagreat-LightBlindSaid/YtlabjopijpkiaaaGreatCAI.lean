import Derived.Test.YtlabjopijpkiaaaGreatCAH
set_option maxHeartbeats 16000000
set_option maxRecDepth 20000
set_option linter.unusedSectionVars false
set_option linter.unusedSimpArgs false
set_option linter.unusedVariables false
namespace Go.TL
open Go.Conc
def ia (T:bb) (kt:TypeId) (k:η):List (η×η)->Nat->Option (Option (Nat×η))
 | [],_=>some none
 | e::r,i=>match aeqv T kt k e.1 with
  | some b=>bif b then some (some (i,e.2)) else ia T kt k r (i+1)
  | none=>none
def oB (T:bb) (kt:TypeId) (k:η):Bool:=match T kt with
 | some i=>match k with
  | .z _=>ju i.bG
  | .a0 xs=>match i.bG,i.eqs with
   | .array _ _,some items=>xs.length==items.length&&(kh items xs xs).isSome
   | _,_=>false
  | _=>false
 | none=>false
section
variable {P:Program} {T:bb} {S:aL} {B:aW} {H:Α} {σ:List Row}
theorem MQ {ty:TypeId} {d:TypeDesc} (hd:P.underlying ty=some d) (ν:ju d=true) {v:Value} {em:Bool} {n:Nat} {G:Α} {K:Unit->Α->Prop} {E:Value->Α->Prop} (χ:K () G):ς P (Instr.checkKey em (n+1) ty v) G K E:=by
 unfold Instr.checkKey;refine ς.bind' (ς.underlying hd ?_);cases d<;>first|(cases ν;done)|(cases v<;>exact ς.pure' χ)
theorem Hy (Ι:bN P T) {kt:TypeId} {k:η} {v:Value} (χ:av S B σ k v) (h:oB T kt k=true) {em:Bool} {G:Α} {K:Unit->Α->Prop} {E:Value->Α->Prop} (θ:K () G):ς P (Instr.checkKey em 10000 kt v) G K E:=by
 unfold oB at h;split at h
 ·rename_i i hi;obtain⟨⟨hu,Ξ⟩,_⟩:=Ι kt i hi;split at h
  ·exact MQ (n:=9999) hu h θ
  ·rename_i xs;split at h
   ·rename_i n e items UX dD;rw[dD] at Ξ;simp only[Bool.and_eq_true,beq_iff_eq] at h;obtain⟨_,_,Ξ⟩:=Ξ;rcases Ξ with⟨df,yd,_⟩|⟨m,Δ,d,f,yd,he,ν,Τ,cv,UY⟩
    ·rw[hu,UX] at yd;cases yd
    ·cases χ with
     | a0 vs Ρ aa=>
      have UZ:=Ai (.a0 vs Ρ aa)
      show ς P (Instr.checkKey em (9999+1) kt _) G K E;unfold Instr.checkKey;refine ς.bind' (ς.underlying yd ?_);simp only;rw[forIn_range];refine ς.bind' ?_;have hb:∃b,kh ((List.range m).map λi=>(d,i)) xs xs=some b:=by
       rw[<-UY];exact Option.isSome_iff_exists.1 h.2
      have key:∀(l:List Nat) (b:Bool),kh (l.map λi=>(d,i)) xs xs=some b->ς P (forIn l PUnit.unit λ(i:Nat) (_:PUnit)=>do
        let a <-sizeOf Δ
        let b <-part Δ vs (i*a)
        Instr.checkKey em 9999 Δ b
        pure (ForInStep.yield PUnit.unit)) G (λ_ G'=>K () G') E:=by
       intro l
       induction l with
       | nil=>intro b _;exact .forIn_nil θ
       | cons i l ω=>
        intro b hb;simp only[List.map_cons,kh] at hb;split at hb<;>try cases hb
        rename_i x y wi x';split at hb<;>try cases hb
        rename_i bC c1 lu lz;refine .forIn_cons ?_;refine ς.bind' (ς.sizeOf Τ ?_);rw[cv];refine ς.bind' (Aj he ν (by rw[Nat.mul_one];exact UZ _ _ wi) ?_);refine ς.bind' (MQ (n:=9998) he ν ?_);exact ς.pure' (ω c1 lz)
      obtain⟨b,hb⟩:=hb;exact ς.mono (λ_ G' h=>ς.pure' h) (λ_ _ h=>h) _ (key (List.range m) b hb)
   ·cases h
  ·cases h
 ·cases h
def wj (S:aL) (B:aW) (σ:List Row) (es:List (η×η)) (cL:List MapEntry):Prop:=es.length=cL.length/\∀(i:Nat) (e:η×η) (y:MapEntry),es[i]?=some e->cL[i]?=some y->av S B σ e.1 y.key/\av S B σ e.2 y.val
theorem wj.tail {e:η×η} {es:List (η×η)} {y:MapEntry} {cL:List MapEntry} (h:wj S B σ (e::es) (y::cL)):(av S B σ e.1 y.key/\av S B σ e.2 y.val)/\wj S B σ es cL:=
 ⟨h.2 0 e y rfl rfl,⟨by simpa using h.1,λi aM md J U=>h.2 (i+1) aM md J U⟩⟩
theorem DH {kt:TypeId} {k:η}:∀(es:List (η×η)) (n i:Nat) (a:η),ia T kt k es n=some (some (i,a))->n<=i/\∃af,es[i-n]?=some (af,a)/\aeqv T kt k af=some true:=by
 intro es
 induction es with
 | nil=>intro n i a h;cases h
 | cons e es ω=>
  intro n i a h;unfold ia at h;split at h
  ·rename_i b hb;cases b with
   | true=>cases h;exact⟨Nat.le_refl _,e.1,ζ,hb⟩
   | false=>
    obtain⟨J,af,U,μ⟩:=ω (n+1) i a h;refine⟨R,af,?_,μ⟩;have:i-n=(i-(n+1))+1:=R;rw[this,List.getElem?_cons_succ];exact U
  ·cases h
def me (cL:List MapEntry) (i0:Nat) (r:Option (Nat×η)):Option (Nat×Value):=r.map λx=>(x.1,((cL[x.1-i0]?).map (·.val)).getD undef)
theorem U0 {d:TypeDesc} {x y:Value} {b:Bool} (h:m2 d x y=some b):Instr.sameNow d x y=some b:=by
 unfold m2 at h;split at h
 ·split at h
  ·rename_i e;subst e;cases h;simp[Instr.sameNow]
  ·cases h
 ·cases h;rfl
 ·cases h;rfl
 ·cases h
theorem U1 (Ι:bN P T) {kt:TypeId} {i:iC} (hi:T kt=some i) {k:η} {v:Value} (χ:av S B σ k v) (Φ:∃u,k=.z u):∀(es:List (η×η)) (cL:List MapEntry) (n:Nat) (r:Option (Nat×η)),wj S B σ es cL->ia T kt k es n=some r->
  Instr.findNow i.bG v cL n=some (me cL n r):=by
 obtain⟨u,rfl⟩:=Φ;cases χ;intro es
 induction es with
 | nil=>
  intro cL n r he h;have:cL=[]:=by have:=he.1;simpa using this.symm
  subst this;cases h;rfl
 | cons e es ω=>
  intro cL n r he h;cases cL with
  | nil=>have:=he.1;simp at this
  | cons y cL=>
   obtain⟨⟨J,U⟩,Ν⟩:=he.tail;unfold ia at h;split at h
   ·rename_i b hb;have hv:m2 i.bG v y.key=some b:=by
     unfold aeqv at hb;rw[hi] at hb;simp only at hb;split at hb
     ·rename_i x md Γ Δ;rw[Δ] at J;cases J;cases Γ;split at hb
      ·exact hb
      ·cases hb
     ·rename_i Γ _;cases Γ
     ·cases hb
    unfold Instr.findNow;rw[U0 hv];cases b with
    | true=>cases h;simp[me]
    | false=>
     have:=ω cL (n+1) r Ν h;simp only[this];congr 1;unfold me;cases r with
     | none=>rfl
     | some x=>
      simp only[Option.map_some];have γ:n+1<=x.1:=(DH es (n+1) x.1 x.2 h).1;have:x.1-n=(x.1-(n+1))+1:=R;rw[this,List.getElem?_cons_succ]
   ·cases h
theorem U2 (Ι:bN P T) {kt:TypeId} {k:η} {v:Value} (χ:av S B σ k v) {E:Value->Α->Prop}:∀(es:List (η×η)) (cL:List MapEntry) (n:Nat) (r:Option (Nat×η)) (K:Option (Nat×Value)->Α->Prop),wj S B σ es cL->ia T kt k es n=some r->
  K (me cL n r) H->ς P (Instr.findAsking kt v cL n) H K E:=by
 intro es
 induction es with
 | nil=>
  intro cL n r K he h θ;have:cL=[]:=by have:=he.1;simpa using this.symm
  subst this;cases h;exact ς.pure' θ
 | cons e es ω=>
  intro cL n r K he h θ;cases cL with
  | nil=>have:=he.1;simp at this
  | cons y cL=>
   obtain⟨⟨J,U⟩,Ν⟩:=he.tail;unfold ia at h;split at h
   ·rename_i b hb;unfold Instr.findAsking;refine ς.bind' (Hx Ι χ J hb ?_);cases b with
    | true=>cases h;simp only[if_true];exact ς.pure' (by simpa[me] using θ)
    | false=>
     simp only[Bool.false_eq_true,if_false];refine ω cL (n+1) r K Ν h ?_;have:me (y::cL) n r=me cL (n+1) r:=by
      unfold me;cases r with
      | none=>rfl
      | some x=>
       simp only[Option.map_some];have γ:n+1<=x.1:=(DH es (n+1) x.1 x.2 h).1;have:x.1-n=(x.1-(n+1))+1:=R;rw[this,List.getElem?_cons_succ]
     rw[<-this];exact θ
   ·cases h
theorem Hz (Ι:bN P T) {kt:TypeId} {k:η} {v:Value} (χ:av S B σ k v) (oC:oB T kt k=true) {es:List (η×η)} {cL:List MapEntry} {r:Option (Nat×η)} (he:wj S B σ es cL) (h:ia T kt k es 0=some r) {K:Option (Nat×Value)->Α->Prop} {E:Value->Α->Prop} (θ:K (me cL 0 r) H) :
  ς P (Instr.findKey kt v cL) H K E:=by
 unfold Instr.findKey;unfold oB at oC;split at oC
 ·rename_i i hi;refine ς.bind' (Ι.bG hi ?_);split at oC
  ·rw[U1 Ι hi χ ⟨_,rfl⟩ es cL 0 r he h];exact ς.pure' θ
  ·rename_i xs;cases χ with
   | a0 vs Ρ aa=>
    cases cL with
    | nil=>
     have:es=[]:=by have:=he.1;simpa using this
     subst this;cases h;exact ς.pure' θ
    | cons y cL=>
     have Ζ:Instr.findNow i.bG (.agg vs) (y::cL) 0=none:=by
      unfold Instr.findNow;have:Instr.sameNow i.bG (.agg vs) y.key=none:=by unfold Instr.sameNow;cases i.bG<;>rfl
      rw[this]
     rw[Ζ];exact U2 Ι (.a0 vs Ρ aa) es (y::cL) 0 r K he h θ
  ·cases oC
 ·cases oC
def oD (σ:List Row) (id:Nat):Bool:=σ.all λr=>match r with|.iter m _ _=>m != id|_=>true
theorem U3 {id:Nat} (h:oD σ id=true):∀(j:Nat) left cur,σ[j]?≠some (Row.iter id left cur):=λj left cur δ=>by
 have:=List.all_eq_true.1 h _ (cG δ);simp at this
def wm (T:bb) (ty:TypeId):Option (TypeId×TypeId):=match T ty with
 | some i=>match i.bG with|.map k v=>some (k,v)|_=>none
 | none=>none
theorem DI {ty kt vt:TypeId} (h:wm T ty=some (kt,vt)):∃i,T ty=some i/\i.bG=.map kt vt:=by
 unfold wm at h;split at h
 ·rename_i i hi;split at h
  ·rename_i k v hu;cases h;exact⟨i,hi,hu⟩
  ·cases h
 ·cases h
def HA (σ:List Row):cV:=.ok (.mp σ.length) (σ++[.map []])
theorem U4 (Β:Holds S B σ H) (ty:TypeId):cS P (Instr.makeMap ty none) S B H σ (HA σ):=by
 intro K θ;unfold Instr.makeMap;refine ς.bind' ?_;refine λr ι=>?_;have cH:∀b,(∀N,some (r,0)≠some (b,N))->kY H (H.bK r (.map #[] 0)) b:=λb hb=>by
  have bA:b≠r:=λe=>by subst e;exact hb _ rfl
  exact⟨λo=>rfl,rfl,by simp[Α.bK,bA]⟩
 have bQ:b3 S S B (B++[some (r,0)]) σ (σ++[.map []])->j' S (B++[some (r,0)]) (σ++[.map []]) (H.bK r (.map #[] 0)) (.map []) (some (r,0)):=λ_=>
  ⟨r,0,#[],0,rfl,by simp[Α.bK],rfl,λi e y J=>by simp at J,λi j y z J=>by simp at J⟩
 obtain⟨J,U,μ⟩:=Β.push (λb N e=>by cases e;exact ι) cH bQ;exact ς.pure' ⟨_,_,_,_,θ,U,J,μ,.mp (es:=[]) (N:=0) (Du σ _) (Dv Β.len _)⟩
def DJ (T:bb) (ty:TypeId) (ok:Bool) (σ:List Row) (mp k:η):cV:=match wm T ty,mp with
 | some (kt,vt),.mp id=>match σ[id]?,T vt with
  | some (.map es),some HB=>if oB T kt k=true then match ia T kt k es 0 with
   | some (some (_,a))=>.ok (if ok then .bq [a,.z (.bool true)] else a) σ
   | some none=>.ok (if ok then .bq [hO HB.zero,.z (.bool false)] else hO HB.zero) σ
   | none=>.bad else .bad
  | _,_=>.bad
 | _,_=>.bad
theorem Ak (Β:Holds S B σ H) {id b N:Nat} {es:List (η×η)} (hm:σ[id]?=some (.map es)) (hb:B[id]?=some (some (b,N))):∃xs clock,H.obj b=some (.map xs clock)/\sQ S B σ es xs clock:=by
 obtain⟨Ψ,e',xs,clock,e,J,U⟩:=Β.row id _ _ hm hb;cases e;exact⟨xs,clock,J,U⟩
theorem sQ.ye {es:List (η×η)} {xs:Array MapEntry} {clock:Nat} (h:sQ S B σ es xs clock):wj S B σ es xs.toList:=
 ⟨by simpa using h.1,λi e y J U=>by rw[Array.getElem?_toList] at U;obtain⟨a,b,_⟩:=h.2.1 i e y J U;exact⟨a,b⟩⟩
theorem U5 (Ι:bN P T) (Β:Holds S B σ H) {ty:TypeId} {ok:Bool} {mp k:η} {u v:Value} (hm:av S B σ mp u) (χ:av S B σ k v):cS P (Instr.lookup ty u v ok) S B H σ (DJ T ty ok σ mp k):=by
 unfold DJ;split
 ·rename_i kt vt id wq;obtain⟨i,hi,hu⟩:=DI wq;split
  ·rename_i es HB bQ U6;split
   ·rename_i oC;cases hm with
    | mp J U=>
     rename_i b N;rw[bQ] at J;cases J;obtain⟨xs,clock,nP,hQ⟩:=Ak Β bQ U;have go:∀(r:Option (Nat×η)) (res:cV),ia T kt k es 0=some r->(∀(K:η->List Row->Prop),res.holds K->∃(x:η) (y:Value),True/\ς P (do
       let (v,U7) <-match me xs.toList 0 r with
        | some (_,v)=>pure (v,true)
        | none=>do pure (<-zeroValue vt,false)
       pure (if ok then .tuple #[v,.bool U7] else v)) H (jv S B H σ K) (λ_ _=>False))->cS P (Instr.lookup ty (.map (some b)) v ok) S B H σ res:=λr res Τ fc K θ=>by
      unfold Instr.lookup;refine ς.bind' (Ι.bG hi ?_);rw[hu];refine ς.bind' ?_;refine⟨_,nP,rfl,?_⟩;refine ς.bind' (ς.pure' ?_);refine ς.bind' (Hy Ι χ oC ?_);refine ς.bind' (Hz Ι χ oC hQ.ye Τ ?_);obtain⟨_,_,_,h⟩:=fc K θ;cases ψ:me xs.toList 0 r with
      | none=>rw[ψ] at h;exact h
      | some p=>rw[ψ] at h;exact h
     split
     ·rename_i bB a Τ;refine go _ _ Τ λK θ=>⟨a,undef,trivial,?_⟩;obtain⟨_,af,he,_⟩:=DH es 0 bB a Τ;have aO:bB<xs.size:=by have:=(bX.1 he).1;rw[<-hQ.1];simpa using this
      have Κ:xs[bB]?=some xs[bB]:=ff aO;obtain⟨_,ι,_⟩:=hQ.2.1 bB _ _ (by simpa using he) Κ;have ψ:me xs.toList 0 (some (bB,a))=some (bB,xs[bB].val):=by simp[me,aO]
      rw[ψ];refine ς.bind' (ς.pure' (ς.pure' ?_));cases ok with
      | true=>exact .same Β θ (x2 ι (.z _))
      | false=>exact .same Β θ ι
     ·rename_i Τ;refine go _ _ Τ λK θ=>⟨.cg,undef,trivial,?_⟩;refine ς.bind' (Ι.zero U6 ?_);refine ς.bind' (ς.pure' (ς.pure' ?_));cases ok with
      | true=>exact .same Β θ (x2 (qf _) (.z _))
      | false=>exact .same Β θ (qf _)
     ·exact .bad
    | l8 v J=>rw[bQ] at J;cases J
   ·exact .bad
  ·exact .bad
 ·exact .bad
def Al (T:bb) (ty:TypeId) (σ:List Row) (mp k x:η):cV:=match wm T ty,mp with
 | some (kt,_),.mp id=>match σ[id]? with
  | some (.map es)=>if oB T kt k=true/\oD σ id=true then match ia T kt k es 0 with
   | some (some (i,_))=>.ok .cg (σ.set id (.map (es.set i (k,x))))
   | some none=>.ok .cg (σ.set id (.map (es++[(k,x)])))
   | none=>.bad else .bad
  | _=>.bad
 | _,_=>.bad
theorem HC (Β:Holds S B σ H) {id b N:Nat} {es es':List (η×η)} {xs':Array MapEntry} {clock':Nat} (bQ:σ[id]?=some (.map es)) (hb:B[id]?=some (some (b,N))) (lp:oD σ id=true) (dQ:∀{B':aW} {σ':List Row},b3 S S B B' σ σ'->sQ S B' σ' es' xs' clock') :
  Holds S (B.set id (some (b,N))) (σ.set id (.map es')) (H.bK b (.map xs' clock'))/\Ext S B H S (B.set id (some (b,N))) (H.bK b (.map xs' clock'))/\b3 S S B (B.set id (some (b,N))) σ (σ.set id (.map es')):=
 Β.xZ bQ trivial hb (.inl ⟨es',rfl,rfl⟩) (λΨ e' e=>.inl ⟨e',e⟩) (λΨ J _=>by
  have bA:Ψ≠b:=λe=>by subst e;exact J N rfl
  exact⟨λo=>rfl,rfl,by simp[Α.bK,bA]⟩) Α.GY (U3 lp) λξ=>⟨b,N,xs',clock',rfl,by simp[Α.bK],dQ ξ⟩
theorem MR (Ι:bN P T) (Β:Holds S B σ H) {ty:TypeId} {mp k x:η} {u v w:Value} (hm:av S B σ mp u) (χ:av S B σ k v) (γ:av S B σ x w):x3 P (Instr.mapUpdate ty u v w) S B H σ (Al T ty σ mp k x):=by
 unfold Al;split
 ·rename_i kt vt id wq;obtain⟨i,hi,hu⟩:=DI wq;split
  ·rename_i es bQ;split
   ·rename_i rF;obtain⟨oC,lp⟩:=rF;cases hm with
    | mp J U=>
     rename_i b N;rw[bQ] at J;cases J;obtain⟨xs,clock,nP,hQ⟩:=Ak Β bQ U;split
     ·rename_i bB a Τ;obtain⟨_,af,he,heq⟩:=DH es 0 bB a Τ;simp only[Nat.sub_zero] at he;have jw:bB<es.length:=(bX.1 he).1;have aO:bB<xs.size:=by rw[<-hQ.1];exact jw
      have Κ:xs[bB]?=some xs[bB]:=ff aO;obtain⟨U8,hΚ,yf⟩:=hQ.2.1 bB _ _ he Κ;obtain⟨Γ,Δ,a4⟩:=UW Ι χ U8 heq;intro K θ;unfold Instr.mapUpdate;refine ς.bind' (Ι.bG hi ?_);rw[hu];refine ς.bind' ⟨_,nP,rfl,ς.pure' ?_⟩;refine ς.bind' (Hy Ι χ oC ?_);refine ς.bind' (Hz Ι χ oC hQ.ye Τ ?_);have ψ:me xs.toList 0 (some (bB,a))=some (bB,xs[bB].val):=by simp[me,aO]
      rw[ψ];simp only[Κ,Option.map_some,Option.getD_some];unfold Instr.keyThatStays;rw[<-Γ];simp only[a4,if_true];refine ς.bind' (ς.pure' ?_);obtain⟨dn,p2,p3⟩:=HC Β (es':=es.set bB (k,x)) (xs':=xs.modify bB λe=>{e with key:=v,val:=w}) (clock':=clock) bQ U lp λ{B' σ'} ξ=>by
       refine⟨by simp[hQ.1],λj e y Ρ aa=>?_,λj bJ y z Ρ aa HD=>?_⟩
       ·rw[Array.getElem?_modify] at aa;by_cases lx:bB=j
        ·subst lx;rw[List.getElem?_set_self jw] at Ρ;rw[if_pos rfl,Κ] at aa;cases Ρ;cases aa;exact⟨χ.later ξ,γ.later ξ,yf⟩
        ·rw[List.getElem?_set_ne lx] at Ρ;rw[if_neg lx] at aa;obtain⟨c1,c2,c3⟩:=hQ.2.1 j e y Ρ aa;exact⟨c1.later ξ,c2.later ξ,c3⟩
       ·have born:∀(j:Nat) (y:MapEntry),(xs.modify bB λe=>{e with key:=v,val:=w})[j]?=some y->∃DK,xs[j]?=some DK/\y.born=DK.born:=λj y g=>by
         rw[Array.getElem?_modify] at g;by_cases lx:bB=j
         ·subst lx;rw[if_pos rfl,Κ] at g;cases g;exact⟨_,Κ,rfl⟩
         ·rw[if_neg lx] at g;exact⟨y,g,rfl⟩
        obtain⟨DK,c1,c2⟩:=born j y Ρ;obtain⟨h',c3,c4⟩:=born bJ z aa;rw[c2,c4];exact hQ.2.2 j bJ DK h' c1 c3 HD
      exact⟨⟨_,nP⟩,rfl,rfl,ς.pure' ⟨S,_,_,_,θ,p2,dn,p3,.cg _⟩⟩
     ·rename_i Τ;intro K θ;unfold Instr.mapUpdate;refine ς.bind' (Ι.bG hi ?_);rw[hu];refine ς.bind' ⟨_,nP,rfl,ς.pure' ?_⟩;refine ς.bind' (Hy Ι χ oC ?_);refine ς.bind' (Hz Ι χ oC hQ.ye Τ ?_);simp only[me,Option.map_none];obtain⟨dn,p2,p3⟩:=HC Β (es':=es++[(k,x)]) (xs':=xs.push {key:=v,val:=w,born:=clock}) (clock':=clock+1) bQ U lp λ{B' σ'} ξ=>by
       refine⟨by simp[hQ.1],λj e y Ρ aa=>?_,λj bJ y z Ρ aa HD=>?_⟩
       ·by_cases δ:j<es.length
        ·rw[dI δ] at Ρ;rw[Array.getElem?_push,if_neg (by rw[<-hQ.1];omega)] at aa;obtain⟨c1,c2,c3⟩:=hQ.2.1 j e y Ρ aa;exact⟨c1.later ξ,c2.later ξ,R⟩
        ·rw[hp R] at Ρ;have fN:j=es.length:=by
          have:=(bX.1 Ρ).1;simp at this;omega
         subst fN;rw[Array.getElem?_push,if_pos hQ.1] at aa;simp at Ρ;subst Ρ;cases aa;exact⟨χ.later ξ,γ.later ξ,Nat.lt_succ_self _⟩
       ·rw[Array.getElem?_push] at Ρ aa;split at Ρ
        ·rename_i Γ;split at aa
         ·omega
         ·have:=(Array.getElem?_eq_some_iff.1 aa).1;omega
        ·split at aa
         ·cases aa;have δ:=(Array.getElem?_eq_some_iff.1 Ρ).1;have he:∃e,es[j]?=some e:=⟨_,a8 (by rw[hQ.1];exact δ)⟩;obtain⟨e,he⟩:=he;exact(hQ.2.1 j e y he Ρ).2.2
         ·exact hQ.2.2 j bJ y z Ρ aa HD
      exact⟨⟨_,nP⟩,rfl,rfl,ς.pure' ⟨S,_,_,_,θ,p2,dn,p3,.cg _⟩⟩
     ·exact .bad
    | l8 v J=>rw[bQ] at J;cases J
   ·exact .bad
  ·exact .bad
 ·exact .bad
end
section
variable {P:Program} {T:bb} {S:aL} {B:aW} {H:Α} {σ:List Row}
def DL (T:bb) (ty:TypeId) (σ:List Row) (mp:η):cV:=match wm T ty,mp with
 | some _,.mp id=>match σ[id]? with
  | some (.map es)=>.ok (.it σ.length) (σ++[.iter id es none])
  | _=>.bad
 | _,_=>.bad
theorem U9 (Ι:bN P T) (Β:Holds S B σ H) {ty:TypeId} {mp:η} {u:Value} (hm:av S B σ mp u):cS P (Instr.range ty u) S B H σ (DL T ty σ mp):=by
 unfold DL;split
 ·rename_i Am id wq;obtain⟨i,hi,hu⟩:=DI (kt:=Am.1) (vt:=Am.2) wq;split
  ·rename_i es bQ;cases hm with
   | mp J U=>
    rename_i b N;rw[bQ] at J;cases J;obtain⟨xs,clock,nP,hQ⟩:=Ak Β bQ U;intro K θ;unfold Instr.range;refine ς.bind' (Ι.bG hi ?_);rw[hu];refine ς.bind' ?_;refine⟨_,nP,rfl,?_⟩;refine ς.bind' (ς.pure' ?_);refine ς.bind' ?_;refine λr ι=>?_;have bA:b≠r:=λe=>by subst e;rw[ι.2.2.1] at nP;cases nP
    have b5:id<σ.length:=(bX.1 bQ).1
    have cH:∀Ψ,(∀N,some (r,0)≠some (Ψ,N))->kY H (H.bK r (.mapIter (some b) clock #[] clock)) Ψ:=λΨ hb=>by
     have bA:Ψ≠r:=λe=>by subst e;exact hb _ rfl
     exact⟨λo=>rfl,rfl,by simp[Α.bK,bA]⟩
    have zS:b3 S S B (B++[some (r,0)]) σ (σ++[.iter id es none])->j' S (B++[some (r,0)]) (σ++[.iter id es none]) (H.bK r (.mapIter (some b) clock #[] clock)) (.iter id es none) (some (r,0)):=λξ=>by
     refine⟨r,0,b,N,xs,clock,#[],rfl,by rw[dI (by rw[Β.len];exact b5)];exact U,⟨es,by rw[dI b5];exact bQ⟩,by simp[Α.bK],by simp[Α.bK,bA,nP],⟨xs.toList,?_,by simpa using hQ.1,λi e y Ρ aa=>?_⟩,λy Κ=>?_,λe he=>by cases he⟩
     ·exact(List.filter_eq_self.2 λe _=>ζ).symm
     ·obtain⟨c1,c2⟩:=hQ.ye.2 i e y Ρ aa;exact⟨c1.later ξ,c2.later ξ⟩
     ·obtain⟨j,δ,rfl⟩:=Array.getElem_of_mem Κ;have he:∃e,es[j]?=some e:=⟨_,a8 (by rw[hQ.1];exact δ)⟩;obtain⟨e,he⟩:=he;exact(hQ.2.1 j e _ he (ff δ)).2.2
    obtain⟨dn,p2,p3⟩:=Β.push (λΨ e' e=>by cases e;exact ι) cH zS;exact ς.pure' ⟨_,_,_,_,θ,p2,dn,p3,.it (Du σ _) (Dv Β.len _)⟩
   | l8 v J=>rw[bQ] at J;cases J
  ·exact .bad
 ·exact .bad
theorem U' {α:Type} (f:α->Nat):∀(l:List α) (i:Nat) (e:α),(l.map f).Nodup->l[i]?=some e->l.filter (λx=>f x != f e)=l.eraseIdx i:=by
 intro l
 induction l with
 | nil=>intro i e _ h;simp at h
 | cons a l ω=>
  intro i e Ζ h;simp only[List.map_cons,List.nodup_cons] at Ζ;cases i with
  | zero=>
   simp at h;subst h;rw[List.filter_cons];simp only[bne_self_eq_false,Bool.false_eq_true,if_false,List.eraseIdx_cons_zero];rw[List.filter_eq_self];intro x γ;simp only[bne_iff_ne,ne_eq];intro e;exact Ζ.1 (e▸List.mem_map_of_mem γ)
  | succ i=>
   simp only[List.getElem?_cons_succ] at h;have bA:f a≠f e:=λx=>Ζ.1 (x▸List.mem_map_of_mem (cG h));rw[List.filter_cons];simp only[bne_iff_ne,ne_eq,bA,not_false_eq_true,if_true,List.eraseIdx_cons_succ];rw[ω i e Ζ.2 h]
theorem Va {es:List (η×η)} {xs:Array MapEntry} {clock:Nat} (h:sQ S B σ es xs clock):(xs.toList.map (·.born)).Nodup:=by
 rw[List.Nodup,List.pairwise_map,List.pairwise_iff_getElem];intro i j hi δ aO;have:=h.2.2 i j _ _ (ff (by simpa using hi)) (ff (by simpa using δ)) aO;simp only[Array.getElem_toList];omega
def DN (σ:List Row) (it:η):cV:=match it with
 | .it id=>match σ[id]? with
  | some (.iter m left _)=>if left.isEmpty=true then .ok (.bq [.z (.bool false)]) σ else
    .all left.length λi=>match left[i]? with
     | some e=>.ok (.bq [.z (.bool true),e.1,e.2]) (σ.set id (.iter m (left.eraseIdx i) (some e)))
     | none=>.bad
  | _=>.bad
 | _=>.bad
theorem Vb {a b c:η} {u v w:Value} (J:av S B σ a u) (U:av S B σ b v) (μ:av S B σ c w):av S B σ (.bq [a,b,c]) (.tuple #[u,v,w]):=by
 refine .bq _ rfl λi bT fr Ρ aa=>?_
 match i with
 | 0=>simp at Ρ aa;subst Ρ;subst aa;exact J
 | 1=>simp at Ρ aa;subst Ρ;subst aa;exact U
 | 2=>simp at Ρ aa;subst Ρ;subst aa;exact μ
 | i+3=>simp at Ρ
theorem Vd (Β:Holds S B σ H) {it:η} {u:Value} (ty:TypeId) (hi:av S B σ it u):cS P (Instr.next u false ty) S B H σ (DN σ it):=by
 unfold DN;split
 ·rename_i id;split
  ·rename_i m left cur bQ;cases hi with
   | it J U=>
    rename_i G2 G3 cb b N;rw[bQ] at J;cases J;obtain⟨Ψ,e',aZ,kX,xs,clock,seen,cF,sT,⟨es,An⟩,sZ,wu,⟨cL,HE,hlen,HF⟩,yf,DO⟩:=Β.row id _ _ bQ U;cases cF;obtain⟨xs',clock',MS,hQ⟩:=Ak Β An sT;rw[wu] at MS;cases MS;have kZ:=Va hQ;have bA:aZ≠b:=λe=>by subst e;rw[sZ] at wu;cases wu
    intro K θ;have Ve:(xs.filter λe=>!seen.contains e.born).toList=cL:=by rw[HE];simp
    have iv:(!seen.isEmpty&&!xs.isEmpty&&xs.all (λe=>decide (e.born>=clock)))=false:=by
     cases γ:xs.isEmpty with
     | true=>simp
     | false=>
      have qj:0<xs.size:=by
       rw[Array.isEmpty_eq_false_iff] at γ;exact Array.size_pos_iff.2 γ
      have an:xs.all (λe=>decide (e.born>=clock))=false:=by
       rw[Array.all_eq_false];refine⟨0,qj,?_⟩;have:=yf xs[0] (Array.getElem_mem qj);simp;exact this
      rw[an];simp
    have Vf:∀z:Array MapEntry,z=xs.filter (λe=>!seen.contains e.born)->z.filter (λe=>decide (e.born<clock))=z/\z.filter (λe=>decide (e.born>=clock))=#[]:=λz Φ=>by
     have hb:∀e∈z,e.born<clock:=λe he=>by rw[Φ] at he;exact yf e (Array.mem_of_mem_filter he)
     constructor
     ·rw[Array.filter_eq_self];intro e he;simpa using hb e he
     ·rw[Array.filter_eq_empty_iff];intro e he;simpa using hb e he
    unfold Instr.next;refine ς.bind' ?_;refine⟨_,sZ,rfl,?_⟩;refine ς.pure' ?_;simp only;refine ς.bind' ?_;refine⟨_,wu,rfl,?_⟩;refine ς.pure' ?_;simp only[iv,Bool.false_eq_true,if_false];generalize Φ:xs.filter (λe=>!seen.contains e.born)=z;obtain⟨f1,f2⟩:=Vf z Φ.symm;rw[f1,f2];have lA:z.toList=cL:=by rw[<-Φ];exact Ve
    by_cases DQ:left.isEmpty=true
    ·have Hr:left=[]:=List.isEmpty_iff.1 DQ;subst Hr;have Vg:z=#[]:=by
      have:cL=[]:=dO.1 (by rw[<-hlen];rfl);rw[this] at lA;exact Array.toList_eq_nil_iff.1 lA
     subst Vg;have cF:((if(#[]:Array MapEntry).isEmpty=true then #[none] else #[])++Array.map some (#[]++#[]:Array MapEntry))=#[none]:=ζ;rw[cF];refine ς.bind' ?_;show ς P (choose (.mapNext 1)) H _ _;unfold choose;simp only[ς,Question.forced,Nat.le_refl,decide_true,if_true];exact ς.pure' (.same Β θ (.bq _ rfl λi a v Ρ aa=>by
      match i with
      | 0=>simp at Ρ aa;subst Ρ;subst aa;exact .z _
      | i+1=>simp at Ρ))
    ·rw[if_neg DQ] at θ;have rD:z.size=left.length:=by rw[hlen,<-lA];simp
     have Vh:z.isEmpty=false:=by
      rw[Array.isEmpty_eq_false_iff];intro e;rw[e] at rD;exact DQ (List.isEmpty_iff.2 (dO.1 rD.symm))
     simp only[Vh,Bool.false_eq_true,if_false,Array.append_empty,Array.empty_append];refine ς.bind' ?_;have fin:∀i,i<left.length->ς P (match (z.map some)[i]? with
       | some (some e)=>do
        setObj b (.mapIter (some aZ) clock (seen.push e.born) clock)
        pure (.tuple #[.bool true,e.key,e.val])
       | some none=>pure (.tuple #[.bool false])
       | none=>stuck "Next: no such candidate") H (jv S B H σ K) (λ_ _=>False):=λi jw=>by
      have Ao:∃qn,z[i]?=some qn:=⟨_,ff R⟩;obtain⟨qn,Ao⟩:=Ao;have MT:cL[i]?=some qn:=by rw[<-lA,Array.getElem?_toList];exact Ao
      have h9:∃e,left[i]?=some e:=⟨_,a8 jw⟩;obtain⟨le,h9⟩:=h9;rw[Array.getElem?_map,Ao];simp only[Option.map_some];have MU:=θ i jw;simp only[h9] at MU;obtain⟨r1,r2⟩:=HF i _ _ h9 MT;have qo:qn∈xs:=by
       have:qn∈z:=Array.mem_of_getElem? Ao;rw[<-Φ] at this;exact Array.mem_of_mem_filter this
      have b5:id<σ.length:=(bX.1 bQ).1
      have pg:id<B.length:=by rw[Β.len];exact b5
      have MV:id≠m:=λe=>by subst e;rw[bQ] at An;cases An
      obtain⟨dn,p2,p3⟩:=Β.xZ (H':=H.bK b (.mapIter (some aZ) clock (seen.push qn.born) clock)) (r':=.iter m (left.eraseIdx i) (some le)) (bo':=some (b,N)) bQ trivial U (.inl ⟨_,_,rfl,rfl⟩) (λΨ e' e=>.inl ⟨e',e⟩) (λΨ Ρ _=>by
       have bA:Ψ≠b:=λe=>by subst e;exact Ρ N rfl
       exact⟨λo=>rfl,rfl,by simp[Α.bK,bA]⟩) Α.GY (λj l c δ=>by
       obtain⟨bo,ey⟩:=Mk Β δ;obtain⟨_,_,_,_,_,_,_,_,_,⟨ou,MW⟩,_⟩:=Β.row j _ bo δ ey;rw[bQ] at MW;cases MW) (λξ=>by
       refine⟨b,N,aZ,kX,xs,clock,seen.push qn.born,rfl,by rw[List.getElem?_set_ne MV];exact sT,⟨es,by rw[List.getElem?_set_ne MV];exact An⟩,by simp[Α.bK],by simp[Α.bK,bA,wu],⟨cL.eraseIdx i,?_,by rw[List.length_eraseIdx,List.length_eraseIdx,hlen],λj e y Ρ aa=>?_⟩,yf,λe he=>?_⟩
       ·have kC:(cL.map (·.born)).Nodup:=by
         rw[HE];exact kZ.sublist (List.filter_sublist.map _)
        rw[<-U' (·.born) cL i qn kC MT,HE,List.filter_filter];apply List.filter_congr;intro e _;rw[Array.contains_push,Bool.not_or,Bool.and_comm];congr 1
       ·rw[List.getElem?_eraseIdx] at Ρ aa;split at Ρ
        ·rename_i aO;rw[if_pos aO] at aa;obtain⟨c1,c2⟩:=HF j e y Ρ aa;exact⟨c1.later ξ,c2.later ξ⟩
        ·rename_i aO;rw[if_neg aO] at aa;obtain⟨c1,c2⟩:=HF (j+1) e y Ρ aa;exact⟨c1.later ξ,c2.later ξ⟩
       ·cases he;refine⟨qn.born,qn,ζ,?_,r1.later ξ,r2.later ξ⟩;rw[<-Array.find?_toList];obtain⟨q,Ξ⟩:=List.getElem?_of_mem (show qn∈xs.toList by simpa using qo);have key:∀(l:List MapEntry) (q:Nat) (e:MapEntry),(l.map (·.born)).Nodup->l[q]?=some e->l.find? (·.born==e.born)=some e:=by
         intro l
         induction l with
         | nil=>intro q e _ h;simp at h
         | cons a l ω=>
          intro q e Ζ h;simp only[List.map_cons,List.nodup_cons] at Ζ;rw[List.find?_cons];cases q with
          | zero=>simp at h;subst h;simp
          | succ q=>
           simp only[List.getElem?_cons_succ] at h;have:(a.born==e.born)=false:=by
            simp only[beq_eq_false_iff_ne,ne_eq];intro x;exact Ζ.1 (x▸List.mem_map_of_mem (cG h))
           rw[this];exact ω q e Ζ.2 h
        exact key xs.toList q _ kZ Ξ)
      refine ς.bind' ?_;refine⟨⟨_,sZ⟩,rfl,rfl,?_⟩;refine ς.pure' ?_;exact ς.pure' ⟨S,_,_,_,MU,p2,dn,p3,Vb (.z _) (r1.later p3) (r2.later p3)⟩
     have cv:(z.map some).size=left.length:=by simp[rD]
     show ς P (choose (.mapNext (z.map some).size)) H _ _;unfold choose;simp only[ς];have qj:0<left.length:=List.length_pos_iff.2 λe=>DQ (List.isEmpty_iff.2 e);split
     ·exact fin 0 qj
     ·intro n;refine fin _ ?_;simp only[Question.cut,cv];exact Nat.mod_lt _ qj
   | nI v J=>rw[bQ] at J;cases J
  ·exact .bad
 ·exact .bad
def DR (σ:List Row) (it:η):cV:=match it with
 | .it id=>match σ[id]? with
  | some (.iter _ _ (some e))=>.ok (.bq [e.1,e.2]) σ
  | _=>.bad
 | _=>.bad
theorem Vi (Β:Holds S B σ H) {it:η} {u:Value} (hi:av S B σ it u):cS P (Instr.entry u) S B H σ (DR σ it):=by
 unfold DR;split
 ·rename_i id;split
  ·rename_i m left e bQ;cases hi with
   | it J U=>
    rename_i G2 G3 cb b N;rw[bQ] at J;cases J;obtain⟨Ψ,e',aZ,kX,xs,clock,seen,cF,sT,An,sZ,wu,_,yf,DO⟩:=Β.row id _ _ bQ U;cases cF;obtain⟨G5,y,Ρ,aa,aX,ca⟩:=DO e rfl;intro K θ;unfold Instr.entry;refine ς.bind' ?_;refine⟨_,sZ,rfl,?_⟩;refine ς.pure' ?_;simp only[Ρ];refine ς.bind' ?_;refine⟨_,wu,rfl,?_⟩;refine ς.pure' ?_;simp only[bne_self_eq_false,Bool.false_eq_true,if_false,aa];exact ς.pure' (.same Β θ (x2 aX ca))
   | nI v J=>rw[bQ] at J;cases J
  ·exact .bad
 ·exact .bad
@[simp] def HG:Value->Option η
 | .int k z=>some (.z (.int k z))
 | .slice none 0 0=>some (.sl true 0 [])
 | _=>none
theorem Vj {Ap:Value} {ps:η} (h:HG Ap=some ps):Ap.cells=#[Ap]/\ps.cells=[ps]/\(∀S B σ,av S B σ ps Ap)/\One Ap:=by
 unfold HG at h;split at h
 ·cases h;exact⟨rfl,rfl,λ_ _ _=>.z _,trivial⟩
 ·cases h;exact⟨rfl,rfl,λ_ _ _=>.iB _ _ (λ_=>rfl),trivial⟩
 ·cases h
def DS (T:bb) (ty:TypeId) (σ:List Row) (x:η):cV:=match x with
 | .ms id n i len=>match T ty,σ[id]? with
  | some lr,some (.cells t k l)=>match lr.bG with
   | .slice e=>match T e with
    | some bV=>match HG bV.zero with
     | some ps=>if l.length=n/\k=1/\i+len<=n/\(∀a∈l,a.cells.length=1) then .ok .cg (σ.set id (.cells t k (l.take i++List.replicate len ps++l.drop (i+len)))) else .bad
     | none=>.bad
    | none=>.bad
   | _=>.bad
  | _,_=>.bad
 | _=>.bad
theorem Vk (Ι:bN P T) (Β:Holds S B σ H) {ty:TypeId} (rt:TypeId) {x:η} {u:Value} (hm:av S B σ x u):cS P (Builtin.clear_ #[ty] rt #[u]) S B H σ (DS T ty σ x):=by
 unfold DS;split
 ·rename_i id n i len;split
  ·rename_i lr t k l HH ξ;split
   ·rename_i e hu;split
    ·rename_i bV eI;split
     ·rename_i ps Φ;obtain⟨vY,p8,zK,DT⟩:=Vj Φ;split
      ·rename_i ε;obtain⟨Ζ,rfl,bf,_⟩:=ε;have b5:id<σ.length:=(bX.1 ξ).1;have pg:id<B.length:=by rw[Β.len];exact b5
       intro K θ;have same:len=0->jv S B H σ K (.tuple #[]) H:=λcF=>by
        subst cF;have uJ:σ.set id (.cells t 1 (l.take i++List.replicate 0 ps++l.drop (i+0)))=σ:=by
         rw[List.replicate_zero,List.append_nil,Nat.add_zero,List.take_append_drop];apply List.ext_getElem?;intro j;by_cases lx:id=j
         ·subst lx;rw[List.getElem?_set_self b5,ξ]
         ·rw[List.getElem?_set_ne lx]
        simp only[cV.holds] at θ;rw[uJ] at θ;exact⟨S,B,σ,_,θ,.refl _ _ _,Β,.refl _ _ _,.cg _⟩
       cases hm with
       | jO v J U=>rw[ξ] at J;cases J;simp only[Row.hx] at U;omega
       | ms cap J U μ Ε au bd=>
        rename_i bo base;rw[ξ] at J;cases J;unfold Builtin.clear_;refine ς.bind' (Ι.bG HH ?_);rw[hu];cases base with
        | none=>
         refine ς.bind' (ς.pure' ?_);have cF:len=0:=by
          rcases bd with bd|⟨b,N,_,hb,_⟩
          ·omega
          ·cases hb
         exact ς.pure' (same cF)
        | some a=>
         by_cases cF:len=0
         ·subst cF;refine ς.bind' (ς.pure' ?_);exact ς.pure' (same rfl)
         ·rcases bd with bd|⟨b,N,rfl,hb,bd⟩
          ·omega
          ·cases hb;obtain⟨bQ,ck,gn,w,hw⟩:=Β.row id _ _ ξ μ;obtain⟨m,rfl⟩:∃m,len=m+1:=⟨len-1,R⟩;simp only;refine ς.bind' (Ι.zero eI ?_);have Vl:(Builtin.zeroCells bV.zero.cells (m+1)).toList=List.replicate (m+1) bV.zero:=by
            simp only[Builtin.zeroCells,vY];rw[Array.toList_map,Array.toList_range];refine List.ext_getElem? λj=>?_;rw[List.getElem?_map,List.getElem?_replicate];by_cases δ:j<m+1
            ·rw[List.getElem?_range (by simpa using δ),if_pos δ];simp[Nat.mod_one]
            ·rw[List.getElem?_eq_none (by simp;omega),if_neg δ];rfl
           rw[Vl];have iZ:∀(y:Nat) (c:η),(l.take i++List.replicate (m+1) ps++l.drop (i+(m+1)))[y]?=some c->(i<=y/\y<i+(m+1)/\c=ps)\/((y<i\/i+(m+1)<=y)/\l[y]?=some c):=λy c Κ=>by
            by_cases c1:y<i
            ·rw[List.append_assoc,dI (by simp;omega),List.getElem?_take_of_lt c1] at Κ;exact .inr ⟨.inl c1,Κ⟩
            ·by_cases c2:y<i+(m+1)
             ·rw[dI (by simp;omega),hp (by simp;omega),List.getElem?_replicate] at Κ;split at Κ
              ·cases Κ;exact .inl ⟨R,c2,rfl⟩
              ·cases Κ
             ·rw[hp (by simp;omega),List.getElem?_drop] at Κ;have Γ:i+(m+1)+(y-(l.take i++List.replicate (m+1) ps).length)=y:=by simp;omega
              rw[Γ] at Κ;exact .inr ⟨.inr R,Κ⟩
           obtain⟨dn,p2,p3⟩:=Β.xZ (H':=H.hN b i (List.replicate (m+1) bV.zero)) (r':=.cells t 1 (l.take i++List.replicate (m+1) ps++l.drop (i+(m+1)))) (bo':=some (b,N)) ξ trivial μ (.inl ⟨_,rfl,by simp;omega,rfl⟩) (λΨ e' aM=>.inl ⟨e',aM⟩)
            (λΨ J _=>by
             have bA:Ψ≠b:=λaM=>by subst aM;exact J N rfl
             exact⟨λo=>by simp[Α.hN,bA],rfl,rfl⟩) Α.G6 (De Β ξ) (λlh=>by
             refine⟨bQ,by simp;omega,λo ψ=>?_,λy j=>if i<=y/\y<i+(m+1) then bV.zero else w y j,λy c Κ=>?_⟩
             ·simp only[Α.hN];split
              ·exact⟨_,rfl⟩
              ·exact gn o ψ
             ·rcases iZ y c Κ with⟨c1,c2,rfl⟩|⟨c1,vQ⟩
              ·refine⟨by rw[p8];rfl,λj a δ=>?_⟩;rw[p8] at δ;have fN:j=0:=by have:=(bX.1 δ).1;simp at this;omega
               subst fN;simp at δ;subst δ;simp only[c1,c2,and_self,if_true];refine⟨?_,zK _ _ _,DT⟩;simp only[Α.hN,List.length_replicate];rw[if_pos ⟨trivial,R,R⟩,List.getElem?_replicate,if_pos R];rfl
              ·refine⟨(hw y c vQ).1,λj a δ=>?_⟩;obtain⟨Ρ,aa,aX⟩:=(hw y c vQ).2 j a δ;have fN:j=0:=by have:=(bX.1 δ).1;rw[(hw y c vQ).1] at this;omega
               subst fN;have uM:¬(i<=y/\y<i+(m+1)):=R;simp only[uM,if_false];refine⟨?_,aa.later lh,aX⟩;simp only[Α.hN,List.length_replicate];rw[if_neg R];exact Ρ)
           have κ:(⟨b,i*1,none⟩:Addr)=⟨b,i,none⟩:=by rw[Nat.mul_one]
           rw[κ];refine ς.bind' ?_;refine ς.storeCells (G:=H) rfl ⟨t,N,bQ⟩ _ 0 H (λv hv=>by rw[List.eq_of_mem_replicate hv];trivial) (λj _ δ=>?_) rfl ?_
           ·rw[List.length_replicate] at δ;obtain⟨bZ,yd⟩:=gn (i+j) R;exact⟨bZ,yd⟩
           ·exact ς.pure' ⟨S,_,_,_,θ,p2,dn,p3,.cg _⟩
      ·exact .bad
     ·exact .bad
    ·exact .bad
   ·exact .bad
  ·exact .bad
 ·exact .bad
def DU (T:bb) (ty:TypeId) (σ:List Row) (mp:η):cV:=match wm T ty,mp with
 | some _,.mp id=>match σ[id]? with
  | some (.map _)=>if oD σ id=true then .ok .cg (σ.set id (.map [])) else .bad
  | _=>.bad
 | _,_=>DS T ty σ mp
theorem Vm (Ι:bN P T) (Β:Holds S B σ H) {ty:TypeId} (rt:TypeId) {mp:η} {u:Value} (hm:av S B σ mp u):cS P (Builtin.clear_ #[ty] rt #[u]) S B H σ (DU T ty σ mp):=by
 unfold DU;split
 ·rename_i Am id wq;obtain⟨i,hi,hu⟩:=DI (kt:=Am.1) (vt:=Am.2) wq;split
  ·rename_i es bQ;split
   ·rename_i lp;cases hm with
    | mp J U=>
     rename_i b N;rw[bQ] at J;cases J;obtain⟨xs,clock,nP,hQ⟩:=Ak Β bQ U;obtain⟨dn,p2,p3⟩:=HC Β (es':=[]) (xs':=#[]) (clock':=clock) bQ U lp λ_=>⟨rfl,λi e y J=>by simp at J,λi j y z J=>by simp at J⟩;intro K θ;unfold Builtin.clear_;refine ς.bind' (Ι.bG hi ?_);rw[hu];refine ς.bind' ?_;refine⟨_,nP,rfl,?_⟩;refine ς.pure' ?_;refine⟨⟨_,nP⟩,rfl,rfl,?_⟩;exact ς.pure' ⟨S,_,_,_,θ,p2,dn,p3,.cg _⟩
    | l8 v J=>rw[bQ] at J;cases J
   ·exact .bad
  ·exact .bad
 ·exact Vk Ι Β rt hm
end
def wv (T:bb) (op:BinOp) (ty:TypeId) (a b:η):cw:=match aeqv T ty a b with
 | some r=>match op with
  | .eql=>.ok (.z (.bool r))
  | .neq=>.ok (.z (.bool !r))
  | _=>.bad
 | none=>.bad
def DV (T:bb) (op:BinOp) (ty:TypeId) (a b:η):cw:=match a,b with
 | .z x,.z y=>match sV op x y with
  | .ok v=>.ok v
  | .b6 p r=>.b6 p r
  | .bad=>wv T op ty (.z x) (.z y)
 | .a0 x,.a0 y=>wv T op ty (.a0 x) (.a0 y)
 | _,_=>.bad
def DW (T:bb) (ty:TypeId) (x bB:η):cw:=match T ty with
 | some i=>match i.bG,x,bB with
  | .string,.z (.string s),.z (.int _ n)=>.b6 (0<=n/\n<s.size) (.ok (.z (.int .u8 (s.data.toList.getD n.toNat 0).toNat)))
  | .array len e,.a0 xs,.z (.int _ n)=>match T e with
   | some bV=>if bV.agg=false/\bV.size=1/\xs.length=len then .b6 (0<=n/\n<len) (.ok (xs.getD n.toNat .cg)) else .bad
   | none=>.bad
  | _,_,_=>.bad
 | none=>.bad
def DX (x:η):cw:=match x with
 | .ao c=>.ok (.ao c)
 | .fn (.func f) a b=>.ok (.fn (.func f) a b)
 | .z (.pointer (some a))=>.ok (.z (.pointer (some a)))
 | _=>.bad
def wx (σ:List Row) (x:η):cV:=match x with
 | .ah id n i j=>match σ[id]? with
  | some (.cells _ _ l)=>if l.length=n then .ok (.ah id n i j) σ else .bad
  | _=>.bad
 | _=>.bad
def DY (T:bb) (arr:TypeId) (x:η):cw:=match T arr with
 | some i=>match i.bG,x with
  | .array n _,.sl _ k l=>if 0<n/\k=1/\(l.all λe=>decide (e.cells.length=1)&&η.bc [] e)=true then .b6 (n<=l.length) (.ok (.ao (l.take n))) else .bad
  | _,_=>.bad
 | none=>.bad
def s0:List η->Option (List Int)
 | []=>some []
 | .z (.int .i32 n)::r=>(s0 r).map (n::·)
 | _=>none
def spell (l:List Int):ByteArray:=l.foldl (λs n=>s++Utf8.encode n) .empty
def Aq (T:bb) (ty:TypeId):Bool:=match T ty with
 | some i=>match i.bG with
  | .slice e=>match T e with|some bV=>(match bV.bG with|.int .i32=>true|_=>false)&&bV.size==1|none=>false
  | _=>false
 | none=>false
def Ar (T:bb) (ty:TypeId):Bool:=match T ty with|some i=>(match i.bG with|.string=>true|_=>false)|none=>false
def uN (T:bb) (src dst:TypeId) (σ:List Row) (x:η):cw:=if Aq T src=true/\Ar T dst=true then match qi σ x with
 | some (k,l)=>if k=1\/l.isEmpty=true then match s0 l with|some r=>.ok (.z (.string (spell r)))|none=>.bad else .bad
 | none=>.bad else .bad
def DZ (T:bb) (src dst:TypeId) (x:η):cw:=if Ar T src=true/\Aq T dst=true then match x with
 | .z (.string s)=>.ok (.sl false 1 ((Conv.runesFrom s s.size 0 #[]).toList.map .z))
 | _=>.bad else .bad
section
variable {P:Program} {T:bb} {S:aL} {B:aW} {H:Α} {σ:List Row}
theorem Vn {op:BinOp} {ty:TypeId} {p q:Operand} {vs ws:Array Value} (Ο:P.eqGuardType P.depth ty=false) {G:Α} {K:Unit->Α->Prop} {E:Value->Α->Prop} (χ:K () G):ς P (eqGuard op ty p q (.agg vs) (.agg ws)) G K E:=by
 cases op<;>first|exact ς.pure' χ|skip
 all_goals
  unfold eqGuard;simp only[Bool.not_true,Bool.false_eq_true,if_false];refine ς.bind' ?_;show ς P _ G K E;refine ς.bind' ?_;show ς P _ G K E;rw[if_pos (by rw[Ο];rfl)];exact ς.pure' χ
theorem MX (Ι:bN P T) (Β:Holds S B σ H) {op:BinOp} {ty:TypeId} {p q:Operand} {a b:η} {v w:Value} (κ:av S B σ a v) (hb:av S B σ b w) (MY:∀r,aeqv T ty a b=some r->(op=.eql\/op=.neq)->∀(K:Unit->Α->Prop),K () H->ς P (eqGuard op ty p q v w) H K (λ_ _=>False))
  (Vo:∀r,aeqv T ty a b=some r->(binOp .eql ty v w=(do pure (.bool (<-Op.equal ty v w)))/\binOp .neq ty v w=(do pure (.bool (!(<-Op.equal ty v w)))))) :
  cS P (do eqGuard op ty p q v w;binOp op ty v w) S B H σ ((wv T op ty a b).dw σ):=by
 unfold wv;split
 ·rename_i r ι;obtain⟨J,U⟩:=Vo r ι;split
  ·intro K θ;refine ς.bind' (MY r ι (.inl rfl) _ ?_);rw[J];exact ς.bind' (Hx Ι κ hb ι (ς.pure' (.same Β θ (.z _))))
  ·intro K θ;refine ς.bind' (MY r ι (.inr rfl) _ ?_);rw[U];exact ς.bind' (Hx Ι κ hb ι (ς.pure' (.same Β θ (.z _))))
  ·exact .bad
 ·exact .bad
theorem Vp (Ι:bN P T) (Β:Holds S B σ H) (op:BinOp) (ty:TypeId) (p q:Operand) {a b:η} {v w:Value} (κ:av S B σ a v) (hb:av S B σ b w):cS P (do eqGuard op ty p q v w;binOp op ty v w) S B H σ ((DV T op ty a b).dw σ):=by
 unfold DV;split
 ·rename_i x y;have Φ:=T8 (P:=P) Β op ty p q v w;cases κ;cases hb;split
  ·rename_i r ι;rw[ι] at Φ;exact Φ
  ·rename_i pp r ι;rw[ι] at Φ;exact Φ
  ·rename_i nQ;have iy:∀r,aeqv T ty (.z v) (.z w)=some r->(∃c d,v=.bool c/\w=.bool d)\/¬(op=.eql\/op=.neq):=λr ι=>by
    unfold aeqv at ι;split at ι<;>try cases ι
    simp only at ι;split at ι<;>try cases ι
    unfold m2 at ι;split at ι
    ·split at ι
     ·rename_i e;subst e;refine .inr λψ=>?_;rcases ψ with rfl|rfl<;>simp[sV] at nQ
     ·cases ι
    ·refine .inr λψ=>?_;rcases ψ with rfl|rfl<;>simp[sV] at nQ
    ·exact .inl ⟨_,_,rfl,rfl⟩
    ·cases ι
   by_cases Μ:op=.eql\/op=.neq
   ·by_cases ι:∃r,aeqv T ty (.z v) (.z w)=some r
    ·obtain⟨r,ι⟩:=ι;rcases iy r ι with⟨c,d,rfl,rfl⟩|h
     ·exact MX Ι Β (.z _) (.z _) (λ_ _ _ K θ=>by unfold eqGuard;split<;>exact ς.pure' θ) (λ_ _=>⟨rfl,rfl⟩)
     ·exact absurd Μ h
    ·have:aeqv T ty (.z v) (.z w)=none:=by
      cases h:aeqv T ty (.z v) (.z w) with
      | none=>rfl
      | some r=>exact absurd ⟨r,h⟩ ι
     unfold wv;rw[this];exact .bad
   ·unfold wv;split
    ·split
     ·exact absurd (.inl rfl) Μ
     ·exact absurd (.inr rfl) Μ
     ·exact .bad
    ·exact .bad
 ·rename_i x y;cases κ with
  | a0 vs Ρ aa=>cases hb with
   | a0 ws k1 cp=>
    refine MX Ι Β (.a0 vs Ρ aa) (.a0 ws k1 cp) (λr ι _ K θ=>?_) (λ_ _=>⟨rfl,rfl⟩);have Ο:P.eqGuardType P.depth ty=false:=by
     unfold aeqv at ι;split at ι<;>try cases ι
     rename_i i hi;simp only at ι;split at ι<;>try cases ι
     rename_i items dD;have:=(Ι ty i hi).1.2;rw[dD] at this;exact this.1
    exact Vn Ο θ
 ·exact .bad
theorem Vq (Ι:bN P T) (Β:Holds S B σ H) (ty:TypeId) {x bB:η} {v w:Value} (γ:av S B σ x v) (hi:av S B σ bB w):cS P (Instr.index ty v w) S B H σ ((DW T ty x bB).dw σ):=by
 unfold DW;cases Ν:T ty with
 | none=>exact .bad
 | some i=>
  simp only;split
  ·rename_i s kk n hu;cases γ;cases hi;refine cS.b6 (r:=(cw.ok (.z (.int .u8 (s.data.toList.getD n.toNat 0).toNat))).dw σ) λΖ K θ=>?_;unfold Instr.index;refine ς.bind' (ς.pure' ?_);refine ς.bind' (Ι.bG Ν ?_);rw[hu];have aO:n.toNat<s.data.size:=by have:s.size=s.data.size:=rfl;omega
   have Γ:(if 0<=n then s[n.toNat]? else none)=some s.data[n.toNat]:=by
    rw[if_pos Ζ.1];show s[n.toNat]?=_;rw[getElem?_pos s n.toNat R];rfl
   simp only[Γ];have Δ:s.data.toList.getD n.toNat 0=s.data[n.toNat]:=by rw[List.getD_eq_getElem?_getD,Array.getElem?_toList,ff aO];rfl
   rw[Δ] at θ;exact ς.pure' (.same Β θ (.z _))
  ·rename_i len e xs kk n hu;cases hi;split
   ·rename_i bV eI;split
    ·rename_i ε;obtain⟨c1,c2,c3⟩:=ε;refine cS.b6 (r:=(cw.ok (xs.getD n.toNat .cg)).dw σ) λΖ K θ=>?_;cases γ with
     | a0 vs Ρ aa=>
      unfold Instr.index;refine ς.bind' (ς.pure' ?_);refine ς.bind' (Ι.bG Ν ?_);rw[hu];simp only[Ζ,and_self,if_true];refine ς.bind' (Ι.size eI ?_);rw[c2,Nat.mul_one];unfold part;refine ς.bind' (Ι.agg eI ?_);rw[c1];have aO:n.toNat<xs.length:=R;have hv:n.toNat<vs.size:=by rw[<-Ρ];exact aO
      simp only[Bool.false_eq_true,if_false,ff hv];have Δ:xs.getD n.toNat .cg=xs[n.toNat]:=by simp[aO]
      rw[Δ] at θ;exact ς.pure' (.same Β θ (aa _ _ _ (a8 aO) (ff hv)))
    ·exact .bad
   ·exact .bad
  ·exact .bad
theorem Vr (Β:Holds S B σ H) {ρ:Operand->Value} {o:Oper} {x:Operand} (ψ:o.op=.nilCheck x) {a:η} (κ:av S B σ a (ρ x)):Does P (execOp ρ o) S B H σ ((DX a).dw σ):=by
 unfold DX;split
 ·unfold execOp;rw[ψ];simp only;generalize ρ x=v at κ;cases κ with
  | ao b o w J U=>exact Does.val Β (.ao b o w J U)
 ·unfold execOp;rw[ψ];simp only;generalize ρ x=v at κ;cases κ with
  | fn vs ws J U μ Ε=>exact Does.val Β (.fn vs ws J U μ Ε)
 ·unfold execOp;rw[ψ];simp only;generalize ρ x=v at κ;cases κ;exact Does.val Β (.z _)
 ·exact .bad
theorem Vs (Β:Holds S B σ H) {ρ:Operand->Value} {o:Oper} {x:Operand} (ψ:o.op=.nilCheck x) {a:η} (κ:av S B σ a (ρ x)):Does P (execOp ρ o) S B H σ (wx σ a):=by
 unfold wx;split
 ·split
  ·rename_i t k l ξ;split
   ·rename_i Ζ;unfold execOp;rw[ψ];simp only;generalize ρ x=v at κ;cases κ with
    | ah J U μ=>exact Does.val Β (.ah J U μ)
    | j9 v J U=>rw[ξ] at J;cases J;simp only[Row.hx] at U;omega
   ·exact .bad
  ·exact .bad
 ·exact .bad
theorem Vt (Ι:bN P T) (Β:Holds S B σ H) (arr:TypeId) {x:η} {v:Value} (γ:av S B σ x v):cS P (Instr.arrayAt arr v) S B H σ ((DY T arr x).dw σ):=by
 unfold DY;cases Ν:T arr with
 | none=>exact .bad
 | some i=>
  simp only;split
  ·rename_i n e ex k l hu;split
   ·rename_i ε;obtain⟨c1,c2,c3⟩:=ε;subst c2;refine cS.b6 (r:=(cw.ok (.ao (l.take n))).dw σ) λΖ K θ=>?_;obtain⟨base,cap,rfl,_,_,μ⟩:=rB γ;obtain⟨b,o,w,rfl,Ε,au,bd⟩:=μ (λe=>by subst e;simp at Ζ;omega);unfold Instr.arrayAt;refine ς.bind' (Ι.bG Ν ?_);rw[hu];simp only;rw[if_neg R];rw[List.all_eq_true] at c3;have el:∀(j:Nat) (e:η),(l.take n)[j]?=some e->l[j]?=some e/\e.cells=[e]:=λj e δ=>by
     have hm:=c3 e (List.mem_of_mem_take (cG δ));simp only[Bool.and_eq_true] at hm;rw[List.getElem?_take] at δ;split at δ
     ·exact⟨δ,η.Hb hm.2⟩
     ·cases δ
    refine ς.pure' (.same Β θ (.ao b o (λj=>w j 0) (λj a δ=>?_) (λj a δ=>?_)))
    ·obtain⟨Ρ,aa⟩:=el j a δ;have:=au j a Ρ 0 a (by rw[aa];rfl);simpa using this
    ·obtain⟨Ρ,aa⟩:=el j a δ;exact bd j a Ρ 0 a (by rw[aa];rfl)
   ·exact .bad
  ·exact .bad
theorem MZ {ty:TypeId} (h:Aq T ty=true):∃i e bV,T ty=some i/\i.bG=.slice e/\T e=some bV/\bV.bG=.int .i32/\bV.size=1:=by
 unfold Aq at h;split at h
 ·rename_i i hi;split at h
  ·rename_i e hu;split at h
   ·rename_i bV eI;simp only[Bool.and_eq_true,beq_iff_eq] at h;refine⟨i,e,bV,hi,hu,eI,?_,h.2⟩;have:=h.1;split at this
    ·assumption
    ·cases this
   ·cases h
  ·cases h
 ·cases h
theorem M0 {ty:TypeId} (h:Ar T ty=true):∃i,T ty=some i/\i.bG=.string:=by
 unfold Ar at h;split at h
 ·rename_i i hi;refine⟨i,hi,?_⟩;split at h
  ·assumption
  ·cases h
 ·cases h
theorem Vu (Ι:bN P T) (Β:Holds S B σ H) (src dst:TypeId) {x:η} {v:Value} (γ:av S B σ x v):cS P (convert src dst v) S B H σ ((DZ T src dst x).dw σ):=by
 unfold DZ;split
 ·rename_i ε;obtain⟨i,hi,hu⟩:=M0 ε.1;obtain⟨j,e,bV,δ,HI,eI,HJ,cv⟩:=MZ ε.2;split
  ·rename_i s;cases γ;intro K θ;unfold convert;refine ς.bind' (Ι.bG hi (ς.bind' (Ι.bG δ ?_)));rw[hu,HI];simp only;refine ς.bind' (Ι.bG eI ?_);rw[HJ];simp only;unfold Conv.stringToRunes;refine ς.bind' ?_;unfold choose;simp only[ς];have Ξ:(Question.appendCap (Conv.runesFrom s s.size 0 #[]).size 0 e).forced=false:=rfl;rw[Ξ];simp only[Bool.false_eq_true,if_false];intro q;generalize HK:Conv.runesFrom s s.size 0 #[]=mb at θ ⊢;have x5:mb.size<=(Question.appendCap mb.size 0 e).cut q:=by simp[Question.cut]
   refine ς.bind' (ς.bind' ?_);have Vv:∀v∈mb,One v:=by
    have key:∀(bound i:Nat) (acc:Array Value),(∀v∈acc,One v)->∀v∈Conv.runesFrom s bound i acc,One v:=by
     intro bound
     induction bound with
     | zero=>intro i acc h;exact h
     | succ n ω=>
      intro i acc h;unfold Conv.runesFrom;split
      ·refine ω _ _ λv hv=>?_;rcases Array.mem_push.1 hv with hv|rfl
       ·exact h v hv
       ·trivial
      ·exact h
    rw[<-HK];exact key _ _ _ (λv hv=>by simp at hv)
   have Ah:gb S B σ (mb++Array.replicate ((Question.appendCap mb.size 0 e).cut q-mb.size) (.int .i32 0)) 1 (mb.toList.map .z):=by
    refine⟨ζ,λj a δ=>?_⟩;rw[List.getElem?_map,Array.getElem?_toList] at δ;cases γ:mb[j]? with
    | none=>rw[γ] at δ;cases δ
    | some y=>
     rw[γ] at δ;cases δ;refine⟨rfl,λz b Φ=>?_⟩
     match z with
     | 0=>
      simp[η.cells] at Φ;subst Φ;refine⟨y,?_,.z y,Vv y (Array.mem_of_getElem? γ)⟩;have:=(Array.getElem?_eq_some_iff.1 γ).1;rw[Array.getElem?_append_left (by simpa using this)];simpa using γ
     | z+1=>simp[η.cells] at Φ
   refine Ab Β _ e λr J U μ=>ς.pure' (ς.pure' ⟨_,_,_,_,θ,U,J,μ,?_⟩);have:=Dh (cap:=(Question.appendCap mb.size 0 e).cut q) false μ Ah (by simpa using x5) ζ;simpa using this
  ·exact .bad
 ·exact .bad
theorem Vw:∀(l:List η) (r:List Int),s0 l=some r->r.length=l.length/\∀(i:Nat) (n:Int),r[i]?=some n->l[i]?=some (.z (.int .i32 n)):=by
 intro l
 induction l with
 | nil=>intro r h;cases h;exact⟨rfl,λi n h=>by simp at h⟩
 | cons a l ω=>
  intro r h;unfold s0 at h;split at h
  ·rename_i heq;cases heq
  ·rename_i n ep heq;cases heq;cases ξ:s0 l with
   | none=>rw[ξ] at h;cases h
   | some r'=>
    rw[ξ] at h;cases h;obtain⟨J,U⟩:=ω r' ξ;refine⟨by simp[J],λi m hm=>?_⟩;cases i with
    | zero=>simp at hm;subst hm;rfl
    | succ i=>exact U i m (by simpa using hm)
  ·cases h
theorem Vx (Ι:bN P T) (Β:Holds S B σ H) (src dst:TypeId) {x:η} {v:Value} (γ:av S B σ x v):cS P (convert src dst v) S B H σ ((uN T src dst σ x).dw σ):=by
 unfold uN;split
 ·rename_i ε;obtain⟨i,e,bV,hi,hu,eI,HJ,cv⟩:=MZ ε.1;obtain⟨j,δ,HI⟩:=M0 ε.2;split
  ·rename_i k l ξ;split
   ·rename_i χ;split
    ·rename_i r ι;obtain⟨base,cap,w,rfl,_,HL,HK⟩:=Ds Β γ (k:=1) ξ R (χ.symm);obtain⟨Cz,Vy⟩:=Vw l r ι;intro K θ;unfold convert;refine ς.bind' (Ι.bG hi (ς.bind' (Ι.bG δ ?_)));rw[hu,HI];have hw:∀i,i<l.length->w i=.int .i32 (r.getD i 0):=λi jw=>by
      have M1:r[i]?=some r[i]:=a8 R
      have:=(HK i _ (Vy i _ M1)).2 0 _ rfl;rw[Nat.mul_one,Nat.add_zero] at this;rw[List.getD_eq_getElem?_getD,M1];generalize w i=u at this;cases this;rfl
     have go:ς P (Conv.runesToString (.slice base l.length cap)) H (jv S B H σ K) (λ_ _=>False):=by
      unfold Conv.runesToString;rw[Nat.mul_one] at HL;cases base with
      | none=>
       simp only;rcases HL with an|⟨b,o,hb,_⟩
       ·have:r=[]:=dO.1 (by rw[Cz,an]);subst this;exact ς.pure' (.same Β θ (.z _))
       ·cases hb
      | some a=>
       simp only;have fold:∀(rs:List Int) (acc:ByteArray),ς P (forIn (rs.map λn=>Value.int .i32 n) acc λ(c:Value) (s:ByteArray)=>do
         let .int .i32 n:=c|stuck "runesToString: rune expected"
         pure (ForInStep.yield (s++Utf8.encode n))) H (λs H'=>s=rs.foldl (λs n=>s++Utf8.encode n) acc/\H'=H) (λ_ _=>False):=by
        intro rs
        induction rs with
        | nil=>intro acc;exact .forIn_nil ⟨rfl,rfl⟩
        | cons n rs ω=>
         intro acc;rw[List.map_cons];refine .forIn_cons ?_;exact ς.pure' (ω (acc++Utf8.encode n))
       have cells:ς P (loadCells a l.length) H (λvs H'=>vs=(r.map λn=>Value.int .i32 n).toArray/\H'=H) (λ_ _=>False):=by
        rcases HL with an|⟨b,o,hb,Hs⟩
        ·rw[an];have:r=[]:=dO.1 (by rw[Cz,an]);subst this;exact ς.pure' ⟨rfl,rfl⟩
        ·cases hb;refine ς.loadCells w rfl Hs ⟨?_,rfl⟩;congr 1;apply List.ext_getElem?;intro i;rw[List.getElem?_map,List.getElem?_map];by_cases jw:i<l.length
         ·rw[List.getElem?_range jw,a8 (show i<r.length by omega)];simp only[Option.map_some];rw[hw i jw,List.getD_eq_getElem?_getD,a8 (show i<r.length by omega)];rfl
         ·rw[List.getElem?_eq_none (by simp;omega),List.getElem?_eq_none R];rfl
       refine ς.bind' (ς.mono (λvs H' ⟨Γ,Δ⟩=>?_) (λ_ _ h=>h) _ cells);subst Γ;subst Δ;rw[<-Array.forIn_toList];refine ς.bind' (ς.mono (λs H' ⟨Γ,Δ⟩=>?_) (λ_ _ h=>h) _ (fold r .empty));subst Γ;subst Δ;exact ς.pure' (.same Β θ (.z _))
     have:ς P (do
      match <-underlying e with
      | .int .u8=>Conv.bytesToString (.slice base l.length cap)
      | .int .i32=>Conv.runesToString (.slice base l.length cap)
      | _=>stuck "Convert: a slice of what to string?") H (jv S B H σ K) (λ_ _=>False):=by
      refine ς.bind' (Ι.bG eI ?_);rw[HJ];exact go
     cases base<;>exact this
    ·exact .bad
   ·exact .bad
  ·exact .bad
 ·exact .bad
end
def D1 (σ:List Row):cV:=.all 2 λj=>.ok (.z (.bool (j==1))) σ
def D2 (T:bb) (ty:TypeId) (σ:List Row) (a:η):cV:=match T ty with
 | some i=>match i.bG with
  | .slice _=>match a with
   | .ms id n i len=>match σ[id]? with
    | some (.cells _ _ l)=>if l.length=n/\i+len<=n then(if len=0 then D1 σ else .ok (.z (.bool false)) σ) else .bad
    | _=>.bad
   | .sl _ _ l=>if l.isEmpty then D1 σ else .ok (.z (.bool false)) σ
   | _=>.bad
  | _=>.bad
 | none=>.bad
section
variable {P:Program} {T:bb} {S:aL} {B:aW} {H:Α} {σ:List Row}
theorem As (Ι:bN P T) (Β:Holds S B σ H) {ty:TypeId} {i:iC} (hi:T ty=some i) {e:TypeId} (hu:i.bG=.slice e) (p q:Operand) (base:Option Addr) (len cap:Nat) {dw:cV}
  (Vz:∀K,dw.holds K->K (.z (.bool base.isNone)) σ):cS P (do eqGuard .eql ty p q (.slice base len cap) (.slice none 0 0);binOp .eql ty (.slice base len cap) (.slice none 0 0)) S B H σ dw:=by
 intro K θ;have θ:=Vz K θ;refine ς.bind' ?_;unfold eqGuard;refine ς.pure' ?_;have VA:binOp .eql ty (.slice base len cap) (.slice none 0 0)=(do pure (Value.bool (<-Op.equal ty (.slice base len cap) (.slice none 0 0)))):=rfl;rw[VA];refine ς.bind' ?_;unfold Op.equal;unfold Op.equalIn;refine ς.bind' (Ι.bG hi ?_);rw[hu];cases base with
 | none=>exact ς.pure' (ς.pure' (.same Β θ (.z _)))
 | some b=>exact ς.pure' (ς.pure' (.same Β θ (.z _)))
theorem HM {K:η->List Row->Prop} (h:(D1 σ).holds K) (b:Bool):K (.z (.bool b)) σ:=by
 cases b
 ·exact h 0 br
 ·exact h 1 br
theorem VB (Ι:bN P T) (Β:Holds S B σ H) (ty:TypeId) (p q:Operand) {a:η} {v:Value} (κ:av S B σ a v):cS P (do eqGuard .eql ty p q v (.slice none 0 0);binOp .eql ty v (.slice none 0 0)) S B H σ (D2 T ty σ a):=by
 unfold D2;split
 ·rename_i i hi;split
  ·rename_i e hu;split
   ·rename_i id n j len;split
    ·rename_i t k l ι;split
     ·rename_i ε;cases κ with
      | @ms _ _ _ _ _ _ _ bo base cap J U μ Ε au bd=>
       split
       ·exact As Ι Β hi hu p q base len cap λK θ=>HM θ _
       ·rename_i hlen;refine As Ι Β hi hu p q base len cap λK θ=>?_;rcases bd with bd|⟨b,N,_,g7,_⟩
        ·omega
        ·rw[g7];exact θ
      | jO v J U=>
       rw[ι] at J;cases J;exact absurd ε.1 (Nat.ne_of_gt U)
     ·exact .bad
    ·exact .bad
   ·rename_i l;cases κ with
    | iB base cap J=>exact As Ι Β hi hu p q base 0 cap λK θ=>HM θ _
    | sl b o cap w J U=>
     split
     ·exact As Ι Β hi hu p q _ _ cap λK θ=>HM θ _
     ·exact As Ι Β hi hu p q _ _ cap λK θ=>θ
   ·exact .bad
  ·exact .bad
 ·exact .bad
end
def cw.or (r:cw) (σ:List Row) (s:cV):cV:=match r with
 | .ok a=>.ok a σ
 | .b6 p r=>.b6 p (r.dw σ)
 | .bad=>s
def qp (A:List Nat) (d:Option Tmp):Bool:=match d with|some d=>A.contains d|none=>false
def s3 (env:Χ) (cZ:Array (Nat×Operand)):List (Nat×η):=cZ.toList.map λp=>(p.1,aR env p.2)
def yg (c a b:η):cw:=match c with
 | .z (.bool v)=>match a,b with
  | .z (.bool x),.z (.bool y)=>.ok (.z (.bool (bif v then x else y)))
  | _,_=>match v with|true=>.ok a|false=>.ok b
 | _=>.bad
def s4 (T:bb) (σ:List Row) (src dst:TypeId) (x:η):cw:=match x9 T src dst x with
 | .bad=>match DZ T src dst x with
  | .bad=>uN T src dst σ x
  | r=>r
 | r=>r
def jx (T:bb) (A:List Nat) (env:Χ) (o:Oper):cw:=
 match o.op with
 | .move x=>.ok (aR env x)
 | .assign x=>.ok (aR env x)
 | .pick c a b=>yg (aR env c) (aR env a) (aR env b)
 | .alloc ty=>if qp A o.dst then .bad else Dk T ty
 | .box _ x=>if qp A o.dst then .bad else x6 (aR env x)
 | .build ty cZ=>nM T (η.bc []) ty (s3 env cZ)
 | .buildSlice ty n cZ=>if qp A o.dst then .bad else Ae T (η.bc []) ty n (s3 env cZ)
 | .load ty x=>C' T ty (aR env x)
 | .binOp op ty x y _=>DV T op ty (aR env x) (aR env y)
 | .unOp op _ x=>x1 op (aR env x)
 | .convert s d x=>s4 T [] s d (aR env x)
 | .index ty x i=>DW T ty (aR env x) (aR env i)
 | .nilCheck x=>DX (aR env x)
 | .sliceToArrayPointer ty x=>DY T ty (aR env x)
 | .makeInterface ty x=>C9 T ty (aR env x)
 | .makeFunc f df cs=>.ok (.fn f (df.toList.map (aR env)) (cs.toList.map (aR env)))
 | .makeSlice ty n c=>if qp A o.dst then .bad else Dq T ty (aR env n) (aR env c)
 | .slice ty x lo hi none=>Dy T ty (aR env x) (lo.map (aR env)) (hi.map (aR env))
 | .fieldAddr ty x f=>Db T ty f (aR env x)
 | .indexAddr ty x i=>Dd T ty (aR env x) (aR env i)
 | .typeAssert x _ ty ok=>v' T ty ok (aR env x)
 | .extract x i=>C8 i (aR env x)
 | .call ⟨.builtin b,⟨[x]⟩,⟨[ty]⟩⟩=>match b with
  | .len=>DC T ty (aR env x)
  | _=>.bad
 | .call ⟨.builtin b,⟨[x,y]⟩,⟨[uO,ty]⟩⟩=>match b with
  | .max=>DF [aR env x,aR env y]
  | .append=>if qp A o.dst then .bad else sX T uO ty (η.bc []) [] (aR env x) (aR env y)
  | _=>.bad
 | _=>.bad
def ib (T:bb) (A:List Nat) (env:Χ) (σ:List Row) (o:Oper):cV:=
 match o.op with
 | .alloc ty=>if qp A o.dst then Dj T ty σ else .bad
 | .box ty x=>if qp A o.dst then x7 ty σ (aR env x) else Di σ (aR env x)
 | .build ty cZ=>(nM T (η.bc σ) ty (s3 env cZ)).dw σ
 | .buildSlice ty n cZ=>if qp A o.dst then Dn T ty n (s3 env cZ) σ else(Ae T (η.bc σ) ty n (s3 env cZ)).dw σ
 | .load ty x=>ow T ty σ (aR env x)
 | .store ty p x=>Df T ty σ (aR env p) (aR env x)
 | .convert s d x=>(s4 T σ s d (aR env x)).dw σ
 | .nilCheck x=>wx σ (aR env x)
 | .binOp .eql ty x (.const (.slice none 0 0)) _=>D2 T ty σ (aR env x)
 | .makeMap _ none=>HA σ
 | .mapUpdate ty m k x=>Al T ty σ (aR env m) (aR env k) (aR env x)
 | .insert ty m k x=>Al T ty σ (aR env m) (aR env k) (aR env x)
 | .lookup ty x k ok=>DJ T ty ok σ (aR env x) (aR env k)
 | .range ty x=>DL T ty σ (aR env x)
 | .next it false=>DN σ (aR env it)
 | .entry it=>DR σ (aR env it)
 | .makeSlice ty n c=>if qp A o.dst then Dp T ty (aR env n) (aR env c) σ else .bad
 | .slice ty x lo hi none=>Dz T ty σ (aR env x) (lo.map (aR env)) (hi.map (aR env))
 | .fieldAddr ty x f=>ox T ty f σ (aR env x)
 | .indexAddr ty x i=>oy T ty σ (aR env x) (aR env i)
 | .call ⟨.builtin b,⟨[x]⟩,⟨[ty]⟩⟩=>match b with
  | .len=>DD T ty σ (aR env x)
  | .clear=>DU T ty σ (aR env x)
  | _=>.bad
 | .call ⟨.builtin b,⟨[x,y]⟩,⟨[uO,ty]⟩⟩=>match b with
  | .append=>if qp A o.dst then Dw T uO ty σ (aR env x) (aR env y) else(sX T uO ty (η.bc σ) σ (aR env x) (aR env y)).dw σ
  | _=>.bad
 | _=>.bad
section
variable {P:Program} {T:bb} {A:List Nat} {S:aL} {B:aW} {H:Α} {σ:List Row} {env:Χ} {t:Array Value}
theorem cw.VC {s:Sem Next} {r:cw} {a:cV} (J:Does P s S B H σ (r.dw σ)) (U:Does P s S B H σ a):Does P s S B H σ (r.or σ a):=by
 cases r with
 | ok x=>exact J
 | b6 p r=>exact J
 | bad=>exact U
theorem VD (Β:Holds S B σ H) {c a b:η} {u v w:Value} (ε:av S B σ c u) (κ:av S B σ a v) (hb:av S B σ b w):cS P (do pure (if <-asBool u then v else w)) S B H σ ((yg c a b).dw σ):=by
 unfold yg;split
 ·rename_i x;cases ε;split
  ·rename_i p q;cases κ;cases hb;intro K θ;refine ς.bind' (ς.pure' (ς.pure' ?_));cases x
   ·exact .same Β θ (.z _)
   ·exact .same Β θ (.z _)
  ·cases x
   ·exact λK θ=>ς.bind' (ς.pure' (ς.pure' (.same Β θ hb)))
   ·exact λK θ=>ς.bind' (ς.pure' (ς.pure' (.same Β θ κ)))
 ·exact .bad
theorem VE (cE:dv S B σ env t) (f:Fn) (df cs:Array Operand):av S B σ (.fn f (df.toList.map (aR env)) (cs.toList.map (aR env))) (.func f (df.map (bl t)) (cs.map (bl t))):=by
 refine .fn _ _ ζ ζ (λi a v J U=>?_) (λi a v J U=>?_)
 ·rw[List.getElem?_map] at J;rw[Array.getElem?_map] at U;rw[Array.getElem?_toList] at J;cases γ:df[i]? with
  | none=>rw[γ] at J;cases J
  | some x=>rw[γ] at J U;cases J;cases U;exact l' cE x
 ·rw[List.getElem?_map] at J;rw[Array.getElem?_map] at U;rw[Array.getElem?_toList] at J;cases γ:cs[i]? with
  | none=>rw[γ] at J;cases J
  | some x=>rw[γ] at J U;cases J;cases U;exact l' cE x
theorem D3 (cE:dv S B σ env t) (o:Option Operand):we S B σ (o.map (aR env)) (o.map (bl t)):=by
 cases o with
 | none=>trivial
 | some x=>exact l' cE x
theorem M3 {a:η} {r:Nat×List η} (h:qi [] a=some r):qi σ a=some r:=by
 cases a<;>first|exact h|(simp[qi] at h)
theorem VF {st xt:TypeId} {s x:η}:sX T st xt (η.bc []) [] s x=.bad\/sX T st xt (η.bc []) [] s x=sX T st xt (η.bc []) σ s x:=by
 unfold sX;cases γ:qi [] x with
 | none=>left;split<;>simp_all
 | some r=>rw[M3 γ];exact .inr rfl
theorem M4 (Ι:bN P T) (Β:Holds S B σ H) (src dst:TypeId) {x:η} {v:Value} (γ:av S B σ x v):cS P (convert src dst v) S B H σ ((s4 T σ src dst x).dw σ):=by
 have J:=UP Ι Β src dst γ
 have U:=Vu Ι Β src dst γ;unfold s4;split
 ·split
  ·exact Vx Ι Β src dst γ
  ·exact U
 ·exact J
theorem VG {src dst:TypeId} {x:η}:uN T src dst [] x=.bad\/uN T src dst [] x=uN T src dst σ x:=by
 unfold uN;split
 ·cases γ:qi [] x with
  | none=>exact .inl rfl
  | some r=>rw[M3 γ];exact .inr rfl
 ·exact .inl rfl
theorem VH {src dst:TypeId} {x:η}:s4 T [] src dst x=.bad\/s4 T [] src dst x=s4 T σ src dst x:=by
 unfold s4;split
 ·split
  ·exact VG
  ·exact .inr rfl
 ·exact .inr rfl
theorem VI (Ι:bN P T) (Β:Holds S B σ H) (cE:dv S B σ env t) (o:Oper):Does P (execOp (bl t) o) S B H σ ((jx T A env o).dw σ):=by
 have ak:∀x,av S B σ (aR env x) (bl t x):=λx=>l' cE x;obtain⟨dst,op,type,pos,after,guard⟩:=o;unfold jx;simp only;split
 ·exact Does.val Β (ak _)
 ·exact Does.val Β (ak _)
 ·rename_i c a b;have:=(VD (P:=P) Β (ak c) (ak a) (ak b)).next;unfold execOp;simp only;refine λK θ=>?_;have U:=this K θ;simpa using U
 ·split
  ·exact .bad
  ·exact(Us Ι Β _).next
 ·split
  ·exact .bad
  ·exact(Up Β _ (ak _)).next
 ·exact(Mz Ι Β (λa h=>Dg h) _ cE _).next
 ·split
  ·exact .bad
  ·exact(MC Ι Β (λa h=>Dg h) _ _ cE _).next
 ·exact(Ud Ι Β (ak _)).next
 ·exact(Vp Ι Β _ _ _ _ (ak _) (ak _)).next
 ·exact(T9 Β _ (ak _)).next
 ·rename_i a b x;rcases VH (T:=T) (σ:=σ) (src:=a) (dst:=b) (x:=aR env x) with h|h
  ·rw[h];exact .bad
  ·rw[h];exact(M4 Ι Β _ _ (ak _)).next
 ·exact(Vq Ι Β _ (ak _) (ak _)).next
 ·exact Vr Β rfl (ak _)
 ·exact(Vt Ι Β _ (ak _)).next
 ·exact(Ua Ι Β _ (ak _)).next
 ·exact cS.next (cS.pure Β (VE cE _ _ _))
 ·split
  ·exact .bad
  ·exact(Uw Ι Β (ak _) (ak _)).next
 ·exact(UL Ι Β _ (ak _) (D3 cE _) (D3 cE _)).next
 ·exact(Uf Ι Β (ak _)).next
 ·exact(Uk Ι Β (ak _) (ak _)).next
 ·exact(Ub Ι Β _ _ _ (ak _)).next
 ·exact(T' Β _ (ak _)).next
 ·split
  ·exact λK θ=>by
       refine ς.bind' (ς.pure' ?_);have e:∀x:Operand,Array.map (bl t) {toList:=[x]}=#[bl t x]:=λx=>ζ;simp only[invoke,builtin,e];exact(UN Ι Β _ _ (ak _)).next K θ
  ·exact .bad
 ·split
  ·exact λK θ=>by
       refine ς.bind' (ς.pure' ?_);have e:∀x y:Operand,Array.map (bl t) {toList:=[x,y]}=#[bl t x,bl t y]:=λx y=>ζ;simp only[invoke,builtin,e];exact(UQ Β _ _ (ak _) (ak _)).next K θ
  ·split
   ·exact .bad
   ·rename_i x y uO ty _ _;rcases VF (T:=T) (σ:=σ) (st:=uO) (xt:=ty) (s:=aR env x) (x:=aR env y) with h|h
    ·rw[h];exact .bad
    ·rw[h];exact λK θ=>by
       refine ς.bind' (ς.pure' ?_);have e:∀x y:Operand,Array.map (bl t) {toList:=[x,y]}=#[bl t x,bl t y]:=λx y=>ζ;simp only[invoke,builtin,e];exact(MI Ι Β (λa h=>Dg h) _ _ _ (ak _) (ak _)).next K θ
  ·exact .bad
 ·exact .bad
theorem VJ (Ι:bN P T) (Β:Holds S B σ H) (cE:dv S B σ env t) (o:Oper):Does P (execOp (bl t) o) S B H σ (ib T A env σ o):=by
 have ak:∀x,av S B σ (aR env x) (bl t x):=λx=>l' cE x;obtain⟨dst,op,type,pos,after,guard⟩:=o;unfold ib;simp only;split
 ·split
  ·exact(Ur Ι Β _).next
  ·exact .bad
 ·split
  ·exact(Uq Β _ (ak _)).next
  ·exact(Uo Β _ (ak _)).next
 ·exact(Mz Ι Β (λa h=>h) _ cE _).next
 ·split
  ·exact(Uu Ι Β _ _ cE _).next
  ·exact(MC Ι Β (λa h=>h) _ _ cE _).next
 ·exact(Ue Ι Β (ak _)).next
 ·exact(Un Ι Β (ak _) (ak _)).next
 ·exact(M4 Ι Β _ _ (ak _)).next
 ·exact Vs Β rfl (ak _)
 ·exact(VB Ι Β _ _ _ (ak _)).next
 ·exact(U4 Β _).next
 ·exact(MR Ι Β (ak _) (ak _) (ak _)).next
 ·exact(MR Ι Β (ak _) (ak _) (ak _)).next
 ·exact(U5 Ι Β (ak _) (ak _)).next
 ·exact(U9 Ι Β (ak _)).next
 ·exact(Vd Β _ (ak _)).next
 ·exact(Vi Β (ak _)).next
 ·split
  ·exact(Uv Ι Β (ak _) (ak _)).next
  ·exact .bad
 ·exact(UM Ι Β _ (ak _) (D3 cE _) (D3 cE _)).next
 ·exact(Ug Ι Β (ak _)).next
 ·exact(Ul Ι Β (ak _) (ak _)).next
 ·split
  ·exact λK θ=>by
       refine ς.bind' (ς.pure' ?_);have e:∀x:Operand,Array.map (bl t) {toList:=[x]}=#[bl t x]:=λx=>ζ;simp only[invoke,builtin,e];exact(UO Ι Β _ _ (ak _)).next K θ
  ·exact λK θ=>by
       refine ς.bind' (ς.pure' ?_);have e:∀x:Operand,Array.map (bl t) {toList:=[x]}=#[bl t x]:=λx=>ζ;simp only[invoke,builtin,e];exact(Vm Ι Β _ (ak _)).next K θ
  ·exact .bad
 ·split
  ·split
   ·exact λK θ=>by
       refine ς.bind' (ς.pure' ?_);have e:∀x y:Operand,Array.map (bl t) {toList:=[x,y]}=#[bl t x,bl t y]:=λx y=>ζ;simp only[invoke,builtin,e];exact(UC Ι Β _ _ _ (ak _) (ak _)).next K θ
   ·exact λK θ=>by
       refine ς.bind' (ς.pure' ?_);have e:∀x y:Operand,Array.map (bl t) {toList:=[x,y]}=#[bl t x,bl t y]:=λx y=>ζ;simp only[invoke,builtin,e];exact(MI Ι Β (λa h=>h) _ _ _ (ak _) (ak _)).next K θ
  ·exact .bad
 ·exact .bad
end
end Go.TL
