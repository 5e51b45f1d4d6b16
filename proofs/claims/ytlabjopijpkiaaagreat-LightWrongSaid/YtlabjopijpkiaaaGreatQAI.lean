import Derived.Test.YtlabjopijpkiaaaGreatQAH
set_option maxHeartbeats 16000000
set_option maxRecDepth 20000
set_option linter.unusedSectionVars false
set_option linter.unusedSimpArgs false
set_option linter.unusedVariables false
namespace Go.TL
open Go.Conc
def mm (d:TypeDesc) (x y:Value):Option Bool:=match d,x,y with
 | .int _,.int k a,.int ab b=>if k=ab then some (a==b) else none
 | .string,.string a,.string b=>some (a==b)
 | .bool,.bool a,.bool b=>some (a==b)
 | _,_,_=>none
def jD:List (TypeDesc×Nat)->List θ->List θ->Option Bool
 | [],_,_=>some true
 |(d,o)::r,xs,cA=>match xs[o]?,cA[o]? with
  | some (.z x),some (.z y)=>match mm d x y,jD r xs cA with
   | some b,some c=>some (b&&c)
   | _,_=>none
  | _,_=>none
def aeqv (T:bd) (ty:TypeId) (a b:θ):Option Bool:=match T ty with
 | some i=>match a,b with
  | .z x,.z y=>if jb i.bI then mm i.bI x y else none
  | .aW xs,.aW cA=>match i.eqs with|some items=>if xs.length=items.length/\cA.length=items.length then jD items xs cA else none|none=>none
  | _,_=>none
 | none=>none
section
variable {P:Program} {T:bd} {S:aC} {B:aP} {H:ψ} {σ:List Row}
theorem υ.forIn_nil {α β:Type} {init:β} {f:α->β->Sem (ForInStep β)} {G:ψ} {K:β->ψ->Prop} {E:Value->ψ->Prop} (h:K init G):υ P (forIn ([]:List α) init f) G K E:=by
 rw[List.forIn_nil];exact h
theorem υ.forIn_cons {α β:Type} {a:α} {l:List α} {init:β} {f:α->β->Sem (ForInStep β)} {G:ψ} {K:β->ψ->Prop} {E:Value->ψ->Prop}
  (h:υ P (f a init) G (λr G'=>match r with|.done b=>K b G'|.yield b=>υ P (forIn l b f) G' K E) E):υ P (forIn (a::l) init f) G K E:=by
 rw[List.forIn_cons];refine υ.bind' (υ.mono (λr G' μ=>?_) (λ_ _ h=>h) _ h);cases r with
 | done b=>exact υ.pure' μ
 | yield b=>exact μ
theorem forIn_range {β:Type} (m:Nat) (init:β) (f:Nat->β->Sem (ForInStep β)):forIn [:m] init f=forIn (List.range m) init f:=by
 rw[Std.Legacy.Range.forIn_eq_forIn_range'];simp[Std.Legacy.Range.size,List.range_eq_range']
theorem Ho {ty:TypeId} {d:TypeDesc} (hd:P.underlying ty=some d) (ο:jb d=true) {x y:Value} {b:Bool} (h:mm d x y=some b) {n:Nat} {G:ψ} {K:Bool->ψ->Prop} {E:Value->ψ->Prop} (χ:K b G):υ P (Op.equalIn (n+1) ty x y) G K E:=by
 unfold Op.equalIn;refine υ.bind' (υ.underlying hd ?_);unfold mm at h;split at h
 ·split at h
  ·rename_i e;subst e;cases h;simp only[if_true];exact υ.pure' χ
  ·cases h
 ·cases h;exact υ.pure' χ
 ·cases h;exact υ.pure' χ
 ·cases h
def Hp (xs:List θ) (vs:Array Value):Prop:=∀(o:Nat) (v:Value),xs[o]?=some (θ.z v)->vs[o]?=some v
theorem zZ {xs:List θ} {vs:Array Value} (h:ar S B σ (.aW xs) (.agg vs)):Hp xs vs:=λo v hv=>by
 cases h with
 | aW _ Ρ ag=>
  have aH:o<vs.size:=by rw[<-Ρ];exact(b7.1 hv).1
  have U:=e9 aH
  have:=ag o _ _ hv U;generalize vs[o]=u at this U;cases this;exact U
theorem z0 {ty:TypeId} {d:TypeDesc} (hd:P.underlying ty=some d) (ο:jb d=true) {vs:Array Value} {o:Nat} {v:Value} (hv:vs[o]?=some v) {G:ψ} {K:Value->ψ->Prop} {E:Value->ψ->Prop} (χ:K v G):υ P (part ty vs o) G K E:=by
 unfold part;refine υ.bind' (υ.isAgg hd ?_);have:ly d=false:=by cases d<;>first|rfl|cases ο
 rw[this];simp only[Bool.false_eq_true,if_false,hv];exact υ.pure' χ
theorem UB {xs cA:List θ} {vs ws:Array Value} (U:Hp xs vs) (Ο:Hp cA ws) {ty:TypeId} {items:List (TypeDesc×Nat)} (Χ:G1 P ty (some items)) {b:Bool} (h:jD items xs cA=some b) {n:Nat} {G:ψ} {K:Bool->ψ->Prop} {E:Value->ψ->Prop} (χ:K b G) :
  υ P (Op.equalIn (n+2) ty (.agg vs) (.agg ws)) G K E:=by
 obtain⟨_,_,Χ⟩:=Χ;rcases Χ with⟨c9,hu,cE,dq,oM⟩|⟨m,e,d,f,hu,he,ο,Τ,cp,dq⟩
 ·unfold Op.equalIn;refine υ.bind' (υ.underlying hu ?_);simp only;refine υ.bind' ?_;show υ P (if P.stoodInHeld ty=true then _ else _) G K E;rw[cE];simp only[Bool.false_eq_true,if_false];have key:∀(l:List Field) (c:Bool),(∀f∈l,f.name≠ "_" /\ ∃d,P.underlying f.type=some d/\jb d=true)->jD (l.map λf=>((P.underlying f.type).getD .invalid,f.offset)) xs cA=some c->
    ∀pM:Option Bool×PUnit->ψ->Prop,pM (if c then none else some false,⟨⟩) G->υ P (forIn l (none,⟨⟩) λ(f:Field) (_:Option Bool×PUnit)=>if f.name≠ "_" then do
     let a <-part f.type vs f.offset
     let b <-part f.type ws f.offset
     let r <-Op.equalIn (n+1) f.type a b
     if(!r)=true then pure (ForInStep.done (some false,⟨⟩)) else pure (ForInStep.yield (none,⟨⟩))
    else pure (ForInStep.yield (none,⟨⟩))) G pM E:=by
   intro l
   induction l with
   | nil=>intro c _ ζ pM γ;simp[jD] at ζ;subst ζ;exact .forIn_nil (by simpa using γ)
   | cons f l Δ=>
    intro c Α ζ pM γ;obtain⟨vG,d,hd,ο⟩:=Α f (by simp);simp only[List.map_cons,jD,hd,Option.getD_some] at ζ;split at ζ<;>try cases ζ
    rename_i x y vH xS;split at ζ<;>try cases ζ
    rename_i bP c1 kH oN;refine .forIn_cons ?_;rw[if_pos vG];refine υ.bind' (z0 hd ο (U _ _ vH) (υ.bind' (z0 hd ο (Ο _ _ xS) (υ.bind' (Ho hd ο kH ?_)))));cases bP with
    | false=>exact υ.pure' (by simpa using γ)
    | true=>exact υ.pure' (Δ c1 (λg Υ=>Α g (by simp[Υ])) oN pM (by simpa using γ))
  refine υ.bind' ?_;have Di:(forIn c9 (none,⟨⟩) λ(f:Field) (_:Option Bool×PUnit)=>if f.name≠ "_" then do
     let a <-part f.type vs f.offset
     let b <-part f.type ws f.offset
     let r <-Op.equalIn (n+1) f.type a b
     if(!r)=true then pure (ForInStep.done (some false,⟨⟩)) else pure (ForInStep.yield (none,⟨⟩))
    else pure (ForInStep.yield (none,⟨⟩)):Sem (Option Bool×PUnit))=forIn c9.toList (none,⟨⟩) _:=(Array.forIn_toList ..).symm
  refine Eq.mpr (congrArg (λs=>υ P s G _ E) Di) ?_;refine key c9.toList b oM (by rw[<-dq];exact h) _ ?_;cases b<;>exact υ.pure' χ
 ·unfold Op.equalIn;refine υ.bind' (υ.underlying hu ?_);simp only;refine υ.bind' (υ.sizeOf Τ ?_);rw[cp];have key:∀(l:List Nat) (c:Bool),jD (l.map λi=>(d,i)) xs cA=some c->
    ∀pM:Option Bool×PUnit->ψ->Prop,pM (if c then none else some false,⟨⟩) G->υ P (forIn l (none,⟨⟩) λ(i:Nat) (_:Option Bool×PUnit)=>do
     let a <-part e vs (i*1)
     let b <-part e ws (i*1)
     let r <-Op.equalIn (n+1) e a b
     if(!r)=true then pure (ForInStep.done (some false,⟨⟩)) else pure (ForInStep.yield (none,⟨⟩))) G pM E:=by
   intro l
   induction l with
   | nil=>intro c ζ pM γ;simp[jD] at ζ;subst ζ;exact .forIn_nil (by simpa using γ)
   | cons i l Δ=>
    intro c ζ pM γ;simp only[List.map_cons,jD] at ζ;split at ζ<;>try cases ζ
    rename_i x y vH xS;split at ζ<;>try cases ζ
    rename_i bP c1 kH oN;refine .forIn_cons ?_;refine υ.bind' (z0 he ο (by rw[Nat.mul_one];exact U _ _ vH) (υ.bind' (z0 he ο (by rw[Nat.mul_one];exact Ο _ _ xS) (υ.bind' (Ho he ο kH ?_)))));cases bP with
    | false=>exact υ.pure' (by simpa using γ)
    | true=>exact υ.pure' (Δ c1 oN pM (by simpa using γ))
  refine υ.bind' ?_;rw[forIn_range];refine key (List.range m) b (by rw[<-dq];exact h) _ ?_;cases b<;>exact υ.pure' χ
theorem Hq (Θ:bT P T) {ty:TypeId} {a b:θ} {v w:Value} {r:Bool} (ν:ar S B σ a v) (hb:ar S B σ b w) (h:aeqv T ty a b=some r) {K:Bool->ψ->Prop} {E:Value->ψ->Prop} (χ:K r H):υ P (Op.equal ty v w) H K E:=by
 unfold aeqv at h;split at h
 ·rename_i i hi;obtain⟨⟨hu,Χ⟩,_⟩:=Θ ty i hi;split at h
  ·split at h
   ·rename_i ο;cases ν;cases hb;exact Ho hu ο h χ
   ·cases h
  ·split at h
   ·rename_i items dq;rw[dq] at Χ;split at h<;>try cases h
    cases ν with
    | aW vs Ρ ag=>cases hb with
     | aW ws k1 cy=>exact UB (zZ (.aW vs Ρ ag)) (zZ (.aW ws k1 cy)) Χ h χ
   ·cases h
  ·cases h
 ·cases h
theorem MM (a b:ByteArray):(a==b)=(a.data==b.data):=by
 cases a;cases b;rfl
theorem UC {a b:ByteArray} (h:(a==b)=true):a=b:=by
 rw[MM] at h;have:=eq_of_beq h;cases a;cases b;simp at this;simp[this]
theorem UD (a:ByteArray):(a==a)=true:=by rw[MM];exact beq_self_eq_true _
theorem MN {d:TypeDesc} {x y:Value} (h:mm d x y=some true):x=y/\∀n,Instr.sameBits n x x=true:=by
 unfold mm at h;split at h
 ·split at h
  ·rename_i e;subst e;simp only[Option.some.injEq,beq_iff_eq] at h;subst h;exact⟨rfl,λn=>by cases n<;>simp[Instr.sameBits]⟩
  ·cases h
 ·simp only[Option.some.injEq] at h;have:=UC h;subst this;exact⟨rfl,λn=>by cases n<;>simp[Instr.sameBits,UD]⟩
 ·simp only[Option.some.injEq,beq_iff_eq] at h;subst h;exact⟨rfl,λn=>by cases n<;>simp[Instr.sameBits]⟩
 ·cases h
theorem UE {xs cA:List θ}:∀(items:List (TypeDesc×Nat)),jD items xs cA=some true->∀o,o∈items.map (·.2)->∃x,xs[o]?=some (.z x)/\cA[o]?=some (.z x)/\∀n,Instr.sameBits n x x=true:=by
 intro items
 induction items with
 | nil=>intro _ o Γ;simp at Γ
 | cons a items Δ=>
  obtain⟨d,p⟩:=a;intro h o Γ;simp only[jD] at h;split at h<;>try cases h
  rename_i x y vH xS;split at h<;>try cases h
  rename_i b c hb ζ;simp only[Option.some.injEq,Bool.and_eq_true] at h;obtain⟨rfl,rfl⟩:=h;simp only[List.map_cons,List.mem_cons] at Γ;rcases Γ with rfl|Γ
  ·obtain⟨Ε,Ζ⟩:=MN hb;subst Ε;exact⟨x,vH,xS,Ζ⟩
  ·exact Δ ζ o Γ
theorem UF (Θ:bT P T) {ty:TypeId} {a b:θ} {v w:Value} (ν:ar S B σ a v) (hb:ar S B σ b w) (h:aeqv T ty a b=some true):v=w/\a=b/\∀n,Instr.sameBits (n+1) v v=true:=by
 unfold aeqv at h;split at h
 ·rename_i i hi;obtain⟨⟨hu,Χ⟩,_⟩:=Θ ty i hi;split at h
  ·split at h
   ·obtain⟨Ε,Ζ⟩:=MN h;subst Ε;cases ν;cases hb;exact⟨rfl,rfl,λn=>Ζ _⟩
   ·cases h
  ·rename_i xs cA;split at h
   ·rename_i items dq;rw[dq] at Χ;split at h<;>try cases h
    rename_i hlen;obtain⟨J,γ⟩:=hlen;have xT:=Χ.2.1;have get:∀o,o<items.length->∃x,xs[o]?=some (.z x)/\cA[o]?=some (.z x)/\∀n,Instr.sameBits n x x=true:=λo Γ=>UE items h o (by rw[xT];simpa using Γ);have xU:xs=cA:=by
     apply List.ext_getElem?;intro o;by_cases Γ:o<items.length
     ·obtain⟨x,Ρ,ag,_⟩:=get o Γ;rw[Ρ,ag]
     ·rw[List.getElem?_eq_none (by omega),List.getElem?_eq_none (by omega)]
    cases ν with
    | aW vs Ρ ag=>cases hb with
     | aW ws k1 cy=>
      have MO:∀o,o<items.length->∃x,vs[o]?=some x/\ws[o]?=some x/\∀n,Instr.sameBits n x x=true:=λo Γ=>by
       obtain⟨x,c1,c2,c3⟩:=get o Γ;exact⟨x,zZ (.aW vs Ρ ag) o x c1,zZ (.aW ws k1 cy) o x c2,c3⟩
      have pN:vs=ws:=by
       apply Array.ext_getElem?;intro o;by_cases Γ:o<items.length
       ·obtain⟨x,c1,c2,_⟩:=MO o Γ;rw[c1,c2]
       ·rw[Array.getElem?_eq_none (by omega),Array.getElem?_eq_none (by omega)]
      subst pN;refine⟨rfl,by rw[xU],λn=>?_⟩;simp only[Instr.sameBits,beq_self_eq_true,Bool.true_and,List.all_eq_true];intro p ω;obtain⟨o,Γ⟩:=List.getElem?_of_mem ω;rw[List.getElem?_zip_eq_some] at Γ;have z1:o<items.length:=by
       have:=(b7.1 Γ.1).1;simp at this;omega
      obtain⟨x,c1,_,c3⟩:=MO o z1;rw[Array.getElem?_toList,c1] at Γ;obtain⟨Ε,Ζ⟩:=Γ;cases Ε;rw[<-Option.some.inj Ζ];exact c3 n
   ·cases h
  ·cases h
 ·cases h
end
def hL (T:bd) (kt:TypeId) (k:θ):List (θ×θ)->Nat->Option (Option (Nat×θ))
 | [],_=>some none
 | e::r,i=>match aeqv T kt k e.1 with
  | some b=>bif b then some (some (i,e.2)) else hL T kt k r (i+1)
  | none=>none
def nU (T:bd) (kt:TypeId) (k:θ):Bool:=match T kt with
 | some i=>match k with
  | .z _=>jb i.bI
  | .aW xs=>match i.bI,i.eqs with
   | .array _ _,some items=>xs.length==items.length&&(jD items xs xs).isSome
   | _,_=>false
  | _=>false
 | none=>false
section
variable {P:Program} {T:bd} {S:aC} {B:aP} {H:ψ} {σ:List Row}
theorem MP {ty:TypeId} {d:TypeDesc} (hd:P.underlying ty=some d) (ο:jb d=true) {v:Value} {em:Bool} {n:Nat} {G:ψ} {K:Unit->ψ->Prop} {E:Value->ψ->Prop} (χ:K () G):υ P (Instr.checkKey em (n+1) ty v) G K E:=by
 unfold Instr.checkKey;refine υ.bind' (υ.underlying hd ?_);cases d<;>first|(cases ο;done)|(cases v<;>exact υ.pure' χ)
theorem Hr (Θ:bT P T) {kt:TypeId} {k:θ} {v:Value} (χ:ar S B σ k v) (h:nU T kt k=true) {em:Bool} {G:ψ} {K:Unit->ψ->Prop} {E:Value->ψ->Prop} (I:K () G):υ P (Instr.checkKey em 10000 kt v) G K E:=by
 unfold nU at h;split at h
 ·rename_i i hi;obtain⟨⟨hu,Χ⟩,_⟩:=Θ kt i hi;split at h
  ·exact MP (n:=9999) hu h I
  ·rename_i xs;split at h
   ·rename_i n e items UG dq;rw[dq] at Χ;simp only[Bool.and_eq_true,beq_iff_eq] at h;obtain⟨_,_,Χ⟩:=Χ;rcases Χ with⟨c9,xV,_⟩|⟨m,Ζ,d,f,xV,he,ο,Τ,cp,UH⟩
    ·rw[hu,UG] at xV;cases xV
    ·cases χ with
     | aW vs Ρ ag=>
      have UI:=zZ (.aW vs Ρ ag)
      show υ P (Instr.checkKey em (9999+1) kt _) G K E;unfold Instr.checkKey;refine υ.bind' (υ.underlying xV ?_);simp only;rw[forIn_range];refine υ.bind' ?_;have hb:∃b,jD ((List.range m).map λi=>(d,i)) xs xs=some b:=by
       rw[<-UH];exact Option.isSome_iff_exists.1 h.2
      have key:∀(l:List Nat) (b:Bool),jD (l.map λi=>(d,i)) xs xs=some b->υ P (forIn l PUnit.unit λ(i:Nat) (_:PUnit)=>do
        let a <-sizeOf Ζ
        let b <-part Ζ vs (i*a)
        Instr.checkKey em 9999 Ζ b
        pure (ForInStep.yield PUnit.unit)) G (λ_ G'=>K () G') E:=by
       intro l
       induction l with
       | nil=>intro b _;exact .forIn_nil I
       | cons i l Δ=>
        intro b hb;simp only[List.map_cons,jD] at hb;split at hb<;>try cases hb
        rename_i x y vH xS;split at hb<;>try cases hb
        rename_i bP c1 kH oN;refine .forIn_cons ?_;refine υ.bind' (υ.sizeOf Τ ?_);rw[cp];refine υ.bind' (z0 he ο (by rw[Nat.mul_one];exact UI _ _ vH) ?_);refine υ.bind' (MP (n:=9998) he ο ?_);exact υ.pure' (Δ c1 oN)
      obtain⟨b,hb⟩:=hb;exact υ.mono (λ_ G' h=>υ.pure' h) (λ_ _ h=>h) _ (key (List.range m) b hb)
   ·cases h
  ·cases h
 ·cases h
def vI (S:aC) (B:aP) (σ:List Row) (es:List (θ×θ)) (cA:List MapEntry):Prop:=es.length=cA.length/\∀(i:Nat) (e:θ×θ) (y:MapEntry),es[i]?=some e->cA[i]?=some y->ar S B σ e.1 y.key/\ar S B σ e.2 y.val
theorem vI.tail {e:θ×θ} {es:List (θ×θ)} {y:MapEntry} {cA:List MapEntry} (h:vI S B σ (e::es) (y::cA)):(ar S B σ e.1 y.key/\ar S B σ e.2 y.val)/\vI S B σ es cA:=
 ⟨h.2 0 e y rfl rfl,⟨by simpa using h.1,λi aJ lC J γ=>h.2 (i+1) aJ lC J γ⟩⟩
theorem Dj {kt:TypeId} {k:θ}:∀(es:List (θ×θ)) (n i:Nat) (a:θ),hL T kt k es n=some (some (i,a))->n<=i/\∃ab,es[i-n]?=some (ab,a)/\aeqv T kt k ab=some true:=by
 intro es
 induction es with
 | nil=>intro n i a h;cases h
 | cons e es Δ=>
  intro n i a h;unfold hL at h;split at h
  ·rename_i b hb;cases b with
   | true=>cases h;exact⟨Nat.le_refl _,e.1,by simp,hb⟩
   | false=>
    obtain⟨J,ab,γ,π⟩:=Δ (n+1) i a h;refine⟨by omega,ab,?_,π⟩;have:i-n=(i-(n+1))+1:=by omega
    rw[this,List.getElem?_cons_succ];exact γ
  ·cases h
def lD (cA:List MapEntry) (i0:Nat) (r:Option (Nat×θ)):Option (Nat×Value):=r.map λx=>(x.1,((cA[x.1-i0]?).map (·.val)).getD undef)
theorem UJ {d:TypeDesc} {x y:Value} {b:Bool} (h:mm d x y=some b):Instr.sameNow d x y=some b:=by
 unfold mm at h;split at h
 ·split at h
  ·rename_i e;subst e;cases h;simp[Instr.sameNow]
  ·cases h
 ·cases h;rfl
 ·cases h;rfl
 ·cases h
theorem UK (Θ:bT P T) {kt:TypeId} {i:il} (hi:T kt=some i) {k:θ} {v:Value} (χ:ar S B σ k v) (Η:∃u,k=.z u):∀(es:List (θ×θ)) (cA:List MapEntry) (n:Nat) (r:Option (Nat×θ)),vI S B σ es cA->hL T kt k es n=some r->
  Instr.findNow i.bI v cA n=some (lD cA n r):=by
 obtain⟨u,rfl⟩:=Η;cases χ;intro es
 induction es with
 | nil=>
  intro cA n r he h;have:cA=[]:=by have:=he.1;simpa using this.symm
  subst this;cases h;rfl
 | cons e es Δ=>
  intro cA n r he h;cases cA with
  | nil=>have:=he.1;simp at this
  | cons y cA=>
   obtain⟨⟨J,γ⟩,Ξ⟩:=he.tail;unfold hL at h;split at h
   ·rename_i b hb;have hv:mm i.bI v y.key=some b:=by
     unfold aeqv at hb;rw[hi] at hb;simp only at hb;split at hb
     ·rename_i x lC Ε Ζ;rw[Ζ] at J;cases J;cases Ε;split at hb
      ·exact hb
      ·cases hb
     ·rename_i Ε _;cases Ε
     ·cases hb
    unfold Instr.findNow;rw[UJ hv];cases b with
    | true=>cases h;simp[lD]
    | false=>
     have:=Δ cA (n+1) r Ξ h;simp only[this];congr 1;unfold lD;cases r with
     | none=>rfl
     | some x=>
      simp only[Option.map_some];have U:n+1<=x.1:=(Dj es (n+1) x.1 x.2 h).1;have:x.1-n=(x.1-(n+1))+1:=by omega
      rw[this,List.getElem?_cons_succ]
   ·cases h
theorem UL (Θ:bT P T) {kt:TypeId} {k:θ} {v:Value} (χ:ar S B σ k v) {E:Value->ψ->Prop}:∀(es:List (θ×θ)) (cA:List MapEntry) (n:Nat) (r:Option (Nat×θ)) (K:Option (Nat×Value)->ψ->Prop),vI S B σ es cA->hL T kt k es n=some r->
  K (lD cA n r) H->υ P (Instr.findAsking kt v cA n) H K E:=by
 intro es
 induction es with
 | nil=>
  intro cA n r K he h I;have:cA=[]:=by have:=he.1;simpa using this.symm
  subst this;cases h;exact υ.pure' I
 | cons e es Δ=>
  intro cA n r K he h I;cases cA with
  | nil=>have:=he.1;simp at this
  | cons y cA=>
   obtain⟨⟨J,γ⟩,Ξ⟩:=he.tail;unfold hL at h;split at h
   ·rename_i b hb;unfold Instr.findAsking;refine υ.bind' (Hq Θ χ J hb ?_);cases b with
    | true=>cases h;simp only[if_true];exact υ.pure' (by simpa[lD] using I)
    | false=>
     simp only[Bool.false_eq_true,if_false];refine Δ cA (n+1) r K Ξ h ?_;have:lD (y::cA) n r=lD cA (n+1) r:=by
      unfold lD;cases r with
      | none=>rfl
      | some x=>
       simp only[Option.map_some];have U:n+1<=x.1:=(Dj es (n+1) x.1 x.2 h).1;have:x.1-n=(x.1-(n+1))+1:=by omega
       rw[this,List.getElem?_cons_succ]
     rw[<-this];exact I
   ·cases h
theorem Hs (Θ:bT P T) {kt:TypeId} {k:θ} {v:Value} (χ:ar S B σ k v) (nV:nU T kt k=true) {es:List (θ×θ)} {cA:List MapEntry} {r:Option (Nat×θ)} (he:vI S B σ es cA) (h:hL T kt k es 0=some r) {K:Option (Nat×Value)->ψ->Prop} {E:Value->ψ->Prop} (I:K (lD cA 0 r) H) :
  υ P (Instr.findKey kt v cA) H K E:=by
 unfold Instr.findKey;unfold nU at nV;split at nV
 ·rename_i i hi;refine υ.bind' (Θ.bI hi ?_);split at nV
  ·rw[UK Θ hi χ ⟨_,rfl⟩ es cA 0 r he h];exact υ.pure' I
  ·rename_i xs;cases χ with
   | aW vs Ρ ag=>
    cases cA with
    | nil=>
     have:es=[]:=by have:=he.1;simpa using this
     subst this;cases h;exact υ.pure' I
    | cons y cA=>
     have Ι:Instr.findNow i.bI (.agg vs) (y::cA) 0=none:=by
      unfold Instr.findNow;have:Instr.sameNow i.bI (.agg vs) y.key=none:=by unfold Instr.sameNow;cases i.bI<;>rfl
      rw[this]
     rw[Ι];exact UL Θ (.aW vs Ρ ag) es (y::cA) 0 r K he h I
  ·cases nV
 ·cases nV
def nW (σ:List Row) (id:Nat):Bool:=σ.all λr=>match r with|.iter m _ _=>m != id|_=>true
theorem UM {id:Nat} (h:nW σ id=true):∀(j:Nat) left cur,σ[j]?≠some (Row.iter id left cur):=λj left cur ε=>by
 have:=List.all_eq_true.1 h _ (cv ε);simp at this
def vJ (T:bd) (ty:TypeId):Option (TypeId×TypeId):=match T ty with
 | some i=>match i.bI with|.map k v=>some (k,v)|_=>none
 | none=>none
theorem Dk {ty kt vt:TypeId} (h:vJ T ty=some (kt,vt)):∃i,T ty=some i/\i.bI=.map kt vt:=by
 unfold vJ at h;split at h
 ·rename_i i hi;split at h
  ·rename_i k v hu;cases h;exact⟨i,hi,hu⟩
  ·cases h
 ·cases h
def Ht (σ:List Row):c6:=.ok (.mp σ.length) (σ++[.map []])
theorem UN (Β:Holds S B σ H) (ty:TypeId):cJ P (Instr.makeMap ty none) S B H σ (Ht σ):=by
 intro K I;unfold Instr.makeMap;refine υ.bind' ?_;refine λr μ=>?_;have cE:∀b,(∀N,some (r,0)≠some (b,N))->kn H (H.aY r (.map #[] 0)) b:=λb hb=>by
  have bw:b≠r:=λe=>by subst e;exact hb _ rfl
  exact⟨λo=>rfl,rfl,by simp[ψ.aY,bw]⟩
 have bL:bZ S S B (B++[some (r,0)]) σ (σ++[.map []])->jC S (B++[some (r,0)]) (σ++[.map []]) (H.aY r (.map #[] 0)) (.map []) (some (r,0)):=λ_=>
  ⟨r,0,#[],0,rfl,by simp[ψ.aY],rfl,λi e y J=>by simp at J,λi j y z J=>by simp at J⟩
 obtain⟨J,γ,π⟩:=Β.push (λb N e=>by cases e;exact μ) cE bL;exact υ.pure' ⟨_,_,_,_,I,γ,J,π,.mp (es:=[]) (N:=0) (C' σ _) (Da Β.len _)⟩
def Dl (T:bd) (ty:TypeId) (ok:Bool) (σ:List Row) (mp k:θ):c6:=match vJ T ty,mp with
 | some (kt,vt),.mp id=>match σ[id]?,T vt with
  | some (.map es),some Hu=>if nU T kt k=true then match hL T kt k es 0 with
   | some (some (_,a))=>.ok (if ok then .bu [a,.z (.bool true)] else a) σ
   | some none=>.ok (if ok then .bu [hy Hu.zero,.z (.bool false)] else hy Hu.zero) σ
   | none=>.bad else .bad
  | _,_=>.bad
 | _,_=>.bad
theorem z2 (Β:Holds S B σ H) {id b N:Nat} {es:List (θ×θ)} (hm:σ[id]?=some (.map es)) (hb:B[id]?=some (some (b,N))):∃xs clock,H.obj b=some (.map xs clock)/\sd S B σ es xs clock:=by
 obtain⟨Φ,eV,xs,clock,e,J,γ⟩:=Β.row id _ _ hm hb;cases e;exact⟨xs,clock,J,γ⟩
theorem sd.xW {es:List (θ×θ)} {xs:Array MapEntry} {clock:Nat} (h:sd S B σ es xs clock):vI S B σ es xs.toList:=
 ⟨by simpa using h.1,λi e y J γ=>by rw[Array.getElem?_toList] at γ;obtain⟨a,b,_⟩:=h.2.1 i e y J γ;exact⟨a,b⟩⟩
theorem UO (Θ:bT P T) (Β:Holds S B σ H) {ty:TypeId} {ok:Bool} {mp k:θ} {u v:Value} (hm:ar S B σ mp u) (χ:ar S B σ k v):cJ P (Instr.lookup ty u v ok) S B H σ (Dl T ty ok σ mp k):=by
 unfold Dl;split
 ·rename_i kt vt id vK;obtain⟨i,hi,hu⟩:=Dk vK;split
  ·rename_i es Hu bL UP;split
   ·rename_i nV;cases hm with
    | mp J γ=>
     rename_i b N;rw[bL] at J;cases J;obtain⟨xs,clock,nb,hz⟩:=z2 Β bL γ;have go:∀(r:Option (Nat×θ)) (res:c6),hL T kt k es 0=some r->(∀(K:θ->List Row->Prop),res.holds K->∃(x:θ) (y:Value),True/\υ P (do
       let (v,UQ) <-match lD xs.toList 0 r with
        | some (_,v)=>pure (v,true)
        | none=>do pure (<-zeroValue vt,false)
       pure (if ok then .tuple #[v,.bool UQ] else v)) H (iJ S B H σ K) (λ_ _=>False))->cJ P (Instr.lookup ty (.map (some b)) v ok) S B H σ res:=λr res Τ eY K I=>by
      unfold Instr.lookup;refine υ.bind' (Θ.bI hi ?_);rw[hu];refine υ.bind' ?_;refine⟨_,nb,rfl,?_⟩;refine υ.bind' (υ.pure' ?_);refine υ.bind' (Hr Θ χ nV ?_);refine υ.bind' (Hs Θ χ nV hz.xW Τ ?_);obtain⟨_,_,_,h⟩:=eY K I;cases Γ:lD xs.toList 0 r with
      | none=>rw[Γ] at h;exact h
      | some p=>rw[Γ] at h;exact h
     split
     ·rename_i cg a Τ;refine go _ _ Τ λK I=>⟨a,undef,trivial,?_⟩;obtain⟨_,ab,he,_⟩:=Dj es 0 cg a Τ;have aH:cg<xs.size:=by have:=(b7.1 he).1;rw[<-hz.1];simpa using this
      have Ο:xs[cg]?=some xs[cg]:=e9 aH;obtain⟨_,μ,_⟩:=hz.2.1 cg _ _ (by simpa using he) Ο;have Γ:lD xs.toList 0 (some (cg,a))=some (cg,xs[cg].val):=by simp[lD,aH]
      rw[Γ];refine υ.bind' (υ.pure' (υ.pure' ?_));cases ok with
      | true=>exact .same Β I (xK μ (.z _))
      | false=>exact .same Β I μ
     ·rename_i Τ;refine go _ _ Τ λK I=>⟨.cz,undef,trivial,?_⟩;refine υ.bind' (Θ.zero UP ?_);refine υ.bind' (υ.pure' (υ.pure' ?_));cases ok with
      | true=>exact .same Β I (xK (pG _) (.z _))
      | false=>exact .same Β I (pG _)
     ·exact .bad
    | lu v J=>rw[bL] at J;cases J
   ·exact .bad
  ·exact .bad
 ·exact .bad
def z3 (T:bd) (ty:TypeId) (σ:List Row) (mp k x:θ):c6:=match vJ T ty,mp with
 | some (kt,_),.mp id=>match σ[id]? with
  | some (.map es)=>if nU T kt k=true/\nW σ id=true then match hL T kt k es 0 with
   | some (some (i,_))=>.ok .cz (σ.set id (.map (es.set i (k,x))))
   | some none=>.ok .cz (σ.set id (.map (es++[(k,x)])))
   | none=>.bad else .bad
  | _=>.bad
 | _,_=>.bad
theorem Hv (Β:Holds S B σ H) {id b N:Nat} {es es':List (θ×θ)} {xs':Array MapEntry} {clock':Nat} (bL:σ[id]?=some (.map es)) (hb:B[id]?=some (some (b,N))) (kD:nW σ id=true) (dO:∀{B':aP} {σ':List Row},bZ S S B B' σ σ'->sd S B' σ' es' xs' clock') :
  Holds S (B.set id (some (b,N))) (σ.set id (.map es')) (H.aY b (.map xs' clock'))/\Ext S B H S (B.set id (some (b,N))) (H.aY b (.map xs' clock'))/\bZ S S B (B.set id (some (b,N))) σ (σ.set id (.map es')):=
 Β.xH bL trivial hb (.inl ⟨es',rfl,rfl⟩) (λΦ eV e=>.inl ⟨eV,e⟩) (λΦ J _=>by
  have bw:Φ≠b:=λe=>by subst e;exact J N rfl
  exact⟨λo=>rfl,rfl,by simp[ψ.aY,bw]⟩) ψ.GQ (UM kD) λΑ=>⟨b,N,xs',clock',rfl,by simp[ψ.aY],dO Α⟩
theorem MQ (Θ:bT P T) (Β:Holds S B σ H) {ty:TypeId} {mp k x:θ} {u v w:Value} (hm:ar S B σ mp u) (χ:ar S B σ k v) (U:ar S B σ x w):xL P (Instr.mapUpdate ty u v w) S B H σ (z3 T ty σ mp k x):=by
 unfold z3;split
 ·rename_i kt vt id vK;obtain⟨i,hi,hu⟩:=Dk vK;split
  ·rename_i es bL;split
   ·rename_i qX;obtain⟨nV,kD⟩:=qX;cases hm with
    | mp J γ=>
     rename_i b N;rw[bL] at J;cases J;obtain⟨xs,clock,nb,hz⟩:=z2 Β bL γ;split
     ·rename_i cg a Τ;obtain⟨_,ab,he,heq⟩:=Dj es 0 cg a Τ;simp only[Nat.sub_zero] at he;have iK:cg<es.length:=(b7.1 he).1;have aH:cg<xs.size:=by rw[<-hz.1];exact iK
      have Ο:xs[cg]?=some xs[cg]:=e9 aH;obtain⟨UR,hγ,xX⟩:=hz.2.1 cg _ _ he Ο;obtain⟨Ε,Ζ,a6⟩:=UF Θ χ UR heq;intro K I;unfold Instr.mapUpdate;refine υ.bind' (Θ.bI hi ?_);rw[hu];refine υ.bind' ⟨_,nb,rfl,υ.pure' ?_⟩;refine υ.bind' (Hr Θ χ nV ?_);refine υ.bind' (Hs Θ χ nV hz.xW Τ ?_);have Γ:lD xs.toList 0 (some (cg,a))=some (cg,xs[cg].val):=by simp[lD,aH]
      rw[Γ];simp only[Ο,Option.map_some,Option.getD_some];unfold Instr.keyThatStays;rw[<-Ε];simp only[a6,if_true];refine υ.bind' (υ.pure' ?_);obtain⟨dP,p2,p3⟩:=Hv Β (es':=es.set cg (k,x)) (xs':=xs.modify cg λe=>{e with key:=v,val:=w}) (clock':=clock) bL γ kD λ{B' σ'} Α=>by
       refine⟨by simp[hz.1],λj e y Ρ ag=>?_,λj bK y z Ρ ag Hw=>?_⟩
       ·rw[Array.getElem?_modify] at ag;by_cases mj:cg=j
        ·subst mj;rw[List.getElem?_set_self iK] at Ρ;rw[if_pos rfl,Ο] at ag;cases Ρ;cases ag;exact⟨χ.later Α,U.later Α,xX⟩
        ·rw[List.getElem?_set_ne mj] at Ρ;rw[if_neg mj] at ag;obtain⟨c1,c2,c3⟩:=hz.2.1 j e y Ρ ag;exact⟨c1.later Α,c2.later Α,c3⟩
       ·have born:∀(j:Nat) (y:MapEntry),(xs.modify cg λe=>{e with key:=v,val:=w})[j]?=some y->∃Dm,xs[j]?=some Dm/\y.born=Dm.born:=λj y g=>by
         rw[Array.getElem?_modify] at g;by_cases mj:cg=j
         ·subst mj;rw[if_pos rfl,Ο] at g;cases g;exact⟨_,Ο,rfl⟩
         ·rw[if_neg mj] at g;exact⟨y,g,rfl⟩
        obtain⟨Dm,c1,c2⟩:=born j y Ρ;obtain⟨hK,c3,c4⟩:=born bK z ag;rw[c2,c4];exact hz.2.2 j bK Dm hK c1 c3 Hw
      exact⟨⟨_,nb⟩,rfl,rfl,υ.pure' ⟨S,_,_,_,I,p2,dP,p3,.cz _⟩⟩
     ·rename_i Τ;intro K I;unfold Instr.mapUpdate;refine υ.bind' (Θ.bI hi ?_);rw[hu];refine υ.bind' ⟨_,nb,rfl,υ.pure' ?_⟩;refine υ.bind' (Hr Θ χ nV ?_);refine υ.bind' (Hs Θ χ nV hz.xW Τ ?_);simp only[lD,Option.map_none];obtain⟨dP,p2,p3⟩:=Hv Β (es':=es++[(k,x)]) (xs':=xs.push {key:=v,val:=w,born:=clock}) (clock':=clock+1) bL γ kD λ{B' σ'} Α=>by
       refine⟨by simp[hz.1],λj e y Ρ ag=>?_,λj bK y z Ρ ag Hw=>?_⟩
       ·by_cases ε:j<es.length
        ·rw[ea ε] at Ρ;rw[Array.getElem?_push,if_neg (by rw[<-hz.1];omega)] at ag;obtain⟨c1,c2,c3⟩:=hz.2.1 j e y Ρ ag;exact⟨c1.later Α,c2.later Α,by omega⟩
        ·rw[hE (by omega)] at Ρ;have fy:j=es.length:=by
          have:=(b7.1 Ρ).1;simp at this;omega
         subst fy;rw[Array.getElem?_push,if_pos hz.1] at ag;simp at Ρ;subst Ρ;cases ag;exact⟨χ.later Α,U.later Α,Nat.lt_succ_self _⟩
       ·rw[Array.getElem?_push] at Ρ ag;split at Ρ
        ·rename_i Ε;split at ag
         ·omega
         ·have:=(Array.getElem?_eq_some_iff.1 ag).1;omega
        ·split at ag
         ·cases ag;have ε:=(Array.getElem?_eq_some_iff.1 Ρ).1;have he:∃e,es[j]?=some e:=⟨_,a2 (by rw[hz.1];exact ε)⟩;obtain⟨e,he⟩:=he;exact(hz.2.1 j e y he Ρ).2.2
         ·exact hz.2.2 j bK y z Ρ ag Hw
      exact⟨⟨_,nb⟩,rfl,rfl,υ.pure' ⟨S,_,_,_,I,p2,dP,p3,.cz _⟩⟩
     ·exact .bad
    | lu v J=>rw[bL] at J;cases J
   ·exact .bad
  ·exact .bad
 ·exact .bad
end
section
variable {P:Program} {T:bd} {S:aC} {B:aP} {H:ψ} {σ:List Row}
def Dn (T:bd) (ty:TypeId) (σ:List Row) (mp:θ):c6:=match vJ T ty,mp with
 | some _,.mp id=>match σ[id]? with
  | some (.map es)=>.ok (.it σ.length) (σ++[.iter id es none])
  | _=>.bad
 | _,_=>.bad
theorem US (Θ:bT P T) (Β:Holds S B σ H) {ty:TypeId} {mp:θ} {u:Value} (hm:ar S B σ mp u):cJ P (Instr.range ty u) S B H σ (Dn T ty σ mp):=by
 unfold Dn;split
 ·rename_i z4 id vK;obtain⟨i,hi,hu⟩:=Dk (kt:=z4.1) (vt:=z4.2) vK;split
  ·rename_i es bL;cases hm with
   | mp J γ=>
    rename_i b N;rw[bL] at J;cases J;obtain⟨xs,clock,nb,hz⟩:=z2 Β bL γ;intro K I;unfold Instr.range;refine υ.bind' (Θ.bI hi ?_);rw[hu];refine υ.bind' ?_;refine⟨_,nb,rfl,?_⟩;refine υ.bind' (υ.pure' ?_);refine υ.bind' ?_;refine λr μ=>?_;have bw:b≠r:=λe=>by subst e;rw[μ.2.2.1] at nb;cases nb
    have bS:id<σ.length:=(b7.1 bL).1
    have cE:∀Φ,(∀N,some (r,0)≠some (Φ,N))->kn H (H.aY r (.mapIter (some b) clock #[] clock)) Φ:=λΦ hb=>by
     have bw:Φ≠r:=λe=>by subst e;exact hb _ rfl
     exact⟨λo=>rfl,rfl,by simp[ψ.aY,bw]⟩
    have zz:bZ S S B (B++[some (r,0)]) σ (σ++[.iter id es none])->jC S (B++[some (r,0)]) (σ++[.iter id es none]) (H.aY r (.mapIter (some b) clock #[] clock)) (.iter id es none) (some (r,0)):=λΑ=>by
     refine⟨r,0,b,N,xs,clock,#[],rfl,by rw[ea (by rw[Β.len];exact bS)];exact γ,⟨es,by rw[ea bS];exact bL⟩,by simp[ψ.aY],by simp[ψ.aY,bw,nb],⟨xs.toList,?_,by simpa using hz.1,λi e y Ρ ag=>?_⟩,λy Ο=>?_,λe he=>by cases he⟩
     ·exact(List.filter_eq_self.2 λe _=>by simp).symm
     ·obtain⟨c1,c2⟩:=hz.xW.2 i e y Ρ ag;exact⟨c1.later Α,c2.later Α⟩
     ·obtain⟨j,ε,rfl⟩:=Array.getElem_of_mem Ο;have he:∃e,es[j]?=some e:=⟨_,a2 (by rw[hz.1];exact ε)⟩;obtain⟨e,he⟩:=he;exact(hz.2.1 j e _ he (e9 ε)).2.2
    obtain⟨dP,p2,p3⟩:=Β.push (λΦ eV e=>by cases e;exact μ) cE zz;exact υ.pure' ⟨_,_,_,_,I,p2,dP,p3,.it (C' σ _) (Da Β.len _)⟩
   | lu v J=>rw[bL] at J;cases J
  ·exact .bad
 ·exact .bad
theorem UT {α:Type} (f:α->Nat):∀(l:List α) (i:Nat) (e:α),(l.map f).Nodup->l[i]?=some e->l.filter (λx=>f x != f e)=l.eraseIdx i:=by
 intro l
 induction l with
 | nil=>intro i e _ h;simp at h
 | cons a l Δ=>
  intro i e Ι h;simp only[List.map_cons,List.nodup_cons] at Ι;cases i with
  | zero=>
   simp at h;subst h;rw[List.filter_cons];simp only[bne_self_eq_false,Bool.false_eq_true,if_false,List.eraseIdx_cons_zero];rw[List.filter_eq_self];intro x U;simp only[bne_iff_ne,ne_eq];intro e;exact Ι.1 (e▸List.mem_map_of_mem U)
  | succ i=>
   simp only[List.getElem?_cons_succ] at h;have bw:f a≠f e:=λx=>Ι.1 (x▸List.mem_map_of_mem (cv h));rw[List.filter_cons];simp only[bne_iff_ne,ne_eq,bw,not_false_eq_true,if_true,List.eraseIdx_cons_succ];rw[Δ i e Ι.2 h]
theorem UU {es:List (θ×θ)} {xs:Array MapEntry} {clock:Nat} (h:sd S B σ es xs clock):(xs.toList.map (·.born)).Nodup:=by
 rw[List.Nodup,List.pairwise_map,List.pairwise_iff_getElem];intro i j hi ε aH;have:=h.2.2 i j _ _ (e9 (by simpa using hi)) (e9 (by simpa using ε)) aH;simp only[Array.getElem_toList];omega
def Dp (σ:List Row) (it:θ):c6:=match it with
 | .it id=>match σ[id]? with
  | some (.iter m left _)=>if left.isEmpty=true then .ok (.bu [.z (.bool false)]) σ else
    .all left.length λi=>match left[i]? with
     | some e=>.ok (.bu [.z (.bool true),e.1,e.2]) (σ.set id (.iter m (left.eraseIdx i) (some e)))
     | none=>.bad
  | _=>.bad
 | _=>.bad
theorem UW {a b c:θ} {u v w:Value} (J:ar S B σ a u) (γ:ar S B σ b v) (π:ar S B σ c w):ar S B σ (.bu [a,b,c]) (.tuple #[u,v,w]):=by
 refine .bu _ rfl λi b9 e' Ρ ag=>?_
 match i with
 | 0=>simp at Ρ ag;subst Ρ;subst ag;exact J
 | 1=>simp at Ρ ag;subst Ρ;subst ag;exact γ
 | 2=>simp at Ρ ag;subst Ρ;subst ag;exact π
 | i+3=>simp at Ρ
theorem UX (Β:Holds S B σ H) {it:θ} {u:Value} (ty:TypeId) (hi:ar S B σ it u):cJ P (Instr.next u false ty) S B H σ (Dp σ it):=by
 unfold Dp;split
 ·rename_i id;split
  ·rename_i m left cur bL;cases hi with
   | it J γ=>
    rename_i GV GW b2 b N;rw[bL] at J;cases J;obtain⟨Φ,eV,aT,kI,xs,clock,seen,cI,se,⟨es,q2⟩,sm,vL,⟨cA,Hx,hlen,Hy⟩,xX,Dq⟩:=Β.row id _ _ bL γ;cases cI;obtain⟨xs',clock',MR,hz⟩:=z2 Β q2 se;rw[vL] at MR;cases MR;have ko:=UU hz;have bw:aT≠b:=λe=>by subst e;rw[sm] at vL;cases vL
    intro K I;have UY:(xs.filter λe=>!seen.contains e.born).toList=cA:=by rw[Hx];simp
    have g1:(!seen.isEmpty&&!xs.isEmpty&&xs.all (λe=>decide (e.born>=clock)))=false:=by
     cases U:xs.isEmpty with
     | true=>simp
     | false=>
      have pK:0<xs.size:=by
       rw[Array.isEmpty_eq_false_iff] at U;exact Array.size_pos_iff.2 U
      have ah:xs.all (λe=>decide (e.born>=clock))=false:=by
       rw[Array.all_eq_false];refine⟨0,pK,?_⟩;have:=xX xs[0] (Array.getElem_mem pK);simp;exact this
      rw[ah];simp
    have UZ:∀z:Array MapEntry,z=xs.filter (λe=>!seen.contains e.born)->z.filter (λe=>decide (e.born<clock))=z/\z.filter (λe=>decide (e.born>=clock))=#[]:=λz Η=>by
     have hb:∀e∈z,e.born<clock:=λe he=>by rw[Η] at he;exact xX e (Array.mem_of_mem_filter he)
     constructor
     ·rw[Array.filter_eq_self];intro e he;simpa using hb e he
     ·rw[Array.filter_eq_empty_iff];intro e he;simpa using hb e he
    unfold Instr.next;refine υ.bind' ?_;refine⟨_,sm,rfl,?_⟩;refine υ.pure' ?_;simp only;refine υ.bind' ?_;refine⟨_,vL,rfl,?_⟩;refine υ.pure' ?_;simp only[g1,Bool.false_eq_true,if_false];generalize Η:xs.filter (λe=>!seen.contains e.born)=z;obtain⟨f1,f2⟩:=UZ z Η.symm;rw[f1,f2];have nd:z.toList=cA:=by rw[<-Η];exact UY
    by_cases Dr:left.isEmpty=true
    ·have Hk:left=[]:=List.isEmpty_iff.1 Dr;subst Hk;have U0:z=#[]:=by
      have:cA=[]:=dp.1 (by rw[<-hlen];rfl);rw[this] at nd;exact Array.toList_eq_nil_iff.1 nd
     subst U0;have cI:((if(#[]:Array MapEntry).isEmpty=true then #[none] else #[])++Array.map some (#[]++#[]:Array MapEntry))=#[none]:=by simp
     rw[cI];refine υ.bind' ?_;show υ P (choose (.mapNext 1)) H _ _;unfold choose;simp only[υ,Question.forced,Nat.le_refl,decide_true,if_true];exact υ.pure' (.same Β I (.bu _ rfl λi a v Ρ ag=>by
      match i with
      | 0=>simp at Ρ ag;subst Ρ;subst ag;exact .z _
      | i+1=>simp at Ρ))
    ·rw[if_neg Dr] at I;have qV:z.size=left.length:=by rw[hlen,<-nd];simp
     have U1:z.isEmpty=false:=by
      rw[Array.isEmpty_eq_false_iff];intro e;rw[e] at qV;exact Dr (List.isEmpty_iff.2 (dp.1 qV.symm))
     simp only[U1,Bool.false_eq_true,if_false,Array.append_empty,Array.empty_append];refine υ.bind' ?_;have fin:∀i,i<left.length->υ P (match (z.map some)[i]? with
       | some (some e)=>do
        setObj b (.mapIter (some aT) clock (seen.push e.born) clock)
        pure (.tuple #[.bool true,e.key,e.val])
       | some none=>pure (.tuple #[.bool false])
       | none=>stuck "Next: no such candidate") H (iJ S B H σ K) (λ_ _=>False):=λi iK=>by
      have z5:∃pO,z[i]?=some pO:=⟨_,e9 (by omega)⟩;obtain⟨pO,z5⟩:=z5;have MS:cA[i]?=some pO:=by rw[<-nd,Array.getElem?_toList];exact z5
      have ik:∃e,left[i]?=some e:=⟨_,a2 iK⟩;obtain⟨le,ik⟩:=ik;rw[Array.getElem?_map,z5];simp only[Option.map_some];have MT:=I i iK;simp only[ik] at MT;obtain⟨r1,r2⟩:=Hy i _ _ ik MS;have pP:pO∈xs:=by
       have:pO∈z:=Array.mem_of_getElem? z5;rw[<-Η] at this;exact Array.mem_of_mem_filter this
      have bS:id<σ.length:=(b7.1 bL).1
      have oG:id<B.length:=by rw[Β.len];exact bS
      have MU:id≠m:=λe=>by subst e;rw[bL] at q2;cases q2
      obtain⟨dP,p2,p3⟩:=Β.xH (H':=H.aY b (.mapIter (some aT) clock (seen.push pO.born) clock)) (r':=.iter m (left.eraseIdx i) (some le)) (bo':=some (b,N)) bL trivial γ (.inl ⟨_,_,rfl,rfl⟩) (λΦ eV e=>.inl ⟨eV,e⟩) (λΦ Ρ _=>by
       have bw:Φ≠b:=λe=>by subst e;exact Ρ N rfl
       exact⟨λo=>rfl,rfl,by simp[ψ.aY,bw]⟩) ψ.GQ (λj l c ε=>by
       obtain⟨bo,eZ⟩:=Mj Β ε;obtain⟨_,_,_,_,_,_,_,_,_,⟨nQ,MV⟩,_⟩:=Β.row j _ bo ε eZ;rw[bL] at MV;cases MV) (λΑ=>by
       refine⟨b,N,aT,kI,xs,clock,seen.push pO.born,rfl,by rw[List.getElem?_set_ne MU];exact se,⟨es,by rw[List.getElem?_set_ne MU];exact q2⟩,by simp[ψ.aY],by simp[ψ.aY,bw,vL],⟨cA.eraseIdx i,?_,by rw[List.length_eraseIdx,List.length_eraseIdx,hlen],λj e y Ρ ag=>?_⟩,xX,λe he=>?_⟩
       ·have jV:(cA.map (·.born)).Nodup:=by
         rw[Hx];exact ko.sublist (List.filter_sublist.map _)
        rw[<-UT (·.born) cA i pO jV MS,Hx,List.filter_filter];apply List.filter_congr;intro e _;rw[Array.contains_push,Bool.not_or,Bool.and_comm];congr 1
       ·rw[List.getElem?_eraseIdx] at Ρ ag;split at Ρ
        ·rename_i aH;rw[if_pos aH] at ag;obtain⟨c1,c2⟩:=Hy j e y Ρ ag;exact⟨c1.later Α,c2.later Α⟩
        ·rename_i aH;rw[if_neg aH] at ag;obtain⟨c1,c2⟩:=Hy (j+1) e y Ρ ag;exact⟨c1.later Α,c2.later Α⟩
       ·cases he;refine⟨pO.born,pO,by simp,?_,r1.later Α,r2.later Α⟩;rw[<-Array.find?_toList];obtain⟨q,Χ⟩:=List.getElem?_of_mem (show pO∈xs.toList by simpa using pP);have key:∀(l:List MapEntry) (q:Nat) (e:MapEntry),(l.map (·.born)).Nodup->l[q]?=some e->l.find? (·.born==e.born)=some e:=by
         intro l
         induction l with
         | nil=>intro q e _ h;simp at h
         | cons a l Δ=>
          intro q e Ι h;simp only[List.map_cons,List.nodup_cons] at Ι;rw[List.find?_cons];cases q with
          | zero=>simp at h;subst h;simp
          | succ q=>
           simp only[List.getElem?_cons_succ] at h;have:(a.born==e.born)=false:=by
            simp only[beq_eq_false_iff_ne,ne_eq];intro x;exact Ι.1 (x▸List.mem_map_of_mem (cv h))
           rw[this];exact Δ q e Ι.2 h
        exact key xs.toList q _ ko Χ)
      refine υ.bind' ?_;refine⟨⟨_,sm⟩,rfl,rfl,?_⟩;refine υ.pure' ?_;exact υ.pure' ⟨S,_,_,_,MT,p2,dP,p3,UW (.z _) (r1.later p3) (r2.later p3)⟩
     have cp:(z.map some).size=left.length:=by simp[qV]
     show υ P (choose (.mapNext (z.map some).size)) H _ _;unfold choose;simp only[υ];have pK:0<left.length:=List.length_pos_iff.2 λe=>Dr (List.isEmpty_iff.2 e);split
     ·exact fin 0 pK
     ·intro n;refine fin _ ?_;simp only[Question.cut,cp];exact Nat.mod_lt _ pK
   | m7 v J=>rw[bL] at J;cases J
  ·exact .bad
 ·exact .bad
def Ds (σ:List Row) (it:θ):c6:=match it with
 | .it id=>match σ[id]? with
  | some (.iter _ _ (some e))=>.ok (.bu [e.1,e.2]) σ
  | _=>.bad
 | _=>.bad
theorem U2 (Β:Holds S B σ H) {it:θ} {u:Value} (hi:ar S B σ it u):cJ P (Instr.entry u) S B H σ (Ds σ it):=by
 unfold Ds;split
 ·rename_i id;split
  ·rename_i m left e bL;cases hi with
   | it J γ=>
    rename_i GV GW b2 b N;rw[bL] at J;cases J;obtain⟨Φ,eV,aT,kI,xs,clock,seen,cI,se,q2,sm,vL,_,xX,Dq⟩:=Β.row id _ _ bL γ;cases cI;obtain⟨GY,y,Ρ,ag,aV,cr⟩:=Dq e rfl;intro K I;unfold Instr.entry;refine υ.bind' ?_;refine⟨_,sm,rfl,?_⟩;refine υ.pure' ?_;simp only[Ρ];refine υ.bind' ?_;refine⟨_,vL,rfl,?_⟩;refine υ.pure' ?_;simp only[bne_self_eq_false,Bool.false_eq_true,if_false,ag];exact υ.pure' (.same Β I (xK aV cr))
   | m7 v J=>rw[bL] at J;cases J
  ·exact .bad
 ·exact .bad
def Dt (T:bd) (ty:TypeId) (σ:List Row) (x:θ):c6:=match x with
 | .ms id n i len=>match T ty,σ[id]? with
  | some kE,some (.cells t k l)=>match kE.bI with
   | .slice e=>match T e with
    | some b0=>match b0.zero with
     | .int kd z=>if l.length=n/\k=1/\i+len<=n/\(∀a∈l,a.cells.length=1) then .ok .cz (σ.set id (.cells t k (l.take i++List.replicate len (.z (.int kd z))++l.drop (i+len)))) else .bad
     | _=>.bad
    | none=>.bad
   | _=>.bad
  | _,_=>.bad
 | _=>.bad
theorem U3 (Θ:bT P T) (Β:Holds S B σ H) {ty:TypeId} (rt:TypeId) {x:θ} {u:Value} (hm:ar S B σ x u):cJ P (Builtin.clear_ #[ty] rt #[u]) S B H σ (Dt T ty σ x):=by
 unfold Dt;split
 ·rename_i id n i len;split
  ·rename_i kE t k l U4 Α;split
   ·rename_i e hu;split
    ·rename_i b0 dA;split
     ·rename_i kd z Η;split
      ·rename_i ζ;obtain⟨Ι,rfl,bb,_⟩:=ζ;have bS:id<σ.length:=(b7.1 Α).1;have oG:id<B.length:=by rw[Β.len];exact bS
       intro K I;have same:len=0->iJ S B H σ K (.tuple #[]) H:=λcI=>by
        subst cI;have tQ:σ.set id (.cells t 1 (l.take i++List.replicate 0 (.z (.int kd z))++l.drop (i+0)))=σ:=by
         rw[List.replicate_zero,List.append_nil,Nat.add_zero,List.take_append_drop];apply List.ext_getElem?;intro j;by_cases mj:id=j
         ·subst mj;rw[List.getElem?_set_self bS,Α]
         ·rw[List.getElem?_set_ne mj]
        simp only[c6.holds] at I;rw[tQ] at I;exact⟨S,B,σ,_,I,.refl _ _ _,Β,.refl _ _ _,.cz _⟩
       cases hm with
       | ja v J γ=>rw[Α] at J;cases J;simp only[Row.g9] at γ;omega
       | ms cap J γ π Μ aB bc=>
        rename_i bo base;rw[Α] at J;cases J;unfold Builtin.clear_;refine υ.bind' (Θ.bI U4 ?_);rw[hu];cases base with
        | none=>
         refine υ.bind' (υ.pure' ?_);have cI:len=0:=by
          rcases bc with bc|⟨b,N,_,hb,_⟩
          ·omega
          ·cases hb
         exact υ.pure' (same cI)
        | some a=>
         by_cases cI:len=0
         ·subst cI;refine υ.bind' (υ.pure' ?_);exact υ.pure' (same rfl)
         ·rcases bc with bc|⟨b,N,rfl,hb,bc⟩
          ·omega
          ·cases hb;obtain⟨bL,ck,fQ,w,hw⟩:=Β.row id _ _ Α π;obtain⟨m,rfl⟩:∃m,len=m+1:=⟨len-1,by omega⟩;simp only;refine υ.bind' (Θ.zero dA ?_);rw[Η];have U5:(Builtin.zeroCells (Value.int kd z).cells (m+1)).toList=List.replicate (m+1) (.int kd z):=by
            simp only[Builtin.zeroCells,Value.cells];rw[Array.toList_map,Array.toList_range];refine List.ext_getElem? λj=>?_;rw[List.getElem?_map,List.getElem?_replicate];by_cases ε:j<m+1
            ·rw[List.getElem?_range (by simpa using ε),if_pos ε];simp[Nat.mod_one]
            ·rw[List.getElem?_eq_none (by simp;omega),if_neg ε];rfl
           rw[U5];have im:∀(y:Nat) (c:θ),(l.take i++List.replicate (m+1) (θ.z (.int kd z))++l.drop (i+(m+1)))[y]?=some c->(i<=y/\y<i+(m+1)/\c=.z (.int kd z))\/((y<i\/i+(m+1)<=y)/\l[y]?=some c):=λy c Ο=>by
            by_cases c1:y<i
            ·rw[List.append_assoc,ea (by simp;omega),List.getElem?_take_of_lt c1] at Ο;exact .inr ⟨.inl c1,Ο⟩
            ·by_cases c2:y<i+(m+1)
             ·rw[ea (by simp;omega),hE (by simp;omega),List.getElem?_replicate] at Ο;split at Ο
              ·cases Ο;exact .inl ⟨by omega,c2,rfl⟩
              ·cases Ο
             ·rw[hE (by simp;omega),List.getElem?_drop] at Ο;have Ε:i+(m+1)+(y-(l.take i++List.replicate (m+1) (θ.z (.int kd z))).length)=y:=by simp;omega
              rw[Ε] at Ο;exact .inr ⟨.inr (by omega),Ο⟩
           obtain⟨dP,p2,p3⟩:=Β.xH (H':=H.ht b i (List.replicate (m+1) (.int kd z))) (r':=.cells t 1 (l.take i++List.replicate (m+1) (.z (.int kd z))++l.drop (i+(m+1)))) (bo':=some (b,N)) Α trivial π (.inl ⟨_,rfl,by simp;omega,rfl⟩) (λΦ eV aJ=>.inl ⟨eV,aJ⟩)
            (λΦ J _=>by
             have bw:Φ≠b:=λaJ=>by subst aJ;exact J N rfl
             exact⟨λo=>by simp[ψ.ht,bw],rfl,rfl⟩) ψ.GZ (CV Β Α) (λkA=>by
             refine⟨bL,by simp;omega,λo Γ=>?_,λy j=>if i<=y/\y<i+(m+1) then .int kd z else w y j,λy c Ο=>?_⟩
             ·simp only[ψ.ht];split
              ·exact⟨_,rfl⟩
              ·exact fQ o Γ
             ·rcases im y c Ο with⟨c1,c2,rfl⟩|⟨c1,vi⟩
              ·refine⟨rfl,λj a ε=>?_⟩;have fy:j=0:=by have:=(b7.1 ε).1;simp[θ.cells] at this;omega
               subst fy;simp[θ.cells] at ε;subst ε;simp only[c1,c2,and_self,if_true];refine⟨?_,.z _,trivial⟩;simp only[ψ.ht,List.length_replicate];rw[if_pos ⟨trivial,by omega,by omega⟩,List.getElem?_replicate,if_pos (by omega)];rfl
              ·refine⟨(hw y c vi).1,λj a ε=>?_⟩;obtain⟨Ρ,ag,aV⟩:=(hw y c vi).2 j a ε;have fy:j=0:=by have:=(b7.1 ε).1;rw[(hw y c vi).1] at this;omega
               subst fy;have Du:¬(i<=y/\y<i+(m+1)):=by omega
               simp only[Du,if_false];refine⟨?_,ag.later kA,aV⟩;simp only[ψ.ht,List.length_replicate];rw[if_neg (by omega)];exact Ρ)
           have ν:(⟨b,i*1,none⟩:Addr)=⟨b,i,none⟩:=by rw[Nat.mul_one]
           rw[ν];refine υ.bind' ?_;refine υ.storeCells (G:=H) rfl ⟨t,N,bL⟩ _ 0 H (λv hv=>by rw[List.eq_of_mem_replicate hv];trivial) (λj _ ε=>?_) rfl ?_
           ·rw[List.length_replicate] at ε;obtain⟨ed,xV⟩:=fQ (i+j) (by omega);exact⟨ed,xV⟩
           ·exact υ.pure' ⟨S,_,_,_,I,p2,dP,p3,.cz _⟩
      ·exact .bad
     ·exact .bad
    ·exact .bad
   ·exact .bad
  ·exact .bad
 ·exact .bad
def Dv (T:bd) (ty:TypeId) (σ:List Row) (mp:θ):c6:=match vJ T ty,mp with
 | some _,.mp id=>match σ[id]? with
  | some (.map _)=>if nW σ id=true then .ok .cz (σ.set id (.map [])) else .bad
  | _=>.bad
 | _,_=>Dt T ty σ mp
theorem U6 (Θ:bT P T) (Β:Holds S B σ H) {ty:TypeId} (rt:TypeId) {mp:θ} {u:Value} (hm:ar S B σ mp u):cJ P (Builtin.clear_ #[ty] rt #[u]) S B H σ (Dv T ty σ mp):=by
 unfold Dv;split
 ·rename_i z4 id vK;obtain⟨i,hi,hu⟩:=Dk (kt:=z4.1) (vt:=z4.2) vK;split
  ·rename_i es bL;split
   ·rename_i kD;cases hm with
    | mp J γ=>
     rename_i b N;rw[bL] at J;cases J;obtain⟨xs,clock,nb,hz⟩:=z2 Β bL γ;obtain⟨dP,p2,p3⟩:=Hv Β (es':=[]) (xs':=#[]) (clock':=clock) bL γ kD λ_=>⟨rfl,λi e y J=>by simp at J,λi j y z J=>by simp at J⟩;intro K I;unfold Builtin.clear_;refine υ.bind' (Θ.bI hi ?_);rw[hu];refine υ.bind' ?_;refine⟨_,nb,rfl,?_⟩;refine υ.pure' ?_;refine⟨⟨_,nb⟩,rfl,rfl,?_⟩;exact υ.pure' ⟨S,_,_,_,I,p2,dP,p3,.cz _⟩
    | lu v J=>rw[bL] at J;cases J
   ·exact .bad
  ·exact .bad
 ·exact U3 Θ Β rt hm
end
def vM (T:bd) (op:BinOp) (ty:TypeId) (a b:θ):cB:=match aeqv T ty a b with
 | some r=>match op with
  | .eql=>.ok (.z (.bool r))
  | .neq=>.ok (.z (.bool !r))
  | _=>.bad
 | none=>.bad
def Dw (T:bd) (op:BinOp) (ty:TypeId) (a b:θ):cB:=match a,b with
 | .z x,.z y=>match sg op x y with
  | .ok v=>.ok v
  | .b5 p r=>.b5 p r
  | .bad=>vM T op ty (.z x) (.z y)
 | .aW x,.aW y=>vM T op ty (.aW x) (.aW y)
 | _,_=>.bad
def Dx (T:bd) (ty:TypeId) (x cg:θ):cB:=match T ty with
 | some i=>match i.bI,x,cg with
  | .string,.z (.string s),.z (.int _ n)=>.b5 (0<=n/\n<s.size) (.ok (.z (.int .u8 (s.data.toList.getD n.toNat 0).toNat)))
  | .array len e,.aW xs,.z (.int _ n)=>match T e with
   | some b0=>if b0.agg=false/\b0.size=1/\xs.length=len then .b5 (0<=n/\n<len) (.ok (xs.getD n.toNat .cz)) else .bad
   | none=>.bad
  | _,_,_=>.bad
 | none=>.bad
def Dy (x:θ):cB:=match x with
 | .ad c=>.ok (.ad c)
 | .fn (.func f) a b=>.ok (.fn (.func f) a b)
 | .z (.pointer (some a))=>.ok (.z (.pointer (some a)))
 | _=>.bad
def vN (σ:List Row) (x:θ):c6:=match x with
 | .Ψ id n i j=>match σ[id]? with
  | some (.cells _ _ l)=>if l.length=n then .ok (.Ψ id n i j) σ else .bad
  | _=>.bad
 | _=>.bad
def Dz (T:bd) (arr:TypeId) (x:θ):cB:=match T arr with
 | some i=>match i.bI,x with
  | .array n _,.sl _ k l=>if 0<n/\k=1/\(l.all λe=>decide (e.cells.length=1)&&θ.a8 [] e)=true then .b5 (n<=l.length) (.ok (.ad (l.take n))) else .bad
  | _,_=>.bad
 | none=>.bad
def sn:List θ->Option (List Int)
 | []=>some []
 | .z (.int .i32 n)::r=>(sn r).map (n::·)
 | _=>none
def spell (l:List Int):ByteArray:=l.foldl (λs n=>s++Utf8.encode n) .empty
def z6 (T:bd) (ty:TypeId):Bool:=match T ty with
 | some i=>match i.bI with
  | .slice e=>match T e with|some b0=>(match b0.bI with|.int .i32=>true|_=>false)&&b0.size==1|none=>false
  | _=>false
 | none=>false
def z7 (T:bd) (ty:TypeId):Bool:=match T ty with|some i=>(match i.bI with|.string=>true|_=>false)|none=>false
def tR (T:bd) (src dst:TypeId) (σ:List Row) (x:θ):cB:=if z6 T src=true/\z7 T dst=true then match pJ σ x with
 | some (k,l)=>if k=1\/l.isEmpty=true then match sn l with|some r=>.ok (.z (.string (spell r)))|none=>.bad else .bad
 | none=>.bad else .bad
def DC (T:bd) (src dst:TypeId) (x:θ):cB:=if z7 T src=true/\z6 T dst=true then match x with
 | .z (.string s)=>.ok (.sl false 1 ((Conv.runesFrom s s.size 0 #[]).toList.map .z))
 | _=>.bad else .bad
section
variable {P:Program} {T:bd} {S:aC} {B:aP} {H:ψ} {σ:List Row}
theorem U7 {op:BinOp} {ty:TypeId} {p q:Operand} {vs ws:Array Value} (Υ:P.eqGuardType P.depth ty=false) {G:ψ} {K:Unit->ψ->Prop} {E:Value->ψ->Prop} (χ:K () G):υ P (eqGuard op ty p q (.agg vs) (.agg ws)) G K E:=by
 cases op<;>first|exact υ.pure' χ|skip
 all_goals
  unfold eqGuard;simp only[Bool.not_true,Bool.false_eq_true,if_false];refine υ.bind' ?_;show υ P _ G K E;refine υ.bind' ?_;show υ P _ G K E;rw[if_pos (by rw[Υ];rfl)];exact υ.pure' χ
theorem MW (Θ:bT P T) (Β:Holds S B σ H) {op:BinOp} {ty:TypeId} {p q:Operand} {a b:θ} {v w:Value} (ν:ar S B σ a v) (hb:ar S B σ b w) (MX:∀r,aeqv T ty a b=some r->(op=.eql\/op=.neq)->∀(K:Unit->ψ->Prop),K () H->υ P (eqGuard op ty p q v w) H K (λ_ _=>False))
  (U8:∀r,aeqv T ty a b=some r->(binOp .eql ty v w=(do pure (.bool (<-Op.equal ty v w)))/\binOp .neq ty v w=(do pure (.bool (!(<-Op.equal ty v w)))))) :
  cJ P (do eqGuard op ty p q v w;binOp op ty v w) S B H σ ((vM T op ty a b).du σ):=by
 unfold vM;split
 ·rename_i r μ;obtain⟨J,γ⟩:=U8 r μ;split
  ·intro K I;refine υ.bind' (MX r μ (.inl rfl) _ ?_);rw[J];exact υ.bind' (Hq Θ ν hb μ (υ.pure' (.same Β I (.z _))))
  ·intro K I;refine υ.bind' (MX r μ (.inr rfl) _ ?_);rw[γ];exact υ.bind' (Hq Θ ν hb μ (υ.pure' (.same Β I (.z _))))
  ·exact .bad
 ·exact .bad
theorem U9 (Θ:bT P T) (Β:Holds S B σ H) (op:BinOp) (ty:TypeId) (p q:Operand) {a b:θ} {v w:Value} (ν:ar S B σ a v) (hb:ar S B σ b w):cJ P (do eqGuard op ty p q v w;binOp op ty v w) S B H σ ((Dw T op ty a b).du σ):=by
 unfold Dw;split
 ·rename_i x y;have Η:=TS (P:=P) Β op ty p q v w;cases ν;cases hb;split
  ·rename_i r μ;rw[μ] at Η;exact Η
  ·rename_i pp r μ;rw[μ] at Η;exact Η
  ·rename_i xY;have hX:∀r,aeqv T ty (.z v) (.z w)=some r->(∃c d,v=.bool c/\w=.bool d)\/¬(op=.eql\/op=.neq):=λr μ=>by
    unfold aeqv at μ;split at μ<;>try cases μ
    simp only at μ;split at μ<;>try cases μ
    unfold mm at μ;split at μ
    ·split at μ
     ·rename_i e;subst e;refine .inr λΓ=>?_;rcases Γ with rfl|rfl<;>simp[sg] at xY
     ·cases μ
    ·refine .inr λΓ=>?_;rcases Γ with rfl|rfl<;>simp[sg] at xY
    ·exact .inl ⟨_,_,rfl,rfl⟩
    ·cases μ
   by_cases Ν:op=.eql\/op=.neq
   ·by_cases μ:∃r,aeqv T ty (.z v) (.z w)=some r
    ·obtain⟨r,μ⟩:=μ;rcases hX r μ with⟨c,d,rfl,rfl⟩|h
     ·exact MW Θ Β (.z _) (.z _) (λ_ _ _ K I=>by unfold eqGuard;split<;>exact υ.pure' I) (λ_ _=>⟨rfl,rfl⟩)
     ·exact absurd Ν h
    ·have:aeqv T ty (.z v) (.z w)=none:=by
      cases h:aeqv T ty (.z v) (.z w) with
      | none=>rfl
      | some r=>exact absurd ⟨r,h⟩ μ
     unfold vM;rw[this];exact .bad
   ·unfold vM;split
    ·split
     ·exact absurd (.inl rfl) Ν
     ·exact absurd (.inr rfl) Ν
     ·exact .bad
    ·exact .bad
 ·rename_i x y;cases ν with
  | aW vs Ρ ag=>cases hb with
   | aW ws k1 cy=>
    refine MW Θ Β (.aW vs Ρ ag) (.aW ws k1 cy) (λr μ _ K I=>?_) (λ_ _=>⟨rfl,rfl⟩);have Υ:P.eqGuardType P.depth ty=false:=by
     unfold aeqv at μ;split at μ<;>try cases μ
     rename_i i hi;simp only at μ;split at μ<;>try cases μ
     rename_i items dq;have:=(Θ ty i hi).1.2;rw[dq] at this;exact this.1
    exact U7 Υ I
 ·exact .bad
theorem U' (Θ:bT P T) (Β:Holds S B σ H) (ty:TypeId) {x cg:θ} {v w:Value} (U:ar S B σ x v) (hi:ar S B σ cg w):cJ P (Instr.index ty v w) S B H σ ((Dx T ty x cg).du σ):=by
 unfold Dx;cases Ξ:T ty with
 | none=>exact .bad
 | some i=>
  simp only;split
  ·rename_i s kk n hu;cases U;cases hi;refine cJ.b5 (r:=(cB.ok (.z (.int .u8 (s.data.toList.getD n.toNat 0).toNat))).du σ) λΙ K I=>?_;unfold Instr.index;refine υ.bind' (υ.pure' ?_);refine υ.bind' (Θ.bI Ξ ?_);rw[hu];have aH:n.toNat<s.data.size:=by have:s.size=s.data.size:=rfl;omega
   have Ε:(if 0<=n then s[n.toNat]? else none)=some s.data[n.toNat]:=by
    rw[if_pos Ι.1];show s[n.toNat]?=_;rw[getElem?_pos s n.toNat (by omega)];rfl
   simp only[Ε];have Ζ:s.data.toList.getD n.toNat 0=s.data[n.toNat]:=by rw[List.getD_eq_getElem?_getD,Array.getElem?_toList,e9 aH];rfl
   rw[Ζ] at I;exact υ.pure' (.same Β I (.z _))
  ·rename_i len e xs kk n hu;cases hi;split
   ·rename_i b0 dA;split
    ·rename_i ζ;obtain⟨c1,c2,c3⟩:=ζ;refine cJ.b5 (r:=(cB.ok (xs.getD n.toNat .cz)).du σ) λΙ K I=>?_;cases U with
     | aW vs Ρ ag=>
      unfold Instr.index;refine υ.bind' (υ.pure' ?_);refine υ.bind' (Θ.bI Ξ ?_);rw[hu];simp only[Ι,and_self,if_true];refine υ.bind' (Θ.size dA ?_);rw[c2,Nat.mul_one];unfold part;refine υ.bind' (Θ.agg dA ?_);rw[c1];have aH:n.toNat<xs.length:=by omega
      have hv:n.toNat<vs.size:=by rw[<-Ρ];exact aH
      simp only[Bool.false_eq_true,if_false,e9 hv];have Ζ:xs.getD n.toNat .cz=xs[n.toNat]:=by simp[aH]
      rw[Ζ] at I;exact υ.pure' (.same Β I (ag _ _ _ (a2 aH) (e9 hv)))
    ·exact .bad
   ·exact .bad
  ·exact .bad
theorem Va (Β:Holds S B σ H) {ρ:Operand->Value} {o:Oper} {x:Operand} (Γ:o.op=.nilCheck x) {a:θ} (ν:ar S B σ a (ρ x)):Does P (execOp ρ o) S B H σ ((Dy a).du σ):=by
 unfold Dy;split
 ·unfold execOp;rw[Γ];simp only;generalize ρ x=v at ν;cases ν with
  | ad b o w J γ=>exact Does.val Β (.ad b o w J γ)
 ·unfold execOp;rw[Γ];simp only;generalize ρ x=v at ν;cases ν with
  | fn vs ws J γ π Μ=>exact Does.val Β (.fn vs ws J γ π Μ)
 ·unfold execOp;rw[Γ];simp only;generalize ρ x=v at ν;cases ν;exact Does.val Β (.z _)
 ·exact .bad
theorem Vb (Β:Holds S B σ H) {ρ:Operand->Value} {o:Oper} {x:Operand} (Γ:o.op=.nilCheck x) {a:θ} (ν:ar S B σ a (ρ x)):Does P (execOp ρ o) S B H σ (vN σ a):=by
 unfold vN;split
 ·split
  ·rename_i t k l Α;split
   ·rename_i Ι;unfold execOp;rw[Γ];simp only;generalize ρ x=v at ν;cases ν with
    | Ψ J γ π=>exact Does.val Β (.Ψ J γ π)
    | jB v J γ=>rw[Α] at J;cases J;simp only[Row.g9] at γ;omega
   ·exact .bad
  ·exact .bad
 ·exact .bad
theorem Vd (Θ:bT P T) (Β:Holds S B σ H) (arr:TypeId) {x:θ} {v:Value} (U:ar S B σ x v):cJ P (Instr.arrayAt arr v) S B H σ ((Dz T arr x).du σ):=by
 unfold Dz;cases Ξ:T arr with
 | none=>exact .bad
 | some i=>
  simp only;split
  ·rename_i n e ex k l hu;split
   ·rename_i ζ;obtain⟨c1,c2,c3⟩:=ζ;subst c2;refine cJ.b5 (r:=(cB.ok (.ad (l.take n))).du σ) λΙ K I=>?_;obtain⟨base,cap,rfl,_,_,π⟩:=qT U;obtain⟨b,o,w,rfl,Μ,aB,bc⟩:=π (λe=>by subst e;simp at Ι;omega);unfold Instr.arrayAt;refine υ.bind' (Θ.bI Ξ ?_);rw[hu];simp only;rw[if_neg (by omega)];rw[List.all_eq_true] at c3;have el:∀(j:Nat) (e:θ),(l.take n)[j]?=some e->l[j]?=some e/\e.cells=[e]:=λj e ε=>by
     have hm:=c3 e (List.mem_of_mem_take (cv ε));simp only[Bool.and_eq_true] at hm;rw[List.getElem?_take] at ε;split at ε
     ·exact⟨ε,θ.G5 hm.2⟩
     ·cases ε
    refine υ.pure' (.same Β I (.ad b o (λj=>w j 0) (λj a ε=>?_) (λj a ε=>?_)))
    ·obtain⟨Ρ,ag⟩:=el j a ε;have:=aB j a Ρ 0 a (by rw[ag];rfl);simpa using this
    ·obtain⟨Ρ,ag⟩:=el j a ε;exact bc j a Ρ 0 a (by rw[ag];rfl)
   ·exact .bad
  ·exact .bad
theorem MY {ty:TypeId} (h:z6 T ty=true):∃i e b0,T ty=some i/\i.bI=.slice e/\T e=some b0/\b0.bI=.int .i32/\b0.size=1:=by
 unfold z6 at h;split at h
 ·rename_i i hi;split at h
  ·rename_i e hu;split at h
   ·rename_i b0 dA;simp only[Bool.and_eq_true,beq_iff_eq] at h;refine⟨i,e,b0,hi,hu,dA,?_,h.2⟩;have:=h.1;split at this
    ·assumption
    ·cases this
   ·cases h
  ·cases h
 ·cases h
theorem MZ {ty:TypeId} (h:z7 T ty=true):∃i,T ty=some i/\i.bI=.string:=by
 unfold z7 at h;split at h
 ·rename_i i hi;refine⟨i,hi,?_⟩;split at h
  ·assumption
  ·cases h
 ·cases h
theorem Ve (Θ:bT P T) (Β:Holds S B σ H) (src dst:TypeId) {x:θ} {v:Value} (U:ar S B σ x v):cJ P (convert src dst v) S B H σ ((DC T src dst x).du σ):=by
 unfold DC;split
 ·rename_i ζ;obtain⟨i,hi,hu⟩:=MZ ζ.1;obtain⟨j,e,b0,ε,Hz,dA,HA,cp⟩:=MY ζ.2;split
  ·rename_i s;cases U;intro K I;unfold convert;refine υ.bind' (Θ.bI hi (υ.bind' (Θ.bI ε ?_)));rw[hu,Hz];simp only;refine υ.bind' (Θ.bI dA ?_);rw[HA];simp only;unfold Conv.stringToRunes;refine υ.bind' ?_;unfold choose;simp only[υ];have Χ:(Question.appendCap (Conv.runesFrom s s.size 0 #[]).size 0 e).forced=false:=rfl;rw[Χ];simp only[Bool.false_eq_true,if_false];intro q;generalize HB:Conv.runesFrom s s.size 0 #[]=lB at I ⊢;have xN:lB.size<=(Question.appendCap lB.size 0 e).cut q:=by simp[Question.cut]
   refine υ.bind' (υ.bind' ?_);have Vf:∀v∈lB,One v:=by
    have key:∀(bound i:Nat) (acc:Array Value),(∀v∈acc,One v)->∀v∈Conv.runesFrom s bound i acc,One v:=by
     intro bound
     induction bound with
     | zero=>intro i acc h;exact h
     | succ n Δ=>
      intro i acc h;unfold Conv.runesFrom;split
      ·refine Δ _ _ λv hv=>?_;rcases Array.mem_push.1 hv with hv|rfl
       ·exact h v hv
       ·trivial
      ·exact h
    rw[<-HB];exact key _ _ _ (λv hv=>by simp at hv)
   have zY:fI S B σ (lB++Array.replicate ((Question.appendCap lB.size 0 e).cut q-lB.size) (.int .i32 0)) 1 (lB.toList.map .z):=by
    refine⟨by simp,λj a ε=>?_⟩;rw[List.getElem?_map,Array.getElem?_toList] at ε;cases U:lB[j]? with
    | none=>rw[U] at ε;cases ε
    | some y=>
     rw[U] at ε;cases ε;refine⟨rfl,λz b Η=>?_⟩
     match z with
     | 0=>
      simp[θ.cells] at Η;subst Η;refine⟨y,?_,.z y,Vf y (Array.mem_of_getElem? U)⟩;have:=(Array.getElem?_eq_some_iff.1 U).1;rw[Array.getElem?_append_left (by simpa using this)];simpa using U
     | z+1=>simp[θ.cells] at Η
   refine zS Β _ e λr J γ π=>υ.pure' (υ.pure' ⟨_,_,_,_,I,γ,J,π,?_⟩);have:=CY (cap:=(Question.appendCap lB.size 0 e).cut q) false π zY (by simpa using xN) (by simp);simpa using this
  ·exact .bad
 ·exact .bad
theorem Vg:∀(l:List θ) (r:List Int),sn l=some r->r.length=l.length/\∀(i:Nat) (n:Int),r[i]?=some n->l[i]?=some (.z (.int .i32 n)):=by
 intro l
 induction l with
 | nil=>intro r h;cases h;exact⟨rfl,λi n h=>by simp at h⟩
 | cons a l Δ=>
  intro r h;unfold sn at h;split at h
  ·rename_i heq;cases heq
  ·rename_i n dV heq;cases heq;cases Α:sn l with
   | none=>rw[Α] at h;cases h
   | some r'=>
    rw[Α] at h;cases h;obtain⟨J,γ⟩:=Δ r' Α;refine⟨by simp[J],λi m hm=>?_⟩;cases i with
    | zero=>simp at hm;subst hm;rfl
    | succ i=>exact γ i m (by simpa using hm)
  ·cases h
theorem Vh (Θ:bT P T) (Β:Holds S B σ H) (src dst:TypeId) {x:θ} {v:Value} (U:ar S B σ x v):cJ P (convert src dst v) S B H σ ((tR T src dst σ x).du σ):=by
 unfold tR;split
 ·rename_i ζ;obtain⟨i,e,b0,hi,hu,dA,HA,cp⟩:=MY ζ.1;obtain⟨j,ε,Hz⟩:=MZ ζ.2;split
  ·rename_i k l Α;split
   ·rename_i χ;split
    ·rename_i r μ;obtain⟨base,cap,w,rfl,_,HC,HB⟩:=C8 Β U (k:=1) Α (by omega) (χ.symm);obtain⟨Cd,Vi⟩:=Vg l r μ;intro K I;unfold convert;refine υ.bind' (Θ.bI hi (υ.bind' (Θ.bI ε ?_)));rw[hu,Hz];have hw:∀i,i<l.length->w i=.int .i32 (r.getD i 0):=λi iK=>by
      have M0:r[i]?=some r[i]:=a2 (by omega)
      have:=(HB i _ (Vi i _ M0)).2 0 _ rfl;rw[Nat.mul_one,Nat.add_zero] at this;rw[List.getD_eq_getElem?_getD,M0];generalize w i=u at this;cases this;rfl
     have go:υ P (Conv.runesToString (.slice base l.length cap)) H (iJ S B H σ K) (λ_ _=>False):=by
      unfold Conv.runesToString;rw[Nat.mul_one] at HC;cases base with
      | none=>
       simp only;rcases HC with ah|⟨b,o,hb,_⟩
       ·have:r=[]:=dp.1 (by rw[Cd,ah]);subst this;exact υ.pure' (.same Β I (.z _))
       ·cases hb
      | some a=>
       simp only;have fold:∀(rs:List Int) (acc:ByteArray),υ P (forIn (rs.map λn=>Value.int .i32 n) acc λ(c:Value) (s:ByteArray)=>do
         let .int .i32 n:=c|stuck "runesToString: rune expected"
         pure (ForInStep.yield (s++Utf8.encode n))) H (λs H'=>s=rs.foldl (λs n=>s++Utf8.encode n) acc/\H'=H) (λ_ _=>False):=by
        intro rs
        induction rs with
        | nil=>intro acc;exact .forIn_nil ⟨rfl,rfl⟩
        | cons n rs Δ=>
         intro acc;rw[List.map_cons];refine .forIn_cons ?_;exact υ.pure' (Δ (acc++Utf8.encode n))
       have cells:υ P (loadCells a l.length) H (λvs H'=>vs=(r.map λn=>Value.int .i32 n).toArray/\H'=H) (λ_ _=>False):=by
        rcases HC with ah|⟨b,o,hb,Hl⟩
        ·rw[ah];have:r=[]:=dp.1 (by rw[Cd,ah]);subst this;exact υ.pure' ⟨rfl,rfl⟩
        ·cases hb;refine υ.loadCells w rfl Hl ⟨?_,rfl⟩;congr 1;apply List.ext_getElem?;intro i;rw[List.getElem?_map,List.getElem?_map];by_cases iK:i<l.length
         ·rw[List.getElem?_range iK,a2 (show i<r.length by omega)];simp only[Option.map_some];rw[hw i iK,List.getD_eq_getElem?_getD,a2 (show i<r.length by omega)];rfl
         ·rw[List.getElem?_eq_none (by simp;omega),List.getElem?_eq_none (by omega)];rfl
       refine υ.bind' (υ.mono (λvs H' ⟨Ε,Ζ⟩=>?_) (λ_ _ h=>h) _ cells);subst Ε;subst Ζ;rw[<-Array.forIn_toList];refine υ.bind' (υ.mono (λs H' ⟨Ε,Ζ⟩=>?_) (λ_ _ h=>h) _ (fold r .empty));subst Ε;subst Ζ;exact υ.pure' (.same Β I (.z _))
     have:υ P (do
      match <-underlying e with
      | .int .u8=>Conv.bytesToString (.slice base l.length cap)
      | .int .i32=>Conv.runesToString (.slice base l.length cap)
      | _=>stuck "Convert: a slice of what to string?") H (iJ S B H σ K) (λ_ _=>False):=by
      refine υ.bind' (Θ.bI dA ?_);rw[HA];exact go
     cases base<;>exact this
    ·exact .bad
   ·exact .bad
  ·exact .bad
 ·exact .bad
end
def DD (σ:List Row):c6:=.all 2 λj=>.ok (.z (.bool (j==1))) σ
def DF (T:bd) (ty:TypeId) (σ:List Row) (a:θ):c6:=match T ty with
 | some i=>match i.bI with
  | .slice _=>match a with
   | .ms id n i len=>match σ[id]? with
    | some (.cells _ _ l)=>if l.length=n/\i+len<=n then(if len=0 then DD σ else .ok (.z (.bool false)) σ) else .bad
    | _=>.bad
   | .sl _ _ l=>if l.isEmpty then DD σ else .ok (.z (.bool false)) σ
   | _=>.bad
  | _=>.bad
 | none=>.bad
section
variable {P:Program} {T:bd} {S:aC} {B:aP} {H:ψ} {σ:List Row}
theorem z8 (Θ:bT P T) (Β:Holds S B σ H) {ty:TypeId} {i:il} (hi:T ty=some i) {e:TypeId} (hu:i.bI=.slice e) (p q:Operand) (base:Option Addr) (len cap:Nat) {du:c6}
  (Vj:∀K,du.holds K->K (.z (.bool base.isNone)) σ):cJ P (do eqGuard .eql ty p q (.slice base len cap) (.slice none 0 0);binOp .eql ty (.slice base len cap) (.slice none 0 0)) S B H σ du:=by
 intro K I;have I:=Vj K I;refine υ.bind' ?_;unfold eqGuard;refine υ.pure' ?_;have Vk:binOp .eql ty (.slice base len cap) (.slice none 0 0)=(do pure (Value.bool (<-Op.equal ty (.slice base len cap) (.slice none 0 0)))):=rfl;rw[Vk];refine υ.bind' ?_;unfold Op.equal;unfold Op.equalIn;refine υ.bind' (Θ.bI hi ?_);rw[hu];cases base with
 | none=>exact υ.pure' (υ.pure' (.same Β I (.z _)))
 | some b=>exact υ.pure' (υ.pure' (.same Β I (.z _)))
theorem HD {K:θ->List Row->Prop} (h:(DD σ).holds K) (b:Bool):K (.z (.bool b)) σ:=by
 cases b
 ·exact h 0 (by decide)
 ·exact h 1 (by decide)
theorem Vl (Θ:bT P T) (Β:Holds S B σ H) (ty:TypeId) (p q:Operand) {a:θ} {v:Value} (ν:ar S B σ a v):cJ P (do eqGuard .eql ty p q v (.slice none 0 0);binOp .eql ty v (.slice none 0 0)) S B H σ (DF T ty σ a):=by
 unfold DF;split
 ·rename_i i hi;split
  ·rename_i e hu;split
   ·rename_i id n j len;split
    ·rename_i t k l μ;split
     ·rename_i ζ;cases ν with
      | @ms _ _ _ _ _ _ _ bo base cap J γ π Μ aB bc=>
       split
       ·exact z8 Θ Β hi hu p q base len cap λK I=>HD I _
       ·rename_i hlen;refine z8 Θ Β hi hu p q base len cap λK I=>?_;rcases bc with bc|⟨b,N,_,gR,_⟩
        ·omega
        ·rw[gR];exact I
      | ja v J γ=>
       rw[μ] at J;cases J;exact absurd ζ.1 (Nat.ne_of_gt γ)
     ·exact .bad
    ·exact .bad
   ·rename_i l;cases ν with
    | iI base cap J=>exact z8 Θ Β hi hu p q base 0 cap λK I=>HD I _
    | sl b o cap w J γ=>
     split
     ·exact z8 Θ Β hi hu p q _ _ cap λK I=>HD I _
     ·exact z8 Θ Β hi hu p q _ _ cap λK I=>I
   ·exact .bad
  ·exact .bad
 ·exact .bad
end
end Go.TL
