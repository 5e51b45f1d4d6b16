import Derived.Test.YtlabjopijpkiaaaGreatSAH
set_option maxHeartbeats 16000000
set_option maxRecDepth 20000
set_option linter.unusedSectionVars false
set_option linter.unusedSimpArgs false
set_option linter.unusedVariables false
namespace Go.TL
open Go.Conc
def mD (d:TypeDesc) (x y:Value):Option Bool:=match d,x,y with
 | .int _,.int k a,.int ab b=>if k=ab then some (a==b) else none
 | .string,.string a,.string b=>some (a==b)
 | .bool,.bool a,.bool b=>some (a==b)
 | _,_,_=>none
def jD:List (TypeDesc×Nat)->List θ->List θ->Option Bool
 | [],_,_=>some true
 |(d,o)::r,xs,b5=>match xs[o]?,b5[o]? with
  | some (.z x),some (.z y)=>match mD d x y,jD r xs b5 with
   | some b,some c=>some (b&&c)
   | _,_=>none
  | _,_=>none
def aeqv (T:bd) (ty:TypeId) (a b:θ):Option Bool:=match T ty with
 | some i=>match a,b with
  | .z x,.z y=>if iX i.bD then mD i.bD x y else none
  | .aS xs,.aS b5=>match i.eqs with|some items=>if xs.length=items.length/\b5.length=items.length then jD items xs b5 else none|none=>none
  | _,_=>none
 | none=>none
section
variable {P:Program} {T:bd} {S:aB} {B:aR} {H:Α} {σ:List Row}
theorem υ.forIn_nil {α β:Type} {init:β} {f:α->β->Sem (ForInStep β)} {G:Α} {K:β->Α->Prop} {E:Value->Α->Prop} (h:K init G):υ P (forIn ([]:List α) init f) G K E:=by
 rw[List.forIn_nil];exact h
theorem υ.forIn_cons {α β:Type} {a:α} {l:List α} {init:β} {f:α->β->Sem (ForInStep β)} {G:Α} {K:β->Α->Prop} {E:Value->Α->Prop}
  (h:υ P (f a init) G (λr G'=>match r with|.done b=>K b G'|.yield b=>υ P (forIn l b f) G' K E) E):υ P (forIn (a::l) init f) G K E:=by
 rw[List.forIn_cons];refine υ.bind' (υ.mono (λr G' μ=>?_) (λ_ _ h=>h) _ h);cases r with
 | done b=>exact υ.pure' μ
 | yield b=>exact μ
theorem forIn_range {β:Type} (m:Nat) (init:β) (f:Nat->β->Sem (ForInStep β)):forIn [:m] init f=forIn (List.range m) init f:=by
 rw[Std.Legacy.Range.forIn_eq_forIn_range'];simp[Std.Legacy.Range.size,List.range_eq_range']
theorem Hz {ty:TypeId} {d:TypeDesc} (hd:P.underlying ty=some d) (ο:iX d=true) {x y:Value} {b:Bool} (h:mD d x y=some b) {n:Nat} {G:Α} {K:Bool->Α->Prop} {E:Value->Α->Prop} (χ:K b G):υ P (Op.equalIn (n+1) ty x y) G K E:=by
 unfold Op.equalIn;refine υ.bind' (υ.underlying hd ?_);unfold mD at h;split at h
 ·split at h
  ·rename_i e;subst e;cases h;simp only[if_true];exact υ.pure' χ
  ·cases h
 ·cases h;exact υ.pure' χ
 ·cases h;exact υ.pure' χ
 ·cases h
def HA (xs:List θ) (vs:Array Value):Prop:=∀(o:Nat) (v:Value),xs[o]?=some (θ.z v)->vs[o]?=some v
theorem zP {xs:List θ} {vs:Array Value} (h:ao S B σ (.aS xs) (.agg vs)):HA xs vs:=λo v hv=>by
 cases h with
 | aS _ Τ af=>
  have aD:o<vs.size:=by rw[<-Τ];exact(b7.1 hv).1
  have U:=e7 aD
  have:=af o _ _ hv U;generalize vs[o]=u at this U;cases this;exact U
theorem zQ {ty:TypeId} {d:TypeDesc} (hd:P.underlying ty=some d) (ο:iX d=true) {vs:Array Value} {o:Nat} {v:Value} (hv:vs[o]?=some v) {G:Α} {K:Value->Α->Prop} {E:Value->Α->Prop} (χ:K v G):υ P (part ty vs o) G K E:=by
 unfold part;refine υ.bind' (υ.isAgg hd ?_);have:kP d=false:=by cases d<;>first|rfl|cases ο
 rw[this];simp only[Bool.false_eq_true,if_false,hv];exact υ.pure' χ
theorem VV {xs b5:List θ} {vs ws:Array Value} (U:HA xs vs) (Ξ:HA b5 ws) {ty:TypeId} {items:List (TypeDesc×Nat)} (Ρ:Hc P ty (some items)) {b:Bool} (h:jD items xs b5=some b) {n:Nat} {G:Α} {K:Bool->Α->Prop} {E:Value->Α->Prop} (χ:K b G) :
  υ P (Op.equalIn (n+2) ty (.agg vs) (.agg ws)) G K E:=by
 obtain⟨_,_,Ρ⟩:=Ρ;rcases Ρ with⟨c5,hu,cA,dk,p6⟩|⟨m,e,d,f,hu,he,ο,Φ,cm,dk⟩
 ·unfold Op.equalIn;refine υ.bind' (υ.underlying hu ?_);simp only;refine υ.bind' ?_;show υ P (if P.stoodInHeld ty=true then _ else _) G K E;rw[cA];simp only[Bool.false_eq_true,if_false];have key:∀(l:List Field) (c:Bool),(∀f∈l,f.name≠ "_" /\ ∃d,P.underlying f.type=some d/\iX d=true)->jD (l.map λf=>((P.underlying f.type).getD .invalid,f.offset)) xs b5=some c->
    ∀p7:Option Bool×PUnit->Α->Prop,p7 (if c then none else some false,⟨⟩) G->υ P (forIn l (none,⟨⟩) λ(f:Field) (_:Option Bool×PUnit)=>if f.name≠ "_" then do
     let a <-part f.type vs f.offset
     let b <-part f.type ws f.offset
     let r <-Op.equalIn (n+1) f.type a b
     if(!r)=true then pure (ForInStep.done (some false,⟨⟩)) else pure (ForInStep.yield (none,⟨⟩))
    else pure (ForInStep.yield (none,⟨⟩))) G p7 E:=by
   intro l
   induction l with
   | nil=>intro c _ ζ p7 γ;simp[jD] at ζ;subst ζ;exact .forIn_nil (by simpa using γ)
   | cons f l Δ=>
    intro c ω ζ p7 γ;obtain⟨vL,d,hd,ο⟩:=ω f (by simp);simp only[List.map_cons,jD,hd,Option.getD_some] at ζ;split at ζ<;>try cases ζ
    rename_i x y vM xL;split at ζ<;>try cases ζ
    rename_i bG c1 j0 ns;refine .forIn_cons ?_;rw[if_pos vL];refine υ.bind' (zQ hd ο (U _ _ vM) (υ.bind' (zQ hd ο (Ξ _ _ xL) (υ.bind' (Hz hd ο j0 ?_)))));cases bG with
    | false=>exact υ.pure' (by simpa using γ)
    | true=>exact υ.pure' (Δ c1 (λg Υ=>ω g (by simp[Υ])) ns p7 (by simpa using γ))
  refine υ.bind' ?_;have C9:(forIn c5 (none,⟨⟩) λ(f:Field) (_:Option Bool×PUnit)=>if f.name≠ "_" then do
     let a <-part f.type vs f.offset
     let b <-part f.type ws f.offset
     let r <-Op.equalIn (n+1) f.type a b
     if(!r)=true then pure (ForInStep.done (some false,⟨⟩)) else pure (ForInStep.yield (none,⟨⟩))
    else pure (ForInStep.yield (none,⟨⟩)):Sem (Option Bool×PUnit))=forIn c5.toList (none,⟨⟩) _:=(Array.forIn_toList ..).symm
  refine Eq.mpr (congrArg (λs=>υ P s G _ E) C9) ?_;refine key c5.toList b p6 (by rw[<-dk];exact h) _ ?_;cases b<;>exact υ.pure' χ
 ·unfold Op.equalIn;refine υ.bind' (υ.underlying hu ?_);simp only;refine υ.bind' (υ.sizeOf Φ ?_);rw[cm];have key:∀(l:List Nat) (c:Bool),jD (l.map λi=>(d,i)) xs b5=some c->
    ∀p7:Option Bool×PUnit->Α->Prop,p7 (if c then none else some false,⟨⟩) G->υ P (forIn l (none,⟨⟩) λ(i:Nat) (_:Option Bool×PUnit)=>do
     let a <-part e vs (i*1)
     let b <-part e ws (i*1)
     let r <-Op.equalIn (n+1) e a b
     if(!r)=true then pure (ForInStep.done (some false,⟨⟩)) else pure (ForInStep.yield (none,⟨⟩))) G p7 E:=by
   intro l
   induction l with
   | nil=>intro c ζ p7 γ;simp[jD] at ζ;subst ζ;exact .forIn_nil (by simpa using γ)
   | cons i l Δ=>
    intro c ζ p7 γ;simp only[List.map_cons,jD] at ζ;split at ζ<;>try cases ζ
    rename_i x y vM xL;split at ζ<;>try cases ζ
    rename_i bG c1 j0 ns;refine .forIn_cons ?_;refine υ.bind' (zQ he ο (by rw[Nat.mul_one];exact U _ _ vM) (υ.bind' (zQ he ο (by rw[Nat.mul_one];exact Ξ _ _ xL) (υ.bind' (Hz he ο j0 ?_)))));cases bG with
    | false=>exact υ.pure' (by simpa using γ)
    | true=>exact υ.pure' (Δ c1 ns p7 (by simpa using γ))
  refine υ.bind' ?_;rw[forIn_range];refine key (List.range m) b (by rw[<-dk];exact h) _ ?_;cases b<;>exact υ.pure' χ
theorem HB (Κ:bR P T) {ty:TypeId} {a b:θ} {v w:Value} {r:Bool} (ξ:ao S B σ a v) (hb:ao S B σ b w) (h:aeqv T ty a b=some r) {K:Bool->Α->Prop} {E:Value->Α->Prop} (χ:K r H):υ P (Op.equal ty v w) H K E:=by
 unfold aeqv at h;split at h
 ·rename_i i hi;obtain⟨⟨hu,Ρ⟩,_⟩:=Κ ty i hi;split at h
  ·split at h
   ·rename_i ο;cases ξ;cases hb;exact Hz hu ο h χ
   ·cases h
  ·split at h
   ·rename_i items dk;rw[dk] at Ρ;split at h<;>try cases h
    cases ξ with
    | aS vs Τ af=>cases hb with
     | aS ws k1 cC=>exact VV (zP (.aS vs Τ af)) (zP (.aS ws k1 cC)) Ρ h χ
   ·cases h
  ·cases h
 ·cases h
theorem Nt (a b:ByteArray):(a==b)=(a.data==b.data):=by
 cases a;cases b;rfl
theorem VW {a b:ByteArray} (h:(a==b)=true):a=b:=by
 rw[Nt] at h;have:=eq_of_beq h;cases a;cases b;simp at this;simp[this]
theorem VX (a:ByteArray):(a==a)=true:=by rw[Nt];exact beq_self_eq_true _
theorem Nu {d:TypeDesc} {x y:Value} (h:mD d x y=some true):x=y/\∀n,Instr.sameBits n x x=true:=by
 unfold mD at h;split at h
 ·split at h
  ·rename_i e;subst e;simp only[Option.some.injEq,beq_iff_eq] at h;subst h;exact⟨rfl,λn=>by cases n<;>simp[Instr.sameBits]⟩
  ·cases h
 ·simp only[Option.some.injEq] at h;have:=VW h;subst this;exact⟨rfl,λn=>by cases n<;>simp[Instr.sameBits,VX]⟩
 ·simp only[Option.some.injEq,beq_iff_eq] at h;subst h;exact⟨rfl,λn=>by cases n<;>simp[Instr.sameBits]⟩
 ·cases h
theorem VY {xs b5:List θ}:∀(items:List (TypeDesc×Nat)),jD items xs b5=some true->∀o,o∈items.map (·.2)->∃x,xs[o]?=some (.z x)/\b5[o]?=some (.z x)/\∀n,Instr.sameBits n x x=true:=by
 intro items
 induction items with
 | nil=>intro _ o Γ;simp at Γ
 | cons a items Δ=>
  obtain⟨d,p⟩:=a;intro h o Γ;simp only[jD] at h;split at h<;>try cases h
  rename_i x y vM xL;split at h<;>try cases h
  rename_i b c hb ζ;simp only[Option.some.injEq,Bool.and_eq_true] at h;obtain⟨rfl,rfl⟩:=h;simp only[List.map_cons,List.mem_cons] at Γ;rcases Γ with rfl|Γ
  ·obtain⟨Ζ,Ε⟩:=Nu hb;subst Ζ;exact⟨x,vM,xL,Ε⟩
  ·exact Δ ζ o Γ
theorem VZ (Κ:bR P T) {ty:TypeId} {a b:θ} {v w:Value} (ξ:ao S B σ a v) (hb:ao S B σ b w) (h:aeqv T ty a b=some true):v=w/\a=b/\∀n,Instr.sameBits (n+1) v v=true:=by
 unfold aeqv at h;split at h
 ·rename_i i hi;obtain⟨⟨hu,Ρ⟩,_⟩:=Κ ty i hi;split at h
  ·split at h
   ·obtain⟨Ζ,Ε⟩:=Nu h;subst Ζ;cases ξ;cases hb;exact⟨rfl,rfl,λn=>Ε _⟩
   ·cases h
  ·rename_i xs b5;split at h
   ·rename_i items dk;rw[dk] at Ρ;split at h<;>try cases h
    rename_i hlen;obtain⟨J,γ⟩:=hlen;have xM:=Ρ.2.1;have get:∀o,o<items.length->∃x,xs[o]?=some (.z x)/\b5[o]?=some (.z x)/\∀n,Instr.sameBits n x x=true:=λo Γ=>VY items h o (by rw[xM];simpa using Γ);have xN:xs=b5:=by
     apply List.ext_getElem?;intro o;by_cases Γ:o<items.length
     ·obtain⟨x,Τ,af,_⟩:=get o Γ;rw[Τ,af]
     ·rw[List.getElem?_eq_none (by omega),List.getElem?_eq_none (by omega)]
    cases ξ with
    | aS vs Τ af=>cases hb with
     | aS ws k1 cC=>
      have Nv:∀o,o<items.length->∃x,vs[o]?=some x/\ws[o]?=some x/\∀n,Instr.sameBits n x x=true:=λo Γ=>by
       obtain⟨x,c1,c2,c3⟩:=get o Γ;exact⟨x,zP (.aS vs Τ af) o x c1,zP (.aS ws k1 cC) o x c2,c3⟩
      have p8:vs=ws:=by
       apply Array.ext_getElem?;intro o;by_cases Γ:o<items.length
       ·obtain⟨x,c1,c2,_⟩:=Nv o Γ;rw[c1,c2]
       ·rw[Array.getElem?_eq_none (by omega),Array.getElem?_eq_none (by omega)]
      subst p8;refine⟨rfl,by rw[xN],λn=>?_⟩;simp only[Instr.sameBits,beq_self_eq_true,Bool.true_and,List.all_eq_true];intro p ψ;obtain⟨o,Γ⟩:=List.getElem?_of_mem ψ;rw[List.getElem?_zip_eq_some] at Γ;have zR:o<items.length:=by
       have:=(b7.1 Γ.1).1;simp at this;omega
      obtain⟨x,c1,_,c3⟩:=Nv o zR;rw[Array.getElem?_toList,c1] at Γ;obtain⟨Ζ,Ε⟩:=Γ;cases Ζ;rw[<-Option.some.inj Ε];exact c3 n
   ·cases h
  ·cases h
 ·cases h
end
def hF (T:bd) (kt:TypeId) (k:θ):List (θ×θ)->Nat->Option (Option (Nat×θ))
 | [],_=>some none
 | e::r,i=>match aeqv T kt k e.1 with
  | some b=>bif b then some (some (i,e.2)) else hF T kt k r (i+1)
  | none=>none
def n8 (T:bd) (kt:TypeId) (k:θ):Bool:=match T kt with
 | some i=>match k with
  | .z _=>iX i.bD
  | .aS xs=>match i.bD,i.eqs with
   | .array _ _,some items=>xs.length==items.length&&(jD items xs xs).isSome
   | _,_=>false
  | _=>false
 | none=>false
section
variable {P:Program} {T:bd} {S:aB} {B:aR} {H:Α} {σ:List Row}
theorem Nw {ty:TypeId} {d:TypeDesc} (hd:P.underlying ty=some d) (ο:iX d=true) {v:Value} {em:Bool} {n:Nat} {G:Α} {K:Unit->Α->Prop} {E:Value->Α->Prop} (χ:K () G):υ P (Instr.checkKey em (n+1) ty v) G K E:=by
 unfold Instr.checkKey;refine υ.bind' (υ.underlying hd ?_);cases d<;>first|(cases ο;done)|(cases v<;>exact υ.pure' χ)
theorem HC (Κ:bR P T) {kt:TypeId} {k:θ} {v:Value} (χ:ao S B σ k v) (h:n8 T kt k=true) {em:Bool} {G:Α} {K:Unit->Α->Prop} {E:Value->Α->Prop} (I:K () G):υ P (Instr.checkKey em 10000 kt v) G K E:=by
 unfold n8 at h;split at h
 ·rename_i i hi;obtain⟨⟨hu,Ρ⟩,_⟩:=Κ kt i hi;split at h
  ·exact Nw (n:=9999) hu h I
  ·rename_i xs;split at h
   ·rename_i n e items V0 dk;rw[dk] at Ρ;simp only[Bool.and_eq_true,beq_iff_eq] at h;obtain⟨_,_,Ρ⟩:=Ρ;rcases Ρ with⟨c5,sE,_⟩|⟨m,Ε,d,f,sE,he,ο,Φ,cm,V1⟩
    ·rw[hu,V0] at sE;cases sE
    ·cases χ with
     | aS vs Τ af=>
      have V2:=zP (.aS vs Τ af)
      show υ P (Instr.checkKey em (9999+1) kt _) G K E;unfold Instr.checkKey;refine υ.bind' (υ.underlying sE ?_);simp only;rw[forIn_range];refine υ.bind' ?_;have hb:∃b,jD ((List.range m).map λi=>(d,i)) xs xs=some b:=by
       rw[<-V1];exact Option.isSome_iff_exists.1 h.2
      have key:∀(l:List Nat) (b:Bool),jD (l.map λi=>(d,i)) xs xs=some b->υ P (forIn l PUnit.unit λ(i:Nat) (_:PUnit)=>do
        let a <-sizeOf Ε
        let b <-part Ε vs (i*a)
        Instr.checkKey em 9999 Ε b
        pure (ForInStep.yield PUnit.unit)) G (λ_ G'=>K () G') E:=by
       intro l
       induction l with
       | nil=>intro b _;exact .forIn_nil I
       | cons i l Δ=>
        intro b hb;simp only[List.map_cons,jD] at hb;split at hb<;>try cases hb
        rename_i x y vM xL;split at hb<;>try cases hb
        rename_i bG c1 j0 ns;refine .forIn_cons ?_;refine υ.bind' (υ.sizeOf Φ ?_);rw[cm];refine υ.bind' (zQ he ο (by rw[Nat.mul_one];exact V2 _ _ vM) ?_);refine υ.bind' (Nw (n:=9998) he ο ?_);exact υ.pure' (Δ c1 ns)
      obtain⟨b,hb⟩:=hb;exact υ.mono (λ_ G' h=>υ.pure' h) (λ_ _ h=>h) _ (key (List.range m) b hb)
   ·cases h
  ·cases h
 ·cases h
def vN (S:aB) (B:aR) (σ:List Row) (es:List (θ×θ)) (b5:List MapEntry):Prop:=es.length=b5.length/\∀(i:Nat) (e:θ×θ) (y:MapEntry),es[i]?=some e->b5[i]?=some y->ao S B σ e.1 y.key/\ao S B σ e.2 y.val
theorem vN.tail {e:θ×θ} {es:List (θ×θ)} {y:MapEntry} {b5:List MapEntry} (h:vN S B σ (e::es) (y::b5)):(ao S B σ e.1 y.key/\ao S B σ e.2 y.val)/\vN S B σ es b5:=
 ⟨h.2 0 e y rfl rfl,⟨by simpa using h.1,λi aJ lL J γ=>h.2 (i+1) aJ lL J γ⟩⟩
theorem C' {kt:TypeId} {k:θ}:∀(es:List (θ×θ)) (n i:Nat) (a:θ),hF T kt k es n=some (some (i,a))->n<=i/\∃ab,es[i-n]?=some (ab,a)/\aeqv T kt k ab=some true:=by
 intro es
 induction es with
 | nil=>intro n i a h;cases h
 | cons e es Δ=>
  intro n i a h;unfold hF at h;split at h
  ·rename_i b hb;cases b with
   | true=>cases h;exact⟨Nat.le_refl _,e.1,by simp,hb⟩
   | false=>
    obtain⟨J,ab,γ,π⟩:=Δ (n+1) i a h;refine⟨by omega,ab,?_,π⟩;have:i-n=(i-(n+1))+1:=by omega
    rw[this,List.getElem?_cons_succ];exact γ
  ·cases h
def lM (b5:List MapEntry) (i0:Nat) (r:Option (Nat×θ)):Option (Nat×Value):=r.map λx=>(x.1,((b5[x.1-i0]?).map (·.val)).getD undef)
theorem V3 {d:TypeDesc} {x y:Value} {b:Bool} (h:mD d x y=some b):Instr.sameNow d x y=some b:=by
 unfold mD at h;split at h
 ·split at h
  ·rename_i e;subst e;cases h;simp[Instr.sameNow]
  ·cases h
 ·cases h;rfl
 ·cases h;rfl
 ·cases h
theorem V4 (Κ:bR P T) {kt:TypeId} {i:ia} (hi:T kt=some i) {k:θ} {v:Value} (χ:ao S B σ k v) (Θ:∃u,k=.z u):∀(es:List (θ×θ)) (b5:List MapEntry) (n:Nat) (r:Option (Nat×θ)),vN S B σ es b5->hF T kt k es n=some r->
  Instr.findNow i.bD v b5 n=some (lM b5 n r):=by
 obtain⟨u,rfl⟩:=Θ;cases χ;intro es
 induction es with
 | nil=>
  intro b5 n r he h;have:b5=[]:=by have:=he.1;simpa using this.symm
  subst this;cases h;rfl
 | cons e es Δ=>
  intro b5 n r he h;cases b5 with
  | nil=>have:=he.1;simp at this
  | cons y b5=>
   obtain⟨⟨J,γ⟩,Ο⟩:=he.tail;unfold hF at h;split at h
   ·rename_i b hb;have hv:mD i.bD v y.key=some b:=by
     unfold aeqv at hb;rw[hi] at hb;simp only at hb;split at hb
     ·rename_i x lL Ζ Ε;rw[Ε] at J;cases J;cases Ζ;split at hb
      ·exact hb
      ·cases hb
     ·rename_i Ζ _;cases Ζ
     ·cases hb
    unfold Instr.findNow;rw[V3 hv];cases b with
    | true=>cases h;simp[lM]
    | false=>
     have:=Δ b5 (n+1) r Ο h;simp only[this];congr 1;unfold lM;cases r with
     | none=>rfl
     | some x=>
      simp only[Option.map_some];have U:n+1<=x.1:=(C' es (n+1) x.1 x.2 h).1;have:x.1-n=(x.1-(n+1))+1:=by omega
      rw[this,List.getElem?_cons_succ]
   ·cases h
theorem V5 (Κ:bR P T) {kt:TypeId} {k:θ} {v:Value} (χ:ao S B σ k v) {E:Value->Α->Prop}:∀(es:List (θ×θ)) (b5:List MapEntry) (n:Nat) (r:Option (Nat×θ)) (K:Option (Nat×Value)->Α->Prop),vN S B σ es b5->hF T kt k es n=some r->
  K (lM b5 n r) H->υ P (Instr.findAsking kt v b5 n) H K E:=by
 intro es
 induction es with
 | nil=>
  intro b5 n r K he h I;have:b5=[]:=by have:=he.1;simpa using this.symm
  subst this;cases h;exact υ.pure' I
 | cons e es Δ=>
  intro b5 n r K he h I;cases b5 with
  | nil=>have:=he.1;simp at this
  | cons y b5=>
   obtain⟨⟨J,γ⟩,Ο⟩:=he.tail;unfold hF at h;split at h
   ·rename_i b hb;unfold Instr.findAsking;refine υ.bind' (HB Κ χ J hb ?_);cases b with
    | true=>cases h;simp only[if_true];exact υ.pure' (by simpa[lM] using I)
    | false=>
     simp only[Bool.false_eq_true,if_false];refine Δ b5 (n+1) r K Ο h ?_;have:lM (y::b5) n r=lM b5 (n+1) r:=by
      unfold lM;cases r with
      | none=>rfl
      | some x=>
       simp only[Option.map_some];have U:n+1<=x.1:=(C' es (n+1) x.1 x.2 h).1;have:x.1-n=(x.1-(n+1))+1:=by omega
       rw[this,List.getElem?_cons_succ]
     rw[<-this];exact I
   ·cases h
theorem HD (Κ:bR P T) {kt:TypeId} {k:θ} {v:Value} (χ:ao S B σ k v) (mE:n8 T kt k=true) {es:List (θ×θ)} {b5:List MapEntry} {r:Option (Nat×θ)} (he:vN S B σ es b5) (h:hF T kt k es 0=some r) {K:Option (Nat×Value)->Α->Prop} {E:Value->Α->Prop} (I:K (lM b5 0 r) H) :
  υ P (Instr.findKey kt v b5) H K E:=by
 unfold Instr.findKey;unfold n8 at mE;split at mE
 ·rename_i i hi;refine υ.bind' (Κ.bD hi ?_);split at mE
  ·rw[V4 Κ hi χ ⟨_,rfl⟩ es b5 0 r he h];exact υ.pure' I
  ·rename_i xs;cases χ with
   | aS vs Τ af=>
    cases b5 with
    | nil=>
     have:es=[]:=by have:=he.1;simpa using this
     subst this;cases h;exact υ.pure' I
    | cons y b5=>
     have Η:Instr.findNow i.bD (.agg vs) (y::b5) 0=none:=by
      unfold Instr.findNow;have:Instr.sameNow i.bD (.agg vs) y.key=none:=by unfold Instr.sameNow;cases i.bD<;>rfl
      rw[this]
     rw[Η];exact V5 Κ (.aS vs Τ af) es (y::b5) 0 r K he h I
  ·cases mE
 ·cases mE
def n9 (σ:List Row) (id:Nat):Bool:=σ.all λr=>match r with|.iter m _ _=>m != id|_=>true
theorem V6 {id:Nat} (h:n9 σ id=true):∀(j:Nat) left cur,σ[j]?≠some (Row.iter id left cur):=λj left cur ε=>by
 have:=List.all_eq_true.1 h _ (ck ε);simp at this
def vO (T:bd) (ty:TypeId):Option (TypeId×TypeId):=match T ty with
 | some i=>match i.bD with|.map k v=>some (k,v)|_=>none
 | none=>none
theorem Da {ty kt vt:TypeId} (h:vO T ty=some (kt,vt)):∃i,T ty=some i/\i.bD=.map kt vt:=by
 unfold vO at h;split at h
 ·rename_i i hi;split at h
  ·rename_i k v hu;cases h;exact⟨i,hi,hu⟩
  ·cases h
 ·cases h
def HE (σ:List Row):cZ:=.ok (.mp σ.length) (σ++[.map []])
theorem V7 (Β:Holds S B σ H) (ty:TypeId):cF P (Instr.makeMap ty none) S B H σ (HE σ):=by
 intro K I;unfold Instr.makeMap;refine υ.bind' ?_;refine λr μ=>?_;have cA:∀b,(∀N,some (r,0)≠some (b,N))->ks H (H.bI r (.map #[] 0)) b:=λb hb=>by
  have bz:b≠r:=λe=>by subst e;exact hb _ rfl
  exact⟨λo=>rfl,rfl,by simp[Α.bI,bz]⟩
 have bC:b3 S S B (B++[some (r,0)]) σ (σ++[.map []])->jC S (B++[some (r,0)]) (σ++[.map []]) (H.bI r (.map #[] 0)) (.map []) (some (r,0)):=λ_=>
  ⟨r,0,#[],0,rfl,by simp[Α.bI],rfl,λi e y J=>by simp at J,λi j y z J=>by simp at J⟩
 obtain⟨J,γ,π⟩:=Β.push (λb N e=>by cases e;exact μ) cA bC;exact υ.pure' ⟨_,_,_,_,I,γ,J,π,.mp (es:=[]) (N:=0) (C0 σ _) (C1 Β.len _)⟩
def Db (T:bd) (ty:TypeId) (ok:Bool) (σ:List Row) (mp k:θ):cZ:=match vO T ty,mp with
 | some (kt,vt),.mp id=>match σ[id]?,T vt with
  | some (.map es),some HF=>if n8 T kt k=true then match hF T kt k es 0 with
   | some (some (_,a))=>.ok (if ok then .bn [a,.z (.bool true)] else a) σ
   | some none=>.ok (if ok then .bn [ho HF.zero,.z (.bool false)] else ho HF.zero) σ
   | none=>.bad else .bad
  | _,_=>.bad
 | _,_=>.bad
theorem zS (Β:Holds S B σ H) {id b N:Nat} {es:List (θ×θ)} (hm:σ[id]?=some (.map es)) (hb:B[id]?=some (some (b,N))):∃xs clock,H.obj b=some (.map xs clock)/\sr S B σ es xs clock:=by
 obtain⟨Χ,eP,xs,clock,e,J,γ⟩:=Β.row id _ _ hm hb;cases e;exact⟨xs,clock,J,γ⟩
theorem sr.xO {es:List (θ×θ)} {xs:Array MapEntry} {clock:Nat} (h:sr S B σ es xs clock):vN S B σ es xs.toList:=
 ⟨by simpa using h.1,λi e y J γ=>by rw[Array.getElem?_toList] at γ;obtain⟨a,b,_⟩:=h.2.1 i e y J γ;exact⟨a,b⟩⟩
theorem V8 (Κ:bR P T) (Β:Holds S B σ H) {ty:TypeId} {ok:Bool} {mp k:θ} {u v:Value} (hm:ao S B σ mp u) (χ:ao S B σ k v):cF P (Instr.lookup ty u v ok) S B H σ (Db T ty ok σ mp k):=by
 unfold Db;split
 ·rename_i kt vt id vP;obtain⟨i,hi,hu⟩:=Da vP;split
  ·rename_i es HF bC V9;split
   ·rename_i mE;cases hm with
    | mp J γ=>
     rename_i b N;rw[bC] at J;cases J;obtain⟨xs,clock,nu,hq⟩:=zS Β bC γ;have go:∀(r:Option (Nat×θ)) (res:cZ),hF T kt k es 0=some r->(∀(K:θ->List Row->Prop),res.holds K->∃(x:θ) (y:Value),True/\υ P (do
       let (v,Wa) <-match lM xs.toList 0 r with
        | some (_,v)=>pure (v,true)
        | none=>do pure (<-zeroValue vt,false)
       pure (if ok then .tuple #[v,.bool Wa] else v)) H (iB S B H σ K) (λ_ _=>False))->cF P (Instr.lookup ty (.map (some b)) v ok) S B H σ res:=λr res Φ eT K I=>by
      unfold Instr.lookup;refine υ.bind' (Κ.bD hi ?_);rw[hu];refine υ.bind' ?_;refine⟨_,nu,rfl,?_⟩;refine υ.bind' (υ.pure' ?_);refine υ.bind' (HC Κ χ mE ?_);refine υ.bind' (HD Κ χ mE hq.xO Φ ?_);obtain⟨_,_,_,h⟩:=eT K I;cases Γ:lM xs.toList 0 r with
      | none=>rw[Γ] at h;exact h
      | some p=>rw[Γ] at h;exact h
     split
     ·rename_i bZ a Φ;refine go _ _ Φ λK I=>⟨a,undef,trivial,?_⟩;obtain⟨_,ab,he,_⟩:=C' es 0 bZ a Φ;have aD:bZ<xs.size:=by have:=(b7.1 he).1;rw[<-hq.1];simpa using this
      have Ξ:xs[bZ]?=some xs[bZ]:=e7 aD;obtain⟨_,μ,_⟩:=hq.2.1 bZ _ _ (by simpa using he) Ξ;have Γ:lM xs.toList 0 (some (bZ,a))=some (bZ,xs[bZ].val):=by simp[lM,aD]
      rw[Γ];refine υ.bind' (υ.pure' (υ.pure' ?_));cases ok with
      | true=>exact .same Β I (xD μ (.z _))
      | false=>exact .same Β I μ
     ·rename_i Φ;refine go _ _ Φ λK I=>⟨.cg,undef,trivial,?_⟩;refine υ.bind' (Κ.zero V9 ?_);refine υ.bind' (υ.pure' (υ.pure' ?_));cases ok with
      | true=>exact .same Β I (xD (pV _) (.z _))
      | false=>exact .same Β I (pV _)
     ·exact .bad
    | lI v J=>rw[bC] at J;cases J
   ·exact .bad
  ·exact .bad
 ·exact .bad
def zT (T:bd) (ty:TypeId) (σ:List Row) (mp k x:θ):cZ:=match vO T ty,mp with
 | some (kt,_),.mp id=>match σ[id]? with
  | some (.map es)=>if n8 T kt k=true/\n9 σ id=true then match hF T kt k es 0 with
   | some (some (i,_))=>.ok .cg (σ.set id (.map (es.set i (k,x))))
   | some none=>.ok .cg (σ.set id (.map (es++[(k,x)])))
   | none=>.bad else .bad
  | _=>.bad
 | _,_=>.bad
theorem HG (Β:Holds S B σ H) {id b N:Nat} {es es':List (θ×θ)} {xs':Array MapEntry} {clock':Nat} (bC:σ[id]?=some (.map es)) (hb:B[id]?=some (some (b,N))) (kK:n9 σ id=true) (dG:∀{B':aR} {σ':List Row},b3 S S B B' σ σ'->sr S B' σ' es' xs' clock') :
  Holds S (B.set id (some (b,N))) (σ.set id (.map es')) (H.bI b (.map xs' clock'))/\Ext S B H S (B.set id (some (b,N))) (H.bI b (.map xs' clock'))/\b3 S S B (B.set id (some (b,N))) σ (σ.set id (.map es')):=
 Β.xB bC trivial hb (.inl ⟨es',rfl,rfl⟩) (λΧ eP e=>.inl ⟨eP,e⟩) (λΧ J _=>by
  have bz:Χ≠b:=λe=>by subst e;exact J N rfl
  exact⟨λo=>rfl,rfl,by simp[Α.bI,bz]⟩) Α.G3 (V6 kK) λω=>⟨b,N,xs',clock',rfl,by simp[Α.bI],dG ω⟩
theorem Nx (Κ:bR P T) (Β:Holds S B σ H) {ty:TypeId} {mp k x:θ} {u v w:Value} (hm:ao S B σ mp u) (χ:ao S B σ k v) (U:ao S B σ x w):xE P (Instr.mapUpdate ty u v w) S B H σ (zT T ty σ mp k x):=by
 unfold zT;split
 ·rename_i kt vt id vP;obtain⟨i,hi,hu⟩:=Da vP;split
  ·rename_i es bC;split
   ·rename_i q';obtain⟨mE,kK⟩:=q';cases hm with
    | mp J γ=>
     rename_i b N;rw[bC] at J;cases J;obtain⟨xs,clock,nu,hq⟩:=zS Β bC γ;split
     ·rename_i bZ a Φ;obtain⟨_,ab,he,heq⟩:=C' es 0 bZ a Φ;simp only[Nat.sub_zero] at he;have iC:bZ<es.length:=(b7.1 he).1;have aD:bZ<xs.size:=by rw[<-hq.1];exact iC
      have Ξ:xs[bZ]?=some xs[bZ]:=e7 aD;obtain⟨Wb,jΔ,xP⟩:=hq.2.1 bZ _ _ he Ξ;obtain⟨Ζ,Ε,aY⟩:=VZ Κ χ Wb heq;intro K I;unfold Instr.mapUpdate;refine υ.bind' (Κ.bD hi ?_);rw[hu];refine υ.bind' ⟨_,nu,rfl,υ.pure' ?_⟩;refine υ.bind' (HC Κ χ mE ?_);refine υ.bind' (HD Κ χ mE hq.xO Φ ?_);have Γ:lM xs.toList 0 (some (bZ,a))=some (bZ,xs[bZ].val):=by simp[lM,aD]
      rw[Γ];simp only[Ξ,Option.map_some,Option.getD_some];unfold Instr.keyThatStays;rw[<-Ζ];simp only[aY,if_true];refine υ.bind' (υ.pure' ?_);obtain⟨dH,p2,p3⟩:=HG Β (es':=es.set bZ (k,x)) (xs':=xs.modify bZ λe=>{e with key:=v,val:=w}) (clock':=clock) bC γ kK λ{B' σ'} ω=>by
       refine⟨by simp[hq.1],λj e y Τ af=>?_,λj bH y z Τ af HH=>?_⟩
       ·rw[Array.getElem?_modify] at af;by_cases mA:bZ=j
        ·subst mA;rw[List.getElem?_set_self iC] at Τ;rw[if_pos rfl,Ξ] at af;cases Τ;cases af;exact⟨χ.later ω,U.later ω,xP⟩
        ·rw[List.getElem?_set_ne mA] at Τ;rw[if_neg mA] at af;obtain⟨c1,c2,c3⟩:=hq.2.1 j e y Τ af;exact⟨c1.later ω,c2.later ω,c3⟩
       ·have born:∀(j:Nat) (y:MapEntry),(xs.modify bZ λe=>{e with key:=v,val:=w})[j]?=some y->∃Dc,xs[j]?=some Dc/\y.born=Dc.born:=λj y g=>by
         rw[Array.getElem?_modify] at g;by_cases mA:bZ=j
         ·subst mA;rw[if_pos rfl,Ξ] at g;cases g;exact⟨_,Ξ,rfl⟩
         ·rw[if_neg mA] at g;exact⟨y,g,rfl⟩
        obtain⟨Dc,c1,c2⟩:=born j y Τ;obtain⟨hE,c3,c4⟩:=born bH z af;rw[c2,c4];exact hq.2.2 j bH Dc hE c1 c3 HH
      exact⟨⟨_,nu⟩,rfl,rfl,υ.pure' ⟨S,_,_,_,I,p2,dH,p3,.cg _⟩⟩
     ·rename_i Φ;intro K I;unfold Instr.mapUpdate;refine υ.bind' (Κ.bD hi ?_);rw[hu];refine υ.bind' ⟨_,nu,rfl,υ.pure' ?_⟩;refine υ.bind' (HC Κ χ mE ?_);refine υ.bind' (HD Κ χ mE hq.xO Φ ?_);simp only[lM,Option.map_none];obtain⟨dH,p2,p3⟩:=HG Β (es':=es++[(k,x)]) (xs':=xs.push {key:=v,val:=w,born:=clock}) (clock':=clock+1) bC γ kK λ{B' σ'} ω=>by
       refine⟨by simp[hq.1],λj e y Τ af=>?_,λj bH y z Τ af HH=>?_⟩
       ·by_cases ε:j<es.length
        ·rw[dB ε] at Τ;rw[Array.getElem?_push,if_neg (by rw[<-hq.1];omega)] at af;obtain⟨c1,c2,c3⟩:=hq.2.1 j e y Τ af;exact⟨c1.later ω,c2.later ω,by omega⟩
        ·rw[fS (by omega)] at Τ;have fv:j=es.length:=by
          have:=(b7.1 Τ).1;simp at this;omega
         subst fv;rw[Array.getElem?_push,if_pos hq.1] at af;simp at Τ;subst Τ;cases af;exact⟨χ.later ω,U.later ω,Nat.lt_succ_self _⟩
       ·rw[Array.getElem?_push] at Τ af;split at Τ
        ·rename_i Ζ;split at af
         ·omega
         ·have:=(Array.getElem?_eq_some_iff.1 af).1;omega
        ·split at af
         ·cases af;have ε:=(Array.getElem?_eq_some_iff.1 Τ).1;have he:∃e,es[j]?=some e:=⟨_,aW (by rw[hq.1];exact ε)⟩;obtain⟨e,he⟩:=he;exact(hq.2.1 j e y he Τ).2.2
         ·exact hq.2.2 j bH y z Τ af HH
      exact⟨⟨_,nu⟩,rfl,rfl,υ.pure' ⟨S,_,_,_,I,p2,dH,p3,.cg _⟩⟩
     ·exact .bad
    | lI v J=>rw[bC] at J;cases J
   ·exact .bad
  ·exact .bad
 ·exact .bad
end
section
variable {P:Program} {T:bd} {S:aB} {B:aR} {H:Α} {σ:List Row}
def Dd (T:bd) (ty:TypeId) (σ:List Row) (mp:θ):cZ:=match vO T ty,mp with
 | some _,.mp id=>match σ[id]? with
  | some (.map es)=>.ok (.it σ.length) (σ++[.iter id es none])
  | _=>.bad
 | _,_=>.bad
theorem Wc (Κ:bR P T) (Β:Holds S B σ H) {ty:TypeId} {mp:θ} {u:Value} (hm:ao S B σ mp u):cF P (Instr.range ty u) S B H σ (Dd T ty σ mp):=by
 unfold Dd;split
 ·rename_i zU id vP;obtain⟨i,hi,hu⟩:=Da (kt:=zU.1) (vt:=zU.2) vP;split
  ·rename_i es bC;cases hm with
   | mp J γ=>
    rename_i b N;rw[bC] at J;cases J;obtain⟨xs,clock,nu,hq⟩:=zS Β bC γ;intro K I;unfold Instr.range;refine υ.bind' (Κ.bD hi ?_);rw[hu];refine υ.bind' ?_;refine⟨_,nu,rfl,?_⟩;refine υ.bind' (υ.pure' ?_);refine υ.bind' ?_;refine λr μ=>?_;have bz:b≠r:=λe=>by subst e;rw[μ.2.2.1] at nu;cases nu
    have bW:id<σ.length:=(b7.1 bC).1
    have cA:∀Χ,(∀N,some (r,0)≠some (Χ,N))->ks H (H.bI r (.mapIter (some b) clock #[] clock)) Χ:=λΧ hb=>by
     have bz:Χ≠r:=λe=>by subst e;exact hb _ rfl
     exact⟨λo=>rfl,rfl,by simp[Α.bI,bz]⟩
    have zs:b3 S S B (B++[some (r,0)]) σ (σ++[.iter id es none])->jC S (B++[some (r,0)]) (σ++[.iter id es none]) (H.bI r (.mapIter (some b) clock #[] clock)) (.iter id es none) (some (r,0)):=λω=>by
     refine⟨r,0,b,N,xs,clock,#[],rfl,by rw[dB (by rw[Β.len];exact bW)];exact γ,⟨es,by rw[dB bW];exact bC⟩,by simp[Α.bI],by simp[Α.bI,bz,nu],⟨xs.toList,?_,by simpa using hq.1,λi e y Τ af=>?_⟩,λy Ξ=>?_,λe he=>by cases he⟩
     ·exact(List.filter_eq_self.2 λe _=>by simp).symm
     ·obtain⟨c1,c2⟩:=hq.xO.2 i e y Τ af;exact⟨c1.later ω,c2.later ω⟩
     ·obtain⟨j,ε,rfl⟩:=Array.getElem_of_mem Ξ;have he:∃e,es[j]?=some e:=⟨_,aW (by rw[hq.1];exact ε)⟩;obtain⟨e,he⟩:=he;exact(hq.2.1 j e _ he (e7 ε)).2.2
    obtain⟨dH,p2,p3⟩:=Β.push (λΧ eP e=>by cases e;exact μ) cA zs;exact υ.pure' ⟨_,_,_,_,I,p2,dH,p3,.it (C0 σ _) (C1 Β.len _)⟩
   | lI v J=>rw[bC] at J;cases J
  ·exact .bad
 ·exact .bad
theorem Wd {α:Type} (f:α->Nat):∀(l:List α) (i:Nat) (e:α),(l.map f).Nodup->l[i]?=some e->l.filter (λx=>f x != f e)=l.eraseIdx i:=by
 intro l
 induction l with
 | nil=>intro i e _ h;simp at h
 | cons a l Δ=>
  intro i e Η h;simp only[List.map_cons,List.nodup_cons] at Η;cases i with
  | zero=>
   simp at h;subst h;rw[List.filter_cons];simp only[bne_self_eq_false,Bool.false_eq_true,if_false,List.eraseIdx_cons_zero];rw[List.filter_eq_self];intro x U;simp only[bne_iff_ne,ne_eq];intro e;exact Η.1 (e▸List.mem_map_of_mem U)
  | succ i=>
   simp only[List.getElem?_cons_succ] at h;have bz:f a≠f e:=λx=>Η.1 (x▸List.mem_map_of_mem (ck h));rw[List.filter_cons];simp only[bne_iff_ne,ne_eq,bz,not_false_eq_true,if_true,List.eraseIdx_cons_succ];rw[Δ i e Η.2 h]
theorem We {es:List (θ×θ)} {xs:Array MapEntry} {clock:Nat} (h:sr S B σ es xs clock):(xs.toList.map (·.born)).Nodup:=by
 rw[List.Nodup,List.pairwise_map,List.pairwise_iff_getElem];intro i j hi ε aD;have:=h.2.2 i j _ _ (e7 (by simpa using hi)) (e7 (by simpa using ε)) aD;simp only[Array.getElem_toList];omega
def De (σ:List Row) (it:θ):cZ:=match it with
 | .it id=>match σ[id]? with
  | some (.iter m left _)=>if left.isEmpty=true then .ok (.bn [.z (.bool false)]) σ else
    .all left.length λi=>match left[i]? with
     | some e=>.ok (.bn [.z (.bool true),e.1,e.2]) (σ.set id (.iter m (left.eraseIdx i) (some e)))
     | none=>.bad
  | _=>.bad
 | _=>.bad
theorem Wf {a b c:θ} {u v w:Value} (J:ao S B σ a u) (γ:ao S B σ b v) (π:ao S B σ c w):ao S B σ (.bn [a,b,c]) (.tuple #[u,v,w]):=by
 refine .bn _ rfl λi b1 e8 Τ af=>?_
 match i with
 | 0=>simp at Τ af;subst Τ;subst af;exact J
 | 1=>simp at Τ af;subst Τ;subst af;exact γ
 | 2=>simp at Τ af;subst Τ;subst af;exact π
 | i+3=>simp at Τ
theorem Wg (Β:Holds S B σ H) {it:θ} {u:Value} (ty:TypeId) (hi:ao S B σ it u):cF P (Instr.next u false ty) S B H σ (De σ it):=by
 unfold De;split
 ·rename_i id;split
  ·rename_i m left cur bC;cases hi with
   | it J γ=>
    rename_i G6 G7 b0 b N;rw[bC] at J;cases J;obtain⟨Χ,eP,aT,kN,xs,clock,seen,cv,sw,⟨es,zV⟩,sF,vQ,⟨b5,HI,hlen,HJ⟩,xP,Df⟩:=Β.row id _ _ bC γ;cases cv;obtain⟨xs',clock',Ny,hq⟩:=zS Β zV sw;rw[vQ] at Ny;cases Ny;have kv:=We hq;have bz:aT≠b:=λe=>by subst e;rw[sF] at vQ;cases vQ
    intro K I;have Wh:(xs.filter λe=>!seen.contains e.born).toList=b5:=by rw[HI];simp
    have hM:(!seen.isEmpty&&!xs.isEmpty&&xs.all (λe=>decide (e.born>=clock)))=false:=by
     cases U:xs.isEmpty with
     | true=>simp
     | false=>
      have p1:0<xs.size:=by
       rw[Array.isEmpty_eq_false_iff] at U;exact Array.size_pos_iff.2 U
      have ag:xs.all (λe=>decide (e.born>=clock))=false:=by
       rw[Array.all_eq_false];refine⟨0,p1,?_⟩;have:=xP xs[0] (Array.getElem_mem p1);simp;exact this
      rw[ag];simp
    have Wi:∀z:Array MapEntry,z=xs.filter (λe=>!seen.contains e.born)->z.filter (λe=>decide (e.born<clock))=z/\z.filter (λe=>decide (e.born>=clock))=#[]:=λz Θ=>by
     have hb:∀e∈z,e.born<clock:=λe he=>by rw[Θ] at he;exact xP e (Array.mem_of_mem_filter he)
     constructor
     ·rw[Array.filter_eq_self];intro e he;simpa using hb e he
     ·rw[Array.filter_eq_empty_iff];intro e he;simpa using hb e he
    unfold Instr.next;refine υ.bind' ?_;refine⟨_,sF,rfl,?_⟩;refine υ.pure' ?_;simp only;refine υ.bind' ?_;refine⟨_,vQ,rfl,?_⟩;refine υ.pure' ?_;simp only[hM,Bool.false_eq_true,if_false];generalize Θ:xs.filter (λe=>!seen.contains e.born)=z;obtain⟨f1,f2⟩:=Wi z Θ.symm;rw[f1,f2];have o5:z.toList=b5:=by rw[<-Θ];exact Wh
    by_cases Dg:left.isEmpty=true
    ·have Hv:left=[]:=List.isEmpty_iff.1 Dg;subst Hv;have Wj:z=#[]:=by
      have:b5=[]:=dp.1 (by rw[<-hlen];rfl);rw[this] at o5;exact Array.toList_eq_nil_iff.1 o5
     subst Wj;have cv:((if(#[]:Array MapEntry).isEmpty=true then #[none] else #[])++Array.map some (#[]++#[]:Array MapEntry))=#[none]:=by simp
     rw[cv];refine υ.bind' ?_;show υ P (choose (.mapNext 1)) H _ _;unfold choose;simp only[υ,Question.forced,Nat.le_refl,decide_true,if_true];exact υ.pure' (.same Β I (.bn _ rfl λi a v Τ af=>by
      match i with
      | 0=>simp at Τ af;subst Τ;subst af;exact .z _
      | i+1=>simp at Τ))
    ·rw[if_neg Dg] at I;have q8:z.size=left.length:=by rw[hlen,<-o5];simp
     have Wk:z.isEmpty=false:=by
      rw[Array.isEmpty_eq_false_iff];intro e;rw[e] at q8;exact Dg (List.isEmpty_iff.2 (dp.1 q8.symm))
     simp only[Wk,Bool.false_eq_true,if_false,Array.append_empty,Array.empty_append];refine υ.bind' ?_;have fin:∀i,i<left.length->υ P (match (z.map some)[i]? with
       | some (some e)=>do
        setObj b (.mapIter (some aT) clock (seen.push e.born) clock)
        pure (.tuple #[.bool true,e.key,e.val])
       | some none=>pure (.tuple #[.bool false])
       | none=>stuck "Next: no such candidate") H (iB S B H σ K) (λ_ _=>False):=λi iC=>by
      have zW:∃p9,z[i]?=some p9:=⟨_,e7 (by omega)⟩;obtain⟨p9,zW⟩:=zW;have Nz:b5[i]?=some p9:=by rw[<-o5,Array.getElem?_toList];exact zW
      have hl:∃e,left[i]?=some e:=⟨_,aW iC⟩;obtain⟨le,hl⟩:=hl;rw[Array.getElem?_map,zW];simp only[Option.map_some];have NA:=I i iC;simp only[hl] at NA;obtain⟨r1,r2⟩:=HJ i _ _ hl Nz;have lN:p9∈xs:=by
       have:p9∈z:=Array.mem_of_getElem? zW;rw[<-Θ] at this;exact Array.mem_of_mem_filter this
      have bW:id<σ.length:=(b7.1 bC).1
      have oZ:id<B.length:=by rw[Β.len];exact bW
      have NB:id≠m:=λe=>by subst e;rw[bC] at zV;cases zV
      obtain⟨dH,p2,p3⟩:=Β.xB (H':=H.bI b (.mapIter (some aT) clock (seen.push p9.born) clock)) (r':=.iter m (left.eraseIdx i) (some le)) (bo':=some (b,N)) bC trivial γ (.inl ⟨_,_,rfl,rfl⟩) (λΧ eP e=>.inl ⟨eP,e⟩) (λΧ Τ _=>by
       have bz:Χ≠b:=λe=>by subst e;exact Τ N rfl
       exact⟨λo=>rfl,rfl,by simp[Α.bI,bz]⟩) Α.G3 (λj l c ε=>by
       obtain⟨bo,ez⟩:=MY Β ε;obtain⟨_,_,_,_,_,_,_,_,_,⟨n5,NC⟩,_⟩:=Β.row j _ bo ε ez;rw[bC] at NC;cases NC) (λω=>by
       refine⟨b,N,aT,kN,xs,clock,seen.push p9.born,rfl,by rw[List.getElem?_set_ne NB];exact sw,⟨es,by rw[List.getElem?_set_ne NB];exact zV⟩,by simp[Α.bI],by simp[Α.bI,bz,vQ],⟨b5.eraseIdx i,?_,by rw[List.length_eraseIdx,List.length_eraseIdx,hlen],λj e y Τ af=>?_⟩,xP,λe he=>?_⟩
       ·have jZ:(b5.map (·.born)).Nodup:=by
         rw[HI];exact kv.sublist (List.filter_sublist.map _)
        rw[<-Wd (·.born) b5 i p9 jZ Nz,HI,List.filter_filter];apply List.filter_congr;intro e _;rw[Array.contains_push,Bool.not_or,Bool.and_comm];congr 1
       ·rw[List.getElem?_eraseIdx] at Τ af;split at Τ
        ·rename_i aD;rw[if_pos aD] at af;obtain⟨c1,c2⟩:=HJ j e y Τ af;exact⟨c1.later ω,c2.later ω⟩
        ·rename_i aD;rw[if_neg aD] at af;obtain⟨c1,c2⟩:=HJ (j+1) e y Τ af;exact⟨c1.later ω,c2.later ω⟩
       ·cases he;refine⟨p9.born,p9,by simp,?_,r1.later ω,r2.later ω⟩;rw[<-Array.find?_toList];obtain⟨q,Ρ⟩:=List.getElem?_of_mem (show p9∈xs.toList by simpa using lN);have key:∀(l:List MapEntry) (q:Nat) (e:MapEntry),(l.map (·.born)).Nodup->l[q]?=some e->l.find? (·.born==e.born)=some e:=by
         intro l
         induction l with
         | nil=>intro q e _ h;simp at h
         | cons a l Δ=>
          intro q e Η h;simp only[List.map_cons,List.nodup_cons] at Η;rw[List.find?_cons];cases q with
          | zero=>simp at h;subst h;simp
          | succ q=>
           simp only[List.getElem?_cons_succ] at h;have:(a.born==e.born)=false:=by
            simp only[beq_eq_false_iff_ne,ne_eq];intro x;exact Η.1 (x▸List.mem_map_of_mem (ck h))
           rw[this];exact Δ q e Η.2 h
        exact key xs.toList q _ kv Ρ)
      refine υ.bind' ?_;refine⟨⟨_,sF⟩,rfl,rfl,?_⟩;refine υ.pure' ?_;exact υ.pure' ⟨S,_,_,_,NA,p2,dH,p3,Wf (.z _) (r1.later p3) (r2.later p3)⟩
     have cm:(z.map some).size=left.length:=by simp[q8]
     show υ P (choose (.mapNext (z.map some).size)) H _ _;unfold choose;simp only[υ];have p1:0<left.length:=List.length_pos_iff.2 λe=>Dg (List.isEmpty_iff.2 e);split
     ·exact fin 0 p1
     ·intro n;refine fin _ ?_;simp only[Question.cut,cm];exact Nat.mod_lt _ p1
   | nk v J=>rw[bC] at J;cases J
  ·exact .bad
 ·exact .bad
def Dh (σ:List Row) (it:θ):cZ:=match it with
 | .it id=>match σ[id]? with
  | some (.iter _ _ (some e))=>.ok (.bn [e.1,e.2]) σ
  | _=>.bad
 | _=>.bad
theorem Wl (Β:Holds S B σ H) {it:θ} {u:Value} (hi:ao S B σ it u):cF P (Instr.entry u) S B H σ (Dh σ it):=by
 unfold Dh;split
 ·rename_i id;split
  ·rename_i m left e bC;cases hi with
   | it J γ=>
    rename_i G6 G7 b0 b N;rw[bC] at J;cases J;obtain⟨Χ,eP,aT,kN,xs,clock,seen,cv,sw,zV,sF,vQ,_,xP,Df⟩:=Β.row id _ _ bC γ;cases cv;obtain⟨G9,y,Τ,af,aX,cr⟩:=Df e rfl;intro K I;unfold Instr.entry;refine υ.bind' ?_;refine⟨_,sF,rfl,?_⟩;refine υ.pure' ?_;simp only[Τ];refine υ.bind' ?_;refine⟨_,vQ,rfl,?_⟩;refine υ.pure' ?_;simp only[bne_self_eq_false,Bool.false_eq_true,if_false,af];exact υ.pure' (.same Β I (xD aX cr))
   | nk v J=>rw[bC] at J;cases J
  ·exact .bad
 ·exact .bad
def Di (T:bd) (ty:TypeId) (σ:List Row) (x:θ):cZ:=match x with
 | .ms id n i len=>match T ty,σ[id]? with
  | some kL,some (.cells t k l)=>match kL.bD with
   | .slice e=>match T e with
    | some bX=>match bX.zero with
     | .int kd z=>if l.length=n/\k=1/\i+len<=n/\(∀a∈l,a.cells.length=1) then .ok .cg (σ.set id (.cells t k (l.take i++List.replicate len (.z (.int kd z))++l.drop (i+len)))) else .bad
     | _=>.bad
    | none=>.bad
   | _=>.bad
  | _,_=>.bad
 | _=>.bad
theorem Wm (Κ:bR P T) (Β:Holds S B σ H) {ty:TypeId} (rt:TypeId) {x:θ} {u:Value} (hm:ao S B σ x u):cF P (Builtin.clear_ #[ty] rt #[u]) S B H σ (Di T ty σ x):=by
 unfold Di;split
 ·rename_i id n i len;split
  ·rename_i kL t k l Wn ω;split
   ·rename_i e hu;split
    ·rename_i bX dL;split
     ·rename_i kd z Θ;split
      ·rename_i ζ;obtain⟨Η,rfl,br,_⟩:=ζ;have bW:id<σ.length:=(b7.1 ω).1;have oZ:id<B.length:=by rw[Β.len];exact bW
       intro K I;have same:len=0->iB S B H σ K (.tuple #[]) H:=λcv=>by
        subst cv;have ra:σ.set id (.cells t 1 (l.take i++List.replicate 0 (.z (.int kd z))++l.drop (i+0)))=σ:=by
         rw[List.replicate_zero,List.append_nil,Nat.add_zero,List.take_append_drop];apply List.ext_getElem?;intro j;by_cases mA:id=j
         ·subst mA;rw[List.getElem?_set_self bW,ω]
         ·rw[List.getElem?_set_ne mA]
        simp only[cZ.holds] at I;rw[ra] at I;exact⟨S,B,σ,_,I,.refl _ _ _,Β,.refl _ _ _,.cg _⟩
       cases hm with
       | iW v J γ=>rw[ω] at J;cases J;simp only[Row.g4] at γ;omega
       | ms cap J γ π Μ aA bc=>
        rename_i bo base;rw[ω] at J;cases J;unfold Builtin.clear_;refine υ.bind' (Κ.bD Wn ?_);rw[hu];cases base with
        | none=>
         refine υ.bind' (υ.pure' ?_);have cv:len=0:=by
          rcases bc with bc|⟨b,N,_,hb,_⟩
          ·omega
          ·cases hb
         exact υ.pure' (same cv)
        | some a=>
         by_cases cv:len=0
         ·subst cv;refine υ.bind' (υ.pure' ?_);exact υ.pure' (same rfl)
         ·rcases bc with bc|⟨b,N,rfl,hb,bc⟩
          ·omega
          ·cases hb;obtain⟨bC,b8,fW,w,hw⟩:=Β.row id _ _ ω π;obtain⟨m,rfl⟩:∃m,len=m+1:=⟨len-1,by omega⟩;simp only;refine υ.bind' (Κ.zero dL ?_);rw[Θ];have Wo:(Builtin.zeroCells (Value.int kd z).cells (m+1)).toList=List.replicate (m+1) (.int kd z):=by
            simp only[Builtin.zeroCells,Value.cells];rw[Array.toList_map,Array.toList_range];refine List.ext_getElem? λj=>?_;rw[List.getElem?_map,List.getElem?_replicate];by_cases ε:j<m+1
            ·rw[List.getElem?_range (by simpa using ε),if_pos ε];simp[Nat.mod_one]
            ·rw[List.getElem?_eq_none (by simp;omega),if_neg ε];rfl
           rw[Wo];have hR:∀(y:Nat) (c:θ),(l.take i++List.replicate (m+1) (θ.z (.int kd z))++l.drop (i+(m+1)))[y]?=some c->(i<=y/\y<i+(m+1)/\c=.z (.int kd z))\/((y<i\/i+(m+1)<=y)/\l[y]?=some c):=λy c Ξ=>by
            by_cases c1:y<i
            ·rw[List.append_assoc,dB (by simp;omega),List.getElem?_take_of_lt c1] at Ξ;exact .inr ⟨.inl c1,Ξ⟩
            ·by_cases c2:y<i+(m+1)
             ·rw[dB (by simp;omega),fS (by simp;omega),List.getElem?_replicate] at Ξ;split at Ξ
              ·cases Ξ;exact .inl ⟨by omega,c2,rfl⟩
              ·cases Ξ
             ·rw[fS (by simp;omega),List.getElem?_drop] at Ξ;have Ζ:i+(m+1)+(y-(l.take i++List.replicate (m+1) (θ.z (.int kd z))).length)=y:=by simp;omega
              rw[Ζ] at Ξ;exact .inr ⟨.inr (by omega),Ξ⟩
           obtain⟨dH,p2,p3⟩:=Β.xB (H':=H.hk b i (List.replicate (m+1) (.int kd z))) (r':=.cells t 1 (l.take i++List.replicate (m+1) (.z (.int kd z))++l.drop (i+(m+1)))) (bo':=some (b,N)) ω trivial π (.inl ⟨_,rfl,by simp;omega,rfl⟩) (λΧ eP aJ=>.inl ⟨eP,aJ⟩)
            (λΧ J _=>by
             have bz:Χ≠b:=λaJ=>by subst aJ;exact J N rfl
             exact⟨λo=>by simp[Α.hk,bz],rfl,rfl⟩) Α.Hb (CJ Β ω) (λkG=>by
             refine⟨bC,by simp;omega,λo Γ=>?_,λy j=>if i<=y/\y<i+(m+1) then .int kd z else w y j,λy c Ξ=>?_⟩
             ·simp only[Α.hk];split
              ·exact⟨_,rfl⟩
              ·exact fW o Γ
             ·rcases hR y c Ξ with⟨c1,c2,rfl⟩|⟨c1,vn⟩
              ·refine⟨rfl,λj a ε=>?_⟩;have fv:j=0:=by have:=(b7.1 ε).1;simp[θ.cells] at this;omega
               subst fv;simp[θ.cells] at ε;subst ε;simp only[c1,c2,and_self,if_true];refine⟨?_,.z _,trivial⟩;simp only[Α.hk,List.length_replicate];rw[if_pos ⟨trivial,by omega,by omega⟩,List.getElem?_replicate,if_pos (by omega)];rfl
              ·refine⟨(hw y c vn).1,λj a ε=>?_⟩;obtain⟨Τ,af,aX⟩:=(hw y c vn).2 j a ε;have fv:j=0:=by have:=(b7.1 ε).1;rw[(hw y c vn).1] at this;omega
               subst fv;have Dj:¬(i<=y/\y<i+(m+1)):=by omega
               simp only[Dj,if_false];refine⟨?_,af.later kG,aX⟩;simp only[Α.hk,List.length_replicate];rw[if_neg (by omega)];exact Τ)
           have ξ:(⟨b,i*1,none⟩:Addr)=⟨b,i,none⟩:=by rw[Nat.mul_one]
           rw[ξ];refine υ.bind' ?_;refine υ.storeCells (G:=H) rfl ⟨t,N,bC⟩ _ 0 H (λv hv=>by rw[List.eq_of_mem_replicate hv];trivial) (λj _ ε=>?_) rfl ?_
           ·rw[List.length_replicate] at ε;obtain⟨dT,sE⟩:=fW (i+j) (by omega);exact⟨dT,sE⟩
           ·exact υ.pure' ⟨S,_,_,_,I,p2,dH,p3,.cg _⟩
      ·exact .bad
     ·exact .bad
    ·exact .bad
   ·exact .bad
  ·exact .bad
 ·exact .bad
def Dk (T:bd) (ty:TypeId) (σ:List Row) (mp:θ):cZ:=match vO T ty,mp with
 | some _,.mp id=>match σ[id]? with
  | some (.map _)=>if n9 σ id=true then .ok .cg (σ.set id (.map [])) else .bad
  | _=>.bad
 | _,_=>Di T ty σ mp
theorem Wp (Κ:bR P T) (Β:Holds S B σ H) {ty:TypeId} (rt:TypeId) {mp:θ} {u:Value} (hm:ao S B σ mp u):cF P (Builtin.clear_ #[ty] rt #[u]) S B H σ (Dk T ty σ mp):=by
 unfold Dk;split
 ·rename_i zU id vP;obtain⟨i,hi,hu⟩:=Da (kt:=zU.1) (vt:=zU.2) vP;split
  ·rename_i es bC;split
   ·rename_i kK;cases hm with
    | mp J γ=>
     rename_i b N;rw[bC] at J;cases J;obtain⟨xs,clock,nu,hq⟩:=zS Β bC γ;obtain⟨dH,p2,p3⟩:=HG Β (es':=[]) (xs':=#[]) (clock':=clock) bC γ kK λ_=>⟨rfl,λi e y J=>by simp at J,λi j y z J=>by simp at J⟩;intro K I;unfold Builtin.clear_;refine υ.bind' (Κ.bD hi ?_);rw[hu];refine υ.bind' ?_;refine⟨_,nu,rfl,?_⟩;refine υ.pure' ?_;refine⟨⟨_,nu⟩,rfl,rfl,?_⟩;exact υ.pure' ⟨S,_,_,_,I,p2,dH,p3,.cg _⟩
    | lI v J=>rw[bC] at J;cases J
   ·exact .bad
  ·exact .bad
 ·exact Wm Κ Β rt hm
end
def vR (T:bd) (op:BinOp) (ty:TypeId) (a b:θ):cw:=match aeqv T ty a b with
 | some r=>match op with
  | .eql=>.ok (.z (.bool r))
  | .neq=>.ok (.z (.bool !r))
  | _=>.bad
 | none=>.bad
def Dl (T:bd) (op:BinOp) (ty:TypeId) (a b:θ):cw:=match a,b with
 | .z x,.z y=>match sy op x y with
  | .ok v=>.ok v
  | .b4 p r=>.b4 p r
  | .bad=>vR T op ty (.z x) (.z y)
 | .aS x,.aS y=>vR T op ty (.aS x) (.aS y)
 | _,_=>.bad
def Dm (T:bd) (ty:TypeId) (x bZ:θ):cw:=match T ty with
 | some i=>match i.bD,x,bZ with
  | .string,.z (.string s),.z (.int _ n)=>.b4 (0<=n/\n<s.size) (.ok (.z (.int .u8 (s.data.toList.getD n.toNat 0).toNat)))
  | .array len e,.aS xs,.z (.int _ n)=>match T e with
   | some bX=>if bX.agg=false/\bX.size=1/\xs.length=len then .b4 (0<=n/\n<len) (.ok (xs.getD n.toNat .cg)) else .bad
   | none=>.bad
  | _,_,_=>.bad
 | none=>.bad
def Dn (x:θ):cw:=match x with
 | .Ψ c=>.ok (.Ψ c)
 | .fn (.func f) a b=>.ok (.fn (.func f) a b)
 | .z (.pointer (some a))=>.ok (.z (.pointer (some a)))
 | _=>.bad
def vS (σ:List Row) (x:θ):cZ:=match x with
 | .al id n i j=>match σ[id]? with
  | some (.cells _ _ l)=>if l.length=n then .ok (.al id n i j) σ else .bad
  | _=>.bad
 | _=>.bad
def Dp (T:bd) (arr:TypeId) (x:θ):cw:=match T arr with
 | some i=>match i.bD,x with
  | .array n _,.sl _ k l=>if 0<n/\k=1/\(l.all λe=>decide (e.cells.length=1)&&θ.a7 [] e)=true then .b4 (n<=l.length) (.ok (.Ψ (l.take n))) else .bad
  | _,_=>.bad
 | none=>.bad
def sG:List θ->Option (List Int)
 | []=>some []
 | .z (.int .i32 n)::r=>(sG r).map (n::·)
 | _=>none
def spell (l:List Int):ByteArray:=l.foldl (λs n=>s++Utf8.encode n) .empty
def zX (T:bd) (ty:TypeId):Bool:=match T ty with
 | some i=>match i.bD with
  | .slice e=>match T e with|some bX=>(match bX.bD with|.int .i32=>true|_=>false)&&bX.size==1|none=>false
  | _=>false
 | none=>false
def zY (T:bd) (ty:TypeId):Bool:=match T ty with|some i=>(match i.bD with|.string=>true|_=>false)|none=>false
def tX (T:bd) (src dst:TypeId) (σ:List Row) (x:θ):cw:=if zX T src=true/\zY T dst=true then match pZ σ x with
 | some (k,l)=>if k=1\/l.isEmpty=true then match sG l with|some r=>.ok (.z (.string (spell r)))|none=>.bad else .bad
 | none=>.bad else .bad
def Dq (T:bd) (src dst:TypeId) (x:θ):cw:=if zY T src=true/\zX T dst=true then match x with
 | .z (.string s)=>.ok (.sl false 1 ((Conv.runesFrom s s.size 0 #[]).toList.map .z))
 | _=>.bad else .bad
section
variable {P:Program} {T:bd} {S:aB} {B:aR} {H:Α} {σ:List Row}
theorem Wq {op:BinOp} {ty:TypeId} {p q:Operand} {vs ws:Array Value} (Υ:P.eqGuardType P.depth ty=false) {G:Α} {K:Unit->Α->Prop} {E:Value->Α->Prop} (χ:K () G):υ P (eqGuard op ty p q (.agg vs) (.agg ws)) G K E:=by
 cases op<;>first|exact υ.pure' χ|skip
 all_goals
  unfold eqGuard;simp only[Bool.not_true,Bool.false_eq_true,if_false];refine υ.bind' ?_;show υ P _ G K E;refine υ.bind' ?_;show υ P _ G K E;rw[if_pos (by rw[Υ];rfl)];exact υ.pure' χ
theorem ND (Κ:bR P T) (Β:Holds S B σ H) {op:BinOp} {ty:TypeId} {p q:Operand} {a b:θ} {v w:Value} (ξ:ao S B σ a v) (hb:ao S B σ b w) (NF:∀r,aeqv T ty a b=some r->(op=.eql\/op=.neq)->∀(K:Unit->Α->Prop),K () H->υ P (eqGuard op ty p q v w) H K (λ_ _=>False))
  (Wr:∀r,aeqv T ty a b=some r->(binOp .eql ty v w=(do pure (.bool (<-Op.equal ty v w)))/\binOp .neq ty v w=(do pure (.bool (!(<-Op.equal ty v w)))))) :
  cF P (do eqGuard op ty p q v w;binOp op ty v w) S B H σ ((vR T op ty a b).dq σ):=by
 unfold vR;split
 ·rename_i r μ;obtain⟨J,γ⟩:=Wr r μ;split
  ·intro K I;refine υ.bind' (NF r μ (.inl rfl) _ ?_);rw[J];exact υ.bind' (HB Κ ξ hb μ (υ.pure' (.same Β I (.z _))))
  ·intro K I;refine υ.bind' (NF r μ (.inr rfl) _ ?_);rw[γ];exact υ.bind' (HB Κ ξ hb μ (υ.pure' (.same Β I (.z _))))
  ·exact .bad
 ·exact .bad
theorem Ws (Κ:bR P T) (Β:Holds S B σ H) (op:BinOp) (ty:TypeId) (p q:Operand) {a b:θ} {v w:Value} (ξ:ao S B σ a v) (hb:ao S B σ b w):cF P (do eqGuard op ty p q v w;binOp op ty v w) S B H σ ((Dl T op ty a b).dq σ):=by
 unfold Dl;split
 ·rename_i x y;have Θ:=Vb (P:=P) Β op ty p q v w;cases ξ;cases hb;split
  ·rename_i r μ;rw[μ] at Θ;exact Θ
  ·rename_i pp r μ;rw[μ] at Θ;exact Θ
  ·rename_i xQ;have hQ:∀r,aeqv T ty (.z v) (.z w)=some r->(∃c d,v=.bool c/\w=.bool d)\/¬(op=.eql\/op=.neq):=λr μ=>by
    unfold aeqv at μ;split at μ<;>try cases μ
    simp only at μ;split at μ<;>try cases μ
    unfold mD at μ;split at μ
    ·split at μ
     ·rename_i e;subst e;refine .inr λΓ=>?_;rcases Γ with rfl|rfl<;>simp[sy] at xQ
     ·cases μ
    ·refine .inr λΓ=>?_;rcases Γ with rfl|rfl<;>simp[sy] at xQ
    ·exact .inl ⟨_,_,rfl,rfl⟩
    ·cases μ
   by_cases Ν:op=.eql\/op=.neq
   ·by_cases μ:∃r,aeqv T ty (.z v) (.z w)=some r
    ·obtain⟨r,μ⟩:=μ;rcases hQ r μ with⟨c,d,rfl,rfl⟩|h
     ·exact ND Κ Β (.z _) (.z _) (λ_ _ _ K I=>by unfold eqGuard;split<;>exact υ.pure' I) (λ_ _=>⟨rfl,rfl⟩)
     ·exact absurd Ν h
    ·have:aeqv T ty (.z v) (.z w)=none:=by
      cases h:aeqv T ty (.z v) (.z w) with
      | none=>rfl
      | some r=>exact absurd ⟨r,h⟩ μ
     unfold vR;rw[this];exact .bad
   ·unfold vR;split
    ·split
     ·exact absurd (.inl rfl) Ν
     ·exact absurd (.inr rfl) Ν
     ·exact .bad
    ·exact .bad
 ·rename_i x y;cases ξ with
  | aS vs Τ af=>cases hb with
   | aS ws k1 cC=>
    refine ND Κ Β (.aS vs Τ af) (.aS ws k1 cC) (λr μ _ K I=>?_) (λ_ _=>⟨rfl,rfl⟩);have Υ:P.eqGuardType P.depth ty=false:=by
     unfold aeqv at μ;split at μ<;>try cases μ
     rename_i i hi;simp only at μ;split at μ<;>try cases μ
     rename_i items dk;have:=(Κ ty i hi).1.2;rw[dk] at this;exact this.1
    exact Wq Υ I
 ·exact .bad
theorem Wt (Κ:bR P T) (Β:Holds S B σ H) (ty:TypeId) {x bZ:θ} {v w:Value} (U:ao S B σ x v) (hi:ao S B σ bZ w):cF P (Instr.index ty v w) S B H σ ((Dm T ty x bZ).dq σ):=by
 unfold Dm;cases Ο:T ty with
 | none=>exact .bad
 | some i=>
  simp only;split
  ·rename_i s kk n hu;cases U;cases hi;refine cF.b4 (r:=(cw.ok (.z (.int .u8 (s.data.toList.getD n.toNat 0).toNat))).dq σ) λΗ K I=>?_;unfold Instr.index;refine υ.bind' (υ.pure' ?_);refine υ.bind' (Κ.bD Ο ?_);rw[hu];have aD:n.toNat<s.data.size:=by have:s.size=s.data.size:=rfl;omega
   have Ζ:(if 0<=n then s[n.toNat]? else none)=some s.data[n.toNat]:=by
    rw[if_pos Η.1];show s[n.toNat]?=_;rw[getElem?_pos s n.toNat (by omega)];rfl
   simp only[Ζ];have Ε:s.data.toList.getD n.toNat 0=s.data[n.toNat]:=by rw[List.getD_eq_getElem?_getD,Array.getElem?_toList,e7 aD];rfl
   rw[Ε] at I;exact υ.pure' (.same Β I (.z _))
  ·rename_i len e xs kk n hu;cases hi;split
   ·rename_i bX dL;split
    ·rename_i ζ;obtain⟨c1,c2,c3⟩:=ζ;refine cF.b4 (r:=(cw.ok (xs.getD n.toNat .cg)).dq σ) λΗ K I=>?_;cases U with
     | aS vs Τ af=>
      unfold Instr.index;refine υ.bind' (υ.pure' ?_);refine υ.bind' (Κ.bD Ο ?_);rw[hu];simp only[Η,and_self,if_true];refine υ.bind' (Κ.size dL ?_);rw[c2,Nat.mul_one];unfold part;refine υ.bind' (Κ.agg dL ?_);rw[c1];have aD:n.toNat<xs.length:=by omega
      have hv:n.toNat<vs.size:=by rw[<-Τ];exact aD
      simp only[Bool.false_eq_true,if_false,e7 hv];have Ε:xs.getD n.toNat .cg=xs[n.toNat]:=by simp[aD]
      rw[Ε] at I;exact υ.pure' (.same Β I (af _ _ _ (aW aD) (e7 hv)))
    ·exact .bad
   ·exact .bad
  ·exact .bad
theorem Wu (Β:Holds S B σ H) {ρ:Operand->Value} {o:Oper} {x:Operand} (Γ:o.op=.nilCheck x) {a:θ} (ξ:ao S B σ a (ρ x)):Does P (execOp ρ o) S B H σ ((Dn a).dq σ):=by
 unfold Dn;split
 ·unfold execOp;rw[Γ];simp only;generalize ρ x=v at ξ;cases ξ with
  | Ψ b o w J γ=>exact Does.val Β (.Ψ b o w J γ)
 ·unfold execOp;rw[Γ];simp only;generalize ρ x=v at ξ;cases ξ with
  | fn vs ws J γ π Μ=>exact Does.val Β (.fn vs ws J γ π Μ)
 ·unfold execOp;rw[Γ];simp only;generalize ρ x=v at ξ;cases ξ;exact Does.val Β (.z _)
 ·exact .bad
theorem Wv (Β:Holds S B σ H) {ρ:Operand->Value} {o:Oper} {x:Operand} (Γ:o.op=.nilCheck x) {a:θ} (ξ:ao S B σ a (ρ x)):Does P (execOp ρ o) S B H σ (vS σ a):=by
 unfold vS;split
 ·split
  ·rename_i t k l ω;split
   ·rename_i Η;unfold execOp;rw[Γ];simp only;generalize ρ x=v at ξ;cases ξ with
    | al J γ π=>exact Does.val Β (.al J γ π)
    | jB v J γ=>rw[ω] at J;cases J;simp only[Row.g4] at γ;omega
   ·exact .bad
  ·exact .bad
 ·exact .bad
theorem Ww (Κ:bR P T) (Β:Holds S B σ H) (arr:TypeId) {x:θ} {v:Value} (U:ao S B σ x v):cF P (Instr.arrayAt arr v) S B H σ ((Dp T arr x).dq σ):=by
 unfold Dp;cases Ο:T arr with
 | none=>exact .bad
 | some i=>
  simp only;split
  ·rename_i n e ex k l hu;split
   ·rename_i ζ;obtain⟨c1,c2,c3⟩:=ζ;subst c2;refine cF.b4 (r:=(cw.ok (.Ψ (l.take n))).dq σ) λΗ K I=>?_;obtain⟨base,cap,rfl,_,_,π⟩:=q6 U;obtain⟨b,o,w,rfl,Μ,aA,bc⟩:=π (λe=>by subst e;simp at Η;omega);unfold Instr.arrayAt;refine υ.bind' (Κ.bD Ο ?_);rw[hu];simp only;rw[if_neg (by omega)];rw[List.all_eq_true] at c3;have el:∀(j:Nat) (e:θ),(l.take n)[j]?=some e->l[j]?=some e/\e.cells=[e]:=λj e ε=>by
     have hm:=c3 e (List.mem_of_mem_take (ck ε));simp only[Bool.and_eq_true] at hm;rw[List.getElem?_take] at ε;split at ε
     ·exact⟨ε,θ.Hg hm.2⟩
     ·cases ε
    refine υ.pure' (.same Β I (.Ψ b o (λj=>w j 0) (λj a ε=>?_) (λj a ε=>?_)))
    ·obtain⟨Τ,af⟩:=el j a ε;have:=aA j a Τ 0 a (by rw[af];rfl);simpa using this
    ·obtain⟨Τ,af⟩:=el j a ε;exact bc j a Τ 0 a (by rw[af];rfl)
   ·exact .bad
  ·exact .bad
theorem NG {ty:TypeId} (h:zX T ty=true):∃i e bX,T ty=some i/\i.bD=.slice e/\T e=some bX/\bX.bD=.int .i32/\bX.size=1:=by
 unfold zX at h;split at h
 ·rename_i i hi;split at h
  ·rename_i e hu;split at h
   ·rename_i bX dL;simp only[Bool.and_eq_true,beq_iff_eq] at h;refine⟨i,e,bX,hi,hu,dL,?_,h.2⟩;have:=h.1;split at this
    ·assumption
    ·cases this
   ·cases h
  ·cases h
 ·cases h
theorem NH {ty:TypeId} (h:zY T ty=true):∃i,T ty=some i/\i.bD=.string:=by
 unfold zY at h;split at h
 ·rename_i i hi;refine⟨i,hi,?_⟩;split at h
  ·assumption
  ·cases h
 ·cases h
theorem Wx (Κ:bR P T) (Β:Holds S B σ H) (src dst:TypeId) {x:θ} {v:Value} (U:ao S B σ x v):cF P (convert src dst v) S B H σ ((Dq T src dst x).dq σ):=by
 unfold Dq;split
 ·rename_i ζ;obtain⟨i,hi,hu⟩:=NH ζ.1;obtain⟨j,e,bX,ε,HK,dL,HL,cm⟩:=NG ζ.2;split
  ·rename_i s;cases U;intro K I;unfold convert;refine υ.bind' (Κ.bD hi (υ.bind' (Κ.bD ε ?_)));rw[hu,HK];simp only;refine υ.bind' (Κ.bD dL ?_);rw[HL];simp only;unfold Conv.stringToRunes;refine υ.bind' ?_;unfold choose;simp only[υ];have Ρ:(Question.appendCap (Conv.runesFrom s s.size 0 #[]).size 0 e).forced=false:=rfl;rw[Ρ];simp only[Bool.false_eq_true,if_false];intro q;generalize HM:Conv.runesFrom s s.size 0 #[]=lK at I ⊢;have xG:lK.size<=(Question.appendCap lK.size 0 e).cut q:=by simp[Question.cut]
   refine υ.bind' (υ.bind' ?_);have Wy:∀v∈lK,One v:=by
    have key:∀(bound i:Nat) (acc:Array Value),(∀v∈acc,One v)->∀v∈Conv.runesFrom s bound i acc,One v:=by
     intro bound
     induction bound with
     | zero=>intro i acc h;exact h
     | succ n Δ=>
      intro i acc h;unfold Conv.runesFrom;split
      ·refine Δ _ _ λv hv=>?_;rcases Array.mem_push.1 hv with hv|rfl
       ·exact h v hv
       ·trivial
      ·exact h
    rw[<-HM];exact key _ _ _ (λv hv=>by simp at hv)
   have zO:fH S B σ (lK++Array.replicate ((Question.appendCap lK.size 0 e).cut q-lK.size) (.int .i32 0)) 1 (lK.toList.map .z):=by
    refine⟨by simp,λj a ε=>?_⟩;rw[List.getElem?_map,Array.getElem?_toList] at ε;cases U:lK[j]? with
    | none=>rw[U] at ε;cases ε
    | some y=>
     rw[U] at ε;cases ε;refine⟨rfl,λz b Θ=>?_⟩
     match z with
     | 0=>
      simp[θ.cells] at Θ;subst Θ;refine⟨y,?_,.z y,Wy y (Array.mem_of_getElem? U)⟩;have:=(Array.getElem?_eq_some_iff.1 U).1;rw[Array.getElem?_append_left (by simpa using this)];simpa using U
     | z+1=>simp[θ.cells] at Θ
   refine zJ Β _ e λr J γ π=>υ.pure' (υ.pure' ⟨_,_,_,_,I,γ,J,π,?_⟩);have:=CM (cap:=(Question.appendCap lK.size 0 e).cut q) false π zO (by simpa using xG) (by simp);simpa using this
  ·exact .bad
 ·exact .bad
theorem Wz:∀(l:List θ) (r:List Int),sG l=some r->r.length=l.length/\∀(i:Nat) (n:Int),r[i]?=some n->l[i]?=some (.z (.int .i32 n)):=by
 intro l
 induction l with
 | nil=>intro r h;cases h;exact⟨rfl,λi n h=>by simp at h⟩
 | cons a l Δ=>
  intro r h;unfold sG at h;split at h
  ·rename_i heq;cases heq
  ·rename_i n dR heq;cases heq;cases ω:sG l with
   | none=>rw[ω] at h;cases h
   | some r'=>
    rw[ω] at h;cases h;obtain⟨J,γ⟩:=Δ r' ω;refine⟨by simp[J],λi m hm=>?_⟩;cases i with
    | zero=>simp at hm;subst hm;rfl
    | succ i=>exact γ i m (by simpa using hm)
  ·cases h
theorem WA (Κ:bR P T) (Β:Holds S B σ H) (src dst:TypeId) {x:θ} {v:Value} (U:ao S B σ x v):cF P (convert src dst v) S B H σ ((tX T src dst σ x).dq σ):=by
 unfold tX;split
 ·rename_i ζ;obtain⟨i,e,bX,hi,hu,dL,HL,cm⟩:=NG ζ.1;obtain⟨j,ε,HK⟩:=NH ζ.2;split
  ·rename_i k l ω;split
   ·rename_i χ;split
    ·rename_i r μ;obtain⟨base,cap,w,rfl,_,HN,HM⟩:=CY Β U (k:=1) ω (by omega) (χ.symm);obtain⟨lD,WB⟩:=Wz l r μ;intro K I;unfold convert;refine υ.bind' (Κ.bD hi (υ.bind' (Κ.bD ε ?_)));rw[hu,HK];have hw:∀i,i<l.length->w i=.int .i32 (r.getD i 0):=λi iC=>by
      have NI:r[i]?=some r[i]:=aW (by omega)
      have:=(HM i _ (WB i _ NI)).2 0 _ rfl;rw[Nat.mul_one,Nat.add_zero] at this;rw[List.getD_eq_getElem?_getD,NI];generalize w i=u at this;cases this;rfl
     have go:υ P (Conv.runesToString (.slice base l.length cap)) H (iB S B H σ K) (λ_ _=>False):=by
      unfold Conv.runesToString;rw[Nat.mul_one] at HN;cases base with
      | none=>
       simp only;rcases HN with ag|⟨b,o,hb,_⟩
       ·have:r=[]:=dp.1 (by rw[lD,ag]);subst this;exact υ.pure' (.same Β I (.z _))
       ·cases hb
      | some a=>
       simp only;have fold:∀(rs:List Int) (acc:ByteArray),υ P (forIn (rs.map λn=>Value.int .i32 n) acc λ(c:Value) (s:ByteArray)=>do
         let .int .i32 n:=c|stuck "runesToString: rune expected"
         pure (ForInStep.yield (s++Utf8.encode n))) H (λs H'=>s=rs.foldl (λs n=>s++Utf8.encode n) acc/\H'=H) (λ_ _=>False):=by
        intro rs
        induction rs with
        | nil=>intro acc;exact .forIn_nil ⟨rfl,rfl⟩
        | cons n rs Δ=>
         intro acc;rw[List.map_cons];refine .forIn_cons ?_;exact υ.pure' (Δ (acc++Utf8.encode n))
       have cells:υ P (loadCells a l.length) H (λvs H'=>vs=(r.map λn=>Value.int .i32 n).toArray/\H'=H) (λ_ _=>False):=by
        rcases HN with ag|⟨b,o,hb,Hw⟩
        ·rw[ag];have:r=[]:=dp.1 (by rw[lD,ag]);subst this;exact υ.pure' ⟨rfl,rfl⟩
        ·cases hb;refine υ.loadCells w rfl Hw ⟨?_,rfl⟩;congr 1;apply List.ext_getElem?;intro i;rw[List.getElem?_map,List.getElem?_map];by_cases iC:i<l.length
         ·rw[List.getElem?_range iC,aW (show i<r.length by omega)];simp only[Option.map_some];rw[hw i iC,List.getD_eq_getElem?_getD,aW (show i<r.length by omega)];rfl
         ·rw[List.getElem?_eq_none (by simp;omega),List.getElem?_eq_none (by omega)];rfl
       refine υ.bind' (υ.mono (λvs H' ⟨Ζ,Ε⟩=>?_) (λ_ _ h=>h) _ cells);subst Ζ;subst Ε;rw[<-Array.forIn_toList];refine υ.bind' (υ.mono (λs H' ⟨Ζ,Ε⟩=>?_) (λ_ _ h=>h) _ (fold r .empty));subst Ζ;subst Ε;exact υ.pure' (.same Β I (.z _))
     have:υ P (do
      match <-underlying e with
      | .int .u8=>Conv.bytesToString (.slice base l.length cap)
      | .int .i32=>Conv.runesToString (.slice base l.length cap)
      | _=>stuck "Convert: a slice of what to string?") H (iB S B H σ K) (λ_ _=>False):=by
      refine υ.bind' (Κ.bD dL ?_);rw[HL];exact go
     cases base<;>exact this
    ·exact .bad
   ·exact .bad
  ·exact .bad
 ·exact .bad
end
def Dr (σ:List Row):cZ:=.all 2 λj=>.ok (.z (.bool (j==1))) σ
def Ds (T:bd) (ty:TypeId) (σ:List Row) (a:θ):cZ:=match T ty with
 | some i=>match i.bD with
  | .slice _=>match a with
   | .ms id n i len=>match σ[id]? with
    | some (.cells _ _ l)=>if l.length=n/\i+len<=n then(if len=0 then Dr σ else .ok (.z (.bool false)) σ) else .bad
    | _=>.bad
   | .sl _ _ l=>if l.isEmpty then Dr σ else .ok (.z (.bool false)) σ
   | _=>.bad
  | _=>.bad
 | none=>.bad
section
variable {P:Program} {T:bd} {S:aB} {B:aR} {H:Α} {σ:List Row}
theorem zZ (Κ:bR P T) (Β:Holds S B σ H) {ty:TypeId} {i:ia} (hi:T ty=some i) {e:TypeId} (hu:i.bD=.slice e) (p q:Operand) (base:Option Addr) (len cap:Nat) {dq:cZ}
  (WC:∀K,dq.holds K->K (.z (.bool base.isNone)) σ):cF P (do eqGuard .eql ty p q (.slice base len cap) (.slice none 0 0);binOp .eql ty (.slice base len cap) (.slice none 0 0)) S B H σ dq:=by
 intro K I;have I:=WC K I;refine υ.bind' ?_;unfold eqGuard;refine υ.pure' ?_;have WE:binOp .eql ty (.slice base len cap) (.slice none 0 0)=(do pure (Value.bool (<-Op.equal ty (.slice base len cap) (.slice none 0 0)))):=rfl;rw[WE];refine υ.bind' ?_;unfold Op.equal;unfold Op.equalIn;refine υ.bind' (Κ.bD hi ?_);rw[hu];cases base with
 | none=>exact υ.pure' (υ.pure' (.same Β I (.z _)))
 | some b=>exact υ.pure' (υ.pure' (.same Β I (.z _)))
theorem HO {K:θ->List Row->Prop} (h:(Dr σ).holds K) (b:Bool):K (.z (.bool b)) σ:=by
 cases b
 ·exact h 0 (by decide)
 ·exact h 1 (by decide)
theorem WG (Κ:bR P T) (Β:Holds S B σ H) (ty:TypeId) (p q:Operand) {a:θ} {v:Value} (ξ:ao S B σ a v):cF P (do eqGuard .eql ty p q v (.slice none 0 0);binOp .eql ty v (.slice none 0 0)) S B H σ (Ds T ty σ a):=by
 unfold Ds;split
 ·rename_i i hi;split
  ·rename_i e hu;split
   ·rename_i id n j len;split
    ·rename_i t k l μ;split
     ·rename_i ζ;cases ξ with
      | @ms _ _ _ _ _ _ _ bo base cap J γ π Μ aA bc=>
       split
       ·exact zZ Κ Β hi hu p q base len cap λK I=>HO I _
       ·rename_i hlen;refine zZ Κ Β hi hu p q base len cap λK I=>?_;rcases bc with bc|⟨b,N,_,gK,_⟩
        ·omega
        ·rw[gK];exact I
      | iW v J γ=>
       rw[μ] at J;cases J;exact absurd ζ.1 (Nat.ne_of_gt γ)
     ·exact .bad
    ·exact .bad
   ·rename_i l;cases ξ with
    | iA base cap J=>exact zZ Κ Β hi hu p q base 0 cap λK I=>HO I _
    | sl b o cap w J γ=>
     split
     ·exact zZ Κ Β hi hu p q _ _ cap λK I=>HO I _
     ·exact zZ Κ Β hi hu p q _ _ cap λK I=>I
   ·exact .bad
  ·exact .bad
 ·exact .bad
end
end Go.TL
