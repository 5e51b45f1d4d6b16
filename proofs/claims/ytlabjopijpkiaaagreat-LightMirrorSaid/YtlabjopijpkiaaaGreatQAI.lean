import Derived.Test.YtlabjopijpkiaaaGreatQAH
set_option maxHeartbeats 16000000
set_option maxRecDepth 20000
set_option linter.unusedSectionVars false
set_option linter.unusedSimpArgs false
set_option linter.unusedVariables false
namespace Go.TL
open Go.Conc
def lf (d:TypeDesc) (x y:Value):Option Bool:=match d,x,y with
 | .int _,.int k a,.int Χ b=>if k=Χ then some (a==b) else none
 | .string,.string a,.string b=>some (a==b)
 | .bool,.bool a,.bool b=>some (a==b)
 | _,_,_=>none
def iF:List (TypeDesc×Nat)->List ζ->List ζ->Option Bool
 | [],_,_=>some true
 |(d,o)::r,xs,cb=>match xs[o]?,cb[o]? with
  | some (.z x),some (.z y)=>match lf d x y,iF r xs cb with
   | some b,some c=>some (b&&c)
   | _,_=>none
  | _,_=>none
def aeqv (T:aZ) (ty:TypeId) (a b:ζ):Option Bool:=match T ty with
 | some i=>match a,b with
  | .z x,.z y=>if h9 i.bl then lf i.bl x y else none
  | .aR xs,.aR cb=>match i.eqs with|some items=>if xs.length=items.length/\cb.length=items.length then iF items xs cb else none|none=>none
  | _,_=>none
 | none=>none
section
variable {P:Program} {T:aZ} {S:al} {B:aH} {H:υ} {σ:List Row}
theorem π.forIn_nil {α β:Type} {init:β} {f:α->β->Sem (ForInStep β)} {G:υ} {K:β->υ->Prop} {E:Value->υ->Prop} (h:K init G):π P (forIn ([]:List α) init f) G K E:=by
 rw[List.forIn_nil];exact h
theorem π.forIn_cons {α β:Type} {a:α} {l:List α} {init:β} {f:α->β->Sem (ForInStep β)} {G:υ} {K:β->υ->Prop} {E:Value->υ->Prop}
  (h:π P (f a init) G (λr G'=>match r with|.done b=>K b G'|.yield b=>π P (forIn l b f) G' K E) E):π P (forIn (a::l) init f) G K E:=by
 rw[List.forIn_cons];refine π.bind' (π.mono (λr G' ι=>?_) (λ_ _ h=>h) _ h);cases r with
 | done b=>exact π.pure' ι
 | yield b=>exact ι
theorem forIn_range {β:Type} (m:Nat) (init:β) (f:Nat->β->Sem (ForInStep β)):forIn [:m] init f=forIn (List.range m) init f:=by
 rw[Std.Legacy.Range.forIn_eq_forIn_range'];simp[Std.Legacy.Range.size,List.range_eq_range']
theorem EO {ty:TypeId} {d:TypeDesc} (hd:P.underlying ty=some d) (ν:h9 d=true) {x y:Value} {b:Bool} (h:lf d x y=some b) {n:Nat} {G:υ} {K:Bool->υ->Prop} {E:Value->υ->Prop} (Α:K b G):π P (Op.equalIn (n+1) ty x y) G K E:=by
 unfold Op.equalIn;refine π.bind' (π.underlying hd ?_);unfold lf at h;split at h
 ·split at h
  ·rename_i e;subst e;cases h;simp only[if_true];exact π.pure' Α
  ·cases h
 ·cases h;exact π.pure' Α
 ·cases h;exact π.pure' Α
 ·cases h
def EP (xs:List ζ) (vs:Array Value):Prop:=∀(o:Nat) (v:Value),xs[o]?=some (ζ.z v)->vs[o]?=some v
theorem xR {xs:List ζ} {vs:Array Value} (h:ah S B σ (.aR xs) (.agg vs)):EP xs vs:=λo v hv=>by
 cases h with
 | aR _ Ξ aa=>
  have ar:o<vs.size:=by rw[<-Ξ];exact(bU.1 hv).1
  have U:=eM ar
  have:=aa o _ _ hv U;generalize vs[o]=u at this U;cases this;exact U
theorem xS {ty:TypeId} {d:TypeDesc} (hd:P.underlying ty=some d) (ν:h9 d=true) {vs:Array Value} {o:Nat} {v:Value} (hv:vs[o]?=some v) {G:υ} {K:Value->υ->Prop} {E:Value->υ->Prop} (Α:K v G):π P (part ty vs o) G K E:=by
 unfold part;refine π.bind' (π.isAgg hd ?_);have:jO d=false:=by cases d<;>first|rfl|cases ν
 rw[this];simp only[Bool.false_eq_true,if_false,hv];exact π.pure' Α
theorem Q9 {xs cb:List ζ} {vs ws:Array Value} (U:EP xs vs) (ad:EP cb ws) {ty:TypeId} {items:List (TypeDesc×Nat)} (Ψ:Ep P ty (some items)) {b:Bool} (h:iF items xs cb=some b) {n:Nat} {G:υ} {K:Bool->υ->Prop} {E:Value->υ->Prop} (Α:K b G) :
  π P (Op.equalIn (n+2) ty (.agg vs) (.agg ws)) G K E:=by
 obtain⟨_,_,Ψ⟩:=Ψ;rcases Ψ with⟨cP,hu,cj,c9,nx⟩|⟨m,e,d,f,hu,he,ν,ab,b2,c9⟩
 ·unfold Op.equalIn;refine π.bind' (π.underlying hu ?_);simp only;refine π.bind' ?_;show π P (if P.stoodInHeld ty=true then _ else _) G K E;rw[cj];simp only[Bool.false_eq_true,if_false];have key:∀(l:List Field) (c:Bool),(∀f∈l,f.name≠ "_" /\ ∃d,P.underlying f.type=some d/\h9 d=true)->iF (l.map λf=>((P.underlying f.type).getD .invalid,f.offset)) xs cb=some c->
    ∀oi:Option Bool×PUnit->υ->Prop,oi (if c then none else some false,⟨⟩) G->π P (forIn l (none,⟨⟩) λ(f:Field) (_:Option Bool×PUnit)=>if f.name≠ "_" then do
     let a <-part f.type vs f.offset
     let b <-part f.type ws f.offset
     let r <-Op.equalIn (n+1) f.type a b
     if(!r)=true then pure (ForInStep.done (some false,⟨⟩)) else pure (ForInStep.yield (none,⟨⟩))
    else pure (ForInStep.yield (none,⟨⟩))) G oi E:=by
   intro l
   induction l with
   | nil=>intro c _ η oi R;simp[iF] at η;subst η;exact .forIn_nil (by simpa using R)
   | cons f l Γ=>
    intro c Β η oi R;obtain⟨tp,d,hd,ν⟩:=Β f (by simp);simp only[List.map_cons,iF,hd,Option.getD_some] at η;split at η<;>try cases η
    rename_i x y tq vk;split at η<;>try cases η
    rename_i bs c1 jM tr;refine .forIn_cons ?_;rw[if_pos tp];refine π.bind' (xS hd ν (U _ _ tq) (π.bind' (xS hd ν (ad _ _ vk) (π.bind' (EO hd ν jM ?_)))));cases bs with
    | false=>exact π.pure' (by simpa using R)
    | true=>exact π.pure' (Γ c1 (λg Ο=>Β g (by simp[Ο])) tr oi (by simpa using R))
  refine π.bind' ?_;have AY:(forIn cP (none,⟨⟩) λ(f:Field) (_:Option Bool×PUnit)=>if f.name≠ "_" then do
     let a <-part f.type vs f.offset
     let b <-part f.type ws f.offset
     let r <-Op.equalIn (n+1) f.type a b
     if(!r)=true then pure (ForInStep.done (some false,⟨⟩)) else pure (ForInStep.yield (none,⟨⟩))
    else pure (ForInStep.yield (none,⟨⟩)):Sem (Option Bool×PUnit))=forIn cP.toList (none,⟨⟩) _:=(Array.forIn_toList ..).symm
  refine Eq.mpr (congrArg (λs=>π P s G _ E) AY) ?_;refine key cP.toList b nx (by rw[<-c9];exact h) _ ?_;cases b<;>exact π.pure' Α
 ·unfold Op.equalIn;refine π.bind' (π.underlying hu ?_);simp only;refine π.bind' (π.sizeOf ab ?_);rw[b2];have key:∀(l:List Nat) (c:Bool),iF (l.map λi=>(d,i)) xs cb=some c->
    ∀oi:Option Bool×PUnit->υ->Prop,oi (if c then none else some false,⟨⟩) G->π P (forIn l (none,⟨⟩) λ(i:Nat) (_:Option Bool×PUnit)=>do
     let a <-part e vs (i*1)
     let b <-part e ws (i*1)
     let r <-Op.equalIn (n+1) e a b
     if(!r)=true then pure (ForInStep.done (some false,⟨⟩)) else pure (ForInStep.yield (none,⟨⟩))) G oi E:=by
   intro l
   induction l with
   | nil=>intro c η oi R;simp[iF] at η;subst η;exact .forIn_nil (by simpa using R)
   | cons i l Γ=>
    intro c η oi R;simp only[List.map_cons,iF] at η;split at η<;>try cases η
    rename_i x y tq vk;split at η<;>try cases η
    rename_i bs c1 jM tr;refine .forIn_cons ?_;refine π.bind' (xS he ν (by rw[Nat.mul_one];exact U _ _ tq) (π.bind' (xS he ν (by rw[Nat.mul_one];exact ad _ _ vk) (π.bind' (EO he ν jM ?_)))));cases bs with
    | false=>exact π.pure' (by simpa using R)
    | true=>exact π.pure' (Γ c1 tr oi (by simpa using R))
  refine π.bind' ?_;rw[forIn_range];refine key (List.range m) b (by rw[<-c9];exact h) _ ?_;cases b<;>exact π.pure' Α
theorem ER (Ζ:bE P T) {ty:TypeId} {a b:ζ} {v w:Value} {r:Bool} (κ:ah S B σ a v) (hb:ah S B σ b w) (h:aeqv T ty a b=some r) {K:Bool->υ->Prop} {E:Value->υ->Prop} (Α:K r H):π P (Op.equal ty v w) H K E:=by
 unfold aeqv at h;split at h
 ·rename_i i hi;obtain⟨⟨hu,Ψ⟩,_⟩:=Ζ ty i hi;split at h
  ·split at h
   ·rename_i ν;cases κ;cases hb;exact EO hu ν h Α
   ·cases h
  ·split at h
   ·rename_i items c9;rw[c9] at Ψ;split at h<;>try cases h
    cases κ with
    | aR vs Ξ aa=>cases hb with
     | aR ws k1 cB=>exact Q9 (xR (.aR vs Ξ aa)) (xR (.aR ws k1 cB)) Ψ h Α
   ·cases h
  ·cases h
 ·cases h
theorem JB (a b:ByteArray):(a==b)=(a.data==b.data):=by
 cases a;cases b;rfl
theorem Q' {a b:ByteArray} (h:(a==b)=true):a=b:=by
 rw[JB] at h;have:=eq_of_beq h;cases a;cases b;simp at this;simp[this]
theorem Ra (a:ByteArray):(a==a)=true:=by rw[JB];exact beq_self_eq_true _
theorem JC {d:TypeDesc} {x y:Value} (h:lf d x y=some true):x=y/\∀n,Instr.sameBits n x x=true:=by
 unfold lf at h;split at h
 ·split at h
  ·rename_i e;subst e;simp only[Option.some.injEq,beq_iff_eq] at h;subst h;exact⟨rfl,λn=>by cases n<;>simp[Instr.sameBits]⟩
  ·cases h
 ·simp only[Option.some.injEq] at h;have:=Q' h;subst this;exact⟨rfl,λn=>by cases n<;>simp[Instr.sameBits,Ra]⟩
 ·simp only[Option.some.injEq,beq_iff_eq] at h;subst h;exact⟨rfl,λn=>by cases n<;>simp[Instr.sameBits]⟩
 ·cases h
theorem Rb {xs cb:List ζ}:∀(items:List (TypeDesc×Nat)),iF items xs cb=some true->∀o,o∈items.map (·.2)->∃x,xs[o]?=some (.z x)/\cb[o]?=some (.z x)/\∀n,Instr.sameBits n x x=true:=by
 intro items
 induction items with
 | nil=>intro _ o ω;simp at ω
 | cons a items Γ=>
  obtain⟨d,p⟩:=a;intro h o ω;simp only[iF] at h;split at h<;>try cases h
  rename_i x y tq vk;split at h<;>try cases h
  rename_i b c hb η;simp only[Option.some.injEq,Bool.and_eq_true] at h;obtain⟨rfl,rfl⟩:=h;simp only[List.map_cons,List.mem_cons] at ω;rcases ω with rfl|ω
  ·obtain⟨Δ,Ε⟩:=JC hb;subst Δ;exact⟨x,tq,vk,Ε⟩
  ·exact Γ η o ω
theorem Rc (Ζ:bE P T) {ty:TypeId} {a b:ζ} {v w:Value} (κ:ah S B σ a v) (hb:ah S B σ b w) (h:aeqv T ty a b=some true):v=w/\a=b/\∀n,Instr.sameBits (n+1) v v=true:=by
 unfold aeqv at h;split at h
 ·rename_i i hi;obtain⟨⟨hu,Ψ⟩,_⟩:=Ζ ty i hi;split at h
  ·split at h
   ·obtain⟨Δ,Ε⟩:=JC h;subst Δ;cases κ;cases hb;exact⟨rfl,rfl,λn=>Ε _⟩
   ·cases h
  ·rename_i xs cb;split at h
   ·rename_i items c9;rw[c9] at Ψ;split at h<;>try cases h
    rename_i hlen;obtain⟨J,R⟩:=hlen;have vl:=Ψ.2.1;have get:∀o,o<items.length->∃x,xs[o]?=some (.z x)/\cb[o]?=some (.z x)/\∀n,Instr.sameBits n x x=true:=λo ω=>Rb items h o (by rw[vl];simpa using ω);have vm:xs=cb:=by
     apply List.ext_getElem?;intro o;by_cases ω:o<items.length
     ·obtain⟨x,Ξ,aa,_⟩:=get o ω;rw[Ξ,aa]
     ·rw[List.getElem?_eq_none (by omega),List.getElem?_eq_none (by omega)]
    cases κ with
    | aR vs Ξ aa=>cases hb with
     | aR ws k1 cB=>
      have JD:∀o,o<items.length->∃x,vs[o]?=some x/\ws[o]?=some x/\∀n,Instr.sameBits n x x=true:=λo ω=>by
       obtain⟨x,c1,c2,c3⟩:=get o ω;exact⟨x,xR (.aR vs Ξ aa) o x c1,xR (.aR ws k1 cB) o x c2,c3⟩
      have oj:vs=ws:=by
       apply Array.ext_getElem?;intro o;by_cases ω:o<items.length
       ·obtain⟨x,c1,c2,_⟩:=JD o ω;rw[c1,c2]
       ·rw[Array.getElem?_eq_none (by omega),Array.getElem?_eq_none (by omega)]
      subst oj;refine⟨rfl,by rw[vm],λn=>?_⟩;simp only[Instr.sameBits,beq_self_eq_true,Bool.true_and,List.all_eq_true];intro p χ;obtain⟨o,ω⟩:=List.getElem?_of_mem χ;rw[List.getElem?_zip_eq_some] at ω;have AZ:o<items.length:=by
       have:=(bU.1 ω.1).1;simp at this;omega
      obtain⟨x,c1,_,c3⟩:=JD o AZ;rw[Array.getElem?_toList,c1] at ω;obtain⟨Δ,Ε⟩:=ω;cases Δ;rw[<-Option.some.inj Ε];exact c3 n
   ·cases h
  ·cases h
 ·cases h
end
def gS (T:aZ) (kt:TypeId) (k:ζ):List (ζ×ζ)->Nat->Option (Option (Nat×ζ))
 | [],_=>some none
 | e::r,i=>match aeqv T kt k e.1 with
  | some b=>bif b then some (some (i,e.2)) else gS T kt k r (i+1)
  | none=>none
def mF (T:aZ) (kt:TypeId) (k:ζ):Bool:=match T kt with
 | some i=>match k with
  | .z _=>h9 i.bl
  | .aR xs=>match i.bl,i.eqs with
   | .array _ _,some items=>xs.length==items.length&&(iF items xs xs).isSome
   | _,_=>false
  | _=>false
 | none=>false
section
variable {P:Program} {T:aZ} {S:al} {B:aH} {H:υ} {σ:List Row}
theorem JE {ty:TypeId} {d:TypeDesc} (hd:P.underlying ty=some d) (ν:h9 d=true) {v:Value} {em:Bool} {n:Nat} {G:υ} {K:Unit->υ->Prop} {E:Value->υ->Prop} (Α:K () G):π P (Instr.checkKey em (n+1) ty v) G K E:=by
 unfold Instr.checkKey;refine π.bind' (π.underlying hd ?_);cases d<;>first|(cases ν;done)|(cases v<;>exact π.pure' Α)
theorem ES (Ζ:bE P T) {kt:TypeId} {k:ζ} {v:Value} (Α:ah S B σ k v) (h:mF T kt k=true) {em:Bool} {G:υ} {K:Unit->υ->Prop} {E:Value->υ->Prop} (I:K () G):π P (Instr.checkKey em 10000 kt v) G K E:=by
 unfold mF at h;split at h
 ·rename_i i hi;obtain⟨⟨hu,Ψ⟩,_⟩:=Ζ kt i hi;split at h
  ·exact JE (n:=9999) hu h I
  ·rename_i xs;split at h
   ·rename_i n e items Rd c9;rw[c9] at Ψ;simp only[Bool.and_eq_true,beq_iff_eq] at h;obtain⟨_,_,Ψ⟩:=Ψ;rcases Ψ with⟨cP,ts,_⟩|⟨m,Ε,d,f,ts,he,ν,ab,b2,Re⟩
    ·rw[hu,Rd] at ts;cases ts
    ·cases Α with
     | aR vs Ξ aa=>
      have Rf:=xR (.aR vs Ξ aa)
      show π P (Instr.checkKey em (9999+1) kt _) G K E;unfold Instr.checkKey;refine π.bind' (π.underlying ts ?_);simp only;rw[forIn_range];refine π.bind' ?_;have hb:∃b,iF ((List.range m).map λi=>(d,i)) xs xs=some b:=by
       rw[<-Re];exact Option.isSome_iff_exists.1 h.2
      have key:∀(l:List Nat) (b:Bool),iF (l.map λi=>(d,i)) xs xs=some b->π P (forIn l PUnit.unit λ(i:Nat) (_:PUnit)=>do
        let a <-sizeOf Ε
        let b <-part Ε vs (i*a)
        Instr.checkKey em 9999 Ε b
        pure (ForInStep.yield PUnit.unit)) G (λ_ G'=>K () G') E:=by
       intro l
       induction l with
       | nil=>intro b _;exact .forIn_nil I
       | cons i l Γ=>
        intro b hb;simp only[List.map_cons,iF] at hb;split at hb<;>try cases hb
        rename_i x y tq vk;split at hb<;>try cases hb
        rename_i bs c1 jM tr;refine .forIn_cons ?_;refine π.bind' (π.sizeOf ab ?_);rw[b2];refine π.bind' (xS he ν (by rw[Nat.mul_one];exact Rf _ _ tq) ?_);refine π.bind' (JE (n:=9998) he ν ?_);exact π.pure' (Γ c1 tr)
      obtain⟨b,hb⟩:=hb;exact π.mono (λ_ G' h=>π.pure' h) (λ_ _ h=>h) _ (key (List.range m) b hb)
   ·cases h
  ·cases h
 ·cases h
def tt (S:al) (B:aH) (σ:List Row) (es:List (ζ×ζ)) (cb:List MapEntry):Prop:=es.length=cb.length/\∀(i:Nat) (e:ζ×ζ) (y:MapEntry),es[i]?=some e->cb[i]?=some y->ah S B σ e.1 y.key/\ah S B σ e.2 y.val
theorem tt.tail {e:ζ×ζ} {es:List (ζ×ζ)} {y:MapEntry} {cb:List MapEntry} (h:tt S B σ (e::es) (y::cb)):(ah S B σ e.1 y.key/\ah S B σ e.2 y.val)/\tt S B σ es cb:=
 ⟨h.2 0 e y rfl rfl,⟨by simpa using h.1,λi aA kz J R=>h.2 (i+1) aA kz J R⟩⟩
theorem A0 {kt:TypeId} {k:ζ}:∀(es:List (ζ×ζ)) (n i:Nat) (a:ζ),gS T kt k es n=some (some (i,a))->n<=i/\∃Χ,es[i-n]?=some (Χ,a)/\aeqv T kt k Χ=some true:=by
 intro es
 induction es with
 | nil=>intro n i a h;cases h
 | cons e es Γ=>
  intro n i a h;unfold gS at h;split at h
  ·rename_i b hb;cases b with
   | true=>cases h;exact⟨Nat.le_refl _,e.1,by simp,hb⟩
   | false=>
    obtain⟨J,Χ,R,ς⟩:=Γ (n+1) i a h;refine⟨by omega,Χ,?_,ς⟩;have:i-n=(i-(n+1))+1:=by omega
    rw[this,List.getElem?_cons_succ];exact R
  ·cases h
def kA (cb:List MapEntry) (i0:Nat) (r:Option (Nat×ζ)):Option (Nat×Value):=r.map λx=>(x.1,((cb[x.1-i0]?).map (·.val)).getD undef)
theorem Rg {d:TypeDesc} {x y:Value} {b:Bool} (h:lf d x y=some b):Instr.sameNow d x y=some b:=by
 unfold lf at h;split at h
 ·split at h
  ·rename_i e;subst e;cases h;simp[Instr.sameNow]
  ·cases h
 ·cases h;rfl
 ·cases h;rfl
 ·cases h
theorem Rh (Ζ:bE P T) {kt:TypeId} {i:hq} (hi:T kt=some i) {k:ζ} {v:Value} (Α:ah S B σ k v) (Ν:∃u,k=.z u):∀(es:List (ζ×ζ)) (cb:List MapEntry) (n:Nat) (r:Option (Nat×ζ)),tt S B σ es cb->gS T kt k es n=some r->
  Instr.findNow i.bl v cb n=some (kA cb n r):=by
 obtain⟨u,rfl⟩:=Ν;cases Α;intro es
 induction es with
 | nil=>
  intro cb n r he h;have:cb=[]:=by have:=he.1;simpa using this.symm
  subst this;cases h;rfl
 | cons e es Γ=>
  intro cb n r he h;cases cb with
  | nil=>have:=he.1;simp at this
  | cons y cb=>
   obtain⟨⟨J,R⟩,Η⟩:=he.tail;unfold gS at h;split at h
   ·rename_i b hb;have hv:lf i.bl v y.key=some b:=by
     unfold aeqv at hb;rw[hi] at hb;simp only at hb;split at hb
     ·rename_i x kz Δ Ε;rw[Ε] at J;cases J;cases Δ;split at hb
      ·exact hb
      ·cases hb
     ·rename_i Δ _;cases Δ
     ·cases hb
    unfold Instr.findNow;rw[Rg hv];cases b with
    | true=>cases h;simp[kA]
    | false=>
     have:=Γ cb (n+1) r Η h;simp only[this];congr 1;unfold kA;cases r with
     | none=>rfl
     | some x=>
      simp only[Option.map_some];have U:n+1<=x.1:=(A0 es (n+1) x.1 x.2 h).1;have:x.1-n=(x.1-(n+1))+1:=by omega
      rw[this,List.getElem?_cons_succ]
   ·cases h
theorem Ri (Ζ:bE P T) {kt:TypeId} {k:ζ} {v:Value} (Α:ah S B σ k v) {E:Value->υ->Prop}:∀(es:List (ζ×ζ)) (cb:List MapEntry) (n:Nat) (r:Option (Nat×ζ)) (K:Option (Nat×Value)->υ->Prop),tt S B σ es cb->gS T kt k es n=some r->
  K (kA cb n r) H->π P (Instr.findAsking kt v cb n) H K E:=by
 intro es
 induction es with
 | nil=>
  intro cb n r K he h I;have:cb=[]:=by have:=he.1;simpa using this.symm
  subst this;cases h;exact π.pure' I
 | cons e es Γ=>
  intro cb n r K he h I;cases cb with
  | nil=>have:=he.1;simp at this
  | cons y cb=>
   obtain⟨⟨J,R⟩,Η⟩:=he.tail;unfold gS at h;split at h
   ·rename_i b hb;unfold Instr.findAsking;refine π.bind' (ER Ζ Α J hb ?_);cases b with
    | true=>cases h;simp only[if_true];exact π.pure' (by simpa[kA] using I)
    | false=>
     simp only[Bool.false_eq_true,if_false];refine Γ cb (n+1) r K Η h ?_;have:kA (y::cb) n r=kA cb (n+1) r:=by
      unfold kA;cases r with
      | none=>rfl
      | some x=>
       simp only[Option.map_some];have U:n+1<=x.1:=(A0 es (n+1) x.1 x.2 h).1;have:x.1-n=(x.1-(n+1))+1:=by omega
       rw[this,List.getElem?_cons_succ]
     rw[<-this];exact I
   ·cases h
theorem ET (Ζ:bE P T) {kt:TypeId} {k:ζ} {v:Value} (Α:ah S B σ k v) (mG:mF T kt k=true) {es:List (ζ×ζ)} {cb:List MapEntry} {r:Option (Nat×ζ)} (he:tt S B σ es cb) (h:gS T kt k es 0=some r) {K:Option (Nat×Value)->υ->Prop} {E:Value->υ->Prop} (I:K (kA cb 0 r) H) :
  π P (Instr.findKey kt v cb) H K E:=by
 unfold Instr.findKey;unfold mF at mG;split at mG
 ·rename_i i hi;refine π.bind' (Ζ.bl hi ?_);split at mG
  ·rw[Rh Ζ hi Α ⟨_,rfl⟩ es cb 0 r he h];exact π.pure' I
  ·rename_i xs;cases Α with
   | aR vs Ξ aa=>
    cases cb with
    | nil=>
     have:es=[]:=by have:=he.1;simpa using this
     subst this;cases h;exact π.pure' I
    | cons y cb=>
     have Ι:Instr.findNow i.bl (.agg vs) (y::cb) 0=none:=by
      unfold Instr.findNow;have:Instr.sameNow i.bl (.agg vs) y.key=none:=by unfold Instr.sameNow;cases i.bl<;>rfl
      rw[this]
     rw[Ι];exact Ri Ζ (.aR vs Ξ aa) es (y::cb) 0 r K he h I
  ·cases mG
 ·cases mG
def mH (σ:List Row) (id:Nat):Bool:=σ.all λr=>match r with|.iter m _ _=>m != id|_=>true
theorem Rj {id:Nat} (h:mH σ id=true):∀(j:Nat) left cur,σ[j]?≠some (Row.iter id left cur):=λj left cur γ=>by
 have:=List.all_eq_true.1 h _ (cf γ);simp at this
def tu (T:aZ) (ty:TypeId):Option (TypeId×TypeId):=match T ty with
 | some i=>match i.bl with|.map k v=>some (k,v)|_=>none
 | none=>none
theorem A1 {ty kt vt:TypeId} (h:tu T ty=some (kt,vt)):∃i,T ty=some i/\i.bl=.map kt vt:=by
 unfold tu at h;split at h
 ·rename_i i hi;split at h
  ·rename_i k v hu;cases h;exact⟨i,hi,hu⟩
  ·cases h
 ·cases h
def EU (σ:List Row):cO:=.ok (.mp σ.length) (σ++[.map []])
theorem Rk (ψ:Holds S B σ H) (ty:TypeId):cp P (Instr.makeMap ty none) S B H σ (EU σ):=by
 intro K I;unfold Instr.makeMap;refine π.bind' ?_;refine λr ι=>?_;have cj:∀b,(∀N,some (r,0)≠some (b,N))->js H (H.bq r (.map #[] 0)) b:=λb hb=>by
  have bd:b≠r:=λe=>by subst e;exact hb _ rfl
  exact⟨λo=>rfl,rfl,by simp[υ.bq,bd]⟩
 have bA:bQ S S B (B++[some (r,0)]) σ (σ++[.map []])->iE S (B++[some (r,0)]) (σ++[.map []]) (H.bq r (.map #[] 0)) (.map []) (some (r,0)):=λ_=>
  ⟨r,0,#[],0,rfl,by simp[υ.bq],rfl,λi e y J=>by simp at J,λi j y z J=>by simp at J⟩
 obtain⟨J,R,ς⟩:=ψ.push (λb N e=>by cases e;exact ι) cj bA;exact π.pure' ⟨_,_,_,_,I,R,J,ς,.mp (es:=[]) (N:=0) (AP σ _) (AQ ψ.len _)⟩
def A2 (T:aZ) (ty:TypeId) (ok:Bool) (σ:List Row) (mp k:ζ):cO:=match tu T ty,mp with
 | some (kt,vt),.mp id=>match σ[id]?,T vt with
  | some (.map es),some EV=>if mF T kt k=true then match gS T kt k es 0 with
   | some (some (_,a))=>.ok (if ok then .bn [a,.z (.bool true)] else a) σ
   | some none=>.ok (if ok then .bn [gF EV.zero,.z (.bool false)] else gF EV.zero) σ
   | none=>.bad else .bad
  | _,_=>.bad
 | _,_=>.bad
theorem xT (ψ:Holds S B σ H) {id b N:Nat} {es:List (ζ×ζ)} (hm:σ[id]?=some (.map es)) (hb:B[id]?=some (some (b,N))):∃xs clock,H.obj b=some (.map xs clock)/\qB S B σ es xs clock:=by
 obtain⟨Ρ,ey,xs,clock,e,J,R⟩:=ψ.row id _ _ hm hb;cases e;exact⟨xs,clock,J,R⟩
theorem qB.vn {es:List (ζ×ζ)} {xs:Array MapEntry} {clock:Nat} (h:qB S B σ es xs clock):tt S B σ es xs.toList:=
 ⟨by simpa using h.1,λi e y J R=>by rw[Array.getElem?_toList] at R;obtain⟨a,b,_⟩:=h.2.1 i e y J R;exact⟨a,b⟩⟩
theorem Rl (Ζ:bE P T) (ψ:Holds S B σ H) {ty:TypeId} {ok:Bool} {mp k:ζ} {u v:Value} (hm:ah S B σ mp u) (Α:ah S B σ k v):cp P (Instr.lookup ty u v ok) S B H σ (A2 T ty ok σ mp k):=by
 unfold A2;split
 ·rename_i kt vt id tv;obtain⟨i,hi,hu⟩:=A1 tv;split
  ·rename_i es EV bA Rm;split
   ·rename_i mG;cases hm with
    | mp J R=>
     rename_i b N;rw[bA] at J;cases J;obtain⟨xs,clock,l6,gG⟩:=xT ψ bA R;have go:∀(r:Option (Nat×ζ)) (res:cO),gS T kt k es 0=some r->(∀(K:ζ->List Row->Prop),res.holds K->∃(x:ζ) (y:Value),True/\π P (do
       let (v,Rn) <-match kA xs.toList 0 r with
        | some (_,v)=>pure (v,true)
        | none=>do pure (<-zeroValue vt,false)
       pure (if ok then .tuple #[v,.bool Rn] else v)) H (hO S B H σ K) (λ_ _=>False))->cp P (Instr.lookup ty (.map (some b)) v ok) S B H σ res:=λr res ab eB K I=>by
      unfold Instr.lookup;refine π.bind' (Ζ.bl hi ?_);rw[hu];refine π.bind' ?_;refine⟨_,l6,rfl,?_⟩;refine π.bind' (π.pure' ?_);refine π.bind' (ES Ζ Α mG ?_);refine π.bind' (ET Ζ Α mG gG.vn ab ?_);obtain⟨_,_,_,h⟩:=eB K I;cases ω:kA xs.toList 0 r with
      | none=>rw[ω] at h;exact h
      | some p=>rw[ω] at h;exact h
     split
     ·rename_i cH a ab;refine go _ _ ab λK I=>⟨a,undef,trivial,?_⟩;obtain⟨_,Χ,he,_⟩:=A0 es 0 cH a ab;have ar:cH<xs.size:=by have:=(bU.1 he).1;rw[<-gG.1];simpa using this
      have ad:xs[cH]?=some xs[cH]:=eM ar;obtain⟨_,ι,_⟩:=gG.2.1 cH _ _ (by simpa using he) ad;have ω:kA xs.toList 0 (some (cH,a))=some (cH,xs[cH].val):=by simp[kA,ar]
      rw[ω];refine π.bind' (π.pure' (π.pure' ?_));cases ok with
      | true=>exact .same ψ I (va ι (.z _))
      | false=>exact .same ψ I ι
     ·rename_i ab;refine go _ _ ab λK I=>⟨.ca,undef,trivial,?_⟩;refine π.bind' (Ζ.zero Rm ?_);refine π.bind' (π.pure' (π.pure' ?_));cases ok with
      | true=>exact .same ψ I (va (ob _) (.z _))
      | false=>exact .same ψ I (ob _)
     ·exact .bad
    | ku v J=>rw[bA] at J;cases J
   ·exact .bad
  ·exact .bad
 ·exact .bad
def xU (T:aZ) (ty:TypeId) (σ:List Row) (mp k x:ζ):cO:=match tu T ty,mp with
 | some (kt,_),.mp id=>match σ[id]? with
  | some (.map es)=>if mF T kt k=true/\mH σ id=true then match gS T kt k es 0 with
   | some (some (i,_))=>.ok .ca (σ.set id (.map (es.set i (k,x))))
   | some none=>.ok .ca (σ.set id (.map (es++[(k,x)])))
   | none=>.bad else .bad
  | _=>.bad
 | _,_=>.bad
theorem EW (ψ:Holds S B σ H) {id b N:Nat} {es es':List (ζ×ζ)} {xs':Array MapEntry} {clock':Nat} (bA:σ[id]?=some (.map es)) (hb:B[id]?=some (some (b,N))) (jK:mH σ id=true) (dx:∀{B':aH} {σ':List Row},bQ S S B B' σ σ'->qB S B' σ' es' xs' clock') :
  Holds S (B.set id (some (b,N))) (σ.set id (.map es')) (H.bq b (.map xs' clock'))/\Ext S B H S (B.set id (some (b,N))) (H.bq b (.map xs' clock'))/\bQ S S B (B.set id (some (b,N))) σ (σ.set id (.map es')):=
 ψ.u7 bA trivial hb (.inl ⟨es',rfl,rfl⟩) (λΡ ey e=>.inl ⟨ey,e⟩) (λΡ J _=>by
  have bd:Ρ≠b:=λe=>by subst e;exact J N rfl
  exact⟨λo=>rfl,rfl,by simp[υ.bq,bd]⟩) υ.Eg (Rj jK) λΒ=>⟨b,N,xs',clock',rfl,by simp[υ.bq],dx Β⟩
theorem JF (Ζ:bE P T) (ψ:Holds S B σ H) {ty:TypeId} {mp k x:ζ} {u v w:Value} (hm:ah S B σ mp u) (Α:ah S B σ k v) (U:ah S B σ x w):vb P (Instr.mapUpdate ty u v w) S B H σ (xU T ty σ mp k x):=by
 unfold xU;split
 ·rename_i kt vt id tv;obtain⟨i,hi,hu⟩:=A1 tv;split
  ·rename_i es bA;split
   ·rename_i pw;obtain⟨mG,jK⟩:=pw;cases hm with
    | mp J R=>
     rename_i b N;rw[bA] at J;cases J;obtain⟨xs,clock,l6,gG⟩:=xT ψ bA R;split
     ·rename_i cH a ab;obtain⟨_,Χ,he,heq⟩:=A0 es 0 cH a ab;simp only[Nat.sub_zero] at he;have hP:cH<es.length:=(bU.1 he).1;have ar:cH<xs.size:=by rw[<-gG.1];exact hP
      have ad:xs[cH]?=some xs[cH]:=eM ar;obtain⟨Ro,aΧ,vo⟩:=gG.2.1 cH _ _ he ad;obtain⟨Δ,Ε,a3⟩:=Rc Ζ Α Ro heq;intro K I;unfold Instr.mapUpdate;refine π.bind' (Ζ.bl hi ?_);rw[hu];refine π.bind' ⟨_,l6,rfl,π.pure' ?_⟩;refine π.bind' (ES Ζ Α mG ?_);refine π.bind' (ET Ζ Α mG gG.vn ab ?_);have ω:kA xs.toList 0 (some (cH,a))=some (cH,xs[cH].val):=by simp[kA,ar]
      rw[ω];simp only[ad,Option.map_some,Option.getD_some];unfold Instr.keyThatStays;rw[<-Δ];simp only[a3,if_true];refine π.bind' (π.pure' ?_);obtain⟨dU,p2,p3⟩:=EW ψ (es':=es.set cH (k,x)) (xs':=xs.modify cH λe=>{e with key:=v,val:=w}) (clock':=clock) bA R jK λ{B' σ'} Β=>by
       refine⟨by simp[gG.1],λj e y Ξ aa=>?_,λj bp y z Ξ aa EX=>?_⟩
       ·rw[Array.getElem?_modify] at aa;by_cases k9:cH=j
        ·subst k9;rw[List.getElem?_set_self hP] at Ξ;rw[if_pos rfl,ad] at aa;cases Ξ;cases aa;exact⟨Α.later Β,U.later Β,vo⟩
        ·rw[List.getElem?_set_ne k9] at Ξ;rw[if_neg k9] at aa;obtain⟨c1,c2,c3⟩:=gG.2.1 j e y Ξ aa;exact⟨c1.later Β,c2.later Β,c3⟩
       ·have born:∀(j:Nat) (y:MapEntry),(xs.modify cH λe=>{e with key:=v,val:=w})[j]?=some y->∃A3,xs[j]?=some A3/\y.born=A3.born:=λj y g=>by
         rw[Array.getElem?_modify] at g;by_cases k9:cH=j
         ·subst k9;rw[if_pos rfl,ad] at g;cases g;exact⟨_,ad,rfl⟩
         ·rw[if_neg k9] at g;exact⟨y,g,rfl⟩
        obtain⟨A3,c1,c2⟩:=born j y Ξ;obtain⟨gR,c3,c4⟩:=born bp z aa;rw[c2,c4];exact gG.2.2 j bp A3 gR c1 c3 EX
      exact⟨⟨_,l6⟩,rfl,rfl,π.pure' ⟨S,_,_,_,I,p2,dU,p3,.ca _⟩⟩
     ·rename_i ab;intro K I;unfold Instr.mapUpdate;refine π.bind' (Ζ.bl hi ?_);rw[hu];refine π.bind' ⟨_,l6,rfl,π.pure' ?_⟩;refine π.bind' (ES Ζ Α mG ?_);refine π.bind' (ET Ζ Α mG gG.vn ab ?_);simp only[kA,Option.map_none];obtain⟨dU,p2,p3⟩:=EW ψ (es':=es++[(k,x)]) (xs':=xs.push {key:=v,val:=w,born:=clock}) (clock':=clock+1) bA R jK λ{B' σ'} Β=>by
       refine⟨by simp[gG.1],λj e y Ξ aa=>?_,λj bp y z Ξ aa EX=>?_⟩
       ·by_cases γ:j<es.length
        ·rw[dW γ] at Ξ;rw[Array.getElem?_push,if_neg (by rw[<-gG.1];omega)] at aa;obtain⟨c1,c2,c3⟩:=gG.2.1 j e y Ξ aa;exact⟨c1.later Β,c2.later Β,by omega⟩
        ·rw[ha (by omega)] at Ξ;have e4:j=es.length:=by
          have:=(bU.1 Ξ).1;simp at this;omega
         subst e4;rw[Array.getElem?_push,if_pos gG.1] at aa;simp at Ξ;subst Ξ;cases aa;exact⟨Α.later Β,U.later Β,Nat.lt_succ_self _⟩
       ·rw[Array.getElem?_push] at Ξ aa;split at Ξ
        ·rename_i Δ;split at aa
         ·omega
         ·have:=(Array.getElem?_eq_some_iff.1 aa).1;omega
        ·split at aa
         ·cases aa;have γ:=(Array.getElem?_eq_some_iff.1 Ξ).1;have he:∃e,es[j]?=some e:=⟨_,aX (by rw[gG.1];exact γ)⟩;obtain⟨e,he⟩:=he;exact(gG.2.1 j e y he Ξ).2.2
         ·exact gG.2.2 j bp y z Ξ aa EX
      exact⟨⟨_,l6⟩,rfl,rfl,π.pure' ⟨S,_,_,_,I,p2,dU,p3,.ca _⟩⟩
     ·exact .bad
    | ku v J=>rw[bA] at J;cases J
   ·exact .bad
  ·exact .bad
 ·exact .bad
end
section
variable {P:Program} {T:aZ} {S:al} {B:aH} {H:υ} {σ:List Row}
def A4 (T:aZ) (ty:TypeId) (σ:List Row) (mp:ζ):cO:=match tu T ty,mp with
 | some _,.mp id=>match σ[id]? with
  | some (.map es)=>.ok (.it σ.length) (σ++[.iter id es none])
  | _=>.bad
 | _,_=>.bad
theorem Rp (Ζ:bE P T) (ψ:Holds S B σ H) {ty:TypeId} {mp:ζ} {u:Value} (hm:ah S B σ mp u):cp P (Instr.range ty u) S B H σ (A4 T ty σ mp):=by
 unfold A4;split
 ·rename_i xV id tv;obtain⟨i,hi,hu⟩:=A1 (kt:=xV.1) (vt:=xV.2) tv;split
  ·rename_i es bA;cases hm with
   | mp J R=>
    rename_i b N;rw[bA] at J;cases J;obtain⟨xs,clock,l6,gG⟩:=xT ψ bA R;intro K I;unfold Instr.range;refine π.bind' (Ζ.bl hi ?_);rw[hu];refine π.bind' ?_;refine⟨_,l6,rfl,?_⟩;refine π.bind' (π.pure' ?_);refine π.bind' ?_;refine λr ι=>?_;have bd:b≠r:=λe=>by subst e;rw[ι.2.2.1] at l6;cases l6
    have bS:id<σ.length:=(bU.1 bA).1
    have cj:∀Ρ,(∀N,some (r,0)≠some (Ρ,N))->js H (H.bq r (.mapIter (some b) clock #[] clock)) Ρ:=λΡ hb=>by
     have bd:Ρ≠r:=λe=>by subst e;exact hb _ rfl
     exact⟨λo=>rfl,rfl,by simp[υ.bq,bd]⟩
    have xr:bQ S S B (B++[some (r,0)]) σ (σ++[.iter id es none])->iE S (B++[some (r,0)]) (σ++[.iter id es none]) (H.bq r (.mapIter (some b) clock #[] clock)) (.iter id es none) (some (r,0)):=λΒ=>by
     refine⟨r,0,b,N,xs,clock,#[],rfl,by rw[dW (by rw[ψ.len];exact bS)];exact R,⟨es,by rw[dW bS];exact bA⟩,by simp[υ.bq],by simp[υ.bq,bd,l6],⟨xs.toList,?_,by simpa using gG.1,λi e y Ξ aa=>?_⟩,λy ad=>?_,λe he=>by cases he⟩
     ·exact(List.filter_eq_self.2 λe _=>by simp).symm
     ·obtain⟨c1,c2⟩:=gG.vn.2 i e y Ξ aa;exact⟨c1.later Β,c2.later Β⟩
     ·obtain⟨j,γ,rfl⟩:=Array.getElem_of_mem ad;have he:∃e,es[j]?=some e:=⟨_,aX (by rw[gG.1];exact γ)⟩;obtain⟨e,he⟩:=he;exact(gG.2.1 j e _ he (eM γ)).2.2
    obtain⟨dU,p2,p3⟩:=ψ.push (λΡ ey e=>by cases e;exact ι) cj xr;exact π.pure' ⟨_,_,_,_,I,p2,dU,p3,.it (AP σ _) (AQ ψ.len _)⟩
   | ku v J=>rw[bA] at J;cases J
  ·exact .bad
 ·exact .bad
theorem Rq {α:Type} (f:α->Nat):∀(l:List α) (i:Nat) (e:α),(l.map f).Nodup->l[i]?=some e->l.filter (λx=>f x != f e)=l.eraseIdx i:=by
 intro l
 induction l with
 | nil=>intro i e _ h;simp at h
 | cons a l Γ=>
  intro i e Ι h;simp only[List.map_cons,List.nodup_cons] at Ι;cases i with
  | zero=>
   simp at h;subst h;rw[List.filter_cons];simp only[bne_self_eq_false,Bool.false_eq_true,if_false,List.eraseIdx_cons_zero];rw[List.filter_eq_self];intro x U;simp only[bne_iff_ne,ne_eq];intro e;exact Ι.1 (e▸List.mem_map_of_mem U)
  | succ i=>
   simp only[List.getElem?_cons_succ] at h;have bd:f a≠f e:=λx=>Ι.1 (x▸List.mem_map_of_mem (cf h));rw[List.filter_cons];simp only[bne_iff_ne,ne_eq,bd,not_false_eq_true,if_true,List.eraseIdx_cons_succ];rw[Γ i e Ι.2 h]
theorem Rr {es:List (ζ×ζ)} {xs:Array MapEntry} {clock:Nat} (h:qB S B σ es xs clock):(xs.toList.map (·.born)).Nodup:=by
 rw[List.Nodup,List.pairwise_map,List.pairwise_iff_getElem];intro i j hi γ ar;have:=h.2.2 i j _ _ (eM (by simpa using hi)) (eM (by simpa using γ)) ar;simp only[Array.getElem_toList];omega
def A5 (σ:List Row) (it:ζ):cO:=match it with
 | .it id=>match σ[id]? with
  | some (.iter m left _)=>if left.isEmpty=true then .ok (.bn [.z (.bool false)]) σ else
    .all left.length λi=>match left[i]? with
     | some e=>.ok (.bn [.z (.bool true),e.1,e.2]) (σ.set id (.iter m (left.eraseIdx i) (some e)))
     | none=>.bad
  | _=>.bad
 | _=>.bad
theorem Rs {a b c:ζ} {u v w:Value} (J:ah S B σ a u) (R:ah S B σ b v) (ς:ah S B σ c w):ah S B σ (.bn [a,b,c]) (.tuple #[u,v,w]):=by
 refine .bn _ rfl λi b6 eN Ξ aa=>?_
 match i with
 | 0=>simp at Ξ aa;subst Ξ;subst aa;exact J
 | 1=>simp at Ξ aa;subst Ξ;subst aa;exact R
 | 2=>simp at Ξ aa;subst Ξ;subst aa;exact ς
 | i+3=>simp at Ξ
theorem Rt (ψ:Holds S B σ H) {it:ζ} {u:Value} (ty:TypeId) (hi:ah S B σ it u):cp P (Instr.next u false ty) S B H σ (A5 σ it):=by
 unfold A5;split
 ·rename_i id;split
  ·rename_i m left cur bA;cases hi with
   | it J R=>
    rename_i Ej Ek bO b N;rw[bA] at J;cases J;obtain⟨Ρ,ey,aI,jN,xs,clock,seen,cw,qD,⟨es,xW⟩,qL,tw,⟨cb,EY,hlen,EZ⟩,vo,A6⟩:=ψ.row id _ _ bA R;cases cw;obtain⟨xs',clock',JG,gG⟩:=xT ψ xW qD;rw[tw] at JG;cases JG;have ju:=Rr gG;have bd:aI≠b:=λe=>by subst e;rw[qL] at tw;cases tw
    intro K I;have Ru:(xs.filter λe=>!seen.contains e.born).toList=cb:=by rw[EY];simp
    have gX:(!seen.isEmpty&&!xs.isEmpty&&xs.all (λe=>decide (e.born>=clock)))=false:=by
     cases U:xs.isEmpty with
     | true=>simp
     | false=>
      have og:0<xs.size:=by
       rw[Array.isEmpty_eq_false_iff] at U;exact Array.size_pos_iff.2 U
      have af:xs.all (λe=>decide (e.born>=clock))=false:=by
       rw[Array.all_eq_false];refine⟨0,og,?_⟩;have:=vo xs[0] (Array.getElem_mem og);simp;exact this
      rw[af];simp
    have Rv:∀z:Array MapEntry,z=xs.filter (λe=>!seen.contains e.born)->z.filter (λe=>decide (e.born<clock))=z/\z.filter (λe=>decide (e.born>=clock))=#[]:=λz Ν=>by
     have hb:∀e∈z,e.born<clock:=λe he=>by rw[Ν] at he;exact vo e (Array.mem_of_mem_filter he)
     constructor
     ·rw[Array.filter_eq_self];intro e he;simpa using hb e he
     ·rw[Array.filter_eq_empty_iff];intro e he;simpa using hb e he
    unfold Instr.next;refine π.bind' ?_;refine⟨_,qL,rfl,?_⟩;refine π.pure' ?_;simp only;refine π.bind' ?_;refine⟨_,tw,rfl,?_⟩;refine π.pure' ?_;simp only[gX,Bool.false_eq_true,if_false];generalize Ν:xs.filter (λe=>!seen.contains e.born)=z;obtain⟨f1,f2⟩:=Rv z Ν.symm;rw[f1,f2];have tx:z.toList=cb:=by rw[<-Ν];exact Ru
    by_cases A7:left.isEmpty=true
    ·have EK:left=[]:=List.isEmpty_iff.1 A7;subst EK;have Rw:z=#[]:=by
      have:cb=[]:=dk.1 (by rw[<-hlen];rfl);rw[this] at tx;exact Array.toList_eq_nil_iff.1 tx
     subst Rw;have cw:((if(#[]:Array MapEntry).isEmpty=true then #[none] else #[])++Array.map some (#[]++#[]:Array MapEntry))=#[none]:=by simp
     rw[cw];refine π.bind' ?_;show π P (choose (.mapNext 1)) H _ _;unfold choose;simp only[π,Question.forced,Nat.le_refl,decide_true,if_true];exact π.pure' (.same ψ I (.bn _ rfl λi a v Ξ aa=>by
      match i with
      | 0=>simp at Ξ aa;subst Ξ;subst aa;exact .z _
      | i+1=>simp at Ξ))
    ·rw[if_neg A7] at I;have pt:z.size=left.length:=by rw[hlen,<-tx];simp
     have Rx:z.isEmpty=false:=by
      rw[Array.isEmpty_eq_false_iff];intro e;rw[e] at pt;exact A7 (List.isEmpty_iff.2 (dk.1 pt.symm))
     simp only[Rx,Bool.false_eq_true,if_false,Array.append_empty,Array.empty_append];refine π.bind' ?_;have fin:∀i,i<left.length->π P (match (z.map some)[i]? with
       | some (some e)=>do
        setObj b (.mapIter (some aI) clock (seen.push e.born) clock)
        pure (.tuple #[.bool true,e.key,e.val])
       | some none=>pure (.tuple #[.bool false])
       | none=>stuck "Next: no such candidate") H (hO S B H σ K) (λ_ _=>False):=λi hP=>by
      have xX:∃om,z[i]?=some om:=⟨_,eM (by omega)⟩;obtain⟨om,xX⟩:=xX;have JH:cb[i]?=some om:=by rw[<-tx,Array.getElem?_toList];exact xX
      have hp:∃e,left[i]?=some e:=⟨_,aX hP⟩;obtain⟨le,hp⟩:=hp;rw[Array.getElem?_map,xX];simp only[Option.map_some];have JI:=I i hP;simp only[hp] at JI;obtain⟨r1,r2⟩:=EZ i _ _ hp JH;have jR:om∈xs:=by
       have:om∈z:=Array.mem_of_getElem? xX;rw[<-Ν] at this;exact Array.mem_of_mem_filter this
      have bS:id<σ.length:=(bU.1 bA).1
      have np:id<B.length:=by rw[ψ.len];exact bS
      have JJ:id≠m:=λe=>by subst e;rw[bA] at xW;cases xW
      obtain⟨dU,p2,p3⟩:=ψ.u7 (H':=H.bq b (.mapIter (some aI) clock (seen.push om.born) clock)) (r':=.iter m (left.eraseIdx i) (some le)) (bo':=some (b,N)) bA trivial R (.inl ⟨_,_,rfl,rfl⟩) (λΡ ey e=>.inl ⟨ey,e⟩) (λΡ Ξ _=>by
       have bd:Ρ≠b:=λe=>by subst e;exact Ξ N rfl
       exact⟨λo=>rfl,rfl,by simp[υ.bq,bd]⟩) υ.Eg (λj l c γ=>by
       obtain⟨bo,eC⟩:=I9 ψ γ;obtain⟨_,_,_,_,_,_,_,_,_,⟨mC,JK⟩,_⟩:=ψ.row j _ bo γ eC;rw[bA] at JK;cases JK) (λΒ=>by
       refine⟨b,N,aI,jN,xs,clock,seen.push om.born,rfl,by rw[List.getElem?_set_ne JJ];exact qD,⟨es,by rw[List.getElem?_set_ne JJ];exact xW⟩,by simp[υ.bq],by simp[υ.bq,bd,tw],⟨cb.eraseIdx i,?_,by rw[List.length_eraseIdx,List.length_eraseIdx,hlen],λj e y Ξ aa=>?_⟩,vo,λe he=>?_⟩
       ·have iW:(cb.map (·.born)).Nodup:=by
         rw[EY];exact ju.sublist (List.filter_sublist.map _)
        rw[<-Rq (·.born) cb i om iW JH,EY,List.filter_filter];apply List.filter_congr;intro e _;rw[Array.contains_push,Bool.not_or,Bool.and_comm];congr 1
       ·rw[List.getElem?_eraseIdx] at Ξ aa;split at Ξ
        ·rename_i ar;rw[if_pos ar] at aa;obtain⟨c1,c2⟩:=EZ j e y Ξ aa;exact⟨c1.later Β,c2.later Β⟩
        ·rename_i ar;rw[if_neg ar] at aa;obtain⟨c1,c2⟩:=EZ (j+1) e y Ξ aa;exact⟨c1.later Β,c2.later Β⟩
       ·cases he;refine⟨om.born,om,by simp,?_,r1.later Β,r2.later Β⟩;rw[<-Array.find?_toList];obtain⟨q,Ψ⟩:=List.getElem?_of_mem (show om∈xs.toList by simpa using jR);have key:∀(l:List MapEntry) (q:Nat) (e:MapEntry),(l.map (·.born)).Nodup->l[q]?=some e->l.find? (·.born==e.born)=some e:=by
         intro l
         induction l with
         | nil=>intro q e _ h;simp at h
         | cons a l Γ=>
          intro q e Ι h;simp only[List.map_cons,List.nodup_cons] at Ι;rw[List.find?_cons];cases q with
          | zero=>simp at h;subst h;simp
          | succ q=>
           simp only[List.getElem?_cons_succ] at h;have:(a.born==e.born)=false:=by
            simp only[beq_eq_false_iff_ne,ne_eq];intro x;exact Ι.1 (x▸List.mem_map_of_mem (cf h))
           rw[this];exact Γ q e Ι.2 h
        exact key xs.toList q _ ju Ψ)
      refine π.bind' ?_;refine⟨⟨_,qL⟩,rfl,rfl,?_⟩;refine π.pure' ?_;exact π.pure' ⟨S,_,_,_,JI,p2,dU,p3,Rs (.z _) (r1.later p3) (r2.later p3)⟩
     have b2:(z.map some).size=left.length:=by simp[pt]
     show π P (choose (.mapNext (z.map some).size)) H _ _;unfold choose;simp only[π];have og:0<left.length:=List.length_pos_iff.2 λe=>A7 (List.isEmpty_iff.2 e);split
     ·exact fin 0 og
     ·intro n;refine fin _ ?_;simp only[Question.cut,b2];exact Nat.mod_lt _ og
   | lY v J=>rw[bA] at J;cases J
  ·exact .bad
 ·exact .bad
def A8 (σ:List Row) (it:ζ):cO:=match it with
 | .it id=>match σ[id]? with
  | some (.iter _ _ (some e))=>.ok (.bn [e.1,e.2]) σ
  | _=>.bad
 | _=>.bad
theorem Ry (ψ:Holds S B σ H) {it:ζ} {u:Value} (hi:ah S B σ it u):cp P (Instr.entry u) S B H σ (A8 σ it):=by
 unfold A8;split
 ·rename_i id;split
  ·rename_i m left e bA;cases hi with
   | it J R=>
    rename_i Ej Ek bO b N;rw[bA] at J;cases J;obtain⟨Ρ,ey,aI,jN,xs,clock,seen,cw,qD,xW,qL,tw,_,vo,A6⟩:=ψ.row id _ _ bA R;cases cw;obtain⟨Em,y,Ξ,aa,aM,b9⟩:=A6 e rfl;intro K I;unfold Instr.entry;refine π.bind' ?_;refine⟨_,qL,rfl,?_⟩;refine π.pure' ?_;simp only[Ξ];refine π.bind' ?_;refine⟨_,tw,rfl,?_⟩;refine π.pure' ?_;simp only[bne_self_eq_false,Bool.false_eq_true,if_false,aa];exact π.pure' (.same ψ I (va aM b9))
   | lY v J=>rw[bA] at J;cases J
  ·exact .bad
 ·exact .bad
def A9 (T:aZ) (ty:TypeId) (σ:List Row) (x:ζ):cO:=match x with
 | .ms id n i len=>match T ty,σ[id]? with
  | some jL,some (.cells t k l)=>match jL.bl with
   | .slice e=>match T e with
    | some bL=>match bL.zero with
     | .int kd z=>if l.length=n/\k=1/\i+len<=n/\(∀a∈l,a.cells.length=1) then .ok .ca (σ.set id (.cells t k (l.take i++List.replicate len (.z (.int kd z))++l.drop (i+len)))) else .bad
     | _=>.bad
    | none=>.bad
   | _=>.bad
  | _,_=>.bad
 | _=>.bad
theorem Rz (Ζ:bE P T) (ψ:Holds S B σ H) {ty:TypeId} (rt:TypeId) {x:ζ} {u:Value} (hm:ah S B σ x u):cp P (Builtin.clear_ #[ty] rt #[u]) S B H σ (A9 T ty σ x):=by
 unfold A9;split
 ·rename_i id n i len;split
  ·rename_i jL t k l RA Β;split
   ·rename_i e hu;split
    ·rename_i bL ea;split
     ·rename_i kd z Ν;split
      ·rename_i η;obtain⟨Ι,rfl,aY,_⟩:=η;have bS:id<σ.length:=(bU.1 Β).1;have np:id<B.length:=by rw[ψ.len];exact bS
       intro K I;have same:len=0->hO S B H σ K (.tuple #[]) H:=λcw=>by
        subst cw;have rS:σ.set id (.cells t 1 (l.take i++List.replicate 0 (.z (.int kd z))++l.drop (i+0)))=σ:=by
         rw[List.replicate_zero,List.append_nil,Nat.add_zero,List.take_append_drop];apply List.ext_getElem?;intro j;by_cases k9:id=j
         ·subst k9;rw[List.getElem?_set_self bS,Β]
         ·rw[List.getElem?_set_ne k9]
        simp only[cO.holds] at I;rw[rS] at I;exact⟨S,B,σ,_,I,.refl _ _ _,ψ,.refl _ _ _,.ca _⟩
       cases hm with
       | h8 v J R=>rw[Β] at J;cases J;simp only[Row.gn] at R;omega
       | ms cap J R ς Κ aF aV=>
        rename_i bo base;rw[Β] at J;cases J;unfold Builtin.clear_;refine π.bind' (Ζ.bl RA ?_);rw[hu];cases base with
        | none=>
         refine π.bind' (π.pure' ?_);have cw:len=0:=by
          rcases aV with aV|⟨b,N,_,hb,_⟩
          ·omega
          ·cases hb
         exact π.pure' (same cw)
        | some a=>
         by_cases cw:len=0
         ·subst cw;refine π.bind' (π.pure' ?_);exact π.pure' (same rfl)
         ·rcases aV with aV|⟨b,N,rfl,hb,aV⟩
          ·omega
          ·cases hb;obtain⟨bA,b8,fp,w,hw⟩:=ψ.row id _ _ Β ς;obtain⟨m,rfl⟩:∃m,len=m+1:=⟨len-1,by omega⟩;simp only;refine π.bind' (Ζ.zero ea ?_);rw[Ν];have RB:(Builtin.zeroCells (Value.int kd z).cells (m+1)).toList=List.replicate (m+1) (.int kd z):=by
            simp only[Builtin.zeroCells,Value.cells];rw[Array.toList_map,Array.toList_range];refine List.ext_getElem? λj=>?_;rw[List.getElem?_map,List.getElem?_replicate];by_cases γ:j<m+1
            ·rw[List.getElem?_range (by simpa using γ),if_pos γ];simp[Nat.mod_one]
            ·rw[List.getElem?_eq_none (by simp;omega),if_neg γ];rfl
           rw[RB];have hr:∀(y:Nat) (c:ζ),(l.take i++List.replicate (m+1) (ζ.z (.int kd z))++l.drop (i+(m+1)))[y]?=some c->(i<=y/\y<i+(m+1)/\c=.z (.int kd z))\/((y<i\/i+(m+1)<=y)/\l[y]?=some c):=λy c ad=>by
            by_cases c1:y<i
            ·rw[List.append_assoc,dW (by simp;omega),List.getElem?_take_of_lt c1] at ad;exact .inr ⟨.inl c1,ad⟩
            ·by_cases c2:y<i+(m+1)
             ·rw[dW (by simp;omega),ha (by simp;omega),List.getElem?_replicate] at ad;split at ad
              ·cases ad;exact .inl ⟨by omega,c2,rfl⟩
              ·cases ad
             ·rw[ha (by simp;omega),List.getElem?_drop] at ad;have Δ:i+(m+1)+(y-(l.take i++List.replicate (m+1) (ζ.z (.int kd z))).length)=y:=by simp;omega
              rw[Δ] at ad;exact .inr ⟨.inr (by omega),ad⟩
           obtain⟨dU,p2,p3⟩:=ψ.u7 (H':=H.gD b i (List.replicate (m+1) (.int kd z))) (r':=.cells t 1 (l.take i++List.replicate (m+1) (.z (.int kd z))++l.drop (i+(m+1)))) (bo':=some (b,N)) Β trivial ς (.inl ⟨_,rfl,by simp;omega,rfl⟩) (λΡ ey aA=>.inl ⟨ey,aA⟩)
            (λΡ J _=>by
             have bd:Ρ≠b:=λaA=>by subst aA;exact J N rfl
             exact⟨λo=>by simp[υ.gD,bd],rfl,rfl⟩) υ.Eo (Az ψ Β) (λjG=>by
             refine⟨bA,by simp;omega,λo ω=>?_,λy j=>if i<=y/\y<i+(m+1) then .int kd z else w y j,λy c ad=>?_⟩
             ·simp only[υ.gD];split
              ·exact⟨_,rfl⟩
              ·exact fp o ω
             ·rcases hr y c ad with⟨c1,c2,rfl⟩|⟨c1,s3⟩
              ·refine⟨rfl,λj a γ=>?_⟩;have e4:j=0:=by have:=(bU.1 γ).1;simp[ζ.cells] at this;omega
               subst e4;simp[ζ.cells] at γ;subst γ;simp only[c1,c2,and_self,if_true];refine⟨?_,.z _,trivial⟩;simp only[υ.gD,List.length_replicate];rw[if_pos ⟨trivial,by omega,by omega⟩,List.getElem?_replicate,if_pos (by omega)];rfl
              ·refine⟨(hw y c s3).1,λj a γ=>?_⟩;obtain⟨Ξ,aa,aM⟩:=(hw y c s3).2 j a γ;have e4:j=0:=by have:=(bU.1 γ).1;rw[(hw y c s3).1] at this;omega
               subst e4;have RD:¬(i<=y/\y<i+(m+1)):=by omega
               simp only[RD,if_false];refine⟨?_,aa.later jG,aM⟩;simp only[υ.gD,List.length_replicate];rw[if_neg (by omega)];exact Ξ)
           have κ:(⟨b,i*1,none⟩:Addr)=⟨b,i,none⟩:=by rw[Nat.mul_one]
           rw[κ];refine π.bind' ?_;refine π.storeCells (G:=H) rfl ⟨t,N,bA⟩ _ 0 H (λv hv=>by rw[List.eq_of_mem_replicate hv];trivial) (λj _ γ=>?_) rfl ?_
           ·rw[List.length_replicate] at γ;obtain⟨xY,ts⟩:=fp (i+j) (by omega);exact⟨xY,ts⟩
           ·exact π.pure' ⟨S,_,_,_,I,p2,dU,p3,.ca _⟩
      ·exact .bad
     ·exact .bad
    ·exact .bad
   ·exact .bad
  ·exact .bad
 ·exact .bad
def A' (T:aZ) (ty:TypeId) (σ:List Row) (mp:ζ):cO:=match tu T ty,mp with
 | some _,.mp id=>match σ[id]? with
  | some (.map _)=>if mH σ id=true then .ok .ca (σ.set id (.map [])) else .bad
  | _=>.bad
 | _,_=>A9 T ty σ mp
theorem RE (Ζ:bE P T) (ψ:Holds S B σ H) {ty:TypeId} (rt:TypeId) {mp:ζ} {u:Value} (hm:ah S B σ mp u):cp P (Builtin.clear_ #[ty] rt #[u]) S B H σ (A' T ty σ mp):=by
 unfold A';split
 ·rename_i xV id tv;obtain⟨i,hi,hu⟩:=A1 (kt:=xV.1) (vt:=xV.2) tv;split
  ·rename_i es bA;split
   ·rename_i jK;cases hm with
    | mp J R=>
     rename_i b N;rw[bA] at J;cases J;obtain⟨xs,clock,l6,gG⟩:=xT ψ bA R;obtain⟨dU,p2,p3⟩:=EW ψ (es':=[]) (xs':=#[]) (clock':=clock) bA R jK λ_=>⟨rfl,λi e y J=>by simp at J,λi j y z J=>by simp at J⟩;intro K I;unfold Builtin.clear_;refine π.bind' (Ζ.bl hi ?_);rw[hu];refine π.bind' ?_;refine⟨_,l6,rfl,?_⟩;refine π.pure' ?_;refine⟨⟨_,l6⟩,rfl,rfl,?_⟩;exact π.pure' ⟨S,_,_,_,I,p2,dU,p3,.ca _⟩
    | ku v J=>rw[bA] at J;cases J
   ·exact .bad
  ·exact .bad
 ·exact Rz Ζ ψ rt hm
end
def tz (T:aZ) (op:BinOp) (ty:TypeId) (a b:ζ):cd:=match aeqv T ty a b with
 | some r=>match op with
  | .eql=>.ok (.z (.bool r))
  | .neq=>.ok (.z (.bool !r))
  | _=>.bad
 | none=>.bad
def Ba (T:aZ) (op:BinOp) (ty:TypeId) (a b:ζ):cd:=match a,b with
 | .z x,.z y=>match qF op x y with
  | .ok v=>.ok v
  | .bT p r=>.bT p r
  | .bad=>tz T op ty (.z x) (.z y)
 | .aR x,.aR y=>tz T op ty (.aR x) (.aR y)
 | _,_=>.bad
def Bb (T:aZ) (ty:TypeId) (x cH:ζ):cd:=match T ty with
 | some i=>match i.bl,x,cH with
  | .string,.z (.string s),.z (.int _ n)=>.bT (0<=n/\n<s.size) (.ok (.z (.int .u8 (s.data.toList.getD n.toNat 0).toNat)))
  | .array len e,.aR xs,.z (.int _ n)=>match T e with
   | some bL=>if bL.agg=false/\bL.size=1/\xs.length=len then .bT (0<=n/\n<len) (.ok (xs.getD n.toNat .ca)) else .bad
   | none=>.bad
  | _,_,_=>.bad
 | none=>.bad
def Bc (x:ζ):cd:=match x with
 | .Ω c=>.ok (.Ω c)
 | .fn (.func f) a b=>.ok (.fn (.func f) a b)
 | .z (.pointer (some a))=>.ok (.z (.pointer (some a)))
 | _=>.bad
def tA (σ:List Row) (x:ζ):cO:=match x with
 | .ae id n i j=>match σ[id]? with
  | some (.cells _ _ l)=>if l.length=n then .ok (.ae id n i j) σ else .bad
  | _=>.bad
 | _=>.bad
def Bd (T:aZ) (arr:TypeId) (x:ζ):cd:=match T arr with
 | some i=>match i.bl,x with
  | .array n _,.sl _ k l=>if 0<n/\k=1/\(l.all λe=>decide (e.cells.length=1)&&ζ.aU [] e)=true then .bT (n<=l.length) (.ok (.Ω (l.take n))) else .bad
  | _,_=>.bad
 | none=>.bad
def qM:List ζ->Option (List Int)
 | []=>some []
 | .z (.int .i32 n)::r=>(qM r).map (n::·)
 | _=>none
def spell (l:List Int):ByteArray:=l.foldl (λs n=>s++Utf8.encode n) .empty
def xZ (T:aZ) (ty:TypeId):Bool:=match T ty with
 | some i=>match i.bl with
  | .slice e=>match T e with|some bL=>(match bL.bl with|.int .i32=>true|_=>false)&&bL.size==1|none=>false
  | _=>false
 | none=>false
def x0 (T:aZ) (ty:TypeId):Bool:=match T ty with|some i=>(match i.bl with|.string=>true|_=>false)|none=>false
def rV (T:aZ) (src dst:TypeId) (σ:List Row) (x:ζ):cd:=if xZ T src=true/\x0 T dst=true then match oe σ x with
 | some (k,l)=>if k=1\/l.isEmpty=true then match qM l with|some r=>.ok (.z (.string (spell r)))|none=>.bad else .bad
 | none=>.bad else .bad
def Be (T:aZ) (src dst:TypeId) (x:ζ):cd:=if x0 T src=true/\xZ T dst=true then match x with
 | .z (.string s)=>.ok (.sl false 1 ((Conv.runesFrom s s.size 0 #[]).toList.map .z))
 | _=>.bad else .bad
section
variable {P:Program} {T:aZ} {S:al} {B:aH} {H:υ} {σ:List Row}
theorem RF {op:BinOp} {ty:TypeId} {p q:Operand} {vs ws:Array Value} (Ο:P.eqGuardType P.depth ty=false) {G:υ} {K:Unit->υ->Prop} {E:Value->υ->Prop} (Α:K () G):π P (eqGuard op ty p q (.agg vs) (.agg ws)) G K E:=by
 cases op<;>first|exact π.pure' Α|skip
 all_goals
  unfold eqGuard;simp only[Bool.not_true,Bool.false_eq_true,if_false];refine π.bind' ?_;show π P _ G K E;refine π.bind' ?_;show π P _ G K E;rw[if_pos (by rw[Ο];rfl)];exact π.pure' Α
theorem JL (Ζ:bE P T) (ψ:Holds S B σ H) {op:BinOp} {ty:TypeId} {p q:Operand} {a b:ζ} {v w:Value} (κ:ah S B σ a v) (hb:ah S B σ b w) (JM:∀r,aeqv T ty a b=some r->(op=.eql\/op=.neq)->∀(K:Unit->υ->Prop),K () H->π P (eqGuard op ty p q v w) H K (λ_ _=>False))
  (RG:∀r,aeqv T ty a b=some r->(binOp .eql ty v w=(do pure (.bool (<-Op.equal ty v w)))/\binOp .neq ty v w=(do pure (.bool (!(<-Op.equal ty v w)))))) :
  cp P (do eqGuard op ty p q v w;binOp op ty v w) S B H σ ((tz T op ty a b).dd σ):=by
 unfold tz;split
 ·rename_i r ι;obtain⟨J,R⟩:=RG r ι;split
  ·intro K I;refine π.bind' (JM r ι (.inl rfl) _ ?_);rw[J];exact π.bind' (ER Ζ κ hb ι (π.pure' (.same ψ I (.z _))))
  ·intro K I;refine π.bind' (JM r ι (.inr rfl) _ ?_);rw[R];exact π.bind' (ER Ζ κ hb ι (π.pure' (.same ψ I (.z _))))
  ·exact .bad
 ·exact .bad
theorem RH (Ζ:bE P T) (ψ:Holds S B σ H) (op:BinOp) (ty:TypeId) (p q:Operand) {a b:ζ} {v w:Value} (κ:ah S B σ a v) (hb:ah S B σ b w):cp P (do eqGuard op ty p q v w;binOp op ty v w) S B H σ ((Ba T op ty a b).dd σ):=by
 unfold Ba;split
 ·rename_i x y;have Ν:=Qp (P:=P) ψ op ty p q v w;cases κ;cases hb;split
  ·rename_i r ι;rw[ι] at Ν;exact Ν
  ·rename_i pp r ι;rw[ι] at Ν;exact Ν
  ·rename_i vp;have g0:∀r,aeqv T ty (.z v) (.z w)=some r->(∃c d,v=.bool c/\w=.bool d)\/¬(op=.eql\/op=.neq):=λr ι=>by
    unfold aeqv at ι;split at ι<;>try cases ι
    simp only at ι;split at ι<;>try cases ι
    unfold lf at ι;split at ι
    ·split at ι
     ·rename_i e;subst e;refine .inr λω=>?_;rcases ω with rfl|rfl<;>simp[qF] at vp
     ·cases ι
    ·refine .inr λω=>?_;rcases ω with rfl|rfl<;>simp[qF] at vp
    ·exact .inl ⟨_,_,rfl,rfl⟩
    ·cases ι
   by_cases Θ:op=.eql\/op=.neq
   ·by_cases ι:∃r,aeqv T ty (.z v) (.z w)=some r
    ·obtain⟨r,ι⟩:=ι;rcases g0 r ι with⟨c,d,rfl,rfl⟩|h
     ·exact JL Ζ ψ (.z _) (.z _) (λ_ _ _ K I=>by unfold eqGuard;split<;>exact π.pure' I) (λ_ _=>⟨rfl,rfl⟩)
     ·exact absurd Θ h
    ·have:aeqv T ty (.z v) (.z w)=none:=by
      cases h:aeqv T ty (.z v) (.z w) with
      | none=>rfl
      | some r=>exact absurd ⟨r,h⟩ ι
     unfold tz;rw[this];exact .bad
   ·unfold tz;split
    ·split
     ·exact absurd (.inl rfl) Θ
     ·exact absurd (.inr rfl) Θ
     ·exact .bad
    ·exact .bad
 ·rename_i x y;cases κ with
  | aR vs Ξ aa=>cases hb with
   | aR ws k1 cB=>
    refine JL Ζ ψ (.aR vs Ξ aa) (.aR ws k1 cB) (λr ι _ K I=>?_) (λ_ _=>⟨rfl,rfl⟩);have Ο:P.eqGuardType P.depth ty=false:=by
     unfold aeqv at ι;split at ι<;>try cases ι
     rename_i i hi;simp only at ι;split at ι<;>try cases ι
     rename_i items c9;have:=(Ζ ty i hi).1.2;rw[c9] at this;exact this.1
    exact RF Ο I
 ·exact .bad
theorem RI (Ζ:bE P T) (ψ:Holds S B σ H) (ty:TypeId) {x cH:ζ} {v w:Value} (U:ah S B σ x v) (hi:ah S B σ cH w):cp P (Instr.index ty v w) S B H σ ((Bb T ty x cH).dd σ):=by
 unfold Bb;cases Η:T ty with
 | none=>exact .bad
 | some i=>
  simp only;split
  ·rename_i s kk n hu;cases U;cases hi;refine cp.bT (r:=(cd.ok (.z (.int .u8 (s.data.toList.getD n.toNat 0).toNat))).dd σ) λΙ K I=>?_;unfold Instr.index;refine π.bind' (π.pure' ?_);refine π.bind' (Ζ.bl Η ?_);rw[hu];have ar:n.toNat<s.data.size:=by have:s.size=s.data.size:=rfl;omega
   have Δ:(if 0<=n then s[n.toNat]? else none)=some s.data[n.toNat]:=by
    rw[if_pos Ι.1];show s[n.toNat]?=_;rw[getElem?_pos s n.toNat (by omega)];rfl
   simp only[Δ];have Ε:s.data.toList.getD n.toNat 0=s.data[n.toNat]:=by rw[List.getD_eq_getElem?_getD,Array.getElem?_toList,eM ar];rfl
   rw[Ε] at I;exact π.pure' (.same ψ I (.z _))
  ·rename_i len e xs kk n hu;cases hi;split
   ·rename_i bL ea;split
    ·rename_i η;obtain⟨c1,c2,c3⟩:=η;refine cp.bT (r:=(cd.ok (xs.getD n.toNat .ca)).dd σ) λΙ K I=>?_;cases U with
     | aR vs Ξ aa=>
      unfold Instr.index;refine π.bind' (π.pure' ?_);refine π.bind' (Ζ.bl Η ?_);rw[hu];simp only[Ι,and_self,if_true];refine π.bind' (Ζ.size ea ?_);rw[c2,Nat.mul_one];unfold part;refine π.bind' (Ζ.agg ea ?_);rw[c1];have ar:n.toNat<xs.length:=by omega
      have hv:n.toNat<vs.size:=by rw[<-Ξ];exact ar
      simp only[Bool.false_eq_true,if_false,eM hv];have Ε:xs.getD n.toNat .ca=xs[n.toNat]:=by simp[ar]
      rw[Ε] at I;exact π.pure' (.same ψ I (aa _ _ _ (aX ar) (eM hv)))
    ·exact .bad
   ·exact .bad
  ·exact .bad
theorem RJ (ψ:Holds S B σ H) {ρ:Operand->Value} {o:Oper} {x:Operand} (ω:o.op=.nilCheck x) {a:ζ} (κ:ah S B σ a (ρ x)):Does P (execOp ρ o) S B H σ ((Bc a).dd σ):=by
 unfold Bc;split
 ·unfold execOp;rw[ω];simp only;generalize ρ x=v at κ;cases κ with
  | Ω b o w J R=>exact Does.val ψ (.Ω b o w J R)
 ·unfold execOp;rw[ω];simp only;generalize ρ x=v at κ;cases κ with
  | fn vs ws J R ς Κ=>exact Does.val ψ (.fn vs ws J R ς Κ)
 ·unfold execOp;rw[ω];simp only;generalize ρ x=v at κ;cases κ;exact Does.val ψ (.z _)
 ·exact .bad
theorem RK (ψ:Holds S B σ H) {ρ:Operand->Value} {o:Oper} {x:Operand} (ω:o.op=.nilCheck x) {a:ζ} (κ:ah S B σ a (ρ x)):Does P (execOp ρ o) S B H σ (tA σ a):=by
 unfold tA;split
 ·split
  ·rename_i t k l Β;split
   ·rename_i Ι;unfold execOp;rw[ω];simp only;generalize ρ x=v at κ;cases κ with
    | ae J R ς=>exact Does.val ψ (.ae J R ς)
    | iD v J R=>rw[Β] at J;cases J;simp only[Row.gn] at R;omega
   ·exact .bad
  ·exact .bad
 ·exact .bad
theorem RL (Ζ:bE P T) (ψ:Holds S B σ H) (arr:TypeId) {x:ζ} {v:Value} (U:ah S B σ x v):cp P (Instr.arrayAt arr v) S B H σ ((Bd T arr x).dd σ):=by
 unfold Bd;cases Η:T arr with
 | none=>exact .bad
 | some i=>
  simp only;split
  ·rename_i n e ex k l hu;split
   ·rename_i η;obtain⟨c1,c2,c3⟩:=η;subst c2;refine cp.bT (r:=(cd.ok (.Ω (l.take n))).dd σ) λΙ K I=>?_;obtain⟨base,cap,rfl,_,_,ς⟩:=pq U;obtain⟨b,o,w,rfl,Κ,aF,aV⟩:=ς (λe=>by subst e;simp at Ι;omega);unfold Instr.arrayAt;refine π.bind' (Ζ.bl Η ?_);rw[hu];simp only;rw[if_neg (by omega)];rw[List.all_eq_true] at c3;have el:∀(j:Nat) (e:ζ),(l.take n)[j]?=some e->l[j]?=some e/\e.cells=[e]:=λj e γ=>by
     have hm:=c3 e (List.mem_of_mem_take (cf γ));simp only[Bool.and_eq_true] at hm;rw[List.getElem?_take] at γ;split at γ
     ·exact⟨γ,ζ.Eu hm.2⟩
     ·cases γ
    refine π.pure' (.same ψ I (.Ω b o (λj=>w j 0) (λj a γ=>?_) (λj a γ=>?_)))
    ·obtain⟨Ξ,aa⟩:=el j a γ;have:=aF j a Ξ 0 a (by rw[aa];rfl);simpa using this
    ·obtain⟨Ξ,aa⟩:=el j a γ;exact aV j a Ξ 0 a (by rw[aa];rfl)
   ·exact .bad
  ·exact .bad
theorem JN {ty:TypeId} (h:xZ T ty=true):∃i e bL,T ty=some i/\i.bl=.slice e/\T e=some bL/\bL.bl=.int .i32/\bL.size=1:=by
 unfold xZ at h;split at h
 ·rename_i i hi;split at h
  ·rename_i e hu;split at h
   ·rename_i bL ea;simp only[Bool.and_eq_true,beq_iff_eq] at h;refine⟨i,e,bL,hi,hu,ea,?_,h.2⟩;have:=h.1;split at this
    ·assumption
    ·cases this
   ·cases h
  ·cases h
 ·cases h
theorem JO {ty:TypeId} (h:x0 T ty=true):∃i,T ty=some i/\i.bl=.string:=by
 unfold x0 at h;split at h
 ·rename_i i hi;refine⟨i,hi,?_⟩;split at h
  ·assumption
  ·cases h
 ·cases h
theorem RN (Ζ:bE P T) (ψ:Holds S B σ H) (src dst:TypeId) {x:ζ} {v:Value} (U:ah S B σ x v):cp P (convert src dst v) S B H σ ((Be T src dst x).dd σ):=by
 unfold Be;split
 ·rename_i η;obtain⟨i,hi,hu⟩:=JO η.1;obtain⟨j,e,bL,γ,E0,ea,E1,b2⟩:=JN η.2;split
  ·rename_i s;cases U;intro K I;unfold convert;refine π.bind' (Ζ.bl hi (π.bind' (Ζ.bl γ ?_)));rw[hu,E0];simp only;refine π.bind' (Ζ.bl ea ?_);rw[E1];simp only;unfold Conv.stringToRunes;refine π.bind' ?_;unfold choose;simp only[π];have Ψ:(Question.appendCap (Conv.runesFrom s s.size 0 #[]).size 0 e).forced=false:=rfl;rw[Ψ];simp only[Bool.false_eq_true,if_false];intro q;generalize E2:Conv.runesFrom s s.size 0 #[]=ky at I ⊢;have vd:ky.size<=(Question.appendCap ky.size 0 e).cut q:=by simp[Question.cut]
   refine π.bind' (π.bind' ?_);have RO:∀v∈ky,One v:=by
    have key:∀(bound i:Nat) (acc:Array Value),(∀v∈acc,One v)->∀v∈Conv.runesFrom s bound i acc,One v:=by
     intro bound
     induction bound with
     | zero=>intro i acc h;exact h
     | succ n Γ=>
      intro i acc h;unfold Conv.runesFrom;split
      ·refine Γ _ _ λv hv=>?_;rcases Array.mem_push.1 hv with hv|rfl
       ·exact h v hv
       ·trivial
      ·exact h
    rw[<-E2];exact key _ _ _ (λv hv=>by simp at hv)
   have xQ:fg S B σ (ky++Array.replicate ((Question.appendCap ky.size 0 e).cut q-ky.size) (.int .i32 0)) 1 (ky.toList.map .z):=by
    refine⟨by simp,λj a γ=>?_⟩;rw[List.getElem?_map,Array.getElem?_toList] at γ;cases U:ky[j]? with
    | none=>rw[U] at γ;cases γ
    | some y=>
     rw[U] at γ;cases γ;refine⟨rfl,λz b Ν=>?_⟩
     match z with
     | 0=>
      simp[ζ.cells] at Ν;subst Ν;refine⟨y,?_,.z y,RO y (Array.mem_of_getElem? U)⟩;have:=(Array.getElem?_eq_some_iff.1 U).1;rw[Array.getElem?_append_left (by simpa using this)];simpa using U
     | z+1=>simp[ζ.cells] at Ν
   refine xK ψ _ e λr J R ς=>π.pure' (π.pure' ⟨_,_,_,_,I,R,J,ς,?_⟩);have:=AD (cap:=(Question.appendCap ky.size 0 e).cut q) false ς xQ (by simpa using vd) (by simp);simpa using this
  ·exact .bad
 ·exact .bad
theorem RP:∀(l:List ζ) (r:List Int),qM l=some r->r.length=l.length/\∀(i:Nat) (n:Int),r[i]?=some n->l[i]?=some (.z (.int .i32 n)):=by
 intro l
 induction l with
 | nil=>intro r h;cases h;exact⟨rfl,λi n h=>by simp at h⟩
 | cons a l Γ=>
  intro r h;unfold qM at h;split at h
  ·rename_i heq;cases heq
  ·rename_i n dH heq;cases heq;cases Β:qM l with
   | none=>rw[Β] at h;cases h
   | some r'=>
    rw[Β] at h;cases h;obtain⟨J,R⟩:=Γ r' Β;refine⟨by simp[J],λi m hm=>?_⟩;cases i with
    | zero=>simp at hm;subst hm;rfl
    | succ i=>exact R i m (by simpa using hm)
  ·cases h
theorem RQ (Ζ:bE P T) (ψ:Holds S B σ H) (src dst:TypeId) {x:ζ} {v:Value} (U:ah S B σ x v):cp P (convert src dst v) S B H σ ((rV T src dst σ x).dd σ):=by
 unfold rV;split
 ·rename_i η;obtain⟨i,e,bL,hi,hu,ea,E1,b2⟩:=JN η.1;obtain⟨j,γ,E0⟩:=JO η.2;split
  ·rename_i k l Β;split
   ·rename_i Α;split
    ·rename_i r ι;obtain⟨base,cap,w,rfl,_,E3,E2⟩:=AN ψ U (k:=1) Β (by omega) (Α.symm);obtain⟨zR,RR⟩:=RP l r ι;intro K I;unfold convert;refine π.bind' (Ζ.bl hi (π.bind' (Ζ.bl γ ?_)));rw[hu,E0];have hw:∀i,i<l.length->w i=.int .i32 (r.getD i 0):=λi hP=>by
      have JP:r[i]?=some r[i]:=aX (by omega)
      have:=(E2 i _ (RR i _ JP)).2 0 _ rfl;rw[Nat.mul_one,Nat.add_zero] at this;rw[List.getD_eq_getElem?_getD,JP];generalize w i=u at this;cases this;rfl
     have go:π P (Conv.runesToString (.slice base l.length cap)) H (hO S B H σ K) (λ_ _=>False):=by
      unfold Conv.runesToString;rw[Nat.mul_one] at E3;cases base with
      | none=>
       simp only;rcases E3 with af|⟨b,o,hb,_⟩
       ·have:r=[]:=dk.1 (by rw[zR,af]);subst this;exact π.pure' (.same ψ I (.z _))
       ·cases hb
      | some a=>
       simp only;have fold:∀(rs:List Int) (acc:ByteArray),π P (forIn (rs.map λn=>Value.int .i32 n) acc λ(c:Value) (s:ByteArray)=>do
         let .int .i32 n:=c|stuck "runesToString: rune expected"
         pure (ForInStep.yield (s++Utf8.encode n))) H (λs H'=>s=rs.foldl (λs n=>s++Utf8.encode n) acc/\H'=H) (λ_ _=>False):=by
        intro rs
        induction rs with
        | nil=>intro acc;exact .forIn_nil ⟨rfl,rfl⟩
        | cons n rs Γ=>
         intro acc;rw[List.map_cons];refine .forIn_cons ?_;exact π.pure' (Γ (acc++Utf8.encode n))
       have cells:π P (loadCells a l.length) H (λvs H'=>vs=(r.map λn=>Value.int .i32 n).toArray/\H'=H) (λ_ _=>False):=by
        rcases E3 with af|⟨b,o,hb,EL⟩
        ·rw[af];have:r=[]:=dk.1 (by rw[zR,af]);subst this;exact π.pure' ⟨rfl,rfl⟩
        ·cases hb;refine π.loadCells w rfl EL ⟨?_,rfl⟩;congr 1;apply List.ext_getElem?;intro i;rw[List.getElem?_map,List.getElem?_map];by_cases hP:i<l.length
         ·rw[List.getElem?_range hP,aX (show i<r.length by omega)];simp only[Option.map_some];rw[hw i hP,List.getD_eq_getElem?_getD,aX (show i<r.length by omega)];rfl
         ·rw[List.getElem?_eq_none (by simp;omega),List.getElem?_eq_none (by omega)];rfl
       refine π.bind' (π.mono (λvs H' ⟨Δ,Ε⟩=>?_) (λ_ _ h=>h) _ cells);subst Δ;subst Ε;rw[<-Array.forIn_toList];refine π.bind' (π.mono (λs H' ⟨Δ,Ε⟩=>?_) (λ_ _ h=>h) _ (fold r .empty));subst Δ;subst Ε;exact π.pure' (.same ψ I (.z _))
     have:π P (do
      match <-underlying e with
      | .int .u8=>Conv.bytesToString (.slice base l.length cap)
      | .int .i32=>Conv.runesToString (.slice base l.length cap)
      | _=>stuck "Convert: a slice of what to string?") H (hO S B H σ K) (λ_ _=>False):=by
      refine π.bind' (Ζ.bl ea ?_);rw[E1];exact go
     cases base<;>exact this
    ·exact .bad
   ·exact .bad
  ·exact .bad
 ·exact .bad
end
def Bf (σ:List Row):cO:=.all 2 λj=>.ok (.z (.bool (j==1))) σ
def Bg (T:aZ) (ty:TypeId) (σ:List Row) (a:ζ):cO:=match T ty with
 | some i=>match i.bl with
  | .slice _=>match a with
   | .ms id n i len=>match σ[id]? with
    | some (.cells _ _ l)=>if l.length=n/\i+len<=n then(if len=0 then Bf σ else .ok (.z (.bool false)) σ) else .bad
    | _=>.bad
   | .sl _ _ l=>if l.isEmpty then Bf σ else .ok (.z (.bool false)) σ
   | _=>.bad
  | _=>.bad
 | none=>.bad
section
variable {P:Program} {T:aZ} {S:al} {B:aH} {H:υ} {σ:List Row}
theorem x1 (Ζ:bE P T) (ψ:Holds S B σ H) {ty:TypeId} {i:hq} (hi:T ty=some i) {e:TypeId} (hu:i.bl=.slice e) (p q:Operand) (base:Option Addr) (len cap:Nat) {dd:cO}
  (RS:∀K,dd.holds K->K (.z (.bool base.isNone)) σ):cp P (do eqGuard .eql ty p q (.slice base len cap) (.slice none 0 0);binOp .eql ty (.slice base len cap) (.slice none 0 0)) S B H σ dd:=by
 intro K I;have I:=RS K I;refine π.bind' ?_;unfold eqGuard;refine π.pure' ?_;have RU:binOp .eql ty (.slice base len cap) (.slice none 0 0)=(do pure (Value.bool (<-Op.equal ty (.slice base len cap) (.slice none 0 0)))):=rfl;rw[RU];refine π.bind' ?_;unfold Op.equal;unfold Op.equalIn;refine π.bind' (Ζ.bl hi ?_);rw[hu];cases base with
 | none=>exact π.pure' (π.pure' (.same ψ I (.z _)))
 | some b=>exact π.pure' (π.pure' (.same ψ I (.z _)))
theorem E4 {K:ζ->List Row->Prop} (h:(Bf σ).holds K) (b:Bool):K (.z (.bool b)) σ:=by
 cases b
 ·exact h 0 (by decide)
 ·exact h 1 (by decide)
theorem RV (Ζ:bE P T) (ψ:Holds S B σ H) (ty:TypeId) (p q:Operand) {a:ζ} {v:Value} (κ:ah S B σ a v):cp P (do eqGuard .eql ty p q v (.slice none 0 0);binOp .eql ty v (.slice none 0 0)) S B H σ (Bg T ty σ a):=by
 unfold Bg;split
 ·rename_i i hi;split
  ·rename_i e hu;split
   ·rename_i id n j len;split
    ·rename_i t k l ι;split
     ·rename_i η;cases κ with
      | @ms _ _ _ _ _ _ _ bo base cap J R ς Κ aF aV=>
       split
       ·exact x1 Ζ ψ hi hu p q base len cap λK I=>E4 I _
       ·rename_i hlen;refine x1 Ζ ψ hi hu p q base len cap λK I=>?_;rcases aV with aV|⟨b,N,_,fY,_⟩
        ·omega
        ·rw[fY];exact I
      | h8 v J R=>
       rw[ι] at J;cases J;exact absurd η.1 (Nat.ne_of_gt R)
     ·exact .bad
    ·exact .bad
   ·rename_i l;cases κ with
    | hN base cap J=>exact x1 Ζ ψ hi hu p q base 0 cap λK I=>E4 I _
    | sl b o cap w J R=>
     split
     ·exact x1 Ζ ψ hi hu p q _ _ cap λK I=>E4 I _
     ·exact x1 Ζ ψ hi hu p q _ _ cap λK I=>I
   ·exact .bad
  ·exact .bad
 ·exact .bad
end
end Go.TL
