import Derived.Test.YtlabjopijpkiaaaGreatEAF
set_option maxHeartbeats 16000000
set_option maxRecDepth 20000
set_option linter.unusedSectionVars false
set_option linter.unusedSimpArgs false
set_option linter.unusedVariables false
namespace Go.TL
open Go.Conc
def wW (T:bk) (op:BinOp) (ty:TypeId) (a b:θ):cB:=match aeqv T ty a b with
 | some r=>match op with
  | .eql=>.ok (.z (.bool r))
  | .neq=>.ok (.z (.bool !r))
  | _=>.bad
 | none=>.bad
def En (T:bk) (op:BinOp) (ty:TypeId) (a b:θ):cB:=match a,b with
 | .z x,.z y=>match tk op x y with
  | .ok v=>.ok v
  | .b' p r=>.b' p r
  | .bad=>wW T op ty (.z x) (.z y)
 | .a3 x,.a3 y=>wW T op ty (.a3 x) (.a3 y)
 | _,_=>.bad
def Eo (T:bk) (ty:TypeId) (x bz:θ):cB:=match T ty with
 | some i=>match i.bM,x,bz with
  | .string,.z (.string s),.z (.int _ n)=>.b' (0<=n/\n<s.size) (.ok (.z (.int .u8 (s.data.toList.getD n.toNat 0).toNat)))
  | .array len e,.a3 xs,.z (.int _ n)=>match T e with
   | some b6=>if b6.agg=false/\b6.size=1/\xs.length=len then .b' (0<=n/\n<len) (.ok (xs.getD n.toNat .cz)) else .bad
   | none=>.bad
  | _,_,_=>.bad
 | none=>.bad
def Ep (x:θ):cB:=match x with
 | .au c=>.ok (.au c)
 | .fn (.func f) a b=>.ok (.fn (.func f) a b)
 | .z (.pointer (some a))=>.ok (.z (.pointer (some a)))
 | _=>.bad
def wX (σ:ac) (x:θ):c5:=match x with
 | .ak id n i j=>match σ[id]? with
  | some (.cells _ _ l)=>if l.length=n then .ok (.ak id n i j) σ else .bad
  | _=>.bad
 | _=>.bad
def Er (T:bk) (arr:TypeId) (x:θ):cB:=match T arr with
 | some i=>match i.bM,x with
  | .array n _,.sl _ k l=>if 0<n/\k=1/\(l.all λe=>decide (e.cells.length=1)&&θ.bl [] e)=true then .b' (n<=l.length) (.ok (.au (l.take n))) else .bad
  | _,_=>.bad
 | none=>.bad
def tp:am->Option (List Int)
 | []=>some []
 | .z (.int .i32 n)::r=>(tp r).map (n::·)
 | _=>none
def spell (l:List Int):ByteArray:=l.foldl (λs n=>s++Utf8.encode n) .empty
def AQ (T:bk) (ty:TypeId):Bool:=match T ty with
 | some i=>match i.bM with
  | .slice e=>match T e with|some b6=>(match b6.bM with|.int .i32=>true|_=>false)&&b6.size==1|none=>false
  | _=>false
 | none=>false
def AR (T:bk) (ty:TypeId):Bool:=match T ty with|some i=>(match i.bM with|.string=>true|_=>false)|none=>false
def u7 (T:bk) (src dst:TypeId) (σ:ac) (x:θ):cB:=if AQ T src=true/\AR T dst=true then match qR σ x with
 | some (k,l)=>if k=1\/l.isEmpty=true then match tp l with|some r=>.ok (.z (.string (spell r)))|none=>.bad else .bad
 | none=>.bad else .bad
def Es (T:bk) (src dst:TypeId) (x:θ):cB:=if AR T src=true/\AQ T dst=true then match x with
 | .z (.string s)=>.ok (.sl false 1 ((Conv.runesFrom s s.size 0 #[]).toList.map .z))
 | _=>.bad else .bad
section
variable {P:Program} {T:bk} {S:aO} {B:a0} {H:Γ} {σ:ac}
theorem WA {op:BinOp} {ty:TypeId} {p q:Operand} {vs ws:Array Value} (Ω:P.eqGuardType P.depth ty=false) {G:Γ} {K:Unit->Γ->Prop} {E:Value->Γ->Prop} (ψ:K () G):χ P (eqGuard op ty p q (.agg vs) (.agg ws)) G K E:=by
 cases op<;>first|exact χ.pure' ψ|skip
 all_goals
  unfold eqGuard;simp only[Bool.not_true,Bool.false_eq_true,if_false];refine χ.bind' ?_;show χ P _ G K E;refine χ.bind' ?_;show χ P _ G K E;rw[if_pos (by rw[Ω];rfl)];exact χ.pure' ψ
theorem NS (Ν:bU P T) (Δ:Holds S B σ H) {op:BinOp} {ty:TypeId} {p q:Operand} {a b:θ} {v w:Value} (ν:aA S B σ a v) (hb:aA S B σ b w) (NT:∀r,aeqv T ty a b=some r->(op=.eql\/op=.neq)->∀(K:Unit->Γ->Prop),K () H->χ P (eqGuard op ty p q v w) H K (λ_ _=>False))
  (WB:∀r,aeqv T ty a b=some r->(binOp .eql ty v w=(do pure (.bool (<-Op.equal ty v w)))/\binOp .neq ty v w=(do pure (.bool (!(<-Op.equal ty v w)))))) :
  cW P (do eqGuard op ty p q v w;binOp op ty v w) S B H σ ((wW T op ty a b).dC σ):=by
 unfold wW;split
 ·rename_i r μ;obtain⟨U,γ⟩:=WB r μ;split
  ·intro K κ;refine χ.bind' (NT r μ (.inl rfl) _ ?_);rw[U];exact χ.bind' (Ih Ν ν hb μ (χ.pure' (.same Δ κ (.z _))))
  ·intro K κ;refine χ.bind' (NT r μ (.inr rfl) _ ?_);rw[γ];exact χ.bind' (Ih Ν ν hb μ (χ.pure' (.same Δ κ (.z _))))
  ·exact .bad
 ·exact .bad
theorem WC (Ν:bU P T) (Δ:Holds S B σ H) (op:BinOp) (ty:TypeId) (p q:Operand) {a b:θ} {v w:Value} (ν:aA S B σ a v) (hb:aA S B σ b w):cW P (do eqGuard op ty p q v w;binOp op ty v w) S B H σ ((En T op ty a b).dC σ):=by
 unfold En;split
 ·rename_i x y;have Ψ:=Vm (P:=P) Δ op ty p q v w;cases ν;cases hb;split
  ·rename_i r μ;rw[μ] at Ψ;exact Ψ
  ·rename_i pp r μ;rw[μ] at Ψ;exact Ψ
  ·rename_i oo;have hR:∀r,aeqv T ty (.z v) (.z w)=some r->(∃c d,v=.bool c/\w=.bool d)\/¬(op=.eql\/op=.neq):=λr μ=>by
    unfold aeqv at μ;split at μ<;>try cases μ
    simp only at μ;split at μ<;>try cases μ
    unfold nB at μ;split at μ
    ·split at μ
     ·rename_i e;subst e;refine .inr λΒ=>?_;rcases Β with rfl|rfl<;>simp[tk] at oo
     ·cases μ
    ·refine .inr λΒ=>?_;rcases Β with rfl|rfl<;>simp[tk] at oo
    ·exact .inl ⟨_,_,rfl,rfl⟩
    ·cases μ
   by_cases Τ:op=.eql\/op=.neq
   ·by_cases μ:∃r,aeqv T ty (.z v) (.z w)=some r
    ·obtain⟨r,μ⟩:=μ;rcases hR r μ with⟨c,d,rfl,rfl⟩|h
     ·exact NS Ν Δ (.z _) (.z _) (λ_ _ _ K κ=>by unfold eqGuard;split<;>exact χ.pure' κ) (λ_ _=>⟨rfl,rfl⟩)
     ·exact absurd Τ h
    ·have:aeqv T ty (.z v) (.z w)=none:=by
      cases h:aeqv T ty (.z v) (.z w) with
      | none=>rfl
      | some r=>exact absurd ⟨r,h⟩ μ
     unfold wW;rw[this];exact .bad
   ·unfold wW;split
    ·split
     ·exact absurd (.inl rfl) Τ
     ·exact absurd (.inr rfl) Τ
     ·exact .bad
    ·exact .bad
 ·rename_i x y;cases ν with
  | a3 vs aa ai=>cases hb with
   | a3 ws k1 bT=>
    refine NS Ν Δ (.a3 vs aa ai) (.a3 ws k1 bT) (λr μ _ K κ=>?_) (λ_ _=>⟨rfl,rfl⟩);have Ω:P.eqGuardType P.depth ty=false:=by
     unfold aeqv at μ;split at μ<;>try cases μ
     rename_i i hi;simp only at μ;split at μ<;>try cases μ
     rename_i items dJ;have:=(Ν ty i hi).1.2;rw[dJ] at this;exact this.1
    exact WA Ω κ
 ·exact .bad
theorem WE (Ν:bU P T) (Δ:Holds S B σ H) (ty:TypeId) {x bz:θ} {v w:Value} (δ:aA S B σ x v) (hi:aA S B σ bz w):cW P (Instr.index ty v w) S B H σ ((Eo T ty x bz).dC σ):=by
 unfold Eo;cases Υ:T ty with
 | none=>exact .bad
 | some i=>
  simp only;split
  ·rename_i s kk n hu;cases δ;cases hi;refine cW.b' (r:=(cB.ok (.z (.int .u8 (s.data.toList.getD n.toNat 0).toNat))).dC σ) λΘ K κ=>?_;unfold Instr.index;refine χ.bind' (χ.pure' ?_);refine χ.bind' (Ν.bM Υ ?_);rw[hu];have aN:n.toNat<s.data.size:=by have:s.size=s.data.size:=rfl;omega
   have Ζ:(if 0<=n then s[n.toNat]? else none)=some s.data[n.toNat]:=by
    rw[if_pos Θ.1];show s[n.toNat]?=_;rw[getElem?_pos s n.toNat J];rfl
   simp only[Ζ];have Ε:s.data.toList.getD n.toNat 0=s.data[n.toNat]:=by rw[List.getD_eq_getElem?_getD,Array.getElem?_toList,fw aN];rfl
   rw[Ε] at κ;exact χ.pure' (.same Δ κ (.z _))
  ·rename_i len e xs kk n hu;cases hi;split
   ·rename_i b6 eW;split
    ·rename_i ε;obtain⟨c1,c2,c3⟩:=ε;refine cW.b' (r:=(cB.ok (xs.getD n.toNat .cz)).dC σ) λΘ K κ=>?_;cases δ with
     | a3 vs aa ai=>
      unfold Instr.index;refine χ.bind' (χ.pure' ?_);refine χ.bind' (Ν.bM Υ ?_);rw[hu];simp only[Θ,and_self,if_true];refine χ.bind' (Ν.size eW ?_);rw[c2,Nat.mul_one];unfold part;refine χ.bind' (Ν.agg eW ?_);rw[c1];have aN:n.toNat<xs.length:=J;have hv:n.toNat<vs.size:=by rw[<-aa];exact aN
      simp only[Bool.false_eq_true,if_false,fw hv];have Ε:xs.getD n.toNat .cz=xs[n.toNat]:=by simp[aN]
      rw[Ε] at κ;exact χ.pure' (.same Δ κ (ai _ _ _ (a6 aN) (fw hv)))
    ·exact .bad
   ·exact .bad
  ·exact .bad
theorem WG (Δ:Holds S B σ H) {ρ:Operand->Value} {o:Oper} {x:Operand} (Β:o.op=.nilCheck x) {a:θ} (ν:aA S B σ a (ρ x)):Does P (execOp ρ o) S B H σ ((Ep a).dC σ):=by
 unfold Ep;split
 ·unfold execOp;rw[Β];simp only;generalize ρ x=v at ν;cases ν with
  | au b o w U γ=>exact Does.val Δ (.au b o w U γ)
 ·unfold execOp;rw[Β];simp only;generalize ρ x=v at ν;cases ν with
  | fn vs ws U γ ο Ι=>exact Does.val Δ (.fn vs ws U γ ο Ι)
 ·unfold execOp;rw[Β];simp only;generalize ρ x=v at ν;cases ν;exact Does.val Δ (.z _)
 ·exact .bad
theorem WH (Δ:Holds S B σ H) {ρ:Operand->Value} {o:Oper} {x:Operand} (Β:o.op=.nilCheck x) {a:θ} (ν:aA S B σ a (ρ x)):Does P (execOp ρ o) S B H σ (wX σ a):=by
 unfold wX;split
 ·split
  ·rename_i t k l π;split
   ·rename_i Θ;unfold execOp;rw[Β];simp only;generalize ρ x=v at ν;cases ν with
    | ak U γ ο=>exact Does.val Δ (.ak U γ ο)
    | kB v U γ=>rw[π] at U;cases U;simp only[Row.hT] at γ;omega
   ·exact .bad
  ·exact .bad
 ·exact .bad
theorem WI (Ν:bU P T) (Δ:Holds S B σ H) (arr:TypeId) {x:θ} {v:Value} (δ:aA S B σ x v):cW P (Instr.arrayAt arr v) S B H σ ((Er T arr x).dC σ):=by
 unfold Er;cases Υ:T arr with
 | none=>exact .bad
 | some i=>
  simp only;split
  ·rename_i n e ex k l hu;split
   ·rename_i ε;obtain⟨c1,c2,c3⟩:=ε;subst c2;refine cW.b' (r:=(cB.ok (.au (l.take n))).dC σ) λΘ K κ=>?_;obtain⟨base,cap,rfl,_,_,ο⟩:=sb δ;obtain⟨b,o,w,rfl,Ι,ax,bf⟩:=ο (λe=>by subst e;simp at Θ;omega);unfold Instr.arrayAt;refine χ.bind' (Ν.bM Υ ?_);rw[hu];simp only;rw[if_neg J];rw[List.all_eq_true] at c3;have el:∀(j:Nat) (e:θ),(l.take n)[j]?=some e->l[j]?=some e/\e.cells=[e]:=λj e ζ=>by
     have hm:=c3 e (List.mem_of_mem_take (cy ζ));simp only[Bool.and_eq_true] at hm;rw[List.getElem?_take] at ζ;split at ζ
     ·exact⟨ζ,θ.HU hm.2⟩
     ·cases ζ
    refine χ.pure' (.same Δ κ (.au b o (λj=>w j 0) (λj a ζ=>?_) (λj a ζ=>?_)))
    ·obtain⟨aa,ai⟩:=el j a ζ;have:=ax j a aa 0 a (by rw[ai];rfl);simpa using this
    ·obtain⟨aa,ai⟩:=el j a ζ;exact bf j a aa 0 a (by rw[ai];rfl)
   ·exact .bad
  ·exact .bad
theorem NU {ty:TypeId} (h:AQ T ty=true):∃i e b6,T ty=some i/\i.bM=.slice e/\T e=some b6/\b6.bM=.int .i32/\b6.size=1:=by
 unfold AQ at h;split at h
 ·rename_i i hi;split at h
  ·rename_i e hu;split at h
   ·rename_i b6 eW;simp only[Bool.and_eq_true,beq_iff_eq] at h;refine⟨i,e,b6,hi,hu,eW,?_,h.2⟩;have:=h.1;split at this
    ·assumption
    ·cases this
   ·cases h
  ·cases h
 ·cases h
theorem NV {ty:TypeId} (h:AR T ty=true):∃i,T ty=some i/\i.bM=.string:=by
 unfold AR at h;split at h
 ·rename_i i hi;refine⟨i,hi,?_⟩;split at h
  ·assumption
  ·cases h
 ·cases h
theorem WJ (Ν:bU P T) (Δ:Holds S B σ H) (src dst:TypeId) {x:θ} {v:Value} (δ:aA S B σ x v):cW P (convert src dst v) S B H σ ((Es T src dst x).dC σ):=by
 unfold Es;split
 ·rename_i ε;obtain⟨i,hi,hu⟩:=NV ε.1;obtain⟨j,e,b6,ζ,It,eW,Iu,cA⟩:=NU ε.2;split
  ·rename_i s;cases δ;intro K κ;unfold convert;refine χ.bind' (Ν.bM hi (χ.bind' (Ν.bM ζ ?_)));rw[hu,It];simp only;refine χ.bind' (Ν.bM eW ?_);rw[Iu];simp only;unfold Conv.stringToRunes;refine χ.bind' ?_;unfold choose;simp only[χ];have Χ:(Question.appendCap (Conv.runesFrom s s.size 0 #[]).size 0 e).forced=false:=rfl;rw[Χ];simp only[Bool.false_eq_true,if_false];intro q;generalize Iv:Conv.runesFrom s s.size 0 #[]=mK at κ ⊢;have yu:mK.size<=(Question.appendCap mK.size 0 e).cut q:=by simp[Question.cut]
   refine χ.bind' (χ.bind' ?_);have WK:∀v∈mK,One v:=by
    have key:∀(bound i:Nat) (acc:Array Value),(∀v∈acc,One v)->∀v∈Conv.runesFrom s bound i acc,One v:=by
     intro bound
     induction bound with
     | zero=>intro i acc h;exact h
     | succ n Α=>
      intro i acc h;unfold Conv.runesFrom;split
      ·refine Α _ _ λv hv=>?_;rcases Array.mem_push.1 hv with hv|rfl
       ·exact h v hv
       ·trivial
      ·exact h
    rw[<-Iv];exact key _ _ _ (λv hv=>by simp at hv)
   have AG:gq S B σ (mK++Array.replicate ((Question.appendCap mK.size 0 e).cut q-mK.size) (.int .i32 0)) 1 (mK.toList.map .z):=by
    refine⟨η,λj a ζ=>?_⟩;rw[List.getElem?_map,Array.getElem?_toList] at ζ;cases δ:mK[j]? with
    | none=>rw[δ] at ζ;cases ζ
    | some y=>
     rw[δ] at ζ;cases ζ;refine⟨rfl,λz b Ψ=>?_⟩
     match z with
     | 0=>
      simp[θ.cells] at Ψ;subst Ψ;refine⟨y,?_,.z y,WK y (Array.mem_of_getElem? δ)⟩;have:=(Array.getElem?_eq_some_iff.1 δ).1;rw[Array.getElem?_append_left (by simpa using this)];simpa using δ
     | z+1=>simp[θ.cells] at Ψ
   refine AA Δ _ e λr U γ ο=>χ.pure' (χ.pure' ⟨_,_,_,_,κ,γ,U,ο,?_⟩);have:=DN (cap:=(Question.appendCap mK.size 0 e).cut q) false ο AG (by simpa using yu) η;simpa using this
  ·exact .bad
 ·exact .bad
theorem WL:∀(l:am) (r:List Int),tp l=some r->r.length=l.length/\∀(i:Nat) (n:Int),r[i]?=some n->l[i]?=some (.z (.int .i32 n)):=by
 intro l
 induction l with
 | nil=>intro r h;cases h;exact⟨rfl,λi n h=>by simp at h⟩
 | cons a l Α=>
  intro r h;unfold tp at h;split at h
  ·rename_i heq;cases heq
  ·rename_i n dp heq;cases heq;cases π:tp l with
   | none=>rw[π] at h;cases h
   | some r'=>
    rw[π] at h;cases h;obtain⟨U,γ⟩:=Α r' π;refine⟨by simp[U],λi m hm=>?_⟩;cases i with
    | zero=>simp at hm;subst hm;rfl
    | succ i=>exact γ i m (by simpa using hm)
  ·cases h
theorem WM (Ν:bU P T) (Δ:Holds S B σ H) (src dst:TypeId) {x:θ} {v:Value} (δ:aA S B σ x v):cW P (convert src dst v) S B H σ ((u7 T src dst σ x).dC σ):=by
 unfold u7;split
 ·rename_i ε;obtain⟨i,e,b6,hi,hu,eW,Iu,cA⟩:=NU ε.1;obtain⟨j,ζ,It⟩:=NV ε.2;split
  ·rename_i k l π;split
   ·rename_i ψ;split
    ·rename_i r μ;obtain⟨base,cap,w,rfl,_,Iw,Iv⟩:=DZ Δ δ (k:=1) π J (ψ.symm);obtain⟨mA,WN⟩:=WL l r μ;intro K κ;unfold convert;refine χ.bind' (Ν.bM hi (χ.bind' (Ν.bM ζ ?_)));rw[hu,It];have hw:∀i,i<l.length->w i=.int .i32 (r.getD i 0):=λi hA=>by
      have NW:r[i]?=some r[i]:=a6 J
      have:=(Iv i _ (WN i _ NW)).2 0 _ rfl;rw[Nat.mul_one,Nat.add_zero] at this;rw[List.getD_eq_getElem?_getD,NW];generalize w i=u at this;cases this;rfl
     have go:χ P (Conv.runesToString (.slice base l.length cap)) H (jH S B H σ K) (λ_ _=>False):=by
      unfold Conv.runesToString;rw[Nat.mul_one] at Iw;cases base with
      | none=>
       simp only;rcases Iw with ao|⟨b,o,hb,_⟩
       ·have:r=[]:=dO.1 (by rw[mA,ao]);subst this;exact χ.pure' (.same Δ κ (.z _))
       ·cases hb
      | some a=>
       simp only;have fold:∀(rs:List Int) (acc:ByteArray),χ P (forIn (rs.map λn=>Value.int .i32 n) acc λ(c:Value) (s:ByteArray)=>do
         let .int .i32 n:=c|stuck "runesToString: rune expected"
         pure (ForInStep.yield (s++Utf8.encode n))) H (λs H'=>s=rs.foldl (λs n=>s++Utf8.encode n) acc/\H'=H) (λ_ _=>False):=by
        intro rs
        induction rs with
        | nil=>intro acc;exact .forIn_nil ⟨rfl,rfl⟩
        | cons n rs Α=>
         intro acc;rw[List.map_cons];refine .forIn_cons ?_;exact χ.pure' (Α (acc++Utf8.encode n))
       have cells:χ P (loadCells a l.length) H (λvs H'=>vs=(r.map λn=>Value.int .i32 n).toArray/\H'=H) (λ_ _=>False):=by
        rcases Iw with ao|⟨b,o,hb,Ia⟩
        ·rw[ao];have:r=[]:=dO.1 (by rw[mA,ao]);subst this;exact χ.pure' ⟨rfl,rfl⟩
        ·cases hb;refine χ.loadCells w rfl Ia ⟨?_,rfl⟩;congr 1;apply List.ext_getElem?;intro i;rw[List.getElem?_map,List.getElem?_map];by_cases hA:i<l.length
         ·rw[List.getElem?_range hA,a6 (show i<r.length by omega)];simp only[Option.map_some];rw[hw i hA,List.getD_eq_getElem?_getD,a6 (show i<r.length by omega)];rfl
         ·rw[List.getElem?_eq_none (by simp;omega),List.getElem?_eq_none J];rfl
       refine χ.bind' (χ.mono (λvs H' ⟨Ζ,Ε⟩=>?_) (λ_ _ h=>h) _ cells);subst Ζ;subst Ε;rw[<-Array.forIn_toList];refine χ.bind' (χ.mono (λs H' ⟨Ζ,Ε⟩=>?_) (λ_ _ h=>h) _ (fold r .empty));subst Ζ;subst Ε;exact χ.pure' (.same Δ κ (.z _))
     have:χ P (do
      match <-underlying e with
      | .int .u8=>Conv.bytesToString (.slice base l.length cap)
      | .int .i32=>Conv.runesToString (.slice base l.length cap)
      | _=>stuck "Convert: a slice of what to string?") H (jH S B H σ K) (λ_ _=>False):=by
      refine χ.bind' (Ν.bM eW ?_);rw[Iu];exact go
     cases base<;>exact this
    ·exact .bad
   ·exact .bad
  ·exact .bad
 ·exact .bad
end
def Et (σ:ac):c5:=.all 2 λj=>.ok (.z (.bool (j==1))) σ
def Eu (T:bk) (ty:TypeId) (σ:ac) (a:θ):c5:=match T ty with
 | some i=>match i.bM with
  | .slice _=>match a with
   | .ms id n i len=>match σ[id]? with
    | some (.cells _ _ l)=>if l.length=n/\i+len<=n then(if len=0 then Et σ else .ok (.z (.bool false)) σ) else .bad
    | _=>.bad
   | .sl _ _ l=>if l.isEmpty then Et σ else .ok (.z (.bool false)) σ
   | _=>.bad
  | _=>.bad
 | none=>.bad
section
variable {P:Program} {T:bk} {S:aO} {B:a0} {H:Γ} {σ:ac}
theorem AS (Ν:bU P T) (Δ:Holds S B σ H) {ty:TypeId} {i:iU} (hi:T ty=some i) {e:TypeId} (hu:i.bM=.slice e) (p q:Operand) (base:Option Addr) (len cap:Nat) {dC:c5}
  (WO:∀K,dC.holds K->K (.z (.bool base.isNone)) σ):cW P (do eqGuard .eql ty p q (.slice base len cap) (.slice none 0 0);binOp .eql ty (.slice base len cap) (.slice none 0 0)) S B H σ dC:=by
 intro K κ;have κ:=WO K κ;refine χ.bind' ?_;unfold eqGuard;refine χ.pure' ?_;have WQ:binOp .eql ty (.slice base len cap) (.slice none 0 0)=(do pure (Value.bool (<-Op.equal ty (.slice base len cap) (.slice none 0 0)))):=rfl;rw[WQ];refine χ.bind' ?_;unfold Op.equal;unfold Op.equalIn;refine χ.bind' (Ν.bM hi ?_);rw[hu];cases base with
 | none=>exact χ.pure' (χ.pure' (.same Δ κ (.z _)))
 | some b=>exact χ.pure' (χ.pure' (.same Δ κ (.z _)))
theorem Ix {K:θ->ac->Prop} (h:(Et σ).holds K) (b:Bool):K (.z (.bool b)) σ:=by
 cases b
 ·exact h 0 br
 ·exact h 1 br
theorem WR (Ν:bU P T) (Δ:Holds S B σ H) (ty:TypeId) (p q:Operand) {a:θ} {v:Value} (ν:aA S B σ a v):cW P (do eqGuard .eql ty p q v (.slice none 0 0);binOp .eql ty v (.slice none 0 0)) S B H σ (Eu T ty σ a):=by
 unfold Eu;split
 ·rename_i i hi;split
  ·rename_i e hu;split
   ·rename_i id n j len;split
    ·rename_i t k l μ;split
     ·rename_i ε;cases ν with
      | @ms _ _ _ _ _ _ _ bo base cap U γ ο Ι ax bf=>
       split
       ·exact AS Ν Δ hi hu p q base len cap λK κ=>Ix κ _
       ·rename_i hlen;refine AS Ν Δ hi hu p q base len cap λK κ=>?_;rcases bf with bf|⟨b,N,_,hx,_⟩
        ·omega
        ·rw[hx];exact κ
      | jZ v U γ=>
       rw[μ] at U;cases U;exact absurd ε.1 (Nat.ne_of_gt γ)
     ·exact .bad
    ·exact .bad
   ·rename_i l;cases ν with
    | iT base cap U=>exact AS Ν Δ hi hu p q base 0 cap λK κ=>Ix κ _
    | sl b o cap w U γ=>
     split
     ·exact AS Ν Δ hi hu p q _ _ cap λK κ=>Ix κ _
     ·exact AS Ν Δ hi hu p q _ _ cap λK κ=>κ
   ·exact .bad
  ·exact .bad
 ·exact .bad
end
def cB.or (r:cB) (σ:ac) (s:c5):c5:=match r with
 | .ok a=>.ok a σ
 | .b' p r=>.b' p (r.dC σ)
 | .bad=>s
def qY (A:List Nat) (d:Option Tmp):Bool:=match d with|some d=>A.contains d|none=>false
def tq (env:ab) (dc:Array (Nat×Operand)):List (Nat×θ):=dc.toList.map λp=>(p.1,aT env p.2)
def yH (c a b:θ):cB:=match c with
 | .z (.bool v)=>match a,b with
  | .z (.bool x),.z (.bool y)=>.ok (.z (.bool (bif v then x else y)))
  | _,_=>match v with|true=>.ok a|false=>.ok b
 | _=>.bad
def tr (T:bk) (σ:ac) (src dst:TypeId) (x:θ):cB:=match yz T src dst x with
 | .bad=>match Es T src dst x with
  | .bad=>u7 T src dst σ x
  | r=>r
 | r=>r
def jK (T:bk) (A:List Nat) (env:ab) (o:Oper):cB:=
 match o.op with
 | .move x=>.ok (aT env x)
 | .assign x=>.ok (aT env x)
 | .pick c a b=>yH (aT env c) (aT env a) (aT env b)
 | .alloc ty=>if qY A o.dst then .bad else DR T ty
 | .box _ x=>if qY A o.dst then .bad else yv (aT env x)
 | .build ty dc=>oi T (θ.bl []) ty (tq env dc)
 | .buildSlice ty n dc=>if qY A o.dst then .bad else AD T (θ.bl []) ty n (tq env dc)
 | .load ty x=>DD T ty (aT env x)
 | .binOp op ty x y _=>En T op ty (aT env x) (aT env y)
 | .unOp op _ x=>yp op (aT env x)
 | .convert s d x=>tr T [] s d (aT env x)
 | .index ty x i=>Eo T ty (aT env x) (aT env i)
 | .nilCheck x=>Ep (aT env x)
 | .sliceToArrayPointer ty x=>Er T ty (aT env x)
 | .makeInterface ty x=>DC T ty (aT env x)
 | .makeFunc f dr cs=>.ok (.fn f (dr.toList.map (aT env)) (cs.toList.map (aT env)))
 | .makeSlice ty n c=>if qY A o.dst then .bad else DW T ty (aT env n) (aT env c)
 | .slice ty x lo hi none=>D7 T ty (aT env x) (lo.map (aT env)) (hi.map (aT env))
 | .fieldAddr ty x f=>DG T ty f (aT env x)
 | .indexAddr ty x i=>DI T ty (aT env x) (aT env i)
 | .typeAssert x _ ty ok=>wL T ty ok (aT env x)
 | .extract x i=>Dz i (aT env x)
 | .call ⟨.builtin b,⟨[x]⟩,⟨[ty]⟩⟩=>match b with
  | .len=>D9 T ty (aT env x)
  | _=>.bad
 | .call ⟨.builtin b,⟨[x,y]⟩,⟨[u9,ty]⟩⟩=>match b with
  | .max=>Ea [aT env x,aT env y]
  | .append=>if qY A o.dst then .bad else tm T u9 ty (θ.bl []) [] (aT env x) (aT env y)
  | _=>.bad
 | _=>.bad
def iD (T:bk) (A:List Nat) (env:ab) (σ:ac) (o:Oper):c5:=
 match o.op with
 | .alloc ty=>if qY A o.dst then DQ T ty σ else .bad
 | .box ty x=>if qY A o.dst then yw ty σ (aT env x) else DO σ (aT env x)
 | .build ty dc=>(oi T (θ.bl σ) ty (tq env dc)).dC σ
 | .buildSlice ty n dc=>if qY A o.dst then DU T ty n (tq env dc) σ else(AD T (θ.bl σ) ty n (tq env dc)).dC σ
 | .load ty x=>o2 T ty σ (aT env x)
 | .store ty p x=>DK T ty σ (aT env p) (aT env x)
 | .convert s d x=>(tr T σ s d (aT env x)).dC σ
 | .nilCheck x=>wX σ (aT env x)
 | .binOp .eql ty x (.const (.slice none 0 0)) _=>Eu T ty σ (aT env x)
 | .makeMap _ none=>Ik σ
 | .mapUpdate ty m k x=>AK T ty σ (aT env m) (aT env k) (aT env x)
 | .insert ty m k x=>AK T ty σ (aT env m) (aT env k) (aT env x)
 | .lookup ty x k ok=>Ee T ty ok σ (aT env x) (aT env k)
 | .range ty x=>Eg T ty σ (aT env x)
 | .next it false=>Eh σ (aT env it)
 | .entry it=>Ek σ (aT env it)
 | .makeSlice ty n c=>if qY A o.dst then DV T ty (aT env n) (aT env c) σ else .bad
 | .slice ty x lo hi none=>D8 T ty σ (aT env x) (lo.map (aT env)) (hi.map (aT env))
 | .fieldAddr ty x f=>o3 T ty f σ (aT env x)
 | .indexAddr ty x i=>o4 T ty σ (aT env x) (aT env i)
 | .call ⟨.builtin b,⟨[x]⟩,⟨[ty]⟩⟩=>match b with
  | .len=>D' T ty σ (aT env x)
  | .clear=>Em T ty σ (aT env x)
  | _=>.bad
 | .call ⟨.builtin b,⟨[x,y]⟩,⟨[u9,ty]⟩⟩=>match b with
  | .append=>if qY A o.dst then D5 T u9 ty σ (aT env x) (aT env y) else(tm T u9 ty (θ.bl σ) σ (aT env x) (aT env y)).dC σ
  | _=>.bad
 | _=>.bad
section
variable {P:Program} {T:bk} {A:List Nat} {S:aO} {B:a0} {H:Γ} {σ:ac} {env:ab} {t:Array Value}
theorem cB.WS {s:Sem Next} {r:cB} {a:c5} (U:Does P s S B H σ (r.dC σ)) (γ:Does P s S B H σ a):Does P s S B H σ (r.or σ a):=by
 cases r with
 | ok x=>exact U
 | b' p r=>exact U
 | bad=>exact γ
theorem WT (Δ:Holds S B σ H) {c a b:θ} {u v w:Value} (ε:aA S B σ c u) (ν:aA S B σ a v) (hb:aA S B σ b w):cW P (do pure (if <-asBool u then v else w)) S B H σ ((yH c a b).dC σ):=by
 unfold yH;split
 ·rename_i x;cases ε;split
  ·rename_i p q;cases ν;cases hb;intro K κ;refine χ.bind' (χ.pure' (χ.pure' ?_));cases x
   ·exact .same Δ κ (.z _)
   ·exact .same Δ κ (.z _)
  ·cases x
   ·exact λK κ=>χ.bind' (χ.pure' (χ.pure' (.same Δ κ hb)))
   ·exact λK κ=>χ.bind' (χ.pure' (χ.pure' (.same Δ κ ν)))
 ·exact .bad
theorem WU (cO:dB S B σ env t) (f:Fn) (dr cs:Array Operand):aA S B σ (.fn f (dr.toList.map (aT env)) (cs.toList.map (aT env))) (.func f (dr.map (bt t)) (cs.map (bt t))):=by
 refine .fn _ _ η η (λi a v U γ=>?_) (λi a v U γ=>?_)
 ·rw[List.getElem?_map] at U;rw[Array.getElem?_map] at γ;rw[Array.getElem?_toList] at U;cases δ:dr[i]? with
  | none=>rw[δ] at U;cases U
  | some x=>rw[δ] at U γ;cases U;cases γ;exact mI cO x
 ·rw[List.getElem?_map] at U;rw[Array.getElem?_map] at γ;rw[Array.getElem?_toList] at U;cases δ:cs[i]? with
  | none=>rw[δ] at U;cases U
  | some x=>rw[δ] at U γ;cases U;cases γ;exact mI cO x
theorem Ev (cO:dB S B σ env t) (o:Option Operand):wO S B σ (o.map (aT env)) (o.map (bt t)):=by
 cases o with
 | none=>trivial
 | some x=>exact mI cO x
theorem NX {a:θ} {r:Nat×am} (h:qR [] a=some r):qR σ a=some r:=by
 cases a<;>first|exact h|(simp[qR] at h)
theorem WV {st xt:TypeId} {s x:θ}:tm T st xt (θ.bl []) [] s x=.bad\/tm T st xt (θ.bl []) [] s x=tm T st xt (θ.bl []) σ s x:=by
 unfold tm;cases δ:qR [] x with
 | none=>left;split<;>simp_all
 | some r=>rw[NX δ];exact .inr rfl
theorem NY (Ν:bU P T) (Δ:Holds S B σ H) (src dst:TypeId) {x:θ} {v:Value} (δ:aA S B σ x v):cW P (convert src dst v) S B H σ ((tr T σ src dst x).dC σ):=by
 have U:=V3 Ν Δ src dst δ
 have γ:=WJ Ν Δ src dst δ;unfold tr;split
 ·split
  ·exact WM Ν Δ src dst δ
  ·exact γ
 ·exact U
theorem WW {src dst:TypeId} {x:θ}:u7 T src dst [] x=.bad\/u7 T src dst [] x=u7 T src dst σ x:=by
 unfold u7;split
 ·cases δ:qR [] x with
  | none=>exact .inl rfl
  | some r=>rw[NX δ];exact .inr rfl
 ·exact .inl rfl
theorem WX {src dst:TypeId} {x:θ}:tr T [] src dst x=.bad\/tr T [] src dst x=tr T σ src dst x:=by
 unfold tr;split
 ·split
  ·exact WW
  ·exact .inr rfl
 ·exact .inr rfl
theorem WY (Ν:bU P T) (Δ:Holds S B σ H) (cO:dB S B σ env t) (o:Oper):Does P (execOp (bt t) o) S B H σ ((jK T A env o).dC σ):=by
 have R:∀x,aA S B σ (aT env x) (bt t x):=λx=>mI cO x;obtain⟨dst,op,type,pos,after,guard⟩:=o;unfold jK;simp only;split
 ·exact Does.val Δ (R _)
 ·exact Does.val Δ (R _)
 ·rename_i c a b;have:=(WT (P:=P) Δ (R c) (R a) (R b)).next;unfold execOp;simp only;refine λK κ=>?_;have γ:=this K κ;simpa using γ
 ·split
  ·exact .bad
  ·exact(VH Ν Δ _).next
 ·split
  ·exact .bad
  ·exact(VE Δ _ (R _)).next
 ·exact(Nu Ν Δ (λa h=>DL h) _ cO _).next
 ·split
  ·exact .bad
  ·exact(Nx Ν Δ (λa h=>DL h) _ _ cO _).next
 ·exact(Vs Ν Δ (R _)).next
 ·exact(WC Ν Δ _ _ _ _ (R _) (R _)).next
 ·exact(Vn Δ _ (R _)).next
 ·rename_i a b x;rcases WX (T:=T) (σ:=σ) (src:=a) (dst:=b) (x:=aT env x) with h|h
  ·rw[h];exact .bad
  ·rw[h];exact(NY Ν Δ _ _ (R _)).next
 ·exact(WE Ν Δ _ (R _) (R _)).next
 ·exact WG Δ rfl (R _)
 ·exact(WI Ν Δ _ (R _)).next
 ·exact(Vp Ν Δ _ (R _)).next
 ·exact cW.next (cW.pure Δ (WU cO _ _ _))
 ·split
  ·exact .bad
  ·exact(VL Ν Δ (R _) (R _)).next
 ·exact(VZ Ν Δ _ (R _) (Ev cO _) (Ev cO _)).next
 ·exact(Vu Ν Δ (R _)).next
 ·exact(Vz Ν Δ (R _) (R _)).next
 ·exact(Vq Ν Δ _ _ _ (R _)).next
 ·exact(Vo Δ _ (R _)).next
 ·split
  ·exact λK κ=>by
       refine χ.bind' (χ.pure' ?_);have e:∀x:Operand,Array.map (bt t) {toList:=[x]}=#[bt t x]:=λx=>η;simp only[invoke,builtin,e];exact(V1 Ν Δ _ _ (R _)).next K κ
  ·exact .bad
 ·split
  ·exact λK κ=>by
       refine χ.bind' (χ.pure' ?_);have e:∀x y:Operand,Array.map (bt t) {toList:=[x,y]}=#[bt t x,bt t y]:=λx y=>η;simp only[invoke,builtin,e];exact(V4 Δ _ _ (R _) (R _)).next K κ
  ·split
   ·exact .bad
   ·rename_i x y u9 ty _ _;rcases WV (T:=T) (σ:=σ) (st:=u9) (xt:=ty) (s:=aT env x) (x:=aT env y) with h|h
    ·rw[h];exact .bad
    ·rw[h];exact λK κ=>by
       refine χ.bind' (χ.pure' ?_);have e:∀x y:Operand,Array.map (bt t) {toList:=[x,y]}=#[bt t x,bt t y]:=λx y=>η;simp only[invoke,builtin,e];exact(ND Ν Δ (λa h=>DL h) _ _ _ (R _) (R _)).next K κ
  ·exact .bad
 ·exact .bad
theorem WZ (Ν:bU P T) (Δ:Holds S B σ H) (cO:dB S B σ env t) (o:Oper):Does P (execOp (bt t) o) S B H σ (iD T A env σ o):=by
 have R:∀x,aA S B σ (aT env x) (bt t x):=λx=>mI cO x;obtain⟨dst,op,type,pos,after,guard⟩:=o;unfold iD;simp only;split
 ·split
  ·exact(VG Ν Δ _).next
  ·exact .bad
 ·split
  ·exact(VF Δ _ (R _)).next
  ·exact(VD Δ _ (R _)).next
 ·exact(Nu Ν Δ (λa h=>h) _ cO _).next
 ·split
  ·exact(VJ Ν Δ _ _ cO _).next
  ·exact(Nx Ν Δ (λa h=>h) _ _ cO _).next
 ·exact(Vt Ν Δ (R _)).next
 ·exact(VC Ν Δ (R _) (R _)).next
 ·exact(NY Ν Δ _ _ (R _)).next
 ·exact WH Δ rfl (R _)
 ·exact(WR Ν Δ _ _ _ (R _)).next
 ·exact(Wh Δ _).next
 ·exact(NN Ν Δ (R _) (R _) (R _)).next
 ·exact(NN Ν Δ (R _) (R _) (R _)).next
 ·exact(Wi Ν Δ (R _) (R _)).next
 ·exact(Wm Ν Δ (R _)).next
 ·exact(Wq Δ _ (R _)).next
 ·exact(Wv Δ (R _)).next
 ·split
  ·exact(VK Ν Δ (R _) (R _)).next
  ·exact .bad
 ·exact(V0 Ν Δ _ (R _) (Ev cO _) (Ev cO _)).next
 ·exact(Vv Ν Δ (R _)).next
 ·exact(VA Ν Δ (R _) (R _)).next
 ·split
  ·exact λK κ=>by
       refine χ.bind' (χ.pure' ?_);have e:∀x:Operand,Array.map (bt t) {toList:=[x]}=#[bt t x]:=λx=>η;simp only[invoke,builtin,e];exact(V2 Ν Δ _ _ (R _)).next K κ
  ·exact λK κ=>by
       refine χ.bind' (χ.pure' ?_);have e:∀x:Operand,Array.map (bt t) {toList:=[x]}=#[bt t x]:=λx=>η;simp only[invoke,builtin,e];exact(Wz Ν Δ _ (R _)).next K κ
  ·exact .bad
 ·split
  ·split
   ·exact λK κ=>by
       refine χ.bind' (χ.pure' ?_);have e:∀x y:Operand,Array.map (bt t) {toList:=[x,y]}=#[bt t x,bt t y]:=λx y=>η;simp only[invoke,builtin,e];exact(VQ Ν Δ _ _ _ (R _) (R _)).next K κ
   ·exact λK κ=>by
       refine χ.bind' (χ.pure' ?_);have e:∀x y:Operand,Array.map (bt t) {toList:=[x,y]}=#[bt t x,bt t y]:=λx y=>η;simp only[invoke,builtin,e];exact(ND Ν Δ (λa h=>h) _ _ _ (R _) (R _)).next K κ
  ·exact .bad
 ·exact .bad
end
inductive aG (h:Nat):θ->Prop where
 | z (v:Value):aG h (.z v)
 | au {l:am}:(∀a∈l,aG h a)->aG h (.au l)
 | sl {ex:Bool} {k:Nat} {l:am}:(∀e∈l,∀a∈e.cells,aG h a)->aG h (.sl ex k l)
 | a3 {l:am}:(∀a∈l,aG h a)->aG h (.a3 l)
 | bj {l:am}:(∀a∈l,aG h a)->aG h (.bj l)
 | ak {id n i j:Nat}:id<h->aG h (.ak id n i j)
 | ms {id n i len:Nat}:id<h->aG h (.ms id n i len)
 | fn {f:Fn} {dr cs:am}:(∀a∈dr,aG h a)->(∀a∈cs,aG h a)->aG h (.fn f dr cs)
 | gp {t:TypeId} {a:θ}:aG h a->aG h (.gp t a)
 | mp {id:Nat}:id<h->aG h (.mp id)
 | it {id:Nat}:id<h->aG h (.it id)
 | cz:aG h .cz
def fC (h:Nat):Row->Prop
 | .cells _ _ l=>∀e∈l,∀a∈e.cells,aG h a
 | .map es=>∀e∈es,aG h e.1/\aG h e.2
 | .iter m left cur=>m<h/\(∀e∈left,aG h e.1/\aG h e.2)/\∀e,cur=some e->aG h e.1/\aG h e.2
 | .dead=>True
inductive eK (h:Nat) (σ:ac):θ->θ->Prop where
 | low {a:θ}:aG h a->eK h σ a a
 | cz (a:θ):eK h σ a .cz
 | ms {id n i len k:Nat} {t:TypeId} {l dp:am}:h<=id->σ[id]?=some (.cells t k l)->l.length=n->i+len<=n->dp.length=len->
   (∀(j:Nat) (e aP:θ),l[i+j]?=some e->dp[j]?=some aP->aP.cells.length=e.cells.length)->(∀(j:Nat) (e aP:θ),l[i+j]?=some e->dp[j]?=some aP->∀(x:Nat) (a cj:θ),e.cells[x]?=some a->aP.cells[x]?=some cj->eK h σ a cj)->eK h σ (.ms id n i len) (.sl false k dp)
 | ak {id n i j k:Nat} {t:TypeId} {l cs:am} {e:θ}:h<=id->σ[id]?=some (.cells t k l)->l.length=n->l[i]?=some e->cs.length<=e.cells.length-j->
   (∀(x:Nat) (a cj:θ),e.cells[j+x]?=some a->cs[x]?=some cj->eK h σ a cj)->eK h σ (.ak id n i j) (.au cs)
 | a3 {l dp:am}:dp.length=l.length->(∀(x:Nat) (a cj:θ),l[x]?=some a->dp[x]?=some cj->eK h σ a cj)->eK h σ (.a3 l) (.a3 dp)
 | bj {l dp:am}:dp.length=l.length->(∀(x:Nat) (a cj:θ),l[x]?=some a->dp[x]?=some cj->eK h σ a cj)->eK h σ (.bj l) (.bj dp)
 | fn {f:Fn} {dr Iy cs cs':am}:Iy.length=dr.length->cs'.length=cs.length->(∀(x:Nat) (a cj:θ),dr[x]?=some a->Iy[x]?=some cj->eK h σ a cj)->(∀(x:Nat) (a cj:θ),cs[x]?=some a->cs'[x]?=some cj->eK h σ a cj)->eK h σ (.fn f dr cs) (.fn f Iy cs')
section
variable {S:aO} {B:a0} {H:Γ} {σ:ac} {h:Nat}
def Late (B:a0) (σ:ac) (h b:Nat):Prop:=∃id t k l N,h<=id/\σ[id]?=some (Row.cells t k l)/\B[id]?=some (some (b,N))
open Classical in
noncomputable def aO.close (S:aO) (B:a0) (σ:ac) (H:Γ) (h:Nat):aO:=λb o=>if Late B σ h b then(H.aS b o).map (·.1) else S b o
theorem Ew (Δ:Holds S B σ H):∀b o v,S b o=some v->S.close B σ H h b o=some v:=λb o v hv=>by
 unfold aO.close;split
 ·rename_i π;obtain⟨id,t,k,l,N,U,γ,ο⟩:=π;have:=Δ.sep id _ b N γ trivial ο o;rw[hv] at this;cases this
 ·exact hv
theorem aA.sg (Δ:Holds S B σ H) {a:θ} {v:Value} (μ:aA S B σ a v) (hb:aG h a):aA (S.close B σ H h) (B.take h) (σ.take h) a v:=by
 have bn:∀{α:Type} (l:List α) (i:Nat),i<h->(l.take h)[i]?=l[i]?:=λl i hi=>List.getElem?_take_of_lt hi
 induction μ with
 | z v=>exact .z v
 | au b o w U _ Α=>
  cases hb with
  | au hb=>exact .au b o w (λj a ζ=>Ew Δ _ _ _ (U j a ζ)) λj a ζ=>Α j a ζ (hb a (cy ζ))
 | iT base cap h=>exact .iT base cap h
 | sl b o cap w U γ ο Ι _ Α=>
  cases hb with
  | sl hb=>exact .sl b o cap w U γ ο (λi e hi j c ζ=>Ew Δ _ _ _ (Ι i e hi j c ζ)) λi e hi j c ζ=>Α i e hi j c ζ (hb e (cy hi) c (cy ζ))
 | a3 vs U _ Α=>
  cases hb with
  | a3 hb=>exact .a3 vs U λi a v hi hv=>Α i a v hi hv (hb a (cy hi))
 | bj vs U _ Α=>
  cases hb with
  | bj hb=>exact .bj vs U λi a v hi hv=>Α i a v hi hv (hb a (cy hi))
 | ak U γ ο=>
  cases hb with
  | ak hb=>exact .ak (by rw[bn _ _ hb];exact U) γ (by rw[bn _ _ hb];exact ο)
 | kB v U γ=>
  cases hb with
  | ak hb=>exact .kB v (by rw[bn _ _ hb];exact U) γ
 | ms cap U γ ο Ι ax bf=>
  cases hb with
  | ms hb=>exact .ms cap (by rw[bn _ _ hb];exact U) γ (by rw[bn _ _ hb];exact ο) Ι ax bf
 | jZ v U γ=>
  cases hb with
  | ms hb=>exact .jZ v (by rw[bn _ _ hb];exact U) γ
 | fn vs ws U γ _ _ te nz=>
  cases hb with
  | fn lY gb=>exact .fn vs ws U γ (λi a v hi hv=>te i a v hi hv (lY a (cy hi))) λi a v hi hv=>nz i a v hi hv (gb a (cy hi))
 | gp v _ Α=>
  cases hb with
  | gp hb=>exact .gp v (Α hb)
 | mp U γ=>
  cases hb with
  | mp hb=>exact .mp (by rw[bn _ _ hb];exact U) (by rw[bn _ _ hb];exact γ)
 | mF v U=>
  cases hb with
  | mp hb=>exact .mF v (by rw[bn _ _ hb];exact U)
 | it U γ=>
  cases hb with
  | it hb=>exact .it (by rw[bn _ _ hb];exact U) (by rw[bn _ _ hb];exact γ)
 | oe v U=>
  cases hb with
  | it hb=>exact .oe v (by rw[bn _ _ hb];exact U)
 | cz v=>exact .cz v
theorem NZ {id b N:Nat} {t:TypeId} {k:Nat} {l:am} (ao:h<=id) (U:σ[id]?=some (.cells t k l)) (γ:B[id]?=some (some (b,N))) {o:Nat} {v:Value} {p:Bool} (hv:H.aS b o=some (v,p)):S.close B σ H h b o=some v:=by
 unfold aO.close;rw[if_pos ⟨id,t,k,l,N,ao,U,γ⟩,hv];rfl
theorem aA.W0 (Δ:Holds S B σ H) {a cj:θ} (ξ:eK h σ a cj):∀{v:Value},aA S B σ a v->aA (S.close B σ H h) (B.take h) (σ.take h) cj v:=by
 induction ξ with
 | low hb=>intro v μ;exact μ.sg Δ hb
 | cz a=>intro v _;exact .cz v
 | @ms id n i len k t l dp U γ ο Ι ax bf _ Α=>
  intro v μ;cases μ with
  | ms cap aa ai aZ cn gr jm=>
   rw[γ] at aa;cases aa;by_cases Ψ:dp=[]
   ·subst Ψ;have:len=0:=by rw[<-ax];rfl
    subst this;exact .iT _ _ η
   ·have qS:0<len:=by rw[<-ax];exact List.length_pos_iff.2 Ψ
    rcases jm with jm|⟨b,N,rfl,rfl,jm⟩
    ·omega
    ·obtain⟨_,_,_,w,hw⟩:=Δ.row id _ _ γ aZ;have el:∀(j:Nat) (aP:θ),dp[j]?=some aP->∃e,l[i+j]?=some e/\e.cells.length=k/\aP.cells.length=k:=λj aP ζ=>by
      have aN:j<len:=by rw[<-ax];exact(b0.1 ζ).1
      have he:l[i+j]?=some l[i+j]:=a6 J;exact⟨_,he,(hw _ _ he).1,(bf j _ aP he ζ).trans (hw _ _ he).1⟩
     have:=aA.sl (S:=S.close B σ H h) (B:=B.take h) (σ:=σ.take h) (ex:=false) (k:=k) (l:=dp) b (i*k) cap (λj x=>w (i+j) x) η J (λj aP ζ=>(el j aP ζ).choose_spec.2.2)
      (λj aP ζ x cj δ=>by
       obtain⟨e,Ζ,Ε,a8⟩:=el j aP ζ;have Ex:x<e.cells.length:=by rw[Ε,<-a8];exact(b0.1 δ).1
       have:=((hw _ e Ζ).2 x _ (a6 Ex)).1;rw[Nat.add_mul] at this;exact NZ U γ aZ this)
      (λj aP ζ x cj δ=>by
       obtain⟨e,Ζ,Ε,a8⟩:=el j aP ζ;have Ex:x<e.cells.length:=by rw[Ε,<-a8];exact(b0.1 δ).1
       exact Α j e aP Ζ ζ x _ cj (a6 Ex) δ ((hw _ e Ζ).2 x _ (a6 Ex)).2.1)
     rw[ax] at this;exact this
  | jZ v aa ai=>rw[γ] at aa;cases aa;simp only[Row.hT] at ai;omega
 | @ak id n i j k t l cs e U γ ο Ι ax bf Α=>
  intro v μ;cases μ with
  | ak aa ai aZ=>
   rw[γ] at aa;cases aa;obtain⟨_,_,_,w,hw⟩:=Δ.row id _ _ γ aZ;have el:∀(x:Nat) (cj:θ),cs[x]?=some cj->∃a,e.cells[j+x]?=some a:=λx cj δ=>by
    have:=(b0.1 δ).1;exact⟨_,a6 J⟩
   refine .au _ _ (λx=>w i (j+x)) (λx cj δ=>?_) (λx cj δ=>?_)
   ·obtain⟨a,ν⟩:=el x cj δ;have:=((hw i e Ι).2 _ a ν).1;rw[<-Nat.add_assoc] at this;exact NZ U γ aZ this
   ·obtain⟨a,ν⟩:=el x cj δ;exact Α x a cj ν δ ((hw i e Ι).2 _ a ν).2.1
  | kB v aa ai=>rw[γ] at aa;cases aa;simp only[Row.hT] at ai;omega
 | a3 U γ Α=>
  intro v μ;cases μ with
  | a3 vs aa ai=>
   refine .a3 vs (by rw[U,aa]) λi cj w hi hv=>?_;have aN:=(b0.1 hi).1;have ν:=a6 (U▸aN);exact Α i _ cj ν hi (ai i _ w ν hv)
 | bj U γ Α=>
  intro v μ;cases μ with
  | bj vs aa ai=>
   refine .bj vs (by rw[U,aa]) λi cj w hi hv=>?_;have aN:=(b0.1 hi).1;have ν:=a6 (U▸aN);exact Α i _ cj ν hi (ai i _ w ν hv)
 | fn U γ _ _ te nz=>
  intro v μ;cases μ with
  | fn vs ws aa ai aZ cn=>
   refine .fn vs ws (by rw[U,aa]) (by rw[γ,ai]) (λi cj w hi hv=>?_) (λi cj w hi hv=>?_)
   ·have aN:=(b0.1 hi).1
    have ν:=a6 (U▸aN);exact te i _ cj ν hi (aZ i _ w ν hv)
   ·have aN:=(b0.1 hi).1
    have ν:=a6 (γ▸aN);exact nz i _ cj ν hi (cn i _ w ν hv)
theorem kC.sg (Δ:Holds S B σ H) {r:Row} {bo:Option (Nat×Nat)} (μ:kC S B σ H r bo) (hb:fC h r):kC (S.close B σ H h) (B.take h) (σ.take h) H r bo:=by
 have bn:∀{α:Type} (l:List α) (i:Nat),i<h->(l.take h)[i]?=l[i]?:=λl i hi=>List.getElem?_take_of_lt hi;cases r with
 | cells t k l=>
  cases bo with
  | none=>exact μ
  | some x=>
   obtain⟨b,N⟩:=x;obtain⟨U,γ,ο,w,Ι⟩:=μ;refine⟨U,γ,ο,w,λi e hi=>⟨(Ι i e hi).1,λj a ζ=>?_⟩⟩;obtain⟨c1,c2,c3⟩:=(Ι i e hi).2 j a ζ;exact⟨c1,c2.sg Δ (hb e (cy hi) a (cy ζ)),c3⟩
 | map es=>
  obtain⟨b,N,xs,clock,rfl,U,γ,ο,Ι⟩:=μ;exact⟨b,N,xs,clock,rfl,U,γ,λi e y a b=>by
   obtain⟨c1,c2,c3⟩:=ο i e y a b;exact⟨c1.sg Δ (hb e (cy a)).1,c2.sg Δ (hb e (cy a)).2,c3⟩,Ι⟩
 | iter m left cur=>
  obtain⟨hm,lY,gb⟩:=hb;obtain⟨b,N,a4,lB,xs,clock,seen,rfl,U,γ,ο,Ι,⟨cQ,i1,i2,i3⟩,i4,i5⟩:=μ;refine⟨b,N,a4,lB,xs,clock,seen,rfl,by rw[bn _ _ hm];exact U,by rw[bn _ _ hm];exact γ,ο,Ι,⟨cQ,i1,i2,λi e y a b=>?_⟩,i4,λe he=>?_⟩
  ·obtain⟨c1,c2⟩:=i3 i e y a b;exact⟨c1.sg Δ (lY e (cy a)).1,c2.sg Δ (lY e (cy a)).2⟩
  ·obtain⟨st,y,a,b,c,d⟩:=i5 e he;exact⟨st,y,a,b,c.sg Δ (gb e he).1,d.sg Δ (gb e he).2⟩
 | dead=>trivial
theorem Holds.close (Δ:Holds S B σ H) (hb:∀(id:Nat) (r:Row),id<h->σ[id]?=some r->fC h r) :
  Holds (S.close B σ H h) (B.take h) (σ.take h) H/\Ext S B H (S.close B σ H h) (B.take h) H:=by
 have bn:∀{α:Type} (l:List α) (i:Nat) (x:α),(l.take h)[i]?=some x->i<h/\l[i]?=some x:=λl i x hi=>by
  rw[List.getElem?_take] at hi;split at hi
  ·exact⟨‹_›,hi⟩
  ·cases hi
 refine⟨⟨λb o v hv=>?_,by simp[Δ.len],λid r bo μ eJ=>?_,λi j eF cp b gO gP fP hi ζ g5 ek g6 cT=>?_,λid r b N μ π eJ o=>?_⟩,⟨Ew Δ,λb _ _=>og.of ⟨λ_=>rfl,rfl,rfl⟩,λb ⟨N,cK⟩=>.inl ⟨N,List.mem_of_mem_take cK⟩,λb o v hv=>?_,λ_ h=>h⟩⟩
 ·unfold aO.close at hv;split at hv
  ·cases ε:H.aS b o with
   | none=>rw[ε] at hv;cases hv
   | some x=>rw[ε] at hv;cases hv;exact⟨x.2,rfl⟩
  ·exact Δ.dy b o v hv
 ·obtain⟨U,γ⟩:=bn _ _ _ μ;obtain⟨_,ο⟩:=bn _ _ _ eJ;exact(Δ.row id r bo γ ο).sg Δ (hb id r U γ)
 ·exact Δ.inj i j eF cp b gO gP fP (bn _ _ _ hi).2 (bn _ _ _ ζ).2 g5 ek (bn _ _ _ g6).2 (bn _ _ _ cT).2
 ·obtain⟨U,γ⟩:=bn _ _ _ μ;obtain⟨_,ο⟩:=bn _ _ _ eJ;unfold aO.close;rw[if_neg]
  ·exact Δ.sep id r b N γ π ο o
  ·rintro⟨Ey,t,k,l,fp,aa,ai,aZ⟩;exact Δ.inj id Ey r _ b N fp J γ ai π trivial ο aZ
 ·unfold aO.close at hv;split at hv
  ·rename_i π;obtain⟨id,t,k,l,N,_,_,ο⟩:=π;exact .inr (.inl (pQ ο))
  ·exact .inl hv
theorem b8.close {fJ:aO} {eV:a0} {σ0:ac} (Δ:Holds S B σ H) (π:b8 fJ S eV B σ0 σ) (a5:σ0.length<=h):b8 fJ (S.close B σ H h) eV (B.take h) σ0 (σ.take h):=
 ⟨λb o v hv=>Ew Δ b o v (π.dy b o v hv),λid r μ=>by
  have cb:id<h:=Nat.lt_of_lt_of_le (b0.1 μ).1 a5;obtain⟨r',U,γ⟩:=π.rows id r μ;exact⟨r',by rw[List.getElem?_take_of_lt cb];exact U,by rw[List.getElem?_take_of_lt cb];exact γ⟩⟩
end
end Go.TL
namespace Go.TL
open Go.Conc
variable [bq]
structure ff (m:Nat) (S:aO) (B:a0) (H:Γ) (σ:ac) (aJ:aO) (B':a0) (H':Γ) (σ':ac):Prop where
 ext:Ext S B H aJ B' H'
 later:b8 S aJ (B.take m) B' (σ.take m) σ'
structure gd (m nt:Nat) (S:aO) (B:a0) (H:Γ) (σ:ac) (env:ab) (t:Array Value):Prop where
 holds:Holds S B σ H
 cH:dB S B σ env t
 size:t.size=nt
 rows:m<=σ.length
section
variable {m:Nat} {S aJ Ao:aO} {B B' Ap:a0} {H H' N0:Γ} {σ σ' Aq:ac}
theorem b8.left (h:b8 S aJ B B' σ σ') (m:Nat):b8 S aJ (B.take m) B' (σ.take m) σ':=
 ⟨h.dy,λid r μ=>by
  rw[List.getElem?_take] at μ;split at μ
  ·rename_i aN;rw[List.getElem?_take_of_lt aN];exact h.rows id r μ
  ·cases μ⟩
theorem b8.right (h:b8 S aJ B B' σ σ') (hm:σ.length<=m):b8 S aJ B (B'.take m) σ (σ'.take m):=
 ⟨h.dy,λid r μ=>by
  have aN:id<m:=Nat.lt_of_lt_of_le (b0.1 μ).1 hm;rw[List.getElem?_take_of_lt aN,List.getElem?_take_of_lt aN];exact h.rows id r μ⟩
theorem ff.of (h:Ext S B H aJ B' H') (k:b8 S aJ B B' σ σ'):ff m S B H σ aJ B' H' σ':=⟨h,k.left m⟩
theorem ff.refl:ff m S B H σ S B H σ:=.of (.refl _ _ _) (.refl _ _ _)
theorem ff.trans (h:ff m S B H σ aJ B' H' σ') (k:ff m aJ B' H' σ' Ao Ap N0 Aq):ff m S B H σ Ao Ap N0 Aq:=
 ⟨h.ext.trans k.ext,(h.later.right (m:=m) (by simp;omega)).trans k.later⟩
theorem b8.length (h:b8 S aJ B B' σ σ'):σ.length<=σ'.length:=by
 apply Classical.byContradiction;intro Θ;have aN:σ'.length<σ.length:=J;obtain⟨r',U,_⟩:=h.rows σ'.length _ (a6 aN);simp at U
end
def Leaves (j:List Item) (k:List Item):Prop:=k=j
def W (P:Program) (m nt:Nat) (k:List Item) (env:ab) (σ:ac) (Z:be) (E:aq):Prop:=
 ∀(Q:Value->Prop) (mn:Bool) (x:hz) (cs:List Frame) (b:Frame) (S:aO) (B:a0) (H:Γ) (t:Array Value),Seq x->b.mode=.run->gd m nt S B H σ env t->
  (∀(j:List Item) (env':ab) (σ':ac) (aJ:aO) (B':a0) (H':Γ) (t':Array Value) (al:List Item),Z j env' σ'->ff m S B H σ aJ B' H' σ'->gd m nt aJ B' H' σ' env' t'->Leaves j al->aV P Q mn x (aD b t' al) cs H')->
  (∀(a:θ) (env':ab) (σ':ac) (aJ:aO) (B':a0) (H':Γ) (t':Array Value) (al:List Item) (v:Value),E a env' σ'->ff m S B H σ aJ B' H' σ'->Holds aJ B' σ' H'->dB aJ B' σ' env' t'->aA aJ B' σ' a v->aV P Q mn x {aD b t' al with mode:=.panicking [{v,recovered:=false}]} cs H')->
  aV P Q mn x (aD b t k) cs H
section
variable {P:Program} {m nt:Nat} {k:List Item} {env:ab} {σ:ac} {Z:be} {E:aq}
theorem W.stop (h:Z k env σ):W P m nt k env σ Z E:=λ_ _ _ _ _ S B H t _ _ ω Ψ _=>Ψ k env σ S B H t k h .refl ω rfl
theorem W.nil (h:Z [] env σ):W P m nt [] env σ Z E:=.stop h
theorem W.ret (h:Z (.code .ret::k) env σ):W P m nt (.code .ret::k) env σ Z E:=.stop h
theorem W.skip (h:W P m nt k env σ Z E):W P m nt (.code .skip::k) env σ Z E:=λQ mn x cs b S B H t δ hb ω Ψ he=>.skip δ hb (h Q mn x cs b S B H t δ hb ω Ψ he)
theorem W.inBlock {l:Nat} (h:W P m nt k env σ Z E):W P m nt (.inBlock l::k) env σ Z E:=λQ mn x cs b S B H t δ hb ω Ψ he=>.inBlock δ hb (h Q mn x cs b S B H t δ hb ω Ψ he)
theorem W.seq {a c:Code} (h:W P m nt (.code a::.code c::k) env σ Z E):W P m nt (.code (.seq a c)::k) env σ Z E:=λQ mn x cs b S B H t δ hb ω Ψ he=>.seq δ hb (h Q mn x cs b S B H t δ hb ω Ψ he)
theorem W.block {l:Nat} {c:Code} (h:W P m nt (.code c::.inBlock l::k) env σ Z E):W P m nt (.code (.block l c)::k) env σ Z E:=λQ mn x cs b S B H t δ hb ω Ψ he=>.block δ hb (h Q mn x cs b S B H t δ hb ω Ψ he)
theorem W.inLoop {c:Code} (h:W P m nt (.code c::.inLoop c::k) env σ Z E):W P m nt (.inLoop c::k) env σ Z E:=λQ mn x cs b S B H t δ hb ω Ψ he=>.inLoop δ hb (h Q mn x cs b S B H t δ hb ω Ψ he)
theorem W.loop {c:Code} (h:W P m nt (.code c::.inLoop c::k) env σ Z E):W P m nt (.code (.loop c)::k) env σ Z E:=λQ mn x cs b S B H t δ hb ω Ψ he=>.loop δ hb (h Q mn x cs b S B H t δ hb ω Ψ he)
theorem W.exit {id:Nat} {al:List Item} (ψ:exitTo id k=some al) (h:W P m nt al env σ Z E):W P m nt (.code (.exit id)::k) env σ Z E:=λQ mn x cs b S B H t δ hb ω Ψ he=>.exit δ hb ψ (h Q mn x cs b S B H t δ hb ω Ψ he)
theorem W.cond {c:Operand} {a e:Code} {v:Bool} (ε:aT env c=.z (.bool v)) (h:W P m nt (.code (if v then a else e)::k) env σ Z E):W P m nt (.code (.cond c a e)::k) env σ Z E:=λQ mn x cs b S B H t δ hb ω Ψ he=>by
 refine .cond (v:=v) δ hb ?_ (h Q mn x cs b S B H t δ hb ω Ψ he);have:=mI ω.cH c;rw[ε] at this;rw[Am];generalize bt t c=u at this;cases this;rfl
theorem W.cut (h:Nat) (hm:m<=h) (env':ab) (a5:h<=σ.length) (k4:∀(id:Nat) (r:Row),id<h->σ[id]?=some r->fC h r) (cO:∀p∈env',eK h σ (a' env p.1) p.2) (hW:W P m nt k env' (σ.take h) Z E):W P m nt k env σ Z E:=
 λQ mn x cs b S B H t δ hb ω Ψ he=>by
 obtain⟨c1,c2⟩:=ω.holds.close k4;have π:b8 S (S.close B σ H h) (B.take m) (B.take h) (σ.take m) (σ.take h):=by
  have:=b8.close (h:=h) ω.holds ((b8.refl S B σ).left m) (by simp;omega);exact this
 have ν:ff m S B H σ (S.close B σ H h) (B.take h) H (σ.take h):=⟨c2,π⟩
 have wY:∀(l:ab),(∀p∈l,eK h σ (a' env p.1) p.2)->∀i,eK h σ (a' env i) (a' l i):=by
  intro l
  induction l with
  | nil=>intro _ i;exact .cz _
  | cons p l Α=>
   intro π i;simp only[a'];split
   ·rename_i e;rw[<-e];exact π p η
   ·exact Α (λq Χ=>π q (by simp[Χ])) i
 refine hW Q mn x cs b _ _ H t δ hb ⟨c1,λi=>(ω.cH i).W0 ω.holds (wY env' cO i),ω.size,by simp;omega⟩ (λj gS gf c8 e3 bN t2 bT aa ai aZ cn=>?_) (λa gS gf c8 e3 bN t2 bT v aa ai aZ cn gr=>?_)
 ·exact Ψ j gS gf c8 e3 bN t2 bT aa (ν.trans ai) aZ cn
 ·exact he a gS gf c8 e3 bN t2 bT v aa (ν.trans ai) aZ cn gr
end
def gg (S:aO) (B:a0) (σ:ac) (as9:am) (vs:Array Value):Prop:=as9.length=vs.size/\∀(i:Nat) (a:θ) (v:Value),as9[i]?=some a->vs[i]?=some v->aA S B σ a v
structure wZ (P:Program) (Q:Value->Prop) (mn:Bool) (x:hz) (c:Frame) (rest:List Frame) (S:aO) (B:a0) (H:Γ) (σ:ac) (K:θ->ac->Prop) (E:θ->ac->Prop):Prop where
 ret:∀(a:θ) (σ':ac) (aJ:aO) (B':a0) (H':Γ) (v:Value),K a σ'->Ext S B H aJ B' H'->b8 S aJ B B' σ σ'->Holds aJ B' σ' H'->aA aJ B' σ' a v->aV P Q mn x (c.finish v) rest H'
 yI:∀(a:θ) (σ':ac) (aJ:aO) (B':a0) (H':Γ) (v:Value),E a σ'->Ext S B H aJ B' H'->b8 S aJ B B' σ σ'->Holds aJ B' σ' H'->aA aJ B' σ' a v->aV P Q mn x (c.raise [{v,recovered:=false}]) rest H'
def N1 (P:Program) (Q:Value->Prop) (mn:Bool) (x:hz) (c:Frame) (rest:List Frame):Next->Γ->Prop
 | .enter g as9,H=>aV P Q mn x (Frame.enter P g as9 .normal) (c::rest) H
 | .round l f yk Dt ta,H=>aV P Q mn x (Frame.round l f yk Dt ta .normal) (c::rest) H
 | .value v,H=>aV P Q mn x (c.finish v) rest H
 | _,_=>False
def hV (P:Program) (f:θ) (args:am) (σ:ac) (K:θ->ac->Prop) (E:θ->ac->Prop):Prop:=
 ∀(Q:Value->Prop) (mn:Bool) (x:hz) (c:Frame) (rest:List Frame) (S:aO) (B:a0) (H:Γ) (Ο:Value) (vs:Array Value),Seq x->Holds S B σ H->aA S B σ f Ο->gg S B σ args vs->wZ P Q mn x c rest S B H σ K E->
  χ P (do let d <-Deferred.ofValue Ο vs;invoke d.target d.args) H (N1 P Q mn x c rest) (λ_ _=>False)
def Plain (P:Program) (g:FuncId):Prop:=∃fn,P.funcs[g]?=some fn/\(fn.name == "runtime.NumGoroutine")=false/\fn.body.isNone=false
def af (P:Program) (g:FuncId) (args:am) (σ:ac) (K:θ->ac->Prop) (E:θ->ac->Prop):Prop:=
 Plain P g/\∀(Q:Value->Prop) (mn:Bool) (x:hz) (c:Frame) (rest:List Frame) (S:aO) (B:a0) (H:Γ) (vs:Array Value),Seq x->Holds S B σ H->gg S B σ args vs->wZ P Q mn x c rest S B H σ K E->
  aV P Q mn x (Frame.enter P g vs .normal) (c::rest) H
section
variable {P:Program} {T:bk} {A:List Nat} {m nt:Nat} {k:List Item} {env:ab} {σ:ac} {Z:be} {E:θ->ac->Prop} {K:θ->ac->Prop} {F:aq}
theorem gg.append {S:aO} {B:a0} {as9 nC:am} {vs ws:Array Value} (h:gg S B σ as9 vs) (k:gg S B σ nC ws):gg S B σ (as9++nC) (vs++ws):=by
 refine⟨by simp[h.1,k.1],λi a v U γ=>?_⟩;by_cases aN:i<as9.length
 ·rw[dM aN] at U;rw[Array.getElem?_append_left (by rw[<-h.1];exact aN)] at γ;exact h.2 i a v U γ
 ·rw[gA J] at U;rw[Array.getElem?_append_right (by rw[<-h.1];omega),<-h.1] at γ;exact k.2 _ a v U γ
theorem af.mono {g:FuncId} {args:am} {K':θ->ac->Prop} {E':θ->ac->Prop} (h:af P g args σ K E) (κ:∀a s,K a s->K' a s) (dF:∀a s,E a s->E' a s):af P g args σ K' E':=
 ⟨h.1,λQ mn x c rest S B H vs δ Δ hv hb=>h.2 Q mn x c rest S B H vs δ Δ hv ⟨λa σ' aJ B' H' v ψ=>hb.ret a σ' aJ B' H' v (κ _ _ ψ),λa σ' aJ B' H' v ψ=>hb.yI a σ' aJ B' H' v (dF _ _ ψ)⟩⟩
theorem hV.mono {f:θ} {args:am} {K':θ->ac->Prop} {E':θ->ac->Prop} (h:hV P f args σ K E) (κ:∀a s,K a s->K' a s) (dF:∀a s,E a s->E' a s):hV P f args σ K' E':=
 λQ mn x c rest S B H Ο vs δ Δ Ρ hv hb=>h Q mn x c rest S B H Ο vs δ Δ Ρ hv ⟨λa σ' aJ B' H' v ψ=>hb.ret a σ' aJ B' H' v (κ _ _ ψ),λa σ' aJ B' H' v ψ=>hb.yI a σ' aJ B' H' v (dF _ _ ψ)⟩
theorem af.call {g:FuncId} {first args captured:am} (h:af P g (first++args++captured) σ K E):hV P (.fn (.func g) first captured) args σ K E:=by
 intro Q mn x c rest S B H Ο vs δ Δ Ρ hv hb;cases Ρ with
 | fn v1 v2 U γ ο Ι=>
  refine χ.bind' (χ.pure' ?_);obtain⟨⟨fn,bR,l5,Ez⟩,Iz⟩:=h;unfold invoke;simp only;unfold callFunc;refine χ.bind' ?_;show χ P (match P.funcs[g]? with|none=>_|some fn=>_) H _ _;rw[bR];simp only[l5,Ez,Bool.false_eq_true,if_false];refine χ.pure' ?_;have r1:gg S B σ first v1:=⟨U,ο⟩
  have r2:gg S B σ captured v2:=⟨γ,Ι⟩;exact Iz Q mn x c rest S B H _ δ Δ ((r1.append hv).append r2) hb
def ft (env:ab) (ops:Array Oper) (o:Oper):Option Bool:=match o.guard with
 | none=>some true
 | some (j,want)=>match (ops[j]?).bind (·.dst) with
  | some d=>match a' env d with
   | .z (.bool b)=>some (b==want)
   | _=>none
  | none=>none
theorem k5 {S:aO} {B:a0} {t:Array Value} (h:dB S B σ env t) {ops:Array Oper} {o:Oper} {w:Bool} (hw:ft env ops o=some w):Region.wanted o (yielded ops t)=w:=by
 unfold ft at hw;unfold Region.wanted;split at hw
 ·rename_i Ω;rw[Ω];cases hw;rfl
 ·rename_i j want Ω;rw[Ω];split at hw
  ·rename_i d hd;split at hw
   ·rename_i b hb;cases hw;have μ:=h d;rw[hb] at μ;unfold yielded;rw[Array.getD_eq_getD_getElem?] at μ;cases Υ:t[d]? with
    | none=>rw[Υ] at μ;cases μ
    | some v=>
     rw[Υ] at μ;simp only[Option.getD_some] at μ;cases μ;simp only[hd,Option.bind_some,Υ];cases b<;>cases want<;>rfl
   ·cases hw
  ·cases hw
def b7 (o:Oper) (env:ab) (a:θ):ab:=match o.dst with|some d=>(d,a)::env|none=>env
def hD (nt:Nat) (o:Oper):Bool:=match o.dst with|some d=>decide (d<nt)|none=>true
theorem sh {S:aO} {B:a0} {t:Array Value} (h:dB S B σ env t) {o:Oper} (hd:hD nt o=true) (Υ:t.size=nt) {a:θ} {v:Value} (ν:aA S B σ a v):dB S B σ (b7 o env a) (put o t v)/\(put o t v).size=nt:=by
 unfold b7 put;unfold hD at hd;cases si:o.dst with
 | none=>exact⟨h,Υ⟩
 | some d=>
  rw[si] at hd;simp only[decide_eq_true_eq] at hd;exact⟨h.put (by rw[Υ];exact hd) ν,by simp[Υ]⟩
theorem W.unwanted {ops:Array Oper} {i:Nat} {o:Oper} {rest:List Nat} (Β:ops[i]?=some o) (hw:ft env ops o=some false) (hd:hD nt o=true) (h:W P m nt (.inRegion ops rest::k) (b7 o env .cz) σ Z F):W P m nt (.inRegion ops (i::rest)::k) env σ Z F:=
 λQ mn x cs b S B H t δ hb ω Ψ he=>by
 obtain⟨s1,s2⟩:=sh ω.cH hd ω.size (a:=.cz) (v:=undef) (.cz _);exact .unwanted δ hb Β (k5 ω.cH hw) (h Q mn x cs b S B H _ δ hb ⟨ω.holds,s1,s2,ω.rows⟩ Ψ he)
theorem W.op (Ν:bU P T) {ops:Array Oper} {i:Nat} {o:Oper} {rest:List Nat} (Β:ops[i]?=some o) (hw:ft env ops o=some true) (hd:hD nt o=true) (lF:∀c,o.op≠.defer c)
  (h:((jK T A env o).or σ (iD T A env σ o)).holds λa σ'=>W P m nt (.inRegion ops rest::k) (b7 o env a) σ' Z F):W P m nt (.inRegion ops (i::rest)::k) env σ Z F:=
 λQ mn x cs b S B H t δ hb ω Ψ he=>by
 refine .op δ hb Β (k5 ω.cH hw) (.inr lF) ?_;have W1:=cB.WS (WY (A:=A) Ν ω.holds ω.cH o) (WZ (A:=A) Ν ω.holds ω.cH o);refine χ.mono (λee H' ⟨v,hv,aJ,B',σ',a,κ,pX,jo,π,μ⟩=>?_) (λ_ _ h=>h.elim) _ (W1 _ h);obtain⟨s1,s2⟩:=sh (ω.cH.later π) hd ω.size μ;have ν:ff m S B H σ aJ B' H' σ':=.of pX π;have fin:aV P Q mn x (aD b (put o t v) (.inRegion ops rest::k)) cs H':=
  κ Q mn x cs b aJ B' H' _ δ hb ⟨jo,s1,s2,Nat.le_trans ω.rows π.length⟩ (λj gS gf c8 e3 bN t2 bT aa ai aZ cn=>Ψ j gS gf c8 e3 bN t2 bT aa (ν.trans ai) aZ cn)
   (λbb gS gf c8 e3 bN t2 bT v2 aa ai aZ cn gr=>he bb gS gf c8 e3 bN t2 bT v2 aa (ν.trans ai) aZ cn gr)
 cases ee<;>simp only[Nh,reduceCtorEq,Option.some.injEq] at hv<;>first|(subst hv;exact fin)|skip
theorem W.call {ops:Array Oper} {i:Nat} {o:Oper} {rest:List Nat} (Β:ops[i]?=some o) (hw:ft env ops o=some true) (hd:hD nt o=true) {f:Operand} {args:Array Operand} {eu:Array TypeId} (Τ:o.op=.call ⟨.value f,args,eu⟩)
  (h:hV P (aT env f) (args.toList.map (aT env)) σ (λa σ'=>W P m nt (.inRegion ops rest::k) (b7 o env a) σ' Z F) (λa s=>F a env s)):W P m nt (.inRegion ops (i::rest)::k) env σ Z F:=
 λQ mn x cs b S B H t δ hb ω Ψ he=>by
 refine .op δ hb Β (k5 ω.cH hw) (.inr λc=>by rw[Τ];simp) ?_;have nD:gg S B σ (args.toList.map (aT env)) (args.map (bt t)):=by
  refine⟨η,λi a v U γ=>?_⟩;rw[List.getElem?_map,Array.getElem?_toList] at U;rw[Array.getElem?_map] at γ;cases δ:args[i]? with
  | none=>rw[δ] at U;cases U
  | some y=>rw[δ] at U γ;cases U;cases γ;exact mI ω.cH y
 have Iz:=h Q mn x (aD b t (.inRegion ops (i::rest)::k)) cs S B H (bt t f) (args.map (bt t)) δ ω.holds (mI ω.cH f) nD ⟨λa σ' aJ B' H' v κ pX π jo μ=>?_,λa σ' aJ B' H' v dF pX π jo μ=>?_⟩
 ·have e:execOp (bt t) o=(do let d <-Deferred.ofValue (bt t f) (args.map (bt t));invoke d.target d.args):=by unfold execOp;rw[Τ];rfl
  rw[e];refine χ.mono (λee H' Θ=>?_) (λ_ _ h=>h.elim) _ Iz;cases ee<;>first|exact Θ.elim|exact Θ|skip
  rename_i v;have:=jl (b:=b) (t:=t) (k:=k) (v:=v) Β (rest:=rest);simp only[N1] at Θ;rw[this] at Θ;exact Θ
 ·obtain⟨s1,s2⟩:=sh (ω.cH.later π) hd ω.size μ;have ν:ff m S B H σ aJ B' H' σ':=.of pX π;rw[jl Β];exact κ Q mn x cs b aJ B' H' _ δ hb ⟨jo,s1,s2,Nat.le_trans ω.rows π.length⟩ (λj gS gf c8 e3 bN t2 bT aa ai aZ cn=>Ψ j gS gf c8 e3 bN t2 bT aa (ν.trans ai) aZ cn)
   (λbb gS gf c8 e3 bN t2 bT v2 aa ai aZ cn gr=>he bb gS gf c8 e3 bN t2 bT v2 aa (ν.trans ai) aZ cn gr)
 ·have:=he a env σ' aJ B' H' t (.inRegion ops (i::rest)::k) v dF (.of pX π) jo (ω.cH.later π) μ
  have e:(aD b t (.inRegion ops (i::rest)::k)).raise [{v,recovered:=false}]={aD b t (.inRegion ops (i::rest)::k) with mode:=.panicking [{v,recovered:=false}]}:=by simp[Frame.raise,aD,hb]
  rw[e];exact this
theorem W.panic {ops:Array Oper} {i:Nat} {o:Oper} {rest:List Nat} (Β:ops[i]?=some o) (hw:ft env ops o=some true) {y:Operand} (Τ:o.op=.panic y) {ty:TypeId} {a:θ} (Μ:aT env y=.gp ty a) (h:F (.gp ty a) env σ):W P m nt (.inRegion ops (i::rest)::k) env σ Z F:=
 λQ mn x cs b S B H t δ hb ω Ψ he=>by
 refine .op δ hb Β (k5 ω.cH hw) (.inr λc=>by rw[Τ];simp) ?_;have μ:=mI ω.cH y;have e:execOp (bt t) o=(do pure (.value (<-Instr.panic (bt t y)))):=by unfold execOp;rw[Τ]
 rw[e];rw[Μ] at μ;generalize hv:bt t y=v at μ;refine χ.bind' ?_;cases μ with
 | gp fG U=>exact he (.gp ty a) env σ S B H t _ _ h .refl ω.holds ω.cH (.gp fG U)
end
def w5 (P:Program) (T:bk) (A:List Nat) (env:ab) (o:Oper) (σ:ac) (K:θ->ac->Prop) (E:aq):Prop:=match o.op with
 | .call ⟨.value f,args,_⟩=>hV P (aT env f) (args.toList.map (aT env)) σ K (λa s=>E a env s)
 | .panic y=>match aT env y with|.gp t a=>E (.gp t a) env σ|_=>False
 | .defer _=>False
 | _=>((jK T A env o).or σ (iD T A env σ o)).holds K
def iE (w:Bool) (a b:Prop):Prop:=(w=false->a)/\(w=true->b)
theorem W2 {a b:Prop}:iE true a b=b:=by simp[iE]
theorem W3 {a b:Prop}:iE false a b=a:=by simp[iE]
theorem W4 {w w':Bool} {a b:Prop} (h:w=w'):iE w a b=iE w' a b:=by rw[h]
def gu {α:Type} (x:Option α) (f:α->Prop):Prop:=match x with|none=>False|some a=>f a
theorem W5 {α:Type} {a:α} {f:α->Prop}:gu (some a) f=f a:=Eq.trans rfl rfl
theorem W6 {α:Type} {f:α->Prop}:gu none f=False:=rfl
theorem W7 {α:Type} {x dw:Option α} {f:α->Prop} (h:x=dw):gu x f=gu dw f:=by rw[h]
theorem W8 {K:θ->ac->Prop} {r r':c5} (h:r=r'):r.holds K=r'.holds K:=by rw[h]
theorem or_congr {r r':cB} {σ:ac} {s:c5} (h:r=r'):r.or σ s=r'.or σ s:=by rw[h]
def run (P:Program) (T:bk) (A:List Nat) (nt:Nat) (ops:Array Oper):List Nat->ab->ac->(ab->ac->Prop)->(aq)->Prop
 | [],env,σ,K,_=>K env σ
 | i::is,env,σ,K,E=>gu ops[i]? λo=>hD nt o=true/\gu (ft env ops o) λw=>
   iE w (run P T A nt ops is (b7 o env .cz) σ K E) (w5 P T A env o σ (λa σ'=>run P T A nt ops is (b7 o env a) σ' K E) E)
def N2 (P:Program) (T:bk) (A:List Nat) (nt:Nat) (ops:Array Oper) (is:List Nat) (o:Oper) (env:ab) (K:ab->ac->Prop) (E:aq) (a:θ) (σ':ac):Prop:=run P T A nt ops is (b7 o env a) σ' K E
theorem pY {P:Program} {T:bk} {A:List Nat} {nt:Nat} {ops:Array Oper} {env:ab} {σ:ac} {K:ab->ac->Prop} {E:aq}:run P T A nt ops [] env σ K E=K env σ:=Eq.trans rfl rfl
theorem ah {P:Program} {T:bk} {A:List Nat} {nt:Nat} {ops:Array Oper} {i:Nat} {is:List Nat} {env:ab} {σ:ac} {K:ab->ac->Prop} {E:aq} :
  run P T A nt ops (i::is) env σ K E=gu ops[i]? λo=>hD nt o=true/\gu (ft env ops o) λw=>
   iE w (run P T A nt ops is (b7 o env .cz) σ K E) (w5 P T A env o σ (N2 P T A nt ops is o env K E) E):=Eq.trans rfl rfl
theorem N3 {P:Program} {T:bk} {A:List Nat} {nt:Nat} {ops:Array Oper} {is:List Nat} {o:Oper} {env:ab} {σ:ac} {K:ab->ac->Prop} {E:aq} {a:θ}:N2 P T A nt ops is o env K E a σ=run P T A nt ops is (b7 o env a) σ K E:=Eq.trans rfl rfl
section
variable {P:Program} {T:bk} {A:List Nat} {m nt:Nat} {k:List Item} {env:ab} {σ:ac} {Z:be} {E:aq} {K:θ->ac->Prop}
theorem W.bL {ops:Array Oper} (h:W P m nt k env σ Z E):W P m nt (.inRegion ops []::k) env σ Z E:=λQ mn x cs b S B H t δ hb ω Ψ he=>.bL δ hb (h Q mn x cs b S B H t δ hb ω Ψ he)
theorem IA (Ν:bU P T) {ops:Array Oper} (k6:List Nat):∀(is:List Nat) (env:ab) (σ:ac),run P T A nt ops is env σ (λenv σ=>W P m nt (.inRegion ops k6::k) env σ Z E) E->W P m nt (.inRegion ops (is++k6)::k) env σ Z E:=by
 intro is
 induction is with
 | nil=>intro env σ h;exact h
 | cons i is Α=>
  intro env σ h;unfold run gu at h;split at h
  ·exact h.elim
  ·rename_i o Β;obtain⟨hd,h⟩:=h;split at h
   ·exact h.elim
   rename_i w hw;unfold iE at h;cases w
   ·exact .unwanted Β hw hd (Α _ _ (h.1 rfl))
   ·replace h:=h.2 rfl
    unfold w5 at h;split at h
    ·rename_i f args eu Τ;exact .call Β hw hd Τ (h.mono (λa s h=>Α _ _ h) (λ_ _ h=>h))
    ·rename_i y Τ;split at h
     ·rename_i ty a Μ;exact .panic Β hw Τ Μ h
     ·exact h.elim
    ·exact h.elim
    ·rename_i U γ ο;refine .op (A:=A) Ν Β hw hd (λc ε=>ο c ε) ?_;generalize (jK T A env o).or σ (iD T A env σ o)=r at h;have key:∀r:c5,r.holds (λa σ'=>run P T A nt ops is (b7 o env a) σ' (λenv σ=>W P m nt (.inRegion ops k6::k) env σ Z E) E)->r.holds λa σ'=>W P m nt (.inRegion ops (is++k6)::k) (b7 o env a) σ' Z E:=by
      intro r
      induction r with
      | ok a s=>exact λh=>Α _ _ h
      | b' p r nz=>exact λh=>⟨h.1,nz h.2⟩
      | all n f nz=>exact λh i hi=>nz i (h i hi)
      | bad=>exact λh=>h
     exact key r h
theorem c5.W9 {K K':θ->ac->Prop} (κ:∀a s,K a s->K' a s):∀r:c5,r.holds K->r.holds K':=by
 intro r
 induction r with
 | ok a s=>exact λh=>κ _ _ h
 | b' p r Α=>exact λh=>⟨h.1,Α h.2⟩
 | all n f Α=>exact λh i hi=>Α i (h i hi)
 | bad=>exact λh=>h
theorem W' {env:ab} {o:Oper} {K K':θ->ac->Prop} (κ:∀a s,K a s->K' a s) (h:w5 P T A env o σ K E):w5 P T A env o σ K' E:=by
 unfold w5 at h ⊢;split
 ·rename_i f args eu Τ;rw[Τ] at h;exact hV.mono h κ λ_ _ h=>h
 ·rename_i y Τ;rw[Τ] at h;exact h
 ·rename_i Τ;rw[Τ] at h;exact h
 ·rename_i U γ ο;split at h
  ·rename_i f args eu Τ;exact absurd Τ (U f args eu)
  ·rename_i y Τ;exact absurd Τ (γ y)
  ·rename_i y Τ;exact absurd Τ (ο y)
  ·exact c5.W9 κ _ h
theorem EA {ops:Array Oper} {nt:Nat} {K K':ab->ac->Prop} (κ:∀e s,K e s->K' e s):∀(is:List Nat) (env:ab) (σ:ac),run P T A nt ops is env σ K E->run P T A nt ops is env σ K' E:=by
 intro is
 induction is with
 | nil=>intro env σ h;exact κ _ _ h
 | cons i is Α=>
  intro env σ h;unfold run gu at h ⊢;cases Β:ops[i]? with
  | none=>rw[Β] at h;exact h.elim
  | some o=>
   rw[Β] at h;simp only at h ⊢;refine⟨h.1,?_⟩
   replace h:=h.2
   cases hw:ft env ops o with
   | none=>rw[hw] at h;exact h.elim
   | some w=>
    rw[hw] at h;unfold iE at h ⊢;exact⟨λe=>Α _ _ (h.1 e),λe=>W' (λa s=>Α _ _) (h.2 e)⟩
theorem Xa (Ν:bU P T) {ops:Array Oper} (is:List Nat) (env:ab) (σ:ac) (h:run P T A nt ops is env σ (λenv σ=>W P m nt k env σ Z E) E):W P m nt (.inRegion ops is::k) env σ Z E:=by
 have:=IA (A:=A) Ν [] is env σ (ops:=ops) (k:=k) (Z:=Z) (E:=E) (P:=P) (m:=m) (nt:=nt);rw[List.append_nil] at this;refine this ?_;have mono:∀(is:List Nat) (env:ab) (σ:ac) (K K':ab->ac->Prop),(∀e s,K e s->K' e s)->run P T A nt ops is env σ K E->run P T A nt ops is env σ K' E:=λis env σ K K' κ h=>EA κ is env σ h;exact mono is env σ _ _ (λe s h=>.bL h) h
def idx:Nat->List Nat->List Nat
 | 0,l=>l
 | n+1,l=>idx n (n::l)
theorem idx_eq (n:Nat):idx n []=List.range n:=by
 have:∀(n:Nat) (l:List Nat),idx n l=List.range.loop n l:=by
  intro n
  induction n with
  | zero=>intro l;rfl
  | succ n Α=>intro l;exact Α _
 exact this n []
theorem dj (Ν:bU P T) {id:Nat} {ops:Array Oper} (h:∀Κ:ab->ac->Prop,(∀env σ,W P m nt k env σ Z E->Κ env σ)->run P T A nt ops (idx ops.size []) env σ Κ E):W P m nt (.code (.region id ops false)::k) env σ Z E:=
 λQ mn x cs b S B H t δ hb ω Ψ he=>.region δ hb (Xa Ν _ _ _ (by rw[<-idx_eq];exact h _ λ_ _ h=>h) Q mn x cs b S B H t δ hb ω Ψ he)
theorem W.forget (env':ab) (cO:∀p∈env',a' env p.1=p.2) (h:W P m nt k env' σ Z E):W P m nt k env σ Z E:=
 λQ mn x cs b S B H t δ hb ω Ψ he=>by
 have wY:∀(l:ab),(∀p∈l,a' env p.1=p.2)->∀i,a' l i=.cz\/a' l i=a' env i:=by
  intro l
  induction l with
  | nil=>intro _ i;exact .inl rfl
  | cons p l Α=>
   intro π i;simp only[a'];split
   ·rename_i e;subst e;exact .inr (π p η).symm
   ·exact Α (λq Χ=>π q (by simp[Χ])) i
 refine h Q mn x cs b S B H t δ hb ⟨ω.holds,λi=>?_,ω.size,ω.rows⟩ Ψ he;rcases wY env' cO i with e|e
 ·rw[e];exact .cz _
 ·rw[e];exact ω.cH i
theorem W.ts (Ν:bU P T) (env':ab) {id:Nat} {ops:Array Oper} (h:W P m nt k env' σ Z E) (μ:run P T A nt ops (idx ops.size []) env σ (λe s=>s=σ/\∀p∈env',a' e p.1=p.2) E):W P m nt (.code (.region id ops false)::k) env σ Z E:=
 dj Ν λΚ κ=>EA (λe s ⟨U,γ⟩=>κ e s (U▸W.forget env' γ h)) _ _ _ μ
def tt (i:iU) (l:am):Option θ:=if i.agg then(if i.size<=l.length then some (.a3 (l.take i.size)) else none) else l.head?
def yJ (T:bk) (ty:TypeId) (σ:ac):θ->Option θ
 | .au cells=>match T ty with|some i=>tt i cells|none=>none
 | .ak id n i j=>match T ty,σ[id]? with
  | some lX,some (.cells _ _ l)=>if l.length=n then match l[i]? with
   | some e=>tt lX (e.cells.drop j)
   | none=>none else none
  | _,_=>none
 | _=>none
def tu (T:bk) (env:ab) (σ:ac):ResultVar->Option θ
 | .tmp t=>some (a' env t)
 | .cell a ty=>yJ T ty σ (a' env a)
def EB:am->θ
 | [a]=>a
 | l=>.bj l
def qZ (T:bk) (rs:List ResultVar) (env:ab) (σ:ac):Option θ:=(rs.mapM (tu T env σ)).map EB
theorem N4 {i:iU} {l:am} {v:θ} (h:tt i l=some v):sa i l=.ok v:=by
 unfold tt at h;unfold sa;cases Aw:i.agg with
 | true=>
  rw[Aw] at h;simp only[if_true] at h ⊢;split at h
  ·rename_i hle;cases h;rw[if_pos hle]
  ·cases h
 | false=>
  rw[Aw] at h;simp only[Bool.false_eq_true,if_false] at h ⊢;cases l with
  | nil=>cases h
  | cons a l=>cases h;rfl
theorem Xb (Ν:bU P T) {S:aO} {B:a0} {H:Γ} (Δ:Holds S B σ H) {ty:TypeId} {a v:θ} {w:Value} (h:yJ T ty σ a=some v) (μ:aA S B σ a w):cW P (do loadVar ty (<-asAddr w)) S B H σ (.ok v σ):=by
 unfold yJ at h;split at h
 ·rename_i cells;split at h
  ·rename_i i hi;cases μ with
   | au b o w U γ=>
    have:=DF Ν Δ hi w (λj a ζ=>Δ.dy _ _ _ (U j a ζ)) γ;rw[N4 h] at this;exact this
  ·cases h
 ·rename_i id n i j;split at h
  ·rename_i lX t k l hi π;split at h
   ·rename_i Θ;split at h
    ·rename_i e he;cases μ with
     | ak U γ ο=>
      rw[π] at U;cases U;obtain⟨ψ,w,hw⟩:=Ni Δ π ο he;have:=DF Ν Δ hi (l:=e.cells.drop j) (b:=_) (o:=i*k+j) (λx=>w (j+x)) (λx a δ=>⟨true,by
       rw[List.getElem?_drop] at δ;rw[Nat.add_assoc];exact(hw _ a δ).1⟩) (λx a δ=>by
       rw[List.getElem?_drop] at δ;exact(hw _ a δ).2.1)
      rw[N4 h] at this;exact this
     | kB v U γ=>rw[π] at U;cases U;simp only[Row.hT] at γ;omega
    ·cases h
   ·cases h
  ·cases h
 ·cases h
theorem EC (Ν:bU P T) {fn:Func} {a:θ} (h:qZ T fn.results.toList env σ=some a) {S:aO} {B:a0} {H:Γ} {t:Array Value} (Δ:Holds S B σ H) (ξ:dB S B σ env t) :
  χ P (results fn t) H (λv H'=>∃aJ B',Ext S B H aJ B' H'/\b8 S aJ B B' σ σ/\Holds aJ B' σ H'/\aA aJ B' σ a v) (λ_ _=>False):=by
 let f:ResultVar->Sem Value:=λr=>match r with
  | .tmp x=>pure (t.getD x undef)
  | .cell a ty=>do loadVar ty (<-asAddr (t.getD a undef))
 have key:∀(rs:List ResultVar) (as9:am) (S:aO) (B:a0) (H:Γ),rs.mapM (tu T env σ)=some as9->Holds S B σ H->dB S B σ env t->
   χ P (rs.mapM f) H (λvs H'=>∃aJ B',Ext S B H aJ B' H'/\b8 S aJ B B' σ σ/\Holds aJ B' σ H'/\as9.length=vs.length/\∀(i:Nat) (a:θ) (v:Value),as9[i]?=some a->vs[i]?=some v->aA aJ B' σ a v) (λ_ _=>False):=by
  intro rs
  induction rs with
  | nil=>intro as9 S B H h Δ _;simp at h;subst h;exact χ.pure' ⟨S,B,.refl _ _ _,.refl _ _ _,Δ,rfl,λi a v hi=>by simp at hi⟩
  | cons r rs Α=>
   intro as9 S B H h Δ ξ;rw[List.mapM_cons] at h ⊢;cases μ:tu T env σ r with
   | none=>rw[μ] at h;cases h
   | some a=>
    rw[μ] at h;simp only[Option.bind_eq_bind,Option.bind_some] at h;cases Ω:rs.mapM (tu T env σ) with
    | none=>rw[Ω] at h;cases h
    | some l2=>
     rw[Ω] at h;cases h;have step:χ P (f r) H (λv H'=>∃aJ B',Ext S B H aJ B' H'/\b8 S aJ B B' σ σ/\Holds aJ B' σ H'/\aA aJ B' σ a v) (λ_ _=>False):=by
      cases r with
      | tmp x=>simp only[tu,Option.some.injEq] at μ;subst μ;exact χ.pure' ⟨S,B,.refl _ _ _,.refl _ _ _,Δ,ξ x⟩
      | cell x ty=>
       refine χ.mono (λv H' ⟨aJ,B',σ',cj,⟨U,γ⟩,ο,Ι,ax,bf⟩=>?_) (λ_ _ h=>h) _ (Xb Ν Δ μ (ξ x) (λcj bs=>cj=a/\bs=σ) ⟨rfl,rfl⟩);subst U;subst γ;exact⟨aJ,B',ο,ax,Ι,bf⟩
     refine χ.bind' (χ.mono (λv H1 ⟨bS,b1,Ζ,l1,U,r1⟩=>?_) (λ_ _ h=>h) _ step);refine χ.bind' (χ.mono (λvs bN ⟨c8,e3,Ε,N5,γ,gD,r2⟩=>?_) (λ_ _ h=>h) _ (Α l2 bS b1 H1 Ω U (ξ.later l1)));refine χ.pure' ⟨c8,e3,Ζ.trans Ε,l1.trans N5,γ,by simp[gD],λi cj fG hi hv=>?_⟩
     match i with
     | 0=>simp at hi hv;subst hi;subst hv;exact r1.later N5
     | i+1=>simp at hi hv;exact r2 i cj fG hi hv
 unfold qZ at h;cases hm:fn.results.toList.mapM (tu T env σ) with
 | none=>rw[hm] at h;cases h
 | some as9=>
  rw[hm] at h;cases h;have ψ:=key fn.results.toList as9 S B H hm Δ ξ;unfold results;rw[Array.mapM_eq_mapM_toList];refine χ.bind' ?_;refine χ.bind (fn.results.toList.mapM f) (χ.mono (λvs H1 ⟨bS,b1,Ζ,l1,U,iy,r1⟩=>?_) (λ_ _ h=>h) _ ψ);refine χ.pure' ?_;refine χ.pure' ⟨bS,b1,Ζ,l1,U,?_⟩;by_cases Θ:vs.toArray.size=1
  ·rw[dif_pos Θ];have w6:vs.length=1:=by simpa using Θ
   obtain⟨v,rfl⟩:=List.length_eq_one_iff.1 w6;obtain⟨a,rfl⟩:=List.length_eq_one_iff.1 (iy.trans w6);exact r1 0 a v rfl rfl
  ·rw[dif_neg Θ];have w6:as9.length≠1:=by rw[iy];simpa using Θ
   have:EB as9=.bj as9:=by
    match as9 with
    | []=>rfl
    | [a]=>simp at w6
    | a::b::l=>rfl
   rw[this];exact .bj _ (by simpa using iy) λi a v hi hv=>r1 i a v hi (by simpa using hv)
def entry:Nat->am->ab
 | _,[]=>[]
 | i,a::as9=>(i,a)::entry (i+1) as9
theorem N6 {S:aO} {B:a0} {as9:am} {vs:Array Value} (h:gg S B σ as9 vs) (n:Nat):dB S B σ (entry 0 as9) (vs++Array.replicate n undef):=by
 have key:∀(l:am) (j i:Nat),a' (entry j l) i=if j<=i then(l[i-j]?).getD .cz else .cz:=by
  intro l
  induction l with
  | nil=>intro j i;simp[entry,a']
  | cons a l Α=>
   intro j i;simp only[entry,a'];by_cases e:j=i
   ·subst e;simp
   ·rw[if_neg e,Α];by_cases hle:j<=i
    ·rw[if_pos J,if_pos hle];have:i-j=(i-(j+1))+1:=J;rw[this,List.getElem?_cons_succ]
    ·rw[if_neg J,if_neg hle]
 intro i;rw[key,if_pos (Nat.zero_le _),Nat.sub_zero];by_cases aN:i<as9.length
 ·have ν:=a6 aN;rw[ν];have hv:i<vs.size:=by rw[<-h.1];exact aN
  rw[Array.getD_eq_getD_getElem?,Array.getElem?_append_left hv];exact h.2 i _ _ ν (by rw[fw hv];rfl)
 ·rw[List.getElem?_eq_none J];exact .cz _
def Ends (T:bk) (rs:List ResultVar) (K:θ->ac->Prop) (j:List Item) (env:ab) (σ:ac):Prop:=match j with
 | []=>∃a,qZ T rs env σ=some a/\K a σ
 | .code .ret::_=>∃a,qZ T rs env σ=some a/\K a σ
 | _=>False
theorem af.Xc {F:θ->ac->Prop} (Ν:bU P T) {g:FuncId} {fn:Func} {body:Code} (bR:P.funcs[g]?=some fn) (oq:fn.body=some body) (wP:(fn.name == "runtime.NumGoroutine")=false) {args:am} (hlen:args.length<=fn.ntmps)
  (h:W P σ.length fn.ntmps [.code body] (entry 0 args) σ (Ends T fn.results.toList K) (λa _ s=>F a s)):af P g args σ K F:=by
 refine⟨⟨fn,bR,wP,by rw[oq];rfl⟩,λQ mn x c rest S B H vs δ Δ hv hb=>?_⟩;have l6:∀{α:Type} (l:List α),l.length=σ.length->l.take σ.length=l:=λl π=>List.take_of_length_le J;have cw:Frame.enter P g vs .normal=aD (Frame.enter P g vs .normal) (vs++Array.replicate (fn.ntmps-vs.size) undef) [.code body]:=by
  simp[Frame.enter,aD,bR,oq]
 rw[cw];have cA:(vs++Array.replicate (fn.ntmps-vs.size) undef).size=fn.ntmps:=by
  have:=hv.1;simp;omega
 refine h Q mn x (c::rest) _ S B H _ δ rfl ⟨Δ,N6 hv _,cA,Nat.le_refl _⟩ (λj env' σ' aJ B' H' t' al Ψ ν ω π=>?_) (λa env' σ' aJ B' H' t' al v dF ν jo _ μ=>?_)
 ·have IB:b8 S aJ B B' σ σ':=by
   have:=ν.later
   rwa [l6 B Δ.len,l6 σ rfl] at this
  have fin:(∃a,qZ T fn.results.toList env' σ'=some a/\K a σ')->aV P Q mn x {aD (Frame.enter P g vs .normal) t' al with mode:=.returning} (c::rest) H':=λ⟨a,U,γ⟩=>by
   refine .back δ rfl rfl (.inl rfl) bR ?_;refine χ.mono (λv bN ⟨c8,e3,Ε,l2,ο,r2⟩=>?_) (λ_ _ h=>h) _ (EC Ν U ω.holds ω.cH);exact hb.ret a σ' c8 e3 bN v γ (ν.ext.trans Ε) (IB.trans l2) ο r2
  have:al=j:=π;subst this;unfold Ends at Ψ;split at Ψ
  ·exact .s' δ rfl rfl (fin Ψ)
  ·exact .ret δ rfl rfl (fin Ψ)
  ·exact Ψ.elim
 ·have IB:b8 S aJ B B' σ σ':=by
   have:=ν.later
   rwa [l6 B Δ.len,l6 σ rfl] at this
  refine .raised δ rfl rfl ?_ (hb.yI a σ' aJ B' H' v dF ν.ext IB jo μ);simp[Frame.catches,aD,Frame.enter,bR]
end
section
variable {P:Program} {S aJ:aO} {B:a0} {H H':Γ} {σ:ac}
theorem aA.take {h:Nat} {a:θ} {v:Value} (μ:aA S B σ a v) (hb:aG h a):aA S (B.take h) (σ.take h) a v:=by
 have bn:∀{α:Type} (l:List α) (i:Nat),i<h->(l.take h)[i]?=l[i]?:=λl i hi=>List.getElem?_take_of_lt hi
 induction μ with
 | z v=>exact .z v
 | au b o w U _ Α=>
  cases hb with
  | au hb=>exact .au b o w U λj a ζ=>Α j a ζ (hb a (cy ζ))
 | iT base cap h=>exact .iT base cap h
 | sl b o cap w U γ ο Ι _ Α=>
  cases hb with
  | sl hb=>exact .sl b o cap w U γ ο Ι λi e hi j c ζ=>Α i e hi j c ζ (hb e (cy hi) c (cy ζ))
 | a3 vs U _ Α=>
  cases hb with
  | a3 hb=>exact .a3 vs U λi a v hi hv=>Α i a v hi hv (hb a (cy hi))
 | bj vs U _ Α=>
  cases hb with
  | bj hb=>exact .bj vs U λi a v hi hv=>Α i a v hi hv (hb a (cy hi))
 | ak U γ ο=>
  cases hb with
  | ak hb=>exact .ak (by rw[bn _ _ hb];exact U) γ (by rw[bn _ _ hb];exact ο)
 | kB v U γ=>
  cases hb with
  | ak hb=>exact .kB v (by rw[bn _ _ hb];exact U) γ
 | ms cap U γ ο Ι ax bf=>
  cases hb with
  | ms hb=>exact .ms cap (by rw[bn _ _ hb];exact U) γ (by rw[bn _ _ hb];exact ο) Ι ax bf
 | jZ v U γ=>
  cases hb with
  | ms hb=>exact .jZ v (by rw[bn _ _ hb];exact U) γ
 | fn vs ws U γ _ _ te nz=>
  cases hb with
  | fn lY gb=>exact .fn vs ws U γ (λi a v hi hv=>te i a v hi hv (lY a (cy hi))) λi a v hi hv=>nz i a v hi hv (gb a (cy hi))
 | gp v _ Α=>
  cases hb with
  | gp hb=>exact .gp v (Α hb)
 | mp U γ=>
  cases hb with
  | mp hb=>exact .mp (by rw[bn _ _ hb];exact U) (by rw[bn _ _ hb];exact γ)
 | mF v U=>
  cases hb with
  | mp hb=>exact .mF v (by rw[bn _ _ hb];exact U)
 | it U γ=>
  cases hb with
  | it hb=>exact .it (by rw[bn _ _ hb];exact U) (by rw[bn _ _ hb];exact γ)
 | oe v U=>
  cases hb with
  | it hb=>exact .oe v (by rw[bn _ _ hb];exact U)
 | cz v=>exact .cz v
theorem aA.any {a:θ} {v:Value} (μ:aA S B σ a v) (hb:aG 0 a) (e3:a0) (gf:ac):aA S e3 gf a v:=by
 have U:aA S [] [] a v:=by simpa using μ.take hb
 exact U.later ⟨λ_ _ _ h=>h,λid r h=>by simp at h⟩
theorem Holds.bare (Δ:Holds S B σ H):Holds S [] [] H:=
 ⟨Δ.dy,rfl,λid r bo h=>by simp at h,λi j eF cp b gO gP fP h=>by simp at h,λid r b N h=>by simp at h⟩
theorem Holds.back (Δ:Holds S B σ H) (he:Ext S [] H aJ [] H') (ao:Holds aJ [] [] H'):Holds aJ B σ H'/\Ext S B H aJ B H'/\b8 S aJ B B σ σ:=by
 have π:b8 S aJ B B σ σ:=⟨he.dy,λid r h=>⟨r,h,r.tc _⟩⟩
 have yK:∀b,¬a0.has ([]:a0) b:=λb ⟨N,h⟩=>by simp at h
 have a3:∀(id:Nat) (r:Row) (b N:Nat),σ[id]?=some r->r.live->B[id]?=some (some (b,N))->lD H H' b:=λid r b N U γ ο=>(he.gl b (yK b) (Δ.o1 U γ ο)).th λo=>Δ.sep id r b N U γ ο o;refine⟨⟨ao.dy,Δ.len,λid r bo μ eJ=>?_,Δ.inj,λid r b N μ fr eJ o=>?_⟩,⟨he.dy,λb _ Ρ=>he.gl b (yK b) Ρ,λb hb=>.inl hb,λb o v hv=>?_,he.grow⟩,π⟩
 ·by_cases fr:r.live
  ·refine(Δ.row id r bo μ eJ).later π (λb N e=>a3 id r b N μ fr (by rw[eJ,e])) λm left cur e=>?_;subst e;obtain⟨_,_,a4,lB,xs,clock,seen,_,U,⟨es,γ⟩,_⟩:=Δ.row id _ bo μ eJ;exact⟨rfl,rfl,λb N hb=>a3 m _ b N γ trivial hb⟩
  ·cases r<;>first|exact absurd trivial fr|trivial
 ·cases hv:aJ b o with
  | none=>rfl
  | some v=>
   rcases he.r7 b o v hv with h|h|h
   ·rw[Δ.sep id r b N μ fr eJ o] at h;cases h
   ·exact absurd h (yK b)
   ·exact absurd h (Δ.o1 μ fr eJ)
 ·rcases he.r7 b o v hv with h|h|h
  ·exact .inl h
  ·exact absurd h (yK b)
  ·exact .inr (.inr h)
theorem af.frame {g:FuncId} {args:am} {K:θ->Prop} {E:θ->Prop} (h:af P g args [] (λa s=>K a/\aG 0 a/\s=[]) (λa s=>E a/\aG 0 a/\s=[])) (hb:∀a∈args,aG 0 a):af P g args σ (λa s=>K a/\s=σ) (λa s=>E a/\s=σ):=by
 refine⟨h.1,λQ mn x c rest S B H vs δ Δ hv mO=>?_⟩;refine h.2 Q mn x c rest S [] H vs δ Δ.bare ⟨hv.1,λi a v U γ=>(hv.2 i a v U γ).any (hb a (cy U)) _ _⟩ ⟨λa σ' aJ B' H' v ⟨ψ,oj,ξ⟩ he π jo μ=>?_,λa σ' aJ B' H' v ⟨ψ,oj,ξ⟩ he π jo μ=>?_⟩
 all_goals
  subst ξ;have dV:B'=[]:=dO.1 (by rw[jo.len];rfl);subst dV;obtain⟨dz,p2,p3⟩:=Δ.back he jo
 ·exact mO.ret a σ aJ B H' v ⟨ψ,rfl⟩ p2 p3 dz (μ.any oj _ _)
 ·exact mO.yI a σ aJ B H' v ⟨ψ,rfl⟩ p2 p3 dz (μ.any oj _ _)
def AT (P:Program) (g:FuncId) (args:am) (r:θ):Prop:=af P g args [] (λa s=>a=r/\s=[]) (λ_ _=>False)
theorem AT.call {g:FuncId} {first args captured:am} {r:θ} {K:θ->ac->Prop} {E:θ->ac->Prop} (h:AT P g (first++args++captured) r) (hb:∀a∈first++args++captured,aG 0 a) (μ:aG 0 r) (κ:K r σ) :
  hV P (.fn (.func g) first captured) args σ K E:=by
 have U:af P g (first++args++captured) [] (λa s=>a=r/\aG 0 a/\s=[]) (λa s=>False/\aG 0 a/\s=[]):=h.mono (λa s ⟨Ζ,Ε⟩=>⟨Ζ,Ζ▸μ,Ε⟩) (λ_ _ h=>h.elim);exact af.call ((U.frame (σ:=σ) hb).mono (λa s ⟨Ζ,Ε⟩=>by subst Ζ;subst Ε;exact κ) (λ_ _ h=>h.1.elim))
end
theorem Xd {h:Nat} {v:Value}:aG h (.z v)↔True:=⟨λ_=>trivial,λ_=>.z v⟩
theorem Xe {h:Nat}:aG h .cz↔True:=⟨λ_=>trivial,λ_=>.cz⟩
theorem N7 {h:Nat} {l:am}:aG h (.au l)↔∀a∈l,aG h a:=⟨λx=>by cases x;assumption,.au⟩
theorem Xf {h:Nat} {l:am}:aG h (.a3 l)↔∀a∈l,aG h a:=⟨λx=>by cases x;assumption,.a3⟩
theorem Xg {h:Nat} {l:am}:aG h (.bj l)↔∀a∈l,aG h a:=⟨λx=>by cases x;assumption,.bj⟩
theorem g7 {h:Nat} {ex:Bool} {k:Nat} {l:am}:aG h (.sl ex k l)↔∀e∈l,∀a∈e.cells,aG h a:=⟨λx=>by cases x;assumption,.sl⟩
theorem Xh {h:Nat} {t:TypeId} {a:θ}:aG h (.gp t a)↔aG h a:=⟨λx=>by cases x;assumption,.gp⟩
theorem l7 {h id n i j:Nat}:aG h (.ak id n i j)↔id<h:=⟨λx=>by cases x;assumption,.ak⟩
theorem sj {h id n i j:Nat}:aG h (.ms id n i j)↔id<h:=⟨λx=>by cases x;assumption,.ms⟩
theorem tv {h id:Nat}:aG h (.mp id)↔id<h:=⟨λx=>by cases x;assumption,.mp⟩
theorem Xi {h id:Nat}:aG h (.it id)↔id<h:=⟨λx=>by cases x;assumption,.it⟩
theorem kG {h:Nat} {f:Fn} {dr cs:am}:aG h (.fn f dr cs)↔(∀a∈dr,aG h a)/\∀a∈cs,aG h a:=⟨λx=>by cases x;exact⟨by assumption,by assumption⟩,λx=>.fn x.1 x.2⟩
def AU (ops:Array Oper) (o:Oper):List Tmp:=
 (o.op.operands.toList.filterMap fun|.tmp t=>some t|_=>none)++(match o.guard with|some (g,_)=>((ops[g]?).bind (·.dst)).toList|none=>[])
def hE (o:Oper):List Nat:=(o.after.toList.filter (Region.binds .any)).map (·.on)
def AV:List Oper->List (List Nat)->List (List Nat)
 | [],acc=>acc
 | o::os,acc=>AV os (acc++[hE o++(hE o).flatMap λj=>acc.getD j []])
def ED (ops:Array Oper):List (List Nat):=AV ops.toList []
def jq (o:Oper):Bool:=match o.op with
 | .load _ _=>true
 | .indexAddr _ _ _=>true
 | .fieldAddr _ _ _=>true
 | .nilCheck _=>true
 | _=>false
def mP (aD:Nat->Nat->Bool) (ops:Array Oper) (tags:List Bool) (i j:Nat) (mQ bZ:Oper):Bool:=
 (match bZ.dst with|some d=>(AU ops mQ).contains d||mQ.dst==some d|none=>false)||(match mQ.dst with|some d=>(AU ops bZ).contains d|none=>false)||(tags.getD i false&&tags.getD j false&&!(jq mQ&&jq bZ)&&!aD i j)
def tw (aD:Nat->Nat->Bool) (ops:Array Oper) (tags:List Bool):Bool:=
 let b:=ED ops
 (List.range ops.size).all λi=>match ops[i]? with
  | none=>false
  | some mQ=>(hE mQ).all (λj=>decide (j<i))&&(List.range i).all λj=>match ops[j]? with
   | none=>false
   | some bZ=>!mP aD ops tags i j mQ bZ||(b.getD i []).contains j
def tx (_ _:Nat):Bool:=false
def clash (ops:Array Oper) (tags:List Bool) (i j:Nat) (mQ bZ:Oper):Bool:=mP tx ops tags i j mQ bZ
def nE (ops:Array Oper) (tags:List Bool):Bool:=tw tx ops tags
def nF (lo pu:List Nat) (i j:Nat):Bool:=lo.contains i&&pu.contains j||pu.contains i&&lo.contains j
section
variable {P:Program} {T:bk} {A:List Nat} {m nt:Nat} {k:List Item} {env:ab} {σ:ac} {Z:be} {E:aq} {ops:Array Oper}
theorem W.congr {env':ab} (h:∀i,a' env' i=a' env i) (hW:W P m nt k env σ Z E):W P m nt k env' σ Z E:=
 λQ mn x cs b S B H t δ hb ω Ψ he=>hW Q mn x cs b S B H t δ hb ⟨ω.holds,λi=>by rw[<-h i];exact ω.cH i,ω.size,ω.rows⟩ Ψ he
theorem N8 (uV:Region.Mode):∀(fuel t:Nat) (listed:Array Bool) (i:Nat),Region.linearise.go uV ops fuel t listed [i]=i::Region.linearise.go uV ops fuel t listed []:=by
 have gen:∀(fuel t:Nat) (listed:Array Bool) (acc:List Nat),Region.linearise.go uV ops fuel t listed acc=acc.reverse++Region.linearise.go uV ops fuel t listed []:=by
  intro fuel
  induction fuel with
  | zero=>intro t listed acc;simp[Region.linearise.go]
  | succ fuel Α=>
   intro t listed acc;simp only[Region.linearise.go];split
   ·rename_i i _;rw[Α _ _ (i::acc),Α _ _ [i]];simp
   ·simp
 intro fuel t listed i;rw[gen];rfl
theorem EE (tz:∀i o,ops[i]?=some o->∀j∈hE o,j<i) (D:Nat->Prop) (eH:∀i o,ops[i]?=some o->D i->∀j∈hE o,D j) :
  ∀(i:Nat) (o:Oper),ops[i]?=some o->(∀j∈hE o,D j)->∀j∈(ED ops).getD i [],D j:=by
 have key:∀(os:List Oper) (acc:List (List Nat)),(∀x,os[x]?=ops[acc.length+x]?)->(∀i o,i<acc.length->ops[i]?=some o->(∀j∈hE o,D j)->∀j∈acc.getD i [],D j)->
   ∀i o,i<acc.length+os.length->ops[i]?=some o->(∀j∈hE o,D j)->∀j∈(AV os acc).getD i [],D j:=by
  intro os
  induction os with
  | nil=>intro acc _ h i o hi;exact h i o (by simpa using hi)
  | cons q os Α=>
   intro acc EF h i o hi Β he;have Χ:ops[acc.length]?=some q:=by have:=EF 0;simpa using this.symm
   refine Α (acc++[hE q++(hE q).flatMap λj=>acc.getD j []]) (λx=>?_) (λi o hi Β he=>?_) i o (by simp at hi ⊢;omega) Β he
   ·have:=EF (x+1);simp only[List.getElem?_cons_succ] at this;rw[this];simp;congr 1;omega
   ·by_cases aN:i<acc.length
    ·rw[List.getD_eq_getElem?_getD,dM aN,<-List.getD_eq_getElem?_getD];exact h i o aN Β he
    ·have aH:i=acc.length:=by simp at hi;omega
     subst aH;rw[Χ] at Β;cases Β;rw[List.getD_eq_getElem?_getD,gA (Nat.le_refl _)];simp only[Nat.sub_self,List.getElem?_cons_zero,Option.getD_some,List.mem_append,List.mem_flatMap];rintro j (ζ|⟨y,Μ,ζ⟩)
     ·exact he j ζ
     ·have Xj:=tz _ _ Χ y Μ
      have Xk:y<ops.size:=by have:=(Array.getElem?_eq_some_iff.1 Χ).1;omega
      have N9:ops[y]?=some ops[y]:=fw Xk;exact h y _ Xj N9 (eH y _ N9 (he y Μ)) j ζ
 intro i o Β he;exact key ops.toList [] (λx=>η) (λi o hi=>by simp at hi) i o (by have:=(Array.getElem?_eq_some_iff.1 Β).1;simpa using this) Β he
def pa (ops:Array Oper) (o:Oper) (env env':ab):Prop:=∀t∈AU ops o,a' env' t=a' env t
def u' (P:Program) (m nt:Nat) (k:List Item) (Z:be) (E:aq) (ops:Array Oper) (i:Nat) (o:Oper) (env:ab) (a:θ):Prop:=
 ∀env' σ' rest,pa ops o env env'->W P m nt (.inRegion ops rest::k) (b7 o env' a) σ' Z E->W P m nt (.inRegion ops (i::rest)::k) env' σ' Z E
def va (P:Program) (m nt:Nat) (k:List Item) (Z:be) (E:aq) (ops:Array Oper) (i:Nat) (o:Oper) (env:ab) (σ:ac) (a:θ) (gf:ac):Prop:=
 ∀env' rest,pa ops o env env'->W P m nt (.inRegion ops rest::k) (b7 o env' a) gf Z E->W P m nt (.inRegion ops (i::rest)::k) env' σ Z E
def cI (ops:Array Oper) (env0:ab) (as9:Nat->θ) (D:Nat->Bool):Nat->ab
 | 0=>env0
 | n+1=>if D n then(match ops[n]? with|some o=>b7 o (cI ops env0 as9 D n) (as9 n)|none=>cI ops env0 as9 D n) else cI ops env0 as9 D n
theorem w7 {o:Oper} {env:ab} {a:θ} {t:Nat}:a' (b7 o env a) t=if o.dst=some t then a else a' env t:=by
 unfold b7;cases hd:o.dst with
 | none=>simp
 | some d=>simp[a']
theorem yL {env0:ab} {as9:Nat->θ} {D AW:Nat->Bool} {t:Nat}:∀(n:Nat),(∀i o,i<n->ops[i]?=some o->o.dst=some t->D i=AW i)->a' (cI ops env0 as9 D n) t=a' (cI ops env0 as9 AW n) t:=by
 intro n
 induction n with
 | zero=>intro _;rfl
 | succ n Α=>
  intro h;have w8:=Α λi o hi=>h i o J;simp only[cI];cases Β:ops[n]? with
  | none=>cases D n<;>cases AW n<;>simpa using w8
  | some o=>
   by_cases hd:o.dst=some t
   ·rw[h n o (Nat.lt_succ_self n) Β hd];cases AW n
    ·simpa using w8
    ·simp[w7,hd]
   ·cases D n<;>cases AW n<;>simp[w7,hd,w8]
theorem EG {env0:ab} {as9:Nat->θ} {D:Nat->Bool} {t:Nat} {n N:Nat} (Θ:n<=N) (h:∀i o,n<=i->i<N->ops[i]?=some o->o.dst=some t->D i=false):a' (cI ops env0 as9 D N) t=a' (cI ops env0 as9 D n) t:=by
 induction N with
 | zero=>have:n=0:=J
         subst this;rfl
 | succ N Α=>
  by_cases e:n=N+1
  ·subst e;rfl
  ·have w8:=Α J λi o U γ=>h i o U J;simp only[cI];cases eH:D N
   ·simpa using w8
   ·cases Β:ops[N]? with
    | none=>simpa using w8
    | some o=>
     have hd:o.dst≠some t:=λhd=>by rw[h N o J (Nat.lt_succ_self N) Β hd] at eH;cases eH
     simp[w7,hd,w8]
def writer (ops:Array Oper) (tags:List Bool) (i:Nat):Bool:=tags.getD i false&&match ops[i]? with|some o=>!jq o|none=>true
theorem W.N' {lo pu:List Nat} {V:Type} {v:ac->V} {as9:Nat->θ} {σs:Nat->ac} {tags:List Bool} {env0:ab} (ea:tw (nF lo pu) ops tags=true)
  (cF:∀i o,ops[i]?=some o->tags.getD i false=false->u' P m nt k Z E ops i o (cI ops env0 as9 (λ_=>true) i) (as9 i)/\σs (i+1)=σs i)
  (eC:∀i o,ops[i]?=some o->tags.getD i false=true->va P m nt k Z E ops i o (cI ops env0 as9 (λ_=>true) i) (σs i) (as9 i) (σs (i+1))/\(jq o=true->σs (i+1)=σs i))
  (IC:∀i o,ops[i]?=some o->lo.contains i=true->tags.getD i false=true->jq o=true/\∀τ,v τ=v (σs i)->va P m nt k Z E ops i o (cI ops env0 as9 (λ_=>true) i) τ (as9 i) τ)
  (Xl:∀i o,ops[i]?=some o->pu.contains i=true->v (σs (i+1))=v (σs i))
  (AX:W P m nt (.inRegion ops []::k) (cI ops env0 as9 (λ_=>true) ops.size) (σs ops.size) Z E) :
  ∀(fuel:Nat) (t:Nat) (listed:Array Bool) (env:ab) (b9:Nat),listed.size=ops.size->
   (∀i,a' env i=a' (cI ops env0 as9 (λi=>listed.getD i false) ops.size) i)->
   (∀i o,ops[i]?=some o->listed.getD i false=true->∀j∈hE o,listed.getD j false=true)->
   b9<=ops.size->(∀j,j<ops.size->writer ops tags j=true->(listed.getD j false=true↔j<b9))->
   ((List.range ops.size).filter λi=>!listed.getD i false).length<=fuel->
   W P m nt (.inRegion ops (Region.linearise.go .any ops fuel t listed [])::k) env (σs b9) Z E:=by
 have w9:∀i o,ops[i]?=some o->(∀j∈hE o,j<i)/\∀j bZ,j<i->ops[j]?=some bZ->mP (nF lo pu) ops tags i j o bZ=true->j∈(ED ops).getD i []:=by
  intro i o Β;have hi:i<ops.size:=(Array.getElem?_eq_some_iff.1 Β).1;unfold tw at ea;simp only[List.all_eq_true,List.mem_range] at ea;have h:=ea i hi;rw[Β] at h;simp only[Bool.and_eq_true,List.all_eq_true,decide_eq_true_eq,List.mem_range] at h;refine⟨h.1,λj bZ ζ dg ε=>?_⟩;have γ:=h.2 j ζ;rw[dg] at γ;simp only[ε,Bool.not_true,Bool.false_or,List.contains_iff_mem] at γ;exact γ
 have tz:∀i o,ops[i]?=some o->∀j∈hE o,j<i:=λi o Β=>(w9 i o Β).1
 have AY:∀i o,ops[i]?=some o->writer ops tags i=false->σs (i+1)=σs i:=λi o Β hw=>by
  cases Υ:tags.getD i false with
  | false=>exact(cF i o Β Υ).2
  | true=>
   refine(eC i o Β Υ).2 ?_;unfold writer at hw;rw[Υ,Β] at hw;simpa using hw
 have AZ:∀(d a:Nat),a+d<=ops.size->(∀j,a<=j->j<a+d->writer ops tags j=false)->σs (a+d)=σs a:=by
  intro d
  induction d with
  | zero=>intro a _ _;rfl
  | succ d Α=>
   intro a hle h;have U:ops[a+d]?=some ops[a+d]:=fw J;have:=AY (a+d) _ U (h (a+d) J J);rw[show a+(d+1)=a+d+1 by omega,this];exact Α a J λj U γ=>h j U J
 have ID:∀a b,a<=ops.size->b<=ops.size->(∀j,j<ops.size->writer ops tags j=true->(j<a↔j<b))->σs a=σs b:=λa b ν hb h=>by
  rcases Nat.le_total a b with hle|hle
  ·have:=AZ (b-a) a J λj U γ=>by
    cases Υ:writer ops tags j with
    | false=>rfl
    | true=>have:=(h j J Υ).2 J;omega
   rw[show a+(b-a)=b by omega] at this;exact this.symm
  ·have:=AZ (a-b) b J λj U γ=>by
    cases Υ:writer ops tags j with
    | false=>rfl
    | true=>have:=(h j J Υ).1 J;omega
   rw[show b+(a-b)=a by omega] at this;exact this
 have Xm:∀a b,a<=ops.size->b<=ops.size->(∀j,j<ops.size->writer ops tags j=true->pu.contains j=false->(j<a↔j<b))->v (σs a)=v (σs b):=λa b ν hb h=>by
  have key:∀(d a:Nat),a+d<=ops.size->(∀j,a<=j->j<a+d->writer ops tags j=true->pu.contains j=true)->v (σs (a+d))=v (σs a):=by
   intro d
   induction d with
   | zero=>intro a _ _;rfl
   | succ d Α=>
    intro a hle h;have U:ops[a+d]?=some ops[a+d]:=fw J;have e:v (σs (a+d+1))=v (σs (a+d)):=by
     cases hw:writer ops tags (a+d) with
     | false=>rw[AY (a+d) _ U hw]
     | true=>exact Xl (a+d) _ U (h (a+d) J J hw)
    rw[show a+(d+1)=a+d+1 by omega,e];exact Α a J λj U γ=>h j U J
  have side:∀x y,y<=ops.size->(∀j,j<ops.size->writer ops tags j=true->pu.contains j=false->(j<x↔j<y))->x<=y->v (σs y)=v (σs x):=λx y Μ h hle=>by
   have:=key (y-x) x J λj U γ hw=>by
    cases ω:pu.contains j with
    | true=>rfl
    | false=>have:=(h j J hw ω).2 J;omega
   rwa [show x+(y-x)=y by omega] at this
  rcases Nat.le_total a b with hle|hle
  ·exact(side a b hb h hle).symm
  ·exact side b a ν (λj U γ ο=>(h j U γ ο).symm) hle
 intro fuel;have done:∀(t:Nat) (listed:Array Bool) (env:ab) (b9:Nat),(∀i,i<ops.size->listed.getD i false=true)->(∀i,a' env i=a' (cI ops env0 as9 (λi=>listed.getD i false) ops.size) i)->b9<=ops.size->
   (∀j,j<ops.size->writer ops tags j=true->(listed.getD j false=true↔j<b9))->W P m nt (.inRegion ops []::k) env (σs b9) Z E:=λt listed env b9 g3 cO g8 jr=>by
  have Ζ:σs b9=σs ops.size:=ID b9 ops.size g8 (Nat.le_refl _) λj ζ Υ=>by rw[<-jr j ζ Υ];simp[g3 j ζ,ζ]
  rw[Ζ];refine .congr (λi=>?_) AX;rw[cO i];exact yL ops.size λi o hi _ _=>g3 i hi
 have IE:∀listed:Array Bool,listed.size=ops.size->(∃i,i<ops.size/\listed.getD i false=false)->∃i,i<ops.size/\listed.getD i false=false/\∀j,j<i->listed.getD j false=true:=λlisted cA ⟨i,hi,π⟩=>by
  induction i using Nat.strongRecOn with
  | _ i Α=>
   by_cases ζ:∃j,j<i/\listed.getD j false=false
   ·obtain⟨j,U,γ⟩:=ζ;exact Α j U J γ
   ·exact⟨i,hi,π,λj aI=>by
     cases h:listed.getD j false with
     | true=>rfl
     | false=>exact absurd ⟨j,aI,h⟩ ζ⟩
 induction fuel with
 | zero=>
  intro t listed env b9 cA cO b3 g8 jr IF;have g3:∀i,i<ops.size->listed.getD i false=true:=λi hi=>by
   cases h:listed.getD i false with
   | true=>rfl
   | false=>
    have l4:i∈(List.range ops.size).filter λi=>!listed.getD i false:=by rw[List.mem_filter];exact⟨List.mem_range.2 hi,by rw[h];rfl⟩
    have:((List.range ops.size).filter λi=>!listed.getD i false)=[]:=dO.1 J;rw[this] at l4;simp at l4
  exact done t listed env b9 g3 cO g8 jr
 | succ fuel Α=>
  intro t listed env b9 cA cO b3 g8 jr IF;simp only[Region.linearise.go];generalize kX:((List.range ops.size).filter λi=>!listed.getD i true&&((ops[i]?).map (·.after.all λe=>!Region.binds .any e||listed.getD e.on false)).getD false)=rs;have A0:∀i,i<ops.size->listed.getD i true=listed.getD i false:=λi hi=>by
   rw[Array.getD_eq_getD_getElem?,Array.getD_eq_getD_getElem?,fw J];rfl
  have A1:∀i,i∈rs↔i<ops.size/\listed.getD i false=false/\∀o,ops[i]?=some o->∀j∈hE o,listed.getD j false=true:=λi=>by
   rw[<-kX];simp only[List.mem_filter,List.mem_range,Bool.and_eq_true,Bool.not_eq_true'];constructor
   ·rintro⟨U,γ,ο⟩;rw[A0 i U] at γ;refine⟨U,γ,λo Β j ζ=>?_⟩;rw[Β] at ο;simp only[Option.map_some,Option.getD_some,Array.all_eq_true'] at ο;unfold hE at ζ;simp only[List.mem_map,List.mem_filter] at ζ;obtain⟨e,⟨yM,ie⟩,rfl⟩:=ζ;have:=ο e (by simpa using yM);simpa[ie] using this
   ·rintro⟨U,γ,ο⟩;refine⟨U,by rw[A0 i U];exact γ,?_⟩;have Β:ops[i]?=some ops[i]:=fw U;rw[Β];simp only[Option.map_some,Option.getD_some,Array.all_eq_true'];intro e he;by_cases hb:Region.binds .any e=true
    ·have:=ο _ Β e.on (by unfold hE;simp only[List.mem_map,List.mem_filter];exact⟨e,⟨by simpa using he,hb⟩,rfl⟩);simp[this]
    ·simp[hb]
  cases hi:rs[t % rs.length]? with
  | none=>
   simp only[List.reverse_nil];have Ac:rs=[]:=by
    cases μ:rs with
    | nil=>rfl
    | cons x xs=>
     rw[μ] at hi;have aN:t % (x::xs).length<(x::xs).length:=Nat.mod_lt _ η;rw[a6 aN] at hi;cases hi
   have g3:∀i,i<ops.size->listed.getD i false=true:=λi aH=>by
    cases h:listed.getD i false with
    | true=>rfl
    | false=>
     obtain⟨r,U,γ,ο⟩:=IE listed cA ⟨i,aH,h⟩;have:r∈rs:=(A1 r).2 ⟨U,γ,λo Β j ζ=>ο j (tz r o Β j ζ)⟩;rw[Ac] at this;simp at this
   exact done t listed env b9 g3 cO g8 jr
  | some i=>
   simp only;rw[N8];have l4:i∈rs:=cy hi;obtain⟨U,γ,ο⟩:=(A1 i).1 l4;have Β:ops[i]?=some ops[i]:=fw U;have IG:=EE tz (λj=>listed.getD j false=true) (λj o ζ π=>b3 j o ζ π) i _ Β (ο _ Β);have low:∀j bZ,j<i->ops[j]?=some bZ->mP (nF lo pu) ops tags i j ops[i] bZ=true->listed.getD j false=true:=λj bZ ζ dg ε=>IG j ((w9 i _ Β).2 j bZ ζ dg ε);have high:∀j bZ,i<j->ops[j]?=some bZ->mP (nF lo pu) ops tags j i bZ ops[i]=true->listed.getD j false=false:=λj bZ ζ dg ε=>by
    cases π:listed.getD j false with
    | false=>rfl
    | true=>
     have:=EE tz (λj=>listed.getD j false=true) (λj o ζ π=>b3 j o ζ π) j bZ dg (b3 j bZ dg π) i ((w9 j bZ dg).2 i _ ζ Β ε);rw[γ] at this;cases this
   have same:pa ops ops[i] (cI ops env0 as9 (λ_=>true) i) env:=λx δ=>by
    rw[cO x];have c1:a' (cI ops env0 as9 (λi=>listed.getD i false) ops.size) x=a' (cI ops env0 as9 (λi=>listed.getD i false) i) x:=EG J λj bZ sk A2 dg hd=>by
     by_cases e:j=i
     ·subst e;exact γ
     ·refine high j bZ J dg ?_;unfold mP;simp[hd,δ]
    rw[c1];exact yL i λj bZ ζ dg hd=>low j bZ ζ dg (by unfold mP;simp[hd,δ])
   have nx:∀x,a' (b7 ops[i] env (as9 i)) x=a' (cI ops env0 as9 (λj=>(listed.setIfInBounds i true).getD j false) ops.size) x:=λx=>by
    have k7:∀j,(listed.setIfInBounds i true).getD j false=if j=i then true else listed.getD j false:=λj=>by
     rw[Array.getD_eq_getD_getElem?,Array.getD_eq_getD_getElem?];by_cases e:j=i
     ·subst e;rw[Array.getElem?_setIfInBounds_self_of_lt J];simp
     ·rw[Array.getElem?_setIfInBounds_ne (Ne.symm e),if_neg e]
    rw[w7];by_cases hd:ops[i].dst=some x
    ·rw[if_pos hd];have c1:a' (cI ops env0 as9 (λj=>(listed.setIfInBounds i true).getD j false) ops.size) x=a' (cI ops env0 as9 (λj=>(listed.setIfInBounds i true).getD j false) (i+1)) x:=EG J λj bZ sk A2 dg tA=>by
      rw[k7,if_neg J];refine high j bZ J dg ?_;unfold mP;simp[hd,tA]
     rw[c1];simp only[cI,k7,if_true,Β,w7,hd]
    ·rw[if_neg hd,cO x];exact yL ops.size λj bZ ζ dg tA=>by
      rw[k7,if_neg];intro e;subst e;rw[Β] at dg;cases dg;exact hd tA
   have k7:∀j,(listed.setIfInBounds i true).getD j false=if j=i then true else listed.getD j false:=λj=>by
    rw[Array.getD_eq_getD_getElem?,Array.getD_eq_getD_getElem?];by_cases e:j=i
    ·subst e;rw[Array.getElem?_setIfInBounds_self_of_lt J];simp
    ·rw[Array.getElem?_setIfInBounds_ne (Ne.symm e),if_neg e]
   have vb:((List.range ops.size).filter λj=>!(listed.setIfInBounds i true).getD j false).length<=fuel:=by
    have aN:((List.range ops.size).filter λj=>!(listed.setIfInBounds i true).getD j false).length<((List.range ops.size).filter λj=>!listed.getD j false).length:=by
     have:((List.range ops.size).filter λj=>!(listed.setIfInBounds i true).getD j false)=((List.range ops.size).filter λj=>!listed.getD j false).filter λj=>j != i:=by
      rw[List.filter_filter];apply List.filter_congr;intro j _;rw[k7];by_cases e:j=i
      ·subst e;simp
      ·simp[e]
     rw[this];have hm:i∈(List.range ops.size).filter λj=>!listed.getD j false:=by
      rw[List.mem_filter];exact⟨List.mem_range.2 U,by rw[γ];rfl⟩
     exact List.length_filter_lt_length_iff_exists.2 ⟨i,hm,η⟩
    omega
   have ot:∀j o,ops[j]?=some o->(listed.setIfInBounds i true).getD j false=true->∀y∈hE o,(listed.setIfInBounds i true).getD y false=true:=λj o ζ π y Μ=>by
    rw[k7] at π ⊢;by_cases e:y=i
    ·rw[if_pos e]
    ·rw[if_neg e];by_cases Ε:j=i
     ·subst Ε;rw[Β] at ζ;cases ζ;exact ο _ Β y Μ
     ·rw[if_neg Ε] at π;exact b3 j o ζ π y Μ
   have Oa:∀j,writer ops tags j=true->tags.getD j false=true:=λj h=>by
    unfold writer at h;rw[Bool.and_eq_true] at h;exact h.1
   cases mR:tags.getD i false with
   | false=>
    refine(cF i _ Β mR).1 env (σs b9) _ same ?_;refine Α _ _ _ b9 (by simpa using cA) nx ot g8 (λj ζ Υ=>?_) vb;rw[k7];have:j≠i:=λe=>by subst e;rw[Oa j Υ] at mR;cases mR
    rw[if_neg this];exact jr j ζ Υ
   | true=>
    have Ob:∀j bZ,ops[j]?=some bZ->writer ops tags j=true->lo.contains i=false\/pu.contains j=false->mP (nF lo pu) ops tags i j ops[i] bZ=true/\mP (nF lo pu) ops tags j i bZ ops[i]=true:=λj bZ dg Υ hy=>by
     have U:=Oa j Υ
     have ek:lo.contains j=false:=by
      cases π:lo.contains j with
      | false=>rfl
      | true=>
       have:=(IC j bZ dg π U).1;unfold writer at Υ;rw[U,dg] at Υ;simp[this] at Υ
     unfold writer at Υ;rw[U,dg] at Υ;have γ:jq bZ=false:=by simpa using Υ
     have hy:(lo.contains i&&pu.contains j)=false:=by
      rcases hy with h|h
      ·rw[h];rfl
      ·rw[h,Bool.and_false]
     have f1:nF lo pu i j=false:=by unfold nF;rw[hy,ek,Bool.and_false];rfl
     have f2:nF lo pu j i=false:=by unfold nF;rw[ek,Bool.and_comm (pu.contains j),hy];rfl
     unfold mP;rw[U,mR,γ,f1,f2];simp
    have uI:∀j,j<ops.size->writer ops tags j=true->lo.contains i=false\/pu.contains j=false->j<i->listed.getD j false=true:=λj ζ Υ hy xa=>low j _ xa (fw ζ) (Ob j _ (fw ζ) Υ hy).1
    have Oc:∀j,j<ops.size->writer ops tags j=true->lo.contains i=false\/pu.contains j=false->i<j->listed.getD j false=false:=λj ζ Υ hy xa=>high j _ xa (fw ζ) (Ob j _ (fw ζ) Υ hy).2
    have iff:∀j,j<ops.size->writer ops tags j=true->lo.contains i=false\/pu.contains j=false->(j<b9↔j<i):=λj ζ Υ hy=>by
     rw[<-jr j ζ Υ];constructor
     ·intro π;apply Classical.byContradiction;intro Θ;by_cases e:j=i
      ·subst e;rw[γ] at π;cases π
      ·rw[Oc j ζ Υ hy J] at π;cases π
     ·exact uI j ζ Υ hy
    cases gT:writer ops tags i with
    | false=>
     have keep:∀j,j<ops.size->writer ops tags j=true->((listed.setIfInBounds i true).getD j false=true↔j<b9):=λj ζ Υ=>by
      rw[k7];have:j≠i:=λe=>by subst e;rw[Υ] at gT;cases gT
      rw[if_neg this];exact jr j ζ Υ
     cases hB:lo.contains i with
     | true=>
      refine(IC i _ Β hB mR).2 (σs b9) (Xm b9 i g8 J λj ζ Υ ω=>iff j ζ Υ (.inr ω)) env _ same ?_;exact Α _ _ _ b9 (by simpa using cA) nx ot g8 keep vb
     | false=>
      have EH:σs b9=σs i:=ID b9 i g8 J λj ζ Υ=>iff j ζ Υ (.inl hB)
      have es:=AY i _ Β gT
      have ξ:=(eC i _ Β mR).1;rw[es] at ξ;rw[EH];refine ξ env _ same ?_;rw[<-EH];exact Α _ _ _ b9 (by simpa using cA) nx ot g8 keep vb
    | true=>
     have hB:lo.contains i=false:=by
      cases π:lo.contains i with
      | false=>rfl
      | true=>
       have:=(IC i _ Β π mR).1;unfold writer at gT;rw[Β] at gT;simp[this] at gT
     have EH:σs b9=σs i:=ID b9 i g8 J λj ζ Υ=>iff j ζ Υ (.inl hB);rw[EH];refine(eC i _ Β mR).1 env _ same ?_;refine Α _ _ _ (i+1) (by simpa using cA) nx ot J (λj ζ Υ=>?_) vb;rw[k7];by_cases e:j=i
     ·subst e;simp
     ·rw[if_neg e];constructor
      ·intro π;apply Classical.byContradiction;intro Θ;rw[Oc j ζ Υ (.inl hB) J] at π;cases π
      ·intro aN;exact uI j ζ Υ (.inl hB) J
theorem W.Xn {as9:Nat->θ} {σs:Nat->ac} {tags:List Bool} {env0:ab} (ea:nE ops tags=true)
  (cF:∀i o,ops[i]?=some o->tags.getD i false=false->u' P m nt k Z E ops i o (cI ops env0 as9 (λ_=>true) i) (as9 i)/\σs (i+1)=σs i)
  (eC:∀i o,ops[i]?=some o->tags.getD i false=true->va P m nt k Z E ops i o (cI ops env0 as9 (λ_=>true) i) (σs i) (as9 i) (σs (i+1))/\(jq o=true->σs (i+1)=σs i))
  (AX:W P m nt (.inRegion ops []::k) (cI ops env0 as9 (λ_=>true) ops.size) (σs ops.size) Z E) :
  ∀(fuel:Nat) (t:Nat) (listed:Array Bool) (env:ab) (b9:Nat),listed.size=ops.size->
   (∀i,a' env i=a' (cI ops env0 as9 (λi=>listed.getD i false) ops.size) i)->
   (∀i o,ops[i]?=some o->listed.getD i false=true->∀j∈hE o,listed.getD j false=true)->
   b9<=ops.size->(∀j,j<ops.size->writer ops tags j=true->(listed.getD j false=true↔j<b9))->
   ((List.range ops.size).filter λi=>!listed.getD i false).length<=fuel->
   W P m nt (.inRegion ops (Region.linearise.go .any ops fuel t listed [])::k) env (σs b9) Z E:=by
 have e:nF [] []=tx:=by funext i j;simp[nF,tx]
 exact W.N' (lo:=[]) (pu:=[]) (v:=λ_=>()) (by rw[e];exact ea) cF eC (λi o _ h=>by simp at h) (λi o _ h=>by simp at h) AX
def EI:List Oper->List Nat->List Nat
 | [],acc=>acc
 | o::os,acc=>EI os (acc++[(hE o).foldr (λj m=>(1 <<< j)|||acc.getD j 0|||m) 0])
def IH (aD:Nat->Nat->Bool) (ops:Array Oper) (tags:List Bool):Bool:=
 let b:=EI ops.toList []
 (List.range ops.size).all λi=>match ops[i]? with
  | none=>false
  | some mQ=>(hE mQ).all (λj=>decide (j<i))&&(List.range i).all λj=>match ops[j]? with
   | none=>false
   | some bZ=>!mP aD ops tags i j mQ bZ||(b.getD i 0).testBit j
def Od (acc:List (List Nat)) (vc:List Nat):Prop:=acc.length=vc.length/\∀i j,(vc.getD i 0).testBit j=true↔j∈acc.getD i []
theorem Xo:∀(os:List Oper) (acc:List (List Nat)) (vc:List Nat),Od acc vc->Od (AV os acc) (EI os vc):=by
 intro os
 induction os with
 | nil=>intro acc vc h;exact h
 | cons o os Α=>
  intro acc vc h;simp only[AV,EI];refine Α _ _ ⟨by simp[h.1],λi j=>?_⟩;have one:∀l:List Nat,(l.foldr (λj m=>(1 <<< j)|||vc.getD j 0|||m) 0).testBit j=true↔j∈l++l.flatMap λj=>acc.getD j []:=by
   intro l
   induction l with
   | nil=>simp
   | cons a l nz=>
    rw[List.foldr_cons,Nat.testBit_or,Nat.testBit_or,Nat.one_shiftLeft,Nat.testBit_two_pow];simp only[Bool.or_eq_true,decide_eq_true_eq,h.2 a j,nz,List.mem_append,List.mem_cons,List.flatMap_cons];constructor
    ·rintro((e|e)|e|e)
     ·exact .inl (.inl e.symm)
     ·exact .inr (.inl e)
     ·exact .inl (.inr e)
     ·exact .inr (.inr e)
    ·rintro((e|e)|e|e)
     ·exact .inl (.inl e.symm)
     ·exact .inr (.inl e)
     ·exact .inl (.inr e)
     ·exact .inr (.inr e)
  rw[List.getD_eq_getElem?_getD,List.getD_eq_getElem?_getD];by_cases hi:i<acc.length
  ·rw[dM hi,dM (by rw[<-h.1];exact hi),<-List.getD_eq_getElem?_getD,<-List.getD_eq_getElem?_getD];exact h.2 i j
  ·rw[gA (by have:=h.1;omega),gA J,<-h.1];cases hd:i-acc.length with
   | zero=>simpa using one (hE o)
   | succ n=>simp
theorem II {aD:Nat->Nat->Bool} {ops:Array Oper} {tags:List Bool} (h:IH aD ops tags=true):tw aD ops tags=true:=by
 unfold IH at h;unfold tw;have hb:=Xo ops.toList [] [] ⟨rfl,λi j=>η⟩;simp only[List.all_eq_true] at h ⊢;intro i hi;have U:=h i hi;cases Β:ops[i]? with
 | none=>rw[Β] at U;exact U
 | some mQ=>
  rw[Β] at U;simp only[Bool.and_eq_true,List.all_eq_true] at U ⊢;refine⟨U.1,λj ζ=>?_⟩;have γ:=U.2 j ζ;cases dg:ops[j]? with
  | none=>rw[dg] at γ;exact γ
  | some bZ=>
   rw[dg] at γ;simp only[Bool.or_eq_true] at γ ⊢;rcases γ with γ|γ
   ·exact .inl γ
   ·exact .inr (List.contains_iff_mem.2 ((hb.2 i j).1 γ))
end
def Xp (ops:Array Oper) (tags:List Bool):Bool:=IH tx ops tags
theorem hX {ops:Array Oper} {tags:List Bool} (h:Xp ops tags=true):nE ops tags=true:=II h
end Go.TL
