import Derived.Test.YtlabjopijpkiaaaGreatQAN
set_option maxHeartbeats 16000000
set_option maxRecDepth 20000
set_option linter.unusedSectionVars false
set_option linter.unusedSimpArgs false
set_option linter.unusedVariables false
namespace Go.TL
open Go.Conc
def uE (T:a7) (op:BinOp) (ty:TypeId) (a b:θ):cr:=match aeqv T ty a b with
 | some r=>match op with
  | .eql=>.ok (.z (.bool r))
  | .neq=>.ok (.z (.bool !r))
  | _=>.bad
 | none=>.bad
def B7 (T:a7) (op:BinOp) (ty:TypeId) (a b:θ):cr:=match a,b with
 | .z x,.z y=>match rl op x y with
  | .ok v=>.ok v
  | .b2 p r=>.b2 p r
  | .bad=>uE T op ty (.z x) (.z y)
 | .aU x,.aU y=>uE T op ty (.aU x) (.aU y)
 | _,_=>.bad
def B8 (T:a7) (ty:TypeId) (x b8:θ):cr:=match T ty with
 | some i=>match i.bA,x,b8 with
  | .string,.z (.string s),.z (.int _ n)=>.b2 (0≤n∧n<s.size) (.ok (.z (.int .u8 (s.data.toList.getD n.toNat 0).toNat)))
  | .array len e,.aU xs,.z (.int _ n)=>match T e with
   | some bS=>if bS.agg=false∧bS.size=1∧xs.length=len then .b2 (0≤n∧n<len) (.ok (xs.getD n.toNat .cp)) else .bad
   | none=>.bad
  | _,_,_=>.bad
 | none=>.bad
def B9 (x:θ):cr:=match x with
 | .aa c=>.ok (.aa c)
 | .fn (.func f) a b=>.ok (.fn (.func f) a b)
 | .z (.pointer (some a))=>.ok (.z (.pointer (some a)))
 | _=>.bad
def uF (σ:List Row) (x:θ):cT:=match x with
 | .ag id n i j=>match σ[id]? with
  | some (.cells _ _ l)=>if l.length=n then .ok (.ag id n i j) σ else .bad
  | _=>.bad
 | _=>.bad
def Ca (T:a7) (arr:TypeId) (x:θ):cr:=match T arr with
 | some i=>match i.bA,x with
  | .array n _,.sl _ k l=>if 0<n∧k=1∧(l.all fun e=>decide (e.cells.length=1)&&θ.a0 [] e)=true then .b2 (n≤l.length) (.ok (.aa (l.take n))) else .bad
  | _,_=>.bad
 | none=>.bad
def rv:List θ→Option (List Int)
 | []=>some []
 | .z (.int .i32 n)::r=>(rv r).map (n::·)
 | _=>none
def spell (l:List Int):ByteArray:=l.foldl (fun s n=>s++Utf8.encode n) .empty
def yS (T:a7) (ty:TypeId):Bool:=match T ty with
 | some i=>match i.bA with
  | .slice e=>match T e with|some bS=>(match bS.bA with|.int .i32=>true|_=>false)&&bS.size==1|none=>false
  | _=>false
 | none=>false
def yT (T:a7) (ty:TypeId):Bool:=match T ty with|some i=>(match i.bA with|.string=>true|_=>false)|none=>false
def sQ (T:a7) (src dst:TypeId) (σ:List Row) (x:θ):cr:=if yS T src=true∧yT T dst=true then match o5 σ x with
 | some (k,l)=>if k=1∨l.isEmpty=true then match rv l with|some r=>.ok (.z (.string (spell r)))|none=>.bad else .bad
 | none=>.bad else .bad
def Cb (T:a7) (src dst:TypeId) (x:θ):cr:=if yT T src=true∧yS T dst=true then match x with
 | .z (.string s)=>.ok (.sl false 1 ((Conv.runesFrom s s.size 0 #[]).toList.map .z))
 | _=>.bad else .bad
section
variable {P:Program} {T:a7} {S:aA} {B:aN} {H:ψ} {σ:List Row}
theorem To {op:BinOp} {ty:TypeId} {p q:Operand} {vs ws:Array Value} (Τ:P.eqGuardType P.depth ty=false) {G:ψ} {K:Unit→ψ→Prop} {E:Value→ψ→Prop} (υ:K () G):ς P (eqGuard op ty p q (.agg vs) (.agg ws)) G K E:=by
 cases op<;>first|exact ς.pure' υ|skip
 all_goals
  unfold eqGuard;simp only[Bool.not_true,Bool.false_eq_true,if_false];refine ς.bind' ?_;show ς P _ G K E;refine ς.bind' ?_;show ς P _ G K E;rw[if_pos (by rw[Τ];rfl)];exact ς.pure' υ
theorem Lk (Ζ:bN P T) (Α:Holds S B σ H) {op:BinOp} {ty:TypeId} {p q:Operand} {a b:θ} {v w:Value} (μ:aj S B σ a v) (hb:aj S B σ b w) (Ll:∀r,aeqv T ty a b=some r→(op=.eql∨op=.neq)→∀(K:Unit→ψ→Prop),K () H→ς P (eqGuard op ty p q v w) H K (fun _ _=>False))
  (Tp:∀r,aeqv T ty a b=some r→(binOp .eql ty v w=(do pure (.bool (←Op.equal ty v w)))∧binOp .neq ty v w=(do pure (.bool (!(←Op.equal ty v w)))))) :
  cB P (do eqGuard op ty p q v w;binOp op ty v w) S B H σ ((uE T op ty a b).dh σ):=by
 unfold uE;split
 ·rename_i r κ;obtain⟨R,γ⟩:=Tp r κ;split
  ·intro K I;refine ς.bind' (Ll r κ (.inl rfl) _ ?_);rw[R];exact ς.bind' (FZ Ζ μ hb κ (ς.pure' (.same Α I (.z _))))
  ·intro K I;refine ς.bind' (Ll r κ (.inr rfl) _ ?_);rw[γ];exact ς.bind' (FZ Ζ μ hb κ (ς.pure' (.same Α I (.z _))))
  ·exact .bad
 ·exact .bad
theorem Tq (Ζ:bN P T) (Α:Holds S B σ H) (op:BinOp) (ty:TypeId) (p q:Operand) {a b:θ} {v w:Value} (μ:aj S B σ a v) (hb:aj S B σ b w):cB P (do eqGuard op ty p q v w;binOp op ty v w) S B H σ ((B7 T op ty a b).dh σ):=by
 unfold B7;split
 ·rename_i x y;have Ν:=R8 (P:=P) Α op ty p q v w;cases μ;cases hb;split
  ·rename_i r κ;rw[κ] at Ν;exact Ν
  ·rename_i pp r κ;rw[κ] at Ν;exact Ν
  ·rename_i wu;have hx:∀r,aeqv T ty (.z v) (.z w)=some r→(∃c d,v=.bool c∧w=.bool d)∨¬(op=.eql∨op=.neq):=fun r κ=>by
    unfold aeqv at κ;split at κ<;>try cases κ
    simp only at κ;split at κ<;>try cases κ
    unfold lK at κ;split at κ
    ·split at κ
     ·rename_i e;subst e;refine .inr fun Β=>?_;rcases Β with rfl|rfl<;>simp[rl] at wu
     ·cases κ
    ·refine .inr fun Β=>?_;rcases Β with rfl|rfl<;>simp[rl] at wu
    ·exact .inl ⟨_,_,rfl,rfl⟩
    ·cases κ
   by_cases Κ:op=.eql∨op=.neq
   ·by_cases κ:∃r,aeqv T ty (.z v) (.z w)=some r
    ·obtain⟨r,κ⟩:=κ;rcases hx r κ with⟨c,d,rfl,rfl⟩|h
     ·exact Lk Ζ Α (.z _) (.z _) (fun _ _ _ K I=>by unfold eqGuard;split<;>exact ς.pure' I) (fun _ _=>⟨rfl,rfl⟩)
     ·exact absurd Κ h
    ·have:aeqv T ty (.z v) (.z w)=none:=by
      cases h:aeqv T ty (.z v) (.z w) with
      | none=>rfl
      | some r=>exact absurd ⟨r,h⟩ κ
     unfold uE;rw[this];exact .bad
   ·unfold uE;split
    ·split
     ·exact absurd (.inl rfl) Κ
     ·exact absurd (.inr rfl) Κ
     ·exact .bad
    ·exact .bad
 ·rename_i x y;cases μ with
  | aU vs Ξ ad=>cases hb with
   | aU ws k1 cx=>
    refine Lk Ζ Α (.aU vs Ξ ad) (.aU ws k1 cx) (fun r κ _ K I=>?_) (fun _ _=>⟨rfl,rfl⟩);have Τ:P.eqGuardType P.depth ty=false:=by
     unfold aeqv at κ;split at κ<;>try cases κ
     rename_i i hi;simp only at κ;split at κ<;>try cases κ
     rename_i items dd;have:=(Ζ ty i hi).1.2;rw[dd] at this;exact this.1
    exact To Τ I
 ·exact .bad
theorem Tr (Ζ:bN P T) (Α:Holds S B σ H) (ty:TypeId) {x b8:θ} {v w:Value} (δ:aj S B σ x v) (hi:aj S B σ b8 w):cB P (Instr.index ty v w) S B H σ ((B8 T ty x b8).dh σ):=by
 unfold B8;cases Μ:T ty with
 | none=>exact .bad
 | some i=>
  simp only;split
  ·rename_i s kk n hu;cases δ;cases hi;refine cB.b2 (r:=(cr.ok (.z (.int .u8 (s.data.toList.getD n.toNat 0).toNat))).dh σ) fun Η K I=>?_;unfold Instr.index;refine ς.bind' (ς.pure' ?_);refine ς.bind' (Ζ.bA Μ ?_);rw[hu];have aE:n.toNat<s.data.size:=by have:s.size=s.data.size:=rfl;omega
   have Ε:(if 0≤n then s[n.toNat]? else none)=some s.data[n.toNat]:=by
    rw[if_pos Η.1];show s[n.toNat]?=_;rw[getElem?_pos s n.toNat (by omega)];rfl
   simp only[Ε];have Δ:s.data.toList.getD n.toNat 0=s.data[n.toNat]:=by rw[List.getD_eq_getElem?_getD,Array.getElem?_toList,eY aE];rfl
   rw[Δ] at I;exact ς.pure' (.same Α I (.z _))
  ·rename_i len e xs kk n hu;cases hi;split
   ·rename_i bS dO;split
    ·rename_i η;obtain⟨c1,c2,c3⟩:=η;refine cB.b2 (r:=(cr.ok (xs.getD n.toNat .cp)).dh σ) fun Η K I=>?_;cases δ with
     | aU vs Ξ ad=>
      unfold Instr.index;refine ς.bind' (ς.pure' ?_);refine ς.bind' (Ζ.bA Μ ?_);rw[hu];simp only[Η,and_self,if_true];refine ς.bind' (Ζ.size dO ?_);rw[c2,Nat.mul_one];unfold part;refine ς.bind' (Ζ.agg dO ?_);rw[c1];have aE:n.toNat<xs.length:=by omega
      have hv:n.toNat<vs.size:=by rw[←Ξ];exact aE
      simp only[Bool.false_eq_true,if_false,eY hv];have Δ:xs.getD n.toNat .cp=xs[n.toNat]:=by simp[aE]
      rw[Δ] at I;exact ς.pure' (.same Α I (ad _ _ _ (bc aE) (eY hv)))
    ·exact .bad
   ·exact .bad
  ·exact .bad
theorem Ts (Α:Holds S B σ H) {ρ:Operand→Value} {o:Oper} {x:Operand} (Β:o.op=.nilCheck x) {a:θ} (μ:aj S B σ a (ρ x)):Does P (execOp ρ o) S B H σ ((B9 a).dh σ):=by
 unfold B9;split
 ·unfold execOp;rw[Β];simp only;generalize ρ x=v at μ;cases μ with
  | aa b o w R γ=>exact Does.val Α (.aa b o w R γ)
 ·unfold execOp;rw[Β];simp only;generalize ρ x=v at μ;cases μ with
  | fn vs ws R γ ο Ι=>exact Does.val Α (.fn vs ws R γ ο Ι)
 ·unfold execOp;rw[Β];simp only;generalize ρ x=v at μ;cases μ;exact Does.val Α (.z _)
 ·exact .bad
theorem Tt (Α:Holds S B σ H) {ρ:Operand→Value} {o:Oper} {x:Operand} (Β:o.op=.nilCheck x) {a:θ} (μ:aj S B σ a (ρ x)):Does P (execOp ρ o) S B H σ (uF σ a):=by
 unfold uF;split
 ·split
  ·rename_i t k l ω;split
   ·rename_i Η;unfold execOp;rw[Β];simp only;generalize ρ x=v at μ;cases μ with
    | ag R γ ο=>exact Does.val Α (.ag R γ ο)
    | ja v R γ=>rw[ω] at R;cases R;simp only[Row.gN] at γ;omega
   ·exact .bad
  ·exact .bad
 ·exact .bad
theorem Tu (Ζ:bN P T) (Α:Holds S B σ H) (arr:TypeId) {x:θ} {v:Value} (δ:aj S B σ x v):cB P (Instr.arrayAt arr v) S B H σ ((Ca T arr x).dh σ):=by
 unfold Ca;cases Μ:T arr with
 | none=>exact .bad
 | some i=>
  simp only;split
  ·rename_i n e ex k l hu;split
   ·rename_i η;obtain⟨c1,c2,c3⟩:=η;subst c2;refine cB.b2 (r:=(cr.ok (.aa (l.take n))).dh σ) fun Η K I=>?_;obtain⟨base,cap,rfl,_,_,ο⟩:=qe δ;obtain⟨b,o,w,rfl,Ι,ay,a6⟩:=ο (fun e=>by subst e;simp at Η;omega);unfold Instr.arrayAt;refine ς.bind' (Ζ.bA Μ ?_);rw[hu];simp only;rw[if_neg (by omega)];rw[List.all_eq_true] at c3;have el:∀(j:Nat) (e:θ),(l.take n)[j]?=some e→l[j]?=some e∧e.cells=[e]:=fun j e ε=>by
     have hm:=c3 e (List.mem_of_mem_take (cl ε));simp only[Bool.and_eq_true] at hm;rw[List.getElem?_take] at ε;split at ε
     ·exact⟨ε,θ.FC hm.2⟩
     ·cases ε
    refine ς.pure' (.same Α I (.aa b o (fun j=>w j 0) (fun j a ε=>?_) (fun j a ε=>?_)))
    ·obtain⟨Ξ,ad⟩:=el j a ε;have:=ay j a Ξ 0 a (by rw[ad];rfl);simpa using this
    ·obtain⟨Ξ,ad⟩:=el j a ε;exact a6 j a Ξ 0 a (by rw[ad];rfl)
   ·exact .bad
  ·exact .bad
theorem Lm {ty:TypeId} (h:yS T ty=true):∃i e bS,T ty=some i∧i.bA=.slice e∧T e=some bS∧bS.bA=.int .i32∧bS.size=1:=by
 unfold yS at h;split at h
 ·rename_i i hi;split at h
  ·rename_i e hu;split at h
   ·rename_i bS dO;simp only[Bool.and_eq_true,beq_iff_eq] at h;refine⟨i,e,bS,hi,hu,dO,?_,h.2⟩;have:=h.1;split at this
    ·assumption
    ·cases this
   ·cases h
  ·cases h
 ·cases h
theorem Ln {ty:TypeId} (h:yT T ty=true):∃i,T ty=some i∧i.bA=.string:=by
 unfold yT at h;split at h
 ·rename_i i hi;refine⟨i,hi,?_⟩;split at h
  ·assumption
  ·cases h
 ·cases h
theorem Tv (Ζ:bN P T) (Α:Holds S B σ H) (src dst:TypeId) {x:θ} {v:Value} (δ:aj S B σ x v):cB P (convert src dst v) S B H σ ((Cb T src dst x).dh σ):=by
 unfold Cb;split
 ·rename_i η;obtain⟨i,hi,hu⟩:=Ln η.1;obtain⟨j,e,bS,ε,F8,dO,F9,cd⟩:=Lm η.2;split
  ·rename_i s;cases δ;intro K I;unfold convert;refine ς.bind' (Ζ.bA hi (ς.bind' (Ζ.bA ε ?_)));rw[hu,F8];simp only;refine ς.bind' (Ζ.bA dO ?_);rw[F9];simp only;unfold Conv.stringToRunes;refine ς.bind' ?_;unfold choose;simp only[ς];have Υ:(Question.appendCap (Conv.runesFrom s s.size 0 #[]).size 0 e).forced=false:=rfl;rw[Υ];simp only[Bool.false_eq_true,if_false];intro q;generalize F':Conv.runesFrom s s.size 0 #[]=kX at I ⊢;have v9:kX.size≤(Question.appendCap kX.size 0 e).cut q:=by simp[Question.cut]
   refine ς.bind' (ς.bind' ?_);have Tw:∀v∈kX,One v:=by
    have key:∀(bound i:Nat) (acc:Array Value),(∀v∈acc,One v)→∀v∈Conv.runesFrom s bound i acc,One v:=by
     intro bound
     induction bound with
     | zero=>intro i acc h;exact h
     | succ n Γ=>
      intro i acc h;unfold Conv.runesFrom;split
      ·refine Γ _ _ fun v hv=>?_;rcases Array.mem_push.1 hv with hv|rfl
       ·exact h v hv
       ·trivial
      ·exact h
    rw[←F'];exact key _ _ _ (fun v hv=>by simp at hv)
   have yJ:fw S B σ (kX++Array.replicate ((Question.appendCap kX.size 0 e).cut q-kX.size) (.int .i32 0)) 1 (kX.toList.map .z):=by
    refine⟨by simp,fun j a ε=>?_⟩;rw[List.getElem?_map,Array.getElem?_toList] at ε;cases δ:kX[j]? with
    | none=>rw[δ] at ε;cases ε
    | some y=>
     rw[δ] at ε;cases ε;refine⟨rfl,fun z b Ν=>?_⟩
     match z with
     | 0=>
      simp[θ.cells] at Ν;subst Ν;refine⟨y,?_,.z y,Tw y (Array.mem_of_getElem? δ)⟩;have:=(Array.getElem?_eq_some_iff.1 δ).1;rw[Array.getElem?_append_left (by simpa using this)];simpa using δ
     | z+1=>simp[θ.cells] at Ν
   refine yD Α _ e fun r R γ ο=>ς.pure' (ς.pure' ⟨_,_,_,_,I,γ,R,ο,?_⟩);have:=Bz (cap:=(Question.appendCap kX.size 0 e).cut q) false ο yJ (by simpa using v9) (by simp);simpa using this
  ·exact .bad
 ·exact .bad
theorem Tx:∀(l:List θ) (r:List Int),rv l=some r→r.length=l.length∧∀(i:Nat) (n:Int),r[i]?=some n→l[i]?=some (.z (.int .i32 n)):=by
 intro l
 induction l with
 | nil=>intro r h;cases h;exact⟨rfl,fun i n h=>by simp at h⟩
 | cons a l Γ=>
  intro r h;unfold rv at h;split at h
  ·rename_i heq;cases heq
  ·rename_i n dK heq;cases heq;cases ω:rv l with
   | none=>rw[ω] at h;cases h
   | some r'=>
    rw[ω] at h;cases h;obtain⟨R,γ⟩:=Γ r' ω;refine⟨by simp[R],fun i m hm=>?_⟩;cases i with
    | zero=>simp at hm;subst hm;rfl
    | succ i=>exact γ i m (by simpa using hm)
  ·cases h
theorem Ty (Ζ:bN P T) (Α:Holds S B σ H) (src dst:TypeId) {x:θ} {v:Value} (δ:aj S B σ x v):cB P (convert src dst v) S B H σ ((sQ T src dst σ x).dh σ):=by
 unfold sQ;split
 ·rename_i η;obtain⟨i,e,bS,hi,hu,dO,F9,cd⟩:=Lm η.1;obtain⟨j,ε,F8⟩:=Ln η.2;split
  ·rename_i k l ω;split
   ·rename_i υ;split
    ·rename_i r κ;obtain⟨base,cap,w,rfl,_,Ga,F'⟩:=BJ Α δ (k:=1) ω (by omega) (υ.symm);obtain⟨AP,Tz⟩:=Tx l r κ;intro K I;unfold convert;refine ς.bind' (Ζ.bA hi (ς.bind' (Ζ.bA ε ?_)));rw[hu,F8];have hw:∀i,i<l.length→w i=.int .i32 (r.getD i 0):=fun i h'=>by
      have Lo:r[i]?=some r[i]:=bc (by omega)
      have:=(F' i _ (Tz i _ Lo)).2 0 _ rfl;rw[Nat.mul_one,Nat.add_zero] at this;rw[List.getD_eq_getElem?_getD,Lo];generalize w i=u at this;cases this;rfl
     have go:ς P (Conv.runesToString (.slice base l.length cap)) H (h9 S B H σ K) (fun _ _=>False):=by
      unfold Conv.runesToString;rw[Nat.mul_one] at Ga;cases base with
      | none=>
       simp only;rcases Ga with ae|⟨b,o,hb,_⟩
       ·have:r=[]:=dq.1 (by rw[AP,ae]);subst this;exact ς.pure' (.same Α I (.z _))
       ·cases hb
      | some a=>
       simp only;have fold:∀(rs:List Int) (acc:ByteArray),ς P (forIn (rs.map fun n=>Value.int .i32 n) acc fun(c:Value) (s:ByteArray)=>do
         let .int .i32 n:=c|stuck "runesToString: rune expected"
         pure (ForInStep.yield (s++Utf8.encode n))) H (fun s H'=>s=rs.foldl (fun s n=>s++Utf8.encode n) acc∧H'=H) (fun _ _=>False):=by
        intro rs
        induction rs with
        | nil=>intro acc;exact .forIn_nil ⟨rfl,rfl⟩
        | cons n rs Γ=>
         intro acc;rw[List.map_cons];refine .forIn_cons ?_;exact ς.pure' (Γ (acc++Utf8.encode n))
       have cells:ς P (loadCells a l.length) H (fun vs H'=>vs=(r.map fun n=>Value.int .i32 n).toArray∧H'=H) (fun _ _=>False):=by
        rcases Ga with ae|⟨b,o,hb,FU⟩
        ·rw[ae];have:r=[]:=dq.1 (by rw[AP,ae]);subst this;exact ς.pure' ⟨rfl,rfl⟩
        ·cases hb;refine ς.loadCells w rfl FU ⟨?_,rfl⟩;congr 1;apply List.ext_getElem?;intro i;rw[List.getElem?_map,List.getElem?_map];by_cases h':i<l.length
         ·rw[List.getElem?_range h',bc (show i<r.length by omega)];simp only[Option.map_some];rw[hw i h',List.getD_eq_getElem?_getD,bc (show i<r.length by omega)];rfl
         ·rw[List.getElem?_eq_none (by simp;omega),List.getElem?_eq_none (by omega)];rfl
       refine ς.bind' (ς.mono (fun vs H' ⟨Ε,Δ⟩=>?_) (fun _ _ h=>h) _ cells);subst Ε;subst Δ;rw[←Array.forIn_toList];refine ς.bind' (ς.mono (fun s H' ⟨Ε,Δ⟩=>?_) (fun _ _ h=>h) _ (fold r .empty));subst Ε;subst Δ;exact ς.pure' (.same Α I (.z _))
     have:ς P (do
      match ←underlying e with
      | .int .u8=>Conv.bytesToString (.slice base l.length cap)
      | .int .i32=>Conv.runesToString (.slice base l.length cap)
      | _=>stuck "Convert: a slice of what to string?") H (h9 S B H σ K) (fun _ _=>False):=by
      refine ς.bind' (Ζ.bA dO ?_);rw[F9];exact go
     cases base<;>exact this
    ·exact .bad
   ·exact .bad
  ·exact .bad
 ·exact .bad
end
def Cc (σ:List Row):cT:=.all 2 fun j=>.ok (.z (.bool (j==1))) σ
def Cd (T:a7) (ty:TypeId) (σ:List Row) (a:θ):cT:=match T ty with
 | some i=>match i.bA with
  | .slice _=>match a with
   | .ms id n i len=>match σ[id]? with
    | some (.cells _ _ l)=>if l.length=n∧i+len≤n then(if len=0 then Cc σ else .ok (.z (.bool false)) σ) else .bad
    | _=>.bad
   | .sl _ _ l=>if l.isEmpty then Cc σ else .ok (.z (.bool false)) σ
   | _=>.bad
  | _=>.bad
 | none=>.bad
section
variable {P:Program} {T:a7} {S:aA} {B:aN} {H:ψ} {σ:List Row}
theorem yU (Ζ:bN P T) (Α:Holds S B σ H) {ty:TypeId} {i:hP} (hi:T ty=some i) {e:TypeId} (hu:i.bA=.slice e) (p q:Operand) (base:Option Addr) (len cap:Nat) {dh:cT}
  (TA:∀K,dh.holds K→K (.z (.bool base.isNone)) σ):cB P (do eqGuard .eql ty p q (.slice base len cap) (.slice none 0 0);binOp .eql ty (.slice base len cap) (.slice none 0 0)) S B H σ dh:=by
 intro K I;have I:=TA K I;refine ς.bind' ?_;unfold eqGuard;refine ς.pure' ?_;have TB:binOp .eql ty (.slice base len cap) (.slice none 0 0)=(do pure (Value.bool (←Op.equal ty (.slice base len cap) (.slice none 0 0)))):=rfl;rw[TB];refine ς.bind' ?_;unfold Op.equal;unfold Op.equalIn;refine ς.bind' (Ζ.bA hi ?_);rw[hu];cases base with
 | none=>exact ς.pure' (ς.pure' (.same Α I (.z _)))
 | some b=>exact ς.pure' (ς.pure' (.same Α I (.z _)))
theorem Gb {K:θ→List Row→Prop} (h:(Cc σ).holds K) (b:Bool):K (.z (.bool b)) σ:=by
 cases b
 ·exact h 0 (by decide)
 ·exact h 1 (by decide)
theorem TC (Ζ:bN P T) (Α:Holds S B σ H) (ty:TypeId) (p q:Operand) {a:θ} {v:Value} (μ:aj S B σ a v):cB P (do eqGuard .eql ty p q v (.slice none 0 0);binOp .eql ty v (.slice none 0 0)) S B H σ (Cd T ty σ a):=by
 unfold Cd;split
 ·rename_i i hi;split
  ·rename_i e hu;split
   ·rename_i id n j len;split
    ·rename_i t k l κ;split
     ·rename_i η;cases μ with
      | @ms _ _ _ _ _ _ _ bo base cap R γ ο Ι ay a6=>
       split
       ·exact yU Ζ Α hi hu p q base len cap fun K I=>Gb I _
       ·rename_i hlen;refine yU Ζ Α hi hu p q base len cap fun K I=>?_;rcases a6 with a6|⟨b,N,_,gv,_⟩
        ·omega
        ·rw[gv];exact I
      | iC v R γ=>
       rw[κ] at R;cases R;exact absurd η.1 (Nat.ne_of_gt γ)
     ·exact .bad
    ·exact .bad
   ·rename_i l;cases μ with
    | h7 base cap R=>exact yU Ζ Α hi hu p q base 0 cap fun K I=>Gb I _
    | sl b o cap w R γ=>
     split
     ·exact yU Ζ Α hi hu p q _ _ cap fun K I=>Gb I _
     ·exact yU Ζ Α hi hu p q _ _ cap fun K I=>I
   ·exact .bad
  ·exact .bad
 ·exact .bad
end
def cr.or (r:cr) (σ:List Row) (s:cT):cT:=match r with
 | .ok a=>.ok a σ
 | .b2 p r=>.b2 p (r.dh σ)
 | .bad=>s
def pd (A:List Nat) (d:Option Tmp):Bool:=match d with|some d=>A.contains d|none=>false
def ry (env:Χ) (cK:Array (Nat×Operand)):List (Nat×θ):=cK.toList.map fun p=>(p.1,aL env p.2)
def wv (c a b:θ):cr:=match c with
 | .z (.bool v)=>match a,b with
  | .z (.bool x),.z (.bool y)=>.ok (.z (.bool (bif v then x else y)))
  | _,_=>match v with|true=>.ok a|false=>.ok b
 | _=>.bad
def rz (T:a7) (σ:List Row) (src dst:TypeId) (x:θ):cr:=match we T src dst x with
 | .bad=>match Cb T src dst x with
  | .bad=>sQ T src dst σ x
  | r=>r
 | r=>r
def lL (T:a7) (A:List Nat) (env:Χ) (o:Oper):cr:=
 match o.op with
 | .move x=>.ok (aL env x)
 | .assign x=>.ok (aL env x)
 | .pick c a b=>wv (aL env c) (aL env a) (aL env b)
 | .alloc ty=>if pd A o.dst then .bad else BC T ty
 | .box _ x=>if pd A o.dst then .bad else v' (aL env x)
 | .build ty cK=>mz T (θ.a0 []) ty (ry env cK)
 | .buildSlice ty n cK=>if pd A o.dst then .bad else yG T (θ.a0 []) ty n (ry env cK)
 | .load ty x=>Br T ty (aL env x)
 | .binOp op ty x y _=>B7 T op ty (aL env x) (aL env y)
 | .unOp op _ x=>v3 op (aL env x)
 | .convert s d x=>rz T [] s d (aL env x)
 | .index ty x i=>B8 T ty (aL env x) (aL env i)
 | .nilCheck x=>B9 (aL env x)
 | .sliceToArrayPointer ty x=>Ca T ty (aL env x)
 | .makeInterface ty x=>Bq T ty (aL env x)
 | .makeFunc f cV cs=>.ok (.fn f (cV.toList.map (aL env)) (cs.toList.map (aL env)))
 | .makeSlice ty n c=>if pd A o.dst then .bad else BH T ty (aL env n) (aL env c)
 | .slice ty x lo hi none=>BP T ty (aL env x) (lo.map (aL env)) (hi.map (aL env))
 | .fieldAddr ty x f=>Bt T ty f (aL env x)
 | .indexAddr ty x i=>Bv T ty (aL env x) (aL env i)
 | .typeAssert x _ ty ok=>uj T ty ok (aL env x)
 | .extract x i=>Bp i (aL env x)
 | .call ⟨.builtin b,⟨[x]⟩,⟨[ty]⟩⟩=>match b with
  | .len=>BR T ty (aL env x)
  | _=>.bad
 | .call ⟨.builtin b,⟨[x,y]⟩,⟨[sR,ty]⟩⟩=>match b with
  | .max=>BT [aL env x,aL env y]
  | .append=>if pd A o.dst then .bad else rn T sR ty (θ.a0 []) [] (aL env x) (aL env y)
  | _=>.bad
 | _=>.bad
def jT (T:a7) (A:List Nat) (env:Χ) (σ:List Row) (o:Oper):cT:=
 match o.op with
 | .alloc ty=>if pd A o.dst then BB T ty σ else .bad
 | .box ty x=>if pd A o.dst then wa ty σ (aL env x) else BA σ (aL env x)
 | .build ty cK=>(mz T (θ.a0 σ) ty (ry env cK)).dh σ
 | .buildSlice ty n cK=>if pd A o.dst then BF T ty n (ry env cK) σ else(yG T (θ.a0 σ) ty n (ry env cK)).dh σ
 | .load ty x=>uk T ty σ (aL env x)
 | .store ty p x=>Bx T ty σ (aL env p) (aL env x)
 | .convert s d x=>(rz T σ s d (aL env x)).dh σ
 | .nilCheck x=>uF σ (aL env x)
 | .binOp .eql ty x (.const (.slice none 0 0)) _=>Cd T ty σ (aL env x)
 | .makeMap _ none=>F2 σ
 | .mapUpdate ty m k x=>yO T ty σ (aL env m) (aL env k) (aL env x)
 | .insert ty m k x=>yO T ty σ (aL env m) (aL env k) (aL env x)
 | .lookup ty x k ok=>BX T ty ok σ (aL env x) (aL env k)
 | .range ty x=>BZ T ty σ (aL env x)
 | .next it false=>B0 σ (aL env it)
 | .entry it=>B3 σ (aL env it)
 | .makeSlice ty n c=>if pd A o.dst then BG T ty (aL env n) (aL env c) σ else .bad
 | .slice ty x lo hi none=>BQ T ty σ (aL env x) (lo.map (aL env)) (hi.map (aL env))
 | .fieldAddr ty x f=>um T ty f σ (aL env x)
 | .indexAddr ty x i=>uo T ty σ (aL env x) (aL env i)
 | .call ⟨.builtin b,⟨[x]⟩,⟨[ty]⟩⟩=>match b with
  | .len=>BS T ty σ (aL env x)
  | .clear=>B6 T ty σ (aL env x)
  | _=>.bad
 | .call ⟨.builtin b,⟨[x,y]⟩,⟨[sR,ty]⟩⟩=>match b with
  | .append=>if pd A o.dst then BN T sR ty σ (aL env x) (aL env y) else(rn T sR ty (θ.a0 σ) σ (aL env x) (aL env y)).dh σ
  | _=>.bad
 | _=>.bad
section
variable {P:Program} {T:a7} {A:List Nat} {S:aA} {B:aN} {H:ψ} {σ:List Row} {env:Χ} {t:Array Value}
theorem cr.TD {s:Sem Next} {r:cr} {a:cT} (R:Does P s S B H σ (r.dh σ)) (γ:Does P s S B H σ a):Does P s S B H σ (r.or σ a):=by
 cases r with
 | ok x=>exact R
 | b2 p r=>exact R
 | bad=>exact γ
theorem TE (Α:Holds S B σ H) {c a b:θ} {u v w:Value} (η:aj S B σ c u) (μ:aj S B σ a v) (hb:aj S B σ b w):cB P (do pure (if ←asBool u then v else w)) S B H σ ((wv c a b).dh σ):=by
 unfold wv;split
 ·rename_i x;cases η;split
  ·rename_i p q;cases μ;cases hb;intro K I;refine ς.bind' (ς.pure' (ς.pure' ?_));cases x
   ·exact .same Α I (.z _)
   ·exact .same Α I (.z _)
  ·cases x
   ·exact fun K I=>ς.bind' (ς.pure' (ς.pure' (.same Α I hb)))
   ·exact fun K I=>ς.bind' (ς.pure' (ς.pure' (.same Α I μ)))
 ·exact .bad
theorem TF (cC:c7 S B σ env t) (f:Fn) (cV cs:Array Operand):aj S B σ (.fn f (cV.toList.map (aL env)) (cs.toList.map (aL env))) (.func f (cV.map (bk t)) (cs.map (bk t))):=by
 refine .fn _ _ (by simp) (by simp) (fun i a v R γ=>?_) (fun i a v R γ=>?_)
 ·rw[List.getElem?_map] at R;rw[Array.getElem?_map] at γ;rw[Array.getElem?_toList] at R;cases δ:cV[i]? with
  | none=>rw[δ] at R;cases R
  | some x=>rw[δ] at R γ;cases R;cases γ;exact kW cC x
 ·rw[List.getElem?_map] at R;rw[Array.getElem?_map] at γ;rw[Array.getElem?_toList] at R;cases δ:cs[i]? with
  | none=>rw[δ] at R;cases R
  | some x=>rw[δ] at R γ;cases R;cases γ;exact kW cC x
theorem Ce (cC:c7 S B σ env t) (o:Option Operand):uw S B σ (o.map (aL env)) (o.map (bk t)):=by
 cases o with
 | none=>trivial
 | some x=>exact kW cC x
theorem Lp {a:θ} {r:Nat×List θ} (h:o5 [] a=some r):o5 σ a=some r:=by
 cases a<;>first|exact h|(simp[o5] at h)
theorem TG {st xt:TypeId} {s x:θ}:rn T st xt (θ.a0 []) [] s x=.bad∨rn T st xt (θ.a0 []) [] s x=rn T st xt (θ.a0 []) σ s x:=by
 unfold rn;cases δ:o5 [] x with
 | none=>left;split<;>simp_all
 | some r=>rw[Lp δ];exact .inr rfl
theorem Lq (Ζ:bN P T) (Α:Holds S B σ H) (src dst:TypeId) {x:θ} {v:Value} (δ:aj S B σ x v):cB P (convert src dst v) S B H σ ((rz T σ src dst x).dh σ):=by
 have R:=SQ Ζ Α src dst δ
 have γ:=Tv Ζ Α src dst δ;unfold rz;split
 ·split
  ·exact Ty Ζ Α src dst δ
  ·exact γ
 ·exact R
theorem TH {src dst:TypeId} {x:θ}:sQ T src dst [] x=.bad∨sQ T src dst [] x=sQ T src dst σ x:=by
 unfold sQ;split
 ·cases δ:o5 [] x with
  | none=>exact .inl rfl
  | some r=>rw[Lp δ];exact .inr rfl
 ·exact .inl rfl
theorem TI {src dst:TypeId} {x:θ}:rz T [] src dst x=.bad∨rz T [] src dst x=rz T σ src dst x:=by
 unfold rz;split
 ·split
  ·exact TH
  ·exact .inr rfl
 ·exact .inr rfl
theorem TJ (Ζ:bN P T) (Α:Holds S B σ H) (cC:c7 S B σ env t) (o:Oper):Does P (execOp (bk t) o) S B H σ ((lL T A env o).dh σ):=by
 have ab:∀x,aj S B σ (aL env x) (bk t x):=fun x=>kW cC x;obtain⟨dst,op,type,pos,after,guard⟩:=o;unfold lL;simp only;split
 ·exact Does.val Α (ab _)
 ·exact Does.val Α (ab _)
 ·rename_i c a b;have:=(TE (P:=P) Α (ab c) (ab a) (ab b)).next;unfold execOp;simp only;refine fun K I=>?_;have γ:=this K I;simpa using γ
 ·split
  ·exact .bad
  ·exact(St Ζ Α _).next
 ·split
  ·exact .bad
  ·exact(Sq Α _ (ab _)).next
 ·exact(KV Ζ Α (fun a h=>By h) _ cC _).next
 ·split
  ·exact .bad
  ·exact(KY Ζ Α (fun a h=>By h) _ _ cC _).next
 ·exact(Sd Ζ Α (ab _)).next
 ·exact(Tq Ζ Α _ _ _ _ (ab _) (ab _)).next
 ·exact(R9 Α _ (ab _)).next
 ·rename_i a b x;rcases TI (T:=T) (σ:=σ) (src:=a) (dst:=b) (x:=aL env x) with h|h
  ·rw[h];exact .bad
  ·rw[h];exact(Lq Ζ Α _ _ (ab _)).next
 ·exact(Tr Ζ Α _ (ab _) (ab _)).next
 ·exact Ts Α rfl (ab _)
 ·exact(Tu Ζ Α _ (ab _)).next
 ·exact(Sa Ζ Α _ (ab _)).next
 ·exact cB.next (cB.pure Α (TF cC _ _ _))
 ·split
  ·exact .bad
  ·exact(Sx Ζ Α (ab _) (ab _)).next
 ·exact(SM Ζ Α _ (ab _) (Ce cC _) (Ce cC _)).next
 ·exact(Sf Ζ Α (ab _)).next
 ·exact(Sl Ζ Α (ab _) (ab _)).next
 ·exact(Sb Ζ Α _ _ _ (ab _)).next
 ·exact(R' Α _ (ab _)).next
 ·split
  ·exact fun K I=>by
       refine ς.bind' (ς.pure' ?_);have e:∀x:Operand,Array.map (bk t) {toList:=[x]}=#[bk t x]:=fun x=>by simp
       simp only[invoke,builtin,e];exact(SO Ζ Α _ _ (ab _)).next K I
  ·exact .bad
 ·split
  ·exact fun K I=>by
       refine ς.bind' (ς.pure' ?_);have e:∀x y:Operand,Array.map (bk t) {toList:=[x,y]}=#[bk t x,bk t y]:=fun x y=>by simp
       simp only[invoke,builtin,e];exact(SR Α _ _ (ab _) (ab _)).next K I
  ·split
   ·exact .bad
   ·rename_i x y sR ty _ _;rcases TG (T:=T) (σ:=σ) (st:=sR) (xt:=ty) (s:=aL env x) (x:=aL env y) with h|h
    ·rw[h];exact .bad
    ·rw[h];exact fun K I=>by
       refine ς.bind' (ς.pure' ?_);have e:∀x y:Operand,Array.map (bk t) {toList:=[x,y]}=#[bk t x,bk t y]:=fun x y=>by simp
       simp only[invoke,builtin,e];exact(K5 Ζ Α (fun a h=>By h) _ _ _ (ab _) (ab _)).next K I
  ·exact .bad
 ·exact .bad
theorem TK (Ζ:bN P T) (Α:Holds S B σ H) (cC:c7 S B σ env t) (o:Oper):Does P (execOp (bk t) o) S B H σ (jT T A env σ o):=by
 have ab:∀x,aj S B σ (aL env x) (bk t x):=fun x=>kW cC x;obtain⟨dst,op,type,pos,after,guard⟩:=o;unfold jT;simp only;split
 ·split
  ·exact(Ss Ζ Α _).next
  ·exact .bad
 ·split
  ·exact(Sr Α _ (ab _)).next
  ·exact(Sp Α _ (ab _)).next
 ·exact(KV Ζ Α (fun a h=>h) _ cC _).next
 ·split
  ·exact(Sv Ζ Α _ _ cC _).next
  ·exact(KY Ζ Α (fun a h=>h) _ _ cC _).next
 ·exact(Se Ζ Α (ab _)).next
 ·exact(So Ζ Α (ab _) (ab _)).next
 ·exact(Lq Ζ Α _ _ (ab _)).next
 ·exact Tt Α rfl (ab _)
 ·exact(TC Ζ Α _ _ _ (ab _)).next
 ·exact(S5 Α _).next
 ·exact(Le Ζ Α (ab _) (ab _) (ab _)).next
 ·exact(Le Ζ Α (ab _) (ab _) (ab _)).next
 ·exact(S6 Ζ Α (ab _) (ab _)).next
 ·exact(S' Ζ Α (ab _)).next
 ·exact(Td Α _ (ab _)).next
 ·exact(Tj Α (ab _)).next
 ·split
  ·exact(Sw Ζ Α (ab _) (ab _)).next
  ·exact .bad
 ·exact(SN Ζ Α _ (ab _) (Ce cC _) (Ce cC _)).next
 ·exact(Sg Ζ Α (ab _)).next
 ·exact(Sm Ζ Α (ab _) (ab _)).next
 ·split
  ·exact fun K I=>by
       refine ς.bind' (ς.pure' ?_);have e:∀x:Operand,Array.map (bk t) {toList:=[x]}=#[bk t x]:=fun x=>by simp
       simp only[invoke,builtin,e];exact(SP Ζ Α _ _ (ab _)).next K I
  ·exact fun K I=>by
       refine ς.bind' (ς.pure' ?_);have e:∀x:Operand,Array.map (bk t) {toList:=[x]}=#[bk t x]:=fun x=>by simp
       simp only[invoke,builtin,e];exact(Tn Ζ Α _ (ab _)).next K I
  ·exact .bad
 ·split
  ·split
   ·exact fun K I=>by
       refine ς.bind' (ς.pure' ?_);have e:∀x y:Operand,Array.map (bk t) {toList:=[x,y]}=#[bk t x,bk t y]:=fun x y=>by simp
       simp only[invoke,builtin,e];exact(SD Ζ Α _ _ _ (ab _) (ab _)).next K I
   ·exact fun K I=>by
       refine ς.bind' (ς.pure' ?_);have e:∀x y:Operand,Array.map (bk t) {toList:=[x,y]}=#[bk t x,bk t y]:=fun x y=>by simp
       simp only[invoke,builtin,e];exact(K5 Ζ Α (fun a h=>h) _ _ _ (ab _) (ab _)).next K I
  ·exact .bad
 ·exact .bad
end
end Go.TL
