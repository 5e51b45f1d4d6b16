import Derived.Test.YtlabjopijpkiaaaGreatQAP
set_option maxHeartbeats 16000000
set_option maxRecDepth 20000
set_option linter.unusedSectionVars false
set_option linter.unusedSimpArgs false
set_option linter.unusedVariables false
namespace Go.TL
open Go.Conc
variable [bd]
def uH (P:Program) (T:a7) (A:List Nat) (env:Χ) (o:Oper) (σ:List Row) (K:θ→List Row→Prop) (E:θ→Χ→List Row→Prop):Prop:=match o.op with
 | .call ⟨.value f,args,_⟩=>hR P (aL env f) (args.toList.map (aL env)) σ K (fun a s=>E a env s)
 | .panic y=>match aL env y with|.fv t a=>E (.fv t a) env σ|_=>False
 | .defer _=>False
 | _=>((lL T A env o).or σ (jT T A env σ o)).holds K
def jd (w:Bool) (a b:Prop):Prop:=(w=false→a)∧(w=true→b)
theorem TO {a b:Prop}:jd true a b=b:=by simp[jd]
theorem TP {a b:Prop}:jd false a b=a:=by simp[jd]
theorem TQ {w w':Bool} {a b:Prop} (h:w=w'):jd w a b=jd w' a b:=by rw[h]
def gz {α:Type} (x:Option α) (f:α→Prop):Prop:=match x with|none=>False|some a=>f a
theorem TR {α:Type} {a:α} {f:α→Prop}:gz (some a) f=f a:=Eq.trans rfl rfl
theorem TS {α:Type} {f:α→Prop}:gz none f=False:=rfl
theorem TT {α:Type} {x cZ:Option α} {f:α→Prop} (h:x=cZ):gz x f=gz cZ f:=by rw[h]
theorem TU {K:θ→List Row→Prop} {r r':cT} (h:r=r'):r.holds K=r'.holds K:=by rw[h]
theorem or_congr {r r':cr} {σ:List Row} {s:cT} (h:r=r'):r.or σ s=r'.or σ s:=by rw[h]
def run (P:Program) (T:a7) (A:List Nat) (nt:Nat) (ops:Array Oper):List Nat→Χ→List Row→(Χ→List Row→Prop)→(θ→Χ→List Row→Prop)→Prop
 | [],env,σ,K,_=>K env σ
 | i::is,env,σ,K,E=>gz ops[i]? fun o=>hB nt o=true∧gz (fp env ops o) fun w=>
   jd w (run P T A nt ops is (b5 o env .cp) σ K E) (uH P T A env o σ (fun a σ'=>run P T A nt ops is (b5 o env a) σ' K E) E)
def Lu (P:Program) (T:a7) (A:List Nat) (nt:Nat) (ops:Array Oper) (is:List Nat) (o:Oper) (env:Χ) (K:Χ→List Row→Prop) (E:θ→Χ→List Row→Prop) (a:θ) (σ':List Row):Prop:=run P T A nt ops is (b5 o env a) σ' K E
theorem oc {P:Program} {T:a7} {A:List Nat} {nt:Nat} {ops:Array Oper} {env:Χ} {σ:List Row} {K:Χ→List Row→Prop} {E:θ→Χ→List Row→Prop}:run P T A nt ops [] env σ K E=K env σ:=Eq.trans rfl rfl
theorem ζ {P:Program} {T:a7} {A:List Nat} {nt:Nat} {ops:Array Oper} {i:Nat} {is:List Nat} {env:Χ} {σ:List Row} {K:Χ→List Row→Prop} {E:θ→Χ→List Row→Prop} :
  run P T A nt ops (i::is) env σ K E=gz ops[i]? fun o=>hB nt o=true∧gz (fp env ops o) fun w=>
   jd w (run P T A nt ops is (b5 o env .cp) σ K E) (uH P T A env o σ (Lu P T A nt ops is o env K E) E):=Eq.trans rfl rfl
theorem Lv {P:Program} {T:a7} {A:List Nat} {nt:Nat} {ops:Array Oper} {is:List Nat} {o:Oper} {env:Χ} {σ:List Row} {K:Χ→List Row→Prop} {E:θ→Χ→List Row→Prop} {a:θ}:Lu P T A nt ops is o env K E a σ=run P T A nt ops is (b5 o env a) σ K E:=Eq.trans rfl rfl
section
variable {P:Program} {T:a7} {A:List Nat} {m nt:Nat} {k:List Item} {env:Χ} {σ:List Row} {Z:List Item→Χ→List Row→Prop} {E:θ→Χ→List Row→Prop} {K:θ→List Row→Prop}
theorem W.bB {ops:Array Oper} (h:W P m nt k env σ Z E):W P m nt (.inRegion ops []::k) env σ Z E:=fun Q mn x cs b S B H t δ hb χ Ν he=>.bB δ hb (h Q mn x cs b S B H t δ hb χ Ν he)
theorem Ge (Ζ:bN P T) {ops:Array Oper} (ni:List Nat):∀(is:List Nat) (env:Χ) (σ:List Row),run P T A nt ops is env σ (fun env σ=>W P m nt (.inRegion ops ni::k) env σ Z E) E→W P m nt (.inRegion ops (is++ni)::k) env σ Z E:=by
 intro is
 induction is with
 | nil=>intro env σ h;exact h
 | cons i is Γ=>
  intro env σ h;unfold run gz at h;split at h
  ·exact h.elim
  ·rename_i o Β;obtain⟨hd,h⟩:=h;split at h
   ·exact h.elim
   rename_i w hw;unfold jd at h;cases w
   ·exact .unwanted Β hw hd (Γ _ _ (h.1 rfl))
   ·replace h:=h.2 rfl
    unfold uH at h;split at h
    ·rename_i f args dL Κ;exact .call Β hw hd Κ (h.mono (fun a s h=>Γ _ _ h) (fun _ _ h=>h))
    ·rename_i y Κ;split at h
     ·rename_i ty a Ο;exact .panic Β hw Κ Ο h
     ·exact h.elim
    ·exact h.elim
    ·rename_i R γ ο;refine .op (A:=A) Ζ Β hw hd (fun c η=>ο c η) ?_;generalize (lL T A env o).or σ (jT T A env σ o)=r at h;have key:∀r:cT,r.holds (fun a σ'=>run P T A nt ops is (b5 o env a) σ' (fun env σ=>W P m nt (.inRegion ops ni::k) env σ Z E) E)→r.holds fun a σ'=>W P m nt (.inRegion ops (is++ni)::k) (b5 o env a) σ' Z E:=by
      intro r
      induction r with
      | ok a s=>exact fun h=>Γ _ _ h
      | b2 p r lH=>exact fun h=>⟨h.1,lH h.2⟩
      | all n f lH=>exact fun h i hi=>lH i (h i hi)
      | bad=>exact fun h=>h
     exact key r h
theorem cT.TV {K K':θ→List Row→Prop} (I:∀a s,K a s→K' a s):∀r:cT,r.holds K→r.holds K':=by
 intro r
 induction r with
 | ok a s=>exact fun h=>I _ _ h
 | b2 p r Γ=>exact fun h=>⟨h.1,Γ h.2⟩
 | all n f Γ=>exact fun h i hi=>Γ i (h i hi)
 | bad=>exact fun h=>h
theorem TW {env:Χ} {o:Oper} {K K':θ→List Row→Prop} (I:∀a s,K a s→K' a s) (h:uH P T A env o σ K E):uH P T A env o σ K' E:=by
 unfold uH at h ⊢;split
 ·rename_i f args dL Κ;rw[Κ] at h;exact hR.mono h I fun _ _ h=>h
 ·rename_i y Κ;rw[Κ] at h;exact h
 ·rename_i Κ;rw[Κ] at h;exact h
 ·rename_i R γ ο;split at h
  ·rename_i f args dL Κ;exact absurd Κ (R f args dL)
  ·rename_i y Κ;exact absurd Κ (γ y)
  ·rename_i y Κ;exact absurd Κ (ο y)
  ·exact cT.TV I _ h
theorem Cj {ops:Array Oper} {nt:Nat} {K K':Χ→List Row→Prop} (I:∀e s,K e s→K' e s):∀(is:List Nat) (env:Χ) (σ:List Row),run P T A nt ops is env σ K E→run P T A nt ops is env σ K' E:=by
 intro is
 induction is with
 | nil=>intro env σ h;exact I _ _ h
 | cons i is Γ=>
  intro env σ h;unfold run gz at h ⊢;cases Β:ops[i]? with
  | none=>rw[Β] at h;exact h.elim
  | some o=>
   rw[Β] at h;simp only at h ⊢;refine⟨h.1,?_⟩
   replace h:=h.2
   cases hw:fp env ops o with
   | none=>rw[hw] at h;exact h.elim
   | some w=>
    rw[hw] at h;unfold jd at h ⊢;exact⟨fun e=>Γ _ _ (h.1 e),fun e=>TW (fun a s=>Γ _ _) (h.2 e)⟩
theorem TX (Ζ:bN P T) {ops:Array Oper} (is:List Nat) (env:Χ) (σ:List Row) (h:run P T A nt ops is env σ (fun env σ=>W P m nt k env σ Z E) E):W P m nt (.inRegion ops is::k) env σ Z E:=by
 have:=Ge (A:=A) Ζ [] is env σ (ops:=ops) (k:=k) (Z:=Z) (E:=E) (P:=P) (m:=m) (nt:=nt);rw[List.append_nil] at this;refine this ?_;have mono:∀(is:List Nat) (env:Χ) (σ:List Row) (K K':Χ→List Row→Prop),(∀e s,K e s→K' e s)→run P T A nt ops is env σ K E→run P T A nt ops is env σ K' E:=fun is env σ K K' I h=>Cj I is env σ h;exact mono is env σ _ _ (fun e s h=>.bB h) h
def idx:Nat→List Nat→List Nat
 | 0,l=>l
 | n+1,l=>idx n (n::l)
theorem idx_eq (n:Nat):idx n []=List.range n:=by
 have:∀(n:Nat) (l:List Nat),idx n l=List.range.loop n l:=by
  intro n
  induction n with
  | zero=>intro l;rfl
  | succ n Γ=>intro l;exact Γ _
 exact this n []
theorem de (Ζ:bN P T) {id:Nat} {ops:Array Oper} (h:∀J:Χ→List Row→Prop,(∀env σ,W P m nt k env σ Z E→J env σ)→run P T A nt ops (idx ops.size []) env σ J E):W P m nt (.code (.region id ops false)::k) env σ Z E:=
 fun Q mn x cs b S B H t δ hb χ Ν he=>.region δ hb (TX Ζ _ _ _ (by rw[←idx_eq];exact h _ fun _ _ h=>h) Q mn x cs b S B H t δ hb χ Ν he)
theorem W.forget (env':Χ) (cC:∀p∈env',a5 env p.1=p.2) (h:W P m nt k env' σ Z E):W P m nt k env σ Z E:=
 fun Q mn x cs b S B H t δ hb χ Ν he=>by
 have yV:∀(l:Χ),(∀p∈l,a5 env p.1=p.2)→∀i,a5 l i=.cp∨a5 l i=a5 env i:=by
  intro l
  induction l with
  | nil=>intro _ i;exact .inl rfl
  | cons p l Γ=>
   intro ω i;simp only[a5];split
   ·rename_i e;subst e;exact .inr (ω p (by simp)).symm
   ·exact Γ (fun q Υ=>ω q (by simp[Υ])) i
 refine h Q mn x cs b S B H t δ hb ⟨χ.holds,fun i=>?_,χ.size,χ.rows⟩ Ν he;rcases yV env' cC i with e|e
 ·rw[e];exact .cp _
 ·rw[e];exact χ.cj i
theorem W.rA (Ζ:bN P T) (env':Χ) {id:Nat} {ops:Array Oper} (h:W P m nt k env' σ Z E) (κ:run P T A nt ops (idx ops.size []) env σ (fun e s=>s=σ∧∀p∈env',a5 e p.1=p.2) E):W P m nt (.code (.region id ops false)::k) env σ Z E:=
 de Ζ fun J I=>Cj (fun e s ⟨R,γ⟩=>I e s (R▸W.forget env' γ h)) _ _ _ κ
def uI (i:hP) (l:List θ):Option θ:=if i.agg then(if i.size≤l.length then some (.aU (l.take i.size)) else none) else l.head?
def wy (T:a7) (ty:TypeId) (σ:List Row):θ→Option θ
 | .aa cells=>match T ty with|some i=>uI i cells|none=>none
 | .ag id n i j=>match T ty,σ[id]? with
  | some j7,some (.cells _ _ l)=>if l.length=n then match l[i]? with
   | some e=>uI j7 (e.cells.drop j)
   | none=>none else none
  | _,_=>none
 | _=>none
def rB (T:a7) (env:Χ) (σ:List Row):ResultVar→Option θ
 | .tmp t=>some (a5 env t)
 | .cell a ty=>wy T ty σ (a5 env a)
def Ck:List θ→θ
 | [a]=>a
 | l=>.bt l
def qp (T:a7) (rs:List ResultVar) (env:Χ) (σ:List Row):Option θ:=(rs.mapM (rB T env σ)).map Ck
theorem Lw {i:hP} {l:List θ} {v:θ} (h:uI i l=some v):sI i l=.ok v:=by
 unfold uI at h;unfold sI;cases yz:i.agg with
 | true=>
  rw[yz] at h;simp only[if_true] at h ⊢;split at h
  ·rename_i hle;cases h;rw[if_pos hle]
  ·cases h
 | false=>
  rw[yz] at h;simp only[Bool.false_eq_true,if_false] at h ⊢;cases l with
  | nil=>cases h
  | cons a l=>cases h;rfl
theorem TY (Ζ:bN P T) {S:aA} {B:aN} {H:ψ} (Α:Holds S B σ H) {ty:TypeId} {a v:θ} {w:Value} (h:wy T ty σ a=some v) (κ:aj S B σ a w):cB P (do loadVar ty (←asAddr w)) S B H σ (.ok v σ):=by
 unfold wy at h;split at h
 ·rename_i cells;split at h
  ·rename_i i hi;cases κ with
   | aa b o w R γ=>
    have:=Bs Ζ Α hi w (fun j a ε=>Α.c6 _ _ _ (R j a ε)) γ;rw[Lw h] at this;exact this
  ·cases h
 ·rename_i id n i j;split at h
  ·rename_i j7 t k l hi ω;split at h
   ·rename_i Η;split at h
    ·rename_i e he;cases κ with
     | ag R γ ο=>
      rw[ω] at R;cases R;obtain⟨υ,w,hw⟩:=KJ Α ω ο he;have:=Bs Ζ Α hi (l:=e.cells.drop j) (b:=_) (o:=i*k+j) (fun x=>w (j+x)) (fun x a δ=>⟨true,by
       rw[List.getElem?_drop] at δ;rw[Nat.add_assoc];exact(hw _ a δ).1⟩) (fun x a δ=>by
       rw[List.getElem?_drop] at δ;exact(hw _ a δ).2.1)
      rw[Lw h] at this;exact this
     | ja v R γ=>rw[ω] at R;cases R;simp only[Row.gN] at γ;omega
    ·cases h
   ·cases h
  ·cases h
 ·cases h
theorem Cl (Ζ:bN P T) {fn:Func} {a:θ} (h:qp T fn.results.toList env σ=some a) {S:aA} {B:aN} {H:ψ} {t:Array Value} (Α:Holds S B σ H) (ξ:c7 S B σ env t) :
  ς P (results fn t) H (fun v H'=>∃au B',Ext S B H au B' H'∧b0 S au B B' σ σ∧Holds au B' σ H'∧aj au B' σ a v) (fun _ _=>False):=by
 let f:ResultVar→Sem Value:=fun r=>match r with
  | .tmp x=>pure (t.getD x undef)
  | .cell a ty=>do loadVar ty (←asAddr (t.getD a undef))
 have key:∀(rs:List ResultVar) (as9:List θ) (S:aA) (B:aN) (H:ψ),rs.mapM (rB T env σ)=some as9→Holds S B σ H→c7 S B σ env t→
   ς P (rs.mapM f) H (fun vs H'=>∃au B',Ext S B H au B' H'∧b0 S au B B' σ σ∧Holds au B' σ H'∧as9.length=vs.length∧∀(i:Nat) (a:θ) (v:Value),as9[i]?=some a→vs[i]?=some v→aj au B' σ a v) (fun _ _=>False):=by
  intro rs
  induction rs with
  | nil=>intro as9 S B H h Α _;simp at h;subst h;exact ς.pure' ⟨S,B,.refl _ _ _,.refl _ _ _,Α,rfl,fun i a v hi=>by simp at hi⟩
  | cons r rs Γ=>
   intro as9 S B H h Α ξ;rw[List.mapM_cons] at h ⊢;cases κ:rB T env σ r with
   | none=>rw[κ] at h;cases h
   | some a=>
    rw[κ] at h;simp only[Option.bind_eq_bind,Option.bind_some] at h;cases Τ:rs.mapM (rB T env σ) with
    | none=>rw[Τ] at h;cases h
    | some l2=>
     rw[Τ] at h;cases h;have step:ς P (f r) H (fun v H'=>∃au B',Ext S B H au B' H'∧b0 S au B B' σ σ∧Holds au B' σ H'∧aj au B' σ a v) (fun _ _=>False):=by
      cases r with
      | tmp x=>simp only[rB,Option.some.injEq] at κ;subst κ;exact ς.pure' ⟨S,B,.refl _ _ _,.refl _ _ _,Α,ξ x⟩
      | cell x ty=>
       refine ς.mono (fun v H' ⟨au,B',σ',b9,⟨R,γ⟩,ο,Ι,ay,a6⟩=>?_) (fun _ _ h=>h) _ (TY Ζ Α κ (ξ x) (fun b9 bj=>b9=a∧bj=σ) ⟨rfl,rfl⟩);subst R;subst γ;exact⟨au,B',ο,ay,Ι,a6⟩
     refine ς.bind' (ς.mono (fun v H1 ⟨bE,bK,Ε,l1,R,r1⟩=>?_) (fun _ _ h=>h) _ step);refine ς.bind' (ς.mono (fun vs bJ ⟨cO,eV,Δ,Lx,γ,fE,r2⟩=>?_) (fun _ _ h=>h) _ (Γ l2 bE bK H1 Τ R (ξ.later l1)));refine ς.pure' ⟨cO,eV,Ε.trans Δ,l1.trans Lx,γ,by simp[fE],fun i b9 eZ hi hv=>?_⟩
     match i with
     | 0=>simp at hi hv;subst hi;subst hv;exact r1.later Lx
     | i+1=>simp at hi hv;exact r2 i b9 eZ hi hv
 unfold qp at h;cases hm:fn.results.toList.mapM (rB T env σ) with
 | none=>rw[hm] at h;cases h
 | some as9=>
  rw[hm] at h;cases h;have υ:=key fn.results.toList as9 S B H hm Α ξ;unfold results;rw[Array.mapM_eq_mapM_toList];refine ς.bind' ?_;refine ς.bind (fn.results.toList.mapM f) (ς.mono (fun vs H1 ⟨bE,bK,Ε,l1,R,hc,r1⟩=>?_) (fun _ _ h=>h) _ υ);refine ς.pure' ?_;refine ς.pure' ⟨bE,bK,Ε,l1,R,?_⟩;by_cases Η:vs.toArray.size=1
  ·rw[dif_pos Η];have uJ:vs.length=1:=by simpa using Η
   obtain⟨v,rfl⟩:=List.length_eq_one_iff.1 uJ;obtain⟨a,rfl⟩:=List.length_eq_one_iff.1 (hc.trans uJ);exact r1 0 a v rfl rfl
  ·rw[dif_neg Η];have uJ:as9.length≠1:=by rw[hc];simpa using Η
   have:Ck as9=.bt as9:=by
    match as9 with
    | []=>rfl
    | [a]=>simp at uJ
    | a::b::l=>rfl
   rw[this];exact .bt _ (by simpa using hc) fun i a v hi hv=>r1 i a v hi (by simpa using hv)
def entry:Nat→List θ→Χ
 | _,[]=>[]
 | i,a::as9=>(i,a)::entry (i+1) as9
theorem Ly {S:aA} {B:aN} {as9:List θ} {vs:Array Value} (h:fl S B σ as9 vs) (n:Nat):c7 S B σ (entry 0 as9) (vs++Array.replicate n undef):=by
 have key:∀(l:List θ) (j i:Nat),a5 (entry j l) i=if j≤i then(l[i-j]?).getD .cp else .cp:=by
  intro l
  induction l with
  | nil=>intro j i;simp[entry,a5]
  | cons a l Γ=>
   intro j i;simp only[entry,a5];by_cases e:j=i
   ·subst e;simp
   ·rw[if_neg e,Γ];by_cases hle:j≤i
    ·rw[if_pos (by omega),if_pos hle];have:i-j=(i-(j+1))+1:=by omega
     rw[this,List.getElem?_cons_succ]
    ·rw[if_neg (by omega),if_neg hle]
 intro i;rw[key,if_pos (Nat.zero_le _),Nat.sub_zero];by_cases aE:i<as9.length
 ·have μ:=bc aE;rw[μ];have hv:i<vs.size:=by rw[←h.1];exact aE
  rw[Array.getD_eq_getD_getElem?,Array.getElem?_append_left hv];exact h.2 i _ _ μ (by rw[eY hv];rfl)
 ·rw[List.getElem?_eq_none (by omega)];exact .cp _
def Ends (T:a7) (rs:List ResultVar) (K:θ→List Row→Prop) (j:List Item) (env:Χ) (σ:List Row):Prop:=match j with
 | []=>∃a,qp T rs env σ=some a∧K a σ
 | .code .ret::_=>∃a,qp T rs env σ=some a∧K a σ
 | _=>False
theorem ak.TZ {F:θ→List Row→Prop} (Ζ:bN P T) {g:FuncId} {fn:Func} {body:Code} (b':P.funcs[g]?=some fn) (mC:fn.body=some body) (uy:(fn.name == "runtime.NumGoroutine")=false) {args:List θ} (hlen:args.length≤fn.ntmps)
  (h:W P σ.length fn.ntmps [.code body] (entry 0 args) σ (Ends T fn.results.toList K) (fun a _ s=>F a s)):ak P g args σ K F:=by
 refine⟨⟨fn,b',uy,by rw[mC];rfl⟩,fun Q mn x c rest S B H vs δ Α hv hb=>?_⟩;have kl:∀{α:Type} (l:List α),l.length=σ.length→l.take σ.length=l:=fun l ω=>List.take_of_length_le (by omega);have eW:Frame.enter P g vs .normal=ao (Frame.enter P g vs .normal) (vs++Array.replicate (fn.ntmps-vs.size) undef) [.code body]:=by
  simp[Frame.enter,ao,b',mC]
 rw[eW];have cd:(vs++Array.replicate (fn.ntmps-vs.size) undef).size=fn.ntmps:=by
  have:=hv.1;simp;omega
 refine h Q mn x (c::rest) _ S B H _ δ rfl ⟨Α,Ly hv _,cd,Nat.le_refl _⟩ (fun j env' σ' au B' H' t' Ω Ν μ χ ω=>?_) (fun a env' σ' au B' H' t' Ω v c9 μ iD _ κ=>?_)
 ·have Gf:b0 S au B B' σ σ':=by
   have:=μ.later
   rwa [kl B Α.len,kl σ rfl] at this
  have fin:(∃a,qp T fn.results.toList env' σ'=some a∧K a σ')→aJ P Q mn x {ao (Frame.enter P g vs .normal) t' Ω with mode:=.returning} (c::rest) H':=fun⟨a,R,γ⟩=>by
   refine .back δ rfl rfl (.inl rfl) b' ?_;refine ς.mono (fun v bJ ⟨cO,eV,Δ,l2,ο,r2⟩=>?_) (fun _ _ h=>h) _ (Cl Ζ R χ.holds χ.cj);exact hb.ret a σ' cO eV bJ v γ (μ.ext.trans Δ) (Gf.trans l2) ο r2
  have:Ω=j:=ω;subst this;unfold Ends at Ν;split at Ν
  ·exact .rb δ rfl rfl (fin Ν)
  ·exact .ret δ rfl rfl (fin Ν)
  ·exact Ν.elim
 ·have Gf:b0 S au B B' σ σ':=by
   have:=μ.later
   rwa [kl B Α.len,kl σ rfl] at this
  refine .raised δ rfl rfl ?_ (hb.wx a σ' au B' H' v c9 μ.ext Gf iD κ);simp[Frame.catches,ao,Frame.enter,b']
end
section
variable {P:Program} {S au:aA} {B:aN} {H H':ψ} {σ:List Row}
theorem aj.take {h:Nat} {a:θ} {v:Value} (κ:aj S B σ a v) (hb:az h a):aj S (B.take h) (σ.take h) a v:=by
 have ba:∀{α:Type} (l:List α) (i:Nat),i<h→(l.take h)[i]?=l[i]?:=fun l i hi=>List.getElem?_take_of_lt hi
 induction κ with
 | z v=>exact .z v
 | aa b o w R _ Γ=>
  cases hb with
  | aa hb=>exact .aa b o w R fun j a ε=>Γ j a ε (hb a (cl ε))
 | h7 base cap h=>exact .h7 base cap h
 | sl b o cap w R γ ο Ι _ Γ=>
  cases hb with
  | sl hb=>exact .sl b o cap w R γ ο Ι fun i e hi j c ε=>Γ i e hi j c ε (hb e (cl hi) c (cl ε))
 | aU vs R _ Γ=>
  cases hb with
  | aU hb=>exact .aU vs R fun i a v hi hv=>Γ i a v hi hv (hb a (cl hi))
 | bt vs R _ Γ=>
  cases hb with
  | bt hb=>exact .bt vs R fun i a v hi hv=>Γ i a v hi hv (hb a (cl hi))
 | ag R γ ο=>
  cases hb with
  | ag hb=>exact .ag (by rw[ba _ _ hb];exact R) γ (by rw[ba _ _ hb];exact ο)
 | ja v R γ=>
  cases hb with
  | ag hb=>exact .ja v (by rw[ba _ _ hb];exact R) γ
 | ms cap R γ ο Ι ay a6=>
  cases hb with
  | ms hb=>exact .ms cap (by rw[ba _ _ hb];exact R) γ (by rw[ba _ _ hb];exact ο) Ι ay a6
 | iC v R γ=>
  cases hb with
  | ms hb=>exact .iC v (by rw[ba _ _ hb];exact R) γ
 | fn vs ws R γ _ _ rf lH=>
  cases hb with
  | fn j9 fY=>exact .fn vs ws R γ (fun i a v hi hv=>rf i a v hi hv (j9 a (cl hi))) fun i a v hi hv=>lH i a v hi hv (fY a (cl hi))
 | fv v _ Γ=>
  cases hb with
  | fv hb=>exact .fv v (Γ hb)
 | mp R γ=>
  cases hb with
  | mp hb=>exact .mp (by rw[ba _ _ hb];exact R) (by rw[ba _ _ hb];exact γ)
 | kT v R=>
  cases hb with
  | mp hb=>exact .kT v (by rw[ba _ _ hb];exact R)
 | it R γ=>
  cases hb with
  | it hb=>exact .it (by rw[ba _ _ hb];exact R) (by rw[ba _ _ hb];exact γ)
 | mw v R=>
  cases hb with
  | it hb=>exact .mw v (by rw[ba _ _ hb];exact R)
 | cp v=>exact .cp v
theorem aj.any {a:θ} {v:Value} (κ:aj S B σ a v) (hb:az 0 a) (eV:aN) (ga:List Row):aj S eV ga a v:=by
 have R:aj S [] [] a v:=by simpa using κ.take hb
 exact R.later ⟨fun _ _ _ h=>h,fun id r h=>by simp at h⟩
theorem Holds.bare (Α:Holds S B σ H):Holds S [] [] H:=
 ⟨Α.c6,rfl,fun id r bo h=>by simp at h,fun i j dX b4 b gk gl fs h=>by simp at h,fun id r b N h=>by simp at h⟩
theorem Holds.back (Α:Holds S B σ H) (he:Ext S [] H au [] H') (ae:Holds au [] [] H'):Holds au B σ H'∧Ext S B H au B H'∧b0 S au B B σ σ:=by
 have ω:b0 S au B B σ σ:=⟨he.c6,fun id r h=>⟨r,h,r.sG _⟩⟩
 have wz:∀b,¬aN.has ([]:aN) b:=fun b ⟨N,h⟩=>by simp at h
 have aU:∀(id:Nat) (r:Row) (b N:Nat),σ[id]?=some r→r.live→B[id]?=some (some (b,N))→jR H H' b:=fun id r b N R γ ο=>(he.ft b (wz b) (Α.m' R γ ο)).ri fun o=>Α.sep id r b N R γ ο o;refine⟨⟨ae.c6,Α.len,fun id r bo κ eM=>?_,Α.inj,fun id r b N κ e4 eM o=>?_⟩,⟨he.c6,fun b _ Ρ=>he.ft b (wz b) Ρ,fun b hb=>.inl hb,fun b o v hv=>?_,he.grow⟩,ω⟩
 ·by_cases e4:r.live
  ·refine(Α.row id r bo κ eM).later ω (fun b N e=>aU id r b N κ e4 (by rw[eM,e])) fun m left cur e=>?_;subst e;obtain⟨_,_,aQ,j',xs,clock,seen,_,R,⟨es,γ⟩,_⟩:=Α.row id _ bo κ eM;exact⟨rfl,rfl,fun b N hb=>aU m _ b N γ trivial hb⟩
  ·cases r<;>first|exact absurd trivial e4|trivial
 ·cases hv:au b o with
  | none=>rfl
  | some v=>
   rcases he.qa b o v hv with h|h|h
   ·rw[Α.sep id r b N κ e4 eM o] at h;cases h
   ·exact absurd h (wz b)
   ·exact absurd h (Α.m' κ e4 eM)
 ·rcases he.qa b o v hv with h|h|h
  ·exact .inl h
  ·exact absurd h (wz b)
  ·exact .inr (.inr h)
theorem ak.frame {g:FuncId} {args:List θ} {K:θ→Prop} {E:θ→Prop} (h:ak P g args [] (fun a s=>K a∧az 0 a∧s=[]) (fun a s=>E a∧az 0 a∧s=[])) (hb:∀a∈args,az 0 a):ak P g args σ (fun a s=>K a∧s=σ) (fun a s=>E a∧s=σ):=by
 refine⟨h.1,fun Q mn x c rest S B H vs δ Α hv k0=>?_⟩;refine h.2 Q mn x c rest S [] H vs δ Α.bare ⟨hv.1,fun i a v R γ=>(hv.2 i a v R γ).any (hb a (cl R)) _ _⟩ ⟨fun a σ' au B' H' v ⟨υ,qj,ξ⟩ he ω iD κ=>?_,fun a σ' au B' H' v ⟨υ,qj,ξ⟩ he ω iD κ=>?_⟩
 all_goals
  subst ξ;have e1:B'=[]:=dq.1 (by rw[iD.len];rfl);subst e1;obtain⟨dB,p2,p3⟩:=Α.back he iD
 ·exact k0.ret a σ au B H' v ⟨υ,rfl⟩ p2 p3 dB (κ.any qj _ _)
 ·exact k0.wx a σ au B H' v ⟨υ,rfl⟩ p2 p3 dB (κ.any qj _ _)
def yW (P:Program) (g:FuncId) (args:List θ) (r:θ):Prop:=ak P g args [] (fun a s=>a=r∧s=[]) (fun _ _=>False)
theorem yW.call {g:FuncId} {first args captured:List θ} {r:θ} {K:θ→List Row→Prop} {E:θ→List Row→Prop} (h:yW P g (first++args++captured) r) (hb:∀a∈first++args++captured,az 0 a) (κ:az 0 r) (I:K r σ) :
  hR P (.fn (.func g) first captured) args σ K E:=by
 have R:ak P g (first++args++captured) [] (fun a s=>a=r∧az 0 a∧s=[]) (fun a s=>False∧az 0 a∧s=[]):=h.mono (fun a s ⟨Ε,Δ⟩=>⟨Ε,Ε▸κ,Δ⟩) (fun _ _ h=>h.elim);exact ak.call ((R.frame (σ:=σ) hb).mono (fun a s ⟨Ε,Δ⟩=>by subst Ε;subst Δ;exact I) (fun _ _ h=>h.1.elim))
end
theorem T0 {h:Nat} {v:Value}:az h (.z v)↔True:=⟨fun _=>trivial,fun _=>.z v⟩
theorem T1 {h:Nat}:az h .cp↔True:=⟨fun _=>trivial,fun _=>.cp⟩
theorem Gg {h:Nat} {l:List θ}:az h (.aa l)↔∀a∈l,az h a:=⟨fun x=>by cases x;assumption,.aa⟩
theorem T2 {h:Nat} {l:List θ}:az h (.aU l)↔∀a∈l,az h a:=⟨fun x=>by cases x;assumption,.aU⟩
theorem T3 {h:Nat} {l:List θ}:az h (.bt l)↔∀a∈l,az h a:=⟨fun x=>by cases x;assumption,.bt⟩
theorem gA {h:Nat} {ex:Bool} {k:Nat} {l:List θ}:az h (.sl ex k l)↔∀e∈l,∀a∈e.cells,az h a:=⟨fun x=>by cases x;assumption,.sl⟩
theorem T4 {h:Nat} {t:TypeId} {a:θ}:az h (.fv t a)↔az h a:=⟨fun x=>by cases x;assumption,.fv⟩
theorem je {h id n i j:Nat}:az h (.ag id n i j)↔id<h:=⟨fun x=>by cases x;assumption,.ag⟩
theorem od {h id n i j:Nat}:az h (.ms id n i j)↔id<h:=⟨fun x=>by cases x;assumption,.ms⟩
theorem rC {h id:Nat}:az h (.mp id)↔id<h:=⟨fun x=>by cases x;assumption,.mp⟩
theorem T5 {h id:Nat}:az h (.it id)↔id<h:=⟨fun x=>by cases x;assumption,.it⟩
theorem k2 {h:Nat} {f:Fn} {cV cs:List θ}:az h (.fn f cV cs)↔(∀a∈cV,az h a)∧∀a∈cs,az h a:=⟨fun x=>by cases x;exact⟨by assumption,by assumption⟩,fun x=>.fn x.1 x.2⟩
end Go.TL
