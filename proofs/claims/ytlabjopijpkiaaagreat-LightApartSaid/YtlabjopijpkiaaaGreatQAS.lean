import Derived.Test.YtlabjopijpkiaaaGreatQAR
set_option maxHeartbeats 16000000
set_option maxRecDepth 20000
set_option linter.unusedSectionVars false
set_option linter.unusedSimpArgs false
set_option linter.unusedVariables false
namespace Go.TL
open Go.Conc
variable [bd]
section
variable {P:Program} {T:a7} {A:List Nat} {m nt:Nat} {k:List Item} {env env':Χ} {σ:List Row} {Z:List Item→Χ→List Row→Prop} {E:θ→Χ→List Row→Prop} {ops:Array Oper}
theorem Cs {o:Oper} (h:oe ops o env env'):∀x,x∈o.op.operands.toList→aL env' x=aL env x:=fun x δ=>by
 cases x with
 | tmp t=>
  refine h t ?_;unfold yX;simp only[List.mem_append,List.mem_filterMap];exact .inl ⟨.tmp t,δ,rfl⟩
 | _=>rfl
theorem qs {o:Oper} (h:oe ops o env env'):fp env' ops o=fp env ops o:=by
 unfold fp;cases Τ:o.guard with
 | none=>rfl
 | some x=>
  obtain⟨j,want⟩:=x;simp only;cases hd:(ops[j]?).bind (·.dst) with
  | none=>rfl
  | some d=>
   simp only;have:a5 env' d=a5 env d:=h d (by unfold yX;rw[Τ];simp[hd]);rw[this]
theorem Ct {cK:Array (Nat×Operand)} (h:∀p∈cK,aL env' p.2=aL env p.2):ry env' cK=ry env cK:=by
 unfold ry;exact List.map_congr_left fun p χ=>by rw[h p (by simpa using χ)]
theorem Cu {cV:Array Operand} (h:∀x∈cV,aL env' x=aL env x):cV.toList.map (aL env')=cV.toList.map (aL env):=List.map_congr_left fun x δ=>h x (by simpa using δ)
theorem Cv {o:Option Operand} (h:∀x,o=some x→aL env' x=aL env x):o.map (aL env')=o.map (aL env):=by
 cases o with
 | none=>rfl
 | some x=>simp[h x rfl]
theorem Cw {o:Oper} (ξ:oe ops o env env'):lL T A env' o=lL T A env o:=by
 have h:=Cs ξ;obtain⟨dst,op,type,pos,after,guard⟩:=o;simp only at h;unfold lL;cases op<;>simp only<;>try rfl
 all_goals simp only[Op.operands,List.mem_cons,List.not_mem_nil,or_false,forall_eq_or_imp,forall_eq] at h
 case move x=>rw[h]
 case assign x=>rw[h]
 case pick c a b=>rw[h.1,h.2.1,h.2.2]
 case box ty x=>rw[h]
 case build ty cK=>rw[Ct fun p χ=>h p.2 (by simp only[List.mem_map];exact⟨p,by simpa using χ,rfl⟩)]
 case buildSlice ty n cK=>rw[Ct fun p χ=>h p.2 (by simp only[List.mem_map];exact⟨p,by simpa using χ,rfl⟩)]
 case load ty x=>rw[h]
 case binOp op a x y b=>rw[h.1,h.2]
 case unOp op a x=>rw[h]
 case convert a b x=>rw[h]
 case index ty x y=>rw[h.1,h.2]
 case nilCheck x=>rw[h]
 case sliceToArrayPointer ty x=>rw[h]
 case makeInterface a x=>rw[h]
 case makeFunc f cV cs=>rw[Cu fun x δ=>h x (by simp[δ]),Cu fun x δ=>h x (by simp[δ])]
 case makeSlice a x y=>rw[h.1,h.2]
 case slice ty x lo hi nj=>
  cases nj with
  | some m=>rfl
  | none=>
   simp only;rw[h x (by simp),Cv fun y Ο=>h y (by simp[Ο]),Cv fun y Ο=>h y (by simp[Ο])]
 case fieldAddr ty x f=>rw[h]
 case indexAddr ty x y=>rw[h.1,h.2]
 case typeAssert x a b c=>rw[h]
 case extract x i=>rw[h]
 case call c=>
  obtain⟨callee,⟨args⟩,⟨dL⟩⟩:=c;cases callee
  case value=>rfl
  case invoke=>rfl
  rename_i b;have cP:∀x∈args,aL env' x=aL env x:=fun x δ=>h x (by simp[Call.operands,δ])
  match args,dL with
  | [x],[ty]=>simp only;rw[cP x (by simp)]
  | [x,y],[sR,ty]=>simp only;rw[cP x (by simp),cP y (by simp)]
  | [],_=>rfl
  | [_],[]=>rfl
  | [_],_::_::_=>rfl
  | [_,_],[]=>rfl
  | [_,_],[_]=>rfl
  | [_,_],_::_::_::_=>rfl
  | _::_::_::_,_=>rfl
theorem LI {o:Oper} (ξ:oe ops o env env'):jT T A env' σ o=jT T A env σ o:=by
 have h:=Cs ξ;obtain⟨dst,op,type,pos,after,guard⟩:=o;simp only at h;unfold jT;cases op<;>simp only<;>try rfl
 all_goals simp only[Op.operands,List.mem_cons,List.not_mem_nil,or_false,forall_eq_or_imp,forall_eq] at h
 case box ty x=>rw[h]
 case build ty cK=>rw[Ct fun p χ=>h p.2 (by simp only[List.mem_map];exact⟨p,by simpa using χ,rfl⟩)]
 case buildSlice ty n cK=>rw[Ct fun p χ=>h p.2 (by simp only[List.mem_map];exact⟨p,by simpa using χ,rfl⟩)]
 case load ty x=>rw[h]
 case store ty x y=>rw[h.1,h.2]
 case makeSlice a x y=>rw[h.1,h.2]
 case makeMap ty r=>cases r<;>rfl
 case convert a b x=>rw[h]
 case nilCheck x=>rw[h]
 case binOp op ty x y d=>
  split
  all_goals first
   | rfl
   |(rename_i heq;cases heq<;>simp only[h.1])
 case mapUpdate ty x y z=>rw[h.1,h.2.1,h.2.2]
 case insert ty x y z=>rw[h.1,h.2.1,h.2.2]
 case lookup ty x y ok=>rw[h.1,h.2]
 case range ty x=>rw[h]
 case next x b=>
  cases b<;>simp only<;>try rfl
  rw[h]
 case entry x=>rw[h]
 case slice ty x lo hi nj=>
  cases nj with
  | some m=>rfl
  | none=>
   simp only;rw[h x (by simp),Cv fun y Ο=>h y (by simp[Ο]),Cv fun y Ο=>h y (by simp[Ο])]
 case fieldAddr ty x f=>rw[h]
 case indexAddr ty x y=>rw[h.1,h.2]
 case call c=>
  obtain⟨callee,⟨args⟩,⟨dL⟩⟩:=c;cases callee
  case value=>rfl
  case invoke=>rfl
  rename_i b;have cP:∀x∈args,aL env' x=aL env x:=fun x δ=>h x (by simp[Call.operands,δ])
  match args,dL with
  | [x],[ty]=>simp only;rw[cP x (by simp)]
  | [x,y],[sR,ty]=>simp only;rw[cP x (by simp),cP y (by simp)]
  | [],_=>rfl
  | [_],[]=>rfl
  | [_],_::_::_=>rfl
  | [_,_],[]=>rfl
  | [_,_],[_]=>rfl
  | [_,_],_::_::_::_=>rfl
  | _::_::_::_,_=>rfl
def fT (P:Program) (f:θ) (args:List θ) (r:θ):Prop:=∀σ,hR P f args σ (fun a s=>a=r∧s=σ) (fun _ _=>False)
def cr.fZ (r:cr) (K:θ→Prop) (s:Prop):Prop:=match r with
 | .ok a=>K a
 | .b2 p (.ok a)=>p∧K a
 | .b2 _ _=>False
 | .bad=>s
def cT.fZ (r:cT) (K:θ→List Row→Prop):Prop:=match r with
 | .ok a σ'=>K a σ'
 | .b2 p (.ok a σ')=>p∧K a σ'
 | _=>False
theorem T' {r r':cr} {K:θ→Prop} {s:Prop} (h:r=r'):r.fZ K s=r'.fZ K s:=by rw[h]
theorem Ua {r r':cT} {K:θ→List Row→Prop} (h:r=r'):r.fZ K=r'.fZ K:=by rw[h]
def dcall (P:Program) (f:θ) (args:List θ) (σ:List Row) (hD:θ→Prop) (lO:θ→List Row→Prop):Prop:=
 (∃r,fT P f args r∧hD r)∨∃r σ',hR P f args σ (fun a s=>a=r∧s=σ') (fun _ _=>False)∧lO r σ'
theorem gn {P:Program} {f:θ} {args:List θ} {σ:List Row} {hD:θ→Prop} {lO:θ→List Row→Prop} {r:θ} (h:fT P f args r) (k:hD r):dcall P f args σ hD lO:=.inl ⟨r,h,k⟩
def y3 (P:Program) (T:a7) (A:List Nat) (env:Χ) (o:Oper) (σ:List Row) (hD:θ→Prop) (lO:θ→List Row→Prop):Prop:=match o.op with
 | .call ⟨.value f,args,_⟩=>dcall P (aL env f) (args.toList.map (aL env)) σ hD lO
 | .panic _=>False
 | .defer _=>False
 | _=>(lL T A env o).fZ hD ((jT T A env σ o).fZ lO)
theorem Ub {P:Program} {T:a7} {A:List Nat} {env:Χ} {o:Oper} {σ:List Row} {hD:θ→Prop} {lO:θ→List Row→Prop}:y3 P T A env o σ hD lO=match o.op with
 | .call ⟨.value f,args,_⟩=>dcall P (aL env f) (args.toList.map (aL env)) σ hD lO
 | .panic _=>False
 | .defer _=>False
 | _=>(lL T A env o).fZ hD ((jT T A env σ o).fZ lO):=Eq.trans rfl rfl
theorem Uc {a:θ} {K:θ→Prop} {s:Prop}:cr.fZ (.ok a) K s=K a:=Eq.trans rfl rfl
theorem Ud {p:Prop} {a:θ} {K:θ→Prop} {s:Prop}:cr.fZ (.b2 p (.ok a)) K s=(p∧K a):=Eq.trans rfl rfl
theorem Ue {K:θ→Prop} {s:Prop}:cr.fZ .bad K s=s:=Eq.trans rfl rfl
theorem Uf {a:θ} {σ:List Row} {K:θ→List Row→Prop}:cT.fZ (.ok a σ) K=K a σ:=Eq.trans rfl rfl
theorem Ug {p:Prop} {a:θ} {σ:List Row} {K:θ→List Row→Prop}:cT.fZ (.b2 p (.ok a σ)) K=(p∧K a σ):=Eq.trans rfl rfl
def iE (P:Program) (T:a7) (A:List Nat) (nt:Nat) (ops:Array Oper):List Nat→Χ→List Row→List Bool→(Χ→List Row→Prop)→Prop
 | [],env,σ,tags,K=>km ops tags=true∧K env σ
 | i::is,env,σ,tags,K=>gz ops[i]? fun o=>hB nt o=true∧gz (fp env ops o) fun w=>
   jd w (iE P T A nt ops is (b5 o env .cp) σ (tags++[false]) K)
    (y3 P T A env o σ (fun a=>iE P T A nt ops is (b5 o env a) σ (tags++[false]) K) (fun a σ'=>iE P T A nt ops is (b5 o env a) σ' (tags++[true]) K))
def LJ (P:Program) (T:a7) (A:List Nat) (nt:Nat) (ops:Array Oper) (is:List Nat) (o:Oper) (env:Χ) (σ:List Row) (tags:List Bool) (K:Χ→List Row→Prop) (a:θ):Prop:=iE P T A nt ops is (b5 o env a) σ (tags++[false]) K
def LK (P:Program) (T:a7) (A:List Nat) (nt:Nat) (ops:Array Oper) (is:List Nat) (o:Oper) (env:Χ) (tags:List Bool) (K:Χ→List Row→Prop) (a:θ) (σ':List Row):Prop:=iE P T A nt ops is (b5 o env a) σ' (tags++[true]) K
theorem Cx {tags:List Bool} {K:Χ→List Row→Prop}:iE P T A nt ops [] env σ tags K=(km ops tags=true∧K env σ):=Eq.trans rfl rfl
theorem bp {i:Nat} {is:List Nat} {tags:List Bool} {K:Χ→List Row→Prop}:iE P T A nt ops (i::is) env σ tags K=gz ops[i]? fun o=>hB nt o=true∧gz (fp env ops o) fun w=>
   jd w (iE P T A nt ops is (b5 o env .cp) σ (tags++[false]) K) (y3 P T A env o σ (LJ P T A nt ops is o env σ tags K) (LK P T A nt ops is o env tags K)):=Eq.trans rfl rfl
theorem Uh {ops:Array Oper} {is:List Nat} {o:Oper} {tags:List Bool} {K:Χ→List Row→Prop} {a:θ}:LJ P T A nt ops is o env σ tags K a=iE P T A nt ops is (b5 o env a) σ (tags++[false]) K:=Eq.trans rfl rfl
theorem Ui {ops:Array Oper} {is:List Nat} {o:Oper} {tags:List Bool} {K:Χ→List Row→Prop} {a:θ}:LK P T A nt ops is o env tags K a σ=iE P T A nt ops is (b5 o env a) σ (tags++[true]) K:=Eq.trans rfl rfl
def og (P:Program) (m nt:Nat) (k:List Item) (Z:List Item→Χ→List Row→Prop) (E:θ→Χ→List Row→Prop) (ops:Array Oper) (i:Nat) (o:Oper) (env:Χ) (σ:List Row) (tag:Bool) (a:θ) (σ':List Row):Prop:=
 if tag then Gh P m nt k Z E ops i o env σ a σ'∧(lN o=true→σ'=σ) else wA P m nt k Z E ops i o env a∧σ'=σ
theorem Uj {ty:TypeId} {x a:θ} {σ':List Row} {p:Prop} (h:uk T ty σ x=.ok a σ'∨uk T ty σ x=.b2 p (.ok a σ')):σ'=σ:=by
 unfold uk sI at h
 repeat' split at h
 all_goals simp[cr.dh] at h
 all_goals first|exact h.2.symm|skip
theorem Uk {ty:TypeId} {x b8 a:θ} {σ':List Row} {p:Prop} (h:uo T ty σ x b8=.ok a σ'∨uo T ty σ x b8=.b2 p (.ok a σ')):σ'=σ:=by
 unfold uo at h
 repeat' split at h
 all_goals simp at h
 all_goals first|exact h.2.2.symm|exact h.2.symm|skip
theorem Ul {ty:TypeId} {f:Nat} {x a:θ} {σ':List Row} {p:Prop} (h:um T ty f σ x=.ok a σ'∨um T ty f σ x=.b2 p (.ok a σ')):σ'=σ:=by
 unfold um at h
 repeat' split at h
 all_goals simp at h
 all_goals first|exact h.2.2.symm|exact h.2.symm|skip
theorem Um {x a:θ} {σ':List Row} {p:Prop} (h:uF σ x=.ok a σ'∨uF σ x=.b2 p (.ok a σ')):σ'=σ:=by
 unfold uF at h
 repeat' split at h
 all_goals simp at h
 all_goals first|exact h.2.2.symm|exact h.2.symm|skip
theorem Cy {o:Oper} {a:θ} {σ':List Row} {p:Prop} (κ:lN o=true) (h:jT T A env σ o=.ok a σ'∨jT T A env σ o=.b2 p (.ok a σ')):σ'=σ:=by
 unfold lN at κ;unfold jT at h;split at κ
 ·rename_i ty x Κ;rw[Κ] at h;exact Uj h
 ·rename_i ty x b8 Κ;rw[Κ] at h;exact Uk h
 ·rename_i ty x f Κ;rw[Κ] at h;exact Ul h
 ·rename_i x Κ;rw[Κ] at h;exact Um h
 ·cases κ
theorem Un (Ζ:bN P T) {i:Nat} {is:List Nat} {tags:List Bool} {K:Χ→List Row→Prop} (h:iE P T A nt ops (i::is) env σ tags K) :
  ∃o a σ' tag,ops[i]?=some o∧og P m nt k Z E ops i o env σ tag a σ'∧iE P T A nt ops is (b5 o env a) σ' (tags++[tag]) K:=by
 unfold iE gz at h;split at h
 ·exact h.elim
 ·rename_i o Β;obtain⟨hd,h⟩:=h;split at h
  ·exact h.elim
  rename_i w hw;unfold jd at h;cases w
  ·replace h:=h.1 rfl
   refine⟨o,.cp,σ,false,Β,?_,h⟩;unfold og;simp only[Bool.false_eq_true,if_false];exact⟨fun env' σ' rest ξ hW=>.unwanted Β (by rw[qs ξ];exact hw) hd hW,trivial⟩
  ·replace h:=h.2 rfl
   unfold y3 at h;split at h
   ·rename_i f args dL Κ;have y4:∀env',oe ops o env env'→aL env' f=aL env f∧args.toList.map (aL env')=args.toList.map (aL env):=fun env' ξ=>by
     have δ:=Cs ξ;rw[Κ] at δ;refine⟨δ f (by simp[Op.operands,Call.operands]),Cu fun x uP=>δ x (by simp[Op.operands,Call.operands,uP])⟩
    rcases h with⟨r,η,h⟩|⟨r,σ',η,h⟩
    ·refine⟨o,r,σ,false,Β,?_,h⟩;unfold og;simp only[Bool.false_eq_true,if_false];refine⟨fun env' σ' rest ξ hW=>.call Β (by rw[qs ξ];exact hw) hd Κ ?_,trivial⟩;obtain⟨Ε,Δ⟩:=y4 env' ξ;rw[Ε,Δ];exact(η σ').mono (fun a s ⟨x,y⟩=>by subst x;subst y;exact hW) (fun _ _ h=>h.elim)
    ·refine⟨o,r,σ',true,Β,?_,h⟩;unfold og;simp only[if_true];refine⟨?_,fun κ=>by unfold lN at κ;rw[Κ] at κ;cases κ⟩;refine fun env' rest ξ hW=>.call Β (by rw[qs ξ];exact hw) hd Κ ?_;obtain⟨Ε,Δ⟩:=y4 env' ξ;rw[Ε,Δ];exact η.mono (fun a s ⟨x,y⟩=>by subst x;subst y;exact hW) (fun _ _ h=>h.elim)
   ·exact h.elim
   ·exact h.elim
   ·rename_i R γ ο;have y5:∀(r:cr) (a:θ),lL T A env o=r→(∀K:θ→List Row→Prop,∀s,K a s→(r.dh s).holds K)→(∀σ s,r.or σ s=r.dh σ)→wA P m nt k Z E ops i o env a:=fun r a κ aS Gq env' σ' rest ξ hW=>by
     refine .op (A:=A) Ζ Β (by rw[qs ξ];exact hw) hd (fun c η=>ο c η) ?_;rw[Cw ξ,κ,Gq];exact aS _ _ hW
    unfold cr.fZ at h;split at h
    ·rename_i a μ;refine⟨o,a,σ,false,Β,?_,h⟩;unfold og;simp only[Bool.false_eq_true,if_false];exact⟨y5 _ a μ (fun K s υ=>υ) (fun _ _=>rfl),trivial⟩
    ·rename_i p a μ;refine⟨o,a,σ,false,Β,?_,h.2⟩;unfold og;simp only[Bool.false_eq_true,if_false];exact⟨y5 _ a μ (fun K s υ=>⟨h.1,υ⟩) (fun _ _=>rfl),trivial⟩
    ·exact h.elim
    ·rename_i wu;have Cz:∀(a:θ) (σ':List Row) (r:cT),jT T A env σ o=r→(∀K:θ→List Row→Prop,K a σ'→r.holds K)→Gh P m nt k Z E ops i o env σ a σ':=fun a σ' r κ aS env' rest ξ hW=>by
      refine .op (A:=A) Ζ Β (by rw[qs ξ];exact hw) hd (fun c η=>ο c η) ?_;rw[Cw ξ,LI ξ,wu,κ];exact aS _ hW
     unfold cT.fZ at h;split at h
     ·rename_i a σ' μ;refine⟨o,a,σ',true,Β,?_,h⟩;unfold og;simp only[if_true];exact⟨Cz a σ' _ μ fun K υ=>υ,fun κ=>Cy (p:=True) κ (.inl μ)⟩
     ·rename_i p a σ' μ;refine⟨o,a,σ',true,Β,?_,h.2⟩;unfold og;simp only[if_true];exact⟨Cz a σ' _ μ fun K υ=>⟨h.1,υ⟩,fun κ=>Cy κ (.inr μ)⟩
     ·exact h.elim
theorem LL {env0:Χ} {as9 jU:Nat→θ} {D:Nat→Bool}:∀n,(∀j,j<n→as9 j=jU j)→cW ops env0 as9 D n=cW ops env0 jU D n:=by
 intro n
 induction n with
 | zero=>intro _;rfl
 | succ n Γ=>
  intro h;simp only[cW];rw[Γ fun j ε=>h j (by omega),h n (Nat.lt_succ_self n)]
theorem Uo (Ζ:bN P T) {K:Χ→List Row→Prop} {env0:Χ}:∀(d i:Nat) (tags:List Bool) (as9:Nat→θ) (σs:Nat→List Row),i+d=ops.size→tags.length=i→
  (∀j o,j<i→ops[j]?=some o→og P m nt k Z E ops j o (cW ops env0 as9 (fun _=>true) j) (σs j) (tags.getD j false) (as9 j) (σs (j+1)))→
  iE P T A nt ops (List.range' i d) (cW ops env0 as9 (fun _=>true) i) (σs i) tags K→
  ∃(tags:List Bool) (as9:Nat→θ) (qt:Nat→List Row),km ops tags=true∧qt 0=σs 0∧(∀j o,ops[j]?=some o→og P m nt k Z E ops j o (cW ops env0 as9 (fun _=>true) j) (qt j) (tags.getD j false) (as9 j) (qt (j+1)))∧K (cW ops env0 as9 (fun _=>true) ops.size) (qt ops.size):=by
 intro d
 induction d with
 | zero=>
  intro i tags as9 σs hi Μ ε h;simp only[List.range'_zero,iE] at h;have:i=ops.size:=by omega
  subst this;exact⟨tags,as9,σs,h.1,rfl,fun j o Β=>ε j o (Array.getElem?_eq_some_iff.1 Β).1 Β,h.2⟩
 | succ d Γ=>
  intro i tags as9 σs hi Μ ε h;rw[List.range'_succ] at h;obtain⟨o,a,σ',tag,Β,Gr,h⟩:=Un (m:=m) (k:=k) (Z:=Z) (E:=E) Ζ h;let jU:Nat→θ:=fun j=>if j=i then a else as9 j
  let qt:Nat→List Row:=fun j=>if j=i+1 then σ' else σs j
  have uQ:∀j,j≤i→cW ops env0 as9 (fun _=>true) j=cW ops env0 jU (fun _=>true) j:=fun j ε=>LL j fun x δ=>by simp only[jU];rw[if_neg (by omega)]
  have Gs:cW ops env0 jU (fun _=>true) (i+1)=b5 o (cW ops env0 as9 (fun _=>true) i) a:=by
   simp only[cW,if_true,Β];rw[←uQ i (Nat.le_refl i)];simp only[jU,if_true]
  have:=Γ (i+1) (tags++[tag]) jU qt (by omega) (by simp[Μ]) (fun j bP aE di=>?_) ?_
  ·obtain⟨t2,bg,s2,Ξ,ad,aT,ck⟩:=this;exact⟨t2,bg,s2,Ξ,ad.trans (by simp only[qt];rw[if_neg (by omega)]),aT,ck⟩
  ·by_cases e:j=i
   ·subst e;rw[Β] at di;cases di;rw[←uQ j (Nat.le_refl j)];have Ε:(tags++[tag]).getD j false=tag:=by rw[List.getD_eq_getElem?_getD,hr (by omega),Μ];simp
    rw[Ε];simp only[jU,qt,if_true];rw[if_neg (by omega)];exact Gr
   ·have:=ε j bP (by omega) di;rw[←uQ j (by omega)];have Ε:(tags++[tag]).getD j false=tags.getD j false:=by rw[List.getD_eq_getElem?_getD,dU (by omega),←List.getD_eq_getElem?_getD]
    rw[Ε];simp only[jU,qt];rw[if_neg (by omega),if_neg (by omega),if_neg (by omega)];exact this
  ·rw[Gs];simp only[qt,if_true];exact h
theorem W.draw (Ζ:bN P T) (rE:P.follows .mixedOrders=true) {id:Nat} (h:∀J:Χ→List Row→Prop,(∀env σ,W P m nt k env σ Z E→J env σ)→iE P T A nt ops (idx ops.size []) env σ [] J):W P m nt (.code (.region id ops true)::k) env σ Z E:=by
 have ae:=h (fun env σ=>W P m nt k env σ Z E) fun _ _ h=>h;rw[idx_eq,List.range_eq_range'] at ae;obtain⟨tags,as9,σs,Ξ,ad,aT,ck⟩:=Uo (m:=m) (k:=k) (Z:=Z) (E:=E) (env0:=env) Ζ ops.size 0 [] (fun _=>.cp) (fun _=>σ) (by omega) rfl (fun j o ε=>by omega) ae;intro Q mn x cs b S B H t δ hb χ Ν he;refine .draw δ hb fun n=>?_;have key:=W.T8 (P:=P) (m:=m) (nt:=nt) (k:=k) (Z:=Z) (E:=E) (ops:=ops) (as9:=as9) (σs:=σs) (tags:=tags) (env0:=env) Ξ
  (fun i o Β Μ=>by have:=aT i o Β;unfold og at this;rw[Μ] at this;simpa using this)
  (fun i o Β Μ=>by have:=aT i o Β;unfold og at this;rw[Μ] at this;simpa using this)
  (.bB ck) ops.size n (Array.replicate ops.size false) env 0 (by simp) (fun i=>?_) (fun i o Β ω=>?_) (Nat.zero_le _) (fun j ε _=>?_) ?_
 ·rw[ad] at key;rw[rE];simp only[Region.schedule,Bool.true_or,if_true,Region.linearise];exact key Q mn x cs b S B H t δ hb χ Ν he
 ·have:∀n,cW ops env as9 (fun i=>(Array.replicate ops.size false).getD i false) n=env:=by
   intro n
   induction n with
   | zero=>rfl
   | succ n Γ=>
    simp only[cW];have:(Array.replicate ops.size false).getD n false=false:=by
     rw[Array.getD_eq_getD_getElem?,Array.getElem?_replicate];split<;>rfl
    rw[if_neg (by rw[this];simp)];exact Γ
  rw[this]
 ·have:(Array.replicate ops.size false).getD i false=false:=by
   rw[Array.getD_eq_getD_getElem?,Array.getElem?_replicate];split<;>rfl
  rw[this] at ω;cases ω
 ·have:(Array.replicate ops.size false).getD j false=false:=by
   rw[Array.getD_eq_getD_getElem?,Array.getElem?_replicate];split<;>rfl
  rw[this];simp
 ·have:=List.length_filter_le (fun i=>!(Array.replicate ops.size false).getD i false) (List.range ops.size);simpa using this
theorem LM {K K':Χ→List Row→Prop} (I:∀e s,K e s→K' e s):∀(is:List Nat) (env:Χ) (σ:List Row) (tags:List Bool),iE P T A nt ops is env σ tags K→iE P T A nt ops is env σ tags K':=by
 intro is
 induction is with
 | nil=>intro env σ tags h;exact⟨h.1,I _ _ h.2⟩
 | cons i is Γ=>
  intro env σ tags h;unfold iE gz at h ⊢;cases Β:ops[i]? with
  | none=>rw[Β] at h;exact h.elim
  | some o=>
   rw[Β] at h;simp only at h ⊢;refine⟨h.1,?_⟩
   replace h:=h.2
   cases hw:fp env ops o with
   | none=>rw[hw] at h;exact h.elim
   | some w=>
    rw[hw] at h;unfold jd at h ⊢;refine⟨fun e=>Γ _ _ _ (h.1 e),fun e=>?_⟩
    replace h:=h.2 e
    unfold y3 at h ⊢;split
    ·rename_i f args dL Κ;rw[Κ] at h;simp only at h;rcases h with⟨r,η,h⟩|⟨r,σ',η,h⟩
     ·exact .inl ⟨r,η,Γ _ _ _ h⟩
     ·exact .inr ⟨r,σ',η,Γ _ _ _ h⟩
    ·rename_i Κ;rw[Κ] at h;exact h
    ·rename_i Κ;rw[Κ] at h;exact h
    ·rename_i R γ ο;split at h
     ·rename_i f args dL Κ;exact absurd Κ (R f args dL)
     ·rename_i y Κ;exact absurd Κ (γ y)
     ·rename_i y Κ;exact absurd Κ (ο y)
     ·unfold cr.fZ at h ⊢;split at h
      ·exact Γ _ _ _ h
      ·exact⟨h.1,Γ _ _ _ h.2⟩
      ·exact h.elim
      ·unfold cT.fZ at h ⊢;split at h
       ·exact Γ _ _ _ h
       ·exact⟨h.1,Γ _ _ _ h.2⟩
       ·exact h.elim
theorem W.CA (Ζ:bN P T) (rE:P.follows .mixedOrders=true) (gO:Χ) {id:Nat} (h:W P m nt k gO σ Z E) (κ:iE P T A nt ops (idx ops.size []) env σ [] (fun e s=>s=σ∧∀p∈gO,a5 e p.1=p.2)):W P m nt (.code (.region id ops true)::k) env σ Z E:=
 W.draw Ζ rE fun J I=>LM (fun e s ⟨R,γ⟩=>I e s (R▸W.forget gO γ h)) _ _ _ _ κ
end
def ic {α:Type}:List α→List Nat→List α→List α
 | l,i::ρ,x::xs=>ic (l.set i x) ρ xs
 | l,_,_=>l
theorem rF {α:Type}:∀(ρ:List Nat) (l xs:List α),(ic l ρ xs).length=l.length:=by
 intro ρ
 induction ρ with
 | nil=>intro l xs;cases xs<;>rfl
 | cons i ρ Γ=>intro l xs;cases xs with
  | nil=>rfl
  | cons x xs=>simp[ic,Γ]
theorem Gt {α:Type} {i:Nat}:∀(ρ:List Nat) (l xs:List α),i∉ρ→(ic l ρ xs)[i]?=l[i]?:=by
 intro ρ
 induction ρ with
 | nil=>intro l xs _;cases xs<;>rfl
 | cons j ρ Γ=>intro l xs h;cases xs with
  | nil=>rfl
  | cons x xs=>
   simp only[ic];rw[Γ _ _ (fun hm=>h (by simp[hm])),List.getElem?_set_ne (fun e=>h (by simp[e]))]
theorem LN {α:Type}:∀(ρ:List Nat) (l xs:List α),ρ.Nodup→(∀i∈ρ,i<l.length)→∀(j i:Nat) (x:α),ρ[j]?=some i→xs[j]?=some x→(ic l ρ xs)[i]?=some x:=by
 intro ρ
 induction ρ with
 | nil=>intro l xs _ _ j i x h;simp at h
 | cons a ρ Γ=>
  intro l xs jS aE j i x ε δ;cases xs with
  | nil=>simp at δ
  | cons y xs=>
   simp only[ic];obtain⟨R,γ⟩:=List.nodup_cons.1 jS;cases j with
   | zero=>
    simp at ε δ;subst ε;subst δ;rw[Gt ρ _ _ R,List.getElem?_set_self (aE a (by simp))]
   | succ j=>
    simp only[List.getElem?_cons_succ] at ε δ;exact Γ _ _ γ (fun i hi=>by simp;exact aE i (by simp[hi])) j i x ε δ
def hE (ρ:List Nat):θ→θ
 | .ag id n i j=>.ag (ρ.getD id 0) n i j
 | .ms id n i len=>.ms (ρ.getD id 0) n i len
 | .mp id=>.mp (ρ.getD id 0)
 | .it id=>.it (ρ.getD id 0)
 | a=>a
def dP (ρ:List Nat):θ→θ
 | .fn f cV cs=>.fn f (cV.map (hE ρ)) (cs.map (hE ρ))
 | .aU l=>.aU (l.map (hE ρ))
 | .bt l=>.bt (l.map (hE ρ))
 | a=>hE ρ a
def oh (h:Nat) (a:θ):Prop:=match a with
 | .ag id _ _ _|.ms id _ _ _|.mp id|.it id=>id<h
 | a=>az 0 a
def fJ (h:Nat) (a:θ):Prop:=match a with
 | .fn _ cV cs=>(∀a∈cV,oh h a)∧∀a∈cs,oh h a
 | .aU l|.bt l=>∀a∈l,oh h a
 | a=>oh h a
structure Names (ρ:List Nat) (eg:aN) (σ0:List Row) (bK:aN) (jz:List Row):Prop where
 row:∀(j i:Nat),ρ[j]?=some i→jz[i]?=σ0[j]?
 blk:∀(j i:Nat),ρ[j]?=some i→bK[i]?=eg[j]?
section
variable {S:aA} {eg bK:aN} {σ0 jz:List Row} {ρ:List Nat}
theorem CB {ρ:List Nat} {j:Nat} (h:j<ρ.length):ρ[j]?=some (ρ.getD j 0):=by
 rw[List.getD_eq_getElem?_getD,bc h];rfl
theorem ko (Η:Names ρ eg σ0 bK jz) {a:θ} {v:Value} (Μ:oh ρ.length a):aj S bK jz (hE ρ a) v↔aj S eg σ0 a v:=by
 cases a with
 | ag id n i j=>
  have bU:=CB (ρ:=ρ) Μ
  have R:=Η.row _ _ bU
  have γ:=Η.blk _ _ bU;constructor
  ·intro h;cases h with
   | ag Ξ ad aT=>exact .ag (by rw[←R];exact Ξ) ad (by rw[←γ];exact aT)
   | ja v Ξ ad=>exact .ja v (by rw[←R];exact Ξ) ad
  ·intro h;cases h with
   | ag Ξ ad aT=>exact .ag (by rw[R];exact Ξ) ad (by rw[γ];exact aT)
   | ja v Ξ ad=>exact .ja v (by rw[R];exact Ξ) ad
 | ms id n i len=>
  have bU:=CB (ρ:=ρ) Μ
  have R:=Η.row _ _ bU
  have γ:=Η.blk _ _ bU;constructor
  ·intro h;cases h with
   | ms cap Ξ ad aT ck gm hQ=>exact .ms cap (by rw[←R];exact Ξ) ad (by rw[←γ];exact aT) ck gm hQ
   | iC v Ξ ad=>exact .iC v (by rw[←R];exact Ξ) ad
  ·intro h;cases h with
   | ms cap Ξ ad aT ck gm hQ=>exact .ms cap (by rw[R];exact Ξ) ad (by rw[γ];exact aT) ck gm hQ
   | iC v Ξ ad=>exact .iC v (by rw[R];exact Ξ) ad
 | mp id=>
  have bU:=CB (ρ:=ρ) Μ
  have R:=Η.row _ _ bU
  have γ:=Η.blk _ _ bU;constructor
  ·intro h;cases h with
   | mp Ξ ad=>exact .mp (by rw[←R];exact Ξ) (by rw[←γ];exact ad)
   | kT v Ξ=>exact .kT v (by rw[←R];exact Ξ)
  ·intro h;cases h with
   | mp Ξ ad=>exact .mp (by rw[R];exact Ξ) (by rw[γ];exact ad)
   | kT v Ξ=>exact .kT v (by rw[R];exact Ξ)
 | it id=>
  have bU:=CB (ρ:=ρ) Μ
  have R:=Η.row _ _ bU
  have γ:=Η.blk _ _ bU;constructor
  ·intro h;cases h with
   | it Ξ ad=>exact .it (by rw[←R];exact Ξ) (by rw[←γ];exact ad)
   | mw v Ξ=>exact .mw v (by rw[←R];exact Ξ)
  ·intro h;cases h with
   | it Ξ ad=>exact .it (by rw[R];exact Ξ) (by rw[γ];exact ad)
   | mw v Ξ=>exact .mw v (by rw[R];exact Ξ)
 | _=>exact⟨fun h=>h.any Μ _ _,fun h=>h.any Μ _ _⟩
theorem CC {f:θ→θ} {l:List θ} {i:Nat} {a:θ} (h:(l.map f)[i]?=some a):∃b,l[i]?=some b∧a=f b:=by
 rw[List.getElem?_map] at h;cases δ:l[i]? with
 | none=>rw[δ] at h;cases h
 | some b=>rw[δ] at h;cases h;exact⟨b,rfl,rfl⟩
theorem Gu (Η:Names ρ eg σ0 bK jz) {a:θ} {v:Value} (Μ:fJ ρ.length a):aj S bK jz (dP ρ a) v↔aj S eg σ0 a v:=by
 cases a with
 | fn f cV cs=>
  constructor
  ·intro h;cases h with
   | fn vs ws Ξ ad aT ck=>
    refine .fn vs ws (by simpa using Ξ) (by simpa using ad) (fun i a v hi hv=>?_) (fun i a v hi hv=>?_)
    ·exact(ko Η (Μ.1 a (cl hi))).1 (aT i _ v (by rw[List.getElem?_map,hi];rfl) hv)
    ·exact(ko Η (Μ.2 a (cl hi))).1 (ck i _ v (by rw[List.getElem?_map,hi];rfl) hv)
  ·intro h;cases h with
   | fn vs ws Ξ ad aT ck=>
    refine .fn vs ws (by simpa using Ξ) (by simpa using ad) (fun i a v hi hv=>?_) (fun i a v hi hv=>?_)
    ·obtain⟨b,hb,rfl⟩:=CC hi;exact(ko Η (Μ.1 b (cl hb))).2 (aT i b v hb hv)
    ·obtain⟨b,hb,rfl⟩:=CC hi;exact(ko Η (Μ.2 b (cl hb))).2 (ck i b v hb hv)
 | aU l=>
  constructor
  ·intro h;cases h with
   | aU vs Ξ ad=>exact .aU vs (by simpa using Ξ) fun i a v hi hv=>(ko Η (Μ a (cl hi))).1 (ad i _ v (by rw[List.getElem?_map,hi];rfl) hv)
  ·intro h;cases h with
   | aU vs Ξ ad=>
    refine .aU vs (by simpa using Ξ) fun i a v hi hv=>?_;obtain⟨b,hb,rfl⟩:=CC hi;exact(ko Η (Μ b (cl hb))).2 (ad i b v hb hv)
 | bt l=>
  constructor
  ·intro h;cases h with
   | bt vs Ξ ad=>exact .bt vs (by simpa using Ξ) fun i a v hi hv=>(ko Η (Μ a (cl hi))).1 (ad i _ v (by rw[List.getElem?_map,hi];rfl) hv)
  ·intro h;cases h with
   | bt vs Ξ ad=>
    refine .bt vs (by simpa using Ξ) fun i a v hi hv=>?_;obtain⟨b,hb,rfl⟩:=CC hi;exact(ko Η (Μ b (cl hb))).2 (ad i b v hb hv)
 | z u=>exact ko (a:=.z u) Η Μ
 | aa l=>exact ko (a:=.aa l) Η Μ
 | sl ex k l=>exact ko (a:=.sl ex k l) Η Μ
 | ag id n i j=>exact ko (a:=.ag id n i j) Η Μ
 | ms id n i len=>exact ko (a:=.ms id n i len) Η Μ
 | fv t a=>exact ko (a:=.fv t a) Η Μ
 | mp id=>exact ko (a:=.mp id) Η Μ
 | it id=>exact ko (a:=.it id) Η Μ
 | cp=>exact ko (a:=.cp) Η Μ
end
section
variable {P:Program} {S au:aA} {B:aN} {H H':ψ} {σ:List Row}
def ie (r:Row):Prop:=match r with|.cells _ _ l=>∀e∈l,∀a∈e.cells,az 0 a|_=>False
def y6 (r:Row):Prop:=ie r∨r=.dead
theorem jb.plain {B':aN} {σ':List Row} {r:Row} {bo:Option (Nat×Nat)} (χ:ie r) (h:jb S B σ H r bo) (eV:aN) (ga:List Row):jb S eV ga H r bo:=by
 cases r with
 | cells t k l=>
  cases bo with
  | none=>exact h
  | some x=>
   obtain⟨b,N⟩:=x;obtain⟨R,γ,ο,w,Ι⟩:=h;refine⟨R,γ,ο,w,fun i e hi=>⟨(Ι i e hi).1,fun j a ε=>?_⟩⟩;obtain⟨c1,c2,c3⟩:=(Ι i e hi).2 j a ε;exact⟨c1,c2.any (χ e (cl hi) a (cl ε)) _ _,c3⟩
 | _=>exact χ.elim
theorem jb.Up {B':aN} {σ':List Row} {r:Row} {bo:Option (Nat×Nat)} (χ:y6 r) (h:jb S B σ H r bo) (eV:aN) (ga:List Row):jb S eV ga H r bo:=by
 rcases χ with χ|rfl
 ·exact jb.plain (B':=B') (σ':=σ') χ h eV ga
 ·trivial
theorem Holds.LO (Α:Holds S B σ H) {ρ:List Nat} {ig:List Row} (jS:ρ.Nodup) (hlen:ρ.length=ig.length) (bb:∀(j i:Nat),ρ[j]?=some i→σ[i]?=ig[j]?) (hz:∀r∈ig,ie r)
  {eg:aN} {σ0:List Row} (he:Ext S (ρ.map fun i=>B.getD i none) H au eg H') (ω:b0 S au (ρ.map fun i=>B.getD i none) eg ig σ0) (ae:Holds au eg σ0 H') (Uq:∀r∈σ0,y6 r) :
  let jz:=ic σ ρ σ0++σ0.drop ρ.length
  let bK:=ic B ρ eg++eg.drop ρ.length
  Holds au bK jz H'∧Ext S B H au bK H'∧b0 S au B bK σ jz∧Names (ρ++(List.range (σ0.length-ρ.length)).map (σ.length + ·)) eg σ0 bK jz:=by
 intro jz bK;have aE:∀i∈ρ,i<σ.length:=fun i hi=>by
  obtain⟨j,ε⟩:=List.getElem?_of_mem hi;have g4:j<ig.length:=by rw[←hlen];exact(b3.1 ε).1
  have:=bb j i ε;rw[bc g4] at this;exact(b3.1 this).1
 have CD:∀i∈ρ,i<B.length:=fun i hi=>by rw[Α.len];exact aE i hi
 have hle:ρ.length≤σ0.length:=by rw[hlen];exact ω.length
 have Ur:eg.length=σ0.length:=ae.len
 have CE:∀(j i:Nat),ρ[j]?=some i→(ρ.map fun i=>B.getD i none)[j]?=B[i]?:=fun j i ε=>by
  have hi:=CD i (cl ε);rw[List.getElem?_map,ε];simp[hi]
 have s1:∀(j i:Nat),ρ[j]?=some i→jz[i]?=σ0[j]?:=fun j i ε=>by
  have hi:=aE i (cl ε)
  have g4:j<σ0.length:=by have:=(b3.1 ε).1;omega
  show(ic σ ρ σ0++_)[i]?=_;rw[dU (by rw[rF];exact hi),bc g4];exact LN ρ σ σ0 jS aE j i _ ε (bc g4)
 have bI:∀(j i:Nat),ρ[j]?=some i→bK[i]?=eg[j]?:=fun j i ε=>by
  have hi:=CD i (cl ε)
  have g4:j<eg.length:=by have:=(b3.1 ε).1;omega
  show(ic B ρ eg++_)[i]?=_;rw[dU (by rw[rF];exact hi),bc g4];exact LN ρ B eg jS CD j i _ ε (bc g4)
 have s2:∀i,i<σ.length→i∉ρ→jz[i]?=σ[i]?:=fun i hi Η=>by
  show(ic σ ρ σ0++_)[i]?=_;rw[dU (by rw[rF];exact hi),Gt ρ _ _ Η]
 have dc:∀i,i<σ.length→i∉ρ→bK[i]?=B[i]?:=fun i hi Η=>by
  show(ic B ρ eg++_)[i]?=_;rw[dU (by rw[rF,Α.len];exact hi),Gt ρ _ _ Η]
 have nO:∀x,jz[σ.length+x]?=σ0[ρ.length+x]?:=fun x=>by
  show(ic σ ρ σ0++_)[_]?=_;rw[hr (by rw[rF];omega),rF,List.getElem?_drop];congr 1;omega
 have fB:∀x,bK[σ.length+x]?=eg[ρ.length+x]?:=fun x=>by
  show(ic B ρ eg++_)[_]?=_;rw[hr (by rw[rF,Α.len];omega),rF,Α.len,List.getElem?_drop];congr 1;omega
 have y7:∀(i:Nat) (r:Row),jz[i]?=some r→(i<σ.length∧i∉ρ∧σ[i]?=some r∧bK[i]?=B[i]?)∨∃j,σ0[j]?=some r∧bK[i]?=eg[j]?∧(∀eo bC,(eo<σ.length→ρ[bC]?=some eo)→(¬eo<σ.length→bC=ρ.length+(eo-σ.length))→j=bC→i=eo)∧((i<σ.length→ρ[j]?=some i)∧(¬i<σ.length→j=ρ.length+(i-σ.length))):=fun i r κ=>by
  by_cases hi:i<σ.length
  ·by_cases Η:i∈ρ
   ·obtain⟨j,ε⟩:=List.getElem?_of_mem Η;refine .inr ⟨j,by rw[←s1 j i ε];exact κ,bI j i ε,fun eo bC R γ e=>?_,fun _=>ε,fun h=>absurd hi h⟩;subst e;by_cases a2:eo<σ.length
    ·have:=R a2;rw[ε] at this;cases this;rfl
    ·have:=γ a2;have:=(b3.1 ε).1;omega
   ·exact .inl ⟨hi,Η,by rw[←s2 i hi Η];exact κ,dc i hi Η⟩
  ·have e:i=σ.length+(i-σ.length):=by omega
   refine .inr ⟨ρ.length+(i-σ.length),by rw[←nO,←e];exact κ,by rw[←fB,←e],fun eo bC R γ aH=>?_,fun h=>absurd h hi,fun _=>rfl⟩;by_cases a2:eo<σ.length
   ·have:=(b3.1 (R a2)).1;omega
   ·have:=γ a2;omega
 have LP:bK.length=jz.length:=by
  show(ic B ρ eg++eg.drop ρ.length).length=(ic σ ρ σ0++σ0.drop ρ.length).length;simp[rF,Α.len,Ur]
 have CF:b0 S au B bK σ jz:=⟨he.c6,fun id r κ=>by
  have hi:=(b3.1 κ).1;by_cases Η:id∈ρ
  ·obtain⟨j,ε⟩:=List.getElem?_of_mem Η;have e2:ig[j]?=some r:=by rw[←bb j id ε];exact κ
   obtain⟨r',Ξ,ad⟩:=ω.rows j r e2;exact⟨r',by rw[s1 j id ε];exact Ξ,by rw[bI j id ε,←CE j id ε];exact ad⟩
  ·exact⟨r,by rw[s2 id hi Η];exact κ,by rw[dc id hi Η];exact r.sG _⟩⟩
 have CG:∀b,aN.has (ρ.map fun i=>B.getD i none) b→∃j i N,ρ[j]?=some i∧B[i]?=some (some (b,N)):=fun b ⟨N,cm⟩=>by
  obtain⟨j,ε⟩:=List.getElem?_of_mem cm;rw[List.getElem?_map] at ε;cases δ:ρ[j]? with
  | none=>rw[δ] at ε;cases ε
  | some i=>
   rw[δ] at ε;simp only[Option.map_some,Option.some.injEq] at ε;have hi:=CD i (cl δ);rw[List.getD_eq_getElem?_getD,bc hi] at ε;exact⟨j,i,N,δ,by rw[bc hi];simpa using ε⟩
 have LQ:∀(j i:Nat),ρ[j]?=some i→∃r,σ[i]?=some r∧r.live∧ie r:=fun j i ε=>by
  have g4:j<ig.length:=by rw[←hlen];exact(b3.1 ε).1
  have κ:=bc g4
  have χ:=hz _ (cl κ);refine⟨_,by rw[bb j i ε];exact κ,?_,χ⟩;cases δ:ig[j]<;>rw[δ] at χ<;>first|trivial|exact χ.elim
 have CH:∀(id:Nat) (r:Row) (b N:Nat),id∉ρ→σ[id]?=some r→r.live→B[id]?=some (some (b,N))→¬aN.has (ρ.map fun i=>B.getD i none) b∧¬H.fresh b∧jR H H' b:=fun id r b N Η κ e4 hb=>by
  have c1:¬aN.has (ρ.map fun i=>B.getD i none) b:=fun aS=>by
   obtain⟨j,i,eJ,R,γ⟩:=CG b aS;obtain⟨r',Ξ,ad,_⟩:=LQ j i R;exact Α.inj id i r r' b N eJ (fun e=>Η (e▸cl R)) κ Ξ e4 ad hb γ
  have c2:=Α.m' κ e4 hb;exact⟨c1,c2,(he.ft b c1 c2).ri fun o=>Α.sep id r b N κ e4 hb o⟩
 refine⟨⟨ae.c6,LP,fun i r bo κ eM=>?_,fun i j dX b4 b gk gl fs hi ε g0 dS g1 cG=>?_,fun i r b N κ e4 hb o=>?_⟩,⟨he.c6,fun b hb Ρ=>?_,fun b hb=>?_,fun b o v hv=>?_,he.grow⟩,CF,⟨fun j i ε=>?_,fun j i ε=>?_⟩⟩
 ·rcases y7 i r κ with⟨Ξ,ad,aT,ck⟩|⟨j,Ξ,ad,_,_⟩
  ·by_cases e4:r.live
   ·rw[ck] at eM;refine(Α.row i r bo aT eM).later CF (fun b N e=>(CH i r b N ad aT e4 (by rw[eM,e])).2.2) fun cD left cur e=>?_;subst e;obtain⟨_,_,aQ,j',xs,clock,seen,_,Ε,⟨es,Δ⟩,_⟩:=Α.row i _ bo aT eM;have n1:cD∉ρ:=fun hm=>by
     obtain⟨j,ε⟩:=List.getElem?_of_mem hm;obtain⟨r',ew,_,ia⟩:=LQ j cD ε;rw[Δ] at ew;cases ew;exact ia
    have Gv:=(b3.1 Δ).1;exact⟨s2 cD Gv n1,dc cD Gv n1,fun b N hb=>(CH cD _ b N n1 Δ trivial hb).2.2⟩
   ·cases r<;>first|exact absurd trivial e4|trivial
  ·rw[ad] at eM;exact(ae.row j r bo Ξ eM).Up (B':=bK) (σ':=jz) (Uq r (cl Ξ)) _ _
 ·have yw:∀(i:Nat) (dX:Row) (gk:Nat) (bC:Nat) (b4:Row) (gl:Nat),i∉ρ→σ[i]?=some dX→dX.live→B[i]?=some (some (b,gk))→σ0[bC]?=some b4→b4.live→eg[bC]?=some (some (b,gl))→False:=fun i dX gk bC b4 gl R γ ο Ι ay a6 gv=>by
   obtain⟨c1,c2,_⟩:=CH i dX b gk R γ ο Ι;rcases he.blocks b (n3 gv) with h|h
   ·exact c1 h
   ·exact c2 h
  rcases y7 i dX hi with⟨Ξ,ad,aT,ck⟩|⟨i0,Ξ,ad,aT,ck⟩<;>rcases y7 j b4 ε with⟨k1,cx,qu,y8⟩|⟨Gw,k1,cx,qu,y8⟩
  ·rw[ck] at g1;rw[y8] at cG;exact Α.inj i j dX b4 b gk gl fs aT qu g0 dS g1 cG
  ·rw[ck] at g1;rw[cx] at cG;exact yw i dX gk Gw b4 gl ad aT g0 g1 k1 dS cG
  ·rw[ad] at g1;rw[y8] at cG;exact yw j b4 gl i0 dX gk cx qu dS cG Ξ g0 g1
  ·rw[ad] at g1;rw[cx] at cG;refine ae.inj i0 Gw dX b4 b gk gl (fun e=>fs ?_) Ξ k1 g0 dS g1 cG;exact aT j Gw y8.1 y8.2 e
 ·rcases y7 i r κ with⟨Ξ,ad,aT,ck⟩|⟨j,Ξ,ad,_,_⟩
  ·rw[ck] at hb;obtain⟨c1,c2,_⟩:=CH i r b N ad aT e4 hb;cases hv:au b o with
   | none=>rfl
   | some v=>
    rcases he.qa b o v hv with h|h|h
    ·rw[Α.sep i r b N aT e4 hb o] at h;cases h
    ·exact absurd h c1
    ·exact absurd h c2
  ·rw[ad] at hb;exact ae.sep j r b N Ξ e4 hb o
 ·refine he.ft b (fun aS=>hb ?_) Ρ;obtain⟨j,i,eJ,_,γ⟩:=CG b aS;exact n3 γ
 ·obtain⟨N,cm⟩:=hb;obtain⟨i,hi⟩:=List.getElem?_of_mem cm;have nk:i<jz.length:=by rw[←LP];exact(b3.1 hi).1
  rcases y7 i _ (bc nk) with⟨Ξ,ad,aT,ck⟩|⟨j,Ξ,ad,_,_⟩
  ·rw[ck] at hi;exact .inl (n3 hi)
  ·rw[ad] at hi;rcases he.blocks b (n3 hi) with h|h
   ·obtain⟨j,eo,eJ,_,γ⟩:=CG b h;exact .inl (n3 γ)
   ·exact .inr h
 ·rcases he.qa b o v hv with h|h|h
  ·exact .inl h
  ·obtain⟨j,eo,eJ,_,γ⟩:=CG b h;exact .inr (.inl (n3 γ))
  ·exact .inr (.inr h)
 ·by_cases g4:j<ρ.length
  ·rw[dU g4] at ε;exact s1 j i ε
  ·rw[hr (by omega),List.getElem?_map] at ε;have uu:j-ρ.length<σ0.length-ρ.length:=by
    apply Classical.byContradiction;intro Η;rw[List.getElem?_eq_none (by simp;omega)] at ε;cases ε
   rw[bc (by simpa using uu)] at ε;simp at ε;subst ε;rw[nO];congr 1;omega
 ·by_cases g4:j<ρ.length
  ·rw[dU g4] at ε;exact bI j i ε
  ·rw[hr (by omega),List.getElem?_map] at ε;have uu:j-ρ.length<σ0.length-ρ.length:=by
    apply Classical.byContradiction;intro Η;rw[List.getElem?_eq_none (by simp;omega)] at ε;cases ε
   rw[bc (by simpa using uu)] at ε;simp at ε;subst ε;rw[fB];congr 1;omega
def names (ρ:List Nat) (n:Nat) (σ0:List Row):List Nat:=ρ++(List.range (σ0.length-ρ.length)).map (n + ·)
def rG (σ:List Row) (ρ:List Nat) (σ0:List Row):List Row:=ic σ ρ σ0++σ0.drop ρ.length
theorem ak.LR {g:FuncId} {as0:List θ} {ig:List Row} {K:θ→List Row→Prop} {E:θ→List Row→Prop} (h:ak P g as0 ig K E) (ρ:List Nat) (jS:ρ.Nodup) (hlen:ρ.length=ig.length) (bb:∀(j i:Nat),ρ[j]?=some i→σ[i]?=ig[j]?) (hz:∀r∈ig,ie r)
  (has:∀a∈as0,fJ ρ.length a) {K':θ→List Row→Prop} {E':θ→List Row→Prop} (I:∀a s,K a s→(∀r∈s,y6 r)∧fJ s.length a∧K' (dP (names ρ σ.length s) a) (rG σ ρ s))
  (c9:∀a s,E a s→(∀r∈s,y6 r)∧fJ s.length a∧E' (dP (names ρ σ.length s) a) (rG σ ρ s)):ak P g (as0.map (dP ρ)) σ K' E':=by
 refine⟨h.1,fun Q mn x c rest S B H vs δ Α hv k0=>?_⟩;have aE:∀(j i:Nat),ρ[j]?=some i→i<σ.length:=fun j i ε=>by
  have g4:j<ig.length:=by rw[←hlen];exact(b3.1 ε).1
  have:=bb j i ε;rw[bc g4] at this;exact(b3.1 this).1
 have CE:∀(j i:Nat),ρ[j]?=some i→(ρ.map fun i=>B.getD i none)[j]?=B[i]?:=fun j i ε=>by
  have hi:i<B.length:=by rw[Α.len];exact aE j i ε
  rw[List.getElem?_map,ε];simp[hi]
 have kj:Names ρ (ρ.map fun i=>B.getD i none) ig B σ:=⟨bb,fun j i ε=>(CE j i ε).symm⟩
 have pick:∀(j:Nat) (r:Row) (bo:Option (Nat×Nat)),ig[j]?=some r→(ρ.map fun i=>B.getD i none)[j]?=some bo→∃i,ρ[j]?=some i∧σ[i]?=some r∧B[i]?=some bo:=fun j r bo κ eM=>by
  have g4:j<ρ.length:=by rw[hlen];exact(b3.1 κ).1
  have ε:=bc g4;exact⟨_,ε,by rw[bb j _ ε];exact κ,by rw[←CE j _ ε];exact eM⟩
 have Us:Holds S (ρ.map fun i=>B.getD i none) ig H:=by
  refine⟨Α.c6,by simp[hlen],fun j r bo κ eM=>?_,fun i j dX b4 b gk gl fs hi ε g0 dS g1 cG=>?_,fun j r b N κ e4 hb o=>?_⟩
  ·obtain⟨i,R,γ,ο⟩:=pick j r bo κ eM;exact(Α.row i r bo γ ο).plain (B':=B) (σ':=σ) (hz r (cl κ)) _ _
  ·obtain⟨eo,R,γ,ο⟩:=pick i dX _ hi g1;obtain⟨bC,Ξ,ad,aT⟩:=pick j b4 _ ε cG;refine Α.inj eo bC dX b4 b gk gl (fun e=>fs ?_) γ ad g0 dS ο aT;subst e;have h':=(b3.1 R).1;exact(List.getElem?_inj h' jS).1 (R.trans Ξ.symm)
  ·obtain⟨i,R,γ,ο⟩:=pick j r _ κ hb;exact Α.sep i r b N γ e4 ο o
 refine h.2 Q mn x c rest S _ H vs δ Us ⟨by have:=hv.1;simpa using this,fun i a v R γ=>(Gu kj (has a (cl R))).1 (hv.2 i _ v (by rw[List.getElem?_map,R];rfl) γ)⟩ ⟨fun a σ' au B' H' v υ he ω iD κ=>?_,fun a σ' au B' H' v υ he ω iD κ=>?_⟩
 ·obtain⟨ew,en,ia⟩:=I a σ' υ;obtain⟨dB,p2,p3,p4⟩:=Α.LO jS hlen bb hz he ω iD ew;refine k0.ret _ _ au _ H' v ia p2 p3 dB ((Gu p4 ?_).2 κ);have:(ρ++(List.range (σ'.length-ρ.length)).map (σ.length + ·)).length=σ'.length:=by
   have:=ω.length;simp;omega
  rw[this];exact en
 ·obtain⟨ew,en,ia⟩:=c9 a σ' υ;obtain⟨dB,p2,p3,p4⟩:=Α.LO jS hlen bb hz he ω iD ew;refine k0.wx _ _ au _ H' v ia p2 p3 dB ((Gu p4 ?_).2 κ);have:(ρ++(List.range (σ'.length-ρ.length)).map (σ.length + ·)).length=σ'.length:=by
   have:=ω.length;simp;omega
  rw[this];exact en
theorem ak.rows {g:FuncId} {as0:List θ} {ig:List Row} {K:θ→List Row→Prop} {E:θ→List Row→Prop} (h:ak P g as0 ig K E) (ρ:List Nat) (jS:ρ.Nodup) (hlen:ρ.length=ig.length) (bb:∀(j i:Nat),ρ[j]?=some i→σ[i]?=ig[j]?) (hz:∀r∈ig,ie r)
  (has:∀a∈as0,fJ ρ.length a) {K':θ→List Row→Prop} {E':θ→List Row→Prop} (I:∀a s,K a s→(∀r∈s,ie r)∧fJ s.length a∧K' (dP (names ρ σ.length s) a) (rG σ ρ s))
  (c9:∀a s,E a s→(∀r∈s,ie r)∧fJ s.length a∧E' (dP (names ρ σ.length s) a) (rG σ ρ s)):ak P g (as0.map (dP ρ)) σ K' E':=
 h.LR ρ jS hlen bb hz has (fun a s x=>let ⟨p,q⟩:=I a s x;⟨fun r κ=>.inl (p r κ),q⟩) (fun a s x=>let ⟨p,q⟩:=c9 a s x;⟨fun r κ=>.inl (p r κ),q⟩)
end
end Go.TL
