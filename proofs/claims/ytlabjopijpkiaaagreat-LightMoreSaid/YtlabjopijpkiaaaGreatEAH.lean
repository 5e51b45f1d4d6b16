import Derived.KernelRfl
import Derived.Test.YtlabjopijpkiaaaGreatProg
import Derived.Test.YtlabjopijpkiaaaGreatEAG
set_option maxHeartbeats 16000000
set_option maxRecDepth 20000
set_option linter.unusedSectionVars false
set_option linter.unusedSimpArgs false
set_option linter.unusedVariables false
namespace Go.TL
open Go.Conc
variable [bq]
section
variable {P:Program} {T:bk} {A:List Nat} {m nt:Nat} {k:List Item} {env env':ab} {σ:ac} {Z:be} {E:aq} {ops:Array Oper}
theorem A3 {o:Oper} (h:pa ops o env env'):∀x,x∈o.op.operands.toList->aT env' x=aT env x:=λx δ=>by
 cases x with
 | tmp t=>
  refine h t ?_;unfold AU;simp only[List.mem_append,List.mem_filterMap];exact .inl ⟨.tmp t,δ,rfl⟩
 | _=>rfl
theorem lG {o:Oper} (h:pa ops o env env'):ft env' ops o=ft env ops o:=by
 unfold ft;cases Ω:o.guard with
 | none=>rfl
 | some x=>
  obtain⟨j,want⟩:=x;simp only;cases hd:(ops[j]?).bind (·.dst) with
  | none=>rfl
  | some d=>
   simp only;have:a' env' d=a' env d:=h d (by unfold AU;rw[Ω];simp[hd]);rw[this]
theorem EJ {dc:Array (Nat×Operand)} (h:∀p∈dc,aT env' p.2=aT env p.2):tq env' dc=tq env dc:=by
 unfold tq;exact List.map_congr_left λp ω=>by rw[h p (by simpa using ω)]
theorem A4 {dr:Array Operand} (h:∀x∈dr,aT env' x=aT env x):dr.toList.map (aT env')=dr.toList.map (aT env):=List.map_congr_left λx δ=>h x (by simpa using δ)
theorem EK {o:Option Operand} (h:∀x,o=some x->aT env' x=aT env x):o.map (aT env')=o.map (aT env):=by
 cases o with
 | none=>rfl
 | some x=>simp[h x rfl]
theorem tB {o:Oper} (ξ:pa ops o env env'):jK T A env' o=jK T A env o:=by
 have h:=A3 ξ;obtain⟨dst,op,type,pos,after,guard⟩:=o;simp only at h;unfold jK;cases op<;>simp only<;>try rfl
 all_goals simp only[Op.operands,List.mem_cons,List.not_mem_nil,or_false,forall_eq_or_imp,forall_eq] at h
 case move x=>rw[h]
 case assign x=>rw[h]
 case pick c a b=>rw[h.1,h.2.1,h.2.2]
 case box ty x=>rw[h]
 case build ty dc=>rw[EJ λp ω=>h p.2 (by simp only[List.mem_map];exact⟨p,by simpa using ω,rfl⟩)]
 case buildSlice ty n dc=>rw[EJ λp ω=>h p.2 (by simp only[List.mem_map];exact⟨p,by simpa using ω,rfl⟩)]
 case load ty x=>rw[h]
 case binOp op a x y b=>rw[h.1,h.2]
 case unOp op a x=>rw[h]
 case convert a b x=>rw[h]
 case index ty x y=>rw[h.1,h.2]
 case nilCheck x=>rw[h]
 case sliceToArrayPointer ty x=>rw[h]
 case makeInterface a x=>rw[h]
 case makeFunc f dr cs=>rw[A4 λx δ=>h x (by simp[δ]),A4 λx δ=>h x (by simp[δ])]
 case makeSlice a x y=>rw[h.1,h.2]
 case slice ty x lo hi pb=>
  cases pb with
  | some m=>rfl
  | none=>
   simp only;rw[h x η,EK λy Μ=>h y (by simp[Μ]),EK λy Μ=>h y (by simp[Μ])]
 case fieldAddr ty x f=>rw[h]
 case indexAddr ty x y=>rw[h.1,h.2]
 case typeAssert x a b c=>rw[h]
 case extract x i=>rw[h]
 case call c=>
  obtain⟨callee,⟨args⟩,⟨eu⟩⟩:=c;cases callee
  case value=>rfl
  case invoke=>rfl
  rename_i b;have dh:∀x∈args,aT env' x=aT env x:=λx δ=>h x (by simp[Call.operands,δ])
  match args,eu with
  | [x],[ty]=>simp only;rw[dh x η]
  | [x,y],[u9,ty]=>simp only;rw[dh x η,dh y η]
  | [],_=>rfl
  | [_],[]=>rfl
  | [_],_::_::_=>rfl
  | [_,_],[]=>rfl
  | [_,_],[_]=>rfl
  | [_,_],_::_::_::_=>rfl
  | _::_::_::_,_=>rfl
theorem yN {o:Oper} (ξ:pa ops o env env'):iD T A env' σ o=iD T A env σ o:=by
 have h:=A3 ξ;obtain⟨dst,op,type,pos,after,guard⟩:=o;simp only at h;unfold iD;cases op<;>simp only<;>try rfl
 all_goals simp only[Op.operands,List.mem_cons,List.not_mem_nil,or_false,forall_eq_or_imp,forall_eq] at h
 case box ty x=>rw[h]
 case build ty dc=>rw[EJ λp ω=>h p.2 (by simp only[List.mem_map];exact⟨p,by simpa using ω,rfl⟩)]
 case buildSlice ty n dc=>rw[EJ λp ω=>h p.2 (by simp only[List.mem_map];exact⟨p,by simpa using ω,rfl⟩)]
 case load ty x=>rw[h]
 case store ty x y=>rw[h.1,h.2]
 case makeSlice a x y=>rw[h.1,h.2]
 case makeMap ty r=>cases r<;>rfl
 case convert a b x=>rw[h]
 case nilCheck x=>rw[h]
 case binOp op ty x y d=>
  split
  all_goals first
   | rfl
   |(rename_i heq;cases heq<;>simp only[h.1])
 case mapUpdate ty x y z=>rw[h.1,h.2.1,h.2.2]
 case insert ty x y z=>rw[h.1,h.2.1,h.2.2]
 case lookup ty x y ok=>rw[h.1,h.2]
 case range ty x=>rw[h]
 case next x b=>
  cases b<;>simp only<;>try rfl
  rw[h]
 case entry x=>rw[h]
 case slice ty x lo hi pb=>
  cases pb with
  | some m=>rfl
  | none=>
   simp only;rw[h x η,EK λy Μ=>h y (by simp[Μ]),EK λy Μ=>h y (by simp[Μ])]
 case fieldAddr ty x f=>rw[h]
 case indexAddr ty x y=>rw[h.1,h.2]
 case call c=>
  obtain⟨callee,⟨args⟩,⟨eu⟩⟩:=c;cases callee
  case value=>rfl
  case invoke=>rfl
  rename_i b;have dh:∀x∈args,aT env' x=aT env x:=λx δ=>h x (by simp[Call.operands,δ])
  match args,eu with
  | [x],[ty]=>simp only;rw[dh x η]
  | [x,y],[u9,ty]=>simp only;rw[dh x η,dh y η]
  | [],_=>rfl
  | [_],[]=>rfl
  | [_],_::_::_=>rfl
  | [_,_],[]=>rfl
  | [_,_],[_]=>rfl
  | [_,_],_::_::_::_=>rfl
  | _::_::_::_,_=>rfl
def ef (P:Program) (f:θ) (args:am) (r:θ):Prop:=∀σ,hV P f args σ (λa s=>a=r/\s=σ) (λ_ _=>False)
def cB.ee (r:cB) (K:θ->Prop) (s:Prop):Prop:=match r with
 | .ok a=>K a
 | .b' p (.ok a)=>p/\K a
 | .b' _ _=>False
 | .bad=>s
def c5.ee (r:c5) (K:θ->ac->Prop):Prop:=match r with
 | .ok a σ'=>K a σ'
 | .b' p (.ok a σ')=>p/\K a σ'
 | _=>False
theorem Xq {r r':cB} {K:θ->Prop} {s:Prop} (h:r=r'):r.ee K s=r'.ee K s:=by rw[h]
theorem Xr {r r':c5} {K:θ->ac->Prop} (h:r=r'):r.ee K=r'.ee K:=by rw[h]
def dcall (P:Program) (f:θ) (args:am) (σ:ac) (gU:θ->Prop) (j0:θ->ac->Prop):Prop:=
 (∃r,ef P f args r/\gU r)\/∃r σ',hV P f args σ (λa s=>a=r/\s=σ') (λ_ _=>False)/\j0 r σ'
theorem eD {P:Program} {f:θ} {args:am} {σ:ac} {gU:θ->Prop} {j0:θ->ac->Prop} {r:θ} (h:ef P f args r) (k:gU r):dcall P f args σ gU j0:=.inl ⟨r,h,k⟩
theorem EL {P:Program} {f:θ} {args:am} {σ σ':ac} {gU:θ->Prop} {j0:θ->ac->Prop} {r:θ} (h:hV P f args σ (λa s=>a=r/\s=σ') (λ_ _=>False)) (k:j0 r σ'):dcall P f args σ gU j0:=.inr ⟨r,σ',h,k⟩
def tC (P:Program) (T:bk) (A:List Nat) (env:ab) (o:Oper) (σ:ac) (gU:θ->Prop) (j0:θ->ac->Prop):Prop:=match o.op with
 | .call ⟨.value f,args,_⟩=>dcall P (aT env f) (args.toList.map (aT env)) σ gU j0
 | .panic _=>False
 | .defer _=>False
 | _=>(jK T A env o).ee gU ((iD T A env σ o).ee j0)
theorem Xs {P:Program} {T:bk} {A:List Nat} {env:ab} {o:Oper} {σ:ac} {gU:θ->Prop} {j0:θ->ac->Prop}:tC P T A env o σ gU j0=match o.op with
 | .call ⟨.value f,args,_⟩=>dcall P (aT env f) (args.toList.map (aT env)) σ gU j0
 | .panic _=>False
 | .defer _=>False
 | _=>(jK T A env o).ee gU ((iD T A env σ o).ee j0):=Eq.trans rfl rfl
theorem Xt {a:θ} {K:θ->Prop} {s:Prop}:cB.ee (.ok a) K s=K a:=Eq.trans rfl rfl
theorem Xu {p:Prop} {a:θ} {K:θ->Prop} {s:Prop}:cB.ee (.b' p (.ok a)) K s=(p/\K a):=Eq.trans rfl rfl
theorem Xv {K:θ->Prop} {s:Prop}:cB.ee .bad K s=s:=Eq.trans rfl rfl
theorem Xw {a:θ} {σ:ac} {K:θ->ac->Prop}:c5.ee (.ok a σ) K=K a σ:=Eq.trans rfl rfl
theorem Xx {p:Prop} {a:θ} {σ:ac} {K:θ->ac->Prop}:c5.ee (.b' p (.ok a σ)) K=(p/\K a σ):=Eq.trans rfl rfl
def j1 (P:Program) (T:bk) (A:List Nat) (nt:Nat) (ops:Array Oper):List Nat->ab->ac->List Bool->(ab->ac->Prop)->Prop
 | [],env,σ,tags,K=>nE ops tags=true/\K env σ
 | i::is,env,σ,tags,K=>gu ops[i]? λo=>hD nt o=true/\gu (ft env ops o) λw=>
   iE w (j1 P T A nt ops is (b7 o env .cz) σ (tags++[false]) K)
    (tC P T A env o σ (λa=>j1 P T A nt ops is (b7 o env a) σ (tags++[false]) K) (λa σ'=>j1 P T A nt ops is (b7 o env a) σ' (tags++[true]) K))
def Oe (P:Program) (T:bk) (A:List Nat) (nt:Nat) (ops:Array Oper) (is:List Nat) (o:Oper) (env:ab) (σ:ac) (tags:List Bool) (K:ab->ac->Prop) (a:θ):Prop:=j1 P T A nt ops is (b7 o env a) σ (tags++[false]) K
def Of (P:Program) (T:bk) (A:List Nat) (nt:Nat) (ops:Array Oper) (is:List Nat) (o:Oper) (env:ab) (tags:List Bool) (K:ab->ac->Prop) (a:θ) (σ':ac):Prop:=j1 P T A nt ops is (b7 o env a) σ' (tags++[true]) K
theorem cX {tags:List Bool} {K:ab->ac->Prop}:j1 P T A nt ops [] env σ tags K=(nE ops tags=true/\K env σ):=Eq.trans rfl rfl
theorem cY {i:Nat} {is:List Nat} {tags:List Bool} {K:ab->ac->Prop}:j1 P T A nt ops (i::is) env σ tags K=gu ops[i]? λo=>hD nt o=true/\gu (ft env ops o) λw=>
   iE w (j1 P T A nt ops is (b7 o env .cz) σ (tags++[false]) K) (tC P T A env o σ (Oe P T A nt ops is o env σ tags K) (Of P T A nt ops is o env tags K)):=Eq.trans rfl rfl
theorem Xy {ops:Array Oper} {is:List Nat} {o:Oper} {tags:List Bool} {K:ab->ac->Prop} {a:θ}:Oe P T A nt ops is o env σ tags K a=j1 P T A nt ops is (b7 o env a) σ (tags++[false]) K:=Eq.trans rfl rfl
theorem Xz {ops:Array Oper} {is:List Nat} {o:Oper} {tags:List Bool} {K:ab->ac->Prop} {a:θ}:Of P T A nt ops is o env tags K a σ=j1 P T A nt ops is (b7 o env a) σ (tags++[true]) K:=Eq.trans rfl rfl
def iX (P:Program) (m nt:Nat) (k:List Item) (Z:be) (E:aq) (ops:Array Oper) (i:Nat) (o:Oper) (env:ab) (σ:ac) (tag:Bool) (a:θ) (σ':ac):Prop:=
 if tag then va P m nt k Z E ops i o env σ a σ'/\(jq o=true->σ'=σ) else u' P m nt k Z E ops i o env a/\σ'=σ
theorem XA {ty:TypeId} {x a:θ} {σ':ac} {p:Prop} (h:o2 T ty σ x=.ok a σ'\/o2 T ty σ x=.b' p (.ok a σ')):σ'=σ:=by
 unfold o2 sa at h
 repeat' split at h
 all_goals simp[cB.dC] at h
 all_goals first|exact h.2.symm|skip
theorem XB {ty:TypeId} {x bz a:θ} {σ':ac} {p:Prop} (h:o4 T ty σ x bz=.ok a σ'\/o4 T ty σ x bz=.b' p (.ok a σ')):σ'=σ:=by
 unfold o4 at h
 repeat' split at h
 all_goals simp at h
 all_goals first|exact h.2.2.symm|exact h.2.symm|skip
theorem XC {ty:TypeId} {f:Nat} {x a:θ} {σ':ac} {p:Prop} (h:o3 T ty f σ x=.ok a σ'\/o3 T ty f σ x=.b' p (.ok a σ')):σ'=σ:=by
 unfold o3 at h
 repeat' split at h
 all_goals simp at h
 all_goals first|exact h.2.2.symm|exact h.2.symm|skip
theorem XD {x a:θ} {σ':ac} {p:Prop} (h:wX σ x=.ok a σ'\/wX σ x=.b' p (.ok a σ')):σ'=σ:=by
 unfold wX at h
 repeat' split at h
 all_goals simp at h
 all_goals first|exact h.2.2.symm|exact h.2.symm|skip
theorem yO {o:Oper} {a:θ} {σ':ac} {p:Prop} (μ:jq o=true) (h:iD T A env σ o=.ok a σ'\/iD T A env σ o=.b' p (.ok a σ')):σ'=σ:=by
 unfold jq at μ;unfold iD at h;split at μ
 ·rename_i ty x Τ;rw[Τ] at h;exact XA h
 ·rename_i ty x bz Τ;rw[Τ] at h;exact XB h
 ·rename_i ty x f Τ;rw[Τ] at h;exact XC h
 ·rename_i x Τ;rw[Τ] at h;exact XD h
 ·cases μ
theorem XE (Ν:bU P T) {i:Nat} {is:List Nat} {tags:List Bool} {K:ab->ac->Prop} (h:j1 P T A nt ops (i::is) env σ tags K) :
  ∃o a σ' tag,ops[i]?=some o/\iX P m nt k Z E ops i o env σ tag a σ'/\j1 P T A nt ops is (b7 o env a) σ' (tags++[tag]) K:=by
 unfold j1 gu at h;split at h
 ·exact h.elim
 ·rename_i o Β;obtain⟨hd,h⟩:=h;split at h
  ·exact h.elim
  rename_i w hw;unfold iE at h;cases w
  ·replace h:=h.1 rfl
   refine⟨o,.cz,σ,false,Β,?_,h⟩;unfold iX;simp only[Bool.false_eq_true,if_false];exact⟨λenv' σ' rest ξ hW=>.unwanted Β (by rw[lG ξ];exact hw) hd hW,trivial⟩
  ·replace h:=h.2 rfl
   unfold tC at h;split at h
   ·rename_i f args eu Τ;have vd:∀env',pa ops o env env'->aT env' f=aT env f/\args.toList.map (aT env')=args.toList.map (aT env):=λenv' ξ=>by
     have δ:=A3 ξ;rw[Τ] at δ;refine⟨δ f (by simp[Op.operands,Call.operands]),A4 λx A5=>δ x (by simp[Op.operands,Call.operands,A5])⟩
    rcases h with⟨r,ε,h⟩|⟨r,σ',ε,h⟩
    ·refine⟨o,r,σ,false,Β,?_,h⟩;unfold iX;simp only[Bool.false_eq_true,if_false];refine⟨λenv' σ' rest ξ hW=>.call Β (by rw[lG ξ];exact hw) hd Τ ?_,trivial⟩;obtain⟨Ζ,Ε⟩:=vd env' ξ;rw[Ζ,Ε];exact(ε σ').mono (λa s ⟨x,y⟩=>by subst x;subst y;exact hW) (λ_ _ h=>h.elim)
    ·refine⟨o,r,σ',true,Β,?_,h⟩;unfold iX;simp only[if_true];refine⟨?_,λμ=>by unfold jq at μ;rw[Τ] at μ;cases μ⟩;refine λenv' rest ξ hW=>.call Β (by rw[lG ξ];exact hw) hd Τ ?_;obtain⟨Ζ,Ε⟩:=vd env' ξ;rw[Ζ,Ε];exact ε.mono (λa s ⟨x,y⟩=>by subst x;subst y;exact hW) (λ_ _ h=>h.elim)
   ·exact h.elim
   ·exact h.elim
   ·rename_i U γ ο;have ve:∀(r:cB) (a:θ),jK T A env o=r->(∀K:θ->ac->Prop,∀s,K a s->(r.dC s).holds K)->(∀σ s,r.or σ s=r.dC σ)->u' P m nt k Z E ops i o env a:=λr a μ a5 A6 env' σ' rest ξ hW=>by
     refine .op (A:=A) Ν Β (by rw[lG ξ];exact hw) hd (λc ε=>ο c ε) ?_;rw[tB ξ,μ,A6];exact a5 _ _ hW
    unfold cB.ee at h;split at h
    ·rename_i a ν;refine⟨o,a,σ,false,Β,?_,h⟩;unfold iX;simp only[Bool.false_eq_true,if_false];exact⟨ve _ a ν (λK s ψ=>ψ) (λ_ _=>rfl),trivial⟩
    ·rename_i p a ν;refine⟨o,a,σ,false,Β,?_,h.2⟩;unfold iX;simp only[Bool.false_eq_true,if_false];exact⟨ve _ a ν (λK s ψ=>⟨h.1,ψ⟩) (λ_ _=>rfl),trivial⟩
    ·exact h.elim
    ·rename_i oo;have xb:∀(a:θ) (σ':ac) (r:c5),iD T A env σ o=r->(∀K:θ->ac->Prop,K a σ'->r.holds K)->va P m nt k Z E ops i o env σ a σ':=λa σ' r μ a5 env' rest ξ hW=>by
      refine .op (A:=A) Ν Β (by rw[lG ξ];exact hw) hd (λc ε=>ο c ε) ?_;rw[tB ξ,yN ξ,oo,μ];exact a5 _ hW
     unfold c5.ee at h;split at h
     ·rename_i a σ' ν;refine⟨o,a,σ',true,Β,?_,h⟩;unfold iX;simp only[if_true];exact⟨xb a σ' _ ν λK ψ=>ψ,λμ=>yO (p:=True) μ (.inl ν)⟩
     ·rename_i p a σ' ν;refine⟨o,a,σ',true,Β,?_,h.2⟩;unfold iX;simp only[if_true];exact⟨xb a σ' _ ν λK ψ=>⟨h.1,ψ⟩,λμ=>yO μ (.inr ν)⟩
     ·exact h.elim
theorem IJ {env0:ab} {as9 ig:Nat->θ} {D:Nat->Bool}:∀n,(∀j,j<n->as9 j=ig j)->cI ops env0 as9 D n=cI ops env0 ig D n:=by
 intro n
 induction n with
 | zero=>intro _;rfl
 | succ n Α=>
  intro h;simp only[cI];rw[Α λj ζ=>h j J,h n (Nat.lt_succ_self n)]
theorem XF (Ν:bU P T) {K:ab->ac->Prop} {env0:ab}:∀(d i:Nat) (tags:List Bool) (as9:Nat->θ) (σs:Nat->ac),i+d=ops.size->tags.length=i->
  (∀j o,j<i->ops[j]?=some o->iX P m nt k Z E ops j o (cI ops env0 as9 (λ_=>true) j) (σs j) (tags.getD j false) (as9 j) (σs (j+1)))->
  j1 P T A nt ops (List.range' i d) (cI ops env0 as9 (λ_=>true) i) (σs i) tags K->
  ∃(tags:List Bool) (as9:Nat->θ) (j2:Nat->ac),nE ops tags=true/\j2 0=σs 0/\(∀j o,ops[j]?=some o->iX P m nt k Z E ops j o (cI ops env0 as9 (λ_=>true) j) (j2 j) (tags.getD j false) (as9 j) (j2 (j+1)))/\K (cI ops env0 as9 (λ_=>true) ops.size) (j2 ops.size):=by
 intro d
 induction d with
 | zero=>
  intro i tags as9 σs hi Υ ζ h;simp only[List.range'_zero,j1] at h;have:i=ops.size:=J;subst this;exact⟨tags,as9,σs,h.1,rfl,λj o Β=>ζ j o (Array.getElem?_eq_some_iff.1 Β).1 Β,h.2⟩
 | succ d Α=>
  intro i tags as9 σs hi Υ ζ h;rw[List.range'_succ] at h;obtain⟨o,a,σ',tag,Β,A7,h⟩:=XE (m:=m) (k:=k) (Z:=Z) (E:=E) Ν h;let ig:Nat->θ:=λj=>if j=i then a else as9 j
  let j2:Nat->ac:=λj=>if j=i+1 then σ' else σs j
  have q0:∀j,j<=i->cI ops env0 as9 (λ_=>true) j=cI ops env0 ig (λ_=>true) j:=λj ζ=>IJ j λx δ=>by simp only[ig];rw[if_neg J]
  have A8:cI ops env0 ig (λ_=>true) (i+1)=b7 o (cI ops env0 as9 (λ_=>true) i) a:=by
   simp only[cI,if_true,Β];rw[<-q0 i (Nat.le_refl i)];simp only[ig,if_true]
  have:=Α (i+1) (tags++[tag]) ig j2 J (by simp[Υ]) (λj bZ aN dg=>?_) ?_
  ·obtain⟨t2,bb,s2,aa,ai,aZ,cn⟩:=this;exact⟨t2,bb,s2,aa,ai.trans (by simp only[j2];rw[if_neg J]),aZ,cn⟩
  ·by_cases e:j=i
   ·subst e;rw[Β] at dg;cases dg;rw[<-q0 j (Nat.le_refl j)];have Ζ:(tags++[tag]).getD j false=tag:=by rw[List.getD_eq_getElem?_getD,gA J,Υ];simp
    rw[Ζ];simp only[ig,j2,if_true];rw[if_neg J];exact A7
   ·have:=ζ j bZ J dg;rw[<-q0 j J];have Ζ:(tags++[tag]).getD j false=tags.getD j false:=by rw[List.getD_eq_getElem?_getD,dM J,<-List.getD_eq_getElem?_getD]
    rw[Ζ];simp only[ig,j2];rw[if_neg J,if_neg J,if_neg J];exact this
  ·rw[A8];simp only[j2,if_true];exact h
theorem W.draw (Ν:bU P T) (q1:P.follows .mixedOrders=true) {id:Nat} (h:∀Κ:ab->ac->Prop,(∀env σ,W P m nt k env σ Z E->Κ env σ)->j1 P T A nt ops (idx ops.size []) env σ [] Κ):W P m nt (.code (.region id ops true)::k) env σ Z E:=by
 have ao:=h (λenv σ=>W P m nt k env σ Z E) λ_ _ h=>h;rw[idx_eq,List.range_eq_range'] at ao;obtain⟨tags,as9,σs,aa,ai,aZ,cn⟩:=XF (m:=m) (k:=k) (Z:=Z) (E:=E) (env0:=env) Ν ops.size 0 [] (λ_=>.cz) (λ_=>σ) J rfl (λj o ζ=>J) ao;intro Q mn x cs b S B H t δ hb ω Ψ he;refine .draw δ hb λn=>?_;have key:=W.Xn (P:=P) (m:=m) (nt:=nt) (k:=k) (Z:=Z) (E:=E) (ops:=ops) (as9:=as9) (σs:=σs) (tags:=tags) (env0:=env) aa
  (λi o Β Υ=>by have:=aZ i o Β;unfold iX at this;rw[Υ] at this;simpa using this)
  (λi o Β Υ=>by have:=aZ i o Β;unfold iX at this;rw[Υ] at this;simpa using this)
  (.bL cn) ops.size n (Array.replicate ops.size false) env 0 η (λi=>?_) (λi o Β π=>?_) (Nat.zero_le _) (λj ζ _=>?_) ?_
 ·rw[ai] at key;rw[q1];simp only[Region.schedule,Bool.true_or,if_true,Region.linearise];exact key Q mn x cs b S B H t δ hb ω Ψ he
 ·have:∀n,cI ops env as9 (λi=>(Array.replicate ops.size false).getD i false) n=env:=by
   intro n
   induction n with
   | zero=>rfl
   | succ n Α=>
    simp only[cI];have:(Array.replicate ops.size false).getD n false=false:=by
     rw[Array.getD_eq_getD_getElem?,Array.getElem?_replicate];split<;>rfl
    rw[if_neg (by rw[this];simp)];exact Α
  rw[this]
 ·have:(Array.replicate ops.size false).getD i false=false:=by
   rw[Array.getD_eq_getD_getElem?,Array.getElem?_replicate];split<;>rfl
  rw[this] at π;cases π
 ·have:(Array.replicate ops.size false).getD j false=false:=by
   rw[Array.getD_eq_getD_getElem?,Array.getElem?_replicate];split<;>rfl
  rw[this];simp
 ·have:=List.length_filter_le (λi=>!(Array.replicate ops.size false).getD i false) (List.range ops.size);simpa using this
theorem Og {K K':ab->ac->Prop} (κ:∀e s,K e s->K' e s):∀(is:List Nat) (env:ab) (σ:ac) (tags:List Bool),j1 P T A nt ops is env σ tags K->j1 P T A nt ops is env σ tags K':=by
 intro is
 induction is with
 | nil=>intro env σ tags h;exact⟨h.1,κ _ _ h.2⟩
 | cons i is Α=>
  intro env σ tags h;unfold j1 gu at h ⊢;cases Β:ops[i]? with
  | none=>rw[Β] at h;exact h.elim
  | some o=>
   rw[Β] at h;simp only at h ⊢;refine⟨h.1,?_⟩
   replace h:=h.2
   cases hw:ft env ops o with
   | none=>rw[hw] at h;exact h.elim
   | some w=>
    rw[hw] at h;unfold iE at h ⊢;refine⟨λe=>Α _ _ _ (h.1 e),λe=>?_⟩
    replace h:=h.2 e
    unfold tC at h ⊢;split
    ·rename_i f args eu Τ;rw[Τ] at h;simp only at h;rcases h with⟨r,ε,h⟩|⟨r,σ',ε,h⟩
     ·exact .inl ⟨r,ε,Α _ _ _ h⟩
     ·exact .inr ⟨r,σ',ε,Α _ _ _ h⟩
    ·rename_i Τ;rw[Τ] at h;exact h
    ·rename_i Τ;rw[Τ] at h;exact h
    ·rename_i U γ ο;split at h
     ·rename_i f args eu Τ;exact absurd Τ (U f args eu)
     ·rename_i y Τ;exact absurd Τ (γ y)
     ·rename_i y Τ;exact absurd Τ (ο y)
     ·unfold cB.ee at h ⊢;split at h
      ·exact Α _ _ _ h
      ·exact⟨h.1,Α _ _ _ h.2⟩
      ·exact h.elim
      ·unfold c5.ee at h ⊢;split at h
       ·exact Α _ _ _ h
       ·exact⟨h.1,Α _ _ _ h.2⟩
       ·exact h.elim
theorem W.yP (Ν:bU P T) (q1:P.follows .mixedOrders=true) (gS:ab) {id:Nat} (h:W P m nt k gS σ Z E) (μ:j1 P T A nt ops (idx ops.size []) env σ [] (λe s=>s=σ/\∀p∈gS,a' e p.1=p.2)):W P m nt (.code (.region id ops true)::k) env σ Z E:=
 W.draw Ν q1 λΚ κ=>Og (λe s ⟨U,γ⟩=>κ e s (U▸W.forget gS γ h)) _ _ _ _ μ
end
def jL {α:Type}:List α->List Nat->List α->List α
 | l,i::ρ,x::xs=>jL (l.set i x) ρ xs
 | l,_,_=>l
theorem tD {α:Type}:∀(ρ:List Nat) (l xs:List α),(jL l ρ xs).length=l.length:=by
 intro ρ
 induction ρ with
 | nil=>intro l xs;cases xs<;>rfl
 | cons i ρ Α=>intro l xs;cases xs with
  | nil=>rfl
  | cons x xs=>simp[jL,Α]
theorem IK {α:Type} {i:Nat}:∀(ρ:List Nat) (l xs:List α),i∉ρ->(jL l ρ xs)[i]?=l[i]?:=by
 intro ρ
 induction ρ with
 | nil=>intro l xs _;cases xs<;>rfl
 | cons j ρ Α=>intro l xs h;cases xs with
  | nil=>rfl
  | cons x xs=>
   simp only[jL];rw[Α _ _ (λhm=>h (by simp[hm])),List.getElem?_set_ne (λe=>h (by simp[e]))]
theorem Oh {α:Type}:∀(ρ:List Nat) (l xs:List α),ρ.Nodup->(∀i∈ρ,i<l.length)->∀(j i:Nat) (x:α),ρ[j]?=some i->xs[j]?=some x->(jL l ρ xs)[i]?=some x:=by
 intro ρ
 induction ρ with
 | nil=>intro l xs _ _ j i x h;simp at h
 | cons a ρ Α=>
  intro l xs lF aN j i x ζ δ;cases xs with
  | nil=>simp at δ
  | cons y xs=>
   simp only[jL];obtain⟨U,γ⟩:=List.nodup_cons.1 lF;cases j with
   | zero=>
    simp at ζ δ;subst ζ;subst δ;rw[IK ρ _ _ U,List.getElem?_set_self (aN a η)]
   | succ j=>
    simp only[List.getElem?_cons_succ] at ζ δ;exact Α _ _ γ (λi hi=>by simp;exact aN i (by simp[hi])) j i x ζ δ
def hF (ρ:List Nat):θ->θ
 | .ak id n i j=>.ak (ρ.getD id 0) n i j
 | .ms id n i len=>.ms (ρ.getD id 0) n i len
 | .mp id=>.mp (ρ.getD id 0)
 | .it id=>.it (ρ.getD id 0)
 | a=>a
def eg (ρ:List Nat):θ->θ
 | .fn f dr cs=>.fn f (dr.map (hF ρ)) (cs.map (hF ρ))
 | .a3 l=>.a3 (l.map (hF ρ))
 | .bj l=>.bj (l.map (hF ρ))
 | a=>hF ρ a
def mS (h:Nat) (a:θ):Prop:=match a with
 | .ak id _ _ _|.ms id _ _ _|.mp id|.it id=>id<h
 | a=>aG 0 a
def fD (h:Nat) (a:θ):Prop:=match a with
 | .fn _ dr cs=>(∀a∈dr,mS h a)/\∀a∈cs,mS h a
 | .a3 l|.bj l=>∀a∈l,mS h a
 | a=>mS h a
structure Names (ρ:List Nat) (eV:a0) (σ0:ac) (b1:a0) (k8:ac):Prop where
 row:∀(j i:Nat),ρ[j]?=some i->k8[i]?=σ0[j]?
 blk:∀(j i:Nat),ρ[j]?=some i->b1[i]?=eV[j]?
section
variable {S:aO} {eV b1:a0} {σ0 k8:ac} {ρ:List Nat}
theorem EM {ρ:List Nat} {j:Nat} (h:j<ρ.length):ρ[j]?=some (ρ.getD j 0):=by
 rw[List.getD_eq_getElem?_getD,a6 h];rfl
theorem l8 (Θ:Names ρ eV σ0 b1 k8) {a:θ} {v:Value} (Υ:mS ρ.length a):aA S b1 k8 (hF ρ a) v↔aA S eV σ0 a v:=by
 cases a with
 | ak id n i j=>
  have cb:=EM (ρ:=ρ) Υ
  have U:=Θ.row _ _ cb
  have γ:=Θ.blk _ _ cb;constructor
  ·intro h;cases h with
   | ak aa ai aZ=>exact .ak (by rw[<-U];exact aa) ai (by rw[<-γ];exact aZ)
   | kB v aa ai=>exact .kB v (by rw[<-U];exact aa) ai
  ·intro h;cases h with
   | ak aa ai aZ=>exact .ak (by rw[U];exact aa) ai (by rw[γ];exact aZ)
   | kB v aa ai=>exact .kB v (by rw[U];exact aa) ai
 | ms id n i len=>
  have cb:=EM (ρ:=ρ) Υ
  have U:=Θ.row _ _ cb
  have γ:=Θ.blk _ _ cb;constructor
  ·intro h;cases h with
   | ms cap aa ai aZ cn gr jm=>exact .ms cap (by rw[<-U];exact aa) ai (by rw[<-γ];exact aZ) cn gr jm
   | jZ v aa ai=>exact .jZ v (by rw[<-U];exact aa) ai
  ·intro h;cases h with
   | ms cap aa ai aZ cn gr jm=>exact .ms cap (by rw[U];exact aa) ai (by rw[γ];exact aZ) cn gr jm
   | jZ v aa ai=>exact .jZ v (by rw[U];exact aa) ai
 | mp id=>
  have cb:=EM (ρ:=ρ) Υ
  have U:=Θ.row _ _ cb
  have γ:=Θ.blk _ _ cb;constructor
  ·intro h;cases h with
   | mp aa ai=>exact .mp (by rw[<-U];exact aa) (by rw[<-γ];exact ai)
   | mF v aa=>exact .mF v (by rw[<-U];exact aa)
  ·intro h;cases h with
   | mp aa ai=>exact .mp (by rw[U];exact aa) (by rw[γ];exact ai)
   | mF v aa=>exact .mF v (by rw[U];exact aa)
 | it id=>
  have cb:=EM (ρ:=ρ) Υ
  have U:=Θ.row _ _ cb
  have γ:=Θ.blk _ _ cb;constructor
  ·intro h;cases h with
   | it aa ai=>exact .it (by rw[<-U];exact aa) (by rw[<-γ];exact ai)
   | oe v aa=>exact .oe v (by rw[<-U];exact aa)
  ·intro h;cases h with
   | it aa ai=>exact .it (by rw[U];exact aa) (by rw[γ];exact ai)
   | oe v aa=>exact .oe v (by rw[U];exact aa)
 | _=>exact⟨λh=>h.any Υ _ _,λh=>h.any Υ _ _⟩
theorem EN {f:θ->θ} {l:am} {i:Nat} {a:θ} (h:(l.map f)[i]?=some a):∃b,l[i]?=some b/\a=f b:=by
 rw[List.getElem?_map] at h;cases δ:l[i]? with
 | none=>rw[δ] at h;cases h
 | some b=>rw[δ] at h;cases h;exact⟨b,rfl,rfl⟩
theorem IL (Θ:Names ρ eV σ0 b1 k8) {a:θ} {v:Value} (Υ:fD ρ.length a):aA S b1 k8 (eg ρ a) v↔aA S eV σ0 a v:=by
 cases a with
 | fn f dr cs=>
  constructor
  ·intro h;cases h with
   | fn vs ws aa ai aZ cn=>
    refine .fn vs ws (by simpa using aa) (by simpa using ai) (λi a v hi hv=>?_) (λi a v hi hv=>?_)
    ·exact(l8 Θ (Υ.1 a (cy hi))).1 (aZ i _ v (by rw[List.getElem?_map,hi];rfl) hv)
    ·exact(l8 Θ (Υ.2 a (cy hi))).1 (cn i _ v (by rw[List.getElem?_map,hi];rfl) hv)
  ·intro h;cases h with
   | fn vs ws aa ai aZ cn=>
    refine .fn vs ws (by simpa using aa) (by simpa using ai) (λi a v hi hv=>?_) (λi a v hi hv=>?_)
    ·obtain⟨b,hb,rfl⟩:=EN hi;exact(l8 Θ (Υ.1 b (cy hb))).2 (aZ i b v hb hv)
    ·obtain⟨b,hb,rfl⟩:=EN hi;exact(l8 Θ (Υ.2 b (cy hb))).2 (cn i b v hb hv)
 | a3 l=>
  constructor
  ·intro h;cases h with
   | a3 vs aa ai=>exact .a3 vs (by simpa using aa) λi a v hi hv=>(l8 Θ (Υ a (cy hi))).1 (ai i _ v (by rw[List.getElem?_map,hi];rfl) hv)
  ·intro h;cases h with
   | a3 vs aa ai=>
    refine .a3 vs (by simpa using aa) λi a v hi hv=>?_;obtain⟨b,hb,rfl⟩:=EN hi;exact(l8 Θ (Υ b (cy hb))).2 (ai i b v hb hv)
 | bj l=>
  constructor
  ·intro h;cases h with
   | bj vs aa ai=>exact .bj vs (by simpa using aa) λi a v hi hv=>(l8 Θ (Υ a (cy hi))).1 (ai i _ v (by rw[List.getElem?_map,hi];rfl) hv)
  ·intro h;cases h with
   | bj vs aa ai=>
    refine .bj vs (by simpa using aa) λi a v hi hv=>?_;obtain⟨b,hb,rfl⟩:=EN hi;exact(l8 Θ (Υ b (cy hb))).2 (ai i b v hb hv)
 | z u=>exact l8 (a:=.z u) Θ Υ
 | au l=>exact l8 (a:=.au l) Θ Υ
 | sl ex k l=>exact l8 (a:=.sl ex k l) Θ Υ
 | ak id n i j=>exact l8 (a:=.ak id n i j) Θ Υ
 | ms id n i len=>exact l8 (a:=.ms id n i len) Θ Υ
 | gp t a=>exact l8 (a:=.gp t a) Θ Υ
 | mp id=>exact l8 (a:=.mp id) Θ Υ
 | it id=>exact l8 (a:=.it id) Θ Υ
 | cz=>exact l8 (a:=.cz) Θ Υ
end
section
variable {P:Program} {S aJ:aO} {B:a0} {H H':Γ} {σ:ac}
def iY (r:Row):Prop:=match r with|.cells _ _ l=>∀e∈l,∀a∈e.cells,aG 0 a|_=>False
def A9 (r:Row):Prop:=iY r\/r=.dead
theorem kC.plain {B':a0} {σ':ac} {r:Row} {bo:Option (Nat×Nat)} (ω:iY r) (h:kC S B σ H r bo) (e3:a0) (gf:ac):kC S e3 gf H r bo:=by
 cases r with
 | cells t k l=>
  cases bo with
  | none=>exact h
  | some x=>
   obtain⟨b,N⟩:=x;obtain⟨U,γ,ο,w,Ι⟩:=h;refine⟨U,γ,ο,w,λi e hi=>⟨(Ι i e hi).1,λj a ζ=>?_⟩⟩;obtain⟨c1,c2,c3⟩:=(Ι i e hi).2 j a ζ;exact⟨c1,c2.any (ω e (cy hi) a (cy ζ)) _ _,c3⟩
 | _=>exact ω.elim
theorem kC.XG {B':a0} {σ':ac} {r:Row} {bo:Option (Nat×Nat)} (ω:A9 r) (h:kC S B σ H r bo) (e3:a0) (gf:ac):kC S e3 gf H r bo:=by
 rcases ω with ω|rfl
 ·exact kC.plain (B':=B') (σ':=σ') ω h e3 gf
 ·trivial
theorem Holds.Oi (Δ:Holds S B σ H) {ρ:List Nat} {jM:ac} (lF:ρ.Nodup) (hlen:ρ.length=jM.length) (bd:∀(j i:Nat),ρ[j]?=some i->σ[i]?=jM[j]?) (ib:∀r∈jM,iY r)
  {eV:a0} {σ0:ac} (he:Ext S (ρ.map λi=>B.getD i none) H aJ eV H') (π:b8 S aJ (ρ.map λi=>B.getD i none) eV jM σ0) (ao:Holds aJ eV σ0 H') (XH:∀r∈σ0,A9 r) :
  let k8:=jL σ ρ σ0++σ0.drop ρ.length
  let b1:=jL B ρ eV++eV.drop ρ.length
  Holds aJ b1 k8 H'/\Ext S B H aJ b1 H'/\b8 S aJ B b1 σ k8/\Names (ρ++(List.range (σ0.length-ρ.length)).map (σ.length + ·)) eV σ0 b1 k8:=by
 intro k8 b1;have aN:∀i∈ρ,i<σ.length:=λi hi=>by
  obtain⟨j,ζ⟩:=List.getElem?_of_mem hi;have iZ:j<jM.length:=by rw[<-hlen];exact(b0.1 ζ).1
  have:=bd j i ζ;rw[a6 iZ] at this;exact(b0.1 this).1
 have EO:∀i∈ρ,i<B.length:=λi hi=>by rw[Δ.len];exact aN i hi
 have hle:ρ.length<=σ0.length:=by rw[hlen];exact π.length
 have XI:eV.length=σ0.length:=ao.len
 have EP:∀(j i:Nat),ρ[j]?=some i->(ρ.map λi=>B.getD i none)[j]?=B[i]?:=λj i ζ=>by
  have hi:=EO i (cy ζ);rw[List.getElem?_map,ζ];simp[hi]
 have s1:∀(j i:Nat),ρ[j]?=some i->k8[i]?=σ0[j]?:=λj i ζ=>by
  have hi:=aN i (cy ζ)
  have iZ:j<σ0.length:=by have:=(b0.1 ζ).1;omega
  show(jL σ ρ σ0++_)[i]?=_;rw[dM (by rw[tD];exact hi),a6 iZ];exact Oh ρ σ σ0 lF aN j i _ ζ (a6 iZ)
 have bE:∀(j i:Nat),ρ[j]?=some i->b1[i]?=eV[j]?:=λj i ζ=>by
  have hi:=EO i (cy ζ)
  have iZ:j<eV.length:=by have:=(b0.1 ζ).1;omega
  show(jL B ρ eV++_)[i]?=_;rw[dM (by rw[tD];exact hi),a6 iZ];exact Oh ρ B eV lF EO j i _ ζ (a6 iZ)
 have s2:∀i,i<σ.length->i∉ρ->k8[i]?=σ[i]?:=λi hi Θ=>by
  show(jL σ ρ σ0++_)[i]?=_;rw[dM (by rw[tD];exact hi),IK ρ _ _ Θ]
 have c6:∀i,i<σ.length->i∉ρ->b1[i]?=B[i]?:=λi hi Θ=>by
  show(jL B ρ eV++_)[i]?=_;rw[dM (by rw[tD,Δ.len];exact hi),IK ρ _ _ Θ]
 have lu:∀x,k8[σ.length+x]?=σ0[ρ.length+x]?:=λx=>by
  show(jL σ ρ σ0++_)[_]?=_;rw[gA (by rw[tD];omega),tD,List.getElem?_drop];congr 1;omega
 have fX:∀x,b1[σ.length+x]?=eV[ρ.length+x]?:=λx=>by
  show(jL B ρ eV++_)[_]?=_;rw[gA (by rw[tD,Δ.len];omega),tD,Δ.len,List.getElem?_drop];congr 1;omega
 have A':∀(i:Nat) (r:Row),k8[i]?=some r->(i<σ.length/\i∉ρ/\σ[i]?=some r/\b1[i]?=B[i]?)\/∃j,σ0[j]?=some r/\b1[i]?=eV[j]?/\(∀e4 bP,(e4<σ.length->ρ[bP]?=some e4)->(¬e4<σ.length->bP=ρ.length+(e4-σ.length))->j=bP->i=e4)/\((i<σ.length->ρ[j]?=some i)/\(¬i<σ.length->j=ρ.length+(i-σ.length))):=λi r μ=>by
  by_cases hi:i<σ.length
  ·by_cases Θ:i∈ρ
   ·obtain⟨j,ζ⟩:=List.getElem?_of_mem Θ;refine .inr ⟨j,by rw[<-s1 j i ζ];exact μ,bE j i ζ,λe4 bP U γ e=>?_,λ_=>ζ,λh=>absurd hi h⟩;subst e;by_cases aH:e4<σ.length
    ·have:=U aH;rw[ζ] at this;cases this;rfl
    ·have:=γ aH;have:=(b0.1 ζ).1;omega
   ·exact .inl ⟨hi,Θ,by rw[<-s2 i hi Θ];exact μ,c6 i hi Θ⟩
  ·have e:i=σ.length+(i-σ.length):=J
   refine .inr ⟨ρ.length+(i-σ.length),by rw[<-lu,<-e];exact μ,by rw[<-fX,<-e],λe4 bP U γ aP=>?_,λh=>absurd h hi,λ_=>rfl⟩;by_cases aH:e4<σ.length
   ·have:=(b0.1 (U aH)).1;omega
   ·have:=γ aH;omega
 have Oj:b1.length=k8.length:=by
  show(jL B ρ eV++eV.drop ρ.length).length=(jL σ ρ σ0++σ0.drop ρ.length).length;simp[tD,Δ.len,XI]
 have ER:b8 S aJ B b1 σ k8:=⟨he.dy,λid r μ=>by
  have hi:=(b0.1 μ).1;by_cases Θ:id∈ρ
  ·obtain⟨j,ζ⟩:=List.getElem?_of_mem Θ;have fI:jM[j]?=some r:=by rw[<-bd j id ζ];exact μ
   obtain⟨r',aa,ai⟩:=π.rows j r fI;exact⟨r',by rw[s1 j id ζ];exact aa,by rw[bE j id ζ,<-EP j id ζ];exact ai⟩
  ·exact⟨r,by rw[s2 id hi Θ];exact μ,by rw[c6 id hi Θ];exact r.tc _⟩⟩
 have ES:∀b,a0.has (ρ.map λi=>B.getD i none) b->∃j i N,ρ[j]?=some i/\B[i]?=some (some (b,N)):=λb ⟨N,cK⟩=>by
  obtain⟨j,ζ⟩:=List.getElem?_of_mem cK;rw[List.getElem?_map] at ζ;cases δ:ρ[j]? with
  | none=>rw[δ] at ζ;cases ζ
  | some i=>
   rw[δ] at ζ;simp only[Option.map_some,Option.some.injEq] at ζ;have hi:=EO i (cy δ);rw[List.getD_eq_getElem?_getD,a6 hi] at ζ;exact⟨j,i,N,δ,by rw[a6 hi];simpa using ζ⟩
 have Ol:∀(j i:Nat),ρ[j]?=some i->∃r,σ[i]?=some r/\r.live/\iY r:=λj i ζ=>by
  have iZ:j<jM.length:=by rw[<-hlen];exact(b0.1 ζ).1
  have μ:=a6 iZ
  have ω:=ib _ (cy μ);refine⟨_,by rw[bd j i ζ];exact μ,?_,ω⟩;cases δ:jM[j]<;>rw[δ] at ω<;>first|trivial|exact ω.elim
 have ET:∀(id:Nat) (r:Row) (b N:Nat),id∉ρ->σ[id]?=some r->r.live->B[id]?=some (some (b,N))->¬a0.has (ρ.map λi=>B.getD i none) b/\¬H.fresh b/\lD H H' b:=λid r b N Θ μ fr hb=>by
  have c1:¬a0.has (ρ.map λi=>B.getD i none) b:=λa5=>by
   obtain⟨j,i,fp,U,γ⟩:=ES b a5;obtain⟨r',aa,ai,_⟩:=Ol j i U;exact Δ.inj id i r r' b N fp (λe=>Θ (e▸cy U)) μ aa fr ai hb γ
  have c2:=Δ.o1 μ fr hb;exact⟨c1,c2,(he.gl b c1 c2).th λo=>Δ.sep id r b N μ fr hb o⟩
 refine⟨⟨ao.dy,Oj,λi r bo μ eJ=>?_,λi j eF cp b gO gP fP hi ζ g5 ek g6 cT=>?_,λi r b N μ fr hb o=>?_⟩,⟨he.dy,λb hb Ρ=>?_,λb hb=>?_,λb o v hv=>?_,he.grow⟩,ER,⟨λj i ζ=>?_,λj i ζ=>?_⟩⟩
 ·rcases A' i r μ with⟨aa,ai,aZ,cn⟩|⟨j,aa,ai,_,_⟩
  ·by_cases fr:r.live
   ·rw[cn] at eJ;refine(Δ.row i r bo aZ eJ).later ER (λb N e=>(ET i r b N ai aZ fr (by rw[eJ,e])).2.2) λb9 left cur e=>?_;subst e;obtain⟨_,_,a4,lB,xs,clock,seen,_,Ζ,⟨es,Ε⟩,_⟩:=Δ.row i _ bo aZ eJ;have kY:b9∉ρ:=λhm=>by
     obtain⟨j,ζ⟩:=List.getElem?_of_mem hm;obtain⟨r',e2,_,hU⟩:=Ol j b9 ζ;rw[Ε] at e2;cases e2;exact hU
    have EU:=(b0.1 Ε).1;exact⟨s2 b9 EU kY,c6 b9 EU kY,λb N hb=>(ET b9 _ b N kY Ε trivial hb).2.2⟩
   ·cases r<;>first|exact absurd trivial fr|trivial
  ·rw[ai] at eJ;exact(ao.row j r bo aa eJ).XG (B':=b1) (σ':=k8) (XH r (cy aa)) _ _
 ·have As:∀(i:Nat) (eF:Row) (gO:Nat) (bP:Nat) (cp:Row) (gP:Nat),i∉ρ->σ[i]?=some eF->eF.live->B[i]?=some (some (b,gO))->σ0[bP]?=some cp->cp.live->eV[bP]?=some (some (b,gP))->False:=λi eF gO bP cp gP U γ ο Ι ax bf hx=>by
   obtain⟨c1,c2,_⟩:=ET i eF b gO U γ ο Ι;rcases he.blocks b (pQ hx) with h|h
   ·exact c1 h
   ·exact c2 h
  rcases A' i eF hi with⟨aa,ai,aZ,cn⟩|⟨i0,aa,ai,aZ,cn⟩<;>rcases A' j cp ζ with⟨k1,bT,k9,Ba⟩|⟨IM,k1,bT,k9,Ba⟩
  ·rw[cn] at g6;rw[Ba] at cT;exact Δ.inj i j eF cp b gO gP fP aZ k9 g5 ek g6 cT
  ·rw[cn] at g6;rw[bT] at cT;exact As i eF gO IM cp gP ai aZ g5 g6 k1 ek cT
  ·rw[ai] at g6;rw[Ba] at cT;exact As j cp gP i0 eF gO bT k9 ek cT aa g5 g6
  ·rw[ai] at g6;rw[bT] at cT;refine ao.inj i0 IM eF cp b gO gP (λe=>fP ?_) aa k1 g5 ek g6 cT;exact aZ j IM Ba.1 Ba.2 e
 ·rcases A' i r μ with⟨aa,ai,aZ,cn⟩|⟨j,aa,ai,_,_⟩
  ·rw[cn] at hb;obtain⟨c1,c2,_⟩:=ET i r b N ai aZ fr hb;cases hv:aJ b o with
   | none=>rfl
   | some v=>
    rcases he.r7 b o v hv with h|h|h
    ·rw[Δ.sep i r b N aZ fr hb o] at h;cases h
    ·exact absurd h c1
    ·exact absurd h c2
  ·rw[ai] at hb;exact ao.sep j r b N aa fr hb o
 ·refine he.gl b (λa5=>hb ?_) Ρ;obtain⟨j,i,fp,_,γ⟩:=ES b a5;exact pQ γ
 ·obtain⟨N,cK⟩:=hb;obtain⟨i,hi⟩:=List.getElem?_of_mem cK;have i':i<k8.length:=by rw[<-Oj];exact(b0.1 hi).1
  rcases A' i _ (a6 i') with⟨aa,ai,aZ,cn⟩|⟨j,aa,ai,_,_⟩
  ·rw[cn] at hi;exact .inl (pQ hi)
  ·rw[ai] at hi;rcases he.blocks b (pQ hi) with h|h
   ·obtain⟨j,e4,fp,_,γ⟩:=ES b h;exact .inl (pQ γ)
   ·exact .inr h
 ·rcases he.r7 b o v hv with h|h|h
  ·exact .inl h
  ·obtain⟨j,e4,fp,_,γ⟩:=ES b h;exact .inr (.inl (pQ γ))
  ·exact .inr (.inr h)
 ·by_cases iZ:j<ρ.length
  ·rw[dM iZ] at ζ;exact s1 j i ζ
  ·rw[gA J,List.getElem?_map] at ζ;have wM:j-ρ.length<σ0.length-ρ.length:=by
    apply Classical.byContradiction;intro Θ;rw[List.getElem?_eq_none (by simp;omega)] at ζ;cases ζ
   rw[a6 (by simpa using wM)] at ζ;simp at ζ;subst ζ;rw[lu];congr 1;omega
 ·by_cases iZ:j<ρ.length
  ·rw[dM iZ] at ζ;exact bE j i ζ
  ·rw[gA J,List.getElem?_map] at ζ;have wM:j-ρ.length<σ0.length-ρ.length:=by
    apply Classical.byContradiction;intro Θ;rw[List.getElem?_eq_none (by simp;omega)] at ζ;cases ζ
   rw[a6 (by simpa using wM)] at ζ;simp at ζ;subst ζ;rw[fX];congr 1;omega
def names (ρ:List Nat) (n:Nat) (σ0:ac):List Nat:=ρ++(List.range (σ0.length-ρ.length)).map (n + ·)
def tE (σ:ac) (ρ:List Nat) (σ0:ac):ac:=jL σ ρ σ0++σ0.drop ρ.length
theorem af.Om {g:FuncId} {as0:am} {jM:ac} {K:θ->ac->Prop} {E:θ->ac->Prop} (h:af P g as0 jM K E) (ρ:List Nat) (lF:ρ.Nodup) (hlen:ρ.length=jM.length) (bd:∀(j i:Nat),ρ[j]?=some i->σ[i]?=jM[j]?) (ib:∀r∈jM,iY r)
  (has:∀a∈as0,fD ρ.length a) {K':θ->ac->Prop} {E':θ->ac->Prop} (κ:∀a s,K a s->(∀r∈s,A9 r)/\fD s.length a/\K' (eg (names ρ σ.length s) a) (tE σ ρ s))
  (dF:∀a s,E a s->(∀r∈s,A9 r)/\fD s.length a/\E' (eg (names ρ σ.length s) a) (tE σ ρ s)):af P g (as0.map (eg ρ)) σ K' E':=by
 refine⟨h.1,λQ mn x c rest S B H vs δ Δ hv mO=>?_⟩;have aN:∀(j i:Nat),ρ[j]?=some i->i<σ.length:=λj i ζ=>by
  have iZ:j<jM.length:=by rw[<-hlen];exact(b0.1 ζ).1
  have:=bd j i ζ;rw[a6 iZ] at this;exact(b0.1 this).1
 have EP:∀(j i:Nat),ρ[j]?=some i->(ρ.map λi=>B.getD i none)[j]?=B[i]?:=λj i ζ=>by
  have hi:i<B.length:=by rw[Δ.len];exact aN j i ζ
  rw[List.getElem?_map,ζ];simp[hi]
 have l5:Names ρ (ρ.map λi=>B.getD i none) jM B σ:=⟨bd,λj i ζ=>(EP j i ζ).symm⟩
 have pick:∀(j:Nat) (r:Row) (bo:Option (Nat×Nat)),jM[j]?=some r->(ρ.map λi=>B.getD i none)[j]?=some bo->∃i,ρ[j]?=some i/\σ[i]?=some r/\B[i]?=some bo:=λj r bo μ eJ=>by
  have iZ:j<ρ.length:=by rw[hlen];exact(b0.1 μ).1
  have ζ:=a6 iZ;exact⟨_,ζ,by rw[bd j _ ζ];exact μ,by rw[<-EP j _ ζ];exact eJ⟩
 have XJ:Holds S (ρ.map λi=>B.getD i none) jM H:=by
  refine⟨Δ.dy,by simp[hlen],λj r bo μ eJ=>?_,λi j eF cp b gO gP fP hi ζ g5 ek g6 cT=>?_,λj r b N μ fr hb o=>?_⟩
  ·obtain⟨i,U,γ,ο⟩:=pick j r bo μ eJ;exact(Δ.row i r bo γ ο).plain (B':=B) (σ':=σ) (ib r (cy μ)) _ _
  ·obtain⟨e4,U,γ,ο⟩:=pick i eF _ hi g6;obtain⟨bP,aa,ai,aZ⟩:=pick j cp _ ζ cT;refine Δ.inj e4 bP eF cp b gO gP (λe=>fP ?_) γ ai g5 ek ο aZ;subst e;have hA:=(b0.1 U).1;exact(List.getElem?_inj hA lF).1 (U.trans aa.symm)
  ·obtain⟨i,U,γ,ο⟩:=pick j r _ μ hb;exact Δ.sep i r b N γ fr ο o
 refine h.2 Q mn x c rest S _ H vs δ XJ ⟨by have:=hv.1;simpa using this,λi a v U γ=>(IL l5 (has a (cy U))).1 (hv.2 i _ v (by rw[List.getElem?_map,U];rfl) γ)⟩ ⟨λa σ' aJ B' H' v ψ he π jo μ=>?_,λa σ' aJ B' H' v ψ he π jo μ=>?_⟩
 ·obtain⟨e2,dq,hU⟩:=κ a σ' ψ;obtain⟨dz,p2,p3,p4⟩:=Δ.Oi lF hlen bd ib he π jo e2;refine mO.ret _ _ aJ _ H' v hU p2 p3 dz ((IL p4 ?_).2 μ);have:(ρ++(List.range (σ'.length-ρ.length)).map (σ.length + ·)).length=σ'.length:=by
   have:=π.length;simp;omega
  rw[this];exact dq
 ·obtain⟨e2,dq,hU⟩:=dF a σ' ψ;obtain⟨dz,p2,p3,p4⟩:=Δ.Oi lF hlen bd ib he π jo e2;refine mO.yI _ _ aJ _ H' v hU p2 p3 dz ((IL p4 ?_).2 μ);have:(ρ++(List.range (σ'.length-ρ.length)).map (σ.length + ·)).length=σ'.length:=by
   have:=π.length;simp;omega
  rw[this];exact dq
theorem af.rows {g:FuncId} {as0:am} {jM:ac} {K:θ->ac->Prop} {E:θ->ac->Prop} (h:af P g as0 jM K E) (ρ:List Nat) (lF:ρ.Nodup) (hlen:ρ.length=jM.length) (bd:∀(j i:Nat),ρ[j]?=some i->σ[i]?=jM[j]?) (ib:∀r∈jM,iY r)
  (has:∀a∈as0,fD ρ.length a) {K':θ->ac->Prop} {E':θ->ac->Prop} (κ:∀a s,K a s->(∀r∈s,iY r)/\fD s.length a/\K' (eg (names ρ σ.length s) a) (tE σ ρ s))
  (dF:∀a s,E a s->(∀r∈s,iY r)/\fD s.length a/\E' (eg (names ρ σ.length s) a) (tE σ ρ s)):af P g (as0.map (eg ρ)) σ K' E':=
 h.Om ρ lF hlen bd ib has (λa s x=>let ⟨p,q⟩:=κ a s x;⟨λr μ=>.inl (p r μ),q⟩) (λa s x=>let ⟨p,q⟩:=dF a s x;⟨λr μ=>.inl (p r μ),q⟩)
end
def dD (a b:θ):Prop:=∀(S:aO) (B:a0) (σ:ac) (v:Value),aA S B σ a v->aA S B σ b v
def b2 (l m:am):Prop:=l.length=m.length/\∀(i:Nat) (a b:θ),l[i]?=some a->m[i]?=some b->dD a b
theorem dD.refl (a:θ):dD a a:=λ_ _ _ _ h=>h
theorem dD.of {a b:θ} (h:a=b):dD a b:=h▸.refl a
theorem dD.trans {a b c:θ} (h:dD a b) (k:dD b c):dD a c:=λS B σ v x=>k S B σ v (h S B σ v x)
theorem b2.refl (l:am):b2 l l:=⟨rfl,λi a b h k=>by rw[h] at k;cases k;exact .refl a⟩
theorem b2.nil:b2 [] []:=.refl []
theorem b2.cons {a b:θ} {l m:am} (h:dD a b) (k:b2 l m):b2 (a::l) (b::m):=⟨by simp[k.1],λi x y δ Μ=>by
 cases i with
 | zero=>simp at δ Μ;subst δ;subst Μ;exact h
 | succ i=>exact k.2 i x y (by simpa using δ) (by simpa using Μ)⟩
theorem dD.a3 {l m:am} (h:b2 l m):dD (.a3 l) (.a3 m):=λS B σ v x=>by
 cases x with
 | a3 vs U γ=>
  refine .a3 vs (h.1.symm.trans U) λi b v hi hv=>?_;have aN:i<l.length:=by rw[h.1];exact(b0.1 hi).1
  have ν:=a6 aN;exact h.2 i _ b ν hi S B σ v (γ i _ v ν hv)
theorem dD.bj {l m:am} (h:b2 l m):dD (.bj l) (.bj m):=λS B σ v x=>by
 cases x with
 | bj vs U γ=>
  refine .bj vs (h.1.symm.trans U) λi b v hi hv=>?_;have aN:i<l.length:=by rw[h.1];exact(b0.1 hi).1
  have ν:=a6 aN;exact h.2 i _ b ν hi S B σ v (γ i _ v ν hv)
theorem dD.sl {e:Bool} {k:Nat} {l m:am} (hlen:l.length=m.length) (h:∀(i:Nat) (a b:θ),l[i]?=some a->m[i]?=some b->b2 a.cells b.cells):dD (.sl e k l) (.sl false k m):=λS B σ v x=>by
 have up:∀(i:Nat) (b:θ),m[i]?=some b->∃a,l[i]?=some a/\b2 a.cells b.cells:=λi b hi=>by
  have aN:i<l.length:=by rw[hlen];exact(b0.1 hi).1
  exact⟨_,a6 aN,h i _ b (a6 aN) hi⟩
 cases x with
 | iT base cap ε=>
  have:m=[]:=dO.1 hlen.symm;subst this;exact .iT base cap λx=>by cases x
 | sl b o cap w U γ ο Ι ax=>
  rw[hlen];refine .sl b o cap w (λx=>by cases x) J (λi y hi=>?_) (λi y hi j c ζ=>?_) (λi y hi j c ζ=>?_)
  ·obtain⟨a,ν,e'⟩:=up i y hi;rw[<-e'.1];exact ο i a ν
  ·obtain⟨a,ν,e'⟩:=up i y hi;have aN:j<a.cells.length:=by rw[e'.1];exact(b0.1 ζ).1
   exact Ι i a ν j _ (a6 aN)
  ·obtain⟨a,ν,e'⟩:=up i y hi;have aN:j<a.cells.length:=by rw[e'.1];exact(b0.1 ζ).1
   have ε:=a6 aN;exact e'.2 j _ c ε ζ S B σ _ (ax i a ν j _ ε)
theorem dD.ex {e:Bool} {k:Nat} {l:am}:dD (.sl e k l) (.sl false k l):=.sl rfl λi a b U γ=>by rw[U] at γ;cases γ;exact .refl _
theorem dD.nil {e:Bool} {k al:Nat}:dD (.sl e k []) (.sl false al []):=λS B σ v x=>by
 have g:∀(l:am),l=[]->aA S B σ (.sl e k l) v->aA S B σ (.sl false al []) v:=λl π x=>by
  cases x with
  | iT base cap ε=>exact .iT base cap λx=>by cases x
  | sl b o cap w U γ ο Ι ax=>subst π;exact .iT _ cap λx=>by cases x
 exact g [] rfl x
theorem dD.map {α:Type} {f g:α->θ} {e:Bool} {k:Nat} {l:List α} (h:∀x∈l,b2 (f x).cells (g x).cells):dD (.sl e k (l.map f)) (.sl false k (l.map g)):=.sl η λi a b U γ=>by
 rw[List.getElem?_map] at U γ;cases δ:l[i]? with
 | none=>rw[δ] at U;cases U
 | some x=>rw[δ] at U γ;cases U;cases γ;exact h x (cy δ)
theorem b2.one {a b:θ} (h:dD a b) (ν:a.cells=[a]) (hb:b.cells=[b]):b2 a.cells b.cells:=by rw[ν,hb];exact .cons h .nil
section
variable {P:Program} {σ:ac}
theorem gg.yE {S:aO} {B:a0} {l m:am} {vs:Array Value} (h:b2 l m) (k:gg S B σ l vs):gg S B σ m vs:=⟨h.1.symm.trans k.1,λi b v hi hv=>by
 have aN:i<l.length:=by rw[h.1];exact(b0.1 hi).1
 have ν:=a6 aN;exact h.2 i _ b ν hi S B σ v (k.2 i _ v ν hv)⟩
theorem af.nG {g:FuncId} {args gV:am} {K K' E:θ->ac->Prop} (h:af P g args σ K E) (ν:b2 gV args) (κ:∀a s,K a s->∃b,dD a b/\K' b s):af P g gV σ K' E:=
 ⟨h.1,λQ mn x c rest S B H vs δ Δ hv hb=>h.2 Q mn x c rest S B H vs δ Δ (hv.yE ν) ⟨λa σ' aJ B' H' v ψ he π jo μ=>by
  obtain⟨b,U,γ⟩:=κ a σ' ψ;exact hb.ret b σ' aJ B' H' v γ he π jo (U aJ B' σ' v μ),hb.yI⟩⟩
def aB (P:Program) (g:FuncId) (args:am) (r:θ):Prop:=af P g args [] (λa s=>dD a r/\s=[]) (λ_ _=>False)
theorem aB.ct {g:FuncId} {args gV:am} {r:θ} (h:aB P g args r) (ν:b2 gV args):AT P g gV r:=af.nG h ν λa s ⟨U,γ⟩=>⟨r,U,rfl,γ⟩
theorem aB.c {g:FuncId} {args gV:am} {r:θ} {K E:θ->ac->Prop} (h:aB P g args r) (ν:b2 gV args) (hb:∀a∈gV,aG 0 a) (μ:aG 0 r) (κ:K r σ):hV P (.fn (.func g) [] []) gV σ K E:=
 AT.call (first:=[]) (captured:=[]) (by simpa using h.ct ν) (by simpa using hb) μ κ
theorem aB.p {g:FuncId} {args gV:am} {r:θ} (h:aB P g args r) (ν:b2 gV args) (hb:∀a∈gV,aG 0 a) (μ:aG 0 r):ef P (.fn (.func g) [] []) gV r:=λ_=>h.c ν hb μ ⟨rfl,rfl⟩
theorem aB.d {g:FuncId} {args:am} {r:θ} {K E:θ->ac->Prop} (h:aB P g args r) (κ:K r σ) (hb:∀a∈args,aG 0 a:=by simp) (μ:aG 0 r:=by simp):hV P (.fn (.func g) [] []) args σ K E:=h.c (b2.refl _) hb μ κ
theorem aB.q {g:FuncId} {args:am} {r:θ} (h:aB P g args r) (hb:∀a∈args,aG 0 a:=by simp) (μ:aG 0 r:=by simp):ef P (.fn (.func g) [] []) args r:=h.p (b2.refl _) hb μ
theorem aB.cc {g:FuncId} {args gV first captured:am} {r:θ} {K E:θ->ac->Prop} (h:aB P g args r) (ν:b2 (first++gV++captured) args) (hb:∀a∈first++gV++captured,aG 0 a) (μ:aG 0 r) (κ:K r σ):hV P (.fn (.func g) first captured) gV σ K E:=
 AT.call (h.ct ν) hb μ κ
end
theorem eK.own {h id n k:Nat} {σ:ac} {t:TypeId} {l:am} (cb:h<=id) (bX:σ[id]?=some (.cells t k l)) (Θ:l.length=n) (hb:∀e∈l,∀a∈e.cells,aG h a):eK h σ (.ms id n 0 n) (.sl false k l):=by
 refine .ms cb bX Θ J Θ (λj e aP U γ=>?_) (λj e aP U γ x a cj ο Ι=>?_)
 ·rw[Nat.zero_add] at U;rw[U] at γ;cases γ;rfl
 ·rw[Nat.zero_add] at U;rw[U] at γ;cases γ;rw[ο] at Ι;cases Ι;exact .low (hb e (cy U) a (cy ο))
def fill {α:Type} (f:α->θ) (z:θ) (l:List α) (i:Nat):am:=(l.take i).map f++List.replicate (l.length-i) z
theorem On {α:Type} (f:α->θ) (z:θ) (l:List α):fill f z l 0=List.replicate l.length z:=by simp[fill]
theorem Oo {α:Type} (f:α->θ) (z:θ) (l:List α) {i:Nat} (h:l.length<=i):fill f z l i=l.map f:=by simp[fill,List.take_of_length_le h,Nat.sub_eq_zero_of_le h]
theorem Oq {α:Type} (f:α->θ) (z:θ) (l:List α) {i:Nat} (h:i<=l.length):(fill f z l i).length=l.length:=by simp[fill];omega
theorem XK {α:Type} (f:α->θ) (z:θ) (l:List α) {i:Nat} (h:i<l.length):(fill f z l i)[i]?=some z:=by
 unfold fill;rw[gA (by simp;omega),List.getElem?_replicate];rw[if_pos (by simp;omega)]
theorem Ot {α:Type} (f:α->θ) (z:θ) (l:List α) {i:Nat} (h:i<l.length):(fill f z l i).set i (f l[i])=fill f z l (i+1):=by
 unfold fill;have Ζ:l.length-i=(l.length-(i+1))+1:=J;have Ε:((l.take i).map f).length=i:=by simp;omega
 rw[Ζ,List.replicate_succ,List.set_append_right _ _ J,Ε,Nat.sub_self,List.set_cons_zero,List.take_succ_eq_append_getElem h,List.map_append,List.append_assoc];rfl
end Go.TL
namespace Go.TL
open Go.Proofs
variable [bq]
def IN (P:Program) (t:TypeId):Option (List (TypeDesc×Nat)):=
 if P.eqGuardType P.depth t=false then match P.underlying t with
  | some (.struct dr)=>if P.stoodInHeld t=false/\dr.toList.map (·.offset)=List.range dr.toList.length/\(dr.toList.all λf=>f.name != "_" && match P.underlying f.type with|some d=>jG d|none=>false)=true then some (dr.toList.map λf=>((P.underlying f.type).getD .invalid,f.offset)) else none
  | some (.array n e)=>match P.underlying e,P.info? e with
   | some d,some f=>if jG d=true/\f.size=1 then some ((List.range n).map λi=>(d,i)) else none
   | _,_=>none
  | _=>none
 else none
theorem XL (P:Program) (t:TypeId):HQ P t (IN P t):=by
 unfold IN;split
 ·rename_i Ω;split
  ·rename_i dr hu;split
   ·rename_i ε;refine⟨Ω,by rw[List.map_map,List.length_map];exact ε.2.1,.inl ⟨dr,hu,ε.1,rfl,λf Ρ=>?_⟩⟩;have:=List.all_eq_true.1 ε.2.2 f Ρ;simp only[Bool.and_eq_true,bne_iff_ne,ne_eq] at this;refine⟨this.1,?_⟩;cases hd:P.underlying f.type with
    | none=>rw[hd] at this;simp at this
    | some d=>rw[hd] at this;exact⟨d,rfl,this.2⟩
   ·trivial
  ·rename_i n e hu;split
   ·rename_i d f hd Ρ;split
    ·rename_i ε;exact⟨Ω,by rw[List.map_map,List.length_map,List.length_range];exact(List.map_congr_left λ_ _=>rfl).trans (List.map_id _),.inr ⟨n,e,d,f,hu,hd,ε.1,Ρ,ε.2,rfl⟩⟩
    ·trivial
   ·trivial
  ·trivial
 ·trivial
def bk.of (P:Program):bk:=λt=>match P.underlying t,P.info? t with
 | some d,some i=>match i.zero with|some z=>some ⟨i.size,d,z,i.bytes,IN P t⟩|none=>none
 | _,_=>none
theorem bk.EV (P:Program):bU P (bk.of P):=λt i h=>by
 unfold bk.of at h;split at h
 ·rename_i d f hd Ρ;split at h
  ·rename_i z Ψ;cases h;exact⟨⟨hd,XL P t⟩,f,Ρ,rfl,Ψ,rfl⟩
  ·cases h
 ·cases h
noncomputable def bm:bk:=bk.of Tryz.prog
theorem Φ:bU Tryz.prog bm:=bk.EV _
def xc (pl:List (Nat×Nat)) (zero:Value) (bl:θ->Bool) (parts:List (Nat×θ)):cB:=
 match sc (λx=>(pl[x]?).map λp=>(0,p.1,p.2)) (ia zero).cells.length bl [ia zero] parts with
 | some [e]=>.ok (.a3 e.cells)
 | _=>.bad
def Bb (es:Nat) (zero:Value) (bl:θ->Bool) (parts:List (Nat×θ)):cB:=
 match sc (λx=>some (0,x*es,es)) (ia zero).cells.length bl [ia zero] parts with
 | some [e]=>.ok (.a3 e.cells)
 | _=>.bad
theorem mixed:Tryz.prog.follows .mixedOrders=true:=by kernel_rfl
section
variable {P:Program} {m nt:Nat} {k:List Item} {env:ab} {σ:ac} {Z:be} {E:aq}
theorem W.iter {ι:Type} {c:Code} (Inv:ι->Prop) (Bc:ι->ab) (EW:ι->ac) (IP:ι->Nat) (i0:ι) (ao:Inv i0) (mT:σ=EW i0) (cO:∀p∈Bc i0,a' env p.1=p.2)
  (step:∀i,Inv i->(∀e4,Inv e4->IP e4<IP i->W P m nt (.inLoop c::k) (Bc e4) (EW e4) Z E)->W P m nt (.code c::.inLoop c::k) (Bc i) (EW i) Z E):W P m nt (.code (.loop c)::k) env σ Z E:=by
 refine .loop (.forget (Bc i0) cO ?_);rw[mT];have key:∀(n:Nat) (i:ι),IP i<n->Inv i->W P m nt (.code c::.inLoop c::k) (Bc i) (EW i) Z E:=by
  intro n
  induction n with
  | zero=>intro i h;omega
  | succ n Α=>intro i hi dW;exact step i dW λe4 XM aN=>.inLoop (Α e4 J XM)
 exact key _ i0 (Nat.lt_succ_self _) ao
end
section
variable {P:Program} {m nt:Nat} {k:List Item} {env:ab} {σ:ac} {Z:be} {E:aq}
theorem W.ey {c:Operand} {a e:Code} {v:Bool} (ε:aT env c=.z (.bool v)) (U:v=true->W P m nt (.code a::k) env σ Z E) (γ:v=false->W P m nt (.code e::k) env σ Z E):W P m nt (.code (.cond c a e)::k) env σ Z E:=by
 refine .cond ε ?_;cases v with
 | true=>exact U rfl
 | false=>exact γ rfl
theorem aC {c:Operand} {a e:Code} (ε:aT env c=.z (.bool true)) (h:W P m nt (.code a::k) env σ Z E):W P m nt (.code (.cond c a e)::k) env σ Z E:=.cond ε h
theorem ay {c:Operand} {a e:Code} (ε:aT env c=.z (.bool false)) (h:W P m nt (.code e::k) env σ Z E):W P m nt (.code (.cond c a e)::k) env σ Z E:=.cond ε h
theorem af.body {F:θ->ac->Prop} {T:bk} (Ν:bU P T) {g:FuncId} {fn:Func} {ta:Code} (bR:P.funcs[g]?=some fn) (oq:fn.body=some ta) (wP:(fn.name == "runtime.NumGoroutine")=false) {args:am} {K:θ->ac->Prop} {rs:List ResultVar} (XN:fn.ntmps=nt) (hm:σ.length=m) (kX:fn.results.toList=rs) (hlen:args.length<=nt)
  (h:W P m nt [.code ta] (entry 0 args) σ (Ends T rs K) (λa _ s=>F a s)):af P g args σ K F:=by
 subst XN;subst hm;subst kX;exact .Xc Ν bR oq wP hlen h
end
abbrev I (i:Int):θ:=.z (.int .i64 i)
abbrev ba (b:Bool):θ:=.z (.bool b)
abbrev bD {α:Type} (enc:α->θ) (k:Nat) (l:List α):θ:=.sl false k (l.map enc)
abbrev ou (b:ByteArray):θ:=.z (.string b)
@[simp] theorem kπ (x y:Int):(x==y)=decide (x=y):=by rw[Bool.eq_iff_iff];simp
@[simp] theorem kρ (a b:Nat):((a:Int)=(b:Int))↔a=b:=J
attribute [simp] Xd Xe N7 Xf Xg g7 Xh kG
attribute [congr] W4 W7 W8 or_congr Xq Xr
attribute [simp] idx W2 W3 W5 W6 pY N3 Xs Xy Xz Xt Xu Xv Xw Xx w5 jK iD cB.or cB.dC c5.holds ft hD b7 a' aT ia Au entry qY tq yH En tk yp yz yv DO yw DR DQ xc sc θ.tl θ.bl θ.mK Bb sa iU.agg DD o2 DG o3 DI o4
 D9 D' D7 D8 qT Dz DC Ea DK tm D5 qR AB AD DU tr Es u7 AQ AR Eo Er Ep wX Eu Et wW aeqv kF nB wS iC o7 o9 Ik Ee AK Eg Eh Ek Em El AE DW DV θ.cells qZ tu EB Ends tt yJ
@[simp] theorem kς {k:IntKind}:mG (.int k)=false:=rfl
@[simp] theorem kτ:mG .bool=false:=rfl
@[simp] theorem kυ:mG .string=false:=rfl
@[simp] theorem kφ {e:TypeId}:mG (.slice e)=false:=rfl
@[simp] theorem kχ {a b:TypeId}:mG (.map a b)=false:=rfl
@[simp] theorem kψ {a:TypeId}:mG (.pointer a)=false:=rfl
@[simp] theorem kω {n:Nat} {a:TypeId}:mG (.array n a)=true:=rfl
theorem XO {P:Nat->Prop} (n:Nat) (h:n<256) (cF:∀m,m<256->P m):P n:=cF n h
section
variable {m nt l:Nat} {a c:Code} {k:List Item} {env:ab} {σ:ac} {Z:be} {E:aq}
class yQ [bq] (k:List Item) (al:outParam (List Item)):Prop where
 h:∀{P:Program} {m nt:Nat} {env:ab} {σ:ac} {Z:be} {E:aq},W P m nt al env σ Z E->W P m nt k env σ Z E
instance:yQ (.code (.seq a c)::k) (.code a::.code c::k):=⟨.seq⟩
instance:yQ (.code (.block l c)::k) (.code c::.inBlock l::k):=⟨.block⟩
instance:yQ (.inBlock l::k) k:=⟨.inBlock⟩
instance:yQ (.code .skip::k) k:=⟨.skip⟩
theorem ae {P:Program} {al:List Item} [yQ k al] (h:W P m nt al env σ Z E):W P m nt k env σ Z E:=yQ.h h
theorem gW {P:Program} (h:W P m nt (.code a::.code c::k) env σ Z E):W P m nt (.code (.seq a c)::k) env σ Z E:=.seq h
theorem wb {P:Program} (h:W P m nt (.code c::.inBlock l::k) env σ Z E):W P m nt (.code (.block l c)::k) env σ Z E:=.block h
theorem hY {P:Program} (h:W P m nt k env σ Z E):W P m nt (.inBlock l::k) env σ Z E:=.inBlock h
theorem wd {P:Program} (h:W P m nt k env σ Z E):W P m nt (.code .skip::k) env σ Z E:=.skip h
theorem dt {id:Nat} {ops:Array Oper} (h:∀Κ:ab->ac->Prop,(∀env σ,W Tryz.prog m nt k env σ Z E->Κ env σ)->run Tryz.prog bm [] nt ops (idx ops.size []) env σ Κ E):W Tryz.prog m nt (.code (.region id ops false)::k) env σ Z E:=dj Φ h
end
theorem W.rt {P:Program} {T:bk} {rs:List ResultVar} {K:θ->ac->Prop} {m nt:Nat} {k:List Item} {env:ab} {σ:ac} {E:aq} {a:θ} {p:Prop} {s:ac} (h:p) (e:qZ T rs env σ=some a:=by exact rfl) (ψ:K a σ=(p/\s=s):=by exact rfl):W P m nt (.code .ret::k) env σ (Ends T rs K) E:=.ret ⟨a,e,ψ▸⟨h,rfl⟩⟩
end Go.TL
namespace Go.TL
open Go.Proofs
theorem ς {a b:Prop} (x:a) (y:b):a/\b:=⟨x,y⟩
theorem da {p q:Prop} (k:q) (h:q->p:=by intro k;(repeat (first|apply ae|apply gW|apply wb|apply hY|apply wd));exact k):p:=h k
theorem Η {p q:Prop} (k:q) (h:q->p:=by intro k;(repeat (first|apply ae|apply gW|apply wb|apply hY|apply wd|(refine dt λΚ κ=>?_;simp;(repeat (rw[ah];simp));apply κ)));exact k):p:=h k
theorem aE {p f:Prop} {q:f->Prop} (a:f) (k:q a) (h:∀a,q a->p:=by intro a1 k;(repeat (first|apply ae|apply gW|apply wb|apply hY|apply wd|(refine dt λΚ κ=>?_;simp;(repeat (rw[ah];simp[a1]));apply κ)));exact k):p:=h a k
theorem ih {p q:Prop} (k:q) (h:q->p:=by intro k;(repeat (first|apply ae|apply gW|apply wb|apply hY|apply wd|refine aC rfl ?_|refine ay rfl ?_|(refine dt λΚ κ=>?_;simp;(repeat (rw[ah];simp));apply κ)));exact k):p:=h k
theorem ij {p f:Prop} {q:f->Prop} (a:f) (k:q a) (h:∀a,q a->p:=by intro a1 k;(repeat (first|apply ae|apply gW|apply wb|apply hY|apply wd|refine aC rfl ?_|refine ay rfl ?_|(refine dt λΚ κ=>?_;simp;(repeat (rw[ah];simp[a1]));apply κ)));exact k):p:=h a k
theorem l9 {p q:Prop} (k:q) (h:q->p:=by intro k;refine dt λΚ κ=>?_;simp;(repeat (rw[ah];simp));apply κ;exact k):p:=h k
theorem ov {p f:Prop} {q:f->Prop} (a:f) (k:q a) (h:∀a,q a->p:=by intro a1 k;refine dt λΚ κ=>?_;simp;(repeat (rw[ah];simp[a1]));apply κ;exact k):p:=h a k
theorem bc {p:Prop} {H:(ab->ac->Prop)->Prop} {q:∀K,H K->Prop} (k:∀K h,q K h) (h:(∀K h,q K h)->p:=by intro k;(repeat (first|apply ae|apply gW|apply wb|apply hY|apply wd));refine dt λΚ κ=>?_;simp;(repeat (rw[ah];simp));exact k Κ κ):p:=h k
theorem g9 {p f:Prop} {H:(ab->ac->Prop)->Prop} {q:f->∀K,H K->Prop} (a:f) (k:∀K h,q a K h) (h:∀a,(∀K h,q a K h)->p:=by intro a1 k;(repeat (first|apply ae|apply gW|apply wb|apply hY|apply wd));refine dt λΚ κ=>?_;simp;(repeat (rw[ah];simp[a1]));exact k Κ κ):p:=h a k
theorem bp {p q:Prop} (k:q) (h:q->p:=by intro k;simp;(repeat (rw[ah];simp));exact k):p:=h k
theorem gh {p f:Prop} {q:f->Prop} (a:f) (k:q a) (h:∀a,q a->p:=by intro a1 k;simp[a1];(repeat (rw[ah];simp[a1]));exact k):p:=h a k
theorem sm {p q:Prop} (k:q) (h:q->p:=by intro k;simp;(repeat (rw[cY];simp));(try rw[cX]);exact k):p:=h k
theorem gi {p f:Prop} {q:f->Prop} (a:f) (k:q a) (h:∀a,q a->p:=by intro a1 k;simp[a1];(repeat (rw[cY];simp[a1]));(try rw[cX]);exact k):p:=h a k
theorem en {a b:Prop} (k:b) (h:a:=by exact hX (by kernel_rfl)):a/\b:=⟨h,k⟩
theorem vf {p q:Prop} (k:q) (h:q->p:=by intro k;refine W.draw (A:=[]) Φ mixed λΚ κ=>?_;simp;(repeat (rw[cY];simp));(try rw[cX]);refine en (κ _ _ ?_);exact k):p:=h k
theorem dH {p f:Prop} {q:f->Prop} (a:f) (k:q a) (h:∀a,q a->p:=by intro a1 k;refine W.draw (A:=[]) Φ mixed λΚ κ=>?_;simp;(repeat (rw[cY];simp[a1]));(try rw[cX]);refine en (κ _ _ ?_);exact k):p:=h a k
end Go.TL
