import Derived.Test.YtlabjopijpkiaaaGreatQAI
set_option maxHeartbeats 16000000
set_option maxRecDepth 20000
set_option linter.unusedSectionVars false
set_option linter.unusedSimpArgs false
set_option linter.unusedVariables false
namespace Go.TL
open Go.Conc
def cB.or (r:cB) (σ:List Row) (s:c6):c6:=match r with
 | .ok a=>.ok a σ
 | .b5 p r=>.b5 p (r.du σ)
 | .bad=>s
def pQ (A:List Nat) (d:Option Tmp):Bool:=match d with|some d=>A.contains d|none=>false
def so (env:Ω) (cS:Array (Nat×Operand)):List (Nat×θ):=cS.toList.map λp=>(p.1,aO env p.2)
def xZ (c a b:θ):cB:=match c with
 | .z (.bool v)=>match a,b with
  | .z (.bool x),.z (.bool y)=>.ok (.z (.bool (bif v then x else y)))
  | _,_=>match v with|true=>.ok a|false=>.ok b
 | _=>.bad
def sr (T:bd) (σ:List Row) (src dst:TypeId) (x:θ):cB:=match xR T src dst x with
 | .bad=>match DC T src dst x with
  | .bad=>tR T src dst σ x
  | r=>r
 | r=>r
def mo (T:bd) (A:List Nat) (env:Ω) (o:Oper):cB:=
 match o.op with
 | .move x=>.ok (aO env x)
 | .assign x=>.ok (aO env x)
 | .pick c a b=>xZ (aO env c) (aO env a) (aO env b)
 | .alloc ty=>if pQ A o.dst then .bad else C1 T ty
 | .box _ x=>if pQ A o.dst then .bad else xO (aO env x)
 | .build ty cS=>m' T (θ.a8 []) ty (so env cS)
 | .buildSlice ty n cS=>if pQ A o.dst then .bad else zV T (θ.a8 []) ty n (so env cS)
 | .load ty x=>CP T ty (aO env x)
 | .binOp op ty x y _=>Dw T op ty (aO env x) (aO env y)
 | .unOp op _ x=>xJ op (aO env x)
 | .convert s d x=>sr T [] s d (aO env x)
 | .index ty x i=>Dx T ty (aO env x) (aO env i)
 | .nilCheck x=>Dy (aO env x)
 | .sliceToArrayPointer ty x=>Dz T ty (aO env x)
 | .makeInterface ty x=>CO T ty (aO env x)
 | .makeFunc f c9 cs=>.ok (.fn f (c9.toList.map (aO env)) (cs.toList.map (aO env)))
 | .makeSlice ty n c=>if pQ A o.dst then .bad else C6 T ty (aO env n) (aO env c)
 | .slice ty x lo hi none=>Dd T ty (aO env x) (lo.map (aO env)) (hi.map (aO env))
 | .fieldAddr ty x f=>CR T ty f (aO env x)
 | .indexAddr ty x i=>CU T ty (aO env x) (aO env i)
 | .typeAssert x _ ty ok=>vy T ty ok (aO env x)
 | .extract x i=>CN i (aO env x)
 | .call ⟨.builtin b,⟨[x]⟩,⟨[ty]⟩⟩=>match b with
  | .len=>Df T ty (aO env x)
  | _=>.bad
 | .call ⟨.builtin b,⟨[x,y]⟩,⟨[tS,ty]⟩⟩=>match b with
  | .max=>Dh [aO env x,aO env y]
  | .append=>if pQ A o.dst then .bad else si T tS ty (θ.a8 []) [] (aO env x) (aO env y)
  | _=>.bad
 | _=>.bad
def kp (T:bd) (A:List Nat) (env:Ω) (σ:List Row) (o:Oper):c6:=
 match o.op with
 | .alloc ty=>if pQ A o.dst then C0 T ty σ else .bad
 | .box ty x=>if pQ A o.dst then xP ty σ (aO env x) else CZ σ (aO env x)
 | .build ty cS=>(m' T (θ.a8 σ) ty (so env cS)).du σ
 | .buildSlice ty n cS=>if pQ A o.dst then C4 T ty n (so env cS) σ else(zV T (θ.a8 σ) ty n (so env cS)).du σ
 | .load ty x=>vz T ty σ (aO env x)
 | .store ty p x=>CW T ty σ (aO env p) (aO env x)
 | .convert s d x=>(sr T σ s d (aO env x)).du σ
 | .nilCheck x=>vN σ (aO env x)
 | .binOp .eql ty x (.const (.slice none 0 0)) _=>DF T ty σ (aO env x)
 | .makeMap _ none=>Ht σ
 | .mapUpdate ty m k x=>z3 T ty σ (aO env m) (aO env k) (aO env x)
 | .insert ty m k x=>z3 T ty σ (aO env m) (aO env k) (aO env x)
 | .lookup ty x k ok=>Dl T ty ok σ (aO env x) (aO env k)
 | .range ty x=>Dn T ty σ (aO env x)
 | .next it false=>Dp σ (aO env it)
 | .entry it=>Ds σ (aO env it)
 | .makeSlice ty n c=>if pQ A o.dst then C5 T ty (aO env n) (aO env c) σ else .bad
 | .slice ty x lo hi none=>De T ty σ (aO env x) (lo.map (aO env)) (hi.map (aO env))
 | .fieldAddr ty x f=>vA T ty f σ (aO env x)
 | .indexAddr ty x i=>vB T ty σ (aO env x) (aO env i)
 | .call ⟨.builtin b,⟨[x]⟩,⟨[ty]⟩⟩=>match b with
  | .len=>Dg T ty σ (aO env x)
  | .clear=>Dv T ty σ (aO env x)
  | _=>.bad
 | .call ⟨.builtin b,⟨[x,y]⟩,⟨[tS,ty]⟩⟩=>match b with
  | .append=>if pQ A o.dst then Db T tS ty σ (aO env x) (aO env y) else(si T tS ty (θ.a8 σ) σ (aO env x) (aO env y)).du σ
  | _=>.bad
 | _=>.bad
section
variable {P:Program} {T:bd} {A:List Nat} {S:aC} {B:aP} {H:ψ} {σ:List Row} {env:Ω} {t:Array Value}
theorem cB.Vm {s:Sem Next} {r:cB} {a:c6} (J:Does P s S B H σ (r.du σ)) (γ:Does P s S B H σ a):Does P s S B H σ (r.or σ a):=by
 cases r with
 | ok x=>exact J
 | b5 p r=>exact J
 | bad=>exact γ
theorem Vn (Β:Holds S B σ H) {c a b:θ} {u v w:Value} (ζ:ar S B σ c u) (ν:ar S B σ a v) (hb:ar S B σ b w):cJ P (do pure (if <-asBool u then v else w)) S B H σ ((xZ c a b).du σ):=by
 unfold xZ;split
 ·rename_i x;cases ζ;split
  ·rename_i p q;cases ν;cases hb;intro K I;refine υ.bind' (υ.pure' (υ.pure' ?_));cases x
   ·exact .same Β I (.z _)
   ·exact .same Β I (.z _)
  ·cases x
   ·exact λK I=>υ.bind' (υ.pure' (υ.pure' (.same Β I hb)))
   ·exact λK I=>υ.bind' (υ.pure' (υ.pure' (.same Β I ν)))
 ·exact .bad
theorem Vo (cL:cY S B σ env t) (f:Fn) (c9 cs:Array Operand):ar S B σ (.fn f (c9.toList.map (aO env)) (cs.toList.map (aO env))) (.func f (c9.map (br t)) (cs.map (br t))):=by
 refine .fn _ _ (by simp) (by simp) (λi a v J γ=>?_) (λi a v J γ=>?_)
 ·rw[List.getElem?_map] at J;rw[Array.getElem?_map] at γ;rw[Array.getElem?_toList] at J;cases U:c9[i]? with
  | none=>rw[U] at J;cases J
  | some x=>rw[U] at J γ;cases J;cases γ;exact lz cL x
 ·rw[List.getElem?_map] at J;rw[Array.getElem?_map] at γ;rw[Array.getElem?_toList] at J;cases U:cs[i]? with
  | none=>rw[U] at J;cases J
  | some x=>rw[U] at J γ;cases J;cases γ;exact lz cL x
theorem DG (cL:cY S B σ env t) (o:Option Operand):vF S B σ (o.map (aO env)) (o.map (br t)):=by
 cases o with
 | none=>trivial
 | some x=>exact lz cL x
theorem M1 {a:θ} {r:Nat×List θ} (h:pJ [] a=some r):pJ σ a=some r:=by
 cases a<;>first|exact h|(simp[pJ] at h)
theorem Vp {st xt:TypeId} {s x:θ}:si T st xt (θ.a8 []) [] s x=.bad\/si T st xt (θ.a8 []) [] s x=si T st xt (θ.a8 []) σ s x:=by
 unfold si;cases U:pJ [] x with
 | none=>left;split<;>simp_all
 | some r=>rw[M1 U];exact .inr rfl
theorem M3 (Θ:bT P T) (Β:Holds S B σ H) (src dst:TypeId) {x:θ} {v:Value} (U:ar S B σ x v):cJ P (convert src dst v) S B H σ ((sr T σ src dst x).du σ):=by
 have J:=Uz Θ Β src dst U
 have γ:=Ve Θ Β src dst U;unfold sr;split
 ·split
  ·exact Vh Θ Β src dst U
  ·exact γ
 ·exact J
theorem Vq {src dst:TypeId} {x:θ}:tR T src dst [] x=.bad\/tR T src dst [] x=tR T src dst σ x:=by
 unfold tR;split
 ·cases U:pJ [] x with
  | none=>exact .inl rfl
  | some r=>rw[M1 U];exact .inr rfl
 ·exact .inl rfl
theorem Vr {src dst:TypeId} {x:θ}:sr T [] src dst x=.bad\/sr T [] src dst x=sr T σ src dst x:=by
 unfold sr;split
 ·split
  ·exact Vq
  ·exact .inr rfl
 ·exact .inr rfl
theorem Vs (Θ:bT P T) (Β:Holds S B σ H) (cL:cY S B σ env t) (o:Oper):Does P (execOp (br t) o) S B H σ ((mo T A env o).du σ):=by
 have af:∀x,ar S B σ (aO env x) (br t x):=λx=>lz cL x;obtain⟨dst,op,type,pos,after,guard⟩:=o;unfold mo;simp only;split
 ·exact Does.val Β (af _)
 ·exact Does.val Β (af _)
 ·rename_i c a b;have:=(Vn (P:=P) Β (af c) (af a) (af b)).next;unfold execOp;simp only;refine λK I=>?_;have γ:=this K I;simpa using γ
 ·split
  ·exact .bad
  ·exact(Uc Θ Β _).next
 ·split
  ·exact .bad
  ·exact(T' Β _ (af _)).next
 ·exact(My Θ Β (λa h=>CX h) _ cL _).next
 ·split
  ·exact .bad
  ·exact(MB Θ Β (λa h=>CX h) _ _ cL _).next
 ·exact(TY Θ Β (af _)).next
 ·exact(U9 Θ Β _ _ _ _ (af _) (af _)).next
 ·exact(TT Β _ (af _)).next
 ·rename_i a b x;rcases Vr (T:=T) (σ:=σ) (src:=a) (dst:=b) (x:=aO env x) with h|h
  ·rw[h];exact .bad
  ·rw[h];exact(M3 Θ Β _ _ (af _)).next
 ·exact(U' Θ Β _ (af _) (af _)).next
 ·exact Va Β rfl (af _)
 ·exact(Vd Θ Β _ (af _)).next
 ·exact(TV Θ Β _ (af _)).next
 ·exact cJ.next (cJ.pure Β (Vo cL _ _ _))
 ·split
  ·exact .bad
  ·exact(Ug Θ Β (af _) (af _)).next
 ·exact(Uv Θ Β _ (af _) (DG cL _) (DG cL _)).next
 ·exact(T0 Θ Β (af _)).next
 ·exact(T5 Θ Β (af _) (af _)).next
 ·exact(TW Θ Β _ _ _ (af _)).next
 ·exact(TU Β _ (af _)).next
 ·split
  ·exact λK I=>by
       refine υ.bind' (υ.pure' ?_);have e:∀x:Operand,Array.map (br t) {toList:=[x]}=#[br t x]:=λx=>by simp
       simp only[invoke,builtin,e];exact(Ux Θ Β _ _ (af _)).next K I
  ·exact .bad
 ·split
  ·exact λK I=>by
       refine υ.bind' (υ.pure' ?_);have e:∀x y:Operand,Array.map (br t) {toList:=[x,y]}=#[br t x,br t y]:=λx y=>by simp
       simp only[invoke,builtin,e];exact(UA Β _ _ (af _) (af _)).next K I
  ·split
   ·exact .bad
   ·rename_i x y tS ty _ _;rcases Vp (T:=T) (σ:=σ) (st:=tS) (xt:=ty) (s:=aO env x) (x:=aO env y) with h|h
    ·rw[h];exact .bad
    ·rw[h];exact λK I=>by
       refine υ.bind' (υ.pure' ?_);have e:∀x y:Operand,Array.map (br t) {toList:=[x,y]}=#[br t x,br t y]:=λx y=>by simp
       simp only[invoke,builtin,e];exact(MH Θ Β (λa h=>CX h) _ _ _ (af _) (af _)).next K I
  ·exact .bad
 ·exact .bad
theorem Vt (Θ:bT P T) (Β:Holds S B σ H) (cL:cY S B σ env t) (o:Oper):Does P (execOp (br t) o) S B H σ (kp T A env σ o):=by
 have af:∀x,ar S B σ (aO env x) (br t x):=λx=>lz cL x;obtain⟨dst,op,type,pos,after,guard⟩:=o;unfold kp;simp only;split
 ·split
  ·exact(Ub Θ Β _).next
  ·exact .bad
 ·split
  ·exact(Ua Β _ (af _)).next
  ·exact(T9 Β _ (af _)).next
 ·exact(My Θ Β (λa h=>h) _ cL _).next
 ·split
  ·exact(Ue Θ Β _ _ cL _).next
  ·exact(MB Θ Β (λa h=>h) _ _ cL _).next
 ·exact(TZ Θ Β (af _)).next
 ·exact(T8 Θ Β (af _) (af _)).next
 ·exact(M3 Θ Β _ _ (af _)).next
 ·exact Vb Β rfl (af _)
 ·exact(Vl Θ Β _ _ _ (af _)).next
 ·exact(UN Β _).next
 ·exact(MQ Θ Β (af _) (af _) (af _)).next
 ·exact(MQ Θ Β (af _) (af _) (af _)).next
 ·exact(UO Θ Β (af _) (af _)).next
 ·exact(US Θ Β (af _)).next
 ·exact(UX Β _ (af _)).next
 ·exact(U2 Β (af _)).next
 ·split
  ·exact(Uf Θ Β (af _) (af _)).next
  ·exact .bad
 ·exact(Uw Θ Β _ (af _) (DG cL _) (DG cL _)).next
 ·exact(T1 Θ Β (af _)).next
 ·exact(T6 Θ Β (af _) (af _)).next
 ·split
  ·exact λK I=>by
       refine υ.bind' (υ.pure' ?_);have e:∀x:Operand,Array.map (br t) {toList:=[x]}=#[br t x]:=λx=>by simp
       simp only[invoke,builtin,e];exact(Uy Θ Β _ _ (af _)).next K I
  ·exact λK I=>by
       refine υ.bind' (υ.pure' ?_);have e:∀x:Operand,Array.map (br t) {toList:=[x]}=#[br t x]:=λx=>by simp
       simp only[invoke,builtin,e];exact(U6 Θ Β _ (af _)).next K I
  ·exact .bad
 ·split
  ·split
   ·exact λK I=>by
       refine υ.bind' (υ.pure' ?_);have e:∀x y:Operand,Array.map (br t) {toList:=[x,y]}=#[br t x,br t y]:=λx y=>by simp
       simp only[invoke,builtin,e];exact(Um Θ Β _ _ _ (af _) (af _)).next K I
   ·exact λK I=>by
       refine υ.bind' (υ.pure' ?_);have e:∀x y:Operand,Array.map (br t) {toList:=[x,y]}=#[br t x,br t y]:=λx y=>by simp
       simp only[invoke,builtin,e];exact(MH Θ Β (λa h=>h) _ _ _ (af _) (af _)).next K I
  ·exact .bad
 ·exact .bad
end
inductive av (h:Nat):θ->Prop where
 | z (v:Value):av h (.z v)
 | ad {l:List θ}:(∀a∈l,av h a)->av h (.ad l)
 | sl {ex:Bool} {k:Nat} {l:List θ}:(∀e∈l,∀a∈e.cells,av h a)->av h (.sl ex k l)
 | aW {l:List θ}:(∀a∈l,av h a)->av h (.aW l)
 | bu {l:List θ}:(∀a∈l,av h a)->av h (.bu l)
 | Ψ {id n i j:Nat}:id<h->av h (.Ψ id n i j)
 | ms {id n i len:Nat}:id<h->av h (.ms id n i len)
 | fn {f:Fn} {c9 cs:List θ}:(∀a∈c9,av h a)->(∀a∈cs,av h a)->av h (.fn f c9 cs)
 | fH {t:TypeId} {a:θ}:av h a->av h (.fH t a)
 | mp {id:Nat}:id<h->av h (.mp id)
 | it {id:Nat}:id<h->av h (.it id)
 | cz:av h .cz
def ek (h:Nat):Row->Prop
 | .cells _ _ l=>∀e∈l,∀a∈e.cells,av h a
 | .map es=>∀e∈es,av h e.1/\av h e.2
 | .iter m left cur=>m<h/\(∀e∈left,av h e.1/\av h e.2)/\∀e,cur=some e->av h e.1/\av h e.2
 | .dead=>True
inductive eE (h:Nat) (σ:List Row):θ->θ->Prop where
 | low {a:θ}:av h a->eE h σ a a
 | cz (a:θ):eE h σ a .cz
 | ms {id n i len k:Nat} {t:TypeId} {l dV:List θ}:h<=id->σ[id]?=some (.cells t k l)->l.length=n->i+len<=n->dV.length=len->
   (∀(j:Nat) (e aJ:θ),l[i+j]?=some e->dV[j]?=some aJ->aJ.cells.length=e.cells.length)->(∀(j:Nat) (e aJ:θ),l[i+j]?=some e->dV[j]?=some aJ->∀(x:Nat) (a b9:θ),e.cells[x]?=some a->aJ.cells[x]?=some b9->eE h σ a b9)->eE h σ (.ms id n i len) (.sl false k dV)
 | Ψ {id n i j k:Nat} {t:TypeId} {l cs:List θ} {e:θ}:h<=id->σ[id]?=some (.cells t k l)->l.length=n->l[i]?=some e->cs.length<=e.cells.length-j->
   (∀(x:Nat) (a b9:θ),e.cells[j+x]?=some a->cs[x]?=some b9->eE h σ a b9)->eE h σ (.Ψ id n i j) (.ad cs)
 | aW {l dV:List θ}:dV.length=l.length->(∀(x:Nat) (a b9:θ),l[x]?=some a->dV[x]?=some b9->eE h σ a b9)->eE h σ (.aW l) (.aW dV)
 | bu {l dV:List θ}:dV.length=l.length->(∀(x:Nat) (a b9:θ),l[x]?=some a->dV[x]?=some b9->eE h σ a b9)->eE h σ (.bu l) (.bu dV)
 | fn {f:Fn} {c9 HE cs cs':List θ}:HE.length=c9.length->cs'.length=cs.length->(∀(x:Nat) (a b9:θ),c9[x]?=some a->HE[x]?=some b9->eE h σ a b9)->(∀(x:Nat) (a b9:θ),cs[x]?=some a->cs'[x]?=some b9->eE h σ a b9)->eE h σ (.fn f c9 cs) (.fn f HE cs')
section
variable {S:aC} {B:aP} {H:ψ} {σ:List Row} {h:Nat}
def Late (B:aP) (σ:List Row) (h b:Nat):Prop:=∃id t k l N,h<=id/\σ[id]?=some (Row.cells t k l)/\B[id]?=some (some (b,N))
open Classical in
noncomputable def aC.close (S:aC) (B:aP) (σ:List Row) (H:ψ) (h:Nat):aC:=λb o=>if Late B σ h b then(H.aG b o).map (·.1) else S b o
theorem DH (Β:Holds S B σ H):∀b o v,S b o=some v->S.close B σ H h b o=some v:=λb o v hv=>by
 unfold aC.close;split
 ·rename_i Α;obtain⟨id,t,k,l,N,J,γ,π⟩:=Α;have:=Β.sep id _ b N γ trivial π o;rw[hv] at this;cases this
 ·exact hv
theorem ar.pR (Β:Holds S B σ H) {a:θ} {v:Value} (μ:ar S B σ a v) (hb:av h a):ar (S.close B σ H h) (B.take h) (σ.take h) a v:=by
 have bh:∀{α:Type} (l:List α) (i:Nat),i<h->(l.take h)[i]?=l[i]?:=λl i hi=>List.getElem?_take_of_lt hi
 induction μ with
 | z v=>exact .z v
 | ad b o w J _ Δ=>
  cases hb with
  | ad hb=>exact .ad b o w (λj a ε=>DH Β _ _ _ (J j a ε)) λj a ε=>Δ j a ε (hb a (cv ε))
 | iI base cap h=>exact .iI base cap h
 | sl b o cap w J γ π Μ _ Δ=>
  cases hb with
  | sl hb=>exact .sl b o cap w J γ π (λi e hi j c ε=>DH Β _ _ _ (Μ i e hi j c ε)) λi e hi j c ε=>Δ i e hi j c ε (hb e (cv hi) c (cv ε))
 | aW vs J _ Δ=>
  cases hb with
  | aW hb=>exact .aW vs J λi a v hi hv=>Δ i a v hi hv (hb a (cv hi))
 | bu vs J _ Δ=>
  cases hb with
  | bu hb=>exact .bu vs J λi a v hi hv=>Δ i a v hi hv (hb a (cv hi))
 | Ψ J γ π=>
  cases hb with
  | Ψ hb=>exact .Ψ (by rw[bh _ _ hb];exact J) γ (by rw[bh _ _ hb];exact π)
 | jB v J γ=>
  cases hb with
  | Ψ hb=>exact .jB v (by rw[bh _ _ hb];exact J) γ
 | ms cap J γ π Μ aB bc=>
  cases hb with
  | ms hb=>exact .ms cap (by rw[bh _ _ hb];exact J) γ (by rw[bh _ _ hb];exact π) Μ aB bc
 | ja v J γ=>
  cases hb with
  | ms hb=>exact .ja v (by rw[bh _ _ hb];exact J) γ
 | fn vs ws J γ _ _ sc mi=>
  cases hb with
  | fn kH gx=>exact .fn vs ws J γ (λi a v hi hv=>sc i a v hi hv (kH a (cv hi))) λi a v hi hv=>mi i a v hi hv (gx a (cv hi))
 | fH v _ Δ=>
  cases hb with
  | fH hb=>exact .fH v (Δ hb)
 | mp J γ=>
  cases hb with
  | mp hb=>exact .mp (by rw[bh _ _ hb];exact J) (by rw[bh _ _ hb];exact γ)
 | lu v J=>
  cases hb with
  | mp hb=>exact .lu v (by rw[bh _ _ hb];exact J)
 | it J γ=>
  cases hb with
  | it hb=>exact .it (by rw[bh _ _ hb];exact J) (by rw[bh _ _ hb];exact γ)
 | m7 v J=>
  cases hb with
  | it hb=>exact .m7 v (by rw[bh _ _ hb];exact J)
 | cz v=>exact .cz v
theorem M4 {id b N:Nat} {t:TypeId} {k:Nat} {l:List θ} (ah:h<=id) (J:σ[id]?=some (.cells t k l)) (γ:B[id]?=some (some (b,N))) {o:Nat} {v:Value} {p:Bool} (hv:H.aG b o=some (v,p)):S.close B σ H h b o=some v:=by
 unfold aC.close;rw[if_pos ⟨id,t,k,l,N,ah,J,γ⟩,hv];rfl
theorem ar.Vu (Β:Holds S B σ H) {a b9:θ} (ο:eE h σ a b9):∀{v:Value},ar S B σ a v->ar (S.close B σ H h) (B.take h) (σ.take h) b9 v:=by
 induction ο with
 | low hb=>intro v μ;exact μ.pR Β hb
 | cz a=>intro v _;exact .cz v
 | @ms id n i len k t l dV J γ π Μ aB bc _ Δ=>
  intro v μ;cases μ with
  | ms cap Ρ ag aV cr gO iq=>
   rw[γ] at Ρ;cases Ρ;by_cases Η:dV=[]
   ·subst Η;have:len=0:=by rw[<-aB];rfl
    subst this;exact .iI _ _ (by simp)
   ·have pK:0<len:=by rw[<-aB];exact List.length_pos_iff.2 Η
    rcases iq with iq|⟨b,N,rfl,rfl,iq⟩
    ·omega
    ·obtain⟨_,_,_,w,hw⟩:=Β.row id _ _ γ aV;have el:∀(j:Nat) (aJ:θ),dV[j]?=some aJ->∃e,l[i+j]?=some e/\e.cells.length=k/\aJ.cells.length=k:=λj aJ ε=>by
      have aH:j<len:=by rw[<-aB];exact(b7.1 ε).1
      have he:l[i+j]?=some l[i+j]:=a2 (by omega);exact⟨_,he,(hw _ _ he).1,(bc j _ aJ he ε).trans (hw _ _ he).1⟩
     have:=ar.sl (S:=S.close B σ H h) (B:=B.take h) (σ:=σ.take h) (ex:=false) (k:=k) (l:=dV) b (i*k) cap (λj x=>w (i+j) x) (by simp) (by omega) (λj aJ ε=>(el j aJ ε).choose_spec.2.2)
      (λj aJ ε x b9 U=>by
       obtain⟨e,Ε,Ζ,a6⟩:=el j aJ ε;have DI:x<e.cells.length:=by rw[Ζ,<-a6];exact(b7.1 U).1
       have:=((hw _ e Ε).2 x _ (a2 DI)).1;rw[Nat.add_mul] at this;exact M4 J γ aV this)
      (λj aJ ε x b9 U=>by
       obtain⟨e,Ε,Ζ,a6⟩:=el j aJ ε;have DI:x<e.cells.length:=by rw[Ζ,<-a6];exact(b7.1 U).1
       exact Δ j e aJ Ε ε x _ b9 (a2 DI) U ((hw _ e Ε).2 x _ (a2 DI)).2.1)
     rw[aB] at this;exact this
  | ja v Ρ ag=>rw[γ] at Ρ;cases Ρ;simp only[Row.g9] at ag;omega
 | @Ψ id n i j k t l cs e J γ π Μ aB bc Δ=>
  intro v μ;cases μ with
  | Ψ Ρ ag aV=>
   rw[γ] at Ρ;cases Ρ;obtain⟨_,_,_,w,hw⟩:=Β.row id _ _ γ aV;have el:∀(x:Nat) (b9:θ),cs[x]?=some b9->∃a,e.cells[j+x]?=some a:=λx b9 U=>by
    have:=(b7.1 U).1;exact⟨_,a2 (by omega)⟩
   refine .ad _ _ (λx=>w i (j+x)) (λx b9 U=>?_) (λx b9 U=>?_)
   ·obtain⟨a,ν⟩:=el x b9 U;have:=((hw i e Μ).2 _ a ν).1;rw[<-Nat.add_assoc] at this;exact M4 J γ aV this
   ·obtain⟨a,ν⟩:=el x b9 U;exact Δ x a b9 ν U ((hw i e Μ).2 _ a ν).2.1
  | jB v Ρ ag=>rw[γ] at Ρ;cases Ρ;simp only[Row.g9] at ag;omega
 | aW J γ Δ=>
  intro v μ;cases μ with
  | aW vs Ρ ag=>
   refine .aW vs (by rw[J,Ρ]) λi b9 w hi hv=>?_;have aH:=(b7.1 hi).1;have ν:=a2 (J▸aH);exact Δ i _ b9 ν hi (ag i _ w ν hv)
 | bu J γ Δ=>
  intro v μ;cases μ with
  | bu vs Ρ ag=>
   refine .bu vs (by rw[J,Ρ]) λi b9 w hi hv=>?_;have aH:=(b7.1 hi).1;have ν:=a2 (J▸aH);exact Δ i _ b9 ν hi (ag i _ w ν hv)
 | fn J γ _ _ sc mi=>
  intro v μ;cases μ with
  | fn vs ws Ρ ag aV cr=>
   refine .fn vs ws (by rw[J,Ρ]) (by rw[γ,ag]) (λi b9 w hi hv=>?_) (λi b9 w hi hv=>?_)
   ·have aH:=(b7.1 hi).1
    have ν:=a2 (J▸aH);exact sc i _ b9 ν hi (aV i _ w ν hv)
   ·have aH:=(b7.1 hi).1
    have ν:=a2 (γ▸aH);exact mi i _ b9 ν hi (cr i _ w ν hv)
theorem jC.pR (Β:Holds S B σ H) {r:Row} {bo:Option (Nat×Nat)} (μ:jC S B σ H r bo) (hb:ek h r):jC (S.close B σ H h) (B.take h) (σ.take h) H r bo:=by
 have bh:∀{α:Type} (l:List α) (i:Nat),i<h->(l.take h)[i]?=l[i]?:=λl i hi=>List.getElem?_take_of_lt hi;cases r with
 | cells t k l=>
  cases bo with
  | none=>exact μ
  | some x=>
   obtain⟨b,N⟩:=x;obtain⟨J,γ,π,w,Μ⟩:=μ;refine⟨J,γ,π,w,λi e hi=>⟨(Μ i e hi).1,λj a ε=>?_⟩⟩;obtain⟨c1,c2,c3⟩:=(Μ i e hi).2 j a ε;exact⟨c1,c2.pR Β (hb e (cv hi) a (cv ε)),c3⟩
 | map es=>
  obtain⟨b,N,xs,clock,rfl,J,γ,π,Μ⟩:=μ;exact⟨b,N,xs,clock,rfl,J,γ,λi e y a b=>by
   obtain⟨c1,c2,c3⟩:=π i e y a b;exact⟨c1.pR Β (hb e (cv a)).1,c2.pR Β (hb e (cv a)).2,c3⟩,Μ⟩
 | iter m left cur=>
  obtain⟨hm,kH,gx⟩:=hb;obtain⟨b,N,aT,kI,xs,clock,seen,rfl,J,γ,π,Μ,⟨cA,i1,i2,i3⟩,i4,i5⟩:=μ;refine⟨b,N,aT,kI,xs,clock,seen,rfl,by rw[bh _ _ hm];exact J,by rw[bh _ _ hm];exact γ,π,Μ,⟨cA,i1,i2,λi e y a b=>?_⟩,i4,λe he=>?_⟩
  ·obtain⟨c1,c2⟩:=i3 i e y a b;exact⟨c1.pR Β (kH e (cv a)).1,c2.pR Β (kH e (cv a)).2⟩
  ·obtain⟨st,y,a,b,c,d⟩:=i5 e he;exact⟨st,y,a,b,c.pR Β (gx e he).1,d.pR Β (gx e he).2⟩
 | dead=>trivial
theorem Holds.close (Β:Holds S B σ H) (hb:∀(id:Nat) (r:Row),id<h->σ[id]?=some r->ek h r) :
  Holds (S.close B σ H h) (B.take h) (σ.take h) H/\Ext S B H (S.close B σ H h) (B.take h) H:=by
 have bh:∀{α:Type} (l:List α) (i:Nat) (x:α),(l.take h)[i]?=some x->i<h/\l[i]?=some x:=λl i x hi=>by
  rw[List.getElem?_take] at hi;split at hi
  ·exact⟨‹_›,hi⟩
  ·cases hi
 refine⟨⟨λb o v hv=>?_,by simp[Β.len],λid r bo μ eZ=>?_,λi j ej b' b gM gN fE hi ε ik ec hx cO=>?_,λid r b N μ Α eZ o=>?_⟩,⟨DH Β,λb _ _=>m8.of ⟨λ_=>rfl,rfl,rfl⟩,λb ⟨N,ck⟩=>.inl ⟨N,List.mem_of_mem_take ck⟩,λb o v hv=>?_,λ_ h=>h⟩⟩
 ·unfold aC.close at hv;split at hv
  ·cases ζ:H.aG b o with
   | none=>rw[ζ] at hv;cases hv
   | some x=>rw[ζ] at hv;cases hv;exact⟨x.2,rfl⟩
  ·exact Β.dg b o v hv
 ·obtain⟨J,γ⟩:=bh _ _ _ μ;obtain⟨_,π⟩:=bh _ _ _ eZ;exact(Β.row id r bo γ π).pR Β (hb id r J γ)
 ·exact Β.inj i j ej b' b gM gN fE (bh _ _ _ hi).2 (bh _ _ _ ε).2 ik ec (bh _ _ _ hx).2 (bh _ _ _ cO).2
 ·obtain⟨J,γ⟩:=bh _ _ _ μ;obtain⟨_,π⟩:=bh _ _ _ eZ;unfold aC.close;rw[if_neg]
  ·exact Β.sep id r b N γ Α π o
  ·rintro⟨DJ,t,k,l,eV,Ρ,ag,aV⟩;exact Β.inj id DJ r _ b N eV (by omega) γ ag Α trivial π aV
 ·unfold aC.close at hv;split at hv
  ·rename_i Α;obtain⟨id,t,k,l,N,_,_,π⟩:=Α;exact .inr (.inl (oF π))
  ·exact .inl hv
theorem bZ.close {ee:aC} {ef:aP} {σ0:List Row} (Β:Holds S B σ H) (Α:bZ ee S ef B σ0 σ) (aS:σ0.length<=h):bZ ee (S.close B σ H h) ef (B.take h) σ0 (σ.take h):=
 ⟨λb o v hv=>DH Β b o v (Α.dg b o v hv),λid r μ=>by
  have bS:id<h:=Nat.lt_of_lt_of_le (b7.1 μ).1 aS;obtain⟨r',J,γ⟩:=Α.rows id r μ;exact⟨r',by rw[List.getElem?_take_of_lt bS];exact J,by rw[List.getElem?_take_of_lt bS];exact γ⟩⟩
end
end Go.TL
namespace Go.TL
open Go.Conc
variable [bn]
structure eJ (m:Nat) (S:aC) (B:aP) (H:ψ) (σ:List Row) (ay:aC) (B':aP) (H':ψ) (σ':List Row):Prop where
 ext:Ext S B H ay B' H'
 later:bZ S ay (B.take m) B' (σ.take m) σ'
structure ff (m nt:Nat) (S:aC) (B:aP) (H:ψ) (σ:List Row) (env:Ω) (t:Array Value):Prop where
 holds:Holds S B σ H
 b6:cY S B σ env t
 size:t.size=nt
 rows:m<=σ.length
section
variable {m:Nat} {S ay zG:aC} {B B' zH:aP} {H H' M5:ψ} {σ σ' zI:List Row}
theorem bZ.left (h:bZ S ay B B' σ σ') (m:Nat):bZ S ay (B.take m) B' (σ.take m) σ':=
 ⟨h.dg,λid r μ=>by
  rw[List.getElem?_take] at μ;split at μ
  ·rename_i aH;rw[List.getElem?_take_of_lt aH];exact h.rows id r μ
  ·cases μ⟩
theorem bZ.right (h:bZ S ay B B' σ σ') (hm:σ.length<=m):bZ S ay B (B'.take m) σ (σ'.take m):=
 ⟨h.dg,λid r μ=>by
  have aH:id<m:=Nat.lt_of_lt_of_le (b7.1 μ).1 hm;rw[List.getElem?_take_of_lt aH,List.getElem?_take_of_lt aH];exact h.rows id r μ⟩
theorem eJ.of (h:Ext S B H ay B' H') (k:bZ S ay B B' σ σ'):eJ m S B H σ ay B' H' σ':=⟨h,k.left m⟩
theorem eJ.refl:eJ m S B H σ S B H σ:=.of (.refl _ _ _) (.refl _ _ _)
theorem eJ.trans (h:eJ m S B H σ ay B' H' σ') (k:eJ m ay B' H' σ' zG zH M5 zI):eJ m S B H σ zG zH M5 zI:=
 ⟨h.ext.trans k.ext,(h.later.right (m:=m) (by simp;omega)).trans k.later⟩
theorem bZ.length (h:bZ S ay B B' σ σ'):σ.length<=σ'.length:=by
 apply Classical.byContradiction;intro Ι;have aH:σ'.length<σ.length:=by omega
 obtain⟨r',J,_⟩:=h.rows σ'.length _ (a2 aH);simp at J
end
def Leaves (j:List Item) (k:List Item):Prop:=k=j
def W (P:Program) (m nt:Nat) (k:List Item) (env:Ω) (σ:List Row) (Z:List Item->Ω->List Row->Prop) (E:θ->Ω->List Row->Prop):Prop:=
 ∀(Q:Value->Prop) (mn:Bool) (x:gL) (cs:List Frame) (b:Frame) (S:aC) (B:aP) (H:ψ) (t:Array Value),Seq x->b.mode=.run->ff m nt S B H σ env t->
  (∀(j:List Item) (env':Ω) (σ':List Row) (ay:aC) (B':aP) (H':ψ) (t':Array Value) (ab:List Item),Z j env' σ'->eJ m S B H σ ay B' H' σ'->ff m nt ay B' H' σ' env' t'->Leaves j ab->aE P Q mn x (au b t' ab) cs H')->
  (∀(a:θ) (env':Ω) (σ':List Row) (ay:aC) (B':aP) (H':ψ) (t':Array Value) (ab:List Item) (v:Value),E a env' σ'->eJ m S B H σ ay B' H' σ'->Holds ay B' σ' H'->cY ay B' σ' env' t'->ar ay B' σ' a v->aE P Q mn x {au b t' ab with mode:=.panicking [{v,recovered:=false}]} cs H')->
  aE P Q mn x (au b t k) cs H
section
variable {P:Program} {m nt:Nat} {k:List Item} {env:Ω} {σ:List Row} {Z:List Item->Ω->List Row->Prop} {E:θ->Ω->List Row->Prop}
theorem W.stop (h:Z k env σ):W P m nt k env σ Z E:=λ_ _ _ _ _ S B H t _ _ ω Η _=>Η k env σ S B H t k h .refl ω rfl
theorem W.nil (h:Z [] env σ):W P m nt [] env σ Z E:=.stop h
theorem W.ret (h:Z (.code .ret::k) env σ):W P m nt (.code .ret::k) env σ Z E:=.stop h
theorem W.skip (h:W P m nt k env σ Z E):W P m nt (.code .skip::k) env σ Z E:=λQ mn x cs b S B H t U hb ω Η he=>.skip U hb (h Q mn x cs b S B H t U hb ω Η he)
theorem W.label {l:Nat} (h:W P m nt k env σ Z E):W P m nt (.code (.label l)::k) env σ Z E:=λQ mn x cs b S B H t U hb ω Η he=>.label U hb (h Q mn x cs b S B H t U hb ω Η he)
theorem W.inBlock {l:Nat} (h:W P m nt k env σ Z E):W P m nt (.inBlock l::k) env σ Z E:=λQ mn x cs b S B H t U hb ω Η he=>.inBlock U hb (h Q mn x cs b S B H t U hb ω Η he)
theorem W.seq {a c:Code} (h:W P m nt (.code a::.code c::k) env σ Z E):W P m nt (.code (.seq a c)::k) env σ Z E:=λQ mn x cs b S B H t U hb ω Η he=>.seq U hb (h Q mn x cs b S B H t U hb ω Η he)
theorem W.block {l:Nat} {c:Code} (h:W P m nt (.code c::.inBlock l::k) env σ Z E):W P m nt (.code (.block l c)::k) env σ Z E:=λQ mn x cs b S B H t U hb ω Η he=>.block U hb (h Q mn x cs b S B H t U hb ω Η he)
theorem W.inLoop {c:Code} (h:W P m nt (.code c::.inLoop c::k) env σ Z E):W P m nt (.inLoop c::k) env σ Z E:=λQ mn x cs b S B H t U hb ω Η he=>.inLoop U hb (h Q mn x cs b S B H t U hb ω Η he)
theorem W.loop {c:Code} (h:W P m nt (.code c::.inLoop c::k) env σ Z E):W P m nt (.code (.loop c)::k) env σ Z E:=λQ mn x cs b S B H t U hb ω Η he=>.loop U hb (h Q mn x cs b S B H t U hb ω Η he)
theorem W.scope {c:Code} (h:W P m nt (.code c::.inScope c::k) env σ Z E):W P m nt (.code (.scope c)::k) env σ Z E:=λQ mn x cs b S B H t U hb ω Η he=>.scope U hb (h Q mn x cs b S B H t U hb ω Η he)
theorem W.exit {id:Nat} {ab:List Item} (χ:exitTo id k=some ab) (h:W P m nt ab env σ Z E):W P m nt (.code (.exit id)::k) env σ Z E:=λQ mn x cs b S B H t U hb ω Η he=>.exit U hb χ (h Q mn x cs b S B H t U hb ω Η he)
theorem W.cond {c:Operand} {a e:Code} {v:Bool} (ζ:aO env c=.z (.bool v)) (h:W P m nt (.code (if v then a else e)::k) env σ Z E):W P m nt (.code (.cond c a e)::k) env σ Z E:=λQ mn x cs b S B H t U hb ω Η he=>by
 refine .cond (v:=v) U hb ?_ (h Q mn x cs b S B H t U hb ω Η he);have:=lz ω.b6 c;rw[ζ] at this;rw[zE];generalize br t c=u at this;cases this;rfl
theorem W.cut (h:Nat) (hm:m<=h) (env':Ω) (aS:h<=σ.length) (nX:∀(id:Nat) (r:Row),id<h->σ[id]?=some r->ek h r) (cL:∀p∈env',eE h σ (a5 env p.1) p.2) (hW:W P m nt k env' (σ.take h) Z E):W P m nt k env σ Z E:=
 λQ mn x cs b S B H t U hb ω Η he=>by
 obtain⟨c1,c2⟩:=ω.holds.close nX;have Α:bZ S (S.close B σ H h) (B.take m) (B.take h) (σ.take m) (σ.take h):=by
  have:=bZ.close (h:=h) ω.holds ((bZ.refl S B σ).left m) (by simp;omega);exact this
 have ν:eJ m S B H σ (S.close B σ H h) (B.take h) H (σ.take h):=⟨c2,Α⟩
 have z9:∀(l:Ω),(∀p∈l,eE h σ (a5 env p.1) p.2)->∀i,eE h σ (a5 env i) (a5 l i):=by
  intro l
  induction l with
  | nil=>intro _ i;exact .cz _
  | cons p l Δ=>
   intro Α i;simp only[a5];split
   ·rename_i e;rw[<-e];exact Α p (by simp)
   ·exact Δ (λq Χ=>Α q (by simp[Χ])) i
 refine hW Q mn x cs b _ _ H t U hb ⟨c1,λi=>(ω.b6 i).Vu ω.holds (z9 env' cL i),ω.size,by simp;omega⟩ (λj ha gA cU e5 bO t2 cy Ρ ag aV cr=>?_) (λa ha gA cU e5 bO t2 cy v Ρ ag aV cr gO=>?_)
 ·exact Η j ha gA cU e5 bO t2 cy Ρ (ν.trans ag) aV cr
 ·exact he a ha gA cU e5 bO t2 cy v Ρ (ν.trans ag) aV cr gO
end
def fg (S:aC) (B:aP) (σ:List Row) (as9:List θ) (vs:Array Value):Prop:=as9.length=vs.size/\∀(i:Nat) (a:θ) (v:Value),as9[i]?=some a->vs[i]?=some v->ar S B σ a v
structure tT (P:Program) (Q:Value->Prop) (mn:Bool) (x:gL) (c:Frame) (rest:List Frame) (S:aC) (B:aP) (H:ψ) (σ:List Row) (K:θ->List Row->Prop) (E:θ->List Row->Prop):Prop where
 ret:∀(a:θ) (σ':List Row) (ay:aC) (B':aP) (H':ψ) (v:Value),K a σ'->Ext S B H ay B' H'->bZ S ay B B' σ σ'->Holds ay B' σ' H'->ar ay B' σ' a v->aE P Q mn x (c.finish v) rest H'
 x0:∀(a:θ) (σ':List Row) (ay:aC) (B':aP) (H':ψ) (v:Value),E a σ'->Ext S B H ay B' H'->bZ S ay B B' σ σ'->Holds ay B' σ' H'->ar ay B' σ' a v->aE P Q mn x (c.raise [{v,recovered:=false}]) rest H'
def M6 (P:Program) (Q:Value->Prop) (mn:Bool) (x:gL) (c:Frame) (rest:List Frame):Next->ψ->Prop
 | .enter g as9,H=>aE P Q mn x (Frame.enter P g as9 .normal) (c::rest) H
 | .round l f xD CI sb,H=>aE P Q mn x (Frame.round l f xD CI sb .normal) (c::rest) H
 | .value v,H=>aE P Q mn x (c.finish v) rest H
 | _,_=>False
def h1 (P:Program) (f:θ) (args:List θ) (σ:List Row) (K:θ->List Row->Prop) (E:θ->List Row->Prop):Prop:=
 ∀(Q:Value->Prop) (mn:Bool) (x:gL) (c:Frame) (rest:List Frame) (S:aC) (B:aP) (H:ψ) (an:Value) (vs:Array Value),Seq x->Holds S B σ H->ar S B σ f an->fg S B σ args vs->tT P Q mn x c rest S B H σ K E->
  υ P (do let d <-Deferred.ofValue an vs;invoke d.target d.args) H (M6 P Q mn x c rest) (λ_ _=>False)
def Plain (P:Program) (g:FuncId):Prop:=∃fn,P.funcs[g]?=some fn/\(fn.name == "runtime.NumGoroutine")=false/\fn.body.isNone=false
def ak (P:Program) (g:FuncId) (args:List θ) (σ:List Row) (K:θ->List Row->Prop) (E:θ->List Row->Prop):Prop:=
 Plain P g/\∀(Q:Value->Prop) (mn:Bool) (x:gL) (c:Frame) (rest:List Frame) (S:aC) (B:aP) (H:ψ) (vs:Array Value),Seq x->Holds S B σ H->fg S B σ args vs->tT P Q mn x c rest S B H σ K E->
  aE P Q mn x (Frame.enter P g vs .normal) (c::rest) H
section
variable {P:Program} {T:bd} {A:List Nat} {m nt:Nat} {k:List Item} {env:Ω} {σ:List Row} {Z:List Item->Ω->List Row->Prop} {E:θ->List Row->Prop} {K:θ->List Row->Prop} {F:θ->Ω->List Row->Prop}
theorem fg.append {S:aC} {B:aP} {as9 pS:List θ} {vs ws:Array Value} (h:fg S B σ as9 vs) (k:fg S B σ pS ws):fg S B σ (as9++pS) (vs++ws):=by
 refine⟨by simp[h.1,k.1],λi a v J γ=>?_⟩;by_cases aH:i<as9.length
 ·rw[ea aH] at J;rw[Array.getElem?_append_left (by rw[<-h.1];exact aH)] at γ;exact h.2 i a v J γ
 ·rw[hE (by omega)] at J;rw[Array.getElem?_append_right (by rw[<-h.1];omega),<-h.1] at γ;exact k.2 _ a v J γ
theorem ak.mono {g:FuncId} {args:List θ} {K':θ->List Row->Prop} {E':θ->List Row->Prop} (h:ak P g args σ K E) (I:∀a s,K a s->K' a s) (de:∀a s,E a s->E' a s):ak P g args σ K' E':=
 ⟨h.1,λQ mn x c rest S B H vs U Β hv hb=>h.2 Q mn x c rest S B H vs U Β hv ⟨λa σ' ay B' H' v χ=>hb.ret a σ' ay B' H' v (I _ _ χ),λa σ' ay B' H' v χ=>hb.x0 a σ' ay B' H' v (de _ _ χ)⟩⟩
theorem h1.mono {f:θ} {args:List θ} {K':θ->List Row->Prop} {E':θ->List Row->Prop} (h:h1 P f args σ K E) (I:∀a s,K a s->K' a s) (de:∀a s,E a s->E' a s):h1 P f args σ K' E':=
 λQ mn x c rest S B H an vs U Β Τ hv hb=>h Q mn x c rest S B H an vs U Β Τ hv ⟨λa σ' ay B' H' v χ=>hb.ret a σ' ay B' H' v (I _ _ χ),λa σ' ay B' H' v χ=>hb.x0 a σ' ay B' H' v (de _ _ χ)⟩
theorem ak.call {g:FuncId} {first args captured:List θ} (h:ak P g (first++args++captured) σ K E):h1 P (.fn (.func g) first captured) args σ K E:=by
 intro Q mn x c rest S B H an vs U Β Τ hv hb;cases Τ with
 | fn v1 v2 J γ π Μ=>
  refine υ.bind' (υ.pure' ?_);obtain⟨⟨fn,bY,kL,DK⟩,HF⟩:=h;unfold invoke;simp only;unfold callFunc;refine υ.bind' ?_;show υ P (match P.funcs[g]? with|none=>_|some fn=>_) H _ _;rw[bY];simp only[kL,DK,Bool.false_eq_true,if_false];refine υ.pure' ?_;have r1:fg S B σ first v1:=⟨J,π⟩
  have r2:fg S B σ captured v2:=⟨γ,Μ⟩;exact HF Q mn x c rest S B H _ U Β ((r1.append hv).append r2) hb
def fA (env:Ω) (ops:Array Oper) (o:Oper):Option Bool:=match o.guard with
 | none=>some true
 | some (j,want)=>match (ops[j]?).bind (·.dst) with
  | some d=>match a5 env d with
   | .z (.bool b)=>some (b==want)
   | _=>none
  | none=>none
theorem jX {S:aC} {B:aP} {t:Array Value} (h:cY S B σ env t) {ops:Array Oper} {o:Oper} {w:Bool} (hw:fA env ops o=some w):Region.wanted o (yielded ops t)=w:=by
 unfold fA at hw;unfold Region.wanted;split at hw
 ·rename_i Υ;rw[Υ];cases hw;rfl
 ·rename_i j want Υ;rw[Υ];split at hw
  ·rename_i d hd;split at hw
   ·rename_i b hb;cases hw;have μ:=h d;rw[hb] at μ;unfold yielded;rw[Array.getD_eq_getD_getElem?] at μ;cases Ξ:t[d]? with
    | none=>rw[Ξ] at μ;cases μ
    | some v=>
     rw[Ξ] at μ;simp only[Option.getD_some] at μ;cases μ;simp only[hd,Option.bind_some,Ξ];cases b<;>cases want<;>rfl
   ·cases hw
  ·cases hw
def ca (o:Oper) (env:Ω) (a:θ):Ω:=match o.dst with|some d=>(d,a)::env|none=>env
def h2 (nt:Nat) (o:Oper):Bool:=match o.dst with|some d=>decide (d<nt)|none=>true
theorem q3 {S:aC} {B:aP} {t:Array Value} (h:cY S B σ env t) {o:Oper} (hd:h2 nt o=true) (Ξ:t.size=nt) {a:θ} {v:Value} (ν:ar S B σ a v):cY S B σ (ca o env a) (put o t v)/\(put o t v).size=nt:=by
 unfold ca put;unfold h2 at hd;cases q4:o.dst with
 | none=>exact⟨h,Ξ⟩
 | some d=>
  rw[q4] at hd;simp only[decide_eq_true_eq] at hd;exact⟨h.put (by rw[Ξ];exact hd) ν,by simp[Ξ]⟩
theorem W.unwanted {ops:Array Oper} {i:Nat} {o:Oper} {rest:List Nat} (Γ:ops[i]?=some o) (hw:fA env ops o=some false) (hd:h2 nt o=true) (h:W P m nt (.inRegion ops rest::k) (ca o env .cz) σ Z F):W P m nt (.inRegion ops (i::rest)::k) env σ Z F:=
 λQ mn x cs b S B H t U hb ω Η he=>by
 obtain⟨s1,s2⟩:=q3 ω.b6 hd ω.size (a:=.cz) (v:=undef) (.cz _);exact .unwanted U hb Γ (jX ω.b6 hw) (h Q mn x cs b S B H _ U hb ⟨ω.holds,s1,s2,ω.rows⟩ Η he)
theorem W.op (Θ:bT P T) {ops:Array Oper} {i:Nat} {o:Oper} {rest:List Nat} (Γ:ops[i]?=some o) (hw:fA env ops o=some true) (hd:h2 nt o=true) (ko:∀c,o.op≠.defer c)
  (h:((mo T A env o).or σ (kp T A env σ o)).holds λa σ'=>W P m nt (.inRegion ops rest::k) (ca o env a) σ' Z F):W P m nt (.inRegion ops (i::rest)::k) env σ Z F:=
 λQ mn x cs b S B H t U hb ω Η he=>by
 refine .op U hb Γ (jX ω.b6 hw) (.inr ko) ?_;have Vv:=cB.Vm (Vs (A:=A) Θ ω.holds ω.b6 o) (Vt (A:=A) Θ ω.holds ω.b6 o);refine υ.mono (λgy H' ⟨v,hv,ay,B',σ',a,I,q5,jc,Α,μ⟩=>?_) (λ_ _ h=>h.elim) _ (Vv _ h);obtain⟨s1,s2⟩:=q3 (ω.b6.later Α) hd ω.size μ;have ν:eJ m S B H σ ay B' H' σ':=.of q5 Α;have fin:aE P Q mn x (au b (put o t v) (.inRegion ops rest::k)) cs H':=
  I Q mn x cs b ay B' H' _ U hb ⟨jc,s1,s2,Nat.le_trans ω.rows Α.length⟩ (λj ha gA cU e5 bO t2 cy Ρ ag aV cr=>Η j ha gA cU e5 bO t2 cy Ρ (ν.trans ag) aV cr)
   (λba ha gA cU e5 bO t2 cy v2 Ρ ag aV cr gO=>he ba ha gA cU e5 bO t2 cy v2 Ρ (ν.trans ag) aV cr gO)
 cases gy<;>simp only[Ml,reduceCtorEq,Option.some.injEq] at hv<;>first|(subst hv;exact fin)|skip
theorem W.call {ops:Array Oper} {i:Nat} {o:Oper} {rest:List Nat} (Γ:ops[i]?=some o) (hw:fA env ops o=some true) (hd:h2 nt o=true) {f:Operand} {args:Array Operand} {dW:Array TypeId} (Ν:o.op=.call ⟨.value f,args,dW⟩)
  (h:h1 P (aO env f) (args.toList.map (aO env)) σ (λa σ'=>W P m nt (.inRegion ops rest::k) (ca o env a) σ' Z F) (λa s=>F a env s)):W P m nt (.inRegion ops (i::rest)::k) env σ Z F:=
 λQ mn x cs b S B H t U hb ω Η he=>by
 refine .op U hb Γ (jX ω.b6 hw) (.inr λc=>by rw[Ν];simp) ?_;have mq:fg S B σ (args.toList.map (aO env)) (args.map (br t)):=by
  refine⟨by simp,λi a v J γ=>?_⟩;rw[List.getElem?_map,Array.getElem?_toList] at J;rw[Array.getElem?_map] at γ;cases U:args[i]? with
  | none=>rw[U] at J;cases J
  | some y=>rw[U] at J γ;cases J;cases γ;exact lz ω.b6 y
 have HF:=h Q mn x (au b t (.inRegion ops (i::rest)::k)) cs S B H (br t f) (args.map (br t)) U ω.holds (lz ω.b6 f) mq ⟨λa σ' ay B' H' v I q5 Α jc μ=>?_,λa σ' ay B' H' v de q5 Α jc μ=>?_⟩
 ·have e:execOp (br t) o=(do let d <-Deferred.ofValue (br t f) (args.map (br t));invoke d.target d.args):=by unfold execOp;rw[Ν];rfl
  rw[e];refine υ.mono (λgy H' Ι=>?_) (λ_ _ h=>h.elim) _ HF;cases gy<;>first|exact Ι.elim|exact Ι|skip
  rename_i v;have:=ij (b:=b) (t:=t) (k:=k) (v:=v) Γ (rest:=rest);simp only[M6] at Ι;rw[this] at Ι;exact Ι
 ·obtain⟨s1,s2⟩:=q3 (ω.b6.later Α) hd ω.size μ;have ν:eJ m S B H σ ay B' H' σ':=.of q5 Α;rw[ij Γ];exact I Q mn x cs b ay B' H' _ U hb ⟨jc,s1,s2,Nat.le_trans ω.rows Α.length⟩ (λj ha gA cU e5 bO t2 cy Ρ ag aV cr=>Η j ha gA cU e5 bO t2 cy Ρ (ν.trans ag) aV cr)
   (λba ha gA cU e5 bO t2 cy v2 Ρ ag aV cr gO=>he ba ha gA cU e5 bO t2 cy v2 Ρ (ν.trans ag) aV cr gO)
 ·have:=he a env σ' ay B' H' t (.inRegion ops (i::rest)::k) v de (.of q5 Α) jc (ω.b6.later Α) μ
  have e:(au b t (.inRegion ops (i::rest)::k)).raise [{v,recovered:=false}]={au b t (.inRegion ops (i::rest)::k) with mode:=.panicking [{v,recovered:=false}]}:=by simp[Frame.raise,au,hb]
  rw[e];exact this
theorem W.panic {ops:Array Oper} {i:Nat} {o:Oper} {rest:List Nat} (Γ:ops[i]?=some o) (hw:fA env ops o=some true) {y:Operand} (Ν:o.op=.panic y) {ty:TypeId} {a:θ} (Ο:aO env y=.fH ty a) (h:F (.fH ty a) env σ):W P m nt (.inRegion ops (i::rest)::k) env σ Z F:=
 λQ mn x cs b S B H t U hb ω Η he=>by
 refine .op U hb Γ (jX ω.b6 hw) (.inr λc=>by rw[Ν];simp) ?_;have μ:=lz ω.b6 y;have e:execOp (br t) o=(do pure (.value (<-Instr.panic (br t y)))):=by unfold execOp;rw[Ν]
 rw[e];rw[Ο] at μ;generalize hv:br t y=v at μ;refine υ.bind' ?_;cases μ with
 | fH e' J=>exact he (.fH ty a) env σ S B H t _ _ h .refl ω.holds ω.b6 (.fH e' J)
end
def vO (P:Program) (T:bd) (A:List Nat) (env:Ω) (o:Oper) (σ:List Row) (K:θ->List Row->Prop) (E:θ->Ω->List Row->Prop):Prop:=match o.op with
 | .call ⟨.value f,args,_⟩=>h1 P (aO env f) (args.toList.map (aO env)) σ K (λa s=>E a env s)
 | .panic y=>match aO env y with|.fH t a=>E (.fH t a) env σ|_=>False
 | .defer _=>False
 | _=>((mo T A env o).or σ (kp T A env σ o)).holds K
def jE (w:Bool) (a b:Prop):Prop:=(w=false->a)/\(w=true->b)
theorem Vw {a b:Prop}:jE true a b=b:=by simp[jE]
theorem Vx {a b:Prop}:jE false a b=a:=by simp[jE]
theorem Vy {w w':Bool} {a b:Prop} (h:w=w'):jE w a b=jE w' a b:=by rw[h]
def gT {α:Type} (x:Option α) (f:α->Prop):Prop:=match x with|none=>False|some a=>f a
theorem Vz {α:Type} {a:α} {f:α->Prop}:gT (some a) f=f a:=Eq.trans rfl rfl
theorem VA {α:Type} {f:α->Prop}:gT none f=False:=rfl
theorem VB {α:Type} {x dd:Option α} {f:α->Prop} (h:x=dd):gT x f=gT dd f:=by rw[h]
theorem VC {K:θ->List Row->Prop} {r r':c6} (h:r=r'):r.holds K=r'.holds K:=by rw[h]
theorem or_congr {r r':cB} {σ:List Row} {s:c6} (h:r=r'):r.or σ s=r'.or σ s:=by rw[h]
def run (P:Program) (T:bd) (A:List Nat) (nt:Nat) (ops:Array Oper):List Nat->Ω->List Row->(Ω->List Row->Prop)->(θ->Ω->List Row->Prop)->Prop
 | [],env,σ,K,_=>K env σ
 | i::is,env,σ,K,E=>gT ops[i]? λo=>h2 nt o=true/\gT (fA env ops o) λw=>
   jE w (run P T A nt ops is (ca o env .cz) σ K E) (vO P T A env o σ (λa σ'=>run P T A nt ops is (ca o env a) σ' K E) E)
def M7 (P:Program) (T:bd) (A:List Nat) (nt:Nat) (ops:Array Oper) (is:List Nat) (o:Oper) (env:Ω) (K:Ω->List Row->Prop) (E:θ->Ω->List Row->Prop) (a:θ) (σ':List Row):Prop:=run P T A nt ops is (ca o env a) σ' K E
theorem q6 {P:Program} {T:bd} {A:List Nat} {nt:Nat} {ops:Array Oper} {env:Ω} {σ:List Row} {K:Ω->List Row->Prop} {E:θ->Ω->List Row->Prop}:run P T A nt ops [] env σ K E=K env σ:=Eq.trans rfl rfl
theorem δ {P:Program} {T:bd} {A:List Nat} {nt:Nat} {ops:Array Oper} {i:Nat} {is:List Nat} {env:Ω} {σ:List Row} {K:Ω->List Row->Prop} {E:θ->Ω->List Row->Prop} :
  run P T A nt ops (i::is) env σ K E=gT ops[i]? λo=>h2 nt o=true/\gT (fA env ops o) λw=>
   jE w (run P T A nt ops is (ca o env .cz) σ K E) (vO P T A env o σ (M7 P T A nt ops is o env K E) E):=Eq.trans rfl rfl
theorem M8 {P:Program} {T:bd} {A:List Nat} {nt:Nat} {ops:Array Oper} {is:List Nat} {o:Oper} {env:Ω} {σ:List Row} {K:Ω->List Row->Prop} {E:θ->Ω->List Row->Prop} {a:θ}:M7 P T A nt ops is o env K E a σ=run P T A nt ops is (ca o env a) σ K E:=Eq.trans rfl rfl
section
variable {P:Program} {T:bd} {A:List Nat} {m nt:Nat} {k:List Item} {env:Ω} {σ:List Row} {Z:List Item->Ω->List Row->Prop} {E:θ->Ω->List Row->Prop} {K:θ->List Row->Prop}
theorem W.bJ {ops:Array Oper} (h:W P m nt k env σ Z E):W P m nt (.inRegion ops []::k) env σ Z E:=λQ mn x cs b S B H t U hb ω Η he=>.bJ U hb (h Q mn x cs b S B H t U hb ω Η he)
theorem HG (Θ:bT P T) {ops:Array Oper} (nY:List Nat):∀(is:List Nat) (env:Ω) (σ:List Row),run P T A nt ops is env σ (λenv σ=>W P m nt (.inRegion ops nY::k) env σ Z E) E->W P m nt (.inRegion ops (is++nY)::k) env σ Z E:=by
 intro is
 induction is with
 | nil=>intro env σ h;exact h
 | cons i is Δ=>
  intro env σ h;unfold run gT at h;split at h
  ·exact h.elim
  ·rename_i o Γ;obtain⟨hd,h⟩:=h;split at h
   ·exact h.elim
   rename_i w hw;unfold jE at h;cases w
   ·exact .unwanted Γ hw hd (Δ _ _ (h.1 rfl))
   ·replace h:=h.2 rfl
    unfold vO at h;split at h
    ·rename_i f args dW Ν;exact .call Γ hw hd Ν (h.mono (λa s h=>Δ _ _ h) (λ_ _ h=>h))
    ·rename_i y Ν;split at h
     ·rename_i ty a Ο;exact .panic Γ hw Ν Ο h
     ·exact h.elim
    ·exact h.elim
    ·rename_i J γ π;refine .op (A:=A) Θ Γ hw hd (λc ζ=>π c ζ) ?_;generalize (mo T A env o).or σ (kp T A env σ o)=r at h;have key:∀r:c6,r.holds (λa σ'=>run P T A nt ops is (ca o env a) σ' (λenv σ=>W P m nt (.inRegion ops nY::k) env σ Z E) E)->r.holds λa σ'=>W P m nt (.inRegion ops (is++nY)::k) (ca o env a) σ' Z E:=by
      intro r
      induction r with
      | ok a s=>exact λh=>Δ _ _ h
      | b5 p r mi=>exact λh=>⟨h.1,mi h.2⟩
      | all n f mi=>exact λh i hi=>mi i (h i hi)
      | bad=>exact λh=>h
     exact key r h
theorem c6.VD {K K':θ->List Row->Prop} (I:∀a s,K a s->K' a s):∀r:c6,r.holds K->r.holds K':=by
 intro r
 induction r with
 | ok a s=>exact λh=>I _ _ h
 | b5 p r Δ=>exact λh=>⟨h.1,Δ h.2⟩
 | all n f Δ=>exact λh i hi=>Δ i (h i hi)
 | bad=>exact λh=>h
theorem VE {env:Ω} {o:Oper} {K K':θ->List Row->Prop} (I:∀a s,K a s->K' a s) (h:vO P T A env o σ K E):vO P T A env o σ K' E:=by
 unfold vO at h ⊢;split
 ·rename_i f args dW Ν;rw[Ν] at h;exact h1.mono h I λ_ _ h=>h
 ·rename_i y Ν;rw[Ν] at h;exact h
 ·rename_i Ν;rw[Ν] at h;exact h
 ·rename_i J γ π;split at h
  ·rename_i f args dW Ν;exact absurd Ν (J f args dW)
  ·rename_i y Ν;exact absurd Ν (γ y)
  ·rename_i y Ν;exact absurd Ν (π y)
  ·exact c6.VD I _ h
theorem DL {ops:Array Oper} {nt:Nat} {K K':Ω->List Row->Prop} (I:∀e s,K e s->K' e s):∀(is:List Nat) (env:Ω) (σ:List Row),run P T A nt ops is env σ K E->run P T A nt ops is env σ K' E:=by
 intro is
 induction is with
 | nil=>intro env σ h;exact I _ _ h
 | cons i is Δ=>
  intro env σ h;unfold run gT at h ⊢;cases Γ:ops[i]? with
  | none=>rw[Γ] at h;exact h.elim
  | some o=>
   rw[Γ] at h;simp only at h ⊢;refine⟨h.1,?_⟩
   replace h:=h.2
   cases hw:fA env ops o with
   | none=>rw[hw] at h;exact h.elim
   | some w=>
    rw[hw] at h;unfold jE at h ⊢;exact⟨λe=>Δ _ _ (h.1 e),λe=>VE (λa s=>Δ _ _) (h.2 e)⟩
theorem VF (Θ:bT P T) {ops:Array Oper} (is:List Nat) (env:Ω) (σ:List Row) (h:run P T A nt ops is env σ (λenv σ=>W P m nt k env σ Z E) E):W P m nt (.inRegion ops is::k) env σ Z E:=by
 have:=HG (A:=A) Θ [] is env σ (ops:=ops) (k:=k) (Z:=Z) (E:=E) (P:=P) (m:=m) (nt:=nt);rw[List.append_nil] at this;refine this ?_;have mono:∀(is:List Nat) (env:Ω) (σ:List Row) (K K':Ω->List Row->Prop),(∀e s,K e s->K' e s)->run P T A nt ops is env σ K E->run P T A nt ops is env σ K' E:=λis env σ K K' I h=>DL I is env σ h;exact mono is env σ _ _ (λe s h=>.bJ h) h
def idx:Nat->List Nat->List Nat
 | 0,l=>l
 | n+1,l=>idx n (n::l)
theorem idx_eq (n:Nat):idx n []=List.range n:=by
 have:∀(n:Nat) (l:List Nat),idx n l=List.range.loop n l:=by
  intro n
  induction n with
  | zero=>intro l;rfl
  | succ n Δ=>intro l;exact Δ _
 exact this n []
theorem c7 (Θ:bT P T) {id:Nat} {ops:Array Oper} (h:∀η:Ω->List Row->Prop,(∀env σ,W P m nt k env σ Z E->η env σ)->run P T A nt ops (idx ops.size []) env σ η E):W P m nt (.code (.region id ops false)::k) env σ Z E:=
 λQ mn x cs b S B H t U hb ω Η he=>.region U hb (VF Θ _ _ _ (by rw[<-idx_eq];exact h _ λ_ _ h=>h) Q mn x cs b S B H t U hb ω Η he)
theorem W.forget (env':Ω) (cL:∀p∈env',a5 env p.1=p.2) (h:W P m nt k env' σ Z E):W P m nt k env σ Z E:=
 λQ mn x cs b S B H t U hb ω Η he=>by
 have z9:∀(l:Ω),(∀p∈l,a5 env p.1=p.2)->∀i,a5 l i=.cz\/a5 l i=a5 env i:=by
  intro l
  induction l with
  | nil=>intro _ i;exact .inl rfl
  | cons p l Δ=>
   intro Α i;simp only[a5];split
   ·rename_i e;subst e;exact .inr (Α p (by simp)).symm
   ·exact Δ (λq Χ=>Α q (by simp[Χ])) i
 refine h Q mn x cs b S B H t U hb ⟨ω.holds,λi=>?_,ω.size,ω.rows⟩ Η he;rcases z9 env' cL i with e|e
 ·rw[e];exact .cz _
 ·rw[e];exact ω.b6 i
theorem W.tU (Θ:bT P T) (env':Ω) {id:Nat} {ops:Array Oper} (h:W P m nt k env' σ Z E) (μ:run P T A nt ops (idx ops.size []) env σ (λe s=>s=σ/\∀p∈env',a5 e p.1=p.2) E):W P m nt (.code (.region id ops false)::k) env σ Z E:=
 c7 Θ λη I=>DL (λe s ⟨J,γ⟩=>I e s (J▸W.forget env' γ h)) _ _ _ μ
def vP (i:il) (l:List θ):Option θ:=if i.agg then(if i.size<=l.length then some (.aW (l.take i.size)) else none) else l.head?
def x1 (T:bd) (ty:TypeId) (σ:List Row):θ->Option θ
 | .ad cells=>match T ty with|some i=>vP i cells|none=>none
 | .Ψ id n i j=>match T ty,σ[id]? with
  | some kE,some (.cells _ _ l)=>if l.length=n then match l[i]? with
   | some e=>vP kE (e.cells.drop j)
   | none=>none else none
  | _,_=>none
 | _=>none
def q7 (T:bd) (env:Ω) (σ:List Row):ResultVar->Option θ
 | .tmp t=>some (a5 env t)
 | .cell a ty=>x1 T ty σ (a5 env a)
def z':List θ->θ
 | [a]=>a
 | l=>.bu l
def oO (T:bd) (rs:List ResultVar) (env:Ω) (σ:List Row):Option θ:=(rs.mapM (q7 T env σ)).map z'
theorem M9 {i:il} {l:List θ} {v:θ} (h:vP i l=some v):tK i l=.ok v:=by
 unfold vP at h;unfold tK;cases zO:i.agg with
 | true=>
  rw[zO] at h;simp only[if_true] at h ⊢;split at h
  ·rename_i hle;cases h;rw[if_pos hle]
  ·cases h
 | false=>
  rw[zO] at h;simp only[Bool.false_eq_true,if_false] at h ⊢;cases l with
  | nil=>cases h
  | cons a l=>cases h;rfl
theorem VG (Θ:bT P T) {S:aC} {B:aP} {H:ψ} (Β:Holds S B σ H) {ty:TypeId} {a v:θ} {w:Value} (h:x1 T ty σ a=some v) (μ:ar S B σ a w):cJ P (do loadVar ty (<-asAddr w)) S B H σ (.ok v σ):=by
 unfold x1 at h;split at h
 ·rename_i cells;split at h
  ·rename_i i hi;cases μ with
   | ad b o w J γ=>
    have:=CQ Θ Β hi w (λj a ε=>Β.dg _ _ _ (J j a ε)) γ;rw[M9 h] at this;exact this
  ·cases h
 ·rename_i id n i j;split at h
  ·rename_i kE t k l hi Α;split at h
   ·rename_i Ι;split at h
    ·rename_i e he;cases μ with
     | Ψ J γ π=>
      rw[Α] at J;cases J;obtain⟨χ,w,hw⟩:=Mm Β Α π he;have:=CQ Θ Β hi (l:=e.cells.drop j) (b:=_) (o:=i*k+j) (λx=>w (j+x)) (λx a U=>⟨true,by
       rw[List.getElem?_drop] at U;rw[Nat.add_assoc];exact(hw _ a U).1⟩) (λx a U=>by
       rw[List.getElem?_drop] at U;exact(hw _ a U).2.1)
      rw[M9 h] at this;exact this
     | jB v J γ=>rw[Α] at J;cases J;simp only[Row.g9] at γ;omega
    ·cases h
   ·cases h
  ·cases h
 ·cases h
theorem Aa (Θ:bT P T) {fn:Func} {a:θ} (h:oO T fn.results.toList env σ=some a) {S:aC} {B:aP} {H:ψ} {t:Array Value} (Β:Holds S B σ H) (ο:cY S B σ env t) :
  υ P (results fn t) H (λv H'=>∃ay B',Ext S B H ay B' H'/\bZ S ay B B' σ σ/\Holds ay B' σ H'/\ar ay B' σ a v) (λ_ _=>False):=by
 let f:ResultVar->Sem Value:=λr=>match r with
  | .tmp x=>pure (t.getD x undef)
  | .cell a ty=>do loadVar ty (<-asAddr (t.getD a undef))
 have key:∀(rs:List ResultVar) (as9:List θ) (S:aC) (B:aP) (H:ψ),rs.mapM (q7 T env σ)=some as9->Holds S B σ H->cY S B σ env t->
   υ P (rs.mapM f) H (λvs H'=>∃ay B',Ext S B H ay B' H'/\bZ S ay B B' σ σ/\Holds ay B' σ H'/\as9.length=vs.length/\∀(i:Nat) (a:θ) (v:Value),as9[i]?=some a->vs[i]?=some v->ar ay B' σ a v) (λ_ _=>False):=by
  intro rs
  induction rs with
  | nil=>intro as9 S B H h Β _;simp at h;subst h;exact υ.pure' ⟨S,B,.refl _ _ _,.refl _ _ _,Β,rfl,λi a v hi=>by simp at hi⟩
  | cons r rs Δ=>
   intro as9 S B H h Β ο;rw[List.mapM_cons] at h ⊢;cases μ:q7 T env σ r with
   | none=>rw[μ] at h;cases h
   | some a=>
    rw[μ] at h;simp only[Option.bind_eq_bind,Option.bind_some] at h;cases Υ:rs.mapM (q7 T env σ) with
    | none=>rw[Υ] at h;cases h
    | some l2=>
     rw[Υ] at h;cases h;have step:υ P (f r) H (λv H'=>∃ay B',Ext S B H ay B' H'/\bZ S ay B B' σ σ/\Holds ay B' σ H'/\ar ay B' σ a v) (λ_ _=>False):=by
      cases r with
      | tmp x=>simp only[q7,Option.some.injEq] at μ;subst μ;exact υ.pure' ⟨S,B,.refl _ _ _,.refl _ _ _,Β,ο x⟩
      | cell x ty=>
       refine υ.mono (λv H' ⟨ay,B',σ',b9,⟨J,γ⟩,π,Μ,aB,bc⟩=>?_) (λ_ _ h=>h) _ (VG Θ Β μ (ο x) (λb9 bq=>b9=a/\bq=σ) ⟨rfl,rfl⟩);subst J;subst γ;exact⟨ay,B',π,aB,Μ,bc⟩
     refine υ.bind' (υ.mono (λv H1 ⟨bB,bG,Ε,l1,J,r1⟩=>?_) (λ_ _ h=>h) _ step);refine υ.bind' (υ.mono (λvs bO ⟨cU,e5,Ζ,M',γ,fP,r2⟩=>?_) (λ_ _ h=>h) _ (Δ l2 bB bG H1 Υ J (ο.later l1)));refine υ.pure' ⟨cU,e5,Ε.trans Ζ,l1.trans M',γ,by simp[fP],λi b9 e' hi hv=>?_⟩
     match i with
     | 0=>simp at hi hv;subst hi;subst hv;exact r1.later M'
     | i+1=>simp at hi hv;exact r2 i b9 e' hi hv
 unfold oO at h;cases hm:fn.results.toList.mapM (q7 T env σ) with
 | none=>rw[hm] at h;cases h
 | some as9=>
  rw[hm] at h;cases h;have χ:=key fn.results.toList as9 S B H hm Β ο;unfold results;rw[Array.mapM_eq_mapM_toList];refine υ.bind' ?_;refine υ.bind (fn.results.toList.mapM f) (υ.mono (λvs H1 ⟨bB,bG,Ε,l1,J,hI,r1⟩=>?_) (λ_ _ h=>h) _ χ);refine υ.pure' ?_;refine υ.pure' ⟨bB,bG,Ε,l1,J,?_⟩;by_cases Ι:vs.toArray.size=1
  ·rw[dif_pos Ι];have tV:vs.length=1:=by simpa using Ι
   obtain⟨v,rfl⟩:=List.length_eq_one_iff.1 tV;obtain⟨a,rfl⟩:=List.length_eq_one_iff.1 (hI.trans tV);exact r1 0 a v rfl rfl
  ·rw[dif_neg Ι];have tV:as9.length≠1:=by rw[hI];simpa using Ι
   have:z' as9=.bu as9:=by
    match as9 with
    | []=>rfl
    | [a]=>simp at tV
    | a::b::l=>rfl
   rw[this];exact .bu _ (by simpa using hI) λi a v hi hv=>r1 i a v hi (by simpa using hv)
def entry:Nat->List θ->Ω
 | _,[]=>[]
 | i,a::as9=>(i,a)::entry (i+1) as9
theorem Na {S:aC} {B:aP} {as9:List θ} {vs:Array Value} (h:fg S B σ as9 vs) (n:Nat):cY S B σ (entry 0 as9) (vs++Array.replicate n undef):=by
 have key:∀(l:List θ) (j i:Nat),a5 (entry j l) i=if j<=i then(l[i-j]?).getD .cz else .cz:=by
  intro l
  induction l with
  | nil=>intro j i;simp[entry,a5]
  | cons a l Δ=>
   intro j i;simp only[entry,a5];by_cases e:j=i
   ·subst e;simp
   ·rw[if_neg e,Δ];by_cases hle:j<=i
    ·rw[if_pos (by omega),if_pos hle];have:i-j=(i-(j+1))+1:=by omega
     rw[this,List.getElem?_cons_succ]
    ·rw[if_neg (by omega),if_neg hle]
 intro i;rw[key,if_pos (Nat.zero_le _),Nat.sub_zero];by_cases aH:i<as9.length
 ·have ν:=a2 aH;rw[ν];have hv:i<vs.size:=by rw[<-h.1];exact aH
  rw[Array.getD_eq_getD_getElem?,Array.getElem?_append_left hv];exact h.2 i _ _ ν (by rw[e9 hv];rfl)
 ·rw[List.getElem?_eq_none (by omega)];exact .cz _
def Ends (T:bd) (rs:List ResultVar) (K:θ->List Row->Prop) (j:List Item) (env:Ω) (σ:List Row):Prop:=match j with
 | []=>∃a,oO T rs env σ=some a/\K a σ
 | .code .ret::_=>∃a,oO T rs env σ=some a/\K a σ
 | _=>False
theorem ak.VH {F:θ->List Row->Prop} (Θ:bT P T) {g:FuncId} {fn:Func} {body:Code} (bY:P.funcs[g]?=some fn) (nf:fn.body=some body) (vG:(fn.name == "runtime.NumGoroutine")=false) {args:List θ} (hlen:args.length<=fn.ntmps)
  (h:W P σ.length fn.ntmps [.code body] (entry 0 args) σ (Ends T fn.results.toList K) (λa _ s=>F a s)):ak P g args σ K F:=by
 refine⟨⟨fn,bY,vG,by rw[nf];rfl⟩,λQ mn x c rest S B H vs U Β hv hb=>?_⟩;have kM:∀{α:Type} (l:List α),l.length=σ.length->l.take σ.length=l:=λl Α=>List.take_of_length_le (by omega);have eP:Frame.enter P g vs .normal=au (Frame.enter P g vs .normal) (vs++Array.replicate (fn.ntmps-vs.size) undef) [.code body]:=by
  simp[Frame.enter,au,bY,nf]
 rw[eP];have cp:(vs++Array.replicate (fn.ntmps-vs.size) undef).size=fn.ntmps:=by
  have:=hv.1;simp;omega
 refine h Q mn x (c::rest) _ S B H _ U rfl ⟨Β,Na hv _,cp,Nat.le_refl _⟩ (λj env' σ' ay B' H' t' ab Η ν ω Α=>?_) (λa env' σ' ay B' H' t' ab v de ν jc _ μ=>?_)
 ·have HH:bZ S ay B B' σ σ':=by
   have:=ν.later
   rwa [kM B Β.len,kM σ rfl] at this
  have fin:(∃a,oO T fn.results.toList env' σ'=some a/\K a σ')->aE P Q mn x {au (Frame.enter P g vs .normal) t' ab with mode:=.returning} (c::rest) H':=λ⟨a,J,γ⟩=>by
   refine .back U rfl rfl (.inl rfl) bY ?_;refine υ.mono (λv bO ⟨cU,e5,Ζ,l2,π,r2⟩=>?_) (λ_ _ h=>h) _ (Aa Θ J ω.holds ω.b6);exact hb.ret a σ' cU e5 bO v γ (ν.ext.trans Ζ) (HH.trans l2) π r2
  have:ab=j:=Α;subst this;unfold Ends at Η;split at Η
  ·exact .sa U rfl rfl (fin Η)
  ·exact .ret U rfl rfl (fin Η)
  ·exact Η.elim
 ·have HH:bZ S ay B B' σ σ':=by
   have:=ν.later
   rwa [kM B Β.len,kM σ rfl] at this
  refine .raised U rfl rfl ?_ (hb.x0 a σ' ay B' H' v de ν.ext HH jc μ);simp[Frame.catches,au,Frame.enter,bY]
end
section
variable {P:Program} {S ay:aC} {B:aP} {H H':ψ} {σ:List Row}
theorem ar.take {h:Nat} {a:θ} {v:Value} (μ:ar S B σ a v) (hb:av h a):ar S (B.take h) (σ.take h) a v:=by
 have bh:∀{α:Type} (l:List α) (i:Nat),i<h->(l.take h)[i]?=l[i]?:=λl i hi=>List.getElem?_take_of_lt hi
 induction μ with
 | z v=>exact .z v
 | ad b o w J _ Δ=>
  cases hb with
  | ad hb=>exact .ad b o w J λj a ε=>Δ j a ε (hb a (cv ε))
 | iI base cap h=>exact .iI base cap h
 | sl b o cap w J γ π Μ _ Δ=>
  cases hb with
  | sl hb=>exact .sl b o cap w J γ π Μ λi e hi j c ε=>Δ i e hi j c ε (hb e (cv hi) c (cv ε))
 | aW vs J _ Δ=>
  cases hb with
  | aW hb=>exact .aW vs J λi a v hi hv=>Δ i a v hi hv (hb a (cv hi))
 | bu vs J _ Δ=>
  cases hb with
  | bu hb=>exact .bu vs J λi a v hi hv=>Δ i a v hi hv (hb a (cv hi))
 | Ψ J γ π=>
  cases hb with
  | Ψ hb=>exact .Ψ (by rw[bh _ _ hb];exact J) γ (by rw[bh _ _ hb];exact π)
 | jB v J γ=>
  cases hb with
  | Ψ hb=>exact .jB v (by rw[bh _ _ hb];exact J) γ
 | ms cap J γ π Μ aB bc=>
  cases hb with
  | ms hb=>exact .ms cap (by rw[bh _ _ hb];exact J) γ (by rw[bh _ _ hb];exact π) Μ aB bc
 | ja v J γ=>
  cases hb with
  | ms hb=>exact .ja v (by rw[bh _ _ hb];exact J) γ
 | fn vs ws J γ _ _ sc mi=>
  cases hb with
  | fn kH gx=>exact .fn vs ws J γ (λi a v hi hv=>sc i a v hi hv (kH a (cv hi))) λi a v hi hv=>mi i a v hi hv (gx a (cv hi))
 | fH v _ Δ=>
  cases hb with
  | fH hb=>exact .fH v (Δ hb)
 | mp J γ=>
  cases hb with
  | mp hb=>exact .mp (by rw[bh _ _ hb];exact J) (by rw[bh _ _ hb];exact γ)
 | lu v J=>
  cases hb with
  | mp hb=>exact .lu v (by rw[bh _ _ hb];exact J)
 | it J γ=>
  cases hb with
  | it hb=>exact .it (by rw[bh _ _ hb];exact J) (by rw[bh _ _ hb];exact γ)
 | m7 v J=>
  cases hb with
  | it hb=>exact .m7 v (by rw[bh _ _ hb];exact J)
 | cz v=>exact .cz v
theorem ar.any {a:θ} {v:Value} (μ:ar S B σ a v) (hb:av 0 a) (e5:aP) (gA:List Row):ar S e5 gA a v:=by
 have J:ar S [] [] a v:=by simpa using μ.take hb
 exact J.later ⟨λ_ _ _ h=>h,λid r h=>by simp at h⟩
theorem Holds.bare (Β:Holds S B σ H):Holds S [] [] H:=
 ⟨Β.dg,rfl,λid r bo h=>by simp at h,λi j ej b' b gM gN fE h=>by simp at h,λid r b N h=>by simp at h⟩
theorem Holds.back (Β:Holds S B σ H) (he:Ext S [] H ay [] H') (ah:Holds ay [] [] H'):Holds ay B σ H'/\Ext S B H ay B H'/\bZ S ay B B σ σ:=by
 have Α:bZ S ay B B σ σ:=⟨he.dg,λid r h=>⟨r,h,r.tI _⟩⟩
 have x2:∀b,¬aP.has ([]:aP) b:=λb ⟨N,h⟩=>by simp at h
 have aW:∀(id:Nat) (r:Row) (b N:Nat),σ[id]?=some r->r.live->B[id]?=some (some (b,N))->kn H H' b:=λid r b N J γ π=>(he.fF b (x2 b) (Β.nS J γ π)).pE λo=>Β.sep id r b N J γ π o;refine⟨⟨ah.dg,Β.len,λid r bo μ eZ=>?_,Β.inj,λid r b N μ fe eZ o=>?_⟩,⟨he.dg,λb _ Τ=>he.fF b (x2 b) Τ,λb hb=>.inl hb,λb o v hv=>?_,he.grow⟩,Α⟩
 ·by_cases fe:r.live
  ·refine(Β.row id r bo μ eZ).later Α (λb N e=>aW id r b N μ fe (by rw[eZ,e])) λm left cur e=>?_;subst e;obtain⟨_,_,aT,kI,xs,clock,seen,_,J,⟨es,γ⟩,_⟩:=Β.row id _ bo μ eZ;exact⟨rfl,rfl,λb N hb=>aW m _ b N γ trivial hb⟩
  ·cases r<;>first|exact absurd trivial fe|trivial
 ·cases hv:ay b o with
  | none=>rfl
  | some v=>
   rcases he.qP b o v hv with h|h|h
   ·rw[Β.sep id r b N μ fe eZ o] at h;cases h
   ·exact absurd h (x2 b)
   ·exact absurd h (Β.nS μ fe eZ)
 ·rcases he.qP b o v hv with h|h|h
  ·exact .inl h
  ·exact absurd h (x2 b)
  ·exact .inr (.inr h)
theorem ak.frame {g:FuncId} {args:List θ} {K:θ->Prop} {E:θ->Prop} (h:ak P g args [] (λa s=>K a/\av 0 a/\s=[]) (λa s=>E a/\av 0 a/\s=[])) (hb:∀a∈args,av 0 a):ak P g args σ (λa s=>K a/\s=σ) (λa s=>E a/\s=σ):=by
 refine⟨h.1,λQ mn x c rest S B H vs U Β hv h3=>?_⟩;refine h.2 Q mn x c rest S [] H vs U Β.bare ⟨hv.1,λi a v J γ=>(hv.2 i a v J γ).any (hb a (cv J)) _ _⟩ ⟨λa σ' ay B' H' v ⟨χ,q0,ο⟩ he Α jc μ=>?_,λa σ' ay B' H' v ⟨χ,q0,ο⟩ he Α jc μ=>?_⟩
 all_goals
  subst ο;have fb:B'=[]:=dp.1 (by rw[jc.len];rfl);subst fb;obtain⟨dP,p2,p3⟩:=Β.back he jc
 ·exact h3.ret a σ ay B H' v ⟨χ,rfl⟩ p2 p3 dP (μ.any q0 _ _)
 ·exact h3.x0 a σ ay B H' v ⟨χ,rfl⟩ p2 p3 dP (μ.any q0 _ _)
def Ab (P:Program) (g:FuncId) (args:List θ) (r:θ):Prop:=ak P g args [] (λa s=>a=r/\s=[]) (λ_ _=>False)
theorem Ab.call {g:FuncId} {first args captured:List θ} {r:θ} {K:θ->List Row->Prop} {E:θ->List Row->Prop} (h:Ab P g (first++args++captured) r) (hb:∀a∈first++args++captured,av 0 a) (μ:av 0 r) (I:K r σ) :
  h1 P (.fn (.func g) first captured) args σ K E:=by
 have J:ak P g (first++args++captured) [] (λa s=>a=r/\av 0 a/\s=[]) (λa s=>False/\av 0 a/\s=[]):=h.mono (λa s ⟨Ε,Ζ⟩=>⟨Ε,Ε▸μ,Ζ⟩) (λ_ _ h=>h.elim);exact ak.call ((J.frame (σ:=σ) hb).mono (λa s ⟨Ε,Ζ⟩=>by subst Ε;subst Ζ;exact I) (λ_ _ h=>h.1.elim))
end
theorem VI {h:Nat} {v:Value}:av h (.z v)↔True:=⟨λ_=>trivial,λ_=>.z v⟩
theorem VJ {h:Nat}:av h .cz↔True:=⟨λ_=>trivial,λ_=>.cz⟩
theorem HI {h:Nat} {l:List θ}:av h (.ad l)↔∀a∈l,av h a:=⟨λx=>by cases x;assumption,.ad⟩
theorem VK {h:Nat} {l:List θ}:av h (.aW l)↔∀a∈l,av h a:=⟨λx=>by cases x;assumption,.aW⟩
theorem VL {h:Nat} {l:List θ}:av h (.bu l)↔∀a∈l,av h a:=⟨λx=>by cases x;assumption,.bu⟩
theorem fJ {h:Nat} {ex:Bool} {k:Nat} {l:List θ}:av h (.sl ex k l)↔∀e∈l,∀a∈e.cells,av h a:=⟨λx=>by cases x;assumption,.sl⟩
theorem VM {h:Nat} {t:TypeId} {a:θ}:av h (.fH t a)↔av h a:=⟨λx=>by cases x;assumption,.fH⟩
theorem hM {h id n i j:Nat}:av h (.Ψ id n i j)↔id<h:=⟨λx=>by cases x;assumption,.Ψ⟩
theorem ng {h id n i j:Nat}:av h (.ms id n i j)↔id<h:=⟨λx=>by cases x;assumption,.ms⟩
theorem ss {h id:Nat}:av h (.mp id)↔id<h:=⟨λx=>by cases x;assumption,.mp⟩
theorem VN {h id:Nat}:av h (.it id)↔id<h:=⟨λx=>by cases x;assumption,.it⟩
theorem lE {h:Nat} {f:Fn} {c9 cs:List θ}:av h (.fn f c9 cs)↔(∀a∈c9,av h a)/\∀a∈cs,av h a:=⟨λx=>by cases x;exact⟨by assumption,by assumption⟩,λx=>.fn x.1 x.2⟩
end Go.TL
