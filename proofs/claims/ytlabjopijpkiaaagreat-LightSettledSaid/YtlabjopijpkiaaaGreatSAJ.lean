import Derived.Test.YtlabjopijpkiaaaGreatSAI
set_option maxHeartbeats 16000000
set_option maxRecDepth 20000
set_option linter.unusedSectionVars false
set_option linter.unusedSimpArgs false
set_option linter.unusedVariables false
namespace Go.TL
open Go.Conc
def cw.or (r:cw) (σ:List Row) (s:cZ):cZ:=match r with
 | .ok a=>.ok a σ
 | .b4 p r=>.b4 p (r.dq σ)
 | .bad=>s
def p' (A:List Nat) (d:Option Tmp):Bool:=match d with|some d=>A.contains d|none=>false
def sH (env:aa) (cO:Array (Nat×Operand)):List (Nat×θ):=cO.toList.map λp=>(p.1,aQ env p.2)
def xR (c a b:θ):cw:=match c with
 | .z (.bool v)=>match a,b with
  | .z (.bool x),.z (.bool y)=>.ok (.z (.bool (bif v then x else y)))
  | _,_=>match v with|true=>.ok a|false=>.ok b
 | _=>.bad
def sI (T:bd) (σ:List Row) (src dst:TypeId) (x:θ):cw:=match xK T src dst x with
 | .bad=>match Dq T src dst x with
  | .bad=>tX T src dst σ x
  | r=>r
 | r=>r
def mF (T:bd) (A:List Nat) (env:aa) (o:Oper):cw:=
 match o.op with
 | .move x=>.ok (aQ env x)
 | .assign x=>.ok (aQ env x)
 | .pick c a b=>xR (aQ env c) (aQ env a) (aQ env b)
 | .alloc ty=>if p' A o.dst then .bad else CP T ty
 | .box _ x=>if p' A o.dst then .bad else xH (aQ env x)
 | .build ty cO=>mB T (θ.a7 []) ty (sH env cO)
 | .buildSlice ty n cO=>if p' A o.dst then .bad else zL T (θ.a7 []) ty n (sH env cO)
 | .load ty x=>CE T ty (aQ env x)
 | .binOp op ty x y _=>Dl T op ty (aQ env x) (aQ env y)
 | .unOp op _ x=>xC op (aQ env x)
 | .convert s d x=>sI T [] s d (aQ env x)
 | .index ty x i=>Dm T ty (aQ env x) (aQ env i)
 | .nilCheck x=>Dn (aQ env x)
 | .sliceToArrayPointer ty x=>Dp T ty (aQ env x)
 | .makeInterface ty x=>CD T ty (aQ env x)
 | .makeFunc f c5 cs=>.ok (.fn f (c5.toList.map (aQ env)) (cs.toList.map (aQ env)))
 | .makeSlice ty n c=>if p' A o.dst then .bad else CV T ty (aQ env n) (aQ env c)
 | .slice ty x lo hi none=>C4 T ty (aQ env x) (lo.map (aQ env)) (hi.map (aQ env))
 | .fieldAddr ty x f=>CG T ty f (aQ env x)
 | .indexAddr ty x i=>CI T ty (aQ env x) (aQ env i)
 | .typeAssert x _ ty ok=>vE T ty ok (aQ env x)
 | .extract x i=>CC i (aQ env x)
 | .call ⟨.builtin b,⟨[x]⟩,⟨[ty]⟩⟩=>match b with
  | .len=>C6 T ty (aQ env x)
  | _=>.bad
 | .call ⟨.builtin b,⟨[x,y]⟩,⟨[tY,ty]⟩⟩=>match b with
  | .max=>C8 [aQ env x,aQ env y]
  | .append=>if p' A o.dst then .bad else sA T tY ty (θ.a7 []) [] (aQ env x) (aQ env y)
  | _=>.bad
 | _=>.bad
def kx (T:bd) (A:List Nat) (env:aa) (σ:List Row) (o:Oper):cZ:=
 match o.op with
 | .alloc ty=>if p' A o.dst then CO T ty σ else .bad
 | .box ty x=>if p' A o.dst then xI ty σ (aQ env x) else CN σ (aQ env x)
 | .build ty cO=>(mB T (θ.a7 σ) ty (sH env cO)).dq σ
 | .buildSlice ty n cO=>if p' A o.dst then CS T ty n (sH env cO) σ else(zL T (θ.a7 σ) ty n (sH env cO)).dq σ
 | .load ty x=>vF T ty σ (aQ env x)
 | .store ty p x=>CK T ty σ (aQ env p) (aQ env x)
 | .convert s d x=>(sI T σ s d (aQ env x)).dq σ
 | .nilCheck x=>vS σ (aQ env x)
 | .binOp .eql ty x (.const (.slice none 0 0)) _=>Ds T ty σ (aQ env x)
 | .makeMap _ none=>HE σ
 | .mapUpdate ty m k x=>zT T ty σ (aQ env m) (aQ env k) (aQ env x)
 | .insert ty m k x=>zT T ty σ (aQ env m) (aQ env k) (aQ env x)
 | .lookup ty x k ok=>Db T ty ok σ (aQ env x) (aQ env k)
 | .range ty x=>Dd T ty σ (aQ env x)
 | .next it false=>De σ (aQ env it)
 | .entry it=>Dh σ (aQ env it)
 | .makeSlice ty n c=>if p' A o.dst then CU T ty (aQ env n) (aQ env c) σ else .bad
 | .slice ty x lo hi none=>C5 T ty σ (aQ env x) (lo.map (aQ env)) (hi.map (aQ env))
 | .fieldAddr ty x f=>vG T ty f σ (aQ env x)
 | .indexAddr ty x i=>vH T ty σ (aQ env x) (aQ env i)
 | .call ⟨.builtin b,⟨[x]⟩,⟨[ty]⟩⟩=>match b with
  | .len=>C7 T ty σ (aQ env x)
  | .clear=>Dk T ty σ (aQ env x)
  | _=>.bad
 | .call ⟨.builtin b,⟨[x,y]⟩,⟨[tY,ty]⟩⟩=>match b with
  | .append=>if p' A o.dst then C2 T tY ty σ (aQ env x) (aQ env y) else(sA T tY ty (θ.a7 σ) σ (aQ env x) (aQ env y)).dq σ
  | _=>.bad
 | _=>.bad
section
variable {P:Program} {T:bd} {A:List Nat} {S:aB} {B:aR} {H:Α} {σ:List Row} {env:aa} {t:Array Value}
theorem cw.WH {s:Sem Next} {r:cw} {a:cZ} (J:Does P s S B H σ (r.dq σ)) (γ:Does P s S B H σ a):Does P s S B H σ (r.or σ a):=by
 cases r with
 | ok x=>exact J
 | b4 p r=>exact J
 | bad=>exact γ
theorem WI (Β:Holds S B σ H) {c a b:θ} {u v w:Value} (ζ:ao S B σ c u) (ξ:ao S B σ a v) (hb:ao S B σ b w):cF P (do pure (if <-asBool u then v else w)) S B H σ ((xR c a b).dq σ):=by
 unfold xR;split
 ·rename_i x;cases ζ;split
  ·rename_i p q;cases ξ;cases hb;intro K I;refine υ.bind' (υ.pure' (υ.pure' ?_));cases x
   ·exact .same Β I (.z _)
   ·exact .same Β I (.z _)
  ·cases x
   ·exact λK I=>υ.bind' (υ.pure' (υ.pure' (.same Β I hb)))
   ·exact λK I=>υ.bind' (υ.pure' (υ.pure' (.same Β I ξ)))
 ·exact .bad
theorem WJ (cD:de S B σ env t) (f:Fn) (c5 cs:Array Operand):ao S B σ (.fn f (c5.toList.map (aQ env)) (cs.toList.map (aQ env))) (.func f (c5.map (bs t)) (cs.map (bs t))):=by
 refine .fn _ _ (by simp) (by simp) (λi a v J γ=>?_) (λi a v J γ=>?_)
 ·rw[List.getElem?_map] at J;rw[Array.getElem?_map] at γ;rw[Array.getElem?_toList] at J;cases U:c5[i]? with
  | none=>rw[U] at J;cases J
  | some x=>rw[U] at J γ;cases J;cases γ;exact lJ cD x
 ·rw[List.getElem?_map] at J;rw[Array.getElem?_map] at γ;rw[Array.getElem?_toList] at J;cases U:cs[i]? with
  | none=>rw[U] at J;cases J
  | some x=>rw[U] at J γ;cases J;cases γ;exact lJ cD x
theorem Dt (cD:de S B σ env t) (o:Option Operand):vK S B σ (o.map (aQ env)) (o.map (bs t)):=by
 cases o with
 | none=>trivial
 | some x=>exact lJ cD x
theorem NJ {a:θ} {r:Nat×List θ} (h:pZ [] a=some r):pZ σ a=some r:=by
 cases a<;>first|exact h|(simp[pZ] at h)
theorem WK {st xt:TypeId} {s x:θ}:sA T st xt (θ.a7 []) [] s x=.bad\/sA T st xt (θ.a7 []) [] s x=sA T st xt (θ.a7 []) σ s x:=by
 unfold sA;cases U:pZ [] x with
 | none=>left;split<;>simp_all
 | some r=>rw[NJ U];exact .inr rfl
theorem NK (Κ:bR P T) (Β:Holds S B σ H) (src dst:TypeId) {x:θ} {v:Value} (U:ao S B σ x v):cF P (convert src dst v) S B H σ ((sI T σ src dst x).dq σ):=by
 have J:=VT Κ Β src dst U
 have γ:=Wx Κ Β src dst U;unfold sI;split
 ·split
  ·exact WA Κ Β src dst U
  ·exact γ
 ·exact J
theorem WL {src dst:TypeId} {x:θ}:tX T src dst [] x=.bad\/tX T src dst [] x=tX T src dst σ x:=by
 unfold tX;split
 ·cases U:pZ [] x with
  | none=>exact .inl rfl
  | some r=>rw[NJ U];exact .inr rfl
 ·exact .inl rfl
theorem WM {src dst:TypeId} {x:θ}:sI T [] src dst x=.bad\/sI T [] src dst x=sI T σ src dst x:=by
 unfold sI;split
 ·split
  ·exact WL
  ·exact .inr rfl
 ·exact .inr rfl
theorem WN (Κ:bR P T) (Β:Holds S B σ H) (cD:de S B σ env t) (o:Oper):Does P (execOp (bs t) o) S B H σ ((mF T A env o).dq σ):=by
 have Ω:∀x,ao S B σ (aQ env x) (bs t x):=λx=>lJ cD x;obtain⟨dst,op,type,pos,after,guard⟩:=o;unfold mF;simp only;split
 ·exact Does.val Β (Ω _)
 ·exact Does.val Β (Ω _)
 ·rename_i c a b;have:=(WI (P:=P) Β (Ω c) (Ω a) (Ω b)).next;unfold execOp;simp only;refine λK I=>?_;have γ:=this K I;simpa using γ
 ·split
  ·exact .bad
  ·exact(Vx Κ Β _).next
 ·split
  ·exact .bad
  ·exact(Vu Β _ (Ω _)).next
 ·exact(Nd Κ Β (λa h=>CL h) _ cD _).next
 ·split
  ·exact .bad
  ·exact(Nh Κ Β (λa h=>CL h) _ _ cD _).next
 ·exact(Vi Κ Β (Ω _)).next
 ·exact(Ws Κ Β _ _ _ _ (Ω _) (Ω _)).next
 ·exact(Vd Β _ (Ω _)).next
 ·rename_i a b x;rcases WM (T:=T) (σ:=σ) (src:=a) (dst:=b) (x:=aQ env x) with h|h
  ·rw[h];exact .bad
  ·rw[h];exact(NK Κ Β _ _ (Ω _)).next
 ·exact(Wt Κ Β _ (Ω _) (Ω _)).next
 ·exact Wu Β rfl (Ω _)
 ·exact(Ww Κ Β _ (Ω _)).next
 ·exact(Vf Κ Β _ (Ω _)).next
 ·exact cF.next (cF.pure Β (WJ cD _ _ _))
 ·split
  ·exact .bad
  ·exact(VB Κ Β (Ω _) (Ω _)).next
 ·exact(VP Κ Β _ (Ω _) (Dt cD _) (Dt cD _)).next
 ·exact(Vk Κ Β (Ω _)).next
 ·exact(Vp Κ Β (Ω _) (Ω _)).next
 ·exact(Vg Κ Β _ _ _ (Ω _)).next
 ·exact(Ve Β _ (Ω _)).next
 ·split
  ·exact λK I=>by
       refine υ.bind' (υ.pure' ?_);have e:∀x:Operand,Array.map (bs t) {toList:=[x]}=#[bs t x]:=λx=>by simp
       simp only[invoke,builtin,e];exact(VR Κ Β _ _ (Ω _)).next K I
  ·exact .bad
 ·split
  ·exact λK I=>by
       refine υ.bind' (υ.pure' ?_);have e:∀x y:Operand,Array.map (bs t) {toList:=[x,y]}=#[bs t x,bs t y]:=λx y=>by simp
       simp only[invoke,builtin,e];exact(VU Β _ _ (Ω _) (Ω _)).next K I
  ·split
   ·exact .bad
   ·rename_i x y tY ty _ _;rcases WK (T:=T) (σ:=σ) (st:=tY) (xt:=ty) (s:=aQ env x) (x:=aQ env y) with h|h
    ·rw[h];exact .bad
    ·rw[h];exact λK I=>by
       refine υ.bind' (υ.pure' ?_);have e:∀x y:Operand,Array.map (bs t) {toList:=[x,y]}=#[bs t x,bs t y]:=λx y=>by simp
       simp only[invoke,builtin,e];exact(Nn Κ Β (λa h=>CL h) _ _ _ (Ω _) (Ω _)).next K I
  ·exact .bad
 ·exact .bad
theorem WO (Κ:bR P T) (Β:Holds S B σ H) (cD:de S B σ env t) (o:Oper):Does P (execOp (bs t) o) S B H σ (kx T A env σ o):=by
 have Ω:∀x,ao S B σ (aQ env x) (bs t x):=λx=>lJ cD x;obtain⟨dst,op,type,pos,after,guard⟩:=o;unfold kx;simp only;split
 ·split
  ·exact(Vw Κ Β _).next
  ·exact .bad
 ·split
  ·exact(Vv Β _ (Ω _)).next
  ·exact(Vt Β _ (Ω _)).next
 ·exact(Nd Κ Β (λa h=>h) _ cD _).next
 ·split
  ·exact(Vz Κ Β _ _ cD _).next
  ·exact(Nh Κ Β (λa h=>h) _ _ cD _).next
 ·exact(Vj Κ Β (Ω _)).next
 ·exact(Vs Κ Β (Ω _) (Ω _)).next
 ·exact(NK Κ Β _ _ (Ω _)).next
 ·exact Wv Β rfl (Ω _)
 ·exact(WG Κ Β _ _ _ (Ω _)).next
 ·exact(V7 Β _).next
 ·exact(Nx Κ Β (Ω _) (Ω _) (Ω _)).next
 ·exact(Nx Κ Β (Ω _) (Ω _) (Ω _)).next
 ·exact(V8 Κ Β (Ω _) (Ω _)).next
 ·exact(Wc Κ Β (Ω _)).next
 ·exact(Wg Β _ (Ω _)).next
 ·exact(Wl Β (Ω _)).next
 ·split
  ·exact(VA Κ Β (Ω _) (Ω _)).next
  ·exact .bad
 ·exact(VQ Κ Β _ (Ω _) (Dt cD _) (Dt cD _)).next
 ·exact(Vl Κ Β (Ω _)).next
 ·exact(Vq Κ Β (Ω _) (Ω _)).next
 ·split
  ·exact λK I=>by
       refine υ.bind' (υ.pure' ?_);have e:∀x:Operand,Array.map (bs t) {toList:=[x]}=#[bs t x]:=λx=>by simp
       simp only[invoke,builtin,e];exact(VS Κ Β _ _ (Ω _)).next K I
  ·exact λK I=>by
       refine υ.bind' (υ.pure' ?_);have e:∀x:Operand,Array.map (bs t) {toList:=[x]}=#[bs t x]:=λx=>by simp
       simp only[invoke,builtin,e];exact(Wp Κ Β _ (Ω _)).next K I
  ·exact .bad
 ·split
  ·split
   ·exact λK I=>by
       refine υ.bind' (υ.pure' ?_);have e:∀x y:Operand,Array.map (bs t) {toList:=[x,y]}=#[bs t x,bs t y]:=λx y=>by simp
       simp only[invoke,builtin,e];exact(VG Κ Β _ _ _ (Ω _) (Ω _)).next K I
   ·exact λK I=>by
       refine υ.bind' (υ.pure' ?_);have e:∀x y:Operand,Array.map (bs t) {toList:=[x,y]}=#[bs t x,bs t y]:=λx y=>by simp
       simp only[invoke,builtin,e];exact(Nn Κ Β (λa h=>h) _ _ _ (Ω _) (Ω _)).next K I
  ·exact .bad
 ·exact .bad
end
inductive au (h:Nat):θ->Prop where
 | z (v:Value):au h (.z v)
 | Ψ {l:List θ}:(∀a∈l,au h a)->au h (.Ψ l)
 | sl {ex:Bool} {k:Nat} {l:List θ}:(∀e∈l,∀a∈e.cells,au h a)->au h (.sl ex k l)
 | aS {l:List θ}:(∀a∈l,au h a)->au h (.aS l)
 | bn {l:List θ}:(∀a∈l,au h a)->au h (.bn l)
 | al {id n i j:Nat}:id<h->au h (.al id n i j)
 | ms {id n i len:Nat}:id<h->au h (.ms id n i len)
 | fn {f:Fn} {c5 cs:List θ}:(∀a∈c5,au h a)->(∀a∈cs,au h a)->au h (.fn f c5 cs)
 | fF {t:TypeId} {a:θ}:au h a->au h (.fF t a)
 | mp {id:Nat}:id<h->au h (.mp id)
 | it {id:Nat}:id<h->au h (.it id)
 | cg:au h .cg
def eK (h:Nat):Row->Prop
 | .cells _ _ l=>∀e∈l,∀a∈e.cells,au h a
 | .map es=>∀e∈es,au h e.1/\au h e.2
 | .iter m left cur=>m<h/\(∀e∈left,au h e.1/\au h e.2)/\∀e,cur=some e->au h e.1/\au h e.2
 | .dead=>True
inductive ed (h:Nat) (σ:List Row):θ->θ->Prop where
 | low {a:θ}:au h a->ed h σ a a
 | cg (a:θ):ed h σ a .cg
 | ms {id n i len k:Nat} {t:TypeId} {l dR:List θ}:h<=id->σ[id]?=some (.cells t k l)->l.length=n->i+len<=n->dR.length=len->
   (∀(j:Nat) (e aJ:θ),l[i+j]?=some e->dR[j]?=some aJ->aJ.cells.length=e.cells.length)->(∀(j:Nat) (e aJ:θ),l[i+j]?=some e->dR[j]?=some aJ->∀(x:Nat) (a b1:θ),e.cells[x]?=some a->aJ.cells[x]?=some b1->ed h σ a b1)->ed h σ (.ms id n i len) (.sl false k dR)
 | al {id n i j k:Nat} {t:TypeId} {l cs:List θ} {e:θ}:h<=id->σ[id]?=some (.cells t k l)->l.length=n->l[i]?=some e->cs.length<=e.cells.length-j->
   (∀(x:Nat) (a b1:θ),e.cells[j+x]?=some a->cs[x]?=some b1->ed h σ a b1)->ed h σ (.al id n i j) (.Ψ cs)
 | aS {l dR:List θ}:dR.length=l.length->(∀(x:Nat) (a b1:θ),l[x]?=some a->dR[x]?=some b1->ed h σ a b1)->ed h σ (.aS l) (.aS dR)
 | bn {l dR:List θ}:dR.length=l.length->(∀(x:Nat) (a b1:θ),l[x]?=some a->dR[x]?=some b1->ed h σ a b1)->ed h σ (.bn l) (.bn dR)
 | fn {f:Fn} {c5 HP cs cs':List θ}:HP.length=c5.length->cs'.length=cs.length->(∀(x:Nat) (a b1:θ),c5[x]?=some a->HP[x]?=some b1->ed h σ a b1)->(∀(x:Nat) (a b1:θ),cs[x]?=some a->cs'[x]?=some b1->ed h σ a b1)->ed h σ (.fn f c5 cs) (.fn f HP cs')
section
variable {S:aB} {B:aR} {H:Α} {σ:List Row} {h:Nat}
def Late (B:aR) (σ:List Row) (h b:Nat):Prop:=∃id t k l N,h<=id/\σ[id]?=some (Row.cells t k l)/\B[id]?=some (some (b,N))
open Classical in
noncomputable def aB.close (S:aB) (B:aR) (σ:List Row) (H:Α) (h:Nat):aB:=λb o=>if Late B σ h b then(H.aG b o).map (·.1) else S b o
theorem Du (Β:Holds S B σ H):∀b o v,S b o=some v->S.close B σ H h b o=some v:=λb o v hv=>by
 unfold aB.close;split
 ·rename_i ω;obtain⟨id,t,k,l,N,J,γ,π⟩:=ω;have:=Β.sep id _ b N γ trivial π o;rw[hv] at this;cases this
 ·exact hv
theorem ao.qa (Β:Holds S B σ H) {a:θ} {v:Value} (μ:ao S B σ a v) (hb:au h a):ao (S.close B σ H h) (B.take h) (σ.take h) a v:=by
 have bk:∀{α:Type} (l:List α) (i:Nat),i<h->(l.take h)[i]?=l[i]?:=λl i hi=>List.getElem?_take_of_lt hi
 induction μ with
 | z v=>exact .z v
 | Ψ b o w J _ Δ=>
  cases hb with
  | Ψ hb=>exact .Ψ b o w (λj a ε=>Du Β _ _ _ (J j a ε)) λj a ε=>Δ j a ε (hb a (ck ε))
 | iA base cap h=>exact .iA base cap h
 | sl b o cap w J γ π Μ _ Δ=>
  cases hb with
  | sl hb=>exact .sl b o cap w J γ π (λi e hi j c ε=>Du Β _ _ _ (Μ i e hi j c ε)) λi e hi j c ε=>Δ i e hi j c ε (hb e (ck hi) c (ck ε))
 | aS vs J _ Δ=>
  cases hb with
  | aS hb=>exact .aS vs J λi a v hi hv=>Δ i a v hi hv (hb a (ck hi))
 | bn vs J _ Δ=>
  cases hb with
  | bn hb=>exact .bn vs J λi a v hi hv=>Δ i a v hi hv (hb a (ck hi))
 | al J γ π=>
  cases hb with
  | al hb=>exact .al (by rw[bk _ _ hb];exact J) γ (by rw[bk _ _ hb];exact π)
 | jB v J γ=>
  cases hb with
  | al hb=>exact .jB v (by rw[bk _ _ hb];exact J) γ
 | ms cap J γ π Μ aA bc=>
  cases hb with
  | ms hb=>exact .ms cap (by rw[bk _ _ hb];exact J) γ (by rw[bk _ _ hb];exact π) Μ aA bc
 | iW v J γ=>
  cases hb with
  | ms hb=>exact .iW v (by rw[bk _ _ hb];exact J) γ
 | fn vs ws J γ _ _ so mz=>
  cases hb with
  | fn j0 fw=>exact .fn vs ws J γ (λi a v hi hv=>so i a v hi hv (j0 a (ck hi))) λi a v hi hv=>mz i a v hi hv (fw a (ck hi))
 | fF v _ Δ=>
  cases hb with
  | fF hb=>exact .fF v (Δ hb)
 | mp J γ=>
  cases hb with
  | mp hb=>exact .mp (by rw[bk _ _ hb];exact J) (by rw[bk _ _ hb];exact γ)
 | lI v J=>
  cases hb with
  | mp hb=>exact .lI v (by rw[bk _ _ hb];exact J)
 | it J γ=>
  cases hb with
  | it hb=>exact .it (by rw[bk _ _ hb];exact J) (by rw[bk _ _ hb];exact γ)
 | nk v J=>
  cases hb with
  | it hb=>exact .nk v (by rw[bk _ _ hb];exact J)
 | cg v=>exact .cg v
theorem NL {id b N:Nat} {t:TypeId} {k:Nat} {l:List θ} (ag:h<=id) (J:σ[id]?=some (.cells t k l)) (γ:B[id]?=some (some (b,N))) {o:Nat} {v:Value} {p:Bool} (hv:H.aG b o=some (v,p)):S.close B σ H h b o=some v:=by
 unfold aB.close;rw[if_pos ⟨id,t,k,l,N,ag,J,γ⟩,hv];rfl
theorem ao.WQ (Β:Holds S B σ H) {a b1:θ} (ο:ed h σ a b1):∀{v:Value},ao S B σ a v->ao (S.close B σ H h) (B.take h) (σ.take h) b1 v:=by
 induction ο with
 | low hb=>intro v μ;exact μ.qa Β hb
 | cg a=>intro v _;exact .cg v
 | @ms id n i len k t l dR J γ π Μ aA bc _ Δ=>
  intro v μ;cases μ with
  | ms cap Τ af aX cr gH ib=>
   rw[γ] at Τ;cases Τ;by_cases Θ:dR=[]
   ·subst Θ;have:len=0:=by rw[<-aA];rfl
    subst this;exact .iA _ _ (by simp)
   ·have p1:0<len:=by rw[<-aA];exact List.length_pos_iff.2 Θ
    rcases ib with ib|⟨b,N,rfl,rfl,ib⟩
    ·omega
    ·obtain⟨_,_,_,w,hw⟩:=Β.row id _ _ γ aX;have el:∀(j:Nat) (aJ:θ),dR[j]?=some aJ->∃e,l[i+j]?=some e/\e.cells.length=k/\aJ.cells.length=k:=λj aJ ε=>by
      have aD:j<len:=by rw[<-aA];exact(b7.1 ε).1
      have he:l[i+j]?=some l[i+j]:=aW (by omega);exact⟨_,he,(hw _ _ he).1,(bc j _ aJ he ε).trans (hw _ _ he).1⟩
     have:=ao.sl (S:=S.close B σ H h) (B:=B.take h) (σ:=σ.take h) (ex:=false) (k:=k) (l:=dR) b (i*k) cap (λj x=>w (i+j) x) (by simp) (by omega) (λj aJ ε=>(el j aJ ε).choose_spec.2.2)
      (λj aJ ε x b1 U=>by
       obtain⟨e,Ζ,Ε,aY⟩:=el j aJ ε;have Dv:x<e.cells.length:=by rw[Ε,<-aY];exact(b7.1 U).1
       have:=((hw _ e Ζ).2 x _ (aW Dv)).1;rw[Nat.add_mul] at this;exact NL J γ aX this)
      (λj aJ ε x b1 U=>by
       obtain⟨e,Ζ,Ε,aY⟩:=el j aJ ε;have Dv:x<e.cells.length:=by rw[Ε,<-aY];exact(b7.1 U).1
       exact Δ j e aJ Ζ ε x _ b1 (aW Dv) U ((hw _ e Ζ).2 x _ (aW Dv)).2.1)
     rw[aA] at this;exact this
  | iW v Τ af=>rw[γ] at Τ;cases Τ;simp only[Row.g4] at af;omega
 | @al id n i j k t l cs e J γ π Μ aA bc Δ=>
  intro v μ;cases μ with
  | al Τ af aX=>
   rw[γ] at Τ;cases Τ;obtain⟨_,_,_,w,hw⟩:=Β.row id _ _ γ aX;have el:∀(x:Nat) (b1:θ),cs[x]?=some b1->∃a,e.cells[j+x]?=some a:=λx b1 U=>by
    have:=(b7.1 U).1;exact⟨_,aW (by omega)⟩
   refine .Ψ _ _ (λx=>w i (j+x)) (λx b1 U=>?_) (λx b1 U=>?_)
   ·obtain⟨a,ξ⟩:=el x b1 U;have:=((hw i e Μ).2 _ a ξ).1;rw[<-Nat.add_assoc] at this;exact NL J γ aX this
   ·obtain⟨a,ξ⟩:=el x b1 U;exact Δ x a b1 ξ U ((hw i e Μ).2 _ a ξ).2.1
  | jB v Τ af=>rw[γ] at Τ;cases Τ;simp only[Row.g4] at af;omega
 | aS J γ Δ=>
  intro v μ;cases μ with
  | aS vs Τ af=>
   refine .aS vs (by rw[J,Τ]) λi b1 w hi hv=>?_;have aD:=(b7.1 hi).1;have ξ:=aW (J▸aD);exact Δ i _ b1 ξ hi (af i _ w ξ hv)
 | bn J γ Δ=>
  intro v μ;cases μ with
  | bn vs Τ af=>
   refine .bn vs (by rw[J,Τ]) λi b1 w hi hv=>?_;have aD:=(b7.1 hi).1;have ξ:=aW (J▸aD);exact Δ i _ b1 ξ hi (af i _ w ξ hv)
 | fn J γ _ _ so mz=>
  intro v μ;cases μ with
  | fn vs ws Τ af aX cr=>
   refine .fn vs ws (by rw[J,Τ]) (by rw[γ,af]) (λi b1 w hi hv=>?_) (λi b1 w hi hv=>?_)
   ·have aD:=(b7.1 hi).1
    have ξ:=aW (J▸aD);exact so i _ b1 ξ hi (aX i _ w ξ hv)
   ·have aD:=(b7.1 hi).1
    have ξ:=aW (γ▸aD);exact mz i _ b1 ξ hi (cr i _ w ξ hv)
theorem jC.qa (Β:Holds S B σ H) {r:Row} {bo:Option (Nat×Nat)} (μ:jC S B σ H r bo) (hb:eK h r):jC (S.close B σ H h) (B.take h) (σ.take h) H r bo:=by
 have bk:∀{α:Type} (l:List α) (i:Nat),i<h->(l.take h)[i]?=l[i]?:=λl i hi=>List.getElem?_take_of_lt hi;cases r with
 | cells t k l=>
  cases bo with
  | none=>exact μ
  | some x=>
   obtain⟨b,N⟩:=x;obtain⟨J,γ,π,w,Μ⟩:=μ;refine⟨J,γ,π,w,λi e hi=>⟨(Μ i e hi).1,λj a ε=>?_⟩⟩;obtain⟨c1,c2,c3⟩:=(Μ i e hi).2 j a ε;exact⟨c1,c2.qa Β (hb e (ck hi) a (ck ε)),c3⟩
 | map es=>
  obtain⟨b,N,xs,clock,rfl,J,γ,π,Μ⟩:=μ;exact⟨b,N,xs,clock,rfl,J,γ,λi e y a b=>by
   obtain⟨c1,c2,c3⟩:=π i e y a b;exact⟨c1.qa Β (hb e (ck a)).1,c2.qa Β (hb e (ck a)).2,c3⟩,Μ⟩
 | iter m left cur=>
  obtain⟨hm,j0,fw⟩:=hb;obtain⟨b,N,aT,kN,xs,clock,seen,rfl,J,γ,π,Μ,⟨b5,i1,i2,i3⟩,i4,i5⟩:=μ;refine⟨b,N,aT,kN,xs,clock,seen,rfl,by rw[bk _ _ hm];exact J,by rw[bk _ _ hm];exact γ,π,Μ,⟨b5,i1,i2,λi e y a b=>?_⟩,i4,λe he=>?_⟩
  ·obtain⟨c1,c2⟩:=i3 i e y a b;exact⟨c1.qa Β (j0 e (ck a)).1,c2.qa Β (j0 e (ck a)).2⟩
  ·obtain⟨st,y,a,b,c,d⟩:=i5 e he;exact⟨st,y,a,b,c.qa Β (fw e he).1,d.qa Β (fw e he).2⟩
 | dead=>trivial
theorem Holds.close (Β:Holds S B σ H) (hb:∀(id:Nat) (r:Row),id<h->σ[id]?=some r->eK h r) :
  Holds (S.close B σ H h) (B.take h) (σ.take h) H/\Ext S B H (S.close B σ H h) (B.take h) H:=by
 have bk:∀{α:Type} (l:List α) (i:Nat) (x:α),(l.take h)[i]?=some x->i<h/\l[i]?=some x:=λl i x hi=>by
  rw[List.getElem?_take] at hi;split at hi
  ·exact⟨‹_›,hi⟩
  ·cases hi
 refine⟨⟨λb o v hv=>?_,by simp[Β.len],λid r bo μ ez=>?_,λi j ec b' b gF gG e0 hi ε hl d' hn cN=>?_,λid r b N μ ω ez o=>?_⟩,⟨Du Β,λb _ _=>nm.of ⟨λ_=>rfl,rfl,rfl⟩,λb ⟨N,b8⟩=>.inl ⟨N,List.mem_of_mem_take b8⟩,λb o v hv=>?_,λ_ h=>h⟩⟩
 ·unfold aB.close at hv;split at hv
  ·cases ζ:H.aG b o with
   | none=>rw[ζ] at hv;cases hv
   | some x=>rw[ζ] at hv;cases hv;exact⟨x.2,rfl⟩
  ·exact Β.dd b o v hv
 ·obtain⟨J,γ⟩:=bk _ _ _ μ;obtain⟨_,π⟩:=bk _ _ _ ez;exact(Β.row id r bo γ π).qa Β (hb id r J γ)
 ·exact Β.inj i j ec b' b gF gG e0 (bk _ _ _ hi).2 (bk _ _ _ ε).2 hl d' (bk _ _ _ hn).2 (bk _ _ _ cN).2
 ·obtain⟨J,γ⟩:=bk _ _ _ μ;obtain⟨_,π⟩:=bk _ _ _ ez;unfold aB.close;rw[if_neg]
  ·exact Β.sep id r b N γ ω π o
  ·rintro⟨Dw,t,k,l,eP,Τ,af,aX⟩;exact Β.inj id Dw r _ b N eP (by omega) γ af ω trivial π aX
 ·unfold aB.close at hv;split at hv
  ·rename_i ω;obtain⟨id,t,k,l,N,_,_,π⟩:=ω;exact .inr (.inl (oY π))
  ·exact .inl hv
theorem b3.close {fb:aB} {ek:aR} {σ0:List Row} (Β:Holds S B σ H) (ω:b3 fb S ek B σ0 σ) (aU:σ0.length<=h):b3 fb (S.close B σ H h) ek (B.take h) σ0 (σ.take h):=
 ⟨λb o v hv=>Du Β b o v (ω.dd b o v hv),λid r μ=>by
  have bW:id<h:=Nat.lt_of_lt_of_le (b7.1 μ).1 aU;obtain⟨r',J,γ⟩:=ω.rows id r μ;exact⟨r',by rw[List.getElem?_take_of_lt bW];exact J,by rw[List.getElem?_take_of_lt bW];exact γ⟩⟩
end
end Go.TL
namespace Go.TL
open Go.Conc
variable [bm]
structure eU (m:Nat) (S:aB) (B:aR) (H:Α) (σ:List Row) (ax:aB) (B':aR) (H':Α) (σ':List Row):Prop where
 ext:Ext S B H ax B' H'
 later:b3 S ax (B.take m) B' (σ.take m) σ'
structure fx (m nt:Nat) (S:aB) (B:aR) (H:Α) (σ:List Row) (env:aa) (t:Array Value):Prop where
 holds:Holds S B σ H
 cp:de S B σ env t
 size:t.size=nt
 rows:m<=σ.length
section
variable {m:Nat} {S ax zz:aB} {B B' zA:aR} {H H' NM:Α} {σ σ' zB:List Row}
theorem b3.left (h:b3 S ax B B' σ σ') (m:Nat):b3 S ax (B.take m) B' (σ.take m) σ':=
 ⟨h.dd,λid r μ=>by
  rw[List.getElem?_take] at μ;split at μ
  ·rename_i aD;rw[List.getElem?_take_of_lt aD];exact h.rows id r μ
  ·cases μ⟩
theorem b3.right (h:b3 S ax B B' σ σ') (hm:σ.length<=m):b3 S ax B (B'.take m) σ (σ'.take m):=
 ⟨h.dd,λid r μ=>by
  have aD:id<m:=Nat.lt_of_lt_of_le (b7.1 μ).1 hm;rw[List.getElem?_take_of_lt aD,List.getElem?_take_of_lt aD];exact h.rows id r μ⟩
theorem eU.of (h:Ext S B H ax B' H') (k:b3 S ax B B' σ σ'):eU m S B H σ ax B' H' σ':=⟨h,k.left m⟩
theorem eU.refl:eU m S B H σ S B H σ:=.of (.refl _ _ _) (.refl _ _ _)
theorem eU.trans (h:eU m S B H σ ax B' H' σ') (k:eU m ax B' H' σ' zz zA NM zB):eU m S B H σ zz zA NM zB:=
 ⟨h.ext.trans k.ext,(h.later.right (m:=m) (by simp;omega)).trans k.later⟩
theorem b3.length (h:b3 S ax B B' σ σ'):σ.length<=σ'.length:=by
 apply Classical.byContradiction;intro Η;have aD:σ'.length<σ.length:=by omega
 obtain⟨r',J,_⟩:=h.rows σ'.length _ (aW aD);simp at J
end
def Leaves (j:List Item) (k:List Item):Prop:=k=j
def W (P:Program) (m nt:Nat) (k:List Item) (env:aa) (σ:List Row) (Z:List Item->aa->List Row->Prop) (E:θ->aa->List Row->Prop):Prop:=
 ∀(Q:Value->Prop) (mn:Bool) (x:gN) (cs:List Frame) (b:Frame) (S:aB) (B:aR) (H:Α) (t:Array Value),Seq x->b.mode=.run->fx m nt S B H σ env t->
  (∀(j:List Item) (env':aa) (σ':List Row) (ax:aB) (B':aR) (H':Α) (t':Array Value) (ab:List Item),Z j env' σ'->eU m S B H σ ax B' H' σ'->fx m nt ax B' H' σ' env' t'->Leaves j ab->aM P Q mn x (ar b t' ab) cs H')->
  (∀(a:θ) (env':aa) (σ':List Row) (ax:aB) (B':aR) (H':Α) (t':Array Value) (ab:List Item) (v:Value),E a env' σ'->eU m S B H σ ax B' H' σ'->Holds ax B' σ' H'->de ax B' σ' env' t'->ao ax B' σ' a v->aM P Q mn x {ar b t' ab with mode:=.panicking [{v,recovered:=false}]} cs H')->
  aM P Q mn x (ar b t k) cs H
section
variable {P:Program} {m nt:Nat} {k:List Item} {env:aa} {σ:List Row} {Z:List Item->aa->List Row->Prop} {E:θ->aa->List Row->Prop}
theorem W.stop (h:Z k env σ):W P m nt k env σ Z E:=λ_ _ _ _ _ S B H t _ _ ψ Θ _=>Θ k env σ S B H t k h .refl ψ rfl
theorem W.nil (h:Z [] env σ):W P m nt [] env σ Z E:=.stop h
theorem W.ret (h:Z (.code .ret::k) env σ):W P m nt (.code .ret::k) env σ Z E:=.stop h
theorem W.skip (h:W P m nt k env σ Z E):W P m nt (.code .skip::k) env σ Z E:=λQ mn x cs b S B H t U hb ψ Θ he=>.skip U hb (h Q mn x cs b S B H t U hb ψ Θ he)
theorem W.inBlock {l:Nat} (h:W P m nt k env σ Z E):W P m nt (.inBlock l::k) env σ Z E:=λQ mn x cs b S B H t U hb ψ Θ he=>.inBlock U hb (h Q mn x cs b S B H t U hb ψ Θ he)
theorem W.seq {a c:Code} (h:W P m nt (.code a::.code c::k) env σ Z E):W P m nt (.code (.seq a c)::k) env σ Z E:=λQ mn x cs b S B H t U hb ψ Θ he=>.seq U hb (h Q mn x cs b S B H t U hb ψ Θ he)
theorem W.block {l:Nat} {c:Code} (h:W P m nt (.code c::.inBlock l::k) env σ Z E):W P m nt (.code (.block l c)::k) env σ Z E:=λQ mn x cs b S B H t U hb ψ Θ he=>.block U hb (h Q mn x cs b S B H t U hb ψ Θ he)
theorem W.inLoop {c:Code} (h:W P m nt (.code c::.inLoop c::k) env σ Z E):W P m nt (.inLoop c::k) env σ Z E:=λQ mn x cs b S B H t U hb ψ Θ he=>.inLoop U hb (h Q mn x cs b S B H t U hb ψ Θ he)
theorem W.loop {c:Code} (h:W P m nt (.code c::.inLoop c::k) env σ Z E):W P m nt (.code (.loop c)::k) env σ Z E:=λQ mn x cs b S B H t U hb ψ Θ he=>.loop U hb (h Q mn x cs b S B H t U hb ψ Θ he)
theorem W.exit {id:Nat} {ab:List Item} (χ:exitTo id k=some ab) (h:W P m nt ab env σ Z E):W P m nt (.code (.exit id)::k) env σ Z E:=λQ mn x cs b S B H t U hb ψ Θ he=>.exit U hb χ (h Q mn x cs b S B H t U hb ψ Θ he)
theorem W.cond {c:Operand} {a e:Code} {v:Bool} (ζ:aQ env c=.z (.bool v)) (h:W P m nt (.code (if v then a else e)::k) env σ Z E):W P m nt (.code (.cond c a e)::k) env σ Z E:=λQ mn x cs b S B H t U hb ψ Θ he=>by
 refine .cond (v:=v) U hb ?_ (h Q mn x cs b S B H t U hb ψ Θ he);have:=lJ ψ.cp c;rw[ζ] at this;rw[zx];generalize bs t c=u at this;cases this;rfl
theorem W.cut (h:Nat) (hm:m<=h) (env':aa) (aU:h<=σ.length) (n':∀(id:Nat) (r:Row),id<h->σ[id]?=some r->eK h r) (cD:∀p∈env',ed h σ (a3 env p.1) p.2) (hW:W P m nt k env' (σ.take h) Z E):W P m nt k env σ Z E:=
 λQ mn x cs b S B H t U hb ψ Θ he=>by
 obtain⟨c1,c2⟩:=ψ.holds.close n';have ω:b3 S (S.close B σ H h) (B.take m) (B.take h) (σ.take m) (σ.take h):=by
  have:=b3.close (h:=h) ψ.holds ((b3.refl S B σ).left m) (by simp;omega);exact this
 have ξ:eU m S B H σ (S.close B σ H h) (B.take h) H (σ.take h):=⟨c2,ω⟩
 have vT:∀(l:aa),(∀p∈l,ed h σ (a3 env p.1) p.2)->∀i,ed h σ (a3 env i) (a3 l i):=by
  intro l
  induction l with
  | nil=>intro _ i;exact .cg _
  | cons p l Δ=>
   intro ω i;simp only[a3];split
   ·rename_i e;rw[<-e];exact ω p (by simp)
   ·exact Δ (λq Ρ=>ω q (by simp[Ρ])) i
 refine hW Q mn x cs b _ _ H t U hb ⟨c1,λi=>(ψ.cp i).WQ ψ.holds (vT env' cD i),ψ.size,by simp;omega⟩ (λj g5 gw cT e3 bN t2 cC Τ af aX cr=>?_) (λa g5 gw cT e3 bN t2 cC v Τ af aX cr gH=>?_)
 ·exact Θ j g5 gw cT e3 bN t2 cC Τ (ξ.trans af) aX cr
 ·exact he a g5 gw cT e3 bN t2 cC v Τ (ξ.trans af) aX cr gH
end
def fy (S:aB) (B:aR) (σ:List Row) (as9:List θ) (vs:Array Value):Prop:=as9.length=vs.size/\∀(i:Nat) (a:θ) (v:Value),as9[i]?=some a->vs[i]?=some v->ao S B σ a v
structure vU (P:Program) (Q:Value->Prop) (mn:Bool) (x:gN) (c:Frame) (rest:List Frame) (S:aB) (B:aR) (H:Α) (σ:List Row) (K:θ->List Row->Prop) (E:θ->List Row->Prop):Prop where
 ret:∀(a:θ) (σ':List Row) (ax:aB) (B':aR) (H':Α) (v:Value),K a σ'->Ext S B H ax B' H'->b3 S ax B B' σ σ'->Holds ax B' σ' H'->ao ax B' σ' a v->aM P Q mn x (c.finish v) rest H'
 xS:∀(a:θ) (σ':List Row) (ax:aB) (B':aR) (H':Α) (v:Value),E a σ'->Ext S B H ax B' H'->b3 S ax B B' σ σ'->Holds ax B' σ' H'->ao ax B' σ' a v->aM P Q mn x (c.raise [{v,recovered:=false}]) rest H'
def NN (P:Program) (Q:Value->Prop) (mn:Bool) (x:gN) (c:Frame) (rest:List Frame):Next->Α->Prop
 | .enter g as9,H=>aM P Q mn x (Frame.enter P g as9 .normal) (c::rest) H
 | .round l f xx Cv sn,H=>aM P Q mn x (Frame.round l f xx Cv sn .normal) (c::rest) H
 | .value v,H=>aM P Q mn x (c.finish v) rest H
 | _,_=>False
def hG (P:Program) (f:θ) (args:List θ) (σ:List Row) (K:θ->List Row->Prop) (E:θ->List Row->Prop):Prop:=
 ∀(Q:Value->Prop) (mn:Bool) (x:gN) (c:Frame) (rest:List Frame) (S:aB) (B:aR) (H:Α) (an:Value) (vs:Array Value),Seq x->Holds S B σ H->ao S B σ f an->fy S B σ args vs->vU P Q mn x c rest S B H σ K E->
  υ P (do let d <-Deferred.ofValue an vs;invoke d.target d.args) H (NN P Q mn x c rest) (λ_ _=>False)
def Plain (P:Program) (g:FuncId):Prop:=∃fn,P.funcs[g]?=some fn/\(fn.name == "runtime.NumGoroutine")=false/\fn.body.isNone=false
def ak (P:Program) (g:FuncId) (args:List θ) (σ:List Row) (K:θ->List Row->Prop) (E:θ->List Row->Prop):Prop:=
 Plain P g/\∀(Q:Value->Prop) (mn:Bool) (x:gN) (c:Frame) (rest:List Frame) (S:aB) (B:aR) (H:Α) (vs:Array Value),Seq x->Holds S B σ H->fy S B σ args vs->vU P Q mn x c rest S B H σ K E->
  aM P Q mn x (Frame.enter P g vs .normal) (c::rest) H
section
variable {P:Program} {T:bd} {A:List Nat} {m nt:Nat} {k:List Item} {env:aa} {σ:List Row} {Z:List Item->aa->List Row->Prop} {E:θ->List Row->Prop} {K:θ->List Row->Prop} {F:θ->aa->List Row->Prop}
theorem fy.append {S:aB} {B:aR} {as9 qb:List θ} {vs ws:Array Value} (h:fy S B σ as9 vs) (k:fy S B σ qb ws):fy S B σ (as9++qb) (vs++ws):=by
 refine⟨by simp[h.1,k.1],λi a v J γ=>?_⟩;by_cases aD:i<as9.length
 ·rw[dB aD] at J;rw[Array.getElem?_append_left (by rw[<-h.1];exact aD)] at γ;exact h.2 i a v J γ
 ·rw[fS (by omega)] at J;rw[Array.getElem?_append_right (by rw[<-h.1];omega),<-h.1] at γ;exact k.2 _ a v J γ
theorem ak.mono {g:FuncId} {args:List θ} {K':θ->List Row->Prop} {E':θ->List Row->Prop} (h:ak P g args σ K E) (I:∀a s,K a s->K' a s) (c9:∀a s,E a s->E' a s):ak P g args σ K' E':=
 ⟨h.1,λQ mn x c rest S B H vs U Β hv hb=>h.2 Q mn x c rest S B H vs U Β hv ⟨λa σ' ax B' H' v χ=>hb.ret a σ' ax B' H' v (I _ _ χ),λa σ' ax B' H' v χ=>hb.xS a σ' ax B' H' v (c9 _ _ χ)⟩⟩
theorem hG.mono {f:θ} {args:List θ} {K':θ->List Row->Prop} {E':θ->List Row->Prop} (h:hG P f args σ K E) (I:∀a s,K a s->K' a s) (c9:∀a s,E a s->E' a s):hG P f args σ K' E':=
 λQ mn x c rest S B H an vs U Β Φ hv hb=>h Q mn x c rest S B H an vs U Β Φ hv ⟨λa σ' ax B' H' v χ=>hb.ret a σ' ax B' H' v (I _ _ χ),λa σ' ax B' H' v χ=>hb.xS a σ' ax B' H' v (c9 _ _ χ)⟩
theorem ak.call {g:FuncId} {first args captured:List θ} (h:ak P g (first++args++captured) σ K E):hG P (.fn (.func g) first captured) args σ K E:=by
 intro Q mn x c rest S B H an vs U Β Φ hv hb;cases Φ with
 | fn v1 v2 J γ π Μ=>
  refine υ.bind' (υ.pure' ?_);obtain⟨⟨fn,cf,kS,Dx⟩,HQ⟩:=h;unfold invoke;simp only;unfold callFunc;refine υ.bind' ?_;show υ P (match P.funcs[g]? with|none=>_|some fn=>_) H _ _;rw[cf];simp only[kS,Dx,Bool.false_eq_true,if_false];refine υ.pure' ?_;have r1:fy S B σ first v1:=⟨J,π⟩
  have r2:fy S B σ captured v2:=⟨γ,Μ⟩;exact HQ Q mn x c rest S B H _ U Β ((r1.append hv).append r2) hb
def fz (env:aa) (ops:Array Oper) (o:Oper):Option Bool:=match o.guard with
 | none=>some true
 | some (j,want)=>match (ops[j]?).bind (·.dst) with
  | some d=>match a3 env d with
   | .z (.bool b)=>some (b==want)
   | _=>none
  | none=>none
theorem j3 {S:aB} {B:aR} {t:Array Value} (h:de S B σ env t) {ops:Array Oper} {o:Oper} {w:Bool} (hw:fz env ops o=some w):Region.wanted o (yielded ops t)=w:=by
 unfold fz at hw;unfold Region.wanted;split at hw
 ·rename_i Υ;rw[Υ];cases hw;rfl
 ·rename_i j want Υ;rw[Υ];split at hw
  ·rename_i d hd;split at hw
   ·rename_i b hb;cases hw;have μ:=h d;rw[hb] at μ;unfold yielded;rw[Array.getD_eq_getD_getElem?] at μ;cases Ο:t[d]? with
    | none=>rw[Ο] at μ;cases μ
    | some v=>
     rw[Ο] at μ;simp only[Option.getD_some] at μ;cases μ;simp only[hd,Option.bind_some,Ο];cases b<;>cases want<;>rfl
   ·cases hw
  ·cases hw
def ca (o:Oper) (env:aa) (a:θ):aa:=match o.dst with|some d=>(d,a)::env|none=>env
def hT (nt:Nat) (o:Oper):Bool:=match o.dst with|some d=>decide (d<nt)|none=>true
theorem re {S:aB} {B:aR} {t:Array Value} (h:de S B σ env t) {o:Oper} (hd:hT nt o=true) (Ο:t.size=nt) {a:θ} {v:Value} (ξ:ao S B σ a v):de S B σ (ca o env a) (put o t v)/\(put o t v).size=nt:=by
 unfold ca put;unfold hT at hd;cases rf:o.dst with
 | none=>exact⟨h,Ο⟩
 | some d=>
  rw[rf] at hd;simp only[decide_eq_true_eq] at hd;exact⟨h.put (by rw[Ο];exact hd) ξ,by simp[Ο]⟩
theorem W.unwanted {ops:Array Oper} {i:Nat} {o:Oper} {rest:List Nat} (Γ:ops[i]?=some o) (hw:fz env ops o=some false) (hd:hT nt o=true) (h:W P m nt (.inRegion ops rest::k) (ca o env .cg) σ Z F):W P m nt (.inRegion ops (i::rest)::k) env σ Z F:=
 λQ mn x cs b S B H t U hb ψ Θ he=>by
 obtain⟨s1,s2⟩:=re ψ.cp hd ψ.size (a:=.cg) (v:=undef) (.cg _);exact .unwanted U hb Γ (j3 ψ.cp hw) (h Q mn x cs b S B H _ U hb ⟨ψ.holds,s1,s2,ψ.rows⟩ Θ he)
theorem W.op (Κ:bR P T) {ops:Array Oper} {i:Nat} {o:Oper} {rest:List Nat} (Γ:ops[i]?=some o) (hw:fz env ops o=some true) (hd:hT nt o=true) (kv:∀c,o.op≠.defer c)
  (h:((mF T A env o).or σ (kx T A env σ o)).holds λa σ'=>W P m nt (.inRegion ops rest::k) (ca o env a) σ' Z F):W P m nt (.inRegion ops (i::rest)::k) env σ Z F:=
 λQ mn x cs b S B H t U hb ψ Θ he=>by
 refine .op U hb Γ (j3 ψ.cp hw) (.inr kv) ?_;have WR:=cw.WH (WN (A:=A) Κ ψ.holds ψ.cp o) (WO (A:=A) Κ ψ.holds ψ.cp o);refine υ.mono (λgv H' ⟨v,hv,ax,B',σ',a,I,rh,iY,ω,μ⟩=>?_) (λ_ _ h=>h.elim) _ (WR _ h);obtain⟨s1,s2⟩:=re (ψ.cp.later ω) hd ψ.size μ;have ξ:eU m S B H σ ax B' H' σ':=.of rh ω;have fin:aM P Q mn x (ar b (put o t v) (.inRegion ops rest::k)) cs H':=
  I Q mn x cs b ax B' H' _ U hb ⟨iY,s1,s2,Nat.le_trans ψ.rows ω.length⟩ (λj g5 gw cT e3 bN t2 cC Τ af aX cr=>Θ j g5 gw cT e3 bN t2 cC Τ (ξ.trans af) aX cr)
   (λbl g5 gw cT e3 bN t2 cC v2 Τ af aX cr gH=>he bl g5 gw cT e3 bN t2 cC v2 Τ (ξ.trans af) aX cr gH)
 cases gv<;>simp only[M0,reduceCtorEq,Option.some.injEq] at hv<;>first|(subst hv;exact fin)|skip
theorem W.call {ops:Array Oper} {i:Nat} {o:Oper} {rest:List Nat} (Γ:ops[i]?=some o) (hw:fz env ops o=some true) (hd:hT nt o=true) {f:Operand} {args:Array Operand} {dS:Array TypeId} (Ν:o.op=.call ⟨.value f,args,dS⟩)
  (h:hG P (aQ env f) (args.toList.map (aQ env)) σ (λa σ'=>W P m nt (.inRegion ops rest::k) (ca o env a) σ' Z F) (λa s=>F a env s)):W P m nt (.inRegion ops (i::rest)::k) env σ Z F:=
 λQ mn x cs b S B H t U hb ψ Θ he=>by
 refine .op U hb Γ (j3 ψ.cp hw) (.inr λc=>by rw[Ν];simp) ?_;have mG:fy S B σ (args.toList.map (aQ env)) (args.map (bs t)):=by
  refine⟨by simp,λi a v J γ=>?_⟩;rw[List.getElem?_map,Array.getElem?_toList] at J;rw[Array.getElem?_map] at γ;cases U:args[i]? with
  | none=>rw[U] at J;cases J
  | some y=>rw[U] at J γ;cases J;cases γ;exact lJ ψ.cp y
 have HQ:=h Q mn x (ar b t (.inRegion ops (i::rest)::k)) cs S B H (bs t f) (args.map (bs t)) U ψ.holds (lJ ψ.cp f) mG ⟨λa σ' ax B' H' v I rh ω iY μ=>?_,λa σ' ax B' H' v c9 rh ω iY μ=>?_⟩
 ·have e:execOp (bs t) o=(do let d <-Deferred.ofValue (bs t f) (args.map (bs t));invoke d.target d.args):=by unfold execOp;rw[Ν];rfl
  rw[e];refine υ.mono (λgv H' Η=>?_) (λ_ _ h=>h.elim) _ HQ;cases gv<;>first|exact Η.elim|exact Η|skip
  rename_i v;have:=h' (b:=b) (t:=t) (k:=k) (v:=v) Γ (rest:=rest);simp only[NN] at Η;rw[this] at Η;exact Η
 ·obtain⟨s1,s2⟩:=re (ψ.cp.later ω) hd ψ.size μ;have ξ:eU m S B H σ ax B' H' σ':=.of rh ω;rw[h' Γ];exact I Q mn x cs b ax B' H' _ U hb ⟨iY,s1,s2,Nat.le_trans ψ.rows ω.length⟩ (λj g5 gw cT e3 bN t2 cC Τ af aX cr=>Θ j g5 gw cT e3 bN t2 cC Τ (ξ.trans af) aX cr)
   (λbl g5 gw cT e3 bN t2 cC v2 Τ af aX cr gH=>he bl g5 gw cT e3 bN t2 cC v2 Τ (ξ.trans af) aX cr gH)
 ·have:=he a env σ' ax B' H' t (.inRegion ops (i::rest)::k) v c9 (.of rh ω) iY (ψ.cp.later ω) μ
  have e:(ar b t (.inRegion ops (i::rest)::k)).raise [{v,recovered:=false}]={ar b t (.inRegion ops (i::rest)::k) with mode:=.panicking [{v,recovered:=false}]}:=by simp[Frame.raise,ar,hb]
  rw[e];exact this
theorem W.panic {ops:Array Oper} {i:Nat} {o:Oper} {rest:List Nat} (Γ:ops[i]?=some o) (hw:fz env ops o=some true) {y:Operand} (Ν:o.op=.panic y) {ty:TypeId} {a:θ} (Ξ:aQ env y=.fF ty a) (h:F (.fF ty a) env σ):W P m nt (.inRegion ops (i::rest)::k) env σ Z F:=
 λQ mn x cs b S B H t U hb ψ Θ he=>by
 refine .op U hb Γ (j3 ψ.cp hw) (.inr λc=>by rw[Ν];simp) ?_;have μ:=lJ ψ.cp y;have e:execOp (bs t) o=(do pure (.value (<-Instr.panic (bs t y)))):=by unfold execOp;rw[Ν]
 rw[e];rw[Ξ] at μ;generalize hv:bs t y=v at μ;refine υ.bind' ?_;cases μ with
 | fF e8 J=>exact he (.fF ty a) env σ S B H t _ _ h .refl ψ.holds ψ.cp (.fF e8 J)
end
def vV (P:Program) (T:bd) (A:List Nat) (env:aa) (o:Oper) (σ:List Row) (K:θ->List Row->Prop) (E:θ->aa->List Row->Prop):Prop:=match o.op with
 | .call ⟨.value f,args,_⟩=>hG P (aQ env f) (args.toList.map (aQ env)) σ K (λa s=>E a env s)
 | .panic y=>match aQ env y with|.fF t a=>E (.fF t a) env σ|_=>False
 | .defer _=>False
 | _=>((mF T A env o).or σ (kx T A env σ o)).holds K
def jE (w:Bool) (a b:Prop):Prop:=(w=false->a)/\(w=true->b)
theorem WS {a b:Prop}:jE true a b=b:=by simp[jE]
theorem WT {a b:Prop}:jE false a b=a:=by simp[jE]
theorem WU {w w':Bool} {a b:Prop} (h:w=w'):jE w a b=jE w' a b:=by rw[h]
def gP {α:Type} (x:Option α) (f:α->Prop):Prop:=match x with|none=>False|some a=>f a
theorem WV {α:Type} {a:α} {f:α->Prop}:gP (some a) f=f a:=Eq.trans rfl rfl
theorem WW {α:Type} {f:α->Prop}:gP none f=False:=rfl
theorem WX {α:Type} {x c8:Option α} {f:α->Prop} (h:x=c8):gP x f=gP c8 f:=by rw[h]
theorem WY {K:θ->List Row->Prop} {r r':cZ} (h:r=r'):r.holds K=r'.holds K:=by rw[h]
theorem or_congr {r r':cw} {σ:List Row} {s:cZ} (h:r=r'):r.or σ s=r'.or σ s:=by rw[h]
def run (P:Program) (T:bd) (A:List Nat) (nt:Nat) (ops:Array Oper):List Nat->aa->List Row->(aa->List Row->Prop)->(θ->aa->List Row->Prop)->Prop
 | [],env,σ,K,_=>K env σ
 | i::is,env,σ,K,E=>gP ops[i]? λo=>hT nt o=true/\gP (fz env ops o) λw=>
   jE w (run P T A nt ops is (ca o env .cg) σ K E) (vV P T A env o σ (λa σ'=>run P T A nt ops is (ca o env a) σ' K E) E)
def NO (P:Program) (T:bd) (A:List Nat) (nt:Nat) (ops:Array Oper) (is:List Nat) (o:Oper) (env:aa) (K:aa->List Row->Prop) (E:θ->aa->List Row->Prop) (a:θ) (σ':List Row):Prop:=run P T A nt ops is (ca o env a) σ' K E
theorem qc {P:Program} {T:bd} {A:List Nat} {nt:Nat} {ops:Array Oper} {env:aa} {σ:List Row} {K:aa->List Row->Prop} {E:θ->aa->List Row->Prop}:run P T A nt ops [] env σ K E=K env σ:=Eq.trans rfl rfl
theorem δ {P:Program} {T:bd} {A:List Nat} {nt:Nat} {ops:Array Oper} {i:Nat} {is:List Nat} {env:aa} {σ:List Row} {K:aa->List Row->Prop} {E:θ->aa->List Row->Prop} :
  run P T A nt ops (i::is) env σ K E=gP ops[i]? λo=>hT nt o=true/\gP (fz env ops o) λw=>
   jE w (run P T A nt ops is (ca o env .cg) σ K E) (vV P T A env o σ (NO P T A nt ops is o env K E) E):=Eq.trans rfl rfl
theorem NP {P:Program} {T:bd} {A:List Nat} {nt:Nat} {ops:Array Oper} {is:List Nat} {o:Oper} {env:aa} {σ:List Row} {K:aa->List Row->Prop} {E:θ->aa->List Row->Prop} {a:θ}:NO P T A nt ops is o env K E a σ=run P T A nt ops is (ca o env a) σ K E:=Eq.trans rfl rfl
section
variable {P:Program} {T:bd} {A:List Nat} {m nt:Nat} {k:List Item} {env:aa} {σ:List Row} {Z:List Item->aa->List Row->Prop} {E:θ->aa->List Row->Prop} {K:θ->List Row->Prop}
theorem W.bF {ops:Array Oper} (h:W P m nt k env σ Z E):W P m nt (.inRegion ops []::k) env σ Z E:=λQ mn x cs b S B H t U hb ψ Θ he=>.bF U hb (h Q mn x cs b S B H t U hb ψ Θ he)
theorem HR (Κ:bR P T) {ops:Array Oper} (oa:List Nat):∀(is:List Nat) (env:aa) (σ:List Row),run P T A nt ops is env σ (λenv σ=>W P m nt (.inRegion ops oa::k) env σ Z E) E->W P m nt (.inRegion ops (is++oa)::k) env σ Z E:=by
 intro is
 induction is with
 | nil=>intro env σ h;exact h
 | cons i is Δ=>
  intro env σ h;unfold run gP at h;split at h
  ·exact h.elim
  ·rename_i o Γ;obtain⟨hd,h⟩:=h;split at h
   ·exact h.elim
   rename_i w hw;unfold jE at h;cases w
   ·exact .unwanted Γ hw hd (Δ _ _ (h.1 rfl))
   ·replace h:=h.2 rfl
    unfold vV at h;split at h
    ·rename_i f args dS Ν;exact .call Γ hw hd Ν (h.mono (λa s h=>Δ _ _ h) (λ_ _ h=>h))
    ·rename_i y Ν;split at h
     ·rename_i ty a Ξ;exact .panic Γ hw Ν Ξ h
     ·exact h.elim
    ·exact h.elim
    ·rename_i J γ π;refine .op (A:=A) Κ Γ hw hd (λc ζ=>π c ζ) ?_;generalize (mF T A env o).or σ (kx T A env σ o)=r at h;have key:∀r:cZ,r.holds (λa σ'=>run P T A nt ops is (ca o env a) σ' (λenv σ=>W P m nt (.inRegion ops oa::k) env σ Z E) E)->r.holds λa σ'=>W P m nt (.inRegion ops (is++oa)::k) (ca o env a) σ' Z E:=by
      intro r
      induction r with
      | ok a s=>exact λh=>Δ _ _ h
      | b4 p r mz=>exact λh=>⟨h.1,mz h.2⟩
      | all n f mz=>exact λh i hi=>mz i (h i hi)
      | bad=>exact λh=>h
     exact key r h
theorem cZ.WZ {K K':θ->List Row->Prop} (I:∀a s,K a s->K' a s):∀r:cZ,r.holds K->r.holds K':=by
 intro r
 induction r with
 | ok a s=>exact λh=>I _ _ h
 | b4 p r Δ=>exact λh=>⟨h.1,Δ h.2⟩
 | all n f Δ=>exact λh i hi=>Δ i (h i hi)
 | bad=>exact λh=>h
theorem W0 {env:aa} {o:Oper} {K K':θ->List Row->Prop} (I:∀a s,K a s->K' a s) (h:vV P T A env o σ K E):vV P T A env o σ K' E:=by
 unfold vV at h ⊢;split
 ·rename_i f args dS Ν;rw[Ν] at h;exact hG.mono h I λ_ _ h=>h
 ·rename_i y Ν;rw[Ν] at h;exact h
 ·rename_i Ν;rw[Ν] at h;exact h
 ·rename_i J γ π;split at h
  ·rename_i f args dS Ν;exact absurd Ν (J f args dS)
  ·rename_i y Ν;exact absurd Ν (γ y)
  ·rename_i y Ν;exact absurd Ν (π y)
  ·exact cZ.WZ I _ h
theorem Dy {ops:Array Oper} {nt:Nat} {K K':aa->List Row->Prop} (I:∀e s,K e s->K' e s):∀(is:List Nat) (env:aa) (σ:List Row),run P T A nt ops is env σ K E->run P T A nt ops is env σ K' E:=by
 intro is
 induction is with
 | nil=>intro env σ h;exact I _ _ h
 | cons i is Δ=>
  intro env σ h;unfold run gP at h ⊢;cases Γ:ops[i]? with
  | none=>rw[Γ] at h;exact h.elim
  | some o=>
   rw[Γ] at h;simp only at h ⊢;refine⟨h.1,?_⟩
   replace h:=h.2
   cases hw:fz env ops o with
   | none=>rw[hw] at h;exact h.elim
   | some w=>
    rw[hw] at h;unfold jE at h ⊢;exact⟨λe=>Δ _ _ (h.1 e),λe=>W0 (λa s=>Δ _ _) (h.2 e)⟩
theorem W1 (Κ:bR P T) {ops:Array Oper} (is:List Nat) (env:aa) (σ:List Row) (h:run P T A nt ops is env σ (λenv σ=>W P m nt k env σ Z E) E):W P m nt (.inRegion ops is::k) env σ Z E:=by
 have:=HR (A:=A) Κ [] is env σ (ops:=ops) (k:=k) (Z:=Z) (E:=E) (P:=P) (m:=m) (nt:=nt);rw[List.append_nil] at this;refine this ?_;have mono:∀(is:List Nat) (env:aa) (σ:List Row) (K K':aa->List Row->Prop),(∀e s,K e s->K' e s)->run P T A nt ops is env σ K E->run P T A nt ops is env σ K' E:=λis env σ K K' I h=>Dy I is env σ h;exact mono is env σ _ _ (λe s h=>.bF h) h
def idx:Nat->List Nat->List Nat
 | 0,l=>l
 | n+1,l=>idx n (n::l)
theorem idx_eq (n:Nat):idx n []=List.range n:=by
 have:∀(n:Nat) (l:List Nat),idx n l=List.range.loop n l:=by
  intro n
  induction n with
  | zero=>intro l;rfl
  | succ n Δ=>intro l;exact Δ _
 exact this n []
theorem dw (Κ:bR P T) {id:Nat} {ops:Array Oper} (h:∀η:aa->List Row->Prop,(∀env σ,W P m nt k env σ Z E->η env σ)->run P T A nt ops (idx ops.size []) env σ η E):W P m nt (.code (.region id ops false)::k) env σ Z E:=
 λQ mn x cs b S B H t U hb ψ Θ he=>.region U hb (W1 Κ _ _ _ (by rw[<-idx_eq];exact h _ λ_ _ h=>h) Q mn x cs b S B H t U hb ψ Θ he)
theorem W.forget (env':aa) (cD:∀p∈env',a3 env p.1=p.2) (h:W P m nt k env' σ Z E):W P m nt k env σ Z E:=
 λQ mn x cs b S B H t U hb ψ Θ he=>by
 have vT:∀(l:aa),(∀p∈l,a3 env p.1=p.2)->∀i,a3 l i=.cg\/a3 l i=a3 env i:=by
  intro l
  induction l with
  | nil=>intro _ i;exact .inl rfl
  | cons p l Δ=>
   intro ω i;simp only[a3];split
   ·rename_i e;subst e;exact .inr (ω p (by simp)).symm
   ·exact Δ (λq Ρ=>ω q (by simp[Ρ])) i
 refine h Q mn x cs b S B H t U hb ⟨ψ.holds,λi=>?_,ψ.size,ψ.rows⟩ Θ he;rcases vT env' cD i with e|e
 ·rw[e];exact .cg _
 ·rw[e];exact ψ.cp i
theorem W.sJ (Κ:bR P T) (env':aa) {id:Nat} {ops:Array Oper} (h:W P m nt k env' σ Z E) (μ:run P T A nt ops (idx ops.size []) env σ (λe s=>s=σ/\∀p∈env',a3 e p.1=p.2) E):W P m nt (.code (.region id ops false)::k) env σ Z E:=
 dw Κ λη I=>Dy (λe s ⟨J,γ⟩=>I e s (J▸W.forget env' γ h)) _ _ _ μ
def vW (i:ia) (l:List θ):Option θ:=if i.agg then(if i.size<=l.length then some (.aS (l.take i.size)) else none) else l.head?
def xT (T:bd) (ty:TypeId) (σ:List Row):θ->Option θ
 | .Ψ cells=>match T ty with|some i=>vW i cells|none=>none
 | .al id n i j=>match T ty,σ[id]? with
  | some kL,some (.cells _ _ l)=>if l.length=n then match l[i]? with
   | some e=>vW kL (e.cells.drop j)
   | none=>none else none
  | _,_=>none
 | _=>none
def sK (T:bd) (env:aa) (σ:List Row):ResultVar->Option θ
 | .tmp t=>some (a3 env t)
 | .cell a ty=>xT T ty σ (a3 env a)
def Dz:List θ->θ
 | [a]=>a
 | l=>.bn l
def ri (T:bd) (rs:List ResultVar) (env:aa) (σ:List Row):Option θ:=(rs.mapM (sK T env σ)).map Dz
theorem NQ {i:ia} {l:List θ} {v:θ} (h:vW i l=some v):tP i l=.ok v:=by
 unfold vW at h;unfold tP;cases tQ:i.agg with
 | true=>
  rw[tQ] at h;simp only[if_true] at h ⊢;split at h
  ·rename_i hle;cases h;rw[if_pos hle]
  ·cases h
 | false=>
  rw[tQ] at h;simp only[Bool.false_eq_true,if_false] at h ⊢;cases l with
  | nil=>cases h
  | cons a l=>cases h;rfl
theorem W2 (Κ:bR P T) {S:aB} {B:aR} {H:Α} (Β:Holds S B σ H) {ty:TypeId} {a v:θ} {w:Value} (h:xT T ty σ a=some v) (μ:ao S B σ a w):cF P (do loadVar ty (<-asAddr w)) S B H σ (.ok v σ):=by
 unfold xT at h;split at h
 ·rename_i cells;split at h
  ·rename_i i hi;cases μ with
   | Ψ b o w J γ=>
    have:=CF Κ Β hi w (λj a ε=>Β.dd _ _ _ (J j a ε)) γ;rw[NQ h] at this;exact this
  ·cases h
 ·rename_i id n i j;split at h
  ·rename_i kL t k l hi ω;split at h
   ·rename_i Η;split at h
    ·rename_i e he;cases μ with
     | al J γ π=>
      rw[ω] at J;cases J;obtain⟨χ,w,hw⟩:=M1 Β ω π he;have:=CF Κ Β hi (l:=e.cells.drop j) (b:=_) (o:=i*k+j) (λx=>w (j+x)) (λx a U=>⟨true,by
       rw[List.getElem?_drop] at U;rw[Nat.add_assoc];exact(hw _ a U).1⟩) (λx a U=>by
       rw[List.getElem?_drop] at U;exact(hw _ a U).2.1)
      rw[NQ h] at this;exact this
     | jB v J γ=>rw[ω] at J;cases J;simp only[Row.g4] at γ;omega
    ·cases h
   ·cases h
  ·cases h
 ·cases h
theorem DC (Κ:bR P T) {fn:Func} {a:θ} (h:ri T fn.results.toList env σ=some a) {S:aB} {B:aR} {H:Α} {t:Array Value} (Β:Holds S B σ H) (ο:de S B σ env t) :
  υ P (results fn t) H (λv H'=>∃ax B',Ext S B H ax B' H'/\b3 S ax B B' σ σ/\Holds ax B' σ H'/\ao ax B' σ a v) (λ_ _=>False):=by
 let f:ResultVar->Sem Value:=λr=>match r with
  | .tmp x=>pure (t.getD x undef)
  | .cell a ty=>do loadVar ty (<-asAddr (t.getD a undef))
 have key:∀(rs:List ResultVar) (as9:List θ) (S:aB) (B:aR) (H:Α),rs.mapM (sK T env σ)=some as9->Holds S B σ H->de S B σ env t->
   υ P (rs.mapM f) H (λvs H'=>∃ax B',Ext S B H ax B' H'/\b3 S ax B B' σ σ/\Holds ax B' σ H'/\as9.length=vs.length/\∀(i:Nat) (a:θ) (v:Value),as9[i]?=some a->vs[i]?=some v->ao ax B' σ a v) (λ_ _=>False):=by
  intro rs
  induction rs with
  | nil=>intro as9 S B H h Β _;simp at h;subst h;exact υ.pure' ⟨S,B,.refl _ _ _,.refl _ _ _,Β,rfl,λi a v hi=>by simp at hi⟩
  | cons r rs Δ=>
   intro as9 S B H h Β ο;rw[List.mapM_cons] at h ⊢;cases μ:sK T env σ r with
   | none=>rw[μ] at h;cases h
   | some a=>
    rw[μ] at h;simp only[Option.bind_eq_bind,Option.bind_some] at h;cases Υ:rs.mapM (sK T env σ) with
    | none=>rw[Υ] at h;cases h
    | some l2=>
     rw[Υ] at h;cases h;have step:υ P (f r) H (λv H'=>∃ax B',Ext S B H ax B' H'/\b3 S ax B B' σ σ/\Holds ax B' σ H'/\ao ax B' σ a v) (λ_ _=>False):=by
      cases r with
      | tmp x=>simp only[sK,Option.some.injEq] at μ;subst μ;exact υ.pure' ⟨S,B,.refl _ _ _,.refl _ _ _,Β,ο x⟩
      | cell x ty=>
       refine υ.mono (λv H' ⟨ax,B',σ',b1,⟨J,γ⟩,π,Μ,aA,bc⟩=>?_) (λ_ _ h=>h) _ (W2 Κ Β μ (ο x) (λb1 bq=>b1=a/\bq=σ) ⟨rfl,rfl⟩);subst J;subst γ;exact⟨ax,B',π,aA,Μ,bc⟩
     refine υ.bind' (υ.mono (λv H1 ⟨bJ,bO,Ζ,l1,J,r1⟩=>?_) (λ_ _ h=>h) _ step);refine υ.bind' (υ.mono (λvs bN ⟨cT,e3,Ε,NR,γ,fV,r2⟩=>?_) (λ_ _ h=>h) _ (Δ l2 bJ bO H1 Υ J (ο.later l1)));refine υ.pure' ⟨cT,e3,Ζ.trans Ε,l1.trans NR,γ,by simp[fV],λi b1 e8 hi hv=>?_⟩
     match i with
     | 0=>simp at hi hv;subst hi;subst hv;exact r1.later NR
     | i+1=>simp at hi hv;exact r2 i b1 e8 hi hv
 unfold ri at h;cases hm:fn.results.toList.mapM (sK T env σ) with
 | none=>rw[hm] at h;cases h
 | some as9=>
  rw[hm] at h;cases h;have χ:=key fn.results.toList as9 S B H hm Β ο;unfold results;rw[Array.mapM_eq_mapM_toList];refine υ.bind' ?_;refine υ.bind (fn.results.toList.mapM f) (υ.mono (λvs H1 ⟨bJ,bO,Ζ,l1,J,hD,r1⟩=>?_) (λ_ _ h=>h) _ χ);refine υ.pure' ?_;refine υ.pure' ⟨bJ,bO,Ζ,l1,J,?_⟩;by_cases Η:vs.toArray.size=1
  ·rw[dif_pos Η];have mH:vs.length=1:=by simpa using Η
   obtain⟨v,rfl⟩:=List.length_eq_one_iff.1 mH;obtain⟨a,rfl⟩:=List.length_eq_one_iff.1 (hD.trans mH);exact r1 0 a v rfl rfl
  ·rw[dif_neg Η];have mH:as9.length≠1:=by rw[hD];simpa using Η
   have:Dz as9=.bn as9:=by
    match as9 with
    | []=>rfl
    | [a]=>simp at mH
    | a::b::l=>rfl
   rw[this];exact .bn _ (by simpa using hD) λi a v hi hv=>r1 i a v hi (by simpa using hv)
def entry:Nat->List θ->aa
 | _,[]=>[]
 | i,a::as9=>(i,a)::entry (i+1) as9
theorem NS {S:aB} {B:aR} {as9:List θ} {vs:Array Value} (h:fy S B σ as9 vs) (n:Nat):de S B σ (entry 0 as9) (vs++Array.replicate n undef):=by
 have key:∀(l:List θ) (j i:Nat),a3 (entry j l) i=if j<=i then(l[i-j]?).getD .cg else .cg:=by
  intro l
  induction l with
  | nil=>intro j i;simp[entry,a3]
  | cons a l Δ=>
   intro j i;simp only[entry,a3];by_cases e:j=i
   ·subst e;simp
   ·rw[if_neg e,Δ];by_cases hle:j<=i
    ·rw[if_pos (by omega),if_pos hle];have:i-j=(i-(j+1))+1:=by omega
     rw[this,List.getElem?_cons_succ]
    ·rw[if_neg (by omega),if_neg hle]
 intro i;rw[key,if_pos (Nat.zero_le _),Nat.sub_zero];by_cases aD:i<as9.length
 ·have ξ:=aW aD;rw[ξ];have hv:i<vs.size:=by rw[<-h.1];exact aD
  rw[Array.getD_eq_getD_getElem?,Array.getElem?_append_left hv];exact h.2 i _ _ ξ (by rw[e7 hv];rfl)
 ·rw[List.getElem?_eq_none (by omega)];exact .cg _
def Ends (T:bd) (rs:List ResultVar) (K:θ->List Row->Prop) (j:List Item) (env:aa) (σ:List Row):Prop:=match j with
 | []=>∃a,ri T rs env σ=some a/\K a σ
 | .code .ret::_=>∃a,ri T rs env σ=some a/\K a σ
 | _=>False
theorem ak.W3 {F:θ->List Row->Prop} (Κ:bR P T) {g:FuncId} {fn:Func} {body:Code} (cf:P.funcs[g]?=some fn) (nv:fn.body=some body) (vL:(fn.name == "runtime.NumGoroutine")=false) {args:List θ} (hlen:args.length<=fn.ntmps)
  (h:W P σ.length fn.ntmps [.code body] (entry 0 args) σ (Ends T fn.results.toList K) (λa _ s=>F a s)):ak P g args σ K F:=by
 refine⟨⟨fn,cf,vL,by rw[nv];rfl⟩,λQ mn x c rest S B H vs U Β hv hb=>?_⟩;have kT:∀{α:Type} (l:List α),l.length=σ.length->l.take σ.length=l:=λl ω=>List.take_of_length_le (by omega);have e4:Frame.enter P g vs .normal=ar (Frame.enter P g vs .normal) (vs++Array.replicate (fn.ntmps-vs.size) undef) [.code body]:=by
  simp[Frame.enter,ar,cf,nv]
 rw[e4];have cm:(vs++Array.replicate (fn.ntmps-vs.size) undef).size=fn.ntmps:=by
  have:=hv.1;simp;omega
 refine h Q mn x (c::rest) _ S B H _ U rfl ⟨Β,NS hv _,cm,Nat.le_refl _⟩ (λj env' σ' ax B' H' t' ab Θ ξ ψ ω=>?_) (λa env' σ' ax B' H' t' ab v c9 ξ iY _ μ=>?_)
 ·have HS:b3 S ax B B' σ σ':=by
   have:=ξ.later
   rwa [kT B Β.len,kT σ rfl] at this
  have fin:(∃a,ri T fn.results.toList env' σ'=some a/\K a σ')->aM P Q mn x {ar (Frame.enter P g vs .normal) t' ab with mode:=.returning} (c::rest) H':=λ⟨a,J,γ⟩=>by
   refine .back U rfl rfl (.inl rfl) cf ?_;refine υ.mono (λv bN ⟨cT,e3,Ε,l2,π,r2⟩=>?_) (λ_ _ h=>h) _ (DC Κ J ψ.holds ψ.cp);exact hb.ret a σ' cT e3 bN v γ (ξ.ext.trans Ε) (HS.trans l2) π r2
  have:ab=j:=ω;subst this;unfold Ends at Θ;split at Θ
  ·exact .sm U rfl rfl (fin Θ)
  ·exact .ret U rfl rfl (fin Θ)
  ·exact Θ.elim
 ·have HS:b3 S ax B B' σ σ':=by
   have:=ξ.later
   rwa [kT B Β.len,kT σ rfl] at this
  refine .raised U rfl rfl ?_ (hb.xS a σ' ax B' H' v c9 ξ.ext HS iY μ);simp[Frame.catches,ar,Frame.enter,cf]
end
section
variable {P:Program} {S ax:aB} {B:aR} {H H':Α} {σ:List Row}
theorem ao.take {h:Nat} {a:θ} {v:Value} (μ:ao S B σ a v) (hb:au h a):ao S (B.take h) (σ.take h) a v:=by
 have bk:∀{α:Type} (l:List α) (i:Nat),i<h->(l.take h)[i]?=l[i]?:=λl i hi=>List.getElem?_take_of_lt hi
 induction μ with
 | z v=>exact .z v
 | Ψ b o w J _ Δ=>
  cases hb with
  | Ψ hb=>exact .Ψ b o w J λj a ε=>Δ j a ε (hb a (ck ε))
 | iA base cap h=>exact .iA base cap h
 | sl b o cap w J γ π Μ _ Δ=>
  cases hb with
  | sl hb=>exact .sl b o cap w J γ π Μ λi e hi j c ε=>Δ i e hi j c ε (hb e (ck hi) c (ck ε))
 | aS vs J _ Δ=>
  cases hb with
  | aS hb=>exact .aS vs J λi a v hi hv=>Δ i a v hi hv (hb a (ck hi))
 | bn vs J _ Δ=>
  cases hb with
  | bn hb=>exact .bn vs J λi a v hi hv=>Δ i a v hi hv (hb a (ck hi))
 | al J γ π=>
  cases hb with
  | al hb=>exact .al (by rw[bk _ _ hb];exact J) γ (by rw[bk _ _ hb];exact π)
 | jB v J γ=>
  cases hb with
  | al hb=>exact .jB v (by rw[bk _ _ hb];exact J) γ
 | ms cap J γ π Μ aA bc=>
  cases hb with
  | ms hb=>exact .ms cap (by rw[bk _ _ hb];exact J) γ (by rw[bk _ _ hb];exact π) Μ aA bc
 | iW v J γ=>
  cases hb with
  | ms hb=>exact .iW v (by rw[bk _ _ hb];exact J) γ
 | fn vs ws J γ _ _ so mz=>
  cases hb with
  | fn j0 fw=>exact .fn vs ws J γ (λi a v hi hv=>so i a v hi hv (j0 a (ck hi))) λi a v hi hv=>mz i a v hi hv (fw a (ck hi))
 | fF v _ Δ=>
  cases hb with
  | fF hb=>exact .fF v (Δ hb)
 | mp J γ=>
  cases hb with
  | mp hb=>exact .mp (by rw[bk _ _ hb];exact J) (by rw[bk _ _ hb];exact γ)
 | lI v J=>
  cases hb with
  | mp hb=>exact .lI v (by rw[bk _ _ hb];exact J)
 | it J γ=>
  cases hb with
  | it hb=>exact .it (by rw[bk _ _ hb];exact J) (by rw[bk _ _ hb];exact γ)
 | nk v J=>
  cases hb with
  | it hb=>exact .nk v (by rw[bk _ _ hb];exact J)
 | cg v=>exact .cg v
theorem ao.any {a:θ} {v:Value} (μ:ao S B σ a v) (hb:au 0 a) (e3:aR) (gw:List Row):ao S e3 gw a v:=by
 have J:ao S [] [] a v:=by simpa using μ.take hb
 exact J.later ⟨λ_ _ _ h=>h,λid r h=>by simp at h⟩
theorem Holds.bare (Β:Holds S B σ H):Holds S [] [] H:=
 ⟨Β.dd,rfl,λid r bo h=>by simp at h,λi j ec b' b gF gG e0 h=>by simp at h,λid r b N h=>by simp at h⟩
theorem Holds.back (Β:Holds S B σ H) (he:Ext S [] H ax [] H') (ag:Holds ax [] [] H'):Holds ax B σ H'/\Ext S B H ax B H'/\b3 S ax B B σ σ:=by
 have ω:b3 S ax B B σ σ:=⟨he.dd,λid r h=>⟨r,h,r.tN _⟩⟩
 have xU:∀b,¬aR.has ([]:aR) b:=λb ⟨N,h⟩=>by simp at h
 have aS:∀(id:Nat) (r:Row) (b N:Nat),σ[id]?=some r->r.live->B[id]?=some (some (b,N))->ks H H' b:=λid r b N J γ π=>(he.fD b (xU b) (Β.n6 J γ π)).su λo=>Β.sep id r b N J γ π o;refine⟨⟨ag.dd,Β.len,λid r bo μ ez=>?_,Β.inj,λid r b N μ fc ez o=>?_⟩,⟨he.dd,λb _ Φ=>he.fD b (xU b) Φ,λb hb=>.inl hb,λb o v hv=>?_,he.grow⟩,ω⟩
 ·by_cases fc:r.live
  ·refine(Β.row id r bo μ ez).later ω (λb N e=>aS id r b N μ fc (by rw[ez,e])) λm left cur e=>?_;subst e;obtain⟨_,_,aT,kN,xs,clock,seen,_,J,⟨es,γ⟩,_⟩:=Β.row id _ bo μ ez;exact⟨rfl,rfl,λb N hb=>aS m _ b N γ trivial hb⟩
  ·cases r<;>first|exact absurd trivial fc|trivial
 ·cases hv:ax b o with
  | none=>rfl
  | some v=>
   rcases he.q3 b o v hv with h|h|h
   ·rw[Β.sep id r b N μ fc ez o] at h;cases h
   ·exact absurd h (xU b)
   ·exact absurd h (Β.n6 μ fc ez)
 ·rcases he.q3 b o v hv with h|h|h
  ·exact .inl h
  ·exact absurd h (xU b)
  ·exact .inr (.inr h)
theorem ak.frame {g:FuncId} {args:List θ} {K:θ->Prop} {E:θ->Prop} (h:ak P g args [] (λa s=>K a/\au 0 a/\s=[]) (λa s=>E a/\au 0 a/\s=[])) (hb:∀a∈args,au 0 a):ak P g args σ (λa s=>K a/\s=σ) (λa s=>E a/\s=σ):=by
 refine⟨h.1,λQ mn x c rest S B H vs U Β hv lO=>?_⟩;refine h.2 Q mn x c rest S [] H vs U Β.bare ⟨hv.1,λi a v J γ=>(hv.2 i a v J γ).any (hb a (ck J)) _ _⟩ ⟨λa σ' ax B' H' v ⟨χ,j2,ο⟩ he ω iY μ=>?_,λa σ' ax B' H' v ⟨χ,j2,ο⟩ he ω iY μ=>?_⟩
 all_goals
  subst ο;have e':B'=[]:=dp.1 (by rw[iY.len];rfl);subst e';obtain⟨dH,p2,p3⟩:=Β.back he iY
 ·exact lO.ret a σ ax B H' v ⟨χ,rfl⟩ p2 p3 dH (μ.any j2 _ _)
 ·exact lO.xS a σ ax B H' v ⟨χ,rfl⟩ p2 p3 dH (μ.any j2 _ _)
def z0 (P:Program) (g:FuncId) (args:List θ) (r:θ):Prop:=ak P g args [] (λa s=>a=r/\s=[]) (λ_ _=>False)
theorem z0.call {g:FuncId} {first args captured:List θ} {r:θ} {K:θ->List Row->Prop} {E:θ->List Row->Prop} (h:z0 P g (first++args++captured) r) (hb:∀a∈first++args++captured,au 0 a) (μ:au 0 r) (I:K r σ) :
  hG P (.fn (.func g) first captured) args σ K E:=by
 have J:ak P g (first++args++captured) [] (λa s=>a=r/\au 0 a/\s=[]) (λa s=>False/\au 0 a/\s=[]):=h.mono (λa s ⟨Ζ,Ε⟩=>⟨Ζ,Ζ▸μ,Ε⟩) (λ_ _ h=>h.elim);exact ak.call ((J.frame (σ:=σ) hb).mono (λa s ⟨Ζ,Ε⟩=>by subst Ζ;subst Ε;exact I) (λ_ _ h=>h.1.elim))
end
theorem W4 {h:Nat} {v:Value}:au h (.z v)↔True:=⟨λ_=>trivial,λ_=>.z v⟩
theorem W5 {h:Nat}:au h .cg↔True:=⟨λ_=>trivial,λ_=>.cg⟩
theorem NT {h:Nat} {l:List θ}:au h (.Ψ l)↔∀a∈l,au h a:=⟨λx=>by cases x;assumption,.Ψ⟩
theorem W6 {h:Nat} {l:List θ}:au h (.aS l)↔∀a∈l,au h a:=⟨λx=>by cases x;assumption,.aS⟩
theorem W7 {h:Nat} {l:List θ}:au h (.bn l)↔∀a∈l,au h a:=⟨λx=>by cases x;assumption,.bn⟩
theorem fZ {h:Nat} {ex:Bool} {k:Nat} {l:List θ}:au h (.sl ex k l)↔∀e∈l,∀a∈e.cells,au h a:=⟨λx=>by cases x;assumption,.sl⟩
theorem W8 {h:Nat} {t:TypeId} {a:θ}:au h (.fF t a)↔au h a:=⟨λx=>by cases x;assumption,.fF⟩
theorem kU {h id n i j:Nat}:au h (.al id n i j)↔id<h:=⟨λx=>by cases x;assumption,.al⟩
theorem nx {h id n i j:Nat}:au h (.ms id n i j)↔id<h:=⟨λx=>by cases x;assumption,.ms⟩
theorem sL {h id:Nat}:au h (.mp id)↔id<h:=⟨λx=>by cases x;assumption,.mp⟩
theorem W9 {h id:Nat}:au h (.it id)↔id<h:=⟨λx=>by cases x;assumption,.it⟩
theorem lP {h:Nat} {f:Fn} {c5 cs:List θ}:au h (.fn f c5 cs)↔(∀a∈c5,au h a)/\∀a∈cs,au h a:=⟨λx=>by cases x;exact⟨by assumption,by assumption⟩,λx=>.fn x.1 x.2⟩
end Go.TL
