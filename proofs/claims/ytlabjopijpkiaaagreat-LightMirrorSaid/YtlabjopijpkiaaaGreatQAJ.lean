import Derived.Test.YtlabjopijpkiaaaGreatQAI
set_option maxHeartbeats 16000000
set_option maxRecDepth 20000
set_option linter.unusedSectionVars false
set_option linter.unusedSimpArgs false
set_option linter.unusedVariables false
namespace Go.TL
open Go.Conc
def cd.or (r:cd) (σ:List Row) (s:cO):cO:=match r with
 | .ok a=>.ok a σ
 | .bT p r=>.bT p (r.dd σ)
 | .bad=>s
def oo (A:List Nat) (d:Option Tmp):Bool:=match d with|some d=>A.contains d|none=>false
def qN (env:Φ) (cC:Array (Nat×Operand)):List (Nat×ζ):=cC.toList.map λp=>(p.1,aG env p.2)
def vq (c a b:ζ):cd:=match c with
 | .z (.bool v)=>match a,b with
  | .z (.bool x),.z (.bool y)=>.ok (.z (.bool (bif v then x else y)))
  | _,_=>match v with|true=>.ok a|false=>.ok b
 | _=>.bad
def qO (T:aZ) (σ:List Row) (src dst:TypeId) (x:ζ):cd:=match vj T src dst x with
 | .bad=>match Be T src dst x with
  | .bad=>rV T src dst σ x
  | r=>r
 | r=>r
def lg (T:aZ) (A:List Nat) (env:Φ) (o:Oper):cd:=
 match o.op with
 | .move x=>.ok (aG env x)
 | .assign x=>.ok (aG env x)
 | .pick c a b=>vq (aG env c) (aG env a) (aG env b)
 | .alloc ty=>if oo A o.dst then .bad else AG T ty
 | .box _ x=>if oo A o.dst then .bad else ve (aG env x)
 | .build ty cC=>l4 T (ζ.aU []) ty (qN env cC)
 | .buildSlice ty n cC=>if oo A o.dst then .bad else xN T (ζ.aU []) ty n (qN env cC)
 | .load ty x=>Au T ty (aG env x)
 | .binOp op ty x y _=>Ba T op ty (aG env x) (aG env y)
 | .unOp op _ x=>u' op (aG env x)
 | .convert s d x=>qO T [] s d (aG env x)
 | .index ty x i=>Bb T ty (aG env x) (aG env i)
 | .nilCheck x=>Bc (aG env x)
 | .sliceToArrayPointer ty x=>Bd T ty (aG env x)
 | .makeInterface ty x=>At T ty (aG env x)
 | .makeFunc f cP cs=>.ok (.fn f (cP.toList.map (aG env)) (cs.toList.map (aG env)))
 | .makeSlice ty n c=>if oo A o.dst then .bad else AL T ty (aG env n) (aG env c)
 | .slice ty x lo hi none=>AT T ty (aG env x) (lo.map (aG env)) (hi.map (aG env))
 | .fieldAddr ty x f=>Aw T ty f (aG env x)
 | .indexAddr ty x i=>Ay T ty (aG env x) (aG env i)
 | .typeAssert x _ ty ok=>th T ty ok (aG env x)
 | .extract x i=>As i (aG env x)
 | .call ⟨.builtin b,⟨[x]⟩,⟨[ty]⟩⟩=>match b with
  | .len=>AV T ty (aG env x)
  | _=>.bad
 | .call ⟨.builtin b,⟨[x,y]⟩,⟨[rW,ty]⟩⟩=>match b with
  | .max=>AX [aG env x,aG env y]
  | .append=>if oo A o.dst then .bad else qI T rW ty (ζ.aU []) [] (aG env x) (aG env y)
  | _=>.bad
 | _=>.bad
def jv (T:aZ) (A:List Nat) (env:Φ) (σ:List Row) (o:Oper):cO:=
 match o.op with
 | .alloc ty=>if oo A o.dst then AF T ty σ else .bad
 | .box ty x=>if oo A o.dst then vf ty σ (aG env x) else AE σ (aG env x)
 | .build ty cC=>(l4 T (ζ.aU σ) ty (qN env cC)).dd σ
 | .buildSlice ty n cC=>if oo A o.dst then AJ T ty n (qN env cC) σ else(xN T (ζ.aU σ) ty n (qN env cC)).dd σ
 | .load ty x=>ti T ty σ (aG env x)
 | .store ty p x=>AA T ty σ (aG env p) (aG env x)
 | .convert s d x=>(qO T σ s d (aG env x)).dd σ
 | .nilCheck x=>tA σ (aG env x)
 | .binOp .eql ty x (.const (.slice none 0 0)) _=>Bg T ty σ (aG env x)
 | .makeMap _ none=>EU σ
 | .mapUpdate ty m k x=>xU T ty σ (aG env m) (aG env k) (aG env x)
 | .insert ty m k x=>xU T ty σ (aG env m) (aG env k) (aG env x)
 | .lookup ty x k ok=>A2 T ty ok σ (aG env x) (aG env k)
 | .range ty x=>A4 T ty σ (aG env x)
 | .next it false=>A5 σ (aG env it)
 | .entry it=>A8 σ (aG env it)
 | .makeSlice ty n c=>if oo A o.dst then AK T ty (aG env n) (aG env c) σ else .bad
 | .slice ty x lo hi none=>AU T ty σ (aG env x) (lo.map (aG env)) (hi.map (aG env))
 | .fieldAddr ty x f=>tj T ty f σ (aG env x)
 | .indexAddr ty x i=>tk T ty σ (aG env x) (aG env i)
 | .call ⟨.builtin b,⟨[x]⟩,⟨[ty]⟩⟩=>match b with
  | .len=>AW T ty σ (aG env x)
  | .clear=>A' T ty σ (aG env x)
  | _=>.bad
 | .call ⟨.builtin b,⟨[x,y]⟩,⟨[rW,ty]⟩⟩=>match b with
  | .append=>if oo A o.dst then AR T rW ty σ (aG env x) (aG env y) else(qI T rW ty (ζ.aU σ) σ (aG env x) (aG env y)).dd σ
  | _=>.bad
 | _=>.bad
section
variable {P:Program} {T:aZ} {A:List Nat} {S:al} {B:aH} {H:υ} {σ:List Row} {env:Φ} {t:Array Value}
theorem cd.RX {s:Sem Next} {r:cd} {a:cO} (J:Does P s S B H σ (r.dd σ)) (R:Does P s S B H σ a):Does P s S B H σ (r.or σ a):=by
 cases r with
 | ok x=>exact J
 | bT p r=>exact J
 | bad=>exact R
theorem RY (ψ:Holds S B σ H) {c a b:ζ} {u v w:Value} (η:ah S B σ c u) (κ:ah S B σ a v) (hb:ah S B σ b w):cp P (do pure (if <-asBool u then v else w)) S B H σ ((vq c a b).dd σ):=by
 unfold vq;split
 ·rename_i x;cases η;split
  ·rename_i p q;cases κ;cases hb;intro K I;refine π.bind' (π.pure' (π.pure' ?_));cases x
   ·exact .same ψ I (.z _)
   ·exact .same ψ I (.z _)
  ·cases x
   ·exact λK I=>π.bind' (π.pure' (π.pure' (.same ψ I hb)))
   ·exact λK I=>π.bind' (π.pure' (π.pure' (.same ψ I κ)))
 ·exact .bad
theorem RZ (cq:cY S B σ env t) (f:Fn) (cP cs:Array Operand):ah S B σ (.fn f (cP.toList.map (aG env)) (cs.toList.map (aG env))) (.func f (cP.map (a8 t)) (cs.map (a8 t))):=by
 refine .fn _ _ (by simp) (by simp) (λi a v J R=>?_) (λi a v J R=>?_)
 ·rw[List.getElem?_map] at J;rw[Array.getElem?_map] at R;rw[Array.getElem?_toList] at J;cases U:cP[i]? with
  | none=>rw[U] at J;cases J
  | some x=>rw[U] at J R;cases J;cases R;exact kv cq x
 ·rw[List.getElem?_map] at J;rw[Array.getElem?_map] at R;rw[Array.getElem?_toList] at J;cases U:cs[i]? with
  | none=>rw[U] at J;cases J
  | some x=>rw[U] at J R;cases J;cases R;exact kv cq x
theorem Bh (cq:cY S B σ env t) (o:Option Operand):tn S B σ (o.map (aG env)) (o.map (a8 t)):=by
 cases o with
 | none=>trivial
 | some x=>exact kv cq x
theorem JQ {a:ζ} {r:Nat×List ζ} (h:oe [] a=some r):oe σ a=some r:=by
 cases a<;>first|exact h|(simp[oe] at h)
theorem R0 {st xt:TypeId} {s x:ζ}:qI T st xt (ζ.aU []) [] s x=.bad\/qI T st xt (ζ.aU []) [] s x=qI T st xt (ζ.aU []) σ s x:=by
 unfold qI;cases U:oe [] x with
 | none=>left;split<;>simp_all
 | some r=>rw[JQ U];exact .inr rfl
theorem JR (Ζ:bE P T) (ψ:Holds S B σ H) (src dst:TypeId) {x:ζ} {v:Value} (U:ah S B σ x v):cp P (convert src dst v) S B H σ ((qO T σ src dst x).dd σ):=by
 have J:=Q7 Ζ ψ src dst U
 have R:=RN Ζ ψ src dst U;unfold qO;split
 ·split
  ·exact RQ Ζ ψ src dst U
  ·exact R
 ·exact J
theorem R1 {src dst:TypeId} {x:ζ}:rV T src dst [] x=.bad\/rV T src dst [] x=rV T src dst σ x:=by
 unfold rV;split
 ·cases U:oe [] x with
  | none=>exact .inl rfl
  | some r=>rw[JQ U];exact .inr rfl
 ·exact .inl rfl
theorem R2 {src dst:TypeId} {x:ζ}:qO T [] src dst x=.bad\/qO T [] src dst x=qO T σ src dst x:=by
 unfold qO;split
 ·split
  ·exact R1
  ·exact .inr rfl
 ·exact .inr rfl
theorem R3 (Ζ:bE P T) (ψ:Holds S B σ H) (cq:cY S B σ env t) (o:Oper):Does P (execOp (a8 t) o) S B H σ ((lg T A env o).dd σ):=by
 have ag:∀x,ah S B σ (aG env x) (a8 t x):=λx=>kv cq x;obtain⟨dst,op,type,pos,after,guard⟩:=o;unfold lg;simp only;split
 ·exact Does.val ψ (ag _)
 ·exact Does.val ψ (ag _)
 ·rename_i c a b;have:=(RY (P:=P) ψ (ag c) (ag a) (ag b)).next;unfold execOp;simp only;refine λK I=>?_;have R:=this K I;simpa using R
 ·split
  ·exact .bad
  ·exact(QK Ζ ψ _).next
 ·split
  ·exact .bad
  ·exact(QH ψ _ (ag _)).next
 ·exact(Jn Ζ ψ (λa h=>AB h) _ cq _).next
 ·split
  ·exact .bad
  ·exact(Jq Ζ ψ (λa h=>AB h) _ _ cq _).next
 ·exact(Qv Ζ ψ (ag _)).next
 ·exact(RH Ζ ψ _ _ _ _ (ag _) (ag _)).next
 ·exact(Qq ψ _ (ag _)).next
 ·rename_i a b x;rcases R2 (T:=T) (σ:=σ) (src:=a) (dst:=b) (x:=aG env x) with h|h
  ·rw[h];exact .bad
  ·rw[h];exact(JR Ζ ψ _ _ (ag _)).next
 ·exact(RI Ζ ψ _ (ag _) (ag _)).next
 ·exact RJ ψ rfl (ag _)
 ·exact(RL Ζ ψ _ (ag _)).next
 ·exact(Qs Ζ ψ _ (ag _)).next
 ·exact cp.next (cp.pure ψ (RZ cq _ _ _))
 ·split
  ·exact .bad
  ·exact(QO Ζ ψ (ag _) (ag _)).next
 ·exact(Q3 Ζ ψ _ (ag _) (Bh cq _) (Bh cq _)).next
 ·exact(Qx Ζ ψ (ag _)).next
 ·exact(QC Ζ ψ (ag _) (ag _)).next
 ·exact(Qt Ζ ψ _ _ _ (ag _)).next
 ·exact(Qr ψ _ (ag _)).next
 ·split
  ·exact λK I=>by
       refine π.bind' (π.pure' ?_);have e:∀x:Operand,Array.map (a8 t) {toList:=[x]}=#[a8 t x]:=λx=>by simp
       simp only[invoke,builtin,e];exact(Q5 Ζ ψ _ _ (ag _)).next K I
  ·exact .bad
 ·split
  ·exact λK I=>by
       refine π.bind' (π.pure' ?_);have e:∀x y:Operand,Array.map (a8 t) {toList:=[x,y]}=#[a8 t x,a8 t y]:=λx y=>by simp
       simp only[invoke,builtin,e];exact(Q8 ψ _ _ (ag _) (ag _)).next K I
  ·split
   ·exact .bad
   ·rename_i x y rW ty _ _;rcases R0 (T:=T) (σ:=σ) (st:=rW) (xt:=ty) (s:=aG env x) (x:=aG env y) with h|h
    ·rw[h];exact .bad
    ·rw[h];exact λK I=>by
       refine π.bind' (π.pure' ?_);have e:∀x y:Operand,Array.map (a8 t) {toList:=[x,y]}=#[a8 t x,a8 t y]:=λx y=>by simp
       simp only[invoke,builtin,e];exact(Jw Ζ ψ (λa h=>AB h) _ _ _ (ag _) (ag _)).next K I
  ·exact .bad
 ·exact .bad
theorem R4 (Ζ:bE P T) (ψ:Holds S B σ H) (cq:cY S B σ env t) (o:Oper):Does P (execOp (a8 t) o) S B H σ (jv T A env σ o):=by
 have ag:∀x,ah S B σ (aG env x) (a8 t x):=λx=>kv cq x;obtain⟨dst,op,type,pos,after,guard⟩:=o;unfold jv;simp only;split
 ·split
  ·exact(QJ Ζ ψ _).next
  ·exact .bad
 ·split
  ·exact(QI ψ _ (ag _)).next
  ·exact(QG ψ _ (ag _)).next
 ·exact(Jn Ζ ψ (λa h=>h) _ cq _).next
 ·split
  ·exact(QM Ζ ψ _ _ cq _).next
  ·exact(Jq Ζ ψ (λa h=>h) _ _ cq _).next
 ·exact(Qw Ζ ψ (ag _)).next
 ·exact(QF Ζ ψ (ag _) (ag _)).next
 ·exact(JR Ζ ψ _ _ (ag _)).next
 ·exact RK ψ rfl (ag _)
 ·exact(RV Ζ ψ _ _ _ (ag _)).next
 ·exact(Rk ψ _).next
 ·exact(JF Ζ ψ (ag _) (ag _) (ag _)).next
 ·exact(JF Ζ ψ (ag _) (ag _) (ag _)).next
 ·exact(Rl Ζ ψ (ag _) (ag _)).next
 ·exact(Rp Ζ ψ (ag _)).next
 ·exact(Rt ψ _ (ag _)).next
 ·exact(Ry ψ (ag _)).next
 ·split
  ·exact(QN Ζ ψ (ag _) (ag _)).next
  ·exact .bad
 ·exact(Q4 Ζ ψ _ (ag _) (Bh cq _) (Bh cq _)).next
 ·exact(Qy Ζ ψ (ag _)).next
 ·exact(QD Ζ ψ (ag _) (ag _)).next
 ·split
  ·exact λK I=>by
       refine π.bind' (π.pure' ?_);have e:∀x:Operand,Array.map (a8 t) {toList:=[x]}=#[a8 t x]:=λx=>by simp
       simp only[invoke,builtin,e];exact(Q6 Ζ ψ _ _ (ag _)).next K I
  ·exact λK I=>by
       refine π.bind' (π.pure' ?_);have e:∀x:Operand,Array.map (a8 t) {toList:=[x]}=#[a8 t x]:=λx=>by simp
       simp only[invoke,builtin,e];exact(RE Ζ ψ _ (ag _)).next K I
  ·exact .bad
 ·split
  ·split
   ·exact λK I=>by
       refine π.bind' (π.pure' ?_);have e:∀x y:Operand,Array.map (a8 t) {toList:=[x,y]}=#[a8 t x,a8 t y]:=λx y=>by simp
       simp only[invoke,builtin,e];exact(QU Ζ ψ _ _ _ (ag _) (ag _)).next K I
   ·exact λK I=>by
       refine π.bind' (π.pure' ?_);have e:∀x y:Operand,Array.map (a8 t) {toList:=[x,y]}=#[a8 t x,a8 t y]:=λx y=>by simp
       simp only[invoke,builtin,e];exact(Jw Ζ ψ (λa h=>h) _ _ _ (ag _) (ag _)).next K I
  ·exact .bad
 ·exact .bad
end
inductive az (h:Nat):ζ->Prop where
 | z (v:Value):az h (.z v)
 | Ω {l:List ζ}:(∀a∈l,az h a)->az h (.Ω l)
 | sl {ex:Bool} {k:Nat} {l:List ζ}:(∀e∈l,∀a∈e.cells,az h a)->az h (.sl ex k l)
 | aR {l:List ζ}:(∀a∈l,az h a)->az h (.aR l)
 | bn {l:List ζ}:(∀a∈l,az h a)->az h (.bn l)
 | ae {id n i j:Nat}:id<h->az h (.ae id n i j)
 | ms {id n i len:Nat}:id<h->az h (.ms id n i len)
 | fn {f:Fn} {cP cs:List ζ}:(∀a∈cP,az h a)->(∀a∈cs,az h a)->az h (.fn f cP cs)
 | fc {t:TypeId} {a:ζ}:az h a->az h (.fc t a)
 | mp {id:Nat}:id<h->az h (.mp id)
 | it {id:Nat}:id<h->az h (.it id)
 | ca:az h .ca
def eJ (h:Nat):Row->Prop
 | .cells _ _ l=>∀e∈l,∀a∈e.cells,az h a
 | .map es=>∀e∈es,az h e.1/\az h e.2
 | .iter m left cur=>m<h/\(∀e∈left,az h e.1/\az h e.2)/\∀e,cur=some e->az h e.1/\az h e.2
 | .dead=>True
inductive et (h:Nat) (σ:List Row):ζ->ζ->Prop where
 | low {a:ζ}:az h a->et h σ a a
 | ca (a:ζ):et h σ a .ca
 | ms {id n i len k:Nat} {t:TypeId} {l dH:List ζ}:h<=id->σ[id]?=some (.cells t k l)->l.length=n->i+len<=n->dH.length=len->
   (∀(j:Nat) (e aA:ζ),l[i+j]?=some e->dH[j]?=some aA->aA.cells.length=e.cells.length)->(∀(j:Nat) (e aA:ζ),l[i+j]?=some e->dH[j]?=some aA->∀(x:Nat) (a b6:ζ),e.cells[x]?=some a->aA.cells[x]?=some b6->et h σ a b6)->et h σ (.ms id n i len) (.sl false k dH)
 | ae {id n i j k:Nat} {t:TypeId} {l cs:List ζ} {e:ζ}:h<=id->σ[id]?=some (.cells t k l)->l.length=n->l[i]?=some e->cs.length<=e.cells.length-j->
   (∀(x:Nat) (a b6:ζ),e.cells[j+x]?=some a->cs[x]?=some b6->et h σ a b6)->et h σ (.ae id n i j) (.Ω cs)
 | aR {l dH:List ζ}:dH.length=l.length->(∀(x:Nat) (a b6:ζ),l[x]?=some a->dH[x]?=some b6->et h σ a b6)->et h σ (.aR l) (.aR dH)
 | bn {l dH:List ζ}:dH.length=l.length->(∀(x:Nat) (a b6:ζ),l[x]?=some a->dH[x]?=some b6->et h σ a b6)->et h σ (.bn l) (.bn dH)
 | fn {f:Fn} {cP E5 cs cs':List ζ}:E5.length=cP.length->cs'.length=cs.length->(∀(x:Nat) (a b6:ζ),cP[x]?=some a->E5[x]?=some b6->et h σ a b6)->(∀(x:Nat) (a b6:ζ),cs[x]?=some a->cs'[x]?=some b6->et h σ a b6)->et h σ (.fn f cP cs) (.fn f E5 cs')
section
variable {S:al} {B:aH} {H:υ} {σ:List Row} {h:Nat}
def Late (B:aH) (σ:List Row) (h b:Nat):Prop:=∃id t k l N,h<=id/\σ[id]?=some (Row.cells t k l)/\B[id]?=some (some (b,N))
open Classical in
noncomputable def al.close (S:al) (B:aH) (σ:List Row) (H:υ) (h:Nat):al:=λb o=>if Late B σ h b then(H.av b o).map (·.1) else S b o
theorem Bi (ψ:Holds S B σ H):∀b o v,S b o=some v->S.close B σ H h b o=some v:=λb o v hv=>by
 unfold al.close;split
 ·rename_i Β;obtain⟨id,t,k,l,N,J,R,ς⟩:=Β;have:=ψ.sep id _ b N R trivial ς o;rw[hv] at this;cases this
 ·exact hv
theorem ah.pz (ψ:Holds S B σ H) {a:ζ} {v:Value} (ι:ah S B σ a v) (hb:az h a):ah (S.close B σ H h) (B.take h) (σ.take h) a v:=by
 have a2:∀{α:Type} (l:List α) (i:Nat),i<h->(l.take h)[i]?=l[i]?:=λl i hi=>List.getElem?_take_of_lt hi
 induction ι with
 | z v=>exact .z v
 | Ω b o w J _ Γ=>
  cases hb with
  | Ω hb=>exact .Ω b o w (λj a γ=>Bi ψ _ _ _ (J j a γ)) λj a γ=>Γ j a γ (hb a (cf γ))
 | hN base cap h=>exact .hN base cap h
 | sl b o cap w J R ς Κ _ Γ=>
  cases hb with
  | sl hb=>exact .sl b o cap w J R ς (λi e hi j c γ=>Bi ψ _ _ _ (Κ i e hi j c γ)) λi e hi j c γ=>Γ i e hi j c γ (hb e (cf hi) c (cf γ))
 | aR vs J _ Γ=>
  cases hb with
  | aR hb=>exact .aR vs J λi a v hi hv=>Γ i a v hi hv (hb a (cf hi))
 | bn vs J _ Γ=>
  cases hb with
  | bn hb=>exact .bn vs J λi a v hi hv=>Γ i a v hi hv (hb a (cf hi))
 | ae J R ς=>
  cases hb with
  | ae hb=>exact .ae (by rw[a2 _ _ hb];exact J) R (by rw[a2 _ _ hb];exact ς)
 | iD v J R=>
  cases hb with
  | ae hb=>exact .iD v (by rw[a2 _ _ hb];exact J) R
 | ms cap J R ς Κ aF aV=>
  cases hb with
  | ms hb=>exact .ms cap (by rw[a2 _ _ hb];exact J) R (by rw[a2 _ _ hb];exact ς) Κ aF aV
 | h8 v J R=>
  cases hb with
  | ms hb=>exact .h8 v (by rw[a2 _ _ hb];exact J) R
 | fn vs ws J R _ _ qA k8=>
  cases hb with
  | fn jM fE=>exact .fn vs ws J R (λi a v hi hv=>qA i a v hi hv (jM a (cf hi))) λi a v hi hv=>k8 i a v hi hv (fE a (cf hi))
 | fc v _ Γ=>
  cases hb with
  | fc hb=>exact .fc v (Γ hb)
 | mp J R=>
  cases hb with
  | mp hb=>exact .mp (by rw[a2 _ _ hb];exact J) (by rw[a2 _ _ hb];exact R)
 | ku v J=>
  cases hb with
  | mp hb=>exact .ku v (by rw[a2 _ _ hb];exact J)
 | it J R=>
  cases hb with
  | it hb=>exact .it (by rw[a2 _ _ hb];exact J) (by rw[a2 _ _ hb];exact R)
 | lY v J=>
  cases hb with
  | it hb=>exact .lY v (by rw[a2 _ _ hb];exact J)
 | ca v=>exact .ca v
theorem JS {id b N:Nat} {t:TypeId} {k:Nat} {l:List ζ} (af:h<=id) (J:σ[id]?=some (.cells t k l)) (R:B[id]?=some (some (b,N))) {o:Nat} {v:Value} {p:Bool} (hv:H.av b o=some (v,p)):S.close B σ H h b o=some v:=by
 unfold al.close;rw[if_pos ⟨id,t,k,l,N,af,J,R⟩,hv];rfl
theorem ah.R5 (ψ:Holds S B σ H) {a b6:ζ} (ν:et h σ a b6):∀{v:Value},ah S B σ a v->ah (S.close B σ H h) (B.take h) (σ.take h) b6 v:=by
 induction ν with
 | low hb=>intro v ι;exact ι.pz ψ hb
 | ca a=>intro v _;exact .ca v
 | @ms id n i len k t l dH J R ς Κ aF aV _ Γ=>
  intro v ι;cases ι with
  | ms cap Ξ aa aM b9 fV hs=>
   rw[R] at Ξ;cases Ξ;by_cases Ν:dH=[]
   ·subst Ν;have:len=0:=by rw[<-aF];rfl
    subst this;exact .hN _ _ (by simp)
   ·have og:0<len:=by rw[<-aF];exact List.length_pos_iff.2 Ν
    rcases hs with hs|⟨b,N,rfl,rfl,hs⟩
    ·omega
    ·obtain⟨_,_,_,w,hw⟩:=ψ.row id _ _ R aM;have el:∀(j:Nat) (aA:ζ),dH[j]?=some aA->∃e,l[i+j]?=some e/\e.cells.length=k/\aA.cells.length=k:=λj aA γ=>by
      have ar:j<len:=by rw[<-aF];exact(bU.1 γ).1
      have he:l[i+j]?=some l[i+j]:=aX (by omega);exact⟨_,he,(hw _ _ he).1,(aV j _ aA he γ).trans (hw _ _ he).1⟩
     have:=ah.sl (S:=S.close B σ H h) (B:=B.take h) (σ:=σ.take h) (ex:=false) (k:=k) (l:=dH) b (i*k) cap (λj x=>w (i+j) x) (by simp) (by omega) (λj aA γ=>(el j aA γ).choose_spec.2.2)
      (λj aA γ x b6 U=>by
       obtain⟨e,Δ,Ε,a3⟩:=el j aA γ;have Bj:x<e.cells.length:=by rw[Ε,<-a3];exact(bU.1 U).1
       have:=((hw _ e Δ).2 x _ (aX Bj)).1;rw[Nat.add_mul] at this;exact JS J R aM this)
      (λj aA γ x b6 U=>by
       obtain⟨e,Δ,Ε,a3⟩:=el j aA γ;have Bj:x<e.cells.length:=by rw[Ε,<-a3];exact(bU.1 U).1
       exact Γ j e aA Δ γ x _ b6 (aX Bj) U ((hw _ e Δ).2 x _ (aX Bj)).2.1)
     rw[aF] at this;exact this
  | h8 v Ξ aa=>rw[R] at Ξ;cases Ξ;simp only[Row.gn] at aa;omega
 | @ae id n i j k t l cs e J R ς Κ aF aV Γ=>
  intro v ι;cases ι with
  | ae Ξ aa aM=>
   rw[R] at Ξ;cases Ξ;obtain⟨_,_,_,w,hw⟩:=ψ.row id _ _ R aM;have el:∀(x:Nat) (b6:ζ),cs[x]?=some b6->∃a,e.cells[j+x]?=some a:=λx b6 U=>by
    have:=(bU.1 U).1;exact⟨_,aX (by omega)⟩
   refine .Ω _ _ (λx=>w i (j+x)) (λx b6 U=>?_) (λx b6 U=>?_)
   ·obtain⟨a,κ⟩:=el x b6 U;have:=((hw i e Κ).2 _ a κ).1;rw[<-Nat.add_assoc] at this;exact JS J R aM this
   ·obtain⟨a,κ⟩:=el x b6 U;exact Γ x a b6 κ U ((hw i e Κ).2 _ a κ).2.1
  | iD v Ξ aa=>rw[R] at Ξ;cases Ξ;simp only[Row.gn] at aa;omega
 | aR J R Γ=>
  intro v ι;cases ι with
  | aR vs Ξ aa=>
   refine .aR vs (by rw[J,Ξ]) λi b6 w hi hv=>?_;have ar:=(bU.1 hi).1;have κ:=aX (J▸ar);exact Γ i _ b6 κ hi (aa i _ w κ hv)
 | bn J R Γ=>
  intro v ι;cases ι with
  | bn vs Ξ aa=>
   refine .bn vs (by rw[J,Ξ]) λi b6 w hi hv=>?_;have ar:=(bU.1 hi).1;have κ:=aX (J▸ar);exact Γ i _ b6 κ hi (aa i _ w κ hv)
 | fn J R _ _ qA k8=>
  intro v ι;cases ι with
  | fn vs ws Ξ aa aM b9=>
   refine .fn vs ws (by rw[J,Ξ]) (by rw[R,aa]) (λi b6 w hi hv=>?_) (λi b6 w hi hv=>?_)
   ·have ar:=(bU.1 hi).1
    have κ:=aX (J▸ar);exact qA i _ b6 κ hi (aM i _ w κ hv)
   ·have ar:=(bU.1 hi).1
    have κ:=aX (R▸ar);exact k8 i _ b6 κ hi (b9 i _ w κ hv)
theorem iE.pz (ψ:Holds S B σ H) {r:Row} {bo:Option (Nat×Nat)} (ι:iE S B σ H r bo) (hb:eJ h r):iE (S.close B σ H h) (B.take h) (σ.take h) H r bo:=by
 have a2:∀{α:Type} (l:List α) (i:Nat),i<h->(l.take h)[i]?=l[i]?:=λl i hi=>List.getElem?_take_of_lt hi;cases r with
 | cells t k l=>
  cases bo with
  | none=>exact ι
  | some x=>
   obtain⟨b,N⟩:=x;obtain⟨J,R,ς,w,Κ⟩:=ι;refine⟨J,R,ς,w,λi e hi=>⟨(Κ i e hi).1,λj a γ=>?_⟩⟩;obtain⟨c1,c2,c3⟩:=(Κ i e hi).2 j a γ;exact⟨c1,c2.pz ψ (hb e (cf hi) a (cf γ)),c3⟩
 | map es=>
  obtain⟨b,N,xs,clock,rfl,J,R,ς,Κ⟩:=ι;exact⟨b,N,xs,clock,rfl,J,R,λi e y a b=>by
   obtain⟨c1,c2,c3⟩:=ς i e y a b;exact⟨c1.pz ψ (hb e (cf a)).1,c2.pz ψ (hb e (cf a)).2,c3⟩,Κ⟩
 | iter m left cur=>
  obtain⟨hm,jM,fE⟩:=hb;obtain⟨b,N,aI,jN,xs,clock,seen,rfl,J,R,ς,Κ,⟨cb,i1,i2,i3⟩,i4,i5⟩:=ι;refine⟨b,N,aI,jN,xs,clock,seen,rfl,by rw[a2 _ _ hm];exact J,by rw[a2 _ _ hm];exact R,ς,Κ,⟨cb,i1,i2,λi e y a b=>?_⟩,i4,λe he=>?_⟩
  ·obtain⟨c1,c2⟩:=i3 i e y a b;exact⟨c1.pz ψ (jM e (cf a)).1,c2.pz ψ (jM e (cf a)).2⟩
  ·obtain⟨st,y,a,b,c,d⟩:=i5 e he;exact⟨st,y,a,b,c.pz ψ (fE e he).1,d.pz ψ (fE e he).2⟩
 | dead=>trivial
theorem Holds.close (ψ:Holds S B σ H) (hb:∀(id:Nat) (r:Row),id<h->σ[id]?=some r->eJ h r) :
  Holds (S.close B σ H h) (B.take h) (σ.take h) H/\Ext S B H (S.close B σ H h) (B.take h) H:=by
 have a2:∀{α:Type} (l:List α) (i:Nat) (x:α),(l.take h)[i]?=some x->i<h/\l[i]?=some x:=λl i x hi=>by
  rw[List.getElem?_take] at hi;split at hi
  ·exact⟨‹_›,hi⟩
  ·cases hi
 refine⟨⟨λb o v hv=>?_,by simp[ψ.len],λid r bo ι eC=>?_,λi j dT bW b fT fU gx hi γ hp dO gE cv=>?_,λid r b N ι Β eC o=>?_⟩,⟨Bi ψ,λb _ _=>lZ.of ⟨λ_=>rfl,rfl,rfl⟩,λb ⟨N,b8⟩=>.inl ⟨N,List.mem_of_mem_take b8⟩,λb o v hv=>?_,λ_ h=>h⟩⟩
 ·unfold al.close at hv;split at hv
  ·cases η:H.av b o with
   | none=>rw[η] at hv;cases hv
   | some x=>rw[η] at hv;cases hv;exact⟨x.2,rfl⟩
  ·exact ψ.cX b o v hv
 ·obtain⟨J,R⟩:=a2 _ _ _ ι;obtain⟨_,ς⟩:=a2 _ _ _ eC;exact(ψ.row id r bo R ς).pz ψ (hb id r J R)
 ·exact ψ.inj i j dT bW b fT fU gx (a2 _ _ _ hi).2 (a2 _ _ _ γ).2 hp dO (a2 _ _ _ gE).2 (a2 _ _ _ cv).2
 ·obtain⟨J,R⟩:=a2 _ _ _ ι;obtain⟨_,ς⟩:=a2 _ _ _ eC;unfold al.close;rw[if_neg]
  ·exact ψ.sep id r b N R Β ς o
  ·rintro⟨Bl,t,k,l,ey,Ξ,aa,aM⟩;exact ψ.inj id Bl r _ b N ey (by omega) R aa Β trivial ς aM
 ·unfold al.close at hv;split at hv
  ·rename_i Β;obtain⟨id,t,k,l,N,_,_,ς⟩:=Β;exact .inr (.inl (nn ς))
  ·exact .inl hv
theorem bQ.close {eQ:al} {d':aH} {σ0:List Row} (ψ:Holds S B σ H) (Β:bQ eQ S d' B σ0 σ) (aN:σ0.length<=h):bQ eQ (S.close B σ H h) d' (B.take h) σ0 (σ.take h):=
 ⟨λb o v hv=>Bi ψ b o v (Β.cX b o v hv),λid r ι=>by
  have bS:id<h:=Nat.lt_of_lt_of_le (bU.1 ι).1 aN;obtain⟨r',J,R⟩:=Β.rows id r ι;exact⟨r',by rw[List.getElem?_take_of_lt bS];exact J,by rw[List.getElem?_take_of_lt bS];exact R⟩⟩
end
end Go.TL
namespace Go.TL
open Go.Conc
variable [bh]
structure eD (m:Nat) (S:al) (B:aH) (H:υ) (σ:List Row) (aj:al) (B':aH) (H':υ) (σ':List Row):Prop where
 ext:Ext S B H aj B' H'
 later:bQ S aj (B.take m) B' (σ.take m) σ'
structure e5 (m nt:Nat) (S:al) (B:aH) (H:υ) (σ:List Row) (env:Φ) (t:Array Value):Prop where
 holds:Holds S B σ H
 b7:cY S B σ env t
 size:t.size=nt
 rows:m<=σ.length
section
variable {m:Nat} {S aj xA:al} {B B' xB:aH} {H H' JU:υ} {σ σ' xC:List Row}
theorem bQ.left (h:bQ S aj B B' σ σ') (m:Nat):bQ S aj (B.take m) B' (σ.take m) σ':=
 ⟨h.cX,λid r ι=>by
  rw[List.getElem?_take] at ι;split at ι
  ·rename_i ar;rw[List.getElem?_take_of_lt ar];exact h.rows id r ι
  ·cases ι⟩
theorem bQ.right (h:bQ S aj B B' σ σ') (hm:σ.length<=m):bQ S aj B (B'.take m) σ (σ'.take m):=
 ⟨h.cX,λid r ι=>by
  have ar:id<m:=Nat.lt_of_lt_of_le (bU.1 ι).1 hm;rw[List.getElem?_take_of_lt ar,List.getElem?_take_of_lt ar];exact h.rows id r ι⟩
theorem eD.of (h:Ext S B H aj B' H') (k:bQ S aj B B' σ σ'):eD m S B H σ aj B' H' σ':=⟨h,k.left m⟩
theorem eD.refl:eD m S B H σ S B H σ:=.of (.refl _ _ _) (.refl _ _ _)
theorem eD.trans (h:eD m S B H σ aj B' H' σ') (k:eD m aj B' H' σ' xA xB JU xC):eD m S B H σ xA xB JU xC:=
 ⟨h.ext.trans k.ext,(h.later.right (m:=m) (by simp;omega)).trans k.later⟩
theorem bQ.length (h:bQ S aj B B' σ σ'):σ.length<=σ'.length:=by
 apply Classical.byContradiction;intro Ι;have ar:σ'.length<σ.length:=by omega
 obtain⟨r',J,_⟩:=h.rows σ'.length _ (aX ar);simp at J
end
def Leaves (j:List Item) (k:List Item):Prop:=k=j
def W (P:Program) (m nt:Nat) (k:List Item) (env:Φ) (σ:List Row) (Z:List Item->Φ->List Row->Prop) (E:ζ->Φ->List Row->Prop):Prop:=
 ∀(Q:Value->Prop) (mn:Bool) (x:fZ) (cs:List Frame) (b:Frame) (S:al) (B:aH) (H:υ) (t:Array Value),Seq x->b.mode=.run->e5 m nt S B H σ env t->
  (∀(j:List Item) (env':Φ) (σ':List Row) (aj:al) (B':aH) (H':υ) (t':Array Value) (Χ:List Item),Z j env' σ'->eD m S B H σ aj B' H' σ'->e5 m nt aj B' H' σ' env' t'->Leaves j Χ->aB P Q mn x (ai b t' Χ) cs H')->
  (∀(a:ζ) (env':Φ) (σ':List Row) (aj:al) (B':aH) (H':υ) (t':Array Value) (Χ:List Item) (v:Value),E a env' σ'->eD m S B H σ aj B' H' σ'->Holds aj B' σ' H'->cY aj B' σ' env' t'->ah aj B' σ' a v->aB P Q mn x {ai b t' Χ with mode:=.panicking [{v,recovered:=false}]} cs H')->
  aB P Q mn x (ai b t k) cs H
section
variable {P:Program} {m nt:Nat} {k:List Item} {env:Φ} {σ:List Row} {Z:List Item->Φ->List Row->Prop} {E:ζ->Φ->List Row->Prop}
theorem W.stop (h:Z k env σ):W P m nt k env σ Z E:=λ_ _ _ _ _ S B H t _ _ χ Ν _=>Ν k env σ S B H t k h .refl χ rfl
theorem W.nil (h:Z [] env σ):W P m nt [] env σ Z E:=.stop h
theorem W.ret (h:Z (.code .ret::k) env σ):W P m nt (.code .ret::k) env σ Z E:=.stop h
theorem W.skip (h:W P m nt k env σ Z E):W P m nt (.code .skip::k) env σ Z E:=λQ mn x cs b S B H t U hb χ Ν he=>.skip U hb (h Q mn x cs b S B H t U hb χ Ν he)
theorem W.inBlock {l:Nat} (h:W P m nt k env σ Z E):W P m nt (.inBlock l::k) env σ Z E:=λQ mn x cs b S B H t U hb χ Ν he=>.inBlock U hb (h Q mn x cs b S B H t U hb χ Ν he)
theorem W.seq {a c:Code} (h:W P m nt (.code a::.code c::k) env σ Z E):W P m nt (.code (.seq a c)::k) env σ Z E:=λQ mn x cs b S B H t U hb χ Ν he=>.seq U hb (h Q mn x cs b S B H t U hb χ Ν he)
theorem W.block {l:Nat} {c:Code} (h:W P m nt (.code c::.inBlock l::k) env σ Z E):W P m nt (.code (.block l c)::k) env σ Z E:=λQ mn x cs b S B H t U hb χ Ν he=>.block U hb (h Q mn x cs b S B H t U hb χ Ν he)
theorem W.inLoop {c:Code} (h:W P m nt (.code c::.inLoop c::k) env σ Z E):W P m nt (.inLoop c::k) env σ Z E:=λQ mn x cs b S B H t U hb χ Ν he=>.inLoop U hb (h Q mn x cs b S B H t U hb χ Ν he)
theorem W.loop {c:Code} (h:W P m nt (.code c::.inLoop c::k) env σ Z E):W P m nt (.code (.loop c)::k) env σ Z E:=λQ mn x cs b S B H t U hb χ Ν he=>.loop U hb (h Q mn x cs b S B H t U hb χ Ν he)
theorem W.exit {id:Nat} {Χ:List Item} (Α:exitTo id k=some Χ) (h:W P m nt Χ env σ Z E):W P m nt (.code (.exit id)::k) env σ Z E:=λQ mn x cs b S B H t U hb χ Ν he=>.exit U hb Α (h Q mn x cs b S B H t U hb χ Ν he)
theorem W.cond {c:Operand} {a e:Code} {v:Bool} (η:aG env c=.z (.bool v)) (h:W P m nt (.code (if v then a else e)::k) env σ Z E):W P m nt (.code (.cond c a e)::k) env σ Z E:=λQ mn x cs b S B H t U hb χ Ν he=>by
 refine .cond (v:=v) U hb ?_ (h Q mn x cs b S B H t U hb χ Ν he);have:=kv χ.b7 c;rw[η] at this;rw[xy];generalize a8 t c=u at this;cases this;rfl
theorem W.cut (h:Nat) (hm:m<=h) (env':Φ) (aN:h<=σ.length) (mI:∀(id:Nat) (r:Row),id<h->σ[id]?=some r->eJ h r) (cq:∀p∈env',et h σ (aW env p.1) p.2) (hW:W P m nt k env' (σ.take h) Z E):W P m nt k env σ Z E:=
 λQ mn x cs b S B H t U hb χ Ν he=>by
 obtain⟨c1,c2⟩:=χ.holds.close mI;have Β:bQ S (S.close B σ H h) (B.take m) (B.take h) (σ.take m) (σ.take h):=by
  have:=bQ.close (h:=h) χ.holds ((bQ.refl S B σ).left m) (by simp;omega);exact this
 have κ:eD m S B H σ (S.close B σ H h) (B.take h) H (σ.take h):=⟨c2,Β⟩
 have x2:∀(l:Φ),(∀p∈l,et h σ (aW env p.1) p.2)->∀i,et h σ (aW env i) (aW l i):=by
  intro l
  induction l with
  | nil=>intro _ i;exact .ca _
  | cons p l Γ=>
   intro Β i;simp only[aW];split
   ·rename_i e;rw[<-e];exact Β p (by simp)
   ·exact Γ (λq Ψ=>Β q (by simp[Ψ])) i
 refine hW Q mn x cs b _ _ H t U hb ⟨c1,λi=>(χ.b7 i).R5 χ.holds (x2 env' cq i),χ.size,by simp;omega⟩ (λj gp fG cV fe bH t2 cB Ξ aa aM b9=>?_) (λa gp fG cV fe bH t2 cB v Ξ aa aM b9 fV=>?_)
 ·exact Ν j gp fG cV fe bH t2 cB Ξ (κ.trans aa) aM b9
 ·exact he a gp fG cV fe bH t2 cB v Ξ (κ.trans aa) aM b9 fV
end
def e6 (S:al) (B:aH) (σ:List Row) (as9:List ζ) (vs:Array Value):Prop:=as9.length=vs.size/\∀(i:Nat) (a:ζ) (v:Value),as9[i]?=some a->vs[i]?=some v->ah S B σ a v
structure tB (P:Program) (Q:Value->Prop) (mn:Bool) (x:fZ) (c:Frame) (rest:List Frame) (S:al) (B:aH) (H:υ) (σ:List Row) (K:ζ->List Row->Prop) (E:ζ->List Row->Prop):Prop where
 ret:∀(a:ζ) (σ':List Row) (aj:al) (B':aH) (H':υ) (v:Value),K a σ'->Ext S B H aj B' H'->bQ S aj B B' σ σ'->Holds aj B' σ' H'->ah aj B' σ' a v->aB P Q mn x (c.finish v) rest H'
 vr:∀(a:ζ) (σ':List Row) (aj:al) (B':aH) (H':υ) (v:Value),E a σ'->Ext S B H aj B' H'->bQ S aj B B' σ σ'->Holds aj B' σ' H'->ah aj B' σ' a v->aB P Q mn x (c.raise [{v,recovered:=false}]) rest H'
def JV (P:Program) (Q:Value->Prop) (mn:Bool) (x:fZ) (c:Frame) (rest:List Frame):Next->υ->Prop
 | .enter g as9,H=>aB P Q mn x (Frame.enter P g as9 .normal) (c::rest) H
 | .round l f u2 Al qz,H=>aB P Q mn x (Frame.round l f u2 Al qz .normal) (c::rest) H
 | .value v,H=>aB P Q mn x (c.finish v) rest H
 | _,_=>False
def ht (P:Program) (f:ζ) (args:List ζ) (σ:List Row) (K:ζ->List Row->Prop) (E:ζ->List Row->Prop):Prop:=
 ∀(Q:Value->Prop) (mn:Bool) (x:fZ) (c:Frame) (rest:List Frame) (S:al) (B:aH) (H:υ) (bj:Value) (vs:Array Value),Seq x->Holds S B σ H->ah S B σ f bj->e6 S B σ args vs->tB P Q mn x c rest S B H σ K E->
  π P (do let d <-Deferred.ofValue bj vs;invoke d.target d.args) H (JV P Q mn x c rest) (λ_ _=>False)
def Plain (P:Program) (g:FuncId):Prop:=∃fn,P.funcs[g]?=some fn/\(fn.name == "runtime.NumGoroutine")=false/\fn.body.isNone=false
def aC (P:Program) (g:FuncId) (args:List ζ) (σ:List Row) (K:ζ->List Row->Prop) (E:ζ->List Row->Prop):Prop:=
 Plain P g/\∀(Q:Value->Prop) (mn:Bool) (x:fZ) (c:Frame) (rest:List Frame) (S:al) (B:aH) (H:υ) (vs:Array Value),Seq x->Holds S B σ H->e6 S B σ args vs->tB P Q mn x c rest S B H σ K E->
  aB P Q mn x (Frame.enter P g vs .normal) (c::rest) H
section
variable {P:Program} {T:aZ} {A:List Nat} {m nt:Nat} {k:List Item} {env:Φ} {σ:List Row} {Z:List Item->Φ->List Row->Prop} {E:ζ->List Row->Prop} {K:ζ->List Row->Prop} {F:ζ->Φ->List Row->Prop}
theorem e6.append {S:al} {B:aH} {as9 oq:List ζ} {vs ws:Array Value} (h:e6 S B σ as9 vs) (k:e6 S B σ oq ws):e6 S B σ (as9++oq) (vs++ws):=by
 refine⟨by simp[h.1,k.1],λi a v J R=>?_⟩;by_cases ar:i<as9.length
 ·rw[dW ar] at J;rw[Array.getElem?_append_left (by rw[<-h.1];exact ar)] at R;exact h.2 i a v J R
 ·rw[ha (by omega)] at J;rw[Array.getElem?_append_right (by rw[<-h.1];omega),<-h.1] at R;exact k.2 _ a v J R
theorem aC.mono {g:FuncId} {args:List ζ} {K':ζ->List Row->Prop} {E':ζ->List Row->Prop} (h:aC P g args σ K E) (I:∀a s,K a s->K' a s) (c7:∀a s,E a s->E' a s):aC P g args σ K' E':=
 ⟨h.1,λQ mn x c rest S B H vs U ψ hv hb=>h.2 Q mn x c rest S B H vs U ψ hv ⟨λa σ' aj B' H' v Α=>hb.ret a σ' aj B' H' v (I _ _ Α),λa σ' aj B' H' v Α=>hb.vr a σ' aj B' H' v (c7 _ _ Α)⟩⟩
theorem ht.mono {f:ζ} {args:List ζ} {K':ζ->List Row->Prop} {E':ζ->List Row->Prop} (h:ht P f args σ K E) (I:∀a s,K a s->K' a s) (c7:∀a s,E a s->E' a s):ht P f args σ K' E':=
 λQ mn x c rest S B H bj vs U ψ ab hv hb=>h Q mn x c rest S B H bj vs U ψ ab hv ⟨λa σ' aj B' H' v Α=>hb.ret a σ' aj B' H' v (I _ _ Α),λa σ' aj B' H' v Α=>hb.vr a σ' aj B' H' v (c7 _ _ Α)⟩
theorem aC.call {g:FuncId} {first args captured:List ζ} (h:aC P g (first++args++captured) σ K E):ht P (.fn (.func g) first captured) args σ K E:=by
 intro Q mn x c rest S B H bj vs U ψ ab hv hb;cases ab with
 | fn v1 v2 J R ς Κ=>
  refine π.bind' (π.pure' ?_);obtain⟨⟨fn,cA,jS,Bm⟩,E6⟩:=h;unfold invoke;simp only;unfold callFunc;refine π.bind' ?_;show π P (match P.funcs[g]? with|none=>_|some fn=>_) H _ _;rw[cA];simp only[jS,Bm,Bool.false_eq_true,if_false];refine π.pure' ?_;have r1:e6 S B σ first v1:=⟨J,ς⟩
  have r2:e6 S B σ captured v2:=⟨R,Κ⟩;exact E6 Q mn x c rest S B H _ U ψ ((r1.append hv).append r2) hb
def e7 (env:Φ) (ops:Array Oper) (o:Oper):Option Bool:=match o.guard with
 | none=>some true
 | some (j,want)=>match (ops[j]?).bind (·.dst) with
  | some d=>match aW env d with
   | .z (.bool b)=>some (b==want)
   | _=>none
  | none=>none
theorem iY {S:al} {B:aH} {t:Array Value} (h:cY S B σ env t) {ops:Array Oper} {o:Oper} {w:Bool} (hw:e7 env ops o=some w):Region.wanted o (yielded ops t)=w:=by
 unfold e7 at hw;unfold Region.wanted;split at hw
 ·rename_i Ο;rw[Ο];cases hw;rfl
 ·rename_i j want Ο;rw[Ο];split at hw
  ·rename_i d hd;split at hw
   ·rename_i b hb;cases hw;have ι:=h d;rw[hb] at ι;unfold yielded;rw[Array.getD_eq_getD_getElem?] at ι;cases Η:t[d]? with
    | none=>rw[Η] at ι;cases ι
    | some v=>
     rw[Η] at ι;simp only[Option.getD_some] at ι;cases ι;simp only[hd,Option.bind_some,Η];cases b<;>cases want<;>rfl
   ·cases hw
  ·cases hw
def bX (o:Oper) (env:Φ) (a:ζ):Φ:=match o.dst with|some d=>(d,a)::env|none=>env
def g4 (nt:Nat) (o:Oper):Bool:=match o.dst with|some d=>decide (d<nt)|none=>true
theorem pA {S:al} {B:aH} {t:Array Value} (h:cY S B σ env t) {o:Oper} (hd:g4 nt o=true) (Η:t.size=nt) {a:ζ} {v:Value} (κ:ah S B σ a v):cY S B σ (bX o env a) (put o t v)/\(put o t v).size=nt:=by
 unfold bX put;unfold g4 at hd;cases pB:o.dst with
 | none=>exact⟨h,Η⟩
 | some d=>
  rw[pB] at hd;simp only[decide_eq_true_eq] at hd;exact⟨h.put (by rw[Η];exact hd) κ,by simp[Η]⟩
theorem W.unwanted {ops:Array Oper} {i:Nat} {o:Oper} {rest:List Nat} (ω:ops[i]?=some o) (hw:e7 env ops o=some false) (hd:g4 nt o=true) (h:W P m nt (.inRegion ops rest::k) (bX o env .ca) σ Z F):W P m nt (.inRegion ops (i::rest)::k) env σ Z F:=
 λQ mn x cs b S B H t U hb χ Ν he=>by
 obtain⟨s1,s2⟩:=pA χ.b7 hd χ.size (a:=.ca) (v:=undef) (.ca _);exact .unwanted U hb ω (iY χ.b7 hw) (h Q mn x cs b S B H _ U hb ⟨χ.holds,s1,s2,χ.rows⟩ Ν he)
theorem W.op (Ζ:bE P T) {ops:Array Oper} {i:Nat} {o:Oper} {rest:List Nat} (ω:ops[i]?=some o) (hw:e7 env ops o=some true) (hd:g4 nt o=true) (ju:∀c,o.op≠.defer c)
  (h:((lg T A env o).or σ (jv T A env σ o)).holds λa σ'=>W P m nt (.inRegion ops rest::k) (bX o env a) σ' Z F):W P m nt (.inRegion ops (i::rest)::k) env σ Z F:=
 λQ mn x cs b S B H t U hb χ Ν he=>by
 refine .op U hb ω (iY χ.b7 hw) (.inr ju) ?_;have R6:=cd.RX (R3 (A:=A) Ζ χ.holds χ.b7 o) (R4 (A:=A) Ζ χ.holds χ.b7 o);refine π.mono (λfF H' ⟨v,hv,aj,B',σ',a,I,pC,h',Β,ι⟩=>?_) (λ_ _ h=>h.elim) _ (R6 _ h);obtain⟨s1,s2⟩:=pA (χ.b7.later Β) hd χ.size ι;have κ:eD m S B H σ aj B' H' σ':=.of pC Β;have fin:aB P Q mn x (ai b (put o t v) (.inRegion ops rest::k)) cs H':=
  I Q mn x cs b aj B' H' _ U hb ⟨h',s1,s2,Nat.le_trans χ.rows Β.length⟩ (λj gp fG cV fe bH t2 cB Ξ aa aM b9=>Ν j gp fG cV fe bH t2 cB Ξ (κ.trans aa) aM b9)
   (λbg gp fG cV fe bH t2 cB v2 Ξ aa aM b9 fV=>he bg gp fG cV fe bH t2 cB v2 Ξ (κ.trans aa) aM b9 fV)
 cases fF<;>simp only[Ja,reduceCtorEq,Option.some.injEq] at hv<;>first|(subst hv;exact fin)|skip
theorem W.call {ops:Array Oper} {i:Nat} {o:Oper} {rest:List Nat} (ω:ops[i]?=some o) (hw:e7 env ops o=some true) (hd:g4 nt o=true) {f:Operand} {args:Array Operand} {dI:Array TypeId} (Θ:o.op=.call ⟨.value f,args,dI⟩)
  (h:ht P (aG env f) (args.toList.map (aG env)) σ (λa σ'=>W P m nt (.inRegion ops rest::k) (bX o env a) σ' Z F) (λa s=>F a env s)):W P m nt (.inRegion ops (i::rest)::k) env σ Z F:=
 λQ mn x cs b S B H t U hb χ Ν he=>by
 refine .op U hb ω (iY χ.b7 hw) (.inr λc=>by rw[Θ];simp) ?_;have lh:e6 S B σ (args.toList.map (aG env)) (args.map (a8 t)):=by
  refine⟨by simp,λi a v J R=>?_⟩;rw[List.getElem?_map,Array.getElem?_toList] at J;rw[Array.getElem?_map] at R;cases U:args[i]? with
  | none=>rw[U] at J;cases J
  | some y=>rw[U] at J R;cases J;cases R;exact kv χ.b7 y
 have E6:=h Q mn x (ai b t (.inRegion ops (i::rest)::k)) cs S B H (a8 t f) (args.map (a8 t)) U χ.holds (kv χ.b7 f) lh ⟨λa σ' aj B' H' v I pC Β h' ι=>?_,λa σ' aj B' H' v c7 pC Β h' ι=>?_⟩
 ·have e:execOp (a8 t) o=(do let d <-Deferred.ofValue (a8 t f) (args.map (a8 t));invoke d.target d.args):=by unfold execOp;rw[Θ];rfl
  rw[e];refine π.mono (λfF H' Ι=>?_) (λ_ _ h=>h.elim) _ E6;cases fF<;>first|exact Ι.elim|exact Ι|skip
  rename_i v;have:=ho (b:=b) (t:=t) (k:=k) (v:=v) ω (rest:=rest);simp only[JV] at Ι;rw[this] at Ι;exact Ι
 ·obtain⟨s1,s2⟩:=pA (χ.b7.later Β) hd χ.size ι;have κ:eD m S B H σ aj B' H' σ':=.of pC Β;rw[ho ω];exact I Q mn x cs b aj B' H' _ U hb ⟨h',s1,s2,Nat.le_trans χ.rows Β.length⟩ (λj gp fG cV fe bH t2 cB Ξ aa aM b9=>Ν j gp fG cV fe bH t2 cB Ξ (κ.trans aa) aM b9)
   (λbg gp fG cV fe bH t2 cB v2 Ξ aa aM b9 fV=>he bg gp fG cV fe bH t2 cB v2 Ξ (κ.trans aa) aM b9 fV)
 ·have:=he a env σ' aj B' H' t (.inRegion ops (i::rest)::k) v c7 (.of pC Β) h' (χ.b7.later Β) ι
  have e:(ai b t (.inRegion ops (i::rest)::k)).raise [{v,recovered:=false}]={ai b t (.inRegion ops (i::rest)::k) with mode:=.panicking [{v,recovered:=false}]}:=by simp[Frame.raise,ai,hb]
  rw[e];exact this
theorem W.panic {ops:Array Oper} {i:Nat} {o:Oper} {rest:List Nat} (ω:ops[i]?=some o) (hw:e7 env ops o=some true) {y:Operand} (Θ:o.op=.panic y) {ty:TypeId} {a:ζ} (ad:aG env y=.fc ty a) (h:F (.fc ty a) env σ):W P m nt (.inRegion ops (i::rest)::k) env σ Z F:=
 λQ mn x cs b S B H t U hb χ Ν he=>by
 refine .op U hb ω (iY χ.b7 hw) (.inr λc=>by rw[Θ];simp) ?_;have ι:=kv χ.b7 y;have e:execOp (a8 t) o=(do pure (.value (<-Instr.panic (a8 t y)))):=by unfold execOp;rw[Θ]
 rw[e];rw[ad] at ι;generalize hv:a8 t y=v at ι;refine π.bind' ?_;cases ι with
 | fc eN J=>exact he (.fc ty a) env σ S B H t _ _ h .refl χ.holds χ.b7 (.fc eN J)
end
def tC (P:Program) (T:aZ) (A:List Nat) (env:Φ) (o:Oper) (σ:List Row) (K:ζ->List Row->Prop) (E:ζ->Φ->List Row->Prop):Prop:=match o.op with
 | .call ⟨.value f,args,_⟩=>ht P (aG env f) (args.toList.map (aG env)) σ K (λa s=>E a env s)
 | .panic y=>match aG env y with|.fc t a=>E (.fc t a) env σ|_=>False
 | .defer _=>False
 | _=>((lg T A env o).or σ (jv T A env σ o)).holds K
def iG (w:Bool) (a b:Prop):Prop:=(w=false->a)/\(w=true->b)
theorem R7 {a b:Prop}:iG true a b=b:=by simp[iG]
theorem R8 {a b:Prop}:iG false a b=a:=by simp[iG]
theorem R9 {w w':Bool} {a b:Prop} (h:w=w'):iG w a b=iG w' a b:=by rw[h]
def ga {α:Type} (x:Option α) (f:α->Prop):Prop:=match x with|none=>False|some a=>f a
theorem R' {α:Type} {a:α} {f:α->Prop}:ga (some a) f=f a:=Eq.trans rfl rfl
theorem Sa {α:Type} {f:α->Prop}:ga none f=False:=rfl
theorem Sb {α:Type} {x cT:Option α} {f:α->Prop} (h:x=cT):ga x f=ga cT f:=by rw[h]
theorem Sc {K:ζ->List Row->Prop} {r r':cO} (h:r=r'):r.holds K=r'.holds K:=by rw[h]
theorem or_congr {r r':cd} {σ:List Row} {s:cO} (h:r=r'):r.or σ s=r'.or σ s:=by rw[h]
def run (P:Program) (T:aZ) (A:List Nat) (nt:Nat) (ops:Array Oper):List Nat->Φ->List Row->(Φ->List Row->Prop)->(ζ->Φ->List Row->Prop)->Prop
 | [],env,σ,K,_=>K env σ
 | i::is,env,σ,K,E=>ga ops[i]? λo=>g4 nt o=true/\ga (e7 env ops o) λw=>
   iG w (run P T A nt ops is (bX o env .ca) σ K E) (tC P T A env o σ (λa σ'=>run P T A nt ops is (bX o env a) σ' K E) E)
def JW (P:Program) (T:aZ) (A:List Nat) (nt:Nat) (ops:Array Oper) (is:List Nat) (o:Oper) (env:Φ) (K:Φ->List Row->Prop) (E:ζ->Φ->List Row->Prop) (a:ζ) (σ':List Row):Prop:=run P T A nt ops is (bX o env a) σ' K E
theorem qP {P:Program} {T:aZ} {A:List Nat} {nt:Nat} {ops:Array Oper} {env:Φ} {σ:List Row} {K:Φ->List Row->Prop} {E:ζ->Φ->List Row->Prop}:run P T A nt ops [] env σ K E=K env σ:=Eq.trans rfl rfl
theorem ε {P:Program} {T:aZ} {A:List Nat} {nt:Nat} {ops:Array Oper} {i:Nat} {is:List Nat} {env:Φ} {σ:List Row} {K:Φ->List Row->Prop} {E:ζ->Φ->List Row->Prop} :
  run P T A nt ops (i::is) env σ K E=ga ops[i]? λo=>g4 nt o=true/\ga (e7 env ops o) λw=>
   iG w (run P T A nt ops is (bX o env .ca) σ K E) (tC P T A env o σ (JW P T A nt ops is o env K E) E):=Eq.trans rfl rfl
theorem JX {P:Program} {T:aZ} {A:List Nat} {nt:Nat} {ops:Array Oper} {is:List Nat} {o:Oper} {env:Φ} {σ:List Row} {K:Φ->List Row->Prop} {E:ζ->Φ->List Row->Prop} {a:ζ}:JW P T A nt ops is o env K E a σ=run P T A nt ops is (bX o env a) σ K E:=Eq.trans rfl rfl
section
variable {P:Program} {T:aZ} {A:List Nat} {m nt:Nat} {k:List Item} {env:Φ} {σ:List Row} {Z:List Item->Φ->List Row->Prop} {E:ζ->Φ->List Row->Prop} {K:ζ->List Row->Prop}
theorem W.bm {ops:Array Oper} (h:W P m nt k env σ Z E):W P m nt (.inRegion ops []::k) env σ Z E:=λQ mn x cs b S B H t U hb χ Ν he=>.bm U hb (h Q mn x cs b S B H t U hb χ Ν he)
theorem E7 (Ζ:bE P T) {ops:Array Oper} (mJ:List Nat):∀(is:List Nat) (env:Φ) (σ:List Row),run P T A nt ops is env σ (λenv σ=>W P m nt (.inRegion ops mJ::k) env σ Z E) E->W P m nt (.inRegion ops (is++mJ)::k) env σ Z E:=by
 intro is
 induction is with
 | nil=>intro env σ h;exact h
 | cons i is Γ=>
  intro env σ h;unfold run ga at h;split at h
  ·exact h.elim
  ·rename_i o ω;obtain⟨hd,h⟩:=h;split at h
   ·exact h.elim
   rename_i w hw;unfold iG at h;cases w
   ·exact .unwanted ω hw hd (Γ _ _ (h.1 rfl))
   ·replace h:=h.2 rfl
    unfold tC at h;split at h
    ·rename_i f args dI Θ;exact .call ω hw hd Θ (h.mono (λa s h=>Γ _ _ h) (λ_ _ h=>h))
    ·rename_i y Θ;split at h
     ·rename_i ty a ad;exact .panic ω hw Θ ad h
     ·exact h.elim
    ·exact h.elim
    ·rename_i J R ς;refine .op (A:=A) Ζ ω hw hd (λc η=>ς c η) ?_;generalize (lg T A env o).or σ (jv T A env σ o)=r at h;have key:∀r:cO,r.holds (λa σ'=>run P T A nt ops is (bX o env a) σ' (λenv σ=>W P m nt (.inRegion ops mJ::k) env σ Z E) E)->r.holds λa σ'=>W P m nt (.inRegion ops (is++mJ)::k) (bX o env a) σ' Z E:=by
      intro r
      induction r with
      | ok a s=>exact λh=>Γ _ _ h
      | bT p r k8=>exact λh=>⟨h.1,k8 h.2⟩
      | all n f k8=>exact λh i hi=>k8 i (h i hi)
      | bad=>exact λh=>h
     exact key r h
theorem cO.Sd {K K':ζ->List Row->Prop} (I:∀a s,K a s->K' a s):∀r:cO,r.holds K->r.holds K':=by
 intro r
 induction r with
 | ok a s=>exact λh=>I _ _ h
 | bT p r Γ=>exact λh=>⟨h.1,Γ h.2⟩
 | all n f Γ=>exact λh i hi=>Γ i (h i hi)
 | bad=>exact λh=>h
theorem Se {env:Φ} {o:Oper} {K K':ζ->List Row->Prop} (I:∀a s,K a s->K' a s) (h:tC P T A env o σ K E):tC P T A env o σ K' E:=by
 unfold tC at h ⊢;split
 ·rename_i f args dI Θ;rw[Θ] at h;exact ht.mono h I λ_ _ h=>h
 ·rename_i y Θ;rw[Θ] at h;exact h
 ·rename_i Θ;rw[Θ] at h;exact h
 ·rename_i J R ς;split at h
  ·rename_i f args dI Θ;exact absurd Θ (J f args dI)
  ·rename_i y Θ;exact absurd Θ (R y)
  ·rename_i y Θ;exact absurd Θ (ς y)
  ·exact cO.Sd I _ h
theorem Bn {ops:Array Oper} {nt:Nat} {K K':Φ->List Row->Prop} (I:∀e s,K e s->K' e s):∀(is:List Nat) (env:Φ) (σ:List Row),run P T A nt ops is env σ K E->run P T A nt ops is env σ K' E:=by
 intro is
 induction is with
 | nil=>intro env σ h;exact I _ _ h
 | cons i is Γ=>
  intro env σ h;unfold run ga at h ⊢;cases ω:ops[i]? with
  | none=>rw[ω] at h;exact h.elim
  | some o=>
   rw[ω] at h;simp only at h ⊢;refine⟨h.1,?_⟩
   replace h:=h.2
   cases hw:e7 env ops o with
   | none=>rw[hw] at h;exact h.elim
   | some w=>
    rw[hw] at h;unfold iG at h ⊢;exact⟨λe=>Γ _ _ (h.1 e),λe=>Se (λa s=>Γ _ _) (h.2 e)⟩
theorem Sf (Ζ:bE P T) {ops:Array Oper} (is:List Nat) (env:Φ) (σ:List Row) (h:run P T A nt ops is env σ (λenv σ=>W P m nt k env σ Z E) E):W P m nt (.inRegion ops is::k) env σ Z E:=by
 have:=E7 (A:=A) Ζ [] is env σ (ops:=ops) (k:=k) (Z:=Z) (E:=E) (P:=P) (m:=m) (nt:=nt);rw[List.append_nil] at this;refine this ?_;have mono:∀(is:List Nat) (env:Φ) (σ:List Row) (K K':Φ->List Row->Prop),(∀e s,K e s->K' e s)->run P T A nt ops is env σ K E->run P T A nt ops is env σ K' E:=λis env σ K K' I h=>Bn I is env σ h;exact mono is env σ _ _ (λe s h=>.bm h) h
def idx:Nat->List Nat->List Nat
 | 0,l=>l
 | n+1,l=>idx n (n::l)
theorem idx_eq (n:Nat):idx n []=List.range n:=by
 have:∀(n:Nat) (l:List Nat),idx n l=List.range.loop n l:=by
  intro n
  induction n with
  | zero=>intro l;rfl
  | succ n Γ=>intro l;exact Γ _
 exact this n []
theorem dy (Ζ:bE P T) {id:Nat} {ops:Array Oper} (h:∀θ:Φ->List Row->Prop,(∀env σ,W P m nt k env σ Z E->θ env σ)->run P T A nt ops (idx ops.size []) env σ θ E):W P m nt (.code (.region id ops false)::k) env σ Z E:=
 λQ mn x cs b S B H t U hb χ Ν he=>.region U hb (Sf Ζ _ _ _ (by rw[<-idx_eq];exact h _ λ_ _ h=>h) Q mn x cs b S B H t U hb χ Ν he)
theorem W.forget (env':Φ) (cq:∀p∈env',aW env p.1=p.2) (h:W P m nt k env' σ Z E):W P m nt k env σ Z E:=
 λQ mn x cs b S B H t U hb χ Ν he=>by
 have x2:∀(l:Φ),(∀p∈l,aW env p.1=p.2)->∀i,aW l i=.ca\/aW l i=aW env i:=by
  intro l
  induction l with
  | nil=>intro _ i;exact .inl rfl
  | cons p l Γ=>
   intro Β i;simp only[aW];split
   ·rename_i e;subst e;exact .inr (Β p (by simp)).symm
   ·exact Γ (λq Ψ=>Β q (by simp[Ψ])) i
 refine h Q mn x cs b S B H t U hb ⟨χ.holds,λi=>?_,χ.size,χ.rows⟩ Ν he;rcases x2 env' cq i with e|e
 ·rw[e];exact .ca _
 ·rw[e];exact χ.b7 i
theorem W.tD (Ζ:bE P T) (env':Φ) {id:Nat} {ops:Array Oper} (h:W P m nt k env' σ Z E) (ι:run P T A nt ops (idx ops.size []) env σ (λe s=>s=σ/\∀p∈env',aW e p.1=p.2) E):W P m nt (.code (.region id ops false)::k) env σ Z E:=
 dy Ζ λθ I=>Bn (λe s ⟨J,R⟩=>I e s (J▸W.forget env' R h)) _ _ _ ι
def tE (i:hq) (l:List ζ):Option ζ:=if i.agg then(if i.size<=l.length then some (.aR (l.take i.size)) else none) else l.head?
def vu (T:aZ) (ty:TypeId) (σ:List Row):ζ->Option ζ
 | .Ω cells=>match T ty with|some i=>tE i cells|none=>none
 | .ae id n i j=>match T ty,σ[id]? with
  | some jL,some (.cells _ _ l)=>if l.length=n then match l[i]? with
   | some e=>tE jL (e.cells.drop j)
   | none=>none else none
  | _,_=>none
 | _=>none
def qQ (T:aZ) (env:Φ) (σ:List Row):ResultVar->Option ζ
 | .tmp t=>some (aW env t)
 | .cell a ty=>vu T ty σ (aW env a)
def Bo:List ζ->ζ
 | [a]=>a
 | l=>.bn l
def pD (T:aZ) (rs:List ResultVar) (env:Φ) (σ:List Row):Option ζ:=(rs.mapM (qQ T env σ)).map Bo
theorem JY {i:hq} {l:List ζ} {v:ζ} (h:tE i l=some v):rO i l=.ok v:=by
 unfold tE at h;unfold rO;cases xG:i.agg with
 | true=>
  rw[xG] at h;simp only[if_true] at h ⊢;split at h
  ·rename_i hle;cases h;rw[if_pos hle]
  ·cases h
 | false=>
  rw[xG] at h;simp only[Bool.false_eq_true,if_false] at h ⊢;cases l with
  | nil=>cases h
  | cons a l=>cases h;rfl
theorem Sg (Ζ:bE P T) {S:al} {B:aH} {H:υ} (ψ:Holds S B σ H) {ty:TypeId} {a v:ζ} {w:Value} (h:vu T ty σ a=some v) (ι:ah S B σ a w):cp P (do loadVar ty (<-asAddr w)) S B H σ (.ok v σ):=by
 unfold vu at h;split at h
 ·rename_i cells;split at h
  ·rename_i i hi;cases ι with
   | Ω b o w J R=>
    have:=Av Ζ ψ hi w (λj a γ=>ψ.cX _ _ _ (J j a γ)) R;rw[JY h] at this;exact this
  ·cases h
 ·rename_i id n i j;split at h
  ·rename_i jL t k l hi Β;split at h
   ·rename_i Ι;split at h
    ·rename_i e he;cases ι with
     | ae J R ς=>
      rw[Β] at J;cases J;obtain⟨Α,w,hw⟩:=Jb ψ Β ς he;have:=Av Ζ ψ hi (l:=e.cells.drop j) (b:=_) (o:=i*k+j) (λx=>w (j+x)) (λx a U=>⟨true,by
       rw[List.getElem?_drop] at U;rw[Nat.add_assoc];exact(hw _ a U).1⟩) (λx a U=>by
       rw[List.getElem?_drop] at U;exact(hw _ a U).2.1)
      rw[JY h] at this;exact this
     | iD v J R=>rw[Β] at J;cases J;simp only[Row.gn] at R;omega
    ·cases h
   ·cases h
  ·cases h
 ·cases h
theorem Bp (Ζ:bE P T) {fn:Func} {a:ζ} (h:pD T fn.results.toList env σ=some a) {S:al} {B:aH} {H:υ} {t:Array Value} (ψ:Holds S B σ H) (ν:cY S B σ env t) :
  π P (results fn t) H (λv H'=>∃aj B',Ext S B H aj B' H'/\bQ S aj B B' σ σ/\Holds aj B' σ H'/\ah aj B' σ a v) (λ_ _=>False):=by
 let f:ResultVar->Sem Value:=λr=>match r with
  | .tmp x=>pure (t.getD x undef)
  | .cell a ty=>do loadVar ty (<-asAddr (t.getD a undef))
 have key:∀(rs:List ResultVar) (as9:List ζ) (S:al) (B:aH) (H:υ),rs.mapM (qQ T env σ)=some as9->Holds S B σ H->cY S B σ env t->
   π P (rs.mapM f) H (λvs H'=>∃aj B',Ext S B H aj B' H'/\bQ S aj B B' σ σ/\Holds aj B' σ H'/\as9.length=vs.length/\∀(i:Nat) (a:ζ) (v:Value),as9[i]?=some a->vs[i]?=some v->ah aj B' σ a v) (λ_ _=>False):=by
  intro rs
  induction rs with
  | nil=>intro as9 S B H h ψ _;simp at h;subst h;exact π.pure' ⟨S,B,.refl _ _ _,.refl _ _ _,ψ,rfl,λi a v hi=>by simp at hi⟩
  | cons r rs Γ=>
   intro as9 S B H h ψ ν;rw[List.mapM_cons] at h ⊢;cases ι:qQ T env σ r with
   | none=>rw[ι] at h;cases h
   | some a=>
    rw[ι] at h;simp only[Option.bind_eq_bind,Option.bind_some] at h;cases Ο:rs.mapM (qQ T env σ) with
    | none=>rw[Ο] at h;cases h
    | some l2=>
     rw[Ο] at h;cases h;have step:π P (f r) H (λv H'=>∃aj B',Ext S B H aj B' H'/\bQ S aj B B' σ σ/\Holds aj B' σ H'/\ah aj B' σ a v) (λ_ _=>False):=by
      cases r with
      | tmp x=>simp only[qQ,Option.some.injEq] at ι;subst ι;exact π.pure' ⟨S,B,.refl _ _ _,.refl _ _ _,ψ,ν x⟩
      | cell x ty=>
       refine π.mono (λv H' ⟨aj,B',σ',b6,⟨J,R⟩,ς,Κ,aF,aV⟩=>?_) (λ_ _ h=>h) _ (Sg Ζ ψ ι (ν x) (λb6 a7=>b6=a/\a7=σ) ⟨rfl,rfl⟩);subst J;subst R;exact⟨aj,B',ς,aF,Κ,aV⟩
     refine π.bind' (π.mono (λv H1 ⟨br,bB,Δ,l1,J,r1⟩=>?_) (λ_ _ h=>h) _ step);refine π.bind' (π.mono (λvs bH ⟨cV,fe,Ε,JZ,R,fl,r2⟩=>?_) (λ_ _ h=>h) _ (Γ l2 br bB H1 Ο J (ν.later l1)));refine π.pure' ⟨cV,fe,Δ.trans Ε,l1.trans JZ,R,by simp[fl],λi b6 eN hi hv=>?_⟩
     match i with
     | 0=>simp at hi hv;subst hi;subst hv;exact r1.later JZ
     | i+1=>simp at hi hv;exact r2 i b6 eN hi hv
 unfold pD at h;cases hm:fn.results.toList.mapM (qQ T env σ) with
 | none=>rw[hm] at h;cases h
 | some as9=>
  rw[hm] at h;cases h;have Α:=key fn.results.toList as9 S B H hm ψ ν;unfold results;rw[Array.mapM_eq_mapM_toList];refine π.bind' ?_;refine π.bind (fn.results.toList.mapM f) (π.mono (λvs H1 ⟨br,bB,Δ,l1,J,gP,r1⟩=>?_) (λ_ _ h=>h) _ Α);refine π.pure' ?_;refine π.pure' ⟨br,bB,Δ,l1,J,?_⟩;by_cases Ι:vs.toArray.size=1
  ·rw[dif_pos Ι];have tF:vs.length=1:=by simpa using Ι
   obtain⟨v,rfl⟩:=List.length_eq_one_iff.1 tF;obtain⟨a,rfl⟩:=List.length_eq_one_iff.1 (gP.trans tF);exact r1 0 a v rfl rfl
  ·rw[dif_neg Ι];have tF:as9.length≠1:=by rw[gP];simpa using Ι
   have:Bo as9=.bn as9:=by
    match as9 with
    | []=>rfl
    | [a]=>simp at tF
    | a::b::l=>rfl
   rw[this];exact .bn _ (by simpa using gP) λi a v hi hv=>r1 i a v hi (by simpa using hv)
def entry:Nat->List ζ->Φ
 | _,[]=>[]
 | i,a::as9=>(i,a)::entry (i+1) as9
theorem J0 {S:al} {B:aH} {as9:List ζ} {vs:Array Value} (h:e6 S B σ as9 vs) (n:Nat):cY S B σ (entry 0 as9) (vs++Array.replicate n undef):=by
 have key:∀(l:List ζ) (j i:Nat),aW (entry j l) i=if j<=i then(l[i-j]?).getD .ca else .ca:=by
  intro l
  induction l with
  | nil=>intro j i;simp[entry,aW]
  | cons a l Γ=>
   intro j i;simp only[entry,aW];by_cases e:j=i
   ·subst e;simp
   ·rw[if_neg e,Γ];by_cases hle:j<=i
    ·rw[if_pos (by omega),if_pos hle];have:i-j=(i-(j+1))+1:=by omega
     rw[this,List.getElem?_cons_succ]
    ·rw[if_neg (by omega),if_neg hle]
 intro i;rw[key,if_pos (Nat.zero_le _),Nat.sub_zero];by_cases ar:i<as9.length
 ·have κ:=aX ar;rw[κ];have hv:i<vs.size:=by rw[<-h.1];exact ar
  rw[Array.getD_eq_getD_getElem?,Array.getElem?_append_left hv];exact h.2 i _ _ κ (by rw[eM hv];rfl)
 ·rw[List.getElem?_eq_none (by omega)];exact .ca _
def Ends (T:aZ) (rs:List ResultVar) (K:ζ->List Row->Prop) (j:List Item) (env:Φ) (σ:List Row):Prop:=match j with
 | []=>∃a,pD T rs env σ=some a/\K a σ
 | .code .ret::_=>∃a,pD T rs env σ=some a/\K a σ
 | _=>False
theorem aC.Si {F:ζ->List Row->Prop} (Ζ:bE P T) {g:FuncId} {fn:Func} {body:Code} (cA:P.funcs[g]?=some fn) (l7:fn.body=some body) (tp:(fn.name == "runtime.NumGoroutine")=false) {args:List ζ} (hlen:args.length<=fn.ntmps)
  (h:W P σ.length fn.ntmps [.code body] (entry 0 args) σ (Ends T fn.results.toList K) (λa _ s=>F a s)):aC P g args σ K F:=by
 refine⟨⟨fn,cA,tp,by rw[l7];rfl⟩,λQ mn x c rest S B H vs U ψ hv hb=>?_⟩;have jT:∀{α:Type} (l:List α),l.length=σ.length->l.take σ.length=l:=λl Β=>List.take_of_length_le (by omega);have Sj:Frame.enter P g vs .normal=ai (Frame.enter P g vs .normal) (vs++Array.replicate (fn.ntmps-vs.size) undef) [.code body]:=by
  simp[Frame.enter,ai,cA,l7]
 rw[Sj];have b2:(vs++Array.replicate (fn.ntmps-vs.size) undef).size=fn.ntmps:=by
  have:=hv.1;simp;omega
 refine h Q mn x (c::rest) _ S B H _ U rfl ⟨ψ,J0 hv _,b2,Nat.le_refl _⟩ (λj env' σ' aj B' H' t' Χ Ν κ χ Β=>?_) (λa env' σ' aj B' H' t' Χ v c7 κ h' _ ι=>?_)
 ·have E8:bQ S aj B B' σ σ':=by
   have:=κ.later
   rwa [jT B ψ.len,jT σ rfl] at this
  have fin:(∃a,pD T fn.results.toList env' σ'=some a/\K a σ')->aB P Q mn x {ai (Frame.enter P g vs .normal) t' Χ with mode:=.returning} (c::rest) H':=λ⟨a,J,R⟩=>by
   refine .back U rfl rfl (.inl rfl) cA ?_;refine π.mono (λv bH ⟨cV,fe,Ε,l2,ς,r2⟩=>?_) (λ_ _ h=>h) _ (Bp Ζ J χ.holds χ.b7);exact hb.ret a σ' cV fe bH v R (κ.ext.trans Ε) (E8.trans l2) ς r2
  have:Χ=j:=Β;subst this;unfold Ends at Ν;split at Ν
  ·exact .qy U rfl rfl (fin Ν)
  ·exact .ret U rfl rfl (fin Ν)
  ·exact Ν.elim
 ·have E8:bQ S aj B B' σ σ':=by
   have:=κ.later
   rwa [jT B ψ.len,jT σ rfl] at this
  refine .raised U rfl rfl ?_ (hb.vr a σ' aj B' H' v c7 κ.ext E8 h' ι);simp[Frame.catches,ai,Frame.enter,cA]
end
section
variable {P:Program} {S aj:al} {B:aH} {H H':υ} {σ:List Row}
theorem ah.take {h:Nat} {a:ζ} {v:Value} (ι:ah S B σ a v) (hb:az h a):ah S (B.take h) (σ.take h) a v:=by
 have a2:∀{α:Type} (l:List α) (i:Nat),i<h->(l.take h)[i]?=l[i]?:=λl i hi=>List.getElem?_take_of_lt hi
 induction ι with
 | z v=>exact .z v
 | Ω b o w J _ Γ=>
  cases hb with
  | Ω hb=>exact .Ω b o w J λj a γ=>Γ j a γ (hb a (cf γ))
 | hN base cap h=>exact .hN base cap h
 | sl b o cap w J R ς Κ _ Γ=>
  cases hb with
  | sl hb=>exact .sl b o cap w J R ς Κ λi e hi j c γ=>Γ i e hi j c γ (hb e (cf hi) c (cf γ))
 | aR vs J _ Γ=>
  cases hb with
  | aR hb=>exact .aR vs J λi a v hi hv=>Γ i a v hi hv (hb a (cf hi))
 | bn vs J _ Γ=>
  cases hb with
  | bn hb=>exact .bn vs J λi a v hi hv=>Γ i a v hi hv (hb a (cf hi))
 | ae J R ς=>
  cases hb with
  | ae hb=>exact .ae (by rw[a2 _ _ hb];exact J) R (by rw[a2 _ _ hb];exact ς)
 | iD v J R=>
  cases hb with
  | ae hb=>exact .iD v (by rw[a2 _ _ hb];exact J) R
 | ms cap J R ς Κ aF aV=>
  cases hb with
  | ms hb=>exact .ms cap (by rw[a2 _ _ hb];exact J) R (by rw[a2 _ _ hb];exact ς) Κ aF aV
 | h8 v J R=>
  cases hb with
  | ms hb=>exact .h8 v (by rw[a2 _ _ hb];exact J) R
 | fn vs ws J R _ _ qA k8=>
  cases hb with
  | fn jM fE=>exact .fn vs ws J R (λi a v hi hv=>qA i a v hi hv (jM a (cf hi))) λi a v hi hv=>k8 i a v hi hv (fE a (cf hi))
 | fc v _ Γ=>
  cases hb with
  | fc hb=>exact .fc v (Γ hb)
 | mp J R=>
  cases hb with
  | mp hb=>exact .mp (by rw[a2 _ _ hb];exact J) (by rw[a2 _ _ hb];exact R)
 | ku v J=>
  cases hb with
  | mp hb=>exact .ku v (by rw[a2 _ _ hb];exact J)
 | it J R=>
  cases hb with
  | it hb=>exact .it (by rw[a2 _ _ hb];exact J) (by rw[a2 _ _ hb];exact R)
 | lY v J=>
  cases hb with
  | it hb=>exact .lY v (by rw[a2 _ _ hb];exact J)
 | ca v=>exact .ca v
theorem ah.any {a:ζ} {v:Value} (ι:ah S B σ a v) (hb:az 0 a) (fe:aH) (fG:List Row):ah S fe fG a v:=by
 have J:ah S [] [] a v:=by simpa using ι.take hb
 exact J.later ⟨λ_ _ _ h=>h,λid r h=>by simp at h⟩
theorem Holds.bare (ψ:Holds S B σ H):Holds S [] [] H:=
 ⟨ψ.cX,rfl,λid r bo h=>by simp at h,λi j dT bW b fT fU gx h=>by simp at h,λid r b N h=>by simp at h⟩
theorem Holds.back (ψ:Holds S B σ H) (he:Ext S [] H aj [] H') (af:Holds aj [] [] H'):Holds aj B σ H'/\Ext S B H aj B H'/\bQ S aj B B σ σ:=by
 have Β:bQ S aj B B σ σ:=⟨he.cX,λid r h=>⟨r,h,r.rM _⟩⟩
 have vv:∀b,¬aH.has ([]:aH) b:=λb ⟨N,h⟩=>by simp at h
 have aR:∀(id:Nat) (r:Row) (b N:Nat),σ[id]?=some r->r.live->B[id]?=some (some (b,N))->js H H' b:=λid r b N J R ς=>(he.e' b (vv b) (ψ.mD J R ς)).qC λo=>ψ.sep id r b N J R ς o;refine⟨⟨af.cX,ψ.len,λid r bo ι eC=>?_,ψ.inj,λid r b N ι eR eC o=>?_⟩,⟨he.cX,λb _ ab=>he.e' b (vv b) ab,λb hb=>.inl hb,λb o v hv=>?_,he.grow⟩,Β⟩
 ·by_cases eR:r.live
  ·refine(ψ.row id r bo ι eC).later Β (λb N e=>aR id r b N ι eR (by rw[eC,e])) λm left cur e=>?_;subst e;obtain⟨_,_,aI,jN,xs,clock,seen,_,J,⟨es,R⟩,_⟩:=ψ.row id _ bo ι eC;exact⟨rfl,rfl,λb N hb=>aR m _ b N R trivial hb⟩
  ·cases r<;>first|exact absurd trivial eR|trivial
 ·cases hv:aj b o with
  | none=>rfl
  | some v=>
   rcases he.pj b o v hv with h|h|h
   ·rw[ψ.sep id r b N ι eR eC o] at h;cases h
   ·exact absurd h (vv b)
   ·exact absurd h (ψ.mD ι eR eC)
 ·rcases he.pj b o v hv with h|h|h
  ·exact .inl h
  ·exact absurd h (vv b)
  ·exact .inr (.inr h)
theorem aC.frame {g:FuncId} {args:List ζ} {K:ζ->Prop} {E:ζ->Prop} (h:aC P g args [] (λa s=>K a/\az 0 a/\s=[]) (λa s=>E a/\az 0 a/\s=[])) (hb:∀a∈args,az 0 a):aC P g args σ (λa s=>K a/\s=σ) (λa s=>E a/\s=σ):=by
 refine⟨h.1,λQ mn x c rest S B H vs U ψ hv kB=>?_⟩;refine h.2 Q mn x c rest S [] H vs U ψ.bare ⟨hv.1,λi a v J R=>(hv.2 i a v J R).any (hb a (cf J)) _ _⟩ ⟨λa σ' aj B' H' v ⟨Α,px,ν⟩ he Β h' ι=>?_,λa σ' aj B' H' v ⟨Α,px,ν⟩ he Β h' ι=>?_⟩
 all_goals
  subst ν;have gY:B'=[]:=dk.1 (by rw[h'.len];rfl);subst gY;obtain⟨dU,p2,p3⟩:=ψ.back he h'
 ·exact kB.ret a σ aj B H' v ⟨Α,rfl⟩ p2 p3 dU (ι.any px _ _)
 ·exact kB.vr a σ aj B H' v ⟨Α,rfl⟩ p2 p3 dU (ι.any px _ _)
def x3 (P:Program) (g:FuncId) (args:List ζ) (r:ζ):Prop:=aC P g args [] (λa s=>a=r/\s=[]) (λ_ _=>False)
theorem x3.call {g:FuncId} {first args captured:List ζ} {r:ζ} {K:ζ->List Row->Prop} {E:ζ->List Row->Prop} (h:x3 P g (first++args++captured) r) (hb:∀a∈first++args++captured,az 0 a) (ι:az 0 r) (I:K r σ) :
  ht P (.fn (.func g) first captured) args σ K E:=by
 have J:aC P g (first++args++captured) [] (λa s=>a=r/\az 0 a/\s=[]) (λa s=>False/\az 0 a/\s=[]):=h.mono (λa s ⟨Δ,Ε⟩=>⟨Δ,Δ▸ι,Ε⟩) (λ_ _ h=>h.elim);exact aC.call ((J.frame (σ:=σ) hb).mono (λa s ⟨Δ,Ε⟩=>by subst Δ;subst Ε;exact I) (λ_ _ h=>h.1.elim))
end
theorem Sk {h:Nat} {v:Value}:az h (.z v)↔True:=⟨λ_=>trivial,λ_=>.z v⟩
theorem Sl {h:Nat}:az h .ca↔True:=⟨λ_=>trivial,λ_=>.ca⟩
theorem E9 {h:Nat} {l:List ζ}:az h (.Ω l)↔∀a∈l,az h a:=⟨λx=>by cases x;assumption,.Ω⟩
theorem Sm {h:Nat} {l:List ζ}:az h (.aR l)↔∀a∈l,az h a:=⟨λx=>by cases x;assumption,.aR⟩
theorem Sn {h:Nat} {l:List ζ}:az h (.bn l)↔∀a∈l,az h a:=⟨λx=>by cases x;assumption,.bn⟩
theorem gH {h:Nat} {ex:Bool} {k:Nat} {l:List ζ}:az h (.sl ex k l)↔∀e∈l,∀a∈e.cells,az h a:=⟨λx=>by cases x;assumption,.sl⟩
theorem So {h:Nat} {t:TypeId} {a:ζ}:az h (.fc t a)↔az h a:=⟨λx=>by cases x;assumption,.fc⟩
theorem iZ {h id n i j:Nat}:az h (.ae id n i j)↔id<h:=⟨λx=>by cases x;assumption,.ae⟩
theorem ot {h id n i j:Nat}:az h (.ms id n i j)↔id<h:=⟨λx=>by cases x;assumption,.ms⟩
theorem qR {h id:Nat}:az h (.mp id)↔id<h:=⟨λx=>by cases x;assumption,.mp⟩
theorem Sp {h id:Nat}:az h (.it id)↔id<h:=⟨λx=>by cases x;assumption,.it⟩
theorem iH {h:Nat} {f:Fn} {cP cs:List ζ}:az h (.fn f cP cs)↔(∀a∈cP,az h a)/\∀a∈cs,az h a:=⟨λx=>by cases x;exact⟨by assumption,by assumption⟩,λx=>.fn x.1 x.2⟩
end Go.TL
