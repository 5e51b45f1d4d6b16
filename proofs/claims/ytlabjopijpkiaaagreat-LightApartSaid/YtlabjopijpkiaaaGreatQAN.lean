import Derived.Test.YtlabjopijpkiaaaGreatQAM
set_option maxHeartbeats 16000000
set_option maxRecDepth 20000
set_option linter.unusedSectionVars false
set_option linter.unusedSimpArgs false
set_option linter.unusedVariables false
namespace Go.TL
open Go.Conc
def hj (T:a7) (kt:TypeId) (k:θ):List (θ×θ)→Nat→Option (Option (Nat×θ))
 | [],_=>some none
 | e::r,i=>match aeqv T kt k e.1 with
  | some b=>bif b then some (some (i,e.2)) else hj T kt k r (i+1)
  | none=>none
def nd (T:a7) (kt:TypeId) (k:θ):Bool:=match T kt with
 | some i=>match k with
  | .z _=>h8 i.bA
  | .aU xs=>match i.bA,i.eqs with
   | .array _ _,some items=>xs.length==items.length&&(jc items xs xs).isSome
   | _,_=>false
  | _=>false
 | none=>false
section
variable {P:Program} {T:a7} {S:aA} {B:aN} {H:ψ} {σ:List Row}
theorem Ld {ty:TypeId} {d:TypeDesc} (hd:P.underlying ty=some d) (ξ:h8 d=true) {v:Value} {em:Bool} {n:Nat} {G:ψ} {K:Unit→ψ→Prop} {E:Value→ψ→Prop} (υ:K () G):ς P (Instr.checkKey em (n+1) ty v) G K E:=by
 unfold Instr.checkKey;refine ς.bind' (ς.underlying hd ?_);cases d<;>first|(cases ξ;done)|(cases v<;>exact ς.pure' υ)
theorem F0 (Ζ:bN P T) {kt:TypeId} {k:θ} {v:Value} (υ:aj S B σ k v) (h:nd T kt k=true) {em:Bool} {G:ψ} {K:Unit→ψ→Prop} {E:Value→ψ→Prop} (I:K () G):ς P (Instr.checkKey em 10000 kt v) G K E:=by
 unfold nd at h;split at h
 ·rename_i i hi;obtain⟨⟨hu,Υ⟩,_⟩:=Ζ kt i hi;split at h
  ·exact Ld (n:=9999) hu h I
  ·rename_i xs;split at h
   ·rename_i n e items SY dd;rw[dd] at Υ;simp only[Bool.and_eq_true,beq_iff_eq] at h;obtain⟨_,_,Υ⟩:=Υ;rcases Υ with⟨cV,wj,_⟩|⟨m,Δ,d,f,wj,he,ξ,Ρ,cd,SZ⟩
    ·rw[hu,SY] at wj;cases wj
    ·cases υ with
     | aU vs Ξ ad=>
      have S0:=yK (.aU vs Ξ ad)
      show ς P (Instr.checkKey em (9999+1) kt _) G K E;unfold Instr.checkKey;refine ς.bind' (ς.underlying wj ?_);simp only;rw[forIn_range];refine ς.bind' ?_;have hb:∃b,jc ((List.range m).map fun i=>(d,i)) xs xs=some b:=by
       rw[←SZ];exact Option.isSome_iff_exists.1 h.2
      have key:∀(l:List Nat) (b:Bool),jc (l.map fun i=>(d,i)) xs xs=some b→ς P (forIn l PUnit.unit fun(i:Nat) (_:PUnit)=>do
        let a ←sizeOf Δ
        let b ←part Δ vs (i*a)
        Instr.checkKey em 9999 Δ b
        pure (ForInStep.yield PUnit.unit)) G (fun _ G'=>K () G') E:=by
       intro l
       induction l with
       | nil=>intro b _;exact .forIn_nil I
       | cons i l Γ=>
        intro b hb;simp only[List.map_cons,jc] at hb;split at hb<;>try cases hb
        rename_i x y uz wh;split at hb<;>try cases hb
        rename_i bI c1 j9 nb;refine .forIn_cons ?_;refine ς.bind' (ς.sizeOf Ρ ?_);rw[cd];refine ς.bind' (yL he ξ (by rw[Nat.mul_one];exact S0 _ _ uz) ?_);refine ς.bind' (Ld (n:=9998) he ξ ?_);exact ς.pure' (Γ c1 nb)
      obtain⟨b,hb⟩:=hb;exact ς.mono (fun _ G' h=>ς.pure' h) (fun _ _ h=>h) _ (key (List.range m) b hb)
   ·cases h
  ·cases h
 ·cases h
def uA (S:aA) (B:aN) (σ:List Row) (es:List (θ×θ)) (cq:List MapEntry):Prop:=es.length=cq.length∧∀(i:Nat) (e:θ×θ) (y:MapEntry),es[i]?=some e→cq[i]?=some y→aj S B σ e.1 y.key∧aj S B σ e.2 y.val
theorem uA.tail {e:θ×θ} {es:List (θ×θ)} {y:MapEntry} {cq:List MapEntry} (h:uA S B σ (e::es) (y::cq)):(aj S B σ e.1 y.key∧aj S B σ e.2 y.val)∧uA S B σ es cq:=
 ⟨h.2 0 e y rfl rfl,⟨by simpa using h.1,fun i aH kY R γ=>h.2 (i+1) aH kY R γ⟩⟩
theorem BV {kt:TypeId} {k:θ}:∀(es:List (θ×θ)) (n i:Nat) (a:θ),hj T kt k es n=some (some (i,a))→n≤i∧∃Ω,es[i-n]?=some (Ω,a)∧aeqv T kt k Ω=some true:=by
 intro es
 induction es with
 | nil=>intro n i a h;cases h
 | cons e es Γ=>
  intro n i a h;unfold hj at h;split at h
  ·rename_i b hb;cases b with
   | true=>cases h;exact⟨Nat.le_refl _,e.1,by simp,hb⟩
   | false=>
    obtain⟨R,Ω,γ,ο⟩:=Γ (n+1) i a h;refine⟨by omega,Ω,?_,ο⟩;have:i-n=(i-(n+1))+1:=by omega
    rw[this,List.getElem?_cons_succ];exact γ
  ·cases h
def kZ (cq:List MapEntry) (i0:Nat) (r:Option (Nat×θ)):Option (Nat×Value):=r.map fun x=>(x.1,((cq[x.1-i0]?).map (·.val)).getD undef)
theorem S1 {d:TypeDesc} {x y:Value} {b:Bool} (h:lK d x y=some b):Instr.sameNow d x y=some b:=by
 unfold lK at h;split at h
 ·split at h
  ·rename_i e;subst e;cases h;simp[Instr.sameNow]
  ·cases h
 ·cases h;rfl
 ·cases h;rfl
 ·cases h
theorem S2 (Ζ:bN P T) {kt:TypeId} {i:hP} (hi:T kt=some i) {k:θ} {v:Value} (υ:aj S B σ k v) (Ν:∃u,k=.z u):∀(es:List (θ×θ)) (cq:List MapEntry) (n:Nat) (r:Option (Nat×θ)),uA S B σ es cq→hj T kt k es n=some r→
  Instr.findNow i.bA v cq n=some (kZ cq n r):=by
 obtain⟨u,rfl⟩:=Ν;cases υ;intro es
 induction es with
 | nil=>
  intro cq n r he h;have:cq=[]:=by have:=he.1;simpa using this.symm
  subst this;cases h;rfl
 | cons e es Γ=>
  intro cq n r he h;cases cq with
  | nil=>have:=he.1;simp at this
  | cons y cq=>
   obtain⟨⟨R,γ⟩,Μ⟩:=he.tail;unfold hj at h;split at h
   ·rename_i b hb;have hv:lK i.bA v y.key=some b:=by
     unfold aeqv at hb;rw[hi] at hb;simp only at hb;split at hb
     ·rename_i x kY Ε Δ;rw[Δ] at R;cases R;cases Ε;split at hb
      ·exact hb
      ·cases hb
     ·rename_i Ε _;cases Ε
     ·cases hb
    unfold Instr.findNow;rw[S1 hv];cases b with
    | true=>cases h;simp[kZ]
    | false=>
     have:=Γ cq (n+1) r Μ h;simp only[this];congr 1;unfold kZ;cases r with
     | none=>rfl
     | some x=>
      simp only[Option.map_some];have δ:n+1≤x.1:=(BV es (n+1) x.1 x.2 h).1;have:x.1-n=(x.1-(n+1))+1:=by omega
      rw[this,List.getElem?_cons_succ]
   ·cases h
theorem S3 (Ζ:bN P T) {kt:TypeId} {k:θ} {v:Value} (υ:aj S B σ k v) {E:Value→ψ→Prop}:∀(es:List (θ×θ)) (cq:List MapEntry) (n:Nat) (r:Option (Nat×θ)) (K:Option (Nat×Value)→ψ→Prop),uA S B σ es cq→hj T kt k es n=some r→
  K (kZ cq n r) H→ς P (Instr.findAsking kt v cq n) H K E:=by
 intro es
 induction es with
 | nil=>
  intro cq n r K he h I;have:cq=[]:=by have:=he.1;simpa using this.symm
  subst this;cases h;exact ς.pure' I
 | cons e es Γ=>
  intro cq n r K he h I;cases cq with
  | nil=>have:=he.1;simp at this
  | cons y cq=>
   obtain⟨⟨R,γ⟩,Μ⟩:=he.tail;unfold hj at h;split at h
   ·rename_i b hb;unfold Instr.findAsking;refine ς.bind' (FZ Ζ υ R hb ?_);cases b with
    | true=>cases h;simp only[if_true];exact ς.pure' (by simpa[kZ] using I)
    | false=>
     simp only[Bool.false_eq_true,if_false];refine Γ cq (n+1) r K Μ h ?_;have:kZ (y::cq) n r=kZ cq (n+1) r:=by
      unfold kZ;cases r with
      | none=>rfl
      | some x=>
       simp only[Option.map_some];have δ:n+1≤x.1:=(BV es (n+1) x.1 x.2 h).1;have:x.1-n=(x.1-(n+1))+1:=by omega
       rw[this,List.getElem?_cons_succ]
     rw[←this];exact I
   ·cases h
theorem F1 (Ζ:bN P T) {kt:TypeId} {k:θ} {v:Value} (υ:aj S B σ k v) (nf:nd T kt k=true) {es:List (θ×θ)} {cq:List MapEntry} {r:Option (Nat×θ)} (he:uA S B σ es cq) (h:hj T kt k es 0=some r) {K:Option (Nat×Value)→ψ→Prop} {E:Value→ψ→Prop} (I:K (kZ cq 0 r) H) :
  ς P (Instr.findKey kt v cq) H K E:=by
 unfold Instr.findKey;unfold nd at nf;split at nf
 ·rename_i i hi;refine ς.bind' (Ζ.bA hi ?_);split at nf
  ·rw[S2 Ζ hi υ ⟨_,rfl⟩ es cq 0 r he h];exact ς.pure' I
  ·rename_i xs;cases υ with
   | aU vs Ξ ad=>
    cases cq with
    | nil=>
     have:es=[]:=by have:=he.1;simpa using this
     subst this;cases h;exact ς.pure' I
    | cons y cq=>
     have Η:Instr.findNow i.bA (.agg vs) (y::cq) 0=none:=by
      unfold Instr.findNow;have:Instr.sameNow i.bA (.agg vs) y.key=none:=by unfold Instr.sameNow;cases i.bA<;>rfl
      rw[this]
     rw[Η];exact S3 Ζ (.aU vs Ξ ad) es (y::cq) 0 r K he h I
  ·cases nf
 ·cases nf
def ng (σ:List Row) (id:Nat):Bool:=σ.all fun r=>match r with|.iter m _ _=>m != id|_=>true
theorem S4 {id:Nat} (h:ng σ id=true):∀(j:Nat) left cur,σ[j]?≠some (Row.iter id left cur):=fun j left cur ε=>by
 have:=List.all_eq_true.1 h _ (cl ε);simp at this
def uB (T:a7) (ty:TypeId):Option (TypeId×TypeId):=match T ty with
 | some i=>match i.bA with|.map k v=>some (k,v)|_=>none
 | none=>none
theorem BW {ty kt vt:TypeId} (h:uB T ty=some (kt,vt)):∃i,T ty=some i∧i.bA=.map kt vt:=by
 unfold uB at h;split at h
 ·rename_i i hi;split at h
  ·rename_i k v hu;cases h;exact⟨i,hi,hu⟩
  ·cases h
 ·cases h
def F2 (σ:List Row):cT:=.ok (.mp σ.length) (σ++[.map []])
theorem S5 (Α:Holds S B σ H) (ty:TypeId):cB P (Instr.makeMap ty none) S B H σ (F2 σ):=by
 intro K I;unfold Instr.makeMap;refine ς.bind' ?_;refine fun r κ=>?_;have cg:∀b,(∀N,some (r,0)≠some (b,N))→jR H (H.bD r (.map #[] 0)) b:=fun b hb=>by
  have bu:b≠r:=fun e=>by subst e;exact hb _ rfl
  exact⟨fun o=>rfl,rfl,by simp[ψ.bD,bu]⟩
 have bH:b0 S S B (B++[some (r,0)]) σ (σ++[.map []])→jb S (B++[some (r,0)]) (σ++[.map []]) (H.bD r (.map #[] 0)) (.map []) (some (r,0)):=fun _=>
  ⟨r,0,#[],0,rfl,by simp[ψ.bD],rfl,fun i e y R=>by simp at R,fun i j y z R=>by simp at R⟩
 obtain⟨R,γ,ο⟩:=Α.push (fun b N e=>by cases e;exact κ) cg bH;exact ς.pure' ⟨_,_,_,_,I,γ,R,ο,.mp (es:=[]) (N:=0) (BL σ _) (BM Α.len _)⟩
def BX (T:a7) (ty:TypeId) (ok:Bool) (σ:List Row) (mp k:θ):cT:=match uB T ty,mp with
 | some (kt,vt),.mp id=>match σ[id]?,T vt with
  | some (.map es),some F3=>if nd T kt k=true then match hj T kt k es 0 with
   | some (some (_,a))=>.ok (if ok then .bt [a,.z (.bool true)] else a) σ
   | some none=>.ok (if ok then .bt [g2 F3.zero,.z (.bool false)] else g2 F3.zero) σ
   | none=>.bad else .bad
  | _,_=>.bad
 | _,_=>.bad
theorem yN (Α:Holds S B σ H) {id b N:Nat} {es:List (θ×θ)} (hm:σ[id]?=some (.map es)) (hb:B[id]?=some (some (b,N))):∃xs clock,H.obj b=some (.map xs clock)∧rh S B σ es xs clock:=by
 obtain⟨Φ,eJ,xs,clock,e,R,γ⟩:=Α.row id _ _ hm hb;cases e;exact⟨xs,clock,R,γ⟩
theorem rh.wm {es:List (θ×θ)} {xs:Array MapEntry} {clock:Nat} (h:rh S B σ es xs clock):uA S B σ es xs.toList:=
 ⟨by simpa using h.1,fun i e y R γ=>by rw[Array.getElem?_toList] at γ;obtain⟨a,b,_⟩:=h.2.1 i e y R γ;exact⟨a,b⟩⟩
theorem S6 (Ζ:bN P T) (Α:Holds S B σ H) {ty:TypeId} {ok:Bool} {mp k:θ} {u v:Value} (hm:aj S B σ mp u) (υ:aj S B σ k v):cB P (Instr.lookup ty u v ok) S B H σ (BX T ty ok σ mp k):=by
 unfold BX;split
 ·rename_i kt vt id uC;obtain⟨i,hi,hu⟩:=BW uC;split
  ·rename_i es F3 bH S7;split
   ·rename_i nf;cases hm with
    | mp R γ=>
     rename_i b N;rw[bH] at R;cases R;obtain⟨xs,clock,mB,g3⟩:=yN Α bH γ;have go:∀(r:Option (Nat×θ)) (res:cT),hj T kt k es 0=some r→(∀(K:θ→List Row→Prop),res.holds K→∃(x:θ) (y:Value),True∧ς P (do
       let (v,S8) ←match kZ xs.toList 0 r with
        | some (_,v)=>pure (v,true)
        | none=>do pure (←zeroValue vt,false)
       pure (if ok then .tuple #[v,.bool S8] else v)) H (h9 S B H σ K) (fun _ _=>False))→cB P (Instr.lookup ty (.map (some b)) v ok) S B H σ res:=fun r res Ρ eL K I=>by
      unfold Instr.lookup;refine ς.bind' (Ζ.bA hi ?_);rw[hu];refine ς.bind' ?_;refine⟨_,mB,rfl,?_⟩;refine ς.bind' (ς.pure' ?_);refine ς.bind' (F0 Ζ υ nf ?_);refine ς.bind' (F1 Ζ υ nf g3.wm Ρ ?_);obtain⟨_,_,_,h⟩:=eL K I;cases Β:kZ xs.toList 0 r with
      | none=>rw[Β] at h;exact h
      | some p=>rw[Β] at h;exact h
     split
     ·rename_i b8 a Ρ;refine go _ _ Ρ fun K I=>⟨a,undef,trivial,?_⟩;obtain⟨_,Ω,he,_⟩:=BV es 0 b8 a Ρ;have aE:b8<xs.size:=by have:=(b3.1 he).1;rw[←g3.1];simpa using this
      have Ο:xs[b8]?=some xs[b8]:=eY aE;obtain⟨_,κ,_⟩:=g3.2.1 b8 _ _ (by simpa using he) Ο;have Β:kZ xs.toList 0 (some (b8,a))=some (b8,xs[b8].val):=by simp[kZ,aE]
      rw[Β];refine ς.bind' (ς.pure' (ς.pure' ?_));cases ok with
      | true=>exact .same Α I (v5 κ (.z _))
      | false=>exact .same Α I κ
     ·rename_i Ρ;refine go _ _ Ρ fun K I=>⟨.cp,undef,trivial,?_⟩;refine ς.bind' (Ζ.zero S7 ?_);refine ς.bind' (ς.pure' (ς.pure' ?_));cases ok with
      | true=>exact .same Α I (v5 (o2 _) (.z _))
      | false=>exact .same Α I (o2 _)
     ·exact .bad
    | kT v R=>rw[bH] at R;cases R
   ·exact .bad
  ·exact .bad
 ·exact .bad
def yO (T:a7) (ty:TypeId) (σ:List Row) (mp k x:θ):cT:=match uB T ty,mp with
 | some (kt,_),.mp id=>match σ[id]? with
  | some (.map es)=>if nd T kt k=true∧ng σ id=true then match hj T kt k es 0 with
   | some (some (i,_))=>.ok .cp (σ.set id (.map (es.set i (k,x))))
   | some none=>.ok .cp (σ.set id (.map (es++[(k,x)])))
   | none=>.bad else .bad
  | _=>.bad
 | _,_=>.bad
theorem F4 (Α:Holds S B σ H) {id b N:Nat} {es es':List (θ×θ)} {xs':Array MapEntry} {clock':Nat} (bH:σ[id]?=some (.map es)) (hb:B[id]?=some (some (b,N))) (j6:ng σ id=true) (dA:∀{B':aN} {σ':List Row},b0 S S B B' σ σ'→rh S B' σ' es' xs' clock') :
  Holds S (B.set id (some (b,N))) (σ.set id (.map es')) (H.bD b (.map xs' clock'))∧Ext S B H S (B.set id (some (b,N))) (H.bD b (.map xs' clock'))∧b0 S S B (B.set id (some (b,N))) σ (σ.set id (.map es')):=
 Α.vZ bH trivial hb (.inl ⟨es',rfl,rfl⟩) (fun Φ eJ e=>.inl ⟨eJ,e⟩) (fun Φ R _=>by
  have bu:Φ≠b:=fun e=>by subst e;exact R N rfl
  exact⟨fun o=>rfl,rfl,by simp[ψ.bD,bu]⟩) ψ.Fp (S4 j6) fun ω=>⟨b,N,xs',clock',rfl,by simp[ψ.bD],dA ω⟩
theorem Le (Ζ:bN P T) (Α:Holds S B σ H) {ty:TypeId} {mp k x:θ} {u v w:Value} (hm:aj S B σ mp u) (υ:aj S B σ k v) (δ:aj S B σ x w):v7 P (Instr.mapUpdate ty u v w) S B H σ (yO T ty σ mp k x):=by
 unfold yO;split
 ·rename_i kt vt id uC;obtain⟨i,hi,hu⟩:=BW uC;split
  ·rename_i es bH;split
   ·rename_i qi;obtain⟨nf,j6⟩:=qi;cases hm with
    | mp R γ=>
     rename_i b N;rw[bH] at R;cases R;obtain⟨xs,clock,mB,g3⟩:=yN Α bH γ;split
     ·rename_i b8 a Ρ;obtain⟨_,Ω,he,heq⟩:=BV es 0 b8 a Ρ;simp only[Nat.sub_zero] at he;have h':b8<es.length:=(b3.1 he).1;have aE:b8<xs.size:=by rw[←g3.1];exact h'
      have Ο:xs[b8]?=some xs[b8]:=eY aE;obtain⟨S9,eς,wq⟩:=g3.2.1 b8 _ _ he Ο;obtain⟨Ε,Δ,a4⟩:=SX Ζ υ S9 heq;intro K I;unfold Instr.mapUpdate;refine ς.bind' (Ζ.bA hi ?_);rw[hu];refine ς.bind' ⟨_,mB,rfl,ς.pure' ?_⟩;refine ς.bind' (F0 Ζ υ nf ?_);refine ς.bind' (F1 Ζ υ nf g3.wm Ρ ?_);have Β:kZ xs.toList 0 (some (b8,a))=some (b8,xs[b8].val):=by simp[kZ,aE]
      rw[Β];simp only[Ο,Option.map_some,Option.getD_some];unfold Instr.keyThatStays;rw[←Ε];simp only[a4,if_true];refine ς.bind' (ς.pure' ?_);obtain⟨dB,p2,p3⟩:=F4 Α (es':=es.set b8 (k,x)) (xs':=xs.modify b8 fun e=>{e with key:=v,val:=w}) (clock':=clock) bH γ j6 fun {B' σ'} ω=>by
       refine⟨by simp[g3.1],fun j e y Ξ ad=>?_,fun j bC y z Ξ ad F5=>?_⟩
       ·rw[Array.getElem?_modify] at ad;by_cases lI:b8=j
        ·subst lI;rw[List.getElem?_set_self h'] at Ξ;rw[if_pos rfl,Ο] at ad;cases Ξ;cases ad;exact⟨υ.later ω,δ.later ω,wq⟩
        ·rw[List.getElem?_set_ne lI] at Ξ;rw[if_neg lI] at ad;obtain⟨c1,c2,c3⟩:=g3.2.1 j e y Ξ ad;exact⟨c1.later ω,c2.later ω,c3⟩
       ·have born:∀(j:Nat) (y:MapEntry),(xs.modify b8 fun e=>{e with key:=v,val:=w})[j]?=some y→∃BY,xs[j]?=some BY∧y.born=BY.born:=fun j y g=>by
         rw[Array.getElem?_modify] at g;by_cases lI:b8=j
         ·subst lI;rw[if_pos rfl,Ο] at g;cases g;exact⟨_,Ο,rfl⟩
         ·rw[if_neg lI] at g;exact⟨y,g,rfl⟩
        obtain⟨BY,c1,c2⟩:=born j y Ξ;obtain⟨hh,c3,c4⟩:=born bC z ad;rw[c2,c4];exact g3.2.2 j bC BY hh c1 c3 F5
      exact⟨⟨_,mB⟩,rfl,rfl,ς.pure' ⟨S,_,_,_,I,p2,dB,p3,.cp _⟩⟩
     ·rename_i Ρ;intro K I;unfold Instr.mapUpdate;refine ς.bind' (Ζ.bA hi ?_);rw[hu];refine ς.bind' ⟨_,mB,rfl,ς.pure' ?_⟩;refine ς.bind' (F0 Ζ υ nf ?_);refine ς.bind' (F1 Ζ υ nf g3.wm Ρ ?_);simp only[kZ,Option.map_none];obtain⟨dB,p2,p3⟩:=F4 Α (es':=es++[(k,x)]) (xs':=xs.push {key:=v,val:=w,born:=clock}) (clock':=clock+1) bH γ j6 fun {B' σ'} ω=>by
       refine⟨by simp[g3.1],fun j e y Ξ ad=>?_,fun j bC y z Ξ ad F5=>?_⟩
       ·by_cases ε:j<es.length
        ·rw[dU ε] at Ξ;rw[Array.getElem?_push,if_neg (by rw[←g3.1];omega)] at ad;obtain⟨c1,c2,c3⟩:=g3.2.1 j e y Ξ ad;exact⟨c1.later ω,c2.later ω,by omega⟩
        ·rw[hr (by omega)] at Ξ;have fi:j=es.length:=by
          have:=(b3.1 Ξ).1;simp at this;omega
         subst fi;rw[Array.getElem?_push,if_pos g3.1] at ad;simp at Ξ;subst Ξ;cases ad;exact⟨υ.later ω,δ.later ω,Nat.lt_succ_self _⟩
       ·rw[Array.getElem?_push] at Ξ ad;split at Ξ
        ·rename_i Ε;split at ad
         ·omega
         ·have:=(Array.getElem?_eq_some_iff.1 ad).1;omega
        ·split at ad
         ·cases ad;have ε:=(Array.getElem?_eq_some_iff.1 Ξ).1;have he:∃e,es[j]?=some e:=⟨_,bc (by rw[g3.1];exact ε)⟩;obtain⟨e,he⟩:=he;exact(g3.2.1 j e y he Ξ).2.2
         ·exact g3.2.2 j bC y z Ξ ad F5
      exact⟨⟨_,mB⟩,rfl,rfl,ς.pure' ⟨S,_,_,_,I,p2,dB,p3,.cp _⟩⟩
     ·exact .bad
    | kT v R=>rw[bH] at R;cases R
   ·exact .bad
  ·exact .bad
 ·exact .bad
end
section
variable {P:Program} {T:a7} {S:aA} {B:aN} {H:ψ} {σ:List Row}
def BZ (T:a7) (ty:TypeId) (σ:List Row) (mp:θ):cT:=match uB T ty,mp with
 | some _,.mp id=>match σ[id]? with
  | some (.map es)=>.ok (.it σ.length) (σ++[.iter id es none])
  | _=>.bad
 | _,_=>.bad
theorem S' (Ζ:bN P T) (Α:Holds S B σ H) {ty:TypeId} {mp:θ} {u:Value} (hm:aj S B σ mp u):cB P (Instr.range ty u) S B H σ (BZ T ty σ mp):=by
 unfold BZ;split
 ·rename_i yP id uC;obtain⟨i,hi,hu⟩:=BW (kt:=yP.1) (vt:=yP.2) uC;split
  ·rename_i es bH;cases hm with
   | mp R γ=>
    rename_i b N;rw[bH] at R;cases R;obtain⟨xs,clock,mB,g3⟩:=yN Α bH γ;intro K I;unfold Instr.range;refine ς.bind' (Ζ.bA hi ?_);rw[hu];refine ς.bind' ?_;refine⟨_,mB,rfl,?_⟩;refine ς.bind' (ς.pure' ?_);refine ς.bind' ?_;refine fun r κ=>?_;have bu:b≠r:=fun e=>by subst e;rw[κ.2.2.1] at mB;cases mB
    have bU:id<σ.length:=(b3.1 bH).1
    have cg:∀Φ,(∀N,some (r,0)≠some (Φ,N))→jR H (H.bD r (.mapIter (some b) clock #[] clock)) Φ:=fun Φ hb=>by
     have bu:Φ≠r:=fun e=>by subst e;exact hb _ rfl
     exact⟨fun o=>rfl,rfl,by simp[ψ.bD,bu]⟩
    have yk:b0 S S B (B++[some (r,0)]) σ (σ++[.iter id es none])→jb S (B++[some (r,0)]) (σ++[.iter id es none]) (H.bD r (.mapIter (some b) clock #[] clock)) (.iter id es none) (some (r,0)):=fun ω=>by
     refine⟨r,0,b,N,xs,clock,#[],rfl,by rw[dU (by rw[Α.len];exact bU)];exact γ,⟨es,by rw[dU bU];exact bH⟩,by simp[ψ.bD],by simp[ψ.bD,bu,mB],⟨xs.toList,?_,by simpa using g3.1,fun i e y Ξ ad=>?_⟩,fun y Ο=>?_,fun e he=>by cases he⟩
     ·exact(List.filter_eq_self.2 fun e _=>by simp).symm
     ·obtain⟨c1,c2⟩:=g3.wm.2 i e y Ξ ad;exact⟨c1.later ω,c2.later ω⟩
     ·obtain⟨j,ε,rfl⟩:=Array.getElem_of_mem Ο;have he:∃e,es[j]?=some e:=⟨_,bc (by rw[g3.1];exact ε)⟩;obtain⟨e,he⟩:=he;exact(g3.2.1 j e _ he (eY ε)).2.2
    obtain⟨dB,p2,p3⟩:=Α.push (fun Φ eJ e=>by cases e;exact κ) cg yk;exact ς.pure' ⟨_,_,_,_,I,p2,dB,p3,.it (BL σ _) (BM Α.len _)⟩
   | kT v R=>rw[bH] at R;cases R
  ·exact .bad
 ·exact .bad
theorem Ta {α:Type} (f:α→Nat):∀(l:List α) (i:Nat) (e:α),(l.map f).Nodup→l[i]?=some e→l.filter (fun x=>f x != f e)=l.eraseIdx i:=by
 intro l
 induction l with
 | nil=>intro i e _ h;simp at h
 | cons a l Γ=>
  intro i e Η h;simp only[List.map_cons,List.nodup_cons] at Η;cases i with
  | zero=>
   simp at h;subst h;rw[List.filter_cons];simp only[bne_self_eq_false,Bool.false_eq_true,if_false,List.eraseIdx_cons_zero];rw[List.filter_eq_self];intro x δ;simp only[bne_iff_ne,ne_eq];intro e;exact Η.1 (e▸List.mem_map_of_mem δ)
  | succ i=>
   simp only[List.getElem?_cons_succ] at h;have bu:f a≠f e:=fun x=>Η.1 (x▸List.mem_map_of_mem (cl h));rw[List.filter_cons];simp only[bne_iff_ne,ne_eq,bu,not_false_eq_true,if_true,List.eraseIdx_cons_succ];rw[Γ i e Η.2 h]
theorem Tb {es:List (θ×θ)} {xs:Array MapEntry} {clock:Nat} (h:rh S B σ es xs clock):(xs.toList.map (·.born)).Nodup:=by
 rw[List.Nodup,List.pairwise_map,List.pairwise_iff_getElem];intro i j hi ε aE;have:=h.2.2 i j _ _ (eY (by simpa using hi)) (eY (by simpa using ε)) aE;simp only[Array.getElem_toList];omega
def B0 (σ:List Row) (it:θ):cT:=match it with
 | .it id=>match σ[id]? with
  | some (.iter m left _)=>if left.isEmpty=true then .ok (.bt [.z (.bool false)]) σ else
    .all left.length fun i=>match left[i]? with
     | some e=>.ok (.bt [.z (.bool true),e.1,e.2]) (σ.set id (.iter m (left.eraseIdx i) (some e)))
     | none=>.bad
  | _=>.bad
 | _=>.bad
theorem Tc {a b c:θ} {u v w:Value} (R:aj S B σ a u) (γ:aj S B σ b v) (ο:aj S B σ c w):aj S B σ (.bt [a,b,c]) (.tuple #[u,v,w]):=by
 refine .bt _ rfl fun i b9 eZ Ξ ad=>?_
 match i with
 | 0=>simp at Ξ ad;subst Ξ;subst ad;exact R
 | 1=>simp at Ξ ad;subst Ξ;subst ad;exact γ
 | 2=>simp at Ξ ad;subst Ξ;subst ad;exact ο
 | i+3=>simp at Ξ
theorem Td (Α:Holds S B σ H) {it:θ} {u:Value} (ty:TypeId) (hi:aj S B σ it u):cB P (Instr.next u false ty) S B H σ (B0 σ it):=by
 unfold B0;split
 ·rename_i id;split
  ·rename_i m left cur bH;cases hi with
   | it R γ=>
    rename_i Ft Fu bW b N;rw[bH] at R;cases R;obtain⟨Φ,eJ,aQ,j',xs,clock,seen,cA,rj,⟨es,yQ⟩,ru,uD,⟨cq,F6,hlen,F7⟩,wq,B1⟩:=Α.row id _ _ bH γ;cases cA;obtain⟨xs',clock',Lf,g3⟩:=yN Α yQ rj;rw[uD] at Lf;cases Lf;have jS:=Tb g3;have bu:aQ≠b:=fun e=>by subst e;rw[ru] at uD;cases uD
    intro K I;have Te:(xs.filter fun e=>!seen.contains e.born).toList=cq:=by rw[F6];simp
    have hs:(!seen.isEmpty&&!xs.isEmpty&&xs.all (fun e=>decide (e.born≥clock)))=false:=by
     cases δ:xs.isEmpty with
     | true=>simp
     | false=>
      have o6:0<xs.size:=by
       rw[Array.isEmpty_eq_false_iff] at δ;exact Array.size_pos_iff.2 δ
      have ae:xs.all (fun e=>decide (e.born≥clock))=false:=by
       rw[Array.all_eq_false];refine⟨0,o6,?_⟩;have:=wq xs[0] (Array.getElem_mem o6);simp;exact this
      rw[ae];simp
    have Tf:∀z:Array MapEntry,z=xs.filter (fun e=>!seen.contains e.born)→z.filter (fun e=>decide (e.born<clock))=z∧z.filter (fun e=>decide (e.born≥clock))=#[]:=fun z Ν=>by
     have hb:∀e∈z,e.born<clock:=fun e he=>by rw[Ν] at he;exact wq e (Array.mem_of_mem_filter he)
     constructor
     ·rw[Array.filter_eq_self];intro e he;simpa using hb e he
     ·rw[Array.filter_eq_empty_iff];intro e he;simpa using hb e he
    unfold Instr.next;refine ς.bind' ?_;refine⟨_,ru,rfl,?_⟩;refine ς.pure' ?_;simp only;refine ς.bind' ?_;refine⟨_,uD,rfl,?_⟩;refine ς.pure' ?_;simp only[hs,Bool.false_eq_true,if_false];generalize Ν:xs.filter (fun e=>!seen.contains e.born)=z;obtain⟨f1,f2⟩:=Tf z Ν.symm;rw[f1,f2];have ob:z.toList=cq:=by rw[←Ν];exact Te
    by_cases B2:left.isEmpty=true
    ·have FT:left=[]:=List.isEmpty_iff.1 B2;subst FT;have Tg:z=#[]:=by
      have:cq=[]:=dq.1 (by rw[←hlen];rfl);rw[this] at ob;exact Array.toList_eq_nil_iff.1 ob
     subst Tg;have cA:((if(#[]:Array MapEntry).isEmpty=true then #[none] else #[])++Array.map some (#[]++#[]:Array MapEntry))=#[none]:=by simp
     rw[cA];refine ς.bind' ?_;show ς P (choose (.mapNext 1)) H _ _;unfold choose;simp only[ς,Question.forced,Nat.le_refl,decide_true,if_true];exact ς.pure' (.same Α I (.bt _ rfl fun i a v Ξ ad=>by
      match i with
      | 0=>simp at Ξ ad;subst Ξ;subst ad;exact .z _
      | i+1=>simp at Ξ))
    ·rw[if_neg B2] at I;have qg:z.size=left.length:=by rw[hlen,←ob];simp
     have Ti:z.isEmpty=false:=by
      rw[Array.isEmpty_eq_false_iff];intro e;rw[e] at qg;exact B2 (List.isEmpty_iff.2 (dq.1 qg.symm))
     simp only[Ti,Bool.false_eq_true,if_false,Array.append_empty,Array.empty_append];refine ς.bind' ?_;have fin:∀i,i<left.length→ς P (match (z.map some)[i]? with
       | some (some e)=>do
        setObj b (.mapIter (some aQ) clock (seen.push e.born) clock)
        pure (.tuple #[.bool true,e.key,e.val])
       | some none=>pure (.tuple #[.bool false])
       | none=>stuck "Next: no such candidate") H (h9 S B H σ K) (fun _ _=>False):=fun i h'=>by
      have yR:∃pb,z[i]?=some pb:=⟨_,eY (by omega)⟩;obtain⟨pb,yR⟩:=yR;have Lg:cq[i]?=some pb:=by rw[←ob,Array.getElem?_toList];exact yR
      have g0:∃e,left[i]?=some e:=⟨_,bc h'⟩;obtain⟨le,g0⟩:=g0;rw[Array.getElem?_map,yR];simp only[Option.map_some];have Lh:=I i h';simp only[g0] at Lh;obtain⟨r1,r2⟩:=F7 i _ _ g0 Lg;have jw:pb∈xs:=by
       have:pb∈z:=Array.mem_of_getElem? yR;rw[←Ν] at this;exact Array.mem_of_mem_filter this
      have bU:id<σ.length:=(b3.1 bH).1
      have n4:id<B.length:=by rw[Α.len];exact bU
      have Li:id≠m:=fun e=>by subst e;rw[bH] at yQ;cases yQ
      obtain⟨dB,p2,p3⟩:=Α.vZ (H':=H.bD b (.mapIter (some aQ) clock (seen.push pb.born) clock)) (r':=.iter m (left.eraseIdx i) (some le)) (bo':=some (b,N)) bH trivial γ (.inl ⟨_,_,rfl,rfl⟩) (fun Φ eJ e=>.inl ⟨eJ,e⟩) (fun Φ Ξ _=>by
       have bu:Φ≠b:=fun e=>by subst e;exact Ξ N rfl
       exact⟨fun o=>rfl,rfl,by simp[ψ.bD,bu]⟩) ψ.Fp (fun j l c ε=>by
       obtain⟨bo,eM⟩:=KG Α ε;obtain⟨_,_,_,_,_,_,_,_,_,⟨m8,Lj⟩,_⟩:=Α.row j _ bo ε eM;rw[bH] at Lj;cases Lj) (fun ω=>by
       refine⟨b,N,aQ,j',xs,clock,seen.push pb.born,rfl,by rw[List.getElem?_set_ne Li];exact rj,⟨es,by rw[List.getElem?_set_ne Li];exact yQ⟩,by simp[ψ.bD],by simp[ψ.bD,bu,uD],⟨cq.eraseIdx i,?_,by rw[List.length_eraseIdx,List.length_eraseIdx,hlen],fun j e y Ξ ad=>?_⟩,wq,fun e he=>?_⟩
       ·have ju:(cq.map (·.born)).Nodup:=by
         rw[F6];exact jS.sublist (List.filter_sublist.map _)
        rw[←Ta (·.born) cq i pb ju Lg,F6,List.filter_filter];apply List.filter_congr;intro e _;rw[Array.contains_push,Bool.not_or,Bool.and_comm];congr 1
       ·rw[List.getElem?_eraseIdx] at Ξ ad;split at Ξ
        ·rename_i aE;rw[if_pos aE] at ad;obtain⟨c1,c2⟩:=F7 j e y Ξ ad;exact⟨c1.later ω,c2.later ω⟩
        ·rename_i aE;rw[if_neg aE] at ad;obtain⟨c1,c2⟩:=F7 (j+1) e y Ξ ad;exact⟨c1.later ω,c2.later ω⟩
       ·cases he;refine⟨pb.born,pb,by simp,?_,r1.later ω,r2.later ω⟩;rw[←Array.find?_toList];obtain⟨q,Υ⟩:=List.getElem?_of_mem (show pb∈xs.toList by simpa using jw);have key:∀(l:List MapEntry) (q:Nat) (e:MapEntry),(l.map (·.born)).Nodup→l[q]?=some e→l.find? (·.born==e.born)=some e:=by
         intro l
         induction l with
         | nil=>intro q e _ h;simp at h
         | cons a l Γ=>
          intro q e Η h;simp only[List.map_cons,List.nodup_cons] at Η;rw[List.find?_cons];cases q with
          | zero=>simp at h;subst h;simp
          | succ q=>
           simp only[List.getElem?_cons_succ] at h;have:(a.born==e.born)=false:=by
            simp only[beq_eq_false_iff_ne,ne_eq];intro x;exact Η.1 (x▸List.mem_map_of_mem (cl h))
           rw[this];exact Γ q e Η.2 h
        exact key xs.toList q _ jS Υ)
      refine ς.bind' ?_;refine⟨⟨_,ru⟩,rfl,rfl,?_⟩;refine ς.pure' ?_;exact ς.pure' ⟨S,_,_,_,Lh,p2,dB,p3,Tc (.z _) (r1.later p3) (r2.later p3)⟩
     have cd:(z.map some).size=left.length:=by simp[qg]
     show ς P (choose (.mapNext (z.map some).size)) H _ _;unfold choose;simp only[ς];have o6:0<left.length:=List.length_pos_iff.2 fun e=>B2 (List.isEmpty_iff.2 e);split
     ·exact fin 0 o6
     ·intro n;refine fin _ ?_;simp only[Question.cut,cd];exact Nat.mod_lt _ o6
   | mw v R=>rw[bH] at R;cases R
  ·exact .bad
 ·exact .bad
def B3 (σ:List Row) (it:θ):cT:=match it with
 | .it id=>match σ[id]? with
  | some (.iter _ _ (some e))=>.ok (.bt [e.1,e.2]) σ
  | _=>.bad
 | _=>.bad
theorem Tj (Α:Holds S B σ H) {it:θ} {u:Value} (hi:aj S B σ it u):cB P (Instr.entry u) S B H σ (B3 σ it):=by
 unfold B3;split
 ·rename_i id;split
  ·rename_i m left e bH;cases hi with
   | it R γ=>
    rename_i Ft Fu bW b N;rw[bH] at R;cases R;obtain⟨Φ,eJ,aQ,j',xs,clock,seen,cA,rj,yQ,ru,uD,_,wq,B1⟩:=Α.row id _ _ bH γ;cases cA;obtain⟨Fw,y,Ξ,ad,aT,ck⟩:=B1 e rfl;intro K I;unfold Instr.entry;refine ς.bind' ?_;refine⟨_,ru,rfl,?_⟩;refine ς.pure' ?_;simp only[Ξ];refine ς.bind' ?_;refine⟨_,uD,rfl,?_⟩;refine ς.pure' ?_;simp only[bne_self_eq_false,Bool.false_eq_true,if_false,ad];exact ς.pure' (.same Α I (v5 aT ck))
   | mw v R=>rw[bH] at R;cases R
  ·exact .bad
 ·exact .bad
def B4 (T:a7) (ty:TypeId) (σ:List Row) (x:θ):cT:=match x with
 | .ms id n i len=>match T ty,σ[id]? with
  | some j7,some (.cells t k l)=>match j7.bA with
   | .slice e=>match T e with
    | some bS=>match bS.zero with
     | .int kd z=>if l.length=n∧k=1∧i+len≤n∧(∀a∈l,a.cells.length=1) then .ok .cp (σ.set id (.cells t k (l.take i++List.replicate len (.z (.int kd z))++l.drop (i+len)))) else .bad
     | _=>.bad
    | none=>.bad
   | _=>.bad
  | _,_=>.bad
 | _=>.bad
theorem Tk (Ζ:bN P T) (Α:Holds S B σ H) {ty:TypeId} (rt:TypeId) {x:θ} {u:Value} (hm:aj S B σ x u):cB P (Builtin.clear_ #[ty] rt #[u]) S B H σ (B4 T ty σ x):=by
 unfold B4;split
 ·rename_i id n i len;split
  ·rename_i j7 t k l Tl ω;split
   ·rename_i e hu;split
    ·rename_i bS dO;split
     ·rename_i kd z Ν;split
      ·rename_i η;obtain⟨Η,rfl,bb,_⟩:=η;have bU:id<σ.length:=(b3.1 ω).1;have n4:id<B.length:=by rw[Α.len];exact bU
       intro K I;have same:len=0→h9 S B H σ K (.tuple #[]) H:=fun cA=>by
        subst cA;have sO:σ.set id (.cells t 1 (l.take i++List.replicate 0 (.z (.int kd z))++l.drop (i+0)))=σ:=by
         rw[List.replicate_zero,List.append_nil,Nat.add_zero,List.take_append_drop];apply List.ext_getElem?;intro j;by_cases lI:id=j
         ·subst lI;rw[List.getElem?_set_self bU,ω]
         ·rw[List.getElem?_set_ne lI]
        simp only[cT.holds] at I;rw[sO] at I;exact⟨S,B,σ,_,I,.refl _ _ _,Α,.refl _ _ _,.cp _⟩
       cases hm with
       | iC v R γ=>rw[ω] at R;cases R;simp only[Row.gN] at γ;omega
       | ms cap R γ ο Ι ay a6=>
        rename_i bo base;rw[ω] at R;cases R;unfold Builtin.clear_;refine ς.bind' (Ζ.bA Tl ?_);rw[hu];cases base with
        | none=>
         refine ς.bind' (ς.pure' ?_);have cA:len=0:=by
          rcases a6 with a6|⟨b,N,_,hb,_⟩
          ·omega
          ·cases hb
         exact ς.pure' (same cA)
        | some a=>
         by_cases cA:len=0
         ·subst cA;refine ς.bind' (ς.pure' ?_);exact ς.pure' (same rfl)
         ·rcases a6 with a6|⟨b,N,rfl,hb,a6⟩
          ·omega
          ·cases hb;obtain⟨bH,cm,fF,w,hw⟩:=Α.row id _ _ ω ο;obtain⟨m,rfl⟩:∃m,len=m+1:=⟨len-1,by omega⟩;simp only;refine ς.bind' (Ζ.zero dO ?_);rw[Ν];have Tm:(Builtin.zeroCells (Value.int kd z).cells (m+1)).toList=List.replicate (m+1) (.int kd z):=by
            simp only[Builtin.zeroCells,Value.cells];rw[Array.toList_map,Array.toList_range];refine List.ext_getElem? fun j=>?_;rw[List.getElem?_map,List.getElem?_replicate];by_cases ε:j<m+1
            ·rw[List.getElem?_range (by simpa using ε),if_pos ε];simp[Nat.mod_one]
            ·rw[List.getElem?_eq_none (by simp;omega),if_neg ε];rfl
           rw[Tm];have hy:∀(y:Nat) (c:θ),(l.take i++List.replicate (m+1) (θ.z (.int kd z))++l.drop (i+(m+1)))[y]?=some c→(i≤y∧y<i+(m+1)∧c=.z (.int kd z))∨((y<i∨i+(m+1)≤y)∧l[y]?=some c):=fun y c Ο=>by
            by_cases c1:y<i
            ·rw[List.append_assoc,dU (by simp;omega),List.getElem?_take_of_lt c1] at Ο;exact .inr ⟨.inl c1,Ο⟩
            ·by_cases c2:y<i+(m+1)
             ·rw[dU (by simp;omega),hr (by simp;omega),List.getElem?_replicate] at Ο;split at Ο
              ·cases Ο;exact .inl ⟨by omega,c2,rfl⟩
              ·cases Ο
             ·rw[hr (by simp;omega),List.getElem?_drop] at Ο;have Ε:i+(m+1)+(y-(l.take i++List.replicate (m+1) (θ.z (.int kd z))).length)=y:=by simp;omega
              rw[Ε] at Ο;exact .inr ⟨.inr (by omega),Ο⟩
           obtain⟨dB,p2,p3⟩:=Α.vZ (H':=H.gZ b i (List.replicate (m+1) (.int kd z))) (r':=.cells t 1 (l.take i++List.replicate (m+1) (.z (.int kd z))++l.drop (i+(m+1)))) (bo':=some (b,N)) ω trivial ο (.inl ⟨_,rfl,by simp;omega,rfl⟩) (fun Φ eJ aH=>.inl ⟨eJ,aH⟩)
            (fun Φ R _=>by
             have bu:Φ≠b:=fun aH=>by subst aH;exact R N rfl
             exact⟨fun o=>by simp[ψ.gZ,bu],rfl,rfl⟩) ψ.Fx (Bw Α ω) (fun j3=>by
             refine⟨bH,by simp;omega,fun o Β=>?_,fun y j=>if i≤y∧y<i+(m+1) then .int kd z else w y j,fun y c Ο=>?_⟩
             ·simp only[ψ.gZ];split
              ·exact⟨_,rfl⟩
              ·exact fF o Β
             ·rcases hy y c Ο with⟨c1,c2,rfl⟩|⟨c1,tS⟩
              ·refine⟨rfl,fun j a ε=>?_⟩;have fi:j=0:=by have:=(b3.1 ε).1;simp[θ.cells] at this;omega
               subst fi;simp[θ.cells] at ε;subst ε;simp only[c1,c2,and_self,if_true];refine⟨?_,.z _,trivial⟩;simp only[ψ.gZ,List.length_replicate];rw[if_pos ⟨trivial,by omega,by omega⟩,List.getElem?_replicate,if_pos (by omega)];rfl
              ·refine⟨(hw y c tS).1,fun j a ε=>?_⟩;obtain⟨Ξ,ad,aT⟩:=(hw y c tS).2 j a ε;have fi:j=0:=by have:=(b3.1 ε).1;rw[(hw y c tS).1] at this;omega
               subst fi;have B5:¬(i≤y∧y<i+(m+1)):=by omega
               simp only[B5,if_false];refine⟨?_,ad.later j3,aT⟩;simp only[ψ.gZ,List.length_replicate];rw[if_neg (by omega)];exact Ξ)
           have μ:(⟨b,i*1,none⟩:Addr)=⟨b,i,none⟩:=by rw[Nat.mul_one]
           rw[μ];refine ς.bind' ?_;refine ς.storeCells (G:=H) rfl ⟨t,N,bH⟩ _ 0 H (fun v hv=>by rw[List.eq_of_mem_replicate hv];trivial) (fun j _ ε=>?_) rfl ?_
           ·rw[List.length_replicate] at ε;obtain⟨dT,wj⟩:=fF (i+j) (by omega);exact⟨dT,wj⟩
           ·exact ς.pure' ⟨S,_,_,_,I,p2,dB,p3,.cp _⟩
      ·exact .bad
     ·exact .bad
    ·exact .bad
   ·exact .bad
  ·exact .bad
 ·exact .bad
def B6 (T:a7) (ty:TypeId) (σ:List Row) (mp:θ):cT:=match uB T ty,mp with
 | some _,.mp id=>match σ[id]? with
  | some (.map _)=>if ng σ id=true then .ok .cp (σ.set id (.map [])) else .bad
  | _=>.bad
 | _,_=>B4 T ty σ mp
theorem Tn (Ζ:bN P T) (Α:Holds S B σ H) {ty:TypeId} (rt:TypeId) {mp:θ} {u:Value} (hm:aj S B σ mp u):cB P (Builtin.clear_ #[ty] rt #[u]) S B H σ (B6 T ty σ mp):=by
 unfold B6;split
 ·rename_i yP id uC;obtain⟨i,hi,hu⟩:=BW (kt:=yP.1) (vt:=yP.2) uC;split
  ·rename_i es bH;split
   ·rename_i j6;cases hm with
    | mp R γ=>
     rename_i b N;rw[bH] at R;cases R;obtain⟨xs,clock,mB,g3⟩:=yN Α bH γ;obtain⟨dB,p2,p3⟩:=F4 Α (es':=[]) (xs':=#[]) (clock':=clock) bH γ j6 fun _=>⟨rfl,fun i e y R=>by simp at R,fun i j y z R=>by simp at R⟩;intro K I;unfold Builtin.clear_;refine ς.bind' (Ζ.bA hi ?_);rw[hu];refine ς.bind' ?_;refine⟨_,mB,rfl,?_⟩;refine ς.pure' ?_;refine⟨⟨_,mB⟩,rfl,rfl,?_⟩;exact ς.pure' ⟨S,_,_,_,I,p2,dB,p3,.cp _⟩
    | kT v R=>rw[bH] at R;cases R
   ·exact .bad
  ·exact .bad
 ·exact Tk Ζ Α rt hm
end
end Go.TL
