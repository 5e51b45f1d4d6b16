import Derived.Test.YtlabjopijpkiaaaGreatDAH
set_option maxHeartbeats 16000000
set_option maxRecDepth 20000
set_option linter.unusedSectionVars false
set_option linter.unusedSimpArgs false
set_option linter.unusedVariables false
namespace Go.TL
open Go.Conc
def hF (T:a9) (kt:TypeId) (k:θ):List (θ×θ)->Nat->Option (Option (Nat×θ))
 | [],_=>some none
 | e::r,i=>match aeqv T kt k e.1 with
  | some b=>bif b then some (some (i,e.2)) else hF T kt k r (i+1)
  | none=>none
def nF (T:a9) (kt:TypeId) (k:θ):Bool:=match T kt with
 | some i=>match k with
  | .z _=>iy i.bE
  | .a6 xs=>match i.bE,i.eqs with
   | .array _ _,some items=>xs.length==items.length&&(jK items xs xs).isSome
   | _,_=>false
  | _=>false
 | none=>false
section
variable {P:Program} {T:a9} {S:aD} {B:aP} {H:π} {σ:List Row}
theorem L6 {ty:TypeId} {d:TypeDesc} (hd:P.underlying ty=some d) (μ:iy d=true) {v:Value} {em:Bool} {n:Nat} {G:π} {K:Unit->π->Prop} {E:Value->π->Prop} (ψ:K () G):ξ P (Instr.checkKey em (n+1) ty v) G K E:=by
 unfold Instr.checkKey;refine ξ.bind' (ξ.underlying hd ?_);cases d<;>first|(cases μ;done)|(cases v<;>exact ξ.pure' ψ)
theorem Gv (Η:bT P T) {kt:TypeId} {k:θ} {v:Value} (ψ:au S B σ k v) (h:nF T kt k=true) {em:Bool} {G:π} {K:Unit->π->Prop} {E:Value->π->Prop} (ζ:K () G):ξ P (Instr.checkKey em 10000 kt v) G K E:=by
 unfold nF at h;split at h
 ·rename_i i hi;obtain⟨⟨hu,Χ⟩,_⟩:=Η kt i hi;split at h
  ·exact L6 (n:=9999) hu h ζ
  ·rename_i xs;split at h
   ·rename_i n e items TG dp;rw[dp] at Χ;simp only[Bool.and_eq_true,beq_iff_eq] at h;obtain⟨_,_,Χ⟩:=Χ;rcases Χ with⟨db,xb,_⟩|⟨m,Θ,d,f,xb,he,μ,Υ,cC,TH⟩
    ·rw[hu,TG] at xb;cases xb
    ·cases ψ with
     | a6 vs Ξ ah=>
      have TI:=zj (.a6 vs Ξ ah)
      show ξ P (Instr.checkKey em (9999+1) kt _) G K E;unfold Instr.checkKey;refine ξ.bind' (ξ.underlying xb ?_);simp only;rw[forIn_range];refine ξ.bind' ?_;have hb:∃b,jK ((List.range m).map λi=>(d,i)) xs xs=some b:=by
       rw[<-TH];exact Option.isSome_iff_exists.1 h.2
      have key:∀(l:List Nat) (b:Bool),jK (l.map λi=>(d,i)) xs xs=some b->ξ P (forIn l PUnit.unit λ(i:Nat) (_:PUnit)=>do
        let a <-sizeOf Θ
        let b <-part Θ vs (i*a)
        Instr.checkKey em 9999 Θ b
        pure (ForInStep.yield PUnit.unit)) G (λ_ G'=>K () G') E:=by
       intro l
       induction l with
       | nil=>intro b _;exact .forIn_nil ζ
       | cons i l ω=>
        intro b hb;simp only[List.map_cons,jK] at hb;split at hb<;>try cases hb
        rename_i x y u5 w9;split at hb<;>try cases hb
        rename_i bK c1 kN m3;refine .forIn_cons ?_;refine ξ.bind' (ξ.sizeOf Υ ?_);rw[cC];refine ξ.bind' (zk he μ (by rw[Nat.mul_one];exact TI _ _ u5) ?_);refine ξ.bind' (L6 (n:=9998) he μ ?_);exact ξ.pure' (ω c1 m3)
      obtain⟨b,hb⟩:=hb;exact ξ.mono (λ_ G' h=>ξ.pure' h) (λ_ _ h=>h) _ (key (List.range m) b hb)
   ·cases h
  ·cases h
 ·cases h
def u6 (S:aD) (B:aP) (σ:List Row) (es:List (θ×θ)) (cw:List MapEntry):Prop:=es.length=cw.length/\∀(i:Nat) (e:θ×θ) (y:MapEntry),es[i]?=some e->cw[i]?=some y->au S B σ e.1 y.key/\au S B σ e.2 y.val
theorem u6.tail {e:θ×θ} {es:List (θ×θ)} {y:MapEntry} {cw:List MapEntry} (h:u6 S B σ (e::es) (y::cw)):(au S B σ e.1 y.key/\au S B σ e.2 y.val)/\u6 S B σ es cw:=
 ⟨h.2 0 e y rfl rfl,⟨by simpa using h.1,λi aH lF I R=>h.2 (i+1) aH lF I R⟩⟩
theorem CF {kt:TypeId} {k:θ}:∀(es:List (θ×θ)) (n i:Nat) (a:θ),hF T kt k es n=some (some (i,a))->n<=i/\∃af,es[i-n]?=some (af,a)/\aeqv T kt k af=some true:=by
 intro es
 induction es with
 | nil=>intro n i a h;cases h
 | cons e es ω=>
  intro n i a h;unfold hF at h;split at h
  ·rename_i b hb;cases b with
   | true=>cases h;exact⟨Nat.le_refl _,e.1,η,hb⟩
   | false=>
    obtain⟨I,af,R,ν⟩:=ω (n+1) i a h;refine⟨γ,af,?_,ν⟩;have:i-n=(i-(n+1))+1:=γ;rw[this,List.getElem?_cons_succ];exact R
  ·cases h
def lG (cw:List MapEntry) (i0:Nat) (r:Option (Nat×θ)):Option (Nat×Value):=r.map λx=>(x.1,((cw[x.1-i0]?).map (·.val)).getD undef)
theorem TJ {d:TypeDesc} {x y:Value} {b:Bool} (h:mg d x y=some b):Instr.sameNow d x y=some b:=by
 unfold mg at h;split at h
 ·split at h
  ·rename_i e;subst e;cases h;simp[Instr.sameNow]
  ·cases h
 ·cases h;rfl
 ·cases h;rfl
 ·cases h
theorem TK (Η:bT P T) {kt:TypeId} {i:hR} (hi:T kt=some i) {k:θ} {v:Value} (ψ:au S B σ k v) (Μ:∃u,k=.z u):∀(es:List (θ×θ)) (cw:List MapEntry) (n:Nat) (r:Option (Nat×θ)),u6 S B σ es cw->hF T kt k es n=some r->
  Instr.findNow i.bE v cw n=some (lG cw n r):=by
 obtain⟨u,rfl⟩:=Μ;cases ψ;intro es
 induction es with
 | nil=>
  intro cw n r he h;have:cw=[]:=by have:=he.1;simpa using this.symm
  subst this;cases h;rfl
 | cons e es ω=>
  intro cw n r he h;cases cw with
  | nil=>have:=he.1;simp at this
  | cons y cw=>
   obtain⟨⟨I,R⟩,Ν⟩:=he.tail;unfold hF at h;split at h
   ·rename_i b hb;have hv:mg i.bE v y.key=some b:=by
     unfold aeqv at hb;rw[hi] at hb;simp only at hb;split at hb
     ·rename_i x lF Γ Θ;rw[Θ] at I;cases I;cases Γ;split at hb
      ·exact hb
      ·cases hb
     ·rename_i Γ _;cases Γ
     ·cases hb
    unfold Instr.findNow;rw[TJ hv];cases b with
    | true=>cases h;simp[lG]
    | false=>
     have:=ω cw (n+1) r Ν h;simp only[this];congr 1;unfold lG;cases r with
     | none=>rfl
     | some x=>
      simp only[Option.map_some];have U:n+1<=x.1:=(CF es (n+1) x.1 x.2 h).1;have:x.1-n=(x.1-(n+1))+1:=γ;rw[this,List.getElem?_cons_succ]
   ·cases h
theorem TM (Η:bT P T) {kt:TypeId} {k:θ} {v:Value} (ψ:au S B σ k v) {E:Value->π->Prop}:∀(es:List (θ×θ)) (cw:List MapEntry) (n:Nat) (r:Option (Nat×θ)) (K:Option (Nat×Value)->π->Prop),u6 S B σ es cw->hF T kt k es n=some r->
  K (lG cw n r) H->ξ P (Instr.findAsking kt v cw n) H K E:=by
 intro es
 induction es with
 | nil=>
  intro cw n r K he h ζ;have:cw=[]:=by have:=he.1;simpa using this.symm
  subst this;cases h;exact ξ.pure' ζ
 | cons e es ω=>
  intro cw n r K he h ζ;cases cw with
  | nil=>have:=he.1;simp at this
  | cons y cw=>
   obtain⟨⟨I,R⟩,Ν⟩:=he.tail;unfold hF at h;split at h
   ·rename_i b hb;unfold Instr.findAsking;refine ξ.bind' (Gu Η ψ I hb ?_);cases b with
    | true=>cases h;simp only[if_true];exact ξ.pure' (by simpa[lG] using ζ)
    | false=>
     simp only[Bool.false_eq_true,if_false];refine ω cw (n+1) r K Ν h ?_;have:lG (y::cw) n r=lG cw (n+1) r:=by
      unfold lG;cases r with
      | none=>rfl
      | some x=>
       simp only[Option.map_some];have U:n+1<=x.1:=(CF es (n+1) x.1 x.2 h).1;have:x.1-n=(x.1-(n+1))+1:=γ;rw[this,List.getElem?_cons_succ]
     rw[<-this];exact ζ
   ·cases h
theorem Gw (Η:bT P T) {kt:TypeId} {k:θ} {v:Value} (ψ:au S B σ k v) (nG:nF T kt k=true) {es:List (θ×θ)} {cw:List MapEntry} {r:Option (Nat×θ)} (he:u6 S B σ es cw) (h:hF T kt k es 0=some r) {K:Option (Nat×Value)->π->Prop} {E:Value->π->Prop} (ζ:K (lG cw 0 r) H) :
  ξ P (Instr.findKey kt v cw) H K E:=by
 unfold Instr.findKey;unfold nF at nG;split at nG
 ·rename_i i hi;refine ξ.bind' (Η.bE hi ?_);split at nG
  ·rw[TK Η hi ψ ⟨_,rfl⟩ es cw 0 r he h];exact ξ.pure' ζ
  ·rename_i xs;cases ψ with
   | a6 vs Ξ ah=>
    cases cw with
    | nil=>
     have:es=[]:=by have:=he.1;simpa using this
     subst this;cases h;exact ξ.pure' ζ
    | cons y cw=>
     have Ε:Instr.findNow i.bE (.agg vs) (y::cw) 0=none:=by
      unfold Instr.findNow;have:Instr.sameNow i.bE (.agg vs) y.key=none:=by unfold Instr.sameNow;cases i.bE<;>rfl
      rw[this]
     rw[Ε];exact TM Η (.a6 vs Ξ ah) es (y::cw) 0 r K he h ζ
  ·cases nG
 ·cases nG
def nH (σ:List Row) (id:Nat):Bool:=σ.all λr=>match r with|.iter m _ _=>m != id|_=>true
theorem TN {id:Nat} (h:nH σ id=true):∀(j:Nat) left cur,σ[j]?≠some (Row.iter id left cur):=λj left cur δ=>by
 have:=List.all_eq_true.1 h _ (cx δ);simp at this
def u7 (T:a9) (ty:TypeId):Option (TypeId×TypeId):=match T ty with
 | some i=>match i.bE with|.map k v=>some (k,v)|_=>none
 | none=>none
theorem CG {ty kt vt:TypeId} (h:u7 T ty=some (kt,vt)):∃i,T ty=some i/\i.bE=.map kt vt:=by
 unfold u7 at h;split at h
 ·rename_i i hi;split at h
  ·rename_i k v hu;cases h;exact⟨i,hi,hu⟩
  ·cases h
 ·cases h
def Gx (σ:List Row):cH:=.ok (.mp σ.length) (σ++[.map []])
theorem TO (χ:Holds S B σ H) (ty:TypeId):cD P (Instr.makeMap ty none) S B H σ (Gx σ):=by
 intro K ζ;unfold Instr.makeMap;refine ξ.bind' ?_;refine λr ι=>?_;have cT:∀b,(∀N,some (r,0)≠some (b,N))->ky H (H.aZ r (.map #[] 0)) b:=λb hb=>by
  have bC:b≠r:=λe=>by subst e;exact hb _ rfl
  exact⟨λo=>rfl,rfl,by simp[π.aZ,bC]⟩
 have bN:bQ S S B (B++[some (r,0)]) σ (σ++[.map []])->jH S (B++[some (r,0)]) (σ++[.map []]) (H.aZ r (.map #[] 0)) (.map []) (some (r,0)):=λ_=>
  ⟨r,0,#[],0,rfl,by simp[π.aZ],rfl,λi e y I=>by simp at I,λi j y z I=>by simp at I⟩
 obtain⟨I,R,ν⟩:=χ.push (λb N e=>by cases e;exact ι) cT bN;exact ξ.pure' ⟨_,_,_,_,ζ,R,I,ν,.mp (es:=[]) (N:=0) (Cu σ _) (Cv χ.len _)⟩
def CH (T:a9) (ty:TypeId) (ok:Bool) (σ:List Row) (mp k:θ):cH:=match u7 T ty,mp with
 | some (kt,vt),.mp id=>match σ[id]?,T vt with
  | some (.map es),some Gy=>if nF T kt k=true then match hF T kt k es 0 with
   | some (some (_,a))=>.ok (if ok then .a3 [a,.z (.bool true)] else a) σ
   | some none=>.ok (if ok then .a3 [ho Gy.zero,.z (.bool false)] else ho Gy.zero) σ
   | none=>.bad else .bad
  | _,_=>.bad
 | _,_=>.bad
theorem zl (χ:Holds S B σ H) {id b N:Nat} {es:List (θ×θ)} (hm:σ[id]?=some (.map es)) (hb:B[id]?=some (some (b,N))):∃xs clock,H.obj b=some (.map xs clock)/\rS S B σ es xs clock:=by
 obtain⟨Ψ,e2,xs,clock,e,I,R⟩:=χ.row id _ _ hm hb;cases e;exact⟨xs,clock,I,R⟩
theorem rS.xc {es:List (θ×θ)} {xs:Array MapEntry} {clock:Nat} (h:rS S B σ es xs clock):u6 S B σ es xs.toList:=
 ⟨by simpa using h.1,λi e y I R=>by rw[Array.getElem?_toList] at R;obtain⟨a,b,_⟩:=h.2.1 i e y I R;exact⟨a,b⟩⟩
theorem TP (Η:bT P T) (χ:Holds S B σ H) {ty:TypeId} {ok:Bool} {mp k:θ} {u v:Value} (hm:au S B σ mp u) (ψ:au S B σ k v):cD P (Instr.lookup ty u v ok) S B H σ (CH T ty ok σ mp k):=by
 unfold CH;split
 ·rename_i kt vt id u9;obtain⟨i,hi,hu⟩:=CG u9;split
  ·rename_i es Gy bN TQ;split
   ·rename_i nG;cases hm with
    | mp I R=>
     rename_i b N;rw[bN] at I;cases I;obtain⟨xs,clock,m4,hq⟩:=zl χ bN R;have go:∀(r:Option (Nat×θ)) (res:cH),hF T kt k es 0=some r->(∀(K:θ->List Row->Prop),res.holds K->∃(x:θ) (y:Value),True/\ξ P (do
       let (v,TR) <-match lG xs.toList 0 r with
        | some (_,v)=>pure (v,true)
        | none=>do pure (<-zeroValue vt,false)
       pure (if ok then .tuple #[v,.bool TR] else v)) H (iz S B H σ K) (λ_ _=>False))->cD P (Instr.lookup ty (.map (some b)) v ok) S B H σ res:=λr res Υ e5 K ζ=>by
      unfold Instr.lookup;refine ξ.bind' (Η.bE hi ?_);rw[hu];refine ξ.bind' ?_;refine⟨_,m4,rfl,?_⟩;refine ξ.bind' (ξ.pure' ?_);refine ξ.bind' (Gv Η ψ nG ?_);refine ξ.bind' (Gw Η ψ nG hq.xc Υ ?_);obtain⟨_,_,_,h⟩:=e5 K ζ;cases Α:lG xs.toList 0 r with
      | none=>rw[Α] at h;exact h
      | some p=>rw[Α] at h;exact h
     split
     ·rename_i bY a Υ;refine go _ _ Υ λK ζ=>⟨a,undef,trivial,?_⟩;obtain⟨_,af,he,_⟩:=CF es 0 bY a Υ;have aI:bY<xs.size:=by have:=(bV.1 he).1;rw[<-hq.1];simpa using this
      have Φ:xs[bY]?=some xs[bY]:=gF aI;obtain⟨_,ι,_⟩:=hq.2.1 bY _ _ (by simpa using he) Φ;have Α:lG xs.toList 0 (some (bY,a))=some (bY,xs[bY].val):=by simp[lG,aI]
      rw[Α];refine ξ.bind' (ξ.pure' (ξ.pure' ?_));cases ok with
      | true=>exact .same χ ζ (wU ι (.z _))
      | false=>exact .same χ ζ ι
     ·rename_i Υ;refine go _ _ Υ λK ζ=>⟨.cg,undef,trivial,?_⟩;refine ξ.bind' (Η.zero TQ ?_);refine ξ.bind' (ξ.pure' (ξ.pure' ?_));cases ok with
      | true=>exact .same χ ζ (wU (pC _) (.z _))
      | false=>exact .same χ ζ (pC _)
     ·exact .bad
    | lA v I=>rw[bN] at I;cases I
   ·exact .bad
  ·exact .bad
 ·exact .bad
def zm (T:a9) (ty:TypeId) (σ:List Row) (mp k x:θ):cH:=match u7 T ty,mp with
 | some (kt,_),.mp id=>match σ[id]? with
  | some (.map es)=>if nF T kt k=true/\nH σ id=true then match hF T kt k es 0 with
   | some (some (i,_))=>.ok .cg (σ.set id (.map (es.set i (k,x))))
   | some none=>.ok .cg (σ.set id (.map (es++[(k,x)])))
   | none=>.bad else .bad
  | _=>.bad
 | _,_=>.bad
theorem Gz (χ:Holds S B σ H) {id b N:Nat} {es es':List (θ×θ)} {xs':Array MapEntry} {clock':Nat} (bN:σ[id]?=some (.map es)) (hb:B[id]?=some (some (b,N))) (kK:nH σ id=true) (ei:∀{B':aP} {σ':List Row},bQ S S B B' σ σ'->rS S B' σ' es' xs' clock') :
  Holds S (B.set id (some (b,N))) (σ.set id (.map es')) (H.aZ b (.map xs' clock'))/\Ext S B H S (B.set id (some (b,N))) (H.aZ b (.map xs' clock'))/\bQ S S B (B.set id (some (b,N))) σ (σ.set id (.map es')):=
 χ.wR bN trivial hb (.inl ⟨es',rfl,rfl⟩) (λΨ e2 e=>.inl ⟨e2,e⟩) (λΨ I _=>by
  have bC:Ψ≠b:=λe=>by subst e;exact I N rfl
  exact⟨λo=>rfl,rfl,by simp[π.aZ,bC]⟩) π.FW (TN kK) λυ=>⟨b,N,xs',clock',rfl,by simp[π.aZ],ei υ⟩
theorem L7 (Η:bT P T) (χ:Holds S B σ H) {ty:TypeId} {mp k x:θ} {u v w:Value} (hm:au S B σ mp u) (ψ:au S B σ k v) (U:au S B σ x w):wV P (Instr.mapUpdate ty u v w) S B H σ (zm T ty σ mp k x):=by
 unfold zm;split
 ·rename_i kt vt id u9;obtain⟨i,hi,hu⟩:=CG u9;split
  ·rename_i es bN;split
   ·rename_i tn;obtain⟨nG,kK⟩:=tn;cases hm with
    | mp I R=>
     rename_i b N;rw[bN] at I;cases I;obtain⟨xs,clock,m4,hq⟩:=zl χ bN R;split
     ·rename_i bY a Υ;obtain⟨_,af,he,heq⟩:=CF es 0 bY a Υ;simp only[Nat.sub_zero] at he;have j2:bY<es.length:=(bV.1 he).1;have aI:bY<xs.size:=by rw[<-hq.1];exact j2
      have Φ:xs[bY]?=some xs[bY]:=gF aI;obtain⟨TS,fδ,xd⟩:=hq.2.1 bY _ _ he Φ;obtain⟨Γ,Θ,bO⟩:=TF Η ψ TS heq;intro K ζ;unfold Instr.mapUpdate;refine ξ.bind' (Η.bE hi ?_);rw[hu];refine ξ.bind' ⟨_,m4,rfl,ξ.pure' ?_⟩;refine ξ.bind' (Gv Η ψ nG ?_);refine ξ.bind' (Gw Η ψ nG hq.xc Υ ?_);have Α:lG xs.toList 0 (some (bY,a))=some (bY,xs[bY].val):=by simp[lG,aI]
      rw[Α];simp only[Φ,Option.map_some,Option.getD_some];unfold Instr.keyThatStays;rw[<-Γ];simp only[bO,if_true];refine ξ.bind' (ξ.pure' ?_);obtain⟨dD,p2,p3⟩:=Gz χ (es':=es.set bY (k,x)) (xs':=xs.modify bY λe=>{e with key:=v,val:=w}) (clock':=clock) bN R kK λ{B' σ'} υ=>by
       refine⟨by simp[hq.1],λj e y Ξ ah=>?_,λj bI y z Ξ ah GA=>?_⟩
       ·rw[Array.getElem?_modify] at ah;by_cases kP:bY=j
        ·subst kP;rw[List.getElem?_set_self j2] at Ξ;rw[if_pos rfl,Φ] at ah;cases Ξ;cases ah;exact⟨ψ.later υ,U.later υ,xd⟩
        ·rw[List.getElem?_set_ne kP] at Ξ;rw[if_neg kP] at ah;obtain⟨c1,c2,c3⟩:=hq.2.1 j e y Ξ ah;exact⟨c1.later υ,c2.later υ,c3⟩
       ·have born:∀(j:Nat) (y:MapEntry),(xs.modify bY λe=>{e with key:=v,val:=w})[j]?=some y->∃CI,xs[j]?=some CI/\y.born=CI.born:=λj y g=>by
         rw[Array.getElem?_modify] at g;by_cases kP:bY=j
         ·subst kP;rw[if_pos rfl,Φ] at g;cases g;exact⟨_,Φ,rfl⟩
         ·rw[if_neg kP] at g;exact⟨y,g,rfl⟩
        obtain⟨CI,c1,c2⟩:=born j y Ξ;obtain⟨hE,c3,c4⟩:=born bI z ah;rw[c2,c4];exact hq.2.2 j bI CI hE c1 c3 GA
      exact⟨⟨_,m4⟩,rfl,rfl,ξ.pure' ⟨S,_,_,_,ζ,p2,dD,p3,.cg _⟩⟩
     ·rename_i Υ;intro K ζ;unfold Instr.mapUpdate;refine ξ.bind' (Η.bE hi ?_);rw[hu];refine ξ.bind' ⟨_,m4,rfl,ξ.pure' ?_⟩;refine ξ.bind' (Gv Η ψ nG ?_);refine ξ.bind' (Gw Η ψ nG hq.xc Υ ?_);simp only[lG,Option.map_none];obtain⟨dD,p2,p3⟩:=Gz χ (es':=es++[(k,x)]) (xs':=xs.push {key:=v,val:=w,born:=clock}) (clock':=clock+1) bN R kK λ{B' σ'} υ=>by
       refine⟨by simp[hq.1],λj e y Ξ ah=>?_,λj bI y z Ξ ah GA=>?_⟩
       ·by_cases δ:j<es.length
        ·rw[dv δ] at Ξ;rw[Array.getElem?_push,if_neg (by rw[<-hq.1];omega)] at ah;obtain⟨c1,c2,c3⟩:=hq.2.1 j e y Ξ ah;exact⟨c1.later υ,c2.later υ,γ⟩
        ·rw[h4 γ] at Ξ;have fy:j=es.length:=by
          have:=(bV.1 Ξ).1;simp at this;omega
         subst fy;rw[Array.getElem?_push,if_pos hq.1] at ah;simp at Ξ;subst Ξ;cases ah;exact⟨ψ.later υ,U.later υ,Nat.lt_succ_self _⟩
       ·rw[Array.getElem?_push] at Ξ ah;split at Ξ
        ·rename_i Γ;split at ah
         ·omega
         ·have:=(Array.getElem?_eq_some_iff.1 ah).1;omega
        ·split at ah
         ·cases ah;have δ:=(Array.getElem?_eq_some_iff.1 Ξ).1;have he:∃e,es[j]?=some e:=⟨_,ba (by rw[hq.1];exact δ)⟩;obtain⟨e,he⟩:=he;exact(hq.2.1 j e y he Ξ).2.2
         ·exact hq.2.2 j bI y z Ξ ah GA
      exact⟨⟨_,m4⟩,rfl,rfl,ξ.pure' ⟨S,_,_,_,ζ,p2,dD,p3,.cg _⟩⟩
     ·exact .bad
    | lA v I=>rw[bN] at I;cases I
   ·exact .bad
  ·exact .bad
 ·exact .bad
end
section
variable {P:Program} {T:a9} {S:aD} {B:aP} {H:π} {σ:List Row}
def CJ (T:a9) (ty:TypeId) (σ:List Row) (mp:θ):cH:=match u7 T ty,mp with
 | some _,.mp id=>match σ[id]? with
  | some (.map es)=>.ok (.it σ.length) (σ++[.iter id es none])
  | _=>.bad
 | _,_=>.bad
theorem TT (Η:bT P T) (χ:Holds S B σ H) {ty:TypeId} {mp:θ} {u:Value} (hm:au S B σ mp u):cD P (Instr.range ty u) S B H σ (CJ T ty σ mp):=by
 unfold CJ;split
 ·rename_i zn id u9;obtain⟨i,hi,hu⟩:=CG (kt:=zn.1) (vt:=zn.2) u9;split
  ·rename_i es bN;cases hm with
   | mp I R=>
    rename_i b N;rw[bN] at I;cases I;obtain⟨xs,clock,m4,hq⟩:=zl χ bN R;intro K ζ;unfold Instr.range;refine ξ.bind' (Η.bE hi ?_);rw[hu];refine ξ.bind' ?_;refine⟨_,m4,rfl,?_⟩;refine ξ.bind' (ξ.pure' ?_);refine ξ.bind' ?_;refine λr ι=>?_;have bC:b≠r:=λe=>by subst e;rw[ι.2.2.1] at m4;cases m4
    have b7:id<σ.length:=(bV.1 bN).1
    have cT:∀Ψ,(∀N,some (r,0)≠some (Ψ,N))->ky H (H.aZ r (.mapIter (some b) clock #[] clock)) Ψ:=λΨ hb=>by
     have bC:Ψ≠r:=λe=>by subst e;exact hb _ rfl
     exact⟨λo=>rfl,rfl,by simp[π.aZ,bC]⟩
    have yW:bQ S S B (B++[some (r,0)]) σ (σ++[.iter id es none])->jH S (B++[some (r,0)]) (σ++[.iter id es none]) (H.aZ r (.mapIter (some b) clock #[] clock)) (.iter id es none) (some (r,0)):=λυ=>by
     refine⟨r,0,b,N,xs,clock,#[],rfl,by rw[dv (by rw[χ.len];exact b7)];exact R,⟨es,by rw[dv b7];exact bN⟩,by simp[π.aZ],by simp[π.aZ,bC,m4],⟨xs.toList,?_,by simpa using hq.1,λi e y Ξ ah=>?_⟩,λy Φ=>?_,λe he=>by cases he⟩
     ·exact(List.filter_eq_self.2 λe _=>η).symm
     ·obtain⟨c1,c2⟩:=hq.xc.2 i e y Ξ ah;exact⟨c1.later υ,c2.later υ⟩
     ·obtain⟨j,δ,rfl⟩:=Array.getElem_of_mem Φ;have he:∃e,es[j]?=some e:=⟨_,ba (by rw[hq.1];exact δ)⟩;obtain⟨e,he⟩:=he;exact(hq.2.1 j e _ he (gF δ)).2.2
    obtain⟨dD,p2,p3⟩:=χ.push (λΨ e2 e=>by cases e;exact ι) cT yW;exact ξ.pure' ⟨_,_,_,_,ζ,p2,dD,p3,.it (Cu σ _) (Cv χ.len _)⟩
   | lA v I=>rw[bN] at I;cases I
  ·exact .bad
 ·exact .bad
theorem TU {α:Type} (f:α->Nat):∀(l:List α) (i:Nat) (e:α),(l.map f).Nodup->l[i]?=some e->l.filter (λx=>f x != f e)=l.eraseIdx i:=by
 intro l
 induction l with
 | nil=>intro i e _ h;simp at h
 | cons a l ω=>
  intro i e Ε h;simp only[List.map_cons,List.nodup_cons] at Ε;cases i with
  | zero=>
   simp at h;subst h;rw[List.filter_cons];simp only[bne_self_eq_false,Bool.false_eq_true,if_false,List.eraseIdx_cons_zero];rw[List.filter_eq_self];intro x U;simp only[bne_iff_ne,ne_eq];intro e;exact Ε.1 (e▸List.mem_map_of_mem U)
  | succ i=>
   simp only[List.getElem?_cons_succ] at h;have bC:f a≠f e:=λx=>Ε.1 (x▸List.mem_map_of_mem (cx h));rw[List.filter_cons];simp only[bne_iff_ne,ne_eq,bC,not_false_eq_true,if_true,List.eraseIdx_cons_succ];rw[ω i e Ε.2 h]
theorem TV {es:List (θ×θ)} {xs:Array MapEntry} {clock:Nat} (h:rS S B σ es xs clock):(xs.toList.map (·.born)).Nodup:=by
 rw[List.Nodup,List.pairwise_map,List.pairwise_iff_getElem];intro i j hi δ aI;have:=h.2.2 i j _ _ (gF (by simpa using hi)) (gF (by simpa using δ)) aI;simp only[Array.getElem_toList];omega
def CK (σ:List Row) (it:θ):cH:=match it with
 | .it id=>match σ[id]? with
  | some (.iter m left _)=>if left.isEmpty=true then .ok (.a3 [.z (.bool false)]) σ else
    .all left.length λi=>match left[i]? with
     | some e=>.ok (.a3 [.z (.bool true),e.1,e.2]) (σ.set id (.iter m (left.eraseIdx i) (some e)))
     | none=>.bad
  | _=>.bad
 | _=>.bad
theorem TW {a b c:θ} {u v w:Value} (I:au S B σ a u) (R:au S B σ b v) (ν:au S B σ c w):au S B σ (.a3 [a,b,c]) (.tuple #[u,v,w]):=by
 refine .a3 _ rfl λi bP fc Ξ ah=>?_
 match i with
 | 0=>simp at Ξ ah;subst Ξ;subst ah;exact I
 | 1=>simp at Ξ ah;subst Ξ;subst ah;exact R
 | 2=>simp at Ξ ah;subst Ξ;subst ah;exact ν
 | i+3=>simp at Ξ
theorem TX (χ:Holds S B σ H) {it:θ} {u:Value} (ty:TypeId) (hi:au S B σ it u):cD P (Instr.next u false ty) S B H σ (CK σ it):=by
 unfold CK;split
 ·rename_i id;split
  ·rename_i m left cur bN;cases hi with
   | it I R=>
    rename_i F0 F1 b1 b N;rw[bN] at I;cases I;obtain⟨Ψ,e2,aU,kx,xs,clock,seen,cW,rU,⟨es,qZ⟩,zo,u',⟨cw,GB,hlen,GC⟩,xd,CL⟩:=χ.row id _ _ bN R;cases cW;obtain⟨xs',clock',L8,hq⟩:=zl χ qZ rU;rw[u'] at L8;cases L8;have kR:=TV hq;have bC:aU≠b:=λe=>by subst e;rw[zo] at u';cases u'
    intro K ζ;have TY:(xs.filter λe=>!seen.contains e.born).toList=cw:=by rw[GB];simp
    have lp:(!seen.isEmpty&&!xs.isEmpty&&xs.all (λe=>decide (e.born>=clock)))=false:=by
     cases U:xs.isEmpty with
     | true=>simp
     | false=>
      have pG:0<xs.size:=by
       rw[Array.isEmpty_eq_false_iff] at U;exact Array.size_pos_iff.2 U
      have ao:xs.all (λe=>decide (e.born>=clock))=false:=by
       rw[Array.all_eq_false];refine⟨0,pG,?_⟩;have:=xd xs[0] (Array.getElem_mem pG);simp;exact this
      rw[ao];simp
    have TZ:∀z:Array MapEntry,z=xs.filter (λe=>!seen.contains e.born)->z.filter (λe=>decide (e.born<clock))=z/\z.filter (λe=>decide (e.born>=clock))=#[]:=λz Μ=>by
     have hb:∀e∈z,e.born<clock:=λe he=>by rw[Μ] at he;exact xd e (Array.mem_of_mem_filter he)
     constructor
     ·rw[Array.filter_eq_self];intro e he;simpa using hb e he
     ·rw[Array.filter_eq_empty_iff];intro e he;simpa using hb e he
    unfold Instr.next;refine ξ.bind' ?_;refine⟨_,zo,rfl,?_⟩;refine ξ.pure' ?_;simp only;refine ξ.bind' ?_;refine⟨_,u',rfl,?_⟩;refine ξ.pure' ?_;simp only[lp,Bool.false_eq_true,if_false];generalize Μ:xs.filter (λe=>!seen.contains e.born)=z;obtain⟨f1,f2⟩:=TZ z Μ.symm;rw[f1,f2];have m5:z.toList=cw:=by rw[<-Μ];exact TY
    by_cases CM:left.isEmpty=true
    ·have w7:left=[]:=List.isEmpty_iff.1 CM;subst w7;have T0:z=#[]:=by
      have:cw=[]:=dB.1 (by rw[<-hlen];rfl);rw[this] at m5;exact Array.toList_eq_nil_iff.1 m5
     subst T0;have cW:((if(#[]:Array MapEntry).isEmpty=true then #[none] else #[])++Array.map some (#[]++#[]:Array MapEntry))=#[none]:=η;rw[cW];refine ξ.bind' ?_;show ξ P (choose (.mapNext 1)) H _ _;unfold choose;simp only[ξ,Question.forced,Nat.le_refl,decide_true,if_true];exact ξ.pure' (.same χ ζ (.a3 _ rfl λi a v Ξ ah=>by
      match i with
      | 0=>simp at Ξ ah;subst Ξ;subst ah;exact .z _
      | i+1=>simp at Ξ))
    ·rw[if_neg CM] at ζ;have qV:z.size=left.length:=by rw[hlen,<-m5];simp
     have T1:z.isEmpty=false:=by
      rw[Array.isEmpty_eq_false_iff];intro e;rw[e] at qV;exact CM (List.isEmpty_iff.2 (dB.1 qV.symm))
     simp only[T1,Bool.false_eq_true,if_false,Array.append_empty,Array.empty_append];refine ξ.bind' ?_;have fin:∀i,i<left.length->ξ P (match (z.map some)[i]? with
       | some (some e)=>do
        setObj b (.mapIter (some aU) clock (seen.push e.born) clock)
        pure (.tuple #[.bool true,e.key,e.val])
       | some none=>pure (.tuple #[.bool false])
       | none=>stuck "Next: no such candidate") H (iz S B H σ K) (λ_ _=>False):=λi j2=>by
      have zp:∃pL,z[i]?=some pL:=⟨_,gF γ⟩;obtain⟨pL,zp⟩:=zp;have L9:cw[i]?=some pL:=by rw[<-m5,Array.getElem?_toList];exact zp
      have hD:∃e,left[i]?=some e:=⟨_,ba j2⟩;obtain⟨le,hD⟩:=hD;rw[Array.getElem?_map,zp];simp only[Option.map_some];have L':=ζ i j2;simp only[hD] at L';obtain⟨r1,r2⟩:=GC i _ _ hD L9;have xe:pL∈xs:=by
       have:pL∈z:=Array.mem_of_getElem? zp;rw[<-Μ] at this;exact Array.mem_of_mem_filter this
      have b7:id<σ.length:=(bV.1 bN).1
      have oF:id<B.length:=by rw[χ.len];exact b7
      have Ma:id≠m:=λe=>by subst e;rw[bN] at qZ;cases qZ
      obtain⟨dD,p2,p3⟩:=χ.wR (H':=H.aZ b (.mapIter (some aU) clock (seen.push pL.born) clock)) (r':=.iter m (left.eraseIdx i) (some le)) (bo':=some (b,N)) bN trivial R (.inl ⟨_,_,rfl,rfl⟩) (λΨ e2 e=>.inl ⟨e2,e⟩) (λΨ Ξ _=>by
       have bC:Ψ≠b:=λe=>by subst e;exact Ξ N rfl
       exact⟨λo=>rfl,rfl,by simp[π.aZ,bC]⟩) π.FW (λj l c δ=>by
       obtain⟨bo,ek⟩:=Lv χ δ;obtain⟨_,_,_,_,_,_,_,_,_,⟨nx,Mb⟩,_⟩:=χ.row j _ bo δ ek;rw[bN] at Mb;cases Mb) (λυ=>by
       refine⟨b,N,aU,kx,xs,clock,seen.push pL.born,rfl,by rw[List.getElem?_set_ne Ma];exact rU,⟨es,by rw[List.getElem?_set_ne Ma];exact qZ⟩,by simp[π.aZ],by simp[π.aZ,bC,u'],⟨cw.eraseIdx i,?_,by rw[List.length_eraseIdx,List.length_eraseIdx,hlen],λj e y Ξ ah=>?_⟩,xd,λe he=>?_⟩
       ·have j1:(cw.map (·.born)).Nodup:=by
         rw[GB];exact kR.sublist (List.filter_sublist.map _)
        rw[<-TU (·.born) cw i pL j1 L9,GB,List.filter_filter];apply List.filter_congr;intro e _;rw[Array.contains_push,Bool.not_or,Bool.and_comm];congr 1
       ·rw[List.getElem?_eraseIdx] at Ξ ah;split at Ξ
        ·rename_i aI;rw[if_pos aI] at ah;obtain⟨c1,c2⟩:=GC j e y Ξ ah;exact⟨c1.later υ,c2.later υ⟩
        ·rename_i aI;rw[if_neg aI] at ah;obtain⟨c1,c2⟩:=GC (j+1) e y Ξ ah;exact⟨c1.later υ,c2.later υ⟩
       ·cases he;refine⟨pL.born,pL,η,?_,r1.later υ,r2.later υ⟩;rw[<-Array.find?_toList];obtain⟨q,Χ⟩:=List.getElem?_of_mem (show pL∈xs.toList by simpa using xe);have key:∀(l:List MapEntry) (q:Nat) (e:MapEntry),(l.map (·.born)).Nodup->l[q]?=some e->l.find? (·.born==e.born)=some e:=by
         intro l
         induction l with
         | nil=>intro q e _ h;simp at h
         | cons a l ω=>
          intro q e Ε h;simp only[List.map_cons,List.nodup_cons] at Ε;rw[List.find?_cons];cases q with
          | zero=>simp at h;subst h;simp
          | succ q=>
           simp only[List.getElem?_cons_succ] at h;have:(a.born==e.born)=false:=by
            simp only[beq_eq_false_iff_ne,ne_eq];intro x;exact Ε.1 (x▸List.mem_map_of_mem (cx h))
           rw[this];exact ω q e Ε.2 h
        exact key xs.toList q _ kR Χ)
      refine ξ.bind' ?_;refine⟨⟨_,zo⟩,rfl,rfl,?_⟩;refine ξ.pure' ?_;exact ξ.pure' ⟨S,_,_,_,L',p2,dD,p3,TW (.z _) (r1.later p3) (r2.later p3)⟩
     have cC:(z.map some).size=left.length:=by simp[qV]
     show ξ P (choose (.mapNext (z.map some).size)) H _ _;unfold choose;simp only[ξ];have pG:0<left.length:=List.length_pos_iff.2 λe=>CM (List.isEmpty_iff.2 e);split
     ·exact fin 0 pG
     ·intro n;refine fin _ ?_;simp only[Question.cut,cC];exact Nat.mod_lt _ pG
   | m0 v I=>rw[bN] at I;cases I
  ·exact .bad
 ·exact .bad
def CN (σ:List Row) (it:θ):cH:=match it with
 | .it id=>match σ[id]? with
  | some (.iter _ _ (some e))=>.ok (.a3 [e.1,e.2]) σ
  | _=>.bad
 | _=>.bad
theorem T2 (χ:Holds S B σ H) {it:θ} {u:Value} (hi:au S B σ it u):cD P (Instr.entry u) S B H σ (CN σ it):=by
 unfold CN;split
 ·rename_i id;split
  ·rename_i m left e bN;cases hi with
   | it I R=>
    rename_i F0 F1 b1 b N;rw[bN] at I;cases I;obtain⟨Ψ,e2,aU,kx,xs,clock,seen,cW,rU,qZ,zo,u',_,xd,CL⟩:=χ.row id _ _ bN R;cases cW;obtain⟨F3,y,Ξ,ah,aR,ca⟩:=CL e rfl;intro K ζ;unfold Instr.entry;refine ξ.bind' ?_;refine⟨_,zo,rfl,?_⟩;refine ξ.pure' ?_;simp only[Ξ];refine ξ.bind' ?_;refine⟨_,u',rfl,?_⟩;refine ξ.pure' ?_;simp only[bne_self_eq_false,Bool.false_eq_true,if_false,ah];exact ξ.pure' (.same χ ζ (wU aR ca))
   | m0 v I=>rw[bN] at I;cases I
  ·exact .bad
 ·exact .bad
@[simp] def GD:Value->Option θ
 | .int k z=>some (.z (.int k z))
 | .slice none 0 0=>some (.sl true 0 [])
 | _=>none
theorem T3 {zq:Value} {oL:θ} (h:GD zq=some oL):zq.cells=#[zq]/\oL.cells=[oL]/\(∀S B σ,au S B σ oL zq)/\One zq:=by
 unfold GD at h;split at h
 ·cases h;exact⟨rfl,rfl,λ_ _ _=>.z _,trivial⟩
 ·cases h;exact⟨rfl,rfl,λ_ _ _=>.ix _ _ (λ_=>rfl),trivial⟩
 ·cases h
def CO (T:a9) (ty:TypeId) (σ:List Row) (x:θ):cH:=match x with
 | .ms id n i len=>match T ty,σ[id]? with
  | some kM,some (.cells t k l)=>match kM.bE with
   | .slice e=>match T e with
    | some bU=>match GD bU.zero with
     | some oL=>if l.length=n/\k=1/\i+len<=n/\(∀a∈l,a.cells.length=1) then .ok .cg (σ.set id (.cells t k (l.take i++List.replicate len oL++l.drop (i+len)))) else .bad
     | none=>.bad
    | none=>.bad
   | _=>.bad
  | _,_=>.bad
 | _=>.bad
theorem T4 (Η:bT P T) (χ:Holds S B σ H) {ty:TypeId} (rt:TypeId) {x:θ} {u:Value} (hm:au S B σ x u):cD P (Builtin.clear_ #[ty] rt #[u]) S B H σ (CO T ty σ x):=by
 unfold CO;split
 ·rename_i id n i len;split
  ·rename_i kM t k l GF υ;split
   ·rename_i e hu;split
    ·rename_i bU ec;split
     ·rename_i oL Μ;obtain⟨uQ,pq,yP,CP⟩:=T3 Μ;split
      ·rename_i ε;obtain⟨Ε,rfl,a4,_⟩:=ε;have b7:id<σ.length:=(bV.1 υ).1;have oF:id<B.length:=by rw[χ.len];exact b7
       intro K ζ;have same:len=0->iz S B H σ K (.tuple #[]) H:=λcW=>by
        subst cW;have tp:σ.set id (.cells t 1 (l.take i++List.replicate 0 oL++l.drop (i+0)))=σ:=by
         rw[List.replicate_zero,List.append_nil,Nat.add_zero,List.take_append_drop];apply List.ext_getElem?;intro j;by_cases kP:id=j
         ·subst kP;rw[List.getElem?_set_self b7,υ]
         ·rw[List.getElem?_set_ne kP]
        simp only[cH.holds] at ζ;rw[tp] at ζ;exact⟨S,B,σ,_,ζ,.refl _ _ _,χ,.refl _ _ _,.cg _⟩
       cases hm with
       | iY v I R=>rw[υ] at I;cases I;simp only[Row.g1] at R;omega
       | ms cap I R ν Ι aB bn=>
        rename_i bo base;rw[υ] at I;cases I;unfold Builtin.clear_;refine ξ.bind' (Η.bE GF ?_);rw[hu];cases base with
        | none=>
         refine ξ.bind' (ξ.pure' ?_);have cW:len=0:=by
          rcases bn with bn|⟨b,N,_,hb,_⟩
          ·omega
          ·cases hb
         exact ξ.pure' (same cW)
        | some a=>
         by_cases cW:len=0
         ·subst cW;refine ξ.bind' (ξ.pure' ?_);exact ξ.pure' (same rfl)
         ·rcases bn with bn|⟨b,N,rfl,hb,bn⟩
          ·omega
          ·cases hb;obtain⟨bN,c5,fU,w,hw⟩:=χ.row id _ _ υ ν;obtain⟨m,rfl⟩:∃m,len=m+1:=⟨len-1,γ⟩;simp only;refine ξ.bind' (Η.zero ec ?_);have T5:(Builtin.zeroCells bU.zero.cells (m+1)).toList=List.replicate (m+1) bU.zero:=by
            simp only[Builtin.zeroCells,uQ];rw[Array.toList_map,Array.toList_range];refine List.ext_getElem? λj=>?_;rw[List.getElem?_map,List.getElem?_replicate];by_cases δ:j<m+1
            ·rw[List.getElem?_range (by simpa using δ),if_pos δ];simp[Nat.mod_one]
            ·rw[List.getElem?_eq_none (by simp;omega),if_neg δ];rfl
           rw[T5];have ig:∀(y:Nat) (c:θ),(l.take i++List.replicate (m+1) oL++l.drop (i+(m+1)))[y]?=some c->(i<=y/\y<i+(m+1)/\c=oL)\/((y<i\/i+(m+1)<=y)/\l[y]?=some c):=λy c Φ=>by
            by_cases c1:y<i
            ·rw[List.append_assoc,dv (by simp;omega),List.getElem?_take_of_lt c1] at Φ;exact .inr ⟨.inl c1,Φ⟩
            ·by_cases c2:y<i+(m+1)
             ·rw[dv (by simp;omega),h4 (by simp;omega),List.getElem?_replicate] at Φ;split at Φ
              ·cases Φ;exact .inl ⟨γ,c2,rfl⟩
              ·cases Φ
             ·rw[h4 (by simp;omega),List.getElem?_drop] at Φ;have Γ:i+(m+1)+(y-(l.take i++List.replicate (m+1) oL).length)=y:=by simp;omega
              rw[Γ] at Φ;exact .inr ⟨.inr γ,Φ⟩
           obtain⟨dD,p2,p3⟩:=χ.wR (H':=H.hn b i (List.replicate (m+1) bU.zero)) (r':=.cells t 1 (l.take i++List.replicate (m+1) oL++l.drop (i+(m+1)))) (bo':=some (b,N)) υ trivial ν (.inl ⟨_,rfl,by simp;omega,rfl⟩) (λΨ e2 aH=>.inl ⟨e2,aH⟩)
            (λΨ I _=>by
             have bC:Ψ≠b:=λaH=>by subst aH;exact I N rfl
             exact⟨λo=>by simp[π.hn,bC],rfl,rfl⟩) π.F5 (Cf χ υ) (λkF=>by
             refine⟨bN,by simp;omega,λo Α=>?_,λy j=>if i<=y/\y<i+(m+1) then bU.zero else w y j,λy c Φ=>?_⟩
             ·simp only[π.hn];split
              ·exact⟨_,rfl⟩
              ·exact fU o Α
             ·rcases ig y c Φ with⟨c1,c2,rfl⟩|⟨c1,uI⟩
              ·refine⟨by rw[pq];rfl,λj a δ=>?_⟩;rw[pq] at δ;have fy:j=0:=by have:=(bV.1 δ).1;simp at this;omega
               subst fy;simp at δ;subst δ;simp only[c1,c2,and_self,if_true];refine⟨?_,yP _ _ _,CP⟩;simp only[π.hn,List.length_replicate];rw[if_pos ⟨trivial,γ,γ⟩,List.getElem?_replicate,if_pos γ];rfl
              ·refine⟨(hw y c uI).1,λj a δ=>?_⟩;obtain⟨Ξ,ah,aR⟩:=(hw y c uI).2 j a δ;have fy:j=0:=by have:=(bV.1 δ).1;rw[(hw y c uI).1] at this;omega
               subst fy;have CQ:¬(i<=y/\y<i+(m+1)):=γ;simp only[CQ,if_false];refine⟨?_,ah.later kF,aR⟩;simp only[π.hn,List.length_replicate];rw[if_neg γ];exact Ξ)
           have κ:(⟨b,i*1,none⟩:Addr)=⟨b,i,none⟩:=by rw[Nat.mul_one]
           rw[κ];refine ξ.bind' ?_;refine ξ.storeCells (G:=H) rfl ⟨t,N,bN⟩ _ 0 H (λv hv=>by rw[List.eq_of_mem_replicate hv];trivial) (λj _ δ=>?_) rfl ?_
           ·rw[List.length_replicate] at δ;obtain⟨dM,xb⟩:=fU (i+j) γ;exact⟨dM,xb⟩
           ·exact ξ.pure' ⟨S,_,_,_,ζ,p2,dD,p3,.cg _⟩
      ·exact .bad
     ·exact .bad
    ·exact .bad
   ·exact .bad
  ·exact .bad
 ·exact .bad
def CR (T:a9) (ty:TypeId) (σ:List Row) (mp:θ):cH:=match u7 T ty,mp with
 | some _,.mp id=>match σ[id]? with
  | some (.map _)=>if nH σ id=true then .ok .cg (σ.set id (.map [])) else .bad
  | _=>.bad
 | _,_=>CO T ty σ mp
theorem T6 (Η:bT P T) (χ:Holds S B σ H) {ty:TypeId} (rt:TypeId) {mp:θ} {u:Value} (hm:au S B σ mp u):cD P (Builtin.clear_ #[ty] rt #[u]) S B H σ (CR T ty σ mp):=by
 unfold CR;split
 ·rename_i zn id u9;obtain⟨i,hi,hu⟩:=CG (kt:=zn.1) (vt:=zn.2) u9;split
  ·rename_i es bN;split
   ·rename_i kK;cases hm with
    | mp I R=>
     rename_i b N;rw[bN] at I;cases I;obtain⟨xs,clock,m4,hq⟩:=zl χ bN R;obtain⟨dD,p2,p3⟩:=Gz χ (es':=[]) (xs':=#[]) (clock':=clock) bN R kK λ_=>⟨rfl,λi e y I=>by simp at I,λi j y z I=>by simp at I⟩;intro K ζ;unfold Builtin.clear_;refine ξ.bind' (Η.bE hi ?_);rw[hu];refine ξ.bind' ?_;refine⟨_,m4,rfl,?_⟩;refine ξ.pure' ?_;refine⟨⟨_,m4⟩,rfl,rfl,?_⟩;exact ξ.pure' ⟨S,_,_,_,ζ,p2,dD,p3,.cg _⟩
    | lA v I=>rw[bN] at I;cases I
   ·exact .bad
  ·exact .bad
 ·exact T4 Η χ rt hm
end
def va (T:a9) (op:BinOp) (ty:TypeId) (a b:θ):cu:=match aeqv T ty a b with
 | some r=>match op with
  | .eql=>.ok (.z (.bool r))
  | .neq=>.ok (.z (.bool !r))
  | _=>.bad
 | none=>.bad
def CS (T:a9) (op:BinOp) (ty:TypeId) (a b:θ):cu:=match a,b with
 | .z x,.z y=>match rV op x y with
  | .ok v=>.ok v
  | .bX p r=>.bX p r
  | .bad=>va T op ty (.z x) (.z y)
 | .a6 x,.a6 y=>va T op ty (.a6 x) (.a6 y)
 | _,_=>.bad
def CU (T:a9) (ty:TypeId) (x bY:θ):cu:=match T ty with
 | some i=>match i.bE,x,bY with
  | .string,.z (.string s),.z (.int _ n)=>.bX (0<=n/\n<s.size) (.ok (.z (.int .u8 (s.data.toList.getD n.toNat 0).toNat)))
  | .array len e,.a6 xs,.z (.int _ n)=>match T e with
   | some bU=>if bU.agg=false/\bU.size=1/\xs.length=len then .bX (0<=n/\n<len) (.ok (xs.getD n.toNat .cg)) else .bad
   | none=>.bad
  | _,_,_=>.bad
 | none=>.bad
def CV (x:θ):cu:=match x with
 | .aa c=>.ok (.aa c)
 | .fn (.func f) a b=>.ok (.fn (.func f) a b)
 | .z (.pointer (some a))=>.ok (.z (.pointer (some a)))
 | _=>.bad
def vb (σ:List Row) (x:θ):cH:=match x with
 | .an id n i j=>match σ[id]? with
  | some (.cells _ _ l)=>if l.length=n then .ok (.an id n i j) σ else .bad
  | _=>.bad
 | _=>.bad
def CW (T:a9) (arr:TypeId) (x:θ):cu:=match T arr with
 | some i=>match i.bE,x with
  | .array n _,.sl _ k l=>if 0<n/\k=1/\(l.all λe=>decide (e.cells.length=1)&&θ.bd [] e)=true then .bX (n<=l.length) (.ok (.aa (l.take n))) else .bad
  | _,_=>.bad
 | none=>.bad
def rZ:List θ->Option (List Int)
 | []=>some []
 | .z (.int .i32 n)::r=>(rZ r).map (n::·)
 | _=>none
def spell (l:List Int):ByteArray:=l.foldl (λs n=>s++Utf8.encode n) .empty
def zr (T:a9) (ty:TypeId):Bool:=match T ty with
 | some i=>match i.bE with
  | .slice e=>match T e with|some bU=>(match bU.bE with|.int .i32=>true|_=>false)&&bU.size==1|none=>false
  | _=>false
 | none=>false
def zs (T:a9) (ty:TypeId):Bool:=match T ty with|some i=>(match i.bE with|.string=>true|_=>false)|none=>false
def tq (T:a9) (src dst:TypeId) (σ:List Row) (x:θ):cu:=if zr T src=true/\zs T dst=true then match pF σ x with
 | some (k,l)=>if k=1\/l.isEmpty=true then match rZ l with|some r=>.ok (.z (.string (spell r)))|none=>.bad else .bad
 | none=>.bad else .bad
def CX (T:a9) (src dst:TypeId) (x:θ):cu:=if zs T src=true/\zr T dst=true then match x with
 | .z (.string s)=>.ok (.sl false 1 ((Conv.runesFrom s s.size 0 #[]).toList.map .z))
 | _=>.bad else .bad
section
variable {P:Program} {T:a9} {S:aD} {B:aP} {H:π} {σ:List Row}
theorem T7 {op:BinOp} {ty:TypeId} {p q:Operand} {vs ws:Array Value} (Ο:P.eqGuardType P.depth ty=false) {G:π} {K:Unit->π->Prop} {E:Value->π->Prop} (ψ:K () G):ξ P (eqGuard op ty p q (.agg vs) (.agg ws)) G K E:=by
 cases op<;>first|exact ξ.pure' ψ|skip
 all_goals
  unfold eqGuard;simp only[Bool.not_true,Bool.false_eq_true,if_false];refine ξ.bind' ?_;show ξ P _ G K E;refine ξ.bind' ?_;show ξ P _ G K E;rw[if_pos (by rw[Ο];rfl)];exact ξ.pure' ψ
theorem Mc (Η:bT P T) (χ:Holds S B σ H) {op:BinOp} {ty:TypeId} {p q:Operand} {a b:θ} {v w:Value} (κ:au S B σ a v) (hb:au S B σ b w) (Md:∀r,aeqv T ty a b=some r->(op=.eql\/op=.neq)->∀(K:Unit->π->Prop),K () H->ξ P (eqGuard op ty p q v w) H K (λ_ _=>False))
  (T8:∀r,aeqv T ty a b=some r->(binOp .eql ty v w=(do pure (.bool (<-Op.equal ty v w)))/\binOp .neq ty v w=(do pure (.bool (!(<-Op.equal ty v w)))))) :
  cD P (do eqGuard op ty p q v w;binOp op ty v w) S B H σ ((va T op ty a b).dq σ):=by
 unfold va;split
 ·rename_i r ι;obtain⟨I,R⟩:=T8 r ι;split
  ·intro K ζ;refine ξ.bind' (Md r ι (.inl rfl) _ ?_);rw[I];exact ξ.bind' (Gu Η κ hb ι (ξ.pure' (.same χ ζ (.z _))))
  ·intro K ζ;refine ξ.bind' (Md r ι (.inr rfl) _ ?_);rw[R];exact ξ.bind' (Gu Η κ hb ι (ξ.pure' (.same χ ζ (.z _))))
  ·exact .bad
 ·exact .bad
theorem T9 (Η:bT P T) (χ:Holds S B σ H) (op:BinOp) (ty:TypeId) (p q:Operand) {a b:θ} {v w:Value} (κ:au S B σ a v) (hb:au S B σ b w):cD P (do eqGuard op ty p q v w;binOp op ty v w) S B H σ ((CS T op ty a b).dq σ):=by
 unfold CS;split
 ·rename_i x y;have Μ:=SP (P:=P) χ op ty p q v w;cases κ;cases hb;split
  ·rename_i r ι;rw[ι] at Μ;exact Μ
  ·rename_i pp r ι;rw[ι] at Μ;exact Μ
  ·rename_i oM;have hQ:∀r,aeqv T ty (.z v) (.z w)=some r->(∃c d,v=.bool c/\w=.bool d)\/¬(op=.eql\/op=.neq):=λr ι=>by
    unfold aeqv at ι;split at ι<;>try cases ι
    simp only at ι;split at ι<;>try cases ι
    unfold mg at ι;split at ι
    ·split at ι
     ·rename_i e;subst e;refine .inr λΑ=>?_;rcases Α with rfl|rfl<;>simp[rV] at oM
     ·cases ι
    ·refine .inr λΑ=>?_;rcases Α with rfl|rfl<;>simp[rV] at oM
    ·exact .inl ⟨_,_,rfl,rfl⟩
    ·cases ι
   by_cases Κ:op=.eql\/op=.neq
   ·by_cases ι:∃r,aeqv T ty (.z v) (.z w)=some r
    ·obtain⟨r,ι⟩:=ι;rcases hQ r ι with⟨c,d,rfl,rfl⟩|h
     ·exact Mc Η χ (.z _) (.z _) (λ_ _ _ K ζ=>by unfold eqGuard;split<;>exact ξ.pure' ζ) (λ_ _=>⟨rfl,rfl⟩)
     ·exact absurd Κ h
    ·have:aeqv T ty (.z v) (.z w)=none:=by
      cases h:aeqv T ty (.z v) (.z w) with
      | none=>rfl
      | some r=>exact absurd ⟨r,h⟩ ι
     unfold va;rw[this];exact .bad
   ·unfold va;split
    ·split
     ·exact absurd (.inl rfl) Κ
     ·exact absurd (.inr rfl) Κ
     ·exact .bad
    ·exact .bad
 ·rename_i x y;cases κ with
  | a6 vs Ξ ah=>cases hb with
   | a6 ws k1 bG=>
    refine Mc Η χ (.a6 vs Ξ ah) (.a6 ws k1 bG) (λr ι _ K ζ=>?_) (λ_ _=>⟨rfl,rfl⟩);have Ο:P.eqGuardType P.depth ty=false:=by
     unfold aeqv at ι;split at ι<;>try cases ι
     rename_i i hi;simp only at ι;split at ι<;>try cases ι
     rename_i items dp;have:=(Η ty i hi).1.2;rw[dp] at this;exact this.1
    exact T7 Ο ζ
 ·exact .bad
theorem T' (Η:bT P T) (χ:Holds S B σ H) (ty:TypeId) {x bY:θ} {v w:Value} (U:au S B σ x v) (hi:au S B σ bY w):cD P (Instr.index ty v w) S B H σ ((CU T ty x bY).dq σ):=by
 unfold CU;cases Ν:T ty with
 | none=>exact .bad
 | some i=>
  simp only;split
  ·rename_i s kk n hu;cases U;cases hi;refine cD.bX (r:=(cu.ok (.z (.int .u8 (s.data.toList.getD n.toNat 0).toNat))).dq σ) λΕ K ζ=>?_;unfold Instr.index;refine ξ.bind' (ξ.pure' ?_);refine ξ.bind' (Η.bE Ν ?_);rw[hu];have aI:n.toNat<s.data.size:=by have:s.size=s.data.size:=rfl;omega
   have Γ:(if 0<=n then s[n.toNat]? else none)=some s.data[n.toNat]:=by
    rw[if_pos Ε.1];show s[n.toNat]?=_;rw[getElem?_pos s n.toNat γ];rfl
   simp only[Γ];have Θ:s.data.toList.getD n.toNat 0=s.data[n.toNat]:=by rw[List.getD_eq_getElem?_getD,Array.getElem?_toList,gF aI];rfl
   rw[Θ] at ζ;exact ξ.pure' (.same χ ζ (.z _))
  ·rename_i len e xs kk n hu;cases hi;split
   ·rename_i bU ec;split
    ·rename_i ε;obtain⟨c1,c2,c3⟩:=ε;refine cD.bX (r:=(cu.ok (xs.getD n.toNat .cg)).dq σ) λΕ K ζ=>?_;cases U with
     | a6 vs Ξ ah=>
      unfold Instr.index;refine ξ.bind' (ξ.pure' ?_);refine ξ.bind' (Η.bE Ν ?_);rw[hu];simp only[Ε,and_self,if_true];refine ξ.bind' (Η.size ec ?_);rw[c2,Nat.mul_one];unfold part;refine ξ.bind' (Η.agg ec ?_);rw[c1];have aI:n.toNat<xs.length:=γ;have hv:n.toNat<vs.size:=by rw[<-Ξ];exact aI
      simp only[Bool.false_eq_true,if_false,gF hv];have Θ:xs.getD n.toNat .cg=xs[n.toNat]:=by simp[aI]
      rw[Θ] at ζ;exact ξ.pure' (.same χ ζ (ah _ _ _ (ba aI) (gF hv)))
    ·exact .bad
   ·exact .bad
  ·exact .bad
theorem Ua (χ:Holds S B σ H) {ρ:Operand->Value} {o:Oper} {x:Operand} (Α:o.op=.nilCheck x) {a:θ} (κ:au S B σ a (ρ x)):Does P (execOp ρ o) S B H σ ((CV a).dq σ):=by
 unfold CV;split
 ·unfold execOp;rw[Α];simp only;generalize ρ x=v at κ;cases κ with
  | aa b o w I R=>exact Does.val χ (.aa b o w I R)
 ·unfold execOp;rw[Α];simp only;generalize ρ x=v at κ;cases κ with
  | fn vs ws I R ν Ι=>exact Does.val χ (.fn vs ws I R ν Ι)
 ·unfold execOp;rw[Α];simp only;generalize ρ x=v at κ;cases κ;exact Does.val χ (.z _)
 ·exact .bad
theorem Ub (χ:Holds S B σ H) {ρ:Operand->Value} {o:Oper} {x:Operand} (Α:o.op=.nilCheck x) {a:θ} (κ:au S B σ a (ρ x)):Does P (execOp ρ o) S B H σ (vb σ a):=by
 unfold vb;split
 ·split
  ·rename_i t k l υ;split
   ·rename_i Ε;unfold execOp;rw[Α];simp only;generalize ρ x=v at κ;cases κ with
    | an I R ν=>exact Does.val χ (.an I R ν)
    | jG v I R=>rw[υ] at I;cases I;simp only[Row.g1] at R;omega
   ·exact .bad
  ·exact .bad
 ·exact .bad
theorem Uc (Η:bT P T) (χ:Holds S B σ H) (arr:TypeId) {x:θ} {v:Value} (U:au S B σ x v):cD P (Instr.arrayAt arr v) S B H σ ((CW T arr x).dq σ):=by
 unfold CW;cases Ν:T arr with
 | none=>exact .bad
 | some i=>
  simp only;split
  ·rename_i n e ex k l hu;split
   ·rename_i ε;obtain⟨c1,c2,c3⟩:=ε;subst c2;refine cD.bX (r:=(cu.ok (.aa (l.take n))).dq σ) λΕ K ζ=>?_;obtain⟨base,cap,rfl,_,_,ν⟩:=qT U;obtain⟨b,o,w,rfl,Ι,aB,bn⟩:=ν (λe=>by subst e;simp at Ε;omega);unfold Instr.arrayAt;refine ξ.bind' (Η.bE Ν ?_);rw[hu];simp only;rw[if_neg γ];rw[List.all_eq_true] at c3;have el:∀(j:Nat) (e:θ),(l.take n)[j]?=some e->l[j]?=some e/\e.cells=[e]:=λj e δ=>by
     have hm:=c3 e (List.mem_of_mem_take (cx δ));simp only[Bool.and_eq_true] at hm;rw[List.getElem?_take] at δ;split at δ
     ·exact⟨δ,θ.Gb hm.2⟩
     ·cases δ
    refine ξ.pure' (.same χ ζ (.aa b o (λj=>w j 0) (λj a δ=>?_) (λj a δ=>?_)))
    ·obtain⟨Ξ,ah⟩:=el j a δ;have:=aB j a Ξ 0 a (by rw[ah];rfl);simpa using this
    ·obtain⟨Ξ,ah⟩:=el j a δ;exact bn j a Ξ 0 a (by rw[ah];rfl)
   ·exact .bad
  ·exact .bad
theorem Me {ty:TypeId} (h:zr T ty=true):∃i e bU,T ty=some i/\i.bE=.slice e/\T e=some bU/\bU.bE=.int .i32/\bU.size=1:=by
 unfold zr at h;split at h
 ·rename_i i hi;split at h
  ·rename_i e hu;split at h
   ·rename_i bU ec;simp only[Bool.and_eq_true,beq_iff_eq] at h;refine⟨i,e,bU,hi,hu,ec,?_,h.2⟩;have:=h.1;split at this
    ·assumption
    ·cases this
   ·cases h
  ·cases h
 ·cases h
theorem Mf {ty:TypeId} (h:zs T ty=true):∃i,T ty=some i/\i.bE=.string:=by
 unfold zs at h;split at h
 ·rename_i i hi;refine⟨i,hi,?_⟩;split at h
  ·assumption
  ·cases h
 ·cases h
theorem Ud (Η:bT P T) (χ:Holds S B σ H) (src dst:TypeId) {x:θ} {v:Value} (U:au S B σ x v):cD P (convert src dst v) S B H σ ((CX T src dst x).dq σ):=by
 unfold CX;split
 ·rename_i ε;obtain⟨i,hi,hu⟩:=Mf ε.1;obtain⟨j,e,bU,δ,GG,ec,GH,cC⟩:=Me ε.2;split
  ·rename_i s;cases U;intro K ζ;unfold convert;refine ξ.bind' (Η.bE hi (ξ.bind' (Η.bE δ ?_)));rw[hu,GG];simp only;refine ξ.bind' (Η.bE ec ?_);rw[GH];simp only;unfold Conv.stringToRunes;refine ξ.bind' ?_;unfold choose;simp only[ξ];have Χ:(Question.appendCap (Conv.runesFrom s s.size 0 #[]).size 0 e).forced=false:=rfl;rw[Χ];simp only[Bool.false_eq_true,if_false];intro q;generalize GI:Conv.runesFrom s s.size 0 #[]=lD at ζ ⊢;have wX:lD.size<=(Question.appendCap lD.size 0 e).cut q:=by simp[Question.cut]
   refine ξ.bind' (ξ.bind' ?_);have Ue:∀v∈lD,One v:=by
    have key:∀(bound i:Nat) (acc:Array Value),(∀v∈acc,One v)->∀v∈Conv.runesFrom s bound i acc,One v:=by
     intro bound
     induction bound with
     | zero=>intro i acc h;exact h
     | succ n ω=>
      intro i acc h;unfold Conv.runesFrom;split
      ·refine ω _ _ λv hv=>?_;rcases Array.mem_push.1 hv with hv|rfl
       ·exact h v hv
       ·trivial
      ·exact h
    rw[<-GI];exact key _ _ _ (λv hv=>by simp at hv)
   have zi:fK S B σ (lD++Array.replicate ((Question.appendCap lD.size 0 e).cut q-lD.size) (.int .i32 0)) 1 (lD.toList.map .z):=by
    refine⟨η,λj a δ=>?_⟩;rw[List.getElem?_map,Array.getElem?_toList] at δ;cases U:lD[j]? with
    | none=>rw[U] at δ;cases δ
    | some y=>
     rw[U] at δ;cases δ;refine⟨rfl,λz b Μ=>?_⟩
     match z with
     | 0=>
      simp[θ.cells] at Μ;subst Μ;refine⟨y,?_,.z y,Ue y (Array.mem_of_getElem? U)⟩;have:=(Array.getElem?_eq_some_iff.1 U).1;rw[Array.getElem?_append_left (by simpa using this)];simpa using U
     | z+1=>simp[θ.cells] at Μ
   refine zd χ _ e λr I R ν=>ξ.pure' (ξ.pure' ⟨_,_,_,_,ζ,R,I,ν,?_⟩);have:=Ci (cap:=(Question.appendCap lD.size 0 e).cut q) false ν zi (by simpa using wX) η;simpa using this
  ·exact .bad
 ·exact .bad
theorem Uf:∀(l:List θ) (r:List Int),rZ l=some r->r.length=l.length/\∀(i:Nat) (n:Int),r[i]?=some n->l[i]?=some (.z (.int .i32 n)):=by
 intro l
 induction l with
 | nil=>intro r h;cases h;exact⟨rfl,λi n h=>by simp at h⟩
 | cons a l ω=>
  intro r h;unfold rZ at h;split at h
  ·rename_i heq;cases heq
  ·rename_i n dX heq;cases heq;cases υ:rZ l with
   | none=>rw[υ] at h;cases h
   | some r'=>
    rw[υ] at h;cases h;obtain⟨I,R⟩:=ω r' υ;refine⟨by simp[I],λi m hm=>?_⟩;cases i with
    | zero=>simp at hm;subst hm;rfl
    | succ i=>exact R i m (by simpa using hm)
  ·cases h
theorem Ug (Η:bT P T) (χ:Holds S B σ H) (src dst:TypeId) {x:θ} {v:Value} (U:au S B σ x v):cD P (convert src dst v) S B H σ ((tq T src dst σ x).dq σ):=by
 unfold tq;split
 ·rename_i ε;obtain⟨i,e,bU,hi,hu,ec,GH,cC⟩:=Me ε.1;obtain⟨j,δ,GG⟩:=Mf ε.2;split
  ·rename_i k l υ;split
   ·rename_i ψ;split
    ·rename_i r ι;obtain⟨base,cap,w,rfl,_,GJ,GI⟩:=Ct χ U (k:=1) υ γ (ψ.symm);obtain⟨Bw,Uh⟩:=Uf l r ι;intro K ζ;unfold convert;refine ξ.bind' (Η.bE hi (ξ.bind' (Η.bE δ ?_)));rw[hu,GG];have hw:∀i,i<l.length->w i=.int .i32 (r.getD i 0):=λi j2=>by
      have Mg:r[i]?=some r[i]:=ba γ
      have:=(GI i _ (Uh i _ Mg)).2 0 _ rfl;rw[Nat.mul_one,Nat.add_zero] at this;rw[List.getD_eq_getElem?_getD,Mg];generalize w i=u at this;cases this;rfl
     have go:ξ P (Conv.runesToString (.slice base l.length cap)) H (iz S B H σ K) (λ_ _=>False):=by
      unfold Conv.runesToString;rw[Nat.mul_one] at GJ;cases base with
      | none=>
       simp only;rcases GJ with ao|⟨b,o,hb,_⟩
       ·have:r=[]:=dB.1 (by rw[Bw,ao]);subst this;exact ξ.pure' (.same χ ζ (.z _))
       ·cases hb
      | some a=>
       simp only;have fold:∀(rs:List Int) (acc:ByteArray),ξ P (forIn (rs.map λn=>Value.int .i32 n) acc λ(c:Value) (s:ByteArray)=>do
         let .int .i32 n:=c|stuck "runesToString: rune expected"
         pure (ForInStep.yield (s++Utf8.encode n))) H (λs H'=>s=rs.foldl (λs n=>s++Utf8.encode n) acc/\H'=H) (λ_ _=>False):=by
        intro rs
        induction rs with
        | nil=>intro acc;exact .forIn_nil ⟨rfl,rfl⟩
        | cons n rs ω=>
         intro acc;rw[List.map_cons];refine .forIn_cons ?_;exact ξ.pure' (ω (acc++Utf8.encode n))
       have cells:ξ P (loadCells a l.length) H (λvs H'=>vs=(r.map λn=>Value.int .i32 n).toArray/\H'=H) (λ_ _=>False):=by
        rcases GJ with ao|⟨b,o,hb,Gp⟩
        ·rw[ao];have:r=[]:=dB.1 (by rw[Bw,ao]);subst this;exact ξ.pure' ⟨rfl,rfl⟩
        ·cases hb;refine ξ.loadCells w rfl Gp ⟨?_,rfl⟩;congr 1;apply List.ext_getElem?;intro i;rw[List.getElem?_map,List.getElem?_map];by_cases j2:i<l.length
         ·rw[List.getElem?_range j2,ba (show i<r.length by omega)];simp only[Option.map_some];rw[hw i j2,List.getD_eq_getElem?_getD,ba (show i<r.length by omega)];rfl
         ·rw[List.getElem?_eq_none (by simp;omega),List.getElem?_eq_none γ];rfl
       refine ξ.bind' (ξ.mono (λvs H' ⟨Γ,Θ⟩=>?_) (λ_ _ h=>h) _ cells);subst Γ;subst Θ;rw[<-Array.forIn_toList];refine ξ.bind' (ξ.mono (λs H' ⟨Γ,Θ⟩=>?_) (λ_ _ h=>h) _ (fold r .empty));subst Γ;subst Θ;exact ξ.pure' (.same χ ζ (.z _))
     have:ξ P (do
      match <-underlying e with
      | .int .u8=>Conv.bytesToString (.slice base l.length cap)
      | .int .i32=>Conv.runesToString (.slice base l.length cap)
      | _=>stuck "Convert: a slice of what to string?") H (iz S B H σ K) (λ_ _=>False):=by
      refine ξ.bind' (Η.bE ec ?_);rw[GH];exact go
     cases base<;>exact this
    ·exact .bad
   ·exact .bad
  ·exact .bad
 ·exact .bad
end
def CY (σ:List Row):cH:=.all 2 λj=>.ok (.z (.bool (j==1))) σ
def CZ (T:a9) (ty:TypeId) (σ:List Row) (a:θ):cH:=match T ty with
 | some i=>match i.bE with
  | .slice _=>match a with
   | .ms id n i len=>match σ[id]? with
    | some (.cells _ _ l)=>if l.length=n/\i+len<=n then(if len=0 then CY σ else .ok (.z (.bool false)) σ) else .bad
    | _=>.bad
   | .sl _ _ l=>if l.isEmpty then CY σ else .ok (.z (.bool false)) σ
   | _=>.bad
  | _=>.bad
 | none=>.bad
section
variable {P:Program} {T:a9} {S:aD} {B:aP} {H:π} {σ:List Row}
theorem zt (Η:bT P T) (χ:Holds S B σ H) {ty:TypeId} {i:hR} (hi:T ty=some i) {e:TypeId} (hu:i.bE=.slice e) (p q:Operand) (base:Option Addr) (len cap:Nat) {dq:cH}
  (Ui:∀K,dq.holds K->K (.z (.bool base.isNone)) σ):cD P (do eqGuard .eql ty p q (.slice base len cap) (.slice none 0 0);binOp .eql ty (.slice base len cap) (.slice none 0 0)) S B H σ dq:=by
 intro K ζ;have ζ:=Ui K ζ;refine ξ.bind' ?_;unfold eqGuard;refine ξ.pure' ?_;have Uj:binOp .eql ty (.slice base len cap) (.slice none 0 0)=(do pure (Value.bool (<-Op.equal ty (.slice base len cap) (.slice none 0 0)))):=rfl;rw[Uj];refine ξ.bind' ?_;unfold Op.equal;unfold Op.equalIn;refine ξ.bind' (Η.bE hi ?_);rw[hu];cases base with
 | none=>exact ξ.pure' (ξ.pure' (.same χ ζ (.z _)))
 | some b=>exact ξ.pure' (ξ.pure' (.same χ ζ (.z _)))
theorem GK {K:θ->List Row->Prop} (h:(CY σ).holds K) (b:Bool):K (.z (.bool b)) σ:=by
 cases b
 ·exact h 0 a0
 ·exact h 1 a0
theorem Uk (Η:bT P T) (χ:Holds S B σ H) (ty:TypeId) (p q:Operand) {a:θ} {v:Value} (κ:au S B σ a v):cD P (do eqGuard .eql ty p q v (.slice none 0 0);binOp .eql ty v (.slice none 0 0)) S B H σ (CZ T ty σ a):=by
 unfold CZ;split
 ·rename_i i hi;split
  ·rename_i e hu;split
   ·rename_i id n j len;split
    ·rename_i t k l ι;split
     ·rename_i ε;cases κ with
      | @ms _ _ _ _ _ _ _ bo base cap I R ν Ι aB bn=>
       split
       ·exact zt Η χ hi hu p q base len cap λK ζ=>GK ζ _
       ·rename_i hlen;refine zt Η χ hi hu p q base len cap λK ζ=>?_;rcases bn with bn|⟨b,N,_,gO,_⟩
        ·omega
        ·rw[gO];exact ζ
      | iY v I R=>
       rw[ι] at I;cases I;exact absurd ε.1 (Nat.ne_of_gt R)
     ·exact .bad
    ·exact .bad
   ·rename_i l;cases κ with
    | ix base cap I=>exact zt Η χ hi hu p q base 0 cap λK ζ=>GK ζ _
    | sl b o cap w I R=>
     split
     ·exact zt Η χ hi hu p q _ _ cap λK ζ=>GK ζ _
     ·exact zt Η χ hi hu p q _ _ cap λK ζ=>ζ
   ·exact .bad
  ·exact .bad
 ·exact .bad
end
def cu.or (r:cu) (σ:List Row) (s:cH):cH:=match r with
 | .ok a=>.ok a σ
 | .bX p r=>.bX p (r.dq σ)
 | .bad=>s
def pM (A:List Nat) (d:Option Tmp):Bool:=match d with|some d=>A.contains d|none=>false
def r4 (env:ab) (c7:Array (Nat×Operand)):List (Nat×θ):=c7.toList.map λp=>(p.1,aM env p.2)
def xf (c a b:θ):cu:=match c with
 | .z (.bool v)=>match a,b with
  | .z (.bool x),.z (.bool y)=>.ok (.z (.bool (bif v then x else y)))
  | _,_=>match v with|true=>.ok a|false=>.ok b
 | _=>.bad
def r5 (T:a9) (σ:List Row) (src dst:TypeId) (x:θ):cu:=match w8 T src dst x with
 | .bad=>match CX T src dst x with
  | .bad=>tq T src dst σ x
  | r=>r
 | r=>r
def iZ (T:a9) (A:List Nat) (env:ab) (o:Oper):cu:=
 match o.op with
 | .move x=>.ok (aM env x)
 | .assign x=>.ok (aM env x)
 | .pick c a b=>xf (aM env c) (aM env a) (aM env b)
 | .alloc ty=>if pM A o.dst then .bad else Cl T ty
 | .box _ x=>if pM A o.dst then .bad else wY (aM env x)
 | .build ty c7=>nD T (θ.bd []) ty (r4 env c7)
 | .buildSlice ty n c7=>if pM A o.dst then .bad else zf T (θ.bd []) ty n (r4 env c7)
 | .load ty x=>Ca T ty (aM env x)
 | .binOp op ty x y _=>CS T op ty (aM env x) (aM env y)
 | .unOp op _ x=>wT op (aM env x)
 | .convert s d x=>r5 T [] s d (aM env x)
 | .index ty x i=>CU T ty (aM env x) (aM env i)
 | .nilCheck x=>CV (aM env x)
 | .sliceToArrayPointer ty x=>CW T ty (aM env x)
 | .makeInterface ty x=>B9 T ty (aM env x)
 | .makeFunc f db cs=>.ok (.fn f (db.toList.map (aM env)) (cs.toList.map (aM env)))
 | .makeSlice ty n c=>if pM A o.dst then .bad else Cr T ty (aM env n) (aM env c)
 | .slice ty x lo hi none=>Cy T ty (aM env x) (lo.map (aM env)) (hi.map (aM env))
 | .fieldAddr ty x f=>Cc T ty f (aM env x)
 | .indexAddr ty x i=>Ce T ty (aM env x) (aM env i)
 | .typeAssert x _ ty ok=>uZ T ty ok (aM env x)
 | .extract x i=>B8 i (aM env x)
 | .call ⟨.builtin b,⟨[x]⟩,⟨[ty]⟩⟩=>match b with
  | .len=>CB T ty (aM env x)
  | _=>.bad
 | .call ⟨.builtin b,⟨[x,y]⟩,⟨[tr,ty]⟩⟩=>match b with
  | .max=>CD [aM env x,aM env y]
  | .append=>if pM A o.dst then .bad else rX T tr ty (θ.bd []) [] (aM env x) (aM env y)
  | _=>.bad
 | _=>.bad
def hU (T:a9) (A:List Nat) (env:ab) (σ:List Row) (o:Oper):cH:=
 match o.op with
 | .alloc ty=>if pM A o.dst then Ck T ty σ else .bad
 | .box ty x=>if pM A o.dst then wZ ty σ (aM env x) else Cj σ (aM env x)
 | .build ty c7=>(nD T (θ.bd σ) ty (r4 env c7)).dq σ
 | .buildSlice ty n c7=>if pM A o.dst then Cp T ty n (r4 env c7) σ else(zf T (θ.bd σ) ty n (r4 env c7)).dq σ
 | .load ty x=>nz T ty σ (aM env x)
 | .store ty p x=>Cg T ty σ (aM env p) (aM env x)
 | .convert s d x=>(r5 T σ s d (aM env x)).dq σ
 | .nilCheck x=>vb σ (aM env x)
 | .binOp .eql ty x (.const (.slice none 0 0)) _=>CZ T ty σ (aM env x)
 | .makeMap _ none=>Gx σ
 | .mapUpdate ty m k x=>zm T ty σ (aM env m) (aM env k) (aM env x)
 | .insert ty m k x=>zm T ty σ (aM env m) (aM env k) (aM env x)
 | .lookup ty x k ok=>CH T ty ok σ (aM env x) (aM env k)
 | .range ty x=>CJ T ty σ (aM env x)
 | .next it false=>CK σ (aM env it)
 | .entry it=>CN σ (aM env it)
 | .makeSlice ty n c=>if pM A o.dst then Cq T ty (aM env n) (aM env c) σ else .bad
 | .slice ty x lo hi none=>Cz T ty σ (aM env x) (lo.map (aM env)) (hi.map (aM env))
 | .fieldAddr ty x f=>nA T ty f σ (aM env x)
 | .indexAddr ty x i=>nB T ty σ (aM env x) (aM env i)
 | .call ⟨.builtin b,⟨[x]⟩,⟨[ty]⟩⟩=>match b with
  | .len=>CC T ty σ (aM env x)
  | .clear=>CR T ty σ (aM env x)
  | _=>.bad
 | .call ⟨.builtin b,⟨[x,y]⟩,⟨[tr,ty]⟩⟩=>match b with
  | .append=>if pM A o.dst then Cw T tr ty σ (aM env x) (aM env y) else(rX T tr ty (θ.bd σ) σ (aM env x) (aM env y)).dq σ
  | _=>.bad
 | _=>.bad
section
variable {P:Program} {T:a9} {A:List Nat} {S:aD} {B:aP} {H:π} {σ:List Row} {env:ab} {t:Array Value}
theorem cu.Ul {s:Sem Next} {r:cu} {a:cH} (I:Does P s S B H σ (r.dq σ)) (R:Does P s S B H σ a):Does P s S B H σ (r.or σ a):=by
 cases r with
 | ok x=>exact I
 | bX p r=>exact I
 | bad=>exact R
theorem Um (χ:Holds S B σ H) {c a b:θ} {u v w:Value} (ε:au S B σ c u) (κ:au S B σ a v) (hb:au S B σ b w):cD P (do pure (if <-asBool u then v else w)) S B H σ ((xf c a b).dq σ):=by
 unfold xf;split
 ·rename_i x;cases ε;split
  ·rename_i p q;cases κ;cases hb;intro K ζ;refine ξ.bind' (ξ.pure' (ξ.pure' ?_));cases x
   ·exact .same χ ζ (.z _)
   ·exact .same χ ζ (.z _)
  ·cases x
   ·exact λK ζ=>ξ.bind' (ξ.pure' (ξ.pure' (.same χ ζ hb)))
   ·exact λK ζ=>ξ.bind' (ξ.pure' (ξ.pure' (.same χ ζ κ)))
 ·exact .bad
theorem Un (cU:cX S B σ env t) (f:Fn) (db cs:Array Operand):au S B σ (.fn f (db.toList.map (aM env)) (cs.toList.map (aM env))) (.func f (db.map (br t)) (cs.map (br t))):=by
 refine .fn _ _ η η (λi a v I R=>?_) (λi a v I R=>?_)
 ·rw[List.getElem?_map] at I;rw[Array.getElem?_map] at R;rw[Array.getElem?_toList] at I;cases U:db[i]? with
  | none=>rw[U] at I;cases I
  | some x=>rw[U] at I R;cases I;cases R;exact lB cU x
 ·rw[List.getElem?_map] at I;rw[Array.getElem?_map] at R;rw[Array.getElem?_toList] at I;cases U:cs[i]? with
  | none=>rw[U] at I;cases I
  | some x=>rw[U] at I R;cases I;cases R;exact lB cU x
theorem C0 (cU:cX S B σ env t) (o:Option Operand):u3 S B σ (o.map (aM env)) (o.map (br t)):=by
 cases o with
 | none=>trivial
 | some x=>exact lB cU x
theorem Mh {a:θ} {r:Nat×List θ} (h:pF [] a=some r):pF σ a=some r:=by
 cases a<;>first|exact h|(simp[pF] at h)
theorem Uo {st xt:TypeId} {s x:θ}:rX T st xt (θ.bd []) [] s x=.bad\/rX T st xt (θ.bd []) [] s x=rX T st xt (θ.bd []) σ s x:=by
 unfold rX;cases U:pF [] x with
 | none=>left;split<;>simp_all
 | some r=>rw[Mh U];exact .inr rfl
theorem Mi (Η:bT P T) (χ:Holds S B σ H) (src dst:TypeId) {x:θ} {v:Value} (U:au S B σ x v):cD P (convert src dst v) S B H σ ((r5 T σ src dst x).dq σ):=by
 have I:=Tz Η χ src dst U
 have R:=Ud Η χ src dst U;unfold r5;split
 ·split
  ·exact Ug Η χ src dst U
  ·exact R
 ·exact I
theorem Up {src dst:TypeId} {x:θ}:tq T src dst [] x=.bad\/tq T src dst [] x=tq T src dst σ x:=by
 unfold tq;split
 ·cases U:pF [] x with
  | none=>exact .inl rfl
  | some r=>rw[Mh U];exact .inr rfl
 ·exact .inl rfl
theorem Uq {src dst:TypeId} {x:θ}:r5 T [] src dst x=.bad\/r5 T [] src dst x=r5 T σ src dst x:=by
 unfold r5;split
 ·split
  ·exact Up
  ·exact .inr rfl
 ·exact .inr rfl
theorem Ur (Η:bT P T) (χ:Holds S B σ H) (cU:cX S B σ env t) (o:Oper):Does P (execOp (br t) o) S B H σ ((iZ T A env o).dq σ):=by
 have aj:∀x,au S B σ (aM env x) (br t x):=λx=>lB cU x;obtain⟨dst,op,type,pos,after,guard⟩:=o;unfold iZ;simp only;split
 ·exact Does.val χ (aj _)
 ·exact Does.val χ (aj _)
 ·rename_i c a b;have:=(Um (P:=P) χ (aj c) (aj a) (aj b)).next;unfold execOp;simp only;refine λK ζ=>?_;have R:=this K ζ;simpa using R
 ·split
  ·exact .bad
  ·exact(Ta Η χ _).next
 ·split
  ·exact .bad
  ·exact(S8 χ _ (aj _)).next
 ·exact(LM Η χ (λa h=>Ch h) _ cU _).next
 ·split
  ·exact .bad
  ·exact(LP Η χ (λa h=>Ch h) _ _ cU _).next
 ·exact(SW Η χ (aj _)).next
 ·exact(T9 Η χ _ _ _ _ (aj _) (aj _)).next
 ·exact(SQ χ _ (aj _)).next
 ·rename_i a b x;rcases Uq (T:=T) (σ:=σ) (src:=a) (dst:=b) (x:=aM env x) with h|h
  ·rw[h];exact .bad
  ·rw[h];exact(Mi Η χ _ _ (aj _)).next
 ·exact(T' Η χ _ (aj _) (aj _)).next
 ·exact Ua χ rfl (aj _)
 ·exact(Uc Η χ _ (aj _)).next
 ·exact(SS Η χ _ (aj _)).next
 ·exact cD.next (cD.pure χ (Un cU _ _ _))
 ·split
  ·exact .bad
  ·exact(Tf Η χ (aj _) (aj _)).next
 ·exact(Tv Η χ _ (aj _) (C0 cU _) (C0 cU _)).next
 ·exact(SY Η χ (aj _)).next
 ·exact(S3 Η χ (aj _) (aj _)).next
 ·exact(SU Η χ _ _ _ (aj _)).next
 ·exact(SR χ _ (aj _)).next
 ·split
  ·exact λK ζ=>by
       refine ξ.bind' (ξ.pure' ?_);have e:∀x:Operand,Array.map (br t) {toList:=[x]}=#[br t x]:=λx=>η;simp only[invoke,builtin,e];exact(Tx Η χ _ _ (aj _)).next K ζ
  ·exact .bad
 ·split
  ·exact λK ζ=>by
       refine ξ.bind' (ξ.pure' ?_);have e:∀x y:Operand,Array.map (br t) {toList:=[x,y]}=#[br t x,br t y]:=λx y=>η;simp only[invoke,builtin,e];exact(TA χ _ _ (aj _) (aj _)).next K ζ
  ·split
   ·exact .bad
   ·rename_i x y tr ty _ _;rcases Uo (T:=T) (σ:=σ) (st:=tr) (xt:=ty) (s:=aM env x) (x:=aM env y) with h|h
    ·rw[h];exact .bad
    ·rw[h];exact λK ζ=>by
       refine ξ.bind' (ξ.pure' ?_);have e:∀x y:Operand,Array.map (br t) {toList:=[x,y]}=#[br t x,br t y]:=λx y=>η;simp only[invoke,builtin,e];exact(LW Η χ (λa h=>Ch h) _ _ _ (aj _) (aj _)).next K ζ
  ·exact .bad
 ·exact .bad
theorem Us (Η:bT P T) (χ:Holds S B σ H) (cU:cX S B σ env t) (o:Oper):Does P (execOp (br t) o) S B H σ (hU T A env σ o):=by
 have aj:∀x,au S B σ (aM env x) (br t x):=λx=>lB cU x;obtain⟨dst,op,type,pos,after,guard⟩:=o;unfold hU;simp only;split
 ·split
  ·exact(S' Η χ _).next
  ·exact .bad
 ·split
  ·exact(S9 χ _ (aj _)).next
  ·exact(S7 χ _ (aj _)).next
 ·exact(LM Η χ (λa h=>h) _ cU _).next
 ·split
  ·exact(Td Η χ _ _ cU _).next
  ·exact(LP Η χ (λa h=>h) _ _ cU _).next
 ·exact(SX Η χ (aj _)).next
 ·exact(S6 Η χ (aj _) (aj _)).next
 ·exact(Mi Η χ _ _ (aj _)).next
 ·exact Ub χ rfl (aj _)
 ·exact(Uk Η χ _ _ _ (aj _)).next
 ·exact(TO χ _).next
 ·exact(L7 Η χ (aj _) (aj _) (aj _)).next
 ·exact(L7 Η χ (aj _) (aj _) (aj _)).next
 ·exact(TP Η χ (aj _) (aj _)).next
 ·exact(TT Η χ (aj _)).next
 ·exact(TX χ _ (aj _)).next
 ·exact(T2 χ (aj _)).next
 ·split
  ·exact(Te Η χ (aj _) (aj _)).next
  ·exact .bad
 ·exact(Tw Η χ _ (aj _) (C0 cU _) (C0 cU _)).next
 ·exact(SZ Η χ (aj _)).next
 ·exact(S4 Η χ (aj _) (aj _)).next
 ·split
  ·exact λK ζ=>by
       refine ξ.bind' (ξ.pure' ?_);have e:∀x:Operand,Array.map (br t) {toList:=[x]}=#[br t x]:=λx=>η;simp only[invoke,builtin,e];exact(Ty Η χ _ _ (aj _)).next K ζ
  ·exact λK ζ=>by
       refine ξ.bind' (ξ.pure' ?_);have e:∀x:Operand,Array.map (br t) {toList:=[x]}=#[br t x]:=λx=>η;simp only[invoke,builtin,e];exact(T6 Η χ _ (aj _)).next K ζ
  ·exact .bad
 ·split
  ·split
   ·exact λK ζ=>by
       refine ξ.bind' (ξ.pure' ?_);have e:∀x y:Operand,Array.map (br t) {toList:=[x,y]}=#[br t x,br t y]:=λx y=>η;simp only[invoke,builtin,e];exact(Tm Η χ _ _ _ (aj _) (aj _)).next K ζ
   ·exact λK ζ=>by
       refine ξ.bind' (ξ.pure' ?_);have e:∀x y:Operand,Array.map (br t) {toList:=[x,y]}=#[br t x,br t y]:=λx y=>η;simp only[invoke,builtin,e];exact(LW Η χ (λa h=>h) _ _ _ (aj _) (aj _)).next K ζ
  ·exact .bad
 ·exact .bad
end
end Go.TL
