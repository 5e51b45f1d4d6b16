import Derived.IntWalk
import Derived.Laws.Sem
import Derived.Test.YtlabjopijpkiaaaGreatQAG
set_option maxHeartbeats 16000000
set_option maxRecDepth 20000
set_option linter.unusedSectionVars false
set_option linter.unusedSimpArgs false
set_option linter.unusedVariables false
namespace Go.TL
open Go.Conc
section
variable {P:Program} {T:bd} {S:aC} {B:aP} {H:ψ} {σ:List Row}
def fI (S:aC) (B:aP) (σ:List Row) (c:Array Value) (k:Nat) (l:List θ):Prop:=
 l.length*k<=c.size/\∀(i:Nat) (e:θ),l[i]?=some e->e.cells.length=k/\∀(j:Nat) (a:θ),e.cells[j]?=some a->∃x,c[i*k+j]?=some x/\ar S B σ a x/\One x
theorem CX {a:θ} (h:a.a8 []=true):a.a8 σ=true:=by
 cases a<;>first|exact h|(simp[θ.a8] at h)
theorem xM {l:List θ} (h:l.all (θ.a8 [])=true):l.all (θ.a8 σ)=true:=by
 rw[List.all_eq_true] at *;exact λa ν=>CX (h a ν)
theorem fI.put {c:Array Value} {k:Nat} {l:List θ} (h:fI S B σ c k l) {i j:Nat} {e a:θ} {v:Value} (he:l[i]?=some e) (ν:ar S B σ a v) (dO:a.cells.all (θ.a8 σ)=true) (ε:j+a.cells.length<=k) :
  let c':=v.cells.zipIdx.foldl (λcs (x:Value×Nat)=>cs.setIfInBounds (i*k+j+x.2) x.1) c
  c'.size=c.size/\fI S B σ c' k (l.set i (e.sh j a.cells)):=by
 obtain⟨cp,im⟩:=ν.cells dO;have iK:i<l.length:=(b7.1 he).1;have G6:=(h.2 i e he).1;have G7:∀c∈a.cells,θ.a8 σ c=true:=List.all_eq_true.1 dO;have bX:=θ.Mq (σ:=σ) (e:=e) (j:=j) (cs:=a.cells) (by rw[G6];exact ε) G7;have key:∀(vs:List Value) (n:Nat) (c:Array Value),((vs.zipIdx n).foldl (λcs (x:Value×Nat)=>cs.setIfInBounds (i*k+j+x.2) x.1) c).size=c.size/\
   ∀p,((vs.zipIdx n).foldl (λcs (x:Value×Nat)=>cs.setIfInBounds (i*k+j+x.2) x.1) c)[p]?=if i*k+j+n<=p/\p<i*k+j+n+vs.length/\p<c.size then vs[p-(i*k+j+n)]? else c[p]?:=by
  intro vs
  induction vs with
  | nil=>intro n c;refine⟨rfl,λp=>?_⟩;rw[if_neg (by simp;omega)];rfl
  | cons v vs Δ=>
   intro n c;obtain⟨J,γ⟩:=Δ (n+1) (c.setIfInBounds (i*k+j+n) v);simp only[List.zipIdx_cons,List.foldl_cons];refine⟨by rw[J];simp,λp=>?_⟩;rw[γ p];simp only[Array.size_setIfInBounds,List.length_cons];by_cases ω:p=i*k+j+n
   ·subst ω;rw[if_neg (by omega)];by_cases aH:i*k+j+n<c.size
    ·rw[if_pos ⟨by omega,by omega,aH⟩,Array.getElem?_setIfInBounds_self_of_lt aH];simp
    ·rw[if_neg (by omega),Array.getElem?_eq_none (by simp;omega),Array.getElem?_eq_none (by omega)]
   ·by_cases bb:i*k+j+(n+1)<=p/\p<i*k+j+(n+1)+vs.length/\p<c.size
    ·rw[if_pos bb,if_pos ⟨by omega,by omega,bb.2.2⟩];have:p-(i*k+j+n)=(p-(i*k+j+(n+1)))+1:=by omega
     rw[this,List.getElem?_cons_succ]
    ·rw[if_neg bb,if_neg (by omega),Array.getElem?_setIfInBounds_ne (Ne.symm ω)]
 obtain⟨k1,cy⟩:=key v.cells.toList 0 c;have cI:v.cells.zipIdx.foldl (λcs (x:Value×Nat)=>cs.setIfInBounds (i*k+j+x.2) x.1) c=(v.cells.toList.zipIdx 0).foldl (λcs (x:Value×Nat)=>cs.setIfInBounds (i*k+j+x.2) x.1) c:=by
  rw[<-Array.foldl_toList];simp
 intro c';have a4:c'=(v.cells.toList.zipIdx 0).foldl (λcs (x:Value×Nat)=>cs.setIfInBounds (i*k+j+x.2) x.1) c:=cI;rw[a4];have hlen:v.cells.toList.length=a.cells.length:=by simpa using cp
 have Ms:i*k+k<=c.size:=by
  have J:(i+1)*k<=l.length*k:=Nat.mul_le_mul_right k iK
  have γ:=h.1;rw[Nat.add_mul] at J;omega
 refine⟨k1,by rw[k1];simpa using h.1,λeD aJ a9=>?_⟩;by_cases tM:eD=i
 ·subst tM;rw[List.getElem?_set_self iK] at a9;cases a9;rw[bX];refine⟨by simp;omega,λbK c2 ζ=>?_⟩;rw[cy,hlen];by_cases bb:j<=bK/\bK<j+a.cells.length
  ·have G9:a.cells[bK-j]?=some c2:=by
    rw[List.append_assoc,hE (by simp;omega)] at ζ;simp only[List.length_take] at ζ;rw[ea (by omega)] at ζ;have:bK-min j e.cells.length=bK-j:=by omega
    rw[this] at ζ;exact ζ
   obtain⟨x,J,γ,π⟩:=im _ _ G9;rw[if_pos ⟨by omega,by omega,by omega⟩];have:eD*k+bK-(eD*k+j+0)=bK-j:=by omega
   rw[this,Array.getElem?_toList];exact⟨x,J,γ,π⟩
  ·have G9:e.cells[bK]?=some c2:=by
    by_cases kJ:bK<j
    ·rw[List.append_assoc,ea (by simp;omega),List.getElem?_take_of_lt kJ] at ζ;exact ζ
    ·rw[hE (by simp;omega)] at ζ;rw[List.getElem?_drop] at ζ;have:j+a.cells.length+(bK-(e.cells.take j++a.cells).length)=bK:=by simp;omega
     rw[this] at ζ;exact ζ
   rw[if_neg (λx=>bb ⟨by omega,by omega⟩)];exact(h.2 eD e he).2 bK c2 G9
 ·rw[List.getElem?_set_ne (Ne.symm tM)] at a9;obtain⟨J,γ⟩:=h.2 eD aJ a9;refine⟨J,λbK c2 ζ=>?_⟩;have oK:bK<k:=by rw[<-J];exact(b7.1 ζ).1
  rw[cy,hlen,if_neg (λx=>Mr (lo:=j) (hi:=j+a.cells.length) oK ε tM ⟨by omega,by omega⟩)];exact γ bK c2 ζ
theorem fI.Mt {z:Value} {a:θ} (ν:ar S B σ a z) (dO:a.cells.all (θ.a8 σ)=true) {k n m:Nat} (χ:a.cells.length=k) (hm:n*k<=m) (fR:Array Value) (Η:fR=z.cells) :
  fI S B σ ((Array.range m).map (fR[· % fR.size]!)) k (List.replicate n a):=by
 obtain⟨cp,im⟩:=ν.cells dO;subst Η;refine⟨by simpa using hm,λi e hi=>?_⟩;obtain⟨J,γ⟩:=b7.1 hi;simp at J γ;subst γ;refine⟨χ,λj c ζ=>?_⟩;obtain⟨x,Ε,Ζ,a6⟩:=im j c ζ;have ε:j<k:=by rw[<-χ];exact(b7.1 ζ).1
 have aH:i*k+j<m:=by
  have:(i+1)*k<=n*k:=Nat.mul_le_mul_right k J;rw[Nat.add_mul] at this;omega
 refine⟨x,?_,Ζ,a6⟩;rw[Array.getElem?_map,Array.getElem?_range,if_pos aH];simp only[Option.map_some];have:(i*k+j) % z.cells.size=j:=by
  rw[cp,χ,Nat.mul_comm,Nat.mul_add_mod];exact Nat.mod_eq_of_lt ε
 rw[this];have bp:j<z.cells.size:=by omega
 rw[e9 bp] at Ε;cases Ε;rw[getElem!_pos z.cells j bp]
theorem fI.later {ay:aC} {B':aP} {σ':List Row} (Α:bZ S ay B B' σ σ') {c:Array Value} {k:Nat} {l:List θ} (h:fI S B σ c k l):fI ay B' σ' c k l:=
 ⟨h.1,λi e hi=>⟨(h.2 i e hi).1,λj a ε=>by obtain⟨x,J,γ,π⟩:=(h.2 i e hi).2 j a ε;exact⟨x,J,γ.later Α,π⟩⟩⟩
theorem fI.one {a:θ} {v:Value} (ν:ar S B σ a v) (dO:a.cells.all (θ.a8 σ)=true):fI S B σ v.cells a.cells.length [a]:=by
 obtain⟨cp,im⟩:=ν.cells dO;refine⟨by simp[cp],λi e hi=>?_⟩
 match i with
 | 0=>
  simp at hi;subst hi;refine⟨rfl,λj c ζ=>?_⟩;rw[Nat.zero_mul,Nat.zero_add];exact im j c ζ
 | i+1=>simp at hi
theorem zR (Β:Holds S B σ H) {c:Array Value} {k:Nat} {l:List θ} (ζ:fI S B σ c k l) (t:TypeId) {K:Nat->ψ->Prop} {E:Value->ψ->Prop}
  (h:∀r,H.fresh r->Holds S (B++[some (r,c.size)]) (σ++[.cells t k l]) (H.dz r c t)->Ext S B H S (B++[some (r,c.size)]) (H.dz r c t)->bZ S S B (B++[some (r,c.size)]) σ (σ++[.cells t k l])->K r (H.dz r c t)) :
  υ P (newObj (.cells c t)) H K E:=by
 refine⟨rfl,λr μ=>?_⟩;have cE:∀b,(∀N,some (r,c.size)≠some (b,N))->kn H (H.dz r c t) b:=λb hb=>by
  have bw:b≠r:=λe=>by subst e;exact hb _ rfl
  exact⟨λo=>by simp[ψ.dz,bw],by simp[ψ.dz,bw],rfl⟩
 have bL:bZ S S B (B++[some (r,c.size)]) σ (σ++[.cells t k l])->jC S (B++[some (r,c.size)]) (σ++[.cells t k l]) (H.dz r c t) (.cells t k l) (some (r,c.size)):=λΑ=>by
  have a4:=ζ.later Α;refine⟨by simp[ψ.dz],ζ.1,λo Γ=>⟨c[o],by simp[ψ.dz,Γ]⟩,λi j=>(c[i*k+j]?).getD undef,λi e hi=>⟨(a4.2 i e hi).1,λj a ε=>?_⟩⟩;obtain⟨x,Ε,Ζ,a6⟩:=(a4.2 i e hi).2 j a ε;simp only[Ε,Option.getD_some];exact⟨by simp[ψ.dz,Ε],Ζ,a6⟩
 obtain⟨J,γ,π⟩:=Β.push (λb N e=>by cases e;exact μ) cE bL;exact h r μ J γ π
theorem zS (Β:Holds S B σ H) (c:Array Value) (t:TypeId) {K:Nat->ψ->Prop} {E:Value->ψ->Prop}
  (h:∀r,Holds (S.lay r c) B σ (H.dz r c t)->Ext S B H (S.lay r c) B (H.dz r c t)->bZ S (S.lay r c) B B σ σ->K r (H.dz r c t)) :
  υ P (newObj (.cells c t)) H K E:=by
 refine⟨rfl,λr μ=>?_⟩;obtain⟨J,γ,π⟩:=Β.lay (c:=c) (t:=t) μ;exact h r J γ π
theorem Mu {r:Nat} {c:Array Value} {a:θ} {k:Nat} (Α:bZ S (S.lay r c) B B σ σ) (ζ:fI S B σ c k [a]):ar (S.lay r c) B σ (.ad a.cells) (.pointer (some ⟨r,0,none⟩)):=by
 have a4:=ζ.later Α;refine .ad r 0 (λj=>(c[j]?).getD undef) (λj x ε=>?_) (λj x ε=>?_)
 ·obtain⟨y,Ε,_⟩:=(a4.2 0 a rfl).2 j x ε;rw[Nat.zero_mul,Nat.zero_add] at Ε;simp[aC.lay,Ε]
 ·obtain⟨y,Ε,Ζ,_⟩:=(a4.2 0 a rfl).2 j x ε;rw[Nat.zero_mul,Nat.zero_add] at Ε;simp only[Ε,Option.getD_some];exact Ζ
theorem CY {r:Nat} {c:Array Value} {k cap:Nat} {l:List θ} (ex:Bool) (Α:bZ S (S.lay r c) B B σ σ) (ζ:fI S B σ c k l) (xN:l.length<=cap) (hex:ex=true->cap=l.length):ar (S.lay r c) B σ (.sl ex k l) (.slice (some ⟨r,0,none⟩) l.length cap):=by
 have a4:=ζ.later Α;refine .sl r 0 cap (λi j=>(c[i*k+j]?).getD undef) hex xN (λi e hi=>(a4.2 i e hi).1) (λi e hi j x ε=>?_) (λi e hi j x ε=>?_)
 ·obtain⟨y,Ε,_⟩:=(a4.2 i e hi).2 j x ε;simp[aC.lay,Ε]
 ·obtain⟨y,Ε,Ζ,_⟩:=(a4.2 i e hi).2 j x ε;simp only[Ε,Option.getD_some];exact Ζ
end
section
variable {P:Program} {T:bd} {S:aC} {B:aP} {H:ψ} {σ:List Row}
def CZ (σ:List Row) (a:θ):c6:=if a.cells.all (θ.a8 σ)=true then .ok (.ad a.cells) σ else .bad
def xO (a:θ):cB:=if a.cells.all (θ.a8 [])=true then .ok (.ad a.cells) else .bad
def xP (t:TypeId) (σ:List Row) (a:θ):c6:=if a.cells.all (θ.a8 σ)=true then .ok (.Ψ σ.length 1 0 0) (σ++[.cells t a.cells.length [a]]) else .bad
theorem Ha (Β:Holds S B σ H) (ty:TypeId) {a:θ} {v:Value} (ν:ar S B σ a v) (dO:a.cells.all (θ.a8 σ)=true):cJ P (do pure (.pointer (some (<-newVar ty v)))) S B H σ (.ok (.ad a.cells) σ):=by
 intro K I;refine υ.bind' ?_;unfold newVar newRow;refine υ.bind' (zS Β v.cells ty λr J γ π=>υ.pure' (υ.pure' ⟨_,_,_,_,I,γ,J,π,?_⟩));exact Mu π (fI.one ν dO)
theorem T9 (Β:Holds S B σ H) (ty:TypeId) {a:θ} {v:Value} (ν:ar S B σ a v):cJ P (Instr.box ty v) S B H σ (CZ σ a):=by
 unfold CZ;split
 ·rename_i dO;exact Ha Β ty ν dO
 ·exact .bad
theorem T' (Β:Holds S B σ H) (ty:TypeId) {a:θ} {v:Value} (ν:ar S B σ a v):cJ P (Instr.box ty v) S B H σ ((xO a).du σ):=by
 unfold xO;split
 ·rename_i dO;exact Ha Β ty ν (xM dO)
 ·exact .bad
theorem Mv (Β:Holds S B σ H) (ty:TypeId) {a:θ} {v:Value} (ν:ar S B σ a v):cJ P (do pure (.pointer (some (<-newVar ty v)))) S B H σ (xP ty σ a):=by
 unfold xP;split
 ·rename_i dO;intro K I;refine υ.bind' ?_;unfold newVar newRow;refine υ.bind' (zR Β (fI.one ν dO) ty λr _ J γ π=>υ.pure' (υ.pure' ⟨_,_,_,_,I,γ,J,π,?_⟩));have:=ar.Ψ (S:=S) (B:=B++[some (r,v.cells.size)]) (σ:=σ++[.cells ty a.cells.length [a]]) (id:=σ.length) (n:=1) (i:=0) (j:=0) (k:=a.cells.length) (t:=ty) (l:=[a]) (b:=r) (N:=v.cells.size) (by simp) rfl (by rw[<-Β.len];simp);simpa using this
 ·exact .bad
theorem Ua (Β:Holds S B σ H) (ty:TypeId) {a:θ} {v:Value} (ν:ar S B σ a v):cJ P (Instr.box ty v) S B H σ (xP ty σ a):=Mv Β ty ν
def C0 (T:bd) (ty:TypeId) (σ:List Row):c6:=match T ty with|some i=>xP ty σ (hy i.zero)|none=>.bad
def C1 (T:bd) (ty:TypeId):cB:=match T ty with|some i=>xO (hy i.zero)|none=>.bad
theorem Ub (Θ:bT P T) (Β:Holds S B σ H) (ty:TypeId):cJ P (Instr.alloc ty true (.tuple #[])) S B H σ (C0 T ty σ):=by
 unfold C0;cases hi:T ty with
 | none=>exact .bad
 | some i=>
  intro K I;unfold Instr.alloc;exact υ.bind' (Θ.zero hi (Mv Β ty (pG i.zero) K I))
theorem Uc (Θ:bT P T) (Β:Holds S B σ H) (ty:TypeId):cJ P (Instr.alloc ty true (.tuple #[])) S B H σ ((C1 T ty).du σ):=by
 unfold C1;cases hi:T ty with
 | none=>exact .bad
 | some i=>
  simp only[xO];split
  ·rename_i dO;intro K I;unfold Instr.alloc;exact υ.bind' (Θ.zero hi (Ha Β ty (pG i.zero) (xM dO) K I))
  ·exact .bad
def qU (pl:Nat->Option (Nat×Nat×Nat)) (k:Nat) (a8:θ->Bool) (l:List θ):List (Nat×θ)->Option (List θ)
 | []=>some l
 |(x,a)::r=>match pl x with
  | some (i,j,n)=>match l[i]? with
   | some e=>if a.cells.length=n/\j+n<=k/\a.cells.all a8=true then qU pl k a8 (l.set i (e.sh j a.cells)) r else none
   | none=>none
  | none=>none
theorem Hb {k:Nat} {a8:θ->Bool} (nT:∀a:θ,a8 a=true->a.a8 σ=true) {pl:Nat->Option (Nat×Nat×Nat)} {place:Nat->Option (Nat×Nat)} (eX:∀x i j n,pl x=some (i,j,n)->place x=some (i*k+j,n)) {env:Ω} {t:Array Value} (cL:cY S B σ env t) :
  ∀(cS:List (Nat×Operand)) (c:Array Value) (l dV:List θ),fI S B σ c k l->qU pl k a8 l (cS.map λp=>(p.1,aO env p.2))=some dV->
  ∃c',Instr.fill place c (cS.map λp=>(p.1,br t p.2))=some c'/\c'.size=c.size/\fI S B σ c' k dV/\dV.length=l.length:=by
 intro cS
 induction cS with
 | nil=>intro c l dV ζ h;cases h;exact⟨c,rfl,rfl,ζ,rfl⟩
 | cons p cS Δ=>
  obtain⟨x,o⟩:=p;intro c l dV ζ h;simp only[List.map_cons,qU] at h;split at h<;>try cases h
  rename_i i j n ω;split at h<;>try cases h
  rename_i e he;split at h<;>try cases h
  rename_i Cn;obtain⟨J,γ,π⟩:=Cn;have ν:=lz cL o;have dO:(aO env o).cells.all (θ.a8 σ)=true:=by
   rw[List.all_eq_true] at π ⊢;exact λa ν=>nT a (π a ν)
  obtain⟨cp,_⟩:=ν.cells dO;obtain⟨k1,cy⟩:=ζ.put he ν dO (by omega:j+(aO env o).cells.length<=k);obtain⟨c',Ε,Ζ,a6,cD⟩:=Δ _ _ _ cy h;refine⟨c',?_,by rw[Ζ,k1],a6,by rw[cD];simp⟩;have iK:i<l.length:=(b7.1 he).1;have hle:i*k+j+(br t o).cells.size<=c.size:=by
   have a1:(i+1)*k<=l.length*k:=Nat.mul_le_mul_right k iK
   have ba:=ζ.1;rw[Nat.add_mul] at a1;omega
  simp only[List.map_cons,Instr.fill,eX x i j n ω];have c1:((br t o).cells.size≠n)=False:=by simp;omega
  have c2:(i*k+j+(br t o).cells.size > c.size)=False:=by simp;omega
  simp only[bne_iff_ne,ne_eq,Bool.or_eq_true,decide_eq_true_eq,c1,c2];simp only[ne_eq] at c1;simp only[c1,or_self,if_false];exact Ε
def Mw (T:bd) (c9:Array Field):Option (List (Nat×Nat)):=c9.toList.mapM λf=>(T f.type).map λi=>(f.offset,i.size)
theorem Ud (Θ:bT P T) {K:Array (Nat×Nat)->ψ->Prop} {E:Value->ψ->Prop} {c9:Array Field} {l:List (Nat×Nat)} (h:Mw T c9=some l) (χ:K l.toArray H) :
  υ P (c9.mapM λf=>(do pure (f.offset,<-sizeOf f.type):Sem (Nat×Nat))) H K E:=by
 have key:∀(gs:List Field) (l:List (Nat×Nat)) (K:List (Nat×Nat)->ψ->Prop),(gs.mapM λf=>(T f.type).map λi=>(f.offset,i.size))=some l->K l H->υ P (gs.mapM λf=>(do pure (f.offset,<-sizeOf f.type):Sem (Nat×Nat))) H K E:=by
  intro gs
  induction gs with
  | nil=>intro l K h χ;simp at h;subst h;exact υ.pure' χ
  | cons f gs Δ=>
   intro l K h χ;rw[List.mapM_cons] at h ⊢;cases Τ:T f.type with
   | none=>rw[Τ] at h;cases h
   | some i=>
    rw[Τ] at h;simp only[Option.map_some,Option.bind_eq_bind,Option.bind_some] at h;cases Υ:(gs.mapM λf=>(T f.type).map λi=>(f.offset,i.size)) with
    | none=>rw[Υ] at h;cases h
    | some l2=>
     rw[Υ] at h;cases h;refine υ.bind' (υ.bind' (Θ.size Τ (υ.pure' ?_)));refine υ.bind' (Δ l2 _ Υ ?_);exact υ.pure' χ
 rw[Array.mapM_eq_mapM_toList];exact υ.bind (c9.toList.mapM _) (key c9.toList l _ h (υ.pure' χ))
def m' (T:bd) (a8:θ->Bool) (ty:TypeId) (parts:List (Nat×θ)):cB:=match T ty with
 | some i=>
  let z:=hy i.zero
  if z.cells.length=i.zero.cells.size/\z.cells.all (θ.a8 [])=true then match i.bI with
   | .struct c9=>match Mw T c9 with
    | some pl=>match qU (λx=>(pl[x]?).map λp=>(0,p.1,p.2)) z.cells.length a8 [z] parts with
     | some [e]=>.ok (.aW e.cells)
     | _=>.bad
    | none=>.bad
   | .array _ el=>match T el with
    | some b0=>match qU (λx=>some (0,x*b0.size,b0.size)) z.cells.length a8 [z] parts with
     | some [e]=>.ok (.aW e.cells)
     | _=>.bad
    | none=>.bad
   | _=>.bad
  else .bad
 | none=>.bad
theorem Mx {c:Array Value} {k:Nat} {e:θ} (h:fI S B σ c k [e]) (χ:c.size=k):ar S B σ (.aW e.cells) (.agg c):=by
 obtain⟨J,γ⟩:=h.2 0 e rfl;refine .aW c (by rw[J,χ]) λj a v ε hv=>?_;obtain⟨x,Ε,Ζ,_⟩:=γ j a ε;rw[Nat.zero_mul,Nat.zero_add,hv] at Ε;cases Ε;exact Ζ
theorem My (Θ:bT P T) (Β:Holds S B σ H) {a8:θ->Bool} (nT:∀a:θ,a8 a=true->a.a8 σ=true) (ty:TypeId) {env:Ω} {t:Array Value} (cL:cY S B σ env t) (parts:Array (Nat×Operand)) :
  cJ P (Instr.build ty (parts.map λ(i,x)=>(i,br t x))) S B H σ ((m' T a8 ty (parts.toList.map λp=>(p.1,aO env p.2))).du σ):=by
 unfold m';cases hi:T ty with
 | none=>exact .bad
 | some i=>
  simp only;split
  ·rename_i Η;obtain⟨tN,zT⟩:=Η;have C2:fI S B σ i.zero.cells (hy i.zero).cells.length [hy i.zero]:=fI.one (pG i.zero) (xM zT);have C3:(parts.map λ(i,x)=>(i,br t x)).toList=parts.toList.map λp=>(p.1,br t p.2):=by simp
   split
   ·rename_i c9 hu;split
    ·rename_i pl eX;split
     ·rename_i e he;intro K I;unfold Instr.build;refine υ.bind' (Θ.zero hi (υ.bind' (Θ.bI hi ?_)));rw[hu];refine υ.bind' (Ud Θ eX ?_);obtain⟨c',Ε,Ζ,a6,_⟩:=Hb (place:=(pl.toArray[·]?)) nT (λx i j n h=>by
       cases U:pl[x]? with
       | none=>rw[U] at h;cases h
       | some p=>rw[U] at h;cases h;simp[U]) cL parts.toList _ _ _ C2 he
      rw[C3,Ε];exact υ.pure' (.same Β I (Mx a6 (by rw[Ζ,tN])))
     ·exact .bad
    ·exact .bad
   ·rename_i m el hu;split
    ·rename_i b0 dA;split
     ·rename_i e he;intro K I;unfold Instr.build;refine υ.bind' (Θ.zero hi (υ.bind' (Θ.bI hi ?_)));rw[hu];refine υ.bind' (Θ.size dA ?_);obtain⟨c',Ε,Ζ,a6,_⟩:=Hb (place:=λi=>some (i*b0.size,b0.size)) nT (λx i j n h=>by
       simp at h;obtain⟨rfl,rfl,rfl⟩:=h;simp) cL parts.toList _ _ _ C2 he
      rw[C3,Ε];exact υ.pure' (.same Β I (Mx a6 (by rw[Ζ,tN])))
     ·exact .bad
    ·exact .bad
   ·exact .bad
  ·exact .bad
def zU (T:bd) (a8:θ->Bool) (ty:TypeId) (len:Nat) (parts:List (Nat×θ)):Option (TypeId×Nat×List θ):=match hY T ty with
 | some (e,k,none)=>match T e with
  | some b0=>if 0<k/\len*k<=2 ^ 24/\(hy b0.zero).cells.length=k/\(hy b0.zero).cells.all (θ.a8 [])=true then
    (qU (λx=>some (x,0,k)) k a8 (List.replicate len (hy b0.zero)) parts).map λl=>(e,k,l) else none
  | none=>none
 | _=>none
theorem Mz (Θ:bT P T) {a8:θ->Bool} (nT:∀a:θ,a8 a=true->a.a8 σ=true) {ty e:TypeId} {len k:Nat} {l:List θ} {env:Ω} {t:Array Value} (cL:cY S B σ env t) {parts:Array (Nat×Operand)}
  (h:zU T a8 ty len (parts.toList.map λp=>(p.1,aO env p.2))=some (e,k,l)) {K:Value->ψ->Prop} {E:Value->ψ->Prop}
  (χ:∀c:Array Value,fI S B σ c k l->l.length=len->υ P (newObj (.cells c e)) H (λr H'=>K (.slice (some ⟨r,0,none⟩) len len) H') E) :
  υ P (Instr.buildSlice ty len (parts.map λ(i,x)=>(i,br t x))) H K E:=by
 unfold zU at h;split at h<;>try cases h
 rename_i aJ ab he;split at h<;>try cases h
 rename_i b0 dA;split at h<;>try cases h
 rename_i ζ;obtain⟨J,γ,π,Μ⟩:=ζ;obtain⟨i,Hc,hi,hu,tO,cp⟩:=CS he;rw[dA] at tO;cases tO;cases Τ:qU (λx=>some (x,0,ab)) ab a8 (List.replicate len (hy b0.zero)) (parts.toList.map λp=>(p.1,aO env p.2)) with
 | none=>rw[Τ] at h;cases h
 | some dV=>
  rw[Τ] at h;cases h;unfold Instr.buildSlice;refine υ.bind' (Θ.bI hi ?_);rw[hu];refine υ.bind' (Θ.size dA ?_);rw[cp];have MA:¬(len*k > 2 ^ 24):=by omega
  simp only[MA,if_false];have C3:(parts.map λ(i,x)=>(i,br t x)).toList=parts.toList.map λp=>(p.1,br t p.2):=by simp
  have fin:∀fR:Array Value,(len=0\/fR=b0.zero.cells)->∃c',Instr.fill (λi=>some (i*k,k)) ((Array.range (len*k)).map (fR[· % fR.size]!)) (parts.map λ(i,x)=>(i,br t x)).toList=some c'/\fI S B σ c' k l/\l.length=len:=λfR qV=>by
   have C2:fI S B σ ((Array.range (len*k)).map (fR[· % fR.size]!)) k (List.replicate len (hy b0.zero)):=by
    rcases qV with rfl|qV
    ·exact⟨by simp,λi e hi=>by simp at hi⟩
    ·exact fI.Mt (pG b0.zero) (xM Μ) π (Nat.le_refl _) fR qV
   obtain⟨c',Ε,Ζ,a6,cD⟩:=Hb (place:=λi=>some (i*k,k)) nT (λx i j n h=>by
    simp at h;obtain⟨rfl,rfl,rfl⟩:=h;simp) cL parts.toList _ _ _ C2 Τ
   rw[C3];exact⟨c',Ε,a6,by rw[cD];simp⟩
  by_cases Α:len=0
  ·obtain⟨c',Ε,Ζ,a6⟩:=fin #[] (.inl Α);have Η:len*k=0:=by rw[Α];simp
   rw[if_pos Η];refine υ.bind' (υ.pure' ?_);rw[Ε];exact υ.bind' (χ c' Ζ a6)
  ·have bw:len*k≠0:=by
    intro ah;rcases Nat.mul_eq_zero.1 ah with ah|ah<;>omega
   obtain⟨c',Ε,Ζ,a6⟩:=fin _ (.inr rfl);rw[if_neg bw];refine υ.bind' (Θ.zero dA ?_);refine υ.bind' (υ.pure' ?_);rw[Ε];exact υ.bind' (χ c' Ζ a6)
def zV (T:bd) (a8:θ->Bool) (ty:TypeId) (len:Nat) (parts:List (Nat×θ)):cB:=match zU T a8 ty len parts with
 | some (_,k,l)=>.ok (.sl true k l)
 | none=>.bad
def C4 (T:bd) (ty:TypeId) (len:Nat) (parts:List (Nat×θ)) (σ:List Row):c6:=match zU T (θ.a8 σ) ty len parts with
 | some (e,k,l)=>.ok (.ms σ.length len 0 len) (σ++[.cells e k l])
 | none=>.bad
theorem MB (Θ:bT P T) (Β:Holds S B σ H) {a8:θ->Bool} (nT:∀a:θ,a8 a=true->a.a8 σ=true) (ty:TypeId) (len:Nat) {env:Ω} {t:Array Value} (cL:cY S B σ env t) (parts:Array (Nat×Operand)) :
  cJ P (Instr.buildSlice ty len (parts.map λ(i,x)=>(i,br t x))) S B H σ ((zV T a8 ty len (parts.toList.map λp=>(p.1,aO env p.2))).du σ):=by
 unfold zV;split
 ·rename_i e k l h;intro K I;refine Mz Θ nT cL h λc ζ hlen=>zS Β c e λr J γ π=>⟨_,_,_,_,I,γ,J,π,?_⟩;have:=CY (cap:=len) true π ζ (by omega) (λ_=>hlen.symm);rw[hlen] at this;exact this
 ·exact .bad
theorem MC {r n k:Nat} {t:TypeId} {l:List θ} (hlen:B.length=σ.length) (c:Array Value) (ζ:l.length*k<=c.size) (Ι:l.length=n):ar S (B++[some (r,c.size)]) (σ++[.cells t k l]) (.ms σ.length n 0 n) (.slice (some ⟨r,0,none⟩) n n):=by
 have:=ar.ms (S:=S) (B:=B++[some (r,c.size)]) (σ:=σ++[.cells t k l]) (id:=σ.length) (n:=n) (i:=0) (len:=n) (t:=t) (k:=k) (l:=l) (bo:=some (r,c.size)) (base:=some ⟨r,0,none⟩) n (by simp) Ι (by rw[<-hlen];simp) (by omega) (Nat.le_refl _) (.inr ⟨r,c.size,rfl,by simp,by subst Ι;simpa using ζ⟩);exact this
theorem Ue (Θ:bT P T) (Β:Holds S B σ H) (ty:TypeId) (len:Nat) {env:Ω} {t:Array Value} (cL:cY S B σ env t) (parts:Array (Nat×Operand)) :
  cJ P (Instr.buildSlice ty len (parts.map λ(i,x)=>(i,br t x))) S B H σ (C4 T ty len (parts.toList.map λp=>(p.1,aO env p.2)) σ):=by
 unfold C4;split
 ·rename_i e k l h;intro K I;exact Mz Θ (λa h=>h) cL h λc ζ hlen=>zR Β ζ e λr _ J γ π=>⟨_,_,_,_,I,γ,J,π,MC Β.len c ζ.1 hlen⟩
 ·exact .bad
def zW (T:bd) (ty:TypeId) (a b:θ):Option (TypeId×Nat×θ×Int×Int):=match hY T ty,a,b with
 | some (e,k,none),.z (.int _ n),.z (.int _ m)=>match T e with
  | some b0=>if 0<k/\(hy b0.zero).cells.length=k/\(hy b0.zero).cells.all (θ.a8 [])=true then some (e,k,hy b0.zero,n,b0.bytes) else none
  | none=>none
 | _,_,_=>none
end
section
variable {P:Program} {T:bd} {S:aC} {B:aP} {H:ψ} {σ:List Row}
theorem MD (Θ:bT P T) {ty e:TypeId} {k:Nat} {z:θ} {n bytes:Int} {a b:θ} {u v:Value} (ν:ar S B σ a u) (hb:ar S B σ b v) (h:zW T ty a b=some (e,k,z,n,bytes)) (gS:∀kk m,b=.z (.int kk m)->m=n) (Ι:0<=n/\0<bytes/\bytes*n<=2 ^ 48) {K:Value->ψ->Prop} {E:Value->ψ->Prop}
  (χ:∀c:Array Value,fI S B σ c k (List.replicate n.toNat z)->υ P (newObj (.cells c e)) H (λr H'=>K (.slice (some ⟨r,0,none⟩) n.toNat n.toNat) H') E) :
  υ P (Instr.makeSlice ty u v) H K E:=by
 unfold zW at h;split at h<;>try cases h
 rename_i aJ ab k1 iT cy m he;split at h<;>try cases h
 rename_i b0 dA;split at h<;>try cases h
 rename_i ζ;obtain⟨J,γ,π⟩:=ζ;cases ν;cases hb;have hm:=gS _ _ rfl;subst hm;obtain⟨i,Hc,hi,hu,tO,cp⟩:=CS he;rw[dA] at tO;cases tO;obtain⟨qW,jA,Hd⟩:=Ι;have hle:m<=2 ^ 48:=by
  have:1*m<=(b0.bytes:Int)*m:=Int.mul_le_mul_of_nonneg_right (by omega) qW;omega
 have hw:IntKind.i64.wrap m=m:=IntWalk.i64_in m ⟨by omega,by omega⟩;unfold Instr.makeSlice;refine υ.bind' (Θ.bI hi ?_);rw[hu];refine υ.bind' (υ.bind' (υ.pure' (υ.pure' ?_)));refine υ.bind' (υ.bind' (υ.pure' (υ.pure' ?_)));refine υ.bind' (Θ.info dA λf Τ=>?_);simp only[hw,Τ];have c1:¬m<0:=by omega
 have c2:¬((b0.bytes:Int)*m > 2 ^ 48):=by omega
 have c3:¬m > m:=by omega
 simp only[c1,c2,c3,decide_false,Bool.or_false,Bool.false_eq_true,if_false];refine υ.bind' ?_;have fin:υ P (do
   let ME <-(do pure (m.toNat*(<-sizeOf e)):Sem Nat)
   let zero <-if ME=0 then pure #[] else do pure (<-zeroValue e).cells
   let a <-newRow e ((Array.range ME).map (zero[· % zero.size]!))
   pure (.slice (some a) m.toNat m.toNat)) H K E:=by
  refine υ.bind' (υ.bind' (Θ.size dA (υ.pure' ?_)));rw[cp];by_cases Η:m.toNat*k=0
  ·rw[if_pos Η];refine υ.bind' (υ.pure' ?_);refine υ.bind' (υ.bind' ?_);refine χ _ ?_;rcases Nat.mul_eq_zero.1 Η with ah|ah
   ·rw[ah];exact⟨by simp,λi e hi=>by simp at hi⟩
   ·omega
  ·rw[if_neg Η];refine υ.bind' (Θ.zero dA ?_);refine υ.bind' (υ.pure' ?_);refine υ.bind' (υ.bind' ?_);exact χ _ (fI.Mt (pG b0.zero) (xM π) γ (Nat.le_refl _) _ rfl)
 unfold askRoom;split
 ·refine⟨rfl,?_⟩;show υ P _ H K E;have:=fin;simpa using this
 ·refine υ.pure' ?_;show υ P _ H K E;have:=fin;simpa using this
def C5 (T:bd) (ty:TypeId) (a b:θ) (σ:List Row):c6:=match zW T ty a b,b with
 | some (e,k,z,n,bytes),.z (.int _ m)=>.b5 (m=n/\0<=n/\0<bytes/\bytes*n<=2 ^ 48) (.ok (.ms σ.length n.toNat 0 n.toNat) (σ++[.cells e k (List.replicate n.toNat z)]))
 | _,_=>.bad
theorem Uf (Θ:bT P T) (Β:Holds S B σ H) {ty:TypeId} {a b:θ} {u v:Value} (ν:ar S B σ a u) (hb:ar S B σ b v):cJ P (Instr.makeSlice ty u v) S B H σ (C5 T ty a b σ):=by
 unfold C5;split
 ·rename_i e k z n bytes kk m h;refine .b5 λ⟨hm,Ι⟩ K I=>?_;refine MD Θ ν hb h (λGN b2 aJ=>by cases aJ;exact hm) Ι λc ζ=>zR Β ζ e λr _ J γ π=>⟨_,_,_,_,I,γ,J,π,?_⟩;exact MC Β.len c ζ.1 (by simp)
 ·exact .bad
def C6 (T:bd) (ty:TypeId) (a b:θ):cB:=match zW T ty a b,b with
 | some (_,k,z,n,bytes),.z (.int _ m)=>.b5 (m=n/\0<=n/\0<bytes/\bytes*n<=2 ^ 48) (.ok (.sl true k (List.replicate n.toNat z)))
 | _,_=>.bad
theorem Ug (Θ:bT P T) (Β:Holds S B σ H) {ty:TypeId} {a b:θ} {u v:Value} (ν:ar S B σ a u) (hb:ar S B σ b v):cJ P (Instr.makeSlice ty u v) S B H σ ((C6 T ty a b).du σ):=by
 unfold C6;split
 ·rename_i e k z n bytes kk m h;refine cJ.b5 (r:=(cB.ok (.sl true k (List.replicate n.toNat z))).du σ) λ⟨hm,Ι⟩ K I=>?_;refine MD Θ ν hb h (λGN b2 aJ=>by cases aJ;exact hm) Ι λc ζ=>zS Β c e λr J γ π=>⟨_,_,_,_,I,γ,J,π,?_⟩;have:=CY (cap:=n.toNat) true π ζ (by simp) (λ_=>by simp);simpa using this
 ·exact .bad
def Reads (H:ψ) (base:Option Addr) (m:Nat) (w:Nat->Value):Prop:=m=0\/∃b o,base=some ⟨b,o,none⟩/\∀j,j<m->∃p,H.aG b (o+j)=some (w j,p)
theorem He {base:Option Addr} {k n cap:Nat} {len:Nat} {w:Nat->Value} (h:Reads H base (n*k) w) {K:Array Value->ψ->Prop} {E:Value->ψ->Prop} (χ:K ((List.range (n*k)).map w).toArray H) :
  υ P (Builtin.firstCells k n (.slice base len cap)) H K E:=by
 rcases h with h|⟨b,o,rfl,h⟩
 ·rw[h] at χ;cases base with
  | none=>exact υ.pure' χ
  | some a=>
   show υ P (loadCells a (n*k)) H K E;rw[h];exact υ.pure' χ
 ·exact υ.loadCells w rfl h χ
theorem Uh {b5 old:Nat} (h:old<b5):Builtin.nextslicecap b5 old<=2*b5+768:=by
 unfold Builtin.nextslicecap;have grow:∀r c,c<=2*b5+768->Builtin.growBy b5 r c<=2*b5+768:=by
  intro r
  induction r with
  | zero=>intro c ζ;exact ζ
  | succ r Δ=>
   intro c ζ;unfold Builtin.growBy;split
   ·exact ζ
   ·exact Δ _ (by omega)
 split
 ·omega
 ·split
  ·omega
  ·exact grow 4 old (by omega)
def il.isInt (i:il):Bool:=i.bI matches .int _
def lA (T:bd) (st xt:TypeId):Option (TypeId×Nat×il):=match hY T st,T xt with
 | some (e,k,none),some cg=>match T e with
  | some b0=>if 0<k/\b0.zero.cells.size=k/\0<b0.bytes/\b0.bytes<=4096/\cg.isInt=false then some (e,k,b0) else none
  | none=>none
 | _,_=>none
theorem Hf (Θ:bT P T) {st xt rt e:TypeId} {k:Nat} {b0:il} (h:lA T st xt=some (e,k,b0)) {base zX:Option Addr} {sLen pI n C7:Nat} {wo wn:Nat->Value} (Γ:Reads H base (sLen*k) wo) (Ι:Reads H zX (n*k) wn) (MA:sLen+n<=4294967296) {K:Value->ψ->Prop} {E:Value->ψ->Prop}
  (bb:sLen+n<=pI->υ P (match base with|some a=>storeCells (a.add (sLen*k)) ((List.range (n*k)).map wn)|none=>pure ()) H (λ_ H'=>K (.slice base (sLen+n) pI) H') E)
  (tC:pI<sLen+n->∀jW,sLen+n<=jW->υ P (newObj (.cells (((List.range (sLen*k)).map wo).toArray++((List.range (n*k)).map wn).toArray++Builtin.zeroCells b0.zero.cells (jW-(sLen+n))) e)) H (λr H'=>K (.slice (some ⟨r,0,none⟩) (sLen+n) jW) H') E) :
  υ P (Builtin.append_ #[st,xt] rt #[.slice base sLen pI,.slice zX n C7]) H K E:=by
 unfold lA at h;split at h<;>try cases h
 rename_i aJ ab cg he oI;split at h<;>try cases h
 rename_i Hc dA;split at h<;>try cases h
 rename_i ζ;obtain⟨J,γ,π,Μ,aB⟩:=ζ;obtain⟨i,Hc,hi,hu,tO,cp⟩:=CS he;rw[dA] at tO;cases tO;unfold Builtin.append_;simp only[List.getElem?_toArray,List.getElem?_cons_zero,List.getElem?_cons_succ];refine υ.bind' (Θ.bI hi ?_);rw[hu];refine υ.bind' (Θ.size dA ?_);rw[cp];refine υ.bind' (υ.bind' (Θ.bI oI ?_));split
 ·rename_i χ;unfold il.isInt at aB;rw[χ] at aB;cases aB
 refine υ.bind' (υ.pure' ?_);simp only[Bool.false_eq_true,if_false,Bool.not_false,if_true];refine υ.bind' (υ.pure' ?_);split
 ·rename_i hle;refine υ.bind' (He Ι ?_);have:=bb hle;cases base with
  | none=>exact this
  | some a=>exact υ.bind' this
 ·rename_i MF;have MG:pI<sLen+n:=by omega
  refine υ.bind' (Θ.info dA λf Τ=>?_);have dC:¬(((sLen+n:Nat):Int) > IntKind.i64.max/\(False\/f.bytes=0)):=by rw[Τ];rintro⟨_,h|h⟩;exact h;omega
  simp only[dC,if_false];refine υ.bind' (Θ.info dA λf2 Ui=>?_);have c1:¬(Builtin.nextslicecap (sLen+n) pI*f2.bytes > 2 ^ 48):=by
   rw[Ui];have a1:=Uh MG;have ba:Builtin.nextslicecap (sLen+n) pI*b0.bytes<=(2*(sLen+n)+768)*4096:=Nat.mul_le_mul a1 Μ;omega
  simp only[c1,if_false];refine υ.bind' ?_;show υ P (choose _) H _ E;unfold choose;simp only[υ];have Χ:(Question.appendCap (sLen+n) pI e).forced=false:=rfl;rw[Χ];simp only[Bool.false_eq_true,if_false];intro q;refine υ.bind' (Θ.info dA λf3 Hg=>?_);have fin:υ P (do
    let old <-Builtin.firstCells k sLen (.slice base sLen pI)
    let new <-Builtin.firstCells k n (.slice zX n C7)
    let rest <-(do pure (Builtin.zeroCells (<-zeroValue e).cells ((Question.appendCap (sLen+n) pI e).cut q-(sLen+n))):Sem (Array Value))
    pure (.slice (some (<-newRow e (old++new++rest))) (sLen+n) ((Question.appendCap (sLen+n) pI e).cut q))) H K E:=by
   refine υ.bind' (He Γ ?_);refine υ.bind' (He Ι ?_);refine υ.bind' (υ.bind' (Θ.zero dA (υ.pure' ?_)));refine υ.bind' (υ.bind' ?_);exact tC MG _ (by simp[Question.cut])
  refine υ.bind' ?_;unfold askRoom;split
  ·refine⟨rfl,?_⟩;show υ P _ H K E;simpa using fin
  ·refine υ.pure' ?_;show υ P _ H K E;simpa using fin
end
section
variable {P:Program} {T:bd} {S:aC} {B:aP} {H:ψ} {σ:List Row}
def pJ (σ:List Row):θ->Option (Nat×List θ)
 | .sl _ k l=>some (k,l)
 | .ms id n i len=>match σ[id]? with
  | some (.cells _ k l)=>if l.length=n/\i+len<=n then some (k,(l.drop i).take len) else none
  | _=>none
 | _=>none
def xQ (S:aC) (B:aP) (σ:List Row) (w:Nat->Value) (k:Nat) (l:List θ):Prop:=∀(i:Nat) (e:θ),l[i]?=some e->e.cells.length=k/\∀(j:Nat) (a:θ),e.cells[j]?=some a->ar S B σ a (w (i*k+j))
theorem Uj {k i j:Nat} (ε:j<k):(i*k+j) / k=i/\(i*k+j) % k=j:=by
 have χ:0<k:=by omega
 refine⟨?_,?_⟩
 ·rw[Nat.add_comm,Nat.add_mul_div_right _ _ χ,Nat.div_eq_of_lt ε,Nat.zero_add]
 ·rw[Nat.add_comm,Nat.add_mul_mod_self_right];exact Nat.mod_eq_of_lt ε
theorem C8 (Β:Holds S B σ H) {a:θ} {v:Value} {k k1:Nat} {l:List θ} (ν:ar S B σ a v) (h:pJ σ a=some (k1,l)) (χ:0<k) (qX:l.isEmpty=true\/k1=k) :
  ∃base cap w,v=.slice base l.length cap/\l.length<=cap/\Reads H base (l.length*k) w/\xQ S B σ w k l:=by
 have flat:∀(b o:Nat) (w2:Nat->Nat->Value),(∀(i:Nat) (e:θ),l[i]?=some e->e.cells.length=k)->(∀(i:Nat) (e:θ),l[i]?=some e->∀(j:Nat) (c:θ),e.cells[j]?=some c->∃p,H.aG b (o+i*k+j)=some (w2 i j,p))->
   (∀(i:Nat) (e:θ),l[i]?=some e->∀(j:Nat) (c:θ),e.cells[j]?=some c->ar S B σ c (w2 i j))->Reads H (some ⟨b,o,none⟩) (l.length*k) (λm=>w2 (m / k) (m % k))/\xQ S B σ (λm=>w2 (m / k) (m % k)) k l:=by
  intro b o w2 J γ π;refine⟨.inr ⟨b,o,rfl,λm hm=>?_⟩,λi e hi=>⟨J i e hi,λj c ε=>?_⟩⟩
  ·have hi:m / k<l.length:=(Nat.div_lt_iff_lt_mul χ).2 hm
   have m9:l[m / k]?=some l[m / k]:=a2 hi
   have ε:m % k<l[m / k].cells.length:=by rw[J _ _ m9];exact Nat.mod_lt _ χ
   obtain⟨p,ω⟩:=γ _ _ m9 (m % k) _ (a2 ε);refine⟨p,?_⟩;have:o+m=o+m / k*k+m % k:=by have:=Nat.div_add_mod m k;rw[Nat.mul_comm] at this;omega
   rw[this];exact ω
  ·have oK:j<k:=by rw[<-J i e hi];exact(b7.1 ε).1
   obtain⟨Ε,Ζ⟩:=Uj (i:=i) oK;simp only[Ε,Ζ];exact π i e hi j c ε
 have empty:∀(base:Option Addr) (cap:Nat),l=[]->v=.slice base 0 cap->∃base cap w,v=.slice base l.length cap/\l.length<=cap/\Reads H base (l.length*k) w/\xQ S B σ w k l:=λbase cap Α hv=>by
  subst Α;exact⟨base,cap,λ_=>undef,hv,Nat.zero_le _,.inl (by simp),λi e hi=>by simp at hi⟩
 unfold pJ at h;split at h
 ·cases h;obtain⟨base,cap,rfl,J,_,γ⟩:=qT ν;by_cases Α:l=[]
  ·exact empty base cap Α (by rw[Α];rfl)
  ·obtain⟨b,o,w,rfl,π,Μ,aB⟩:=γ Α;have ih:k1=k:=qX.elim (λx=>absurd (List.isEmpty_iff.1 x) Α) id;subst ih;obtain⟨r1,r2⟩:=flat b o w π (λi e hi j c ε=>Β.dg _ _ _ (Μ i e hi j c ε)) aB;exact⟨_,cap,_,rfl,J,r1,r2⟩
 ·rename_i id n i len;split at h
  ·rename_i t ab dV Α;split at h
   ·rename_i ζ;cases h;obtain⟨Ι,hlen⟩:=ζ;have kK:((dV.drop i).take len).length=len:=by simp;omega
    cases ν with
    | ms cap J γ π Μ aB bc=>
     rw[Α] at J;cases J;rcases bc with bc|⟨b,N,rfl,rfl,bc⟩
     ·subst bc;have:len=0:=by omega
      subst this;exact empty _ 0 (by simp) rfl
     ·by_cases Η:len=0
      ·subst Η;exact empty _ cap (by simp) rfl
      ·have bw:¬((dV.drop i).take len).isEmpty=true:=λx=>by
        rw[List.isEmpty_iff] at x;rw[x] at kK;simp at kK;omega
       have ih:=qX.resolve_left bw;subst ih;obtain⟨bL,ck,fQ,w,hw⟩:=Β.row id _ _ Α π;have el:∀(x:Nat) (e:θ),((dV.drop i).take len)[x]?=some e->dV[i+x]?=some e:=λx e U=>by
        rw[List.getElem?_take] at U;split at U
        ·rw[List.getElem?_drop] at U;exact U
        ·cases U
       obtain⟨r1,r2⟩:=flat b (i*k1) (λx j=>w (i+x) j) (λx e U=>(hw _ e (el x e U)).1) (λx e U j c ε=>⟨true,by
        have:=((hw _ e (el x e U)).2 j c ε).1;rw[Nat.add_mul] at this;exact this⟩) (λx e U j c ε=>((hw _ e (el x e U)).2 j c ε).2.1)
       exact⟨_,cap,_,by rw[kK],by rw[kK];exact aB,r1,r2⟩
    | ja v J γ=>rw[Α] at J;cases J;simp only[Row.g9] at γ;omega
   ·cases h
  ·cases h
 ·cases h
theorem Hh {w1 w2:Nat->Value} {k:Nat} {l1 l2:List θ} (J:xQ S B σ w1 k l1) (γ:xQ S B σ w2 k l2) (dH:l1.all (λe=>e.cells.all (θ.a8 σ))=true) (iX:l2.all (λe=>e.cells.all (θ.a8 σ))=true) (z:Array Value) :
  fI S B σ (((List.range (l1.length*k)).map w1).toArray++((List.range (l2.length*k)).map w2).toArray++z) k (l1++l2):=by
 have ok:∀(l:List θ),l.all (λe=>e.cells.all (θ.a8 σ))=true->∀e∈l,∀a∈e.cells,θ.a8 σ a=true:=λl h e he a ν=>List.all_eq_true.1 (List.all_eq_true.1 h e he) a ν;refine⟨by simp[Nat.add_mul],λi e hi=>?_⟩;by_cases aH:i<l1.length
 ·rw[ea aH] at hi;refine⟨(J i e hi).1,λj a ε=>?_⟩;have oK:j<k:=by rw[<-(J i e hi).1];exact(b7.1 ε).1
  have hb:i*k+j<l1.length*k:=by
   have:(i+1)*k<=l1.length*k:=Nat.mul_le_mul_right k aH;rw[Nat.add_mul] at this;omega
  have μ:=(J i e hi).2 j a ε;refine⟨w1 (i*k+j),?_,μ,μ.zQ (ok l1 dH e (cv hi) a (cv ε))⟩;rw[Array.append_assoc,Array.getElem?_append_left (by simpa using hb)];simp[hb]
 ·rw[hE (by omega)] at hi;refine⟨(γ _ e hi).1,λj a ε=>?_⟩;have oK:j<k:=by rw[<-(γ _ e hi).1];exact(b7.1 ε).1
  have vC:i-l1.length<l2.length:=(b7.1 hi).1
  have hb:(i-l1.length)*k+j<l2.length*k:=by
   have:(i-l1.length+1)*k<=l2.length*k:=Nat.mul_le_mul_right k vC;rw[Nat.add_mul] at this;omega
  have he:i*k+j=l1.length*k+((i-l1.length)*k+j):=by
   have:i=l1.length+(i-l1.length):=by omega
   conv=>lhs;rw[this,Nat.add_mul]
   omega
  have μ:=(γ _ e hi).2 j a ε;refine⟨w2 ((i-l1.length)*k+j),?_,μ,μ.zQ (ok l2 iX e (cv hi) a (cv ε))⟩;rw[he,Array.append_assoc,Array.getElem?_append_right (by simp)];rw[Array.getElem?_append_left (by simp;omega)];simp[hb]
def θ.lB (a8:θ->Bool) (l:List θ):Bool:=l.all λe=>e.cells.all a8
def si (T:bd) (st xt:TypeId) (a8:θ->Bool) (σ:List Row) (s x:θ):cB:=
 match lA T st xt,s,pJ σ x with
 | some (_,k,_),.sl true eC l0,some (k1,l1)=>
  if(l0.isEmpty=true\/eC=k)/\(l1.isEmpty=true\/k1=k)/\θ.lB a8 l0=true/\θ.lB a8 l1=true then .b5 (l0.length+l1.length<=4294967296) (.ok (.sl false k (l0++l1))) else .bad
 | _,_,_=>.bad
theorem Uk {k eC:Nat} {l0:List θ} {v:Value} (h:ar S B σ (.sl true eC l0) v) (χ:l0.isEmpty=true\/eC=k):ar S B σ (.sl false k l0) v:=by
 by_cases Α:l0=[]
 ·subst Α;obtain⟨base,cap,rfl,_⟩:=qT h;exact .iI base cap (by simp)
 ·have:=χ.resolve_left (λx=>Α (List.isEmpty_iff.1 x));subst this;cases h with
  | iI=>exact absurd rfl Α
  | sl b o cap w J γ π Μ aB=>exact .sl b o cap w (by simp) γ π Μ aB
theorem Hi {a8:θ->Bool} (nT:∀a:θ,a8 a=true->a.a8 σ=true) {l:List θ} (h:θ.lB a8 l=true):l.all (λe=>e.cells.all (θ.a8 σ))=true:=by
 unfold θ.lB at h;rw[List.all_eq_true] at h ⊢;intro e he;have:=h e he;rw[List.all_eq_true] at this ⊢;exact λa ν=>nT a (this a ν)
theorem MH (Θ:bT P T) (Β:Holds S B σ H) {a8:θ->Bool} (nT:∀a:θ,a8 a=true->a.a8 σ=true) (st xt rt:TypeId) {s x:θ} {u v:Value} (ο:ar S B σ s u) (U:ar S B σ x v) :
  cJ P (Builtin.append_ #[st,xt] rt #[u,v]) S B H σ ((si T st xt a8 σ s x).du σ):=by
 unfold si;split
 ·rename_i e k b0 eC l0 k1 l1 oL tP;split
  ·rename_i ζ;obtain⟨c1,c2,c3,c4⟩:=ζ;refine cJ.b5 (r:=(cB.ok (.sl false k (l0++l1))).du σ) λr8 K I=>?_;have χ:0<k:=by
    unfold lA at oL;split at oL<;>try cases oL
    split at oL<;>try cases oL
    split at oL<;>try cases oL
    rename_i h;exact h.1
   obtain⟨base,cap,w,rfl,_,r1,r2⟩:=C8 Β ο (k:=k) rfl χ c1;obtain⟨zX,C7,w1,rfl,_,r3,iW⟩:=C8 Β U tP χ c2;have xN:cap=l0.length:=by
    obtain⟨Φ,G3,Ε,_,Ζ,_⟩:=qT ο;cases Ε;exact Ζ rfl
   have fin:∀ay H' v,Holds ay B σ H'->Ext S B H ay B H'->bZ S ay B B σ σ->ar ay B σ (.sl false k (l0++l1)) v->iJ S B H σ K v H':=λay H' v a b c d=>⟨ay,B,σ,_,I,b,a,c,d⟩;refine Hf Θ oL r1 r3 r8 (λbb=>?_) (λ_ jW sj=>?_)
   ·have vD:l1=[]:=by
     cases l1 with
     | nil=>rfl
     | cons=>simp at bb;omega
    subst vD;have C9:ar S B σ (.sl false k (l0++[])) (.slice base (l0.length+([]:List θ).length) cap):=by
     rw[List.append_nil];exact Uk ο c1
    cases base with
    | none=>exact υ.pure' (fin S H _ Β (.refl _ _ _) (.refl _ _ _) C9)
    | some a=>
     have Η:((List.range (([]:List θ).length*k)).map w1)=[]:=by simp
     rw[Η];exact υ.pure' (fin S H _ Β (.refl _ _ _) (.refl _ _ _) C9)
   ·refine zS Β _ e λr J γ π=>fin _ _ _ J γ π ?_;have:=CY (cap:=jW) false π (Hh r2 iW (Hi nT c3) (Hi nT c4) (Builtin.zeroCells b0.zero.cells (jW-(l0.length+l1.length)))) (by simpa using sj) (by simp);rw[List.length_append] at this;exact this
  ·exact .bad
 ·exact .bad
end
section
variable {P:Program} {T:bd} {S:aC} {B:aP} {H:ψ} {σ:List Row}
theorem Ul {st xt e:TypeId} {k:Nat} {b0:il} (h:lA T st xt=some (e,k,b0)):0<k/\b0.zero.cells.size=k:=by
 unfold lA at h;split at h<;>try cases h
 split at h<;>try cases h
 split at h<;>try cases h
 rename_i h;exact⟨h.1,h.2.1⟩
theorem C' {α:Type} (l:List α) (x:α):(l++[x])[l.length]?=some x:=by simp
theorem Da {B:aP} {σ:List Row} (hlen:B.length=σ.length) (bo:Option (Nat×Nat)):(B++[bo])[σ.length]?=some bo:=by rw[<-hlen];simp
def vE (H:ψ) (bo:Option (Nat×Nat)) (m:Nat):Value:=match bo with|some (b,_)=>((H.aG b m).map (·.1)).getD undef|none=>undef
theorem MI (z:Array Value) (n:Nat):(Builtin.zeroCells z n).size=n*z.size:=by simp[Builtin.zeroCells]
def Db (T:bd) (st xt:TypeId) (σ:List Row) (s x:θ):c6:=
 match lA T st xt,pJ σ x with
 | some (e,k,_),some (k1,l1)=>
  if(l1.isEmpty=true\/k1=k)/\θ.lB (θ.a8 σ) l1=true then match s with
   | .sl true _ l0=>if l0.isEmpty=true then .b5 (l1.length<=4294967296) (.ok (.ms σ.length l1.length 0 l1.length) (σ++[.cells e k l1])) else .bad
   | .ms id n i len=>match σ[id]? with
    | some (.cells t ab l)=>if i=0/\l.length=n/\len=n/\ab=k/\t=e then .b5 (n+l1.length<=4294967296) (.ok (.ms id (n+l1.length) 0 (n+l1.length)) (σ.set id (.cells t k (l++l1)))) else .bad
    | _=>.bad
   | _=>.bad
  else .bad
 | _,_=>.bad
theorem Um (Θ:bT P T) (Β:Holds S B σ H) (st xt rt:TypeId) {s x:θ} {u v:Value} (ο:ar S B σ s u) (U:ar S B σ x v) :
  cJ P (Builtin.append_ #[st,xt] rt #[u,v]) S B H σ (Db T st xt σ s x):=by
 unfold Db;split
 ·rename_i e k b0 k1 l1 oL tP;split
  ·rename_i ζ;obtain⟨c2,c4⟩:=ζ;obtain⟨χ,qV⟩:=Ul oL;obtain⟨zX,C7,w1,rfl,_,r3,iW⟩:=C8 Β U tP χ c2;have Hj:=Hi (σ:=σ) (λa h=>h) c4;split
   ·rename_i eC l0;split
    ·rename_i he;have Hk:l0=[]:=List.isEmpty_iff.1 he;subst Hk;refine .b5 λr8 K I=>?_;obtain⟨base,cap,rfl,_,xN,_⟩:=qT ο;have Un:cap=0:=xN rfl;subst Un;refine Hf Θ oL (sLen:=0) (wo:=λ_=>undef) (.inl (by simp)) r3 (by omega) (λbb=>?_) (λ_ jW sj=>?_)
     ·have vD:l1=[]:=by
       cases l1 with
       | nil=>rfl
       | cons=>simp at bb
      subst vD;obtain⟨dP,p2,p3⟩:=Β.push (H':=H) (r:=.cells e k []) (bo:=none) (λb N e=>by cases e) (λb _=>⟨λ_=>rfl,rfl,rfl⟩) (λ_=>rfl);have fin:iJ S B H σ K (.slice base (([]:List θ).length+([]:List θ).length) 0) H:=⟨S,_,_,_,I,p2,dP,p3,.ms 0 (C' σ _) rfl (Da Β.len _) (by simp) (Nat.le_refl _) (.inl rfl)⟩;cases base with
      | none=>exact υ.pure' fin
      | some a=>
       have Η:((List.range (([]:List θ).length*k)).map w1)=[]:=by simp
       rw[Η];exact υ.pure' fin
     ·have Α:fI S B σ (((List.range (0*k)).map λ_=>undef).toArray++((List.range (l1.length*k)).map w1).toArray++Builtin.zeroCells b0.zero.cells (jW-(0+l1.length))) k ([]++l1):=
       Hh (l1:=[]) (λi e hi=>by simp at hi) iW (by simp) Hj _
      rw[List.nil_append] at Α;refine zR Β Α e λr _ J γ π=>⟨_,_,_,_,I,γ,J,π,?_⟩;simp only[List.length_nil,Nat.zero_add];refine .ms jW (C' σ _) rfl (Da Β.len _) (by omega) (by simpa using sj) (.inr ⟨r,_,rfl,by simp,?_⟩);simp only[Nat.zero_add,Array.size_append,List.size_toArray,List.length_map,List.length_range,MI,qV,Nat.zero_mul];rw[<-Nat.add_mul];have:l1.length+(jW-l1.length)=jW:=by simp at sj;omega
      rw[this];exact Nat.le_refl _
    ·exact .bad
   ·rename_i id n i len;split
    ·rename_i t ab l Α;split
     ·rename_i ml;obtain⟨kh,Ι,hlen,qX,Uo⟩:=ml;subst kh;subst hlen;subst qX;subst Uo;refine .b5 λr8 K I=>?_;cases ο with
      | @ms _ _ _ _ _ _ _ bo base cap J γ π Μ aB bc=>
       rw[Α] at J;cases J;have cf:=Β.row id _ bo Α π;have Hl:Reads H base (len*ab) (vE H bo):=by
        rcases bc with bc|⟨b,N,rfl,rfl,bc⟩
        ·exact .inl (by rw[show len=0 from by omega];simp)
        ·refine .inr ⟨b,0,by simp,λj ε=>⟨true,?_⟩⟩;obtain⟨w,hw⟩:=cf.2.2.1 j (by have:=cf.2.1;rw[Ι] at this;omega);rw[Nat.zero_add];simp[hw,vE]
       have same:l1=[]->iJ S B H σ K (.slice base (len+l1.length) cap) H:=λcI=>by
        subst cI;have bS:id<σ.length:=(b7.1 Α).1;have tQ:σ.set id (.cells t ab (l++[]))=σ:=by
         rw[List.append_nil];apply List.ext_getElem?;intro j;by_cases mj:id=j
         ·subst mj;rw[List.getElem?_set_self bS,Α]
         ·rw[List.getElem?_set_ne mj]
        rw[tQ] at I;exact⟨S,B,σ,_,I,.refl _ _ _,Β,.refl _ _ _,.ms cap Α Ι π (by simp) aB bc⟩
       have bS:id<σ.length:=(b7.1 Α).1
       have oG:id<B.length:=by rw[Β.len];exact bS
       refine Hf Θ oL Hl r3 r8 (λbb=>?_) (λMF jW sj=>?_)
       ·by_cases cI:l1=[]
        ·have:=same cI;subst cI;cases base with
         | none=>exact υ.pure' this
         | some a=>
          have Η:((List.range (([]:List θ).length*ab)).map w1)=[]:=by simp
          rw[Η];exact υ.pure' this
        ·have pK:0<l1.length:=List.length_pos_iff.2 cI;rcases bc with bc|⟨b,N,rfl,rfl,bc⟩
         ·omega
         ·obtain⟨bL,ck,fQ,w,hw⟩:=cf;have Up:(len+l1.length)*ab<=N:=by
           have:(len+l1.length)*ab<=(0+cap)*ab:=Nat.mul_le_mul_right _ (by omega);omega
          rw[Nat.add_mul] at Up;have Uq:(⟨b,0*ab,none⟩:Addr).add (len*ab)=⟨b,len*ab,none⟩:=by rw[tL];simp
          have MJ:((List.range (l1.length*ab)).map w1).length=l1.length*ab:=by simp
          have hZ:∀j,j<l1.length*ab->((List.range (l1.length*ab)).map w1)[j]?=some (w1 j):=λj ε=>by simp[ε]
          have MK:∀(i:Nat) (e:θ) (j:Nat) (a:θ),l1[i]?=some e->e.cells[j]?=some a->One (w1 (i*ab+j)):=λi e j a hi ε=>
           ((iW i e hi).2 j a ε).zQ (List.all_eq_true.1 (List.all_eq_true.1 Hj e (cv hi)) a (cv ε))
          have Ur:∀v∈(List.range (l1.length*ab)).map w1,One v:=λv hv=>by
           obtain⟨m,hm,rfl⟩:=List.mem_map.1 hv;have df:m<l1.length*ab:=by simpa using hm
           have hi:m / ab<l1.length:=(Nat.div_lt_iff_lt_mul χ).2 df
           have m9:=a2 hi
           have ε:m % ab<l1[m / ab].cells.length:=by rw[(iW _ _ m9).1];exact Nat.mod_lt _ χ
           have:=MK _ _ _ _ m9 (a2 ε)
           have Ε:m / ab*ab+m % ab=m:=by have:=Nat.div_add_mod m ab;rw[Nat.mul_comm] at this;exact this
           rw[Ε] at this;exact this
          have zz:bZ S S B (B.set id (some (b,N))) σ (σ.set id (.cells t ab (l++l1)))->jC S (B.set id (some (b,N))) (σ.set id (.cells t ab (l++l1))) (H.ht b (len*ab) ((List.range (l1.length*ab)).map w1)) (.cells t ab (l++l1)) (some (b,N)):=λkA=>by
           refine⟨bL,by simp[Nat.add_mul,Ι];omega,λo Γ=>?_,λi j=>if i<len then w i j else w1 ((i-len)*ab+j),λi e hi=>?_⟩
           ·simp only[ψ.ht];split
            ·exact⟨_,rfl⟩
            ·exact fQ o Γ
           ·by_cases aH:i<l.length
            ·rw[ea aH] at hi;refine⟨(hw i e hi).1,λj a ε=>?_⟩;obtain⟨Ρ,ag,aV⟩:=(hw i e hi).2 j a ε;have oK:j<ab:=by rw[<-(hw i e hi).1];exact(b7.1 ε).1
             have hb:i*ab+j<len*ab:=by
              have:(i+1)*ab<=len*ab:=Nat.mul_le_mul_right ab (by omega);rw[Nat.add_mul] at this;omega
             simp only[show i<len by omega,if_true];refine⟨?_,ag.later kA,aV⟩;simp only[ψ.ht];rw[if_neg (by omega)];exact Ρ
            ·rw[hE (by omega),Ι] at hi;refine⟨(iW _ e hi).1,λj a ε=>?_⟩;have oK:j<ab:=by rw[<-(iW _ e hi).1];exact(b7.1 ε).1
             have vC:i-len<l1.length:=(b7.1 hi).1
             have hb:(i-len)*ab+j<l1.length*ab:=by
              have:(i-len+1)*ab<=l1.length*ab:=Nat.mul_le_mul_right ab vC;rw[Nat.add_mul] at this;omega
             have he:i*ab+j=len*ab+((i-len)*ab+j):=by
              have:i=len+(i-len):=by omega
              conv=>lhs;rw[this,Nat.add_mul]
              omega
             simp only[show ¬i<len by omega,if_false];refine⟨?_,((iW _ e hi).2 j a ε).later kA,MK _ e j a hi ε⟩;simp only[ψ.ht,MJ];rw[if_pos ⟨trivial,by omega,by omega⟩];have:i*ab+j-len*ab=(i-len)*ab+j:=by omega
             rw[this,hZ _ hb];rfl
          obtain⟨dP,p2,p3⟩:=Β.xH (H':=H.ht b (len*ab) ((List.range (l1.length*ab)).map w1)) (r':=.cells t ab (l++l1)) (bo':=some (b,N)) Α trivial π (.inr λm hm=>by simp only[Row.g9,List.length_append];omega) (λΦ eV aJ=>.inl ⟨eV,aJ⟩)
           (λΦ J _=>by
            have bw:Φ≠b:=λaJ=>by subst aJ;exact J N rfl
            exact⟨λo=>by simp[ψ.ht,bw],rfl,rfl⟩) ψ.GZ (CV Β Α) zz
          show υ P (storeCells ((⟨b,0*ab,none⟩:Addr).add (len*ab)) _) H _ _;rw[Uq];refine υ.storeCells (G:=H) rfl ⟨t,N,bL⟩ _ 0 H Ur (λj _ ε=>?_) rfl ?_
          ·rw[MJ] at ε;obtain⟨u,hu⟩:=fQ (len*ab+j) (by omega);exact⟨u,hu⟩
          ·refine⟨S,_,_,_,I,p2,dP,p3,.ms cap (by rw[List.getElem?_set_self bS]) (by simp[Ι]) (by rw[List.getElem?_set_self oG]) (by omega) bb (.inr ⟨b,N,rfl,rfl,bc⟩)⟩
       ·have cI:l1≠[]:=by rintro rfl;simp at MF;omega
        have pK:0<l1.length:=List.length_pos_iff.2 cI
        have Hm:xQ S B σ (vE H bo) ab l:=λi e hi=>by
         cases bo with
         | none=>have:l=[]:=cf
                 rw[this] at hi;simp at hi
         | some x=>
          obtain⟨b,N⟩:=x;obtain⟨_,_,_,w,hw⟩:=cf;refine⟨(hw i e hi).1,λj a ε=>?_⟩;obtain⟨Ρ,ag,_⟩:=(hw i e hi).2 j a ε;simp only[vE,Ρ];exact ag
        have zY:fI S B σ (((List.range (len*ab)).map (vE H bo)).toArray++((List.range (l1.length*ab)).map w1).toArray++Builtin.zeroCells b0.zero.cells (jW-(len+l1.length))) ab (l++l1):=by
         refine⟨by simp[Nat.add_mul,Ι],λi e hi=>?_⟩;by_cases aH:i<l.length
         ·rw[ea aH] at hi;refine⟨(Hm i e hi).1,λj a ε=>?_⟩;have oK:j<ab:=by rw[<-(Hm i e hi).1];exact(b7.1 ε).1
          have hb:i*ab+j<len*ab:=by
           have:(i+1)*ab<=len*ab:=Nat.mul_le_mul_right ab (by omega);rw[Nat.add_mul] at this;omega
          refine⟨_,?_,(Hm i e hi).2 j a ε,?_⟩
          ·rw[Array.append_assoc,Array.getElem?_append_left (by simpa using hb)];simp[hb]
          ·cases bo with
           | none=>have:l=[]:=cf
                   rw[this] at aH;simp at aH
           | some x=>
            obtain⟨b,N⟩:=x;obtain⟨_,_,_,w,hw⟩:=cf;obtain⟨Ρ,ag,aV⟩:=(hw i e hi).2 j a ε;simp only[vE,Ρ];exact aV
         ·rw[hE (by omega),Ι] at hi;have:=Hh (l1:=[]) (w1:=λ_=>undef) (k:=ab) (λi e hi=>by simp at hi) iW (by simp) Hj (Builtin.zeroCells b0.zero.cells (jW-(len+l1.length)));obtain⟨dZ,dM⟩:=this.2 (i-len) e (by simpa using hi);refine⟨dZ,λj a ε=>?_⟩;obtain⟨x,h0,qY,qZ⟩:=dM j a ε;have oK:j<ab:=by rw[<-dZ];exact(b7.1 ε).1
          have he:i*ab+j=len*ab+((i-len)*ab+j):=by
           have:i=len+(i-len):=by omega
           conv=>lhs;rw[this,Nat.add_mul]
           omega
          refine⟨x,?_,qY,qZ⟩;rw[he,Array.append_assoc,Array.getElem?_append_right (by simp)];simpa using h0
        refine⟨rfl,λr μ=>?_⟩;generalize Us:(((List.range (len*ab)).map (vE H bo)).toArray++((List.range (l1.length*ab)).map w1).toArray++Builtin.zeroCells b0.zero.cells (jW-(len+l1.length)))=c at zY;have Ut:jW*ab<=c.size:=by
         rw[<-Us];simp only[Array.size_append,List.size_toArray,List.length_map,List.length_range,MI,qV];rw[<-Nat.add_mul,<-Nat.add_mul];have:len+l1.length+(jW-(len+l1.length))=jW:=by omega
         rw[this];exact Nat.le_refl _
        obtain⟨dP,p2,p3⟩:=Β.xH (H':=H.dz r c t) (r':=.cells t ab (l++l1)) (bo':=some (r,c.size)) Α trivial π (.inr λm hm=>by simp only[Row.g9,List.length_append];omega) (λΦ eV aJ=>.inr (by cases aJ;exact μ))
         (λΦ _ γ=>by
          have bw:Φ≠r:=λaJ=>by subst aJ;exact γ _ rfl
          exact⟨λo=>by simp[ψ.dz,bw],by simp[ψ.dz,bw],rfl⟩) (ψ.Mb μ c t) (CV Β Α) (λkA=>by
          have a4:=zY.later kA;refine⟨by simp[ψ.dz],zY.1,λo Γ=>⟨c[o],by simp[ψ.dz,Γ]⟩,λi j=>(c[i*ab+j]?).getD undef,λi e hi=>⟨(a4.2 i e hi).1,λj a ε=>?_⟩⟩;obtain⟨x,Ε,Ζ,a6⟩:=(a4.2 i e hi).2 j a ε;simp only[Ε,Option.getD_some];exact⟨by simp[ψ.dz,Ε],Ζ,a6⟩)
        exact⟨S,_,_,_,I,p2,dP,p3,.ms jW (by rw[List.getElem?_set_self bS]) (by simp[Ι]) (by rw[List.getElem?_set_self oG]) (by omega) (by omega) (.inr ⟨r,c.size,rfl,by simp,by simpa using Ut⟩)⟩
      | ja v J γ=>rw[Α] at J;cases J;simp only[Row.g9] at γ;omega
     ·exact .bad
    ·exact .bad
   ·exact .bad
  ·exact .bad
 ·exact .bad
end
section
variable {P:Program} {T:bd} {S:aC} {B:aP} {H:ψ} {σ:List Row}
def pL (o:Option θ) (d:Int):Option Int:=match o with
 | none=>some d
 | some (.z (.int _ n))=>some n
 | _=>none
def vF (S:aC) (B:aP) (σ:List Row):Option θ->Option Value->Prop
 | none,none=>True
 | some a,some v=>ar S B σ a v
 | _,_=>False
theorem ML {k:IntKind} {n:Int} {y:Nat} {code:BoundsCode} (h:0<=n/\n<=y) {G:ψ} {K:Nat->ψ->Prop} {E:Value->ψ->Prop} (χ:K n.toNat G):υ P (Instr.sliceBound (.int k n) y code) G K E:=by
 unfold Instr.sliceBound;refine υ.bind' (υ.pure' ?_);simp only[h,and_self,if_true];exact υ.pure' χ
theorem Dc {isSlice:Bool} {len cap:Nat} {lo hi:Option θ} {lv hv:Option Value} (kJ:vF S B σ lo lv) (oJ:vF S B σ hi hv) {a b:Int} (ν:pL lo 0=some a) (hb:pL hi len=some b) (h:0<=a/\a<=b/\b<=cap) {G:ψ} {K:Nat×Nat×Nat->ψ->Prop} {E:Value->ψ->Prop}
  (χ:K (a.toNat,b.toNat,cap) G):υ P (Instr.sliceBounds isSlice len cap lv hv none) G K E:=by
 unfold Instr.sliceBounds;refine υ.bind' (υ.pure' ?_);have low:∀(n:Nat),b.toNat=n->υ P (match lv with|some v=>Instr.sliceBound v n (if(none:Option Value).isSome then .slice3C else .sliceB)|none=>pure 0) G (λl G'=>υ P (pure (l,n,cap)) G' K E) E:=λn Ι=>by
  subst Ι;cases lo with
  | none=>
   cases lv with
   | some v=>exact kJ.elim
   | none=>cases ν;exact υ.pure' (υ.pure' χ)
  | some x=>
   cases lv with
   | none=>exact kJ.elim
   | some v=>
    unfold pL at ν;split at ν
    ·rename_i e;cases e
    ·rename_i k n e;cases e;cases ν;cases kJ;exact ML (by omega) (υ.pure' χ)
    ·cases ν
 cases hi with
 | none=>
  cases hv with
  | some v=>exact oJ.elim
  | none=>
   cases hb;refine υ.bind' (υ.pure' ?_);have:=low len (by simp);cases lv with
   | none=>exact υ.bind' this
   | some v=>exact υ.bind' this
 | some x=>
  cases hv with
  | none=>exact oJ.elim
  | some v=>
   unfold pL at hb;split at hb
   ·rename_i e;cases e
   ·rename_i k n e;cases e;cases hb;cases oJ;refine υ.bind' (ML (by omega) ?_);have:=low _ rfl;cases lv with
    | none=>exact υ.bind' this
    | some v=>exact υ.bind' this
   ·cases hb
def Dd (T:bd) (ty:TypeId) (x:θ) (lo hi:Option θ):cB:=match T ty with
 | some i=>match i.bI,x with
  | .string,.z (.string s)=>match pL lo 0,pL hi s.size with
   | some a,some b=>.b5 (0<=a/\a<=b/\b<=s.size) (.ok (.z (.string (s.extract a.toNat b.toNat))))
   | _,_=>.bad
  | .slice e,.sl ex k l=>match T e,pL lo 0,pL hi l.length with
   | some b0,some a,some b=>if l.isEmpty=true\/k=b0.size then .b5 (0<=a/\a<=b/\b<=l.length) (.ok (.sl (ex&&hi.isNone) k ((l.take b.toNat).drop a.toNat))) else .bad
   | _,_,_=>.bad
  | .array n e,.ad cells=>match T e with
   | some b0=>if b0.size=1/\b0.agg=false/\n<=cells.length/\0<n/\lo.isNone/\hi.isNone/\(cells.take n).all (λc=>decide (c.cells.length=1)&&θ.a8 [] c) then .ok (.sl true 1 (cells.take n)) else .bad
   | none=>.bad
  | _,_=>.bad
 | none=>.bad
def De (T:bd) (ty:TypeId) (σ:List Row) (x:θ) (lo hi:Option θ):c6:=match T ty with
 | some i=>match i.bI,x with
  | .slice e,.ms id n i len=>match T e,σ[id]?,pL lo 0,pL hi len with
   | some b0,some (.cells _ k l),some a,some b=>if k=b0.size/\l.length=n then .b5 (0<=a/\a<=b/\b<=len) (.ok (.ms id n (i+a.toNat) (b.toNat-a.toNat)) σ) else .bad
   | _,_,_,_=>.bad
  | _,_=>.bad
 | none=>.bad
theorem Uu {ex:Bool} {k:Nat} {l:List θ} {base:Option Addr} {len cap:Nat} (h:ar S B σ (.sl ex k l) (.slice base len cap)) {a b size:Nat} (gS:a<=b) (hb:b<=l.length) (χ:l.isEmpty=true\/k=size) (Hn:Bool) (hex:Hn=true->ex=true/\b=l.length) :
  ar S B σ (.sl Hn k ((l.take b).drop a)) (.slice (if cap=a then base else base.map (·.add (a*size))) (b-a) (cap-a)):=by
 obtain⟨T3,G3,e,J,γ,π⟩:=qT h;cases e;have hlen:((l.take b).drop a).length=b-a:=by simp;omega
 by_cases Η:(l.take b).drop a=[]
 ·rw[Η] at hlen ⊢;have:b-a=0:=by simpa using hlen.symm
  rw[this];refine .iI _ _ λhe=>?_;obtain⟨Ε,Ζ⟩:=hex he;have:=γ Ε;omega
 ·have Α:l≠[]:=by rintro rfl;simp at Η
  obtain⟨cK,o,w,rfl,Μ,aB,bc⟩:=π Α;have hs:k=size:=χ.resolve_left λx=>Α (List.isEmpty_iff.1 x);subst hs;have q0:a<b:=by
   apply Classical.byContradiction;intro Ι;apply Η;have:b-a=0:=by omega
   rw[this] at hlen;exact dp.1 hlen
  rw[if_neg (by omega)];simp only[Option.map_some,tL];have el:∀(i:Nat) (e:θ),((l.take b).drop a)[i]?=some e->l[a+i]?=some e:=λi e hi=>by
   rw[List.getElem?_drop,List.getElem?_take] at hi;split at hi
   ·exact hi
   ·cases hi
  have hle:((l.take b).drop a).length<=cap-a:=by rw[hlen];omega
  have:=ar.sl (S:=S) (B:=B) (σ:=σ) (ex:=Hn) (k:=k) (l:=(l.take b).drop a) cK (o+a*k) (cap-a) (λi j=>w (a+i) j) (λhe=>by obtain⟨Ε,Ζ⟩:=hex he;have:=γ Ε;omega) hle
   (λi e hi=>Μ _ e (el i e hi)) (λi e hi j c ε=>by have:=aB _ e (el i e hi) j c ε;rw[Nat.add_mul] at this;rw[Nat.add_assoc o];exact this) (λi e hi j c ε=>bc _ e (el i e hi) j c ε)
  rw[hlen] at this;exact this
theorem Uv (Θ:bT P T) (Β:Holds S B σ H) (ty:TypeId) {x:θ} {v:Value} (U:ar S B σ x v) {lo hi:Option θ} {lv hv:Option Value} (kJ:vF S B σ lo lv) (oJ:vF S B σ hi hv) :
  cJ P (Instr.sliceAt ty v lv hv none) S B H σ ((Dd T ty x lo hi).du σ):=by
 unfold Dd;cases a9:T ty with
 | none=>exact .bad
 | some i=>
  simp only;split
  ·rename_i s hu;cases U;split
   ·rename_i a b ν hb;refine cJ.b5 (r:=(cB.ok (.z (.string (s.extract a.toNat b.toNat)))).du σ) λh K I=>?_;unfold Instr.sliceAt;refine υ.bind' (Θ.bI a9 ?_);rw[hu];simp only;unfold Instr.slice;refine υ.bind' (Θ.bI a9 ?_);rw[hu];simp only[Option.isSome_none,Bool.false_eq_true,if_false];refine υ.bind' (Dc kJ oJ ν hb h ?_);exact υ.pure' (.same Β I (.z _))
   ·exact .bad
  ·rename_i e ex k l hu;split
   ·rename_i b0 a b dA ν hb;split
    ·rename_i χ;refine cJ.b5 (r:=(cB.ok (.sl (ex&&hi.isNone) k ((l.take b.toNat).drop a.toNat))).du σ) λh K I=>?_;obtain⟨base,cap,rfl,J,γ,_⟩:=qT U;unfold Instr.sliceAt;refine υ.bind' (Θ.bI a9 ?_);rw[hu];simp only;unfold Instr.slice;refine υ.bind' (Θ.bI a9 ?_);rw[hu];simp only;refine υ.bind' (Dc kJ oJ ν hb (by omega) ?_);simp only;refine υ.bind' (Θ.size dA ?_);refine υ.pure' (.same Β I (Uu U (by omega) (by omega) χ _ λhe=>?_));simp only[Bool.and_eq_true] at he;refine⟨he.1,?_⟩;cases hi with
     | none=>cases hb;simp
     | some=>simp at he
    ·exact .bad
   ·exact .bad
  ·rename_i n e cells hu;split
   ·rename_i b0 dA;split
    ·rename_i ζ;obtain⟨c1,c2,c3,c4,na,sk,q1⟩:=ζ;intro K I;cases U with
     | ad b o w J γ=>
      cases lo with
      | some=>simp at na
      | none=>
       cases hi with
       | some=>simp at sk
       | none=>
        cases lv with
        | some=>exact kJ.elim
        | none=>
         cases hv with
         | some=>exact oJ.elim
         | none=>
          unfold Instr.sliceAt;refine υ.bind' (Θ.bI a9 ?_);rw[hu];simp only;refine υ.bind' (υ.pure' ?_);refine υ.bind' (Dc (S:=S) (B:=B) (σ:=σ) (lo:=none) (hi:=none) (lv:=none) (hv:=none) trivial trivial (a:=0) (b:=n) rfl rfl (by omega) ?_);simp only[Int.toNat_natCast];refine υ.bind' (Θ.size dA ?_);rw[c1];refine υ.pure' (.same Β I ?_);have hK:(0:Int).toNat=0:=rfl;rw[hK,if_neg (by omega),tL];simp only[Nat.zero_mul,Nat.add_zero,Nat.sub_zero];have hlen:(cells.take n).length=n:=by simp;omega
          rw[List.all_eq_true] at q1;have el:∀(i:Nat) (e:θ),(cells.take n)[i]?=some e->cells[i]?=some e/\e.cells=[e]:=λi e hi=>by
           have hm:=q1 e (cv hi);simp only[Bool.and_eq_true] at hm;rw[List.getElem?_take] at hi;split at hi
           ·exact⟨hi,θ.G5 hm.2⟩
           ·cases hi
          have:=ar.sl (S:=S) (B:=B) (σ:=σ) (ex:=true) (k:=1) (l:=cells.take n) b o n (λi _=>w i) (λ_=>hlen.symm) (by omega) (λi e hi=>by rw[(el i e hi).2];rfl)
           (λi e hi j c ε=>by
            rw[(el i e hi).2] at ε
            match j with
            | 0=>simp at ε;subst ε;have:=J i _ (el i _ hi).1;simpa using this
            | j+1=>simp at ε) (λi e hi j c ε=>by
            rw[(el i e hi).2] at ε
            match j with
            | 0=>simp at ε;subst ε;exact γ i _ (el i _ hi).1
            | j+1=>simp at ε)
          rw[hlen] at this;exact this
    ·exact .bad
   ·exact .bad
  ·exact .bad
theorem Uw (Θ:bT P T) (Β:Holds S B σ H) (ty:TypeId) {x:θ} {v:Value} (U:ar S B σ x v) {lo hi:Option θ} {lv hv:Option Value} (kJ:vF S B σ lo lv) (oJ:vF S B σ hi hv) :
  cJ P (Instr.sliceAt ty v lv hv none) S B H σ (De T ty σ x lo hi):=by
 unfold De;cases a9:T ty with
 | none=>exact .bad
 | some kE=>
  simp only;split
  ·rename_i e id n i len hu;split
   ·rename_i b0 t k l a b dA Α ν hb;split
    ·rename_i ζ;obtain⟨χ,Ι⟩:=ζ;refine .b5 λh K I=>?_;cases U with
     | ms cap J γ π Μ aB bc=>
      rw[Α] at J;cases J;unfold Instr.sliceAt;refine υ.bind' (Θ.bI a9 ?_);rw[hu];simp only;unfold Instr.slice;refine υ.bind' (Θ.bI a9 ?_);rw[hu];simp only;refine υ.bind' (Dc kJ oJ ν hb (by omega) ?_);simp only;refine υ.bind' (Θ.size dA ?_);refine υ.pure' (.same Β I (.ms (cap-a.toNat) Α Ι π (by omega) (by omega) ?_));by_cases ζ:cap=a.toNat
      ·exact .inl (by omega)
      ·rcases bc with bc|⟨cK,N,rfl,rfl,bc⟩
       ·exact .inl (by omega)
       ·refine .inr ⟨cK,N,rfl,?_,?_⟩
        ·rw[if_neg ζ];simp only[Option.map_some,tL,χ,Nat.add_mul]
        ·have:i+a.toNat+(cap-a.toNat)=i+cap:=by omega
         rw[this];exact bc
     | ja v J γ=>rw[Α] at J;cases J;simp only[Row.g9] at γ;omega
    ·exact .bad
   ·exact .bad
  ·exact .bad
def Df (T:bd) (ty:TypeId) (x:θ):cB:=match T ty with
 | some i=>match i.bI,x with
  | .string,.z (.string s)=>.ok (.z (.int .i64 s.size))
  | .slice _,.sl _ _ l=>.ok (.z (.int .i64 l.length))
  | .array n _,_=>.ok (.z (.int .i64 n))
  | _,_=>.bad
 | none=>.bad
def Dg (T:bd) (ty:TypeId) (σ:List Row) (x:θ):c6:=match T ty with
 | some i=>match i.bI,x with
  | .slice _,.ms id n _ len=>match σ[id]? with
   | some (.cells _ _ l)=>if l.length=n then .ok (.z (.int .i64 len)) σ else .bad
   | _=>.bad
  | _,_=>.bad
 | none=>.bad
theorem Ux (Θ:bT P T) (Β:Holds S B σ H) (ty rt:TypeId) {x:θ} {v:Value} (U:ar S B σ x v):cJ P (Builtin.len_ #[ty] rt #[v]) S B H σ ((Df T ty x).du σ):=by
 unfold Df;cases hi:T ty with
 | none=>exact .bad
 | some i=>
  simp only;have go:∀(K:θ->List Row->Prop) (n:Int),K (.z (.int .i64 n)) σ->υ P (pure (goInt n):Sem Value) H (iJ S B H σ K) (λ_ _=>False):=λK n I=>υ.pure' (.same Β I (.z _));split
  ·rename_i s hu;cases U;intro K I;unfold Builtin.len_;refine υ.bind' (Θ.bI hi ?_);rw[hu];exact go K _ I
  ·rename_i e ex k l hu;obtain⟨base,cap,rfl,_⟩:=qT U;intro K I;unfold Builtin.len_;refine υ.bind' (Θ.bI hi ?_);rw[hu];exact go K _ I
  ·rename_i n e hu;intro K I;unfold Builtin.len_;refine υ.bind' (Θ.bI hi ?_);rw[hu];cases v<;>exact go K _ I
  ·exact .bad
theorem Uy (Θ:bT P T) (Β:Holds S B σ H) (ty rt:TypeId) {x:θ} {v:Value} (U:ar S B σ x v):cJ P (Builtin.len_ #[ty] rt #[v]) S B H σ (Dg T ty σ x):=by
 unfold Dg;cases hi:T ty with
 | none=>exact .bad
 | some i=>
  simp only;split
  ·rename_i e id n j len hu;split
   ·rename_i t k l Α;split
    ·rename_i Ι;intro K I;cases U with
     | ms cap J γ π Μ aB bc=>
      unfold Builtin.len_;refine υ.bind' (Θ.bI hi ?_);rw[hu];exact υ.pure' (.same Β I (.z _))
     | ja v J γ=>rw[Α] at J;cases J;simp only[Row.g9] at γ;omega
    ·exact .bad
   ·exact .bad
  ·exact .bad
def xR (T:bd) (src dst:TypeId) (x:θ):cB:=match T src,T dst with
 | some _,some j=>match j.bI,x with
  | .int k,.z (.int _ n)=>.ok (.z (.int k (k.wrap n)))
  | _,_=>.bad
 | _,_=>.bad
theorem Uz (Θ:bT P T) (Β:Holds S B σ H) (src dst:TypeId) {x:θ} {v:Value} (U:ar S B σ x v):cJ P (convert src dst v) S B H σ ((xR T src dst x).du σ):=by
 unfold xR;split
 ·rename_i i j hi ε;split
  ·rename_i k kk n hu;cases U;intro K I;unfold convert;refine υ.bind' (Θ.bI hi (υ.bind' (Θ.bI ε ?_)));rw[hu];exact υ.pure' (.same Β I (.z _))
  ·exact .bad
 ·exact .bad
def Dh (l:List θ):cB:=match l with
 | [.z (.int k x),.z (.int _ y)]=>.ok (.z (.int k (if y > x then y else x)))
 | _=>.bad
theorem UA (Β:Holds S B σ H) (dW:Array TypeId) (rt:TypeId) {a b:θ} {u v:Value} (ν:ar S B σ a u) (hb:ar S B σ b v):cJ P (Builtin.max_ dW rt #[u,v]) S B H σ ((Dh [a,b]).du σ):=by
 unfold Dh;split
 ·rename_i k x kk y e;simp at e;obtain⟨rfl,rfl⟩:=e;cases ν;cases hb;intro K I;exact υ.pure' (.same Β I (.z _))
 ·exact .bad
end
end Go.TL
