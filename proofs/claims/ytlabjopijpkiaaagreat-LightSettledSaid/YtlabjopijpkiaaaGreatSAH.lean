import Derived.IntWalk
import Derived.Laws.Sem
import Derived.Test.YtlabjopijpkiaaaGreatSAG
set_option maxHeartbeats 16000000
set_option maxRecDepth 20000
set_option linter.unusedSectionVars false
set_option linter.unusedSimpArgs false
set_option linter.unusedVariables false
namespace Go.TL
open Go.Conc
section
variable {P:Program} {T:bd} {S:aB} {B:aR} {H:Α} {σ:List Row}
def fH (S:aB) (B:aR) (σ:List Row) (c:Array Value) (k:Nat) (l:List θ):Prop:=
 l.length*k<=c.size/\∀(i:Nat) (e:θ),l[i]?=some e->e.cells.length=k/\∀(j:Nat) (a:θ),e.cells[j]?=some a->∃x,c[i*k+j]?=some x/\ao S B σ a x/\One x
theorem CL {a:θ} (h:a.a7 []=true):a.a7 σ=true:=by
 cases a<;>first|exact h|(simp[θ.a7] at h)
theorem xF {l:List θ} (h:l.all (θ.a7 [])=true):l.all (θ.a7 σ)=true:=by
 rw[List.all_eq_true] at *;exact λa ξ=>CL (h a ξ)
theorem fH.put {c:Array Value} {k:Nat} {l:List θ} (h:fH S B σ c k l) {i j:Nat} {e a:θ} {v:Value} (he:l[i]?=some e) (ξ:ao S B σ a v) (dG:a.cells.all (θ.a7 σ)=true) (ε:j+a.cells.length<=k) :
  let c':=v.cells.zipIdx.foldl (λcs (x:Value×Nat)=>cs.setIfInBounds (i*k+j+x.2) x.1) c
  c'.size=c.size/\fH S B σ c' k (l.set i (e.sz j a.cells)):=by
 obtain⟨cm,hR⟩:=ξ.cells dG;have iC:i<l.length:=(b7.1 he).1;have Hh:=(h.2 i e he).1;have Hi:∀c∈a.cells,θ.a7 σ c=true:=List.all_eq_true.1 dG;have bU:=θ.M6 (σ:=σ) (e:=e) (j:=j) (cs:=a.cells) (by rw[Hh];exact ε) Hi;have key:∀(vs:List Value) (n:Nat) (c:Array Value),((vs.zipIdx n).foldl (λcs (x:Value×Nat)=>cs.setIfInBounds (i*k+j+x.2) x.1) c).size=c.size/\
   ∀p,((vs.zipIdx n).foldl (λcs (x:Value×Nat)=>cs.setIfInBounds (i*k+j+x.2) x.1) c)[p]?=if i*k+j+n<=p/\p<i*k+j+n+vs.length/\p<c.size then vs[p-(i*k+j+n)]? else c[p]?:=by
  intro vs
  induction vs with
  | nil=>intro n c;refine⟨rfl,λp=>?_⟩;rw[if_neg (by simp;omega)];rfl
  | cons v vs Δ=>
   intro n c;obtain⟨J,γ⟩:=Δ (n+1) (c.setIfInBounds (i*k+j+n) v);simp only[List.zipIdx_cons,List.foldl_cons];refine⟨by rw[J];simp,λp=>?_⟩;rw[γ p];simp only[Array.size_setIfInBounds,List.length_cons];by_cases ψ:p=i*k+j+n
   ·subst ψ;rw[if_neg (by omega)];by_cases aD:i*k+j+n<c.size
    ·rw[if_pos ⟨by omega,by omega,aD⟩,Array.getElem?_setIfInBounds_self_of_lt aD];simp
    ·rw[if_neg (by omega),Array.getElem?_eq_none (by simp;omega),Array.getElem?_eq_none (by omega)]
   ·by_cases br:i*k+j+(n+1)<=p/\p<i*k+j+(n+1)+vs.length/\p<c.size
    ·rw[if_pos br,if_pos ⟨by omega,by omega,br.2.2⟩];have:p-(i*k+j+n)=(p-(i*k+j+(n+1)))+1:=by omega
     rw[this,List.getElem?_cons_succ]
    ·rw[if_neg br,if_neg (by omega),Array.getElem?_setIfInBounds_ne (Ne.symm ψ)]
 obtain⟨k1,cC⟩:=key v.cells.toList 0 c;have cv:v.cells.zipIdx.foldl (λcs (x:Value×Nat)=>cs.setIfInBounds (i*k+j+x.2) x.1) c=(v.cells.toList.zipIdx 0).foldl (λcs (x:Value×Nat)=>cs.setIfInBounds (i*k+j+x.2) x.1) c:=by
  rw[<-Array.foldl_toList];simp
 intro c';have a5:c'=(v.cells.toList.zipIdx 0).foldl (λcs (x:Value×Nat)=>cs.setIfInBounds (i*k+j+x.2) x.1) c:=cv;rw[a5];have hlen:v.cells.toList.length=a.cells.length:=by simpa using cm
 have M8:i*k+k<=c.size:=by
  have J:(i+1)*k<=l.length*k:=Nat.mul_le_mul_right k iC
  have γ:=h.1;rw[Nat.add_mul] at J;omega
 refine⟨k1,by rw[k1];simpa using h.1,λey aJ a9=>?_⟩;by_cases tS:ey=i
 ·subst tS;rw[List.getElem?_set_self iC] at a9;cases a9;rw[bU];refine⟨by simp;omega,λbH c2 ζ=>?_⟩;rw[cC,hlen];by_cases br:j<=bH/\bH<j+a.cells.length
  ·have Hk:a.cells[bH-j]?=some c2:=by
    rw[List.append_assoc,fS (by simp;omega)] at ζ;simp only[List.length_take] at ζ;rw[dB (by omega)] at ζ;have:bH-min j e.cells.length=bH-j:=by omega
    rw[this] at ζ;exact ζ
   obtain⟨x,J,γ,π⟩:=hR _ _ Hk;rw[if_pos ⟨by omega,by omega,by omega⟩];have:ey*k+bH-(ey*k+j+0)=bH-j:=by omega
   rw[this,Array.getElem?_toList];exact⟨x,J,γ,π⟩
  ·have Hk:e.cells[bH]?=some c2:=by
    by_cases kR:bH<j
    ·rw[List.append_assoc,dB (by simp;omega),List.getElem?_take_of_lt kR] at ζ;exact ζ
    ·rw[fS (by simp;omega)] at ζ;rw[List.getElem?_drop] at ζ;have:j+a.cells.length+(bH-(e.cells.take j++a.cells).length)=bH:=by simp;omega
     rw[this] at ζ;exact ζ
   rw[if_neg (λx=>br ⟨by omega,by omega⟩)];exact(h.2 ey e he).2 bH c2 Hk
 ·rw[List.getElem?_set_ne (Ne.symm tS)] at a9;obtain⟨J,γ⟩:=h.2 ey aJ a9;refine⟨J,λbH c2 ζ=>?_⟩;have o3:bH<k:=by rw[<-J];exact(b7.1 ζ).1
  rw[cC,hlen,if_neg (λx=>M7 (lo:=j) (hi:=j+a.cells.length) o3 ε tS ⟨by omega,by omega⟩)];exact γ bH c2 ζ
theorem fH.M9 {z:Value} {a:θ} (ξ:ao S B σ a z) (dG:a.cells.all (θ.a7 σ)=true) {k n m:Nat} (χ:a.cells.length=k) (hm:n*k<=m) (fY:Array Value) (Θ:fY=z.cells) :
  fH S B σ ((Array.range m).map (fY[· % fY.size]!)) k (List.replicate n a):=by
 obtain⟨cm,hR⟩:=ξ.cells dG;subst Θ;refine⟨by simpa using hm,λi e hi=>?_⟩;obtain⟨J,γ⟩:=b7.1 hi;simp at J γ;subst γ;refine⟨χ,λj c ζ=>?_⟩;obtain⟨x,Ζ,Ε,aY⟩:=hR j c ζ;have ε:j<k:=by rw[<-χ];exact(b7.1 ζ).1
 have aD:i*k+j<m:=by
  have:(i+1)*k<=n*k:=Nat.mul_le_mul_right k J;rw[Nat.add_mul] at this;omega
 refine⟨x,?_,Ε,aY⟩;rw[Array.getElem?_map,Array.getElem?_range,if_pos aD];simp only[Option.map_some];have:(i*k+j) % z.cells.size=j:=by
  rw[cm,χ,Nat.mul_comm,Nat.mul_add_mod];exact Nat.mod_eq_of_lt ε
 rw[this];have bp:j<z.cells.size:=by omega
 rw[e7 bp] at Ζ;cases Ζ;rw[getElem!_pos z.cells j bp]
theorem fH.later {ax:aB} {B':aR} {σ':List Row} (ω:b3 S ax B B' σ σ') {c:Array Value} {k:Nat} {l:List θ} (h:fH S B σ c k l):fH ax B' σ' c k l:=
 ⟨h.1,λi e hi=>⟨(h.2 i e hi).1,λj a ε=>by obtain⟨x,J,γ,π⟩:=(h.2 i e hi).2 j a ε;exact⟨x,J,γ.later ω,π⟩⟩⟩
theorem fH.one {a:θ} {v:Value} (ξ:ao S B σ a v) (dG:a.cells.all (θ.a7 σ)=true):fH S B σ v.cells a.cells.length [a]:=by
 obtain⟨cm,hR⟩:=ξ.cells dG;refine⟨by simp[cm],λi e hi=>?_⟩
 match i with
 | 0=>
  simp at hi;subst hi;refine⟨rfl,λj c ζ=>?_⟩;rw[Nat.zero_mul,Nat.zero_add];exact hR j c ζ
 | i+1=>simp at hi
theorem zI (Β:Holds S B σ H) {c:Array Value} {k:Nat} {l:List θ} (ζ:fH S B σ c k l) (t:TypeId) {K:Nat->Α->Prop} {E:Value->Α->Prop}
  (h:∀r,H.fresh r->Holds S (B++[some (r,c.size)]) (σ++[.cells t k l]) (H.dv r c t)->Ext S B H S (B++[some (r,c.size)]) (H.dv r c t)->b3 S S B (B++[some (r,c.size)]) σ (σ++[.cells t k l])->K r (H.dv r c t)) :
  υ P (newObj (.cells c t)) H K E:=by
 refine⟨rfl,λr μ=>?_⟩;have cA:∀b,(∀N,some (r,c.size)≠some (b,N))->ks H (H.dv r c t) b:=λb hb=>by
  have bz:b≠r:=λe=>by subst e;exact hb _ rfl
  exact⟨λo=>by simp[Α.dv,bz],by simp[Α.dv,bz],rfl⟩
 have bC:b3 S S B (B++[some (r,c.size)]) σ (σ++[.cells t k l])->jC S (B++[some (r,c.size)]) (σ++[.cells t k l]) (H.dv r c t) (.cells t k l) (some (r,c.size)):=λω=>by
  have a5:=ζ.later ω;refine⟨by simp[Α.dv],ζ.1,λo Γ=>⟨c[o],by simp[Α.dv,Γ]⟩,λi j=>(c[i*k+j]?).getD undef,λi e hi=>⟨(a5.2 i e hi).1,λj a ε=>?_⟩⟩;obtain⟨x,Ζ,Ε,aY⟩:=(a5.2 i e hi).2 j a ε;simp only[Ζ,Option.getD_some];exact⟨by simp[Α.dv,Ζ],Ε,aY⟩
 obtain⟨J,γ,π⟩:=Β.push (λb N e=>by cases e;exact μ) cA bC;exact h r μ J γ π
theorem zJ (Β:Holds S B σ H) (c:Array Value) (t:TypeId) {K:Nat->Α->Prop} {E:Value->Α->Prop}
  (h:∀r,Holds (S.lay r c) B σ (H.dv r c t)->Ext S B H (S.lay r c) B (H.dv r c t)->b3 S (S.lay r c) B B σ σ->K r (H.dv r c t)) :
  υ P (newObj (.cells c t)) H K E:=by
 refine⟨rfl,λr μ=>?_⟩;obtain⟨J,γ,π⟩:=Β.lay (c:=c) (t:=t) μ;exact h r J γ π
theorem M' {r:Nat} {c:Array Value} {a:θ} {k:Nat} (ω:b3 S (S.lay r c) B B σ σ) (ζ:fH S B σ c k [a]):ao (S.lay r c) B σ (.Ψ a.cells) (.pointer (some ⟨r,0,none⟩)):=by
 have a5:=ζ.later ω;refine .Ψ r 0 (λj=>(c[j]?).getD undef) (λj x ε=>?_) (λj x ε=>?_)
 ·obtain⟨y,Ζ,_⟩:=(a5.2 0 a rfl).2 j x ε;rw[Nat.zero_mul,Nat.zero_add] at Ζ;simp[aB.lay,Ζ]
 ·obtain⟨y,Ζ,Ε,_⟩:=(a5.2 0 a rfl).2 j x ε;rw[Nat.zero_mul,Nat.zero_add] at Ζ;simp only[Ζ,Option.getD_some];exact Ε
theorem CM {r:Nat} {c:Array Value} {k cap:Nat} {l:List θ} (ex:Bool) (ω:b3 S (S.lay r c) B B σ σ) (ζ:fH S B σ c k l) (xG:l.length<=cap) (hex:ex=true->cap=l.length):ao (S.lay r c) B σ (.sl ex k l) (.slice (some ⟨r,0,none⟩) l.length cap):=by
 have a5:=ζ.later ω;refine .sl r 0 cap (λi j=>(c[i*k+j]?).getD undef) hex xG (λi e hi=>(a5.2 i e hi).1) (λi e hi j x ε=>?_) (λi e hi j x ε=>?_)
 ·obtain⟨y,Ζ,_⟩:=(a5.2 i e hi).2 j x ε;simp[aB.lay,Ζ]
 ·obtain⟨y,Ζ,Ε,_⟩:=(a5.2 i e hi).2 j x ε;simp only[Ζ,Option.getD_some];exact Ε
end
section
variable {P:Program} {T:bd} {S:aB} {B:aR} {H:Α} {σ:List Row}
def CN (σ:List Row) (a:θ):cZ:=if a.cells.all (θ.a7 σ)=true then .ok (.Ψ a.cells) σ else .bad
def xH (a:θ):cw:=if a.cells.all (θ.a7 [])=true then .ok (.Ψ a.cells) else .bad
def xI (t:TypeId) (σ:List Row) (a:θ):cZ:=if a.cells.all (θ.a7 σ)=true then .ok (.al σ.length 1 0 0) (σ++[.cells t a.cells.length [a]]) else .bad
theorem Hl (Β:Holds S B σ H) (ty:TypeId) {a:θ} {v:Value} (ξ:ao S B σ a v) (dG:a.cells.all (θ.a7 σ)=true):cF P (do pure (.pointer (some (<-newVar ty v)))) S B H σ (.ok (.Ψ a.cells) σ):=by
 intro K I;refine υ.bind' ?_;unfold newVar newRow;refine υ.bind' (zJ Β v.cells ty λr J γ π=>υ.pure' (υ.pure' ⟨_,_,_,_,I,γ,J,π,?_⟩));exact M' π (fH.one ξ dG)
theorem Vt (Β:Holds S B σ H) (ty:TypeId) {a:θ} {v:Value} (ξ:ao S B σ a v):cF P (Instr.box ty v) S B H σ (CN σ a):=by
 unfold CN;split
 ·rename_i dG;exact Hl Β ty ξ dG
 ·exact .bad
theorem Vu (Β:Holds S B σ H) (ty:TypeId) {a:θ} {v:Value} (ξ:ao S B σ a v):cF P (Instr.box ty v) S B H σ ((xH a).dq σ):=by
 unfold xH;split
 ·rename_i dG;exact Hl Β ty ξ (xF dG)
 ·exact .bad
theorem Na (Β:Holds S B σ H) (ty:TypeId) {a:θ} {v:Value} (ξ:ao S B σ a v):cF P (do pure (.pointer (some (<-newVar ty v)))) S B H σ (xI ty σ a):=by
 unfold xI;split
 ·rename_i dG;intro K I;refine υ.bind' ?_;unfold newVar newRow;refine υ.bind' (zI Β (fH.one ξ dG) ty λr _ J γ π=>υ.pure' (υ.pure' ⟨_,_,_,_,I,γ,J,π,?_⟩));have:=ao.al (S:=S) (B:=B++[some (r,v.cells.size)]) (σ:=σ++[.cells ty a.cells.length [a]]) (id:=σ.length) (n:=1) (i:=0) (j:=0) (k:=a.cells.length) (t:=ty) (l:=[a]) (b:=r) (N:=v.cells.size) (by simp) rfl (by rw[<-Β.len];simp);simpa using this
 ·exact .bad
theorem Vv (Β:Holds S B σ H) (ty:TypeId) {a:θ} {v:Value} (ξ:ao S B σ a v):cF P (Instr.box ty v) S B H σ (xI ty σ a):=Na Β ty ξ
def CO (T:bd) (ty:TypeId) (σ:List Row):cZ:=match T ty with|some i=>xI ty σ (ho i.zero)|none=>.bad
def CP (T:bd) (ty:TypeId):cw:=match T ty with|some i=>xH (ho i.zero)|none=>.bad
theorem Vw (Κ:bR P T) (Β:Holds S B σ H) (ty:TypeId):cF P (Instr.alloc ty true (.tuple #[])) S B H σ (CO T ty σ):=by
 unfold CO;cases hi:T ty with
 | none=>exact .bad
 | some i=>
  intro K I;unfold Instr.alloc;exact υ.bind' (Κ.zero hi (Na Β ty (pV i.zero) K I))
theorem Vx (Κ:bR P T) (Β:Holds S B σ H) (ty:TypeId):cF P (Instr.alloc ty true (.tuple #[])) S B H σ ((CP T ty).dq σ):=by
 unfold CP;cases hi:T ty with
 | none=>exact .bad
 | some i=>
  simp only[xH];split
  ·rename_i dG;intro K I;unfold Instr.alloc;exact υ.bind' (Κ.zero hi (Hl Β ty (pV i.zero) (xF dG) K I))
  ·exact .bad
def q7 (pl:Nat->Option (Nat×Nat×Nat)) (k:Nat) (a7:θ->Bool) (l:List θ):List (Nat×θ)->Option (List θ)
 | []=>some l
 |(x,a)::r=>match pl x with
  | some (i,j,n)=>match l[i]? with
   | some e=>if a.cells.length=n/\j+n<=k/\a.cells.all a7=true then q7 pl k a7 (l.set i (e.sz j a.cells)) r else none
   | none=>none
  | none=>none
theorem Hm {k:Nat} {a7:θ->Bool} (n7:∀a:θ,a7 a=true->a.a7 σ=true) {pl:Nat->Option (Nat×Nat×Nat)} {place:Nat->Option (Nat×Nat)} (gO:∀x i j n,pl x=some (i,j,n)->place x=some (i*k+j,n)) {env:aa} {t:Array Value} (cD:de S B σ env t) :
  ∀(cO:List (Nat×Operand)) (c:Array Value) (l dR:List θ),fH S B σ c k l->q7 pl k a7 l (cO.map λp=>(p.1,aQ env p.2))=some dR->
  ∃c',Instr.fill place c (cO.map λp=>(p.1,bs t p.2))=some c'/\c'.size=c.size/\fH S B σ c' k dR/\dR.length=l.length:=by
 intro cO
 induction cO with
 | nil=>intro c l dR ζ h;cases h;exact⟨c,rfl,rfl,ζ,rfl⟩
 | cons p cO Δ=>
  obtain⟨x,o⟩:=p;intro c l dR ζ h;simp only[List.map_cons,q7] at h;split at h<;>try cases h
  rename_i i j n ψ;split at h<;>try cases h
  rename_i e he;split at h<;>try cases h
  rename_i Cb;obtain⟨J,γ,π⟩:=Cb;have ξ:=lJ cD o;have dG:(aQ env o).cells.all (θ.a7 σ)=true:=by
   rw[List.all_eq_true] at π ⊢;exact λa ξ=>n7 a (π a ξ)
  obtain⟨cm,_⟩:=ξ.cells dG;obtain⟨k1,cC⟩:=ζ.put he ξ dG (by omega:j+(aQ env o).cells.length<=k);obtain⟨c',Ζ,Ε,aY,cy⟩:=Δ _ _ _ cC h;refine⟨c',?_,by rw[Ε,k1],aY,by rw[cy];simp⟩;have iC:i<l.length:=(b7.1 he).1;have hle:i*k+j+(bs t o).cells.size<=c.size:=by
   have a1:(i+1)*k<=l.length*k:=Nat.mul_le_mul_right k iC
   have bl:=ζ.1;rw[Nat.add_mul] at a1;omega
  simp only[List.map_cons,Instr.fill,gO x i j n ψ];have c1:((bs t o).cells.size≠n)=False:=by simp;omega
  have c2:(i*k+j+(bs t o).cells.size > c.size)=False:=by simp;omega
  simp only[bne_iff_ne,ne_eq,Bool.or_eq_true,decide_eq_true_eq,c1,c2];simp only[ne_eq] at c1;simp only[c1,or_self,if_false];exact Ζ
def Nb (T:bd) (c5:Array Field):Option (List (Nat×Nat)):=c5.toList.mapM λf=>(T f.type).map λi=>(f.offset,i.size)
theorem Vy (Κ:bR P T) {K:Array (Nat×Nat)->Α->Prop} {E:Value->Α->Prop} {c5:Array Field} {l:List (Nat×Nat)} (h:Nb T c5=some l) (χ:K l.toArray H) :
  υ P (c5.mapM λf=>(do pure (f.offset,<-sizeOf f.type):Sem (Nat×Nat))) H K E:=by
 have key:∀(gs:List Field) (l:List (Nat×Nat)) (K:List (Nat×Nat)->Α->Prop),(gs.mapM λf=>(T f.type).map λi=>(f.offset,i.size))=some l->K l H->υ P (gs.mapM λf=>(do pure (f.offset,<-sizeOf f.type):Sem (Nat×Nat))) H K E:=by
  intro gs
  induction gs with
  | nil=>intro l K h χ;simp at h;subst h;exact υ.pure' χ
  | cons f gs Δ=>
   intro l K h χ;rw[List.mapM_cons] at h ⊢;cases Φ:T f.type with
   | none=>rw[Φ] at h;cases h
   | some i=>
    rw[Φ] at h;simp only[Option.map_some,Option.bind_eq_bind,Option.bind_some] at h;cases Υ:(gs.mapM λf=>(T f.type).map λi=>(f.offset,i.size)) with
    | none=>rw[Υ] at h;cases h
    | some l2=>
     rw[Υ] at h;cases h;refine υ.bind' (υ.bind' (Κ.size Φ (υ.pure' ?_)));refine υ.bind' (Δ l2 _ Υ ?_);exact υ.pure' χ
 rw[Array.mapM_eq_mapM_toList];exact υ.bind (c5.toList.mapM _) (key c5.toList l _ h (υ.pure' χ))
def mB (T:bd) (a7:θ->Bool) (ty:TypeId) (parts:List (Nat×θ)):cw:=match T ty with
 | some i=>
  let z:=ho i.zero
  if z.cells.length=i.zero.cells.size/\z.cells.all (θ.a7 [])=true then match i.bD with
   | .struct c5=>match Nb T c5 with
    | some pl=>match q7 (λx=>(pl[x]?).map λp=>(0,p.1,p.2)) z.cells.length a7 [z] parts with
     | some [e]=>.ok (.aS e.cells)
     | _=>.bad
    | none=>.bad
   | .array _ el=>match T el with
    | some bX=>match q7 (λx=>some (0,x*bX.size,bX.size)) z.cells.length a7 [z] parts with
     | some [e]=>.ok (.aS e.cells)
     | _=>.bad
    | none=>.bad
   | _=>.bad
  else .bad
 | none=>.bad
theorem Nc {c:Array Value} {k:Nat} {e:θ} (h:fH S B σ c k [e]) (χ:c.size=k):ao S B σ (.aS e.cells) (.agg c):=by
 obtain⟨J,γ⟩:=h.2 0 e rfl;refine .aS c (by rw[J,χ]) λj a v ε hv=>?_;obtain⟨x,Ζ,Ε,_⟩:=γ j a ε;rw[Nat.zero_mul,Nat.zero_add,hv] at Ζ;cases Ζ;exact Ε
theorem Nd (Κ:bR P T) (Β:Holds S B σ H) {a7:θ->Bool} (n7:∀a:θ,a7 a=true->a.a7 σ=true) (ty:TypeId) {env:aa} {t:Array Value} (cD:de S B σ env t) (parts:Array (Nat×Operand)) :
  cF P (Instr.build ty (parts.map λ(i,x)=>(i,bs t x))) S B H σ ((mB T a7 ty (parts.toList.map λp=>(p.1,aQ env p.2))).dq σ):=by
 unfold mB;cases hi:T ty with
 | none=>exact .bad
 | some i=>
  simp only;split
  ·rename_i Θ;obtain⟨pX,tT⟩:=Θ;have CQ:fH S B σ i.zero.cells (ho i.zero).cells.length [ho i.zero]:=fH.one (pV i.zero) (xF tT);have CR:(parts.map λ(i,x)=>(i,bs t x)).toList=parts.toList.map λp=>(p.1,bs t p.2):=by simp
   split
   ·rename_i c5 hu;split
    ·rename_i pl gO;split
     ·rename_i e he;intro K I;unfold Instr.build;refine υ.bind' (Κ.zero hi (υ.bind' (Κ.bD hi ?_)));rw[hu];refine υ.bind' (Vy Κ gO ?_);obtain⟨c',Ζ,Ε,aY,_⟩:=Hm (place:=(pl.toArray[·]?)) n7 (λx i j n h=>by
       cases U:pl[x]? with
       | none=>rw[U] at h;cases h
       | some p=>rw[U] at h;cases h;simp[U]) cD parts.toList _ _ _ CQ he
      rw[CR,Ζ];exact υ.pure' (.same Β I (Nc aY (by rw[Ε,pX])))
     ·exact .bad
    ·exact .bad
   ·rename_i m el hu;split
    ·rename_i bX dL;split
     ·rename_i e he;intro K I;unfold Instr.build;refine υ.bind' (Κ.zero hi (υ.bind' (Κ.bD hi ?_)));rw[hu];refine υ.bind' (Κ.size dL ?_);obtain⟨c',Ζ,Ε,aY,_⟩:=Hm (place:=λi=>some (i*bX.size,bX.size)) n7 (λx i j n h=>by
       simp at h;obtain⟨rfl,rfl,rfl⟩:=h;simp) cD parts.toList _ _ _ CQ he
      rw[CR,Ζ];exact υ.pure' (.same Β I (Nc aY (by rw[Ε,pX])))
     ·exact .bad
    ·exact .bad
   ·exact .bad
  ·exact .bad
def zK (T:bd) (a7:θ->Bool) (ty:TypeId) (len:Nat) (parts:List (Nat×θ)):Option (TypeId×Nat×List θ):=match hp T ty with
 | some (e,k,none)=>match T e with
  | some bX=>if 0<k/\len*k<=2 ^ 24/\(ho bX.zero).cells.length=k/\(ho bX.zero).cells.all (θ.a7 [])=true then
    (q7 (λx=>some (x,0,k)) k a7 (List.replicate len (ho bX.zero)) parts).map λl=>(e,k,l) else none
  | none=>none
 | _=>none
theorem Nf (Κ:bR P T) {a7:θ->Bool} (n7:∀a:θ,a7 a=true->a.a7 σ=true) {ty e:TypeId} {len k:Nat} {l:List θ} {env:aa} {t:Array Value} (cD:de S B σ env t) {parts:Array (Nat×Operand)}
  (h:zK T a7 ty len (parts.toList.map λp=>(p.1,aQ env p.2))=some (e,k,l)) {K:Value->Α->Prop} {E:Value->Α->Prop}
  (χ:∀c:Array Value,fH S B σ c k l->l.length=len->υ P (newObj (.cells c e)) H (λr H'=>K (.slice (some ⟨r,0,none⟩) len len) H') E) :
  υ P (Instr.buildSlice ty len (parts.map λ(i,x)=>(i,bs t x))) H K E:=by
 unfold zK at h;split at h<;>try cases h
 rename_i aJ ab he;split at h<;>try cases h
 rename_i bX dL;split at h<;>try cases h
 rename_i ζ;obtain⟨J,γ,π,Μ⟩:=ζ;obtain⟨i,Hn,hi,hu,tU,cm⟩:=CH he;rw[dL] at tU;cases tU;cases Φ:q7 (λx=>some (x,0,ab)) ab a7 (List.replicate len (ho bX.zero)) (parts.toList.map λp=>(p.1,aQ env p.2)) with
 | none=>rw[Φ] at h;cases h
 | some dR=>
  rw[Φ] at h;cases h;unfold Instr.buildSlice;refine υ.bind' (Κ.bD hi ?_);rw[hu];refine υ.bind' (Κ.size dL ?_);rw[cm];have Ng:¬(len*k > 2 ^ 24):=by omega
  simp only[Ng,if_false];have CR:(parts.map λ(i,x)=>(i,bs t x)).toList=parts.toList.map λp=>(p.1,bs t p.2):=by simp
  have fin:∀fY:Array Value,(len=0\/fY=bX.zero.cells)->∃c',Instr.fill (λi=>some (i*k,k)) ((Array.range (len*k)).map (fY[· % fY.size]!)) (parts.map λ(i,x)=>(i,bs t x)).toList=some c'/\fH S B σ c' k l/\l.length=len:=λfY q8=>by
   have CQ:fH S B σ ((Array.range (len*k)).map (fY[· % fY.size]!)) k (List.replicate len (ho bX.zero)):=by
    rcases q8 with rfl|q8
    ·exact⟨by simp,λi e hi=>by simp at hi⟩
    ·exact fH.M9 (pV bX.zero) (xF Μ) π (Nat.le_refl _) fY q8
   obtain⟨c',Ζ,Ε,aY,cy⟩:=Hm (place:=λi=>some (i*k,k)) n7 (λx i j n h=>by
    simp at h;obtain⟨rfl,rfl,rfl⟩:=h;simp) cD parts.toList _ _ _ CQ Φ
   rw[CR];exact⟨c',Ζ,aY,by rw[cy];simp⟩
  by_cases ω:len=0
  ·obtain⟨c',Ζ,Ε,aY⟩:=fin #[] (.inl ω);have Θ:len*k=0:=by rw[ω];simp
   rw[if_pos Θ];refine υ.bind' (υ.pure' ?_);rw[Ζ];exact υ.bind' (χ c' Ε aY)
  ·have bz:len*k≠0:=by
    intro ag;rcases Nat.mul_eq_zero.1 ag with ag|ag<;>omega
   obtain⟨c',Ζ,Ε,aY⟩:=fin _ (.inr rfl);rw[if_neg bz];refine υ.bind' (Κ.zero dL ?_);refine υ.bind' (υ.pure' ?_);rw[Ζ];exact υ.bind' (χ c' Ε aY)
def zL (T:bd) (a7:θ->Bool) (ty:TypeId) (len:Nat) (parts:List (Nat×θ)):cw:=match zK T a7 ty len parts with
 | some (_,k,l)=>.ok (.sl true k l)
 | none=>.bad
def CS (T:bd) (ty:TypeId) (len:Nat) (parts:List (Nat×θ)) (σ:List Row):cZ:=match zK T (θ.a7 σ) ty len parts with
 | some (e,k,l)=>.ok (.ms σ.length len 0 len) (σ++[.cells e k l])
 | none=>.bad
theorem Nh (Κ:bR P T) (Β:Holds S B σ H) {a7:θ->Bool} (n7:∀a:θ,a7 a=true->a.a7 σ=true) (ty:TypeId) (len:Nat) {env:aa} {t:Array Value} (cD:de S B σ env t) (parts:Array (Nat×Operand)) :
  cF P (Instr.buildSlice ty len (parts.map λ(i,x)=>(i,bs t x))) S B H σ ((zL T a7 ty len (parts.toList.map λp=>(p.1,aQ env p.2))).dq σ):=by
 unfold zL;split
 ·rename_i e k l h;intro K I;refine Nf Κ n7 cD h λc ζ hlen=>zJ Β c e λr J γ π=>⟨_,_,_,_,I,γ,J,π,?_⟩;have:=CM (cap:=len) true π ζ (by omega) (λ_=>hlen.symm);rw[hlen] at this;exact this
 ·exact .bad
theorem Ni {r n k:Nat} {t:TypeId} {l:List θ} (hlen:B.length=σ.length) (c:Array Value) (ζ:l.length*k<=c.size) (Η:l.length=n):ao S (B++[some (r,c.size)]) (σ++[.cells t k l]) (.ms σ.length n 0 n) (.slice (some ⟨r,0,none⟩) n n):=by
 have:=ao.ms (S:=S) (B:=B++[some (r,c.size)]) (σ:=σ++[.cells t k l]) (id:=σ.length) (n:=n) (i:=0) (len:=n) (t:=t) (k:=k) (l:=l) (bo:=some (r,c.size)) (base:=some ⟨r,0,none⟩) n (by simp) Η (by rw[<-hlen];simp) (by omega) (Nat.le_refl _) (.inr ⟨r,c.size,rfl,by simp,by subst Η;simpa using ζ⟩);exact this
theorem Vz (Κ:bR P T) (Β:Holds S B σ H) (ty:TypeId) (len:Nat) {env:aa} {t:Array Value} (cD:de S B σ env t) (parts:Array (Nat×Operand)) :
  cF P (Instr.buildSlice ty len (parts.map λ(i,x)=>(i,bs t x))) S B H σ (CS T ty len (parts.toList.map λp=>(p.1,aQ env p.2)) σ):=by
 unfold CS;split
 ·rename_i e k l h;intro K I;exact Nf Κ (λa h=>h) cD h λc ζ hlen=>zI Β ζ e λr _ J γ π=>⟨_,_,_,_,I,γ,J,π,Ni Β.len c ζ.1 hlen⟩
 ·exact .bad
def zM (T:bd) (ty:TypeId) (a b:θ):Option (TypeId×Nat×θ×Int×Int):=match hp T ty,a,b with
 | some (e,k,none),.z (.int _ n),.z (.int _ m)=>match T e with
  | some bX=>if 0<k/\(ho bX.zero).cells.length=k/\(ho bX.zero).cells.all (θ.a7 [])=true then some (e,k,ho bX.zero,n,bX.bytes) else none
  | none=>none
 | _,_,_=>none
end
section
variable {P:Program} {T:bd} {S:aB} {B:aR} {H:Α} {σ:List Row}
theorem Nj (Κ:bR P T) {ty e:TypeId} {k:Nat} {z:θ} {n bytes:Int} {a b:θ} {u v:Value} (ξ:ao S B σ a u) (hb:ao S B σ b v) (h:zM T ty a b=some (e,k,z,n,bytes)) (gL:∀kk m,b=.z (.int kk m)->m=n) (Η:0<=n/\0<bytes/\bytes*n<=2 ^ 48) {K:Value->Α->Prop} {E:Value->Α->Prop}
  (χ:∀c:Array Value,fH S B σ c k (List.replicate n.toNat z)->υ P (newObj (.cells c e)) H (λr H'=>K (.slice (some ⟨r,0,none⟩) n.toNat n.toNat) H') E) :
  υ P (Instr.makeSlice ty u v) H K E:=by
 unfold zM at h;split at h<;>try cases h
 rename_i aJ ab k1 iN cC m he;split at h<;>try cases h
 rename_i bX dL;split at h<;>try cases h
 rename_i ζ;obtain⟨J,γ,π⟩:=ζ;cases ξ;cases hb;have hm:=gL _ _ rfl;subst hm;obtain⟨i,Hn,hi,hu,tU,cm⟩:=CH he;rw[dL] at tU;cases tU;obtain⟨q9,jA,Ho⟩:=Η;have hle:m<=2 ^ 48:=by
  have:1*m<=(bX.bytes:Int)*m:=Int.mul_le_mul_of_nonneg_right (by omega) q9;omega
 have hw:IntKind.i64.wrap m=m:=IntWalk.i64_in m ⟨by omega,by omega⟩;unfold Instr.makeSlice;refine υ.bind' (Κ.bD hi ?_);rw[hu];refine υ.bind' (υ.bind' (υ.pure' (υ.pure' ?_)));refine υ.bind' (υ.bind' (υ.pure' (υ.pure' ?_)));refine υ.bind' (Κ.info dL λf Φ=>?_);simp only[hw,Φ];have c1:¬m<0:=by omega
 have c2:¬((bX.bytes:Int)*m > 2 ^ 48):=by omega
 have c3:¬m > m:=by omega
 simp only[c1,c2,c3,decide_false,Bool.or_false,Bool.false_eq_true,if_false];refine υ.bind' ?_;have fin:υ P (do
   let Nk <-(do pure (m.toNat*(<-sizeOf e)):Sem Nat)
   let zero <-if Nk=0 then pure #[] else do pure (<-zeroValue e).cells
   let a <-newRow e ((Array.range Nk).map (zero[· % zero.size]!))
   pure (.slice (some a) m.toNat m.toNat)) H K E:=by
  refine υ.bind' (υ.bind' (Κ.size dL (υ.pure' ?_)));rw[cm];by_cases Θ:m.toNat*k=0
  ·rw[if_pos Θ];refine υ.bind' (υ.pure' ?_);refine υ.bind' (υ.bind' ?_);refine χ _ ?_;rcases Nat.mul_eq_zero.1 Θ with ag|ag
   ·rw[ag];exact⟨by simp,λi e hi=>by simp at hi⟩
   ·omega
  ·rw[if_neg Θ];refine υ.bind' (Κ.zero dL ?_);refine υ.bind' (υ.pure' ?_);refine υ.bind' (υ.bind' ?_);exact χ _ (fH.M9 (pV bX.zero) (xF π) γ (Nat.le_refl _) _ rfl)
 unfold askRoom;split
 ·refine⟨rfl,?_⟩;show υ P _ H K E;have:=fin;simpa using this
 ·refine υ.pure' ?_;show υ P _ H K E;have:=fin;simpa using this
def CU (T:bd) (ty:TypeId) (a b:θ) (σ:List Row):cZ:=match zM T ty a b,b with
 | some (e,k,z,n,bytes),.z (.int _ m)=>.b4 (m=n/\0<=n/\0<bytes/\bytes*n<=2 ^ 48) (.ok (.ms σ.length n.toNat 0 n.toNat) (σ++[.cells e k (List.replicate n.toNat z)]))
 | _,_=>.bad
theorem VA (Κ:bR P T) (Β:Holds S B σ H) {ty:TypeId} {a b:θ} {u v:Value} (ξ:ao S B σ a u) (hb:ao S B σ b v):cF P (Instr.makeSlice ty u v) S B H σ (CU T ty a b σ):=by
 unfold CU;split
 ·rename_i e k z n bytes kk m h;refine .b4 λ⟨hm,Η⟩ K I=>?_;refine Nj Κ ξ hb h (λGZ b0 aJ=>by cases aJ;exact hm) Η λc ζ=>zI Β ζ e λr _ J γ π=>⟨_,_,_,_,I,γ,J,π,?_⟩;exact Ni Β.len c ζ.1 (by simp)
 ·exact .bad
def CV (T:bd) (ty:TypeId) (a b:θ):cw:=match zM T ty a b,b with
 | some (_,k,z,n,bytes),.z (.int _ m)=>.b4 (m=n/\0<=n/\0<bytes/\bytes*n<=2 ^ 48) (.ok (.sl true k (List.replicate n.toNat z)))
 | _,_=>.bad
theorem VB (Κ:bR P T) (Β:Holds S B σ H) {ty:TypeId} {a b:θ} {u v:Value} (ξ:ao S B σ a u) (hb:ao S B σ b v):cF P (Instr.makeSlice ty u v) S B H σ ((CV T ty a b).dq σ):=by
 unfold CV;split
 ·rename_i e k z n bytes kk m h;refine cF.b4 (r:=(cw.ok (.sl true k (List.replicate n.toNat z))).dq σ) λ⟨hm,Η⟩ K I=>?_;refine Nj Κ ξ hb h (λGZ b0 aJ=>by cases aJ;exact hm) Η λc ζ=>zJ Β c e λr J γ π=>⟨_,_,_,_,I,γ,J,π,?_⟩;have:=CM (cap:=n.toNat) true π ζ (by simp) (λ_=>by simp);simpa using this
 ·exact .bad
def Reads (H:Α) (base:Option Addr) (m:Nat) (w:Nat->Value):Prop:=m=0\/∃b o,base=some ⟨b,o,none⟩/\∀j,j<m->∃p,H.aG b (o+j)=some (w j,p)
theorem Hp {base:Option Addr} {k n cap:Nat} {len:Nat} {w:Nat->Value} (h:Reads H base (n*k) w) {K:Array Value->Α->Prop} {E:Value->Α->Prop} (χ:K ((List.range (n*k)).map w).toArray H) :
  υ P (Builtin.firstCells k n (.slice base len cap)) H K E:=by
 rcases h with h|⟨b,o,rfl,h⟩
 ·rw[h] at χ;cases base with
  | none=>exact υ.pure' χ
  | some a=>
   show υ P (loadCells a (n*k)) H K E;rw[h];exact υ.pure' χ
 ·exact υ.loadCells w rfl h χ
theorem VC {b4 old:Nat} (h:old<b4):Builtin.nextslicecap b4 old<=2*b4+768:=by
 unfold Builtin.nextslicecap;have grow:∀r c,c<=2*b4+768->Builtin.growBy b4 r c<=2*b4+768:=by
  intro r
  induction r with
  | zero=>intro c ζ;exact ζ
  | succ r Δ=>
   intro c ζ;unfold Builtin.growBy;split
   ·exact ζ
   ·exact Δ _ (by omega)
 split
 ·omega
 ·split
  ·omega
  ·exact grow 4 old (by omega)
def ia.isInt (i:ia):Bool:=i.bD matches .int _
def ku (T:bd) (st xt:TypeId):Option (TypeId×Nat×ia):=match hp T st,T xt with
 | some (e,k,none),some bZ=>match T e with
  | some bX=>if 0<k/\bX.zero.cells.size=k/\0<bX.bytes/\bX.bytes<=4096/\bZ.isInt=false then some (e,k,bX) else none
  | none=>none
 | _,_=>none
theorem Hq (Κ:bR P T) {st xt rt e:TypeId} {k:Nat} {bX:ia} (h:ku T st xt=some (e,k,bX)) {base zN:Option Addr} {sLen pY n CW:Nat} {wo wn:Nat->Value} (Γ:Reads H base (sLen*k) wo) (Η:Reads H zN (n*k) wn) (Ng:sLen+n<=4294967296) {K:Value->Α->Prop} {E:Value->Α->Prop}
  (br:sLen+n<=pY->υ P (match base with|some a=>storeCells (a.add (sLen*k)) ((List.range (n*k)).map wn)|none=>pure ()) H (λ_ H'=>K (.slice base (sLen+n) pY) H') E)
  (tH:pY<sLen+n->∀j1,sLen+n<=j1->υ P (newObj (.cells (((List.range (sLen*k)).map wo).toArray++((List.range (n*k)).map wn).toArray++Builtin.zeroCells bX.zero.cells (j1-(sLen+n))) e)) H (λr H'=>K (.slice (some ⟨r,0,none⟩) (sLen+n) j1) H') E) :
  υ P (Builtin.append_ #[st,xt] rt #[.slice base sLen pY,.slice zN n CW]) H K E:=by
 unfold ku at h;split at h<;>try cases h
 rename_i aJ ab bZ he o1;split at h<;>try cases h
 rename_i Hn dL;split at h<;>try cases h
 rename_i ζ;obtain⟨J,γ,π,Μ,aA⟩:=ζ;obtain⟨i,Hn,hi,hu,tU,cm⟩:=CH he;rw[dL] at tU;cases tU;unfold Builtin.append_;simp only[List.getElem?_toArray,List.getElem?_cons_zero,List.getElem?_cons_succ];refine υ.bind' (Κ.bD hi ?_);rw[hu];refine υ.bind' (Κ.size dL ?_);rw[cm];refine υ.bind' (υ.bind' (Κ.bD o1 ?_));split
 ·rename_i χ;unfold ia.isInt at aA;rw[χ] at aA;cases aA
 refine υ.bind' (υ.pure' ?_);simp only[Bool.false_eq_true,if_false,Bool.not_false,if_true];refine υ.bind' (υ.pure' ?_);split
 ·rename_i hle;refine υ.bind' (Hp Η ?_);have:=br hle;cases base with
  | none=>exact this
  | some a=>exact υ.bind' this
 ·rename_i Nl;have Nm:pY<sLen+n:=by omega
  refine υ.bind' (Κ.info dL λf Φ=>?_);have dD:¬(((sLen+n:Nat):Int) > IntKind.i64.max/\(False\/f.bytes=0)):=by rw[Φ];rintro⟨_,h|h⟩;exact h;omega
  simp only[dD,if_false];refine υ.bind' (Κ.info dL λf2 CX=>?_);have c1:¬(Builtin.nextslicecap (sLen+n) pY*f2.bytes > 2 ^ 48):=by
   rw[CX];have a1:=VC Nm;have bl:Builtin.nextslicecap (sLen+n) pY*bX.bytes<=(2*(sLen+n)+768)*4096:=Nat.mul_le_mul a1 Μ;omega
  simp only[c1,if_false];refine υ.bind' ?_;show υ P (choose _) H _ E;unfold choose;simp only[υ];have Ρ:(Question.appendCap (sLen+n) pY e).forced=false:=rfl;rw[Ρ];simp only[Bool.false_eq_true,if_false];intro q;refine υ.bind' (Κ.info dL λf3 Hr=>?_);have fin:υ P (do
    let old <-Builtin.firstCells k sLen (.slice base sLen pY)
    let new <-Builtin.firstCells k n (.slice zN n CW)
    let rest <-(do pure (Builtin.zeroCells (<-zeroValue e).cells ((Question.appendCap (sLen+n) pY e).cut q-(sLen+n))):Sem (Array Value))
    pure (.slice (some (<-newRow e (old++new++rest))) (sLen+n) ((Question.appendCap (sLen+n) pY e).cut q))) H K E:=by
   refine υ.bind' (Hp Γ ?_);refine υ.bind' (Hp Η ?_);refine υ.bind' (υ.bind' (Κ.zero dL (υ.pure' ?_)));refine υ.bind' (υ.bind' ?_);exact tH Nm _ (by simp[Question.cut])
  refine υ.bind' ?_;unfold askRoom;split
  ·refine⟨rfl,?_⟩;show υ P _ H K E;simpa using fin
  ·refine υ.pure' ?_;show υ P _ H K E;simpa using fin
end
section
variable {P:Program} {T:bd} {S:aB} {B:aR} {H:Α} {σ:List Row}
def pZ (σ:List Row):θ->Option (Nat×List θ)
 | .sl _ k l=>some (k,l)
 | .ms id n i len=>match σ[id]? with
  | some (.cells _ k l)=>if l.length=n/\i+len<=n then some (k,(l.drop i).take len) else none
  | _=>none
 | _=>none
def xJ (S:aB) (B:aR) (σ:List Row) (w:Nat->Value) (k:Nat) (l:List θ):Prop:=∀(i:Nat) (e:θ),l[i]?=some e->e.cells.length=k/\∀(j:Nat) (a:θ),e.cells[j]?=some a->ao S B σ a (w (i*k+j))
theorem VD {k i j:Nat} (ε:j<k):(i*k+j) / k=i/\(i*k+j) % k=j:=by
 have χ:0<k:=by omega
 refine⟨?_,?_⟩
 ·rw[Nat.add_comm,Nat.add_mul_div_right _ _ χ,Nat.div_eq_of_lt ε,Nat.zero_add]
 ·rw[Nat.add_comm,Nat.add_mul_mod_self_right];exact Nat.mod_eq_of_lt ε
theorem CY (Β:Holds S B σ H) {a:θ} {v:Value} {k k1:Nat} {l:List θ} (ξ:ao S B σ a v) (h:pZ σ a=some (k1,l)) (χ:0<k) (q':l.isEmpty=true\/k1=k) :
  ∃base cap w,v=.slice base l.length cap/\l.length<=cap/\Reads H base (l.length*k) w/\xJ S B σ w k l:=by
 have flat:∀(b o:Nat) (w2:Nat->Nat->Value),(∀(i:Nat) (e:θ),l[i]?=some e->e.cells.length=k)->(∀(i:Nat) (e:θ),l[i]?=some e->∀(j:Nat) (c:θ),e.cells[j]?=some c->∃p,H.aG b (o+i*k+j)=some (w2 i j,p))->
   (∀(i:Nat) (e:θ),l[i]?=some e->∀(j:Nat) (c:θ),e.cells[j]?=some c->ao S B σ c (w2 i j))->Reads H (some ⟨b,o,none⟩) (l.length*k) (λm=>w2 (m / k) (m % k))/\xJ S B σ (λm=>w2 (m / k) (m % k)) k l:=by
  intro b o w2 J γ π;refine⟨.inr ⟨b,o,rfl,λm hm=>?_⟩,λi e hi=>⟨J i e hi,λj c ε=>?_⟩⟩
  ·have hi:m / k<l.length:=(Nat.div_lt_iff_lt_mul χ).2 hm
   have np:l[m / k]?=some l[m / k]:=aW hi
   have ε:m % k<l[m / k].cells.length:=by rw[J _ _ np];exact Nat.mod_lt _ χ
   obtain⟨p,ψ⟩:=γ _ _ np (m % k) _ (aW ε);refine⟨p,?_⟩;have:o+m=o+m / k*k+m % k:=by have:=Nat.div_add_mod m k;rw[Nat.mul_comm] at this;omega
   rw[this];exact ψ
  ·have o3:j<k:=by rw[<-J i e hi];exact(b7.1 ε).1
   obtain⟨Ζ,Ε⟩:=VD (i:=i) o3;simp only[Ζ,Ε];exact π i e hi j c ε
 have empty:∀(base:Option Addr) (cap:Nat),l=[]->v=.slice base 0 cap->∃base cap w,v=.slice base l.length cap/\l.length<=cap/\Reads H base (l.length*k) w/\xJ S B σ w k l:=λbase cap ω hv=>by
  subst ω;exact⟨base,cap,λ_=>undef,hv,Nat.zero_le _,.inl (by simp),λi e hi=>by simp at hi⟩
 unfold pZ at h;split at h
 ·cases h;obtain⟨base,cap,rfl,J,_,γ⟩:=q6 ξ;by_cases ω:l=[]
  ·exact empty base cap ω (by rw[ω];rfl)
  ·obtain⟨b,o,w,rfl,π,Μ,aA⟩:=γ ω;have hB:k1=k:=q'.elim (λx=>absurd (List.isEmpty_iff.1 x) ω) id;subst hB;obtain⟨r1,r2⟩:=flat b o w π (λi e hi j c ε=>Β.dd _ _ _ (Μ i e hi j c ε)) aA;exact⟨_,cap,_,rfl,J,r1,r2⟩
 ·rename_i id n i len;split at h
  ·rename_i t ab dR ω;split at h
   ·rename_i ζ;cases h;obtain⟨Η,hlen⟩:=ζ;have iD:((dR.drop i).take len).length=len:=by simp;omega
    cases ξ with
    | ms cap J γ π Μ aA bc=>
     rw[ω] at J;cases J;rcases bc with bc|⟨b,N,rfl,rfl,bc⟩
     ·subst bc;have:len=0:=by omega
      subst this;exact empty _ 0 (by simp) rfl
     ·by_cases Θ:len=0
      ·subst Θ;exact empty _ cap (by simp) rfl
      ·have bz:¬((dR.drop i).take len).isEmpty=true:=λx=>by
        rw[List.isEmpty_iff] at x;rw[x] at iD;simp at iD;omega
       have hB:=q'.resolve_left bz;subst hB;obtain⟨bC,b8,fW,w,hw⟩:=Β.row id _ _ ω π;have el:∀(x:Nat) (e:θ),((dR.drop i).take len)[x]?=some e->dR[i+x]?=some e:=λx e U=>by
        rw[List.getElem?_take] at U;split at U
        ·rw[List.getElem?_drop] at U;exact U
        ·cases U
       obtain⟨r1,r2⟩:=flat b (i*k1) (λx j=>w (i+x) j) (λx e U=>(hw _ e (el x e U)).1) (λx e U j c ε=>⟨true,by
        have:=((hw _ e (el x e U)).2 j c ε).1;rw[Nat.add_mul] at this;exact this⟩) (λx e U j c ε=>((hw _ e (el x e U)).2 j c ε).2.1)
       exact⟨_,cap,_,by rw[iD],by rw[iD];exact aA,r1,r2⟩
    | iW v J γ=>rw[ω] at J;cases J;simp only[Row.g4] at γ;omega
   ·cases h
  ·cases h
 ·cases h
theorem Hs {w1 w2:Nat->Value} {k:Nat} {l1 l2:List θ} (J:xJ S B σ w1 k l1) (γ:xJ S B σ w2 k l2) (du:l1.all (λe=>e.cells.all (θ.a7 σ))=true) (hN:l2.all (λe=>e.cells.all (θ.a7 σ))=true) (z:Array Value) :
  fH S B σ (((List.range (l1.length*k)).map w1).toArray++((List.range (l2.length*k)).map w2).toArray++z) k (l1++l2):=by
 have ok:∀(l:List θ),l.all (λe=>e.cells.all (θ.a7 σ))=true->∀e∈l,∀a∈e.cells,θ.a7 σ a=true:=λl h e he a ξ=>List.all_eq_true.1 (List.all_eq_true.1 h e he) a ξ;refine⟨by simp[Nat.add_mul],λi e hi=>?_⟩;by_cases aD:i<l1.length
 ·rw[dB aD] at hi;refine⟨(J i e hi).1,λj a ε=>?_⟩;have o3:j<k:=by rw[<-(J i e hi).1];exact(b7.1 ε).1
  have hb:i*k+j<l1.length*k:=by
   have:(i+1)*k<=l1.length*k:=Nat.mul_le_mul_right k aD;rw[Nat.add_mul] at this;omega
  have μ:=(J i e hi).2 j a ε;refine⟨w1 (i*k+j),?_,μ,μ.zH (ok l1 du e (ck hi) a (ck ε))⟩;rw[Array.append_assoc,Array.getElem?_append_left (by simpa using hb)];simp[hb]
 ·rw[fS (by omega)] at hi;refine⟨(γ _ e hi).1,λj a ε=>?_⟩;have o3:j<k:=by rw[<-(γ _ e hi).1];exact(b7.1 ε).1
  have vI:i-l1.length<l2.length:=(b7.1 hi).1
  have hb:(i-l1.length)*k+j<l2.length*k:=by
   have:(i-l1.length+1)*k<=l2.length*k:=Nat.mul_le_mul_right k vI;rw[Nat.add_mul] at this;omega
  have he:i*k+j=l1.length*k+((i-l1.length)*k+j):=by
   have:i=l1.length+(i-l1.length):=by omega
   conv=>lhs;rw[this,Nat.add_mul]
   omega
  have μ:=(γ _ e hi).2 j a ε;refine⟨w2 ((i-l1.length)*k+j),?_,μ,μ.zH (ok l2 hN e (ck hi) a (ck ε))⟩;rw[he,Array.append_assoc,Array.getElem?_append_right (by simp)];rw[Array.getElem?_append_left (by simp;omega)];simp[hb]
def θ.lK (a7:θ->Bool) (l:List θ):Bool:=l.all λe=>e.cells.all a7
def sA (T:bd) (st xt:TypeId) (a7:θ->Bool) (σ:List Row) (s x:θ):cw:=
 match ku T st xt,s,pZ σ x with
 | some (_,k,_),.sl true ev l0,some (k1,l1)=>
  if(l0.isEmpty=true\/ev=k)/\(l1.isEmpty=true\/k1=k)/\θ.lK a7 l0=true/\θ.lK a7 l1=true then .b4 (l0.length+l1.length<=4294967296) (.ok (.sl false k (l0++l1))) else .bad
 | _,_,_=>.bad
theorem VE {k ev:Nat} {l0:List θ} {v:Value} (h:ao S B σ (.sl true ev l0) v) (χ:l0.isEmpty=true\/ev=k):ao S B σ (.sl false k l0) v:=by
 by_cases ω:l0=[]
 ·subst ω;obtain⟨base,cap,rfl,_⟩:=q6 h;exact .iA base cap (by simp)
 ·have:=χ.resolve_left (λx=>ω (List.isEmpty_iff.1 x));subst this;cases h with
  | iA=>exact absurd rfl ω
  | sl b o cap w J γ π Μ aA=>exact .sl b o cap w (by simp) γ π Μ aA
theorem Ht {a7:θ->Bool} (n7:∀a:θ,a7 a=true->a.a7 σ=true) {l:List θ} (h:θ.lK a7 l=true):l.all (λe=>e.cells.all (θ.a7 σ))=true:=by
 unfold θ.lK at h;rw[List.all_eq_true] at h ⊢;intro e he;have:=h e he;rw[List.all_eq_true] at this ⊢;exact λa ξ=>n7 a (this a ξ)
theorem Nn (Κ:bR P T) (Β:Holds S B σ H) {a7:θ->Bool} (n7:∀a:θ,a7 a=true->a.a7 σ=true) (st xt rt:TypeId) {s x:θ} {u v:Value} (ο:ao S B σ s u) (U:ao S B σ x v) :
  cF P (Builtin.append_ #[st,xt] rt #[u,v]) S B H σ ((sA T st xt a7 σ s x).dq σ):=by
 unfold sA;split
 ·rename_i e k bX ev l0 k1 l1 o4 tV;split
  ·rename_i ζ;obtain⟨c1,c2,c3,c4⟩:=ζ;refine cF.b4 (r:=(cw.ok (.sl false k (l0++l1))).dq σ) λsj K I=>?_;have χ:0<k:=by
    unfold ku at o4;split at o4<;>try cases o4
    split at o4<;>try cases o4
    split at o4<;>try cases o4
    rename_i h;exact h.1
   obtain⟨base,cap,w,rfl,_,r1,r2⟩:=CY Β ο (k:=k) rfl χ c1;obtain⟨zN,CW,w1,rfl,_,r3,iQ⟩:=CY Β U tV χ c2;have xG:cap=l0.length:=by
    obtain⟨Χ,He,Ζ,_,Ε,_⟩:=q6 ο;cases Ζ;exact Ε rfl
   have fin:∀ax H' v,Holds ax B σ H'->Ext S B H ax B H'->b3 S ax B B σ σ->ao ax B σ (.sl false k (l0++l1)) v->iB S B H σ K v H':=λax H' v a b c d=>⟨ax,B,σ,_,I,b,a,c,d⟩;refine Hq Κ o4 r1 r3 sj (λbr=>?_) (λ_ j1 sB=>?_)
   ·have p0:l1=[]:=by
     cases l1 with
     | nil=>rfl
     | cons=>simp at br;omega
    subst p0;have CZ:ao S B σ (.sl false k (l0++[])) (.slice base (l0.length+([]:List θ).length) cap):=by
     rw[List.append_nil];exact VE ο c1
    cases base with
    | none=>exact υ.pure' (fin S H _ Β (.refl _ _ _) (.refl _ _ _) CZ)
    | some a=>
     have Θ:((List.range (([]:List θ).length*k)).map w1)=[]:=by simp
     rw[Θ];exact υ.pure' (fin S H _ Β (.refl _ _ _) (.refl _ _ _) CZ)
   ·refine zJ Β _ e λr J γ π=>fin _ _ _ J γ π ?_;have:=CM (cap:=j1) false π (Hs r2 iQ (Ht n7 c3) (Ht n7 c4) (Builtin.zeroCells bX.zero.cells (j1-(l0.length+l1.length)))) (by simpa using sB) (by simp);rw[List.length_append] at this;exact this
  ·exact .bad
 ·exact .bad
end
section
variable {P:Program} {T:bd} {S:aB} {B:aR} {H:Α} {σ:List Row}
theorem VF {st xt e:TypeId} {k:Nat} {bX:ia} (h:ku T st xt=some (e,k,bX)):0<k/\bX.zero.cells.size=k:=by
 unfold ku at h;split at h<;>try cases h
 split at h<;>try cases h
 split at h<;>try cases h
 rename_i h;exact⟨h.1,h.2.1⟩
theorem C0 {α:Type} (l:List α) (x:α):(l++[x])[l.length]?=some x:=by simp
theorem C1 {B:aR} {σ:List Row} (hlen:B.length=σ.length) (bo:Option (Nat×Nat)):(B++[bo])[σ.length]?=some bo:=by rw[<-hlen];simp
def vJ (H:Α) (bo:Option (Nat×Nat)) (m:Nat):Value:=match bo with|some (b,_)=>((H.aG b m).map (·.1)).getD undef|none=>undef
theorem Np (z:Array Value) (n:Nat):(Builtin.zeroCells z n).size=n*z.size:=by simp[Builtin.zeroCells]
def C2 (T:bd) (st xt:TypeId) (σ:List Row) (s x:θ):cZ:=
 match ku T st xt,pZ σ x with
 | some (e,k,_),some (k1,l1)=>
  if(l1.isEmpty=true\/k1=k)/\θ.lK (θ.a7 σ) l1=true then match s with
   | .sl true _ l0=>if l0.isEmpty=true then .b4 (l1.length<=4294967296) (.ok (.ms σ.length l1.length 0 l1.length) (σ++[.cells e k l1])) else .bad
   | .ms id n i len=>match σ[id]? with
    | some (.cells t ab l)=>if i=0/\l.length=n/\len=n/\ab=k/\t=e then .b4 (n+l1.length<=4294967296) (.ok (.ms id (n+l1.length) 0 (n+l1.length)) (σ.set id (.cells t k (l++l1)))) else .bad
    | _=>.bad
   | _=>.bad
  else .bad
 | _,_=>.bad
theorem VG (Κ:bR P T) (Β:Holds S B σ H) (st xt rt:TypeId) {s x:θ} {u v:Value} (ο:ao S B σ s u) (U:ao S B σ x v) :
  cF P (Builtin.append_ #[st,xt] rt #[u,v]) S B H σ (C2 T st xt σ s x):=by
 unfold C2;split
 ·rename_i e k bX k1 l1 o4 tV;split
  ·rename_i ζ;obtain⟨c2,c4⟩:=ζ;obtain⟨χ,q8⟩:=VF o4;obtain⟨zN,CW,w1,rfl,_,r3,iQ⟩:=CY Β U tV χ c2;have Hu:=Ht (σ:=σ) (λa h=>h) c4;split
   ·rename_i ev l0;split
    ·rename_i he;have Hv:l0=[]:=List.isEmpty_iff.1 he;subst Hv;refine .b4 λsj K I=>?_;obtain⟨base,cap,rfl,_,xG,_⟩:=q6 ο;have VH:cap=0:=xG rfl;subst VH;refine Hq Κ o4 (sLen:=0) (wo:=λ_=>undef) (.inl (by simp)) r3 (by omega) (λbr=>?_) (λ_ j1 sB=>?_)
     ·have p0:l1=[]:=by
       cases l1 with
       | nil=>rfl
       | cons=>simp at br
      subst p0;obtain⟨dH,p2,p3⟩:=Β.push (H':=H) (r:=.cells e k []) (bo:=none) (λb N e=>by cases e) (λb _=>⟨λ_=>rfl,rfl,rfl⟩) (λ_=>rfl);have fin:iB S B H σ K (.slice base (([]:List θ).length+([]:List θ).length) 0) H:=⟨S,_,_,_,I,p2,dH,p3,.ms 0 (C0 σ _) rfl (C1 Β.len _) (by simp) (Nat.le_refl _) (.inl rfl)⟩;cases base with
      | none=>exact υ.pure' fin
      | some a=>
       have Θ:((List.range (([]:List θ).length*k)).map w1)=[]:=by simp
       rw[Θ];exact υ.pure' fin
     ·have ω:fH S B σ (((List.range (0*k)).map λ_=>undef).toArray++((List.range (l1.length*k)).map w1).toArray++Builtin.zeroCells bX.zero.cells (j1-(0+l1.length))) k ([]++l1):=
       Hs (l1:=[]) (λi e hi=>by simp at hi) iQ (by simp) Hu _
      rw[List.nil_append] at ω;refine zI Β ω e λr _ J γ π=>⟨_,_,_,_,I,γ,J,π,?_⟩;simp only[List.length_nil,Nat.zero_add];refine .ms j1 (C0 σ _) rfl (C1 Β.len _) (by omega) (by simpa using sB) (.inr ⟨r,_,rfl,by simp,?_⟩);simp only[Nat.zero_add,Array.size_append,List.size_toArray,List.length_map,List.length_range,Np,q8,Nat.zero_mul];rw[<-Nat.add_mul];have:l1.length+(j1-l1.length)=j1:=by simp at sB;omega
      rw[this];exact Nat.le_refl _
    ·exact .bad
   ·rename_i id n i len;split
    ·rename_i t ab l ω;split
     ·rename_i mC;obtain⟨iR,Η,hlen,q',VI⟩:=mC;subst iR;subst hlen;subst q';subst VI;refine .b4 λsj K I=>?_;cases ο with
      | @ms _ _ _ _ _ _ _ bo base cap J γ π Μ aA bc=>
       rw[ω] at J;cases J;have cd:=Β.row id _ bo ω π;have Hw:Reads H base (len*ab) (vJ H bo):=by
        rcases bc with bc|⟨b,N,rfl,rfl,bc⟩
        ·exact .inl (by rw[show len=0 from by omega];simp)
        ·refine .inr ⟨b,0,by simp,λj ε=>⟨true,?_⟩⟩;obtain⟨w,hw⟩:=cd.2.2.1 j (by have:=cd.2.1;rw[Η] at this;omega);rw[Nat.zero_add];simp[hw,vJ]
       have same:l1=[]->iB S B H σ K (.slice base (len+l1.length) cap) H:=λcv=>by
        subst cv;have bW:id<σ.length:=(b7.1 ω).1;have ra:σ.set id (.cells t ab (l++[]))=σ:=by
         rw[List.append_nil];apply List.ext_getElem?;intro j;by_cases mA:id=j
         ·subst mA;rw[List.getElem?_set_self bW,ω]
         ·rw[List.getElem?_set_ne mA]
        rw[ra] at I;exact⟨S,B,σ,_,I,.refl _ _ _,Β,.refl _ _ _,.ms cap ω Η π (by simp) aA bc⟩
       have bW:id<σ.length:=(b7.1 ω).1
       have oZ:id<B.length:=by rw[Β.len];exact bW
       refine Hq Κ o4 Hw r3 sj (λbr=>?_) (λNl j1 sB=>?_)
       ·by_cases cv:l1=[]
        ·have:=same cv;subst cv;cases base with
         | none=>exact υ.pure' this
         | some a=>
          have Θ:((List.range (([]:List θ).length*ab)).map w1)=[]:=by simp
          rw[Θ];exact υ.pure' this
        ·have p1:0<l1.length:=List.length_pos_iff.2 cv;rcases bc with bc|⟨b,N,rfl,rfl,bc⟩
         ·omega
         ·obtain⟨bC,b8,fW,w,hw⟩:=cd;have VJ:(len+l1.length)*ab<=N:=by
           have:(len+l1.length)*ab<=(0+cap)*ab:=Nat.mul_le_mul_right _ (by omega);omega
          rw[Nat.add_mul] at VJ;have VK:(⟨b,0*ab,none⟩:Addr).add (len*ab)=⟨b,len*ab,none⟩:=by rw[tR];simp
          have Nq:((List.range (l1.length*ab)).map w1).length=l1.length*ab:=by simp
          have hS:∀j,j<l1.length*ab->((List.range (l1.length*ab)).map w1)[j]?=some (w1 j):=λj ε=>by simp[ε]
          have Nr:∀(i:Nat) (e:θ) (j:Nat) (a:θ),l1[i]?=some e->e.cells[j]?=some a->One (w1 (i*ab+j)):=λi e j a hi ε=>
           ((iQ i e hi).2 j a ε).zH (List.all_eq_true.1 (List.all_eq_true.1 Hu e (ck hi)) a (ck ε))
          have VL:∀v∈(List.range (l1.length*ab)).map w1,One v:=λv hv=>by
           obtain⟨m,hm,rfl⟩:=List.mem_map.1 hv;have da:m<l1.length*ab:=by simpa using hm
           have hi:m / ab<l1.length:=(Nat.div_lt_iff_lt_mul χ).2 da
           have np:=aW hi
           have ε:m % ab<l1[m / ab].cells.length:=by rw[(iQ _ _ np).1];exact Nat.mod_lt _ χ
           have:=Nr _ _ _ _ np (aW ε)
           have Ζ:m / ab*ab+m % ab=m:=by have:=Nat.div_add_mod m ab;rw[Nat.mul_comm] at this;exact this
           rw[Ζ] at this;exact this
          have zs:b3 S S B (B.set id (some (b,N))) σ (σ.set id (.cells t ab (l++l1)))->jC S (B.set id (some (b,N))) (σ.set id (.cells t ab (l++l1))) (H.hk b (len*ab) ((List.range (l1.length*ab)).map w1)) (.cells t ab (l++l1)) (some (b,N)):=λkG=>by
           refine⟨bC,by simp[Nat.add_mul,Η];omega,λo Γ=>?_,λi j=>if i<len then w i j else w1 ((i-len)*ab+j),λi e hi=>?_⟩
           ·simp only[Α.hk];split
            ·exact⟨_,rfl⟩
            ·exact fW o Γ
           ·by_cases aD:i<l.length
            ·rw[dB aD] at hi;refine⟨(hw i e hi).1,λj a ε=>?_⟩;obtain⟨Τ,af,aX⟩:=(hw i e hi).2 j a ε;have o3:j<ab:=by rw[<-(hw i e hi).1];exact(b7.1 ε).1
             have hb:i*ab+j<len*ab:=by
              have:(i+1)*ab<=len*ab:=Nat.mul_le_mul_right ab (by omega);rw[Nat.add_mul] at this;omega
             simp only[show i<len by omega,if_true];refine⟨?_,af.later kG,aX⟩;simp only[Α.hk];rw[if_neg (by omega)];exact Τ
            ·rw[fS (by omega),Η] at hi;refine⟨(iQ _ e hi).1,λj a ε=>?_⟩;have o3:j<ab:=by rw[<-(iQ _ e hi).1];exact(b7.1 ε).1
             have vI:i-len<l1.length:=(b7.1 hi).1
             have hb:(i-len)*ab+j<l1.length*ab:=by
              have:(i-len+1)*ab<=l1.length*ab:=Nat.mul_le_mul_right ab vI;rw[Nat.add_mul] at this;omega
             have he:i*ab+j=len*ab+((i-len)*ab+j):=by
              have:i=len+(i-len):=by omega
              conv=>lhs;rw[this,Nat.add_mul]
              omega
             simp only[show ¬i<len by omega,if_false];refine⟨?_,((iQ _ e hi).2 j a ε).later kG,Nr _ e j a hi ε⟩;simp only[Α.hk,Nq];rw[if_pos ⟨trivial,by omega,by omega⟩];have:i*ab+j-len*ab=(i-len)*ab+j:=by omega
             rw[this,hS _ hb];rfl
          obtain⟨dH,p2,p3⟩:=Β.xB (H':=H.hk b (len*ab) ((List.range (l1.length*ab)).map w1)) (r':=.cells t ab (l++l1)) (bo':=some (b,N)) ω trivial π (.inr λm hm=>by simp only[Row.g4,List.length_append];omega) (λΧ eP aJ=>.inl ⟨eP,aJ⟩)
           (λΧ J _=>by
            have bz:Χ≠b:=λaJ=>by subst aJ;exact J N rfl
            exact⟨λo=>by simp[Α.hk,bz],rfl,rfl⟩) Α.Hb (CJ Β ω) zs
          show υ P (storeCells ((⟨b,0*ab,none⟩:Addr).add (len*ab)) _) H _ _;rw[VK];refine υ.storeCells (G:=H) rfl ⟨t,N,bC⟩ _ 0 H VL (λj _ ε=>?_) rfl ?_
          ·rw[Nq] at ε;obtain⟨u,hu⟩:=fW (len*ab+j) (by omega);exact⟨u,hu⟩
          ·refine⟨S,_,_,_,I,p2,dH,p3,.ms cap (by rw[List.getElem?_set_self bW]) (by simp[Η]) (by rw[List.getElem?_set_self oZ]) (by omega) br (.inr ⟨b,N,rfl,rfl,bc⟩)⟩
       ·have cv:l1≠[]:=by rintro rfl;simp at Nl;omega
        have p1:0<l1.length:=List.length_pos_iff.2 cv
        have Hx:xJ S B σ (vJ H bo) ab l:=λi e hi=>by
         cases bo with
         | none=>have:l=[]:=cd
                 rw[this] at hi;simp at hi
         | some x=>
          obtain⟨b,N⟩:=x;obtain⟨_,_,_,w,hw⟩:=cd;refine⟨(hw i e hi).1,λj a ε=>?_⟩;obtain⟨Τ,af,_⟩:=(hw i e hi).2 j a ε;simp only[vJ,Τ];exact af
        have zO:fH S B σ (((List.range (len*ab)).map (vJ H bo)).toArray++((List.range (l1.length*ab)).map w1).toArray++Builtin.zeroCells bX.zero.cells (j1-(len+l1.length))) ab (l++l1):=by
         refine⟨by simp[Nat.add_mul,Η],λi e hi=>?_⟩;by_cases aD:i<l.length
         ·rw[dB aD] at hi;refine⟨(Hx i e hi).1,λj a ε=>?_⟩;have o3:j<ab:=by rw[<-(Hx i e hi).1];exact(b7.1 ε).1
          have hb:i*ab+j<len*ab:=by
           have:(i+1)*ab<=len*ab:=Nat.mul_le_mul_right ab (by omega);rw[Nat.add_mul] at this;omega
          refine⟨_,?_,(Hx i e hi).2 j a ε,?_⟩
          ·rw[Array.append_assoc,Array.getElem?_append_left (by simpa using hb)];simp[hb]
          ·cases bo with
           | none=>have:l=[]:=cd
                   rw[this] at aD;simp at aD
           | some x=>
            obtain⟨b,N⟩:=x;obtain⟨_,_,_,w,hw⟩:=cd;obtain⟨Τ,af,aX⟩:=(hw i e hi).2 j a ε;simp only[vJ,Τ];exact aX
         ·rw[fS (by omega),Η] at hi;have:=Hs (l1:=[]) (w1:=λ_=>undef) (k:=ab) (λi e hi=>by simp at hi) iQ (by simp) Hu (Builtin.zeroCells bX.zero.cells (j1-(len+l1.length)));obtain⟨eR,ew⟩:=this.2 (i-len) e (by simpa using hi);refine⟨eR,λj a ε=>?_⟩;obtain⟨x,iE,sC,tW⟩:=ew j a ε;have o3:j<ab:=by rw[<-eR];exact(b7.1 ε).1
          have he:i*ab+j=len*ab+((i-len)*ab+j):=by
           have:i=len+(i-len):=by omega
           conv=>lhs;rw[this,Nat.add_mul]
           omega
          refine⟨x,?_,sC,tW⟩;rw[he,Array.append_assoc,Array.getElem?_append_right (by simp)];simpa using iE
        refine⟨rfl,λr μ=>?_⟩;generalize VM:(((List.range (len*ab)).map (vJ H bo)).toArray++((List.range (l1.length*ab)).map w1).toArray++Builtin.zeroCells bX.zero.cells (j1-(len+l1.length)))=c at zO;have VN:j1*ab<=c.size:=by
         rw[<-VM];simp only[Array.size_append,List.size_toArray,List.length_map,List.length_range,Np,q8];rw[<-Nat.add_mul,<-Nat.add_mul];have:len+l1.length+(j1-(len+l1.length))=j1:=by omega
         rw[this];exact Nat.le_refl _
        obtain⟨dH,p2,p3⟩:=Β.xB (H':=H.dv r c t) (r':=.cells t ab (l++l1)) (bo':=some (r,c.size)) ω trivial π (.inr λm hm=>by simp only[Row.g4,List.length_append];omega) (λΧ eP aJ=>.inr (by cases aJ;exact μ))
         (λΧ _ γ=>by
          have bz:Χ≠r:=λaJ=>by subst aJ;exact γ _ rfl
          exact⟨λo=>by simp[Α.dv,bz],by simp[Α.dv,bz],rfl⟩) (Α.MQ μ c t) (CJ Β ω) (λkG=>by
          have a5:=zO.later kG;refine⟨by simp[Α.dv],zO.1,λo Γ=>⟨c[o],by simp[Α.dv,Γ]⟩,λi j=>(c[i*ab+j]?).getD undef,λi e hi=>⟨(a5.2 i e hi).1,λj a ε=>?_⟩⟩;obtain⟨x,Ζ,Ε,aY⟩:=(a5.2 i e hi).2 j a ε;simp only[Ζ,Option.getD_some];exact⟨by simp[Α.dv,Ζ],Ε,aY⟩)
        exact⟨S,_,_,_,I,p2,dH,p3,.ms j1 (by rw[List.getElem?_set_self bW]) (by simp[Η]) (by rw[List.getElem?_set_self oZ]) (by omega) (by omega) (.inr ⟨r,c.size,rfl,by simp,by simpa using VN⟩)⟩
      | iW v J γ=>rw[ω] at J;cases J;simp only[Row.g4] at γ;omega
     ·exact .bad
    ·exact .bad
   ·exact .bad
  ·exact .bad
 ·exact .bad
end
section
variable {P:Program} {T:bd} {S:aB} {B:aR} {H:Α} {σ:List Row}
def p5 (o:Option θ) (d:Int):Option Int:=match o with
 | none=>some d
 | some (.z (.int _ n))=>some n
 | _=>none
def vK (S:aB) (B:aR) (σ:List Row):Option θ->Option Value->Prop
 | none,none=>True
 | some a,some v=>ao S B σ a v
 | _,_=>False
theorem Ns {k:IntKind} {n:Int} {y:Nat} {code:BoundsCode} (h:0<=n/\n<=y) {G:Α} {K:Nat->Α->Prop} {E:Value->Α->Prop} (χ:K n.toNat G):υ P (Instr.sliceBound (.int k n) y code) G K E:=by
 unfold Instr.sliceBound;refine υ.bind' (υ.pure' ?_);simp only[h,and_self,if_true];exact υ.pure' χ
theorem C3 {isSlice:Bool} {len cap:Nat} {lo hi:Option θ} {lv hv:Option Value} (kR:vK S B σ lo lv) (o2:vK S B σ hi hv) {a b:Int} (ξ:p5 lo 0=some a) (hb:p5 hi len=some b) (h:0<=a/\a<=b/\b<=cap) {G:Α} {K:Nat×Nat×Nat->Α->Prop} {E:Value->Α->Prop}
  (χ:K (a.toNat,b.toNat,cap) G):υ P (Instr.sliceBounds isSlice len cap lv hv none) G K E:=by
 unfold Instr.sliceBounds;refine υ.bind' (υ.pure' ?_);have low:∀(n:Nat),b.toNat=n->υ P (match lv with|some v=>Instr.sliceBound v n (if(none:Option Value).isSome then .slice3C else .sliceB)|none=>pure 0) G (λl G'=>υ P (pure (l,n,cap)) G' K E) E:=λn Η=>by
  subst Η;cases lo with
  | none=>
   cases lv with
   | some v=>exact kR.elim
   | none=>cases ξ;exact υ.pure' (υ.pure' χ)
  | some x=>
   cases lv with
   | none=>exact kR.elim
   | some v=>
    unfold p5 at ξ;split at ξ
    ·rename_i e;cases e
    ·rename_i k n e;cases e;cases ξ;cases kR;exact Ns (by omega) (υ.pure' χ)
    ·cases ξ
 cases hi with
 | none=>
  cases hv with
  | some v=>exact o2.elim
  | none=>
   cases hb;refine υ.bind' (υ.pure' ?_);have:=low len (by simp);cases lv with
   | none=>exact υ.bind' this
   | some v=>exact υ.bind' this
 | some x=>
  cases hv with
  | none=>exact o2.elim
  | some v=>
   unfold p5 at hb;split at hb
   ·rename_i e;cases e
   ·rename_i k n e;cases e;cases hb;cases o2;refine υ.bind' (Ns (by omega) ?_);have:=low _ rfl;cases lv with
    | none=>exact υ.bind' this
    | some v=>exact υ.bind' this
   ·cases hb
def C4 (T:bd) (ty:TypeId) (x:θ) (lo hi:Option θ):cw:=match T ty with
 | some i=>match i.bD,x with
  | .string,.z (.string s)=>match p5 lo 0,p5 hi s.size with
   | some a,some b=>.b4 (0<=a/\a<=b/\b<=s.size) (.ok (.z (.string (s.extract a.toNat b.toNat))))
   | _,_=>.bad
  | .slice e,.sl ex k l=>match T e,p5 lo 0,p5 hi l.length with
   | some bX,some a,some b=>if l.isEmpty=true\/k=bX.size then .b4 (0<=a/\a<=b/\b<=l.length) (.ok (.sl (ex&&hi.isNone) k ((l.take b.toNat).drop a.toNat))) else .bad
   | _,_,_=>.bad
  | .array n e,.Ψ cells=>match T e with
   | some bX=>if bX.size=1/\bX.agg=false/\n<=cells.length/\0<n/\lo.isNone/\hi.isNone/\(cells.take n).all (λc=>decide (c.cells.length=1)&&θ.a7 [] c) then .ok (.sl true 1 (cells.take n)) else .bad
   | none=>.bad
  | _,_=>.bad
 | none=>.bad
def C5 (T:bd) (ty:TypeId) (σ:List Row) (x:θ) (lo hi:Option θ):cZ:=match T ty with
 | some i=>match i.bD,x with
  | .slice e,.ms id n i len=>match T e,σ[id]?,p5 lo 0,p5 hi len with
   | some bX,some (.cells _ k l),some a,some b=>if k=bX.size/\l.length=n then .b4 (0<=a/\a<=b/\b<=len) (.ok (.ms id n (i+a.toNat) (b.toNat-a.toNat)) σ) else .bad
   | _,_,_,_=>.bad
  | _,_=>.bad
 | none=>.bad
theorem VO {ex:Bool} {k:Nat} {l:List θ} {base:Option Addr} {len cap:Nat} (h:ao S B σ (.sl ex k l) (.slice base len cap)) {a b size:Nat} (gL:a<=b) (hb:b<=l.length) (χ:l.isEmpty=true\/k=size) (Hy:Bool) (hex:Hy=true->ex=true/\b=l.length) :
  ao S B σ (.sl Hy k ((l.take b).drop a)) (.slice (if cap=a then base else base.map (·.add (a*size))) (b-a) (cap-a)):=by
 obtain⟨Vn,He,e,J,γ,π⟩:=q6 h;cases e;have hlen:((l.take b).drop a).length=b-a:=by simp;omega
 by_cases Θ:(l.take b).drop a=[]
 ·rw[Θ] at hlen ⊢;have:b-a=0:=by simpa using hlen.symm
  rw[this];refine .iA _ _ λhe=>?_;obtain⟨Ζ,Ε⟩:=hex he;have:=γ Ζ;omega
 ·have ω:l≠[]:=by rintro rfl;simp at Θ
  obtain⟨cV,o,w,rfl,Μ,aA,bc⟩:=π ω;have gM:k=size:=χ.resolve_left λx=>ω (List.isEmpty_iff.1 x);subst gM;have j2:a<b:=by
   apply Classical.byContradiction;intro Η;apply Θ;have:b-a=0:=by omega
   rw[this] at hlen;exact dp.1 hlen
  rw[if_neg (by omega)];simp only[Option.map_some,tR];have el:∀(i:Nat) (e:θ),((l.take b).drop a)[i]?=some e->l[a+i]?=some e:=λi e hi=>by
   rw[List.getElem?_drop,List.getElem?_take] at hi;split at hi
   ·exact hi
   ·cases hi
  have hle:((l.take b).drop a).length<=cap-a:=by rw[hlen];omega
  have:=ao.sl (S:=S) (B:=B) (σ:=σ) (ex:=Hy) (k:=k) (l:=(l.take b).drop a) cV (o+a*k) (cap-a) (λi j=>w (a+i) j) (λhe=>by obtain⟨Ζ,Ε⟩:=hex he;have:=γ Ζ;omega) hle
   (λi e hi=>Μ _ e (el i e hi)) (λi e hi j c ε=>by have:=aA _ e (el i e hi) j c ε;rw[Nat.add_mul] at this;rw[Nat.add_assoc o];exact this) (λi e hi j c ε=>bc _ e (el i e hi) j c ε)
  rw[hlen] at this;exact this
theorem VP (Κ:bR P T) (Β:Holds S B σ H) (ty:TypeId) {x:θ} {v:Value} (U:ao S B σ x v) {lo hi:Option θ} {lv hv:Option Value} (kR:vK S B σ lo lv) (o2:vK S B σ hi hv) :
  cF P (Instr.sliceAt ty v lv hv none) S B H σ ((C4 T ty x lo hi).dq σ):=by
 unfold C4;cases a9:T ty with
 | none=>exact .bad
 | some i=>
  simp only;split
  ·rename_i s hu;cases U;split
   ·rename_i a b ξ hb;refine cF.b4 (r:=(cw.ok (.z (.string (s.extract a.toNat b.toNat)))).dq σ) λh K I=>?_;unfold Instr.sliceAt;refine υ.bind' (Κ.bD a9 ?_);rw[hu];simp only;unfold Instr.slice;refine υ.bind' (Κ.bD a9 ?_);rw[hu];simp only[Option.isSome_none,Bool.false_eq_true,if_false];refine υ.bind' (C3 kR o2 ξ hb h ?_);exact υ.pure' (.same Β I (.z _))
   ·exact .bad
  ·rename_i e ex k l hu;split
   ·rename_i bX a b dL ξ hb;split
    ·rename_i χ;refine cF.b4 (r:=(cw.ok (.sl (ex&&hi.isNone) k ((l.take b.toNat).drop a.toNat))).dq σ) λh K I=>?_;obtain⟨base,cap,rfl,J,γ,_⟩:=q6 U;unfold Instr.sliceAt;refine υ.bind' (Κ.bD a9 ?_);rw[hu];simp only;unfold Instr.slice;refine υ.bind' (Κ.bD a9 ?_);rw[hu];simp only;refine υ.bind' (C3 kR o2 ξ hb (by omega) ?_);simp only;refine υ.bind' (Κ.size dL ?_);refine υ.pure' (.same Β I (VO U (by omega) (by omega) χ _ λhe=>?_));simp only[Bool.and_eq_true] at he;refine⟨he.1,?_⟩;cases hi with
     | none=>cases hb;simp
     | some=>simp at he
    ·exact .bad
   ·exact .bad
  ·rename_i n e cells hu;split
   ·rename_i bX dL;split
    ·rename_i ζ;obtain⟨c1,c2,c3,c4,nq,sD,rb⟩:=ζ;intro K I;cases U with
     | Ψ b o w J γ=>
      cases lo with
      | some=>simp at nq
      | none=>
       cases hi with
       | some=>simp at sD
       | none=>
        cases lv with
        | some=>exact kR.elim
        | none=>
         cases hv with
         | some=>exact o2.elim
         | none=>
          unfold Instr.sliceAt;refine υ.bind' (Κ.bD a9 ?_);rw[hu];simp only;refine υ.bind' (υ.pure' ?_);refine υ.bind' (C3 (S:=S) (B:=B) (σ:=σ) (lo:=none) (hi:=none) (lv:=none) (hv:=none) trivial trivial (a:=0) (b:=n) rfl rfl (by omega) ?_);simp only[Int.toNat_natCast];refine υ.bind' (Κ.size dL ?_);rw[c1];refine υ.pure' (.same Β I ?_);have hE:(0:Int).toNat=0:=rfl;rw[hE,if_neg (by omega),tR];simp only[Nat.zero_mul,Nat.add_zero,Nat.sub_zero];have hlen:(cells.take n).length=n:=by simp;omega
          rw[List.all_eq_true] at rb;have el:∀(i:Nat) (e:θ),(cells.take n)[i]?=some e->cells[i]?=some e/\e.cells=[e]:=λi e hi=>by
           have hm:=rb e (ck hi);simp only[Bool.and_eq_true] at hm;rw[List.getElem?_take] at hi;split at hi
           ·exact⟨hi,θ.Hg hm.2⟩
           ·cases hi
          have:=ao.sl (S:=S) (B:=B) (σ:=σ) (ex:=true) (k:=1) (l:=cells.take n) b o n (λi _=>w i) (λ_=>hlen.symm) (by omega) (λi e hi=>by rw[(el i e hi).2];rfl)
           (λi e hi j c ε=>by
            rw[(el i e hi).2] at ε
            match j with
            | 0=>simp at ε;subst ε;have:=J i _ (el i _ hi).1;simpa using this
            | j+1=>simp at ε) (λi e hi j c ε=>by
            rw[(el i e hi).2] at ε
            match j with
            | 0=>simp at ε;subst ε;exact γ i _ (el i _ hi).1
            | j+1=>simp at ε)
          rw[hlen] at this;exact this
    ·exact .bad
   ·exact .bad
  ·exact .bad
theorem VQ (Κ:bR P T) (Β:Holds S B σ H) (ty:TypeId) {x:θ} {v:Value} (U:ao S B σ x v) {lo hi:Option θ} {lv hv:Option Value} (kR:vK S B σ lo lv) (o2:vK S B σ hi hv) :
  cF P (Instr.sliceAt ty v lv hv none) S B H σ (C5 T ty σ x lo hi):=by
 unfold C5;cases a9:T ty with
 | none=>exact .bad
 | some kL=>
  simp only;split
  ·rename_i e id n i len hu;split
   ·rename_i bX t k l a b dL ω ξ hb;split
    ·rename_i ζ;obtain⟨χ,Η⟩:=ζ;refine .b4 λh K I=>?_;cases U with
     | ms cap J γ π Μ aA bc=>
      rw[ω] at J;cases J;unfold Instr.sliceAt;refine υ.bind' (Κ.bD a9 ?_);rw[hu];simp only;unfold Instr.slice;refine υ.bind' (Κ.bD a9 ?_);rw[hu];simp only;refine υ.bind' (C3 kR o2 ξ hb (by omega) ?_);simp only;refine υ.bind' (Κ.size dL ?_);refine υ.pure' (.same Β I (.ms (cap-a.toNat) ω Η π (by omega) (by omega) ?_));by_cases ζ:cap=a.toNat
      ·exact .inl (by omega)
      ·rcases bc with bc|⟨cV,N,rfl,rfl,bc⟩
       ·exact .inl (by omega)
       ·refine .inr ⟨cV,N,rfl,?_,?_⟩
        ·rw[if_neg ζ];simp only[Option.map_some,tR,χ,Nat.add_mul]
        ·have:i+a.toNat+(cap-a.toNat)=i+cap:=by omega
         rw[this];exact bc
     | iW v J γ=>rw[ω] at J;cases J;simp only[Row.g4] at γ;omega
    ·exact .bad
   ·exact .bad
  ·exact .bad
def C6 (T:bd) (ty:TypeId) (x:θ):cw:=match T ty with
 | some i=>match i.bD,x with
  | .string,.z (.string s)=>.ok (.z (.int .i64 s.size))
  | .slice _,.sl _ _ l=>.ok (.z (.int .i64 l.length))
  | .array n _,_=>.ok (.z (.int .i64 n))
  | _,_=>.bad
 | none=>.bad
def C7 (T:bd) (ty:TypeId) (σ:List Row) (x:θ):cZ:=match T ty with
 | some i=>match i.bD,x with
  | .slice _,.ms id n _ len=>match σ[id]? with
   | some (.cells _ _ l)=>if l.length=n then .ok (.z (.int .i64 len)) σ else .bad
   | _=>.bad
  | _,_=>.bad
 | none=>.bad
theorem VR (Κ:bR P T) (Β:Holds S B σ H) (ty rt:TypeId) {x:θ} {v:Value} (U:ao S B σ x v):cF P (Builtin.len_ #[ty] rt #[v]) S B H σ ((C6 T ty x).dq σ):=by
 unfold C6;cases hi:T ty with
 | none=>exact .bad
 | some i=>
  simp only;have go:∀(K:θ->List Row->Prop) (n:Int),K (.z (.int .i64 n)) σ->υ P (pure (goInt n):Sem Value) H (iB S B H σ K) (λ_ _=>False):=λK n I=>υ.pure' (.same Β I (.z _));split
  ·rename_i s hu;cases U;intro K I;unfold Builtin.len_;refine υ.bind' (Κ.bD hi ?_);rw[hu];exact go K _ I
  ·rename_i e ex k l hu;obtain⟨base,cap,rfl,_⟩:=q6 U;intro K I;unfold Builtin.len_;refine υ.bind' (Κ.bD hi ?_);rw[hu];exact go K _ I
  ·rename_i n e hu;intro K I;unfold Builtin.len_;refine υ.bind' (Κ.bD hi ?_);rw[hu];cases v<;>exact go K _ I
  ·exact .bad
theorem VS (Κ:bR P T) (Β:Holds S B σ H) (ty rt:TypeId) {x:θ} {v:Value} (U:ao S B σ x v):cF P (Builtin.len_ #[ty] rt #[v]) S B H σ (C7 T ty σ x):=by
 unfold C7;cases hi:T ty with
 | none=>exact .bad
 | some i=>
  simp only;split
  ·rename_i e id n j len hu;split
   ·rename_i t k l ω;split
    ·rename_i Η;intro K I;cases U with
     | ms cap J γ π Μ aA bc=>
      unfold Builtin.len_;refine υ.bind' (Κ.bD hi ?_);rw[hu];exact υ.pure' (.same Β I (.z _))
     | iW v J γ=>rw[ω] at J;cases J;simp only[Row.g4] at γ;omega
    ·exact .bad
   ·exact .bad
  ·exact .bad
def xK (T:bd) (src dst:TypeId) (x:θ):cw:=match T src,T dst with
 | some _,some j=>match j.bD,x with
  | .int k,.z (.int _ n)=>.ok (.z (.int k (k.wrap n)))
  | _,_=>.bad
 | _,_=>.bad
theorem VT (Κ:bR P T) (Β:Holds S B σ H) (src dst:TypeId) {x:θ} {v:Value} (U:ao S B σ x v):cF P (convert src dst v) S B H σ ((xK T src dst x).dq σ):=by
 unfold xK;split
 ·rename_i i j hi ε;split
  ·rename_i k kk n hu;cases U;intro K I;unfold convert;refine υ.bind' (Κ.bD hi (υ.bind' (Κ.bD ε ?_)));rw[hu];exact υ.pure' (.same Β I (.z _))
  ·exact .bad
 ·exact .bad
def C8 (l:List θ):cw:=match l with
 | [.z (.int k x),.z (.int _ y)]=>.ok (.z (.int k (if y > x then y else x)))
 | _=>.bad
theorem VU (Β:Holds S B σ H) (dS:Array TypeId) (rt:TypeId) {a b:θ} {u v:Value} (ξ:ao S B σ a u) (hb:ao S B σ b v):cF P (Builtin.max_ dS rt #[u,v]) S B H σ ((C8 [a,b]).dq σ):=by
 unfold C8;split
 ·rename_i k x kk y e;simp at e;obtain⟨rfl,rfl⟩:=e;cases ξ;cases hb;intro K I;exact υ.pure' (.same Β I (.z _))
 ·exact .bad
end
end Go.TL
