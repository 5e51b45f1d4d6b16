import Derived.IntWalk
import Derived.Laws.Sem
import Derived.Test.YtlabjopijpkiaaaGreatQAG
set_option maxHeartbeats 16000000
set_option maxRecDepth 20000
set_option linter.unusedSectionVars false
set_option linter.unusedSimpArgs false
set_option linter.unusedVariables false
namespace Go.TL
open Go.Conc
section
variable {P:Program} {T:aZ} {S:al} {B:aH} {H:υ} {σ:List Row}
def fg (S:al) (B:aH) (σ:List Row) (c:Array Value) (k:Nat) (l:List ζ):Prop:=
 l.length*k<=c.size/\∀(i:Nat) (e:ζ),l[i]?=some e->e.cells.length=k/\∀(j:Nat) (a:ζ),e.cells[j]?=some a->∃x,c[i*k+j]?=some x/\ah S B σ a x/\One x
theorem AB {a:ζ} (h:a.aU []=true):a.aU σ=true:=by
 cases a<;>first|exact h|(simp[ζ.aU] at h)
theorem vc {l:List ζ} (h:l.all (ζ.aU [])=true):l.all (ζ.aU σ)=true:=by
 rw[List.all_eq_true] at *;exact λa κ=>AB (h a κ)
theorem fg.put {c:Array Value} {k:Nat} {l:List ζ} (h:fg S B σ c k l) {i j:Nat} {e a:ζ} {v:Value} (he:l[i]?=some e) (κ:ah S B σ a v) (dx:a.cells.all (ζ.aU σ)=true) (γ:j+a.cells.length<=k) :
  let c':=v.cells.zipIdx.foldl (λcs (x:Value×Nat)=>cs.setIfInBounds (i*k+j+x.2) x.1) c
  c'.size=c.size/\fg S B σ c' k (l.set i (e.qH j a.cells)):=by
 obtain⟨b2,hr⟩:=κ.cells dx;have hP:i<l.length:=(bU.1 he).1;have Ev:=(h.2 i e he).1;have Ew:∀c∈a.cells,ζ.aU σ c=true:=List.all_eq_true.1 dx;have bF:=ζ.Jf (σ:=σ) (e:=e) (j:=j) (cs:=a.cells) (by rw[Ev];exact γ) Ew;have key:∀(vs:List Value) (n:Nat) (c:Array Value),((vs.zipIdx n).foldl (λcs (x:Value×Nat)=>cs.setIfInBounds (i*k+j+x.2) x.1) c).size=c.size/\
   ∀p,((vs.zipIdx n).foldl (λcs (x:Value×Nat)=>cs.setIfInBounds (i*k+j+x.2) x.1) c)[p]?=if i*k+j+n<=p/\p<i*k+j+n+vs.length/\p<c.size then vs[p-(i*k+j+n)]? else c[p]?:=by
  intro vs
  induction vs with
  | nil=>intro n c;refine⟨rfl,λp=>?_⟩;rw[if_neg (by simp;omega)];rfl
  | cons v vs Γ=>
   intro n c;obtain⟨J,R⟩:=Γ (n+1) (c.setIfInBounds (i*k+j+n) v);simp only[List.zipIdx_cons,List.foldl_cons];refine⟨by rw[J];simp,λp=>?_⟩;rw[R p];simp only[Array.size_setIfInBounds,List.length_cons];by_cases χ:p=i*k+j+n
   ·subst χ;rw[if_neg (by omega)];by_cases ar:i*k+j+n<c.size
    ·rw[if_pos ⟨by omega,by omega,ar⟩,Array.getElem?_setIfInBounds_self_of_lt ar];simp
    ·rw[if_neg (by omega),Array.getElem?_eq_none (by simp;omega),Array.getElem?_eq_none (by omega)]
   ·by_cases aY:i*k+j+(n+1)<=p/\p<i*k+j+(n+1)+vs.length/\p<c.size
    ·rw[if_pos aY,if_pos ⟨by omega,by omega,aY.2.2⟩];have:p-(i*k+j+n)=(p-(i*k+j+(n+1)))+1:=by omega
     rw[this,List.getElem?_cons_succ]
    ·rw[if_neg aY,if_neg (by omega),Array.getElem?_setIfInBounds_ne (Ne.symm χ)]
 obtain⟨k1,cB⟩:=key v.cells.toList 0 c;have cw:v.cells.zipIdx.foldl (λcs (x:Value×Nat)=>cs.setIfInBounds (i*k+j+x.2) x.1) c=(v.cells.toList.zipIdx 0).foldl (λcs (x:Value×Nat)=>cs.setIfInBounds (i*k+j+x.2) x.1) c:=by
  rw[<-Array.foldl_toList];simp
 intro c';have a6:c'=(v.cells.toList.zipIdx 0).foldl (λcs (x:Value×Nat)=>cs.setIfInBounds (i*k+j+x.2) x.1) c:=cw;rw[a6];have hlen:v.cells.toList.length=a.cells.length:=by simpa using b2
 have Jh:i*k+k<=c.size:=by
  have J:(i+1)*k<=l.length*k:=Nat.mul_le_mul_right k hP
  have R:=h.1;rw[Nat.add_mul] at J;omega
 refine⟨k1,by rw[k1];simpa using h.1,λeg aA dj=>?_⟩;by_cases rQ:eg=i
 ·subst rQ;rw[List.getElem?_set_self hP] at dj;cases dj;rw[bF];refine⟨by simp;omega,λbp c2 η=>?_⟩;rw[cB,hlen];by_cases aY:j<=bp/\bp<j+a.cells.length
  ·have Ey:a.cells[bp-j]?=some c2:=by
    rw[List.append_assoc,ha (by simp;omega)] at η;simp only[List.length_take] at η;rw[dW (by omega)] at η;have:bp-min j e.cells.length=bp-j:=by omega
    rw[this] at η;exact η
   obtain⟨x,J,R,ς⟩:=hr _ _ Ey;rw[if_pos ⟨by omega,by omega,by omega⟩];have:eg*k+bp-(eg*k+j+0)=bp-j:=by omega
   rw[this,Array.getElem?_toList];exact⟨x,J,R,ς⟩
  ·have Ey:e.cells[bp]?=some c2:=by
    by_cases k':bp<j
    ·rw[List.append_assoc,dW (by simp;omega),List.getElem?_take_of_lt k'] at η;exact η
    ·rw[ha (by simp;omega)] at η;rw[List.getElem?_drop] at η;have:j+a.cells.length+(bp-(e.cells.take j++a.cells).length)=bp:=by simp;omega
     rw[this] at η;exact η
   rw[if_neg (λx=>aY ⟨by omega,by omega⟩)];exact(h.2 eg e he).2 bp c2 Ey
 ·rw[List.getElem?_set_ne (Ne.symm rQ)] at dj;obtain⟨J,R⟩:=h.2 eg aA dj;refine⟨J,λbp c2 η=>?_⟩;have nu:bp<k:=by rw[<-J];exact(bU.1 η).1
  rw[cB,hlen,if_neg (λx=>Jg (lo:=j) (hi:=j+a.cells.length) nu γ rQ ⟨by omega,by omega⟩)];exact R bp c2 η
theorem fg.Ji {z:Value} {a:ζ} (κ:ah S B σ a z) (dx:a.cells.all (ζ.aU σ)=true) {k n m:Nat} (Α:a.cells.length=k) (hm:n*k<=m) (fs:Array Value) (Ν:fs=z.cells) :
  fg S B σ ((Array.range m).map (fs[· % fs.size]!)) k (List.replicate n a):=by
 obtain⟨b2,hr⟩:=κ.cells dx;subst Ν;refine⟨by simpa using hm,λi e hi=>?_⟩;obtain⟨J,R⟩:=bU.1 hi;simp at J R;subst R;refine⟨Α,λj c η=>?_⟩;obtain⟨x,Δ,Ε,a3⟩:=hr j c η;have γ:j<k:=by rw[<-Α];exact(bU.1 η).1
 have ar:i*k+j<m:=by
  have:(i+1)*k<=n*k:=Nat.mul_le_mul_right k J;rw[Nat.add_mul] at this;omega
 refine⟨x,?_,Ε,a3⟩;rw[Array.getElem?_map,Array.getElem?_range,if_pos ar];simp only[Option.map_some];have:(i*k+j) % z.cells.size=j:=by
  rw[b2,Α,Nat.mul_comm,Nat.mul_add_mod];exact Nat.mod_eq_of_lt γ
 rw[this];have dE:j<z.cells.size:=by omega
 rw[eM dE] at Δ;cases Δ;rw[getElem!_pos z.cells j dE]
theorem fg.later {aj:al} {B':aH} {σ':List Row} (Β:bQ S aj B B' σ σ') {c:Array Value} {k:Nat} {l:List ζ} (h:fg S B σ c k l):fg aj B' σ' c k l:=
 ⟨h.1,λi e hi=>⟨(h.2 i e hi).1,λj a γ=>by obtain⟨x,J,R,ς⟩:=(h.2 i e hi).2 j a γ;exact⟨x,J,R.later Β,ς⟩⟩⟩
theorem fg.one {a:ζ} {v:Value} (κ:ah S B σ a v) (dx:a.cells.all (ζ.aU σ)=true):fg S B σ v.cells a.cells.length [a]:=by
 obtain⟨b2,hr⟩:=κ.cells dx;refine⟨by simp[b2],λi e hi=>?_⟩
 match i with
 | 0=>
  simp at hi;subst hi;refine⟨rfl,λj c η=>?_⟩;rw[Nat.zero_mul,Nat.zero_add];exact hr j c η
 | i+1=>simp at hi
theorem xJ (ψ:Holds S B σ H) {c:Array Value} {k:Nat} {l:List ζ} (η:fg S B σ c k l) (t:TypeId) {K:Nat->υ->Prop} {E:Value->υ->Prop}
  (h:∀r,H.fresh r->Holds S (B++[some (r,c.size)]) (σ++[.cells t k l]) (H.dh r c t)->Ext S B H S (B++[some (r,c.size)]) (H.dh r c t)->bQ S S B (B++[some (r,c.size)]) σ (σ++[.cells t k l])->K r (H.dh r c t)) :
  π P (newObj (.cells c t)) H K E:=by
 refine⟨rfl,λr ι=>?_⟩;have cj:∀b,(∀N,some (r,c.size)≠some (b,N))->js H (H.dh r c t) b:=λb hb=>by
  have bd:b≠r:=λe=>by subst e;exact hb _ rfl
  exact⟨λo=>by simp[υ.dh,bd],by simp[υ.dh,bd],rfl⟩
 have bA:bQ S S B (B++[some (r,c.size)]) σ (σ++[.cells t k l])->iE S (B++[some (r,c.size)]) (σ++[.cells t k l]) (H.dh r c t) (.cells t k l) (some (r,c.size)):=λΒ=>by
  have a6:=η.later Β;refine⟨by simp[υ.dh],η.1,λo ω=>⟨c[o],by simp[υ.dh,ω]⟩,λi j=>(c[i*k+j]?).getD undef,λi e hi=>⟨(a6.2 i e hi).1,λj a γ=>?_⟩⟩;obtain⟨x,Δ,Ε,a3⟩:=(a6.2 i e hi).2 j a γ;simp only[Δ,Option.getD_some];exact⟨by simp[υ.dh,Δ],Ε,a3⟩
 obtain⟨J,R,ς⟩:=ψ.push (λb N e=>by cases e;exact ι) cj bA;exact h r ι J R ς
theorem xK (ψ:Holds S B σ H) (c:Array Value) (t:TypeId) {K:Nat->υ->Prop} {E:Value->υ->Prop}
  (h:∀r,Holds (S.lay r c) B σ (H.dh r c t)->Ext S B H (S.lay r c) B (H.dh r c t)->bQ S (S.lay r c) B B σ σ->K r (H.dh r c t)) :
  π P (newObj (.cells c t)) H K E:=by
 refine⟨rfl,λr ι=>?_⟩;obtain⟨J,R,ς⟩:=ψ.lay (c:=c) (t:=t) ι;exact h r J R ς
theorem Jj {r:Nat} {c:Array Value} {a:ζ} {k:Nat} (Β:bQ S (S.lay r c) B B σ σ) (η:fg S B σ c k [a]):ah (S.lay r c) B σ (.Ω a.cells) (.pointer (some ⟨r,0,none⟩)):=by
 have a6:=η.later Β;refine .Ω r 0 (λj=>(c[j]?).getD undef) (λj x γ=>?_) (λj x γ=>?_)
 ·obtain⟨y,Δ,_⟩:=(a6.2 0 a rfl).2 j x γ;rw[Nat.zero_mul,Nat.zero_add] at Δ;simp[al.lay,Δ]
 ·obtain⟨y,Δ,Ε,_⟩:=(a6.2 0 a rfl).2 j x γ;rw[Nat.zero_mul,Nat.zero_add] at Δ;simp only[Δ,Option.getD_some];exact Ε
theorem AD {r:Nat} {c:Array Value} {k cap:Nat} {l:List ζ} (ex:Bool) (Β:bQ S (S.lay r c) B B σ σ) (η:fg S B σ c k l) (vd:l.length<=cap) (hex:ex=true->cap=l.length):ah (S.lay r c) B σ (.sl ex k l) (.slice (some ⟨r,0,none⟩) l.length cap):=by
 have a6:=η.later Β;refine .sl r 0 cap (λi j=>(c[i*k+j]?).getD undef) hex vd (λi e hi=>(a6.2 i e hi).1) (λi e hi j x γ=>?_) (λi e hi j x γ=>?_)
 ·obtain⟨y,Δ,_⟩:=(a6.2 i e hi).2 j x γ;simp[al.lay,Δ]
 ·obtain⟨y,Δ,Ε,_⟩:=(a6.2 i e hi).2 j x γ;simp only[Δ,Option.getD_some];exact Ε
end
section
variable {P:Program} {T:aZ} {S:al} {B:aH} {H:υ} {σ:List Row}
def AE (σ:List Row) (a:ζ):cO:=if a.cells.all (ζ.aU σ)=true then .ok (.Ω a.cells) σ else .bad
def ve (a:ζ):cd:=if a.cells.all (ζ.aU [])=true then .ok (.Ω a.cells) else .bad
def vf (t:TypeId) (σ:List Row) (a:ζ):cO:=if a.cells.all (ζ.aU σ)=true then .ok (.ae σ.length 1 0 0) (σ++[.cells t a.cells.length [a]]) else .bad
theorem Ez (ψ:Holds S B σ H) (ty:TypeId) {a:ζ} {v:Value} (κ:ah S B σ a v) (dx:a.cells.all (ζ.aU σ)=true):cp P (do pure (.pointer (some (<-newVar ty v)))) S B H σ (.ok (.Ω a.cells) σ):=by
 intro K I;refine π.bind' ?_;unfold newVar newRow;refine π.bind' (xK ψ v.cells ty λr J R ς=>π.pure' (π.pure' ⟨_,_,_,_,I,R,J,ς,?_⟩));exact Jj ς (fg.one κ dx)
theorem QG (ψ:Holds S B σ H) (ty:TypeId) {a:ζ} {v:Value} (κ:ah S B σ a v):cp P (Instr.box ty v) S B H σ (AE σ a):=by
 unfold AE;split
 ·rename_i dx;exact Ez ψ ty κ dx
 ·exact .bad
theorem QH (ψ:Holds S B σ H) (ty:TypeId) {a:ζ} {v:Value} (κ:ah S B σ a v):cp P (Instr.box ty v) S B H σ ((ve a).dd σ):=by
 unfold ve;split
 ·rename_i dx;exact Ez ψ ty κ (vc dx)
 ·exact .bad
theorem Jk (ψ:Holds S B σ H) (ty:TypeId) {a:ζ} {v:Value} (κ:ah S B σ a v):cp P (do pure (.pointer (some (<-newVar ty v)))) S B H σ (vf ty σ a):=by
 unfold vf;split
 ·rename_i dx;intro K I;refine π.bind' ?_;unfold newVar newRow;refine π.bind' (xJ ψ (fg.one κ dx) ty λr _ J R ς=>π.pure' (π.pure' ⟨_,_,_,_,I,R,J,ς,?_⟩));have:=ah.ae (S:=S) (B:=B++[some (r,v.cells.size)]) (σ:=σ++[.cells ty a.cells.length [a]]) (id:=σ.length) (n:=1) (i:=0) (j:=0) (k:=a.cells.length) (t:=ty) (l:=[a]) (b:=r) (N:=v.cells.size) (by simp) rfl (by rw[<-ψ.len];simp);simpa using this
 ·exact .bad
theorem QI (ψ:Holds S B σ H) (ty:TypeId) {a:ζ} {v:Value} (κ:ah S B σ a v):cp P (Instr.box ty v) S B H σ (vf ty σ a):=Jk ψ ty κ
def AF (T:aZ) (ty:TypeId) (σ:List Row):cO:=match T ty with|some i=>vf ty σ (gF i.zero)|none=>.bad
def AG (T:aZ) (ty:TypeId):cd:=match T ty with|some i=>ve (gF i.zero)|none=>.bad
theorem QJ (Ζ:bE P T) (ψ:Holds S B σ H) (ty:TypeId):cp P (Instr.alloc ty true (.tuple #[])) S B H σ (AF T ty σ):=by
 unfold AF;cases hi:T ty with
 | none=>exact .bad
 | some i=>
  intro K I;unfold Instr.alloc;exact π.bind' (Ζ.zero hi (Jk ψ ty (ob i.zero) K I))
theorem QK (Ζ:bE P T) (ψ:Holds S B σ H) (ty:TypeId):cp P (Instr.alloc ty true (.tuple #[])) S B H σ ((AG T ty).dd σ):=by
 unfold AG;cases hi:T ty with
 | none=>exact .bad
 | some i=>
  simp only[ve];split
  ·rename_i dx;intro K I;unfold Instr.alloc;exact π.bind' (Ζ.zero hi (Ez ψ ty (ob i.zero) (vc dx) K I))
  ·exact .bad
def ps (pl:Nat->Option (Nat×Nat×Nat)) (k:Nat) (aU:ζ->Bool) (l:List ζ):List (Nat×ζ)->Option (List ζ)
 | []=>some l
 |(x,a)::r=>match pl x with
  | some (i,j,n)=>match l[i]? with
   | some e=>if a.cells.length=n/\j+n<=k/\a.cells.all aU=true then ps pl k aU (l.set i (e.qH j a.cells)) r else none
   | none=>none
  | none=>none
theorem EA {k:Nat} {aU:ζ->Bool} (mE:∀a:ζ,aU a=true->a.aU σ=true) {pl:Nat->Option (Nat×Nat×Nat)} {place:Nat->Option (Nat×Nat)} (g2:∀x i j n,pl x=some (i,j,n)->place x=some (i*k+j,n)) {env:Φ} {t:Array Value} (cq:cY S B σ env t) :
  ∀(cC:List (Nat×Operand)) (c:Array Value) (l dH:List ζ),fg S B σ c k l->ps pl k aU l (cC.map λp=>(p.1,aG env p.2))=some dH->
  ∃c',Instr.fill place c (cC.map λp=>(p.1,a8 t p.2))=some c'/\c'.size=c.size/\fg S B σ c' k dH/\dH.length=l.length:=by
 intro cC
 induction cC with
 | nil=>intro c l dH η h;cases h;exact⟨c,rfl,rfl,η,rfl⟩
 | cons p cC Γ=>
  obtain⟨x,o⟩:=p;intro c l dH η h;simp only[List.map_cons,ps] at h;split at h<;>try cases h
  rename_i i j n χ;split at h<;>try cases h
  rename_i e he;split at h<;>try cases h
  rename_i zZ;obtain⟨J,R,ς⟩:=zZ;have κ:=kv cq o;have dx:(aG env o).cells.all (ζ.aU σ)=true:=by
   rw[List.all_eq_true] at ς ⊢;exact λa κ=>mE a (ς a κ)
  obtain⟨b2,_⟩:=κ.cells dx;obtain⟨k1,cB⟩:=η.put he κ dx (by omega:j+(aG env o).cells.length<=k);obtain⟨c',Δ,Ε,a3,cg⟩:=Γ _ _ _ cB h;refine⟨c',?_,by rw[Ε,k1],a3,by rw[cg];simp⟩;have hP:i<l.length:=(bU.1 he).1;have hle:i*k+j+(a8 t o).cells.size<=c.size:=by
   have a1:(i+1)*k<=l.length*k:=Nat.mul_le_mul_right k hP
   have bg:=η.1;rw[Nat.add_mul] at a1;omega
  simp only[List.map_cons,Instr.fill,g2 x i j n χ];have c1:((a8 t o).cells.size≠n)=False:=by simp;omega
  have c2:(i*k+j+(a8 t o).cells.size > c.size)=False:=by simp;omega
  simp only[bne_iff_ne,ne_eq,Bool.or_eq_true,decide_eq_true_eq,c1,c2];simp only[ne_eq] at c1;simp only[c1,or_self,if_false];exact Δ
def Jl (T:aZ) (cP:Array Field):Option (List (Nat×Nat)):=cP.toList.mapM λf=>(T f.type).map λi=>(f.offset,i.size)
theorem QL (Ζ:bE P T) {K:Array (Nat×Nat)->υ->Prop} {E:Value->υ->Prop} {cP:Array Field} {l:List (Nat×Nat)} (h:Jl T cP=some l) (Α:K l.toArray H) :
  π P (cP.mapM λf=>(do pure (f.offset,<-sizeOf f.type):Sem (Nat×Nat))) H K E:=by
 have key:∀(gs:List Field) (l:List (Nat×Nat)) (K:List (Nat×Nat)->υ->Prop),(gs.mapM λf=>(T f.type).map λi=>(f.offset,i.size))=some l->K l H->π P (gs.mapM λf=>(do pure (f.offset,<-sizeOf f.type):Sem (Nat×Nat))) H K E:=by
  intro gs
  induction gs with
  | nil=>intro l K h Α;simp at h;subst h;exact π.pure' Α
  | cons f gs Γ=>
   intro l K h Α;rw[List.mapM_cons] at h ⊢;cases ab:T f.type with
   | none=>rw[ab] at h;cases h
   | some i=>
    rw[ab] at h;simp only[Option.map_some,Option.bind_eq_bind,Option.bind_some] at h;cases Ο:(gs.mapM λf=>(T f.type).map λi=>(f.offset,i.size)) with
    | none=>rw[Ο] at h;cases h
    | some l2=>
     rw[Ο] at h;cases h;refine π.bind' (π.bind' (Ζ.size ab (π.pure' ?_)));refine π.bind' (Γ l2 _ Ο ?_);exact π.pure' Α
 rw[Array.mapM_eq_mapM_toList];exact π.bind (cP.toList.mapM _) (key cP.toList l _ h (π.pure' Α))
def l4 (T:aZ) (aU:ζ->Bool) (ty:TypeId) (parts:List (Nat×ζ)):cd:=match T ty with
 | some i=>
  let z:=gF i.zero
  if z.cells.length=i.zero.cells.size/\z.cells.all (ζ.aU [])=true then match i.bl with
   | .struct cP=>match Jl T cP with
    | some pl=>match ps (λx=>(pl[x]?).map λp=>(0,p.1,p.2)) z.cells.length aU [z] parts with
     | some [e]=>.ok (.aR e.cells)
     | _=>.bad
    | none=>.bad
   | .array _ el=>match T el with
    | some bL=>match ps (λx=>some (0,x*bL.size,bL.size)) z.cells.length aU [z] parts with
     | some [e]=>.ok (.aR e.cells)
     | _=>.bad
    | none=>.bad
   | _=>.bad
  else .bad
 | none=>.bad
theorem Jm {c:Array Value} {k:Nat} {e:ζ} (h:fg S B σ c k [e]) (Α:c.size=k):ah S B σ (.aR e.cells) (.agg c):=by
 obtain⟨J,R⟩:=h.2 0 e rfl;refine .aR c (by rw[J,Α]) λj a v γ hv=>?_;obtain⟨x,Δ,Ε,_⟩:=R j a γ;rw[Nat.zero_mul,Nat.zero_add,hv] at Δ;cases Δ;exact Ε
theorem Jn (Ζ:bE P T) (ψ:Holds S B σ H) {aU:ζ->Bool} (mE:∀a:ζ,aU a=true->a.aU σ=true) (ty:TypeId) {env:Φ} {t:Array Value} (cq:cY S B σ env t) (parts:Array (Nat×Operand)) :
  cp P (Instr.build ty (parts.map λ(i,x)=>(i,a8 t x))) S B H σ ((l4 T aU ty (parts.toList.map λp=>(p.1,aG env p.2))).dd σ):=by
 unfold l4;cases hi:T ty with
 | none=>exact .bad
 | some i=>
  simp only;split
  ·rename_i Ν;obtain⟨vg,xL⟩:=Ν;have AH:fg S B σ i.zero.cells (gF i.zero).cells.length [gF i.zero]:=fg.one (ob i.zero) (vc xL);have AI:(parts.map λ(i,x)=>(i,a8 t x)).toList=parts.toList.map λp=>(p.1,a8 t p.2):=by simp
   split
   ·rename_i cP hu;split
    ·rename_i pl g2;split
     ·rename_i e he;intro K I;unfold Instr.build;refine π.bind' (Ζ.zero hi (π.bind' (Ζ.bl hi ?_)));rw[hu];refine π.bind' (QL Ζ g2 ?_);obtain⟨c',Δ,Ε,a3,_⟩:=EA (place:=(pl.toArray[·]?)) mE (λx i j n h=>by
       cases U:pl[x]? with
       | none=>rw[U] at h;cases h
       | some p=>rw[U] at h;cases h;simp[U]) cq parts.toList _ _ _ AH he
      rw[AI,Δ];exact π.pure' (.same ψ I (Jm a3 (by rw[Ε,vg])))
     ·exact .bad
    ·exact .bad
   ·rename_i m el hu;split
    ·rename_i bL ea;split
     ·rename_i e he;intro K I;unfold Instr.build;refine π.bind' (Ζ.zero hi (π.bind' (Ζ.bl hi ?_)));rw[hu];refine π.bind' (Ζ.size ea ?_);obtain⟨c',Δ,Ε,a3,_⟩:=EA (place:=λi=>some (i*bL.size,bL.size)) mE (λx i j n h=>by
       simp at h;obtain⟨rfl,rfl,rfl⟩:=h;simp) cq parts.toList _ _ _ AH he
      rw[AI,Δ];exact π.pure' (.same ψ I (Jm a3 (by rw[Ε,vg])))
     ·exact .bad
    ·exact .bad
   ·exact .bad
  ·exact .bad
def xM (T:aZ) (aU:ζ->Bool) (ty:TypeId) (len:Nat) (parts:List (Nat×ζ)):Option (TypeId×Nat×List ζ):=match g1 T ty with
 | some (e,k,none)=>match T e with
  | some bL=>if 0<k/\len*k<=2 ^ 24/\(gF bL.zero).cells.length=k/\(gF bL.zero).cells.all (ζ.aU [])=true then
    (ps (λx=>some (x,0,k)) k aU (List.replicate len (gF bL.zero)) parts).map λl=>(e,k,l) else none
  | none=>none
 | _=>none
theorem Jo (Ζ:bE P T) {aU:ζ->Bool} (mE:∀a:ζ,aU a=true->a.aU σ=true) {ty e:TypeId} {len k:Nat} {l:List ζ} {env:Φ} {t:Array Value} (cq:cY S B σ env t) {parts:Array (Nat×Operand)}
  (h:xM T aU ty len (parts.toList.map λp=>(p.1,aG env p.2))=some (e,k,l)) {K:Value->υ->Prop} {E:Value->υ->Prop}
  (Α:∀c:Array Value,fg S B σ c k l->l.length=len->π P (newObj (.cells c e)) H (λr H'=>K (.slice (some ⟨r,0,none⟩) len len) H') E) :
  π P (Instr.buildSlice ty len (parts.map λ(i,x)=>(i,a8 t x))) H K E:=by
 unfold xM at h;split at h<;>try cases h
 rename_i aA Χ he;split at h<;>try cases h
 rename_i bL ea;split at h<;>try cases h
 rename_i η;obtain⟨J,R,ς,Κ⟩:=η;obtain⟨i,EB,hi,hu,rR,b2⟩:=Ax he;rw[ea] at rR;cases rR;cases ab:ps (λx=>some (x,0,Χ)) Χ aU (List.replicate len (gF bL.zero)) (parts.toList.map λp=>(p.1,aG env p.2)) with
 | none=>rw[ab] at h;cases h
 | some dH=>
  rw[ab] at h;cases h;unfold Instr.buildSlice;refine π.bind' (Ζ.bl hi ?_);rw[hu];refine π.bind' (Ζ.size ea ?_);rw[b2];have Jp:¬(len*k > 2 ^ 24):=by omega
  simp only[Jp,if_false];have AI:(parts.map λ(i,x)=>(i,a8 t x)).toList=parts.toList.map λp=>(p.1,a8 t p.2):=by simp
  have fin:∀fs:Array Value,(len=0\/fs=bL.zero.cells)->∃c',Instr.fill (λi=>some (i*k,k)) ((Array.range (len*k)).map (fs[· % fs.size]!)) (parts.map λ(i,x)=>(i,a8 t x)).toList=some c'/\fg S B σ c' k l/\l.length=len:=λfs pt=>by
   have AH:fg S B σ ((Array.range (len*k)).map (fs[· % fs.size]!)) k (List.replicate len (gF bL.zero)):=by
    rcases pt with rfl|pt
    ·exact⟨by simp,λi e hi=>by simp at hi⟩
    ·exact fg.Ji (ob bL.zero) (vc Κ) ς (Nat.le_refl _) fs pt
   obtain⟨c',Δ,Ε,a3,cg⟩:=EA (place:=λi=>some (i*k,k)) mE (λx i j n h=>by
    simp at h;obtain⟨rfl,rfl,rfl⟩:=h;simp) cq parts.toList _ _ _ AH ab
   rw[AI];exact⟨c',Δ,a3,by rw[cg];simp⟩
  by_cases Β:len=0
  ·obtain⟨c',Δ,Ε,a3⟩:=fin #[] (.inl Β);have Ν:len*k=0:=by rw[Β];simp
   rw[if_pos Ν];refine π.bind' (π.pure' ?_);rw[Δ];exact π.bind' (Α c' Ε a3)
  ·have bd:len*k≠0:=by
    intro af;rcases Nat.mul_eq_zero.1 af with af|af<;>omega
   obtain⟨c',Δ,Ε,a3⟩:=fin _ (.inr rfl);rw[if_neg bd];refine π.bind' (Ζ.zero ea ?_);refine π.bind' (π.pure' ?_);rw[Δ];exact π.bind' (Α c' Ε a3)
def xN (T:aZ) (aU:ζ->Bool) (ty:TypeId) (len:Nat) (parts:List (Nat×ζ)):cd:=match xM T aU ty len parts with
 | some (_,k,l)=>.ok (.sl true k l)
 | none=>.bad
def AJ (T:aZ) (ty:TypeId) (len:Nat) (parts:List (Nat×ζ)) (σ:List Row):cO:=match xM T (ζ.aU σ) ty len parts with
 | some (e,k,l)=>.ok (.ms σ.length len 0 len) (σ++[.cells e k l])
 | none=>.bad
theorem Jq (Ζ:bE P T) (ψ:Holds S B σ H) {aU:ζ->Bool} (mE:∀a:ζ,aU a=true->a.aU σ=true) (ty:TypeId) (len:Nat) {env:Φ} {t:Array Value} (cq:cY S B σ env t) (parts:Array (Nat×Operand)) :
  cp P (Instr.buildSlice ty len (parts.map λ(i,x)=>(i,a8 t x))) S B H σ ((xN T aU ty len (parts.toList.map λp=>(p.1,aG env p.2))).dd σ):=by
 unfold xN;split
 ·rename_i e k l h;intro K I;refine Jo Ζ mE cq h λc η hlen=>xK ψ c e λr J R ς=>⟨_,_,_,_,I,R,J,ς,?_⟩;have:=AD (cap:=len) true ς η (by omega) (λ_=>hlen.symm);rw[hlen] at this;exact this
 ·exact .bad
theorem Jr {r n k:Nat} {t:TypeId} {l:List ζ} (hlen:B.length=σ.length) (c:Array Value) (η:l.length*k<=c.size) (Ι:l.length=n):ah S (B++[some (r,c.size)]) (σ++[.cells t k l]) (.ms σ.length n 0 n) (.slice (some ⟨r,0,none⟩) n n):=by
 have:=ah.ms (S:=S) (B:=B++[some (r,c.size)]) (σ:=σ++[.cells t k l]) (id:=σ.length) (n:=n) (i:=0) (len:=n) (t:=t) (k:=k) (l:=l) (bo:=some (r,c.size)) (base:=some ⟨r,0,none⟩) n (by simp) Ι (by rw[<-hlen];simp) (by omega) (Nat.le_refl _) (.inr ⟨r,c.size,rfl,by simp,by subst Ι;simpa using η⟩);exact this
theorem QM (Ζ:bE P T) (ψ:Holds S B σ H) (ty:TypeId) (len:Nat) {env:Φ} {t:Array Value} (cq:cY S B σ env t) (parts:Array (Nat×Operand)) :
  cp P (Instr.buildSlice ty len (parts.map λ(i,x)=>(i,a8 t x))) S B H σ (AJ T ty len (parts.toList.map λp=>(p.1,aG env p.2)) σ):=by
 unfold AJ;split
 ·rename_i e k l h;intro K I;exact Jo Ζ (λa h=>h) cq h λc η hlen=>xJ ψ η e λr _ J R ς=>⟨_,_,_,_,I,R,J,ς,Jr ψ.len c η.1 hlen⟩
 ·exact .bad
def xO (T:aZ) (ty:TypeId) (a b:ζ):Option (TypeId×Nat×ζ×Int×Int):=match g1 T ty,a,b with
 | some (e,k,none),.z (.int _ n),.z (.int _ m)=>match T e with
  | some bL=>if 0<k/\(gF bL.zero).cells.length=k/\(gF bL.zero).cells.all (ζ.aU [])=true then some (e,k,gF bL.zero,n,bL.bytes) else none
  | none=>none
 | _,_,_=>none
end
section
variable {P:Program} {T:aZ} {S:al} {B:aH} {H:υ} {σ:List Row}
theorem Js (Ζ:bE P T) {ty e:TypeId} {k:Nat} {z:ζ} {n bytes:Int} {a b:ζ} {u v:Value} (κ:ah S B σ a u) (hb:ah S B σ b v) (h:xO T ty a b=some (e,k,z,n,bytes)) (jH:∀kk m,b=.z (.int kk m)->m=n) (Ι:0<=n/\0<bytes/\bytes*n<=2 ^ 48) {K:Value->υ->Prop} {E:Value->υ->Prop}
  (Α:∀c:Array Value,fg S B σ c k (List.replicate n.toNat z)->π P (newObj (.cells c e)) H (λr H'=>K (.slice (some ⟨r,0,none⟩) n.toNat n.toNat) H') E) :
  π P (Instr.makeSlice ty u v) H K E:=by
 unfold xO at h;split at h<;>try cases h
 rename_i aA Χ k1 hZ cB m he;split at h<;>try cases h
 rename_i bL ea;split at h<;>try cases h
 rename_i η;obtain⟨J,R,ς⟩:=η;cases κ;cases hb;have hm:=jH _ _ rfl;subst hm;obtain⟨i,EB,hi,hu,rR,b2⟩:=Ax he;rw[ea] at rR;cases rR;obtain⟨pv,iC,EC⟩:=Ι;have hle:m<=2 ^ 48:=by
  have:1*m<=(bL.bytes:Int)*m:=Int.mul_le_mul_of_nonneg_right (by omega) pv;omega
 have hw:IntKind.i64.wrap m=m:=IntWalk.i64_in m ⟨by omega,by omega⟩;unfold Instr.makeSlice;refine π.bind' (Ζ.bl hi ?_);rw[hu];refine π.bind' (π.bind' (π.pure' (π.pure' ?_)));refine π.bind' (π.bind' (π.pure' (π.pure' ?_)));refine π.bind' (Ζ.info ea λf ab=>?_);simp only[hw,ab];have c1:¬m<0:=by omega
 have c2:¬((bL.bytes:Int)*m > 2 ^ 48):=by omega
 have c3:¬m > m:=by omega
 simp only[c1,c2,c3,decide_false,Bool.or_false,Bool.false_eq_true,if_false];refine π.bind' ?_;have fin:π P (do
   let Jt <-(do pure (m.toNat*(<-sizeOf e)):Sem Nat)
   let zero <-if Jt=0 then pure #[] else do pure (<-zeroValue e).cells
   let a <-newRow e ((Array.range Jt).map (zero[· % zero.size]!))
   pure (.slice (some a) m.toNat m.toNat)) H K E:=by
  refine π.bind' (π.bind' (Ζ.size ea (π.pure' ?_)));rw[b2];by_cases Ν:m.toNat*k=0
  ·rw[if_pos Ν];refine π.bind' (π.pure' ?_);refine π.bind' (π.bind' ?_);refine Α _ ?_;rcases Nat.mul_eq_zero.1 Ν with af|af
   ·rw[af];exact⟨by simp,λi e hi=>by simp at hi⟩
   ·omega
  ·rw[if_neg Ν];refine π.bind' (Ζ.zero ea ?_);refine π.bind' (π.pure' ?_);refine π.bind' (π.bind' ?_);exact Α _ (fg.Ji (ob bL.zero) (vc ς) R (Nat.le_refl _) _ rfl)
 unfold askRoom;split
 ·refine⟨rfl,?_⟩;show π P _ H K E;have:=fin;simpa using this
 ·refine π.pure' ?_;show π P _ H K E;have:=fin;simpa using this
def AK (T:aZ) (ty:TypeId) (a b:ζ) (σ:List Row):cO:=match xO T ty a b,b with
 | some (e,k,z,n,bytes),.z (.int _ m)=>.bT (m=n/\0<=n/\0<bytes/\bytes*n<=2 ^ 48) (.ok (.ms σ.length n.toNat 0 n.toNat) (σ++[.cells e k (List.replicate n.toNat z)]))
 | _,_=>.bad
theorem QN (Ζ:bE P T) (ψ:Holds S B σ H) {ty:TypeId} {a b:ζ} {u v:Value} (κ:ah S B σ a u) (hb:ah S B σ b v):cp P (Instr.makeSlice ty u v) S B H σ (AK T ty a b σ):=by
 unfold AK;split
 ·rename_i e k z n bytes kk m h;refine .bT λ⟨hm,Ι⟩ K I=>?_;refine Js Ζ κ hb h (λEd bO aA=>by cases aA;exact hm) Ι λc η=>xJ ψ η e λr _ J R ς=>⟨_,_,_,_,I,R,J,ς,?_⟩;exact Jr ψ.len c η.1 (by simp)
 ·exact .bad
def AL (T:aZ) (ty:TypeId) (a b:ζ):cd:=match xO T ty a b,b with
 | some (_,k,z,n,bytes),.z (.int _ m)=>.bT (m=n/\0<=n/\0<bytes/\bytes*n<=2 ^ 48) (.ok (.sl true k (List.replicate n.toNat z)))
 | _,_=>.bad
theorem QO (Ζ:bE P T) (ψ:Holds S B σ H) {ty:TypeId} {a b:ζ} {u v:Value} (κ:ah S B σ a u) (hb:ah S B σ b v):cp P (Instr.makeSlice ty u v) S B H σ ((AL T ty a b).dd σ):=by
 unfold AL;split
 ·rename_i e k z n bytes kk m h;refine cp.bT (r:=(cd.ok (.sl true k (List.replicate n.toNat z))).dd σ) λ⟨hm,Ι⟩ K I=>?_;refine Js Ζ κ hb h (λEd bO aA=>by cases aA;exact hm) Ι λc η=>xK ψ c e λr J R ς=>⟨_,_,_,_,I,R,J,ς,?_⟩;have:=AD (cap:=n.toNat) true ς η (by simp) (λ_=>by simp);simpa using this
 ·exact .bad
def Reads (H:υ) (base:Option Addr) (m:Nat) (w:Nat->Value):Prop:=m=0\/∃b o,base=some ⟨b,o,none⟩/\∀j,j<m->∃p,H.av b (o+j)=some (w j,p)
theorem ED {base:Option Addr} {k n cap:Nat} {len:Nat} {w:Nat->Value} (h:Reads H base (n*k) w) {K:Array Value->υ->Prop} {E:Value->υ->Prop} (Α:K ((List.range (n*k)).map w).toArray H) :
  π P (Builtin.firstCells k n (.slice base len cap)) H K E:=by
 rcases h with h|⟨b,o,rfl,h⟩
 ·rw[h] at Α;cases base with
  | none=>exact π.pure' Α
  | some a=>
   show π P (loadCells a (n*k)) H K E;rw[h];exact π.pure' Α
 ·exact π.loadCells w rfl h Α
theorem QP {bT old:Nat} (h:old<bT):Builtin.nextslicecap bT old<=2*bT+768:=by
 unfold Builtin.nextslicecap;have grow:∀r c,c<=2*bT+768->Builtin.growBy bT r c<=2*bT+768:=by
  intro r
  induction r with
  | zero=>intro c η;exact η
  | succ r Γ=>
   intro c η;unfold Builtin.growBy;split
   ·exact η
   ·exact Γ _ (by omega)
 split
 ·omega
 ·split
  ·omega
  ·exact grow 4 old (by omega)
def hq.isInt (i:hq):Bool:=i.bl matches .int _
def kx (T:aZ) (st xt:TypeId):Option (TypeId×Nat×hq):=match g1 T st,T xt with
 | some (e,k,none),some cH=>match T e with
  | some bL=>if 0<k/\bL.zero.cells.size=k/\0<bL.bytes/\bL.bytes<=4096/\cH.isInt=false then some (e,k,bL) else none
  | none=>none
 | _,_=>none
theorem EE (Ζ:bE P T) {st xt rt e:TypeId} {k:Nat} {bL:hq} (h:kx T st xt=some (e,k,bL)) {base xP:Option Addr} {sLen od n AM:Nat} {wo wn:Nat->Value} (ω:Reads H base (sLen*k) wo) (Ι:Reads H xP (n*k) wn) (Jp:sLen+n<=4294967296) {K:Value->υ->Prop} {E:Value->υ->Prop}
  (aY:sLen+n<=od->π P (match base with|some a=>storeCells (a.add (sLen*k)) ((List.range (n*k)).map wn)|none=>pure ()) H (λ_ H'=>K (.slice base (sLen+n) od) H') E)
  (rE:od<sLen+n->∀iX,sLen+n<=iX->π P (newObj (.cells (((List.range (sLen*k)).map wo).toArray++((List.range (n*k)).map wn).toArray++Builtin.zeroCells bL.zero.cells (iX-(sLen+n))) e)) H (λr H'=>K (.slice (some ⟨r,0,none⟩) (sLen+n) iX) H') E) :
  π P (Builtin.append_ #[st,xt] rt #[.slice base sLen od,.slice xP n AM]) H K E:=by
 unfold kx at h;split at h<;>try cases h
 rename_i aA Χ cH he qG;split at h<;>try cases h
 rename_i EB ea;split at h<;>try cases h
 rename_i η;obtain⟨J,R,ς,Κ,aF⟩:=η;obtain⟨i,EB,hi,hu,rR,b2⟩:=Ax he;rw[ea] at rR;cases rR;unfold Builtin.append_;simp only[List.getElem?_toArray,List.getElem?_cons_zero,List.getElem?_cons_succ];refine π.bind' (Ζ.bl hi ?_);rw[hu];refine π.bind' (Ζ.size ea ?_);rw[b2];refine π.bind' (π.bind' (Ζ.bl qG ?_));split
 ·rename_i Α;unfold hq.isInt at aF;rw[Α] at aF;cases aF
 refine π.bind' (π.pure' ?_);simp only[Bool.false_eq_true,if_false,Bool.not_false,if_true];refine π.bind' (π.pure' ?_);split
 ·rename_i hle;refine π.bind' (ED Ι ?_);have:=aY hle;cases base with
  | none=>exact this
  | some a=>exact π.bind' this
 ·rename_i Ju;have Jv:od<sLen+n:=by omega
  refine π.bind' (Ζ.info ea λf ab=>?_);have dA:¬(((sLen+n:Nat):Int) > IntKind.i64.max/\(False\/f.bytes=0)):=by rw[ab];rintro⟨_,h|h⟩;exact h;omega
  simp only[dA,if_false];refine π.bind' (Ζ.info ea λf2 QQ=>?_);have c1:¬(Builtin.nextslicecap (sLen+n) od*f2.bytes > 2 ^ 48):=by
   rw[QQ];have a1:=QP Jv;have bg:Builtin.nextslicecap (sLen+n) od*bL.bytes<=(2*(sLen+n)+768)*4096:=Nat.mul_le_mul a1 Κ;omega
  simp only[c1,if_false];refine π.bind' ?_;show π P (choose _) H _ E;unfold choose;simp only[π];have Ψ:(Question.appendCap (sLen+n) od e).forced=false:=rfl;rw[Ψ];simp only[Bool.false_eq_true,if_false];intro q;refine π.bind' (Ζ.info ea λf3 EF=>?_);have fin:π P (do
    let old <-Builtin.firstCells k sLen (.slice base sLen od)
    let new <-Builtin.firstCells k n (.slice xP n AM)
    let rest <-(do pure (Builtin.zeroCells (<-zeroValue e).cells ((Question.appendCap (sLen+n) od e).cut q-(sLen+n))):Sem (Array Value))
    pure (.slice (some (<-newRow e (old++new++rest))) (sLen+n) ((Question.appendCap (sLen+n) od e).cut q))) H K E:=by
   refine π.bind' (ED ω ?_);refine π.bind' (ED Ι ?_);refine π.bind' (π.bind' (Ζ.zero ea (π.pure' ?_)));refine π.bind' (π.bind' ?_);exact rE Jv _ (by simp[Question.cut])
  refine π.bind' ?_;unfold askRoom;split
  ·refine⟨rfl,?_⟩;show π P _ H K E;simpa using fin
  ·refine π.pure' ?_;show π P _ H K E;simpa using fin
end
section
variable {P:Program} {T:aZ} {S:al} {B:aH} {H:υ} {σ:List Row}
def oe (σ:List Row):ζ->Option (Nat×List ζ)
 | .sl _ k l=>some (k,l)
 | .ms id n i len=>match σ[id]? with
  | some (.cells _ k l)=>if l.length=n/\i+len<=n then some (k,(l.drop i).take len) else none
  | _=>none
 | _=>none
def vh (S:al) (B:aH) (σ:List Row) (w:Nat->Value) (k:Nat) (l:List ζ):Prop:=∀(i:Nat) (e:ζ),l[i]?=some e->e.cells.length=k/\∀(j:Nat) (a:ζ),e.cells[j]?=some a->ah S B σ a (w (i*k+j))
theorem QR {k i j:Nat} (γ:j<k):(i*k+j) / k=i/\(i*k+j) % k=j:=by
 have Α:0<k:=by omega
 refine⟨?_,?_⟩
 ·rw[Nat.add_comm,Nat.add_mul_div_right _ _ Α,Nat.div_eq_of_lt γ,Nat.zero_add]
 ·rw[Nat.add_comm,Nat.add_mul_mod_self_right];exact Nat.mod_eq_of_lt γ
theorem AN (ψ:Holds S B σ H) {a:ζ} {v:Value} {k k1:Nat} {l:List ζ} (κ:ah S B σ a v) (h:oe σ a=some (k1,l)) (Α:0<k) (pw:l.isEmpty=true\/k1=k) :
  ∃base cap w,v=.slice base l.length cap/\l.length<=cap/\Reads H base (l.length*k) w/\vh S B σ w k l:=by
 have flat:∀(b o:Nat) (w2:Nat->Nat->Value),(∀(i:Nat) (e:ζ),l[i]?=some e->e.cells.length=k)->(∀(i:Nat) (e:ζ),l[i]?=some e->∀(j:Nat) (c:ζ),e.cells[j]?=some c->∃p,H.av b (o+i*k+j)=some (w2 i j,p))->
   (∀(i:Nat) (e:ζ),l[i]?=some e->∀(j:Nat) (c:ζ),e.cells[j]?=some c->ah S B σ c (w2 i j))->Reads H (some ⟨b,o,none⟩) (l.length*k) (λm=>w2 (m / k) (m % k))/\vh S B σ (λm=>w2 (m / k) (m % k)) k l:=by
  intro b o w2 J R ς;refine⟨.inr ⟨b,o,rfl,λm hm=>?_⟩,λi e hi=>⟨J i e hi,λj c γ=>?_⟩⟩
  ·have hi:m / k<l.length:=(Nat.div_lt_iff_lt_mul Α).2 hm
   have l3:l[m / k]?=some l[m / k]:=aX hi
   have γ:m % k<l[m / k].cells.length:=by rw[J _ _ l3];exact Nat.mod_lt _ Α
   obtain⟨p,χ⟩:=R _ _ l3 (m % k) _ (aX γ);refine⟨p,?_⟩;have:o+m=o+m / k*k+m % k:=by have:=Nat.div_add_mod m k;rw[Nat.mul_comm] at this;omega
   rw[this];exact χ
  ·have nu:j<k:=by rw[<-J i e hi];exact(bU.1 γ).1
   obtain⟨Δ,Ε⟩:=QR (i:=i) nu;simp only[Δ,Ε];exact ς i e hi j c γ
 have empty:∀(base:Option Addr) (cap:Nat),l=[]->v=.slice base 0 cap->∃base cap w,v=.slice base l.length cap/\l.length<=cap/\Reads H base (l.length*k) w/\vh S B σ w k l:=λbase cap Β hv=>by
  subst Β;exact⟨base,cap,λ_=>undef,hv,Nat.zero_le _,.inl (by simp),λi e hi=>by simp at hi⟩
 unfold oe at h;split at h
 ·cases h;obtain⟨base,cap,rfl,J,_,R⟩:=pq κ;by_cases Β:l=[]
  ·exact empty base cap Β (by rw[Β];rfl)
  ·obtain⟨b,o,w,rfl,ς,Κ,aF⟩:=R Β;have h3:k1=k:=pw.elim (λx=>absurd (List.isEmpty_iff.1 x) Β) id;subst h3;obtain⟨r1,r2⟩:=flat b o w ς (λi e hi j c γ=>ψ.cX _ _ _ (Κ i e hi j c γ)) aF;exact⟨_,cap,_,rfl,J,r1,r2⟩
 ·rename_i id n i len;split at h
  ·rename_i t Χ dH Β;split at h
   ·rename_i η;cases h;obtain⟨Ι,hlen⟩:=η;have jP:((dH.drop i).take len).length=len:=by simp;omega
    cases κ with
    | ms cap J R ς Κ aF aV=>
     rw[Β] at J;cases J;rcases aV with aV|⟨b,N,rfl,rfl,aV⟩
     ·subst aV;have:len=0:=by omega
      subst this;exact empty _ 0 (by simp) rfl
     ·by_cases Ν:len=0
      ·subst Ν;exact empty _ cap (by simp) rfl
      ·have bd:¬((dH.drop i).take len).isEmpty=true:=λx=>by
        rw[List.isEmpty_iff] at x;rw[x] at jP;simp at jP;omega
       have h3:=pw.resolve_left bd;subst h3;obtain⟨bA,b8,fp,w,hw⟩:=ψ.row id _ _ Β ς;have el:∀(x:Nat) (e:ζ),((dH.drop i).take len)[x]?=some e->dH[i+x]?=some e:=λx e U=>by
        rw[List.getElem?_take] at U;split at U
        ·rw[List.getElem?_drop] at U;exact U
        ·cases U
       obtain⟨r1,r2⟩:=flat b (i*k1) (λx j=>w (i+x) j) (λx e U=>(hw _ e (el x e U)).1) (λx e U j c γ=>⟨true,by
        have:=((hw _ e (el x e U)).2 j c γ).1;rw[Nat.add_mul] at this;exact this⟩) (λx e U j c γ=>((hw _ e (el x e U)).2 j c γ).2.1)
       exact⟨_,cap,_,by rw[jP],by rw[jP];exact aF,r1,r2⟩
    | h8 v J R=>rw[Β] at J;cases J;simp only[Row.gn] at R;omega
   ·cases h
  ·cases h
 ·cases h
theorem EG {w1 w2:Nat->Value} {k:Nat} {l1 l2:List ζ} (J:vh S B σ w1 k l1) (R:vh S B σ w2 k l2) (dq:l1.all (λe=>e.cells.all (ζ.aU σ))=true) (h4:l2.all (λe=>e.cells.all (ζ.aU σ))=true) (z:Array Value) :
  fg S B σ (((List.range (l1.length*k)).map w1).toArray++((List.range (l2.length*k)).map w2).toArray++z) k (l1++l2):=by
 have ok:∀(l:List ζ),l.all (λe=>e.cells.all (ζ.aU σ))=true->∀e∈l,∀a∈e.cells,ζ.aU σ a=true:=λl h e he a κ=>List.all_eq_true.1 (List.all_eq_true.1 h e he) a κ;refine⟨by simp[Nat.add_mul],λi e hi=>?_⟩;by_cases ar:i<l1.length
 ·rw[dW ar] at hi;refine⟨(J i e hi).1,λj a γ=>?_⟩;have nu:j<k:=by rw[<-(J i e hi).1];exact(bU.1 γ).1
  have hb:i*k+j<l1.length*k:=by
   have:(i+1)*k<=l1.length*k:=Nat.mul_le_mul_right k ar;rw[Nat.add_mul] at this;omega
  have ι:=(J i e hi).2 j a γ;refine⟨w1 (i*k+j),?_,ι,ι.xI (ok l1 dq e (cf hi) a (cf γ))⟩;rw[Array.append_assoc,Array.getElem?_append_left (by simpa using hb)];simp[hb]
 ·rw[ha (by omega)] at hi;refine⟨(R _ e hi).1,λj a γ=>?_⟩;have nu:j<k:=by rw[<-(R _ e hi).1];exact(bU.1 γ).1
  have tl:i-l1.length<l2.length:=(bU.1 hi).1
  have hb:(i-l1.length)*k+j<l2.length*k:=by
   have:(i-l1.length+1)*k<=l2.length*k:=Nat.mul_le_mul_right k tl;rw[Nat.add_mul] at this;omega
  have he:i*k+j=l1.length*k+((i-l1.length)*k+j):=by
   have:i=l1.length+(i-l1.length):=by omega
   conv=>lhs;rw[this,Nat.add_mul]
   omega
  have ι:=(R _ e hi).2 j a γ;refine⟨w2 ((i-l1.length)*k+j),?_,ι,ι.xI (ok l2 h4 e (cf hi) a (cf γ))⟩;rw[he,Array.append_assoc,Array.getElem?_append_right (by simp)];rw[Array.getElem?_append_left (by simp;omega)];simp[hb]
def ζ.ky (aU:ζ->Bool) (l:List ζ):Bool:=l.all λe=>e.cells.all aU
def qI (T:aZ) (st xt:TypeId) (aU:ζ->Bool) (σ:List Row) (s x:ζ):cd:=
 match kx T st xt,s,oe σ x with
 | some (_,k,_),.sl true ee l0,some (k1,l1)=>
  if(l0.isEmpty=true\/ee=k)/\(l1.isEmpty=true\/k1=k)/\ζ.ky aU l0=true/\ζ.ky aU l1=true then .bT (l0.length+l1.length<=4294967296) (.ok (.sl false k (l0++l1))) else .bad
 | _,_,_=>.bad
theorem QS {k ee:Nat} {l0:List ζ} {v:Value} (h:ah S B σ (.sl true ee l0) v) (Α:l0.isEmpty=true\/ee=k):ah S B σ (.sl false k l0) v:=by
 by_cases Β:l0=[]
 ·subst Β;obtain⟨base,cap,rfl,_⟩:=pq h;exact .hN base cap (by simp)
 ·have:=Α.resolve_left (λx=>Β (List.isEmpty_iff.1 x));subst this;cases h with
  | hN=>exact absurd rfl Β
  | sl b o cap w J R ς Κ aF=>exact .sl b o cap w (by simp) R ς Κ aF
theorem EH {aU:ζ->Bool} (mE:∀a:ζ,aU a=true->a.aU σ=true) {l:List ζ} (h:ζ.ky aU l=true):l.all (λe=>e.cells.all (ζ.aU σ))=true:=by
 unfold ζ.ky at h;rw[List.all_eq_true] at h ⊢;intro e he;have:=h e he;rw[List.all_eq_true] at this ⊢;exact λa κ=>mE a (this a κ)
theorem Jw (Ζ:bE P T) (ψ:Holds S B σ H) {aU:ζ->Bool} (mE:∀a:ζ,aU a=true->a.aU σ=true) (st xt rt:TypeId) {s x:ζ} {u v:Value} (ν:ah S B σ s u) (U:ah S B σ x v) :
  cp P (Builtin.append_ #[st,xt] rt #[u,v]) S B H σ ((qI T st xt aU σ s x).dd σ):=by
 unfold qI;split
 ·rename_i e k bL ee l0 k1 l1 nv vi;split
  ·rename_i η;obtain⟨c1,c2,c3,c4⟩:=η;refine cp.bT (r:=(cd.ok (.sl false k (l0++l1))).dd σ) λqv K I=>?_;have Α:0<k:=by
    unfold kx at nv;split at nv<;>try cases nv
    split at nv<;>try cases nv
    split at nv<;>try cases nv
    rename_i h;exact h.1
   obtain⟨base,cap,w,rfl,_,r1,r2⟩:=AN ψ ν (k:=k) rfl Α c1;obtain⟨xP,AM,w1,rfl,_,r3,h2⟩:=AN ψ U vi Α c2;have vd:cap=l0.length:=by
    obtain⟨Ρ,Es,Δ,_,Ε,_⟩:=pq ν;cases Δ;exact Ε rfl
   have fin:∀aj H' v,Holds aj B σ H'->Ext S B H aj B H'->bQ S aj B B σ σ->ah aj B σ (.sl false k (l0++l1)) v->hO S B H σ K v H':=λaj H' v a b c d=>⟨aj,B,σ,_,I,b,a,c,d⟩;refine EE Ζ nv r1 r3 qv (λaY=>?_) (λ_ iX qJ=>?_)
   ·have EI:l1=[]:=by
     cases l1 with
     | nil=>rfl
     | cons=>simp at aY;omega
    subst EI;have AO:ah S B σ (.sl false k (l0++[])) (.slice base (l0.length+([]:List ζ).length) cap):=by
     rw[List.append_nil];exact QS ν c1
    cases base with
    | none=>exact π.pure' (fin S H _ ψ (.refl _ _ _) (.refl _ _ _) AO)
    | some a=>
     have Ν:((List.range (([]:List ζ).length*k)).map w1)=[]:=by simp
     rw[Ν];exact π.pure' (fin S H _ ψ (.refl _ _ _) (.refl _ _ _) AO)
   ·refine xK ψ _ e λr J R ς=>fin _ _ _ J R ς ?_;have:=AD (cap:=iX) false ς (EG r2 h2 (EH mE c3) (EH mE c4) (Builtin.zeroCells bL.zero.cells (iX-(l0.length+l1.length)))) (by simpa using qJ) (by simp);rw[List.length_append] at this;exact this
  ·exact .bad
 ·exact .bad
end
section
variable {P:Program} {T:aZ} {S:al} {B:aH} {H:υ} {σ:List Row}
theorem QT {st xt e:TypeId} {k:Nat} {bL:hq} (h:kx T st xt=some (e,k,bL)):0<k/\bL.zero.cells.size=k:=by
 unfold kx at h;split at h<;>try cases h
 split at h<;>try cases h
 split at h<;>try cases h
 rename_i h;exact⟨h.1,h.2.1⟩
theorem AP {α:Type} (l:List α) (x:α):(l++[x])[l.length]?=some x:=by simp
theorem AQ {B:aH} {σ:List Row} (hlen:B.length=σ.length) (bo:Option (Nat×Nat)):(B++[bo])[σ.length]?=some bo:=by rw[<-hlen];simp
def tm (H:υ) (bo:Option (Nat×Nat)) (m:Nat):Value:=match bo with|some (b,_)=>((H.av b m).map (·.1)).getD undef|none=>undef
theorem Jx (z:Array Value) (n:Nat):(Builtin.zeroCells z n).size=n*z.size:=by simp[Builtin.zeroCells]
def AR (T:aZ) (st xt:TypeId) (σ:List Row) (s x:ζ):cO:=
 match kx T st xt,oe σ x with
 | some (e,k,_),some (k1,l1)=>
  if(l1.isEmpty=true\/k1=k)/\ζ.ky (ζ.aU σ) l1=true then match s with
   | .sl true _ l0=>if l0.isEmpty=true then .bT (l1.length<=4294967296) (.ok (.ms σ.length l1.length 0 l1.length) (σ++[.cells e k l1])) else .bad
   | .ms id n i len=>match σ[id]? with
    | some (.cells t Χ l)=>if i=0/\l.length=n/\len=n/\Χ=k/\t=e then .bT (n+l1.length<=4294967296) (.ok (.ms id (n+l1.length) 0 (n+l1.length)) (σ.set id (.cells t k (l++l1)))) else .bad
    | _=>.bad
   | _=>.bad
  else .bad
 | _,_=>.bad
theorem QU (Ζ:bE P T) (ψ:Holds S B σ H) (st xt rt:TypeId) {s x:ζ} {u v:Value} (ν:ah S B σ s u) (U:ah S B σ x v) :
  cp P (Builtin.append_ #[st,xt] rt #[u,v]) S B H σ (AR T st xt σ s x):=by
 unfold AR;split
 ·rename_i e k bL k1 l1 nv vi;split
  ·rename_i η;obtain⟨c2,c4⟩:=η;obtain⟨Α,pt⟩:=QT nv;obtain⟨xP,AM,w1,rfl,_,r3,h2⟩:=AN ψ U vi Α c2;have EJ:=EH (σ:=σ) (λa h=>h) c4;split
   ·rename_i ee l0;split
    ·rename_i he;have EK:l0=[]:=List.isEmpty_iff.1 he;subst EK;refine .bT λqv K I=>?_;obtain⟨base,cap,rfl,_,vd,_⟩:=pq ν;have QV:cap=0:=vd rfl;subst QV;refine EE Ζ nv (sLen:=0) (wo:=λ_=>undef) (.inl (by simp)) r3 (by omega) (λaY=>?_) (λ_ iX qJ=>?_)
     ·have EI:l1=[]:=by
       cases l1 with
       | nil=>rfl
       | cons=>simp at aY
      subst EI;obtain⟨dU,p2,p3⟩:=ψ.push (H':=H) (r:=.cells e k []) (bo:=none) (λb N e=>by cases e) (λb _=>⟨λ_=>rfl,rfl,rfl⟩) (λ_=>rfl);have fin:hO S B H σ K (.slice base (([]:List ζ).length+([]:List ζ).length) 0) H:=⟨S,_,_,_,I,p2,dU,p3,.ms 0 (AP σ _) rfl (AQ ψ.len _) (by simp) (Nat.le_refl _) (.inl rfl)⟩;cases base with
      | none=>exact π.pure' fin
      | some a=>
       have Ν:((List.range (([]:List ζ).length*k)).map w1)=[]:=by simp
       rw[Ν];exact π.pure' fin
     ·have Β:fg S B σ (((List.range (0*k)).map λ_=>undef).toArray++((List.range (l1.length*k)).map w1).toArray++Builtin.zeroCells bL.zero.cells (iX-(0+l1.length))) k ([]++l1):=
       EG (l1:=[]) (λi e hi=>by simp at hi) h2 (by simp) EJ _
      rw[List.nil_append] at Β;refine xJ ψ Β e λr _ J R ς=>⟨_,_,_,_,I,R,J,ς,?_⟩;simp only[List.length_nil,Nat.zero_add];refine .ms iX (AP σ _) rfl (AQ ψ.len _) (by omega) (by simpa using qJ) (.inr ⟨r,_,rfl,by simp,?_⟩);simp only[Nat.zero_add,Array.size_append,List.size_toArray,List.length_map,List.length_range,Jx,pt,Nat.zero_mul];rw[<-Nat.add_mul];have:l1.length+(iX-l1.length)=iX:=by simp at qJ;omega
      rw[this];exact Nat.le_refl _
    ·exact .bad
   ·rename_i id n i len;split
    ·rename_i t Χ l Β;split
     ·rename_i lb;obtain⟨jm,Ι,hlen,pw,QW⟩:=lb;subst jm;subst hlen;subst pw;subst QW;refine .bT λqv K I=>?_;cases ν with
      | @ms _ _ _ _ _ _ _ bo base cap J R ς Κ aF aV=>
       rw[Β] at J;cases J;have bZ:=ψ.row id _ bo Β ς;have EL:Reads H base (len*Χ) (tm H bo):=by
        rcases aV with aV|⟨b,N,rfl,rfl,aV⟩
        ·exact .inl (by rw[show len=0 from by omega];simp)
        ·refine .inr ⟨b,0,by simp,λj γ=>⟨true,?_⟩⟩;obtain⟨w,hw⟩:=bZ.2.2.1 j (by have:=bZ.2.1;rw[Ι] at this;omega);rw[Nat.zero_add];simp[hw,tm]
       have same:l1=[]->hO S B H σ K (.slice base (len+l1.length) cap) H:=λcw=>by
        subst cw;have bS:id<σ.length:=(bU.1 Β).1;have rS:σ.set id (.cells t Χ (l++[]))=σ:=by
         rw[List.append_nil];apply List.ext_getElem?;intro j;by_cases k9:id=j
         ·subst k9;rw[List.getElem?_set_self bS,Β]
         ·rw[List.getElem?_set_ne k9]
        rw[rS] at I;exact⟨S,B,σ,_,I,.refl _ _ _,ψ,.refl _ _ _,.ms cap Β Ι ς (by simp) aF aV⟩
       have bS:id<σ.length:=(bU.1 Β).1
       have np:id<B.length:=by rw[ψ.len];exact bS
       refine EE Ζ nv EL r3 qv (λaY=>?_) (λJu iX qJ=>?_)
       ·by_cases cw:l1=[]
        ·have:=same cw;subst cw;cases base with
         | none=>exact π.pure' this
         | some a=>
          have Ν:((List.range (([]:List ζ).length*Χ)).map w1)=[]:=by simp
          rw[Ν];exact π.pure' this
        ·have og:0<l1.length:=List.length_pos_iff.2 cw;rcases aV with aV|⟨b,N,rfl,rfl,aV⟩
         ·omega
         ·obtain⟨bA,b8,fp,w,hw⟩:=bZ;have QX:(len+l1.length)*Χ<=N:=by
           have:(len+l1.length)*Χ<=(0+cap)*Χ:=Nat.mul_le_mul_right _ (by omega);omega
          rw[Nat.add_mul] at QX;have QY:(⟨b,0*Χ,none⟩:Addr).add (len*Χ)=⟨b,len*Χ,none⟩:=by rw[rP];simp
          have Jy:((List.range (l1.length*Χ)).map w1).length=l1.length*Χ:=by simp
          have g3:∀j,j<l1.length*Χ->((List.range (l1.length*Χ)).map w1)[j]?=some (w1 j):=λj γ=>by simp[γ]
          have Jz:∀(i:Nat) (e:ζ) (j:Nat) (a:ζ),l1[i]?=some e->e.cells[j]?=some a->One (w1 (i*Χ+j)):=λi e j a hi γ=>
           ((h2 i e hi).2 j a γ).xI (List.all_eq_true.1 (List.all_eq_true.1 EJ e (cf hi)) a (cf γ))
          have QZ:∀v∈(List.range (l1.length*Χ)).map w1,One v:=λv hv=>by
           obtain⟨m,hm,rfl⟩:=List.mem_map.1 hv;have cU:m<l1.length*Χ:=by simpa using hm
           have hi:m / Χ<l1.length:=(Nat.div_lt_iff_lt_mul Α).2 cU
           have l3:=aX hi
           have γ:m % Χ<l1[m / Χ].cells.length:=by rw[(h2 _ _ l3).1];exact Nat.mod_lt _ Α
           have:=Jz _ _ _ _ l3 (aX γ)
           have Δ:m / Χ*Χ+m % Χ=m:=by have:=Nat.div_add_mod m Χ;rw[Nat.mul_comm] at this;exact this
           rw[Δ] at this;exact this
          have xr:bQ S S B (B.set id (some (b,N))) σ (σ.set id (.cells t Χ (l++l1)))->iE S (B.set id (some (b,N))) (σ.set id (.cells t Χ (l++l1))) (H.gD b (len*Χ) ((List.range (l1.length*Χ)).map w1)) (.cells t Χ (l++l1)) (some (b,N)):=λjG=>by
           refine⟨bA,by simp[Nat.add_mul,Ι];omega,λo ω=>?_,λi j=>if i<len then w i j else w1 ((i-len)*Χ+j),λi e hi=>?_⟩
           ·simp only[υ.gD];split
            ·exact⟨_,rfl⟩
            ·exact fp o ω
           ·by_cases ar:i<l.length
            ·rw[dW ar] at hi;refine⟨(hw i e hi).1,λj a γ=>?_⟩;obtain⟨Ξ,aa,aM⟩:=(hw i e hi).2 j a γ;have nu:j<Χ:=by rw[<-(hw i e hi).1];exact(bU.1 γ).1
             have hb:i*Χ+j<len*Χ:=by
              have:(i+1)*Χ<=len*Χ:=Nat.mul_le_mul_right Χ (by omega);rw[Nat.add_mul] at this;omega
             simp only[show i<len by omega,if_true];refine⟨?_,aa.later jG,aM⟩;simp only[υ.gD];rw[if_neg (by omega)];exact Ξ
            ·rw[ha (by omega),Ι] at hi;refine⟨(h2 _ e hi).1,λj a γ=>?_⟩;have nu:j<Χ:=by rw[<-(h2 _ e hi).1];exact(bU.1 γ).1
             have tl:i-len<l1.length:=(bU.1 hi).1
             have hb:(i-len)*Χ+j<l1.length*Χ:=by
              have:(i-len+1)*Χ<=l1.length*Χ:=Nat.mul_le_mul_right Χ tl;rw[Nat.add_mul] at this;omega
             have he:i*Χ+j=len*Χ+((i-len)*Χ+j):=by
              have:i=len+(i-len):=by omega
              conv=>lhs;rw[this,Nat.add_mul]
              omega
             simp only[show ¬i<len by omega,if_false];refine⟨?_,((h2 _ e hi).2 j a γ).later jG,Jz _ e j a hi γ⟩;simp only[υ.gD,Jy];rw[if_pos ⟨trivial,by omega,by omega⟩];have:i*Χ+j-len*Χ=(i-len)*Χ+j:=by omega
             rw[this,g3 _ hb];rfl
          obtain⟨dU,p2,p3⟩:=ψ.u7 (H':=H.gD b (len*Χ) ((List.range (l1.length*Χ)).map w1)) (r':=.cells t Χ (l++l1)) (bo':=some (b,N)) Β trivial ς (.inr λm hm=>by simp only[Row.gn,List.length_append];omega) (λΡ ey aA=>.inl ⟨ey,aA⟩)
           (λΡ J _=>by
            have bd:Ρ≠b:=λaA=>by subst aA;exact J N rfl
            exact⟨λo=>by simp[υ.gD,bd],rfl,rfl⟩) υ.Eo (Az ψ Β) xr
          show π P (storeCells ((⟨b,0*Χ,none⟩:Addr).add (len*Χ)) _) H _ _;rw[QY];refine π.storeCells (G:=H) rfl ⟨t,N,bA⟩ _ 0 H QZ (λj _ γ=>?_) rfl ?_
          ·rw[Jy] at γ;obtain⟨u,hu⟩:=fp (len*Χ+j) (by omega);exact⟨u,hu⟩
          ·refine⟨S,_,_,_,I,p2,dU,p3,.ms cap (by rw[List.getElem?_set_self bS]) (by simp[Ι]) (by rw[List.getElem?_set_self np]) (by omega) aY (.inr ⟨b,N,rfl,rfl,aV⟩)⟩
       ·have cw:l1≠[]:=by rintro rfl;simp at Ju;omega
        have og:0<l1.length:=List.length_pos_iff.2 cw
        have EM:vh S B σ (tm H bo) Χ l:=λi e hi=>by
         cases bo with
         | none=>have:l=[]:=bZ
                 rw[this] at hi;simp at hi
         | some x=>
          obtain⟨b,N⟩:=x;obtain⟨_,_,_,w,hw⟩:=bZ;refine⟨(hw i e hi).1,λj a γ=>?_⟩;obtain⟨Ξ,aa,_⟩:=(hw i e hi).2 j a γ;simp only[tm,Ξ];exact aa
        have xQ:fg S B σ (((List.range (len*Χ)).map (tm H bo)).toArray++((List.range (l1.length*Χ)).map w1).toArray++Builtin.zeroCells bL.zero.cells (iX-(len+l1.length))) Χ (l++l1):=by
         refine⟨by simp[Nat.add_mul,Ι],λi e hi=>?_⟩;by_cases ar:i<l.length
         ·rw[dW ar] at hi;refine⟨(EM i e hi).1,λj a γ=>?_⟩;have nu:j<Χ:=by rw[<-(EM i e hi).1];exact(bU.1 γ).1
          have hb:i*Χ+j<len*Χ:=by
           have:(i+1)*Χ<=len*Χ:=Nat.mul_le_mul_right Χ (by omega);rw[Nat.add_mul] at this;omega
          refine⟨_,?_,(EM i e hi).2 j a γ,?_⟩
          ·rw[Array.append_assoc,Array.getElem?_append_left (by simpa using hb)];simp[hb]
          ·cases bo with
           | none=>have:l=[]:=bZ
                   rw[this] at ar;simp at ar
           | some x=>
            obtain⟨b,N⟩:=x;obtain⟨_,_,_,w,hw⟩:=bZ;obtain⟨Ξ,aa,aM⟩:=(hw i e hi).2 j a γ;simp only[tm,Ξ];exact aM
         ·rw[ha (by omega),Ι] at hi;have:=EG (l1:=[]) (w1:=λ_=>undef) (k:=Χ) (λi e hi=>by simp at hi) h2 (by simp) EJ (Builtin.zeroCells bL.zero.cells (iX-(len+l1.length)));obtain⟨er,fb⟩:=this.2 (i-len) e (by simpa using hi);refine⟨er,λj a γ=>?_⟩;obtain⟨x,jQ,rT,rU⟩:=fb j a γ;have nu:j<Χ:=by rw[<-er];exact(bU.1 γ).1
          have he:i*Χ+j=len*Χ+((i-len)*Χ+j):=by
           have:i=len+(i-len):=by omega
           conv=>lhs;rw[this,Nat.add_mul]
           omega
          refine⟨x,?_,rT,rU⟩;rw[he,Array.append_assoc,Array.getElem?_append_right (by simp)];simpa using jQ
        refine⟨rfl,λr ι=>?_⟩;generalize Q0:(((List.range (len*Χ)).map (tm H bo)).toArray++((List.range (l1.length*Χ)).map w1).toArray++Builtin.zeroCells bL.zero.cells (iX-(len+l1.length)))=c at xQ;have Q1:iX*Χ<=c.size:=by
         rw[<-Q0];simp only[Array.size_append,List.size_toArray,List.length_map,List.length_range,Jx,pt];rw[<-Nat.add_mul,<-Nat.add_mul];have:len+l1.length+(iX-(len+l1.length))=iX:=by omega
         rw[this];exact Nat.le_refl _
        obtain⟨dU,p2,p3⟩:=ψ.u7 (H':=H.dh r c t) (r':=.cells t Χ (l++l1)) (bo':=some (r,c.size)) Β trivial ς (.inr λm hm=>by simp only[Row.gn,List.length_append];omega) (λΡ ey aA=>.inr (by cases aA;exact ι))
         (λΡ _ R=>by
          have bd:Ρ≠r:=λaA=>by subst aA;exact R _ rfl
          exact⟨λo=>by simp[υ.dh,bd],by simp[υ.dh,bd],rfl⟩) (υ.I1 ι c t) (Az ψ Β) (λjG=>by
          have a6:=xQ.later jG;refine⟨by simp[υ.dh],xQ.1,λo ω=>⟨c[o],by simp[υ.dh,ω]⟩,λi j=>(c[i*Χ+j]?).getD undef,λi e hi=>⟨(a6.2 i e hi).1,λj a γ=>?_⟩⟩;obtain⟨x,Δ,Ε,a3⟩:=(a6.2 i e hi).2 j a γ;simp only[Δ,Option.getD_some];exact⟨by simp[υ.dh,Δ],Ε,a3⟩)
        exact⟨S,_,_,_,I,p2,dU,p3,.ms iX (by rw[List.getElem?_set_self bS]) (by simp[Ι]) (by rw[List.getElem?_set_self np]) (by omega) (by omega) (.inr ⟨r,c.size,rfl,by simp,by simpa using Q1⟩)⟩
      | h8 v J R=>rw[Β] at J;cases J;simp only[Row.gn] at R;omega
     ·exact .bad
    ·exact .bad
   ·exact .bad
  ·exact .bad
 ·exact .bad
end
section
variable {P:Program} {T:aZ} {S:al} {B:aH} {H:υ} {σ:List Row}
def oh (o:Option ζ) (d:Int):Option Int:=match o with
 | none=>some d
 | some (.z (.int _ n))=>some n
 | _=>none
def tn (S:al) (B:aH) (σ:List Row):Option ζ->Option Value->Prop
 | none,none=>True
 | some a,some v=>ah S B σ a v
 | _,_=>False
theorem JA {k:IntKind} {n:Int} {y:Nat} {code:BoundsCode} (h:0<=n/\n<=y) {G:υ} {K:Nat->υ->Prop} {E:Value->υ->Prop} (Α:K n.toNat G):π P (Instr.sliceBound (.int k n) y code) G K E:=by
 unfold Instr.sliceBound;refine π.bind' (π.pure' ?_);simp only[h,and_self,if_true];exact π.pure' Α
theorem AS {isSlice:Bool} {len cap:Nat} {lo hi:Option ζ} {lv hv:Option Value} (k':tn S B σ lo lv) (ns:tn S B σ hi hv) {a b:Int} (κ:oh lo 0=some a) (hb:oh hi len=some b) (h:0<=a/\a<=b/\b<=cap) {G:υ} {K:Nat×Nat×Nat->υ->Prop} {E:Value->υ->Prop}
  (Α:K (a.toNat,b.toNat,cap) G):π P (Instr.sliceBounds isSlice len cap lv hv none) G K E:=by
 unfold Instr.sliceBounds;refine π.bind' (π.pure' ?_);have low:∀(n:Nat),b.toNat=n->π P (match lv with|some v=>Instr.sliceBound v n (if(none:Option Value).isSome then .slice3C else .sliceB)|none=>pure 0) G (λl G'=>π P (pure (l,n,cap)) G' K E) E:=λn Ι=>by
  subst Ι;cases lo with
  | none=>
   cases lv with
   | some v=>exact k'.elim
   | none=>cases κ;exact π.pure' (π.pure' Α)
  | some x=>
   cases lv with
   | none=>exact k'.elim
   | some v=>
    unfold oh at κ;split at κ
    ·rename_i e;cases e
    ·rename_i k n e;cases e;cases κ;cases k';exact JA (by omega) (π.pure' Α)
    ·cases κ
 cases hi with
 | none=>
  cases hv with
  | some v=>exact ns.elim
  | none=>
   cases hb;refine π.bind' (π.pure' ?_);have:=low len (by simp);cases lv with
   | none=>exact π.bind' this
   | some v=>exact π.bind' this
 | some x=>
  cases hv with
  | none=>exact ns.elim
  | some v=>
   unfold oh at hb;split at hb
   ·rename_i e;cases e
   ·rename_i k n e;cases e;cases hb;cases ns;refine π.bind' (JA (by omega) ?_);have:=low _ rfl;cases lv with
    | none=>exact π.bind' this
    | some v=>exact π.bind' this
   ·cases hb
def AT (T:aZ) (ty:TypeId) (x:ζ) (lo hi:Option ζ):cd:=match T ty with
 | some i=>match i.bl,x with
  | .string,.z (.string s)=>match oh lo 0,oh hi s.size with
   | some a,some b=>.bT (0<=a/\a<=b/\b<=s.size) (.ok (.z (.string (s.extract a.toNat b.toNat))))
   | _,_=>.bad
  | .slice e,.sl ex k l=>match T e,oh lo 0,oh hi l.length with
   | some bL,some a,some b=>if l.isEmpty=true\/k=bL.size then .bT (0<=a/\a<=b/\b<=l.length) (.ok (.sl (ex&&hi.isNone) k ((l.take b.toNat).drop a.toNat))) else .bad
   | _,_,_=>.bad
  | .array n e,.Ω cells=>match T e with
   | some bL=>if bL.size=1/\bL.agg=false/\n<=cells.length/\0<n/\lo.isNone/\hi.isNone/\(cells.take n).all (λc=>decide (c.cells.length=1)&&ζ.aU [] c) then .ok (.sl true 1 (cells.take n)) else .bad
   | none=>.bad
  | _,_=>.bad
 | none=>.bad
def AU (T:aZ) (ty:TypeId) (σ:List Row) (x:ζ) (lo hi:Option ζ):cO:=match T ty with
 | some i=>match i.bl,x with
  | .slice e,.ms id n i len=>match T e,σ[id]?,oh lo 0,oh hi len with
   | some bL,some (.cells _ k l),some a,some b=>if k=bL.size/\l.length=n then .bT (0<=a/\a<=b/\b<=len) (.ok (.ms id n (i+a.toNat) (b.toNat-a.toNat)) σ) else .bad
   | _,_,_,_=>.bad
  | _,_=>.bad
 | none=>.bad
theorem Q2 {ex:Bool} {k:Nat} {l:List ζ} {base:Option Addr} {len cap:Nat} (h:ah S B σ (.sl ex k l) (.slice base len cap)) {a b size:Nat} (jH:a<=b) (hb:b<=l.length) (Α:l.isEmpty=true\/k=size) (EN:Bool) (hex:EN=true->ex=true/\b=l.length) :
  ah S B σ (.sl EN k ((l.take b).drop a)) (.slice (if cap=a then base else base.map (·.add (a*size))) (b-a) (cap-a)):=by
 obtain⟨QA,Es,e,J,R,ς⟩:=pq h;cases e;have hlen:((l.take b).drop a).length=b-a:=by simp;omega
 by_cases Ν:(l.take b).drop a=[]
 ·rw[Ν] at hlen ⊢;have:b-a=0:=by simpa using hlen.symm
  rw[this];refine .hN _ _ λhe=>?_;obtain⟨Δ,Ε⟩:=hex he;have:=R Δ;omega
 ·have Β:l≠[]:=by rintro rfl;simp at Ν
  obtain⟨cx,o,w,rfl,Κ,aF,aV⟩:=ς Β;have gB:k=size:=Α.resolve_left λx=>Β (List.isEmpty_iff.1 x);subst gB;have px:a<b:=by
   apply Classical.byContradiction;intro Ι;apply Ν;have:b-a=0:=by omega
   rw[this] at hlen;exact dk.1 hlen
  rw[if_neg (by omega)];simp only[Option.map_some,rP];have el:∀(i:Nat) (e:ζ),((l.take b).drop a)[i]?=some e->l[a+i]?=some e:=λi e hi=>by
   rw[List.getElem?_drop,List.getElem?_take] at hi;split at hi
   ·exact hi
   ·cases hi
  have hle:((l.take b).drop a).length<=cap-a:=by rw[hlen];omega
  have:=ah.sl (S:=S) (B:=B) (σ:=σ) (ex:=EN) (k:=k) (l:=(l.take b).drop a) cx (o+a*k) (cap-a) (λi j=>w (a+i) j) (λhe=>by obtain⟨Δ,Ε⟩:=hex he;have:=R Δ;omega) hle
   (λi e hi=>Κ _ e (el i e hi)) (λi e hi j c γ=>by have:=aF _ e (el i e hi) j c γ;rw[Nat.add_mul] at this;rw[Nat.add_assoc o];exact this) (λi e hi j c γ=>aV _ e (el i e hi) j c γ)
  rw[hlen] at this;exact this
theorem Q3 (Ζ:bE P T) (ψ:Holds S B σ H) (ty:TypeId) {x:ζ} {v:Value} (U:ah S B σ x v) {lo hi:Option ζ} {lv hv:Option Value} (k':tn S B σ lo lv) (ns:tn S B σ hi hv) :
  cp P (Instr.sliceAt ty v lv hv none) S B H σ ((AT T ty x lo hi).dd σ):=by
 unfold AT;cases dj:T ty with
 | none=>exact .bad
 | some i=>
  simp only;split
  ·rename_i s hu;cases U;split
   ·rename_i a b κ hb;refine cp.bT (r:=(cd.ok (.z (.string (s.extract a.toNat b.toNat)))).dd σ) λh K I=>?_;unfold Instr.sliceAt;refine π.bind' (Ζ.bl dj ?_);rw[hu];simp only;unfold Instr.slice;refine π.bind' (Ζ.bl dj ?_);rw[hu];simp only[Option.isSome_none,Bool.false_eq_true,if_false];refine π.bind' (AS k' ns κ hb h ?_);exact π.pure' (.same ψ I (.z _))
   ·exact .bad
  ·rename_i e ex k l hu;split
   ·rename_i bL a b ea κ hb;split
    ·rename_i Α;refine cp.bT (r:=(cd.ok (.sl (ex&&hi.isNone) k ((l.take b.toNat).drop a.toNat))).dd σ) λh K I=>?_;obtain⟨base,cap,rfl,J,R,_⟩:=pq U;unfold Instr.sliceAt;refine π.bind' (Ζ.bl dj ?_);rw[hu];simp only;unfold Instr.slice;refine π.bind' (Ζ.bl dj ?_);rw[hu];simp only;refine π.bind' (AS k' ns κ hb (by omega) ?_);simp only;refine π.bind' (Ζ.size ea ?_);refine π.pure' (.same ψ I (Q2 U (by omega) (by omega) Α _ λhe=>?_));simp only[Bool.and_eq_true] at he;refine⟨he.1,?_⟩;cases hi with
     | none=>cases hb;simp
     | some=>simp at he
    ·exact .bad
   ·exact .bad
  ·rename_i n e cells hu;split
   ·rename_i bL ea;split
    ·rename_i η;obtain⟨c1,c2,c3,c4,l5,qK,py⟩:=η;intro K I;cases U with
     | Ω b o w J R=>
      cases lo with
      | some=>simp at l5
      | none=>
       cases hi with
       | some=>simp at qK
       | none=>
        cases lv with
        | some=>exact k'.elim
        | none=>
         cases hv with
         | some=>exact ns.elim
         | none=>
          unfold Instr.sliceAt;refine π.bind' (Ζ.bl dj ?_);rw[hu];simp only;refine π.bind' (π.pure' ?_);refine π.bind' (AS (S:=S) (B:=B) (σ:=σ) (lo:=none) (hi:=none) (lv:=none) (hv:=none) trivial trivial (a:=0) (b:=n) rfl rfl (by omega) ?_);simp only[Int.toNat_natCast];refine π.bind' (Ζ.size ea ?_);rw[c1];refine π.pure' (.same ψ I ?_);have gR:(0:Int).toNat=0:=rfl;rw[gR,if_neg (by omega),rP];simp only[Nat.zero_mul,Nat.add_zero,Nat.sub_zero];have hlen:(cells.take n).length=n:=by simp;omega
          rw[List.all_eq_true] at py;have el:∀(i:Nat) (e:ζ),(cells.take n)[i]?=some e->cells[i]?=some e/\e.cells=[e]:=λi e hi=>by
           have hm:=py e (cf hi);simp only[Bool.and_eq_true] at hm;rw[List.getElem?_take] at hi;split at hi
           ·exact⟨hi,ζ.Eu hm.2⟩
           ·cases hi
          have:=ah.sl (S:=S) (B:=B) (σ:=σ) (ex:=true) (k:=1) (l:=cells.take n) b o n (λi _=>w i) (λ_=>hlen.symm) (by omega) (λi e hi=>by rw[(el i e hi).2];rfl)
           (λi e hi j c γ=>by
            rw[(el i e hi).2] at γ
            match j with
            | 0=>simp at γ;subst γ;have:=J i _ (el i _ hi).1;simpa using this
            | j+1=>simp at γ) (λi e hi j c γ=>by
            rw[(el i e hi).2] at γ
            match j with
            | 0=>simp at γ;subst γ;exact R i _ (el i _ hi).1
            | j+1=>simp at γ)
          rw[hlen] at this;exact this
    ·exact .bad
   ·exact .bad
  ·exact .bad
theorem Q4 (Ζ:bE P T) (ψ:Holds S B σ H) (ty:TypeId) {x:ζ} {v:Value} (U:ah S B σ x v) {lo hi:Option ζ} {lv hv:Option Value} (k':tn S B σ lo lv) (ns:tn S B σ hi hv) :
  cp P (Instr.sliceAt ty v lv hv none) S B H σ (AU T ty σ x lo hi):=by
 unfold AU;cases dj:T ty with
 | none=>exact .bad
 | some jL=>
  simp only;split
  ·rename_i e id n i len hu;split
   ·rename_i bL t k l a b ea Β κ hb;split
    ·rename_i η;obtain⟨Α,Ι⟩:=η;refine .bT λh K I=>?_;cases U with
     | ms cap J R ς Κ aF aV=>
      rw[Β] at J;cases J;unfold Instr.sliceAt;refine π.bind' (Ζ.bl dj ?_);rw[hu];simp only;unfold Instr.slice;refine π.bind' (Ζ.bl dj ?_);rw[hu];simp only;refine π.bind' (AS k' ns κ hb (by omega) ?_);simp only;refine π.bind' (Ζ.size ea ?_);refine π.pure' (.same ψ I (.ms (cap-a.toNat) Β Ι ς (by omega) (by omega) ?_));by_cases η:cap=a.toNat
      ·exact .inl (by omega)
      ·rcases aV with aV|⟨cx,N,rfl,rfl,aV⟩
       ·exact .inl (by omega)
       ·refine .inr ⟨cx,N,rfl,?_,?_⟩
        ·rw[if_neg η];simp only[Option.map_some,rP,Α,Nat.add_mul]
        ·have:i+a.toNat+(cap-a.toNat)=i+cap:=by omega
         rw[this];exact aV
     | h8 v J R=>rw[Β] at J;cases J;simp only[Row.gn] at R;omega
    ·exact .bad
   ·exact .bad
  ·exact .bad
def AV (T:aZ) (ty:TypeId) (x:ζ):cd:=match T ty with
 | some i=>match i.bl,x with
  | .string,.z (.string s)=>.ok (.z (.int .i64 s.size))
  | .slice _,.sl _ _ l=>.ok (.z (.int .i64 l.length))
  | .array n _,_=>.ok (.z (.int .i64 n))
  | _,_=>.bad
 | none=>.bad
def AW (T:aZ) (ty:TypeId) (σ:List Row) (x:ζ):cO:=match T ty with
 | some i=>match i.bl,x with
  | .slice _,.ms id n _ len=>match σ[id]? with
   | some (.cells _ _ l)=>if l.length=n then .ok (.z (.int .i64 len)) σ else .bad
   | _=>.bad
  | _,_=>.bad
 | none=>.bad
theorem Q5 (Ζ:bE P T) (ψ:Holds S B σ H) (ty rt:TypeId) {x:ζ} {v:Value} (U:ah S B σ x v):cp P (Builtin.len_ #[ty] rt #[v]) S B H σ ((AV T ty x).dd σ):=by
 unfold AV;cases hi:T ty with
 | none=>exact .bad
 | some i=>
  simp only;have go:∀(K:ζ->List Row->Prop) (n:Int),K (.z (.int .i64 n)) σ->π P (pure (goInt n):Sem Value) H (hO S B H σ K) (λ_ _=>False):=λK n I=>π.pure' (.same ψ I (.z _));split
  ·rename_i s hu;cases U;intro K I;unfold Builtin.len_;refine π.bind' (Ζ.bl hi ?_);rw[hu];exact go K _ I
  ·rename_i e ex k l hu;obtain⟨base,cap,rfl,_⟩:=pq U;intro K I;unfold Builtin.len_;refine π.bind' (Ζ.bl hi ?_);rw[hu];exact go K _ I
  ·rename_i n e hu;intro K I;unfold Builtin.len_;refine π.bind' (Ζ.bl hi ?_);rw[hu];cases v<;>exact go K _ I
  ·exact .bad
theorem Q6 (Ζ:bE P T) (ψ:Holds S B σ H) (ty rt:TypeId) {x:ζ} {v:Value} (U:ah S B σ x v):cp P (Builtin.len_ #[ty] rt #[v]) S B H σ (AW T ty σ x):=by
 unfold AW;cases hi:T ty with
 | none=>exact .bad
 | some i=>
  simp only;split
  ·rename_i e id n j len hu;split
   ·rename_i t k l Β;split
    ·rename_i Ι;intro K I;cases U with
     | ms cap J R ς Κ aF aV=>
      unfold Builtin.len_;refine π.bind' (Ζ.bl hi ?_);rw[hu];exact π.pure' (.same ψ I (.z _))
     | h8 v J R=>rw[Β] at J;cases J;simp only[Row.gn] at R;omega
    ·exact .bad
   ·exact .bad
  ·exact .bad
def vj (T:aZ) (src dst:TypeId) (x:ζ):cd:=match T src,T dst with
 | some _,some j=>match j.bl,x with
  | .int k,.z (.int _ n)=>.ok (.z (.int k (k.wrap n)))
  | _,_=>.bad
 | _,_=>.bad
theorem Q7 (Ζ:bE P T) (ψ:Holds S B σ H) (src dst:TypeId) {x:ζ} {v:Value} (U:ah S B σ x v):cp P (convert src dst v) S B H σ ((vj T src dst x).dd σ):=by
 unfold vj;split
 ·rename_i i j hi γ;split
  ·rename_i k kk n hu;cases U;intro K I;unfold convert;refine π.bind' (Ζ.bl hi (π.bind' (Ζ.bl γ ?_)));rw[hu];exact π.pure' (.same ψ I (.z _))
  ·exact .bad
 ·exact .bad
def AX (l:List ζ):cd:=match l with
 | [.z (.int k x),.z (.int _ y)]=>.ok (.z (.int k (if y > x then y else x)))
 | _=>.bad
theorem Q8 (ψ:Holds S B σ H) (dI:Array TypeId) (rt:TypeId) {a b:ζ} {u v:Value} (κ:ah S B σ a u) (hb:ah S B σ b v):cp P (Builtin.max_ dI rt #[u,v]) S B H σ ((AX [a,b]).dd σ):=by
 unfold AX;split
 ·rename_i k x kk y e;simp at e;obtain⟨rfl,rfl⟩:=e;cases κ;cases hb;intro K I;exact π.pure' (.same ψ I (.z _))
 ·exact .bad
end
end Go.TL
