import Derived.IntWalk
import Derived.Laws.Sem
import Derived.Test.YtlabjopijpkiaaaGreatDAG
set_option maxHeartbeats 16000000
set_option maxRecDepth 20000
set_option linter.unusedSectionVars false
set_option linter.unusedSimpArgs false
set_option linter.unusedVariables false
namespace Go.TL
open Go.Conc
section
variable {P:Program} {T:a9} {S:aD} {B:aP} {H:π} {σ:List Row}
def Cj (σ:List Row) (a:θ):cH:=if a.cells.all (θ.bd σ)=true then .ok (.aa a.cells) σ else .bad
def wY (a:θ):cu:=if a.cells.all (θ.bd [])=true then .ok (.aa a.cells) else .bad
def wZ (t:TypeId) (σ:List Row) (a:θ):cH:=if a.cells.all (θ.bd σ)=true then .ok (.an σ.length 1 0 0) (σ++[.cells t a.cells.length [a]]) else .bad
theorem Gg (χ:Holds S B σ H) (ty:TypeId) {a:θ} {v:Value} (κ:au S B σ a v) (ei:a.cells.all (θ.bd σ)=true):cD P (do pure (.pointer (some (<-newVar ty v)))) S B H σ (.ok (.aa a.cells) σ):=by
 intro K ζ;refine ξ.bind' ?_;unfold newVar newRow;refine ξ.bind' (zd χ v.cells ty λr I R ν=>ξ.pure' (ξ.pure' ⟨_,_,_,_,ζ,R,I,ν,?_⟩));exact LI ν (fK.one κ ei)
theorem S7 (χ:Holds S B σ H) (ty:TypeId) {a:θ} {v:Value} (κ:au S B σ a v):cD P (Instr.box ty v) S B H σ (Cj σ a):=by
 unfold Cj;split
 ·rename_i ei;exact Gg χ ty κ ei
 ·exact .bad
theorem S8 (χ:Holds S B σ H) (ty:TypeId) {a:θ} {v:Value} (κ:au S B σ a v):cD P (Instr.box ty v) S B H σ ((wY a).dq σ):=by
 unfold wY;split
 ·rename_i ei;exact Gg χ ty κ (wW ei)
 ·exact .bad
theorem LJ (χ:Holds S B σ H) (ty:TypeId) {a:θ} {v:Value} (κ:au S B σ a v):cD P (do pure (.pointer (some (<-newVar ty v)))) S B H σ (wZ ty σ a):=by
 unfold wZ;split
 ·rename_i ei;intro K ζ;refine ξ.bind' ?_;unfold newVar newRow;refine ξ.bind' (zc χ (fK.one κ ei) ty λr _ I R ν=>ξ.pure' (ξ.pure' ⟨_,_,_,_,ζ,R,I,ν,?_⟩));have:=au.an (S:=S) (B:=B++[some (r,v.cells.size)]) (σ:=σ++[.cells ty a.cells.length [a]]) (id:=σ.length) (n:=1) (i:=0) (j:=0) (k:=a.cells.length) (t:=ty) (l:=[a]) (b:=r) (N:=v.cells.size) η rfl (by rw[<-χ.len];simp);simpa using this
 ·exact .bad
theorem S9 (χ:Holds S B σ H) (ty:TypeId) {a:θ} {v:Value} (κ:au S B σ a v):cD P (Instr.box ty v) S B H σ (wZ ty σ a):=LJ χ ty κ
def Ck (T:a9) (ty:TypeId) (σ:List Row):cH:=match T ty with|some i=>wZ ty σ (ho i.zero)|none=>.bad
def Cl (T:a9) (ty:TypeId):cu:=match T ty with|some i=>wY (ho i.zero)|none=>.bad
theorem S' (Η:bT P T) (χ:Holds S B σ H) (ty:TypeId):cD P (Instr.alloc ty true (.tuple #[])) S B H σ (Ck T ty σ):=by
 unfold Ck;cases hi:T ty with
 | none=>exact .bad
 | some i=>
  intro K ζ;unfold Instr.alloc;exact ξ.bind' (Η.zero hi (LJ χ ty (pC i.zero) K ζ))
theorem Ta (Η:bT P T) (χ:Holds S B σ H) (ty:TypeId):cD P (Instr.alloc ty true (.tuple #[])) S B H σ ((Cl T ty).dq σ):=by
 unfold Cl;cases hi:T ty with
 | none=>exact .bad
 | some i=>
  simp only[wY];split
  ·rename_i ei;intro K ζ;unfold Instr.alloc;exact ξ.bind' (Η.zero hi (Gg χ ty (pC i.zero) (wW ei) K ζ))
  ·exact .bad
def qU (pl:Nat->Option (Nat×Nat×Nat)) (k:Nat) (bd:θ->Bool) (l:List θ):List (Nat×θ)->Option (List θ)
 | []=>some l
 |(x,a)::r=>match pl x with
  | some (i,j,n)=>match l[i]? with
   | some e=>if a.cells.length=n/\j+n<=k/\a.cells.all bd=true then qU pl k bd (l.set i (e.rW j a.cells)) r else none
   | none=>none
  | none=>none
theorem Gh {k:Nat} {bd:θ->Bool} (nC:∀a:θ,bd a=true->a.bd σ=true) {pl:Nat->Option (Nat×Nat×Nat)} {place:Nat->Option (Nat×Nat)} (g2:∀x i j n,pl x=some (i,j,n)->place x=some (i*k+j,n)) {env:ab} {t:Array Value} (cU:cX S B σ env t) :
  ∀(c7:List (Nat×Operand)) (c:Array Value) (l dX:List θ),fK S B σ c k l->qU pl k bd l (c7.map λp=>(p.1,aM env p.2))=some dX->
  ∃c',Instr.fill place c (c7.map λp=>(p.1,br t p.2))=some c'/\c'.size=c.size/\fK S B σ c' k dX/\dX.length=l.length:=by
 intro c7
 induction c7 with
 | nil=>intro c l dX ε h;cases h;exact⟨c,rfl,rfl,ε,rfl⟩
 | cons p c7 ω=>
  obtain⟨x,o⟩:=p;intro c l dX ε h;simp only[List.map_cons,qU] at h;split at h<;>try cases h
  rename_i i j n ς;split at h<;>try cases h
  rename_i e he;split at h<;>try cases h
  rename_i BF;obtain⟨I,R,ν⟩:=BF;have κ:=lB cU o;have ei:(aM env o).cells.all (θ.bd σ)=true:=by
   rw[List.all_eq_true] at ν ⊢;exact λa κ=>nC a (ν a κ)
  obtain⟨cC,_⟩:=κ.cells ei;obtain⟨k1,bG⟩:=ε.put he κ ei (by omega:j+(aM env o).cells.length<=k);obtain⟨c',Γ,Θ,bO,cF⟩:=ω _ _ _ bG h;refine⟨c',?_,by rw[Θ,k1],bO,by rw[cF];simp⟩;have j2:i<l.length:=(bV.1 he).1;have hle:i*k+j+(br t o).cells.size<=c.size:=by
   have a1:(i+1)*k<=l.length*k:=Nat.mul_le_mul_right k j2
   have a2:=ε.1;rw[Nat.add_mul] at a1;omega
  simp only[List.map_cons,Instr.fill,g2 x i j n ς];have c1:((br t o).cells.size≠n)=False:=by simp;omega
  have c2:(i*k+j+(br t o).cells.size > c.size)=False:=by simp;omega
  simp only[bne_iff_ne,ne_eq,Bool.or_eq_true,decide_eq_true_eq,c1,c2];simp only[ne_eq] at c1;simp only[c1,or_self,if_false];exact Γ
def LK (T:a9) (db:Array Field):Option (List (Nat×Nat)):=db.toList.mapM λf=>(T f.type).map λi=>(f.offset,i.size)
theorem Tb (Η:bT P T) {K:Array (Nat×Nat)->π->Prop} {E:Value->π->Prop} {db:Array Field} {l:List (Nat×Nat)} (h:LK T db=some l) (ψ:K l.toArray H) :
  ξ P (db.mapM λf=>(do pure (f.offset,<-sizeOf f.type):Sem (Nat×Nat))) H K E:=by
 have key:∀(gs:List Field) (l:List (Nat×Nat)) (K:List (Nat×Nat)->π->Prop),(gs.mapM λf=>(T f.type).map λi=>(f.offset,i.size))=some l->K l H->ξ P (gs.mapM λf=>(do pure (f.offset,<-sizeOf f.type):Sem (Nat×Nat))) H K E:=by
  intro gs
  induction gs with
  | nil=>intro l K h ψ;simp at h;subst h;exact ξ.pure' ψ
  | cons f gs ω=>
   intro l K h ψ;rw[List.mapM_cons] at h ⊢;cases Υ:T f.type with
   | none=>rw[Υ] at h;cases h
   | some i=>
    rw[Υ] at h;simp only[Option.map_some,Option.bind_eq_bind,Option.bind_some] at h;cases Ο:(gs.mapM λf=>(T f.type).map λi=>(f.offset,i.size)) with
    | none=>rw[Ο] at h;cases h
    | some l2=>
     rw[Ο] at h;cases h;refine ξ.bind' (ξ.bind' (Η.size Υ (ξ.pure' ?_)));refine ξ.bind' (ω l2 _ Ο ?_);exact ξ.pure' ψ
 rw[Array.mapM_eq_mapM_toList];exact ξ.bind (db.toList.mapM _) (key db.toList l _ h (ξ.pure' ψ))
def nD (T:a9) (bd:θ->Bool) (ty:TypeId) (parts:List (Nat×θ)):cu:=match T ty with
 | some i=>
  let z:=ho i.zero
  if z.cells.length=i.zero.cells.size/\z.cells.all (θ.bd [])=true then match i.bE with
   | .struct db=>match LK T db with
    | some pl=>match qU (λx=>(pl[x]?).map λp=>(0,p.1,p.2)) z.cells.length bd [z] parts with
     | some [e]=>.ok (.a6 e.cells)
     | _=>.bad
    | none=>.bad
   | .array _ el=>match T el with
    | some bU=>match qU (λx=>some (0,x*bU.size,bU.size)) z.cells.length bd [z] parts with
     | some [e]=>.ok (.a6 e.cells)
     | _=>.bad
    | none=>.bad
   | _=>.bad
  else .bad
 | none=>.bad
theorem LL {c:Array Value} {k:Nat} {e:θ} (h:fK S B σ c k [e]) (ψ:c.size=k):au S B σ (.a6 e.cells) (.agg c):=by
 obtain⟨I,R⟩:=h.2 0 e rfl;refine .a6 c (by rw[I,ψ]) λj a v δ hv=>?_;obtain⟨x,Γ,Θ,_⟩:=R j a δ;rw[Nat.zero_mul,Nat.zero_add,hv] at Γ;cases Γ;exact Θ
theorem LM (Η:bT P T) (χ:Holds S B σ H) {bd:θ->Bool} (nC:∀a:θ,bd a=true->a.bd σ=true) (ty:TypeId) {env:ab} {t:Array Value} (cU:cX S B σ env t) (parts:Array (Nat×Operand)) :
  cD P (Instr.build ty (parts.map λ(i,x)=>(i,br t x))) S B H σ ((nD T bd ty (parts.toList.map λp=>(p.1,aM env p.2))).dq σ):=by
 unfold nD;cases hi:T ty with
 | none=>exact .bad
 | some i=>
  simp only;split
  ·rename_i Μ;obtain⟨Cm,Tc⟩:=Μ;have Cn:fK S B σ i.zero.cells (ho i.zero).cells.length [ho i.zero]:=fK.one (pC i.zero) (wW Tc);have Co:(parts.map λ(i,x)=>(i,br t x)).toList=parts.toList.map λp=>(p.1,br t p.2):=η;split
   ·rename_i db hu;split
    ·rename_i pl g2;split
     ·rename_i e he;intro K ζ;unfold Instr.build;refine ξ.bind' (Η.zero hi (ξ.bind' (Η.bE hi ?_)));rw[hu];refine ξ.bind' (Tb Η g2 ?_);obtain⟨c',Γ,Θ,bO,_⟩:=Gh (place:=(pl.toArray[·]?)) nC (λx i j n h=>by
       cases U:pl[x]? with
       | none=>rw[U] at h;cases h
       | some p=>rw[U] at h;cases h;simp[U]) cU parts.toList _ _ _ Cn he
      rw[Co,Γ];exact ξ.pure' (.same χ ζ (LL bO (by rw[Θ,Cm])))
     ·exact .bad
    ·exact .bad
   ·rename_i m el hu;split
    ·rename_i bU ec;split
     ·rename_i e he;intro K ζ;unfold Instr.build;refine ξ.bind' (Η.zero hi (ξ.bind' (Η.bE hi ?_)));rw[hu];refine ξ.bind' (Η.size ec ?_);obtain⟨c',Γ,Θ,bO,_⟩:=Gh (place:=λi=>some (i*bU.size,bU.size)) nC (λx i j n h=>by
       simp at h;obtain⟨rfl,rfl,rfl⟩:=h;simp) cU parts.toList _ _ _ Cn he
      rw[Co,Γ];exact ξ.pure' (.same χ ζ (LL bO (by rw[Θ,Cm])))
     ·exact .bad
    ·exact .bad
   ·exact .bad
  ·exact .bad
def ze (T:a9) (bd:θ->Bool) (ty:TypeId) (len:Nat) (parts:List (Nat×θ)):Option (TypeId×Nat×List θ):=match hS T ty with
 | some (e,k,none)=>match T e with
  | some bU=>if 0<k/\len*k<=2 ^ 24/\(ho bU.zero).cells.length=k/\(ho bU.zero).cells.all (θ.bd [])=true then
    (qU (λx=>some (x,0,k)) k bd (List.replicate len (ho bU.zero)) parts).map λl=>(e,k,l) else none
  | none=>none
 | _=>none
theorem LN (Η:bT P T) {bd:θ->Bool} (nC:∀a:θ,bd a=true->a.bd σ=true) {ty e:TypeId} {len k:Nat} {l:List θ} {env:ab} {t:Array Value} (cU:cX S B σ env t) {parts:Array (Nat×Operand)}
  (h:ze T bd ty len (parts.toList.map λp=>(p.1,aM env p.2))=some (e,k,l)) {K:Value->π->Prop} {E:Value->π->Prop}
  (ψ:∀c:Array Value,fK S B σ c k l->l.length=len->ξ P (newObj (.cells c e)) H (λr H'=>K (.slice (some ⟨r,0,none⟩) len len) H') E) :
  ξ P (Instr.buildSlice ty len (parts.map λ(i,x)=>(i,br t x))) H K E:=by
 unfold ze at h;split at h<;>try cases h
 rename_i aH af he;split at h<;>try cases h
 rename_i bU ec;split at h<;>try cases h
 rename_i ε;obtain⟨I,R,ν,Ι⟩:=ε;obtain⟨i,Gi,hi,hu,tm,cC⟩:=Cd he;rw[ec] at tm;cases tm;cases Υ:qU (λx=>some (x,0,af)) af bd (List.replicate len (ho bU.zero)) (parts.toList.map λp=>(p.1,aM env p.2)) with
 | none=>rw[Υ] at h;cases h
 | some dX=>
  rw[Υ] at h;cases h;unfold Instr.buildSlice;refine ξ.bind' (Η.bE hi ?_);rw[hu];refine ξ.bind' (Η.size ec ?_);rw[cC];have LO:¬(len*k > 2 ^ 24):=γ;simp only[LO,if_false];have Co:(parts.map λ(i,x)=>(i,br t x)).toList=parts.toList.map λp=>(p.1,br t p.2):=η;have fin:∀jI:Array Value,(len=0\/jI=bU.zero.cells)->∃c',Instr.fill (λi=>some (i*k,k)) ((Array.range (len*k)).map (jI[· % jI.size]!)) (parts.map λ(i,x)=>(i,br t x)).toList=some c'/\fK S B σ c' k l/\l.length=len:=λjI qV=>by
   have Cn:fK S B σ ((Array.range (len*k)).map (jI[· % jI.size]!)) k (List.replicate len (ho bU.zero)):=by
    rcases qV with rfl|qV
    ·exact⟨η,λi e hi=>by simp at hi⟩
    ·exact fK.LH (pC bU.zero) (wW Ι) ν (Nat.le_refl _) jI qV
   obtain⟨c',Γ,Θ,bO,cF⟩:=Gh (place:=λi=>some (i*k,k)) nC (λx i j n h=>by
    simp at h;obtain⟨rfl,rfl,rfl⟩:=h;simp) cU parts.toList _ _ _ Cn Υ
   rw[Co];exact⟨c',Γ,bO,by rw[cF];simp⟩
  by_cases υ:len=0
  ·obtain⟨c',Γ,Θ,bO⟩:=fin #[] (.inl υ);have Μ:len*k=0:=by rw[υ];simp
   rw[if_pos Μ];refine ξ.bind' (ξ.pure' ?_);rw[Γ];exact ξ.bind' (ψ c' Θ bO)
  ·have bC:len*k≠0:=by
    intro ao;rcases Nat.mul_eq_zero.1 ao with ao|ao<;>omega
   obtain⟨c',Γ,Θ,bO⟩:=fin _ (.inr rfl);rw[if_neg bC];refine ξ.bind' (Η.zero ec ?_);refine ξ.bind' (ξ.pure' ?_);rw[Γ];exact ξ.bind' (ψ c' Θ bO)
def zf (T:a9) (bd:θ->Bool) (ty:TypeId) (len:Nat) (parts:List (Nat×θ)):cu:=match ze T bd ty len parts with
 | some (_,k,l)=>.ok (.sl true k l)
 | none=>.bad
def Cp (T:a9) (ty:TypeId) (len:Nat) (parts:List (Nat×θ)) (σ:List Row):cH:=match ze T (θ.bd σ) ty len parts with
 | some (e,k,l)=>.ok (.ms σ.length len 0 len) (σ++[.cells e k l])
 | none=>.bad
theorem LP (Η:bT P T) (χ:Holds S B σ H) {bd:θ->Bool} (nC:∀a:θ,bd a=true->a.bd σ=true) (ty:TypeId) (len:Nat) {env:ab} {t:Array Value} (cU:cX S B σ env t) (parts:Array (Nat×Operand)) :
  cD P (Instr.buildSlice ty len (parts.map λ(i,x)=>(i,br t x))) S B H σ ((zf T bd ty len (parts.toList.map λp=>(p.1,aM env p.2))).dq σ):=by
 unfold zf;split
 ·rename_i e k l h;intro K ζ;refine LN Η nC cU h λc ε hlen=>zd χ c e λr I R ν=>⟨_,_,_,_,ζ,R,I,ν,?_⟩;have:=Ci (cap:=len) true ν ε γ (λ_=>hlen.symm);rw[hlen] at this;exact this
 ·exact .bad
theorem LQ {r n k:Nat} {t:TypeId} {l:List θ} (hlen:B.length=σ.length) (c:Array Value) (ε:l.length*k<=c.size) (Ε:l.length=n):au S (B++[some (r,c.size)]) (σ++[.cells t k l]) (.ms σ.length n 0 n) (.slice (some ⟨r,0,none⟩) n n):=by
 have:=au.ms (S:=S) (B:=B++[some (r,c.size)]) (σ:=σ++[.cells t k l]) (id:=σ.length) (n:=n) (i:=0) (len:=n) (t:=t) (k:=k) (l:=l) (bo:=some (r,c.size)) (base:=some ⟨r,0,none⟩) n η Ε (by rw[<-hlen];simp) γ (Nat.le_refl _) (.inr ⟨r,c.size,rfl,η,by subst Ε;simpa using ε⟩);exact this
theorem Td (Η:bT P T) (χ:Holds S B σ H) (ty:TypeId) (len:Nat) {env:ab} {t:Array Value} (cU:cX S B σ env t) (parts:Array (Nat×Operand)) :
  cD P (Instr.buildSlice ty len (parts.map λ(i,x)=>(i,br t x))) S B H σ (Cp T ty len (parts.toList.map λp=>(p.1,aM env p.2)) σ):=by
 unfold Cp;split
 ·rename_i e k l h;intro K ζ;exact LN Η (λa h=>h) cU h λc ε hlen=>zc χ ε e λr _ I R ν=>⟨_,_,_,_,ζ,R,I,ν,LQ χ.len c ε.1 hlen⟩
 ·exact .bad
def zg (T:a9) (ty:TypeId) (a b:θ):Option (TypeId×Nat×θ×Int×Int):=match hS T ty,a,b with
 | some (e,k,none),.z (.int _ n),.z (.int _ m)=>match T e with
  | some bU=>if 0<k/\(ho bU.zero).cells.length=k/\(ho bU.zero).cells.all (θ.bd [])=true then some (e,k,ho bU.zero,n,bU.bytes) else none
  | none=>none
 | _,_,_=>none
end
section
variable {P:Program} {T:a9} {S:aD} {B:aP} {H:π} {σ:List Row}
theorem LR (Η:bT P T) {ty e:TypeId} {k:Nat} {z:θ} {n bytes:Int} {a b:θ} {u v:Value} (κ:au S B σ a u) (hb:au S B σ b v) (h:zg T ty a b=some (e,k,z,n,bytes)) (hk:∀kk m,b=.z (.int kk m)->m=n) (Ε:0<=n/\0<bytes/\bytes*n<=2 ^ 48) {K:Value->π->Prop} {E:Value->π->Prop}
  (ψ:∀c:Array Value,fK S B σ c k (List.replicate n.toNat z)->ξ P (newObj (.cells c e)) H (λr H'=>K (.slice (some ⟨r,0,none⟩) n.toNat n.toNat) H') E) :
  ξ P (Instr.makeSlice ty u v) H K E:=by
 unfold zg at h;split at h<;>try cases h
 rename_i aH af k1 iL bG m he;split at h<;>try cases h
 rename_i bU ec;split at h<;>try cases h
 rename_i ε;obtain⟨I,R,ν⟩:=ε;cases κ;cases hb;have hm:=hk _ _ rfl;subst hm;obtain⟨i,Gi,hi,hu,tm,cC⟩:=Cd he;rw[ec] at tm;cases tm;obtain⟨qW,jF,fβ⟩:=Ε;have hle:m<=2 ^ 48:=by
  have:1*m<=(bU.bytes:Int)*m:=Int.mul_le_mul_of_nonneg_right γ qW;omega
 have hw:IntKind.i64.wrap m=m:=IntWalk.i64_in m ⟨γ,γ⟩;unfold Instr.makeSlice;refine ξ.bind' (Η.bE hi ?_);rw[hu];refine ξ.bind' (ξ.bind' (ξ.pure' (ξ.pure' ?_)));refine ξ.bind' (ξ.bind' (ξ.pure' (ξ.pure' ?_)));refine ξ.bind' (Η.info ec λf Υ=>?_);simp only[hw,Υ];have c1:¬m<0:=γ;have c2:¬((bU.bytes:Int)*m > 2 ^ 48):=γ;have c3:¬m > m:=γ;simp only[c1,c2,c3,decide_false,Bool.or_false,Bool.false_eq_true,if_false];refine ξ.bind' ?_;have fin:ξ P (do
   let LS <-(do pure (m.toNat*(<-sizeOf e)):Sem Nat)
   let zero <-if LS=0 then pure #[] else do pure (<-zeroValue e).cells
   let a <-newRow e ((Array.range LS).map (zero[· % zero.size]!))
   pure (.slice (some a) m.toNat m.toNat)) H K E:=by
  refine ξ.bind' (ξ.bind' (Η.size ec (ξ.pure' ?_)));rw[cC];by_cases Μ:m.toNat*k=0
  ·rw[if_pos Μ];refine ξ.bind' (ξ.pure' ?_);refine ξ.bind' (ξ.bind' ?_);refine ψ _ ?_;rcases Nat.mul_eq_zero.1 Μ with ao|ao
   ·rw[ao];exact⟨η,λi e hi=>by simp at hi⟩
   ·omega
  ·rw[if_neg Μ];refine ξ.bind' (Η.zero ec ?_);refine ξ.bind' (ξ.pure' ?_);refine ξ.bind' (ξ.bind' ?_);exact ψ _ (fK.LH (pC bU.zero) (wW ν) R (Nat.le_refl _) _ rfl)
 unfold askRoom;split
 ·refine⟨rfl,?_⟩;show ξ P _ H K E;have:=fin;simpa using this
 ·refine ξ.pure' ?_;show ξ P _ H K E;have:=fin;simpa using this
def Cq (T:a9) (ty:TypeId) (a b:θ) (σ:List Row):cH:=match zg T ty a b,b with
 | some (e,k,z,n,bytes),.z (.int _ m)=>.bX (m=n/\0<=n/\0<bytes/\bytes*n<=2 ^ 48) (.ok (.ms σ.length n.toNat 0 n.toNat) (σ++[.cells e k (List.replicate n.toNat z)]))
 | _,_=>.bad
theorem Te (Η:bT P T) (χ:Holds S B σ H) {ty:TypeId} {a b:θ} {u v:Value} (κ:au S B σ a u) (hb:au S B σ b v):cD P (Instr.makeSlice ty u v) S B H σ (Cq T ty a b σ):=by
 unfold Cq;split
 ·rename_i e k z n bytes kk m h;refine .bX λ⟨hm,Ε⟩ K ζ=>?_;refine LR Η κ hb h (λFT b1 aH=>by cases aH;exact hm) Ε λc ε=>zc χ ε e λr _ I R ν=>⟨_,_,_,_,ζ,R,I,ν,?_⟩;exact LQ χ.len c ε.1 η
 ·exact .bad
def Cr (T:a9) (ty:TypeId) (a b:θ):cu:=match zg T ty a b,b with
 | some (_,k,z,n,bytes),.z (.int _ m)=>.bX (m=n/\0<=n/\0<bytes/\bytes*n<=2 ^ 48) (.ok (.sl true k (List.replicate n.toNat z)))
 | _,_=>.bad
theorem Tf (Η:bT P T) (χ:Holds S B σ H) {ty:TypeId} {a b:θ} {u v:Value} (κ:au S B σ a u) (hb:au S B σ b v):cD P (Instr.makeSlice ty u v) S B H σ ((Cr T ty a b).dq σ):=by
 unfold Cr;split
 ·rename_i e k z n bytes kk m h;refine cD.bX (r:=(cu.ok (.sl true k (List.replicate n.toNat z))).dq σ) λ⟨hm,Ε⟩ K ζ=>?_;refine LR Η κ hb h (λFT b1 aH=>by cases aH;exact hm) Ε λc ε=>zd χ c e λr I R ν=>⟨_,_,_,_,ζ,R,I,ν,?_⟩;have:=Ci (cap:=n.toNat) true ν ε η (λ_=>η);simpa using this
 ·exact .bad
def Reads (H:π) (base:Option Addr) (m:Nat) (w:Nat->Value):Prop:=m=0\/∃b o,base=some ⟨b,o,none⟩/\∀j,j<m->∃p,H.aJ b (o+j)=some (w j,p)
theorem Gj {base:Option Addr} {k n cap:Nat} {len:Nat} {w:Nat->Value} (h:Reads H base (n*k) w) {K:Array Value->π->Prop} {E:Value->π->Prop} (ψ:K ((List.range (n*k)).map w).toArray H) :
  ξ P (Builtin.firstCells k n (.slice base len cap)) H K E:=by
 rcases h with h|⟨b,o,rfl,h⟩
 ·rw[h] at ψ;cases base with
  | none=>exact ξ.pure' ψ
  | some a=>
   show ξ P (loadCells a (n*k)) H K E;rw[h];exact ξ.pure' ψ
 ·exact ξ.loadCells w rfl h ψ
theorem Tg {bX old:Nat} (h:old<bX):Builtin.nextslicecap bX old<=2*bX+768:=by
 unfold Builtin.nextslicecap;have grow:∀r c,c<=2*bX+768->Builtin.growBy bX r c<=2*bX+768:=by
  intro r
  induction r with
  | zero=>intro c ε;exact ε
  | succ r ω=>
   intro c ε;unfold Builtin.growBy;split
   ·exact ε
   ·exact ω _ γ
 split
 ·omega
 ·split
  ·omega
  ·exact grow 4 old γ
def hR.isInt (i:hR):Bool:=i.bE matches .int _
def lC (T:a9) (st xt:TypeId):Option (TypeId×Nat×hR):=match hS T st,T xt with
 | some (e,k,none),some bY=>match T e with
  | some bU=>if 0<k/\bU.zero.cells.size=k/\0<bU.bytes/\bU.bytes<=4096/\bY.isInt=false then some (e,k,bU) else none
  | none=>none
 | _,_=>none
theorem Gk (Η:bT P T) {st xt rt e:TypeId} {k:Nat} {bU:hR} (h:lC T st xt=some (e,k,bU)) {base zh:Option Addr} {sLen pE n Cs:Nat} {wo wn:Nat->Value} (Α:Reads H base (sLen*k) wo) (Ε:Reads H zh (n*k) wn) (LO:sLen+n<=4294967296) {K:Value->π->Prop} {E:Value->π->Prop}
  (a4:sLen+n<=pE->ξ P (match base with|some a=>storeCells (a.add (sLen*k)) ((List.range (n*k)).map wn)|none=>pure ()) H (λ_ H'=>K (.slice base (sLen+n) pE) H') E)
  (tc:pE<sLen+n->∀j3,sLen+n<=j3->ξ P (newObj (.cells (((List.range (sLen*k)).map wo).toArray++((List.range (n*k)).map wn).toArray++Builtin.zeroCells bU.zero.cells (j3-(sLen+n))) e)) H (λr H'=>K (.slice (some ⟨r,0,none⟩) (sLen+n) j3) H') E) :
  ξ P (Builtin.append_ #[st,xt] rt #[.slice base sLen pE,.slice zh n Cs]) H K E:=by
 unfold lC at h;split at h<;>try cases h
 rename_i aH af bY he oH;split at h<;>try cases h
 rename_i Gi ec;split at h<;>try cases h
 rename_i ε;obtain⟨I,R,ν,Ι,aB⟩:=ε;obtain⟨i,Gi,hi,hu,tm,cC⟩:=Cd he;rw[ec] at tm;cases tm;unfold Builtin.append_;simp only[List.getElem?_toArray,List.getElem?_cons_zero,List.getElem?_cons_succ];refine ξ.bind' (Η.bE hi ?_);rw[hu];refine ξ.bind' (Η.size ec ?_);rw[cC];refine ξ.bind' (ξ.bind' (Η.bE oH ?_));split
 ·rename_i ψ;unfold hR.isInt at aB;rw[ψ] at aB;cases aB
 refine ξ.bind' (ξ.pure' ?_);simp only[Bool.false_eq_true,if_false,Bool.not_false,if_true];refine ξ.bind' (ξ.pure' ?_);split
 ·rename_i hle;refine ξ.bind' (Gj Ε ?_);have:=a4 hle;cases base with
  | none=>exact this
  | some a=>exact ξ.bind' this
 ·rename_i LU;have LV:pE<sLen+n:=γ;refine ξ.bind' (Η.info ec λf Υ=>?_);have dQ:¬(((sLen+n:Nat):Int) > IntKind.i64.max/\(False\/f.bytes=0)):=by rw[Υ];rintro⟨_,h|h⟩;exact h;omega
  simp only[dQ,if_false];refine ξ.bind' (Η.info ec λf2 Ti=>?_);have c1:¬(Builtin.nextslicecap (sLen+n) pE*f2.bytes > 2 ^ 48):=by
   rw[Ti];have a1:=Tg LV;have a2:Builtin.nextslicecap (sLen+n) pE*bU.bytes<=(2*(sLen+n)+768)*4096:=Nat.mul_le_mul a1 Ι;omega
  simp only[c1,if_false];refine ξ.bind' ?_;show ξ P (choose _) H _ E;unfold choose;simp only[ξ];have Χ:(Question.appendCap (sLen+n) pE e).forced=false:=rfl;rw[Χ];simp only[Bool.false_eq_true,if_false];intro q;refine ξ.bind' (Η.info ec λf3 fγ=>?_);have fin:ξ P (do
    let old <-Builtin.firstCells k sLen (.slice base sLen pE)
    let new <-Builtin.firstCells k n (.slice zh n Cs)
    let rest <-(do pure (Builtin.zeroCells (<-zeroValue e).cells ((Question.appendCap (sLen+n) pE e).cut q-(sLen+n))):Sem (Array Value))
    pure (.slice (some (<-newRow e (old++new++rest))) (sLen+n) ((Question.appendCap (sLen+n) pE e).cut q))) H K E:=by
   refine ξ.bind' (Gj Α ?_);refine ξ.bind' (Gj Ε ?_);refine ξ.bind' (ξ.bind' (Η.zero ec (ξ.pure' ?_)));refine ξ.bind' (ξ.bind' ?_);exact tc LV _ (by simp[Question.cut])
  refine ξ.bind' ?_;unfold askRoom;split
  ·refine⟨rfl,?_⟩;show ξ P _ H K E;simpa using fin
  ·refine ξ.pure' ?_;show ξ P _ H K E;simpa using fin
end
section
variable {P:Program} {T:a9} {S:aD} {B:aP} {H:π} {σ:List Row}
def pF (σ:List Row):θ->Option (Nat×List θ)
 | .sl _ k l=>some (k,l)
 | .ms id n i len=>match σ[id]? with
  | some (.cells _ k l)=>if l.length=n/\i+len<=n then some (k,(l.drop i).take len) else none
  | _=>none
 | _=>none
def w5 (S:aD) (B:aP) (σ:List Row) (w:Nat->Value) (k:Nat) (l:List θ):Prop:=∀(i:Nat) (e:θ),l[i]?=some e->e.cells.length=k/\∀(j:Nat) (a:θ),e.cells[j]?=some a->au S B σ a (w (i*k+j))
theorem Tj {k i j:Nat} (δ:j<k):(i*k+j) / k=i/\(i*k+j) % k=j:=by
 have ψ:0<k:=γ;refine⟨?_,?_⟩
 ·rw[Nat.add_comm,Nat.add_mul_div_right _ _ ψ,Nat.div_eq_of_lt δ,Nat.zero_add]
 ·rw[Nat.add_comm,Nat.add_mul_mod_self_right];exact Nat.mod_eq_of_lt δ
theorem Ct (χ:Holds S B σ H) {a:θ} {v:Value} {k k1:Nat} {l:List θ} (κ:au S B σ a v) (h:pF σ a=some (k1,l)) (ψ:0<k) (tn:l.isEmpty=true\/k1=k) :
  ∃base cap w,v=.slice base l.length cap/\l.length<=cap/\Reads H base (l.length*k) w/\w5 S B σ w k l:=by
 have flat:∀(b o:Nat) (w2:Nat->Nat->Value),(∀(i:Nat) (e:θ),l[i]?=some e->e.cells.length=k)->(∀(i:Nat) (e:θ),l[i]?=some e->∀(j:Nat) (c:θ),e.cells[j]?=some c->∃p,H.aJ b (o+i*k+j)=some (w2 i j,p))->
   (∀(i:Nat) (e:θ),l[i]?=some e->∀(j:Nat) (c:θ),e.cells[j]?=some c->au S B σ c (w2 i j))->Reads H (some ⟨b,o,none⟩) (l.length*k) (λm=>w2 (m / k) (m % k))/\w5 S B σ (λm=>w2 (m / k) (m % k)) k l:=by
  intro b o w2 I R ν;refine⟨.inr ⟨b,o,rfl,λm hm=>?_⟩,λi e hi=>⟨I i e hi,λj c δ=>?_⟩⟩
  ·have hi:m / k<l.length:=(Nat.div_lt_iff_lt_mul ψ).2 hm
   have m2:l[m / k]?=some l[m / k]:=ba hi
   have δ:m % k<l[m / k].cells.length:=by rw[I _ _ m2];exact Nat.mod_lt _ ψ
   obtain⟨p,ς⟩:=R _ _ m2 (m % k) _ (ba δ);refine⟨p,?_⟩;have:o+m=o+m / k*k+m % k:=by have:=Nat.div_add_mod m k;rw[Nat.mul_comm] at this;omega
   rw[this];exact ς
  ·have oJ:j<k:=by rw[<-I i e hi];exact(bV.1 δ).1
   obtain⟨Γ,Θ⟩:=Tj (i:=i) oJ;simp only[Γ,Θ];exact ν i e hi j c δ
 have empty:∀(base:Option Addr) (cap:Nat),l=[]->v=.slice base 0 cap->∃base cap w,v=.slice base l.length cap/\l.length<=cap/\Reads H base (l.length*k) w/\w5 S B σ w k l:=λbase cap υ hv=>by
  subst υ;exact⟨base,cap,λ_=>undef,hv,Nat.zero_le _,.inl η,λi e hi=>by simp at hi⟩
 unfold pF at h;split at h
 ·cases h;obtain⟨base,cap,rfl,I,_,R⟩:=qT κ;by_cases υ:l=[]
  ·exact empty base cap υ (by rw[υ];rfl)
  ·obtain⟨b,o,w,rfl,ν,Ι,aB⟩:=R υ;have hj:k1=k:=tn.elim (λx=>absurd (List.isEmpty_iff.1 x) υ) id;subst hj;obtain⟨r1,r2⟩:=flat b o w ν (λi e hi j c δ=>χ.dc _ _ _ (Ι i e hi j c δ)) aB;exact⟨_,cap,_,rfl,I,r1,r2⟩
 ·rename_i id n i len;split at h
  ·rename_i t af dX υ;split at h
   ·rename_i ε;cases h;obtain⟨Ε,hlen⟩:=ε;have ih:((dX.drop i).take len).length=len:=by simp;omega
    cases κ with
    | ms cap I R ν Ι aB bn=>
     rw[υ] at I;cases I;rcases bn with bn|⟨b,N,rfl,rfl,bn⟩
     ·subst bn;have:len=0:=γ;subst this;exact empty _ 0 η rfl
     ·by_cases Μ:len=0
      ·subst Μ;exact empty _ cap η rfl
      ·have bC:¬((dX.drop i).take len).isEmpty=true:=λx=>by
        rw[List.isEmpty_iff] at x;rw[x] at ih;simp at ih;omega
       have hj:=tn.resolve_left bC;subst hj;obtain⟨bN,c5,fU,w,hw⟩:=χ.row id _ _ υ ν;have el:∀(x:Nat) (e:θ),((dX.drop i).take len)[x]?=some e->dX[i+x]?=some e:=λx e U=>by
        rw[List.getElem?_take] at U;split at U
        ·rw[List.getElem?_drop] at U;exact U
        ·cases U
       obtain⟨r1,r2⟩:=flat b (i*k1) (λx j=>w (i+x) j) (λx e U=>(hw _ e (el x e U)).1) (λx e U j c δ=>⟨true,by
        have:=((hw _ e (el x e U)).2 j c δ).1;rw[Nat.add_mul] at this;exact this⟩) (λx e U j c δ=>((hw _ e (el x e U)).2 j c δ).2.1)
       exact⟨_,cap,_,by rw[ih],by rw[ih];exact aB,r1,r2⟩
    | iY v I R=>rw[υ] at I;cases I;simp only[Row.g1] at R;omega
   ·cases h
  ·cases h
 ·cases h
theorem Gl {w1 w2:Nat->Value} {k:Nat} {l1 l2:List θ} (I:w5 S B σ w1 k l1) (R:w5 S B σ w2 k l2) (dG:l1.all (λe=>e.cells.all (θ.bd σ))=true) (iS:l2.all (λe=>e.cells.all (θ.bd σ))=true) (z:Array Value) :
  fK S B σ (((List.range (l1.length*k)).map w1).toArray++((List.range (l2.length*k)).map w2).toArray++z) k (l1++l2):=by
 have ok:∀(l:List θ),l.all (λe=>e.cells.all (θ.bd σ))=true->∀e∈l,∀a∈e.cells,θ.bd σ a=true:=λl h e he a κ=>List.all_eq_true.1 (List.all_eq_true.1 h e he) a κ;refine⟨by simp[Nat.add_mul],λi e hi=>?_⟩;by_cases aI:i<l1.length
 ·rw[dv aI] at hi;refine⟨(I i e hi).1,λj a δ=>?_⟩;have oJ:j<k:=by rw[<-(I i e hi).1];exact(bV.1 δ).1
  have hb:i*k+j<l1.length*k:=by
   have:(i+1)*k<=l1.length*k:=Nat.mul_le_mul_right k aI;rw[Nat.add_mul] at this;omega
  have ι:=(I i e hi).2 j a δ;refine⟨w1 (i*k+j),?_,ι,ι.zb (ok l1 dG e (cx hi) a (cx δ))⟩;rw[Array.append_assoc,Array.getElem?_append_left (by simpa using hb)];simp[hb]
 ·rw[h4 γ] at hi;refine⟨(R _ e hi).1,λj a δ=>?_⟩;have oJ:j<k:=by rw[<-(R _ e hi).1];exact(bV.1 δ).1
  have u1:i-l1.length<l2.length:=(bV.1 hi).1
  have hb:(i-l1.length)*k+j<l2.length*k:=by
   have:(i-l1.length+1)*k<=l2.length*k:=Nat.mul_le_mul_right k u1;rw[Nat.add_mul] at this;omega
  have he:i*k+j=l1.length*k+((i-l1.length)*k+j):=by
   have:i=l1.length+(i-l1.length):=γ
   conv=>lhs;rw[this,Nat.add_mul]
   omega
  have ι:=(R _ e hi).2 j a δ;refine⟨w2 ((i-l1.length)*k+j),?_,ι,ι.zb (ok l2 iS e (cx hi) a (cx δ))⟩;rw[he,Array.append_assoc,Array.getElem?_append_right η];rw[Array.getElem?_append_left (by simp;omega)];simp[hb]
def θ.lD (bd:θ->Bool) (l:List θ):Bool:=l.all λe=>e.cells.all bd
def rX (T:a9) (st xt:TypeId) (bd:θ->Bool) (σ:List Row) (s x:θ):cu:=
 match lC T st xt,s,pF σ x with
 | some (_,k,_),.sl true h9 l0,some (k1,l1)=>
  if(l0.isEmpty=true\/h9=k)/\(l1.isEmpty=true\/k1=k)/\θ.lD bd l0=true/\θ.lD bd l1=true then .bX (l0.length+l1.length<=4294967296) (.ok (.sl false k (l0++l1))) else .bad
 | _,_,_=>.bad
theorem Tk {k h9:Nat} {l0:List θ} {v:Value} (h:au S B σ (.sl true h9 l0) v) (ψ:l0.isEmpty=true\/h9=k):au S B σ (.sl false k l0) v:=by
 by_cases υ:l0=[]
 ·subst υ;obtain⟨base,cap,rfl,_⟩:=qT h;exact .ix base cap η
 ·have:=ψ.resolve_left (λx=>υ (List.isEmpty_iff.1 x));subst this;cases h with
  | ix=>exact absurd rfl υ
  | sl b o cap w I R ν Ι aB=>exact .sl b o cap w η R ν Ι aB
theorem Gm {bd:θ->Bool} (nC:∀a:θ,bd a=true->a.bd σ=true) {l:List θ} (h:θ.lD bd l=true):l.all (λe=>e.cells.all (θ.bd σ))=true:=by
 unfold θ.lD at h;rw[List.all_eq_true] at h ⊢;intro e he;have:=h e he;rw[List.all_eq_true] at this ⊢;exact λa κ=>nC a (this a κ)
theorem LW (Η:bT P T) (χ:Holds S B σ H) {bd:θ->Bool} (nC:∀a:θ,bd a=true->a.bd σ=true) (st xt rt:TypeId) {s x:θ} {u v:Value} (μ:au S B σ s u) (U:au S B σ x v) :
  cD P (Builtin.append_ #[st,xt] rt #[u,v]) S B H σ ((rX T st xt bd σ s x).dq σ):=by
 unfold rX;split
 ·rename_i e k bU h9 l0 k1 l1 oK nE;split
  ·rename_i ε;obtain⟨c1,c2,c3,c4⟩:=ε;refine cD.bX (r:=(cu.ok (.sl false k (l0++l1))).dq σ) λuW K ζ=>?_;have ψ:0<k:=by
    unfold lC at oK;split at oK<;>try cases oK
    split at oK<;>try cases oK
    split at oK<;>try cases oK
    rename_i h;exact h.1
   obtain⟨base,cap,w,rfl,_,r1,r2⟩:=Ct χ μ (k:=k) rfl ψ c1;obtain⟨zh,Cs,w1,rfl,_,r3,iO⟩:=Ct χ U nE ψ c2;have wX:cap=l0.length:=by
    obtain⟨Ψ,LA,Γ,_,Θ,_⟩:=qT μ;cases Γ;exact Θ rfl
   have fin:∀az H' v,Holds az B σ H'->Ext S B H az B H'->bQ S az B B σ σ->au az B σ (.sl false k (l0++l1)) v->iz S B H σ K v H':=λaz H' v a b c d=>⟨az,B,σ,_,ζ,b,a,c,d⟩;refine Gk Η oK r1 r3 uW (λa4=>?_) (λ_ j3 gx=>?_)
   ·have w6:l1=[]:=by
     cases l1 with
     | nil=>rfl
     | cons=>simp at a4;omega
    subst w6;have LX:au S B σ (.sl false k (l0++[])) (.slice base (l0.length+([]:List θ).length) cap):=by
     rw[List.append_nil];exact Tk μ c1
    cases base with
    | none=>exact ξ.pure' (fin S H _ χ (.refl _ _ _) (.refl _ _ _) LX)
    | some a=>
     have Μ:((List.range (([]:List θ).length*k)).map w1)=[]:=η;rw[Μ];exact ξ.pure' (fin S H _ χ (.refl _ _ _) (.refl _ _ _) LX)
   ·refine zd χ _ e λr I R ν=>fin _ _ _ I R ν ?_;have:=Ci (cap:=j3) false ν (Gl r2 iO (Gm nC c3) (Gm nC c4) (Builtin.zeroCells bU.zero.cells (j3-(l0.length+l1.length)))) (by simpa using gx) η;rw[List.length_append] at this;exact this
  ·exact .bad
 ·exact .bad
end
section
variable {P:Program} {T:a9} {S:aD} {B:aP} {H:π} {σ:List Row}
theorem Tl {st xt e:TypeId} {k:Nat} {bU:hR} (h:lC T st xt=some (e,k,bU)):0<k/\bU.zero.cells.size=k:=by
 unfold lC at h;split at h<;>try cases h
 split at h<;>try cases h
 split at h<;>try cases h
 rename_i h;exact⟨h.1,h.2.1⟩
theorem Cu {α:Type} (l:List α) (x:α):(l++[x])[l.length]?=some x:=η
theorem Cv {B:aP} {σ:List Row} (hlen:B.length=σ.length) (bo:Option (Nat×Nat)):(B++[bo])[σ.length]?=some bo:=by rw[<-hlen];simp
def u2 (H:π) (bo:Option (Nat×Nat)) (m:Nat):Value:=match bo with|some (b,_)=>((H.aJ b m).map (·.1)).getD undef|none=>undef
theorem LY (z:Array Value) (n:Nat):(Builtin.zeroCells z n).size=n*z.size:=by simp[Builtin.zeroCells]
def Cw (T:a9) (st xt:TypeId) (σ:List Row) (s x:θ):cH:=
 match lC T st xt,pF σ x with
 | some (e,k,_),some (k1,l1)=>
  if(l1.isEmpty=true\/k1=k)/\θ.lD (θ.bd σ) l1=true then match s with
   | .sl true _ l0=>if l0.isEmpty=true then .bX (l1.length<=4294967296) (.ok (.ms σ.length l1.length 0 l1.length) (σ++[.cells e k l1])) else .bad
   | .ms id n i len=>match σ[id]? with
    | some (.cells t af l)=>if i=0/\l.length=n/\len=n/\af=k/\t=e then .bX (n+l1.length<=4294967296) (.ok (.ms id (n+l1.length) 0 (n+l1.length)) (σ.set id (.cells t k (l++l1)))) else .bad
    | _=>.bad
   | _=>.bad
  else .bad
 | _,_=>.bad
theorem Tm (Η:bT P T) (χ:Holds S B σ H) (st xt rt:TypeId) {s x:θ} {u v:Value} (μ:au S B σ s u) (U:au S B σ x v) :
  cD P (Builtin.append_ #[st,xt] rt #[u,v]) S B H σ (Cw T st xt σ s x):=by
 unfold Cw;split
 ·rename_i e k bU k1 l1 oK nE;split
  ·rename_i ε;obtain⟨c2,c4⟩:=ε;obtain⟨ψ,qV⟩:=Tl oK;obtain⟨zh,Cs,w1,rfl,_,r3,iO⟩:=Ct χ U nE ψ c2;have Gn:=Gm (σ:=σ) (λa h=>h) c4;split
   ·rename_i h9 l0;split
    ·rename_i he;have w7:l0=[]:=List.isEmpty_iff.1 he;subst w7;refine .bX λuW K ζ=>?_;obtain⟨base,cap,rfl,_,wX,_⟩:=qT μ;have Tn:cap=0:=wX rfl;subst Tn;refine Gk Η oK (sLen:=0) (wo:=λ_=>undef) (.inl η) r3 γ (λa4=>?_) (λ_ j3 gx=>?_)
     ·have w6:l1=[]:=by
       cases l1 with
       | nil=>rfl
       | cons=>simp at a4
      subst w6;obtain⟨dD,p2,p3⟩:=χ.push (H':=H) (r:=.cells e k []) (bo:=none) (λb N e=>by cases e) (λb _=>⟨λ_=>rfl,rfl,rfl⟩) (λ_=>rfl);have fin:iz S B H σ K (.slice base (([]:List θ).length+([]:List θ).length) 0) H:=⟨S,_,_,_,ζ,p2,dD,p3,.ms 0 (Cu σ _) rfl (Cv χ.len _) η (Nat.le_refl _) (.inl rfl)⟩;cases base with
      | none=>exact ξ.pure' fin
      | some a=>
       have Μ:((List.range (([]:List θ).length*k)).map w1)=[]:=η;rw[Μ];exact ξ.pure' fin
     ·have υ:fK S B σ (((List.range (0*k)).map λ_=>undef).toArray++((List.range (l1.length*k)).map w1).toArray++Builtin.zeroCells bU.zero.cells (j3-(0+l1.length))) k ([]++l1):=
       Gl (l1:=[]) (λi e hi=>by simp at hi) iO η Gn _
      rw[List.nil_append] at υ;refine zc χ υ e λr _ I R ν=>⟨_,_,_,_,ζ,R,I,ν,?_⟩;simp only[List.length_nil,Nat.zero_add];refine .ms j3 (Cu σ _) rfl (Cv χ.len _) γ (by simpa using gx) (.inr ⟨r,_,rfl,η,?_⟩);simp only[Nat.zero_add,Array.size_append,List.size_toArray,List.length_map,List.length_range,LY,qV,Nat.zero_mul];rw[<-Nat.add_mul];have:l1.length+(j3-l1.length)=j3:=by simp at gx;omega
      rw[this];exact Nat.le_refl _
    ·exact .bad
   ·rename_i id n i len;split
    ·rename_i t af l υ;split
     ·rename_i kQ;obtain⟨mY,Ε,hlen,tn,To⟩:=kQ;subst mY;subst hlen;subst tn;subst To;refine .bX λuW K ζ=>?_;cases μ with
      | @ms _ _ _ _ _ _ _ bo base cap I R ν Ι aB bn=>
       rw[υ] at I;cases I;have cr:=χ.row id _ bo υ ν;have Gp:Reads H base (len*af) (u2 H bo):=by
        rcases bn with bn|⟨b,N,rfl,rfl,bn⟩
        ·exact .inl (by rw[show len=0 from γ];simp)
        ·refine .inr ⟨b,0,η,λj δ=>⟨true,?_⟩⟩;obtain⟨w,hw⟩:=cr.2.2.1 j (by have:=cr.2.1;rw[Ε] at this;omega);rw[Nat.zero_add];simp[hw,u2]
       have same:l1=[]->iz S B H σ K (.slice base (len+l1.length) cap) H:=λcW=>by
        subst cW;have b7:id<σ.length:=(bV.1 υ).1;have tp:σ.set id (.cells t af (l++[]))=σ:=by
         rw[List.append_nil];apply List.ext_getElem?;intro j;by_cases kP:id=j
         ·subst kP;rw[List.getElem?_set_self b7,υ]
         ·rw[List.getElem?_set_ne kP]
        rw[tp] at ζ;exact⟨S,B,σ,_,ζ,.refl _ _ _,χ,.refl _ _ _,.ms cap υ Ε ν η aB bn⟩
       have b7:id<σ.length:=(bV.1 υ).1
       have oF:id<B.length:=by rw[χ.len];exact b7
       refine Gk Η oK Gp r3 uW (λa4=>?_) (λLU j3 gx=>?_)
       ·by_cases cW:l1=[]
        ·have:=same cW;subst cW;cases base with
         | none=>exact ξ.pure' this
         | some a=>
          have Μ:((List.range (([]:List θ).length*af)).map w1)=[]:=η;rw[Μ];exact ξ.pure' this
        ·have pG:0<l1.length:=List.length_pos_iff.2 cW;rcases bn with bn|⟨b,N,rfl,rfl,bn⟩
         ·omega
         ·obtain⟨bN,c5,fU,w,hw⟩:=cr;have Tp:(len+l1.length)*af<=N:=by
           have:(len+l1.length)*af<=(0+cap)*af:=Nat.mul_le_mul_right _ γ;omega
          rw[Nat.add_mul] at Tp;have Tq:(⟨b,0*af,none⟩:Addr).add (len*af)=⟨b,len*af,none⟩:=by rw[tk];simp
          have LZ:((List.range (l1.length*af)).map w1).length=l1.length*af:=η
          have hT:∀j,j<l1.length*af->((List.range (l1.length*af)).map w1)[j]?=some (w1 j):=λj δ=>by simp[δ]
          have L0:∀(i:Nat) (e:θ) (j:Nat) (a:θ),l1[i]?=some e->e.cells[j]?=some a->One (w1 (i*af+j)):=λi e j a hi δ=>
           ((iO i e hi).2 j a δ).zb (List.all_eq_true.1 (List.all_eq_true.1 Gn e (cx hi)) a (cx δ))
          have Tr:∀v∈(List.range (l1.length*af)).map w1,One v:=λv hv=>by
           obtain⟨m,hm,rfl⟩:=List.mem_map.1 hv;have dg:m<l1.length*af:=by simpa using hm
           have hi:m / af<l1.length:=(Nat.div_lt_iff_lt_mul ψ).2 dg
           have m2:=ba hi
           have δ:m % af<l1[m / af].cells.length:=by rw[(iO _ _ m2).1];exact Nat.mod_lt _ ψ
           have:=L0 _ _ _ _ m2 (ba δ)
           have Γ:m / af*af+m % af=m:=by have:=Nat.div_add_mod m af;rw[Nat.mul_comm] at this;exact this
           rw[Γ] at this;exact this
          have yW:bQ S S B (B.set id (some (b,N))) σ (σ.set id (.cells t af (l++l1)))->jH S (B.set id (some (b,N))) (σ.set id (.cells t af (l++l1))) (H.hn b (len*af) ((List.range (l1.length*af)).map w1)) (.cells t af (l++l1)) (some (b,N)):=λkF=>by
           refine⟨bN,by simp[Nat.add_mul,Ε];omega,λo Α=>?_,λi j=>if i<len then w i j else w1 ((i-len)*af+j),λi e hi=>?_⟩
           ·simp only[π.hn];split
            ·exact⟨_,rfl⟩
            ·exact fU o Α
           ·by_cases aI:i<l.length
            ·rw[dv aI] at hi;refine⟨(hw i e hi).1,λj a δ=>?_⟩;obtain⟨Ξ,ah,aR⟩:=(hw i e hi).2 j a δ;have oJ:j<af:=by rw[<-(hw i e hi).1];exact(bV.1 δ).1
             have hb:i*af+j<len*af:=by
              have:(i+1)*af<=len*af:=Nat.mul_le_mul_right af γ;rw[Nat.add_mul] at this;omega
             simp only[show i<len by omega,if_true];refine⟨?_,ah.later kF,aR⟩;simp only[π.hn];rw[if_neg γ];exact Ξ
            ·rw[h4 γ,Ε] at hi;refine⟨(iO _ e hi).1,λj a δ=>?_⟩;have oJ:j<af:=by rw[<-(iO _ e hi).1];exact(bV.1 δ).1
             have u1:i-len<l1.length:=(bV.1 hi).1
             have hb:(i-len)*af+j<l1.length*af:=by
              have:(i-len+1)*af<=l1.length*af:=Nat.mul_le_mul_right af u1;rw[Nat.add_mul] at this;omega
             have he:i*af+j=len*af+((i-len)*af+j):=by
              have:i=len+(i-len):=γ
              conv=>lhs;rw[this,Nat.add_mul]
              omega
             simp only[show ¬i<len by omega,if_false];refine⟨?_,((iO _ e hi).2 j a δ).later kF,L0 _ e j a hi δ⟩;simp only[π.hn,LZ];rw[if_pos ⟨trivial,γ,γ⟩];have:i*af+j-len*af=(i-len)*af+j:=γ;rw[this,hT _ hb];rfl
          obtain⟨dD,p2,p3⟩:=χ.wR (H':=H.hn b (len*af) ((List.range (l1.length*af)).map w1)) (r':=.cells t af (l++l1)) (bo':=some (b,N)) υ trivial ν (.inr λm hm=>by simp only[Row.g1,List.length_append];omega) (λΨ e2 aH=>.inl ⟨e2,aH⟩)
           (λΨ I _=>by
            have bC:Ψ≠b:=λaH=>by subst aH;exact I N rfl
            exact⟨λo=>by simp[π.hn,bC],rfl,rfl⟩) π.F5 (Cf χ υ) yW
          show ξ P (storeCells ((⟨b,0*af,none⟩:Addr).add (len*af)) _) H _ _;rw[Tq];refine ξ.storeCells (G:=H) rfl ⟨t,N,bN⟩ _ 0 H Tr (λj _ δ=>?_) rfl ?_
          ·rw[LZ] at δ;obtain⟨u,hu⟩:=fU (len*af+j) γ;exact⟨u,hu⟩
          ·refine⟨S,_,_,_,ζ,p2,dD,p3,.ms cap (by rw[List.getElem?_set_self b7]) (by simp[Ε]) (by rw[List.getElem?_set_self oF]) γ a4 (.inr ⟨b,N,rfl,rfl,bn⟩)⟩
       ·have cW:l1≠[]:=by rintro rfl;simp at LU;omega
        have pG:0<l1.length:=List.length_pos_iff.2 cW
        have Gq:w5 S B σ (u2 H bo) af l:=λi e hi=>by
         cases bo with
         | none=>have:l=[]:=cr
                 rw[this] at hi;simp at hi
         | some x=>
          obtain⟨b,N⟩:=x;obtain⟨_,_,_,w,hw⟩:=cr;refine⟨(hw i e hi).1,λj a δ=>?_⟩;obtain⟨Ξ,ah,_⟩:=(hw i e hi).2 j a δ;simp only[u2,Ξ];exact ah
        have zi:fK S B σ (((List.range (len*af)).map (u2 H bo)).toArray++((List.range (l1.length*af)).map w1).toArray++Builtin.zeroCells bU.zero.cells (j3-(len+l1.length))) af (l++l1):=by
         refine⟨by simp[Nat.add_mul,Ε],λi e hi=>?_⟩;by_cases aI:i<l.length
         ·rw[dv aI] at hi;refine⟨(Gq i e hi).1,λj a δ=>?_⟩;have oJ:j<af:=by rw[<-(Gq i e hi).1];exact(bV.1 δ).1
          have hb:i*af+j<len*af:=by
           have:(i+1)*af<=len*af:=Nat.mul_le_mul_right af γ;rw[Nat.add_mul] at this;omega
          refine⟨_,?_,(Gq i e hi).2 j a δ,?_⟩
          ·rw[Array.append_assoc,Array.getElem?_append_left (by simpa using hb)];simp[hb]
          ·cases bo with
           | none=>have:l=[]:=cr
                   rw[this] at aI;simp at aI
           | some x=>
            obtain⟨b,N⟩:=x;obtain⟨_,_,_,w,hw⟩:=cr;obtain⟨Ξ,ah,aR⟩:=(hw i e hi).2 j a δ;simp only[u2,Ξ];exact aR
         ·rw[h4 γ,Ε] at hi;have:=Gl (l1:=[]) (w1:=λ_=>undef) (k:=af) (λi e hi=>by simp at hi) iO η Gn (Builtin.zeroCells bU.zero.cells (j3-(len+l1.length)));obtain⟨dh,c6⟩:=this.2 (i-len) e (by simpa using hi);refine⟨dh,λj a δ=>?_⟩;obtain⟨x,gj,qX,qY⟩:=c6 j a δ;have oJ:j<af:=by rw[<-dh];exact(bV.1 δ).1
          have he:i*af+j=len*af+((i-len)*af+j):=by
           have:i=len+(i-len):=γ
           conv=>lhs;rw[this,Nat.add_mul]
           omega
          refine⟨x,?_,qX,qY⟩;rw[he,Array.append_assoc,Array.getElem?_append_right η];simpa using gj
        refine⟨rfl,λr ι=>?_⟩;generalize Ts:(((List.range (len*af)).map (u2 H bo)).toArray++((List.range (l1.length*af)).map w1).toArray++Builtin.zeroCells bU.zero.cells (j3-(len+l1.length)))=c at zi;have Tt:j3*af<=c.size:=by
         rw[<-Ts];simp only[Array.size_append,List.size_toArray,List.length_map,List.length_range,LY,qV];rw[<-Nat.add_mul,<-Nat.add_mul];have:len+l1.length+(j3-(len+l1.length))=j3:=γ;rw[this];exact Nat.le_refl _
        obtain⟨dD,p2,p3⟩:=χ.wR (H':=H.dz r c t) (r':=.cells t af (l++l1)) (bo':=some (r,c.size)) υ trivial ν (.inr λm hm=>by simp only[Row.g1,List.length_append];omega) (λΨ e2 aH=>.inr (by cases aH;exact ι))
         (λΨ _ R=>by
          have bC:Ψ≠r:=λaH=>by subst aH;exact R _ rfl
          exact⟨λo=>by simp[π.dz,bC],by simp[π.dz,bC],rfl⟩) (π.Lo ι c t) (Cf χ υ) (λkF=>by
          have bg:=zi.later kF;refine⟨by simp[π.dz],zi.1,λo Α=>⟨c[o],by simp[π.dz,Α]⟩,λi j=>(c[i*af+j]?).getD undef,λi e hi=>⟨(bg.2 i e hi).1,λj a δ=>?_⟩⟩;obtain⟨x,Γ,Θ,bO⟩:=(bg.2 i e hi).2 j a δ;simp only[Γ,Option.getD_some];exact⟨by simp[π.dz,Γ],Θ,bO⟩)
        exact⟨S,_,_,_,ζ,p2,dD,p3,.ms j3 (by rw[List.getElem?_set_self b7]) (by simp[Ε]) (by rw[List.getElem?_set_self oF]) γ γ (.inr ⟨r,c.size,rfl,η,by simpa using Tt⟩)⟩
      | iY v I R=>rw[υ] at I;cases I;simp only[Row.g1] at R;omega
     ·exact .bad
    ·exact .bad
   ·exact .bad
  ·exact .bad
 ·exact .bad
end
section
variable {P:Program} {T:a9} {S:aD} {B:aP} {H:π} {σ:List Row}
def pH (o:Option θ) (d:Int):Option Int:=match o with
 | none=>some d
 | some (.z (.int _ n))=>some n
 | _=>none
def u3 (S:aD) (B:aP) (σ:List Row):Option θ->Option Value->Prop
 | none,none=>True
 | some a,some v=>au S B σ a v
 | _,_=>False
theorem L1 {k:IntKind} {n:Int} {y:Nat} {code:BoundsCode} (h:0<=n/\n<=y) {G:π} {K:Nat->π->Prop} {E:Value->π->Prop} (ψ:K n.toNat G):ξ P (Instr.sliceBound (.int k n) y code) G K E:=by
 unfold Instr.sliceBound;refine ξ.bind' (ξ.pure' ?_);simp only[h,and_self,if_true];exact ξ.pure' ψ
theorem Cx {isSlice:Bool} {len cap:Nat} {lo hi:Option θ} {lv hv:Option Value} (hp:u3 S B σ lo lv) (oI:u3 S B σ hi hv) {a b:Int} (κ:pH lo 0=some a) (hb:pH hi len=some b) (h:0<=a/\a<=b/\b<=cap) {G:π} {K:Nat×Nat×Nat->π->Prop} {E:Value->π->Prop}
  (ψ:K (a.toNat,b.toNat,cap) G):ξ P (Instr.sliceBounds isSlice len cap lv hv none) G K E:=by
 unfold Instr.sliceBounds;refine ξ.bind' (ξ.pure' ?_);have low:∀(n:Nat),b.toNat=n->ξ P (match lv with|some v=>Instr.sliceBound v n (if(none:Option Value).isSome then .slice3C else .sliceB)|none=>pure 0) G (λl G'=>ξ P (pure (l,n,cap)) G' K E) E:=λn Ε=>by
  subst Ε;cases lo with
  | none=>
   cases lv with
   | some v=>exact hp.elim
   | none=>cases κ;exact ξ.pure' (ξ.pure' ψ)
  | some x=>
   cases lv with
   | none=>exact hp.elim
   | some v=>
    unfold pH at κ;split at κ
    ·rename_i e;cases e
    ·rename_i k n e;cases e;cases κ;cases hp;exact L1 γ (ξ.pure' ψ)
    ·cases κ
 cases hi with
 | none=>
  cases hv with
  | some v=>exact oI.elim
  | none=>
   cases hb;refine ξ.bind' (ξ.pure' ?_);have:=low len η;cases lv with
   | none=>exact ξ.bind' this
   | some v=>exact ξ.bind' this
 | some x=>
  cases hv with
  | none=>exact oI.elim
  | some v=>
   unfold pH at hb;split at hb
   ·rename_i e;cases e
   ·rename_i k n e;cases e;cases hb;cases oI;refine ξ.bind' (L1 γ ?_);have:=low _ rfl;cases lv with
    | none=>exact ξ.bind' this
    | some v=>exact ξ.bind' this
   ·cases hb
def Cy (T:a9) (ty:TypeId) (x:θ) (lo hi:Option θ):cu:=match T ty with
 | some i=>match i.bE,x with
  | .string,.z (.string s)=>match pH lo 0,pH hi s.size with
   | some a,some b=>.bX (0<=a/\a<=b/\b<=s.size) (.ok (.z (.string (s.extract a.toNat b.toNat))))
   | _,_=>.bad
  | .slice e,.sl ex k l=>match T e,pH lo 0,pH hi l.length with
   | some bU,some a,some b=>if l.isEmpty=true\/k=bU.size then .bX (0<=a/\a<=b/\b<=l.length) (.ok (.sl (ex&&hi.isNone) k ((l.take b.toNat).drop a.toNat))) else .bad
   | _,_,_=>.bad
  | .array n e,.aa cells=>match T e with
   | some bU=>if bU.size=1/\bU.agg=false/\n<=cells.length/\0<n/\lo.isNone/\hi.isNone/\(cells.take n).all (λc=>decide (c.cells.length=1)&&θ.bd [] c) then .ok (.sl true 1 (cells.take n)) else .bad
   | none=>.bad
  | _,_=>.bad
 | none=>.bad
def Cz (T:a9) (ty:TypeId) (σ:List Row) (x:θ) (lo hi:Option θ):cH:=match T ty with
 | some i=>match i.bE,x with
  | .slice e,.ms id n i len=>match T e,σ[id]?,pH lo 0,pH hi len with
   | some bU,some (.cells _ k l),some a,some b=>if k=bU.size/\l.length=n then .bX (0<=a/\a<=b/\b<=len) (.ok (.ms id n (i+a.toNat) (b.toNat-a.toNat)) σ) else .bad
   | _,_,_,_=>.bad
  | _,_=>.bad
 | none=>.bad
theorem Tu {ex:Bool} {k:Nat} {l:List θ} {base:Option Addr} {len cap:Nat} (h:au S B σ (.sl ex k l) (.slice base len cap)) {a b size:Nat} (hk:a<=b) (hb:b<=l.length) (ψ:l.isEmpty=true\/k=size) (Gr:Bool) (hex:Gr=true->ex=true/\b=l.length) :
  au S B σ (.sl Gr k ((l.take b).drop a)) (.slice (if cap=a then base else base.map (·.add (a*size))) (b-a) (cap-a)):=by
 obtain⟨S1,LA,e,I,R,ν⟩:=qT h;cases e;have hlen:((l.take b).drop a).length=b-a:=by simp;omega
 by_cases Μ:(l.take b).drop a=[]
 ·rw[Μ] at hlen ⊢;have:b-a=0:=by simpa using hlen.symm
  rw[this];refine .ix _ _ λhe=>?_;obtain⟨Γ,Θ⟩:=hex he;have:=R Γ;omega
 ·have υ:l≠[]:=by rintro rfl;simp at Μ
  obtain⟨bZ,o,w,rfl,Ι,aB,bn⟩:=ν υ;have ib:k=size:=ψ.resolve_left λx=>υ (List.isEmpty_iff.1 x);subst ib;have CA:a<b:=by
   apply Classical.byContradiction;intro Ε;apply Μ;have:b-a=0:=γ;rw[this] at hlen;exact dB.1 hlen
  rw[if_neg γ];simp only[Option.map_some,tk];have el:∀(i:Nat) (e:θ),((l.take b).drop a)[i]?=some e->l[a+i]?=some e:=λi e hi=>by
   rw[List.getElem?_drop,List.getElem?_take] at hi;split at hi
   ·exact hi
   ·cases hi
  have hle:((l.take b).drop a).length<=cap-a:=by rw[hlen];omega
  have:=au.sl (S:=S) (B:=B) (σ:=σ) (ex:=Gr) (k:=k) (l:=(l.take b).drop a) bZ (o+a*k) (cap-a) (λi j=>w (a+i) j) (λhe=>by obtain⟨Γ,Θ⟩:=hex he;have:=R Γ;omega) hle
   (λi e hi=>Ι _ e (el i e hi)) (λi e hi j c δ=>by have:=aB _ e (el i e hi) j c δ;rw[Nat.add_mul] at this;rw[Nat.add_assoc o];exact this) (λi e hi j c δ=>bn _ e (el i e hi) j c δ)
  rw[hlen] at this;exact this
theorem Tv (Η:bT P T) (χ:Holds S B σ H) (ty:TypeId) {x:θ} {v:Value} (U:au S B σ x v) {lo hi:Option θ} {lv hv:Option Value} (hp:u3 S B σ lo lv) (oI:u3 S B σ hi hv) :
  cD P (Instr.sliceAt ty v lv hv none) S B H σ ((Cy T ty x lo hi).dq σ):=by
 unfold Cy;cases bp:T ty with
 | none=>exact .bad
 | some i=>
  simp only;split
  ·rename_i s hu;cases U;split
   ·rename_i a b κ hb;refine cD.bX (r:=(cu.ok (.z (.string (s.extract a.toNat b.toNat)))).dq σ) λh K ζ=>?_;unfold Instr.sliceAt;refine ξ.bind' (Η.bE bp ?_);rw[hu];simp only;unfold Instr.slice;refine ξ.bind' (Η.bE bp ?_);rw[hu];simp only[Option.isSome_none,Bool.false_eq_true,if_false];refine ξ.bind' (Cx hp oI κ hb h ?_);exact ξ.pure' (.same χ ζ (.z _))
   ·exact .bad
  ·rename_i e ex k l hu;split
   ·rename_i bU a b ec κ hb;split
    ·rename_i ψ;refine cD.bX (r:=(cu.ok (.sl (ex&&hi.isNone) k ((l.take b.toNat).drop a.toNat))).dq σ) λh K ζ=>?_;obtain⟨base,cap,rfl,I,R,_⟩:=qT U;unfold Instr.sliceAt;refine ξ.bind' (Η.bE bp ?_);rw[hu];simp only;unfold Instr.slice;refine ξ.bind' (Η.bE bp ?_);rw[hu];simp only;refine ξ.bind' (Cx hp oI κ hb γ ?_);simp only;refine ξ.bind' (Η.size ec ?_);refine ξ.pure' (.same χ ζ (Tu U γ γ ψ _ λhe=>?_));simp only[Bool.and_eq_true] at he;refine⟨he.1,?_⟩;cases hi with
     | none=>cases hb;simp
     | some=>simp at he
    ·exact .bad
   ·exact .bad
  ·rename_i n e cells hu;split
   ·rename_i bU ec;split
    ·rename_i ε;obtain⟨c1,c2,c3,c4,jJ,mf,lE⟩:=ε;intro K ζ;cases U with
     | aa b o w I R=>
      cases lo with
      | some=>simp at jJ
      | none=>
       cases hi with
       | some=>simp at mf
       | none=>
        cases lv with
        | some=>exact hp.elim
        | none=>
         cases hv with
         | some=>exact oI.elim
         | none=>
          unfold Instr.sliceAt;refine ξ.bind' (Η.bE bp ?_);rw[hu];simp only;refine ξ.bind' (ξ.pure' ?_);refine ξ.bind' (Cx (S:=S) (B:=B) (σ:=σ) (lo:=none) (hi:=none) (lv:=none) (hv:=none) trivial trivial (a:=0) (b:=n) rfl rfl γ ?_);simp only[Int.toNat_natCast];refine ξ.bind' (Η.size ec ?_);rw[c1];refine ξ.pure' (.same χ ζ ?_);have hE:(0:Int).toNat=0:=rfl;rw[hE,if_neg γ,tk];simp only[Nat.zero_mul,Nat.add_zero,Nat.sub_zero];have hlen:(cells.take n).length=n:=by simp;omega
          rw[List.all_eq_true] at lE;have el:∀(i:Nat) (e:θ),(cells.take n)[i]?=some e->cells[i]?=some e/\e.cells=[e]:=λi e hi=>by
           have hm:=lE e (cx hi);simp only[Bool.and_eq_true] at hm;rw[List.getElem?_take] at hi;split at hi
           ·exact⟨hi,θ.Gb hm.2⟩
           ·cases hi
          have:=au.sl (S:=S) (B:=B) (σ:=σ) (ex:=true) (k:=1) (l:=cells.take n) b o n (λi _=>w i) (λ_=>hlen.symm) γ (λi e hi=>by rw[(el i e hi).2];rfl)
           (λi e hi j c δ=>by
            rw[(el i e hi).2] at δ
            match j with
            | 0=>simp at δ;subst δ;have:=I i _ (el i _ hi).1;simpa using this
            | j+1=>simp at δ) (λi e hi j c δ=>by
            rw[(el i e hi).2] at δ
            match j with
            | 0=>simp at δ;subst δ;exact R i _ (el i _ hi).1
            | j+1=>simp at δ)
          rw[hlen] at this;exact this
    ·exact .bad
   ·exact .bad
  ·exact .bad
theorem Tw (Η:bT P T) (χ:Holds S B σ H) (ty:TypeId) {x:θ} {v:Value} (U:au S B σ x v) {lo hi:Option θ} {lv hv:Option Value} (hp:u3 S B σ lo lv) (oI:u3 S B σ hi hv) :
  cD P (Instr.sliceAt ty v lv hv none) S B H σ (Cz T ty σ x lo hi):=by
 unfold Cz;cases bp:T ty with
 | none=>exact .bad
 | some kM=>
  simp only;split
  ·rename_i e id n i len hu;split
   ·rename_i bU t k l a b ec υ κ hb;split
    ·rename_i ε;obtain⟨ψ,Ε⟩:=ε;refine .bX λh K ζ=>?_;cases U with
     | ms cap I R ν Ι aB bn=>
      rw[υ] at I;cases I;unfold Instr.sliceAt;refine ξ.bind' (Η.bE bp ?_);rw[hu];simp only;unfold Instr.slice;refine ξ.bind' (Η.bE bp ?_);rw[hu];simp only;refine ξ.bind' (Cx hp oI κ hb γ ?_);simp only;refine ξ.bind' (Η.size ec ?_);refine ξ.pure' (.same χ ζ (.ms (cap-a.toNat) υ Ε ν γ γ ?_));by_cases ε:cap=a.toNat
      ·exact .inl γ
      ·rcases bn with bn|⟨bZ,N,rfl,rfl,bn⟩
       ·exact .inl γ
       ·refine .inr ⟨bZ,N,rfl,?_,?_⟩
        ·rw[if_neg ε];simp only[Option.map_some,tk,ψ,Nat.add_mul]
        ·have:i+a.toNat+(cap-a.toNat)=i+cap:=by omega
         rw[this];exact bn
     | iY v I R=>rw[υ] at I;cases I;simp only[Row.g1] at R;omega
    ·exact .bad
   ·exact .bad
  ·exact .bad
def CB (T:a9) (ty:TypeId) (x:θ):cu:=match T ty with
 | some i=>match i.bE,x with
  | .string,.z (.string s)=>.ok (.z (.int .i64 s.size))
  | .slice _,.sl _ _ l=>.ok (.z (.int .i64 l.length))
  | .array n _,_=>.ok (.z (.int .i64 n))
  | _,_=>.bad
 | none=>.bad
def CC (T:a9) (ty:TypeId) (σ:List Row) (x:θ):cH:=match T ty with
 | some i=>match i.bE,x with
  | .slice _,.ms id n _ len=>match σ[id]? with
   | some (.cells _ _ l)=>if l.length=n then .ok (.z (.int .i64 len)) σ else .bad
   | _=>.bad
  | _,_=>.bad
 | none=>.bad
theorem Tx (Η:bT P T) (χ:Holds S B σ H) (ty rt:TypeId) {x:θ} {v:Value} (U:au S B σ x v):cD P (Builtin.len_ #[ty] rt #[v]) S B H σ ((CB T ty x).dq σ):=by
 unfold CB;cases hi:T ty with
 | none=>exact .bad
 | some i=>
  simp only;have go:∀(K:θ->List Row->Prop) (n:Int),K (.z (.int .i64 n)) σ->ξ P (pure (goInt n):Sem Value) H (iz S B H σ K) (λ_ _=>False):=λK n ζ=>ξ.pure' (.same χ ζ (.z _));split
  ·rename_i s hu;cases U;intro K ζ;unfold Builtin.len_;refine ξ.bind' (Η.bE hi ?_);rw[hu];exact go K _ ζ
  ·rename_i e ex k l hu;obtain⟨base,cap,rfl,_⟩:=qT U;intro K ζ;unfold Builtin.len_;refine ξ.bind' (Η.bE hi ?_);rw[hu];exact go K _ ζ
  ·rename_i n e hu;intro K ζ;unfold Builtin.len_;refine ξ.bind' (Η.bE hi ?_);rw[hu];cases v<;>exact go K _ ζ
  ·exact .bad
theorem Ty (Η:bT P T) (χ:Holds S B σ H) (ty rt:TypeId) {x:θ} {v:Value} (U:au S B σ x v):cD P (Builtin.len_ #[ty] rt #[v]) S B H σ (CC T ty σ x):=by
 unfold CC;cases hi:T ty with
 | none=>exact .bad
 | some i=>
  simp only;split
  ·rename_i e id n j len hu;split
   ·rename_i t k l υ;split
    ·rename_i Ε;intro K ζ;cases U with
     | ms cap I R ν Ι aB bn=>
      unfold Builtin.len_;refine ξ.bind' (Η.bE hi ?_);rw[hu];exact ξ.pure' (.same χ ζ (.z _))
     | iY v I R=>rw[υ] at I;cases I;simp only[Row.g1] at R;omega
    ·exact .bad
   ·exact .bad
  ·exact .bad
def w8 (T:a9) (src dst:TypeId) (x:θ):cu:=match T src,T dst with
 | some _,some j=>match j.bE,x with
  | .int k,.z (.int _ n)=>.ok (.z (.int k (k.wrap n)))
  | _,_=>.bad
 | _,_=>.bad
theorem Tz (Η:bT P T) (χ:Holds S B σ H) (src dst:TypeId) {x:θ} {v:Value} (U:au S B σ x v):cD P (convert src dst v) S B H σ ((w8 T src dst x).dq σ):=by
 unfold w8;split
 ·rename_i i j hi δ;split
  ·rename_i k kk n hu;cases U;intro K ζ;unfold convert;refine ξ.bind' (Η.bE hi (ξ.bind' (Η.bE δ ?_)));rw[hu];exact ξ.pure' (.same χ ζ (.z _))
  ·exact .bad
 ·exact .bad
def CD (l:List θ):cu:=match l with
 | [.z (.int k x),.z (.int _ y)]=>.ok (.z (.int k (if y > x then y else x)))
 | _=>.bad
theorem TA (χ:Holds S B σ H) (ej:Array TypeId) (rt:TypeId) {a b:θ} {u v:Value} (κ:au S B σ a u) (hb:au S B σ b v):cD P (Builtin.max_ ej rt #[u,v]) S B H σ ((CD [a,b]).dq σ):=by
 unfold CD;split
 ·rename_i k x kk y e;simp at e;obtain⟨rfl,rfl⟩:=e;cases κ;cases hb;intro K ζ;exact ξ.pure' (.same χ ζ (.z _))
 ·exact .bad
end
def mg (d:TypeDesc) (x y:Value):Option Bool:=match d,x,y with
 | .int _,.int k a,.int af b=>if k=af then some (a==b) else none
 | .string,.string a,.string b=>some (a==b)
 | .bool,.bool a,.bool b=>some (a==b)
 | _,_,_=>none
def jK:List (TypeDesc×Nat)->List θ->List θ->Option Bool
 | [],_,_=>some true
 |(d,o)::r,xs,cw=>match xs[o]?,cw[o]? with
  | some (.z x),some (.z y)=>match mg d x y,jK r xs cw with
   | some b,some c=>some (b&&c)
   | _,_=>none
  | _,_=>none
def aeqv (T:a9) (ty:TypeId) (a b:θ):Option Bool:=match T ty with
 | some i=>match a,b with
  | .z x,.z y=>if iy i.bE then mg i.bE x y else none
  | .a6 xs,.a6 cw=>match i.eqs with|some items=>if xs.length=items.length/\cw.length=items.length then jK items xs cw else none|none=>none
  | _,_=>none
 | none=>none
section
variable {P:Program} {T:a9} {S:aD} {B:aP} {H:π} {σ:List Row}
theorem ξ.forIn_nil {α β:Type} {init:β} {f:α->β->Sem (ForInStep β)} {G:π} {K:β->π->Prop} {E:Value->π->Prop} (h:K init G):ξ P (forIn ([]:List α) init f) G K E:=by
 rw[List.forIn_nil];exact h
theorem ξ.forIn_cons {α β:Type} {a:α} {l:List α} {init:β} {f:α->β->Sem (ForInStep β)} {G:π} {K:β->π->Prop} {E:Value->π->Prop}
  (h:ξ P (f a init) G (λr G'=>match r with|.done b=>K b G'|.yield b=>ξ P (forIn l b f) G' K E) E):ξ P (forIn (a::l) init f) G K E:=by
 rw[List.forIn_cons];refine ξ.bind' (ξ.mono (λr G' ι=>?_) (λ_ _ h=>h) _ h);cases r with
 | done b=>exact ξ.pure' ι
 | yield b=>exact ι
theorem forIn_range {β:Type} (m:Nat) (init:β) (f:Nat->β->Sem (ForInStep β)):forIn [:m] init f=forIn (List.range m) init f:=by
 rw[Std.Legacy.Range.forIn_eq_forIn_range'];simp[Std.Legacy.Range.size,List.range_eq_range']
theorem Gs {ty:TypeId} {d:TypeDesc} (hd:P.underlying ty=some d) (μ:iy d=true) {x y:Value} {b:Bool} (h:mg d x y=some b) {n:Nat} {G:π} {K:Bool->π->Prop} {E:Value->π->Prop} (ψ:K b G):ξ P (Op.equalIn (n+1) ty x y) G K E:=by
 unfold Op.equalIn;refine ξ.bind' (ξ.underlying hd ?_);unfold mg at h;split at h
 ·split at h
  ·rename_i e;subst e;cases h;simp only[if_true];exact ξ.pure' ψ
  ·cases h
 ·cases h;exact ξ.pure' ψ
 ·cases h;exact ξ.pure' ψ
 ·cases h
def Gt (xs:List θ) (vs:Array Value):Prop:=∀(o:Nat) (v:Value),xs[o]?=some (θ.z v)->vs[o]?=some v
theorem zj {xs:List θ} {vs:Array Value} (h:au S B σ (.a6 xs) (.agg vs)):Gt xs vs:=λo v hv=>by
 cases h with
 | a6 _ Ξ ah=>
  have aI:o<vs.size:=by rw[<-Ξ];exact(bV.1 hv).1
  have U:=gF aI
  have:=ah o _ _ hv U;generalize vs[o]=u at this U;cases this;exact U
theorem zk {ty:TypeId} {d:TypeDesc} (hd:P.underlying ty=some d) (μ:iy d=true) {vs:Array Value} {o:Nat} {v:Value} (hv:vs[o]?=some v) {G:π} {K:Value->π->Prop} {E:Value->π->Prop} (ψ:K v G):ξ P (part ty vs o) G K E:=by
 unfold part;refine ξ.bind' (ξ.isAgg hd ?_);have:kO d=false:=by cases d<;>first|rfl|cases μ
 rw[this];simp only[Bool.false_eq_true,if_false,hv];exact ξ.pure' ψ
theorem TB {xs cw:List θ} {vs ws:Array Value} (U:Gt xs vs) (Φ:Gt cw ws) {ty:TypeId} {items:List (TypeDesc×Nat)} (Χ:F7 P ty (some items)) {b:Bool} (h:jK items xs cw=some b) {n:Nat} {G:π} {K:Bool->π->Prop} {E:Value->π->Prop} (ψ:K b G) :
  ξ P (Op.equalIn (n+2) ty (.agg vs) (.agg ws)) G K E:=by
 obtain⟨_,_,Χ⟩:=Χ;rcases Χ with⟨db,hu,cT,dp,rY⟩|⟨m,e,d,f,hu,he,μ,Υ,cC,dp⟩
 ·unfold Op.equalIn;refine ξ.bind' (ξ.underlying hu ?_);simp only;refine ξ.bind' ?_;show ξ P (if P.stoodInHeld ty=true then _ else _) G K E;rw[cT];simp only[Bool.false_eq_true,if_false];have key:∀(l:List Field) (c:Bool),(∀f∈l,f.name≠ "_" /\ ∃d,P.underlying f.type=some d/\iy d=true)->jK (l.map λf=>((P.underlying f.type).getD .invalid,f.offset)) xs cw=some c->
    ∀pI:Option Bool×PUnit->π->Prop,pI (if c then none else some false,⟨⟩) G->ξ P (forIn l (none,⟨⟩) λ(f:Field) (_:Option Bool×PUnit)=>if f.name≠ "_" then do
     let a <-part f.type vs f.offset
     let b <-part f.type ws f.offset
     let r <-Op.equalIn (n+1) f.type a b
     if(!r)=true then pure (ForInStep.done (some false,⟨⟩)) else pure (ForInStep.yield (none,⟨⟩))
    else pure (ForInStep.yield (none,⟨⟩))) G pI E:=by
   intro l
   induction l with
   | nil=>intro c _ ε pI R;simp[jK] at ε;subst ε;exact .forIn_nil (by simpa using R)
   | cons f l ω=>
    intro c υ ε pI R;obtain⟨u4,d,hd,μ⟩:=υ f η;simp only[List.map_cons,jK,hd,Option.getD_some] at ε;split at ε<;>try cases ε
    rename_i x y u5 w9;split at ε<;>try cases ε
    rename_i bK c1 kN m3;refine .forIn_cons ?_;rw[if_pos u4];refine ξ.bind' (zk hd μ (U _ _ u5) (ξ.bind' (zk hd μ (Φ _ _ w9) (ξ.bind' (Gs hd μ kN ?_)))));cases bK with
    | false=>exact ξ.pure' (by simpa using R)
    | true=>exact ξ.pure' (ω c1 (λg Ο=>υ g (by simp[Ο])) m3 pI (by simpa using R))
  refine ξ.bind' ?_;have CE:(forIn db (none,⟨⟩) λ(f:Field) (_:Option Bool×PUnit)=>if f.name≠ "_" then do
     let a <-part f.type vs f.offset
     let b <-part f.type ws f.offset
     let r <-Op.equalIn (n+1) f.type a b
     if(!r)=true then pure (ForInStep.done (some false,⟨⟩)) else pure (ForInStep.yield (none,⟨⟩))
    else pure (ForInStep.yield (none,⟨⟩)):Sem (Option Bool×PUnit))=forIn db.toList (none,⟨⟩) _:=(Array.forIn_toList ..).symm
  refine Eq.mpr (congrArg (λs=>ξ P s G _ E) CE) ?_;refine key db.toList b rY (by rw[<-dp];exact h) _ ?_;cases b<;>exact ξ.pure' ψ
 ·unfold Op.equalIn;refine ξ.bind' (ξ.underlying hu ?_);simp only;refine ξ.bind' (ξ.sizeOf Υ ?_);rw[cC];have key:∀(l:List Nat) (c:Bool),jK (l.map λi=>(d,i)) xs cw=some c->
    ∀pI:Option Bool×PUnit->π->Prop,pI (if c then none else some false,⟨⟩) G->ξ P (forIn l (none,⟨⟩) λ(i:Nat) (_:Option Bool×PUnit)=>do
     let a <-part e vs (i*1)
     let b <-part e ws (i*1)
     let r <-Op.equalIn (n+1) e a b
     if(!r)=true then pure (ForInStep.done (some false,⟨⟩)) else pure (ForInStep.yield (none,⟨⟩))) G pI E:=by
   intro l
   induction l with
   | nil=>intro c ε pI R;simp[jK] at ε;subst ε;exact .forIn_nil (by simpa using R)
   | cons i l ω=>
    intro c ε pI R;simp only[List.map_cons,jK] at ε;split at ε<;>try cases ε
    rename_i x y u5 w9;split at ε<;>try cases ε
    rename_i bK c1 kN m3;refine .forIn_cons ?_;refine ξ.bind' (zk he μ (by rw[Nat.mul_one];exact U _ _ u5) (ξ.bind' (zk he μ (by rw[Nat.mul_one];exact Φ _ _ w9) (ξ.bind' (Gs he μ kN ?_)))));cases bK with
    | false=>exact ξ.pure' (by simpa using R)
    | true=>exact ξ.pure' (ω c1 m3 pI (by simpa using R))
  refine ξ.bind' ?_;rw[forIn_range];refine key (List.range m) b (by rw[<-dp];exact h) _ ?_;cases b<;>exact ξ.pure' ψ
theorem Gu (Η:bT P T) {ty:TypeId} {a b:θ} {v w:Value} {r:Bool} (κ:au S B σ a v) (hb:au S B σ b w) (h:aeqv T ty a b=some r) {K:Bool->π->Prop} {E:Value->π->Prop} (ψ:K r H):ξ P (Op.equal ty v w) H K E:=by
 unfold aeqv at h;split at h
 ·rename_i i hi;obtain⟨⟨hu,Χ⟩,_⟩:=Η ty i hi;split at h
  ·split at h
   ·rename_i μ;cases κ;cases hb;exact Gs hu μ h ψ
   ·cases h
  ·split at h
   ·rename_i items dp;rw[dp] at Χ;split at h<;>try cases h
    cases κ with
    | a6 vs Ξ ah=>cases hb with
     | a6 ws k1 bG=>exact TB (zj (.a6 vs Ξ ah)) (zj (.a6 ws k1 bG)) Χ h ψ
   ·cases h
  ·cases h
 ·cases h
theorem L2 (a b:ByteArray):(a==b)=(a.data==b.data):=by
 cases a;cases b;rfl
theorem TC {a b:ByteArray} (h:(a==b)=true):a=b:=by
 rw[L2] at h;have:=eq_of_beq h;cases a;cases b;simp at this;simp[this]
theorem TD (a:ByteArray):(a==a)=true:=by rw[L2];exact beq_self_eq_true _
theorem L3 {d:TypeDesc} {x y:Value} (h:mg d x y=some true):x=y/\∀n,Instr.sameBits n x x=true:=by
 unfold mg at h;split at h
 ·split at h
  ·rename_i e;subst e;simp only[Option.some.injEq,beq_iff_eq] at h;subst h;exact⟨rfl,λn=>by cases n<;>simp[Instr.sameBits]⟩
  ·cases h
 ·simp only[Option.some.injEq] at h;have:=TC h;subst this;exact⟨rfl,λn=>by cases n<;>simp[Instr.sameBits,TD]⟩
 ·simp only[Option.some.injEq,beq_iff_eq] at h;subst h;exact⟨rfl,λn=>by cases n<;>simp[Instr.sameBits]⟩
 ·cases h
theorem TE {xs cw:List θ}:∀(items:List (TypeDesc×Nat)),jK items xs cw=some true->∀o,o∈items.map (·.2)->∃x,xs[o]?=some (.z x)/\cw[o]?=some (.z x)/\∀n,Instr.sameBits n x x=true:=by
 intro items
 induction items with
 | nil=>intro _ o Α;simp at Α
 | cons a items ω=>
  obtain⟨d,p⟩:=a;intro h o Α;simp only[jK] at h;split at h<;>try cases h
  rename_i x y u5 w9;split at h<;>try cases h
  rename_i b c hb ε;simp only[Option.some.injEq,Bool.and_eq_true] at h;obtain⟨rfl,rfl⟩:=h;simp only[List.map_cons,List.mem_cons] at Α;rcases Α with rfl|Α
  ·obtain⟨Γ,Θ⟩:=L3 hb;subst Γ;exact⟨x,u5,w9,Θ⟩
  ·exact ω ε o Α
theorem TF (Η:bT P T) {ty:TypeId} {a b:θ} {v w:Value} (κ:au S B σ a v) (hb:au S B σ b w) (h:aeqv T ty a b=some true):v=w/\a=b/\∀n,Instr.sameBits (n+1) v v=true:=by
 unfold aeqv at h;split at h
 ·rename_i i hi;obtain⟨⟨hu,Χ⟩,_⟩:=Η ty i hi;split at h
  ·split at h
   ·obtain⟨Γ,Θ⟩:=L3 h;subst Γ;cases κ;cases hb;exact⟨rfl,rfl,λn=>Θ _⟩
   ·cases h
  ·rename_i xs cw;split at h
   ·rename_i items dp;rw[dp] at Χ;split at h<;>try cases h
    rename_i hlen;obtain⟨I,R⟩:=hlen;have xa:=Χ.2.1;have get:∀o,o<items.length->∃x,xs[o]?=some (.z x)/\cw[o]?=some (.z x)/\∀n,Instr.sameBits n x x=true:=λo Α=>TE items h o (by rw[xa];simpa using Α);have pJ:xs=cw:=by
     apply List.ext_getElem?;intro o;by_cases Α:o<items.length
     ·obtain⟨x,Ξ,ah,_⟩:=get o Α;rw[Ξ,ah]
     ·rw[List.getElem?_eq_none γ,List.getElem?_eq_none γ]
    cases κ with
    | a6 vs Ξ ah=>cases hb with
     | a6 ws k1 bG=>
      have L4:∀o,o<items.length->∃x,vs[o]?=some x/\ws[o]?=some x/\∀n,Instr.sameBits n x x=true:=λo Α=>by
       obtain⟨x,c1,c2,c3⟩:=get o Α;exact⟨x,zj (.a6 vs Ξ ah) o x c1,zj (.a6 ws k1 bG) o x c2,c3⟩
      have pK:vs=ws:=by
       apply Array.ext_getElem?;intro o;by_cases Α:o<items.length
       ·obtain⟨x,c1,c2,_⟩:=L4 o Α;rw[c1,c2]
       ·rw[Array.getElem?_eq_none γ,Array.getElem?_eq_none γ]
      subst pK;refine⟨rfl,by rw[pJ],λn=>?_⟩;simp only[Instr.sameBits,beq_self_eq_true,Bool.true_and,List.all_eq_true];intro p ς;obtain⟨o,Α⟩:=List.getElem?_of_mem ς;rw[List.getElem?_zip_eq_some] at Α;have L5:o<items.length:=by
       have:=(bV.1 Α.1).1;simp at this;omega
      obtain⟨x,c1,_,c3⟩:=L4 o L5;rw[Array.getElem?_toList,c1] at Α;obtain⟨Γ,Θ⟩:=Α;cases Γ;rw[<-Option.some.inj Θ];exact c3 n
   ·cases h
  ·cases h
 ·cases h
end
end Go.TL
