import Derived.IntWalk
import Derived.Laws.Sem
import Derived.Test.YtlabjopijpkiaaaGreatUAG
set_option maxHeartbeats 16000000
set_option maxRecDepth 20000
set_option linter.unusedSectionVars false
set_option linter.unusedSimpArgs false
set_option linter.unusedVariables false
namespace Go.TL
open Go.Conc
section
variable {P:Program} {T:bf} {S:aH} {B:aU} {H:χ} {σ:List Row}
def De (σ:List Row) (a:η):da:=if a.cells.all (η.a9 σ)=true then .ok (.ab a.cells) σ else .bad
def xM (a:η):cF:=if a.cells.all (η.a9 [])=true then .ok (.ab a.cells) else .bad
def xN (t:TypeId) (σ:List Row) (a:η):da:=if a.cells.all (η.a9 σ)=true then .ok (.an σ.length 1 0 0) (σ++[.cells t a.cells.length [a]]) else .bad
theorem HC (ω:Holds S B σ H) (ty:TypeId) {a:η} {v:Value} (μ:av S B σ a v) (dK:a.cells.all (η.a9 σ)=true):cM P (do pure (.pointer (some (<-newVar ty v)))) S B H σ (.ok (.ab a.cells) σ):=by
 intro K ζ;refine π.bind' ?_;unfold newVar newRow;refine π.bind' (zW ω v.cells ty λr I U ξ=>π.pure' (π.pure' ⟨_,_,_,_,ζ,U,I,ξ,?_⟩));exact Nl ξ (fU.one μ dK)
theorem VD (ω:Holds S B σ H) (ty:TypeId) {a:η} {v:Value} (μ:av S B σ a v):cM P (Instr.box ty v) S B H σ (De σ a):=by
 unfold De;split
 ·rename_i dK;exact HC ω ty μ dK
 ·exact .bad
theorem VE (ω:Holds S B σ H) (ty:TypeId) {a:η} {v:Value} (μ:av S B σ a v):cM P (Instr.box ty v) S B H σ ((xM a).dv σ):=by
 unfold xM;split
 ·rename_i dK;exact HC ω ty μ (xK dK)
 ·exact .bad
theorem Nm (ω:Holds S B σ H) (ty:TypeId) {a:η} {v:Value} (μ:av S B σ a v):cM P (do pure (.pointer (some (<-newVar ty v)))) S B H σ (xN ty σ a):=by
 unfold xN;split
 ·rename_i dK;intro K ζ;refine π.bind' ?_;unfold newVar newRow;refine π.bind' (zV ω (fU.one μ dK) ty λr _ I U ξ=>π.pure' (π.pure' ⟨_,_,_,_,ζ,U,I,ξ,?_⟩));have:=av.an (S:=S) (B:=B++[some (r,v.cells.size)]) (σ:=σ++[.cells ty a.cells.length [a]]) (id:=σ.length) (n:=1) (i:=0) (j:=0) (k:=a.cells.length) (t:=ty) (l:=[a]) (b:=r) (N:=v.cells.size) θ rfl (by rw[<-ω.len];simp);simpa using this
 ·exact .bad
theorem VF (ω:Holds S B σ H) (ty:TypeId) {a:η} {v:Value} (μ:av S B σ a v):cM P (Instr.box ty v) S B H σ (xN ty σ a):=Nm ω ty μ
def Df (T:bf) (ty:TypeId) (σ:List Row):da:=match T ty with|some i=>xN ty σ (hA i.zero)|none=>.bad
def Dg (T:bf) (ty:TypeId):cF:=match T ty with|some i=>xM (hA i.zero)|none=>.bad
theorem VG (Ι:bV P T) (ω:Holds S B σ H) (ty:TypeId):cM P (Instr.alloc ty true (.tuple #[])) S B H σ (Df T ty σ):=by
 unfold Df;cases hi:T ty with
 | none=>exact .bad
 | some i=>
  intro K ζ;unfold Instr.alloc;exact π.bind' (Ι.zero hi (Nm ω ty (p6 i.zero) K ζ))
theorem VH (Ι:bV P T) (ω:Holds S B σ H) (ty:TypeId):cM P (Instr.alloc ty true (.tuple #[])) S B H σ ((Dg T ty).dv σ):=by
 unfold Dg;cases hi:T ty with
 | none=>exact .bad
 | some i=>
  simp only[xM];split
  ·rename_i dK;intro K ζ;unfold Instr.alloc;exact π.bind' (Ι.zero hi (HC ω ty (p6 i.zero) (xK dK) K ζ))
  ·exact .bad
def rl (pl:Nat->Option (Nat×Nat×Nat)) (k:Nat) (a9:η->Bool) (l:List η):List (Nat×η)->Option (List η)
 | []=>some l
 |(x,a)::r=>match pl x with
  | some (i,j,n)=>match l[i]? with
   | some e=>if a.cells.length=n/\j+n<=k/\a.cells.all a9=true then rl pl k a9 (l.set i (e.sH j a.cells)) r else none
   | none=>none
  | none=>none
theorem HD {k:Nat} {a9:η->Bool} (n7:∀a:η,a9 a=true->a.a9 σ=true) {pl:Nat->Option (Nat×Nat×Nat)} {place:Nat->Option (Nat×Nat)} (gX:∀x i j n,pl x=some (i,j,n)->place x=some (i*k+j,n)) {env:aa} {t:Array Value} (cK:dj S B σ env t) :
  ∀(cT:List (Nat×Operand)) (c:Array Value) (l d':List η),fU S B σ c k l->rl pl k a9 l (cT.map λp=>(p.1,aT env p.2))=some d'->
  ∃c',Instr.fill place c (cT.map λp=>(p.1,br t p.2))=some c'/\c'.size=c.size/\fU S B σ c' k d'/\d'.length=l.length:=by
 intro cT
 induction cT with
 | nil=>intro c l d' ε h;cases h;exact⟨c,rfl,rfl,ε,rfl⟩
 | cons p cT Β=>
  obtain⟨x,o⟩:=p;intro c l d' ε h;simp only[List.map_cons,rl] at h;split at h<;>try cases h
  rename_i i j n ψ;split at h<;>try cases h
  rename_i e he;split at h<;>try cases h
  rename_i CB;obtain⟨I,U,ξ⟩:=CB;have μ:=lV cK o;have dK:(aT env o).cells.all (η.a9 σ)=true:=by
   rw[List.all_eq_true] at ξ ⊢;exact λa μ=>n7 a (ξ a μ)
  obtain⟨cv,_⟩:=μ.cells dK;obtain⟨k1,cJ⟩:=ε.put he μ dK (by omega:j+(aT env o).cells.length<=k);obtain⟨c',Δ,Γ,a0,cG⟩:=Β _ _ _ cJ h;refine⟨c',?_,by rw[Γ,k1],a0,by rw[cG];simp⟩;have iM:i<l.length:=(cf.1 he).1;have hle:i*k+j+(br t o).cells.size<=c.size:=by
   have a1:(i+1)*k<=l.length*k:=Nat.mul_le_mul_right k iM
   have bk:=ε.1;rw[Nat.add_mul] at a1;omega
  simp only[List.map_cons,Instr.fill,gX x i j n ψ];have c1:((br t o).cells.size≠n)=False:=by simp;omega
  have c2:(i*k+j+(br t o).cells.size > c.size)=False:=by simp;omega
  simp only[bne_iff_ne,ne_eq,Bool.or_eq_true,decide_eq_true_eq,c1,c2];simp only[ne_eq] at c1;simp only[c1,or_self,if_false];exact Δ
def Nn (T:bf) (dc:Array Field):Option (List (Nat×Nat)):=dc.toList.mapM λf=>(T f.type).map λi=>(f.offset,i.size)
theorem VI (Ι:bV P T) {K:Array (Nat×Nat)->χ->Prop} {E:Value->χ->Prop} {dc:Array Field} {l:List (Nat×Nat)} (h:Nn T dc=some l) (ς:K l.toArray H) :
  π P (dc.mapM λf=>(do pure (f.offset,<-sizeOf f.type):Sem (Nat×Nat))) H K E:=by
 have key:∀(gs:List Field) (l:List (Nat×Nat)) (K:List (Nat×Nat)->χ->Prop),(gs.mapM λf=>(T f.type).map λi=>(f.offset,i.size))=some l->K l H->π P (gs.mapM λf=>(do pure (f.offset,<-sizeOf f.type):Sem (Nat×Nat))) H K E:=by
  intro gs
  induction gs with
  | nil=>intro l K h ς;simp at h;subst h;exact π.pure' ς
  | cons f gs Β=>
   intro l K h ς;rw[List.mapM_cons] at h ⊢;cases Χ:T f.type with
   | none=>rw[Χ] at h;cases h
   | some i=>
    rw[Χ] at h;simp only[Option.map_some,Option.bind_eq_bind,Option.bind_some] at h;cases Ρ:(gs.mapM λf=>(T f.type).map λi=>(f.offset,i.size)) with
    | none=>rw[Ρ] at h;cases h
    | some l2=>
     rw[Ρ] at h;cases h;refine π.bind' (π.bind' (Ι.size Χ (π.pure' ?_)));refine π.bind' (Β l2 _ Ρ ?_);exact π.pure' ς
 rw[Array.mapM_eq_mapM_toList];exact π.bind (dc.toList.mapM _) (key dc.toList l _ h (π.pure' ς))
def mL (T:bf) (a9:η->Bool) (ty:TypeId) (parts:List (Nat×η)):cF:=match T ty with
 | some i=>
  let z:=hA i.zero
  if z.cells.length=i.zero.cells.size/\z.cells.all (η.a9 [])=true then match i.bG with
   | .struct dc=>match Nn T dc with
    | some pl=>match rl (λx=>(pl[x]?).map λp=>(0,p.1,p.2)) z.cells.length a9 [z] parts with
     | some [e]=>.ok (.aV e.cells)
     | _=>.bad
    | none=>.bad
   | .array _ el=>match T el with
    | some b4=>match rl (λx=>some (0,x*b4.size,b4.size)) z.cells.length a9 [z] parts with
     | some [e]=>.ok (.aV e.cells)
     | _=>.bad
    | none=>.bad
   | _=>.bad
  else .bad
 | none=>.bad
theorem Np {c:Array Value} {k:Nat} {e:η} (h:fU S B σ c k [e]) (ς:c.size=k):av S B σ (.aV e.cells) (.agg c):=by
 obtain⟨I,U⟩:=h.2 0 e rfl;refine .aV c (by rw[I,ς]) λj a v δ hv=>?_;obtain⟨x,Δ,Γ,_⟩:=U j a δ;rw[Nat.zero_mul,Nat.zero_add,hv] at Δ;cases Δ;exact Γ
theorem Nq (Ι:bV P T) (ω:Holds S B σ H) {a9:η->Bool} (n7:∀a:η,a9 a=true->a.a9 σ=true) (ty:TypeId) {env:aa} {t:Array Value} (cK:dj S B σ env t) (parts:Array (Nat×Operand)) :
  cM P (Instr.build ty (parts.map λ(i,x)=>(i,br t x))) S B H σ ((mL T a9 ty (parts.toList.map λp=>(p.1,aT env p.2))).dv σ):=by
 unfold mL;cases hi:T ty with
 | none=>exact .bad
 | some i=>
  simp only;split
  ·rename_i Θ;obtain⟨p8,ua⟩:=Θ;have Dh:fU S B σ i.zero.cells (hA i.zero).cells.length [hA i.zero]:=fU.one (p6 i.zero) (xK ua);have Di:(parts.map λ(i,x)=>(i,br t x)).toList=parts.toList.map λp=>(p.1,br t p.2):=θ;split
   ·rename_i dc hu;split
    ·rename_i pl gX;split
     ·rename_i e he;intro K ζ;unfold Instr.build;refine π.bind' (Ι.zero hi (π.bind' (Ι.bG hi ?_)));rw[hu];refine π.bind' (VI Ι gX ?_);obtain⟨c',Δ,Γ,a0,_⟩:=HD (place:=(pl.toArray[·]?)) n7 (λx i j n h=>by
       cases γ:pl[x]? with
       | none=>rw[γ] at h;cases h
       | some p=>rw[γ] at h;cases h;simp[γ]) cK parts.toList _ _ _ Dh he
      rw[Di,Δ];exact π.pure' (.same ω ζ (Np a0 (by rw[Γ,p8])))
     ·exact .bad
    ·exact .bad
   ·rename_i m el hu;split
    ·rename_i b4 dT;split
     ·rename_i e he;intro K ζ;unfold Instr.build;refine π.bind' (Ι.zero hi (π.bind' (Ι.bG hi ?_)));rw[hu];refine π.bind' (Ι.size dT ?_);obtain⟨c',Δ,Γ,a0,_⟩:=HD (place:=λi=>some (i*b4.size,b4.size)) n7 (λx i j n h=>by
       simp at h;obtain⟨rfl,rfl,rfl⟩:=h;simp) cK parts.toList _ _ _ Dh he
      rw[Di,Δ];exact π.pure' (.same ω ζ (Np a0 (by rw[Γ,p8])))
     ·exact .bad
    ·exact .bad
   ·exact .bad
  ·exact .bad
def zX (T:bf) (a9:η->Bool) (ty:TypeId) (len:Nat) (parts:List (Nat×η)):Option (TypeId×Nat×List η):=match hB T ty with
 | some (e,k,none)=>match T e with
  | some b4=>if 0<k/\len*k<=2 ^ 24/\(hA b4.zero).cells.length=k/\(hA b4.zero).cells.all (η.a9 [])=true then
    (rl (λx=>some (x,0,k)) k a9 (List.replicate len (hA b4.zero)) parts).map λl=>(e,k,l) else none
  | none=>none
 | _=>none
theorem Nr (Ι:bV P T) {a9:η->Bool} (n7:∀a:η,a9 a=true->a.a9 σ=true) {ty e:TypeId} {len k:Nat} {l:List η} {env:aa} {t:Array Value} (cK:dj S B σ env t) {parts:Array (Nat×Operand)}
  (h:zX T a9 ty len (parts.toList.map λp=>(p.1,aT env p.2))=some (e,k,l)) {K:Value->χ->Prop} {E:Value->χ->Prop}
  (ς:∀c:Array Value,fU S B σ c k l->l.length=len->π P (newObj (.cells c e)) H (λr H'=>K (.slice (some ⟨r,0,none⟩) len len) H') E) :
  π P (Instr.buildSlice ty len (parts.map λ(i,x)=>(i,br t x))) H K E:=by
 unfold zX at h;split at h<;>try cases h
 rename_i aM ae he;split at h<;>try cases h
 rename_i b4 dT;split at h<;>try cases h
 rename_i ε;obtain⟨I,U,ξ,Κ⟩:=ε;obtain⟨i,HE,hi,hu,ub,cv⟩:=C9 he;rw[dT] at ub;cases ub;cases Χ:rl (λx=>some (x,0,ae)) ae a9 (List.replicate len (hA b4.zero)) (parts.toList.map λp=>(p.1,aT env p.2)) with
 | none=>rw[Χ] at h;cases h
 | some d'=>
  rw[Χ] at h;cases h;unfold Instr.buildSlice;refine π.bind' (Ι.bG hi ?_);rw[hu];refine π.bind' (Ι.size dT ?_);rw[cv];have Ns:¬(len*k > 2 ^ 24):=R;simp only[Ns,if_false];have Di:(parts.map λ(i,x)=>(i,br t x)).toList=parts.toList.map λp=>(p.1,br t p.2):=θ;have fin:∀gh:Array Value,(len=0\/gh=b4.zero.cells)->∃c',Instr.fill (λi=>some (i*k,k)) ((Array.range (len*k)).map (gh[· % gh.size]!)) (parts.map λ(i,x)=>(i,br t x)).toList=some c'/\fU S B σ c' k l/\l.length=len:=λgh rm=>by
   have Dh:fU S B σ ((Array.range (len*k)).map (gh[· % gh.size]!)) k (List.replicate len (hA b4.zero)):=by
    rcases rm with rfl|rm
    ·exact⟨θ,λi e hi=>by simp at hi⟩
    ·exact fU.Nk (p6 b4.zero) (xK Κ) ξ (Nat.le_refl _) gh rm
   obtain⟨c',Δ,Γ,a0,cG⟩:=HD (place:=λi=>some (i*k,k)) n7 (λx i j n h=>by
    simp at h;obtain⟨rfl,rfl,rfl⟩:=h;simp) cK parts.toList _ _ _ Dh Χ
   rw[Di];exact⟨c',Δ,a0,by rw[cG];simp⟩
  by_cases υ:len=0
  ·obtain⟨c',Δ,Γ,a0⟩:=fin #[] (.inl υ);have Θ:len*k=0:=by rw[υ];simp
   rw[if_pos Θ];refine π.bind' (π.pure' ?_);rw[Δ];exact π.bind' (ς c' Γ a0)
  ·have bA:len*k≠0:=by
    intro ai;rcases Nat.mul_eq_zero.1 ai with ai|ai<;>omega
   obtain⟨c',Δ,Γ,a0⟩:=fin _ (.inr rfl);rw[if_neg bA];refine π.bind' (Ι.zero dT ?_);refine π.bind' (π.pure' ?_);rw[Δ];exact π.bind' (ς c' Γ a0)
def zY (T:bf) (a9:η->Bool) (ty:TypeId) (len:Nat) (parts:List (Nat×η)):cF:=match zX T a9 ty len parts with
 | some (_,k,l)=>.ok (.sl true k l)
 | none=>.bad
def Dj (T:bf) (ty:TypeId) (len:Nat) (parts:List (Nat×η)) (σ:List Row):da:=match zX T (η.a9 σ) ty len parts with
 | some (e,k,l)=>.ok (.ms σ.length len 0 len) (σ++[.cells e k l])
 | none=>.bad
theorem Nt (Ι:bV P T) (ω:Holds S B σ H) {a9:η->Bool} (n7:∀a:η,a9 a=true->a.a9 σ=true) (ty:TypeId) (len:Nat) {env:aa} {t:Array Value} (cK:dj S B σ env t) (parts:Array (Nat×Operand)) :
  cM P (Instr.buildSlice ty len (parts.map λ(i,x)=>(i,br t x))) S B H σ ((zY T a9 ty len (parts.toList.map λp=>(p.1,aT env p.2))).dv σ):=by
 unfold zY;split
 ·rename_i e k l h;intro K ζ;refine Nr Ι n7 cK h λc ε hlen=>zW ω c e λr I U ξ=>⟨_,_,_,_,ζ,U,I,ξ,?_⟩;have:=Dd (cap:=len) true ξ ε R (λ_=>hlen.symm);rw[hlen] at this;exact this
 ·exact .bad
theorem Nu {r n k:Nat} {t:TypeId} {l:List η} (hlen:B.length=σ.length) (c:Array Value) (ε:l.length*k<=c.size) (Η:l.length=n):av S (B++[some (r,c.size)]) (σ++[.cells t k l]) (.ms σ.length n 0 n) (.slice (some ⟨r,0,none⟩) n n):=by
 have:=av.ms (S:=S) (B:=B++[some (r,c.size)]) (σ:=σ++[.cells t k l]) (id:=σ.length) (n:=n) (i:=0) (len:=n) (t:=t) (k:=k) (l:=l) (bo:=some (r,c.size)) (base:=some ⟨r,0,none⟩) n θ Η (by rw[<-hlen];simp) R (Nat.le_refl _) (.inr ⟨r,c.size,rfl,θ,by subst Η;simpa using ε⟩);exact this
theorem VJ (Ι:bV P T) (ω:Holds S B σ H) (ty:TypeId) (len:Nat) {env:aa} {t:Array Value} (cK:dj S B σ env t) (parts:Array (Nat×Operand)) :
  cM P (Instr.buildSlice ty len (parts.map λ(i,x)=>(i,br t x))) S B H σ (Dj T ty len (parts.toList.map λp=>(p.1,aT env p.2)) σ):=by
 unfold Dj;split
 ·rename_i e k l h;intro K ζ;exact Nr Ι (λa h=>h) cK h λc ε hlen=>zV ω ε e λr _ I U ξ=>⟨_,_,_,_,ζ,U,I,ξ,Nu ω.len c ε.1 hlen⟩
 ·exact .bad
def zZ (T:bf) (ty:TypeId) (a b:η):Option (TypeId×Nat×η×Int×Int):=match hB T ty,a,b with
 | some (e,k,none),.z (.int _ n),.z (.int _ m)=>match T e with
  | some b4=>if 0<k/\(hA b4.zero).cells.length=k/\(hA b4.zero).cells.all (η.a9 [])=true then some (e,k,hA b4.zero,n,b4.bytes) else none
  | none=>none
 | _,_,_=>none
end
section
variable {P:Program} {T:bf} {S:aH} {B:aU} {H:χ} {σ:List Row}
theorem Nv (Ι:bV P T) {ty e:TypeId} {k:Nat} {z:η} {n bytes:Int} {a b:η} {u v:Value} (μ:av S B σ a u) (hb:av S B σ b v) (h:zZ T ty a b=some (e,k,z,n,bytes)) (gU:∀kk m,b=.z (.int kk m)->m=n) (Η:0<=n/\0<bytes/\bytes*n<=2 ^ 48) {K:Value->χ->Prop} {E:Value->χ->Prop}
  (ς:∀c:Array Value,fU S B σ c k (List.replicate n.toNat z)->π P (newObj (.cells c e)) H (λr H'=>K (.slice (some ⟨r,0,none⟩) n.toNat n.toNat) H') E) :
  π P (Instr.makeSlice ty u v) H K E:=by
 unfold zZ at h;split at h<;>try cases h
 rename_i aM ae k1 iZ cJ m he;split at h<;>try cases h
 rename_i b4 dT;split at h<;>try cases h
 rename_i ε;obtain⟨I,U,ξ⟩:=ε;cases μ;cases hb;have hm:=gU _ _ rfl;subst hm;obtain⟨i,HE,hi,hu,ub,cv⟩:=C9 he;rw[dT] at ub;cases ub;obtain⟨rn,jN,HF⟩:=Η;have hle:m<=2 ^ 48:=by
  have:1*m<=(b4.bytes:Int)*m:=Int.mul_le_mul_of_nonneg_right R rn;omega
 have hw:IntKind.i64.wrap m=m:=IntWalk.i64_in m ⟨R,R⟩;unfold Instr.makeSlice;refine π.bind' (Ι.bG hi ?_);rw[hu];refine π.bind' (π.bind' (π.pure' (π.pure' ?_)));refine π.bind' (π.bind' (π.pure' (π.pure' ?_)));refine π.bind' (Ι.info dT λf Χ=>?_);simp only[hw,Χ];have c1:¬m<0:=R;have c2:¬((b4.bytes:Int)*m > 2 ^ 48):=R;have c3:¬m > m:=R;simp only[c1,c2,c3,decide_false,Bool.or_false,Bool.false_eq_true,if_false];refine π.bind' ?_;have fin:π P (do
   let Nw <-(do pure (m.toNat*(<-sizeOf e)):Sem Nat)
   let zero <-if Nw=0 then pure #[] else do pure (<-zeroValue e).cells
   let a <-newRow e ((Array.range Nw).map (zero[· % zero.size]!))
   pure (.slice (some a) m.toNat m.toNat)) H K E:=by
  refine π.bind' (π.bind' (Ι.size dT (π.pure' ?_)));rw[cv];by_cases Θ:m.toNat*k=0
  ·rw[if_pos Θ];refine π.bind' (π.pure' ?_);refine π.bind' (π.bind' ?_);refine ς _ ?_;rcases Nat.mul_eq_zero.1 Θ with ai|ai
   ·rw[ai];exact⟨θ,λi e hi=>by simp at hi⟩
   ·omega
  ·rw[if_neg Θ];refine π.bind' (Ι.zero dT ?_);refine π.bind' (π.pure' ?_);refine π.bind' (π.bind' ?_);exact ς _ (fU.Nk (p6 b4.zero) (xK ξ) U (Nat.le_refl _) _ rfl)
 unfold askRoom;split
 ·refine⟨rfl,?_⟩;show π P _ H K E;have:=fin;simpa using this
 ·refine π.pure' ?_;show π P _ H K E;have:=fin;simpa using this
def Dk (T:bf) (ty:TypeId) (a b:η) (σ:List Row):da:=match zZ T ty a b,b with
 | some (e,k,z,n,bytes),.z (.int _ m)=>.ca (m=n/\0<=n/\0<bytes/\bytes*n<=2 ^ 48) (.ok (.ms σ.length n.toNat 0 n.toNat) (σ++[.cells e k (List.replicate n.toNat z)]))
 | _,_=>.bad
theorem VK (Ι:bV P T) (ω:Holds S B σ H) {ty:TypeId} {a b:η} {u v:Value} (μ:av S B σ a u) (hb:av S B σ b v):cM P (Instr.makeSlice ty u v) S B H σ (Dk T ty a b σ):=by
 unfold Dk;split
 ·rename_i e k z n bytes kk m h;refine .ca λ⟨hm,Η⟩ K ζ=>?_;refine Nv Ι μ hb h (λHh b7 aM=>by cases aM;exact hm) Η λc ε=>zV ω ε e λr _ I U ξ=>⟨_,_,_,_,ζ,U,I,ξ,?_⟩;exact Nu ω.len c ε.1 θ
 ·exact .bad
def Dl (T:bf) (ty:TypeId) (a b:η):cF:=match zZ T ty a b,b with
 | some (_,k,z,n,bytes),.z (.int _ m)=>.ca (m=n/\0<=n/\0<bytes/\bytes*n<=2 ^ 48) (.ok (.sl true k (List.replicate n.toNat z)))
 | _,_=>.bad
theorem VL (Ι:bV P T) (ω:Holds S B σ H) {ty:TypeId} {a b:η} {u v:Value} (μ:av S B σ a u) (hb:av S B σ b v):cM P (Instr.makeSlice ty u v) S B H σ ((Dl T ty a b).dv σ):=by
 unfold Dl;split
 ·rename_i e k z n bytes kk m h;refine cM.ca (r:=(cF.ok (.sl true k (List.replicate n.toNat z))).dv σ) λ⟨hm,Η⟩ K ζ=>?_;refine Nv Ι μ hb h (λHh b7 aM=>by cases aM;exact hm) Η λc ε=>zW ω c e λr I U ξ=>⟨_,_,_,_,ζ,U,I,ξ,?_⟩;have:=Dd (cap:=n.toNat) true ξ ε θ (λ_=>θ);simpa using this
 ·exact .bad
def Reads (H:χ) (base:Option Addr) (m:Nat) (w:Nat->Value):Prop:=m=0\/∃b o,base=some ⟨b,o,none⟩/\∀j,j<m->∃p,H.aL b (o+j)=some (w j,p)
theorem HG {base:Option Addr} {k n cap:Nat} {len:Nat} {w:Nat->Value} (h:Reads H base (n*k) w) {K:Array Value->χ->Prop} {E:Value->χ->Prop} (ς:K ((List.range (n*k)).map w).toArray H) :
  π P (Builtin.firstCells k n (.slice base len cap)) H K E:=by
 rcases h with h|⟨b,o,rfl,h⟩
 ·rw[h] at ς;cases base with
  | none=>exact π.pure' ς
  | some a=>
   show π P (loadCells a (n*k)) H K E;rw[h];exact π.pure' ς
 ·exact π.loadCells w rfl h ς
theorem VM {ca old:Nat} (h:old<ca):Builtin.nextslicecap ca old<=2*ca+768:=by
 unfold Builtin.nextslicecap;have grow:∀r c,c<=2*ca+768->Builtin.growBy ca r c<=2*ca+768:=by
  intro r
  induction r with
  | zero=>intro c ε;exact ε
  | succ r Β=>
   intro c ε;unfold Builtin.growBy;split
   ·exact ε
   ·exact Β _ R
 split
 ·omega
 ·split
  ·omega
  ·exact grow 4 old R
def im.isInt (i:im):Bool:=i.bG matches .int _
def kI (T:bf) (st xt:TypeId):Option (TypeId×Nat×im):=match hB T st,T xt with
 | some (e,k,none),some b6=>match T e with
  | some b4=>if 0<k/\b4.zero.cells.size=k/\0<b4.bytes/\b4.bytes<=4096/\b6.isInt=false then some (e,k,b4) else none
  | none=>none
 | _,_=>none
theorem HH (Ι:bV P T) {st xt rt e:TypeId} {k:Nat} {b4:im} (h:kI T st xt=some (e,k,b4)) {base z0:Option Addr} {sLen p9 n Dm:Nat} {wo wn:Nat->Value} (Α:Reads H base (sLen*k) wo) (Η:Reads H z0 (n*k) wn) (Ns:sLen+n<=4294967296) {K:Value->χ->Prop} {E:Value->χ->Prop}
  (bq:sLen+n<=p9->π P (match base with|some a=>storeCells (a.add (sLen*k)) ((List.range (n*k)).map wn)|none=>pure ()) H (λ_ H'=>K (.slice base (sLen+n) p9) H') E)
  (tP:p9<sLen+n->∀j9,sLen+n<=j9->π P (newObj (.cells (((List.range (sLen*k)).map wo).toArray++((List.range (n*k)).map wn).toArray++Builtin.zeroCells b4.zero.cells (j9-(sLen+n))) e)) H (λr H'=>K (.slice (some ⟨r,0,none⟩) (sLen+n) j9) H') E) :
  π P (Builtin.append_ #[st,xt] rt #[.slice base sLen p9,.slice z0 n Dm]) H K E:=by
 unfold kI at h;split at h<;>try cases h
 rename_i aM ae b6 he o6;split at h<;>try cases h
 rename_i HE dT;split at h<;>try cases h
 rename_i ε;obtain⟨I,U,ξ,Κ,aE⟩:=ε;obtain⟨i,HE,hi,hu,ub,cv⟩:=C9 he;rw[dT] at ub;cases ub;unfold Builtin.append_;simp only[List.getElem?_toArray,List.getElem?_cons_zero,List.getElem?_cons_succ];refine π.bind' (Ι.bG hi ?_);rw[hu];refine π.bind' (Ι.size dT ?_);rw[cv];refine π.bind' (π.bind' (Ι.bG o6 ?_));split
 ·rename_i ς;unfold im.isInt at aE;rw[ς] at aE;cases aE
 refine π.bind' (π.pure' ?_);simp only[Bool.false_eq_true,if_false,Bool.not_false,if_true];refine π.bind' (π.pure' ?_);split
 ·rename_i hle;refine π.bind' (HG Η ?_);have:=bq hle;cases base with
  | none=>exact this
  | some a=>exact π.bind' this
 ·rename_i Nx;have Ny:p9<sLen+n:=R;refine π.bind' (Ι.info dT λf Χ=>?_);have er:¬(((sLen+n:Nat):Int) > IntKind.i64.max/\(False\/f.bytes=0)):=by rw[Χ];rintro⟨_,h|h⟩;exact h;omega
  simp only[er,if_false];refine π.bind' (Ι.info dT λf2 Dn=>?_);have c1:¬(Builtin.nextslicecap (sLen+n) p9*f2.bytes > 2 ^ 48):=by
   rw[Dn];have a1:=VM Ny;have bk:Builtin.nextslicecap (sLen+n) p9*b4.bytes<=(2*(sLen+n)+768)*4096:=Nat.mul_le_mul a1 Κ;omega
  simp only[c1,if_false];refine π.bind' ?_;show π P (choose _) H _ E;unfold choose;simp only[π];have Ψ:(Question.appendCap (sLen+n) p9 e).forced=false:=rfl;rw[Ψ];simp only[Bool.false_eq_true,if_false];intro q;refine π.bind' (Ι.info dT λf3 HI=>?_);have fin:π P (do
    let old <-Builtin.firstCells k sLen (.slice base sLen p9)
    let new <-Builtin.firstCells k n (.slice z0 n Dm)
    let rest <-(do pure (Builtin.zeroCells (<-zeroValue e).cells ((Question.appendCap (sLen+n) p9 e).cut q-(sLen+n))):Sem (Array Value))
    pure (.slice (some (<-newRow e (old++new++rest))) (sLen+n) ((Question.appendCap (sLen+n) p9 e).cut q))) H K E:=by
   refine π.bind' (HG Α ?_);refine π.bind' (HG Η ?_);refine π.bind' (π.bind' (Ι.zero dT (π.pure' ?_)));refine π.bind' (π.bind' ?_);exact tP Ny _ (by simp[Question.cut])
  refine π.bind' ?_;unfold askRoom;split
  ·refine⟨rfl,?_⟩;show π P _ H K E;simpa using fin
  ·refine π.pure' ?_;show π P _ H K E;simpa using fin
end
section
variable {P:Program} {T:bf} {S:aH} {B:aU} {H:χ} {σ:List Row}
def p' (σ:List Row):η->Option (Nat×List η)
 | .sl _ k l=>some (k,l)
 | .ms id n i len=>match σ[id]? with
  | some (.cells _ k l)=>if l.length=n/\i+len<=n then some (k,(l.drop i).take len) else none
  | _=>none
 | _=>none
def xO (S:aH) (B:aU) (σ:List Row) (w:Nat->Value) (k:Nat) (l:List η):Prop:=∀(i:Nat) (e:η),l[i]?=some e->e.cells.length=k/\∀(j:Nat) (a:η),e.cells[j]?=some a->av S B σ a (w (i*k+j))
theorem VN {k i j:Nat} (δ:j<k):(i*k+j) / k=i/\(i*k+j) % k=j:=by
 have ς:0<k:=R;refine⟨?_,?_⟩
 ·rw[Nat.add_comm,Nat.add_mul_div_right _ _ ς,Nat.div_eq_of_lt δ,Nat.zero_add]
 ·rw[Nat.add_comm,Nat.add_mul_mod_self_right];exact Nat.mod_eq_of_lt δ
theorem Dp (ω:Holds S B σ H) {a:η} {v:Value} {k k1:Nat} {l:List η} (μ:av S B σ a v) (h:p' σ a=some (k1,l)) (ς:0<k) (rp:l.isEmpty=true\/k1=k) :
  ∃base cap w,v=.slice base l.length cap/\l.length<=cap/\Reads H base (l.length*k) w/\xO S B σ w k l:=by
 have flat:∀(b o:Nat) (w2:Nat->Nat->Value),(∀(i:Nat) (e:η),l[i]?=some e->e.cells.length=k)->(∀(i:Nat) (e:η),l[i]?=some e->∀(j:Nat) (c:η),e.cells[j]?=some c->∃p,H.aL b (o+i*k+j)=some (w2 i j,p))->
   (∀(i:Nat) (e:η),l[i]?=some e->∀(j:Nat) (c:η),e.cells[j]?=some c->av S B σ c (w2 i j))->Reads H (some ⟨b,o,none⟩) (l.length*k) (λm=>w2 (m / k) (m % k))/\xO S B σ (λm=>w2 (m / k) (m % k)) k l:=by
  intro b o w2 I U ξ;refine⟨.inr ⟨b,o,rfl,λm hm=>?_⟩,λi e hi=>⟨I i e hi,λj c δ=>?_⟩⟩
  ·have hi:m / k<l.length:=(Nat.div_lt_iff_lt_mul ς).2 hm
   have nv:l[m / k]?=some l[m / k]:=a5 hi
   have δ:m % k<l[m / k].cells.length:=by rw[I _ _ nv];exact Nat.mod_lt _ ς
   obtain⟨p,ψ⟩:=U _ _ nv (m % k) _ (a5 δ);refine⟨p,?_⟩;have:o+m=o+m / k*k+m % k:=by have:=Nat.div_add_mod m k;rw[Nat.mul_comm] at this;omega
   rw[this];exact ψ
  ·have o8:j<k:=by rw[<-I i e hi];exact(cf.1 δ).1
   obtain⟨Δ,Γ⟩:=VN (i:=i) o8;simp only[Δ,Γ];exact ξ i e hi j c δ
 have empty:∀(base:Option Addr) (cap:Nat),l=[]->v=.slice base 0 cap->∃base cap w,v=.slice base l.length cap/\l.length<=cap/\Reads H base (l.length*k) w/\xO S B σ w k l:=λbase cap υ hv=>by
  subst υ;exact⟨base,cap,λ_=>undef,hv,Nat.zero_le _,.inl θ,λi e hi=>by simp at hi⟩
 unfold p' at h;split at h
 ·cases h;obtain⟨base,cap,rfl,I,_,U⟩:=rk μ;by_cases υ:l=[]
  ·exact empty base cap υ (by rw[υ];rfl)
  ·obtain⟨b,o,w,rfl,ξ,Κ,aE⟩:=U υ;have ij:k1=k:=rp.elim (λx=>absurd (List.isEmpty_iff.1 x) υ) id;subst ij;obtain⟨r1,r2⟩:=flat b o w ξ (λi e hi j c δ=>ω.di _ _ _ (Κ i e hi j c δ)) aE;exact⟨_,cap,_,rfl,I,r1,r2⟩
 ·rename_i id n i len;split at h
  ·rename_i t ae d' υ;split at h
   ·rename_i ε;cases h;obtain⟨Η,hlen⟩:=ε;have iN:((d'.drop i).take len).length=len:=by simp;omega
    cases μ with
    | ms cap I U ξ Κ aE bd=>
     rw[υ] at I;cases I;rcases bd with bd|⟨b,N,rfl,rfl,bd⟩
     ·subst bd;have:len=0:=R;subst this;exact empty _ 0 θ rfl
     ·by_cases Θ:len=0
      ·subst Θ;exact empty _ cap θ rfl
      ·have bA:¬((d'.drop i).take len).isEmpty=true:=λx=>by
        rw[List.isEmpty_iff] at x;rw[x] at iN;simp at iN;omega
       have ij:=rp.resolve_left bA;subst ij;obtain⟨bF,cl,gd,w,hw⟩:=ω.row id _ _ υ ξ;have el:∀(x:Nat) (e:η),((d'.drop i).take len)[x]?=some e->d'[i+x]?=some e:=λx e γ=>by
        rw[List.getElem?_take] at γ;split at γ
        ·rw[List.getElem?_drop] at γ;exact γ
        ·cases γ
       obtain⟨r1,r2⟩:=flat b (i*k1) (λx j=>w (i+x) j) (λx e γ=>(hw _ e (el x e γ)).1) (λx e γ j c δ=>⟨true,by
        have:=((hw _ e (el x e γ)).2 j c δ).1;rw[Nat.add_mul] at this;exact this⟩) (λx e γ j c δ=>((hw _ e (el x e γ)).2 j c δ).2.1)
       exact⟨_,cap,_,by rw[iN],by rw[iN];exact aE,r1,r2⟩
    | jg v I U=>rw[υ] at I;cases I;simp only[Row.hf] at U;omega
   ·cases h
  ·cases h
 ·cases h
theorem HJ {w1 w2:Nat->Value} {k:Nat} {l1 l2:List η} (I:xO S B σ w1 k l1) (U:xO S B σ w2 k l2) (dz:l1.all (λe=>e.cells.all (η.a9 σ))=true) (hZ:l2.all (λe=>e.cells.all (η.a9 σ))=true) (z:Array Value) :
  fU S B σ (((List.range (l1.length*k)).map w1).toArray++((List.range (l2.length*k)).map w2).toArray++z) k (l1++l2):=by
 have ok:∀(l:List η),l.all (λe=>e.cells.all (η.a9 σ))=true->∀e∈l,∀a∈e.cells,η.a9 σ a=true:=λl h e he a μ=>List.all_eq_true.1 (List.all_eq_true.1 h e he) a μ;refine⟨by simp[Nat.add_mul],λi e hi=>?_⟩;by_cases aB:i<l1.length
 ·rw[dE aB] at hi;refine⟨(I i e hi).1,λj a δ=>?_⟩;have o8:j<k:=by rw[<-(I i e hi).1];exact(cf.1 δ).1
  have hb:i*k+j<l1.length*k:=by
   have:(i+1)*k<=l1.length*k:=Nat.mul_le_mul_right k aB;rw[Nat.add_mul] at this;omega
  have κ:=(I i e hi).2 j a δ;refine⟨w1 (i*k+j),?_,κ,κ.zU (ok l1 dz e (cr hi) a (cr δ))⟩;rw[Array.append_assoc,Array.getElem?_append_left (by simpa using hb)];simp[hb]
 ·rw[gl R] at hi;refine⟨(U _ e hi).1,λj a δ=>?_⟩;have o8:j<k:=by rw[<-(U _ e hi).1];exact(cf.1 δ).1
  have vO:i-l1.length<l2.length:=(cf.1 hi).1
  have hb:(i-l1.length)*k+j<l2.length*k:=by
   have:(i-l1.length+1)*k<=l2.length*k:=Nat.mul_le_mul_right k vO;rw[Nat.add_mul] at this;omega
  have he:i*k+j=l1.length*k+((i-l1.length)*k+j):=by
   have:i=l1.length+(i-l1.length):=R
   conv=>lhs;rw[this,Nat.add_mul]
   omega
  have κ:=(U _ e hi).2 j a δ;refine⟨w2 ((i-l1.length)*k+j),?_,κ,κ.zU (ok l2 hZ e (cr hi) a (cr δ))⟩;rw[he,Array.append_assoc,Array.getElem?_append_right θ];rw[Array.getElem?_append_left (by simp;omega)];simp[hb]
def η.lW (a9:η->Bool) (l:List η):Bool:=l.all λe=>e.cells.all a9
def sI (T:bf) (st xt:TypeId) (a9:η->Bool) (σ:List Row) (s x:η):cF:=
 match kI T st xt,s,p' σ x with
 | some (_,k,_),.sl true eJ l0,some (k1,l1)=>
  if(l0.isEmpty=true\/eJ=k)/\(l1.isEmpty=true\/k1=k)/\η.lW a9 l0=true/\η.lW a9 l1=true then .ca (l0.length+l1.length<=4294967296) (.ok (.sl false k (l0++l1))) else .bad
 | _,_,_=>.bad
theorem VO {k eJ:Nat} {l0:List η} {v:Value} (h:av S B σ (.sl true eJ l0) v) (ς:l0.isEmpty=true\/eJ=k):av S B σ (.sl false k l0) v:=by
 by_cases υ:l0=[]
 ·subst υ;obtain⟨base,cap,rfl,_⟩:=rk h;exact .iK base cap θ
 ·have:=ς.resolve_left (λx=>υ (List.isEmpty_iff.1 x));subst this;cases h with
  | iK=>exact absurd rfl υ
  | sl b o cap w I U ξ Κ aE=>exact .sl b o cap w θ U ξ Κ aE
theorem HK {a9:η->Bool} (n7:∀a:η,a9 a=true->a.a9 σ=true) {l:List η} (h:η.lW a9 l=true):l.all (λe=>e.cells.all (η.a9 σ))=true:=by
 unfold η.lW at h;rw[List.all_eq_true] at h ⊢;intro e he;have:=h e he;rw[List.all_eq_true] at this ⊢;exact λa μ=>n7 a (this a μ)
theorem Nz (Ι:bV P T) (ω:Holds S B σ H) {a9:η->Bool} (n7:∀a:η,a9 a=true->a.a9 σ=true) (st xt rt:TypeId) {s x:η} {u v:Value} (ν:av S B σ s u) (γ:av S B σ x v) :
  cM P (Builtin.append_ #[st,xt] rt #[u,v]) S B H σ ((sI T st xt a9 σ s x).dv σ):=by
 unfold sI;split
 ·rename_i e k b4 eJ l0 k1 l1 o9 rq;split
  ·rename_i ε;obtain⟨c1,c2,c3,c4⟩:=ε;refine cM.ca (r:=(cF.ok (.sl false k (l0++l1))).dv σ) λrf K ζ=>?_;have ς:0<k:=by
    unfold kI at o9;split at o9<;>try cases o9
    split at o9<;>try cases o9
    split at o9<;>try cases o9
    rename_i h;exact h.1
   obtain⟨base,cap,w,rfl,_,r1,r2⟩:=Dp ω ν (k:=k) rfl ς c1;obtain⟨z0,Dm,w1,rfl,_,r3,jb⟩:=Dp ω γ rq ς c2;have xL:cap=l0.length:=by
    obtain⟨Ω,Hv,Δ,_,Γ,_⟩:=rk ν;cases Δ;exact Γ rfl
   have fin:∀aA H' v,Holds aA B σ H'->Ext S B H aA B H'->b' S aA B B σ σ->av aA B σ (.sl false k (l0++l1)) v->iL S B H σ K v H':=λaA H' v a b c d=>⟨aA,B,σ,_,ζ,b,a,c,d⟩;refine HH Ι o9 r1 r3 rf (λbq=>?_) (λ_ j9 sJ=>?_)
   ·have vP:l1=[]:=by
     cases l1 with
     | nil=>rfl
     | cons=>simp at bq;omega
    subst vP;have Dq:av S B σ (.sl false k (l0++[])) (.slice base (l0.length+([]:List η).length) cap):=by
     rw[List.append_nil];exact VO ν c1
    cases base with
    | none=>exact π.pure' (fin S H _ ω (.refl _ _ _) (.refl _ _ _) Dq)
    | some a=>
     have Θ:((List.range (([]:List η).length*k)).map w1)=[]:=θ;rw[Θ];exact π.pure' (fin S H _ ω (.refl _ _ _) (.refl _ _ _) Dq)
   ·refine zW ω _ e λr I U ξ=>fin _ _ _ I U ξ ?_;have:=Dd (cap:=j9) false ξ (HJ r2 jb (HK n7 c3) (HK n7 c4) (Builtin.zeroCells b4.zero.cells (j9-(l0.length+l1.length)))) (by simpa using sJ) θ;rw[List.length_append] at this;exact this
  ·exact .bad
 ·exact .bad
end
section
variable {P:Program} {T:bf} {S:aH} {B:aU} {H:χ} {σ:List Row}
theorem VP {st xt e:TypeId} {k:Nat} {b4:im} (h:kI T st xt=some (e,k,b4)):0<k/\b4.zero.cells.size=k:=by
 unfold kI at h;split at h<;>try cases h
 split at h<;>try cases h
 split at h<;>try cases h
 rename_i h;exact⟨h.1,h.2.1⟩
theorem Dr {α:Type} (l:List α) (x:α):(l++[x])[l.length]?=some x:=θ
theorem Ds {B:aU} {σ:List Row} (hlen:B.length=σ.length) (bo:Option (Nat×Nat)):(B++[bo])[σ.length]?=some bo:=by rw[<-hlen];simp
def vQ (H:χ) (bo:Option (Nat×Nat)) (m:Nat):Value:=match bo with|some (b,_)=>((H.aL b m).map (·.1)).getD undef|none=>undef
theorem NA (z:Array Value) (n:Nat):(Builtin.zeroCells z n).size=n*z.size:=by simp[Builtin.zeroCells]
def Dt (T:bf) (st xt:TypeId) (σ:List Row) (s x:η):da:=
 match kI T st xt,p' σ x with
 | some (e,k,_),some (k1,l1)=>
  if(l1.isEmpty=true\/k1=k)/\η.lW (η.a9 σ) l1=true then match s with
   | .sl true _ l0=>if l0.isEmpty=true then .ca (l1.length<=4294967296) (.ok (.ms σ.length l1.length 0 l1.length) (σ++[.cells e k l1])) else .bad
   | .ms id n i len=>match σ[id]? with
    | some (.cells t ae l)=>if i=0/\l.length=n/\len=n/\ae=k/\t=e then .ca (n+l1.length<=4294967296) (.ok (.ms id (n+l1.length) 0 (n+l1.length)) (σ.set id (.cells t k (l++l1)))) else .bad
    | _=>.bad
   | _=>.bad
  else .bad
 | _,_=>.bad
theorem VQ (Ι:bV P T) (ω:Holds S B σ H) (st xt rt:TypeId) {s x:η} {u v:Value} (ν:av S B σ s u) (γ:av S B σ x v) :
  cM P (Builtin.append_ #[st,xt] rt #[u,v]) S B H σ (Dt T st xt σ s x):=by
 unfold Dt;split
 ·rename_i e k b4 k1 l1 o9 rq;split
  ·rename_i ε;obtain⟨c2,c4⟩:=ε;obtain⟨ς,rm⟩:=VP o9;obtain⟨z0,Dm,w1,rfl,_,r3,jb⟩:=Dp ω γ rq ς c2;have HL:=HK (σ:=σ) (λa h=>h) c4;split
   ·rename_i eJ l0;split
    ·rename_i he;have HM:l0=[]:=List.isEmpty_iff.1 he;subst HM;refine .ca λrf K ζ=>?_;obtain⟨base,cap,rfl,_,xL,_⟩:=rk ν;have VR:cap=0:=xL rfl;subst VR;refine HH Ι o9 (sLen:=0) (wo:=λ_=>undef) (.inl θ) r3 R (λbq=>?_) (λ_ j9 sJ=>?_)
     ·have vP:l1=[]:=by
       cases l1 with
       | nil=>rfl
       | cons=>simp at bq
      subst vP;obtain⟨dL,p2,p3⟩:=ω.push (H':=H) (r:=.cells e k []) (bo:=none) (λb N e=>by cases e) (λb _=>⟨λ_=>rfl,rfl,rfl⟩) (λ_=>rfl);have fin:iL S B H σ K (.slice base (([]:List η).length+([]:List η).length) 0) H:=⟨S,_,_,_,ζ,p2,dL,p3,.ms 0 (Dr σ _) rfl (Ds ω.len _) θ (Nat.le_refl _) (.inl rfl)⟩;cases base with
      | none=>exact π.pure' fin
      | some a=>
       have Θ:((List.range (([]:List η).length*k)).map w1)=[]:=θ;rw[Θ];exact π.pure' fin
     ·have υ:fU S B σ (((List.range (0*k)).map λ_=>undef).toArray++((List.range (l1.length*k)).map w1).toArray++Builtin.zeroCells b4.zero.cells (j9-(0+l1.length))) k ([]++l1):=
       HJ (l1:=[]) (λi e hi=>by simp at hi) jb θ HL _
      rw[List.nil_append] at υ;refine zV ω υ e λr _ I U ξ=>⟨_,_,_,_,ζ,U,I,ξ,?_⟩;simp only[List.length_nil,Nat.zero_add];refine .ms j9 (Dr σ _) rfl (Ds ω.len _) R (by simpa using sJ) (.inr ⟨r,_,rfl,θ,?_⟩);simp only[Nat.zero_add,Array.size_append,List.size_toArray,List.length_map,List.length_range,NA,rm,Nat.zero_mul];rw[<-Nat.add_mul];have:l1.length+(j9-l1.length)=j9:=by simp at sJ;omega
      rw[this];exact Nat.le_refl _
    ·exact .bad
   ·rename_i id n i len;split
    ·rename_i t ae l υ;split
     ·rename_i ji;obtain⟨j6,Η,hlen,rp,VS⟩:=ji;subst j6;subst hlen;subst rp;subst VS;refine .ca λrf K ζ=>?_;cases ν with
      | @ms _ _ _ _ _ _ _ bo base cap I U ξ Κ aE bd=>
       rw[υ] at I;cases I;have cm:=ω.row id _ bo υ ξ;have HN:Reads H base (len*ae) (vQ H bo):=by
        rcases bd with bd|⟨b,N,rfl,rfl,bd⟩
        ·exact .inl (by rw[show len=0 from R];simp)
        ·refine .inr ⟨b,0,θ,λj δ=>⟨true,?_⟩⟩;obtain⟨w,hw⟩:=cm.2.2.1 j (by have:=cm.2.1;rw[Η] at this;omega);rw[Nat.zero_add];simp[hw,vQ]
       have same:l1=[]->iL S B H σ K (.slice base (len+l1.length) cap) H:=λcD=>by
        subst cD;have b0:id<σ.length:=(cf.1 υ).1;have rr:σ.set id (.cells t ae (l++[]))=σ:=by
         rw[List.append_nil];apply List.ext_getElem?;intro j;by_cases mK:id=j
         ·subst mK;rw[List.getElem?_set_self b0,υ]
         ·rw[List.getElem?_set_ne mK]
        rw[rr] at ζ;exact⟨S,B,σ,_,ζ,.refl _ _ _,ω,.refl _ _ _,.ms cap υ Η ξ θ aE bd⟩
       have b0:id<σ.length:=(cf.1 υ).1
       have o4:id<B.length:=by rw[ω.len];exact b0
       refine HH Ι o9 HN r3 rf (λbq=>?_) (λNx j9 sJ=>?_)
       ·by_cases cD:l1=[]
        ·have:=same cD;subst cD;cases base with
         | none=>exact π.pure' this
         | some a=>
          have Θ:((List.range (([]:List η).length*ae)).map w1)=[]:=θ;rw[Θ];exact π.pure' this
        ·have qa:0<l1.length:=List.length_pos_iff.2 cD;rcases bd with bd|⟨b,N,rfl,rfl,bd⟩
         ·omega
         ·obtain⟨bF,cl,gd,w,hw⟩:=cm;have VT:(len+l1.length)*ae<=N:=by
           have:(len+l1.length)*ae<=(0+cap)*ae:=Nat.mul_le_mul_right _ R;omega
          rw[Nat.add_mul] at VT;have VU:(⟨b,0*ae,none⟩:Addr).add (len*ae)=⟨b,len*ae,none⟩:=by rw[tY];simp
          have NB:((List.range (l1.length*ae)).map w1).length=l1.length*ae:=θ
          have h2:∀j,j<l1.length*ae->((List.range (l1.length*ae)).map w1)[j]?=some (w1 j):=λj δ=>by simp[δ]
          have NC:∀(i:Nat) (e:η) (j:Nat) (a:η),l1[i]?=some e->e.cells[j]?=some a->One (w1 (i*ae+j)):=λi e j a hi δ=>
           ((jb i e hi).2 j a δ).zU (List.all_eq_true.1 (List.all_eq_true.1 HL e (cr hi)) a (cr δ))
          have VV:∀v∈(List.range (l1.length*ae)).map w1,One v:=λv hv=>by
           obtain⟨m,hm,rfl⟩:=List.mem_map.1 hv;have dg:m<l1.length*ae:=by simpa using hm
           have hi:m / ae<l1.length:=(Nat.div_lt_iff_lt_mul ς).2 dg
           have nv:=a5 hi
           have δ:m % ae<l1[m / ae].cells.length:=by rw[(jb _ _ nv).1];exact Nat.mod_lt _ ς
           have:=NC _ _ _ _ nv (a5 δ)
           have Δ:m / ae*ae+m % ae=m:=by have:=Nat.div_add_mod m ae;rw[Nat.mul_comm] at this;exact this
           rw[Δ] at this;exact this
          have zF:b' S S B (B.set id (some (b,N))) σ (σ.set id (.cells t ae (l++l1)))->jP S (B.set id (some (b,N))) (σ.set id (.cells t ae (l++l1))) (H.hx b (len*ae) ((List.range (l1.length*ae)).map w1)) (.cells t ae (l++l1)) (some (b,N)):=λkV=>by
           refine⟨bF,by simp[Nat.add_mul,Η];omega,λo Α=>?_,λi j=>if i<len then w i j else w1 ((i-len)*ae+j),λi e hi=>?_⟩
           ·simp only[χ.hx];split
            ·exact⟨_,rfl⟩
            ·exact gd o Α
           ·by_cases aB:i<l.length
            ·rw[dE aB] at hi;refine⟨(hw i e hi).1,λj a δ=>?_⟩;obtain⟨Τ,af,aZ⟩:=(hw i e hi).2 j a δ;have o8:j<ae:=by rw[<-(hw i e hi).1];exact(cf.1 δ).1
             have hb:i*ae+j<len*ae:=by
              have:(i+1)*ae<=len*ae:=Nat.mul_le_mul_right ae R;rw[Nat.add_mul] at this;omega
             simp only[show i<len by omega,if_true];refine⟨?_,af.later kV,aZ⟩;simp only[χ.hx];rw[if_neg R];exact Τ
            ·rw[gl R,Η] at hi;refine⟨(jb _ e hi).1,λj a δ=>?_⟩;have o8:j<ae:=by rw[<-(jb _ e hi).1];exact(cf.1 δ).1
             have vO:i-len<l1.length:=(cf.1 hi).1
             have hb:(i-len)*ae+j<l1.length*ae:=by
              have:(i-len+1)*ae<=l1.length*ae:=Nat.mul_le_mul_right ae vO;rw[Nat.add_mul] at this;omega
             have he:i*ae+j=len*ae+((i-len)*ae+j):=by
              have:i=len+(i-len):=R
              conv=>lhs;rw[this,Nat.add_mul]
              omega
             simp only[show ¬i<len by omega,if_false];refine⟨?_,((jb _ e hi).2 j a δ).later kV,NC _ e j a hi δ⟩;simp only[χ.hx,NB];rw[if_pos ⟨trivial,R,R⟩];have:i*ae+j-len*ae=(i-len)*ae+j:=R;rw[this,h2 _ hb];rfl
          obtain⟨dL,p2,p3⟩:=ω.xG (H':=H.hx b (len*ae) ((List.range (l1.length*ae)).map w1)) (r':=.cells t ae (l++l1)) (bo':=some (b,N)) υ trivial ξ (.inr λm hm=>by simp only[Row.hf,List.length_append];omega) (λΩ e1 aM=>.inl ⟨e1,aM⟩)
           (λΩ I _=>by
            have bA:Ω≠b:=λaM=>by subst aM;exact I N rfl
            exact⟨λo=>by simp[χ.hx,bA],rfl,rfl⟩) χ.Hs (Da ω υ) zF
          show π P (storeCells ((⟨b,0*ae,none⟩:Addr).add (len*ae)) _) H _ _;rw[VU];refine π.storeCells (G:=H) rfl ⟨t,N,bF⟩ _ 0 H VV (λj _ δ=>?_) rfl ?_
          ·rw[NB] at δ;obtain⟨u,hu⟩:=gd (len*ae+j) R;exact⟨u,hu⟩
          ·refine⟨S,_,_,_,ζ,p2,dL,p3,.ms cap (by rw[List.getElem?_set_self b0]) (by simp[Η]) (by rw[List.getElem?_set_self o4]) R bq (.inr ⟨b,N,rfl,rfl,bd⟩)⟩
       ·have cD:l1≠[]:=by rintro rfl;simp at Nx;omega
        have qa:0<l1.length:=List.length_pos_iff.2 cD
        have HO:xO S B σ (vQ H bo) ae l:=λi e hi=>by
         cases bo with
         | none=>have:l=[]:=cm
                 rw[this] at hi;simp at hi
         | some x=>
          obtain⟨b,N⟩:=x;obtain⟨_,_,_,w,hw⟩:=cm;refine⟨(hw i e hi).1,λj a δ=>?_⟩;obtain⟨Τ,af,_⟩:=(hw i e hi).2 j a δ;simp only[vQ,Τ];exact af
        have z1:fU S B σ (((List.range (len*ae)).map (vQ H bo)).toArray++((List.range (l1.length*ae)).map w1).toArray++Builtin.zeroCells b4.zero.cells (j9-(len+l1.length))) ae (l++l1):=by
         refine⟨by simp[Nat.add_mul,Η],λi e hi=>?_⟩;by_cases aB:i<l.length
         ·rw[dE aB] at hi;refine⟨(HO i e hi).1,λj a δ=>?_⟩;have o8:j<ae:=by rw[<-(HO i e hi).1];exact(cf.1 δ).1
          have hb:i*ae+j<len*ae:=by
           have:(i+1)*ae<=len*ae:=Nat.mul_le_mul_right ae R;rw[Nat.add_mul] at this;omega
          refine⟨_,?_,(HO i e hi).2 j a δ,?_⟩
          ·rw[Array.append_assoc,Array.getElem?_append_left (by simpa using hb)];simp[hb]
          ·cases bo with
           | none=>have:l=[]:=cm
                   rw[this] at aB;simp at aB
           | some x=>
            obtain⟨b,N⟩:=x;obtain⟨_,_,_,w,hw⟩:=cm;obtain⟨Τ,af,aZ⟩:=(hw i e hi).2 j a δ;simp only[vQ,Τ];exact aZ
         ·rw[gl R,Η] at hi;have:=HJ (l1:=[]) (w1:=λ_=>undef) (k:=ae) (λi e hi=>by simp at hi) jb θ HL (Builtin.zeroCells b4.zero.cells (j9-(len+l1.length)));obtain⟨e3,eK⟩:=this.2 (i-len) e (by simpa using hi);refine⟨e3,λj a δ=>?_⟩;obtain⟨x,iO,sK,uf⟩:=eK j a δ;have o8:j<ae:=by rw[<-e3];exact(cf.1 δ).1
          have he:i*ae+j=len*ae+((i-len)*ae+j):=by
           have:i=len+(i-len):=R
           conv=>lhs;rw[this,Nat.add_mul]
           omega
          refine⟨x,?_,sK,uf⟩;rw[he,Array.append_assoc,Array.getElem?_append_right θ];simpa using iO
        refine⟨rfl,λr κ=>?_⟩;generalize VW:(((List.range (len*ae)).map (vQ H bo)).toArray++((List.range (l1.length*ae)).map w1).toArray++Builtin.zeroCells b4.zero.cells (j9-(len+l1.length)))=c at z1;have VX:j9*ae<=c.size:=by
         rw[<-VW];simp only[Array.size_append,List.size_toArray,List.length_map,List.length_range,NA,rm];rw[<-Nat.add_mul,<-Nat.add_mul];have:len+l1.length+(j9-(len+l1.length))=j9:=R;rw[this];exact Nat.le_refl _
        obtain⟨dL,p2,p3⟩:=ω.xG (H':=H.dA r c t) (r':=.cells t ae (l++l1)) (bo':=some (r,c.size)) υ trivial ξ (.inr λm hm=>by simp only[Row.hf,List.length_append];omega) (λΩ e1 aM=>.inr (by cases aM;exact κ))
         (λΩ _ U=>by
          have bA:Ω≠r:=λaM=>by subst aM;exact U _ rfl
          exact⟨λo=>by simp[χ.dA,bA],by simp[χ.dA,bA],rfl⟩) (χ.M1 κ c t) (Da ω υ) (λkV=>by
          have a8:=z1.later kV;refine⟨by simp[χ.dA],z1.1,λo Α=>⟨c[o],by simp[χ.dA,Α]⟩,λi j=>(c[i*ae+j]?).getD undef,λi e hi=>⟨(a8.2 i e hi).1,λj a δ=>?_⟩⟩;obtain⟨x,Δ,Γ,a0⟩:=(a8.2 i e hi).2 j a δ;simp only[Δ,Option.getD_some];exact⟨by simp[χ.dA,Δ],Γ,a0⟩)
        exact⟨S,_,_,_,ζ,p2,dL,p3,.ms j9 (by rw[List.getElem?_set_self b0]) (by simp[Η]) (by rw[List.getElem?_set_self o4]) R R (.inr ⟨r,c.size,rfl,θ,by simpa using VX⟩)⟩
      | jg v I U=>rw[υ] at I;cases I;simp only[Row.hf] at U;omega
     ·exact .bad
    ·exact .bad
   ·exact .bad
  ·exact .bad
 ·exact .bad
end
section
variable {P:Program} {T:bf} {S:aH} {B:aU} {H:χ} {σ:List Row}
def qb (o:Option η) (d:Int):Option Int:=match o with
 | none=>some d
 | some (.z (.int _ n))=>some n
 | _=>none
def vR (S:aH) (B:aU) (σ:List Row):Option η->Option Value->Prop
 | none,none=>True
 | some a,some v=>av S B σ a v
 | _,_=>False
theorem ND {k:IntKind} {n:Int} {y:Nat} {code:BoundsCode} (h:0<=n/\n<=y) {G:χ} {K:Nat->χ->Prop} {E:Value->χ->Prop} (ς:K n.toNat G):π P (Instr.sliceBound (.int k n) y code) G K E:=by
 unfold Instr.sliceBound;refine π.bind' (π.pure' ?_);simp only[h,and_self,if_true];exact π.pure' ς
theorem Du {isSlice:Bool} {len cap:Nat} {lo hi:Option η} {lv hv:Option Value} (k8:vR S B σ lo lv) (o7:vR S B σ hi hv) {a b:Int} (μ:qb lo 0=some a) (hb:qb hi len=some b) (h:0<=a/\a<=b/\b<=cap) {G:χ} {K:Nat×Nat×Nat->χ->Prop} {E:Value->χ->Prop}
  (ς:K (a.toNat,b.toNat,cap) G):π P (Instr.sliceBounds isSlice len cap lv hv none) G K E:=by
 unfold Instr.sliceBounds;refine π.bind' (π.pure' ?_);have low:∀(n:Nat),b.toNat=n->π P (match lv with|some v=>Instr.sliceBound v n (if(none:Option Value).isSome then .slice3C else .sliceB)|none=>pure 0) G (λl G'=>π P (pure (l,n,cap)) G' K E) E:=λn Η=>by
  subst Η;cases lo with
  | none=>
   cases lv with
   | some v=>exact k8.elim
   | none=>cases μ;exact π.pure' (π.pure' ς)
  | some x=>
   cases lv with
   | none=>exact k8.elim
   | some v=>
    unfold qb at μ;split at μ
    ·rename_i e;cases e
    ·rename_i k n e;cases e;cases μ;cases k8;exact ND R (π.pure' ς)
    ·cases μ
 cases hi with
 | none=>
  cases hv with
  | some v=>exact o7.elim
  | none=>
   cases hb;refine π.bind' (π.pure' ?_);have:=low len θ;cases lv with
   | none=>exact π.bind' this
   | some v=>exact π.bind' this
 | some x=>
  cases hv with
  | none=>exact o7.elim
  | some v=>
   unfold qb at hb;split at hb
   ·rename_i e;cases e
   ·rename_i k n e;cases e;cases hb;cases o7;refine π.bind' (ND R ?_);have:=low _ rfl;cases lv with
    | none=>exact π.bind' this
    | some v=>exact π.bind' this
   ·cases hb
def Dv (T:bf) (ty:TypeId) (x:η) (lo hi:Option η):cF:=match T ty with
 | some i=>match i.bG,x with
  | .string,.z (.string s)=>match qb lo 0,qb hi s.size with
   | some a,some b=>.ca (0<=a/\a<=b/\b<=s.size) (.ok (.z (.string (s.extract a.toNat b.toNat))))
   | _,_=>.bad
  | .slice e,.sl ex k l=>match T e,qb lo 0,qb hi l.length with
   | some b4,some a,some b=>if l.isEmpty=true\/k=b4.size then .ca (0<=a/\a<=b/\b<=l.length) (.ok (.sl (ex&&hi.isNone) k ((l.take b.toNat).drop a.toNat))) else .bad
   | _,_,_=>.bad
  | .array n e,.ab cells=>match T e with
   | some b4=>if b4.size=1/\b4.agg=false/\n<=cells.length/\0<n/\lo.isNone/\hi.isNone/\(cells.take n).all (λc=>decide (c.cells.length=1)&&η.a9 [] c) then .ok (.sl true 1 (cells.take n)) else .bad
   | none=>.bad
  | _,_=>.bad
 | none=>.bad
def Dw (T:bf) (ty:TypeId) (σ:List Row) (x:η) (lo hi:Option η):da:=match T ty with
 | some i=>match i.bG,x with
  | .slice e,.ms id n i len=>match T e,σ[id]?,qb lo 0,qb hi len with
   | some b4,some (.cells _ k l),some a,some b=>if k=b4.size/\l.length=n then .ca (0<=a/\a<=b/\b<=len) (.ok (.ms id n (i+a.toNat) (b.toNat-a.toNat)) σ) else .bad
   | _,_,_,_=>.bad
  | _,_=>.bad
 | none=>.bad
theorem VY {ex:Bool} {k:Nat} {l:List η} {base:Option Addr} {len cap:Nat} (h:av S B σ (.sl ex k l) (.slice base len cap)) {a b size:Nat} (gU:a<=b) (hb:b<=l.length) (ς:l.isEmpty=true\/k=size) (HP:Bool) (hex:HP=true->ex=true/\b=l.length) :
  av S B σ (.sl HP k ((l.take b).drop a)) (.slice (if cap=a then base else base.map (·.add (a*size))) (b-a) (cap-a)):=by
 obtain⟨Vx,Hv,e,I,U,ξ⟩:=rk h;cases e;have hlen:((l.take b).drop a).length=b-a:=by simp;omega
 by_cases Θ:(l.take b).drop a=[]
 ·rw[Θ] at hlen ⊢;have:b-a=0:=by simpa using hlen.symm
  rw[this];refine .iK _ _ λhe=>?_;obtain⟨Δ,Γ⟩:=hex he;have:=U Δ;omega
 ·have υ:l≠[]:=by rintro rfl;simp at Θ
  obtain⟨db,o,w,rfl,Κ,aE,bd⟩:=ξ υ;have hs:k=size:=ς.resolve_left λx=>υ (List.isEmpty_iff.1 x);subst hs;have ru:a<b:=by
   apply Classical.byContradiction;intro Η;apply Θ;have:b-a=0:=R;rw[this] at hlen;exact dw.1 hlen
  rw[if_neg R];simp only[Option.map_some,tY];have el:∀(i:Nat) (e:η),((l.take b).drop a)[i]?=some e->l[a+i]?=some e:=λi e hi=>by
   rw[List.getElem?_drop,List.getElem?_take] at hi;split at hi
   ·exact hi
   ·cases hi
  have hle:((l.take b).drop a).length<=cap-a:=by rw[hlen];omega
  have:=av.sl (S:=S) (B:=B) (σ:=σ) (ex:=HP) (k:=k) (l:=(l.take b).drop a) db (o+a*k) (cap-a) (λi j=>w (a+i) j) (λhe=>by obtain⟨Δ,Γ⟩:=hex he;have:=U Δ;omega) hle
   (λi e hi=>Κ _ e (el i e hi)) (λi e hi j c δ=>by have:=aE _ e (el i e hi) j c δ;rw[Nat.add_mul] at this;rw[Nat.add_assoc o];exact this) (λi e hi j c δ=>bd _ e (el i e hi) j c δ)
  rw[hlen] at this;exact this
theorem VZ (Ι:bV P T) (ω:Holds S B σ H) (ty:TypeId) {x:η} {v:Value} (γ:av S B σ x v) {lo hi:Option η} {lv hv:Option Value} (k8:vR S B σ lo lv) (o7:vR S B σ hi hv) :
  cM P (Instr.sliceAt ty v lv hv none) S B H σ ((Dv T ty x lo hi).dv σ):=by
 unfold Dv;cases ba:T ty with
 | none=>exact .bad
 | some i=>
  simp only;split
  ·rename_i s hu;cases γ;split
   ·rename_i a b μ hb;refine cM.ca (r:=(cF.ok (.z (.string (s.extract a.toNat b.toNat)))).dv σ) λh K ζ=>?_;unfold Instr.sliceAt;refine π.bind' (Ι.bG ba ?_);rw[hu];simp only;unfold Instr.slice;refine π.bind' (Ι.bG ba ?_);rw[hu];simp only[Option.isSome_none,Bool.false_eq_true,if_false];refine π.bind' (Du k8 o7 μ hb h ?_);exact π.pure' (.same ω ζ (.z _))
   ·exact .bad
  ·rename_i e ex k l hu;split
   ·rename_i b4 a b dT μ hb;split
    ·rename_i ς;refine cM.ca (r:=(cF.ok (.sl (ex&&hi.isNone) k ((l.take b.toNat).drop a.toNat))).dv σ) λh K ζ=>?_;obtain⟨base,cap,rfl,I,U,_⟩:=rk γ;unfold Instr.sliceAt;refine π.bind' (Ι.bG ba ?_);rw[hu];simp only;unfold Instr.slice;refine π.bind' (Ι.bG ba ?_);rw[hu];simp only;refine π.bind' (Du k8 o7 μ hb R ?_);simp only;refine π.bind' (Ι.size dT ?_);refine π.pure' (.same ω ζ (VY γ R R ς _ λhe=>?_));simp only[Bool.and_eq_true] at he;refine⟨he.1,?_⟩;cases hi with
     | none=>cases hb;simp
     | some=>simp at he
    ·exact .bad
   ·exact .bad
  ·rename_i n e cells hu;split
   ·rename_i b4 dT;split
    ·rename_i ε;obtain⟨c1,c2,c3,c4,nx,sL,rv⟩:=ε;intro K ζ;cases γ with
     | ab b o w I U=>
      cases lo with
      | some=>simp at nx
      | none=>
       cases hi with
       | some=>simp at sL
       | none=>
        cases lv with
        | some=>exact k8.elim
        | none=>
         cases hv with
         | some=>exact o7.elim
         | none=>
          unfold Instr.sliceAt;refine π.bind' (Ι.bG ba ?_);rw[hu];simp only;refine π.bind' (π.pure' ?_);refine π.bind' (Du (S:=S) (B:=B) (σ:=σ) (lo:=none) (hi:=none) (lv:=none) (hv:=none) trivial trivial (a:=0) (b:=n) rfl rfl R ?_);simp only[Int.toNat_natCast];refine π.bind' (Ι.size dT ?_);rw[c1];refine π.pure' (.same ω ζ ?_);have hQ:(0:Int).toNat=0:=rfl;rw[hQ,if_neg R,tY];simp only[Nat.zero_mul,Nat.add_zero,Nat.sub_zero];have hlen:(cells.take n).length=n:=by simp;omega
          rw[List.all_eq_true] at rv;have el:∀(i:Nat) (e:η),(cells.take n)[i]?=some e->cells[i]?=some e/\e.cells=[e]:=λi e hi=>by
           have hm:=rv e (cr hi);simp only[Bool.and_eq_true] at hm;rw[List.getElem?_take] at hi;split at hi
           ·exact⟨hi,η.Hx hm.2⟩
           ·cases hi
          have:=av.sl (S:=S) (B:=B) (σ:=σ) (ex:=true) (k:=1) (l:=cells.take n) b o n (λi _=>w i) (λ_=>hlen.symm) R (λi e hi=>by rw[(el i e hi).2];rfl)
           (λi e hi j c δ=>by
            rw[(el i e hi).2] at δ
            match j with
            | 0=>simp at δ;subst δ;have:=I i _ (el i _ hi).1;simpa using this
            | j+1=>simp at δ) (λi e hi j c δ=>by
            rw[(el i e hi).2] at δ
            match j with
            | 0=>simp at δ;subst δ;exact U i _ (el i _ hi).1
            | j+1=>simp at δ)
          rw[hlen] at this;exact this
    ·exact .bad
   ·exact .bad
  ·exact .bad
theorem V0 (Ι:bV P T) (ω:Holds S B σ H) (ty:TypeId) {x:η} {v:Value} (γ:av S B σ x v) {lo hi:Option η} {lv hv:Option Value} (k8:vR S B σ lo lv) (o7:vR S B σ hi hv) :
  cM P (Instr.sliceAt ty v lv hv none) S B H σ (Dw T ty σ x lo hi):=by
 unfold Dw;cases ba:T ty with
 | none=>exact .bad
 | some k0=>
  simp only;split
  ·rename_i e id n i len hu;split
   ·rename_i b4 t k l a b dT υ μ hb;split
    ·rename_i ε;obtain⟨ς,Η⟩:=ε;refine .ca λh K ζ=>?_;cases γ with
     | ms cap I U ξ Κ aE bd=>
      rw[υ] at I;cases I;unfold Instr.sliceAt;refine π.bind' (Ι.bG ba ?_);rw[hu];simp only;unfold Instr.slice;refine π.bind' (Ι.bG ba ?_);rw[hu];simp only;refine π.bind' (Du k8 o7 μ hb R ?_);simp only;refine π.bind' (Ι.size dT ?_);refine π.pure' (.same ω ζ (.ms (cap-a.toNat) υ Η ξ R R ?_));by_cases ε:cap=a.toNat
      ·exact .inl R
      ·rcases bd with bd|⟨db,N,rfl,rfl,bd⟩
       ·exact .inl R
       ·refine .inr ⟨db,N,rfl,?_,?_⟩
        ·rw[if_neg ε];simp only[Option.map_some,tY,ς,Nat.add_mul]
        ·have:i+a.toNat+(cap-a.toNat)=i+cap:=by omega
         rw[this];exact bd
     | jg v I U=>rw[υ] at I;cases I;simp only[Row.hf] at U;omega
    ·exact .bad
   ·exact .bad
  ·exact .bad
def Dx (T:bf) (ty:TypeId) (x:η):cF:=match T ty with
 | some i=>match i.bG,x with
  | .string,.z (.string s)=>.ok (.z (.int .i64 s.size))
  | .slice _,.sl _ _ l=>.ok (.z (.int .i64 l.length))
  | .array n _,_=>.ok (.z (.int .i64 n))
  | _,_=>.bad
 | none=>.bad
def Dy (T:bf) (ty:TypeId) (σ:List Row) (x:η):da:=match T ty with
 | some i=>match i.bG,x with
  | .slice _,.ms id n _ len=>match σ[id]? with
   | some (.cells _ _ l)=>if l.length=n then .ok (.z (.int .i64 len)) σ else .bad
   | _=>.bad
  | _,_=>.bad
 | none=>.bad
theorem V1 (Ι:bV P T) (ω:Holds S B σ H) (ty rt:TypeId) {x:η} {v:Value} (γ:av S B σ x v):cM P (Builtin.len_ #[ty] rt #[v]) S B H σ ((Dx T ty x).dv σ):=by
 unfold Dx;cases hi:T ty with
 | none=>exact .bad
 | some i=>
  simp only;have go:∀(K:η->List Row->Prop) (n:Int),K (.z (.int .i64 n)) σ->π P (pure (goInt n):Sem Value) H (iL S B H σ K) (λ_ _=>False):=λK n ζ=>π.pure' (.same ω ζ (.z _));split
  ·rename_i s hu;cases γ;intro K ζ;unfold Builtin.len_;refine π.bind' (Ι.bG hi ?_);rw[hu];exact go K _ ζ
  ·rename_i e ex k l hu;obtain⟨base,cap,rfl,_⟩:=rk γ;intro K ζ;unfold Builtin.len_;refine π.bind' (Ι.bG hi ?_);rw[hu];exact go K _ ζ
  ·rename_i n e hu;intro K ζ;unfold Builtin.len_;refine π.bind' (Ι.bG hi ?_);rw[hu];cases v<;>exact go K _ ζ
  ·exact .bad
theorem V2 (Ι:bV P T) (ω:Holds S B σ H) (ty rt:TypeId) {x:η} {v:Value} (γ:av S B σ x v):cM P (Builtin.len_ #[ty] rt #[v]) S B H σ (Dy T ty σ x):=by
 unfold Dy;cases hi:T ty with
 | none=>exact .bad
 | some i=>
  simp only;split
  ·rename_i e id n j len hu;split
   ·rename_i t k l υ;split
    ·rename_i Η;intro K ζ;cases γ with
     | ms cap I U ξ Κ aE bd=>
      unfold Builtin.len_;refine π.bind' (Ι.bG hi ?_);rw[hu];exact π.pure' (.same ω ζ (.z _))
     | jg v I U=>rw[υ] at I;cases I;simp only[Row.hf] at U;omega
    ·exact .bad
   ·exact .bad
  ·exact .bad
def xP (T:bf) (src dst:TypeId) (x:η):cF:=match T src,T dst with
 | some _,some j=>match j.bG,x with
  | .int k,.z (.int _ n)=>.ok (.z (.int k (k.wrap n)))
  | _,_=>.bad
 | _,_=>.bad
theorem V3 (Ι:bV P T) (ω:Holds S B σ H) (src dst:TypeId) {x:η} {v:Value} (γ:av S B σ x v):cM P (convert src dst v) S B H σ ((xP T src dst x).dv σ):=by
 unfold xP;split
 ·rename_i i j hi δ;split
  ·rename_i k kk n hu;cases γ;intro K ζ;unfold convert;refine π.bind' (Ι.bG hi (π.bind' (Ι.bG δ ?_)));rw[hu];exact π.pure' (.same ω ζ (.z _))
  ·exact .bad
 ·exact .bad
def Dz (l:List η):cF:=match l with
 | [.z (.int k x),.z (.int _ y)]=>.ok (.z (.int k (if y > x then y else x)))
 | _=>.bad
theorem V4 (ω:Holds S B σ H) (ea:Array TypeId) (rt:TypeId) {a b:η} {u v:Value} (μ:av S B σ a u) (hb:av S B σ b v):cM P (Builtin.max_ ea rt #[u,v]) S B H σ ((Dz [a,b]).dv σ):=by
 unfold Dz;split
 ·rename_i k x kk y e;simp at e;obtain⟨rfl,rfl⟩:=e;cases μ;cases hb;intro K ζ;exact π.pure' (.same ω ζ (.z _))
 ·exact .bad
end
def mM (d:TypeDesc) (x y:Value):Option Bool:=match d,x,y with
 | .int _,.int k a,.int ae b=>if k=ae then some (a==b) else none
 | .string,.string a,.string b=>some (a==b)
 | .bool,.bool a,.bool b=>some (a==b)
 | _,_,_=>none
def jQ:List (TypeDesc×Nat)->List η->List η->Option Bool
 | [],_,_=>some true
 |(d,o)::r,xs,cE=>match xs[o]?,cE[o]? with
  | some (.z x),some (.z y)=>match mM d x y,jQ r xs cE with
   | some b,some c=>some (b&&c)
   | _,_=>none
  | _,_=>none
def aeqv (T:bf) (ty:TypeId) (a b:η):Option Bool:=match T ty with
 | some i=>match a,b with
  | .z x,.z y=>if jh i.bG then mM i.bG x y else none
  | .aV xs,.aV cE=>match i.eqs with|some items=>if xs.length=items.length/\cE.length=items.length then jQ items xs cE else none|none=>none
  | _,_=>none
 | none=>none
section
variable {P:Program} {T:bf} {S:aH} {B:aU} {H:χ} {σ:List Row}
theorem π.forIn_nil {α β:Type} {init:β} {f:α->β->Sem (ForInStep β)} {G:χ} {K:β->χ->Prop} {E:Value->χ->Prop} (h:K init G):π P (forIn ([]:List α) init f) G K E:=by
 rw[List.forIn_nil];exact h
theorem π.forIn_cons {α β:Type} {a:α} {l:List α} {init:β} {f:α->β->Sem (ForInStep β)} {G:χ} {K:β->χ->Prop} {E:Value->χ->Prop}
  (h:π P (f a init) G (λr G'=>match r with|.done b=>K b G'|.yield b=>π P (forIn l b f) G' K E) E):π P (forIn (a::l) init f) G K E:=by
 rw[List.forIn_cons];refine π.bind' (π.mono (λr G' κ=>?_) (λ_ _ h=>h) _ h);cases r with
 | done b=>exact π.pure' κ
 | yield b=>exact κ
theorem forIn_range {β:Type} (m:Nat) (init:β) (f:Nat->β->Sem (ForInStep β)):forIn [:m] init f=forIn (List.range m) init f:=by
 rw[Std.Legacy.Range.forIn_eq_forIn_range'];simp[Std.Legacy.Range.size,List.range_eq_range']
theorem HQ {ty:TypeId} {d:TypeDesc} (hd:P.underlying ty=some d) (ν:jh d=true) {x y:Value} {b:Bool} (h:mM d x y=some b) {n:Nat} {G:χ} {K:Bool->χ->Prop} {E:Value->χ->Prop} (ς:K b G):π P (Op.equalIn (n+1) ty x y) G K E:=by
 unfold Op.equalIn;refine π.bind' (π.underlying hd ?_);unfold mM at h;split at h
 ·split at h
  ·rename_i e;subst e;cases h;simp only[if_true];exact π.pure' ς
  ·cases h
 ·cases h;exact π.pure' ς
 ·cases h;exact π.pure' ς
 ·cases h
def HR (xs:List η) (vs:Array Value):Prop:=∀(o:Nat) (v:Value),xs[o]?=some (η.z v)->vs[o]?=some v
theorem z2 {xs:List η} {vs:Array Value} (h:av S B σ (.aV xs) (.agg vs)):HR xs vs:=λo v hv=>by
 cases h with
 | aV _ Τ af=>
  have aB:o<vs.size:=by rw[<-Τ];exact(cf.1 hv).1
  have γ:=fh aB
  have:=af o _ _ hv γ;generalize vs[o]=u at this γ;cases this;exact γ
theorem z3 {ty:TypeId} {d:TypeDesc} (hd:P.underlying ty=some d) (ν:jh d=true) {vs:Array Value} {o:Nat} {v:Value} (hv:vs[o]?=some v) {G:χ} {K:Value->χ->Prop} {E:Value->χ->Prop} (ς:K v G):π P (part ty vs o) G K E:=by
 unfold part;refine π.bind' (π.isAgg hd ?_);have:lU d=false:=by cases d<;>first|rfl|cases ν
 rw[this];simp only[Bool.false_eq_true,if_false,hv];exact π.pure' ς
theorem V5 {xs cE:List η} {vs ws:Array Value} (γ:HR xs vs) (Ο:HR cE ws) {ty:TypeId} {items:List (TypeDesc×Nat)} (Ψ:Ht P ty (some items)) {b:Bool} (h:jQ items xs cE=some b) {n:Nat} {G:χ} {K:Bool->χ->Prop} {E:Value->χ->Prop} (ς:K b G) :
  π P (Op.equalIn (n+2) ty (.agg vs) (.agg ws)) G K E:=by
 obtain⟨_,_,Ψ⟩:=Ψ;rcases Ψ with⟨dc,hu,cH,dr,qc⟩|⟨m,e,d,f,hu,he,ν,Χ,cv,dr⟩
 ·unfold Op.equalIn;refine π.bind' (π.underlying hu ?_);simp only;refine π.bind' ?_;show π P (if P.stoodInHeld ty=true then _ else _) G K E;rw[cH];simp only[Bool.false_eq_true,if_false];have key:∀(l:List Field) (c:Bool),(∀f∈l,f.name≠ "_" /\ ∃d,P.underlying f.type=some d/\jh d=true)->jQ (l.map λf=>((P.underlying f.type).getD .invalid,f.offset)) xs cE=some c->
    ∀qd:Option Bool×PUnit->χ->Prop,qd (if c then none else some false,⟨⟩) G->π P (forIn l (none,⟨⟩) λ(f:Field) (_:Option Bool×PUnit)=>if f.name≠ "_" then do
     let a <-part f.type vs f.offset
     let b <-part f.type ws f.offset
     let r <-Op.equalIn (n+1) f.type a b
     if(!r)=true then pure (ForInStep.done (some false,⟨⟩)) else pure (ForInStep.yield (none,⟨⟩))
    else pure (ForInStep.yield (none,⟨⟩))) G qd E:=by
   intro l
   induction l with
   | nil=>intro c _ ε qd U;simp[jQ] at ε;subst ε;exact .forIn_nil (by simpa using U)
   | cons f l Β=>
    intro c υ ε qd U;obtain⟨vS,d,hd,ν⟩:=υ f θ;simp only[List.map_cons,jQ,hd,Option.getD_some] at ε;split at ε<;>try cases ε
    rename_i x y vT xQ;split at ε<;>try cases ε
    rename_i bJ c1 k4 n8;refine .forIn_cons ?_;rw[if_pos vS];refine π.bind' (z3 hd ν (γ _ _ vT) (π.bind' (z3 hd ν (Ο _ _ xQ) (π.bind' (HQ hd ν k4 ?_)))));cases bJ with
    | false=>exact π.pure' (by simpa using U)
    | true=>exact π.pure' (Β c1 (λg Ρ=>υ g (by simp[Ρ])) n8 qd (by simpa using U))
  refine π.bind' ?_;have DC:(forIn dc (none,⟨⟩) λ(f:Field) (_:Option Bool×PUnit)=>if f.name≠ "_" then do
     let a <-part f.type vs f.offset
     let b <-part f.type ws f.offset
     let r <-Op.equalIn (n+1) f.type a b
     if(!r)=true then pure (ForInStep.done (some false,⟨⟩)) else pure (ForInStep.yield (none,⟨⟩))
    else pure (ForInStep.yield (none,⟨⟩)):Sem (Option Bool×PUnit))=forIn dc.toList (none,⟨⟩) _:=(Array.forIn_toList ..).symm
  refine Eq.mpr (congrArg (λs=>π P s G _ E) DC) ?_;refine key dc.toList b qc (by rw[<-dr];exact h) _ ?_;cases b<;>exact π.pure' ς
 ·unfold Op.equalIn;refine π.bind' (π.underlying hu ?_);simp only;refine π.bind' (π.sizeOf Χ ?_);rw[cv];have key:∀(l:List Nat) (c:Bool),jQ (l.map λi=>(d,i)) xs cE=some c->
    ∀qd:Option Bool×PUnit->χ->Prop,qd (if c then none else some false,⟨⟩) G->π P (forIn l (none,⟨⟩) λ(i:Nat) (_:Option Bool×PUnit)=>do
     let a <-part e vs (i*1)
     let b <-part e ws (i*1)
     let r <-Op.equalIn (n+1) e a b
     if(!r)=true then pure (ForInStep.done (some false,⟨⟩)) else pure (ForInStep.yield (none,⟨⟩))) G qd E:=by
   intro l
   induction l with
   | nil=>intro c ε qd U;simp[jQ] at ε;subst ε;exact .forIn_nil (by simpa using U)
   | cons i l Β=>
    intro c ε qd U;simp only[List.map_cons,jQ] at ε;split at ε<;>try cases ε
    rename_i x y vT xQ;split at ε<;>try cases ε
    rename_i bJ c1 k4 n8;refine .forIn_cons ?_;refine π.bind' (z3 he ν (by rw[Nat.mul_one];exact γ _ _ vT) (π.bind' (z3 he ν (by rw[Nat.mul_one];exact Ο _ _ xQ) (π.bind' (HQ he ν k4 ?_)))));cases bJ with
    | false=>exact π.pure' (by simpa using U)
    | true=>exact π.pure' (Β c1 n8 qd (by simpa using U))
  refine π.bind' ?_;rw[forIn_range];refine key (List.range m) b (by rw[<-dr];exact h) _ ?_;cases b<;>exact π.pure' ς
theorem HS (Ι:bV P T) {ty:TypeId} {a b:η} {v w:Value} {r:Bool} (μ:av S B σ a v) (hb:av S B σ b w) (h:aeqv T ty a b=some r) {K:Bool->χ->Prop} {E:Value->χ->Prop} (ς:K r H):π P (Op.equal ty v w) H K E:=by
 unfold aeqv at h;split at h
 ·rename_i i hi;obtain⟨⟨hu,Ψ⟩,_⟩:=Ι ty i hi;split at h
  ·split at h
   ·rename_i ν;cases μ;cases hb;exact HQ hu ν h ς
   ·cases h
  ·split at h
   ·rename_i items dr;rw[dr] at Ψ;split at h<;>try cases h
    cases μ with
    | aV vs Τ af=>cases hb with
     | aV ws k1 cJ=>exact V5 (z2 (.aV vs Τ af)) (z2 (.aV ws k1 cJ)) Ψ h ς
   ·cases h
  ·cases h
 ·cases h
theorem NF (a b:ByteArray):(a==b)=(a.data==b.data):=by
 cases a;cases b;rfl
theorem V6 {a b:ByteArray} (h:(a==b)=true):a=b:=by
 rw[NF] at h;have:=eq_of_beq h;cases a;cases b;simp at this;simp[this]
theorem V7 (a:ByteArray):(a==a)=true:=by rw[NF];exact beq_self_eq_true _
theorem NG {d:TypeDesc} {x y:Value} (h:mM d x y=some true):x=y/\∀n,Instr.sameBits n x x=true:=by
 unfold mM at h;split at h
 ·split at h
  ·rename_i e;subst e;simp only[Option.some.injEq,beq_iff_eq] at h;subst h;exact⟨rfl,λn=>by cases n<;>simp[Instr.sameBits]⟩
  ·cases h
 ·simp only[Option.some.injEq] at h;have:=V6 h;subst this;exact⟨rfl,λn=>by cases n<;>simp[Instr.sameBits,V7]⟩
 ·simp only[Option.some.injEq,beq_iff_eq] at h;subst h;exact⟨rfl,λn=>by cases n<;>simp[Instr.sameBits]⟩
 ·cases h
theorem V8 {xs cE:List η}:∀(items:List (TypeDesc×Nat)),jQ items xs cE=some true->∀o,o∈items.map (·.2)->∃x,xs[o]?=some (.z x)/\cE[o]?=some (.z x)/\∀n,Instr.sameBits n x x=true:=by
 intro items
 induction items with
 | nil=>intro _ o Α;simp at Α
 | cons a items Β=>
  obtain⟨d,p⟩:=a;intro h o Α;simp only[jQ] at h;split at h<;>try cases h
  rename_i x y vT xQ;split at h<;>try cases h
  rename_i b c hb ε;simp only[Option.some.injEq,Bool.and_eq_true] at h;obtain⟨rfl,rfl⟩:=h;simp only[List.map_cons,List.mem_cons] at Α;rcases Α with rfl|Α
  ·obtain⟨Δ,Γ⟩:=NG hb;subst Δ;exact⟨x,vT,xQ,Γ⟩
  ·exact Β ε o Α
theorem V9 (Ι:bV P T) {ty:TypeId} {a b:η} {v w:Value} (μ:av S B σ a v) (hb:av S B σ b w) (h:aeqv T ty a b=some true):v=w/\a=b/\∀n,Instr.sameBits (n+1) v v=true:=by
 unfold aeqv at h;split at h
 ·rename_i i hi;obtain⟨⟨hu,Ψ⟩,_⟩:=Ι ty i hi;split at h
  ·split at h
   ·obtain⟨Δ,Γ⟩:=NG h;subst Δ;cases μ;cases hb;exact⟨rfl,rfl,λn=>Γ _⟩
   ·cases h
  ·rename_i xs cE;split at h
   ·rename_i items dr;rw[dr] at Ψ;split at h<;>try cases h
    rename_i hlen;obtain⟨I,U⟩:=hlen;have xR:=Ψ.2.1;have get:∀o,o<items.length->∃x,xs[o]?=some (.z x)/\cE[o]?=some (.z x)/\∀n,Instr.sameBits n x x=true:=λo Α=>V8 items h o (by rw[xR];simpa using Α);have xS:xs=cE:=by
     apply List.ext_getElem?;intro o;by_cases Α:o<items.length
     ·obtain⟨x,Τ,af,_⟩:=get o Α;rw[Τ,af]
     ·rw[List.getElem?_eq_none R,List.getElem?_eq_none R]
    cases μ with
    | aV vs Τ af=>cases hb with
     | aV ws k1 cJ=>
      have NH:∀o,o<items.length->∃x,vs[o]?=some x/\ws[o]?=some x/\∀n,Instr.sameBits n x x=true:=λo Α=>by
       obtain⟨x,c1,c2,c3⟩:=get o Α;exact⟨x,z2 (.aV vs Τ af) o x c1,z2 (.aV ws k1 cJ) o x c2,c3⟩
      have qe:vs=ws:=by
       apply Array.ext_getElem?;intro o;by_cases Α:o<items.length
       ·obtain⟨x,c1,c2,_⟩:=NH o Α;rw[c1,c2]
       ·rw[Array.getElem?_eq_none R,Array.getElem?_eq_none R]
      subst qe;refine⟨rfl,by rw[xS],λn=>?_⟩;simp only[Instr.sameBits,beq_self_eq_true,Bool.true_and,List.all_eq_true];intro p ψ;obtain⟨o,Α⟩:=List.getElem?_of_mem ψ;rw[List.getElem?_zip_eq_some] at Α;have z4:o<items.length:=by
       have:=(cf.1 Α.1).1;simp at this;omega
      obtain⟨x,c1,_,c3⟩:=NH o z4;rw[Array.getElem?_toList,c1] at Α;obtain⟨Δ,Γ⟩:=Α;cases Δ;rw[<-Option.some.inj Γ];exact c3 n
   ·cases h
  ·cases h
 ·cases h
end
end Go.TL
