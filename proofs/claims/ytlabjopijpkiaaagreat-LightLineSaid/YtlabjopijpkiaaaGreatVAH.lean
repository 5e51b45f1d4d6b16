import Derived.IntWalk
import Derived.Laws.Sem
import Derived.Test.YtlabjopijpkiaaaGreatVAG
set_option maxHeartbeats 16000000
set_option maxRecDepth 20000
set_option linter.unusedSectionVars false
set_option linter.unusedSimpArgs false
set_option linter.unusedVariables false
namespace Go.TL
open Go.Conc
section
variable {P:Program} {T:bb} {S:aJ} {B:aV} {H:χ} {σ:List Row}
def CI (σ:List Row) (a:θ):df:=if a.cells.all (θ.a' σ)=true then .ok (.ao a.cells) σ else .bad
def xv (a:θ):cK:=if a.cells.all (θ.a' [])=true then .ok (.ao a.cells) else .bad
def xw (t:TypeId) (σ:List Row) (a:θ):df:=if a.cells.all (θ.a' σ)=true then .ok (.ar σ.length 1 0 0) (σ++[.cells t a.cells.length [a]]) else .bad
theorem GO (Α:Holds S B σ H) (ty:TypeId) {a:θ} {v:Value} (κ:ay S B σ a v) (dY:a.cells.all (θ.a' σ)=true):cR P (do pure (.pointer (some (<-newVar ty v)))) S B H σ (.ok (.ao a.cells) σ):=by
 intro K ζ;refine π.bind' ?_;unfold newVar newRow;refine π.bind' (zD Α v.cells ty λr J U μ=>π.pure' (π.pure' ⟨_,_,_,_,ζ,U,J,μ,?_⟩));exact L7 μ (fZ.one κ dY)
theorem TR (Α:Holds S B σ H) (ty:TypeId) {a:θ} {v:Value} (κ:ay S B σ a v):cR P (Instr.box ty v) S B H σ (CI σ a):=by
 unfold CI;split
 ·rename_i dY;exact GO Α ty κ dY
 ·exact .bad
theorem TS (Α:Holds S B σ H) (ty:TypeId) {a:θ} {v:Value} (κ:ay S B σ a v):cR P (Instr.box ty v) S B H σ ((xv a).dE σ):=by
 unfold xv;split
 ·rename_i dY;exact GO Α ty κ (xr dY)
 ·exact .bad
theorem L8 (Α:Holds S B σ H) (ty:TypeId) {a:θ} {v:Value} (κ:ay S B σ a v):cR P (do pure (.pointer (some (<-newVar ty v)))) S B H σ (xw ty σ a):=by
 unfold xw;split
 ·rename_i dY;intro K ζ;refine π.bind' ?_;unfold newVar newRow;refine π.bind' (zC Α (fZ.one κ dY) ty λr _ J U μ=>π.pure' (π.pure' ⟨_,_,_,_,ζ,U,J,μ,?_⟩));have:=ay.ar (S:=S) (B:=B++[some (r,v.cells.size)]) (σ:=σ++[.cells ty a.cells.length [a]]) (id:=σ.length) (n:=1) (i:=0) (j:=0) (k:=a.cells.length) (t:=ty) (l:=[a]) (b:=r) (N:=v.cells.size) η rfl (by rw[<-Α.len];simp);simpa using this
 ·exact .bad
theorem TT (Α:Holds S B σ H) (ty:TypeId) {a:θ} {v:Value} (κ:ay S B σ a v):cR P (Instr.box ty v) S B H σ (xw ty σ a):=L8 Α ty κ
def CJ (T:bb) (ty:TypeId) (σ:List Row):df:=match T ty with|some i=>xw ty σ (hE i.zero)|none=>.bad
def CK (T:bb) (ty:TypeId):cK:=match T ty with|some i=>xv (hE i.zero)|none=>.bad
theorem TU (Κ:bV P T) (Α:Holds S B σ H) (ty:TypeId):cR P (Instr.alloc ty true (.tuple #[])) S B H σ (CJ T ty σ):=by
 unfold CJ;cases hi:T ty with
 | none=>exact .bad
 | some i=>
  intro K ζ;unfold Instr.alloc;exact π.bind' (Κ.zero hi (L8 Α ty (pP i.zero) K ζ))
theorem TV (Κ:bV P T) (Α:Holds S B σ H) (ty:TypeId):cR P (Instr.alloc ty true (.tuple #[])) S B H σ ((CK T ty).dE σ):=by
 unfold CK;cases hi:T ty with
 | none=>exact .bad
 | some i=>
  simp only[xv];split
  ·rename_i dY;intro K ζ;unfold Instr.alloc;exact π.bind' (Κ.zero hi (GO Α ty (pP i.zero) (xr dY) K ζ))
  ·exact .bad
def q3 (pl:Nat->Option (Nat×Nat×Nat)) (k:Nat) (a':θ->Bool) (l:List θ):List (Nat×θ)->Option (List θ)
 | []=>some l
 |(x,a)::r=>match pl x with
  | some (i,j,n)=>match l[i]? with
   | some e=>if a.cells.length=n/\j+n<=k/\a.cells.all a'=true then q3 pl k a' (l.set i (e.sr j a.cells)) r else none
   | none=>none
  | none=>none
theorem GP {k:Nat} {a':θ->Bool} (n9:∀a:θ,a' a=true->a.a' σ=true) {pl:Nat->Option (Nat×Nat×Nat)} {place:Nat->Option (Nat×Nat)} (ih:∀x i j n,pl x=some (i,j,n)->place x=some (i*k+j,n)) {env:Ω} {t:Array Value} (cT:du S B σ env t) :
  ∀(c5:List (Nat×Operand)) (c:Array Value) (l eg:List θ),fZ S B σ c k l->q3 pl k a' l (c5.map λp=>(p.1,aU env p.2))=some eg->
  ∃c',Instr.fill place c (c5.map λp=>(p.1,bp t p.2))=some c'/\c'.size=c.size/\fZ S B σ c' k eg/\eg.length=l.length:=by
 intro c5
 induction c5 with
 | nil=>intro c l eg δ h;cases h;exact⟨c,rfl,rfl,δ,rfl⟩
 | cons p c5 Β=>
  obtain⟨x,o⟩:=p;intro c l eg δ h;simp only[List.map_cons,q3] at h;split at h<;>try cases h
  rename_i i j n ψ;split at h<;>try cases h
  rename_i e he;split at h<;>try cases h
  rename_i B4;obtain⟨J,U,μ⟩:=B4;have κ:=lX cT o;have dY:(aU env o).cells.all (θ.a' σ)=true:=by
   rw[List.all_eq_true] at μ ⊢;exact λa κ=>n9 a (μ a κ)
  obtain⟨cv,_⟩:=κ.cells dY;obtain⟨k1,cN⟩:=δ.put he κ dY (by omega:j+(aU env o).cells.length<=k);obtain⟨c',Δ,Γ,a2,cL⟩:=Β _ _ _ cN h;refine⟨c',?_,by rw[Γ,k1],a2,by rw[cL];simp⟩;have jc:i<l.length:=(cf.1 he).1;have hle:i*k+j+(bp t o).cells.size<=c.size:=by
   have a1:(i+1)*k<=l.length*k:=Nat.mul_le_mul_right k jc
   have bd:=δ.1;rw[Nat.add_mul] at a1;omega
  simp only[List.map_cons,Instr.fill,ih x i j n ψ];have c1:((bp t o).cells.size≠n)=False:=by simp;omega
  have c2:(i*k+j+(bp t o).cells.size > c.size)=False:=by simp;omega
  simp only[bne_iff_ne,ne_eq,Bool.or_eq_true,decide_eq_true_eq,c1,c2];simp only[ne_eq] at c1;simp only[c1,or_self,if_false];exact Δ
def L9 (T:bb) (dh:Array Field):Option (List (Nat×Nat)):=dh.toList.mapM λf=>(T f.type).map λi=>(f.offset,i.size)
theorem TW (Κ:bV P T) {K:Array (Nat×Nat)->χ->Prop} {E:Value->χ->Prop} {dh:Array Field} {l:List (Nat×Nat)} (h:L9 T dh=some l) (ς:K l.toArray H) :
  π P (dh.mapM λf=>(do pure (f.offset,<-sizeOf f.type):Sem (Nat×Nat))) H K E:=by
 have key:∀(gs:List Field) (l:List (Nat×Nat)) (K:List (Nat×Nat)->χ->Prop),(gs.mapM λf=>(T f.type).map λi=>(f.offset,i.size))=some l->K l H->π P (gs.mapM λf=>(do pure (f.offset,<-sizeOf f.type):Sem (Nat×Nat))) H K E:=by
  intro gs
  induction gs with
  | nil=>intro l K h ς;simp at h;subst h;exact π.pure' ς
  | cons f gs Β=>
   intro l K h ς;rw[List.mapM_cons] at h ⊢;cases Υ:T f.type with
   | none=>rw[Υ] at h;cases h
   | some i=>
    rw[Υ] at h;simp only[Option.map_some,Option.bind_eq_bind,Option.bind_some] at h;cases Ξ:(gs.mapM λf=>(T f.type).map λi=>(f.offset,i.size)) with
    | none=>rw[Ξ] at h;cases h
    | some l2=>
     rw[Ξ] at h;cases h;refine π.bind' (π.bind' (Κ.size Υ (π.pure' ?_)));refine π.bind' (Β l2 _ Ξ ?_);exact π.pure' ς
 rw[Array.mapM_eq_mapM_toList];exact π.bind (dh.toList.mapM _) (key dh.toList l _ h (π.pure' ς))
def ny (T:bb) (a':θ->Bool) (ty:TypeId) (parts:List (Nat×θ)):cK:=match T ty with
 | some i=>
  let z:=hE i.zero
  if z.cells.length=i.zero.cells.size/\z.cells.all (θ.a' [])=true then match i.bI with
   | .struct dh=>match L9 T dh with
    | some pl=>match q3 (λx=>(pl[x]?).map λp=>(0,p.1,p.2)) z.cells.length a' [z] parts with
     | some [e]=>.ok (.a5 e.cells)
     | _=>.bad
    | none=>.bad
   | .array _ el=>match T el with
    | some b2=>match q3 (λx=>some (0,x*b2.size,b2.size)) z.cells.length a' [z] parts with
     | some [e]=>.ok (.a5 e.cells)
     | _=>.bad
    | none=>.bad
   | _=>.bad
  else .bad
 | none=>.bad
theorem L' {c:Array Value} {k:Nat} {e:θ} (h:fZ S B σ c k [e]) (ς:c.size=k):ay S B σ (.a5 e.cells) (.agg c):=by
 obtain⟨J,U⟩:=h.2 0 e rfl;refine .a5 c (by rw[J,ς]) λj a v ε hv=>?_;obtain⟨x,Δ,Γ,_⟩:=U j a ε;rw[Nat.zero_mul,Nat.zero_add,hv] at Δ;cases Δ;exact Γ
theorem Ma (Κ:bV P T) (Α:Holds S B σ H) {a':θ->Bool} (n9:∀a:θ,a' a=true->a.a' σ=true) (ty:TypeId) {env:Ω} {t:Array Value} (cT:du S B σ env t) (parts:Array (Nat×Operand)) :
  cR P (Instr.build ty (parts.map λ(i,x)=>(i,bp t x))) S B H σ ((ny T a' ty (parts.toList.map λp=>(p.1,aU env p.2))).dE σ):=by
 unfold ny;cases hi:T ty with
 | none=>exact .bad
 | some i=>
  simp only;split
  ·rename_i Τ;obtain⟨pR,tN⟩:=Τ;have CL:fZ S B σ i.zero.cells (hE i.zero).cells.length [hE i.zero]:=fZ.one (pP i.zero) (xr tN);have CM:(parts.map λ(i,x)=>(i,bp t x)).toList=parts.toList.map λp=>(p.1,bp t p.2):=η;split
   ·rename_i dh hu;split
    ·rename_i pl ih;split
     ·rename_i e he;intro K ζ;unfold Instr.build;refine π.bind' (Κ.zero hi (π.bind' (Κ.bI hi ?_)));rw[hu];refine π.bind' (TW Κ ih ?_);obtain⟨c',Δ,Γ,a2,_⟩:=GP (place:=(pl.toArray[·]?)) n9 (λx i j n h=>by
       cases γ:pl[x]? with
       | none=>rw[γ] at h;cases h
       | some p=>rw[γ] at h;cases h;simp[γ]) cT parts.toList _ _ _ CL he
      rw[CM,Δ];exact π.pure' (.same Α ζ (L' a2 (by rw[Γ,pR])))
     ·exact .bad
    ·exact .bad
   ·rename_i m el hu;split
    ·rename_i b2 eH;split
     ·rename_i e he;intro K ζ;unfold Instr.build;refine π.bind' (Κ.zero hi (π.bind' (Κ.bI hi ?_)));rw[hu];refine π.bind' (Κ.size eH ?_);obtain⟨c',Δ,Γ,a2,_⟩:=GP (place:=λi=>some (i*b2.size,b2.size)) n9 (λx i j n h=>by
       simp at h;obtain⟨rfl,rfl,rfl⟩:=h;simp) cT parts.toList _ _ _ CL he
      rw[CM,Δ];exact π.pure' (.same Α ζ (L' a2 (by rw[Γ,pR])))
     ·exact .bad
    ·exact .bad
   ·exact .bad
  ·exact .bad
def zE (T:bb) (a':θ->Bool) (ty:TypeId) (len:Nat) (parts:List (Nat×θ)):Option (TypeId×Nat×List θ):=match ig T ty with
 | some (e,k,none)=>match T e with
  | some b2=>if 0<k/\len*k<=2 ^ 24/\(hE b2.zero).cells.length=k/\(hE b2.zero).cells.all (θ.a' [])=true then
    (q3 (λx=>some (x,0,k)) k a' (List.replicate len (hE b2.zero)) parts).map λl=>(e,k,l) else none
  | none=>none
 | _=>none
theorem Mb (Κ:bV P T) {a':θ->Bool} (n9:∀a:θ,a' a=true->a.a' σ=true) {ty e:TypeId} {len k:Nat} {l:List θ} {env:Ω} {t:Array Value} (cT:du S B σ env t) {parts:Array (Nat×Operand)}
  (h:zE T a' ty len (parts.toList.map λp=>(p.1,aU env p.2))=some (e,k,l)) {K:Value->χ->Prop} {E:Value->χ->Prop}
  (ς:∀c:Array Value,fZ S B σ c k l->l.length=len->π P (newObj (.cells c e)) H (λr H'=>K (.slice (some ⟨r,0,none⟩) len len) H') E) :
  π P (Instr.buildSlice ty len (parts.map λ(i,x)=>(i,bp t x))) H K E:=by
 unfold zE at h;split at h<;>try cases h
 rename_i aQ ag he;split at h<;>try cases h
 rename_i b2 eH;split at h<;>try cases h
 rename_i δ;obtain⟨J,U,μ,Θ⟩:=δ;obtain⟨i,GQ,hi,hu,tO,cv⟩:=CC he;rw[eH] at tO;cases tO;cases Υ:q3 (λx=>some (x,0,ag)) ag a' (List.replicate len (hE b2.zero)) (parts.toList.map λp=>(p.1,aU env p.2)) with
 | none=>rw[Υ] at h;cases h
 | some eg=>
  rw[Υ] at h;cases h;unfold Instr.buildSlice;refine π.bind' (Κ.bI hi ?_);rw[hu];refine π.bind' (Κ.size eH ?_);rw[cv];have Mc:¬(len*k > 2 ^ 24):=R;simp only[Mc,if_false];have CM:(parts.map λ(i,x)=>(i,bp t x)).toList=parts.toList.map λp=>(p.1,bp t p.2):=η;have fin:∀gn:Array Value,(len=0\/gn=b2.zero.cells)->∃c',Instr.fill (λi=>some (i*k,k)) ((Array.range (len*k)).map (gn[· % gn.size]!)) (parts.map λ(i,x)=>(i,bp t x)).toList=some c'/\fZ S B σ c' k l/\l.length=len:=λgn q4=>by
   have CL:fZ S B σ ((Array.range (len*k)).map (gn[· % gn.size]!)) k (List.replicate len (hE b2.zero)):=by
    rcases q4 with rfl|q4
    ·exact⟨η,λi e hi=>by simp at hi⟩
    ·exact fZ.L6 (pP b2.zero) (xr Θ) μ (Nat.le_refl _) gn q4
   obtain⟨c',Δ,Γ,a2,cL⟩:=GP (place:=λi=>some (i*k,k)) n9 (λx i j n h=>by
    simp at h;obtain⟨rfl,rfl,rfl⟩:=h;simp) cT parts.toList _ _ _ CL Υ
   rw[CM];exact⟨c',Δ,a2,by rw[cL];simp⟩
  by_cases ο:len=0
  ·obtain⟨c',Δ,Γ,a2⟩:=fin #[] (.inl ο);have Τ:len*k=0:=by rw[ο];simp
   rw[if_pos Τ];refine π.bind' (π.pure' ?_);rw[Δ];exact π.bind' (ς c' Γ a2)
  ·have bA:len*k≠0:=by
    intro aj;rcases Nat.mul_eq_zero.1 aj with aj|aj<;>omega
   obtain⟨c',Δ,Γ,a2⟩:=fin _ (.inr rfl);rw[if_neg bA];refine π.bind' (Κ.zero eH ?_);refine π.bind' (π.pure' ?_);rw[Δ];exact π.bind' (ς c' Γ a2)
def zF (T:bb) (a':θ->Bool) (ty:TypeId) (len:Nat) (parts:List (Nat×θ)):cK:=match zE T a' ty len parts with
 | some (_,k,l)=>.ok (.sl true k l)
 | none=>.bad
def CN (T:bb) (ty:TypeId) (len:Nat) (parts:List (Nat×θ)) (σ:List Row):df:=match zE T (θ.a' σ) ty len parts with
 | some (e,k,l)=>.ok (.ms σ.length len 0 len) (σ++[.cells e k l])
 | none=>.bad
theorem Md (Κ:bV P T) (Α:Holds S B σ H) {a':θ->Bool} (n9:∀a:θ,a' a=true->a.a' σ=true) (ty:TypeId) (len:Nat) {env:Ω} {t:Array Value} (cT:du S B σ env t) (parts:Array (Nat×Operand)) :
  cR P (Instr.buildSlice ty len (parts.map λ(i,x)=>(i,bp t x))) S B H σ ((zF T a' ty len (parts.toList.map λp=>(p.1,aU env p.2))).dE σ):=by
 unfold zF;split
 ·rename_i e k l h;intro K ζ;refine Mb Κ n9 cT h λc δ hlen=>zD Α c e λr J U μ=>⟨_,_,_,_,ζ,U,J,μ,?_⟩;have:=CH (cap:=len) true μ δ R (λ_=>hlen.symm);rw[hlen] at this;exact this
 ·exact .bad
theorem Me {r n k:Nat} {t:TypeId} {l:List θ} (hlen:B.length=σ.length) (c:Array Value) (δ:l.length*k<=c.size) (Ζ:l.length=n):ay S (B++[some (r,c.size)]) (σ++[.cells t k l]) (.ms σ.length n 0 n) (.slice (some ⟨r,0,none⟩) n n):=by
 have:=ay.ms (S:=S) (B:=B++[some (r,c.size)]) (σ:=σ++[.cells t k l]) (id:=σ.length) (n:=n) (i:=0) (len:=n) (t:=t) (k:=k) (l:=l) (bo:=some (r,c.size)) (base:=some ⟨r,0,none⟩) n η Ζ (by rw[<-hlen];simp) R (Nat.le_refl _) (.inr ⟨r,c.size,rfl,η,by subst Ζ;simpa using δ⟩);exact this
theorem TX (Κ:bV P T) (Α:Holds S B σ H) (ty:TypeId) (len:Nat) {env:Ω} {t:Array Value} (cT:du S B σ env t) (parts:Array (Nat×Operand)) :
  cR P (Instr.buildSlice ty len (parts.map λ(i,x)=>(i,bp t x))) S B H σ (CN T ty len (parts.toList.map λp=>(p.1,aU env p.2)) σ):=by
 unfold CN;split
 ·rename_i e k l h;intro K ζ;exact Mb Κ (λa h=>h) cT h λc δ hlen=>zC Α δ e λr _ J U μ=>⟨_,_,_,_,ζ,U,J,μ,Me Α.len c δ.1 hlen⟩
 ·exact .bad
def zG (T:bb) (ty:TypeId) (a b:θ):Option (TypeId×Nat×θ×Int×Int):=match ig T ty,a,b with
 | some (e,k,none),.z (.int _ n),.z (.int _ m)=>match T e with
  | some b2=>if 0<k/\(hE b2.zero).cells.length=k/\(hE b2.zero).cells.all (θ.a' [])=true then some (e,k,hE b2.zero,n,b2.bytes) else none
  | none=>none
 | _,_,_=>none
end
section
variable {P:Program} {T:bb} {S:aJ} {B:aV} {H:χ} {σ:List Row}
theorem Mf (Κ:bV P T) {ty e:TypeId} {k:Nat} {z:θ} {n bytes:Int} {a b:θ} {u v:Value} (κ:ay S B σ a u) (hb:ay S B σ b v) (h:zG T ty a b=some (e,k,z,n,bytes)) (eN:∀kk m,b=.z (.int kk m)->m=n) (Ζ:0<=n/\0<bytes/\bytes*n<=2 ^ 48) {K:Value->χ->Prop} {E:Value->χ->Prop}
  (ς:∀c:Array Value,fZ S B σ c k (List.replicate n.toNat z)->π P (newObj (.cells c e)) H (λr H'=>K (.slice (some ⟨r,0,none⟩) n.toNat n.toNat) H') E) :
  π P (Instr.makeSlice ty u v) H K E:=by
 unfold zG at h;split at h<;>try cases h
 rename_i aQ ag k1 jq cN m he;split at h<;>try cases h
 rename_i b2 eH;split at h<;>try cases h
 rename_i δ;obtain⟨J,U,μ⟩:=δ;cases κ;cases hb;have hm:=eN _ _ rfl;subst hm;obtain⟨i,GQ,hi,hu,tO,cv⟩:=CC he;rw[eH] at tO;cases tO;obtain⟨q5,jX,GR⟩:=Ζ;have hle:m<=2 ^ 48:=by
  have:1*m<=(b2.bytes:Int)*m:=Int.mul_le_mul_of_nonneg_right R q5;omega
 have hw:IntKind.i64.wrap m=m:=IntWalk.i64_in m ⟨R,R⟩;unfold Instr.makeSlice;refine π.bind' (Κ.bI hi ?_);rw[hu];refine π.bind' (π.bind' (π.pure' (π.pure' ?_)));refine π.bind' (π.bind' (π.pure' (π.pure' ?_)));refine π.bind' (Κ.info eH λf Υ=>?_);simp only[hw,Υ];have c1:¬m<0:=R;have c2:¬((b2.bytes:Int)*m > 2 ^ 48):=R;have c3:¬m > m:=R;simp only[c1,c2,c3,decide_false,Bool.or_false,Bool.false_eq_true,if_false];refine π.bind' ?_;have fin:π P (do
   let Mg <-(do pure (m.toNat*(<-sizeOf e)):Sem Nat)
   let zero <-if Mg=0 then pure #[] else do pure (<-zeroValue e).cells
   let a <-newRow e ((Array.range Mg).map (zero[· % zero.size]!))
   pure (.slice (some a) m.toNat m.toNat)) H K E:=by
  refine π.bind' (π.bind' (Κ.size eH (π.pure' ?_)));rw[cv];by_cases Τ:m.toNat*k=0
  ·rw[if_pos Τ];refine π.bind' (π.pure' ?_);refine π.bind' (π.bind' ?_);refine ς _ ?_;rcases Nat.mul_eq_zero.1 Τ with aj|aj
   ·rw[aj];exact⟨η,λi e hi=>by simp at hi⟩
   ·omega
  ·rw[if_neg Τ];refine π.bind' (Κ.zero eH ?_);refine π.bind' (π.pure' ?_);refine π.bind' (π.bind' ?_);exact ς _ (fZ.L6 (pP b2.zero) (xr μ) U (Nat.le_refl _) _ rfl)
 unfold askRoom;split
 ·refine⟨rfl,?_⟩;show π P _ H K E;have:=fin;simpa using this
 ·refine π.pure' ?_;show π P _ H K E;have:=fin;simpa using this
def CO (T:bb) (ty:TypeId) (a b:θ) (σ:List Row):df:=match zG T ty a b,b with
 | some (e,k,z,n,bytes),.z (.int _ m)=>.b' (m=n/\0<=n/\0<bytes/\bytes*n<=2 ^ 48) (.ok (.ms σ.length n.toNat 0 n.toNat) (σ++[.cells e k (List.replicate n.toNat z)]))
 | _,_=>.bad
theorem TY (Κ:bV P T) (Α:Holds S B σ H) {ty:TypeId} {a b:θ} {u v:Value} (κ:ay S B σ a u) (hb:ay S B σ b v):cR P (Instr.makeSlice ty u v) S B H σ (CO T ty a b σ):=by
 unfold CO;split
 ·rename_i e k z n bytes kk m h;refine .b' λ⟨hm,Ζ⟩ K ζ=>?_;refine Mf Κ κ hb h (λGs b5 aQ=>by cases aQ;exact hm) Ζ λc δ=>zC Α δ e λr _ J U μ=>⟨_,_,_,_,ζ,U,J,μ,?_⟩;exact Me Α.len c δ.1 η
 ·exact .bad
def CP (T:bb) (ty:TypeId) (a b:θ):cK:=match zG T ty a b,b with
 | some (_,k,z,n,bytes),.z (.int _ m)=>.b' (m=n/\0<=n/\0<bytes/\bytes*n<=2 ^ 48) (.ok (.sl true k (List.replicate n.toNat z)))
 | _,_=>.bad
theorem TZ (Κ:bV P T) (Α:Holds S B σ H) {ty:TypeId} {a b:θ} {u v:Value} (κ:ay S B σ a u) (hb:ay S B σ b v):cR P (Instr.makeSlice ty u v) S B H σ ((CP T ty a b).dE σ):=by
 unfold CP;split
 ·rename_i e k z n bytes kk m h;refine cR.b' (r:=(cK.ok (.sl true k (List.replicate n.toNat z))).dE σ) λ⟨hm,Ζ⟩ K ζ=>?_;refine Mf Κ κ hb h (λGs b5 aQ=>by cases aQ;exact hm) Ζ λc δ=>zD Α c e λr J U μ=>⟨_,_,_,_,ζ,U,J,μ,?_⟩;have:=CH (cap:=n.toNat) true μ δ η (λ_=>η);simpa using this
 ·exact .bad
def Reads (H:χ) (base:Option Addr) (m:Nat) (w:Nat->Value):Prop:=m=0\/∃b o,base=some ⟨b,o,none⟩/\∀j,j<m->∃p,H.aO b (o+j)=some (w j,p)
theorem GU {base:Option Addr} {k n cap:Nat} {len:Nat} {w:Nat->Value} (h:Reads H base (n*k) w) {K:Array Value->χ->Prop} {E:Value->χ->Prop} (ς:K ((List.range (n*k)).map w).toArray H) :
  π P (Builtin.firstCells k n (.slice base len cap)) H K E:=by
 rcases h with h|⟨b,o,rfl,h⟩
 ·rw[h] at ς;cases base with
  | none=>exact π.pure' ς
  | some a=>
   show π P (loadCells a (n*k)) H K E;rw[h];exact π.pure' ς
 ·exact π.loadCells w rfl h ς
theorem T0 {b' old:Nat} (h:old<b'):Builtin.nextslicecap b' old<=2*b'+768:=by
 unfold Builtin.nextslicecap;have grow:∀r c,c<=2*b'+768->Builtin.growBy b' r c<=2*b'+768:=by
  intro r
  induction r with
  | zero=>intro c δ;exact δ
  | succ r Β=>
   intro c δ;unfold Builtin.growBy;split
   ·exact δ
   ·exact Β _ R
 split
 ·omega
 ·split
  ·omega
  ·exact grow 4 old R
def iH.isInt (i:iH):Bool:=i.bI matches .int _
def lY (T:bb) (st xt:TypeId):Option (TypeId×Nat×iH):=match ig T st,T xt with
 | some (e,k,none),some bC=>match T e with
  | some b2=>if 0<k/\b2.zero.cells.size=k/\0<b2.bytes/\b2.bytes<=4096/\bC.isInt=false then some (e,k,b2) else none
  | none=>none
 | _,_=>none
theorem GV (Κ:bV P T) {st xt rt e:TypeId} {k:Nat} {b2:iH} (h:lY T st xt=some (e,k,b2)) {base zH:Option Addr} {sLen pS n CQ:Nat} {wo wn:Nat->Value} (ω:Reads H base (sLen*k) wo) (Ζ:Reads H zH (n*k) wn) (Mc:sLen+n<=4294967296) {K:Value->χ->Prop} {E:Value->χ->Prop}
  (br:sLen+n<=pS->π P (match base with|some a=>storeCells (a.add (sLen*k)) ((List.range (n*k)).map wn)|none=>pure ()) H (λ_ H'=>K (.slice base (sLen+n) pS) H') E)
  (tC:pS<sLen+n->∀kn,sLen+n<=kn->π P (newObj (.cells (((List.range (sLen*k)).map wo).toArray++((List.range (n*k)).map wn).toArray++Builtin.zeroCells b2.zero.cells (kn-(sLen+n))) e)) H (λr H'=>K (.slice (some ⟨r,0,none⟩) (sLen+n) kn) H') E) :
  π P (Builtin.append_ #[st,xt] rt #[.slice base sLen pS,.slice zH n CQ]) H K E:=by
 unfold lY at h;split at h<;>try cases h
 rename_i aQ ag bC he mH;split at h<;>try cases h
 rename_i GQ eH;split at h<;>try cases h
 rename_i δ;obtain⟨J,U,μ,Θ,av⟩:=δ;obtain⟨i,GQ,hi,hu,tO,cv⟩:=CC he;rw[eH] at tO;cases tO;unfold Builtin.append_;simp only[List.getElem?_toArray,List.getElem?_cons_zero,List.getElem?_cons_succ];refine π.bind' (Κ.bI hi ?_);rw[hu];refine π.bind' (Κ.size eH ?_);rw[cv];refine π.bind' (π.bind' (Κ.bI mH ?_));split
 ·rename_i ς;unfold iH.isInt at av;rw[ς] at av;cases av
 refine π.bind' (π.pure' ?_);simp only[Bool.false_eq_true,if_false,Bool.not_false,if_true];refine π.bind' (π.pure' ?_);split
 ·rename_i hle;refine π.bind' (GU Ζ ?_);have:=br hle;cases base with
  | none=>exact this
  | some a=>exact π.bind' this
 ·rename_i Mh;have Mi:pS<sLen+n:=R;refine π.bind' (Κ.info eH λf Υ=>?_);have ef:¬(((sLen+n:Nat):Int) > IntKind.i64.max/\(False\/f.bytes=0)):=by rw[Υ];rintro⟨_,h|h⟩;exact h;omega
  simp only[ef,if_false];refine π.bind' (Κ.info eH λf2 CR=>?_);have c1:¬(Builtin.nextslicecap (sLen+n) pS*f2.bytes > 2 ^ 48):=by
   rw[CR];have a1:=T0 Mi;have bd:Builtin.nextslicecap (sLen+n) pS*b2.bytes<=(2*(sLen+n)+768)*4096:=Nat.mul_le_mul a1 Θ;omega
  simp only[c1,if_false];refine π.bind' ?_;show π P (choose _) H _ E;unfold choose;simp only[π];have Φ:(Question.appendCap (sLen+n) pS e).forced=false:=rfl;rw[Φ];simp only[Bool.false_eq_true,if_false];intro q;refine π.bind' (Κ.info eH λf3 GW=>?_);have fin:π P (do
    let old <-Builtin.firstCells k sLen (.slice base sLen pS)
    let new <-Builtin.firstCells k n (.slice zH n CQ)
    let rest <-(do pure (Builtin.zeroCells (<-zeroValue e).cells ((Question.appendCap (sLen+n) pS e).cut q-(sLen+n))):Sem (Array Value))
    pure (.slice (some (<-newRow e (old++new++rest))) (sLen+n) ((Question.appendCap (sLen+n) pS e).cut q))) H K E:=by
   refine π.bind' (GU ω ?_);refine π.bind' (GU Ζ ?_);refine π.bind' (π.bind' (Κ.zero eH (π.pure' ?_)));refine π.bind' (π.bind' ?_);exact tC Mi _ (by simp[Question.cut])
  refine π.bind' ?_;unfold askRoom;split
  ·refine⟨rfl,?_⟩;show π P _ H K E;simpa using fin
  ·refine π.pure' ?_;show π P _ H K E;simpa using fin
end
section
variable {P:Program} {T:bb} {S:aJ} {B:aV} {H:χ} {σ:List Row}
def pT (σ:List Row):θ->Option (Nat×List θ)
 | .sl _ k l=>some (k,l)
 | .ms id n i len=>match σ[id]? with
  | some (.cells _ k l)=>if l.length=n/\i+len<=n then some (k,(l.drop i).take len) else none
  | _=>none
 | _=>none
def xx (S:aJ) (B:aV) (σ:List Row) (w:Nat->Value) (k:Nat) (l:List θ):Prop:=∀(i:Nat) (e:θ),l[i]?=some e->e.cells.length=k/\∀(j:Nat) (a:θ),e.cells[j]?=some a->ay S B σ a (w (i*k+j))
theorem T1 {k i j:Nat} (ε:j<k):(i*k+j) / k=i/\(i*k+j) % k=j:=by
 have ς:0<k:=R;refine⟨?_,?_⟩
 ·rw[Nat.add_comm,Nat.add_mul_div_right _ _ ς,Nat.div_eq_of_lt ε,Nat.zero_add]
 ·rw[Nat.add_comm,Nat.add_mul_mod_self_right];exact Nat.mod_eq_of_lt ε
theorem CS (Α:Holds S B σ H) {a:θ} {v:Value} {k k1:Nat} {l:List θ} (κ:ay S B σ a v) (h:pT σ a=some (k1,l)) (ς:0<k) (q6:l.isEmpty=true\/k1=k) :
  ∃base cap w,v=.slice base l.length cap/\l.length<=cap/\Reads H base (l.length*k) w/\xx S B σ w k l:=by
 have flat:∀(b o:Nat) (w2:Nat->Nat->Value),(∀(i:Nat) (e:θ),l[i]?=some e->e.cells.length=k)->(∀(i:Nat) (e:θ),l[i]?=some e->∀(j:Nat) (c:θ),e.cells[j]?=some c->∃p,H.aO b (o+i*k+j)=some (w2 i j,p))->
   (∀(i:Nat) (e:θ),l[i]?=some e->∀(j:Nat) (c:θ),e.cells[j]?=some c->ay S B σ c (w2 i j))->Reads H (some ⟨b,o,none⟩) (l.length*k) (λm=>w2 (m / k) (m % k))/\xx S B σ (λm=>w2 (m / k) (m % k)) k l:=by
  intro b o w2 J U μ;refine⟨.inr ⟨b,o,rfl,λm hm=>?_⟩,λi e hi=>⟨J i e hi,λj c ε=>?_⟩⟩
  ·have hi:m / k<l.length:=(Nat.div_lt_iff_lt_mul ς).2 hm
   have nx:l[m / k]?=some l[m / k]:=bg hi
   have ε:m % k<l[m / k].cells.length:=by rw[J _ _ nx];exact Nat.mod_lt _ ς
   obtain⟨p,ψ⟩:=U _ _ nx (m % k) _ (bg ε);refine⟨p,?_⟩;have:o+m=o+m / k*k+m % k:=by have:=Nat.div_add_mod m k;rw[Nat.mul_comm] at this;omega
   rw[this];exact ψ
  ·have oW:j<k:=by rw[<-J i e hi];exact(cf.1 ε).1
   obtain⟨Δ,Γ⟩:=T1 (i:=i) oW;simp only[Δ,Γ];exact μ i e hi j c ε
 have empty:∀(base:Option Addr) (cap:Nat),l=[]->v=.slice base 0 cap->∃base cap w,v=.slice base l.length cap/\l.length<=cap/\Reads H base (l.length*k) w/\xx S B σ w k l:=λbase cap ο hv=>by
  subst ο;exact⟨base,cap,λ_=>undef,hv,Nat.zero_le _,.inl η,λi e hi=>by simp at hi⟩
 unfold pT at h;split at h
 ·cases h;obtain⟨base,cap,rfl,J,_,U⟩:=q2 κ;by_cases ο:l=[]
  ·exact empty base cap ο (by rw[ο];rfl)
  ·obtain⟨b,o,w,rfl,μ,Θ,av⟩:=U ο;have iW:k1=k:=q6.elim (λx=>absurd (List.isEmpty_iff.1 x) ο) id;subst iW;obtain⟨r1,r2⟩:=flat b o w μ (λi e hi j c ε=>Α.dt _ _ _ (Θ i e hi j c ε)) av;exact⟨_,cap,_,rfl,J,r1,r2⟩
 ·rename_i id n i len;split at h
  ·rename_i t ag eg ο;split at h
   ·rename_i δ;cases h;obtain⟨Ζ,hlen⟩:=δ;have jd:((eg.drop i).take len).length=len:=by simp;omega
    cases κ with
    | ms cap J U μ Θ av ba=>
     rw[ο] at J;cases J;rcases ba with ba|⟨b,N,rfl,rfl,ba⟩
     ·subst ba;have:len=0:=R;subst this;exact empty _ 0 η rfl
     ·by_cases Τ:len=0
      ·subst Τ;exact empty _ cap η rfl
      ·have bA:¬((eg.drop i).take len).isEmpty=true:=λx=>by
        rw[List.isEmpty_iff] at x;rw[x] at jd;simp at jd;omega
       have iW:=q6.resolve_left bA;subst iW;obtain⟨bS,cm,gm,w,hw⟩:=Α.row id _ _ ο μ;have el:∀(x:Nat) (e:θ),((eg.drop i).take len)[x]?=some e->eg[i+x]?=some e:=λx e γ=>by
        rw[List.getElem?_take] at γ;split at γ
        ·rw[List.getElem?_drop] at γ;exact γ
        ·cases γ
       obtain⟨r1,r2⟩:=flat b (i*k1) (λx j=>w (i+x) j) (λx e γ=>(hw _ e (el x e γ)).1) (λx e γ j c ε=>⟨true,by
        have:=((hw _ e (el x e γ)).2 j c ε).1;rw[Nat.add_mul] at this;exact this⟩) (λx e γ j c ε=>((hw _ e (el x e γ)).2 j c ε).2.1)
       exact⟨_,cap,_,by rw[jd],by rw[jd];exact av,r1,r2⟩
    | jz v J U=>rw[ο] at J;cases J;simp only[Row.hh] at U;omega
   ·cases h
  ·cases h
 ·cases h
theorem GX {w1 w2:Nat->Value} {k:Nat} {l1 l2:List θ} (J:xx S B σ w1 k l1) (U:xx S B σ w2 k l2) (dJ:l1.all (λe=>e.cells.all (θ.a' σ))=true) (h8:l2.all (λe=>e.cells.all (θ.a' σ))=true) (z:Array Value) :
  fZ S B σ (((List.range (l1.length*k)).map w1).toArray++((List.range (l2.length*k)).map w2).toArray++z) k (l1++l2):=by
 have ok:∀(l:List θ),l.all (λe=>e.cells.all (θ.a' σ))=true->∀e∈l,∀a∈e.cells,θ.a' σ a=true:=λl h e he a κ=>List.all_eq_true.1 (List.all_eq_true.1 h e he) a κ;refine⟨by simp[Nat.add_mul],λi e hi=>?_⟩;by_cases aP:i<l1.length
 ·rw[ev aP] at hi;refine⟨(J i e hi).1,λj a ε=>?_⟩;have oW:j<k:=by rw[<-(J i e hi).1];exact(cf.1 ε).1
  have hb:i*k+j<l1.length*k:=by
   have:(i+1)*k<=l1.length*k:=Nat.mul_le_mul_right k aP;rw[Nat.add_mul] at this;omega
  have ι:=(J i e hi).2 j a ε;refine⟨w1 (i*k+j),?_,ι,ι.zB (ok l1 dJ e (cE hi) a (cE ε))⟩;rw[Array.append_assoc,Array.getElem?_append_left (by simpa using hb)];simp[hb]
 ·rw[h6 R] at hi;refine⟨(U _ e hi).1,λj a ε=>?_⟩;have oW:j<k:=by rw[<-(U _ e hi).1];exact(cf.1 ε).1
  have vy:i-l1.length<l2.length:=(cf.1 hi).1
  have hb:(i-l1.length)*k+j<l2.length*k:=by
   have:(i-l1.length+1)*k<=l2.length*k:=Nat.mul_le_mul_right k vy;rw[Nat.add_mul] at this;omega
  have he:i*k+j=l1.length*k+((i-l1.length)*k+j):=by
   have:i=l1.length+(i-l1.length):=R
   conv=>lhs;rw[this,Nat.add_mul]
   omega
  have ι:=(U _ e hi).2 j a ε;refine⟨w2 ((i-l1.length)*k+j),?_,ι,ι.zB (ok l2 h8 e (cE hi) a (cE ε))⟩;rw[he,Array.append_assoc,Array.getElem?_append_right η];rw[Array.getElem?_append_left (by simp;omega)];simp[hb]
def θ.lZ (a':θ->Bool) (l:List θ):Bool:=l.all λe=>e.cells.all a'
def ss (T:bb) (st xt:TypeId) (a':θ->Bool) (σ:List Row) (s x:θ):cK:=
 match lY T st xt,s,pT σ x with
 | some (_,k,_),.sl true eM l0,some (k1,l1)=>
  if(l0.isEmpty=true\/eM=k)/\(l1.isEmpty=true\/k1=k)/\θ.lZ a' l0=true/\θ.lZ a' l1=true then .b' (l0.length+l1.length<=4294967296) (.ok (.sl false k (l0++l1))) else .bad
 | _,_,_=>.bad
theorem T2 {k eM:Nat} {l0:List θ} {v:Value} (h:ay S B σ (.sl true eM l0) v) (ς:l0.isEmpty=true\/eM=k):ay S B σ (.sl false k l0) v:=by
 by_cases ο:l0=[]
 ·subst ο;obtain⟨base,cap,rfl,_⟩:=q2 h;exact .i' base cap η
 ·have:=ς.resolve_left (λx=>ο (List.isEmpty_iff.1 x));subst this;cases h with
  | i'=>exact absurd rfl ο
  | sl b o cap w J U μ Θ av=>exact .sl b o cap w η U μ Θ av
theorem GY {a':θ->Bool} (n9:∀a:θ,a' a=true->a.a' σ=true) {l:List θ} (h:θ.lZ a' l=true):l.all (λe=>e.cells.all (θ.a' σ))=true:=by
 unfold θ.lZ at h;rw[List.all_eq_true] at h ⊢;intro e he;have:=h e he;rw[List.all_eq_true] at this ⊢;exact λa κ=>n9 a (this a κ)
theorem Mj (Κ:bV P T) (Α:Holds S B σ H) {a':θ->Bool} (n9:∀a:θ,a' a=true->a.a' σ=true) (st xt rt:TypeId) {s x:θ} {u v:Value} (ν:ay S B σ s u) (γ:ay S B σ x v) :
  cR P (Builtin.append_ #[st,xt] rt #[u,v]) S B H σ ((ss T st xt a' σ s x).dE σ):=by
 unfold ss;split
 ·rename_i e k b2 eM l0 k1 l1 oX q7;split
  ·rename_i δ;obtain⟨c1,c2,c3,c4⟩:=δ;refine cR.b' (r:=(cK.ok (.sl false k (l0++l1))).dE σ) λpI K ζ=>?_;have ς:0<k:=by
    unfold lY at oX;split at oX<;>try cases oX
    split at oX<;>try cases oX
    split at oX<;>try cases oX
    rename_i h;exact h.1
   obtain⟨base,cap,w,rfl,_,r1,r2⟩:=CS Α ν (k:=k) rfl ς c1;obtain⟨zH,CQ,w1,rfl,_,r3,ju⟩:=CS Α γ q7 ς c2;have xu:cap=l0.length:=by
    obtain⟨Ψ,GH,Δ,_,Γ,_⟩:=q2 ν;cases Δ;exact Γ rfl
   have fin:∀aE H' v,Holds aE B σ H'->Ext S B H aE B H'->b8 S aE B B σ σ->ay aE B σ (.sl false k (l0++l1)) v->jb S B H σ K v H':=λaE H' v a b c d=>⟨aE,B,σ,_,ζ,b,a,c,d⟩;refine GV Κ oX r1 r3 pI (λbr=>?_) (λ_ kn su=>?_)
   ·have GZ:l1=[]:=by
     cases l1 with
     | nil=>rfl
     | cons=>simp at br;omega
    subst GZ;have CU:ay S B σ (.sl false k (l0++[])) (.slice base (l0.length+([]:List θ).length) cap):=by
     rw[List.append_nil];exact T2 ν c1
    cases base with
    | none=>exact π.pure' (fin S H _ Α (.refl _ _ _) (.refl _ _ _) CU)
    | some a=>
     have Τ:((List.range (([]:List θ).length*k)).map w1)=[]:=η;rw[Τ];exact π.pure' (fin S H _ Α (.refl _ _ _) (.refl _ _ _) CU)
   ·refine zD Α _ e λr J U μ=>fin _ _ _ J U μ ?_;have:=CH (cap:=kn) false μ (GX r2 ju (GY n9 c3) (GY n9 c4) (Builtin.zeroCells b2.zero.cells (kn-(l0.length+l1.length)))) (by simpa using su) η;rw[List.length_append] at this;exact this
  ·exact .bad
 ·exact .bad
end
section
variable {P:Program} {T:bb} {S:aJ} {B:aV} {H:χ} {σ:List Row}
theorem T3 {st xt e:TypeId} {k:Nat} {b2:iH} (h:lY T st xt=some (e,k,b2)):0<k/\b2.zero.cells.size=k:=by
 unfold lY at h;split at h<;>try cases h
 split at h<;>try cases h
 split at h<;>try cases h
 rename_i h;exact⟨h.1,h.2.1⟩
theorem CV {α:Type} (l:List α) (x:α):(l++[x])[l.length]?=some x:=η
theorem CW {B:aV} {σ:List Row} (hlen:B.length=σ.length) (bo:Option (Nat×Nat)):(B++[bo])[σ.length]?=some bo:=by rw[<-hlen];simp
def vz (H:χ) (bo:Option (Nat×Nat)) (m:Nat):Value:=match bo with|some (b,_)=>((H.aO b m).map (·.1)).getD undef|none=>undef
theorem Mk (z:Array Value) (n:Nat):(Builtin.zeroCells z n).size=n*z.size:=by simp[Builtin.zeroCells]
def CX (T:bb) (st xt:TypeId) (σ:List Row) (s x:θ):df:=
 match lY T st xt,pT σ x with
 | some (e,k,_),some (k1,l1)=>
  if(l1.isEmpty=true\/k1=k)/\θ.lZ (θ.a' σ) l1=true then match s with
   | .sl true _ l0=>if l0.isEmpty=true then .b' (l1.length<=4294967296) (.ok (.ms σ.length l1.length 0 l1.length) (σ++[.cells e k l1])) else .bad
   | .ms id n i len=>match σ[id]? with
    | some (.cells t ag l)=>if i=0/\l.length=n/\len=n/\ag=k/\t=e then .b' (n+l1.length<=4294967296) (.ok (.ms id (n+l1.length) 0 (n+l1.length)) (σ.set id (.cells t k (l++l1)))) else .bad
    | _=>.bad
   | _=>.bad
  else .bad
 | _,_=>.bad
theorem T4 (Κ:bV P T) (Α:Holds S B σ H) (st xt rt:TypeId) {s x:θ} {u v:Value} (ν:ay S B σ s u) (γ:ay S B σ x v) :
  cR P (Builtin.append_ #[st,xt] rt #[u,v]) S B H σ (CX T st xt σ s x):=by
 unfold CX;split
 ·rename_i e k b2 k1 l1 oX q7;split
  ·rename_i δ;obtain⟨c2,c4⟩:=δ;obtain⟨ς,q4⟩:=T3 oX;obtain⟨zH,CQ,w1,rfl,_,r3,ju⟩:=CS Α γ q7 ς c2;have G1:=GY (σ:=σ) (λa h=>h) c4;split
   ·rename_i eM l0;split
    ·rename_i he;have G2:l0=[]:=List.isEmpty_iff.1 he;subst G2;refine .b' λpI K ζ=>?_;obtain⟨base,cap,rfl,_,xu,_⟩:=q2 ν;have T5:cap=0:=xu rfl;subst T5;refine GV Κ oX (sLen:=0) (wo:=λ_=>undef) (.inl η) r3 R (λbr=>?_) (λ_ kn su=>?_)
     ·have GZ:l1=[]:=by
       cases l1 with
       | nil=>rfl
       | cons=>simp at br
      subst GZ;obtain⟨dy,p2,p3⟩:=Α.push (H':=H) (r:=.cells e k []) (bo:=none) (λb N e=>by cases e) (λb _=>⟨λ_=>rfl,rfl,rfl⟩) (λ_=>rfl);have fin:jb S B H σ K (.slice base (([]:List θ).length+([]:List θ).length) 0) H:=⟨S,_,_,_,ζ,p2,dy,p3,.ms 0 (CV σ _) rfl (CW Α.len _) η (Nat.le_refl _) (.inl rfl)⟩;cases base with
      | none=>exact π.pure' fin
      | some a=>
       have Τ:((List.range (([]:List θ).length*k)).map w1)=[]:=η;rw[Τ];exact π.pure' fin
     ·have ο:fZ S B σ (((List.range (0*k)).map λ_=>undef).toArray++((List.range (l1.length*k)).map w1).toArray++Builtin.zeroCells b2.zero.cells (kn-(0+l1.length))) k ([]++l1):=
       GX (l1:=[]) (λi e hi=>by simp at hi) ju η G1 _
      rw[List.nil_append] at ο;refine zC Α ο e λr _ J U μ=>⟨_,_,_,_,ζ,U,J,μ,?_⟩;simp only[List.length_nil,Nat.zero_add];refine .ms kn (CV σ _) rfl (CW Α.len _) R (by simpa using su) (.inr ⟨r,_,rfl,η,?_⟩);simp only[Nat.zero_add,Array.size_append,List.size_toArray,List.length_map,List.length_range,Mk,q4,Nat.zero_mul];rw[<-Nat.add_mul];have:l1.length+(kn-l1.length)=kn:=by simp at su;omega
      rw[this];exact Nat.le_refl _
    ·exact .bad
   ·rename_i id n i len;split
    ·rename_i t ag l ο;split
     ·rename_i mI;obtain⟨k2,Ζ,hlen,q6,T6⟩:=mI;subst k2;subst hlen;subst q6;subst T6;refine .b' λpI K ζ=>?_;cases ν with
      | @ms _ _ _ _ _ _ _ bo base cap J U μ Θ av ba=>
       rw[ο] at J;cases J;have cn:=Α.row id _ bo ο μ;have G3:Reads H base (len*ag) (vz H bo):=by
        rcases ba with ba|⟨b,N,rfl,rfl,ba⟩
        ·exact .inl (by rw[show len=0 from R];simp)
        ·refine .inr ⟨b,0,η,λj ε=>⟨true,?_⟩⟩;obtain⟨w,hw⟩:=cn.2.2.1 j (by have:=cn.2.1;rw[Ζ] at this;omega);rw[Nat.zero_add];simp[hw,vz]
       have same:l1=[]->jb S B H σ K (.slice base (len+l1.length) cap) H:=λcl=>by
        subst cl;have b9:id<σ.length:=(cf.1 ο).1;have tP:σ.set id (.cells t ag (l++[]))=σ:=by
         rw[List.append_nil];apply List.ext_getElem?;intro j;by_cases mG:id=j
         ·subst mG;rw[List.getElem?_set_self b9,ο]
         ·rw[List.getElem?_set_ne mG]
        rw[tP] at ζ;exact⟨S,B,σ,_,ζ,.refl _ _ _,Α,.refl _ _ _,.ms cap ο Ζ μ η av ba⟩
       have b9:id<σ.length:=(cf.1 ο).1
       have oT:id<B.length:=by rw[Α.len];exact b9
       refine GV Κ oX G3 r3 pI (λbr=>?_) (λMh kn su=>?_)
       ·by_cases cl:l1=[]
        ·have:=same cl;subst cl;cases base with
         | none=>exact π.pure' this
         | some a=>
          have Τ:((List.range (([]:List θ).length*ag)).map w1)=[]:=η;rw[Τ];exact π.pure' this
        ·have pU:0<l1.length:=List.length_pos_iff.2 cl;rcases ba with ba|⟨b,N,rfl,rfl,ba⟩
         ·omega
         ·obtain⟨bS,cm,gm,w,hw⟩:=cn;have T7:(len+l1.length)*ag<=N:=by
           have:(len+l1.length)*ag<=(0+cap)*ag:=Nat.mul_le_mul_right _ R;omega
          rw[Nat.add_mul] at T7;have T8:(⟨b,0*ag,none⟩:Addr).add (len*ag)=⟨b,len*ag,none⟩:=by rw[tL];simp
          have Ml:((List.range (l1.length*ag)).map w1).length=l1.length*ag:=η
          have ij:∀j,j<l1.length*ag->((List.range (l1.length*ag)).map w1)[j]?=some (w1 j):=λj ε=>by simp[ε]
          have Mm:∀(i:Nat) (e:θ) (j:Nat) (a:θ),l1[i]?=some e->e.cells[j]?=some a->One (w1 (i*ag+j)):=λi e j a hi ε=>
           ((ju i e hi).2 j a ε).zB (List.all_eq_true.1 (List.all_eq_true.1 G1 e (cE hi)) a (cE ε))
          have T9:∀v∈(List.range (l1.length*ag)).map w1,One v:=λv hv=>by
           obtain⟨m,hm,rfl⟩:=List.mem_map.1 hv;have dp:m<l1.length*ag:=by simpa using hm
           have hi:m / ag<l1.length:=(Nat.div_lt_iff_lt_mul ς).2 dp
           have nx:=bg hi
           have ε:m % ag<l1[m / ag].cells.length:=by rw[(ju _ _ nx).1];exact Nat.mod_lt _ ς
           have:=Mm _ _ _ _ nx (bg ε)
           have Δ:m / ag*ag+m % ag=m:=by have:=Nat.div_add_mod m ag;rw[Nat.mul_comm] at this;exact this
           rw[Δ] at this;exact this
          have zl:b8 S S B (B.set id (some (b,N))) σ (σ.set id (.cells t ag (l++l1)))->jZ S (B.set id (some (b,N))) (σ.set id (.cells t ag (l++l1))) (H.hB b (len*ag) ((List.range (l1.length*ag)).map w1)) (.cells t ag (l++l1)) (some (b,N)):=λkZ=>by
           refine⟨bS,by simp[Nat.add_mul,Ζ];omega,λo ω=>?_,λi j=>if i<len then w i j else w1 ((i-len)*ag+j),λi e hi=>?_⟩
           ·simp only[χ.hB];split
            ·exact⟨_,rfl⟩
            ·exact gm o ω
           ·by_cases aP:i<l.length
            ·rw[ev aP] at hi;refine⟨(hw i e hi).1,λj a ε=>?_⟩;obtain⟨Χ,ak,aY⟩:=(hw i e hi).2 j a ε;have oW:j<ag:=by rw[<-(hw i e hi).1];exact(cf.1 ε).1
             have hb:i*ag+j<len*ag:=by
              have:(i+1)*ag<=len*ag:=Nat.mul_le_mul_right ag R;rw[Nat.add_mul] at this;omega
             simp only[show i<len by omega,if_true];refine⟨?_,ak.later kZ,aY⟩;simp only[χ.hB];rw[if_neg R];exact Χ
            ·rw[h6 R,Ζ] at hi;refine⟨(ju _ e hi).1,λj a ε=>?_⟩;have oW:j<ag:=by rw[<-(ju _ e hi).1];exact(cf.1 ε).1
             have vy:i-len<l1.length:=(cf.1 hi).1
             have hb:(i-len)*ag+j<l1.length*ag:=by
              have:(i-len+1)*ag<=l1.length*ag:=Nat.mul_le_mul_right ag vy;rw[Nat.add_mul] at this;omega
             have he:i*ag+j=len*ag+((i-len)*ag+j):=by
              have:i=len+(i-len):=R
              conv=>lhs;rw[this,Nat.add_mul]
              omega
             simp only[show ¬i<len by omega,if_false];refine⟨?_,((ju _ e hi).2 j a ε).later kZ,Mm _ e j a hi ε⟩;simp only[χ.hB,Ml];rw[if_pos ⟨trivial,R,R⟩];have:i*ag+j-len*ag=(i-len)*ag+j:=R;rw[this,ij _ hb];rfl
          obtain⟨dy,p2,p3⟩:=Α.xn (H':=H.hB b (len*ag) ((List.range (l1.length*ag)).map w1)) (r':=.cells t ag (l++l1)) (bo':=some (b,N)) ο trivial μ (.inr λm hm=>by simp only[Row.hh,List.length_append];omega) (λΨ e4 aQ=>.inl ⟨e4,aQ⟩)
           (λΨ J _=>by
            have bA:Ψ≠b:=λaQ=>by subst aQ;exact J N rfl
            exact⟨λo=>by simp[χ.hB,bA],rfl,rfl⟩) χ.GD (CE Α ο) zl
          show π P (storeCells ((⟨b,0*ag,none⟩:Addr).add (len*ag)) _) H _ _;rw[T8];refine π.storeCells (G:=H) rfl ⟨t,N,bS⟩ _ 0 H T9 (λj _ ε=>?_) rfl ?_
          ·rw[Ml] at ε;obtain⟨u,hu⟩:=gm (len*ag+j) R;exact⟨u,hu⟩
          ·refine⟨S,_,_,_,ζ,p2,dy,p3,.ms cap (by rw[List.getElem?_set_self b9]) (by simp[Ζ]) (by rw[List.getElem?_set_self oT]) R br (.inr ⟨b,N,rfl,rfl,ba⟩)⟩
       ·have cl:l1≠[]:=by rintro rfl;simp at Mh;omega
        have pU:0<l1.length:=List.length_pos_iff.2 cl
        have G4:xx S B σ (vz H bo) ag l:=λi e hi=>by
         cases bo with
         | none=>have:l=[]:=cn
                 rw[this] at hi;simp at hi
         | some x=>
          obtain⟨b,N⟩:=x;obtain⟨_,_,_,w,hw⟩:=cn;refine⟨(hw i e hi).1,λj a ε=>?_⟩;obtain⟨Χ,ak,_⟩:=(hw i e hi).2 j a ε;simp only[vz,Χ];exact ak
        have zI:fZ S B σ (((List.range (len*ag)).map (vz H bo)).toArray++((List.range (l1.length*ag)).map w1).toArray++Builtin.zeroCells b2.zero.cells (kn-(len+l1.length))) ag (l++l1):=by
         refine⟨by simp[Nat.add_mul,Ζ],λi e hi=>?_⟩;by_cases aP:i<l.length
         ·rw[ev aP] at hi;refine⟨(G4 i e hi).1,λj a ε=>?_⟩;have oW:j<ag:=by rw[<-(G4 i e hi).1];exact(cf.1 ε).1
          have hb:i*ag+j<len*ag:=by
           have:(i+1)*ag<=len*ag:=Nat.mul_le_mul_right ag R;rw[Nat.add_mul] at this;omega
          refine⟨_,?_,(G4 i e hi).2 j a ε,?_⟩
          ·rw[Array.append_assoc,Array.getElem?_append_left (by simpa using hb)];simp[hb]
          ·cases bo with
           | none=>have:l=[]:=cn
                   rw[this] at aP;simp at aP
           | some x=>
            obtain⟨b,N⟩:=x;obtain⟨_,_,_,w,hw⟩:=cn;obtain⟨Χ,ak,aY⟩:=(hw i e hi).2 j a ε;simp only[vz,Χ];exact aY
         ·rw[h6 R,Ζ] at hi;have:=GX (l1:=[]) (w1:=λ_=>undef) (k:=ag) (λi e hi=>by simp at hi) ju η G1 (Builtin.zeroCells b2.zero.cells (kn-(len+l1.length)));obtain⟨dK,dq⟩:=this.2 (i-len) e (by simpa using hi);refine⟨dK,λj a ε=>?_⟩;obtain⟨x,ga,tQ,tR⟩:=dq j a ε;have oW:j<ag:=by rw[<-dK];exact(cf.1 ε).1
          have he:i*ag+j=len*ag+((i-len)*ag+j):=by
           have:i=len+(i-len):=R
           conv=>lhs;rw[this,Nat.add_mul]
           omega
          refine⟨x,?_,tQ,tR⟩;rw[he,Array.append_assoc,Array.getElem?_append_right η];simpa using ga
        refine⟨rfl,λr ι=>?_⟩;generalize T':(((List.range (len*ag)).map (vz H bo)).toArray++((List.range (l1.length*ag)).map w1).toArray++Builtin.zeroCells b2.zero.cells (kn-(len+l1.length)))=c at zI;have Ua:kn*ag<=c.size:=by
         rw[<-T'];simp only[Array.size_append,List.size_toArray,List.length_map,List.length_range,Mk,q4];rw[<-Nat.add_mul,<-Nat.add_mul];have:len+l1.length+(kn-(len+l1.length))=kn:=R;rw[this];exact Nat.le_refl _
        obtain⟨dy,p2,p3⟩:=Α.xn (H':=H.dL r c t) (r':=.cells t ag (l++l1)) (bo':=some (r,c.size)) ο trivial μ (.inr λm hm=>by simp only[Row.hh,List.length_append];omega) (λΨ e4 aQ=>.inr (by cases aQ;exact ι))
         (λΨ _ U=>by
          have bA:Ψ≠r:=λaQ=>by subst aQ;exact U _ rfl
          exact⟨λo=>by simp[χ.dL,bA],by simp[χ.dL,bA],rfl⟩) (χ.LN ι c t) (CE Α ο) (λkZ=>by
          have aX:=zI.later kZ;refine⟨by simp[χ.dL],zI.1,λo ω=>⟨c[o],by simp[χ.dL,ω]⟩,λi j=>(c[i*ag+j]?).getD undef,λi e hi=>⟨(aX.2 i e hi).1,λj a ε=>?_⟩⟩;obtain⟨x,Δ,Γ,a2⟩:=(aX.2 i e hi).2 j a ε;simp only[Δ,Option.getD_some];exact⟨by simp[χ.dL,Δ],Γ,a2⟩)
        exact⟨S,_,_,_,ζ,p2,dy,p3,.ms kn (by rw[List.getElem?_set_self b9]) (by simp[Ζ]) (by rw[List.getElem?_set_self oT]) R R (.inr ⟨r,c.size,rfl,η,by simpa using Ua⟩)⟩
      | jz v J U=>rw[ο] at J;cases J;simp only[Row.hh] at U;omega
     ·exact .bad
    ·exact .bad
   ·exact .bad
  ·exact .bad
 ·exact .bad
end
section
variable {P:Program} {T:bb} {S:aJ} {B:aV} {H:χ} {σ:List Row}
def pV (o:Option θ) (d:Int):Option Int:=match o with
 | none=>some d
 | some (.z (.int _ n))=>some n
 | _=>none
def vA (S:aJ) (B:aV) (σ:List Row):Option θ->Option Value->Prop
 | none,none=>True
 | some a,some v=>ay S B σ a v
 | _,_=>False
theorem Mn {k:IntKind} {n:Int} {y:Nat} {code:BoundsCode} (h:0<=n/\n<=y) {G:χ} {K:Nat->χ->Prop} {E:Value->χ->Prop} (ς:K n.toNat G):π P (Instr.sliceBound (.int k n) y code) G K E:=by
 unfold Instr.sliceBound;refine π.bind' (π.pure' ?_);simp only[h,and_self,if_true];exact π.pure' ς
theorem CY {isSlice:Bool} {len cap:Nat} {lo hi:Option θ} {lv hv:Option Value} (iJ:vA S B σ lo lv) (oV:vA S B σ hi hv) {a b:Int} (κ:pV lo 0=some a) (hb:pV hi len=some b) (h:0<=a/\a<=b/\b<=cap) {G:χ} {K:Nat×Nat×Nat->χ->Prop} {E:Value->χ->Prop}
  (ς:K (a.toNat,b.toNat,cap) G):π P (Instr.sliceBounds isSlice len cap lv hv none) G K E:=by
 unfold Instr.sliceBounds;refine π.bind' (π.pure' ?_);have low:∀(n:Nat),b.toNat=n->π P (match lv with|some v=>Instr.sliceBound v n (if(none:Option Value).isSome then .slice3C else .sliceB)|none=>pure 0) G (λl G'=>π P (pure (l,n,cap)) G' K E) E:=λn Ζ=>by
  subst Ζ;cases lo with
  | none=>
   cases lv with
   | some v=>exact iJ.elim
   | none=>cases κ;exact π.pure' (π.pure' ς)
  | some x=>
   cases lv with
   | none=>exact iJ.elim
   | some v=>
    unfold pV at κ;split at κ
    ·rename_i e;cases e
    ·rename_i k n e;cases e;cases κ;cases iJ;exact Mn R (π.pure' ς)
    ·cases κ
 cases hi with
 | none=>
  cases hv with
  | some v=>exact oV.elim
  | none=>
   cases hb;refine π.bind' (π.pure' ?_);have:=low len η;cases lv with
   | none=>exact π.bind' this
   | some v=>exact π.bind' this
 | some x=>
  cases hv with
  | none=>exact oV.elim
  | some v=>
   unfold pV at hb;split at hb
   ·rename_i e;cases e
   ·rename_i k n e;cases e;cases hb;cases oV;refine π.bind' (Mn R ?_);have:=low _ rfl;cases lv with
    | none=>exact π.bind' this
    | some v=>exact π.bind' this
   ·cases hb
def CZ (T:bb) (ty:TypeId) (x:θ) (lo hi:Option θ):cK:=match T ty with
 | some i=>match i.bI,x with
  | .string,.z (.string s)=>match pV lo 0,pV hi s.size with
   | some a,some b=>.b' (0<=a/\a<=b/\b<=s.size) (.ok (.z (.string (s.extract a.toNat b.toNat))))
   | _,_=>.bad
  | .slice e,.sl ex k l=>match T e,pV lo 0,pV hi l.length with
   | some b2,some a,some b=>if l.isEmpty=true\/k=b2.size then .b' (0<=a/\a<=b/\b<=l.length) (.ok (.sl (ex&&hi.isNone) k ((l.take b.toNat).drop a.toNat))) else .bad
   | _,_,_=>.bad
  | .array n e,.ao cells=>match T e with
   | some b2=>if b2.size=1/\b2.agg=false/\n<=cells.length/\0<n/\lo.isNone/\hi.isNone/\(cells.take n).all (λc=>decide (c.cells.length=1)&&θ.a' [] c) then .ok (.sl true 1 (cells.take n)) else .bad
   | none=>.bad
  | _,_=>.bad
 | none=>.bad
def C0 (T:bb) (ty:TypeId) (σ:List Row) (x:θ) (lo hi:Option θ):df:=match T ty with
 | some i=>match i.bI,x with
  | .slice e,.ms id n i len=>match T e,σ[id]?,pV lo 0,pV hi len with
   | some b2,some (.cells _ k l),some a,some b=>if k=b2.size/\l.length=n then .b' (0<=a/\a<=b/\b<=len) (.ok (.ms id n (i+a.toNat) (b.toNat-a.toNat)) σ) else .bad
   | _,_,_,_=>.bad
  | _,_=>.bad
 | none=>.bad
theorem Ub {ex:Bool} {k:Nat} {l:List θ} {base:Option Addr} {len cap:Nat} (h:ay S B σ (.sl ex k l) (.slice base len cap)) {a b size:Nat} (eN:a<=b) (hb:b<=l.length) (ς:l.isEmpty=true\/k=size) (G5:Bool) (hex:G5=true->ex=true/\b=l.length) :
  ay S B σ (.sl G5 k ((l.take b).drop a)) (.slice (if cap=a then base else base.map (·.add (a*size))) (b-a) (cap-a)):=by
 obtain⟨TK,GH,e,J,U,μ⟩:=q2 h;cases e;have hlen:((l.take b).drop a).length=b-a:=by simp;omega
 by_cases Τ:(l.take b).drop a=[]
 ·rw[Τ] at hlen ⊢;have:b-a=0:=by simpa using hlen.symm
  rw[this];refine .i' _ _ λhe=>?_;obtain⟨Δ,Γ⟩:=hex he;have:=U Δ;omega
 ·have ο:l≠[]:=by rintro rfl;simp at Τ
  obtain⟨cU,o,w,rfl,Θ,av,ba⟩:=μ ο;have hy:k=size:=ς.resolve_left λx=>ο (List.isEmpty_iff.1 x);subst hy;have q8:a<b:=by
   apply Classical.byContradiction;intro Ζ;apply Τ;have:b-a=0:=R;rw[this] at hlen;exact dG.1 hlen
  rw[if_neg R];simp only[Option.map_some,tL];have el:∀(i:Nat) (e:θ),((l.take b).drop a)[i]?=some e->l[a+i]?=some e:=λi e hi=>by
   rw[List.getElem?_drop,List.getElem?_take] at hi;split at hi
   ·exact hi
   ·cases hi
  have hle:((l.take b).drop a).length<=cap-a:=by rw[hlen];omega
  have:=ay.sl (S:=S) (B:=B) (σ:=σ) (ex:=G5) (k:=k) (l:=(l.take b).drop a) cU (o+a*k) (cap-a) (λi j=>w (a+i) j) (λhe=>by obtain⟨Δ,Γ⟩:=hex he;have:=U Δ;omega) hle
   (λi e hi=>Θ _ e (el i e hi)) (λi e hi j c ε=>by have:=av _ e (el i e hi) j c ε;rw[Nat.add_mul] at this;rw[Nat.add_assoc o];exact this) (λi e hi j c ε=>ba _ e (el i e hi) j c ε)
  rw[hlen] at this;exact this
theorem Uc (Κ:bV P T) (Α:Holds S B σ H) (ty:TypeId) {x:θ} {v:Value} (γ:ay S B σ x v) {lo hi:Option θ} {lv hv:Option Value} (iJ:vA S B σ lo lv) (oV:vA S B σ hi hv) :
  cR P (Instr.sliceAt ty v lv hv none) S B H σ ((CZ T ty x lo hi).dE σ):=by
 unfold CZ;cases aD:T ty with
 | none=>exact .bad
 | some i=>
  simp only;split
  ·rename_i s hu;cases γ;split
   ·rename_i a b κ hb;refine cR.b' (r:=(cK.ok (.z (.string (s.extract a.toNat b.toNat)))).dE σ) λh K ζ=>?_;unfold Instr.sliceAt;refine π.bind' (Κ.bI aD ?_);rw[hu];simp only;unfold Instr.slice;refine π.bind' (Κ.bI aD ?_);rw[hu];simp only[Option.isSome_none,Bool.false_eq_true,if_false];refine π.bind' (CY iJ oV κ hb h ?_);exact π.pure' (.same Α ζ (.z _))
   ·exact .bad
  ·rename_i e ex k l hu;split
   ·rename_i b2 a b eH κ hb;split
    ·rename_i ς;refine cR.b' (r:=(cK.ok (.sl (ex&&hi.isNone) k ((l.take b.toNat).drop a.toNat))).dE σ) λh K ζ=>?_;obtain⟨base,cap,rfl,J,U,_⟩:=q2 γ;unfold Instr.sliceAt;refine π.bind' (Κ.bI aD ?_);rw[hu];simp only;unfold Instr.slice;refine π.bind' (Κ.bI aD ?_);rw[hu];simp only;refine π.bind' (CY iJ oV κ hb R ?_);simp only;refine π.bind' (Κ.size eH ?_);refine π.pure' (.same Α ζ (Ub γ R R ς _ λhe=>?_));simp only[Bool.and_eq_true] at he;refine⟨he.1,?_⟩;cases hi with
     | none=>cases hb;simp
     | some=>simp at he
    ·exact .bad
   ·exact .bad
  ·rename_i n e cells hu;split
   ·rename_i b2 eH;split
    ·rename_i δ;obtain⟨c1,c2,c3,c4,nz,sw,q9⟩:=δ;intro K ζ;cases γ with
     | ao b o w J U=>
      cases lo with
      | some=>simp at nz
      | none=>
       cases hi with
       | some=>simp at sw
       | none=>
        cases lv with
        | some=>exact iJ.elim
        | none=>
         cases hv with
         | some=>exact oV.elim
         | none=>
          unfold Instr.sliceAt;refine π.bind' (Κ.bI aD ?_);rw[hu];simp only;refine π.bind' (π.pure' ?_);refine π.bind' (CY (S:=S) (B:=B) (σ:=σ) (lo:=none) (hi:=none) (lv:=none) (hv:=none) trivial trivial (a:=0) (b:=n) rfl rfl R ?_);simp only[Int.toNat_natCast];refine π.bind' (Κ.size eH ?_);rw[c1];refine π.pure' (.same Α ζ ?_);have hV:(0:Int).toNat=0:=rfl;rw[hV,if_neg R,tL];simp only[Nat.zero_mul,Nat.add_zero,Nat.sub_zero];have hlen:(cells.take n).length=n:=by simp;omega
          rw[List.all_eq_true] at q9;have el:∀(i:Nat) (e:θ),(cells.take n)[i]?=some e->cells[i]?=some e/\e.cells=[e]:=λi e hi=>by
           have hm:=q9 e (cE hi);simp only[Bool.and_eq_true] at hm;rw[List.getElem?_take] at hi;split at hi
           ·exact⟨hi,θ.GJ hm.2⟩
           ·cases hi
          have:=ay.sl (S:=S) (B:=B) (σ:=σ) (ex:=true) (k:=1) (l:=cells.take n) b o n (λi _=>w i) (λ_=>hlen.symm) R (λi e hi=>by rw[(el i e hi).2];rfl)
           (λi e hi j c ε=>by
            rw[(el i e hi).2] at ε
            match j with
            | 0=>simp at ε;subst ε;have:=J i _ (el i _ hi).1;simpa using this
            | j+1=>simp at ε) (λi e hi j c ε=>by
            rw[(el i e hi).2] at ε
            match j with
            | 0=>simp at ε;subst ε;exact U i _ (el i _ hi).1
            | j+1=>simp at ε)
          rw[hlen] at this;exact this
    ·exact .bad
   ·exact .bad
  ·exact .bad
theorem Ud (Κ:bV P T) (Α:Holds S B σ H) (ty:TypeId) {x:θ} {v:Value} (γ:ay S B σ x v) {lo hi:Option θ} {lv hv:Option Value} (iJ:vA S B σ lo lv) (oV:vA S B σ hi hv) :
  cR P (Instr.sliceAt ty v lv hv none) S B H σ (C0 T ty σ x lo hi):=by
 unfold C0;cases aD:T ty with
 | none=>exact .bad
 | some k6=>
  simp only;split
  ·rename_i e id n i len hu;split
   ·rename_i b2 t k l a b eH ο κ hb;split
    ·rename_i δ;obtain⟨ς,Ζ⟩:=δ;refine .b' λh K ζ=>?_;cases γ with
     | ms cap J U μ Θ av ba=>
      rw[ο] at J;cases J;unfold Instr.sliceAt;refine π.bind' (Κ.bI aD ?_);rw[hu];simp only;unfold Instr.slice;refine π.bind' (Κ.bI aD ?_);rw[hu];simp only;refine π.bind' (CY iJ oV κ hb R ?_);simp only;refine π.bind' (Κ.size eH ?_);refine π.pure' (.same Α ζ (.ms (cap-a.toNat) ο Ζ μ R R ?_));by_cases δ:cap=a.toNat
      ·exact .inl R
      ·rcases ba with ba|⟨cU,N,rfl,rfl,ba⟩
       ·exact .inl R
       ·refine .inr ⟨cU,N,rfl,?_,?_⟩
        ·rw[if_neg δ];simp only[Option.map_some,tL,ς,Nat.add_mul]
        ·have:i+a.toNat+(cap-a.toNat)=i+cap:=by omega
         rw[this];exact ba
     | jz v J U=>rw[ο] at J;cases J;simp only[Row.hh] at U;omega
    ·exact .bad
   ·exact .bad
  ·exact .bad
def C1 (T:bb) (ty:TypeId) (x:θ):cK:=match T ty with
 | some i=>match i.bI,x with
  | .string,.z (.string s)=>.ok (.z (.int .i64 s.size))
  | .slice _,.sl _ _ l=>.ok (.z (.int .i64 l.length))
  | .array n _,_=>.ok (.z (.int .i64 n))
  | _,_=>.bad
 | none=>.bad
def C2 (T:bb) (ty:TypeId) (σ:List Row) (x:θ):df:=match T ty with
 | some i=>match i.bI,x with
  | .slice _,.ms id n _ len=>match σ[id]? with
   | some (.cells _ _ l)=>if l.length=n then .ok (.z (.int .i64 len)) σ else .bad
   | _=>.bad
  | _,_=>.bad
 | none=>.bad
theorem Ue (Κ:bV P T) (Α:Holds S B σ H) (ty rt:TypeId) {x:θ} {v:Value} (γ:ay S B σ x v):cR P (Builtin.len_ #[ty] rt #[v]) S B H σ ((C1 T ty x).dE σ):=by
 unfold C1;cases hi:T ty with
 | none=>exact .bad
 | some i=>
  simp only;have go:∀(K:θ->List Row->Prop) (n:Int),K (.z (.int .i64 n)) σ->π P (pure (goInt n):Sem Value) H (jb S B H σ K) (λ_ _=>False):=λK n ζ=>π.pure' (.same Α ζ (.z _));split
  ·rename_i s hu;cases γ;intro K ζ;unfold Builtin.len_;refine π.bind' (Κ.bI hi ?_);rw[hu];exact go K _ ζ
  ·rename_i e ex k l hu;obtain⟨base,cap,rfl,_⟩:=q2 γ;intro K ζ;unfold Builtin.len_;refine π.bind' (Κ.bI hi ?_);rw[hu];exact go K _ ζ
  ·rename_i n e hu;intro K ζ;unfold Builtin.len_;refine π.bind' (Κ.bI hi ?_);rw[hu];cases v<;>exact go K _ ζ
  ·exact .bad
theorem Uf (Κ:bV P T) (Α:Holds S B σ H) (ty rt:TypeId) {x:θ} {v:Value} (γ:ay S B σ x v):cR P (Builtin.len_ #[ty] rt #[v]) S B H σ (C2 T ty σ x):=by
 unfold C2;cases hi:T ty with
 | none=>exact .bad
 | some i=>
  simp only;split
  ·rename_i e id n j len hu;split
   ·rename_i t k l ο;split
    ·rename_i Ζ;intro K ζ;cases γ with
     | ms cap J U μ Θ av ba=>
      unfold Builtin.len_;refine π.bind' (Κ.bI hi ?_);rw[hu];exact π.pure' (.same Α ζ (.z _))
     | jz v J U=>rw[ο] at J;cases J;simp only[Row.hh] at U;omega
    ·exact .bad
   ·exact .bad
  ·exact .bad
def xy (T:bb) (src dst:TypeId) (x:θ):cK:=match T src,T dst with
 | some _,some j=>match j.bI,x with
  | .int k,.z (.int _ n)=>.ok (.z (.int k (k.wrap n)))
  | _,_=>.bad
 | _,_=>.bad
theorem Ug (Κ:bV P T) (Α:Holds S B σ H) (src dst:TypeId) {x:θ} {v:Value} (γ:ay S B σ x v):cR P (convert src dst v) S B H σ ((xy T src dst x).dE σ):=by
 unfold xy;split
 ·rename_i i j hi ε;split
  ·rename_i k kk n hu;cases γ;intro K ζ;unfold convert;refine π.bind' (Κ.bI hi (π.bind' (Κ.bI ε ?_)));rw[hu];exact π.pure' (.same Α ζ (.z _))
  ·exact .bad
 ·exact .bad
def C3 (l:List θ):cK:=match l with
 | [.z (.int k x),.z (.int _ y)]=>.ok (.z (.int k (if y > x then y else x)))
 | _=>.bad
theorem Uh (Α:Holds S B σ H) (eh:Array TypeId) (rt:TypeId) {a b:θ} {u v:Value} (κ:ay S B σ a u) (hb:ay S B σ b v):cR P (Builtin.max_ eh rt #[u,v]) S B H σ ((C3 [a,b]).dE σ):=by
 unfold C3;split
 ·rename_i k x kk y e;simp at e;obtain⟨rfl,rfl⟩:=e;cases κ;cases hb;intro K ζ;exact π.pure' (.same Α ζ (.z _))
 ·exact .bad
end
def mJ (d:TypeDesc) (x y:Value):Option Bool:=match d,x,y with
 | .int _,.int k a,.int ag b=>if k=ag then some (a==b) else none
 | .string,.string a,.string b=>some (a==b)
 | .bool,.bool a,.bool b=>some (a==b)
 | _,_,_=>none
def j0:List (TypeDesc×Nat)->List θ->List θ->Option Bool
 | [],_,_=>some true
 |(d,o)::r,xs,cJ=>match xs[o]?,cJ[o]? with
  | some (.z x),some (.z y)=>match mJ d x y,j0 r xs cJ with
   | some b,some c=>some (b&&c)
   | _,_=>none
  | _,_=>none
def aeqv (T:bb) (ty:TypeId) (a b:θ):Option Bool:=match T ty with
 | some i=>match a,b with
  | .z x,.z y=>if ja i.bI then mJ i.bI x y else none
  | .a5 xs,.a5 cJ=>match i.eqs with|some items=>if xs.length=items.length/\cJ.length=items.length then j0 items xs cJ else none|none=>none
  | _,_=>none
 | none=>none
section
variable {P:Program} {T:bb} {S:aJ} {B:aV} {H:χ} {σ:List Row}
theorem π.forIn_nil {α β:Type} {init:β} {f:α->β->Sem (ForInStep β)} {G:χ} {K:β->χ->Prop} {E:Value->χ->Prop} (h:K init G):π P (forIn ([]:List α) init f) G K E:=by
 rw[List.forIn_nil];exact h
theorem π.forIn_cons {α β:Type} {a:α} {l:List α} {init:β} {f:α->β->Sem (ForInStep β)} {G:χ} {K:β->χ->Prop} {E:Value->χ->Prop}
  (h:π P (f a init) G (λr G'=>match r with|.done b=>K b G'|.yield b=>π P (forIn l b f) G' K E) E):π P (forIn (a::l) init f) G K E:=by
 rw[List.forIn_cons];refine π.bind' (π.mono (λr G' ι=>?_) (λ_ _ h=>h) _ h);cases r with
 | done b=>exact π.pure' ι
 | yield b=>exact ι
theorem forIn_range {β:Type} (m:Nat) (init:β) (f:Nat->β->Sem (ForInStep β)):forIn [:m] init f=forIn (List.range m) init f:=by
 rw[Std.Legacy.Range.forIn_eq_forIn_range'];simp[Std.Legacy.Range.size,List.range_eq_range']
theorem G6 {ty:TypeId} {d:TypeDesc} (hd:P.underlying ty=some d) (ν:ja d=true) {x y:Value} {b:Bool} (h:mJ d x y=some b) {n:Nat} {G:χ} {K:Bool->χ->Prop} {E:Value->χ->Prop} (ς:K b G):π P (Op.equalIn (n+1) ty x y) G K E:=by
 unfold Op.equalIn;refine π.bind' (π.underlying hd ?_);unfold mJ at h;split at h
 ·split at h
  ·rename_i e;subst e;cases h;simp only[if_true];exact π.pure' ς
  ·cases h
 ·cases h;exact π.pure' ς
 ·cases h;exact π.pure' ς
 ·cases h
def G7 (xs:List θ) (vs:Array Value):Prop:=∀(o:Nat) (v:Value),xs[o]?=some (θ.z v)->vs[o]?=some v
theorem zJ {xs:List θ} {vs:Array Value} (h:ay S B σ (.a5 xs) (.agg vs)):G7 xs vs:=λo v hv=>by
 cases h with
 | a5 _ Χ ak=>
  have aP:o<vs.size:=by rw[<-Χ];exact(cf.1 hv).1
  have γ:=fq aP
  have:=ak o _ _ hv γ;generalize vs[o]=u at this γ;cases this;exact γ
theorem zK {ty:TypeId} {d:TypeDesc} (hd:P.underlying ty=some d) (ν:ja d=true) {vs:Array Value} {o:Nat} {v:Value} (hv:vs[o]?=some v) {G:χ} {K:Value->χ->Prop} {E:Value->χ->Prop} (ς:K v G):π P (part ty vs o) G K E:=by
 unfold part;refine π.bind' (π.isAgg hd ?_);have:lW d=false:=by cases d<;>first|rfl|cases ν
 rw[this];simp only[Bool.false_eq_true,if_false,hv];exact π.pure' ς
theorem Ui {xs cJ:List θ} {vs ws:Array Value} (γ:G7 xs vs) (Ι:G7 cJ ws) {ty:TypeId} {items:List (TypeDesc×Nat)} (Φ:GF P ty (some items)) {b:Bool} (h:j0 items xs cJ=some b) {n:Nat} {G:χ} {K:Bool->χ->Prop} {E:Value->χ->Prop} (ς:K b G) :
  π P (Op.equalIn (n+2) ty (.agg vs) (.agg ws)) G K E:=by
 obtain⟨_,_,Φ⟩:=Φ;rcases Φ with⟨dh,hu,cF,dA,pW⟩|⟨m,e,d,f,hu,he,ν,Υ,cv,dA⟩
 ·unfold Op.equalIn;refine π.bind' (π.underlying hu ?_);simp only;refine π.bind' ?_;show π P (if P.stoodInHeld ty=true then _ else _) G K E;rw[cF];simp only[Bool.false_eq_true,if_false];have key:∀(l:List Field) (c:Bool),(∀f∈l,f.name≠ "_" /\ ∃d,P.underlying f.type=some d/\ja d=true)->j0 (l.map λf=>((P.underlying f.type).getD .invalid,f.offset)) xs cJ=some c->
    ∀pX:Option Bool×PUnit->χ->Prop,pX (if c then none else some false,⟨⟩) G->π P (forIn l (none,⟨⟩) λ(f:Field) (_:Option Bool×PUnit)=>if f.name≠ "_" then do
     let a <-part f.type vs f.offset
     let b <-part f.type ws f.offset
     let r <-Op.equalIn (n+1) f.type a b
     if(!r)=true then pure (ForInStep.done (some false,⟨⟩)) else pure (ForInStep.yield (none,⟨⟩))
    else pure (ForInStep.yield (none,⟨⟩))) G pX E:=by
   intro l
   induction l with
   | nil=>intro c _ δ pX U;simp[j0] at δ;subst δ;exact .forIn_nil (by simpa using U)
   | cons f l Β=>
    intro c ο δ pX U;obtain⟨vB,d,hd,ν⟩:=ο f η;simp only[List.map_cons,j0,hd,Option.getD_some] at δ;split at δ<;>try cases δ
    rename_i x y vC xz;split at δ<;>try cases δ
    rename_i bw c1 k7 kK;refine .forIn_cons ?_;rw[if_pos vB];refine π.bind' (zK hd ν (γ _ _ vC) (π.bind' (zK hd ν (Ι _ _ xz) (π.bind' (G6 hd ν k7 ?_)))));cases bw with
    | false=>exact π.pure' (by simpa using U)
    | true=>exact π.pure' (Β c1 (λg Ξ=>ο g (by simp[Ξ])) kK pX (by simpa using U))
  refine π.bind' ?_;have C4:(forIn dh (none,⟨⟩) λ(f:Field) (_:Option Bool×PUnit)=>if f.name≠ "_" then do
     let a <-part f.type vs f.offset
     let b <-part f.type ws f.offset
     let r <-Op.equalIn (n+1) f.type a b
     if(!r)=true then pure (ForInStep.done (some false,⟨⟩)) else pure (ForInStep.yield (none,⟨⟩))
    else pure (ForInStep.yield (none,⟨⟩)):Sem (Option Bool×PUnit))=forIn dh.toList (none,⟨⟩) _:=(Array.forIn_toList ..).symm
  refine Eq.mpr (congrArg (λs=>π P s G _ E) C4) ?_;refine key dh.toList b pW (by rw[<-dA];exact h) _ ?_;cases b<;>exact π.pure' ς
 ·unfold Op.equalIn;refine π.bind' (π.underlying hu ?_);simp only;refine π.bind' (π.sizeOf Υ ?_);rw[cv];have key:∀(l:List Nat) (c:Bool),j0 (l.map λi=>(d,i)) xs cJ=some c->
    ∀pX:Option Bool×PUnit->χ->Prop,pX (if c then none else some false,⟨⟩) G->π P (forIn l (none,⟨⟩) λ(i:Nat) (_:Option Bool×PUnit)=>do
     let a <-part e vs (i*1)
     let b <-part e ws (i*1)
     let r <-Op.equalIn (n+1) e a b
     if(!r)=true then pure (ForInStep.done (some false,⟨⟩)) else pure (ForInStep.yield (none,⟨⟩))) G pX E:=by
   intro l
   induction l with
   | nil=>intro c δ pX U;simp[j0] at δ;subst δ;exact .forIn_nil (by simpa using U)
   | cons i l Β=>
    intro c δ pX U;simp only[List.map_cons,j0] at δ;split at δ<;>try cases δ
    rename_i x y vC xz;split at δ<;>try cases δ
    rename_i bw c1 k7 kK;refine .forIn_cons ?_;refine π.bind' (zK he ν (by rw[Nat.mul_one];exact γ _ _ vC) (π.bind' (zK he ν (by rw[Nat.mul_one];exact Ι _ _ xz) (π.bind' (G6 he ν k7 ?_)))));cases bw with
    | false=>exact π.pure' (by simpa using U)
    | true=>exact π.pure' (Β c1 kK pX (by simpa using U))
  refine π.bind' ?_;rw[forIn_range];refine key (List.range m) b (by rw[<-dA];exact h) _ ?_;cases b<;>exact π.pure' ς
theorem G8 (Κ:bV P T) {ty:TypeId} {a b:θ} {v w:Value} {r:Bool} (κ:ay S B σ a v) (hb:ay S B σ b w) (h:aeqv T ty a b=some r) {K:Bool->χ->Prop} {E:Value->χ->Prop} (ς:K r H):π P (Op.equal ty v w) H K E:=by
 unfold aeqv at h;split at h
 ·rename_i i hi;obtain⟨⟨hu,Φ⟩,_⟩:=Κ ty i hi;split at h
  ·split at h
   ·rename_i ν;cases κ;cases hb;exact G6 hu ν h ς
   ·cases h
  ·split at h
   ·rename_i items dA;rw[dA] at Φ;split at h<;>try cases h
    cases κ with
    | a5 vs Χ ak=>cases hb with
     | a5 ws k1 cN=>exact Ui (zJ (.a5 vs Χ ak)) (zJ (.a5 ws k1 cN)) Φ h ς
   ·cases h
  ·cases h
 ·cases h
theorem Mo (a b:ByteArray):(a==b)=(a.data==b.data):=by
 cases a;cases b;rfl
theorem Uj {a b:ByteArray} (h:(a==b)=true):a=b:=by
 rw[Mo] at h;have:=eq_of_beq h;cases a;cases b;simp at this;simp[this]
theorem Uk (a:ByteArray):(a==a)=true:=by rw[Mo];exact beq_self_eq_true _
theorem Mp {d:TypeDesc} {x y:Value} (h:mJ d x y=some true):x=y/\∀n,Instr.sameBits n x x=true:=by
 unfold mJ at h;split at h
 ·split at h
  ·rename_i e;subst e;simp only[Option.some.injEq,beq_iff_eq] at h;subst h;exact⟨rfl,λn=>by cases n<;>simp[Instr.sameBits]⟩
  ·cases h
 ·simp only[Option.some.injEq] at h;have:=Uj h;subst this;exact⟨rfl,λn=>by cases n<;>simp[Instr.sameBits,Uk]⟩
 ·simp only[Option.some.injEq,beq_iff_eq] at h;subst h;exact⟨rfl,λn=>by cases n<;>simp[Instr.sameBits]⟩
 ·cases h
theorem Ul {xs cJ:List θ}:∀(items:List (TypeDesc×Nat)),j0 items xs cJ=some true->∀o,o∈items.map (·.2)->∃x,xs[o]?=some (.z x)/\cJ[o]?=some (.z x)/\∀n,Instr.sameBits n x x=true:=by
 intro items
 induction items with
 | nil=>intro _ o ω;simp at ω
 | cons a items Β=>
  obtain⟨d,p⟩:=a;intro h o ω;simp only[j0] at h;split at h<;>try cases h
  rename_i x y vC xz;split at h<;>try cases h
  rename_i b c hb δ;simp only[Option.some.injEq,Bool.and_eq_true] at h;obtain⟨rfl,rfl⟩:=h;simp only[List.map_cons,List.mem_cons] at ω;rcases ω with rfl|ω
  ·obtain⟨Δ,Γ⟩:=Mp hb;subst Δ;exact⟨x,vC,xz,Γ⟩
  ·exact Β δ o ω
theorem Um (Κ:bV P T) {ty:TypeId} {a b:θ} {v w:Value} (κ:ay S B σ a v) (hb:ay S B σ b w) (h:aeqv T ty a b=some true):v=w/\a=b/\∀n,Instr.sameBits (n+1) v v=true:=by
 unfold aeqv at h;split at h
 ·rename_i i hi;obtain⟨⟨hu,Φ⟩,_⟩:=Κ ty i hi;split at h
  ·split at h
   ·obtain⟨Δ,Γ⟩:=Mp h;subst Δ;cases κ;cases hb;exact⟨rfl,rfl,λn=>Γ _⟩
   ·cases h
  ·rename_i xs cJ;split at h
   ·rename_i items dA;rw[dA] at Φ;split at h<;>try cases h
    rename_i hlen;obtain⟨J,U⟩:=hlen;have xA:=Φ.2.1;have get:∀o,o<items.length->∃x,xs[o]?=some (.z x)/\cJ[o]?=some (.z x)/\∀n,Instr.sameBits n x x=true:=λo ω=>Ul items h o (by rw[xA];simpa using ω);have xB:xs=cJ:=by
     apply List.ext_getElem?;intro o;by_cases ω:o<items.length
     ·obtain⟨x,Χ,ak,_⟩:=get o ω;rw[Χ,ak]
     ·rw[List.getElem?_eq_none R,List.getElem?_eq_none R]
    cases κ with
    | a5 vs Χ ak=>cases hb with
     | a5 ws k1 cN=>
      have Mq:∀o,o<items.length->∃x,vs[o]?=some x/\ws[o]?=some x/\∀n,Instr.sameBits n x x=true:=λo ω=>by
       obtain⟨x,c1,c2,c3⟩:=get o ω;exact⟨x,zJ (.a5 vs Χ ak) o x c1,zJ (.a5 ws k1 cN) o x c2,c3⟩
      have pY:vs=ws:=by
       apply Array.ext_getElem?;intro o;by_cases ω:o<items.length
       ·obtain⟨x,c1,c2,_⟩:=Mq o ω;rw[c1,c2]
       ·rw[Array.getElem?_eq_none R,Array.getElem?_eq_none R]
      subst pY;refine⟨rfl,by rw[xB],λn=>?_⟩;simp only[Instr.sameBits,beq_self_eq_true,Bool.true_and,List.all_eq_true];intro p ψ;obtain⟨o,ω⟩:=List.getElem?_of_mem ψ;rw[List.getElem?_zip_eq_some] at ω;have xC:o<items.length:=by
       have:=(cf.1 ω.1).1;simp at this;omega
      obtain⟨x,c1,_,c3⟩:=Mq o xC;rw[Array.getElem?_toList,c1] at ω;obtain⟨Δ,Γ⟩:=ω;cases Δ;rw[<-Option.some.inj Γ];exact c3 n
   ·cases h
  ·cases h
 ·cases h
end
end Go.TL
