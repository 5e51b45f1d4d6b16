import Derived.IntWalk
import Derived.Laws.Sem
import Derived.Test.YtlabjopijpkiaaaGreatQAK
set_option maxHeartbeats 16000000
set_option maxRecDepth 20000
set_option linter.unusedSectionVars false
set_option linter.unusedSimpArgs false
set_option linter.unusedVariables false
namespace Go.TL
open Go.Conc
section
variable {P:Program} {T:a7} {S:aA} {B:aN} {H:ψ} {σ:List Row}
def BA (σ:List Row) (a:θ):cT:=if a.cells.all (θ.a0 σ)=true then .ok (.aa a.cells) σ else .bad
def v' (a:θ):cr:=if a.cells.all (θ.a0 [])=true then .ok (.aa a.cells) else .bad
def wa (t:TypeId) (σ:List Row) (a:θ):cT:=if a.cells.all (θ.a0 σ)=true then .ok (.ag σ.length 1 0 0) (σ++[.cells t a.cells.length [a]]) else .bad
theorem FH (Α:Holds S B σ H) (ty:TypeId) {a:θ} {v:Value} (μ:aj S B σ a v) (dA:a.cells.all (θ.a0 σ)=true):cB P (do pure (.pointer (some (←newVar ty v)))) S B H σ (.ok (.aa a.cells) σ):=by
 intro K I;refine ς.bind' ?_;unfold newVar newRow;refine ς.bind' (yD Α v.cells ty fun r R γ ο=>ς.pure' (ς.pure' ⟨_,_,_,_,I,γ,R,ο,?_⟩));exact KR ο (fw.one μ dA)
theorem Sp (Α:Holds S B σ H) (ty:TypeId) {a:θ} {v:Value} (μ:aj S B σ a v):cB P (Instr.box ty v) S B H σ (BA σ a):=by
 unfold BA;split
 ·rename_i dA;exact FH Α ty μ dA
 ·exact .bad
theorem Sq (Α:Holds S B σ H) (ty:TypeId) {a:θ} {v:Value} (μ:aj S B σ a v):cB P (Instr.box ty v) S B H σ ((v' a).dh σ):=by
 unfold v';split
 ·rename_i dA;exact FH Α ty μ (v8 dA)
 ·exact .bad
theorem KS (Α:Holds S B σ H) (ty:TypeId) {a:θ} {v:Value} (μ:aj S B σ a v):cB P (do pure (.pointer (some (←newVar ty v)))) S B H σ (wa ty σ a):=by
 unfold wa;split
 ·rename_i dA;intro K I;refine ς.bind' ?_;unfold newVar newRow;refine ς.bind' (yC Α (fw.one μ dA) ty fun r _ R γ ο=>ς.pure' (ς.pure' ⟨_,_,_,_,I,γ,R,ο,?_⟩));have:=aj.ag (S:=S) (B:=B++[some (r,v.cells.size)]) (σ:=σ++[.cells ty a.cells.length [a]]) (id:=σ.length) (n:=1) (i:=0) (j:=0) (k:=a.cells.length) (t:=ty) (l:=[a]) (b:=r) (N:=v.cells.size) (by simp) rfl (by rw[←Α.len];simp);simpa using this
 ·exact .bad
theorem Sr (Α:Holds S B σ H) (ty:TypeId) {a:θ} {v:Value} (μ:aj S B σ a v):cB P (Instr.box ty v) S B H σ (wa ty σ a):=KS Α ty μ
def BB (T:a7) (ty:TypeId) (σ:List Row):cT:=match T ty with|some i=>wa ty σ (g2 i.zero)|none=>.bad
def BC (T:a7) (ty:TypeId):cr:=match T ty with|some i=>v' (g2 i.zero)|none=>.bad
theorem Ss (Ζ:bN P T) (Α:Holds S B σ H) (ty:TypeId):cB P (Instr.alloc ty true (.tuple #[])) S B H σ (BB T ty σ):=by
 unfold BB;cases hi:T ty with
 | none=>exact .bad
 | some i=>
  intro K I;unfold Instr.alloc;exact ς.bind' (Ζ.zero hi (KS Α ty (o2 i.zero) K I))
theorem St (Ζ:bN P T) (Α:Holds S B σ H) (ty:TypeId):cB P (Instr.alloc ty true (.tuple #[])) S B H σ ((BC T ty).dh σ):=by
 unfold BC;cases hi:T ty with
 | none=>exact .bad
 | some i=>
  simp only[v'];split
  ·rename_i dA;intro K I;unfold Instr.alloc;exact ς.bind' (Ζ.zero hi (FH Α ty (o2 i.zero) (v8 dA) K I))
  ·exact .bad
def qf (pl:Nat→Option (Nat×Nat×Nat)) (k:Nat) (a0:θ→Bool) (l:List θ):List (Nat×θ)→Option (List θ)
 | []=>some l
 |(x,a)::r=>match pl x with
  | some (i,j,n)=>match l[i]? with
   | some e=>if a.cells.length=n∧j+n≤k∧a.cells.all a0=true then qf pl k a0 (l.set i (e.rm j a.cells)) r else none
   | none=>none
  | none=>none
theorem FI {k:Nat} {a0:θ→Bool} (na:∀a:θ,a0 a=true→a.a0 σ=true) {pl:Nat→Option (Nat×Nat×Nat)} {place:Nat→Option (Nat×Nat)} (hz:∀x i j n,pl x=some (i,j,n)→place x=some (i*k+j,n)) {env:Χ} {t:Array Value} (cC:c7 S B σ env t) :
  ∀(cK:List (Nat×Operand)) (c:Array Value) (l dK:List θ),fw S B σ c k l→qf pl k a0 l (cK.map fun p=>(p.1,aL env p.2))=some dK→
  ∃c',Instr.fill place c (cK.map fun p=>(p.1,bk t p.2))=some c'∧c'.size=c.size∧fw S B σ c' k dK∧dK.length=l.length:=by
 intro cK
 induction cK with
 | nil=>intro c l dK η h;cases h;exact⟨c,rfl,rfl,η,rfl⟩
 | cons p cK Γ=>
  obtain⟨x,o⟩:=p;intro c l dK η h;simp only[List.map_cons,qf] at h;split at h<;>try cases h
  rename_i i j n χ;split at h<;>try cases h
  rename_i e he;split at h<;>try cases h
  rename_i AY;obtain⟨R,γ,ο⟩:=AY;have μ:=kW cC o;have dA:(aL env o).cells.all (θ.a0 σ)=true:=by
   rw[List.all_eq_true] at ο ⊢;exact fun a μ=>na a (ο a μ)
  obtain⟨cd,_⟩:=μ.cells dA;obtain⟨k1,cx⟩:=η.put he μ dA (by omega:j+(aL env o).cells.length≤k);obtain⟨c',Ε,Δ,a4,cu⟩:=Γ _ _ _ cx h;refine⟨c',?_,by rw[Δ,k1],a4,by rw[cu];simp⟩;have h':i<l.length:=(b3.1 he).1;have hle:i*k+j+(bk t o).cells.size≤c.size:=by
   have a1:(i+1)*k≤l.length*k:=Nat.mul_le_mul_right k h'
   have bg:=η.1;rw[Nat.add_mul] at a1;omega
  simp only[List.map_cons,Instr.fill,hz x i j n χ];have c1:((bk t o).cells.size≠n)=False:=by simp;omega
  have c2:(i*k+j+(bk t o).cells.size > c.size)=False:=by simp;omega
  simp only[bne_iff_ne,ne_eq,Bool.or_eq_true,decide_eq_true_eq,c1,c2];simp only[ne_eq] at c1;simp only[c1,or_self,if_false];exact Ε
def KT (T:a7) (cV:Array Field):Option (List (Nat×Nat)):=cV.toList.mapM fun f=>(T f.type).map fun i=>(f.offset,i.size)
theorem Su (Ζ:bN P T) {K:Array (Nat×Nat)→ψ→Prop} {E:Value→ψ→Prop} {cV:Array Field} {l:List (Nat×Nat)} (h:KT T cV=some l) (υ:K l.toArray H) :
  ς P (cV.mapM fun f=>(do pure (f.offset,←sizeOf f.type):Sem (Nat×Nat))) H K E:=by
 have key:∀(gs:List Field) (l:List (Nat×Nat)) (K:List (Nat×Nat)→ψ→Prop),(gs.mapM fun f=>(T f.type).map fun i=>(f.offset,i.size))=some l→K l H→ς P (gs.mapM fun f=>(do pure (f.offset,←sizeOf f.type):Sem (Nat×Nat))) H K E:=by
  intro gs
  induction gs with
  | nil=>intro l K h υ;simp at h;subst h;exact ς.pure' υ
  | cons f gs Γ=>
   intro l K h υ;rw[List.mapM_cons] at h ⊢;cases Ρ:T f.type with
   | none=>rw[Ρ] at h;cases h
   | some i=>
    rw[Ρ] at h;simp only[Option.map_some,Option.bind_eq_bind,Option.bind_some] at h;cases Τ:(gs.mapM fun f=>(T f.type).map fun i=>(f.offset,i.size)) with
    | none=>rw[Τ] at h;cases h
    | some l2=>
     rw[Τ] at h;cases h;refine ς.bind' (ς.bind' (Ζ.size Ρ (ς.pure' ?_)));refine ς.bind' (Γ l2 _ Τ ?_);exact ς.pure' υ
 rw[Array.mapM_eq_mapM_toList];exact ς.bind (cV.toList.mapM _) (key cV.toList l _ h (ς.pure' υ))
def mz (T:a7) (a0:θ→Bool) (ty:TypeId) (parts:List (Nat×θ)):cr:=match T ty with
 | some i=>
  let z:=g2 i.zero
  if z.cells.length=i.zero.cells.size∧z.cells.all (θ.a0 [])=true then match i.bA with
   | .struct cV=>match KT T cV with
    | some pl=>match qf (fun x=>(pl[x]?).map fun p=>(0,p.1,p.2)) z.cells.length a0 [z] parts with
     | some [e]=>.ok (.aU e.cells)
     | _=>.bad
    | none=>.bad
   | .array _ el=>match T el with
    | some bS=>match qf (fun x=>some (0,x*bS.size,bS.size)) z.cells.length a0 [z] parts with
     | some [e]=>.ok (.aU e.cells)
     | _=>.bad
    | none=>.bad
   | _=>.bad
  else .bad
 | none=>.bad
theorem KU {c:Array Value} {k:Nat} {e:θ} (h:fw S B σ c k [e]) (υ:c.size=k):aj S B σ (.aU e.cells) (.agg c):=by
 obtain⟨R,γ⟩:=h.2 0 e rfl;refine .aU c (by rw[R,υ]) fun j a v ε hv=>?_;obtain⟨x,Ε,Δ,_⟩:=γ j a ε;rw[Nat.zero_mul,Nat.zero_add,hv] at Ε;cases Ε;exact Δ
theorem KV (Ζ:bN P T) (Α:Holds S B σ H) {a0:θ→Bool} (na:∀a:θ,a0 a=true→a.a0 σ=true) (ty:TypeId) {env:Χ} {t:Array Value} (cC:c7 S B σ env t) (parts:Array (Nat×Operand)) :
  cB P (Instr.build ty (parts.map fun(i,x)=>(i,bk t x))) S B H σ ((mz T a0 ty (parts.toList.map fun p=>(p.1,aL env p.2))).dh σ):=by
 unfold mz;cases hi:T ty with
 | none=>exact .bad
 | some i=>
  simp only;split
  ·rename_i Ν;obtain⟨sL,yE⟩:=Ν;have BD:fw S B σ i.zero.cells (g2 i.zero).cells.length [g2 i.zero]:=fw.one (o2 i.zero) (v8 yE);have BE:(parts.map fun(i,x)=>(i,bk t x)).toList=parts.toList.map fun p=>(p.1,bk t p.2):=by simp
   split
   ·rename_i cV hu;split
    ·rename_i pl hz;split
     ·rename_i e he;intro K I;unfold Instr.build;refine ς.bind' (Ζ.zero hi (ς.bind' (Ζ.bA hi ?_)));rw[hu];refine ς.bind' (Su Ζ hz ?_);obtain⟨c',Ε,Δ,a4,_⟩:=FI (place:=(pl.toArray[·]?)) na (fun x i j n h=>by
       cases δ:pl[x]? with
       | none=>rw[δ] at h;cases h
       | some p=>rw[δ] at h;cases h;simp[δ]) cC parts.toList _ _ _ BD he
      rw[BE,Ε];exact ς.pure' (.same Α I (KU a4 (by rw[Δ,sL])))
     ·exact .bad
    ·exact .bad
   ·rename_i m el hu;split
    ·rename_i bS dO;split
     ·rename_i e he;intro K I;unfold Instr.build;refine ς.bind' (Ζ.zero hi (ς.bind' (Ζ.bA hi ?_)));rw[hu];refine ς.bind' (Ζ.size dO ?_);obtain⟨c',Ε,Δ,a4,_⟩:=FI (place:=fun i=>some (i*bS.size,bS.size)) na (fun x i j n h=>by
       simp at h;obtain⟨rfl,rfl,rfl⟩:=h;simp) cC parts.toList _ _ _ BD he
      rw[BE,Ε];exact ς.pure' (.same Α I (KU a4 (by rw[Δ,sL])))
     ·exact .bad
    ·exact .bad
   ·exact .bad
  ·exact .bad
def yF (T:a7) (a0:θ→Bool) (ty:TypeId) (len:Nat) (parts:List (Nat×θ)):Option (TypeId×Nat×List θ):=match hg T ty with
 | some (e,k,none)=>match T e with
  | some bS=>if 0<k∧len*k≤2 ^ 24∧(g2 bS.zero).cells.length=k∧(g2 bS.zero).cells.all (θ.a0 [])=true then
    (qf (fun x=>some (x,0,k)) k a0 (List.replicate len (g2 bS.zero)) parts).map fun l=>(e,k,l) else none
  | none=>none
 | _=>none
theorem KW (Ζ:bN P T) {a0:θ→Bool} (na:∀a:θ,a0 a=true→a.a0 σ=true) {ty e:TypeId} {len k:Nat} {l:List θ} {env:Χ} {t:Array Value} (cC:c7 S B σ env t) {parts:Array (Nat×Operand)}
  (h:yF T a0 ty len (parts.toList.map fun p=>(p.1,aL env p.2))=some (e,k,l)) {K:Value→ψ→Prop} {E:Value→ψ→Prop}
  (υ:∀c:Array Value,fw S B σ c k l→l.length=len→ς P (newObj (.cells c e)) H (fun r H'=>K (.slice (some ⟨r,0,none⟩) len len) H') E) :
  ς P (Instr.buildSlice ty len (parts.map fun(i,x)=>(i,bk t x))) H K E:=by
 unfold yF at h;split at h<;>try cases h
 rename_i aH Ω he;split at h<;>try cases h
 rename_i bS dO;split at h<;>try cases h
 rename_i η;obtain⟨R,γ,ο,Ι⟩:=η;obtain⟨i,FJ,hi,hu,sM,cd⟩:=Bu he;rw[dO] at sM;cases sM;cases Ρ:qf (fun x=>some (x,0,Ω)) Ω a0 (List.replicate len (g2 bS.zero)) (parts.toList.map fun p=>(p.1,aL env p.2)) with
 | none=>rw[Ρ] at h;cases h
 | some dK=>
  rw[Ρ] at h;cases h;unfold Instr.buildSlice;refine ς.bind' (Ζ.bA hi ?_);rw[hu];refine ς.bind' (Ζ.size dO ?_);rw[cd];have KX:¬(len*k > 2 ^ 24):=by omega
  simp only[KX,if_false];have BE:(parts.map fun(i,x)=>(i,bk t x)).toList=parts.toList.map fun p=>(p.1,bk t p.2):=by simp
  have fin:∀fI:Array Value,(len=0∨fI=bS.zero.cells)→∃c',Instr.fill (fun i=>some (i*k,k)) ((Array.range (len*k)).map (fI[· % fI.size]!)) (parts.map fun(i,x)=>(i,bk t x)).toList=some c'∧fw S B σ c' k l∧l.length=len:=fun fI qg=>by
   have BD:fw S B σ ((Array.range (len*k)).map (fI[· % fI.size]!)) k (List.replicate len (g2 bS.zero)):=by
    rcases qg with rfl|qg
    ·exact⟨by simp,fun i e hi=>by simp at hi⟩
    ·exact fw.KQ (o2 bS.zero) (v8 Ι) ο (Nat.le_refl _) fI qg
   obtain⟨c',Ε,Δ,a4,cu⟩:=FI (place:=fun i=>some (i*k,k)) na (fun x i j n h=>by
    simp at h;obtain⟨rfl,rfl,rfl⟩:=h;simp) cC parts.toList _ _ _ BD Ρ
   rw[BE];exact⟨c',Ε,a4,by rw[cu];simp⟩
  by_cases ω:len=0
  ·obtain⟨c',Ε,Δ,a4⟩:=fin #[] (.inl ω);have Ν:len*k=0:=by rw[ω];simp
   rw[if_pos Ν];refine ς.bind' (ς.pure' ?_);rw[Ε];exact ς.bind' (υ c' Δ a4)
  ·have bu:len*k≠0:=by
    intro ae;rcases Nat.mul_eq_zero.1 ae with ae|ae<;>omega
   obtain⟨c',Ε,Δ,a4⟩:=fin _ (.inr rfl);rw[if_neg bu];refine ς.bind' (Ζ.zero dO ?_);refine ς.bind' (ς.pure' ?_);rw[Ε];exact ς.bind' (υ c' Δ a4)
def yG (T:a7) (a0:θ→Bool) (ty:TypeId) (len:Nat) (parts:List (Nat×θ)):cr:=match yF T a0 ty len parts with
 | some (_,k,l)=>.ok (.sl true k l)
 | none=>.bad
def BF (T:a7) (ty:TypeId) (len:Nat) (parts:List (Nat×θ)) (σ:List Row):cT:=match yF T (θ.a0 σ) ty len parts with
 | some (e,k,l)=>.ok (.ms σ.length len 0 len) (σ++[.cells e k l])
 | none=>.bad
theorem KY (Ζ:bN P T) (Α:Holds S B σ H) {a0:θ→Bool} (na:∀a:θ,a0 a=true→a.a0 σ=true) (ty:TypeId) (len:Nat) {env:Χ} {t:Array Value} (cC:c7 S B σ env t) (parts:Array (Nat×Operand)) :
  cB P (Instr.buildSlice ty len (parts.map fun(i,x)=>(i,bk t x))) S B H σ ((yG T a0 ty len (parts.toList.map fun p=>(p.1,aL env p.2))).dh σ):=by
 unfold yG;split
 ·rename_i e k l h;intro K I;refine KW Ζ na cC h fun c η hlen=>yD Α c e fun r R γ ο=>⟨_,_,_,_,I,γ,R,ο,?_⟩;have:=Bz (cap:=len) true ο η (by omega) (fun _=>hlen.symm);rw[hlen] at this;exact this
 ·exact .bad
theorem KZ {r n k:Nat} {t:TypeId} {l:List θ} (hlen:B.length=σ.length) (c:Array Value) (η:l.length*k≤c.size) (Η:l.length=n):aj S (B++[some (r,c.size)]) (σ++[.cells t k l]) (.ms σ.length n 0 n) (.slice (some ⟨r,0,none⟩) n n):=by
 have:=aj.ms (S:=S) (B:=B++[some (r,c.size)]) (σ:=σ++[.cells t k l]) (id:=σ.length) (n:=n) (i:=0) (len:=n) (t:=t) (k:=k) (l:=l) (bo:=some (r,c.size)) (base:=some ⟨r,0,none⟩) n (by simp) Η (by rw[←hlen];simp) (by omega) (Nat.le_refl _) (.inr ⟨r,c.size,rfl,by simp,by subst Η;simpa using η⟩);exact this
theorem Sv (Ζ:bN P T) (Α:Holds S B σ H) (ty:TypeId) (len:Nat) {env:Χ} {t:Array Value} (cC:c7 S B σ env t) (parts:Array (Nat×Operand)) :
  cB P (Instr.buildSlice ty len (parts.map fun(i,x)=>(i,bk t x))) S B H σ (BF T ty len (parts.toList.map fun p=>(p.1,aL env p.2)) σ):=by
 unfold BF;split
 ·rename_i e k l h;intro K I;exact KW Ζ (fun a h=>h) cC h fun c η hlen=>yC Α η e fun r _ R γ ο=>⟨_,_,_,_,I,γ,R,ο,KZ Α.len c η.1 hlen⟩
 ·exact .bad
def yH (T:a7) (ty:TypeId) (a b:θ):Option (TypeId×Nat×θ×Int×Int):=match hg T ty,a,b with
 | some (e,k,none),.z (.int _ n),.z (.int _ m)=>match T e with
  | some bS=>if 0<k∧(g2 bS.zero).cells.length=k∧(g2 bS.zero).cells.all (θ.a0 [])=true then some (e,k,g2 bS.zero,n,bS.bytes) else none
  | none=>none
 | _,_,_=>none
end
section
variable {P:Program} {T:a7} {S:aA} {B:aN} {H:ψ} {σ:List Row}
theorem K1 (Ζ:bN P T) {ty e:TypeId} {k:Nat} {z:θ} {n bytes:Int} {a b:θ} {u v:Value} (μ:aj S B σ a u) (hb:aj S B σ b v) (h:yH T ty a b=some (e,k,z,n,bytes)) (gw:∀kk m,b=.z (.int kk m)→m=n) (Η:0≤n∧0<bytes∧bytes*n≤2 ^ 48) {K:Value→ψ→Prop} {E:Value→ψ→Prop}
  (υ:∀c:Array Value,fw S B σ c k (List.replicate n.toNat z)→ς P (newObj (.cells c e)) H (fun r H'=>K (.slice (some ⟨r,0,none⟩) n.toNat n.toNat) H') E) :
  ς P (Instr.makeSlice ty u v) H K E:=by
 unfold yH at h;split at h<;>try cases h
 rename_i aH Ω k1 iq cx m he;split at h<;>try cases h
 rename_i bS dO;split at h<;>try cases h
 rename_i η;obtain⟨R,γ,ο⟩:=η;cases μ;cases hb;have hm:=gw _ _ rfl;subst hm;obtain⟨i,FJ,hi,hu,sM,cd⟩:=Bu he;rw[dO] at sM;cases sM;obtain⟨qh,i',FK⟩:=Η;have hle:m≤2 ^ 48:=by
  have:1*m≤(bS.bytes:Int)*m:=Int.mul_le_mul_of_nonneg_right (by omega) qh;omega
 have hw:IntKind.i64.wrap m=m:=IntWalk.i64_in m ⟨by omega,by omega⟩;unfold Instr.makeSlice;refine ς.bind' (Ζ.bA hi ?_);rw[hu];refine ς.bind' (ς.bind' (ς.pure' (ς.pure' ?_)));refine ς.bind' (ς.bind' (ς.pure' (ς.pure' ?_)));refine ς.bind' (Ζ.info dO fun f Ρ=>?_);simp only[hw,Ρ];have c1:¬m<0:=by omega
 have c2:¬((bS.bytes:Int)*m > 2 ^ 48):=by omega
 have c3:¬m > m:=by omega
 simp only[c1,c2,c3,decide_false,Bool.or_false,Bool.false_eq_true,if_false];refine ς.bind' ?_;have fin:ς P (do
   let K2 ←(do pure (m.toNat*(←sizeOf e)):Sem Nat)
   let zero ←if K2=0 then pure #[] else do pure (←zeroValue e).cells
   let a ←newRow e ((Array.range K2).map (zero[· % zero.size]!))
   pure (.slice (some a) m.toNat m.toNat)) H K E:=by
  refine ς.bind' (ς.bind' (Ζ.size dO (ς.pure' ?_)));rw[cd];by_cases Ν:m.toNat*k=0
  ·rw[if_pos Ν];refine ς.bind' (ς.pure' ?_);refine ς.bind' (ς.bind' ?_);refine υ _ ?_;rcases Nat.mul_eq_zero.1 Ν with ae|ae
   ·rw[ae];exact⟨by simp,fun i e hi=>by simp at hi⟩
   ·omega
  ·rw[if_neg Ν];refine ς.bind' (Ζ.zero dO ?_);refine ς.bind' (ς.pure' ?_);refine ς.bind' (ς.bind' ?_);exact υ _ (fw.KQ (o2 bS.zero) (v8 ο) γ (Nat.le_refl _) _ rfl)
 unfold askRoom;split
 ·refine⟨rfl,?_⟩;show ς P _ H K E;have:=fin;simpa using this
 ·refine ς.pure' ?_;show ς P _ H K E;have:=fin;simpa using this
def BG (T:a7) (ty:TypeId) (a b:θ) (σ:List Row):cT:=match yH T ty a b,b with
 | some (e,k,z,n,bytes),.z (.int _ m)=>.b2 (m=n∧0≤n∧0<bytes∧bytes*n≤2 ^ 48) (.ok (.ms σ.length n.toNat 0 n.toNat) (σ++[.cells e k (List.replicate n.toNat z)]))
 | _,_=>.bad
theorem Sw (Ζ:bN P T) (Α:Holds S B σ H) {ty:TypeId} {a b:θ} {u v:Value} (μ:aj S B σ a u) (hb:aj S B σ b v):cB P (Instr.makeSlice ty u v) S B H σ (BG T ty a b σ):=by
 unfold BG;split
 ·rename_i e k z n bytes kk m h;refine .b2 fun⟨hm,Η⟩ K I=>?_;refine K1 Ζ μ hb h (fun Fj bW aH=>by cases aH;exact hm) Η fun c η=>yC Α η e fun r _ R γ ο=>⟨_,_,_,_,I,γ,R,ο,?_⟩;exact KZ Α.len c η.1 (by simp)
 ·exact .bad
def BH (T:a7) (ty:TypeId) (a b:θ):cr:=match yH T ty a b,b with
 | some (_,k,z,n,bytes),.z (.int _ m)=>.b2 (m=n∧0≤n∧0<bytes∧bytes*n≤2 ^ 48) (.ok (.sl true k (List.replicate n.toNat z)))
 | _,_=>.bad
theorem Sx (Ζ:bN P T) (Α:Holds S B σ H) {ty:TypeId} {a b:θ} {u v:Value} (μ:aj S B σ a u) (hb:aj S B σ b v):cB P (Instr.makeSlice ty u v) S B H σ ((BH T ty a b).dh σ):=by
 unfold BH;split
 ·rename_i e k z n bytes kk m h;refine cB.b2 (r:=(cr.ok (.sl true k (List.replicate n.toNat z))).dh σ) fun⟨hm,Η⟩ K I=>?_;refine K1 Ζ μ hb h (fun Fj bW aH=>by cases aH;exact hm) Η fun c η=>yD Α c e fun r R γ ο=>⟨_,_,_,_,I,γ,R,ο,?_⟩;have:=Bz (cap:=n.toNat) true ο η (by simp) (fun _=>by simp);simpa using this
 ·exact .bad
def Reads (H:ψ) (base:Option Addr) (m:Nat) (w:Nat→Value):Prop:=m=0∨∃b o,base=some ⟨b,o,none⟩∧∀j,j<m→∃p,H.aF b (o+j)=some (w j,p)
theorem FL {base:Option Addr} {k n cap:Nat} {len:Nat} {w:Nat→Value} (h:Reads H base (n*k) w) {K:Array Value→ψ→Prop} {E:Value→ψ→Prop} (υ:K ((List.range (n*k)).map w).toArray H) :
  ς P (Builtin.firstCells k n (.slice base len cap)) H K E:=by
 rcases h with h|⟨b,o,rfl,h⟩
 ·rw[h] at υ;cases base with
  | none=>exact ς.pure' υ
  | some a=>
   show ς P (loadCells a (n*k)) H K E;rw[h];exact ς.pure' υ
 ·exact ς.loadCells w rfl h υ
theorem Sy {b2 old:Nat} (h:old<b2):Builtin.nextslicecap b2 old≤2*b2+768:=by
 unfold Builtin.nextslicecap;have grow:∀r c,c≤2*b2+768→Builtin.growBy b2 r c≤2*b2+768:=by
  intro r
  induction r with
  | zero=>intro c η;exact η
  | succ r Γ=>
   intro c η;unfold Builtin.growBy;split
   ·exact η
   ·exact Γ _ (by omega)
 split
 ·omega
 ·split
  ·omega
  ·exact grow 4 old (by omega)
def hP.isInt (i:hP):Bool:=i.bA matches .int _
def kh (T:a7) (st xt:TypeId):Option (TypeId×Nat×hP):=match hg T st,T xt with
 | some (e,k,none),some b8=>match T e with
  | some bS=>if 0<k∧bS.zero.cells.size=k∧0<bS.bytes∧bS.bytes≤4096∧b8.isInt=false then some (e,k,bS) else none
  | none=>none
 | _,_=>none
theorem FM (Ζ:bN P T) {st xt rt e:TypeId} {k:Nat} {bS:hP} (h:kh T st xt=some (e,k,bS)) {base yI:Option Addr} {sLen o4 n BI:Nat} {wo wn:Nat→Value} (Β:Reads H base (sLen*k) wo) (Η:Reads H yI (n*k) wn) (KX:sLen+n≤4294967296) {K:Value→ψ→Prop} {E:Value→ψ→Prop}
  (bb:sLen+n≤o4→ς P (match base with|some a=>storeCells (a.add (sLen*k)) ((List.range (n*k)).map wn)|none=>pure ()) H (fun _ H'=>K (.slice base (sLen+n) o4) H') E)
  (sA:o4<sLen+n→∀jv,sLen+n≤jv→ς P (newObj (.cells (((List.range (sLen*k)).map wo).toArray++((List.range (n*k)).map wn).toArray++Builtin.zeroCells bS.zero.cells (jv-(sLen+n))) e)) H (fun r H'=>K (.slice (some ⟨r,0,none⟩) (sLen+n) jv) H') E) :
  ς P (Builtin.append_ #[st,xt] rt #[.slice base sLen o4,.slice yI n BI]) H K E:=by
 unfold kh at h;split at h<;>try cases h
 rename_i aH Ω b8 he n7;split at h<;>try cases h
 rename_i FJ dO;split at h<;>try cases h
 rename_i η;obtain⟨R,γ,ο,Ι,ay⟩:=η;obtain⟨i,FJ,hi,hu,sM,cd⟩:=Bu he;rw[dO] at sM;cases sM;unfold Builtin.append_;simp only[List.getElem?_toArray,List.getElem?_cons_zero,List.getElem?_cons_succ];refine ς.bind' (Ζ.bA hi ?_);rw[hu];refine ς.bind' (Ζ.size dO ?_);rw[cd];refine ς.bind' (ς.bind' (Ζ.bA n7 ?_));split
 ·rename_i υ;unfold hP.isInt at ay;rw[υ] at ay;cases ay
 refine ς.bind' (ς.pure' ?_);simp only[Bool.false_eq_true,if_false,Bool.not_false,if_true];refine ς.bind' (ς.pure' ?_);split
 ·rename_i hle;refine ς.bind' (FL Η ?_);have:=bb hle;cases base with
  | none=>exact this
  | some a=>exact ς.bind' this
 ·rename_i K3;have K4:o4<sLen+n:=by omega
  refine ς.bind' (Ζ.info dO fun f Ρ=>?_);have dr:¬(((sLen+n:Nat):Int) > IntKind.i64.max∧(False∨f.bytes=0)):=by rw[Ρ];rintro⟨_,h|h⟩;exact h;omega
  simp only[dr,if_false];refine ς.bind' (Ζ.info dO fun f2 Sz=>?_);have c1:¬(Builtin.nextslicecap (sLen+n) o4*f2.bytes > 2 ^ 48):=by
   rw[Sz];have a1:=Sy K4;have bg:Builtin.nextslicecap (sLen+n) o4*bS.bytes≤(2*(sLen+n)+768)*4096:=Nat.mul_le_mul a1 Ι;omega
  simp only[c1,if_false];refine ς.bind' ?_;show ς P (choose _) H _ E;unfold choose;simp only[ς];have Υ:(Question.appendCap (sLen+n) o4 e).forced=false:=rfl;rw[Υ];simp only[Bool.false_eq_true,if_false];intro q;refine ς.bind' (Ζ.info dO fun f3 FN=>?_);have fin:ς P (do
    let old ←Builtin.firstCells k sLen (.slice base sLen o4)
    let new ←Builtin.firstCells k n (.slice yI n BI)
    let rest ←(do pure (Builtin.zeroCells (←zeroValue e).cells ((Question.appendCap (sLen+n) o4 e).cut q-(sLen+n))):Sem (Array Value))
    pure (.slice (some (←newRow e (old++new++rest))) (sLen+n) ((Question.appendCap (sLen+n) o4 e).cut q))) H K E:=by
   refine ς.bind' (FL Β ?_);refine ς.bind' (FL Η ?_);refine ς.bind' (ς.bind' (Ζ.zero dO (ς.pure' ?_)));refine ς.bind' (ς.bind' ?_);exact sA K4 _ (by simp[Question.cut])
  refine ς.bind' ?_;unfold askRoom;split
  ·refine⟨rfl,?_⟩;show ς P _ H K E;simpa using fin
  ·refine ς.pure' ?_;show ς P _ H K E;simpa using fin
end
section
variable {P:Program} {T:a7} {S:aA} {B:aN} {H:ψ} {σ:List Row}
def o5 (σ:List Row):θ→Option (Nat×List θ)
 | .sl _ k l=>some (k,l)
 | .ms id n i len=>match σ[id]? with
  | some (.cells _ k l)=>if l.length=n∧i+len≤n then some (k,(l.drop i).take len) else none
  | _=>none
 | _=>none
def wc (S:aA) (B:aN) (σ:List Row) (w:Nat→Value) (k:Nat) (l:List θ):Prop:=∀(i:Nat) (e:θ),l[i]?=some e→e.cells.length=k∧∀(j:Nat) (a:θ),e.cells[j]?=some a→aj S B σ a (w (i*k+j))
theorem SA {k i j:Nat} (ε:j<k):(i*k+j) / k=i∧(i*k+j) % k=j:=by
 have υ:0<k:=by omega
 refine⟨?_,?_⟩
 ·rw[Nat.add_comm,Nat.add_mul_div_right _ _ υ,Nat.div_eq_of_lt ε,Nat.zero_add]
 ·rw[Nat.add_comm,Nat.add_mul_mod_self_right];exact Nat.mod_eq_of_lt ε
theorem BJ (Α:Holds S B σ H) {a:θ} {v:Value} {k k1:Nat} {l:List θ} (μ:aj S B σ a v) (h:o5 σ a=some (k1,l)) (υ:0<k) (qi:l.isEmpty=true∨k1=k) :
  ∃base cap w,v=.slice base l.length cap∧l.length≤cap∧Reads H base (l.length*k) w∧wc S B σ w k l:=by
 have flat:∀(b o:Nat) (w2:Nat→Nat→Value),(∀(i:Nat) (e:θ),l[i]?=some e→e.cells.length=k)→(∀(i:Nat) (e:θ),l[i]?=some e→∀(j:Nat) (c:θ),e.cells[j]?=some c→∃p,H.aF b (o+i*k+j)=some (w2 i j,p))→
   (∀(i:Nat) (e:θ),l[i]?=some e→∀(j:Nat) (c:θ),e.cells[j]?=some c→aj S B σ c (w2 i j))→Reads H (some ⟨b,o,none⟩) (l.length*k) (fun m=>w2 (m / k) (m % k))∧wc S B σ (fun m=>w2 (m / k) (m % k)) k l:=by
  intro b o w2 R γ ο;refine⟨.inr ⟨b,o,rfl,fun m hm=>?_⟩,fun i e hi=>⟨R i e hi,fun j c ε=>?_⟩⟩
  ·have hi:m / k<l.length:=(Nat.div_lt_iff_lt_mul υ).2 hm
   have my:l[m / k]?=some l[m / k]:=bc hi
   have ε:m % k<l[m / k].cells.length:=by rw[R _ _ my];exact Nat.mod_lt _ υ
   obtain⟨p,χ⟩:=γ _ _ my (m % k) _ (bc ε);refine⟨p,?_⟩;have:o+m=o+m / k*k+m % k:=by have:=Nat.div_add_mod m k;rw[Nat.mul_comm] at this;omega
   rw[this];exact χ
  ·have n9:j<k:=by rw[←R i e hi];exact(b3.1 ε).1
   obtain⟨Ε,Δ⟩:=SA (i:=i) n9;simp only[Ε,Δ];exact ο i e hi j c ε
 have empty:∀(base:Option Addr) (cap:Nat),l=[]→v=.slice base 0 cap→∃base cap w,v=.slice base l.length cap∧l.length≤cap∧Reads H base (l.length*k) w∧wc S B σ w k l:=fun base cap ω hv=>by
  subst ω;exact⟨base,cap,fun _=>undef,hv,Nat.zero_le _,.inl (by simp),fun i e hi=>by simp at hi⟩
 unfold o5 at h;split at h
 ·cases h;obtain⟨base,cap,rfl,R,_,γ⟩:=qe μ;by_cases ω:l=[]
  ·exact empty base cap ω (by rw[ω];rfl)
  ·obtain⟨b,o,w,rfl,ο,Ι,ay⟩:=γ ω;have iw:k1=k:=qi.elim (fun x=>absurd (List.isEmpty_iff.1 x) ω) id;subst iw;obtain⟨r1,r2⟩:=flat b o w ο (fun i e hi j c ε=>Α.c6 _ _ _ (Ι i e hi j c ε)) ay;exact⟨_,cap,_,rfl,R,r1,r2⟩
 ·rename_i id n i len;split at h
  ·rename_i t Ω dK ω;split at h
   ·rename_i η;cases h;obtain⟨Η,hlen⟩:=η;have ki:((dK.drop i).take len).length=len:=by simp;omega
    cases μ with
    | ms cap R γ ο Ι ay a6=>
     rw[ω] at R;cases R;rcases a6 with a6|⟨b,N,rfl,rfl,a6⟩
     ·subst a6;have:len=0:=by omega
      subst this;exact empty _ 0 (by simp) rfl
     ·by_cases Ν:len=0
      ·subst Ν;exact empty _ cap (by simp) rfl
      ·have bu:¬((dK.drop i).take len).isEmpty=true:=fun x=>by
        rw[List.isEmpty_iff] at x;rw[x] at ki;simp at ki;omega
       have iw:=qi.resolve_left bu;subst iw;obtain⟨bH,cm,fF,w,hw⟩:=Α.row id _ _ ω ο;have el:∀(x:Nat) (e:θ),((dK.drop i).take len)[x]?=some e→dK[i+x]?=some e:=fun x e δ=>by
        rw[List.getElem?_take] at δ;split at δ
        ·rw[List.getElem?_drop] at δ;exact δ
        ·cases δ
       obtain⟨r1,r2⟩:=flat b (i*k1) (fun x j=>w (i+x) j) (fun x e δ=>(hw _ e (el x e δ)).1) (fun x e δ j c ε=>⟨true,by
        have:=((hw _ e (el x e δ)).2 j c ε).1;rw[Nat.add_mul] at this;exact this⟩) (fun x e δ j c ε=>((hw _ e (el x e δ)).2 j c ε).2.1)
       exact⟨_,cap,_,by rw[ki],by rw[ki];exact ay,r1,r2⟩
    | iC v R γ=>rw[ω] at R;cases R;simp only[Row.gN] at γ;omega
   ·cases h
  ·cases h
 ·cases h
theorem FO {w1 w2:Nat→Value} {k:Nat} {l1 l2:List θ} (R:wc S B σ w1 k l1) (γ:wc S B σ w2 k l2) (dw:l1.all (fun e=>e.cells.all (θ.a0 σ))=true) (ix:l2.all (fun e=>e.cells.all (θ.a0 σ))=true) (z:Array Value) :
  fw S B σ (((List.range (l1.length*k)).map w1).toArray++((List.range (l2.length*k)).map w2).toArray++z) k (l1++l2):=by
 have ok:∀(l:List θ),l.all (fun e=>e.cells.all (θ.a0 σ))=true→∀e∈l,∀a∈e.cells,θ.a0 σ a=true:=fun l h e he a μ=>List.all_eq_true.1 (List.all_eq_true.1 h e he) a μ;refine⟨by simp[Nat.add_mul],fun i e hi=>?_⟩;by_cases aE:i<l1.length
 ·rw[dU aE] at hi;refine⟨(R i e hi).1,fun j a ε=>?_⟩;have n9:j<k:=by rw[←(R i e hi).1];exact(b3.1 ε).1
  have hb:i*k+j<l1.length*k:=by
   have:(i+1)*k≤l1.length*k:=Nat.mul_le_mul_right k aE;rw[Nat.add_mul] at this;omega
  have κ:=(R i e hi).2 j a ε;refine⟨w1 (i*k+j),?_,κ,κ.yB (ok l1 dw e (cl hi) a (cl ε))⟩;rw[Array.append_assoc,Array.getElem?_append_left (by simpa using hb)];simp[hb]
 ·rw[hr (by omega)] at hi;refine⟨(γ _ e hi).1,fun j a ε=>?_⟩;have n9:j<k:=by rw[←(γ _ e hi).1];exact(b3.1 ε).1
  have uu:i-l1.length<l2.length:=(b3.1 hi).1
  have hb:(i-l1.length)*k+j<l2.length*k:=by
   have:(i-l1.length+1)*k≤l2.length*k:=Nat.mul_le_mul_right k uu;rw[Nat.add_mul] at this;omega
  have he:i*k+j=l1.length*k+((i-l1.length)*k+j):=by
   have:i=l1.length+(i-l1.length):=by omega
   conv=>lhs;rw[this,Nat.add_mul]
   omega
  have κ:=(γ _ e hi).2 j a ε;refine⟨w2 ((i-l1.length)*k+j),?_,κ,κ.yB (ok l2 ix e (cl hi) a (cl ε))⟩;rw[he,Array.append_assoc,Array.getElem?_append_right (by simp)];rw[Array.getElem?_append_left (by simp;omega)];simp[hb]
def θ.kX (a0:θ→Bool) (l:List θ):Bool:=l.all fun e=>e.cells.all a0
def rn (T:a7) (st xt:TypeId) (a0:θ→Bool) (σ:List Row) (s x:θ):cr:=
 match kh T st xt,s,o5 σ x with
 | some (_,k,_),.sl true ek l0,some (k1,l1)=>
  if(l0.isEmpty=true∨ek=k)∧(l1.isEmpty=true∨k1=k)∧θ.kX a0 l0=true∧θ.kX a0 l1=true then .b2 (l0.length+l1.length≤4294967296) (.ok (.sl false k (l0++l1))) else .bad
 | _,_,_=>.bad
theorem SB {k ek:Nat} {l0:List θ} {v:Value} (h:aj S B σ (.sl true ek l0) v) (υ:l0.isEmpty=true∨ek=k):aj S B σ (.sl false k l0) v:=by
 by_cases ω:l0=[]
 ·subst ω;obtain⟨base,cap,rfl,_⟩:=qe h;exact .h7 base cap (by simp)
 ·have:=υ.resolve_left (fun x=>ω (List.isEmpty_iff.1 x));subst this;cases h with
  | h7=>exact absurd rfl ω
  | sl b o cap w R γ ο Ι ay=>exact .sl b o cap w (by simp) γ ο Ι ay
theorem FP {a0:θ→Bool} (na:∀a:θ,a0 a=true→a.a0 σ=true) {l:List θ} (h:θ.kX a0 l=true):l.all (fun e=>e.cells.all (θ.a0 σ))=true:=by
 unfold θ.kX at h;rw[List.all_eq_true] at h ⊢;intro e he;have:=h e he;rw[List.all_eq_true] at this ⊢;exact fun a μ=>na a (this a μ)
theorem K5 (Ζ:bN P T) (Α:Holds S B σ H) {a0:θ→Bool} (na:∀a:θ,a0 a=true→a.a0 σ=true) (st xt rt:TypeId) {s x:θ} {u v:Value} (ξ:aj S B σ s u) (δ:aj S B σ x v) :
  cB P (Builtin.append_ #[st,xt] rt #[u,v]) S B H σ ((rn T st xt a0 σ s x).dh σ):=by
 unfold rn;split
 ·rename_i e k bS ek l0 k1 l1 n' sN;split
  ·rename_i η;obtain⟨c1,c2,c3,c4⟩:=η;refine cB.b2 (r:=(cr.ok (.sl false k (l0++l1))).dh σ) fun p' K I=>?_;have υ:0<k:=by
    unfold kh at n';split at n'<;>try cases n'
    split at n'<;>try cases n'
    split at n'<;>try cases n'
    rename_i h;exact h.1
   obtain⟨base,cap,w,rfl,_,r1,r2⟩:=BJ Α ξ (k:=k) rfl υ c1;obtain⟨yI,BI,w1,rfl,_,r3,iv⟩:=BJ Α δ sN υ c2;have v9:cap=l0.length:=by
    obtain⟨Φ,FA,Ε,_,Δ,_⟩:=qe ξ;cases Ε;exact Δ rfl
   have fin:∀au H' v,Holds au B σ H'→Ext S B H au B H'→b0 S au B B σ σ→aj au B σ (.sl false k (l0++l1)) v→h9 S B H σ K v H':=fun au H' v a b c d=>⟨au,B,σ,_,I,b,a,c,d⟩;refine FM Ζ n' r1 r3 p' (fun bb=>?_) (fun _ jv rp=>?_)
   ·have FQ:l1=[]:=by
     cases l1 with
     | nil=>rfl
     | cons=>simp at bb;omega
    subst FQ;have BK:aj S B σ (.sl false k (l0++[])) (.slice base (l0.length+([]:List θ).length) cap):=by
     rw[List.append_nil];exact SB ξ c1
    cases base with
    | none=>exact ς.pure' (fin S H _ Α (.refl _ _ _) (.refl _ _ _) BK)
    | some a=>
     have Ν:((List.range (([]:List θ).length*k)).map w1)=[]:=by simp
     rw[Ν];exact ς.pure' (fin S H _ Α (.refl _ _ _) (.refl _ _ _) BK)
   ·refine yD Α _ e fun r R γ ο=>fin _ _ _ R γ ο ?_;have:=Bz (cap:=jv) false ο (FO r2 iv (FP na c3) (FP na c4) (Builtin.zeroCells bS.zero.cells (jv-(l0.length+l1.length)))) (by simpa using rp) (by simp);rw[List.length_append] at this;exact this
  ·exact .bad
 ·exact .bad
end
end Go.TL
