import Derived.IntWalk
import Derived.Laws.Sem
import Derived.Test.YtlabjopijpkiaaaGreatCAG
set_option maxHeartbeats 16000000
set_option maxRecDepth 20000
set_option linter.unusedSectionVars false
set_option linter.unusedSimpArgs false
set_option linter.unusedVariables false
namespace Go.TL
open Go.Conc
section
variable {P:Program} {T:bb} {S:aL} {B:aW} {H:Α} {σ:List Row}
def Di (σ:List Row) (a:η):cV:=if a.cells.all (η.bc σ)=true then .ok (.ao a.cells) σ else .bad
def x6 (a:η):cw:=if a.cells.all (η.bc [])=true then .ok (.ao a.cells) else .bad
def x7 (t:TypeId) (σ:List Row) (a:η):cV:=if a.cells.all (η.bc σ)=true then .ok (.ah σ.length 1 0 0) (σ++[.cells t a.cells.length [a]]) else .bad
theorem Hg (Β:Holds S B σ H) (ty:TypeId) {a:η} {v:Value} (κ:av S B σ a v) (dQ:a.cells.all (η.bc σ)=true):cS P (do pure (.pointer (some (<-newVar ty v)))) S B H σ (.ok (.ao a.cells) σ):=by
 intro K θ;refine ς.bind' ?_;unfold newVar newRow;refine ς.bind' (Ab Β v.cells ty λr J U μ=>ς.pure' (ς.pure' ⟨_,_,_,_,θ,U,J,μ,?_⟩));exact Mv μ (gb.one κ dQ)
theorem Uo (Β:Holds S B σ H) (ty:TypeId) {a:η} {v:Value} (κ:av S B σ a v):cS P (Instr.box ty v) S B H σ (Di σ a):=by
 unfold Di;split
 ·rename_i dQ;exact Hg Β ty κ dQ
 ·exact .bad
theorem Up (Β:Holds S B σ H) (ty:TypeId) {a:η} {v:Value} (κ:av S B σ a v):cS P (Instr.box ty v) S B H σ ((x6 a).dw σ):=by
 unfold x6;split
 ·rename_i dQ;exact Hg Β ty κ (x4 dQ)
 ·exact .bad
theorem Mw (Β:Holds S B σ H) (ty:TypeId) {a:η} {v:Value} (κ:av S B σ a v):cS P (do pure (.pointer (some (<-newVar ty v)))) S B H σ (x7 ty σ a):=by
 unfold x7;split
 ·rename_i dQ;intro K θ;refine ς.bind' ?_;unfold newVar newRow;refine ς.bind' (Aa Β (gb.one κ dQ) ty λr _ J U μ=>ς.pure' (ς.pure' ⟨_,_,_,_,θ,U,J,μ,?_⟩));have:=av.ah (S:=S) (B:=B++[some (r,v.cells.size)]) (σ:=σ++[.cells ty a.cells.length [a]]) (id:=σ.length) (n:=1) (i:=0) (j:=0) (k:=a.cells.length) (t:=ty) (l:=[a]) (b:=r) (N:=v.cells.size) ζ rfl (by rw[<-Β.len];simp);simpa using this
 ·exact .bad
theorem Uq (Β:Holds S B σ H) (ty:TypeId) {a:η} {v:Value} (κ:av S B σ a v):cS P (Instr.box ty v) S B H σ (x7 ty σ a):=Mw Β ty κ
def Dj (T:bb) (ty:TypeId) (σ:List Row):cV:=match T ty with|some i=>x7 ty σ (hO i.zero)|none=>.bad
def Dk (T:bb) (ty:TypeId):cw:=match T ty with|some i=>x6 (hO i.zero)|none=>.bad
theorem Ur (Ι:bN P T) (Β:Holds S B σ H) (ty:TypeId):cS P (Instr.alloc ty true (.tuple #[])) S B H σ (Dj T ty σ):=by
 unfold Dj;cases hi:T ty with
 | none=>exact .bad
 | some i=>
  intro K θ;unfold Instr.alloc;exact ς.bind' (Ι.zero hi (Mw Β ty (qf i.zero) K θ))
theorem Us (Ι:bN P T) (Β:Holds S B σ H) (ty:TypeId):cS P (Instr.alloc ty true (.tuple #[])) S B H σ ((Dk T ty).dw σ):=by
 unfold Dk;cases hi:T ty with
 | none=>exact .bad
 | some i=>
  simp only[x6];split
  ·rename_i dQ;intro K θ;unfold Instr.alloc;exact ς.bind' (Ι.zero hi (Hg Β ty (qf i.zero) (x4 dQ) K θ))
  ·exact .bad
def rC (pl:Nat->Option (Nat×Nat×Nat)) (k:Nat) (bc:η->Bool) (l:List η):List (Nat×η)->Option (List η)
 | []=>some l
 |(x,a)::r=>match pl x with
  | some (i,j,n)=>match l[i]? with
   | some e=>if a.cells.length=n/\j+n<=k/\a.cells.all bc=true then rC pl k bc (l.set i (e.sW j a.cells)) r else none
   | none=>none
  | none=>none
theorem Hh {k:Nat} {bc:η->Bool} (oz:∀a:η,bc a=true->a.bc σ=true) {pl:Nat->Option (Nat×Nat×Nat)} {place:Nat->Option (Nat×Nat)} (iE:∀x i j n,pl x=some (i,j,n)->place x=some (i*k+j,n)) {env:Χ} {t:Array Value} (cE:dv S B σ env t) :
  ∀(cZ:List (Nat×Operand)) (c:Array Value) (l ep:List η),gb S B σ c k l->rC pl k bc l (cZ.map λp=>(p.1,aR env p.2))=some ep->
  ∃c',Instr.fill place c (cZ.map λp=>(p.1,bl t p.2))=some c'/\c'.size=c.size/\gb S B σ c' k ep/\ep.length=l.length:=by
 intro cZ
 induction cZ with
 | nil=>intro c l ep ε h;cases h;exact⟨c,rfl,rfl,ε,rfl⟩
 | cons p cZ ω=>
  obtain⟨x,o⟩:=p;intro c l ep ε h;simp only[List.map_cons,rC] at h;split at h<;>try cases h
  rename_i i j n π;split at h<;>try cases h
  rename_i e he;split at h<;>try cases h
  rename_i CH;obtain⟨J,U,μ⟩:=CH;have κ:=l' cE o;have dQ:(aR env o).cells.all (η.bc σ)=true:=by
   rw[List.all_eq_true] at μ ⊢;exact λa κ=>oz a (μ a κ)
  obtain⟨cv,_⟩:=κ.cells dQ;obtain⟨k1,cp⟩:=ε.put he κ dQ (by omega:j+(aR env o).cells.length<=k);obtain⟨c',Γ,Δ,a4,cM⟩:=ω _ _ _ cp h;refine⟨c',?_,by rw[Δ,k1],a4,by rw[cM];simp⟩;have jw:i<l.length:=(bX.1 he).1;have hle:i*k+j+(bl t o).cells.size<=c.size:=by
   have a1:(i+1)*k<=l.length*k:=Nat.mul_le_mul_right k jw
   have a9:=ε.1;rw[Nat.add_mul] at a1;omega
  simp only[List.map_cons,Instr.fill,iE x i j n π];have c1:((bl t o).cells.size≠n)=False:=by simp;omega
  have c2:(i*k+j+(bl t o).cells.size > c.size)=False:=by simp;omega
  simp only[bne_iff_ne,ne_eq,Bool.or_eq_true,decide_eq_true_eq,c1,c2];simp only[ne_eq] at c1;simp only[c1,or_self,if_false];exact Γ
def Mx (T:bb) (df:Array Field):Option (List (Nat×Nat)):=df.toList.mapM λf=>(T f.type).map λi=>(f.offset,i.size)
theorem Ut (Ι:bN P T) {K:Array (Nat×Nat)->Α->Prop} {E:Value->Α->Prop} {df:Array Field} {l:List (Nat×Nat)} (h:Mx T df=some l) (χ:K l.toArray H) :
  ς P (df.mapM λf=>(do pure (f.offset,<-sizeOf f.type):Sem (Nat×Nat))) H K E:=by
 have key:∀(gs:List Field) (l:List (Nat×Nat)) (K:List (Nat×Nat)->Α->Prop),(gs.mapM λf=>(T f.type).map λi=>(f.offset,i.size))=some l->K l H->ς P (gs.mapM λf=>(do pure (f.offset,<-sizeOf f.type):Sem (Nat×Nat))) H K E:=by
  intro gs
  induction gs with
  | nil=>intro l K h χ;simp at h;subst h;exact ς.pure' χ
  | cons f gs ω=>
   intro l K h χ;rw[List.mapM_cons] at h ⊢;cases Τ:T f.type with
   | none=>rw[Τ] at h;cases h
   | some i=>
    rw[Τ] at h;simp only[Option.map_some,Option.bind_eq_bind,Option.bind_some] at h;cases Ο:(gs.mapM λf=>(T f.type).map λi=>(f.offset,i.size)) with
    | none=>rw[Ο] at h;cases h
    | some l2=>
     rw[Ο] at h;cases h;refine ς.bind' (ς.bind' (Ι.size Τ (ς.pure' ?_)));refine ς.bind' (ω l2 _ Ο ?_);exact ς.pure' χ
 rw[Array.mapM_eq_mapM_toList];exact ς.bind (df.toList.mapM _) (key df.toList l _ h (ς.pure' χ))
def nM (T:bb) (bc:η->Bool) (ty:TypeId) (parts:List (Nat×η)):cw:=match T ty with
 | some i=>
  let z:=hO i.zero
  if z.cells.length=i.zero.cells.size/\z.cells.all (η.bc [])=true then match i.bG with
   | .struct df=>match Mx T df with
    | some pl=>match rC (λx=>(pl[x]?).map λp=>(0,p.1,p.2)) z.cells.length bc [z] parts with
     | some [e]=>.ok (.a0 e.cells)
     | _=>.bad
    | none=>.bad
   | .array _ el=>match T el with
    | some bV=>match rC (λx=>some (0,x*bV.size,bV.size)) z.cells.length bc [z] parts with
     | some [e]=>.ok (.a0 e.cells)
     | _=>.bad
    | none=>.bad
   | _=>.bad
  else .bad
 | none=>.bad
theorem My {c:Array Value} {k:Nat} {e:η} (h:gb S B σ c k [e]) (χ:c.size=k):av S B σ (.a0 e.cells) (.agg c):=by
 obtain⟨J,U⟩:=h.2 0 e rfl;refine .a0 c (by rw[J,χ]) λj a v δ hv=>?_;obtain⟨x,Γ,Δ,_⟩:=U j a δ;rw[Nat.zero_mul,Nat.zero_add,hv] at Γ;cases Γ;exact Δ
theorem Mz (Ι:bN P T) (Β:Holds S B σ H) {bc:η->Bool} (oz:∀a:η,bc a=true->a.bc σ=true) (ty:TypeId) {env:Χ} {t:Array Value} (cE:dv S B σ env t) (parts:Array (Nat×Operand)) :
  cS P (Instr.build ty (parts.map λ(i,x)=>(i,bl t x))) S B H σ ((nM T bc ty (parts.toList.map λp=>(p.1,aR env p.2))).dw σ):=by
 unfold nM;cases hi:T ty with
 | none=>exact .bad
 | some i=>
  simp only;split
  ·rename_i Φ;obtain⟨uH,Ac⟩:=Φ;have Dl:gb S B σ i.zero.cells (hO i.zero).cells.length [hO i.zero]:=gb.one (qf i.zero) (x4 Ac);have Dm:(parts.map λ(i,x)=>(i,bl t x)).toList=parts.toList.map λp=>(p.1,bl t p.2):=ζ;split
   ·rename_i df hu;split
    ·rename_i pl iE;split
     ·rename_i e he;intro K θ;unfold Instr.build;refine ς.bind' (Ι.zero hi (ς.bind' (Ι.bG hi ?_)));rw[hu];refine ς.bind' (Ut Ι iE ?_);obtain⟨c',Γ,Δ,a4,_⟩:=Hh (place:=(pl.toArray[·]?)) oz (λx i j n h=>by
       cases γ:pl[x]? with
       | none=>rw[γ] at h;cases h
       | some p=>rw[γ] at h;cases h;simp[γ]) cE parts.toList _ _ _ Dl he
      rw[Dm,Γ];exact ς.pure' (.same Β θ (My a4 (by rw[Δ,uH])))
     ·exact .bad
    ·exact .bad
   ·rename_i m el hu;split
    ·rename_i bV eI;split
     ·rename_i e he;intro K θ;unfold Instr.build;refine ς.bind' (Ι.zero hi (ς.bind' (Ι.bG hi ?_)));rw[hu];refine ς.bind' (Ι.size eI ?_);obtain⟨c',Γ,Δ,a4,_⟩:=Hh (place:=λi=>some (i*bV.size,bV.size)) oz (λx i j n h=>by
       simp at h;obtain⟨rfl,rfl,rfl⟩:=h;simp) cE parts.toList _ _ _ Dl he
      rw[Dm,Γ];exact ς.pure' (.same Β θ (My a4 (by rw[Δ,uH])))
     ·exact .bad
    ·exact .bad
   ·exact .bad
  ·exact .bad
def Ad (T:bb) (bc:η->Bool) (ty:TypeId) (len:Nat) (parts:List (Nat×η)):Option (TypeId×Nat×List η):=match iD T ty with
 | some (e,k,none)=>match T e with
  | some bV=>if 0<k/\len*k<=2 ^ 24/\(hO bV.zero).cells.length=k/\(hO bV.zero).cells.all (η.bc [])=true then
    (rC (λx=>some (x,0,k)) k bc (List.replicate len (hO bV.zero)) parts).map λl=>(e,k,l) else none
  | none=>none
 | _=>none
theorem MA (Ι:bN P T) {bc:η->Bool} (oz:∀a:η,bc a=true->a.bc σ=true) {ty e:TypeId} {len k:Nat} {l:List η} {env:Χ} {t:Array Value} (cE:dv S B σ env t) {parts:Array (Nat×Operand)}
  (h:Ad T bc ty len (parts.toList.map λp=>(p.1,aR env p.2))=some (e,k,l)) {K:Value->Α->Prop} {E:Value->Α->Prop}
  (χ:∀c:Array Value,gb S B σ c k l->l.length=len->ς P (newObj (.cells c e)) H (λr H'=>K (.slice (some ⟨r,0,none⟩) len len) H') E) :
  ς P (Instr.buildSlice ty len (parts.map λ(i,x)=>(i,bl t x))) H K E:=by
 unfold Ad at h;split at h<;>try cases h
 rename_i aM af he;split at h<;>try cases h
 rename_i bV eI;split at h<;>try cases h
 rename_i ε;obtain⟨J,U,μ,Ε⟩:=ε;obtain⟨i,Hi,hi,hu,uI,cv⟩:=Dc he;rw[eI] at uI;cases uI;cases Τ:rC (λx=>some (x,0,af)) af bc (List.replicate len (hO bV.zero)) (parts.toList.map λp=>(p.1,aR env p.2)) with
 | none=>rw[Τ] at h;cases h
 | some ep=>
  rw[Τ] at h;cases h;unfold Instr.buildSlice;refine ς.bind' (Ι.bG hi ?_);rw[hu];refine ς.bind' (Ι.size eI ?_);rw[cv];have MB:¬(len*k > 2 ^ 24):=R;simp only[MB,if_false];have Dm:(parts.map λ(i,x)=>(i,bl t x)).toList=parts.toList.map λp=>(p.1,bl t p.2):=ζ;have fin:∀gp:Array Value,(len=0\/gp=bV.zero.cells)->∃c',Instr.fill (λi=>some (i*k,k)) ((Array.range (len*k)).map (gp[· % gp.size]!)) (parts.map λ(i,x)=>(i,bl t x)).toList=some c'/\gb S B σ c' k l/\l.length=len:=λgp rD=>by
   have Dl:gb S B σ ((Array.range (len*k)).map (gp[· % gp.size]!)) k (List.replicate len (hO bV.zero)):=by
    rcases rD with rfl|rD
    ·exact⟨ζ,λi e hi=>by simp at hi⟩
    ·exact gb.Mu (qf bV.zero) (x4 Ε) μ (Nat.le_refl _) gp rD
   obtain⟨c',Γ,Δ,a4,cM⟩:=Hh (place:=λi=>some (i*k,k)) oz (λx i j n h=>by
    simp at h;obtain⟨rfl,rfl,rfl⟩:=h;simp) cE parts.toList _ _ _ Dl Τ
   rw[Dm];exact⟨c',Γ,a4,by rw[cM];simp⟩
  by_cases ξ:len=0
  ·obtain⟨c',Γ,Δ,a4⟩:=fin #[] (.inl ξ);have Φ:len*k=0:=by rw[ξ];simp
   rw[if_pos Φ];refine ς.bind' (ς.pure' ?_);rw[Γ];exact ς.bind' (χ c' Δ a4)
  ·have bA:len*k≠0:=by
    intro an;rcases Nat.mul_eq_zero.1 an with an|an<;>omega
   obtain⟨c',Γ,Δ,a4⟩:=fin _ (.inr rfl);rw[if_neg bA];refine ς.bind' (Ι.zero eI ?_);refine ς.bind' (ς.pure' ?_);rw[Γ];exact ς.bind' (χ c' Δ a4)
def Ae (T:bb) (bc:η->Bool) (ty:TypeId) (len:Nat) (parts:List (Nat×η)):cw:=match Ad T bc ty len parts with
 | some (_,k,l)=>.ok (.sl true k l)
 | none=>.bad
def Dn (T:bb) (ty:TypeId) (len:Nat) (parts:List (Nat×η)) (σ:List Row):cV:=match Ad T (η.bc σ) ty len parts with
 | some (e,k,l)=>.ok (.ms σ.length len 0 len) (σ++[.cells e k l])
 | none=>.bad
theorem MC (Ι:bN P T) (Β:Holds S B σ H) {bc:η->Bool} (oz:∀a:η,bc a=true->a.bc σ=true) (ty:TypeId) (len:Nat) {env:Χ} {t:Array Value} (cE:dv S B σ env t) (parts:Array (Nat×Operand)) :
  cS P (Instr.buildSlice ty len (parts.map λ(i,x)=>(i,bl t x))) S B H σ ((Ae T bc ty len (parts.toList.map λp=>(p.1,aR env p.2))).dw σ):=by
 unfold Ae;split
 ·rename_i e k l h;intro K θ;refine MA Ι oz cE h λc ε hlen=>Ab Β c e λr J U μ=>⟨_,_,_,_,θ,U,J,μ,?_⟩;have:=Dh (cap:=len) true μ ε R (λ_=>hlen.symm);rw[hlen] at this;exact this
 ·exact .bad
theorem MD {r n k:Nat} {t:TypeId} {l:List η} (hlen:B.length=σ.length) (c:Array Value) (ε:l.length*k<=c.size) (Ζ:l.length=n):av S (B++[some (r,c.size)]) (σ++[.cells t k l]) (.ms σ.length n 0 n) (.slice (some ⟨r,0,none⟩) n n):=by
 have:=av.ms (S:=S) (B:=B++[some (r,c.size)]) (σ:=σ++[.cells t k l]) (id:=σ.length) (n:=n) (i:=0) (len:=n) (t:=t) (k:=k) (l:=l) (bo:=some (r,c.size)) (base:=some ⟨r,0,none⟩) n ζ Ζ (by rw[<-hlen];simp) R (Nat.le_refl _) (.inr ⟨r,c.size,rfl,ζ,by subst Ζ;simpa using ε⟩);exact this
theorem Uu (Ι:bN P T) (Β:Holds S B σ H) (ty:TypeId) (len:Nat) {env:Χ} {t:Array Value} (cE:dv S B σ env t) (parts:Array (Nat×Operand)) :
  cS P (Instr.buildSlice ty len (parts.map λ(i,x)=>(i,bl t x))) S B H σ (Dn T ty len (parts.toList.map λp=>(p.1,aR env p.2)) σ):=by
 unfold Dn;split
 ·rename_i e k l h;intro K θ;exact MA Ι (λa h=>h) cE h λc ε hlen=>Aa Β ε e λr _ J U μ=>⟨_,_,_,_,θ,U,J,μ,MD Β.len c ε.1 hlen⟩
 ·exact .bad
def Af (T:bb) (ty:TypeId) (a b:η):Option (TypeId×Nat×η×Int×Int):=match iD T ty,a,b with
 | some (e,k,none),.z (.int _ n),.z (.int _ m)=>match T e with
  | some bV=>if 0<k/\(hO bV.zero).cells.length=k/\(hO bV.zero).cells.all (η.bc [])=true then some (e,k,hO bV.zero,n,bV.bytes) else none
  | none=>none
 | _,_,_=>none
end
section
variable {P:Program} {T:bb} {S:aL} {B:aW} {H:Α} {σ:List Row}
theorem ME (Ι:bN P T) {ty e:TypeId} {k:Nat} {z:η} {n bytes:Int} {a b:η} {u v:Value} (κ:av S B σ a u) (hb:av S B σ b v) (h:Af T ty a b=some (e,k,z,n,bytes)) (eO:∀kk m,b=.z (.int kk m)->m=n) (Ζ:0<=n/\0<bytes/\bytes*n<=2 ^ 48) {K:Value->Α->Prop} {E:Value->Α->Prop}
  (χ:∀c:Array Value,gb S B σ c k (List.replicate n.toNat z)->ς P (newObj (.cells c e)) H (λr H'=>K (.slice (some ⟨r,0,none⟩) n.toNat n.toNat) H') E) :
  ς P (Instr.makeSlice ty u v) H K E:=by
 unfold Af at h;split at h<;>try cases h
 rename_i aM af k1 jE cp m he;split at h<;>try cases h
 rename_i bV eI;split at h<;>try cases h
 rename_i ε;obtain⟨J,U,μ⟩:=ε;cases κ;cases hb;have hm:=eO _ _ rfl;subst hm;obtain⟨i,Hi,hi,hu,uI,cv⟩:=Dc he;rw[eI] at uI;cases uI;obtain⟨rE,j8,Hj⟩:=Ζ;have hle:m<=2 ^ 48:=by
  have:1*m<=(bV.bytes:Int)*m:=Int.mul_le_mul_of_nonneg_right R rE;omega
 have hw:IntKind.i64.wrap m=m:=IntWalk.i64_in m ⟨R,R⟩;unfold Instr.makeSlice;refine ς.bind' (Ι.bG hi ?_);rw[hu];refine ς.bind' (ς.bind' (ς.pure' (ς.pure' ?_)));refine ς.bind' (ς.bind' (ς.pure' (ς.pure' ?_)));refine ς.bind' (Ι.info eI λf Τ=>?_);simp only[hw,Τ];have c1:¬m<0:=R;have c2:¬((bV.bytes:Int)*m > 2 ^ 48):=R;have c3:¬m > m:=R;simp only[c1,c2,c3,decide_false,Bool.or_false,Bool.false_eq_true,if_false];refine ς.bind' ?_;have fin:ς P (do
   let MF <-(do pure (m.toNat*(<-sizeOf e)):Sem Nat)
   let zero <-if MF=0 then pure #[] else do pure (<-zeroValue e).cells
   let a <-newRow e ((Array.range MF).map (zero[· % zero.size]!))
   pure (.slice (some a) m.toNat m.toNat)) H K E:=by
  refine ς.bind' (ς.bind' (Ι.size eI (ς.pure' ?_)));rw[cv];by_cases Φ:m.toNat*k=0
  ·rw[if_pos Φ];refine ς.bind' (ς.pure' ?_);refine ς.bind' (ς.bind' ?_);refine χ _ ?_;rcases Nat.mul_eq_zero.1 Φ with an|an
   ·rw[an];exact⟨ζ,λi e hi=>by simp at hi⟩
   ·omega
  ·rw[if_neg Φ];refine ς.bind' (Ι.zero eI ?_);refine ς.bind' (ς.pure' ?_);refine ς.bind' (ς.bind' ?_);exact χ _ (gb.Mu (qf bV.zero) (x4 μ) U (Nat.le_refl _) _ rfl)
 unfold askRoom;split
 ·refine⟨rfl,?_⟩;show ς P _ H K E;have:=fin;simpa using this
 ·refine ς.pure' ?_;show ς P _ H K E;have:=fin;simpa using this
def Dp (T:bb) (ty:TypeId) (a b:η) (σ:List Row):cV:=match Af T ty a b,b with
 | some (e,k,z,n,bytes),.z (.int _ m)=>.b6 (m=n/\0<=n/\0<bytes/\bytes*n<=2 ^ 48) (.ok (.ms σ.length n.toNat 0 n.toNat) (σ++[.cells e k (List.replicate n.toNat z)]))
 | _,_=>.bad
theorem Uv (Ι:bN P T) (Β:Holds S B σ H) {ty:TypeId} {a b:η} {u v:Value} (κ:av S B σ a u) (hb:av S B σ b v):cS P (Instr.makeSlice ty u v) S B H σ (Dp T ty a b σ):=by
 unfold Dp;split
 ·rename_i e k z n bytes kk m h;refine .b6 λ⟨hm,Ζ⟩ K θ=>?_;refine ME Ι κ hb h (λGV cb aM=>by cases aM;exact hm) Ζ λc ε=>Aa Β ε e λr _ J U μ=>⟨_,_,_,_,θ,U,J,μ,?_⟩;exact MD Β.len c ε.1 ζ
 ·exact .bad
def Dq (T:bb) (ty:TypeId) (a b:η):cw:=match Af T ty a b,b with
 | some (_,k,z,n,bytes),.z (.int _ m)=>.b6 (m=n/\0<=n/\0<bytes/\bytes*n<=2 ^ 48) (.ok (.sl true k (List.replicate n.toNat z)))
 | _,_=>.bad
theorem Uw (Ι:bN P T) (Β:Holds S B σ H) {ty:TypeId} {a b:η} {u v:Value} (κ:av S B σ a u) (hb:av S B σ b v):cS P (Instr.makeSlice ty u v) S B H σ ((Dq T ty a b).dw σ):=by
 unfold Dq;split
 ·rename_i e k z n bytes kk m h;refine cS.b6 (r:=(cw.ok (.sl true k (List.replicate n.toNat z))).dw σ) λ⟨hm,Ζ⟩ K θ=>?_;refine ME Ι κ hb h (λGV cb aM=>by cases aM;exact hm) Ζ λc ε=>Ab Β c e λr J U μ=>⟨_,_,_,_,θ,U,J,μ,?_⟩;have:=Dh (cap:=n.toNat) true μ ε ζ (λ_=>ζ);simpa using this
 ·exact .bad
def Reads (H:Α) (base:Option Addr) (m:Nat) (w:Nat->Value):Prop:=m=0\/∃b o,base=some ⟨b,o,none⟩/\∀j,j<m->∃p,H.aP b (o+j)=some (w j,p)
theorem Hk {base:Option Addr} {k n cap:Nat} {len:Nat} {w:Nat->Value} (h:Reads H base (n*k) w) {K:Array Value->Α->Prop} {E:Value->Α->Prop} (χ:K ((List.range (n*k)).map w).toArray H) :
  ς P (Builtin.firstCells k n (.slice base len cap)) H K E:=by
 rcases h with h|⟨b,o,rfl,h⟩
 ·rw[h] at χ;cases base with
  | none=>exact ς.pure' χ
  | some a=>
   show ς P (loadCells a (n*k)) H K E;rw[h];exact ς.pure' χ
 ·exact ς.loadCells w rfl h χ
theorem Ux {b6 old:Nat} (h:old<b6):Builtin.nextslicecap b6 old<=2*b6+768:=by
 unfold Builtin.nextslicecap;have grow:∀r c,c<=2*b6+768->Builtin.growBy b6 r c<=2*b6+768:=by
  intro r
  induction r with
  | zero=>intro c ε;exact ε
  | succ r ω=>
   intro c ε;unfold Builtin.growBy;split
   ·exact ε
   ·exact ω _ R
 split
 ·omega
 ·split
  ·omega
  ·exact grow 4 old R
def iC.isInt (i:iC):Bool:=i.bG matches .int _
def ma (T:bb) (st xt:TypeId):Option (TypeId×Nat×iC):=match iD T st,T xt with
 | some (e,k,none),some bB=>match T e with
  | some bV=>if 0<k/\bV.zero.cells.size=k/\0<bV.bytes/\bV.bytes<=4096/\bB.isInt=false then some (e,k,bV) else none
  | none=>none
 | _,_=>none
theorem Hl (Ι:bN P T) {st xt rt e:TypeId} {k:Nat} {bV:iC} (h:ma T st xt=some (e,k,bV)) {base Ag:Option Addr} {sLen qh n Dr:Nat} {wo wn:Nat->Value} (ψ:Reads H base (sLen*k) wo) (Ζ:Reads H Ag (n*k) wn) (MB:sLen+n<=4294967296) {K:Value->Α->Prop} {E:Value->Α->Prop}
  (bf:sLen+n<=qh->ς P (match base with|some a=>storeCells (a.add (sLen*k)) ((List.range (n*k)).map wn)|none=>pure ()) H (λ_ H'=>K (.slice base (sLen+n) qh) H') E)
  (uw:qh<sLen+n->∀kD,sLen+n<=kD->ς P (newObj (.cells (((List.range (sLen*k)).map wo).toArray++((List.range (n*k)).map wn).toArray++Builtin.zeroCells bV.zero.cells (kD-(sLen+n))) e)) H (λr H'=>K (.slice (some ⟨r,0,none⟩) (sLen+n) kD) H') E) :
  ς P (Builtin.append_ #[st,xt] rt #[.slice base sLen qh,.slice Ag n Dr]) H K E:=by
 unfold ma at h;split at h<;>try cases h
 rename_i aM af bB he m0;split at h<;>try cases h
 rename_i Hi eI;split at h<;>try cases h
 rename_i ε;obtain⟨J,U,μ,Ε,au⟩:=ε;obtain⟨i,Hi,hi,hu,uI,cv⟩:=Dc he;rw[eI] at uI;cases uI;unfold Builtin.append_;simp only[List.getElem?_toArray,List.getElem?_cons_zero,List.getElem?_cons_succ];refine ς.bind' (Ι.bG hi ?_);rw[hu];refine ς.bind' (Ι.size eI ?_);rw[cv];refine ς.bind' (ς.bind' (Ι.bG m0 ?_));split
 ·rename_i χ;unfold iC.isInt at au;rw[χ] at au;cases au
 refine ς.bind' (ς.pure' ?_);simp only[Bool.false_eq_true,if_false,Bool.not_false,if_true];refine ς.bind' (ς.pure' ?_);split
 ·rename_i hle;refine ς.bind' (Hk Ζ ?_);have:=bf hle;cases base with
  | none=>exact this
  | some a=>exact ς.bind' this
 ·rename_i MG;have MH:qh<sLen+n:=R;refine ς.bind' (Ι.info eI λf Τ=>?_);have dY:¬(((sLen+n:Nat):Int) > IntKind.i64.max/\(False\/f.bytes=0)):=by rw[Τ];rintro⟨_,h|h⟩;exact h;omega
  simp only[dY,if_false];refine ς.bind' (Ι.info eI λf2 Uy=>?_);have c1:¬(Builtin.nextslicecap (sLen+n) qh*f2.bytes > 2 ^ 48):=by
   rw[Uy];have a1:=Ux MH;have a9:Builtin.nextslicecap (sLen+n) qh*bV.bytes<=(2*(sLen+n)+768)*4096:=Nat.mul_le_mul a1 Ε;omega
  simp only[c1,if_false];refine ς.bind' ?_;show ς P (choose _) H _ E;unfold choose;simp only[ς];have Ξ:(Question.appendCap (sLen+n) qh e).forced=false:=rfl;rw[Ξ];simp only[Bool.false_eq_true,if_false];intro q;refine ς.bind' (Ι.info eI λf3 Hm=>?_);have fin:ς P (do
    let old <-Builtin.firstCells k sLen (.slice base sLen qh)
    let new <-Builtin.firstCells k n (.slice Ag n Dr)
    let rest <-(do pure (Builtin.zeroCells (<-zeroValue e).cells ((Question.appendCap (sLen+n) qh e).cut q-(sLen+n))):Sem (Array Value))
    pure (.slice (some (<-newRow e (old++new++rest))) (sLen+n) ((Question.appendCap (sLen+n) qh e).cut q))) H K E:=by
   refine ς.bind' (Hk ψ ?_);refine ς.bind' (Hk Ζ ?_);refine ς.bind' (ς.bind' (Ι.zero eI (ς.pure' ?_)));refine ς.bind' (ς.bind' ?_);exact uw MH _ (by simp[Question.cut])
  refine ς.bind' ?_;unfold askRoom;split
  ·refine⟨rfl,?_⟩;show ς P _ H K E;simpa using fin
  ·refine ς.pure' ?_;show ς P _ H K E;simpa using fin
end
section
variable {P:Program} {T:bb} {S:aL} {B:aW} {H:Α} {σ:List Row}
def qi (σ:List Row):η->Option (Nat×List η)
 | .sl _ k l=>some (k,l)
 | .ms id n i len=>match σ[id]? with
  | some (.cells _ k l)=>if l.length=n/\i+len<=n then some (k,(l.drop i).take len) else none
  | _=>none
 | _=>none
def x8 (S:aL) (B:aW) (σ:List Row) (w:Nat->Value) (k:Nat) (l:List η):Prop:=∀(i:Nat) (e:η),l[i]?=some e->e.cells.length=k/\∀(j:Nat) (a:η),e.cells[j]?=some a->av S B σ a (w (i*k+j))
theorem Uz {k i j:Nat} (δ:j<k):(i*k+j) / k=i/\(i*k+j) % k=j:=by
 have χ:0<k:=R;refine⟨?_,?_⟩
 ·rw[Nat.add_comm,Nat.add_mul_div_right _ _ χ,Nat.div_eq_of_lt δ,Nat.zero_add]
 ·rw[Nat.add_comm,Nat.add_mul_mod_self_right];exact Nat.mod_eq_of_lt δ
theorem Ds (Β:Holds S B σ H) {a:η} {v:Value} {k k1:Nat} {l:List η} (κ:av S B σ a v) (h:qi σ a=some (k1,l)) (χ:0<k) (rF:l.isEmpty=true\/k1=k) :
  ∃base cap w,v=.slice base l.length cap/\l.length<=cap/\Reads H base (l.length*k) w/\x8 S B σ w k l:=by
 have flat:∀(b o:Nat) (w2:Nat->Nat->Value),(∀(i:Nat) (e:η),l[i]?=some e->e.cells.length=k)->(∀(i:Nat) (e:η),l[i]?=some e->∀(j:Nat) (c:η),e.cells[j]?=some c->∃p,H.aP b (o+i*k+j)=some (w2 i j,p))->
   (∀(i:Nat) (e:η),l[i]?=some e->∀(j:Nat) (c:η),e.cells[j]?=some c->av S B σ c (w2 i j))->Reads H (some ⟨b,o,none⟩) (l.length*k) (λm=>w2 (m / k) (m % k))/\x8 S B σ (λm=>w2 (m / k) (m % k)) k l:=by
  intro b o w2 J U μ;refine⟨.inr ⟨b,o,rfl,λm hm=>?_⟩,λi e hi=>⟨J i e hi,λj c δ=>?_⟩⟩
  ·have hi:m / k<l.length:=(Nat.div_lt_iff_lt_mul χ).2 hm
   have nL:l[m / k]?=some l[m / k]:=a8 hi
   have δ:m % k<l[m / k].cells.length:=by rw[J _ _ nL];exact Nat.mod_lt _ χ
   obtain⟨p,π⟩:=U _ _ nL (m % k) _ (a8 δ);refine⟨p,?_⟩;have:o+m=o+m / k*k+m % k:=by have:=Nat.div_add_mod m k;rw[Nat.mul_comm] at this;omega
   rw[this];exact π
  ·have pn:j<k:=by rw[<-J i e hi];exact(bX.1 δ).1
   obtain⟨Γ,Δ⟩:=Uz (i:=i) pn;simp only[Γ,Δ];exact μ i e hi j c δ
 have empty:∀(base:Option Addr) (cap:Nat),l=[]->v=.slice base 0 cap->∃base cap w,v=.slice base l.length cap/\l.length<=cap/\Reads H base (l.length*k) w/\x8 S B σ w k l:=λbase cap ξ hv=>by
  subst ξ;exact⟨base,cap,λ_=>undef,hv,Nat.zero_le _,.inl ζ,λi e hi=>by simp at hi⟩
 unfold qi at h;split at h
 ·cases h;obtain⟨base,cap,rfl,J,_,U⟩:=rB κ;by_cases ξ:l=[]
  ·exact empty base cap ξ (by rw[ξ];rfl)
  ·obtain⟨b,o,w,rfl,μ,Ε,au⟩:=U ξ;have jo:k1=k:=rF.elim (λx=>absurd (List.isEmpty_iff.1 x) ξ) id;subst jo;obtain⟨r1,r2⟩:=flat b o w μ (λi e hi j c δ=>Β.dm _ _ _ (Ε i e hi j c δ)) au;exact⟨_,cap,_,rfl,J,r1,r2⟩
 ·rename_i id n i len;split at h
  ·rename_i t af ep ξ;split at h
   ·rename_i ε;cases h;obtain⟨Ζ,hlen⟩:=ε;have ly:((ep.drop i).take len).length=len:=by simp;omega
    cases κ with
    | ms cap J U μ Ε au bd=>
     rw[ξ] at J;cases J;rcases bd with bd|⟨b,N,rfl,rfl,bd⟩
     ·subst bd;have:len=0:=R;subst this;exact empty _ 0 ζ rfl
     ·by_cases Φ:len=0
      ·subst Φ;exact empty _ cap ζ rfl
      ·have bA:¬((ep.drop i).take len).isEmpty=true:=λx=>by
        rw[List.isEmpty_iff] at x;rw[x] at ly;simp at ly;omega
       have jo:=rF.resolve_left bA;subst jo;obtain⟨bQ,ck,gn,w,hw⟩:=Β.row id _ _ ξ μ;have el:∀(x:Nat) (e:η),((ep.drop i).take len)[x]?=some e->ep[i+x]?=some e:=λx e γ=>by
        rw[List.getElem?_take] at γ;split at γ
        ·rw[List.getElem?_drop] at γ;exact γ
        ·cases γ
       obtain⟨r1,r2⟩:=flat b (i*k1) (λx j=>w (i+x) j) (λx e γ=>(hw _ e (el x e γ)).1) (λx e γ j c δ=>⟨true,by
        have:=((hw _ e (el x e γ)).2 j c δ).1;rw[Nat.add_mul] at this;exact this⟩) (λx e γ j c δ=>((hw _ e (el x e γ)).2 j c δ).2.1)
       exact⟨_,cap,_,by rw[ly],by rw[ly];exact au,r1,r2⟩
    | jO v J U=>rw[ξ] at J;cases J;simp only[Row.hx] at U;omega
   ·cases h
  ·cases h
 ·cases h
theorem Hn {w1 w2:Nat->Value} {k:Nat} {l1 l2:List η} (J:x8 S B σ w1 k l1) (U:x8 S B σ w2 k l2) (dW:l1.all (λe=>e.cells.all (η.bc σ))=true) (jI:l2.all (λe=>e.cells.all (η.bc σ))=true) (z:Array Value) :
  gb S B σ (((List.range (l1.length*k)).map w1).toArray++((List.range (l2.length*k)).map w2).toArray++z) k (l1++l2):=by
 have ok:∀(l:List η),l.all (λe=>e.cells.all (η.bc σ))=true->∀e∈l,∀a∈e.cells,η.bc σ a=true:=λl h e he a κ=>List.all_eq_true.1 (List.all_eq_true.1 h e he) a κ;refine⟨by simp[Nat.add_mul],λi e hi=>?_⟩;by_cases aO:i<l1.length
 ·rw[dI aO] at hi;refine⟨(J i e hi).1,λj a δ=>?_⟩;have pn:j<k:=by rw[<-(J i e hi).1];exact(bX.1 δ).1
  have hb:i*k+j<l1.length*k:=by
   have:(i+1)*k<=l1.length*k:=Nat.mul_le_mul_right k aO;rw[Nat.add_mul] at this;omega
  have ι:=(J i e hi).2 j a δ;refine⟨w1 (i*k+j),?_,ι,ι.z' (ok l1 dW e (cG hi) a (cG δ))⟩;rw[Array.append_assoc,Array.getElem?_append_left (by simpa using hb)];simp[hb]
 ·rw[hp R] at hi;refine⟨(U _ e hi).1,λj a δ=>?_⟩;have pn:j<k:=by rw[<-(U _ e hi).1];exact(bX.1 δ).1
  have wa:i-l1.length<l2.length:=(bX.1 hi).1
  have hb:(i-l1.length)*k+j<l2.length*k:=by
   have:(i-l1.length+1)*k<=l2.length*k:=Nat.mul_le_mul_right k wa;rw[Nat.add_mul] at this;omega
  have he:i*k+j=l1.length*k+((i-l1.length)*k+j):=by
   have:i=l1.length+(i-l1.length):=R
   conv=>lhs;rw[this,Nat.add_mul]
   omega
  have ι:=(U _ e hi).2 j a δ;refine⟨w2 ((i-l1.length)*k+j),?_,ι,ι.z' (ok l2 jI e (cG hi) a (cG δ))⟩;rw[he,Array.append_assoc,Array.getElem?_append_right ζ];rw[Array.getElem?_append_left (by simp;omega)];simp[hb]
def η.mb (bc:η->Bool) (l:List η):Bool:=l.all λe=>e.cells.all bc
def sX (T:bb) (st xt:TypeId) (bc:η->Bool) (σ:List Row) (s x:η):cw:=
 match ma T st xt,s,qi σ x with
 | some (_,k,_),.sl true eN l0,some (k1,l1)=>
  if(l0.isEmpty=true\/eN=k)/\(l1.isEmpty=true\/k1=k)/\η.mb bc l0=true/\η.mb bc l1=true then .b6 (l0.length+l1.length<=4294967296) (.ok (.sl false k (l0++l1))) else .bad
 | _,_,_=>.bad
theorem UA {k eN:Nat} {l0:List η} {v:Value} (h:av S B σ (.sl true eN l0) v) (χ:l0.isEmpty=true\/eN=k):av S B σ (.sl false k l0) v:=by
 by_cases ξ:l0=[]
 ·subst ξ;obtain⟨base,cap,rfl,_⟩:=rB h;exact .iB base cap ζ
 ·have:=χ.resolve_left (λx=>ξ (List.isEmpty_iff.1 x));subst this;cases h with
  | iB=>exact absurd rfl ξ
  | sl b o cap w J U μ Ε au=>exact .sl b o cap w ζ U μ Ε au
theorem Ho {bc:η->Bool} (oz:∀a:η,bc a=true->a.bc σ=true) {l:List η} (h:η.mb bc l=true):l.all (λe=>e.cells.all (η.bc σ))=true:=by
 unfold η.mb at h;rw[List.all_eq_true] at h ⊢;intro e he;have:=h e he;rw[List.all_eq_true] at this ⊢;exact λa κ=>oz a (this a κ)
theorem MI (Ι:bN P T) (Β:Holds S B σ H) {bc:η->Bool} (oz:∀a:η,bc a=true->a.bc σ=true) (st xt rt:TypeId) {s x:η} {u v:Value} (ν:av S B σ s u) (γ:av S B σ x v) :
  cS P (Builtin.append_ #[st,xt] rt #[u,v]) S B H σ ((sX T st xt bc σ s x).dw σ):=by
 unfold sX;split
 ·rename_i e k bV eN l0 k1 l1 po nN;split
  ·rename_i ε;obtain⟨c1,c2,c3,c4⟩:=ε;refine cS.b6 (r:=(cw.ok (.sl false k (l0++l1))).dw σ) λuA K θ=>?_;have χ:0<k:=by
    unfold ma at po;split at po<;>try cases po
    split at po<;>try cases po
    split at po<;>try cases po
    rename_i h;exact h.1
   obtain⟨base,cap,w,rfl,_,r1,r2⟩:=Ds Β ν (k:=k) rfl χ c1;obtain⟨Ag,Dr,w1,rfl,_,r3,jH⟩:=Ds Β γ nN χ c2;have x5:cap=l0.length:=by
    obtain⟨Ψ,G9,Γ,_,Δ,_⟩:=rB ν;cases Γ;exact Δ rfl
   have fin:∀aF H' v,Holds aF B σ H'->Ext S B H aF B H'->b3 S aF B B σ σ->av aF B σ (.sl false k (l0++l1)) v->jv S B H σ K v H':=λaF H' v a b c d=>⟨aF,B,σ,_,θ,b,a,c,d⟩;refine Hl Ι po r1 r3 uA (λbf=>?_) (λ_ kD m1=>?_)
   ·have Hp:l1=[]:=by
     cases l1 with
     | nil=>rfl
     | cons=>simp at bf;omega
    subst Hp;have Dt:av S B σ (.sl false k (l0++[])) (.slice base (l0.length+([]:List η).length) cap):=by
     rw[List.append_nil];exact UA ν c1
    cases base with
    | none=>exact ς.pure' (fin S H _ Β (.refl _ _ _) (.refl _ _ _) Dt)
    | some a=>
     have Φ:((List.range (([]:List η).length*k)).map w1)=[]:=ζ;rw[Φ];exact ς.pure' (fin S H _ Β (.refl _ _ _) (.refl _ _ _) Dt)
   ·refine Ab Β _ e λr J U μ=>fin _ _ _ J U μ ?_;have:=Dh (cap:=kD) false μ (Hn r2 jH (Ho oz c3) (Ho oz c4) (Builtin.zeroCells bV.zero.cells (kD-(l0.length+l1.length)))) (by simpa using m1) ζ;rw[List.length_append] at this;exact this
  ·exact .bad
 ·exact .bad
end
section
variable {P:Program} {T:bb} {S:aL} {B:aW} {H:Α} {σ:List Row}
theorem UB {st xt e:TypeId} {k:Nat} {bV:iC} (h:ma T st xt=some (e,k,bV)):0<k/\bV.zero.cells.size=k:=by
 unfold ma at h;split at h<;>try cases h
 split at h<;>try cases h
 split at h<;>try cases h
 rename_i h;exact⟨h.1,h.2.1⟩
theorem Du {α:Type} (l:List α) (x:α):(l++[x])[l.length]?=some x:=ζ
theorem Dv {B:aW} {σ:List Row} (hlen:B.length=σ.length) (bo:Option (Nat×Nat)):(B++[bo])[σ.length]?=some bo:=by rw[<-hlen];simp
def wc (H:Α) (bo:Option (Nat×Nat)) (m:Nat):Value:=match bo with|some (b,_)=>((H.aP b m).map (·.1)).getD undef|none=>undef
theorem MJ (z:Array Value) (n:Nat):(Builtin.zeroCells z n).size=n*z.size:=by simp[Builtin.zeroCells]
def Dw (T:bb) (st xt:TypeId) (σ:List Row) (s x:η):cV:=
 match ma T st xt,qi σ x with
 | some (e,k,_),some (k1,l1)=>
  if(l1.isEmpty=true\/k1=k)/\η.mb (η.bc σ) l1=true then match s with
   | .sl true _ l0=>if l0.isEmpty=true then .b6 (l1.length<=4294967296) (.ok (.ms σ.length l1.length 0 l1.length) (σ++[.cells e k l1])) else .bad
   | .ms id n i len=>match σ[id]? with
    | some (.cells t af l)=>if i=0/\l.length=n/\len=n/\af=k/\t=e then .b6 (n+l1.length<=4294967296) (.ok (.ms id (n+l1.length) 0 (n+l1.length)) (σ.set id (.cells t k (l++l1)))) else .bad
    | _=>.bad
   | _=>.bad
  else .bad
 | _,_=>.bad
theorem UC (Ι:bN P T) (Β:Holds S B σ H) (st xt rt:TypeId) {s x:η} {u v:Value} (ν:av S B σ s u) (γ:av S B σ x v) :
  cS P (Builtin.append_ #[st,xt] rt #[u,v]) S B H σ (Dw T st xt σ s x):=by
 unfold Dw;split
 ·rename_i e k bV k1 l1 po nN;split
  ·rename_i ε;obtain⟨c2,c4⟩:=ε;obtain⟨χ,rD⟩:=UB po;obtain⟨Ag,Dr,w1,rfl,_,r3,jH⟩:=Ds Β γ nN χ c2;have Hq:=Ho (σ:=σ) (λa h=>h) c4;split
   ·rename_i eN l0;split
    ·rename_i he;have Hr:l0=[]:=List.isEmpty_iff.1 he;subst Hr;refine .b6 λuA K θ=>?_;obtain⟨base,cap,rfl,_,x5,_⟩:=rB ν;have UD:cap=0:=x5 rfl;subst UD;refine Hl Ι po (sLen:=0) (wo:=λ_=>undef) (.inl ζ) r3 R (λbf=>?_) (λ_ kD m1=>?_)
     ·have Hp:l1=[]:=by
       cases l1 with
       | nil=>rfl
       | cons=>simp at bf
      subst Hp;obtain⟨dn,p2,p3⟩:=Β.push (H':=H) (r:=.cells e k []) (bo:=none) (λb N e=>by cases e) (λb _=>⟨λ_=>rfl,rfl,rfl⟩) (λ_=>rfl);have fin:jv S B H σ K (.slice base (([]:List η).length+([]:List η).length) 0) H:=⟨S,_,_,_,θ,p2,dn,p3,.ms 0 (Du σ _) rfl (Dv Β.len _) ζ (Nat.le_refl _) (.inl rfl)⟩;cases base with
      | none=>exact ς.pure' fin
      | some a=>
       have Φ:((List.range (([]:List η).length*k)).map w1)=[]:=ζ;rw[Φ];exact ς.pure' fin
     ·have ξ:gb S B σ (((List.range (0*k)).map λ_=>undef).toArray++((List.range (l1.length*k)).map w1).toArray++Builtin.zeroCells bV.zero.cells (kD-(0+l1.length))) k ([]++l1):=
       Hn (l1:=[]) (λi e hi=>by simp at hi) jH ζ Hq _
      rw[List.nil_append] at ξ;refine Aa Β ξ e λr _ J U μ=>⟨_,_,_,_,θ,U,J,μ,?_⟩;simp only[List.length_nil,Nat.zero_add];refine .ms kD (Du σ _) rfl (Dv Β.len _) R (by simpa using m1) (.inr ⟨r,_,rfl,ζ,?_⟩);simp only[Nat.zero_add,Array.size_append,List.size_toArray,List.length_map,List.length_range,MJ,rD,Nat.zero_mul];rw[<-Nat.add_mul];have:l1.length+(kD-l1.length)=kD:=by simp at m1;omega
      rw[this];exact Nat.le_refl _
    ·exact .bad
   ·rename_i id n i len;split
    ·rename_i t af l ξ;split
     ·rename_i mc;obtain⟨lk,Ζ,hlen,rF,UE⟩:=mc;subst lk;subst hlen;subst rF;subst UE;refine .b6 λuA K θ=>?_;cases ν with
      | @ms _ _ _ _ _ _ _ bo base cap J U μ Ε au bd=>
       rw[ξ] at J;cases J;have cu:=Β.row id _ bo ξ μ;have Hs:Reads H base (len*af) (wc H bo):=by
        rcases bd with bd|⟨b,N,rfl,rfl,bd⟩
        ·exact .inl (by rw[show len=0 from R];simp)
        ·refine .inr ⟨b,0,ζ,λj δ=>⟨true,?_⟩⟩;obtain⟨w,hw⟩:=cu.2.2.1 j (by have:=cu.2.1;rw[Ζ] at this;omega);rw[Nat.zero_add];simp[hw,wc]
       have same:l1=[]->jv S B H σ K (.slice base (len+l1.length) cap) H:=λcF=>by
        subst cF;have b5:id<σ.length:=(bX.1 ξ).1;have uJ:σ.set id (.cells t af (l++[]))=σ:=by
         rw[List.append_nil];apply List.ext_getElem?;intro j;by_cases lx:id=j
         ·subst lx;rw[List.getElem?_set_self b5,ξ]
         ·rw[List.getElem?_set_ne lx]
        rw[uJ] at θ;exact⟨S,B,σ,_,θ,.refl _ _ _,Β,.refl _ _ _,.ms cap ξ Ζ μ ζ au bd⟩
       have b5:id<σ.length:=(bX.1 ξ).1
       have pg:id<B.length:=by rw[Β.len];exact b5
       refine Hl Ι po Hs r3 uA (λbf=>?_) (λMG kD m1=>?_)
       ·by_cases cF:l1=[]
        ·have:=same cF;subst cF;cases base with
         | none=>exact ς.pure' this
         | some a=>
          have Φ:((List.range (([]:List η).length*af)).map w1)=[]:=ζ;rw[Φ];exact ς.pure' this
        ·have qj:0<l1.length:=List.length_pos_iff.2 cF;rcases bd with bd|⟨b,N,rfl,rfl,bd⟩
         ·omega
         ·obtain⟨bQ,ck,gn,w,hw⟩:=cu;have UF:(len+l1.length)*af<=N:=by
           have:(len+l1.length)*af<=(0+cap)*af:=Nat.mul_le_mul_right _ R;omega
          rw[Nat.add_mul] at UF;have UG:(⟨b,0*af,none⟩:Addr).add (len*af)=⟨b,len*af,none⟩:=by rw[uF];simp
          have MK:((List.range (l1.length*af)).map w1).length=l1.length*af:=ζ
          have iF:∀j,j<l1.length*af->((List.range (l1.length*af)).map w1)[j]?=some (w1 j):=λj δ=>by simp[δ]
          have ML:∀(i:Nat) (e:η) (j:Nat) (a:η),l1[i]?=some e->e.cells[j]?=some a->One (w1 (i*af+j)):=λi e j a hi δ=>
           ((jH i e hi).2 j a δ).z' (List.all_eq_true.1 (List.all_eq_true.1 Hq e (cG hi)) a (cG δ))
          have UH:∀v∈(List.range (l1.length*af)).map w1,One v:=λv hv=>by
           obtain⟨m,hm,rfl⟩:=List.mem_map.1 hv;have dk:m<l1.length*af:=by simpa using hm
           have hi:m / af<l1.length:=(Nat.div_lt_iff_lt_mul χ).2 dk
           have nL:=a8 hi
           have δ:m % af<l1[m / af].cells.length:=by rw[(jH _ _ nL).1];exact Nat.mod_lt _ χ
           have:=ML _ _ _ _ nL (a8 δ)
           have Γ:m / af*af+m % af=m:=by have:=Nat.div_add_mod m af;rw[Nat.mul_comm] at this;exact this
           rw[Γ] at this;exact this
          have zS:b3 S S B (B.set id (some (b,N))) σ (σ.set id (.cells t af (l++l1)))->j' S (B.set id (some (b,N))) (σ.set id (.cells t af (l++l1))) (H.hN b (len*af) ((List.range (l1.length*af)).map w1)) (.cells t af (l++l1)) (some (b,N)):=λlh=>by
           refine⟨bQ,by simp[Nat.add_mul,Ζ];omega,λo ψ=>?_,λi j=>if i<len then w i j else w1 ((i-len)*af+j),λi e hi=>?_⟩
           ·simp only[Α.hN];split
            ·exact⟨_,rfl⟩
            ·exact gn o ψ
           ·by_cases aO:i<l.length
            ·rw[dI aO] at hi;refine⟨(hw i e hi).1,λj a δ=>?_⟩;obtain⟨Ρ,aa,aX⟩:=(hw i e hi).2 j a δ;have pn:j<af:=by rw[<-(hw i e hi).1];exact(bX.1 δ).1
             have hb:i*af+j<len*af:=by
              have:(i+1)*af<=len*af:=Nat.mul_le_mul_right af R;rw[Nat.add_mul] at this;omega
             simp only[show i<len by omega,if_true];refine⟨?_,aa.later lh,aX⟩;simp only[Α.hN];rw[if_neg R];exact Ρ
            ·rw[hp R,Ζ] at hi;refine⟨(jH _ e hi).1,λj a δ=>?_⟩;have pn:j<af:=by rw[<-(jH _ e hi).1];exact(bX.1 δ).1
             have wa:i-len<l1.length:=(bX.1 hi).1
             have hb:(i-len)*af+j<l1.length*af:=by
              have:(i-len+1)*af<=l1.length*af:=Nat.mul_le_mul_right af wa;rw[Nat.add_mul] at this;omega
             have he:i*af+j=len*af+((i-len)*af+j):=by
              have:i=len+(i-len):=R
              conv=>lhs;rw[this,Nat.add_mul]
              omega
             simp only[show ¬i<len by omega,if_false];refine⟨?_,((jH _ e hi).2 j a δ).later lh,ML _ e j a hi δ⟩;simp only[Α.hN,MK];rw[if_pos ⟨trivial,R,R⟩];have:i*af+j-len*af=(i-len)*af+j:=R;rw[this,iF _ hb];rfl
          obtain⟨dn,p2,p3⟩:=Β.xZ (H':=H.hN b (len*af) ((List.range (l1.length*af)).map w1)) (r':=.cells t af (l++l1)) (bo':=some (b,N)) ξ trivial μ (.inr λm hm=>by simp only[Row.hx,List.length_append];omega) (λΨ e' aM=>.inl ⟨e',aM⟩)
           (λΨ J _=>by
            have bA:Ψ≠b:=λaM=>by subst aM;exact J N rfl
            exact⟨λo=>by simp[Α.hN,bA],rfl,rfl⟩) Α.G6 (De Β ξ) zS
          show ς P (storeCells ((⟨b,0*af,none⟩:Addr).add (len*af)) _) H _ _;rw[UG];refine ς.storeCells (G:=H) rfl ⟨t,N,bQ⟩ _ 0 H UH (λj _ δ=>?_) rfl ?_
          ·rw[MK] at δ;obtain⟨u,hu⟩:=gn (len*af+j) R;exact⟨u,hu⟩
          ·refine⟨S,_,_,_,θ,p2,dn,p3,.ms cap (by rw[List.getElem?_set_self b5]) (by simp[Ζ]) (by rw[List.getElem?_set_self pg]) R bf (.inr ⟨b,N,rfl,rfl,bd⟩)⟩
       ·have cF:l1≠[]:=by rintro rfl;simp at MG;omega
        have qj:0<l1.length:=List.length_pos_iff.2 cF
        have Ht:x8 S B σ (wc H bo) af l:=λi e hi=>by
         cases bo with
         | none=>have:l=[]:=cu
                 rw[this] at hi;simp at hi
         | some x=>
          obtain⟨b,N⟩:=x;obtain⟨_,_,_,w,hw⟩:=cu;refine⟨(hw i e hi).1,λj a δ=>?_⟩;obtain⟨Ρ,aa,_⟩:=(hw i e hi).2 j a δ;simp only[wc,Ρ];exact aa
        have Ah:gb S B σ (((List.range (len*af)).map (wc H bo)).toArray++((List.range (l1.length*af)).map w1).toArray++Builtin.zeroCells bV.zero.cells (kD-(len+l1.length))) af (l++l1):=by
         refine⟨by simp[Nat.add_mul,Ζ],λi e hi=>?_⟩;by_cases aO:i<l.length
         ·rw[dI aO] at hi;refine⟨(Ht i e hi).1,λj a δ=>?_⟩;have pn:j<af:=by rw[<-(Ht i e hi).1];exact(bX.1 δ).1
          have hb:i*af+j<len*af:=by
           have:(i+1)*af<=len*af:=Nat.mul_le_mul_right af R;rw[Nat.add_mul] at this;omega
          refine⟨_,?_,(Ht i e hi).2 j a δ,?_⟩
          ·rw[Array.append_assoc,Array.getElem?_append_left (by simpa using hb)];simp[hb]
          ·cases bo with
           | none=>have:l=[]:=cu
                   rw[this] at aO;simp at aO
           | some x=>
            obtain⟨b,N⟩:=x;obtain⟨_,_,_,w,hw⟩:=cu;obtain⟨Ρ,aa,aX⟩:=(hw i e hi).2 j a δ;simp only[wc,Ρ];exact aX
         ·rw[hp R,Ζ] at hi;have:=Hn (l1:=[]) (w1:=λ_=>undef) (k:=af) (λi e hi=>by simp at hi) jH ζ Hq (Builtin.zeroCells bV.zero.cells (kD-(len+l1.length)));obtain⟨eP,du⟩:=this.2 (i-len) e (by simpa using hi);refine⟨eP,λj a δ=>?_⟩;obtain⟨x,gd,oA,uK⟩:=du j a δ;have pn:j<af:=by rw[<-eP];exact(bX.1 δ).1
          have he:i*af+j=len*af+((i-len)*af+j):=by
           have:i=len+(i-len):=R
           conv=>lhs;rw[this,Nat.add_mul]
           omega
          refine⟨x,?_,oA,uK⟩;rw[he,Array.append_assoc,Array.getElem?_append_right ζ];simpa using gd
        refine⟨rfl,λr ι=>?_⟩;generalize UI:(((List.range (len*af)).map (wc H bo)).toArray++((List.range (l1.length*af)).map w1).toArray++Builtin.zeroCells bV.zero.cells (kD-(len+l1.length)))=c at Ah;have UJ:kD*af<=c.size:=by
         rw[<-UI];simp only[Array.size_append,List.size_toArray,List.length_map,List.length_range,MJ,rD];rw[<-Nat.add_mul,<-Nat.add_mul];have:len+l1.length+(kD-(len+l1.length))=kD:=R;rw[this];exact Nat.le_refl _
        obtain⟨dn,p2,p3⟩:=Β.xZ (H':=H.dL r c t) (r':=.cells t af (l++l1)) (bo':=some (r,c.size)) ξ trivial μ (.inr λm hm=>by simp only[Row.hx,List.length_append];omega) (λΨ e' aM=>.inr (by cases aM;exact ι))
         (λΨ _ U=>by
          have bA:Ψ≠r:=λaM=>by subst aM;exact U _ rfl
          exact⟨λo=>by simp[Α.dL,bA],by simp[Α.dL,bA],rfl⟩) (Α.Mc ι c t) (De Β ξ) (λlh=>by
          have a3:=Ah.later lh;refine⟨by simp[Α.dL],Ah.1,λo ψ=>⟨c[o],by simp[Α.dL,ψ]⟩,λi j=>(c[i*af+j]?).getD undef,λi e hi=>⟨(a3.2 i e hi).1,λj a δ=>?_⟩⟩;obtain⟨x,Γ,Δ,a4⟩:=(a3.2 i e hi).2 j a δ;simp only[Γ,Option.getD_some];exact⟨by simp[Α.dL,Γ],Δ,a4⟩)
        exact⟨S,_,_,_,θ,p2,dn,p3,.ms kD (by rw[List.getElem?_set_self b5]) (by simp[Ζ]) (by rw[List.getElem?_set_self pg]) R R (.inr ⟨r,c.size,rfl,ζ,by simpa using UJ⟩)⟩
      | jO v J U=>rw[ξ] at J;cases J;simp only[Row.hx] at U;omega
     ·exact .bad
    ·exact .bad
   ·exact .bad
  ·exact .bad
 ·exact .bad
end
section
variable {P:Program} {T:bb} {S:aL} {B:aW} {H:Α} {σ:List Row}
def qk (o:Option η) (d:Int):Option Int:=match o with
 | none=>some d
 | some (.z (.int _ n))=>some n
 | _=>none
def we (S:aL) (B:aW) (σ:List Row):Option η->Option Value->Prop
 | none,none=>True
 | some a,some v=>av S B σ a v
 | _,_=>False
theorem MM {k:IntKind} {n:Int} {y:Nat} {code:BoundsCode} (h:0<=n/\n<=y) {G:Α} {K:Nat->Α->Prop} {E:Value->Α->Prop} (χ:K n.toNat G):ς P (Instr.sliceBound (.int k n) y code) G K E:=by
 unfold Instr.sliceBound;refine ς.bind' (ς.pure' ?_);simp only[h,and_self,if_true];exact ς.pure' χ
theorem Dx {isSlice:Bool} {len cap:Nat} {lo hi:Option η} {lv hv:Option Value} (hP:we S B σ lo lv) (pk:we S B σ hi hv) {a b:Int} (κ:qk lo 0=some a) (hb:qk hi len=some b) (h:0<=a/\a<=b/\b<=cap) {G:Α} {K:Nat×Nat×Nat->Α->Prop} {E:Value->Α->Prop}
  (χ:K (a.toNat,b.toNat,cap) G):ς P (Instr.sliceBounds isSlice len cap lv hv none) G K E:=by
 unfold Instr.sliceBounds;refine ς.bind' (ς.pure' ?_);have low:∀(n:Nat),b.toNat=n->ς P (match lv with|some v=>Instr.sliceBound v n (if(none:Option Value).isSome then .slice3C else .sliceB)|none=>pure 0) G (λl G'=>ς P (pure (l,n,cap)) G' K E) E:=λn Ζ=>by
  subst Ζ;cases lo with
  | none=>
   cases lv with
   | some v=>exact hP.elim
   | none=>cases κ;exact ς.pure' (ς.pure' χ)
  | some x=>
   cases lv with
   | none=>exact hP.elim
   | some v=>
    unfold qk at κ;split at κ
    ·rename_i e;cases e
    ·rename_i k n e;cases e;cases κ;cases hP;exact MM R (ς.pure' χ)
    ·cases κ
 cases hi with
 | none=>
  cases hv with
  | some v=>exact pk.elim
  | none=>
   cases hb;refine ς.bind' (ς.pure' ?_);have:=low len ζ;cases lv with
   | none=>exact ς.bind' this
   | some v=>exact ς.bind' this
 | some x=>
  cases hv with
  | none=>exact pk.elim
  | some v=>
   unfold qk at hb;split at hb
   ·rename_i e;cases e
   ·rename_i k n e;cases e;cases hb;cases pk;refine ς.bind' (MM R ?_);have:=low _ rfl;cases lv with
    | none=>exact ς.bind' this
    | some v=>exact ς.bind' this
   ·cases hb
def Dy (T:bb) (ty:TypeId) (x:η) (lo hi:Option η):cw:=match T ty with
 | some i=>match i.bG,x with
  | .string,.z (.string s)=>match qk lo 0,qk hi s.size with
   | some a,some b=>.b6 (0<=a/\a<=b/\b<=s.size) (.ok (.z (.string (s.extract a.toNat b.toNat))))
   | _,_=>.bad
  | .slice e,.sl ex k l=>match T e,qk lo 0,qk hi l.length with
   | some bV,some a,some b=>if l.isEmpty=true\/k=bV.size then .b6 (0<=a/\a<=b/\b<=l.length) (.ok (.sl (ex&&hi.isNone) k ((l.take b.toNat).drop a.toNat))) else .bad
   | _,_,_=>.bad
  | .array n e,.ao cells=>match T e with
   | some bV=>if bV.size=1/\bV.agg=false/\n<=cells.length/\0<n/\lo.isNone/\hi.isNone/\(cells.take n).all (λc=>decide (c.cells.length=1)&&η.bc [] c) then .ok (.sl true 1 (cells.take n)) else .bad
   | none=>.bad
  | _,_=>.bad
 | none=>.bad
def Dz (T:bb) (ty:TypeId) (σ:List Row) (x:η) (lo hi:Option η):cV:=match T ty with
 | some i=>match i.bG,x with
  | .slice e,.ms id n i len=>match T e,σ[id]?,qk lo 0,qk hi len with
   | some bV,some (.cells _ k l),some a,some b=>if k=bV.size/\l.length=n then .b6 (0<=a/\a<=b/\b<=len) (.ok (.ms id n (i+a.toNat) (b.toNat-a.toNat)) σ) else .bad
   | _,_,_,_=>.bad
  | _,_=>.bad
 | none=>.bad
theorem UK {ex:Bool} {k:Nat} {l:List η} {base:Option Addr} {len cap:Nat} (h:av S B σ (.sl ex k l) (.slice base len cap)) {a b size:Nat} (eO:a<=b) (hb:b<=l.length) (χ:l.isEmpty=true\/k=size) (Hu:Bool) (hex:Hu=true->ex=true/\b=l.length) :
  av S B σ (.sl Hu k ((l.take b).drop a)) (.slice (if cap=a then base else base.map (·.add (a*size))) (b-a) (cap-a)):=by
 obtain⟨Ui,G9,e,J,U,μ⟩:=rB h;cases e;have hlen:((l.take b).drop a).length=b-a:=by simp;omega
 by_cases Φ:(l.take b).drop a=[]
 ·rw[Φ] at hlen ⊢;have:b-a=0:=by simpa using hlen.symm
  rw[this];refine .iB _ _ λhe=>?_;obtain⟨Γ,Δ⟩:=hex he;have:=U Γ;omega
 ·have ξ:l≠[]:=by rintro rfl;simp at Φ
  obtain⟨dd,o,w,rfl,Ε,au,bd⟩:=μ ξ;have hL:k=size:=χ.resolve_left λx=>ξ (List.isEmpty_iff.1 x);subst hL;have uL:a<b:=by
   apply Classical.byContradiction;intro Ζ;apply Φ;have:b-a=0:=R;rw[this] at hlen;exact dO.1 hlen
  rw[if_neg R];simp only[Option.map_some,uF];have el:∀(i:Nat) (e:η),((l.take b).drop a)[i]?=some e->l[a+i]?=some e:=λi e hi=>by
   rw[List.getElem?_drop,List.getElem?_take] at hi;split at hi
   ·exact hi
   ·cases hi
  have hle:((l.take b).drop a).length<=cap-a:=by rw[hlen];omega
  have:=av.sl (S:=S) (B:=B) (σ:=σ) (ex:=Hu) (k:=k) (l:=(l.take b).drop a) dd (o+a*k) (cap-a) (λi j=>w (a+i) j) (λhe=>by obtain⟨Γ,Δ⟩:=hex he;have:=U Γ;omega) hle
   (λi e hi=>Ε _ e (el i e hi)) (λi e hi j c δ=>by have:=au _ e (el i e hi) j c δ;rw[Nat.add_mul] at this;rw[Nat.add_assoc o];exact this) (λi e hi j c δ=>bd _ e (el i e hi) j c δ)
  rw[hlen] at this;exact this
theorem UL (Ι:bN P T) (Β:Holds S B σ H) (ty:TypeId) {x:η} {v:Value} (γ:av S B σ x v) {lo hi:Option η} {lv hv:Option Value} (hP:we S B σ lo lv) (pk:we S B σ hi hv) :
  cS P (Instr.sliceAt ty v lv hv none) S B H σ ((Dy T ty x lo hi).dw σ):=by
 unfold Dy;cases aC:T ty with
 | none=>exact .bad
 | some i=>
  simp only;split
  ·rename_i s hu;cases γ;split
   ·rename_i a b κ hb;refine cS.b6 (r:=(cw.ok (.z (.string (s.extract a.toNat b.toNat)))).dw σ) λh K θ=>?_;unfold Instr.sliceAt;refine ς.bind' (Ι.bG aC ?_);rw[hu];simp only;unfold Instr.slice;refine ς.bind' (Ι.bG aC ?_);rw[hu];simp only[Option.isSome_none,Bool.false_eq_true,if_false];refine ς.bind' (Dx hP pk κ hb h ?_);exact ς.pure' (.same Β θ (.z _))
   ·exact .bad
  ·rename_i e ex k l hu;split
   ·rename_i bV a b eI κ hb;split
    ·rename_i χ;refine cS.b6 (r:=(cw.ok (.sl (ex&&hi.isNone) k ((l.take b.toNat).drop a.toNat))).dw σ) λh K θ=>?_;obtain⟨base,cap,rfl,J,U,_⟩:=rB γ;unfold Instr.sliceAt;refine ς.bind' (Ι.bG aC ?_);rw[hu];simp only;unfold Instr.slice;refine ς.bind' (Ι.bG aC ?_);rw[hu];simp only;refine ς.bind' (Dx hP pk κ hb R ?_);simp only;refine ς.bind' (Ι.size eI ?_);refine ς.pure' (.same Β θ (UK γ R R χ _ λhe=>?_));simp only[Bool.and_eq_true] at he;refine⟨he.1,?_⟩;cases hi with
     | none=>cases hb;simp
     | some=>simp at he
    ·exact .bad
   ·exact .bad
  ·rename_i n e cells hu;split
   ·rename_i bV eI;split
    ·rename_i ε;obtain⟨c1,c2,c3,c4,nO,sY,rG⟩:=ε;intro K θ;cases γ with
     | ao b o w J U=>
      cases lo with
      | some=>simp at nO
      | none=>
       cases hi with
       | some=>simp at sY
       | none=>
        cases lv with
        | some=>exact hP.elim
        | none=>
         cases hv with
         | some=>exact pk.elim
         | none=>
          unfold Instr.sliceAt;refine ς.bind' (Ι.bG aC ?_);rw[hu];simp only;refine ς.bind' (ς.pure' ?_);refine ς.bind' (Dx (S:=S) (B:=B) (σ:=σ) (lo:=none) (hi:=none) (lv:=none) (hv:=none) trivial trivial (a:=0) (b:=n) rfl rfl R ?_);simp only[Int.toNat_natCast];refine ς.bind' (Ι.size eI ?_);rw[c1];refine ς.pure' (.same Β θ ?_);have h':(0:Int).toNat=0:=rfl;rw[h',if_neg R,uF];simp only[Nat.zero_mul,Nat.add_zero,Nat.sub_zero];have hlen:(cells.take n).length=n:=by simp;omega
          rw[List.all_eq_true] at rG;have el:∀(i:Nat) (e:η),(cells.take n)[i]?=some e->cells[i]?=some e/\e.cells=[e]:=λi e hi=>by
           have hm:=rG e (cG hi);simp only[Bool.and_eq_true] at hm;rw[List.getElem?_take] at hi;split at hi
           ·exact⟨hi,η.Hb hm.2⟩
           ·cases hi
          have:=av.sl (S:=S) (B:=B) (σ:=σ) (ex:=true) (k:=1) (l:=cells.take n) b o n (λi _=>w i) (λ_=>hlen.symm) R (λi e hi=>by rw[(el i e hi).2];rfl)
           (λi e hi j c δ=>by
            rw[(el i e hi).2] at δ
            match j with
            | 0=>simp at δ;subst δ;have:=J i _ (el i _ hi).1;simpa using this
            | j+1=>simp at δ) (λi e hi j c δ=>by
            rw[(el i e hi).2] at δ
            match j with
            | 0=>simp at δ;subst δ;exact U i _ (el i _ hi).1
            | j+1=>simp at δ)
          rw[hlen] at this;exact this
    ·exact .bad
   ·exact .bad
  ·exact .bad
theorem UM (Ι:bN P T) (Β:Holds S B σ H) (ty:TypeId) {x:η} {v:Value} (γ:av S B σ x v) {lo hi:Option η} {lv hv:Option Value} (hP:we S B σ lo lv) (pk:we S B σ hi hv) :
  cS P (Instr.sliceAt ty v lv hv none) S B H σ (Dz T ty σ x lo hi):=by
 unfold Dz;cases aC:T ty with
 | none=>exact .bad
 | some lr=>
  simp only;split
  ·rename_i e id n i len hu;split
   ·rename_i bV t k l a b eI ξ κ hb;split
    ·rename_i ε;obtain⟨χ,Ζ⟩:=ε;refine .b6 λh K θ=>?_;cases γ with
     | ms cap J U μ Ε au bd=>
      rw[ξ] at J;cases J;unfold Instr.sliceAt;refine ς.bind' (Ι.bG aC ?_);rw[hu];simp only;unfold Instr.slice;refine ς.bind' (Ι.bG aC ?_);rw[hu];simp only;refine ς.bind' (Dx hP pk κ hb R ?_);simp only;refine ς.bind' (Ι.size eI ?_);refine ς.pure' (.same Β θ (.ms (cap-a.toNat) ξ Ζ μ R R ?_));by_cases ε:cap=a.toNat
      ·exact .inl R
      ·rcases bd with bd|⟨dd,N,rfl,rfl,bd⟩
       ·exact .inl R
       ·refine .inr ⟨dd,N,rfl,?_,?_⟩
        ·rw[if_neg ε];simp only[Option.map_some,uF,χ,Nat.add_mul]
        ·have:i+a.toNat+(cap-a.toNat)=i+cap:=by omega
         rw[this];exact bd
     | jO v J U=>rw[ξ] at J;cases J;simp only[Row.hx] at U;omega
    ·exact .bad
   ·exact .bad
  ·exact .bad
def DC (T:bb) (ty:TypeId) (x:η):cw:=match T ty with
 | some i=>match i.bG,x with
  | .string,.z (.string s)=>.ok (.z (.int .i64 s.size))
  | .slice _,.sl _ _ l=>.ok (.z (.int .i64 l.length))
  | .array n _,_=>.ok (.z (.int .i64 n))
  | _,_=>.bad
 | none=>.bad
def DD (T:bb) (ty:TypeId) (σ:List Row) (x:η):cV:=match T ty with
 | some i=>match i.bG,x with
  | .slice _,.ms id n _ len=>match σ[id]? with
   | some (.cells _ _ l)=>if l.length=n then .ok (.z (.int .i64 len)) σ else .bad
   | _=>.bad
  | _,_=>.bad
 | none=>.bad
theorem UN (Ι:bN P T) (Β:Holds S B σ H) (ty rt:TypeId) {x:η} {v:Value} (γ:av S B σ x v):cS P (Builtin.len_ #[ty] rt #[v]) S B H σ ((DC T ty x).dw σ):=by
 unfold DC;cases hi:T ty with
 | none=>exact .bad
 | some i=>
  simp only;have go:∀(K:η->List Row->Prop) (n:Int),K (.z (.int .i64 n)) σ->ς P (pure (goInt n):Sem Value) H (jv S B H σ K) (λ_ _=>False):=λK n θ=>ς.pure' (.same Β θ (.z _));split
  ·rename_i s hu;cases γ;intro K θ;unfold Builtin.len_;refine ς.bind' (Ι.bG hi ?_);rw[hu];exact go K _ θ
  ·rename_i e ex k l hu;obtain⟨base,cap,rfl,_⟩:=rB γ;intro K θ;unfold Builtin.len_;refine ς.bind' (Ι.bG hi ?_);rw[hu];exact go K _ θ
  ·rename_i n e hu;intro K θ;unfold Builtin.len_;refine ς.bind' (Ι.bG hi ?_);rw[hu];cases v<;>exact go K _ θ
  ·exact .bad
theorem UO (Ι:bN P T) (Β:Holds S B σ H) (ty rt:TypeId) {x:η} {v:Value} (γ:av S B σ x v):cS P (Builtin.len_ #[ty] rt #[v]) S B H σ (DD T ty σ x):=by
 unfold DD;cases hi:T ty with
 | none=>exact .bad
 | some i=>
  simp only;split
  ·rename_i e id n j len hu;split
   ·rename_i t k l ξ;split
    ·rename_i Ζ;intro K θ;cases γ with
     | ms cap J U μ Ε au bd=>
      unfold Builtin.len_;refine ς.bind' (Ι.bG hi ?_);rw[hu];exact ς.pure' (.same Β θ (.z _))
     | jO v J U=>rw[ξ] at J;cases J;simp only[Row.hx] at U;omega
    ·exact .bad
   ·exact .bad
  ·exact .bad
def x9 (T:bb) (src dst:TypeId) (x:η):cw:=match T src,T dst with
 | some _,some j=>match j.bG,x with
  | .int k,.z (.int _ n)=>.ok (.z (.int k (k.wrap n)))
  | _,_=>.bad
 | _,_=>.bad
theorem UP (Ι:bN P T) (Β:Holds S B σ H) (src dst:TypeId) {x:η} {v:Value} (γ:av S B σ x v):cS P (convert src dst v) S B H σ ((x9 T src dst x).dw σ):=by
 unfold x9;split
 ·rename_i i j hi δ;split
  ·rename_i k kk n hu;cases γ;intro K θ;unfold convert;refine ς.bind' (Ι.bG hi (ς.bind' (Ι.bG δ ?_)));rw[hu];exact ς.pure' (.same Β θ (.z _))
  ·exact .bad
 ·exact .bad
def DF (l:List η):cw:=match l with
 | [.z (.int k x),.z (.int _ y)]=>.ok (.z (.int k (if y > x then y else x)))
 | _=>.bad
theorem UQ (Β:Holds S B σ H) (ej:Array TypeId) (rt:TypeId) {a b:η} {u v:Value} (κ:av S B σ a u) (hb:av S B σ b v):cS P (Builtin.max_ ej rt #[u,v]) S B H σ ((DF [a,b]).dw σ):=by
 unfold DF;split
 ·rename_i k x kk y e;simp at e;obtain⟨rfl,rfl⟩:=e;cases κ;cases hb;intro K θ;exact ς.pure' (.same Β θ (.z _))
 ·exact .bad
end
def m2 (d:TypeDesc) (x y:Value):Option Bool:=match d,x,y with
 | .int _,.int k a,.int af b=>if k=af then some (a==b) else none
 | .string,.string a,.string b=>some (a==b)
 | .bool,.bool a,.bool b=>some (a==b)
 | _,_,_=>none
def kh:List (TypeDesc×Nat)->List η->List η->Option Bool
 | [],_,_=>some true
 |(d,o)::r,xs,cL=>match xs[o]?,cL[o]? with
  | some (.z x),some (.z y)=>match m2 d x y,kh r xs cL with
   | some b,some c=>some (b&&c)
   | _,_=>none
  | _,_=>none
def aeqv (T:bb) (ty:TypeId) (a b:η):Option Bool:=match T ty with
 | some i=>match a,b with
  | .z x,.z y=>if ju i.bG then m2 i.bG x y else none
  | .a0 xs,.a0 cL=>match i.eqs with|some items=>if xs.length=items.length/\cL.length=items.length then kh items xs cL else none|none=>none
  | _,_=>none
 | none=>none
section
variable {P:Program} {T:bb} {S:aL} {B:aW} {H:Α} {σ:List Row}
theorem ς.forIn_nil {α β:Type} {init:β} {f:α->β->Sem (ForInStep β)} {G:Α} {K:β->Α->Prop} {E:Value->Α->Prop} (h:K init G):ς P (forIn ([]:List α) init f) G K E:=by
 rw[List.forIn_nil];exact h
theorem ς.forIn_cons {α β:Type} {a:α} {l:List α} {init:β} {f:α->β->Sem (ForInStep β)} {G:Α} {K:β->Α->Prop} {E:Value->Α->Prop}
  (h:ς P (f a init) G (λr G'=>match r with|.done b=>K b G'|.yield b=>ς P (forIn l b f) G' K E) E):ς P (forIn (a::l) init f) G K E:=by
 rw[List.forIn_cons];refine ς.bind' (ς.mono (λr G' ι=>?_) (λ_ _ h=>h) _ h);cases r with
 | done b=>exact ς.pure' ι
 | yield b=>exact ι
theorem forIn_range {β:Type} (m:Nat) (init:β) (f:Nat->β->Sem (ForInStep β)):forIn [:m] init f=forIn (List.range m) init f:=by
 rw[Std.Legacy.Range.forIn_eq_forIn_range'];simp[Std.Legacy.Range.size,List.range_eq_range']
theorem Hv {ty:TypeId} {d:TypeDesc} (hd:P.underlying ty=some d) (ν:ju d=true) {x y:Value} {b:Bool} (h:m2 d x y=some b) {n:Nat} {G:Α} {K:Bool->Α->Prop} {E:Value->Α->Prop} (χ:K b G):ς P (Op.equalIn (n+1) ty x y) G K E:=by
 unfold Op.equalIn;refine ς.bind' (ς.underlying hd ?_);unfold m2 at h;split at h
 ·split at h
  ·rename_i e;subst e;cases h;simp only[if_true];exact ς.pure' χ
  ·cases h
 ·cases h;exact ς.pure' χ
 ·cases h;exact ς.pure' χ
 ·cases h
def Hw (xs:List η) (vs:Array Value):Prop:=∀(o:Nat) (v:Value),xs[o]?=some (η.z v)->vs[o]?=some v
theorem Ai {xs:List η} {vs:Array Value} (h:av S B σ (.a0 xs) (.agg vs)):Hw xs vs:=λo v hv=>by
 cases h with
 | a0 _ Ρ aa=>
  have aO:o<vs.size:=by rw[<-Ρ];exact(bX.1 hv).1
  have γ:=ff aO
  have:=aa o _ _ hv γ;generalize vs[o]=u at this γ;cases this;exact γ
theorem Aj {ty:TypeId} {d:TypeDesc} (hd:P.underlying ty=some d) (ν:ju d=true) {vs:Array Value} {o:Nat} {v:Value} (hv:vs[o]?=some v) {G:Α} {K:Value->Α->Prop} {E:Value->Α->Prop} (χ:K v G):ς P (part ty vs o) G K E:=by
 unfold part;refine ς.bind' (ς.isAgg hd ?_);have:l9 d=false:=by cases d<;>first|rfl|cases ν
 rw[this];simp only[Bool.false_eq_true,if_false,hv];exact ς.pure' χ
theorem UR {xs cL:List η} {vs ws:Array Value} (γ:Hw xs vs) (Κ:Hw cL ws) {ty:TypeId} {items:List (TypeDesc×Nat)} (Ξ:G7 P ty (some items)) {b:Bool} (h:kh items xs cL=some b) {n:Nat} {G:Α} {K:Bool->Α->Prop} {E:Value->Α->Prop} (χ:K b G) :
  ς P (Op.equalIn (n+2) ty (.agg vs) (.agg ws)) G K E:=by
 obtain⟨_,_,Ξ⟩:=Ξ;rcases Ξ with⟨df,hu,cH,dD,pq⟩|⟨m,e,d,f,hu,he,ν,Τ,cv,dD⟩
 ·unfold Op.equalIn;refine ς.bind' (ς.underlying hu ?_);simp only;refine ς.bind' ?_;show ς P (if P.stoodInHeld ty=true then _ else _) G K E;rw[cH];simp only[Bool.false_eq_true,if_false];have key:∀(l:List Field) (c:Bool),(∀f∈l,f.name≠ "_" /\ ∃d,P.underlying f.type=some d/\ju d=true)->kh (l.map λf=>((P.underlying f.type).getD .invalid,f.offset)) xs cL=some c->
    ∀ql:Option Bool×PUnit->Α->Prop,ql (if c then none else some false,⟨⟩) G->ς P (forIn l (none,⟨⟩) λ(f:Field) (_:Option Bool×PUnit)=>if f.name≠ "_" then do
     let a <-part f.type vs f.offset
     let b <-part f.type ws f.offset
     let r <-Op.equalIn (n+1) f.type a b
     if(!r)=true then pure (ForInStep.done (some false,⟨⟩)) else pure (ForInStep.yield (none,⟨⟩))
    else pure (ForInStep.yield (none,⟨⟩))) G ql E:=by
   intro l
   induction l with
   | nil=>intro c _ ε ql U;simp[kh] at ε;subst ε;exact .forIn_nil (by simpa using U)
   | cons f l ω=>
    intro c ξ ε ql U;obtain⟨wh,d,hd,ν⟩:=ξ f ζ;simp only[List.map_cons,kh,hd,Option.getD_some] at ε;split at ε<;>try cases ε
    rename_i x y wi x';split at ε<;>try cases ε
    rename_i bC c1 lu lz;refine .forIn_cons ?_;rw[if_pos wh];refine ς.bind' (Aj hd ν (γ _ _ wi) (ς.bind' (Aj hd ν (Κ _ _ x') (ς.bind' (Hv hd ν lu ?_)))));cases bC with
    | false=>exact ς.pure' (by simpa using U)
    | true=>exact ς.pure' (ω c1 (λg Ο=>ξ g (by simp[Ο])) lz ql (by simpa using U))
  refine ς.bind' ?_;have DG:(forIn df (none,⟨⟩) λ(f:Field) (_:Option Bool×PUnit)=>if f.name≠ "_" then do
     let a <-part f.type vs f.offset
     let b <-part f.type ws f.offset
     let r <-Op.equalIn (n+1) f.type a b
     if(!r)=true then pure (ForInStep.done (some false,⟨⟩)) else pure (ForInStep.yield (none,⟨⟩))
    else pure (ForInStep.yield (none,⟨⟩)):Sem (Option Bool×PUnit))=forIn df.toList (none,⟨⟩) _:=(Array.forIn_toList ..).symm
  refine Eq.mpr (congrArg (λs=>ς P s G _ E) DG) ?_;refine key df.toList b pq (by rw[<-dD];exact h) _ ?_;cases b<;>exact ς.pure' χ
 ·unfold Op.equalIn;refine ς.bind' (ς.underlying hu ?_);simp only;refine ς.bind' (ς.sizeOf Τ ?_);rw[cv];have key:∀(l:List Nat) (c:Bool),kh (l.map λi=>(d,i)) xs cL=some c->
    ∀ql:Option Bool×PUnit->Α->Prop,ql (if c then none else some false,⟨⟩) G->ς P (forIn l (none,⟨⟩) λ(i:Nat) (_:Option Bool×PUnit)=>do
     let a <-part e vs (i*1)
     let b <-part e ws (i*1)
     let r <-Op.equalIn (n+1) e a b
     if(!r)=true then pure (ForInStep.done (some false,⟨⟩)) else pure (ForInStep.yield (none,⟨⟩))) G ql E:=by
   intro l
   induction l with
   | nil=>intro c ε ql U;simp[kh] at ε;subst ε;exact .forIn_nil (by simpa using U)
   | cons i l ω=>
    intro c ε ql U;simp only[List.map_cons,kh] at ε;split at ε<;>try cases ε
    rename_i x y wi x';split at ε<;>try cases ε
    rename_i bC c1 lu lz;refine .forIn_cons ?_;refine ς.bind' (Aj he ν (by rw[Nat.mul_one];exact γ _ _ wi) (ς.bind' (Aj he ν (by rw[Nat.mul_one];exact Κ _ _ x') (ς.bind' (Hv he ν lu ?_)))));cases bC with
    | false=>exact ς.pure' (by simpa using U)
    | true=>exact ς.pure' (ω c1 lz ql (by simpa using U))
  refine ς.bind' ?_;rw[forIn_range];refine key (List.range m) b (by rw[<-dD];exact h) _ ?_;cases b<;>exact ς.pure' χ
theorem Hx (Ι:bN P T) {ty:TypeId} {a b:η} {v w:Value} {r:Bool} (κ:av S B σ a v) (hb:av S B σ b w) (h:aeqv T ty a b=some r) {K:Bool->Α->Prop} {E:Value->Α->Prop} (χ:K r H):ς P (Op.equal ty v w) H K E:=by
 unfold aeqv at h;split at h
 ·rename_i i hi;obtain⟨⟨hu,Ξ⟩,_⟩:=Ι ty i hi;split at h
  ·split at h
   ·rename_i ν;cases κ;cases hb;exact Hv hu ν h χ
   ·cases h
  ·split at h
   ·rename_i items dD;rw[dD] at Ξ;split at h<;>try cases h
    cases κ with
    | a0 vs Ρ aa=>cases hb with
     | a0 ws k1 cp=>exact UR (Ai (.a0 vs Ρ aa)) (Ai (.a0 ws k1 cp)) Ξ h χ
   ·cases h
  ·cases h
 ·cases h
theorem MN (a b:ByteArray):(a==b)=(a.data==b.data):=by
 cases a;cases b;rfl
theorem US {a b:ByteArray} (h:(a==b)=true):a=b:=by
 rw[MN] at h;have:=eq_of_beq h;cases a;cases b;simp at this;simp[this]
theorem UT (a:ByteArray):(a==a)=true:=by rw[MN];exact beq_self_eq_true _
theorem MO {d:TypeDesc} {x y:Value} (h:m2 d x y=some true):x=y/\∀n,Instr.sameBits n x x=true:=by
 unfold m2 at h;split at h
 ·split at h
  ·rename_i e;subst e;simp only[Option.some.injEq,beq_iff_eq] at h;subst h;exact⟨rfl,λn=>by cases n<;>simp[Instr.sameBits]⟩
  ·cases h
 ·simp only[Option.some.injEq] at h;have:=US h;subst this;exact⟨rfl,λn=>by cases n<;>simp[Instr.sameBits,UT]⟩
 ·simp only[Option.some.injEq,beq_iff_eq] at h;subst h;exact⟨rfl,λn=>by cases n<;>simp[Instr.sameBits]⟩
 ·cases h
theorem UU {xs cL:List η}:∀(items:List (TypeDesc×Nat)),kh items xs cL=some true->∀o,o∈items.map (·.2)->∃x,xs[o]?=some (.z x)/\cL[o]?=some (.z x)/\∀n,Instr.sameBits n x x=true:=by
 intro items
 induction items with
 | nil=>intro _ o ψ;simp at ψ
 | cons a items ω=>
  obtain⟨d,p⟩:=a;intro h o ψ;simp only[kh] at h;split at h<;>try cases h
  rename_i x y wi x';split at h<;>try cases h
  rename_i b c hb ε;simp only[Option.some.injEq,Bool.and_eq_true] at h;obtain⟨rfl,rfl⟩:=h;simp only[List.map_cons,List.mem_cons] at ψ;rcases ψ with rfl|ψ
  ·obtain⟨Γ,Δ⟩:=MO hb;subst Γ;exact⟨x,wi,x',Δ⟩
  ·exact ω ε o ψ
theorem UW (Ι:bN P T) {ty:TypeId} {a b:η} {v w:Value} (κ:av S B σ a v) (hb:av S B σ b w) (h:aeqv T ty a b=some true):v=w/\a=b/\∀n,Instr.sameBits (n+1) v v=true:=by
 unfold aeqv at h;split at h
 ·rename_i i hi;obtain⟨⟨hu,Ξ⟩,_⟩:=Ι ty i hi;split at h
  ·split at h
   ·obtain⟨Γ,Δ⟩:=MO h;subst Γ;cases κ;cases hb;exact⟨rfl,rfl,λn=>Δ _⟩
   ·cases h
  ·rename_i xs cL;split at h
   ·rename_i items dD;rw[dD] at Ξ;split at h<;>try cases h
    rename_i hlen;obtain⟨J,U⟩:=hlen;have ya:=Ξ.2.1;have get:∀o,o<items.length->∃x,xs[o]?=some (.z x)/\cL[o]?=some (.z x)/\∀n,Instr.sameBits n x x=true:=λo ψ=>UU items h o (by rw[ya];simpa using ψ);have yb:xs=cL:=by
     apply List.ext_getElem?;intro o;by_cases ψ:o<items.length
     ·obtain⟨x,Ρ,aa,_⟩:=get o ψ;rw[Ρ,aa]
     ·rw[List.getElem?_eq_none R,List.getElem?_eq_none R]
    cases κ with
    | a0 vs Ρ aa=>cases hb with
     | a0 ws k1 cp=>
      have MP:∀o,o<items.length->∃x,vs[o]?=some x/\ws[o]?=some x/\∀n,Instr.sameBits n x x=true:=λo ψ=>by
       obtain⟨x,c1,c2,c3⟩:=get o ψ;exact⟨x,Ai (.a0 vs Ρ aa) o x c1,Ai (.a0 ws k1 cp) o x c2,c3⟩
      have qm:vs=ws:=by
       apply Array.ext_getElem?;intro o;by_cases ψ:o<items.length
       ·obtain⟨x,c1,c2,_⟩:=MP o ψ;rw[c1,c2]
       ·rw[Array.getElem?_eq_none R,Array.getElem?_eq_none R]
      subst qm;refine⟨rfl,by rw[yb],λn=>?_⟩;simp only[Instr.sameBits,beq_self_eq_true,Bool.true_and,List.all_eq_true];intro p π;obtain⟨o,ψ⟩:=List.getElem?_of_mem π;rw[List.getElem?_zip_eq_some] at ψ;have yc:o<items.length:=by
       have:=(bX.1 ψ.1).1;simp at this;omega
      obtain⟨x,c1,_,c3⟩:=MP o yc;rw[Array.getElem?_toList,c1] at ψ;obtain⟨Γ,Δ⟩:=ψ;cases Γ;rw[<-Option.some.inj Δ];exact c3 n
   ·cases h
  ·cases h
 ·cases h
end
end Go.TL
