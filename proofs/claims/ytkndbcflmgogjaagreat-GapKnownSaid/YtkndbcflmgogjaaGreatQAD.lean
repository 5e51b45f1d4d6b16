import Derived.IntWalk
import Derived.Laws.Sem
import Derived.Test.YtkndbcflmgogjaaGreatQAC
set_option maxHeartbeats 16000000
set_option maxRecDepth 20000
set_option linter.unusedSectionVars false
set_option linter.unusedSimpArgs false
set_option linter.unusedVariables false
namespace Go.TL
open Go.Conc
section
variable {P:Program} {T:Z2} {S:ς} {B:δ} {H:Υ} {σ:Ρ}
def Ie (σ:Ρ) (a:Ψ):Zi:=if a.cells.all (Ψ.YW σ)=true then .ok (.Ν a.cells) σ else .bad
def LQ (a:Ψ):Zl:=if a.cells.all (Ψ.YW [])=true then .ok (.Ν a.cells) else .bad
def LP (t:TypeId) (σ:Ρ) (a:Ψ):Zi:=if a.cells.all (Ψ.YW σ)=true then .ok (.π σ.length 1 0 0) (σ++[.cells t a.cells.length [a]]) else .bad
theorem Fz (d:Holds S B σ H) (b:TypeId) {a:Ψ} {v:Value} (e:Θ S B σ a v) (f:a.cells.all (Ψ.YW σ)=true):Zv P (do pure (.pointer (some (<-newVar b v)))) S B H σ (.ok (.Ν a.cells) σ):=by
 intro K g;refine Χ.bind' ?_;unfold newVar newRow;refine Χ.bind' (LR d v.cells b λr h i c=>Χ.pure' (Χ.pure' ⟨_,_,_,_,g,i,h,c,?_⟩));exact Cn c (Xo.one e f)
theorem xf (c:Holds S B σ H) (b:TypeId) {a:Ψ} {v:Value} (d:Θ S B σ a v):Zv P (Instr.box b v) S B H σ (Ie σ a):=by
 unfold Ie;split
 .rename_i e;exact Fz c b d e
 .exact .bad
theorem xe (c:Holds S B σ H) (b:TypeId) {a:Ψ} {v:Value} (d:Θ S B σ a v):Zv P (Instr.box b v) S B H σ ((LQ a).YX σ):=by
 unfold LQ;split
 .rename_i e;exact Fz c b d (LS e)
 .exact .bad
theorem Cm (d:Holds S B σ H) (c:TypeId) {a:Ψ} {v:Value} (e:Θ S B σ a v):Zv P (do pure (.pointer (some (<-newVar c v)))) S B H σ (LP c σ a):=by
 unfold LP;split
 .rename_i f;intro K g;refine Χ.bind' ?_;unfold newVar newRow;refine Χ.bind' (M5 d (Xo.one e f) c λr _ h m o=>Χ.pure' (Χ.pure' ⟨_,_,_,_,g,m,h,o,?_⟩));have:=Θ.π (S:=S) (B:=B++[some (r,v.cells.size)]) (σ:=σ++[.cells c a.cells.length [a]]) (id:=σ.length) (n:=1) (i:=0) (j:=0) (k:=a.cells.length) (t:=c) (l:=[a]) (b:=r) (N:=v.cells.size) Ω U (by rw[<-d.len];simp);simpa using this
 .exact .bad
theorem xd (c:Holds S B σ H) (b:TypeId) {a:Ψ} {v:Value} (d:Θ S B σ a v):Zv P (Instr.box b v) S B H σ (LP b σ a):=Cm c b d
def Ic (T:Z2) (a:TypeId) (σ:Ρ):Zi:=match T a with|some i=>LP a σ (Wh i.zero)|none=>.bad
def Ib (T:Z2) (a:TypeId):Zl:=match T a with|some i=>LQ (Wh i.zero)|none=>.bad
theorem xc (b:ZL P T) (c:Holds S B σ H) (a:TypeId):Zv P (Instr.alloc a true (.tuple #[])) S B H σ (Ic T a σ):=by
 unfold Ic;cases hi:T a with
 | none=>exact .bad
 | some i=>
  intro K d;unfold Instr.alloc;exact Χ.bind' (b.zero hi (Cm c a (QU i.zero) K d))
theorem xb (b:ZL P T) (c:Holds S B σ H) (a:TypeId):Zv P (Instr.alloc a true (.tuple #[])) S B H σ ((Ib T a).YX σ):=by
 unfold Ib;cases hi:T a with
 | none=>exact .bad
 | some i=>
  simp only[LQ];split
  .rename_i d;intro K e;unfold Instr.alloc;exact Χ.bind' (b.zero hi (Fz c a (QU i.zero) (LS d) K e))
  .exact .bad
def P2 (b:Nat->Option (Nat×Nat×Nat)) (k:Nat) (c:Ψ->Bool) (l:ψ):List (Nat×Ψ)->Option (ψ)
 | []=>some l
 |(x,a)::r=>match b x with
  | some (i,j,n)=>match l[i]? with
   | some e=>if a.cells.length=n/\j+n<=k/\a.cells.all c=true then P2 b k c (l.set i (e.O4 j a.cells)) r else none
   | none=>none
  | none=>none
theorem Fy {k:Nat} {m:Ψ->Bool} (w:∀a:Ψ,m a=true->a.YW σ=true) {r:Nat->Option (Nat×Nat×Nat)} {place:Nat->Option (Nat×Nat)} (y:∀x i j n,r x=some (i,j,n)->place x=some (i*k+j,n)) {env:Β} {t:ν} (A:Zg S B σ env t) :
  ∀(b:List (Nat×Operand)) (c:ν) (l d:ψ),Xo S B σ c k l->P2 r k m l (b.map λp=>(p.1,ο env p.2))=some d->
  ∃c',Instr.fill place c (b.map λp=>(p.1,ZW t p.2))=some c'/\c'.size=c.size/\Xo S B σ c' k d/\d.length=l.length:=by
 intro b
 induction b with
 | nil=>intro c l d f h;cases h;exact⟨c,rfl,rfl,f,rfl⟩
 | cons p b C=>
  obtain⟨x,o⟩:=p;intro c l d f h;simp only[V6,P2] at h;split at h<;>try cases h
  rename_i i j n D;split at h<;>try cases h
  rename_i e s;split at h<;>try cases h
  rename_i E;obtain⟨O,P,u⟩:=E;have g:=TH A o;have v:(ο env o).cells.all (Ψ.YW σ)=true:=by
   rw[XJ] at u ⊢;exact λa g=>w a (u a g)
  obtain⟨Q,_⟩:=g.cells v;obtain⟨F,H⟩:=f.put s g v (by omega:j+(ο env o).cells.length<=k);obtain⟨c',I,J,K,L⟩:=C _ _ _ H h;refine⟨c',?_,by rw[J,F],K,by rw[L];simp⟩;have M:i<l.length:=(ZR.1 s).1;have R:i*k+j+(ZW t o).cells.size<=c.size:=by
   have N:(i+1)*k<=l.length*k:=Vo k M
   have T:=f.1;rw[XF] at N;omega
  simp only[V6,Instr.fill,y x i j n D];have c1:((ZW t o).cells.size≠n)=False:=by simp;omega
  have c2:(i*k+j+(ZW t o).cells.size > c.size)=False:=by simp;omega
  simp only[bne_iff_ne,ne_eq,Bool.or_eq_true,decide_eq_true_eq,c1,c2];simp only[ne_eq] at c1;simp only[c1,or_self,if_false];exact I
def Cl (T:Z2) (a:Array Field):Option (List (Nat×Nat)):=a.toList.mapM λf=>(T f.type).map λi=>(f.offset,i.size)
theorem xa (g:ZL P T) {K:Array (Nat×Nat)->Υ->Prop} {E:Value->Υ->Prop} {c:Array Field} {l:List (Nat×Nat)} (h:Cl T c=some l) (b:K l.toArray H) :
  Χ P (c.mapM λf=>(do pure (f.offset,<-sizeOf f.type):Sem (Nat×Nat))) H K E:=by
 have j:∀(a:List Field) (l:List (Nat×Nat)) (K:List (Nat×Nat)->Υ->Prop),(a.mapM λf=>(T f.type).map λi=>(f.offset,i.size))=some l->K l H->Χ P (a.mapM λf=>(do pure (f.offset,<-sizeOf f.type):Sem (Nat×Nat))) H K E:=by
  intro a
  induction a with
  | nil=>intro l K h b;simp at h;subst h;exact Χ.pure' b
  | cons f a k=>
   intro l K h b;rw[List.mapM_cons] at h ⊢;cases d:T f.type with
   | none=>rw[d] at h;cases h
   | some i=>
    rw[d] at h;simp only[Option.map_some,Option.bind_eq_bind,Option.bind_some] at h;cases e:(a.mapM λf=>(T f.type).map λi=>(f.offset,i.size)) with
    | none=>rw[e] at h;cases h
    | some l2=>
     rw[e] at h;cases h;refine Χ.bind' (Χ.bind' (g.size d (Χ.pure' ?_)));refine Χ.bind' (k l2 _ e ?_);exact Χ.pure' b
 rw[Array.mapM_eq_mapM_toList];exact Χ.bind (c.toList.mapM _) (j c.toList l _ h (Χ.pure' b))
def Ur (T:Z2) (a:Ψ->Bool) (c:TypeId) (parts:List (Nat×Ψ)):Zl:=match T c with
 | some i=>
  let z:=Wh i.zero
  if z.cells.length=i.zero.cells.size/\z.cells.all (Ψ.YW [])=true then match i.Z3 with
   | .struct d=>match Cl T d with
    | some f=>match P2 (λx=>(f[x]?).map λp=>(0,p.1,p.2)) z.cells.length a [z] parts with
     | some [e]=>.ok (.Z6 e.cells)
     | _=>.bad
    | none=>.bad
   | .array _ el=>match T el with
    | some b=>match P2 (λx=>some (0,x*b.size,b.size)) z.cells.length a [z] parts with
     | some [e]=>.ok (.Z6 e.cells)
     | _=>.bad
    | none=>.bad
   | _=>.bad
  else .bad
 | none=>.bad
theorem Ck {c:ν} {k:Nat} {e:Ψ} (h:Xo S B σ c k [e]) (d:c.size=k):Θ S B σ (.Z6 e.cells) (.agg c):=by
 obtain⟨f,g⟩:=h.2 0 e U;refine .Z6 c (by rw[f,d]) λj a v i hv=>?_;obtain⟨x,b,l,_⟩:=g j a i;rw[Nr,V5,hv] at b;cases b;exact l
theorem Cj (b:ZL P T) (s:Holds S B σ H) {u:Ψ->Bool} (v:∀a:Ψ,u a=true->a.YW σ=true) (c:TypeId) {env:Β} {t:ν} (w:Zg S B σ env t) (parts:Array (Nat×Operand)) :
  Zv P (Instr.build c (parts.map λ(i,x)=>(i,ZW t x))) S B H σ ((Ur T u c (parts.toList.map λp=>(p.1,ο env p.2))).YX σ):=by
 unfold Ur;cases hi:T c with
 | none=>exact .bad
 | some i=>
  simp only;split
  .rename_i F;obtain⟨y,I⟩:=F;have A:Xo S B σ i.zero.cells (Wh i.zero).cells.length [Wh i.zero]:=Xo.one (QU i.zero) (LS I);have C:(parts.map λ(i,x)=>(i,ZW t x)).toList=parts.toList.map λp=>(p.1,ZW t p.2):=Ω;split
   .rename_i M d;split
    .rename_i D J;split
     .rename_i e f;intro K g;unfold Instr.build;refine Χ.bind' (b.zero hi (Χ.bind' (b.Z3 hi ?_)));rw[d];refine Χ.bind' (xa b J ?_);obtain⟨c',k,l,o,_⟩:=Fy (place:=(D.toArray[·]?)) v (λx i j n h=>by
       cases r:D[x]? with
       | none=>rw[r] at h;cases h
       | some p=>rw[r] at h;cases h;simp[r]) w parts.toList _ _ _ A f
      rw[C,k];exact Χ.pure' (.same s g (Ck o (by rw[l,y])))
     .exact .bad
    .exact .bad
   .rename_i m el d;split
    .rename_i E L;split
     .rename_i e f;intro K g;unfold Instr.build;refine Χ.bind' (b.zero hi (Χ.bind' (b.Z3 hi ?_)));rw[d];refine Χ.bind' (b.size L ?_);obtain⟨c',k,l,o,_⟩:=Fy (place:=λi=>some (i*E.size,E.size)) v (λx i j n h=>by
       simp at h;obtain⟨rfl,rfl,rfl⟩:=h;simp) w parts.toList _ _ _ A f
      rw[C,k];exact Χ.pure' (.same s g (Ck o (by rw[l,y])))
     .exact .bad
    .exact .bad
   .exact .bad
  .exact .bad
def Kn (T:Z2) (b:Ψ->Bool) (c:TypeId) (len:Nat) (parts:List (Nat×Ψ)):Option (TypeId×Nat×ψ):=match WZ T c with
 | some (e,k,none)=>match T e with
  | some a=>if 0<k/\len*k<=2 ^ 24/\(Wh a.zero).cells.length=k/\(Wh a.zero).cells.all (Ψ.YW [])=true then
    (P2 (λx=>some (x,0,k)) k b (List.replicate len (Wh a.zero)) parts).map λl=>(e,k,l) else none
  | none=>none
 | _=>none
theorem Ci (o:ZL P T) {s:Ψ->Bool} (M:∀a:Ψ,s a=true->a.YW σ=true) {A e:TypeId} {len k:Nat} {l:ψ} {env:Β} {t:ν} (N:Zg S B σ env t) {parts:Array (Nat×Operand)}
  (h:Kn T s A len (parts.toList.map λp=>(p.1,ο env p.2))=some (e,k,l)) {K:Value->Υ->Prop} {E:Value->Υ->Prop}
  (C:∀c:ν,Xo S B σ c k l->l.length=len->Χ P (newObj (.cells c e)) H (λr H'=>K (.slice (some ⟨r,0,none⟩) len len) H') E) :
  Χ P (Instr.buildSlice A len (parts.map λ(i,x)=>(i,ZW t x))) H K E:=by
 unfold Kn at h;split at h<;>try cases h
 rename_i af D O;split at h<;>try cases h
 rename_i g u;split at h<;>try cases h
 rename_i Q;obtain⟨ag,ah,R,V⟩:=Q;obtain⟨i,ai,hi,W,F,X⟩:=Ik O;rw[u] at F;cases F;cases v:P2 (λx=>some (x,0,D)) D s (List.replicate len (Wh g.zero)) (parts.toList.map λp=>(p.1,ο env p.2)) with
 | none=>rw[v] at h;cases h
 | some aj=>
  rw[v] at h;cases h;unfold Instr.buildSlice;refine Χ.bind' (o.Z3 hi ?_);rw[W];refine Χ.bind' (o.size u ?_);rw[X];have Y:¬(len*k > 2 ^ 24):=I;simp only[Y,if_false];have Z:(parts.map λ(i,x)=>(i,ZW t x)).toList=parts.toList.map λp=>(p.1,ZW t p.2):=Ω;have J:∀b:ν,(len=0\/b=g.zero.cells)->∃c',Instr.fill (λi=>some (i*k,k)) ((Array.range (len*k)).map (b[· % b.size]!)) (parts.map λ(i,x)=>(i,ZW t x)).toList=some c'/\Xo S B σ c' k l/\l.length=len:=λb w=>by
   have aa:Xo S B σ ((Array.range (len*k)).map (b[· % b.size]!)) k (List.replicate len (Wh g.zero)):=by
    rcases w with rfl|w
    .exact⟨Ω,λi e hi=>by simp at hi⟩
    .exact Xo.ZT (QU g.zero) (LS V) R (ZY _) b w
   obtain⟨c',d,m,f,ab⟩:=Fy (place:=λi=>some (i*k,k)) M (λx i j n h=>by
    simp at h;obtain⟨rfl,rfl,rfl⟩:=h;simp) N parts.toList _ _ _ aa v
   rw[Z];exact⟨c',d,f,by rw[ab];simp⟩
  by_cases L:len=0
  .obtain⟨c',d,m,f⟩:=J #[] (.inl L);have ad:len*k=0:=by rw[L];simp
   rw[if_pos ad];refine Χ.bind' (Χ.pure' ?_);rw[d];exact Χ.bind' (C c' m f)
  .have ae:len*k≠0:=by
    intro y;rcases Nat.mul_eq_zero.1 y with y|y<;>omega
   obtain⟨c',d,m,f⟩:=J _ (.inr U);rw[if_neg ae];refine Χ.bind' (o.zero u ?_);refine Χ.bind' (Χ.pure' ?_);rw[d];exact Χ.bind' (C c' m f)
def Km (T:Z2) (a:Ψ->Bool) (b:TypeId) (len:Nat) (parts:List (Nat×Ψ)):Zl:=match Kn T a b len parts with
 | some (_,k,l)=>.ok (.sl true k l)
 | none=>.bad
def Ia (T:Z2) (a:TypeId) (len:Nat) (parts:List (Nat×Ψ)) (σ:Ρ):Zi:=match Kn T (Ψ.YW σ) a len parts with
 | some (e,k,l)=>.ok (.ms σ.length len 0 len) (σ++[.cells e k l])
 | none=>.bad
theorem Ch (j:ZL P T) (m:Holds S B σ H) {b:Ψ->Bool} (n:∀a:Ψ,b a=true->a.YW σ=true) (d:TypeId) (len:Nat) {env:Β} {t:ν} (o:Zg S B σ env t) (parts:Array (Nat×Operand)) :
  Zv P (Instr.buildSlice d len (parts.map λ(i,x)=>(i,ZW t x))) S B H σ ((Km T b d len (parts.toList.map λp=>(p.1,ο env p.2))).YX σ):=by
 unfold Km;split
 .rename_i e k l h;intro K s;refine Ci j n o h λc u f=>LR m c e λr v w g=>⟨_,_,_,_,s,w,v,g,?_⟩;have:=Ig (cap:=len) true g u I (λ_=>f.symm);rw[f] at this;exact this
 .exact .bad
theorem Cg {r n k:Nat} {t:TypeId} {l:ψ} (b:B.length=σ.length) (c:ν) (d:l.length*k<=c.size) (a:l.length=n):Θ S (B++[some (r,c.size)]) (σ++[.cells t k l]) (.ms σ.length n 0 n) (.slice (some ⟨r,0,none⟩) n n):=by
 have:=Θ.ms (S:=S) (B:=B++[some (r,c.size)]) (σ:=σ++[.cells t k l]) (id:=σ.length) (n:=n) (i:=0) (len:=n) (t:=t) (k:=k) (l:=l) (bo:=some (r,c.size)) (base:=some ⟨r,0,none⟩) n Ω a (by rw[<-b];simp) I I (.inr ⟨r,c.size,U,Ω,by subst a;simpa using d⟩);exact this
theorem w9 (g:ZL P T) (b:Holds S B σ H) (d:TypeId) (len:Nat) {env:Β} {t:ν} (j:Zg S B σ env t) (parts:Array (Nat×Operand)) :
  Zv P (Instr.buildSlice d len (parts.map λ(i,x)=>(i,ZW t x))) S B H σ (Ia T d len (parts.toList.map λp=>(p.1,ο env p.2)) σ):=by
 unfold Ia;split
 .rename_i e k l h;intro K m;exact Ci g (λa h=>h) j h λc f n=>M5 b f e λr _ o s u=>⟨_,_,_,_,m,s,o,u,Cg b.len c f.1 n⟩
 .exact .bad
def LO (T:Z2) (d:TypeId) (a b:Ψ):Option (TypeId×Nat×Ψ×Int×Int):=match WZ T d,a,b with
 | some (e,k,none),.z (.int _ n),.z (.int _ m)=>match T e with
  | some c=>if 0<k/\(Wh c.zero).cells.length=k/\(Wh c.zero).cells.all (Ψ.YW [])=true then some (e,k,Wh c.zero,n,c.bytes) else none
  | none=>none
 | _,_,_=>none
end
section
variable {P:Program} {T:Z2} {S:ς} {B:δ} {H:Υ} {σ:Ρ}
theorem Fx (d:ZL P T) {o e:TypeId} {k:Nat} {z:Ψ} {n bytes:Int} {a b:Ψ} {u v:Value} (A:Θ S B σ a u) (C:Θ S B σ b v) (h:LO T o a b=some (e,k,z,n,bytes)) (D:∀kk m,b=.z (.int kk m)->m=n) (F:0<=n/\0<bytes/\bytes*n<=2 ^ 48) {K:Value->Υ->Prop} {E:Value->Υ->Prop}
  (p:∀c:ν,Xo S B σ c k (List.replicate n.toNat z)->Χ P (newObj (.cells c e)) H (λr H'=>K (.slice (some ⟨r,0,none⟩) n.toNat n.toNat) H') E) :
  Χ P (Instr.makeSlice o u v) H K E:=by
 unfold LO at h;split at h<;>try cases h
 rename_i Z aa ab ad ae m J;split at h<;>try cases h
 rename_i j g;split at h<;>try cases h
 rename_i L;obtain⟨af,M,N⟩:=L;cases A;cases C;have O:=D _ _ U;subst O;obtain⟨i,ag,hi,Q,s,R⟩:=Ik J;rw[g] at s;cases s;obtain⟨V,ah,ai⟩:=F;have aj:m<=2 ^ 48:=by
  have:1*m<=(j.bytes:Int)*m:=Int.mul_le_mul_of_nonneg_right I V;omega
 have W:IntKind.i64.wrap m=m:=IntWalk.i64_in m ⟨I,I⟩;unfold Instr.makeSlice;refine Χ.bind' (d.Z3 hi ?_);rw[Q];refine Χ.bind' (Χ.bind' (Χ.pure' (Χ.pure' ?_)));refine Χ.bind' (Χ.bind' (Χ.pure' (Χ.pure' ?_)));refine Χ.bind' (d.info g λf X=>?_);simp only[W,X];have c1:¬m<0:=I;have c2:¬((j.bytes:Int)*m > 2 ^ 48):=I;have Y:¬m > m:=I;simp only[c1,c2,Y,decide_false,Bool.or_false,Xq,if_false];refine Χ.bind' ?_;have t:Χ P (do
   let w <-(do pure (m.toNat*(<-sizeOf e)):Sem Nat)
   let x <-if w=0 then pure #[] else do pure (<-zeroValue e).cells
   let a <-newRow e ((Array.range w).map (x[· % x.size]!))
   pure (.slice (some a) m.toNat m.toNat)) H K E:=by
  refine Χ.bind' (Χ.bind' (d.size g (Χ.pure' ?_)));rw[R];by_cases l:m.toNat*k=0
  .rw[if_pos l];refine Χ.bind' (Χ.pure' ?_);refine Χ.bind' (Χ.bind' ?_);refine p _ ?_;rcases Nat.mul_eq_zero.1 l with y|y
   .rw[y];exact⟨Ω,λi e hi=>by simp at hi⟩
   .omega
  .rw[if_neg l];refine Χ.bind' (d.zero g ?_);refine Χ.bind' (Χ.pure' ?_);refine Χ.bind' (Χ.bind' ?_);exact p _ (Xo.ZT (QU j.zero) (LS N) M (ZY _) _ U)
 unfold askRoom;split
 .refine⟨.inl U,?_⟩;show Χ P _ H K E;have:=t;simpa using this
 .refine Χ.pure' ?_;show Χ P _ H K E;have:=t;simpa using this
def H9 (T:Z2) (c:TypeId) (a b:Ψ) (σ:Ρ):Zi:=match LO T c a b,b with
 | some (e,k,z,n,bytes),.z (.int _ m)=>.ZD (m=n/\0<=n/\0<bytes/\bytes*n<=2 ^ 48) (.ok (.ms σ.length n.toNat 0 n.toNat) (σ++[.cells e k (List.replicate n.toNat z)]))
 | _,_=>.bad
theorem w8 (i:ZL P T) (d:Holds S B σ H) {f:TypeId} {a b:Ψ} {u v:Value} (j:Θ S B σ a u) (l:Θ S B σ b v):Zv P (Instr.makeSlice f u v) S B H σ (H9 T f a b σ):=by
 unfold H9;split
 .rename_i e k z n bytes kk m h;refine .ZD λ⟨o,p⟩ K s=>?_;refine Fx i j l h (λA C t=>by cases t;exact o) p λc g=>M5 d g e λr _ w x y=>⟨_,_,_,_,s,x,w,y,?_⟩;exact Cg d.len c g.1 Ω
 .exact .bad
def O3 (T:Z2) (c:TypeId) (a b:Ψ) (σ:Ρ):Zi:=match σ with
 | .cells t d []::τ=>match LO T c a b,b with
  | some (e,k,z,n,bytes),.z (.int _ m)=>if t=e/\d=k then .ZD (m=n/\0<=n/\0<bytes/\bytes*n<=2 ^ 48) (.ok (.ms 0 n.toNat 0 n.toNat) (.cells e k (List.replicate n.toNat z)::τ)) else .bad
  | _,_=>.bad
 | _=>.bad
theorem w7 (V:ZL P T) (f:Holds S B σ H) {D:TypeId} {a b:Ψ} {u v:Value} (W:Θ S B σ a u) (p:Θ S B σ b v):Zv P (Instr.makeSlice D u v) S B H σ (O3 T D a b σ):=by
 unfold O3;split
 .rename_i t s τ;split
  .rename_i e k z n bytes kk m h;split
   .rename_i d;obtain⟨rfl,rfl⟩:=d;refine .ZD λ⟨X,Y⟩ K g=>?_;refine Fx V W p h (λah ai Z=>by cases Z;exact X) Y λc d=>?_;obtain⟨bo,w⟩:=Ue f (id:=0) U;by_cases E:n.toNat=0
    .rw[E] at g;refine LR f c _ λr y A C=>⟨_,_,_,_,g,A,y,C,?_⟩;rw[E];exact .ms 0 U U w (ZY _) (ZY _) (.inl U)
    .refine⟨U,λr F=>?_⟩;obtain⟨l,J⟩:=Z' (List.replicate n.toNat z);have L:l.length=n.toNat:=by rw[J];simp
     rw[<-J] at d g;have aa:∀b,(∀N,bo≠some (b,N))->(∀N,some (r,c.size)≠some (b,N))->Vk H (H.YH r c t) b:=λb _ p=>by
      have M:b≠r:=λe=>by subst e;exact p _ U
      exact⟨λo=>by simp[Υ.YH,M],by simp[Υ.YH,M],U⟩
     obtain⟨y,A,C⟩:=f.Sc (id:=0) (r':=.cells t s l) (bo':=some (r,c.size)) (H':=H.YH r c t) U trivial w (.inr λq O=>by simp at O;subst O;show 0<l.length;omega) (λb N e=>by cases e;exact .inr F) aa (Υ.FF F c t) (M6 f U) (λab=>by
      have Q:=d.later ab;refine⟨by simp[Υ.YH],d.1,λo ad=>⟨c[o],by simp[Υ.YH,ad]⟩,λi j=>(c[i*s+j]?).getD undef,λi e hi=>⟨(Q.2 i e hi).1,λj a ae=>?_⟩⟩;obtain⟨x,R,af,ag⟩:=(Q.2 i e hi).2 j a ae;simp only[R,Option.getD_some];exact⟨by simp[Υ.YH,R],af,ag⟩)
     refine⟨_,_,_,_,g,A,y,C,?_⟩;refine .ms n.toNat (t:=t) (k:=s) (l:=l) (bo:=some (r,c.size)) U L (by rw[Xs (ZR.1 w).1]) I I (.inr ⟨r,c.size,U,Ω,?_⟩);have:=d.1;rw[L] at this;simpa using this
   .exact .bad
  .exact .bad
 .exact .bad
theorem w6 {T:Z2} {c:TypeId} {a b:Ψ} {r r':Row} {p:Prop} {x:Ψ} (h:O3 T c a b [r]=.ZD p (.ok x [r'])) (τ:Ρ):O3 T c a b (r::τ)=.ZD p (.ok x (r'::τ)):=by
 unfold O3 at h ⊢;split at h
 .rename_i t i j d;cases d;split at h
  .rename_i e k z n bytes kk m f;split at h
   .rename_i g;cases h;simp only[g,and_self,if_true,f]
   .cases h
  .cases h
 .cases h
def H8 (T:Z2) (c:TypeId) (a b:Ψ):Zl:=match LO T c a b,b with
 | some (_,k,z,n,bytes),.z (.int _ m)=>.ZD (m=n/\0<=n/\0<bytes/\bytes*n<=2 ^ 48) (.ok (.sl true k (List.replicate n.toNat z)))
 | _,_=>.bad
theorem w5 (g:ZL P T) (i:Holds S B σ H) {d:TypeId} {a b:Ψ} {u v:Value} (j:Θ S B σ a u) (l:Θ S B σ b v):Zv P (Instr.makeSlice d u v) S B H σ ((H8 T d a b).YX σ):=by
 unfold H8;split
 .rename_i e k z n bytes kk m h;refine Zv.ZD (r:=(Zl.ok (.sl true k (List.replicate n.toNat z))).YX σ) λ⟨o,p⟩ K s=>?_;refine Fx g j l h (λA C t=>by cases t;exact o) p λc w=>LR i c e λr x y f=>⟨_,_,_,_,s,y,x,f,?_⟩;have:=Ig (cap:=n.toNat) true f w Ω (λ_=>Ω);simpa using this
 .exact .bad
def Reads (H:Υ) (base:Option Addr) (m:Nat) (w:Nat->Value):Prop:=m=0\/∃b o,base=some ⟨b,o,none⟩/\∀j,j<m->∃p,H.ω b (o+j)=some (w j,p)
theorem Cf {base:Option Addr} {k n cap:Nat} {len:Nat} {w:Nat->Value} (h:Reads H base (n*k) w) {K:ν->Υ->Prop} {E:Value->Υ->Prop} (c:K ((List.range (n*k)).map w).toArray H) :
  Χ P (Builtin.firstCells k n (.slice base len cap)) H K E:=by
 rcases h with h|⟨b,o,rfl,h⟩
 .rw[h] at c;cases base with
  | none=>exact Χ.pure' c
  | some a=>
   show Χ P (loadCells a (n*k)) H K E;rw[h];exact Χ.pure' c
 .exact Χ.loadCells w U h c
theorem wZ {a b:Nat} (h:b<a):Builtin.nextslicecap a b<=2*a+768:=by
 unfold Builtin.nextslicecap;have grow:∀r c,c<=2*a+768->Builtin.growBy a r c<=2*a+768:=by
  intro r
  induction r with
  | zero=>intro c d;exact d
  | succ r e=>
   intro c d;unfold Builtin.growBy;split
   .exact d
   .exact e _ I
 split
 .omega
 .split
  .omega
  .exact grow 4 b I
def V2.isInt (i:V2):Bool:=i.Z3 matches .int _
def VT (T:Z2) (st xt:TypeId):Option (TypeId×Nat×V2):=match WZ T st,T xt with
 | some (e,k,none),some b=>match T e with
  | some a=>if 0<k/\a.zero.cells.size=k/\0<a.bytes/\a.bytes<=4096/\b.isInt=false then some (e,k,a) else none
  | none=>none
 | _,_=>none
def Src (P:Program) (H:Υ) (v:Value) (n k:Nat) (w:Nat->Value):Prop:=
 (∀(K:Nat->Υ->Prop) (E:Value->Υ->Prop),K n H->Χ P (Builtin.lenOf v) H K E)/\∀(K:ν->Υ->Prop) (E:Value->Υ->Prop),K ((List.range (n*k)).map w).toArray H->Χ P (Builtin.firstCells k n v) H K E
theorem Reads.src {base:Option Addr} {n k cap:Nat} {w:Nat->Value} (h:Reads H base (n*k) w):Src P H (.slice base n cap) n k w:=⟨λ_ _ h=>Χ.pure' h,λ_ _ a=>Cf h a⟩
theorem Kl (c:ZL P T) {st xt v e:TypeId} {k:Nat} {g:V2} (h:VT T st xt=some (e,k,g)) {base:Option Addr} {sLen b n:Nat} {j:Value} {wo l:Nat->Value} (w:Reads H base (sLen*k) wo) (m:Src P H j n k l) (Y:sLen+n<=4294967296) {K:Value->Υ->Prop} {E:Value->Υ->Prop}
  (x:sLen+n<=b->Χ P (match base with|some a=>storeCells (a.add (sLen*k)) ((List.range (n*k)).map l)|none=>pure ()) H (λ_ H'=>K (.slice base (sLen+n) b) H') E)
  (y:b<sLen+n->∀o,sLen+n<=o->Χ P (newObj (.cells (((List.range (sLen*k)).map wo).toArray++((List.range (n*k)).map l).toArray++Builtin.zeroCells g.zero.cells (o-(sLen+n))) e)) H (λr H'=>K (.slice (some ⟨r,0,none⟩) (sLen+n) o) H') E) :
  Χ P (Builtin.append_ #[st,xt] v #[.slice base sLen b,j]) H K E:=by
 unfold VT at h;split at h<;>try cases h
 rename_i Z aa ab A B;split at h<;>try cases h
 rename_i C d;split at h<;>try cases h
 rename_i D;obtain⟨ad,ae,af,F,p⟩:=D;obtain⟨i,C,hi,J,s,L⟩:=Ik A;rw[d] at s;cases s;unfold Builtin.append_;simp only[List.getElem?_toArray,List.getElem?_cons_zero,List.getElem?_cons_succ];refine Χ.bind' (c.Z3 hi ?_);rw[J];refine Χ.bind' (c.size d ?_);rw[L];refine Χ.bind' (Χ.bind' (c.Z3 B ?_));split
 .rename_i M;unfold V2.isInt at p;rw[M] at p;cases p
 refine Χ.bind' (Χ.pure' ?_);simp only[Xq,if_false,Bool.not_false,if_true];refine Χ.bind' (m.1 _ _ ?_);split
 .rename_i N;refine Χ.bind' (m.2 _ _ ?_);have:=x N;cases base with
  | none=>exact this
  | some a=>exact Χ.bind' this
 .rename_i ag;have t:b<sLen+n:=I;refine Χ.bind' (c.info d λf O=>?_);have Q:¬(((sLen+n:Nat):Int) > IntKind.i64.max/\(False\/f.bytes=0)):=by rw[O];rintro⟨_,h|h⟩;exact h;omega
  simp only[Q,if_false];refine Χ.bind' (c.info d λf2 R=>?_);have c1:¬(Builtin.nextslicecap (sLen+n) b*f2.bytes > 2 ^ 48):=by
   rw[R];have S:=wZ t;have ah:Builtin.nextslicecap (sLen+n) b*g.bytes<=(2*(sLen+n)+768)*4096:=Nat.mul_le_mul S F;omega
  simp only[c1,if_false];refine Χ.bind' ?_;show Χ P (choose _) H _ E;unfold choose;simp only[Χ];have V:(Question.appendCap (sLen+n) b e).forced=false:=rfl;rw[V];simp only[Xq,if_false];intro q;refine Χ.bind' (c.info d λf3 ai=>?_);have u:Χ P (do
    let W <-Builtin.firstCells k sLen (.slice base sLen b)
    let X <-Builtin.firstCells k n j
    let rest <-(do pure (Builtin.zeroCells (<-zeroValue e).cells ((Question.appendCap (sLen+n) b e).cut q-(sLen+n))):Sem (ν))
    pure (.slice (some (<-newRow e (W++X++rest))) (sLen+n) ((Question.appendCap (sLen+n) b e).cut q))) H K E:=by
   refine Χ.bind' (Cf w ?_);refine Χ.bind' (m.2 _ _ ?_);refine Χ.bind' (Χ.bind' (c.zero d (Χ.pure' ?_)));refine Χ.bind' (Χ.bind' ?_);exact y t _ (by simp[Question.cut])
  refine Χ.bind' ?_;unfold askRoom;split
  .refine⟨.inl U,?_⟩;show Χ P _ H K E;simpa using u
  .refine Χ.pure' ?_;show Χ P _ H K E;simpa using u
end
section
variable {P:Program} {T:Z2} {S:ς} {B:δ} {H:Υ} {σ:Ρ}
def R8 (σ:Ρ):Ψ->Option (Nat×ψ)
 | .sl _ k l=>some (k,l)
 | .ms id n i len=>match σ[id]? with
  | some (.cells _ k l)=>if l.length=n/\i+len<=n then some (k,(l.drop i).take len) else none
  | _=>none
 | _=>none
def N' (S:ς) (B:δ) (σ:Ρ) (w:Nat->Value) (k:Nat) (l:ψ):Prop:=∀(i:Nat) (e:Ψ),l[i]?=some e->e.cells.length=k/\∀(j:Nat) (a:Ψ),e.cells[j]?=some a->Θ S B σ a (w (i*k+j))
theorem wY {k i j:Nat} (a:j<k):(i*k+j) / k=i/\(i*k+j) % k=j:=by
 have b:0<k:=I;refine⟨?_,?_⟩
 .rw[KH,Nat.add_mul_div_right _ _ b,Nat.div_eq_of_lt a,V5]
 .rw[KH,Nat.add_mul_mod_self_right];exact Oh a
theorem Kk (O:Holds S B σ H) {a:Ψ} {v:Value} {k A:Nat} {l:ψ} (P:Θ S B σ a v) (h:R8 σ a=some (A,l)) (Q:0<k) (R:l.isEmpty=true\/A=k) :
  ∃base cap w,v=.slice base l.length cap/\l.length<=cap/\Reads H base (l.length*k) w/\N' S B σ w k l:=by
 have T:∀(b o:Nat) (u:Nat->Nat->Value),(∀(i:Nat) (e:Ψ),l[i]?=some e->e.cells.length=k)->(∀(i:Nat) (e:Ψ),l[i]?=some e->∀(j:Nat) (c:Ψ),e.cells[j]?=some c->∃p,H.ω b (o+i*k+j)=some (u i j,p))->
   (∀(i:Nat) (e:Ψ),l[i]?=some e->∀(j:Nat) (c:Ψ),e.cells[j]?=some c->Θ S B σ c (u i j))->Reads H (some ⟨b,o,none⟩) (l.length*k) (λm=>u (m / k) (m % k))/\N' S B σ (λm=>u (m / k) (m % k)) k l:=by
  intro b o u d s y;refine⟨.inr ⟨b,o,U,λm Y=>?_⟩,λi e hi=>⟨d i e hi,λj c g=>?_⟩⟩
  .have hi:m / k<l.length:=(Nat.div_lt_iff_lt_mul Q).2 Y
   have V:l[m / k]?=some l[m / k]:=Z4 hi
   have g:m % k<l[m / k].cells.length:=by rw[d _ _ V];exact No _ Q
   obtain⟨p,Z⟩:=s _ _ V (m % k) _ (Z4 g);refine⟨p,?_⟩;have:o+m=o+m / k*k+m % k:=by have:=Nat.div_add_mod m k;rw[Nat.mul_comm] at this;omega
   rw[this];exact Z
  .have aa:j<k:=by rw[<-d i e hi];exact(ZR.1 g).1
   obtain⟨ab,ad⟩:=wY (i:=i) aa;simp only[ab,ad];exact y i e hi j c g
 have F:∀(base:Option Addr) (cap:Nat),l=[]->v=.slice base 0 cap->∃base cap w,v=.slice base l.length cap/\l.length<=cap/\Reads H base (l.length*k) w/\N' S B σ w k l:=λbase cap r hv=>by
  subst r;exact⟨base,cap,λ_=>undef,hv,Ζ _,.inl Ω,λi e hi=>by simp at hi⟩
 unfold R8 at h;split at h
 .cases h;obtain⟨base,cap,rfl,d,_,s⟩:=TG P;by_cases r:l=[]
  .exact F base cap r (by rw[r];rfl)
  .obtain⟨b,o,w,rfl,y,W,X⟩:=s r;have J:A=k:=R.elim (λx=>absurd (Tp.1 x) r) id;subst J;obtain⟨K,L⟩:=T b o w y (λi e hi j c g=>O.Zf _ _ _ (W i e hi j c g)) X;exact⟨_,cap,_,U,d,K,L⟩
 .rename_i id n i len;split at h
  .rename_i t ah C r;split at h
   .rename_i ae;cases h;obtain⟨ai,aj⟩:=ae;have D:((C.drop i).take len).length=len:=by simp;omega
    cases P with
    | ms cap d s y W X E=>
     rw[r] at d;cases d;rcases E with E|⟨b,N,rfl,rfl,E⟩
     .subst E;have:len=0:=I;subst this;exact F _ 0 Ω U
     .by_cases af:len=0
      .subst af;exact F _ cap Ω U
      .have ag:¬((C.drop i).take len).isEmpty=true:=λx=>by
        rw[Tp] at x;rw[x] at D;simp at D;omega
       have J:=R.resolve_left ag;subst J;obtain⟨ak,al,am,w,M⟩:=O.row id _ _ r y;have el:∀(x:Nat) (e:Ψ),((C.drop i).take len)[x]?=some e->C[i+x]?=some e:=λx e f=>by
        rw[RJ] at f;split at f
        .rw[Va] at f;exact f
        .cases f
       obtain⟨K,L⟩:=T b (i*A) (λx j=>w (i+x) j) (λx e f=>(M _ e (el x e f)).1) (λx e f j c g=>⟨true,by
        have:=((M _ e (el x e f)).2 j c g).1;rw[XF] at this;exact this⟩) (λx e f j c g=>((M _ e (el x e f)).2 j c g).2.1)
       exact⟨_,cap,_,by rw[D],by rw[D];omega,K,L⟩
    | Wu v d s=>rw[r] at d;cases d;simp only[Row.Xx] at s;omega
   .cases h
  .cases h
 .cases h
theorem H7 {w1 f:Nat->Value} {k:Nat} {l1 l2:ψ} (g:N' S B σ w1 k l1) (m:N' S B σ f k l2) (r:l1.all (λe=>e.cells.all (Ψ.YW σ))=true) (s:l2.all (λe=>e.cells.all (Ψ.YW σ))=true) (z:ν) :
  Xo S B σ (((List.range (l1.length*k)).map w1).toArray++((List.range (l2.length*k)).map f).toArray++z) k (l1++l2):=by
 have o:∀(l:ψ),l.all (λe=>e.cells.all (Ψ.YW σ))=true->∀e∈l,∀a∈e.cells,Ψ.YW σ a=true:=λl h e n a t=>XJ.1 (XJ.1 h e n) a t;refine⟨by simp[XF],λi e hi=>?_⟩;by_cases p:i<l1.length
 .rw[YN p] at hi;refine⟨(g i e hi).1,λj a b=>?_⟩;have u:j<k:=by rw[<-(g i e hi).1];exact(ZR.1 b).1
  have d:i*k+j<l1.length*k:=by
   have:(i+1)*k<=l1.length*k:=Vo k p;rw[XF] at this;omega
  have c:=(g i e hi).2 j a b;refine⟨w1 (i*k+j),?_,c,c.M7 (o l1 r e (ZH hi) a (ZH b))⟩;rw[Nv,Me (by simpa using d)];simp[d]
 .rw[Xz I] at hi;refine⟨(m _ e hi).1,λj a b=>?_⟩;have u:j<k:=by rw[<-(m _ e hi).1];exact(ZR.1 b).1
  have v:i-l1.length<l2.length:=(ZR.1 hi).1
  have d:(i-l1.length)*k+j<l2.length*k:=by
   have:(i-l1.length+1)*k<=l2.length*k:=Vo k v;rw[XF] at this;omega
  have n:i*k+j=l1.length*k+((i-l1.length)*k+j):=by
   have:i=l1.length+(i-l1.length):=I
   conv=>lhs;rw[this,XF]
   omega
  have c:=(m _ e hi).2 j a b;refine⟨f ((i-l1.length)*k+j),?_,c,c.M7 (o l2 s e (ZH hi) a (ZH b))⟩;rw[n,Nv,I' Ω];rw[Me (by simp;omega)];simp[d]
def Ψ.P1 (YW:Ψ->Bool) (l:ψ):Bool:=l.all λe=>e.cells.all YW
def Xh (s:ByteArray):ψ:=s.data.toList.map λb=>.z (.int .u8 b.toNat)
def P0 (σ:Ρ) (x:Ψ):Option (Nat×ψ):=match x with
 | .z (.string s)=>some (1,Xh s)
 | _=>R8 σ x
theorem Ce (x:Holds S B σ H) {a:Ψ} {v:Value} {k r:Nat} {l:ψ} (t:Θ S B σ a v) (h:P0 σ a=some (r,l)) (y:0<k) (f:l.isEmpty=true\/r=k) :
  ∃w,Src P H v l.length k w/\N' S B σ w k l:=by
 unfold P0 at h;split at h
 .rename_i s;cases h;cases t;have g:(Xh s).length=s.size:=by simp[Xh]
  refine⟨λi=>match (Xh s)[i]? with|some (.z u)=>u|_=>undef,⟨λK E c=>Χ.pure' (by rw[g] at c;exact c),λK E c=>?_⟩,λi e hi=>?_⟩
  .rcases f with m|rfl
   .have d:Xh s=[]:=Tp.1 m
    have A:s.size=0:=by rw[<-g,d];rfl
    have hd:s.data=#[]:=Pj A;rw[d] at c ⊢;refine Χ.pure' ?_;have n:((s.extract 0 ([]:ψ).length).data.map λb=>Value.int .u8 b.toNat)=#[]:=by
     apply Pj;simp
    rw[n];simpa using c
   .refine Χ.pure' ?_;rw[g] at c ⊢;have n:((s.extract 0 s.size).data.map λb=>Value.int .u8 b.toNat)=((List.range (s.size*1)).map λi=>match (Xh s)[i]? with|some (.z u)=>u|_=>undef).toArray:=by
     apply Og;simp only[Array.toList_map,SI,List.toList_toArray];apply U';intro i;have C:(s.extract 0 s.size).data=s.data:=by
      rw[ByteArray.data_extract];exact Array.extract_size
     rw[C,Ys,Ys];by_cases hi:i<s.size
     .have D:i<s.data.toList.length:=by simpa using hi
      rw[Z4 D,IX hi];simp[Xh,hi]
     .rw[W4 (by simpa using Nat.le_of_not_lt hi),W4 (by simpa using Nat.le_of_not_lt hi)];rfl
    rw[n];exact c
  .have o:=hi;unfold Xh at hi;rw[Ys] at hi;obtain⟨b,_,rfl⟩:=Uh.1 hi;have F:k=1:=by
    rcases f with m|h
    .have d:Xh s=[]:=Tp.1 m;rw[d] at o;cases o
    .exact h.symm
   subst F;refine⟨U,λj a p=>?_⟩;cases j with
   | zero=>
    simp[Ψ.cells] at p;subst p;simp only[SI,Nat.add_zero,o];exact .z _
   | succ j=>simp[Ψ.cells] at p
 .obtain⟨base,cap,w,rfl,_,I,J⟩:=Kk x t h y f;exact⟨w,I.src,J⟩
def O2 (T:Z2) (st xt:TypeId) (b:Ψ->Bool) (σ:Ρ) (s x:Ψ):Zl:=
 match VT T st xt,s,P0 σ x with
 | some (_,k,_),.sl true c a,some (d,l1)=>
  if(a.isEmpty=true\/c=k)/\(l1.isEmpty=true\/d=k)/\Ψ.P1 b a=true/\Ψ.P1 b l1=true then .ZD (a.length+l1.length<=4294967296) (.ok (.sl false k (a++l1))) else .bad
 | _,_,_=>.bad
theorem wX {k d:Nat} {a:ψ} {v:Value} (h:Θ S B σ (.sl true d a) v) (e:a.isEmpty=true\/d=k):Θ S B σ (.sl false k a) v:=by
 by_cases c:a=[]
 .subst c;obtain⟨base,cap,rfl,_⟩:=TG h;exact .WJ base cap Ω
 .have:=e.resolve_left (λx=>c (Tp.1 x));subst this;cases h with
  | WJ=>exact absurd rfl c
  | sl b o cap w l f g i j=>exact .sl b o cap w Ω f g i j
theorem H6 {b:Ψ->Bool} (c:∀a:Ψ,b a=true->a.YW σ=true) {l:ψ} (h:Ψ.P1 b l=true):l.all (λe=>e.cells.all (Ψ.YW σ))=true:=by
 unfold Ψ.P1 at h;rw[XJ] at h ⊢;intro e d;have:=h e d;rw[XJ] at this ⊢;exact λa f=>c a (this a f)
theorem Cd (A:ZL P T) (i:Holds S B σ H) {m:Ψ->Bool} (n:∀a:Ψ,m a=true->a.YW σ=true) (st xt C:TypeId) {s x:Ψ} {u v:Value} (j:Θ S B σ s u) (D:Θ S B σ x v) :
  Zv P (Builtin.append_ #[st,xt] C #[u,v]) S B H σ ((O2 T st xt m σ s x).YX σ):=by
 unfold O2;split
 .rename_i e k E af g ag l1 f F;split
  .rename_i I;obtain⟨c1,c2,J,L⟩:=I;refine Zv.ZD (r:=(Zl.ok (.sl false k (g++l1))).YX σ) λM K N=>?_;have o:0<k:=by
    unfold VT at f;split at f<;>try cases f
    split at f<;>try cases f
    split at f<;>try cases f
    rename_i h;exact h.1
   obtain⟨base,cap,w,rfl,_,O,Q⟩:=Kk i j (k:=k) U o c1;obtain⟨w1,R,V⟩:=Ce (P:=P) i D F o c2;have ah:cap=g.length:=by
    obtain⟨ai,aj,W,_,X,_⟩:=TG j;cases W;exact X U
   have l:∀S' H' v,Holds S' B σ H'->Ext S B H S' B H'->ZJ S S' B B σ σ->Θ S' B σ (.sl false k (g++l1)) v->XS S B H σ K v H':=λS' H' v a b c d=>⟨S',B,σ,_,N,b,a,c,d⟩;refine Kl A f O R M (λY=>?_) (λ_ p Z=>?_)
   .have aa:l1=[]:=by
     cases l1 with
     | nil=>rfl
     | cons=>simp at Y;omega
    subst aa;have t:Θ S B σ (.sl false k (g++[])) (.slice base (g.length+([]:ψ).length) cap):=by
     rw[Ug];exact wX j c1
    cases base with
    | none=>exact Χ.pure' (l S H _ i (.refl _ _ _) (.refl _ _ _) t)
    | some a=>
     have ab:((List.range (([]:ψ).length*k)).map w1)=[]:=Ω;rw[ab];exact Χ.pure' (l S H _ i (.refl _ _ _) (.refl _ _ _) t)
   .refine LR i _ e λr ad ae y=>l _ _ _ ad ae y ?_;have:=Ig (cap:=p) false y (H7 Q V (H6 n J) (H6 n L) (Builtin.zeroCells E.zero.cells (p-(g.length+l1.length)))) (by simpa using Z) Ω;rw[Sm] at this;exact this
  .exact .bad
 .exact .bad
end
section
variable {P:Program} {T:Z2} {S:ς} {B:δ} {H:Υ} {σ:Ρ}
theorem wW {st xt e:TypeId} {k:Nat} {a:V2} (h:VT T st xt=some (e,k,a)):0<k/\a.zero.cells.size=k:=by
 unfold VT at h;split at h<;>try cases h
 split at h<;>try cases h
 split at h<;>try cases h
 rename_i h;exact⟨h.1,h.2.1⟩
theorem M4 {a:Type} (l:List a) (x:a):(l++[x])[l.length]?=some x:=Ω
theorem M3 {B:δ} {σ:Ρ} (a:B.length=σ.length) (bo:Option (Nat×Nat)):(B++[bo])[σ.length]?=some bo:=by rw[<-a];simp
def O1 (H:Υ) (bo:Option (Nat×Nat)) (m:Nat):Value:=match bo with|some (b,_)=>((H.ω b m).map (·.1)).getD undef|none=>undef
theorem Fw (z:ν) (n:Nat):(Builtin.zeroCells z n).size=n*z.size:=by simp[Builtin.zeroCells]
def H5 (T:Z2) (st xt:TypeId) (σ:Ρ) (s x:Ψ):Zi:=
 match VT T st xt,P0 σ x with
 | some (e,k,_),some (c,l1)=>
  if(l1.isEmpty=true\/c=k)/\Ψ.P1 (Ψ.YW σ) l1=true then match s with
   | .sl true d a=>if a.isEmpty=true then .ZD (l1.length<=4294967296) (.ok (.ms σ.length l1.length 0 l1.length) (σ++[.cells e k l1])) else
    if d=k/\l1.isEmpty=false/\Ψ.P1 (Ψ.YW σ) a=true then .ZD (a.length+l1.length<=4294967296) (.ok (.ms σ.length (a.length+l1.length) 0 (a.length+l1.length)) (σ++[.cells e k (a++l1)])) else .bad
   | .ms id n i len=>match σ[id]? with
    | some (.cells t b l)=>if i=0/\l.length=n/\len=n/\b=k/\t=e then .ZD (n+l1.length<=4294967296) (.ok (.ms id (n+l1.length) 0 (n+l1.length)) (σ.set id (.cells t k (l++l1)))) else
     if l.length=n/\i+len+l1.length<=n/\b=k/\t=e then .ZD (len+l1.length<=4294967296) (.ok (.ms id n i (len+l1.length)) (σ.set id (.cells t k (l.take (i+len)++l1++l.drop (i+len+l1.length))))) else .bad
    | _=>.bad
   | _=>.bad
  else .bad
 | _,_=>.bad
theorem wV {l l1:ψ} {p:Nat} (h:p+l1.length<=l.length) (x:Nat) (e:Ψ) (a:(l.take p++l1++l.drop (p+l1.length))[x]?=some e) :
  (p<=x/\x<p+l1.length/\l1[x-p]?=some e)\/((x<p\/p+l1.length<=x)/\l[x]?=some e):=by
 by_cases c1:x<p
 .rw[Tq,YN (by simp;omega),TV c1] at a;exact .inr ⟨.inl c1,a⟩
 .by_cases c2:x<p+l1.length
  .rw[YN (by simp;omega),Xz (by simp;omega)] at a;have b:(l.take p).length=p:=by simp;omega
   rw[b] at a;exact .inl ⟨I,c2,a⟩
  .rw[Xz (by simp;omega),Va] at a;have b:p+l1.length+(x-(l.take p++l1).length)=x:=by simp;omega
   rw[b] at a;exact .inr ⟨.inr I,a⟩
theorem wU (ai:ZL P T) (r:Holds S B σ H) {st xt e:TypeId} {k:Nat} {aj:V2} (ak:VT T st xt=some (e,k,aj)) (al:TypeId) {id n i len:Nat} {u v:Value} {l l1:ψ} (am:Θ S B σ (.ms id n i len) u) {w1:Nat->Value}
  (an:Src P H v l1.length k w1) (s:N' S B σ w1 k l1) (ao:l1.all (λe=>e.cells.all (Ψ.YW σ))=true) (f:σ[id]?=some (.cells e k l)) (M:l.length=n) (ap:i+len+l1.length<=n) (O:0<k) (aq:len+l1.length<=4294967296) :
  Zv P (Builtin.append_ #[st,xt] al #[u,v]) S B H σ (.ok (.ms id n i (len+l1.length)) (σ.set id (.cells e k (l.take (i+len)++l1++l.drop (i+len+l1.length))))):=by
 intro K t;cases am with
 | Wu v h Q=>rw[f] at h;cases h;simp only[Row.Xx] at Q;omega
 | @ms _ _ _ _ _ _ _ bo base cap h Q A aP R g=>
  rw[f] at h;cases h;have C:=r.row id _ bo f A;have D:id<σ.length:=(ZR.1 f).1;have ar:id<B.length:=by rw[r.len];exact D
  have au:Reads H base (len*k) (λm=>O1 H bo (i*k+m)):=by
   by_cases E:len=0
   .exact .inl (by rw[E];simp)
   rcases g with g|⟨b,N,rfl,rfl,g⟩
   .omega
   .refine .inr ⟨b,i*k,U,λj c=>⟨true,?_⟩⟩;have:i*k+j<N:=by
     have av:=C.2.1
     have:(i+len)*k<=l.length*k:=Vo _ I;rw[XF] at this;omega
    obtain⟨w,y⟩:=C.2.2.1 (i*k+j) this;simp[y,O1]
  refine Kl ai ak au an aq (λaQ=>?_) (λaR aS aT=>I);by_cases V:l1=[]
  .subst V;have aw:σ.set id (.cells e k (l.take (i+len)++[]++l.drop (i+len+([]:ψ).length)))=σ:=by
    rw[Ug,List.length_nil,Nat.add_zero,List.take_append_drop];apply U';intro j;by_cases W:id=j
    .subst W;rw[Xs D,f]
    .rw[Xj W]
   simp only[Zi.holds] at t;rw[aw] at t;have X:XS S B H σ K (.slice base (len+([]:ψ).length) cap) H:=⟨S,B,σ,_,t,.refl _ _ _,r,.refl _ _ _,.ms cap f M A (by simp;omega) R g⟩;cases base with
   | none=>exact Χ.pure' X
   | some a=>
    have E:((List.range (([]:ψ).length*k)).map w1)=[]:=Ω;rw[E];exact Χ.pure' X
  .have aU:0<l1.length:=Pg.2 V;rcases g with g|⟨b,N,rfl,rfl,g⟩
   .omega
   .obtain⟨Y,Z,aa,w,y⟩:=C;obtain⟨p,ab⟩:=Z' (i+len);rw[<-ab] at ap t;have ad:p+l1.length<=l.length:=I;have aV:p*k+l1.length*k<=N:=by
     have:(p+l1.length)*k<=l.length*k:=Vo _ ad;rw[XF] at this;have av:l.length*k<=N:=Z;omega
    have ax:(⟨b,i*k,none⟩:Addr).add (len*k)=⟨b,p*k,none⟩:=by rw[QS,ab,XF]
    have F:((List.range (l1.length*k)).map w1).length=l1.length*k:=Ω
    have Wg:∀j,j<l1.length*k->((List.range (l1.length*k)).map w1)[j]?=some (w1 j):=λj c=>by simp[c]
    have ae:∀(i:Nat) (e:Ψ) (j:Nat) (a:Ψ),l1[i]?=some e->e.cells[j]?=some a->One (w1 (i*k+j)):=λi e j a hi c=>
     ((s i e hi).2 j a c).M7 (XJ.1 (XJ.1 ao e (ZH hi)) a (ZH c))
    have ay:∀v∈(List.range (l1.length*k)).map w1,One v:=λv hv=>by
     obtain⟨m,az,rfl⟩:=Zh.1 hv;have aA:m<l1.length*k:=by simpa using az
     have hi:m / k<l1.length:=(Nat.div_lt_iff_lt_mul O).2 aA
     have af:=Z4 hi
     have c:m % k<l1[m / k].cells.length:=by rw[(s _ _ af).1];exact No _ O
     have:=ae _ _ _ _ af (Z4 c)
     have aB:m / k*k+m % k=m:=by have:=Nat.div_add_mod m k;rw[Nat.mul_comm] at this;exact this
     rw[aB] at this;exact this
    have J:(l.take p++l1++l.drop (p+l1.length)).length=l.length:=by simp;omega
    have aC:ZJ S S B (B.set id (some (b,N))) σ (σ.set id (.cells e k (l.take p++l1++l.drop (p+l1.length))))->Wi S (B.set id (some (b,N))) (σ.set id (.cells e k (l.take p++l1++l.drop (p+l1.length)))) (H.XW b (p*k) ((List.range (l1.length*k)).map w1)) (.cells e k (l.take p++l1++l.drop (p+l1.length))) (some (b,N)):=λag=>by
     refine⟨Y,by rw[J];exact Z,λo aD=>?_,λx j=>if x<p\/p+l1.length<=x then w x j else w1 ((x-p)*k+j),λx a d=>?_⟩
     .simp only[Υ.XW];split
      .exact⟨_,U⟩
      .exact aa o aD
     .rcases wV ad x a d with⟨c1,c2,d⟩|⟨c1,d⟩
      .refine⟨(s _ a d).1,λj a' c=>?_⟩;have aE:j<k:=by rw[<-(s _ a d).1];exact(ZR.1 c).1
       have aF:(x-p)*k+j<l1.length*k:=by
        have:(x-p+1)*k<=l1.length*k:=Vo k I;rw[XF] at this;omega
       have aW:x*k+j=p*k+((x-p)*k+j):=by
        have:x=p+(x-p):=I
        conv=>lhs;rw[this,XF]
        omega
       simp only[show ¬(x<p\/p+l1.length<=x) by omega,if_false];refine⟨?_,((s _ a d).2 j a' c).later ag,ae _ a j a' d c⟩;simp only[Υ.XW,F];rw[if_pos ⟨trivial,I,I⟩];have:x*k+j-p*k=(x-p)*k+j:=I;rw[this,Wg _ aF];rfl
      .refine⟨(y x a d).1,λj a' c=>?_⟩;obtain⟨aG,aH,aI⟩:=(y x a d).2 j a' c;have aE:j<k:=by rw[<-(y x a d).1];exact(ZR.1 c).1
       simp only[c1,if_true];refine⟨?_,aH.later ag,aI⟩;simp only[Υ.XW,F];rw[if_neg ?_]
       .exact aG
       .rintro⟨_,d1,d2⟩;rcases c1 with c1|c1
        .have:(x+1)*k<=p*k:=Vo k c1;rw[XF] at this;omega
        .have:(p+l1.length)*k<=x*k:=Vo k c1;rw[XF] at this;omega
    obtain⟨aJ,aK,aL⟩:=r.Sc (H':=H.XW b (p*k) ((List.range (l1.length*k)).map w1)) (r':=.cells e k (l.take p++l1++l.drop (p+l1.length))) (bo':=some (b,N)) f trivial A (.inl ⟨_,U,J,U⟩) (λah aM L=>.inl ⟨aM,L⟩)
     (λah h _=>by
      have aN:ah≠b:=λL=>by subst L;exact h N U
      exact⟨λo=>by simp[Υ.XW,aN],U,U⟩) Υ.Kq (M6 r f) aC
    show Χ P (storeCells ((⟨b,i*k,none⟩:Addr).add (len*k)) _) H _ _;rw[ax];refine Χ.storeCells (G:=H) U ⟨e,N,Y⟩ _ 0 H ay (λj _ c=>?_) U ?_
    .rw[F] at c;obtain⟨u,aO⟩:=aa (p*k+j) I;exact⟨u,aO⟩
    .exact⟨S,_,_,_,t,aK,aJ,aL,.ms cap (by rw[Xs D]) (by rw[J];exact M) (by rw[Xs ar]) I R (.inr ⟨b,N,U,U,g⟩)⟩
theorem wT (ap:ZL P T) (y:Holds S B σ H) (st xt aI:TypeId) {s x:Ψ} {u v:Value} (Y:Θ S B σ s u) (aW:Θ S B σ x v) :
  Zv P (Builtin.append_ #[st,xt] aI #[u,v]) S B H σ (H5 T st xt σ s x):=by
 unfold H5;split
 .rename_i e k Z bt l1 aa aX;split
  .rename_i aY;obtain⟨c2,aZ⟩:=aY;obtain⟨ab,aw⟩:=wW aa;obtain⟨w1,aq,E⟩:=Ce (P:=P) y aW aX ab c2;have ad:=H6 (σ:=σ) (λa h=>h) aZ;split
   .rename_i a0 ae;split
    .rename_i ar;have a1:ae=[]:=Tp.1 ar;subst a1;refine .ZD λV K F=>?_;obtain⟨base,cap,rfl,_,aJ,_⟩:=TG Y;have a2:cap=0:=aJ U;subst a2;refine Kl ap aa (sLen:=0) (wo:=λ_=>undef) (.inl Ω) aq I (λax=>?_) (λ_ g af=>?_)
     .have a3:l1=[]:=by
       cases l1 with
       | nil=>rfl
       | cons=>simp at ax
      subst a3;obtain⟨ag,ah,ai⟩:=y.push (H':=H) (r:=.cells e k []) (bo:=none) (λb N e=>by cases e) (λb _=>⟨λ_=>rfl,U,U⟩) (λ_=>rfl);have aK:XS S B H σ K (.slice base (([]:ψ).length+([]:ψ).length) 0) H:=⟨S,_,_,_,F,ah,ag,ai,.ms 0 (M4 σ _) U (M3 y.len _) Ω Ω (.inl U)⟩;cases base with
      | none=>exact Χ.pure' aK
      | some a=>
       have ay:((List.range (([]:ψ).length*k)).map w1)=[]:=Ω;rw[ay];exact Χ.pure' aK
     .have p:Xo S B σ (((List.range (0*k)).map λ_=>undef).toArray++((List.range (l1.length*k)).map w1).toArray++Builtin.zeroCells Z.zero.cells (g-(0+l1.length))) k ([]++l1):=
       H7 (l1:=[]) (λi e hi=>by simp at hi) E Ω ad _
      rw[List.nil_append] at p;refine M5 y p e λr _ A J L=>⟨_,_,_,_,F,J,A,L,?_⟩;simp only[List.length_nil,V5];refine .ms g (M4 σ _) U (M3 y.len _) I (by simpa using af) (.inr ⟨r,_,U,Ω,?_⟩);simp only[V5,IU,List.size_toArray,SJ,IT,Fw,aw,Nr];rw[<-XF];have:l1.length+(g-l1.length)=g:=by simp at af;omega
      rw[this];exact ZY _
    .split
     .rename_i aj;obtain⟨d1,d2,d3⟩:=aj;subst d1;refine .ZD λV K F=>?_;obtain⟨base,cap,w,rfl,_,a4,a5⟩:=Kk y Y (k:=a0) U ab (.inr U);have aJ:cap=ae.length:=by
       obtain⟨W,bu,X,_,az,_⟩:=TG Y;cases X;exact az U
      have ak:0<l1.length:=by cases l1 with
       | nil=>simp at d2
       | cons=>simp
      refine Kl ap aa a4 aq V (λax=>I) (λ_ g af=>?_);have p:=H7 a5 E (H6 (σ:=σ) (λa h=>h) d3) ad (Builtin.zeroCells Z.zero.cells (g-(ae.length+l1.length)));refine M5 y p e λr _ A J L=>⟨_,_,_,_,F,J,A,L,?_⟩;refine .ms g (M4 σ _) Ω (M3 y.len _) I (by simpa using af) (.inr ⟨r,_,U,Ω,?_⟩);simp only[V5,IU,List.size_toArray,SJ,IT,Fw,aw];rw[<-XF,<-XF];have:ae.length+l1.length+(g-(ae.length+l1.length))=g:=I;rw[this];exact ZY _
     .exact .bad
   .rename_i id n i len;split
    .rename_i t d l p;split
     .rename_i aj;obtain⟨a6,C,a7,aA,aB⟩:=aj;subst a6;subst a7;subst aA;subst aB;refine .ZD λV K F=>?_;cases Y with
      | @ms _ _ _ _ _ _ _ bo base cap A J L bv a8 M=>
       rw[p] at A;cases A;have O:=y.row id _ bo p L;have a9:Reads H base (len*d) (O1 H bo):=by
        rcases M with M|⟨b,N,rfl,rfl,M⟩
        .exact .inl (by rw[show len=0 from I];simp)
        .refine .inr ⟨b,0,Ω,λj f=>⟨true,?_⟩⟩;obtain⟨w,D⟩:=O.2.2.1 j (by have:=O.2.1;rw[C] at this;omega);rw[V5];simp[D,O1]
       have a':l1=[]->XS S B H σ K (.slice base (len+l1.length) cap) H:=λQ=>by
        subst Q;have al:id<σ.length:=(ZR.1 p).1;have ba:σ.set id (.cells t d (l++[]))=σ:=by
         rw[Ug];apply U';intro j;by_cases aL:id=j
         .subst aL;rw[Xs al,p]
         .rw[Xj aL]
        rw[ba] at F;exact⟨S,B,σ,_,F,.refl _ _ _,y,.refl _ _ _,.ms cap p C L Ω a8 M⟩
       have al:id<σ.length:=(ZR.1 p).1
       have aM:id<B.length:=by rw[y.len];exact al
       refine Kl ap aa a9 aq V (λax=>?_) (λbb g af=>?_)
       .by_cases Q:l1=[]
        .have:=a' Q;subst Q;cases base with
         | none=>exact Χ.pure' this
         | some a=>
          have ay:((List.range (([]:ψ).length*d)).map w1)=[]:=Ω;rw[ay];exact Χ.pure' this
        .have bc:0<l1.length:=Pg.2 Q;rcases M with M|⟨b,N,rfl,rfl,M⟩
         .omega
         .obtain⟨aN,bw,aO,w,D⟩:=O;have bd:(len+l1.length)*d<=N:=by
           have:(len+l1.length)*d<=(0+cap)*d:=Vo _ I;omega
          rw[XF] at bd;have be:(⟨b,0*d,none⟩:Addr).add (len*d)=⟨b,len*d,none⟩:=by rw[QS];simp
          have aP:((List.range (l1.length*d)).map w1).length=l1.length*d:=Ω
          have Wg:∀j,j<l1.length*d->((List.range (l1.length*d)).map w1)[j]?=some (w1 j):=λj f=>by simp[f]
          have aQ:∀(i:Nat) (e:Ψ) (j:Nat) (a:Ψ),l1[i]?=some e->e.cells[j]?=some a->One (w1 (i*d+j)):=λi e j a hi f=>
           ((E i e hi).2 j a f).M7 (XJ.1 (XJ.1 ad e (ZH hi)) a (ZH f))
          have bf:∀v∈(List.range (l1.length*d)).map w1,One v:=λv hv=>by
           obtain⟨m,aC,rfl⟩:=Zh.1 hv;have bg:m<l1.length*d:=by simpa using aC
           have hi:m / d<l1.length:=(Nat.div_lt_iff_lt_mul ab).2 bg
           have aR:=Z4 hi
           have f:m % d<l1[m / d].cells.length:=by rw[(E _ _ aR).1];exact No _ ab
           have:=aQ _ _ _ _ aR (Z4 f)
           have X:m / d*d+m % d=m:=by have:=Nat.div_add_mod m d;rw[Nat.mul_comm] at this;exact this
           rw[X] at this;exact this
          have bh:ZJ S S B (B.set id (some (b,N))) σ (σ.set id (.cells t d (l++l1)))->Wi S (B.set id (some (b,N))) (σ.set id (.cells t d (l++l1))) (H.XW b (len*d) ((List.range (l1.length*d)).map w1)) (.cells t d (l++l1)) (some (b,N)):=λau=>by
           refine⟨aN,by simp[XF,C];omega,λo aD=>?_,λi j=>if i<len then w i j else w1 ((i-len)*d+j),λi e hi=>?_⟩
           .simp only[Υ.XW];split
            .exact⟨_,U⟩
            .exact aO o aD
           .by_cases am:i<l.length
            .rw[YN am] at hi;refine⟨(D i e hi).1,λj a f=>?_⟩;obtain⟨an,av,aE⟩:=(D i e hi).2 j a f;have aF:j<d:=by rw[<-(D i e hi).1];exact(ZR.1 f).1
             have ao:i*d+j<len*d:=by
              have:(i+1)*d<=len*d:=Vo d I;rw[XF] at this;omega
             simp only[show i<len by omega,if_true];refine⟨?_,av.later au,aE⟩;simp only[Υ.XW];rw[if_neg I];exact an
            .rw[Xz I,C] at hi;refine⟨(E _ e hi).1,λj a f=>?_⟩;have aF:j<d:=by rw[<-(E _ e hi).1];exact(ZR.1 f).1
             have bi:i-len<l1.length:=(ZR.1 hi).1
             have ao:(i-len)*d+j<l1.length*d:=by
              have:(i-len+1)*d<=l1.length*d:=Vo d bi;rw[XF] at this;omega
             have ar:i*d+j=len*d+((i-len)*d+j):=by
              have:i=len+(i-len):=I
              conv=>lhs;rw[this,XF]
              omega
             simp only[show ¬i<len by omega,if_false];refine⟨?_,((E _ e hi).2 j a f).later au,aQ _ e j a hi f⟩;simp only[Υ.XW,aP];rw[if_pos ⟨trivial,I,I⟩];have:i*d+j-len*d=(i-len)*d+j:=I;rw[this,Wg _ ao];rfl
          obtain⟨ag,ah,ai⟩:=y.Sc (H':=H.XW b (len*d) ((List.range (l1.length*d)).map w1)) (r':=.cells t d (l++l1)) (bo':=some (b,N)) p trivial L (.inr λm aC=>by simp only[Row.Xx,Sm];omega) (λW aS R=>.inl ⟨aS,R⟩)
           (λW A _=>by
            have ak:W≠b:=λR=>by subst R;exact A N U
            exact⟨λo=>by simp[Υ.XW,ak],U,U⟩) Υ.Kq (M6 y p) bh
          show Χ P (storeCells ((⟨b,0*d,none⟩:Addr).add (len*d)) _) H _ _;rw[be];refine Χ.storeCells (G:=H) U ⟨t,N,aN⟩ _ 0 H bf (λj _ f=>?_) U ?_
          .rw[aP] at f;obtain⟨u,bj⟩:=aO (len*d+j) I;exact⟨u,bj⟩
          .refine⟨S,_,_,_,F,ah,ag,ai,.ms cap (by rw[Xs al]) (by simp[C]) (by rw[Xs aM]) I I (.inr ⟨b,N,U,U,M⟩)⟩
       .have Q:l1≠[]:=by rintro rfl;simp at bb;omega
        have bc:0<l1.length:=Pg.2 Q
        have aG:N' S B σ (O1 H bo) d l:=λi e hi=>by
         cases bo with
         | none=>have:l=[]:=O
                 rw[this] at hi;simp at hi
         | some x=>
          obtain⟨b,N⟩:=x;obtain⟨_,_,_,w,D⟩:=O;refine⟨(D i e hi).1,λj a f=>?_⟩;obtain⟨an,av,_⟩:=(D i e hi).2 j a f;simp only[O1,an];exact av
        have aH:Xo S B σ (((List.range (len*d)).map (O1 H bo)).toArray++((List.range (l1.length*d)).map w1).toArray++Builtin.zeroCells Z.zero.cells (g-(len+l1.length))) d (l++l1):=by
         refine⟨by simp[XF,C],λi e hi=>?_⟩;by_cases am:i<l.length
         .rw[YN am] at hi;refine⟨(aG i e hi).1,λj a f=>?_⟩;have aF:j<d:=by rw[<-(aG i e hi).1];exact(ZR.1 f).1
          have ao:i*d+j<len*d:=by
           have:(i+1)*d<=len*d:=Vo d I;rw[XF] at this;omega
          refine⟨_,?_,(aG i e hi).2 j a f,?_⟩
          .rw[Nv,Me (by simpa using ao)];simp[ao]
          .cases bo with
           | none=>have:l=[]:=O
                   rw[this] at am;simp at am
           | some x=>
            obtain⟨b,N⟩:=x;obtain⟨_,_,_,w,D⟩:=O;obtain⟨an,av,aE⟩:=(D i e hi).2 j a f;simp only[O1,an];exact aE
         .rw[Xz I,C] at hi;have:=H7 (l1:=[]) (w1:=λ_=>undef) (k:=d) (λi e hi=>by simp at hi) E Ω ad (Builtin.zeroCells Z.zero.cells (g-(len+l1.length)));obtain⟨aT,bk⟩:=this.2 (i-len) e (by simpa using hi);refine⟨aT,λj a f=>?_⟩;obtain⟨x,bl,bm,bn⟩:=bk j a f;have aF:j<d:=by rw[<-aT];exact(ZR.1 f).1
          have ar:i*d+j=len*d+((i-len)*d+j):=by
           have:i=len+(i-len):=I
           conv=>lhs;rw[this,XF]
           omega
          refine⟨x,?_,bm,bn⟩;rw[ar,Nv,I' Ω];simpa using bl
        refine⟨U,λr aU=>?_⟩;generalize bp:(((List.range (len*d)).map (O1 H bo)).toArray++((List.range (l1.length*d)).map w1).toArray++Builtin.zeroCells Z.zero.cells (g-(len+l1.length)))=c at aH;have bq:g*d<=c.size:=by
         rw[<-bp];simp only[IU,List.size_toArray,SJ,IT,Fw,aw];rw[<-XF,<-XF];have:len+l1.length+(g-(len+l1.length))=g:=I;rw[this];exact ZY _
        obtain⟨ag,ah,ai⟩:=y.Sc (H':=H.YH r c t) (r':=.cells t d (l++l1)) (bo':=some (r,c.size)) p trivial L (.inr λm aC=>by simp only[Row.Xx,Sm];omega) (λW aS R=>.inr (by cases R;exact aU))
         (λW _ J=>by
          have ak:W≠r:=λR=>by subst R;exact J _ U
          exact⟨λo=>by simp[Υ.YH,ak],by simp[Υ.YH,ak],U⟩) (Υ.FF aU c t) (M6 y p) (λau=>by
          have aV:=aH.later au;refine⟨by simp[Υ.YH],aH.1,λo aD=>⟨c[o],by simp[Υ.YH,aD]⟩,λi j=>(c[i*d+j]?).getD undef,λi e hi=>⟨(aV.2 i e hi).1,λj a f=>?_⟩⟩;obtain⟨x,X,az,br⟩:=(aV.2 i e hi).2 j a f;simp only[X,Option.getD_some];exact⟨by simp[Υ.YH,X],az,br⟩)
        exact⟨S,_,_,_,F,ah,ag,ai,.ms g (by rw[Xs al]) (by simp[C]) (by rw[Xs aM]) I I (.inr ⟨r,c.size,U,Ω,by simpa using bq⟩)⟩
      | Wu v A J=>rw[p] at A;cases A;simp only[Row.Xx] at J;omega
     .split
      .rename_i aj;obtain⟨C,bs,aA,aB⟩:=aj;subst aA;subst aB;exact .ZD λV=>wU ap y aa aI Y aq E ad p C bs ab V
      .exact .bad
    .exact .bad
   .exact .bad
  .exact .bad
 .exact .bad
end
section
variable {P:Program} {T:Z2} {S:ς} {B:δ} {H:Υ} {σ:Ρ}
def Vj (o:Option Ψ) (d:Int):Option Int:=match o with
 | none=>some d
 | some (.z (.int _ n))=>some n
 | _=>none
def O0 (S:ς) (B:δ) (σ:Ρ):Option Ψ->Option Value->Prop
 | none,none=>True
 | some a,some v=>Θ S B σ a v
 | _,_=>False
theorem Cc {k:IntKind} {n:Int} {y:Nat} {a:BoundsCode} (h:0<=n/\n<=y) {G:Υ} {K:Nat->Υ->Prop} {E:Value->Υ->Prop} (b:K n.toNat G):Χ P (Instr.sliceBound (.int k n) y a) G K E:=by
 unfold Instr.sliceBound;refine Χ.bind' (Χ.pure' ?_);simp only[h,and_self,if_true];exact Χ.pure' b
theorem H4 {j:Bool} {len cap:Nat} {lo hi:Option Ψ} {lv hv:Option Value} (f:O0 S B σ lo lv) (g:O0 S B σ hi hv) {a b:Int} (c:Vj lo 0=some a) (d:Vj hi len=some b) (h:0<=a/\a<=b/\b<=cap) {G:Υ} {K:Nat×Nat×Nat->Υ->Prop} {E:Value->Υ->Prop}
  (i:K (a.toNat,b.toNat,cap) G):Χ P (Instr.sliceBounds j len cap lv hv none) G K E:=by
 unfold Instr.sliceBounds;refine Χ.bind' (Χ.pure' ?_);have low:∀(n:Nat),b.toNat=n->Χ P (match lv with|some v=>Instr.sliceBound v n (if(none:Option Value).isSome then .slice3C else .sliceB)|none=>pure 0) G (λl G'=>Χ P (pure (l,n,cap)) G' K E) E:=λn m=>by
  subst m;cases lo with
  | none=>
   cases lv with
   | some v=>exact f.elim
   | none=>cases c;exact Χ.pure' (Χ.pure' i)
  | some x=>
   cases lv with
   | none=>exact f.elim
   | some v=>
    unfold Vj at c;split at c
    .rename_i e;cases e
    .rename_i k n e;cases e;cases c;cases f;exact Cc I (Χ.pure' i)
    .cases c
 cases hi with
 | none=>
  cases hv with
  | some v=>exact g.elim
  | none=>
   cases d;refine Χ.bind' (Χ.pure' ?_);have:=low len Ω;cases lv with
   | none=>exact Χ.bind' this
   | some v=>exact Χ.bind' this
 | some x=>
  cases hv with
  | none=>exact g.elim
  | some v=>
   unfold Vj at d;split at d
   .rename_i e;cases e
   .rename_i k n e;cases e;cases d;cases g;refine Χ.bind' (Cc I ?_);have:=low _ U;cases lv with
    | none=>exact Χ.bind' this
    | some v=>exact Χ.bind' this
   .cases d
def H3 (T:Z2) (g:TypeId) (x:Ψ) (lo hi:Option Ψ):Zl:=match T g with
 | some i=>match i.Z3,x with
  | .string,.z (.string s)=>match Vj lo 0,Vj hi s.size with
   | some a,some b=>.ZD (0<=a/\a<=b/\b<=s.size) (.ok (.z (.string (s.extract a.toNat b.toNat))))
   | _,_=>.bad
  | .slice e,.sl ex k l=>match T e,Vj lo 0,Vj hi l.length with
   | some d,some a,some b=>if l.isEmpty=true\/k=d.size then .ZD (0<=a/\a<=b/\b<=l.length) (.ok (.sl (ex&&hi.isNone) k ((l.take b.toNat).drop a.toNat))) else .bad
   | _,_,_=>.bad
  | .array n e,.Ν f=>match T e with
   | some d=>if d.size=1/\d.agg=false/\n<=f.length/\0<n/\lo.isNone/\hi.isNone/\(f.take n).all (λc=>decide (c.cells.length=1)&&Ψ.YW [] c) then .ok (.sl true 1 (f.take n)) else .bad
   | none=>.bad
  | _,_=>.bad
 | none=>.bad
def M1 (T:Z2) (c:TypeId) (σ:Ρ) (x:Ψ) (lo hi:Option Ψ):Zi:=match T c with
 | some i=>match i.Z3,x with
  | .slice e,.ms id n i len=>match T e,σ[id]?,Vj lo 0,Vj hi len with
   | some d,some (.cells _ k l),some a,some b=>if k=d.size/\l.length=n then .ZD (0<=a/\a<=b/\(b<=len\/i+b<=n)) (.ok (.ms id n (i+a.toNat) (b.toNat-a.toNat)) σ) else .bad
   | _,_,_,_=>.bad
  | _,_=>.bad
 | none=>.bad
theorem wS {ex:Bool} {k:Nat} {l:ψ} {base:Option Addr} {len cap:Nat} (h:Θ S B σ (.sl ex k l) (.slice base len cap)) {a b f:Nat} (K:a<=b) (L:b<=l.length) (v:l.isEmpty=true\/k=f) (g:Bool) (s:g=true->ex=true/\b=l.length) :
  Θ S B σ (.sl g k ((l.take b).drop a)) (.slice (if cap=a then base else base.map (·.add (a*f))) (b-a) (cap-a)):=by
 obtain⟨M,N,e,O,t,y⟩:=TG h;cases e;have d:((l.take b).drop a).length=b-a:=by simp;omega
 by_cases m:(l.take b).drop a=[]
 .rw[m] at d ⊢;have:b-a=0:=by simpa using d.symm
  rw[this];refine .WJ _ _ λn=>?_;obtain⟨p,A⟩:=s n;have:=t p;omega
 .have u:l≠[]:=by rintro rfl;simp at m
  obtain⟨C,o,w,rfl,D,E,F⟩:=y u;have H:k=f:=v.resolve_left λx=>u (Tp.1 x);subst H;have P:a<b:=by
   apply TW;intro Q;apply m;have:b-a=0:=I;rw[this] at d;exact YZ.1 d
  rw[if_neg I];simp only[Option.map_some,QS];have el:∀(i:Nat) (e:Ψ),((l.take b).drop a)[i]?=some e->l[a+i]?=some e:=λi e hi=>by
   rw[Va,RJ] at hi;split at hi
   .exact hi
   .cases hi
  have J:((l.take b).drop a).length<=cap-a:=by rw[d];omega
  have:=Θ.sl (S:=S) (B:=B) (σ:=σ) (ex:=g) (k:=k) (l:=(l.take b).drop a) C (o+a*k) (cap-a) (λi j=>w (a+i) j) (λn=>by obtain⟨p,A⟩:=s n;have:=t p;omega) J
   (λi e hi=>D _ e (el i e hi)) (λi e hi j c r=>by have:=E _ e (el i e hi) j c r;rw[XF] at this;rw[U9 o];exact this) (λi e hi j c r=>F _ e (el i e hi) j c r)
  rw[d] at this;exact this
theorem wR (f:ZL P T) (A:Holds S B σ H) (C:TypeId) {x:Ψ} {v:Value} (t:Θ S B σ x v) {lo hi:Option Ψ} {lv hv:Option Value} (D:O0 S B σ lo lv) (E:O0 S B σ hi hv) :
  Zv P (Instr.sliceAt C v lv hv none) S B H σ ((H3 T C x lo hi).YX σ):=by
 unfold H3;cases m:T C with
 | none=>exact .bad
 | some i=>
  simp only;split
  .rename_i s g;cases t;split
   .rename_i a b F u;refine Zv.ZD (r:=(Zl.ok (.z (.string (s.extract a.toNat b.toNat)))).YX σ) λh K p=>?_;unfold Instr.sliceAt;refine Χ.bind' (f.Z3 m ?_);rw[g];simp only;unfold Instr.slice;refine Χ.bind' (f.Z3 m ?_);rw[g];simp only[Option.isSome_none,Xq,if_false];refine Χ.bind' (H4 D E F u h ?_);exact Χ.pure' (.same A p (.z _))
   .exact .bad
  .rename_i e ex k l g;split
   .rename_i V a b J F u;split
    .rename_i W;refine Zv.ZD (r:=(Zl.ok (.sl (ex&&hi.isNone) k ((l.take b.toNat).drop a.toNat))).YX σ) λh K p=>?_;obtain⟨base,cap,rfl,M,N,_⟩:=TG t;unfold Instr.sliceAt;refine Χ.bind' (f.Z3 m ?_);rw[g];simp only;unfold Instr.slice;refine Χ.bind' (f.Z3 m ?_);rw[g];simp only;refine Χ.bind' (H4 D E F u I ?_);simp only;refine Χ.bind' (f.size J ?_);refine Χ.pure' (.same A p (wS t I I W _ λL=>?_));simp only[Wm] at L;refine⟨L.1,?_⟩;cases hi with
     | none=>cases u;simp
     | some=>simp at L
    .exact .bad
   .exact .bad
  .rename_i n e y g;split
   .rename_i V J;split
    .rename_i X;obtain⟨c1,c2,ab,ad,Y,Z,O⟩:=X;intro K p;cases t with
     | Ν b o w M N=>
      cases lo with
      | some=>simp at Y
      | none=>
       cases hi with
       | some=>simp at Z
       | none=>
        cases lv with
        | some=>exact D.elim
        | none=>
         cases hv with
         | some=>exact E.elim
         | none=>
          unfold Instr.sliceAt;refine Χ.bind' (f.Z3 m ?_);rw[g];simp only;refine Χ.bind' (Χ.pure' ?_);refine Χ.bind' (H4 (S:=S) (B:=B) (σ:=σ) (lo:=none) (hi:=none) (lv:=none) (hv:=none) trivial trivial (a:=0) (b:=n) U U I ?_);simp only[Int.toNat_natCast];refine Χ.bind' (f.size J ?_);rw[c1];refine Χ.pure' (.same A p ?_);have aa:(0:Int).toNat=0:=rfl;rw[aa,if_neg I,QS];simp only[Nr,Nat.add_zero,Nat.sub_zero];have Q:(y.take n).length=n:=by simp;omega
          rw[XJ] at O;have el:∀(i:Nat) (e:Ψ),(y.take n)[i]?=some e->y[i]?=some e/\e.cells=[e]:=λi e hi=>by
           have R:=O e (ZH hi);simp only[Wm] at R;rw[RJ] at hi;split at hi
           .exact⟨hi,Ψ.FA R.2⟩
           .cases hi
          have:=Θ.sl (S:=S) (B:=B) (σ:=σ) (ex:=true) (k:=1) (l:=y.take n) b o n (λi _=>w i) (λ_=>Q.symm) I (λi e hi=>by rw[(el i e hi).2];rfl)
           (λi e hi j c d=>by
            rw[(el i e hi).2] at d
            match j with
            | 0=>simp at d;subst d;have:=M i _ (el i _ hi).1;simpa using this
            | j+1=>simp at d) (λi e hi j c d=>by
            rw[(el i e hi).2] at d
            match j with
            | 0=>simp at d;subst d;exact N i _ (el i _ hi).1
            | j+1=>simp at d)
          rw[Q] at this;exact this
    .exact .bad
   .exact .bad
  .exact .bad
theorem wQ (f:ZL P T) (s:Holds S B σ H) (g:TypeId) {x:Ψ} {v:Value} (u:Θ S B σ x v) {lo hi:Option Ψ} {lv hv:Option Value} (w:O0 S B σ lo lv) (y:O0 S B σ hi hv) :
  Zv P (Instr.sliceAt g v lv hv none) S B H σ (M1 T g σ x lo hi):=by
 unfold M1;cases o:T g with
 | none=>exact .bad
 | some R=>
  simp only;split
  .rename_i e id n i len p;split
   .rename_i V t k l a b A j C D;split
    .rename_i m;obtain⟨E,F⟩:=m;refine .ZD λh K J=>?_;cases u with
     | ms cap c r L W X d=>
      rw[j] at c;cases c;unfold Instr.sliceAt;refine Χ.bind' (f.Z3 o ?_);rw[p];simp only;unfold Instr.slice;refine Χ.bind' (f.Z3 o ?_);rw[p];simp only;refine Χ.bind' (H4 w y C D I ?_);simp only;refine Χ.bind' (f.size A ?_);obtain⟨f1,f2,f3⟩:=h;have M:i+a.toNat+(b.toNat-a.toNat)<=n:=by rcases f3 with f3|f3<;>omega
      have O:n<=i+a.toNat+(cap-a.toNat):=by rcases f3 with f3|f3<;>omega
      refine Χ.pure' (.same s J (.ms (cap-a.toNat) j F L M O ?_));by_cases m:cap=a.toNat
      .exact .inl I
      .rcases d with d|⟨Q,N,rfl,rfl,d⟩
       .exact .inl I
       .refine .inr ⟨Q,N,U,?_,?_⟩
        .rw[if_neg m];simp only[Option.map_some,QS,E,XF]
        .have:i+a.toNat+(cap-a.toNat)=i+cap:=I
         rw[this];exact d
     | Wu v c r=>rw[j] at c;cases c;simp only[Row.Xx] at r;omega
    .exact .bad
   .exact .bad
  .exact .bad
def H2 (T:Z2) (a:TypeId) (x:Ψ):Zl:=match T a with
 | some i=>match i.Z3,x with
  | .string,.z (.string s)=>.ok (.z (.int .i64 s.size))
  | .slice _,.sl _ _ l=>.ok (.z (.int .i64 l.length))
  | .slice _,.z (.slice _ len _)=>.ok (.z (.int .i64 len))
  | .array n _,_=>.ok (.z (.int .i64 n))
  | _,_=>.bad
 | none=>.bad
def M0 (T:Z2) (a:TypeId) (σ:Ρ) (x:Ψ):Zi:=match T a with
 | some i=>match i.Z3,x with
  | .slice _,.ms id n _ len=>match σ[id]? with
   | some (.cells _ _ l)=>if l.length=n then .ok (.z (.int .i64 len)) σ else .bad
   | _=>.bad
  | _,_=>.bad
 | none=>.bad
theorem wP (c:ZL P T) (h:Holds S B σ H) (f j:TypeId) {x:Ψ} {v:Value} (g:Θ S B σ x v):Zv P (Builtin.len_ #[f] j #[v]) S B H σ ((H2 T f x).YX σ):=by
 unfold H2;cases hi:T f with
 | none=>exact .bad
 | some i=>
  simp only;have d:∀(K:Ψ->Ρ->Prop) (n:Int),K (.z (.int .i64 n)) σ->Χ P (pure (goInt n):Sem Value) H (XS S B H σ K) (λ_ _=>False):=λK n a=>Χ.pure' (.same h a (.z _));split
  .rename_i s b;cases g;intro K a;unfold Builtin.len_;refine Χ.bind' (c.Z3 hi ?_);rw[b];exact d K _ a
  .rename_i e ex k l b;obtain⟨base,cap,rfl,_⟩:=TG g;intro K a;unfold Builtin.len_;refine Χ.bind' (c.Z3 hi ?_);rw[b];exact d K _ a
  .rename_i e _ len _ b;cases g;intro K a;unfold Builtin.len_;refine Χ.bind' (c.Z3 hi ?_);rw[b];exact d K _ a
  .rename_i n e b;intro K a;unfold Builtin.len_;refine Χ.bind' (c.Z3 hi ?_);rw[b];cases v<;>exact d K _ a
  .exact .bad
theorem wO (d:ZL P T) (f:Holds S B σ H) (a g:TypeId) {x:Ψ} {v:Value} (h:Θ S B σ x v):Zv P (Builtin.len_ #[a] g #[v]) S B H σ (M0 T a σ x):=by
 unfold M0;cases hi:T a with
 | none=>exact .bad
 | some i=>
  simp only;split
  .rename_i e id n j len m;split
   .rename_i t k l o;split
    .rename_i r;intro K p;cases h with
     | ms cap b c s u w y=>
      unfold Builtin.len_;refine Χ.bind' (d.Z3 hi ?_);rw[m];exact Χ.pure' (.same f p (.z _))
     | Wu v b c=>rw[o] at b;cases b;simp only[Row.Xx] at c;omega
    .exact .bad
   .exact .bad
  .exact .bad
def LN (T:Z2) (src dst:TypeId) (x:Ψ):Zl:=match T src,T dst with
 | some _,some j=>match j.Z3,x with
  | .int k,.z (.int _ n)=>.ok (.z (.int k (k.wrap n)))
  | _,_=>.bad
 | _,_=>.bad
theorem wN (a:ZL P T) (b:Holds S B σ H) (src dst:TypeId) {x:Ψ} {v:Value} (c:Θ S B σ x v):Zv P (convert src dst v) S B H σ ((LN T src dst x).YX σ):=by
 unfold LN;split
 .rename_i i j hi d;split
  .rename_i k kk n e;cases c;intro K f;unfold convert;refine Χ.bind' (a.Z3 hi (Χ.bind' (a.Z3 d ?_)));rw[e];exact Χ.pure' (.same b f (.z _))
  .exact .bad
 .exact .bad
def H0 (l:ψ):Zl:=match l with
 | [.z (.int k x),.z (.int _ y)]=>.ok (.z (.int k (if y > x then y else x)))
 | _=>.bad
theorem wM (c:Holds S B σ H) (ts:Array TypeId) (d:TypeId) {a b:Ψ} {u v:Value} (f:Θ S B σ a u) (g:Θ S B σ b v):Zv P (Builtin.max_ ts d #[u,v]) S B H σ ((H0 [a,b]).YX σ):=by
 unfold H0;split
 .rename_i k x kk y e;simp at e;obtain⟨rfl,rfl⟩:=e;cases f;cases g;intro K h;exact Χ.pure' (.same c h (.z _))
 .exact .bad
end
def Uc (d:TypeDesc) (x y:Value):Option Bool:=match d,x,y with
 | .int _,.int k a,.int c b=>if k=c then some (a==b) else none
 | .string,.string a,.string b=>some (a==b)
 | .bool,.bool a,.bool b=>some (a==b)
 | _,_,_=>none
def VH:List (TypeDesc×Nat)->ψ->ψ->Option Bool
 | [],_,_=>some true
 |(d,o)::r,a,e=>match a[o]?,e[o]? with
  | some (.z x),some (.z y)=>match Uc d x y,VH r a e with
   | some b,some c=>some (b&&c)
   | _,_=>none
  | _,_=>none
def aeqv (T:Z2) (f:TypeId) (a b:Ψ):Option Bool:=match T f with
 | some i=>match a,b with
  | .z x,.z y=>if Us i.Z3 then Uc i.Z3 x y else none
  | .Z6 d,.Z6 e=>match i.eqs with|some c=>if d.length=c.length/\e.length=c.length then VH c d e else none|none=>none
  | _,_=>none
 | none=>none
section
variable {P:Program} {T:Z2} {S:ς} {B:δ} {H:Υ} {σ:Ρ}
theorem Χ.forIn_nil {b a:Type} {c:a} {f:b->a->Sem (ForInStep a)} {G:Υ} {K:a->Υ->Prop} {E:Value->Υ->Prop} (h:K c G):Χ P (forIn ([]:List b) c f) G K E:=by
 rw[List.forIn_nil];exact h
theorem Χ.forIn_cons {d c:Type} {a:d} {l:List d} {e:c} {f:d->c->Sem (ForInStep c)} {G:Υ} {K:c->Υ->Prop} {E:Value->Υ->Prop}
  (h:Χ P (f a e) G (λr G'=>match r with|.done b=>K b G'|.yield b=>Χ P (forIn l b f) G' K E) E):Χ P (forIn (a::l) e f) G K E:=by
 rw[List.forIn_cons];refine Χ.bind' (Χ.mono (λr G' g=>?_) (λ_ _ h=>h) _ h);cases r with
 | done b=>exact Χ.pure' g
 | yield b=>exact g
theorem forIn_range {a:Type} (m:Nat) (b:a) (f:Nat->a->Sem (ForInStep a)):forIn [:m] b f=forIn (List.range m) b f:=by
 rw[Std.Legacy.Range.forIn_eq_forIn_range'];simp[Std.Legacy.Range.size,I1]
theorem Fv {c:TypeId} {d:TypeDesc} (hd:P.underlying c=some d) (f:Us d=true) {x y:Value} {b:Bool} (h:Uc d x y=some b) {n:Nat} {G:Υ} {K:Bool->Υ->Prop} {E:Value->Υ->Prop} (a:K b G):Χ P (Op.equalIn (n+1) c x y) G K E:=by
 unfold Op.equalIn;refine Χ.bind' (Χ.underlying hd ?_);unfold Uc at h;split at h
 .split at h
  .rename_i e;subst e;cases h;simp only[if_true];exact Χ.pure' a
  .cases h
 .cases h;exact Χ.pure' a
 .cases h;exact Χ.pure' a
 .cases h
def Fu (a:ψ) (vs:ν):Prop:=∀(o:Nat) (v:Value),a[o]?=some (Ψ.z v)->vs[o]?=some v
theorem Kj {b:ψ} {vs:ν} (h:Θ S B σ (.Z6 b) (.agg vs)):Fu b vs:=λo v hv=>by
 cases h with
 | Z6 _ c d=>
  have e:o<vs.size:=by rw[<-c];exact(ZR.1 hv).1
  have a:=YS e
  have:=d o _ _ hv a;generalize vs[o]=u at this a;cases this;exact a
theorem Ki {a:TypeId} {d:TypeDesc} (hd:P.underlying a=some d) (b:Us d=true) {vs:ν} {o:Nat} {v:Value} (hv:vs[o]?=some v) {G:Υ} {K:Value->Υ->Prop} {E:Value->Υ->Prop} (c:K v G):Χ P (part a vs o) G K E:=by
 unfold part;refine Χ.bind' (Χ.isAgg hd ?_);have:V3 d=false:=by cases d<;>first|rfl|cases b
 rw[this];simp only[Xq,if_false,hv];exact Χ.pure' c
theorem wL {u v:ψ} {vs t:ν} (Q:Fu u vs) (R:Fu v t) {w:TypeId} {S:List (TypeDesc×Nat)} (A:FD P w (some S)) {b:Bool} (h:VH S u v=some b) {n:Nat} {G:Υ} {K:Bool->Υ->Prop} {E:Value->Υ->Prop} (T:K b G) :
  Χ P (Op.equalIn (n+2) w (.agg vs) (.agg t)) G K E:=by
 obtain⟨_,_,A⟩:=A;rcases A with⟨B,C,V,D,W⟩|⟨m,e,d,f,C,F,p,X,Y,D⟩
 .unfold Op.equalIn;refine Χ.bind' (Χ.underlying C ?_);simp only;refine Χ.bind' ?_;show Χ P (if P.stoodInHeld w=true then _ else _) G K E;rw[V];simp only[Xq,if_false];have H:∀(l:List Field) (c:Bool),(∀f∈l,f.name≠ "_" /\ ∃d,P.underlying f.type=some d/\Us d=true)->VH (l.map λf=>((P.underlying f.type).getD .invalid,f.offset)) u v=some c->
    ∀k:Option Bool×PUnit->Υ->Prop,k (if c then none else some false,⟨⟩) G->Χ P (forIn l (none,⟨⟩) λ(f:Field) (_:Option Bool×PUnit)=>if f.name≠ "_" then do
     let a <-part f.type vs f.offset
     let b <-part f.type t f.offset
     let r <-Op.equalIn (n+1) f.type a b
     if(!r)=true then pure (ForInStep.done (some false,⟨⟩)) else pure (ForInStep.yield (none,⟨⟩))
    else pure (ForInStep.yield (none,⟨⟩))) G k E:=by
   intro l
   induction l with
   | nil=>intro c _ j k o;simp[VH] at j;subst j;exact .forIn_nil (by simpa using o)
   | cons f l I=>
    intro c U j k o;obtain⟨Z,d,hd,p⟩:=U f Ω;simp only[V6,VH,hd,Option.getD_some] at j;split at j<;>try cases j
    rename_i x y J L;split at j<;>try cases j
    rename_i M c1 N O;refine .forIn_cons ?_;rw[if_pos Z];refine Χ.bind' (Ki hd p (Q _ _ J) (Χ.bind' (Ki hd p (R _ _ L) (Χ.bind' (Fv hd p N ?_)))));cases M with
    | false=>exact Χ.pure' (by simpa using o)
    | true=>exact Χ.pure' (I c1 (λg aa=>U g (by simp[aa])) O k (by simpa using o))
  refine Χ.bind' ?_;have ab:(forIn B (none,⟨⟩) λ(f:Field) (_:Option Bool×PUnit)=>if f.name≠ "_" then do
     let a <-part f.type vs f.offset
     let b <-part f.type t f.offset
     let r <-Op.equalIn (n+1) f.type a b
     if(!r)=true then pure (ForInStep.done (some false,⟨⟩)) else pure (ForInStep.yield (none,⟨⟩))
    else pure (ForInStep.yield (none,⟨⟩)):Sem (Option Bool×PUnit))=forIn B.toList (none,⟨⟩) _:=(Array.forIn_toList ..).symm
  refine Eq.mpr (congrArg (λs=>Χ P s G _ E) ab) ?_;refine H B.toList b W (by rw[<-D];exact h) _ ?_;cases b<;>exact Χ.pure' T
 .unfold Op.equalIn;refine Χ.bind' (Χ.underlying C ?_);simp only;refine Χ.bind' (Χ.sizeOf X ?_);rw[Y];have H:∀(l:κ) (c:Bool),VH (l.map λi=>(d,i)) u v=some c->
    ∀k:Option Bool×PUnit->Υ->Prop,k (if c then none else some false,⟨⟩) G->Χ P (forIn l (none,⟨⟩) λ(i:Nat) (_:Option Bool×PUnit)=>do
     let a <-part e vs (i*1)
     let b <-part e t (i*1)
     let r <-Op.equalIn (n+1) e a b
     if(!r)=true then pure (ForInStep.done (some false,⟨⟩)) else pure (ForInStep.yield (none,⟨⟩))) G k E:=by
   intro l
   induction l with
   | nil=>intro c j k o;simp[VH] at j;subst j;exact .forIn_nil (by simpa using o)
   | cons i l I=>
    intro c j k o;simp only[V6,VH] at j;split at j<;>try cases j
    rename_i x y J L;split at j<;>try cases j
    rename_i M c1 N O;refine .forIn_cons ?_;refine Χ.bind' (Ki F p (by rw[SI];exact Q _ _ J) (Χ.bind' (Ki F p (by rw[SI];exact R _ _ L) (Χ.bind' (Fv F p N ?_)))));cases M with
    | false=>exact Χ.pure' (by simpa using o)
    | true=>exact Χ.pure' (I c1 O k (by simpa using o))
  refine Χ.bind' ?_;rw[forIn_range];refine H (List.range m) b (by rw[<-D];exact h) _ ?_;cases b<;>exact Χ.pure' T
theorem Ft (j:ZL P T) {c:TypeId} {a b:Ψ} {v w:Value} {r:Bool} (d:Θ S B σ a v) (e:Θ S B σ b w) (h:aeqv T c a b=some r) {K:Bool->Υ->Prop} {E:Value->Υ->Prop} (f:K r H):Χ P (Op.equal c v w) H K E:=by
 unfold aeqv at h;split at h
 .rename_i i hi;obtain⟨⟨k,g⟩,_⟩:=j c i hi;split at h
  .split at h
   .rename_i l;cases d;cases e;exact Fv k l h f
   .cases h
  .split at h
   .rename_i u m;rw[m] at g;split at h<;>try cases h
    cases d with
    | Z6 vs n o=>cases e with
     | Z6 p s t=>exact wL (Kj (.Z6 vs n o)) (Kj (.Z6 p s t)) g h f
   .cases h
  .cases h
 .cases h
theorem Cb (a b:ByteArray):(a==b)=(a.data==b.data):=by
 cases a;cases b;rfl
theorem wK {a b:ByteArray} (h:(a==b)=true):a=b:=by
 rw[Cb] at h;have:=eq_of_beq h;cases a;cases b;simp at this;simp[this]
theorem wJ (a:ByteArray):(a==a)=true:=by rw[Cb];exact beq_self_eq_true _
theorem Ca {d:TypeDesc} {x y:Value} (h:Uc d x y=some true):x=y/\∀n,Instr.sameBits n x x=true:=by
 unfold Uc at h;split at h
 .split at h
  .rename_i e;subst e;simp only[Q6,beq_iff_eq] at h;subst h;exact⟨U,λn=>by cases n<;>simp[Instr.sameBits]⟩
  .cases h
 .simp only[Q6] at h;have:=wK h;subst this;exact⟨U,λn=>by cases n<;>simp[Instr.sameBits,wJ]⟩
 .simp only[Q6,beq_iff_eq] at h;subst h;exact⟨U,λn=>by cases n<;>simp[Instr.sameBits]⟩
 .cases h
theorem wI {g i:ψ}:∀(f:List (TypeDesc×Nat)),VH f g i=some true->∀o,o∈f.map (·.2)->∃x,g[o]?=some (.z x)/\i[o]?=some (.z x)/\∀n,Instr.sameBits n x x=true:=by
 intro f
 induction f with
 | nil=>intro _ o e;simp at e
 | cons a f j=>
  obtain⟨d,p⟩:=a;intro h o e;simp only[VH] at h;split at h<;>try cases h
  rename_i x y k l;split at h<;>try cases h
  rename_i b c m r;simp only[Q6,Wm] at h;obtain⟨rfl,rfl⟩:=h;simp only[V6,Yd] at e;rcases e with rfl|e
  .obtain⟨s,t⟩:=Ca m;subst s;exact⟨x,k,l,t⟩
  .exact j r o e
theorem B9 (C:ZL P T) {m:TypeId} {a b:Ψ} {v w:Value} (r:Θ S B σ a v) (s:Θ S B σ b w) (h:aeqv T m a b=some true):v=w/\a=b/\∀n,Instr.sameBits (n+1) v v=true:=by
 unfold aeqv at h;split at h
 .rename_i i hi;obtain⟨⟨O,t⟩,_⟩:=C m i hi;split at h
  .split at h
   .obtain⟨e,f⟩:=Ca h;subst e;cases r;cases s;exact⟨U,U,λn=>f _⟩
   .cases h
  .rename_i u y;split at h
   .rename_i d D;rw[D] at t;split at h<;>try cases h
    rename_i E;obtain⟨Q,R⟩:=E;have F:=t.2.1;have get:∀o,o<d.length->∃x,u[o]?=some (.z x)/\y[o]?=some (.z x)/\∀n,Instr.sameBits n x x=true:=λo c=>wI d h o (by rw[F];simpa using c);have H:u=y:=by
     apply U';intro o;by_cases c:o<d.length
     .obtain⟨x,g,j,_⟩:=get o c;rw[g,j]
     .rw[W4 I,W4 I]
    cases r with
    | Z6 vs g j=>cases s with
     | Z6 k J K=>
      have A:∀o,o<d.length->∃x,vs[o]?=some x/\k[o]?=some x/\∀n,Instr.sameBits n x x=true:=λo c=>by
       obtain⟨x,c1,c2,l⟩:=get o c;exact⟨x,Kj (.Z6 vs g j) o x c1,Kj (.Z6 k J K) o x c2,l⟩
      have L:vs=k:=by
       apply L';intro o;by_cases c:o<d.length
       .obtain⟨x,c1,c2,_⟩:=A o c;rw[c1,c2]
       .rw[Md I,Md I]
      subst L;refine⟨U,by rw[H],λn=>?_⟩;simp only[Instr.sameBits,beq_self_eq_true,Bool.true_and,XJ];intro p M;obtain⟨o,c⟩:=TU M;rw[List.getElem?_zip_eq_some] at c;have N:o<d.length:=by
       have:=(ZR.1 c.1).1;simp at this;omega
      obtain⟨x,c1,_,l⟩:=A o N;rw[Xr,c1] at c;obtain⟨e,f⟩:=c;cases e;rw[<-WU f];exact l n
   .cases h
  .cases h
 .cases h
end
def WI (T:Z2) (kt:TypeId) (k:Ψ):List (Ψ×Ψ)->Nat->Option (Option (Nat×Ψ))
 | [],_=>some none
 | e::r,i=>match aeqv T kt k e.1 with
  | some b=>bif b then some (some (i,e.2)) else WI T kt k r (i+1)
  | none=>none
def PZ (T:Z2) (kt:TypeId) (k:Ψ):Bool:=match T kt with
 | some i=>match k with
  | .z _=>Us i.Z3
  | .Z6 a=>match i.Z3,i.eqs with
   | .array _ _,some b=>a.length==b.length&&(VH b a a).isSome
   | _,_=>false
  | _=>false
 | none=>false
section
variable {P:Program} {T:Z2} {S:ς} {B:δ} {H:Υ} {σ:Ρ}
theorem B8 {a:TypeId} {d:TypeDesc} (hd:P.underlying a=some d) (b:Us d=true) {v:Value} {em:Bool} {n:Nat} {G:Υ} {K:Unit->Υ->Prop} {E:Value->Υ->Prop} (c:K () G):Χ P (Instr.checkKey em (n+1) a v) G K E:=by
 unfold Instr.checkKey;refine Χ.bind' (Χ.underlying hd ?_);cases d<;>first|(cases b;done)|(cases v<;>exact Χ.pure' c)
theorem HZ (w:ZL P T) {kt:TypeId} {k:Ψ} {v:Value} (A:Θ S B σ k v) (h:PZ T kt k=true) {em:Bool} {G:Υ} {K:Unit->Υ->Prop} {E:Value->Υ->Prop} (r:K () G):Χ P (Instr.checkKey em 10000 kt v) G K E:=by
 unfold PZ at h;split at h
 .rename_i i hi;obtain⟨⟨s,g⟩,_⟩:=w kt i hi;split at h
  .exact B8 (n:=9999) s h r
  .rename_i j;split at h
   .rename_i n e U C D;rw[D] at g;simp only[Wm,beq_iff_eq] at h;obtain⟨_,_,g⟩:=g;rcases g with⟨V,o,_⟩|⟨m,p,d,f,o,t,u,F,H,I⟩
    .rw[s,C] at o;cases o
    .cases A with
     | Z6 vs J L=>
      have M:=Kj (.Z6 vs J L)
      show Χ P (Instr.checkKey em (9999+1) kt _) G K E;unfold Instr.checkKey;refine Χ.bind' (Χ.underlying o ?_);simp only;rw[forIn_range];refine Χ.bind' ?_;have c:∃b,VH ((List.range m).map λi=>(d,i)) j j=some b:=by
       rw[<-I];exact Option.isSome_iff_exists.1 h.2
      have N:∀(l:κ) (b:Bool),VH (l.map λi=>(d,i)) j j=some b->Χ P (forIn l PUnit.unit λ(i:Nat) (_:PUnit)=>do
        let a <-sizeOf p
        let b <-part p vs (i*a)
        Instr.checkKey em 9999 p b
        pure (ForInStep.yield PUnit.unit)) G (λ_ G'=>K () G') E:=by
       intro l
       induction l with
       | nil=>intro b _;exact .forIn_nil r
       | cons i l O=>
        intro b c;simp only[V6,VH] at c;split at c<;>try cases c
        rename_i x y Q W;split at c<;>try cases c
        rename_i X c1 Y R;refine .forIn_cons ?_;refine Χ.bind' (Χ.sizeOf F ?_);rw[H];refine Χ.bind' (Ki t u (by rw[SI];exact M _ _ Q) ?_);refine Χ.bind' (B8 (n:=9998) t u ?_);exact Χ.pure' (O c1 R)
      obtain⟨b,c⟩:=c;exact Χ.mono (λ_ G' h=>Χ.pure' h) (λ_ _ h=>h) _ (N (List.range m) b c)
   .cases h
  .cases h
 .cases h
def MZ (S:ς) (B:δ) (σ:Ρ) (es:List (Ψ×Ψ)) (a:List MapEntry):Prop:=es.length=a.length/\∀(i:Nat) (e:Ψ×Ψ) (y:MapEntry),es[i]?=some e->a[i]?=some y->Θ S B σ e.1 y.key/\Θ S B σ e.2 y.val
theorem MZ.tail {e:Ψ×Ψ} {es:List (Ψ×Ψ)} {y:MapEntry} {a:List MapEntry} (h:MZ S B σ (e::es) (y::a)):(Θ S B σ e.1 y.key/\Θ S B σ e.2 y.val)/\MZ S B σ es a:=
 ⟨h.2 0 e y U U,⟨by simpa using h.1,λi b c d f=>h.2 (i+1) b c d f⟩⟩
theorem Kh {kt:TypeId} {k:Ψ}:∀(es:List (Ψ×Ψ)) (n i:Nat) (a:Ψ),WI T kt k es n=some (some (i,a))->n<=i/\∃c,es[i-n]?=some (c,a)/\aeqv T kt k c=some true:=by
 intro es
 induction es with
 | nil=>intro n i a h;cases h
 | cons e es d=>
  intro n i a h;unfold WI at h;split at h
  .rename_i b f;cases b with
   | true=>cases h;exact⟨ZY _,e.1,Ω,f⟩
   | false=>
    obtain⟨l,c,g,j⟩:=d (n+1) i a h;refine⟨I,c,?_,j⟩;have:i-n=(i-(n+1))+1:=I;rw[this,List.getElem?_cons_succ];exact g
  .cases h
def Uq (a:List MapEntry) (b:Nat) (r:Option (Nat×Ψ)):Option (Nat×Value):=r.map λx=>(x.1,((a[x.1-b]?).map (·.val)).getD undef)
theorem wH {d:TypeDesc} {x y:Value} {b:Bool} (h:Uc d x y=some b):Instr.sameNow d x y=some b:=by
 unfold Uc at h;split at h
 .split at h
  .rename_i e;subst e;cases h;simp[Instr.sameNow]
  .cases h
 .cases h;rfl
 .cases h;rfl
 .cases h
theorem wG (s:ZL P T) {kt:TypeId} {i:V2} (hi:T kt=some i) {k:Ψ} {v:Value} (j:Θ S B σ k v) (l:∃u,k=.z u):∀(es:List (Ψ×Ψ)) (a:List MapEntry) (n:Nat) (r:Option (Nat×Ψ)),MZ S B σ es a->WI T kt k es n=some r->
  Instr.findNow i.Z3 v a n=some (Uq a n r):=by
 obtain⟨u,rfl⟩:=l;cases j;intro es
 induction es with
 | nil=>
  intro a n r d h;have:a=[]:=by have:=d.1;simpa using this.symm
  subst this;cases h;rfl
 | cons e es m=>
  intro a n r d h;cases a with
  | nil=>have:=d.1;simp at this
  | cons y a=>
   obtain⟨⟨g,t⟩,o⟩:=d.tail;unfold WI at h;split at h
   .rename_i b c;have hv:Uc i.Z3 v y.key=some b:=by
     unfold aeqv at c;rw[hi] at c;simp only at c;split at c
     .rename_i x w f p;rw[p] at g;cases g;cases f;split at c
      .exact c
      .cases c
     .rename_i f _;cases f
     .cases c
    unfold Instr.findNow;rw[wH hv];cases b with
    | true=>cases h;simp[Uq]
    | false=>
     have:=m a (n+1) r o h;simp only[this];congr 1;unfold Uq;cases r with
     | none=>rfl
     | some x=>
      simp only[Option.map_some];have A:n+1<=x.1:=(Kh es (n+1) x.1 x.2 h).1;have:x.1-n=(x.1-(n+1))+1:=I;rw[this,List.getElem?_cons_succ]
   .cases h
theorem wF (f:ZL P T) {kt:TypeId} {k:Ψ} {v:Value} (g:Θ S B σ k v) {E:Value->Υ->Prop}:∀(es:List (Ψ×Ψ)) (a:List MapEntry) (n:Nat) (r:Option (Nat×Ψ)) (K:Option (Nat×Value)->Υ->Prop),MZ S B σ es a->WI T kt k es n=some r->
  K (Uq a n r) H->Χ P (Instr.findAsking kt v a n) H K E:=by
 intro es
 induction es with
 | nil=>
  intro a n r K c h d;have:a=[]:=by have:=c.1;simpa using this.symm
  subst this;cases h;exact Χ.pure' d
 | cons e es i=>
  intro a n r K c h d;cases a with
  | nil=>have:=c.1;simp at this
  | cons y a=>
   obtain⟨⟨j,o⟩,l⟩:=c.tail;unfold WI at h;split at h
   .rename_i b m;unfold Instr.findAsking;refine Χ.bind' (Ft f g j m ?_);cases b with
    | true=>cases h;simp only[if_true];exact Χ.pure' (by simpa[Uq] using d)
    | false=>
     simp only[Xq,if_false];refine i a (n+1) r K l h ?_;have:Uq (y::a) n r=Uq a (n+1) r:=by
      unfold Uq;cases r with
      | none=>rfl
      | some x=>
       simp only[Option.map_some];have p:n+1<=x.1:=(Kh es (n+1) x.1 x.2 h).1;have:x.1-n=(x.1-(n+1))+1:=I;rw[this,List.getElem?_cons_succ]
     rw[<-this];exact d
   .cases h
theorem HY (c:ZL P T) {kt:TypeId} {k:Ψ} {v:Value} (f:Θ S B σ k v) (b:PZ T kt k=true) {es:List (Ψ×Ψ)} {a:List MapEntry} {r:Option (Nat×Ψ)} (d:MZ S B σ es a) (h:WI T kt k es 0=some r) {K:Option (Nat×Value)->Υ->Prop} {E:Value->Υ->Prop} (e:K (Uq a 0 r) H) :
  Χ P (Instr.findKey kt v a) H K E:=by
 unfold Instr.findKey;unfold PZ at b;split at b
 .rename_i i hi;refine Χ.bind' (c.Z3 hi ?_);split at b
  .rw[wG c hi f ⟨_,rfl⟩ es a 0 r d h];exact Χ.pure' e
  .rename_i m;cases f with
   | Z6 vs g j=>
    cases a with
    | nil=>
     have:es=[]:=by have:=d.1;simpa using this
     subst this;cases h;exact Χ.pure' e
    | cons y a=>
     have l:Instr.findNow i.Z3 (.agg vs) (y::a) 0=none:=by
      unfold Instr.findNow;have:Instr.sameNow i.Z3 (.agg vs) y.key=none:=by unfold Instr.sameNow;cases i.Z3<;>rfl
      rw[this]
     rw[l];exact wF c (.Z6 vs g j) es (y::a) 0 r K d h e
  .cases b
 .cases b
def U3 (σ:Ρ) (id:Nat):Bool:=σ.all λr=>match r with|.iter m _ _=>m != id|_=>true
theorem Fs {id:Nat} (h:U3 σ id=true):∀(j:Nat) left a,σ[j]?≠some (Row.iter id left a):=λj left a b=>by
 have:=XJ.1 h _ (ZH b);simp at this
def PY (T:Z2) (a:TypeId):Option (TypeId×TypeId):=match T a with
 | some i=>match i.Z3 with|.map k v=>some (k,v)|_=>none
 | none=>none
theorem Kg {a kt vt:TypeId} (h:PY T a=some (kt,vt)):∃i,T a=some i/\i.Z3=.map kt vt:=by
 unfold PY at h;split at h
 .rename_i i hi;split at h
  .rename_i k v b;cases h;exact⟨i,hi,b⟩
  .cases h
 .cases h
def Fq (σ:Ρ):Zi:=.ok (.mp σ.length) (σ++[.map []])
theorem wE (c:Holds S B σ H) (d:TypeId):Zv P (Instr.makeMap d none) S B H σ (Fq σ):=by
 intro K f;unfold Instr.makeMap;refine Χ.bind' ?_;refine λr g=>?_;have h:∀b,(∀N,some (r,0)≠some (b,N))->Vk H (H.Zq r (.map #[] 0)) b:=λb k=>by
  have l:b≠r:=λe=>by subst e;exact k _ U
  exact⟨λo=>rfl,U,by simp[Υ.Zq,l]⟩
 have m:ZJ S S B (B++[some (r,0)]) σ (σ++[.map []])->Wi S (B++[some (r,0)]) (σ++[.map []]) (H.Zq r (.map #[] 0)) (.map []) (some (r,0)):=λ_=>
  ⟨r,0,#[],0,U,by simp[Υ.Zq],U,λi e y a=>by simp at a,λi j y z a=>by simp at a⟩
 obtain⟨a,n,p⟩:=c.push (λb N e=>by cases e;exact g) h m;exact Χ.pure' ⟨_,_,_,_,f,n,a,p,.mp (es:=[]) (N:=0) (M4 σ _) (M3 c.len _)⟩
def HX (T:Z2) (d:TypeId) (b:Bool) (σ:Ρ) (e k:Ψ):Zi:=match PY T d,e with
 | some (kt,vt),.mp id=>match σ[id]?,T vt with
  | some (.map es),some c=>if PZ T kt k=true then match WI T kt k es 0 with
   | some (some (_,a))=>.ok (if b then .ε [a,.z (.bool true)] else a) σ
   | some none=>.ok (if b then .ε [Wh c.zero,.z (.bool false)] else Wh c.zero) σ
   | none=>.bad else .bad
  | _,_=>.bad
 | _,_=>.bad
theorem LM (d:Holds S B σ H) {id b N:Nat} {es:List (Ψ×Ψ)} (f:σ[id]?=some (.map es)) (g:B[id]?=some (some (b,N))):∃a c,H.obj b=some (.map a c)/\Rs S B σ es a c:=by
 obtain⟨j,k,a,c,e,h,i⟩:=d.row id _ _ f g;cases e;exact⟨a,c,h,i⟩
theorem Rs.MY {es:List (Ψ×Ψ)} {c:Array MapEntry} {f:Nat} (h:Rs S B σ es c f):MZ S B σ es c.toList:=
 ⟨by simpa using h.1,λi e y g d=>by rw[Xr] at d;obtain⟨a,b,_⟩:=h.2.1 i e y g d;exact⟨a,b⟩⟩
theorem wD (m:ZL P T) (j:Holds S B σ H) {o:TypeId} {f:Bool} {mp k:Ψ} {u v:Value} (J:Θ S B σ mp u) (A:Θ S B σ k v):Zv P (Instr.lookup o u v f) S B H σ (HX T o f σ mp k):=by
 unfold HX;split
 .rename_i kt vt id L;obtain⟨i,hi,M⟩:=Kg L;split
  .rename_i es Y s O;split
   .rename_i C;cases J with
    | mp l Q=>
     rename_i b N;rw[s] at l;cases l;obtain⟨d,Z,R,t⟩:=LM j s Q;have D:∀(r:Option (Nat×Ψ)) (w:Zi),WI T kt k es 0=some r->(∀(K:Ψ->Ρ->Prop),w.holds K->∃(x:Ψ) (y:Value),True/\Χ P (do
       let (v,V) <-match Uq d.toList 0 r with
        | some (_,v)=>pure (v,true)
        | none=>do pure (<-zeroValue vt,false)
       pure (if f then .tuple #[v,.bool V] else v)) H (XS S B H σ K) (λ_ _=>False))->Zv P (Instr.lookup o (.map (some b)) v f) S B H σ w:=λr w g W K e=>by
      unfold Instr.lookup;refine Χ.bind' (m.Z3 hi ?_);rw[M];refine Χ.bind' ?_;refine⟨_,R,U,?_⟩;refine Χ.bind' (Χ.pure' ?_);refine Χ.bind' (HZ m A C ?_);refine Χ.bind' (HY m A C t.MY g ?_);obtain⟨_,_,_,h⟩:=W K e;cases n:Uq d.toList 0 r with
      | none=>rw[n] at h;exact h
      | some p=>rw[n] at h;exact h
     split
     .rename_i c a g;refine D _ _ g λK e=>⟨a,undef,trivial,?_⟩;obtain⟨_,aa,E,_⟩:=Kh es 0 c a g;have F:c<d.size:=by have:=(ZR.1 E).1;rw[<-t.1];simpa using this
      have X:d[c]?=some d[c]:=YS F;obtain⟨_,I,_⟩:=t.2.1 c _ _ (by simpa using E) X;have n:Uq d.toList 0 (some (c,a))=some (c,d[c].val):=by simp[Uq,F]
      rw[n];refine Χ.bind' (Χ.pure' (Χ.pure' ?_));cases f with
      | true=>exact .same j e (LV I (.z _))
      | false=>exact .same j e I
     .rename_i g;refine D _ _ g λK e=>⟨.Zx,undef,trivial,?_⟩;refine Χ.bind' (m.zero O ?_);refine Χ.bind' (Χ.pure' (Χ.pure' ?_));cases f with
      | true=>exact .same j e (LV (QU _) (.z _))
      | false=>exact .same j e (QU _)
     .exact .bad
    | Uf v l=>rw[s] at l;cases l
   .exact .bad
  .exact .bad
 .exact .bad
def OZ (T:Z2) (a:TypeId) (σ:Ρ) (b k x:Ψ):Zi:=match PY T a,b with
 | some (kt,_),.mp id=>match σ[id]? with
  | some (.map es)=>if PZ T kt k=true/\U3 σ id=true then match WI T kt k es 0 with
   | some (some (i,_))=>.ok .Zx (σ.set id (.map (es.set i (k,x))))
   | some none=>.ok .Zx (σ.set id (.map (es++[(k,x)])))
   | none=>.bad else .bad
  | _=>.bad
 | _,_=>.bad
theorem Fp (c:Holds S B σ H) {id b N:Nat} {es es':List (Ψ×Ψ)} {xs':Array MapEntry} {clock':Nat} (d:σ[id]?=some (.map es)) (f:B[id]?=some (some (b,N))) (g:U3 σ id=true) (h:∀{B':δ} {σ':Ρ},ZJ S S B B' σ σ'->Rs S B' σ' es' xs' clock') :
  Holds S (B.set id (some (b,N))) (σ.set id (.map es')) (H.Zq b (.map xs' clock'))/\Ext S B H S (B.set id (some (b,N))) (H.Zq b (.map xs' clock'))/\ZJ S S B (B.set id (some (b,N))) σ (σ.set id (.map es')):=
 c.Sc d trivial f (.inl ⟨es',U,U⟩) (λa i e=>.inl ⟨i,e⟩) (λa j _=>by
  have k:a≠b:=λe=>by subst e;exact j N U
  exact⟨λo=>rfl,U,by simp[Υ.Zq,k]⟩) Υ.Ks (Fs g) λl=>⟨b,N,xs',clock',U,by simp[Υ.Zq],h l⟩
theorem B7 (n:ZL P T) (M:Holds S B σ H) {aa:TypeId} {mp k x:Ψ} {u v w:Value} (ai:Θ S B σ mp u) (o:Θ S B σ k v) (ab:Θ S B σ x w):LU P (Instr.mapUpdate aa u v w) S B H σ (OZ T aa σ mp k x):=by
 unfold OZ;split
 .rename_i kt vt id aj;obtain⟨i,hi,ad⟩:=Kg aj;split
  .rename_i es s;split
   .rename_i ak;obtain⟨C,ae⟩:=ak;cases ai with
    | mp t O=>
     rename_i b N;rw[s] at t;cases t;obtain⟨l,Q,D,f⟩:=LM M s O;split
     .rename_i h a E;obtain⟨_,av,p,al⟩:=Kh es 0 h a E;simp only[Nat.sub_zero] at p;have af:h<es.length:=(ZR.1 p).1;have ag:h<l.size:=by rw[<-f.1];exact af
      have A:l[h]?=some l[h]:=YS ag;obtain⟨am,aw,an⟩:=f.2.1 h _ _ p A;obtain⟨ah,ax,ao⟩:=B9 n o am al;intro K R;unfold Instr.mapUpdate;refine Χ.bind' (n.Z3 hi ?_);rw[ad];refine Χ.bind' ⟨_,D,U,Χ.pure' ?_⟩;refine Χ.bind' (HZ n o C ?_);refine Χ.bind' (HY n o C f.MY E ?_);have ap:Uq l.toList 0 (some (h,a))=some (h,l[h].val):=by simp[Uq,ag]
      rw[ap];simp only[A,Option.map_some,Option.getD_some];unfold Instr.keyThatStays;rw[<-ah];simp only[ao,if_true];refine Χ.bind' (Χ.pure' ?_);obtain⟨V,W,X⟩:=Fp M (es':=es.set h (k,x)) (xs':=l.modify h λe=>{e with key:=v,val:=w}) (clock':=Q) s O ae λ{B' σ'} m=>by
       refine⟨by simp[f.1],λj e y c d=>?_,λj F y z c d Y=>?_⟩
       .rw[KR] at d;by_cases r:h=j
        .subst r;rw[Xs af] at c;rw[if_pos U,A] at d;cases c;cases d;exact⟨o.later m,ab.later m,an⟩
        .rw[Xj r] at c;rw[if_neg r] at d;obtain⟨c1,c2,J⟩:=f.2.1 j e y c d;exact⟨c1.later m,c2.later m,J⟩
       .have born:∀(j:Nat) (y:MapEntry),(l.modify h λe=>{e with key:=v,val:=w})[j]?=some y->∃L,l[j]?=some L/\y.born=L.born:=λj y g=>by
         rw[KR] at g;by_cases r:h=j
         .subst r;rw[if_pos U,A] at g;cases g;exact⟨_,A,U⟩
         .rw[if_neg r] at g;exact⟨y,g,U⟩
        obtain⟨L,c1,c2⟩:=born j y c;obtain⟨aq,J,ar⟩:=born F z d;rw[c2,ar];exact f.2.2 j F L aq c1 J Y
      exact⟨⟨_,D⟩,U,U,Χ.pure' ⟨S,_,_,_,R,W,V,X,.Zx _⟩⟩
     .rename_i E;intro K R;unfold Instr.mapUpdate;refine Χ.bind' (n.Z3 hi ?_);rw[ad];refine Χ.bind' ⟨_,D,U,Χ.pure' ?_⟩;refine Χ.bind' (HZ n o C ?_);refine Χ.bind' (HY n o C f.MY E ?_);simp only[Uq,Option.map_none];obtain⟨V,W,X⟩:=Fp M (es':=es++[(k,x)]) (xs':=l.push {key:=v,val:=w,born:=Q}) (clock':=Q+1) s O ae λ{B' σ'} m=>by
       refine⟨by simp[f.1],λj e y c d=>?_,λj F y z c d Y=>?_⟩
       .by_cases Z:j<es.length
        .rw[YN Z] at c;rw[Mb,if_neg (by rw[<-f.1];omega)] at d;obtain⟨c1,c2,J⟩:=f.2.1 j e y c d;exact⟨c1.later m,c2.later m,I⟩
        .rw[Xz I] at c;have au:j=es.length:=by
          have:=(ZR.1 c).1;simp at this;omega
         subst au;rw[Mb,if_pos f.1] at d;simp at c;subst c;cases d;exact⟨o.later m,ab.later m,Pe _⟩
       .rw[Mb] at c d;split at c
        .rename_i ah;split at d
         .omega
         .have:=(Tr.1 d).1;omega
        .split at d
         .cases d;have Z:=(Tr.1 c).1;have p:∃e,es[j]?=some e:=⟨_,Z4 (by rw[f.1];exact Z)⟩;obtain⟨e,p⟩:=p;exact(f.2.1 j e y p c).2.2
         .exact f.2.2 j F y z c d Y
      exact⟨⟨_,D⟩,U,U,Χ.pure' ⟨S,_,_,_,R,W,V,X,.Zx _⟩⟩
     .exact .bad
    | Uf v t=>rw[s] at t;cases t
   .exact .bad
  .exact .bad
 .exact .bad
end
section
variable {P:Program} {T:Z2} {S:ς} {B:δ} {H:Υ} {σ:Ρ}
def HW (T:Z2) (a:TypeId) (σ:Ρ) (b:Ψ):Zi:=match PY T a,b with
 | some _,.mp id=>match σ[id]? with
  | some (.map es)=>.ok (.it σ.length) (σ++[.iter id es none])
  | _=>.bad
 | _,_=>.bad
theorem wC (D:ZL P T) (h:Holds S B σ H) {n:TypeId} {mp:Ψ} {u:Value} (E:Θ S B σ mp u):Zv P (Instr.range n u) S B H σ (HW T n σ mp):=by
 unfold HW;split
 .rename_i p id F;obtain⟨i,hi,I⟩:=Kg (kt:=p.1) (vt:=p.2) F;split
  .rename_i es a;cases E with
   | mp c s=>
    rename_i b N;rw[a] at c;cases c;obtain⟨t,d,k,l⟩:=LM h a s;intro K J;unfold Instr.range;refine Χ.bind' (D.Z3 hi ?_);rw[I];refine Χ.bind' ?_;refine⟨_,k,U,?_⟩;refine Χ.bind' (Χ.pure' ?_);refine Χ.bind' ?_;refine λr w=>?_;have m:b≠r:=λe=>by subst e;rw[w.2.2.1] at k;cases k
    have x:id<σ.length:=(ZR.1 a).1
    have L:∀f,(∀N,some (r,0)≠some (f,N))->Vk H (H.Zq r (.mapIter (some b) d #[] d)) f:=λf M=>by
     have m:f≠r:=λe=>by subst e;exact M _ U
     exact⟨λo=>rfl,U,by simp[Υ.Zq,m]⟩
    have O:ZJ S S B (B++[some (r,0)]) σ (σ++[.iter id es none])->Wi S (B++[some (r,0)]) (σ++[.iter id es none]) (H.Zq r (.mapIter (some b) d #[] d)) (.iter id es none) (some (r,0)):=λA=>by
     refine⟨r,0,b,N,t,d,#[],U,by rw[YN (by rw[h.len];exact x)];exact s,⟨es,by rw[YN x];exact a⟩,by simp[Υ.Zq],by simp[Υ.Zq,m,k],⟨t.toList,?_,by simpa using l.1,λi e y Q R=>?_⟩,λy V=>?_,λe g=>by cases g⟩
     .exact(List.filter_eq_self.2 λe _=>Ω).symm
     .obtain⟨c1,c2⟩:=l.MY.2 i e y Q R;exact⟨c1.later A,c2.later A⟩
     .obtain⟨j,C,rfl⟩:=Array.getElem_of_mem V;have g:∃e,es[j]?=some e:=⟨_,Z4 (by rw[l.1];exact C)⟩;obtain⟨e,g⟩:=g;exact(l.2.1 j e _ g (YS C)).2.2
    obtain⟨W,X,Y⟩:=h.push (λf Z e=>by cases e;exact w) L O;exact Χ.pure' ⟨_,_,_,_,J,X,W,Y,.it (M4 σ _) (M3 h.len _)⟩
   | Uf v c=>rw[a] at c;cases c
  .exact .bad
 .exact .bad
theorem wB {c:Type} (f:c->Nat):∀(l:List c) (i:Nat) (e:c),(l.map f).Nodup->l[i]?=some e->l.filter (λx=>f x != f e)=l.eraseIdx i:=by
 intro l
 induction l with
 | nil=>intro i e _ h;simp at h
 | cons a l d=>
  intro i e b h;simp only[V6,Q5] at b;cases i with
  | zero=>
   simp at h;subst h;rw[L8];simp only[bne_self_eq_false,Xq,if_false,List.eraseIdx_cons_zero];rw[List.filter_eq_self];intro x g;simp only[bne_iff_ne,ne_eq];intro e;exact b.1 (e▸List.mem_map_of_mem g)
  | succ i=>
   simp only[List.getElem?_cons_succ] at h;have j:f a≠f e:=λx=>b.1 (x▸List.mem_map_of_mem (ZH h));rw[L8];simp only[bne_iff_ne,ne_eq,j,not_false_eq_true,if_true,List.eraseIdx_cons_succ];rw[d i e b.2 h]
theorem wA {es:List (Ψ×Ψ)} {a:Array MapEntry} {b:Nat} (h:Rs S B σ es a b):(a.toList.map (·.born)).Nodup:=by
 rw[List.Nodup,List.pairwise_map,I9];intro i j hi c d;have:=h.2.2 i j _ _ (YS (by simpa using hi)) (YS (by simpa using c)) d;simp only[Array.getElem_toList];omega
def HV (σ:Ρ) (a:Ψ):Zi:=match a with
 | .it id=>match σ[id]? with
  | some (.iter m left _)=>if left.isEmpty=true then .ok (.ε [.z (.bool false)]) σ else
    .all left.length λi=>match left[i]? with
     | some e=>.ok (.ε [.z (.bool true),e.1,e.2]) (σ.set id (.iter m (left.eraseIdx i) (some e)))
     | none=>.bad
  | _=>.bad
 | _=>.bad
theorem B6 {a b c:Ψ} {u v w:Value} (f:Θ S B σ a u) (g:Θ S B σ b v) (h:Θ S B σ c w):Θ S B σ (.ε [a,b,c]) (.tuple #[u,v,w]):=by
 refine .ε _ U λi a' j d e=>?_
 match i with
 | 0=>simp at d e;subst d;subst e;exact f
 | 1=>simp at d e;subst d;subst e;exact g
 | 2=>simp at d e;subst d;subst e;exact h
 | i+3=>simp at d
theorem wz (w:Holds S B σ H) {it:Ψ} {u:Value} (aA:TypeId) (hi:Θ S B σ it u):Zv P (Instr.next u false aA) S B H σ (HV σ it):=by
 unfold HV;split
 .rename_i id;split
  .rename_i m left aU p;cases hi with
   | it r ai=>
    rename_i aV aW aX b N;rw[p] at r;cases r;obtain⟨T,aj,L,aB,d,g,seen,V,ak,⟨es,M⟩,W,D,⟨A,X,Y,Z⟩,aa,aY⟩:=w.row id _ _ p ai;cases V;obtain⟨xs',clock',al,aC⟩:=LM w M ak;rw[D] at al;cases al;have am:=wA aC;have ab:L≠b:=λe=>by subst e;rw[W] at D;cases D
    intro K ad;have aD:(d.filter λe=>!seen.contains e.born).toList=A:=by rw[X];simp
    have aE:(!seen.isEmpty&&!d.isEmpty&&d.all (λe=>decide (e.born>=g)))=false:=by
     cases an:d.isEmpty with
     | true=>simp
     | false=>
      have E:0<d.size:=by
       rw[Array.isEmpty_eq_false_iff] at an;exact Array.size_pos_iff.2 an
      have aF:d.all (λe=>decide (e.born>=g))=false:=by
       rw[Array.all_eq_false];refine⟨0,E,?_⟩;have:=aa d[0] (Array.getElem_mem E);simp;exact this
      rw[aF];simp
    have aG:∀z:Array MapEntry,z=d.filter (λe=>!seen.contains e.born)->z.filter (λe=>decide (e.born<g))=z/\z.filter (λe=>decide (e.born>=g))=#[]:=λz F=>by
     have ao:∀e∈z,e.born<g:=λe s=>by rw[F] at s;exact aa e (Array.mem_of_mem_filter s)
     constructor
     .rw[Array.filter_eq_self];intro e s;simpa using ao e s
     .rw[Array.filter_eq_empty_iff];intro e s;simpa using ao e s
    unfold Instr.next;refine Χ.bind' ?_;refine⟨_,W,U,?_⟩;refine Χ.pure' ?_;simp only;refine Χ.bind' ?_;refine⟨_,D,U,?_⟩;refine Χ.pure' ?_;simp only[aE,Xq,if_false];generalize F:d.filter (λe=>!seen.contains e.born)=z;obtain⟨f1,f2⟩:=aG z F.symm;rw[f1,f2];have O:z.toList=A:=by rw[<-F];exact aD
    by_cases Q:left.isEmpty=true
    .have aH:left=[]:=Tp.1 Q;subst aH;have aI:z=#[]:=by
      have:A=[]:=YZ.1 (by rw[<-Y];rfl);rw[this] at O;exact Array.toList_eq_nil_iff.1 O
     subst aI;have V:((if(#[]:Array MapEntry).isEmpty=true then #[none] else #[])++Array.map some (#[]++#[]:Array MapEntry))=#[none]:=Ω;rw[V];refine Χ.bind' ?_;show Χ P (choose (.mapNext 1)) H _ _;unfold choose;simp only[Χ,Question.forced,ZY,decide_true,if_true];exact Χ.pure' (.same w ad (.ε _ U λi a v k t=>by
      match i with
      | 0=>simp at k t;subst k;subst t;exact .z _
      | i+1=>simp at k))
    .rw[if_neg Q] at ad;have ae:z.size=left.length:=by rw[Y,<-O];simp
     have aJ:z.isEmpty=false:=by
      rw[Array.isEmpty_eq_false_iff];intro e;rw[e] at ae;exact Q (Tp.2 (YZ.1 ae.symm))
     simp only[aJ,Xq,if_false,Oi,Array.empty_append];refine Χ.bind' ?_;have ap:∀i,i<left.length->Χ P (match (z.map some)[i]? with
       | some (some e)=>do
        setObj b (.mapIter (some L) g (seen.push e.born) g)
        pure (.tuple #[.bool true,e.key,e.val])
       | some none=>pure (.tuple #[.bool false])
       | none=>stuck "Next: no such candidate") H (XS S B H σ K) (λ_ _=>False):=λi aq=>by
      have J:∃f,z[i]?=some f:=⟨_,YS I⟩;obtain⟨f,J⟩:=J;have ar:A[i]?=some f:=by rw[<-O,Xr];exact J
      have R:∃e,left[i]?=some e:=⟨_,Z4 aq⟩;obtain⟨le,R⟩:=R;rw[Oj,J];simp only[Option.map_some];have au:=ad i aq;simp only[R] at au;obtain⟨av,aw⟩:=Z i _ _ R ar;have aK:f∈d:=by
       have:f∈z:=Array.mem_of_getElem? J;rw[<-F] at this;exact Array.mem_of_mem_filter this
      have aL:id<σ.length:=(ZR.1 p).1
      have aZ:id<B.length:=by rw[w.len];exact aL
      have ax:id≠m:=λe=>by subst e;rw[p] at M;cases M
      obtain⟨aM,aN,af⟩:=w.Sc (H':=H.Zq b (.mapIter (some L) g (seen.push f.born) g)) (r':=.iter m (left.eraseIdx i) (some le)) (bo':=some (b,N)) p trivial ai (.inl ⟨_,_,U,U⟩) (λT aj e=>.inl ⟨aj,e⟩) (λT k _=>by
       have ab:T≠b:=λe=>by subst e;exact k N U
       exact⟨λo=>rfl,U,by simp[Υ.Zq,ab]⟩) Υ.Ks (λj l c ay=>by
       obtain⟨bo,aO⟩:=Ue w ay;obtain⟨_,_,_,_,_,_,_,_,_,⟨a0,az⟩,_⟩:=w.row j _ bo ay aO;rw[p] at az;cases az) (λC=>by
       refine⟨b,N,L,aB,d,g,seen.push f.born,U,by rw[Xj ax];exact ak,⟨es,by rw[Xj ax];exact M⟩,by simp[Υ.Zq],by simp[Υ.Zq,ab,D],⟨A.eraseIdx i,?_,by rw[I0,I0,Y],λj e y k t=>?_⟩,aa,λe s=>?_⟩
       .have aP:(A.map (·.born)).Nodup:=by
         rw[X];exact am.sublist (List.filter_sublist.map _)
        rw[<-wB (·.born) A i f aP ar,X,List.filter_filter];apply List.filter_congr;intro e _;rw[Array.contains_push,Bool.not_or,Bool.and_comm];congr 1
       .rw[List.getElem?_eraseIdx] at k t;split at k
        .rename_i ag;rw[if_pos ag] at t;obtain⟨c1,c2⟩:=Z j e y k t;exact⟨c1.later C,c2.later C⟩
        .rename_i ag;rw[if_neg ag] at t;obtain⟨c1,c2⟩:=Z (j+1) e y k t;exact⟨c1.later C,c2.later C⟩
       .cases s;refine⟨f.born,f,Ω,?_,av.later C,aw.later C⟩;rw[<-Array.find?_toList];obtain⟨q,aQ⟩:=TU (show f∈d.toList by simpa using aK);have aR:∀(l:List MapEntry) (q:Nat) (e:MapEntry),(l.map (·.born)).Nodup->l[q]?=some e->l.find? (·.born==e.born)=some e:=by
         intro l
         induction l with
         | nil=>intro q e _ h;simp at h
         | cons a l aS=>
          intro q e ah h;simp only[V6,Q5] at ah;rw[List.find?_cons];cases q with
          | zero=>simp at h;subst h;simp
          | succ q=>
           simp only[List.getElem?_cons_succ] at h;have:(a.born==e.born)=false:=by
            simp only[beq_eq_false_iff_ne,ne_eq];intro x;exact ah.1 (x▸List.mem_map_of_mem (ZH h))
           rw[this];exact aS q e ah.2 h
        exact aR d.toList q _ am aQ)
      refine Χ.bind' ?_;refine⟨⟨_,W⟩,U,U,?_⟩;refine Χ.pure' ?_;exact Χ.pure' ⟨S,_,_,_,au,aN,aM,af,B6 (.z _) (av.later af) (aw.later af)⟩
     have aT:(z.map some).size=left.length:=by simp[ae]
     show Χ P (choose (.mapNext (z.map some).size)) H _ _;unfold choose;simp only[Χ];have E:0<left.length:=Pg.2 λe=>Q (Tp.2 e);split
     .exact ap 0 E
     .intro n;refine ap _ ?_;simp only[Question.cut,aT];exact No _ E
   | SC r _=>rw[p] at r;cases r
   | TM v r=>rw[p] at r;cases r
  .exact .bad
 .exact .bad
def HU (σ:Ρ) (a:Ψ):Zi:=match a with
 | .it id=>match σ[id]? with
  | some (.iter _ _ (some e))=>.ok (.ε [e.1,e.2]) σ
  | _=>.bad
 | _=>.bad
theorem wy (d:Holds S B σ H) {it:Ψ} {u:Value} (hi:Θ S B σ it u):Zv P (Instr.entry u) S B H σ (HU σ it):=by
 unfold HU;split
 .rename_i id;split
  .rename_i m left e c;cases hi with
   | it a f=>
    rename_i r s t b N;rw[c] at a;cases a;obtain⟨w,x,A,C,D,E,seen,g,F,I,h,i,_,J,j⟩:=d.row id _ _ c f;cases g;obtain⟨L,y,k,l,n,o⟩:=j e U;intro K p;unfold Instr.entry;refine Χ.bind' ?_;refine⟨_,h,U,?_⟩;refine Χ.pure' ?_;simp only[k];refine Χ.bind' ?_;refine⟨_,i,U,?_⟩;refine Χ.pure' ?_;simp only[bne_self_eq_false,Xq,if_false,l];exact Χ.pure' (.same d p (LV n o))
   | SC a _=>rw[c] at a;cases a
   | TM v a=>rw[c] at a;cases a
  .exact .bad
 .exact .bad
@[simp] def Fo:Value->Option Ψ
 | .int k z=>some (.z (.int k z))
 | .slice none 0 0=>some (.sl true 0 [])
 | _=>none
theorem wx {a:Value} {b:Ψ} (h:Fo a=some b):a.cells=#[a]/\b.cells=[b]/\(∀S B σ,Θ S B σ b a)/\One a:=by
 unfold Fo at h;split at h
 .cases h;exact⟨U,U,λ_ _ _=>.z _,trivial⟩
 .cases h;exact⟨U,U,λ_ _ _=>.WJ _ _ (λ_=>rfl),trivial⟩
 .cases h
def HT (T:Z2) (b:TypeId) (σ:Ρ) (x:Ψ):Zi:=match x with
 | .ms id n i len=>match T b,σ[id]? with
  | some c,some (.cells t k l)=>match c.Z3 with
   | .slice e=>match T e with
    | some d=>match Fo d.zero with
     | some f=>if l.length=n/\k=1/\i+len<=n/\(∀a∈l,a.cells.length=1) then .ok .Zx (σ.set id (.cells t k (l.take i++List.replicate len f++l.drop (i+len)))) else .bad
     | none=>.bad
    | none=>.bad
   | _=>.bad
  | _,_=>.bad
 | _=>.bad
theorem wv (O:ZL P T) (p:Holds S B σ H) {Q:TypeId} (ae:TypeId) {x:Ψ} {u:Value} (af:Θ S B σ x u):Zv P (Builtin.clear_ #[Q] ae #[u]) S B H σ (HT T Q σ x):=by
 unfold HT;split
 .rename_i id n i len;split
  .rename_i aI t k l ag g;split
   .rename_i e ah;split
    .rename_i C ai;split
     .rename_i r aj;obtain⟨ak,R,al,am⟩:=wx aj;split
      .rename_i an;obtain⟨aJ,rfl,aK,_⟩:=an;have V:id<σ.length:=(ZR.1 g).1;have aL:id<B.length:=by rw[p.len];exact V
       intro K D;have W:len=0->XS S B H σ K (.tuple #[]) H:=λs=>by
        subst s;have ao:σ.set id (.cells t 1 (l.take i++List.replicate 0 r++l.drop (i+0)))=σ:=by
         rw[List.replicate_zero,Ug,Nat.add_zero,List.take_append_drop];apply U';intro j;by_cases X:id=j
         .subst X;rw[Xs V,g]
         .rw[Xj X]
        simp only[Zi.holds] at D;rw[ao] at D;exact⟨S,B,σ,_,D,.refl _ _ _,p,.refl _ _ _,.Zx _⟩
       cases af with
       | Wu v h Y=>rw[g] at h;cases h;simp only[Row.Xx] at Y;omega
       | ms cap h Y Z aM aN A=>
        rename_i bo base;rw[g] at h;cases h;unfold Builtin.clear_;refine Χ.bind' (O.Z3 ag ?_);rw[ah];cases base with
        | none=>
         refine Χ.bind' (Χ.pure' ?_);have s:len=0:=by
          rcases A with A|⟨b,N,_,E,_⟩
          .omega
          .cases E
         exact Χ.pure' (W s)
        | some a=>
         by_cases s:len=0
         .subst s;refine Χ.bind' (Χ.pure' ?_);exact Χ.pure' (W U)
         .rcases A with A|⟨b,N,rfl,E,A⟩
          .omega
          .cases E;obtain⟨aa,aO,ab,w,F⟩:=p.row id _ _ g Z;obtain⟨m,rfl⟩:∃m,len=m+1:=⟨len-1,I⟩;simp only;refine Χ.bind' (O.zero ai ?_);have ap:(Builtin.zeroCells C.zero.cells (m+1)).toList=List.replicate (m+1) C.zero:=by
            simp only[Builtin.zeroCells,ak];rw[Array.toList_map,Array.toList_range];refine U' λj=>?_;rw[Ys,I6];by_cases d:j<m+1
            .rw[IX (by simpa using d),if_pos d];simp[Nat.mod_one]
            .rw[W4 (by simp;omega),if_neg d];rfl
           rw[ap];have aq:∀(y:Nat) (c:Ψ),(l.take i++List.replicate (m+1) r++l.drop (i+(m+1)))[y]?=some c->(i<=y/\y<i+(m+1)/\c=r)\/((y<i\/i+(m+1)<=y)/\l[y]?=some c):=λy c f=>by
            by_cases c1:y<i
            .rw[Tq,YN (by simp;omega),TV c1] at f;exact .inr ⟨.inl c1,f⟩
            .by_cases c2:y<i+(m+1)
             .rw[YN (by simp;omega),Xz (by simp;omega),I6] at f;split at f
              .cases f;exact .inl ⟨I,c2,U⟩
              .cases f
             .rw[Xz (by simp;omega),Va] at f;have ar:i+(m+1)+(y-(l.take i++List.replicate (m+1) r).length)=y:=by simp;omega
              rw[ar] at f;exact .inr ⟨.inr I,f⟩
           obtain⟨au,av,aw⟩:=p.Sc (H':=H.XW b i (List.replicate (m+1) C.zero)) (r':=.cells t 1 (l.take i++List.replicate (m+1) r++l.drop (i+(m+1)))) (bo':=some (b,N)) g trivial Z (.inl ⟨_,U,by simp;omega,U⟩) (λad ax J=>.inl ⟨ax,J⟩)
            (λad h _=>by
             have ay:ad≠b:=λJ=>by subst J;exact h N U
             exact⟨λo=>by simp[Υ.XW,ay],U,U⟩) Υ.Kq (M6 p g) (λaz=>by
             refine⟨aa,by simp;omega,λo aA=>?_,λy j=>if i<=y/\y<i+(m+1) then C.zero else w y j,λy c f=>?_⟩
             .simp only[Υ.XW];split
              .exact⟨_,U⟩
              .exact ab o aA
             .rcases aq y c f with⟨c1,c2,rfl⟩|⟨c1,L⟩
              .refine⟨by rw[R];rfl,λj a d=>?_⟩;rw[R] at d;have M:j=0:=by have:=(ZR.1 d).1;simp at this;omega
               subst M;simp at d;subst d;simp only[c1,c2,and_self,if_true];refine⟨?_,al _ _ _,am⟩;simp only[Υ.XW,List.length_replicate];rw[if_pos ⟨trivial,I,I⟩,I6,if_pos I];rfl
              .refine⟨(F y c L).1,λj a d=>?_⟩;obtain⟨aB,aC,aD⟩:=(F y c L).2 j a d;have M:j=0:=by have:=(ZR.1 d).1;rw[(F y c L).1] at this;omega
               subst M;have aE:¬(i<=y/\y<i+(m+1)):=I;simp only[aE,if_false];refine⟨?_,aC.later az,aD⟩;simp only[Υ.XW,List.length_replicate];rw[if_neg I];exact aB)
           have aF:(⟨b,i*1,none⟩:Addr)=⟨b,i,none⟩:=by rw[SI]
           rw[aF];refine Χ.bind' ?_;refine Χ.storeCells (G:=H) U ⟨t,N,aa⟩ _ 0 H (λv hv=>by rw[List.eq_of_mem_replicate hv];trivial) (λj _ d=>?_) U ?_
           .rw[List.length_replicate] at d;obtain⟨aG,aH⟩:=ab (i+j) I;exact⟨aG,aH⟩
           .exact Χ.pure' ⟨S,_,_,_,D,av,au,aw,.Zx _⟩
      .exact .bad
     .exact .bad
    .exact .bad
   .exact .bad
  .exact .bad
 .exact .bad
def HS (T:Z2) (a:TypeId) (σ:Ρ) (b:Ψ):Zi:=match PY T a,b with
 | some _,.mp id=>match σ[id]? with
  | some (.map _)=>if U3 σ id=true then .ok .Zx (σ.set id (.map [])) else .bad
  | _=>.bad
 | _,_=>HT T a σ b
theorem wu (f:ZL P T) (d:Holds S B σ H) {g:TypeId} (h:TypeId) {mp:Ψ} {u:Value} (k:Θ S B σ mp u):Zv P (Builtin.clear_ #[g] h #[u]) S B H σ (HS T g σ mp):=by
 unfold HS;split
 .rename_i l id o;obtain⟨i,hi,p⟩:=Kg (kt:=l.1) (vt:=l.2) o;split
  .rename_i es c;split
   .rename_i r;cases k with
    | mp a m=>
     rename_i b N;rw[c] at a;cases a;obtain⟨C,s,n,D⟩:=LM d c m;obtain⟨t,w,x⟩:=Fp d (es':=[]) (xs':=#[]) (clock':=s) c m r λ_=>⟨U,λi e y a=>by simp at a,λi j y z a=>by simp at a⟩;intro K A;unfold Builtin.clear_;refine Χ.bind' (f.Z3 hi ?_);rw[p];refine Χ.bind' ?_;refine⟨_,n,U,?_⟩;refine Χ.pure' ?_;refine⟨⟨_,n⟩,U,U,?_⟩;exact Χ.pure' ⟨S,_,_,_,A,w,t,x,.Zx _⟩
    | Uf v a=>rw[c] at a;cases a
   .exact .bad
  .exact .bad
 .exact wv f d h k
end
end Go.TL
