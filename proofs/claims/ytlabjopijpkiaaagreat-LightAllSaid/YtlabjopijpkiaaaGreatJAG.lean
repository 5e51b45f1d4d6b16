import Derived.IntWalk
import Derived.Laws.Sem
import Derived.Test.YtlabjopijpkiaaaGreatJAF
set_option maxHeartbeats 16000000
set_option maxRecDepth 20000
set_option linter.unusedSectionVars false
set_option linter.unusedSimpArgs false
set_option linter.unusedVariables false
namespace Go.TL
open Go.Conc
section
variable {P:Program} {T:ZR} {S:μ} {B:Z8} {H:Χ} {σ:Ο}
def JP (σ:Ο) (a:Ω):Y2:=if a.cells.all (Ω.YH σ)=true then .ok (.Θ a.cells) σ else .bad
def Nm (a:Ω):Zf:=if a.cells.all (Ω.YH [])=true then .ok (.Θ a.cells) else .bad
def Nl (t:TypeId) (σ:Ο) (a:Ω):Y2:=if a.cells.all (Ω.YH σ)=true then .ok (.Κ σ.length 1 0 0) (σ++[.cells t a.cells.length [a]]) else .bad
theorem Hj (d:Holds S B σ H) (b:TypeId) {a:Ω} {v:Value} (e:π S B σ a v) (f:a.cells.all (Ω.YH σ)=true):Y3 P (do pure (.pointer (some (<-newVar b v)))) S B H σ (.ok (.Θ a.cells) σ):=by
 intro K g;refine Ψ.bind' ?_;unfold newVar newRow;refine Ψ.bind' (L0 d v.cells b λr h i c=>Ψ.pure' (Ψ.pure' ⟨_,_,_,_,g,i,h,c,?_⟩));exact El c (Xd.one e f)
theorem zh (c:Holds S B σ H) (b:TypeId) {a:Ω} {v:Value} (d:π S B σ a v):Y3 P (Instr.box b v) S B H σ (JP σ a):=by
 unfold JP;split
 .rename_i e;exact Hj c b d e
 .exact .bad
theorem zg (c:Holds S B σ H) (b:TypeId) {a:Ω} {v:Value} (d:π S B σ a v):Y3 P (Instr.box b v) S B H σ ((Nm a).YD σ):=by
 unfold Nm;split
 .rename_i e;exact Hj c b d (Nn e)
 .exact .bad
theorem Ek (d:Holds S B σ H) (c:TypeId) {a:Ω} {v:Value} (e:π S B σ a v):Y3 P (do pure (.pointer (some (<-newVar c v)))) S B H σ (Nl c σ a):=by
 unfold Nl;split
 .rename_i f;intro K g;refine Ψ.bind' ?_;unfold newVar newRow;refine Ψ.bind' (L1 d (Xd.one e f) c λr _ h m o=>Ψ.pure' (Ψ.pure' ⟨_,_,_,_,g,m,h,o,?_⟩));have:=π.Κ (S:=S) (B:=B++[some (r,v.cells.size)]) (σ:=σ++[.cells c a.cells.length [a]]) (id:=σ.length) (n:=1) (i:=0) (j:=0) (k:=a.cells.length) (t:=c) (l:=[a]) (b:=r) (N:=v.cells.size) I rfl (by rw[<-d.len];simp);simpa using this
 .exact .bad
theorem zf (c:Holds S B σ H) (b:TypeId) {a:Ω} {v:Value} (d:π S B σ a v):Y3 P (Instr.box b v) S B H σ (Nl b σ a):=Ek c b d
def JO (T:ZR) (a:TypeId) (σ:Ο):Y2:=match T a with|some i=>Nl a σ (Wm i.zero)|none=>.bad
def JN (T:ZR) (a:TypeId):Zf:=match T a with|some i=>Nm (Wm i.zero)|none=>.bad
theorem ze (b:ZB P T) (c:Holds S B σ H) (a:TypeId):Y3 P (Instr.alloc a true (.tuple #[])) S B H σ (JO T a σ):=by
 unfold JO;cases hi:T a with
 | none=>exact .bad
 | some i=>
  intro K d;unfold Instr.alloc;exact Ψ.bind' (b.zero hi (Ek c a (RF i.zero) K d))
theorem zd (b:ZB P T) (c:Holds S B σ H) (a:TypeId):Y3 P (Instr.alloc a true (.tuple #[])) S B H σ ((JN T a).YD σ):=by
 unfold JN;cases hi:T a with
 | none=>exact .bad
 | some i=>
  simp only[Nm];split
  .rename_i d;intro K e;unfold Instr.alloc;exact Ψ.bind' (b.zero hi (Hj c a (RF i.zero) (Nn d) K e))
  .exact .bad
def QP (b:Nat->Option (Nat×Nat×Nat)) (k:Nat) (c:Ω->Bool) (l:κ):List (Nat×Ω)->Option (κ)
 | []=>some l
 |(x,a)::r=>match b x with
  | some (i,j,n)=>match l[i]? with
   | some e=>if a.cells.length=n/\j+n<=k/\a.cells.all c=true then QP b k c (l.set i (e.P4 j a.cells)) r else none
   | none=>none
  | none=>none
theorem Hi {k:Nat} {r:Ω->Bool} (y:∀a:Ω,r a=true->a.YH σ=true) {s:Nat->Option (Nat×Nat×Nat)} {place:Nat->Option (Nat×Nat)} (A:∀x i j n,s x=some (i,j,n)->place x=some (i*k+j,n)) {env:ω} {t:Array Value} (C:YT S B σ env t) :
  ∀(b:List (Nat×Operand)) (c:Array Value) (l d:κ),Xd S B σ c k l->QP s k r l (b.map λp=>(p.1,ζ env p.2))=some d->
  ∃c',Instr.fill place c (b.map λp=>(p.1,ZN t p.2))=some c'/\c'.size=c.size/\Xd S B σ c' k d/\d.length=l.length:=by
 intro b
 induction b with
 | nil=>intro c l d f h;cases h;exact⟨c,rfl,rfl,f,rfl⟩
 | cons p b D=>
  obtain⟨x,o⟩:=p;intro c l d f h;simp only[Xg,QP] at h;split at h<;>try cases h
  rename_i i j n E;split at h<;>try cases h
  rename_i e u;split at h<;>try cases h
  rename_i F;obtain⟨P,Q,v⟩:=F;have g:=Ud C o;have w:(ζ env o).cells.all (Ω.YH σ)=true:=by
   rw[WQ] at v ⊢;exact λa g=>y a (v a g)
  obtain⟨R,_⟩:=g.cells w;obtain⟨H,I⟩:=f.put u g w (by omega:j+(ζ env o).cells.length<=k);obtain⟨c',J,Φ,K,L⟩:=D _ _ _ I h;refine⟨c',?_,by rw[Φ,H],K,by rw[L];simp⟩;have M:i<l.length:=(ZA.1 u).1;have T:i*k+j+(ZN t o).cells.size<=c.size:=by
   have N:(i+1)*k<=l.length*k:=Tr k M
   have U:=f.1;rw[Wr] at N;omega
  simp only[Xg,Instr.fill,A x i j n E];have m:((ZN t o).cells.size≠n)=False:=by simp;omega
  have O:(i*k+j+(ZN t o).cells.size > c.size)=False:=by simp;omega
  simp only[bne_iff_ne,ne_eq,Bool.or_eq_true,decide_eq_true_eq,m,O];simp only[ne_eq] at m;simp only[m,or_self,if_false];exact J
def Ej (T:ZR) (a:Array Field):Option (List (Nat×Nat)):=a.toList.mapM λf=>(T f.type).map λi=>(f.offset,i.size)
theorem zc (g:ZB P T) {K:Array (Nat×Nat)->Χ->Prop} {E:Value->Χ->Prop} {c:Array Field} {l:List (Nat×Nat)} (h:Ej T c=some l) (b:K l.toArray H) :
  Ψ P (c.mapM λf=>(do pure (f.offset,<-sizeOf f.type):Sem (Nat×Nat))) H K E:=by
 have j:∀(a:List Field) (l:List (Nat×Nat)) (K:List (Nat×Nat)->Χ->Prop),(a.mapM λf=>(T f.type).map λi=>(f.offset,i.size))=some l->K l H->Ψ P (a.mapM λf=>(do pure (f.offset,<-sizeOf f.type):Sem (Nat×Nat))) H K E:=by
  intro a
  induction a with
  | nil=>intro l K h b;simp at h;subst h;exact Ψ.pure' b
  | cons f a k=>
   intro l K h b;rw[List.mapM_cons] at h ⊢;cases d:T f.type with
   | none=>rw[d] at h;cases h
   | some i=>
    rw[d] at h;simp only[Option.map_some,Option.bind_eq_bind,Option.bind_some] at h;cases e:(a.mapM λf=>(T f.type).map λi=>(f.offset,i.size)) with
    | none=>rw[e] at h;cases h
    | some l2=>
     rw[e] at h;cases h;refine Ψ.bind' (Ψ.bind' (g.size d (Ψ.pure' ?_)));refine Ψ.bind' (k l2 _ e ?_);exact Ψ.pure' b
 rw[Array.mapM_eq_mapM_toList];exact Ψ.bind (c.toList.mapM _) (j c.toList l _ h (Ψ.pure' b))
def Te (T:ZR) (a:Ω->Bool) (c:TypeId) (parts:List (Nat×Ω)):Zf:=match T c with
 | some i=>
  let z:=Wm i.zero
  if z.cells.length=i.zero.cells.size/\z.cells.all (Ω.YH [])=true then match i.ZE with
   | .struct d=>match Ej T d with
    | some f=>match QP (λx=>(f[x]?).map λp=>(0,p.1,p.2)) z.cells.length a [z] parts with
     | some [e]=>.ok (.ZT e.cells)
     | _=>.bad
    | none=>.bad
   | .array _ el=>match T el with
    | some b=>match QP (λx=>some (0,x*b.size,b.size)) z.cells.length a [z] parts with
     | some [e]=>.ok (.ZT e.cells)
     | _=>.bad
    | none=>.bad
   | _=>.bad
  else .bad
 | none=>.bad
theorem Ei {c:Array Value} {k:Nat} {e:Ω} (h:Xd S B σ c k [e]) (d:c.size=k):π S B σ (.ZT e.cells) (.agg c):=by
 obtain⟨f,g⟩:=h.2 0 e rfl;refine .ZT c (by rw[f,d]) λj a v i hv=>?_;obtain⟨x,b,Φ,_⟩:=g j a i;rw[OF,UQ,hv] at b;cases b;exact Φ
theorem Eh (b:ZB P T) (r:Holds S B σ H) {s:Ω->Bool} (u:∀a:Ω,s a=true->a.YH σ=true) (c:TypeId) {env:ω} {t:Array Value} (v:YT S B σ env t) (parts:Array (Nat×Operand)) :
  Y3 P (Instr.build c (parts.map λ(i,x)=>(i,ZN t x))) S B H σ ((Te T s c (parts.toList.map λp=>(p.1,ζ env p.2))).YD σ):=by
 unfold Te;cases hi:T c with
 | none=>exact .bad
 | some i=>
  simp only;split
  .rename_i E;obtain⟨w,F⟩:=E;have y:Xd S B σ i.zero.cells (Wm i.zero).cells.length [Wm i.zero]:=Xd.one (RF i.zero) (Nn F);have A:(parts.map λ(i,x)=>(i,ZN t x)).toList=parts.toList.map λp=>(p.1,ZN t p.2):=I;split
   .rename_i M d;split
    .rename_i C J;split
     .rename_i e f;intro K g;unfold Instr.build;refine Ψ.bind' (b.zero hi (Ψ.bind' (b.ZE hi ?_)));rw[d];refine Ψ.bind' (zc b J ?_);obtain⟨c',k,Φ,l,_⟩:=Hi (place:=(C.toArray[·]?)) u (λx i j n h=>by
       cases o:C[x]? with
       | none=>rw[o] at h;cases h
       | some p=>rw[o] at h;cases h;simp[o]) v parts.toList _ _ _ y f
      rw[A,k];exact Ψ.pure' (.same r g (Ei l (by rw[Φ,w])))
     .exact .bad
    .exact .bad
   .rename_i m el d;split
    .rename_i D L;split
     .rename_i e f;intro K g;unfold Instr.build;refine Ψ.bind' (b.zero hi (Ψ.bind' (b.ZE hi ?_)));rw[d];refine Ψ.bind' (b.size L ?_);obtain⟨c',k,Φ,l,_⟩:=Hi (place:=λi=>some (i*D.size,D.size)) u (λx i j n h=>by
       simp at h;obtain⟨rfl,rfl,rfl⟩:=h;simp) v parts.toList _ _ _ y f
      rw[A,k];exact Ψ.pure' (.same r g (Ei l (by rw[Φ,w])))
     .exact .bad
    .exact .bad
   .exact .bad
  .exact .bad
def LZ (T:ZR) (b:Ω->Bool) (c:TypeId) (len:Nat) (parts:List (Nat×Ω)):Option (TypeId×Nat×κ):=match Wl T c with
 | some (e,k,none)=>match T e with
  | some a=>if 0<k/\len*k<=2 ^ 24/\(Wm a.zero).cells.length=k/\(Wm a.zero).cells.all (Ω.YH [])=true then
    (QP (λx=>some (x,0,k)) k b (List.replicate len (Wm a.zero)) parts).map λl=>(e,k,l) else none
  | none=>none
 | _=>none
theorem Eg (m:ZB P T) {o:Ω->Bool} (L:∀a:Ω,o a=true->a.YH σ=true) {y e:TypeId} {len k:Nat} {l:κ} {env:ω} {t:Array Value} (M:YT S B σ env t) {parts:Array (Nat×Operand)}
  (h:LZ T o y len (parts.toList.map λp=>(p.1,ζ env p.2))=some (e,k,l)) {K:Value->Χ->Prop} {E:Value->Χ->Prop}
  (A:∀c:Array Value,Xd S B σ c k l->l.length=len->Ψ P (newObj (.cells c e)) H (λr H'=>K (.slice (some ⟨r,0,none⟩) len len) H') E) :
  Ψ P (Instr.buildSlice y len (parts.map λ(i,x)=>(i,ZN t x))) H K E:=by
 unfold LZ at h;split at h<;>try cases h
 rename_i ae C N;split at h<;>try cases h
 rename_i g s;split at h<;>try cases h
 rename_i O;obtain⟨af,ag,Q,R⟩:=O;obtain⟨i,ah,hi,V,D,W⟩:=JW N;rw[s] at D;cases D;cases u:QP (λx=>some (x,0,C)) C o (List.replicate len (Wm g.zero)) (parts.toList.map λp=>(p.1,ζ env p.2)) with
 | none=>rw[u] at h;cases h
 | some ai=>
  rw[u] at h;cases h;unfold Instr.buildSlice;refine Ψ.bind' (m.ZE hi ?_);rw[V];refine Ψ.bind' (m.size s ?_);rw[W];have X:¬(len*k > 2 ^ 24):=U;simp only[X,if_false];have Y:(parts.map λ(i,x)=>(i,ZN t x)).toList=parts.toList.map λp=>(p.1,ZN t p.2):=I;have F:∀b:Array Value,(len=0\/b=g.zero.cells)->∃c',Instr.fill (λi=>some (i*k,k)) ((Array.range (len*k)).map (b[· % b.size]!)) (parts.map λ(i,x)=>(i,ZN t x)).toList=some c'/\Xd S B σ c' k l/\l.length=len:=λb v=>by
   have Z:Xd S B σ ((Array.range (len*k)).map (b[· % b.size]!)) k (List.replicate len (Wm g.zero)):=by
    rcases v with rfl|v
    .exact⟨I,λi e hi=>by simp at hi⟩
    .exact Xd.Em (RF g.zero) (Nn R) Q (γ _) b v
   obtain⟨c',d,Φ,f,aa⟩:=Hi (place:=λi=>some (i*k,k)) L (λx i j n h=>by
    simp at h;obtain⟨rfl,rfl,rfl⟩:=h;simp) M parts.toList _ _ _ Z u
   rw[Y];exact⟨c',d,f,by rw[aa];simp⟩
  by_cases J:len=0
  .obtain⟨c',d,Φ,f⟩:=F #[] (.inl J);have ab:len*k=0:=by rw[J];simp
   rw[if_pos ab];refine Ψ.bind' (Ψ.pure' ?_);rw[d];exact Ψ.bind' (A c' Φ f)
  .have ad:len*k≠0:=by
    intro w;rcases Nat.mul_eq_zero.1 w with w|w<;>omega
   obtain⟨c',d,Φ,f⟩:=F _ (.inr rfl);rw[if_neg ad];refine Ψ.bind' (m.zero s ?_);refine Ψ.bind' (Ψ.pure' ?_);rw[d];exact Ψ.bind' (A c' Φ f)
def LY (T:ZR) (a:Ω->Bool) (b:TypeId) (len:Nat) (parts:List (Nat×Ω)):Zf:=match LZ T a b len parts with
 | some (_,k,l)=>.ok (.sl true k l)
 | none=>.bad
def JM (T:ZR) (a:TypeId) (len:Nat) (parts:List (Nat×Ω)) (σ:Ο):Y2:=match LZ T (Ω.YH σ) a len parts with
 | some (e,k,l)=>.ok (.ms σ.length len 0 len) (σ++[.cells e k l])
 | none=>.bad
theorem Ef (j:ZB P T) (m:Holds S B σ H) {b:Ω->Bool} (n:∀a:Ω,b a=true->a.YH σ=true) (d:TypeId) (len:Nat) {env:ω} {t:Array Value} (o:YT S B σ env t) (parts:Array (Nat×Operand)) :
  Y3 P (Instr.buildSlice d len (parts.map λ(i,x)=>(i,ZN t x))) S B H σ ((LY T b d len (parts.toList.map λp=>(p.1,ζ env p.2))).YD σ):=by
 unfold LY;split
 .rename_i e k l h;intro K s;refine Eg j n o h λc u f=>L0 m c e λr v w g=>⟨_,_,_,_,s,w,v,g,?_⟩;have:=JQ (cap:=len) true g u U (λ_=>f.symm);rw[f] at this;exact this
 .exact .bad
theorem Ee {r n k:Nat} {t:TypeId} {l:κ} (b:B.length=σ.length) (c:Array Value) (d:l.length*k<=c.size) (a:l.length=n):π S (B++[some (r,c.size)]) (σ++[.cells t k l]) (.ms σ.length n 0 n) (.slice (some ⟨r,0,none⟩) n n):=by
 have:=π.ms (S:=S) (B:=B++[some (r,c.size)]) (σ:=σ++[.cells t k l]) (id:=σ.length) (n:=n) (i:=0) (len:=n) (t:=t) (k:=k) (l:=l) (bo:=some (r,c.size)) (base:=some ⟨r,0,none⟩) n I a (by rw[<-b];simp) U (γ _) (.inr ⟨r,c.size,rfl,I,by subst a;simpa using d⟩);exact this
theorem zb (g:ZB P T) (b:Holds S B σ H) (d:TypeId) (len:Nat) {env:ω} {t:Array Value} (j:YT S B σ env t) (parts:Array (Nat×Operand)) :
  Y3 P (Instr.buildSlice d len (parts.map λ(i,x)=>(i,ZN t x))) S B H σ (JM T d len (parts.toList.map λp=>(p.1,ζ env p.2)) σ):=by
 unfold JM;split
 .rename_i e k l h;intro K m;exact Eg g (λa h=>h) j h λc f n=>L1 b f e λr _ o s u=>⟨_,_,_,_,m,s,o,u,Ee b.len c f.1 n⟩
 .exact .bad
def LX (T:ZR) (d:TypeId) (a b:Ω):Option (TypeId×Nat×Ω×Int×Int):=match Wl T d,a,b with
 | some (e,k,none),.z (.int _ n),.z (.int _ m)=>match T e with
  | some c=>if 0<k/\(Wm c.zero).cells.length=k/\(Wm c.zero).cells.all (Ω.YH [])=true then some (e,k,Wm c.zero,n,c.bytes) else none
  | none=>none
 | _,_,_=>none
end
section
variable {P:Program} {T:ZR} {S:μ} {B:Z8} {H:Χ} {σ:Ο}
theorem Ed (d:ZB P T) {o e:TypeId} {k:Nat} {z:Ω} {n bytes:Int} {a b:Ω} {u v:Value} (A:π S B σ a u) (C:π S B σ b v) (h:LX T o a b=some (e,k,z,n,bytes)) (D:∀kk m,b=.z (.int kk m)->m=n) (F:0<=n/\0<bytes/\bytes*n<=2 ^ 48) {K:Value->Χ->Prop} {E:Value->Χ->Prop}
  (p:∀c:Array Value,Xd S B σ c k (List.replicate n.toNat z)->Ψ P (newObj (.cells c e)) H (λr H'=>K (.slice (some ⟨r,0,none⟩) n.toNat n.toNat) H') E) :
  Ψ P (Instr.makeSlice o u v) H K E:=by
 unfold LX at h;split at h<;>try cases h
 rename_i ab ad ae af ag m J;split at h<;>try cases h
 rename_i j g;split at h<;>try cases h
 rename_i L;obtain⟨ah,M,N⟩:=L;cases A;cases C;have O:=D _ _ rfl;subst O;obtain⟨i,ai,hi,Q,s,R⟩:=JW J;rw[g] at s;cases s;obtain⟨V,aj,ak⟩:=F;have al:m<=2 ^ 48:=by
  have:1*m<=(j.bytes:Int)*m:=Int.mul_le_mul_of_nonneg_right U V;omega
 have W:IntKind.i64.wrap m=m:=IntWalk.i64_in m ⟨U,U⟩;unfold Instr.makeSlice;refine Ψ.bind' (d.ZE hi ?_);rw[Q];refine Ψ.bind' (Ψ.bind' (Ψ.pure' (Ψ.pure' ?_)));refine Ψ.bind' (Ψ.bind' (Ψ.pure' (Ψ.pure' ?_)));refine Ψ.bind' (d.info g λf X=>?_);simp only[W,X];have Y:¬m<0:=U;have Z:¬((j.bytes:Int)*m > 2 ^ 48):=U;have aa:¬m > m:=U;simp only[Y,Z,aa,decide_false,Bool.or_false,W',if_false];refine Ψ.bind' ?_;have t:Ψ P (do
   let w <-(do pure (m.toNat*(<-sizeOf e)):Sem Nat)
   let x <-if w=0 then pure #[] else do pure (<-zeroValue e).cells
   let a <-newRow e ((Array.range w).map (x[· % x.size]!))
   pure (.slice (some a) m.toNat m.toNat)) H K E:=by
  refine Ψ.bind' (Ψ.bind' (d.size g (Ψ.pure' ?_)));rw[R];by_cases l:m.toNat*k=0
  .rw[if_pos l];refine Ψ.bind' (Ψ.pure' ?_);refine Ψ.bind' (Ψ.bind' ?_);refine p _ ?_;rcases Nat.mul_eq_zero.1 l with y|y
   .rw[y];exact⟨I,λi e hi=>by simp at hi⟩
   .omega
  .rw[if_neg l];refine Ψ.bind' (d.zero g ?_);refine Ψ.bind' (Ψ.pure' ?_);refine Ψ.bind' (Ψ.bind' ?_);exact p _ (Xd.Em (RF j.zero) (Nn N) M (γ _) _ rfl)
 unfold askRoom;split
 .refine⟨rfl,?_⟩;show Ψ P _ H K E;have:=t;simpa using this
 .refine Ψ.pure' ?_;show Ψ P _ H K E;have:=t;simpa using this
def JL (T:ZR) (c:TypeId) (a b:Ω) (σ:Ο):Y2:=match LX T c a b,b with
 | some (e,k,z,n,bytes),.z (.int _ m)=>.Y' (m=n/\0<=n/\0<bytes/\bytes*n<=2 ^ 48) (.ok (.ms σ.length n.toNat 0 n.toNat) (σ++[.cells e k (List.replicate n.toNat z)]))
 | _,_=>.bad
theorem za (i:ZB P T) (d:Holds S B σ H) {f:TypeId} {a b:Ω} {u v:Value} (j:π S B σ a u) (l:π S B σ b v):Y3 P (Instr.makeSlice f u v) S B H σ (JL T f a b σ):=by
 unfold JL;split
 .rename_i e k z n bytes kk m h;refine .Y' λ⟨o,p⟩ K s=>?_;refine Ed i j l h (λA C t=>by cases t;exact o) p λc g=>L1 d g e λr _ w x y=>⟨_,_,_,_,s,x,w,y,?_⟩;exact Ee d.len c g.1 I
 .exact .bad
def JK (T:ZR) (c:TypeId) (a b:Ω):Zf:=match LX T c a b,b with
 | some (_,k,z,n,bytes),.z (.int _ m)=>.Y' (m=n/\0<=n/\0<bytes/\bytes*n<=2 ^ 48) (.ok (.sl true k (List.replicate n.toNat z)))
 | _,_=>.bad
theorem y' (g:ZB P T) (i:Holds S B σ H) {d:TypeId} {a b:Ω} {u v:Value} (j:π S B σ a u) (l:π S B σ b v):Y3 P (Instr.makeSlice d u v) S B H σ ((JK T d a b).YD σ):=by
 unfold JK;split
 .rename_i e k z n bytes kk m h;refine Y3.Y' (r:=(Zf.ok (.sl true k (List.replicate n.toNat z))).YD σ) λ⟨o,p⟩ K s=>?_;refine Ed g j l h (λA C t=>by cases t;exact o) p λc w=>L0 i c e λr x y f=>⟨_,_,_,_,s,y,x,f,?_⟩;have:=JQ (cap:=n.toNat) true f w I (λ_=>I);simpa using this
 .exact .bad
def Reads (H:Χ) (base:Option Addr) (m:Nat) (w:Nat->Value):Prop:=m=0\/∃b o,base=some ⟨b,o,none⟩/\∀j,j<m->∃p,H.θ b (o+j)=some (w j,p)
theorem Hh {base:Option Addr} {k n cap:Nat} {len:Nat} {w:Nat->Value} (h:Reads H base (n*k) w) {K:Array Value->Χ->Prop} {E:Value->Χ->Prop} (c:K ((List.range (n*k)).map w).toArray H) :
  Ψ P (Builtin.firstCells k n (.slice base len cap)) H K E:=by
 rcases h with h|⟨b,o,rfl,h⟩
 .rw[h] at c;cases base with
  | none=>exact Ψ.pure' c
  | some a=>
   show Ψ P (loadCells a (n*k)) H K E;rw[h];exact Ψ.pure' c
 .exact Ψ.loadCells w rfl h c
theorem y9 {a b:Nat} (h:b<a):Builtin.nextslicecap a b<=2*a+768:=by
 unfold Builtin.nextslicecap;have grow:∀r c,c<=2*a+768->Builtin.growBy a r c<=2*a+768:=by
  intro r
  induction r with
  | zero=>intro c d;exact d
  | succ r e=>
   intro c d;unfold Builtin.growBy;split
   .exact d
   .exact e _ U
 split
 .omega
 .split
  .omega
  .exact grow 4 b U
def V5.isInt (i:V5):Bool:=i.ZE matches .int _
def Uy (T:ZR) (st xt:TypeId):Option (TypeId×Nat×V5):=match Wl T st,T xt with
 | some (e,k,none),some b=>match T e with
  | some a=>if 0<k/\a.zero.cells.size=k/\0<a.bytes/\a.bytes<=4096/\b.isInt=false then some (e,k,a) else none
  | none=>none
 | _,_=>none
theorem Hg (c:ZB P T) {st xt w e:TypeId} {k:Nat} {g:V5} (h:Uy T st xt=some (e,k,g)) {base j:Option Addr} {sLen b n p:Nat} {wo l:Nat->Value} (x:Reads H base (sLen*k) wo) (s:Reads H j (n*k) l) (Z:sLen+n<=4294967296) {K:Value->Χ->Prop} {E:Value->Χ->Prop}
  (y:sLen+n<=b->Ψ P (match base with|some a=>storeCells (a.add (sLen*k)) ((List.range (n*k)).map l)|none=>pure ()) H (λ_ H'=>K (.slice base (sLen+n) b) H') E)
  (A:b<sLen+n->∀m,sLen+n<=m->Ψ P (newObj (.cells (((List.range (sLen*k)).map wo).toArray++((List.range (n*k)).map l).toArray++Builtin.zeroCells g.zero.cells (m-(sLen+n))) e)) H (λr H'=>K (.slice (some ⟨r,0,none⟩) (sLen+n) m) H') E) :
  Ψ P (Builtin.append_ #[st,xt] w #[.slice base sLen b,.slice j n p]) H K E:=by
 unfold Uy at h;split at h<;>try cases h
 rename_i aa ab ad B C;split at h<;>try cases h
 rename_i D d;split at h<;>try cases h
 rename_i F;obtain⟨ae,af,ag,I,o⟩:=F;obtain⟨i,D,hi,J,t,L⟩:=JW B;rw[d] at t;cases t;unfold Builtin.append_;simp only[List.getElem?_toArray,List.getElem?_cons_zero,List.getElem?_cons_succ];refine Ψ.bind' (c.ZE hi ?_);rw[J];refine Ψ.bind' (c.size d ?_);rw[L];refine Ψ.bind' (Ψ.bind' (c.ZE C ?_));split
 .rename_i M;unfold V5.isInt at o;rw[M] at o;cases o
 refine Ψ.bind' (Ψ.pure' ?_);simp only[W',if_false,Bool.not_false,if_true];refine Ψ.bind' (Ψ.pure' ?_);split
 .rename_i N;refine Ψ.bind' (Hh s ?_);have:=y N;cases base with
  | none=>exact this
  | some a=>exact Ψ.bind' this
 .rename_i ah;have u:b<sLen+n:=U;refine Ψ.bind' (c.info d λf O=>?_);have Q:¬(((sLen+n:Nat):Int) > IntKind.i64.max/\(False\/f.bytes=0)):=by rw[O];rintro⟨_,h|h⟩;exact h;omega
  simp only[Q,if_false];refine Ψ.bind' (c.info d λf2 R=>?_);have S:¬(Builtin.nextslicecap (sLen+n) b*f2.bytes > 2 ^ 48):=by
   rw[R];have V:=y9 u;have ai:Builtin.nextslicecap (sLen+n) b*g.bytes<=(2*(sLen+n)+768)*4096:=Mk V I;omega
  simp only[S,if_false];refine Ψ.bind' ?_;show Ψ P (choose _) H _ E;unfold choose;simp only[Ψ];have W:(Question.appendCap (sLen+n) b e).forced=false:=rfl;rw[W];simp only[W',if_false];intro q;refine Ψ.bind' (c.info d λf3 aj=>?_);have v:Ψ P (do
    let X <-Builtin.firstCells k sLen (.slice base sLen b)
    let Y <-Builtin.firstCells k n (.slice j n p)
    let rest <-(do pure (Builtin.zeroCells (<-zeroValue e).cells ((Question.appendCap (sLen+n) b e).cut q-(sLen+n))):Sem (Array Value))
    pure (.slice (some (<-newRow e (X++Y++rest))) (sLen+n) ((Question.appendCap (sLen+n) b e).cut q))) H K E:=by
   refine Ψ.bind' (Hh x ?_);refine Ψ.bind' (Hh s ?_);refine Ψ.bind' (Ψ.bind' (c.zero d (Ψ.pure' ?_)));refine Ψ.bind' (Ψ.bind' ?_);exact A u _ (by simp[Question.cut])
  refine Ψ.bind' ?_;unfold askRoom;split
  .refine⟨rfl,?_⟩;show Ψ P _ H K E;simpa using v
  .refine Ψ.pure' ?_;show Ψ P _ H K E;simpa using v
end
section
variable {P:Program} {T:ZR} {S:μ} {B:Z8} {H:Χ} {σ:Ο}
def RE (σ:Ο):Ω->Option (Nat×κ)
 | .sl _ k l=>some (k,l)
 | .ms id n i len=>match σ[id]? with
  | some (.cells _ k l)=>if l.length=n/\i+len<=n then some (k,(l.drop i).take len) else none
  | _=>none
 | _=>none
def Nk (S:μ) (B:Z8) (σ:Ο) (w:Nat->Value) (k:Nat) (l:κ):Prop:=∀(i:Nat) (e:Ω),l[i]?=some e->e.cells.length=k/\∀(j:Nat) (a:Ω),e.cells[j]?=some a->π S B σ a (w (i*k+j))
theorem y8 {k i j:Nat} (a:j<k):(i*k+j) / k=i/\(i*k+j) % k=j:=by
 have b:0<k:=U;refine⟨?_,?_⟩
 .rw[OG,Nat.add_mul_div_right _ _ b,Nat.div_eq_of_lt a,UQ]
 .rw[OG,Nat.add_mul_mod_self_right];exact Qi a
theorem JJ (P:Holds S B σ H) {a:Ω} {v:Value} {k A:Nat} {l:κ} (Q:π S B σ a v) (h:RE σ a=some (A,l)) (R:0<k) (T:l.isEmpty=true\/A=k) :
  ∃base cap w,v=.slice base l.length cap/\l.length<=cap/\Reads H base (l.length*k) w/\Nk S B σ w k l:=by
 have V:∀(b o:Nat) (u:Nat->Nat->Value),(∀(i:Nat) (e:Ω),l[i]?=some e->e.cells.length=k)->(∀(i:Nat) (e:Ω),l[i]?=some e->∀(j:Nat) (c:Ω),e.cells[j]?=some c->∃p,H.θ b (o+i*k+j)=some (u i j,p))->
   (∀(i:Nat) (e:Ω),l[i]?=some e->∀(j:Nat) (c:Ω),e.cells[j]?=some c->π S B σ c (u i j))->Reads H (some ⟨b,o,none⟩) (l.length*k) (λm=>u (m / k) (m % k))/\Nk S B σ (λm=>u (m / k) (m % k)) k l:=by
  intro b o u d s y;refine⟨.inr ⟨b,o,rfl,λm Y=>?_⟩,λi e hi=>⟨d i e hi,λj c g=>?_⟩⟩
  .have hi:m / k<l.length:=(Nat.div_lt_iff_lt_mul R).2 Y
   have W:l[m / k]?=some l[m / k]:=δ hi
   have g:m % k<l[m / k].cells.length:=by rw[d _ _ W];exact Nat.mod_lt _ R
   obtain⟨p,Z⟩:=s _ _ W (m % k) _ (δ g);refine⟨p,?_⟩;have:o+m=o+m / k*k+m % k:=by have:=Nat.div_add_mod m k;rw[Nat.mul_comm] at this;omega
   rw[this];exact Z
  .have aa:j<k:=by rw[<-d i e hi];exact(ZA.1 g).1
   obtain⟨ab,Φ⟩:=y8 (i:=i) aa;simp only[ab,Φ];exact y i e hi j c g
 have F:∀(base:Option Addr) (cap:Nat),l=[]->v=.slice base 0 cap->∃base cap w,v=.slice base l.length cap/\l.length<=cap/\Reads H base (l.length*k) w/\Nk S B σ w k l:=λbase cap r hv=>by
  subst r;exact⟨base,cap,λ_=>undef,hv,χ _,.inl I,λi e hi=>by simp at hi⟩
 unfold RE at h;split at h
 .cases h;obtain⟨base,cap,rfl,d,_,s⟩:=QQ Q;by_cases r:l=[]
  .exact F base cap r (by rw[r];rfl)
  .obtain⟨b,o,w,rfl,y,X,J⟩:=s r;have K:A=k:=T.elim (λx=>absurd (Qh.1 x) r) id;subst K;obtain⟨L,M⟩:=V b o w y (λi e hi j c g=>P.YO _ _ _ (X i e hi j c g)) J;exact⟨_,cap,_,rfl,d,L,M⟩
 .rename_i id n i len;split at h
  .rename_i t ag C r;split at h
   .rename_i ad;cases h;obtain⟨ah,ai⟩:=ad;have D:((C.drop i).take len).length=len:=by simp;omega
    cases Q with
    | ms cap d s y X J E=>
     rw[r] at d;cases d;rcases E with E|⟨b,N,rfl,rfl,E⟩
     .subst E;have:len=0:=U;subst this;exact F _ 0 I rfl
     .by_cases ae:len=0
      .subst ae;exact F _ cap I rfl
      .have af:¬((C.drop i).take len).isEmpty=true:=λx=>by
        rw[Qh] at x;rw[x] at D;simp at D;omega
       have K:=T.resolve_left af;subst K;obtain⟨aj,ak,al,w,O⟩:=P.row id _ _ r y;have el:∀(x:Nat) (e:Ω),((C.drop i).take len)[x]?=some e->C[i+x]?=some e:=λx e f=>by
        rw[OK] at f;split at f
        .rw[Tq] at f;exact f
        .cases f
       obtain⟨L,M⟩:=V b (i*A) (λx j=>w (i+x) j) (λx e f=>(O _ e (el x e f)).1) (λx e f j c g=>⟨true,by
        have:=((O _ e (el x e f)).2 j c g).1;rw[Wr] at this;exact this⟩) (λx e f j c g=>((O _ e (el x e f)).2 j c g).2.1)
       exact⟨_,cap,_,by rw[D],by rw[D];exact J,L,M⟩
    | Vt v d s=>rw[r] at d;cases d;simp only[Row.WB] at s;omega
   .cases h
  .cases h
 .cases h
theorem Hf {w1 f:Nat->Value} {k:Nat} {l1 l2:κ} (g:Nk S B σ w1 k l1) (m:Nk S B σ f k l2) (r:l1.all (λe=>e.cells.all (Ω.YH σ))=true) (s:l2.all (λe=>e.cells.all (Ω.YH σ))=true) (z:Array Value) :
  Xd S B σ (((List.range (l1.length*k)).map w1).toArray++((List.range (l2.length*k)).map f).toArray++z) k (l1++l2):=by
 have o:∀(l:κ),l.all (λe=>e.cells.all (Ω.YH σ))=true->∀e∈l,∀a∈e.cells,Ω.YH σ a=true:=λl h e n a t=>WQ.1 (WQ.1 h e n) a t;refine⟨by simp[Wr],λi e hi=>?_⟩;by_cases p:i<l1.length
 .rw[YK p] at hi;refine⟨(g i e hi).1,λj a b=>?_⟩;have u:j<k:=by rw[<-(g i e hi).1];exact(ZA.1 b).1
  have d:i*k+j<l1.length*k:=by
   have:(i+1)*k<=l1.length*k:=Tr k p;rw[Wr] at this;omega
  have c:=(g i e hi).2 j a b;refine⟨w1 (i*k+j),?_,c,c.L2 (o l1 r e (Zi hi) a (Zi b))⟩;rw[OM,NM (by simpa using d)];simp[d]
 .rw[W8 U] at hi;refine⟨(m _ e hi).1,λj a b=>?_⟩;have u:j<k:=by rw[<-(m _ e hi).1];exact(ZA.1 b).1
  have v:i-l1.length<l2.length:=(ZA.1 hi).1
  have d:(i-l1.length)*k+j<l2.length*k:=by
   have:(i-l1.length+1)*k<=l2.length*k:=Tr k v;rw[Wr] at this;omega
  have n:i*k+j=l1.length*k+((i-l1.length)*k+j):=by
   have:i=l1.length+(i-l1.length):=U
   conv=>lhs;rw[this,Wr]
   omega
  have c:=(m _ e hi).2 j a b;refine⟨f ((i-l1.length)*k+j),?_,c,c.L2 (o l2 s e (Zi hi) a (Zi b))⟩;rw[n,OM,KL I];rw[NM (by simp;omega)];simp[d]
def Ω.Nj (YH:Ω->Bool) (l:κ):Bool:=l.all λe=>e.cells.all YH
def P3 (T:ZR) (st xt:TypeId) (b:Ω->Bool) (σ:Ο) (s x:Ω):Zf:=
 match Uy T st xt,s,RE σ x with
 | some (_,k,_),.sl true c a,some (d,l1)=>
  if(a.isEmpty=true\/c=k)/\(l1.isEmpty=true\/d=k)/\Ω.Nj b a=true/\Ω.Nj b l1=true then .Y' (a.length+l1.length<=4294967296) (.ok (.sl false k (a++l1))) else .bad
 | _,_,_=>.bad
theorem y7 {k d:Nat} {a:κ} {v:Value} (h:π S B σ (.sl true d a) v) (e:a.isEmpty=true\/d=k):π S B σ (.sl false k a) v:=by
 by_cases c:a=[]
 .subst c;obtain⟨base,cap,rfl,_⟩:=QQ h;exact .Wo base cap I
 .have:=e.resolve_left (λx=>c (Qh.1 x));subst this;cases h with
  | Wo=>exact absurd rfl c
  | sl b o cap w l f g i j=>exact .sl b o cap w I f g i j
theorem He {b:Ω->Bool} (c:∀a:Ω,b a=true->a.YH σ=true) {l:κ} (h:Ω.Nj b l=true):l.all (λe=>e.cells.all (Ω.YH σ))=true:=by
 unfold Ω.Nj at h;rw[WQ] at h ⊢;intro e d;have:=h e d;rw[WQ] at this ⊢;exact λa f=>c a (this a f)
theorem Ec (D:ZB P T) (j:Holds S B σ H) {n:Ω->Bool} (o:∀a:Ω,n a=true->a.YH σ=true) (st xt E:TypeId) {s x:Ω} {u v:Value} (l:π S B σ s u) (F:π S B σ x v) :
  Y3 P (Builtin.append_ #[st,xt] E #[u,v]) S B H σ ((P3 T st xt n σ s x).YD σ):=by
 unfold P3;split
 .rename_i e k J ah g ai l1 f L;split
  .rename_i M;obtain⟨p,N,O,Q⟩:=M;refine Y3.Y' (r:=(Zf.ok (.sl false k (g++l1))).YD σ) λR K U=>?_;have t:0<k:=by
    unfold Uy at f;split at f<;>try cases f
    split at f<;>try cases f
    split at f<;>try cases f
    rename_i h;exact h.1
   obtain⟨base,cap,w,rfl,_,V,W⟩:=JJ j l (k:=k) rfl t p;obtain⟨aj,ak,w1,rfl,_,X,Y⟩:=JJ j F L t N;have al:cap=g.length:=by
    obtain⟨am,an,Z,_,Φ,_⟩:=QQ l;cases Z;exact Φ rfl
   have m:∀i H' v,Holds i B σ H'->Ext S B H i B H'->Zx S i B B σ σ->π i B σ (.sl false k (g++l1)) v->VE S B H σ K v H':=λi H' v a b c d=>⟨i,B,σ,_,U,b,a,c,d⟩;refine Hg D f V X R (λaa=>?_) (λ_ y ab=>?_)
   .have ad:l1=[]:=by
     cases l1 with
     | nil=>rfl
     | cons=>simp at aa;omega
    subst ad;have A:π S B σ (.sl false k (g++[])) (.slice base (g.length+([]:κ).length) cap):=by
     rw[Vw];exact y7 l p
    cases base with
    | none=>exact Ψ.pure' (m S H _ j (.refl _ _ _) (.refl _ _ _) A)
    | some a=>
     have ae:((List.range (([]:κ).length*k)).map w1)=[]:=I;rw[ae];exact Ψ.pure' (m S H _ j (.refl _ _ _) (.refl _ _ _) A)
   .refine L0 j _ e λr af ag C=>m _ _ _ af ag C ?_;have:=JQ (cap:=y) false C (Hf W Y (He o O) (He o Q) (Builtin.zeroCells J.zero.cells (y-(g.length+l1.length)))) (by simpa using ab) I;rw[VK] at this;exact this
  .exact .bad
 .exact .bad
end
section
variable {P:Program} {T:ZR} {S:μ} {B:Z8} {H:Χ} {σ:Ο}
theorem y6 {st xt e:TypeId} {k:Nat} {a:V5} (h:Uy T st xt=some (e,k,a)):0<k/\a.zero.cells.size=k:=by
 unfold Uy at h;split at h<;>try cases h
 split at h<;>try cases h
 split at h<;>try cases h
 rename_i h;exact⟨h.1,h.2.1⟩
theorem JI {α:Type} (l:List α) (x:α):(l++[x])[l.length]?=some x:=I
theorem JH {B:Z8} {σ:Ο} (a:B.length=σ.length) (bo:Option (Nat×Nat)):(B++[bo])[σ.length]?=some bo:=by rw[<-a];simp
def Oj (H:Χ) (bo:Option (Nat×Nat)) (m:Nat):Value:=match bo with|some (b,_)=>((H.θ b m).map (·.1)).getD undef|none=>undef
theorem Eb (z:Array Value) (n:Nat):(Builtin.zeroCells z n).size=n*z.size:=by simp[Builtin.zeroCells]
def JG (T:ZR) (st xt:TypeId) (σ:Ο) (s x:Ω):Y2:=
 match Uy T st xt,RE σ x with
 | some (e,k,_),some (a,l1)=>
  if(l1.isEmpty=true\/a=k)/\Ω.Nj (Ω.YH σ) l1=true then match s with
   | .sl true _ b=>if b.isEmpty=true then .Y' (l1.length<=4294967296) (.ok (.ms σ.length l1.length 0 l1.length) (σ++[.cells e k l1])) else .bad
   | .ms id n i len=>match σ[id]? with
    | some (.cells t c l)=>if i=0/\l.length=n/\len=n/\c=k/\t=e then .Y' (n+l1.length<=4294967296) (.ok (.ms id (n+l1.length) 0 (n+l1.length)) (σ.set id (.cells t k (l++l1)))) else .bad
    | _=>.bad
   | _=>.bad
  else .bad
 | _,_=>.bad
theorem y5 (ay:ZB P T) (p:Holds S B σ H) (st xt aP:TypeId) {s x:Ω} {u v:Value} (az:π S B σ s u) (aQ:π S B σ x v) :
  Y3 P (Builtin.append_ #[st,xt] aP #[u,v]) S B H σ (JG T st xt σ s x):=by
 unfold JG;split
 .rename_i e k ae bn l1 ak aR;split
  .rename_i aS;obtain⟨aT,aU⟩:=aS;obtain⟨al,aA⟩:=y6 ak;obtain⟨bp,bq,w1,rfl,_,aB,F⟩:=JJ p aQ aR al aT;have am:=He (σ:=σ) (λa h=>h) aU;split
   .rename_i br aV;split
    .rename_i af;have aW:aV=[]:=Qh.1 af;subst aW;refine .Y' λaC K J=>?_;obtain⟨base,cap,rfl,_,aX,_⟩:=QQ az;have aY:cap=0:=aX rfl;subst aY;refine Hg ay ak (sLen:=0) (wo:=λ_=>undef) (.inl I) aB U (λan=>?_) (λ_ y ao=>?_)
     .have aZ:l1=[]:=by
       cases l1 with
       | nil=>rfl
       | cons=>simp at an
      subst aZ;obtain⟨V,W,X⟩:=p.push (H':=H) (r:=.cells e k []) (bo:=none) (λb N e=>by cases e) (λb _=>⟨λ_=>rfl,rfl,rfl⟩) (λ_=>rfl);have aD:VE S B H σ K (.slice base (([]:κ).length+([]:κ).length) 0) H:=⟨S,_,_,_,J,W,V,X,.ms 0 (JI σ _) rfl (JH p.len _) I (γ _) (.inl rfl)⟩;cases base with
      | none=>exact Ψ.pure' aD
      | some a=>
       have ap:((List.range (([]:κ).length*k)).map w1)=[]:=I;rw[ap];exact Ψ.pure' aD
     .have g:Xd S B σ (((List.range (0*k)).map λ_=>undef).toArray++((List.range (l1.length*k)).map w1).toArray++Builtin.zeroCells ae.zero.cells (y-(0+l1.length))) k ([]++l1):=
       Hf (l1:=[]) (λi e hi=>by simp at hi) F I am _
      rw[List.nil_append] at g;refine L1 p g e λr _ C Q R=>⟨_,_,_,_,J,Q,C,R,?_⟩;simp only[List.length_nil,UQ];refine .ms y (JI σ _) rfl (JH p.len _) U (by simpa using ao) (.inr ⟨r,_,rfl,I,?_⟩);simp only[UQ,Array.size_append,List.size_toArray,Yp,List.length_range,Eb,aA,OF];rw[<-Wr];have:l1.length+(y-l1.length)=y:=by simp at ao;omega
      rw[this];exact γ _
    .exact .bad
   .rename_i id n i len;split
    .rename_i t d l g;split
     .rename_i a0;obtain⟨a1,D,a2,a3,a4⟩:=a0;subst a1;subst a2;subst a3;subst a4;refine .Y' λaC K J=>?_;cases az with
      | @ms _ _ _ _ _ _ _ bo base cap C Q R bs a5 E=>
       rw[g] at C;cases C;have L:=p.row id _ bo g R;have a6:Reads H base (len*d) (Oj H bo):=by
        rcases E with E|⟨b,N,rfl,rfl,E⟩
        .exact .inl (by rw[show len=0 from U];simp)
        .refine .inr ⟨b,0,I,λj f=>⟨true,?_⟩⟩;obtain⟨w,A⟩:=L.2.2.1 j (by have:=L.2.1;rw[D] at this;omega);rw[UQ];simp[A,Oj]
       have same:l1=[]->VE S B H σ K (.slice base (len+l1.length) cap) H:=λM=>by
        subst M;have Y:id<σ.length:=(ZA.1 g).1;have a7:σ.set id (.cells t d (l++[]))=σ:=by
         rw[Vw];apply VJ;intro j;by_cases aE:id=j
         .subst aE;rw[Xa Y,g]
         .rw[WR aE]
        rw[a7] at J;exact⟨S,B,σ,_,J,.refl _ _ _,p,.refl _ _ _,.ms cap g D R I a5 E⟩
       have Y:id<σ.length:=(ZA.1 g).1
       have aF:id<B.length:=by rw[p.len];exact Y
       refine Hg ay ak a6 aB aC (λan=>?_) (λa8 y ao=>?_)
       .by_cases M:l1=[]
        .have:=same M;subst M;cases base with
         | none=>exact Ψ.pure' this
         | some a=>
          have ap:((List.range (([]:κ).length*d)).map w1)=[]:=I;rw[ap];exact Ψ.pure' this
        .have a9:0<l1.length:=RQ.2 M;rcases E with E|⟨b,N,rfl,rfl,E⟩
         .omega
         .obtain⟨aG,bt,aH,w,A⟩:=L;have a':(len+l1.length)*d<=N:=by
           have:(len+l1.length)*d<=(0+cap)*d:=Tr _ U;omega
          rw[Wr] at a';have ba:(⟨b,0*d,none⟩:Addr).add (len*d)=⟨b,len*d,none⟩:=by rw[Po];simp
          have aI:((List.range (l1.length*d)).map w1).length=l1.length*d:=I
          have Wk:∀j,j<l1.length*d->((List.range (l1.length*d)).map w1)[j]?=some (w1 j):=λj f=>by simp[f]
          have aJ:∀(i:Nat) (e:Ω) (j:Nat) (a:Ω),l1[i]?=some e->e.cells[j]?=some a->One (w1 (i*d+j)):=λi e j a hi f=>
           ((F i e hi).2 j a f).L2 (WQ.1 (WQ.1 am e (Zi hi)) a (Zi f))
          have bb:∀v∈(List.range (l1.length*d)).map w1,One v:=λv hv=>by
           obtain⟨m,aq,rfl⟩:=Zq.1 hv;have bc:m<l1.length*d:=by simpa using aq
           have hi:m / d<l1.length:=(Nat.div_lt_iff_lt_mul al).2 bc
           have aK:=δ hi
           have f:m % d<l1[m / d].cells.length:=by rw[(F _ _ aK).1];exact Nat.mod_lt _ al
           have:=aJ _ _ _ _ aK (δ f)
           have ag:m / d*d+m % d=m:=by have:=Nat.div_add_mod m d;rw[Nat.mul_comm] at this;exact this
           rw[ag] at this;exact this
          have bd:Zx S S B (B.set id (some (b,N))) σ (σ.set id (.cells t d (l++l1)))->Vd S (B.set id (some (b,N))) (σ.set id (.cells t d (l++l1))) (H.Wn b (len*d) ((List.range (l1.length*d)).map w1)) (.cells t d (l++l1)) (some (b,N)):=λah=>by
           refine⟨aG,by simp[Wr,D];omega,λo ar=>?_,λi j=>if i<len then w i j else w1 ((i-len)*d+j),λi e hi=>?_⟩
           .simp only[Χ.Wn];split
            .exact⟨_,rfl⟩
            .exact aH o ar
           .by_cases Z:i<l.length
            .rw[YK Z] at hi;refine⟨(A i e hi).1,λj a f=>?_⟩;obtain⟨aa,ai,au⟩:=(A i e hi).2 j a f;have av:j<d:=by rw[<-(A i e hi).1];exact(ZA.1 f).1
             have ab:i*d+j<len*d:=by
              have:(i+1)*d<=len*d:=Tr d U;rw[Wr] at this;omega
             simp only[show i<len by omega,if_true];refine⟨?_,ai.later ah,au⟩;simp only[Χ.Wn];rw[if_neg U];exact aa
            .rw[W8 U,D] at hi;refine⟨(F _ e hi).1,λj a f=>?_⟩;have av:j<d:=by rw[<-(F _ e hi).1];exact(ZA.1 f).1
             have be:i-len<l1.length:=(ZA.1 hi).1
             have ab:(i-len)*d+j<l1.length*d:=by
              have:(i-len+1)*d<=l1.length*d:=Tr d be;rw[Wr] at this;omega
             have af:i*d+j=len*d+((i-len)*d+j):=by
              have:i=len+(i-len):=U
              conv=>lhs;rw[this,Wr]
              omega
             simp only[show ¬i<len by omega,if_false];refine⟨?_,((F _ e hi).2 j a f).later ah,aJ _ e j a hi f⟩;simp only[Χ.Wn,aI];rw[if_pos ⟨trivial,U,U⟩];have:i*d+j-len*d=(i-len)*d+j:=U;rw[this,Wk _ ab];rfl
          obtain⟨V,W,X⟩:=p.Ns (H':=H.Wn b (len*d) ((List.range (l1.length*d)).map w1)) (r':=.cells t d (l++l1)) (bo':=some (b,N)) g trivial R (.inr λm aq=>by simp only[Row.WB,VK];omega) (λad aL O=>.inl ⟨aL,O⟩)
           (λad C _=>by
            have aj:ad≠b:=λO=>by subst O;exact C N rfl
            exact⟨λo=>by simp[Χ.Wn,aj],rfl,rfl⟩) Χ.Hn (JU p g) bd
          show Ψ P (storeCells ((⟨b,0*d,none⟩:Addr).add (len*d)) _) H _ _;rw[ba];refine Ψ.storeCells (G:=H) rfl ⟨t,N,aG⟩ _ 0 H bb (λj _ f=>?_) rfl ?_
          .rw[aI] at f;obtain⟨u,bf⟩:=aH (len*d+j) U;exact⟨u,bf⟩
          .refine⟨S,_,_,_,J,W,V,X,.ms cap (by rw[Xa Y]) (by simp[D]) (by rw[Xa aF]) U an (.inr ⟨b,N,rfl,rfl,E⟩)⟩
       .have M:l1≠[]:=by rintro rfl;simp at a8;omega
        have a9:0<l1.length:=RQ.2 M
        have aw:Nk S B σ (Oj H bo) d l:=λi e hi=>by
         cases bo with
         | none=>have:l=[]:=L
                 rw[this] at hi;simp at hi
         | some x=>
          obtain⟨b,N⟩:=x;obtain⟨_,_,_,w,A⟩:=L;refine⟨(A i e hi).1,λj a f=>?_⟩;obtain⟨aa,ai,_⟩:=(A i e hi).2 j a f;simp only[Oj,aa];exact ai
        have ax:Xd S B σ (((List.range (len*d)).map (Oj H bo)).toArray++((List.range (l1.length*d)).map w1).toArray++Builtin.zeroCells ae.zero.cells (y-(len+l1.length))) d (l++l1):=by
         refine⟨by simp[Wr,D],λi e hi=>?_⟩;by_cases Z:i<l.length
         .rw[YK Z] at hi;refine⟨(aw i e hi).1,λj a f=>?_⟩;have av:j<d:=by rw[<-(aw i e hi).1];exact(ZA.1 f).1
          have ab:i*d+j<len*d:=by
           have:(i+1)*d<=len*d:=Tr d U;rw[Wr] at this;omega
          refine⟨_,?_,(aw i e hi).2 j a f,?_⟩
          .rw[OM,NM (by simpa using ab)];simp[ab]
          .cases bo with
           | none=>have:l=[]:=L
                   rw[this] at Z;simp at Z
           | some x=>
            obtain⟨b,N⟩:=x;obtain⟨_,_,_,w,A⟩:=L;obtain⟨aa,ai,au⟩:=(A i e hi).2 j a f;simp only[Oj,aa];exact au
         .rw[W8 U,D] at hi;have:=Hf (l1:=[]) (w1:=λ_=>undef) (k:=d) (λi e hi=>by simp at hi) F I am (Builtin.zeroCells ae.zero.cells (y-(len+l1.length)));obtain⟨aM,bg⟩:=this.2 (i-len) e (by simpa using hi);refine⟨aM,λj a f=>?_⟩;obtain⟨x,bh,bi,bj⟩:=bg j a f;have av:j<d:=by rw[<-aM];exact(ZA.1 f).1
          have af:i*d+j=len*d+((i-len)*d+j):=by
           have:i=len+(i-len):=U
           conv=>lhs;rw[this,Wr]
           omega
          refine⟨x,?_,bi,bj⟩;rw[af,OM,KL I];simpa using bh
        refine⟨rfl,λr aN=>?_⟩;generalize bk:(((List.range (len*d)).map (Oj H bo)).toArray++((List.range (l1.length*d)).map w1).toArray++Builtin.zeroCells ae.zero.cells (y-(len+l1.length)))=c at ax;have bl:y*d<=c.size:=by
         rw[<-bk];simp only[Array.size_append,List.size_toArray,Yp,List.length_range,Eb,aA];rw[<-Wr,<-Wr];have:len+l1.length+(y-(len+l1.length))=y:=U;rw[this];exact γ _
        obtain⟨V,W,X⟩:=p.Ns (H':=H.YB r c t) (r':=.cells t d (l++l1)) (bo':=some (r,c.size)) g trivial R (.inr λm aq=>by simp only[Row.WB,VK];omega) (λad aL O=>.inr (by cases O;exact aN))
         (λad _ Q=>by
          have aj:ad≠r:=λO=>by subst O;exact Q _ rfl
          exact⟨λo=>by simp[Χ.YB,aj],by simp[Χ.YB,aj],rfl⟩) (Χ.Ey aN c t) (JU p g) (λah=>by
          have aO:=ax.later ah;refine⟨by simp[Χ.YB],ax.1,λo ar=>⟨c[o],by simp[Χ.YB,ar]⟩,λi j=>(c[i*d+j]?).getD undef,λi e hi=>⟨(aO.2 i e hi).1,λj a f=>?_⟩⟩;obtain⟨x,ag,Φ,bm⟩:=(aO.2 i e hi).2 j a f;simp only[ag,Option.getD_some];exact⟨by simp[Χ.YB,ag],Φ,bm⟩)
        exact⟨S,_,_,_,J,W,V,X,.ms y (by rw[Xa Y]) (by simp[D]) (by rw[Xa aF]) U U (.inr ⟨r,c.size,rfl,I,by simpa using bl⟩)⟩
      | Vt v C Q=>rw[g] at C;cases C;simp only[Row.WB] at Q;omega
     .exact .bad
    .exact .bad
   .exact .bad
  .exact .bad
 .exact .bad
end
section
variable {P:Program} {T:ZR} {S:μ} {B:Z8} {H:Χ} {σ:Ο}
def RD (o:Option Ω) (d:Int):Option Int:=match o with
 | none=>some d
 | some (.z (.int _ n))=>some n
 | _=>none
def Oi (S:μ) (B:Z8) (σ:Ο):Option Ω->Option Value->Prop
 | none,none=>True
 | some a,some v=>π S B σ a v
 | _,_=>False
theorem Ea {k:IntKind} {n:Int} {y:Nat} {a:BoundsCode} (h:0<=n/\n<=y) {G:Χ} {K:Nat->Χ->Prop} {E:Value->Χ->Prop} (b:K n.toNat G):Ψ P (Instr.sliceBound (.int k n) y a) G K E:=by
 unfold Instr.sliceBound;refine Ψ.bind' (Ψ.pure' ?_);simp only[h,and_self,if_true];exact Ψ.pure' b
theorem JF {j:Bool} {len cap:Nat} {lo hi:Option Ω} {lv hv:Option Value} (f:Oi S B σ lo lv) (g:Oi S B σ hi hv) {a b:Int} (c:RD lo 0=some a) (d:RD hi len=some b) (h:0<=a/\a<=b/\b<=cap) {G:Χ} {K:Nat×Nat×Nat->Χ->Prop} {E:Value->Χ->Prop}
  (i:K (a.toNat,b.toNat,cap) G):Ψ P (Instr.sliceBounds j len cap lv hv none) G K E:=by
 unfold Instr.sliceBounds;refine Ψ.bind' (Ψ.pure' ?_);have low:∀(n:Nat),b.toNat=n->Ψ P (match lv with|some v=>Instr.sliceBound v n (if(none:Option Value).isSome then .slice3C else .sliceB)|none=>pure 0) G (λl G'=>Ψ P (pure (l,n,cap)) G' K E) E:=λn m=>by
  subst m;cases lo with
  | none=>
   cases lv with
   | some v=>exact f.elim
   | none=>cases c;exact Ψ.pure' (Ψ.pure' i)
  | some x=>
   cases lv with
   | none=>exact f.elim
   | some v=>
    unfold RD at c;split at c
    .rename_i e;cases e
    .rename_i k n e;cases e;cases c;cases f;exact Ea U (Ψ.pure' i)
    .cases c
 cases hi with
 | none=>
  cases hv with
  | some v=>exact g.elim
  | none=>
   cases d;refine Ψ.bind' (Ψ.pure' ?_);have:=low len I;cases lv with
   | none=>exact Ψ.bind' this
   | some v=>exact Ψ.bind' this
 | some x=>
  cases hv with
  | none=>exact g.elim
  | some v=>
   unfold RD at d;split at d
   .rename_i e;cases e
   .rename_i k n e;cases e;cases d;cases g;refine Ψ.bind' (Ea U ?_);have:=low _ rfl;cases lv with
    | none=>exact Ψ.bind' this
    | some v=>exact Ψ.bind' this
   .cases d
def JE (T:ZR) (g:TypeId) (x:Ω) (lo hi:Option Ω):Zf:=match T g with
 | some i=>match i.ZE,x with
  | .string,.z (.string s)=>match RD lo 0,RD hi s.size with
   | some a,some b=>.Y' (0<=a/\a<=b/\b<=s.size) (.ok (.z (.string (s.extract a.toNat b.toNat))))
   | _,_=>.bad
  | .slice e,.sl ex k l=>match T e,RD lo 0,RD hi l.length with
   | some d,some a,some b=>if l.isEmpty=true\/k=d.size then .Y' (0<=a/\a<=b/\b<=l.length) (.ok (.sl (ex&&hi.isNone) k ((l.take b.toNat).drop a.toNat))) else .bad
   | _,_,_=>.bad
  | .array n e,.Θ f=>match T e with
   | some d=>if d.size=1/\d.agg=false/\n<=f.length/\0<n/\lo.isNone/\hi.isNone/\(f.take n).all (λc=>decide (c.cells.length=1)&&Ω.YH [] c) then .ok (.sl true 1 (f.take n)) else .bad
   | none=>.bad
  | _,_=>.bad
 | none=>.bad
def JD (T:ZR) (c:TypeId) (σ:Ο) (x:Ω) (lo hi:Option Ω):Y2:=match T c with
 | some i=>match i.ZE,x with
  | .slice e,.ms id n i len=>match T e,σ[id]?,RD lo 0,RD hi len with
   | some d,some (.cells _ k l),some a,some b=>if k=d.size/\l.length=n then .Y' (0<=a/\a<=b/\b<=len) (.ok (.ms id n (i+a.toNat) (b.toNat-a.toNat)) σ) else .bad
   | _,_,_,_=>.bad
  | _,_=>.bad
 | none=>.bad
theorem y4 {ex:Bool} {k:Nat} {l:κ} {base:Option Addr} {len cap:Nat} (h:π S B σ (.sl ex k l) (.slice base len cap)) {a b f:Nat} (I:a<=b) (J:b<=l.length) (v:l.isEmpty=true\/k=f) (g:Bool) (s:g=true->ex=true/\b=l.length) :
  π S B σ (.sl g k ((l.take b).drop a)) (.slice (if cap=a then base else base.map (·.add (a*f))) (b-a) (cap-a)):=by
 obtain⟨K,L,e,M,t,y⟩:=QQ h;cases e;have d:((l.take b).drop a).length=b-a:=by simp;omega
 by_cases m:(l.take b).drop a=[]
 .rw[m] at d ⊢;have:b-a=0:=by simpa using d.symm
  rw[this];refine .Wo _ _ λn=>?_;obtain⟨p,Φ⟩:=s n;have:=t p;omega
 .have u:l≠[]:=by rintro rfl;simp at m
  obtain⟨A,o,w,rfl,C,D,E⟩:=y u;have F:k=f:=v.resolve_left λx=>u (Qh.1 x);subst F;have N:a<b:=by
   apply Tu;intro O;apply m;have:b-a=0:=U;rw[this] at d;exact YL.1 d
  rw[if_neg U];simp only[Option.map_some,Po];have el:∀(i:Nat) (e:Ω),((l.take b).drop a)[i]?=some e->l[a+i]?=some e:=λi e hi=>by
   rw[Tq,OK] at hi;split at hi
   .exact hi
   .cases hi
  have H:((l.take b).drop a).length<=cap-a:=by rw[d];omega
  have:=π.sl (S:=S) (B:=B) (σ:=σ) (ex:=g) (k:=k) (l:=(l.take b).drop a) A (o+a*k) (cap-a) (λi j=>w (a+i) j) (λn=>by obtain⟨p,Φ⟩:=s n;have:=t p;omega) H
   (λi e hi=>C _ e (el i e hi)) (λi e hi j c r=>by have:=D _ e (el i e hi) j c r;rw[Wr] at this;rw[UB o];exact this) (λi e hi j c r=>E _ e (el i e hi) j c r)
  rw[d] at this;exact this
theorem y3 (f:ZB P T) (A:Holds S B σ H) (C:TypeId) {x:Ω} {v:Value} (t:π S B σ x v) {lo hi:Option Ω} {lv hv:Option Value} (D:Oi S B σ lo lv) (E:Oi S B σ hi hv) :
  Y3 P (Instr.sliceAt C v lv hv none) S B H σ ((JE T C x lo hi).YD σ):=by
 unfold JE;cases m:T C with
 | none=>exact .bad
 | some i=>
  simp only;split
  .rename_i s g;cases t;split
   .rename_i a b F u;refine Y3.Y' (r:=(Zf.ok (.z (.string (s.extract a.toNat b.toNat)))).YD σ) λh K p=>?_;unfold Instr.sliceAt;refine Ψ.bind' (f.ZE m ?_);rw[g];simp only;unfold Instr.slice;refine Ψ.bind' (f.ZE m ?_);rw[g];simp only[Option.isSome_none,W',if_false];refine Ψ.bind' (JF D E F u h ?_);exact Ψ.pure' (.same A p (.z _))
   .exact .bad
  .rename_i e ex k l g;split
   .rename_i R a b I F u;split
    .rename_i V;refine Y3.Y' (r:=(Zf.ok (.sl (ex&&hi.isNone) k ((l.take b.toNat).drop a.toNat))).YD σ) λh K p=>?_;obtain⟨base,cap,rfl,L,M,_⟩:=QQ t;unfold Instr.sliceAt;refine Ψ.bind' (f.ZE m ?_);rw[g];simp only;unfold Instr.slice;refine Ψ.bind' (f.ZE m ?_);rw[g];simp only;refine Ψ.bind' (JF D E F u U ?_);simp only;refine Ψ.bind' (f.size I ?_);refine Ψ.pure' (.same A p (y4 t U U V _ λJ=>?_));simp only[Wt] at J;refine⟨J.1,?_⟩;cases hi with
     | none=>cases u;simp
     | some=>simp at J
    .exact .bad
   .exact .bad
  .rename_i n e y g;split
   .rename_i R I;split
    .rename_i W;obtain⟨X,ab,ad,ae,Y,Z,N⟩:=W;intro K p;cases t with
     | Θ b o w L M=>
      cases lo with
      | some=>simp at Y
      | none=>
       cases hi with
       | some=>simp at Z
       | none=>
        cases lv with
        | some=>exact D.elim
        | none=>
         cases hv with
         | some=>exact E.elim
         | none=>
          unfold Instr.sliceAt;refine Ψ.bind' (f.ZE m ?_);rw[g];simp only;refine Ψ.bind' (Ψ.pure' ?_);refine Ψ.bind' (JF (S:=S) (B:=B) (σ:=σ) (lo:=none) (hi:=none) (lv:=none) (hv:=none) trivial trivial (a:=0) (b:=n) rfl rfl U ?_);simp only[Int.toNat_natCast];refine Ψ.bind' (f.size I ?_);rw[X];refine Ψ.pure' (.same A p ?_);have aa:(0:Int).toNat=0:=rfl;rw[aa,if_neg U,Po];simp only[OF,Nat.add_zero,Nat.sub_zero];have O:(y.take n).length=n:=by simp;omega
          rw[WQ] at N;have el:∀(i:Nat) (e:Ω),(y.take n)[i]?=some e->y[i]?=some e/\e.cells=[e]:=λi e hi=>by
           have Q:=N e (Zi hi);simp only[Wt] at Q;rw[OK] at hi;split at hi
           .exact⟨hi,Ω.Hk Q.2⟩
           .cases hi
          have:=π.sl (S:=S) (B:=B) (σ:=σ) (ex:=true) (k:=1) (l:=y.take n) b o n (λi _=>w i) (λ_=>O.symm) U (λi e hi=>by rw[(el i e hi).2];rfl)
           (λi e hi j c d=>by
            rw[(el i e hi).2] at d
            match j with
            | 0=>simp at d;subst d;have:=L i _ (el i _ hi).1;simpa using this
            | j+1=>simp at d) (λi e hi j c d=>by
            rw[(el i e hi).2] at d
            match j with
            | 0=>simp at d;subst d;exact M i _ (el i _ hi).1
            | j+1=>simp at d)
          rw[O] at this;exact this
    .exact .bad
   .exact .bad
  .exact .bad
theorem y2 (f:ZB P T) (s:Holds S B σ H) (g:TypeId) {x:Ω} {v:Value} (u:π S B σ x v) {lo hi:Option Ω} {lv hv:Option Value} (w:Oi S B σ lo lv) (y:Oi S B σ hi hv) :
  Y3 P (Instr.sliceAt g v lv hv none) S B H σ (JD T g σ x lo hi):=by
 unfold JD;cases o:T g with
 | none=>exact .bad
 | some M=>
  simp only;split
  .rename_i e id n i len p;split
   .rename_i O t k l a b A j C D;split
    .rename_i m;obtain⟨E,F⟩:=m;refine .Y' λh K I=>?_;cases u with
     | ms cap c r J Q R d=>
      rw[j] at c;cases c;unfold Instr.sliceAt;refine Ψ.bind' (f.ZE o ?_);rw[p];simp only;unfold Instr.slice;refine Ψ.bind' (f.ZE o ?_);rw[p];simp only;refine Ψ.bind' (JF w y C D U ?_);simp only;refine Ψ.bind' (f.size A ?_);refine Ψ.pure' (.same s I (.ms (cap-a.toNat) j F J U U ?_));by_cases m:cap=a.toNat
      .exact .inl U
      .rcases d with d|⟨L,N,rfl,rfl,d⟩
       .exact .inl U
       .refine .inr ⟨L,N,rfl,?_,?_⟩
        .rw[if_neg m];simp only[Option.map_some,Po,E,Wr]
        .have:i+a.toNat+(cap-a.toNat)=i+cap:=U
         rw[this];exact d
     | Vt v c r=>rw[j] at c;cases c;simp only[Row.WB] at r;omega
    .exact .bad
   .exact .bad
  .exact .bad
def JC (T:ZR) (a:TypeId) (x:Ω):Zf:=match T a with
 | some i=>match i.ZE,x with
  | .string,.z (.string s)=>.ok (.z (.int .i64 s.size))
  | .slice _,.sl _ _ l=>.ok (.z (.int .i64 l.length))
  | .array n _,_=>.ok (.z (.int .i64 n))
  | _,_=>.bad
 | none=>.bad
def JB (T:ZR) (a:TypeId) (σ:Ο) (x:Ω):Y2:=match T a with
 | some i=>match i.ZE,x with
  | .slice _,.ms id n _ len=>match σ[id]? with
   | some (.cells _ _ l)=>if l.length=n then .ok (.z (.int .i64 len)) σ else .bad
   | _=>.bad
  | _,_=>.bad
 | none=>.bad
theorem y1 (c:ZB P T) (h:Holds S B σ H) (d j:TypeId) {x:Ω} {v:Value} (g:π S B σ x v):Y3 P (Builtin.len_ #[d] j #[v]) S B H σ ((JC T d x).YD σ):=by
 unfold JC;cases hi:T d with
 | none=>exact .bad
 | some i=>
  simp only;have f:∀(K:Ω->Ο->Prop) (n:Int),K (.z (.int .i64 n)) σ->Ψ P (pure (goInt n):Sem Value) H (VE S B H σ K) (λ_ _=>False):=λK n a=>Ψ.pure' (.same h a (.z _));split
  .rename_i s b;cases g;intro K a;unfold Builtin.len_;refine Ψ.bind' (c.ZE hi ?_);rw[b];exact f K _ a
  .rename_i e ex k l b;obtain⟨base,cap,rfl,_⟩:=QQ g;intro K a;unfold Builtin.len_;refine Ψ.bind' (c.ZE hi ?_);rw[b];exact f K _ a
  .rename_i n e b;intro K a;unfold Builtin.len_;refine Ψ.bind' (c.ZE hi ?_);rw[b];cases v<;>exact f K _ a
  .exact .bad
theorem y0 (d:ZB P T) (f:Holds S B σ H) (a g:TypeId) {x:Ω} {v:Value} (h:π S B σ x v):Y3 P (Builtin.len_ #[a] g #[v]) S B H σ (JB T a σ x):=by
 unfold JB;cases hi:T a with
 | none=>exact .bad
 | some i=>
  simp only;split
  .rename_i e id n j len m;split
   .rename_i t k l o;split
    .rename_i r;intro K p;cases h with
     | ms cap b c s u w y=>
      unfold Builtin.len_;refine Ψ.bind' (d.ZE hi ?_);rw[m];exact Ψ.pure' (.same f p (.z _))
     | Vt v b c=>rw[o] at b;cases b;simp only[Row.WB] at c;omega
    .exact .bad
   .exact .bad
  .exact .bad
def Ni (T:ZR) (src dst:TypeId) (x:Ω):Zf:=match T src,T dst with
 | some _,some j=>match j.ZE,x with
  | .int k,.z (.int _ n)=>.ok (.z (.int k (k.wrap n)))
  | _,_=>.bad
 | _,_=>.bad
theorem yZ (a:ZB P T) (b:Holds S B σ H) (src dst:TypeId) {x:Ω} {v:Value} (c:π S B σ x v):Y3 P (convert src dst v) S B H σ ((Ni T src dst x).YD σ):=by
 unfold Ni;split
 .rename_i i j hi d;split
  .rename_i k kk n e;cases c;intro K f;unfold convert;refine Ψ.bind' (a.ZE hi (Ψ.bind' (a.ZE d ?_)));rw[e];exact Ψ.pure' (.same b f (.z _))
  .exact .bad
 .exact .bad
def JA (l:κ):Zf:=match l with
 | [.z (.int k x),.z (.int _ y)]=>.ok (.z (.int k (if y > x then y else x)))
 | _=>.bad
theorem yY (c:Holds S B σ H) (d:Array TypeId) (f:TypeId) {a b:Ω} {u v:Value} (g:π S B σ a u) (h:π S B σ b v):Y3 P (Builtin.max_ d f #[u,v]) S B H σ ((JA [a,b]).YD σ):=by
 unfold JA;split
 .rename_i k x kk y e;simp at e;obtain⟨rfl,rfl⟩:=e;cases g;cases h;intro K i;exact Ψ.pure' (.same c i (.z _))
 .exact .bad
end
def TQ (d:TypeDesc) (x y:Value):Option Bool:=match d,x,y with
 | .int _,.int k a,.int c b=>if k=c then some (a==b) else none
 | .string,.string a,.string b=>some (a==b)
 | .bool,.bool a,.bool b=>some (a==b)
 | _,_,_=>none
def Vb:List (TypeDesc×Nat)->κ->κ->Option Bool
 | [],_,_=>some true
 |(d,o)::r,xs,a=>match xs[o]?,a[o]? with
  | some (.z x),some (.z y)=>match TQ d x y,Vb r xs a with
   | some b,some c=>some (b&&c)
   | _,_=>none
  | _,_=>none
def aeqv (T:ZR) (e:TypeId) (a b:Ω):Option Bool:=match T e with
 | some i=>match a,b with
  | .z x,.z y=>if VF i.ZE then TQ i.ZE x y else none
  | .ZT xs,.ZT d=>match i.eqs with|some c=>if xs.length=c.length/\d.length=c.length then Vb c xs d else none|none=>none
  | _,_=>none
 | none=>none
section
variable {P:Program} {T:ZR} {S:μ} {B:Z8} {H:Χ} {σ:Ο}
theorem Ψ.forIn_nil {α a:Type} {b:a} {f:α->a->Sem (ForInStep a)} {G:Χ} {K:a->Χ->Prop} {E:Value->Χ->Prop} (h:K b G):Ψ P (forIn ([]:List α) b f) G K E:=by
 rw[List.forIn_nil];exact h
theorem Ψ.forIn_cons {α c:Type} {a:α} {l:List α} {d:c} {f:α->c->Sem (ForInStep c)} {G:Χ} {K:c->Χ->Prop} {E:Value->Χ->Prop}
  (h:Ψ P (f a d) G (λr G'=>match r with|.done b=>K b G'|.yield b=>Ψ P (forIn l b f) G' K E) E):Ψ P (forIn (a::l) d f) G K E:=by
 rw[List.forIn_cons];refine Ψ.bind' (Ψ.mono (λr G' e=>?_) (λ_ _ h=>h) _ h);cases r with
 | done b=>exact Ψ.pure' e
 | yield b=>exact e
theorem forIn_range {a:Type} (m:Nat) (b:a) (f:Nat->a->Sem (ForInStep a)):forIn [:m] b f=forIn (List.range m) b f:=by
 rw[Std.Legacy.Range.forIn_eq_forIn_range'];simp[Std.Legacy.Range.size,KB]
theorem Hd {c:TypeId} {d:TypeDesc} (hd:P.underlying c=some d) (f:VF d=true) {x y:Value} {b:Bool} (h:TQ d x y=some b) {n:Nat} {G:Χ} {K:Bool->Χ->Prop} {E:Value->Χ->Prop} (a:K b G):Ψ P (Op.equalIn (n+1) c x y) G K E:=by
 unfold Op.equalIn;refine Ψ.bind' (Ψ.underlying hd ?_);unfold TQ at h;split at h
 .split at h
  .rename_i e;subst e;cases h;simp only[if_true];exact Ψ.pure' a
  .cases h
 .cases h;exact Ψ.pure' a
 .cases h;exact Ψ.pure' a
 .cases h
def Hc (xs:κ) (vs:Array Value):Prop:=∀(o:Nat) (v:Value),xs[o]?=some (Ω.z v)->vs[o]?=some v
theorem LW {xs:κ} {vs:Array Value} (h:π S B σ (.ZT xs) (.agg vs)):Hc xs vs:=λo v hv=>by
 cases h with
 | ZT _ b c=>
  have d:o<vs.size:=by rw[<-b];exact(ZA.1 hv).1
  have a:=XG d
  have:=c o _ _ hv a;generalize vs[o]=u at this a;cases this;exact a
theorem LV {a:TypeId} {d:TypeDesc} (hd:P.underlying a=some d) (b:VF d=true) {vs:Array Value} {o:Nat} {v:Value} (hv:vs[o]?=some v) {G:Χ} {K:Value->Χ->Prop} {E:Value->Χ->Prop} (c:K v G):Ψ P (part a vs o) G K E:=by
 unfold part;refine Ψ.bind' (Ψ.isAgg hd ?_);have:Ue d=false:=by cases d<;>first|rfl|cases b
 rw[this];simp only[W',if_false,hv];exact Ψ.pure' c
theorem yX {xs u:κ} {vs t:Array Value} (R:Hc xs vs) (S:Hc u t) {v:TypeId} {T:List (TypeDesc×Nat)} (w:Hm P v (some T)) {b:Bool} (h:Vb T xs u=some b) {n:Nat} {G:Χ} {K:Bool->Χ->Prop} {E:Value->Χ->Prop} (U:K b G) :
  Ψ P (Op.equalIn (n+2) v (.agg vs) (.agg t)) G K E:=by
 obtain⟨_,_,w⟩:=w;rcases w with⟨A,B,W,C,X⟩|⟨m,e,d,f,B,D,p,Y,Z,C⟩
 .unfold Op.equalIn;refine Ψ.bind' (Ψ.underlying B ?_);simp only;refine Ψ.bind' ?_;show Ψ P (if P.stoodInHeld v=true then _ else _) G K E;rw[W];simp only[W',if_false];have F:∀(l:List Field) (c:Bool),(∀f∈l,f.name≠ "_" /\ ∃d,P.underlying f.type=some d/\VF d=true)->Vb (l.map λf=>((P.underlying f.type).getD .invalid,f.offset)) xs u=some c->
    ∀k:Option Bool×PUnit->Χ->Prop,k (if c then none else some false,⟨⟩) G->Ψ P (forIn l (none,⟨⟩) λ(f:Field) (_:Option Bool×PUnit)=>if f.name≠ "_" then do
     let a <-part f.type vs f.offset
     let b <-part f.type t f.offset
     let r <-Op.equalIn (n+1) f.type a b
     if(!r)=true then pure (ForInStep.done (some false,⟨⟩)) else pure (ForInStep.yield (none,⟨⟩))
    else pure (ForInStep.yield (none,⟨⟩))) G k E:=by
   intro l
   induction l with
   | nil=>intro c _ j k o;simp[Vb] at j;subst j;exact .forIn_nil (by simpa using o)
   | cons f l H=>
    intro c V j k o;obtain⟨aa,d,hd,p⟩:=V f I;simp only[Xg,Vb,hd,Option.getD_some] at j;split at j<;>try cases j
    rename_i x y J L;split at j<;>try cases j
    rename_i M N O Q;refine .forIn_cons ?_;rw[if_pos aa];refine Ψ.bind' (LV hd p (R _ _ J) (Ψ.bind' (LV hd p (S _ _ L) (Ψ.bind' (Hd hd p O ?_)))));cases M with
    | false=>exact Ψ.pure' (by simpa using o)
    | true=>exact Ψ.pure' (H N (λg ab=>V g (by simp[ab])) Q k (by simpa using o))
  refine Ψ.bind' ?_;have ad:(forIn A (none,⟨⟩) λ(f:Field) (_:Option Bool×PUnit)=>if f.name≠ "_" then do
     let a <-part f.type vs f.offset
     let b <-part f.type t f.offset
     let r <-Op.equalIn (n+1) f.type a b
     if(!r)=true then pure (ForInStep.done (some false,⟨⟩)) else pure (ForInStep.yield (none,⟨⟩))
    else pure (ForInStep.yield (none,⟨⟩)):Sem (Option Bool×PUnit))=forIn A.toList (none,⟨⟩) _:=(Array.forIn_toList ..).symm
  refine Eq.mpr (congrArg (λs=>Ψ P s G _ E) ad) ?_;refine F A.toList b X (by rw[<-C];exact h) _ ?_;cases b<;>exact Ψ.pure' U
 .unfold Op.equalIn;refine Ψ.bind' (Ψ.underlying B ?_);simp only;refine Ψ.bind' (Ψ.sizeOf Y ?_);rw[Z];have F:∀(l:List Nat) (c:Bool),Vb (l.map λi=>(d,i)) xs u=some c->
    ∀k:Option Bool×PUnit->Χ->Prop,k (if c then none else some false,⟨⟩) G->Ψ P (forIn l (none,⟨⟩) λ(i:Nat) (_:Option Bool×PUnit)=>do
     let a <-part e vs (i*1)
     let b <-part e t (i*1)
     let r <-Op.equalIn (n+1) e a b
     if(!r)=true then pure (ForInStep.done (some false,⟨⟩)) else pure (ForInStep.yield (none,⟨⟩))) G k E:=by
   intro l
   induction l with
   | nil=>intro c j k o;simp[Vb] at j;subst j;exact .forIn_nil (by simpa using o)
   | cons i l H=>
    intro c j k o;simp only[Xg,Vb] at j;split at j<;>try cases j
    rename_i x y J L;split at j<;>try cases j
    rename_i M N O Q;refine .forIn_cons ?_;refine Ψ.bind' (LV D p (by rw[Sp];exact R _ _ J) (Ψ.bind' (LV D p (by rw[Sp];exact S _ _ L) (Ψ.bind' (Hd D p O ?_)))));cases M with
    | false=>exact Ψ.pure' (by simpa using o)
    | true=>exact Ψ.pure' (H N Q k (by simpa using o))
  refine Ψ.bind' ?_;rw[forIn_range];refine F (List.range m) b (by rw[<-C];exact h) _ ?_;cases b<;>exact Ψ.pure' U
theorem Hb (j:ZB P T) {c:TypeId} {a b:Ω} {v w:Value} {r:Bool} (d:π S B σ a v) (e:π S B σ b w) (h:aeqv T c a b=some r) {K:Bool->Χ->Prop} {E:Value->Χ->Prop} (f:K r H):Ψ P (Op.equal c v w) H K E:=by
 unfold aeqv at h;split at h
 .rename_i i hi;obtain⟨⟨k,g⟩,_⟩:=j c i hi;split at h
  .split at h
   .rename_i l;cases d;cases e;exact Hd k l h f
   .cases h
  .split at h
   .rename_i u m;rw[m] at g;split at h<;>try cases h
    cases d with
    | ZT vs n o=>cases e with
     | ZT p s t=>exact yX (LW (.ZT vs n o)) (LW (.ZT p s t)) g h f
   .cases h
  .cases h
 .cases h
theorem D' (a b:ByteArray):(a==b)=(a.data==b.data):=by
 cases a;cases b;rfl
theorem yW {a b:ByteArray} (h:(a==b)=true):a=b:=by
 rw[D'] at h;have:=eq_of_beq h;cases a;cases b;simp at this;simp[this]
theorem yV (a:ByteArray):(a==a)=true:=by rw[D'];exact beq_self_eq_true _
theorem D9 {d:TypeDesc} {x y:Value} (h:TQ d x y=some true):x=y/\∀n,Instr.sameBits n x x=true:=by
 unfold TQ at h;split at h
 .split at h
  .rename_i e;subst e;simp only[Qj,beq_iff_eq] at h;subst h;exact⟨rfl,λn=>by cases n<;>simp[Instr.sameBits]⟩
  .cases h
 .simp only[Qj] at h;have:=yW h;subst this;exact⟨rfl,λn=>by cases n<;>simp[Instr.sameBits,yV]⟩
 .simp only[Qj,beq_iff_eq] at h;subst h;exact⟨rfl,λn=>by cases n<;>simp[Instr.sameBits]⟩
 .cases h
theorem yU {xs g:κ}:∀(f:List (TypeDesc×Nat)),Vb f xs g=some true->∀o,o∈f.map (·.2)->∃x,xs[o]?=some (.z x)/\g[o]?=some (.z x)/\∀n,Instr.sameBits n x x=true:=by
 intro f
 induction f with
 | nil=>intro _ o e;simp at e
 | cons a f i=>
  obtain⟨d,p⟩:=a;intro h o e;simp only[Vb] at h;split at h<;>try cases h
  rename_i x y j k;split at h<;>try cases h
  rename_i b c l m;simp only[Qj,Wt] at h;obtain⟨rfl,rfl⟩:=h;simp only[Xg,Y6] at e;rcases e with rfl|e
  .obtain⟨r,Φ⟩:=D9 l;subst r;exact⟨x,j,k,Φ⟩
  .exact i m o e
theorem yT (C:ZB P T) {r:TypeId} {a b:Ω} {v w:Value} (s:π S B σ a v) (t:π S B σ b w) (h:aeqv T r a b=some true):v=w/\a=b/\∀n,Instr.sameBits (n+1) v v=true:=by
 unfold aeqv at h;split at h
 .rename_i i hi;obtain⟨⟨N,u⟩,_⟩:=C r i hi;split at h
  .split at h
   .obtain⟨f,Φ⟩:=D9 h;subst f;cases s;cases t;exact⟨rfl,rfl,λn=>Φ _⟩
   .cases h
  .rename_i xs y;split at h
   .rename_i d D;rw[D] at u;split at h<;>try cases h
    rename_i E;obtain⟨O,Q⟩:=E;have F:=u.2.1;have get:∀o,o<d.length->∃x,xs[o]?=some (.z x)/\y[o]?=some (.z x)/\∀n,Instr.sameBits n x x=true:=λo c=>yU d h o (by rw[F];simpa using c);have H:xs=y:=by
     apply VJ;intro o;by_cases c:o<d.length
     .obtain⟨x,g,j,_⟩:=get o c;rw[g,j]
     .rw[Wu U,Wu U]
    cases s with
    | ZT vs g j=>cases t with
     | ZT k I J=>
      have A:∀o,o<d.length->∃x,vs[o]?=some x/\k[o]?=some x/\∀n,Instr.sameBits n x x=true:=λo c=>by
       obtain⟨x,e,l,m⟩:=get o c;exact⟨x,LW (.ZT vs g j) o x e,LW (.ZT k I J) o x l,m⟩
      have K:vs=k:=by
       apply NF;intro o;by_cases c:o<d.length
       .obtain⟨x,e,l,_⟩:=A o c;rw[e,l]
       .rw[NL U,NL U]
      subst K;refine⟨rfl,by rw[H],λn=>?_⟩;simp only[Instr.sameBits,beq_self_eq_true,Bool.true_and,WQ];intro p L;obtain⟨o,c⟩:=St L;rw[List.getElem?_zip_eq_some] at c;have M:o<d.length:=by
       have:=(ZA.1 c.1).1;simp at this;omega
      obtain⟨x,e,_,m⟩:=A o M;rw[Wv,e] at c;obtain⟨f,Φ⟩:=c;cases f;rw[<-Xk Φ];exact m n
   .cases h
  .cases h
 .cases h
end
end Go.TL
