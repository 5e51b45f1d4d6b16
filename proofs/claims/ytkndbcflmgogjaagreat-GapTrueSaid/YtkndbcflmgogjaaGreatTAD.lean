import Derived.IntWalk
import Derived.Laws.Sem
import Derived.Test.YtkndbcflmgogjaaGreatTAC
set_option linter.defProp false
set_option maxHeartbeats 16000000
set_option maxRecDepth 20000
set_option linter.unusedSectionVars false
set_option linter.unusedSimpArgs false
set_option linter.unusedVariables false
namespace Go.TL
open Go.Conc
section
variable{P:Program}{T:ZY}{S:ζ}{B:ZZ}{H:Φ}{σ:Ρ}
def Hv(σ:Ρ)(a:Ψ):Y1:=if a.cells.all (Ψ.Y8 σ)=true then .ok (.Κ a.cells) σ else .bad
def KX(a:Ψ):Y4:=if a.cells.all (Ψ.Y8 [])=true then .ok (.Κ a.cells) else .bad
def KW(t:TypeId)(σ:Ρ)(a:Ψ):Y1:=if a.cells.all (Ψ.Y8 σ)=true then .ok (.Ο σ.length 1 0 0) (σ++[.cells t a.cells.length [a]]) else .bad
def EE(d:Holds S B σ H)(b){a v}(e:Θ S B σ a v)(f:a.cells.all (Ψ.Y8 σ)=true):Zo P (do pure (.pointer (some (<-newVar b v)))) S B H σ (.ok (.Κ a.cells) σ):=by
 intro K g;apply Ω.bind';unfold newVar newRow;refine Ω.bind' (KY d v.cells b λr h i c=>Ω.pure' (Ω.pure' ⟨_,_,_,_,g,i,h,c,?_⟩));exact Bx c (Xd.one e f)
def vq(c:Holds S B σ H)(b){a v}(d:Θ S B σ a v):Zo P (Instr.box b v) S B H σ (Hv σ a):=by
 unfold Hv;split
 .rename_i e;exact EE c b d e
 exact .bad
def vp(c:Holds S B σ H)(b){a v}(d:Θ S B σ a v):Zo P (Instr.box b v) S B H σ ((KX a).YA σ):=by
 unfold KX;split
 .rename_i e;exact EE c b d (KZ e)
 exact .bad
def Bw(d:Holds S B σ H)(c){a v}(e:Θ S B σ a v):Zo P (do pure (.pointer (some (<-newVar c v)))) S B H σ (KW c σ a):=by
 unfold KW;split
 .rename_i f;intro K g;apply Ω.bind';unfold newVar newRow;refine Ω.bind' (Mt d (Xd.one e f) c λr _ h m n=>Ω.pure' (Ω.pure' ⟨_,_,_,_,g,m,h,n,?_⟩));have:=Θ.Ο (S:=S) (B:=B++[some (r,v.cells.size)]) (σ:=σ++[.cells c a.cells.length [a]]) (id:=σ.length) (i:=0) (j:=0) (k:=a.cells.length) (t:=c) (l:=[a]) (b:=r) (N:=v.cells.size) o U (by rw[<-d.len];simp);simpa using this
 exact .bad
def vo(c:Holds S B σ H)(b){a v}(d:Θ S B σ a v):Zo P (Instr.box b v) S B H σ (KW b σ a):=Bw c b d
def Hu(T:ZY)(a:TypeId)(σ:Ρ):Y1:=match T a with|some i=>KW a σ (V3 i.zero)|none=>.bad
def Ht(T:ZY)(a:TypeId):Y4:=match T a with|some i=>KX (V3 i.zero)|none=>.bad
def vn(b:ZH P T)(c:Holds S B σ H)(a):Zo P (Instr.alloc a true (.tuple #[])) S B H σ (Hu T a σ):=by
 unfold Hu;cases hi:T a with
 | none=>exact .bad
 | some i=>
  intro K d;unfold Instr.alloc;exact Ω.bind' (b.zero hi (Bw c a (P7 i.zero) K d))
def vm(b:ZH P T)(c:Holds S B σ H)(a):Zo P (Instr.alloc a true (.tuple #[])) S B H σ ((Ht T a).YA σ):=by
 unfold Ht;cases hi:T a with
 | none=>exact .bad
 | some i=>
  simp only[KX];split
  .rename_i d;intro K e;unfold Instr.alloc;exact Ω.bind' (b.zero hi (EE c a (P7 i.zero) (KZ d) K e))
  exact .bad
def Pj(b:Nat->Option (Nat×Nat×Nat))(k:Nat)(c:Ψ->Bool)(l:μ):List (Nat×Ψ)->Option (μ)
 | []=>some l
 |(x,a)::r=>match b x with
  | some (i,j,n)=>match l[i]? with
   | some e=>if a.cells.length=n/\j+n<=k/\a.cells.all c=true then Pj b k c (l.set i (e.NG j a.cells)) r else none
   | none=>none
  | none=>none
def ED{k Y8}(v:∀a,Y8 a=true->a.Y8 σ=true){pl place}(w:∀x i j n,pl x=some (i,j,n)->place x=some (i*k+j,n)){env t}(y:Y' S B σ env t) :
  ∀(d:List (Nat×Operand))(c)(l f),Xd S B σ c k l->Pj pl k Y8 l (d.map λp=>(p.1,π env p.2))=some f->
  ∃c',Instr.fill place c (d.map λp=>(p.1,ZX t p.2))=some c'/\c'.size=c.size/\Xd S B σ c' k f/\f.length=l.length:=by
 intro d
 induction d with
 | nil=>intro c l f g h;cases h;exact⟨c,rfl,rfl,g,rfl⟩
 | cons p d A=>
  let ⟨x,b⟩:=p;intro c l f g h;simp only[WY,Pj]at h;split at h<;>try cases h
  rename_i i j n C;split at h<;>try cases h
  rename_i e o;split at h<;>try cases h
  rename_i D;let ⟨N,O,r⟩:=D;have m:=S4 y b;have s:(π env b).cells.all (Ψ.Y8 σ)=true:=by
   rw[Xk]at r ⊢;exact λa m=>v a (r a m)
  let ⟨P,_⟩:=m.cells s
  let ⟨E,F⟩:=g.put o m s (by omega:j+(π env b).cells.length<=k)
  let ⟨c',H,Υ,I,J⟩:=A _ _ _ F h;refine⟨c',?_,by rw[Υ,E],I,by rw[J];simp⟩;have K:=(ZT.1 o).1;have Q:i*k+j+(ZX t b).cells.size<=c.size:=by
   have L:(i+1)*k<=l.length*k:=Tk k K
   have R:=g.1;rw[WB]at L;omega
  simp only[WY,Instr.fill,w x i j n C];have u:((ZX t b).cells.size≠n)=False:=by simp;omega
  have M:(i*k+j+(ZX t b).cells.size > c.size)=False:=by simp;omega
  simp only[ne_eq,Bool.or_eq_true,M];simp[ne_eq]at u;simp only[u];exact H
def Bv(T:ZY)(a:Array Field):Option (List (Nat×Nat)):=a.toList.mapM λf=>(T f.type).map λi=>(f.offset,i.size)
def vl(g:ZH P T){K E c l}(h:Bv T c=some l)(b:K l.toArray H) :
  Ω P (c.mapM λf=>(do pure (f.offset,<-sizeOf f.type):Sem (Nat×Nat))) H K E:=by
 have j:∀(a:List Field)(l)(K),(a.mapM λf=>(T f.type).map λi=>(f.offset,i.size))=some l->K l H->Ω P (a.mapM λf=>(do pure (f.offset,<-sizeOf f.type):Sem (Nat×Nat))) H K E:=by
  intro a
  induction a with
  | nil=>intro l K h b;simp at h;subst h;exact Ω.pure' b
  | cons f a k=>
   intro l K h b;rw[List.mapM_cons]at h ⊢;cases d:T f.type with
   | none=>rw[d]at h;cases h
   | some i=>
    rw[d]at h;simp[Option.bind_eq_bind]at h;cases e:(a.mapM λf=>(T f.type).map λi=>(f.offset,i.size)) with
    | none=>rw[e]at h;cases h
    | some l2=>
     rw[e]at h;cases h;refine Ω.bind' (Ω.bind' (g.size d (Ω.pure' ?_)));refine Ω.bind' (k l2 _ e ?_);exact Ω.pure' b
 rw[Array.mapM_eq_mapM_toList];exact Ω.bind (c.toList.mapM _) (j c.toList l _ h (Ω.pure' b))
def Um(T:ZY)(a:Ψ->Bool)(c:TypeId)(parts:List (Nat×Ψ)):Y4:=match T c with
 | some i=>
  let z:=V3 i.zero
  if z.cells.length=i.zero.cells.size/\z.cells.all (Ψ.Y8 [])=true then match i.Z1 with
   | .struct d=>match Bv T d with
    | some f=>match Pj (λx=>(f[x]?).map λp=>(0,p.1,p.2)) z.cells.length a [z] parts with
     | some [e]=>.ok (.Z' e.cells)
     | _=>.bad
    | none=>.bad
   | .array _ el=>match T el with
    | some b=>match Pj (λx=>some (0,x*b.size,b.size)) z.cells.length a [z] parts with
     | some [e]=>.ok (.Z' e.cells)
     | _=>.bad
    | none=>.bad
   | _=>.bad
  else .bad
 | none=>.bad
def Bu{c k e}(h:Xd S B σ c k [e])(d:c.size=k):Θ S B σ (.Z' e.cells) (.agg c):=by
 let ⟨f,g⟩:=h.2 0 e U;refine .Z' c (by rw[f,d]) λj a v i hv=>?_;let ⟨x,b,Υ,_⟩:=g j a i;rw[MN,Vu,hv]at b;cases b;exact Υ
def Bt(b:ZH P T)(s:Holds S B σ H){Y8}(u:∀a,Y8 a=true->a.Y8 σ=true)(c){env t}(v:Y' S B σ env t)(parts:Array (Nat×Operand)) :
  Zo P (Instr.build c (parts.map λ(i,x)=>(i,ZX t x))) S B H σ ((Um T Y8 c (parts.toList.map λp=>(p.1,π env p.2))).YA σ):=by
 unfold Um;cases hi:T c with
 | none=>exact .bad
 | some i=>
  simp only;split
  .rename_i E;let ⟨w,F⟩:=E;have y:Xd S B σ i.zero.cells (V3 i.zero).cells.length [V3 i.zero]:=Xd.one (P7 i.zero) (KZ F);have A:(parts.map λ(i,x)=>(i,ZX t x)).toList=parts.toList.map λp=>(p.1,ZX t p.2):=o;split
   .rename_i L d;split
    .rename_i C I;split
     .rename_i e f;intro K g;unfold Instr.build;refine Ω.bind' (b.zero hi (Ω.bind' (b.Z1 hi ?_)));rw[d];refine Ω.bind' (vl b I ?_);let ⟨c',k,Υ,l,_⟩:=ED (place:=(C.toArray[·]?)) u (λx i j n h=>by
       cases r:C[x]? with
       | none=>rw[r]at h;cases h
       | some p=>rw[r]at h;cases h;simp[r]) v parts.toList _ _ _ y f
      rw[A,k];exact Ω.pure' (.same s g (Bu l (by rw[Υ,w])))
     exact .bad
    exact .bad
   .rename_i m el d;split
    .rename_i D J;split
     .rename_i e f;intro K g;unfold Instr.build;refine Ω.bind' (b.zero hi (Ω.bind' (b.Z1 hi ?_)));rw[d];refine Ω.bind' (b.size J ?_);let ⟨c',k,Υ,l,_⟩:=ED (place:=λi=>some (i*D.size,D.size)) u (λx i j n h=>by
       simp at h;obtain⟨rfl,rfl,rfl⟩:=h;simp) v parts.toList _ _ _ y f
      rw[A,k];exact Ω.pure' (.same s g (Bu l (by rw[Υ,w])))
     exact .bad
    exact .bad
   exact .bad
  exact .bad
def JJ(T:ZY)(b:Ψ->Bool)(c:TypeId)(len:Nat)(parts:List (Nat×Ψ)):Option (TypeId×Nat×μ):=match WR T c with
 | some (e,k,none)=>match T e with
  | some a=>if 0<k/\len*k<=2 ^ 24/\(V3 a.zero).cells.length=k/\(V3 a.zero).cells.all (Ψ.Y8 [])=true then
    (Pj (λx=>some (x,0,k)) k b (List.replicate len (V3 a.zero)) parts).map λl=>(e,k,l) else none
  | none=>none
 | _=>none
def Bs(m:ZH P T){Y8}(L:∀a,Y8 a=true->a.Y8 σ=true){y e len k l env t}(M:Y' S B σ env t){parts:Array (Nat×Operand)}
  (h:JJ T Y8 y len (parts.toList.map λp=>(p.1,π env p.2))=some (e,k,l)) {K E}
  (A:∀c,Xd S B σ c k l->l.length=len->Ω P (newObj (.cells c e)) H (λr H'=>K (.slice (some ⟨r,0,none⟩) len len) H') E) :
  Ω P (Instr.buildSlice y len (parts.map λ(i,x)=>(i,ZX t x))) H K E:=by
 unfold JJ at h;split at h<;>try cases h
 rename_i ae C N;split at h<;>try cases h
 rename_i g s;split at h<;>try cases h
 rename_i O;let ⟨af,ag,Q,R⟩:=O;let ⟨i,ah,hi,V,D,W⟩:=HA N;rw[s]at D;cases D;cases u:Pj (λx=>some (x,0,C)) C Y8 (List.replicate len (V3 g.zero)) (parts.toList.map λp=>(p.1,π env p.2)) with
 | none=>rw[u]at h;cases h
 | some ai=>
  rw[u]at h;cases h;unfold Instr.buildSlice;refine Ω.bind' (m.Z1 hi ?_);rw[V];refine Ω.bind' (m.size s ?_);rw[W];have X:¬(len*k > 2 ^ 24):=J;simp only[X];have Y:(parts.map λ(i,x)=>(i,ZX t x)).toList=parts.toList.map λp=>(p.1,ZX t p.2):=o;have F:∀b,(len=0\/b=g.zero.cells)->∃c',Instr.fill (λi=>some (i*k,k)) ((Array.range (len*k)).map (b[· % b.size]!)) (parts.map λ(i,x)=>(i,ZX t x)).toList=some c'/\Xd S B σ c' k l/\l.length=len:=λb v=>by
   have Z:Xd S B σ ((Array.range (len*k)).map (b[· % b.size]!)) k (List.replicate len (V3 g.zero)):=by
    rcases v with rfl|v
    .exact⟨o,λi e hi=>by simp at hi⟩
    exact Xd.Zf (P7 g.zero) (KZ R) Q (Z3 _) b v
   let ⟨c',d,Υ,f,aa⟩:=ED (place:=λi=>some (i*k,k)) L (λx i j n h=>by
    simp at h;obtain⟨rfl,rfl,rfl⟩:=h;simp) M parts.toList _ _ _ Z u
   rw[Y];exact⟨c',d,f,by rw[aa];simp⟩
  by_cases I:len=0
  .let ⟨c',d,Υ,f⟩:=F #[] (.inl I)
   have ab:len*k=0:=by rw[I];simp
   rw[if_pos ab];refine Ω.bind' (Ω.pure' ?_);rw[d];exact Ω.bind' (A c' Υ f)
  have ad:len*k≠0:=by
   intro w;rcases Nat.mul_eq_zero.1 w with w|w<;>omega
  let ⟨c',d,Υ,f⟩:=F _ (.inr U);rw[if_neg ad];refine Ω.bind' (m.zero s ?_);refine Ω.bind' (Ω.pure' ?_);rw[d];exact Ω.bind' (A c' Υ f)
def JI(T:ZY)(a:Ψ->Bool)(b:TypeId)(len:Nat)(parts:List (Nat×Ψ)):Y4:=match JJ T a b len parts with
 | some (_,k,l)=>.ok (.sl true k l)
 | none=>.bad
def Hs(T:ZY)(a:TypeId)(len:Nat)(parts:List (Nat×Ψ))(σ:Ρ):Y1:=match JJ T (Ψ.Y8 σ) a len parts with
 | some (e,k,l)=>.ok (.ms σ.length len 0 len) (σ++[.cells e k l])
 | none=>.bad
def Br(g:ZH P T)(j:Holds S B σ H){Y8}(m:∀a,Y8 a=true->a.Y8 σ=true)(b len){env t}(n:Y' S B σ env t)(parts:Array (Nat×Operand)) :
  Zo P (Instr.buildSlice b len (parts.map λ(i,x)=>(i,ZX t x))) S B H σ ((JI T Y8 b len (parts.toList.map λp=>(p.1,π env p.2))).YA σ):=by
 unfold JI;split
 .rename_i e k l h;intro K o;refine Bs g m n h λc s d=>KY j c e λr u v f=>⟨_,_,_,_,o,v,u,f,?_⟩;have:=Hw true f s J (λ_=>d.symm);rw[d]at this;exact this
 exact .bad
def Bq{r n k t l}(b:B.length=σ.length)(c:ZP)(d:l.length*k<=c.size)(a:l.length=n):Θ S (B++[some (r,c.size)]) (σ++[.cells t k l]) (.ms σ.length n 0 n) (.slice (some ⟨r,0,none⟩) n n):=by
 have:=Θ.ms (S:=S) (B:=B++[some (r,c.size)]) (σ:=σ++[.cells t k l]) (id:=σ.length) (i:=0) (len:=n) (t:=t) (k:=k) (l:=l) (bo:=some (r,c.size)) (base:=some ⟨r,0,none⟩) n o a (by rw[<-b];simp) J J (.inr ⟨r,c.size,U,o,by subst a;simpa using d⟩);exact this
def vk(g:ZH P T)(b:Holds S B σ H)(d len){env t}(j:Y' S B σ env t)(parts:Array (Nat×Operand)) :
  Zo P (Instr.buildSlice d len (parts.map λ(i,x)=>(i,ZX t x))) S B H σ (Hs T d len (parts.toList.map λp=>(p.1,π env p.2)) σ):=by
 unfold Hs;split
 .rename_i e k l h;intro K m;exact Bs g (λa h=>h) j h λc f n=>Mt b f e λr _ o s u=>⟨_,_,_,_,m,s,o,u,Bq b.len c f.1 n⟩
 exact .bad
def KV(T:ZY)(d:TypeId)(a b:Ψ):Option (TypeId×Nat×Ψ×Int×Int):=match WR T d,a,b with
 | some (e,k,none),.z (.int _ n),.z (.int _ m)=>match T e with
  | some c=>if 0<k/\(V3 c.zero).cells.length=k/\(V3 c.zero).cells.all (Ψ.Y8 [])=true then some (e,k,V3 c.zero,n,c.bytes) else none
  | none=>none
 | _,_,_=>none
end
section
variable{P:Program}{T:ZY}{S:ζ}{B:ZZ}{H:Φ}{σ:Ρ}
def EC(d:ZH P T){p e k z n bytes a b u v}(C:Θ S B σ a u)(D:Θ S B σ b v)(h:KV T p a b=some (e,k,z,n,bytes))(F:∀kk m,b=.z (.int kk m)->m=n)(I:0<=n/\0<bytes/\bytes*n<=2 ^ 48){K E}
  (s:∀c,Xd S B σ c k (List.replicate n.toNat z)->Ω P (newObj (.cells c e)) H (λr H'=>K (.slice (some ⟨r,0,none⟩) n.toNat n.toNat) H') E) :
  Ω P (Instr.makeSlice p u v) H K E:=by
 unfold KV at h;split at h<;>try cases h
 rename_i ad ae af ag ah m L;split at h<;>try cases h
 rename_i j g;split at h<;>try cases h
 rename_i M;let ⟨ai,N,O⟩:=M;cases C;cases D;have Q:=F _ _ U;subst Q;let ⟨i,aj,hi,R,t,V⟩:=HA L;rw[g]at t;cases t;let ⟨W,ak,al⟩:=I;have am:m<=2 ^ 48:=by
  have:1*m<=j.bytes*m:=E7 J W;omega
 have X:=IntWalk.i64_in m ⟨J,J⟩;unfold Instr.makeSlice;refine Ω.bind' (d.Z1 hi ?_);rw[R];refine Ω.bind' (Ω.bind' (Ω.pure' (Ω.pure' ?_)));refine Ω.bind' (Ω.bind' (Ω.pure' (Ω.pure' ?_)));refine Ω.bind' (d.info g λf Y=>?_);simp only[X,Y];have Z:¬m<0:=J;have aa:¬(j.bytes*m > 2 ^ 48):=J;have ab:¬m > m:=J;simp only[Z,aa,ab,decide_false,Bool.or_false,Vg,if_false];apply Ω.bind';have w:Ω P (do
   let x <-(do pure (m.toNat*(<-sizeOf e)):Sem Nat)
   let y <-if x=0 then pure #[] else do pure (<-zeroValue e).cells
   let a <-newRow e ((Array.range x).map (y[· % y.size]!))
   pure (.slice (some a) m.toNat m.toNat)) H K E:=by
  refine Ω.bind' (Ω.bind' (d.size g (Ω.pure' ?_)));rw[V];by_cases l:m.toNat*k=0
  .rw[if_pos l];refine Ω.bind' (Ω.pure' ?_);refine Ω.bind' (Ω.bind' ?_);apply s _;rcases Nat.mul_eq_zero.1 l with A|A
   .rw[A];exact⟨o,λi e hi=>by simp at hi⟩
   omega
  rw[if_neg l];refine Ω.bind' (d.zero g ?_);refine Ω.bind' (Ω.pure' ?_);refine Ω.bind' (Ω.bind' ?_);exact s _ (Xd.Zf (P7 j.zero) (KZ O) N (Z3 _) _ U)
 unfold askRoom;split
 .refine⟨.inl U,?_⟩;show Ω P _ H K E;have:=w;simpa using this
 apply Ω.pure';have:=w;simpa using this
def Hr(T:ZY)(c:TypeId)(a b:Ψ)(σ:Ρ):Y1:=match KV T c a b,b with
 | some (e,k,z,n,bytes),.z (.int _ m)=>.Zw (m=n/\0<=n/\0<bytes/\bytes*n<=2 ^ 48) (.ok (.ms σ.length n.toNat 0 n.toNat) (σ++[.cells e k (List.replicate n.toNat z)]))
 | _,_=>.bad
def vj(g:ZH P T)(d:Holds S B σ H){ty a b u v}(i:Θ S B σ a u)(j:Θ S B σ b v):Zo P (Instr.makeSlice ty u v) S B H σ (Hr T ty a b σ):=by
 unfold Hr;split
 .rename_i e k z n bytes kk m h;refine .Zw λ⟨l,p⟩ K s=>?_;refine EC g i j h (λA C t=>by cases t;exact l) p λc f=>Mt d f e λr _ w x y=>⟨_,_,_,_,s,x,w,y,?_⟩;exact Bq d.len c f.1 o
 exact .bad
def Ow(T:ZY)(c:TypeId)(a b:Ψ)(σ:Ρ):Y1:=match σ with
 | .cells t d []::τ=>match KV T c a b,b with
  | some (e,k,z,n,bytes),.z (.int _ m)=>if t=e/\d=k then .Zw (m=n/\0<=n/\0<bytes/\bytes*n<=2 ^ 48) (.ok (.ms 0 n.toNat 0 n.toNat) (.cells e k (List.replicate n.toNat z)::τ)) else .bad
  | _,_=>.bad
 | _=>.bad
def vi(V:ZH P T)(f:Holds S B σ H){ty a b u v}(W:Θ S B σ a u)(p:Θ S B σ b v):Zo P (Instr.makeSlice ty u v) S B H σ (Ow T ty a b σ):=by
 unfold Ow;split
 .rename_i t C τ;split
  .rename_i e k z n bytes kk m h;split
   .rename_i d;obtain⟨rfl,rfl⟩:=d;refine .Zw λ⟨X,Y⟩ K g=>?_;refine EC V W p h (λaf ag Z=>by cases Z;exact X) Y λc d=>?_;let ⟨bo,s⟩:=TH f (id:=0) U;by_cases D:n.toNat=0
    .rw[D]at g;refine KY f c _ λr w y A=>⟨_,_,_,_,g,y,w,A,?_⟩;rw[D];exact .ms 0 U U s (Z3 _) (Z3 _) (.inl U)
    refine⟨U,λr E=>?_⟩;let ⟨l,F⟩:=ν (List.replicate n.toNat z);have I:l.length=n.toNat:=by rw[F];simp
    rw[<-F]at d g;have aa:∀b,(∀N,bo≠some (b,N))->(∀N,some (r,c.size)≠some (b,N))->UY H (H.YF r c t) b:=λb _ p=>by
     have L:b≠r:=λe=>by subst e;exact p _ U
     exact⟨λM=>by simp[Φ.YF,L],by simp[Φ.YF,L],U⟩
    let ⟨w,y,A⟩:=f.QP (id:=0) (r':=.cells t C l) U trivial s (.inr λq O=>by simp at O;subst O;show 0<l.length;omega) (λb N e=>by cases e;exact .inr E) aa (Φ.EK E c t) (K2 f U) (λab=>by
     have Q:=d.later ab;refine⟨by simp[Φ.YF],d.1,λM ah=>⟨c[M],by simp[Φ.YF]⟩,λi j=>(c[i*C+j]?).getD undef,λi e hi=>⟨(Q.2 i e hi).1,λj a ad=>?_⟩⟩;let ⟨x,R,Υ,ae⟩:=(Q.2 i e hi).2 j a ad;simp[R];exact⟨by simp[Φ.YF,R],Υ,ae⟩)
    refine⟨_,_,_,_,g,y,w,A,?_⟩;refine .ms n.toNat U I (by rw[Xz (ZT.1 s).1]) J J (.inr ⟨r,c.size,U,o,?_⟩);have:=d.1;rw[I]at this;simpa using this
   exact .bad
  exact .bad
 exact .bad
def vh{T ty a b r r' p x}(h:Ow T ty a b [r]=.Zw p (.ok x [r']))(τ):Ow T ty a b (r::τ)=.Zw p (.ok x (r'::τ)):=by
 unfold Ow at h ⊢;split at h
 .rename_i t f g c;cases c;split at h
  .rename_i e k z n bytes kk m i;split at h
   .rename_i d;cases h;simp[d]
   cases h
  cases h
 cases h
def Hq(T:ZY)(c:TypeId)(a b:Ψ):Y4:=match KV T c a b,b with
 | some (_,k,z,n,bytes),.z (.int _ m)=>.Zw (m=n/\0<=n/\0<bytes/\bytes*n<=2 ^ 48) (.ok (.sl true k (List.replicate n.toNat z)))
 | _,_=>.bad
def vg(f:ZH P T)(g:Holds S B σ H){ty a b u v}(i:Θ S B σ a u)(j:Θ S B σ b v):Zo P (Instr.makeSlice ty u v) S B H σ ((Hq T ty a b).YA σ):=by
 unfold Hq;split
 .rename_i e k z n bytes kk m h;refine Zo.Zw λ⟨l,p⟩ K s=>?_;refine EC f i j h (λA C t=>by cases t;exact l) p λc w=>KY g c e λr x y d=>⟨_,_,_,_,s,y,x,d,?_⟩;have:=Hw (cap:=n.toNat) true d w o (λ_=>o);simpa using this
 exact .bad
def Reads(H:Φ)(base:Option Addr)(m:Nat)(w:Nat->Value):Prop:=m=0\/∃b a,base=some ⟨b,a,none⟩/\∀j,j<m->∃p,H.Α b (a+j)=some (w j,p)
def Bp{base k n cap len w}(h:Reads H base (n*k) w){K E}(c:K ((List.range (n*k)).map w).toArray H) :
  Ω P (Builtin.firstCells k n (.slice base len cap)) H K E:=by
 rcases h with h|⟨b,d,rfl,h⟩
 .rw[h]at c;cases base with
  | none=>exact Ω.pure' c
  | some a=>
   show Ω P (loadCells a (n*k)) H K E;rw[h];exact Ω.pure' c
 exact Ω.loadCells w U h c
def vf{a b}(h:b<a):Builtin.nextslicecap a b<=2*a+768:=by
 unfold Builtin.nextslicecap;have grow:∀r c,c<=2*a+768->Builtin.growBy a r c<=2*a+768:=by
  intro r
  induction r with
  | zero=>intro c d;exact d
  | succ r e=>
   intro c d;unfold Builtin.growBy;split
   .exact d
   exact e _ J
 split
 .omega
 split
 .omega
 exact grow 4 b J
def T1.isInt(i:T1):Bool:=i.Z1 matches .int _
def Vn(T:ZY)(b c:TypeId):Option (TypeId×Nat×T1):=match WR T b,T c with
 | some (e,k,none),some d=>match T e with
  | some a=>if 0<k/\a.zero.cells.size=k/\0<a.bytes/\a.bytes<=4096/\d.isInt=false then some (e,k,a) else none
  | none=>none
 | _,_=>none
def Src(P:Program)(H:Φ)(v:Value)(n k:Nat)(w:Nat->Value):Prop:=
 (∀(K)(E),K n H->Ω P (Builtin.lenOf v) H K E)/\∀(K)(E),K ((List.range (n*k)).map w).toArray H->Ω P (Builtin.firstCells k n v) H K E
def Reads.src{base n k cap w}(h:Reads H base (n*k) w):Src P H (.slice base n cap) n k w:=⟨λ_ _ h=>Ω.pure' h,λ_ _ a=>Bp h a⟩
def JH(c:ZH P T){o p w e k s}(h:Vn T o p=some (e,k,s)){base sLen b n v1 wo g}(x:Reads H base (sLen*k) wo)(j:Src P H v1 n k g)(aa:sLen+n<=4294967296){K E}
  (y:sLen+n<=b->Ω P (match base with|some a=>storeCells (a.add (sLen*k)) ((List.range (n*k)).map g)|none=>pure ()) H (λ_ H'=>K (.slice base (sLen+n) b) H') E)
  (A:b<sLen+n->∀l,sLen+n<=l->Ω P (newObj (.cells (((List.range (sLen*k)).map wo).toArray++((List.range (n*k)).map g).toArray++Builtin.zeroCells s.zero.cells (l-(sLen+n))) e)) H (λr H'=>K (.slice (some ⟨r,0,none⟩) (sLen+n) l) H') E) :
  Ω P (Builtin.append_ #[o,p] w #[.slice base sLen b,v1]) H K E:=by
 unfold Vn at h;split at h<;>try cases h
 rename_i ab ad ae B C;split at h<;>try cases h
 rename_i D d;split at h<;>try cases h
 rename_i F;let ⟨af,ag,ah,I,m⟩:=F;let ⟨i,D,hi,L,t,M⟩:=HA B;rw[d]at t;cases t;unfold Builtin.append_;simp only[List.getElem?_toArray,List.getElem?_cons_zero,List.getElem?_cons_succ];refine Ω.bind' (c.Z1 hi ?_);rw[L];refine Ω.bind' (c.size d ?_);rw[M];refine Ω.bind' (Ω.bind' (c.Z1 C ?_));split
 .rename_i N;unfold T1.isInt at m;rw[N]at m;cases m
 refine Ω.bind' (Ω.pure' ?_);simp only[Vg,if_false,Bool.not_false,if_true];refine Ω.bind' (j.1 _ _ ?_);split
 .rename_i O;refine Ω.bind' (j.2 _ _ ?_);have:=y O;cases base with
  | none=>exact this
  | some a=>exact Ω.bind' this
 rename_i ai;have u:b<sLen+n:=J;refine Ω.bind' (c.info d λf Q=>?_);have R:¬(((sLen+n:Nat):Int) > IntKind.i64.max/\(False\/f.bytes=0)):=by rw[Q];rintro⟨_,h|h⟩;exact h;omega
 simp only[R,if_false];refine Ω.bind' (c.info d λf2 S=>?_);have V:¬(Builtin.nextslicecap (sLen+n) b*f2.bytes > 2 ^ 48):=by
  rw[S];have W:=vf u;have aj:=Nat.mul_le_mul W I;omega
 simp[V,if_false];apply Ω.bind';unfold choose;simp[Ω];have X:(Question.appendCap (sLen+n) b e).forced=false:=rfl;rw[X];simp[Vg,if_false];intro q;refine Ω.bind' (c.info d λf3 ak=>?_);have v:Ω P (do
   let Y <-Builtin.firstCells k sLen (.slice base sLen b)
   let Z <-Builtin.firstCells k n v1
   let rest <-(do pure (Builtin.zeroCells (<-zeroValue e).cells ((Question.appendCap (sLen+n) b e).cut q-(sLen+n))):Sem (ZP))
   pure (.slice (some (<-newRow e (Y++Z++rest))) (sLen+n) ((Question.appendCap (sLen+n) b e).cut q))) H K E:=by
  refine Ω.bind' (Bp x ?_);refine Ω.bind' (j.2 _ _ ?_);refine Ω.bind' (Ω.bind' (c.zero d (Ω.pure' ?_)));refine Ω.bind' (Ω.bind' ?_);exact A u _ (by simp[Question.cut])
 apply Ω.bind';unfold askRoom;split
 .refine⟨.inl U,?_⟩;show Ω P _ H K E;simpa using v
 apply Ω.pure';simpa using v
end
section
variable{P:Program}{T:ZY}{S:ζ}{B:ZZ}{H:Φ}{σ:Ρ}
def QO(σ:Ρ):Ψ->Option (Nat×μ)
 | .sl _ k l=>some (k,l)
 | .ms id n i len=>match σ[id]? with
  | some (.cells _ k l)=>if l.length=n/\i+len<=n then some (k,(l.drop i).take len) else none
  | _=>none
 | _=>none
def Ms(S:ζ)(B:ZZ)(σ:Ρ)(w:Nat->Value)(k:Nat)(l:μ):Prop:=∀(i:Nat)(e:Ψ),l[i]?=some e->e.cells.length=k/\∀(j:Nat)(a:Ψ),e.cells[j]?=some a->Θ S B σ a (w (i*k+j))
def ve{k i j:Nat}(a:j<k):(i*k+j) / k=i/\(i*k+j) % k=j:=by
 have b:0<k:=J;refine⟨?_,?_⟩
 .rw[NO,Nat.add_mul_div_right _ _ b,Nat.div_eq_of_lt a,Vu]
 rw[NO,Nat.add_mul_mod_self_right];exact Nat.mod_eq_of_lt a
def KU(P:Holds S B σ H){a:Ψ}{v:Value}{k C:Nat}{l:μ}(Q:Θ S B σ a v)(h:QO σ a=some (C,l))(R:0<k)(T:l.isEmpty=true\/C=k) :
  ∃base cap w,v=.slice base l.length cap/\l.length<=cap/\Reads H base (l.length*k) w/\Ms S B σ w k l:=by
 have V:∀(b s:Nat)(y:Nat->Nat->Value),(∀(i:Nat)(e:Ψ),l[i]?=some e->e.cells.length=k)->(∀(i:Nat)(e:Ψ),l[i]?=some e->∀(j:Nat)(c:Ψ),e.cells[j]?=some c->∃p,H.Α b (s+i*k+j)=some (y i j,p))->
   (∀(i:Nat)(e:Ψ),l[i]?=some e->∀(j:Nat)(c:Ψ),e.cells[j]?=some c->Θ S B σ c (y i j))->Reads H (some ⟨b,s,none⟩) (l.length*k) (λm=>y (m / k) (m % k))/\Ms S B σ (λm=>y (m / k) (m % k)) k l:=by
  intro b s y d u A;refine⟨.inr ⟨b,s,U,λm Z=>?_⟩,λi e hi=>⟨d i e hi,λj c g=>?_⟩⟩
  .have hi:m / k<l.length:=(Nat.div_lt_iff_lt_mul R).2 Z
   have W:l[m / k]?=some l[m / k]:=ξ hi
   have g:m % k<l[m / k].cells.length:=by rw[d _ _ W];exact Lg _ R
   obtain⟨p,aa⟩:=u _ _ W (m % k) _ (ξ g);refine⟨p,?_⟩;have:s+m=s+m / k*k+m % k:=by have:=Nat.div_add_mod m k;rw[Nat.mul_comm]at this;omega
   rw[this];exact aa
  have ab:j<k:=by rw[<-d i e hi];exact(ZT.1 g).1
  obtain⟨ad,Υ⟩:=ve (i:=i) ab;simp only[ad,Υ];exact A i e hi j c g
 have I:∀(base:Option Addr)(cap:Nat),l=[]->v=.slice base 0 cap->∃base cap w,v=.slice base l.length cap/\l.length<=cap/\Reads H base (l.length*k) w/\Ms S B σ w k l:=λbase cap r hv=>by
  subst r;exact⟨base,cap,λ_=>undef,hv,Γ _,.inl o,λi e hi=>by simp at hi⟩
 unfold QO at h;split at h
 .cases h;obtain⟨base,cap,rfl,d,_,u⟩:=TF Q;by_cases r:l=[]
  .exact I base cap r (by rw[r];rfl)
  obtain⟨b,s,w,rfl,A,X,Y⟩:=u r;have K:C=k:=T.elim (λx=>absurd (Tj.1 x) r) id;subst K;obtain⟨L,M⟩:=V b s w A (λi e hi j c g=>P.Za _ _ _ (X i e hi j c g)) Y;exact⟨_,cap,_,U,d,L,M⟩
 .rename_i id n i len;split at h
  .rename_i t ah D r;split at h
   .rename_i ae;cases h;obtain⟨ai,aj⟩:=ae;have E:((D.drop i).take len).length=len:=by simp;omega
    cases Q with
    | ms cap d u A X Y F=>
     rw[r]at d;cases d;rcases F with F|⟨b,N,rfl,rfl,F⟩
     .subst F;have:len=0:=J;subst this;exact I _ 0 o U
     by_cases af:len=0
     .subst af;exact I _ cap o U
     have ag:¬((D.drop i).take len).isEmpty=true:=λx=>by
      rw[Tj]at x;rw[x]at E;simp at E;omega
     have K:=T.resolve_left ag;subst K;obtain⟨ak,al,am,w,O⟩:=P.row id _ _ r A;have el:∀(x:Nat)(e:Ψ),((D.drop i).take len)[x]?=some e->D[i+x]?=some e:=λx e f=>by
      rw[Q4]at f;split at f
      .rw[Vf]at f;exact f
      cases f
     obtain⟨L,M⟩:=V b (i*C) (λx j=>w (i+x) j) (λx e f=>(O _ e (el x e f)).1) (λx e f j c g=>⟨true,by
      have:=((O _ e (el x e f)).2 j c g).1;rw[WB]at this;exact this⟩) (λx e f j c g=>((O _ e (el x e f)).2 j c g).2.1)
     exact⟨_,cap,_,by rw[E],by rw[E];omega,L,M⟩
    | VP v d u=>rw[r]at d;cases d;simp only[Row.W3]at u;omega
   cases h
  cases h
 cases h
def Hp{w1 f:Nat->Value}{k:Nat}{l1 l2:μ}(g:Ms S B σ w1 k l1)(m:Ms S B σ f k l2)(s:l1.all (λe=>e.cells.all (Ψ.Y8 σ))=true)(t:l2.all (λe=>e.cells.all (Ψ.Y8 σ))=true)(z:ZP) :
  Xd S B σ (((List.range (l1.length*k)).map w1).toArray++((List.range (l2.length*k)).map f).toArray++z) k (l1++l2):=by
 have p:∀(l:μ),l.all (λe=>e.cells.all (Ψ.Y8 σ))=true->∀e∈l,∀a∈e.cells,Ψ.Y8 σ a=true:=λl h e n a u=>Xk.1 (Xk.1 h e n) a u;refine⟨by simp[WB],λi e hi=>?_⟩;by_cases r:i<l1.length
 .rw[YT r]at hi;refine⟨(g i e hi).1,λj a b=>?_⟩;have v:j<k:=by rw[<-(g i e hi).1];exact(ZT.1 b).1
  have d:i*k+j<l1.length*k:=by
   have:(i+1)*k<=l1.length*k:=Tk k r;rw[WB]at this;omega
  have c:=(g i e hi).2 j a b;refine⟨w1 (i*k+j),?_,c,c.K3 (p l1 s e (ZD hi) a (ZD b))⟩;rw[MS,Lr (by simpa using d)];simp[d]
 rw[W5 J]at hi;refine⟨(m _ e hi).1,λj a b=>?_⟩;have v:j<k:=by rw[<-(m _ e hi).1];exact(ZT.1 b).1
 have w:i-l1.length<l2.length:=(ZT.1 hi).1
 have d:(i-l1.length)*k+j<l2.length*k:=by
  have:(i-l1.length+1)*k<=l2.length*k:=Tk k w;rw[WB]at this;omega
 have n:i*k+j=l1.length*k+((i-l1.length)*k+j):=by
  have:i=l1.length+(i-l1.length):=J
  conv=>lhs;rw[this,WB]
  omega
 have c:=(m _ e hi).2 j a b;refine⟨f ((i-l1.length)*k+j),?_,c,c.K3 (p l2 t e (ZD hi) a (ZD b))⟩;rw[n,MS,Iq o];rw[Lr (by simp;omega)];simp[d]
def Ψ.Ph(Y8:Ψ->Bool)(l:μ):Bool:=l.all λe=>e.cells.all Y8
def W1(s:ByteArray):μ:=s.data.toList.map λb=>.z (.int .u8 b.toNat)
def Ov(σ:Ρ)(x:Ψ):Option (Nat×μ):=match x with
 | .z (.string s)=>some (1,W1 s)
 | _=>QO σ x
def Bo(x:Holds S B σ H){a:Ψ}{v:Value}{k r:Nat}{l:μ}(t:Θ S B σ a v)(h:Ov σ a=some (r,l))(y:0<k)(f:l.isEmpty=true\/r=k) :
  ∃w,Src P H v l.length k w/\Ms S B σ w k l:=by
 unfold Ov at h;split at h
 .rename_i s;cases h;cases t;have g:(W1 s).length=s.size:=by simp[W1]
  refine⟨λi=>match (W1 s)[i]? with|some (.z u)=>u|_=>undef,⟨λK E c=>Ω.pure' (by rw[g]at c;exact c),λK E c=>?_⟩,λi e hi=>?_⟩
  .rcases f with m|rfl
   .have d:W1 s=[]:=Tj.1 m
    have A:s.size=0:=by rw[<-g,d];rfl
    have hd:s.data=#[]:=OI A;rw[d]at c ⊢;refine Ω.pure' ?_;have n:((s.extract 0 ([]:μ).length).data.map λb=>Value.int .u8 b.toNat)=#[]:=by
     apply OI;simp
    rw[n];simpa using c
   refine Ω.pure' ?_;rw[g]at c ⊢;have n:((s.extract 0 s.size).data.map λb=>Value.int .u8 b.toNat)=((List.range (s.size*1)).map λi=>match (W1 s)[i]? with|some (.z u)=>u|_=>undef).toArray:=by
    apply NN;simp only[Array.toList_map,SH,List.toList_toArray];apply T6;intro i;have C:(s.extract 0 s.size).data=s.data:=by
     rw[ByteArray.data_extract];exact Array.extract_size
    rw[C,YK,YK];by_cases hi:i<s.size
    .have D:i<s.data.toList.length:=by simpa using hi
     rw[ξ D,Ig hi];simp[W1,hi]
    rw[Wk (by simpa using Nat.le_of_not_lt hi),Wk (by simpa using Nat.le_of_not_lt hi)];rfl
   rw[n];exact c
  have o:=hi;unfold W1 at hi;rw[YK]at hi;obtain⟨b,_,rfl⟩:=T7.1 hi;have F:k=1:=by
   rcases f with m|h
   .have d:W1 s=[]:=Tj.1 m;rw[d]at o;cases o
   exact h.symm
  subst F;refine⟨U,λj a p=>?_⟩;cases j with
  | zero=>
   simp[Ψ.cells]at p;subst p;simp only[SH,Nat.add_zero,o];exact .z _
  | succ j=>simp[Ψ.cells]at p
 obtain⟨base,cap,w,rfl,_,I,J⟩:=KU x t h y f;exact⟨w,I.src,J⟩
def Ou(T:ZY)(c d:TypeId)(b:Ψ->Bool)(σ:Ρ)(s x:Ψ):Y4:=
 match Vn T c d,s,Ov σ x with
 | some (_,k,_),.sl true e a,some (f,l1)=>
  if(a.isEmpty=true\/e=k)/\(l1.isEmpty=true\/f=k)/\Ψ.Ph b a=true/\Ψ.Ph b l1=true then .Zw (a.length+l1.length<=4294967296) (.ok (.sl false k (a++l1))) else .bad
 | _,_,_=>.bad
def vd{k d:Nat}{a:μ}{v:Value}(h:Θ S B σ (.sl true d a) v)(e:a.isEmpty=true\/d=k):Θ S B σ (.sl false k a) v:=by
 by_cases c:a=[]
 .subst c;obtain⟨base,cap,rfl,_⟩:=TF h;exact .WI base cap o
 have:=e.resolve_left (λx=>c (Tj.1 x));subst this;cases h with
 | WI=>exact absurd rfl c
 | sl b f cap w m g i j l=>exact .sl b f cap w o g i j l
def Ho{b:Ψ->Bool}(c:∀a:Ψ,b a=true->a.Y8 σ=true){l:μ}(h:Ψ.Ph b l=true):l.all (λe=>e.cells.all (Ψ.Y8 σ))=true:=by
 unfold Ψ.Ph at h;rw[Xk]at h ⊢;intro e d;have:=h e d;rw[Xk]at this ⊢;exact λa f=>c a (this a f)
def Bn(I:ZH P T)(j:Holds S B σ H){n:Ψ->Bool}(p:∀a:Ψ,n a=true->a.Y8 σ=true)(t y J:TypeId){s x:Ψ}{u v:Value}(l:Θ S B σ s u)(L:Θ S B σ x v) :
  Zo P (Builtin.append_ #[t,y] J #[u,v]) S B H σ ((Ou T t y n σ s x).YA σ):=by
 unfold Ou;split
 .rename_i e k M ak g al l1 f N;split
  .rename_i O;obtain⟨A,Q,R,V⟩:=O;refine Zo.Zw (r:=(Y4.ok (.sl false k (g++l1))).YA σ) λW K X=>?_;have C:0<k:=by
    unfold Vn at f;split at f<;>try cases f
    split at f<;>try cases f
    split at f<;>try cases f
    rename_i h;exact h.1
   obtain⟨base,cap,w,rfl,_,Y,Z⟩:=KU j l (k:=k) U C A;obtain⟨w1,aa,ab⟩:=Bo (P:=P) j L N C Q;have am:cap=g.length:=by
    obtain⟨an,ao,ad,_,Υ,_⟩:=TF l;cases ad;exact Υ U
   have m:∀i H' v,Holds i B σ H'->Ext S B H i B H'->ZC S i B B σ σ->Θ i B σ (.sl false k (g++l1)) v->Xu S B H σ K v H':=λi H' v a b c d=>⟨i,B,σ,_,X,b,a,c,d⟩;refine JH I f Y aa W (λae=>?_) (λ_ D af=>?_)
   .have ag:l1=[]:=by
     cases l1 with
     | nil=>rfl
     | cons=>simp at ae;omega
    subst ag;have E:Θ S B σ (.sl false k (g++[])) (.slice base (g.length+([]:μ).length) cap):=by
     rw[TM];exact vd l A
    cases base with
    | none=>exact Ω.pure' (m S H _ j (.refl _ _ _) (.refl _ _ _) E)
    | some a=>
     have ah:((List.range (([]:μ).length*k)).map w1)=[]:=o;rw[ah];exact Ω.pure' (m S H _ j (.refl _ _ _) (.refl _ _ _) E)
   refine KY j _ e λr ai aj F=>m _ _ _ ai aj F ?_;have:=Hw (cap:=D) false F (Hp Z ab (Ho p R) (Ho p V) (Builtin.zeroCells M.zero.cells (D-(g.length+l1.length)))) (by simpa using af) o;rw[VH]at this;exact this
  exact .bad
 exact .bad
end
section
variable{P:Program}{T:ZY}{S:ζ}{B:ZZ}{H:Φ}{σ:Ρ}
def vc{b c e k a}(h:Vn T b c=some (e,k,a)):0<k/\a.zero.cells.size=k:=by
 unfold Vn at h;split at h<;>try cases h
 split at h<;>try cases h
 split at h<;>try cases h
 rename_i h;exact⟨h.1,h.2.1⟩
def Mr{a:Type}(l:List a)(x):(l++[x])[l.length]?=some x:=o
def Mq{B:ZZ}{σ:Ρ}(a:B.length=σ.length)(bo):(B++[bo])[σ.length]?=some bo:=by rw[<-a];simp
def Mp(H:Φ)(bo:Option (Nat×Nat))(m:Nat):Value:=match bo with|some (b,_)=>((H.Α b m).map (·.1)).getD undef|none=>undef
def EB(z n):(Builtin.zeroCells z n).size=n*z.size:=by simp[Builtin.zeroCells]
def Hn(T:ZY)(c d:TypeId)(σ:Ρ)(s x:Ψ):Y1:=
 match Vn T c d,Ov σ x with
 | some (e,k,_),some (f,l1)=>
  if(l1.isEmpty=true\/f=k)/\Ψ.Ph (Ψ.Y8 σ) l1=true then match s with
   | .sl true b a=>if a.isEmpty=true then .Zw (l1.length<=4294967296) (.ok (.ms σ.length l1.length 0 l1.length) (σ++[.cells e k l1])) else
    if b=k/\l1.isEmpty=false/\Ψ.Ph (Ψ.Y8 σ) a=true then .Zw (a.length+l1.length<=4294967296) (.ok (.ms σ.length (a.length+l1.length) 0 (a.length+l1.length)) (σ++[.cells e k (a++l1)])) else
    if b=k/\l1.isEmpty=true then .Zw (a.length<=4294967296) (.ok (.sl true b a) σ) else .bad
   | .ms id n i len=>match σ[id]? with
    | some (.cells t g l)=>if i=0/\l.length=n/\len=n/\g=k/\t=e then .Zw (n+l1.length<=4294967296) (.ok (.ms id (n+l1.length) 0 (n+l1.length)) (σ.set id (.cells t k (l++l1)))) else .bad
    | _=>.bad
   | _=>.bad
  else .bad
 | _,_=>.bad
def vb(ar:ZH P T)(p:Holds S B σ H)(aM aN a0:TypeId){s x:Ψ}{u v:Value}(Q:Θ S B σ s u)(a1:Θ S B σ x v) :
  Zo P (Builtin.append_ #[aM,aN] a0 #[u,v]) S B H σ (Hn T aM aN σ s x):=by
 unfold Hn;split
 .rename_i e k ab bw l1 ad a2;split
  .rename_i a3;obtain⟨a4,a5⟩:=a3;obtain⟨ae,aA⟩:=vc ad;obtain⟨w1,au,E⟩:=Bo (P:=P) p a1 a2 ae a4;have av:=Ho (σ:=σ) (λa h=>h) a5;split
   .rename_i aB R;split
    .rename_i aw;have a6:R=[]:=Tj.1 aw;subst a6;refine .Zw λZ K A=>?_;obtain⟨base,cap,rfl,_,aC,_⟩:=TF Q;have a7:cap=0:=aC U;subst a7;refine JH ar ad (sLen:=0) (wo:=λ_=>undef) (.inl o) au J (λax=>?_) (λ_ g aa=>?_)
     .have aD:l1=[]:=by
       cases l1 with
       | nil=>rfl
       | cons=>simp at ax
      subst aD;obtain⟨af,ag,ah⟩:=p.push (H':=H) (r:=.cells e k []) (bo:=none) (λb N e=>by cases e) (λb _=>⟨λ_=>rfl,U,U⟩) (λ_=>rfl);have ai:Xu S B H σ K (.slice base (([]:μ).length+([]:μ).length) 0) H:=⟨S,_,_,_,A,ag,af,ah,.ms 0 (Mr σ _) U (Mq p.len _) o o (.inl U)⟩;cases base with
      | none=>exact Ω.pure' ai
      | some a=>
       have aj:((List.range (([]:μ).length*k)).map w1)=[]:=o;rw[aj];exact Ω.pure' ai
     have y:Xd S B σ (((List.range (0*k)).map λ_=>undef).toArray++((List.range (l1.length*k)).map w1).toArray++Builtin.zeroCells ab.zero.cells (g-(0+l1.length))) k ([]++l1):=
      Hp (l1:=[]) (λi e hi=>by simp at hi) E o av _
     rw[List.nil_append]at y;refine Mt p y e λr _ C F I=>⟨_,_,_,_,A,F,C,I,?_⟩;simp only[List.length_nil,Vu];refine .ms g (Mr σ _) U (Mq p.len _) J (by simpa using aa) (.inr ⟨r,_,U,o,?_⟩);simp only[Vu,Ia,List.size_toArray,WS,H9,EB,aA,MN];rw[<-WB];have:l1.length+(g-l1.length)=g:=by simp at aa;omega
     rw[this];exact Z3 _
    split
    .rename_i ak;obtain⟨d1,d2,d3⟩:=ak;subst d1;refine .Zw λZ K A=>?_;obtain⟨base,cap,w,rfl,_,aE,aO⟩:=KU p Q (k:=aB) U ae (.inr U);have aC:cap=R.length:=by
      obtain⟨V,a8,L,_,Υ,_⟩:=TF Q;cases L;exact Υ U
     have al:0<l1.length:=by cases l1 with
      | nil=>simp at d2
      | cons=>simp
     refine JH ar ad aE au Z (λax=>J) (λ_ g aa=>?_);have y:=Hp aO E (Ho (σ:=σ) (λa h=>h) d3) av (Builtin.zeroCells ab.zero.cells (g-(R.length+l1.length)));refine Mt p y e λr _ C F I=>⟨_,_,_,_,A,F,C,I,?_⟩;refine .ms g (Mr σ _) o (Mq p.len _) J (by simpa using aa) (.inr ⟨r,_,U,o,?_⟩);simp only[Vu,Ia,List.size_toArray,WS,H9,EB,aA];rw[<-WB,<-WB];have:R.length+l1.length+(g-(R.length+l1.length))=g:=J;rw[this];exact Z3 _
    split
    .rename_i ak;obtain⟨d1,d2⟩:=ak;subst d1;have aD:l1=[]:=Tj.1 d2;subst aD;refine .Zw λZ K A=>?_;obtain⟨base,cap,w,rfl,_,aE,aO⟩:=KU p Q (k:=aB) U ae (.inr U);have aC:cap=R.length:=by
      obtain⟨V,a8,L,_,Υ,_⟩:=TF Q;cases L;exact Υ U
     refine JH ar ad aE au (by simpa using Z) (λax=>?_) (λaF g aa=>?_)
     .have ai:Xu S B H σ K (.slice base (R.length+([]:μ).length) cap) H:=⟨S,B,σ,_,A,.refl _ _ _,p,.refl _ _ _,Q⟩;cases base with
      | none=>exact Ω.pure' ai
      | some a=>
       have aj:((List.range (([]:μ).length*aB)).map w1)=[]:=o;rw[aj];exact Ω.pure' ai
     exact absurd aF (by simp;omega)
    exact .bad
   .rename_i id n i len;split
    .rename_i t d l y;split
     .rename_i ak;obtain⟨a9,M,a',ba,bb⟩:=ak;subst a9;subst a';subst ba;subst bb;refine .Zw λZ K A=>?_;cases Q with
      | @ms _ _ _ _ _ _ _ bo base cap C F I bx bc O=>
       rw[y]at C;cases C;have W:=p.row id _ bo y I;have bd:Reads H base (len*d) (Mp H bo):=by
        rcases O with O|⟨b,N,rfl,rfl,O⟩
        .exact .inl (by rw[show len=0 from J];simp)
        refine .inr ⟨b,0,o,λj f=>⟨true,?_⟩⟩;obtain⟨w,D⟩:=W.2.2.1 j (by have:=W.2.1;rw[M]at this;omega);rw[Vu];simp[D,Mp]
       have be:l1=[]->Xu S B H σ K (.slice base (len+l1.length) cap) H:=λX=>by
        subst X;have am:id<σ.length:=(ZT.1 y).1;have bf:σ.set id (.cells t d (l++[]))=σ:=by
         rw[TM];apply T6;intro j;by_cases aP:id=j
         .subst aP;rw[Xz am,y]
         rw[XJ aP]
        rw[bf]at A;exact⟨S,B,σ,_,A,.refl _ _ _,p,.refl _ _ _,.ms cap y M I o bc O⟩
       have am:id<σ.length:=(ZT.1 y).1
       have aQ:id<B.length:=by rw[p.len];exact am
       refine JH ar ad bd au Z (λax=>?_) (λaF g aa=>?_)
       .by_cases X:l1=[]
        .have:=be X;subst X;cases base with
         | none=>exact Ω.pure' this
         | some a=>
          have aj:((List.range (([]:μ).length*d)).map w1)=[]:=o;rw[aj];exact Ω.pure' this
        have bg:0<l1.length:=MT.2 X;rcases O with O|⟨b,N,rfl,rfl,O⟩
        .omega
        obtain⟨aR,bz,aS,w,D⟩:=W;have bh:(len+l1.length)*d<=N:=by
         have:(len+l1.length)*d<=(0+cap)*d:=Tk _ J;omega
        rw[WB]at bh;have bi:(⟨b,0*d,none⟩:Addr).add (len*d)=⟨b,len*d,none⟩:=by rw[Pk];simp
        have aT:((List.range (l1.length*d)).map w1).length=l1.length*d:=o
        have VF:∀j,j<l1.length*d->((List.range (l1.length*d)).map w1)[j]?=some (w1 j):=λj f=>by simp[f]
        have aU:∀(i:Nat)(e:Ψ)(j:Nat)(a:Ψ),l1[i]?=some e->e.cells[j]?=some a->One (w1 (i*d+j)):=λi e j a hi f=>
         ((E i e hi).2 j a f).K3 (Xk.1 (Xk.1 av e (ZD hi)) a (ZD f))
        have bj:∀v∈(List.range (l1.length*d)).map w1,One v:=λv hv=>by
         obtain⟨m,aG,rfl⟩:=ZG.1 hv;have bk:m<l1.length*d:=by simpa using aG
         have hi:m / d<l1.length:=(Nat.div_lt_iff_lt_mul ae).2 bk
         have aV:=ξ hi
         have f:m % d<l1[m / d].cells.length:=by rw[(E _ _ aV).1];exact Lg _ ae
         have:=aU _ _ _ _ aV (ξ f)
         have L:m / d*d+m % d=m:=by have:=Nat.div_add_mod m d;rw[Nat.mul_comm]at this;exact this
         rw[L]at this;exact this
        have bl:ZC S S B (B.set id (some (b,N))) σ (σ.set id (.cells t d (l++l1)))->VO S (B.set id (some (b,N))) (σ.set id (.cells t d (l++l1))) (H.W2 b (len*d) ((List.range (l1.length*d)).map w1)) (.cells t d (l++l1)) (some (b,N)):=λay=>by
         refine⟨aR,by simp[WB,M];omega,λan aH=>?_,λi j=>if i<len then w i j else w1 ((i-len)*d+j),λi e hi=>?_⟩
         .simp only[Φ.W2];split
          .exact⟨_,U⟩
          exact aS an aH
         by_cases ao:i<l.length
         .rw[YT ao]at hi;refine⟨(D i e hi).1,λj a f=>?_⟩;obtain⟨ap,az,aI⟩:=(D i e hi).2 j a f;have aJ:j<d:=by rw[<-(D i e hi).1];exact(ZT.1 f).1
          have aq:i*d+j<len*d:=by
           have:(i+1)*d<=len*d:=Tk d J;rw[WB]at this;omega
          simp only[show i<len by omega,if_true];refine⟨?_,az.later ay,aI⟩;simp only[Φ.W2];rw[if_neg J];exact ap
         rw[W5 J,M]at hi;refine⟨(E _ e hi).1,λj a f=>?_⟩;have aJ:j<d:=by rw[<-(E _ e hi).1];exact(ZT.1 f).1
         have bm:i-len<l1.length:=(ZT.1 hi).1
         have aq:(i-len)*d+j<l1.length*d:=by
          have:(i-len+1)*d<=l1.length*d:=Tk d bm;rw[WB]at this;omega
         have aw:i*d+j=len*d+((i-len)*d+j):=by
          have:i=len+(i-len):=J
          conv=>lhs;rw[this,WB]
          omega
         simp only[show ¬i<len by omega,if_false];refine⟨?_,((E _ e hi).2 j a f).later ay,aU _ e j a hi f⟩;simp only[Φ.W2,aT];rw[if_pos ⟨trivial,J,J⟩];have:i*d+j-len*d=(i-len)*d+j:=J;rw[this,VF _ aq];rfl
        obtain⟨af,ag,ah⟩:=p.QP (H':=H.W2 b (len*d) ((List.range (l1.length*d)).map w1)) (r':=.cells t d (l++l1)) (bo':=some (b,N)) y trivial I (.inr λm aG=>by simp only[Row.W3,VH];omega) (λV aW Y=>.inl ⟨aW,Y⟩)
         (λV C _=>by
          have al:V≠b:=λY=>by subst Y;exact C N U
          exact⟨λan=>by simp[Φ.W2,al],U,U⟩) Φ.HG (K2 p y) bl
        show Ω P (storeCells ((⟨b,0*d,none⟩:Addr).add (len*d)) _) H _ _;rw[bi];refine Ω.storeCells (G:=H) U ⟨t,N,aR⟩ _ 0 H bj (λj _ f=>?_) U ?_
        .rw[aT]at f;obtain⟨u,bn⟩:=aS (len*d+j) J;exact⟨u,bn⟩
        refine⟨S,_,_,_,A,ag,af,ah,.ms cap (by rw[Xz am]) (by simp[M]) (by rw[Xz aQ]) J J (.inr ⟨b,N,U,U,O⟩)⟩
       have X:l1≠[]:=by rintro rfl;simp at aF;omega
       have bg:0<l1.length:=MT.2 X
       have aK:Ms S B σ (Mp H bo) d l:=λi e hi=>by
        cases bo with
        | none=>have:l=[]:=W
                rw[this]at hi;simp at hi
        | some x=>
         obtain⟨b,N⟩:=x;obtain⟨_,_,_,w,D⟩:=W;refine⟨(D i e hi).1,λj a f=>?_⟩;obtain⟨ap,az,_⟩:=(D i e hi).2 j a f;simp only[Mp,ap];exact az
       have aL:Xd S B σ (((List.range (len*d)).map (Mp H bo)).toArray++((List.range (l1.length*d)).map w1).toArray++Builtin.zeroCells ab.zero.cells (g-(len+l1.length))) d (l++l1):=by
        refine⟨by simp[WB,M],λi e hi=>?_⟩;by_cases ao:i<l.length
        .rw[YT ao]at hi;refine⟨(aK i e hi).1,λj a f=>?_⟩;have aJ:j<d:=by rw[<-(aK i e hi).1];exact(ZT.1 f).1
         have aq:i*d+j<len*d:=by
          have:(i+1)*d<=len*d:=Tk d J;rw[WB]at this;omega
         refine⟨_,?_,(aK i e hi).2 j a f,?_⟩
         .rw[MS,Lr (by simpa using aq)];simp[aq]
         cases bo with
         | none=>have:l=[]:=W
                 rw[this]at ao;simp at ao
         | some x=>
          obtain⟨b,N⟩:=x;obtain⟨_,_,_,w,D⟩:=W;obtain⟨ap,az,aI⟩:=(D i e hi).2 j a f;simp only[Mp,ap];exact aI
        rw[W5 J,M]at hi;have:=Hp (l1:=[]) (w1:=λ_=>undef) (k:=d) (λi e hi=>by simp at hi) E o av (Builtin.zeroCells ab.zero.cells (g-(len+l1.length)));obtain⟨aX,bp⟩:=this.2 (i-len) e (by simpa using hi);refine⟨aX,λj a f=>?_⟩;obtain⟨x,bq,br,bs⟩:=bp j a f;have aJ:j<d:=by rw[<-aX];exact(ZT.1 f).1
        have aw:i*d+j=len*d+((i-len)*d+j):=by
         have:i=len+(i-len):=J
         conv=>lhs;rw[this,WB]
         omega
        refine⟨x,?_,br,bs⟩;rw[aw,MS,Iq o];simpa using bq
       refine⟨U,λr aY=>?_⟩;generalize bt:(((List.range (len*d)).map (Mp H bo)).toArray++((List.range (l1.length*d)).map w1).toArray++Builtin.zeroCells ab.zero.cells (g-(len+l1.length)))=c at aL;have bu:g*d<=c.size:=by
        rw[<-bt];simp only[Ia,List.size_toArray,WS,H9,EB,aA];rw[<-WB,<-WB];have:len+l1.length+(g-(len+l1.length))=g:=J;rw[this];exact Z3 _
       obtain⟨af,ag,ah⟩:=p.QP (H':=H.YF r c t) (r':=.cells t d (l++l1)) (bo':=some (r,c.size)) y trivial I (.inr λm aG=>by simp only[Row.W3,VH];omega) (λV aW Y=>.inr (by cases Y;exact aY))
        (λV _ F=>by
         have al:V≠r:=λY=>by subst Y;exact F _ U
         exact⟨λan=>by simp[Φ.YF,al],by simp[Φ.YF,al],U⟩) (Φ.EK aY c t) (K2 p y) (λay=>by
         have aZ:=aL.later ay;refine⟨by simp[Φ.YF],aL.1,λan aH=>⟨c[an],by simp[Φ.YF,aH]⟩,λi j=>(c[i*d+j]?).getD undef,λi e hi=>⟨(aZ.2 i e hi).1,λj a f=>?_⟩⟩;obtain⟨x,L,Υ,bv⟩:=(aZ.2 i e hi).2 j a f;simp only[L,Option.getD_some];exact⟨by simp[Φ.YF,L],Υ,bv⟩)
       exact⟨S,_,_,_,A,ag,af,ah,.ms g (by rw[Xz am]) (by simp[M]) (by rw[Xz aQ]) J J (.inr ⟨r,c.size,U,o,by simpa using bu⟩)⟩
      | VP v C F=>rw[y]at C;cases C;simp only[Row.W3]at F;omega
     exact .bad
    exact .bad
   exact .bad
  exact .bad
 exact .bad
end
section
variable{P:Program}{T:ZY}{S:ζ}{B:ZZ}{H:Φ}{σ:Ρ}
def TE(a:Option Ψ)(d:Int):Option Int:=match a with
 | none=>some d
 | some (.z (.int _ n))=>some n
 | _=>none
def NF(S:ζ)(B:ZZ)(σ:Ρ):Option Ψ->Option Value->Prop
 | none,none=>True
 | some a,some v=>Θ S B σ a v
 | _,_=>False
def Bm{k}{n:Int}{y:Nat}{code}(h:0<=n/\n<=y){G K E}(a:K n.toNat G):Ω P (Instr.sliceBound (.int k n) y code) G K E:=by
 unfold Instr.sliceBound;refine Ω.bind' (Ω.pure' ?_);simp[h];exact Ω.pure' a
def Hm{isSlice}{len cap:Nat}{lo hi lv hv}(f:NF S B σ lo lv)(g:NF S B σ hi hv){a b}(c:TE lo 0=some a)(d:TE hi len=some b)(h:0<=a/\a<=b/\b<=cap){G K E}
  (i:K (a.toNat,b.toNat,cap) G):Ω P (Instr.sliceBounds isSlice len cap lv hv none) G K E:=by
 unfold Instr.sliceBounds;refine Ω.bind' (Ω.pure' ?_);have low:∀(n),b.toNat=n->Ω P (match lv with|some v=>Instr.sliceBound v n (if(none:Option Value).isSome then .slice3C else .sliceB)|none=>pure 0) G (λl G'=>Ω P (pure (l,n,cap)) G' K E) E:=λn j=>by
  subst j;cases lo with
  | none=>
   cases lv with
   | some v=>exact f.elim
   | none=>cases c;exact Ω.pure' (Ω.pure' i)
  | some x=>
   cases lv with
   | none=>exact f.elim
   | some v=>
    unfold TE at c;split at c
    .rename_i e;cases e
    .rename_i k n e;cases e;cases c;cases f;exact Bm J (Ω.pure' i)
    cases c
 cases hi with
 | none=>
  cases hv with
  | some v=>exact g.elim
  | none=>
   cases d;refine Ω.bind' (Ω.pure' ?_);have:=low len o;cases lv with
   | none=>exact Ω.bind' this
   | some v=>exact Ω.bind' this
 | some x=>
  cases hv with
  | none=>exact g.elim
  | some v=>
   unfold TE at d;split at d
   .rename_i e;cases e
   .rename_i k n e;cases e;cases d;cases g;refine Ω.bind' (Bm J ?_);have:=low _ U;cases lv with
    | none=>exact Ω.bind' this
    | some v=>exact Ω.bind' this
   cases d
def Hl(T:ZY)(g:TypeId)(x:Ψ)(lo hi:Option Ψ):Y4:=match T g with
 | some i=>match i.Z1,x with
  | .string,.z (.string s)=>match TE lo 0,TE hi s.size with
   | some a,some b=>.Zw (0<=a/\a<=b/\b<=s.size) (.ok (.z (.string (s.extract a.toNat b.toNat))))
   | _,_=>.bad
  | .slice e,.sl ex k l=>match T e,TE lo 0,TE hi l.length with
   | some d,some a,some b=>if l.isEmpty=true\/k=d.size then .Zw (0<=a/\a<=b/\b<=l.length) (.ok (.sl (ex&&hi.isNone) k ((l.take b.toNat).drop a.toNat))) else .bad
   | _,_,_=>.bad
  | .array n e,.Κ f=>match T e with
   | some d=>if d.size=1/\d.agg=false/\n<=f.length/\0<n/\lo.isNone/\hi.isNone/\(f.take n).all (λc=>decide (c.cells.length=1)&&Ψ.Y8 [] c) then .ok (.sl true 1 (f.take n)) else .bad
   | none=>.bad
  | _,_=>.bad
 | none=>.bad
def Mo(T:ZY)(c:TypeId)(σ:Ρ)(x:Ψ)(lo hi:Option Ψ):Y1:=match T c with
 | some i=>match i.Z1,x with
  | .slice e,.ms id n i len=>match T e,σ[id]?,TE lo 0,TE hi len with
   | some d,some (.cells _ k l),some a,some b=>if k=d.size/\l.length=n then .Zw (0<=a/\a<=b/\(b<=len\/i+b<=n)) (.ok (.ms id n (i+a.toNat) (b.toNat-a.toNat)) σ) else .bad
   | _,_,_,_=>.bad
  | _,_=>.bad
 | none=>.bad
def va{ex k l base len cap}(h:Θ S B σ (.sl ex k l) (.slice base len cap)){a b o}(I:a<=b)(K:b<=l.length)(v:l.isEmpty=true\/k=o)(p)(r:p=true->ex=true/\b=l.length) :
  Θ S B σ (.sl p k ((l.take b).drop a)) (.slice (if cap=a then base else base.map (·.add (a*o))) (b-a) (cap-a)):=by
 let ⟨L,M,e,N,s,y⟩:=TF h;cases e;have d:((l.take b).drop a).length=b-a:=by simp;omega
 by_cases f:(l.take b).drop a=[]
 .rw[f]at d ⊢;have:b-a=0:=by simpa using d.symm
  rw[this];refine .WI _ _ λg=>?_;let ⟨m,Υ⟩:=r g;have:=s m;omega
 have t:l≠[]:=by rintro rfl;simp at f
 obtain⟨A,u,w,rfl,C,D,E⟩:=y t;have F:=v.resolve_left λx=>t (Tj.1 x);subst F;have O:a<b:=by
  apply Tn;intro P;apply f;have:b-a=0:=J;rw[this]at d;exact YY.1 d
 rw[if_neg J];simp[Pk];have el:∀(i)(e),((l.take b).drop a)[i]?=some e->l[a+i]?=some e:=λi e hi=>by
  rw[Vf,Q4]at hi;split at hi
  .exact hi
  cases hi
 have H:((l.take b).drop a).length<=cap-a:=by rw[d];omega
 have:=Θ.sl A (u+a*k) (cap-a) (λi j=>w (a+i) j) (λg=>by let ⟨m,Υ⟩:=r g;have:=s m;omega) H
  (λi e hi=>C _ e (el i e hi)) (λi e hi j c n=>by have:=D _ e (el i e hi) j c n;rw[WB]at this;rw[UJ u];exact this) (λi e hi j c n=>E _ e (el i e hi) j c n)
 rw[d]at this;exact this
def u'(f:ZH P T)(u:Holds S B σ H)(y){x v}(p:Θ S B σ x v){lo hi lv hv}(A:NF S B σ lo lv)(C:NF S B σ hi hv) :
  Zo P (Instr.sliceAt y v lv hv none) S B H σ ((Hl T y x lo hi).YA σ):=by
 unfold Hl;cases m:T y with
 | none=>exact .bad
 | some i=>
  simp only;split
  .rename_i s g;cases p;split
   .rename_i a b D r;refine Zo.Zw λh K o=>?_;unfold Instr.sliceAt;refine Ω.bind' (f.Z1 m ?_);rw[g];simp only;unfold Instr.slice;refine Ω.bind' (f.Z1 m ?_);rw[g];simp only[Option.isSome_none,Vg,if_false];refine Ω.bind' (Hm A C D r h ?_);exact Ω.pure' (.same u o (.z _))
   exact .bad
  .rename_i e ex k l g;split
   .rename_i Q a b E D r;split
    .rename_i R;refine Zo.Zw λh K o=>?_;obtain⟨base,cap,rfl,I,L,_⟩:=TF p;unfold Instr.sliceAt;refine Ω.bind' (f.Z1 m ?_);rw[g];simp only;unfold Instr.slice;refine Ω.bind' (f.Z1 m ?_);rw[g];simp only;refine Ω.bind' (Hm A C D r J ?_);simp only;refine Ω.bind' (f.size E ?_);refine Ω.pure' (.same u o (va p J J R _ λF=>?_));simp only[U2]at F;refine⟨F.1,?_⟩;cases hi with
     | none=>cases r;simp
     | some=>simp at F
    exact .bad
   exact .bad
  .rename_i n e t g;split
   .rename_i Q E;split
    .rename_i V;let ⟨W,ab,ad,ae,X,Y,M⟩:=V;intro K o;cases p with
     | Κ b Z w I L=>
      cases lo with
      | some=>simp at X
      | none=>
       cases hi with
       | some=>simp at Y
       | none=>
        cases lv with
        | some=>exact A.elim
        | none=>
         cases hv with
         | some=>exact C.elim
         | none=>
          unfold Instr.sliceAt;refine Ω.bind' (f.Z1 m ?_);rw[g];simp only;refine Ω.bind' (Ω.pure' ?_);refine Ω.bind' (Hm (S:=S) (B:=B) (σ:=σ) (lo:=none) (hi:=none) (lv:=none) (hv:=none) trivial trivial U U J ?_);simp only[Int.toNat_natCast];refine Ω.bind' (f.size E ?_);rw[W];refine Ω.pure' (.same u o ?_);have aa:(0:Int).toNat=0:=rfl;rw[aa,if_neg J,Pk];simp only[MN,Nat.add_zero,Nat.sub_zero];have N:(t.take n).length=n:=by simp;omega
          rw[Xk]at M;have el:∀(i)(e:Ψ),(t.take n)[i]?=some e->t[i]?=some e/\e.cells=[e]:=λi e hi=>by
           have O:=M e (ZD hi);simp only[U2]at O;rw[Q4]at hi;split at hi
           .exact⟨hi,Ψ.EF O.2⟩
           cases hi
          have:=Θ.sl (ex:=true) (l:=t.take n) b Z n (λi _=>w i) (λ_=>N.symm) J (λi e hi=>by rw[(el i e hi).2];rfl)
           (λi e hi j c d=>by
            rw[(el i e hi).2]at d
            match j with
            | 0=>simp at d;subst d;have:=I i _ (el i _ hi).1;simpa using this
            | j+1=>simp at d) (λi e hi j c d=>by
            rw[(el i e hi).2]at d
            match j with
            | 0=>simp at d;subst d;exact L i _ (el i _ hi).1
            | j+1=>simp at d)
          rw[N]at this;exact this
    exact .bad
   exact .bad
  exact .bad
def u9(f:ZH P T)(s:Holds S B σ H)(g){x v}(u:Θ S B σ x v){lo hi lv hv}(w:NF S B σ lo lv)(y:NF S B σ hi hv) :
  Zo P (Instr.sliceAt g v lv hv none) S B H σ (Mo T g σ x lo hi):=by
 unfold Mo;cases o:T g with
 | none=>exact .bad
 | some R=>
  simp only;split
  .rename_i e id n i len p;split
   .rename_i V t k l a b A j C D;split
    .rename_i m;let ⟨E,F⟩:=m;refine .Zw λh K I=>?_;cases u with
     | ms cap c r L W X d=>
      rw[j]at c;cases c;unfold Instr.sliceAt;refine Ω.bind' (f.Z1 o ?_);rw[p];simp only;unfold Instr.slice;refine Ω.bind' (f.Z1 o ?_);rw[p];simp only;refine Ω.bind' (Hm w y C D J ?_);simp only;refine Ω.bind' (f.size A ?_);let ⟨f1,f2,f3⟩:=h;have M:i+a.toNat+(b.toNat-a.toNat)<=n:=by rcases f3 with f3|f3<;>omega
      have O:n<=i+a.toNat+(cap-a.toNat):=by rcases f3 with f3|f3<;>omega
      refine Ω.pure' (.same s I (.ms (cap-a.toNat) j F L M O ?_));by_cases m:cap=a.toNat
      .exact .inl J
      rcases d with d|⟨Q,N,rfl,rfl,d⟩
      .exact .inl J
      refine .inr ⟨Q,N,U,?_,?_⟩
      .rw[if_neg m];simp[Pk,E,WB]
      have:i+a.toNat+(cap-a.toNat)=i+cap:=J
      rw[this];exact d
     | VP v c r=>rw[j]at c;cases c;simp[Row.W3]at r;omega
    exact .bad
   exact .bad
  exact .bad
def Hk(T:ZY)(a:TypeId)(x:Ψ):Y4:=match T a with
 | some i=>match i.Z1,x with
  | .string,.z (.string s)=>.ok (.z (.int .i64 s.size))
  | .slice _,.sl _ _ l=>.ok (.z (.int .i64 l.length))
  | .slice _,.z (.slice _ len _)=>.ok (.z (.int .i64 len))
  | .array n _,_=>.ok (.z (.int .i64 n))
  | _,_=>.bad
 | none=>.bad
def Mn(T:ZY)(a:TypeId)(σ:Ρ)(x:Ψ):Y1:=match T a with
 | some i=>match i.Z1,x with
  | .slice _,.ms id n _ len=>match σ[id]? with
   | some (.cells _ _ l)=>if l.length=n then .ok (.z (.int .i64 len)) σ else .bad
   | _=>.bad
  | _,_=>.bad
 | none=>.bad
def u7(c:ZH P T)(h:Holds S B σ H)(f j){x v}(g:Θ S B σ x v):Zo P (Builtin.len_ #[f] j #[v]) S B H σ ((Hk T f x).YA σ):=by
 unfold Hk;cases hi:T f with
 | none=>exact .bad
 | some i=>
  simp only;have d:∀(K)(n),K (.z (.int .i64 n)) σ->Ω P (pure (goInt n):Sem Value) H (Xu S B H σ K) (λ_ _=>False):=λK n a=>Ω.pure' (.same h a (.z _));split
  .rename_i s b;cases g;intro K a;unfold Builtin.len_;refine Ω.bind' (c.Z1 hi ?_);rw[b];exact d K _ a
  .rename_i e ex k l b;obtain⟨base,cap,rfl,_⟩:=TF g;intro K a;unfold Builtin.len_;refine Ω.bind' (c.Z1 hi ?_);rw[b];exact d K _ a
  .rename_i e _ len _ b;cases g;intro K a;unfold Builtin.len_;refine Ω.bind' (c.Z1 hi ?_);rw[b];exact d K _ a
  .rename_i n e b;intro K a;unfold Builtin.len_;refine Ω.bind' (c.Z1 hi ?_);rw[b];cases v<;>exact d K _ a
  exact .bad
def u6(d:ZH P T)(f:Holds S B σ H)(a g){x v}(h:Θ S B σ x v):Zo P (Builtin.len_ #[a] g #[v]) S B H σ (Mn T a σ x):=by
 unfold Mn;cases hi:T a with
 | none=>exact .bad
 | some i=>
  simp only;split
  .rename_i e id n j len m;split
   .rename_i t k l o;split
    .rename_i r;intro K p;cases h with
     | ms cap b c s u w y=>
      unfold Builtin.len_;refine Ω.bind' (d.Z1 hi ?_);rw[m];exact Ω.pure' (.same f p (.z _))
     | VP v b c=>rw[o]at b;cases b;simp[Row.W3]at c;omega
    exact .bad
   exact .bad
  exact .bad
def KT(T:ZY)(src a:TypeId)(x:Ψ):Y4:=match T src,T a with
 | some _,some j=>match j.Z1,x with
  | .int k,.z (.int _ n)=>.ok (.z (.int k (k.wrap n)))
  | _,_=>.bad
 | _,_=>.bad
def u5(a:ZH P T)(c:Holds S B σ H)(src b){x v}(d:Θ S B σ x v):Zo P (convert src b v) S B H σ ((KT T src b x).YA σ):=by
 unfold KT;split
 .rename_i i j hi e;split
  .rename_i k kk n f;cases d;intro K g;unfold convert;refine Ω.bind' (a.Z1 hi (Ω.bind' (a.Z1 e ?_)));rw[f];exact Ω.pure' (.same c g (.z _))
  exact .bad
 exact .bad
def Hj(l:μ):Y4:=match l with
 | [.z (.int k x),.z (.int _ y)]=>.ok (.z (.int k (if y > x then y else x)))
 | _=>.bad
def u4(c:Holds S B σ H)(d f){a b u v}(g:Θ S B σ a u)(h:Θ S B σ b v):Zo P (Builtin.max_ d f #[u,v]) S B H σ ((Hj [a,b]).YA σ):=by
 unfold Hj;split
 .rename_i k x kk y e;simp at e;obtain⟨rfl,rfl⟩:=e;cases g;cases h;intro K i;exact Ω.pure' (.same c i (.z _))
 exact .bad
end
def QN(d:TypeDesc)(x y:Value):Option Bool:=match d,x,y with
 | .int _,.int k a,.int c b=>if k=c then some (a==b) else none
 | .string,.string a,.string b=>some (a==b)
 | .bool,.bool a,.bool b=>some (a==b)
 | _,_,_=>none
def Ul:List (TypeDesc×Nat)->μ->μ->Option Bool
 | [],_,_=>some true
 |(d,a)::r,xs,e=>match xs[a]?,e[a]? with
  | some (.z x),some (.z y)=>match QN d x y,Ul r xs e with
   | some b,some c=>some (b&&c)
   | _,_=>none
  | _,_=>none
def aeqv(T:ZY)(e:TypeId)(a b:Ψ):Option Bool:=match T e with
 | some i=>match a,b with
  | .z x,.z y=>if T2 i.Z1 then QN i.Z1 x y else none
  | .Z' xs,.Z' d=>match i.eqs with|some c=>if xs.length=c.length/\d.length=c.length then Ul c xs d else none|none=>none
  | _,_=>none
 | none=>none
section
variable{P:Program}{T:ZY}{S:ζ}{B:ZZ}{H:Φ}{σ:Ρ}
def Ω.forIn_nil{b c:Type}{a:c}{f G K E}(h:K a G):Ω P (forIn ([]:List b) a f) G K E:=by
 rw[List.forIn_nil];exact h
def Ω.forIn_cons{e g:Type}{a:e}{l}{c:g}{f G K E}
  (h:Ω P (f a c) G (λr G'=>match r with|.done b=>K b G'|.yield b=>Ω P (forIn l b f) G' K E) E):Ω P (forIn (a::l) c f) G K E:=by
 rw[List.forIn_cons];refine Ω.bind' (Ω.mono (λr G' d=>?_) (λ_ _ h=>h) _ h);cases r with
 | done b=>exact Ω.pure' d
 | yield b=>exact d
def forIn_range{β}(m a)(f:Nat->β->Sem (ForInStep β)):forIn [:m] a f=forIn (List.range m) a f:=by
 rw[Std.Legacy.Range.forIn_eq_forIn_range'];simp[List.range_eq_range']
def EA{ty d}(hd:P.underlying ty=some d)(c:T2 d=true){x y b}(h:QN d x y=some b){n G K E}(a:K b G):Ω P (Op.equalIn (n+1) ty x y) G K E:=by
 unfold Op.equalIn;refine Ω.bind' (Ω.underlying hd ?_);unfold QN at h;split at h
 .split at h
  .rename_i e;subst e;cases h;simp[if_true];exact Ω.pure' a
  cases h
 .cases h;exact Ω.pure' a
 .cases h;exact Ω.pure' a
 cases h
def Ez(xs:μ)(vs:ZP):Prop:=∀(a:Nat)(v),xs[a]?=some (Ψ.z v)->vs[a]?=some v
def JG{xs vs}(h:Θ S B σ (.Z' xs) (.agg vs)):Ez xs vs:=λa v hv=>by
 cases h with
 | Z' _ c d=>
  have e:a<vs.size:=by rw[<-c];exact(ZT.1 hv).1
  have b:=XV e
  have:=d a _ _ hv b;generalize vs[a]=u at this b;cases this;exact b
def JF{ty d}(hd:P.underlying ty=some d)(b:T2 d=true){vs a v}(hv:vs[a]?=some v){G K E}(c:K v G):Ω P (part ty vs a) G K E:=by
 unfold part;refine Ω.bind' (Ω.isAgg hd ?_);have:VN d=false:=by cases d<;>first|rfl|cases b
 rw[this];simp[if_false,hv];exact Ω.pure' c
def u3{xs v vs u}(Q:Ez xs vs)(R:Ez v u){ty items}(w:EI P ty (some items)){b}(h:Ul items xs v=some b){n G K E}(S:K b G) :
  Ω P (Op.equalIn (n+2) ty (.agg vs) (.agg u)) G K E:=by
 let ⟨_,_,w⟩:=w;rcases w with⟨A,B,U,C,V⟩|⟨m,e,d,f,B,D,t,W,X,C⟩
 .unfold Op.equalIn;refine Ω.bind' (Ω.underlying B ?_);simp only;apply Ω.bind';show Ω P (if P.stoodInHeld ty=true then _ else _) G K E;rw[U];simp only[Vg,if_false];have F:∀(l:List Field)(c),(∀f∈l,f.name≠ "_" /\ ∃d,P.underlying f.type=some d/\T2 d=true)->Ul (l.map λf=>((P.underlying f.type).getD .invalid,f.offset)) xs v=some c->
    ∀k,k (if c then none else some false,⟨⟩) G->Ω P (forIn l (none,⟨⟩) λ(f)(_:Option Bool×PUnit)=>if f.name≠ "_" then do
     let a <-part f.type vs f.offset
     let b <-part f.type u f.offset
     let r <-Op.equalIn (n+1) f.type a b
     if(!r)=true then pure (ForInStep.done (some false,⟨⟩)) else pure (ForInStep.yield (none,⟨⟩))
    else pure (ForInStep.yield (none,⟨⟩))) G k E:=by
   intro l
   induction l with
   | nil=>intro c _ j k p;simp[Ul]at j;subst j;exact .forIn_nil (by simpa using p)
   | cons f l H=>
    intro c T j k p;let ⟨Y,d,hd,t⟩:=T f o;simp only[WY,Ul,hd,Option.getD_some]at j;split at j<;>try cases j
    rename_i x y I J;split at j<;>try cases j
    rename_i L M N O;refine .forIn_cons ?_;rw[if_pos Y];refine Ω.bind' (JF hd t (Q _ _ I) (Ω.bind' (JF hd t (R _ _ J) (Ω.bind' (EA hd t N ?_)))));cases L with
    | false=>exact Ω.pure' (by simpa using p)
    | true=>exact Ω.pure' (H M (λg Z=>T g (by simp[Z])) O k (by simpa using p))
  apply Ω.bind';have aa:(forIn A (none,⟨⟩) λ(f)(_)=>if f.name≠ "_" then do
     let a <-part f.type vs f.offset
     let b <-part f.type u f.offset
     let r <-Op.equalIn (n+1) f.type a b
     if(!r)=true then pure (ForInStep.done (some false,⟨⟩)) else pure (ForInStep.yield (none,⟨⟩))
    else pure (ForInStep.yield (none,⟨⟩)):Sem (Option Bool×PUnit))=forIn A.toList (none,⟨⟩) _:=(Array.forIn_toList ..).symm
  apply Eq.mpr (congrArg (λs=>Ω P s G _ E) aa);apply F A.toList b V (by rw[<-C];exact h) _;cases b<;>exact Ω.pure' S
 unfold Op.equalIn;refine Ω.bind' (Ω.underlying B ?_);simp only;refine Ω.bind' (Ω.sizeOf W ?_);rw[X];have F:∀(l:Z6)(c),Ul (l.map λi=>(d,i)) xs v=some c->
   ∀k,k (if c then none else some false,⟨⟩) G->Ω P (forIn l (none,⟨⟩) λ(i:Nat)(_:Option Bool×PUnit)=>do
    let a <-part e vs (i*1)
    let b <-part e u (i*1)
    let r <-Op.equalIn (n+1) e a b
    if(!r)=true then pure (ForInStep.done (some false,⟨⟩)) else pure (ForInStep.yield (none,⟨⟩))) G k E:=by
  intro l
  induction l with
  | nil=>intro c j k p;simp[Ul]at j;subst j;exact .forIn_nil (by simpa using p)
  | cons i l H=>
   intro c j k p;simp only[WY,Ul]at j;split at j<;>try cases j
   rename_i x y I J;split at j<;>try cases j
   rename_i L M N O;refine .forIn_cons ?_;refine Ω.bind' (JF D t (by rw[SH];exact Q _ _ I) (Ω.bind' (JF D t (by rw[SH];exact R _ _ J) (Ω.bind' (EA D t N ?_)))));cases L with
   | false=>exact Ω.pure' (by simpa using p)
   | true=>exact Ω.pure' (H M O k (by simpa using p))
 apply Ω.bind';rw[forIn_range];apply F (List.range m) b (by rw[<-C];exact h) _;cases b<;>exact Ω.pure' S
def Ey(g:ZH P T){ty a b v w r}(c:Θ S B σ a v)(d:Θ S B σ b w)(h:aeqv T ty a b=some r){K E}(e:K r H):Ω P (Op.equal ty v w) H K E:=by
 unfold aeqv at h;split at h
 .rename_i i hi;let ⟨⟨j,f⟩,_⟩:=g ty i hi;split at h
  .split at h
   .rename_i k;cases c;cases d;exact EA j k h e
   cases h
  .split at h
   .rename_i t l;rw[l]at f;split at h<;>try cases h
    cases c with
    | Z' vs m n=>cases d with
     | Z' o p s=>exact u3 (JG (.Z' vs m n)) (JG (.Z' o p s)) f h e
   cases h
  cases h
 cases h
def Bl(a b:ByteArray):(a==b)=(a.data==b.data):=by
 cases a;cases b;rfl
def u2{a b:ByteArray}(h:(a==b)=true):a=b:=by
 rw[Bl]at h;have:=eq_of_beq h;cases a;cases b;simp at this;simp[this]
def u1(a:ByteArray):(a==a)=true:=by rw[Bl];exact beq_self_eq_true _
def Bj{d x y}(h:QN d x y=some true):x=y/\∀n,Instr.sameBits n x x=true:=by
 unfold QN at h;split at h
 .split at h
  .rename_i e;subst e;simp at h;subst h;exact⟨U,λn=>by cases n<;>simp[Instr.sameBits]⟩
  cases h
 .simp[Ib]at h;have:=u2 h;subst this;exact⟨U,λn=>by cases n<;>simp[Instr.sameBits,u1]⟩
 .simp at h;subst h;exact⟨U,λn=>by cases n<;>simp[Instr.sameBits]⟩
 cases h
def uZ{xs i}:∀(g),Ul g xs i=some true->∀e,e∈g.map (·.2)->∃x,xs[e]?=some (.z x)/\i[e]?=some (.z x)/\∀n,Instr.sameBits n x x=true:=by
 intro g
 induction g with
 | nil=>intro _ e f;simp at f
 | cons a g j=>
  let ⟨d,p⟩:=a;intro h e f;simp[Ul]at h;split at h<;>try cases h
  rename_i x y k l;split at h<;>try cases h
  rename_i b c m o;simp at h;obtain⟨rfl,rfl⟩:=h;simp only[WY,YU]at f;rcases f with rfl|f
  .let ⟨r,Υ⟩:=Bj m;subst r;exact⟨x,k,l,Υ⟩
  exact j o e f
def Bi(A:ZH P T){ty a b v w}(r:Θ S B σ a v)(s:Θ S B σ b w)(h:aeqv T ty a b=some true):v=w/\a=b/\∀n,Instr.sameBits (n+1) v v=true:=by
 unfold aeqv at h;split at h
 .rename_i i hi;let ⟨⟨N,t⟩,_⟩:=A ty i hi;split at h
  .split at h
   .let ⟨g,Υ⟩:=Bj h;subst g;cases r;cases s;exact⟨U,U,λn=>Υ _⟩
   cases h
  .rename_i xs u;split at h
   .rename_i e C;rw[C]at t;split at h<;>try cases h
    rename_i D;let ⟨O,Q⟩:=D;have E:=t.2.1;have get:∀c,c<e.length->∃x,xs[c]?=some (.z x)/\u[c]?=some (.z x)/\∀n,Instr.sameBits n x x=true:=λc d=>uZ e h c (by rw[E];simpa using d);have F:xs=u:=by
     apply T6;intro c;by_cases d:c<e.length
     .let ⟨x,j,k,_⟩:=get c d;rw[j,k]
     rw[Wk J,Wk J]
    cases r with
    | Z' vs j k=>cases s with
     | Z' l H I=>
      have y:∀c,c<e.length->∃x,vs[c]?=some x/\l[c]?=some x/\∀n,Instr.sameBits n x x=true:=λc d=>by
       let ⟨x,f,m,o⟩:=get c d;exact⟨x,JG (.Z' vs j k) c x f,JG (.Z' l H I) c x m,o⟩
      have K:vs=l:=by
       apply Lm;intro c;by_cases d:c<e.length
       .let ⟨x,f,m,_⟩:=y c d;rw[f,m]
       rw[Lq J,Lq J]
      subst K;refine⟨U,by rw[F],λn=>?_⟩;simp only[Instr.sameBits,beq_self_eq_true,Bool.true_and,Xk];intro p L;let ⟨c,d⟩:=Tl L;rw[List.getElem?_zip_eq_some]at d;have M:c<e.length:=by
       have:=(ZT.1 d.1).1;simp at this;omega
      let ⟨x,f,_,o⟩:=y c M;rw[Xf,f]at d;let ⟨g,Υ⟩:=d;cases g;rw[<-Xq Υ];exact o n
   cases h
  cases h
 cases h
end
def V2(T:ZY)(a:TypeId)(k:Ψ):List (Ψ×Ψ)->Nat->Option (Option (Nat×Ψ))
 | [],_=>some none
 | e::r,i=>match aeqv T a k e.1 with
  | some b=>bif b then some (some (i,e.2)) else V2 T a k r (i+1)
  | none=>none
def Pg(T:ZY)(b:TypeId)(k:Ψ):Bool:=match T b with
 | some i=>match k with
  | .z _=>T2 i.Z1
  | .Z' xs=>match i.Z1,i.eqs with
   | .array _ _,some a=>xs.length==a.length&&(Ul a xs xs).isSome
   | _,_=>false
  | _=>false
 | none=>false
section
variable{P:Program}{T:ZY}{S:ζ}{B:ZZ}{H:Φ}{σ:Ρ}
def Bh{ty d}(hd:P.underlying ty=some d)(a:T2 d=true){v em n G K E}(b:K () G):Ω P (Instr.checkKey em (n+1) ty v) G K E:=by
 unfold Instr.checkKey;refine Ω.bind' (Ω.underlying hd ?_);cases d<;>first|(cases a;done)|(cases v<;>exact Ω.pure' b)
def Hi(u:ZH P T){o k v}(w:Θ S B σ k v)(h:Pg T o k=true){em G K E}(p:K () G):Ω P (Instr.checkKey em 10000 o v) G K E:=by
 unfold Pg at h;split at h
 .rename_i i hi;let ⟨⟨r,g⟩,_⟩:=u o i hi;split at h
  .exact Bh r h p
  .rename_i xs;split at h
   .rename_i n e U A C;rw[C]at g;simp at h;let ⟨_,_,g⟩:=g;rcases g with⟨V,j,_⟩|⟨m,Υ,d,f,j,s,t,D,F,H⟩
    .rw[r,A]at j;cases j
    cases w with
    | Z' vs I J=>
     have L:=JG (.Z' vs I J);unfold Instr.checkKey;refine Ω.bind' (Ω.underlying j ?_);simp only;rw[forIn_range];apply Ω.bind';have c:∃b,Ul ((List.range m).map λi=>(d,i)) xs xs=some b:=by
      rw[<-H];exact Option.isSome_iff_exists.1 h.2
     have M:∀(l:Z6)(b),Ul (l.map λi=>(d,i)) xs xs=some b->Ω P (forIn l PUnit.unit λ(i)(_)=>do
       let a <-sizeOf Υ
       let b <-part Υ vs (i*a)
       Instr.checkKey em 9999 Υ b
       pure (ForInStep.yield PUnit.unit)) G (λ_ G'=>K () G') E:=by
      intro l
      induction l with
      | nil=>intro b _;exact .forIn_nil p
      | cons i l N=>
       intro b c;simp[Ul]at c;split at c<;>try cases c
       rename_i x y O W;split at c<;>try cases c
       rename_i X Q Y R;refine .forIn_cons ?_;refine Ω.bind' (Ω.sizeOf D ?_);rw[F];refine Ω.bind' (JF s t (by rw[SH];exact L _ _ O) ?_);refine Ω.bind' (Bh s t ?_);exact Ω.pure' (N Q R)
     let ⟨b,c⟩:=c;exact Ω.mono (λ_ G' h=>Ω.pure' h) (λ_ _ h=>h) _ (M (List.range m) b c)
   cases h
  cases h
 cases h
def Mm(S:ζ)(B:ZZ)(σ:Ρ)(es:List (Ψ×Ψ))(a:List MapEntry):Prop:=es.length=a.length/\∀(i:Nat)(e)(y),es[i]?=some e->a[i]?=some y->Θ S B σ e.1 y.key/\Θ S B σ e.2 y.val
def Mm.tail{e es y a}(h:Mm S B σ (e::es) (y::a)):(Θ S B σ e.1 y.key/\Θ S B σ e.2 y.val)/\Mm S B σ es a:=
 ⟨h.2 0 e y U U,⟨by simpa using h.1,λi b c d f=>h.2 (i+1) b c d f⟩⟩
def JE{d k}:∀(es)(n i) a,V2 T d k es n=some (some (i,a))->n<=i/\∃c,es[i-n]?=some (c,a)/\aeqv T d k c=some true:=by
 intro es
 induction es with
 | nil=>intro n i a h;cases h
 | cons e es f=>
  intro n i a h;unfold V2 at h;split at h
  .rename_i b g;cases b with
   | true=>cases h;exact⟨Z3 _,e.1,o,g⟩
   | false=>
    let ⟨m,c,j,l⟩:=f (n+1) i a h;refine⟨J,c,?_,l⟩;have:i-n=(i-(n+1))+1:=J;rw[this,List.getElem?_cons_succ];exact j
  cases h
def T0(a:List MapEntry)(b:Nat)(r:Option (Nat×Ψ)):Option (Nat×Value):=r.map λx=>(x.1,((a[x.1-b]?).map (·.val)).getD undef)
def uY{d x y b}(h:QN d x y=some b):Instr.sameNow d x y=some b:=by
 unfold QN at h;split at h
 .split at h
  .rename_i e;subst e;cases h;simp[Instr.sameNow]
  cases h
 .cases h;rfl
 .cases h;rfl
 cases h
def uX(s:ZH P T){g i}(hi:T g=some i){k v}(l:Θ S B σ k v)(m:∃u,k=.z u):∀(es)(a)(n)(r),Mm S B σ es a->V2 T g k es n=some r->
  Instr.findNow i.Z1 v a n=some (T0 a n r):=by
 obtain⟨u,rfl⟩:=m;cases l;intro es
 induction es with
 | nil=>
  intro a n r d h;have:a=[]:=by have:=d.1;simpa using this.symm
  subst this;cases h;rfl
 | cons e es o=>
  intro a n r d h;cases a with
  | nil=>have:=d.1;simp at this
  | cons y a=>
   let ⟨⟨j,t⟩,p⟩:=d.tail;unfold V2 at h;split at h
   .rename_i b c;have hv:QN i.Z1 v y.key=some b:=by
     unfold aeqv at c;rw[hi]at c;simp only at c;split at c
     .rename_i x w f Υ;rw[Υ]at j;cases j;cases f;split at c
      .exact c
      cases c
     .rename_i f _;cases f
     cases c
    unfold Instr.findNow;rw[uY hv];cases b with
    | true=>cases h;simp[T0]
    | false=>
     have:=o a (n+1) r p h;simp only[this];congr 1;unfold T0;cases r with
     | none=>rfl
     | some x=>
      simp[Option.map_some];have A:=(JE es (n+1) x.1 x.2 h).1;have:x.1-n=(x.1-(n+1))+1:=J;rw[this,List.getElem?_cons_succ]
   cases h
def uW(g:ZH P T){f k v}(i:Θ S B σ k v){E}:∀(es)(a)(n)(r)(K),Mm S B σ es a->V2 T f k es n=some r->
  K (T0 a n r) H->Ω P (Instr.findAsking f v a n) H K E:=by
 intro es
 induction es with
 | nil=>
  intro a n r K c h d;have:a=[]:=by have:=c.1;simpa using this.symm
  subst this;cases h;exact Ω.pure' d
 | cons e es j=>
  intro a n r K c h d;cases a with
  | nil=>have:=c.1;simp at this
  | cons y a=>
   let ⟨⟨l,p⟩,m⟩:=c.tail;unfold V2 at h;split at h
   .rename_i b o;unfold Instr.findAsking;refine Ω.bind' (Ey g i l o ?_);cases b with
    | true=>cases h;simp[if_true];exact Ω.pure' (by simpa[T0] using d)
    | false=>
     simp;apply j a (n+1) r K m h;have:T0 (y::a) n r=T0 a (n+1) r:=by
      unfold T0;cases r with
      | none=>rfl
      | some x=>
       simp[Option.map_some];have s:=(JE es (n+1) x.1 x.2 h).1;have:x.1-n=(x.1-(n+1))+1:=J;rw[this,List.getElem?_cons_succ]
     rw[<-this];exact d
   cases h
def Hh(c:ZH P T){d k v}(g:Θ S B σ k v)(b:Pg T d k=true){es a r}(e:Mm S B σ es a)(h:V2 T d k es 0=some r){K E}(f:K (T0 a 0 r) H) :
  Ω P (Instr.findKey d v a) H K E:=by
 unfold Instr.findKey;unfold Pg at b;split at b
 .rename_i i hi;refine Ω.bind' (c.Z1 hi ?_);split at b
  .rw[uX c hi g ⟨_,rfl⟩ es a 0 r e h];exact Ω.pure' f
  .rename_i xs;cases g with
   | Z' vs j l=>
    cases a with
    | nil=>
     have:es=[]:=by have:=e.1;simpa using this
     subst this;cases h;exact Ω.pure' f
    | cons y a=>
     have m:Instr.findNow i.Z1 (.agg vs) (y::a) 0=none:=by
      unfold Instr.findNow;have:Instr.sameNow i.Z1 (.agg vs) y.key=none:=by unfold Instr.sameNow;cases i.Z1<;>rfl
      rw[this]
     rw[m];exact uW c (.Z' vs j l) es (y::a) 0 r K e h f
  cases b
 cases b
def UC(σ:Ρ)(id:Nat):Bool:=σ.all λr=>match r with|.iter m _ _=>m != id|_=>true
def Ex{id}(h:UC σ id=true):∀(j:Nat) left a,σ[j]?≠some (Row.iter id left a):=λj left a b=>by
 have:=Xk.1 h _ (ZD b);simp at this
def Pf(T:ZY)(a:TypeId):Option (TypeId×TypeId):=match T a with
 | some i=>match i.Z1 with|.map k v=>some (k,v)|_=>none
 | none=>none
def JD{a b c}(h:Pf T a=some (b,c)):∃i,T a=some i/\i.Z1=.map b c:=by
 unfold Pf at h;split at h
 .rename_i i hi;split at h
  .rename_i k v d;cases h;exact⟨i,hi,d⟩
  cases h
 cases h
def Ew(σ:Ρ):Y1:=.ok (.mp σ.length) (σ++[.map []])
def uV(c:Holds S B σ H)(d):Zo P (Instr.makeMap d none) S B H σ (Ew σ):=by
 intro K f;unfold Instr.makeMap;apply Ω.bind';refine λr g=>?_;have h:∀b,(∀N,some (r,0)≠some (b,N))->UY H (H.Zp r (.map #[] 0)) b:=λb k=>by
  have l:b≠r:=λe=>by subst e;exact k _ U
  exact⟨λp=>rfl,U,by simp[Φ.Zp,l]⟩
 have m:ZC S S B (B++[some (r,0)]) σ (σ++[.map []])->VO S (B++[some (r,0)]) (σ++[.map []]) (H.Zp r (.map #[] 0)) (.map []) (some (r,0)):=λ_=>
  ⟨r,0,#[],0,U,by simp[Φ.Zp],U,λi e y a=>by simp at a,λi j y z a=>by simp at a⟩
 let ⟨a,n,o⟩:=c.push (λb N e=>by cases e;exact g) h m;exact Ω.pure' ⟨_,_,_,_,f,n,a,o,.mp (Mr σ _) (Mq c.len _)⟩
def Hg(T:ZY)(e:TypeId)(b:Bool)(σ:Ρ)(f k:Ψ):Y1:=match Pf T e,f with
 | some (c,g),.mp id=>match σ[id]?,T g with
  | some (.map es),some d=>if Pg T c k=true then match V2 T c k es 0 with
   | some (some (_,a))=>.ok (if b then .Z7 [a,.z (.bool true)] else a) σ
   | some none=>.ok (if b then .Z7 [V3 d.zero,.z (.bool false)] else V3 d.zero) σ
   | none=>.bad else .bad
  | _,_=>.bad
 | _,_=>.bad
def KS(c:Holds S B σ H){id b N:Nat}{es}(d:σ[id]?=some (.map es))(f:B[id]?=some (some (b,N))):∃xs a,H.obj b=some (.map xs a)/\QQ S B σ es xs a:=by
 let ⟨i,j,xs,a,e,g,h⟩:=c.row id _ _ d f;cases e;exact⟨xs,a,g,h⟩
def QQ.Ml{es xs clock}(h:QQ S B σ es xs clock):Mm S B σ es xs.toList:=
 ⟨by simpa using h.1,λi e y d c=>by rw[Xf]at c;let ⟨a,b,_⟩:=h.2.1 i e y d c;exact⟨a,b⟩⟩
def uU(j:ZH P T)(f:Holds S B σ H){ty ok mp k u v}(E:Θ S B σ mp u)(s:Θ S B σ k v):Zo P (Instr.lookup ty u v ok) S B H σ (Hg T ty ok σ mp k):=by
 unfold Hg;split
 .rename_i F I id J;let ⟨i,hi,L⟩:=JD J;split
  .rename_i es X m M;split
   .rename_i t;cases E with
    | mp g O=>
     rename_i b N;rw[m]at g;cases g;let ⟨xs,Y,Q,n⟩:=KS f m O;have w:∀(r)(o),V2 T F k es 0=some r->(∀(K),o.holds K->∃(x:Ψ)(y:Value),True/\Ω P (do
       let (v,R) <-match T0 xs.toList 0 r with
        | some (_,v)=>pure (v,true)
        | none=>do pure (<-zeroValue I,false)
       pure (if ok then .tuple #[v,.bool R] else v)) H (Xu S B H σ K) (λ_ _=>False))->Zo P (Instr.lookup ty (.map (some b)) v ok) S B H σ o:=λr o d V K c=>by
      unfold Instr.lookup;refine Ω.bind' (j.Z1 hi ?_);rw[L];apply Ω.bind';refine⟨_,Q,U,?_⟩;refine Ω.bind' (Ω.pure' ?_);refine Ω.bind' (Hi j s t ?_);refine Ω.bind' (Hh j s t n.Ml d ?_);let ⟨_,_,_,h⟩:=V K c;cases l:T0 xs.toList 0 r with
      | none=>rw[l]at h;exact h
      | some p=>rw[l]at h;exact h
     split
     .rename_i e a d;refine w _ _ d λK c=>⟨a,undef,trivial,?_⟩;let ⟨_,Z,A,_⟩:=JE es 0 e a d;have C:e<xs.size:=by have:=(ZT.1 A).1;rw[<-n.1];simpa using this
      have W:=XV C;obtain⟨_,D,_⟩:=n.2.1 e _ _ (by simpa using A) W;have l:T0 xs.toList 0 (some (e,a))=some (e,xs[e].val):=by simp[T0,C]
      rw[l];refine Ω.bind' (Ω.pure' (Ω.pure' ?_));cases ok with
      | true=>exact .same f c (K4 D (.z _))
      | false=>exact .same f c D
     .rename_i d;refine w _ _ d λK c=>⟨.Zl,undef,trivial,?_⟩;refine Ω.bind' (j.zero M ?_);refine Ω.bind' (Ω.pure' (Ω.pure' ?_));cases ok with
      | true=>exact .same f c (K4 (P7 _) (.z _))
      | false=>exact .same f c (P7 _)
     exact .bad
    | TI v g=>rw[m]at g;cases g
   exact .bad
  exact .bad
 exact .bad
def Ot(T:ZY)(b:TypeId)(σ:Ρ)(c k x:Ψ):Y1:=match Pf T b,c with
 | some (a,_),.mp id=>match σ[id]? with
  | some (.map es)=>if Pg T a k=true/\UC σ id=true then match V2 T a k es 0 with
   | some (some (i,_))=>.ok .Zl (σ.set id (.map (es.set i (k,x))))
   | some none=>.ok .Zl (σ.set id (.map (es++[(k,x)])))
   | none=>.bad else .bad
  | _=>.bad
 | _,_=>.bad
def Ev(c:Holds S B σ H){id b N es es' xs' clock'}(d:σ[id]?=some (.map es))(f:B[id]?=some (some (b,N)))(g:UC σ id=true)(h:∀{B'}{σ'},ZC S S B B' σ σ'->QQ S B' σ' es' xs' clock') :
  Holds S (B.set id (some (b,N))) (σ.set id (.map es')) (H.Zp b (.map xs' clock'))/\Ext S B H S (B.set id (some (b,N))) (H.Zp b (.map xs' clock'))/\ZC S S B (B.set id (some (b,N))) σ (σ.set id (.map es')):=
 c.QP d trivial f (.inl ⟨es',U,U⟩) (λa i e=>.inl ⟨i,e⟩) (λa j _=>by
  have k:a≠b:=λe=>by subst e;exact j N U
  exact⟨λm=>rfl,U,by simp[Φ.Zp,k]⟩) Φ.JN (Ex g) λl=>⟨b,N,xs',clock',U,by simp[Φ.Zp],h l⟩
def Bg(m:ZH P T)(O:Holds S B σ H){ty mp k x u v w}(ai:Θ S B σ mp u)(n:Θ S B σ k v)(ab:Θ S B σ x w):K1 P (Instr.mapUpdate ty u v w) S B H σ (Ot T ty σ mp k x):=by
 unfold Ot;split
 .rename_i av aw id aj;let ⟨i,hi,ad⟩:=JD aj;split
  .rename_i es r;split
   .rename_i ak;let ⟨D,ae⟩:=ak;cases ai with
    | mp s Q=>
     rename_i b N;rw[r]at s;cases s;let ⟨xs,R,E,f⟩:=KS O r Q;split
     .rename_i h a F;let ⟨_,ax,o,al⟩:=JE es 0 h a F;simp[Nat.sub_zero]at o;have af:=(ZT.1 o).1;have ag:h<xs.size:=by rw[<-f.1];exact af
      have t:=XV ag
      let ⟨am,ay,an⟩:=f.2.1 h _ _ o t
      let ⟨ah,Υ,ao⟩:=Bi m n am al;intro K V;unfold Instr.mapUpdate;refine Ω.bind' (m.Z1 hi ?_);rw[ad];refine Ω.bind' ⟨_,E,U,Ω.pure' ?_⟩;refine Ω.bind' (Hi m n D ?_);refine Ω.bind' (Hh m n D f.Ml F ?_);have ap:T0 xs.toList 0 (some (h,a))=some (h,xs[h].val):=by simp[T0,ag]
      rw[ap];simp[t,Option.getD_some];unfold Instr.keyThatStays;rw[<-ah];simp[ao,if_true];refine Ω.bind' (Ω.pure' ?_);let ⟨W,X,Y⟩:=Ev O (es':=es.set h (k,x)) (xs':=xs.modify h λe=>{e with key:=v,val:=w}) (clock':=R) r Q ae λ{B' σ'} l=>by
       refine⟨by simp[f.1],λj e y c d=>?_,λj I y z c d Z=>?_⟩
       .rw[Ka]at d;by_cases p:h=j
        .subst p;rw[Xz af]at c;rw[if_pos U,t]at d;cases c;cases d;exact⟨n.later l,ab.later l,an⟩
        rw[XJ p]at c;rw[if_neg p]at d;let ⟨A,C,L⟩:=f.2.1 j e y c d;exact⟨A.later l,C.later l,L⟩
       have born:∀(j:Nat)(y),(xs.modify h λe=>{e with key:=v,val:=w})[j]?=some y->∃M,xs[j]?=some M/\y.born=M.born:=λj y g=>by
        rw[Ka]at g;by_cases p:h=j
        .subst p;rw[if_pos U,t]at g;cases g;exact⟨_,t,U⟩
        rw[if_neg p]at g;exact⟨y,g,U⟩
       let ⟨M,A,C⟩:=born j y c
       let ⟨aq,L,ar⟩:=born I z d;rw[C,ar];exact f.2.2 j I M aq A L Z
      exact⟨⟨_,E⟩,U,U,Ω.pure' ⟨S,_,_,_,V,X,W,Y,.Zl _⟩⟩
     .rename_i F;intro K V;unfold Instr.mapUpdate;refine Ω.bind' (m.Z1 hi ?_);rw[ad];refine Ω.bind' ⟨_,E,U,Ω.pure' ?_⟩;refine Ω.bind' (Hi m n D ?_);refine Ω.bind' (Hh m n D f.Ml F ?_);simp[T0,Option.map_none];let ⟨W,X,Y⟩:=Ev O (es':=es++[(k,x)]) (xs':=xs.push {key:=v,val:=w,born:=R}) (clock':=R+1) r Q ae λ{B' σ'} l=>by
       refine⟨by simp[f.1],λj e y c d=>?_,λj I y z c d Z=>?_⟩
       .by_cases aa:j<es.length
        .rw[YT aa]at c;rw[Lo,if_neg (by rw[<-f.1];omega)]at d;let ⟨A,C,L⟩:=f.2.1 j e y c d;exact⟨A.later l,C.later l,J⟩
        rw[W5 J]at c;have au:j=es.length:=by
         have:=(ZT.1 c).1;simp at this;omega
        subst au;rw[Lo,if_pos f.1]at d;simp at c;subst c;cases d;exact⟨n.later l,ab.later l,Qf _⟩
       rw[Lo]at c d;split at c
       .rename_i ah;split at d
        .omega
        have:=(Sd.1 d).1;omega
       split at d
       .cases d;have aa:=(Sd.1 c).1;have o:∃e,es[j]?=some e:=⟨_,ξ (by rw[f.1];exact aa)⟩;let ⟨e,o⟩:=o;exact(f.2.1 j e y o c).2.2
       exact f.2.2 j I y z c d Z
      exact⟨⟨_,E⟩,U,U,Ω.pure' ⟨S,_,_,_,V,X,W,Y,.Zl _⟩⟩
     exact .bad
    | TI v s=>rw[r]at s;cases s
   exact .bad
  exact .bad
 exact .bad
end
section
variable{P:Program}{T:ZY}{S:ζ}{B:ZZ}{H:Φ}{σ:Ρ}
def Hf(T:ZY)(a:TypeId)(σ:Ρ)(b:Ψ):Y1:=match Pf T a,b with
 | some _,.mp id=>match σ[id]? with
  | some (.map es)=>.ok (.it σ.length) (σ++[.iter id es none])
  | _=>.bad
 | _,_=>.bad
def uT(x:ZH P T)(h:Holds S B σ H){ty mp u}(A:Θ S B σ mp u):Zo P (Instr.range ty u) S B H σ (Hf T ty σ mp):=by
 unfold Hf;split
 .rename_i Y id C;let ⟨i,hi,D⟩:=JD C;split
  .rename_i es a;cases A with
   | mp c n=>
    rename_i b N;rw[a]at c;cases c;let ⟨xs,d,k,l⟩:=KS h a n;intro K E;unfold Instr.range;refine Ω.bind' (x.Z1 hi ?_);rw[D];apply Ω.bind';refine⟨_,k,U,?_⟩;refine Ω.bind' (Ω.pure' ?_);apply Ω.bind';refine λr p=>?_;have m:b≠r:=λe=>by subst e;rw[p.2.2.1]at k;cases k
    have s:=(ZT.1 a).1
    have F:∀f,(∀N,some (r,0)≠some (f,N))->UY H (H.Zp r (.mapIter (some b) d #[] d)) f:=λf I=>by
     have m:f≠r:=λe=>by subst e;exact I _ U
     exact⟨λZ=>rfl,U,by simp[Φ.Zp,m]⟩
    have J:ZC S S B (B++[some (r,0)]) σ (σ++[.iter id es none])->VO S (B++[some (r,0)]) (σ++[.iter id es none]) (H.Zp r (.mapIter (some b) d #[] d)) (.iter id es none) (some (r,0)):=λt=>by
     refine⟨r,0,b,N,xs,d,#[],U,by rw[YT (by rw[h.len];exact s)];exact n,⟨es,by rw[YT s];exact a⟩,by simp[Φ.Zp],by simp[Φ.Zp,m,k],⟨xs.toList,?_,by simpa using l.1,λi e y L M=>?_⟩,λy O=>?_,λe g=>by cases g⟩
     .exact(List.filter_eq_self.2 λe _=>o).symm
     .let ⟨Q,R⟩:=l.Ml.2 i e y L M;exact⟨Q.later t,R.later t⟩
     obtain⟨j,w,rfl⟩:=Array.getElem_of_mem O;have g:∃e,es[j]?=some e:=⟨_,ξ (by rw[l.1];exact w)⟩;let ⟨e,g⟩:=g;exact(l.2.1 j e _ g (XV w)).2.2
    let ⟨V,W,X⟩:=h.push (λf aa e=>by cases e;exact p) F J;exact Ω.pure' ⟨_,_,_,_,E,W,V,X,.it (Mr σ _) (Mq h.len _)⟩
   | TI v c=>rw[a]at c;cases c
  exact .bad
 exact .bad
def uS{c:Type}(f:c->Nat):∀(l:List c)(i) e,(l.map f).Nodup->l[i]?=some e->l.filter (λx=>f x != f e)=l.eraseIdx i:=by
 intro l
 induction l with
 | nil=>intro i e _ h;simp at h
 | cons a l d=>
  intro i e b h;simp only[WY,Q2]at b;cases i with
  | zero=>
   simp at h;subst h;rw[MR];simp only[bne_self_eq_false,Vg,if_false,List.eraseIdx_cons_zero];rw[List.filter_eq_self];intro x g;simp;intro e;exact b.1 (e▸List.mem_map_of_mem g)
  | succ i=>
   simp[List.getElem?_cons_succ]at h;have j:f a≠f e:=λx=>b.1 (x▸List.mem_map_of_mem (ZD h));rw[MR];simp[ne_eq,j];rw[d i e b.2 h]
def uR{es xs clock}(h:QQ S B σ es xs clock):(xs.toList.map (·.born)).Nodup:=by
 rw[List.Nodup,Lk,Tm];intro i j hi a b;have:=h.2.2 i j _ _ (XV (by simpa using hi)) (XV (by simpa using a)) b;simp[Array.getElem_toList];omega
def He(σ:Ρ)(a:Ψ):Y1:=match a with
 | .it id=>match σ[id]? with
  | some (.iter m left _)=>if left.isEmpty=true then .ok (.Z7 [.z (.bool false)]) σ else
    .all left.length λi=>match left[i]? with
     | some e=>.ok (.Z7 [.z (.bool true),e.1,e.2]) (σ.set id (.iter m (left.eraseIdx i) (some e)))
     | none=>.bad
  | _=>.bad
 | _=>.bad
def Bf{a b c u v w}(f:Θ S B σ a u)(g:Θ S B σ b v)(h:Θ S B σ c w):Θ S B σ (.Z7 [a,b,c]) (.tuple #[u,v,w]):=by
 refine .Z7 _ U λi a' v' d e=>?_
 match i with
 | 0=>simp at d e;subst d;subst e;exact f
 | 1=>simp at d e;subst d;subst e;exact g
 | 2=>simp at d e;subst d;subst e;exact h
 | i+3=>simp at d
def uQ(t:Holds S B σ H){it u}(aB)(hi:Θ S B σ it u):Zo P (Instr.next u false aB) S B H σ (He σ it):=by
 unfold He;split
 .rename_i id;split
  .rename_i m left aV k;cases hi with
   | it p aj=>
    rename_i aW aX aY b N;rw[k]at p;cases p;let ⟨R,ak,I,aC,xs,d,seen,T,al,⟨es,L⟩,V,C,⟨w,W,X,Y⟩,Z,aZ⟩:=t.row id _ _ k aj;cases T;let ⟨xs',clock',am,aD⟩:=KS t L al;rw[C]at am;cases am;have an:=uR aD;have aa:I≠b:=λe=>by subst e;rw[V]at C;cases C
    intro K ab;have aE:(xs.filter λe=>!seen.contains e.born).toList=w:=by rw[W];simp
    have aF:(!seen.isEmpty&&!xs.isEmpty&&xs.all (λe=>decide (e.born>=d)))=false:=by
     cases ao:xs.isEmpty with
     | true=>simp
     | false=>
      have D:0<xs.size:=by
       rw[Array.isEmpty_eq_false_iff]at ao;exact Array.size_pos_iff.2 ao
      have aG:xs.all (λe=>decide (e.born>=d))=false:=by
       rw[Array.all_eq_false];refine⟨0,D,?_⟩;have:=Z xs[0] (Array.getElem_mem D);simp;exact this
      rw[aG];simp
    have aH:∀z,z=xs.filter (λe=>!seen.contains e.born)->z.filter (λe=>decide (e.born<d))=z/\z.filter (λe=>decide (e.born>=d))=#[]:=λz E=>by
     have ap:∀e∈z,e.born<d:=λe r=>by rw[E]at r;exact Z e (Array.mem_of_mem_filter r)
     constructor
     .rw[Array.filter_eq_self];intro e r;simpa using ap e r
     rw[Array.filter_eq_empty_iff];intro e r;simpa using ap e r
    unfold Instr.next;apply Ω.bind';refine⟨_,V,U,?_⟩;apply Ω.pure';simp only;apply Ω.bind';refine⟨_,C,U,?_⟩;apply Ω.pure';simp only[aF,Vg,if_false];generalize E:xs.filter (λe=>!seen.contains e.born)=z;let ⟨f1,f2⟩:=aH z E.symm;rw[f1,f2];have M:z.toList=w:=by rw[<-E];exact aE
    by_cases O:left.isEmpty=true
    .have aI:=Tj.1 O;subst aI;have aJ:z=#[]:=by
      have:=YY.1 (by rw[<-X];rfl);rw[this]at M;exact Array.toList_eq_nil_iff.1 M
     subst aJ;have T:((if(#[]:Array MapEntry).isEmpty=true then #[none] else #[])++Array.map some (#[]++#[]:Array MapEntry))=#[none]:=o;rw[T];apply Ω.bind';show Ω P (choose (.mapNext 1)) H _ _;unfold choose;simp only[Ω,Question.forced,Z3,decide_true,if_true];exact Ω.pure' (.same t ab (.Z7 _ U λi a v f s=>by
      match i with
      | 0=>simp at f s;subst f;subst s;exact .z _
      | i+1=>simp at f))
    rw[if_neg O]at ab;have ad:z.size=left.length:=by rw[X,<-M];simp
    have aK:z.isEmpty=false:=by
     rw[Array.isEmpty_eq_false_iff];intro e;rw[e]at ad;exact O (Tj.2 (YY.1 ad.symm))
    simp only[aK,Vg,if_false,NP,Array.empty_append];apply Ω.bind';have aq:∀i,i<left.length->Ω P (match (z.map some)[i]? with
      | some (some e)=>do
       setObj b (.mapIter (some I) d (seen.push e.born) d)
       pure (.tuple #[.bool true,e.key,e.val])
      | some none=>pure (.tuple #[.bool false])
      | none=>stuck "Next: no such candidate") H (Xu S B H σ K) (λ_ _=>False):=λi ar=>by
     have F:∃g,z[i]?=some g:=⟨_,XV J⟩
     let ⟨g,F⟩:=F
     have au:w[i]?=some g:=by rw[<-M,Xf];exact F
     have Q:∃e,left[i]?=some e:=⟨_,ξ ar⟩
     let ⟨le,Q⟩:=Q;rw[NQ,F];simp only[Option.map_some];have av:=ab i ar;simp only[Q]at av;let ⟨aw,ax⟩:=Y i _ _ Q au;have aL:g∈xs:=by
      have:=Array.mem_of_getElem? F;rw[<-E]at this;exact Array.mem_of_mem_filter this
     have aM:=(ZT.1 k).1
     have a0:id<B.length:=by rw[t.len];exact aM
     have ay:id≠m:=λe=>by subst e;rw[k]at L;cases L
     let ⟨aN,aO,ae⟩:=t.QP (H':=H.Zp b (.mapIter (some I) d (seen.push g.born) d)) (r':=.iter m (left.eraseIdx i) (some le)) (bo':=some (b,N)) k trivial aj (.inl ⟨_,_,U,U⟩) (λR ak e=>.inl ⟨ak,e⟩) (λR f _=>by
      have aa:R≠b:=λe=>by subst e;exact f N U
      exact⟨λa1=>rfl,U,by simp[Φ.Zp,aa]⟩) Φ.JN (λj l c az=>by
      let ⟨bo,aP⟩:=TH t az
      let ⟨_,_,_,_,_,_,_,_,_,⟨a2,aA⟩,_⟩:=t.row j _ bo az aP;rw[k]at aA;cases aA) (λA=>by
      refine⟨b,N,I,aC,xs,d,seen.push g.born,U,by rw[XJ ay];exact al,⟨es,by rw[XJ ay];exact L⟩,by simp[Φ.Zp],by simp[Φ.Zp,aa,C],⟨w.eraseIdx i,?_,by rw[Ii,Ii,X],λj e y f s=>?_⟩,Z,λe r=>?_⟩
      .have aQ:(w.map (·.born)).Nodup:=by
        rw[W];exact an.sublist (List.filter_sublist.map _)
       rw[<-uS (·.born) w i g aQ au,W,Ie];apply List.filter_congr;intro e _;rw[Array.contains_push,Bool.not_or,Bool.and_comm];congr 1
      .rw[List.getElem?_eraseIdx]at f s;split at f
       .rename_i af;rw[if_pos af]at s;let ⟨ag,ah⟩:=Y j e y f s;exact⟨ag.later A,ah.later A⟩
       rename_i af;rw[if_neg af]at s;let ⟨ag,ah⟩:=Y (j+1) e y f s;exact⟨ag.later A,ah.later A⟩
      cases r;refine⟨g.born,g,o,?_,aw.later A,ax.later A⟩;rw[<-Array.find?_toList];let ⟨q,aR⟩:=Tl (show g∈xs.toList by simpa using aL);have aS:∀(l:List MapEntry)(q:Nat)(e),(l.map (·.born)).Nodup->l[q]?=some e->l.find? (·.born==e.born)=some e:=by
       intro l
       induction l with
       | nil=>intro q e _ h;simp at h
       | cons a l aT=>
        intro q e ai h;simp only[WY,Q2]at ai;rw[List.find?_cons];cases q with
        | zero=>simp at h;subst h;simp
        | succ q=>
         simp only[List.getElem?_cons_succ]at h;have:(a.born==e.born)=false:=by
          simp only[beq_eq_false_iff_ne,ne_eq];intro x;exact ai.1 (x▸List.mem_map_of_mem (ZD h))
         rw[this];exact aT q e ai.2 h
      exact aS xs.toList q _ an aR)
     apply Ω.bind';refine⟨⟨_,V⟩,U,U,?_⟩;apply Ω.pure';exact Ω.pure' ⟨S,_,_,_,av,aO,aN,ae,Bf (.z _) (aw.later ae) (ax.later ae)⟩
    have aU:(z.map some).size=left.length:=by simp[ad]
    unfold choose;simp only[Ω];have D:=MT.2 λe=>O (Tj.2 e);split
    .exact aq 0 D
    intro n;apply aq _;simp only[Question.cut,aU];exact Lg _ D
   | R8 p _=>rw[k]at p;cases p
   | S8 v p=>rw[k]at p;cases p
  exact .bad
 exact .bad
def Hd(σ:Ρ)(a:Ψ):Y1:=match a with
 | .it id=>match σ[id]? with
  | some (.iter _ _ (some e))=>.ok (.Z7 [e.1,e.2]) σ
  | _=>.bad
 | _=>.bad
def uP(d:Holds S B σ H){it u}(hi:Θ S B σ it u):Zo P (Instr.entry u) S B H σ (Hd σ it):=by
 unfold Hd;split
 .rename_i id;split
  .rename_i m left e c;cases hi with
   | it a f=>
    rename_i r s t b N;rw[c]at a;cases a;let ⟨w,x,A,C,xs,D,seen,g,E,F,h,i,_,I,j⟩:=d.row id _ _ c f;cases g;let ⟨J,y,k,l,n,o⟩:=j e U;intro K p;unfold Instr.entry;apply Ω.bind';refine⟨_,h,U,?_⟩;apply Ω.pure';simp[k];apply Ω.bind';refine⟨_,i,U,?_⟩;apply Ω.pure';simp[Vg,l];exact Ω.pure' (.same d p (K4 n o))
   | R8 a _=>rw[c]at a;cases a
   | S8 v a=>rw[c]at a;cases a
  exact .bad
 exact .bad
@[simp] def Eu:Value->Option Ψ
 | .int k z=>some (.z (.int k z))
 | .slice none 0 0=>some (.sl true 0 [])
 | _=>none
def uO{a b}(h:Eu a=some b):a.cells=#[a]/\b.cells=[b]/\(∀S B σ,Θ S B σ b a)/\One a:=by
 unfold Eu at h;split at h
 .cases h;exact⟨U,U,λ_ _ _=>.z _,trivial⟩
 .cases h;exact⟨U,U,λ_ _ _=>.WI _ _ (λ_=>rfl),trivial⟩
 cases h
def Hc(T:ZY)(b:TypeId)(σ:Ρ)(x:Ψ):Y1:=match x with
 | .ms id n i len=>match T b,σ[id]? with
  | some c,some (.cells t k l)=>match c.Z1 with
   | .slice e=>match T e with
    | some d=>match Eu d.zero with
     | some f=>if l.length=n/\k=1/\i+len<=n/\(∀a∈l,a.cells.length=1) then .ok .Zl (σ.set id (.cells t k (l.take i++List.replicate len f++l.drop (i+len)))) else .bad
     | none=>.bad
    | none=>.bad
   | _=>.bad
  | _,_=>.bad
 | _=>.bad
def uN(Q:ZH P T)(o:Holds S B σ H){ty}(af){x u}(ag:Θ S B σ x u):Zo P (Builtin.clear_ #[ty] af #[u]) S B H σ (Hc T ty σ x):=by
 unfold Hc;split
 .rename_i id n i len;split
  .rename_i aJ t k l ah g;split
   .rename_i e ai;split
    .rename_i C aj;split
     .rename_i p ak;let ⟨al,R,am,an⟩:=uO ak;split
      .rename_i ao;obtain⟨aK,rfl,aL,_⟩:=ao;have V:=(ZT.1 g).1;have aM:id<B.length:=by rw[o.len];exact V
       intro K D;have W:len=0->Xu S B H σ K (.tuple #[]) H:=λr=>by
        subst r;have ap:σ.set id (.cells t 1 (l.take i++List.replicate 0 p++l.drop (i+0)))=σ:=by
         rw[List.replicate_zero,TM,Nat.add_zero,List.take_append_drop];apply T6;intro j;by_cases X:id=j
         .subst X;rw[Xz V,g]
         rw[XJ X]
        simp only[Y1.holds]at D;rw[ap]at D;exact⟨S,B,σ,_,D,.refl _ _ _,o,.refl _ _ _,.Zl _⟩
       cases ag with
       | VP v h Y=>rw[g]at h;cases h;simp[Row.W3]at Y;omega
       | ms cap h Y Z aN aO s=>
        rename_i bo base;rw[g]at h;cases h;unfold Builtin.clear_;refine Ω.bind' (Q.Z1 ah ?_);rw[ai];cases base with
        | none=>
         refine Ω.bind' (Ω.pure' ?_);have r:len=0:=by
          rcases s with s|⟨b,N,_,E,_⟩
          .omega
          cases E
         exact Ω.pure' (W r)
        | some a=>
         by_cases r:len=0
         .subst r;refine Ω.bind' (Ω.pure' ?_);exact Ω.pure' (W U)
         rcases s with s|⟨b,N,rfl,E,s⟩
         .omega
         cases E;let ⟨aa,aP,ab,w,F⟩:=o.row id _ _ g Z;obtain⟨m,rfl⟩:∃m,len=m+1:=⟨len-1,J⟩;simp only;refine Ω.bind' (Q.zero aj ?_);have aq:(Builtin.zeroCells C.zero.cells (m+1)).toList=List.replicate (m+1) C.zero:=by
          simp only[Builtin.zeroCells,al];rw[Array.toList_map,Array.toList_range];refine T6 λj=>?_;rw[YK,E4];by_cases d:j<m+1
          .rw[Ig (by simpa using d),if_pos d];simp[Nat.mod_one]
          rw[Wk (by simp;omega),if_neg d];rfl
         rw[aq];have ar:∀(y)(c),(l.take i++List.replicate (m+1) p++l.drop (i+(m+1)))[y]?=some c->(i<=y/\y<i+(m+1)/\c=p)\/((y<i\/i+(m+1)<=y)/\l[y]?=some c):=λy c f=>by
          by_cases A:y<i
          .rw[Sc,YT (by simp;omega),UK A]at f;exact .inr ⟨.inl A,f⟩
          by_cases I:y<i+(m+1)
          .rw[YT (by simp;omega),W5 (by simp;omega),E4]at f;split at f
           .cases f;exact .inl ⟨J,I,U⟩
           cases f
          rw[W5 (by simp;omega),Vf]at f;have au:i+(m+1)+(y-(l.take i++List.replicate (m+1) p).length)=y:=by simp;omega
          rw[au]at f;exact .inr ⟨.inr J,f⟩
         let ⟨av,aw,ax⟩:=o.QP (H':=H.W2 b i (List.replicate (m+1) C.zero)) (r':=.cells t 1 (l.take i++List.replicate (m+1) p++l.drop (i+(m+1)))) g trivial Z (.inl ⟨_,U,by simp;omega,U⟩) (λad ay L=>.inl ⟨ay,L⟩)
          (λad h _=>by
           have az:ad≠b:=λL=>by subst L;exact h N U
           exact⟨λae=>by simp[Φ.W2,az],U,U⟩) Φ.HG (K2 o g) (λaA=>by
           refine⟨aa,by simp;omega,λae aB=>?_,λy j=>if i<=y/\y<i+(m+1) then C.zero else w y j,λy c f=>?_⟩
           .simp only[Φ.W2];split
            .exact⟨_,U⟩
            exact ab ae aB
           rcases ar y c f with⟨A,I,rfl⟩|⟨A,M⟩
           .refine⟨by rw[R];rfl,λj a d=>?_⟩;rw[R]at d;have O:j=0:=by have:=(ZT.1 d).1;simp at this;omega
            subst O;simp at d;subst d;simp only[A,I,and_self,if_true];refine⟨?_,am _ _ _,an⟩;simp only[Φ.W2,List.length_replicate];rw[if_pos ⟨trivial,J,J⟩,E4,if_pos J];rfl
           refine⟨(F y c M).1,λj a d=>?_⟩;let ⟨aC,aD,aE⟩:=(F y c M).2 j a d;have O:j=0:=by have:=(ZT.1 d).1;rw[(F y c M).1]at this;omega
           subst O;have aF:¬(i<=y/\y<i+(m+1)):=J;simp only[aF,if_false];refine⟨?_,aD.later aA,aE⟩;simp only[Φ.W2,List.length_replicate];rw[if_neg J];exact aC)
         have aG:(⟨b,i*1,none⟩:Addr)=⟨b,i,none⟩:=by rw[SH]
         rw[aG];apply Ω.bind';refine Ω.storeCells U ⟨t,N,aa⟩ _ 0 H (λv hv=>by rw[E5 hv];trivial) (λj _ d=>?_) U ?_
         .rw[List.length_replicate]at d;let ⟨aH,aI⟩:=ab (i+j) J;exact⟨aH,aI⟩
         exact Ω.pure' ⟨S,_,_,_,D,aw,av,ax,.Zl _⟩
      exact .bad
     exact .bad
    exact .bad
   exact .bad
  exact .bad
 exact .bad
def Hb(T:ZY)(a:TypeId)(σ:Ρ)(b:Ψ):Y1:=match Pf T a,b with
 | some _,.mp id=>match σ[id]? with
  | some (.map _)=>if UC σ id=true then .ok .Zl (σ.set id (.map [])) else .bad
  | _=>.bad
 | _,_=>Hc T a σ b
def uM(f:ZH P T)(d:Holds S B σ H){ty}(g){mp u}(h:Θ S B σ mp u):Zo P (Builtin.clear_ #[ty] g #[u]) S B H σ (Hb T ty σ mp):=by
 unfold Hb;split
 .rename_i x id m;let ⟨i,hi,n⟩:=JD m;split
  .rename_i es c;split
   .rename_i o;cases h with
    | mp a k=>
     rename_i b N;rw[c]at a;cases a;let ⟨xs,p,l,A⟩:=KS d c k;let ⟨r,s,t⟩:=Ev d (es':=[]) (xs':=#[]) (clock':=p) c k o λ_=>⟨U,λi e y a=>by simp at a,λi j y z a=>by simp at a⟩;intro K w;unfold Builtin.clear_;refine Ω.bind' (f.Z1 hi ?_);rw[n];apply Ω.bind';refine⟨_,l,U,?_⟩;apply Ω.pure';refine⟨⟨_,l⟩,U,U,?_⟩;exact Ω.pure' ⟨S,_,_,_,w,s,r,t,.Zl _⟩
    | TI v a=>rw[c]at a;cases a
   exact .bad
  exact .bad
 exact uN f d g h
end
def Mk(T:ZY)(c:BinOp)(d:TypeId)(a b:Ψ):Y4:=match aeqv T d a b with
 | some r=>match c with
  | .eql=>.ok (.z (.bool r))
  | .neq=>.ok (.z (.bool !r))
  | _=>.bad
 | none=>.bad
def Ha(T:ZY)(c:BinOp)(d:TypeId)(a b:Ψ):Y4:=match a,b with
 | .z x,.z y=>match Ox c x y with
  | .ok v=>.ok v
  | .Zw p r=>.Zw p r
  | .bad=>Mk T c d (.z x) (.z y)
 | .Z' x,.Z' y=>Mk T c d (.Z' x) (.Z' y)
 | _,_=>.bad
def G9(T:ZY)(b:TypeId)(x c:Ψ):Y4:=match T b with
 | some i=>match i.Z1,x,c with
  | .string,.z (.string s),.z (.int _ n)=>.Zw (0<=n/\n<s.size) (.ok (.z (.int .u8 (s.data.toList.getD n.toNat 0).toNat)))
  | .array len e,.Z' xs,.z (.int _ n)=>match T e with
   | some a=>if a.agg=false/\a.size=1/\xs.length=len then .Zw (0<=n/\n<len) (.ok (xs.getD n.toNat .Zl)) else .bad
   | none=>.bad
  | _,_,_=>.bad
 | none=>.bad
def G8(x:Ψ):Y4:=match x with
 | .Κ c=>.ok (.Κ c)
 | .fn (.func f) a b=>.ok (.fn (.func f) a b)
 | .z (.pointer (some a))=>.ok (.z (.pointer (some a)))
 | _=>.bad
def Ry(σ:Ρ)(x:Ψ):Y1:=match x with
 | .Ο id n i j=>match σ[id]? with
  | some (.cells _ _ l)=>if l.length=n then .ok (.Ο id n i j) σ else .bad
  | _=>.bad
 | _=>.bad
def G7(T:ZY)(a:TypeId)(x:Ψ):Y4:=match T a with
 | some i=>match i.Z1,x with
  | .array n _,.sl _ k l=>if 0<n/\k=1/\(l.all λe=>decide (e.cells.length=1)&&Ψ.Y8 [] e)=true then .Zw (n<=l.length) (.ok (.Κ (l.take n))) else .bad
  | _,_=>.bad
 | none=>.bad
def Mj:μ->Option (ψ)
 | []=>some []
 | .z (.int .i32 n)::r=>(Mj r).map (n::·)
 | _=>none
def spell(l:ψ):ByteArray:=l.foldl (λs n=>s++Utf8.encode n) .empty
def JC(T:ZY)(b:TypeId):Bool:=match T b with
 | some i=>match i.Z1 with
  | .slice e=>match T e with|some a=>(match a.Z1 with|.int .i32=>true|_=>false)&&a.size==1|none=>false
  | _=>false
 | none=>false
def KR(T:ZY)(a:TypeId):Bool:=match T a with|some i=>(match i.Z1 with|.string=>true|_=>false)|none=>false
def ND(T:ZY)(src a:TypeId)(σ:Ρ)(x:Ψ):Y4:=if JC T src=true/\KR T a=true then match QO σ x with
 | some (k,l)=>if k=1\/l.isEmpty=true then match Mj l with|some r=>.ok (.z (.string (spell r)))|none=>.bad else .bad
 | none=>.bad else .bad
def KQ:μ->Option (ψ)
 | []=>some []
 | .z (.int .u8 n)::r=>(KQ r).map (n::·)
 | _=>none
def Be(l:ψ):ByteArray:=l.foldl (λs n=>s.push (UInt8.ofNat n.toNat)) .empty
def JB(T:ZY)(b:TypeId):Bool:=match T b with
 | some i=>match i.Z1 with
  | .slice e=>match T e with|some a=>(match a.Z1 with|.int .u8=>true|_=>false)&&a.size==1|none=>false
  | _=>false
 | none=>false
def NC(T:ZY)(src a:TypeId)(σ:Ρ)(x:Ψ):Y4:=if JB T src=true/\KR T a=true then match QO σ x with
 | some (k,l)=>if k=1\/l.isEmpty=true then match KQ l with|some r=>.ok (.z (.string (Be r)))|none=>.bad else .bad
 | none=>.bad else .bad
def NB(T:ZY)(src a:TypeId)(σ:Ρ)(x:Ψ):Y4:=if JB T src=true then NC T src a σ x else ND T src a σ x
def G6(T:ZY)(src a:TypeId)(x:Ψ):Y4:=if KR T src=true/\JC T a=true then match x with
 | .z (.string s)=>.ok (.sl false 1 ((Conv.runesFrom s s.size 0 #[]).toList.map .z))
 | _=>.bad else .bad
section
variable{P:Program}{T:ZY}{S:ζ}{B:ZZ}{H:Φ}{σ:Ρ}
def uL{op ty p q vs b}(c:P.eqGuardType P.depth ty=false){G K E}(a:K () G):Ω P (eqGuard op ty p q (.agg vs) (.agg b)) G K E:=by
 cases op<;>first|exact Ω.pure' a|skip
 all_goals
  unfold eqGuard;simp only[Vg];apply Ω.bind';apply Ω.bind';show Ω P _ G K E;rw[if_pos (by rw[c];rfl)];exact Ω.pure' a
def Bd(e:ZH P T)(f:Holds S B σ H){op ty p q a b v w}(g:Θ S B σ a v)(h:Θ S B σ b w)(i:∀r,aeqv T ty a b=some r->(op=.eql\/op=.neq)->∀(K),K () H->Ω P (eqGuard op ty p q v w) H K (λ_ _=>False))
  (j:∀r,aeqv T ty a b=some r->(binOp .eql ty v w=(do pure (.bool (<-Op.equal ty v w)))/\binOp .neq ty v w=(do pure (.bool (!(<-Op.equal ty v w)))))) :
  Zo P (do eqGuard op ty p q v w;binOp op ty v w) S B H σ ((Mk T op ty a b).YA σ):=by
 unfold Mk;split
 .rename_i r c;let ⟨k,l⟩:=j r c;split
  .intro K d;refine Ω.bind' (i r c (.inl U) _ ?_);rw[k];exact Ω.bind' (Ey e g h c (Ω.pure' (.same f d (.z _))))
  .intro K d;refine Ω.bind' (i r c (.inr U) _ ?_);rw[l];exact Ω.bind' (Ey e g h c (Ω.pure' (.same f d (.z _))))
  exact .bad
 exact .bad
def uK(l:ZH P T)(m:Holds S B σ H)(j g p q){a b v w}(t:Θ S B σ a v)(u:Θ S B σ b w):Zo P (do eqGuard j g p q v w;binOp j g v w) S B H σ ((Ha T j g a b).YA σ):=by
 unfold Ha;split
 .rename_i x y;have k:=vG (P:=P) m j g p q v w;cases t;cases u;split
  .rename_i r f;rw[f]at k;exact k
  .rename_i N r f;rw[f]at k;exact k
  rename_i A;have C:∀r,aeqv T g (.z v) (.z w)=some r->(∃c d,v=.bool c/\w=.bool d)\/¬(j=.eql\/j=.neq):=λr f=>by
   unfold aeqv at f;split at f<;>try cases f
   simp only at f;split at f<;>try cases f
   unfold QN at f;split at f
   .split at f
    .rename_i e;subst e;refine .inr λn=>?_;rcases n with rfl|rfl<;>simp[Ox]at A
    cases f
   .refine .inr λn=>?_;rcases n with rfl|rfl<;>simp[Ox]at A
   .exact .inl ⟨_,_,U,U⟩
   cases f
  by_cases o:j=.eql\/j=.neq
  .by_cases f:∃r,aeqv T g (.z v) (.z w)=some r
   .let ⟨r,f⟩:=f;rcases C r f with⟨c,d,rfl,rfl⟩|h
    .exact Bd l m (.z _) (.z _) (λ_ _ _ K s=>by unfold eqGuard;split<;>exact Ω.pure' s) (λ_ _=>⟨U,U⟩)
    exact absurd o h
   have:aeqv T g (.z v) (.z w)=none:=by
    cases h:aeqv T g (.z v) (.z w) with
    | none=>rfl
    | some r=>exact absurd ⟨r,h⟩ f
   unfold Mk;rw[this];exact .bad
  unfold Mk;split
  .split
   .exact absurd (.inl U) o
   .exact absurd (.inr U) o
   exact .bad
  exact .bad
 .rename_i x y;cases t with
  | Z' vs D E=>cases u with
   | Z' F I J=>
    refine Bd l m (.Z' vs D E) (.Z' F I J) (λr f _ K s=>?_) (λ_ _=>⟨U,U⟩);have L:P.eqGuardType P.depth g=false:=by
     unfold aeqv at f;split at f<;>try cases f
     rename_i i hi;simp only at f;split at f<;>try cases f
     rename_i O M;have:=(l g i hi).1.2;rw[M]at this;exact this.1
    exact uL L s
 exact .bad
def uJ(c:ZH P T)(h:Holds S B σ H)(d){x j v w}(k:Θ S B σ x v)(hi:Θ S B σ j w):Zo P (Instr.index d v w) S B H σ ((G9 T d x j).YA σ):=by
 unfold G9;cases l:T d with
 | none=>exact .bad
 | some i=>
  simp only;split
  .rename_i s kk n f;cases k;cases hi;refine Zo.Zw λg K a=>?_;unfold Instr.index;refine Ω.bind' (Ω.pure' ?_);refine Ω.bind' (c.Z1 l ?_);rw[f];have b:n.toNat<s.data.size:=by have:s.size=s.data.size:=rfl;omega
   have o:(if 0<=n then s[n.toNat]? else none)=some s.data[n.toNat]:=by
    rw[if_pos g.1];rw[getElem?_pos s n.toNat J];rfl
   simp[o];have Υ:s.data.toList.getD n.toNat 0=s.data[n.toNat]:=by rw[XA,Xf,XV b];rfl
   rw[Υ]at a;exact Ω.pure' (.same h a (.z _))
  .rename_i len e xs kk n f;cases hi;split
   .rename_i A m;split
    .rename_i p;let ⟨r,t,C⟩:=p;refine Zo.Zw λg K a=>?_;cases k with
     | Z' vs u y=>
      unfold Instr.index;refine Ω.bind' (Ω.pure' ?_);refine Ω.bind' (c.Z1 l ?_);rw[f];simp[g];refine Ω.bind' (c.size m ?_);rw[t,SH];unfold part;refine Ω.bind' (c.agg m ?_);rw[r];have b:n.toNat<xs.length:=J;have hv:n.toNat<vs.size:=by rw[<-u];exact b
      simp[if_false,XV hv];have Υ:xs.getD n.toNat .Zl=xs[n.toNat]:=by simp[b]
      rw[Υ]at a;exact Ω.pure' (.same h a (y _ _ _ (ξ b) (XV hv)))
    exact .bad
   exact .bad
  exact .bad
def uI(e:Holds S B σ H){ρ d x}(f:d.op=.nilCheck x){a}(c:Θ S B σ a (ρ x)):Does P (execOp ρ d) S B H σ ((G8 a).YA σ):=by
 unfold G8;split
 .unfold execOp;rw[f];simp only;generalize ρ x=v at c;cases c with
  | Κ b d w g h=>exact Does.val e (.Κ b d w g h)
 .unfold execOp;rw[f];simp only;generalize ρ x=v at c;cases c with
  | fn vs i g h j k=>exact Does.val e (.fn vs i g h j k)
 .unfold execOp;rw[f];simp only;generalize ρ x=v at c;cases c;exact Does.val e (.z _)
 exact .bad
def uH(f:Holds S B σ H){ρ d x}(g:d.op=.nilCheck x){a}(e:Θ S B σ a (ρ x)):Does P (execOp ρ d) S B H σ (Ry σ a):=by
 unfold Ry;split
 .split
  .rename_i t k l h;split
   .rename_i j;unfold execOp;rw[g];simp only;generalize ρ x=v at e;cases e with
    | Ο b c i=>exact Does.val f (.Ο b c i)
    | Vo v b c=>rw[h]at b;cases b;simp[Row.W3]at c;omega
   exact .bad
  exact .bad
 exact .bad
def uG(o:ZH P T)(p:Holds S B σ H)(d){x v}(r:Θ S B σ x v):Zo P (Instr.arrayAt d v) S B H σ ((G7 T d x).YA σ):=by
 unfold G7;cases s:T d with
 | none=>exact .bad
 | some i=>
  simp only;split
  .rename_i n e ex k l t;split
   .rename_i u;let ⟨L,y,h⟩:=u;subst y;refine Zo.Zw λA K C=>?_;obtain⟨base,cap,rfl,_,_,D⟩:=TF r;obtain⟨b,E,w,rfl,M,F,I⟩:=D (λe=>by subst e;simp at A;omega);unfold Instr.arrayAt;refine Ω.bind' (o.Z1 s ?_);rw[t];simp only;rw[if_neg J];rw[Xk]at h;have el:∀(j)(e:Ψ),(l.take n)[j]?=some e->l[j]?=some e/\e.cells=[e]:=λj e c=>by
     have m:=h e (MU (ZD c));simp[U2]at m;rw[Q4]at c;split at c
     .exact⟨c,Ψ.EF m.2⟩
     cases c
    refine Ω.pure' (.same p C (.Κ b E (λj=>w j 0) (λj a c=>?_) (λj a c=>?_)))
    .let ⟨f,g⟩:=el j a c
     have:=F j a f 0 a (by rw[g];rfl);simpa using this
    let ⟨f,g⟩:=el j a c;exact I j a f 0 a (by rw[g];rfl)
   exact .bad
  exact .bad
def Bc{ty}(h:JC T ty=true):∃i e a,T ty=some i/\i.Z1=.slice e/\T e=some a/\a.Z1=.int .i32/\a.size=1:=by
 unfold JC at h;split at h
 .rename_i i hi;split at h
  .rename_i e b;split at h
   .rename_i a c;simp at h;refine⟨i,e,a,hi,b,c,?_,h.2⟩;have:=h.1;split at this
    .assumption
    cases this
   cases h
  cases h
 cases h
def uF{ty}(h:JB T ty=true):∃i e a,T ty=some i/\i.Z1=.slice e/\T e=some a/\a.Z1=.int .u8/\a.size=1:=by
 unfold JB at h;split at h
 .rename_i i hi;split at h
  .rename_i e b;split at h
   .rename_i a c;simp at h;refine⟨i,e,a,hi,b,c,?_,h.2⟩;have:=h.1;split at this
    .assumption
    cases this
   cases h
  cases h
 cases h
def Et{ty}(h:KR T ty=true):∃i,T ty=some i/\i.Z1=.string:=by
 unfold KR at h;split at h
 .rename_i i hi;refine⟨i,hi,?_⟩;split at h
  .assumption
  cases h
 cases h
def uE(k:ZH P T)(A:Holds S B σ H)(src p){x v}(d:Θ S B σ x v):Zo P (convert src p v) S B H σ ((G6 T src p x).YA σ):=by
 unfold G6;split
 .rename_i t;let ⟨i,hi,C⟩:=Et t.1;let ⟨j,e,W,f,D,E,F,X⟩:=Bc t.2;split
  .rename_i s;cases d;intro K u;unfold convert;refine Ω.bind' (k.Z1 hi (Ω.bind' (k.Z1 f ?_)));rw[C,D];simp only;refine Ω.bind' (k.Z1 E ?_);rw[F];simp only;unfold Conv.stringToRunes;apply Ω.bind';unfold choose;simp[Ω];have I:(Question.appendCap (Conv.runesFrom s s.size 0 #[]).size 0 e).forced=false:=rfl;rw[I];simp;intro q;generalize J:Conv.runesFrom s s.size 0 #[]=c at u ⊢;have L:c.size<=(Question.appendCap c.size 0 e).cut q:=by simp[Question.cut]
   refine Ω.bind' (Ω.bind' ?_);have M:∀v∈c,One v:=by
    have N:∀(l i)(g),(∀v∈g,One v)->∀v∈Conv.runesFrom s l i g,One v:=by
     intro l
     induction l with
     | zero=>intro i g h;exact h
     | succ n O=>
      intro i g h;unfold Conv.runesFrom;split
      .refine O _ _ λv hv=>?_;rcases MP.1 hv with hv|rfl
       .exact h v hv
       trivial
      exact h
    rw[<-J];exact N _ _ _ (λv hv=>by simp at hv)
   have Q:Xd S B σ (c++Array.replicate ((Question.appendCap c.size 0 e).cut q-c.size) (.int .i32 0)) 1 (c.toList.map .z):=by
    refine⟨o,λj a f=>?_⟩;rw[YK,Xf]at f;cases d:c[j]? with
    | none=>rw[d]at f;cases f
    | some y=>
     rw[d]at f;cases f;refine⟨U,λz b m=>?_⟩
     match z with
     | 0=>
      simp[Ψ.cells]at m;subst m;refine⟨y,?_,.z y,M y (Array.mem_of_getElem? d)⟩;have:=(Sd.1 d).1;rw[Lr (by simpa using this)];simpa using d
     | z+1=>simp[Ψ.cells]at m
   refine KY A _ e λr R V w=>Ω.pure' (Ω.pure' ⟨_,_,_,_,u,V,R,w,?_⟩);have:=Hw false w Q (by simpa using L) o;simpa using this
  exact .bad
 exact .bad
def uD:∀(l)(r),Mj l=some r->r.length=l.length/\∀(i:Nat) n,r[i]?=some n->l[i]?=some (.z (.int .i32 n)):=by
 intro l
 induction l with
 | nil=>intro r h;cases h;exact⟨rfl,λi n h=>by simp at h⟩
 | cons a l e=>
  intro r h;unfold Mj at h;split at h
  .rename_i b;cases b
  .rename_i n j b;cases b;cases c:Mj l with
   | none=>rw[c]at h;cases h
   | some r'=>
    rw[c]at h;cases h;let ⟨f,g⟩:=e r' c;refine⟨by simp[f],λi m d=>?_⟩;cases i with
    | zero=>simp at d;subst d;rfl
    | succ i=>exact g i m (by simpa using d)
  cases h
def uC(m:ZH P T)(o:Holds S B σ H)(src C){x v}(L:Θ S B σ x v):Zo P (convert src C v) S B H σ ((ND T src C σ x).YA σ):=by
 unfold ND;split
 .rename_i D;let ⟨i,e,ai,hi,M,N,O,aj⟩:=Bc D.1;let ⟨j,Q,R⟩:=Et D.2;split
  .rename_i k l V;split
   .rename_i W;split
    .rename_i r X;obtain⟨base,cap,w,rfl,_,p,Y⟩:=KU o L V J (W.symm);let ⟨E,Z⟩:=uD l r X;intro K F;unfold convert;refine Ω.bind' (m.Z1 hi (Ω.bind' (m.Z1 Q ?_)));rw[M,R];have aa:∀i,i<l.length->w i=.int .i32 (r.getD i 0):=λi t=>by
      have I:r[i]?=some r[i]:=ξ J
      have:=(Y i _ (Z i _ I)).2 0 _ U;rw[SH,Nat.add_zero]at this;rw[XA,I];generalize w i=u at this;cases this;rfl
     have ab:Ω P (Conv.runesToString (.slice base l.length cap)) H (Xu S B H σ K) (λ_ _=>False):=by
      unfold Conv.runesToString;rw[SH]at p;cases base with
      | none=>
       simp only;rcases p with g|⟨b,ad,y,_⟩
       .have:=YY.1 (by rw[E,g]);subst this;exact Ω.pure' (.same o F (.z _))
       cases y
      | some a=>
       simp only;have ae:∀(d:ψ)(f),Ω P (forIn (d.map λn=>Value.int .i32 n) f λ(c)(s)=>do
         let .int .i32 n:=c|stuck "runesToString: rune expected"
         pure (ForInStep.yield (s++Utf8.encode n))) H (λs H'=>s=d.foldl (λs n=>s++Utf8.encode n) f/\H'=H) (λ_ _=>False):=by
        intro d
        induction d with
        | nil=>intro f;exact .forIn_nil ⟨rfl,rfl⟩
        | cons n d af=>
         intro f;rw[WY];refine .forIn_cons ?_;exact Ω.pure' (af (f++Utf8.encode n))
       have ag:Ω P (loadCells a l.length) H (λvs H'=>vs=(r.map λn=>Value.int .i32 n).toArray/\H'=H) (λ_ _=>False):=by
        rcases p with g|⟨b,ad,y,ah⟩
        .rw[g];have:=YY.1 (by rw[E,g]);subst this;exact Ω.pure' ⟨U,U⟩
        cases y;refine Ω.loadCells w U ah ⟨?_,U⟩;congr 1;apply T6;intro i;rw[YK,YK];by_cases t:i<l.length
        .rw[Ig t,ξ (show i<r.length by omega)];simp[Option.map_some];rw[aa i t,XA,ξ (show i<r.length by omega)];rfl
        rw[Wk (by simp;omega),Wk J];rfl
       refine Ω.bind' (Ω.mono (λvs H' ⟨A,Υ⟩=>?_) (λ_ _ h=>h) _ ag);subst A;subst Υ;rw[<-Array.forIn_toList];refine Ω.bind' (Ω.mono (λs H' ⟨A,Υ⟩=>?_) (λ_ _ h=>h) _ (ae r .empty));subst A;subst Υ;exact Ω.pure' (.same o F (.z _))
     have:Ω P (do
      match <-underlying e with
      | .int .u8=>Conv.bytesToString (.slice base l.length cap)
      | .int .i32=>Conv.runesToString (.slice base l.length cap)
      | _=>stuck "Convert: a slice of what to string?") H (Xu S B H σ K) (λ_ _=>False):=by
      refine Ω.bind' (m.Z1 N ?_);rw[O];exact ab
     cases base<;>exact this
    exact .bad
   exact .bad
  exact .bad
 exact .bad
def uB:∀(l)(r),KQ l=some r->r.length=l.length/\∀(i:Nat) n,r[i]?=some n->l[i]?=some (.z (.int .u8 n)):=by
 intro l
 induction l with
 | nil=>intro r h;cases h;exact⟨rfl,λi n h=>by simp at h⟩
 | cons a l e=>
  intro r h;unfold KQ at h;split at h
  .rename_i b;cases b
  .rename_i n j b;cases b;cases c:KQ l with
   | none=>rw[c]at h;cases h
   | some r'=>
    rw[c]at h;cases h;let ⟨f,g⟩:=e r' c;refine⟨by simp[f],λi m d=>?_⟩;cases i with
    | zero=>simp at d;subst d;rfl
    | succ i=>exact g i m (by simpa using d)
  cases h
def uA(m:ZH P T)(o:Holds S B σ H)(src C){x v}(L:Θ S B σ x v):Zo P (convert src C v) S B H σ ((NC T src C σ x).YA σ):=by
 unfold NC;split
 .rename_i D;let ⟨i,e,ai,hi,M,N,O,aj⟩:=uF D.1;let ⟨j,Q,R⟩:=Et D.2;split
  .rename_i k l V;split
   .rename_i W;split
    .rename_i r X;obtain⟨base,cap,w,rfl,_,p,Y⟩:=KU o L V J (W.symm);let ⟨E,Z⟩:=uB l r X;intro K F;unfold convert;refine Ω.bind' (m.Z1 hi (Ω.bind' (m.Z1 Q ?_)));rw[M,R];have aa:∀i,i<l.length->w i=.int .u8 (r.getD i 0):=λi t=>by
      have I:r[i]?=some r[i]:=ξ J
      have:=(Y i _ (Z i _ I)).2 0 _ U;rw[SH,Nat.add_zero]at this;rw[XA,I];generalize w i=u at this;cases this;rfl
     have ab:Ω P (Conv.bytesToString (.slice base l.length cap)) H (Xu S B H σ K) (λ_ _=>False):=by
      unfold Conv.bytesToString;rw[SH]at p;cases base with
      | none=>
       simp only;rcases p with g|⟨b,ad,y,_⟩
       .have:=YY.1 (by rw[E,g]);subst this;exact Ω.pure' (.same o F (.z _))
       cases y
      | some a=>
       simp only;have ae:∀(d:ψ)(f),Ω P (forIn (d.map λn=>Value.int .u8 n) f λ(c)(s:ByteArray)=>do
         let .int .u8 n:=c|stuck "bytesToString: byte expected"
         pure (ForInStep.yield (s.push (UInt8.ofNat n.toNat)))) H (λs H'=>s=d.foldl (λs n=>s.push (UInt8.ofNat n.toNat)) f/\H'=H) (λ_ _=>False):=by
        intro d
        induction d with
        | nil=>intro f;exact .forIn_nil ⟨rfl,rfl⟩
        | cons n d af=>
         intro f;rw[WY];refine .forIn_cons ?_;exact Ω.pure' (af (f.push (UInt8.ofNat n.toNat)))
       have ag:Ω P (loadCells a l.length) H (λvs H'=>vs=(r.map λn=>Value.int .u8 n).toArray/\H'=H) (λ_ _=>False):=by
        rcases p with g|⟨b,ad,y,ah⟩
        .rw[g];have:=YY.1 (by rw[E,g]);subst this;exact Ω.pure' ⟨U,U⟩
        cases y;refine Ω.loadCells w U ah ⟨?_,U⟩;congr 1;apply T6;intro i;rw[YK,YK];by_cases t:i<l.length
        .rw[Ig t,ξ (show i<r.length by omega)];simp[Option.map_some];rw[aa i t,XA,ξ (show i<r.length by omega)];rfl
        rw[Wk (by simp;omega),Wk J];rfl
       refine Ω.bind' (Ω.mono (λvs H' ⟨A,Υ⟩=>?_) (λ_ _ h=>h) _ ag);subst A;subst Υ;rw[<-Array.forIn_toList];refine Ω.bind' (Ω.mono (λs H' ⟨A,Υ⟩=>?_) (λ_ _ h=>h) _ (ae r .empty));subst A;subst Υ;exact Ω.pure' (.same o F (.z _))
     have:Ω P (do
      match <-underlying e with
      | .int .u8=>Conv.bytesToString (.slice base l.length cap)
      | .int .i32=>Conv.runesToString (.slice base l.length cap)
      | _=>stuck "Convert: a slice of what to string?") H (Xu S B H σ K) (λ_ _=>False):=by
      refine Ω.bind' (m.Z1 N ?_);rw[O];exact ab
     cases base<;>exact this
    exact .bad
   exact .bad
  exact .bad
 exact .bad
def uz(b:ZH P T)(c:Holds S B σ H)(src a){x v}(d:Θ S B σ x v):Zo P (convert src a v) S B H σ ((NB T src a σ x).YA σ):=by
 unfold NB;split
 .exact uA b c src a d
 exact uC b c src a d
end
end Go.TL
