import Derived.Test.YtkndbcflmgogjaaGreatQAD
set_option maxHeartbeats 16000000
set_option maxRecDepth 20000
set_option linter.unusedSectionVars false
set_option linter.unusedSimpArgs false
set_option linter.unusedVariables false
namespace Go.TL
open Go.Conc
def MX (T:Z2) (c:BinOp) (d:TypeId) (a b:Ψ):Zl:=match aeqv T d a b with
 | some r=>match c with
  | .eql=>.ok (.z (.bool r))
  | .neq=>.ok (.z (.bool !r))
  | _=>.bad
 | none=>.bad
def HR (T:Z2) (c:BinOp) (d:TypeId) (a b:Ψ):Zl:=match a,b with
 | .z x,.z y=>match O5 c x y with
  | .ok v=>.ok v
  | .ZD p r=>.ZD p r
  | .bad=>MX T c d (.z x) (.z y)
 | .Z6 x,.Z6 y=>MX T c d (.Z6 x) (.Z6 y)
 | _,_=>.bad
def HQ (T:Z2) (c:TypeId) (x d:Ψ):Zl:=match T c with
 | some i=>match i.Z3,x,d with
  | .string,.z (.string s),.z (.int _ n)=>.ZD (0<=n/\n<s.size) (.ok (.z (.int .u8 (s.data.toList.getD n.toNat 0).toNat)))
  | .array len e,.Z6 a,.z (.int _ n)=>match T e with
   | some b=>if b.agg=false/\b.size=1/\a.length=len then .ZD (0<=n/\n<len) (.ok (a.getD n.toNat .Zx)) else .bad
   | none=>.bad
  | _,_,_=>.bad
 | none=>.bad
def HP (x:Ψ):Zl:=match x with
 | .Ν c=>.ok (.Ν c)
 | .fn (.func f) a b=>.ok (.fn (.func f) a b)
 | .z (.pointer (some a))=>.ok (.z (.pointer (some a)))
 | _=>.bad
def R7 (σ:Ρ) (x:Ψ):Zi:=match x with
 | .π id n i j=>match σ[id]? with
  | some (.cells _ _ l)=>if l.length=n then .ok (.π id n i j) σ else .bad
  | _=>.bad
 | _=>.bad
def HO (T:Z2) (a:TypeId) (x:Ψ):Zl:=match T a with
 | some i=>match i.Z3,x with
  | .array n _,.sl _ k l=>if 0<n/\k=1/\(l.all λe=>decide (e.cells.length=1)&&Ψ.YW [] e)=true then .ZD (n<=l.length) (.ok (.Ν (l.take n))) else .bad
  | _,_=>.bad
 | none=>.bad
def MW:ψ->Option (Α)
 | []=>some []
 | .z (.int .i32 n)::r=>(MW r).map (n::·)
 | _=>none
def spell (l:Α):ByteArray:=l.foldl (λs n=>s++Utf8.encode n) .empty
def Kf (T:Z2) (b:TypeId):Bool:=match T b with
 | some i=>match i.Z3 with
  | .slice e=>match T e with|some a=>(match a.Z3 with|.int .i32=>true|_=>false)&&a.size==1|none=>false
  | _=>false
 | none=>false
def LL (T:Z2) (a:TypeId):Bool:=match T a with|some i=>(match i.Z3 with|.string=>true|_=>false)|none=>false
def N9 (T:Z2) (src dst:TypeId) (σ:Ρ) (x:Ψ):Zl:=if Kf T src=true/\LL T dst=true then match R8 σ x with
 | some (k,l)=>if k=1\/l.isEmpty=true then match MW l with|some r=>.ok (.z (.string (spell r)))|none=>.bad else .bad
 | none=>.bad else .bad
def LK:ψ->Option (Α)
 | []=>some []
 | .z (.int .u8 n)::r=>(LK r).map (n::·)
 | _=>none
def wq (l:Α):ByteArray:=l.foldl (λs n=>s.push (UInt8.ofNat n.toNat)) .empty
def Ke (T:Z2) (b:TypeId):Bool:=match T b with
 | some i=>match i.Z3 with
  | .slice e=>match T e with|some a=>(match a.Z3 with|.int .u8=>true|_=>false)&&a.size==1|none=>false
  | _=>false
 | none=>false
def N8 (T:Z2) (src dst:TypeId) (σ:Ρ) (x:Ψ):Zl:=if Ke T src=true/\LL T dst=true then match R8 σ x with
 | some (k,l)=>if k=1\/l.isEmpty=true then match LK l with|some r=>.ok (.z (.string (wq r)))|none=>.bad else .bad
 | none=>.bad else .bad
def N7 (T:Z2) (src dst:TypeId) (σ:Ρ) (x:Ψ):Zl:=if Ke T src=true then N8 T src dst σ x else N9 T src dst σ x
def HN (T:Z2) (src dst:TypeId) (x:Ψ):Zl:=if LL T src=true/\Kf T dst=true then match x with
 | .z (.string s)=>.ok (.sl false 1 ((Conv.runesFrom s s.size 0 #[]).toList.map .z))
 | _=>.bad else .bad
section
variable {P:Program} {T:Z2} {S:ς} {B:δ} {H:Υ} {σ:Ρ}
theorem wm {a:BinOp} {b:TypeId} {p q:Operand} {vs d:ν} (e:P.eqGuardType P.depth b=false) {G:Υ} {K:Unit->Υ->Prop} {E:Value->Υ->Prop} (c:K () G):Χ P (eqGuard a b p q (.agg vs) (.agg d)) G K E:=by
 cases a<;>first|exact Χ.pure' c|skip
 all_goals
  unfold eqGuard;simp only[Bool.not_true,Xq,if_false];refine Χ.bind' ?_;show Χ P _ G K E;refine Χ.bind' ?_;show Χ P _ G K E;rw[if_pos (by rw[e];rfl)];exact Χ.pure' c
theorem B5 (g:ZL P T) (h:Holds S B σ H) {d:BinOp} {c:TypeId} {p q:Operand} {a b:Ψ} {v w:Value} (i:Θ S B σ a v) (j:Θ S B σ b w) (k:∀r,aeqv T c a b=some r->(d=.eql\/d=.neq)->∀(K:Unit->Υ->Prop),K () H->Χ P (eqGuard d c p q v w) H K (λ_ _=>False))
  (l:∀r,aeqv T c a b=some r->(binOp .eql c v w=(do pure (.bool (<-Op.equal c v w)))/\binOp .neq c v w=(do pure (.bool (!(<-Op.equal c v w)))))) :
  Zv P (do eqGuard d c p q v w;binOp d c v w) S B H σ ((MX T d c a b).YX σ):=by
 unfold MX;split
 .rename_i r e;obtain⟨m,n⟩:=l r e;split
  .intro K f;refine Χ.bind' (k r e (.inl U) _ ?_);rw[m];exact Χ.bind' (Ft g i j e (Χ.pure' (.same h f (.z _))))
  .intro K f;refine Χ.bind' (k r e (.inr U) _ ?_);rw[n];exact Χ.bind' (Ft g i j e (Χ.pure' (.same h f (.z _))))
  .exact .bad
 .exact .bad
theorem wj (l:ZL P T) (m:Holds S B σ H) (j:BinOp) (g:TypeId) (p q:Operand) {a b:Ψ} {v w:Value} (t:Θ S B σ a v) (u:Θ S B σ b w):Zv P (do eqGuard j g p q v w;binOp j g v w) S B H σ ((HR T j g a b).YX σ):=by
 unfold HR;split
 .rename_i x y;have k:=xw (P:=P) m j g p q v w;cases t;cases u;split
  .rename_i r f;rw[f] at k;exact k
  .rename_i N r f;rw[f] at k;exact k
  .rename_i A;have C:∀r,aeqv T g (.z v) (.z w)=some r->(∃c d,v=.bool c/\w=.bool d)\/¬(j=.eql\/j=.neq):=λr f=>by
    unfold aeqv at f;split at f<;>try cases f
    simp only at f;split at f<;>try cases f
    unfold Uc at f;split at f
    .split at f
     .rename_i e;subst e;refine .inr λn=>?_;rcases n with rfl|rfl<;>simp[O5] at A
     .cases f
    .refine .inr λn=>?_;rcases n with rfl|rfl<;>simp[O5] at A
    .exact .inl ⟨_,_,U,U⟩
    .cases f
   by_cases o:j=.eql\/j=.neq
   .by_cases f:∃r,aeqv T g (.z v) (.z w)=some r
    .obtain⟨r,f⟩:=f;rcases C r f with⟨c,d,rfl,rfl⟩|h
     .exact B5 l m (.z _) (.z _) (λ_ _ _ K s=>by unfold eqGuard;split<;>exact Χ.pure' s) (λ_ _=>⟨U,U⟩)
     .exact absurd o h
    .have:aeqv T g (.z v) (.z w)=none:=by
      cases h:aeqv T g (.z v) (.z w) with
      | none=>rfl
      | some r=>exact absurd ⟨r,h⟩ f
     unfold MX;rw[this];exact .bad
   .unfold MX;split
    .split
     .exact absurd (.inl U) o
     .exact absurd (.inr U) o
     .exact .bad
    .exact .bad
 .rename_i x y;cases t with
  | Z6 vs D E=>cases u with
   | Z6 F I J=>
    refine B5 l m (.Z6 vs D E) (.Z6 F I J) (λr f _ K s=>?_) (λ_ _=>⟨U,U⟩);have L:P.eqGuardType P.depth g=false:=by
     unfold aeqv at f;split at f<;>try cases f
     rename_i i hi;simp only at f;split at f<;>try cases f
     rename_i O M;have:=(l g i hi).1.2;rw[M] at this;exact this.1
    exact wm L s
 .exact .bad
theorem wi (c:ZL P T) (k:Holds S B σ H) (f:TypeId) {x l:Ψ} {v w:Value} (m:Θ S B σ x v) (hi:Θ S B σ l w):Zv P (Instr.index f v w) S B H σ ((HQ T f x l).YX σ):=by
 unfold HQ;cases o:T f with
 | none=>exact .bad
 | some i=>
  simp only;split
  .rename_i s kk n g;cases m;cases hi;refine Zv.ZD (r:=(Zl.ok (.z (.int .u8 (s.data.toList.getD n.toNat 0).toNat))).YX σ) λh K a=>?_;unfold Instr.index;refine Χ.bind' (Χ.pure' ?_);refine Χ.bind' (c.Z3 o ?_);rw[g];have b:n.toNat<s.data.size:=by have:s.size=s.data.size:=rfl;omega
   have t:(if 0<=n then s[n.toNat]? else none)=some s.data[n.toNat]:=by
    rw[if_pos h.1];show s[n.toNat]?=_;rw[getElem?_pos s n.toNat I];rfl
   simp only[t];have j:s.data.toList.getD n.toNat 0=s.data[n.toNat]:=by rw[V7,Xr,YS b];rfl
   rw[j] at a;exact Χ.pure' (.same k a (.z _))
  .rename_i len e d kk n g;cases hi;split
   .rename_i C p;split
    .rename_i u;obtain⟨c1,c2,D⟩:=u;refine Zv.ZD (r:=(Zl.ok (d.getD n.toNat .Zx)).YX σ) λh K a=>?_;cases m with
     | Z6 vs y A=>
      unfold Instr.index;refine Χ.bind' (Χ.pure' ?_);refine Χ.bind' (c.Z3 o ?_);rw[g];simp only[h,and_self,if_true];refine Χ.bind' (c.size p ?_);rw[c2,SI];unfold part;refine Χ.bind' (c.agg p ?_);rw[c1];have b:n.toNat<d.length:=I;have hv:n.toNat<vs.size:=by rw[<-y];exact b
      simp only[Xq,if_false,YS hv];have j:d.getD n.toNat .Zx=d[n.toNat]:=by simp[b]
      rw[j] at a;exact Χ.pure' (.same k a (A _ _ _ (Z4 b) (YS hv)))
    .exact .bad
   .exact .bad
  .exact .bad
theorem wh (d:Holds S B σ H) {ρ:Operand->Value} {o:Oper} {x:Operand} (e:o.op=.nilCheck x) {a:Ψ} (c:Θ S B σ a (ρ x)):Does P (execOp ρ o) S B H σ ((HP a).YX σ):=by
 unfold HP;split
 .unfold execOp;rw[e];simp only;generalize ρ x=v at c;cases c with
  | Ν b o w f g=>exact Does.val d (.Ν b o w f g)
 .unfold execOp;rw[e];simp only;generalize ρ x=v at c;cases c with
  | fn vs h f g i j=>exact Does.val d (.fn vs h f g i j)
 .unfold execOp;rw[e];simp only;generalize ρ x=v at c;cases c;exact Does.val d (.z _)
 .exact .bad
theorem we (e:Holds S B σ H) {ρ:Operand->Value} {o:Oper} {x:Operand} (f:o.op=.nilCheck x) {a:Ψ} (d:Θ S B σ a (ρ x)):Does P (execOp ρ o) S B H σ (R7 σ a):=by
 unfold R7;split
 .split
  .rename_i t k l g;split
   .rename_i i;unfold execOp;rw[f];simp only;generalize ρ x=v at d;cases d with
    | π b c h=>exact Does.val e (.π b c h)
    | VI v b c=>rw[g] at b;cases b;simp only[Row.Xx] at c;omega
   .exact .bad
  .exact .bad
 .exact .bad
theorem wc (p:ZL P T) (s:Holds S B σ H) (d:TypeId) {x:Ψ} {v:Value} (t:Θ S B σ x v):Zv P (Instr.arrayAt d v) S B H σ ((HO T d x).YX σ):=by
 unfold HO;cases u:T d with
 | none=>exact .bad
 | some i=>
  simp only;split
  .rename_i n e ex k l y;split
   .rename_i A;obtain⟨c1,c2,h⟩:=A;subst c2;refine Zv.ZD (r:=(Zl.ok (.Ν (l.take n))).YX σ) λC K D=>?_;obtain⟨base,cap,rfl,_,_,E⟩:=TG t;obtain⟨b,o,w,rfl,L,F,J⟩:=E (λe=>by subst e;simp at C;omega);unfold Instr.arrayAt;refine Χ.bind' (p.Z3 u ?_);rw[y];simp only;rw[if_neg I];rw[XJ] at h;have el:∀(j:Nat) (e:Ψ),(l.take n)[j]?=some e->l[j]?=some e/\e.cells=[e]:=λj e c=>by
     have m:=h e (Nw (ZH c));simp only[Wm] at m;rw[RJ] at c;split at c
     .exact⟨c,Ψ.FA m.2⟩
     .cases c
    refine Χ.pure' (.same s D (.Ν b o (λj=>w j 0) (λj a c=>?_) (λj a c=>?_)))
    .obtain⟨f,g⟩:=el j a c;have:=F j a f 0 a (by rw[g];rfl);simpa using this
    .obtain⟨f,g⟩:=el j a c;exact J j a f 0 a (by rw[g];rfl)
   .exact .bad
  .exact .bad
theorem B4 {b:TypeId} (h:Kf T b=true):∃i e a,T b=some i/\i.Z3=.slice e/\T e=some a/\a.Z3=.int .i32/\a.size=1:=by
 unfold Kf at h;split at h
 .rename_i i hi;split at h
  .rename_i e c;split at h
   .rename_i a d;simp only[Wm,beq_iff_eq] at h;refine⟨i,e,a,hi,c,d,?_,h.2⟩;have:=h.1;split at this
    .assumption
    .cases this
   .cases h
  .cases h
 .cases h
theorem wa {b:TypeId} (h:Ke T b=true):∃i e a,T b=some i/\i.Z3=.slice e/\T e=some a/\a.Z3=.int .u8/\a.size=1:=by
 unfold Ke at h;split at h
 .rename_i i hi;split at h
  .rename_i e c;split at h
   .rename_i a d;simp only[Wm,beq_iff_eq] at h;refine⟨i,e,a,hi,c,d,?_,h.2⟩;have:=h.1;split at this
    .assumption
    .cases this
   .cases h
  .cases h
 .cases h
theorem Fl {a:TypeId} (h:LL T a=true):∃i,T a=some i/\i.Z3=.string:=by
 unfold LL at h;split at h
 .rename_i i hi;refine⟨i,hi,?_⟩;split at h
  .assumption
  .cases h
 .cases h
theorem v' (k:ZL P T) (u:Holds S B σ H) (src dst:TypeId) {x:Ψ} {v:Value} (d:Θ S B σ x v):Zv P (convert src dst v) S B H σ ((HN T src dst x).YX σ):=by
 unfold HN;split
 .rename_i o;obtain⟨i,hi,w⟩:=Fl o.1;obtain⟨j,e,R,f,A,C,D,V⟩:=B4 o.2;split
  .rename_i s;cases d;intro K p;unfold convert;refine Χ.bind' (k.Z3 hi (Χ.bind' (k.Z3 f ?_)));rw[w,A];simp only;refine Χ.bind' (k.Z3 C ?_);rw[D];simp only;unfold Conv.stringToRunes;refine Χ.bind' ?_;unfold choose;simp only[Χ];have E:(Question.appendCap (Conv.runesFrom s s.size 0 #[]).size 0 e).forced=false:=rfl;rw[E];simp only[Xq,if_false];intro q;generalize F:Conv.runesFrom s s.size 0 #[]=c at p ⊢;have I:c.size<=(Question.appendCap c.size 0 e).cut q:=by simp[Question.cut]
   refine Χ.bind' (Χ.bind' ?_);have J:∀v∈c,One v:=by
    have L:∀(l i:Nat) (g:ν),(∀v∈g,One v)->∀v∈Conv.runesFrom s l i g,One v:=by
     intro l
     induction l with
     | zero=>intro i g h;exact h
     | succ n M=>
      intro i g h;unfold Conv.runesFrom;split
      .refine M _ _ λv hv=>?_;rcases Nt.1 hv with hv|rfl
       .exact h v hv
       .trivial
      .exact h
    rw[<-F];exact L _ _ _ (λv hv=>by simp at hv)
   have N:Xo S B σ (c++Array.replicate ((Question.appendCap c.size 0 e).cut q-c.size) (.int .i32 0)) 1 (c.toList.map .z):=by
    refine⟨Ω,λj a f=>?_⟩;rw[Ys,Xr] at f;cases d:c[j]? with
    | none=>rw[d] at f;cases f
    | some y=>
     rw[d] at f;cases f;refine⟨U,λz b m=>?_⟩
     match z with
     | 0=>
      simp[Ψ.cells] at m;subst m;refine⟨y,?_,.z y,J y (Array.mem_of_getElem? d)⟩;have:=(Tr.1 d).1;rw[Me (by simpa using this)];simpa using d
     | z+1=>simp[Ψ.cells] at m
   refine LR u _ e λr O Q t=>Χ.pure' (Χ.pure' ⟨_,_,_,_,p,Q,O,t,?_⟩);have:=Ig (cap:=(Question.appendCap c.size 0 e).cut q) false t N (by simpa using I) Ω;simpa using this
  .exact .bad
 .exact .bad
theorem v9:∀(l:ψ) (r:Α),MW l=some r->r.length=l.length/\∀(i:Nat) (n:Int),r[i]?=some n->l[i]?=some (.z (.int .i32 n)):=by
 intro l
 induction l with
 | nil=>intro r h;cases h;exact⟨rfl,λi n h=>by simp at h⟩
 | cons a l e=>
  intro r h;unfold MW at h;split at h
  .rename_i b;cases b
  .rename_i n j b;cases b;cases c:MW l with
   | none=>rw[c] at h;cases h
   | some r'=>
    rw[c] at h;cases h;obtain⟨f,g⟩:=e r' c;refine⟨by simp[f],λi m d=>?_⟩;cases i with
    | zero=>simp at d;subst d;rfl
    | succ i=>exact g i m (by simpa using d)
  .cases h
theorem v8 (m:ZL P T) (p:Holds S B σ H) (src dst:TypeId) {x:Ψ} {v:Value} (M:Θ S B σ x v):Zv P (convert src dst v) S B H σ ((N9 T src dst σ x).YX σ):=by
 unfold N9;split
 .rename_i E;obtain⟨i,e,ai,hi,N,O,Q,aj⟩:=B4 E.1;obtain⟨j,R,V⟩:=Fl E.2;split
  .rename_i k l W;split
   .rename_i X;split
    .rename_i r Y;obtain⟨base,cap,w,rfl,_,t,Z⟩:=Kk p M (k:=1) W I (X.symm);obtain⟨F,aa⟩:=v9 l r Y;intro K J;unfold convert;refine Χ.bind' (m.Z3 hi (Χ.bind' (m.Z3 R ?_)));rw[N,V];have ab:∀i,i<l.length->w i=.int .i32 (r.getD i 0):=λi y=>by
      have L:r[i]?=some r[i]:=Z4 I
      have:=(Z i _ (aa i _ L)).2 0 _ U;rw[SI,Nat.add_zero] at this;rw[V7,L];generalize w i=u at this;cases this;rfl
     have ad:Χ P (Conv.runesToString (.slice base l.length cap)) H (XS S B H σ K) (λ_ _=>False):=by
      unfold Conv.runesToString;rw[SI] at t;cases base with
      | none=>
       simp only;rcases t with g|⟨b,o,A,_⟩
       .have:r=[]:=YZ.1 (by rw[F,g]);subst this;exact Χ.pure' (.same p J (.z _))
       .cases A
      | some a=>
       simp only;have ae:∀(d:Α) (f:ByteArray),Χ P (forIn (d.map λn=>Value.int .i32 n) f λ(c:Value) (s:ByteArray)=>do
         let .int .i32 n:=c|stuck "runesToString: rune expected"
         pure (ForInStep.yield (s++Utf8.encode n))) H (λs H'=>s=d.foldl (λs n=>s++Utf8.encode n) f/\H'=H) (λ_ _=>False):=by
        intro d
        induction d with
        | nil=>intro f;exact .forIn_nil ⟨rfl,rfl⟩
        | cons n d af=>
         intro f;rw[V6];refine .forIn_cons ?_;exact Χ.pure' (af (f++Utf8.encode n))
       have ag:Χ P (loadCells a l.length) H (λvs H'=>vs=(r.map λn=>Value.int .i32 n).toArray/\H'=H) (λ_ _=>False):=by
        rcases t with g|⟨b,o,A,ah⟩
        .rw[g];have:r=[]:=YZ.1 (by rw[F,g]);subst this;exact Χ.pure' ⟨U,U⟩
        .cases A;refine Χ.loadCells w U ah ⟨?_,U⟩;congr 1;apply U';intro i;rw[Ys,Ys];by_cases y:i<l.length
         .rw[IX y,Z4 (show i<r.length by omega)];simp only[Option.map_some];rw[ab i y,V7,Z4 (show i<r.length by omega)];rfl
         .rw[W4 (by simp;omega),W4 I];rfl
       refine Χ.bind' (Χ.mono (λvs H' ⟨C,D⟩=>?_) (λ_ _ h=>h) _ ag);subst C;subst D;rw[<-Array.forIn_toList];refine Χ.bind' (Χ.mono (λs H' ⟨C,D⟩=>?_) (λ_ _ h=>h) _ (ae r .empty));subst C;subst D;exact Χ.pure' (.same p J (.z _))
     have:Χ P (do
      match <-underlying e with
      | .int .u8=>Conv.bytesToString (.slice base l.length cap)
      | .int .i32=>Conv.runesToString (.slice base l.length cap)
      | _=>stuck "Convert: a slice of what to string?") H (XS S B H σ K) (λ_ _=>False):=by
      refine Χ.bind' (m.Z3 O ?_);rw[Q];exact ad
     cases base<;>exact this
    .exact .bad
   .exact .bad
  .exact .bad
 .exact .bad
theorem v7:∀(l:ψ) (r:Α),LK l=some r->r.length=l.length/\∀(i:Nat) (n:Int),r[i]?=some n->l[i]?=some (.z (.int .u8 n)):=by
 intro l
 induction l with
 | nil=>intro r h;cases h;exact⟨rfl,λi n h=>by simp at h⟩
 | cons a l e=>
  intro r h;unfold LK at h;split at h
  .rename_i b;cases b
  .rename_i n j b;cases b;cases c:LK l with
   | none=>rw[c] at h;cases h
   | some r'=>
    rw[c] at h;cases h;obtain⟨f,g⟩:=e r' c;refine⟨by simp[f],λi m d=>?_⟩;cases i with
    | zero=>simp at d;subst d;rfl
    | succ i=>exact g i m (by simpa using d)
  .cases h
theorem v5 (m:ZL P T) (p:Holds S B σ H) (src dst:TypeId) {x:Ψ} {v:Value} (M:Θ S B σ x v):Zv P (convert src dst v) S B H σ ((N8 T src dst σ x).YX σ):=by
 unfold N8;split
 .rename_i E;obtain⟨i,e,ai,hi,N,O,Q,aj⟩:=wa E.1;obtain⟨j,R,V⟩:=Fl E.2;split
  .rename_i k l W;split
   .rename_i X;split
    .rename_i r Y;obtain⟨base,cap,w,rfl,_,t,Z⟩:=Kk p M (k:=1) W I (X.symm);obtain⟨F,aa⟩:=v7 l r Y;intro K J;unfold convert;refine Χ.bind' (m.Z3 hi (Χ.bind' (m.Z3 R ?_)));rw[N,V];have ab:∀i,i<l.length->w i=.int .u8 (r.getD i 0):=λi y=>by
      have L:r[i]?=some r[i]:=Z4 I
      have:=(Z i _ (aa i _ L)).2 0 _ U;rw[SI,Nat.add_zero] at this;rw[V7,L];generalize w i=u at this;cases this;rfl
     have ad:Χ P (Conv.bytesToString (.slice base l.length cap)) H (XS S B H σ K) (λ_ _=>False):=by
      unfold Conv.bytesToString;rw[SI] at t;cases base with
      | none=>
       simp only;rcases t with g|⟨b,o,A,_⟩
       .have:r=[]:=YZ.1 (by rw[F,g]);subst this;exact Χ.pure' (.same p J (.z _))
       .cases A
      | some a=>
       simp only;have ae:∀(d:Α) (f:ByteArray),Χ P (forIn (d.map λn=>Value.int .u8 n) f λ(c:Value) (s:ByteArray)=>do
         let .int .u8 n:=c|stuck "bytesToString: byte expected"
         pure (ForInStep.yield (s.push (UInt8.ofNat n.toNat)))) H (λs H'=>s=d.foldl (λs n=>s.push (UInt8.ofNat n.toNat)) f/\H'=H) (λ_ _=>False):=by
        intro d
        induction d with
        | nil=>intro f;exact .forIn_nil ⟨rfl,rfl⟩
        | cons n d af=>
         intro f;rw[V6];refine .forIn_cons ?_;exact Χ.pure' (af (f.push (UInt8.ofNat n.toNat)))
       have ag:Χ P (loadCells a l.length) H (λvs H'=>vs=(r.map λn=>Value.int .u8 n).toArray/\H'=H) (λ_ _=>False):=by
        rcases t with g|⟨b,o,A,ah⟩
        .rw[g];have:r=[]:=YZ.1 (by rw[F,g]);subst this;exact Χ.pure' ⟨U,U⟩
        .cases A;refine Χ.loadCells w U ah ⟨?_,U⟩;congr 1;apply U';intro i;rw[Ys,Ys];by_cases y:i<l.length
         .rw[IX y,Z4 (show i<r.length by omega)];simp only[Option.map_some];rw[ab i y,V7,Z4 (show i<r.length by omega)];rfl
         .rw[W4 (by simp;omega),W4 I];rfl
       refine Χ.bind' (Χ.mono (λvs H' ⟨C,D⟩=>?_) (λ_ _ h=>h) _ ag);subst C;subst D;rw[<-Array.forIn_toList];refine Χ.bind' (Χ.mono (λs H' ⟨C,D⟩=>?_) (λ_ _ h=>h) _ (ae r .empty));subst C;subst D;exact Χ.pure' (.same p J (.z _))
     have:Χ P (do
      match <-underlying e with
      | .int .u8=>Conv.bytesToString (.slice base l.length cap)
      | .int .i32=>Conv.runesToString (.slice base l.length cap)
      | _=>stuck "Convert: a slice of what to string?") H (XS S B H σ K) (λ_ _=>False):=by
      refine Χ.bind' (m.Z3 O ?_);rw[Q];exact ad
     cases base<;>exact this
    .exact .bad
   .exact .bad
  .exact .bad
 .exact .bad
theorem v3 (a:ZL P T) (b:Holds S B σ H) (src dst:TypeId) {x:Ψ} {v:Value} (c:Θ S B σ x v):Zv P (convert src dst v) S B H σ ((N7 T src dst σ x).YX σ):=by
 unfold N7;split
 .exact v5 a b src dst c
 .exact v8 a b src dst c
end
def HM (σ:Ρ):Zi:=.all 2 λj=>.ok (.z (.bool (j==1))) σ
def HL (T:Z2) (b:TypeId) (σ:Ρ) (a:Ψ):Zi:=match T b with
 | some i=>match i.Z3 with
  | .slice _=>match a with
   | .ms id n i len=>match σ[id]? with
    | some (.cells _ _ l)=>if l.length=n/\i+len<=n then(if len=0 then HM σ else .ok (.z (.bool false)) σ) else .bad
    | _=>.bad
   | .sl _ _ l=>if l.isEmpty then HM σ else .ok (.z (.bool false)) σ
   | _=>.bad
  | _=>.bad
 | none=>.bad
section
variable {P:Program} {T:Z2} {S:ς} {B:δ} {H:Υ} {σ:Ρ}
theorem Kd (g:ZL P T) (d:Holds S B σ H) {a:TypeId} {i:V2} (hi:T a=some i) {e:TypeId} (h:i.Z3=.slice e) (p q:Operand) (base:Option Addr) (len cap:Nat) {f:Zi}
  (j:∀K,f.holds K->K (.z (.bool base.isNone)) σ):Zv P (do eqGuard .eql a p q (.slice base len cap) (.slice none 0 0);binOp .eql a (.slice base len cap) (.slice none 0 0)) S B H σ f:=by
 intro K c;have c:=j K c;refine Χ.bind' ?_;unfold eqGuard;refine Χ.pure' ?_;have k:binOp .eql a (.slice base len cap) (.slice none 0 0)=(do pure (Value.bool (<-Op.equal a (.slice base len cap) (.slice none 0 0)))):=rfl;rw[k];refine Χ.bind' ?_;unfold Op.equal;unfold Op.equalIn;refine Χ.bind' (g.Z3 hi ?_);rw[h];cases base with
 | none=>exact Χ.pure' (Χ.pure' (.same d c (.z _)))
 | some b=>exact Χ.pure' (Χ.pure' (.same d c (.z _)))
theorem Fj {K:Ψ->Ρ->Prop} (h:(HM σ).holds K) (b:Bool):K (.z (.bool b)) σ:=by
 cases b
 .exact h 0 Z7
 .exact h 1 Z7
theorem vZ (d:ZL P T) (f:Holds S B σ H) (m:TypeId) (p q:Operand) {a:Ψ} {v:Value} (s:Θ S B σ a v):Zv P (do eqGuard .eql m p q v (.slice none 0 0);binOp .eql m v (.slice none 0 0)) S B H σ (HL T m σ a):=by
 unfold HL;split
 .rename_i i hi;split
  .rename_i e g;split
   .rename_i id n j len;split
    .rename_i t k l x;split
     .rename_i y;cases s with
      | @ms _ _ _ _ _ _ _ bo base cap h r C D E u=>
       split
       .exact Kd d f hi g p q base len cap λK c=>Fj c _
       .rename_i F;refine Kd d f hi g p q base len cap λK c=>?_;rcases u with u|⟨b,N,_,A,_⟩
        .omega
        .rw[A];exact c
      | Wu v h r=>
       rw[x] at h;cases h;exact absurd y.1 (Nat.ne_of_gt r)
     .exact .bad
    .exact .bad
   .rename_i l;cases s with
    | WJ base cap h=>exact Kd d f hi g p q base 0 cap λK c=>Fj c _
    | sl b o cap w h r=>
     split
     .exact Kd d f hi g p q _ _ cap λK c=>Fj c _
     .exact Kd d f hi g p q _ _ cap λK c=>c
   .exact .bad
  .exact .bad
 .exact .bad
end
def HK (T:Z2) (a:TypeId) (σ:Ρ) (x:Ψ):Zi:=match x with
 | .z (.string s)=>match T a with
  | some i=>match i.Z3 with
   | .string=>.ok (.it σ.length) (σ++[.str s 0])
   | _=>.bad
  | none=>.bad
 | _=>HW T a σ x
def HJ (σ:Ρ) (a:Ψ):Zi:=match a with
 | .it id=>match σ[id]? with
  | some (.str s pos)=>if pos<s.size then .ok (.ε [.z (.bool true),.z (.int .i64 pos),.z (.int .i32 (Utf8.decode s pos).1)]) (σ.set id (.str s (pos+(Utf8.decode s pos).2))) else .ok (.ε [.z (.bool false)]) σ
  | _=>.bad
 | _=>.bad
section
variable {P:Program} {T:Z2} {S:ς} {B:δ} {H:Υ} {σ:Ρ}
theorem vY (b:ZL P T) (a:Holds S B σ H) {c:TypeId} {x:Ψ} {u:Value} (d:Θ S B σ x u):Zv P (Instr.range c u) S B H σ (HK T c σ x):=by
 unfold HK;split
 .rename_i s;cases d;split
  .rename_i i hi;split
   .rename_i g;intro K h;unfold Instr.range;refine Χ.bind' (b.Z3 hi ?_);rw[g];refine Χ.bind' (Χ.pure' ?_);refine Χ.bind' ?_;refine λr j=>?_;obtain⟨k,l,m⟩:=a.push (r:=.str s 0) (bo:=some (r,0)) (H':=H.Zq r (.stringIter s 0)) (λf t e=>by cases e;exact j) (λf n=>by
     have p:f≠r:=λe=>by subst e;exact n _ U
     exact⟨λo=>rfl,U,by simp[Υ.Zq,p]⟩) λ_=>⟨r,0,U,by simp[Υ.Zq]⟩
    exact Χ.pure' ⟨_,_,_,_,h,l,k,m,.SC (M4 σ _) (M3 a.len _)⟩
   .exact .bad
  .exact .bad
 .exact wC b a d
theorem vX (g:Holds S B σ H) {it:Ψ} {u:Value} (A:TypeId) (hi:Θ S B σ it u):Zv P (Instr.next u true A) S B H σ (HJ σ it):=by
 unfold HJ;split
 .rename_i id;split
  .rename_i s pos f;cases hi with
   | SC d p=>
    rename_i L M b N;rw[f] at d;cases d;obtain⟨n,r,C,t⟩:=g.row id _ _ f p;cases C;intro K k;unfold Instr.next;refine Χ.bind' ?_;refine⟨_,t,U,?_⟩;refine Χ.pure' ?_;simp only;by_cases m:pos<s.size
    .rw[if_pos m] at k;rw[if_pos m];obtain⟨D,E,F⟩:=g.Sc (H':=H.Zq b (.stringIter s (pos+(Utf8.decode s pos).2))) (r':=.str s (pos+(Utf8.decode s pos).2)) (bo':=some (b,N)) f trivial p (.inl ⟨_,U,U⟩) (λn r e=>.inl ⟨r,e⟩) (λn h _=>by
      have I:n≠b:=λe=>by subst e;exact h N U
      exact⟨λo=>rfl,U,by simp[Υ.Zq,I]⟩) Υ.Ks (λj l c w=>by
      obtain⟨bo,J⟩:=Ue g w;obtain⟨_,_,_,_,_,_,_,_,_,⟨O,x⟩,_⟩:=g.row j _ bo w J;rw[f] at x;cases x) (λQ=>⟨b,N,U,by simp[Υ.Zq]⟩)
     refine Χ.bind' ?_;refine⟨⟨_,t⟩,U,U,?_⟩;refine Χ.pure' ?_;exact Χ.pure' ⟨S,_,_,_,k,E,D,F,B6 (.z _) (.z _) (.z _)⟩
    .rw[if_neg m] at k;rw[if_neg m];exact Χ.pure' (.same g k (.ε _ U λi a v h y=>by
      match i with
      | 0=>simp at h y;subst h;subst y;exact .z _
      | i+1=>simp at h))
   | it d _=>rw[f] at d;cases d
   | TM v d=>rw[f] at d;cases d
  .exact .bad
 .exact .bad
end
def PX (σ:Ρ) (id n:Nat):Bool:=match σ[id]? with|some (.cells _ _ l)=>l.length==n|_=>false
def Kc (a:BinOp) (v:Bool) (σ:Ρ):Zi:=match a with|.eql=>.ok (.z (.bool v)) σ|.neq=>.ok (.z (.bool !v)) σ|_=>.bad
def HI (T:Z2) (c:BinOp) (d:TypeId) (σ:Ρ) (a b:Ψ):Zi:=match T d with
 | some i=>match i.Z3 with
  | .pointer e=>match T e with
   | some f=>if f.size=0 then .bad else match a with
    | .z (.pointer none)=>match b with
     | .z (.pointer none)=>Kc c true σ
     | _=>.bad
    | .π id n i j=>if PX σ id n=true then match b with
     | .z (.pointer none)=>Kc c false σ
     | .π g h k l=>if id=g/\n=h/\i=k/\j=l then Kc c true σ else .bad
     | _=>.bad
     else .bad
    | _=>.bad
   | none=>.bad
  | _=>.bad
 | none=>.bad
def MV (T:Z2) (t:TypeId):Bool:=match T t with|some i=>(match i.Z3 with|.unsafePointer=>true|_=>false)|none=>false
def LJ (T:Z2) (t:TypeId):Option (TypeId×Nat):=match T t with
 | some i=>match i.Z3 with
  | .pointer e=>match T e with|some a=>some (e,a.size)|none=>none
  | _=>none
 | none=>none
def HH (T:Z2) (src dst:TypeId) (σ:Ρ) (x:Ψ):Zi:=match x with
 | .π id n i j=>match σ[id]? with
  | some (.cells t k l)=>if l.length=n/\i<n/\j<k then
    if MV T dst=true then(match LJ T src with|some (_,s)=>if s=0 then .bad else .ok (.π id n i j) σ|none=>.bad)
    else if MV T src=true then(match LJ T dst with|some (u,s)=>if s=k/\t=u/\j=0 then .ok (.π id n i j) σ else .bad|none=>.bad)
    else .bad
   else .bad
  | _=>.bad
 | _=>.bad
section
variable {P:Program} {T:Z2} {S:ς} {B:δ} {H:Υ} {σ:Ρ}
theorem B3 {id n:Nat} (h:PX σ id n=true):∃t k l,σ[id]?=some (.cells t k l)/\l.length=n:=by
 unfold PX at h;split at h
 .rename_i t k l a;exact⟨t,k,l,a,by simpa using h⟩
 .cases h
theorem HG {id n i j:Nat} {v:Value} (e:Θ S B σ (.π id n i j) v) (h:PX σ id n=true):∃t k l b N,σ[id]?=some (.cells t k l)/\l.length=n/\B[id]?=some (some (b,N))/\v=.pointer (some ⟨b,i*k+j,none⟩):=by
 obtain⟨t,k,l,c,f⟩:=B3 h;cases e with
 | π a d g=>rw[c] at a;cases a;exact⟨_,_,_,_,_,c,f,g,rfl⟩
 | VI v a d=>rw[c] at a;cases a;simp only[Row.Xx] at d;omega
theorem vW {c:BinOp} {d:TypeId} {p q:Operand} {a b:Option Addr} {G:Υ} {K:Unit->Υ->Prop} {E:Value->Υ->Prop} (e:K () G):Χ P (eqGuard c d p q (.pointer a) (.pointer b)) G K E:=by
 cases c<;>exact Χ.pure' e
theorem Fi {d:BinOp} {c:TypeId} {p q:Operand} {a b:Option Addr} {v:Bool} (g:Holds S B σ H) (h:∀(K:Bool->Υ->Prop),K v H->Χ P (Op.equal c (.pointer a) (.pointer b)) H K (λ_ _=>False)) :
  Zv P (do eqGuard d c p q (.pointer a) (.pointer b);binOp d c (.pointer a) (.pointer b)) S B H σ (Kc d v σ):=by
 intro K f;refine Χ.bind' (vW ?_);cases d<;>first|exact f.elim|skip
 .have e:binOp .eql c (.pointer a) (.pointer b)=(do pure (Value.bool (<-Op.equal c (.pointer a) (.pointer b)))):=rfl;rw[e];exact Χ.bind' (h _ (Χ.pure' (.same g f (.z _))))
 .have e:binOp .neq c (.pointer a) (.pointer b)=(do pure (Value.bool (!(<-Op.equal c (.pointer a) (.pointer b))))):=rfl;rw[e];exact Χ.bind' (h _ (Χ.pure' (.same g f (.z _))))
theorem vV (d:ZL P T) (f:Holds S B σ H) (g:BinOp) (h:TypeId) (p q:Operand) {a b:Ψ} {v w:Value} (o:Θ S B σ a v) (j:Θ S B σ b w):Zv P (do eqGuard g h p q v w;binOp g h v w) S B H σ (HI T g h σ a b):=by
 unfold HI;split
 .rename_i i hi;split
  .rename_i e m;split
   .rename_i C s;split
    .exact .bad
    .rename_i u;split
     .cases o;split
      .cases j;refine Fi f λK c=>?_;unfold Op.equal Op.equalIn;refine Χ.bind' (d.Z3 hi ?_);rw[m];exact Χ.pure' c
      .exact .bad
     .rename_i id n D E;split
      .rename_i r;obtain⟨t,k,l,F,N,x,I,y,rfl⟩:=HG o r;split
       .cases j;refine Fi f λK c=>?_;unfold Op.equal Op.equalIn;refine Χ.bind' (d.Z3 hi ?_);rw[m];exact Χ.pure' c
       .rename_i J L M O;split
        .rename_i A;obtain⟨rfl,rfl,rfl,rfl⟩:=A;obtain⟨t',Q,R,U,V,f1,f2,f3,rfl⟩:=HG j r;rw[x] at f1;cases f1;rw[y] at f3;cases f3;refine Fi f λK c=>?_;unfold Op.equal Op.equalIn;refine Χ.bind' (d.Z3 hi ?_);rw[m];refine Χ.bind' (d.size s ?_);rw[if_pos u];unfold sameAddr;simp only[beq_self_eq_true,if_true];exact Χ.pure' c
        .exact .bad
       .exact .bad
      .exact .bad
     .exact .bad
   .exact .bad
  .exact .bad
 .exact .bad
theorem B2 {t:TypeId} (h:MV T t=true):∃i,T t=some i/\i.Z3=.unsafePointer:=by
 unfold MV at h;split at h
 .rename_i i hi;split at h
  .rename_i a;exact⟨i,hi,a⟩
  .cases h
 .cases h
theorem Fh {t e:TypeId} {s:Nat} (h:LJ T t=some (e,s)):∃i a,T t=some i/\i.Z3=.pointer e/\T e=some a/\a.size=s:=by
 unfold LJ at h;split at h
 .rename_i i hi;split at h
  .rename_i d b;split at h
   .rename_i a c;cases h;exact⟨i,a,hi,b,c,U⟩
   .cases h
  .cases h
 .cases h
theorem vU (a:Holds S B σ H) {id b N k:Nat} {t:TypeId} {l:ψ} (c:σ[id]?=some (.cells t k l)) (d:B[id]?=some (some (b,N))):H.row b=some (t,N)/\l.length*k<=N:=by
 obtain⟨e,f,_⟩:=a.row id _ _ c d;exact⟨e,f⟩
theorem B1 {b N:Nat} {t:TypeId} {K:Option (Addr×TypeId)->Υ->Prop} {E:Value->Υ->Prop} (a:H.row b=some (t,N)) (c:K none H):Χ P (viewAt b) H K E:=by
 unfold viewAt;refine Χ.bind' ?_;exact⟨t,N,a,Χ.pure' (Χ.pure' c)⟩
theorem B0 {a:Addr} {N:Nat} {t:TypeId} {K:Addr->Υ->Prop} {E:Value->Υ->Prop} (b:H.row a.block=some (t,N)) (c:K a H):Χ P (Conv.seenAt a) H K E:=by
 unfold Conv.seenAt;refine Χ.bind' (B1 b ?_);exact Χ.pure' c
theorem BZ (a:ZL P T) {t:TypeId} {i:V2} (h:T t=some i):P.cellsOf t=i.size:=by
 obtain⟨_,f,b,c,_⟩:=a t i h;unfold Program.cellsOf;rw[b];exact c
theorem BY (P:Program) {t:TypeId} {s c i n:Nat} (a:P.cellsOf t=s) (b:0<s) (e:i+n<=c):liesAt P P.depth t c (i*s) t n=true:=by
 have hd:P.depth=(2*(P.types.size+Made.depth)+1)+1:=rfl
 have f:∀d,sameLayout P (d+1) t t=true:=λd=>by unfold sameLayout;simp
 rw[hd];unfold liesAt;rw[hd];have:rowAt P (sameLayout P (2*(P.types.size+Made.depth)+1+1) · t) (2*(P.types.size+Made.depth)+1+1) t c (i*s) n=true:=by
  unfold rowAt;simp only[a];rw[if_neg I,Nat.mul_div_cancel _ b,Nat.mul_mod_left];simp[e,f]
 rw[this];rfl
theorem vT (a:ZL P T) (o:Holds S B σ H) (src dst:TypeId) {x:Ψ} {v:Value} (O:Θ S B σ x v):Zv P (convert src dst v) S B H σ (HH T src dst σ x):=by
 unfold HH;split
 .rename_i id n i j;split
  .rename_i t k l d;split
   .rename_i Q;obtain⟨p,hi,aa⟩:=Q;have R:PX σ id n=true:=by unfold PX;rw[d];simpa using p
    obtain⟨t',ab,ad,b,N,D,ae,r,rfl⟩:=HG O R;rw[d] at D;cases D;obtain⟨h,U⟩:=vU o d r;have af:i*k+j<N:=by
     have:(i+1)*k<=l.length*k:=Vo _ I;rw[Nat.succ_mul] at this;omega
    split
    .rename_i hd;obtain⟨V,E,F⟩:=B2 hd;split
     .rename_i e s w;split
      .exact .bad
      .rename_i y;obtain⟨is,W,f,g,m,A⟩:=Fh w;intro K C;unfold convert;refine Χ.bind' (a.Z3 f (Χ.bind' (a.Z3 E ?_)));rw[g,F];show Χ P (Conv.unsafePointer src dst _) H _ _;unfold Conv.unsafePointer;refine Χ.bind' (a.Z3 f (Χ.bind' (a.Z3 E ?_)));rw[g,F];refine Χ.bind' (B0 h ?_);refine Χ.bind' ?_;unfold cellsIn;refine Χ.bind' ⟨t,N,h,Χ.pure' (Χ.pure' ?_)⟩;refine Χ.bind' (a.size m ?_);rw[if_neg (by simp[A,y];omega)];exact Χ.pure' (.same o C (.π d p r))
     .exact .bad
    .split
     .rename_i y;obtain⟨ag,J,L⟩:=B2 y;split
      .rename_i u s w;split
       .rename_i X;obtain⟨Y,rfl,rfl⟩:=X;obtain⟨V,W,f,g,m,A⟩:=Fh w;have M:P.cellsOf t=k:=by rw[BZ a m,A,Y]
        have Z:i+1<=N / P.cellsOf t:=by
         rw[M,Nat.le_div_iff_mul_le I];exact RH (Vo _ I) U
        intro K C;unfold convert;refine Χ.bind' (a.Z3 J (Χ.bind' (a.Z3 f ?_)));rw[L,g];show Χ P (Conv.unsafePointer src dst _) H _ _;unfold Conv.unsafePointer;refine Χ.bind' (a.Z3 J (Χ.bind' (a.Z3 f ?_)));rw[L,g];refine Χ.bind' (B0 h ?_);refine Χ.bind' (a.size m ?_);refine Χ.bind' ?_;unfold variablesAt;refine Χ.bind' ?_;refine Χ.bind' ⟨t,N,h,Χ.pure' (Χ.pure' ?_)⟩;have:=BY P (t:=t) (s:=k) (c:=N / P.cellsOf t) (i:=i) (n:=1) M I Z;simp only[Nat.add_zero];rw[this];simp only[Bool.or_true,if_true];refine Χ.pure' (.same o C ?_);have:=Θ.π (S:=S) (B:=B) (σ:=σ) (i:=i) (j:=0) d p r;simpa using this
       .exact .bad
      .exact .bad
     .exact .bad
   .exact .bad
  .exact .bad
 .exact .bad
end
def N6 (T:Z2) (t:TypeId):Option (TypeId×Nat):=match T t with
 | some i=>match i.Z3 with
  | .slice e=>match T e with|some a=>some (e,a.size)|none=>none
  | _=>none
 | none=>none
def HF (T:Z2) (a:TypeId) (x:Ψ):Zl:=match N6 T a,x with
 | some _,.sl true _ l=>.ok (.z (.int .i64 l.length))
 | _,_=>.bad
def HE (T:Z2) (c:TypeId) (x:Ψ) (lo:Option Ψ) (hi d:Ψ):Zl:=match N6 T c,x with
 | some (_,s),.sl _ k l=>match Vj lo 0,Vj (some hi) 0,Vj (some d) 0 with
  | some a,some b,some m=>if l.isEmpty=true\/k=s then .ZD (0<=a/\a<=b/\b<=l.length/\m=b) (.ok (.sl true k ((l.take b.toNat).drop a.toNat))) else .bad
  | _,_,_=>.bad
 | _,_=>.bad
def HD (T:Z2) (c:TypeId) (σ:Ρ) (x:Ψ) (lo:Option Ψ) (hi d:Ψ):Zi:=match N6 T c,x with
 | some _,.ms id n _ len=>match σ[id]?,Vj lo 0,Vj (some hi) 0,Vj (some d) 0 with
  | some (.cells _ _ l),some a,some b,some m=>if l.length=n then .ZD (0<=a/\a<=b/\b<=m/\m<=len) (.ok .Zx σ) else .bad
  | _,_,_,_=>.bad
 | _,_=>.bad
def MU (T:Z2) (a:TypeId) (σ:Ρ) (x:Ψ):Zi:=match N6 T a,x with
 | some (_,s),.ms id n i len=>match σ[id]? with
  | some (.cells _ k l)=>if l.length=n/\0<len/\i+len<=n/\k=s then .ok (.π id n i 0) σ else .bad
  | _=>.bad
 | _,_=>.bad
def HC:Ψ->Option Nat|.z (.int .u8 b)=>some b.toNat|_=>none
def MT:ψ->Option (List UInt8)
 | []=>some []
 | a::l=>match HC a,MT l with|some b,some c=>some (b.toUInt8::c)|_,_=>none
def HB (T:Z2) (a:TypeId) (σ:Ρ) (p n:Ψ):Zi:=match LJ T a,p,n with
 | some (u,s),.π id m i j,.z (.int _ len)=>match σ[id]? with
  | some (.cells t k l)=>match MT ((l.drop i).take len.toNat) with
   | some b=>if l.length=m/\0<len/\len<4611686018427387904/\i+len.toNat<=m/\j=0/\k=1/\s=1/\t=u then .ok (.z (.string ⟨b.toArray⟩)) (σ.set id .dead) else .bad
   | none=>.bad
  | _=>.bad
 | _,_,_=>.bad
def HA (T:Z2) (a:TypeId) (σ:Ρ) (x y:Ψ):Zi:=match N6 T a,y with
 | some _,.sl _ _ l=>if l.isEmpty=true then(match x with
  | .sl _ _ _=>.ok (.z (.int .i64 0)) σ
  | .ms id n _ _=>if PX σ id n=true then .ok (.z (.int .i64 0)) σ else .bad
  | _=>.bad) else .bad
 | _,_=>.bad
def Kb (T:Z2) (src dst:TypeId) (x:Ψ):Zl:=match T src,T dst,x with
 | some _,some d,.z (.int _ n)=>match d.Z3 with
  | .string=>.ok (.z (.string (Utf8.encode n)))
  | _=>.bad
 | _,_,_=>.bad
section
variable {P:Program} {T:Z2} {S:ς} {B:δ} {H:Υ} {σ:Ρ}
theorem Hz {t e:TypeId} {s:Nat} (h:N6 T t=some (e,s)):∃i a,T t=some i/\i.Z3=.slice e/\T e=some a/\a.size=s:=by
 unfold N6 at h;split at h
 .rename_i i hi;split at h
  .rename_i d b;split at h
   .rename_i a c;cases h;exact⟨i,a,hi,b,c,U⟩
   .cases h
  .cases h
 .cases h
theorem vS (b:ZL P T) (c:Holds S B σ H) (a d:TypeId) {x:Ψ} {v:Value} (f:Θ S B σ x v):Zv P (Builtin.cap_ #[a] d #[v]) S B H σ ((HF T a x).YX σ):=by
 unfold HF;split
 .rename_i es k l g;obtain⟨i,o,h,j,_,_⟩:=Hz (e:=es.1) (s:=es.2) g;obtain⟨base,cap,rfl,_,m,_⟩:=TG f;intro K n;unfold Builtin.cap_;refine Χ.bind' (b.Z3 h ?_);rw[j,m U];exact Χ.pure' (.same c n (.z _))
 .exact .bad
theorem vR {ex:Bool} {k:Nat} {l:ψ} {base:Option Addr} {len cap:Nat} (h:Θ S B σ (.sl ex k l) (.slice base len cap)) {a b f:Nat} (A:a<=b) (C:b<=l.length) (p:l.isEmpty=true\/k=f) :
  Θ S B σ (.sl true k ((l.take b).drop a)) (.slice (if b=a then base else base.map (·.add (a*f))) (b-a) (b-a)):=by
 obtain⟨D,E,e,F,H,r⟩:=TG h;cases e;have d:((l.take b).drop a).length=b-a:=by simp;omega
 by_cases g:(l.take b).drop a=[]
 .rw[g] at d ⊢;have:b-a=0:=by simpa using d.symm
  rw[this];exact .WJ _ _ λ_=>rfl
 .have n:l≠[]:=by rintro rfl;simp at g
  obtain⟨s,o,w,rfl,t,u,v⟩:=r n;have y:k=f:=p.resolve_left λx=>n (Tp.1 x);subst y;have J:a<b:=by
   apply TW;intro K;apply g;have:b-a=0:=I;rw[this] at d;exact YZ.1 d
  rw[if_neg I];simp only[Option.map_some,QS];have el:∀(i:Nat) (e:Ψ),((l.take b).drop a)[i]?=some e->l[a+i]?=some e:=λi e hi=>by
   rw[Va,RJ] at hi;split at hi
   .exact hi
   .cases hi
  have:=Θ.sl (S:=S) (B:=B) (σ:=σ) (ex:=true) (k:=k) (l:=(l.take b).drop a) s (o+a*k) (b-a) (λi j=>w (a+i) j) (λ_=>d.symm) (Nat.le_of_eq d)
   (λi e hi=>t _ e (el i e hi)) (λi e hi j c m=>by have:=u _ e (el i e hi) j c m;rw[XF] at this;rw[U9 o];exact this) (λi e hi j c m=>v _ e (el i e hi) j c m)
  rw[d] at this;exact this
theorem LI {x:Ψ} {v:Value} {d n:Int} (h:Vj (some x) d=some n) (a:Θ S B σ x v):∃k,v=.int k n:=by
 unfold Vj at h;split at h
 .rename_i e;cases e
 .rename_i k m e;cases e;cases h;cases a;exact⟨k,U⟩
 .cases h
theorem LH {v:Value} {k:IntKind} {n:Int} {y:Nat} {a:BoundsCode} (hv:v=.int k n) (b:0<=n) (c:n<=y) {G:Υ} {K:Nat->Υ->Prop} {E:Value->Υ->Prop} (d:K n.toNat G):Χ P (Instr.sliceBound v y a) G K E:=by
 subst hv;unfold Instr.sliceBound;refine Χ.bind' (Χ.pure' ?_);show Χ P (if 0<=n/\n<=y then pure n.toNat else _) G K E;rw[if_pos ⟨b,c⟩];exact Χ.pure' d
theorem vQ (c:ZL P T) (u:Holds S B σ H) (g:TypeId) {x:Ψ} {v:Value} (j:Θ S B σ x v) {lo:Option Ψ} {hi n:Ψ} {lv:Option Value} {hv mv:Value} (d:O0 S B σ lo lv) (w:Θ S B σ hi hv) (y:Θ S B σ n mv) :
  Zv P (Instr.sliceAt g v lv (some hv) (some mv)) S B H σ ((HE T g x lo hi n).YX σ):=by
 unfold HE;split
 .rename_i e s ex k l A;obtain⟨i,U,o,p,C,D⟩:=Hz A;split
  .rename_i a b m f E F;split
   .rename_i J;refine Zv.ZD (r:=(Zl.ok (.sl true k ((l.take b.toNat).drop a.toNat))).YX σ) λh K L=>?_;obtain⟨M,V,W,rfl⟩:=h;obtain⟨base,cap,rfl,c1,_,_⟩:=TG j;obtain⟨X,N⟩:=LI E w;obtain⟨Y,O⟩:=LI F y;unfold Instr.sliceAt;refine Χ.bind' (c.Z3 o ?_);rw[p];simp only;unfold Instr.slice;refine Χ.bind' (c.Z3 o ?_);rw[p];simp only;unfold Instr.sliceBounds;refine Χ.bind' (Χ.bind' (LH O I I ?_));refine Χ.bind' (LH N I I ?_);have t:Χ P (do let Q <-sizeOf e;pure (Value.slice (if m.toNat=a.toNat then base else base.map (·.add (a.toNat*Q))) (m.toNat-a.toNat) (m.toNat-a.toNat)):Sem Value) H (XS S B H σ K) (λ_ _=>False):=by
     refine Χ.bind' (c.size C ?_);rw[D];exact Χ.pure' (.same u L (vR j I I J))
    cases lo with
    | none=>
     cases lv with
     | some _=>exact d.elim
     | none=>
      simp only[Vj,Q6] at f;subst f;exact Χ.bind' (Χ.pure' (Χ.pure' t))
    | some lo=>
     cases lv with
     | none=>exact d.elim
     | some lv=>
      obtain⟨Z,R⟩:=LI f d;exact Χ.bind' (LH R M I (Χ.pure' t))
   .exact .bad
  .exact .bad
 .exact .bad
theorem vP (c:ZL P T) (w:Holds S B σ H) (g:TypeId) {x:Ψ} {v:Value} (y:Θ S B σ x v) {lo:Option Ψ} {hi j:Ψ} {lv:Option Value} {hv mv:Value} (d:O0 S B σ lo lv) (A:Θ S B σ hi hv) (C:Θ S B σ j mv) :
  Zv P (Instr.sliceAt g v lv (some hv) (some mv)) S B H σ (HD T g σ x lo hi j):=by
 unfold HD;split
 .rename_i es id n i len D;obtain⟨V,W,o,p,E,X⟩:=Hz (e:=es.1) (s:=es.2) D;split
  .rename_i t k l a b m F f J L;split
   .rename_i Y;refine Zv.ZD (r:=Zi.ok .Zx σ) λh K M=>?_;obtain⟨N,Z,aa,ab⟩:=h;cases y with
    | Wu v d1 d2=>rw[F] at d1;cases d1;simp only[Row.Xx] at d2;omega
    | @ms _ _ _ _ _ _ _ bo base cap d1 d2 d3 d4 d5 d6=>
     obtain⟨ad,O⟩:=LI J A;obtain⟨ae,Q⟩:=LI L C;unfold Instr.sliceAt;refine Χ.bind' (c.Z3 o ?_);rw[p];simp only;unfold Instr.slice;refine Χ.bind' (c.Z3 o ?_);rw[p];simp only;unfold Instr.sliceBounds;refine Χ.bind' (Χ.bind' (LH Q I I ?_));refine Χ.bind' (LH O I I ?_);have u:Χ P (do let R <-sizeOf es.1;pure (Value.slice (if m.toNat=a.toNat then base else base.map (·.add (a.toNat*R))) (b.toNat-a.toNat) (m.toNat-a.toNat)):Sem Value) H (XS S B H σ K) (λ_ _=>False):=by
      refine Χ.bind' (c.size E ?_);exact Χ.pure' (.same w M (.Zx _))
     cases lo with
     | none=>
      cases lv with
      | some _=>exact d.elim
      | none=>
       simp only[Vj,Q6] at f;subst f;exact Χ.bind' (Χ.pure' (Χ.pure' u))
     | some lo=>
      cases lv with
      | none=>exact d.elim
      | some lv=>
       obtain⟨af,U⟩:=LI f d;exact Χ.bind' (LH U N I (Χ.pure' u))
   .exact .bad
  .exact .bad
 .exact .bad
theorem vO (w:ZL P T) (h:Holds S B σ H) (d m:TypeId) {x:Ψ} {v:Value} (o:Θ S B σ x v):Zv P (Builtin.unsafeSliceData_ #[d] m #[v]) S B H σ (MU T d σ x):=by
 unfold MU;split
 .rename_i e s id n i len y;split
  .rename_i t k l c;split
   .rename_i p;obtain⟨c1,c2,A,C⟩:=p;intro K r;cases o with
    | ms cap a f u D E g=>
     rw[c] at a;cases a;rcases g with g|⟨b,N,rfl,rfl,F⟩
     .omega
     .show Χ P (if cap≠0 then pure (Value.pointer (some ⟨b,i*k,none⟩)) else _) H _ _;rw[if_pos I];refine Χ.pure' (.same h r ?_);have:=Θ.π (S:=S) (B:=B) (σ:=σ) (i:=i) (j:=0) c c1 u;simpa using this
    | Wu v a f=>rw[c] at a;cases a;simp only[Row.Xx] at f;omega
   .exact .bad
  .exact .bad
 .exact .bad
theorem vN (h:ZL P T) (j:Holds S B σ H) (f st m:TypeId) {x y:Ψ} {v w:Value} (o:Θ S B σ x v) (D:Θ S B σ y w):Zv P (Builtin.copy_ #[f,st] m #[v,w]) S B H σ (HA T f σ x y):=by
 unfold HA;split
 .rename_i es ex k l E;obtain⟨i,p,F,I,J,U⟩:=Hz (e:=es.1) (s:=es.2) E;split
  .rename_i L;have M:l=[]:=Tp.1 L;subst M;obtain⟨base,cap,rfl,_⟩:=TG D;have r:∀(d:Option Addr) (b u:Nat) (K:Ψ->Ρ->Prop),K (.z (.int .i64 0)) σ->Χ P (Builtin.copy_ #[f,st] m #[.slice d b u,.slice base 0 cap]) H (XS S B H σ K) (λ_ _=>False):=λd b u K c=>by
    unfold Builtin.copy_;refine Χ.bind' (h.Z3 F ?_);rw[I];simp only;refine Χ.bind' (Χ.pure' ?_);refine Χ.bind' (h.size J ?_);have A:Nat.min 0 b=0:=Nat.zero_min _;have N:Builtin.firstCells p.size (Nat.min 0 b) (.slice base 0 cap)=pure #[]:=by
     rw[A];unfold Builtin.firstCells;cases base<;>simp[Go.loadCells,Go.loadCellsFrom]<;>rfl
    show Χ P (Builtin.firstCells p.size (Nat.min 0 b) (.slice base 0 cap) >>= _) H _ _;rw[N];refine Χ.bind' (Χ.pure' ?_);have C:goInt (Nat.min 0 b)=.int .i64 0:=by rw[A];rfl
    show Χ P _ H _ _;cases d with
    | none=>refine Χ.pure' ?_;rw[C];exact .same j c (.z _)
    | some a=>refine Χ.pure' ?_;rw[C];exact .same j c (.z _)
   split
   .intro K c;obtain⟨d,c',rfl,_⟩:=TG o;exact r _ _ _ K c
   .rename_i id n V len;split
    .rename_i O;obtain⟨t,W,X,Q,Y⟩:=B3 O;intro K c;cases o with
     | ms Z g _ _ _ _ _=>exact r _ _ _ K c
     | Wu v g R=>rw[Q] at g;cases g;simp only[Row.Xx] at R;omega
    .exact .bad
   .exact .bad
  .exact .bad
 .exact .bad
theorem BX (a:ZL P T) (b:Holds S B σ H) (src dst:TypeId) {x:Ψ} {v:Value} (c:Θ S B σ x v):Zv P (convert src dst v) S B H σ ((Kb T src dst x).YX σ):=by
 unfold Kb;split
 .rename_i s d k n e hd;cases c;split
  .rename_i f;intro K g;unfold convert;refine Χ.bind' (a.Z3 e (Χ.bind' (a.Z3 hd ?_)));rw[f];have:Χ P (Conv.intToString n) H (XS S B H σ K) (λ_ _=>False):=by
    unfold Conv.intToString;exact Χ.pure' (.same b g (.z _))
   cases h:s.Z3<;>exact this
  .exact .bad
 .exact .bad
end
section
variable {P:Program} {T:Z2} {S:ς} {B:δ} {H:Υ} {σ:Ρ}
theorem vM {a:Ψ} {n:Nat} (h:HC a=some n):∃b:Int,a=.z (.int .u8 b)/\n=b.toNat:=by
 unfold HC at h;split at h
 .cases h;exact⟨_,U,U⟩
 .cases h
theorem vL {b:Nat} {K:ByteArray->Υ->Prop} {E:Value->Υ->Prop}:∀(l:ψ) (d:List UInt8) (o:Nat) (c:ByteArray),MT l=some d->(∀(j:Nat) (z:Value),l[j]?=some (.z z)->H.ω b (o+j)=some (z,true))->K ⟨c.data++d.toArray⟩ H->Χ P (loadBytes ⟨b,o,none⟩ c l.length) H K E:=by
 intro l
 induction l with
 | nil=>
  intro d o c h _ f;cases h;have e:(⟨c.data++([]:List UInt8).toArray⟩:ByteArray)=c:=Ω;rw[e] at f;exact Χ.pure' f
 | cons a l k=>
  intro d o c h i f;unfold MT at h;split at h
  .rename_i n g m p;cases h;obtain⟨x,rfl,rfl⟩:=vM m;have r:=i 0 _ U;show Χ P (load ⟨b,o,none⟩ >>= _) H K E;refine Χ.bind' ⟨U,U,_,_,r,Χ.pure' ?_⟩;show Χ P (loadBytes (Addr.add ⟨b,o,none⟩ 1) (c.push x.toNat.toUInt8) l.length) H K E;rw[QS];refine k g (o+1) (c.push x.toNat.toUInt8) p (λj z s=>?_) ?_
   .have:=i (j+1) z (by simpa using s);rw[U9,KH 1 j];exact this
   .have e:(⟨(c.push x.toNat.toUInt8).data++g.toArray⟩:ByteArray)=⟨c.data++(x.toNat.toUInt8::g).toArray⟩:=by
     congr 1;apply Og;simp
    rw[e];exact f
  .cases h
theorem vK (A:ZL P T) (h:Holds S B σ H) (C lt V:TypeId) {x y:Ψ} {v w:Value} (W:Θ S B σ x v) (X:Θ S B σ y w):Zv P (Builtin.unsafeString_ #[C,lt] V #[v,w]) S B H σ (HB T C σ x y):=by
 unfold HB;split
 .rename_i u s id m i j ax len Y;split
  .rename_i t k l f;split
   .rename_i p Z;split
    .rename_i aa;obtain⟨c1,c2,ay,az,rfl,rfl,rfl,rfl⟩:=aa;have ab:PX σ id m=true:=by unfold PX;rw[f];simpa using c1
     obtain⟨t',aA,aB,b,N,D,aC,F,rfl⟩:=HG W ab;rw[f] at D;cases D;cases X;obtain⟨d1,d2,d3,aD,d4⟩:=h.row id _ _ f F;obtain⟨aE,aF,ad,ae,af,ag⟩:=Fh Y;have J:P.cellsOf t=1:=by rw[BZ A af,ag]
     have ah:((l.drop i).take len.toNat).length=len.toNat:=by simp;omega
     intro K ai;unfold Builtin.unsafeString_;refine Χ.bind' (Χ.pure' ?_);show Χ P (if len<0 then _ else _) H _ _;rw[if_neg I];show Χ P (if len > IntKind.i64.max then _ else _) H _ _
     rw[if_neg (by have:IntKind.i64.max=9223372036854775807:=by decide
                   omega)]
     show Χ P (if len=0 then _ else _) H _ _;rw[if_neg I];refine Χ.bind' ?_;unfold elemOf;refine Χ.bind' (A.Z3 ad ?_);rw[ae];refine Χ.pure' ?_;refine Χ.bind' ?_;unfold variablesAt;refine Χ.bind' ?_;refine Χ.bind' ⟨t,N,d1,Χ.pure' (Χ.pure' ?_)⟩;have L:=BY P (t:=t) (s:=1) (c:=N / P.cellsOf t) (i:=i) (n:=len.toNat) J I (by rw[J];simp;omega);simp only[SI,Nat.add_zero] at L ⊢;rw[L];simp only[if_true];refine Χ.bind' ?_;have M:=vL (P:=P) (H:=H) (b:=b) (K:=λa G=>Χ P (do freeze ⟨b,i,none⟩ len.toNat;pure (Value.string a)) G (XS S B H σ K) λ_ _=>False) (E:=λ_ _=>False) ((l.drop i).take len.toNat) p i .empty Z (λj z d=>by
      rw[RJ] at d;split at d
      .rw[Va] at d;obtain⟨aG,aj⟩:=d4 (i+j) _ d;obtain⟨ak,al,_⟩:=aj 0 _ U;cases al;simpa using ak
      .cases d) ?_
     .rw[ah] at M;exact M
     .refine Χ.bind' ⟨⟨t,N,d1,I,λo am=>d3 o am⟩,Χ.pure' (Χ.pure' ?_)⟩;have aH:id<σ.length:=(ZR.1 f).1;have an:∀r,(H.Se b).fresh r->H.fresh r:=Υ.It (H:=H) (H':=H.Se b) (λO o g=>by
       by_cases e:O=b
       .subst e;have ao:((H.ω O o).map λx=>(x.1,false))=none:=by simpa[Υ.Se] using g
        simpa using ao
       .simpa[Υ.Se,e] using g) (λ_ g=>g) (λ_ g=>g)
      obtain⟨ap,aq,ar⟩:=h.Sc (H':=H.Se b) (r':=.dead) (bo':=some (b,N)) f trivial F (.inr λ_ _=>trivial) (λQ au e=>.inl ⟨au,e⟩) (λQ f1 _=>by
       have av:Q≠b:=λe=>by subst e;exact f1 N U
       exact⟨λo=>by simp[Υ.Se,av],U,U⟩) an (λj l c d=>by
        obtain⟨bo,aw⟩:=Ue h d;obtain⟨_,_,_,_,_,_,_,_,_,⟨aI,R⟩,_⟩:=h.row j _ bo d aw;rw[f] at R;cases R) (λ_=>trivial)
      refine⟨S,_,_,_,ai,aq,ap,ar,?_⟩;have e:(⟨ByteArray.empty.data++p.toArray⟩:ByteArray)=⟨p.toArray⟩:=by
       show(⟨#[]++p.toArray⟩:ByteArray)=_;simp
      rw[e];exact .z _
    .exact .bad
   .exact .bad
  .exact .bad
 .exact .bad
end
def Ka (id:Nat):Ρ->Nat->Option Nat
 | [],_=>none
 | r::l,n=>match r with
  | .iter m _ _=>if m=id then some n else Ka id l (n+1)
  | _=>Ka id l (n+1)
def N5 (T:Z2) (b:TypeId) (σ:Ρ) (c k:Ψ):Zi:=match PY T b,c,k with
 | some (kt,_),.mp id,.z a=>match σ[id]?,Ka id σ 0 with
  | some (.map es),some j=>match σ[j]? with
   | some (.iter m left _)=>if m=id/\PZ T kt (.z a)=true/\U3 (σ.set j .dead) id=true then match WI T kt (.z a) es 0 with
     | some (some (i,_))=>.ZD (∀e∈left,∃w,e.1=.z w/\w≠a) (.ok (.z (.tuple #[])) ((σ.set id (.map (es.eraseIdx i))).set j (.iter id left none)))
     | _=>.bad
    else .bad
   | _=>.bad
  | _,_=>.bad
 | _,_,_=>.bad
theorem vJ {c:Type} (f:c->Bool):∀(l:List c) (i:Nat) (a:c),l[i]?=some a->f a=false->(l.eraseIdx i).filter f=l.filter f:=by
 intro l
 induction l with
 | nil=>intro i a h;simp at h
 | cons b l e=>
  intro i a h d;cases i with
  | zero=>simp at h;subst h;simp[L8,d]
  | succ i=>
   simp only[List.getElem?_cons_succ] at h;simp only[List.eraseIdx_cons_succ,L8];rw[e i a h d]
section
variable {P:Program} {T:Z2} {S:ς} {B:δ} {H:Υ} {σ:Ρ}
theorem Rs.erase {es:List (Ψ×Ψ)} {c:Array MapEntry} {l:Nat} (h:Rs S B σ es c l) (i:Nat):Rs S B σ (es.eraseIdx i) (c.eraseIdxIfInBounds i) l:=by
 have m:(c.eraseIdxIfInBounds i).toList=c.toList.eraseIdx i:=by
  by_cases hi:i<c.size
  .simp[Array.eraseIdxIfInBounds,hi]
  .simp only[Array.eraseIdxIfInBounds,hi,dite_false];rw[List.eraseIdx_of_length_le (by simpa using Nat.le_of_not_lt hi)]
 obtain⟨r,n,s⟩:=h;have k:∀(j:Nat) (y:MapEntry),(c.eraseIdxIfInBounds i)[j]?=some y->(c.toList.eraseIdx i)[j]?=some y:=λj y t=>by rw[<-m,Xr];exact t
 have u:(c.toList.map (·.born)).Pairwise (· < ·):=by
  rw[List.pairwise_map,I9];intro a b v w g;exact s a b _ _ (YS (by simpa using v)) (YS (by simpa using w)) g
 refine⟨?_,λj e y f d=>?_,λj o y z f d g=>?_⟩
 .have:(c.eraseIdxIfInBounds i).size=(c.toList.eraseIdx i).length:=by rw[<-m,Array.length_toList]
  rw[this,I0,I0,r,Array.length_toList]
 .have d:=k j y d;rw[List.getElem?_eraseIdx] at f d;split at f
  .rename_i g;rw[if_pos g,Xr] at d;exact n j e y f d
  .rename_i g;rw[if_neg g,Xr] at d;exact n (j+1) e y f d
 .have f:=k j y f
  have d:=k o z d
  have p:((c.toList.eraseIdx i).map (·.born)).Pairwise (· < ·):=u.sublist ((List.eraseIdx_sublist ..).map _);rw[List.pairwise_map,I9] at p;obtain⟨x,A⟩:=ZR.1 f;obtain⟨C,D⟩:=ZR.1 d;have:=p j o x C g;rw[A,D] at this;exact this
theorem Holds.vI (a:Holds S B σ H) {σ':Ρ} {H':Υ} (k:σ'.length=σ.length) (K:ZJ S S B B σ σ') (c:∀(i:Nat) (r':Row),σ'[i]?=some r'->r'.live->∃r,σ[i]?=some r/\r.live) (l:∀b o,H'.ω b o=H.ω b o) (m:∀b,¬B.has b->Vk H H' b) (n:∀b,H'.fresh b->H.fresh b)
  (p:∀(i:Nat) (r':Row) (bo:Option (Nat×Nat)),σ'[i]?=some r'->B[i]?=some bo->Wi S B σ' H' r' bo):Holds S B σ' H'/\Ext S B H S B H':=by
 refine⟨⟨λb o v hv=>?_,by rw[k];exact a.len,p,λi j s t b u w x hi y A C=>?_,λid r b N D E d o=>?_⟩,⟨λ_ _ _ h=>h,λb d _=>TK.of (m b d),λb h=>.inl h,λ_ _ _ h=>.inl h,n⟩⟩
 .rw[l];exact a.Zf b o v hv
 .obtain⟨e,f,g⟩:=c i s hi A;obtain⟨F,I,J⟩:=c j t y C;exact a.inj i j e F b u w x f I g J
 .obtain⟨e,f,g⟩:=c id r D E;exact a.sep id e b N f g d o
theorem vH (L:ZL P T) (n:Holds S B σ H) (af ax ay:TypeId) {mp k:Ψ} {u v:Value} (az:Θ S B σ mp u) (aA:Θ S B σ k v):Zv P (Builtin.delete_ #[af,ax] ay #[u,v]) S B H σ (N5 T af σ mp k):=by
 unfold N5;split
 .rename_i kt vt id a4 aB;obtain⟨i,hi,aC⟩:=Kg aB;split
  .rename_i es j p a5;split
   .rename_i m left a6 x;split
    .rename_i aD;obtain⟨rfl,ag,aE⟩:=aD;split
     .rename_i c a ah;refine Zv.ZD (r:=.ok (.z (.tuple #[])) ((σ.set m (.map (es.eraseIdx c))).set j (.iter m left none))) λaF K aG=>?_;cases aA;cases az with
      | Uf _ F=>rw[p] at F;cases F
      | mp F A=>
       rename_i b N;rw[p] at F;cases F;obtain⟨g,M,I,O⟩:=LM n p A;obtain⟨_,a7,J,aH⟩:=Kh es 0 c a ah;simp only[Nat.sub_zero] at J;have aI:c<es.length:=(ZR.1 J).1;have Q:c<g.size:=by rw[<-O.1];exact aI
       have R:g[c]?=some g[c]:=YS Q;obtain⟨aJ,a8,a9⟩:=O.2.1 c _ _ J R;obtain⟨ai,_,_⟩:=B9 L (Θ.z (S:=S) (B:=B) (σ:=σ) v) aJ aH;have aK:m≠j:=λe=>by subst e;rw[p] at x;cases x
       have aL:m<σ.length:=(ZR.1 p).1
       have aj:j<σ.length:=(ZR.1 x).1
       have V:∃Z,B[j]?=some Z:=⟨_,Z4 (by rw[n.len];exact aj)⟩;obtain⟨Z,V⟩:=V;obtain⟨ak,aM,ba,bb,xs',clock',seen,rfl,al,⟨bc,bd⟩,am,an,⟨ao,ap,aq,ar⟩,aN,_⟩:=n.row j _ Z x V;rw[A] at al;cases al;rw[I] at an;cases an;have aO:ak≠b:=λe=>by subst e;rw[am] at I;cases I
       have aP:seen.contains (g[c]).born=true:=by
        cases aQ:seen.contains (g[c]).born with
        | true=>rfl
        | false=>
         exfalso;have aR:g[c]∈ao:=by
          rw[ap];exact To.2 ⟨Ω,by simpa using aQ⟩
         obtain⟨q,d⟩:=TU aR;have au:q<left.length:=by rw[aq];exact(ZR.1 d).1
         have aS:=Z4 au;obtain⟨c1,_⟩:=ar q _ _ aS d;obtain⟨w,d1,d2⟩:=aF _ (Yq au);rw[d1] at c1;generalize (g[c]).key=kk at c1 ai;cases c1;exact d2 (by rw[ai])
       obtain⟨H',l⟩:=Z' (H.Zq b (.map (g.eraseIdxIfInBounds c) M));have av:H'.obj b=some (.map (g.eraseIdxIfInBounds c) M):=by rw[l];simp[Υ.Zq]
       have W:∀f,f≠b->H'.obj f=H.obj f:=λf e=>by rw[l];simp[Υ.Zq,e]
       have C:∀(q:Nat),((σ.set m (.map (es.eraseIdx c))).set j (.iter m left none))[q]?=if q=j then some (.iter m left none) else if q=m then some (.map (es.eraseIdx c)) else σ[q]?:=λq=>by
        by_cases s:q=j
        .subst s;rw[if_pos U,Xs (by simpa using aj)]
        .rw[if_neg s,Xj (YV s)];by_cases em:q=m
         .subst em;rw[if_pos U,Xs aL]
         .rw[if_neg em,Xj (YV em)]
       have E:ZJ S S B B σ ((σ.set m (.map (es.eraseIdx c))).set j (.iter m left none)):=⟨λ_ _ _ h=>h,λq r d=>by
        by_cases s:q=j
        .subst s;rw[x] at d;cases d;exact⟨_,by rw[C,if_pos U],.inl ⟨_,_,U,U⟩⟩
        .by_cases em:q=m
         .subst em;rw[p] at d;cases d;exact⟨_,by rw[C,if_neg s,if_pos U],.inl ⟨_,U,U⟩⟩
         .exact⟨r,by rw[C,if_neg s,if_neg em];exact d,r.Tb _⟩⟩
       obtain⟨aT,aU⟩:=n.vI (H':=H') Ω E (λq r' d X=>by
        rw[C] at d;split at d
        .rename_i e;subst e;exact⟨_,x,trivial⟩
        .split at d
         .rename_i e;subst e;exact⟨_,p,trivial⟩
         .exact⟨_,d,X⟩) (λf o=>by rw[l];rfl) (λf aa=>by
         have aV:f≠b:=λe=>by subst e;exact aa (TI A)
         exact⟨λo=>by rw[l];rfl,by rw[l];rfl,W f aV⟩) (by rw[l];exact Υ.Ks) (λq r' bo d t=>by
         rw[C] at d;split at d
         .rename_i e;subst e;cases d;rw[V] at t;cases t;refine⟨ak,aM,b,N,g.eraseIdxIfInBounds c,M,seen,U,A,⟨es.eraseIdx c,by rw[C,if_neg aK,if_pos U]⟩,by rw[W _ aO];exact am,av,⟨ao,?_,aq,λa' ab aW aX aY=>?_⟩,λy R=>?_,λe J=>by cases J⟩
          .have ad:(g.eraseIdxIfInBounds c).toList=g.toList.eraseIdx c:=by simp[Array.eraseIdxIfInBounds,Q]
           rw[ad,ap];exact(vJ _ g.toList c _ (by rw[Xr];exact R) (by simpa using aP)).symm
          .obtain⟨c1,c2⟩:=ar a' ab aW aX aY;exact⟨c1.later E,c2.later E⟩
          .have ad:(g.eraseIdxIfInBounds c).toList=g.toList.eraseIdx c:=by simp[Array.eraseIdxIfInBounds,Q]
           have:y∈g.toList.eraseIdx c:=by rw[<-ad];exact Array.mem_def.1 R
           exact aN y (by simpa using (List.eraseIdx_sublist ..).subset this)
         .rename_i s;split at d
          .rename_i em;subst em;cases d;rw[A] at t;cases t;refine⟨b,N,_,M,U,av,?_⟩;have:=(O.erase c);exact this.later E
          .rename_i em;by_cases X:r'.live
           .have aZ:∀f D,bo=some (f,D)->f≠b:=λf D e ab=>by
             subst e;subst ab;exact n.inj q m r' _ f D N em d p X trivial t A
            refine(n.row q r' bo d t).later E (λf D e=>⟨λo=>by rw[l];rfl,by rw[l];rfl,W f (aZ f D e)⟩) λae l2 c2 a0=>?_;subst a0;have aw:ae≠m:=λe=>by
             subst e;exact Fs aE q l2 c2 (by rw[Xj (YV s)];exact d)
            have a1:ae≠j:=λe=>by
             subst e;obtain⟨_,_,_,_,_,_,_,_,_,⟨a2,Y⟩,_⟩:=n.row q _ bo d t;rw[x] at Y;cases Y
            refine⟨by rw[C,if_neg a1,if_neg aw],U,λf D aa=>?_⟩;obtain⟨_,_,_,_,_,_,_,_,_,⟨a2,Y⟩,_⟩:=n.row q _ bo d t;have:f≠b:=λe=>by
             subst e;exact n.inj ae m _ _ f D N aw Y p trivial trivial aa A
            exact⟨λo=>by rw[l];rfl,by rw[l];rfl,W f this⟩
           .cases r'<;>first|exact absurd trivial X|trivial)
       unfold Builtin.delete_;refine Χ.bind' (L.Z3 hi ?_);rw[aC];show Χ P (getObj b >>= _) H _ _;refine Χ.bind' ⟨_,I,U,Χ.pure' ?_⟩;refine Χ.bind' (HZ L (Θ.z (S:=S) (B:=B) (σ:=σ) v) ag ?_);refine Χ.bind' (HY L (Θ.z (S:=S) (B:=B) (σ:=σ) v) ag O.MY ah ?_);have a3:Uq g.toList 0 (some (c,a))=some (c,g[c].val):=by simp[Uq,Q]
       rw[a3];refine Χ.bind' ⟨⟨_,I⟩,U,U,Χ.pure' ?_⟩;refine Χ.pure' ?_;rw[<-l];exact⟨S,B,_,_,aG,aU,aT,E,.z _⟩
     .exact .bad
    .exact .bad
   .exact .bad
  .exact .bad
 .exact .bad
end
def Zl.or (r:Zl) (σ:Ρ) (s:Zi):Zi:=match r with
 | .ok a=>.ok a σ
 | .ZD p r=>.ZD p (r.YX σ)
 | .bad=>s
def Up (A:κ) (d:Option Tmp):Bool:=match d with|some d=>A.contains d|none=>false
def OY (env:Β) (a:Array (Nat×Operand)):List (Nat×Ψ):=a.toList.map λp=>(p.1,ο env p.2)
def LG (c a b:Ψ):Zl:=match c with
 | .z (.bool v)=>match a,b with
  | .z (.bool x),.z (.bool y)=>.ok (.z (.bool (bif v then x else y)))
  | _,_=>match v with|true=>.ok a|false=>.ok b
 | _=>.bad
def N4 (T:Z2) (σ:Ρ) (src dst:TypeId) (x:Ψ):Zl:=match LN T src dst x with
 | .bad=>match HN T src dst x with
  | .bad=>N7 T src dst σ x
  | r=>r
 | r=>r
def QR (T:Z2) (σ:Ρ) (src dst:TypeId) (x:Ψ):Zl:=match N4 T σ src dst x with
 | .bad=>Kb T src dst x
 | r=>r
def Hy (T:Z2) (σ:Ρ) (src dst:TypeId) (x:Ψ):Zi:=match x with
 | .π id n i j=>if MV T src=true\/MV T dst=true then HH T src dst σ (.π id n i j) else(QR T σ src dst (.π id n i j)).YX σ
 | _=>(QR T σ src dst x).YX σ
def PW (c:Bool):Ψ->ψ->Zl
 | a,[]=>match a with
  | .z (.int k x)=>.ok (.z (.int k x))
  | _=>.bad
 | a,b::l=>match a,b with
  | .z (.int k x),.z (.int _ y)=>PW c (.z (.int k (if(bif c then decide (y > x) else decide (y<x))=true then y else x))) l
  | _,_=>.bad
def WT (T:Z2) (A:κ) (env:Β) (o:Oper):Zl:=
 match o.op with
 | .move x=>.ok (ο env x)
 | .assign x=>.ok (ο env x)
 | .pick c a b=>LG (ο env c) (ο env a) (ο env b)
 | .alloc e=>if Up A o.dst then .bad else Ib T e
 | .box _ x=>if Up A o.dst then .bad else LQ (ο env x)
 | .build e g=>Ur T (Ψ.YW []) e (OY env g)
 | .buildSlice e n g=>if Up A o.dst then .bad else Km T (Ψ.YW []) e n (OY env g)
 | .load e x=>Im T e (ο env x)
 | .binOp h e x y _=>HR T h e (ο env x) (ο env y)
 | .unOp h _ x=>LW h (ο env x)
 | .convert s d x=>QR T [] s d (ο env x)
 | .index e x i=>HQ T e (ο env x) (ο env i)
 | .nilCheck x=>HP (ο env x)
 | .sliceToArrayPointer e x=>HO T e (ο env x)
 | .makeInterface e x=>Io T e (ο env x)
 | .makeFunc f j cs=>.ok (.fn f (j.toList.map (ο env)) (cs.toList.map (ο env)))
 | .makeSlice e n c=>if Up A o.dst then .bad else H8 T e (ο env n) (ο env c)
 | .slice e x lo hi none=>H3 T e (ο env x) (lo.map (ο env)) (hi.map (ο env))
 | .slice e x lo (some hi) (some k)=>HE T e (ο env x) (lo.map (ο env)) (ο env hi) (ο env k)
 | .fieldAddr e x f=>Il T e f (ο env x)
 | .indexAddr e x i=>Ij T e (ο env x) (ο env i)
 | .typeAssert x _ e l=>M8 T e l (ο env x)
 | .extract x i=>Ip i (ο env x)
 | .call ⟨.builtin b,⟨[x]⟩,⟨[e]⟩⟩=>match b with
  | .len=>H2 T e (ο env x)
  | .cap=>HF T e (ο env x)
  | _=>.bad
 | .call ⟨.builtin b,⟨[x,y]⟩,⟨[m,e]⟩⟩=>match b with
  | .max=>H0 [ο env x,ο env y]
  | .min=>PW false (ο env x) [ο env y]
  | .append=>if Up A o.dst then .bad else O2 T m e (Ψ.YW []) [] (ο env x) (ο env y)
  | _=>.bad
 | .call ⟨.builtin .max,⟨[x,y,z]⟩,_⟩=>PW true (ο env x) [ο env y,ο env z]
 | _=>.bad
def Xa (T:Z2) (A:κ) (env:Β) (σ:Ρ) (o:Oper):Zi:=
 match o.op with
 | .alloc a=>if Up A o.dst then Ic T a σ else .bad
 | .box a x=>if Up A o.dst then LP a σ (ο env x) else Ie σ (ο env x)
 | .build a h=>(Ur T (Ψ.YW σ) a (OY env h)).YX σ
 | .buildSlice a n h=>if Up A o.dst then Ia T a n (OY env h) σ else(Km T (Ψ.YW σ) a n (OY env h)).YX σ
 | .load a x=>Sa T a σ (ο env x)
 | .store a p x=>Ii T a σ (ο env p) (ο env x)
 | .convert s d x=>Hy T σ s d (ο env x)
 | .nilCheck x=>R7 σ (ο env x)
 | .binOp .eql a x (.const (.slice none 0 0)) _=>HL T a σ (ο env x)
 | .binOp j a x y _=>HI T j a σ (ο env x) (ο env y)
 | .makeMap _ none=>Fq σ
 | .mapUpdate a m k x=>OZ T a σ (ο env m) (ο env k) (ο env x)
 | .insert a m k x=>OZ T a σ (ο env m) (ο env k) (ο env x)
 | .lookup a x k l=>HX T a l σ (ο env x) (ο env k)
 | .range a x=>HK T a σ (ο env x)
 | .next e false=>HV σ (ο env e)
 | .next e true=>HJ σ (ο env e)
 | .entry e=>HU σ (ο env e)
 | .makeSlice a n c=>if Up A o.dst then(if Up A (o.dst.map (· + 4096)) then O3 T a (ο env n) (ο env c) σ else H9 T a (ο env n) (ο env c) σ) else .bad
 | .slice a x lo hi none=>M1 T a σ (ο env x) (lo.map (ο env)) (hi.map (ο env))
 | .slice a x lo (some hi) (some r)=>HD T a σ (ο env x) (lo.map (ο env)) (ο env hi) (ο env r)
 | .fieldAddr a x f=>R' T a f σ (ο env x)
 | .indexAddr a x i=>R9 T a σ (ο env x) (ο env i)
 | .call ⟨.builtin b,⟨[x]⟩,⟨[a]⟩⟩=>match b with
  | .len=>M0 T a σ (ο env x)
  | .clear=>HS T a σ (ο env x)
  | .unsafeSliceData=>MU T a σ (ο env x)
  | _=>.bad
 | .call ⟨.builtin b,⟨[x,y]⟩,⟨[g,a]⟩⟩=>match b with
  | .append=>if Up A o.dst then H5 T g a σ (ο env x) (ο env y) else(O2 T g a (Ψ.YW σ) σ (ο env x) (ο env y)).YX σ
  | .copy=>HA T g σ (ο env x) (ο env y)
  | .unsafeString=>HB T g σ (ο env x) (ο env y)
  | .delete=>N5 T g σ (ο env x) (ο env y)
  | _=>.bad
 | _=>.bad
section
variable {P:Program} {T:Z2} {A:κ} {S:ς} {B:δ} {H:Υ} {σ:Ρ} {env:Β} {t:ν}
theorem Zl.vG {s:Sem Next} {r:Zl} {a:Zi} (b:Does P s S B H σ (r.YX σ)) (c:Does P s S B H σ a):Does P s S B H σ (r.or σ a):=by
 cases r with
 | ok x=>exact b
 | ZD p r=>exact b
 | bad=>exact c
theorem vF (e:Holds S B σ H) {c a b:Ψ} {u v w:Value} (h:Θ S B σ c u) (f:Θ S B σ a v) (g:Θ S B σ b w):Zv P (do pure (if <-asBool u then v else w)) S B H σ ((LG c a b).YX σ):=by
 unfold LG;split
 .rename_i x;cases h;split
  .rename_i p q;cases f;cases g;intro K d;refine Χ.bind' (Χ.pure' (Χ.pure' ?_));cases x
   .exact .same e d (.z _)
   .exact .same e d (.z _)
  .cases x
   .exact λK d=>Χ.bind' (Χ.pure' (Χ.pure' (.same e d g)))
   .exact λK d=>Χ.bind' (Χ.pure' (Χ.pure' (.same e d f)))
 .exact .bad
theorem vE (g:Zg S B σ env t) (f:Fn) (e cs:Array Operand):Θ S B σ (.fn f (e.toList.map (ο env)) (cs.toList.map (ο env))) (.func f (e.map (ZW t)) (cs.map (ZW t))):=by
 refine .fn _ _ Ω Ω (λi a v b c=>?_) (λi a v b c=>?_)
 .rw[Ys] at b;rw[Oj] at c;rw[Xr] at b;cases d:e[i]? with
  | none=>rw[d] at b;cases b
  | some x=>rw[d] at b c;cases b;cases c;exact TH g x
 .rw[Ys] at b;rw[Oj] at c;rw[Xr] at b;cases d:cs[i]? with
  | none=>rw[d] at b;cases b
  | some x=>rw[d] at b c;cases b;cases c;exact TH g x
theorem LF (a:Zg S B σ env t) (o:Option Operand):O0 S B σ (o.map (ο env)) (o.map (ZW t)):=by
 cases o with
 | none=>trivial
 | some x=>exact TH a x
theorem BW {a:Ψ} {r:Nat×ψ} (h:R8 [] a=some r):R8 σ a=some r:=by
 cases a<;>first|exact h|(simp[R8] at h)
theorem vD {a:Ψ} {r:Nat×ψ} (h:P0 [] a=some r):P0 σ a=some r:=by
 cases a with
 | z v=>cases v<;>first|exact h|(simp[P0,R8] at h)
 | sl ex k l=>exact h
 | _=>simp[P0,R8] at h
theorem vC {st xt:TypeId} {s x:Ψ}:O2 T st xt (Ψ.YW []) [] s x=.bad\/O2 T st xt (Ψ.YW []) [] s x=O2 T st xt (Ψ.YW []) σ s x:=by
 unfold O2;cases a:P0 [] x with
 | none=>left;split<;>simp_all
 | some r=>rw[vD a];exact .inr rfl
theorem vB (a:ZL P T) (b:Holds S B σ H) (src dst:TypeId) {x:Ψ} {v:Value} (c:Θ S B σ x v):Zv P (convert src dst v) S B H σ ((N4 T σ src dst x).YX σ):=by
 have d:=wN a b src dst c
 have e:=v' a b src dst c;unfold N4;split
 .split
  .exact v3 a b src dst c
  .exact e
 .exact d
theorem vA {src dst:TypeId} {x:Ψ}:N9 T src dst [] x=.bad\/N9 T src dst [] x=N9 T src dst σ x:=by
 unfold N9;split
 .cases a:R8 [] x with
  | none=>exact .inl rfl
  | some r=>rw[BW a];exact .inr rfl
 .exact .inl U
theorem vz {src dst:TypeId} {x:Ψ}:N8 T src dst [] x=.bad\/N8 T src dst [] x=N8 T src dst σ x:=by
 unfold N8;split
 .cases a:R8 [] x with
  | none=>exact .inl rfl
  | some r=>rw[BW a];exact .inr rfl
 .exact .inl U
theorem vy {src dst:TypeId} {x:Ψ}:N7 T src dst [] x=.bad\/N7 T src dst [] x=N7 T src dst σ x:=by
 unfold N7;split
 .exact vz
 .exact vA
theorem vx {src dst:TypeId} {x:Ψ}:N4 T [] src dst x=.bad\/N4 T [] src dst x=N4 T σ src dst x:=by
 unfold N4;split
 .split
  .exact vy
  .exact .inr U
 .exact .inr U
theorem vw {src dst:TypeId} {x:Ψ}:QR T [] src dst x=.bad\/QR T [] src dst x=QR T σ src dst x\/QR T [] src dst x=Kb T src dst x:=by
 unfold QR;rcases vx (T:=T) (σ:=σ) (src:=src) (dst:=dst) (x:=x) with h|h
 .rw[h];exact .inr (.inr U)
 .rw[h];exact .inr (.inl U)
theorem Fg (a:ZL P T) (b:Holds S B σ H) (src dst:TypeId) {x:Ψ} {v:Value} (c:Θ S B σ x v):Zv P (convert src dst v) S B H σ ((QR T σ src dst x).YX σ):=by
 unfold QR;split
 .exact BX a b src dst c
 .exact vB a b src dst c
theorem vv (a:ZL P T) (b:Holds S B σ H) (src dst:TypeId) {x:Ψ} {v:Value} (c:Θ S B σ x v):Zv P (convert src dst v) S B H σ (Hy T σ src dst x):=by
 unfold Hy;split
 .split
  .exact vT a b src dst c
  .exact Fg a b src dst c
 .exact Fg a b src dst c
theorem BV (n:Holds S B σ H) (K:Ψ->Ρ->Prop):∀(l:ψ) (a:Ψ) (v:Value) (vs:List Value),Θ S B σ a v->l.length=vs.length->(∀(i:Nat) (b:Ψ) (w:Value),l[i]?=some b->vs[i]?=some w->Θ S B σ b w)->
  (((PW true a l).YX σ).holds K->Χ P (vs.foldlM Builtin.max2 v) H (XS S B H σ K) (λ_ _=>False))/\(((PW false a l).YX σ).holds K->Χ P (vs.foldlM Builtin.min2 v) H (XS S B H σ K) (λ_ _=>False)):=by
 intro l
 induction l with
 | nil=>
  intro a v vs c d _;obtain rfl:vs=[]:=YZ.1 d.symm;have e:∀b,((PW b a []).YX σ).holds K->XS S B H σ K v H:=λb h=>by
   unfold PW at h;split at h
   .cases c;exact .same n h (.z _)
   .exact h.elim
  exact⟨λh=>Χ.pure' (e _ h),λh=>Χ.pure' (e _ h)⟩
 | cons b l o=>
  intro a v vs c d f;cases vs with
  | nil=>cases d
  | cons w vs=>
   have g:=f 0 b w U U
   have j:=λ(a':Ψ) (m:Value) (p:Θ S B σ a' m)=>o a' m vs p (by simpa using d) λi r w' s t=>f (i+1) r w' (by simpa using s) (by simpa using t);constructor
   .intro h;unfold PW at h;split at h
    .rename_i k x u y;cases c;cases g;exact(j _ _ (Θ.z (.int k (if y > x then y else x)))).1 (by simpa using h)
    .exact h.elim
   .intro h;unfold PW at h;split at h
    .rename_i k x u y;cases c;cases g;exact(j _ _ (Θ.z (.int k (if y<x then y else x)))).2 (by simpa using h)
    .exact h.elim
theorem vu (f:ZL P T) (d:Holds S B σ H) (l:Zg S B σ env t) (o:Oper):Does P (execOp (ZW t) o) S B H σ ((WT T A env o).YX σ):=by
 have R:∀x,Θ S B σ (ο env x) (ZW t x):=λx=>TH l x;obtain⟨dst,p,r,pos,u,guard⟩:=o;unfold WT;simp only;split
 .exact Does.val d (R _)
 .exact Does.val d (R _)
 .rename_i c a b;have:=(vF (P:=P) d (R c) (R a) (R b)).next;unfold execOp;simp only;refine λK g=>?_;have j:=this K g;simpa using j
 .split
  .exact .bad
  .exact(xb f d _).next
 .split
  .exact .bad
  .exact(xe d _ (R _)).next
 .exact(Cj f d (λa h=>Ih h) _ l _).next
 .split
  .exact .bad
  .exact(Ch f d (λa h=>Ih h) _ _ l _).next
 .exact(xp f d (R _)).next
 .exact(wj f d _ _ _ _ (R _) (R _)).next
 .exact(xv d _ (R _)).next
 .rename_i a b x;rcases vw (T:=T) (σ:=σ) (src:=a) (dst:=b) (x:=ο env x) with h|h|h
  .rw[h];exact .bad
  .rw[h];exact(Fg f d _ _ (R _)).next
  .rw[h];exact(BX f d _ _ (R _)).next
 .exact(wi f d _ (R _) (R _)).next
 .exact wh d U (R _)
 .exact(wc f d _ (R _)).next
 .exact(xr f d _ (R _)).next
 .exact Zv.next (Zv.pure d (vE l _ _ _))
 .split
  .exact .bad
  .exact(w5 f d (R _) (R _)).next
 .exact(wR f d _ (R _) (LF l _) (LF l _)).next
 .exact(vQ f d _ (R _) (LF l _) (R _) (R _)).next
 .exact(xn f d (R _)).next
 .exact(xj f d (R _) (R _)).next
 .exact(xq f d _ _ _ (R _)).next
 .exact(xu d _ (R _)).next
 .split
  .exact λK g=>by
       refine Χ.bind' (Χ.pure' ?_);have e:∀x:Operand,Array.map (ZW t) {toList:=[x]}=#[ZW t x]:=λx=>Ω;simp only[invoke,builtin,e];exact(wP f d _ _ (R _)).next K g
  .exact λK g=>by
       refine Χ.bind' (Χ.pure' ?_);have e:∀x:Operand,Array.map (ZW t) {toList:=[x]}=#[ZW t x]:=λx=>Ω;simp only[invoke,builtin,e];exact(vS f d _ _ (R _)).next K g
  .exact .bad
 .split
  .exact λK g=>by
       refine Χ.bind' (Χ.pure' ?_);have e:∀x y:Operand,Array.map (ZW t) {toList:=[x,y]}=#[ZW t x,ZW t y]:=λx y=>Ω;simp only[invoke,builtin,e];exact(wM d _ _ (R _) (R _)).next K g
  .exact λK g=>by
       refine Χ.bind' (Χ.pure' ?_);have e:∀x y:Operand,Array.map (ZW t) {toList:=[x,y]}=#[ZW t x,ZW t y]:=λx y=>Ω;simp only[invoke,builtin,e];refine(show Zv P (Builtin.min_ _ _ #[ZW t _,ZW t _]) S B H σ _ from λK g=>?_).next K g;exact(BV d K [_] _ _ [_] (R _) U (λi b w k j=>by
        match i with
        | 0=>simp at k j;subst k;subst j;exact R _
        | i+1=>simp at k)).2 g
  .split
   .exact .bad
   .rename_i x y m n _ _;rcases vC (T:=T) (σ:=σ) (st:=m) (xt:=n) (s:=ο env x) (x:=ο env y) with h|h
    .rw[h];exact .bad
    .rw[h];exact λK g=>by
       refine Χ.bind' (Χ.pure' ?_);have e:∀x y:Operand,Array.map (ZW t) {toList:=[x,y]}=#[ZW t x,ZW t y]:=λx y=>Ω;simp only[invoke,builtin,e];exact(Cd f d (λa h=>Ih h) _ _ _ (R _) (R _)).next K g
  .exact .bad
 .exact λK g=>by
   refine Χ.bind' (Χ.pure' ?_);have e:∀x y z:Operand,Array.map (ZW t) {toList:=[x,y,z]}=#[ZW t x,ZW t y,ZW t z]:=λx y z=>Ω;simp only[invoke,builtin,e];refine(show Zv P (Builtin.max_ _ _ #[ZW t _,ZW t _,ZW t _]) S B H σ _ from λK g=>?_).next K g;exact(BV d K [_,_] _ _ [_,_] (R _) U (λi b w k j=>by
    match i with
    | 0=>simp at k j;subst k;subst j;exact R _
    | 1=>simp at k j;subst k;subst j;exact R _
    | i+2=>simp at k)).1 g
 .exact .bad
theorem vr (c:ZL P T) (b:Holds S B σ H) (f:Zg S B σ env t) (o:Oper):Does P (execOp (ZW t) o) S B H σ (Xa T A env σ o):=by
 have R:∀x,Θ S B σ (ο env x) (ZW t x):=λx=>TH f x;obtain⟨dst,g,i,pos,j,guard⟩:=o;unfold Xa;simp only;split
 .split
  .exact(xc c b _).next
  .exact .bad
 .split
  .exact(xd b _ (R _)).next
  .exact(xf b _ (R _)).next
 .exact(Cj c b (λa h=>h) _ f _).next
 .split
  .exact(w9 c b _ _ f _).next
  .exact(Ch c b (λa h=>h) _ _ f _).next
 .exact(xo c b (R _)).next
 .exact(xg c b (R _) (R _)).next
 .exact(vv c b _ _ (R _)).next
 .exact we b U (R _)
 .exact(vZ c b _ _ _ (R _)).next
 .exact(vV c b _ _ _ _ (R _) (R _)).next
 .exact(wE b _).next
 .exact(B7 c b (R _) (R _) (R _)).next
 .exact(B7 c b (R _) (R _) (R _)).next
 .exact(wD c b (R _) (R _)).next
 .exact(vY c b (R _)).next
 .exact(wz b _ (R _)).next
 .exact(vX b _ (R _)).next
 .exact(wy b (R _)).next
 .split
  .split
   .exact(w7 c b (R _) (R _)).next
   .exact(w8 c b (R _) (R _)).next
  .exact .bad
 .exact(wQ c b _ (R _) (LF f _) (LF f _)).next
 .exact(vP c b _ (R _) (LF f _) (R _) (R _)).next
 .exact(xm c b (R _)).next
 .exact(xi c b (R _) (R _)).next
 .split
  .exact λK d=>by
       refine Χ.bind' (Χ.pure' ?_);have e:∀x:Operand,Array.map (ZW t) {toList:=[x]}=#[ZW t x]:=λx=>Ω;simp only[invoke,builtin,e];exact(wO c b _ _ (R _)).next K d
  .exact λK d=>by
       refine Χ.bind' (Χ.pure' ?_);have e:∀x:Operand,Array.map (ZW t) {toList:=[x]}=#[ZW t x]:=λx=>Ω;simp only[invoke,builtin,e];exact(wu c b _ (R _)).next K d
  .exact λK d=>by
       refine Χ.bind' (Χ.pure' ?_);have e:∀x:Operand,Array.map (ZW t) {toList:=[x]}=#[ZW t x]:=λx=>Ω;simp only[invoke,builtin,e];exact(vO c b _ _ (R _)).next K d
  .exact .bad
 .split
  .split
   .exact λK d=>by
       refine Χ.bind' (Χ.pure' ?_);have e:∀x y:Operand,Array.map (ZW t) {toList:=[x,y]}=#[ZW t x,ZW t y]:=λx y=>Ω;simp only[invoke,builtin,e];exact(wT c b _ _ _ (R _) (R _)).next K d
   .exact λK d=>by
       refine Χ.bind' (Χ.pure' ?_);have e:∀x y:Operand,Array.map (ZW t) {toList:=[x,y]}=#[ZW t x,ZW t y]:=λx y=>Ω;simp only[invoke,builtin,e];exact(Cd c b (λa h=>h) _ _ _ (R _) (R _)).next K d
  .exact λK d=>by
       refine Χ.bind' (Χ.pure' ?_);have e:∀x y:Operand,Array.map (ZW t) {toList:=[x,y]}=#[ZW t x,ZW t y]:=λx y=>Ω;simp only[invoke,builtin,e];exact(vN c b _ _ _ (R _) (R _)).next K d
  .exact λK d=>by
       refine Χ.bind' (Χ.pure' ?_);have e:∀x y:Operand,Array.map (ZW t) {toList:=[x,y]}=#[ZW t x,ZW t y]:=λx y=>Ω;simp only[invoke,builtin,e];exact(vK c b _ _ _ (R _) (R _)).next K d
  .exact λK d=>by
       refine Χ.bind' (Χ.pure' ?_);have e:∀x y:Operand,Array.map (ZW t) {toList:=[x,y]}=#[ZW t x,ZW t y]:=λx y=>Ω;simp only[invoke,builtin,e];exact(vH c b _ _ _ (R _) (R _)).next K d
  .exact .bad
 .exact .bad
end
inductive η (h:Nat):Ψ->Prop where
 | z (v:Value):η h (.z v)
 | Ν {l:ψ}:(∀a∈l,η h a)->η h (.Ν l)
 | sl {ex:Bool} {k:Nat} {l:ψ}:(∀e∈l,∀a∈e.cells,η h a)->η h (.sl ex k l)
 | Z6 {l:ψ}:(∀a∈l,η h a)->η h (.Z6 l)
 | ε {l:ψ}:(∀a∈l,η h a)->η h (.ε l)
 | π {id n i j:Nat}:id<h->η h (.π id n i j)
 | ms {id n i len:Nat}:id<h->η h (.ms id n i len)
 | fn {f:Fn} {b cs:ψ}:(∀a∈b,η h a)->(∀a∈cs,η h a)->η h (.fn f b cs)
 | Xi {t:TypeId} {a:Ψ}:η h a->η h (.Xi t a)
 | mp {id:Nat}:id<h->η h (.mp id)
 | it {id:Nat}:id<h->η h (.it id)
 | Zx:η h .Zx
def YR (h:Nat):Row->Prop
 | .cells _ _ l=>∀e∈l,∀a∈e.cells,η h a
 | .map es=>∀e∈es,η h e.1/\η h e.2
 | .iter m left b=>m<h/\(∀e∈left,η h e.1/\η h e.2)/\∀e,b=some e->η h e.1/\η h e.2
 | .str _ _=>True
 | .loop _ _ _ _ _ _ env=>∀i,η h (ι env i)
 | .own _ _ l=>∀a∈l,η h a
 | .dead=>True
inductive Y0 (h:Nat) (σ:Ρ):Ψ->Ψ->Prop where
 | low {a:Ψ}:η h a->Y0 h σ a a
 | Zx (a:Ψ):Y0 h σ a .Zx
 | ms {id n i len k:Nat} {t:TypeId} {l b:ψ}:h<=id->σ[id]?=some (.cells t k l)->l.length=n->i+len<=n->b.length=len->
   (∀(j:Nat) (e c:Ψ),l[i+j]?=some e->b[j]?=some c->c.cells.length=e.cells.length)->(∀(j:Nat) (e c:Ψ),l[i+j]?=some e->b[j]?=some c->∀(x:Nat) (a a':Ψ),e.cells[x]?=some a->c.cells[x]?=some a'->Y0 h σ a a')->Y0 h σ (.ms id n i len) (.sl false k b)
 | π {id n i j k:Nat} {t:TypeId} {l cs:ψ} {e:Ψ}:h<=id->σ[id]?=some (.cells t k l)->l.length=n->l[i]?=some e->cs.length<=e.cells.length-j->
   (∀(x:Nat) (a a':Ψ),e.cells[j+x]?=some a->cs[x]?=some a'->Y0 h σ a a')->Y0 h σ (.π id n i j) (.Ν cs)
 | Z6 {l b:ψ}:b.length=l.length->(∀(x:Nat) (a a':Ψ),l[x]?=some a->b[x]?=some a'->Y0 h σ a a')->Y0 h σ (.Z6 l) (.Z6 b)
 | ε {l b:ψ}:b.length=l.length->(∀(x:Nat) (a a':Ψ),l[x]?=some a->b[x]?=some a'->Y0 h σ a a')->Y0 h σ (.ε l) (.ε b)
 | fn {f:Fn} {d g cs cs':ψ}:g.length=d.length->cs'.length=cs.length->(∀(x:Nat) (a a':Ψ),d[x]?=some a->g[x]?=some a'->Y0 h σ a a')->(∀(x:Nat) (a a':Ψ),cs[x]?=some a->cs'[x]?=some a'->Y0 h σ a a')->Y0 h σ (.fn f d cs) (.fn f g cs')
section
variable {S:ς} {B:δ} {H:Υ} {σ:Ρ} {h:Nat}
def Late (B:δ) (σ:Ρ) (h b:Nat):Prop:=∃id t k l N,h<=id/\σ[id]?=some (Row.cells t k l)/\B[id]?=some (some (b,N))
open Classical in
noncomputable def ς.close (S:ς) (B:δ) (σ:Ρ) (H:Υ) (h:Nat):ς:=λb o=>if Late B σ h b then(H.ω b o).map (·.1) else S b o
theorem Hx (a:Holds S B σ H):∀b o v,S b o=some v->S.close B σ H h b o=some v:=λb o v hv=>by
 unfold ς.close;split
 .rename_i c;obtain⟨id,t,k,l,N,f,d,e⟩:=c;have:=a.sep id _ b N d trivial e o;rw[hv] at this;cases this
 .exact hv
theorem Θ.Rr (t:Holds S B σ H) {a:Ψ} {v:Value} (u:Θ S B σ a v) (d:η h a):Θ (S.close B σ H h) (B.take h) (σ.take h) a v:=by
 have k:∀{x:Type} (l:List x) (i:Nat),i<h->(l.take h)[i]?=l[i]?:=λl i hi=>TV hi
 induction u with
 | z v=>exact .z v
 | Ν b o w f _ m=>
  cases d with
  | Ν d=>exact .Ν b o w (λj a n=>Hx t _ _ _ (f j a n)) λj a n=>m j a n (d a (ZH n))
 | WJ base cap h=>exact .WJ base cap h
 | sl b o cap w f g p r _ m=>
  cases d with
  | sl d=>exact .sl b o cap w f g p (λi e hi j c n=>Hx t _ _ _ (r i e hi j c n)) λi e hi j c n=>m i e hi j c n (d e (ZH hi) c (ZH n))
 | Z6 vs f _ m=>
  cases d with
  | Z6 d=>exact .Z6 vs f λi a v hi hv=>m i a v hi hv (d a (ZH hi))
 | ε vs f _ m=>
  cases d with
  | ε d=>exact .ε vs f λi a v hi hv=>m i a v hi hv (d a (ZH hi))
 | π f g p=>
  cases d with
  | π d=>exact .π (by rw[k _ _ d];exact f) g (by rw[k _ _ d];exact p)
 | VI v f g s=>
  cases d with
  | π d=>exact .VI v (by rw[k _ _ d];exact f) g s
 | ms cap f g p r y A=>
  cases d with
  | ms d=>exact .ms cap (by rw[k _ _ d];exact f) g (by rw[k _ _ d];exact p) r y A
 | Wu v f g s=>
  cases d with
  | ms d=>exact .Wu v (by rw[k _ _ d];exact f) g s
 | fn vs C f g _ _ D E=>
  cases d with
  | fn F I=>exact .fn vs C f g (λi a v hi hv=>D i a v hi hv (F a (ZH hi))) λi a v hi hv=>E i a v hi hv (I a (ZH hi))
 | Xi v _ m=>
  cases d with
  | Xi d=>exact .Xi v (m d)
 | mp f g=>
  cases d with
  | mp d=>exact .mp (by rw[k _ _ d];exact f) (by rw[k _ _ d];exact g)
 | Uf v f=>
  cases d with
  | mp d=>exact .Uf v (by rw[k _ _ d];exact f)
 | it f g=>
  cases d with
  | it d=>exact .it (by rw[k _ _ d];exact f) (by rw[k _ _ d];exact g)
 | SC f g=>
  cases d with
  | it d=>exact .SC (by rw[k _ _ d];exact f) (by rw[k _ _ d];exact g)
 | TM v f=>
  cases d with
  | it d=>exact .TM v (by rw[k _ _ d];exact f)
 | Zx v=>exact .Zx v
theorem BU {id b N:Nat} {t:TypeId} {k:Nat} {l:ψ} (a:h<=id) (c:σ[id]?=some (.cells t k l)) (d:B[id]?=some (some (b,N))) {o:Nat} {v:Value} {p:Bool} (hv:H.ω b o=some (v,p)):S.close B σ H h b o=some v:=by
 unfold ς.close;rw[if_pos ⟨id,t,k,l,N,a,c,d⟩,hv];rfl
theorem Θ.vq (K:Holds S B σ H) {a a':Ψ} (V:Y0 h σ a a'):∀{v:Value},Θ S B σ a v->Θ (S.close B σ H h) (B.take h) (σ.take h) a' v:=by
 induction V with
 | low W=>intro v m;exact m.Rr K W
 | Zx a=>intro v _;exact .Zx v
 | @ms id n i len k t l L g f X M D R _ y=>
  intro v m;cases m with
  | ms cap c o A T ab O=>
   rw[f] at c;cases c;by_cases U:L=[]
   .subst U;have:len=0:=by rw[<-D];rfl
    subst this;exact .WJ _ _ Ω
   .have ad:0<len:=by rw[<-D];exact Pg.2 U
    rcases O with O|⟨b,N,rfl,rfl,O⟩
    .omega
    .obtain⟨_,_,_,w,C⟩:=K.row id _ _ f A;have el:∀(j:Nat) (p:Ψ),L[j]?=some p->∃e,l[i+j]?=some e/\e.cells.length=k/\p.cells.length=k:=λj p s=>by
      have u:j<len:=by rw[<-D];exact(ZR.1 s).1
      have E:l[i+j]?=some l[i+j]:=Z4 I;exact⟨_,E,(C _ _ E).1,(R j _ p E s).trans (C _ _ E).1⟩
     have:=Θ.sl (S:=S.close B σ H h) (B:=B.take h) (σ:=σ.take h) (ex:=false) (k:=k) (l:=L) b (i*k) cap (λj x=>w (i+j) x) Ω I (λj p s=>(el j p s).choose_spec.2.2)
      (λj p s x a' r=>by
       obtain⟨e,F,P,Q⟩:=el j p s;have J:x<e.cells.length:=by rw[P,<-Q];exact(ZR.1 r).1
       have:=((C _ e F).2 x _ (Z4 J)).1;rw[XF] at this;exact BU g f A this)
      (λj p s x a' r=>by
       obtain⟨e,F,P,Q⟩:=el j p s;have J:x<e.cells.length:=by rw[P,<-Q];exact(ZR.1 r).1
       exact y j e p F s x _ a' (Z4 J) r ((C _ e F).2 x _ (Z4 J)).2.1)
     rw[D] at this;exact this
  | Wu v c o=>rw[f] at c;cases c;simp only[Row.Xx] at o;omega
 | @π id n i j k t l cs e g f X M D R y=>
  intro v m;cases m with
  | π c o A=>
   rw[f] at c;cases c;obtain⟨_,_,_,w,C⟩:=K.row id _ _ f A;have el:∀(x:Nat) (a':Ψ),cs[x]?=some a'->∃a,e.cells[j+x]?=some a:=λx a' r=>by
    have:=(ZR.1 r).1;exact⟨_,Z4 I⟩
   refine .Ν _ _ (λx=>w i (j+x)) (λx a' r=>?_) (λx a' r=>?_)
   .obtain⟨a,d⟩:=el x a' r;have:=((C i e M).2 _ a d).1;rw[<-U9] at this;exact BU g f A this
   .obtain⟨a,d⟩:=el x a' r;exact y x a a' d r ((C i e M).2 _ a d).2.1
  | VI v c o=>rw[f] at c;cases c;simp only[Row.Xx] at o;omega
 | Z6 g f y=>
  intro v m;cases m with
  | Z6 vs c o=>
   refine .Z6 vs (by rw[g,c]) λi a' w hi hv=>?_;have u:=(ZR.1 hi).1;have d:=Z4 (g▸u);exact y i _ a' d hi (o i _ w d hv)
 | ε g f y=>
  intro v m;cases m with
  | ε vs c o=>
   refine .ε vs (by rw[g,c]) λi a' w hi hv=>?_;have u:=(ZR.1 hi).1;have d:=Z4 (g▸u);exact y i _ a' d hi (o i _ w d hv)
 | fn g f _ _ Y Z=>
  intro v m;cases m with
  | fn vs aa c o A T=>
   refine .fn vs aa (by rw[g,c]) (by rw[f,o]) (λi a' w hi hv=>?_) (λi a' w hi hv=>?_)
   .have u:=(ZR.1 hi).1
    have d:=Z4 (g▸u);exact Y i _ a' d hi (A i _ w d hv)
   .have u:=(ZR.1 hi).1
    have d:=Z4 (f▸u);exact Z i _ a' d hi (T i _ w d hv)
theorem Wi.Rr (g:Holds S B σ H) {r:Row} {bo:Option (Nat×Nat)} (u:Wi S B σ H r bo) (A:YR h r):Wi (S.close B σ H h) (B.take h) (σ.take h) H r bo:=by
 have K:∀{R:Type} (l:List R) (i:Nat),i<h->(l.take h)[i]?=l[i]?:=λl i hi=>TV hi;cases r with
 | cells t k l=>
  cases bo with
  | none=>exact u
  | some x=>
   obtain⟨b,N⟩:=x;obtain⟨n,p,v,w,C⟩:=u;refine⟨n,p,v,w,λi e hi=>⟨(C i e hi).1,λj a D=>?_⟩⟩;obtain⟨c1,c2,E⟩:=(C i e hi).2 j a D;exact⟨c1,c2.Rr g (A e (ZH hi) a (ZH D)),E⟩
 | map es=>
  obtain⟨b,N,F,I,rfl,n,p,v,C⟩:=u;exact⟨b,N,F,I,U,n,p,λi e y a b=>by
   obtain⟨c1,c2,E⟩:=v i e y a b;exact⟨c1.Rr g (A e (ZH a)).1,c2.Rr g (A e (ZH a)).2,E⟩,C⟩
 | iter m left ad=>
  obtain⟨O,P,Q⟩:=A;obtain⟨b,N,T,V,F,I,seen,rfl,n,p,v,C,⟨W,X,Y,Z⟩,aa,ab⟩:=u;refine⟨b,N,T,V,F,I,seen,U,by rw[K _ _ O];exact n,by rw[K _ _ O];exact p,v,C,⟨W,X,Y,λi e y a b=>?_⟩,aa,λe J=>?_⟩
  .obtain⟨c1,c2⟩:=Z i e y a b;exact⟨c1.Rr g (P e (ZH a)).1,c2.Rr g (P e (ZH a)).2⟩
  .obtain⟨st,y,a,b,c,d⟩:=ab e J;exact⟨st,y,a,b,c.Rr g (Q e J).1,d.Rr g (Q e J).2⟩
 | str s pos=>exact u
 | loop L st ae a bd nt env=>
  obtain⟨N,f,d,t,rfl,n,p,v⟩:=u;exact⟨N,f,d,t,U,n,p,λi=>(v i).Rr g (A i)⟩
 | own c o l=>
  obtain⟨N,t,M,rfl,n,w,p⟩:=u;refine⟨N,t,M,U,n,w,λj a D=>?_⟩;obtain⟨c1,c2,E⟩:=p j a D;exact⟨c1,c2.Rr g (A a (ZH D)),E⟩
 | dead=>trivial
theorem Holds.close (a:Holds S B σ H) (u:∀(id:Nat) (r:Row),id<h->σ[id]?=some r->YR h r) :
  Holds (S.close B σ H h) (B.take h) (σ.take h) H/\Ext S B H (S.close B σ H h) (B.take h) H:=by
 have c:∀{n:Type} (l:List n) (i:Nat) (x:n),(l.take h)[i]?=some x->i<h/\l[i]?=some x:=λl i x hi=>by
  rw[RJ] at hi;split at hi
  .exact⟨‹_›,hi⟩
  .cases hi
 refine⟨⟨λb o v hv=>?_,by simp[a.len],λid r bo g m=>?_,λi j w y b A C D hi E F J K L=>?_,λid r b N g f m o=>?_⟩,⟨Hx a,λb _ _=>TK.of ⟨λ_=>rfl,U,U⟩,λb ⟨N,M⟩=>.inl ⟨N,Nw M⟩,λb o v hv=>?_,λ_ h=>h⟩⟩
 .unfold ς.close at hv;split at hv
  .cases p:H.ω b o with
   | none=>rw[p] at hv;cases hv
   | some x=>rw[p] at hv;cases hv;exact⟨x.2,rfl⟩
  .exact a.Zf b o v hv
 .obtain⟨s,e⟩:=c _ _ _ g;obtain⟨_,d⟩:=c _ _ _ m;exact(a.row id r bo e d).Rr a (u id r s e)
 .exact a.inj i j w y b A C D (c _ _ _ hi).2 (c _ _ _ E).2 F J (c _ _ _ K).2 (c _ _ _ L).2
 .obtain⟨s,e⟩:=c _ _ _ g;obtain⟨_,d⟩:=c _ _ _ m;unfold ς.close;rw[if_neg]
  .exact a.sep id r b N e f d o
  .rintro⟨O,t,k,l,P,T,Q,R⟩;exact a.inj id O r _ b N P I e Q f trivial d R
 .unfold ς.close at hv;split at hv
  .rename_i f;obtain⟨id,t,k,l,N,_,_,d⟩:=f;exact .inr (.inl (TI d))
  .exact .inl hv
theorem ZJ.close {a:ς} {c:δ} {σ0:Ρ} (g:Holds S B σ H) (d:ZJ a S c B σ0 σ) (i:σ0.length<=h):ZJ a (S.close B σ H h) c (B.take h) σ0 (σ.take h):=
 ⟨λb o v hv=>Hx g b o v (d.Zf b o v hv),λid r e=>by
  have f:id<h:=KO (ZR.1 e).1 i;obtain⟨r',j,k⟩:=d.rows id r e;exact⟨r',by rw[TV f];exact j,by rw[TV f];exact k⟩⟩
end
end Go.TL
namespace Go.TL
open Go.Conc
variable [Z1]
structure Xw (m:Nat) (S:ς) (B:δ) (H:Υ) (σ:Ρ) (S':ς) (B':δ) (H':Υ) (σ':Ρ):Prop where
 ext:Ext S B H S' B' H'
 later:ZJ S S' (B.take m) B' (σ.take m) σ'
structure XR (m nt:Nat) (S:ς) (B:δ) (H:Υ) (σ:Ρ) (env:Β) (t:ν):Prop where
 holds:Holds S B σ H
 Zt:Zg S B σ env t
 size:t.size=nt
 rows:m<=σ.length
section
variable {m:Nat} {S S' BT:ς} {B B' BS:δ} {H H' BR:Υ} {σ σ' BQ:Ρ}
theorem ZJ.left (h:ZJ S S' B B' σ σ') (m:Nat):ZJ S S' (B.take m) B' (σ.take m) σ':=
 ⟨h.Zf,λid r a=>by
  rw[RJ] at a;split at a
  .rename_i b;rw[TV b];exact h.rows id r a
  .cases a⟩
theorem ZJ.right (h:ZJ S S' B B' σ σ') (c:σ.length<=m):ZJ S S' B (B'.take m) σ (σ'.take m):=
 ⟨h.Zf,λid r a=>by
  have b:id<m:=KO (ZR.1 a).1 c;rw[TV b,TV b];exact h.rows id r a⟩
theorem Xw.of (h:Ext S B H S' B' H') (k:ZJ S S' B B' σ σ'):Xw m S B H σ S' B' H' σ':=⟨h,k.left m⟩
theorem Xw.refl:Xw m S B H σ S B H σ:=.of (.refl _ _ _) (.refl _ _ _)
theorem Xw.trans (h:Xw m S B H σ S' B' H' σ') (k:Xw m S' B' H' σ' BT BS BR BQ):Xw m S B H σ BT BS BR BQ:=
 ⟨h.ext.trans k.ext,(h.later.right (m:=m) (by simp;omega)).trans k.later⟩
theorem ZJ.length (h:ZJ S S' B B' σ σ'):σ.length<=σ'.length:=by
 apply TW;intro c;have a:σ'.length<σ.length:=I;obtain⟨r',b,_⟩:=h.rows σ'.length _ (Z4 a);simp at b
end
def Leaves (j:ZA) (k:ZA):Prop:=k=j
def W (P:Program) (m nt:Nat) (k:ZA) (env:Β) (σ:Ρ) (Z:XD) (E:Yb):Prop:=
 ∀(d:Value->Prop) (mn:Bool) (x:Wv) (cs:Y3) (b:Frame) (S:ς) (B:δ) (H:Υ) (t:ν),Seq x->b.mode=.run->XR m nt S B H σ env t->
  (∀(j:ZA) (env':Β) (σ':Ρ) (S':ς) (B':δ) (H':Υ) (t':ν) (c:ZA),Z j env' σ'->Xw m S B H σ S' B' H' σ'->XR m nt S' B' H' σ' env' t'->Leaves j c->μ P d mn x (χ b t' c) cs H')->
  (∀(a:Ψ) (env':Β) (σ':Ρ) (S':ς) (B':δ) (H':Υ) (t':ν) (c:ZA) (v:Value),E a env' σ'->Xw m S B H σ S' B' H' σ'->Holds S' B' σ' H'->Zg S' B' σ' env' t'->Θ S' B' σ' a v->μ P d mn x {χ b t' c with mode:=.panicking [{v,recovered:=false}]} cs H')->
  μ P d mn x (χ b t k) cs H
section
variable {P:Program} {m nt:Nat} {k:ZA} {env:Β} {σ:Ρ} {Z:XD} {E:Yb}
theorem W.mono {f:XD} {E':Yb} (h:W P m nt k env σ Z E) (g:∀j e s,Z j e s->f j e s) (i:∀a e s,E a e s->E' a e s):W P m nt k env σ f E':=
 λl mn x cs b S B H t n o p r u=>h l mn x cs b S B H t n o p (λj env' σ' S' B' H' t' d a=>r j env' σ' S' B' H' t' d (g _ _ _ a)) (λa env' σ' S' B' H' t' d v c=>u a env' σ' S' B' H' t' d v (i _ _ _ c))
theorem W.stop (h:Z k env σ):W P m nt k env σ Z E:=λ_ _ _ _ _ S B H t _ _ a b _=>b k env σ S B H t k h .refl a rfl
theorem W.nil (h:Z [] env σ):W P m nt [] env σ Z E:=.stop h
theorem W.ret (h:Z (.code .ret::k) env σ):W P m nt (.code .ret::k) env σ Z E:=.stop h
theorem W.skip (h:W P m nt k env σ Z E):W P m nt (.code .skip::k) env σ Z E:=λd mn x cs b S B H t a c e f g=>.skip a c (h d mn x cs b S B H t a c e f g)
theorem W.label {l:Nat} (h:W P m nt k env σ Z E):W P m nt (.code (.label l)::k) env σ Z E:=λd mn x cs b S B H t a c e f g=>.label a c (h d mn x cs b S B H t a c e f g)
theorem W.inBlock {l:Nat} (h:W P m nt k env σ Z E):W P m nt (.inBlock l::k) env σ Z E:=λd mn x cs b S B H t a c e f g=>.inBlock a c (h d mn x cs b S B H t a c e f g)
theorem W.inScope {c:Code} (h:W P m nt k env σ Z E):W P m nt (.inScope c::k) env σ Z E:=λe mn x cs b S B H t a d f g i=>.inScope a d (h e mn x cs b S B H t a d f g i)
theorem W.seq {a c:Code} (h:W P m nt (.code a::.code c::k) env σ Z E):W P m nt (.code (.seq a c)::k) env σ Z E:=λf mn x cs b S B H t d e g i j=>.seq d e (h f mn x cs b S B H t d e g i j)
theorem W.block {l:Nat} {c:Code} (h:W P m nt (.code c::.inBlock l::k) env σ Z E):W P m nt (.code (.block l c)::k) env σ Z E:=λe mn x cs b S B H t a d f g i=>.block a d (h e mn x cs b S B H t a d f g i)
theorem W.inLoop {c:Code} (h:W P m nt (.code c::.inLoop c::k) env σ Z E):W P m nt (.inLoop c::k) env σ Z E:=λe mn x cs b S B H t a d f g i=>.inLoop a d (h e mn x cs b S B H t a d f g i)
theorem W.loop {c:Code} (h:W P m nt (.code c::.inLoop c::k) env σ Z E):W P m nt (.code (.loop c)::k) env σ Z E:=λe mn x cs b S B H t a d f g i=>.loop a d (h e mn x cs b S B H t a d f g i)
theorem W.scope {c:Code} (h:W P m nt (.code c::.inScope c::k) env σ Z E):W P m nt (.code (.scope c)::k) env σ Z E:=λe mn x cs b S B H t a d f g i=>.scope a d (h e mn x cs b S B H t a d f g i)
theorem W.exit {id:Nat} {a:ZA} (e:exitTo id k=some a) (h:W P m nt a env σ Z E):W P m nt (.code (.exit id)::k) env σ Z E:=λf mn x cs b S B H t c d g i j=>.exit c d e (h f mn x cs b S B H t c d g i j)
theorem W.cond {c:Operand} {a e:Code} {v:Bool} (i:ο env c=.z (.bool v)) (h:W P m nt (.code (if v then a else e)::k) env σ Z E):W P m nt (.code (.cond c a e)::k) env σ Z E:=λj mn x cs b S B H t d f g l n=>by
 refine .cond (v:=v) d f ?_ (h j mn x cs b S B H t d f g l n);have:=TH g.Zt c;rw[i] at this;rw[Kr];generalize ZW t c=u at this;cases this;rfl
theorem W.cut (h:Nat) (V:m<=h) (env':Β) (X:h<=σ.length) (F:∀(id:Nat) (r:Row),id<h->σ[id]?=some r->YR h r) (I:∀p∈env',Y0 h σ (ι env p.1) p.2) (J:W P m nt k env' (σ.take h) Z E):W P m nt k env σ Z E:=
 λK mn x cs b S B H t L M c N O=>by
 obtain⟨c1,c2⟩:=c.holds.close F;have d:ZJ S (S.close B σ H h) (B.take m) (B.take h) (σ.take m) (σ.take h):=by
  have:=ZJ.close (h:=h) c.holds ((ZJ.refl S B σ).left m) (by simp;omega);exact this
 have D:Xw m S B H σ (S.close B σ H h) (B.take h) H (σ.take h):=⟨c2,d⟩
 have Q:∀(l:Β),(∀p∈l,Y0 h σ (ι env p.1) p.2)->∀i,Y0 h σ (ι env i) (ι l i):=by
  intro l
  induction l with
  | nil=>intro _ i;exact .Zx _
  | cons p l R=>
   intro d i;simp only[ι];split
   .rename_i e;rw[<-e];exact d p Ω
   .exact R (λq T=>d q (by simp[T])) i
 refine J K mn x cs b _ _ H t L M ⟨c1,λi=>(c.Zt i).vq c.holds (Q env' I i),c.size,by simp;omega⟩ (λj f g n o s t2 u w y A C=>?_) (λa f g n o s t2 u v w y A C U=>?_)
 .exact N j f g n o s t2 u w (D.trans y) A C
 .exact O a f g n o s t2 u v w (D.trans y) A C U
end
def XQ (S:ς) (B:δ) (σ:Ρ) (as9:ψ) (vs:ν):Prop:=as9.length=vs.size/\∀(i:Nat) (a:Ψ) (v:Value),as9[i]?=some a->vs[i]?=some v->Θ S B σ a v
structure MS (P:Program) (b:Value->Prop) (mn:Bool) (x:Wv) (c:Frame) (rest:Y3) (S:ς) (B:δ) (H:Υ) (σ:Ρ) (K:Ψ->Ρ->Prop) (E:Ψ->Ρ->Prop):Prop where
 ret:∀(a:Ψ) (σ':Ρ) (S':ς) (B':δ) (H':Υ) (v:Value),K a σ'->Ext S B H S' B' H'->ZJ S S' B B' σ σ'->Holds S' B' σ' H'->Θ S' B' σ' a v->μ P b mn x (c.finish v) rest H'
 LD:∀(a:Ψ) (σ':Ρ) (S':ς) (B':δ) (H':Υ) (v:Value),E a σ'->Ext S B H S' B' H'->ZJ S S' B B' σ σ'->Holds S' B' σ' H'->Θ S' B' σ' a v->μ P b mn x (c.raise [{v,recovered:=false}]) rest H'
def BP (P:Program) (a:Value->Prop) (mn:Bool) (x:Wv) (c:Frame) (rest:Y3):Next->Υ->Prop
 | .enter g as9,H=>μ P a mn x (Frame.enter P g as9 .normal) (c::rest) H
 | .round l f b d bd,H=>μ P a mn x (Frame.round l f b d bd .normal) (c::rest) H
 | .value v,H=>μ P a mn x (c.finish v) rest H
 | _,_=>False
def Yg (P:Program) (f:Ψ) (args:ψ) (σ:Ρ) (K:Ψ->Ρ->Prop) (E:Ψ->Ρ->Prop):Prop:=
 ∀(a:Value->Prop) (mn:Bool) (x:Wv) (c:Frame) (rest:Y3) (S:ς) (B:δ) (H:Υ) (b:Value) (vs:ν),Seq x->Holds S B σ H->Θ S B σ f b->XQ S B σ args vs->MS P a mn x c rest S B H σ K E->
  Χ P (do let d <-Deferred.ofValue b vs;invoke d.target d.args) H (BP P a mn x c rest) (λ_ _=>False)
def Plain (P:Program) (g:FuncId):Prop:=∃fn,P.funcs[g]?=some fn/\(fn.name == "runtime.NumGoroutine")=false/\fn.body.isNone=false
def Μ (P:Program) (g:FuncId) (args:ψ) (σ:Ρ) (K:Ψ->Ρ->Prop) (E:Ψ->Ρ->Prop):Prop:=
 Plain P g/\∀(a:Value->Prop) (mn:Bool) (x:Wv) (c:Frame) (rest:Y3) (S:ς) (B:δ) (H:Υ) (vs:ν),Seq x->Holds S B σ H->XQ S B σ args vs->MS P a mn x c rest S B H σ K E->
  μ P a mn x (Frame.enter P g vs .normal) (c::rest) H
section
variable {P:Program} {T:Z2} {A:κ} {m nt:Nat} {k:ZA} {env:Β} {σ:Ρ} {Z:XD} {E:Ψ->Ρ->Prop} {K:Ψ->Ρ->Prop} {F:Yb}
theorem XQ.append {S:ς} {B:δ} {as9 d:ψ} {vs e:ν} (h:XQ S B σ as9 vs) (k:XQ S B σ d e):XQ S B σ (as9++d) (vs++e):=by
 refine⟨by simp[h.1,k.1],λi a v b c=>?_⟩;by_cases f:i<as9.length
 .rw[YN f] at b;rw[Me (by rw[<-h.1];exact f)] at c;exact h.2 i a v b c
 .rw[Xz I] at b;rw[I' (by rw[<-h.1];omega),<-h.1] at c;exact k.2 _ a v b c
theorem Μ.mono {g:FuncId} {args:ψ} {K':Ψ->Ρ->Prop} {E':Ψ->Ρ->Prop} (h:Μ P g args σ K E) (e:∀a s,K a s->K' a s) (f:∀a s,E a s->E' a s):Μ P g args σ K' E':=
 ⟨h.1,λi mn x c rest S B H vs j k hv d=>h.2 i mn x c rest S B H vs j k hv ⟨λa σ' S' B' H' v b=>d.ret a σ' S' B' H' v (e _ _ b),λa σ' S' B' H' v b=>d.LD a σ' S' B' H' v (f _ _ b)⟩⟩
theorem Yg.mono {f:Ψ} {args:ψ} {K':Ψ->Ρ->Prop} {E':Ψ->Ρ->Prop} (h:Yg P f args σ K E) (e:∀a s,K a s->K' a s) (g:∀a s,E a s->E' a s):Yg P f args σ K' E':=
 λi mn x c rest S B H j vs k l m hv d=>h i mn x c rest S B H j vs k l m hv ⟨λa σ' S' B' H' v b=>d.ret a σ' S' B' H' v (e _ _ b),λa σ' S' B' H' v b=>d.LD a σ' S' B' H' v (g _ _ b)⟩
theorem Μ.call {g:FuncId} {first args captured:ψ} (h:Μ P g (first++args++captured) σ K E):Yg P (.fn (.func g) first captured) args σ K E:=by
 intro a mn x c rest S B H v vs b d e hv f;cases e with
 | fn i j k l m n=>
  refine Χ.bind' (Χ.pure' ?_);obtain⟨⟨fn,o,p,r⟩,s⟩:=h;unfold invoke;simp only;unfold callFunc;refine Χ.bind' ?_;show Χ P (match P.funcs[g]? with|none=>_|some fn=>_) H _ _;rw[o];simp only[p,r,Xq,if_false];refine Χ.pure' ?_;have t:XQ S B σ first i:=⟨k,m⟩
  have u:XQ S B σ captured j:=⟨l,n⟩;exact s a mn x c rest S B H _ b d ((t.append hv).append u) f
def XG (env:Β) (ops:ZI) (o:Oper):Option Bool:=match o.guard with
 | none=>some true
 | some (j,a)=>match (ops[j]?).bind (·.dst) with
  | some d=>match ι env d with
   | .z (.bool b)=>some (b==a)
   | _=>none
  | none=>none
theorem UF {S:ς} {B:δ} {t:ν} (h:Zg S B σ env t) {ops:ZI} {o:Oper} {w:Bool} (a:XG env ops o=some w):Region.wanted o (yielded ops t)=w:=by
 unfold XG at a;unfold Region.wanted;split at a
 .rename_i e;rw[e];cases a;rfl
 .rename_i j g e;rw[e];split at a
  .rename_i d hd;split at a
   .rename_i b i;cases a;have c:=h d;rw[i] at c;unfold yielded;rw[Wn] at c;cases f:t[d]? with
    | none=>rw[f] at c;cases c
    | some v=>
     rw[f] at c;simp only[Option.getD_some] at c;cases c;simp only[hd,Option.bind_some,f];cases b<;>cases g<;>rfl
   .cases a
  .cases a
def Zu (o:Oper) (env:Β) (a:Ψ):Β:=match o.dst with|some d=>(d,a)::env|none=>env
def WS (nt:Nat) (o:Oper):Bool:=match o.dst with|some d=>decide (d<nt)|none=>true
theorem PV {S:ς} {B:δ} {t:ν} (h:Zg S B σ env t) {o:Oper} (hd:WS nt o=true) (b:t.size=nt) {a:Ψ} {v:Value} (c:Θ S B σ a v):Zg S B σ (Zu o env a) (put o t v)/\(put o t v).size=nt:=by
 unfold Zu put;unfold WS at hd;cases e:o.dst with
 | none=>exact⟨h,b⟩
 | some d=>
  rw[e] at hd;simp only[decide_eq_true_eq] at hd;exact⟨h.put (by rw[b];exact hd) c,by simp[b]⟩
theorem W.unwanted {ops:ZI} {i:Nat} {o:Oper} {rest:κ} (f:ops[i]?=some o) (g:XG env ops o=some false) (hd:WS nt o=true) (h:W P m nt (.inRegion ops rest::k) (Zu o env .Zx) σ Z F):W P m nt (.inRegion ops (i::rest)::k) env σ Z F:=
 λj mn x cs b S B H t d e c l n=>by
 obtain⟨p,r⟩:=PV c.Zt hd c.size (a:=.Zx) (v:=undef) (.Zx _);exact .unwanted d e f (UF c.Zt g) (h j mn x cs b S B H _ d e ⟨c.holds,p,r,c.rows⟩ l n)
theorem W.op (C:ZL P T) {ops:ZI} {i:Nat} {o:Oper} {rest:κ} (K:ops[i]?=some o) (L:XG env ops o=some true) (hd:WS nt o=true) (M:∀c,o.op≠.defer c)
  (h:((WT T A env o).or σ (Xa T A env σ o)).holds λa σ'=>W P m nt (.inRegion ops rest::k) (Zu o env a) σ' Z F):W P m nt (.inRegion ops (i::rest)::k) env σ Z F:=
 λD mn x cs b S B H t E I d N O=>by
 refine .op E I K (UF d.Zt L) (.inr M) ?_;have Q:=Zl.vG (vu (A:=A) C d.holds d.Zt o) (vr (A:=A) C d.holds d.Zt o);refine Χ.mono (λR H' ⟨v,hv,S',B',σ',a,U,V,X,e,Y⟩=>?_) (λ_ _ h=>h.elim) _ (Q _ h);obtain⟨aa,ab⟩:=PV (d.Zt.later e) hd d.size Y;have J:Xw m S B H σ S' B' H' σ':=.of V e;have ad:μ P D mn x (χ b (put o t v) (.inRegion ops rest::k)) cs H':=
  U D mn x cs b S' B' H' _ E I ⟨X,aa,ab,RH d.rows e.length⟩ (λj f g l n p t2 r s u w y=>N j f g l n p t2 r s (J.trans u) w y)
   (λae f g l n p t2 r af s u w y ag=>O ae f g l n p t2 r af s (J.trans u) w y ag)
 cases R<;>simp only[Cw,reduceCtorEq,Q6] at hv<;>first|(subst hv;exact ad)|skip
theorem W.call {ops:ZI} {i:Nat} {o:Oper} {rest:κ} (u:ops[i]?=some o) (aa:XG env ops o=some true) (hd:WS nt o=true) {f:Operand} {args:Array Operand} {ts:Array TypeId} (U:o.op=.call ⟨.value f,args,ts⟩)
  (h:Yg P (ο env f) (args.toList.map (ο env)) σ (λa σ'=>W P m nt (.inRegion ops rest::k) (Zu o env a) σ' Z F) (λa s=>F a env s)):W P m nt (.inRegion ops (i::rest)::k) env σ Z F:=
 λV mn x cs b S B H t l w g ab X=>by
 refine .op l w u (UF g.Zt aa) (.inr λc=>by rw[U];simp) ?_;have ad:XQ S B σ (args.toList.map (ο env)) (args.map (ZW t)):=by
  refine⟨Ω,λi a v p A=>?_⟩;rw[Ys,Xr] at p;rw[Oj] at A;cases l:args[i]? with
  | none=>rw[l] at p;cases p
  | some y=>rw[l] at p A;cases p;cases A;exact TH g.Zt y
 have ae:=h V mn x (χ b t (.inRegion ops (i::rest)::k)) cs S B H (ZW t f) (args.map (ZW t)) l g.holds (TH g.Zt f) ad ⟨λa σ' S' B' H' v af C n D E=>?_,λa σ' S' B' H' v ag C n D E=>?_⟩
 .have e:execOp (ZW t) o=(do let d <-Deferred.ofValue (ZW t f) (args.map (ZW t));invoke d.target d.args):=by unfold execOp;rw[U];rfl
  rw[e];refine Χ.mono (λah H' r=>?_) (λ_ _ h=>h.elim) _ ae;cases ah<;>first|exact r.elim|exact r|skip
  rename_i v;have:=V4 (b:=b) (t:=t) (k:=k) (v:=v) u (rest:=rest);simp only[BP] at r;rw[this] at r;exact r
 .obtain⟨ai,aj⟩:=PV (g.Zt.later n) hd g.size E;have Y:Xw m S B H σ S' B' H' σ':=.of C n;rw[V4 u];exact af V mn x cs b S' B' H' _ l w ⟨D,ai,aj,RH g.rows n.length⟩ (λj I J K L M t2 N O Q R T=>ab j I J K L M t2 N O (Y.trans Q) R T)
   (λak I J K L M t2 N al O Q R T am=>X ak I J K L M t2 N al O (Y.trans Q) R T am)
 .have:=X a env σ' S' B' H' t (.inRegion ops (i::rest)::k) v ag (.of C n) D (g.Zt.later n) E
  have e:(χ b t (.inRegion ops (i::rest)::k)).raise [{v,recovered:=false}]={χ b t (.inRegion ops (i::rest)::k) with mode:=.panicking [{v,recovered:=false}]}:=by simp[Frame.raise,χ,w]
  rw[e];exact this
theorem W.panic {ops:ZI} {i:Nat} {o:Oper} {rest:κ} (l:ops[i]?=some o) (n:XG env ops o=some true) {y:Operand} (j:o.op=.panic y) {f:TypeId} {a:Ψ} (p:ο env y=.Xi f a) (h:F (.Xi f a) env σ):W P m nt (.inRegion ops (i::rest)::k) env σ Z F:=
 λC mn x cs b S B H t r s d D u=>by
 refine .op r s l (UF d.Zt n) (.inr λc=>by rw[j];simp) ?_;have g:=TH d.Zt y;have e:execOp (ZW t) o=(do pure (.value (<-Instr.panic (ZW t y)))):=by unfold execOp;rw[j]
 rw[e];rw[p] at g;generalize hv:ZW t y=v at g;refine Χ.bind' ?_;cases g with
 | Xi w A=>exact u (.Xi f a) env σ S B H t _ _ h .refl d.holds d.Zt (.Xi w A)
end
def MR (P:Program) (T:Z2) (A:κ) (env:Β) (o:Oper) (σ:Ρ) (K:Ψ->Ρ->Prop) (E:Yb):Prop:=match o.op with
 | .call ⟨.value f,args,_⟩=>Yg P (ο env f) (args.toList.map (ο env)) σ K (λa s=>E a env s)
 | .panic y=>match ο env y with|.Xi t a=>E (.Xi t a) env σ|_=>False
 | .defer _=>False
 | _=>((WT T A env o).or σ (Xa T A env σ o)).holds K
def Wt (w:Bool) (a b:Prop):Prop:=(w=false->a)/\(w=true->b)
theorem vp {a b:Prop}:Wt true a b=b:=by simp[Wt]
theorem vo {a b:Prop}:Wt false a b=a:=by simp[Wt]
theorem vn {w w':Bool} {a b:Prop} (h:w=w'):Wt w a b=Wt w' a b:=by rw[h]
def W' {b:Type} (x:Option b) (f:b->Prop):Prop:=match x with|none=>False|some a=>f a
theorem vm {b:Type} {a:b} {f:b->Prop}:W' (some a) f=f a:=X' rfl rfl
theorem vl {a:Type} {f:a->Prop}:W' none f=False:=rfl
theorem vk {a:Type} {x b:Option a} {f:a->Prop} (h:x=b):W' x f=W' b f:=by rw[h]
theorem vj {K:Ψ->Ρ->Prop} {r r':Zi} (h:r=r'):r.holds K=r'.holds K:=by rw[h]
theorem or_congr {r r':Zl} {σ:Ρ} {s:Zi} (h:r=r'):r.or σ s=r'.or σ s:=by rw[h]
def run (P:Program) (T:Z2) (A:κ) (nt:Nat) (ops:ZI):κ->Β->Ρ->(Β->Ρ->Prop)->(Yb)->Prop
 | [],env,σ,K,_=>K env σ
 | i::is,env,σ,K,E=>W' ops[i]? λo=>WS nt o=true/\W' (XG env ops o) λw=>
   Wt w (run P T A nt ops is (Zu o env .Zx) σ K E) (MR P T A env o σ (λa σ'=>run P T A nt ops is (Zu o env a) σ' K E) E)
def BO (P:Program) (T:Z2) (A:κ) (nt:Nat) (ops:ZI) (is:κ) (o:Oper) (env:Β) (K:Β->Ρ->Prop) (E:Yb) (a:Ψ) (σ':Ρ):Prop:=run P T A nt ops is (Zu o env a) σ' K E
theorem QQ {P:Program} {T:Z2} {A:κ} {nt:Nat} {ops:ZI} {env:Β} {σ:Ρ} {K:Β->Ρ->Prop} {E:Yb}:run P T A nt ops [] env σ K E=K env σ:=X' rfl rfl
theorem Η {P:Program} {T:Z2} {A:κ} {nt:Nat} {ops:ZI} {i:Nat} {is:κ} {env:Β} {σ:Ρ} {K:Β->Ρ->Prop} {E:Yb} :
  run P T A nt ops (i::is) env σ K E=W' ops[i]? λo=>WS nt o=true/\W' (XG env ops o) λw=>
   Wt w (run P T A nt ops is (Zu o env .Zx) σ K E) (MR P T A env o σ (BO P T A nt ops is o env K E) E):=X' U U
theorem vi {P:Program} {T:Z2} {A:κ} {nt:Nat} {ops:ZI} {is:κ} {o:Oper} {env:Β} {σ:Ρ} {K:Β->Ρ->Prop} {E:Yb} {a:Ψ}:BO P T A nt ops is o env K E a σ=run P T A nt ops is (Zu o env a) σ K E:=X' rfl rfl
section
variable {P:Program} {T:Z2} {A:κ} {m nt:Nat} {k:ZA} {env:Β} {σ:Ρ} {Z:XD} {E:Yb} {K:Ψ->Ρ->Prop}
theorem W.ZM {ops:ZI} (h:W P m nt k env σ Z E):W P m nt (.inRegion ops []::k) env σ Z E:=λd mn x cs b S B H t a c e f g=>.ZM a c (h d mn x cs b S B H t a c e f g)
theorem BN (t:ZL P T) {ops:ZI} (b:κ):∀(is:κ) (env:Β) (σ:Ρ),run P T A nt ops is env σ (λenv σ=>W P m nt (.inRegion ops b::k) env σ Z E) E->W P m nt (.inRegion ops (is++b)::k) env σ Z E:=by
 intro is
 induction is with
 | nil=>intro env σ h;exact h
 | cons i is g=>
  intro env σ h;unfold run W' at h;split at h
  .exact h.elim
  .rename_i o d;obtain⟨hd,h⟩:=h;split at h
   .exact h.elim
   rename_i w e;unfold Wt at h;cases w
   .exact .unwanted d e hd (g _ _ (h.1 U))
   .replace h:=h.2 U
    unfold MR at h;split at h
    .rename_i f args ts j;exact .call d e hd j (h.mono (λa s h=>g _ _ h) (λ_ _ h=>h))
    .rename_i y j;split at h
     .rename_i C a u;exact .panic d e j u h
     .exact h.elim
    .exact h.elim
    .rename_i D F v;refine .op (A:=A) t d e hd (λc x=>v c x) ?_;generalize (WT T A env o).or σ (Xa T A env σ o)=r at h;have B:∀r:Zi,r.holds (λa σ'=>run P T A nt ops is (Zu o env a) σ' (λenv σ=>W P m nt (.inRegion ops b::k) env σ Z E) E)->r.holds λa σ'=>W P m nt (.inRegion ops (is++b)::k) (Zu o env a) σ' Z E:=by
      intro r
      induction r with
      | ok a s=>exact λh=>g _ _ h
      | ZD p r l=>exact λh=>⟨h.1,l h.2⟩
      | all n f l=>exact λh i hi=>l i (h i hi)
      | bad=>exact λh=>h
     exact B r h
theorem Zi.vh {K K':Ψ->Ρ->Prop} (c:∀a s,K a s->K' a s):∀r:Zi,r.holds K->r.holds K':=by
 intro r
 induction r with
 | ok a s=>exact λh=>c _ _ h
 | ZD p r b=>exact λh=>⟨h.1,b h.2⟩
 | all n f b=>exact λh i hi=>b i (h i hi)
 | bad=>exact λh=>h
theorem vg {env:Β} {o:Oper} {K K':Ψ->Ρ->Prop} (c:∀a s,K a s->K' a s) (h:MR P T A env o σ K E):MR P T A env o σ K' E:=by
 unfold MR at h ⊢;split
 .rename_i f args ts b;rw[b] at h;exact Yg.mono h c λ_ _ h=>h
 .rename_i y b;rw[b] at h;exact h
 .rename_i b;rw[b] at h;exact h
 .rename_i d e g;split at h
  .rename_i f args ts b;exact absurd b (d f args ts)
  .rename_i y b;exact absurd b (e y)
  .rename_i y b;exact absurd b (g y)
  .exact Zi.vh c _ h
theorem Ff {ops:ZI} {nt:Nat} {K K':Β->Ρ->Prop} (f:∀e s,K e s->K' e s):∀(is:κ) (env:Β) (σ:Ρ),run P T A nt ops is env σ K E->run P T A nt ops is env σ K' E:=by
 intro is
 induction is with
 | nil=>intro env σ h;exact f _ _ h
 | cons i is b=>
  intro env σ h;unfold run W' at h ⊢;cases c:ops[i]? with
  | none=>rw[c] at h;exact h.elim
  | some o=>
   rw[c] at h;simp only at h ⊢;refine⟨h.1,?_⟩
   replace h:=h.2
   cases d:XG env ops o with
   | none=>rw[d] at h;exact h.elim
   | some w=>
    rw[d] at h;unfold Wt at h ⊢;exact⟨λe=>b _ _ (h.1 e),λe=>vg (λa s=>b _ _) (h.2 e)⟩
theorem vf (a:ZL P T) {ops:ZI} (is:κ) (env:Β) (σ:Ρ) (h:run P T A nt ops is env σ (λenv σ=>W P m nt k env σ Z E) E):W P m nt (.inRegion ops is::k) env σ Z E:=by
 have:=BN (A:=A) a [] is env σ (ops:=ops) (k:=k) (Z:=Z) (E:=E) (P:=P) (m:=m) (nt:=nt);rw[Ug] at this;refine this ?_;have b:∀(is:κ) (env:Β) (σ:Ρ) (K K':Β->Ρ->Prop),(∀e s,K e s->K' e s)->run P T A nt ops is env σ K E->run P T A nt ops is env σ K' E:=λis env σ K K' c h=>Ff c is env σ h;exact b is env σ _ _ (λe s h=>.ZM h) h
def idx:Nat->κ->κ
 | 0,l=>l
 | n+1,l=>idx n (n::l)
theorem idx_eq (n:Nat):idx n []=List.range n:=by
 have:∀(n:Nat) (l:κ),idx n l=List.range.loop n l:=by
  intro n
  induction n with
  | zero=>intro l;rfl
  | succ n a=>intro l;exact a _
 exact this n []
theorem ZG (e:ZL P T) {id:Nat} {ops:ZI} (h:∀a:Β->Ρ->Prop,(∀env σ,W P m nt k env σ Z E->a env σ)->run P T A nt ops (idx ops.size []) env σ a E):W P m nt (.code (.region id ops false)::k) env σ Z E:=
 λf mn x cs b S B H t c d g i j=>.region c d (vf e _ _ _ (by rw[<-idx_eq];exact h _ λ_ _ h=>h) f mn x cs b S B H t c d g i j)
theorem W.forget (env':Β) (d:∀p∈env',ι env p.1=p.2) (h:W P m nt k env' σ Z E):W P m nt k env σ Z E:=
 λf mn x cs b S B H t g j a n o=>by
 have r:∀(l:Β),(∀p∈l,ι env p.1=p.2)->∀i,ι l i=.Zx\/ι l i=ι env i:=by
  intro l
  induction l with
  | nil=>intro _ i;exact .inl rfl
  | cons p l s=>
   intro c i;simp only[ι];split
   .rename_i e;subst e;exact .inr (c p Ω).symm
   .exact s (λq u=>c q (by simp[u])) i
 refine h f mn x cs b S B H t g j ⟨a.holds,λi=>?_,a.size,a.rows⟩ n o;rcases r env' d i with e|e
 .rw[e];exact .Zx _
 .rw[e];exact a.Zt i
theorem W.QP (a:ZL P T) (env':Β) {id:Nat} {ops:ZI} (h:W P m nt k env' σ Z E) (b:run P T A nt ops (idx ops.size []) env σ (λe s=>s=σ/\∀p∈env',ι e p.1=p.2) E):W P m nt (.code (.region id ops false)::k) env σ Z E:=
 ZG a λg c=>Ff (λe s ⟨d,f⟩=>c e s (d▸W.forget env' f h)) _ _ _ b
def N3 (i:V2) (l:ψ):Option Ψ:=if i.agg then(if i.size<=l.length then some (.Z6 (l.take i.size)) else none) else l.head?
def J' (T:Z2) (a:TypeId) (σ:Ρ):Ψ->Option Ψ
 | .Ν b=>match T a with|some i=>N3 i b|none=>none
 | .π id n i j=>match T a,σ[id]? with
  | some c,some (.cells _ _ l)=>if l.length=n then match l[i]? with
   | some e=>N3 c (e.cells.drop j)
   | none=>none else none
  | _,_=>none
 | _=>none
def N2 (T:Z2) (env:Β) (σ:Ρ):ResultVar->Option Ψ
 | .tmp t=>some (ι env t)
 | .cell a b=>J' T b σ (ι env a)
def Fe:ψ->Ψ
 | [a]=>a
 | l=>.ε l
def QO (T:Z2) (a:List ResultVar) (env:Β) (σ:Ρ):Option Ψ:=(a.mapM (N2 T env σ)).map Fe
theorem BM {i:V2} {l:ψ} {v:Ψ} (h:N3 i l=some v):QT i l=.ok v:=by
 unfold N3 at h;unfold QT;cases b:i.agg with
 | true=>
  rw[b] at h;simp only[if_true] at h ⊢;split at h
  .rename_i c;cases h;rw[if_pos c]
  .cases h
 | false=>
  rw[b] at h;simp only[Xq,if_false] at h ⊢;cases l with
  | nil=>cases h
  | cons a l=>cases h;rfl
theorem ve (p:ZL P T) {S:ς} {B:δ} {H:Υ} (f:Holds S B σ H) {r:TypeId} {a v:Ψ} {w:Value} (h:J' T r σ a=some v) (s:Θ S B σ a w):Zv P (do loadVar r (<-asAddr w)) S B H σ (.ok v σ):=by
 unfold J' at h;split at h
 .rename_i D;split at h
  .rename_i i hi;cases s with
   | Ν b o w c g=>
    have:=Ko p f hi w (λj a y=>f.Zf _ _ _ (c j a y)) g;rw[BM h] at this;exact this
  .cases h
 .rename_i id n i j;split at h
  .rename_i E t k l hi m;split at h
   .rename_i F;split at h
    .rename_i e A;cases s with
     | π c g C=>
      rw[m] at c;cases c;obtain⟨I,w,u⟩:=Ct f m C A;have:=Ko p f hi (l:=e.cells.drop j) (b:=_) (o:=i*k+j) (λx=>w (j+x)) (λx a d=>⟨true,by
       rw[Va] at d;rw[U9];exact(u _ a d).1⟩) (λx a d=>by
       rw[Va] at d;exact(u _ a d).2.1)
      rw[BM h] at this;exact this
     | VI v c g=>rw[m] at c;cases c;simp only[Row.Xx] at g;omega
    .cases h
   .cases h
  .cases h
 .cases h
theorem MQ (F:ZL P T) {fn:Func} {a:Ψ} (h:QO T fn.results.toList env σ=some a) {S:ς} {B:δ} {H:Υ} {t:ν} (c:Holds S B σ H) (e:Zg S B σ env t) :
  Χ P (results fn t) H (λv H'=>∃S' B',Ext S B H S' B' H'/\ZJ S S' B B' σ σ/\Holds S' B' σ H'/\Θ S' B' σ a v) (λ_ _=>False):=by
 let f:ResultVar->Sem Value:=λr=>match r with
  | .tmp x=>pure (t.getD x undef)
  | .cell a C=>do loadVar C (<-asAddr (t.getD a undef))
 have I:∀(d:List ResultVar) (as9:ψ) (S:ς) (B:δ) (H:Υ),d.mapM (N2 T env σ)=some as9->Holds S B σ H->Zg S B σ env t->
   Χ P (d.mapM f) H (λvs H'=>∃S' B',Ext S B H S' B' H'/\ZJ S S' B B' σ σ/\Holds S' B' σ H'/\as9.length=vs.length/\∀(i:Nat) (a:Ψ) (v:Value),as9[i]?=some a->vs[i]?=some v->Θ S' B' σ a v) (λ_ _=>False):=by
  intro d
  induction d with
  | nil=>intro as9 S B H h c _;simp at h;subst h;exact Χ.pure' ⟨S,B,.refl _ _ _,.refl _ _ _,c,rfl,λi a v hi=>by simp at hi⟩
  | cons r d J=>
   intro as9 S B H h c e;rw[List.mapM_cons] at h ⊢;cases g:N2 T env σ r with
   | none=>rw[g] at h;cases h
   | some a=>
    rw[g] at h;simp only[Option.bind_eq_bind,Option.bind_some] at h;cases o:d.mapM (N2 T env σ) with
    | none=>rw[o] at h;cases h
    | some l2=>
     rw[o] at h;cases h;have step:Χ P (f r) H (λv H'=>∃S' B',Ext S B H S' B' H'/\ZJ S S' B B' σ σ/\Holds S' B' σ H'/\Θ S' B' σ a v) (λ_ _=>False):=by
      cases r with
      | tmp x=>simp only[N2,Q6] at g;subst g;exact Χ.pure' ⟨S,B,.refl _ _ _,.refl _ _ _,c,e x⟩
      | cell x C=>
       refine Χ.mono (λv H' ⟨S',B',σ',a',⟨j,p⟩,K,L,M,N⟩=>?_) (λ_ _ h=>h) _ (ve F c g (e x) (λa' O=>a'=a/\O=σ) ⟨U,U⟩);subst j;subst p;exact⟨S',B',K,M,L,N⟩
     refine Χ.bind' (Χ.mono (λv D ⟨s,u,w,l1,j,k⟩=>?_) (λ_ _ h=>h) _ step);refine Χ.bind' (Χ.mono (λvs aa ⟨Q,R,V,E,p,W,X⟩=>?_) (λ_ _ h=>h) _ (J l2 s u D o j (e.later l1)));refine Χ.pure' ⟨Q,R,w.trans V,l1.trans E,p,by simp[W],λi a' Y hi hv=>?_⟩
     match i with
     | 0=>simp at hi hv;subst hi;subst hv;exact k.later E
     | i+1=>simp at hi hv;exact X i a' Y hi hv
 unfold QO at h;cases y:fn.results.toList.mapM (N2 T env σ) with
 | none=>rw[y] at h;cases h
 | some as9=>
  rw[y] at h;cases h;have Z:=I fn.results.toList as9 S B H y c e;unfold results;rw[Array.mapM_eq_mapM_toList];refine Χ.bind' ?_;refine Χ.bind (fn.results.toList.mapM f) (Χ.mono (λvs D ⟨s,u,w,l1,j,A,k⟩=>?_) (λ_ _ h=>h) _ Z);refine Χ.pure' ?_;refine Χ.pure' ⟨s,u,w,l1,j,?_⟩;by_cases m:vs.toArray.size=1
  .rw[dif_pos m];have n:vs.length=1:=by simpa using m
   obtain⟨v,rfl⟩:=FY.1 n;obtain⟨a,rfl⟩:=FY.1 (A.trans n);exact k 0 a v U U
  .rw[dif_neg m];have n:as9.length≠1:=by rw[A];simpa using m
   have:Fe as9=.ε as9:=by
    match as9 with
    | []=>rfl
    | [a]=>simp at n
    | a::b::l=>rfl
   rw[this];exact .ε _ (by simpa using A) λi a v hi hv=>k i a v hi (by simpa using hv)
def entry:Nat->ψ->Β
 | _,[]=>[]
 | i,a::as9=>(i,a)::entry (i+1) as9
theorem Fc {S:ς} {B:δ} {as9:ψ} {vs:ν} (h:XQ S B σ as9 vs) (n:Nat):Zg S B σ (entry 0 as9) (vs++Array.replicate n undef):=by
 have f:∀(l:ψ) (j i:Nat),ι (entry j l) i=if j<=i then(l[i-j]?).getD .Zx else .Zx:=by
  intro l
  induction l with
  | nil=>intro j i;simp[entry,ι]
  | cons a l g=>
   intro j i;simp only[entry,ι];by_cases e:j=i
   .subst e;simp
   .rw[if_neg e,g];by_cases b:j<=i
    .rw[if_pos I,if_pos b];have:i-j=(i-(j+1))+1:=I;rw[this,List.getElem?_cons_succ]
    .rw[if_neg I,if_neg b]
 intro i;rw[f,if_pos (Ζ _),Nat.sub_zero];by_cases c:i<as9.length
 .have d:=Z4 c;rw[d];have hv:i<vs.size:=by rw[<-h.1];exact c
  rw[Wn,Me hv];exact h.2 i _ _ d (by rw[YS hv];rfl)
 .rw[W4 I];exact .Zx _
def Ends (T:Z2) (b:List ResultVar) (K:Ψ->Ρ->Prop) (j:ZA) (env:Β) (σ:Ρ):Prop:=match j with
 | []=>∃a,QO T b env σ=some a/\K a σ
 | .code .ret::_=>∃a,QO T b env σ=some a/\K a σ
 | _=>False
theorem Μ.Hw {F:Ψ->Ρ->Prop} (y:ZL P T) {g:FuncId} {fn:Func} {body:Code} (f:P.funcs[g]?=some fn) (o:fn.body=some body) (A:(fn.name == "runtime.NumGoroutine")=false) {args:ψ} (aa:args.length<=fn.ntmps)
  (h:W P σ.length fn.ntmps [.code body] (entry 0 args) σ (Ends T fn.results.toList K) (λa _ s=>F a s)):Μ P g args σ K F:=by
 refine⟨⟨fn,f,A,by rw[o];rfl⟩,λp mn x c rest S B H vs b k hv r=>?_⟩;have i:∀{C:Type} (l:List C),l.length=σ.length->l.take σ.length=l:=λl t=>Xb I;have D:Frame.enter P g vs .normal=χ (Frame.enter P g vs .normal) (vs++Array.replicate (fn.ntmps-vs.size) undef) [.code body]:=by
  simp[Frame.enter,χ,f,o]
 rw[D];have E:(vs++Array.replicate (fn.ntmps-vs.size) undef).size=fn.ntmps:=by
  have:=hv.1;simp;omega
 refine h p mn x (c::rest) _ S B H _ b U ⟨k,Fc hv _,E,ZY _⟩ (λj env' σ' S' B' H' t' m d e u t=>?_) (λa env' σ' S' B' H' t' m v J e L _ M=>?_)
 .have n:ZJ S S' B B' σ σ':=by
   have:=e.later
   rwa [i B k.len,i σ U] at this
  have w:(∃a,QO T fn.results.toList env' σ'=some a/\K a σ')->μ P p mn x {χ (Frame.enter P g vs .normal) t' m with mode:=.returning} (c::rest) H':=λ⟨a,N,O⟩=>by
   refine .back b U U (.inl U) f ?_;refine Χ.mono (λv Q ⟨R,V,X,l2,Y,Z⟩=>?_) (λ_ _ h=>h) _ (MQ y N u.holds u.Zt);exact r.ret a σ' R V Q v O (e.ext.trans X) (n.trans l2) Y Z
  have:m=j:=t;subst this;unfold Ends at d;split at d
  .exact .Rt b U U (w d)
  .exact .ret b U U (w d)
  .exact d.elim
 .have n:ZJ S S' B B' σ σ':=by
   have:=e.later
   rwa [i B k.len,i σ U] at this
  refine .raised b U U ?_ (r.LD a σ' S' B' H' v J e.ext n L M);simp[Frame.catches,χ,Frame.enter,f]
end
end Go.TL
