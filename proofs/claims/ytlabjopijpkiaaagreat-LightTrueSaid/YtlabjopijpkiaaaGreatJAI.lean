import Derived.Test.YtlabjopijpkiaaaGreatJAH
set_option maxHeartbeats 16000000
set_option maxRecDepth 20000
set_option linter.unusedSectionVars false
set_option linter.unusedSimpArgs false
set_option linter.unusedVariables false
namespace Go.TL
open Go.Conc
inductive ς (h:Nat):Ω->Prop where
 | z (v:Value):ς h (.z v)
 | Θ {l:κ}:(∀a∈l,ς h a)->ς h (.Θ l)
 | sl {ex:Bool} {k:Nat} {l:κ}:(∀e∈l,∀a∈e.cells,ς h a)->ς h (.sl ex k l)
 | ZT {l:κ}:(∀a∈l,ς h a)->ς h (.ZT l)
 | ZW {l:κ}:(∀a∈l,ς h a)->ς h (.ZW l)
 | Κ {id n i j:Nat}:id<h->ς h (.Κ id n i j)
 | ms {id n i len:Nat}:id<h->ς h (.ms id n i len)
 | fn {f:Fn} {b cs:κ}:(∀a∈b,ς h a)->(∀a∈cs,ς h a)->ς h (.fn f b cs)
 | Xe {t:TypeId} {a:Ω}:ς h a->ς h (.Xe t a)
 | mp {id:Nat}:id<h->ς h (.mp id)
 | it {id:Nat}:id<h->ς h (.it id)
 | Zl:ς h .Zl
def X6 (h:Nat):Row->Prop
 | .cells _ _ l=>∀e∈l,∀a∈e.cells,ς h a
 | .map es=>∀e∈es,ς h e.1/\ς h e.2
 | .iter m left b=>m<h/\(∀e∈left,ς h e.1/\ς h e.2)/\∀e,b=some e->ς h e.1/\ς h e.2
 | .dead=>True
inductive Ym (h:Nat) (σ:Ο):Ω->Ω->Prop where
 | low {a:Ω}:ς h a->Ym h σ a a
 | Zl (a:Ω):Ym h σ a .Zl
 | ms {id n i len k:Nat} {t:TypeId} {l c:κ}:h<=id->σ[id]?=some (.cells t k l)->l.length=n->i+len<=n->c.length=len->
   (∀(j:Nat) (e d:Ω),l[i+j]?=some e->c[j]?=some d->d.cells.length=e.cells.length)->(∀(j:Nat) (e d:Ω),l[i+j]?=some e->c[j]?=some d->∀(x:Nat) (a b:Ω),e.cells[x]?=some a->d.cells[x]?=some b->Ym h σ a b)->Ym h σ (.ms id n i len) (.sl false k c)
 | Κ {id n i j k:Nat} {t:TypeId} {l cs:κ} {e:Ω}:h<=id->σ[id]?=some (.cells t k l)->l.length=n->l[i]?=some e->cs.length<=e.cells.length-j->
   (∀(x:Nat) (a b:Ω),e.cells[j+x]?=some a->cs[x]?=some b->Ym h σ a b)->Ym h σ (.Κ id n i j) (.Θ cs)
 | ZT {l c:κ}:c.length=l.length->(∀(x:Nat) (a b:Ω),l[x]?=some a->c[x]?=some b->Ym h σ a b)->Ym h σ (.ZT l) (.ZT c)
 | ZW {l c:κ}:c.length=l.length->(∀(x:Nat) (a b:Ω),l[x]?=some a->c[x]?=some b->Ym h σ a b)->Ym h σ (.ZW l) (.ZW c)
 | fn {f:Fn} {g m cs cs':κ}:m.length=g.length->cs'.length=cs.length->(∀(x:Nat) (a b:Ω),g[x]?=some a->m[x]?=some b->Ym h σ a b)->(∀(x:Nat) (a b:Ω),cs[x]?=some a->cs'[x]?=some b->Ym h σ a b)->Ym h σ (.fn f g cs) (.fn f m cs')
section
variable {S:μ} {B:Z8} {H:Χ} {σ:Ο} {h:Nat}
def Late (B:Z8) (σ:Ο) (h b:Nat):Prop:=∃id t k l N,h<=id/\σ[id]?=some (Row.cells t k l)/\B[id]?=some (some (b,N))
open Classical in
noncomputable def μ.close (S:μ) (B:Z8) (σ:Ο) (H:Χ) (h:Nat):μ:=λb o=>if Late B σ h b then(H.θ b o).map (·.1) else S b o
theorem Jj (a:Holds S B σ H):∀b o v,S b o=some v->S.close B σ H h b o=some v:=λb o v hv=>by
 unfold μ.close;split
 .rename_i c;obtain⟨id,t,k,l,N,f,d,e⟩:=c;have:=a.sep id _ b N d trivial e o;rw[hv] at this;cases this
 .exact hv
theorem π.QO (s:Holds S B σ H) {a:Ω} {v:Value} (t:π S B σ a v) (d:ς h a):π (S.close B σ H h) (B.take h) (σ.take h) a v:=by
 have k:∀{α:Type} (l:List α) (i:Nat),i<h->(l.take h)[i]?=l[i]?:=λl i hi=>Tt hi
 induction t with
 | z v=>exact .z v
 | Θ b o w f _ m=>
  cases d with
  | Θ d=>exact .Θ b o w (λj a n=>Jj s _ _ _ (f j a n)) λj a n=>m j a n (d a (Zi n))
 | Wo base cap h=>exact .Wo base cap h
 | sl b o cap w f g p r _ m=>
  cases d with
  | sl d=>exact .sl b o cap w f g p (λi e hi j c n=>Jj s _ _ _ (r i e hi j c n)) λi e hi j c n=>m i e hi j c n (d e (Zi hi) c (Zi n))
 | ZT vs f _ m=>
  cases d with
  | ZT d=>exact .ZT vs f λi a v hi hv=>m i a v hi hv (d a (Zi hi))
 | ZW vs f _ m=>
  cases d with
  | ZW d=>exact .ZW vs f λi a v hi hv=>m i a v hi hv (d a (Zi hi))
 | Κ f g p=>
  cases d with
  | Κ d=>exact .Κ (by rw[k _ _ d];exact f) g (by rw[k _ _ d];exact p)
 | Ve v f g=>
  cases d with
  | Κ d=>exact .Ve v (by rw[k _ _ d];exact f) g
 | ms cap f g p r u x=>
  cases d with
  | ms d=>exact .ms cap (by rw[k _ _ d];exact f) g (by rw[k _ _ d];exact p) r u x
 | Vt v f g=>
  cases d with
  | ms d=>exact .Vt v (by rw[k _ _ d];exact f) g
 | fn vs y f g _ _ A C=>
  cases d with
  | fn D E=>exact .fn vs y f g (λi a v hi hv=>A i a v hi hv (D a (Zi hi))) λi a v hi hv=>C i a v hi hv (E a (Zi hi))
 | Xe v _ m=>
  cases d with
  | Xe d=>exact .Xe v (m d)
 | mp f g=>
  cases d with
  | mp d=>exact .mp (by rw[k _ _ d];exact f) (by rw[k _ _ d];exact g)
 | Uf v f=>
  cases d with
  | mp d=>exact .Uf v (by rw[k _ _ d];exact f)
 | it f g=>
  cases d with
  | it d=>exact .it (by rw[k _ _ d];exact f) (by rw[k _ _ d];exact g)
 | Tg v f=>
  cases d with
  | it d=>exact .Tg v (by rw[k _ _ d];exact f)
 | Zl v=>exact .Zl v
theorem D1 {id b N:Nat} {t:TypeId} {k:Nat} {l:κ} (a:h<=id) (c:σ[id]?=some (.cells t k l)) (d:B[id]?=some (some (b,N))) {o:Nat} {v:Value} {p:Bool} (hv:H.θ b o=some (v,p)):S.close B σ H h b o=some v:=by
 unfold μ.close;rw[if_pos ⟨id,t,k,l,N,a,c,d⟩,hv];rfl
theorem π.yl (L:Holds S B σ H) {a c:Ω} (W:Ym h σ a c):∀{v:Value},π S B σ a v->π (S.close B σ H h) (B.take h) (σ.take h) c v:=by
 induction W with
 | low X=>intro v o;exact o.QO L X
 | Zl a=>intro v _;exact .Zl v
 | @ms id n i len k t l M m g Y O E R _ A=>
  intro v o;cases o with
  | ms cap d p C T ad P=>
   rw[g] at d;cases d;by_cases V:M=[]
   .subst V;have:len=0:=by rw[<-E];rfl
    subst this;exact .Wo _ _ I
   .have ae:0<len:=by rw[<-E];exact RQ.2 V
    rcases P with P|⟨b,N,rfl,rfl,P⟩
    .omega
    .obtain⟨_,_,_,w,D⟩:=L.row id _ _ g C;have el:∀(j:Nat) (r:Ω),M[j]?=some r->∃e,l[i+j]?=some e/\e.cells.length=k/\r.cells.length=k:=λj r u=>by
      have y:j<len:=by rw[<-E];exact(ZA.1 u).1
      have F:l[i+j]?=some l[i+j]:=δ U;exact⟨_,F,(D _ _ F).1,(R j _ r F u).trans (D _ _ F).1⟩
     have:=π.sl (S:=S.close B σ H h) (B:=B.take h) (σ:=σ.take h) (ex:=false) (k:=k) (l:=M) b (i*k) cap (λj x=>w (i+j) x) I U (λj r u=>(el j r u).choose_spec.2.2)
      (λj r u x c s=>by
       obtain⟨e,J,Φ,Q⟩:=el j r u;have K:x<e.cells.length:=by rw[Φ,<-Q];exact(ZA.1 s).1
       have:=((D _ e J).2 x _ (δ K)).1;rw[Wr] at this;exact D1 m g C this)
      (λj r u x c s=>by
       obtain⟨e,J,Φ,Q⟩:=el j r u;have K:x<e.cells.length:=by rw[Φ,<-Q];exact(ZA.1 s).1
       exact A j e r J u x _ c (δ K) s ((D _ e J).2 x _ (δ K)).2.1)
     rw[E] at this;exact this
  | Vt v d p=>rw[g] at d;cases d;simp only[Row.WB] at p;omega
 | @Κ id n i j k t l cs e m g Y O E R A=>
  intro v o;cases o with
  | Κ d p C=>
   rw[g] at d;cases d;obtain⟨_,_,_,w,D⟩:=L.row id _ _ g C;have el:∀(x:Nat) (c:Ω),cs[x]?=some c->∃a,e.cells[j+x]?=some a:=λx c s=>by
    have:=(ZA.1 s).1;exact⟨_,δ U⟩
   refine .Θ _ _ (λx=>w i (j+x)) (λx c s=>?_) (λx c s=>?_)
   .obtain⟨a,f⟩:=el x c s;have:=((D i e O).2 _ a f).1;rw[<-UB] at this;exact D1 m g C this
   .obtain⟨a,f⟩:=el x c s;exact A x a c f s ((D i e O).2 _ a f).2.1
  | Ve v d p=>rw[g] at d;cases d;simp only[Row.WB] at p;omega
 | ZT m g A=>
  intro v o;cases o with
  | ZT vs d p=>
   refine .ZT vs (by rw[m,d]) λi c w hi hv=>?_;have y:=(ZA.1 hi).1;have f:=δ (m▸y);exact A i _ c f hi (p i _ w f hv)
 | ZW m g A=>
  intro v o;cases o with
  | ZW vs d p=>
   refine .ZW vs (by rw[m,d]) λi c w hi hv=>?_;have y:=(ZA.1 hi).1;have f:=δ (m▸y);exact A i _ c f hi (p i _ w f hv)
 | fn m g _ _ Z aa=>
  intro v o;cases o with
  | fn vs ab d p C T=>
   refine .fn vs ab (by rw[m,d]) (by rw[g,p]) (λi c w hi hv=>?_) (λi c w hi hv=>?_)
   .have y:=(ZA.1 hi).1
    have f:=δ (m▸y);exact Z i _ c f hi (C i _ w f hv)
   .have y:=(ZA.1 hi).1
    have f:=δ (g▸y);exact aa i _ c f hi (T i _ w f hv)
theorem Vd.QO (f:Holds S B σ H) {r:Row} {bo:Option (Nat×Nat)} (v:Vd S B σ H r bo) (A:X6 h r):Vd (S.close B σ H h) (B.take h) (σ.take h) H r bo:=by
 have F:∀{α:Type} (l:List α) (i:Nat),i<h->(l.take h)[i]?=l[i]?:=λl i hi=>Tt hi;cases r with
 | cells t k l=>
  cases bo with
  | none=>exact v
  | some x=>
   obtain⟨b,N⟩:=x;obtain⟨n,o,p,w,g⟩:=v;refine⟨n,o,p,w,λi e hi=>⟨(g i e hi).1,λj a I=>?_⟩⟩;obtain⟨s,u,C⟩:=(g i e hi).2 j a I;exact⟨s,u.QO f (A e (Zi hi) a (Zi I)),C⟩
 | map es=>
  obtain⟨b,N,xs,D,rfl,n,o,p,g⟩:=v;exact⟨b,N,xs,D,rfl,n,o,λi e y a b=>by
   obtain⟨s,u,C⟩:=p i e y a b;exact⟨s.QO f (A e (Zi a)).1,u.QO f (A e (Zi a)).2,C⟩,g⟩
 | iter m left W=>
  obtain⟨J,K,L⟩:=A;obtain⟨b,N,M,O,xs,D,seen,rfl,n,o,p,g,⟨P,Q,R,T⟩,U,V⟩:=v;refine⟨b,N,M,O,xs,D,seen,rfl,by rw[F _ _ J];exact n,by rw[F _ _ J];exact o,p,g,⟨P,Q,R,λi e y a b=>?_⟩,U,λe E=>?_⟩
  .obtain⟨s,u⟩:=T i e y a b;exact⟨s.QO f (K e (Zi a)).1,u.QO f (K e (Zi a)).2⟩
  .obtain⟨st,y,a,b,c,d⟩:=V e E;exact⟨st,y,a,b,c.QO f (L e E).1,d.QO f (L e E).2⟩
 | dead=>trivial
theorem Holds.close (a:Holds S B σ H) (s:∀(id:Nat) (r:Row),id<h->σ[id]?=some r->X6 h r) :
  Holds (S.close B σ H h) (B.take h) (σ.take h) H/\Ext S B H (S.close B σ H h) (B.take h) H:=by
 have c:∀{α:Type} (l:List α) (i:Nat) (x:α),(l.take h)[i]?=some x->i<h/\l[i]?=some x:=λl i x hi=>by
  rw[OK] at hi;split at hi
  .exact⟨‹_›,hi⟩
  .cases hi
 refine⟨⟨λb o v hv=>?_,by simp[a.len],λid r bo g m=>?_,λi j u w b y A C hi D E F I J=>?_,λid r b N g f m o=>?_⟩,⟨Jj a,λb _ _=>Tf.of ⟨λ_=>rfl,rfl,rfl⟩,λb ⟨N,K⟩=>.inl ⟨N,KA K⟩,λb o v hv=>?_,λ_ h=>h⟩⟩
 .unfold μ.close at hv;split at hv
  .cases n:H.θ b o with
   | none=>rw[n] at hv;cases hv
   | some x=>rw[n] at hv;cases hv;exact⟨x.2,rfl⟩
  .exact a.YO b o v hv
 .obtain⟨p,e⟩:=c _ _ _ g;obtain⟨_,d⟩:=c _ _ _ m;exact(a.row id r bo e d).QO a (s id r p e)
 .exact a.inj i j u w b y A C (c _ _ _ hi).2 (c _ _ _ D).2 E F (c _ _ _ I).2 (c _ _ _ J).2
 .obtain⟨p,e⟩:=c _ _ _ g;obtain⟨_,d⟩:=c _ _ _ m;unfold μ.close;rw[if_neg]
  .exact a.sep id r b N e f d o
  .rintro⟨L,t,k,l,M,Q,O,P⟩;exact a.inj id L r _ b N M U e O f trivial d P
 .unfold μ.close at hv;split at hv
  .rename_i f;obtain⟨id,t,k,l,N,_,_,d⟩:=f;exact .inr (.inl (Sd d))
  .exact .inl hv
theorem Zx.close {a:μ} {c:Z8} {σ0:Ο} (g:Holds S B σ H) (d:Zx a S c B σ0 σ) (i:σ0.length<=h):Zx a (S.close B σ H h) c (B.take h) σ0 (σ.take h):=
 ⟨λb o v hv=>Jj g b o v (d.YO b o v hv),λid r e=>by
  have f:id<h:=Kz (ZA.1 e).1 i;obtain⟨r',j,k⟩:=d.rows id r e;exact⟨r',by rw[Tt f];exact j,by rw[Tt f];exact k⟩⟩
end
end Go.TL
namespace Go.TL
open Go.Conc
variable [ZX]
structure XX (m:Nat) (S:μ) (B:Z8) (H:Χ) (σ:Ο) (a:μ) (B':Z8) (H':Χ) (σ':Ο):Prop where
 ext:Ext S B H a B' H'
 later:Zx S a (B.take m) B' (σ.take m) σ'
structure Xw (m nt:Nat) (S:μ) (B:Z8) (H:Χ) (σ:Ο) (env:ω) (t:Array Value):Prop where
 holds:Holds S B σ H
 Zm:YT S B σ env t
 size:t.size=nt
 rows:m<=σ.length
section
variable {m:Nat} {S YA DZ:μ} {B B' DY:Z8} {H H' DX:Χ} {σ σ' DW:Ο}
theorem Zx.left (h:Zx S YA B B' σ σ') (m:Nat):Zx S YA (B.take m) B' (σ.take m) σ':=
 ⟨h.YO,λid r a=>by
  rw[OK] at a;split at a
  .rename_i b;rw[Tt b];exact h.rows id r a
  .cases a⟩
theorem Zx.right (h:Zx S YA B B' σ σ') (c:σ.length<=m):Zx S YA B (B'.take m) σ (σ'.take m):=
 ⟨h.YO,λid r a=>by
  have b:id<m:=Kz (ZA.1 a).1 c;rw[Tt b,Tt b];exact h.rows id r a⟩
theorem XX.of (h:Ext S B H YA B' H') (k:Zx S YA B B' σ σ'):XX m S B H σ YA B' H' σ':=⟨h,k.left m⟩
theorem XX.refl:XX m S B H σ S B H σ:=.of (.refl _ _ _) (.refl _ _ _)
theorem XX.trans (h:XX m S B H σ YA B' H' σ') (k:XX m YA B' H' σ' DZ DY DX DW):XX m S B H σ DZ DY DX DW:=
 ⟨h.ext.trans k.ext,(h.later.right (m:=m) (by simp;omega)).trans k.later⟩
theorem Zx.length (h:Zx S YA B B' σ σ'):σ.length<=σ'.length:=by
 apply Tu;intro c;have a:σ'.length<σ.length:=U;obtain⟨r',b,_⟩:=h.rows σ'.length _ (δ a);simp at b
end
def Leaves (j:List Item) (k:List Item):Prop:=k=j
def W (P:Program) (m nt:Nat) (k:List Item) (env:ω) (σ:Ο) (Z:X7) (E:Yn):Prop:=
 ∀(e:Value->Prop) (mn:Bool) (x:W2) (cs:List Frame) (b:Frame) (S:μ) (B:Z8) (H:Χ) (t:Array Value),Seq x->b.mode=.run->Xw m nt S B H σ env t->
  (∀(j:List Item) (env':ω) (σ':Ο) (c:μ) (B':Z8) (H':Χ) (t':Array Value) (d:List Item),Z j env' σ'->XX m S B H σ c B' H' σ'->Xw m nt c B' H' σ' env' t'->Leaves j d->ι P e mn x (ο b t' d) cs H')->
  (∀(a:Ω) (env':ω) (σ':Ο) (c:μ) (B':Z8) (H':Χ) (t':Array Value) (d:List Item) (v:Value),E a env' σ'->XX m S B H σ c B' H' σ'->Holds c B' σ' H'->YT c B' σ' env' t'->π c B' σ' a v->ι P e mn x {ο b t' d with mode:=.panicking [{v,recovered:=false}]} cs H')->
  ι P e mn x (ο b t k) cs H
section
variable {P:Program} {m nt:Nat} {k:List Item} {env:ω} {σ:Ο} {Z:X7} {E:Yn}
theorem W.stop (h:Z k env σ):W P m nt k env σ Z E:=λ_ _ _ _ _ S B H t _ _ a b _=>b k env σ S B H t k h .refl a rfl
theorem W.nil (h:Z [] env σ):W P m nt [] env σ Z E:=.stop h
theorem W.ret (h:Z (.code .ret::k) env σ):W P m nt (.code .ret::k) env σ Z E:=.stop h
theorem W.skip (h:W P m nt k env σ Z E):W P m nt (.code .skip::k) env σ Z E:=λd mn x cs b S B H t a c e f g=>.skip a c (h d mn x cs b S B H t a c e f g)
theorem W.inBlock {l:Nat} (h:W P m nt k env σ Z E):W P m nt (.inBlock l::k) env σ Z E:=λd mn x cs b S B H t a c e f g=>.inBlock a c (h d mn x cs b S B H t a c e f g)
theorem W.seq {a c:Code} (h:W P m nt (.code a::.code c::k) env σ Z E):W P m nt (.code (.seq a c)::k) env σ Z E:=λf mn x cs b S B H t d e g i j=>.seq d e (h f mn x cs b S B H t d e g i j)
theorem W.block {l:Nat} {c:Code} (h:W P m nt (.code c::.inBlock l::k) env σ Z E):W P m nt (.code (.block l c)::k) env σ Z E:=λe mn x cs b S B H t a d f g i=>.block a d (h e mn x cs b S B H t a d f g i)
theorem W.inLoop {c:Code} (h:W P m nt (.code c::.inLoop c::k) env σ Z E):W P m nt (.inLoop c::k) env σ Z E:=λe mn x cs b S B H t a d f g i=>.inLoop a d (h e mn x cs b S B H t a d f g i)
theorem W.loop {c:Code} (h:W P m nt (.code c::.inLoop c::k) env σ Z E):W P m nt (.code (.loop c)::k) env σ Z E:=λe mn x cs b S B H t a d f g i=>.loop a d (h e mn x cs b S B H t a d f g i)
theorem W.exit {id:Nat} {a:List Item} (e:exitTo id k=some a) (h:W P m nt a env σ Z E):W P m nt (.code (.exit id)::k) env σ Z E:=λf mn x cs b S B H t c d g i j=>.exit c d e (h f mn x cs b S B H t c d g i j)
theorem W.cond {c:Operand} {a e:Code} {v:Bool} (i:ζ env c=.z (.bool v)) (h:W P m nt (.code (if v then a else e)::k) env σ Z E):W P m nt (.code (.cond c a e)::k) env σ Z E:=λj mn x cs b S B H t d f g l n=>by
 refine .cond (v:=v) d f ?_ (h j mn x cs b S B H t d f g l n);have:=Ud g.Zm c;rw[i] at this;rw[L5];generalize ZN t c=u at this;cases this;rfl
theorem W.cut (h:Nat) (aa:m<=h) (env':ω) (ab:h<=σ.length) (F:∀(id:Nat) (r:Row),id<h->σ[id]?=some r->X6 h r) (J:∀p∈env',Ym h σ (Z7 env p.1) p.2) (K:W P m nt k env' (σ.take h) Z E):W P m nt k env σ Z E:=
 λL mn x cs b S B H t M N c O Q=>by
 obtain⟨R,T⟩:=c.holds.close F;have d:Zx S (S.close B σ H h) (B.take m) (B.take h) (σ.take m) (σ.take h):=by
  have:=Zx.close (h:=h) c.holds ((Zx.refl S B σ).left m) (by simp;omega);exact this
 have D:XX m S B H σ (S.close B σ H h) (B.take h) H (σ.take h):=⟨T,d⟩
 have U:∀(l:ω),(∀p∈l,Ym h σ (Z7 env p.1) p.2)->∀i,Ym h σ (Z7 env i) (Z7 l i):=by
  intro l
  induction l with
  | nil=>intro _ i;exact .Zl _
  | cons p l V=>
   intro d i;simp only[Z7];split
   .rename_i e;rw[<-e];exact d p I
   .exact V (λq X=>d q (by simp[X])) i
 refine K L mn x cs b _ _ H t M N ⟨R,λi=>(c.Zm i).yl c.holds (U env' J i),c.size,by simp;omega⟩ (λj f g n o s t2 u w y A C=>?_) (λa f g n o s t2 u v w y A C Y=>?_)
 .exact O j f g n o s t2 u w (D.trans y) A C
 .exact Q a f g n o s t2 u v w (D.trans y) A C Y
end
def Xv (S:μ) (B:Z8) (σ:Ο) (as9:κ) (vs:Array Value):Prop:=as9.length=vs.size/\∀(i:Nat) (a:Ω) (v:Value),as9[i]?=some a->vs[i]?=some v->π S B σ a v
structure Pm (P:Program) (d:Value->Prop) (mn:Bool) (x:W2) (c:Frame) (rest:List Frame) (S:μ) (B:Z8) (H:Χ) (σ:Ο) (K:Ω->Ο->Prop) (E:Ω->Ο->Prop):Prop where
 ret:∀(a:Ω) (σ':Ο) (b:μ) (B':Z8) (H':Χ) (v:Value),K a σ'->Ext S B H b B' H'->Zx S b B B' σ σ'->Holds b B' σ' H'->π b B' σ' a v->ι P d mn x (c.finish v) rest H'
 Nf:∀(a:Ω) (σ':Ο) (b:μ) (B':Z8) (H':Χ) (v:Value),E a σ'->Ext S B H b B' H'->Zx S b B B' σ σ'->Holds b B' σ' H'->π b B' σ' a v->ι P d mn x (c.raise [{v,recovered:=false}]) rest H'
def DV (P:Program) (a:Value->Prop) (mn:Bool) (x:W2) (c:Frame) (rest:List Frame):Next->Χ->Prop
 | .enter g as9,H=>ι P a mn x (Frame.enter P g as9 .normal) (c::rest) H
 | .round l f b d e,H=>ι P a mn x (Frame.round l f b d e .normal) (c::rest) H
 | .value v,H=>ι P a mn x (c.finish v) rest H
 | _,_=>False
def WA (P:Program) (f:Ω) (args:κ) (σ:Ο) (K:Ω->Ο->Prop) (E:Ω->Ο->Prop):Prop:=
 ∀(a:Value->Prop) (mn:Bool) (x:W2) (c:Frame) (rest:List Frame) (S:μ) (B:Z8) (H:Χ) (b:Value) (vs:Array Value),Seq x->Holds S B σ H->π S B σ f b->Xv S B σ args vs->Pm P a mn x c rest S B H σ K E->
  Ψ P (do let d <-Deferred.ofValue b vs;invoke d.target d.args) H (DV P a mn x c rest) (λ_ _=>False)
def Plain (P:Program) (g:FuncId):Prop:=∃fn,P.funcs[g]?=some fn/\(fn.name == "runtime.NumGoroutine")=false/\fn.body.isNone=false
def Μ (P:Program) (g:FuncId) (args:κ) (σ:Ο) (K:Ω->Ο->Prop) (E:Ω->Ο->Prop):Prop:=
 Plain P g/\∀(a:Value->Prop) (mn:Bool) (x:W2) (c:Frame) (rest:List Frame) (S:μ) (B:Z8) (H:Χ) (vs:Array Value),Seq x->Holds S B σ H->Xv S B σ args vs->Pm P a mn x c rest S B H σ K E->
  ι P a mn x (Frame.enter P g vs .normal) (c::rest) H
section
variable {P:Program} {T:ZR} {A:List Nat} {m nt:Nat} {k:List Item} {env:ω} {σ:Ο} {Z:X7} {E:Ω->Ο->Prop} {K:Ω->Ο->Prop} {F:Yn}
theorem Xv.append {S:μ} {B:Z8} {as9 d:κ} {vs e:Array Value} (h:Xv S B σ as9 vs) (k:Xv S B σ d e):Xv S B σ (as9++d) (vs++e):=by
 refine⟨by simp[h.1,k.1],λi a v b c=>?_⟩;by_cases f:i<as9.length
 .rw[YK f] at b;rw[NM (by rw[<-h.1];exact f)] at c;exact h.2 i a v b c
 .rw[W8 U] at b;rw[KL (by rw[<-h.1];omega),<-h.1] at c;exact k.2 _ a v b c
theorem Μ.mono {g:FuncId} {args:κ} {K':Ω->Ο->Prop} {E':Ω->Ο->Prop} (h:Μ P g args σ K E) (f:∀a s,K a s->K' a s) (i:∀a s,E a s->E' a s):Μ P g args σ K' E':=
 ⟨h.1,λj mn x c rest S B H vs k l hv e=>h.2 j mn x c rest S B H vs k l hv ⟨λa σ' b B' H' v d=>e.ret a σ' b B' H' v (f _ _ d),λa σ' b B' H' v d=>e.Nf a σ' b B' H' v (i _ _ d)⟩⟩
theorem WA.mono {f:Ω} {args:κ} {K':Ω->Ο->Prop} {E':Ω->Ο->Prop} (h:WA P f args σ K E) (g:∀a s,K a s->K' a s) (i:∀a s,E a s->E' a s):WA P f args σ K' E':=
 λj mn x c rest S B H k vs l m n hv e=>h j mn x c rest S B H k vs l m n hv ⟨λa σ' b B' H' v d=>e.ret a σ' b B' H' v (g _ _ d),λa σ' b B' H' v d=>e.Nf a σ' b B' H' v (i _ _ d)⟩
theorem Μ.call {g:FuncId} {first args captured:κ} (h:Μ P g (first++args++captured) σ K E):WA P (.fn (.func g) first captured) args σ K E:=by
 intro a mn x c rest S B H v vs b d e hv f;cases e with
 | fn i j k l m n=>
  refine Ψ.bind' (Ψ.pure' ?_);obtain⟨⟨fn,o,p,r⟩,s⟩:=h;unfold invoke;simp only;unfold callFunc;refine Ψ.bind' ?_;show Ψ P (match P.funcs[g]? with|none=>_|some fn=>_) H _ _;rw[o];simp only[p,r,W',if_false];refine Ψ.pure' ?_;have t:Xv S B σ first i:=⟨k,m⟩
  have u:Xv S B σ captured j:=⟨l,n⟩;exact s a mn x c rest S B H _ b d ((t.append hv).append u) f
def XK (env:ω) (ops:Array Oper) (o:Oper):Option Bool:=match o.guard with
 | none=>some true
 | some (j,a)=>match (ops[j]?).bind (·.dst) with
  | some d=>match Z7 env d with
   | .z (.bool b)=>some (b==a)
   | _=>none
  | none=>none
theorem U0 {S:μ} {B:Z8} {t:Array Value} (h:YT S B σ env t) {ops:Array Oper} {o:Oper} {w:Bool} (a:XK env ops o=some w):Region.wanted o (yielded ops t)=w:=by
 unfold XK at a;unfold Region.wanted;split at a
 .rename_i e;rw[e];cases a;rfl
 .rename_i j g e;rw[e];split at a
  .rename_i d hd;split at a
   .rename_i b i;cases a;have c:=h d;rw[i] at c;unfold yielded;rw[WG] at c;cases f:t[d]? with
    | none=>rw[f] at c;cases c
    | some v=>
     rw[f] at c;simp only[Option.getD_some] at c;cases c;simp only[hd,Option.bind_some,f];cases b<;>cases g<;>rfl
   .cases a
  .cases a
def Zt (o:Oper) (env:ω) (a:Ω):ω:=match o.dst with|some d=>(d,a)::env|none=>env
def WO (nt:Nat) (o:Oper):Bool:=match o.dst with|some d=>decide (d<nt)|none=>true
theorem QN {S:μ} {B:Z8} {t:Array Value} (h:YT S B σ env t) {o:Oper} (hd:WO nt o=true) (b:t.size=nt) {a:Ω} {v:Value} (c:π S B σ a v):YT S B σ (Zt o env a) (put o t v)/\(put o t v).size=nt:=by
 unfold Zt put;unfold WO at hd;cases e:o.dst with
 | none=>exact⟨h,b⟩
 | some d=>
  rw[e] at hd;simp only[decide_eq_true_eq] at hd;exact⟨h.put (by rw[b];exact hd) c,by simp[b]⟩
theorem W.unwanted {ops:Array Oper} {i:Nat} {o:Oper} {rest:List Nat} (f:ops[i]?=some o) (g:XK env ops o=some false) (hd:WO nt o=true) (h:W P m nt (.inRegion ops rest::k) (Zt o env .Zl) σ Z F):W P m nt (.inRegion ops (i::rest)::k) env σ Z F:=
 λj mn x cs b S B H t d e c l n=>by
 obtain⟨p,r⟩:=QN c.Zm hd c.size (a:=.Zl) (v:=undef) (.Zl _);exact .unwanted d e f (U0 c.Zm g) (h j mn x cs b S B H _ d e ⟨c.holds,p,r,c.rows⟩ l n)
theorem W.op (C:ZB P T) {ops:Array Oper} {i:Nat} {o:Oper} {rest:List Nat} (L:ops[i]?=some o) (M:XK env ops o=some true) (hd:WO nt o=true) (N:∀c,o.op≠.defer c)
  (h:((VD T A env o).or σ (Wb T A env σ o)).holds λa σ'=>W P m nt (.inRegion ops rest::k) (Zt o env a) σ' Z F):W P m nt (.inRegion ops (i::rest)::k) env σ Z F:=
 λD mn x cs b S B H t E I d O Q=>by
 refine .op E I L (U0 d.Zm M) (.inr N) ?_;have R:=Zf.yt (yn (A:=A) C d.holds d.Zm o) (ym (A:=A) C d.holds d.Zm o);refine Ψ.mono (λU H' ⟨v,hv,J,B',σ',a,V,X,Y,e,aa⟩=>?_) (λ_ _ h=>h.elim) _ (R _ h);obtain⟨ab,ad⟩:=QN (d.Zm.later e) hd d.size aa;have K:XX m S B H σ J B' H' σ':=.of X e;have ae:ι P D mn x (ο b (put o t v) (.inRegion ops rest::k)) cs H':=
  V D mn x cs b J B' H' _ E I ⟨Y,ab,ad,X' d.rows e.length⟩ (λj f g l n p t2 r s u w y=>O j f g l n p t2 r s (K.trans u) w y)
   (λaf f g l n p t2 r ag s u w y ah=>Q af f g l n p t2 r ag s (K.trans u) w y ah)
 cases U<;>simp only[Eu,reduceCtorEq,Qj] at hv<;>first|(subst hv;exact ae)|skip
theorem W.call {ops:Array Oper} {i:Nat} {o:Oper} {rest:List Nat} (w:ops[i]?=some o) (ad:XK env ops o=some true) (hd:WO nt o=true) {f:Operand} {args:Array Operand} {ae:Array TypeId} (X:o.op=.call ⟨.value f,args,ae⟩)
  (h:WA P (ζ env f) (args.toList.map (ζ env)) σ (λa σ'=>W P m nt (.inRegion ops rest::k) (Zt o env a) σ' Z F) (λa s=>F a env s)):W P m nt (.inRegion ops (i::rest)::k) env σ Z F:=
 λY mn x cs b S B H t l A g af aa=>by
 refine .op l A w (U0 g.Zm ad) (.inr λc=>by rw[X];simp) ?_;have ag:Xv S B σ (args.toList.map (ζ env)) (args.map (ZN t)):=by
  refine⟨I,λi a v p C=>?_⟩;rw[YU,Wv] at p;rw[Py] at C;cases l:args[i]? with
  | none=>rw[l] at p;cases p
  | some y=>rw[l] at p C;cases p;cases C;exact Ud g.Zm y
 have ah:=h Y mn x (ο b t (.inRegion ops (i::rest)::k)) cs S B H (ZN t f) (args.map (ZN t)) l g.holds (Ud g.Zm f) ag ⟨λa σ' u B' H' v ai D n E J=>?_,λa σ' u B' H' v aj D n E J=>?_⟩
 .have e:execOp (ZN t) o=(do let d <-Deferred.ofValue (ZN t f) (args.map (ZN t));invoke d.target d.args):=by unfold execOp;rw[X];rfl
  rw[e];refine Ψ.mono (λak H' r=>?_) (λ_ _ h=>h.elim) _ ah;cases ak<;>first|exact r.elim|exact r|skip
  rename_i v;have:=VV (b:=b) (t:=t) (k:=k) (v:=v) w (rest:=rest);simp only[DV] at r;rw[this] at r;exact r
 .obtain⟨al,am⟩:=QN (g.Zm.later n) hd g.size J;have ab:XX m S B H σ u B' H' σ':=.of D n;rw[VV w];exact ai Y mn x cs b u B' H' _ l A ⟨E,al,am,X' g.rows n.length⟩ (λj K L M N O t2 Q R T U V=>af j K L M N O t2 Q R (ab.trans T) U V)
   (λan K L M N O t2 Q ao R T U V ap=>aa an K L M N O t2 Q ao R (ab.trans T) U V ap)
 .have:=aa a env σ' u B' H' t (.inRegion ops (i::rest)::k) v aj (.of D n) E (g.Zm.later n) J
  have e:(ο b t (.inRegion ops (i::rest)::k)).raise [{v,recovered:=false}]={ο b t (.inRegion ops (i::rest)::k) with mode:=.panicking [{v,recovered:=false}]}:=by simp[Frame.raise,ο,A]
  rw[e];exact this
theorem W.panic {ops:Array Oper} {i:Nat} {o:Oper} {rest:List Nat} (l:ops[i]?=some o) (n:XK env ops o=some true) {y:Operand} (j:o.op=.panic y) {f:TypeId} {a:Ω} (p:ζ env y=.Xe f a) (h:F (.Xe f a) env σ):W P m nt (.inRegion ops (i::rest)::k) env σ Z F:=
 λC mn x cs b S B H t r s d D u=>by
 refine .op r s l (U0 d.Zm n) (.inr λc=>by rw[j];simp) ?_;have g:=Ud d.Zm y;have e:execOp (ZN t) o=(do pure (.value (<-Instr.panic (ZN t y)))):=by unfold execOp;rw[j]
 rw[e];rw[p] at g;generalize hv:ZN t y=v at g;refine Ψ.bind' ?_;cases g with
 | Xe w A=>exact u (.Xe f a) env σ S B H t _ _ h .refl d.holds d.Zm (.Xe w A)
end
def Od (P:Program) (T:ZR) (A:List Nat) (env:ω) (o:Oper) (σ:Ο) (K:Ω->Ο->Prop) (E:Yn):Prop:=match o.op with
 | .call ⟨.value f,args,_⟩=>WA P (ζ env f) (args.toList.map (ζ env)) σ K (λa s=>E a env s)
 | .panic y=>match ζ env y with|.Xe t a=>E (.Xe t a) env σ|_=>False
 | .defer _=>False
 | _=>((VD T A env o).or σ (Wb T A env σ o)).holds K
def Wa (w:Bool) (a b:Prop):Prop:=(w=false->a)/\(w=true->b)
theorem yk {a b:Prop}:Wa true a b=b:=by simp[Wa]
theorem yj {a b:Prop}:Wa false a b=a:=by simp[Wa]
theorem yi {w w':Bool} {a b:Prop} (h:w=w'):Wa w a b=Wa w' a b:=by rw[h]
def Xc {α:Type} (x:Option α) (f:α->Prop):Prop:=match x with|none=>False|some a=>f a
theorem yh {α:Type} {a:α} {f:α->Prop}:Xc (some a) f=f a:=Xx rfl rfl
theorem yg {α:Type} {f:α->Prop}:Xc none f=False:=rfl
theorem yf {α:Type} {x a:Option α} {f:α->Prop} (h:x=a):Xc x f=Xc a f:=by rw[h]
theorem ye {K:Ω->Ο->Prop} {r r':Y2} (h:r=r'):r.holds K=r'.holds K:=by rw[h]
theorem or_congr {r r':Zf} {σ:Ο} {s:Y2} (h:r=r'):r.or σ s=r'.or σ s:=by rw[h]
def run (P:Program) (T:ZR) (A:List Nat) (nt:Nat) (ops:Array Oper):List Nat->ω->Ο->(ω->Ο->Prop)->(Yn)->Prop
 | [],env,σ,K,_=>K env σ
 | i::is,env,σ,K,E=>Xc ops[i]? λo=>WO nt o=true/\Xc (XK env ops o) λw=>
   Wa w (run P T A nt ops is (Zt o env .Zl) σ K E) (Od P T A env o σ (λa σ'=>run P T A nt ops is (Zt o env a) σ' K E) E)
def DU (P:Program) (T:ZR) (A:List Nat) (nt:Nat) (ops:Array Oper) (is:List Nat) (o:Oper) (env:ω) (K:ω->Ο->Prop) (E:Yn) (a:Ω) (σ':Ο):Prop:=run P T A nt ops is (Zt o env a) σ' K E
theorem Td {P:Program} {T:ZR} {A:List Nat} {nt:Nat} {ops:Array Oper} {env:ω} {σ:Ο} {K:ω->Ο->Prop} {E:Yn}:run P T A nt ops [] env σ K E=K env σ:=Xx rfl rfl
theorem Ν {P:Program} {T:ZR} {A:List Nat} {nt:Nat} {ops:Array Oper} {i:Nat} {is:List Nat} {env:ω} {σ:Ο} {K:ω->Ο->Prop} {E:Yn} :
  run P T A nt ops (i::is) env σ K E=Xc ops[i]? λo=>WO nt o=true/\Xc (XK env ops o) λw=>
   Wa w (run P T A nt ops is (Zt o env .Zl) σ K E) (Od P T A env o σ (DU P T A nt ops is o env K E) E):=Xx rfl rfl
theorem G4 {P:Program} {T:ZR} {A:List Nat} {nt:Nat} {ops:Array Oper} {is:List Nat} {o:Oper} {env:ω} {σ:Ο} {K:ω->Ο->Prop} {E:Yn} {a:Ω}:DU P T A nt ops is o env K E a σ=run P T A nt ops is (Zt o env a) σ K E:=Xx rfl rfl
section
variable {P:Program} {T:ZR} {A:List Nat} {m nt:Nat} {k:List Item} {env:ω} {σ:Ο} {Z:X7} {E:Yn} {K:Ω->Ο->Prop}
theorem W.ZF {ops:Array Oper} (h:W P m nt k env σ Z E):W P m nt (.inRegion ops []::k) env σ Z E:=λd mn x cs b S B H t a c e f g=>.ZF a c (h d mn x cs b S B H t a c e f g)
theorem G3 (t:ZB P T) {ops:Array Oper} (b:List Nat):∀(is:List Nat) (env:ω) (σ:Ο),run P T A nt ops is env σ (λenv σ=>W P m nt (.inRegion ops b::k) env σ Z E) E->W P m nt (.inRegion ops (is++b)::k) env σ Z E:=by
 intro is
 induction is with
 | nil=>intro env σ h;exact h
 | cons i is g=>
  intro env σ h;unfold run Xc at h;split at h
  .exact h.elim
  .rename_i o d;obtain⟨hd,h⟩:=h;split at h
   .exact h.elim
   rename_i w e;unfold Wa at h;cases w
   .exact .unwanted d e hd (g _ _ (h.1 rfl))
   .replace h:=h.2 rfl
    unfold Od at h;split at h
    .rename_i f args C j;exact .call d e hd j (h.mono (λa s h=>g _ _ h) (λ_ _ h=>h))
    .rename_i y j;split at h
     .rename_i D a u;exact .panic d e j u h
     .exact h.elim
    .exact h.elim
    .rename_i F H v;refine .op (A:=A) t d e hd (λc x=>v c x) ?_;generalize (VD T A env o).or σ (Wb T A env σ o)=r at h;have B:∀r:Y2,r.holds (λa σ'=>run P T A nt ops is (Zt o env a) σ' (λenv σ=>W P m nt (.inRegion ops b::k) env σ Z E) E)->r.holds λa σ'=>W P m nt (.inRegion ops (is++b)::k) (Zt o env a) σ' Z E:=by
      intro r
      induction r with
      | ok a s=>exact λh=>g _ _ h
      | Y' p r l=>exact λh=>⟨h.1,l h.2⟩
      | all n f l=>exact λh i hi=>l i (h i hi)
      | bad=>exact λh=>h
     exact B r h
theorem Y2.yd {K K':Ω->Ο->Prop} (c:∀a s,K a s->K' a s):∀r:Y2,r.holds K->r.holds K':=by
 intro r
 induction r with
 | ok a s=>exact λh=>c _ _ h
 | Y' p r b=>exact λh=>⟨h.1,b h.2⟩
 | all n f b=>exact λh i hi=>b i (h i hi)
 | bad=>exact λh=>h
theorem yc {env:ω} {o:Oper} {K K':Ω->Ο->Prop} (c:∀a s,K a s->K' a s) (h:Od P T A env o σ K E):Od P T A env o σ K' E:=by
 unfold Od at h ⊢;split
 .rename_i f args d b;rw[b] at h;exact WA.mono h c λ_ _ h=>h
 .rename_i y b;rw[b] at h;exact h
 .rename_i b;rw[b] at h;exact h
 .rename_i e g i;split at h
  .rename_i f args d b;exact absurd b (e f args d)
  .rename_i y b;exact absurd b (g y)
  .rename_i y b;exact absurd b (i y)
  .exact Y2.yd c _ h
theorem Ji {ops:Array Oper} {nt:Nat} {K K':ω->Ο->Prop} (f:∀e s,K e s->K' e s):∀(is:List Nat) (env:ω) (σ:Ο),run P T A nt ops is env σ K E->run P T A nt ops is env σ K' E:=by
 intro is
 induction is with
 | nil=>intro env σ h;exact f _ _ h
 | cons i is b=>
  intro env σ h;unfold run Xc at h ⊢;cases c:ops[i]? with
  | none=>rw[c] at h;exact h.elim
  | some o=>
   rw[c] at h;simp only at h ⊢;refine⟨h.1,?_⟩
   replace h:=h.2
   cases d:XK env ops o with
   | none=>rw[d] at h;exact h.elim
   | some w=>
    rw[d] at h;unfold Wa at h ⊢;exact⟨λe=>b _ _ (h.1 e),λe=>yc (λa s=>b _ _) (h.2 e)⟩
theorem yb (a:ZB P T) {ops:Array Oper} (is:List Nat) (env:ω) (σ:Ο) (h:run P T A nt ops is env σ (λenv σ=>W P m nt k env σ Z E) E):W P m nt (.inRegion ops is::k) env σ Z E:=by
 have:=G3 (A:=A) a [] is env σ (ops:=ops) (k:=k) (Z:=Z) (E:=E) (P:=P) (m:=m) (nt:=nt);rw[Vw] at this;refine this ?_;have b:∀(is:List Nat) (env:ω) (σ:Ο) (K K':ω->Ο->Prop),(∀e s,K e s->K' e s)->run P T A nt ops is env σ K E->run P T A nt ops is env σ K' E:=λis env σ K K' c h=>Ji c is env σ h;exact b is env σ _ _ (λe s h=>.ZF h) h
def idx:Nat->List Nat->List Nat
 | 0,l=>l
 | n+1,l=>idx n (n::l)
theorem idx_eq (n:Nat):idx n []=List.range n:=by
 have:∀(n:Nat) (l:List Nat),idx n l=List.range.loop n l:=by
  intro n
  induction n with
  | zero=>intro l;rfl
  | succ n a=>intro l;exact a _
 exact this n []
theorem Y4 (e:ZB P T) {id:Nat} {ops:Array Oper} (h:∀a:ω->Ο->Prop,(∀env σ,W P m nt k env σ Z E->a env σ)->run P T A nt ops (idx ops.size []) env σ a E):W P m nt (.code (.region id ops false)::k) env σ Z E:=
 λf mn x cs b S B H t c d g i j=>.region c d (yb e _ _ _ (by rw[<-idx_eq];exact h _ λ_ _ h=>h) f mn x cs b S B H t c d g i j)
theorem W.forget (env':ω) (d:∀p∈env',Z7 env p.1=p.2) (h:W P m nt k env' σ Z E):W P m nt k env σ Z E:=
 λf mn x cs b S B H t g j a n o=>by
 have r:∀(l:ω),(∀p∈l,Z7 env p.1=p.2)->∀i,Z7 l i=.Zl\/Z7 l i=Z7 env i:=by
  intro l
  induction l with
  | nil=>intro _ i;exact .inl rfl
  | cons p l s=>
   intro c i;simp only[Z7];split
   .rename_i e;subst e;exact .inr (c p I).symm
   .exact s (λq u=>c q (by simp[u])) i
 refine h f mn x cs b S B H t g j ⟨a.holds,λi=>?_,a.size,a.rows⟩ n o;rcases r env' d i with e|e
 .rw[e];exact .Zl _
 .rw[e];exact a.Zm i
theorem W.RA (a:ZB P T) (env':ω) {id:Nat} {ops:Array Oper} (h:W P m nt k env' σ Z E) (b:run P T A nt ops (idx ops.size []) env σ (λe s=>s=σ/\∀p∈env',Z7 e p.1=p.2) E):W P m nt (.code (.region id ops false)::k) env σ Z E:=
 Y4 a λg c=>Ji (λe s ⟨d,f⟩=>c e s (d▸W.forget env' f h)) _ _ _ b
def PZ (i:V5) (l:κ):Option Ω:=if i.agg then(if i.size<=l.length then some (.ZT (l.take i.size)) else none) else l.head?
def Nd (T:ZR) (a:TypeId) (σ:Ο):Ω->Option Ω
 | .Θ b=>match T a with|some i=>PZ i b|none=>none
 | .Κ id n i j=>match T a,σ[id]? with
  | some c,some (.cells _ _ l)=>if l.length=n then match l[i]? with
   | some e=>PZ c (e.cells.drop j)
   | none=>none else none
  | _,_=>none
 | _=>none
def QM (T:ZR) (env:ω) (σ:Ο):ResultVar->Option Ω
 | .tmp t=>some (Z7 env t)
 | .cell a b=>Nd T b σ (Z7 env a)
def LO:κ->Ω
 | [a]=>a
 | l=>.ZW l
def SJ (T:ZR) (a:List ResultVar) (env:ω) (σ:Ο):Option Ω:=(a.mapM (QM T env σ)).map LO
theorem DT {i:V5} {l:κ} {v:Ω} (h:PZ i l=some v):QR i l=.ok v:=by
 unfold PZ at h;unfold QR;cases b:i.agg with
 | true=>
  rw[b] at h;simp only[if_true] at h ⊢;split at h
  .rename_i c;cases h;rw[if_pos c]
  .cases h
 | false=>
  rw[b] at h;simp only[W',if_false] at h ⊢;cases l with
  | nil=>cases h
  | cons a l=>cases h;rfl
theorem ya (p:ZB P T) {S:μ} {B:Z8} {H:Χ} (f:Holds S B σ H) {r:TypeId} {a v:Ω} {w:Value} (h:Nd T r σ a=some v) (s:π S B σ a w):Y3 P (do loadVar r (<-asAddr w)) S B H σ (.ok v σ):=by
 unfold Nd at h;split at h
 .rename_i D;split at h
  .rename_i i hi;cases s with
   | Θ b o w c g=>
    have:=JY p f hi w (λj a y=>f.YO _ _ _ (c j a y)) g;rw[DT h] at this;exact this
  .cases h
 .rename_i id n i j;split at h
  .rename_i E t k l hi m;split at h
   .rename_i F;split at h
    .rename_i e A;cases s with
     | Κ c g C=>
      rw[m] at c;cases c;obtain⟨I,w,u⟩:=Et f m C A;have:=JY p f hi (l:=e.cells.drop j) (b:=_) (o:=i*k+j) (λx=>w (j+x)) (λx a d=>⟨true,by
       rw[Tq] at d;rw[UB];exact(u _ a d).1⟩) (λx a d=>by
       rw[Tq] at d;exact(u _ a d).2.1)
      rw[DT h] at this;exact this
     | Ve v c g=>rw[m] at c;cases c;simp only[Row.WB] at g;omega
    .cases h
   .cases h
  .cases h
 .cases h
theorem LN (J:ZB P T) {fn:Func} {a:Ω} (h:SJ T fn.results.toList env σ=some a) {S:μ} {B:Z8} {H:Χ} {t:Array Value} (d:Holds S B σ H) (g:YT S B σ env t) :
  Ψ P (results fn t) H (λv H'=>∃c B',Ext S B H c B' H'/\Zx S c B B' σ σ/\Holds c B' σ H'/\π c B' σ a v) (λ_ _=>False):=by
 let f:ResultVar->Sem Value:=λr=>match r with
  | .tmp x=>pure (t.getD x undef)
  | .cell a E=>do loadVar E (<-asAddr (t.getD a undef))
 have K:∀(e:List ResultVar) (as9:κ) (S:μ) (B:Z8) (H:Χ),e.mapM (QM T env σ)=some as9->Holds S B σ H->YT S B σ env t->
   Ψ P (e.mapM f) H (λvs H'=>∃c B',Ext S B H c B' H'/\Zx S c B B' σ σ/\Holds c B' σ H'/\as9.length=vs.length/\∀(i:Nat) (a:Ω) (v:Value),as9[i]?=some a->vs[i]?=some v->π c B' σ a v) (λ_ _=>False):=by
  intro e
  induction e with
  | nil=>intro as9 S B H h d _;simp at h;subst h;exact Ψ.pure' ⟨S,B,.refl _ _ _,.refl _ _ _,d,rfl,λi a v hi=>by simp at hi⟩
  | cons r e L=>
   intro as9 S B H h d g;rw[List.mapM_cons] at h ⊢;cases j:QM T env σ r with
   | none=>rw[j] at h;cases h
   | some a=>
    rw[j] at h;simp only[Option.bind_eq_bind,Option.bind_some] at h;cases s:e.mapM (QM T env σ) with
    | none=>rw[s] at h;cases h
    | some l2=>
     rw[s] at h;cases h;have step:Ψ P (f r) H (λv H'=>∃c B',Ext S B H c B' H'/\Zx S c B B' σ σ/\Holds c B' σ H'/\π c B' σ a v) (λ_ _=>False):=by
      cases r with
      | tmp x=>simp only[QM,Qj] at j;subst j;exact Ψ.pure' ⟨S,B,.refl _ _ _,.refl _ _ _,d,g x⟩
      | cell x E=>
       refine Ψ.mono (λv H' ⟨c,B',σ',m,⟨k,u⟩,M,N,O,Q⟩=>?_) (λ_ _ h=>h) _ (ya J d j (g x) (λm R=>m=a/\R=σ) ⟨rfl,rfl⟩);subst k;subst u;exact⟨c,B',M,O,N,Q⟩
     refine Ψ.bind' (Ψ.mono (λv F ⟨w,y,A,l1,k,n⟩=>?_) (λ_ _ h=>h) _ step);refine Ψ.bind' (Ψ.mono (λvs aa ⟨U,V,Φ,I,u,W,X⟩=>?_) (λ_ _ h=>h) _ (L l2 w y F s k (g.later l1)));refine Ψ.pure' ⟨U,V,A.trans Φ,l1.trans I,u,by simp[W],λi m Y hi hv=>?_⟩
     match i with
     | 0=>simp at hi hv;subst hi;subst hv;exact n.later I
     | i+1=>simp at hi hv;exact X i m Y hi hv
 unfold SJ at h;cases C:fn.results.toList.mapM (QM T env σ) with
 | none=>rw[C] at h;cases h
 | some as9=>
  rw[C] at h;cases h;have Z:=K fn.results.toList as9 S B H C d g;unfold results;rw[Array.mapM_eq_mapM_toList];refine Ψ.bind' ?_;refine Ψ.bind (fn.results.toList.mapM f) (Ψ.mono (λvs F ⟨w,y,A,l1,k,D,n⟩=>?_) (λ_ _ h=>h) _ Z);refine Ψ.pure' ?_;refine Ψ.pure' ⟨w,y,A,l1,k,?_⟩;by_cases o:vs.toArray.size=1
  .rw[dif_pos o];have p:vs.length=1:=by simpa using o
   obtain⟨v,rfl⟩:=List.length_eq_one_iff.1 p;obtain⟨a,rfl⟩:=List.length_eq_one_iff.1 (D.trans p);exact n 0 a v rfl rfl
  .rw[dif_neg o];have p:as9.length≠1:=by rw[D];simpa using o
   have:LO as9=.ZW as9:=by
    match as9 with
    | []=>rfl
    | [a]=>simp at p
    | a::b::l=>rfl
   rw[this];exact .ZW _ (by simpa using D) λi a v hi hv=>n i a v hi (by simpa using hv)
def entry:Nat->κ->ω
 | _,[]=>[]
 | i,a::as9=>(i,a)::entry (i+1) as9
theorem DS {S:μ} {B:Z8} {as9:κ} {vs:Array Value} (h:Xv S B σ as9 vs) (n:Nat):YT S B σ (entry 0 as9) (vs++Array.replicate n undef):=by
 have f:∀(l:κ) (j i:Nat),Z7 (entry j l) i=if j<=i then(l[i-j]?).getD .Zl else .Zl:=by
  intro l
  induction l with
  | nil=>intro j i;simp[entry,Z7]
  | cons a l g=>
   intro j i;simp only[entry,Z7];by_cases e:j=i
   .subst e;simp
   .rw[if_neg e,g];by_cases b:j<=i
    .rw[if_pos U,if_pos b];have:i-j=(i-(j+1))+1:=U;rw[this,List.getElem?_cons_succ]
    .rw[if_neg U,if_neg b]
 intro i;rw[f,if_pos (χ _),Nat.sub_zero];by_cases c:i<as9.length
 .have d:=δ c;rw[d];have hv:i<vs.size:=by rw[<-h.1];exact c
  rw[WG,NM hv];exact h.2 i _ _ d (by rw[XG hv];rfl)
 .rw[Wu U];exact .Zl _
def Ends (T:ZR) (b:List ResultVar) (K:Ω->Ο->Prop) (j:List Item) (env:ω) (σ:Ο):Prop:=match j with
 | []=>∃a,SJ T b env σ=some a/\K a σ
 | .code .ret::_=>∃a,SJ T b env σ=some a/\K a σ
 | _=>False
theorem Μ.x' {F:Ω->Ο->Prop} (A:ZB P T) {g:FuncId} {fn:Func} {body:Code} (f:P.funcs[g]?=some fn) (p:fn.body=some body) (C:(fn.name == "runtime.NumGoroutine")=false) {args:κ} (Y:args.length<=fn.ntmps)
  (h:W P σ.length fn.ntmps [.code body] (entry 0 args) σ (Ends T fn.results.toList K) (λa _ s=>F a s)):Μ P g args σ K F:=by
 refine⟨⟨fn,f,C,by rw[p];rfl⟩,λr mn x c rest S B H vs b m hv t=>?_⟩;have i:∀{α:Type} (l:List α),l.length=σ.length->l.take σ.length=l:=λl u=>U4 U;have D:Frame.enter P g vs .normal=ο (Frame.enter P g vs .normal) (vs++Array.replicate (fn.ntmps-vs.size) undef) [.code body]:=by
  simp[Frame.enter,ο,f,p]
 rw[D];have E:(vs++Array.replicate (fn.ntmps-vs.size) undef).size=fn.ntmps:=by
  have:=hv.1;simp;omega
 refine h r mn x (c::rest) _ S B H _ b rfl ⟨m,DS hv _,E,γ _⟩ (λj env' σ' k B' H' t' n d e w u=>?_) (λa env' σ' k B' H' t' n v I e J _ L=>?_)
 .have o:Zx S k B B' σ σ':=by
   have:=e.later
   rwa [i B m.len,i σ rfl] at this
  have y:(∃a,SJ T fn.results.toList env' σ'=some a/\K a σ')->ι P r mn x {ο (Frame.enter P g vs .normal) t' n with mode:=.returning} (c::rest) H':=λ⟨a,M,N⟩=>by
   refine .back b rfl rfl (.inl rfl) f ?_;refine Ψ.mono (λv O ⟨Q,R,Φ,l2,V,X⟩=>?_) (λ_ _ h=>h) _ (LN A M w.holds w.Zm);exact t.ret a σ' Q R O v N (e.ext.trans Φ) (o.trans l2) V X
  have:n=j:=u;subst this;unfold Ends at d;split at d
  .exact .P9 b rfl rfl (y d)
  .exact .ret b rfl rfl (y d)
  .exact d.elim
 .have o:Zx S k B B' σ σ':=by
   have:=e.later
   rwa [i B m.len,i σ rfl] at this
  refine .raised b rfl rfl ?_ (t.Nf a σ' k B' H' v I e.ext o J L);simp[Frame.catches,ο,Frame.enter,f]
end
section
variable {P:Program} {S YA:μ} {B:Z8} {H H':Χ} {σ:Ο}
theorem π.take {h:Nat} {a:Ω} {v:Value} (s:π S B σ a v) (d:ς h a):π S (B.take h) (σ.take h) a v:=by
 have k:∀{α:Type} (l:List α) (i:Nat),i<h->(l.take h)[i]?=l[i]?:=λl i hi=>Tt hi
 induction s with
 | z v=>exact .z v
 | Θ b o w f _ m=>
  cases d with
  | Θ d=>exact .Θ b o w f λj a n=>m j a n (d a (Zi n))
 | Wo base cap h=>exact .Wo base cap h
 | sl b o cap w f g p r _ m=>
  cases d with
  | sl d=>exact .sl b o cap w f g p r λi e hi j c n=>m i e hi j c n (d e (Zi hi) c (Zi n))
 | ZT vs f _ m=>
  cases d with
  | ZT d=>exact .ZT vs f λi a v hi hv=>m i a v hi hv (d a (Zi hi))
 | ZW vs f _ m=>
  cases d with
  | ZW d=>exact .ZW vs f λi a v hi hv=>m i a v hi hv (d a (Zi hi))
 | Κ f g p=>
  cases d with
  | Κ d=>exact .Κ (by rw[k _ _ d];exact f) g (by rw[k _ _ d];exact p)
 | Ve v f g=>
  cases d with
  | Κ d=>exact .Ve v (by rw[k _ _ d];exact f) g
 | ms cap f g p r t u=>
  cases d with
  | ms d=>exact .ms cap (by rw[k _ _ d];exact f) g (by rw[k _ _ d];exact p) r t u
 | Vt v f g=>
  cases d with
  | ms d=>exact .Vt v (by rw[k _ _ d];exact f) g
 | fn vs x f g _ _ y A=>
  cases d with
  | fn C D=>exact .fn vs x f g (λi a v hi hv=>y i a v hi hv (C a (Zi hi))) λi a v hi hv=>A i a v hi hv (D a (Zi hi))
 | Xe v _ m=>
  cases d with
  | Xe d=>exact .Xe v (m d)
 | mp f g=>
  cases d with
  | mp d=>exact .mp (by rw[k _ _ d];exact f) (by rw[k _ _ d];exact g)
 | Uf v f=>
  cases d with
  | mp d=>exact .Uf v (by rw[k _ _ d];exact f)
 | it f g=>
  cases d with
  | it d=>exact .it (by rw[k _ _ d];exact f) (by rw[k _ _ d];exact g)
 | Tg v f=>
  cases d with
  | it d=>exact .Tg v (by rw[k _ _ d];exact f)
 | Zl v=>exact .Zl v
theorem π.any {a:Ω} {v:Value} (b:π S B σ a v) (c:ς 0 a) (d:Z8) (e:Ο):π S d e a v:=by
 have f:π S [] [] a v:=by simpa using b.take c
 exact f.later ⟨λ_ _ _ h=>h,λid r h=>by simp at h⟩
theorem Holds.bare (a:Holds S B σ H):Holds S [] [] H:=
 ⟨a.YO,rfl,λid r bo h=>by simp at h,λi j c d b e f g h=>by simp at h,λid r b N h=>by simp at h⟩
theorem Holds.back (a:Holds S B σ H) (c:Ext S [] H YA [] H') (t:Holds YA [] [] H'):Holds YA B σ H'/\Ext S B H YA B H'/\Zx S YA B B σ σ:=by
 have n:Zx S YA B B σ σ:=⟨c.YO,λid r h=>⟨r,h,r.P8 _⟩⟩
 have i:∀b,¬Z8.has ([]:Z8) b:=λb ⟨N,h⟩=>by simp at h
 have p:∀(id:Nat) (r:Row) (b N:Nat),σ[id]?=some r->r.live->B[id]?=some (some (b,N))->UL H H' b:=λid r b N k j s=>(c.Xf b (i b) (a.SP k j s)).RG λo=>a.sep id r b N k j s o;refine⟨⟨t.YO,a.len,λid r bo d f=>?_,a.inj,λid r b N d g f o=>?_⟩,⟨c.YO,λb _ u=>c.Xf b (i b) u,λb l=>.inl l,λb o v hv=>?_,c.grow⟩,n⟩
 .by_cases g:r.live
  .refine(a.row id r bo d f).later n (λb N e=>p id r b N d g (by rw[f,e])) λm left w e=>?_;subst e;obtain⟨_,_,x,y,xs,A,seen,_,k,⟨es,j⟩,_⟩:=a.row id _ bo d f;exact⟨rfl,rfl,λb N l=>p m _ b N j trivial l⟩
  .cases r<;>first|exact absurd trivial g|trivial
 .cases hv:YA b o with
  | none=>rfl
  | some v=>
   rcases c.QT b o v hv with h|h|h
   .rw[a.sep id r b N d g f o] at h;cases h
   .exact absurd h (i b)
   .exact absurd h (a.SP d g f)
 .rcases c.QT b o v hv with h|h|h
  .exact .inl h
  .exact absurd h (i b)
  .exact .inr (.inr h)
theorem Μ.frame {g:FuncId} {args:κ} {K:Ω->Prop} {E:Ω->Prop} (h:Μ P g args [] (λa s=>K a/\ς 0 a/\s=[]) (λa s=>E a/\ς 0 a/\s=[])) (t:∀a∈args,ς 0 a):Μ P g args σ (λa s=>K a/\s=σ) (λa s=>E a/\s=σ):=by
 refine⟨h.1,λu mn x c rest S B H vs w j hv k=>?_⟩;refine h.2 u mn x c rest S [] H vs w j.bare ⟨hv.1,λi a v l y=>(hv.2 i a v l y).any (t a (Zi l)) _ _⟩ ⟨λa σ' YA B' H' v ⟨b,d,m⟩ n A e f=>?_,λa σ' YA B' H' v ⟨b,d,m⟩ n A e f=>?_⟩
 all_goals
  subst m;have C:B'=[]:=YL.1 (by rw[e.len];rfl);subst C;obtain⟨o,p,r⟩:=j.back n e
 .exact k.ret a σ YA B H' v ⟨b,rfl⟩ p r o (f.any d _ _)
 .exact k.Nf a σ YA B H' v ⟨b,rfl⟩ p r o (f.any d _ _)
def LM (P:Program) (g:FuncId) (args:κ) (r:Ω):Prop:=Μ P g args [] (λa s=>a=r/\s=[]) (λ_ _=>False)
theorem LM.call {g:FuncId} {first args captured:κ} {r:Ω} {K:Ω->Ο->Prop} {E:Ω->Ο->Prop} (h:LM P g (first++args++captured) r) (c:∀a∈first++args++captured,ς 0 a) (d:ς 0 r) (e:K r σ) :
  WA P (.fn (.func g) first captured) args σ K E:=by
 have f:Μ P g (first++args++captured) [] (λa s=>a=r/\ς 0 a/\s=[]) (λa s=>False/\ς 0 a/\s=[]):=h.mono (λa s ⟨b,Φ⟩=>⟨b,b▸d,Φ⟩) (λ_ _ h=>h.elim);exact Μ.call ((f.frame (σ:=σ) c).mono (λa s ⟨b,Φ⟩=>by subst b;subst Φ;exact e) (λ_ _ h=>h.1.elim))
end
theorem x9 {h:Nat} {v:Value}:ς h (.z v)↔True:=⟨λ_=>trivial,λ_=>.z v⟩
theorem x8 {h:Nat}:ς h .Zl↔True:=⟨λ_=>trivial,λ_=>.Zl⟩
theorem Jh {h:Nat} {l:κ}:ς h (.Θ l)↔∀a∈l,ς h a:=⟨λx=>by cases x;assumption,.Θ⟩
theorem x7 {h:Nat} {l:κ}:ς h (.ZT l)↔∀a∈l,ς h a:=⟨λx=>by cases x;assumption,.ZT⟩
theorem x6 {h:Nat} {l:κ}:ς h (.ZW l)↔∀a∈l,ς h a:=⟨λx=>by cases x;assumption,.ZW⟩
theorem YG {h:Nat} {ex:Bool} {k:Nat} {l:κ}:ς h (.sl ex k l)↔∀e∈l,∀a∈e.cells,ς h a:=⟨λx=>by cases x;assumption,.sl⟩
theorem x5 {h:Nat} {t:TypeId} {a:Ω}:ς h (.Xe t a)↔ς h a:=⟨λx=>by cases x;assumption,.Xe⟩
theorem WV {h id n i j:Nat}:ς h (.Κ id n i j)↔id<h:=⟨λx=>by cases x;assumption,.Κ⟩
theorem Ux {h id n i j:Nat}:ς h (.ms id n i j)↔id<h:=⟨λx=>by cases x;assumption,.ms⟩
theorem PY {h id:Nat}:ς h (.mp id)↔id<h:=⟨λx=>by cases x;assumption,.mp⟩
theorem x4 {h id:Nat}:ς h (.it id)↔id<h:=⟨λx=>by cases x;assumption,.it⟩
theorem Va {h:Nat} {f:Fn} {b cs:κ}:ς h (.fn f b cs)↔(∀a∈b,ς h a)/\∀a∈cs,ς h a:=⟨λx=>by cases x;exact⟨by assumption,by assumption⟩,λx=>.fn x.1 x.2⟩
end Go.TL
