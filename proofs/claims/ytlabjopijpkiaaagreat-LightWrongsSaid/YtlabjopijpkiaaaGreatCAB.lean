import Derived.Test.YtlabjopijpkiaaaGreatCAA
set_option maxHeartbeats 16000000
set_option maxRecDepth 20000
set_option linter.unusedSectionVars false
set_option linter.unusedSimpArgs false
set_option linter.unusedVariables false
namespace Go.TL
open Go.Conc
open Go.ConcM (OsLater)
open Go.ConcN (sumTo upd sumTo_upd upd_ne upd_same sumTo_congr le_sumTo)
theorem Fy:∀(q:Nat) (l:List Nat),l.Nodup->(∀x∈l,x<q)->l.length<=q:=by
 intro q
 induction q with
 | zero=>intro l _ h;cases l with
  | nil=>simp
  | cons a l=>exact absurd (h a J) U
 | succ q e=>
  intro l b h;have:=e (l.erase q) (b.erase q) (λx f=>by
   have c:=(b.mem_erase_iff).1 f
   have:=h x c.2
   have:=c.1;omega)
  by_cases d:q∈l
  .have:=List.length_erase_of_mem d;omega
  .rw[List.erase_of_not_mem d] at this;omega
theorem AI (l:List Nat) (q:Nat) (b:l.Nodup) (h:∀x∈l,x<q) (e:l.length=q):∀k,k<q->k∈l:=λk c=>by
 apply Ts;intro d;have:=Fy q (k::l) (Rg.2 ⟨d,b⟩) (λx a=>by
  rcases Zm.1 a with rfl|a
  .exact c
  .exact h x a)
 simp at this;omega
section
variable {n:Nat} {tok:Nat->Nat->Tok} {spec:Nat->Nat->Option Spec} {view:Nat->Nat->Option (Nat×δ)} {rel:Nat->Bool} {O:Nat->Option δ} {Zr home:Nat->Nat} {s i:Nat} {o:δ}
theorem X0.fin (h:X0 n tok spec view rel O Zr home) (r:O s=some o) {j q p:Nat} {e:Qr} (b:tok j s=.par q p e) (u:V8 (.par q p e)=1):p=0/\o.cnt=0/\∀a k m g,tok a s=.ch k m g->g=.gone:=by
 have f:j<n:=h.lt (s:=s) (by rw[b];simp)
 have c:=(h.Z3 s o r).2
 have v:ZS n (λa=>tok a s) V8=1:=by
  rw[RK (φ:=V8) (λt b=>by cases t<;>simp_all [XU,V8]) c.SS f (by rw[b];rfl),b,u]
 have w:ZS n (λa=>tok a s) WI=p:=by
  rw[RK (φ:=WI) (λt b=>by cases t<;>simp_all [XU,WI]) c.SS f (by rw[b];rfl),b];rfl
 obtain⟨f1,f2,f3,f4,f5,f6⟩:=c.FY v;refine⟨U,f4,λa k m g i=>?_⟩;have d:a<n:=h.lt (s:=s) (by rw[i];simp);have x:=c.Io;have l1:=Xv (λa=>tok a s) Vz d;have l2:=Xv (λa=>tok a s) U5 d;have l:=Xv (λa=>tok a s) U4 d;simp only[i,Vz,U5,U4] at l1 l2 l;cases g with
 | gone=>rfl
 | work=>simp only[Qq] at l1;omega
 | rel=>simp only[Qq] at l1;omega
 | l2=>simp only[OK] at l2;omega
 | RO=>simp only[OJ] at l;omega
theorem X0.Fx (h:X0 n tok spec view rel O Zr home) (a:O s=some o) {k:Nat} {m:Uw} {g:Px} (b:tok i s=.ch k m g) (c:g≠.gone):∀j q p,tok j s≠.par q p .ZQ:=λj q p d=>
 c ((h.fin a d rfl).2.2 i k m g b)
theorem X0.only (h:X0 n tok spec view rel O Zr home) (c:O s=some o) (b:Wa (tok i s)=1):∀j k L g,tok j s=.ch k (.YI L) g->j=i:=λj k L g d=>by
 apply Ts;intro f;have l:i<n:=h.lt (s:=s) (by intro e;rw[e] at b;cases b);have m:j<n:=h.lt (s:=s) (by rw[d];simp);have p:=Xb (λa=>tok a s) .nil Wa l;have Φ:=Xv (upd (λa=>tok a s) i .nil) Wa m;rw[upd_ne _ _ f] at Φ;have r:Wa .nil=0:=rfl;have t:Wa (tok j s)=1:=by rw[d];rfl
 simp only[b,r] at p;simp only[t] at Φ;have:=(h.Z3 s o c).1.F0;have:=(h.Z3 s o c).1.f1;omega
def Q5 (tok:Nat->Nat->Tok) (s:Nat):Nat->List Nat
 | 0=>[]
 | n+1=>match tok n s with
  | .ch k _ _=>k::Q5 tok s n
  | _=>Q5 tok s n
theorem Mj (tok:Nat->Nat->Tok) (s:Nat):∀n k,k∈Q5 tok s n↔∃j m g,j<n/\tok j s=.ch k m g
 | 0,k=>by simp[Q5]
 | n+1,k=>by
  have c:=Mj tok s n k
  have d:(∃j m g,j<n/\tok j s=.ch k m g)->∃j m g,j<n+1/\tok j s=.ch k m g:=λ⟨j,m,g,f,a⟩=>⟨j,m,g,U,a⟩
  have split:(∃j m g,j<n+1/\tok j s=.ch k m g)->(∃j m g,j<n/\tok j s=.ch k m g)\/∃m g,tok n s=.ch k m g:=λ⟨j,m,g,f,a⟩=>by
   by_cases e:j=n
   .subst e;exact .inr ⟨m,g,a⟩
   .exact .inl ⟨j,m,g,U,a⟩
  unfold Q5;cases b:tok n s with
  | nil=>exact c.trans ⟨d,λh=>(split h).elim id λ⟨m,g,e⟩=>by rw[b] at e;cases e⟩
  | par=>exact c.trans ⟨d,λh=>(split h).elim id λ⟨m,g,e⟩=>by rw[b] at e;cases e⟩
  | ch l i g'=>
   rw[Zm,c];constructor
   .rintro(rfl|h)
    .exact⟨n,i,g',U,b⟩
    .exact d h
   .intro h;rcases split h with h|⟨m,g,e⟩
    .exact .inr h
    .rw[b] at e;cases e;exact .inl rfl
theorem Fw (tok:Nat->Nat->Tok) (s:Nat):∀n,(Q5 tok s n).length=ZS n (λa=>tok a s) Ut
 | 0=>rfl
 | n+1=>by
  have b:=Fw tok s n;rw[OH];unfold Q5;cases c:tok n s<;>simp[Ut,b]
theorem Fv (c:∀j d k m g a g',tok j s=.ch k m g->tok d s=.ch k a g'->j=d):∀n,(Q5 tok s n).Nodup
 | 0=>List.nodup_nil
 | n+1=>by
  have b:=Fv c n;unfold Q5;cases e:tok n s with
  | nil=>exact b
  | par=>exact b
  | ch k m g=>
   refine Rg.2 ⟨λh=>?_,b⟩;obtain⟨j,a,g',i,f⟩:=(Mj tok s n k).1 h;have:=c j n k a g' m g f e;omega
theorem X0.full (h:X0 n tok spec view rel O Zr home) (f:O s=some o) {q:Nat} {d:Qr} (b:tok i s=.par q 0 d) (v:d=.SW\/d=.w4) :
  o.YJ.Perm (List.range q)/\(o.ZO≠none->o.L.Perm (List.range q))/\∀a k m g,tok a s=.ch k m g->g=.gone:=by
 have u:i<n:=h.lt (s:=s) (by rw[b];simp)
 have w:V8 (.par q 0 d)=1:=by rcases v with rfl|rfl<;>rfl
 obtain⟨_,_,p⟩:=h.fin f b w;have r:=(h.Z3 s o f).2;have K:ZS n (λa=>tok a s) V9=q:=by
  rw[RK (φ:=V9) (λt b=>by cases t<;>simp_all [XU,V9]) r.SS u (by rw[b];rfl),b];rfl
 have M:ZS n (λa=>tok a s) WI=0:=by
  rw[RK (φ:=WI) (λt b=>by cases t<;>simp_all [XU,WI]) r.SS u (by rw[b];rfl),b];rfl
 have N:=r.FZ
 have x:=h.par i s q 0 d b;subst x;have y:=Fv (tok:=tok) (s:=s) (λj A k m g B g' C D=>h.OE s j A k m g B g' C D) n;have lt:∀k∈Q5 tok s n,k<q:=λk l=>by
  obtain⟨j,m,g,_,c⟩:=(Mj tok s n k).1 l;have:=h.Pu s j k m g q 0 d c b;omega
 have full:=AI _ q y lt (by rw[Fw];omega);obtain⟨E,F⟩:=h.Q9 s o f;obtain⟨H,I⟩:=h.Sg s o f;refine⟨(List.perm_ext_iff_of_nodup E KR).2 λk=>?_,λJ=>(List.perm_ext_iff_of_nodup H KR).2 λk=>?_,p⟩
 .rw[F,Wb];constructor
  .rintro⟨j,m,g,c,_⟩;have:=h.Pu s j k m g q 0 d c b;omega
  .intro l;obtain⟨j,m,g,_,c⟩:=(Mj tok s n k).1 (full k l);exact⟨j,m,g,c,by rw[p j k m g c];simp⟩
 .rw[I,Wb];constructor
  .rintro⟨j,m,g,c,_⟩;have:=h.Pu s j k m g q 0 d c b;omega
  .intro l;obtain⟨j,m,g,_,c⟩:=(Mj tok s n k).1 (full k l);refine⟨j,m,g,c,?_⟩;rcases h.Si j s k m g o f c (by rw[p j k m g c];simp) with rfl|⟨_,e⟩
   .trivial
   .exact absurd e J
end
section
variable {H H':Y5->Ψ} {Z5 Ps:Nat->Nat->Option (Array Value×TypeId)} {tok Qo:Nat->Nat->Tok} {O O':Nat->Option δ} {Zr:Nat->Nat} {deaf:Nat->Nat} {N Q8:Nat} {t:Trace} {ZA w w':World} {i:Nat} {y:MemOp} {b s:Nat} {o:δ}
theorem ofEvents_one {fn:FuncId} {pos:String} {e:Event}:MemOp.ofEvents i fn pos #[e]=#[{g:=i,fn,pos,act:=.ofEvent e}]:=by rw[ofEvents_eq];simp
theorem VR.word (h:VR H Z5 tok O Zr deaf N t) (u:y.g=i) (n:y.act=.mark (.acquire ⟨b,0,none⟩)\/y.act=.mark (.releaseMerge ⟨b,0,none⟩)) (w:b<N) (A:T1 O O') (hv:∀j b v,Ps j b=some v->Z5 j b=some v)
  (B:∀k,YH (t++#[y]) (Vj Qo O' (t++#[y]) k) (H' k)):VR H' Ps Qo O' Zr deaf N (t++#[y]):=by
 have nt:y.act.touch?=none:=by rcases n with e|e<;>rw[e]<;>rfl
 have p:∀k a,touchAt (t++#[y]) k=some a->touchAt t k=some a/\k<t.size:=λk a l=>by
  obtain⟨x,C,o⟩:=touch_of l;rcases getElem?_append_cases C with⟨D,E⟩|⟨_,r⟩
  .exact⟨by rw[touchAt_of E];exact o,D⟩
  .simp at r;subst r;rw[nt] at o;cases o
 refine⟨λF=>noRace_append (g:=i) (h.race F) (λm d=>by simp at d;subst d;exact u) (λk a _ m d c f _=>by simp at d;subst d;rw[nt] at f;cases f),λm d=>?_,λm d a=>?_,B,λj c v f k a l=>h.Sm j c v (hv j c v f) k a (p k a l).1,λs o' c I f k a l J=>?_,λj=>?_⟩
 .rcases St.1 d with d|d
  .exact h.low m d
  .simp at d;subst d;rcases n with e|e<;>rw[e]<;>exact w
 .rcases St.1 d with d|d
  .exact h.norel m d a
  .simp at d;subst d;rcases n with e|e<;>rw[e]<;>simp
 .obtain⟨K,L,M⟩:=A.1 s o' I;obtain⟨P,Q⟩:=p k a l;rcases h.cont s K c L (by rw[M];exact f) k a P J with x|⟨x,R⟩
  .exact .inl x
  .exact .inr ⟨x,by rw[g?_old Q];exact R⟩
 .rw[Deaf_push,<-h.hears j];rcases n with e|e<;>simp[deafStep,e]
theorem VR.NF (h:VR H Z5 tok O Zr deaf N t) (k:Y5) (nt:y.act.touch?=none) (d:T1 O O') (e:∀i s,Qo i s≠.nil->tok i s≠.nil):YH (t++#[y]) (Vj Qo O' (t++#[y]) k) (H k):=
 (h.perms k).others (λ_ f=>KC d.1 e (Ih _ f)) λg b a c=>by simp at b;subst b;rw[nt] at c;cases c
theorem Knows.marked {p:Nat} {c:MemOp} (e:t[p]?=some c) (k:c.act=.mark (.releaseMerge ⟨b,0,none⟩)) (l:t.heard p) (m:∀c∈t,∀a,c.act≠.mark (.release a)) (f:y.g=i) (n:y.act=.mark (.acquire ⟨b,0,none⟩)) (hd:Deaf t i=0):Knows (t++#[y]) i p:=by
 have h:(t++#[y])[t.size]?=some y:=J
 have o:(t++#[y]).heard t.size:=⟨i,by simp[Trace.g?,f],by rw[deaf_old (Z1 _)];exact hd⟩
 have d:=lt_size_of_getElem? e;refine⟨t.size,y,h,f,.inr (.single (.inr ⟨.marked (a:=⟨b,0,none⟩) d (.inr ?_) ?_ ?_,(heard_old d).2 l,o⟩))⟩
 .rw[act?_old d,act?_of e,k]
 .rw[act?_of h,n]
 .intro w x r j;rw[act?_old r] at j;obtain⟨s,u,v⟩:=Tp.1 j;exact m s (mem_of_getElem? u) _ v
theorem YH.Tf {b:Nat->Prop} {G:Ψ} (h:YH t b G) (nt:y.act.touch?=none) (e:∀k,b k->Knows (t++#[y]) i k):YH (t++#[y]) (Knows (t++#[y]) i) G:=
 h.others e λf c a d=>by simp at c;subst c;rw[nt] at d;cases d
theorem Sub.empty (G:Ψ):Sub Ψ.empty G:=⟨λ_ _ _ _ h=>(by cases h),λ_ _ h=>(by cases h),λ_ _ h=>(by cases h)⟩
theorem Sub.both {A B e:Ψ} (h:Sub A e) (k:Sub B e):Sub (join A B) e:=by
 refine⟨λb o v p c=>?_,λb x d=>?_,λb x hv=>?_⟩
 .simp only[join] at c;cases a:A.κ b o with
  | none=>rw[a] at c;exact k.κ b o v p c
  | some z=>rw[a] at c;cases c;exact h.κ b o v p a
 .simp only[join] at d;cases a:A.row b with
  | none=>rw[a] at d;exact k.row b x d
  | some z=>rw[a] at d;cases d;exact h.row b _ a
 .simp only[join] at hv;cases a:A.obj b with
  | none=>rw[a] at hv;exact k.obj b x hv
  | some z=>rw[a] at hv;cases hv;exact h.obj b _ a
theorem Sub.AH {G H:Ψ} (d:Fits G w) (e:Fits H w) (f:Apart G H):Sub H (join G H):=by
 refine⟨λb o v p c=>?_,λb x g=>?_,λb x hv=>?_⟩
 .simp only[join];cases a:G.κ b o with
  | none=>exact⟨p,c,id⟩
  | some z=>
   obtain⟨j,h⟩:=z;have k:=d.κ b o j h a;have Φ:=e.κ b o v p c;rw[k] at Φ;cases Φ;refine⟨h,rfl,λl=>?_⟩;subst l;exact absurd ⟨_,a⟩ (f.Rf b o ⟨_,c⟩)
 .simp only[join];cases a:G.row b with
  | none=>exact g
  | some z=>
   obtain⟨t1,m⟩:=z;obtain⟨t2,n⟩:=x;obtain⟨u,r,s⟩:=d.row b t1 m a;obtain⟨y,i,t⟩:=e.row b t2 n g;rw[r] at i;cases i;rw[<-s,<-t]
 .simp only[join];cases a:G.obj b with
  | none=>exact hv
  | some z=>exact absurd ⟨x,hv⟩ (f.obj b ⟨z,a⟩)
theorem Ia (G:Ψ):join G Ψ.empty=G:=by
 obtain⟨a,b,c⟩:=G;simp only[join,Ψ.empty];congr
 .funext x y;cases a x y<;>rfl
 .funext x;cases b x<;>rfl
 .funext x;cases c x<;>rfl
theorem WS.ND (h:WS H Z5 O ZA w) (hv:∀j b v,Ps j b=some v->Z5 j b=some v):WS H Ps O ZA w:=⟨h.fit,λj b c t a=>h.T2 j b c t (hv j b _ a),h.Xp,h.keep⟩
theorem V7.ND (h:V7 H Z5 O Q8) (hv:∀j b v,Ps j b=some v->Z5 j b=some v):V7 H Ps O Q8:=by
 have g:∀j b,Z5 j b=none->Ps j b=none:=λj b e=>by
  cases i:Ps j b with
  | none=>rfl
  | some v=>rw[hv j b v i] at e;cases e
 exact⟨h.apart,h.high,h.SR,λj b v a=>let ⟨c,d,f⟩:=h.fresh j b v (hv j b v a);⟨c,d,λk l=>g k b (f k l)⟩,λs o b m a=>let ⟨c,d,f⟩:=h.US s o b m a;⟨c,d,λk=>g k b (f k)⟩,h.UH,h.RJ,h.Ya⟩
theorem UR {o':δ} (a:O s=some o) {r:Nat} {q:δ} (h:upd O s (some o') r=some q):(r=s/\q=o')\/(r≠s/\O r=some q):=by
 by_cases e:r=s
 .subst e;rw[upd_same] at h;cases h;exact .inl ⟨rfl,rfl⟩
 .rw[upd_ne _ _ e] at h;exact .inr ⟨e,h⟩
theorem Kx {a b:Tok} (c:tok i s=a) (d:∀q p,a≠.par q p .ZQ) (f:∀q p,b≠.par q p .ZQ) (j r q p:Nat):Zq tok i s b j r=.par q p .ZQ↔tok j r=.par q p .ZQ:=by
 by_cases e:j=i/\r=s
 .obtain⟨rfl,rfl⟩:=e;rw[XG,c];exact⟨λx=>absurd x (f q p),λx=>absurd x (d q p)⟩
 .rw[XN _ e]
theorem Mi {a b:Tok} (c:tok i s=a) (d:a≠.nil) (j r:Nat) (h:Zq tok i s b j r≠.nil):tok j r≠.nil:=by
 by_cases e:j=i/\r=s
 .obtain⟨rfl,rfl⟩:=e;rw[c];exact d
 .rw[XN _ e] at h;exact h
theorem Mh {a b:Tok} (c:tok i s=a) (d:∀k m g,a=.ch k m g->∃k m g,b=.ch k m g) (j r k:Nat) (m:Uw) (g:Px) (h:tok j r=.ch k m g):∃k m g,Zq tok i s b j r=.ch k m g:=by
 by_cases e:j=i/\r=s
 .obtain⟨rfl,rfl⟩:=e;rw[XG];exact d k m g (c▸h)
 .rw[XN _ e];exact⟨k,m,g,h⟩
end
section
variable {P:Program} {Q:Value->Prop} {ZA:World} {c c':YO} {gs:Array Goroutine} {w w':World} {t:Trace} {i:Nat} {g g':Goroutine} {es:Array Event}
variable {f:Bool×Goroutine×ZZ->Xe (Bool×Goroutine×ZZ)}
theorem Inv.Kw (h:Inv P Q ZA c gs w t) (R:gs[i]?=some g) (S:FN P (i==0) (Uq P Q f) g (c.x i)):Wk P Q ZA c gs w t i f:=by
 obtain⟨s,sp,m,k,g',aa,U,ab,ad,ax,ae,af,ag⟩:=S;have ah:i<gs.size:=T0 R;obtain⟨o,d,ai⟩:=h.Y'.Q' i s sp aa;subst ai;have l:c.tok i s=.ch k .own .work:=ab;have hd:c.deaf i=0:=ad;have aj:c.rel i=false:=ae;have ak:=af w (h.mem.fit (.inl i));have al:=h.Y'.Fx d l J;have am:=h.Ya.RH s o m d U al (λj V L g u=>by
  have:=h.Y'.only d (i:=i) (by rw[l];rfl) j V L g u;subst this;rw[l] at u;cases u)
 have an:=ag o.L (c.H (.inr m)) am (h.hold.apart _ _ J) ⟨(h.Y'.Sg s o d).1,λS=>(by
  obtain⟨j,E,ao,C,Φ⟩:=((h.Y'.Sg s o d).2 k).1 S;have:=h.Y'.OE s j i k E ao _ _ C l;subst this;rw[l] at C;cases C;exact Φ),w,h.mem.fit _,h.mem.fit _⟩
 let K:ZZ:={c.x i with G:=join (c.H (.inl i)) (c.H (.inr m)),tok:=upd (c.tok i) s (.ch k (.YI o.L) .work),view:=upd (c.view i) s none}
 let c':YO:={c with H:=Zy (Zy c.H (.inl i) (join (c.H (.inl i)) (c.H (.inr m)))) (.inr m) Ψ.empty,tok:=Zq c.tok i s (.ch k (.YI o.L) .work),view:=upd c.view i (upd (c.view i) s none),O:=upd c.O s (some o),T:=upd c.T i (f (i==0,g',K))}
 have W:=T1.upd (o':=o) d rfl
 have ZQ:=Kx (b:=.ch k (.YI o.L) .work) l J J
 have ap:=Mi (b:=.ch k (.YI o.L) .work) l J
 have F:Yb s o.toSpec m:=.inr U;refine Wk.go (c':=c') R ak ?_ _ rfl;rw[ofEvents_one];have aq:c'.x i=K:=by
  have:(Sum.inl i:Y5)≠.inr m:=J;simp[c',K,YO.x,upd_same,Oy,Zx _ _ this]
 refine h.laid (c':=c') R (h.mem.two (Mm (h.mem.fit _) (h.mem.fit _)) (OD w) λr q B=>?_) ?_ ?_ (h.Y'.Im d l) ⟨λr q E B X M Y=>?_,λr q B M=>?_⟩
  (h.Yg.app ah (λZ A=>by simp at A;subst A;rfl) (λN=>by rw[aj] at N;cases N) (λs q p ⟨j,x⟩=>⟨j,(ZQ j s q p).1 x⟩) (λj s q p x=>(ZQ j s q p).1 x))
  (h.WR.app h.Zv.low (λZ A b ar=>by simp at A;subst A;cases ar) (λj b v hv=>.inl ⟨v,hv⟩) (λr q B=>?_) (λj r V au g e=>Mh l (λ_ _ _ _=>⟨_,_,_,rfl⟩) j r V au g e))
  ⟨g',?_,.inl rfl⟩ (λj u=>⟨?_,upd_ne _ _ u⟩) (.inr λj r q _ a b=>?_)
 .rcases UR d B with⟨rfl,rfl⟩|⟨_,n⟩
  .exact h.mem.Xp _ _ d
  .exact h.mem.Xp _ _ n
 .exact h.hold.two J (Sub.refl _) (Sub.empty _) (Apart.Pt _) W λx N=>by
   rcases N with e|e
   .cases e;exact⟨s,o,d,F⟩
   .cases e
 .refine h.Zv.word (i:=i) rfl (.inl rfl) (h.low d F) W (λ_ _ _ x=>x) λa=>?_;by_cases Φ:a=.inr m
  .subst Φ;show YH _ _ (Zy _ _ _ _);rw[Yu];exact YH.empty
  .show YH _ _ (Zy _ _ _ _);rw[Zx _ _ Φ];by_cases C:a=.inl i
   .subst C;rw[Yu];exact((h.Zv.perms (.inl i)).own (λZ A=>by simp at A;subst A;rfl)).join ((h.Zv.perms (.inr m)).acquire h.Zv.norel d F (by rw[l];simp) rfl rfl (by rw[h.Zv.hears];exact hd))
   .rw[Zx _ _ C];exact h.Zv.NF a rfl W ap
 .rcases UR d B with⟨rfl,rfl⟩|⟨e,n⟩
  .exact absurd (XG ..) (Y i k q.L .work)
  .have I:(.inr E:Y5)≠.inr m:=λx=>by cases x;exact e (h.hold.UH r s q o m n d (.inr X) F)
   show q.XV q.L (Zy (Zy c.H _ _) (.inr m) _ (.inr E));rw[Zx _ _ I,VQ];exact h.Ya.RH r q E n X (λj q p x=>M j q p ((ZQ j r q p).2 x)) λj k L g x=>Y j k L g (by show Zq c.tok i s _ j r=_;rw[XN _ (λy=>e y.2)];exact x)
 .rcases UR d B with⟨rfl,rfl⟩|⟨e,n⟩
  .have I:(.inr r:Y5)≠.inr m:=λx=>by cases x;exact h.hold.RJ _ q m d U rfl
   show Ur q.D q.YJ (Zy (Zy c.H _ _) (.inr m) _ (.inr r));rw[Zx _ _ I,VQ];exact h.Ya.Sf r q d (λj q p x=>M j q p ((ZQ j r q p).2 x))
  .have I:(.inr r:Y5)≠.inr m:=λx=>by cases x;exact e (h.hold.UH m s q o m n d (.inl rfl) F)
   show Ur q.D q.YJ (Zy (Zy c.H _ _) (.inr m) _ (.inr r));rw[Zx _ _ I,VQ];exact h.Ya.Sf r q n (λj q p x=>M j q p ((ZQ j r q p).2 x))
 .rcases UR d B with⟨rfl,rfl⟩|⟨_,n⟩
  .exact⟨_,d,rfl⟩
  .exact⟨q,n,rfl⟩
 .rw[aq];show Vk P Q (upd c.T i (f (i==0,g',K)) i) _ _ _;rw[upd_same];exact an
 .have av:(Sum.inl j:Y5)≠.inr m:=by simp
  have aw:(Sum.inl j:Y5)≠.inl i:=λe=>u (by cases e;rfl);simp[c',YO.x,upd_ne _ _ u,Qn _ u,Zx _ _ av,Zx _ _ aw]
 .exact⟨q,by show upd c.O s (some o) r=some q;rw[KA d];exact a,b⟩
theorem Inv.H9 (h:Inv P Q ZA c gs w t) (aa:gs[i]?=some g) (an:FM P (i==0) (Uq P Q f) g (c.x i)):Wk P Q ZA c gs w t i f:=by
 obtain⟨s,sp,m,k,L,g',G',E,ao,ab,ad,ae,aF,ap,aq,F,ar,au⟩:=an;have av:i<gs.size:=T0 aa;obtain⟨o,d,aw⟩:=h.Y'.Q' i s sp ao;subst aw;have M:c.tok i s=.ch k (.YI L) .work:=ad;have hd:c.deaf i=0:=ae;have ag:c.rel i=false:=ap;have ax:=aq w (h.mem.fit (.inl i));have ay:o.L=L:=h.Y'.YI i s k L .work o d M;let o':δ:={o with L:=o.L++[k]};let S:ZZ:={c.x i with G:=G',tok:=upd (c.tok i) s (.ch k .fin .work),view:=upd (c.view i) s none};let c':YO:={c with H:=Zy (Zy c.H (.inl i) G') (.inr m) E,tok:=Zq c.tok i s (.ch k .fin .work),view:=upd c.view i (upd (c.view i) s none),O:=upd c.O s (some o'),T:=upd c.T i (f (i==0,g',S))};have U:T1 c.O (upd c.O s (some o')):=T1.upd d rfl;have ZQ:=Kx (b:=.ch k .fin .work) M J J;have ah:=Mi (b:=.ch k .fin .work) M J;have K:Yb s o.toSpec m:=.inr ab;refine Wk.go (c':=c') aa ax ?_ _ rfl;rw[ofEvents_one];have az:c'.x i=S:=by
  have:(Sum.inl i:Y5)≠.inr m:=J;simp[c',S,YO.x,upd_same,Oy,Zx _ _ this]
 refine h.laid (c':=c') aa (h.mem.two (F.l.fits (h.mem.fit (.inl i))) (F.r.fits (h.mem.fit (.inl i))) λr q B=>?_) ?_ ?_ (h.Y'.AV d M) ⟨λr q A B I V aA=>?_,λr q B V=>?_⟩
  (h.Yg.app av (λC n=>by simp at n;subst n;rfl) (λW=>by rw[ag] at W;cases W) (λs q p ⟨j,x⟩=>⟨j,(ZQ j s q p).1 x⟩) (λj s q p x=>(ZQ j s q p).1 x))
  ⟨λr q A B I p C aB N=>?_,λj b v hv C n N=>?_⟩
  ⟨g',?_,.inl rfl⟩ (λj X=>⟨?_,upd_ne _ _ X⟩) (.inr λj r q _ a b=>?_)
 .rcases UR d B with⟨rfl,rfl⟩|⟨_,u⟩
  .exact(h.mem.Xp r o d:At r o w)
  .exact h.mem.Xp _ _ u
 .exact h.hold.two J F.l.Q7 F.r.Q7 F.apart U λx W=>by
   rcases W with e|e
   .cases e;exact⟨s,o,d,K⟩
   .cases e
 .refine h.Zv.word (i:=i) rfl (.inr rfl) (h.low d K) U (λ_ _ _ x=>x) λa=>?_;by_cases Φ:a=.inr m
  .subst Φ;show YH _ _ (Zy _ _ _ _);rw[Yu];exact((YH.release (h.Zv.perms (.inl i)) rfl rfl (by rw[h.Zv.hears];exact hd)).sub F.r).mono λ_ x=>KC U.1 ah x
  .show YH _ _ (Zy _ _ _ _);rw[Zx _ _ Φ];by_cases Y:a=.inl i
   .subst Y;rw[Yu];exact((h.Zv.perms (.inl i)).own (λC n=>by simp at n;subst n;rfl)).sub F.l
   .rw[Zx _ _ Y];exact h.Zv.NF a rfl U ah
 .rcases UR d B with⟨rfl,rfl⟩|⟨e,u⟩
  .have e:A=m:=by have:o.ZO=some A:=I;rw[ab] at this;cases this;rfl
   subst e;show o.XV (o.L++[k]) (Zy (Zy c.H _ _) (.inr A) _ (.inr A));rw[Yu,ay];exact ar
  .have R:(.inr A:Y5)≠.inr m:=λx=>by cases x;exact e (h.hold.UH r s q o m u d (.inr I) K)
   show q.XV q.L (Zy (Zy c.H _ _) (.inr m) _ (.inr A));rw[Zx _ _ R,VQ];exact h.Ya.RH r q A u I (λj q p x=>V j q p ((ZQ j r q p).2 x)) λj k L g x=>aA j k L g (by show Zq c.tok i s _ j r=_;rw[XN _ (λy=>e y.2)];exact x)
 .rcases UR d B with⟨rfl,rfl⟩|⟨e,u⟩
  .have R:(.inr r:Y5)≠.inr m:=λx=>by cases x;exact h.hold.RJ _ o m d ab rfl
   show Ur o.D o.YJ (Zy (Zy c.H _ _) (.inr m) _ (.inr r));rw[Zx _ _ R,VQ];exact h.Ya.Sf r o d (λj q p x=>V j q p ((ZQ j r q p).2 x))
  .have R:(.inr r:Y5)≠.inr m:=λx=>by cases x;exact e (h.hold.UH m s q o m u d (.inl rfl) K)
   show Ur q.D q.YJ (Zy (Zy c.H _ _) (.inr m) _ (.inr r));rw[Zx _ _ R,VQ];exact h.Ya.Sf r q u (λj q p x=>V j q p ((ZQ j r q p).2 x))
 .rcases getElem?_append_cases aB with⟨_,aC⟩|⟨_,ai⟩
  .have aj:∀Z,c.O r=some Z->Z.ZO=some A->(∃ak al g,Zq c.tok i s (.ch k .fin .work) C.g r=.ch ak al g)/\(c.rel C.g=true->Before (t++#[{g:=i,fn:=g.frame.fn,pos:=g.frame.place,act:=MemAct.ofEvent (Go.ConcR.mk (Mark.releaseMerge {block:=m,off:=0}))}]) p (c.XO C.g)):=λZ Y Φ=>by
    obtain⟨⟨ak,al,g,ad⟩,ae⟩:=h.WR.OB r Z A Y Φ p C aC N;exact⟨Mh M (λ_ _ _ _=>⟨_,_,_,rfl⟩) _ _ _ _ _ ad,λaf=>(ae af).app _⟩
   rcases UR d B with⟨rfl,rfl⟩|⟨_,u⟩
   .exact aj o d I
   .exact aj q u I
  .simp at ai;subst ai;cases N;have:r=s:=by
    rcases UR d B with⟨rfl,rfl⟩|⟨_,u⟩
    .rfl
    .exact h.hold.UH r s q o m u d (.inr I) K
   subst this;exact⟨⟨k,.fin,.work,XG ..⟩,λaf=>by
    have:c.rel i=true:=af;rw[ag] at this;cases this⟩
 .rcases St.1 n with n|n
  .exact h.WR.OA j b v hv C n N
  .simp at n;subst n;cases N;have:=(h.hold.US s o m d K).2.2 j;have am:c.Z5 j m=some v:=hv;rw[this] at am;cases am
 .rw[az];show Vk P Q (upd c.T i (f (i==0,g',S)) i) _ _ _;rw[upd_same];exact au
 .have aD:(Sum.inl j:Y5)≠.inr m:=by simp
  have aE:(Sum.inl j:Y5)≠.inl i:=λe=>X (by cases e;rfl);simp[c',YO.x,upd_ne _ _ X,Qn _ X,Zx _ _ aD,Zx _ _ aE]
 .by_cases e:r=s
  .subst e;rw[d] at a;cases a;exact⟨o',upd_same ..,b⟩
  .exact⟨q,by show upd c.O s (some o') r=some q;rw[upd_ne _ _ e];exact a,b⟩
end
section
variable {P:Program} {Q:Value->Prop} {ZA:World} {c c':YO} {gs:Array Goroutine} {w w':World} {t:Trace} {i:Nat} {g g':Goroutine} {es:Array Event}
variable {f:Bool×Goroutine×ZZ->Xe (Bool×Goroutine×ZZ)}
theorem Inv.parent (h:Inv P Q ZA c gs w t) {s:Nat} {o:δ} (g:c.O s=some o):c.Zr s<gs.size/\∃q p b,c.tok (c.Zr s) s=.par q p b:=by
 obtain⟨e,i,f⟩:=KI (φ:=XU) (N:=gs.size) (τ:=λa=>c.tok a s) (by rw[(h.Y'.Z3 s o g).2.SS];exact Nat.one_pos);have j:∃q p b,c.tok e s=.par q p b:=by
  cases d:c.tok e s with
  | par q p b=>exact⟨q,p,b,rfl⟩
  | nil=>simp[d,XU] at f
  | ch=>simp[d,XU] at f
 obtain⟨q,p,b,d⟩:=j;have k:=h.Y'.par e _ q p b d;subst k;exact⟨i,q,p,b,d⟩
theorem Inv.H8 (h:Inv P Q ZA c gs w t) (av:gs[i]?=some g) (aP:FL P (i==0) (Uq P Q f) g (c.x i)):Wk P Q ZA c gs w t i f:=by
 obtain⟨s,sp,k,K,g',E,aQ,aw,aD,aR,ax,bk,aS,aT,aj,aU,aV⟩:=aP;have aW:i<gs.size:=T0 av;obtain⟨o,d,aX⟩:=h.Y'.Q' i s sp aQ;subst aX;have V:c.tok i s=.ch k K .work:=aw;have hd:c.deaf i=0:=ax;have bl:c.rel i=false:=aS;have aE:∀aF,aF≠s->Xj (c.tok i aF):=aR;have aY:=aT w (h.mem.fit (.inl i));obtain⟨bm,ak,bn⟩:=h.Y'.Sk i s k K .work V;have aG:=h.Y'.Fx d V J;let y:MemOp:={g:=i,fn:=g.frame.fn,pos:=g.frame.place,act:=MemAct.ofEvent (Go.ConcR.mk (Mark.releaseMerge ⟨s,0,none⟩))};have aZ:y.act=.mark (.releaseMerge ⟨s,0,none⟩):=rfl;have al:(t++#[y])[t.size]?=some y:=J;have a0:(t++#[y]).heard t.size:=⟨i,by simp[Trace.g?,y],by rw[deaf_old (Z1 _)];exact(h.Zv.hears i).trans hd⟩;let o':δ:={o with YJ:=k::o.YJ};let am:ZZ:={c.x i with G:=Ψ.empty,Z5:=λ_=>none,tok:=upd (c.tok i) s (.ch k K .rel),view:=upd (c.view i) s none,rel:=true};let c':YO:={c with H:=Zy (Zy c.H (.inl i) Ψ.empty) (.inr s) (join E (c.H (.inr s))),Z5:=upd c.Z5 i λ_=>none,tok:=Zq c.tok i s (.ch k K .rel),view:=upd c.view i (upd (c.view i) s none),O:=upd c.O s (some o'),rel:=upd c.rel i true,XO:=upd c.XO i t.size,T:=upd c.T i (f (i==0,g',am))};have aa:T1 c.O (upd c.O s (some o')):=T1.upd d rfl;have ZQ:=Kx (b:=.ch k K .rel) V J J;have ay:=Mi (b:=.ch k K .rel) V J;have ab:Yb s o.toSpec s:=.inl rfl;have an:∀j b v,upd c.Z5 i (λ_=>none) j b=some v->c.Z5 j b=some v:=λj b v hv=>by
  by_cases e:j=i
  .subst e;rw[upd_same] at hv;cases hv
  .rw[upd_ne _ _ e] at hv;exact hv
 have aH:=h.hold.apart (.inl i) (.inr s) J
 have a1:Sub (join E (c.H (.inr s))) (join (c.H (.inl i)) (c.H (.inr s))):=Sub.both (Sub.Q7 aj) (Sub.AH (h.mem.fit _) (h.mem.fit _) aH)
 have aI:∀j r C L g,c.tok j r=.ch C (.YI L) g->Zq c.tok i s (.ch k K .rel) j r=.ch C (.YI L) g:=λj r C L g n=>by
  rw[XN _ (λe=>?_)]
  .exact n
  .obtain⟨rfl,rfl⟩:=e;rw[V] at n;rcases aD with rfl|⟨rfl,_⟩<;>cases n
 have bo:∀j,j≠i->∀r,Zq c.tok i s (.ch k K .rel) j r=c.tok j r:=λj n r=>XN _ λe=>n e.1;refine Wk.go (c':=c') av aY ?_ _ rfl;rw[ofEvents_one];have a2:c'.x i=am:=by
  have:(Sum.inl i:Y5)≠.inr s:=J;simp[c',am,YO.x,upd_same,Oy,Zx _ _ this]
 have a3:OC gs.size c'.tok c'.rel c'.Zr c'.home c'.XO (t++#[y]):=by
  refine⟨λC g' ad=>?_,λj M n=>?_,λj M n X=>?_,λj M n aJ aK=>?_⟩
  .obtain⟨l,m,Z⟩:=Tp.1 ad;rcases getElem?_append_cases m with⟨_,ao⟩|⟨_,Y⟩
   .exact h.Yg.Q6 C g' (by simp[Trace.g?,ao,Z])
   .simp at Y;subst Y;rw[<-Z];exact aW
  .by_cases e:j=i
   .subst e;have A:c'.XO j=t.size:=upd_same ..;rw[A];refine⟨y,al,rfl,by rw[aZ];show _=MemAct.mark (.releaseMerge ⟨c.home j,0,none⟩);rw[ak],a0,λC ad ap=>?_⟩;obtain⟨l,m,Z⟩:=Tp.1 ad;rcases getElem?_append_cases m with⟨ae,ao⟩|⟨az,Y⟩
    .exact .inr (hb_po ae m al Z)
    .exact absurd ap (NG (u:=#[y]) (λl m=>by simp at m;subst m;rfl) C az)
   .have W:c.rel j=true:=by have:upd c.rel i true j=true:=n;rwa [upd_ne _ _ e] at this
    have A:c'.XO j=c.XO j:=upd_ne _ _ e;rw[A];obtain⟨l,af,aA,a4,a5,a6⟩:=h.Yg.c1 j M W;have ag:=lt_size_of_getElem? af;refine⟨l,by rw[getElem?_append_old ag];exact af,aA,a4,(heard_old ag).2 a5,λC ad ap=>?_⟩;obtain⟨bp,m,Z⟩:=Tp.1 ad;rcases getElem?_append_cases m with⟨ae,ao⟩|⟨az,Y⟩
    .exact(a6 C (by simp[Trace.g?,ao,Z]) ((Ml ae).1 ap)).app _
    .exact absurd ap (NG (u:=#[y]) (λl m=>by simp at m;subst m;rfl) C az)
  .obtain⟨q,p,F⟩:=X;have B:c.tok (c.Zr (c.home j)) (c.home j)=.par q p .ZQ:=(ZQ _ _ q p).1 F;by_cases e:j=i
   .subst e;rw[ak] at B;exact absurd B (aG _ q p)
   .have W:c.rel j=true:=by have:upd c.rel i true j=true:=n;rwa [upd_ne _ _ e] at this
    have A:c'.XO j=c.XO j:=upd_ne _ _ e;rw[A];exact(h.Yg.c2 j M W ⟨q,p,B⟩).app _
  .by_cases e:j=i
   .subst e;exfalso;have a7:c.Zr s≠0:=by rw[<-ak];exact aJ
    have N:c.Zr s≠j:=U
    have a8:c.rel (c.Zr s)=true:=by
     have:upd c.rel j true (c.Zr (c.home j))=true:=aK;rw[ak,upd_ne _ _ N] at this;exact this
    obtain⟨_,q,p,aq,R⟩:=h.parent d;have ah:Xj (c.tok (c.Zr s) s):=by
     by_cases Φ:s=c.home (c.Zr s)
     .obtain⟨a9,a',ba,ar⟩:=h.Y'.Qp (c.Zr s) a7 U;rw[<-Φ,R] at ar;cases ar
     .exact h.Y'.Sj _ s a8 Φ
    rw[R] at ah;cases aq<;>first|exact ah.elim|exact aG _ _ _ R
   .have W:c.rel j=true:=by have:upd c.rel i true j=true:=n;rwa [upd_ne _ _ e] at this
    have A:c'.XO j=c.XO j:=upd_ne _ _ e;rw[A];by_cases Φ:c.Zr (c.home j)=i
    .have aB:c'.XO (c.Zr (c.home j))=t.size:=by rw[Φ];exact upd_same ..
     show Before _ _ (c'.XO (c.Zr (c.home j)));rw[aB];obtain⟨l,af,_⟩:=h.Yg.c1 j M W;have bb:j<gs.size:=by
      obtain⟨l,af,aA,_⟩:=h.Yg.c1 j M W;exact h.Yg.Q6 (c.XO j) j (by simp[Trace.g?,af,aA])
     obtain⟨a9,a',ba,ar⟩:=h.Y'.Qp j M bb;obtain⟨bq,bc⟩:=h.obj (i:=j) (s:=c.home j) (by rw[ar];simp);obtain⟨_,q,p,aq,R⟩:=h.parent bc;rw[Φ] at R;have N:c.home j≠s:=λbd=>by rw[bd,V] at R;cases R
     have ah:=aE _ N;rw[R] at ah;have be:aq=.ZQ:=by cases aq<;>first|exact ah.elim|rfl
     subst be;have aL:=h.Yg.c2 j M W ⟨q,p,by rw[Φ];exact R⟩;rw[Φ] at aL;exact .inr (aL.hb_new (u:=#[y]) (Z1 _) al rfl)
    .have aB:c'.XO (c.Zr (c.home j))=c.XO (c.Zr (c.home j)):=upd_ne _ _ Φ
     show Before _ _ (c'.XO (c.Zr (c.home j)));rw[aB];refine(h.Yg.c3 j M W aJ ?_).app _;have:upd c.rel i true (c.Zr (c.home j))=true:=aK
     rwa [upd_ne _ _ Φ] at this
 refine h.laid (c':=c') av ((h.mem.two (OD w) (Mm (aj.fits (h.mem.fit (.inl i))) (h.mem.fit _)) λr q F=>?_).ND an) ((h.hold.two J (Sub.empty _) a1 (Apart.Pt _).symm aa λx bf=>?_).ND an) ?_ (h.Y'.AU d V aD aE) ⟨λr q I F S X aM=>?_,λr q F X=>?_⟩
  a3 ⟨λr q I F S p l ag ai=>?_,λj b v hv l m ai=>?_⟩
  ⟨g',?_,.inl rfl⟩ (λj n=>⟨?_,upd_ne _ _ n⟩) (.inr λj r q _ a b=>?_)
 .rcases UR d F with⟨rfl,rfl⟩|⟨_,B⟩
  .exact(h.mem.Xp r o d:At r o w)
  .exact h.mem.Xp _ _ B
 .rcases bf with e|e
  .cases e;exact⟨s,o,d,ab⟩
  .cases e
 .refine h.Zv.word (i:=i) rfl (.inr rfl) (h.low d ab) aa an λa=>?_;by_cases Φ:a=.inr s
  .subst Φ;show YH _ _ (Zy _ _ _ _);rw[Yu];exact(((YH.release (h.Zv.perms (.inl i)) rfl rfl (by rw[h.Zv.hears];exact hd)).sub aj).mono λ_ x=>KC aa.1 ay x).join (h.Zv.NF (.inr s) rfl aa ay)
  .show YH _ _ (Zy _ _ _ _);rw[Zx _ _ Φ];by_cases A:a=.inl i
   .subst A;rw[Yu];exact YH.empty
   .rw[Zx _ _ A];exact h.Zv.NF a rfl aa ay
 .rcases UR d F with⟨rfl,rfl⟩|⟨e,B⟩
  .have N:(.inr I:Y5)≠.inr r:=λx=>by cases x;exact h.hold.RJ _ o _ d S rfl
   show o.XV o.L (Zy (Zy c.H _ _) (.inr r) _ (.inr I));rw[Zx _ _ N,VQ];exact h.Ya.RH r o I d S (λj q p x=>X j q p ((ZQ j r q p).2 x)) λj k L g x=>aM j k L g (aI _ _ _ _ _ x)
  .have N:(.inr I:Y5)≠.inr s:=λx=>e (h.hold.UH r s q o I B d (.inr S) (by cases x;exact ab))
   show q.XV q.L (Zy (Zy c.H _ _) (.inr s) _ (.inr I));rw[Zx _ _ N,VQ];exact h.Ya.RH r q I B S (λj q p x=>X j q p ((ZQ j r q p).2 x)) λj k L g x=>aM j k L g (aI _ _ _ _ _ x)
 .rcases UR d F with⟨rfl,rfl⟩|⟨e,B⟩
  .show Ur o.D (k::o.YJ) (Zy (Zy c.H _ _) (.inr r) _ (.inr r));rw[Yu];exact⟨E,c.H (.inr r),aU,h.Ya.Sf r o d (λj q p x=>X j q p ((ZQ j r q p).2 x)),aH.sub aj (Sub.refl _),rfl⟩
  .have N:(.inr r:Y5)≠.inr s:=λx=>by cases x;exact e rfl
   show Ur q.D q.YJ (Zy (Zy c.H _ _) (.inr s) _ (.inr r));rw[Zx _ _ N,VQ];exact h.Ya.Sf r q B (λj q p x=>X j q p ((ZQ j r q p).2 x))
 .rcases getElem?_append_cases ag with⟨ae,bg⟩|⟨_,Y⟩
  .have aN:∀au,c.O r=some au->au.ZO=some I->(∃C aO g,Zq c.tok i s (.ch k K .rel) l.g r=.ch C aO g)/\(c'.rel l.g=true->Before (t++#[y]) p (c'.XO l.g)):=λau A Φ=>by
    obtain⟨⟨C,aO,g,aw⟩,ax⟩:=h.WR.OB r au I A Φ p l bg ai;refine⟨Mh V (λ_ _ _ _=>⟨_,_,_,rfl⟩) _ _ _ _ _ aw,λbh=>?_⟩;by_cases e:l.g=i
    .have A:c'.XO l.g=t.size:=by rw[e];exact upd_same ..
     rw[A];exact .inr (hb_po ae ag al e)
    .have A:c'.XO l.g=c.XO l.g:=upd_ne _ _ e
     have Φ:c.rel l.g=true:=by have:upd c.rel i true l.g=true:=bh;rwa [upd_ne _ _ e] at this
     rw[A];exact(ax Φ).app _
   rcases UR d F with⟨rfl,rfl⟩|⟨_,B⟩
   .exact aN o d S
   .exact aN q B S
  .simp at Y;subst Y;cases ai;exfalso;rcases UR d F with⟨rfl,rfl⟩|⟨e,B⟩
   .exact h.hold.RJ _ o _ d S rfl
   .exact e (h.hold.UH r s q o s B d (.inr S) ab)
 .have aC:=an j b v hv;rcases St.1 m with m|m
  .exact h.WR.OA j b v aC l m ai
  .simp at m;subst m;cases ai;have:=(h.hold.US s o s d ab).2.2 j;rw[this] at aC;cases aC
 .rw[a2];show Vk P Q (upd c.T i (f (i==0,g',am)) i) _ _ _;rw[upd_same];exact aV
 .have bi:(Sum.inl j:Y5)≠.inr s:=by simp
  have bj:(Sum.inl j:Y5)≠.inl i:=λe=>n (by cases e;rfl);simp[c',YO.x,upd_ne _ _ n,Qn _ n,Zx _ _ bi,Zx _ _ bj]
 .by_cases e:r=s
  .subst e;rw[d] at a;cases a;exact⟨o',upd_same ..,b⟩
  .exact⟨q,by show upd c.O s (some o') r=some q;rw[upd_ne _ _ e];exact a,b⟩
theorem Inv.Kv (h:Inv P Q ZA c gs w t) (am:gs[i]?=some g) (Z:FK P (i==0) (Uq P Q f) g (c.x i)):Wk P Q ZA c gs w t i f:=by
 obtain⟨s,sp,n,av,g',aR,aS,an,aT,bG,aU,aV,aW⟩:=Z;have aX:i<gs.size:=T0 am;obtain⟨o,l,aY⟩:=h.Y'.Q' i s sp aR;subst aY;have U:c.tok i s=.par n 0 av:=aS;have hd:c.deaf i=0:=aT;have bH:c.rel i=false:=aU;have aa:=aV w (h.mem.fit (.inl i));have aZ:=h.Y'.par i s n 0 av U;obtain⟨a0,a1,aw⟩:=h.Y'.full l U an;have ao:Yb s o.toSpec s:=.inl rfl;have ax:∀j q p,c.tok j s≠.par q p .ZQ:=λj q p d=>by
  have e:=h.Y'.par j s q p .ZQ d;rw[<-aZ] at e;subst e;rw[U] at d;rcases an with rfl|rfl<;>cases d
 let y:MemOp:={g:=i,fn:=g.frame.fn,pos:=g.frame.place,act:=MemAct.ofEvent (Go.ConcR.mk (Mark.acquire ⟨s,0,none⟩))}
 have a2:y.act=.mark (.acquire ⟨s,0,none⟩):=rfl
 have ay:Deaf t i=0:=by rw[h.Zv.hears];exact hd
 have ae:T1 c.O (upd c.O s (some o)):=T1.upd l rfl
 have az:=Mi (b:=.par n 0 .ZQ) U J
 have aA:∀j,(∃k m g,c.tok j s=.ch k m g)->j≠0/\c.home j=s/\c.rel j=true/\Knows (t++#[y]) i (c.XO j):=λj ⟨k,m,g,d⟩=>by
  obtain⟨K,N,_⟩:=h.Y'.Sk j s k m g d;have ab:c.rel j=true:=(h.Y'.RI j k m g K (by rw[N];exact d)).2 (by rw[aw j k m g d];simp);obtain⟨M,a3,aB,aC,a4,_⟩:=h.Yg.c1 j K ab;rw[N] at aC;exact⟨K,N,ab,Knows.marked a3 aC a4 h.Zv.norel rfl a2 ay⟩
 have a5:=h.Ya.Sf s o l ax;obtain⟨I,R,a6,a7,a8,a9,a',ba,bb,bI,aD,bc,bd,be⟩:∃(I:Y5->Ψ) (R:Ψ),Fits R w/\(o.ZO≠none->o.XV o.L R)/\(o.ZO=none->R=Ψ.empty)/\Apart (c.H (.inl i)) R/\Apart (c.H (.inr s)) R/\
   I (.inl i)=join (join (c.H (.inl i)) (c.H (.inr s))) R/\(∀j,j≠i->I (.inl j)=c.H (.inl j))/\(∀m,o.ZO=some m->I (.inr m)=Ψ.empty)/\(∀b,b≠s->o.ZO≠some b->I (.inr b)=c.H (.inr b))/\
   V7 I c.Z5 (upd c.O s (some o)) ZA.heap.size/\WS I c.Z5 (upd c.O s (some o)) ZA w/\∀a,YH (t++#[y]) (Vj (Zq c.tok i s (.par n 0 .ZQ)) (upd c.O s (some o)) (t++#[y]) a) (I a):=by
  have aE:∀r q,upd c.O s (some o) r=some q->At r q w:=λr q C=>by
   rcases UR l C with⟨rfl,rfl⟩|⟨_,S⟩
   .exact h.mem.Xp _ _ l
   .exact h.mem.Xp _ _ S
  have aF:YH (t++#[y]) (Knows (t++#[y]) i) (join (c.H (.inl i)) (c.H (.inr s))):=
   ((h.Zv.perms (.inl i)).own (λM E=>by simp at E;subst E;rfl)).join ((h.Zv.perms (.inr s)).acquire h.Zv.norel l ao (by rw[U];simp) rfl rfl ay)
  have aG:V7 (Zy (Zy c.H (.inl i) (join (c.H (.inl i)) (c.H (.inr s)))) (.inr s) Ψ.empty) c.Z5 (upd c.O s (some o)) ZA.heap.size:=
   h.hold.two J (Sub.refl _) (Sub.empty _) (Apart.Pt _) ae λx ap=>by
    rcases ap with e|e
    .cases e;exact⟨s,o,l,ao⟩
    .cases e
  have aH:WS (Zy (Zy c.H (.inl i) (join (c.H (.inl i)) (c.H (.inr s)))) (.inr s) Ψ.empty) c.Z5 (upd c.O s (some o)) ZA w:=h.mem.two (Mm (h.mem.fit _) (h.mem.fit _)) (OD w) aE
  have aI:(Sum.inl i:Y5)≠.inr s:=J;cases af:o.ZO with
  | none=>
   refine⟨Zy (Zy c.H (.inl i) (join (c.H (.inl i)) (c.H (.inr s)))) (.inr s) Ψ.empty,Ψ.empty,OD w,λx=>absurd rfl x,λ_=>rfl,Apart.Pt _,Apart.Pt _,?_,λj d=>?_,λm ag=>(by cases ag),λb hb _=>?_,aG,aH,λa=>?_⟩
   .rw[Zx _ _ aI,Yu,Ia]
   .have V:(Sum.inl j:Y5)≠.inl i:=λe=>d (by cases e;rfl);rw[Zx _ _ J,Zx _ _ V]
   .have V:(Sum.inr b:Y5)≠.inr s:=λe=>hb (by cases e;rfl);rw[Zx _ _ V,VQ]
   .by_cases Φ:a=.inr s
    .subst Φ;rw[Yu];exact YH.empty
    .rw[Zx _ _ Φ];by_cases F:a=.inl i
     .subst F;rw[Yu];exact aF
     .rw[Zx _ _ F];exact h.Zv.NF a rfl ae az
  | some m=>
   have ag:Yb s o.toSpec m:=.inr af
   have bf:m≠s:=h.hold.RJ s o m l af
   have aJ:(Sum.inr m:Y5)≠.inr s:=λe=>bf (by cases e;rfl)
   have aK:(Sum.inl i:Y5)≠.inr m:=J
   have bg:∀j k L g,c.tok j s≠.ch k (.YI L) g:=λj k L g d=>by
    rcases h.Y'.Si j s k _ g o l d (by rw[aw j k _ g d];simp) with e|⟨e,_⟩<;>cases e
   have bh:=h.Ya.RH s o m l af ax bg
   have bi:Apart (c.H (.inr s)) (c.H (.inr m)):=h.hold.apart _ _ (YQ aJ)
   have bj:Apart (c.H (.inl i)) (c.H (.inr m)):=h.hold.apart _ _ aK
   have bk:Zy (Zy c.H (.inl i) (join (c.H (.inl i)) (c.H (.inr s)))) (.inr s) Ψ.empty (.inl i)=join (c.H (.inl i)) (c.H (.inr s)):=by rw[Zx _ _ aI,Yu]
   have bl:Zy (Zy c.H (.inl i) (join (c.H (.inl i)) (c.H (.inr s)))) (.inr s) Ψ.empty (.inr m)=c.H (.inr m):=by rw[Zx _ _ aJ,VQ]
   have bm:=aG.two (a:=.inl i) (b:=.inr m) (A:=join (join (c.H (.inl i)) (c.H (.inr s))) (c.H (.inr m))) (B:=Ψ.empty) (O':=upd c.O s (some o)) J (by rw[bk,bl];exact Sub.refl _) (Sub.empty _) (Apart.Pt _) ⟨λs o' aa=>⟨o',aa,rfl⟩,λs o' aa=>⟨o',aa,rfl⟩⟩ λx ap=>by
    rcases ap with e|e
    .cases e;exact⟨s,o,upd_same ..,ag⟩
    .cases e
   have bn:=aH.two (a:=.inl i) (b:=.inr m) (A:=join (join (c.H (.inl i)) (c.H (.inr s))) (c.H (.inr m))) (B:=Ψ.empty) (O':=upd c.O s (some o)) (Mm (Mm (h.mem.fit _) (h.mem.fit _)) (h.mem.fit _)) (OD w) aE;refine⟨_,c.H (.inr m),h.mem.fit _,λ_=>bh,λx=>(by cases x),bj,bi,?_,λj d=>?_,λad ah=>?_,λb hb bo=>?_,bm,bn,λa=>?_⟩
   .rw[Zx _ _ aK,Yu]
   .have V:(Sum.inl j:Y5)≠.inl i:=λe=>d (by cases e;rfl);rw[Zx _ _ J,Zx _ _ V,Zx _ _ J,Zx _ _ V]
   .cases ah;rw[Yu]
   .have V:(Sum.inr b:Y5)≠.inr s:=λe=>hb (by cases e;rfl)
    have bp:(Sum.inr b:Y5)≠.inr m:=λe=>bo (by cases e;rfl);rw[Zx _ _ bp,VQ,Zx _ _ V,VQ]
   .by_cases aL:a=.inr m
    .subst aL;rw[Yu];exact YH.empty
    .rw[Zx _ _ aL];by_cases F:a=.inl i
     .subst F;rw[Yu];refine aF.join ((h.Zv.perms (.inr m)).Tf rfl λk Z=>?_);rcases Z with⟨p,M,K,N,ab,ai⟩|Z
      .obtain⟨bq,aB⟩:=h.WR.OB s o m l af p M K N;obtain⟨_,_,br,bs⟩:=aA M.g bq;have hb:=(aB br).app #[y];refine Knows.of_before ?_ bs;rcases hb with e|hb
       .rw[<-e];exact ai.app _
       .exact .inr ((ai.app #[y]).hb hb)
      .exact(Z s o l ag i (by rw[U];simp)).app _
     .rw[Zx _ _ F];by_cases Φ:a=.inr s
      .subst Φ;rw[Yu];exact YH.empty
      .rw[Zx _ _ Φ,Zx _ _ F];exact h.Zv.NF a rfl ae az
 have bt:Apart (c.H (.inl i)) (c.H (.inr s)):=h.hold.apart _ _ J
 have bu:=aW o.YJ o.L (c.H (.inr s)) R a0 a5 (λx=>⟨a1 x,a7 x⟩) a8 bt a9 a' ⟨w,h.mem.fit _,h.mem.fit _,a6⟩
 let aj:ZZ:={c.x i with G:=join (join (c.H (.inl i)) (c.H (.inr s))) R,tok:=upd (c.tok i) s (.par n 0 .ZQ),view:=upd (c.view i) s none}
 let c':YO:={c with H:=I,tok:=Zq c.tok i s (.par n 0 .ZQ),view:=upd c.view i (upd (c.view i) s none),O:=upd c.O s (some o),T:=upd c.T i (f (i==0,g',aj))}
 have bv:c'.x i=aj:=by simp[c',aj,YO.x,upd_same,Oy,ba]
 have ak:∀j r,¬(j=i/\r=s)->Zq c.tok i s (.par n 0 .ZQ) j r=c.tok j r:=λj r e=>XN _ e
 have aM:∀r q b,c.O r=some q->r≠s->Yb r q.toSpec b->b≠s/\o.ZO≠some b:=λr q b C aN hb=>⟨λe=>aN (h.hold.UH r s q o b C l hb (.inl e)),λe=>aN (h.hold.UH r s q o b C l hb (.inr e))⟩;refine Wk.go (c':=c') am aa ?_ _ rfl;rw[ofEvents_one];refine h.laid (c':=c') am bd bc (h.Zv.word (i:=i) rfl (.inl rfl) (h.low l ao) ae (λ_ _ _ x=>x) be) (h.Y'.gtake l U an) ⟨λr q ad C ah W bw=>?_,λr q C W=>?_⟩ ?_
  (h.WR.app h.Zv.low (λM E b hb=>by simp at E;subst E;cases hb) (λj b v hv=>.inl ⟨v,hv⟩) (λr q C=>?_) (λj r Y bx g e=>Mh U (λk m g e=>?_) j r Y bx g e))
  ⟨g',?_,.inl rfl⟩ (λj d=>⟨?_,upd_ne _ _ d⟩) (.inr λj r q _ a b=>?_)
 .rcases UR l C with⟨rfl,rfl⟩|⟨e,S⟩
  .exact absurd (XG ..) (W i n 0)
  .obtain⟨F,Φ⟩:=aM r q ad S e (.inr ah);show q.XV q.L (I (.inr ad));rw[aD ad F Φ];exact h.Ya.RH r q ad S ah (λj q p x=>W j q p (by show Zq c.tok i s _ j r=_;rw[ak j r (λy=>e y.2)];exact x)) λj k L g x=>bw j k L g (by show Zq c.tok i s _ j r=_;rw[ak j r (λy=>e y.2)];exact x)
 .rcases UR l C with⟨rfl,rfl⟩|⟨e,S⟩
  .exact absurd (XG ..) (W i n 0)
  .obtain⟨F,Φ⟩:=aM r q r S e (.inl rfl);show Ur q.D q.YJ (I (.inr r));rw[aD r F Φ];exact h.Ya.Sf r q S (λj q p x=>W j q p (by show Zq c.tok i s _ j r=_;rw[ak j r (λy=>e y.2)];exact x))
 .refine⟨λY g' aq=>?_,λj X d=>?_,λj X d W=>?_,λj X d a b=>(h.Yg.c3 j X d a b).app _⟩
  .obtain⟨M,E,al⟩:=Tp.1 aq;rcases getElem?_append_cases E with⟨_,ar⟩|⟨_,au⟩
   .exact h.Yg.Q6 Y g' (by simp[Trace.g?,ar,al])
   .simp at au;subst au;rw[<-al];exact aX
  .obtain⟨M,K,N,ab,ai,bz⟩:=h.Yg.c1 j X d;have aO:=lt_size_of_getElem? K;refine⟨M,by rw[getElem?_append_old aO];exact K,N,ab,(heard_old aO).2 ai,λY aq aP=>?_⟩;obtain⟨bJ,E,al⟩:=Tp.1 aq;rcases getElem?_append_cases E with⟨bA,ar⟩|⟨bB,au⟩
   .exact(bz Y (by simp[Trace.g?,ar,al]) ((Ml bA).1 aP)).app _
   .exact absurd aP (NG (u:=#[y]) (λM E=>by simp at E;subst E;rfl) Y bB)
  .obtain⟨q,p,C⟩:=W;by_cases e:c.Zr (c.home j)=i/\c.home j=s
   .obtain⟨F,Φ⟩:=e;show Knows _ (c.Zr (c.home j)) (c.XO j);rw[F];have bC:j<gs.size:=by
     obtain⟨M,K,N,_⟩:=h.Yg.c1 j X d;exact h.Yg.Q6 (c.XO j) j (by simp[Trace.g?,K,N])
    obtain⟨bD,bE,bF,aQ⟩:=h.Y'.Qp j X bC;rw[Φ] at aQ;exact(aA j ⟨bD,bE,bF,aQ⟩).2.2.2
   .refine(h.Yg.c2 j X d ⟨q,p,?_⟩).app _;have:Zq c.tok i s (.par n 0 .ZQ) (c.Zr (c.home j)) (c.home j)=.par q p .ZQ:=C
    rwa [ak _ _ e] at this
 .rcases UR l C with⟨rfl,rfl⟩|⟨_,S⟩
  .exact⟨_,l,rfl⟩
  .exact⟨q,S,rfl⟩
 .cases e
 .rw[bv];show Vk P Q (upd c.T i (f (i==0,g',aj)) i) _ _ _;rw[upd_same];exact bu
 .simp[c',YO.x,upd_ne _ _ d,Qn _ d,bb j d]
 .exact⟨q,by show upd c.O s (some o) r=some q;rw[KA l];exact a,b⟩
end
section
variable {n:Nat} {tok:Nat->Nat->Tok} {spec:Nat->Nat->Option Spec} {view:Nat->Nat->Option (Nat×δ)} {rel:Nat->Bool} {O:Nat->Option δ} {Zr home:Nat->Nat} {s i:Nat} {o:δ}
theorem X0.fork (h:X0 n tok spec view rel O Zr home) (H:O s=some o) {q p:Nat} (u:tok i s=.par q (p+1) .add) :
  X0 (n+1) (upd (Zq tok i s (.par q p .add)) n (upd (λ_=>.nil) s (.ch (q-(p+1)) .idle .work))) (upd spec n (upd (λ_=>none) s (some o.toSpec))) (upd (upd view i (upd (view i) s none)) n λ_=>none) (upd rel n false) O Zr (upd home n s):=by
 have af:i<n:=h.lt (s:=s) (by rw[u];simp)
 have S:n≠i:=U
 have K:=h.par i s q (p+1) .add u
 have T:=(h.Z3 s o H).2
 have ap:p+1<=q:=by
  have E:ZS n (λa=>tok a s) V9=q:=by
   rw[RK (φ:=V9) (λt u=>by cases t<;>simp_all [XU,V9]) T.SS af (by rw[u];rfl),u];rfl
  have Φ:ZS n (λa=>tok a s) WI=p+1:=by
   rw[RK (φ:=WI) (λt u=>by cases t<;>simp_all [XU,WI]) T.SS af (by rw[u];rfl),u];rfl
  have:=T.FZ;omega
 generalize Q:upd (Zq tok i s (.par q p .add)) n (upd (λ_=>.nil) s (.ch (q-(p+1)) .idle .work))=y;have M:y n s=.ch (q-(p+1)) .idle .work:=by rw[<-Q,upd_same,upd_same]
 have V:∀r,r≠s->y n r=.nil:=λr l=>by rw[<-Q,upd_same,upd_ne _ _ l]
 have W:y i s=.par q p .add:=by rw[<-Q,upd_ne _ _ (YQ S),XG]
 have to:∀j r,j≠n->¬(j=i/\r=s)->y j r=tok j r:=λj r C F=>by rw[<-Q,upd_ne _ _ C,XN _ F]
 have ag:∀j r,r≠s->y j r=tok j r:=λj r l=>by
  by_cases e:j=n
  .subst e;rw[V r l,h.out _ r (Z1 _)]
  .exact to j r e λx=>l x.2
 have ah:(λj=>y j s)=upd (upd (λj=>tok j s) i (.par q p .add)) n (.ch (q-(p+1)) .idle .work):=by
  funext j
  by_cases e:j=n
  .subst e;rw[M,upd_same]
  .rw[upd_ne _ _ e];by_cases d:j=i
   .subst d;rw[W,upd_same]
   .rw[upd_ne _ _ d,to j s e λx=>d x.1]
 have ai:∀r,r≠s->(λj=>y j r)=λj=>tok j r:=λr l=>funext λj=>ag j r l
 have I:∀r,(λj=>tok j r) n=.nil:=λr=>h.out n r (Z1 _)
 have D:∀j r k m g,y j r=.ch k m g->(j=n/\r=s/\k=q-(p+1)/\m=.idle/\g=.work)\/(j≠n/\¬(j=i/\r=s)/\tok j r=.ch k m g):=λj r k m g c=>by
  by_cases e:j=n
  .subst e;by_cases d:r=s
   .subst d;rw[M] at c;cases c;exact .inl ⟨rfl,rfl,rfl,rfl,rfl⟩
   .rw[V r d] at c;cases c
  .by_cases d:j=i/\r=s
   .obtain⟨rfl,rfl⟩:=d;rw[W] at c;cases c
   .rw[to j r e d] at c;exact .inr ⟨e,d,c⟩
 have X:∀j r m v A,y j r=.par m v A->(j=i/\r=s/\m=q/\v=p/\A=.add)\/(j≠n/\r≠s/\tok j r=.par m v A)\/(j≠n/\j≠i/\r=s/\tok j r=.par m v A):=λj r m v A c=>by
  by_cases e:j=n
  .subst e;by_cases d:r=s
   .subst d;rw[M] at c;cases c
   .rw[V r d] at c;cases c
  .by_cases d:j=i/\r=s
   .obtain⟨rfl,rfl⟩:=d;rw[W] at c;cases c;exact .inl ⟨rfl,rfl,rfl,rfl,rfl⟩
   .rw[to j r e d] at c;by_cases Φ:r=s
    .exact .inr (.inr ⟨e,λx=>d ⟨x,Φ⟩,Φ,c⟩)
    .exact .inr (.inl ⟨e,Φ,c⟩)
 have Y:∀j r k m g,tok j r=.ch k m g->j≠n/\y j r=.ch k m g:=λj r k m g c=>by
  have R:j≠n:=λe=>by rw[e,h.out n r (Z1 _)] at c;cases c
  refine⟨R,?_⟩;rw[to j r R λe=>?_]
  .exact c
  .obtain⟨rfl,rfl⟩:=e;rw[u] at c;cases c
 have aq:X7 (n+1) o (λj=>y j s)<X7 n o (λj=>tok j s):=by
  rw[ah,<-FR (N:=n) (τ:=λj=>tok j s) (I s)];exact A2 (N:=n+1) U U (YQ S) u (I s) _
 refine⟨λr w l=>?_,λr l j=>?_,λj r c=>?_,λj r sp c=>?_,λj r φ P c=>?_,λj r k L g w Z c=>?_,λj r m v A c=>?_,λj r k m g c=>?_,λj aa c=>?_,λj k m g aa c=>?_,?_,λj r c l=>?_,λj r k m g w Z c aj=>?_,λr j ab k m g ad g' C F=>?_,λr j k m g w v A C F=>?_,λr w l=>?_,λr w l=>?_⟩
 .by_cases e:r=s
  .subst e;rw[H] at l;cases l;rw[ah];exact A3 (FT (h.Z3 r o H) (I r)) U U (YQ S) u (I r) _
  .rw[ai r e];exact FT (h.Z3 r w l) (I r)
 .have e:r≠s:=λe=>by rw[e,H] at l;cases l
  rw[ag j r e];exact h.bare r l j
 .rw[to j r U (λx=>U)];exact h.out j r U
 .by_cases e:j=n
  .subst e;rw[upd_same] at c;by_cases d:r=s
   .subst d;rw[upd_same] at c;cases c;exact⟨o,H,rfl⟩
   .rw[upd_ne _ _ d] at c;cases c
  .rw[upd_ne _ _ e] at c;exact h.Q' j r sp c
 .have ak:∀j r φ P,view j r=some (φ,P)->∃J,O r=some J/\X7 (n+1) J (λa=>y a r)<=φ/\(X7 (n+1) J (λa=>y a r)=φ->J=P):=λj r φ P hv=>by
   obtain⟨J,C,F,f⟩:=h.OF j r φ P hv;refine⟨J,C,?_⟩;by_cases e:r=s
   .subst e;rw[H] at C;cases C;exact⟨U,λx=>U⟩
   .rw[ai r e,FR (N:=n) (τ:=λj=>tok j r) (I r)];exact⟨F,f⟩
  by_cases e:j=n
  .subst e;rw[upd_same] at c;cases c
  .rw[upd_ne _ _ e] at c;by_cases d:j=i
   .subst d;rw[upd_same] at c;by_cases Φ:r=s
    .subst Φ;rw[upd_same] at c;cases c
    .rw[upd_ne _ _ Φ] at c;exact ak _ _ _ _ c
   .rw[upd_ne _ _ d] at c;exact ak _ _ _ _ c
 .rcases D j r k _ g c with⟨_,_,_,B,_⟩|⟨_,_,f⟩
  .cases B
  .exact h.YI j r k L g w Z f
 .rcases X j r m v A c with⟨rfl,rfl,_⟩|⟨_,_,f⟩|⟨_,_,_,f⟩
  .exact K
  .exact h.par j r m v A f
  .exact h.par j r m v A f
 .rcases D j r k m g c with⟨rfl,rfl,_⟩|⟨R,_,f⟩
  .exact⟨U,upd_same ..,U⟩
  .obtain⟨am,an,ae⟩:=h.Sk j r k m g f;exact⟨am,by rw[upd_ne _ _ R];exact an,ae⟩
 .by_cases e:j=n
  .subst e;rw[upd_same];exact⟨_,_,_,M⟩
  .rw[upd_ne _ _ e];obtain⟨k,m,g,C⟩:=h.Qp j aa U;exact⟨k,m,g,(Y j _ k m g C).2⟩
 .by_cases e:j=n
  .subst e;rw[upd_same] at c;rw[M] at c;cases c;rw[upd_same];simp
  .rw[upd_ne _ _ e] at c;rw[upd_ne _ _ e];rcases D j _ k m g c with⟨x,_⟩|⟨_,_,f⟩
   .exact absurd x e
   .exact h.RI j k m g aa f
 .rw[upd_ne _ _ (show(0:Nat)≠n by omega)];exact h.Pv
 .by_cases e:j=n
  .subst e;rw[upd_same] at c;cases c
  .rw[upd_ne _ _ e] at c l;have:=h.Sj j r c l;rw[to j r e λx=>?_]
   .exact this
   .obtain⟨rfl,rfl⟩:=x;rw[u] at this;exact this
 .rcases D j r k m g c with⟨_,_,_,_,B⟩|⟨_,_,f⟩
  .exact absurd B aj
  .exact h.Si j r k m g w Z f aj
 .have al:∀j k m g,tok j s=.ch k m g->k<q-(p+1):=λj k m g c=>by
   have:=h.Pu s j k m g q (p+1) .add c (by rw[<-K];exact u);omega
  rcases D j r k m g C with⟨rfl,rfl,ae,_⟩|⟨_,_,f⟩<;>rcases D ab r k ad g' F with⟨rfl,ao,ar,_⟩|⟨_,_,B⟩
  .rfl
  .have:=al ab k ad g' B;omega
  .subst ao;have:=al j k m g f;omega
  .exact h.OE r j ab k m g ad g' f B
 .rcases D j r k m g C with⟨_,rfl,ae,_⟩|⟨_,_,f⟩
  .rcases X _ r w v A F with⟨_,_,rfl,rfl,_⟩|⟨_,x,_⟩|⟨_,x,_⟩
   .omega
   .exact absurd rfl x
   .exact absurd K.symm x
  .rcases X _ r w v A F with⟨_,rfl,rfl,rfl,_⟩|⟨_,_,B⟩|⟨_,x,rfl,B⟩
   .have:=h.Pu r j k m g w (v+1) .add f (by rw[<-K];exact u);omega
   .exact h.Pu r j k m g w v A f B
   .exact absurd K.symm x
 .obtain⟨a,b⟩:=h.Sg r w l;refine⟨a,λk=>(b k).trans ⟨λ⟨j,m,g,E,Φ⟩=>⟨j,m,g,(Y j r k m g E).2,Φ⟩,λ⟨j,m,g,E,Φ⟩=>?_⟩⟩;rcases D j r k m g E with⟨_,_,_,B,_⟩|⟨_,_,f⟩
  .subst B;exact Φ.elim
  .exact⟨j,m,g,f,Φ⟩
 .obtain⟨a,b⟩:=h.Q9 r w l;refine⟨a,λk=>(b k).trans ⟨λ⟨j,m,g,E,Φ⟩=>⟨j,m,g,(Y j r k m g E).2,Φ⟩,λ⟨j,m,g,E,Φ⟩=>?_⟩⟩;rcases D j r k m g E with⟨_,_,_,_,B⟩|⟨_,_,f⟩
  .exact absurd B Φ
  .exact⟨j,m,g,f,Φ⟩
def δ.new (sp:Spec):δ:={toSpec:=sp,Y7:=0,wk:=0,sv:=0,nw:=0,YD:=0,L:=[],cnt:=0,wt:=0,YU:=0,YJ:=[]}
theorem AG (N:Nat) (φ:Tok->Nat) (a:φ .nil=0):ZS N (λ_=>.nil) φ=0:=by
 induction N with
 | zero=>rfl
 | succ N b=>rw[OH,b,a]
theorem X0.AF (h:X0 n tok spec view rel O Zr home) (E:O s=none) (M:i<n) (f:rel i=false) (sp:Spec) :
  X0 n (Zq tok i s (.par 0 0 .add)) (upd spec i (upd (spec i) s (some sp))) (upd view i (upd (view i) s none)) rel (upd O s (some (δ.new sp))) (upd Zr s i) home:=by
 have y:=h.bare s E
 have V:∀j,j≠0->j<n->home j≠s:=λj A c e=>by
  obtain⟨k,m,g,l⟩:=h.Qp j A c;rw[e,y j] at l;cases l
 have P:(λj=>Zq tok i s (.par 0 0 .add) j s)=upd (λ_=>.nil) i (.par 0 0 .add):=by
  rw[FG];have:(λj=>tok j s)=λ_=>.nil:=funext y;rw[this]
 have H:∀j r,r≠s->Zq tok i s (.par 0 0 .add) j r=tok j r:=λj r f=>XN _ λx=>f x.2
 have t:∀j r k m g,Zq tok i s (.par 0 0 .add) j r=.ch k m g↔tok j r=.ch k m g:=λj r k m g=>by
  by_cases e:j=i/\r=s
  .obtain⟨rfl,rfl⟩:=e;rw[XG,y];simp
  .rw[XN _ e]
 have v:∀j k m g,tok j s≠.ch k m g:=λj k m g e=>by rw[y] at e;cases e
 have B:∀r q,upd O s (some (δ.new sp)) r=some q->(r=s/\q=δ.new sp)\/(r≠s/\O r=some q):=λr q o=>by
  by_cases e:r=s
  .subst e;rw[upd_same] at o;cases o;exact .inl ⟨rfl,rfl⟩
  .rw[upd_ne _ _ e] at o;exact .inr ⟨e,o⟩
 have one:∀φ:Tok->Nat,φ .nil=0->ZS n (upd (λ_=>.nil) i (.par 0 0 .add)) φ=φ (.par 0 0 .add):=λφ I=>by
  have e:=Xb (N:=n) (λ_=>.nil) (.par 0 0 .add) φ M;rw[AG n φ I] at e;simp only[I] at e;omega
 refine⟨λr q o=>?_,λr f j=>?_,λj r c=>?_,λj r J c=>?_,λj r φ C c=>?_,λj r k L g q o c=>?_,λj r m p F c=>?_,λj r k m g c=>?_,λj A c=>?_,λj k m g A c=>?_,h.Pv,λj r c Q=>?_,λj r k m g q o c R=>?_,λr j S k m g T g' l D=>?_,λr j k m g q p F l D=>?_,λr q f=>?_,λr q f=>?_⟩
 .rcases B r q o with⟨rfl,rfl⟩|⟨e,u⟩
  .rw[P];constructor
   .unfold RN;rw[one Wa rfl,one SV rfl,one T5 rfl,one Uv rfl,one Tk rfl,one Uu rfl,one Rb rfl,one SU rfl,one Rc rfl];constructor<;>simp[δ.new,Wa,SV,T5,Uv,Tk,Uu,Rb,SU,Rc]
   .unfold Sp;rw[one Vz rfl,one U5 rfl,one U4 rfl,one Ut rfl,one XU rfl,one WI rfl,one V9 rfl,one T4 rfl,one Us rfl,one V8 rfl];constructor<;>simp[δ.new,Vz,U5,U4,Ut,XU,WI,V9,T4,Us,V8]
  .rw[Ie _ _ _ _ e];exact h.Z3 r q u
 .have e:r≠s:=λe=>by rw[e,upd_same] at f;cases f
  rw[upd_ne _ _ e] at f;rw[H j r e];exact h.bare r f j
 .rw[XN _ (λx=>U)];exact h.out j r c
 .by_cases e:j=i
  .subst e;rw[upd_same] at c;by_cases d:r=s
   .subst d;rw[upd_same] at c;cases c;exact⟨_,upd_same ..,rfl⟩
   .rw[upd_ne _ _ d] at c;obtain⟨q,a,b⟩:=h.Q' j r J c;exact⟨q,by rw[upd_ne _ _ d];exact a,b⟩
  .rw[upd_ne _ _ e] at c;obtain⟨q,a,b⟩:=h.Q' j r J c;have d:r≠s:=λd=>by rw[d,E] at a;cases a
   exact⟨q,by rw[upd_ne _ _ d];exact a,b⟩
 .have K:∀j r φ C,view j r=some (φ,C)->∃w,upd O s (some (δ.new sp)) r=some w/\X7 n w (λa=>Zq tok i s (.par 0 0 .add) a r)<=φ/\(X7 n w (λa=>Zq tok i s (.par 0 0 .add) a r)=φ->w=C):=λj r φ C hv=>by
   obtain⟨w,a,b⟩:=h.OF j r φ C hv;have d:r≠s:=λd=>by rw[d,E] at a;cases a
   exact⟨w,by rw[upd_ne _ _ d];exact a,by rw[Ie _ _ _ _ d];exact b⟩
  by_cases e:j=i
  .subst e;rw[upd_same] at c;by_cases d:r=s
   .subst d;rw[upd_same] at c;cases c
   .rw[upd_ne _ _ d] at c;exact K _ _ _ _ c
  .rw[upd_ne _ _ e] at c;exact K _ _ _ _ c
 .rw[t] at c;rcases B r q o with⟨rfl,rfl⟩|⟨e,u⟩
  .exact absurd c (v _ _ _ _)
  .exact h.YI j r k L g q u c
 .by_cases e:j=i/\r=s
  .obtain⟨rfl,rfl⟩:=e;rw[upd_same]
  .rw[XN _ e] at c;have d:r≠s:=λd=>by rw[d,y] at c;cases c
   rw[upd_ne _ _ d];exact h.par j r m p F c
 .rw[t] at c;have d:r≠s:=λd=>by rw[d] at c;exact v _ _ _ _ c
  rw[upd_ne _ _ d];exact h.Sk j r k m g c
 .obtain⟨k,m,g,l⟩:=h.Qp j A c;exact⟨k,m,g,(t _ _ _ _ _).2 l⟩
 .rw[t] at c;exact h.RI j k m g A c
 .have e:j≠i:=λe=>by rw[e,f] at c;cases c
  rw[Qn _ e];exact h.Sj j r c Q
 .rw[t] at c;rcases B r q o with⟨rfl,rfl⟩|⟨e,u⟩
  .exact absurd c (v _ _ _ _)
  .exact h.Si j r k m g q u c R
 .rw[t] at l D;exact h.OE r j S k m g T g' l D
 .rw[t] at l;have d:r≠s:=λd=>by rw[d] at l;exact v _ _ _ _ l
  rw[upd_ne _ _ d,H _ _ d] at D;exact h.Pu r j k m g q p F l D
 .simp only[t];rcases B r q f with⟨rfl,rfl⟩|⟨e,u⟩
  .exact⟨List.nodup_nil,λk=>⟨λx=>(by cases x),λ⟨j,m,g,x,_⟩=>absurd x (v _ _ _ _)⟩⟩
  .exact h.Sg r q u
 .simp only[t];rcases B r q f with⟨rfl,rfl⟩|⟨e,u⟩
  .exact⟨List.nodup_nil,λk=>⟨λx=>(by cases x),λ⟨j,m,g,x,_⟩=>absurd x (v _ _ _ _)⟩⟩
  .exact h.Q9 r q u
end
theorem AE (t:Trace) (u:Trace) {k:Nat} (b:∀a∈u,a.g≠k):Deaf (t++u) k=Deaf t k:=by
 obtain⟨l⟩:=u;rw[Deaf_append]
 induction l generalizing t with
 | nil=>rfl
 | cons y l d=>
  have e:y.g≠k:=b y J
  have f:deafStep k (Deaf t k) y=Deaf t k:=by
   unfold deafStep;split<;>simp[e]
  rw[List.foldl_cons,f];exact d t (λa c=>b a (by simp at c ⊢;exact .inr c))
theorem AD {i:Bool} {t:Trace} {y z:MemOp} (h:¬Race i t) (nt:∀d∈(#[y,z]:Trace),d.act.touch?=none):¬Race i (t++#[y,z]):=by
 have e:t++#[y,z]=(t++#[y])++#[z]:=by rw[OU];rfl
 rw[e];refine noRace_append (g:=z.g) (noRace_append (g:=y.g) h (λd c=>by simp at c;rw[c]) λk a _ d c b f _=>?_) (λd c=>by simp at c;rw[c]) λk a _ d c b f _=>?_
 .simp at c;subst c;rw[nt d J] at f;cases f
 .simp at c;subst c;rw[nt d J] at f;cases f
section
variable {P:Program} {Q:Value->Prop} {ZA:World} {c c':YO} {gs:Array Goroutine} {w w':World} {t:Trace} {i:Nat} {g g':Goroutine} {es:Array Event}
variable {f:Bool×Goroutine×ZZ->Xe (Bool×Goroutine×ZZ)}
theorem Inv.H7 (h:Inv P Q ZA c gs w t) (ay:gs[i]?=some g) (C:FJ P (i==0) (Uq P Q f) g (c.x i)):Wk P Q ZA c gs w t i f:=by
 obtain⟨s,sp,n,p,g',R,Y,Z,ao,S,af,bo,bp,aO,aP,V,aQ,aR⟩:=C;have aS:i<gs.size:=T0 ay;obtain⟨o,aT,aU⟩:=h.Y'.Q' i s sp ao;subst aU;have aa:c.tok i s=.par n (p+1) .add:=S;have hd:c.deaf i=0:=af;have bq:c.rel i=false:=aO;have ab:=aP w (h.mem.fit (.inl i));have aV:gs.size≠i:=U;let N:=gs.size;let y:MemOp:={g:=i,fn:=g.frame.fn,pos:=g.frame.place,act:=.go gs.size};let z:MemOp:={g:=gs.size,fn:=R.frame.fn,pos:=g.frame.place,act:=.start};have aW:Deaf t i=0:=by rw[h.Zv.hears];exact hd
 have aF:Deaf t gs.size=0:=by
  have:=AE #[] t (k:=gs.size) (λu d e=>by
   obtain⟨k,C⟩:=K5.1 d;have:=h.Yg.Q6 k u.g (by simp[Trace.g?,C]);omega)
  rw[Array.empty_append] at this;exact this
 let ap:ZZ:={c.x i with G:=Y,tok:=upd (c.tok i) s (.par n p .add),view:=upd (c.view i) s none}
 let aq:ZZ:=⟨Z,λ_=>none,upd (λ_=>.nil) s (.ch (n-(p+1)) .idle .work),upd (λ_=>none) s (some o.toSpec),λ_=>none,0,false⟩
 let E:=upd (Zq c.tok i s (.par n p .add)) gs.size (upd (λ_=>.nil) s (.ch (n-(p+1)) .idle .work))
 let c':YO:={c with H:=Zy (Zy c.H (.inl i) Y) (.inl gs.size) Z,Z5:=upd c.Z5 gs.size (λ_=>none),tok:=E,spec:=upd c.spec gs.size (upd (λ_=>none) s (some o.toSpec)),view:=upd (upd c.view i (upd (c.view i) s none)) gs.size λ_=>none,deaf:=upd c.deaf gs.size 0,rel:=upd c.rel gs.size false,home:=upd c.home gs.size s,T:=upd (upd c.T i (f (i==0,g',ap))) gs.size (f (false,R,aq))}
 have aX:=h.Y'.fork aT aa
 have br:=runT_crowd_spawn (sl:=none) ay ab
 have aY:((MemOp.ofEvents i g.frame.fn g.frame.place #[]).push {g:=i,fn:=g.frame.fn,pos:=g.frame.place,act:=.go gs.size} |>.push {g:=gs.size,fn:=R.frame.fn,pos:=g.frame.place,act:=.start})=#[y,z]:=by rw[FA];rfl
 have aG:(Sum.inl i:Y5)≠.inl gs.size:=λe=>aV (by cases e;rfl)
 have aZ:∀r,E gs.size r≠.nil->r=s:=λr W=>by
  apply Ts;intro e;apply W;show upd (Zq c.tok i s (.par n p .add)) gs.size (upd (λ_=>.nil) s (.ch (n-(p+1)) .idle .work)) gs.size r=.nil;rw[upd_same,upd_ne _ _ e]
 have ar:∀j,j≠gs.size->E j=Zq c.tok i s (.par n p .add) j:=λj A=>upd_ne _ _ A
 have a0:∀j r,j≠gs.size->E j r≠.nil->c.tok j r≠.nil:=λj r A W=>by
  rw[ar j A] at W;exact Mi aa J j r W
 have az:∀j r q ad,E j r=.par q ad .ZQ↔c.tok j r=.par q ad .ZQ:=λj r q ad=>by
  by_cases e:j=gs.size
  .subst e;rw[h.Y'.out gs.size r (Z1 _)];show upd (Zq c.tok i s (.par n p .add)) gs.size (upd (λ_=>.nil) s (.ch (n-(p+1)) .idle .work)) gs.size r=_↔_;rw[upd_same];by_cases aH:r=s
   .subst aH;rw[upd_same];simp
   .rw[upd_ne _ _ aH]
  .rw[ar j e];exact Kx aa J J j r q ad
 have a1:∀j r k L g,c.tok j r=.ch k (.YI L) g->E j r=.ch k (.YI L) g:=λj r k L g A=>by
  have e:j≠gs.size:=λe=>by rw[e,h.Y'.out _ r (Z1 _)] at A;cases A
  rw[ar j e,XN _ λx=>?_]
  .exact A
  .obtain⟨rfl,rfl⟩:=x;rw[aa] at A;cases A
 have ag:∀j,j≠gs.size->c'.rel j=c.rel j:=λj A=>upd_ne _ _ A
 have au:∀j,c'.rel j=true->j≠gs.size:=λj A e=>by
  subst e;have:upd c.rel gs.size false gs.size=true:=A;rw[upd_same] at this;cases this
 have av:∀j b v,upd c.Z5 gs.size (λ_=>none) j b=some v->c.Z5 j b=some v:=λj b v hv=>by
  by_cases e:j=gs.size
  .subst e;rw[upd_same] at hv;cases hv
  .rw[upd_ne _ _ e] at hv;exact hv
 have nt:∀u∈(#[y,z]:Trace),u.act.touch?=none:=λu d=>by simp at d;rcases d with rfl|rfl<;>rfl
 have Te:∀u∈(#[y,z]:Trace),∀m,u.act≠.mark m:=λu d m=>by simp at d;rcases d with rfl|rfl<;>simp[y,z]
 have aI:∀k,Knows t i k->Knows (t++#[y,z]) gs.size k:=λk C=>Knows.spawn C rfl rfl rfl rfl aW aF
 have a2:∀a k,Vj c.tok c.O t a k->Vj E c.O (t++#[y,z]) a k:=λa k C=>by
  cases a with
  | inl j=>exact Knows.app _ C
  | inr b=>
   rcases C with⟨p,u,ao,a3,S,af⟩|C
   .have X:=lt_size_of_getElem? ao;exact .inl ⟨p,u,by rw[getElem?_append_old X];exact ao,a3,(heard_old X).2 S,af.app _⟩
   .refine .inr λah o' aw K j A=>?_;by_cases e:j=gs.size
    .subst e;have:=aZ ah A;subst this;exact aI k (C _ o' aw K i (by rw[aa];simp))
    .exact(C ah o' aw K j (a0 j ah e A)).app _
 have aJ:∀a,YH (t++#[y,z]) (Vj E c.O (t++#[y,z]) a) (c.H a):=λa=>
  (h.Zv.perms a).others (a2 a) λu d x B=>by rw[nt u d] at B;cases B
 have a4:Inv P Q ZA c' ((gs.setIfInBounds i g').push R) w (t++#[y,z]):=by
  have aA:((gs.setIfInBounds i g').push R).size=gs.size+1:=J;refine⟨by rw[aA];omega,(h.mem.two (V.l.fits (h.mem.fit (.inl i))) (V.r.fits (h.mem.fit (.inl i))) h.mem.Xp).ND av,(h.hold.two aG V.l.Q7 V.r.Q7 V.apart ⟨λs o ab=>⟨o,ab,rfl⟩,λs o ab=>⟨o,ab,rfl⟩⟩ λx B=>by rcases B with e|e<;>cases e).ND av,?_,by rw[aA];exact aX,?_,?_,?_,?_⟩
  .refine⟨λa5=>AD (h.Zv.race a5) nt,λu d=>?_,λu d a=>?_,λa=>?_,λj b v hv k a C=>?_,λah o' b aw K k a C a6=>?_,λj=>?_⟩
   .rcases St.1 d with d|d
    .exact h.Zv.low u d
    .simp at d;rcases d with rfl|rfl<;>trivial
   .rcases St.1 d with d|d
    .exact h.Zv.norel u d a
    .exact Te u d _
   .show YH _ _ (Zy (Zy c.H (.inl i) Y) (.inl gs.size) Z a);by_cases Φ:a=.inl gs.size
    .subst Φ;rw[Yu];exact(((h.Zv.perms (.inl i)).others aI λu d x B=>by rw[nt u d] at B;cases B):YH _ (Knows _ gs.size) _).sub V.r
    .rw[Zx _ _ Φ];by_cases F:a=.inl i
     .subst F;rw[Yu];exact(aJ (.inl i)).sub V.l
     .rw[Zx _ _ F];exact aJ a
   .have:=av j b v hv;rcases Tl C with ae|⟨_,u,d,_,B⟩
    .exact h.Zv.Sm j b v this k a ae
    .rw[nt u d] at B;cases B
   .rcases Tl C with ae|⟨_,u,d,_,B⟩
    .rcases h.Zv.cont ah o' b aw K k a ae a6 with x|⟨x,a7⟩
     .exact .inl x
     .obtain⟨u,a8,_⟩:=touch_of ae;exact .inr ⟨x,by rw[g?_old (lt_size_of_getElem? a8)];exact a7⟩
    .rw[nt u d] at B;cases B
   .have F:Deaf (t++#[y,z]) j=Deaf t j:=by
     have e:t++#[y,z]=(t++#[y])++#[z]:=by rw[OU];rfl
     rw[e,Deaf_push,Deaf_push];simp[deafStep,y,z]
    rw[F];by_cases e:j=gs.size
    .subst e;rw[aF];exact(upd_same ..).symm
    .rw[h.Zv.hears];exact(upd_ne _ _ e).symm
  .have aK:∀b,Zy (Zy c.H (.inl i) Y) (.inl gs.size) Z (.inr b)=c.H (.inr b):=λb=>by rw[VQ,VQ]
   refine⟨λr q m M aB ai a9=>?_,λr q M ai=>?_⟩
   .show q.XV q.L (Zy (Zy c.H (.inl i) Y) (.inl gs.size) Z (.inr m));rw[aK];exact h.Ya.RH r q m M aB (λj q p x=>ai j q p ((az j r q p).2 x)) λj k L g x=>a9 j k L g (a1 _ _ _ _ _ x)
   .show Ur q.D q.YJ (Zy (Zy c.H (.inl i) Y) (.inl gs.size) Z (.inr r));rw[aK];exact h.Ya.Sf r q M (λj q p x=>ai j q p ((az j r q p).2 x))
  .rw[aA];refine⟨λk a C=>?_,λj aj A=>?_,λj aj A ai=>?_,λj aj A a b=>?_⟩
   .obtain⟨u,d,ak⟩:=Tp.1 C;rcases getElem?_append_cases d with⟨_,aC⟩|⟨_,al⟩
    .have:=h.Yg.Q6 k a (by simp[Trace.g?,aC,ak]);omega
    .simp at al;rcases al with rfl|rfl
     .rw[<-ak];show i<gs.size+1;omega
     .rw[<-ak];show gs.size<gs.size+1;omega
   .have I:=au j A;rw[ag j I] at A;obtain⟨u,aL,a',ba,bb,bc⟩:=h.Yg.c1 j aj A;have X:=lt_size_of_getElem? aL;refine⟨u,?_,a',?_,(heard_old X).2 bb,λaD ae aM=>?_⟩
    .show(t++#[y,z])[c.XO j]?=some u;rw[getElem?_append_old X];exact aL
    .show u.act=.mark (.releaseMerge ⟨upd c.home gs.size s j,0,none⟩);rw[upd_ne _ _ I];exact ba
    .obtain⟨bs,d,ak⟩:=Tp.1 ae;rcases getElem?_append_cases d with⟨aN,aC⟩|⟨bd,al⟩
     .exact(bc aD (by simp[Trace.g?,aC,ak]) ((Ml aN).1 aM)).app _
     .exact absurd aM (NG nt aD bd)
   .have I:=au j A;rw[ag j I] at A;obtain⟨q,ad,M⟩:=ai;have aE:c'.home j=c.home j:=upd_ne _ _ I;rw[aE] at M ⊢;exact(h.Yg.c2 j aj A ⟨q,ad,(az _ _ _ _).1 M⟩).app _
   .have I:=au j A;rw[ag j I] at A;have aE:c'.home j=c.home j:=upd_ne _ _ I;rw[aE] at a b ⊢;have be:=au _ b;rw[ag _ be] at b;exact(h.Yg.c3 j aj A a b).app _
  .refine⟨λr q bf M bg p u X am=>?_,λj b v hv u d am=>?_⟩
   .rcases getElem?_append_cases X with⟨aN,bh⟩|⟨_,al⟩
    .obtain⟨⟨aD,bt,g,S⟩,af⟩:=h.WR.OB r q bf M bg p u bh am;have I:u.g≠gs.size:=λe=>by rw[e,h.Y'.out _ r (Z1 _)] at S;cases S
     refine⟨?_,λW=>?_⟩
     .rw[show c'.tok u.g=Zq c.tok i s (.par n _ .add) u.g from ar _ I];exact Mh aa (λ_ _ _ e=>by cases e) _ _ _ _ _ S
     .rw[ag _ I] at W;exact(af W).app _
    .exact absurd am (Te u al _)
   .rcases St.1 d with d|d
    .exact h.WR.OA j b v (av j b v hv) u d am
    .exact Te u d _ am
  .intro j b K;by_cases e:j=gs.size
   .subst e;rw[NQ] at K;simp at K;subst K;refine⟨R,?_,.inl rfl⟩;have B:c'.x gs.size=aq:=by simp[c',aq,E,YO.x,upd_same]
    have an:c'.T gs.size=f (false,R,aq):=upd_same ..
    have aB:(gs.size==0)=false:=by rw[beq_eq_false_iff_ne];exact Nat.ne_of_gt h.pos
    rw[B,an,aB];exact aR
   .have ax:(gs.setIfInBounds i g')[j]?=some b:=by
     rw[NQ] at K;simpa[e] using K
    by_cases F:j=i
    .subst F;rw[Tt aS] at ax;cases ax;refine⟨g',?_,.inl rfl⟩;have B:c'.x j=ap:=by simp[c',ap,E,YO.x,upd_same,upd_ne _ _ e,Oy,Zx _ _ aG]
     have an:c'.T j=f (j==0,g',ap):=by show upd (upd c.T j _) gs.size _ j=_;rw[upd_ne _ _ e,upd_same]
     rw[B,an];exact aQ
    .rw[UW (YQ F)] at ax;obtain⟨bi,bj,bk⟩:=h.Oz j b ax;have bl:(Sum.inl j:Y5)≠.inl gs.size:=λx=>e (by cases x;rfl);have bm:(Sum.inl j:Y5)≠.inl i:=λx=>F (by cases x;rfl);have B:c'.x j=c.x j:=by simp[c',E,YO.x,upd_ne _ _ e,upd_ne _ _ F,Qn _ F,Zx _ _ bl,Zx _ _ bm]
     have an:c'.T j=c.T j:=by show upd (upd c.T i _) gs.size _ j=_;rw[upd_ne _ _ e,upd_ne _ _ F]
     have bn:c'.tok j=c.tok j:=congrArg ZZ.tok B;refine⟨bi,by rw[B,an];exact bj,?_⟩;rw[bn];exact bk
 refine λsl=>⟨c',_,w,_,runT_crowd_spawn ay ab,?_,.inr (.inl ⟨J,_,_,rfl⟩)⟩;rw[aY];exact a4
end
theorem AB (sp:Spec):YZ (δ.new sp)=0:=by simp[YZ,δ.new]
theorem AA (sp:Spec):mwd (δ.new sp)=0:=by simp[mwd,δ.new]
section
variable {P:Program} {Q:Value->Prop} {ZA:World} {c c':YO} {gs:Array Goroutine} {w w':World} {t:Trace} {i:Nat} {g g':Goroutine} {es:Array Event}
variable {f:Bool×Goroutine×ZZ->Xe (Bool×Goroutine×ZZ)}
theorem Inv.seen (h:Inv P Q ZA c gs w t) (k:gs[i]?=some g)
  (mem:WS c'.H c'.Z5 c'.O ZA w) (hold:V7 c'.H c'.Z5 c'.O ZA.heap.size) (Zv:VR c'.H c'.Z5 c'.tok c'.O c'.Zr c'.deaf w.heap.size t)
  (Y':X0 gs.size c'.tok c'.spec c'.view c'.rel c'.O c'.Zr c'.home) (Ya:NK c'.H c'.tok c'.O) (Yg:OC gs.size c'.tok c'.rel c'.Zr c'.home c'.XO t) (WR:NJ c'.Z5 c'.tok c'.O c'.rel c'.XO t)
  (l:Rec P Q c' i g) (m:∀j,j≠i->c'.x j=c.x j/\c'.T j=c.T j) (n:∀s o,c.O s=some o->c'.O s=some o):Inv P Q ZA c' gs w t:=by
 refine⟨h.pos,mem,hold,Zv,Y',Ya,Yg,WR,λj b a=>?_⟩;by_cases e:j=i
 .subst e;rw[k] at a;cases a;exact l
 .obtain⟨p,r,u⟩:=h.Oz j b a;obtain⟨d,Φ⟩:=m j e;have f:c'.tok j=c.tok j:=congrArg ZZ.tok d;refine⟨p,by rw[d,Φ];exact r,u.imp id λ⟨v,y,s,o,A,B,C⟩=>⟨v,y,s,o,n s o A,by rw[f];exact B,by rw[f];exact C⟩⟩
theorem Inv.Az (h:Inv P Q ZA c gs w t) (ag:gs[i]?=some g) {b:Nat} {cs:Array Value} {F:TypeId} (I:c.Z5 i b=some (cs,F)) {D:ZZ}
  (ah:D={c.x i with Z5:=upd (c.Z5 i) b none,G:=⟨λd o=>if d=b then(cs[o]?).map (·,true) else(c.H (.inl i)).κ d o,λd=>if d=b then some (F,cs.size) else(c.H (.inl i)).row d,(c.H (.inl i)).obj⟩}) (ai:Uq P Q f (i==0) g D):Ky P Q ZA c gs w t i f:=by
 let G':Ψ:=⟨λd o=>if d=b then(cs[o]?).map (·,true) else(c.H (.inl i)).κ d o,λd=>if d=b then some (F,cs.size) else(c.H (.inl i)).row d,(c.H (.inl i)).obj⟩;obtain⟨f1,f2,f3⟩:=h.hold.fresh i b _ I;have X:=h.mem.T2 i b cs F I;have J:∀d o,d≠b->G'.κ d o=(c.H (.inl i)).κ d o:=λd o e=>by simp[G',e]
 have aj:∀o,G'.κ b o=(cs[o]?).map (·,true):=λo=>by simp[G']
 have Y:∀d o,d≠b->(G'.has d o↔(c.H (.inl i)).has d o):=λd o e=>by unfold Ψ.has;rw[J d o e]
 have Z:∀d o,d≠b->(G'.owns d o↔(c.H (.inl i)).owns d o):=λd o e=>by unfold Ψ.owns;rw[J d o e]
 have ak:∀d,G'.XH d↔(c.H (.inl i)).XH d:=λd=>Iff.rfl
 have aa:∀d,d≠b->(c.H (.inl i)).off d->G'.off d:=λd e n=>⟨λo al=>n.1 o ((Y d o e).1 al),n.2⟩
 let c':YO:={c with H:=Zy c.H (.inl i) G',Z5:=upd c.Z5 i (upd (c.Z5 i) b none),T:=upd c.T i (f (i==0,g,D))}
 have B:∀j d v,upd c.Z5 i (upd (c.Z5 i) b none) j d=some v->c.Z5 j d=some v/\d≠b:=λj d v hv=>by
  by_cases e:j=i
  .subst e;rw[upd_same] at hv;by_cases m:d=b
   .subst m;rw[upd_same] at hv;cases hv
   .rw[upd_ne _ _ m] at hv;exact⟨hv,m⟩
  .rw[upd_ne _ _ e] at hv;exact⟨hv,λm=>by rw[m,f3 j e] at hv;cases hv⟩
 have am:∀s o d,c.O s=some o->Yb s o.toSpec d->d≠b:=λs o d K C e=>by
  have:=(h.hold.US s o d K C).2.2 i;rw[e,I] at this;cases this
 have ab:∀k,k≠.inl i->Apart G' (c.H k):=λk an=>by
  have a:=h.hold.apart _ _ (YQ an);refine⟨λd o x y=>?_,λd o x y=>?_,λd x y=>a.obj d x y⟩
  .by_cases e:d=b
   .subst e;exact(f2 k).1 o y
   .exact a.κ d o ((Z d o e).1 x) y
  .by_cases e:d=b
   .subst e;exact(f2 k).1 o ⟨_,x.choose_spec⟩
   .exact a.Rf d o x ((Y d o e).1 y)
 have ao:c'.x i=D:=by rw[ah];simp[c',G',YO.x,upd_same]
 refine⟨c',h.seen (c':=c') ag ⟨λk=>?_,λj d cs' ap hv=>h.mem.T2 j d cs' ap (B j d _ hv).1,h.mem.Xp,h.mem.keep⟩
  ⟨λk l N=>?_,λk d o n=>?_,λk d n=>?_,λj d v hv=>?_,λs o d K C=>?_,h.hold.UH,h.hold.RJ,λd C=>?_⟩ ⟨h.Zv.race,h.Zv.low,h.Zv.norel,λk=>?_,λj d v hv=>h.Zv.Sm j d v (B j d v hv).1,h.Zv.cont,h.Zv.hears⟩ h.Y' (h.Ya.Mk λd=>VQ c.H i G' d) h.Yg
  ⟨h.WR.OB,λj d v hv=>h.WR.OA j d v (B j d v hv).1⟩ ⟨g,?_,.inl rfl⟩ (λj R=>⟨?_,upd_ne _ _ R⟩) λ_ _ a=>a,_,rfl⟩
 .show Fits (Zy c.H (.inl i) G' k) w;by_cases e:k=.inl i
  .subst e;rw[Yu];have S:=h.mem.fit (.inl i);refine⟨λd o v p r=>?_,λd t' aq L=>?_,S.obj⟩
   .by_cases m:d=b
    .subst m;rw[aj] at r;cases u:cs[o]? with
     | none=>rw[u] at r;cases r
     | some M=>rw[u] at r;cases r;exact SY X u
    .rw[J d o m] at r;exact S.κ d o v p r
   .by_cases m:d=b
    .subst m;simp[G'] at L;obtain⟨rfl,rfl⟩:=L;exact⟨cs,X,rfl⟩
    .simp[G',m] at L;exact S.row d t' aq L
  .rw[Zx _ _ e];exact h.mem.fit k
 .show Apart (Zy c.H (.inl i) G' k) (Zy c.H (.inl i) G' l);by_cases e:k=.inl i
  .subst e;rw[Yu,Zx _ _ (YQ N)];exact ab l (YQ N)
  .rw[Zx _ _ e];by_cases m:l=.inl i
   .subst m;rw[Yu];exact(ab k e).symm
   .rw[Zx _ _ m];exact h.hold.apart k l N
 .replace n:(Zy c.H (.inl i) G' k).owns d o:=n
  by_cases e:k=.inl i
  .subst e;rw[Yu] at n;by_cases m:d=b
   .subst m;exact f1
   .exact h.hold.high _ _ _ ((Z d o m).1 n)
  .rw[Zx _ _ e] at n;exact h.hold.high _ _ _ n
 .replace n:(Zy c.H (.inl i) G' k).XH d:=n
  by_cases e:k=.inl i
  .subst e;rw[Yu] at n;exact h.hold.SR _ _ ((ak d).1 n)
  .rw[Zx _ _ e] at n;exact h.hold.SR _ _ n
 .obtain⟨ar,U⟩:=B j d v hv;obtain⟨V,E,W⟩:=h.hold.fresh j d v ar;refine⟨V,λk=>?_,λA au=>?_⟩
  .show(Zy c.H (.inl i) G' k).off d;by_cases e:k=.inl i
   .subst e;rw[Yu];exact aa d U (E _)
   .rw[Zx _ _ e];exact E k
  .cases u:c'.Z5 A d with
   | none=>rfl
   | some M=>have:=(B A d M u).1;rw[W A au] at this;cases this
 .obtain⟨V,E,W⟩:=h.hold.US s o d K C;have U:=am s o d K C;refine⟨V,λk=>?_,λA=>?_⟩
  .show(Zy c.H (.inl i) G' k).off d;by_cases e:k=.inl i
   .subst e;rw[Yu];exact aa d U (E _)
   .rw[Zx _ _ e];exact E k
  .cases u:c'.Z5 A d with
   | none=>rfl
   | some M=>have:=(B A d M u).1;rw[W A] at this;cases this
 .show Zy c.H (.inl i) G' (.inr d)=Ψ.empty;rw[VQ];exact h.hold.Ya d C
 .show YH t (Vj c.tok c.O t k) (Zy c.H (.inl i) G' k);by_cases e:k=.inl i
  .subst e;rw[Yu];have ad:=h.Zv.perms (.inl i);refine⟨λd o v p r k a ae af av=>?_,ad.obj⟩;by_cases m:d=b
   .exfalso;refine h.Zv.Sm i b _ I k a ae ?_;rw[af];exact m
   .rw[J d o m] at r;exact ad.κ d o v p r k a ae af av
  .rw[Zx _ _ e];exact h.Zv.perms k
 .rw[ao];show Vk P Q (upd c.T i (f (i==0,g,D)) i) _ _ _;rw[upd_same];exact ai
 .have aw:(Sum.inl j:Y5)≠.inl i:=λx=>R (by cases x;rfl);simp[c',YO.x,upd_ne _ _ R,Zx _ _ aw]
theorem Inv.less (h:Inv P Q ZA c gs w t) (s:gs[i]?=some g) {G':Ψ} (d:Sub G' (c.H (.inl i))) (u:Uq P Q f (i==0) g {c.x i with G:=G'}):Ky P Q ZA c gs w t i f:=by
 let l:ZZ:={c.x i with G:=G'}
 let c':YO:={c with H:=Zy c.H (.inl i) G',T:=upd c.T i (f (i==0,g,l))}
 have y:c'.x i=l:=by simp[c',l,YO.x]
 have A:upd c.Z5 i (c.Z5 i)=c.Z5:=KA rfl
 have m:=h.mem.own h.hold i (Xr.refl _ _ w) (d.fits (h.mem.fit (.inl i))) (h.mem.T2 i) rfl
 have n:=h.hold.own h.mem h.mem.keep.size i (G':=G') (V':=c.Z5 i) ⟨λb o v p B=>.inr (let ⟨C,D,E⟩:=d.κ b o v p B;⟨v,C,D,E⟩),λb F=>.inr (d.XH F)⟩ (λb x I=>.inl I);rw[A] at m n;refine⟨c',h.seen (c':=c') s m n ⟨h.Zv.race,h.Zv.low,h.Zv.norel,λk=>?_,h.Zv.Sm,h.Zv.cont,h.Zv.hears⟩ h.Y' (h.Ya.Mk λJ=>VQ c.H i G' J) h.Yg h.WR ⟨g,?_,.inl rfl⟩ (λj r=>⟨?_,upd_ne _ _ r⟩) λ_ _ a=>a,_,rfl⟩
 .show YH t (Vj c.tok c.O t k) (Zy c.H (.inl i) G' k);by_cases e:k=.inl i
  .subst e;rw[Yu];exact(h.Zv.perms (.inl i)).sub d
  .rw[Zx _ _ e];exact h.Zv.perms k
 .rw[y];show Vk P Q (upd c.T i (f (i==0,g,l)) i) _ _ _;rw[upd_same];exact u
 .have K:(Sum.inl j:Y5)≠.inl i:=λx=>r (by cases x;rfl);simp[c',YO.x,Zx _ _ K]
theorem Inv.group (h:Inv P Q ZA c gs w t) (ao:gs[i]?=some g) {s:Nat} {sp:Spec} {ap:TypeId} {G' E:Ψ} (B:c.Z5 i s=some (#[.int .u64 0,.int .u32 0],ap)) (af:∀m,sp.ZO=some m->m≠s/\∃ag,c.Z5 i m=some (#[.int .i32 0,.int .u32 0],ag))
  (aN:c.rel i=false) (I:Split (c.H (.inl i)) G' E) (aO:sp.ZO≠none->sp.XV [] E) {Y:ZZ}
  (aP:Y={c.x i with G:=G',Z5:=λb=>if b=s\/sp.ZO=some b then none else c.Z5 i b,tok:=upd (c.tok i) s (.par 0 0 .add),spec:=upd (c.spec i) s (some sp),view:=upd (c.view i) s none}) (aQ:Uq P Q f (i==0) g Y):Ky P Q ZA c gs w t i f:=by
 have aR:i<gs.size:=T0 ao
 have ah:c.O s=none:=by
  cases K:c.O s with
  | none=>rfl
  | some o=>have:=(h.hold.US s o s K (.inl rfl)).2.2 i;rw[B] at this;cases this
 have Z:∀b,Yb s sp b->∃v,c.Z5 i b=some v:=λb hb=>by
  rcases hb with rfl|hb
  .exact⟨_,B⟩
  .obtain⟨_,ag,aS⟩:=af b hb;exact⟨_,aS⟩
 have W:∀r o b,c.O r=some o->Yb r o.toSpec b->¬Yb s sp b:=λr o b d hb aa=>by
  obtain⟨v,hv⟩:=Z b aa;have:=(h.hold.US r o b d hb).2.2 i;rw[hv] at this;cases this
 have aq:∀r o,c.O r=some o->r≠s:=λr o d e=>by rw[e,ah] at d;cases d
 let V':Nat->Option (Array Value×TypeId):=λb=>if b=s\/sp.ZO=some b then none else c.Z5 i b
 let O':=upd c.O s (some (δ.new sp))
 have X:∀j b v,upd c.Z5 i V' j b=some v->c.Z5 j b=some v/\¬Yb s sp b:=λj b v hv=>by
  by_cases e:j=i
  .subst e;rw[upd_same] at hv;by_cases ai:b=s\/sp.ZO=some b
   .simp[V',ai] at hv
   .simp[V',ai] at hv;exact⟨hv,ai⟩
  .rw[upd_ne _ _ e] at hv;refine⟨hv,λhb=>?_⟩;obtain⟨aT,aU⟩:=Z b hb;have:=(h.hold.fresh i b aT aU).2.2 j e;rw[this] at hv;cases hv
 have ar:∀j b,c.Z5 j b=none->upd c.Z5 i V' j b=none:=λj b e=>by
  cases K:upd c.Z5 i V' j b with
  | none=>rfl
  | some v=>have:=(X j b v K).1;rw[e] at this;cases this
 have aV:∀j b,Yb s sp b->upd c.Z5 i V' j b=none:=λj b hb=>by
  cases K:upd c.Z5 i V' j b with
  | none=>rfl
  | some v=>exact absurd hb (X j b v K).2
 have C:∀r q,O' r=some q->(r=s/\q=δ.new sp)\/(r≠s/\c.O r=some q):=λr q y=>by
  by_cases e:r=s
  .subst e;rw[show O' r=some (δ.new sp) from upd_same ..] at y;cases y;exact .inl ⟨rfl,rfl⟩
  .rw[show O' r=c.O r from upd_ne _ _ e] at y;exact .inr ⟨e,y⟩
 have au:V7 c.H (upd c.Z5 i V') O' ZA.heap.size:=by
  refine⟨h.hold.apart,h.hold.high,h.hold.SR,λj b v hv=>?_,λr o b d hb=>?_,λr r' o o' b d F hb aa=>?_,λr o m d u=>?_,λb hb=>h.hold.Ya b λr o d hi=>hb r o (by rw[show O' r=c.O r from upd_ne _ _ (aq r o d)];exact d) hi⟩
  .obtain⟨S,U,ak⟩:=h.hold.fresh j b v (X j b v hv).1;exact⟨S,U,λav aW=>ar av b (ak av aW)⟩
  .rcases C r o d with⟨rfl,rfl⟩|⟨e,F⟩
   .obtain⟨v,hv⟩:=Z b hb;obtain⟨S,U,_⟩:=h.hold.fresh i b v hv;exact⟨S,U,λj=>aV j b hb⟩
   .obtain⟨S,U,ak⟩:=h.hold.US r o b F hb;exact⟨S,U,λj=>ar j b (ak j)⟩
  .rcases C r o d with⟨rfl,rfl⟩|⟨e,aw⟩<;>rcases C r' o' F with⟨rfl,rfl⟩|⟨ai,ax⟩
   .rfl
   .exact absurd hb (W r' o' b ax aa)
   .exact absurd aa (W r o b aw hb)
   .exact h.hold.UH r r' o o' b aw ax hb aa
  .rcases C r o d with⟨rfl,rfl⟩|⟨e,F⟩
   .exact(af m u).1
   .exact h.hold.RJ r o m F u
 have ay:O' s=some (δ.new sp):=upd_same ..
 have az:c.H (.inr s)=Ψ.empty:=h.hold.Ya s λr o d hi=>W r o s d hi (.inl rfl)
 have aA:∀r q,O' r=some q->At r q w:=λr q y=>by
  rcases C r q y with⟨rfl,rfl⟩|⟨_,M⟩
  .refine⟨⟨ap,?_⟩,λm u=>let ⟨_,ag,hv⟩:=af m u;⟨ag,?_⟩⟩
   .rw[AB];exact h.mem.T2 i r _ _ B
   .rw[AA];exact h.mem.T2 i m _ _ hv
  .exact h.mem.Xp _ _ M
 obtain⟨A,aX,aY,aB,aC,aZ,a0,a1⟩:∃A:Y5->Ψ,A (.inl i)=G'/\(∀j,j≠i->A (.inl j)=c.H (.inl j))/\(∀b,¬Yb s sp b->A (.inr b)=c.H (.inr b))/\(A (.inr s)=Ψ.empty/\∀m,sp.ZO=some m->A (.inr m)=E)/\
   V7 A (upd c.Z5 i V') O' ZA.heap.size/\WS A (upd c.Z5 i V') O' ZA w/\∀a,YH t (Vj (Zq c.tok i s (.par 0 0 .add)) O' t a) (A a):=by
  have al:=h.Zv.perms (.inl i)
  have aD:∀a,(∀b,a=.inr b->¬Yb s sp b)->YH t (Vj (Zq c.tok i s (.par 0 0 .add)) O' t a) (c.H a):=λa V=>by
   refine(h.Zv.perms a).mono λk N=>?_;cases a with
   | inl j=>exact N
   | inr b=>
    refine N.imp id λN r o d hb j n=>?_;rcases C r o d with⟨rfl,rfl⟩|⟨e,F⟩
    .exact absurd hb (V b rfl)
    .rw[XN _ (λx=>e x.2)] at n;exact N r o F hb j n
  have aE:WS c.H (upd c.Z5 i V') c.O ZA w:=h.mem.ND λj b v hv=>(X j b v hv).1
  have aF:(Sum.inl i:Y5)≠.inr s:=J;cases u:sp.ZO with
  | none=>
   refine⟨Zy (Zy c.H (.inl i) G') (.inr s) Ψ.empty,?_,λj n=>?_,λb hb=>?_,⟨Yu ..,λm e=>(by cases e)⟩,?_,aE.two (I.l.fits (h.mem.fit (.inl i))) (OD w) aA,λa=>?_⟩
   .rw[Zx _ _ aF,Yu]
   .rw[Zx _ _ J,Zx _ _ (λe=>n (by cases e;rfl))]
   .have:(Sum.inr b:Y5)≠.inr s:=λe=>hb (by cases e;exact .inl rfl);rw[Zx _ _ this,VQ]
   .exact au.two aF I.l.Q7 (Sub.empty _) (Apart.Pt _) ⟨λs o B=>⟨o,B,rfl⟩,λs o B=>⟨o,B,rfl⟩⟩ λx K=>by
     rcases K with e|e
     .cases e;exact⟨s,_,ay,.inl rfl⟩
     .cases e
   .by_cases Φ:a=.inr s
    .subst Φ;rw[Yu];exact YH.empty
    .rw[Zx _ _ Φ];by_cases ab:a=.inl i
     .subst ab;rw[Yu];exact al.sub I.l
     .rw[Zx _ _ ab];refine aD a λb e hb=>?_;subst e;rcases hb with rfl|hb
      .exact Φ rfl
      .rw[u] at hb;cases hb
  | some m=>
   have a2:=(af m u).1
   have aG:(Sum.inl i:Y5)≠.inr m:=J;refine⟨Zy (Zy c.H (.inl i) G') (.inr m) E,?_,λj n=>?_,λb hb=>?_,⟨?_,λa9 e=>?_⟩,?_,aE.two (I.l.fits (h.mem.fit (.inl i))) (I.r.fits (h.mem.fit (.inl i))) aA,λa=>?_⟩
   .rw[Zx _ _ aG,Yu]
   .rw[Zx _ _ J,Zx _ _ (λe=>n (by cases e;rfl))]
   .have:(Sum.inr b:Y5)≠.inr m:=λe=>hb (by cases e;exact .inr u);rw[Zx _ _ this,VQ]
   .have:(Sum.inr s:Y5)≠.inr m:=λe=>a2 (by cases e;rfl);rw[Zx _ _ this,VQ];exact az
   .cases e;rw[Yu]
   .exact au.two aG I.l.Q7 I.r.Q7 I.apart ⟨λs o B=>⟨o,B,rfl⟩,λs o B=>⟨o,B,rfl⟩⟩ λx K=>by
     rcases K with e|e
     .cases e;exact⟨s,_,ay,.inr u⟩
     .cases e
   .by_cases Φ:a=.inr m
    .subst Φ;rw[Yu];refine(al.sub I.r).mono λk N=>.inr λr o d hb j n=>?_;rcases C r o d with⟨rfl,rfl⟩|⟨e,F⟩
     .by_cases e:j=i
      .subst e;exact N
      .rw[Qn _ e,h.Y'.bare r ah j] at n;exact absurd rfl n
     .exact absurd (.inr u) (W r o m F hb)
    .rw[Zx _ _ Φ];by_cases ab:a=.inl i
     .subst ab;rw[Yu];exact al.sub I.l
     .rw[Zx _ _ ab];by_cases aH:a=.inr s
      .subst aH;rw[az];exact YH.empty
      .refine aD a λb e hb=>?_;subst e;rcases hb with rfl|hb
       .exact aH rfl
       .rw[u] at hb;cases hb;exact Φ rfl
 let c':YO:={c with H:=A,Z5:=upd c.Z5 i V',tok:=Zq c.tok i s (.par 0 0 .add),spec:=upd c.spec i (upd (c.spec i) s (some sp)),view:=upd c.view i (upd (c.view i) s none),O:=O',Zr:=upd c.Zr s i,T:=upd c.T i (f (i==0,g,Y))}
 have a3:c'.x i=Y:=by rw[aP];simp[c',V',YO.x,upd_same,Oy,aX]
 have ad:∀j r,r≠s->Zq c.tok i s (.par 0 0 .add) j r=c.tok j r:=λj r d=>XN _ λx=>d x.2
 have aI:∀j,j≠0->c.rel j=true->c.home j≠s:=λj R n e=>by
  obtain⟨am,S,U,_⟩:=h.Yg.c1 j R n;have a4:=h.Yg.Q6 (c.XO j) j (by simp[Trace.g?,S,U]);obtain⟨k,m,g,N⟩:=h.Y'.Qp j R a4;rw[e,h.Y'.bare s ah j] at N;cases N
 refine⟨c',h.seen (c':=c') ao a0 aZ ⟨h.Zv.race,h.Zv.low,h.Zv.norel,a1,λj b v hv=>h.Zv.Sm j b v (X j b v hv).1,λr o b d hb k a V aJ=>?_,h.Zv.hears⟩ (h.Y'.AF ah aR aN sp) ⟨λr q m y u ae a5=>?_,λr q y ae=>?_⟩
  ⟨h.Yg.Q6,h.Yg.c1,λj R n ae=>?_,λj R n a b=>?_⟩ ⟨λr q m y u p am aK V=>?_,λj b v hv=>h.WR.OA j b v (X j b v hv).1⟩ ⟨g,?_,.inl rfl⟩ (λj n=>⟨?_,upd_ne _ _ n⟩) (λr o d=>?_),_,rfl⟩
 .rcases C r o d with⟨rfl,rfl⟩|⟨e,F⟩
  .obtain⟨v,hv⟩:=Z b hb;exact absurd aJ (h.Zv.Sm i b v hv k a V)
  .have:=h.Zv.cont r o b F hb k a V aJ
   show _\/(_/\_=some (upd c.Zr s i r));rw[upd_ne _ _ e];exact this
 .rcases C r q y with⟨rfl,rfl⟩|⟨e,M⟩
  .show sp.XV [] (A (.inr m));rw[aC.2 m u];exact aO (by have:sp.ZO=some m:=u;rw[this];simp)
  .show q.XV q.L (A (.inr m));rw[aB m (W r q m M (.inr u))];exact h.Ya.RH r q m M u (λj an p x=>ae j an p (by show Zq c.tok i s _ j r=_;rw[ad j r e];exact x)) λj k L g x=>a5 j k L g (by show Zq c.tok i s _ j r=_;rw[ad j r e];exact x)
 .rcases C r q y with⟨rfl,rfl⟩|⟨e,M⟩
  .show Ur sp.D [] (A (.inr r));rw[aC.1];rfl
  .show Ur q.D q.YJ (A (.inr r));rw[aB r (W r q r M (.inl rfl))];exact h.Ya.Sf r q M λj an p x=>ae j an p (by show Zq c.tok i s _ j r=_;rw[ad j r e];exact x)
 .obtain⟨q,p,y⟩:=ae;have e:=aI j R n;have aj:c'.Zr (c.home j)=c.Zr (c.home j):=upd_ne _ _ e;show Knows t (c'.Zr (c.home j)) (c.XO j);rw[aj];refine h.Yg.c2 j R n ⟨q,p,?_⟩;have:Zq c.tok i s (.par 0 0 .add) (c'.Zr (c.home j)) (c.home j)=.par q p .ZQ:=y
  rwa [ad _ _ e,aj] at this
 .have e:=aI j R n
  have aj:c'.Zr (c.home j)=c.Zr (c.home j):=upd_ne _ _ e
  show Before t (c.XO j) (c.XO (c'.Zr (c.home j)))
  have aL:c'.Zr (c.home j)≠0:=a
  have aM:c.rel (c'.Zr (c.home j))=true:=b;rw[aj] at aL aM ⊢;exact h.Yg.c3 j R n aL aM
 .rcases C r q y with⟨rfl,rfl⟩|⟨e,M⟩
  .obtain⟨v,hv⟩:=Z m (.inr u);exact absurd V (h.WR.OA i m v hv am (mem_of_getElem? aK))
  .obtain⟨⟨k,a6,g,a7⟩,a8⟩:=h.WR.OB r q m M u p am aK V;exact⟨⟨k,a6,g,by show Zq c.tok i s _ _ r=_;rw[ad _ r e];exact a7⟩,a8⟩
 .rw[a3];show Vk P Q (upd c.T i (f (i==0,g,Y)) i) _ _ _;rw[upd_same];exact aQ
 .simp[c',YO.x,upd_ne _ _ n,Qn _ n,aY j n]
 .show O' r=some o;rw[show O' r=c.O r from upd_ne _ _ (aq r o d)];exact d
theorem Inv.ghost (h:Inv P Q ZA c gs w t) (d:gs[i]?=some g) (j:Ii (i==0) (Uq P Q f) g (c.x i)):Ky P Q ZA c gs w t i f:=by
 rcases j with⟨G',a,e⟩|⟨b,cs,k,a,e⟩|⟨s,sp,k,G',E,a,l,m,n,o,p⟩
 .exact h.less d a e
 .exact h.Az d a rfl e
 .exact h.group d a l m n o rfl p
end
section
variable {P:Program} {Q:Value->Prop} {ZA:World} {c c':YO} {gs:Array Goroutine} {w w':World} {t:Trace} {i:Nat} {g g':Goroutine} {es:Array Event}
theorem Inv.step (h:Inv P Q ZA c gs w t) (b:gs[i]?=some g) (k:g.status=.running):(∃v es,i=0/\stepG P true g w=.ended (.done v) w es/\∀sl w1,Good P (λv w'=>Q v/\Xr (λ_ _=>False) (λ_=>False) ZA w') (crowd gs w1 sl) (.done v) w (t++MemOp.ofEvents 0 g.frame.fn g.frame.place es))\/
  ∃f,c.T i=.node f/\(Wk P Q ZA c gs w t i f\/Ii (i==0) (Uq P Q f) g (c.x i)):=by
 obtain⟨A,j,p⟩:=h.Oz i g b;rcases p with rfl|⟨_,rfl,_⟩
 .have l:KF P (i==0) g (c.x i) Q->(∃v es,i=0/\stepG P true g w=.ended (.done v) w es/\∀sl w1,Good P (λv w'=>Q v/\Xr (λ_ _=>False) (λ_=>False) ZA w') (crowd gs w1 sl) (.done v) w (t++MemOp.ofEvents 0 g.frame.fn g.frame.place es)):=λd=>by
   rcases d with⟨r,d⟩|⟨_,d⟩
   .have e:i=0:=by simpa using r
    subst e;obtain⟨v,es,m,B⟩:=h.FB b d none w;refine⟨v,es,rfl,m,λsl w1=>?_⟩;obtain⟨C,es',n,s⟩:=h.FB b d sl w1;rw[m] at n;cases n;exact s
   .rw[d.2.2.1] at k;cases k
  cases o:c.T i with
  | leaf=>rw[o] at j;exact .inl (l j.2)
  | node f=>
   have u:=j;rw[o] at j;rcases j.2 with d|a
   .exact .inl (l d)
   .refine .inr ⟨f,rfl,?_⟩;rcases a with a|⟨y,a⟩
    .exact .inl (h.quits b a)
    .rcases a with a|a|a|a|a|a|a|a|a|a
     .exact .inl (h.Ig b a)
     .exact .inl (h.AM b a)
     .exact .inl (h.AL b a)
     .exact .inl (h.atom b y u a)
     .exact .inl (h.Kw b a)
     .exact .inl (h.H9 b a)
     .exact .inl (h.H8 b a)
     .exact .inl (h.Kv b a)
     .exact .inl (h.H7 b a)
     .exact .inr a
 .cases k
theorem Inv.Ay (h:Inv P Q ZA c gs w t):∀g∈gs,Go.Conc.awake g:=λg b=>by
 obtain⟨j,d⟩:=K5.1 b;intro t' a;rcases h.stat d with e|⟨_,e,_⟩|⟨e,_⟩<;>rw[e] at a<;>cases a
theorem Inv.comes:∀(L:List (Xe (Bool×Goroutine×ZZ))) (k:Nat) (c:YO) (b:List Nat) (gs:Array Goroutine) (w:World) (t:Trace) (sl:Option (Nat×Nat)),b.map c.T=L->Ord b gs.size->NI gs=k->Inv P Q ZA c gs w t->Comes P Q ZA (crowd gs w sl) t:=by
 intro L
 induction L using (Tj.wf (B:=Bool×Goroutine×ZZ)).induction with
 | _ L p=>
  intro k
  induction k using Nat.strongRecOn with
  | _ k C=>
   intro c b gs w t sl D e E h;subst D E;obtain⟨i,g,d,j,n,F,o⟩:=crowd_pick (P:=P) (w:=w) (sl:=sl) h.Ay h.awake;have H:=h.at d;have r:i<gs.size:=T0 n;rcases H.step n F with⟨v,es,rfl,I,J⟩|⟨f,s,x⟩
   .have y:=runT_many_ended (sl:=j) n (by simpa using I);rw[y] at o;exact Comes.last o (J sl w)
   .rcases x with x|K
    .obtain⟨c',A,w',u,y,l,M⟩:=x j;rw[y] at o;refine Comes.next o ?_;rcases M with⟨m,kk,a⟩|⟨m,kk,N,a⟩|⟨m,a,O⟩
     .exact p _ (by rw[a];exact e.one r s kk) _ c' b A w' _ j rfl (by rw[m];exact e) rfl l
     .obtain⟨R,S,U⟩:=e.two r s kk N;exact p _ (by rw[a];exact U) _ c' R A w' _ j rfl (by rw[m];exact S) rfl l
     .exact C _ O c' b A w' _ j (by rw[a]) (by rw[m];exact e) rfl l
    ·
     obtain⟨c',l,kk,a⟩:=h.ghost (f:=f) n K;exact p _ (by rw[a];exact e.one r s kk) _ c' b gs w t sl rfl e rfl l
end
def Ψ.Up (w:World):Ψ:=
 ⟨λb o=>match w.heap[b]? with|some (.cells c _ _)=>(c[o]?).map (·,false)|_=>none,
  λb=>match w.heap[b]? with|some (.cells c t a)=>if a=(0,0) then some (t,c.size) else none|_=>none,λ_=>none⟩
theorem Ψ.Ax (w:World):Fits (Ψ.Up w) w:=by
 refine⟨λb o v p h=>?_,λb t n h=>?_,λb x h=>(by cases h)⟩
 .simp only[Ψ.Up] at h;cases a:w.heap[b]? with
  | none=>rw[a] at h;cases h
  | some x=>
   rw[a] at h;cases x with
   | cells c t f=>
    simp only at h;cases d:c[o]? with
    | none=>rw[d] at h;cases h
    | some g=>rw[d] at h;cases h;exact SY a d
   | _=>cases h
 .simp only[Ψ.Up] at h;cases a:w.heap[b]? with
  | none=>rw[a] at h;cases h
  | some x=>
   rw[a] at h;cases x with
   | cells c t' f=>
    simp only at h;split at h
    .rename_i e;cases h;exact⟨c,by rw[e],rfl⟩
    .cases h
   | _=>cases h
theorem Ψ.Aw (w:World) (b o:Nat):¬(Ψ.Up w).owns b o:=λ⟨v,h⟩=>by
 simp only[Ψ.Up] at h;cases a:w.heap[b]? with
 | none=>rw[a] at h;cases h
 | some x=>
  rw[a] at h;cases x with
  | cells c t e=>
   simp only at h;cases d:c[o]? with
   | none=>rw[d] at h;cases h
   | some f=>rw[d] at h;cases h
  | _=>cases h
def ZZ.start (w:World):ZZ:=⟨Ψ.Up w,λ_=>none,λ_=>.nil,λ_=>none,λ_=>none,0,false⟩
theorem Goes.comes {P:Program} {A:Value->Prop} {g:Goroutine} {w:World} (h:Goes P A true g (ZZ.start w)):Comes P A w (solo g w) #[]:=by
 obtain⟨T,K⟩:=h;let c:YO:={H:=Zy (λ_=>Ψ.empty) (.inl 0) (Ψ.Up w),Z5:=λ_ _=>none,tok:=λ_ _=>.nil,spec:=λ_ _=>none,view:=λ_ _=>none,deaf:=λ_=>0,rel:=λ_=>false,T:=λ_=>T,O:=λ_=>none,Zr:=λ_=>0,home:=λ_=>0,XO:=λ_=>0};have M:c.x 0=ZZ.start w:=by simp[c,YO.x,ZZ.start]
 have y:∀k,k≠.inl 0->c.H k=Ψ.empty:=λk B=>Zx (λ_=>Ψ.empty) (Ψ.Up w) B
 have C:c.H (.inl 0)=Ψ.Up w:=Yu (λ_=>Ψ.empty) (.inl 0) (Ψ.Up w)
 have D:∀k b o,¬(c.H k).owns b o:=λk b o f=>by
  by_cases e:k=.inl 0
  .subst e;rw[C] at f;exact Ψ.Aw w b o f
  .rw[y k e] at f;obtain⟨v,hv⟩:=f;cases hv
 have F:∀k b,¬(c.H k).XH b:=λk b f=>by
  by_cases e:k=.inl 0
  .subst e;rw[C] at f;obtain⟨v,hv⟩:=f;cases hv
  .rw[y k e] at f;obtain⟨v,hv⟩:=f;cases hv
 have S:∀i:Nat,(#[]:Trace)[i]?=none:=λi=>J
 have I:(#[g]:Array Goroutine).size=1:=rfl
 have N:Inv P A w c #[g] w #[]:=by
  refine⟨J,⟨λk=>?_,λj b c t r=>(by cases r),λs o d=>(by cases d),Xr.refl _ _ _⟩,
   ⟨λk l _=>⟨λb o f=>absurd f (D k b o),λb o f=>absurd f (D l b o),λb f=>absurd f (F k b)⟩,λk b o f=>absurd f (D k b o),λk b f=>absurd f (F k b),λj b v hv=>(by cases hv),λs o b d=>(by cases d),λs U o o' b d=>(by cases d),λs o m d=>(by cases d),λb _=>y _ J⟩,
   ⟨λV ⟨i,j,_,⟨a,b,u,_⟩,_⟩=>(by simp[Trace.act?] at u),λQ E=>(by simp at E),λQ E=>(by simp at E),λk=>⟨λb o v p _ i a u=>(by simp[touchAt,Trace.act?] at u),λb _ i a u=>(by simp[touchAt,Trace.act?] at u)⟩,λj b v hv=>(by cases hv),λs o b d=>(by cases d),λj=>rfl⟩,
   ?_,⟨λs o m d=>(by cases d),λs o d=>(by cases d)⟩,⟨λk a B=>(by simp[Trace.g?] at B),λj _ n=>(by cases n),λj _ n=>(by cases n),λj _ n=>(by cases n)⟩,⟨λs o m d=>(by cases d),λj b v hv=>(by cases hv)⟩,λj b r=>?_⟩
  .by_cases e:k=.inl 0
   .subst e;rw[C];exact Ψ.Ax w
   .rw[y k e];exact OD w
  .exact⟨λs o d=>(by cases d),λs _ j=>rfl,λj s _=>rfl,λj s sp d=>(by cases d),λj s φ o d=>(by cases d),λj s k L g o d=>(by cases d),λj s m p R d=>(by cases d),λj s k m g d=>(by cases d),λj W n=>(by rw[I] at n;omega),λj k m g _ d=>(by cases d),rfl,λj s d=>(by cases d),λj s k m g o d=>(by cases d),λs j X k m g Y g' d=>(by cases d),λs j k m g q p R d=>(by cases d),λs o d=>(by cases d),λs o d=>(by cases d)⟩
  .have n:j=0:=by have:=T0 r;rw[I] at this;omega
   subst n;simp at r;subst r;exact⟨g,by rw[M];exact K,.inl rfl⟩
 rw[solo_eq_crowd];exact Inv.comes _ _ c [0] #[g] w #[] none rfl ⟨J,λi=>J⟩ rfl N
def Ψ.fresh (G:Ψ) (r:Nat):Prop:=(∀o,G.κ r o=none)/\G.row r=none/\G.obj r=none/\∀b,r<b->(∀o,G.κ b o=none)/\G.row b=none/\G.obj b=none
def Ψ.Ox (G:Ψ) (a:Addr) (v:Value):Ψ:={G with κ:=λb o=>if b=a.block/\o=a.off then some (v,true) else G.κ b o}
def Ψ.YB (G:Ψ) (r:Nat) (c:Array Value) (t:TypeId):Ψ:=⟨λb o=>if b=r then(c[o]?).map (·,true) else G.κ b o,λb=>if b=r then some (t,c.size) else G.row b,G.obj⟩
def Ψ.ZX (G:Ψ) (r:Nat) (x:Obj):Ψ:={G with obj:=λb=>if b=r then some x else G.obj b}
def One:Value->Prop
 | .agg _|.tuple _=>False
 | _=>True
def Ω {b:Type} (P:Program):Sem b->Ψ->(b->Ψ->Prop)->(Value->Ψ->Prop)->Prop
 | .pure a,G,K,_=>K a G
 | .load m a k,G,K,E=>m=.plain/\a.spot=none/\∃v p,G.κ a.block a.off=some (v,p)/\Ω P (k v) G K E
 | .store m a v k,G,K,E=>m=.plain/\a.spot=none/\G.owns a.block a.off/\(∃t n,G.row a.block=some (t,n))/\One v/\Ω P k (G.Ox a v) K E
 | .new (.cells c t d) k,G,K,E=>d=(0,0)/\∀r,G.fresh r->Ω P (k r) (G.YB r c t) K E
 | .new o k,G,K,E=>∀r,G.fresh r->Ω P (k r) (G.ZX r o) K E
 | .shape r k,G,K,E=>∃t n,G.row r=some (t,n)/\Ω P (k (some (t,n))) G K E
 | .freeze _ _ _,_,_,_=>False
 | .frozen a k,G,K,E=>(∃t n,G.row a.block=some (t,n))/\Ω P (k false) G K E
 | .getObj r k,G,K,E=>∃o,G.obj r=some o/\o.isChan=false/\Ω P (k o) G K E
 | .setObj r o k,G,K,E=>G.XH r/\Obj.Qs o=false/\o.isChan=false/\Ω P k (G.ZX r o) K E
 | .choose q k,G,K,E=>if q.forced then Ω P (k 0) G K E else ∀n,Ω P (k (q.cut n)) G K E
 | .sys _ _,_,_,_=>False
 | .program k,G,K,E=>Ω P (k P) G K E
 | .mark m k,G,K,E=>m=.noRoom/\Ω P k G K E
 | .halt (.panic v),G,_,E=>E v G
 | .halt _,_,_,_=>False
structure Yo (G0:Ψ) (w0:World) (G:Ψ) (w:World) (es:Array Event):Prop where
 fit:Fits G w
 keeps:Xr G0.owns G0.XH w0 w
 UQ:KH G0 G w0.heap.size
 Pr:∀e∈es,WJ G0 w0.heap.size w.heap.size e
theorem Yo.start {G:Ψ} {w:World} (h:Fits G w):Yo G w G w #[]:=
 ⟨h,Xr.refl _ _ _,⟨λb o v p h=>.inr ⟨v,p,h,id⟩,λb h=>.inr h⟩,λe a=>by simp at a⟩
section
variable {G0 G:Ψ} {w0 w:World} {es:Array Event}
theorem Fits.bare (h:Fits G w) {b:Nat} (d:w.heap.size<=b):(∀o,G.κ b o=none)/\G.row b=none/\G.obj b=none:=by
 refine⟨λo=>?_,?_,?_⟩
 .cases a:G.κ b o with
  | none=>rfl
  | some x=>obtain⟨c,t,e,d,_⟩:=Re (h.κ _ _ x.1 x.2 a);have:=Xq d;omega
 .cases a:G.row b with
  | none=>rfl
  | some x=>obtain⟨c,d,_⟩:=h.row _ x.1 x.2 a;have:=Xq d;omega
 .cases a:G.obj b with
  | none=>rfl
  | some x=>have:=Xq (h.obj _ x a).1;omega
theorem Fits.fresh (h:Fits G w):G.fresh w.heap.size:=
 ⟨(h.bare (Z1 _)).1,(h.bare (Z1 _)).2.1,(h.bare (Z1 _)).2.2,λ_ a=>h.bare (RP a)⟩
theorem Ψ.H6 {H H':Ψ} (c:∀b o,H'.κ b o=none->H.κ b o=none) (d:∀b,H'.row b=none->H.row b=none) (e:∀b,H'.obj b=none->H.obj b=none) (r:Nat) (h:H'.fresh r):H.fresh r:=
 ⟨λo=>c _ _ (h.1 o),d _ h.2.1,e _ h.2.2.1,λb a=>⟨λo=>c _ _ ((h.2.2.2 b a).1 o),d _ (h.2.2.2 b a).2.1,e _ (h.2.2.2 b a).2.2⟩⟩
theorem Ψ.Fu {H:Ψ} {r:Nat} (a:H.fresh r) (c:Array Value) (t:TypeId):∀b,(H.YB r c t).fresh b->H.fresh b:=
 Ψ.H6 (λb o h=>by
  by_cases e:b=r
  .subst e;exact a.1 o
  .simpa[Ψ.YB,e] using h) (λb h=>by
  by_cases e:b=r
  .subst e;exact a.2.1
  .simpa[Ψ.YB,e] using h) (λb h=>h)
theorem Ψ.H5 {H:Ψ} {r:Nat} {x:Obj}:∀b,(H.ZX r x).fresh b->H.fresh b:=
 Ψ.H6 (λb o h=>h) (λb h=>h) (λb h=>by
  by_cases e:b=r
  .subst e;simp[Ψ.ZX] at h
  .simpa[Ψ.ZX,e] using h)
theorem WJ.mono {n b c:Nat} {e:Event} (h:WJ G n b e) (f:b<=c):WJ G n c e:=by
 obtain⟨d,wr,g⟩:=e;cases d with
 | cell a=>exact h.imp (λx=>⟨x.1,U⟩) id
 | obj r=>exact⟨h.1,h.2.imp (λx=>⟨x.1,U⟩) id⟩
 | _=>exact h
theorem Yo.read (h:Yo G0 w0 G w es) {a:Addr} {v:Value} {p:Bool} (g:a.spot=none) (d:G.κ a.block a.off=some (v,p)):w.cell? a=some v/\Yo G0 w0 G w (es.push ⟨.cell a,false,false⟩):=by
 obtain⟨b,o,sp⟩:=a;simp only at g d;subst g;have hv:=h.fit.κ b o v p d;refine⟨hv,h.fit,h.keeps,h.UQ,λe f=>?_⟩;rcases NN.1 f with f|rfl
 .exact h.Pr e f
 .rcases h.UQ.κ b o v p d with i|⟨l,m,j,_⟩
  .obtain⟨c,t,n,k,_⟩:=Re hv;exact .inl ⟨i,Xq k⟩
  .exact .inr ⟨rfl,_,j⟩
theorem heap_setCell {a:Addr} {v:Value} {c:Array Value} {t:TypeId} {f:Nat×Nat} (g:a.spot=none) (d:w.heap[a.block]?=some (.cells c t f)):(w.setCell a v).heap=w.heap.setIfInBounds a.block (.cells (c.setIfInBounds a.off v) t f):=by
 obtain⟨b,o,sp⟩:=a;simp only at g d;subst g;have h:=Xq d;simp only[World.setCell];apply NP;intro j;rw[Array.getElem?_modify];by_cases e:b=j
 .subst e;rw[Tt h,if_pos rfl,d];simp
 .rw[UW e,if_neg e]
theorem Yo.write (h:Yo G0 w0 G w es) {a:Addr} {v:Value} (L:a.spot=none) (M:G.owns a.block a.off):(∃u,w.cell? a=some u)/\Yo G0 w0 (G.Ox a v) (w.setCell a v) (es.push ⟨.cell a,true,false⟩):=by
 obtain⟨b,o,sp⟩:=a;simp only at L M;subst L;obtain⟨u,B⟩:=M;have hv:=h.fit.κ b o u true B;obtain⟨c,t,W,k,X⟩:=Re hv;have N:=Xq k;have C:=heap_setCell (w:=w) (a:=⟨b,o,none⟩) (v:=v) rfl k;have O:(w.setCell ⟨b,o,none⟩ v).heap.size=w.heap.size:=by rw[C];simp
 have p:(w.setCell ⟨b,o,none⟩ v).heap[b]?=some (.cells (c.setIfInBounds o v) t W):=by rw[C,Tt N]
 have m:∀j,b≠j->(w.setCell ⟨b,o,none⟩ v).heap[j]?=w.heap[j]?:=λj Y=>by rw[C,UW Y]
 have Z:o<c.size:=(T'.1 X).1
 have P:b<w0.heap.size->G0.owns b o:=λr=>by
  rcases h.UQ.κ b o u true B with s|⟨D,Q,E,F⟩
  .omega
  .exact⟨D,by rw[E,F rfl]⟩
 refine⟨⟨u,hv⟩,⟨λd o' H I i=>?_,λd t' aa ab=>?_,λd x y=>?_⟩,⟨by rw[O];exact h.keeps.size,λd c' t' ad A=>?_,λd x A y s=>?_,h.keeps.os,h.keeps.output,h.keeps.tape⟩,⟨λd o' H I i=>?_,h.UQ.obj⟩,λe J=>?_⟩
 .simp only[Ψ.Ox] at i;by_cases e:d=b/\o'=o
  .obtain⟨rfl,rfl⟩:=e;rw[if_pos ⟨rfl,rfl⟩] at i;cases i;exact SY p (by rw[Tt Z])
  .rw[if_neg e] at i;have:=h.fit.κ d o' H I i;by_cases f:d=b
   .subst f;have Φ:o≠o':=λx=>e ⟨rfl,x.symm⟩;obtain⟨n,t2,ae,g,K⟩:=Re this;rw[k] at g;cases g;exact SY p (by rw[UW Φ];exact K)
   .obtain⟨n,t2,ae,g,K⟩:=Re this;exact SY (by rw[m d (YQ f)];exact g) K
 .obtain⟨n,g,R⟩:=h.fit.row d t' aa ab;by_cases f:d=b
  .subst f;rw[k] at g;cases g;exact⟨_,p,by simpa using R⟩
  .exact⟨n,by rw[m d (YQ f)];exact g,R⟩
 .obtain⟨g,S⟩:=h.fit.obj d x y;have f:b≠d:=λe=>by subst e;rw[k] at g;cases g;cases S
  exact⟨by rw[m d f];exact g,S⟩
 .obtain⟨n,l,T,U⟩:=h.keeps.cells d c' t' ad A;by_cases f:d=b
  .subst f;rw[k] at l;cases l;refine⟨_,p,by simpa using T,λo' V=>?_⟩;have Φ:o≠o':=λe=>by subst e;exact V (P (Xq A))
   rw[UW Φ];exact U o' V
  .exact⟨n,by rw[m d (YQ f)];exact l,T,U⟩
 .have l:=h.keeps.Tm d x A y s
  have f:b≠d:=λe=>by subst e;rw[k] at l;cases l;cases y
  rw[m d f];exact l
 .simp only[Ψ.Ox] at i;by_cases e:d=b/\o'=o
  .obtain⟨rfl,rfl⟩:=e;rw[if_pos ⟨rfl,rfl⟩] at i;cases i;rcases h.UQ.κ _ _ _ _ B with s|⟨D,Q,E,F⟩
   .exact .inl s
   .exact .inr ⟨D,Q,E,F⟩
  .rw[if_neg e] at i;exact h.UQ.κ d o' H I i
 .rw[O];rcases NN.1 J with J|rfl
  .exact h.Pr e J
  .rcases OO b w0.heap.size with r|r
   .refine .inr ⟨rfl,?_⟩;exact P r
   .exact .inl ⟨r,N⟩
theorem Mg {x:Obj} {j:Nat} (a:j<w.heap.size):(w.heap.push x)[j]?=w.heap[j]?:=by
 rw[NQ,if_neg U]
theorem Ku {x:Obj}:(w.heap.push x)[w.heap.size]?=some x:=J
theorem Yo.new (h:Yo G0 w0 G w es) {x:Obj} {G':Ψ} (k:∀b o,b≠w.heap.size->G'.κ b o=G.κ b o) (m:∀b,b≠w.heap.size->G'.row b=G.row b) (l:∀b,b≠w.heap.size->G'.obj b=G.obj b)
  (i:Fits {κ:=λb o=>if b=w.heap.size then G'.κ b o else none,row:=λb=>if b=w.heap.size then G'.row b else none,obj:=λb=>if b=w.heap.size then G'.obj b else none} {w with heap:=w.heap.push x}) :
  Yo G0 w0 G' {w with heap:=w.heap.push x} es:=by
 have E:=h.keeps.size;refine⟨⟨λb o v p a=>?_,λb t n a=>?_,λb y a=>?_⟩,⟨by simp;omega,λb c t r a=>?_,λb y a j s=>?_,h.keeps.os,h.keeps.output,h.keeps.tape⟩,⟨λb o v p a=>?_,λb ⟨y,a⟩=>?_⟩,λe u=>(h.Pr e u).mono J⟩
 .by_cases e:b=w.heap.size
  .exact i.κ b o v p (by simp only[e,if_true];rw[<-e];exact a)
  .rw[k b o e] at a;obtain⟨g,t2,F,d,A⟩:=Re (h.fit.κ b o v p a);exact SY (w:={w with heap:=w.heap.push x}) (by show(w.heap.push x)[b]?=_;rw[Mg (Xq d)];exact d) A
 .by_cases e:b=w.heap.size
  .exact i.row b t n (by simp only[e,if_true];rw[<-e];exact a)
  .rw[m b e] at a;obtain⟨g,d,B⟩:=h.fit.row b t n a;exact⟨g,by show(w.heap.push x)[b]?=_;rw[Mg (Xq d)];exact d,B⟩
 .by_cases e:b=w.heap.size
  .exact i.obj b y (by simp only[e,if_true];rw[<-e];exact a)
  .rw[l b e] at a;obtain⟨d,j⟩:=h.fit.obj b y a;exact⟨by show(w.heap.push x)[b]?=_;rw[Mg (Xq d)];exact d,j⟩
 .obtain⟨g,f,C,D⟩:=h.keeps.cells b c t r a;exact⟨g,by show(w.heap.push x)[b]?=_;rw[Mg (Xq f)];exact f,C,D⟩
 .have f:=h.keeps.Tm b y a j s
  show(w.heap.push x)[b]?=_;rw[Mg (Xq f)];exact f
 .by_cases e:b=w.heap.size
  .exact .inl U
  .rw[k b o e] at a;exact h.UQ.κ b o v p a
 .by_cases e:b=w.heap.size
  .exact .inl U
  .rw[l b e] at a;exact h.UQ.obj b ⟨y,a⟩
end
section
variable {G0 G:Ψ} {w0 w:World} {es:Array Event} {P:Program}
theorem Yo.push (h:Yo G0 w0 G w es) {e:Event} (a:WJ G0 w0.heap.size w.heap.size e):Yo G0 w0 G w (es.push e):=
 ⟨h.fit,h.keeps,h.UQ,λx b=>(NN.1 b).elim (h.Pr x) λy=>y▸a⟩
theorem Yo.draw (h:Yo G0 w0 G w es) (n:Nat):Yo G0 w0 G {w with drawn:=n} es:=
 ⟨⟨h.fit.κ,h.fit.row,h.fit.obj⟩,⟨h.keeps.size,h.keeps.cells,h.keeps.Tm,h.keeps.os,h.keeps.output,h.keeps.tape⟩,h.UQ,h.Pr⟩
theorem Yo.row (h:Yo G0 w0 G w es) (c:Array Value) (t:TypeId):Yo G0 w0 (G.YB w.heap.size c t) {w with heap:=w.heap.push (.cells c t (0,0))} es:=by
 refine h.new (λb o a=>by simp[Ψ.YB,a]) (λb a=>by simp[Ψ.YB,a]) (λb a=>rfl) ⟨λb o v p a=>?_,λb t' n a=>?_,λb y a=>?_⟩
 .by_cases e:b=w.heap.size
  .simp[Ψ.YB,e] at a;obtain⟨f,d,rfl,rfl⟩:=a;rw[e];exact SY (w:={w with heap:=w.heap.push (.cells c t (0,0))}) Ku d
  .simp[e] at a
 .by_cases e:b=w.heap.size
  .simp[Ψ.YB,e] at a;obtain⟨rfl,rfl⟩:=a;rw[e];exact⟨c,Ku,rfl⟩
  .simp[e] at a
 .by_cases e:b=w.heap.size
  .simp only[e,if_true,Ψ.YB] at a;rw[h.fit.fresh.2.2.1] at a;cases a
  .simp[e] at a
theorem Yo.obj (h:Yo G0 w0 G w es) {x:Obj} (c:Obj.Qs x=false):Yo G0 w0 (G.ZX w.heap.size x) {w with heap:=w.heap.push x} es:=by
 refine h.new (λb o a=>rfl) (λb a=>rfl) (λb a=>by simp[Ψ.ZX,a]) ⟨λb o v p a=>?_,λb t' n a=>?_,λb y a=>?_⟩
 .by_cases e:b=w.heap.size
  .simp only[e,if_true,Ψ.ZX] at a;rw[h.fit.fresh.1] at a;cases a
  .simp[e] at a
 .by_cases e:b=w.heap.size
  .simp only[e,if_true,Ψ.ZX] at a;rw[h.fit.fresh.2.1] at a;cases a
  .simp[e] at a
 .by_cases e:b=w.heap.size
  .simp[Ψ.ZX,e] at a;subst a;rw[e];exact⟨Ku,c⟩
  .simp[e] at a
theorem Yo.setObj (h:Yo G0 w0 G w es) {r:Nat} {x:Obj} (F:G.XH r) (k:Obj.Qs x=false):(∃y,w.heap[r]?=some y/\Obj.Qs y=false)/\Yo G0 w0 (G.ZX r x) {w with heap:=w.heap.setIfInBounds r x} (es.push ⟨.obj r,true,false⟩):=by
 obtain⟨y,m⟩:=F;obtain⟨s,B⟩:=h.fit.obj r y m;have C:=Xq s;have H:(w.heap.setIfInBounds r x)[r]?=some x:=Tt C;have l:∀j,r≠j->(w.heap.setIfInBounds r x)[j]?=w.heap[j]?:=λj I=>UW I;have u:∀b c t g,w.heap[b]?=some (.cells c t g)->r≠b:=λb c t g d e=>by subst e;rw[s] at d;cases d;cases B
 refine⟨⟨y,s,B⟩,⟨λb o v p d=>?_,λb t n d=>?_,λb z f=>?_⟩,⟨by simp;exact h.keeps.size,λb c t g d=>?_,λb z d f D=>?_,h.keeps.os,h.keeps.output,h.keeps.tape⟩,⟨h.UQ.κ,λb f=>?_⟩,λe A=>?_⟩
 .obtain⟨c,t,g,a,i⟩:=Re (h.fit.κ b o v p d);exact SY (w:={w with heap:=w.heap.setIfInBounds r x}) (by show(w.heap.setIfInBounds r x)[b]?=_;rw[l b (u b c t g a)];exact a) i
 .obtain⟨c,a,i⟩:=h.fit.row b t n d;exact⟨c,by show(w.heap.setIfInBounds r x)[b]?=_;rw[l b (u b c t _ a)];exact a,i⟩
 .by_cases e:b=r
  .subst e;simp[Ψ.ZX] at f;subst f;exact⟨H,k⟩
  .simp[Ψ.ZX,e] at f;obtain⟨a,i⟩:=h.fit.obj b z f;exact⟨by show(w.heap.setIfInBounds r x)[b]?=_;rw[l b (YQ e)];exact a,i⟩
 .obtain⟨E,a,i,J⟩:=h.keeps.cells b c t g d;exact⟨E,by show(w.heap.setIfInBounds r x)[b]?=_;rw[l b (u b E t g a)];exact a,i,J⟩
 .have a:=h.keeps.Tm b z d f D
  have e:r≠b:=λe=>by
   subst e;rcases h.UQ.obj r ⟨y,m⟩ with k|k
   .have:=Xq d;omega
   .exact D k
  show(w.heap.setIfInBounds r x)[b]?=_;rw[l b e];exact a
 .by_cases e:b=r
  .subst e;exact h.UQ.obj b ⟨y,m⟩
  .obtain⟨z,f⟩:=f;simp[Ψ.ZX,e] at f;exact h.UQ.obj b ⟨z,f⟩
 .simp only[T9];rcases NN.1 A with A|rfl
  .exact h.Pr e A
  .exact⟨rfl,(h.UQ.obj r ⟨y,m⟩).imp (λk=>⟨k,C⟩) id⟩
theorem Ω.sound {I:Type} {K:I->Ψ->Prop} {E:Value->Ψ->Prop} (s:Sem I):∀{G:Ψ} {w:World} {es:Array Event},Ω P s G K E->Yo G0 w0 G w es->
  ∃G' w' es',Yo G0 w0 G' w' es'/\((∃a,s.runT P w es=(.ok a w',es')/\K a G')\/(∃v,s.runT P w es=(.halt (.panic v) w',es')/\E v G')):=by
 induction s with
 | pure a=>intro G w es h b;exact⟨G,w,es,b,.inl ⟨a,rfl,h⟩⟩
 | load m a k d=>
  intro G w es h b;obtain⟨rfl,C,v,p,D,i⟩:=h;obtain⟨hv,l⟩:=b.read C D;obtain⟨G',w',es',f,g⟩:=d v i l;refine⟨G',w',es',f,?_⟩;simp only[Sem.runT,hv];exact g
 | store m a v k d=>
  intro G w es h b;obtain⟨rfl,C,D,⟨t,n,L⟩,M,i⟩:=h;obtain⟨⟨u,hv⟩,l⟩:=b.write (v:=v) C D;obtain⟨G',w',es',f,g⟩:=d i l;have N:w.frozen? a=false:=by
   obtain⟨c,j,_⟩:=b.fit.row a.block t n L;simp[World.frozen?,j]
  refine⟨G',w',es',f,?_⟩;have e:(Sem.store .plain a v k).runT P w es=k.runT P (w.setCell a v) (es.push ⟨.cell a,true,false⟩):=by
   cases v<;>first|exact M.elim|(simp only[Sem.runT,hv,N];rfl)
  rw[e];exact g
 | new o k d=>
  intro G w es h b;cases o with
  | cells c t T=>
   obtain⟨rfl,i⟩:=h;obtain⟨G',w',es',f,g⟩:=d w.heap.size (i _ b.fit.fresh) (b.row c t);exact⟨G',w',es',f,g⟩
  | _=>
   obtain⟨G',w',es',f,g⟩:=d w.heap.size (h _ b.fit.fresh) (b.obj rfl);exact⟨G',w',es',f,g⟩
 | shape r k d=>
  intro G w es h b;obtain⟨t,n,A,i⟩:=h;have e:w.shape? r=some (t,n):=by
   obtain⟨c,j,O⟩:=b.fit.row r t n A;simp[World.shape?,j,O]
  obtain⟨G',w',es',f,g⟩:=d _ i b;refine⟨G',w',es',f,?_⟩;simp only[Sem.runT,e];exact g
 | freeze a n k d=>intro G w es h b;exact h.elim
 | frozen a k d=>
  intro G w es h b;obtain⟨⟨t,n,A⟩,i⟩:=h;have e:w.frozen? a=false:=by
   obtain⟨c,j,_⟩:=b.fit.row a.block t n A;simp[World.frozen?,j]
  obtain⟨G',w',es',f,g⟩:=d _ i b;refine⟨G',w',es',f,?_⟩;simp only[Sem.runT,e];exact g
 | getObj r k d=>
  intro G w es h b;obtain⟨o,J,F,i⟩:=h;obtain⟨j,H⟩:=b.fit.obj r o J;have Q:=Xq j;have l:=b.push (e:=⟨.obj r,false,false⟩) ⟨rfl,(b.UQ.obj r ⟨o,J⟩).imp (λR=>⟨R,Q⟩) id⟩;obtain⟨G',w',es',f,g⟩:=d _ i l;refine⟨G',w',es',f,?_⟩;have e:(Sem.getObj r k).runT P w es=(k o).runT P w (es.push ⟨.obj r,false,false⟩):=by
   cases o<;>first|(simp only[Sem.runT,j];first|done|rfl|(rw[F];done))|(cases H;done)
  rw[e];exact g
 | setObj r o k d=>
  intro G w es h b;obtain⟨A,H,F,i⟩:=h;obtain⟨⟨y,j,S⟩,l⟩:=b.setObj A H;obtain⟨G',w',es',f,g⟩:=d i l;refine⟨G',w',es',f,?_⟩;have e:(Sem.setObj r o k).runT P w es=k.runT P {w with heap:=w.heap.setIfInBounds r o} (es.push ⟨.obj r,true,false⟩):=by
   cases y<;>first|(simp only[Sem.runT,j,F];done)|(cases S;done)
  rw[e];exact g
 | choose q k d=>
  intro G w es h b;simp only[Ω] at h;by_cases B:q.forced=true
  .rw[if_pos B] at h;obtain⟨G',w',es',f,g⟩:=d _ h b;refine⟨G',w',es',f,?_⟩;simp only[Sem.runT,B,if_true];exact g
  .rw[if_neg B] at h;obtain⟨G',w',es',f,g⟩:=d _ (h (w.tape w.drawn q)) (b.draw (w.drawn+1));refine⟨G',w',es',f,?_⟩;simp only[Sem.runT,B];exact g
 | sys c k d=>intro G w es h b;exact h.elim
 | program k d=>
  intro G w es h b;obtain⟨G',w',es',f,g⟩:=d P h b;exact⟨G',w',es',f,g⟩
 | mark m k d=>
  intro G w es h b;obtain⟨rfl,i⟩:=h;obtain⟨G',w',es',f,g⟩:=d i (b.push (e:=⟨.mark .noRoom,false,true⟩) rfl);exact⟨G',w',es',f,g⟩
 | halt x=>
  intro G w es h b;cases x<;>first|exact h.elim|skip
  exact⟨G,w,es,b,.inr ⟨_,rfl,h⟩⟩
theorem mem_seen {fn:FuncId} {e:Event} (h:e∈seen P fn es):e∈es:=by
 unfold seen at h;obtain⟨l⟩:=es;have d:∀(l:List Event) (q:Bool) (c:Array Event) (x:Event),x∈(l.foldl (λ(s:Bool×Array Event) e=>match e.loc with
   | .mark (Mark.extern f)=>((P.funcs[f]?).any (·.norace),s.2)
   | _=>(s.1,if s.1&&!e.sync then s.2 else s.2.push e)) (q,c)).2->x∈c\/x∈l:=by
  intro l
  induction l with
  | nil=>intro q c x a;exact .inl a
  | cons y l g=>
   intro q c x a;rw[List.foldl_cons] at a;rcases g _ _ x a with b|b
   .split at b
    .exact .inl b
    .simp only at b;split at b
     .exact .inl b
     .rcases NN.1 b with i|rfl
      .exact .inl i
      .exact .inr J
   .exact .inr (by simp[b])
 simp only[List.foldl_toArray'] at h;rcases d l _ #[] e h with a|a
 .simp at a
 .simpa using a
end
def Zb (P:Program) (a:Value->Prop) (mn:Bool) (y:ZZ) (π:Frame) (cs:List Frame) (H:Ψ):Prop:=Goes P a mn (Go.Conc.G π cs) {y with G:=H}
def W6:Type:=ZZ->Prop
class ZN where
 q:W6->Prop
structure Seq [ZN] (x:W6):Prop where
 cls:ZN.q x
 rel:∀y,x y->y.rel=false
 Z5:∀y,x y->y.Z5=λ_=>none
def ν (P:Program) (a:Value->Prop) (mn:Bool) (x:W6) (π:Frame) (cs:List Frame) (H:Ψ):Prop:=∀y,x y->Zb P a mn y π cs H
def π (b:Frame) (t:Array Value) (k:List Item):Frame:={b with tmps:=t,todo:=k}
section
variable {P:Program} {Q:Value->Prop} {mn:Bool} {x:W6} {cs:List Frame} {H:Ψ} {b f:Frame} {t:Array Value} {k:List Item}
theorem Zb.own {y:ZZ} (g:y.rel=false) (i:y.Z5=λ_=>none) (h:∀w,Fits H w->∃f' cs' w' es H',stepG P mn (Go.Conc.G f cs) w=.go (Go.Conc.G f' cs') w' es/\Yo H w H' w' es/\Zb P Q mn y f' cs' H'):Zb P Q mn y f cs H:=by
 refine Goes.step (λj=>by rw[show({y with G:=H}:ZZ).rel=y.rel from rfl,g] at j;cases j) (.inr ⟨⟨rfl,rfl⟩,.inl λw k hv=>?_⟩);obtain⟨f',cs',w',es,H',l,d,m⟩:=h w k;rw[l];refine⟨H',y.Z5,⟨rfl,rfl⟩,d.keeps,d.fit,λb c t a=>?_,d.UQ,λb c a=>.inl a,λe n=>?_,λb c a=>?_,m⟩
 .rw[i] at a;cases a
 .rw[if_neg (by rw[show({y with G:=H}:ZZ).rel=y.rel from rfl,g];simp)];exact d.Pr e n
 .rw[i] at a;cases a
variable [ZN]
theorem ν.own (e:Seq x) (h:∀w,Fits H w->∃f' cs' w' es H',stepG P mn (Go.Conc.G f cs) w=.go (Go.Conc.G f' cs') w' es/\Yo H w H' w' es/\ν P Q mn x f' cs' H'):ν P Q mn x f cs H:=
 λy d=>.own (e.rel y d) (e.Z5 y d) λw g=>let ⟨f',cs',w',es,H',a,b,c⟩:=h w g;⟨f',cs',w',es,H',a,b,c y d⟩
theorem ν.still (a:Seq x) {f':Frame} {cs':List Frame} (b:∀w,stepG P mn (Go.Conc.G f cs) w=.go (Go.Conc.G f' cs') w #[]) (h:ν P Q mn x f' cs' H):ν P Q mn x f cs H:=
 .own a λw c=>⟨f',cs',w,#[],H,b w,.start c,h⟩
theorem Vy (a:b.mode=.run) (w:World):stepG P mn (Go.Conc.G (π b t k) cs) w=stepG.exec P mn true (π b t k) cs none w:=by
 obtain⟨fn,c,td,d,e,f,g⟩:=b;simp only at a;subst a;rfl
section moves
variable (X6:Seq x) (hb:b.mode=.run)
include X6 hb
theorem ν.to {a:List Item} (c:∀w,stepG.exec P mn true (π b t k) cs none w=.go (Go.Conc.G (π b t a) cs) w #[]) (h:ν P Q mn x (π b t a) cs H):ν P Q mn x (π b t k) cs H:=
 .still X6 (λw=>(Vy hb w).trans (c w)) h
theorem ν.skip (h:ν P Q mn x (π b t k) cs H):ν P Q mn x (π b t (.code .skip::k)) cs H:=.to X6 hb (λ_=>rfl) h
theorem ν.label {l:Nat} (h:ν P Q mn x (π b t k) cs H):ν P Q mn x (π b t (.code (.label l)::k)) cs H:=.to X6 hb (λ_=>rfl) h
theorem ν.inBlock {l:Nat} (h:ν P Q mn x (π b t k) cs H):ν P Q mn x (π b t (.inBlock l::k)) cs H:=.to X6 hb (λ_=>rfl) h
theorem ν.seq {a c:Code} (h:ν P Q mn x (π b t (.code a::.code c::k)) cs H):ν P Q mn x (π b t (.code (.seq a c)::k)) cs H:=.to X6 hb (λ_=>rfl) h
theorem ν.block {l:Nat} {c:Code} (h:ν P Q mn x (π b t (.code c::.inBlock l::k)) cs H):ν P Q mn x (π b t (.code (.block l c)::k)) cs H:=.to X6 hb (λ_=>rfl) h
theorem ν.loop {c:Code} (h:ν P Q mn x (π b t (.code c::.inLoop c::k)) cs H):ν P Q mn x (π b t (.code (.loop c)::k)) cs H:=.to X6 hb (λ_=>rfl) h
theorem ν.inLoop {c:Code} (h:ν P Q mn x (π b t (.code c::.inLoop c::k)) cs H):ν P Q mn x (π b t (.inLoop c::k)) cs H:=.to X6 hb (λ_=>rfl) h
theorem ν.scope {c:Code} (h:ν P Q mn x (π b t (.code c::.inScope c::k)) cs H):ν P Q mn x (π b t (.code (.scope c)::k)) cs H:=.to X6 hb (λ_=>rfl) h
theorem ν.region {id:Nat} {ops:Array Oper} (h:ν P Q mn x (π b t (.inRegion ops (List.range ops.size)::k)) cs H):ν P Q mn x (π b t (.code (.region id ops false)::k)) cs H:=.to X6 hb (λ_=>rfl) h
theorem ν.ZC {ops:Array Oper} (h:ν P Q mn x (π b t k) cs H):ν P Q mn x (π b t (.inRegion ops []::k)) cs H:=.to X6 hb (λ_=>rfl) h
theorem ν.cond {c:Operand} {a e:Code} {v:Bool} (f:(π b t k).eval c=.bool v) (h:ν P Q mn x (π b t (.code (if v then a else e)::k)) cs H):ν P Q mn x (π b t (.code (.cond c a e)::k)) cs H:=by
 refine .to X6 hb (λw=>?_) h;have d:(π b t (.code (.cond c a e)::k)).eval c=.bool v:=f;unfold stepG.exec;simp only[π] at d ⊢;rw[d];rfl
theorem ν.exit {l:Nat} {a:List Item} (c:exitTo l k=some a) (h:ν P Q mn x (π b t a) cs H):ν P Q mn x (π b t (.code (.exit l)::k)) cs H:=by
 refine .to X6 hb (λw=>?_) h;unfold stepG.exec;simp only[π,c,Option.elim];rfl
theorem ν.draw {id:Nat} {ops:Array Oper} (h:∀n,ν P Q mn x (π b t (.inRegion ops (Region.schedule (P.follows .mixedOrders) ops n)::k)) cs H):ν P Q mn x (π b t (.code (.region id ops true)::k)) cs H:=by
 refine .own X6 λw a=>⟨π b t (.inRegion ops (Region.schedule (P.follows .mixedOrders) ops (w.tape w.drawn (.order b.fn id)))::k),cs,{w with drawn:=w.drawn+1},#[],H,?_,(Yo.start a).draw _,h _⟩;rw[Vy hb];rfl
theorem ν.ret (a:b.roundOf=none) (h:ν P Q mn x {π b t (.code .ret::k) with mode:=.returning} cs H):ν P Q mn x (π b t (.code .ret::k)) cs H:=by
 refine .still X6 (λw=>?_) h;rw[Vy hb];unfold stepG.exec;simp only[π,a];rfl
theorem ν.Qm (a:b.roundOf=none) (h:ν P Q mn x {π b t [] with mode:=.returning} cs H):ν P Q mn x (π b t []) cs H:=by
 refine .still X6 (λw=>?_) h;rw[Vy hb];unfold stepG.exec;simp only[π,a];rfl
end moves
end
end Go.TL
namespace Go.TL
open Go.Conc
open Go.ConcM (OsLater)
open Go.ConcN (sumTo upd sumTo_upd upd_ne upd_same sumTo_congr le_sumTo)
variable [ZN]
def ZM (t:Array Value):Operand->Value
 | .tmp n=>t.getD n undef
 | .const v=>v
 | .global g=>.pointer (some ⟨g,0,none⟩)
 | .func f=>.func (.func f) #[] #[]
theorem Mf (b:Frame) (t:Array Value) (k:List Item):(π b t k).eval=ZM t:=by funext o;cases o<;>rfl
def put (o:Oper) (t:Array Value) (v:Value):Array Value:=match o.dst with|some d=>t.setIfInBounds d v|none=>t
def Ft (P:Program) (a:Value->Prop) (mn:Bool) (x:W6) (b:Frame) (t:Array Value) (ops:Array Oper) (i:Nat) (o:Oper) (rest:List Nat) (k:List Item) (cs:List Frame):Next->Ψ->Prop
 | .value v,H=>ν P a mn x (π b (put o t v) (.inRegion ops rest::k)) cs H
 | .skip,H=>ν P a mn x (π b (put o t undef) (.inRegion ops rest::k)) cs H
 | .enter f args,H=>ν P a mn x (Frame.enter P f args .normal) (π b t (.inRegion ops (i::rest)::k)::cs) H
 | .round l f c e g,H=>ν P a mn x (Frame.round l f c e g .normal) (π b t (.inRegion ops (i::rest)::k)::cs) H
 | .defer d,H=>ν P a mn x (π {b with defers:=d::b.defers} (put o t undef) (.inRegion ops rest::k)) cs H
 | .recover,H=>b.roundOf=none/\match tryRecover (π b t (.inRegion ops (i::rest)::k)) cs with
  | some (v,cs')=>ν P a mn x (π b (put o t v) (.inRegion ops rest::k)) cs' H
  | none=>ν P a mn x (π b (put o t .nilIface) (.inRegion ops rest::k)) cs H
 | _,_=>False
section
variable {P:Program} {Q:Value->Prop} {mn:Bool} {x:W6} {cs:List Frame} {H:Ψ} {b f:Frame} {t:Array Value} {k:List Item}
theorem Yo.sub {G0 G:Ψ} {w0 w:World} {es es':Array Event} (h:Yo G0 w0 G w es) (a:∀e∈es',e∈es):Yo G0 w0 G w es':=⟨h.fit,h.keeps,h.UQ,λe b=>h.Pr e (a e b)⟩
theorem V6 {b:Frame} {ops:Array Oper} {i:Nat} {o:Oper} {rest:List Nat} {v:Value} (a:ops[i]?=some o):(π b t (.inRegion ops (i::rest)::k)).finish v=π b (put o t v) (.inRegion ops rest::k):=by
 simp only[Frame.finish,π,a,Option.bind,put];cases o.dst<;>rfl
theorem ν.unwanted (c:Seq x) (d:b.mode=.run) {ops:Array Oper} {i:Nat} {o:Oper} {rest:List Nat} (a:ops[i]?=some o) (e:Region.wanted o (yielded ops t)=false)
  (h:ν P Q mn x (π b (put o t undef) (.inRegion ops rest::k)) cs H):ν P Q mn x (π b t (.inRegion ops (i::rest)::k)) cs H:=by
 refine .still c (f':=π b (put o t undef) (.inRegion ops rest::k)) (cs':=cs) (λw=>?_) h;rw[Vy d,<-V6 a];have f:((ops[i]?).map (Region.wanted · (yielded ops t))).getD false=false:=by simp[a,e]
 unfold stepG.exec;simp only[π,f];rfl
theorem ν.op (D:Seq x) (C:b.mode=.run) {ops:Array Oper} {i:Nat} {o:Oper} {rest:List Nat} (y:ops[i]?=some o) (E:Region.wanted o (yielded ops t)=true) (hd:b.roundOf=none\/∀c,o.op≠.defer c)
  (h:Ω P (execOp (ZM t) o) H (Ft P Q mn x b t ops i o rest k cs) (λv H'=>ν P Q mn x {π b t (.inRegion ops (i::rest)::k) with mode:=.panicking [{v,recovered:=false}]} cs H')) :
  ν P Q mn x (π b t (.inRegion ops (i::rest)::k)) cs H:=by
 refine .own D λw F=>?_;obtain⟨H',w',es',n,I⟩:=Ω.sound (P:=P) (G0:=H) (w0:=w) (execOp (ZM t) o) h (Yo.start F);have J:stepG P mn (Go.Conc.G (π b t (.inRegion ops (i::rest)::k)) cs) w=stepG.apply P true (π b t (.inRegion ops (i::rest)::k)) cs none (execOp (ZM t) o) w:=by
  rw[Vy C];have K:((ops[i]?).map (Region.wanted · (yielded ops t))).getD false=true:=by simp[y,E]
  have A:(π b t (.inRegion ops (i::rest)::k)).oper?=some o:=by simp[Frame.oper?,π,y]
  unfold stepG.exec;simp only[π,K,if_true];simp only[π] at A;unfold stepG.oper;simp only[A];rcases hd with hd|hd
  .simp only[hd];rw[<-Mf b t (.inRegion ops (i::rest)::k)];rfl
  .cases O:b.roundOf with
   | none=>rw[<-Mf b t (.inRegion ops (i::rest)::k)];rfl
   | some l=>
    cases L:o.op<;>first|exact absurd L (hd _)|(simp only;rw[<-Mf b t (.inRegion ops (i::rest)::k)];rfl)
 rw[J];generalize g:(if(π b t (.inRegion ops (i::rest)::k)).kind==.early then #[] else es')=j;have p:∀e∈seen P b.fn j,e∈es':=λe A=>by
  have:=mem_seen A;rw[<-g] at this;split at this
  .simp at this
  .exact this
 have B:∀v,(π b t (.inRegion ops (i::rest)::k)).finish v=π b (put o t v) (.inRegion ops rest::k):=λv=>V6 y;rcases I with⟨M,m,a⟩|⟨v,m,N⟩
 .cases M<;>first|exact a.elim|skip
  case value v=>exact⟨_,_,w',seen P b.fn j,H',by unfold stepG.apply;simp only[m,if_true];rw[g,B];simp[GStep.after,Go.Conc.G,π],n.sub p,a⟩
  case skip=>exact⟨_,_,w',seen P b.fn j,H',by unfold stepG.apply;simp only[m,if_true];rw[g,B];simp[GStep.after,Go.Conc.G,π],n.sub p,a⟩
  case enter f args=>exact⟨_,_,w',seen P b.fn j,H',by unfold stepG.apply;simp only[m,if_true];rw[g];simp[GStep.after,Go.Conc.G,π],n.sub p,a⟩
  case round l f R S T=>exact⟨_,_,w',seen P b.fn j,H',by unfold stepG.apply;simp only[m,if_true];rw[g];simp[GStep.after,Go.Conc.G,π],n.sub p,a⟩
  case defer d=>exact⟨_,_,w',seen P b.fn j,H',by unfold stepG.apply;simp only[m,if_true];rw[g];simp[GStep.after,Go.Conc.G,Frame.finish,π,put,y];cases o.dst<;>rfl,n.sub p,a⟩
  case recover=>
   obtain⟨u,a⟩:=a;cases s:tryRecover (π b t (.inRegion ops (i::rest)::k)) cs with
   | none=>
    rw[s] at a;exact⟨_,_,w',seen P b.fn j,H',by unfold stepG.apply;simp only[m,if_true];rw[g,B];simp only[π] at s ⊢;simp only[u];rw[u] at s;rw[s];simp[GStep.after,Go.Conc.G],n.sub p,a⟩
   | some r=>
    obtain⟨v,cs'⟩:=r;rw[s] at a;exact⟨_,_,w',seen P b.fn j,H',by unfold stepG.apply;simp only[m,if_true];rw[g];simp only[π] at s ⊢;simp only[u];rw[u] at s;rw[s];simp[GStep.after,Go.Conc.G];(have e:=B v;simp only[π,u] at e;exact e),n.sub p,a⟩
 .exact⟨_,_,w',seen P b.fn j,H',by unfold stepG.apply;simp only[m,if_true];rw[g];simp[GStep.after,Go.Conc.G,Frame.raise,π,C],n.sub p,N⟩
end
section
variable {P:Program} {Q:Value->Prop} {mn:Bool} {x:W6} {cs rest:List Frame} {H:Ψ} {b f c:Frame} {t:Array Value} {k:List Item} {fn:Func}
theorem NC (a:f.mode≠.run) (w:World):stepG P mn (Go.Conc.G f cs) w=unwind P mn f cs none w:=by
 obtain⟨c,d,e,g,b,h,i⟩:=f;cases b with
 | run=>exact absurd rfl a
 | returning=>rfl
 | panicking j=>rfl
theorem ν.back (g:Seq x) (b:f.mode=.returning) (hd:f.defers=[]) (a:f.kind=.normal\/f.kind=.wrapped) (i:P.funcs[f.fn]?=some fn)
  (h:Ω P (results fn f.tmps) H (λv H'=>ν P Q mn x (c.finish v) rest H') (λ_ _=>False)):ν P Q mn x f (c::rest) H:=by
 refine .own g λw j=>?_;obtain⟨H',w',es',k,l⟩:=Ω.sound (P:=P) (G0:=H) (w0:=w) (results fn f.tmps) h (Yo.start j);rcases l with⟨v,d,m⟩|⟨v,d,n⟩
 .refine⟨_,_,w',seen P f.fn es',H',?_,k.sub λe o=>mem_seen o,m⟩;rw[NC (by rw[b];simp)];unfold unwind;simp only[hd,b,i,d];unfold doReturn;rcases a with a|a<;>simp[a,GStep.after,Go.Conc.G]
 .exact n.elim
theorem ν.H4 (d:Seq x) (a:f.mode=.returning) (hd:f.defers=[]) (g:f.kind=.deferred) (i:P.funcs[f.fn]?=some fn)
  (h:Ω P (results fn f.tmps) H (λ_ H'=>ν P Q mn x (match c.mode with
   | .panicking ({recovered:=true,..}::j)=>(match j.dropWhile (!·.goexit) with|[]=>{c with mode:=.returning}|r=>{c with mode:=.panicking r})
   | _=>c) rest H') (λ_ _=>False)):ν P Q mn x f (c::rest) H:=by
 refine .own d λw k=>?_;obtain⟨H',w',es',l,m⟩:=Ω.sound (P:=P) (G0:=H) (w0:=w) (results fn f.tmps) h (Yo.start k);rcases m with⟨v,b,n⟩|⟨v,b,o⟩
 .refine⟨_,_,w',seen P f.fn es',H',?_,l.sub λe p=>mem_seen p,n⟩;rw[NC (by rw[a];simp)];unfold unwind;simp only[hd,a,i,b];unfold doReturn;simp only[g,GStep.after];rw[OT];rfl
 .exact o.elim
theorem ν.deferred (m:Seq x) (n:f.mode≠.run) {d:Deferred} {ds:List Deferred} (hd:f.defers=d::ds) (k:∀r,d.target≠.collected r) (e:d.target≠.nil) {g:FuncId} {args:Array Value}
  (l:∀w,(invoke d.target d.args).runT P w #[]=(.ok (.enter g args) w,#[])) (h:ν P Q mn x (Frame.enter P g args .deferred) ({f with defers:=ds}::cs) H):ν P Q mn x f cs H:=by
 refine .still m (λw=>?_) h;rw[NC n];unfold unwind;obtain⟨i,as9⟩:=d;simp only at k e l;have j:callDeferred P {f with defers:=ds} cs none ⟨i,as9⟩ w=.go (Go.Conc.G (Frame.enter P g args .deferred) ({f with defers:=ds}::cs)) w #[]:=by
  unfold callDeferred;simp only[l w];cases i<;>first|exact absurd rfl e|(simp[GStep.after,seen,Go.Conc.G])
 cases i with
 | collected r=>exact absurd rfl (k r)
 | fn a b=>simp only[hd];exact j
 | nil=>exact absurd rfl e
 | builtin a b c d=>simp only[hd];exact j
 | coroexit c=>simp only[hd];exact j
theorem ν.raised (d:Seq x) {a:List PanicEntry} (b:f.mode=.panicking a) (hd:f.defers=[]) (e:f.catches P=false) (h:ν P Q mn x (c.raise a) rest H):ν P Q mn x f (c::rest) H:=by
 refine .still d (λw=>?_) h;rw[NC (by rw[b];simp)];unfold unwind;simp only[hd,b,e];rfl
theorem ν.done (d:Seq x) (g:∀y,x y->∀s,Xj (y.tok s)) (h:∀y,x y->y.deaf=0) (c:f.mode=.returning) (hd:f.defers=[]) (i:f.kind=.normal) (j:P.funcs[f.fn]?=some fn) (k:P.inits.idxOf? f.fn=none) {v:Value}
  (a:results fn f.tmps=pure v) (l:Q v):ν P Q true x f [] H:=by
 intro y b;refine Goes.stop (λa=>by rw[show({y with G:=H}:ZZ).rel=y.rel from rfl,d.rel y b] at a;cases a) (.inl ⟨rfl,⟨rfl,rfl⟩,g y b,h y b,λw n=>⟨v,#[],?_,λe m=>by simp at m,l⟩⟩);rw[NC (by rw[c];simp)];unfold unwind;simp only[hd,c,j,a];have:(pure v:Sem Value).runT P w #[]=(.ok v w,#[]):=rfl;simp only[this];unfold doReturn;simp[i,GStep.after,seen,k]
end
end Go.TL
namespace Go.TL
open Go.Conc
inductive I where
 | z (v:Value)
 | ω (cells:List I)
 | sl (ex:Bool) (k:Nat) (l:List I)
 | Z' (l:List I)
 | ZV (l:List I)
 | Ο (id n i j:Nat)
 | ms (id n i len:Nat)
 | fn (f:Fn) (first captured:List I)
 | Xo (t:TypeId) (a:I)
 | mp (id:Nat)
 | it (id:Nat)
 | Zk
 deriving Inhabited
abbrev ξ:=List I
def I.cells:I->ξ
 | .Z' l=>l
 | a=>[a]
inductive Row where
 | cells (t:TypeId) (k:Nat) (l:ξ)
 | map (es:List (I×I))
 | iter (m:Nat) (left:List (I×I)) (a:Option (I×I))
 | dead
 deriving Inhabited
abbrev Ρ:=List Row
def Row.WQ (r:Row) (n:Nat):Prop:=match r with|.cells _ _ l=>n<l.length|_=>True
abbrev Z8:=List (Option (Nat×Nat))
abbrev ο:=Nat->Nat->Option Value
inductive ς (S:ο) (B:Z8) (σ:Ρ):I->Value->Prop where
 | z (v:Value):ς S B σ (.z v) v
 | ω {cells:ξ} (b o:Nat) (w:Nat->Value):(∀(j:Nat) (a:I),cells[j]?=some a->S b (o+j)=some (w j))->(∀(j:Nat) (a:I),cells[j]?=some a->ς S B σ a (w j))->ς S B σ (.ω cells) (.pointer (some ⟨b,o,none⟩))
 | Wj {ex:Bool} {k:Nat} (base:Option Addr) (cap:Nat):(ex=true->cap=0)->ς S B σ (.sl ex k []) (.slice base 0 cap)
 | sl {ex:Bool} {k:Nat} {l:ξ} (b o cap:Nat) (w:Nat->Nat->Value):(ex=true->cap=l.length)->l.length<=cap->(∀(i:Nat) (e:I),l[i]?=some e->e.cells.length=k)->
   (∀(i:Nat) (e:I),l[i]?=some e->∀(j:Nat) (c:I),e.cells[j]?=some c->S b (o+i*k+j)=some (w i j))->(∀(i:Nat) (e:I),l[i]?=some e->∀(j:Nat) (c:I),e.cells[j]?=some c->ς S B σ c (w i j))->ς S B σ (.sl ex k l) (.slice (some ⟨b,o,none⟩) l.length cap)
 | Z' {l:ξ} (vs:Array Value):l.length=vs.size->(∀(i:Nat) (a:I) (v:Value),l[i]?=some a->vs[i]?=some v->ς S B σ a v)->ς S B σ (.Z' l) (.agg vs)
 | ZV {l:ξ} (vs:Array Value):l.length=vs.size->(∀(i:Nat) (a:I) (v:Value),l[i]?=some a->vs[i]?=some v->ς S B σ a v)->ς S B σ (.ZV l) (.tuple vs)
 | Ο {id n i j k:Nat} {t:TypeId} {l:ξ} {b N:Nat}:σ[id]?=some (.cells t k l)->l.length=n->B[id]?=some (some (b,N))->ς S B σ (.Ο id n i j) (.pointer (some ⟨b,i*k+j,none⟩))
 | Vi {id n i j:Nat} {r:Row} (v:Value):σ[id]?=some r->r.WQ n->ς S B σ (.Ο id n i j) v
 | ms {id n i len:Nat} {t:TypeId} {k:Nat} {l:ξ} {bo:Option (Nat×Nat)} {base:Option Addr} (cap:Nat):σ[id]?=some (.cells t k l)->l.length=n->B[id]?=some bo->i+len<=n->len<=cap->
   (cap=0\/∃b N,bo=some (b,N)/\base=some ⟨b,i*k,none⟩/\(i+cap)*k<=N)->ς S B σ (.ms id n i len) (.slice base len cap)
 | Vx {id n i len:Nat} {r:Row} (v:Value):σ[id]?=some r->r.WQ n->ς S B σ (.ms id n i len) v
 | fn {f:Fn} {d cs:ξ} (vs g:Array Value):d.length=vs.size->cs.length=g.size->(∀(i:Nat) (a:I) (v:Value),d[i]?=some a->vs[i]?=some v->ς S B σ a v)->(∀(i:Nat) (a:I) (v:Value),cs[i]?=some a->g[i]?=some v->ς S B σ a v)->ς S B σ (.fn f d cs) (.func f vs g)
 | Xo {t:TypeId} {a:I} (v:Value):ς S B σ a v->ς S B σ (.Xo t a) (.iface t v)
 | mp {id:Nat} {es:List (I×I)} {b N:Nat}:σ[id]?=some (.map es)->B[id]?=some (some (b,N))->ς S B σ (.mp id) (.map (some b))
 | Uo {id:Nat} (v:Value):σ[id]?=some .dead->ς S B σ (.mp id) v
 | it {id m:Nat} {left:List (I×I)} {h:Option (I×I)} {b N:Nat}:σ[id]?=some (.iter m left h)->B[id]?=some (some (b,N))->ς S B σ (.it id) (.pointer (some ⟨b,0,none⟩))
 | Td {id:Nat} (v:Value):σ[id]?=some .dead->ς S B σ (.it id) v
 | Zk (v:Value):ς S B σ .Zk v
def Row.to (r r':Row) (b a:Option (Option (Nat×Nat))):Prop:=
 match r with
 | .cells t k l=>(∃c,r'=.cells t k c/\c.length=l.length/\a=b)\/∀n,n<=l.length->r'.WQ n
 | .map _=>(∃es',r'=.map es'/\a=b)\/r'=.dead
 | .iter m _ _=>(∃d e,r'=.iter m d e/\a=b)\/r'=.dead
 | .dead=>r'=.dead
structure Zw (S a:ο) (B B':Z8) (σ σ':Ρ):Prop where
 YL:∀b o v,S b o=some v->a b o=some v
 rows:∀(id:Nat) (r:Row),σ[id]?=some r->∃r':Row,σ'[id]?=some r'/\r.to r' B[id]? B'[id]?
theorem Row.Ql (r:Row) (b:Option (Option (Nat×Nat))):r.to r b b:=by
 cases r with
 | cells t k l=>exact .inl ⟨l,rfl,rfl,rfl⟩
 | map es=>exact .inl ⟨es,rfl,rfl⟩
 | iter m l c=>exact .inl ⟨l,c,rfl,rfl⟩
 | dead=>rfl
theorem Zw.refl (S:ο) (B:Z8) (σ:Ρ):Zw S S B B σ σ:=⟨λ_ _ _ h=>h,λ_ r h=>⟨r,h,r.Ql _⟩⟩
theorem Row.H3 {r r':Row} {b d:Option (Option (Nat×Nat))} {n:Nat} (h:r.to r' b d) (a:r.WQ n):r'.WQ n:=by
 cases r with
 | cells t k l=>
  rcases h with⟨e,rfl,f,_⟩|h
  .simp only[Row.WQ] at a ⊢;omega
  .exact h n (RP a)
 | map es=>rcases h with⟨es',rfl,_⟩|rfl<;>trivial
 | iter m l c=>rcases h with⟨e,c',rfl,_⟩|rfl<;>trivial
 | dead=>cases h;trivial
theorem Row.Av {r r' a:Row} {b d f:Option (Option (Nat×Nat))} (h:r.to r' b d) (k:r'.to a d f):r.to a b f:=by
 cases r with
 | cells t e l=>
  rcases h with⟨i,rfl,j,rfl⟩|h
  .rcases k with⟨o,rfl,p,rfl⟩|k
   .exact .inl ⟨o,rfl,p.trans j,rfl⟩
   .exact .inr λn g=>k n U
  .exact .inr λn g=>Row.H3 k (h n g)
 | map es=>
  rcases h with⟨es',rfl,rfl⟩|rfl
  .exact k
  .cases k;exact .inr rfl
 | iter m l c=>
  rcases h with⟨i,c',rfl,rfl⟩|rfl
  .exact k
  .cases k;exact .inr rfl
 | dead=>cases h;exact k
theorem Zw.trans {S a c:ο} {B B' d:Z8} {σ σ' e:Ρ} (h:Zw S a B B' σ σ') (k:Zw a c B' d σ' e):Zw S c B d σ e:=
 ⟨λb o v x=>k.YL b o v (h.YL b o v x),λid r f=>by
  obtain⟨r',g,i⟩:=h.rows id r f;obtain⟨j,l,m⟩:=k.rows id r' g;exact⟨j,l,Row.Av i m⟩⟩
theorem ς.later {S t:ο} {B B':Z8} {σ σ':Ρ} (k:Zw S t B B' σ σ') {a:I} {v:Value} (h:ς S B σ a v):ς t B' σ' a v:=by
 induction h with
 | z v=>exact .z v
 | ω b o w d _ l=>exact .ω b o w (λj a p=>k.YL _ _ _ (d j a p)) l
 | Wj base cap h=>exact .Wj base cap h
 | sl b o cap w d g n r _ l=>exact .sl b o cap w d g n (λi e hi j c p=>k.YL _ _ _ (r i e hi j c p)) l
 | Z' vs d _ l=>exact .Z' vs d l
 | ZV vs d _ l=>exact .ZV vs d l
 | Ο d g n=>
  obtain⟨r',f,Φ⟩:=k.rows _ _ d;rcases Φ with⟨u,rfl,s,m⟩|Φ
  .exact .Ο f (s.trans g) (by rw[m];exact n)
  .exact .Vi _ f (Φ _ U)
 | Vi v d g=>
  obtain⟨r',f,Φ⟩:=k.rows _ _ d;exact .Vi _ f (Row.H3 Φ g)
 | ms cap d g n r x y=>
  obtain⟨r',f,Φ⟩:=k.rows _ _ d;rcases Φ with⟨u,rfl,s,m⟩|Φ
  .exact .ms cap f (s.trans g) (by rw[m];exact n) r x y
  .exact .Vx _ f (Φ _ U)
 | Vx v d g=>
  obtain⟨r',f,Φ⟩:=k.rows _ _ d;exact .Vx _ f (Row.H3 Φ g)
 | fn vs A d g _ _ C D=>exact .fn vs A d g C D
 | Xo v _ l=>exact .Xo v l
 | mp d g=>
  obtain⟨r',f,Φ⟩:=k.rows _ _ d;rcases Φ with⟨es',rfl,m⟩|rfl
  .exact .mp f (by rw[m];exact g)
  .exact .Uo _ f
 | Uo v d=>
  obtain⟨r',f,Φ⟩:=k.rows _ _ d;cases Φ;exact .Uo _ f
 | it d g=>
  obtain⟨r',f,Φ⟩:=k.rows _ _ d;rcases Φ with⟨u,c',rfl,m⟩|rfl
  .exact .it f (by rw[m];exact g)
  .exact .Td _ f
 | Td v d=>
  obtain⟨r',f,Φ⟩:=k.rows _ _ d;cases Φ;exact .Td _ f
 | Zk v=>exact .Zk v
end Go.TL
