import Derived.Test.YtlabjopijpkiaaaGreatLAA
set_option maxHeartbeats 16000000
set_option maxRecDepth 20000
set_option linter.unusedSectionVars false
set_option linter.unusedSimpArgs false
set_option linter.unusedVariables false
namespace Go.TL
open Go.Conc
open Go.ConcM (OsLater)
open Go.ConcN (sumTo upd sumTo_upd upd_ne upd_same sumTo_congr le_sumTo)
theorem EV:∀(q:Nat) (l:ο),l.Nodup->(∀x∈l,x<q)->l.length<=q:=by
 intro q
 induction q with
 | zero=>intro l _ h;cases l with
  | nil=>simp
  | cons a l=>exact absurd (h a Ω) J
 | succ q e=>
  intro l b h;have:=e (l.erase q) (b.erase q) (λx f=>by
   have c:=(b.mem_erase_iff).1 f
   have:=h x c.2
   have:=c.1;omega)
  by_cases d:q∈l
  .have:=List.length_erase_of_mem d;omega
  .rw[List.erase_of_not_mem d] at this;omega
theorem zS (l:ο) (q:Nat) (b:l.Nodup) (h:∀x∈l,x<q) (e:l.length=q):∀k,k<q->k∈l:=λk c=>by
 apply Tb;intro d;have:=EV q (k::l) (Rb.2 ⟨d,b⟩) (λx a=>by
  rcases Y9.1 a with rfl|a
  .exact c
  .exact h x a)
 simp at this;omega
section
variable {n:Nat} {tok:Nat->Nat->Tok} {spec:Nat->Nat->Option Spec} {view:Nat->Nat->Option (Nat×Z')} {rel:Nat->Bool} {O:Nat->Option Z'} {Zl home:Nat->Nat} {s i:Nat} {o:Z'}
theorem XP.fin (h:XP n tok spec view rel O Zl home) (r:O s=some o) {j q p:Nat} {e:Qg} (b:tok j s=.par q p e) (u:VL (.par q p e)=1):p=0/\o.cnt=0/\∀a k m g,tok a s=.ch k m g->g=.gone:=by
 have f:j<n:=h.lt (s:=s) (by rw[b];simp)
 have c:=(h.Z0 s o r).2
 have v:ZQ n (λa=>tok a s) VL=1:=by
  rw[RH (φ:=VL) (λt b=>by cases t<;>simp_all [XH,VL]) c.SG f (by rw[b];rfl),b,u]
 have w:ZQ n (λa=>tok a s) We=p:=by
  rw[RH (φ:=We) (λt b=>by cases t<;>simp_all [XH,We]) c.SG f (by rw[b];rfl),b];rfl
 obtain⟨f1,f2,f3,f4,f5,f6⟩:=c.Fo v;refine⟨J,f4,λa k m g i=>?_⟩;have d:a<n:=h.lt (s:=s) (by rw[i];simp);have x:=c.HQ;have l1:=Xi (λa=>tok a s) Vo d;have l2:=Xi (λa=>tok a s) UR d;have l:=Xi (λa=>tok a s) UQ d;simp only[i,Vo,UR,UQ] at l1 l2 l;cases g with
 | gone=>rfl
 | work=>simp only[Qf] at l1;omega
 | rel=>simp only[Qf] at l1;omega
 | l2=>simp only[OC] at l2;omega
 | RK=>simp only[OB] at l;omega
theorem XP.EU (h:XP n tok spec view rel O Zl home) (a:O s=some o) {k:Nat} {m:Ua} {g:Pr} (b:tok i s=.ch k m g) (c:g≠.gone):∀j q p,tok j s≠.par q p .ZO:=λj q p d=>
 c ((h.fin a d U).2.2 i k m g b)
theorem XP.only (h:XP n tok spec view rel O Zl home) (c:O s=some o) (b:VN (tok i s)=1):∀j k L g,tok j s=.ch k (.Yw L) g->j=i:=λj k L g d=>by
 apply Tb;intro f;have l:i<n:=h.lt (s:=s) (by intro e;rw[e] at b;cases b);have m:j<n:=h.lt (s:=s) (by rw[d];simp);have p:=WN (λa=>tok a s) .nil VN l;have Ρ:=Xi (upd (λa=>tok a s) i .nil) VN m;rw[upd_ne _ _ f] at Ρ;have r:VN .nil=0:=rfl;have t:VN (tok j s)=1:=by rw[d];rfl
 simp only[b,r] at p;simp only[t] at Ρ;have:=(h.Z0 s o c).1.Fq;have:=(h.Z0 s o c).1.f1;omega
def Q0 (tok:Nat->Nat->Tok) (s:Nat):Nat->ο
 | 0=>[]
 | n+1=>match tok n s with
  | .ch k _ _=>k::Q0 tok s n
  | _=>Q0 tok s n
theorem LZ (tok:Nat->Nat->Tok) (s:Nat):∀n k,k∈Q0 tok s n↔∃j m g,j<n/\tok j s=.ch k m g
 | 0,k=>by simp[Q0]
 | n+1,k=>by
  have c:=LZ tok s n k
  have d:(∃j m g,j<n/\tok j s=.ch k m g)->∃j m g,j<n+1/\tok j s=.ch k m g:=λ⟨j,m,g,f,a⟩=>⟨j,m,g,J,a⟩
  have split:(∃j m g,j<n+1/\tok j s=.ch k m g)->(∃j m g,j<n/\tok j s=.ch k m g)\/∃m g,tok n s=.ch k m g:=λ⟨j,m,g,f,a⟩=>by
   by_cases e:j=n
   .subst e;exact .inr ⟨m,g,a⟩
   .exact .inl ⟨j,m,g,J,a⟩
  unfold Q0;cases b:tok n s with
  | nil=>exact c.trans ⟨d,λh=>(split h).elim id λ⟨m,g,e⟩=>by rw[b] at e;cases e⟩
  | par=>exact c.trans ⟨d,λh=>(split h).elim id λ⟨m,g,e⟩=>by rw[b] at e;cases e⟩
  | ch l i g'=>
   rw[Y9,c];constructor
   .rintro(rfl|h)
    .exact⟨n,i,g',J,b⟩
    .exact d h
   .intro h;rcases split h with h|⟨m,g,e⟩
    .exact .inr h
    .rw[b] at e;cases e;exact .inl U
theorem ET (tok:Nat->Nat->Tok) (s:Nat):∀n,(Q0 tok s n).length=ZQ n (λa=>tok a s) T8
 | 0=>rfl
 | n+1=>by
  have b:=ET tok s n;rw[Oz];unfold Q0;cases c:tok n s<;>simp[T8,b]
theorem ES (c:∀j d k m g a g',tok j s=.ch k m g->tok d s=.ch k a g'->j=d):∀n,(Q0 tok s n).Nodup
 | 0=>List.nodup_nil
 | n+1=>by
  have b:=ES c n;unfold Q0;cases e:tok n s with
  | nil=>exact b
  | par=>exact b
  | ch k m g=>
   refine Rb.2 ⟨λh=>?_,b⟩;obtain⟨j,a,g',i,f⟩:=(LZ tok s n k).1 h;have:=c j n k a g' m g f e;omega
theorem XP.full (h:XP n tok spec view rel O Zl home) (f:O s=some o) {q:Nat} {d:Qg} (b:tok i s=.par q 0 d) (v:d=.SJ\/d=.w4) :
  o.R.Perm (List.range q)/\(o.ZK≠none->o.L.Perm (List.range q))/\∀a k m g,tok a s=.ch k m g->g=.gone:=by
 have u:i<n:=h.lt (s:=s) (by rw[b];simp)
 have w:VL (.par q 0 d)=1:=by rcases v with rfl|rfl<;>rfl
 obtain⟨_,_,p⟩:=h.fin f b w;have r:=(h.Z0 s o f).2;have K:ZQ n (λa=>tok a s) VM=q:=by
  rw[RH (φ:=VM) (λt b=>by cases t<;>simp_all [XH,VM]) r.SG u (by rw[b];rfl),b];rfl
 have M:ZQ n (λa=>tok a s) We=0:=by
  rw[RH (φ:=We) (λt b=>by cases t<;>simp_all [XH,We]) r.SG u (by rw[b];rfl),b];rfl
 have N:=r.Fp
 have x:=h.par i s q 0 d b;subst x;have y:=ES (tok:=tok) (s:=s) (λj A k m g B g' C D=>h.Ow s j A k m g B g' C D) n;have lt:∀k∈Q0 tok s n,k<q:=λk l=>by
  obtain⟨j,m,g,_,c⟩:=(LZ tok s n k).1 l;have:=h.Po s j k m g q 0 d c b;omega
 have full:=zS _ q y lt (by rw[ET];omega);obtain⟨E,F⟩:=h.Q4 s o f;obtain⟨H,I⟩:=h.R9 s o f;refine⟨(KR E Kz).2 λk=>?_,λJ=>(KR H Kz).2 λk=>?_,p⟩
 .rw[F,UT];constructor
  .rintro⟨j,m,g,c,_⟩;have:=h.Po s j k m g q 0 d c b;omega
  .intro l;obtain⟨j,m,g,_,c⟩:=(LZ tok s n k).1 (full k l);exact⟨j,m,g,c,by rw[p j k m g c];simp⟩
 .rw[I,UT];constructor
  .rintro⟨j,m,g,c,_⟩;have:=h.Po s j k m g q 0 d c b;omega
  .intro l;obtain⟨j,m,g,_,c⟩:=(LZ tok s n k).1 (full k l);refine⟨j,m,g,c,?_⟩;rcases h.R' j s k m g o f c (by rw[p j k m g c];simp) with rfl|⟨_,e⟩
   .trivial
   .exact absurd e J
end
section
variable {H H':YT->Τ} {Z4 Pm:Nat->Nat->Option (ζ×TypeId)} {tok Qd:Nat->Nat->Tok} {O O':Nat->Option Z'} {Zl:Nat->Nat} {deaf:Nat->Nat} {N Q3:Nat} {t:Trace} {Zw w w':World} {i:Nat} {y:MemOp} {b s:Nat} {o:Z'}
theorem ofEvents_one {fn:FuncId} {pos:String} {e:Event}:MemOp.ofEvents i fn pos #[e]=#[{g:=i,fn,pos,act:=.ofEvent e}]:=by rw[ofEvents_eq];simp
theorem Vx.word (h:Vx H Z4 tok O Zl deaf N t) (u:y.g=i) (n:y.act=.mark (.acquire ⟨b,0,none⟩)\/y.act=.mark (.releaseMerge ⟨b,0,none⟩)) (w:b<N) (A:TA O O') (hv:∀j b v,Pm j b=some v->Z4 j b=some v)
  (B:∀k,Ys (t++#[y]) (U9 Qd O' (t++#[y]) k) (H' k)):Vx H' Pm Qd O' Zl deaf N (t++#[y]):=by
 have nt:y.act.touch?=none:=by rcases n with e|e<;>rw[e]<;>rfl
 have p:∀k a,touchAt (t++#[y]) k=some a->touchAt t k=some a/\k<t.size:=λk a l=>by
  obtain⟨x,C,o⟩:=touch_of l;rcases getElem?_append_cases C with⟨D,E⟩|⟨_,r⟩
  .exact⟨by rw[touchAt_of E];exact o,D⟩
  .simp at r;subst r;rw[nt] at o;cases o
 refine⟨λF=>noRace_append (g:=i) (h.race F) (λm d=>by simp at d;subst d;exact u) (λk a _ m d c f _=>by simp at d;subst d;rw[nt] at f;cases f),λm d=>?_,λm d a=>?_,B,λj c v f k a l=>h.Sd j c v (hv j c v f) k a (p k a l).1,λs o' c I f k a l J=>?_,λj=>?_⟩
 .rcases Si.1 d with d|d
  .exact h.low m d
  .simp at d;subst d;rcases n with e|e<;>rw[e]<;>exact w
 .rcases Si.1 d with d|d
  .exact h.norel m d a
  .simp at d;subst d;rcases n with e|e<;>rw[e]<;>simp
 .obtain⟨K,L,M⟩:=A.1 s o' I;obtain⟨P,Q⟩:=p k a l;rcases h.cont s K c L (by rw[M];exact f) k a P J with x|⟨x,R⟩
  .exact .inl x
  .exact .inr ⟨x,by rw[g?_old Q];exact R⟩
 .rw[Deaf_push,<-h.hears j];rcases n with e|e<;>simp[deafStep,e]
theorem Vx.Nq (h:Vx H Z4 tok O Zl deaf N t) (k:YT) (nt:y.act.touch?=none) (d:TA O O') (e:∀i s,Qd i s≠.nil->tok i s≠.nil):Ys (t++#[y]) (U9 Qd O' (t++#[y]) k) (H k):=
 (h.perms k).others (λ_ f=>Kk d.1 e (HK _ f)) λg b a c=>by simp at b;subst b;rw[nt] at c;cases c
theorem Knows.marked {p:Nat} {c:MemOp} (e:t[p]?=some c) (k:c.act=.mark (.releaseMerge ⟨b,0,none⟩)) (l:t.heard p) (m:∀c∈t,∀a,c.act≠.mark (.release a)) (f:y.g=i) (n:y.act=.mark (.acquire ⟨b,0,none⟩)) (hd:Deaf t i=0):Knows (t++#[y]) i p:=by
 have h:(t++#[y])[t.size]?=some y:=Ω
 have o:(t++#[y]).heard t.size:=⟨i,by simp[Trace.g?,f],by rw[deaf_old (Z6 _)];exact hd⟩
 have d:=lt_size_of_getElem? e;refine⟨t.size,y,h,f,.inr (.single (.inr ⟨.marked (a:=⟨b,0,none⟩) d (.inr ?_) ?_ ?_,(heard_old d).2 l,o⟩))⟩
 .rw[act?_old d,act?_of e,k]
 .rw[act?_of h,n]
 .intro w x r j;rw[act?_old r] at j;obtain⟨s,u,v⟩:=S9.1 j;exact m s (mem_of_getElem? u) _ v
theorem Ys.S1 {b:Nat->Prop} {G:Τ} (h:Ys t b G) (nt:y.act.touch?=none) (e:∀k,b k->Knows (t++#[y]) i k):Ys (t++#[y]) (Knows (t++#[y]) i) G:=
 h.others e λf c a d=>by simp at c;subst c;rw[nt] at d;cases d
theorem Sub.empty (G:Τ):Sub Τ.empty G:=⟨λ_ _ _ _ h=>(by cases h),λ_ _ h=>(by cases h),λ_ _ h=>(by cases h)⟩
theorem Sub.both {A B e:Τ} (h:Sub A e) (k:Sub B e):Sub (join A B) e:=by
 refine⟨λb o v p c=>?_,λb x d=>?_,λb x hv=>?_⟩
 .simp only[join] at c;cases a:A.η b o with
  | none=>rw[a] at c;exact k.η b o v p c
  | some z=>rw[a] at c;cases c;exact h.η b o v p a
 .simp only[join] at d;cases a:A.row b with
  | none=>rw[a] at d;exact k.row b x d
  | some z=>rw[a] at d;cases d;exact h.row b _ a
 .simp only[join] at hv;cases a:A.obj b with
  | none=>rw[a] at hv;exact k.obj b x hv
  | some z=>rw[a] at hv;cases hv;exact h.obj b _ a
theorem Sub.zR {G H:Τ} (d:Fits G w) (e:Fits H w) (f:Apart G H):Sub H (join G H):=by
 refine⟨λb o v p c=>?_,λb x g=>?_,λb x hv=>?_⟩
 .simp only[join];cases a:G.η b o with
  | none=>exact⟨p,c,id⟩
  | some z=>
   obtain⟨j,h⟩:=z;have k:=d.η b o j h a;have Ρ:=e.η b o v p c;rw[k] at Ρ;cases Ρ;refine⟨h,U,λl=>?_⟩;subst l;exact absurd ⟨_,a⟩ (f.Q' b o ⟨_,c⟩)
 .simp only[join];cases a:G.row b with
  | none=>exact g
  | some z=>
   obtain⟨t1,m⟩:=z;obtain⟨t2,n⟩:=x;obtain⟨u,r,s⟩:=d.row b t1 m a;obtain⟨y,i,t⟩:=e.row b t2 n g;rw[r] at i;cases i;rw[<-s,<-t]
 .simp only[join];cases a:G.obj b with
  | none=>exact hv
  | some z=>exact absurd ⟨x,hv⟩ (f.obj b ⟨z,a⟩)
theorem HF (G:Τ):join G Τ.empty=G:=by
 obtain⟨a,b,c⟩:=G;simp only[join,Τ.empty];congr
 .funext x y;cases a x y<;>rfl
 .funext x;cases b x<;>rfl
 .funext x;cases c x<;>rfl
theorem Wq.Np (h:Wq H Z4 O Zw w) (hv:∀j b v,Pm j b=some v->Z4 j b=some v):Wq H Pm O Zw w:=⟨h.fit,λj b c t a=>h.TB j b c t (hv j b _ a),h.W7,h.keep⟩
theorem VK.Np (h:VK H Z4 O Q3) (hv:∀j b v,Pm j b=some v->Z4 j b=some v):VK H Pm O Q3:=by
 have g:∀j b,Z4 j b=none->Pm j b=none:=λj b e=>by
  cases i:Pm j b with
  | none=>rfl
  | some v=>rw[hv j b v i] at e;cases e
 exact⟨h.apart,h.high,h.SF,λj b v a=>let ⟨c,d,f⟩:=h.fresh j b v (hv j b v a);⟨c,d,λk l=>g k b (f k l)⟩,λs o b m a=>let ⟨c,d,f⟩:=h.Uz s o b m a;⟨c,d,λk=>g k b (f k)⟩,h.Uk,h.RG,h.XY⟩
theorem Ux {o':Z'} (a:O s=some o) {r:Nat} {q:Z'} (h:upd O s (some o') r=some q):(r=s/\q=o')\/(r≠s/\O r=some q):=by
 by_cases e:r=s
 .subst e;rw[upd_same] at h;cases h;exact .inl ⟨U,U⟩
 .rw[upd_ne _ _ e] at h;exact .inr ⟨e,h⟩
theorem Kf {a b:Tok} (c:tok i s=a) (d:∀q p,a≠.par q p .ZO) (f:∀q p,b≠.par q p .ZO) (j r q p:Nat):Zk tok i s b j r=.par q p .ZO↔tok j r=.par q p .ZO:=by
 by_cases e:j=i/\r=s
 .obtain⟨rfl,rfl⟩:=e;rw[Xs,c];exact⟨λx=>absurd x (f q p),λx=>absurd x (d q p)⟩
 .rw[Xy _ e]
theorem LY {a b:Tok} (c:tok i s=a) (d:a≠.nil) (j r:Nat) (h:Zk tok i s b j r≠.nil):tok j r≠.nil:=by
 by_cases e:j=i/\r=s
 .obtain⟨rfl,rfl⟩:=e;rw[c];exact d
 .rw[Xy _ e] at h;exact h
theorem LX {a b:Tok} (c:tok i s=a) (d:∀k m g,a=.ch k m g->∃k m g,b=.ch k m g) (j r k:Nat) (m:Ua) (g:Pr) (h:tok j r=.ch k m g):∃k m g,Zk tok i s b j r=.ch k m g:=by
 by_cases e:j=i/\r=s
 .obtain⟨rfl,rfl⟩:=e;rw[Xs];exact d k m g (c▸h)
 .rw[Xy _ e];exact⟨k,m,g,h⟩
end
section
variable {P:Program} {Q:Value->Prop} {Zw:World} {c c':YE} {gs:Array Goroutine} {w w':World} {t:Trace} {i:Nat} {g g':Goroutine} {es:Array Event}
variable {f:Bool×Goroutine×ZU->WV (Bool×Goroutine×ZU)}
theorem Inv.Ke (h:Inv P Q Zw c gs w t) (N:gs[i]?=some g) (S:Fa P (i==0) (Uy P Q f) g (c.x i)):VZ P Q Zw c gs w t i f:=by
 obtain⟨s,sp,m,k,g',ab,V,ad,ae,ay,af,ag,ah⟩:=S;have ai:i<gs.size:=Tz N;obtain⟨o,d,aj⟩:=h.Y4.Q5 i s sp ab;subst aj;have l:c.tok i s=.ch k .own .work:=ad;have hd:c.deaf i=0:=ae;have ak:c.rel i=false:=af;have al:=ag w (h.mem.fit (.inl i));have am:=h.Y4.EU d l Ω;have an:=h.XY.RE s o m d V am (λj W L g u=>by
  have:=h.Y4.only d (i:=i) (by rw[l];rfl) j W L g u;subst this;rw[l] at u;cases u)
 have ao:=ah o.L (c.H (.inr m)) an (h.hold.apart _ _ Ω) ⟨(h.Y4.R9 s o d).1,λS=>(by
  obtain⟨j,E,ap,C,Ρ⟩:=((h.Y4.R9 s o d).2 k).1 S;have:=h.Y4.Ow s j i k E ap _ _ C l;subst this;rw[l] at C;cases C;exact Ρ),w,h.mem.fit _,h.mem.fit _⟩
 let J:ZU:={c.x i with G:=join (c.H (.inl i)) (c.H (.inr m)),tok:=upd (c.tok i) s (.ch k (.Yw o.L) .work),view:=upd (c.view i) s none}
 let c':YE:={c with H:=Zt (Zt c.H (.inl i) (join (c.H (.inl i)) (c.H (.inr m)))) (.inr m) Τ.empty,tok:=Zk c.tok i s (.ch k (.Yw o.L) .work),view:=upd c.view i (upd (c.view i) s none),O:=upd c.O s (some o),T:=upd c.T i (f (i==0,g',J))}
 have X:=TA.upd (o':=o) d U
 have ZO:=Kf (b:=.ch k (.Yw o.L) .work) l Ω Ω
 have aq:=LY (b:=.ch k (.Yw o.L) .work) l Ω
 have F:X1 s o.toSpec m:=.inr V;refine VZ.go (c':=c') N al ?_ _ U;rw[ofEvents_one];have ar:c'.x i=J:=by
  have:(Sum.inl i:YT)≠.inr m:=Ω;simp[c',J,YE.x,upd_same,On,Zs _ _ this]
 refine h.laid (c':=c') N (h.mem.two (L2 (h.mem.fit _) (h.mem.fit _)) (Ov w) λr q B=>?_) ?_ ?_ (h.Y4.HP d l) ⟨λr q E B Y K Z=>?_,λr q B K=>?_⟩
  (h.X5.app ai (λaa A=>by simp at A;subst A;rfl) (λM=>by rw[ak] at M;cases M) (λs q p ⟨j,x⟩=>⟨j,(ZO j s q p).1 x⟩) (λj s q p x=>(ZO j s q p).1 x))
  (h.Wp.app h.Zp.low (λaa A b au=>by simp at A;subst A;cases au) (λj b v hv=>.inl ⟨v,hv⟩) (λr q B=>?_) (λj r W av g e=>LX l (λ_ _ _ _=>⟨_,_,_,U⟩) j r W av g e))
  ⟨g',?_,.inl U⟩ (λj u=>⟨?_,upd_ne _ _ u⟩) (.inr λj r q _ a b=>?_)
 .rcases Ux d B with⟨rfl,rfl⟩|⟨_,n⟩
  .exact h.mem.W7 _ _ d
  .exact h.mem.W7 _ _ n
 .exact h.hold.two Ω (Sub.refl _) (Sub.empty _) (Apart.Pn _) X λx M=>by
   rcases M with e|e
   .cases e;exact⟨s,o,d,F⟩
   .cases e
 .refine h.Zp.word (i:=i) U (.inl U) (h.low d F) X (λ_ _ _ x=>x) λa=>?_;by_cases Ρ:a=.inr m
  .subst Ρ;show Ys _ _ (Zt _ _ _ _);rw[Yj];exact Ys.empty
  .show Ys _ _ (Zt _ _ _ _);rw[Zs _ _ Ρ];by_cases C:a=.inl i
   .subst C;rw[Yj];exact((h.Zp.perms (.inl i)).own (λaa A=>by simp at A;subst A;rfl)).join ((h.Zp.perms (.inr m)).acquire h.Zp.norel d F (by rw[l];simp) U U (by rw[h.Zp.hears];exact hd))
   .rw[Zs _ _ C];exact h.Zp.Nq a U X aq
 .rcases Ux d B with⟨rfl,rfl⟩|⟨e,n⟩
  .exact absurd (Xs ..) (Z i k q.L .work)
  .have I:(.inr E:YT)≠.inr m:=λx=>by cases x;exact e (h.hold.Uk r s q o m n d (.inr Y) F)
   show q.XI q.L (Zt (Zt c.H _ _) (.inr m) _ (.inr E));rw[Zs _ _ I,Vw];exact h.XY.RE r q E n Y (λj q p x=>K j q p ((ZO j r q p).2 x)) λj k L g x=>Z j k L g (by show Zk c.tok i s _ j r=_;rw[Xy _ (λy=>e y.2)];exact x)
 .rcases Ux d B with⟨rfl,rfl⟩|⟨e,n⟩
  .have I:(.inr r:YT)≠.inr m:=λx=>by cases x;exact h.hold.RG _ q m d V U
   show T6 q.D q.R (Zt (Zt c.H _ _) (.inr m) _ (.inr r));rw[Zs _ _ I,Vw];exact h.XY.R8 r q d (λj q p x=>K j q p ((ZO j r q p).2 x))
  .have I:(.inr r:YT)≠.inr m:=λx=>by cases x;exact e (h.hold.Uk m s q o m n d (.inl U) F)
   show T6 q.D q.R (Zt (Zt c.H _ _) (.inr m) _ (.inr r));rw[Zs _ _ I,Vw];exact h.XY.R8 r q n (λj q p x=>K j q p ((ZO j r q p).2 x))
 .rcases Ux d B with⟨rfl,rfl⟩|⟨_,n⟩
  .exact⟨_,d,U⟩
  .exact⟨q,n,U⟩
 .rw[ar];show U' P Q (upd c.T i (f (i==0,g',J)) i) _ _ _;rw[upd_same];exact ao
 .have aw:(Sum.inl j:YT)≠.inr m:=by simp
  have ax:(Sum.inl j:YT)≠.inl i:=λe=>u (by cases e;rfl);simp[c',YE.x,upd_ne _ _ u,Qc _ u,Zs _ _ aw,Zs _ _ ax]
 .exact⟨q,by show upd c.O s (some o) r=some q;rw[Ki d];exact a,b⟩
theorem Inv.HE (h:Inv P Q Zw c gs w t) (ab:gs[i]?=some g) (ao:E9 P (i==0) (Uy P Q f) g (c.x i)):VZ P Q Zw c gs w t i f:=by
 obtain⟨s,sp,m,k,L,g',G',E,ap,ad,ae,af,aG,aq,ar,F,au,av⟩:=ao;have aw:i<gs.size:=Tz ab;obtain⟨o,d,ax⟩:=h.Y4.Q5 i s sp ap;subst ax;have K:c.tok i s=.ch k (.Yw L) .work:=ae;have hd:c.deaf i=0:=af;have ah:c.rel i=false:=aq;have ay:=ar w (h.mem.fit (.inl i));have az:o.L=L:=h.Y4.Yw i s k L .work o d K;let o':Z':={o with L:=o.L++[k]};let S:ZU:={c.x i with G:=G',tok:=upd (c.tok i) s (.ch k .fin .work),view:=upd (c.view i) s none};let c':YE:={c with H:=Zt (Zt c.H (.inl i) G') (.inr m) E,tok:=Zk c.tok i s (.ch k .fin .work),view:=upd c.view i (upd (c.view i) s none),O:=upd c.O s (some o'),T:=upd c.T i (f (i==0,g',S))};have V:TA c.O (upd c.O s (some o')):=TA.upd d U;have ZO:=Kf (b:=.ch k .fin .work) K Ω Ω;have ai:=LY (b:=.ch k .fin .work) K Ω;have J:X1 s o.toSpec m:=.inr ad;refine VZ.go (c':=c') ab ay ?_ _ U;rw[ofEvents_one];have aA:c'.x i=S:=by
  have:(Sum.inl i:YT)≠.inr m:=Ω;simp[c',S,YE.x,upd_same,On,Zs _ _ this]
 refine h.laid (c':=c') ab (h.mem.two (F.l.fits (h.mem.fit (.inl i))) (F.r.fits (h.mem.fit (.inl i))) λr q B=>?_) ?_ ?_ (h.Y4.z5 d K) ⟨λr q A B I W aB=>?_,λr q B W=>?_⟩
  (h.X5.app aw (λC n=>by simp at n;subst n;rfl) (λX=>by rw[ah] at X;cases X) (λs q p ⟨j,x⟩=>⟨j,(ZO j s q p).1 x⟩) (λj s q p x=>(ZO j s q p).1 x))
  ⟨λr q A B I p C aC M=>?_,λj b v hv C n M=>?_⟩
  ⟨g',?_,.inl U⟩ (λj Y=>⟨?_,upd_ne _ _ Y⟩) (.inr λj r q _ a b=>?_)
 .rcases Ux d B with⟨rfl,rfl⟩|⟨_,u⟩
  .exact(h.mem.W7 r o d:At r o w)
  .exact h.mem.W7 _ _ u
 .exact h.hold.two Ω F.l.Q2 F.r.Q2 F.apart V λx X=>by
   rcases X with e|e
   .cases e;exact⟨s,o,d,J⟩
   .cases e
 .refine h.Zp.word (i:=i) U (.inr U) (h.low d J) V (λ_ _ _ x=>x) λa=>?_;by_cases Ρ:a=.inr m
  .subst Ρ;show Ys _ _ (Zt _ _ _ _);rw[Yj];exact((Ys.release (h.Zp.perms (.inl i)) U U (by rw[h.Zp.hears];exact hd)).sub F.r).mono λ_ x=>Kk V.1 ai x
  .show Ys _ _ (Zt _ _ _ _);rw[Zs _ _ Ρ];by_cases Z:a=.inl i
   .subst Z;rw[Yj];exact((h.Zp.perms (.inl i)).own (λC n=>by simp at n;subst n;rfl)).sub F.l
   .rw[Zs _ _ Z];exact h.Zp.Nq a U V ai
 .rcases Ux d B with⟨rfl,rfl⟩|⟨e,u⟩
  .have e:A=m:=by have:o.ZK=some A:=I;rw[ad] at this;cases this;rfl
   subst e;show o.XI (o.L++[k]) (Zt (Zt c.H _ _) (.inr A) _ (.inr A));rw[Yj,az];exact au
  .have N:(.inr A:YT)≠.inr m:=λx=>by cases x;exact e (h.hold.Uk r s q o m u d (.inr I) J)
   show q.XI q.L (Zt (Zt c.H _ _) (.inr m) _ (.inr A));rw[Zs _ _ N,Vw];exact h.XY.RE r q A u I (λj q p x=>W j q p ((ZO j r q p).2 x)) λj k L g x=>aB j k L g (by show Zk c.tok i s _ j r=_;rw[Xy _ (λy=>e y.2)];exact x)
 .rcases Ux d B with⟨rfl,rfl⟩|⟨e,u⟩
  .have N:(.inr r:YT)≠.inr m:=λx=>by cases x;exact h.hold.RG _ o m d ad U
   show T6 o.D o.R (Zt (Zt c.H _ _) (.inr m) _ (.inr r));rw[Zs _ _ N,Vw];exact h.XY.R8 r o d (λj q p x=>W j q p ((ZO j r q p).2 x))
  .have N:(.inr r:YT)≠.inr m:=λx=>by cases x;exact e (h.hold.Uk m s q o m u d (.inl U) J)
   show T6 q.D q.R (Zt (Zt c.H _ _) (.inr m) _ (.inr r));rw[Zs _ _ N,Vw];exact h.XY.R8 r q u (λj q p x=>W j q p ((ZO j r q p).2 x))
 .rcases getElem?_append_cases aC with⟨_,aD⟩|⟨_,aj⟩
  .have ak:∀aa,c.O r=some aa->aa.ZK=some A->(∃al am g,Zk c.tok i s (.ch k .fin .work) C.g r=.ch al am g)/\(c.rel C.g=true->Before (t++#[{g:=i,fn:=g.frame.fn,pos:=g.frame.place,act:=MemAct.ofEvent (Go.ConcR.mk (Mark.releaseMerge {block:=m,off:=0}))}]) p (c.Xz C.g)):=λaa Z Ρ=>by
    obtain⟨⟨al,am,g,ae⟩,af⟩:=h.Wp.Ot r aa A Z Ρ p C aD M;exact⟨LX K (λ_ _ _ _=>⟨_,_,_,U⟩) _ _ _ _ _ ae,λag=>(af ag).app _⟩
   rcases Ux d B with⟨rfl,rfl⟩|⟨_,u⟩
   .exact ak o d I
   .exact ak q u I
  .simp at aj;subst aj;cases M;have:r=s:=by
    rcases Ux d B with⟨rfl,rfl⟩|⟨_,u⟩
    .rfl
    .exact h.hold.Uk r s q o m u d (.inr I) J
   subst this;exact⟨⟨k,.fin,.work,Xs ..⟩,λag=>by
    have:c.rel i=true:=ag;rw[ah] at this;cases this⟩
 .rcases Si.1 n with n|n
  .exact h.Wp.Oq j b v hv C n M
  .simp at n;subst n;cases M;have:=(h.hold.Uz s o m d J).2.2 j;have an:c.Z4 j m=some v:=hv;rw[this] at an;cases an
 .rw[aA];show U' P Q (upd c.T i (f (i==0,g',S)) i) _ _ _;rw[upd_same];exact av
 .have aE:(Sum.inl j:YT)≠.inr m:=by simp
  have aF:(Sum.inl j:YT)≠.inl i:=λe=>Y (by cases e;rfl);simp[c',YE.x,upd_ne _ _ Y,Qc _ Y,Zs _ _ aE,Zs _ _ aF]
 .by_cases e:r=s
  .subst e;rw[d] at a;cases a;exact⟨o',upd_same ..,b⟩
  .exact⟨q,by show upd c.O s (some o') r=some q;rw[upd_ne _ _ e];exact a,b⟩
end
section
variable {P:Program} {Q:Value->Prop} {Zw:World} {c c':YE} {gs:Array Goroutine} {w w':World} {t:Trace} {i:Nat} {g g':Goroutine} {es:Array Event}
variable {f:Bool×Goroutine×ZU->WV (Bool×Goroutine×ZU)}
theorem Inv.parent (h:Inv P Q Zw c gs w t) {s:Nat} {o:Z'} (g:c.O s=some o):c.Zl s<gs.size/\∃q p b,c.tok (c.Zl s) s=.par q p b:=by
 obtain⟨e,i,f⟩:=Kq (φ:=XH) (N:=gs.size) (τ:=λa=>c.tok a s) (by rw[(h.Y4.Z0 s o g).2.SG];exact Nat.one_pos);have j:∃q p b,c.tok e s=.par q p b:=by
  cases d:c.tok e s with
  | par q p b=>exact⟨q,p,b,rfl⟩
  | nil=>simp[d,XH] at f
  | ch=>simp[d,XH] at f
 obtain⟨q,p,b,d⟩:=j;have k:=h.Y4.par e _ q p b d;subst k;exact⟨i,q,p,b,d⟩
theorem Inv.HD (h:Inv P Q Zw c gs w t) (aw:gs[i]?=some g) (aQ:E8 P (i==0) (Uy P Q f) g (c.x i)):VZ P Q Zw c gs w t i f:=by
 obtain⟨s,sp,k,K,g',E,aR,ax,aE,aS,ay,bl,aT,aU,ak,aV,aW⟩:=aQ;have aX:i<gs.size:=Tz aw;obtain⟨o,d,aY⟩:=h.Y4.Q5 i s sp aR;subst aY;have W:c.tok i s=.ch k K .work:=ax;have hd:c.deaf i=0:=ay;have bm:c.rel i=false:=aT;have aF:∀aG,aG≠s->WY (c.tok i aG):=aS;have aZ:=aU w (h.mem.fit (.inl i));obtain⟨bn,al,bo⟩:=h.Y4.Sb i s k K .work W;have aH:=h.Y4.EU d W Ω;let y:MemOp:={g:=i,fn:=g.frame.fn,pos:=g.frame.place,act:=MemAct.ofEvent (Go.ConcR.mk (Mark.releaseMerge ⟨s,0,none⟩))};have a0:y.act=.mark (.releaseMerge ⟨s,0,none⟩):=rfl;have am:(t++#[y])[t.size]?=some y:=Ω;have a1:(t++#[y]).heard t.size:=⟨i,by simp[Trace.g?,y],by rw[deaf_old (Z6 _)];exact(h.Zp.hears i).trans hd⟩;let o':Z':={o with R:=k::o.R};let an:ZU:={c.x i with G:=Τ.empty,Z4:=λ_=>none,tok:=upd (c.tok i) s (.ch k K .rel),view:=upd (c.view i) s none,rel:=true};let c':YE:={c with H:=Zt (Zt c.H (.inl i) Τ.empty) (.inr s) (join E (c.H (.inr s))),Z4:=upd c.Z4 i λ_=>none,tok:=Zk c.tok i s (.ch k K .rel),view:=upd c.view i (upd (c.view i) s none),O:=upd c.O s (some o'),rel:=upd c.rel i true,Xz:=upd c.Xz i t.size,T:=upd c.T i (f (i==0,g',an))};have ab:TA c.O (upd c.O s (some o')):=TA.upd d U;have ZO:=Kf (b:=.ch k K .rel) W Ω Ω;have az:=LY (b:=.ch k K .rel) W Ω;have ad:X1 s o.toSpec s:=.inl U;have ao:∀j b v,upd c.Z4 i (λ_=>none) j b=some v->c.Z4 j b=some v:=λj b v hv=>by
  by_cases e:j=i
  .subst e;rw[upd_same] at hv;cases hv
  .rw[upd_ne _ _ e] at hv;exact hv
 have aI:=h.hold.apart (.inl i) (.inr s) Ω
 have a2:Sub (join E (c.H (.inr s))) (join (c.H (.inl i)) (c.H (.inr s))):=Sub.both (Sub.Q2 ak) (Sub.zR (h.mem.fit _) (h.mem.fit _) aI)
 have aJ:∀j r C L g,c.tok j r=.ch C (.Yw L) g->Zk c.tok i s (.ch k K .rel) j r=.ch C (.Yw L) g:=λj r C L g n=>by
  rw[Xy _ (λe=>?_)]
  .exact n
  .obtain⟨rfl,rfl⟩:=e;rw[W] at n;rcases aE with rfl|⟨rfl,_⟩<;>cases n
 have bp:∀j,j≠i->∀r,Zk c.tok i s (.ch k K .rel) j r=c.tok j r:=λj n r=>Xy _ λe=>n e.1;refine VZ.go (c':=c') aw aZ ?_ _ U;rw[ofEvents_one];have a3:c'.x i=an:=by
  have:(Sum.inl i:YT)≠.inr s:=Ω;simp[c',an,YE.x,upd_same,On,Zs _ _ this]
 have a4:Ou gs.size c'.tok c'.rel c'.Zl c'.home c'.Xz (t++#[y]):=by
  refine⟨λC g' ae=>?_,λj M n=>?_,λj M n Y=>?_,λj M n aK aL=>?_⟩
  .obtain⟨l,m,aa⟩:=S9.1 ae;rcases getElem?_append_cases m with⟨_,ap⟩|⟨_,Z⟩
   .exact h.X5.Q1 C g' (by simp[Trace.g?,ap,aa])
   .simp at Z;subst Z;rw[<-aa];exact aX
  .by_cases e:j=i
   .subst e;have A:c'.Xz j=t.size:=upd_same ..;rw[A];refine⟨y,am,U,by rw[a0];show _=MemAct.mark (.releaseMerge ⟨c.home j,0,none⟩);rw[al],a1,λC ae aq=>?_⟩;obtain⟨l,m,aa⟩:=S9.1 ae;rcases getElem?_append_cases m with⟨af,ap⟩|⟨aA,Z⟩
    .exact .inr (hb_po af m am aa)
    .exact absurd aq (Nr (u:=#[y]) (λl m=>by simp at m;subst m;rfl) C aA)
   .have X:c.rel j=true:=by have:upd c.rel i true j=true:=n;rwa [upd_ne _ _ e] at this
    have A:c'.Xz j=c.Xz j:=upd_ne _ _ e;rw[A];obtain⟨l,ag,aB,a5,a6,a7⟩:=h.X5.c1 j M X;have ah:=lt_size_of_getElem? ag;refine⟨l,by rw[getElem?_append_old ah];exact ag,aB,a5,(heard_old ah).2 a6,λC ae aq=>?_⟩;obtain⟨bq,m,aa⟩:=S9.1 ae;rcases getElem?_append_cases m with⟨af,ap⟩|⟨aA,Z⟩
    .exact(a7 C (by simp[Trace.g?,ap,aa]) ((L1 af).1 aq)).app _
    .exact absurd aq (Nr (u:=#[y]) (λl m=>by simp at m;subst m;rfl) C aA)
  .obtain⟨q,p,F⟩:=Y;have B:c.tok (c.Zl (c.home j)) (c.home j)=.par q p .ZO:=(ZO _ _ q p).1 F;by_cases e:j=i
   .subst e;rw[al] at B;exact absurd B (aH _ q p)
   .have X:c.rel j=true:=by have:upd c.rel i true j=true:=n;rwa [upd_ne _ _ e] at this
    have A:c'.Xz j=c.Xz j:=upd_ne _ _ e;rw[A];exact(h.X5.c2 j M X ⟨q,p,B⟩).app _
  .by_cases e:j=i
   .subst e;exfalso;have a8:c.Zl s≠0:=by rw[<-al];exact aK
    have N:c.Zl s≠j:=J
    have a9:c.rel (c.Zl s)=true:=by
     have:upd c.rel j true (c.Zl (c.home j))=true:=aL;rw[al,upd_ne _ _ N] at this;exact this
    obtain⟨_,q,p,ar,S⟩:=h.parent d;have ai:WY (c.tok (c.Zl s) s):=by
     by_cases Ρ:s=c.home (c.Zl s)
     .obtain⟨a',ba,bb,au⟩:=h.Y4.Qe (c.Zl s) a8 J;rw[<-Ρ,S] at au;cases au
     .exact h.Y4.Sa _ s a9 Ρ
    rw[S] at ai;cases ar<;>first|exact ai.elim|exact aH _ _ _ S
   .have X:c.rel j=true:=by have:upd c.rel i true j=true:=n;rwa [upd_ne _ _ e] at this
    have A:c'.Xz j=c.Xz j:=upd_ne _ _ e;rw[A];by_cases Ρ:c.Zl (c.home j)=i
    .have aC:c'.Xz (c.Zl (c.home j))=t.size:=by rw[Ρ];exact upd_same ..
     show Before _ _ (c'.Xz (c.Zl (c.home j)));rw[aC];obtain⟨l,ag,_⟩:=h.X5.c1 j M X;have bc:j<gs.size:=by
      obtain⟨l,ag,aB,_⟩:=h.X5.c1 j M X;exact h.X5.Q1 (c.Xz j) j (by simp[Trace.g?,ag,aB])
     obtain⟨a',ba,bb,au⟩:=h.Y4.Qe j M bc;obtain⟨br,bd⟩:=h.obj (i:=j) (s:=c.home j) (by rw[au];simp);obtain⟨_,q,p,ar,S⟩:=h.parent bd;rw[Ρ] at S;have N:c.home j≠s:=λbe=>by rw[be,W] at S;cases S
     have ai:=aF _ N;rw[S] at ai;have bf:ar=.ZO:=by cases ar<;>first|exact ai.elim|rfl
     subst bf;have aM:=h.X5.c2 j M X ⟨q,p,by rw[Ρ];exact S⟩;rw[Ρ] at aM;exact .inr (aM.hb_new (u:=#[y]) (Z6 _) am U)
    .have aC:c'.Xz (c.Zl (c.home j))=c.Xz (c.Zl (c.home j)):=upd_ne _ _ Ρ
     show Before _ _ (c'.Xz (c.Zl (c.home j)));rw[aC];refine(h.X5.c3 j M X aK ?_).app _;have:upd c.rel i true (c.Zl (c.home j))=true:=aL
     rwa [upd_ne _ _ Ρ] at this
 refine h.laid (c':=c') aw ((h.mem.two (Ov w) (L2 (ak.fits (h.mem.fit (.inl i))) (h.mem.fit _)) λr q F=>?_).Np ao) ((h.hold.two Ω (Sub.empty _) a2 (Apart.Pn _).symm ab λx bg=>?_).Np ao) ?_ (h.Y4.z4 d W aE aF) ⟨λr q I F V Y aN=>?_,λr q F Y=>?_⟩
  a4 ⟨λr q I F V p l ah aj=>?_,λj b v hv l m aj=>?_⟩
  ⟨g',?_,.inl U⟩ (λj n=>⟨?_,upd_ne _ _ n⟩) (.inr λj r q _ a b=>?_)
 .rcases Ux d F with⟨rfl,rfl⟩|⟨_,B⟩
  .exact(h.mem.W7 r o d:At r o w)
  .exact h.mem.W7 _ _ B
 .rcases bg with e|e
  .cases e;exact⟨s,o,d,ad⟩
  .cases e
 .refine h.Zp.word (i:=i) U (.inr U) (h.low d ad) ab ao λa=>?_;by_cases Ρ:a=.inr s
  .subst Ρ;show Ys _ _ (Zt _ _ _ _);rw[Yj];exact(((Ys.release (h.Zp.perms (.inl i)) U U (by rw[h.Zp.hears];exact hd)).sub ak).mono λ_ x=>Kk ab.1 az x).join (h.Zp.Nq (.inr s) U ab az)
  .show Ys _ _ (Zt _ _ _ _);rw[Zs _ _ Ρ];by_cases A:a=.inl i
   .subst A;rw[Yj];exact Ys.empty
   .rw[Zs _ _ A];exact h.Zp.Nq a U ab az
 .rcases Ux d F with⟨rfl,rfl⟩|⟨e,B⟩
  .have N:(.inr I:YT)≠.inr r:=λx=>by cases x;exact h.hold.RG _ o _ d V U
   show o.XI o.L (Zt (Zt c.H _ _) (.inr r) _ (.inr I));rw[Zs _ _ N,Vw];exact h.XY.RE r o I d V (λj q p x=>Y j q p ((ZO j r q p).2 x)) λj k L g x=>aN j k L g (aJ _ _ _ _ _ x)
  .have N:(.inr I:YT)≠.inr s:=λx=>e (h.hold.Uk r s q o I B d (.inr V) (by cases x;exact ad))
   show q.XI q.L (Zt (Zt c.H _ _) (.inr s) _ (.inr I));rw[Zs _ _ N,Vw];exact h.XY.RE r q I B V (λj q p x=>Y j q p ((ZO j r q p).2 x)) λj k L g x=>aN j k L g (aJ _ _ _ _ _ x)
 .rcases Ux d F with⟨rfl,rfl⟩|⟨e,B⟩
  .show T6 o.D (k::o.R) (Zt (Zt c.H _ _) (.inr r) _ (.inr r));rw[Yj];exact⟨E,c.H (.inr r),aV,h.XY.R8 r o d (λj q p x=>Y j q p ((ZO j r q p).2 x)),aI.sub ak (Sub.refl _),U⟩
  .have N:(.inr r:YT)≠.inr s:=λx=>by cases x;exact e U
   show T6 q.D q.R (Zt (Zt c.H _ _) (.inr s) _ (.inr r));rw[Zs _ _ N,Vw];exact h.XY.R8 r q B (λj q p x=>Y j q p ((ZO j r q p).2 x))
 .rcases getElem?_append_cases ah with⟨af,bh⟩|⟨_,Z⟩
  .have aO:∀av,c.O r=some av->av.ZK=some I->(∃C aP g,Zk c.tok i s (.ch k K .rel) l.g r=.ch C aP g)/\(c'.rel l.g=true->Before (t++#[y]) p (c'.Xz l.g)):=λav A Ρ=>by
    obtain⟨⟨C,aP,g,ax⟩,ay⟩:=h.Wp.Ot r av I A Ρ p l bh aj;refine⟨LX W (λ_ _ _ _=>⟨_,_,_,U⟩) _ _ _ _ _ ax,λbi=>?_⟩;by_cases e:l.g=i
    .have A:c'.Xz l.g=t.size:=by rw[e];exact upd_same ..
     rw[A];exact .inr (hb_po af ah am e)
    .have A:c'.Xz l.g=c.Xz l.g:=upd_ne _ _ e
     have Ρ:c.rel l.g=true:=by have:upd c.rel i true l.g=true:=bi;rwa [upd_ne _ _ e] at this
     rw[A];exact(ay Ρ).app _
   rcases Ux d F with⟨rfl,rfl⟩|⟨_,B⟩
   .exact aO o d V
   .exact aO q B V
  .simp at Z;subst Z;cases aj;exfalso;rcases Ux d F with⟨rfl,rfl⟩|⟨e,B⟩
   .exact h.hold.RG _ o _ d V U
   .exact e (h.hold.Uk r s q o s B d (.inr V) ad)
 .have aD:=ao j b v hv;rcases Si.1 m with m|m
  .exact h.Wp.Oq j b v aD l m aj
  .simp at m;subst m;cases aj;have:=(h.hold.Uz s o s d ad).2.2 j;rw[this] at aD;cases aD
 .rw[a3];show U' P Q (upd c.T i (f (i==0,g',an)) i) _ _ _;rw[upd_same];exact aW
 .have bj:(Sum.inl j:YT)≠.inr s:=by simp
  have bk:(Sum.inl j:YT)≠.inl i:=λe=>n (by cases e;rfl);simp[c',YE.x,upd_ne _ _ n,Qc _ n,Zs _ _ bj,Zs _ _ bk]
 .by_cases e:r=s
  .subst e;rw[d] at a;cases a;exact⟨o',upd_same ..,b⟩
  .exact⟨q,by show upd c.O s (some o') r=some q;rw[upd_ne _ _ e];exact a,b⟩
theorem Inv.Kd (h:Inv P Q Zw c gs w t) (an:gs[i]?=some g) (aa:E7 P (i==0) (Uy P Q f) g (c.x i)):VZ P Q Zw c gs w t i f:=by
 obtain⟨s,sp,n,aw,g',aS,aT,ao,aU,bH,aV,aW,aX⟩:=aa;have aY:i<gs.size:=Tz an;obtain⟨o,l,aZ⟩:=h.Y4.Q5 i s sp aS;subst aZ;have V:c.tok i s=.par n 0 aw:=aT;have hd:c.deaf i=0:=aU;have bI:c.rel i=false:=aV;have ab:=aW w (h.mem.fit (.inl i));have a0:=h.Y4.par i s n 0 aw V;obtain⟨a1,a2,ax⟩:=h.Y4.full l V ao;have ap:X1 s o.toSpec s:=.inl U;have ay:∀j q p,c.tok j s≠.par q p .ZO:=λj q p d=>by
  have e:=h.Y4.par j s q p .ZO d;rw[<-a0] at e;subst e;rw[V] at d;rcases ao with rfl|rfl<;>cases d
 let y:MemOp:={g:=i,fn:=g.frame.fn,pos:=g.frame.place,act:=MemAct.ofEvent (Go.ConcR.mk (Mark.acquire ⟨s,0,none⟩))}
 have a3:y.act=.mark (.acquire ⟨s,0,none⟩):=rfl
 have az:Deaf t i=0:=by rw[h.Zp.hears];exact hd
 have af:TA c.O (upd c.O s (some o)):=TA.upd l U
 have aA:=LY (b:=.par n 0 .ZO) V Ω
 have aB:∀j,(∃k m g,c.tok j s=.ch k m g)->j≠0/\c.home j=s/\c.rel j=true/\Knows (t++#[y]) i (c.Xz j):=λj ⟨k,m,g,d⟩=>by
  obtain⟨J,M,_⟩:=h.Y4.Sb j s k m g d;have ad:c.rel j=true:=(h.Y4.RF j k m g J (by rw[M];exact d)).2 (by rw[ax j k m g d];simp);obtain⟨K,a4,aC,aD,a5,_⟩:=h.X5.c1 j J ad;rw[M] at aD;exact⟨J,M,ad,Knows.marked a4 aD a5 h.Zp.norel U a3 az⟩
 have a6:=h.XY.R8 s o l ay;obtain⟨I,N,a7,a8,a9,a',ba,bb,bc,bJ,aE,bd,be,bf⟩:∃(I:YT->Τ) (N:Τ),Fits N w/\(o.ZK≠none->o.XI o.L N)/\(o.ZK=none->N=Τ.empty)/\Apart (c.H (.inl i)) N/\Apart (c.H (.inr s)) N/\
   I (.inl i)=join (join (c.H (.inl i)) (c.H (.inr s))) N/\(∀j,j≠i->I (.inl j)=c.H (.inl j))/\(∀m,o.ZK=some m->I (.inr m)=Τ.empty)/\(∀b,b≠s->o.ZK≠some b->I (.inr b)=c.H (.inr b))/\
   VK I c.Z4 (upd c.O s (some o)) Zw.heap.size/\Wq I c.Z4 (upd c.O s (some o)) Zw w/\∀a,Ys (t++#[y]) (U9 (Zk c.tok i s (.par n 0 .ZO)) (upd c.O s (some o)) (t++#[y]) a) (I a):=by
  have aF:∀r q,upd c.O s (some o) r=some q->At r q w:=λr q C=>by
   rcases Ux l C with⟨rfl,rfl⟩|⟨_,S⟩
   .exact h.mem.W7 _ _ l
   .exact h.mem.W7 _ _ S
  have aG:Ys (t++#[y]) (Knows (t++#[y]) i) (join (c.H (.inl i)) (c.H (.inr s))):=
   ((h.Zp.perms (.inl i)).own (λK E=>by simp at E;subst E;rfl)).join ((h.Zp.perms (.inr s)).acquire h.Zp.norel l ap (by rw[V];simp) U U az)
  have aH:VK (Zt (Zt c.H (.inl i) (join (c.H (.inl i)) (c.H (.inr s)))) (.inr s) Τ.empty) c.Z4 (upd c.O s (some o)) Zw.heap.size:=
   h.hold.two Ω (Sub.refl _) (Sub.empty _) (Apart.Pn _) af λx aq=>by
    rcases aq with e|e
    .cases e;exact⟨s,o,l,ap⟩
    .cases e
  have aI:Wq (Zt (Zt c.H (.inl i) (join (c.H (.inl i)) (c.H (.inr s)))) (.inr s) Τ.empty) c.Z4 (upd c.O s (some o)) Zw w:=h.mem.two (L2 (h.mem.fit _) (h.mem.fit _)) (Ov w) aF
  have aJ:(Sum.inl i:YT)≠.inr s:=Ω;cases ag:o.ZK with
  | none=>
   refine⟨Zt (Zt c.H (.inl i) (join (c.H (.inl i)) (c.H (.inr s)))) (.inr s) Τ.empty,Τ.empty,Ov w,λx=>absurd U x,λ_=>rfl,Apart.Pn _,Apart.Pn _,?_,λj d=>?_,λm ah=>(by cases ah),λb hb _=>?_,aH,aI,λa=>?_⟩
   .rw[Zs _ _ aJ,Yj,HF]
   .have W:(Sum.inl j:YT)≠.inl i:=λe=>d (by cases e;rfl);rw[Zs _ _ Ω,Zs _ _ W]
   .have W:(Sum.inr b:YT)≠.inr s:=λe=>hb (by cases e;rfl);rw[Zs _ _ W,Vw]
   .by_cases Ρ:a=.inr s
    .subst Ρ;rw[Yj];exact Ys.empty
    .rw[Zs _ _ Ρ];by_cases F:a=.inl i
     .subst F;rw[Yj];exact aG
     .rw[Zs _ _ F];exact h.Zp.Nq a U af aA
  | some m=>
   have ah:X1 s o.toSpec m:=.inr ag
   have bg:m≠s:=h.hold.RG s o m l ag
   have aK:(Sum.inr m:YT)≠.inr s:=λe=>bg (by cases e;rfl)
   have aL:(Sum.inl i:YT)≠.inr m:=Ω
   have bh:∀j k L g,c.tok j s≠.ch k (.Yw L) g:=λj k L g d=>by
    rcases h.Y4.R' j s k _ g o l d (by rw[ax j k _ g d];simp) with e|⟨e,_⟩<;>cases e
   have bi:=h.XY.RE s o m l ag ay bh
   have bj:Apart (c.H (.inr s)) (c.H (.inr m)):=h.hold.apart _ _ (YF aK)
   have bk:Apart (c.H (.inl i)) (c.H (.inr m)):=h.hold.apart _ _ aL
   have bl:Zt (Zt c.H (.inl i) (join (c.H (.inl i)) (c.H (.inr s)))) (.inr s) Τ.empty (.inl i)=join (c.H (.inl i)) (c.H (.inr s)):=by rw[Zs _ _ aJ,Yj]
   have bm:Zt (Zt c.H (.inl i) (join (c.H (.inl i)) (c.H (.inr s)))) (.inr s) Τ.empty (.inr m)=c.H (.inr m):=by rw[Zs _ _ aK,Vw]
   have bn:=aH.two (a:=.inl i) (b:=.inr m) (A:=join (join (c.H (.inl i)) (c.H (.inr s))) (c.H (.inr m))) (B:=Τ.empty) (O':=upd c.O s (some o)) Ω (by rw[bl,bm];exact Sub.refl _) (Sub.empty _) (Apart.Pn _) ⟨λs o' ab=>⟨o',ab,U⟩,λs o' ab=>⟨o',ab,U⟩⟩ λx aq=>by
    rcases aq with e|e
    .cases e;exact⟨s,o,upd_same ..,ah⟩
    .cases e
   have bo:=aI.two (a:=.inl i) (b:=.inr m) (A:=join (join (c.H (.inl i)) (c.H (.inr s))) (c.H (.inr m))) (B:=Τ.empty) (O':=upd c.O s (some o)) (L2 (L2 (h.mem.fit _) (h.mem.fit _)) (h.mem.fit _)) (Ov w) aF;refine⟨_,c.H (.inr m),h.mem.fit _,λ_=>bi,λx=>(by cases x),bk,bj,?_,λj d=>?_,λae ai=>?_,λb hb bp=>?_,bn,bo,λa=>?_⟩
   .rw[Zs _ _ aL,Yj]
   .have W:(Sum.inl j:YT)≠.inl i:=λe=>d (by cases e;rfl);rw[Zs _ _ Ω,Zs _ _ W,Zs _ _ Ω,Zs _ _ W]
   .cases ai;rw[Yj]
   .have W:(Sum.inr b:YT)≠.inr s:=λe=>hb (by cases e;rfl)
    have bq:(Sum.inr b:YT)≠.inr m:=λe=>bp (by cases e;rfl);rw[Zs _ _ bq,Vw,Zs _ _ W,Vw]
   .by_cases aM:a=.inr m
    .subst aM;rw[Yj];exact Ys.empty
    .rw[Zs _ _ aM];by_cases F:a=.inl i
     .subst F;rw[Yj];refine aG.join ((h.Zp.perms (.inr m)).S1 U λk aa=>?_);rcases aa with⟨p,K,J,M,ad,aj⟩|aa
      .obtain⟨br,aC⟩:=h.Wp.Ot s o m l ag p K J M;obtain⟨_,_,bs,bt⟩:=aB K.g br;have hb:=(aC bs).app #[y];refine Knows.of_before ?_ bt;rcases hb with e|hb
       .rw[<-e];exact aj.app _
       .exact .inr ((aj.app #[y]).hb hb)
      .exact(aa s o l ah i (by rw[V];simp)).app _
     .rw[Zs _ _ F];by_cases Ρ:a=.inr s
      .subst Ρ;rw[Yj];exact Ys.empty
      .rw[Zs _ _ Ρ,Zs _ _ F];exact h.Zp.Nq a U af aA
 have bu:Apart (c.H (.inl i)) (c.H (.inr s)):=h.hold.apart _ _ Ω
 have bv:=aX o.R o.L (c.H (.inr s)) N a1 a6 (λx=>⟨a2 x,a8 x⟩) a9 bu a' ba ⟨w,h.mem.fit _,h.mem.fit _,a7⟩
 let ak:ZU:={c.x i with G:=join (join (c.H (.inl i)) (c.H (.inr s))) N,tok:=upd (c.tok i) s (.par n 0 .ZO),view:=upd (c.view i) s none}
 let c':YE:={c with H:=I,tok:=Zk c.tok i s (.par n 0 .ZO),view:=upd c.view i (upd (c.view i) s none),O:=upd c.O s (some o),T:=upd c.T i (f (i==0,g',ak))}
 have bw:c'.x i=ak:=by simp[c',ak,YE.x,upd_same,On,bb]
 have al:∀j r,¬(j=i/\r=s)->Zk c.tok i s (.par n 0 .ZO) j r=c.tok j r:=λj r e=>Xy _ e
 have aN:∀r q b,c.O r=some q->r≠s->X1 r q.toSpec b->b≠s/\o.ZK≠some b:=λr q b C aO hb=>⟨λe=>aO (h.hold.Uk r s q o b C l hb (.inl e)),λe=>aO (h.hold.Uk r s q o b C l hb (.inr e))⟩;refine VZ.go (c':=c') an ab ?_ _ U;rw[ofEvents_one];refine h.laid (c':=c') an be bd (h.Zp.word (i:=i) U (.inl U) (h.low l ap) af (λ_ _ _ x=>x) bf) (h.Y4.gtake l V ao) ⟨λr q ae C ai X bx=>?_,λr q C X=>?_⟩ ?_
  (h.Wp.app h.Zp.low (λK E b hb=>by simp at E;subst E;cases hb) (λj b v hv=>.inl ⟨v,hv⟩) (λr q C=>?_) (λj r Z bz g e=>LX V (λk m g e=>?_) j r Z bz g e))
  ⟨g',?_,.inl U⟩ (λj d=>⟨?_,upd_ne _ _ d⟩) (.inr λj r q _ a b=>?_)
 .rcases Ux l C with⟨rfl,rfl⟩|⟨e,S⟩
  .exact absurd (Xs ..) (X i n 0)
  .obtain⟨F,Ρ⟩:=aN r q ae S e (.inr ai);show q.XI q.L (I (.inr ae));rw[aE ae F Ρ];exact h.XY.RE r q ae S ai (λj q p x=>X j q p (by show Zk c.tok i s _ j r=_;rw[al j r (λy=>e y.2)];exact x)) λj k L g x=>bx j k L g (by show Zk c.tok i s _ j r=_;rw[al j r (λy=>e y.2)];exact x)
 .rcases Ux l C with⟨rfl,rfl⟩|⟨e,S⟩
  .exact absurd (Xs ..) (X i n 0)
  .obtain⟨F,Ρ⟩:=aN r q r S e (.inl U);show T6 q.D q.R (I (.inr r));rw[aE r F Ρ];exact h.XY.R8 r q S (λj q p x=>X j q p (by show Zk c.tok i s _ j r=_;rw[al j r (λy=>e y.2)];exact x))
 .refine⟨λZ g' ar=>?_,λj Y d=>?_,λj Y d X=>?_,λj Y d a b=>(h.X5.c3 j Y d a b).app _⟩
  .obtain⟨K,E,am⟩:=S9.1 ar;rcases getElem?_append_cases E with⟨_,au⟩|⟨_,av⟩
   .exact h.X5.Q1 Z g' (by simp[Trace.g?,au,am])
   .simp at av;subst av;rw[<-am];exact aY
  .obtain⟨K,J,M,ad,aj,bA⟩:=h.X5.c1 j Y d;have aP:=lt_size_of_getElem? J;refine⟨K,by rw[getElem?_append_old aP];exact J,M,ad,(heard_old aP).2 aj,λZ ar aQ=>?_⟩;obtain⟨bK,E,am⟩:=S9.1 ar;rcases getElem?_append_cases E with⟨bB,au⟩|⟨bC,av⟩
   .exact(bA Z (by simp[Trace.g?,au,am]) ((L1 bB).1 aQ)).app _
   .exact absurd aQ (Nr (u:=#[y]) (λK E=>by simp at E;subst E;rfl) Z bC)
  .obtain⟨q,p,C⟩:=X;by_cases e:c.Zl (c.home j)=i/\c.home j=s
   .obtain⟨F,Ρ⟩:=e;show Knows _ (c.Zl (c.home j)) (c.Xz j);rw[F];have bD:j<gs.size:=by
     obtain⟨K,J,M,_⟩:=h.X5.c1 j Y d;exact h.X5.Q1 (c.Xz j) j (by simp[Trace.g?,J,M])
    obtain⟨bE,bF,bG,aR⟩:=h.Y4.Qe j Y bD;rw[Ρ] at aR;exact(aB j ⟨bE,bF,bG,aR⟩).2.2.2
   .refine(h.X5.c2 j Y d ⟨q,p,?_⟩).app _;have:Zk c.tok i s (.par n 0 .ZO) (c.Zl (c.home j)) (c.home j)=.par q p .ZO:=C
    rwa [al _ _ e] at this
 .rcases Ux l C with⟨rfl,rfl⟩|⟨_,S⟩
  .exact⟨_,l,U⟩
  .exact⟨q,S,U⟩
 .cases e
 .rw[bw];show U' P Q (upd c.T i (f (i==0,g',ak)) i) _ _ _;rw[upd_same];exact bv
 .simp[c',YE.x,upd_ne _ _ d,Qc _ d,bc j d]
 .exact⟨q,by show upd c.O s (some o) r=some q;rw[Ki l];exact a,b⟩
end
section
variable {n:Nat} {tok:Nat->Nat->Tok} {spec:Nat->Nat->Option Spec} {view:Nat->Nat->Option (Nat×Z')} {rel:Nat->Bool} {O:Nat->Option Z'} {Zl home:Nat->Nat} {s i:Nat} {o:Z'}
theorem XP.fork (h:XP n tok spec view rel O Zl home) (H:O s=some o) {q p:Nat} (u:tok i s=.par q (p+1) .add) :
  XP (n+1) (upd (Zk tok i s (.par q p .add)) n (upd (λ_=>.nil) s (.ch (q-(p+1)) .idle .work))) (upd spec n (upd (λ_=>none) s (some o.toSpec))) (upd (upd view i (upd (view i) s none)) n λ_=>none) (upd rel n false) O Zl (upd home n s):=by
 have ag:i<n:=h.lt (s:=s) (by rw[u];simp)
 have T:n≠i:=J
 have M:=h.par i s q (p+1) .add u
 have V:=(h.Z0 s o H).2
 have aq:p+1<=q:=by
  have E:ZQ n (λa=>tok a s) VM=q:=by
   rw[RH (φ:=VM) (λt u=>by cases t<;>simp_all [XH,VM]) V.SG ag (by rw[u];rfl),u];rfl
  have Ρ:ZQ n (λa=>tok a s) We=p+1:=by
   rw[RH (φ:=We) (λt u=>by cases t<;>simp_all [XH,We]) V.SG ag (by rw[u];rfl),u];rfl
  have:=V.Fp;omega
 generalize R:upd (Zk tok i s (.par q p .add)) n (upd (λ_=>.nil) s (.ch (q-(p+1)) .idle .work))=y;have P:y n s=.ch (q-(p+1)) .idle .work:=by rw[<-R,upd_same,upd_same]
 have W:∀r,r≠s->y n r=.nil:=λr l=>by rw[<-R,upd_same,upd_ne _ _ l]
 have X:y i s=.par q p .add:=by rw[<-R,upd_ne _ _ (YF T),Xs]
 have to:∀j r,j≠n->¬(j=i/\r=s)->y j r=tok j r:=λj r C F=>by rw[<-R,upd_ne _ _ C,Xy _ F]
 have ah:∀j r,r≠s->y j r=tok j r:=λj r l=>by
  by_cases e:j=n
  .subst e;rw[W r l,h.out _ r (Z6 _)]
  .exact to j r e λx=>l x.2
 have ai:(λj=>y j s)=upd (upd (λj=>tok j s) i (.par q p .add)) n (.ch (q-(p+1)) .idle .work):=by
  funext j
  by_cases e:j=n
  .subst e;rw[P,upd_same]
  .rw[upd_ne _ _ e];by_cases d:j=i
   .subst d;rw[X,upd_same]
   .rw[upd_ne _ _ d,to j s e λx=>d x.1]
 have aj:∀r,r≠s->(λj=>y j r)=λj=>tok j r:=λr l=>funext λj=>ah j r l
 have I:∀r,(λj=>tok j r) n=.nil:=λr=>h.out n r (Z6 _)
 have D:∀j r k m g,y j r=.ch k m g->(j=n/\r=s/\k=q-(p+1)/\m=.idle/\g=.work)\/(j≠n/\¬(j=i/\r=s)/\tok j r=.ch k m g):=λj r k m g c=>by
  by_cases e:j=n
  .subst e;by_cases d:r=s
   .subst d;rw[P] at c;cases c;exact .inl ⟨U,U,U,U,U⟩
   .rw[W r d] at c;cases c
  .by_cases d:j=i/\r=s
   .obtain⟨rfl,rfl⟩:=d;rw[X] at c;cases c
   .rw[to j r e d] at c;exact .inr ⟨e,d,c⟩
 have Y:∀j r m v A,y j r=.par m v A->(j=i/\r=s/\m=q/\v=p/\A=.add)\/(j≠n/\r≠s/\tok j r=.par m v A)\/(j≠n/\j≠i/\r=s/\tok j r=.par m v A):=λj r m v A c=>by
  by_cases e:j=n
  .subst e;by_cases d:r=s
   .subst d;rw[P] at c;cases c
   .rw[W r d] at c;cases c
  .by_cases d:j=i/\r=s
   .obtain⟨rfl,rfl⟩:=d;rw[X] at c;cases c;exact .inl ⟨U,U,U,U,U⟩
   .rw[to j r e d] at c;by_cases Ρ:r=s
    .exact .inr (.inr ⟨e,λx=>d ⟨x,Ρ⟩,Ρ,c⟩)
    .exact .inr (.inl ⟨e,Ρ,c⟩)
 have Z:∀j r k m g,tok j r=.ch k m g->j≠n/\y j r=.ch k m g:=λj r k m g c=>by
  have S:j≠n:=λe=>by rw[e,h.out n r (Z6 _)] at c;cases c
  refine⟨S,?_⟩;rw[to j r S λe=>?_]
  .exact c
  .obtain⟨rfl,rfl⟩:=e;rw[u] at c;cases c
 have ar:XU (n+1) o (λj=>y j s)<XU n o (λj=>tok j s):=by
  rw[ai,<-Ff (N:=n) (τ:=λj=>tok j s) (I s)];exact Ab (N:=n+1) J J (YF T) u (I s) _
 refine⟨λr w l=>?_,λr l j=>?_,λj r c=>?_,λj r sp c=>?_,λj r φ Q c=>?_,λj r k L g w aa c=>?_,λj r m v A c=>?_,λj r k m g c=>?_,λj ab c=>?_,λj k m g ab c=>?_,?_,λj r c l=>?_,λj r k m g w aa c ak=>?_,λr j ad k m g ae g' C F=>?_,λr j k m g w v A C F=>?_,λr w l=>?_,λr w l=>?_⟩
 .by_cases e:r=s
  .subst e;rw[H] at l;cases l;rw[ai];exact Ac (Fg (h.Z0 r o H) (I r)) J J (YF T) u (I r) _
  .rw[aj r e];exact Fg (h.Z0 r w l) (I r)
 .have e:r≠s:=λe=>by rw[e,H] at l;cases l
  rw[ah j r e];exact h.bare r l j
 .rw[to j r J (λx=>J)];exact h.out j r J
 .by_cases e:j=n
  .subst e;rw[upd_same] at c;by_cases d:r=s
   .subst d;rw[upd_same] at c;cases c;exact⟨o,H,U⟩
   .rw[upd_ne _ _ d] at c;cases c
  .rw[upd_ne _ _ e] at c;exact h.Q5 j r sp c
 .have al:∀j r φ Q,view j r=some (φ,Q)->∃K,O r=some K/\XU (n+1) K (λa=>y a r)<=φ/\(XU (n+1) K (λa=>y a r)=φ->K=Q):=λj r φ Q hv=>by
   obtain⟨K,C,F,f⟩:=h.Ox j r φ Q hv;refine⟨K,C,?_⟩;by_cases e:r=s
   .subst e;rw[H] at C;cases C;exact⟨J,λx=>J⟩
   .rw[aj r e,Ff (N:=n) (τ:=λj=>tok j r) (I r)];exact⟨F,f⟩
  by_cases e:j=n
  .subst e;rw[upd_same] at c;cases c
  .rw[upd_ne _ _ e] at c;by_cases d:j=i
   .subst d;rw[upd_same] at c;by_cases Ρ:r=s
    .subst Ρ;rw[upd_same] at c;cases c
    .rw[upd_ne _ _ Ρ] at c;exact al _ _ _ _ c
   .rw[upd_ne _ _ d] at c;exact al _ _ _ _ c
 .rcases D j r k _ g c with⟨_,_,_,B,_⟩|⟨_,_,f⟩
  .cases B
  .exact h.Yw j r k L g w aa f
 .rcases Y j r m v A c with⟨rfl,rfl,_⟩|⟨_,_,f⟩|⟨_,_,_,f⟩
  .exact M
  .exact h.par j r m v A f
  .exact h.par j r m v A f
 .rcases D j r k m g c with⟨rfl,rfl,_⟩|⟨S,_,f⟩
  .exact⟨J,upd_same ..,J⟩
  .obtain⟨an,ao,af⟩:=h.Sb j r k m g f;exact⟨an,by rw[upd_ne _ _ S];exact ao,af⟩
 .by_cases e:j=n
  .subst e;rw[upd_same];exact⟨_,_,_,P⟩
  .rw[upd_ne _ _ e];obtain⟨k,m,g,C⟩:=h.Qe j ab J;exact⟨k,m,g,(Z j _ k m g C).2⟩
 .by_cases e:j=n
  .subst e;rw[upd_same] at c;rw[P] at c;cases c;rw[upd_same];simp
  .rw[upd_ne _ _ e] at c;rw[upd_ne _ _ e];rcases D j _ k m g c with⟨x,_⟩|⟨_,_,f⟩
   .exact absurd x e
   .exact h.RF j k m g ab f
 .rw[upd_ne _ _ (show(0:Nat)≠n by omega)];exact h.Pp
 .by_cases e:j=n
  .subst e;rw[upd_same] at c;cases c
  .rw[upd_ne _ _ e] at c l;have:=h.Sa j r c l;rw[to j r e λx=>?_]
   .exact this
   .obtain⟨rfl,rfl⟩:=x;rw[u] at this;exact this
 .rcases D j r k m g c with⟨_,_,_,_,B⟩|⟨_,_,f⟩
  .exact absurd B ak
  .exact h.R' j r k m g w aa f ak
 .have am:∀j k m g,tok j s=.ch k m g->k<q-(p+1):=λj k m g c=>by
   have:=h.Po s j k m g q (p+1) .add c (by rw[<-M];exact u);omega
  rcases D j r k m g C with⟨rfl,rfl,af,_⟩|⟨_,_,f⟩<;>rcases D ad r k ae g' F with⟨rfl,ap,au,_⟩|⟨_,_,B⟩
  .rfl
  .have:=am ad k ae g' B;omega
  .subst ap;have:=am j k m g f;omega
  .exact h.Ow r j ad k m g ae g' f B
 .rcases D j r k m g C with⟨_,rfl,af,_⟩|⟨_,_,f⟩
  .rcases Y _ r w v A F with⟨_,_,rfl,rfl,_⟩|⟨_,x,_⟩|⟨_,x,_⟩
   .omega
   .exact absurd U x
   .exact absurd M.symm x
  .rcases Y _ r w v A F with⟨_,rfl,rfl,rfl,_⟩|⟨_,_,B⟩|⟨_,x,rfl,B⟩
   .have:=h.Po r j k m g w (v+1) .add f (by rw[<-M];exact u);omega
   .exact h.Po r j k m g w v A f B
   .exact absurd M.symm x
 .obtain⟨a,b⟩:=h.R9 r w l;refine⟨a,λk=>(b k).trans ⟨λ⟨j,m,g,E,Ρ⟩=>⟨j,m,g,(Z j r k m g E).2,Ρ⟩,λ⟨j,m,g,E,Ρ⟩=>?_⟩⟩;rcases D j r k m g E with⟨_,_,_,B,_⟩|⟨_,_,f⟩
  .subst B;exact Ρ.elim
  .exact⟨j,m,g,f,Ρ⟩
 .obtain⟨a,b⟩:=h.Q4 r w l;refine⟨a,λk=>(b k).trans ⟨λ⟨j,m,g,E,Ρ⟩=>⟨j,m,g,(Z j r k m g E).2,Ρ⟩,λ⟨j,m,g,E,Ρ⟩=>?_⟩⟩;rcases D j r k m g E with⟨_,_,_,_,B⟩|⟨_,_,f⟩
  .exact absurd B Ρ
  .exact⟨j,m,g,f,Ρ⟩
def Z'.new (sp:Spec):Z':={toSpec:=sp,YW:=0,wk:=0,sv:=0,nw:=0,Yp:=0,L:=[],cnt:=0,wt:=0,YK:=0,R:=[]}
theorem zQ (N:Nat) (φ:Tok->Nat) (a:φ .nil=0):ZQ N (λ_=>.nil) φ=0:=by
 induction N with
 | zero=>rfl
 | succ N b=>rw[Oz,b,a]
theorem XP.zP (h:XP n tok spec view rel O Zl home) (E:O s=none) (P:i<n) (f:rel i=false) (sp:Spec) :
  XP n (Zk tok i s (.par 0 0 .add)) (upd spec i (upd (spec i) s (some sp))) (upd view i (upd (view i) s none)) rel (upd O s (some (Z'.new sp))) (upd Zl s i) home:=by
 have y:=h.bare s E
 have W:∀j,j≠0->j<n->home j≠s:=λj A c e=>by
  obtain⟨k,m,g,l⟩:=h.Qe j A c;rw[e,y j] at l;cases l
 have Q:(λj=>Zk tok i s (.par 0 0 .add) j s)=upd (λ_=>.nil) i (.par 0 0 .add):=by
  rw[E3];have:(λj=>tok j s)=λ_=>.nil:=funext y;rw[this]
 have H:∀j r,r≠s->Zk tok i s (.par 0 0 .add) j r=tok j r:=λj r f=>Xy _ λx=>f x.2
 have t:∀j r k m g,Zk tok i s (.par 0 0 .add) j r=.ch k m g↔tok j r=.ch k m g:=λj r k m g=>by
  by_cases e:j=i/\r=s
  .obtain⟨rfl,rfl⟩:=e;rw[Xs,y];simp
  .rw[Xy _ e]
 have v:∀j k m g,tok j s≠.ch k m g:=λj k m g e=>by rw[y] at e;cases e
 have B:∀r q,upd O s (some (Z'.new sp)) r=some q->(r=s/\q=Z'.new sp)\/(r≠s/\O r=some q):=λr q o=>by
  by_cases e:r=s
  .subst e;rw[upd_same] at o;cases o;exact .inl ⟨U,U⟩
  .rw[upd_ne _ _ e] at o;exact .inr ⟨e,o⟩
 have one:∀φ:Tok->Nat,φ .nil=0->ZQ n (upd (λ_=>.nil) i (.par 0 0 .add)) φ=φ (.par 0 0 .add):=λφ I=>by
  have e:=WN (N:=n) (λ_=>.nil) (.par 0 0 .add) φ P;rw[zQ n φ I] at e;simp only[I] at e;omega
 refine⟨λr q o=>?_,λr f j=>?_,λj r c=>?_,λj r K c=>?_,λj r φ C c=>?_,λj r k L g q o c=>?_,λj r m p F c=>?_,λj r k m g c=>?_,λj A c=>?_,λj k m g A c=>?_,h.Pp,λj r c R=>?_,λj r k m g q o c S=>?_,λr j T k m g V g' l D=>?_,λr j k m g q p F l D=>?_,λr q f=>?_,λr q f=>?_⟩
 .rcases B r q o with⟨rfl,rfl⟩|⟨e,u⟩
  .rw[Q];constructor
   .unfold RJ;rw[one VN U,one SI U,one TE U,one T' U,one S5 U,one T9 U,one Q7 U,one SH U,one Q8 U];constructor<;>simp[Z'.new,VN,SI,TE,T',S5,T9,Q7,SH,Q8]
   .unfold Sg;rw[one Vo U,one UR U,one UQ U,one T8 U,one XH U,one We U,one VM U,one TD U,one T7 U,one VL U];constructor<;>simp[Z'.new,Vo,UR,UQ,T8,XH,We,VM,TD,T7,VL]
  .rw[HI _ _ _ _ e];exact h.Z0 r q u
 .have e:r≠s:=λe=>by rw[e,upd_same] at f;cases f
  rw[upd_ne _ _ e] at f;rw[H j r e];exact h.bare r f j
 .rw[Xy _ (λx=>J)];exact h.out j r c
 .by_cases e:j=i
  .subst e;rw[upd_same] at c;by_cases d:r=s
   .subst d;rw[upd_same] at c;cases c;exact⟨_,upd_same ..,U⟩
   .rw[upd_ne _ _ d] at c;obtain⟨q,a,b⟩:=h.Q5 j r K c;exact⟨q,by rw[upd_ne _ _ d];exact a,b⟩
  .rw[upd_ne _ _ e] at c;obtain⟨q,a,b⟩:=h.Q5 j r K c;have d:r≠s:=λd=>by rw[d,E] at a;cases a
   exact⟨q,by rw[upd_ne _ _ d];exact a,b⟩
 .have M:∀j r φ C,view j r=some (φ,C)->∃w,upd O s (some (Z'.new sp)) r=some w/\XU n w (λa=>Zk tok i s (.par 0 0 .add) a r)<=φ/\(XU n w (λa=>Zk tok i s (.par 0 0 .add) a r)=φ->w=C):=λj r φ C hv=>by
   obtain⟨w,a,b⟩:=h.Ox j r φ C hv;have d:r≠s:=λd=>by rw[d,E] at a;cases a
   exact⟨w,by rw[upd_ne _ _ d];exact a,by rw[HI _ _ _ _ d];exact b⟩
  by_cases e:j=i
  .subst e;rw[upd_same] at c;by_cases d:r=s
   .subst d;rw[upd_same] at c;cases c
   .rw[upd_ne _ _ d] at c;exact M _ _ _ _ c
  .rw[upd_ne _ _ e] at c;exact M _ _ _ _ c
 .rw[t] at c;rcases B r q o with⟨rfl,rfl⟩|⟨e,u⟩
  .exact absurd c (v _ _ _ _)
  .exact h.Yw j r k L g q u c
 .by_cases e:j=i/\r=s
  .obtain⟨rfl,rfl⟩:=e;rw[upd_same]
  .rw[Xy _ e] at c;have d:r≠s:=λd=>by rw[d,y] at c;cases c
   rw[upd_ne _ _ d];exact h.par j r m p F c
 .rw[t] at c;have d:r≠s:=λd=>by rw[d] at c;exact v _ _ _ _ c
  rw[upd_ne _ _ d];exact h.Sb j r k m g c
 .obtain⟨k,m,g,l⟩:=h.Qe j A c;exact⟨k,m,g,(t _ _ _ _ _).2 l⟩
 .rw[t] at c;exact h.RF j k m g A c
 .have e:j≠i:=λe=>by rw[e,f] at c;cases c
  rw[Qc _ e];exact h.Sa j r c R
 .rw[t] at c;rcases B r q o with⟨rfl,rfl⟩|⟨e,u⟩
  .exact absurd c (v _ _ _ _)
  .exact h.R' j r k m g q u c S
 .rw[t] at l D;exact h.Ow r j T k m g V g' l D
 .rw[t] at l;have d:r≠s:=λd=>by rw[d] at l;exact v _ _ _ _ l
  rw[upd_ne _ _ d,H _ _ d] at D;exact h.Po r j k m g q p F l D
 .simp only[t];rcases B r q f with⟨rfl,rfl⟩|⟨e,u⟩
  .exact⟨List.nodup_nil,λk=>⟨λx=>(by cases x),λ⟨j,m,g,x,_⟩=>absurd x (v _ _ _ _)⟩⟩
  .exact h.R9 r q u
 .simp only[t];rcases B r q f with⟨rfl,rfl⟩|⟨e,u⟩
  .exact⟨List.nodup_nil,λk=>⟨λx=>(by cases x),λ⟨j,m,g,x,_⟩=>absurd x (v _ _ _ _)⟩⟩
  .exact h.Q4 r q u
end
theorem zO (t:Trace) (u:Trace) {k:Nat} (b:∀a∈u,a.g≠k):Deaf (t++u) k=Deaf t k:=by
 obtain⟨l⟩:=u;rw[Deaf_append]
 induction l generalizing t with
 | nil=>rfl
 | cons y l d=>
  have e:y.g≠k:=b y Ω
  have f:deafStep k (Deaf t k) y=Deaf t k:=by
   unfold deafStep;split<;>simp[e]
  rw[List.foldl_cons,f];exact d t (λa c=>b a (by simp at c ⊢;exact .inr c))
theorem zN {i:Bool} {t:Trace} {y z:MemOp} (h:¬Race i t) (nt:∀d∈(#[y,z]:Trace),d.act.touch?=none):¬Race i (t++#[y,z]):=by
 have e:t++#[y,z]=(t++#[y])++#[z]:=by rw[OJ];rfl
 rw[e];refine noRace_append (g:=z.g) (noRace_append (g:=y.g) h (λd c=>by simp at c;rw[c]) λk a _ d c b f _=>?_) (λd c=>by simp at c;rw[c]) λk a _ d c b f _=>?_
 .simp at c;subst c;rw[nt d Ω] at f;cases f
 .simp at c;subst c;rw[nt d Ω] at f;cases f
section
variable {P:Program} {Q:Value->Prop} {Zw:World} {c c':YE} {gs:Array Goroutine} {w w':World} {t:Trace} {i:Nat} {g g':Goroutine} {es:Array Event}
variable {f:Bool×Goroutine×ZU->WV (Bool×Goroutine×ZU)}
theorem Inv.HC (h:Inv P Q Zw c gs w t) (az:gs[i]?=some g) (C:E6 P (i==0) (Uy P Q f) g (c.x i)):VZ P Q Zw c gs w t i f:=by
 obtain⟨s,sp,n,p,g',S,Z,aa,ap,V,ag,bp,bq,aP,aQ,W,aR,aS⟩:=C;have aT:i<gs.size:=Tz az;obtain⟨o,aU,aV⟩:=h.Y4.Q5 i s sp ap;subst aV;have ab:c.tok i s=.par n (p+1) .add:=V;have hd:c.deaf i=0:=ag;have br:c.rel i=false:=aP;have ad:=aQ w (h.mem.fit (.inl i));have aW:gs.size≠i:=J;let N:=gs.size;let y:MemOp:={g:=i,fn:=g.frame.fn,pos:=g.frame.place,act:=.go gs.size};let z:MemOp:={g:=gs.size,fn:=S.frame.fn,pos:=g.frame.place,act:=.start};have aX:Deaf t i=0:=by rw[h.Zp.hears];exact hd
 have aG:Deaf t gs.size=0:=by
  have:=zO #[] t (k:=gs.size) (λu d e=>by
   obtain⟨k,C⟩:=KL.1 d;have:=h.X5.Q1 k u.g (by simp[Trace.g?,C]);omega)
  rw[Array.empty_append] at this;exact this
 let aq:ZU:={c.x i with G:=Z,tok:=upd (c.tok i) s (.par n p .add),view:=upd (c.view i) s none}
 let ar:ZU:=⟨aa,λ_=>none,upd (λ_=>.nil) s (.ch (n-(p+1)) .idle .work),upd (λ_=>none) s (some o.toSpec),λ_=>none,0,false⟩
 let E:=upd (Zk c.tok i s (.par n p .add)) gs.size (upd (λ_=>.nil) s (.ch (n-(p+1)) .idle .work))
 let c':YE:={c with H:=Zt (Zt c.H (.inl i) Z) (.inl gs.size) aa,Z4:=upd c.Z4 gs.size (λ_=>none),tok:=E,spec:=upd c.spec gs.size (upd (λ_=>none) s (some o.toSpec)),view:=upd (upd c.view i (upd (c.view i) s none)) gs.size λ_=>none,deaf:=upd c.deaf gs.size 0,rel:=upd c.rel gs.size false,home:=upd c.home gs.size s,T:=upd (upd c.T i (f (i==0,g',aq))) gs.size (f (false,S,ar))}
 have aY:=h.Y4.fork aU ab
 have bs:=runT_crowd_spawn (sl:=none) az ad
 have aZ:((MemOp.ofEvents i g.frame.fn g.frame.place #[]).push {g:=i,fn:=g.frame.fn,pos:=g.frame.place,act:=.go gs.size} |>.push {g:=gs.size,fn:=S.frame.fn,pos:=g.frame.place,act:=.start})=#[y,z]:=by rw[EX];rfl
 have aH:(Sum.inl i:YT)≠.inl gs.size:=λe=>aW (by cases e;rfl)
 have a0:∀r,E gs.size r≠.nil->r=s:=λr X=>by
  apply Tb;intro e;apply X;show upd (Zk c.tok i s (.par n p .add)) gs.size (upd (λ_=>.nil) s (.ch (n-(p+1)) .idle .work)) gs.size r=.nil;rw[upd_same,upd_ne _ _ e]
 have au:∀j,j≠gs.size->E j=Zk c.tok i s (.par n p .add) j:=λj A=>upd_ne _ _ A
 have a1:∀j r,j≠gs.size->E j r≠.nil->c.tok j r≠.nil:=λj r A X=>by
  rw[au j A] at X;exact LY ab Ω j r X
 have aA:∀j r q ae,E j r=.par q ae .ZO↔c.tok j r=.par q ae .ZO:=λj r q ae=>by
  by_cases e:j=gs.size
  .subst e;rw[h.Y4.out gs.size r (Z6 _)];show upd (Zk c.tok i s (.par n p .add)) gs.size (upd (λ_=>.nil) s (.ch (n-(p+1)) .idle .work)) gs.size r=_↔_;rw[upd_same];by_cases aI:r=s
   .subst aI;rw[upd_same];simp
   .rw[upd_ne _ _ aI]
  .rw[au j e];exact Kf ab Ω Ω j r q ae
 have a2:∀j r k L g,c.tok j r=.ch k (.Yw L) g->E j r=.ch k (.Yw L) g:=λj r k L g A=>by
  have e:j≠gs.size:=λe=>by rw[e,h.Y4.out _ r (Z6 _)] at A;cases A
  rw[au j e,Xy _ λx=>?_]
  .exact A
  .obtain⟨rfl,rfl⟩:=x;rw[ab] at A;cases A
 have ah:∀j,j≠gs.size->c'.rel j=c.rel j:=λj A=>upd_ne _ _ A
 have av:∀j,c'.rel j=true->j≠gs.size:=λj A e=>by
  subst e;have:upd c.rel gs.size false gs.size=true:=A;rw[upd_same] at this;cases this
 have aw:∀j b v,upd c.Z4 gs.size (λ_=>none) j b=some v->c.Z4 j b=some v:=λj b v hv=>by
  by_cases e:j=gs.size
  .subst e;rw[upd_same] at hv;cases hv
  .rw[upd_ne _ _ e] at hv;exact hv
 have nt:∀u∈(#[y,z]:Trace),u.act.touch?=none:=λu d=>by simp at d;rcases d with rfl|rfl<;>rfl
 have S0:∀u∈(#[y,z]:Trace),∀m,u.act≠.mark m:=λu d m=>by simp at d;rcases d with rfl|rfl<;>simp[y,z]
 have aJ:∀k,Knows t i k->Knows (t++#[y,z]) gs.size k:=λk C=>Knows.spawn C U U U U aX aG
 have a3:∀a k,U9 c.tok c.O t a k->U9 E c.O (t++#[y,z]) a k:=λa k C=>by
  cases a with
  | inl j=>exact Knows.app _ C
  | inr b=>
   rcases C with⟨p,u,ap,a4,V,ag⟩|C
   .have Y:=lt_size_of_getElem? ap;exact .inl ⟨p,u,by rw[getElem?_append_old Y];exact ap,a4,(heard_old Y).2 V,ag.app _⟩
   .refine .inr λai o' ax K j A=>?_;by_cases e:j=gs.size
    .subst e;have:=a0 ai A;subst this;exact aJ k (C _ o' ax K i (by rw[ab];simp))
    .exact(C ai o' ax K j (a1 j ai e A)).app _
 have aK:∀a,Ys (t++#[y,z]) (U9 E c.O (t++#[y,z]) a) (c.H a):=λa=>
  (h.Zp.perms a).others (a3 a) λu d x B=>by rw[nt u d] at B;cases B
 have a5:Inv P Q Zw c' ((gs.setIfInBounds i g').push S) w (t++#[y,z]):=by
  have aB:((gs.setIfInBounds i g').push S).size=gs.size+1:=Ω;refine⟨by rw[aB];omega,(h.mem.two (W.l.fits (h.mem.fit (.inl i))) (W.r.fits (h.mem.fit (.inl i))) h.mem.W7).Np aw,(h.hold.two aH W.l.Q2 W.r.Q2 W.apart ⟨λs o ad=>⟨o,ad,U⟩,λs o ad=>⟨o,ad,U⟩⟩ λx B=>by rcases B with e|e<;>cases e).Np aw,?_,by rw[aB];exact aY,?_,?_,?_,?_⟩
  .refine⟨λa6=>zN (h.Zp.race a6) nt,λu d=>?_,λu d a=>?_,λa=>?_,λj b v hv k a C=>?_,λai o' b ax K k a C a7=>?_,λj=>?_⟩
   .rcases Si.1 d with d|d
    .exact h.Zp.low u d
    .simp at d;rcases d with rfl|rfl<;>trivial
   .rcases Si.1 d with d|d
    .exact h.Zp.norel u d a
    .exact S0 u d _
   .show Ys _ _ (Zt (Zt c.H (.inl i) Z) (.inl gs.size) aa a);by_cases Ρ:a=.inl gs.size
    .subst Ρ;rw[Yj];exact(((h.Zp.perms (.inl i)).others aJ λu d x B=>by rw[nt u d] at B;cases B):Ys _ (Knows _ gs.size) _).sub W.r
    .rw[Zs _ _ Ρ];by_cases F:a=.inl i
     .subst F;rw[Yj];exact(aK (.inl i)).sub W.l
     .rw[Zs _ _ F];exact aK a
   .have:=aw j b v hv;rcases S6 C with af|⟨_,u,d,_,B⟩
    .exact h.Zp.Sd j b v this k a af
    .rw[nt u d] at B;cases B
   .rcases S6 C with af|⟨_,u,d,_,B⟩
    .rcases h.Zp.cont ai o' b ax K k a af a7 with x|⟨x,a8⟩
     .exact .inl x
     .obtain⟨u,a9,_⟩:=touch_of af;exact .inr ⟨x,by rw[g?_old (lt_size_of_getElem? a9)];exact a8⟩
    .rw[nt u d] at B;cases B
   .have F:Deaf (t++#[y,z]) j=Deaf t j:=by
     have e:t++#[y,z]=(t++#[y])++#[z]:=by rw[OJ];rfl
     rw[e,Deaf_push,Deaf_push];simp[deafStep,y,z]
    rw[F];by_cases e:j=gs.size
    .subst e;rw[aG];exact(upd_same ..).symm
    .rw[h.Zp.hears];exact(upd_ne _ _ e).symm
  .have aL:∀b,Zt (Zt c.H (.inl i) Z) (.inl gs.size) aa (.inr b)=c.H (.inr b):=λb=>by rw[Vw,Vw]
   refine⟨λr q m M aC aj a'=>?_,λr q M aj=>?_⟩
   .show q.XI q.L (Zt (Zt c.H (.inl i) Z) (.inl gs.size) aa (.inr m));rw[aL];exact h.XY.RE r q m M aC (λj q p x=>aj j q p ((aA j r q p).2 x)) λj k L g x=>a' j k L g (a2 _ _ _ _ _ x)
   .show T6 q.D q.R (Zt (Zt c.H (.inl i) Z) (.inl gs.size) aa (.inr r));rw[aL];exact h.XY.R8 r q M (λj q p x=>aj j q p ((aA j r q p).2 x))
  .rw[aB];refine⟨λk a C=>?_,λj ak A=>?_,λj ak A aj=>?_,λj ak A a b=>?_⟩
   .obtain⟨u,d,al⟩:=S9.1 C;rcases getElem?_append_cases d with⟨_,aD⟩|⟨_,am⟩
    .have:=h.X5.Q1 k a (by simp[Trace.g?,aD,al]);omega
    .simp at am;rcases am with rfl|rfl
     .rw[<-al];show i<gs.size+1;omega
     .rw[<-al];show gs.size<gs.size+1;omega
   .have I:=av j A;rw[ah j I] at A;obtain⟨u,aM,ba,bb,bc,bd⟩:=h.X5.c1 j ak A;have Y:=lt_size_of_getElem? aM;refine⟨u,?_,ba,?_,(heard_old Y).2 bc,λaE af aN=>?_⟩
    .show(t++#[y,z])[c.Xz j]?=some u;rw[getElem?_append_old Y];exact aM
    .show u.act=.mark (.releaseMerge ⟨upd c.home gs.size s j,0,none⟩);rw[upd_ne _ _ I];exact bb
    .obtain⟨bt,d,al⟩:=S9.1 af;rcases getElem?_append_cases d with⟨aO,aD⟩|⟨be,am⟩
     .exact(bd aE (by simp[Trace.g?,aD,al]) ((L1 aO).1 aN)).app _
     .exact absurd aN (Nr nt aE be)
   .have I:=av j A;rw[ah j I] at A;obtain⟨q,ae,M⟩:=aj;have aF:c'.home j=c.home j:=upd_ne _ _ I;rw[aF] at M ⊢;exact(h.X5.c2 j ak A ⟨q,ae,(aA _ _ _ _).1 M⟩).app _
   .have I:=av j A;rw[ah j I] at A;have aF:c'.home j=c.home j:=upd_ne _ _ I;rw[aF] at a b ⊢;have bf:=av _ b;rw[ah _ bf] at b;exact(h.X5.c3 j ak A a b).app _
  .refine⟨λr q bg M bh p u Y an=>?_,λj b v hv u d an=>?_⟩
   .rcases getElem?_append_cases Y with⟨aO,bi⟩|⟨_,am⟩
    .obtain⟨⟨aE,bu,g,V⟩,ag⟩:=h.Wp.Ot r q bg M bh p u bi an;have I:u.g≠gs.size:=λe=>by rw[e,h.Y4.out _ r (Z6 _)] at V;cases V
     refine⟨?_,λX=>?_⟩
     .rw[show c'.tok u.g=Zk c.tok i s (.par n _ .add) u.g from au _ I];exact LX ab (λ_ _ _ e=>by cases e) _ _ _ _ _ V
     .rw[ah _ I] at X;exact(ag X).app _
    .exact absurd an (S0 u am _)
   .rcases Si.1 d with d|d
    .exact h.Wp.Oq j b v (aw j b v hv) u d an
    .exact S0 u d _ an
  .intro j b K;by_cases e:j=gs.size
   .subst e;rw[ND] at K;simp at K;subst K;refine⟨S,?_,.inl U⟩;have B:c'.x gs.size=ar:=by simp[c',ar,E,YE.x,upd_same]
    have ao:c'.T gs.size=f (false,S,ar):=upd_same ..
    have aC:(gs.size==0)=false:=by rw[beq_eq_false_iff_ne];exact Nat.ne_of_gt h.pos
    rw[B,ao,aC];exact aS
   .have ay:(gs.setIfInBounds i g')[j]?=some b:=by
     rw[ND] at K;simpa[e] using K
    by_cases F:j=i
    .subst F;rw[Tc aT] at ay;cases ay;refine⟨g',?_,.inl U⟩;have B:c'.x j=aq:=by simp[c',aq,E,YE.x,upd_same,upd_ne _ _ e,On,Zs _ _ aH]
     have ao:c'.T j=f (j==0,g',aq):=by show upd (upd c.T j _) gs.size _ j=_;rw[upd_ne _ _ e,upd_same]
     rw[B,ao];exact aR
    .rw[UC (YF F)] at ay;obtain⟨bj,bk,bl⟩:=h.Oo j b ay;have bm:(Sum.inl j:YT)≠.inl gs.size:=λx=>e (by cases x;rfl);have bn:(Sum.inl j:YT)≠.inl i:=λx=>F (by cases x;rfl);have B:c'.x j=c.x j:=by simp[c',E,YE.x,upd_ne _ _ e,upd_ne _ _ F,Qc _ F,Zs _ _ bm,Zs _ _ bn]
     have ao:c'.T j=c.T j:=by show upd (upd c.T i _) gs.size _ j=_;rw[upd_ne _ _ e,upd_ne _ _ F]
     have bo:c'.tok j=c.tok j:=congrArg ZU.tok B;refine⟨bj,by rw[B,ao];exact bk,?_⟩;rw[bo];exact bl
 refine λsl=>⟨c',_,w,_,runT_crowd_spawn az ad,?_,.inr (.inl ⟨Ω,_,_,U⟩)⟩;rw[aZ];exact a5
end
theorem zM (sp:Spec):YN (Z'.new sp)=0:=by simp[YN,Z'.new]
theorem zL (sp:Spec):mwd (Z'.new sp)=0:=by simp[mwd,Z'.new]
section
variable {P:Program} {Q:Value->Prop} {Zw:World} {c c':YE} {gs:Array Goroutine} {w w':World} {t:Trace} {i:Nat} {g g':Goroutine} {es:Array Event}
variable {f:Bool×Goroutine×ZU->WV (Bool×Goroutine×ZU)}
theorem Inv.seen (h:Inv P Q Zw c gs w t) (k:gs[i]?=some g)
  (mem:Wq c'.H c'.Z4 c'.O Zw w) (hold:VK c'.H c'.Z4 c'.O Zw.heap.size) (Zp:Vx c'.H c'.Z4 c'.tok c'.O c'.Zl c'.deaf w.heap.size t)
  (Y4:XP gs.size c'.tok c'.spec c'.view c'.rel c'.O c'.Zl c'.home) (XY:Nv c'.H c'.tok c'.O) (X5:Ou gs.size c'.tok c'.rel c'.Zl c'.home c'.Xz t) (Wp:Nu c'.Z4 c'.tok c'.O c'.rel c'.Xz t)
  (l:Rec P Q c' i g) (m:∀j,j≠i->c'.x j=c.x j/\c'.T j=c.T j) (n:∀s o,c.O s=some o->c'.O s=some o):Inv P Q Zw c' gs w t:=by
 refine⟨h.pos,mem,hold,Zp,Y4,XY,X5,Wp,λj b a=>?_⟩;by_cases e:j=i
 .subst e;rw[k] at a;cases a;exact l
 .obtain⟨p,r,u⟩:=h.Oo j b a;obtain⟨d,Ρ⟩:=m j e;have f:c'.tok j=c.tok j:=congrArg ZU.tok d;refine⟨p,by rw[d,Ρ];exact r,u.imp id λ⟨v,y,s,o,A,B,C⟩=>⟨v,y,s,o,n s o A,by rw[f];exact B,by rw[f];exact C⟩⟩
theorem Inv.zK (h:Inv P Q Zw c gs w t) (ah:gs[i]?=some g) {b:Nat} {cs:ζ} {F:TypeId} (I:c.Z4 i b=some (cs,F)) {D:ZU}
  (ai:D={c.x i with Z4:=upd (c.Z4 i) b none,G:=⟨λd o=>if d=b then(cs[o]?).map (·,true) else(c.H (.inl i)).η d o,λd=>if d=b then some (F,cs.size) else(c.H (.inl i)).row d,(c.H (.inl i)).obj⟩}) (aj:Uy P Q f (i==0) g D):Kg P Q Zw c gs w t i f:=by
 let G':Τ:=⟨λd o=>if d=b then(cs[o]?).map (·,true) else(c.H (.inl i)).η d o,λd=>if d=b then some (F,cs.size) else(c.H (.inl i)).row d,(c.H (.inl i)).obj⟩;obtain⟨f1,f2,f3⟩:=h.hold.fresh i b _ I;have Y:=h.mem.TB i b cs F I;have J:∀d o,d≠b->G'.η d o=(c.H (.inl i)).η d o:=λd o e=>by simp[G',e]
 have ak:∀o,G'.η b o=(cs[o]?).map (·,true):=λo=>by simp[G']
 have Z:∀d o,d≠b->(G'.has d o↔(c.H (.inl i)).has d o):=λd o e=>by unfold Τ.has;rw[J d o e]
 have aa:∀d o,d≠b->(G'.owns d o↔(c.H (.inl i)).owns d o):=λd o e=>by unfold Τ.owns;rw[J d o e]
 have al:∀d,G'.Xt d↔(c.H (.inl i)).Xt d:=λd=>Iff.rfl
 have ab:∀d,d≠b->(c.H (.inl i)).off d->G'.off d:=λd e n=>⟨λo am=>n.1 o ((Z d o e).1 am),n.2⟩
 let c':YE:={c with H:=Zt c.H (.inl i) G',Z4:=upd c.Z4 i (upd (c.Z4 i) b none),T:=upd c.T i (f (i==0,g,D))}
 have B:∀j d v,upd c.Z4 i (upd (c.Z4 i) b none) j d=some v->c.Z4 j d=some v/\d≠b:=λj d v hv=>by
  by_cases e:j=i
  .subst e;rw[upd_same] at hv;by_cases m:d=b
   .subst m;rw[upd_same] at hv;cases hv
   .rw[upd_ne _ _ m] at hv;exact⟨hv,m⟩
  .rw[upd_ne _ _ e] at hv;exact⟨hv,λm=>by rw[m,f3 j e] at hv;cases hv⟩
 have an:∀s o d,c.O s=some o->X1 s o.toSpec d->d≠b:=λs o d K C e=>by
  have:=(h.hold.Uz s o d K C).2.2 i;rw[e,I] at this;cases this
 have ad:∀k,k≠.inl i->Apart G' (c.H k):=λk ao=>by
  have a:=h.hold.apart _ _ (YF ao);refine⟨λd o x y=>?_,λd o x y=>?_,λd x y=>a.obj d x y⟩
  .by_cases e:d=b
   .subst e;exact(f2 k).1 o y
   .exact a.η d o ((aa d o e).1 x) y
  .by_cases e:d=b
   .subst e;exact(f2 k).1 o ⟨_,x.choose_spec⟩
   .exact a.Q' d o x ((Z d o e).1 y)
 have ap:c'.x i=D:=by rw[ai];simp[c',G',YE.x,upd_same]
 refine⟨c',h.seen (c':=c') ah ⟨λk=>?_,λj d cs' aq hv=>h.mem.TB j d cs' aq (B j d _ hv).1,h.mem.W7,h.mem.keep⟩
  ⟨λk l N=>?_,λk d o n=>?_,λk d n=>?_,λj d v hv=>?_,λs o d K C=>?_,h.hold.Uk,h.hold.RG,λd C=>?_⟩ ⟨h.Zp.race,h.Zp.low,h.Zp.norel,λk=>?_,λj d v hv=>h.Zp.Sd j d v (B j d v hv).1,h.Zp.cont,h.Zp.hears⟩ h.Y4 (h.XY.L0 λd=>Vw c.H i G' d) h.X5
  ⟨h.Wp.Ot,λj d v hv=>h.Wp.Oq j d v (B j d v hv).1⟩ ⟨g,?_,.inl U⟩ (λj R=>⟨?_,upd_ne _ _ R⟩) λ_ _ a=>a,_,U⟩
 .show Fits (Zt c.H (.inl i) G' k) w;by_cases e:k=.inl i
  .subst e;rw[Yj];have S:=h.mem.fit (.inl i);refine⟨λd o v p r=>?_,λd t' ar L=>?_,S.obj⟩
   .by_cases m:d=b
    .subst m;rw[ak] at r;cases u:cs[o]? with
     | none=>rw[u] at r;cases r
     | some M=>rw[u] at r;cases r;exact SL Y u
    .rw[J d o m] at r;exact S.η d o v p r
   .by_cases m:d=b
    .subst m;simp[G'] at L;obtain⟨rfl,rfl⟩:=L;exact⟨cs,Y,U⟩
    .simp[G',m] at L;exact S.row d t' ar L
  .rw[Zs _ _ e];exact h.mem.fit k
 .show Apart (Zt c.H (.inl i) G' k) (Zt c.H (.inl i) G' l);by_cases e:k=.inl i
  .subst e;rw[Yj,Zs _ _ (YF N)];exact ad l (YF N)
  .rw[Zs _ _ e];by_cases m:l=.inl i
   .subst m;rw[Yj];exact(ad k e).symm
   .rw[Zs _ _ m];exact h.hold.apart k l N
 .replace n:(Zt c.H (.inl i) G' k).owns d o:=n
  by_cases e:k=.inl i
  .subst e;rw[Yj] at n;by_cases m:d=b
   .subst m;exact f1
   .exact h.hold.high _ _ _ ((aa d o m).1 n)
  .rw[Zs _ _ e] at n;exact h.hold.high _ _ _ n
 .replace n:(Zt c.H (.inl i) G' k).Xt d:=n
  by_cases e:k=.inl i
  .subst e;rw[Yj] at n;exact h.hold.SF _ _ ((al d).1 n)
  .rw[Zs _ _ e] at n;exact h.hold.SF _ _ n
 .obtain⟨au,V⟩:=B j d v hv;obtain⟨W,E,X⟩:=h.hold.fresh j d v au;refine⟨W,λk=>?_,λA av=>?_⟩
  .show(Zt c.H (.inl i) G' k).off d;by_cases e:k=.inl i
   .subst e;rw[Yj];exact ab d V (E _)
   .rw[Zs _ _ e];exact E k
  .cases u:c'.Z4 A d with
   | none=>rfl
   | some M=>have:=(B A d M u).1;rw[X A av] at this;cases this
 .obtain⟨W,E,X⟩:=h.hold.Uz s o d K C;have V:=an s o d K C;refine⟨W,λk=>?_,λA=>?_⟩
  .show(Zt c.H (.inl i) G' k).off d;by_cases e:k=.inl i
   .subst e;rw[Yj];exact ab d V (E _)
   .rw[Zs _ _ e];exact E k
  .cases u:c'.Z4 A d with
   | none=>rfl
   | some M=>have:=(B A d M u).1;rw[X A] at this;cases this
 .show Zt c.H (.inl i) G' (.inr d)=Τ.empty;rw[Vw];exact h.hold.XY d C
 .show Ys t (U9 c.tok c.O t k) (Zt c.H (.inl i) G' k);by_cases e:k=.inl i
  .subst e;rw[Yj];have ae:=h.Zp.perms (.inl i);refine⟨λd o v p r k a af ag aw=>?_,ae.obj⟩;by_cases m:d=b
   .exfalso;refine h.Zp.Sd i b _ I k a af ?_;rw[ag];exact m
   .rw[J d o m] at r;exact ae.η d o v p r k a af ag aw
  .rw[Zs _ _ e];exact h.Zp.perms k
 .rw[ap];show U' P Q (upd c.T i (f (i==0,g,D)) i) _ _ _;rw[upd_same];exact aj
 .have ax:(Sum.inl j:YT)≠.inl i:=λx=>R (by cases x;rfl);simp[c',YE.x,upd_ne _ _ R,Zs _ _ ax]
theorem Inv.less (h:Inv P Q Zw c gs w t) (s:gs[i]?=some g) {G':Τ} (d:Sub G' (c.H (.inl i))) (u:Uy P Q f (i==0) g {c.x i with G:=G'}):Kg P Q Zw c gs w t i f:=by
 let l:ZU:={c.x i with G:=G'}
 let c':YE:={c with H:=Zt c.H (.inl i) G',T:=upd c.T i (f (i==0,g,l))}
 have y:c'.x i=l:=by simp[c',l,YE.x]
 have A:upd c.Z4 i (c.Z4 i)=c.Z4:=Ki U
 have m:=h.mem.own h.hold i (Xd.refl _ _ w) (d.fits (h.mem.fit (.inl i))) (h.mem.TB i) U
 have n:=h.hold.own h.mem h.mem.keep.size i (G':=G') (V':=c.Z4 i) ⟨λb o v p B=>.inr (let ⟨C,D,E⟩:=d.η b o v p B;⟨v,C,D,E⟩),λb F=>.inr (d.Xt F)⟩ (λb x I=>.inl I);rw[A] at m n;refine⟨c',h.seen (c':=c') s m n ⟨h.Zp.race,h.Zp.low,h.Zp.norel,λk=>?_,h.Zp.Sd,h.Zp.cont,h.Zp.hears⟩ h.Y4 (h.XY.L0 λJ=>Vw c.H i G' J) h.X5 h.Wp ⟨g,?_,.inl U⟩ (λj r=>⟨?_,upd_ne _ _ r⟩) λ_ _ a=>a,_,U⟩
 .show Ys t (U9 c.tok c.O t k) (Zt c.H (.inl i) G' k);by_cases e:k=.inl i
  .subst e;rw[Yj];exact(h.Zp.perms (.inl i)).sub d
  .rw[Zs _ _ e];exact h.Zp.perms k
 .rw[y];show U' P Q (upd c.T i (f (i==0,g,l)) i) _ _ _;rw[upd_same];exact u
 .have K:(Sum.inl j:YT)≠.inl i:=λx=>r (by cases x;rfl);simp[c',YE.x,Zs _ _ K]
theorem Inv.group (h:Inv P Q Zw c gs w t) (ap:gs[i]?=some g) {s:Nat} {sp:Spec} {aq:TypeId} {G' E:Τ} (B:c.Z4 i s=some (#[.int .u64 0,.int .u32 0],aq)) (ag:∀m,sp.ZK=some m->m≠s/\∃ah,c.Z4 i m=some (#[.int .i32 0,.int .u32 0],ah))
  (aO:c.rel i=false) (I:Split (c.H (.inl i)) G' E) (aP:sp.ZK≠none->sp.XI [] E) {Z:ZU}
  (aQ:Z={c.x i with G:=G',Z4:=λb=>if b=s\/sp.ZK=some b then none else c.Z4 i b,tok:=upd (c.tok i) s (.par 0 0 .add),spec:=upd (c.spec i) s (some sp),view:=upd (c.view i) s none}) (aR:Uy P Q f (i==0) g Z):Kg P Q Zw c gs w t i f:=by
 have aS:i<gs.size:=Tz ap
 have ai:c.O s=none:=by
  cases J:c.O s with
  | none=>rfl
  | some o=>have:=(h.hold.Uz s o s J (.inl rfl)).2.2 i;rw[B] at this;cases this
 have aa:∀b,X1 s sp b->∃v,c.Z4 i b=some v:=λb hb=>by
  rcases hb with rfl|hb
  .exact⟨_,B⟩
  .obtain⟨_,ah,aT⟩:=ag b hb;exact⟨_,aT⟩
 have X:∀r o b,c.O r=some o->X1 r o.toSpec b->¬X1 s sp b:=λr o b d hb ab=>by
  obtain⟨v,hv⟩:=aa b ab;have:=(h.hold.Uz r o b d hb).2.2 i;rw[hv] at this;cases this
 have ar:∀r o,c.O r=some o->r≠s:=λr o d e=>by rw[e,ai] at d;cases d
 let V':Nat->Option (ζ×TypeId):=λb=>if b=s\/sp.ZK=some b then none else c.Z4 i b
 let O':=upd c.O s (some (Z'.new sp))
 have Y:∀j b v,upd c.Z4 i V' j b=some v->c.Z4 j b=some v/\¬X1 s sp b:=λj b v hv=>by
  by_cases e:j=i
  .subst e;rw[upd_same] at hv;by_cases aj:b=s\/sp.ZK=some b
   .simp[V',aj] at hv
   .simp[V',aj] at hv;exact⟨hv,aj⟩
  .rw[upd_ne _ _ e] at hv;refine⟨hv,λhb=>?_⟩;obtain⟨aU,aV⟩:=aa b hb;have:=(h.hold.fresh i b aU aV).2.2 j e;rw[this] at hv;cases hv
 have au:∀j b,c.Z4 j b=none->upd c.Z4 i V' j b=none:=λj b e=>by
  cases J:upd c.Z4 i V' j b with
  | none=>rfl
  | some v=>have:=(Y j b v J).1;rw[e] at this;cases this
 have aW:∀j b,X1 s sp b->upd c.Z4 i V' j b=none:=λj b hb=>by
  cases J:upd c.Z4 i V' j b with
  | none=>rfl
  | some v=>exact absurd hb (Y j b v J).2
 have C:∀r q,O' r=some q->(r=s/\q=Z'.new sp)\/(r≠s/\c.O r=some q):=λr q y=>by
  by_cases e:r=s
  .subst e;rw[show O' r=some (Z'.new sp) from upd_same ..] at y;cases y;exact .inl ⟨U,U⟩
  .rw[show O' r=c.O r from upd_ne _ _ e] at y;exact .inr ⟨e,y⟩
 have av:VK c.H (upd c.Z4 i V') O' Zw.heap.size:=by
  refine⟨h.hold.apart,h.hold.high,h.hold.SF,λj b v hv=>?_,λr o b d hb=>?_,λr r' o o' b d F hb ab=>?_,λr o m d u=>?_,λb hb=>h.hold.XY b λr o d hi=>hb r o (by rw[show O' r=c.O r from upd_ne _ _ (ar r o d)];exact d) hi⟩
  .obtain⟨S,V,al⟩:=h.hold.fresh j b v (Y j b v hv).1;exact⟨S,V,λaw aX=>au aw b (al aw aX)⟩
  .rcases C r o d with⟨rfl,rfl⟩|⟨e,F⟩
   .obtain⟨v,hv⟩:=aa b hb;obtain⟨S,V,_⟩:=h.hold.fresh i b v hv;exact⟨S,V,λj=>aW j b hb⟩
   .obtain⟨S,V,al⟩:=h.hold.Uz r o b F hb;exact⟨S,V,λj=>au j b (al j)⟩
  .rcases C r o d with⟨rfl,rfl⟩|⟨e,ax⟩<;>rcases C r' o' F with⟨rfl,rfl⟩|⟨aj,ay⟩
   .rfl
   .exact absurd hb (X r' o' b ay ab)
   .exact absurd ab (X r o b ax hb)
   .exact h.hold.Uk r r' o o' b ax ay hb ab
  .rcases C r o d with⟨rfl,rfl⟩|⟨e,F⟩
   .exact(ag m u).1
   .exact h.hold.RG r o m F u
 have az:O' s=some (Z'.new sp):=upd_same ..
 have aA:c.H (.inr s)=Τ.empty:=h.hold.XY s λr o d hi=>X r o s d hi (.inl U)
 have aB:∀r q,O' r=some q->At r q w:=λr q y=>by
  rcases C r q y with⟨rfl,rfl⟩|⟨_,K⟩
  .refine⟨⟨aq,?_⟩,λm u=>let ⟨_,ah,hv⟩:=ag m u;⟨ah,?_⟩⟩
   .rw[zM];exact h.mem.TB i r _ _ B
   .rw[zL];exact h.mem.TB i m _ _ hv
  .exact h.mem.W7 _ _ K
 obtain⟨A,aY,aZ,aC,aD,a0,a1,a2⟩:∃A:YT->Τ,A (.inl i)=G'/\(∀j,j≠i->A (.inl j)=c.H (.inl j))/\(∀b,¬X1 s sp b->A (.inr b)=c.H (.inr b))/\(A (.inr s)=Τ.empty/\∀m,sp.ZK=some m->A (.inr m)=E)/\
   VK A (upd c.Z4 i V') O' Zw.heap.size/\Wq A (upd c.Z4 i V') O' Zw w/\∀a,Ys t (U9 (Zk c.tok i s (.par 0 0 .add)) O' t a) (A a):=by
  have am:=h.Zp.perms (.inl i)
  have aE:∀a,(∀b,a=.inr b->¬X1 s sp b)->Ys t (U9 (Zk c.tok i s (.par 0 0 .add)) O' t a) (c.H a):=λa W=>by
   refine(h.Zp.perms a).mono λk M=>?_;cases a with
   | inl j=>exact M
   | inr b=>
    refine M.imp id λM r o d hb j n=>?_;rcases C r o d with⟨rfl,rfl⟩|⟨e,F⟩
    .exact absurd hb (W b U)
    .rw[Xy _ (λx=>e x.2)] at n;exact M r o F hb j n
  have aF:Wq c.H (upd c.Z4 i V') c.O Zw w:=h.mem.Np λj b v hv=>(Y j b v hv).1
  have aG:(Sum.inl i:YT)≠.inr s:=Ω;cases u:sp.ZK with
  | none=>
   refine⟨Zt (Zt c.H (.inl i) G') (.inr s) Τ.empty,?_,λj n=>?_,λb hb=>?_,⟨Yj ..,λm e=>(by cases e)⟩,?_,aF.two (I.l.fits (h.mem.fit (.inl i))) (Ov w) aB,λa=>?_⟩
   .rw[Zs _ _ aG,Yj]
   .rw[Zs _ _ Ω,Zs _ _ (λe=>n (by cases e;rfl))]
   .have:(Sum.inr b:YT)≠.inr s:=λe=>hb (by cases e;exact .inl U);rw[Zs _ _ this,Vw]
   .exact av.two aG I.l.Q2 (Sub.empty _) (Apart.Pn _) ⟨λs o B=>⟨o,B,U⟩,λs o B=>⟨o,B,U⟩⟩ λx J=>by
     rcases J with e|e
     .cases e;exact⟨s,_,az,.inl U⟩
     .cases e
   .by_cases Ρ:a=.inr s
    .subst Ρ;rw[Yj];exact Ys.empty
    .rw[Zs _ _ Ρ];by_cases ad:a=.inl i
     .subst ad;rw[Yj];exact am.sub I.l
     .rw[Zs _ _ ad];refine aE a λb e hb=>?_;subst e;rcases hb with rfl|hb
      .exact Ρ U
      .rw[u] at hb;cases hb
  | some m=>
   have a3:=(ag m u).1
   have aH:(Sum.inl i:YT)≠.inr m:=Ω;refine⟨Zt (Zt c.H (.inl i) G') (.inr m) E,?_,λj n=>?_,λb hb=>?_,⟨?_,λa' e=>?_⟩,?_,aF.two (I.l.fits (h.mem.fit (.inl i))) (I.r.fits (h.mem.fit (.inl i))) aB,λa=>?_⟩
   .rw[Zs _ _ aH,Yj]
   .rw[Zs _ _ Ω,Zs _ _ (λe=>n (by cases e;rfl))]
   .have:(Sum.inr b:YT)≠.inr m:=λe=>hb (by cases e;exact .inr u);rw[Zs _ _ this,Vw]
   .have:(Sum.inr s:YT)≠.inr m:=λe=>a3 (by cases e;rfl);rw[Zs _ _ this,Vw];exact aA
   .cases e;rw[Yj]
   .exact av.two aH I.l.Q2 I.r.Q2 I.apart ⟨λs o B=>⟨o,B,U⟩,λs o B=>⟨o,B,U⟩⟩ λx J=>by
     rcases J with e|e
     .cases e;exact⟨s,_,az,.inr u⟩
     .cases e
   .by_cases Ρ:a=.inr m
    .subst Ρ;rw[Yj];refine(am.sub I.r).mono λk M=>.inr λr o d hb j n=>?_;rcases C r o d with⟨rfl,rfl⟩|⟨e,F⟩
     .by_cases e:j=i
      .subst e;exact M
      .rw[Qc _ e,h.Y4.bare r ai j] at n;exact absurd U n
     .exact absurd (.inr u) (X r o m F hb)
    .rw[Zs _ _ Ρ];by_cases ad:a=.inl i
     .subst ad;rw[Yj];exact am.sub I.l
     .rw[Zs _ _ ad];by_cases aI:a=.inr s
      .subst aI;rw[aA];exact Ys.empty
      .refine aE a λb e hb=>?_;subst e;rcases hb with rfl|hb
       .exact aI U
       .rw[u] at hb;cases hb;exact Ρ U
 let c':YE:={c with H:=A,Z4:=upd c.Z4 i V',tok:=Zk c.tok i s (.par 0 0 .add),spec:=upd c.spec i (upd (c.spec i) s (some sp)),view:=upd c.view i (upd (c.view i) s none),O:=O',Zl:=upd c.Zl s i,T:=upd c.T i (f (i==0,g,Z))}
 have a4:c'.x i=Z:=by rw[aQ];simp[c',V',YE.x,upd_same,On,aY]
 have ae:∀j r,r≠s->Zk c.tok i s (.par 0 0 .add) j r=c.tok j r:=λj r d=>Xy _ λx=>d x.2
 have aJ:∀j,j≠0->c.rel j=true->c.home j≠s:=λj N n e=>by
  obtain⟨an,S,V,_⟩:=h.X5.c1 j N n;have a5:=h.X5.Q1 (c.Xz j) j (by simp[Trace.g?,S,V]);obtain⟨k,m,g,M⟩:=h.Y4.Qe j N a5;rw[e,h.Y4.bare s ai j] at M;cases M
 refine⟨c',h.seen (c':=c') ap a1 a0 ⟨h.Zp.race,h.Zp.low,h.Zp.norel,a2,λj b v hv=>h.Zp.Sd j b v (Y j b v hv).1,λr o b d hb k a W aK=>?_,h.Zp.hears⟩ (h.Y4.zP ai aS aO sp) ⟨λr q m y u af a6=>?_,λr q y af=>?_⟩
  ⟨h.X5.Q1,h.X5.c1,λj N n af=>?_,λj N n a b=>?_⟩ ⟨λr q m y u p an aL W=>?_,λj b v hv=>h.Wp.Oq j b v (Y j b v hv).1⟩ ⟨g,?_,.inl U⟩ (λj n=>⟨?_,upd_ne _ _ n⟩) (λr o d=>?_),_,U⟩
 .rcases C r o d with⟨rfl,rfl⟩|⟨e,F⟩
  .obtain⟨v,hv⟩:=aa b hb;exact absurd aK (h.Zp.Sd i b v hv k a W)
  .have:=h.Zp.cont r o b F hb k a W aK
   show _\/(_/\_=some (upd c.Zl s i r));rw[upd_ne _ _ e];exact this
 .rcases C r q y with⟨rfl,rfl⟩|⟨e,K⟩
  .show sp.XI [] (A (.inr m));rw[aD.2 m u];exact aP (by have:sp.ZK=some m:=u;rw[this];simp)
  .show q.XI q.L (A (.inr m));rw[aC m (X r q m K (.inr u))];exact h.XY.RE r q m K u (λj ao p x=>af j ao p (by show Zk c.tok i s _ j r=_;rw[ae j r e];exact x)) λj k L g x=>a6 j k L g (by show Zk c.tok i s _ j r=_;rw[ae j r e];exact x)
 .rcases C r q y with⟨rfl,rfl⟩|⟨e,K⟩
  .show T6 sp.D [] (A (.inr r));rw[aD.1];rfl
  .show T6 q.D q.R (A (.inr r));rw[aC r (X r q r K (.inl U))];exact h.XY.R8 r q K λj ao p x=>af j ao p (by show Zk c.tok i s _ j r=_;rw[ae j r e];exact x)
 .obtain⟨q,p,y⟩:=af;have e:=aJ j N n;have ak:c'.Zl (c.home j)=c.Zl (c.home j):=upd_ne _ _ e;show Knows t (c'.Zl (c.home j)) (c.Xz j);rw[ak];refine h.X5.c2 j N n ⟨q,p,?_⟩;have:Zk c.tok i s (.par 0 0 .add) (c'.Zl (c.home j)) (c.home j)=.par q p .ZO:=y
  rwa [ae _ _ e,ak] at this
 .have e:=aJ j N n
  have ak:c'.Zl (c.home j)=c.Zl (c.home j):=upd_ne _ _ e
  show Before t (c.Xz j) (c.Xz (c'.Zl (c.home j)))
  have aM:c'.Zl (c.home j)≠0:=a
  have aN:c.rel (c'.Zl (c.home j))=true:=b;rw[ak] at aM aN ⊢;exact h.X5.c3 j N n aM aN
 .rcases C r q y with⟨rfl,rfl⟩|⟨e,K⟩
  .obtain⟨v,hv⟩:=aa m (.inr u);exact absurd W (h.Wp.Oq i m v hv an (mem_of_getElem? aL))
  .obtain⟨⟨k,a7,g,a8⟩,a9⟩:=h.Wp.Ot r q m K u p an aL W;exact⟨⟨k,a7,g,by show Zk c.tok i s _ _ r=_;rw[ae _ r e];exact a8⟩,a9⟩
 .rw[a4];show U' P Q (upd c.T i (f (i==0,g,Z)) i) _ _ _;rw[upd_same];exact aR
 .simp[c',YE.x,upd_ne _ _ n,Qc _ n,aZ j n]
 .show O' r=some o;rw[show O' r=c.O r from upd_ne _ _ (ar r o d)];exact d
theorem Inv.ghost (h:Inv P Q Zw c gs w t) (d:gs[i]?=some g) (j:HL (i==0) (Uy P Q f) g (c.x i)):Kg P Q Zw c gs w t i f:=by
 rcases j with⟨G',a,e⟩|⟨b,cs,k,a,e⟩|⟨s,sp,k,G',E,a,l,m,n,o,p⟩
 .exact h.less d a e
 .exact h.zK d a U e
 .exact h.group d a l m n o U p
end
section
variable {P:Program} {Q:Value->Prop} {Zw:World} {c c':YE} {gs:Array Goroutine} {w w':World} {t:Trace} {i:Nat} {g g':Goroutine} {es:Array Event}
theorem Inv.step (h:Inv P Q Zw c gs w t) (b:gs[i]?=some g) (k:g.status=.running):(∃v es,i=0/\stepG P true g w=.ended (.done v) w es/\∀sl w1,Good P (λv w'=>Q v/\Xd (λ_ _=>False) (λ_=>False) Zw w') (crowd gs w1 sl) (.done v) w (t++MemOp.ofEvents 0 g.frame.fn g.frame.place es))\/
  ∃f,c.T i=.node f/\(VZ P Q Zw c gs w t i f\/HL (i==0) (Uy P Q f) g (c.x i)):=by
 obtain⟨A,j,p⟩:=h.Oo i g b;rcases p with rfl|⟨_,rfl,_⟩
 .have l:Kn P (i==0) g (c.x i) Q->(∃v es,i=0/\stepG P true g w=.ended (.done v) w es/\∀sl w1,Good P (λv w'=>Q v/\Xd (λ_ _=>False) (λ_=>False) Zw w') (crowd gs w1 sl) (.done v) w (t++MemOp.ofEvents 0 g.frame.fn g.frame.place es)):=λd=>by
   rcases d with⟨r,d⟩|⟨_,d⟩
   .have e:i=0:=by simpa using r
    subst e;obtain⟨v,es,m,B⟩:=h.EY b d none w;refine⟨v,es,U,m,λsl w1=>?_⟩;obtain⟨C,es',n,s⟩:=h.EY b d sl w1;rw[m] at n;cases n;exact s
   .rw[d.2.2.1] at k;cases k
  cases o:c.T i with
  | leaf=>rw[o] at j;exact .inl (l j.2)
  | node f=>
   have u:=j;rw[o] at j;rcases j.2 with d|a
   .exact .inl (l d)
   .refine .inr ⟨f,U,?_⟩;rcases a with a|⟨y,a⟩
    .exact .inl (h.quits b a)
    .rcases a with a|a|a|a|a|a|a|a|a|a
     .exact .inl (h.HJ b a)
     .exact .inl (h.zW b a)
     .exact .inl (h.zV b a)
     .exact .inl (h.atom b y u a)
     .exact .inl (h.Ke b a)
     .exact .inl (h.HE b a)
     .exact .inl (h.HD b a)
     .exact .inl (h.Kd b a)
     .exact .inl (h.HC b a)
     .exact .inr a
 .cases k
theorem Inv.zJ (h:Inv P Q Zw c gs w t):∀g∈gs,Go.Conc.awake g:=λg b=>by
 obtain⟨j,d⟩:=KL.1 b;intro t' a;rcases h.stat d with e|⟨_,e,_⟩|⟨e,_⟩<;>rw[e] at a<;>cases a
theorem Inv.comes:∀(L:List (WV (Bool×Goroutine×ZU))) (k:Nat) (c:YE) (b:ο) (gs:Array Goroutine) (w:World) (t:Trace) (sl:Option (Nat×Nat)),b.map c.T=L->Ord b gs.size->Nt gs=k->Inv P Q Zw c gs w t->Comes P Q Zw (crowd gs w sl) t:=by
 intro L
 induction L using (S4.wf (B:=Bool×Goroutine×ZU)).induction with
 | _ L p=>
  intro k
  induction k using Nat.strongRecOn with
  | _ k C=>
   intro c b gs w t sl D e E h;subst D E;obtain⟨i,g,d,j,n,F,o⟩:=crowd_pick (P:=P) (w:=w) (sl:=sl) h.zJ h.awake;have H:=h.at d;have r:i<gs.size:=Tz n;rcases H.step n F with⟨v,es,rfl,I,J⟩|⟨f,s,x⟩
   .have y:=runT_many_ended (sl:=j) n (by simpa using I);rw[y] at o;exact Comes.last o (J sl w)
   .rcases x with x|K
    .obtain⟨c',A,w',u,y,l,M⟩:=x j;rw[y] at o;refine Comes.next o ?_;rcases M with⟨m,kk,a⟩|⟨m,kk,N,a⟩|⟨m,a,O⟩
     .exact p _ (by rw[a];exact e.one r s kk) _ c' b A w' _ j U (by rw[m];exact e) U l
     .obtain⟨R,S,V⟩:=e.two r s kk N;exact p _ (by rw[a];exact V) _ c' R A w' _ j U (by rw[m];exact S) U l
     .exact C _ O c' b A w' _ j (by rw[a]) (by rw[m];exact e) U l
    ·
     obtain⟨c',l,kk,a⟩:=h.ghost (f:=f) n K;exact p _ (by rw[a];exact e.one r s kk) _ c' b gs w t sl U e U l
end
def Τ.T5 (w:World):Τ:=
 ⟨λb o=>match w.heap[b]? with|some (.cells c _ _)=>(c[o]?).map (·,false)|_=>none,
  λb=>match w.heap[b]? with|some (.cells c t a)=>if a=(0,0) then some (t,c.size) else none|_=>none,λ_=>none⟩
theorem Τ.zI (w:World):Fits (Τ.T5 w) w:=by
 refine⟨λb o v p h=>?_,λb t n h=>?_,λb x h=>(by cases h)⟩
 .simp only[Τ.T5] at h;cases a:w.heap[b]? with
  | none=>rw[a] at h;cases h
  | some x=>
   rw[a] at h;cases x with
   | cells c t f=>
    simp only at h;cases d:c[o]? with
    | none=>rw[d] at h;cases h
    | some g=>rw[d] at h;cases h;exact SL a d
   | _=>cases h
 .simp only[Τ.T5] at h;cases a:w.heap[b]? with
  | none=>rw[a] at h;cases h
  | some x=>
   rw[a] at h;cases x with
   | cells c t' f=>
    simp only at h;split at h
    .rename_i e;cases h;exact⟨c,by rw[e],U⟩
    .cases h
   | _=>cases h
theorem Τ.zH (w:World) (b o:Nat):¬(Τ.T5 w).owns b o:=λ⟨v,h⟩=>by
 simp only[Τ.T5] at h;cases a:w.heap[b]? with
 | none=>rw[a] at h;cases h
 | some x=>
  rw[a] at h;cases x with
  | cells c t e=>
   simp only at h;cases d:c[o]? with
   | none=>rw[d] at h;cases h
   | some f=>rw[d] at h;cases h
  | _=>cases h
def ZU.start (w:World):ZU:=⟨Τ.T5 w,λ_=>none,λ_=>.nil,λ_=>none,λ_=>none,0,false⟩
theorem Goes.comes {P:Program} {A:Value->Prop} {g:Goroutine} {w:World} (h:Goes P A true g (ZU.start w)):Comes P A w (solo g w) #[]:=by
 obtain⟨T,J⟩:=h;let c:YE:={H:=Zt (λ_=>Τ.empty) (.inl 0) (Τ.T5 w),Z4:=λ_ _=>none,tok:=λ_ _=>.nil,spec:=λ_ _=>none,view:=λ_ _=>none,deaf:=λ_=>0,rel:=λ_=>false,T:=λ_=>T,O:=λ_=>none,Zl:=λ_=>0,home:=λ_=>0,Xz:=λ_=>0};have K:c.x 0=ZU.start w:=by simp[c,YE.x,ZU.start]
 have y:∀k,k≠.inl 0->c.H k=Τ.empty:=λk B=>Zs (λ_=>Τ.empty) (Τ.T5 w) B
 have C:c.H (.inl 0)=Τ.T5 w:=Yj (λ_=>Τ.empty) (.inl 0) (Τ.T5 w)
 have D:∀k b o,¬(c.H k).owns b o:=λk b o f=>by
  by_cases e:k=.inl 0
  .subst e;rw[C] at f;exact Τ.zH w b o f
  .rw[y k e] at f;obtain⟨v,hv⟩:=f;cases hv
 have F:∀k b,¬(c.H k).Xt b:=λk b f=>by
  by_cases e:k=.inl 0
  .subst e;rw[C] at f;obtain⟨v,hv⟩:=f;cases hv
  .rw[y k e] at f;obtain⟨v,hv⟩:=f;cases hv
 have R:∀i:Nat,(#[]:Trace)[i]?=none:=λi=>Ω
 have I:(#[g]:Array Goroutine).size=1:=rfl
 have M:Inv P A w c #[g] w #[]:=by
  refine⟨Ω,⟨λk=>?_,λj b c t r=>(by cases r),λs o d=>(by cases d),Xd.refl _ _ _⟩,
   ⟨λk l _=>⟨λb o f=>absurd f (D k b o),λb o f=>absurd f (D l b o),λb f=>absurd f (F k b)⟩,λk b o f=>absurd f (D k b o),λk b f=>absurd f (F k b),λj b v hv=>(by cases hv),λs o b d=>(by cases d),λs S o o' b d=>(by cases d),λs o m d=>(by cases d),λb _=>y _ Ω⟩,
   ⟨λV ⟨i,j,_,⟨a,b,u,_⟩,_⟩=>(by simp[Trace.act?] at u),λN E=>(by simp at E),λN E=>(by simp at E),λk=>⟨λb o v p _ i a u=>(by simp[touchAt,Trace.act?] at u),λb _ i a u=>(by simp[touchAt,Trace.act?] at u)⟩,λj b v hv=>(by cases hv),λs o b d=>(by cases d),λj=>rfl⟩,
   ?_,⟨λs o m d=>(by cases d),λs o d=>(by cases d)⟩,⟨λk a B=>(by simp[Trace.g?] at B),λj _ n=>(by cases n),λj _ n=>(by cases n),λj _ n=>(by cases n)⟩,⟨λs o m d=>(by cases d),λj b v hv=>(by cases hv)⟩,λj b r=>?_⟩
  .by_cases e:k=.inl 0
   .subst e;rw[C];exact Τ.zI w
   .rw[y k e];exact Ov w
  .exact⟨λs o d=>(by cases d),λs _ j=>rfl,λj s _=>rfl,λj s sp d=>(by cases d),λj s φ o d=>(by cases d),λj s k L g o d=>(by cases d),λj s m p Q d=>(by cases d),λj s k m g d=>(by cases d),λj W n=>(by rw[I] at n;omega),λj k m g _ d=>(by cases d),U,λj s d=>(by cases d),λj s k m g o d=>(by cases d),λs j X k m g Y g' d=>(by cases d),λs j k m g q p Q d=>(by cases d),λs o d=>(by cases d),λs o d=>(by cases d)⟩
  .have n:j=0:=by have:=Tz r;rw[I] at this;omega
   subst n;simp at r;subst r;exact⟨g,by rw[K];exact J,.inl U⟩
 rw[solo_eq_crowd];exact Inv.comes _ _ c [0] #[g] w #[] none U ⟨Ω,λi=>Ω⟩ U M
def Τ.fresh (G:Τ) (r:Nat):Prop:=(∀o,G.η r o=none)/\G.row r=none/\G.obj r=none/\∀b,r<b->(∀o,G.η b o=none)/\G.row b=none/\G.obj b=none
def Τ.Om (G:Τ) (a:Addr) (v:Value):Τ:={G with η:=λb o=>if b=a.block/\o=a.off then some (v,true) else G.η b o}
def Τ.Ym (G:Τ) (r:Nat) (c:ζ) (t:TypeId):Τ:=⟨λb o=>if b=r then(c[o]?).map (·,true) else G.η b o,λb=>if b=r then some (t,c.size) else G.row b,G.obj⟩
def Τ.Zx (G:Τ) (r:Nat) (x:Obj):Τ:={G with obj:=λb=>if b=r then some x else G.obj b}
def One:Value->Prop
 | .agg _|.tuple _=>False
 | _=>True
def Φ {b:Type} (P:Program):Sem b->Τ->(b->Τ->Prop)->(Value->Τ->Prop)->Prop
 | .pure a,G,K,_=>K a G
 | .load m a k,G,K,E=>m=.plain/\a.spot=none/\∃v p,G.η a.block a.off=some (v,p)/\Φ P (k v) G K E
 | .store m a v k,G,K,E=>m=.plain/\a.spot=none/\G.owns a.block a.off/\(∃t n,G.row a.block=some (t,n))/\One v/\Φ P k (G.Om a v) K E
 | .new (.cells c t d) k,G,K,E=>d=(0,0)/\∀r,G.fresh r->Φ P (k r) (G.Ym r c t) K E
 | .new o k,G,K,E=>∀r,G.fresh r->Φ P (k r) (G.Zx r o) K E
 | .shape r k,G,K,E=>∃t n,G.row r=some (t,n)/\Φ P (k (some (t,n))) G K E
 | .freeze _ _ _,_,_,_=>False
 | .frozen a k,G,K,E=>(∃t n,G.row a.block=some (t,n))/\Φ P (k false) G K E
 | .getObj r k,G,K,E=>∃o,G.obj r=some o/\o.isChan=false/\Φ P (k o) G K E
 | .setObj r o k,G,K,E=>G.Xt r/\Obj.Qh o=false/\o.isChan=false/\Φ P k (G.Zx r o) K E
 | .choose q k,G,K,E=>if q.forced then Φ P (k 0) G K E else ∀n,Φ P (k (q.cut n)) G K E
 | .sys _ _,_,_,_=>False
 | .program k,G,K,E=>Φ P (k P) G K E
 | .mark m k,G,K,E=>m=.noRoom/\Φ P k G K E
 | .halt (.panic v),G,_,E=>E v G
 | .halt _,_,_,_=>False
structure Ye (G0:Τ) (w0:World) (G:Τ) (w:World) (es:Array Event):Prop where
 fit:Fits G w
 keeps:Xd G0.owns G0.Xt w0 w
 Uw:Kp G0 G w0.heap.size
 Pl:∀e∈es,Wf G0 w0.heap.size w.heap.size e
theorem Ye.start {G:Τ} {w:World} (h:Fits G w):Ye G w G w #[]:=
 ⟨h,Xd.refl _ _ _,⟨λb o v p h=>.inr ⟨v,p,h,id⟩,λb h=>.inr h⟩,λe a=>by simp at a⟩
section
variable {G0 G:Τ} {w0 w:World} {es:Array Event}
theorem Fits.bare (h:Fits G w) {b:Nat} (d:w.heap.size<=b):(∀o,G.η b o=none)/\G.row b=none/\G.obj b=none:=by
 refine⟨λo=>?_,?_,?_⟩
 .cases a:G.η b o with
  | none=>rfl
  | some x=>obtain⟨c,t,e,d,_⟩:=Q9 (h.η _ _ x.1 x.2 a);have:=Xc d;omega
 .cases a:G.row b with
  | none=>rfl
  | some x=>obtain⟨c,d,_⟩:=h.row _ x.1 x.2 a;have:=Xc d;omega
 .cases a:G.obj b with
  | none=>rfl
  | some x=>have:=Xc (h.obj _ x a).1;omega
theorem Fits.fresh (h:Fits G w):G.fresh w.heap.size:=
 ⟨(h.bare (Z6 _)).1,(h.bare (Z6 _)).2.1,(h.bare (Z6 _)).2.2,λ_ a=>h.bare (SM a)⟩
theorem Τ.HB {H H':Τ} (c:∀b o,H'.η b o=none->H.η b o=none) (d:∀b,H'.row b=none->H.row b=none) (e:∀b,H'.obj b=none->H.obj b=none) (r:Nat) (h:H'.fresh r):H.fresh r:=
 ⟨λo=>c _ _ (h.1 o),d _ h.2.1,e _ h.2.2.1,λb a=>⟨λo=>c _ _ ((h.2.2.2 b a).1 o),d _ (h.2.2.2 b a).2.1,e _ (h.2.2.2 b a).2.2⟩⟩
theorem Τ.ER {H:Τ} {r:Nat} (a:H.fresh r) (c:ζ) (t:TypeId):∀b,(H.Ym r c t).fresh b->H.fresh b:=
 Τ.HB (λb o h=>by
  by_cases e:b=r
  .subst e;exact a.1 o
  .simpa[Τ.Ym,e] using h) (λb h=>by
  by_cases e:b=r
  .subst e;exact a.2.1
  .simpa[Τ.Ym,e] using h) (λb h=>h)
theorem Τ.HA {H:Τ} {r:Nat} {x:Obj}:∀b,(H.Zx r x).fresh b->H.fresh b:=
 Τ.HB (λb o h=>h) (λb h=>h) (λb h=>by
  by_cases e:b=r
  .subst e;simp[Τ.Zx] at h
  .simpa[Τ.Zx,e] using h)
theorem Wf.mono {n b c:Nat} {e:Event} (h:Wf G n b e) (f:b<=c):Wf G n c e:=by
 obtain⟨d,wr,g⟩:=e;cases d with
 | cell a=>exact h.imp (λx=>⟨x.1,J⟩) id
 | obj r=>exact⟨h.1,h.2.imp (λx=>⟨x.1,J⟩) id⟩
 | _=>exact h
theorem Ye.read (h:Ye G0 w0 G w es) {a:Addr} {v:Value} {p:Bool} (g:a.spot=none) (d:G.η a.block a.off=some (v,p)):w.cell? a=some v/\Ye G0 w0 G w (es.push ⟨.cell a,false,false⟩):=by
 obtain⟨b,o,sp⟩:=a;simp only at g d;subst g;have hv:=h.fit.η b o v p d;refine⟨hv,h.fit,h.keeps,h.Uw,λe f=>?_⟩;rcases NA.1 f with f|rfl
 .exact h.Pl e f
 .rcases h.Uw.η b o v p d with i|⟨l,m,j,_⟩
  .obtain⟨c,t,n,k,_⟩:=Q9 hv;exact .inl ⟨i,Xc k⟩
  .exact .inr ⟨U,_,j⟩
theorem heap_setCell {a:Addr} {v:Value} {c:ζ} {t:TypeId} {f:Nat×Nat} (g:a.spot=none) (d:w.heap[a.block]?=some (.cells c t f)):(w.setCell a v).heap=w.heap.setIfInBounds a.block (.cells (c.setIfInBounds a.off v) t f):=by
 obtain⟨b,o,sp⟩:=a;simp only at g d;subst g;have h:=Xc d;simp only[World.setCell];apply NC;intro j;rw[Array.getElem?_modify];by_cases e:b=j
 .subst e;rw[Tc h,if_pos U,d];simp
 .rw[UC e,if_neg e]
theorem Ye.write (h:Ye G0 w0 G w es) {a:Addr} {v:Value} (L:a.spot=none) (M:G.owns a.block a.off):(∃u,w.cell? a=some u)/\Ye G0 w0 (G.Om a v) (w.setCell a v) (es.push ⟨.cell a,true,false⟩):=by
 obtain⟨b,o,sp⟩:=a;simp only at L M;subst L;obtain⟨u,B⟩:=M;have hv:=h.fit.η b o u true B;obtain⟨c,t,X,k,Y⟩:=Q9 hv;have N:=Xc k;have C:=heap_setCell (w:=w) (a:=⟨b,o,none⟩) (v:=v) U k;have O:(w.setCell ⟨b,o,none⟩ v).heap.size=w.heap.size:=by rw[C];simp
 have p:(w.setCell ⟨b,o,none⟩ v).heap[b]?=some (.cells (c.setIfInBounds o v) t X):=by rw[C,Tc N]
 have m:∀j,b≠j->(w.setCell ⟨b,o,none⟩ v).heap[j]?=w.heap[j]?:=λj Z=>by rw[C,UC Z]
 have aa:o<c.size:=(TJ.1 Y).1
 have P:b<w0.heap.size->G0.owns b o:=λr=>by
  rcases h.Uw.η b o u true B with s|⟨D,Q,E,F⟩
  .omega
  .exact⟨D,by rw[E,F U]⟩
 refine⟨⟨u,hv⟩,⟨λd o' H I i=>?_,λd t' ab ad=>?_,λd x y=>?_⟩,⟨by rw[O];exact h.keeps.size,λd c' t' ae A=>?_,λd x A y s=>?_,h.keeps.os,h.keeps.output,h.keeps.tape⟩,⟨λd o' H I i=>?_,h.Uw.obj⟩,λe J=>?_⟩
 .simp only[Τ.Om] at i;by_cases e:d=b/\o'=o
  .obtain⟨rfl,rfl⟩:=e;rw[if_pos ⟨U,rfl⟩] at i;cases i;exact SL p (by rw[Tc aa])
  .rw[if_neg e] at i;have:=h.fit.η d o' H I i;by_cases f:d=b
   .subst f;have Ρ:o≠o':=λx=>e ⟨U,x.symm⟩;obtain⟨n,t2,af,g,K⟩:=Q9 this;rw[k] at g;cases g;exact SL p (by rw[UC Ρ];exact K)
   .obtain⟨n,t2,af,g,K⟩:=Q9 this;exact SL (by rw[m d (YF f)];exact g) K
 .obtain⟨n,g,R⟩:=h.fit.row d t' ab ad;by_cases f:d=b
  .subst f;rw[k] at g;cases g;exact⟨_,p,by simpa using R⟩
  .exact⟨n,by rw[m d (YF f)];exact g,R⟩
 .obtain⟨g,S⟩:=h.fit.obj d x y;have f:b≠d:=λe=>by subst e;rw[k] at g;cases g;cases S
  exact⟨by rw[m d f];exact g,S⟩
 .obtain⟨n,l,T,V⟩:=h.keeps.cells d c' t' ae A;by_cases f:d=b
  .subst f;rw[k] at l;cases l;refine⟨_,p,by simpa using T,λo' W=>?_⟩;have Ρ:o≠o':=λe=>by subst e;exact W (P (Xc A))
   rw[UC Ρ];exact V o' W
  .exact⟨n,by rw[m d (YF f)];exact l,T,V⟩
 .have l:=h.keeps.S7 d x A y s
  have f:b≠d:=λe=>by subst e;rw[k] at l;cases l;cases y
  rw[m d f];exact l
 .simp only[Τ.Om] at i;by_cases e:d=b/\o'=o
  .obtain⟨rfl,rfl⟩:=e;rw[if_pos ⟨U,rfl⟩] at i;cases i;rcases h.Uw.η _ _ _ _ B with s|⟨D,Q,E,F⟩
   .exact .inl s
   .exact .inr ⟨D,Q,E,F⟩
  .rw[if_neg e] at i;exact h.Uw.η d o' H I i
 .rw[O];rcases NA.1 J with J|rfl
  .exact h.Pl e J
  .rcases OF b w0.heap.size with r|r
   .refine .inr ⟨U,?_⟩;exact P r
   .exact .inl ⟨r,N⟩
theorem LW {x:Obj} {j:Nat} (a:j<w.heap.size):(w.heap.push x)[j]?=w.heap[j]?:=by
 rw[ND,if_neg J]
theorem Kc {x:Obj}:(w.heap.push x)[w.heap.size]?=some x:=Ω
theorem Ye.new (h:Ye G0 w0 G w es) {x:Obj} {G':Τ} (k:∀b o,b≠w.heap.size->G'.η b o=G.η b o) (m:∀b,b≠w.heap.size->G'.row b=G.row b) (l:∀b,b≠w.heap.size->G'.obj b=G.obj b)
  (i:Fits {η:=λb o=>if b=w.heap.size then G'.η b o else none,row:=λb=>if b=w.heap.size then G'.row b else none,obj:=λb=>if b=w.heap.size then G'.obj b else none} {w with heap:=w.heap.push x}) :
  Ye G0 w0 G' {w with heap:=w.heap.push x} es:=by
 have E:=h.keeps.size;refine⟨⟨λb o v p a=>?_,λb t n a=>?_,λb y a=>?_⟩,⟨by simp;omega,λb c t r a=>?_,λb y a j s=>?_,h.keeps.os,h.keeps.output,h.keeps.tape⟩,⟨λb o v p a=>?_,λb ⟨y,a⟩=>?_⟩,λe u=>(h.Pl e u).mono Ω⟩
 .by_cases e:b=w.heap.size
  .exact i.η b o v p (by simp only[e,if_true];rw[<-e];exact a)
  .rw[k b o e] at a;obtain⟨g,t2,F,d,A⟩:=Q9 (h.fit.η b o v p a);exact SL (w:={w with heap:=w.heap.push x}) (by show(w.heap.push x)[b]?=_;rw[LW (Xc d)];exact d) A
 .by_cases e:b=w.heap.size
  .exact i.row b t n (by simp only[e,if_true];rw[<-e];exact a)
  .rw[m b e] at a;obtain⟨g,d,B⟩:=h.fit.row b t n a;exact⟨g,by show(w.heap.push x)[b]?=_;rw[LW (Xc d)];exact d,B⟩
 .by_cases e:b=w.heap.size
  .exact i.obj b y (by simp only[e,if_true];rw[<-e];exact a)
  .rw[l b e] at a;obtain⟨d,j⟩:=h.fit.obj b y a;exact⟨by show(w.heap.push x)[b]?=_;rw[LW (Xc d)];exact d,j⟩
 .obtain⟨g,f,C,D⟩:=h.keeps.cells b c t r a;exact⟨g,by show(w.heap.push x)[b]?=_;rw[LW (Xc f)];exact f,C,D⟩
 .have f:=h.keeps.S7 b y a j s
  show(w.heap.push x)[b]?=_;rw[LW (Xc f)];exact f
 .by_cases e:b=w.heap.size
  .exact .inl J
  .rw[k b o e] at a;exact h.Uw.η b o v p a
 .by_cases e:b=w.heap.size
  .exact .inl J
  .rw[l b e] at a;exact h.Uw.obj b ⟨y,a⟩
end
section
variable {G0 G:Τ} {w0 w:World} {es:Array Event} {P:Program}
theorem Ye.push (h:Ye G0 w0 G w es) {e:Event} (a:Wf G0 w0.heap.size w.heap.size e):Ye G0 w0 G w (es.push e):=
 ⟨h.fit,h.keeps,h.Uw,λx b=>(NA.1 b).elim (h.Pl x) λy=>y▸a⟩
theorem Ye.draw (h:Ye G0 w0 G w es) (n:Nat):Ye G0 w0 G {w with drawn:=n} es:=
 ⟨⟨h.fit.η,h.fit.row,h.fit.obj⟩,⟨h.keeps.size,h.keeps.cells,h.keeps.S7,h.keeps.os,h.keeps.output,h.keeps.tape⟩,h.Uw,h.Pl⟩
theorem Ye.row (h:Ye G0 w0 G w es) (c:ζ) (t:TypeId):Ye G0 w0 (G.Ym w.heap.size c t) {w with heap:=w.heap.push (.cells c t (0,0))} es:=by
 refine h.new (λb o a=>by simp[Τ.Ym,a]) (λb a=>by simp[Τ.Ym,a]) (λb a=>rfl) ⟨λb o v p a=>?_,λb t' n a=>?_,λb y a=>?_⟩
 .by_cases e:b=w.heap.size
  .simp[Τ.Ym,e] at a;obtain⟨f,d,rfl,rfl⟩:=a;rw[e];exact SL (w:={w with heap:=w.heap.push (.cells c t (0,0))}) Kc d
  .simp[e] at a
 .by_cases e:b=w.heap.size
  .simp[Τ.Ym,e] at a;obtain⟨rfl,rfl⟩:=a;rw[e];exact⟨c,Kc,U⟩
  .simp[e] at a
 .by_cases e:b=w.heap.size
  .simp only[e,if_true,Τ.Ym] at a;rw[h.fit.fresh.2.2.1] at a;cases a
  .simp[e] at a
theorem Ye.obj (h:Ye G0 w0 G w es) {x:Obj} (c:Obj.Qh x=false):Ye G0 w0 (G.Zx w.heap.size x) {w with heap:=w.heap.push x} es:=by
 refine h.new (λb o a=>rfl) (λb a=>rfl) (λb a=>by simp[Τ.Zx,a]) ⟨λb o v p a=>?_,λb t' n a=>?_,λb y a=>?_⟩
 .by_cases e:b=w.heap.size
  .simp only[e,if_true,Τ.Zx] at a;rw[h.fit.fresh.1] at a;cases a
  .simp[e] at a
 .by_cases e:b=w.heap.size
  .simp only[e,if_true,Τ.Zx] at a;rw[h.fit.fresh.2.1] at a;cases a
  .simp[e] at a
 .by_cases e:b=w.heap.size
  .simp[Τ.Zx,e] at a;subst a;rw[e];exact⟨Kc,c⟩
  .simp[e] at a
theorem Ye.setObj (h:Ye G0 w0 G w es) {r:Nat} {x:Obj} (F:G.Xt r) (k:Obj.Qh x=false):(∃y,w.heap[r]?=some y/\Obj.Qh y=false)/\Ye G0 w0 (G.Zx r x) {w with heap:=w.heap.setIfInBounds r x} (es.push ⟨.obj r,true,false⟩):=by
 obtain⟨y,m⟩:=F;obtain⟨s,B⟩:=h.fit.obj r y m;have C:=Xc s;have H:(w.heap.setIfInBounds r x)[r]?=some x:=Tc C;have l:∀j,r≠j->(w.heap.setIfInBounds r x)[j]?=w.heap[j]?:=λj I=>UC I;have u:∀b c t g,w.heap[b]?=some (.cells c t g)->r≠b:=λb c t g d e=>by subst e;rw[s] at d;cases d;cases B
 refine⟨⟨y,s,B⟩,⟨λb o v p d=>?_,λb t n d=>?_,λb z f=>?_⟩,⟨by simp;exact h.keeps.size,λb c t g d=>?_,λb z d f D=>?_,h.keeps.os,h.keeps.output,h.keeps.tape⟩,⟨h.Uw.η,λb f=>?_⟩,λe A=>?_⟩
 .obtain⟨c,t,g,a,i⟩:=Q9 (h.fit.η b o v p d);exact SL (w:={w with heap:=w.heap.setIfInBounds r x}) (by show(w.heap.setIfInBounds r x)[b]?=_;rw[l b (u b c t g a)];exact a) i
 .obtain⟨c,a,i⟩:=h.fit.row b t n d;exact⟨c,by show(w.heap.setIfInBounds r x)[b]?=_;rw[l b (u b c t _ a)];exact a,i⟩
 .by_cases e:b=r
  .subst e;simp[Τ.Zx] at f;subst f;exact⟨H,k⟩
  .simp[Τ.Zx,e] at f;obtain⟨a,i⟩:=h.fit.obj b z f;exact⟨by show(w.heap.setIfInBounds r x)[b]?=_;rw[l b (YF e)];exact a,i⟩
 .obtain⟨E,a,i,J⟩:=h.keeps.cells b c t g d;exact⟨E,by show(w.heap.setIfInBounds r x)[b]?=_;rw[l b (u b E t g a)];exact a,i,J⟩
 .have a:=h.keeps.S7 b z d f D
  have e:r≠b:=λe=>by
   subst e;rcases h.Uw.obj r ⟨y,m⟩ with k|k
   .have:=Xc d;omega
   .exact D k
  show(w.heap.setIfInBounds r x)[b]?=_;rw[l b e];exact a
 .by_cases e:b=r
  .subst e;exact h.Uw.obj b ⟨y,m⟩
  .obtain⟨z,f⟩:=f;simp[Τ.Zx,e] at f;exact h.Uw.obj b ⟨z,f⟩
 .simp only[Ta];rcases NA.1 A with A|rfl
  .exact h.Pl e A
  .exact⟨U,(h.Uw.obj r ⟨y,m⟩).imp (λk=>⟨k,C⟩) id⟩
theorem Φ.sound {I:Type} {K:I->Τ->Prop} {E:Value->Τ->Prop} (s:Sem I):∀{G:Τ} {w:World} {es:Array Event},Φ P s G K E->Ye G0 w0 G w es->
  ∃G' w' es',Ye G0 w0 G' w' es'/\((∃a,s.runT P w es=(.ok a w',es')/\K a G')\/(∃v,s.runT P w es=(.halt (.panic v) w',es')/\E v G')):=by
 induction s with
 | pure a=>intro G w es h b;exact⟨G,w,es,b,.inl ⟨a,rfl,h⟩⟩
 | load m a k d=>
  intro G w es h b;obtain⟨rfl,C,v,p,D,i⟩:=h;obtain⟨hv,l⟩:=b.read C D;obtain⟨G',w',es',f,g⟩:=d v i l;refine⟨G',w',es',f,?_⟩;simp only[Sem.runT,hv];exact g
 | store m a v k d=>
  intro G w es h b;obtain⟨rfl,C,D,⟨t,n,L⟩,M,i⟩:=h;obtain⟨⟨u,hv⟩,l⟩:=b.write (v:=v) C D;obtain⟨G',w',es',f,g⟩:=d i l;have N:w.frozen? a=false:=by
   obtain⟨c,j,_⟩:=b.fit.row a.block t n L;simp[World.frozen?,j]
  refine⟨G',w',es',f,?_⟩;have e:(Sem.store .plain a v k).runT P w es=k.runT P (w.setCell a v) (es.push ⟨.cell a,true,false⟩):=by
   cases v<;>first|exact M.elim|(simp only[Sem.runT,hv,N];rfl)
  rw[e];exact g
 | new o k d=>
  intro G w es h b;cases o with
  | cells c t T=>
   obtain⟨rfl,i⟩:=h;obtain⟨G',w',es',f,g⟩:=d w.heap.size (i _ b.fit.fresh) (b.row c t);exact⟨G',w',es',f,g⟩
  | _=>
   obtain⟨G',w',es',f,g⟩:=d w.heap.size (h _ b.fit.fresh) (b.obj U);exact⟨G',w',es',f,g⟩
 | shape r k d=>
  intro G w es h b;obtain⟨t,n,A,i⟩:=h;have e:w.shape? r=some (t,n):=by
   obtain⟨c,j,O⟩:=b.fit.row r t n A;simp[World.shape?,j,O]
  obtain⟨G',w',es',f,g⟩:=d _ i b;refine⟨G',w',es',f,?_⟩;simp only[Sem.runT,e];exact g
 | freeze a n k d=>intro G w es h b;exact h.elim
 | frozen a k d=>
  intro G w es h b;obtain⟨⟨t,n,A⟩,i⟩:=h;have e:w.frozen? a=false:=by
   obtain⟨c,j,_⟩:=b.fit.row a.block t n A;simp[World.frozen?,j]
  obtain⟨G',w',es',f,g⟩:=d _ i b;refine⟨G',w',es',f,?_⟩;simp only[Sem.runT,e];exact g
 | getObj r k d=>
  intro G w es h b;obtain⟨o,J,F,i⟩:=h;obtain⟨j,H⟩:=b.fit.obj r o J;have Q:=Xc j;have l:=b.push (e:=⟨.obj r,false,false⟩) ⟨U,(b.Uw.obj r ⟨o,J⟩).imp (λR=>⟨R,Q⟩) id⟩;obtain⟨G',w',es',f,g⟩:=d _ i l;refine⟨G',w',es',f,?_⟩;have e:(Sem.getObj r k).runT P w es=(k o).runT P w (es.push ⟨.obj r,false,false⟩):=by
   cases o<;>first|(simp only[Sem.runT,j];first|done|rfl|(rw[F];done))|(cases H;done)
  rw[e];exact g
 | setObj r o k d=>
  intro G w es h b;obtain⟨A,H,F,i⟩:=h;obtain⟨⟨y,j,S⟩,l⟩:=b.setObj A H;obtain⟨G',w',es',f,g⟩:=d i l;refine⟨G',w',es',f,?_⟩;have e:(Sem.setObj r o k).runT P w es=k.runT P {w with heap:=w.heap.setIfInBounds r o} (es.push ⟨.obj r,true,false⟩):=by
   cases y<;>first|(simp only[Sem.runT,j,F];done)|(cases S;done)
  rw[e];exact g
 | choose q k d=>
  intro G w es h b;simp only[Φ] at h;by_cases B:q.forced=true
  .rw[if_pos B] at h;obtain⟨G',w',es',f,g⟩:=d _ h b;refine⟨G',w',es',f,?_⟩;simp only[Sem.runT,B,if_true];exact g
  .rw[if_neg B] at h;obtain⟨G',w',es',f,g⟩:=d _ (h (w.tape w.drawn q)) (b.draw (w.drawn+1));refine⟨G',w',es',f,?_⟩;simp only[Sem.runT,B];exact g
 | sys c k d=>intro G w es h b;exact h.elim
 | program k d=>
  intro G w es h b;obtain⟨G',w',es',f,g⟩:=d P h b;exact⟨G',w',es',f,g⟩
 | mark m k d=>
  intro G w es h b;obtain⟨rfl,i⟩:=h;obtain⟨G',w',es',f,g⟩:=d i (b.push (e:=⟨.mark .noRoom,false,true⟩) U);exact⟨G',w',es',f,g⟩
 | halt x=>
  intro G w es h b;cases x<;>first|exact h.elim|skip
  exact⟨G,w,es,b,.inr ⟨_,U,h⟩⟩
theorem mem_seen {fn:FuncId} {e:Event} (h:e∈seen P fn es):e∈es:=by
 unfold seen at h;obtain⟨l⟩:=es;have d:∀(l:List Event) (q:Bool) (c:Array Event) (x:Event),x∈(l.foldl (λ(s:Bool×Array Event) e=>match e.loc with
   | .mark (Mark.extern f)=>((P.funcs[f]?).any (·.norace),s.2)
   | _=>(s.1,if s.1&&!e.sync then s.2 else s.2.push e)) (q,c)).2->x∈c\/x∈l:=by
  intro l
  induction l with
  | nil=>intro q c x a;exact .inl a
  | cons y l g=>
   intro q c x a;rw[List.foldl_cons] at a;rcases g _ _ x a with b|b
   .split at b
    .exact .inl b
    .simp only at b;split at b
     .exact .inl b
     .rcases NA.1 b with i|rfl
      .exact .inl i
      .exact .inr Ω
   .exact .inr (by simp[b])
 simp only[List.foldl_toArray'] at h;rcases d l _ #[] e h with a|a
 .simp at a
 .simpa using a
end
def Y6 (P:Program) (a:Value->Prop) (mn:Bool) (y:ZU) (π:Frame) (cs:YU) (H:Τ):Prop:=Goes P a mn (Go.Conc.G π cs) {y with G:=H}
def WA:Type:=ZU->Prop
class ZP where
 q:WA->Prop
structure Seq [ZP] (x:WA):Prop where
 cls:ZP.q x
 rel:∀y,x y->y.rel=false
 Z4:∀y,x y->y.Z4=λ_=>none
def γ (P:Program) (a:Value->Prop) (mn:Bool) (x:WA) (π:Frame) (cs:YU) (H:Τ):Prop:=∀y,x y->Y6 P a mn y π cs H
def π (b:Frame) (t:ζ) (k:Zz):Frame:={b with tmps:=t,todo:=k}
section
variable {P:Program} {Q:Value->Prop} {mn:Bool} {x:WA} {cs:YU} {H:Τ} {b f:Frame} {t:ζ} {k:Zz}
theorem Y6.own {y:ZU} (g:y.rel=false) (i:y.Z4=λ_=>none) (h:∀w,Fits H w->∃f' cs' w' es H',stepG P mn (Go.Conc.G f cs) w=.go (Go.Conc.G f' cs') w' es/\Ye H w H' w' es/\Y6 P Q mn y f' cs' H'):Y6 P Q mn y f cs H:=by
 refine Goes.step (λj=>by rw[show({y with G:=H}:ZU).rel=y.rel from rfl,g] at j;cases j) (.inr ⟨⟨U,U⟩,.inl λw k hv=>?_⟩);obtain⟨f',cs',w',es,H',l,d,m⟩:=h w k;rw[l];refine⟨H',y.Z4,⟨U,U⟩,d.keeps,d.fit,λb c t a=>?_,d.Uw,λb c a=>.inl a,λe n=>?_,λb c a=>?_,m⟩
 .rw[i] at a;cases a
 .rw[if_neg (by rw[show({y with G:=H}:ZU).rel=y.rel from rfl,g];simp)];exact d.Pl e n
 .rw[i] at a;cases a
variable [ZP]
theorem γ.own (e:Seq x) (h:∀w,Fits H w->∃f' cs' w' es H',stepG P mn (Go.Conc.G f cs) w=.go (Go.Conc.G f' cs') w' es/\Ye H w H' w' es/\γ P Q mn x f' cs' H'):γ P Q mn x f cs H:=
 λy d=>.own (e.rel y d) (e.Z4 y d) λw g=>let ⟨f',cs',w',es,H',a,b,c⟩:=h w g;⟨f',cs',w',es,H',a,b,c y d⟩
theorem γ.still (a:Seq x) {f':Frame} {cs':YU} (b:∀w,stepG P mn (Go.Conc.G f cs) w=.go (Go.Conc.G f' cs') w #[]) (h:γ P Q mn x f' cs' H):γ P Q mn x f cs H:=
 .own a λw c=>⟨f',cs',w,#[],H,b w,.start c,h⟩
theorem Vn (a:b.mode=.run) (w:World):stepG P mn (Go.Conc.G (π b t k) cs) w=stepG.exec P mn true (π b t k) cs none w:=by
 obtain⟨fn,c,td,d,e,f,g⟩:=b;simp only at a;subst a;rfl
section moves
variable (XG:Seq x) (hb:b.mode=.run)
include XG hb
theorem γ.to {a:Zz} (c:∀w,stepG.exec P mn true (π b t k) cs none w=.go (Go.Conc.G (π b t a) cs) w #[]) (h:γ P Q mn x (π b t a) cs H):γ P Q mn x (π b t k) cs H:=
 .still XG (λw=>(Vn hb w).trans (c w)) h
theorem γ.skip (h:γ P Q mn x (π b t k) cs H):γ P Q mn x (π b t (.code .skip::k)) cs H:=.to XG hb (λ_=>rfl) h
theorem γ.inBlock {l:Nat} (h:γ P Q mn x (π b t k) cs H):γ P Q mn x (π b t (.inBlock l::k)) cs H:=.to XG hb (λ_=>rfl) h
theorem γ.seq {a c:Code} (h:γ P Q mn x (π b t (.code a::.code c::k)) cs H):γ P Q mn x (π b t (.code (.seq a c)::k)) cs H:=.to XG hb (λ_=>rfl) h
theorem γ.block {l:Nat} {c:Code} (h:γ P Q mn x (π b t (.code c::.inBlock l::k)) cs H):γ P Q mn x (π b t (.code (.block l c)::k)) cs H:=.to XG hb (λ_=>rfl) h
theorem γ.loop {c:Code} (h:γ P Q mn x (π b t (.code c::.inLoop c::k)) cs H):γ P Q mn x (π b t (.code (.loop c)::k)) cs H:=.to XG hb (λ_=>rfl) h
theorem γ.inLoop {c:Code} (h:γ P Q mn x (π b t (.code c::.inLoop c::k)) cs H):γ P Q mn x (π b t (.inLoop c::k)) cs H:=.to XG hb (λ_=>rfl) h
theorem γ.region {id:Nat} {ops:ZC} (h:γ P Q mn x (π b t (.inRegion ops (List.range ops.size)::k)) cs H):γ P Q mn x (π b t (.code (.region id ops false)::k)) cs H:=.to XG hb (λ_=>rfl) h
theorem γ.ZB {ops:ZC} (h:γ P Q mn x (π b t k) cs H):γ P Q mn x (π b t (.inRegion ops []::k)) cs H:=.to XG hb (λ_=>rfl) h
theorem γ.cond {c:Operand} {a e:Code} {v:Bool} (f:(π b t k).eval c=.bool v) (h:γ P Q mn x (π b t (.code (if v then a else e)::k)) cs H):γ P Q mn x (π b t (.code (.cond c a e)::k)) cs H:=by
 refine .to XG hb (λw=>?_) h;have d:(π b t (.code (.cond c a e)::k)).eval c=.bool v:=f;unfold stepG.exec;simp only[π] at d ⊢;rw[d];rfl
theorem γ.exit {l:Nat} {a:Zz} (c:exitTo l k=some a) (h:γ P Q mn x (π b t a) cs H):γ P Q mn x (π b t (.code (.exit l)::k)) cs H:=by
 refine .to XG hb (λw=>?_) h;unfold stepG.exec;simp only[π,c,Option.elim];rfl
theorem γ.draw {id:Nat} {ops:ZC} (h:∀n,γ P Q mn x (π b t (.inRegion ops (Region.schedule (P.follows .mixedOrders) ops n)::k)) cs H):γ P Q mn x (π b t (.code (.region id ops true)::k)) cs H:=by
 refine .own XG λw a=>⟨π b t (.inRegion ops (Region.schedule (P.follows .mixedOrders) ops (w.tape w.drawn (.order b.fn id)))::k),cs,{w with drawn:=w.drawn+1},#[],H,?_,(Ye.start a).draw _,h _⟩;rw[Vn hb];rfl
theorem γ.ret (a:b.roundOf=none) (h:γ P Q mn x {π b t (.code .ret::k) with mode:=.returning} cs H):γ P Q mn x (π b t (.code .ret::k)) cs H:=by
 refine .still XG (λw=>?_) h;rw[Vn hb];unfold stepG.exec;simp only[π,a];rfl
theorem γ.Qb (a:b.roundOf=none) (h:γ P Q mn x {π b t [] with mode:=.returning} cs H):γ P Q mn x (π b t []) cs H:=by
 refine .still XG (λw=>?_) h;rw[Vn hb];unfold stepG.exec;simp only[π,a];rfl
end moves
end
end Go.TL
namespace Go.TL
open Go.Conc
open Go.ConcM (OsLater)
open Go.ConcN (sumTo upd sumTo_upd upd_ne upd_same sumTo_congr le_sumTo)
variable [ZP]
def ZJ (t:ζ):Operand->Value
 | .tmp n=>t.getD n undef
 | .const v=>v
 | .global g=>.pointer (some ⟨g,0,none⟩)
 | .func f=>.func (.func f) #[] #[]
theorem LV (b:Frame) (t:ζ) (k:Zz):(π b t k).eval=ZJ t:=by funext o;cases o<;>rfl
def put (o:Oper) (t:ζ) (v:Value):ζ:=match o.dst with|some d=>t.setIfInBounds d v|none=>t
def EP (P:Program) (a:Value->Prop) (mn:Bool) (x:WA) (b:Frame) (t:ζ) (ops:ZC) (i:Nat) (o:Oper) (rest:ο) (k:Zz) (cs:YU):Next->Τ->Prop
 | .value v,H=>γ P a mn x (π b (put o t v) (.inRegion ops rest::k)) cs H
 | .skip,H=>γ P a mn x (π b (put o t undef) (.inRegion ops rest::k)) cs H
 | .enter f args,H=>γ P a mn x (Frame.enter P f args .normal) (π b t (.inRegion ops (i::rest)::k)::cs) H
 | .round l f c e g,H=>γ P a mn x (Frame.round l f c e g .normal) (π b t (.inRegion ops (i::rest)::k)::cs) H
 | .defer d,H=>γ P a mn x (π {b with defers:=d::b.defers} (put o t undef) (.inRegion ops rest::k)) cs H
 | .recover,H=>b.roundOf=none/\match tryRecover (π b t (.inRegion ops (i::rest)::k)) cs with
  | some (v,cs')=>γ P a mn x (π b (put o t v) (.inRegion ops rest::k)) cs' H
  | none=>γ P a mn x (π b (put o t .nilIface) (.inRegion ops rest::k)) cs H
 | _,_=>False
section
variable {P:Program} {Q:Value->Prop} {mn:Bool} {x:WA} {cs:YU} {H:Τ} {b f:Frame} {t:ζ} {k:Zz}
theorem Ye.sub {G0 G:Τ} {w0 w:World} {es es':Array Event} (h:Ye G0 w0 G w es) (a:∀e∈es',e∈es):Ye G0 w0 G w es':=⟨h.fit,h.keeps,h.Uw,λe b=>h.Pl e (a e b)⟩
theorem VJ {b:Frame} {ops:ZC} {i:Nat} {o:Oper} {rest:ο} {v:Value} (a:ops[i]?=some o):(π b t (.inRegion ops (i::rest)::k)).finish v=π b (put o t v) (.inRegion ops rest::k):=by
 simp only[Frame.finish,π,a,Option.bind,put];cases o.dst<;>rfl
theorem γ.unwanted (c:Seq x) (d:b.mode=.run) {ops:ZC} {i:Nat} {o:Oper} {rest:ο} (a:ops[i]?=some o) (e:Region.wanted o (yielded ops t)=false)
  (h:γ P Q mn x (π b (put o t undef) (.inRegion ops rest::k)) cs H):γ P Q mn x (π b t (.inRegion ops (i::rest)::k)) cs H:=by
 refine .still c (f':=π b (put o t undef) (.inRegion ops rest::k)) (cs':=cs) (λw=>?_) h;rw[Vn d,<-VJ a];have f:((ops[i]?).map (Region.wanted · (yielded ops t))).getD false=false:=by simp[a,e]
 unfold stepG.exec;simp only[π,f];rfl
theorem γ.op (D:Seq x) (C:b.mode=.run) {ops:ZC} {i:Nat} {o:Oper} {rest:ο} (y:ops[i]?=some o) (E:Region.wanted o (yielded ops t)=true) (hd:b.roundOf=none\/∀c,o.op≠.defer c)
  (h:Φ P (execOp (ZJ t) o) H (EP P Q mn x b t ops i o rest k cs) (λv H'=>γ P Q mn x {π b t (.inRegion ops (i::rest)::k) with mode:=.panicking [{v,recovered:=false}]} cs H')) :
  γ P Q mn x (π b t (.inRegion ops (i::rest)::k)) cs H:=by
 refine .own D λw F=>?_;obtain⟨H',w',es',n,I⟩:=Φ.sound (P:=P) (G0:=H) (w0:=w) (execOp (ZJ t) o) h (Ye.start F);have J:stepG P mn (Go.Conc.G (π b t (.inRegion ops (i::rest)::k)) cs) w=stepG.apply P true (π b t (.inRegion ops (i::rest)::k)) cs none (execOp (ZJ t) o) w:=by
  rw[Vn C];have K:((ops[i]?).map (Region.wanted · (yielded ops t))).getD false=true:=by simp[y,E]
  have A:(π b t (.inRegion ops (i::rest)::k)).oper?=some o:=by simp[Frame.oper?,π,y]
  unfold stepG.exec;simp only[π,K,if_true];simp only[π] at A;unfold stepG.oper;simp only[A];rcases hd with hd|hd
  .simp only[hd];rw[<-LV b t (.inRegion ops (i::rest)::k)];rfl
  .cases O:b.roundOf with
   | none=>rw[<-LV b t (.inRegion ops (i::rest)::k)];rfl
   | some l=>
    cases L:o.op<;>first|exact absurd L (hd _)|(simp only;rw[<-LV b t (.inRegion ops (i::rest)::k)];rfl)
 rw[J];generalize g:(if(π b t (.inRegion ops (i::rest)::k)).kind==.early then #[] else es')=j;have p:∀e∈seen P b.fn j,e∈es':=λe A=>by
  have:=mem_seen A;rw[<-g] at this;split at this
  .simp at this
  .exact this
 have B:∀v,(π b t (.inRegion ops (i::rest)::k)).finish v=π b (put o t v) (.inRegion ops rest::k):=λv=>VJ y;rcases I with⟨M,m,a⟩|⟨v,m,N⟩
 .cases M<;>first|exact a.elim|skip
  case value v=>exact⟨_,_,w',seen P b.fn j,H',by unfold stepG.apply;simp only[m,if_true];rw[g,B];simp[GStep.after,Go.Conc.G,π],n.sub p,a⟩
  case skip=>exact⟨_,_,w',seen P b.fn j,H',by unfold stepG.apply;simp only[m,if_true];rw[g,B];simp[GStep.after,Go.Conc.G,π],n.sub p,a⟩
  case enter f args=>exact⟨_,_,w',seen P b.fn j,H',by unfold stepG.apply;simp only[m,if_true];rw[g];simp[GStep.after,Go.Conc.G,π],n.sub p,a⟩
  case round l f R S T=>exact⟨_,_,w',seen P b.fn j,H',by unfold stepG.apply;simp only[m,if_true];rw[g];simp[GStep.after,Go.Conc.G,π],n.sub p,a⟩
  case defer d=>exact⟨_,_,w',seen P b.fn j,H',by unfold stepG.apply;simp only[m,if_true];rw[g];simp[GStep.after,Go.Conc.G,Frame.finish,π,put,y];cases o.dst<;>rfl,n.sub p,a⟩
  case recover=>
   obtain⟨u,a⟩:=a;cases s:tryRecover (π b t (.inRegion ops (i::rest)::k)) cs with
   | none=>
    rw[s] at a;exact⟨_,_,w',seen P b.fn j,H',by unfold stepG.apply;simp only[m,if_true];rw[g,B];simp only[π] at s ⊢;simp only[u];rw[u] at s;rw[s];simp[GStep.after,Go.Conc.G],n.sub p,a⟩
   | some r=>
    obtain⟨v,cs'⟩:=r;rw[s] at a;exact⟨_,_,w',seen P b.fn j,H',by unfold stepG.apply;simp only[m,if_true];rw[g];simp only[π] at s ⊢;simp only[u];rw[u] at s;rw[s];simp[GStep.after,Go.Conc.G];(have e:=B v;simp only[π,u] at e;exact e),n.sub p,a⟩
 .exact⟨_,_,w',seen P b.fn j,H',by unfold stepG.apply;simp only[m,if_true];rw[g];simp[GStep.after,Go.Conc.G,Frame.raise,π,C],n.sub p,N⟩
end
section
variable {P:Program} {Q:Value->Prop} {mn:Bool} {x:WA} {cs rest:YU} {H:Τ} {b f c:Frame} {t:ζ} {k:Zz} {fn:Func}
theorem No (a:f.mode≠.run) (w:World):stepG P mn (Go.Conc.G f cs) w=unwind P mn f cs none w:=by
 obtain⟨c,d,e,g,b,h,i⟩:=f;cases b with
 | run=>exact absurd rfl a
 | returning=>rfl
 | panicking j=>rfl
theorem γ.back (g:Seq x) (b:f.mode=.returning) (hd:f.defers=[]) (a:f.kind=.normal\/f.kind=.wrapped) (i:P.funcs[f.fn]?=some fn)
  (h:Φ P (results fn f.tmps) H (λv H'=>γ P Q mn x (c.finish v) rest H') (λ_ _=>False)):γ P Q mn x f (c::rest) H:=by
 refine .own g λw j=>?_;obtain⟨H',w',es',k,l⟩:=Φ.sound (P:=P) (G0:=H) (w0:=w) (results fn f.tmps) h (Ye.start j);rcases l with⟨v,d,m⟩|⟨v,d,n⟩
 .refine⟨_,_,w',seen P f.fn es',H',?_,k.sub λe o=>mem_seen o,m⟩;rw[No (by rw[b];simp)];unfold unwind;simp only[hd,b,i,d];unfold doReturn;rcases a with a|a<;>simp[a,GStep.after,Go.Conc.G]
 .exact n.elim
theorem γ.Hz (d:Seq x) (a:f.mode=.returning) (hd:f.defers=[]) (g:f.kind=.deferred) (i:P.funcs[f.fn]?=some fn)
  (h:Φ P (results fn f.tmps) H (λ_ H'=>γ P Q mn x (match c.mode with
   | .panicking ({recovered:=true,..}::j)=>(match j.dropWhile (!·.goexit) with|[]=>{c with mode:=.returning}|r=>{c with mode:=.panicking r})
   | _=>c) rest H') (λ_ _=>False)):γ P Q mn x f (c::rest) H:=by
 refine .own d λw k=>?_;obtain⟨H',w',es',l,m⟩:=Φ.sound (P:=P) (G0:=H) (w0:=w) (results fn f.tmps) h (Ye.start k);rcases m with⟨v,b,n⟩|⟨v,b,o⟩
 .refine⟨_,_,w',seen P f.fn es',H',?_,l.sub λe p=>mem_seen p,n⟩;rw[No (by rw[a];simp)];unfold unwind;simp only[hd,a,i,b];unfold doReturn;simp only[g,GStep.after];rw[OI];rfl
 .exact o.elim
theorem γ.deferred (m:Seq x) (n:f.mode≠.run) {d:Deferred} {ds:List Deferred} (hd:f.defers=d::ds) (k:∀r,d.target≠.collected r) (e:d.target≠.nil) {g:FuncId} {args:ζ}
  (l:∀w,(invoke d.target d.args).runT P w #[]=(.ok (.enter g args) w,#[])) (h:γ P Q mn x (Frame.enter P g args .deferred) ({f with defers:=ds}::cs) H):γ P Q mn x f cs H:=by
 refine .still m (λw=>?_) h;rw[No n];unfold unwind;obtain⟨i,as9⟩:=d;simp only at k e l;have j:callDeferred P {f with defers:=ds} cs none ⟨i,as9⟩ w=.go (Go.Conc.G (Frame.enter P g args .deferred) ({f with defers:=ds}::cs)) w #[]:=by
  unfold callDeferred;simp only[l w];cases i<;>first|exact absurd rfl e|(simp[GStep.after,seen,Go.Conc.G])
 cases i with
 | collected r=>exact absurd rfl (k r)
 | fn a b=>simp only[hd];exact j
 | nil=>exact absurd rfl e
 | builtin a b c d=>simp only[hd];exact j
 | coroexit c=>simp only[hd];exact j
theorem γ.raised (d:Seq x) {a:List PanicEntry} (b:f.mode=.panicking a) (hd:f.defers=[]) (e:f.catches P=false) (h:γ P Q mn x (c.raise a) rest H):γ P Q mn x f (c::rest) H:=by
 refine .still d (λw=>?_) h;rw[No (by rw[b];simp)];unfold unwind;simp only[hd,b,e];rfl
theorem γ.done (d:Seq x) (g:∀y,x y->∀s,WY (y.tok s)) (h:∀y,x y->y.deaf=0) (c:f.mode=.returning) (hd:f.defers=[]) (i:f.kind=.normal) (j:P.funcs[f.fn]?=some fn) (k:P.inits.idxOf? f.fn=none) {v:Value}
  (a:results fn f.tmps=pure v) (l:Q v):γ P Q true x f [] H:=by
 intro y b;refine Goes.stop (λa=>by rw[show({y with G:=H}:ZU).rel=y.rel from rfl,d.rel y b] at a;cases a) (.inl ⟨U,⟨U,U⟩,g y b,h y b,λw n=>⟨v,#[],?_,λe m=>by simp at m,l⟩⟩);rw[No (by rw[c];simp)];unfold unwind;simp only[hd,c,j,a];have:(pure v:Sem Value).runT P w #[]=(.ok v w,#[]):=rfl;simp only[this];unfold doReturn;simp[i,GStep.after,seen,k]
end
end Go.TL
namespace Go.TL
open Go.Conc
inductive Ψ where
 | z (v:Value)
 | ξ (cells:List Ψ)
 | sl (ex:Bool) (k:Nat) (l:List Ψ)
 | ZW (l:List Ψ)
 | ZY (l:List Ψ)
 | Δ (id n i j:Nat)
 | ms (id n i len:Nat)
 | fn (f:Fn) (first captured:List Ψ)
 | W6 (t:TypeId) (a:Ψ)
 | mp (id:Nat)
 | it (id:Nat)
 | Ze
 deriving Inhabited
abbrev μ:=List Ψ
def Ψ.cells:Ψ->μ
 | .ZW l=>l
 | a=>[a]
inductive Row where
 | cells (t:TypeId) (k:Nat) (l:μ)
 | map (es:List (Ψ×Ψ))
 | iter (m:Nat) (left:List (Ψ×Ψ)) (a:Option (Ψ×Ψ))
 | dead
 deriving Inhabited
abbrev Ξ:=List Row
def Row.Wo (r:Row) (n:Nat):Prop:=match r with|.cells _ _ l=>n<l.length|_=>True
abbrev Z5:=List (Option (Nat×Nat))
abbrev κ:=Nat->Nat->Option Value
inductive υ (S:κ) (B:Z5) (σ:Ξ):Ψ->Value->Prop where
 | z (v:Value):υ S B σ (.z v) v
 | ξ {cells:μ} (b o:Nat) (w:Nat->Value):(∀(j:Nat) (a:Ψ),cells[j]?=some a->S b (o+j)=some (w j))->(∀(j:Nat) (a:Ψ),cells[j]?=some a->υ S B σ a (w j))->υ S B σ (.ξ cells) (.pointer (some ⟨b,o,none⟩))
 | VY {ex:Bool} {k:Nat} (base:Option Addr) (cap:Nat):(ex=true->cap=0)->υ S B σ (.sl ex k []) (.slice base 0 cap)
 | sl {ex:Bool} {k:Nat} {l:μ} (b o cap:Nat) (w:Nat->Nat->Value):(ex=true->cap=l.length)->l.length<=cap->(∀(i:Nat) (e:Ψ),l[i]?=some e->e.cells.length=k)->
   (∀(i:Nat) (e:Ψ),l[i]?=some e->∀(j:Nat) (c:Ψ),e.cells[j]?=some c->S b (o+i*k+j)=some (w i j))->(∀(i:Nat) (e:Ψ),l[i]?=some e->∀(j:Nat) (c:Ψ),e.cells[j]?=some c->υ S B σ c (w i j))->υ S B σ (.sl ex k l) (.slice (some ⟨b,o,none⟩) l.length cap)
 | ZW {l:μ} (vs:ζ):l.length=vs.size->(∀(i:Nat) (a:Ψ) (v:Value),l[i]?=some a->vs[i]?=some v->υ S B σ a v)->υ S B σ (.ZW l) (.agg vs)
 | ZY {l:μ} (vs:ζ):l.length=vs.size->(∀(i:Nat) (a:Ψ) (v:Value),l[i]?=some a->vs[i]?=some v->υ S B σ a v)->υ S B σ (.ZY l) (.tuple vs)
 | Δ {id n i j k:Nat} {t:TypeId} {l:μ} {b N:Nat}:σ[id]?=some (.cells t k l)->l.length=n->B[id]?=some (some (b,N))->υ S B σ (.Δ id n i j) (.pointer (some ⟨b,i*k+j,none⟩))
 | U8 {id n i j:Nat} {r:Row} (v:Value):σ[id]?=some r->r.Wo n->υ S B σ (.Δ id n i j) v
 | ms {id n i len:Nat} {t:TypeId} {k:Nat} {l:μ} {bo:Option (Nat×Nat)} {base:Option Addr} (cap:Nat):σ[id]?=some (.cells t k l)->l.length=n->B[id]?=some bo->i+len<=n->len<=cap->
   (cap=0\/∃b N,bo=some (b,N)/\base=some ⟨b,i*k,none⟩/\(i+cap)*k<=N)->υ S B σ (.ms id n i len) (.slice base len cap)
 | Vm {id n i len:Nat} {r:Row} (v:Value):σ[id]?=some r->r.Wo n->υ S B σ (.ms id n i len) v
 | fn {f:Fn} {d cs:μ} (vs g:ζ):d.length=vs.size->cs.length=g.size->(∀(i:Nat) (a:Ψ) (v:Value),d[i]?=some a->vs[i]?=some v->υ S B σ a v)->(∀(i:Nat) (a:Ψ) (v:Value),cs[i]?=some a->g[i]?=some v->υ S B σ a v)->υ S B σ (.fn f d cs) (.func f vs g)
 | W6 {t:TypeId} {a:Ψ} (v:Value):υ S B σ a v->υ S B σ (.W6 t a) (.iface t v)
 | mp {id:Nat} {es:List (Ψ×Ψ)} {b N:Nat}:σ[id]?=some (.map es)->B[id]?=some (some (b,N))->υ S B σ (.mp id) (.map (some b))
 | T4 {id:Nat} (v:Value):σ[id]?=some .dead->υ S B σ (.mp id) v
 | it {id m:Nat} {left:List (Ψ×Ψ)} {h:Option (Ψ×Ψ)} {b N:Nat}:σ[id]?=some (.iter m left h)->B[id]?=some (some (b,N))->υ S B σ (.it id) (.pointer (some ⟨b,0,none⟩))
 | SZ {id:Nat} (v:Value):σ[id]?=some .dead->υ S B σ (.it id) v
 | Ze (v:Value):υ S B σ .Ze v
def Row.to (r r':Row) (b a:Option (Option (Nat×Nat))):Prop:=
 match r with
 | .cells t k l=>(∃c,r'=.cells t k c/\c.length=l.length/\a=b)\/∀n,n<=l.length->r'.Wo n
 | .map _=>(∃es',r'=.map es'/\a=b)\/r'=.dead
 | .iter m _ _=>(∃d e,r'=.iter m d e/\a=b)\/r'=.dead
 | .dead=>r'=.dead
structure Zm (S a:κ) (B B':Z5) (σ σ':Ξ):Prop where
 Yy:∀b o v,S b o=some v->a b o=some v
 rows:∀(id:Nat) (r:Row),σ[id]?=some r->∃r':Row,σ'[id]?=some r'/\r.to r' B[id]? B'[id]?
theorem Row.Qa (r:Row) (b:Option (Option (Nat×Nat))):r.to r b b:=by
 cases r with
 | cells t k l=>exact .inl ⟨l,rfl,rfl,rfl⟩
 | map es=>exact .inl ⟨es,rfl,rfl⟩
 | iter m l c=>exact .inl ⟨l,c,rfl,rfl⟩
 | dead=>rfl
theorem Zm.refl (S:κ) (B:Z5) (σ:Ξ):Zm S S B B σ σ:=⟨λ_ _ _ h=>h,λ_ r h=>⟨r,h,r.Qa _⟩⟩
theorem Row.Hy {r r':Row} {b d:Option (Option (Nat×Nat))} {n:Nat} (h:r.to r' b d) (a:r.Wo n):r'.Wo n:=by
 cases r with
 | cells t k l=>
  rcases h with⟨e,rfl,f,_⟩|h
  .simp only[Row.Wo] at a ⊢;omega
  .exact h n (SM a)
 | map es=>rcases h with⟨es',rfl,_⟩|rfl<;>trivial
 | iter m l c=>rcases h with⟨e,c',rfl,_⟩|rfl<;>trivial
 | dead=>cases h;trivial
theorem Row.zG {r r' a:Row} {b d f:Option (Option (Nat×Nat))} (h:r.to r' b d) (k:r'.to a d f):r.to a b f:=by
 cases r with
 | cells t e l=>
  rcases h with⟨i,rfl,j,rfl⟩|h
  .rcases k with⟨o,rfl,p,rfl⟩|k
   .exact .inl ⟨o,U,p.trans j,U⟩
   .exact .inr λn g=>k n J
  .exact .inr λn g=>Row.Hy k (h n g)
 | map es=>
  rcases h with⟨es',rfl,rfl⟩|rfl
  .exact k
  .cases k;exact .inr U
 | iter m l c=>
  rcases h with⟨i,c',rfl,rfl⟩|rfl
  .exact k
  .cases k;exact .inr U
 | dead=>cases h;exact k
theorem Zm.trans {S a c:κ} {B B' d:Z5} {σ σ' e:Ξ} (h:Zm S a B B' σ σ') (k:Zm a c B' d σ' e):Zm S c B d σ e:=
 ⟨λb o v x=>k.Yy b o v (h.Yy b o v x),λid r f=>by
  obtain⟨r',g,i⟩:=h.rows id r f;obtain⟨j,l,m⟩:=k.rows id r' g;exact⟨j,l,Row.zG i m⟩⟩
theorem υ.later {S t:κ} {B B':Z5} {σ σ':Ξ} (k:Zm S t B B' σ σ') {a:Ψ} {v:Value} (h:υ S B σ a v):υ t B' σ' a v:=by
 induction h with
 | z v=>exact .z v
 | ξ b o w d _ l=>exact .ξ b o w (λj a p=>k.Yy _ _ _ (d j a p)) l
 | VY base cap h=>exact .VY base cap h
 | sl b o cap w d g n r _ l=>exact .sl b o cap w d g n (λi e hi j c p=>k.Yy _ _ _ (r i e hi j c p)) l
 | ZW vs d _ l=>exact .ZW vs d l
 | ZY vs d _ l=>exact .ZY vs d l
 | Δ d g n=>
  obtain⟨r',f,Ρ⟩:=k.rows _ _ d;rcases Ρ with⟨u,rfl,s,m⟩|Ρ
  .exact .Δ f (s.trans g) (by rw[m];exact n)
  .exact .U8 _ f (Ρ _ J)
 | U8 v d g=>
  obtain⟨r',f,Ρ⟩:=k.rows _ _ d;exact .U8 _ f (Row.Hy Ρ g)
 | ms cap d g n r x y=>
  obtain⟨r',f,Ρ⟩:=k.rows _ _ d;rcases Ρ with⟨u,rfl,s,m⟩|Ρ
  .exact .ms cap f (s.trans g) (by rw[m];exact n) r x y
  .exact .Vm _ f (Ρ _ J)
 | Vm v d g=>
  obtain⟨r',f,Ρ⟩:=k.rows _ _ d;exact .Vm _ f (Row.Hy Ρ g)
 | fn vs A d g _ _ C D=>exact .fn vs A d g C D
 | W6 v _ l=>exact .W6 v l
 | mp d g=>
  obtain⟨r',f,Ρ⟩:=k.rows _ _ d;rcases Ρ with⟨es',rfl,m⟩|rfl
  .exact .mp f (by rw[m];exact g)
  .exact .T4 _ f
 | T4 v d=>
  obtain⟨r',f,Ρ⟩:=k.rows _ _ d;cases Ρ;exact .T4 _ f
 | it d g=>
  obtain⟨r',f,Ρ⟩:=k.rows _ _ d;rcases Ρ with⟨u,c',rfl,m⟩|rfl
  .exact .it f (by rw[m];exact g)
  .exact .SZ _ f
 | SZ v d=>
  obtain⟨r',f,Ρ⟩:=k.rows _ _ d;cases Ρ;exact .SZ _ f
 | Ze v=>exact .Ze v
end Go.TL
