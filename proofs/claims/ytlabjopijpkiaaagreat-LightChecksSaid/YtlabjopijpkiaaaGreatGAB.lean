import Derived.Test.YtlabjopijpkiaaaGreatGAA
set_option maxHeartbeats 16000000
set_option maxRecDepth 20000
set_option linter.unusedSectionVars false
set_option linter.unusedSimpArgs false
set_option linter.unusedVariables false
namespace Go.TL
open Go.Conc
open Go.ConcM (OsLater)
open Go.ConcN (sumTo upd sumTo_upd upd_ne upd_same sumTo_congr le_sumTo)
theorem G9:∀(q:Nat) (l:List Nat),l.Nodup->(∀x∈l,x<q)->l.length<=q:=by
 intro q
 induction q with
 | zero=>intro l _ h;cases l with
  | nil=>simp
  | cons a l=>exact absurd (h a J) U
 | succ q e=>
  intro l b h;have:=e (l.erase q) (b.erase q) (λx f=>by
   have c:=(b.mem_erase_iff).1 f
   have:=h x c.2
   have:=c.1;omega)
  by_cases d:q∈l
  .have:=List.length_erase_of_mem d;omega
  .rw[List.erase_of_not_mem d] at this;omega
theorem CC (l:List Nat) (q:Nat) (b:l.Nodup) (h:∀x∈l,x<q) (e:l.length=q):∀k,k<q->k∈l:=λk c=>by
 apply T4;intro d;have:=G9 q (k::l) (RS.2 ⟨d,b⟩) (λx a=>by
  rcases YZ.1 a with rfl|a
  .exact c
  .exact h x a)
 simp at this;omega
section
variable {n:Nat} {tok:Nat->Nat->Tok} {spec:Nat->Nat->Option Spec} {view:Nat->Nat->Option (Nat×ν)} {rel:Nat->Bool} {O:Nat->Option ν} {ZA home:Nat->Nat} {s i:Nat} {o:ν}
theorem Yj.fin (h:Yj n tok spec view rel O ZA home) (r:O s=some o) {j q p:Nat} {e:Q2} (b:tok j s=.par q p e) (u:Wt (.par q p e)=1):p=0/\o.cnt=0/\∀a k m g,tok a s=.ch k m g->g=.gone:=by
 have f:j<n:=h.lt (s:=s) (by rw[b];simp)
 have c:=(h.ζ s o r).2
 have v:Z6 n (λa=>tok a s) Wt=1:=by
  rw[Sp (φ:=Wt) (λt b=>by cases t<;>simp_all [Yh,Wt]) c.Tv f (by rw[b];rfl),b,u]
 have w:Z6 n (λa=>tok a s) WU=p:=by
  rw[Sp (φ:=WU) (λt b=>by cases t<;>simp_all [Yh,WU]) c.Tv f (by rw[b];rfl),b];rfl
 obtain⟨f1,f2,f3,f4,f5,f6⟩:=c.Hy v;refine⟨U,f4,λa k m g i=>?_⟩;have d:a<n:=h.lt (s:=s) (by rw[i];simp);have x:=c.Jz;have l1:=XS (λa=>tok a s) V5 d;have l2:=XS (λa=>tok a s) VC d;have l:=XS (λa=>tok a s) VB d;simp only[i,V5,VC,VB] at l1 l2 l;cases g with
 | gone=>rfl
 | work=>simp only[Q1] at l1;omega
 | rel=>simp only[Q1] at l1;omega
 | l2=>simp only[Pv] at l2;omega
 | Ss=>simp only[Pu] at l;omega
theorem Yj.G8 (h:Yj n tok spec view rel O ZA home) (a:O s=some o) {k:Nat} {m:UX} {g:Qi} (b:tok i s=.ch k m g) (c:g≠.gone):∀j q p,tok j s≠.par q p .Z4:=λj q p d=>
 c ((h.fin a d rfl).2.2 i k m g b)
theorem Yj.only (h:Yj n tok spec view rel O ZA home) (c:O s=some o) (b:Wv (tok i s)=1):∀j k L g,tok j s=.ch k (.YT L) g->j=i:=λj k L g d=>by
 apply T4;intro f;have l:i<n:=h.lt (s:=s) (by intro e;rw[e] at b;cases b);have m:j<n:=h.lt (s:=s) (by rw[d];simp);have p:=Xj (λa=>tok a s) .nil Wv l;have Χ:=XS (upd (λa=>tok a s) i .nil) Wv m;rw[upd_ne _ _ f] at Χ;have r:Wv .nil=0:=rfl;have t:Wv (tok j s)=1:=by rw[d];rfl
 simp only[b,r] at p;simp only[t] at Χ;have:=(h.ζ s o c).1.HA;have:=(h.ζ s o c).1.f1;omega
def RG (tok:Nat->Nat->Tok) (s:Nat):Nat->List Nat
 | 0=>[]
 | n+1=>match tok n s with
  | .ch k _ _=>k::RG tok s n
  | _=>RG tok s n
theorem M9 (tok:Nat->Nat->Tok) (s:Nat):∀n k,k∈RG tok s n↔∃j m g,j<n/\tok j s=.ch k m g
 | 0,k=>by simp[RG]
 | n+1,k=>by
  have c:=M9 tok s n k
  have d:(∃j m g,j<n/\tok j s=.ch k m g)->∃j m g,j<n+1/\tok j s=.ch k m g:=λ⟨j,m,g,f,a⟩=>⟨j,m,g,U,a⟩
  have split:(∃j m g,j<n+1/\tok j s=.ch k m g)->(∃j m g,j<n/\tok j s=.ch k m g)\/∃m g,tok n s=.ch k m g:=λ⟨j,m,g,f,a⟩=>by
   by_cases e:j=n
   .subst e;exact .inr ⟨m,g,a⟩
   .exact .inl ⟨j,m,g,U,a⟩
  unfold RG;cases b:tok n s with
  | nil=>exact c.trans ⟨d,λh=>(split h).elim id λ⟨m,g,e⟩=>by rw[b] at e;cases e⟩
  | par=>exact c.trans ⟨d,λh=>(split h).elim id λ⟨m,g,e⟩=>by rw[b] at e;cases e⟩
  | ch l i g'=>
   rw[YZ,c];constructor
   .rintro(rfl|h)
    .exact⟨n,i,g',U,b⟩
    .exact d h
   .intro h;rcases split h with h|⟨m,g,e⟩
    .exact .inr h
    .rw[b] at e;cases e;exact .inl rfl
theorem G7 (tok:Nat->Nat->Tok) (s:Nat):∀n,(RG tok s n).length=Z6 n (λa=>tok a s) UT
 | 0=>rfl
 | n+1=>by
  have b:=G7 tok s n;rw[Ps];unfold RG;cases c:tok n s<;>simp[UT,b]
theorem G6 (c:∀j d k m g a g',tok j s=.ch k m g->tok d s=.ch k a g'->j=d):∀n,(RG tok s n).Nodup
 | 0=>List.nodup_nil
 | n+1=>by
  have b:=G6 c n;unfold RG;cases e:tok n s with
  | nil=>exact b
  | par=>exact b
  | ch k m g=>
   refine RS.2 ⟨λh=>?_,b⟩;obtain⟨j,a,g',i,f⟩:=(M9 tok s n k).1 h;have:=c j n k a g' m g f e;omega
theorem Yj.full (h:Yj n tok spec view rel O ZA home) (f:O s=some o) {q:Nat} {d:Q2} (b:tok i s=.par q 0 d) (v:d=.Ty\/d=.w4) :
  o.YY.Perm (List.range q)/\(o.Z0≠none->o.L.Perm (List.range q))/\∀a k m g,tok a s=.ch k m g->g=.gone:=by
 have u:i<n:=h.lt (s:=s) (by rw[b];simp)
 have w:Wt (.par q 0 d)=1:=by rcases v with rfl|rfl<;>rfl
 obtain⟨_,_,p⟩:=h.fin f b w;have r:=(h.ζ s o f).2;have K:Z6 n (λa=>tok a s) Wu=q:=by
  rw[Sp (φ:=Wu) (λt b=>by cases t<;>simp_all [Yh,Wu]) r.Tv u (by rw[b];rfl),b];rfl
 have M:Z6 n (λa=>tok a s) WU=0:=by
  rw[Sp (φ:=WU) (λt b=>by cases t<;>simp_all [Yh,WU]) r.Tv u (by rw[b];rfl),b];rfl
 have N:=r.Hz
 have x:=h.par i s q 0 d b;subst x;have y:=G6 (tok:=tok) (s:=s) (λj A k m g B g' C D=>h.Pp s j A k m g B g' C D) n;have lt:∀k∈RG tok s n,k<q:=λk l=>by
  obtain⟨j,m,g,_,c⟩:=(M9 tok s n k).1 l;have:=h.Qf s j k m g q 0 d c b;omega
 have full:=CC _ q y lt (by rw[G7];omega);obtain⟨E,F⟩:=h.RK s o f;obtain⟨H,I⟩:=h.SP s o f;refine⟨(List.perm_ext_iff_of_nodup E LZ).2 λk=>?_,λJ=>(List.perm_ext_iff_of_nodup H LZ).2 λk=>?_,p⟩
 .rw[F,UY];constructor
  .rintro⟨j,m,g,c,_⟩;have:=h.Qf s j k m g q 0 d c b;omega
  .intro l;obtain⟨j,m,g,_,c⟩:=(M9 tok s n k).1 (full k l);exact⟨j,m,g,c,by rw[p j k m g c];simp⟩
 .rw[I,UY];constructor
  .rintro⟨j,m,g,c,_⟩;have:=h.Qf s j k m g q 0 d c b;omega
  .intro l;obtain⟨j,m,g,_,c⟩:=(M9 tok s n k).1 (full k l);refine⟨j,m,g,c,?_⟩;rcases h.SQ j s k m g o f c (by rw[p j k m g c];simp) with rfl|⟨_,e⟩
   .trivial
   .exact absurd e J
end
section
variable {H H':Zi->Ψ} {η Qd:Nat->Nat->Option (Array Value×TypeId)} {tok QZ:Nat->Nat->Tok} {O O':Nat->Option ν} {ZA:Nat->Nat} {deaf:Nat->Nat} {N RJ:Nat} {t:Trace} {ZK w w':World} {i:Nat} {y:MemOp} {b s:Nat} {o:ν}
theorem ofEvents_one {fn:FuncId} {pos:String} {e:Event}:MemOp.ofEvents i fn pos #[e]=#[{g:=i,fn,pos,act:=.ofEvent e}]:=by rw[ofEvents_eq];simp
theorem Wf.word (h:Wf H η tok O ZA deaf N t) (u:y.g=i) (n:y.act=.mark (.acquire ⟨b,0,none⟩)\/y.act=.mark (.releaseMerge ⟨b,0,none⟩)) (w:b<N) (A:Ut O O') (hv:∀j b v,Qd j b=some v->η j b=some v)
  (B:∀k,YQ (t++#[y]) (VR QZ O' (t++#[y]) k) (H' k)):Wf H' Qd QZ O' ZA deaf N (t++#[y]):=by
 have nt:y.act.touch?=none:=by rcases n with e|e<;>rw[e]<;>rfl
 have p:∀k a,touchAt (t++#[y]) k=some a->touchAt t k=some a/\k<t.size:=λk a l=>by
  obtain⟨x,C,o⟩:=touch_of l;rcases getElem?_append_cases C with⟨D,E⟩|⟨_,r⟩
  .exact⟨by rw[touchAt_of E];exact o,D⟩
  .simp at r;subst r;rw[nt] at o;cases o
 refine⟨λF=>noRace_append (g:=i) (h.race F) (λm d=>by simp at d;subst d;exact u) (λk a _ m d c f _=>by simp at d;subst d;rw[nt] at f;cases f),λm d=>?_,λm d a=>?_,B,λj c v f k a l=>h.SV j c v (hv j c v f) k a (p k a l).1,λs o' c I f k a l J=>?_,λj=>?_⟩
 .rcases S1.1 d with d|d
  .exact h.low m d
  .simp at d;subst d;rcases n with e|e<;>rw[e]<;>exact w
 .rcases S1.1 d with d|d
  .exact h.norel m d a
  .simp at d;subst d;rcases n with e|e<;>rw[e]<;>simp
 .obtain⟨K,L,M⟩:=A.1 s o' I;obtain⟨P,Q⟩:=p k a l;rcases h.cont s K c L (by rw[M];exact f) k a P J with x|⟨x,R⟩
  .exact .inl x
  .exact .inr ⟨x,by rw[g?_old Q];exact R⟩
 .rw[Deaf_push,<-h.hears j];rcases n with e|e<;>simp[deafStep,e]
theorem Wf.Ot (h:Wf H η tok O ZA deaf N t) (k:Zi) (nt:y.act.touch?=none) (d:Ut O O') (e:∀i s,QZ i s≠.nil->tok i s≠.nil):YQ (t++#[y]) (VR QZ O' (t++#[y]) k) (H k):=
 (h.perms k).others (λ_ f=>LI d.1 e (Jt _ f)) λg b a c=>by simp at b;subst b;rw[nt] at c;cases c
theorem Knows.marked {p:Nat} {c:MemOp} (e:t[p]?=some c) (k:c.act=.mark (.releaseMerge ⟨b,0,none⟩)) (l:t.heard p) (m:∀c∈t,∀a,c.act≠.mark (.release a)) (f:y.g=i) (n:y.act=.mark (.acquire ⟨b,0,none⟩)) (hd:Deaf t i=0):Knows (t++#[y]) i p:=by
 have h:(t++#[y])[t.size]?=some y:=J
 have o:(t++#[y]).heard t.size:=⟨i,by simp[Trace.g?,f],by rw[deaf_old (ZO _)];exact hd⟩
 have d:=lt_size_of_getElem? e;refine⟨t.size,y,h,f,.inr (.single (.inr ⟨.marked (a:=⟨b,0,none⟩) d (.inr ?_) ?_ ?_,(heard_old d).2 l,o⟩))⟩
 .rw[act?_old d,act?_of e,k]
 .rw[act?_of h,n]
 .intro w x r j;rw[act?_old r] at j;obtain⟨s,u,v⟩:=T1.1 j;exact m s (mem_of_getElem? u) _ v
theorem YQ.TQ {b:Nat->Prop} {G:Ψ} (h:YQ t b G) (nt:y.act.touch?=none) (e:∀k,b k->Knows (t++#[y]) i k):YQ (t++#[y]) (Knows (t++#[y]) i) G:=
 h.others e λf c a d=>by simp at c;subst c;rw[nt] at d;cases d
theorem Sub.empty (G:Ψ):Sub Ψ.empty G:=⟨λ_ _ _ _ h=>(by cases h),λ_ _ h=>(by cases h),λ_ _ h=>(by cases h)⟩
theorem Sub.both {A B e:Ψ} (h:Sub A e) (k:Sub B e):Sub (join A B) e:=by
 refine⟨λb o v p c=>?_,λb x d=>?_,λb x hv=>?_⟩
 .simp only[join] at c;cases a:A.ς b o with
  | none=>rw[a] at c;exact k.ς b o v p c
  | some z=>rw[a] at c;cases c;exact h.ς b o v p a
 .simp only[join] at d;cases a:A.row b with
  | none=>rw[a] at d;exact k.row b x d
  | some z=>rw[a] at d;cases d;exact h.row b _ a
 .simp only[join] at hv;cases a:A.obj b with
  | none=>rw[a] at hv;exact k.obj b x hv
  | some z=>rw[a] at hv;cases hv;exact h.obj b _ a
theorem Sub.CB {G H:Ψ} (d:Fits G w) (e:Fits H w) (f:Apart G H):Sub H (join G H):=by
 refine⟨λb o v p c=>?_,λb x g=>?_,λb x hv=>?_⟩
 .simp only[join];cases a:G.ς b o with
  | none=>exact⟨p,c,id⟩
  | some z=>
   obtain⟨j,h⟩:=z;have k:=d.ς b o j h a;have Χ:=e.ς b o v p c;rw[k] at Χ;cases Χ;refine⟨h,rfl,λl=>?_⟩;subst l;exact absurd ⟨_,a⟩ (f.RR b o ⟨_,c⟩)
 .simp only[join];cases a:G.row b with
  | none=>exact g
  | some z=>
   obtain⟨t1,m⟩:=z;obtain⟨t2,n⟩:=x;obtain⟨u,r,s⟩:=d.row b t1 m a;obtain⟨y,i,t⟩:=e.row b t2 n g;rw[r] at i;cases i;rw[<-s,<-t]
 .simp only[join];cases a:G.obj b with
  | none=>exact hv
  | some z=>exact absurd ⟨x,hv⟩ (f.obj b ⟨z,a⟩)
theorem Jo (G:Ψ):join G Ψ.empty=G:=by
 obtain⟨a,b,c⟩:=G;simp only[join,Ψ.empty];congr
 .funext x y;cases a x y<;>rfl
 .funext x;cases b x<;>rfl
 .funext x;cases c x<;>rfl
theorem W2.Oq (h:W2 H η O ZK w) (hv:∀j b v,Qd j b=some v->η j b=some v):W2 H Qd O ZK w:=⟨h.fit,λj b c t a=>h.Uu j b c t (hv j b _ a),h.XH,h.keep⟩
theorem Ws.Oq (h:Ws H η O RJ) (hv:∀j b v,Qd j b=some v->η j b=some v):Ws H Qd O RJ:=by
 have g:∀j b,η j b=none->Qd j b=none:=λj b e=>by
  cases i:Qd j b with
  | none=>rfl
  | some v=>rw[hv j b v i] at e;cases e
 exact⟨h.apart,h.high,h.Tu,λj b v a=>let ⟨c,d,f⟩:=h.fresh j b v (hv j b v a);⟨c,d,λk l=>g k b (f k l)⟩,λs o b m a=>let ⟨c,d,f⟩:=h.Vm s o b m a;⟨c,d,λk=>g k b (f k)⟩,h.U',h.So,h.Yq⟩
theorem Vl {o':ν} (a:O s=some o) {r:Nat} {q:ν} (h:upd O s (some o') r=some q):(r=s/\q=o')\/(r≠s/\O r=some q):=by
 by_cases e:r=s
 .subst e;rw[upd_same] at h;cases h;exact .inl ⟨rfl,rfl⟩
 .rw[upd_ne _ _ e] at h;exact .inr ⟨e,h⟩
theorem LC {a b:Tok} (c:tok i s=a) (d:∀q p,a≠.par q p .Z4) (f:∀q p,b≠.par q p .Z4) (j r q p:Nat):Zz tok i s b j r=.par q p .Z4↔tok j r=.par q p .Z4:=by
 by_cases e:j=i/\r=s
 .obtain⟨rfl,rfl⟩:=e;rw[X2,c];exact⟨λx=>absurd x (f q p),λx=>absurd x (d q p)⟩
 .rw[X' _ e]
theorem M8 {a b:Tok} (c:tok i s=a) (d:a≠.nil) (j r:Nat) (h:Zz tok i s b j r≠.nil):tok j r≠.nil:=by
 by_cases e:j=i/\r=s
 .obtain⟨rfl,rfl⟩:=e;rw[c];exact d
 .rw[X' _ e] at h;exact h
theorem M7 {a b:Tok} (c:tok i s=a) (d:∀k m g,a=.ch k m g->∃k m g,b=.ch k m g) (j r k:Nat) (m:UX) (g:Qi) (h:tok j r=.ch k m g):∃k m g,Zz tok i s b j r=.ch k m g:=by
 by_cases e:j=i/\r=s
 .obtain⟨rfl,rfl⟩:=e;rw[X2];exact d k m g (c▸h)
 .rw[X' _ e];exact⟨k,m,g,h⟩
end
section
variable {P:Program} {Q:Value->Prop} {ZK:World} {c c':Y1} {gs:Array Goroutine} {w w':World} {t:Trace} {i:Nat} {g g':Goroutine} {es:Array Event}
variable {f:Bool×Goroutine×γ->Xr (Bool×Goroutine×γ)}
theorem Inv.LB (h:Inv P Q ZK c gs w t) (R:gs[i]?=some g) (S:Ho P (i==0) (UQ P Q f) g (c.x i)):WC P Q ZK c gs w t i f:=by
 obtain⟨s,sp,m,k,g',aa,U,ab,ad,ax,ae,af,ag⟩:=S;have ah:i<gs.size:=Us R;obtain⟨o,d,ai⟩:=h.Zn.RL i s sp aa;subst ai;have l:c.tok i s=.ch k .own .work:=ab;have hd:c.deaf i=0:=ad;have aj:c.rel i=false:=ae;have ak:=af w (h.mem.fit (.inl i));have al:=h.Zn.G8 d l J;have am:=h.Yq.Sm s o m d U al (λj V L g u=>by
  have:=h.Zn.only d (i:=i) (by rw[l];rfl) j V L g u;subst this;rw[l] at u;cases u)
 have an:=ag o.L (c.H (.inr m)) am (h.hold.apart _ _ J) ⟨(h.Zn.SP s o d).1,λS=>(by
  obtain⟨j,E,ao,C,Χ⟩:=((h.Zn.SP s o d).2 k).1 S;have:=h.Zn.Pp s j i k E ao _ _ C l;subst this;rw[l] at C;cases C;exact Χ),w,h.mem.fit _,h.mem.fit _⟩
 let K:γ:={c.x i with G:=join (c.H (.inl i)) (c.H (.inr m)),tok:=upd (c.tok i) s (.ch k (.YT o.L) .work),view:=upd (c.view i) s none}
 let c':Y1:={c with H:=ZI (ZI c.H (.inl i) (join (c.H (.inl i)) (c.H (.inr m)))) (.inr m) Ψ.empty,tok:=Zz c.tok i s (.ch k (.YT o.L) .work),view:=upd c.view i (upd (c.view i) s none),O:=upd c.O s (some o),T:=upd c.T i (f (i==0,g',K))}
 have W:=Ut.upd (o':=o) d rfl
 have Z4:=LC (b:=.ch k (.YT o.L) .work) l J J
 have ap:=M8 (b:=.ch k (.YT o.L) .work) l J
 have F:Ys s o.toSpec m:=.inr U;refine WC.go (c':=c') R ak ?_ _ rfl;rw[ofEvents_one];have aq:c'.x i=K:=by
  have:(Sum.inl i:Zi)≠.inr m:=J;simp[c',K,Y1.x,upd_same,Pj,ZH _ _ this]
 refine h.laid (c':=c') R (h.mem.two (Nb (h.mem.fit _) (h.mem.fit _)) (Po w) λr q B=>?_) ?_ ?_ (h.Zn.Jy d l) ⟨λr q E B X M Y=>?_,λr q B M=>?_⟩
  (h.Yv.app ah (λZ A=>by simp at A;subst A;rfl) (λN=>by rw[aj] at N;cases N) (λs q p ⟨j,x⟩=>⟨j,(Z4 j s q p).1 x⟩) (λj s q p x=>(Z4 j s q p).1 x))
  (h.W1.app h.ZF.low (λZ A b ar=>by simp at A;subst A;cases ar) (λj b v hv=>.inl ⟨v,hv⟩) (λr q B=>?_) (λj r V au g e=>M7 l (λ_ _ _ _=>⟨_,_,_,rfl⟩) j r V au g e))
  ⟨g',?_,.inl rfl⟩ (λj u=>⟨?_,upd_ne _ _ u⟩) (.inr λj r q _ a b=>?_)
 .rcases Vl d B with⟨rfl,rfl⟩|⟨_,n⟩
  .exact h.mem.XH _ _ d
  .exact h.mem.XH _ _ n
 .exact h.hold.two J (Sub.refl _) (Sub.empty _) (Apart.Qe _) W λx N=>by
   rcases N with e|e
   .cases e;exact⟨s,o,d,F⟩
   .cases e
 .refine h.ZF.word (i:=i) rfl (.inl rfl) (h.low d F) W (λ_ _ _ x=>x) λa=>?_;by_cases Χ:a=.inr m
  .subst Χ;show YQ _ _ (ZI _ _ _ _);rw[YE];exact YQ.empty
  .show YQ _ _ (ZI _ _ _ _);rw[ZH _ _ Χ];by_cases C:a=.inl i
   .subst C;rw[YE];exact((h.ZF.perms (.inl i)).own (λZ A=>by simp at A;subst A;rfl)).join ((h.ZF.perms (.inr m)).acquire h.ZF.norel d F (by rw[l];simp) rfl rfl (by rw[h.ZF.hears];exact hd))
   .rw[ZH _ _ C];exact h.ZF.Ot a rfl W ap
 .rcases Vl d B with⟨rfl,rfl⟩|⟨e,n⟩
  .exact absurd (X2 ..) (Y i k q.L .work)
  .have I:(.inr E:Zi)≠.inr m:=λx=>by cases x;exact e (h.hold.U' r s q o m n d (.inr X) F)
   show q.Yi q.L (ZI (ZI c.H _ _) (.inr m) _ (.inr E));rw[ZH _ _ I,We];exact h.Yq.Sm r q E n X (λj q p x=>M j q p ((Z4 j r q p).2 x)) λj k L g x=>Y j k L g (by show Zz c.tok i s _ j r=_;rw[X' _ (λy=>e y.2)];exact x)
 .rcases Vl d B with⟨rfl,rfl⟩|⟨e,n⟩
  .have I:(.inr r:Zi)≠.inr m:=λx=>by cases x;exact h.hold.So _ q m d U rfl
   show UR q.D q.YY (ZI (ZI c.H _ _) (.inr m) _ (.inr r));rw[ZH _ _ I,We];exact h.Yq.SO r q d (λj q p x=>M j q p ((Z4 j r q p).2 x))
  .have I:(.inr r:Zi)≠.inr m:=λx=>by cases x;exact e (h.hold.U' m s q o m n d (.inl rfl) F)
   show UR q.D q.YY (ZI (ZI c.H _ _) (.inr m) _ (.inr r));rw[ZH _ _ I,We];exact h.Yq.SO r q n (λj q p x=>M j q p ((Z4 j r q p).2 x))
 .rcases Vl d B with⟨rfl,rfl⟩|⟨_,n⟩
  .exact⟨_,d,rfl⟩
  .exact⟨q,n,rfl⟩
 .rw[aq];show VS P Q (upd c.T i (f (i==0,g',K)) i) _ _ _;rw[upd_same];exact an
 .have av:(Sum.inl j:Zi)≠.inr m:=by simp
  have aw:(Sum.inl j:Zi)≠.inl i:=λe=>u (by cases e;rfl);simp[c',Y1.x,upd_ne _ _ u,QY _ u,ZH _ _ av,ZH _ _ aw]
 .exact⟨q,by show upd c.O s (some o) r=some q;rw[LG d];exact a,b⟩
theorem Inv.Jn (h:Inv P Q ZK c gs w t) (aa:gs[i]?=some g) (an:Hn P (i==0) (UQ P Q f) g (c.x i)):WC P Q ZK c gs w t i f:=by
 obtain⟨s,sp,m,k,L,g',G',E,ao,ab,ad,ae,aF,ap,aq,F,ar,au⟩:=an;have av:i<gs.size:=Us aa;obtain⟨o,d,aw⟩:=h.Zn.RL i s sp ao;subst aw;have M:c.tok i s=.ch k (.YT L) .work:=ad;have hd:c.deaf i=0:=ae;have ag:c.rel i=false:=ap;have ax:=aq w (h.mem.fit (.inl i));have ay:o.L=L:=h.Zn.YT i s k L .work o d M;let o':ν:={o with L:=o.L++[k]};let S:γ:={c.x i with G:=G',tok:=upd (c.tok i) s (.ch k .fin .work),view:=upd (c.view i) s none};let c':Y1:={c with H:=ZI (ZI c.H (.inl i) G') (.inr m) E,tok:=Zz c.tok i s (.ch k .fin .work),view:=upd c.view i (upd (c.view i) s none),O:=upd c.O s (some o'),T:=upd c.T i (f (i==0,g',S))};have U:Ut c.O (upd c.O s (some o')):=Ut.upd d rfl;have Z4:=LC (b:=.ch k .fin .work) M J J;have ah:=M8 (b:=.ch k .fin .work) M J;have K:Ys s o.toSpec m:=.inr ab;refine WC.go (c':=c') aa ax ?_ _ rfl;rw[ofEvents_one];have az:c'.x i=S:=by
  have:(Sum.inl i:Zi)≠.inr m:=J;simp[c',S,Y1.x,upd_same,Pj,ZH _ _ this]
 refine h.laid (c':=c') aa (h.mem.two (F.l.fits (h.mem.fit (.inl i))) (F.r.fits (h.mem.fit (.inl i))) λr q B=>?_) ?_ ?_ (h.Zn.CP d M) ⟨λr q A B I V aA=>?_,λr q B V=>?_⟩
  (h.Yv.app av (λC n=>by simp at n;subst n;rfl) (λW=>by rw[ag] at W;cases W) (λs q p ⟨j,x⟩=>⟨j,(Z4 j s q p).1 x⟩) (λj s q p x=>(Z4 j s q p).1 x))
  ⟨λr q A B I p C aB N=>?_,λj b v hv C n N=>?_⟩
  ⟨g',?_,.inl rfl⟩ (λj X=>⟨?_,upd_ne _ _ X⟩) (.inr λj r q _ a b=>?_)
 .rcases Vl d B with⟨rfl,rfl⟩|⟨_,u⟩
  .exact(h.mem.XH r o d:At r o w)
  .exact h.mem.XH _ _ u
 .exact h.hold.two J F.l.RI F.r.RI F.apart U λx W=>by
   rcases W with e|e
   .cases e;exact⟨s,o,d,K⟩
   .cases e
 .refine h.ZF.word (i:=i) rfl (.inr rfl) (h.low d K) U (λ_ _ _ x=>x) λa=>?_;by_cases Χ:a=.inr m
  .subst Χ;show YQ _ _ (ZI _ _ _ _);rw[YE];exact((YQ.release (h.ZF.perms (.inl i)) rfl rfl (by rw[h.ZF.hears];exact hd)).sub F.r).mono λ_ x=>LI U.1 ah x
  .show YQ _ _ (ZI _ _ _ _);rw[ZH _ _ Χ];by_cases Y:a=.inl i
   .subst Y;rw[YE];exact((h.ZF.perms (.inl i)).own (λC n=>by simp at n;subst n;rfl)).sub F.l
   .rw[ZH _ _ Y];exact h.ZF.Ot a rfl U ah
 .rcases Vl d B with⟨rfl,rfl⟩|⟨e,u⟩
  .have e:A=m:=by have:o.Z0=some A:=I;rw[ab] at this;cases this;rfl
   subst e;show o.Yi (o.L++[k]) (ZI (ZI c.H _ _) (.inr A) _ (.inr A));rw[YE,ay];exact ar
  .have R:(.inr A:Zi)≠.inr m:=λx=>by cases x;exact e (h.hold.U' r s q o m u d (.inr I) K)
   show q.Yi q.L (ZI (ZI c.H _ _) (.inr m) _ (.inr A));rw[ZH _ _ R,We];exact h.Yq.Sm r q A u I (λj q p x=>V j q p ((Z4 j r q p).2 x)) λj k L g x=>aA j k L g (by show Zz c.tok i s _ j r=_;rw[X' _ (λy=>e y.2)];exact x)
 .rcases Vl d B with⟨rfl,rfl⟩|⟨e,u⟩
  .have R:(.inr r:Zi)≠.inr m:=λx=>by cases x;exact h.hold.So _ o m d ab rfl
   show UR o.D o.YY (ZI (ZI c.H _ _) (.inr m) _ (.inr r));rw[ZH _ _ R,We];exact h.Yq.SO r o d (λj q p x=>V j q p ((Z4 j r q p).2 x))
  .have R:(.inr r:Zi)≠.inr m:=λx=>by cases x;exact e (h.hold.U' m s q o m u d (.inl rfl) K)
   show UR q.D q.YY (ZI (ZI c.H _ _) (.inr m) _ (.inr r));rw[ZH _ _ R,We];exact h.Yq.SO r q u (λj q p x=>V j q p ((Z4 j r q p).2 x))
 .rcases getElem?_append_cases aB with⟨_,aC⟩|⟨_,ai⟩
  .have aj:∀Z,c.O r=some Z->Z.Z0=some A->(∃ak al g,Zz c.tok i s (.ch k .fin .work) C.g r=.ch ak al g)/\(c.rel C.g=true->Before (t++#[{g:=i,fn:=g.frame.fn,pos:=g.frame.place,act:=MemAct.ofEvent (Go.ConcR.mk (Mark.releaseMerge {block:=m,off:=0}))}]) p (c.Ya C.g)):=λZ Y Χ=>by
    obtain⟨⟨ak,al,g,ad⟩,ae⟩:=h.W1.Pm r Z A Y Χ p C aC N;exact⟨M7 M (λ_ _ _ _=>⟨_,_,_,rfl⟩) _ _ _ _ _ ad,λaf=>(ae af).app _⟩
   rcases Vl d B with⟨rfl,rfl⟩|⟨_,u⟩
   .exact aj o d I
   .exact aj q u I
  .simp at ai;subst ai;cases N;have:r=s:=by
    rcases Vl d B with⟨rfl,rfl⟩|⟨_,u⟩
    .rfl
    .exact h.hold.U' r s q o m u d (.inr I) K
   subst this;exact⟨⟨k,.fin,.work,X2 ..⟩,λaf=>by
    have:c.rel i=true:=af;rw[ag] at this;cases this⟩
 .rcases S1.1 n with n|n
  .exact h.W1.Pl j b v hv C n N
  .simp at n;subst n;cases N;have:=(h.hold.Vm s o m d K).2.2 j;have am:c.η j m=some v:=hv;rw[this] at am;cases am
 .rw[az];show VS P Q (upd c.T i (f (i==0,g',S)) i) _ _ _;rw[upd_same];exact au
 .have aD:(Sum.inl j:Zi)≠.inr m:=by simp
  have aE:(Sum.inl j:Zi)≠.inl i:=λe=>X (by cases e;rfl);simp[c',Y1.x,upd_ne _ _ X,QY _ X,ZH _ _ aD,ZH _ _ aE]
 .by_cases e:r=s
  .subst e;rw[d] at a;cases a;exact⟨o',upd_same ..,b⟩
  .exact⟨q,by show upd c.O s (some o') r=some q;rw[upd_ne _ _ e];exact a,b⟩
end
section
variable {P:Program} {Q:Value->Prop} {ZK:World} {c c':Y1} {gs:Array Goroutine} {w w':World} {t:Trace} {i:Nat} {g g':Goroutine} {es:Array Event}
variable {f:Bool×Goroutine×γ->Xr (Bool×Goroutine×γ)}
theorem Inv.parent (h:Inv P Q ZK c gs w t) {s:Nat} {o:ν} (g:c.O s=some o):c.ZA s<gs.size/\∃q p b,c.tok (c.ZA s) s=.par q p b:=by
 obtain⟨e,i,f⟩:=LO (φ:=Yh) (N:=gs.size) (τ:=λa=>c.tok a s) (by rw[(h.Zn.ζ s o g).2.Tv];exact Nat.one_pos);have j:∃q p b,c.tok e s=.par q p b:=by
  cases d:c.tok e s with
  | par q p b=>exact⟨q,p,b,rfl⟩
  | nil=>simp[d,Yh] at f
  | ch=>simp[d,Yh] at f
 obtain⟨q,p,b,d⟩:=j;have k:=h.Zn.par e _ q p b d;subst k;exact⟨i,q,p,b,d⟩
theorem Inv.Jm (h:Inv P Q ZK c gs w t) (av:gs[i]?=some g) (aP:Hm P (i==0) (UQ P Q f) g (c.x i)):WC P Q ZK c gs w t i f:=by
 obtain⟨s,sp,k,K,g',E,aQ,aw,aD,aR,ax,bk,aS,aT,aj,aU,aV⟩:=aP;have aW:i<gs.size:=Us av;obtain⟨o,d,aX⟩:=h.Zn.RL i s sp aQ;subst aX;have V:c.tok i s=.ch k K .work:=aw;have hd:c.deaf i=0:=ax;have bl:c.rel i=false:=aS;have aE:∀aF,aF≠s->Xy (c.tok i aF):=aR;have aY:=aT w (h.mem.fit (.inl i));obtain⟨bm,ak,bn⟩:=h.Zn.SS i s k K .work V;have aG:=h.Zn.G8 d V J;let y:MemOp:={g:=i,fn:=g.frame.fn,pos:=g.frame.place,act:=MemAct.ofEvent (Go.ConcR.mk (Mark.releaseMerge ⟨s,0,none⟩))};have aZ:y.act=.mark (.releaseMerge ⟨s,0,none⟩):=rfl;have al:(t++#[y])[t.size]?=some y:=J;have a0:(t++#[y]).heard t.size:=⟨i,by simp[Trace.g?,y],by rw[deaf_old (ZO _)];exact(h.ZF.hears i).trans hd⟩;let o':ν:={o with YY:=k::o.YY};let am:γ:={c.x i with G:=Ψ.empty,η:=λ_=>none,tok:=upd (c.tok i) s (.ch k K .rel),view:=upd (c.view i) s none,rel:=true};let c':Y1:={c with H:=ZI (ZI c.H (.inl i) Ψ.empty) (.inr s) (join E (c.H (.inr s))),η:=upd c.η i λ_=>none,tok:=Zz c.tok i s (.ch k K .rel),view:=upd c.view i (upd (c.view i) s none),O:=upd c.O s (some o'),rel:=upd c.rel i true,Ya:=upd c.Ya i t.size,T:=upd c.T i (f (i==0,g',am))};have aa:Ut c.O (upd c.O s (some o')):=Ut.upd d rfl;have Z4:=LC (b:=.ch k K .rel) V J J;have ay:=M8 (b:=.ch k K .rel) V J;have ab:Ys s o.toSpec s:=.inl rfl;have an:∀j b v,upd c.η i (λ_=>none) j b=some v->c.η j b=some v:=λj b v hv=>by
  by_cases e:j=i
  .subst e;rw[upd_same] at hv;cases hv
  .rw[upd_ne _ _ e] at hv;exact hv
 have aH:=h.hold.apart (.inl i) (.inr s) J
 have a1:Sub (join E (c.H (.inr s))) (join (c.H (.inl i)) (c.H (.inr s))):=Sub.both (Sub.RI aj) (Sub.CB (h.mem.fit _) (h.mem.fit _) aH)
 have aI:∀j r C L g,c.tok j r=.ch C (.YT L) g->Zz c.tok i s (.ch k K .rel) j r=.ch C (.YT L) g:=λj r C L g n=>by
  rw[X' _ (λe=>?_)]
  .exact n
  .obtain⟨rfl,rfl⟩:=e;rw[V] at n;rcases aD with rfl|⟨rfl,_⟩<;>cases n
 have bo:∀j,j≠i->∀r,Zz c.tok i s (.ch k K .rel) j r=c.tok j r:=λj n r=>X' _ λe=>n e.1;refine WC.go (c':=c') av aY ?_ _ rfl;rw[ofEvents_one];have a2:c'.x i=am:=by
  have:(Sum.inl i:Zi)≠.inr s:=J;simp[c',am,Y1.x,upd_same,Pj,ZH _ _ this]
 have a3:Pn gs.size c'.tok c'.rel c'.ZA c'.home c'.Ya (t++#[y]):=by
  refine⟨λC g' ad=>?_,λj M n=>?_,λj M n X=>?_,λj M n aJ aK=>?_⟩
  .obtain⟨l,m,Z⟩:=T1.1 ad;rcases getElem?_append_cases m with⟨_,ao⟩|⟨_,Y⟩
   .exact h.Yv.RH C g' (by simp[Trace.g?,ao,Z])
   .simp at Y;subst Y;rw[<-Z];exact aW
  .by_cases e:j=i
   .subst e;have A:c'.Ya j=t.size:=upd_same ..;rw[A];refine⟨y,al,rfl,by rw[aZ];show _=MemAct.mark (.releaseMerge ⟨c.home j,0,none⟩);rw[ak],a0,λC ad ap=>?_⟩;obtain⟨l,m,Z⟩:=T1.1 ad;rcases getElem?_append_cases m with⟨ae,ao⟩|⟨az,Y⟩
    .exact .inr (hb_po ae m al Z)
    .exact absurd ap (Ou (u:=#[y]) (λl m=>by simp at m;subst m;rfl) C az)
   .have W:c.rel j=true:=by have:upd c.rel i true j=true:=n;rwa [upd_ne _ _ e] at this
    have A:c'.Ya j=c.Ya j:=upd_ne _ _ e;rw[A];obtain⟨l,af,aA,a4,a5,a6⟩:=h.Yv.c1 j M W;have ag:=lt_size_of_getElem? af;refine⟨l,by rw[getElem?_append_old ag];exact af,aA,a4,(heard_old ag).2 a5,λC ad ap=>?_⟩;obtain⟨bp,m,Z⟩:=T1.1 ad;rcases getElem?_append_cases m with⟨ae,ao⟩|⟨az,Y⟩
    .exact(a6 C (by simp[Trace.g?,ao,Z]) ((Na ae).1 ap)).app _
    .exact absurd ap (Ou (u:=#[y]) (λl m=>by simp at m;subst m;rfl) C az)
  .obtain⟨q,p,F⟩:=X;have B:c.tok (c.ZA (c.home j)) (c.home j)=.par q p .Z4:=(Z4 _ _ q p).1 F;by_cases e:j=i
   .subst e;rw[ak] at B;exact absurd B (aG _ q p)
   .have W:c.rel j=true:=by have:upd c.rel i true j=true:=n;rwa [upd_ne _ _ e] at this
    have A:c'.Ya j=c.Ya j:=upd_ne _ _ e;rw[A];exact(h.Yv.c2 j M W ⟨q,p,B⟩).app _
  .by_cases e:j=i
   .subst e;exfalso;have a7:c.ZA s≠0:=by rw[<-ak];exact aJ
    have N:c.ZA s≠j:=U
    have a8:c.rel (c.ZA s)=true:=by
     have:upd c.rel j true (c.ZA (c.home j))=true:=aK;rw[ak,upd_ne _ _ N] at this;exact this
    obtain⟨_,q,p,aq,R⟩:=h.parent d;have ah:Xy (c.tok (c.ZA s) s):=by
     by_cases Χ:s=c.home (c.ZA s)
     .obtain⟨a9,a',ba,ar⟩:=h.Zn.Q0 (c.ZA s) a7 U;rw[<-Χ,R] at ar;cases ar
     .exact h.Zn.SR _ s a8 Χ
    rw[R] at ah;cases aq<;>first|exact ah.elim|exact aG _ _ _ R
   .have W:c.rel j=true:=by have:upd c.rel i true j=true:=n;rwa [upd_ne _ _ e] at this
    have A:c'.Ya j=c.Ya j:=upd_ne _ _ e;rw[A];by_cases Χ:c.ZA (c.home j)=i
    .have aB:c'.Ya (c.ZA (c.home j))=t.size:=by rw[Χ];exact upd_same ..
     show Before _ _ (c'.Ya (c.ZA (c.home j)));rw[aB];obtain⟨l,af,_⟩:=h.Yv.c1 j M W;have bb:j<gs.size:=by
      obtain⟨l,af,aA,_⟩:=h.Yv.c1 j M W;exact h.Yv.RH (c.Ya j) j (by simp[Trace.g?,af,aA])
     obtain⟨a9,a',ba,ar⟩:=h.Zn.Q0 j M bb;obtain⟨bq,bc⟩:=h.obj (i:=j) (s:=c.home j) (by rw[ar];simp);obtain⟨_,q,p,aq,R⟩:=h.parent bc;rw[Χ] at R;have N:c.home j≠s:=λbd=>by rw[bd,V] at R;cases R
     have ah:=aE _ N;rw[R] at ah;have be:aq=.Z4:=by cases aq<;>first|exact ah.elim|rfl
     subst be;have aL:=h.Yv.c2 j M W ⟨q,p,by rw[Χ];exact R⟩;rw[Χ] at aL;exact .inr (aL.hb_new (u:=#[y]) (ZO _) al rfl)
    .have aB:c'.Ya (c.ZA (c.home j))=c.Ya (c.ZA (c.home j)):=upd_ne _ _ Χ
     show Before _ _ (c'.Ya (c.ZA (c.home j)));rw[aB];refine(h.Yv.c3 j M W aJ ?_).app _;have:upd c.rel i true (c.ZA (c.home j))=true:=aK
     rwa [upd_ne _ _ Χ] at this
 refine h.laid (c':=c') av ((h.mem.two (Po w) (Nb (aj.fits (h.mem.fit (.inl i))) (h.mem.fit _)) λr q F=>?_).Oq an) ((h.hold.two J (Sub.empty _) a1 (Apart.Qe _).symm aa λx bf=>?_).Oq an) ?_ (h.Zn.CO d V aD aE) ⟨λr q I F S X aM=>?_,λr q F X=>?_⟩
  a3 ⟨λr q I F S p l ag ai=>?_,λj b v hv l m ai=>?_⟩
  ⟨g',?_,.inl rfl⟩ (λj n=>⟨?_,upd_ne _ _ n⟩) (.inr λj r q _ a b=>?_)
 .rcases Vl d F with⟨rfl,rfl⟩|⟨_,B⟩
  .exact(h.mem.XH r o d:At r o w)
  .exact h.mem.XH _ _ B
 .rcases bf with e|e
  .cases e;exact⟨s,o,d,ab⟩
  .cases e
 .refine h.ZF.word (i:=i) rfl (.inr rfl) (h.low d ab) aa an λa=>?_;by_cases Χ:a=.inr s
  .subst Χ;show YQ _ _ (ZI _ _ _ _);rw[YE];exact(((YQ.release (h.ZF.perms (.inl i)) rfl rfl (by rw[h.ZF.hears];exact hd)).sub aj).mono λ_ x=>LI aa.1 ay x).join (h.ZF.Ot (.inr s) rfl aa ay)
  .show YQ _ _ (ZI _ _ _ _);rw[ZH _ _ Χ];by_cases A:a=.inl i
   .subst A;rw[YE];exact YQ.empty
   .rw[ZH _ _ A];exact h.ZF.Ot a rfl aa ay
 .rcases Vl d F with⟨rfl,rfl⟩|⟨e,B⟩
  .have N:(.inr I:Zi)≠.inr r:=λx=>by cases x;exact h.hold.So _ o _ d S rfl
   show o.Yi o.L (ZI (ZI c.H _ _) (.inr r) _ (.inr I));rw[ZH _ _ N,We];exact h.Yq.Sm r o I d S (λj q p x=>X j q p ((Z4 j r q p).2 x)) λj k L g x=>aM j k L g (aI _ _ _ _ _ x)
  .have N:(.inr I:Zi)≠.inr s:=λx=>e (h.hold.U' r s q o I B d (.inr S) (by cases x;exact ab))
   show q.Yi q.L (ZI (ZI c.H _ _) (.inr s) _ (.inr I));rw[ZH _ _ N,We];exact h.Yq.Sm r q I B S (λj q p x=>X j q p ((Z4 j r q p).2 x)) λj k L g x=>aM j k L g (aI _ _ _ _ _ x)
 .rcases Vl d F with⟨rfl,rfl⟩|⟨e,B⟩
  .show UR o.D (k::o.YY) (ZI (ZI c.H _ _) (.inr r) _ (.inr r));rw[YE];exact⟨E,c.H (.inr r),aU,h.Yq.SO r o d (λj q p x=>X j q p ((Z4 j r q p).2 x)),aH.sub aj (Sub.refl _),rfl⟩
  .have N:(.inr r:Zi)≠.inr s:=λx=>by cases x;exact e rfl
   show UR q.D q.YY (ZI (ZI c.H _ _) (.inr s) _ (.inr r));rw[ZH _ _ N,We];exact h.Yq.SO r q B (λj q p x=>X j q p ((Z4 j r q p).2 x))
 .rcases getElem?_append_cases ag with⟨ae,bg⟩|⟨_,Y⟩
  .have aN:∀au,c.O r=some au->au.Z0=some I->(∃C aO g,Zz c.tok i s (.ch k K .rel) l.g r=.ch C aO g)/\(c'.rel l.g=true->Before (t++#[y]) p (c'.Ya l.g)):=λau A Χ=>by
    obtain⟨⟨C,aO,g,aw⟩,ax⟩:=h.W1.Pm r au I A Χ p l bg ai;refine⟨M7 V (λ_ _ _ _=>⟨_,_,_,rfl⟩) _ _ _ _ _ aw,λbh=>?_⟩;by_cases e:l.g=i
    .have A:c'.Ya l.g=t.size:=by rw[e];exact upd_same ..
     rw[A];exact .inr (hb_po ae ag al e)
    .have A:c'.Ya l.g=c.Ya l.g:=upd_ne _ _ e
     have Χ:c.rel l.g=true:=by have:upd c.rel i true l.g=true:=bh;rwa [upd_ne _ _ e] at this
     rw[A];exact(ax Χ).app _
   rcases Vl d F with⟨rfl,rfl⟩|⟨_,B⟩
   .exact aN o d S
   .exact aN q B S
  .simp at Y;subst Y;cases ai;exfalso;rcases Vl d F with⟨rfl,rfl⟩|⟨e,B⟩
   .exact h.hold.So _ o _ d S rfl
   .exact e (h.hold.U' r s q o s B d (.inr S) ab)
 .have aC:=an j b v hv;rcases S1.1 m with m|m
  .exact h.W1.Pl j b v aC l m ai
  .simp at m;subst m;cases ai;have:=(h.hold.Vm s o s d ab).2.2 j;rw[this] at aC;cases aC
 .rw[a2];show VS P Q (upd c.T i (f (i==0,g',am)) i) _ _ _;rw[upd_same];exact aV
 .have bi:(Sum.inl j:Zi)≠.inr s:=by simp
  have bj:(Sum.inl j:Zi)≠.inl i:=λe=>n (by cases e;rfl);simp[c',Y1.x,upd_ne _ _ n,QY _ n,ZH _ _ bi,ZH _ _ bj]
 .by_cases e:r=s
  .subst e;rw[d] at a;cases a;exact⟨o',upd_same ..,b⟩
  .exact⟨q,by show upd c.O s (some o') r=some q;rw[upd_ne _ _ e];exact a,b⟩
theorem Inv.LA (h:Inv P Q ZK c gs w t) (am:gs[i]?=some g) (Z:Hl P (i==0) (UQ P Q f) g (c.x i)):WC P Q ZK c gs w t i f:=by
 obtain⟨s,sp,n,av,g',aR,aS,an,aT,bG,aU,aV,aW⟩:=Z;have aX:i<gs.size:=Us am;obtain⟨o,l,aY⟩:=h.Zn.RL i s sp aR;subst aY;have U:c.tok i s=.par n 0 av:=aS;have hd:c.deaf i=0:=aT;have bH:c.rel i=false:=aU;have aa:=aV w (h.mem.fit (.inl i));have aZ:=h.Zn.par i s n 0 av U;obtain⟨a0,a1,aw⟩:=h.Zn.full l U an;have ao:Ys s o.toSpec s:=.inl rfl;have ax:∀j q p,c.tok j s≠.par q p .Z4:=λj q p d=>by
  have e:=h.Zn.par j s q p .Z4 d;rw[<-aZ] at e;subst e;rw[U] at d;rcases an with rfl|rfl<;>cases d
 let y:MemOp:={g:=i,fn:=g.frame.fn,pos:=g.frame.place,act:=MemAct.ofEvent (Go.ConcR.mk (Mark.acquire ⟨s,0,none⟩))}
 have a2:y.act=.mark (.acquire ⟨s,0,none⟩):=rfl
 have ay:Deaf t i=0:=by rw[h.ZF.hears];exact hd
 have ae:Ut c.O (upd c.O s (some o)):=Ut.upd l rfl
 have az:=M8 (b:=.par n 0 .Z4) U J
 have aA:∀j,(∃k m g,c.tok j s=.ch k m g)->j≠0/\c.home j=s/\c.rel j=true/\Knows (t++#[y]) i (c.Ya j):=λj ⟨k,m,g,d⟩=>by
  obtain⟨K,N,_⟩:=h.Zn.SS j s k m g d;have ab:c.rel j=true:=(h.Zn.Sn j k m g K (by rw[N];exact d)).2 (by rw[aw j k m g d];simp);obtain⟨M,a3,aB,aC,a4,_⟩:=h.Yv.c1 j K ab;rw[N] at aC;exact⟨K,N,ab,Knows.marked a3 aC a4 h.ZF.norel rfl a2 ay⟩
 have a5:=h.Yq.SO s o l ax;obtain⟨I,R,a6,a7,a8,a9,a',ba,bb,bI,aD,bc,bd,be⟩:∃(I:Zi->Ψ) (R:Ψ),Fits R w/\(o.Z0≠none->o.Yi o.L R)/\(o.Z0=none->R=Ψ.empty)/\Apart (c.H (.inl i)) R/\Apart (c.H (.inr s)) R/\
   I (.inl i)=join (join (c.H (.inl i)) (c.H (.inr s))) R/\(∀j,j≠i->I (.inl j)=c.H (.inl j))/\(∀m,o.Z0=some m->I (.inr m)=Ψ.empty)/\(∀b,b≠s->o.Z0≠some b->I (.inr b)=c.H (.inr b))/\
   Ws I c.η (upd c.O s (some o)) ZK.heap.size/\W2 I c.η (upd c.O s (some o)) ZK w/\∀a,YQ (t++#[y]) (VR (Zz c.tok i s (.par n 0 .Z4)) (upd c.O s (some o)) (t++#[y]) a) (I a):=by
  have aE:∀r q,upd c.O s (some o) r=some q->At r q w:=λr q C=>by
   rcases Vl l C with⟨rfl,rfl⟩|⟨_,S⟩
   .exact h.mem.XH _ _ l
   .exact h.mem.XH _ _ S
  have aF:YQ (t++#[y]) (Knows (t++#[y]) i) (join (c.H (.inl i)) (c.H (.inr s))):=
   ((h.ZF.perms (.inl i)).own (λM E=>by simp at E;subst E;rfl)).join ((h.ZF.perms (.inr s)).acquire h.ZF.norel l ao (by rw[U];simp) rfl rfl ay)
  have aG:Ws (ZI (ZI c.H (.inl i) (join (c.H (.inl i)) (c.H (.inr s)))) (.inr s) Ψ.empty) c.η (upd c.O s (some o)) ZK.heap.size:=
   h.hold.two J (Sub.refl _) (Sub.empty _) (Apart.Qe _) ae λx ap=>by
    rcases ap with e|e
    .cases e;exact⟨s,o,l,ao⟩
    .cases e
  have aH:W2 (ZI (ZI c.H (.inl i) (join (c.H (.inl i)) (c.H (.inr s)))) (.inr s) Ψ.empty) c.η (upd c.O s (some o)) ZK w:=h.mem.two (Nb (h.mem.fit _) (h.mem.fit _)) (Po w) aE
  have aI:(Sum.inl i:Zi)≠.inr s:=J;cases af:o.Z0 with
  | none=>
   refine⟨ZI (ZI c.H (.inl i) (join (c.H (.inl i)) (c.H (.inr s)))) (.inr s) Ψ.empty,Ψ.empty,Po w,λx=>absurd rfl x,λ_=>rfl,Apart.Qe _,Apart.Qe _,?_,λj d=>?_,λm ag=>(by cases ag),λb hb _=>?_,aG,aH,λa=>?_⟩
   .rw[ZH _ _ aI,YE,Jo]
   .have V:(Sum.inl j:Zi)≠.inl i:=λe=>d (by cases e;rfl);rw[ZH _ _ J,ZH _ _ V]
   .have V:(Sum.inr b:Zi)≠.inr s:=λe=>hb (by cases e;rfl);rw[ZH _ _ V,We]
   .by_cases Χ:a=.inr s
    .subst Χ;rw[YE];exact YQ.empty
    .rw[ZH _ _ Χ];by_cases F:a=.inl i
     .subst F;rw[YE];exact aF
     .rw[ZH _ _ F];exact h.ZF.Ot a rfl ae az
  | some m=>
   have ag:Ys s o.toSpec m:=.inr af
   have bf:m≠s:=h.hold.So s o m l af
   have aJ:(Sum.inr m:Zi)≠.inr s:=λe=>bf (by cases e;rfl)
   have aK:(Sum.inl i:Zi)≠.inr m:=J
   have bg:∀j k L g,c.tok j s≠.ch k (.YT L) g:=λj k L g d=>by
    rcases h.Zn.SQ j s k _ g o l d (by rw[aw j k _ g d];simp) with e|⟨e,_⟩<;>cases e
   have bh:=h.Yq.Sm s o m l af ax bg
   have bi:Apart (c.H (.inr s)) (c.H (.inr m)):=h.hold.apart _ _ (Y2 aJ)
   have bj:Apart (c.H (.inl i)) (c.H (.inr m)):=h.hold.apart _ _ aK
   have bk:ZI (ZI c.H (.inl i) (join (c.H (.inl i)) (c.H (.inr s)))) (.inr s) Ψ.empty (.inl i)=join (c.H (.inl i)) (c.H (.inr s)):=by rw[ZH _ _ aI,YE]
   have bl:ZI (ZI c.H (.inl i) (join (c.H (.inl i)) (c.H (.inr s)))) (.inr s) Ψ.empty (.inr m)=c.H (.inr m):=by rw[ZH _ _ aJ,We]
   have bm:=aG.two (a:=.inl i) (b:=.inr m) (A:=join (join (c.H (.inl i)) (c.H (.inr s))) (c.H (.inr m))) (B:=Ψ.empty) (O':=upd c.O s (some o)) J (by rw[bk,bl];exact Sub.refl _) (Sub.empty _) (Apart.Qe _) ⟨λs o' aa=>⟨o',aa,rfl⟩,λs o' aa=>⟨o',aa,rfl⟩⟩ λx ap=>by
    rcases ap with e|e
    .cases e;exact⟨s,o,upd_same ..,ag⟩
    .cases e
   have bn:=aH.two (a:=.inl i) (b:=.inr m) (A:=join (join (c.H (.inl i)) (c.H (.inr s))) (c.H (.inr m))) (B:=Ψ.empty) (O':=upd c.O s (some o)) (Nb (Nb (h.mem.fit _) (h.mem.fit _)) (h.mem.fit _)) (Po w) aE;refine⟨_,c.H (.inr m),h.mem.fit _,λ_=>bh,λx=>(by cases x),bj,bi,?_,λj d=>?_,λad ah=>?_,λb hb bo=>?_,bm,bn,λa=>?_⟩
   .rw[ZH _ _ aK,YE]
   .have V:(Sum.inl j:Zi)≠.inl i:=λe=>d (by cases e;rfl);rw[ZH _ _ J,ZH _ _ V,ZH _ _ J,ZH _ _ V]
   .cases ah;rw[YE]
   .have V:(Sum.inr b:Zi)≠.inr s:=λe=>hb (by cases e;rfl)
    have bp:(Sum.inr b:Zi)≠.inr m:=λe=>bo (by cases e;rfl);rw[ZH _ _ bp,We,ZH _ _ V,We]
   .by_cases aL:a=.inr m
    .subst aL;rw[YE];exact YQ.empty
    .rw[ZH _ _ aL];by_cases F:a=.inl i
     .subst F;rw[YE];refine aF.join ((h.ZF.perms (.inr m)).TQ rfl λk Z=>?_);rcases Z with⟨p,M,K,N,ab,ai⟩|Z
      .obtain⟨bq,aB⟩:=h.W1.Pm s o m l af p M K N;obtain⟨_,_,br,bs⟩:=aA M.g bq;have hb:=(aB br).app #[y];refine Knows.of_before ?_ bs;rcases hb with e|hb
       .rw[<-e];exact ai.app _
       .exact .inr ((ai.app #[y]).hb hb)
      .exact(Z s o l ag i (by rw[U];simp)).app _
     .rw[ZH _ _ F];by_cases Χ:a=.inr s
      .subst Χ;rw[YE];exact YQ.empty
      .rw[ZH _ _ Χ,ZH _ _ F];exact h.ZF.Ot a rfl ae az
 have bt:Apart (c.H (.inl i)) (c.H (.inr s)):=h.hold.apart _ _ J
 have bu:=aW o.YY o.L (c.H (.inr s)) R a0 a5 (λx=>⟨a1 x,a7 x⟩) a8 bt a9 a' ⟨w,h.mem.fit _,h.mem.fit _,a6⟩
 let aj:γ:={c.x i with G:=join (join (c.H (.inl i)) (c.H (.inr s))) R,tok:=upd (c.tok i) s (.par n 0 .Z4),view:=upd (c.view i) s none}
 let c':Y1:={c with H:=I,tok:=Zz c.tok i s (.par n 0 .Z4),view:=upd c.view i (upd (c.view i) s none),O:=upd c.O s (some o),T:=upd c.T i (f (i==0,g',aj))}
 have bv:c'.x i=aj:=by simp[c',aj,Y1.x,upd_same,Pj,ba]
 have ak:∀j r,¬(j=i/\r=s)->Zz c.tok i s (.par n 0 .Z4) j r=c.tok j r:=λj r e=>X' _ e
 have aM:∀r q b,c.O r=some q->r≠s->Ys r q.toSpec b->b≠s/\o.Z0≠some b:=λr q b C aN hb=>⟨λe=>aN (h.hold.U' r s q o b C l hb (.inl e)),λe=>aN (h.hold.U' r s q o b C l hb (.inr e))⟩;refine WC.go (c':=c') am aa ?_ _ rfl;rw[ofEvents_one];refine h.laid (c':=c') am bd bc (h.ZF.word (i:=i) rfl (.inl rfl) (h.low l ao) ae (λ_ _ _ x=>x) be) (h.Zn.gtake l U an) ⟨λr q ad C ah W bw=>?_,λr q C W=>?_⟩ ?_
  (h.W1.app h.ZF.low (λM E b hb=>by simp at E;subst E;cases hb) (λj b v hv=>.inl ⟨v,hv⟩) (λr q C=>?_) (λj r Y bx g e=>M7 U (λk m g e=>?_) j r Y bx g e))
  ⟨g',?_,.inl rfl⟩ (λj d=>⟨?_,upd_ne _ _ d⟩) (.inr λj r q _ a b=>?_)
 .rcases Vl l C with⟨rfl,rfl⟩|⟨e,S⟩
  .exact absurd (X2 ..) (W i n 0)
  .obtain⟨F,Χ⟩:=aM r q ad S e (.inr ah);show q.Yi q.L (I (.inr ad));rw[aD ad F Χ];exact h.Yq.Sm r q ad S ah (λj q p x=>W j q p (by show Zz c.tok i s _ j r=_;rw[ak j r (λy=>e y.2)];exact x)) λj k L g x=>bw j k L g (by show Zz c.tok i s _ j r=_;rw[ak j r (λy=>e y.2)];exact x)
 .rcases Vl l C with⟨rfl,rfl⟩|⟨e,S⟩
  .exact absurd (X2 ..) (W i n 0)
  .obtain⟨F,Χ⟩:=aM r q r S e (.inl rfl);show UR q.D q.YY (I (.inr r));rw[aD r F Χ];exact h.Yq.SO r q S (λj q p x=>W j q p (by show Zz c.tok i s _ j r=_;rw[ak j r (λy=>e y.2)];exact x))
 .refine⟨λY g' aq=>?_,λj X d=>?_,λj X d W=>?_,λj X d a b=>(h.Yv.c3 j X d a b).app _⟩
  .obtain⟨M,E,al⟩:=T1.1 aq;rcases getElem?_append_cases E with⟨_,ar⟩|⟨_,au⟩
   .exact h.Yv.RH Y g' (by simp[Trace.g?,ar,al])
   .simp at au;subst au;rw[<-al];exact aX
  .obtain⟨M,K,N,ab,ai,bz⟩:=h.Yv.c1 j X d;have aO:=lt_size_of_getElem? K;refine⟨M,by rw[getElem?_append_old aO];exact K,N,ab,(heard_old aO).2 ai,λY aq aP=>?_⟩;obtain⟨bJ,E,al⟩:=T1.1 aq;rcases getElem?_append_cases E with⟨bA,ar⟩|⟨bB,au⟩
   .exact(bz Y (by simp[Trace.g?,ar,al]) ((Na bA).1 aP)).app _
   .exact absurd aP (Ou (u:=#[y]) (λM E=>by simp at E;subst E;rfl) Y bB)
  .obtain⟨q,p,C⟩:=W;by_cases e:c.ZA (c.home j)=i/\c.home j=s
   .obtain⟨F,Χ⟩:=e;show Knows _ (c.ZA (c.home j)) (c.Ya j);rw[F];have bC:j<gs.size:=by
     obtain⟨M,K,N,_⟩:=h.Yv.c1 j X d;exact h.Yv.RH (c.Ya j) j (by simp[Trace.g?,K,N])
    obtain⟨bD,bE,bF,aQ⟩:=h.Zn.Q0 j X bC;rw[Χ] at aQ;exact(aA j ⟨bD,bE,bF,aQ⟩).2.2.2
   .refine(h.Yv.c2 j X d ⟨q,p,?_⟩).app _;have:Zz c.tok i s (.par n 0 .Z4) (c.ZA (c.home j)) (c.home j)=.par q p .Z4:=C
    rwa [ak _ _ e] at this
 .rcases Vl l C with⟨rfl,rfl⟩|⟨_,S⟩
  .exact⟨_,l,rfl⟩
  .exact⟨q,S,rfl⟩
 .cases e
 .rw[bv];show VS P Q (upd c.T i (f (i==0,g',aj)) i) _ _ _;rw[upd_same];exact bu
 .simp[c',Y1.x,upd_ne _ _ d,QY _ d,bb j d]
 .exact⟨q,by show upd c.O s (some o) r=some q;rw[LG l];exact a,b⟩
end
section
variable {n:Nat} {tok:Nat->Nat->Tok} {spec:Nat->Nat->Option Spec} {view:Nat->Nat->Option (Nat×ν)} {rel:Nat->Bool} {O:Nat->Option ν} {ZA home:Nat->Nat} {s i:Nat} {o:ν}
theorem Yj.fork (h:Yj n tok spec view rel O ZA home) (H:O s=some o) {q p:Nat} (u:tok i s=.par q (p+1) .add) :
  Yj (n+1) (upd (Zz tok i s (.par q p .add)) n (upd (λ_=>.nil) s (.ch (q-(p+1)) .idle .work))) (upd spec n (upd (λ_=>none) s (some o.toSpec))) (upd (upd view i (upd (view i) s none)) n λ_=>none) (upd rel n false) O ZA (upd home n s):=by
 have af:i<n:=h.lt (s:=s) (by rw[u];simp)
 have S:n≠i:=U
 have K:=h.par i s q (p+1) .add u
 have T:=(h.ζ s o H).2
 have ap:p+1<=q:=by
  have E:Z6 n (λa=>tok a s) Wu=q:=by
   rw[Sp (φ:=Wu) (λt u=>by cases t<;>simp_all [Yh,Wu]) T.Tv af (by rw[u];rfl),u];rfl
  have Χ:Z6 n (λa=>tok a s) WU=p+1:=by
   rw[Sp (φ:=WU) (λt u=>by cases t<;>simp_all [Yh,WU]) T.Tv af (by rw[u];rfl),u];rfl
  have:=T.Hz;omega
 generalize Q:upd (Zz tok i s (.par q p .add)) n (upd (λ_=>.nil) s (.ch (q-(p+1)) .idle .work))=y;have M:y n s=.ch (q-(p+1)) .idle .work:=by rw[<-Q,upd_same,upd_same]
 have V:∀r,r≠s->y n r=.nil:=λr l=>by rw[<-Q,upd_same,upd_ne _ _ l]
 have W:y i s=.par q p .add:=by rw[<-Q,upd_ne _ _ (Y2 S),X2]
 have to:∀j r,j≠n->¬(j=i/\r=s)->y j r=tok j r:=λj r C F=>by rw[<-Q,upd_ne _ _ C,X' _ F]
 have ag:∀j r,r≠s->y j r=tok j r:=λj r l=>by
  by_cases e:j=n
  .subst e;rw[V r l,h.out _ r (ZO _)]
  .exact to j r e λx=>l x.2
 have ah:(λj=>y j s)=upd (upd (λj=>tok j s) i (.par q p .add)) n (.ch (q-(p+1)) .idle .work):=by
  funext j
  by_cases e:j=n
  .subst e;rw[M,upd_same]
  .rw[upd_ne _ _ e];by_cases d:j=i
   .subst d;rw[W,upd_same]
   .rw[upd_ne _ _ d,to j s e λx=>d x.1]
 have ai:∀r,r≠s->(λj=>y j r)=λj=>tok j r:=λr l=>funext λj=>ag j r l
 have I:∀r,(λj=>tok j r) n=.nil:=λr=>h.out n r (ZO _)
 have D:∀j r k m g,y j r=.ch k m g->(j=n/\r=s/\k=q-(p+1)/\m=.idle/\g=.work)\/(j≠n/\¬(j=i/\r=s)/\tok j r=.ch k m g):=λj r k m g c=>by
  by_cases e:j=n
  .subst e;by_cases d:r=s
   .subst d;rw[M] at c;cases c;exact .inl ⟨rfl,rfl,rfl,rfl,rfl⟩
   .rw[V r d] at c;cases c
  .by_cases d:j=i/\r=s
   .obtain⟨rfl,rfl⟩:=d;rw[W] at c;cases c
   .rw[to j r e d] at c;exact .inr ⟨e,d,c⟩
 have X:∀j r m v A,y j r=.par m v A->(j=i/\r=s/\m=q/\v=p/\A=.add)\/(j≠n/\r≠s/\tok j r=.par m v A)\/(j≠n/\j≠i/\r=s/\tok j r=.par m v A):=λj r m v A c=>by
  by_cases e:j=n
  .subst e;by_cases d:r=s
   .subst d;rw[M] at c;cases c
   .rw[V r d] at c;cases c
  .by_cases d:j=i/\r=s
   .obtain⟨rfl,rfl⟩:=d;rw[W] at c;cases c;exact .inl ⟨rfl,rfl,rfl,rfl,rfl⟩
   .rw[to j r e d] at c;by_cases Χ:r=s
    .exact .inr (.inr ⟨e,λx=>d ⟨x,Χ⟩,Χ,c⟩)
    .exact .inr (.inl ⟨e,Χ,c⟩)
 have Y:∀j r k m g,tok j r=.ch k m g->j≠n/\y j r=.ch k m g:=λj r k m g c=>by
  have R:j≠n:=λe=>by rw[e,h.out n r (ZO _)] at c;cases c
  refine⟨R,?_⟩;rw[to j r R λe=>?_]
  .exact c
  .obtain⟨rfl,rfl⟩:=e;rw[u] at c;cases c
 have aq:Yn (n+1) o (λj=>y j s)<Yn n o (λj=>tok j s):=by
  rw[ah,<-Hs (N:=n) (τ:=λj=>tok j s) (I s)];exact CX (N:=n+1) U U (Y2 S) u (I s) _
 refine⟨λr w l=>?_,λr l j=>?_,λj r c=>?_,λj r sp c=>?_,λj r φ P c=>?_,λj r k L g w Z c=>?_,λj r m v A c=>?_,λj r k m g c=>?_,λj aa c=>?_,λj k m g aa c=>?_,?_,λj r c l=>?_,λj r k m g w Z c aj=>?_,λr j ab k m g ad g' C F=>?_,λr j k m g w v A C F=>?_,λr w l=>?_,λr w l=>?_⟩
 .by_cases e:r=s
  .subst e;rw[H] at l;cases l;rw[ah];exact CY (Ht (h.ζ r o H) (I r)) U U (Y2 S) u (I r) _
  .rw[ai r e];exact Ht (h.ζ r w l) (I r)
 .have e:r≠s:=λe=>by rw[e,H] at l;cases l
  rw[ag j r e];exact h.bare r l j
 .rw[to j r U (λx=>U)];exact h.out j r U
 .by_cases e:j=n
  .subst e;rw[upd_same] at c;by_cases d:r=s
   .subst d;rw[upd_same] at c;cases c;exact⟨o,H,rfl⟩
   .rw[upd_ne _ _ d] at c;cases c
  .rw[upd_ne _ _ e] at c;exact h.RL j r sp c
 .have ak:∀j r φ P,view j r=some (φ,P)->∃J,O r=some J/\Yn (n+1) J (λa=>y a r)<=φ/\(Yn (n+1) J (λa=>y a r)=φ->J=P):=λj r φ P hv=>by
   obtain⟨J,C,F,f⟩:=h.Pq j r φ P hv;refine⟨J,C,?_⟩;by_cases e:r=s
   .subst e;rw[H] at C;cases C;exact⟨U,λx=>U⟩
   .rw[ai r e,Hs (N:=n) (τ:=λj=>tok j r) (I r)];exact⟨F,f⟩
  by_cases e:j=n
  .subst e;rw[upd_same] at c;cases c
  .rw[upd_ne _ _ e] at c;by_cases d:j=i
   .subst d;rw[upd_same] at c;by_cases Χ:r=s
    .subst Χ;rw[upd_same] at c;cases c
    .rw[upd_ne _ _ Χ] at c;exact ak _ _ _ _ c
   .rw[upd_ne _ _ d] at c;exact ak _ _ _ _ c
 .rcases D j r k _ g c with⟨_,_,_,B,_⟩|⟨_,_,f⟩
  .cases B
  .exact h.YT j r k L g w Z f
 .rcases X j r m v A c with⟨rfl,rfl,_⟩|⟨_,_,f⟩|⟨_,_,_,f⟩
  .exact K
  .exact h.par j r m v A f
  .exact h.par j r m v A f
 .rcases D j r k m g c with⟨rfl,rfl,_⟩|⟨R,_,f⟩
  .exact⟨U,upd_same ..,U⟩
  .obtain⟨am,an,ae⟩:=h.SS j r k m g f;exact⟨am,by rw[upd_ne _ _ R];exact an,ae⟩
 .by_cases e:j=n
  .subst e;rw[upd_same];exact⟨_,_,_,M⟩
  .rw[upd_ne _ _ e];obtain⟨k,m,g,C⟩:=h.Q0 j aa U;exact⟨k,m,g,(Y j _ k m g C).2⟩
 .by_cases e:j=n
  .subst e;rw[upd_same] at c;rw[M] at c;cases c;rw[upd_same];simp
  .rw[upd_ne _ _ e] at c;rw[upd_ne _ _ e];rcases D j _ k m g c with⟨x,_⟩|⟨_,_,f⟩
   .exact absurd x e
   .exact h.Sn j k m g aa f
 .rw[upd_ne _ _ (show(0:Nat)≠n by omega)];exact h.Qg
 .by_cases e:j=n
  .subst e;rw[upd_same] at c;cases c
  .rw[upd_ne _ _ e] at c l;have:=h.SR j r c l;rw[to j r e λx=>?_]
   .exact this
   .obtain⟨rfl,rfl⟩:=x;rw[u] at this;exact this
 .rcases D j r k m g c with⟨_,_,_,_,B⟩|⟨_,_,f⟩
  .exact absurd B aj
  .exact h.SQ j r k m g w Z f aj
 .have al:∀j k m g,tok j s=.ch k m g->k<q-(p+1):=λj k m g c=>by
   have:=h.Qf s j k m g q (p+1) .add c (by rw[<-K];exact u);omega
  rcases D j r k m g C with⟨rfl,rfl,ae,_⟩|⟨_,_,f⟩<;>rcases D ab r k ad g' F with⟨rfl,ao,ar,_⟩|⟨_,_,B⟩
  .rfl
  .have:=al ab k ad g' B;omega
  .subst ao;have:=al j k m g f;omega
  .exact h.Pp r j ab k m g ad g' f B
 .rcases D j r k m g C with⟨_,rfl,ae,_⟩|⟨_,_,f⟩
  .rcases X _ r w v A F with⟨_,_,rfl,rfl,_⟩|⟨_,x,_⟩|⟨_,x,_⟩
   .omega
   .exact absurd rfl x
   .exact absurd K.symm x
  .rcases X _ r w v A F with⟨_,rfl,rfl,rfl,_⟩|⟨_,_,B⟩|⟨_,x,rfl,B⟩
   .have:=h.Qf r j k m g w (v+1) .add f (by rw[<-K];exact u);omega
   .exact h.Qf r j k m g w v A f B
   .exact absurd K.symm x
 .obtain⟨a,b⟩:=h.SP r w l;refine⟨a,λk=>(b k).trans ⟨λ⟨j,m,g,E,Χ⟩=>⟨j,m,g,(Y j r k m g E).2,Χ⟩,λ⟨j,m,g,E,Χ⟩=>?_⟩⟩;rcases D j r k m g E with⟨_,_,_,B,_⟩|⟨_,_,f⟩
  .subst B;exact Χ.elim
  .exact⟨j,m,g,f,Χ⟩
 .obtain⟨a,b⟩:=h.RK r w l;refine⟨a,λk=>(b k).trans ⟨λ⟨j,m,g,E,Χ⟩=>⟨j,m,g,(Y j r k m g E).2,Χ⟩,λ⟨j,m,g,E,Χ⟩=>?_⟩⟩;rcases D j r k m g E with⟨_,_,_,_,B⟩|⟨_,_,f⟩
  .exact absurd B Χ
  .exact⟨j,m,g,f,Χ⟩
def ν.new (sp:Spec):ν:={toSpec:=sp,Zj:=0,wk:=0,sv:=0,nw:=0,YM:=0,L:=[],cnt:=0,wt:=0,Y5:=0,YY:=[]}
theorem CA (N:Nat) (φ:Tok->Nat) (a:φ .nil=0):Z6 N (λ_=>.nil) φ=0:=by
 induction N with
 | zero=>rfl
 | succ N b=>rw[Ps,b,a]
theorem Yj.Cz (h:Yj n tok spec view rel O ZA home) (E:O s=none) (M:i<n) (f:rel i=false) (sp:Spec) :
  Yj n (Zz tok i s (.par 0 0 .add)) (upd spec i (upd (spec i) s (some sp))) (upd view i (upd (view i) s none)) rel (upd O s (some (ν.new sp))) (upd ZA s i) home:=by
 have y:=h.bare s E
 have V:∀j,j≠0->j<n->home j≠s:=λj A c e=>by
  obtain⟨k,m,g,l⟩:=h.Q0 j A c;rw[e,y j] at l;cases l
 have P:(λj=>Zz tok i s (.par 0 0 .add) j s)=upd (λ_=>.nil) i (.par 0 0 .add):=by
  rw[Hh];have:(λj=>tok j s)=λ_=>.nil:=funext y;rw[this]
 have H:∀j r,r≠s->Zz tok i s (.par 0 0 .add) j r=tok j r:=λj r f=>X' _ λx=>f x.2
 have t:∀j r k m g,Zz tok i s (.par 0 0 .add) j r=.ch k m g↔tok j r=.ch k m g:=λj r k m g=>by
  by_cases e:j=i/\r=s
  .obtain⟨rfl,rfl⟩:=e;rw[X2,y];simp
  .rw[X' _ e]
 have v:∀j k m g,tok j s≠.ch k m g:=λj k m g e=>by rw[y] at e;cases e
 have B:∀r q,upd O s (some (ν.new sp)) r=some q->(r=s/\q=ν.new sp)\/(r≠s/\O r=some q):=λr q o=>by
  by_cases e:r=s
  .subst e;rw[upd_same] at o;cases o;exact .inl ⟨rfl,rfl⟩
  .rw[upd_ne _ _ e] at o;exact .inr ⟨e,o⟩
 have one:∀φ:Tok->Nat,φ .nil=0->Z6 n (upd (λ_=>.nil) i (.par 0 0 .add)) φ=φ (.par 0 0 .add):=λφ I=>by
  have e:=Xj (N:=n) (λ_=>.nil) (.par 0 0 .add) φ M;rw[CA n φ I] at e;simp only[I] at e;omega
 refine⟨λr q o=>?_,λr f j=>?_,λj r c=>?_,λj r J c=>?_,λj r φ C c=>?_,λj r k L g q o c=>?_,λj r m p F c=>?_,λj r k m g c=>?_,λj A c=>?_,λj k m g A c=>?_,h.Qg,λj r c Q=>?_,λj r k m g q o c R=>?_,λr j S k m g T g' l D=>?_,λr j k m g q p F l D=>?_,λr q f=>?_,λr q f=>?_⟩
 .rcases B r q o with⟨rfl,rfl⟩|⟨e,u⟩
  .rw[P];constructor
   .unfold Sr;rw[one Wv rfl,one Tx rfl,one Ux rfl,one UW rfl,one TU rfl,one UU rfl,one RO rfl,one Tw rfl,one RP rfl];constructor<;>simp[ν.new,Wv,Tx,Ux,UW,TU,UU,RO,Tw,RP]
   .unfold SY;rw[one V5 rfl,one VC rfl,one VB rfl,one UT rfl,one Yh rfl,one WU rfl,one Wu rfl,one Uw rfl,one US rfl,one Wt rfl];constructor<;>simp[ν.new,V5,VC,VB,UT,Yh,WU,Wu,Uw,US,Wt]
  .rw[Jr _ _ _ _ e];exact h.ζ r q u
 .have e:r≠s:=λe=>by rw[e,upd_same] at f;cases f
  rw[upd_ne _ _ e] at f;rw[H j r e];exact h.bare r f j
 .rw[X' _ (λx=>U)];exact h.out j r c
 .by_cases e:j=i
  .subst e;rw[upd_same] at c;by_cases d:r=s
   .subst d;rw[upd_same] at c;cases c;exact⟨_,upd_same ..,rfl⟩
   .rw[upd_ne _ _ d] at c;obtain⟨q,a,b⟩:=h.RL j r J c;exact⟨q,by rw[upd_ne _ _ d];exact a,b⟩
  .rw[upd_ne _ _ e] at c;obtain⟨q,a,b⟩:=h.RL j r J c;have d:r≠s:=λd=>by rw[d,E] at a;cases a
   exact⟨q,by rw[upd_ne _ _ d];exact a,b⟩
 .have K:∀j r φ C,view j r=some (φ,C)->∃w,upd O s (some (ν.new sp)) r=some w/\Yn n w (λa=>Zz tok i s (.par 0 0 .add) a r)<=φ/\(Yn n w (λa=>Zz tok i s (.par 0 0 .add) a r)=φ->w=C):=λj r φ C hv=>by
   obtain⟨w,a,b⟩:=h.Pq j r φ C hv;have d:r≠s:=λd=>by rw[d,E] at a;cases a
   exact⟨w,by rw[upd_ne _ _ d];exact a,by rw[Jr _ _ _ _ d];exact b⟩
  by_cases e:j=i
  .subst e;rw[upd_same] at c;by_cases d:r=s
   .subst d;rw[upd_same] at c;cases c
   .rw[upd_ne _ _ d] at c;exact K _ _ _ _ c
  .rw[upd_ne _ _ e] at c;exact K _ _ _ _ c
 .rw[t] at c;rcases B r q o with⟨rfl,rfl⟩|⟨e,u⟩
  .exact absurd c (v _ _ _ _)
  .exact h.YT j r k L g q u c
 .by_cases e:j=i/\r=s
  .obtain⟨rfl,rfl⟩:=e;rw[upd_same]
  .rw[X' _ e] at c;have d:r≠s:=λd=>by rw[d,y] at c;cases c
   rw[upd_ne _ _ d];exact h.par j r m p F c
 .rw[t] at c;have d:r≠s:=λd=>by rw[d] at c;exact v _ _ _ _ c
  rw[upd_ne _ _ d];exact h.SS j r k m g c
 .obtain⟨k,m,g,l⟩:=h.Q0 j A c;exact⟨k,m,g,(t _ _ _ _ _).2 l⟩
 .rw[t] at c;exact h.Sn j k m g A c
 .have e:j≠i:=λe=>by rw[e,f] at c;cases c
  rw[QY _ e];exact h.SR j r c Q
 .rw[t] at c;rcases B r q o with⟨rfl,rfl⟩|⟨e,u⟩
  .exact absurd c (v _ _ _ _)
  .exact h.SQ j r k m g q u c R
 .rw[t] at l D;exact h.Pp r j S k m g T g' l D
 .rw[t] at l;have d:r≠s:=λd=>by rw[d] at l;exact v _ _ _ _ l
  rw[upd_ne _ _ d,H _ _ d] at D;exact h.Qf r j k m g q p F l D
 .simp only[t];rcases B r q f with⟨rfl,rfl⟩|⟨e,u⟩
  .exact⟨List.nodup_nil,λk=>⟨λx=>(by cases x),λ⟨j,m,g,x,_⟩=>absurd x (v _ _ _ _)⟩⟩
  .exact h.SP r q u
 .simp only[t];rcases B r q f with⟨rfl,rfl⟩|⟨e,u⟩
  .exact⟨List.nodup_nil,λk=>⟨λx=>(by cases x),λ⟨j,m,g,x,_⟩=>absurd x (v _ _ _ _)⟩⟩
  .exact h.RK r q u
end
theorem Cy (t:Trace) (u:Trace) {k:Nat} (b:∀a∈u,a.g≠k):Deaf (t++u) k=Deaf t k:=by
 obtain⟨l⟩:=u;rw[Deaf_append]
 induction l generalizing t with
 | nil=>rfl
 | cons y l d=>
  have e:y.g≠k:=b y J
  have f:deafStep k (Deaf t k) y=Deaf t k:=by
   unfold deafStep;split<;>simp[e]
  rw[List.foldl_cons,f];exact d t (λa c=>b a (by simp at c ⊢;exact .inr c))
theorem Cx {i:Bool} {t:Trace} {y z:MemOp} (h:¬Race i t) (nt:∀d∈(#[y,z]:Trace),d.act.touch?=none):¬Race i (t++#[y,z]):=by
 have e:t++#[y,z]=(t++#[y])++#[z]:=by rw[PD];rfl
 rw[e];refine noRace_append (g:=z.g) (noRace_append (g:=y.g) h (λd c=>by simp at c;rw[c]) λk a _ d c b f _=>?_) (λd c=>by simp at c;rw[c]) λk a _ d c b f _=>?_
 .simp at c;subst c;rw[nt d J] at f;cases f
 .simp at c;subst c;rw[nt d J] at f;cases f
section
variable {P:Program} {Q:Value->Prop} {ZK:World} {c c':Y1} {gs:Array Goroutine} {w w':World} {t:Trace} {i:Nat} {g g':Goroutine} {es:Array Event}
variable {f:Bool×Goroutine×γ->Xr (Bool×Goroutine×γ)}
theorem Inv.Jl (h:Inv P Q ZK c gs w t) (ay:gs[i]?=some g) (C:Hk P (i==0) (UQ P Q f) g (c.x i)):WC P Q ZK c gs w t i f:=by
 obtain⟨s,sp,n,p,g',R,Y,Z,ao,S,af,bo,bp,aO,aP,V,aQ,aR⟩:=C;have aS:i<gs.size:=Us ay;obtain⟨o,aT,aU⟩:=h.Zn.RL i s sp ao;subst aU;have aa:c.tok i s=.par n (p+1) .add:=S;have hd:c.deaf i=0:=af;have bq:c.rel i=false:=aO;have ab:=aP w (h.mem.fit (.inl i));have aV:gs.size≠i:=U;let N:=gs.size;let y:MemOp:={g:=i,fn:=g.frame.fn,pos:=g.frame.place,act:=.go gs.size};let z:MemOp:={g:=gs.size,fn:=R.frame.fn,pos:=g.frame.place,act:=.start};have aW:Deaf t i=0:=by rw[h.ZF.hears];exact hd
 have aF:Deaf t gs.size=0:=by
  have:=Cy #[] t (k:=gs.size) (λu d e=>by
   obtain⟨k,C⟩:=L7.1 d;have:=h.Yv.RH k u.g (by simp[Trace.g?,C]);omega)
  rw[Array.empty_append] at this;exact this
 let ap:γ:={c.x i with G:=Y,tok:=upd (c.tok i) s (.par n p .add),view:=upd (c.view i) s none}
 let aq:γ:=⟨Z,λ_=>none,upd (λ_=>.nil) s (.ch (n-(p+1)) .idle .work),upd (λ_=>none) s (some o.toSpec),λ_=>none,0,false⟩
 let E:=upd (Zz c.tok i s (.par n p .add)) gs.size (upd (λ_=>.nil) s (.ch (n-(p+1)) .idle .work))
 let c':Y1:={c with H:=ZI (ZI c.H (.inl i) Y) (.inl gs.size) Z,η:=upd c.η gs.size (λ_=>none),tok:=E,spec:=upd c.spec gs.size (upd (λ_=>none) s (some o.toSpec)),view:=upd (upd c.view i (upd (c.view i) s none)) gs.size λ_=>none,deaf:=upd c.deaf gs.size 0,rel:=upd c.rel gs.size false,home:=upd c.home gs.size s,T:=upd (upd c.T i (f (i==0,g',ap))) gs.size (f (false,R,aq))}
 have aX:=h.Zn.fork aT aa
 have br:=runT_crowd_spawn (sl:=none) ay ab
 have aY:((MemOp.ofEvents i g.frame.fn g.frame.place #[]).push {g:=i,fn:=g.frame.fn,pos:=g.frame.place,act:=.go gs.size} |>.push {g:=gs.size,fn:=R.frame.fn,pos:=g.frame.place,act:=.start})=#[y,z]:=by rw[Hb];rfl
 have aG:(Sum.inl i:Zi)≠.inl gs.size:=λe=>aV (by cases e;rfl)
 have aZ:∀r,E gs.size r≠.nil->r=s:=λr W=>by
  apply T4;intro e;apply W;show upd (Zz c.tok i s (.par n p .add)) gs.size (upd (λ_=>.nil) s (.ch (n-(p+1)) .idle .work)) gs.size r=.nil;rw[upd_same,upd_ne _ _ e]
 have ar:∀j,j≠gs.size->E j=Zz c.tok i s (.par n p .add) j:=λj A=>upd_ne _ _ A
 have a0:∀j r,j≠gs.size->E j r≠.nil->c.tok j r≠.nil:=λj r A W=>by
  rw[ar j A] at W;exact M8 aa J j r W
 have az:∀j r q ad,E j r=.par q ad .Z4↔c.tok j r=.par q ad .Z4:=λj r q ad=>by
  by_cases e:j=gs.size
  .subst e;rw[h.Zn.out gs.size r (ZO _)];show upd (Zz c.tok i s (.par n p .add)) gs.size (upd (λ_=>.nil) s (.ch (n-(p+1)) .idle .work)) gs.size r=_↔_;rw[upd_same];by_cases aH:r=s
   .subst aH;rw[upd_same];simp
   .rw[upd_ne _ _ aH]
  .rw[ar j e];exact LC aa J J j r q ad
 have a1:∀j r k L g,c.tok j r=.ch k (.YT L) g->E j r=.ch k (.YT L) g:=λj r k L g A=>by
  have e:j≠gs.size:=λe=>by rw[e,h.Zn.out _ r (ZO _)] at A;cases A
  rw[ar j e,X' _ λx=>?_]
  .exact A
  .obtain⟨rfl,rfl⟩:=x;rw[aa] at A;cases A
 have ag:∀j,j≠gs.size->c'.rel j=c.rel j:=λj A=>upd_ne _ _ A
 have au:∀j,c'.rel j=true->j≠gs.size:=λj A e=>by
  subst e;have:upd c.rel gs.size false gs.size=true:=A;rw[upd_same] at this;cases this
 have av:∀j b v,upd c.η gs.size (λ_=>none) j b=some v->c.η j b=some v:=λj b v hv=>by
  by_cases e:j=gs.size
  .subst e;rw[upd_same] at hv;cases hv
  .rw[upd_ne _ _ e] at hv;exact hv
 have nt:∀u∈(#[y,z]:Trace),u.act.touch?=none:=λu d=>by simp at d;rcases d with rfl|rfl<;>rfl
 have TP:∀u∈(#[y,z]:Trace),∀m,u.act≠.mark m:=λu d m=>by simp at d;rcases d with rfl|rfl<;>simp[y,z]
 have aI:∀k,Knows t i k->Knows (t++#[y,z]) gs.size k:=λk C=>Knows.spawn C rfl rfl rfl rfl aW aF
 have a2:∀a k,VR c.tok c.O t a k->VR E c.O (t++#[y,z]) a k:=λa k C=>by
  cases a with
  | inl j=>exact Knows.app _ C
  | inr b=>
   rcases C with⟨p,u,ao,a3,S,af⟩|C
   .have X:=lt_size_of_getElem? ao;exact .inl ⟨p,u,by rw[getElem?_append_old X];exact ao,a3,(heard_old X).2 S,af.app _⟩
   .refine .inr λah o' aw K j A=>?_;by_cases e:j=gs.size
    .subst e;have:=aZ ah A;subst this;exact aI k (C _ o' aw K i (by rw[aa];simp))
    .exact(C ah o' aw K j (a0 j ah e A)).app _
 have aJ:∀a,YQ (t++#[y,z]) (VR E c.O (t++#[y,z]) a) (c.H a):=λa=>
  (h.ZF.perms a).others (a2 a) λu d x B=>by rw[nt u d] at B;cases B
 have a4:Inv P Q ZK c' ((gs.setIfInBounds i g').push R) w (t++#[y,z]):=by
  have aA:((gs.setIfInBounds i g').push R).size=gs.size+1:=J;refine⟨by rw[aA];omega,(h.mem.two (V.l.fits (h.mem.fit (.inl i))) (V.r.fits (h.mem.fit (.inl i))) h.mem.XH).Oq av,(h.hold.two aG V.l.RI V.r.RI V.apart ⟨λs o ab=>⟨o,ab,rfl⟩,λs o ab=>⟨o,ab,rfl⟩⟩ λx B=>by rcases B with e|e<;>cases e).Oq av,?_,by rw[aA];exact aX,?_,?_,?_,?_⟩
  .refine⟨λa5=>Cx (h.ZF.race a5) nt,λu d=>?_,λu d a=>?_,λa=>?_,λj b v hv k a C=>?_,λah o' b aw K k a C a6=>?_,λj=>?_⟩
   .rcases S1.1 d with d|d
    .exact h.ZF.low u d
    .simp at d;rcases d with rfl|rfl<;>trivial
   .rcases S1.1 d with d|d
    .exact h.ZF.norel u d a
    .exact TP u d _
   .show YQ _ _ (ZI (ZI c.H (.inl i) Y) (.inl gs.size) Z a);by_cases Χ:a=.inl gs.size
    .subst Χ;rw[YE];exact(((h.ZF.perms (.inl i)).others aI λu d x B=>by rw[nt u d] at B;cases B):YQ _ (Knows _ gs.size) _).sub V.r
    .rw[ZH _ _ Χ];by_cases F:a=.inl i
     .subst F;rw[YE];exact(aJ (.inl i)).sub V.l
     .rw[ZH _ _ F];exact aJ a
   .have:=av j b v hv;rcases TV C with ae|⟨_,u,d,_,B⟩
    .exact h.ZF.SV j b v this k a ae
    .rw[nt u d] at B;cases B
   .rcases TV C with ae|⟨_,u,d,_,B⟩
    .rcases h.ZF.cont ah o' b aw K k a ae a6 with x|⟨x,a7⟩
     .exact .inl x
     .obtain⟨u,a8,_⟩:=touch_of ae;exact .inr ⟨x,by rw[g?_old (lt_size_of_getElem? a8)];exact a7⟩
    .rw[nt u d] at B;cases B
   .have F:Deaf (t++#[y,z]) j=Deaf t j:=by
     have e:t++#[y,z]=(t++#[y])++#[z]:=by rw[PD];rfl
     rw[e,Deaf_push,Deaf_push];simp[deafStep,y,z]
    rw[F];by_cases e:j=gs.size
    .subst e;rw[aF];exact(upd_same ..).symm
    .rw[h.ZF.hears];exact(upd_ne _ _ e).symm
  .have aK:∀b,ZI (ZI c.H (.inl i) Y) (.inl gs.size) Z (.inr b)=c.H (.inr b):=λb=>by rw[We,We]
   refine⟨λr q m M aB ai a9=>?_,λr q M ai=>?_⟩
   .show q.Yi q.L (ZI (ZI c.H (.inl i) Y) (.inl gs.size) Z (.inr m));rw[aK];exact h.Yq.Sm r q m M aB (λj q p x=>ai j q p ((az j r q p).2 x)) λj k L g x=>a9 j k L g (a1 _ _ _ _ _ x)
   .show UR q.D q.YY (ZI (ZI c.H (.inl i) Y) (.inl gs.size) Z (.inr r));rw[aK];exact h.Yq.SO r q M (λj q p x=>ai j q p ((az j r q p).2 x))
  .rw[aA];refine⟨λk a C=>?_,λj aj A=>?_,λj aj A ai=>?_,λj aj A a b=>?_⟩
   .obtain⟨u,d,ak⟩:=T1.1 C;rcases getElem?_append_cases d with⟨_,aC⟩|⟨_,al⟩
    .have:=h.Yv.RH k a (by simp[Trace.g?,aC,ak]);omega
    .simp at al;rcases al with rfl|rfl
     .rw[<-ak];show i<gs.size+1;omega
     .rw[<-ak];show gs.size<gs.size+1;omega
   .have I:=au j A;rw[ag j I] at A;obtain⟨u,aL,a',ba,bb,bc⟩:=h.Yv.c1 j aj A;have X:=lt_size_of_getElem? aL;refine⟨u,?_,a',?_,(heard_old X).2 bb,λaD ae aM=>?_⟩
    .show(t++#[y,z])[c.Ya j]?=some u;rw[getElem?_append_old X];exact aL
    .show u.act=.mark (.releaseMerge ⟨upd c.home gs.size s j,0,none⟩);rw[upd_ne _ _ I];exact ba
    .obtain⟨bs,d,ak⟩:=T1.1 ae;rcases getElem?_append_cases d with⟨aN,aC⟩|⟨bd,al⟩
     .exact(bc aD (by simp[Trace.g?,aC,ak]) ((Na aN).1 aM)).app _
     .exact absurd aM (Ou nt aD bd)
   .have I:=au j A;rw[ag j I] at A;obtain⟨q,ad,M⟩:=ai;have aE:c'.home j=c.home j:=upd_ne _ _ I;rw[aE] at M ⊢;exact(h.Yv.c2 j aj A ⟨q,ad,(az _ _ _ _).1 M⟩).app _
   .have I:=au j A;rw[ag j I] at A;have aE:c'.home j=c.home j:=upd_ne _ _ I;rw[aE] at a b ⊢;have be:=au _ b;rw[ag _ be] at b;exact(h.Yv.c3 j aj A a b).app _
  .refine⟨λr q bf M bg p u X am=>?_,λj b v hv u d am=>?_⟩
   .rcases getElem?_append_cases X with⟨aN,bh⟩|⟨_,al⟩
    .obtain⟨⟨aD,bt,g,S⟩,af⟩:=h.W1.Pm r q bf M bg p u bh am;have I:u.g≠gs.size:=λe=>by rw[e,h.Zn.out _ r (ZO _)] at S;cases S
     refine⟨?_,λW=>?_⟩
     .rw[show c'.tok u.g=Zz c.tok i s (.par n _ .add) u.g from ar _ I];exact M7 aa (λ_ _ _ e=>by cases e) _ _ _ _ _ S
     .rw[ag _ I] at W;exact(af W).app _
    .exact absurd am (TP u al _)
   .rcases S1.1 d with d|d
    .exact h.W1.Pl j b v (av j b v hv) u d am
    .exact TP u d _ am
  .intro j b K;by_cases e:j=gs.size
   .subst e;rw[OF] at K;simp at K;subst K;refine⟨R,?_,.inl rfl⟩;have B:c'.x gs.size=aq:=by simp[c',aq,E,Y1.x,upd_same]
    have an:c'.T gs.size=f (false,R,aq):=upd_same ..
    have aB:(gs.size==0)=false:=by rw[beq_eq_false_iff_ne];exact Nat.ne_of_gt h.pos
    rw[B,an,aB];exact aR
   .have ax:(gs.setIfInBounds i g')[j]?=some b:=by
     rw[OF] at K;simpa[e] using K
    by_cases F:j=i
    .subst F;rw[T5 aS] at ax;cases ax;refine⟨g',?_,.inl rfl⟩;have B:c'.x j=ap:=by simp[c',ap,E,Y1.x,upd_same,upd_ne _ _ e,Pj,ZH _ _ aG]
     have an:c'.T j=f (j==0,g',ap):=by show upd (upd c.T j _) gs.size _ j=_;rw[upd_ne _ _ e,upd_same]
     rw[B,an];exact aQ
    .rw[Vp (Y2 F)] at ax;obtain⟨bi,bj,bk⟩:=h.Pk j b ax;have bl:(Sum.inl j:Zi)≠.inl gs.size:=λx=>e (by cases x;rfl);have bm:(Sum.inl j:Zi)≠.inl i:=λx=>F (by cases x;rfl);have B:c'.x j=c.x j:=by simp[c',E,Y1.x,upd_ne _ _ e,upd_ne _ _ F,QY _ F,ZH _ _ bl,ZH _ _ bm]
     have an:c'.T j=c.T j:=by show upd (upd c.T i _) gs.size _ j=_;rw[upd_ne _ _ e,upd_ne _ _ F]
     have bn:c'.tok j=c.tok j:=congrArg γ.tok B;refine⟨bi,by rw[B,an];exact bj,?_⟩;rw[bn];exact bk
 refine λsl=>⟨c',_,w,_,runT_crowd_spawn ay ab,?_,.inr (.inl ⟨J,_,_,rfl⟩)⟩;rw[aY];exact a4
end
theorem Cw (sp:Spec):Zc (ν.new sp)=0:=by simp[Zc,ν.new]
theorem Cv (sp:Spec):mwd (ν.new sp)=0:=by simp[mwd,ν.new]
section
variable {P:Program} {Q:Value->Prop} {ZK:World} {c c':Y1} {gs:Array Goroutine} {w w':World} {t:Trace} {i:Nat} {g g':Goroutine} {es:Array Event}
variable {f:Bool×Goroutine×γ->Xr (Bool×Goroutine×γ)}
theorem Inv.seen (h:Inv P Q ZK c gs w t) (k:gs[i]?=some g)
  (mem:W2 c'.H c'.η c'.O ZK w) (hold:Ws c'.H c'.η c'.O ZK.heap.size) (ZF:Wf c'.H c'.η c'.tok c'.O c'.ZA c'.deaf w.heap.size t)
  (Zn:Yj gs.size c'.tok c'.spec c'.view c'.rel c'.O c'.ZA c'.home) (Yq:Oy c'.H c'.tok c'.O) (Yv:Pn gs.size c'.tok c'.rel c'.ZA c'.home c'.Ya t) (W1:Ox c'.η c'.tok c'.O c'.rel c'.Ya t)
  (l:Rec P Q c' i g) (m:∀j,j≠i->c'.x j=c.x j/\c'.T j=c.T j) (n:∀s o,c.O s=some o->c'.O s=some o):Inv P Q ZK c' gs w t:=by
 refine⟨h.pos,mem,hold,ZF,Zn,Yq,Yv,W1,λj b a=>?_⟩;by_cases e:j=i
 .subst e;rw[k] at a;cases a;exact l
 .obtain⟨p,r,u⟩:=h.Pk j b a;obtain⟨d,Χ⟩:=m j e;have f:c'.tok j=c.tok j:=congrArg γ.tok d;refine⟨p,by rw[d,Χ];exact r,u.imp id λ⟨v,y,s,o,A,B,C⟩=>⟨v,y,s,o,n s o A,by rw[f];exact B,by rw[f];exact C⟩⟩
theorem Inv.Cu (h:Inv P Q ZK c gs w t) (ag:gs[i]?=some g) {b:Nat} {cs:Array Value} {F:TypeId} (I:c.η i b=some (cs,F)) {D:γ}
  (ah:D={c.x i with η:=upd (c.η i) b none,G:=⟨λd o=>if d=b then(cs[o]?).map (·,true) else(c.H (.inl i)).ς d o,λd=>if d=b then some (F,cs.size) else(c.H (.inl i)).row d,(c.H (.inl i)).obj⟩}) (ai:UQ P Q f (i==0) g D):LD P Q ZK c gs w t i f:=by
 let G':Ψ:=⟨λd o=>if d=b then(cs[o]?).map (·,true) else(c.H (.inl i)).ς d o,λd=>if d=b then some (F,cs.size) else(c.H (.inl i)).row d,(c.H (.inl i)).obj⟩;obtain⟨f1,f2,f3⟩:=h.hold.fresh i b _ I;have X:=h.mem.Uu i b cs F I;have J:∀d o,d≠b->G'.ς d o=(c.H (.inl i)).ς d o:=λd o e=>by simp[G',e]
 have aj:∀o,G'.ς b o=(cs[o]?).map (·,true):=λo=>by simp[G']
 have Y:∀d o,d≠b->(G'.has d o↔(c.H (.inl i)).has d o):=λd o e=>by unfold Ψ.has;rw[J d o e]
 have Z:∀d o,d≠b->(G'.owns d o↔(c.H (.inl i)).owns d o):=λd o e=>by unfold Ψ.owns;rw[J d o e]
 have ak:∀d,G'.X3 d↔(c.H (.inl i)).X3 d:=λd=>Iff.rfl
 have aa:∀d,d≠b->(c.H (.inl i)).off d->G'.off d:=λd e n=>⟨λo al=>n.1 o ((Y d o e).1 al),n.2⟩
 let c':Y1:={c with H:=ZI c.H (.inl i) G',η:=upd c.η i (upd (c.η i) b none),T:=upd c.T i (f (i==0,g,D))}
 have B:∀j d v,upd c.η i (upd (c.η i) b none) j d=some v->c.η j d=some v/\d≠b:=λj d v hv=>by
  by_cases e:j=i
  .subst e;rw[upd_same] at hv;by_cases m:d=b
   .subst m;rw[upd_same] at hv;cases hv
   .rw[upd_ne _ _ m] at hv;exact⟨hv,m⟩
  .rw[upd_ne _ _ e] at hv;exact⟨hv,λm=>by rw[m,f3 j e] at hv;cases hv⟩
 have am:∀s o d,c.O s=some o->Ys s o.toSpec d->d≠b:=λs o d K C e=>by
  have:=(h.hold.Vm s o d K C).2.2 i;rw[e,I] at this;cases this
 have ab:∀k,k≠.inl i->Apart G' (c.H k):=λk an=>by
  have a:=h.hold.apart _ _ (Y2 an);refine⟨λd o x y=>?_,λd o x y=>?_,λd x y=>a.obj d x y⟩
  .by_cases e:d=b
   .subst e;exact(f2 k).1 o y
   .exact a.ς d o ((Z d o e).1 x) y
  .by_cases e:d=b
   .subst e;exact(f2 k).1 o ⟨_,x.choose_spec⟩
   .exact a.RR d o x ((Y d o e).1 y)
 have ao:c'.x i=D:=by rw[ah];simp[c',G',Y1.x,upd_same]
 refine⟨c',h.seen (c':=c') ag ⟨λk=>?_,λj d cs' ap hv=>h.mem.Uu j d cs' ap (B j d _ hv).1,h.mem.XH,h.mem.keep⟩
  ⟨λk l N=>?_,λk d o n=>?_,λk d n=>?_,λj d v hv=>?_,λs o d K C=>?_,h.hold.U',h.hold.So,λd C=>?_⟩ ⟨h.ZF.race,h.ZF.low,h.ZF.norel,λk=>?_,λj d v hv=>h.ZF.SV j d v (B j d v hv).1,h.ZF.cont,h.ZF.hears⟩ h.Zn (h.Yq.M' λd=>We c.H i G' d) h.Yv
  ⟨h.W1.Pm,λj d v hv=>h.W1.Pl j d v (B j d v hv).1⟩ ⟨g,?_,.inl rfl⟩ (λj R=>⟨?_,upd_ne _ _ R⟩) λ_ _ a=>a,_,rfl⟩
 .show Fits (ZI c.H (.inl i) G' k) w;by_cases e:k=.inl i
  .subst e;rw[YE];have S:=h.mem.fit (.inl i);refine⟨λd o v p r=>?_,λd t' aq L=>?_,S.obj⟩
   .by_cases m:d=b
    .subst m;rw[aj] at r;cases u:cs[o]? with
     | none=>rw[u] at r;cases r
     | some M=>rw[u] at r;cases r;exact TA X u
    .rw[J d o m] at r;exact S.ς d o v p r
   .by_cases m:d=b
    .subst m;simp[G'] at L;obtain⟨rfl,rfl⟩:=L;exact⟨cs,X,rfl⟩
    .simp[G',m] at L;exact S.row d t' aq L
  .rw[ZH _ _ e];exact h.mem.fit k
 .show Apart (ZI c.H (.inl i) G' k) (ZI c.H (.inl i) G' l);by_cases e:k=.inl i
  .subst e;rw[YE,ZH _ _ (Y2 N)];exact ab l (Y2 N)
  .rw[ZH _ _ e];by_cases m:l=.inl i
   .subst m;rw[YE];exact(ab k e).symm
   .rw[ZH _ _ m];exact h.hold.apart k l N
 .replace n:(ZI c.H (.inl i) G' k).owns d o:=n
  by_cases e:k=.inl i
  .subst e;rw[YE] at n;by_cases m:d=b
   .subst m;exact f1
   .exact h.hold.high _ _ _ ((Z d o m).1 n)
  .rw[ZH _ _ e] at n;exact h.hold.high _ _ _ n
 .replace n:(ZI c.H (.inl i) G' k).X3 d:=n
  by_cases e:k=.inl i
  .subst e;rw[YE] at n;exact h.hold.Tu _ _ ((ak d).1 n)
  .rw[ZH _ _ e] at n;exact h.hold.Tu _ _ n
 .obtain⟨ar,U⟩:=B j d v hv;obtain⟨V,E,W⟩:=h.hold.fresh j d v ar;refine⟨V,λk=>?_,λA au=>?_⟩
  .show(ZI c.H (.inl i) G' k).off d;by_cases e:k=.inl i
   .subst e;rw[YE];exact aa d U (E _)
   .rw[ZH _ _ e];exact E k
  .cases u:c'.η A d with
   | none=>rfl
   | some M=>have:=(B A d M u).1;rw[W A au] at this;cases this
 .obtain⟨V,E,W⟩:=h.hold.Vm s o d K C;have U:=am s o d K C;refine⟨V,λk=>?_,λA=>?_⟩
  .show(ZI c.H (.inl i) G' k).off d;by_cases e:k=.inl i
   .subst e;rw[YE];exact aa d U (E _)
   .rw[ZH _ _ e];exact E k
  .cases u:c'.η A d with
   | none=>rfl
   | some M=>have:=(B A d M u).1;rw[W A] at this;cases this
 .show ZI c.H (.inl i) G' (.inr d)=Ψ.empty;rw[We];exact h.hold.Yq d C
 .show YQ t (VR c.tok c.O t k) (ZI c.H (.inl i) G' k);by_cases e:k=.inl i
  .subst e;rw[YE];have ad:=h.ZF.perms (.inl i);refine⟨λd o v p r k a ae af av=>?_,ad.obj⟩;by_cases m:d=b
   .exfalso;refine h.ZF.SV i b _ I k a ae ?_;rw[af];exact m
   .rw[J d o m] at r;exact ad.ς d o v p r k a ae af av
  .rw[ZH _ _ e];exact h.ZF.perms k
 .rw[ao];show VS P Q (upd c.T i (f (i==0,g,D)) i) _ _ _;rw[upd_same];exact ai
 .have aw:(Sum.inl j:Zi)≠.inl i:=λx=>R (by cases x;rfl);simp[c',Y1.x,upd_ne _ _ R,ZH _ _ aw]
theorem Inv.less (h:Inv P Q ZK c gs w t) (s:gs[i]?=some g) {G':Ψ} (d:Sub G' (c.H (.inl i))) (u:UQ P Q f (i==0) g {c.x i with G:=G'}):LD P Q ZK c gs w t i f:=by
 let l:γ:={c.x i with G:=G'}
 let c':Y1:={c with H:=ZI c.H (.inl i) G',T:=upd c.T i (f (i==0,g,l))}
 have y:c'.x i=l:=by simp[c',l,Y1.x]
 have A:upd c.η i (c.η i)=c.η:=LG rfl
 have m:=h.mem.own h.hold i (XP.refl _ _ w) (d.fits (h.mem.fit (.inl i))) (h.mem.Uu i) rfl
 have n:=h.hold.own h.mem h.mem.keep.size i (G':=G') (V':=c.η i) ⟨λb o v p B=>.inr (let ⟨C,D,E⟩:=d.ς b o v p B;⟨v,C,D,E⟩),λb F=>.inr (d.X3 F)⟩ (λb x I=>.inl I);rw[A] at m n;refine⟨c',h.seen (c':=c') s m n ⟨h.ZF.race,h.ZF.low,h.ZF.norel,λk=>?_,h.ZF.SV,h.ZF.cont,h.ZF.hears⟩ h.Zn (h.Yq.M' λJ=>We c.H i G' J) h.Yv h.W1 ⟨g,?_,.inl rfl⟩ (λj r=>⟨?_,upd_ne _ _ r⟩) λ_ _ a=>a,_,rfl⟩
 .show YQ t (VR c.tok c.O t k) (ZI c.H (.inl i) G' k);by_cases e:k=.inl i
  .subst e;rw[YE];exact(h.ZF.perms (.inl i)).sub d
  .rw[ZH _ _ e];exact h.ZF.perms k
 .rw[y];show VS P Q (upd c.T i (f (i==0,g,l)) i) _ _ _;rw[upd_same];exact u
 .have K:(Sum.inl j:Zi)≠.inl i:=λx=>r (by cases x;rfl);simp[c',Y1.x,ZH _ _ K]
theorem Inv.group (h:Inv P Q ZK c gs w t) (ao:gs[i]?=some g) {s:Nat} {sp:Spec} {ap:TypeId} {G' E:Ψ} (B:c.η i s=some (#[.int .u64 0,.int .u32 0],ap)) (af:∀m,sp.Z0=some m->m≠s/\∃ag,c.η i m=some (#[.int .i32 0,.int .u32 0],ag))
  (aN:c.rel i=false) (I:Split (c.H (.inl i)) G' E) (aO:sp.Z0≠none->sp.Yi [] E) {Y:γ}
  (aP:Y={c.x i with G:=G',η:=λb=>if b=s\/sp.Z0=some b then none else c.η i b,tok:=upd (c.tok i) s (.par 0 0 .add),spec:=upd (c.spec i) s (some sp),view:=upd (c.view i) s none}) (aQ:UQ P Q f (i==0) g Y):LD P Q ZK c gs w t i f:=by
 have aR:i<gs.size:=Us ao
 have ah:c.O s=none:=by
  cases K:c.O s with
  | none=>rfl
  | some o=>have:=(h.hold.Vm s o s K (.inl rfl)).2.2 i;rw[B] at this;cases this
 have Z:∀b,Ys s sp b->∃v,c.η i b=some v:=λb hb=>by
  rcases hb with rfl|hb
  .exact⟨_,B⟩
  .obtain⟨_,ag,aS⟩:=af b hb;exact⟨_,aS⟩
 have W:∀r o b,c.O r=some o->Ys r o.toSpec b->¬Ys s sp b:=λr o b d hb aa=>by
  obtain⟨v,hv⟩:=Z b aa;have:=(h.hold.Vm r o b d hb).2.2 i;rw[hv] at this;cases this
 have aq:∀r o,c.O r=some o->r≠s:=λr o d e=>by rw[e,ah] at d;cases d
 let V':Nat->Option (Array Value×TypeId):=λb=>if b=s\/sp.Z0=some b then none else c.η i b
 let O':=upd c.O s (some (ν.new sp))
 have X:∀j b v,upd c.η i V' j b=some v->c.η j b=some v/\¬Ys s sp b:=λj b v hv=>by
  by_cases e:j=i
  .subst e;rw[upd_same] at hv;by_cases ai:b=s\/sp.Z0=some b
   .simp[V',ai] at hv
   .simp[V',ai] at hv;exact⟨hv,ai⟩
  .rw[upd_ne _ _ e] at hv;refine⟨hv,λhb=>?_⟩;obtain⟨aT,aU⟩:=Z b hb;have:=(h.hold.fresh i b aT aU).2.2 j e;rw[this] at hv;cases hv
 have ar:∀j b,c.η j b=none->upd c.η i V' j b=none:=λj b e=>by
  cases K:upd c.η i V' j b with
  | none=>rfl
  | some v=>have:=(X j b v K).1;rw[e] at this;cases this
 have aV:∀j b,Ys s sp b->upd c.η i V' j b=none:=λj b hb=>by
  cases K:upd c.η i V' j b with
  | none=>rfl
  | some v=>exact absurd hb (X j b v K).2
 have C:∀r q,O' r=some q->(r=s/\q=ν.new sp)\/(r≠s/\c.O r=some q):=λr q y=>by
  by_cases e:r=s
  .subst e;rw[show O' r=some (ν.new sp) from upd_same ..] at y;cases y;exact .inl ⟨rfl,rfl⟩
  .rw[show O' r=c.O r from upd_ne _ _ e] at y;exact .inr ⟨e,y⟩
 have au:Ws c.H (upd c.η i V') O' ZK.heap.size:=by
  refine⟨h.hold.apart,h.hold.high,h.hold.Tu,λj b v hv=>?_,λr o b d hb=>?_,λr r' o o' b d F hb aa=>?_,λr o m d u=>?_,λb hb=>h.hold.Yq b λr o d hi=>hb r o (by rw[show O' r=c.O r from upd_ne _ _ (aq r o d)];exact d) hi⟩
  .obtain⟨S,U,ak⟩:=h.hold.fresh j b v (X j b v hv).1;exact⟨S,U,λav aW=>ar av b (ak av aW)⟩
  .rcases C r o d with⟨rfl,rfl⟩|⟨e,F⟩
   .obtain⟨v,hv⟩:=Z b hb;obtain⟨S,U,_⟩:=h.hold.fresh i b v hv;exact⟨S,U,λj=>aV j b hb⟩
   .obtain⟨S,U,ak⟩:=h.hold.Vm r o b F hb;exact⟨S,U,λj=>ar j b (ak j)⟩
  .rcases C r o d with⟨rfl,rfl⟩|⟨e,aw⟩<;>rcases C r' o' F with⟨rfl,rfl⟩|⟨ai,ax⟩
   .rfl
   .exact absurd hb (W r' o' b ax aa)
   .exact absurd aa (W r o b aw hb)
   .exact h.hold.U' r r' o o' b aw ax hb aa
  .rcases C r o d with⟨rfl,rfl⟩|⟨e,F⟩
   .exact(af m u).1
   .exact h.hold.So r o m F u
 have ay:O' s=some (ν.new sp):=upd_same ..
 have az:c.H (.inr s)=Ψ.empty:=h.hold.Yq s λr o d hi=>W r o s d hi (.inl rfl)
 have aA:∀r q,O' r=some q->At r q w:=λr q y=>by
  rcases C r q y with⟨rfl,rfl⟩|⟨_,M⟩
  .refine⟨⟨ap,?_⟩,λm u=>let ⟨_,ag,hv⟩:=af m u;⟨ag,?_⟩⟩
   .rw[Cw];exact h.mem.Uu i r _ _ B
   .rw[Cv];exact h.mem.Uu i m _ _ hv
  .exact h.mem.XH _ _ M
 obtain⟨A,aX,aY,aB,aC,aZ,a0,a1⟩:∃A:Zi->Ψ,A (.inl i)=G'/\(∀j,j≠i->A (.inl j)=c.H (.inl j))/\(∀b,¬Ys s sp b->A (.inr b)=c.H (.inr b))/\(A (.inr s)=Ψ.empty/\∀m,sp.Z0=some m->A (.inr m)=E)/\
   Ws A (upd c.η i V') O' ZK.heap.size/\W2 A (upd c.η i V') O' ZK w/\∀a,YQ t (VR (Zz c.tok i s (.par 0 0 .add)) O' t a) (A a):=by
  have al:=h.ZF.perms (.inl i)
  have aD:∀a,(∀b,a=.inr b->¬Ys s sp b)->YQ t (VR (Zz c.tok i s (.par 0 0 .add)) O' t a) (c.H a):=λa V=>by
   refine(h.ZF.perms a).mono λk N=>?_;cases a with
   | inl j=>exact N
   | inr b=>
    refine N.imp id λN r o d hb j n=>?_;rcases C r o d with⟨rfl,rfl⟩|⟨e,F⟩
    .exact absurd hb (V b rfl)
    .rw[X' _ (λx=>e x.2)] at n;exact N r o F hb j n
  have aE:W2 c.H (upd c.η i V') c.O ZK w:=h.mem.Oq λj b v hv=>(X j b v hv).1
  have aF:(Sum.inl i:Zi)≠.inr s:=J;cases u:sp.Z0 with
  | none=>
   refine⟨ZI (ZI c.H (.inl i) G') (.inr s) Ψ.empty,?_,λj n=>?_,λb hb=>?_,⟨YE ..,λm e=>(by cases e)⟩,?_,aE.two (I.l.fits (h.mem.fit (.inl i))) (Po w) aA,λa=>?_⟩
   .rw[ZH _ _ aF,YE]
   .rw[ZH _ _ J,ZH _ _ (λe=>n (by cases e;rfl))]
   .have:(Sum.inr b:Zi)≠.inr s:=λe=>hb (by cases e;exact .inl rfl);rw[ZH _ _ this,We]
   .exact au.two aF I.l.RI (Sub.empty _) (Apart.Qe _) ⟨λs o B=>⟨o,B,rfl⟩,λs o B=>⟨o,B,rfl⟩⟩ λx K=>by
     rcases K with e|e
     .cases e;exact⟨s,_,ay,.inl rfl⟩
     .cases e
   .by_cases Χ:a=.inr s
    .subst Χ;rw[YE];exact YQ.empty
    .rw[ZH _ _ Χ];by_cases ab:a=.inl i
     .subst ab;rw[YE];exact al.sub I.l
     .rw[ZH _ _ ab];refine aD a λb e hb=>?_;subst e;rcases hb with rfl|hb
      .exact Χ rfl
      .rw[u] at hb;cases hb
  | some m=>
   have a2:=(af m u).1
   have aG:(Sum.inl i:Zi)≠.inr m:=J;refine⟨ZI (ZI c.H (.inl i) G') (.inr m) E,?_,λj n=>?_,λb hb=>?_,⟨?_,λa9 e=>?_⟩,?_,aE.two (I.l.fits (h.mem.fit (.inl i))) (I.r.fits (h.mem.fit (.inl i))) aA,λa=>?_⟩
   .rw[ZH _ _ aG,YE]
   .rw[ZH _ _ J,ZH _ _ (λe=>n (by cases e;rfl))]
   .have:(Sum.inr b:Zi)≠.inr m:=λe=>hb (by cases e;exact .inr u);rw[ZH _ _ this,We]
   .have:(Sum.inr s:Zi)≠.inr m:=λe=>a2 (by cases e;rfl);rw[ZH _ _ this,We];exact az
   .cases e;rw[YE]
   .exact au.two aG I.l.RI I.r.RI I.apart ⟨λs o B=>⟨o,B,rfl⟩,λs o B=>⟨o,B,rfl⟩⟩ λx K=>by
     rcases K with e|e
     .cases e;exact⟨s,_,ay,.inr u⟩
     .cases e
   .by_cases Χ:a=.inr m
    .subst Χ;rw[YE];refine(al.sub I.r).mono λk N=>.inr λr o d hb j n=>?_;rcases C r o d with⟨rfl,rfl⟩|⟨e,F⟩
     .by_cases e:j=i
      .subst e;exact N
      .rw[QY _ e,h.Zn.bare r ah j] at n;exact absurd rfl n
     .exact absurd (.inr u) (W r o m F hb)
    .rw[ZH _ _ Χ];by_cases ab:a=.inl i
     .subst ab;rw[YE];exact al.sub I.l
     .rw[ZH _ _ ab];by_cases aH:a=.inr s
      .subst aH;rw[az];exact YQ.empty
      .refine aD a λb e hb=>?_;subst e;rcases hb with rfl|hb
       .exact aH rfl
       .rw[u] at hb;cases hb;exact Χ rfl
 let c':Y1:={c with H:=A,η:=upd c.η i V',tok:=Zz c.tok i s (.par 0 0 .add),spec:=upd c.spec i (upd (c.spec i) s (some sp)),view:=upd c.view i (upd (c.view i) s none),O:=O',ZA:=upd c.ZA s i,T:=upd c.T i (f (i==0,g,Y))}
 have a3:c'.x i=Y:=by rw[aP];simp[c',V',Y1.x,upd_same,Pj,aX]
 have ad:∀j r,r≠s->Zz c.tok i s (.par 0 0 .add) j r=c.tok j r:=λj r d=>X' _ λx=>d x.2
 have aI:∀j,j≠0->c.rel j=true->c.home j≠s:=λj R n e=>by
  obtain⟨am,S,U,_⟩:=h.Yv.c1 j R n;have a4:=h.Yv.RH (c.Ya j) j (by simp[Trace.g?,S,U]);obtain⟨k,m,g,N⟩:=h.Zn.Q0 j R a4;rw[e,h.Zn.bare s ah j] at N;cases N
 refine⟨c',h.seen (c':=c') ao a0 aZ ⟨h.ZF.race,h.ZF.low,h.ZF.norel,a1,λj b v hv=>h.ZF.SV j b v (X j b v hv).1,λr o b d hb k a V aJ=>?_,h.ZF.hears⟩ (h.Zn.Cz ah aR aN sp) ⟨λr q m y u ae a5=>?_,λr q y ae=>?_⟩
  ⟨h.Yv.RH,h.Yv.c1,λj R n ae=>?_,λj R n a b=>?_⟩ ⟨λr q m y u p am aK V=>?_,λj b v hv=>h.W1.Pl j b v (X j b v hv).1⟩ ⟨g,?_,.inl rfl⟩ (λj n=>⟨?_,upd_ne _ _ n⟩) (λr o d=>?_),_,rfl⟩
 .rcases C r o d with⟨rfl,rfl⟩|⟨e,F⟩
  .obtain⟨v,hv⟩:=Z b hb;exact absurd aJ (h.ZF.SV i b v hv k a V)
  .have:=h.ZF.cont r o b F hb k a V aJ
   show _\/(_/\_=some (upd c.ZA s i r));rw[upd_ne _ _ e];exact this
 .rcases C r q y with⟨rfl,rfl⟩|⟨e,M⟩
  .show sp.Yi [] (A (.inr m));rw[aC.2 m u];exact aO (by have:sp.Z0=some m:=u;rw[this];simp)
  .show q.Yi q.L (A (.inr m));rw[aB m (W r q m M (.inr u))];exact h.Yq.Sm r q m M u (λj an p x=>ae j an p (by show Zz c.tok i s _ j r=_;rw[ad j r e];exact x)) λj k L g x=>a5 j k L g (by show Zz c.tok i s _ j r=_;rw[ad j r e];exact x)
 .rcases C r q y with⟨rfl,rfl⟩|⟨e,M⟩
  .show UR sp.D [] (A (.inr r));rw[aC.1];rfl
  .show UR q.D q.YY (A (.inr r));rw[aB r (W r q r M (.inl rfl))];exact h.Yq.SO r q M λj an p x=>ae j an p (by show Zz c.tok i s _ j r=_;rw[ad j r e];exact x)
 .obtain⟨q,p,y⟩:=ae;have e:=aI j R n;have aj:c'.ZA (c.home j)=c.ZA (c.home j):=upd_ne _ _ e;show Knows t (c'.ZA (c.home j)) (c.Ya j);rw[aj];refine h.Yv.c2 j R n ⟨q,p,?_⟩;have:Zz c.tok i s (.par 0 0 .add) (c'.ZA (c.home j)) (c.home j)=.par q p .Z4:=y
  rwa [ad _ _ e,aj] at this
 .have e:=aI j R n
  have aj:c'.ZA (c.home j)=c.ZA (c.home j):=upd_ne _ _ e
  show Before t (c.Ya j) (c.Ya (c'.ZA (c.home j)))
  have aL:c'.ZA (c.home j)≠0:=a
  have aM:c.rel (c'.ZA (c.home j))=true:=b;rw[aj] at aL aM ⊢;exact h.Yv.c3 j R n aL aM
 .rcases C r q y with⟨rfl,rfl⟩|⟨e,M⟩
  .obtain⟨v,hv⟩:=Z m (.inr u);exact absurd V (h.W1.Pl i m v hv am (mem_of_getElem? aK))
  .obtain⟨⟨k,a6,g,a7⟩,a8⟩:=h.W1.Pm r q m M u p am aK V;exact⟨⟨k,a6,g,by show Zz c.tok i s _ _ r=_;rw[ad _ r e];exact a7⟩,a8⟩
 .rw[a3];show VS P Q (upd c.T i (f (i==0,g,Y)) i) _ _ _;rw[upd_same];exact aQ
 .simp[c',Y1.x,upd_ne _ _ n,QY _ n,aY j n]
 .show O' r=some o;rw[show O' r=c.O r from upd_ne _ _ (aq r o d)];exact d
theorem Inv.ghost (h:Inv P Q ZK c gs w t) (d:gs[i]?=some g) (j:Ju (i==0) (UQ P Q f) g (c.x i)):LD P Q ZK c gs w t i f:=by
 rcases j with⟨G',a,e⟩|⟨b,cs,k,a,e⟩|⟨s,sp,k,G',E,a,l,m,n,o,p⟩
 .exact h.less d a e
 .exact h.Cu d a rfl e
 .exact h.group d a l m n o rfl p
end
section
variable {P:Program} {Q:Value->Prop} {ZK:World} {c c':Y1} {gs:Array Goroutine} {w w':World} {t:Trace} {i:Nat} {g g':Goroutine} {es:Array Event}
theorem Inv.step (h:Inv P Q ZK c gs w t) (b:gs[i]?=some g) (k:g.status=.running):(∃v es,i=0/\stepG P true g w=.ended (.done v) w es/\∀sl w1,Good P (λv w'=>Q v/\XP (λ_ _=>False) (λ_=>False) ZK w') (crowd gs w1 sl) (.done v) w (t++MemOp.ofEvents 0 g.frame.fn g.frame.place es))\/
  ∃f,c.T i=.node f/\(WC P Q ZK c gs w t i f\/Ju (i==0) (UQ P Q f) g (c.x i)):=by
 obtain⟨A,j,p⟩:=h.Pk i g b;rcases p with rfl|⟨_,rfl,_⟩
 .have l:LL P (i==0) g (c.x i) Q->(∃v es,i=0/\stepG P true g w=.ended (.done v) w es/\∀sl w1,Good P (λv w'=>Q v/\XP (λ_ _=>False) (λ_=>False) ZK w') (crowd gs w1 sl) (.done v) w (t++MemOp.ofEvents 0 g.frame.fn g.frame.place es)):=λd=>by
   rcases d with⟨r,d⟩|⟨_,d⟩
   .have e:i=0:=by simpa using r
    subst e;obtain⟨v,es,m,B⟩:=h.Hc b d none w;refine⟨v,es,rfl,m,λsl w1=>?_⟩;obtain⟨C,es',n,s⟩:=h.Hc b d sl w1;rw[m] at n;cases n;exact s
   .rw[d.2.2.1] at k;cases k
  cases o:c.T i with
  | leaf=>rw[o] at j;exact .inl (l j.2)
  | node f=>
   have u:=j;rw[o] at j;rcases j.2 with d|a
   .exact .inl (l d)
   .refine .inr ⟨f,rfl,?_⟩;rcases a with a|⟨y,a⟩
    .exact .inl (h.quits b a)
    .rcases a with a|a|a|a|a|a|a|a|a|a
     .exact .inl (h.Js b a)
     .exact .inl (h.CG b a)
     .exact .inl (h.CF b a)
     .exact .inl (h.atom b y u a)
     .exact .inl (h.LB b a)
     .exact .inl (h.Jn b a)
     .exact .inl (h.Jm b a)
     .exact .inl (h.LA b a)
     .exact .inl (h.Jl b a)
     .exact .inr a
 .cases k
theorem Inv.Ct (h:Inv P Q ZK c gs w t):∀g∈gs,Go.Conc.awake g:=λg b=>by
 obtain⟨j,d⟩:=L7.1 b;intro t' a;rcases h.stat d with e|⟨_,e,_⟩|⟨e,_⟩<;>rw[e] at a<;>cases a
theorem Inv.comes:∀(L:List (Xr (Bool×Goroutine×γ))) (k:Nat) (c:Y1) (b:List Nat) (gs:Array Goroutine) (w:World) (t:Trace) (sl:Option (Nat×Nat)),b.map c.T=L->Ord b gs.size->Ow gs=k->Inv P Q ZK c gs w t->Comes P Q ZK (crowd gs w sl) t:=by
 intro L
 induction L using (TT.wf (B:=Bool×Goroutine×γ)).induction with
 | _ L p=>
  intro k
  induction k using Nat.strongRecOn with
  | _ k C=>
   intro c b gs w t sl D e E h;subst D E;obtain⟨i,g,d,j,n,F,o⟩:=crowd_pick (P:=P) (w:=w) (sl:=sl) h.Ct h.awake;have H:=h.at d;have r:i<gs.size:=Us n;rcases H.step n F with⟨v,es,rfl,I,J⟩|⟨f,s,x⟩
   .have y:=runT_many_ended (sl:=j) n (by simpa using I);rw[y] at o;exact Comes.last o (J sl w)
   .rcases x with x|K
    .obtain⟨c',A,w',u,y,l,M⟩:=x j;rw[y] at o;refine Comes.next o ?_;rcases M with⟨m,kk,a⟩|⟨m,kk,N,a⟩|⟨m,a,O⟩
     .exact p _ (by rw[a];exact e.one r s kk) _ c' b A w' _ j rfl (by rw[m];exact e) rfl l
     .obtain⟨R,S,U⟩:=e.two r s kk N;exact p _ (by rw[a];exact U) _ c' R A w' _ j rfl (by rw[m];exact S) rfl l
     .exact C _ O c' b A w' _ j (by rw[a]) (by rw[m];exact e) rfl l
    ·
     obtain⟨c',l,kk,a⟩:=h.ghost (f:=f) n K;exact p _ (by rw[a];exact e.one r s kk) _ c' b gs w t sl rfl e rfl l
end
def Ψ.UP (w:World):Ψ:=
 ⟨λb o=>match w.heap[b]? with|some (.cells c _ _)=>(c[o]?).map (·,false)|_=>none,
  λb=>match w.heap[b]? with|some (.cells c t a)=>if a=(0,0) then some (t,c.size) else none|_=>none,λ_=>none⟩
theorem Ψ.Cs (w:World):Fits (Ψ.UP w) w:=by
 refine⟨λb o v p h=>?_,λb t n h=>?_,λb x h=>(by cases h)⟩
 .simp only[Ψ.UP] at h;cases a:w.heap[b]? with
  | none=>rw[a] at h;cases h
  | some x=>
   rw[a] at h;cases x with
   | cells c t f=>
    simp only at h;cases d:c[o]? with
    | none=>rw[d] at h;cases h
    | some g=>rw[d] at h;cases h;exact TA a d
   | _=>cases h
 .simp only[Ψ.UP] at h;cases a:w.heap[b]? with
  | none=>rw[a] at h;cases h
  | some x=>
   rw[a] at h;cases x with
   | cells c t' f=>
    simp only at h;split at h
    .rename_i e;cases h;exact⟨c,by rw[e],rfl⟩
    .cases h
   | _=>cases h
theorem Ψ.Cr (w:World) (b o:Nat):¬(Ψ.UP w).owns b o:=λ⟨v,h⟩=>by
 simp only[Ψ.UP] at h;cases a:w.heap[b]? with
 | none=>rw[a] at h;cases h
 | some x=>
  rw[a] at h;cases x with
  | cells c t e=>
   simp only at h;cases d:c[o]? with
   | none=>rw[d] at h;cases h
   | some f=>rw[d] at h;cases h
  | _=>cases h
def γ.start (w:World):γ:=⟨Ψ.UP w,λ_=>none,λ_=>.nil,λ_=>none,λ_=>none,0,false⟩
theorem Goes.comes {P:Program} {A:Value->Prop} {g:Goroutine} {w:World} (h:Goes P A true g (γ.start w)):Comes P A w (solo g w) #[]:=by
 obtain⟨T,K⟩:=h;let c:Y1:={H:=ZI (λ_=>Ψ.empty) (.inl 0) (Ψ.UP w),η:=λ_ _=>none,tok:=λ_ _=>.nil,spec:=λ_ _=>none,view:=λ_ _=>none,deaf:=λ_=>0,rel:=λ_=>false,T:=λ_=>T,O:=λ_=>none,ZA:=λ_=>0,home:=λ_=>0,Ya:=λ_=>0};have M:c.x 0=γ.start w:=by simp[c,Y1.x,γ.start]
 have y:∀k,k≠.inl 0->c.H k=Ψ.empty:=λk B=>ZH (λ_=>Ψ.empty) (Ψ.UP w) B
 have C:c.H (.inl 0)=Ψ.UP w:=YE (λ_=>Ψ.empty) (.inl 0) (Ψ.UP w)
 have D:∀k b o,¬(c.H k).owns b o:=λk b o f=>by
  by_cases e:k=.inl 0
  .subst e;rw[C] at f;exact Ψ.Cr w b o f
  .rw[y k e] at f;obtain⟨v,hv⟩:=f;cases hv
 have F:∀k b,¬(c.H k).X3 b:=λk b f=>by
  by_cases e:k=.inl 0
  .subst e;rw[C] at f;obtain⟨v,hv⟩:=f;cases hv
  .rw[y k e] at f;obtain⟨v,hv⟩:=f;cases hv
 have S:∀i:Nat,(#[]:Trace)[i]?=none:=λi=>J
 have I:(#[g]:Array Goroutine).size=1:=rfl
 have N:Inv P A w c #[g] w #[]:=by
  refine⟨J,⟨λk=>?_,λj b c t r=>(by cases r),λs o d=>(by cases d),XP.refl _ _ _⟩,
   ⟨λk l _=>⟨λb o f=>absurd f (D k b o),λb o f=>absurd f (D l b o),λb f=>absurd f (F k b)⟩,λk b o f=>absurd f (D k b o),λk b f=>absurd f (F k b),λj b v hv=>(by cases hv),λs o b d=>(by cases d),λs U o o' b d=>(by cases d),λs o m d=>(by cases d),λb _=>y _ J⟩,
   ⟨λV ⟨i,j,_,⟨a,b,u,_⟩,_⟩=>(by simp[Trace.act?] at u),λQ E=>(by simp at E),λQ E=>(by simp at E),λk=>⟨λb o v p _ i a u=>(by simp[touchAt,Trace.act?] at u),λb _ i a u=>(by simp[touchAt,Trace.act?] at u)⟩,λj b v hv=>(by cases hv),λs o b d=>(by cases d),λj=>rfl⟩,
   ?_,⟨λs o m d=>(by cases d),λs o d=>(by cases d)⟩,⟨λk a B=>(by simp[Trace.g?] at B),λj _ n=>(by cases n),λj _ n=>(by cases n),λj _ n=>(by cases n)⟩,⟨λs o m d=>(by cases d),λj b v hv=>(by cases hv)⟩,λj b r=>?_⟩
  .by_cases e:k=.inl 0
   .subst e;rw[C];exact Ψ.Cs w
   .rw[y k e];exact Po w
  .exact⟨λs o d=>(by cases d),λs _ j=>rfl,λj s _=>rfl,λj s sp d=>(by cases d),λj s φ o d=>(by cases d),λj s k L g o d=>(by cases d),λj s m p R d=>(by cases d),λj s k m g d=>(by cases d),λj W n=>(by rw[I] at n;omega),λj k m g _ d=>(by cases d),rfl,λj s d=>(by cases d),λj s k m g o d=>(by cases d),λs j X k m g Y g' d=>(by cases d),λs j k m g q p R d=>(by cases d),λs o d=>(by cases d),λs o d=>(by cases d)⟩
  .have n:j=0:=by have:=Us r;rw[I] at this;omega
   subst n;simp at r;subst r;exact⟨g,by rw[M];exact K,.inl rfl⟩
 rw[solo_eq_crowd];exact Inv.comes _ _ c [0] #[g] w #[] none rfl ⟨J,λi=>J⟩ rfl N
def Ψ.fresh (G:Ψ) (r:Nat):Prop:=(∀o,G.ς r o=none)/\G.row r=none/\G.obj r=none/\∀b,r<b->(∀o,G.ς b o=none)/\G.row b=none/\G.obj b=none
def Ψ.Ph (G:Ψ) (a:Addr) (v:Value):Ψ:={G with ς:=λb o=>if b=a.block/\o=a.off then some (v,true) else G.ς b o}
def Ψ.YJ (G:Ψ) (r:Nat) (c:Array Value) (t:TypeId):Ψ:=⟨λb o=>if b=r then(c[o]?).map (·,true) else G.ς b o,λb=>if b=r then some (t,c.size) else G.row b,G.obj⟩
def Ψ.ZL (G:Ψ) (r:Nat) (x:Obj):Ψ:={G with obj:=λb=>if b=r then some x else G.obj b}
def One:Value->Prop
 | .agg _|.tuple _=>False
 | _=>True
def Ω {b:Type} (P:Program):Sem b->Ψ->(b->Ψ->Prop)->(Value->Ψ->Prop)->Prop
 | .pure a,G,K,_=>K a G
 | .load m a k,G,K,E=>m=.plain/\a.spot=none/\∃v p,G.ς a.block a.off=some (v,p)/\Ω P (k v) G K E
 | .store m a v k,G,K,E=>m=.plain/\a.spot=none/\G.owns a.block a.off/\(∃t n,G.row a.block=some (t,n))/\One v/\Ω P k (G.Ph a v) K E
 | .new (.cells c t d) k,G,K,E=>d=(0,0)/\∀r,G.fresh r->Ω P (k r) (G.YJ r c t) K E
 | .new o k,G,K,E=>∀r,G.fresh r->Ω P (k r) (G.ZL r o) K E
 | .shape r k,G,K,E=>∃t n,G.row r=some (t,n)/\Ω P (k (some (t,n))) G K E
 | .freeze _ _ _,_,_,_=>False
 | .frozen a k,G,K,E=>(∃t n,G.row a.block=some (t,n))/\Ω P (k false) G K E
 | .getObj r k,G,K,E=>∃o,G.obj r=some o/\o.isChan=false/\Ω P (k o) G K E
 | .setObj r o k,G,K,E=>G.X3 r/\Obj.Q3 o=false/\o.isChan=false/\Ω P k (G.ZL r o) K E
 | .choose q k,G,K,E=>if q.forced then Ω P (k 0) G K E else ∀n,Ω P (k (q.cut n)) G K E
 | .sys _ _,_,_,_=>False
 | .program k,G,K,E=>Ω P (k P) G K E
 | .mark m k,G,K,E=>m=.noRoom/\Ω P k G K E
 | .halt (.panic v),G,_,E=>E v G
 | .halt _,_,_,_=>False
structure YA (G0:Ψ) (w0:World) (G:Ψ) (w:World) (es:Array Event):Prop where
 fit:Fits G w
 keeps:XP G0.owns G0.X3 w0 w
 Vk:LN G0 G w0.heap.size
 Qc:∀e∈es,WV G0 w0.heap.size w.heap.size e
theorem YA.start {G:Ψ} {w:World} (h:Fits G w):YA G w G w #[]:=
 ⟨h,XP.refl _ _ _,⟨λb o v p h=>.inr ⟨v,p,h,id⟩,λb h=>.inr h⟩,λe a=>by simp at a⟩
section
variable {G0 G:Ψ} {w0 w:World} {es:Array Event}
theorem Fits.bare (h:Fits G w) {b:Nat} (d:w.heap.size<=b):(∀o,G.ς b o=none)/\G.row b=none/\G.obj b=none:=by
 refine⟨λo=>?_,?_,?_⟩
 .cases a:G.ς b o with
  | none=>rfl
  | some x=>obtain⟨c,t,e,d,_⟩:=RQ (h.ς _ _ x.1 x.2 a);have:=XO d;omega
 .cases a:G.row b with
  | none=>rfl
  | some x=>obtain⟨c,d,_⟩:=h.row _ x.1 x.2 a;have:=XO d;omega
 .cases a:G.obj b with
  | none=>rfl
  | some x=>have:=XO (h.obj _ x a).1;omega
theorem Fits.fresh (h:Fits G w):G.fresh w.heap.size:=
 ⟨(h.bare (ZO _)).1,(h.bare (ZO _)).2.1,(h.bare (ZO _)).2.2,λ_ a=>h.bare (St a)⟩
theorem Ψ.Jk {H H':Ψ} (c:∀b o,H'.ς b o=none->H.ς b o=none) (d:∀b,H'.row b=none->H.row b=none) (e:∀b,H'.obj b=none->H.obj b=none) (r:Nat) (h:H'.fresh r):H.fresh r:=
 ⟨λo=>c _ _ (h.1 o),d _ h.2.1,e _ h.2.2.1,λb a=>⟨λo=>c _ _ ((h.2.2.2 b a).1 o),d _ (h.2.2.2 b a).2.1,e _ (h.2.2.2 b a).2.2⟩⟩
theorem Ψ.G5 {H:Ψ} {r:Nat} (a:H.fresh r) (c:Array Value) (t:TypeId):∀b,(H.YJ r c t).fresh b->H.fresh b:=
 Ψ.Jk (λb o h=>by
  by_cases e:b=r
  .subst e;exact a.1 o
  .simpa[Ψ.YJ,e] using h) (λb h=>by
  by_cases e:b=r
  .subst e;exact a.2.1
  .simpa[Ψ.YJ,e] using h) (λb h=>h)
theorem Ψ.Jj {H:Ψ} {r:Nat} {x:Obj}:∀b,(H.ZL r x).fresh b->H.fresh b:=
 Ψ.Jk (λb o h=>h) (λb h=>h) (λb h=>by
  by_cases e:b=r
  .subst e;simp[Ψ.ZL] at h
  .simpa[Ψ.ZL,e] using h)
theorem WV.mono {n b c:Nat} {e:Event} (h:WV G n b e) (f:b<=c):WV G n c e:=by
 obtain⟨d,wr,g⟩:=e;cases d with
 | cell a=>exact h.imp (λx=>⟨x.1,U⟩) id
 | obj r=>exact⟨h.1,h.2.imp (λx=>⟨x.1,U⟩) id⟩
 | _=>exact h
theorem YA.read (h:YA G0 w0 G w es) {a:Addr} {v:Value} {p:Bool} (g:a.spot=none) (d:G.ς a.block a.off=some (v,p)):w.cell? a=some v/\YA G0 w0 G w (es.push ⟨.cell a,false,false⟩):=by
 obtain⟨b,o,sp⟩:=a;simp only at g d;subst g;have hv:=h.fit.ς b o v p d;refine⟨hv,h.fit,h.keeps,h.Vk,λe f=>?_⟩;rcases OC.1 f with f|rfl
 .exact h.Qc e f
 .rcases h.Vk.ς b o v p d with i|⟨l,m,j,_⟩
  .obtain⟨c,t,n,k,_⟩:=RQ hv;exact .inl ⟨i,XO k⟩
  .exact .inr ⟨rfl,_,j⟩
theorem heap_setCell {a:Addr} {v:Value} {c:Array Value} {t:TypeId} {f:Nat×Nat} (g:a.spot=none) (d:w.heap[a.block]?=some (.cells c t f)):(w.setCell a v).heap=w.heap.setIfInBounds a.block (.cells (c.setIfInBounds a.off v) t f):=by
 obtain⟨b,o,sp⟩:=a;simp only at g d;subst g;have h:=XO d;simp only[World.setCell];apply OD;intro j;rw[Array.getElem?_modify];by_cases e:b=j
 .subst e;rw[T5 h,if_pos rfl,d];simp
 .rw[Vp e,if_neg e]
theorem YA.write (h:YA G0 w0 G w es) {a:Addr} {v:Value} (L:a.spot=none) (M:G.owns a.block a.off):(∃u,w.cell? a=some u)/\YA G0 w0 (G.Ph a v) (w.setCell a v) (es.push ⟨.cell a,true,false⟩):=by
 obtain⟨b,o,sp⟩:=a;simp only at L M;subst L;obtain⟨u,B⟩:=M;have hv:=h.fit.ς b o u true B;obtain⟨c,t,W,k,X⟩:=RQ hv;have N:=XO k;have C:=heap_setCell (w:=w) (a:=⟨b,o,none⟩) (v:=v) rfl k;have O:(w.setCell ⟨b,o,none⟩ v).heap.size=w.heap.size:=by rw[C];simp
 have p:(w.setCell ⟨b,o,none⟩ v).heap[b]?=some (.cells (c.setIfInBounds o v) t W):=by rw[C,T5 N]
 have m:∀j,b≠j->(w.setCell ⟨b,o,none⟩ v).heap[j]?=w.heap[j]?:=λj Y=>by rw[C,Vp Y]
 have Z:o<c.size:=(UA.1 X).1
 have P:b<w0.heap.size->G0.owns b o:=λr=>by
  rcases h.Vk.ς b o u true B with s|⟨D,Q,E,F⟩
  .omega
  .exact⟨D,by rw[E,F rfl]⟩
 refine⟨⟨u,hv⟩,⟨λd o' H I i=>?_,λd t' aa ab=>?_,λd x y=>?_⟩,⟨by rw[O];exact h.keeps.size,λd c' t' ad A=>?_,λd x A y s=>?_,h.keeps.os,h.keeps.output,h.keeps.tape⟩,⟨λd o' H I i=>?_,h.Vk.obj⟩,λe J=>?_⟩
 .simp only[Ψ.Ph] at i;by_cases e:d=b/\o'=o
  .obtain⟨rfl,rfl⟩:=e;rw[if_pos ⟨rfl,rfl⟩] at i;cases i;exact TA p (by rw[T5 Z])
  .rw[if_neg e] at i;have:=h.fit.ς d o' H I i;by_cases f:d=b
   .subst f;have Χ:o≠o':=λx=>e ⟨rfl,x.symm⟩;obtain⟨n,t2,ae,g,K⟩:=RQ this;rw[k] at g;cases g;exact TA p (by rw[Vp Χ];exact K)
   .obtain⟨n,t2,ae,g,K⟩:=RQ this;exact TA (by rw[m d (Y2 f)];exact g) K
 .obtain⟨n,g,R⟩:=h.fit.row d t' aa ab;by_cases f:d=b
  .subst f;rw[k] at g;cases g;exact⟨_,p,by simpa using R⟩
  .exact⟨n,by rw[m d (Y2 f)];exact g,R⟩
 .obtain⟨g,S⟩:=h.fit.obj d x y;have f:b≠d:=λe=>by subst e;rw[k] at g;cases g;cases S
  exact⟨by rw[m d f];exact g,S⟩
 .obtain⟨n,l,T,U⟩:=h.keeps.cells d c' t' ad A;by_cases f:d=b
  .subst f;rw[k] at l;cases l;refine⟨_,p,by simpa using T,λo' V=>?_⟩;have Χ:o≠o':=λe=>by subst e;exact V (P (XO A))
   rw[Vp Χ];exact U o' V
  .exact⟨n,by rw[m d (Y2 f)];exact l,T,U⟩
 .have l:=h.keeps.TW d x A y s
  have f:b≠d:=λe=>by subst e;rw[k] at l;cases l;cases y
  rw[m d f];exact l
 .simp only[Ψ.Ph] at i;by_cases e:d=b/\o'=o
  .obtain⟨rfl,rfl⟩:=e;rw[if_pos ⟨rfl,rfl⟩] at i;cases i;rcases h.Vk.ς _ _ _ _ B with s|⟨D,Q,E,F⟩
   .exact .inl s
   .exact .inr ⟨D,Q,E,F⟩
  .rw[if_neg e] at i;exact h.Vk.ς d o' H I i
 .rw[O];rcases OC.1 J with J|rfl
  .exact h.Qc e J
  .rcases OB b w0.heap.size with r|r
   .refine .inr ⟨rfl,?_⟩;exact P r
   .exact .inl ⟨r,N⟩
theorem M6 {x:Obj} {j:Nat} (a:j<w.heap.size):(w.heap.push x)[j]?=w.heap[j]?:=by
 rw[OF,if_neg U]
theorem Lz {x:Obj}:(w.heap.push x)[w.heap.size]?=some x:=J
theorem YA.new (h:YA G0 w0 G w es) {x:Obj} {G':Ψ} (k:∀b o,b≠w.heap.size->G'.ς b o=G.ς b o) (m:∀b,b≠w.heap.size->G'.row b=G.row b) (l:∀b,b≠w.heap.size->G'.obj b=G.obj b)
  (i:Fits {ς:=λb o=>if b=w.heap.size then G'.ς b o else none,row:=λb=>if b=w.heap.size then G'.row b else none,obj:=λb=>if b=w.heap.size then G'.obj b else none} {w with heap:=w.heap.push x}) :
  YA G0 w0 G' {w with heap:=w.heap.push x} es:=by
 have E:=h.keeps.size;refine⟨⟨λb o v p a=>?_,λb t n a=>?_,λb y a=>?_⟩,⟨by simp;omega,λb c t r a=>?_,λb y a j s=>?_,h.keeps.os,h.keeps.output,h.keeps.tape⟩,⟨λb o v p a=>?_,λb ⟨y,a⟩=>?_⟩,λe u=>(h.Qc e u).mono J⟩
 .by_cases e:b=w.heap.size
  .exact i.ς b o v p (by simp only[e,if_true];rw[<-e];exact a)
  .rw[k b o e] at a;obtain⟨g,t2,F,d,A⟩:=RQ (h.fit.ς b o v p a);exact TA (w:={w with heap:=w.heap.push x}) (by show(w.heap.push x)[b]?=_;rw[M6 (XO d)];exact d) A
 .by_cases e:b=w.heap.size
  .exact i.row b t n (by simp only[e,if_true];rw[<-e];exact a)
  .rw[m b e] at a;obtain⟨g,d,B⟩:=h.fit.row b t n a;exact⟨g,by show(w.heap.push x)[b]?=_;rw[M6 (XO d)];exact d,B⟩
 .by_cases e:b=w.heap.size
  .exact i.obj b y (by simp only[e,if_true];rw[<-e];exact a)
  .rw[l b e] at a;obtain⟨d,j⟩:=h.fit.obj b y a;exact⟨by show(w.heap.push x)[b]?=_;rw[M6 (XO d)];exact d,j⟩
 .obtain⟨g,f,C,D⟩:=h.keeps.cells b c t r a;exact⟨g,by show(w.heap.push x)[b]?=_;rw[M6 (XO f)];exact f,C,D⟩
 .have f:=h.keeps.TW b y a j s
  show(w.heap.push x)[b]?=_;rw[M6 (XO f)];exact f
 .by_cases e:b=w.heap.size
  .exact .inl U
  .rw[k b o e] at a;exact h.Vk.ς b o v p a
 .by_cases e:b=w.heap.size
  .exact .inl U
  .rw[l b e] at a;exact h.Vk.obj b ⟨y,a⟩
end
section
variable {G0 G:Ψ} {w0 w:World} {es:Array Event} {P:Program}
theorem YA.push (h:YA G0 w0 G w es) {e:Event} (a:WV G0 w0.heap.size w.heap.size e):YA G0 w0 G w (es.push e):=
 ⟨h.fit,h.keeps,h.Vk,λx b=>(OC.1 b).elim (h.Qc x) λy=>y▸a⟩
theorem YA.draw (h:YA G0 w0 G w es) (n:Nat):YA G0 w0 G {w with drawn:=n} es:=
 ⟨⟨h.fit.ς,h.fit.row,h.fit.obj⟩,⟨h.keeps.size,h.keeps.cells,h.keeps.TW,h.keeps.os,h.keeps.output,h.keeps.tape⟩,h.Vk,h.Qc⟩
theorem YA.row (h:YA G0 w0 G w es) (c:Array Value) (t:TypeId):YA G0 w0 (G.YJ w.heap.size c t) {w with heap:=w.heap.push (.cells c t (0,0))} es:=by
 refine h.new (λb o a=>by simp[Ψ.YJ,a]) (λb a=>by simp[Ψ.YJ,a]) (λb a=>rfl) ⟨λb o v p a=>?_,λb t' n a=>?_,λb y a=>?_⟩
 .by_cases e:b=w.heap.size
  .simp[Ψ.YJ,e] at a;obtain⟨f,d,rfl,rfl⟩:=a;rw[e];exact TA (w:={w with heap:=w.heap.push (.cells c t (0,0))}) Lz d
  .simp[e] at a
 .by_cases e:b=w.heap.size
  .simp[Ψ.YJ,e] at a;obtain⟨rfl,rfl⟩:=a;rw[e];exact⟨c,Lz,rfl⟩
  .simp[e] at a
 .by_cases e:b=w.heap.size
  .simp only[e,if_true,Ψ.YJ] at a;rw[h.fit.fresh.2.2.1] at a;cases a
  .simp[e] at a
theorem YA.obj (h:YA G0 w0 G w es) {x:Obj} (c:Obj.Q3 x=false):YA G0 w0 (G.ZL w.heap.size x) {w with heap:=w.heap.push x} es:=by
 refine h.new (λb o a=>rfl) (λb a=>rfl) (λb a=>by simp[Ψ.ZL,a]) ⟨λb o v p a=>?_,λb t' n a=>?_,λb y a=>?_⟩
 .by_cases e:b=w.heap.size
  .simp only[e,if_true,Ψ.ZL] at a;rw[h.fit.fresh.1] at a;cases a
  .simp[e] at a
 .by_cases e:b=w.heap.size
  .simp only[e,if_true,Ψ.ZL] at a;rw[h.fit.fresh.2.1] at a;cases a
  .simp[e] at a
 .by_cases e:b=w.heap.size
  .simp[Ψ.ZL,e] at a;subst a;rw[e];exact⟨Lz,c⟩
  .simp[e] at a
theorem YA.setObj (h:YA G0 w0 G w es) {r:Nat} {x:Obj} (F:G.X3 r) (k:Obj.Q3 x=false):(∃y,w.heap[r]?=some y/\Obj.Q3 y=false)/\YA G0 w0 (G.ZL r x) {w with heap:=w.heap.setIfInBounds r x} (es.push ⟨.obj r,true,false⟩):=by
 obtain⟨y,m⟩:=F;obtain⟨s,B⟩:=h.fit.obj r y m;have C:=XO s;have H:(w.heap.setIfInBounds r x)[r]?=some x:=T5 C;have l:∀j,r≠j->(w.heap.setIfInBounds r x)[j]?=w.heap[j]?:=λj I=>Vp I;have u:∀b c t g,w.heap[b]?=some (.cells c t g)->r≠b:=λb c t g d e=>by subst e;rw[s] at d;cases d;cases B
 refine⟨⟨y,s,B⟩,⟨λb o v p d=>?_,λb t n d=>?_,λb z f=>?_⟩,⟨by simp;exact h.keeps.size,λb c t g d=>?_,λb z d f D=>?_,h.keeps.os,h.keeps.output,h.keeps.tape⟩,⟨h.Vk.ς,λb f=>?_⟩,λe A=>?_⟩
 .obtain⟨c,t,g,a,i⟩:=RQ (h.fit.ς b o v p d);exact TA (w:={w with heap:=w.heap.setIfInBounds r x}) (by show(w.heap.setIfInBounds r x)[b]?=_;rw[l b (u b c t g a)];exact a) i
 .obtain⟨c,a,i⟩:=h.fit.row b t n d;exact⟨c,by show(w.heap.setIfInBounds r x)[b]?=_;rw[l b (u b c t _ a)];exact a,i⟩
 .by_cases e:b=r
  .subst e;simp[Ψ.ZL] at f;subst f;exact⟨H,k⟩
  .simp[Ψ.ZL,e] at f;obtain⟨a,i⟩:=h.fit.obj b z f;exact⟨by show(w.heap.setIfInBounds r x)[b]?=_;rw[l b (Y2 e)];exact a,i⟩
 .obtain⟨E,a,i,J⟩:=h.keeps.cells b c t g d;exact⟨E,by show(w.heap.setIfInBounds r x)[b]?=_;rw[l b (u b E t g a)];exact a,i,J⟩
 .have a:=h.keeps.TW b z d f D
  have e:r≠b:=λe=>by
   subst e;rcases h.Vk.obj r ⟨y,m⟩ with k|k
   .have:=XO d;omega
   .exact D k
  show(w.heap.setIfInBounds r x)[b]?=_;rw[l b e];exact a
 .by_cases e:b=r
  .subst e;exact h.Vk.obj b ⟨y,m⟩
  .obtain⟨z,f⟩:=f;simp[Ψ.ZL,e] at f;exact h.Vk.obj b ⟨z,f⟩
 .simp only[T3];rcases OC.1 A with A|rfl
  .exact h.Qc e A
  .exact⟨rfl,(h.Vk.obj r ⟨y,m⟩).imp (λk=>⟨k,C⟩) id⟩
theorem Ω.sound {I:Type} {K:I->Ψ->Prop} {E:Value->Ψ->Prop} (s:Sem I):∀{G:Ψ} {w:World} {es:Array Event},Ω P s G K E->YA G0 w0 G w es->
  ∃G' w' es',YA G0 w0 G' w' es'/\((∃a,s.runT P w es=(.ok a w',es')/\K a G')\/(∃v,s.runT P w es=(.halt (.panic v) w',es')/\E v G')):=by
 induction s with
 | pure a=>intro G w es h b;exact⟨G,w,es,b,.inl ⟨a,rfl,h⟩⟩
 | load m a k d=>
  intro G w es h b;obtain⟨rfl,C,v,p,D,i⟩:=h;obtain⟨hv,l⟩:=b.read C D;obtain⟨G',w',es',f,g⟩:=d v i l;refine⟨G',w',es',f,?_⟩;simp only[Sem.runT,hv];exact g
 | store m a v k d=>
  intro G w es h b;obtain⟨rfl,C,D,⟨t,n,L⟩,M,i⟩:=h;obtain⟨⟨u,hv⟩,l⟩:=b.write (v:=v) C D;obtain⟨G',w',es',f,g⟩:=d i l;have N:w.frozen? a=false:=by
   obtain⟨c,j,_⟩:=b.fit.row a.block t n L;simp[World.frozen?,j]
  refine⟨G',w',es',f,?_⟩;have e:(Sem.store .plain a v k).runT P w es=k.runT P (w.setCell a v) (es.push ⟨.cell a,true,false⟩):=by
   cases v<;>first|exact M.elim|(simp only[Sem.runT,hv,N];rfl)
  rw[e];exact g
 | new o k d=>
  intro G w es h b;cases o with
  | cells c t T=>
   obtain⟨rfl,i⟩:=h;obtain⟨G',w',es',f,g⟩:=d w.heap.size (i _ b.fit.fresh) (b.row c t);exact⟨G',w',es',f,g⟩
  | _=>
   obtain⟨G',w',es',f,g⟩:=d w.heap.size (h _ b.fit.fresh) (b.obj rfl);exact⟨G',w',es',f,g⟩
 | shape r k d=>
  intro G w es h b;obtain⟨t,n,A,i⟩:=h;have e:w.shape? r=some (t,n):=by
   obtain⟨c,j,O⟩:=b.fit.row r t n A;simp[World.shape?,j,O]
  obtain⟨G',w',es',f,g⟩:=d _ i b;refine⟨G',w',es',f,?_⟩;simp only[Sem.runT,e];exact g
 | freeze a n k d=>intro G w es h b;exact h.elim
 | frozen a k d=>
  intro G w es h b;obtain⟨⟨t,n,A⟩,i⟩:=h;have e:w.frozen? a=false:=by
   obtain⟨c,j,_⟩:=b.fit.row a.block t n A;simp[World.frozen?,j]
  obtain⟨G',w',es',f,g⟩:=d _ i b;refine⟨G',w',es',f,?_⟩;simp only[Sem.runT,e];exact g
 | getObj r k d=>
  intro G w es h b;obtain⟨o,J,F,i⟩:=h;obtain⟨j,H⟩:=b.fit.obj r o J;have Q:=XO j;have l:=b.push (e:=⟨.obj r,false,false⟩) ⟨rfl,(b.Vk.obj r ⟨o,J⟩).imp (λR=>⟨R,Q⟩) id⟩;obtain⟨G',w',es',f,g⟩:=d _ i l;refine⟨G',w',es',f,?_⟩;have e:(Sem.getObj r k).runT P w es=(k o).runT P w (es.push ⟨.obj r,false,false⟩):=by
   cases o<;>first|(simp only[Sem.runT,j];first|done|rfl|(rw[F];done))|(cases H;done)
  rw[e];exact g
 | setObj r o k d=>
  intro G w es h b;obtain⟨A,H,F,i⟩:=h;obtain⟨⟨y,j,S⟩,l⟩:=b.setObj A H;obtain⟨G',w',es',f,g⟩:=d i l;refine⟨G',w',es',f,?_⟩;have e:(Sem.setObj r o k).runT P w es=k.runT P {w with heap:=w.heap.setIfInBounds r o} (es.push ⟨.obj r,true,false⟩):=by
   cases y<;>first|(simp only[Sem.runT,j,F];done)|(cases S;done)
  rw[e];exact g
 | choose q k d=>
  intro G w es h b;simp only[Ω] at h;by_cases B:q.forced=true
  .rw[if_pos B] at h;obtain⟨G',w',es',f,g⟩:=d _ h b;refine⟨G',w',es',f,?_⟩;simp only[Sem.runT,B,if_true];exact g
  .rw[if_neg B] at h;obtain⟨G',w',es',f,g⟩:=d _ (h (w.tape w.drawn q)) (b.draw (w.drawn+1));refine⟨G',w',es',f,?_⟩;simp only[Sem.runT,B];exact g
 | sys c k d=>intro G w es h b;exact h.elim
 | program k d=>
  intro G w es h b;obtain⟨G',w',es',f,g⟩:=d P h b;exact⟨G',w',es',f,g⟩
 | mark m k d=>
  intro G w es h b;obtain⟨rfl,i⟩:=h;obtain⟨G',w',es',f,g⟩:=d i (b.push (e:=⟨.mark .noRoom,false,true⟩) rfl);exact⟨G',w',es',f,g⟩
 | halt x=>
  intro G w es h b;cases x<;>first|exact h.elim|skip
  exact⟨G,w,es,b,.inr ⟨_,rfl,h⟩⟩
theorem mem_seen {fn:FuncId} {e:Event} (h:e∈seen P fn es):e∈es:=by
 unfold seen at h;obtain⟨l⟩:=es;have d:∀(l:List Event) (q:Bool) (c:Array Event) (x:Event),x∈(l.foldl (λ(s:Bool×Array Event) e=>match e.loc with
   | .mark (Mark.extern f)=>((P.funcs[f]?).any (·.norace),s.2)
   | _=>(s.1,if s.1&&!e.sync then s.2 else s.2.push e)) (q,c)).2->x∈c\/x∈l:=by
  intro l
  induction l with
  | nil=>intro q c x a;exact .inl a
  | cons y l g=>
   intro q c x a;rw[List.foldl_cons] at a;rcases g _ _ x a with b|b
   .split at b
    .exact .inl b
    .simp only at b;split at b
     .exact .inl b
     .rcases OC.1 b with i|rfl
      .exact .inl i
      .exact .inr J
   .exact .inr (by simp[b])
 simp only[List.foldl_toArray'] at h;rcases d l _ #[] e h with a|a
 .simp at a
 .simpa using a
end
def Zq (P:Program) (a:Value->Prop) (mn:Bool) (y:γ) (Η:Frame) (cs:List Frame) (H:Ψ):Prop:=Goes P a mn (Go.Conc.G Η cs) {y with G:=H}
def W':Type:=γ->Prop
class ZS where
 q:W'->Prop
structure Seq [ZS] (x:W'):Prop where
 cls:ZS.q x
 rel:∀y,x y->y.rel=false
 η:∀y,x y->y.η=λ_=>none
def ξ (P:Program) (a:Value->Prop) (mn:Bool) (x:W') (Η:Frame) (cs:List Frame) (H:Ψ):Prop:=∀y,x y->Zq P a mn y Η cs H
def Η (b:Frame) (t:Array Value) (k:List Item):Frame:={b with tmps:=t,todo:=k}
section
variable {P:Program} {Q:Value->Prop} {mn:Bool} {x:W'} {cs:List Frame} {H:Ψ} {b f:Frame} {t:Array Value} {k:List Item}
theorem Zq.own {y:γ} (g:y.rel=false) (i:y.η=λ_=>none) (h:∀w,Fits H w->∃f' cs' w' es H',stepG P mn (Go.Conc.G f cs) w=.go (Go.Conc.G f' cs') w' es/\YA H w H' w' es/\Zq P Q mn y f' cs' H'):Zq P Q mn y f cs H:=by
 refine Goes.step (λj=>by rw[show({y with G:=H}:γ).rel=y.rel from rfl,g] at j;cases j) (.inr ⟨⟨rfl,rfl⟩,.inl λw k hv=>?_⟩);obtain⟨f',cs',w',es,H',l,d,m⟩:=h w k;rw[l];refine⟨H',y.η,⟨rfl,rfl⟩,d.keeps,d.fit,λb c t a=>?_,d.Vk,λb c a=>.inl a,λe n=>?_,λb c a=>?_,m⟩
 .rw[i] at a;cases a
 .rw[if_neg (by rw[show({y with G:=H}:γ).rel=y.rel from rfl,g];simp)];exact d.Qc e n
 .rw[i] at a;cases a
variable [ZS]
theorem ξ.own (e:Seq x) (h:∀w,Fits H w->∃f' cs' w' es H',stepG P mn (Go.Conc.G f cs) w=.go (Go.Conc.G f' cs') w' es/\YA H w H' w' es/\ξ P Q mn x f' cs' H'):ξ P Q mn x f cs H:=
 λy d=>.own (e.rel y d) (e.η y d) λw g=>let ⟨f',cs',w',es,H',a,b,c⟩:=h w g;⟨f',cs',w',es,H',a,b,c y d⟩
theorem ξ.still (a:Seq x) {f':Frame} {cs':List Frame} (b:∀w,stepG P mn (Go.Conc.G f cs) w=.go (Go.Conc.G f' cs') w #[]) (h:ξ P Q mn x f' cs' H):ξ P Q mn x f cs H:=
 .own a λw c=>⟨f',cs',w,#[],H,b w,.start c,h⟩
theorem V4 (a:b.mode=.run) (w:World):stepG P mn (Go.Conc.G (Η b t k) cs) w=stepG.exec P mn true (Η b t k) cs none w:=by
 obtain⟨fn,c,td,d,e,f,g⟩:=b;simp only at a;subst a;rfl
section moves
variable (Yg:Seq x) (hb:b.mode=.run)
include Yg hb
theorem ξ.to {a:List Item} (c:∀w,stepG.exec P mn true (Η b t k) cs none w=.go (Go.Conc.G (Η b t a) cs) w #[]) (h:ξ P Q mn x (Η b t a) cs H):ξ P Q mn x (Η b t k) cs H:=
 .still Yg (λw=>(V4 hb w).trans (c w)) h
theorem ξ.skip (h:ξ P Q mn x (Η b t k) cs H):ξ P Q mn x (Η b t (.code .skip::k)) cs H:=.to Yg hb (λ_=>rfl) h
theorem ξ.inBlock {l:Nat} (h:ξ P Q mn x (Η b t k) cs H):ξ P Q mn x (Η b t (.inBlock l::k)) cs H:=.to Yg hb (λ_=>rfl) h
theorem ξ.seq {a c:Code} (h:ξ P Q mn x (Η b t (.code a::.code c::k)) cs H):ξ P Q mn x (Η b t (.code (.seq a c)::k)) cs H:=.to Yg hb (λ_=>rfl) h
theorem ξ.block {l:Nat} {c:Code} (h:ξ P Q mn x (Η b t (.code c::.inBlock l::k)) cs H):ξ P Q mn x (Η b t (.code (.block l c)::k)) cs H:=.to Yg hb (λ_=>rfl) h
theorem ξ.loop {c:Code} (h:ξ P Q mn x (Η b t (.code c::.inLoop c::k)) cs H):ξ P Q mn x (Η b t (.code (.loop c)::k)) cs H:=.to Yg hb (λ_=>rfl) h
theorem ξ.inLoop {c:Code} (h:ξ P Q mn x (Η b t (.code c::.inLoop c::k)) cs H):ξ P Q mn x (Η b t (.inLoop c::k)) cs H:=.to Yg hb (λ_=>rfl) h
theorem ξ.region {id:Nat} {ops:Array Oper} (h:ξ P Q mn x (Η b t (.inRegion ops (List.range ops.size)::k)) cs H):ξ P Q mn x (Η b t (.code (.region id ops false)::k)) cs H:=.to Yg hb (λ_=>rfl) h
theorem ξ.ZM {ops:Array Oper} (h:ξ P Q mn x (Η b t k) cs H):ξ P Q mn x (Η b t (.inRegion ops []::k)) cs H:=.to Yg hb (λ_=>rfl) h
theorem ξ.cond {c:Operand} {a e:Code} {v:Bool} (f:(Η b t k).eval c=.bool v) (h:ξ P Q mn x (Η b t (.code (if v then a else e)::k)) cs H):ξ P Q mn x (Η b t (.code (.cond c a e)::k)) cs H:=by
 refine .to Yg hb (λw=>?_) h;have d:(Η b t (.code (.cond c a e)::k)).eval c=.bool v:=f;unfold stepG.exec;simp only[Η] at d ⊢;rw[d];rfl
theorem ξ.exit {l:Nat} {a:List Item} (c:exitTo l k=some a) (h:ξ P Q mn x (Η b t a) cs H):ξ P Q mn x (Η b t (.code (.exit l)::k)) cs H:=by
 refine .to Yg hb (λw=>?_) h;unfold stepG.exec;simp only[Η,c,Option.elim];rfl
theorem ξ.draw {id:Nat} {ops:Array Oper} (h:∀n,ξ P Q mn x (Η b t (.inRegion ops (Region.schedule (P.follows .mixedOrders) ops n)::k)) cs H):ξ P Q mn x (Η b t (.code (.region id ops true)::k)) cs H:=by
 refine .own Yg λw a=>⟨Η b t (.inRegion ops (Region.schedule (P.follows .mixedOrders) ops (w.tape w.drawn (.order b.fn id)))::k),cs,{w with drawn:=w.drawn+1},#[],H,?_,(YA.start a).draw _,h _⟩;rw[V4 hb];rfl
theorem ξ.ret (a:b.roundOf=none) (h:ξ P Q mn x {Η b t (.code .ret::k) with mode:=.returning} cs H):ξ P Q mn x (Η b t (.code .ret::k)) cs H:=by
 refine .still Yg (λw=>?_) h;rw[V4 hb];unfold stepG.exec;simp only[Η,a];rfl
theorem ξ.QX (a:b.roundOf=none) (h:ξ P Q mn x {Η b t [] with mode:=.returning} cs H):ξ P Q mn x (Η b t []) cs H:=by
 refine .still Yg (λw=>?_) h;rw[V4 hb];unfold stepG.exec;simp only[Η,a];rfl
end moves
end
end Go.TL
namespace Go.TL
open Go.Conc
open Go.ConcM (OsLater)
open Go.ConcN (sumTo upd sumTo_upd upd_ne upd_same sumTo_congr le_sumTo)
variable [ZS]
def ZX (t:Array Value):Operand->Value
 | .tmp n=>t.getD n undef
 | .const v=>v
 | .global g=>.pointer (some ⟨g,0,none⟩)
 | .func f=>.func (.func f) #[] #[]
theorem M5 (b:Frame) (t:Array Value) (k:List Item):(Η b t k).eval=ZX t:=by funext o;cases o<;>rfl
def put (o:Oper) (t:Array Value) (v:Value):Array Value:=match o.dst with|some d=>t.setIfInBounds d v|none=>t
def G4 (P:Program) (a:Value->Prop) (mn:Bool) (x:W') (b:Frame) (t:Array Value) (ops:Array Oper) (i:Nat) (o:Oper) (rest:List Nat) (k:List Item) (cs:List Frame):Next->Ψ->Prop
 | .value v,H=>ξ P a mn x (Η b (put o t v) (.inRegion ops rest::k)) cs H
 | .skip,H=>ξ P a mn x (Η b (put o t undef) (.inRegion ops rest::k)) cs H
 | .enter f args,H=>ξ P a mn x (Frame.enter P f args .normal) (Η b t (.inRegion ops (i::rest)::k)::cs) H
 | .round l f c e g,H=>ξ P a mn x (Frame.round l f c e g .normal) (Η b t (.inRegion ops (i::rest)::k)::cs) H
 | .defer d,H=>ξ P a mn x (Η {b with defers:=d::b.defers} (put o t undef) (.inRegion ops rest::k)) cs H
 | .recover,H=>b.roundOf=none/\match tryRecover (Η b t (.inRegion ops (i::rest)::k)) cs with
  | some (v,cs')=>ξ P a mn x (Η b (put o t v) (.inRegion ops rest::k)) cs' H
  | none=>ξ P a mn x (Η b (put o t .nilIface) (.inRegion ops rest::k)) cs H
 | _,_=>False
section
variable {P:Program} {Q:Value->Prop} {mn:Bool} {x:W'} {cs:List Frame} {H:Ψ} {b f:Frame} {t:Array Value} {k:List Item}
theorem YA.sub {G0 G:Ψ} {w0 w:World} {es es':Array Event} (h:YA G0 w0 G w es) (a:∀e∈es',e∈es):YA G0 w0 G w es':=⟨h.fit,h.keeps,h.Vk,λe b=>h.Qc e (a e b)⟩
theorem Wr {b:Frame} {ops:Array Oper} {i:Nat} {o:Oper} {rest:List Nat} {v:Value} (a:ops[i]?=some o):(Η b t (.inRegion ops (i::rest)::k)).finish v=Η b (put o t v) (.inRegion ops rest::k):=by
 simp only[Frame.finish,Η,a,Option.bind,put];cases o.dst<;>rfl
theorem ξ.unwanted (c:Seq x) (d:b.mode=.run) {ops:Array Oper} {i:Nat} {o:Oper} {rest:List Nat} (a:ops[i]?=some o) (e:Region.wanted o (yielded ops t)=false)
  (h:ξ P Q mn x (Η b (put o t undef) (.inRegion ops rest::k)) cs H):ξ P Q mn x (Η b t (.inRegion ops (i::rest)::k)) cs H:=by
 refine .still c (f':=Η b (put o t undef) (.inRegion ops rest::k)) (cs':=cs) (λw=>?_) h;rw[V4 d,<-Wr a];have f:((ops[i]?).map (Region.wanted · (yielded ops t))).getD false=false:=by simp[a,e]
 unfold stepG.exec;simp only[Η,f];rfl
theorem ξ.op (D:Seq x) (C:b.mode=.run) {ops:Array Oper} {i:Nat} {o:Oper} {rest:List Nat} (y:ops[i]?=some o) (E:Region.wanted o (yielded ops t)=true) (hd:b.roundOf=none\/∀c,o.op≠.defer c)
  (h:Ω P (execOp (ZX t) o) H (G4 P Q mn x b t ops i o rest k cs) (λv H'=>ξ P Q mn x {Η b t (.inRegion ops (i::rest)::k) with mode:=.panicking [{v,recovered:=false}]} cs H')) :
  ξ P Q mn x (Η b t (.inRegion ops (i::rest)::k)) cs H:=by
 refine .own D λw F=>?_;obtain⟨H',w',es',n,I⟩:=Ω.sound (P:=P) (G0:=H) (w0:=w) (execOp (ZX t) o) h (YA.start F);have J:stepG P mn (Go.Conc.G (Η b t (.inRegion ops (i::rest)::k)) cs) w=stepG.apply P true (Η b t (.inRegion ops (i::rest)::k)) cs none (execOp (ZX t) o) w:=by
  rw[V4 C];have K:((ops[i]?).map (Region.wanted · (yielded ops t))).getD false=true:=by simp[y,E]
  have A:(Η b t (.inRegion ops (i::rest)::k)).oper?=some o:=by simp[Frame.oper?,Η,y]
  unfold stepG.exec;simp only[Η,K,if_true];simp only[Η] at A;unfold stepG.oper;simp only[A];rcases hd with hd|hd
  .simp only[hd];rw[<-M5 b t (.inRegion ops (i::rest)::k)];rfl
  .cases O:b.roundOf with
   | none=>rw[<-M5 b t (.inRegion ops (i::rest)::k)];rfl
   | some l=>
    cases L:o.op<;>first|exact absurd L (hd _)|(simp only;rw[<-M5 b t (.inRegion ops (i::rest)::k)];rfl)
 rw[J];generalize g:(if(Η b t (.inRegion ops (i::rest)::k)).kind==.early then #[] else es')=j;have p:∀e∈seen P b.fn j,e∈es':=λe A=>by
  have:=mem_seen A;rw[<-g] at this;split at this
  .simp at this
  .exact this
 have B:∀v,(Η b t (.inRegion ops (i::rest)::k)).finish v=Η b (put o t v) (.inRegion ops rest::k):=λv=>Wr y;rcases I with⟨M,m,a⟩|⟨v,m,N⟩
 .cases M<;>first|exact a.elim|skip
  case value v=>exact⟨_,_,w',seen P b.fn j,H',by unfold stepG.apply;simp only[m,if_true];rw[g,B];simp[GStep.after,Go.Conc.G,Η],n.sub p,a⟩
  case skip=>exact⟨_,_,w',seen P b.fn j,H',by unfold stepG.apply;simp only[m,if_true];rw[g,B];simp[GStep.after,Go.Conc.G,Η],n.sub p,a⟩
  case enter f args=>exact⟨_,_,w',seen P b.fn j,H',by unfold stepG.apply;simp only[m,if_true];rw[g];simp[GStep.after,Go.Conc.G,Η],n.sub p,a⟩
  case round l f R S T=>exact⟨_,_,w',seen P b.fn j,H',by unfold stepG.apply;simp only[m,if_true];rw[g];simp[GStep.after,Go.Conc.G,Η],n.sub p,a⟩
  case defer d=>exact⟨_,_,w',seen P b.fn j,H',by unfold stepG.apply;simp only[m,if_true];rw[g];simp[GStep.after,Go.Conc.G,Frame.finish,Η,put,y];cases o.dst<;>rfl,n.sub p,a⟩
  case recover=>
   obtain⟨u,a⟩:=a;cases s:tryRecover (Η b t (.inRegion ops (i::rest)::k)) cs with
   | none=>
    rw[s] at a;exact⟨_,_,w',seen P b.fn j,H',by unfold stepG.apply;simp only[m,if_true];rw[g,B];simp only[Η] at s ⊢;simp only[u];rw[u] at s;rw[s];simp[GStep.after,Go.Conc.G],n.sub p,a⟩
   | some r=>
    obtain⟨v,cs'⟩:=r;rw[s] at a;exact⟨_,_,w',seen P b.fn j,H',by unfold stepG.apply;simp only[m,if_true];rw[g];simp only[Η] at s ⊢;simp only[u];rw[u] at s;rw[s];simp[GStep.after,Go.Conc.G];(have e:=B v;simp only[Η,u] at e;exact e),n.sub p,a⟩
 .exact⟨_,_,w',seen P b.fn j,H',by unfold stepG.apply;simp only[m,if_true];rw[g];simp[GStep.after,Go.Conc.G,Frame.raise,Η,C],n.sub p,N⟩
end
section
variable {P:Program} {Q:Value->Prop} {mn:Bool} {x:W'} {cs rest:List Frame} {H:Ψ} {b f c:Frame} {t:Array Value} {k:List Item} {fn:Func}
theorem Oo (a:f.mode≠.run) (w:World):stepG P mn (Go.Conc.G f cs) w=unwind P mn f cs none w:=by
 obtain⟨c,d,e,g,b,h,i⟩:=f;cases b with
 | run=>exact absurd rfl a
 | returning=>rfl
 | panicking j=>rfl
theorem ξ.back (g:Seq x) (b:f.mode=.returning) (hd:f.defers=[]) (a:f.kind=.normal\/f.kind=.wrapped) (i:P.funcs[f.fn]?=some fn)
  (h:Ω P (results fn f.tmps) H (λv H'=>ξ P Q mn x (c.finish v) rest H') (λ_ _=>False)):ξ P Q mn x f (c::rest) H:=by
 refine .own g λw j=>?_;obtain⟨H',w',es',k,l⟩:=Ω.sound (P:=P) (G0:=H) (w0:=w) (results fn f.tmps) h (YA.start j);rcases l with⟨v,d,m⟩|⟨v,d,n⟩
 .refine⟨_,_,w',seen P f.fn es',H',?_,k.sub λe o=>mem_seen o,m⟩;rw[Oo (by rw[b];simp)];unfold unwind;simp only[hd,b,i,d];unfold doReturn;rcases a with a|a<;>simp[a,GStep.after,Go.Conc.G]
 .exact n.elim
theorem ξ.Ji (d:Seq x) (a:f.mode=.returning) (hd:f.defers=[]) (g:f.kind=.deferred) (i:P.funcs[f.fn]?=some fn)
  (h:Ω P (results fn f.tmps) H (λ_ H'=>ξ P Q mn x (match c.mode with
   | .panicking ({recovered:=true,..}::j)=>(match j.dropWhile (!·.goexit) with|[]=>{c with mode:=.returning}|r=>{c with mode:=.panicking r})
   | _=>c) rest H') (λ_ _=>False)):ξ P Q mn x f (c::rest) H:=by
 refine .own d λw k=>?_;obtain⟨H',w',es',l,m⟩:=Ω.sound (P:=P) (G0:=H) (w0:=w) (results fn f.tmps) h (YA.start k);rcases m with⟨v,b,n⟩|⟨v,b,o⟩
 .refine⟨_,_,w',seen P f.fn es',H',?_,l.sub λe p=>mem_seen p,n⟩;rw[Oo (by rw[a];simp)];unfold unwind;simp only[hd,a,i,b];unfold doReturn;simp only[g,GStep.after];rw[PC];rfl
 .exact o.elim
theorem ξ.deferred (m:Seq x) (n:f.mode≠.run) {d:Deferred} {ds:List Deferred} (hd:f.defers=d::ds) (k:∀r,d.target≠.collected r) (e:d.target≠.nil) {g:FuncId} {args:Array Value}
  (l:∀w,(invoke d.target d.args).runT P w #[]=(.ok (.enter g args) w,#[])) (h:ξ P Q mn x (Frame.enter P g args .deferred) ({f with defers:=ds}::cs) H):ξ P Q mn x f cs H:=by
 refine .still m (λw=>?_) h;rw[Oo n];unfold unwind;obtain⟨i,as9⟩:=d;simp only at k e l;have j:callDeferred P {f with defers:=ds} cs none ⟨i,as9⟩ w=.go (Go.Conc.G (Frame.enter P g args .deferred) ({f with defers:=ds}::cs)) w #[]:=by
  unfold callDeferred;simp only[l w];cases i<;>first|exact absurd rfl e|(simp[GStep.after,seen,Go.Conc.G])
 cases i with
 | collected r=>exact absurd rfl (k r)
 | fn a b=>simp only[hd];exact j
 | nil=>exact absurd rfl e
 | builtin a b c d=>simp only[hd];exact j
 | coroexit c=>simp only[hd];exact j
theorem ξ.raised (d:Seq x) {a:List PanicEntry} (b:f.mode=.panicking a) (hd:f.defers=[]) (e:f.catches P=false) (h:ξ P Q mn x (c.raise a) rest H):ξ P Q mn x f (c::rest) H:=by
 refine .still d (λw=>?_) h;rw[Oo (by rw[b];simp)];unfold unwind;simp only[hd,b,e];rfl
theorem ξ.done (d:Seq x) (g:∀y,x y->∀s,Xy (y.tok s)) (h:∀y,x y->y.deaf=0) (c:f.mode=.returning) (hd:f.defers=[]) (i:f.kind=.normal) (j:P.funcs[f.fn]?=some fn) (k:P.inits.idxOf? f.fn=none) {v:Value}
  (a:results fn f.tmps=pure v) (l:Q v):ξ P Q true x f [] H:=by
 intro y b;refine Goes.stop (λa=>by rw[show({y with G:=H}:γ).rel=y.rel from rfl,d.rel y b] at a;cases a) (.inl ⟨rfl,⟨rfl,rfl⟩,g y b,h y b,λw n=>⟨v,#[],?_,λe m=>by simp at m,l⟩⟩);rw[Oo (by rw[c];simp)];unfold unwind;simp only[hd,c,j,a];have:(pure v:Sem Value).runT P w #[]=(.ok v w,#[]):=rfl;simp only[this];unfold doReturn;simp[i,GStep.after,seen,k]
end
end Go.TL
namespace Go.TL
open Go.Conc
inductive I where
 | z (v:Value)
 | Ε (cells:List I)
 | sl (ex:Bool) (k:Nat) (l:List I)
 | Z9 (l:List I)
 | ZP (l:List I)
 | Ο (id n i j:Nat)
 | ms (id n i len:Nat)
 | fn (f:Fn) (first captured:List I)
 | XG (t:TypeId) (a:I)
 | mp (id:Nat)
 | it (id:Nat)
 | Zw
 deriving Inhabited
abbrev ψ:=List I
def I.cells:I->ψ
 | .Z9 l=>l
 | a=>[a]
inductive Row where
 | cells (t:TypeId) (k:Nat) (l:ψ)
 | map (es:List (I×I))
 | iter (m:Nat) (left:List (I×I)) (a:Option (I×I))
 | dead
 deriving Inhabited
abbrev Υ:=List Row
def Row.W0 (r:Row) (n:Nat):Prop:=match r with|.cells _ _ l=>n<l.length|_=>True
abbrev θ:=List (Option (Nat×Nat))
abbrev Α:=Nat->Nat->Option Value
inductive Θ (S:Α) (B:θ) (σ:Υ):I->Value->Prop where
 | z (v:Value):Θ S B σ (.z v) v
 | Ε {cells:ψ} (b o:Nat) (w:Nat->Value):(∀(j:Nat) (a:I),cells[j]?=some a->S b (o+j)=some (w j))->(∀(j:Nat) (a:I),cells[j]?=some a->Θ S B σ a (w j))->Θ S B σ (.Ε cells) (.pointer (some ⟨b,o,none⟩))
 | WB {ex:Bool} {k:Nat} (base:Option Addr) (cap:Nat):(ex=true->cap=0)->Θ S B σ (.sl ex k []) (.slice base 0 cap)
 | sl {ex:Bool} {k:Nat} {l:ψ} (b o cap:Nat) (w:Nat->Nat->Value):(ex=true->cap=l.length)->l.length<=cap->(∀(i:Nat) (e:I),l[i]?=some e->e.cells.length=k)->
   (∀(i:Nat) (e:I),l[i]?=some e->∀(j:Nat) (c:I),e.cells[j]?=some c->S b (o+i*k+j)=some (w i j))->(∀(i:Nat) (e:I),l[i]?=some e->∀(j:Nat) (c:I),e.cells[j]?=some c->Θ S B σ c (w i j))->Θ S B σ (.sl ex k l) (.slice (some ⟨b,o,none⟩) l.length cap)
 | Z9 {l:ψ} (vs:Array Value):l.length=vs.size->(∀(i:Nat) (a:I) (v:Value),l[i]?=some a->vs[i]?=some v->Θ S B σ a v)->Θ S B σ (.Z9 l) (.agg vs)
 | ZP {l:ψ} (vs:Array Value):l.length=vs.size->(∀(i:Nat) (a:I) (v:Value),l[i]?=some a->vs[i]?=some v->Θ S B σ a v)->Θ S B σ (.ZP l) (.tuple vs)
 | Ο {id n i j k:Nat} {t:TypeId} {l:ψ} {b N:Nat}:σ[id]?=some (.cells t k l)->l.length=n->B[id]?=some (some (b,N))->Θ S B σ (.Ο id n i j) (.pointer (some ⟨b,i*k+j,none⟩))
 | VQ {id n i j:Nat} {r:Row} (v:Value):σ[id]?=some r->r.W0 n->Θ S B σ (.Ο id n i j) v
 | ms {id n i len:Nat} {t:TypeId} {k:Nat} {l:ψ} {bo:Option (Nat×Nat)} {base:Option Addr} (cap:Nat):σ[id]?=some (.cells t k l)->l.length=n->B[id]?=some bo->i+len<=n->len<=cap->
   (cap=0\/∃b N,bo=some (b,N)/\base=some ⟨b,i*k,none⟩/\(i+cap)*k<=N)->Θ S B σ (.ms id n i len) (.slice base len cap)
 | V3 {id n i len:Nat} {r:Row} (v:Value):σ[id]?=some r->r.W0 n->Θ S B σ (.ms id n i len) v
 | fn {f:Fn} {d cs:ψ} (vs g:Array Value):d.length=vs.size->cs.length=g.size->(∀(i:Nat) (a:I) (v:Value),d[i]?=some a->vs[i]?=some v->Θ S B σ a v)->(∀(i:Nat) (a:I) (v:Value),cs[i]?=some a->g[i]?=some v->Θ S B σ a v)->Θ S B σ (.fn f d cs) (.func f vs g)
 | XG {t:TypeId} {a:I} (v:Value):Θ S B σ a v->Θ S B σ (.XG t a) (.iface t v)
 | mp {id:Nat} {es:List (I×I)} {b N:Nat}:σ[id]?=some (.map es)->B[id]?=some (some (b,N))->Θ S B σ (.mp id) (.map (some b))
 | UO {id:Nat} (v:Value):σ[id]?=some .dead->Θ S B σ (.mp id) v
 | it {id m:Nat} {left:List (I×I)} {h:Option (I×I)} {b N:Nat}:σ[id]?=some (.iter m left h)->B[id]?=some (some (b,N))->Θ S B σ (.it id) (.pointer (some ⟨b,0,none⟩))
 | TO {id:Nat} (v:Value):σ[id]?=some .dead->Θ S B σ (.it id) v
 | Zw (v:Value):Θ S B σ .Zw v
def Row.to (r r':Row) (b a:Option (Option (Nat×Nat))):Prop:=
 match r with
 | .cells t k l=>(∃c,r'=.cells t k c/\c.length=l.length/\a=b)\/∀n,n<=l.length->r'.W0 n
 | .map _=>(∃es',r'=.map es'/\a=b)\/r'=.dead
 | .iter m _ _=>(∃d e,r'=.iter m d e/\a=b)\/r'=.dead
 | .dead=>r'=.dead
structure ZC (S a:Α) (B B':θ) (σ σ':Υ):Prop where
 YX:∀b o v,S b o=some v->a b o=some v
 rows:∀(id:Nat) (r:Row),σ[id]?=some r->∃r':Row,σ'[id]?=some r'/\r.to r' B[id]? B'[id]?
theorem Row.QW (r:Row) (b:Option (Option (Nat×Nat))):r.to r b b:=by
 cases r with
 | cells t k l=>exact .inl ⟨l,rfl,rfl,rfl⟩
 | map es=>exact .inl ⟨es,rfl,rfl⟩
 | iter m l c=>exact .inl ⟨l,c,rfl,rfl⟩
 | dead=>rfl
theorem ZC.refl (S:Α) (B:θ) (σ:Υ):ZC S S B B σ σ:=⟨λ_ _ _ h=>h,λ_ r h=>⟨r,h,r.QW _⟩⟩
theorem Row.Jh {r r':Row} {b d:Option (Option (Nat×Nat))} {n:Nat} (h:r.to r' b d) (a:r.W0 n):r'.W0 n:=by
 cases r with
 | cells t k l=>
  rcases h with⟨e,rfl,f,_⟩|h
  .simp only[Row.W0] at a ⊢;omega
  .exact h n (St a)
 | map es=>rcases h with⟨es',rfl,_⟩|rfl<;>trivial
 | iter m l c=>rcases h with⟨e,c',rfl,_⟩|rfl<;>trivial
 | dead=>cases h;trivial
theorem Row.Cq {r r' a:Row} {b d f:Option (Option (Nat×Nat))} (h:r.to r' b d) (k:r'.to a d f):r.to a b f:=by
 cases r with
 | cells t e l=>
  rcases h with⟨i,rfl,j,rfl⟩|h
  .rcases k with⟨o,rfl,p,rfl⟩|k
   .exact .inl ⟨o,rfl,p.trans j,rfl⟩
   .exact .inr λn g=>k n U
  .exact .inr λn g=>Row.Jh k (h n g)
 | map es=>
  rcases h with⟨es',rfl,rfl⟩|rfl
  .exact k
  .cases k;exact .inr rfl
 | iter m l c=>
  rcases h with⟨i,c',rfl,rfl⟩|rfl
  .exact k
  .cases k;exact .inr rfl
 | dead=>cases h;exact k
theorem ZC.trans {S a c:Α} {B B' d:θ} {σ σ' e:Υ} (h:ZC S a B B' σ σ') (k:ZC a c B' d σ' e):ZC S c B d σ e:=
 ⟨λb o v x=>k.YX b o v (h.YX b o v x),λid r f=>by
  obtain⟨r',g,i⟩:=h.rows id r f;obtain⟨j,l,m⟩:=k.rows id r' g;exact⟨j,l,Row.Cq i m⟩⟩
theorem Θ.later {S t:Α} {B B':θ} {σ σ':Υ} (k:ZC S t B B' σ σ') {a:I} {v:Value} (h:Θ S B σ a v):Θ t B' σ' a v:=by
 induction h with
 | z v=>exact .z v
 | Ε b o w d _ l=>exact .Ε b o w (λj a p=>k.YX _ _ _ (d j a p)) l
 | WB base cap h=>exact .WB base cap h
 | sl b o cap w d g n r _ l=>exact .sl b o cap w d g n (λi e hi j c p=>k.YX _ _ _ (r i e hi j c p)) l
 | Z9 vs d _ l=>exact .Z9 vs d l
 | ZP vs d _ l=>exact .ZP vs d l
 | Ο d g n=>
  obtain⟨r',f,Χ⟩:=k.rows _ _ d;rcases Χ with⟨u,rfl,s,m⟩|Χ
  .exact .Ο f (s.trans g) (by rw[m];exact n)
  .exact .VQ _ f (Χ _ U)
 | VQ v d g=>
  obtain⟨r',f,Χ⟩:=k.rows _ _ d;exact .VQ _ f (Row.Jh Χ g)
 | ms cap d g n r x y=>
  obtain⟨r',f,Χ⟩:=k.rows _ _ d;rcases Χ with⟨u,rfl,s,m⟩|Χ
  .exact .ms cap f (s.trans g) (by rw[m];exact n) r x y
  .exact .V3 _ f (Χ _ U)
 | V3 v d g=>
  obtain⟨r',f,Χ⟩:=k.rows _ _ d;exact .V3 _ f (Row.Jh Χ g)
 | fn vs A d g _ _ C D=>exact .fn vs A d g C D
 | XG v _ l=>exact .XG v l
 | mp d g=>
  obtain⟨r',f,Χ⟩:=k.rows _ _ d;rcases Χ with⟨es',rfl,m⟩|rfl
  .exact .mp f (by rw[m];exact g)
  .exact .UO _ f
 | UO v d=>
  obtain⟨r',f,Χ⟩:=k.rows _ _ d;cases Χ;exact .UO _ f
 | it d g=>
  obtain⟨r',f,Χ⟩:=k.rows _ _ d;rcases Χ with⟨u,c',rfl,m⟩|rfl
  .exact .it f (by rw[m];exact g)
  .exact .TO _ f
 | TO v d=>
  obtain⟨r',f,Χ⟩:=k.rows _ _ d;cases Χ;exact .TO _ f
 | Zw v=>exact .Zw v
end Go.TL
