import Derived.Test.YtlabjopijpkiaaaGreatJAC
set_option maxHeartbeats 16000000
set_option maxRecDepth 20000
set_option linter.unusedSectionVars false
set_option linter.unusedSimpArgs false
set_option linter.unusedVariables false
namespace Go.TL
open Go.Conc
open Go.ConcM (OsLater)
open Go.ConcN (sumTo upd sumTo_upd upd_ne upd_same sumTo_congr le_sumTo)
section
variable {P:Program} {Q:Value->Prop} {ZC:World} {c c':YQ} {gs:Array Goroutine} {w w':World} {t:Trace} {i:Nat} {g g':Goroutine} {es:Array Event}
variable {f:Bool×Goroutine×ZZ->W7 (Bool×Goroutine×ZZ)}
theorem Inv.parent (h:Inv P Q ZC c gs w t) {s:Nat} {o:ε} (g:c.O s=some o):c.Zs s<gs.size/\∃q p b,c.tok (c.Zs s) s=.par q p b:=by
 obtain⟨e,i,f⟩:=Kh (φ:=XP) (N:=gs.size) (τ:=λa=>c.tok a s) (by rw[(h.Za.Z0 s o g).2.SR];exact Nat.one_pos);have j:∃q p b,c.tok e s=.par q p b:=by
  cases d:c.tok e s with
  | par q p b=>exact⟨q,p,b,rfl⟩
  | nil=>simp[d,XP] at f
  | ch=>simp[d,XP] at f
 obtain⟨q,p,b,d⟩:=j;have k:=h.Za.par e _ q p b d;subst k;exact⟨i,q,p,b,d⟩
theorem Inv.Ht (h:Inv P Q ZC c gs w t) (aw:gs[i]?=some g) (aQ:EP P (i==0) (Uh P Q f) g (c.x i)):V6 P Q ZC c gs w t i f:=by
 obtain⟨s,sp,k,K,g',E,aR,ax,aE,aS,ay,bl,aT,aU,ak,aV,aW⟩:=aQ;have aX:i<gs.size:=TR aw;obtain⟨o,d,aY⟩:=h.Za.QZ i s sp aR;subst aY;have W:c.tok i s=.ch k K .work:=ax;have hd:c.deaf i=0:=ay;have bm:c.rel i=false:=aT;have aF:∀aG,aG≠s->W9 (c.tok i aG):=aS;have aZ:=aU w (h.mem.fit (.inl i));obtain⟨bn,al,bo⟩:=h.Za.Sj i s k K .work W;have aH:=h.Za.EB d W I;let y:MemOp:={g:=i,fn:=g.frame.fn,pos:=g.frame.place,act:=MemAct.ofEvent (Go.ConcR.mk (Mark.releaseMerge ⟨s,0,none⟩))};have a0:y.act=.mark (.releaseMerge ⟨s,0,none⟩):=rfl;have am:(t++#[y])[t.size]?=some y:=I;have a1:(t++#[y]).heard t.size:=⟨i,by simp[Trace.g?,y],by rw[deaf_old (γ _)];exact(h.Zu.hears i).trans hd⟩;let o':ε:={o with R:=k::o.R};let an:ZZ:={c.x i with G:=Χ.empty,Z3:=λ_=>none,tok:=upd (c.tok i) s (.ch k K .rel),view:=upd (c.view i) s none,rel:=true};let c':YQ:={c with H:=Zz (Zz c.H (.inl i) Χ.empty) (.inr s) (join E (c.H (.inr s))),Z3:=upd c.Z3 i λ_=>none,tok:=Zp c.tok i s (.ch k K .rel),view:=upd c.view i (upd (c.view i) s none),O:=upd c.O s (some o'),rel:=upd c.rel i true,XM:=upd c.XM i t.size,T:=upd c.T i (f (i==0,g',an))};have ab:TS c.O (upd c.O s (some o')):=TS.upd d rfl;have ZP:=J7 (b:=.ch k K .rel) W I I;have az:=L8 (b:=.ch k K .rel) W I;have ad:X9 s o.toSpec s:=.inl rfl;have ao:∀j b v,upd c.Z3 i (λ_=>none) j b=some v->c.Z3 j b=some v:=λj b v hv=>by
  by_cases e:j=i
  .subst e;rw[upd_same] at hv;cases hv
  .rw[upd_ne _ _ e] at hv;exact hv
 have aI:=h.hold.apart (.inl i) (.inr s) I
 have a2:Sub (join E (c.H (.inr s))) (join (c.H (.inl i)) (c.H (.inr s))):=Sub.both (Sub.QW ak) (Sub.zL (h.mem.fit _) (h.mem.fit _) aI)
 have aJ:∀j r C L g,c.tok j r=.ch C (.YJ L) g->Zp c.tok i s (.ch k K .rel) j r=.ch C (.YJ L) g:=λj r C L g n=>by
  rw[XL _ (λe=>?_)]
  .exact n
  .obtain⟨rfl,rfl⟩:=e;rw[W] at n;rcases aE with rfl|⟨rfl,_⟩<;>cases n
 have bp:∀j,j≠i->∀r,Zp c.tok i s (.ch k K .rel) j r=c.tok j r:=λj n r=>XL _ λe=>n e.1;refine V6.go (c':=c') aw aZ ?_ _ rfl;rw[ofEvents_one];have a3:c'.x i=an:=by
  have:(Sum.inl i:Y5)≠.inr s:=I;simp[c',an,YQ.x,upd_same,On,Zy _ _ this]
 have a4:Ou gs.size c'.tok c'.rel c'.Zs c'.home c'.XM (t++#[y]):=by
  refine⟨λC g' ae=>?_,λj M n=>?_,λj M n Y=>?_,λj M n aK aL=>?_⟩
  .obtain⟨l,m,aa⟩:=Ts.1 ae;rcases getElem?_append_cases m with⟨_,ap⟩|⟨_,Z⟩
   .exact h.Ye.QV C g' (by simp[Trace.g?,ap,aa])
   .simp at Z;subst Z;rw[<-aa];exact aX
  .by_cases e:j=i
   .subst e;have A:c'.XM j=t.size:=upd_same ..;rw[A];refine⟨y,am,rfl,by rw[a0];show _=MemAct.mark (.releaseMerge ⟨c.home j,0,none⟩);rw[al],a1,λC ae aq=>?_⟩;obtain⟨l,m,aa⟩:=Ts.1 ae;rcases getElem?_append_cases m with⟨af,ap⟩|⟨aA,Z⟩
    .exact .inr (hb_po af m am aa)
    .exact absurd aq (Nw (u:=#[y]) (λl m=>by simp at m;subst m;rfl) C aA)
   .have X:c.rel j=true:=by have:upd c.rel i true j=true:=n;rwa [upd_ne _ _ e] at this
    have A:c'.XM j=c.XM j:=upd_ne _ _ e;rw[A];obtain⟨l,ag,aB,a5,a6,a7⟩:=h.Ye.c1 j M X;have ah:=lt_size_of_getElem? ag;refine⟨l,by rw[getElem?_append_old ah];exact ag,aB,a5,(heard_old ah).2 a6,λC ae aq=>?_⟩;obtain⟨bq,m,aa⟩:=Ts.1 ae;rcases getElem?_append_cases m with⟨af,ap⟩|⟨aA,Z⟩
    .exact(a7 C (by simp[Trace.g?,ap,aa]) ((Ma af).1 aq)).app _
    .exact absurd aq (Nw (u:=#[y]) (λl m=>by simp at m;subst m;rfl) C aA)
  .obtain⟨q,p,F⟩:=Y;have B:c.tok (c.Zs (c.home j)) (c.home j)=.par q p .ZP:=(ZP _ _ q p).1 F;by_cases e:j=i
   .subst e;rw[al] at B;exact absurd B (aH _ q p)
   .have X:c.rel j=true:=by have:upd c.rel i true j=true:=n;rwa [upd_ne _ _ e] at this
    have A:c'.XM j=c.XM j:=upd_ne _ _ e;rw[A];exact(h.Ye.c2 j M X ⟨q,p,B⟩).app _
  .by_cases e:j=i
   .subst e;exfalso;have a8:c.Zs s≠0:=by rw[<-al];exact aK
    have N:c.Zs s≠j:=U
    have a9:c.rel (c.Zs s)=true:=by
     have:upd c.rel j true (c.Zs (c.home j))=true:=aL;rw[al,upd_ne _ _ N] at this;exact this
    obtain⟨_,q,p,ar,S⟩:=h.parent d;have ai:W9 (c.tok (c.Zs s) s):=by
     by_cases Φ:s=c.home (c.Zs s)
     .obtain⟨a',ba,bb,au⟩:=h.Za.Qb (c.Zs s) a8 U;rw[<-Φ,S] at au;cases au
     .exact h.Za.Si _ s a9 Φ
    rw[S] at ai;cases ar<;>first|exact ai.elim|exact aH _ _ _ S
   .have X:c.rel j=true:=by have:upd c.rel i true j=true:=n;rwa [upd_ne _ _ e] at this
    have A:c'.XM j=c.XM j:=upd_ne _ _ e;rw[A];by_cases Φ:c.Zs (c.home j)=i
    .have aC:c'.XM (c.Zs (c.home j))=t.size:=by rw[Φ];exact upd_same ..
     show Before _ _ (c'.XM (c.Zs (c.home j)));rw[aC];obtain⟨l,ag,_⟩:=h.Ye.c1 j M X;have bc:j<gs.size:=by
      obtain⟨l,ag,aB,_⟩:=h.Ye.c1 j M X;exact h.Ye.QV (c.XM j) j (by simp[Trace.g?,ag,aB])
     obtain⟨a',ba,bb,au⟩:=h.Za.Qb j M bc;obtain⟨br,bd⟩:=h.obj (i:=j) (s:=c.home j) (by rw[au];simp);obtain⟨_,q,p,ar,S⟩:=h.parent bd;rw[Φ] at S;have N:c.home j≠s:=λbe=>by rw[be,W] at S;cases S
     have ai:=aF _ N;rw[S] at ai;have bf:ar=.ZP:=by cases ar<;>first|exact ai.elim|rfl
     subst bf;have aM:=h.Ye.c2 j M X ⟨q,p,by rw[Φ];exact S⟩;rw[Φ] at aM;exact .inr (aM.hb_new (u:=#[y]) (γ _) am rfl)
    .have aC:c'.XM (c.Zs (c.home j))=c.XM (c.Zs (c.home j)):=upd_ne _ _ Φ
     show Before _ _ (c'.XM (c.Zs (c.home j)));rw[aC];refine(h.Ye.c3 j M X aK ?_).app _;have:upd c.rel i true (c.Zs (c.home j))=true:=aL
     rwa [upd_ne _ _ Φ] at this
 refine h.laid (c':=c') aw ((h.mem.two (Ov w) (Mb (ak.fits (h.mem.fit (.inl i))) (h.mem.fit _)) λr q F=>?_).Nu ao) ((h.hold.two I (Sub.empty _) a2 (Apart.Pr _).symm ab λx bg=>?_).Nu ao) ?_ (h.Za.zY d W aE aF) ⟨λr q J F V Y aN=>?_,λr q F Y=>?_⟩
  a4 ⟨λr q J F V p l ah aj=>?_,λj b v hv l m aj=>?_⟩
  ⟨g',?_,.inl rfl⟩ (λj n=>⟨?_,upd_ne _ _ n⟩) (.inr λj r q _ a b=>?_)
 .rcases UN d F with⟨rfl,rfl⟩|⟨_,B⟩
  .exact(h.mem.Xf r o d:At r o w)
  .exact h.mem.Xf _ _ B
 .rcases bg with e|e
  .cases e;exact⟨s,o,d,ad⟩
  .cases e
 .refine h.Zu.word (i:=i) rfl (.inr rfl) (h.low d ad) ab ao λa=>?_;by_cases Φ:a=.inr s
  .subst Φ;show YI _ _ (Zz _ _ _ _);rw[Yw];exact(((YI.release (h.Zu.perms (.inl i)) rfl rfl (by rw[h.Zu.hears];exact hd)).sub ak).mono λ_ x=>Kb ab.1 az x).join (h.Zu.Nv (.inr s) rfl ab az)
  .show YI _ _ (Zz _ _ _ _);rw[Zy _ _ Φ];by_cases A:a=.inl i
   .subst A;rw[Yw];exact YI.empty
   .rw[Zy _ _ A];exact h.Zu.Nv a rfl ab az
 .rcases UN d F with⟨rfl,rfl⟩|⟨e,B⟩
  .have N:(.inr J:Y5)≠.inr r:=λx=>by cases x;exact h.hold.RJ _ o _ d V rfl
   show o.XQ o.L (Zz (Zz c.H _ _) (.inr r) _ (.inr J));rw[Zy _ _ N,VG];exact h.X2.RH r o J d V (λj q p x=>Y j q p ((ZP j r q p).2 x)) λj k L g x=>aN j k L g (aJ _ _ _ _ _ x)
  .have N:(.inr J:Y5)≠.inr s:=λx=>e (h.hold.Uz r s q o J B d (.inr V) (by cases x;exact ad))
   show q.XQ q.L (Zz (Zz c.H _ _) (.inr s) _ (.inr J));rw[Zy _ _ N,VG];exact h.X2.RH r q J B V (λj q p x=>Y j q p ((ZP j r q p).2 x)) λj k L g x=>aN j k L g (aJ _ _ _ _ _ x)
 .rcases UN d F with⟨rfl,rfl⟩|⟨e,B⟩
  .show Ui o.D (k::o.R) (Zz (Zz c.H _ _) (.inr r) _ (.inr r));rw[Yw];exact⟨E,c.H (.inr r),aV,h.X2.Se r o d (λj q p x=>Y j q p ((ZP j r q p).2 x)),aI.sub ak (Sub.refl _),rfl⟩
  .have N:(.inr r:Y5)≠.inr s:=λx=>by cases x;exact e rfl
   show Ui q.D q.R (Zz (Zz c.H _ _) (.inr s) _ (.inr r));rw[Zy _ _ N,VG];exact h.X2.Se r q B (λj q p x=>Y j q p ((ZP j r q p).2 x))
 .rcases getElem?_append_cases ah with⟨af,bh⟩|⟨_,Z⟩
  .have aO:∀av,c.O r=some av->av.ZO=some J->(∃C aP g,Zp c.tok i s (.ch k K .rel) l.g r=.ch C aP g)/\(c'.rel l.g=true->Before (t++#[y]) p (c'.XM l.g)):=λav A Φ=>by
    obtain⟨⟨C,aP,g,ax⟩,ay⟩:=h.WC.Ot r av J A Φ p l bh aj;refine⟨L7 W (λ_ _ _ _=>⟨_,_,_,rfl⟩) _ _ _ _ _ ax,λbi=>?_⟩;by_cases e:l.g=i
    .have A:c'.XM l.g=t.size:=by rw[e];exact upd_same ..
     rw[A];exact .inr (hb_po af ah am e)
    .have A:c'.XM l.g=c.XM l.g:=upd_ne _ _ e
     have Φ:c.rel l.g=true:=by have:upd c.rel i true l.g=true:=bi;rwa [upd_ne _ _ e] at this
     rw[A];exact(ay Φ).app _
   rcases UN d F with⟨rfl,rfl⟩|⟨_,B⟩
   .exact aO o d V
   .exact aO q B V
  .simp at Z;subst Z;cases aj;exfalso;rcases UN d F with⟨rfl,rfl⟩|⟨e,B⟩
   .exact h.hold.RJ _ o _ d V rfl
   .exact e (h.hold.Uz r s q o s B d (.inr V) ad)
 .have aD:=ao j b v hv;rcases Ss.1 m with m|m
  .exact h.WC.Oq j b v aD l m aj
  .simp at m;subst m;cases aj;have:=(h.hold.UO s o s d ad).2.2 j;rw[this] at aD;cases aD
 .rw[a3];show Vg P Q (upd c.T i (f (i==0,g',an)) i) _ _ _;rw[upd_same];exact aW
 .have bj:(Sum.inl j:Y5)≠.inr s:=by simp
  have bk:(Sum.inl j:Y5)≠.inl i:=λe=>n (by cases e;rfl);simp[c',YQ.x,upd_ne _ _ n,P' _ n,Zy _ _ bj,Zy _ _ bk]
 .by_cases e:r=s
  .subst e;rw[d] at a;cases a;exact⟨o',upd_same ..,b⟩
  .exact⟨q,by show upd c.O s (some o') r=some q;rw[upd_ne _ _ e];exact a,b⟩
theorem Inv.J5 (h:Inv P Q ZC c gs w t) (an:gs[i]?=some g) (aa:EO P (i==0) (Uh P Q f) g (c.x i)):V6 P Q ZC c gs w t i f:=by
 obtain⟨s,sp,n,aw,g',aS,aT,ao,aU,bH,aV,aW,aX⟩:=aa;have aY:i<gs.size:=TR an;obtain⟨o,l,aZ⟩:=h.Za.QZ i s sp aS;subst aZ;have V:c.tok i s=.par n 0 aw:=aT;have hd:c.deaf i=0:=aU;have bI:c.rel i=false:=aV;have ab:=aW w (h.mem.fit (.inl i));have a0:=h.Za.par i s n 0 aw V;obtain⟨a1,a2,ax⟩:=h.Za.full l V ao;have ap:X9 s o.toSpec s:=.inl rfl;have ay:∀j q p,c.tok j s≠.par q p .ZP:=λj q p d=>by
  have e:=h.Za.par j s q p .ZP d;rw[<-a0] at e;subst e;rw[V] at d;rcases ao with rfl|rfl<;>cases d
 let y:MemOp:={g:=i,fn:=g.frame.fn,pos:=g.frame.place,act:=MemAct.ofEvent (Go.ConcR.mk (Mark.acquire ⟨s,0,none⟩))}
 have a3:y.act=.mark (.acquire ⟨s,0,none⟩):=rfl
 have az:Deaf t i=0:=by rw[h.Zu.hears];exact hd
 have af:TS c.O (upd c.O s (some o)):=TS.upd l rfl
 have aA:=L8 (b:=.par n 0 .ZP) V I
 have aB:∀j,(∃k m g,c.tok j s=.ch k m g)->j≠0/\c.home j=s/\c.rel j=true/\Knows (t++#[y]) i (c.XM j):=λj ⟨k,m,g,d⟩=>by
  obtain⟨K,N,_⟩:=h.Za.Sj j s k m g d;have ad:c.rel j=true:=(h.Za.RI j k m g K (by rw[N];exact d)).2 (by rw[ax j k m g d];simp);obtain⟨M,a4,aC,aD,a5,_⟩:=h.Ye.c1 j K ad;rw[N] at aD;exact⟨K,N,ad,Knows.marked a4 aD a5 h.Zu.norel rfl a3 az⟩
 have a6:=h.X2.Se s o l ay;obtain⟨J,S,a7,a8,a9,a',ba,bb,bc,bJ,aE,bd,be,bf⟩:∃(J:Y5->Χ) (S:Χ),Fits S w/\(o.ZO≠none->o.XQ o.L S)/\(o.ZO=none->S=Χ.empty)/\Apart (c.H (.inl i)) S/\Apart (c.H (.inr s)) S/\
   J (.inl i)=join (join (c.H (.inl i)) (c.H (.inr s))) S/\(∀j,j≠i->J (.inl j)=c.H (.inl j))/\(∀m,o.ZO=some m->J (.inr m)=Χ.empty)/\(∀b,b≠s->o.ZO≠some b->J (.inr b)=c.H (.inr b))/\
   VW J c.Z3 (upd c.O s (some o)) ZC.heap.size/\WE J c.Z3 (upd c.O s (some o)) ZC w/\∀a,YI (t++#[y]) (Vf (Zp c.tok i s (.par n 0 .ZP)) (upd c.O s (some o)) (t++#[y]) a) (J a):=by
  have aF:∀r q,upd c.O s (some o) r=some q->At r q w:=λr q C=>by
   rcases UN l C with⟨rfl,rfl⟩|⟨_,U⟩
   .exact h.mem.Xf _ _ l
   .exact h.mem.Xf _ _ U
  have aG:YI (t++#[y]) (Knows (t++#[y]) i) (join (c.H (.inl i)) (c.H (.inr s))):=
   ((h.Zu.perms (.inl i)).own (λM E=>by simp at E;subst E;rfl)).join ((h.Zu.perms (.inr s)).acquire h.Zu.norel l ap (by rw[V];simp) rfl rfl az)
  have aH:VW (Zz (Zz c.H (.inl i) (join (c.H (.inl i)) (c.H (.inr s)))) (.inr s) Χ.empty) c.Z3 (upd c.O s (some o)) ZC.heap.size:=
   h.hold.two I (Sub.refl _) (Sub.empty _) (Apart.Pr _) af λx aq=>by
    rcases aq with e|e
    .cases e;exact⟨s,o,l,ap⟩
    .cases e
  have aI:WE (Zz (Zz c.H (.inl i) (join (c.H (.inl i)) (c.H (.inr s)))) (.inr s) Χ.empty) c.Z3 (upd c.O s (some o)) ZC w:=h.mem.two (Mb (h.mem.fit _) (h.mem.fit _)) (Ov w) aF
  have aJ:(Sum.inl i:Y5)≠.inr s:=I;cases ag:o.ZO with
  | none=>
   refine⟨Zz (Zz c.H (.inl i) (join (c.H (.inl i)) (c.H (.inr s)))) (.inr s) Χ.empty,Χ.empty,Ov w,λx=>absurd rfl x,λ_=>rfl,Apart.Pr _,Apart.Pr _,?_,λj d=>?_,λm ah=>(by cases ah),λb hb _=>?_,aH,aI,λa=>?_⟩
   .rw[Zy _ _ aJ,Yw,Hv]
   .have W:(Sum.inl j:Y5)≠.inl i:=λe=>d (by cases e;rfl);rw[Zy _ _ I,Zy _ _ W]
   .have W:(Sum.inr b:Y5)≠.inr s:=λe=>hb (by cases e;rfl);rw[Zy _ _ W,VG]
   .by_cases Φ:a=.inr s
    .subst Φ;rw[Yw];exact YI.empty
    .rw[Zy _ _ Φ];by_cases F:a=.inl i
     .subst F;rw[Yw];exact aG
     .rw[Zy _ _ F];exact h.Zu.Nv a rfl af aA
  | some m=>
   have ah:X9 s o.toSpec m:=.inr ag
   have bg:m≠s:=h.hold.RJ s o m l ag
   have aK:(Sum.inr m:Y5)≠.inr s:=λe=>bg (by cases e;rfl)
   have aL:(Sum.inl i:Y5)≠.inr m:=I
   have bh:∀j k L g,c.tok j s≠.ch k (.YJ L) g:=λj k L g d=>by
    rcases h.Za.Sg j s k _ g o l d (by rw[ax j k _ g d];simp) with e|⟨e,_⟩<;>cases e
   have bi:=h.X2.RH s o m l ag ay bh
   have bj:Apart (c.H (.inr s)) (c.H (.inr m)):=h.hold.apart _ _ (YR aK)
   have bk:Apart (c.H (.inl i)) (c.H (.inr m)):=h.hold.apart _ _ aL
   have bl:Zz (Zz c.H (.inl i) (join (c.H (.inl i)) (c.H (.inr s)))) (.inr s) Χ.empty (.inl i)=join (c.H (.inl i)) (c.H (.inr s)):=by rw[Zy _ _ aJ,Yw]
   have bm:Zz (Zz c.H (.inl i) (join (c.H (.inl i)) (c.H (.inr s)))) (.inr s) Χ.empty (.inr m)=c.H (.inr m):=by rw[Zy _ _ aK,VG]
   have bn:=aH.two (a:=.inl i) (b:=.inr m) (A:=join (join (c.H (.inl i)) (c.H (.inr s))) (c.H (.inr m))) (B:=Χ.empty) (O':=upd c.O s (some o)) I (by rw[bl,bm];exact Sub.refl _) (Sub.empty _) (Apart.Pr _) ⟨λs o' ab=>⟨o',ab,rfl⟩,λs o' ab=>⟨o',ab,rfl⟩⟩ λx aq=>by
    rcases aq with e|e
    .cases e;exact⟨s,o,upd_same ..,ah⟩
    .cases e
   have bo:=aI.two (a:=.inl i) (b:=.inr m) (A:=join (join (c.H (.inl i)) (c.H (.inr s))) (c.H (.inr m))) (B:=Χ.empty) (O':=upd c.O s (some o)) (Mb (Mb (h.mem.fit _) (h.mem.fit _)) (h.mem.fit _)) (Ov w) aF;refine⟨_,c.H (.inr m),h.mem.fit _,λ_=>bi,λx=>(by cases x),bk,bj,?_,λj d=>?_,λae ai=>?_,λb hb bp=>?_,bn,bo,λa=>?_⟩
   .rw[Zy _ _ aL,Yw]
   .have W:(Sum.inl j:Y5)≠.inl i:=λe=>d (by cases e;rfl);rw[Zy _ _ I,Zy _ _ W,Zy _ _ I,Zy _ _ W]
   .cases ai;rw[Yw]
   .have W:(Sum.inr b:Y5)≠.inr s:=λe=>hb (by cases e;rfl)
    have bq:(Sum.inr b:Y5)≠.inr m:=λe=>bp (by cases e;rfl);rw[Zy _ _ bq,VG,Zy _ _ W,VG]
   .by_cases aM:a=.inr m
    .subst aM;rw[Yw];exact YI.empty
    .rw[Zy _ _ aM];by_cases F:a=.inl i
     .subst F;rw[Yw];refine aG.join ((h.Zu.perms (.inr m)).Tj rfl λk aa=>?_);rcases aa with⟨p,M,K,N,ad,aj⟩|aa
      .obtain⟨br,aC⟩:=h.WC.Ot s o m l ag p M K N;obtain⟨_,_,bs,bt⟩:=aB M.g br;have hb:=(aC bs).app #[y];refine Knows.of_before ?_ bt;rcases hb with e|hb
       .rw[<-e];exact aj.app _
       .exact .inr ((aj.app #[y]).hb hb)
      .exact(aa s o l ah i (by rw[V];simp)).app _
     .rw[Zy _ _ F];by_cases Φ:a=.inr s
      .subst Φ;rw[Yw];exact YI.empty
      .rw[Zy _ _ Φ,Zy _ _ F];exact h.Zu.Nv a rfl af aA
 have bu:Apart (c.H (.inl i)) (c.H (.inr s)):=h.hold.apart _ _ I
 have bv:=aX o.R o.L (c.H (.inr s)) S a1 a6 (λx=>⟨a2 x,a8 x⟩) a9 bu a' ba ⟨w,h.mem.fit _,h.mem.fit _,a7⟩
 let ak:ZZ:={c.x i with G:=join (join (c.H (.inl i)) (c.H (.inr s))) S,tok:=upd (c.tok i) s (.par n 0 .ZP),view:=upd (c.view i) s none}
 let c':YQ:={c with H:=J,tok:=Zp c.tok i s (.par n 0 .ZP),view:=upd c.view i (upd (c.view i) s none),O:=upd c.O s (some o),T:=upd c.T i (f (i==0,g',ak))}
 have bw:c'.x i=ak:=by simp[c',ak,YQ.x,upd_same,On,bb]
 have al:∀j r,¬(j=i/\r=s)->Zp c.tok i s (.par n 0 .ZP) j r=c.tok j r:=λj r e=>XL _ e
 have aN:∀r q b,c.O r=some q->r≠s->X9 r q.toSpec b->b≠s/\o.ZO≠some b:=λr q b C aO hb=>⟨λe=>aO (h.hold.Uz r s q o b C l hb (.inl e)),λe=>aO (h.hold.Uz r s q o b C l hb (.inr e))⟩;refine V6.go (c':=c') an ab ?_ _ rfl;rw[ofEvents_one];refine h.laid (c':=c') an be bd (h.Zu.word (i:=i) rfl (.inl rfl) (h.low l ap) af (λ_ _ _ x=>x) bf) (h.Za.gtake l V ao) ⟨λr q ae C ai X bx=>?_,λr q C X=>?_⟩ ?_
  (h.WC.app h.Zu.low (λM E b hb=>by simp at E;subst E;cases hb) (λj b v hv=>.inl ⟨v,hv⟩) (λr q C=>?_) (λj r Z bz g e=>L7 V (λk m g e=>?_) j r Z bz g e))
  ⟨g',?_,.inl rfl⟩ (λj d=>⟨?_,upd_ne _ _ d⟩) (.inr λj r q _ a b=>?_)
 .rcases UN l C with⟨rfl,rfl⟩|⟨e,U⟩
  .exact absurd (XE ..) (X i n 0)
  .obtain⟨F,Φ⟩:=aN r q ae U e (.inr ai);show q.XQ q.L (J (.inr ae));rw[aE ae F Φ];exact h.X2.RH r q ae U ai (λj q p x=>X j q p (by show Zp c.tok i s _ j r=_;rw[al j r (λy=>e y.2)];exact x)) λj k L g x=>bx j k L g (by show Zp c.tok i s _ j r=_;rw[al j r (λy=>e y.2)];exact x)
 .rcases UN l C with⟨rfl,rfl⟩|⟨e,U⟩
  .exact absurd (XE ..) (X i n 0)
  .obtain⟨F,Φ⟩:=aN r q r U e (.inl rfl);show Ui q.D q.R (J (.inr r));rw[aE r F Φ];exact h.X2.Se r q U (λj q p x=>X j q p (by show Zp c.tok i s _ j r=_;rw[al j r (λy=>e y.2)];exact x))
 .refine⟨λZ g' ar=>?_,λj Y d=>?_,λj Y d X=>?_,λj Y d a b=>(h.Ye.c3 j Y d a b).app _⟩
  .obtain⟨M,E,am⟩:=Ts.1 ar;rcases getElem?_append_cases E with⟨_,au⟩|⟨_,av⟩
   .exact h.Ye.QV Z g' (by simp[Trace.g?,au,am])
   .simp at av;subst av;rw[<-am];exact aY
  .obtain⟨M,K,N,ad,aj,bA⟩:=h.Ye.c1 j Y d;have aP:=lt_size_of_getElem? K;refine⟨M,by rw[getElem?_append_old aP];exact K,N,ad,(heard_old aP).2 aj,λZ ar aQ=>?_⟩;obtain⟨bK,E,am⟩:=Ts.1 ar;rcases getElem?_append_cases E with⟨bB,au⟩|⟨bC,av⟩
   .exact(bA Z (by simp[Trace.g?,au,am]) ((Ma bB).1 aQ)).app _
   .exact absurd aQ (Nw (u:=#[y]) (λM E=>by simp at E;subst E;rfl) Z bC)
  .obtain⟨q,p,C⟩:=X;by_cases e:c.Zs (c.home j)=i/\c.home j=s
   .obtain⟨F,Φ⟩:=e;show Knows _ (c.Zs (c.home j)) (c.XM j);rw[F];have bD:j<gs.size:=by
     obtain⟨M,K,N,_⟩:=h.Ye.c1 j Y d;exact h.Ye.QV (c.XM j) j (by simp[Trace.g?,K,N])
    obtain⟨bE,bF,bG,aR⟩:=h.Za.Qb j Y bD;rw[Φ] at aR;exact(aB j ⟨bE,bF,bG,aR⟩).2.2.2
   .refine(h.Ye.c2 j Y d ⟨q,p,?_⟩).app _;have:Zp c.tok i s (.par n 0 .ZP) (c.Zs (c.home j)) (c.home j)=.par q p .ZP:=C
    rwa [al _ _ e] at this
 .rcases UN l C with⟨rfl,rfl⟩|⟨_,U⟩
  .exact⟨_,l,rfl⟩
  .exact⟨q,U,rfl⟩
 .cases e
 .rw[bw];show Vg P Q (upd c.T i (f (i==0,g',ak)) i) _ _ _;rw[upd_same];exact bv
 .simp[c',YQ.x,upd_ne _ _ d,P' _ d,bc j d]
 .exact⟨q,by show upd c.O s (some o) r=some q;rw[J' l];exact a,b⟩
end
section
variable {n:Nat} {tok:Nat->Nat->Tok} {spec:Nat->Nat->Option Spec} {view:Nat->Nat->Option (Nat×ε)} {rel:Nat->Bool} {O:Nat->Option ε} {Zs home:Nat->Nat} {s i:Nat} {o:ε}
theorem XT.fork (h:XT n tok spec view rel O Zs home) (H:O s=some o) {q p:Nat} (u:tok i s=.par q (p+1) .add) :
  XT (n+1) (upd (Zp tok i s (.par q p .add)) n (upd (λ_=>.nil) s (.ch (q-(p+1)) .idle .work))) (upd spec n (upd (λ_=>none) s (some o.toSpec))) (upd (upd view i (upd (view i) s none)) n λ_=>none) (upd rel n false) O Zs (upd home n s):=by
 have af:i<n:=h.lt (s:=s) (by rw[u];simp)
 have S:n≠i:=U
 have K:=h.par i s q (p+1) .add u
 have T:=(h.Z0 s o H).2
 have ap:p+1<=q:=by
  have E:ZQ n (λa=>tok a s) VY=q:=by
   rw[RK (φ:=VY) (λt u=>by cases t<;>simp_all [XP,VY]) T.SR af (by rw[u];rfl),u];rfl
  have Φ:ZQ n (λa=>tok a s) Wp=p+1:=by
   rw[RK (φ:=Wp) (λt u=>by cases t<;>simp_all [XP,Wp]) T.SR af (by rw[u];rfl),u];rfl
  have:=T.E3;omega
 generalize Q:upd (Zp tok i s (.par q p .add)) n (upd (λ_=>.nil) s (.ch (q-(p+1)) .idle .work))=y;have M:y n s=.ch (q-(p+1)) .idle .work:=by rw[<-Q,upd_same,upd_same]
 have V:∀r,r≠s->y n r=.nil:=λr l=>by rw[<-Q,upd_same,upd_ne _ _ l]
 have W:y i s=.par q p .add:=by rw[<-Q,upd_ne _ _ (YR S),XE]
 have to:∀j r,j≠n->¬(j=i/\r=s)->y j r=tok j r:=λj r C F=>by rw[<-Q,upd_ne _ _ C,XL _ F]
 have ag:∀j r,r≠s->y j r=tok j r:=λj r l=>by
  by_cases e:j=n
  .subst e;rw[V r l,h.out _ r (γ _)]
  .exact to j r e λx=>l x.2
 have ah:(λj=>y j s)=upd (upd (λj=>tok j s) i (.par q p .add)) n (.ch (q-(p+1)) .idle .work):=by
  funext j
  by_cases e:j=n
  .subst e;rw[M,upd_same]
  .rw[upd_ne _ _ e];by_cases d:j=i
   .subst d;rw[W,upd_same]
   .rw[upd_ne _ _ d,to j s e λx=>d x.1]
 have ai:∀r,r≠s->(λj=>y j r)=λj=>tok j r:=λr l=>funext λj=>ag j r l
 have I:∀r,(λj=>tok j r) n=.nil:=λr=>h.out n r (γ _)
 have D:∀j r k m g,y j r=.ch k m g->(j=n/\r=s/\k=q-(p+1)/\m=.idle/\g=.work)\/(j≠n/\¬(j=i/\r=s)/\tok j r=.ch k m g):=λj r k m g c=>by
  by_cases e:j=n
  .subst e;by_cases d:r=s
   .subst d;rw[M] at c;cases c;exact .inl ⟨rfl,rfl,rfl,rfl,rfl⟩
   .rw[V r d] at c;cases c
  .by_cases d:j=i/\r=s
   .obtain⟨rfl,rfl⟩:=d;rw[W] at c;cases c
   .rw[to j r e d] at c;exact .inr ⟨e,d,c⟩
 have X:∀j r m v A,y j r=.par m v A->(j=i/\r=s/\m=q/\v=p/\A=.add)\/(j≠n/\r≠s/\tok j r=.par m v A)\/(j≠n/\j≠i/\r=s/\tok j r=.par m v A):=λj r m v A c=>by
  by_cases e:j=n
  .subst e;by_cases d:r=s
   .subst d;rw[M] at c;cases c
   .rw[V r d] at c;cases c
  .by_cases d:j=i/\r=s
   .obtain⟨rfl,rfl⟩:=d;rw[W] at c;cases c;exact .inl ⟨rfl,rfl,rfl,rfl,rfl⟩
   .rw[to j r e d] at c;by_cases Φ:r=s
    .exact .inr (.inr ⟨e,λx=>d ⟨x,Φ⟩,Φ,c⟩)
    .exact .inr (.inl ⟨e,Φ,c⟩)
 have Y:∀j r k m g,tok j r=.ch k m g->j≠n/\y j r=.ch k m g:=λj r k m g c=>by
  have R:j≠n:=λe=>by rw[e,h.out n r (γ _)] at c;cases c
  refine⟨R,?_⟩;rw[to j r R λe=>?_]
  .exact c
  .obtain⟨rfl,rfl⟩:=e;rw[u] at c;cases c
 have aq:XZ (n+1) o (λj=>y j s)<XZ n o (λj=>tok j s):=by
  rw[ah,<-EW (N:=n) (τ:=λj=>tok j s) (I s)];exact z6 (N:=n+1) U U (YR S) u (I s) _
 refine⟨λr w l=>?_,λr l j=>?_,λj r c=>?_,λj r sp c=>?_,λj r φ P c=>?_,λj r k L g w Z c=>?_,λj r m v A c=>?_,λj r k m g c=>?_,λj aa c=>?_,λj k m g aa c=>?_,?_,λj r c l=>?_,λj r k m g w Z c aj=>?_,λr j ab k m g ad g' C F=>?_,λr j k m g w v A C F=>?_,λr w l=>?_,λr w l=>?_⟩
 .by_cases e:r=s
  .subst e;rw[H] at l;cases l;rw[ah];exact z7 (EX (h.Z0 r o H) (I r)) U U (YR S) u (I r) _
  .rw[ai r e];exact EX (h.Z0 r w l) (I r)
 .have e:r≠s:=λe=>by rw[e,H] at l;cases l
  rw[ag j r e];exact h.bare r l j
 .rw[to j r U (λx=>U)];exact h.out j r U
 .by_cases e:j=n
  .subst e;rw[upd_same] at c;by_cases d:r=s
   .subst d;rw[upd_same] at c;cases c;exact⟨o,H,rfl⟩
   .rw[upd_ne _ _ d] at c;cases c
  .rw[upd_ne _ _ e] at c;exact h.QZ j r sp c
 .have ak:∀j r φ P,view j r=some (φ,P)->∃J,O r=some J/\XZ (n+1) J (λa=>y a r)<=φ/\(XZ (n+1) J (λa=>y a r)=φ->J=P):=λj r φ P hv=>by
   obtain⟨J,C,F,f⟩:=h.Ox j r φ P hv;refine⟨J,C,?_⟩;by_cases e:r=s
   .subst e;rw[H] at C;cases C;exact⟨U,λx=>U⟩
   .rw[ai r e,EW (N:=n) (τ:=λj=>tok j r) (I r)];exact⟨F,f⟩
  by_cases e:j=n
  .subst e;rw[upd_same] at c;cases c
  .rw[upd_ne _ _ e] at c;by_cases d:j=i
   .subst d;rw[upd_same] at c;by_cases Φ:r=s
    .subst Φ;rw[upd_same] at c;cases c
    .rw[upd_ne _ _ Φ] at c;exact ak _ _ _ _ c
   .rw[upd_ne _ _ d] at c;exact ak _ _ _ _ c
 .rcases D j r k _ g c with⟨_,_,_,B,_⟩|⟨_,_,f⟩
  .cases B
  .exact h.YJ j r k L g w Z f
 .rcases X j r m v A c with⟨rfl,rfl,_⟩|⟨_,_,f⟩|⟨_,_,_,f⟩
  .exact K
  .exact h.par j r m v A f
  .exact h.par j r m v A f
 .rcases D j r k m g c with⟨rfl,rfl,_⟩|⟨R,_,f⟩
  .exact⟨U,upd_same ..,U⟩
  .obtain⟨am,an,ae⟩:=h.Sj j r k m g f;exact⟨am,by rw[upd_ne _ _ R];exact an,ae⟩
 .by_cases e:j=n
  .subst e;rw[upd_same];exact⟨_,_,_,M⟩
  .rw[upd_ne _ _ e];obtain⟨k,m,g,C⟩:=h.Qb j aa U;exact⟨k,m,g,(Y j _ k m g C).2⟩
 .by_cases e:j=n
  .subst e;rw[upd_same] at c;rw[M] at c;cases c;rw[upd_same];simp
  .rw[upd_ne _ _ e] at c;rw[upd_ne _ _ e];rcases D j _ k m g c with⟨x,_⟩|⟨_,_,f⟩
   .exact absurd x e
   .exact h.RI j k m g aa f
 .rw[upd_ne _ _ (show(0:Nat)≠n by omega)];exact h.Pt
 .by_cases e:j=n
  .subst e;rw[upd_same] at c;cases c
  .rw[upd_ne _ _ e] at c l;have:=h.Si j r c l;rw[to j r e λx=>?_]
   .exact this
   .obtain⟨rfl,rfl⟩:=x;rw[u] at this;exact this
 .rcases D j r k m g c with⟨_,_,_,_,B⟩|⟨_,_,f⟩
  .exact absurd B aj
  .exact h.Sg j r k m g w Z f aj
 .have al:∀j k m g,tok j s=.ch k m g->k<q-(p+1):=λj k m g c=>by
   have:=h.Ps s j k m g q (p+1) .add c (by rw[<-K];exact u);omega
  rcases D j r k m g C with⟨rfl,rfl,ae,_⟩|⟨_,_,f⟩<;>rcases D ab r k ad g' F with⟨rfl,ao,ar,_⟩|⟨_,_,B⟩
  .rfl
  .have:=al ab k ad g' B;omega
  .subst ao;have:=al j k m g f;omega
  .exact h.Ow r j ab k m g ad g' f B
 .rcases D j r k m g C with⟨_,rfl,ae,_⟩|⟨_,_,f⟩
  .rcases X _ r w v A F with⟨_,_,rfl,rfl,_⟩|⟨_,x,_⟩|⟨_,x,_⟩
   .omega
   .exact absurd rfl x
   .exact absurd K.symm x
  .rcases X _ r w v A F with⟨_,rfl,rfl,rfl,_⟩|⟨_,_,B⟩|⟨_,x,rfl,B⟩
   .have:=h.Ps r j k m g w (v+1) .add f (by rw[<-K];exact u);omega
   .exact h.Ps r j k m g w v A f B
   .exact absurd K.symm x
 .obtain⟨a,b⟩:=h.Sf r w l;refine⟨a,λk=>(b k).trans ⟨λ⟨j,m,g,E,Φ⟩=>⟨j,m,g,(Y j r k m g E).2,Φ⟩,λ⟨j,m,g,E,Φ⟩=>?_⟩⟩;rcases D j r k m g E with⟨_,_,_,B,_⟩|⟨_,_,f⟩
  .subst B;exact Φ.elim
  .exact⟨j,m,g,f,Φ⟩
 .obtain⟨a,b⟩:=h.QY r w l;refine⟨a,λk=>(b k).trans ⟨λ⟨j,m,g,E,Φ⟩=>⟨j,m,g,(Y j r k m g E).2,Φ⟩,λ⟨j,m,g,E,Φ⟩=>?_⟩⟩;rcases D j r k m g E with⟨_,_,_,_,B⟩|⟨_,_,f⟩
  .exact absurd B Φ
  .exact⟨j,m,g,f,Φ⟩
def ε.new (sp:Spec):ε:={toSpec:=sp,Y7:=0,wk:=0,sv:=0,nw:=0,YE:=0,L:=[],cnt:=0,wt:=0,YV:=0,R:=[]}
theorem zK (N:Nat) (φ:Tok->Nat) (a:φ .nil=0):ZQ N (λ_=>.nil) φ=0:=by
 induction N with
 | zero=>rfl
 | succ N b=>rw[Oz,b,a]
theorem XT.zJ (h:XT n tok spec view rel O Zs home) (E:O s=none) (M:i<n) (f:rel i=false) (sp:Spec) :
  XT n (Zp tok i s (.par 0 0 .add)) (upd spec i (upd (spec i) s (some sp))) (upd view i (upd (view i) s none)) rel (upd O s (some (ε.new sp))) (upd Zs s i) home:=by
 have y:=h.bare s E
 have V:∀j,j≠0->j<n->home j≠s:=λj A c e=>by
  obtain⟨k,m,g,l⟩:=h.Qb j A c;rw[e,y j] at l;cases l
 have P:(λj=>Zp tok i s (.par 0 0 .add) j s)=upd (λ_=>.nil) i (.par 0 0 .add):=by
  rw[EK];have:(λj=>tok j s)=λ_=>.nil:=funext y;rw[this]
 have H:∀j r,r≠s->Zp tok i s (.par 0 0 .add) j r=tok j r:=λj r f=>XL _ λx=>f x.2
 have t:∀j r k m g,Zp tok i s (.par 0 0 .add) j r=.ch k m g↔tok j r=.ch k m g:=λj r k m g=>by
  by_cases e:j=i/\r=s
  .obtain⟨rfl,rfl⟩:=e;rw[XE,y];simp
  .rw[XL _ e]
 have v:∀j k m g,tok j s≠.ch k m g:=λj k m g e=>by rw[y] at e;cases e
 have B:∀r q,upd O s (some (ε.new sp)) r=some q->(r=s/\q=ε.new sp)\/(r≠s/\O r=some q):=λr q o=>by
  by_cases e:r=s
  .subst e;rw[upd_same] at o;cases o;exact .inl ⟨rfl,rfl⟩
  .rw[upd_ne _ _ e] at o;exact .inr ⟨e,o⟩
 have one:∀φ:Tok->Nat,φ .nil=0->ZQ n (upd (λ_=>.nil) i (.par 0 0 .add)) φ=φ (.par 0 0 .add):=λφ I=>by
  have e:=W3 (N:=n) (λ_=>.nil) (.par 0 0 .add) φ M;rw[zK n φ I] at e;simp only[I] at e;omega
 refine⟨λr q o=>?_,λr f j=>?_,λj r c=>?_,λj r J c=>?_,λj r φ C c=>?_,λj r k L g q o c=>?_,λj r m p F c=>?_,λj r k m g c=>?_,λj A c=>?_,λj k m g A c=>?_,h.Pt,λj r c Q=>?_,λj r k m g q o c R=>?_,λr j S k m g T g' l D=>?_,λr j k m g q p F l D=>?_,λr q f=>?_,λr q f=>?_⟩
 .rcases B r q o with⟨rfl,rfl⟩|⟨e,u⟩
  .rw[P];constructor
   .unfold RN;rw[one VZ rfl,one SU rfl,one TW rfl,one Um rfl,one Tn rfl,one Ul rfl,one Q1 rfl,one SS rfl,one Q2 rfl];constructor<;>simp[ε.new,VZ,SU,TW,Um,Tn,Ul,Q1,SS,Q2]
   .unfold So;rw[one Vv rfl,one U3 rfl,one U2 rfl,one Uk rfl,one XP rfl,one Wp rfl,one VY rfl,one TV rfl,one Uj rfl,one VX rfl];constructor<;>simp[ε.new,Vv,U3,U2,Uk,XP,Wp,VY,TV,Uj,VX]
  .rw[Hy _ _ _ _ e];exact h.Z0 r q u
 .have e:r≠s:=λe=>by rw[e,upd_same] at f;cases f
  rw[upd_ne _ _ e] at f;rw[H j r e];exact h.bare r f j
 .rw[XL _ (λx=>U)];exact h.out j r c
 .by_cases e:j=i
  .subst e;rw[upd_same] at c;by_cases d:r=s
   .subst d;rw[upd_same] at c;cases c;exact⟨_,upd_same ..,rfl⟩
   .rw[upd_ne _ _ d] at c;obtain⟨q,a,b⟩:=h.QZ j r J c;exact⟨q,by rw[upd_ne _ _ d];exact a,b⟩
  .rw[upd_ne _ _ e] at c;obtain⟨q,a,b⟩:=h.QZ j r J c;have d:r≠s:=λd=>by rw[d,E] at a;cases a
   exact⟨q,by rw[upd_ne _ _ d];exact a,b⟩
 .have K:∀j r φ C,view j r=some (φ,C)->∃w,upd O s (some (ε.new sp)) r=some w/\XZ n w (λa=>Zp tok i s (.par 0 0 .add) a r)<=φ/\(XZ n w (λa=>Zp tok i s (.par 0 0 .add) a r)=φ->w=C):=λj r φ C hv=>by
   obtain⟨w,a,b⟩:=h.Ox j r φ C hv;have d:r≠s:=λd=>by rw[d,E] at a;cases a
   exact⟨w,by rw[upd_ne _ _ d];exact a,by rw[Hy _ _ _ _ d];exact b⟩
  by_cases e:j=i
  .subst e;rw[upd_same] at c;by_cases d:r=s
   .subst d;rw[upd_same] at c;cases c
   .rw[upd_ne _ _ d] at c;exact K _ _ _ _ c
  .rw[upd_ne _ _ e] at c;exact K _ _ _ _ c
 .rw[t] at c;rcases B r q o with⟨rfl,rfl⟩|⟨e,u⟩
  .exact absurd c (v _ _ _ _)
  .exact h.YJ j r k L g q u c
 .by_cases e:j=i/\r=s
  .obtain⟨rfl,rfl⟩:=e;rw[upd_same]
  .rw[XL _ e] at c;have d:r≠s:=λd=>by rw[d,y] at c;cases c
   rw[upd_ne _ _ d];exact h.par j r m p F c
 .rw[t] at c;have d:r≠s:=λd=>by rw[d] at c;exact v _ _ _ _ c
  rw[upd_ne _ _ d];exact h.Sj j r k m g c
 .obtain⟨k,m,g,l⟩:=h.Qb j A c;exact⟨k,m,g,(t _ _ _ _ _).2 l⟩
 .rw[t] at c;exact h.RI j k m g A c
 .have e:j≠i:=λe=>by rw[e,f] at c;cases c
  rw[P' _ e];exact h.Si j r c Q
 .rw[t] at c;rcases B r q o with⟨rfl,rfl⟩|⟨e,u⟩
  .exact absurd c (v _ _ _ _)
  .exact h.Sg j r k m g q u c R
 .rw[t] at l D;exact h.Ow r j S k m g T g' l D
 .rw[t] at l;have d:r≠s:=λd=>by rw[d] at l;exact v _ _ _ _ l
  rw[upd_ne _ _ d,H _ _ d] at D;exact h.Ps r j k m g q p F l D
 .simp only[t];rcases B r q f with⟨rfl,rfl⟩|⟨e,u⟩
  .exact⟨List.nodup_nil,λk=>⟨λx=>(by cases x),λ⟨j,m,g,x,_⟩=>absurd x (v _ _ _ _)⟩⟩
  .exact h.Sf r q u
 .simp only[t];rcases B r q f with⟨rfl,rfl⟩|⟨e,u⟩
  .exact⟨List.nodup_nil,λk=>⟨λx=>(by cases x),λ⟨j,m,g,x,_⟩=>absurd x (v _ _ _ _)⟩⟩
  .exact h.QY r q u
end
theorem zI (t:Trace) (u:Trace) {k:Nat} (b:∀a∈u,a.g≠k):Deaf (t++u) k=Deaf t k:=by
 obtain⟨l⟩:=u;rw[Deaf_append]
 induction l generalizing t with
 | nil=>rfl
 | cons y l d=>
  have e:y.g≠k:=b y I
  have f:deafStep k (Deaf t k) y=Deaf t k:=by
   unfold deafStep;split<;>simp[e]
  rw[List.foldl_cons,f];exact d t (λa c=>b a (by simp at c ⊢;exact .inr c))
theorem zH {i:Bool} {t:Trace} {y z:MemOp} (h:¬Race i t) (nt:∀d∈(#[y,z]:Trace),d.act.touch?=none):¬Race i (t++#[y,z]):=by
 have e:t++#[y,z]=(t++#[y])++#[z]:=by rw[OM];rfl
 rw[e];refine noRace_append (g:=z.g) (noRace_append (g:=y.g) h (λd c=>by simp at c;rw[c]) λk a _ d c b f _=>?_) (λd c=>by simp at c;rw[c]) λk a _ d c b f _=>?_
 .simp at c;subst c;rw[nt d I] at f;cases f
 .simp at c;subst c;rw[nt d I] at f;cases f
section
variable {P:Program} {Q:Value->Prop} {ZC:World} {c c':YQ} {gs:Array Goroutine} {w w':World} {t:Trace} {i:Nat} {g g':Goroutine} {es:Array Event}
variable {f:Bool×Goroutine×ZZ->W7 (Bool×Goroutine×ZZ)}
theorem Inv.Hs (h:Inv P Q ZC c gs w t) (az:gs[i]?=some g) (C:EN P (i==0) (Uh P Q f) g (c.x i)):V6 P Q ZC c gs w t i f:=by
 obtain⟨s,sp,n,p,g',S,Z,aa,ap,V,ag,bp,bq,aP,aQ,W,aR,aS⟩:=C;have aT:i<gs.size:=TR az;obtain⟨o,aU,aV⟩:=h.Za.QZ i s sp ap;subst aV;have ab:c.tok i s=.par n (p+1) .add:=V;have hd:c.deaf i=0:=ag;have br:c.rel i=false:=aP;have ad:=aQ w (h.mem.fit (.inl i));have aW:gs.size≠i:=U;let N:=gs.size;let y:MemOp:={g:=i,fn:=g.frame.fn,pos:=g.frame.place,act:=.go gs.size};let z:MemOp:={g:=gs.size,fn:=S.frame.fn,pos:=g.frame.place,act:=.start};have aX:Deaf t i=0:=by rw[h.Zu.hears];exact hd
 have aG:Deaf t gs.size=0:=by
  have:=zI #[] t (k:=gs.size) (λu d e=>by
   obtain⟨k,C⟩:=KD.1 d;have:=h.Ye.QV k u.g (by simp[Trace.g?,C]);omega)
  rw[Array.empty_append] at this;exact this
 let aq:ZZ:={c.x i with G:=Z,tok:=upd (c.tok i) s (.par n p .add),view:=upd (c.view i) s none}
 let ar:ZZ:=⟨aa,λ_=>none,upd (λ_=>.nil) s (.ch (n-(p+1)) .idle .work),upd (λ_=>none) s (some o.toSpec),λ_=>none,0,false⟩
 let E:=upd (Zp c.tok i s (.par n p .add)) gs.size (upd (λ_=>.nil) s (.ch (n-(p+1)) .idle .work))
 let c':YQ:={c with H:=Zz (Zz c.H (.inl i) Z) (.inl gs.size) aa,Z3:=upd c.Z3 gs.size (λ_=>none),tok:=E,spec:=upd c.spec gs.size (upd (λ_=>none) s (some o.toSpec)),view:=upd (upd c.view i (upd (c.view i) s none)) gs.size λ_=>none,deaf:=upd c.deaf gs.size 0,rel:=upd c.rel gs.size false,home:=upd c.home gs.size s,T:=upd (upd c.T i (f (i==0,g',aq))) gs.size (f (false,S,ar))}
 have aY:=h.Za.fork aU ab
 have bs:=runT_crowd_spawn (sl:=none) az ad
 have aZ:((MemOp.ofEvents i g.frame.fn g.frame.place #[]).push {g:=i,fn:=g.frame.fn,pos:=g.frame.place,act:=.go gs.size} |>.push {g:=gs.size,fn:=S.frame.fn,pos:=g.frame.place,act:=.start})=#[y,z]:=by rw[EE];rfl
 have aH:(Sum.inl i:Y5)≠.inl gs.size:=λe=>aW (by cases e;rfl)
 have a0:∀r,E gs.size r≠.nil->r=s:=λr X=>by
  apply Tu;intro e;apply X;show upd (Zp c.tok i s (.par n p .add)) gs.size (upd (λ_=>.nil) s (.ch (n-(p+1)) .idle .work)) gs.size r=.nil;rw[upd_same,upd_ne _ _ e]
 have au:∀j,j≠gs.size->E j=Zp c.tok i s (.par n p .add) j:=λj A=>upd_ne _ _ A
 have a1:∀j r,j≠gs.size->E j r≠.nil->c.tok j r≠.nil:=λj r A X=>by
  rw[au j A] at X;exact L8 ab I j r X
 have aA:∀j r q ae,E j r=.par q ae .ZP↔c.tok j r=.par q ae .ZP:=λj r q ae=>by
  by_cases e:j=gs.size
  .subst e;rw[h.Za.out gs.size r (γ _)];show upd (Zp c.tok i s (.par n p .add)) gs.size (upd (λ_=>.nil) s (.ch (n-(p+1)) .idle .work)) gs.size r=_↔_;rw[upd_same];by_cases aI:r=s
   .subst aI;rw[upd_same];simp
   .rw[upd_ne _ _ aI]
  .rw[au j e];exact J7 ab I I j r q ae
 have a2:∀j r k L g,c.tok j r=.ch k (.YJ L) g->E j r=.ch k (.YJ L) g:=λj r k L g A=>by
  have e:j≠gs.size:=λe=>by rw[e,h.Za.out _ r (γ _)] at A;cases A
  rw[au j e,XL _ λx=>?_]
  .exact A
  .obtain⟨rfl,rfl⟩:=x;rw[ab] at A;cases A
 have ah:∀j,j≠gs.size->c'.rel j=c.rel j:=λj A=>upd_ne _ _ A
 have av:∀j,c'.rel j=true->j≠gs.size:=λj A e=>by
  subst e;have:upd c.rel gs.size false gs.size=true:=A;rw[upd_same] at this;cases this
 have aw:∀j b v,upd c.Z3 gs.size (λ_=>none) j b=some v->c.Z3 j b=some v:=λj b v hv=>by
  by_cases e:j=gs.size
  .subst e;rw[upd_same] at hv;cases hv
  .rw[upd_ne _ _ e] at hv;exact hv
 have nt:∀u∈(#[y,z]:Trace),u.act.touch?=none:=λu d=>by simp at d;rcases d with rfl|rfl<;>rfl
 have Ti:∀u∈(#[y,z]:Trace),∀m,u.act≠.mark m:=λu d m=>by simp at d;rcases d with rfl|rfl<;>simp[y,z]
 have aJ:∀k,Knows t i k->Knows (t++#[y,z]) gs.size k:=λk C=>Knows.spawn C rfl rfl rfl rfl aX aG
 have a3:∀a k,Vf c.tok c.O t a k->Vf E c.O (t++#[y,z]) a k:=λa k C=>by
  cases a with
  | inl j=>exact Knows.app _ C
  | inr b=>
   rcases C with⟨p,u,ap,a4,V,ag⟩|C
   .have Y:=lt_size_of_getElem? ap;exact .inl ⟨p,u,by rw[getElem?_append_old Y];exact ap,a4,(heard_old Y).2 V,ag.app _⟩
   .refine .inr λai o' ax K j A=>?_;by_cases e:j=gs.size
    .subst e;have:=a0 ai A;subst this;exact aJ k (C _ o' ax K i (by rw[ab];simp))
    .exact(C ai o' ax K j (a1 j ai e A)).app _
 have aK:∀a,YI (t++#[y,z]) (Vf E c.O (t++#[y,z]) a) (c.H a):=λa=>
  (h.Zu.perms a).others (a3 a) λu d x B=>by rw[nt u d] at B;cases B
 have a5:Inv P Q ZC c' ((gs.setIfInBounds i g').push S) w (t++#[y,z]):=by
  have aB:((gs.setIfInBounds i g').push S).size=gs.size+1:=I;refine⟨by rw[aB];omega,(h.mem.two (W.l.fits (h.mem.fit (.inl i))) (W.r.fits (h.mem.fit (.inl i))) h.mem.Xf).Nu aw,(h.hold.two aH W.l.QW W.r.QW W.apart ⟨λs o ad=>⟨o,ad,rfl⟩,λs o ad=>⟨o,ad,rfl⟩⟩ λx B=>by rcases B with e|e<;>cases e).Nu aw,?_,by rw[aB];exact aY,?_,?_,?_,?_⟩
  .refine⟨λa6=>zH (h.Zu.race a6) nt,λu d=>?_,λu d a=>?_,λa=>?_,λj b v hv k a C=>?_,λai o' b ax K k a C a7=>?_,λj=>?_⟩
   .rcases Ss.1 d with d|d
    .exact h.Zu.low u d
    .simp at d;rcases d with rfl|rfl<;>trivial
   .rcases Ss.1 d with d|d
    .exact h.Zu.norel u d a
    .exact Ti u d _
   .show YI _ _ (Zz (Zz c.H (.inl i) Z) (.inl gs.size) aa a);by_cases Φ:a=.inl gs.size
    .subst Φ;rw[Yw];exact(((h.Zu.perms (.inl i)).others aJ λu d x B=>by rw[nt u d] at B;cases B):YI _ (Knows _ gs.size) _).sub W.r
    .rw[Zy _ _ Φ];by_cases F:a=.inl i
     .subst F;rw[Yw];exact(aK (.inl i)).sub W.l
     .rw[Zy _ _ F];exact aK a
   .have:=aw j b v hv;rcases To C with af|⟨_,u,d,_,B⟩
    .exact h.Zu.Sl j b v this k a af
    .rw[nt u d] at B;cases B
   .rcases To C with af|⟨_,u,d,_,B⟩
    .rcases h.Zu.cont ai o' b ax K k a af a7 with x|⟨x,a8⟩
     .exact .inl x
     .obtain⟨u,a9,_⟩:=touch_of af;exact .inr ⟨x,by rw[g?_old (lt_size_of_getElem? a9)];exact a8⟩
    .rw[nt u d] at B;cases B
   .have F:Deaf (t++#[y,z]) j=Deaf t j:=by
     have e:t++#[y,z]=(t++#[y])++#[z]:=by rw[OM];rfl
     rw[e,Deaf_push,Deaf_push];simp[deafStep,y,z]
    rw[F];by_cases e:j=gs.size
    .subst e;rw[aG];exact(upd_same ..).symm
    .rw[h.Zu.hears];exact(upd_ne _ _ e).symm
  .have aL:∀b,Zz (Zz c.H (.inl i) Z) (.inl gs.size) aa (.inr b)=c.H (.inr b):=λb=>by rw[VG,VG]
   refine⟨λr q m M aC aj a'=>?_,λr q M aj=>?_⟩
   .show q.XQ q.L (Zz (Zz c.H (.inl i) Z) (.inl gs.size) aa (.inr m));rw[aL];exact h.X2.RH r q m M aC (λj q p x=>aj j q p ((aA j r q p).2 x)) λj k L g x=>a' j k L g (a2 _ _ _ _ _ x)
   .show Ui q.D q.R (Zz (Zz c.H (.inl i) Z) (.inl gs.size) aa (.inr r));rw[aL];exact h.X2.Se r q M (λj q p x=>aj j q p ((aA j r q p).2 x))
  .rw[aB];refine⟨λk a C=>?_,λj ak A=>?_,λj ak A aj=>?_,λj ak A a b=>?_⟩
   .obtain⟨u,d,al⟩:=Ts.1 C;rcases getElem?_append_cases d with⟨_,aD⟩|⟨_,am⟩
    .have:=h.Ye.QV k a (by simp[Trace.g?,aD,al]);omega
    .simp at am;rcases am with rfl|rfl
     .rw[<-al];show i<gs.size+1;omega
     .rw[<-al];show gs.size<gs.size+1;omega
   .have J:=av j A;rw[ah j J] at A;obtain⟨u,aM,ba,bb,bc,bd⟩:=h.Ye.c1 j ak A;have Y:=lt_size_of_getElem? aM;refine⟨u,?_,ba,?_,(heard_old Y).2 bc,λaE af aN=>?_⟩
    .show(t++#[y,z])[c.XM j]?=some u;rw[getElem?_append_old Y];exact aM
    .show u.act=.mark (.releaseMerge ⟨upd c.home gs.size s j,0,none⟩);rw[upd_ne _ _ J];exact bb
    .obtain⟨bt,d,al⟩:=Ts.1 af;rcases getElem?_append_cases d with⟨aO,aD⟩|⟨be,am⟩
     .exact(bd aE (by simp[Trace.g?,aD,al]) ((Ma aO).1 aN)).app _
     .exact absurd aN (Nw nt aE be)
   .have J:=av j A;rw[ah j J] at A;obtain⟨q,ae,M⟩:=aj;have aF:c'.home j=c.home j:=upd_ne _ _ J;rw[aF] at M ⊢;exact(h.Ye.c2 j ak A ⟨q,ae,(aA _ _ _ _).1 M⟩).app _
   .have J:=av j A;rw[ah j J] at A;have aF:c'.home j=c.home j:=upd_ne _ _ J;rw[aF] at a b ⊢;have bf:=av _ b;rw[ah _ bf] at b;exact(h.Ye.c3 j ak A a b).app _
  .refine⟨λr q bg M bh p u Y an=>?_,λj b v hv u d an=>?_⟩
   .rcases getElem?_append_cases Y with⟨aO,bi⟩|⟨_,am⟩
    .obtain⟨⟨aE,bu,g,V⟩,ag⟩:=h.WC.Ot r q bg M bh p u bi an;have J:u.g≠gs.size:=λe=>by rw[e,h.Za.out _ r (γ _)] at V;cases V
     refine⟨?_,λX=>?_⟩
     .rw[show c'.tok u.g=Zp c.tok i s (.par n _ .add) u.g from au _ J];exact L7 ab (λ_ _ _ e=>by cases e) _ _ _ _ _ V
     .rw[ah _ J] at X;exact(ag X).app _
    .exact absurd an (Ti u am _)
   .rcases Ss.1 d with d|d
    .exact h.WC.Oq j b v (aw j b v hv) u d an
    .exact Ti u d _ an
  .intro j b K;by_cases e:j=gs.size
   .subst e;rw[NH] at K;simp at K;subst K;refine⟨S,?_,.inl rfl⟩;have B:c'.x gs.size=ar:=by simp[c',ar,E,YQ.x,upd_same]
    have ao:c'.T gs.size=f (false,S,ar):=upd_same ..
    have aC:(gs.size==0)=false:=by rw[beq_eq_false_iff_ne];exact Nat.ne_of_gt h.pos
    rw[B,ao,aC];exact aS
   .have ay:(gs.setIfInBounds i g')[j]?=some b:=by
     rw[NH] at K;simpa[e] using K
    by_cases F:j=i
    .subst F;rw[Tv aT] at ay;cases ay;refine⟨g',?_,.inl rfl⟩;have B:c'.x j=aq:=by simp[c',aq,E,YQ.x,upd_same,upd_ne _ _ e,On,Zy _ _ aH]
     have ao:c'.T j=f (j==0,g',aq):=by show upd (upd c.T j _) gs.size _ j=_;rw[upd_ne _ _ e,upd_same]
     rw[B,ao];exact aR
    .rw[UR (YR F)] at ay;obtain⟨bj,bk,bl⟩:=h.Oo j b ay;have bm:(Sum.inl j:Y5)≠.inl gs.size:=λx=>e (by cases x;rfl);have bn:(Sum.inl j:Y5)≠.inl i:=λx=>F (by cases x;rfl);have B:c'.x j=c.x j:=by simp[c',E,YQ.x,upd_ne _ _ e,upd_ne _ _ F,P' _ F,Zy _ _ bm,Zy _ _ bn]
     have ao:c'.T j=c.T j:=by show upd (upd c.T i _) gs.size _ j=_;rw[upd_ne _ _ e,upd_ne _ _ F]
     have bo:c'.tok j=c.tok j:=congrArg ZZ.tok B;refine⟨bj,by rw[B,ao];exact bk,?_⟩;rw[bo];exact bl
 refine λsl=>⟨c',_,w,_,runT_crowd_spawn az ad,?_,.inr (.inl ⟨I,_,_,rfl⟩)⟩;rw[aZ];exact a5
end
theorem zG (sp:Spec):Y0 (ε.new sp)=0:=by simp[Y0,ε.new]
theorem zF (sp:Spec):mwd (ε.new sp)=0:=by simp[mwd,ε.new]
section
variable {P:Program} {Q:Value->Prop} {ZC:World} {c c':YQ} {gs:Array Goroutine} {w w':World} {t:Trace} {i:Nat} {g g':Goroutine} {es:Array Event}
variable {f:Bool×Goroutine×ZZ->W7 (Bool×Goroutine×ZZ)}
theorem Inv.seen (h:Inv P Q ZC c gs w t) (k:gs[i]?=some g)
  (mem:WE c'.H c'.Z3 c'.O ZC w) (hold:VW c'.H c'.Z3 c'.O ZC.heap.size) (Zu:VH c'.H c'.Z3 c'.tok c'.O c'.Zs c'.deaf w.heap.size t)
  (Za:XT gs.size c'.tok c'.spec c'.view c'.rel c'.O c'.Zs c'.home) (X2:NA c'.H c'.tok c'.O) (Ye:Ou gs.size c'.tok c'.rel c'.Zs c'.home c'.XM t) (WC:Nz c'.Z3 c'.tok c'.O c'.rel c'.XM t)
  (l:Rec P Q c' i g) (m:∀j,j≠i->c'.x j=c.x j/\c'.T j=c.T j) (n:∀s o,c.O s=some o->c'.O s=some o):Inv P Q ZC c' gs w t:=by
 refine⟨h.pos,mem,hold,Zu,Za,X2,Ye,WC,λj b a=>?_⟩;by_cases e:j=i
 .subst e;rw[k] at a;cases a;exact l
 .obtain⟨p,r,u⟩:=h.Oo j b a;obtain⟨d,Φ⟩:=m j e;have f:c'.tok j=c.tok j:=congrArg ZZ.tok d;refine⟨p,by rw[d,Φ];exact r,u.imp id λ⟨v,y,s,o,A,B,C⟩=>⟨v,y,s,o,n s o A,by rw[f];exact B,by rw[f];exact C⟩⟩
theorem Inv.zE (h:Inv P Q ZC c gs w t) (ag:gs[i]?=some g) {b:Nat} {cs:Array Value} {F:TypeId} (I:c.Z3 i b=some (cs,F)) {D:ZZ}
  (ah:D={c.x i with Z3:=upd (c.Z3 i) b none,G:=⟨λd o=>if d=b then(cs[o]?).map (·,true) else(c.H (.inl i)).θ d o,λd=>if d=b then some (F,cs.size) else(c.H (.inl i)).row d,(c.H (.inl i)).obj⟩}) (ai:Uh P Q f (i==0) g D):J8 P Q ZC c gs w t i f:=by
 let G':Χ:=⟨λd o=>if d=b then(cs[o]?).map (·,true) else(c.H (.inl i)).θ d o,λd=>if d=b then some (F,cs.size) else(c.H (.inl i)).row d,(c.H (.inl i)).obj⟩;obtain⟨f1,f2,f3⟩:=h.hold.fresh i b _ I;have X:=h.mem.TT i b cs F I;have J:∀d o,d≠b->G'.θ d o=(c.H (.inl i)).θ d o:=λd o e=>by simp[G',e]
 have aj:∀o,G'.θ b o=(cs[o]?).map (·,true):=λo=>by simp[G']
 have Y:∀d o,d≠b->(G'.has d o↔(c.H (.inl i)).has d o):=λd o e=>by unfold Χ.has;rw[J d o e]
 have Z:∀d o,d≠b->(G'.owns d o↔(c.H (.inl i)).owns d o):=λd o e=>by unfold Χ.owns;rw[J d o e]
 have ak:∀d,G'.XF d↔(c.H (.inl i)).XF d:=λd=>Iff.rfl
 have aa:∀d,d≠b->(c.H (.inl i)).off d->G'.off d:=λd e n=>⟨λo al=>n.1 o ((Y d o e).1 al),n.2⟩
 let c':YQ:={c with H:=Zz c.H (.inl i) G',Z3:=upd c.Z3 i (upd (c.Z3 i) b none),T:=upd c.T i (f (i==0,g,D))}
 have B:∀j d v,upd c.Z3 i (upd (c.Z3 i) b none) j d=some v->c.Z3 j d=some v/\d≠b:=λj d v hv=>by
  by_cases e:j=i
  .subst e;rw[upd_same] at hv;by_cases m:d=b
   .subst m;rw[upd_same] at hv;cases hv
   .rw[upd_ne _ _ m] at hv;exact⟨hv,m⟩
  .rw[upd_ne _ _ e] at hv;exact⟨hv,λm=>by rw[m,f3 j e] at hv;cases hv⟩
 have am:∀s o d,c.O s=some o->X9 s o.toSpec d->d≠b:=λs o d K C e=>by
  have:=(h.hold.UO s o d K C).2.2 i;rw[e,I] at this;cases this
 have ab:∀k,k≠.inl i->Apart G' (c.H k):=λk an=>by
  have a:=h.hold.apart _ _ (YR an);refine⟨λd o x y=>?_,λd o x y=>?_,λd x y=>a.obj d x y⟩
  .by_cases e:d=b
   .subst e;exact(f2 k).1 o y
   .exact a.θ d o ((Z d o e).1 x) y
  .by_cases e:d=b
   .subst e;exact(f2 k).1 o ⟨_,x.choose_spec⟩
   .exact a.Q4 d o x ((Y d o e).1 y)
 have ao:c'.x i=D:=by rw[ah];simp[c',G',YQ.x,upd_same]
 refine⟨c',h.seen (c':=c') ag ⟨λk=>?_,λj d cs' ap hv=>h.mem.TT j d cs' ap (B j d _ hv).1,h.mem.Xf,h.mem.keep⟩
  ⟨λk l N=>?_,λk d o n=>?_,λk d n=>?_,λj d v hv=>?_,λs o d K C=>?_,h.hold.Uz,h.hold.RJ,λd C=>?_⟩ ⟨h.Zu.race,h.Zu.low,h.Zu.norel,λk=>?_,λj d v hv=>h.Zu.Sl j d v (B j d v hv).1,h.Zu.cont,h.Zu.hears⟩ h.Za (h.X2.L' λd=>VG c.H i G' d) h.Ye
  ⟨h.WC.Ot,λj d v hv=>h.WC.Oq j d v (B j d v hv).1⟩ ⟨g,?_,.inl rfl⟩ (λj R=>⟨?_,upd_ne _ _ R⟩) λ_ _ a=>a,_,rfl⟩
 .show Fits (Zz c.H (.inl i) G' k) w;by_cases e:k=.inl i
  .subst e;rw[Yw];have S:=h.mem.fit (.inl i);refine⟨λd o v p r=>?_,λd t' aq L=>?_,S.obj⟩
   .by_cases m:d=b
    .subst m;rw[aj] at r;cases u:cs[o]? with
     | none=>rw[u] at r;cases r
     | some M=>rw[u] at r;cases r;exact SX X u
    .rw[J d o m] at r;exact S.θ d o v p r
   .by_cases m:d=b
    .subst m;simp[G'] at L;obtain⟨rfl,rfl⟩:=L;exact⟨cs,X,rfl⟩
    .simp[G',m] at L;exact S.row d t' aq L
  .rw[Zy _ _ e];exact h.mem.fit k
 .show Apart (Zz c.H (.inl i) G' k) (Zz c.H (.inl i) G' l);by_cases e:k=.inl i
  .subst e;rw[Yw,Zy _ _ (YR N)];exact ab l (YR N)
  .rw[Zy _ _ e];by_cases m:l=.inl i
   .subst m;rw[Yw];exact(ab k e).symm
   .rw[Zy _ _ m];exact h.hold.apart k l N
 .replace n:(Zz c.H (.inl i) G' k).owns d o:=n
  by_cases e:k=.inl i
  .subst e;rw[Yw] at n;by_cases m:d=b
   .subst m;exact f1
   .exact h.hold.high _ _ _ ((Z d o m).1 n)
  .rw[Zy _ _ e] at n;exact h.hold.high _ _ _ n
 .replace n:(Zz c.H (.inl i) G' k).XF d:=n
  by_cases e:k=.inl i
  .subst e;rw[Yw] at n;exact h.hold.SQ _ _ ((ak d).1 n)
  .rw[Zy _ _ e] at n;exact h.hold.SQ _ _ n
 .obtain⟨ar,U⟩:=B j d v hv;obtain⟨V,E,W⟩:=h.hold.fresh j d v ar;refine⟨V,λk=>?_,λA au=>?_⟩
  .show(Zz c.H (.inl i) G' k).off d;by_cases e:k=.inl i
   .subst e;rw[Yw];exact aa d U (E _)
   .rw[Zy _ _ e];exact E k
  .cases u:c'.Z3 A d with
   | none=>rfl
   | some M=>have:=(B A d M u).1;rw[W A au] at this;cases this
 .obtain⟨V,E,W⟩:=h.hold.UO s o d K C;have U:=am s o d K C;refine⟨V,λk=>?_,λA=>?_⟩
  .show(Zz c.H (.inl i) G' k).off d;by_cases e:k=.inl i
   .subst e;rw[Yw];exact aa d U (E _)
   .rw[Zy _ _ e];exact E k
  .cases u:c'.Z3 A d with
   | none=>rfl
   | some M=>have:=(B A d M u).1;rw[W A] at this;cases this
 .show Zz c.H (.inl i) G' (.inr d)=Χ.empty;rw[VG];exact h.hold.X2 d C
 .show YI t (Vf c.tok c.O t k) (Zz c.H (.inl i) G' k);by_cases e:k=.inl i
  .subst e;rw[Yw];have ad:=h.Zu.perms (.inl i);refine⟨λd o v p r k a ae af av=>?_,ad.obj⟩;by_cases m:d=b
   .exfalso;refine h.Zu.Sl i b _ I k a ae ?_;rw[af];exact m
   .rw[J d o m] at r;exact ad.θ d o v p r k a ae af av
  .rw[Zy _ _ e];exact h.Zu.perms k
 .rw[ao];show Vg P Q (upd c.T i (f (i==0,g,D)) i) _ _ _;rw[upd_same];exact ai
 .have aw:(Sum.inl j:Y5)≠.inl i:=λx=>R (by cases x;rfl);simp[c',YQ.x,upd_ne _ _ R,Zy _ _ aw]
theorem Inv.less (h:Inv P Q ZC c gs w t) (s:gs[i]?=some g) {G':Χ} (d:Sub G' (c.H (.inl i))) (u:Uh P Q f (i==0) g {c.x i with G:=G'}):J8 P Q ZC c gs w t i f:=by
 let l:ZZ:={c.x i with G:=G'}
 let c':YQ:={c with H:=Zz c.H (.inl i) G',T:=upd c.T i (f (i==0,g,l))}
 have y:c'.x i=l:=by simp[c',l,YQ.x]
 have A:upd c.Z3 i (c.Z3 i)=c.Z3:=J' rfl
 have m:=h.mem.own h.hold i (Xj.refl _ _ w) (d.fits (h.mem.fit (.inl i))) (h.mem.TT i) rfl
 have n:=h.hold.own h.mem h.mem.keep.size i (G':=G') (V':=c.Z3 i) ⟨λb o v p B=>.inr (let ⟨C,D,E⟩:=d.θ b o v p B;⟨v,C,D,E⟩),λb F=>.inr (d.XF F)⟩ (λb x I=>.inl I);rw[A] at m n;refine⟨c',h.seen (c':=c') s m n ⟨h.Zu.race,h.Zu.low,h.Zu.norel,λk=>?_,h.Zu.Sl,h.Zu.cont,h.Zu.hears⟩ h.Za (h.X2.L' λJ=>VG c.H i G' J) h.Ye h.WC ⟨g,?_,.inl rfl⟩ (λj r=>⟨?_,upd_ne _ _ r⟩) λ_ _ a=>a,_,rfl⟩
 .show YI t (Vf c.tok c.O t k) (Zz c.H (.inl i) G' k);by_cases e:k=.inl i
  .subst e;rw[Yw];exact(h.Zu.perms (.inl i)).sub d
  .rw[Zy _ _ e];exact h.Zu.perms k
 .rw[y];show Vg P Q (upd c.T i (f (i==0,g,l)) i) _ _ _;rw[upd_same];exact u
 .have K:(Sum.inl j:Y5)≠.inl i:=λx=>r (by cases x;rfl);simp[c',YQ.x,Zy _ _ K]
theorem Inv.group (h:Inv P Q ZC c gs w t) (ap:gs[i]?=some g) {s:Nat} {sp:Spec} {aq:TypeId} {G' E:Χ} (B:c.Z3 i s=some (#[.int .u64 0,.int .u32 0],aq)) (ag:∀m,sp.ZO=some m->m≠s/\∃ah,c.Z3 i m=some (#[.int .i32 0,.int .u32 0],ah))
  (aO:c.rel i=false) (J:Split (c.H (.inl i)) G' E) (aP:sp.ZO≠none->sp.XQ [] E) {Z:ZZ}
  (aQ:Z={c.x i with G:=G',Z3:=λb=>if b=s\/sp.ZO=some b then none else c.Z3 i b,tok:=upd (c.tok i) s (.par 0 0 .add),spec:=upd (c.spec i) s (some sp),view:=upd (c.view i) s none}) (aR:Uh P Q f (i==0) g Z):J8 P Q ZC c gs w t i f:=by
 have aS:i<gs.size:=TR ap
 have ai:c.O s=none:=by
  cases K:c.O s with
  | none=>rfl
  | some o=>have:=(h.hold.UO s o s K (.inl rfl)).2.2 i;rw[B] at this;cases this
 have aa:∀b,X9 s sp b->∃v,c.Z3 i b=some v:=λb hb=>by
  rcases hb with rfl|hb
  .exact⟨_,B⟩
  .obtain⟨_,ah,aT⟩:=ag b hb;exact⟨_,aT⟩
 have X:∀r o b,c.O r=some o->X9 r o.toSpec b->¬X9 s sp b:=λr o b d hb ab=>by
  obtain⟨v,hv⟩:=aa b ab;have:=(h.hold.UO r o b d hb).2.2 i;rw[hv] at this;cases this
 have ar:∀r o,c.O r=some o->r≠s:=λr o d e=>by rw[e,ai] at d;cases d
 let V':Nat->Option (Array Value×TypeId):=λb=>if b=s\/sp.ZO=some b then none else c.Z3 i b
 let O':=upd c.O s (some (ε.new sp))
 have Y:∀j b v,upd c.Z3 i V' j b=some v->c.Z3 j b=some v/\¬X9 s sp b:=λj b v hv=>by
  by_cases e:j=i
  .subst e;rw[upd_same] at hv;by_cases aj:b=s\/sp.ZO=some b
   .simp[V',aj] at hv
   .simp[V',aj] at hv;exact⟨hv,aj⟩
  .rw[upd_ne _ _ e] at hv;refine⟨hv,λhb=>?_⟩;obtain⟨aU,aV⟩:=aa b hb;have:=(h.hold.fresh i b aU aV).2.2 j e;rw[this] at hv;cases hv
 have au:∀j b,c.Z3 j b=none->upd c.Z3 i V' j b=none:=λj b e=>by
  cases K:upd c.Z3 i V' j b with
  | none=>rfl
  | some v=>have:=(Y j b v K).1;rw[e] at this;cases this
 have aW:∀j b,X9 s sp b->upd c.Z3 i V' j b=none:=λj b hb=>by
  cases K:upd c.Z3 i V' j b with
  | none=>rfl
  | some v=>exact absurd hb (Y j b v K).2
 have C:∀r q,O' r=some q->(r=s/\q=ε.new sp)\/(r≠s/\c.O r=some q):=λr q y=>by
  by_cases e:r=s
  .subst e;rw[show O' r=some (ε.new sp) from upd_same ..] at y;cases y;exact .inl ⟨rfl,rfl⟩
  .rw[show O' r=c.O r from upd_ne _ _ e] at y;exact .inr ⟨e,y⟩
 have av:VW c.H (upd c.Z3 i V') O' ZC.heap.size:=by
  refine⟨h.hold.apart,h.hold.high,h.hold.SQ,λj b v hv=>?_,λr o b d hb=>?_,λr r' o o' b d F hb ab=>?_,λr o m d u=>?_,λb hb=>h.hold.X2 b λr o d hi=>hb r o (by rw[show O' r=c.O r from upd_ne _ _ (ar r o d)];exact d) hi⟩
  .obtain⟨U,V,al⟩:=h.hold.fresh j b v (Y j b v hv).1;exact⟨U,V,λaw aX=>au aw b (al aw aX)⟩
  .rcases C r o d with⟨rfl,rfl⟩|⟨e,F⟩
   .obtain⟨v,hv⟩:=aa b hb;obtain⟨U,V,_⟩:=h.hold.fresh i b v hv;exact⟨U,V,λj=>aW j b hb⟩
   .obtain⟨U,V,al⟩:=h.hold.UO r o b F hb;exact⟨U,V,λj=>au j b (al j)⟩
  .rcases C r o d with⟨rfl,rfl⟩|⟨e,ax⟩<;>rcases C r' o' F with⟨rfl,rfl⟩|⟨aj,ay⟩
   .rfl
   .exact absurd hb (X r' o' b ay ab)
   .exact absurd ab (X r o b ax hb)
   .exact h.hold.Uz r r' o o' b ax ay hb ab
  .rcases C r o d with⟨rfl,rfl⟩|⟨e,F⟩
   .exact(ag m u).1
   .exact h.hold.RJ r o m F u
 have az:O' s=some (ε.new sp):=upd_same ..
 have aA:c.H (.inr s)=Χ.empty:=h.hold.X2 s λr o d hi=>X r o s d hi (.inl rfl)
 have aB:∀r q,O' r=some q->At r q w:=λr q y=>by
  rcases C r q y with⟨rfl,rfl⟩|⟨_,M⟩
  .refine⟨⟨aq,?_⟩,λm u=>let ⟨_,ah,hv⟩:=ag m u;⟨ah,?_⟩⟩
   .rw[zG];exact h.mem.TT i r _ _ B
   .rw[zF];exact h.mem.TT i m _ _ hv
  .exact h.mem.Xf _ _ M
 obtain⟨A,aY,aZ,aC,aD,a0,a1,a2⟩:∃A:Y5->Χ,A (.inl i)=G'/\(∀j,j≠i->A (.inl j)=c.H (.inl j))/\(∀b,¬X9 s sp b->A (.inr b)=c.H (.inr b))/\(A (.inr s)=Χ.empty/\∀m,sp.ZO=some m->A (.inr m)=E)/\
   VW A (upd c.Z3 i V') O' ZC.heap.size/\WE A (upd c.Z3 i V') O' ZC w/\∀a,YI t (Vf (Zp c.tok i s (.par 0 0 .add)) O' t a) (A a):=by
  have am:=h.Zu.perms (.inl i)
  have aE:∀a,(∀b,a=.inr b->¬X9 s sp b)->YI t (Vf (Zp c.tok i s (.par 0 0 .add)) O' t a) (c.H a):=λa W=>by
   refine(h.Zu.perms a).mono λk N=>?_;cases a with
   | inl j=>exact N
   | inr b=>
    refine N.imp id λN r o d hb j n=>?_;rcases C r o d with⟨rfl,rfl⟩|⟨e,F⟩
    .exact absurd hb (W b rfl)
    .rw[XL _ (λx=>e x.2)] at n;exact N r o F hb j n
  have aF:WE c.H (upd c.Z3 i V') c.O ZC w:=h.mem.Nu λj b v hv=>(Y j b v hv).1
  have aG:(Sum.inl i:Y5)≠.inr s:=I;cases u:sp.ZO with
  | none=>
   refine⟨Zz (Zz c.H (.inl i) G') (.inr s) Χ.empty,?_,λj n=>?_,λb hb=>?_,⟨Yw ..,λm e=>(by cases e)⟩,?_,aF.two (J.l.fits (h.mem.fit (.inl i))) (Ov w) aB,λa=>?_⟩
   .rw[Zy _ _ aG,Yw]
   .rw[Zy _ _ I,Zy _ _ (λe=>n (by cases e;rfl))]
   .have:(Sum.inr b:Y5)≠.inr s:=λe=>hb (by cases e;exact .inl rfl);rw[Zy _ _ this,VG]
   .exact av.two aG J.l.QW (Sub.empty _) (Apart.Pr _) ⟨λs o B=>⟨o,B,rfl⟩,λs o B=>⟨o,B,rfl⟩⟩ λx K=>by
     rcases K with e|e
     .cases e;exact⟨s,_,az,.inl rfl⟩
     .cases e
   .by_cases Φ:a=.inr s
    .subst Φ;rw[Yw];exact YI.empty
    .rw[Zy _ _ Φ];by_cases ad:a=.inl i
     .subst ad;rw[Yw];exact am.sub J.l
     .rw[Zy _ _ ad];refine aE a λb e hb=>?_;subst e;rcases hb with rfl|hb
      .exact Φ rfl
      .rw[u] at hb;cases hb
  | some m=>
   have a3:=(ag m u).1
   have aH:(Sum.inl i:Y5)≠.inr m:=I;refine⟨Zz (Zz c.H (.inl i) G') (.inr m) E,?_,λj n=>?_,λb hb=>?_,⟨?_,λa' e=>?_⟩,?_,aF.two (J.l.fits (h.mem.fit (.inl i))) (J.r.fits (h.mem.fit (.inl i))) aB,λa=>?_⟩
   .rw[Zy _ _ aH,Yw]
   .rw[Zy _ _ I,Zy _ _ (λe=>n (by cases e;rfl))]
   .have:(Sum.inr b:Y5)≠.inr m:=λe=>hb (by cases e;exact .inr u);rw[Zy _ _ this,VG]
   .have:(Sum.inr s:Y5)≠.inr m:=λe=>a3 (by cases e;rfl);rw[Zy _ _ this,VG];exact aA
   .cases e;rw[Yw]
   .exact av.two aH J.l.QW J.r.QW J.apart ⟨λs o B=>⟨o,B,rfl⟩,λs o B=>⟨o,B,rfl⟩⟩ λx K=>by
     rcases K with e|e
     .cases e;exact⟨s,_,az,.inr u⟩
     .cases e
   .by_cases Φ:a=.inr m
    .subst Φ;rw[Yw];refine(am.sub J.r).mono λk N=>.inr λr o d hb j n=>?_;rcases C r o d with⟨rfl,rfl⟩|⟨e,F⟩
     .by_cases e:j=i
      .subst e;exact N
      .rw[P' _ e,h.Za.bare r ai j] at n;exact absurd rfl n
     .exact absurd (.inr u) (X r o m F hb)
    .rw[Zy _ _ Φ];by_cases ad:a=.inl i
     .subst ad;rw[Yw];exact am.sub J.l
     .rw[Zy _ _ ad];by_cases aI:a=.inr s
      .subst aI;rw[aA];exact YI.empty
      .refine aE a λb e hb=>?_;subst e;rcases hb with rfl|hb
       .exact aI rfl
       .rw[u] at hb;cases hb;exact Φ rfl
 let c':YQ:={c with H:=A,Z3:=upd c.Z3 i V',tok:=Zp c.tok i s (.par 0 0 .add),spec:=upd c.spec i (upd (c.spec i) s (some sp)),view:=upd c.view i (upd (c.view i) s none),O:=O',Zs:=upd c.Zs s i,T:=upd c.T i (f (i==0,g,Z))}
 have a4:c'.x i=Z:=by rw[aQ];simp[c',V',YQ.x,upd_same,On,aY]
 have ae:∀j r,r≠s->Zp c.tok i s (.par 0 0 .add) j r=c.tok j r:=λj r d=>XL _ λx=>d x.2
 have aJ:∀j,j≠0->c.rel j=true->c.home j≠s:=λj S n e=>by
  obtain⟨an,U,V,_⟩:=h.Ye.c1 j S n;have a5:=h.Ye.QV (c.XM j) j (by simp[Trace.g?,U,V]);obtain⟨k,m,g,N⟩:=h.Za.Qb j S a5;rw[e,h.Za.bare s ai j] at N;cases N
 refine⟨c',h.seen (c':=c') ap a1 a0 ⟨h.Zu.race,h.Zu.low,h.Zu.norel,a2,λj b v hv=>h.Zu.Sl j b v (Y j b v hv).1,λr o b d hb k a W aK=>?_,h.Zu.hears⟩ (h.Za.zJ ai aS aO sp) ⟨λr q m y u af a6=>?_,λr q y af=>?_⟩
  ⟨h.Ye.QV,h.Ye.c1,λj S n af=>?_,λj S n a b=>?_⟩ ⟨λr q m y u p an aL W=>?_,λj b v hv=>h.WC.Oq j b v (Y j b v hv).1⟩ ⟨g,?_,.inl rfl⟩ (λj n=>⟨?_,upd_ne _ _ n⟩) (λr o d=>?_),_,rfl⟩
 .rcases C r o d with⟨rfl,rfl⟩|⟨e,F⟩
  .obtain⟨v,hv⟩:=aa b hb;exact absurd aK (h.Zu.Sl i b v hv k a W)
  .have:=h.Zu.cont r o b F hb k a W aK
   show _\/(_/\_=some (upd c.Zs s i r));rw[upd_ne _ _ e];exact this
 .rcases C r q y with⟨rfl,rfl⟩|⟨e,M⟩
  .show sp.XQ [] (A (.inr m));rw[aD.2 m u];exact aP (by have:sp.ZO=some m:=u;rw[this];simp)
  .show q.XQ q.L (A (.inr m));rw[aC m (X r q m M (.inr u))];exact h.X2.RH r q m M u (λj ao p x=>af j ao p (by show Zp c.tok i s _ j r=_;rw[ae j r e];exact x)) λj k L g x=>a6 j k L g (by show Zp c.tok i s _ j r=_;rw[ae j r e];exact x)
 .rcases C r q y with⟨rfl,rfl⟩|⟨e,M⟩
  .show Ui sp.D [] (A (.inr r));rw[aD.1];rfl
  .show Ui q.D q.R (A (.inr r));rw[aC r (X r q r M (.inl rfl))];exact h.X2.Se r q M λj ao p x=>af j ao p (by show Zp c.tok i s _ j r=_;rw[ae j r e];exact x)
 .obtain⟨q,p,y⟩:=af;have e:=aJ j S n;have ak:c'.Zs (c.home j)=c.Zs (c.home j):=upd_ne _ _ e;show Knows t (c'.Zs (c.home j)) (c.XM j);rw[ak];refine h.Ye.c2 j S n ⟨q,p,?_⟩;have:Zp c.tok i s (.par 0 0 .add) (c'.Zs (c.home j)) (c.home j)=.par q p .ZP:=y
  rwa [ae _ _ e,ak] at this
 .have e:=aJ j S n
  have ak:c'.Zs (c.home j)=c.Zs (c.home j):=upd_ne _ _ e
  show Before t (c.XM j) (c.XM (c'.Zs (c.home j)))
  have aM:c'.Zs (c.home j)≠0:=a
  have aN:c.rel (c'.Zs (c.home j))=true:=b;rw[ak] at aM aN ⊢;exact h.Ye.c3 j S n aM aN
 .rcases C r q y with⟨rfl,rfl⟩|⟨e,M⟩
  .obtain⟨v,hv⟩:=aa m (.inr u);exact absurd W (h.WC.Oq i m v hv an (mem_of_getElem? aL))
  .obtain⟨⟨k,a7,g,a8⟩,a9⟩:=h.WC.Ot r q m M u p an aL W;exact⟨⟨k,a7,g,by show Zp c.tok i s _ _ r=_;rw[ae _ r e];exact a8⟩,a9⟩
 .rw[a4];show Vg P Q (upd c.T i (f (i==0,g,Z)) i) _ _ _;rw[upd_same];exact aR
 .simp[c',YQ.x,upd_ne _ _ n,P' _ n,aZ j n]
 .show O' r=some o;rw[show O' r=c.O r from upd_ne _ _ (ar r o d)];exact d
theorem Inv.ghost (h:Inv P Q ZC c gs w t) (d:gs[i]?=some g) (j:HB (i==0) (Uh P Q f) g (c.x i)):J8 P Q ZC c gs w t i f:=by
 rcases j with⟨G',a,e⟩|⟨b,cs,k,a,e⟩|⟨s,sp,k,G',E,a,l,m,n,o,p⟩
 .exact h.less d a e
 .exact h.zE d a rfl e
 .exact h.group d a l m n o rfl p
end
section
variable {P:Program} {Q:Value->Prop} {ZC:World} {c c':YQ} {gs:Array Goroutine} {w w':World} {t:Trace} {i:Nat} {g g':Goroutine} {es:Array Event}
theorem Inv.step (h:Inv P Q ZC c gs w t) (b:gs[i]?=some g) (k:g.status=.running):(∃v es,i=0/\stepG P true g w=.ended (.done v) w es/\∀sl w1,Good P (λv w'=>Q v/\Xj (λ_ _=>False) (λ_=>False) ZC w') (crowd gs w1 sl) (.done v) w (t++MemOp.ofEvents 0 g.frame.fn g.frame.place es))\/
  ∃f,c.T i=.node f/\(V6 P Q ZC c gs w t i f\/HB (i==0) (Uh P Q f) g (c.x i)):=by
 obtain⟨A,j,p⟩:=h.Oo i g b;rcases p with rfl|⟨_,rfl,_⟩
 .have l:Ke P (i==0) g (c.x i) Q->(∃v es,i=0/\stepG P true g w=.ended (.done v) w es/\∀sl w1,Good P (λv w'=>Q v/\Xj (λ_ _=>False) (λ_=>False) ZC w') (crowd gs w1 sl) (.done v) w (t++MemOp.ofEvents 0 g.frame.fn g.frame.place es)):=λd=>by
   rcases d with⟨r,d⟩|⟨_,d⟩
   .have e:i=0:=by simpa using r
    subst e;obtain⟨v,es,m,B⟩:=h.EF b d none w;refine⟨v,es,rfl,m,λsl w1=>?_⟩;obtain⟨C,es',n,s⟩:=h.EF b d sl w1;rw[m] at n;cases n;exact s
   .rw[d.2.2.1] at k;cases k
  cases o:c.T i with
  | leaf=>rw[o] at j;exact .inl (l j.2)
  | node f=>
   have u:=j;rw[o] at j;rcases j.2 with d|a
   .exact .inl (l d)
   .refine .inr ⟨f,rfl,?_⟩;rcases a with a|⟨y,a⟩
    .exact .inl (h.quits b a)
    .rcases a with a|a|a|a|a|a|a|a|a|a
     .exact .inl (h.Hz b a)
     .exact .inl (h.zQ b a)
     .exact .inl (h.zP b a)
     .exact .inl (h.atom b y u a)
     .exact .inl (h.J6 b a)
     .exact .inl (h.Hu b a)
     .exact .inl (h.Ht b a)
     .exact .inl (h.J5 b a)
     .exact .inl (h.Hs b a)
     .exact .inr a
 .cases k
theorem Inv.zD (h:Inv P Q ZC c gs w t):∀g∈gs,Go.Conc.awake g:=λg b=>by
 obtain⟨j,d⟩:=KD.1 b;intro t' a;rcases h.stat d with e|⟨_,e,_⟩|⟨e,_⟩<;>rw[e] at a<;>cases a
theorem Inv.comes:∀(L:List (W7 (Bool×Goroutine×ZZ))) (k:Nat) (c:YQ) (b:List Nat) (gs:Array Goroutine) (w:World) (t:Trace) (sl:Option (Nat×Nat)),b.map c.T=L->Ord b gs.size->Ny gs=k->Inv P Q ZC c gs w t->Comes P Q ZC (crowd gs w sl) t:=by
 intro L
 induction L using (Tm.wf (B:=Bool×Goroutine×ZZ)).induction with
 | _ L p=>
  intro k
  induction k using Nat.strongRecOn with
  | _ k C=>
   intro c b gs w t sl D e E h;subst D E;obtain⟨i,g,d,j,n,F,o⟩:=crowd_pick (P:=P) (w:=w) (sl:=sl) h.zD h.awake;have H:=h.at d;have r:i<gs.size:=TR n;rcases H.step n F with⟨v,es,rfl,I,J⟩|⟨f,s,x⟩
   .have y:=runT_many_ended (sl:=j) n (by simpa using I);rw[y] at o;exact Comes.last o (J sl w)
   .rcases x with x|K
    .obtain⟨c',A,w',u,y,l,M⟩:=x j;rw[y] at o;refine Comes.next o ?_;rcases M with⟨m,kk,a⟩|⟨m,kk,N,a⟩|⟨m,a,O⟩
     .exact p _ (by rw[a];exact e.one r s kk) _ c' b A w' _ j rfl (by rw[m];exact e) rfl l
     .obtain⟨R,S,U⟩:=e.two r s kk N;exact p _ (by rw[a];exact U) _ c' R A w' _ j rfl (by rw[m];exact S) rfl l
     .exact C _ O c' b A w' _ j (by rw[a]) (by rw[m];exact e) rfl l
    ·
     obtain⟨c',l,kk,a⟩:=h.ghost (f:=f) n K;exact p _ (by rw[a];exact e.one r s kk) _ c' b gs w t sl rfl e rfl l
end
end Go.TL
