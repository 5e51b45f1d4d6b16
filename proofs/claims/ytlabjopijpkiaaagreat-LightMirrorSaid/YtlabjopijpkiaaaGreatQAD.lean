import Derived.Test.YtlabjopijpkiaaaGreatQAC
set_option maxHeartbeats 16000000
set_option maxRecDepth 20000
set_option linter.unusedSectionVars false
set_option linter.unusedSimpArgs false
set_option linter.unusedVariables false
namespace Go.TL
open Go.Conc
open Go.ConcM (OsLater)
open Go.ConcN (sumTo upd sumTo_upd upd_ne upd_same sumTo_congr le_sumTo)
open Go.ConcR (mk)
def kX (O O':Nat->Option aD):Prop:=(∀s o',O' s=some o'->∃o,O s=some o/\o.toSpec=o'.toSpec)/\∀s o,O s=some o->∃o',O' s=some o'/\o.toSpec=o'.toSpec
theorem kX.upd {O:Nat->Option aD} {s:Nat} {o o':aD} (ν:O s=some o) (h:o'.toSpec=o.toSpec):kX O (Go.ConcN.upd O s (some o')):=by
 refine⟨λr q Ψ=>?_,λr q Ψ=>?_⟩
 ·by_cases e:r=s
  ·subst e;rw[upd_same] at Ψ;cases Ψ;exact⟨o,ν,h.symm⟩
  ·rw[upd_ne _ _ e] at Ψ;exact⟨q,Ψ,rfl⟩
 ·by_cases e:r=s
  ·subst e;rw[ν] at Ψ;cases Ψ;exact⟨o',upd_same ..,h.symm⟩
  ·exact⟨q,by rw[upd_ne _ _ e];exact Ψ,rfl⟩
section
variable {H:cl->υ} {ao:Nat->Nat->Option (Array Value×TypeId)} {tok dZ:Nat->Nat->Tok} {O O':Nat->Option aD} {bc:Nat->Nat} {deaf Ic:Nat->Nat} {N gz:Nat} {t:Trace} {a' w w':World}
theorem zV {h:cl} {k:Nat} (dc:∀s o',O' s=some o'->∃o,O s=some o/\o.toSpec=o'.toSpec) (Η:∀i s,dZ i s≠.nil->tok i s≠.nil) (Α:iv tok O t h k):iv dZ O' t h k:=by
 cases h with
 | inl i=>exact Α
 | inr b=>
  refine Α.imp id λh s o ν hb i hi=>?_;obtain⟨kn,J,R⟩:=dc s o ν;exact h s kn J (by rw[R];exact hb) i (Η i s hi)
theorem hK.O1 (h:hK H ao tok O bc deaf N t) (dc:kX O O') (Η:∀i s,dZ i s≠.nil->tok i s≠.nil):hK H ao dZ O' bc deaf N t:=
 ⟨h.race,h.low,h.norel,λk=>(h.perms k).mono λ_=>zV dc.1 Η,h.m',λs o b ν hb=>let ⟨kn,J,R⟩:=dc.1 s o ν;h.cont s kn b J (by rw[R];exact hb),h.hears⟩
theorem hh.lO (h:hh H ao O gz) (dc:kX O O'):hh H ao O' gz:=
 ⟨h.apart,h.high,h.mx,h.fresh,λs o b ν hb=>let ⟨kn,J,R⟩:=dc.1 s o ν;h.jj s kn b J (by rw[R];exact hb),
  λs a7 o o' b ν hY hb dp=>let ⟨kn,J,R⟩:=dc.1 s o ν;let ⟨dq,ς,Κ⟩:=dc.1 a7 o' hY;h.jF s a7 kn dq b J ς (by rw[R];exact hb) (by rw[Κ];exact dp),
  λs o m ν hm=>let ⟨kn,J,R⟩:=dc.1 s o ν;h.n0 s kn m J (by rw[R];exact hm),
  λb hb=>h.dY b λs o ν hi=>let ⟨o',J,R⟩:=dc.2 s o ν;hb s o' J (by rw[<-R];exact hi)⟩
theorem hK.ext (h:hK H ao tok O bc deaf N t) (ψ:hh H ao O gz) (i:Nat) {u:Trace} (hu:∀op∈u,op.g=i) (Β:∀op∈u,op.act.low N) (ι:∀op∈u,∀a,op.act≠.mark (.release a))
  (Η:∀op∈u,∀b,op.act.touch?=some b->∃s o kY off,O s=some o/\dS s o.toSpec kY/\b.loc=.cell ⟨kY,off,none⟩/\(b.kind=.atomic\/(b.kind=.said/\i=bc s)))
  (hd:∀j,Deaf (t++u) j=Ic j):hK H ao tok O bc Ic N (t++u):=by
 refine⟨λsaid=>noRace_append (h.race said) hu λk a κ op Θ b hb η=>?_,λop Θ=>(Array.mem_append.1 Θ).elim (h.low op) (Β op),λop Θ=>(Array.mem_append.1 Θ).elim (h.norel op) (ι op),λk=>?_,λj b v hv k a κ eO=>?_,λs o b ν hb k a κ eO=>?_,hd⟩
 ·obtain⟨s,o,kY,off,J,R,ς,Κ⟩:=Η op Θ b hb;obtain⟨c1,_,_,c4⟩:=η;have eO:mo a.loc kY:=by rw[c1,ς];rfl
  rcases h.cont s o kY J R k a κ eO with aF|⟨aF,aV⟩
  ·exfalso;rcases c4 with x|x|⟨_,x,_⟩
   ·rw[aF] at x;cases x
   ·rcases Κ with y|⟨y,_⟩<;>(rw[y] at x;cases x)
   ·rw[aF] at x;cases x
  ·rcases Κ with y|⟨y,rfl⟩
   ·exfalso;rcases c4 with x|x|⟨_,_,x⟩
    ·rw[aF] at x;cases x
    ·rw[y] at x;cases x
    ·rw[y] at x;cases x
   ·obtain⟨z,Ν,_⟩:=touch_of κ;have:=knows_own Ν;have e:z.g=bc s:=by simpa[Trace.g?,Ν] using aV
    rwa [e] at this
 ·have:c5 (t++u) (iv tok O (t++u) k) (H k):=(h.perms k).others (λx U=>Dx _ U) λop Θ a κ=>by
   obtain⟨s,o,kY,off,J,R,ς,Κ⟩:=Η op Θ a κ;have off:=(ψ.jj s o kY J R).2.1 k;refine⟨λb o' v p Β η=>?_,λb Β hb=>?_⟩
   ·rw[ς] at Β;cases Β;exact absurd ⟨_,η⟩ (off.1 _)
   ·rw[ς] at Β;cases Β
  exact this
 ·rcases lP κ with eo|⟨_,op,Θ,_,hj⟩
  ·exact h.m' j b v hv k a eo eO
  ·obtain⟨s,o,kY,off,J,R,ς,Κ⟩:=Η op Θ a hj;rw[ς] at eO;simp only[mo] at eO;subst eO;rw[(ψ.jj s o kY J R).2.2 j] at hv;cases hv
 ·rcases lP κ with eo|⟨_,op,Θ,Α,hj⟩
  ·rcases h.cont s o b ν hb k a eo eO with x|⟨x,Ο⟩
   ·exact .inl x
   ·obtain⟨z,Ν,_⟩:=touch_of eo;exact .inr ⟨x,by rw[g?_old (lt_size_of_getElem? Ν)];exact Ο⟩
  ·obtain⟨a7,o',kY,off,J,R,ς,Κ⟩:=Η op Θ a hj;rw[ς] at eO;simp only[mo] at eO;subst eO;have es:=ψ.jF s a7 o o' kY ν J hb R;subst es;rcases Κ with x|⟨x,y⟩
   ·exact .inl x
   ·exact .inr ⟨x,by simp[Trace.g?,Α,hu op Θ,y]⟩
theorem c5.sub {iq:Nat->Prop} {G G':υ} (h:c5 t iq G) (ν:Sub G' G):c5 t iq G':=
 ⟨λb o v p η i a κ Β hw=>let ⟨e2,af,χ⟩:=ν.av b o v p η;h.av b o v e2 af i a κ Β (hw.imp χ id),λb ⟨x,U⟩ i a κ Β=>h.obj b ⟨x,ν.obj b x U⟩ i a κ Β⟩
theorem c5.join {iq:Nat->Prop} {G E:υ} (h:c5 t iq G) (k:c5 t iq E):c5 t iq (Go.TL.join G E):=by
 refine⟨λb o v p η i a κ Β hw=>?_,λb hb i a κ Β=>?_⟩
 ·simp only[Go.TL.join] at η;cases Ο:G.av b o with
  | none=>rw[Ο] at η;exact k.av b o v p η i a κ Β hw
  | some y=>rw[Ο] at η;cases η;exact h.av b o v p Ο i a κ Β hw
 ·obtain⟨x,U⟩:=hb;simp only[Go.TL.join] at U;cases Ο:G.obj b with
  | none=>rw[Ο] at U;exact k.obj b ⟨x,U⟩ i a κ Β
  | some y=>exact h.obj b ⟨y,Ο⟩ i a κ Β
theorem c5.empty {iq:Nat->Prop}:c5 t iq υ.empty:=⟨λ_ _ _ _ h=>(by cases h),λ_ ⟨_,h⟩=>(by cases h)⟩
theorem c5.release {i b:Nat} {G:υ} {y:MemOp} (h:c5 t (Knows t i) G) (Ο:y.g=i) (ad:y.act=.mark (.releaseMerge ⟨b,0,none⟩)) (hd:Deaf t i=0):c5 (t++#[y]) (iv tok O (t++#[y]) (.inr b)) G:=by
 have ix:(t++#[y])[t.size]?=some y:=by simp
 have xf:(t++#[y]).heard t.size:=⟨i,by simp[Trace.g?,Ο],by rw[deaf_old (Nat.le_refl _)];exact hd⟩
 have key:∀k,Knows t i k->iv tok O (t++#[y]) (.inr b) k:=λk Α=>.inl ⟨t.size,y,ix,ad,xf,.inr (Α.hb_new (Nat.le_refl _) ix Ο)⟩
 have nt:∀k a,touchAt (t++#[y]) k=some a->touchAt t k=some a:=λk a κ=>by
  rcases lP κ with eo|⟨_,op,Θ,_,hj⟩
  ·exact eo
  ·simp at Θ;subst Θ;rw[ad] at hj;simp[MemAct.touch?] at hj
 exact⟨λnb o v p η k a κ Β hw=>key k (h.av nb o v p η k a (nt k a κ) Β hw),λnb hb k a κ Β=>key k (h.obj nb hb k a (nt k a κ) Β)⟩
theorem c5.acquire {i b s:Nat} {o:aD} {E:υ} {y:MemOp} (h:c5 t (iv tok O t (.inr b)) E) (dN:∀op∈t,∀a,op.act≠.mark (.release a)) (ν:O s=some o) (hb:dS s o.toSpec b) (hi:tok i s≠.nil)
  (Ο:y.g=i) (ad:y.act=.mark (.acquire ⟨b,0,none⟩)) (hd:Deaf t i=0):c5 (t++#[y]) (Knows (t++#[y]) i) E:=by
 have ix:(t++#[y])[t.size]?=some y:=by simp
 have xf:(t++#[y]).heard t.size:=⟨i,by simp[Trace.g?,Ο],by rw[deaf_old (Nat.le_refl _)];exact hd⟩
 have key:∀k,iv tok O t (.inr b) k->Knows (t++#[y]) i k:=λk Α=>by
  rcases Α with⟨p,op,J,R,ς,Κ⟩|Α
  ·have χ:=lt_size_of_getElem? J;refine⟨t.size,y,ix,Ο,.inr ((Κ.app #[y]).hb (.single (.inr ⟨.marked (a:=⟨b,0,none⟩) χ (.inr ?_) ?_ ?_,(heard_old χ).2 ς,xf⟩)))⟩
   ·rw[act?_old χ,act?_of J,R]
   ·rw[act?_of ix,ad]
   ·intro Χ h3 eI jk;rw[act?_old eI] at jk;obtain⟨qo,iy,hj⟩:=Option.map_eq_some_iff.1 jk;exact dN qo (mem_of_getElem? iy) _ hj
  ·exact(Α s o ν hb i hi).app _
 have nt:∀k a,touchAt (t++#[y]) k=some a->touchAt t k=some a:=λk a κ=>by
  rcases lP κ with eo|⟨_,op,Θ,_,hj⟩
  ·exact eo
  ·simp at Θ;subst Θ;rw[ad] at hj;simp[MemAct.touch?] at hj
 exact⟨λnb o v p η k a κ Β hw=>key k (h.av nb o v p η k a (nt k a κ) Β hw),λnb hb k a κ Β=>key k (h.obj nb hb k a (nt k a κ) Β)⟩
theorem Knows.spawn {i j k:Nat} {y z:MemOp} (h:Knows t i k) (Ie:y.g=i) (ad:y.act=.go j) (DK:z.g=j) (Ν:z.act=.start) (hd:Deaf t i=0) (O2:Deaf t j=0):Knows (t++#[y,z]) j k:=by
 have s3:(t++#[y,z])[t.size]?=some y:=by simp
 have n2:(t++#[y,z])[t.size+1]?=some z:=by simp
 have d1:(t++#[y,z]).heard t.size:=⟨i,by simp[Trace.g?,Ie],by rw[deaf_old (Nat.le_refl _)];exact hd⟩
 have d2:(t++#[y,z]).heard (t.size+1):=⟨j,by simp[Trace.g?,DK],by
  rw[deaf_succ s3];have:deafStep j ((t++#[y,z]).deaf j t.size) y=(t++#[y,z]).deaf j t.size:=by simp[deafStep,ad]
  rw[this,deaf_old (Nat.le_refl _)];exact O2⟩
 have Δ:=h.hb_new (u:=#[y,z]) (Nat.le_refl _) s3 Ie
 have Ε:HappensBefore (t++#[y,z]) t.size (t.size+1):=.single (.inr ⟨.spawn (child:=j) (by rw[act?_of s3,ad]) (by rw[act?_of n2,Ν]) (by simp[Trace.g?,DK]),d1,d2⟩);exact⟨t.size+1,z,n2,DK,.inr (Δ.trans Ε)⟩
theorem Sub.refl (G:υ):Sub G G:=⟨λ_ _ _ p h=>⟨p,h,id⟩,λ_ _ h=>h,λ_ _ h=>h⟩
theorem Sub.owns {G G':υ} (h:Sub G' G) {b o:Nat} (x:G'.owns b o):G.owns b o:=let ⟨v,hv⟩:=x;let ⟨p,af,χ⟩:=h.av b o v true hv;⟨v,by rw[af,χ rfl]⟩
theorem Sub.has {G G':υ} (h:Sub G' G) {b o:Nat} (x:G'.has b o):G.has b o:=let ⟨v,hv⟩:=x;let ⟨p,af,_⟩:=h.av b o v.1 v.2 hv;⟨_,af⟩
theorem Sub.eE {G G':υ} (h:Sub G' G) {b:Nat} (x:G'.eE b):G.eE b:=let ⟨v,hv⟩:=x;⟨v,h.obj b v hv⟩
theorem Sub.off {G G':υ} (h:Sub G' G) {b:Nat} (x:G.off b):G'.off b:=⟨λo ω=>x.1 o (h.has ω),λω=>x.2 (h.eE ω)⟩
theorem Sub.fits {G G':υ} (h:Sub G' G) (x:Fits G w):Fits G' w:=⟨λb o v p η=>let ⟨e2,af,_⟩:=h.av b o v p η;x.av b o v e2 af,λb t n ι=>x.row b t n (h.row b _ ι),λb v hv=>x.obj b v (h.obj b v hv)⟩
theorem Apart.symm {A B:υ} (h:Apart A B):Apart B A:=⟨h.oZ,h.av,λb hb κ=>h.obj b κ hb⟩
theorem Apart.sub {A B Ig B':υ} (h:Apart A B) (κ:Sub Ig A) (hb:Sub B' B):Apart Ig B':=
 ⟨λb o x y=>h.av b o (κ.owns x) (hb.has y),λb o x y=>h.oZ b o (hb.owns x) (κ.has y),λb x y=>h.obj b (κ.eE x) (hb.eE y)⟩
theorem Apart.rz (A:υ):Apart A υ.empty:=⟨λ_ _ _ ⟨_,h⟩=>(by cases h),λ_ _ ⟨_,h⟩=>(by cases h),λ_ _ ⟨_,h⟩=>(by cases h)⟩
theorem DL {G E:υ} {b o:Nat} (h:(join G E).owns b o):G.owns b o\/E.owns b o:=by
 obtain⟨v,hv⟩:=h;simp only[join] at hv;cases Ο:G.av b o with
 | none=>rw[Ο] at hv;exact .inr ⟨v,hv⟩
 | some y=>rw[Ο] at hv;cases hv;exact .inl ⟨v,Ο⟩
theorem Ih {G E:υ} {b o:Nat} (h:(join G E).has b o):G.has b o\/E.has b o:=by
 obtain⟨v,hv⟩:=h;simp only[join] at hv;cases Ο:G.av b o with
 | none=>rw[Ο] at hv;exact .inr ⟨v,hv⟩
 | some y=>exact .inl ⟨y,Ο⟩
theorem zW {G E:υ} {b:Nat} (h:(join G E).eE b):G.eE b\/E.eE b:=by
 obtain⟨v,hv⟩:=h;simp only[join] at hv;cases Ο:G.obj b with
 | none=>rw[Ο] at hv;exact .inr ⟨v,hv⟩
 | some y=>exact .inl ⟨y,Ο⟩
theorem O3 {G E:υ} {b:Nat} (h:G.off b) (k:E.off b):(join G E).off b:=⟨λo ω=>(Ih ω).elim (h.1 o) (k.1 o),λω=>(zW ω).elim h.2 k.2⟩
theorem xg {G E:υ} (h:Fits G w) (k:Fits E w):Fits (join G E) w:=by
 refine⟨λb o v p η=>?_,λb t n ι=>?_,λb v hv=>?_⟩
 ·simp only[join] at η;cases Ο:G.av b o with
  | none=>rw[Ο] at η;exact k.av b o v p η
  | some y=>rw[Ο] at η;cases η;exact h.av b o v p Ο
 ·simp only[join] at ι;cases Ο:G.row b with
  | none=>rw[Ο] at ι;exact k.row b t n ι
  | some y=>rw[Ο] at ι;cases ι;exact h.row b t n Ο
 ·simp only[join] at hv;cases Ο:G.obj b with
  | none=>rw[Ο] at hv;exact k.obj b v hv
  | some y=>rw[Ο] at hv;cases hv;exact h.obj b v Ο
theorem Apart.o8 {A B C:υ} (h:Apart A C) (k:Apart B C):Apart (join A B) C:=
 ⟨λb o x y=>(DL x).elim (λz=>h.av b o z y) (λz=>k.av b o z y),λb o x y=>(Ih y).elim (λz=>h.oZ b o x z) (λz=>k.oZ b o x z),λb x y=>(zW x).elim (λz=>h.obj b z y) (λz=>k.obj b z y)⟩
theorem s4 (w:World):Fits υ.empty w:=⟨λ_ _ _ _ h=>(by cases h),λ_ _ _ h=>(by cases h),λ_ _ h=>(by cases h)⟩
theorem hh.two (h:hh H ao O gz) {a b:cl} (jH:a≠b) {A B:υ} (bG:Sub A (join (H a) (H b))) (gY:Sub B (join (H a) (H b))) (Ii:Apart A B)
  (dc:kX O O') (Ij:∀x,b=.inr x\/a=.inr x->∃s o,O s=some o/\dS s o.toSpec x):hh (bt (bt H a A) b B) ao O' gz:=by
 have c0:=h.lO dc
 have s5:bt (bt H a A) b B a=A:=by rw[bu _ _ jH,dm]
 have s6:bt (bt H a A) b B b=B:=dm _ _ _
 have o9:∀k,k≠a->k≠b->bt (bt H a A) b B k=H k:=λk J R=>by rw[bu _ _ R,bu _ _ J]
 have zX:∀k,k≠a->k≠b->Apart (join (H a) (H b)) (H k):=λk J R=>(h.apart a k (Ne.symm J)).o8 (h.apart b k (Ne.symm R))
 have Ik:∀x,(∀k,(H k).off x)->(join (H a) (H b)).off x:=λx U=>O3 (U a) (U b)
 have DN:∀{p:cl->Prop},p a->p b->(∀k,k≠a->k≠b->p k)->∀k,p k:=λrA rB O4 k=>by
  by_cases J:k=a
  ·rw[J];exact rA
  ·by_cases R:k=b
   ·rw[R];exact rB
   ·exact O4 k J R
 have Il:∀x,(∀k,(H k).off x)->∀k,(bt (bt H a A) b B k).off x:=λx U=>DN (by rw[s5];exact bG.off (Ik x U)) (by rw[s6];exact gY.off (Ik x U)) (λk J R=>by rw[o9 k J R];exact U k);refine⟨λp q xh=>?_,?_,?_,λi x v hv=>?_,λs o x ν U=>?_,c0.jF,c0.n0,λx U=>?_⟩
 ·by_cases rA:p=a
  ·subst rA;by_cases uM:q=b
   ·subst uM;rw[s5,s6];exact Ii
   ·rw[s5,o9 q (Ne.symm xh) uM];exact(zX q (Ne.symm xh) uM).sub bG (Sub.refl _)
  ·by_cases rB:p=b
   ·subst rB;by_cases uN:q=a
    ·subst uN;rw[s5,s6];exact Ii.symm
    ·rw[s6,o9 q uN (Ne.symm xh)];exact(zX q uN (Ne.symm xh)).sub gY (Sub.refl _)
   ·by_cases uN:q=a
    ·subst uN;rw[s5,o9 p rA rB];exact((zX p rA rB).sub bG (Sub.refl _)).symm
    ·by_cases uM:q=b
     ·subst uM;rw[s6,o9 p rA rB];exact((zX p rA rB).sub gY (Sub.refl _)).symm
     ·rw[o9 p rA rB,o9 q uN uM];exact h.apart p q xh
 ·exact DN (λx o ω=>by rw[s5] at ω;exact(DL (bG.owns ω)).elim (h.high _ _ _) (h.high _ _ _)) (λx o ω=>by rw[s6] at ω;exact(DL (gY.owns ω)).elim (h.high _ _ _) (h.high _ _ _)) (λk J R x o ω=>by rw[o9 k J R] at ω;exact h.high _ _ _ ω)
 ·exact DN (λx ω=>by rw[s5] at ω;exact(zW (bG.eE ω)).elim (h.mx _ _) (h.mx _ _)) (λx ω=>by rw[s6] at ω;exact(zW (gY.eE ω)).elim (h.mx _ _) (h.mx _ _)) (λk J R x ω=>by rw[o9 k J R] at ω;exact h.mx _ _ ω)
 ·obtain⟨a1,bg,cr⟩:=h.fresh i x v hv;exact⟨a1,Il x bg,cr⟩
 ·obtain⟨a1,bg,cr⟩:=c0.jj s o x ν U;exact⟨a1,Il x bg,cr⟩
 ·have gP:(.inr x:cl)≠b:=λe=>by
   obtain⟨s,o,ν,hi⟩:=Ij x (.inl e.symm);obtain⟨o',J,R⟩:=dc.2 s o ν;exact U s o' J (by rw[<-R];exact hi)
  have fl:(.inr x:cl)≠a:=λe=>by
   obtain⟨s,o,ν,hi⟩:=Ij x (.inr e.symm);obtain⟨o',J,R⟩:=dc.2 s o ν;exact U s o' J (by rw[<-R];exact hi)
  rw[o9 _ fl gP];exact c0.dY x U
theorem Sub.o8 {G E A:υ} (h:Sub A G):Sub A (join G E):=
 ⟨λb o v p η=>let ⟨e2,af,χ⟩:=h.av b o v p η;⟨e2,by simp[join,af],χ⟩,λb x U=>by simp[join,h.row b x U],λb x U=>by simp[join,h.obj b x U]⟩
theorem gj.two (h:gj H ao O a' w) {a b:cl} {A B:υ} (bG:Fits A w) (gY:Fits B w) (dc:∀s o',O' s=some o'->dF s o' w):gj (bt (bt H a A) b B) ao O' a' w:=by
 refine⟨λk=>?_,h.kV,dc,h.keep⟩;by_cases R:k=b
 ·subst R;rw[dm];exact gY
 ·rw[bu _ _ R];by_cases J:k=a
  ·subst J;rw[dm];exact bG
  ·rw[bu _ _ J];exact h.fit k
theorem gj.atom (h:gj H ao O a' w) (ψ:hh H ao O gz) (af:a'.heap.size=gz) {s:Nat} {o o':aD} (ν:O s=some o) (bF:o'.toSpec=o.toSpec) (Α:e0 (λb _=>dS s o.toSpec b) (λ_=>False) w w') (κ:dF s o' w') :
  gj H ao (Go.ConcN.upd O s (some o')) a' w':=by
 refine⟨λk=>(h.fit k).keeps Α (λb dq hb=>((ψ.jj s o b ν hb).2.1 k).1 dq) (λb hb=>hb.elim),λj b c t hb=>?_,λr q Ψ=>?_,?_⟩
 ·obtain⟨c',J,R,ς⟩:=Α.cells b c t _ (h.kV j b c t hb);have:c'=c:=by
   apply Array.ext_getElem?;intro dq;exact ς dq λdp=>by rw[(ψ.jj s o b ν dp).2.2 j] at hb;cases hb
  rw[J,this]
 ·by_cases e:r=s
  ·subst e;rw[upd_same] at Ψ;cases Ψ;exact κ
  ·rw[upd_ne _ _ e] at Ψ;have w8:∀b c t,dS r q.toSpec b->w.heap[b]?=some (.cells c t (0,0))->w'.heap[b]?=some (.cells c t (0,0)):=λb c t hb η=>by
    obtain⟨c',J,R,ς⟩:=Α.cells b c t _ η;have:c'=c:=by
     apply Array.ext_getElem?;intro dq;exact ς dq λdp=>e (ψ.jF r s q o b Ψ ν hb dp)
    rw[J,this]
   obtain⟨⟨ty,J⟩,R⟩:=h.e' r q Ψ;exact⟨⟨ty,w8 _ _ _ (.inl rfl) J⟩,λm hm=>let ⟨ir,ς⟩:=R m hm;⟨ir,w8 _ _ _ (.inr hm) ς⟩⟩
 ·have ee:=h.keep;refine⟨Nat.le_trans ee.size Α.size,λb c t dz hb=>?_,λb x hb U _=>Α.lO b x (ee.lO b x hb U id) U id,ee.os.trans Α.os,Α.output.trans ee.output,Α.tape.trans ee.tape⟩;obtain⟨c1,J,R,ς⟩:=ee.cells b c t dz hb;obtain⟨c2,Κ,aF,aV⟩:=Α.cells b c1 t dz J;refine⟨c2,Κ,by rw[aF,R],λdq _=>?_⟩;rw[aV dq λU=>?_,ς dq id];have:=(ψ.jj s o b ν U).1;have:=e1 hb;omega
end
structure uO (H:cl->υ) (tok:Nat->Nat->Tok) (O:Nat->Option aD):Prop where
 n3:∀s o m,O s=some o->o.aI=some m->(∀i q p,tok i s≠.par q p .bf)->(∀i k L g,tok i s≠.ch k (.cW L) g)->o.bw o.L (H (.inr m))
 kZ:∀s o,O s=some o->(∀i q p,tok i s≠.par q p .bf)->ko o.D o.ag (H (.inr s))
structure s7 (n:Nat) (tok:Nat->Nat->Tok) (rel:Nat->Bool) (bc home df:Nat->Nat) (t:Trace):Prop where
 dA:∀k g,t.g? k=some g->g<n
 c1:∀i,i≠0->rel i=true->∃op,t[df i]?=some op/\op.g=i/\op.act=.mark (.releaseMerge ⟨home i,0,none⟩)/\t.heard (df i)/\∀k,t.g? k=some i->t.counts k->Before t k (df i)
 c2:∀i,i≠0->rel i=true->(∃q p,tok (bc (home i)) (home i)=.par q p .bf)->Knows t (bc (home i)) (df i)
 c3:∀i,i≠0->rel i=true->bc (home i)≠0->rel (bc (home i))=true->Before t (df i) (df (bc (home i)))
structure uP (ao:Nat->Nat->Option (Array Value×TypeId)) (tok:Nat->Nat->Tok) (O:Nat->Option aD) (rel:Nat->Bool) (df:Nat->Nat) (t:Trace):Prop where
 h2:∀s o m,O s=some o->o.aI=some m->∀p op,t[p]?=some op->op.act=.mark (.releaseMerge ⟨m,0,none⟩)->(∃k mu g,tok op.g s=.ch k mu g)/\(rel op.g=true->Before t p (df op.g))
 s8:∀i b v,ao i b=some v->∀op∈t,op.act≠.mark (.releaseMerge ⟨b,0,none⟩)
def Rec (P:Program) (Q:Value->Prop) (c:cN) (i:Nat) (g:Goroutine):Prop:=
 ∃cI,iu P Q (c.T i) (i==0) cI (c.x i)/\(g=cI\/(hJ cI/\g={cI with status:=.blocked}/\∃s o,c.O s=some o/\iU o (c.tok i s)/\∀a7,a7≠s->lU (c.tok i a7)))
structure Inv (P:Program) (Q:Value->Prop) (a':World) (c:cN) (gs:Array Goroutine) (w:World) (t:Trace):Prop where
 pos:0<gs.size
 mem:gj c.H c.ao c.O a' w
 hold:hh c.H c.ao c.O a'.heap.size
 bD:hK c.H c.ao c.tok c.O c.bc c.deaf w.heap.size t
 a2:ek gs.size c.tok c.spec c.view c.rel c.O c.bc c.home
 dY:uO c.H c.tok c.O
 dL:s7 gs.size c.tok c.rel c.bc c.home c.df t
 fS:uP c.ao c.tok c.O c.rel c.df t
 s9:∀i g,gs[i]?=some g->Rec P Q c i g
theorem xi {t u:Trace} {k:Nat} (h:k<t.size):(t++u).counts k↔t.counts k:=by
 unfold Trace.counts;rw[act?_old h,heard_old h]
theorem s7.app {n:Nat} {tok dZ:Nat->Nat->Tok} {rel:Nat->Bool} {bc home df:Nat->Nat} {t u:Trace} (h:s7 n tok rel bc home df t) {i:Nat} (hi:i<n) (hu:∀op∈u,op.g=i)
  (η:rel i=true->∀k,t.size<=k->¬(t++u).counts k) (Α:∀s q p,(∃j,dZ j s=.par q p .bf)->∃j,tok j s=.par q p .bf) (xj:∀j s q p,dZ j s=.par q p .bf->tok j s=.par q p .bf):s7 n dZ rel bc home df (t++u):=by
 refine⟨λk g Ο=>?_,λj af γ=>?_,λj af γ b3=>?_,λj af γ J R=>(h.c3 j af γ J R).app u⟩
 ·obtain⟨op,ω,gA⟩:=Option.map_eq_some_iff.1 Ο;rcases getElem?_append_cases ω with⟨_,iy⟩|⟨_,fw⟩
  ·exact h.dA k g (by simp[Trace.g?,iy,gA])
  ·rw[<-gA,hu op fw];exact hi
 ·obtain⟨op,J,R,ς,Κ,aF⟩:=h.c1 j af γ;have χ:=lt_size_of_getElem? J;refine⟨op,by rw[getElem?_append_old χ];exact J,R,ς,(heard_old χ).2 Κ,λk Ο ni=>?_⟩;obtain⟨qo,ω,gA⟩:=Option.map_eq_some_iff.1 Ο;rcases getElem?_append_cases ω with⟨ar,iy⟩|⟨hle,fw⟩
  ·exact(aF k (by simp[Trace.g?,iy,gA]) ((xi ar).1 ni)).app u
  ·have e:j=i:=by rw[<-gA,hu qo fw]
   subst e;exact absurd ni (η γ k hle)
 ·obtain⟨q,p,Ψ⟩:=b3;exact(h.c2 j af γ ⟨q,p,xj _ _ _ _ Ψ⟩).app u
section
variable {P:Program} {Q:Value->Prop} {a':World} {c:cN} {gs:Array Goroutine} {w:World} {t:Trace}
theorem Inv.stat (h:Inv P Q a' c gs w t) {i:Nat} {g:Goroutine} (Ο:gs[i]?=some g):g.status=.running\/(i≠0/\g.status=.finished/\c.rel i=true/\∀s,Gone (c.tok i s))\/(g.status=.blocked/\∃s o,c.O s=some o/\iU o (c.tok i s)/\∀a7,a7≠s->lU (c.tok i a7)):=by
 obtain⟨cI,ι,η⟩:=h.s9 i g Ο;rcases η with rfl|⟨_,rfl,hw⟩
 ·cases Ζ:c.T i with
  | leaf=>
   rw[Ζ] at ι;rcases ι.2 with⟨_,J⟩|⟨af,J,R,ς,_⟩
   ·exact .inl J.1.1
   ·exact .inr (.inl ⟨by rintro rfl;simp at af,ς,J,R⟩)
  | node f=>
   rw[Ζ] at ι;rcases ι.2 with(⟨_,J⟩|⟨af,J,R,ς,_⟩)|J
   ·exact .inl J.1.1
   ·exact .inr (.inl ⟨by rintro rfl;simp at af,ς,J,R⟩)
   ·rcases J with⟨_,R,_⟩|⟨R,_⟩
    ·exact .inl R
    ·exact .inl R.1
 ·exact .inr (.inr ⟨rfl,hw⟩)
theorem O5 {t:Tok} (h:m8 t):∃k m g,t=.ch k m g/\¬lU t/\(∀o,¬iU o t)/\m≠.done/\m≠.idle:=by
 cases t with
 | nil=>exact h.elim
 | par=>exact h.elim
 | ch k m g=>
  refine⟨k,m,g,rfl,?_⟩;cases m with
  | act b=>cases b<;>first|exact h.elim|simp[lU,iU]
  | _=>first|exact h.elim|simp[lU,iU]
theorem Inv.awake (h:Inv P Q a' c gs w t):∃(i:Nat) (g:Goroutine),gs[i]?=some g/\g.status=.running:=by
 apply Classical.byContradiction;intro O6;have gX:∀i,i<gs.size->(c.rel i=true/\∀s,Gone (c.tok i s))\/∃s o,c.O s=some o/\iU o (c.tok i s)/\∀a7,a7≠s->lU (c.tok i a7):=λi hi=>by
  have Ο:gs[i]?=some gs[i]:=eM hi;rcases h.stat Ο with J|⟨_,_,J⟩|⟨_,J⟩
  ·exact absurd ⟨i,_,Ο,J⟩ O6
  ·exact .inl J
  ·exact .inr J
 have up:∀i s o n p,c.O s=some o->c.tok i s=.par n p .w3->o.cn=0->∃j a7 o' hZ ef,i<j/\j<gs.size/\c.O a7=some o'/\c.tok j a7=.par hZ ef .w3/\o'.cn=0:=λi s o n p ν Η af=>by
  have aY:i<gs.size:=h.a2.lt (s:=s) (by rw[Η];simp);obtain⟨j,γ,cj⟩:=OM (h.a2.a5 s o ν).2 (i:=i) aY Η af;have k0:o5 (c.tok j s):=cj;have s':∃k m g,c.tok j s=.ch k m g/\g≠.gone:=by
   cases U:c.tok j s with
   | nil=>rw[U] at k0;exact k0.elim
   | par=>rw[U] at k0;exact k0.elim
   | ch k m g=>rw[U] at k0;exact⟨k,m,g,rfl,by rintro rfl;exact k0⟩
  obtain⟨k,m,g,U,Ο⟩:=s';obtain⟨_,qp,ar⟩:=h.a2.nf j s k m g U;have hi:=h.a2.par i s n p _ Η;rcases gX j γ with⟨_,J⟩|⟨a7,o',hY,hw,aΝ⟩
  ·have:=J s;rw[U] at this;cases g<;>first|exact absurd rfl Ο|exact this.elim
  ·by_cases e:a7=s
   ·subst e;rw[ν] at hY;cases hY;rw[U] at hw;have hm:m=.q/\o.cM=0:=by cases m<;>simp_all [iU]
    obtain⟨rfl,O7⟩:=hm;have Ψ:0<aT gs.size (λa=>c.tok a a7) kh:=by
     have:=eW (λa=>c.tok a a7) kh γ;simp only[U,kh,wQ] at this;omega
    obtain⟨a,κ,hb⟩:=OJ (h.a2.a5 a7 o ν).1 Ψ O7;obtain⟨Χ,bO,g',gN,bs,cF,fD,k2⟩:=O5 hb;have zY:c.tok a a7=.ch Χ bO g':=gN;exfalso;rcases gX a κ with⟨_,J⟩|⟨s2,h4,dG,jl,O8⟩
    ·have qq:=J a7;rw[zY] at qq;have:g'≠.work:=by rintro rfl;exact qq
     rcases h.a2.nh a a7 Χ bO g' o ν zY this with e|⟨e,_⟩
     ·exact fD e
     ·exact k2 e
    ·by_cases Ε:s2=a7
     ·subst Ε;exact cF _ jl
     ·exact bs (O8 a7 (Ne.symm Ε))
   ·cases ad:c.tok j a7 with
    | nil=>rw[ad] at hw;exact hw.elim
    | ch Χ bO g'=>exact absurd ((h.a2.nf j a7 Χ bO g' ad).2.1.symm.trans qp) e
    | par hZ ef DF=>
     rw[ad] at hw;cases DF<;>first|exact hw.elim|exact⟨j,a7,o',hZ,ef,by omega,γ,hY,ad,hw⟩
 have top:∀d i s o n p,gs.size-i=d->i<gs.size->c.O s=some o->c.tok i s=.par n p .w3->o.cn=0->False:=λd=>by
  induction d using Nat.strongRecOn with
  | _ d Γ=>
   intro i s o n p hd hi ν Η af;obtain⟨j,a7,o',hZ,ef,J,R,ς,Κ,aF⟩:=up i s o n p ν Η af;exact Γ (gs.size-j) (by omega) j a7 o' hZ ef rfl R ς Κ aF
 rcases gX 0 h.pos with⟨J,_⟩|⟨s,o,ν,hw,_⟩
 ·rw[h.a2.ru] at J;cases J
 ·cases ad:c.tok 0 s with
  | nil=>rw[ad] at hw;exact hw.elim
  | ch k m g=>exact(h.a2.nf 0 s k m g ad).1 rfl
  | par n p ay=>
   rw[ad] at hw;cases ay<;>first|exact hw.elim|exact top _ 0 s o n p rfl h.pos ν ad hw
theorem Rec.woken {c':cN} {i j:Nat} {g g' b:Goroutine} {w':World} (h:Rec P Q c j b) (U:c'.x j=c.x j) (Ζ:c'.T j=c.T j)
  (hw:(mayWake P g=true/\hJ g')\/∀s o,c.O s=some o->iU o (c.tok j s)->∃o',c'.O s=some o'/\iU o' (c.tok j s)):Rec P Q c' j (Go.Conc.woken P g g' w' b):=by
 have dv:c'.tok j=c.tok j:=congrArg aK.tok U;obtain⟨cI,ι,η⟩:=h;rcases η with rfl|⟨dB,rfl,s,o,ν,pa,cj⟩
 ·have ν:b.status=.running\/b.status=.finished:=by
   cases pb:c.T j with
   | leaf=>
    rw[pb] at ι;rcases ι.2 with⟨_,J⟩|⟨_,_,_,ς,_⟩
    ·exact .inl J.1.1
    ·exact .inr ς
   | node f=>
    rw[pb] at ι;rcases ι.2 with(⟨_,J⟩|⟨_,_,_,ς,_⟩)|J
    ·exact .inl J.1.1
    ·exact .inr ς
    ·rcases J with⟨_,R,_⟩|⟨R,_⟩
     ·exact .inl R
     ·exact .inl R.1
  have:Go.Conc.woken P g g' w' b=b:=by
   unfold Go.Conc.woken;split
   ·exact again_running _ ν
   ·rfl
  rw[this];exact⟨b,by rw[U,Ζ];exact ι,.inl rfl⟩
 ·unfold Go.Conc.woken;split
  ·rename_i zZ;refine⟨cI,by rw[U,Ζ];exact ι,.inl ?_⟩;obtain⟨r1,r2⟩:=dB;obtain⟨ai,bf,st,aΞ,of⟩:=cI;simp only at r1 r2;subst r1 r2;rfl
  ·rename_i zZ;rcases hw with⟨J,R⟩|hw
   ·exfalso;apply zZ;simp[J,R.1]
   ·obtain⟨o',J,R⟩:=hw s o ν pa;exact⟨cI,by rw[U,Ζ];exact ι,.inr ⟨dB,rfl,s,o',J,by rw[dv];exact R,by rw[dv];exact cj⟩⟩
end
section
variable {P:Program} {Q:Value->Prop} {a':World} {c:cN} {gs:Array Goroutine} {w:World} {t:Trace}
theorem Inv.at (h:Inv P Q a' c gs w t) (d:Nat):Inv P Q a' c gs (w.at d) t:=⟨h.pos,h.mem.at d,h.hold,h.bD,h.a2,h.dY,h.dL,h.fS,h.s9⟩
theorem Inv.gone (h:Inv P Q a' c gs w t) (af:∀s,fi (c.tok 0 s)):∀j,j≠0->j<gs.size->c.rel j=true/\(∀s,Gone (c.tok j s))/\Knows t 0 (c.df j):=by
 have O9:∀t:Tok,fi t->Gone t:=λt Η=>by cases t with
  | nil=>trivial
  | par _ _ ay=>cases ay<;>first|exact Η.elim|trivial
  | ch=>exact Η.elim
 intro j
 induction j using Nat.strongRecOn with
 | _ j Γ=>
  intro e4 eH;obtain⟨k,m,g,Η⟩:=h.a2.qm j e4 eH;obtain⟨_,_,ar⟩:=h.a2.nf j _ k m g Η;cases ω:c.O (c.home j) with
  | none=>have:=h.a2.bare _ ω j;rw[Η] at this;cases this
  | some o=>
  have Ι:=h.a2.a5 _ o ω;obtain⟨i0,jm,χ⟩:=zJ (φ:=ep) (N:=gs.size) (τ:=λa=>c.tok a (c.home j)) (by rw[Ι.2.mw];exact Nat.one_pos);have xj:∃q p ay,c.tok i0 (c.home j)=.par q p ay:=by
   cases U:c.tok i0 (c.home j) with
   | par q p ay=>exact⟨q,p,ay,rfl⟩
   | nil=>simp[U,ep] at χ
   | ch=>simp[U,ep] at χ
  obtain⟨q,p,ay,U⟩:=xj;have cw:=h.a2.par i0 _ q p ay U;subst cw;have b3:ay=.bf/\(c.bc (c.home j)≠0->c.rel (c.bc (c.home j))=true/\Knows t 0 (c.df (c.bc (c.home j)))):=by
   by_cases e:c.bc (c.home j)=0
   ·have:=af (c.home j);rw[<-e,U] at this;refine⟨by cases ay<;>first|exact this.elim|rfl,λx=>absurd e x⟩
   ·obtain⟨r1,r2,r3⟩:=Γ _ ar e jm;have:=r2 (c.home j);rw[U] at this;exact⟨by cases ay<;>first|exact this.elim|rfl,λ_=>⟨r1,r3⟩⟩
  obtain⟨rfl,fp⟩:=b3;have rC:aT gs.size (λa=>c.tok a (c.home j)) hg=1:=by
   rw[nX (φ:=hg) (λt Η=>by cases t<;>simp_all [ep,hg]) Ι.2.mw jm (by rw[U];rfl),U];rfl
  obtain⟨f1,f2,f3,f4,f5,f6⟩:=Ι.2.HI rC;have z0:=Ι.2.Dg;have l1:=eW (λa=>c.tok a (c.home j)) h0 eH;have l2:=eW (λa=>c.tok a (c.home j)) iS eH;have qi:=eW (λa=>c.tok a (c.home j)) iT eH;simp only[Η,h0,iS,iT] at l1 l2 qi;have Ο:g=.gone:=by
   cases g with
   | gone=>rfl
   | work=>simp only[qh] at l1;omega
   | rel=>simp only[qh] at l1;omega
   | l2=>simp only[sO] at l2;omega
   | gO=>simp only[sP] at qi;omega
  subst Ο;have dN:c.rel j=true:=(h.a2.n1 j k m _ e4 Η).2 (by simp);refine⟨dN,λs=>?_,?_⟩
  ·by_cases e:s=c.home j
   ·subst e;rw[Η];trivial
   ·exact O9 _ (h.a2.ng j s dN e)
  ·have Α:=h.dL.c2 j e4 dN ⟨q,p,U⟩;by_cases e:c.bc (c.home j)=0
   ·rw[e] at Α;exact Α
   ·obtain⟨r1,r2⟩:=fp e;exact Knows.of_before (h.dL.c3 j e4 dN e r1) r2
theorem Pa {o:aD} {x:Tok} (h:Gone x) (J:∀k m g,x=.ch k m g->m≠.q):¬iU o x:=by
 cases x with
 | nil=>exact id
 | par _ _ ay=>cases ay<;>first|exact h.elim|exact id
 | ch k m g=>cases m<;>first|exact absurd rfl (J _ _ _ rfl)|exact id
theorem Inv.Im (h:Inv P Q a' c gs w t) {g:Goroutine} (Ο:gs[0]?=some g) (ν:HZ P g (c.x 0) Q) (sl:Option (Nat×Nat)) (w1:World) :
  ∃v es,stepG P true g w=.ended (.done v) w es/\Good P (λv w'=>Q v/\e0 (λ_ _=>False) (λ_=>False) a' w') (crowd gs w1 sl) (.done v) w (t++MemOp.ofEvents 0 g.frame.fn g.frame.place es):=by
 obtain⟨_,cG,hd,rC⟩:=ν;obtain⟨v,es,J,R,ς⟩:=rC w (h.mem.fit (.inl 0));refine⟨v,es,J,v,rfl,⟨ς,h.mem.keep⟩,?_⟩;have DO:=h.gone cG;have Io:=h.bD.own (w':=w) h.mem h.hold 0 (G':=c.H (.inl 0)) (V':=c.ao 0) (es:=es) (fn:=g.frame.fn) (pos:=g.frame.place) (Nat.le_refl _)
  ⟨λb o v p η=>.inr ⟨v,p,η,id⟩,λb hb=>.inr hb⟩ (λb x U=>.inl U) R (λb x U hle=>by
   have:=e1 (h.mem.kV 0 b x.1 x.2 U);omega)
 have quit:∀j x,j≠0->gs[j]?=some x->∃n,QuitsD P n (c.deaf j) x:=λj x γ U=>by
  have eH:=(Array.getElem?_eq_some_iff.1 U).1;obtain⟨r1,r2,_⟩:=DO j γ eH;obtain⟨cI,ι,η⟩:=h.s9 j x U;have Ψ:∃n,QuitsD P n (c.deaf j) cI:=by
   cases Ζ:c.T j with
   | leaf=>rw[Ζ] at ι;exact ι.1 r1 r2
   | node f=>rw[Ζ] at ι;exact ι.1 r1 r2
  rcases η with rfl|⟨_,_,s,o,ν,hw,_⟩
  ·exact Ψ
  ·refine absurd hw (Pa (r2 s) λk m g e hm=>?_);subst hm;have pd:g≠.work:=by rintro rfl;have:=r2 s;rw[e] at this;exact this
   rcases h.a2.nh j s k _ g o ν e pd with x|⟨x,_⟩<;>cases x
 refine⟨Io.race,λk g' Α bd η=>?_,⟨λx U=>?_,rfl⟩,λj x U γ=>?_⟩
 ·obtain⟨op,ω,gA⟩:=Option.map_eq_some_iff.1 Α;rcases getElem?_append_cases ω with⟨ar,iy⟩|⟨_,fw⟩
  ·have gB:t.g? k=some g':=by simp[Trace.g?,iy,gA]
   have Pb:=h.dL.dA k g' gB;obtain⟨r1,_,r3⟩:=DO g' bd Pb;obtain⟨qo,Δ,Ε,a3,cg,eF⟩:=h.dL.c1 g' bd r1;obtain⟨q,z,xk,z1,DQ⟩:=Knows.of_before (eF k gB ((xi ar).1 η)) r3;refine⟨q,by simp[Trace.g?,getElem?_append_old (lt_size_of_getElem? xk),xk,z1],?_⟩;rcases DQ with rfl|DQ
   ·exfalso;simp[Trace.g?,xk,z1] at gB;exact bd gB.symm
   ·exact hb_app _ DQ
  ·obtain⟨e,_,rfl⟩:=Go.Conc.mem_ofEvents fw;exact absurd gA.symm bd
 ·obtain⟨j,γ⟩:=List.mem_iff_getElem?.1 U;rw[List.getElem?_drop] at γ;obtain⟨n,Ψ⟩:=quit (1+j) x (by omega) (by simpa[crowd] using γ);exact⟨n,Ψ.leaves⟩
 ·obtain⟨n,Ψ⟩:=quit j x γ U;refine⟨n,?_⟩;have e:(t++MemOp.ofEvents 0 g.frame.fn g.frame.place es).deaf j (t++MemOp.ofEvents 0 g.frame.fn g.frame.place es).size=c.deaf j:=Io.hears j;rw[e];exact Ψ.hears _
def Comes (P:Program) (Q:Value->Prop) (a':World) (m:Machine) (t:Trace):Prop:=
 ∃N last o w' t',runNT P (N+1) m t=(.ended o w',t')/\runN P N m=.next last/\step P last=.ended o w'/\Good P (λv w'=>Q v/\e0 (λ_ _=>False) (λ_=>False) a' w') last o w' t'
theorem Comes.next {m bO:Machine} {u:Trace} (ν:stepT P m=(.next bO,u)) (h:Comes P Q a' bO (t++u)):Comes P Q a' m t:=by
 obtain⟨n,last,o,w,t',J,R,ς,Κ⟩:=h;exact⟨n+1,last,o,w,t',by rw[runNT_succ_next ν];exact J,by rw[runN_succ_next ν];exact R,ς,Κ⟩
theorem Comes.last {m:Machine} {u:Trace} {o:Outcome} {w:World} (ν:stepT P m=(.ended o w,u)) (Ο:Good P (λv w'=>Q v/\e0 (λ_ _=>False) (λ_=>False) a' w') m o w (t++u)):Comes P Q a' m t:=
 ⟨0,m,o,w,t++u,by simp[runNT,ν],rfl,by simp[step,ν],Ο⟩
def uQ (gs:Array Goroutine):Nat:=(gs.toList.filter λg=>decide (g.status=.running)).length
structure Ord (iz:List Nat) (n:Nat):Prop where
 nodup:iz.Nodup
 mem:∀i,i∈iz↔i<n
theorem Ord.part {iz:List Nat} {n i:Nat} (h:Ord iz n) (hi:i<n):∃a b,iz=a++i::b/\i∉a/\i∉b:=by
 obtain⟨a,b,rfl⟩:=List.append_of_mem ((h.mem i).2 hi);have:=h.nodup;rw[List.nodup_append] at this;obtain⟨_,R,ς⟩:=this;rw[List.nodup_cons] at R;exact⟨a,b,rfl,λκ=>ς i κ i (by simp) rfl,R.1⟩
theorem uR {B:Type} {T:Nat->B} {i:Nat} {x:B} {l:List Nat} (h:i∉l):l.map (upd T i x)=l.map T:=by
 apply List.map_congr_left;intro j γ;exact upd_ne _ _ (λe=>h (e▸γ))
theorem Ord.one {B:Type} {iz:List Nat} {n i:Nat} (h:Ord iz n) (hi:i<n) {T:Nat->fu B} {f:B->fu B} (Ζ:T i=.node f) (k:B):lR (iz.map (upd T i (f k))) (iz.map T):=by
 obtain⟨a,b,rfl,κ,hb⟩:=h.part hi;simp only[List.map_append,List.map_cons,uR κ,uR hb,upd_same,Ζ];exact .one _ _ _ _
theorem Ord.two {B:Type} {iz:List Nat} {n i:Nat} (h:Ord iz n) (hi:i<n) {T:Nat->fu B} {f:B->fu B} (Ζ:T i=.node f) (k Χ:B) :
  ∃z2,Ord z2 (n+1)/\lR (z2.map (upd (upd T i (f k)) n (f Χ))) (iz.map T):=by
 have my:n∉iz:=λU=>by have:=(h.mem n).1 U;omega
 obtain⟨a,b,rfl,κ,hb⟩:=h.part hi;have k3:n∉a:=λU=>my (by simp[U]);have Ip:n∉b:=λU=>my (by simp[U]);refine⟨a++i::n::b,⟨?_,λj=>?_⟩,?_⟩
 ·have:=h.nodup;rw[List.nodup_append] at this ⊢;obtain⟨J,R,ς⟩:=this;rw[List.nodup_cons] at R;refine⟨J,?_,λx U y ad=>?_⟩
  ·rw[List.nodup_cons,List.nodup_cons];exact⟨by simp;exact⟨by omega,R.1⟩,Ip,R.2⟩
  ·simp at ad;rcases ad with rfl|rfl|ad
   ·exact ς x U _ (by simp)
   ·rintro rfl;exact k3 U
   ·exact ς x U y (by simp[ad])
 ·have:=h.mem j;simp only[List.mem_append,List.mem_cons] at this ⊢;constructor
  ·rintro(U|rfl|rfl|U)
   ·have:=this.1 (.inl U);omega
   ·omega
   ·omega
   ·have:=this.1 (.inr (.inr U));omega
  ·intro U;by_cases e:j=n
   ·exact .inr (.inr (.inl e))
   ·rcases this.2 (by omega) with U|rfl|U
    ·exact .inl U
    ·exact .inr (.inl rfl)
    ·exact .inr (.inr (.inr U))
 ·have aY:i≠n:=by omega
  simp only[List.map_append,List.map_cons,uR k3,uR Ip,uR κ,uR hb,upd_same,upd_ne _ _ aY,Ζ];exact .two _ _ _ _ _
end
theorem z3 {B:Type} {f:Nat->B} {k:Nat} {x:B} (h:f k=x):upd f k x=f:=by
 funext j
 by_cases e:j=k
 ·subst e;rw[upd_same,h]
 ·rw[upd_ne _ _ e]
theorem hL (H:cl->υ) (i:Nat) (G:υ) (b:Nat):bt H (.inl i) G (.inr b)=H (.inr b):=bu H G (by simp)
theorem ta (tok:Nat->Nat->Tok) (i s:Nat) (t:Tok):bM tok i s t i=upd (tok i) s t:=by unfold bM;rw[upd_same]
theorem qs {tok:Nat->Nat->Tok} {i s j:Nat} (t:Tok) (h:j≠i):bM tok i s t j=tok j:=by unfold bM;rw[upd_ne _ _ h]
theorem k4 {B:Type} {a:Array B} {k:Nat} {x:B} (h:a[k]?=some x):k<a.size:=(Array.getElem?_eq_some_iff.1 h).1
theorem ofEvents_g {i:Nat} {fn:FuncId} {pos:String} {es:Array Event}:∀op∈MemOp.ofEvents i fn pos es,op.g=i:=λop Θ=>by obtain⟨e,_,rfl⟩:=Go.Conc.mem_ofEvents Θ;rfl
theorem Iq {i:Nat} {fn:FuncId} {pos:String}:MemOp.ofEvents i fn pos #[]=#[]:=by rw[ofEvents_eq];simp
theorem Pd (t:Trace) (i:Nat) (fn:FuncId) (pos:String) (es:Array Event) {j:Nat} (γ:j<=es.size):(t++MemOp.ofEvents i fn pos es).deaf i (t.size+j)=deafBehind (Deaf t i) (es.extract 0 j):=by
 have e:t++MemOp.ofEvents i fn pos es=(t++MemOp.ofEvents i fn pos (es.extract 0 j))++MemOp.ofEvents i fn pos (es.extract j es.size):=by
  rw[Array.append_assoc];congr 1;rw[ofEvents_eq,ofEvents_eq,ofEvents_eq,<-Array.map_append];congr 1;simp only[Array.extract_append_extract];rw[show max j es.size=es.size by omega];simp
 have b2:(t++MemOp.ofEvents i fn pos (es.extract 0 j)).size=t.size+j:=by rw[Array.size_append,ofEvents_eq];simp;omega
 rw[e,deaf_old (by omega),<-b2];exact Deaf_own t i fn pos _
theorem DR {t u:Trace} {k:Nat} (Α:t.size<=k) (η:(t++u).counts k):∃op,u[k-t.size]?=some op/\(t++u)[k]?=some op/\∃x,op.act.touch?=some x/\x.loc.isMemory=true/\(x.kind≠.atomic\/(t++u).heard k):=by
 obtain⟨x,J,R,ς⟩:=η;obtain⟨op,ω,U⟩:=touch_of (t:=t++u) (i:=k) J;exact⟨op,by rw[Array.getElem?_append_right Α] at ω;exact ω,ω,x,U,R,ς⟩
theorem uS {t u:Trace} (h:∀op∈u,op.act.touch?=none):∀k,t.size<=k->¬(t++u).counts k:=λk Α η=>by
 obtain⟨op,J,_,x,ς,_⟩:=DR Α η;rw[h op (mem_of_getElem? J)] at ς;cases ς
theorem Pe {t:Trace} {i:Nat} {fn:FuncId} {pos:String} {es:Array Event} (h:∀e∈es,zM e):∀k,t.size<=k->¬(t++MemOp.ofEvents i fn pos es).counts k:=λk Α η=>by
 obtain⟨op,J,_,x,ς,Κ,_⟩:=DR Α η;obtain⟨e,he,rfl⟩:=Go.Conc.mem_ofEvents (mem_of_getElem? J);obtain⟨loc,wr,na⟩:=e;rcases h _ he with Β|Β<;>simp only at Β<;>subst Β<;>simp[MemAct.ofEvent,MemAct.touch?] at ς;subst ς;simp[Loc.isMemory] at Κ
theorem z4 {s d i:Nat} {sp:Spec} {es:Array Event} {fn:FuncId} {pos:String} (h:m9 s sp d es) {op:MemOp} (ω:op∈MemOp.ofEvents i fn pos es) :
  (op.act=.mark .disable\/op.act=.mark .enable)\/∃b off wr,op.act=.access ⟨.cell ⟨b,off,none⟩,wr,true⟩/\dS s sp b:=by
 obtain⟨e,he,rfl⟩:=Go.Conc.mem_ofEvents ω;obtain⟨j,γ⟩:=Array.mem_iff_getElem?.1 he;obtain⟨loc,wr,na⟩:=e;rcases h.2 j _ γ with Β|Β|⟨b,off,Pf,Β,hb,_⟩
 ·simp only at Β;subst Β;exact .inl (.inl rfl)
 ·simp only at Β;subst Β;exact .inl (.inr rfl)
 ·cases Β;exact .inr ⟨b,off,_,rfl,hb⟩
theorem Pg {t:Trace} {s i:Nat} {sp:Spec} {fn:FuncId} {pos:String} {es:Array Event} (h:m9 s sp (Deaf t i) es):∀k,t.size<=k->¬(t++MemOp.ofEvents i fn pos es).counts k:=λk Α η=>by
 obtain⟨op,J,R,x,ς,Κ,aF⟩:=DR Α η;rw[ofEvents_eq,Array.getElem?_map] at J;obtain⟨e,he,rfl⟩:=Option.map_eq_some_iff.1 J;have ar:k-t.size<es.size:=k4 he;obtain⟨loc,wr,na⟩:=e;rcases h.2 _ _ he with Β|Β|⟨b,off,Pf,Β,hb,hd⟩
 ·simp only at Β;subst Β;simp[MemAct.ofEvent,MemAct.touch?] at ς
 ·simp only at Β;subst Β;simp[MemAct.ofEvent,MemAct.touch?] at ς
 ·cases Β;simp[MemAct.ofEvent,MemAct.touch?] at ς;subst ς;rcases aF with aF|⟨g,Ο,Ν⟩
  ·exact aF rfl
  ·simp[Trace.g?,R] at Ο;subst Ο;have:=Pd t i fn pos es (Nat.le_of_lt ar);rw[show t.size+(k-t.size)=k by omega] at this;rw[this] at Ν;omega
section
variable {P:Program} {Q:Value->Prop} {a':World} {c c':cN} {gs:Array Goroutine} {w w':World} {t:Trace} {i:Nat} {g g':Goroutine} {es:Array Event}
theorem Inv.low (h:Inv P Q a' c gs w t) {s b:Nat} {o:aD} (ν:c.O s=some o) (hb:dS s o.toSpec b):b<w.heap.size:=by
 obtain⟨⟨ty,J⟩,R⟩:=h.mem.e' s o ν;rcases hb with rfl|hb
 ·exact e1 J
 ·obtain⟨ir,ς⟩:=R b hb;exact e1 ς
theorem Inv.obj (h:Inv P Q a' c gs w t) {s:Nat} (Η:c.tok i s≠.nil):∃o,c.O s=some o:=by
 cases ν:c.O s with
 | none=>exact absurd (h.a2.bare s ν i) Η
 | some o=>exact⟨o,rfl⟩
theorem hK.grow {H:cl->υ} {ao:Nat->Nat->Option (Array Value×TypeId)} {tok:Nat->Nat->Tok} {O:Nat->Option aD} {bc deaf:Nat->Nat} {N ey:Nat} (h:hK H ao tok O bc deaf N t) (b8:N<=ey):hK H ao tok O bc deaf ey t:=
 ⟨h.race,λop Θ=>MemAct.low_mono b8 (h.low op Θ),h.norel,h.perms,h.m',h.cont,h.hears⟩
theorem uP.app {ao n4:Nat->Nat->Option (Array Value×TypeId)} {tok dZ:Nat->Nat->Tok} {O O':Nat->Option aD} {rel:Nat->Bool} {df:Nat->Nat} {u:Trace} {N:Nat} (h:uP ao tok O rel df t) (rr:∀op∈t,op.act.low N)
  (hu:∀op∈u,∀b,op.act≠.mark (.releaseMerge ⟨b,0,none⟩)) (hv:∀j b v,n4 j b=some v->(∃eN,ao j b=some eN)\/N<=b) (dc:∀s o',O' s=some o'->∃o,O s=some o/\o.aI=o'.aI)
  (Η:∀j s k mu g,tok j s=.ch k mu g->∃k mu g,dZ j s=.ch k mu g):uP n4 dZ O' rel df (t++u):=by
 refine⟨λs o' m ν hm p op χ ω=>?_,λj b v hb op Θ ω=>?_⟩
 ·obtain⟨o,J,R⟩:=dc s o' ν;rcases getElem?_append_cases χ with⟨_,hl⟩|⟨_,fw⟩
  ·obtain⟨⟨k,mu,g,ς⟩,Κ⟩:=h.h2 s o m J (by rw[R];exact hm) p op hl ω;exact⟨Η _ _ _ _ _ ς,λι=>(Κ ι).app u⟩
  ·exact absurd ω (hu op fw m)
 ·rcases Array.mem_append.1 Θ with jI|jI
  ·rcases hv j b v hb with⟨eN,kp⟩|hle
   ·exact h.s8 j b eN kp op jI ω
   ·have:=rr op jI;rw[ω] at this;simp only[MemAct.low] at this;omega
  ·exact hu op jI b ω
theorem uO.xl {H H':cl->υ} {tok:Nat->Nat->Tok} {O:Nat->Option aD} (h:uO H tok O) (ψ:∀b,H' (.inr b)=H (.inr b)):uO H' tok O:=
 ⟨λs o m a b d e=>by rw[ψ];exact h.n3 s o m a b d e,λs o a b=>by rw[ψ];exact h.kZ s o a b⟩
theorem Inv.laid (h:Inv P Q a' c gs w t) (Ο:gs[i]?=some g) {u:Trace}
  (mem:gj c'.H c'.ao c'.O a' w') (hold:hh c'.H c'.ao c'.O a'.heap.size) (bD:hK c'.H c'.ao c'.tok c'.O c'.bc c'.deaf w'.heap.size (t++u))
  (a2:ek gs.size c'.tok c'.spec c'.view c'.rel c'.O c'.bc c'.home) (dY:uO c'.H c'.tok c'.O) (dL:s7 gs.size c'.tok c'.rel c'.bc c'.home c'.df (t++u)) (fS:uP c'.ao c'.tok c'.O c'.rel c'.df (t++u))
  (DS:Rec P Q c' i g') (U:∀j,j≠i->c'.x j=c.x j/\c'.T j=c.T j)
  (hw:(mayWake P g=true/\hJ g')\/∀j s o,j≠i->c.O s=some o->iU o (c.tok j s)->∃o',c'.O s=some o'/\iU o' (c.tok j s)) :
  Inv P Q a' c' ((gs.map (woken P g g' w')).setIfInBounds i g') w' (t++u):=by
 have b2:((gs.map (woken P g g' w')).setIfInBounds i g').size=gs.size:=by simp
 have aY:i<gs.size:=k4 Ο;refine⟨by rw[b2];exact h.pos,mem,hold,bD,by rw[b2];exact a2,dY,by rw[b2];exact dL,fS,λj b hb=>?_⟩;by_cases e:j=i
 ·subst e;rw[Array.getElem?_setIfInBounds_self_of_lt (by simpa using aY)] at hb;cases hb;exact DS
 ·rw[Array.getElem?_setIfInBounds_ne (Ne.symm e),Array.getElem?_map] at hb;obtain⟨cx,J,rfl⟩:=Option.map_eq_some_iff.1 hb;exact(h.s9 j cx J).woken (i:=0) (U j e).1 (U j e).2 (hw.imp id λhw s o ν pa=>hw j s o e ν pa)
def gZ (P:Program) (Q:Value->Prop) (a':World) (c:cN) (gs:Array Goroutine) (w:World) (t:Trace) (i:Nat) (f:Bool×Goroutine×aK->fu (Bool×Goroutine×aK)):Prop:=
 ∀sl,∃c' pe w' u,runT P (crowd gs w sl) i=(.next (crowd pe w' sl),u)/\Inv P Q a' c' pe w' (t++u)/\
  ((pe.size=gs.size/\∃k,c'.T=upd c.T i (f k))\/(pe.size=gs.size+1/\∃k Χ,c'.T=upd (upd c.T i (f k)) gs.size (f Χ))\/(pe.size=gs.size/\c'.T=c.T/\uQ pe<uQ gs))
def z5 (P:Program) (Q:Value->Prop) (a':World) (c:cN) (gs:Array Goroutine) (w:World) (t:Trace) (i:Nat) (f:Bool×Goroutine×aK->fu (Bool×Goroutine×aK)):Prop:=
 ∃c',Inv P Q a' c' gs w t/\∃k,c'.T=upd c.T i (f k)
abbrev kq (P:Program) (Q:Value->Prop) (f:Bool×Goroutine×aK->fu (Bool×Goroutine×aK)):wZ:=λsW g' cT=>iu P Q (f (sW,g',cT)) sW g' cT
theorem gZ.go {f:Bool×Goroutine×aK->fu (Bool×Goroutine×aK)} (Ο:gs[i]?=some g) (ν:stepG P (i==0) g w=.go g' w' es)
  (h:Inv P Q a' c' ((gs.map (woken P g g' w')).setIfInBounds i g') w' (t++MemOp.ofEvents i g.frame.fn g.frame.place es)) (k:Bool×Goroutine×aK) (Ζ:c'.T=upd c.T i (f k)):gZ P Q a' c gs w t i f:=
 λ_=>⟨c',_,w',_,runT_crowd_go Ο ν,h,.inl ⟨by simp,k,Ζ⟩⟩
variable {f:Bool×Goroutine×aK->fu (Bool×Goroutine×aK)}
theorem Inv.Dy (h:Inv P Q a' c gs w t) (Ο:gs[i]?=some g) (Α:HQ P (i==0) (kq P Q f) g (c.x i)):gZ P Q a' c gs w t i f:=by
 have hw:=Α w (h.mem.fit (.inl i)) (h.mem.kV i);cases ν:stepG P (i==0) g w with
 | go g' w' es=>
  rw[ν] at hw;obtain⟨G',V',ι,rD,ab,c6,rE,o6,fj,Dz,ck⟩:=hw;have aY:i<gs.size:=k4 Ο;have Ir:∀e∈es,gv (c.H (.inl i)) w.heap.size w'.heap.size e:=λe he=>by
   have:=fj e he;split at this
   ·exact this.Dy
   ·exact this
  have U:∀j,j≠i->({c with H:=bt c.H (.inl i) G',ao:=upd c.ao i V',T:=upd c.T i (f (i==0,g',{c.x i with G:=G',ao:=V'}))}:cN).x j=c.x j:=λj γ=>by
   have:(Sum.inl j:cl)≠.inl i:=λe=>γ (by cases e;rfl);simp[cN.x,bu _ _ this,upd_ne _ _ γ]
  refine gZ.go (c':={c with H:=bt c.H (.inl i) G',ao:=upd c.ao i V',T:=upd c.T i (f (i==0,g',{c.x i with G:=G',ao:=V'}))}) Ο ν ?_ _ rfl;refine h.laid Ο (h.mem.own h.hold i rD ab c6 rfl) (h.hold.own h.mem h.mem.keep.size i rE o6) (h.bD.own h.mem h.hold i rD.size rE o6 Ir Dz) h.a2 ?_ ?_ ?_ ?_ (λj γ=>⟨U j γ,upd_ne _ _ γ⟩) (.inr λj s o _ a b=>⟨o,a,b⟩)
  ·exact h.dY.xl λb=>hL c.H i G' b
  ·refine h.dL.app aY ofEvents_g (λdN=>Pe λe he=>?_) (λ_ _ _ x=>x) (λ_ _ _ _ x=>x);have:=fj e he;have eP:(c.x i).rel=true:=dN;simpa only[eP,if_true] using this
  ·refine h.fS.app h.bD.low (λop Θ b hb=>?_) (λj b v hv=>?_) (λs o' ν=>⟨o',ν,rfl⟩) (λj s k mu g e=>⟨k,mu,g,e⟩)
   ·obtain⟨e,he,rfl⟩:=Go.Conc.mem_ofEvents Θ;have dg:=Ir e he;obtain⟨loc,wr,na⟩:=e;cases loc with
    | mark m=>simp only[gv] at dg;subst dg;simp[MemAct.ofEvent] at hb
    | obj r=>cases wr<;>cases na<;>simp[MemAct.ofEvent] at hb
    | _=>simp[MemAct.ofEvent] at hb
   ·replace hv:upd c.ao i V' j b=some v:=hv
    by_cases γ:j=i
    ·subst γ;rw[upd_same] at hv;exact(o6 b v hv).imp (λx=>⟨v,x⟩) (λx=>x.1)
    ·rw[upd_ne _ _ γ] at hv;exact .inl ⟨v,hv⟩
  ·refine⟨g',?_,.inl rfl⟩;have e:({c with H:=bt c.H (.inl i) G',ao:=upd c.ao i V',T:=upd c.T i (f (i==0,g',{c.x i with G:=G',ao:=V'}))}:cN).x i={c.x i with G:=G',ao:=V'}:=by
    simp[cN.x,upd_same]
   rw[e];show iu P Q (upd c.T i (f (i==0,g',{c.x i with G:=G',ao:=V'})) i) _ _ _;rw[upd_same];exact ck
 | _=>rw[ν] at hw;exact hw.elim
theorem gj.xl {H:cl->υ} {ao:Nat->Nat->Option (Array Value×TypeId)} {O O':Nat->Option aD} (h:gj H ao O a' w) (e:O'=O):gj H ao O' a' w:=e▸h
theorem Inv.marked (h:Inv P Q a' c gs w t) (Ο:gs[i]?=some g) {m:Mark} (hm:m=.disable\/m=.enable) {d:Nat} (hd:d=deafBehind (c.deaf i) #[Go.ConcR.mk m]) (ν:stepG P (i==0) g w=.go g' w #[Go.ConcR.mk m])
  (ck:kq P Q f (i==0) g' {c.x i with deaf:=d}):gZ P Q a' c gs w t i f:=by
 have aY:i<gs.size:=k4 Ο
 have nt:∀op∈MemOp.ofEvents i g.frame.fn g.frame.place #[Go.ConcR.mk m],op.act.touch?=none:=λop Θ=>by
  obtain⟨e,he,rfl⟩:=Go.Conc.mem_ofEvents Θ;simp at he;subst he;rcases hm with rfl|rfl<;>rfl
 have k3:∀op∈MemOp.ofEvents i g.frame.fn g.frame.place #[Go.ConcR.mk m],op.act=.mark .disable\/op.act=.mark .enable:=λop Θ=>by
  obtain⟨e,he,rfl⟩:=Go.Conc.mem_ofEvents Θ;simp at he;subst he;rcases hm with rfl|rfl
  ·exact .inl rfl
  ·exact .inr rfl
 refine gZ.go (c':={c with deaf:=upd c.deaf i d,T:=upd c.T i (f (i==0,g',{c.x i with deaf:=d}))}) Ο ν ?_ _ rfl;refine h.laid Ο h.mem h.hold ?_ h.a2 h.dY ?_ ?_ ⟨g',?_,.inl rfl⟩ (λj γ=>⟨by simp[cN.x,upd_ne _ _ γ],upd_ne _ _ γ⟩) (.inr λj s o _ a b=>⟨o,a,b⟩)
 ·refine h.bD.ext h.hold i ofEvents_g (λop Θ=>?_) (λop Θ a κ=>?_) (λop Θ b hb=>?_) (λj=>?_)
  ·rcases k3 op Θ with e|e<;>rw[e]<;>trivial
  ·rcases k3 op Θ with e|e<;>rw[e] at κ<;>cases κ
  ·rw[nt op Θ] at hb;cases hb
  ·by_cases e:j=i
   ·subst e;rw[Deaf_own,h.bD.hears,hd];exact(upd_same ..).symm
   ·rw[Deaf_other t (Ne.symm e) _ ofEvents_g,h.bD.hears];exact(upd_ne _ _ e).symm
 ·exact h.dL.app aY ofEvents_g (λ_=>uS nt) (λ_ _ _ x=>x) (λ_ _ _ _ x=>x)
 ·refine h.fS.app h.bD.low (λop Θ b hb=>?_) (λj b v hv=>.inl ⟨v,hv⟩) (λs o' ν=>⟨o',ν,rfl⟩) (λj s k mu g e=>⟨k,mu,g,e⟩);rcases k3 op Θ with e|e<;>rw[e] at hb<;>cases hb
 ·have e:({c with deaf:=upd c.deaf i d,T:=upd c.T i (f (i==0,g',{c.x i with deaf:=d}))}:cN).x i={c.x i with deaf:=d}:=by
   simp[cN.x,upd_same]
  rw[e];show iu P Q (upd c.T i (f (i==0,g',{c.x i with deaf:=d})) i) _ _ _;rw[upd_same];exact ck
theorem Inv.Ph (h:Inv P Q a' c gs w t) (Ο:gs[i]?=some g) (Α:HR P (i==0) (kq P Q f) g (c.x i)):gZ P Q a' c gs w t i f:=by
 obtain⟨g',_,Α|⟨_,Α⟩⟩:=Α
 ·obtain⟨J,R⟩:=Α w (h.mem.fit (.inl i));exact h.marked Ο (.inl rfl) (by rfl) J R
 ·obtain⟨J,R⟩:=Α w (h.mem.fit (.inl i));exact h.marked Ο (.inr rfl) (by rfl) J R
theorem Inv.Pj (h:Inv P Q a' c gs w t) (Ο:gs[i]?=some g) (Α:HS P (i==0) (kq P Q f) g (c.x i)):gZ P Q a' c gs w t i f:=by
 obtain⟨s,n,p,ay,g',off,wr,J,R,gy,ς,Κ⟩:=Α;have aY:i<gs.size:=k4 Ο;obtain⟨ν,ck⟩:=Κ w (h.mem.fit (.inl i));have dv:c.tok i s=.par n p ay:=J;obtain⟨o,ω⟩:=h.obj (i:=i) (s:=s) (by rw[dv];simp);have dN:c.rel i=false:=gy;have k3:∀op∈MemOp.ofEvents i g.frame.fn g.frame.place #[Go.ConcR.mk (if wr then .write ⟨s,off,none⟩ else .read ⟨s,off,none⟩)],op.act=.mark (if wr then .write ⟨s,off,none⟩ else .read ⟨s,off,none⟩):=λop Θ=>by
  obtain⟨e,he,rfl⟩:=Go.Conc.mem_ofEvents Θ;simp at he;subst he;rfl
 refine gZ.go (c':={c with T:=upd c.T i (f (i==0,g',c.x i))}) Ο ν ?_ _ rfl;refine h.laid Ο h.mem h.hold ?_ h.a2 h.dY ?_ ?_ ⟨g',?_,.inl rfl⟩ (λj γ=>⟨rfl,upd_ne _ _ γ⟩) (.inr λj s o _ a b=>⟨o,a,b⟩)
 ·refine h.bD.ext h.hold i ofEvents_g (λop Θ=>?_) (λop Θ a κ=>?_) (λop Θ b hb=>?_) (λj=>?_)
  ·rw[k3 op Θ];have:=h.low ω (.inl rfl);cases wr<;>exact this
  ·rw[k3 op Θ] at κ;cases wr<;>cases κ
  ·rw[k3 op Θ] at hb;refine⟨s,o,s,off,ω,.inl rfl,?_⟩;cases wr<;>simp[MemAct.touch?] at hb<;>subst hb<;>exact⟨rfl,.inr ⟨rfl,h.a2.par i s n p ay dv⟩⟩
  ·by_cases e:j=i
   ·subst e;rw[Deaf_own,h.bD.hears];cases wr<;>rfl
   ·rw[Deaf_other t (Ne.symm e) _ ofEvents_g,h.bD.hears]
 ·exact h.dL.app aY ofEvents_g (λU=>by rw[dN] at U;cases U) (λ_ _ _ x=>x) (λ_ _ _ _ x=>x)
 ·refine h.fS.app h.bD.low (λop Θ b hb=>?_) (λj b v hv=>.inl ⟨v,hv⟩) (λs o' ν=>⟨o',ν,rfl⟩) (λj s k mu g e=>⟨k,mu,g,e⟩);rw[k3 op Θ] at hb;cases wr<;>cases hb
 ·show iu P Q (upd c.T i (f (i==0,g',c.x i)) i) _ _ _;rw[upd_same];exact ck
theorem Inv.quits (h:Inv P Q a' c gs w t) (Ο:gs[i]?=some g) (Α:HY P (i==0) (kq P Q f) g (c.x i)):gZ P Q a' c gs w t i f:=by
 obtain⟨nj,ι,dN,DO,g',es,hm,ν,ck⟩:=Α;have aY:i<gs.size:=k4 Ο;have nt:∀op∈MemOp.ofEvents i g.frame.fn g.frame.place es,op.act.touch?=none:=λop Θ=>by
  obtain⟨e,he,rfl⟩:=Go.Conc.mem_ofEvents Θ;exact touch_mute (hm e he)
 have k3:∀op∈MemOp.ofEvents i g.frame.fn g.frame.place es,op.act=.mark .disable\/op.act=.mark .enable:=λop Θ=>by
  obtain⟨⟨loc,wr,na⟩,he,rfl⟩:=Go.Conc.mem_ofEvents Θ;have:=hm _ he;cases loc<;>simp[Event.mute] at this;rename_i m;cases m<;>simp_all [MemAct.ofEvent]
 refine gZ.go (c':={c with deaf:=upd c.deaf i (deafBehind (c.deaf i) es),T:=upd c.T i (f (i==0,g',{c.x i with deaf:=deafBehind (c.x i).deaf es}))}) Ο (by rw[nj];exact ν w) ?_ _ rfl;refine h.laid Ο h.mem h.hold ?_ h.a2 h.dY ?_ ?_ ⟨g',?_,.inl rfl⟩ (λj γ=>⟨by simp[cN.x,upd_ne _ _ γ],upd_ne _ _ γ⟩) (.inr λj s o _ a b=>⟨o,a,b⟩)
 ·refine h.bD.ext h.hold i ofEvents_g (λop Θ=>?_) (λop Θ a κ=>?_) (λop Θ b hb=>?_) (λj=>?_)
  ·rcases k3 op Θ with e|e<;>rw[e]<;>trivial
  ·rcases k3 op Θ with e|e<;>rw[e] at κ<;>cases κ
  ·rw[nt op Θ] at hb;cases hb
  ·by_cases e:j=i
   ·subst e;rw[Deaf_own,h.bD.hears];exact(upd_same ..).symm
   ·rw[Deaf_other t (Ne.symm e) _ ofEvents_g,h.bD.hears];exact(upd_ne _ _ e).symm
 ·exact h.dL.app aY ofEvents_g (λ_=>uS nt) (λ_ _ _ x=>x) (λ_ _ _ _ x=>x)
 ·refine h.fS.app h.bD.low (λop Θ b hb=>?_) (λj b v hv=>.inl ⟨v,hv⟩) (λs o' ν=>⟨o',ν,rfl⟩) (λj s k mu g e=>⟨k,mu,g,e⟩);rcases k3 op Θ with e|e<;>rw[e] at hb<;>cases hb
 ·have e:({c with deaf:=upd c.deaf i (deafBehind (c.deaf i) es),T:=upd c.T i (f (i==0,g',{c.x i with deaf:=deafBehind (c.x i).deaf es}))}:cN).x i={c.x i with deaf:=deafBehind (c.x i).deaf es}:=by
   simp[cN.x,upd_same]
  rw[e];show iu P Q (upd c.T i (f (i==0,g',{c.x i with deaf:=deafBehind (c.x i).deaf es})) i) _ _ _;rw[upd_same];exact ck
end
end Go.TL
namespace Go.TL
open Go.Conc
open Go.ConcM (OsLater)
open Go.ConcN (sumTo upd sumTo_upd upd_ne upd_same sumTo_congr le_sumTo)
section
variable {P:Program} {Q:Value->Prop} {a':World} {c c':cN} {gs:Array Goroutine} {w w':World} {t:Trace} {i:Nat} {g g':Goroutine} {es:Array Event}
variable {f:Bool×Goroutine×aK->fu (Bool×Goroutine×aK)}
theorem Pk {o o':aD} {t t':Tok} (h:Act o t o' t'):(∀q p,t'≠.par q p .bf)/\(∀q p,t≠.par q p .bf)/\∀k L g,t=.ch k (.cW L) g->∃g',t'=.ch k (.cW L) g':=by
 cases h<;>refine⟨λq p e=>?_,λq p e=>?_,λk L g e=>?_⟩<;>cases e
 all_goals exact⟨_,rfl⟩
theorem Is {B:Type} (p:B->Bool) {y:B} (ad:p y=false):∀(l:List B) (k:Nat) (x:B),l[k]?=some x->p x=true->((l.set k y).filter p).length<(l.filter p).length
 | [],k,x,h,_=>by simp at h
 | z::l,0,x,h,U=>by
  simp at h;subst h;simp[List.set,U,ad]
 | z::l,k+1,x,h,U=>by
  have:=Is p ad l k x (by simpa using h) U;simp only[List.set,List.filter_cons];split<;>simpa using this
theorem Pl {k:Nat} (Ο:gs[k]?=some g) (ι:g.status=.running) (hb:g'.status≠.running):uQ (gs.setIfInBounds k g')<uQ gs:=by
 unfold uQ;rw[Array.toList_setIfInBounds];exact Is (λg:Goroutine=>decide (g.status=.running)) (by simp[hb]) _ k g (by rw[<-Ο];simp) (by simp[ι])
theorem Inv.atom (h:Inv P Q a' c gs w t) (Ο:gs[i]?=some g) (ι:hJ g) (Ζ:iu P Q (c.T i) (i==0) g (c.x i)) (Α:Atom P (i==0) (kq P Q f) g (c.x i)):gZ P Q a' c gs w t i f:=by
 obtain⟨s,sp,J,R,ς⟩:=Α;have aY:i<gs.size:=k4 Ο;obtain⟨o,ω,bF⟩:=h.a2.o7 i s sp J;have rr:∀b,dS s sp b->b<w.heap.size:=λb hb=>h.low ω (by rw[bF];exact hb);have gy:¬fi (c.tok i s):=R;have xm:c.tok i s≠.nil:=λe=>gy (by rw[e];trivial);have It:∀{w':World} {es:Array Event} {k:Nat},e0 (λb _=>dS s sp b) (λ_=>False) w w'->m9 s sp (c.x i).deaf es->hK c.H c.ao c.tok c.O c.bc c.deaf w'.heap.size (t++MemOp.ofEvents i g.frame.fn g.frame.place es):=λ{w' es k} rD dg=>by
  refine hK.grow ?_ rD.size;refine h.bD.ext h.hold i ofEvents_g (λop Θ=>?_) (λop Θ a κ=>?_) (λop Θ b hb=>?_) (λj=>?_)
  ·rcases z4 dg Θ with(e|e)|⟨b,off,wr,e,hb⟩
   ·rw[e];trivial
   ·rw[e];trivial
   ·rw[e];exact rr b hb
  ·rcases z4 dg Θ with(e|e)|⟨b,off,wr,e,hb⟩<;>rw[e] at κ<;>cases κ
  ·rcases z4 dg Θ with(e|e)|⟨Ρ,off,wr,e,dp⟩
   ·rw[e] at hb;cases hb
   ·rw[e] at hb;cases hb
   ·rw[e] at hb;simp[MemAct.touch?] at hb;subst hb;exact⟨s,o,Ρ,off,ω,by rw[bF];exact dp,rfl,.inl rfl⟩
  ·by_cases e:j=i
   ·subst e;rw[Deaf_own,h.bD.hears];exact dg.1
   ·rw[Deaf_other t (Ne.symm e) _ ofEvents_g,h.bD.hears]
 have norel:∀{es:Array Event},m9 s sp (c.x i).deaf es->∀op∈MemOp.ofEvents i g.frame.fn g.frame.place es,∀b,op.act≠.mark (.releaseMerge ⟨b,0,none⟩):=λdg op Θ b hb=>by
  rcases z4 dg Θ with(e|e)|⟨Ρ,off,wr,e,dp⟩<;>rw[e] at hb<;>cases hb
 have Iu:∀{es:Array Event},m9 s sp (c.x i).deaf es->∀k,t.size<=k->¬(t++MemOp.ofEvents i g.frame.fn g.frame.place es).counts k:=λdg=>Pg (s:=s) (sp:=sp) (by rw[h.bD.hears];exact dg);rcases ς w (ec gs.size o (λj=>c.tok j s)) o (h.mem.fit (.inl i)) (h.mem.kV i) bF (h.mem.e' s o ω) (λfP kn hv=>by
   obtain⟨dq,Δ,Ε,a3⟩:=h.a2.sY i s fP kn hv;rw[ω] at Δ;cases Δ;exact⟨Ε,a3⟩) ⟨gs.size,λj=>c.tok j s,i,h.a2.a5 s o ω,aY,rfl,λk L g e=>h.a2.cW i s k L g o ω e⟩ with hgo|⟨hw,cj,ν⟩
 ·cases ν:stepG P (i==0) g w with
  | go g' w' es=>
   rw[ν] at hgo;obtain⟨eP,rD,dg,g0⟩:=hgo;have Iv:e0 (λb _=>dS s o.toSpec b) (λ_=>False) w w':=by rw[bF];exact rD
   rcases g0 with⟨bk,ck⟩|⟨o',t',rF,bk,Pm,ck⟩
   ·refine gZ.go (c':={c with view:=upd c.view i (upd (c.view i) s (some (ec gs.size o (λj=>c.tok j s),o))),T:=upd c.T i (f (i==0,g',{c.x i with view:=upd (c.view i) s (some (ec gs.size o (λj=>c.tok j s),o))}))}) Ο ν ?_ _ rfl;refine h.laid Ο ((h.mem.atom h.hold rfl ω rfl Iv bk).xl (z3 ω).symm) h.hold (It (k:=0) rD dg) (h.a2.look ω) h.dY
     (h.dL.app aY ofEvents_g (λ_=>Iu dg) (λ_ _ _ x=>x) (λ_ _ _ _ x=>x))
     (h.fS.app h.bD.low (norel dg) (λj b v hv=>.inl ⟨v,hv⟩) (λs o' ν=>⟨o',ν,rfl⟩) (λj s k mu g e=>⟨k,mu,g,e⟩))
     ⟨g',?_,.inl rfl⟩ (λj γ=>⟨by simp[cN.x,upd_ne _ _ γ],upd_ne _ _ γ⟩) (.inr λj s o _ a b=>⟨o,a,b⟩)
    have e:({c with view:=upd c.view i (upd (c.view i) s (some (ec gs.size o (λj=>c.tok j s),o))),T:=upd c.T i (f (i==0,g',{c.x i with view:=upd (c.view i) s (some (ec gs.size o (λj=>c.tok j s),o))}))}:cN).x i={c.x i with view:=upd (c.view i) s (some (ec gs.size o (λj=>c.tok j s),o))}:=by
     simp[cN.x,upd_same]
    rw[e];show iu P Q (upd c.T i (f (i==0,g',{c.x i with view:=upd (c.view i) s (some (ec gs.size o (λj=>c.tok j s),o))})) i) _ _ _;rw[upd_same];exact ck
   ·have Pn:=HL (N:=gs.size) (τ:=λj=>c.tok j s) aY rfl rF
    have Po:=ck _ Pn;obtain⟨uL,zT,DJ⟩:=H8 rF;obtain⟨Pp,Pq,Pr⟩:=Pk rF;have dc:=kX.upd ω uL;have rG:∀j r q p,bM c.tok i s t' j r=.par q p .bf↔c.tok j r=.par q p .bf:=λj r q p=>by
     by_cases e:j=i/\r=s
     ·obtain⟨rfl,rfl⟩:=e;rw[eG];exact⟨λx=>absurd x (Pp q p),λx=>absurd x (Pq q p)⟩
     ·rw[ew _ e]
    have DT:∀j r k L g,c.tok j r=.ch k (.cW L) g->∃g',bM c.tok i s t' j r=.ch k (.cW L) g':=λj r k L g γ=>by
     by_cases e:j=i/\r=s
     ·obtain⟨rfl,rfl⟩:=e;rw[eG];exact Pr k L g γ
     ·rw[ew _ e];exact⟨g,γ⟩
    have keepW:o'=o->∀j r q,j≠i->c.O r=some q->iU q (c.tok j r)->∃hn,upd c.O s (some o') r=some hn/\iU hn (c.tok j r):=λiy j r q _ a b=>⟨q,by
     by_cases e:r=s
     ·subst e;subst iy;rw[ω] at a;cases a;exact upd_same _ _ _
     ·rw[upd_ne _ _ e];exact a,b⟩
    have gk:∀r q,upd c.O s (some o') r=some q->∃gQ,c.O r=some gQ/\gQ.toSpec=q.toSpec/\gQ.L=q.L/\gQ.ag=q.ag:=λr q Ψ=>by
     by_cases e:r=s
     ·subst e;rw[upd_same] at Ψ;cases Ψ;exact⟨o,ω,uL.symm,zT.symm,DJ.symm⟩
     ·rw[upd_ne _ _ e] at Ψ;exact⟨q,Ψ,rfl,rfl,rfl⟩
    let cT:aK:={c.x i with tok:=upd (c.tok i) s t',view:=upd (c.view i) s (some (ec gs.size o' (upd (λj=>c.tok j s) i t'),o'))};refine gZ.go (c':={c with tok:=bM c.tok i s t',view:=upd c.view i (upd (c.view i) s (some (ec gs.size o' (upd (λj=>c.tok j s) i t'),o'))),O:=upd c.O s (some o'),T:=upd c.T i (f (i==0,g',cT))}) Ο ν ?_ _ rfl;refine h.laid Ο (h.mem.atom h.hold rfl ω uL Iv bk) (h.hold.lO dc) ((It (k:=0) rD dg).O1 dc λj r γ e=>?_) (h.a2.act ω rfl rF) ⟨λr q m Ψ hm b3 hk=>?_,λr q Ψ b3=>?_⟩
     (h.dL.app aY ofEvents_g (λ_=>Iu dg) (λs q p ⟨j,x⟩=>⟨j,(rG j s q p).1 x⟩) (λj s q p x=>(rG j s q p).1 x))
     (h.fS.app h.bD.low (norel dg) (λj b v hv=>.inl ⟨v,hv⟩) (λr q Ψ=>let ⟨gQ,a,b,_⟩:=gk r q Ψ;⟨gQ,a,by rw[b]⟩) (λj r k mu g e=>?_))
     ⟨g',?_,.inl rfl⟩ (λj γ=>⟨by simp[cN.x,upd_ne _ _ γ,qs _ γ],upd_ne _ _ γ⟩) (Pm.imp (λhm=>⟨hm,eP⟩) λiy=>keepW iy)
    ·by_cases aA:j=i/\r=s
     ·obtain⟨rfl,rfl⟩:=aA;exact xm e
     ·apply γ;show bM c.tok i s t' j r=.nil;rw[ew _ aA];exact e
    ·obtain⟨gQ,a,b,Ρ,_⟩:=gk r q Ψ;have:=h.dY.n3 r gQ m a (by rw[b];exact hm) (λj q p x=>b3 j q p ((rG j r q p).2 x)) (λj k L g x=>let ⟨g',y⟩:=DT j r k L g x;hk j k L g' y);rw[b,Ρ] at this;exact this
    ·obtain⟨gQ,a,b,_,Ρ⟩:=gk r q Ψ;have:=h.dY.kZ r gQ a (λj q p x=>b3 j q p ((rG j r q p).2 x));rw[b,Ρ] at this;exact this
    ·by_cases aA:j=i/\r=s
     ·obtain⟨rfl,rfl⟩:=aA;obtain⟨fR,Ξ,y,_⟩:=(H9 rF).2.1 k mu g e;exact⟨k,fR,Ξ,by show bM c.tok j r t' j r=_;rw[eG];exact y⟩
     ·exact⟨k,mu,g,by show bM c.tok i s t' j r=_;rw[ew _ aA];exact e⟩
    ·have e:({c with tok:=bM c.tok i s t',view:=upd c.view i (upd (c.view i) s (some (ec gs.size o' (upd (λj=>c.tok j s) i t'),o'))),O:=upd c.O s (some o'),T:=upd c.T i (f (i==0,g',cT))}:cN).x i=cT:=by
      simp[cT,cN.x,upd_same,ta]
     rw[e];show iu P Q (upd c.T i (f (i==0,g',cT)) i) _ _ _;rw[upd_same];exact Po
  | _=>rw[ν] at hgo;exact hgo.elim
 ·refine λsl=>⟨c,_,w,_,runT_crowd_go Ο ν,?_,.inr (.inr ⟨by simp,rfl,?_⟩)⟩
  ·rw[Iq,Array.append_empty];have:=h.laid (c':=c) (u:=#[]) Ο (g':={g with status:=.blocked}) h.mem h.hold (by rw[Array.append_empty];exact h.bD) h.a2 h.dY (by rw[Array.append_empty];exact h.dL) (by rw[Array.append_empty];exact h.fS) ⟨g,Ζ,.inr ⟨ι,rfl,s,o,ω,hw,cj⟩⟩ (λj γ=>⟨rfl,rfl⟩) (.inr λj s o _ a b=>⟨o,a,b⟩)
   rwa [Array.append_empty] at this
  ·have e:gs.map (woken P g {g with status:=.blocked} w)=gs:=by
    have:woken P g {g with status:=.blocked} w=id:=by
     funext b;simp[woken]
    rw[this];simp
   rw[e];exact Pl Ο ι.1 (by simp)
end
end Go.TL
