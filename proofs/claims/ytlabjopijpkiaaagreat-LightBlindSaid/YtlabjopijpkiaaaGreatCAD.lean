import Derived.Test.YtlabjopijpkiaaaGreatCAC
set_option maxHeartbeats 16000000
set_option maxRecDepth 20000
set_option linter.unusedSectionVars false
set_option linter.unusedSimpArgs false
set_option linter.unusedVariables false
namespace Go.TL
open Go.Conc
open Go.ConcM (OsLater)
open Go.ConcN (sumTo upd sumTo_upd upd_ne upd_same sumTo_congr le_sumTo)
open Go.ConcR (mk)
def mP (O O':Nat->Option aV):Prop:=(∀s o',O' s=some o'->∃o,O s=some o/\o.toSpec=o'.toSpec)/\∀s o,O s=some o->∃o',O' s=some o'/\o.toSpec=o'.toSpec
theorem mP.upd {O:Nat->Option aV} {s:Nat} {o o':aV} (ν:O s=some o) (h:o'.toSpec=o.toSpec):mP O (Go.ConcN.upd O s (some o')):=by
 refine⟨λr q Ξ=>?_,λr q Ξ=>?_⟩
 ·by_cases e:r=s
  ·subst e;rw[upd_same] at Ξ;cases Ξ;exact⟨o,ν,h.symm⟩
  ·rw[upd_ne _ _ e] at Ξ;exact⟨q,Ξ,rfl⟩
 ·by_cases e:r=s
  ·subst e;rw[ν] at Ξ;cases Ξ;exact⟨o',upd_same ..,h.symm⟩
  ·exact⟨q,by rw[upd_ne _ _ e];exact Ξ,rfl⟩
section
variable {H:cN->Α} {aN:Nat->Nat->Option (Array Value×TypeId)} {tok eG:Nat->Nat->Tok} {O O':Nat->Option aV} {bw:Nat->Nat} {deaf Lr:Nat->Nat} {N hJ:Nat} {t:Trace} {bn w w':World}
theorem CD {h:cN} {k:Nat} (dH:∀s o',O' s=some o'->∃o,O s=some o/\o.toSpec=o'.toSpec) (Ν:∀i s,eG i s≠.nil->tok i s≠.nil) (χ:j3 tok O t h k):j3 eG O' t h k:=by
 cases h with
 | inl i=>exact χ
 | inr b=>
  refine χ.imp id λh s o ν hb i hi=>?_;obtain⟨lY,J,U⟩:=dH s o ν;exact h s lY J (by rw[U];exact hb) i (Ν i s hi)
theorem jm.SN (h:jm H aN tok O bw deaf N t) (dH:mP O O') (Ν:∀i s,eG i s≠.nil->tok i s≠.nil):jm H aN eG O' bw deaf N t:=
 ⟨h.race,h.low,h.norel,λk=>(h.perms k).mono λ_=>CD dH.1 Ν,h.o5,λs o b ν hb=>let ⟨lY,J,U⟩:=dH.1 s o ν;h.cont s lY b J (by rw[U];exact hb),h.hears⟩
theorem iV.nz (h:iV H aN O hJ) (dH:mP O O'):iV H aN O' hJ:=
 ⟨h.apart,h.high,h.oj,h.fresh,λs o b ν hb=>let ⟨lY,J,U⟩:=dH.1 s o ν;h.kS s lY b J (by rw[U];exact hb),
  λs bk o o' b ν jD hb dV=>let ⟨lY,J,U⟩:=dH.1 s o ν;let ⟨dW,μ,Ε⟩:=dH.1 bk o' jD;h.lg s bk lY dW b J μ (by rw[U];exact hb) (by rw[Ε];exact dV),
  λs o m ν hm=>let ⟨lY,J,U⟩:=dH.1 s o ν;h.p1 s lY m J (by rw[U];exact hm),
  λb hb=>h.eF b λs o ν hi=>let ⟨o',J,U⟩:=dH.2 s o ν;hb s o' J (by rw[<-U];exact hi)⟩
theorem jm.ext (h:jm H aN tok O bw deaf N t) (Β:iV H aN O hJ) (i:Nat) {u:Trace} (hu:∀op∈u,op.g=i) (ξ:∀op∈u,op.act.low N) (ι:∀op∈u,∀a,op.act≠.mark (.release a))
  (Ν:∀op∈u,∀b,op.act.touch?=some b->∃s o mQ off,O s=some o/\ez s o.toSpec mQ/\b.loc=.cell ⟨mQ,off,none⟩/\(b.kind=.atomic\/(b.kind=.said/\i=bw s)))
  (hd:∀j,Deaf (t++u) j=Lr j):jm H aN tok O bw Lr N (t++u):=by
 refine⟨λsaid=>noRace_append (h.race said) hu λk a κ op Μ b hb ε=>?_,λop Μ=>(Array.mem_append.1 Μ).elim (h.low op) (ξ op),λop Μ=>(Array.mem_append.1 Μ).elim (h.norel op) (ι op),λk=>?_,λj b v hv k a κ fs=>?_,λs o b ν hb k a κ fs=>?_,hd⟩
 ·obtain⟨s,o,mQ,off,J,U,μ,Ε⟩:=Ν op Μ b hb;obtain⟨c1,_,_,c4⟩:=ε;have fs:oe a.loc mQ:=by rw[c1,μ];rfl
  rcases h.cont s o mQ J U k a κ fs with au|⟨au,bd⟩
  ·exfalso;rcases c4 with x|x|⟨_,x,_⟩
   ·rw[au] at x;cases x
   ·rcases Ε with y|⟨y,_⟩<;>(rw[y] at x;cases x)
   ·rw[au] at x;cases x
  ·rcases Ε with y|⟨y,rfl⟩
   ·exfalso;rcases c4 with x|x|⟨_,_,x⟩
    ·rw[au] at x;cases x
    ·rw[y] at x;cases x
    ·rw[y] at x;cases x
   ·obtain⟨z,Φ,_⟩:=touch_of κ;have:=knows_own Φ;have e:z.g=bw s:=by simpa[Trace.g?,Φ] using bd
    rwa [e] at this
 ·have:dy (t++u) (j3 tok O (t++u) k) (H k):=(h.perms k).others (λx γ=>Gj _ γ) λop Μ a κ=>by
   obtain⟨s,o,mQ,off,J,U,μ,Ε⟩:=Ν op Μ a κ;have off:=(Β.kS s o mQ J U).2.1 k;refine⟨λb o' v p ξ ε=>?_,λb ξ hb=>?_⟩
   ·rw[μ] at ξ;cases ξ;exact absurd ⟨_,ε⟩ (off.1 _)
   ·rw[μ] at ξ;cases ξ
  exact this
 ·rcases nA κ with eo|⟨_,op,Μ,_,iW⟩
  ·exact h.o5 j b v hv k a eo fs
  ·obtain⟨s,o,mQ,off,J,U,μ,Ε⟩:=Ν op Μ a iW;rw[μ] at fs;simp only[oe] at fs;subst fs;rw[(Β.kS s o mQ J U).2.2 j] at hv;cases hv
 ·rcases nA κ with eo|⟨_,op,Μ,χ,iW⟩
  ·rcases h.cont s o b ν hb k a eo fs with x|⟨x,Ο⟩
   ·exact .inl x
   ·obtain⟨z,Φ,_⟩:=touch_of eo;exact .inr ⟨x,by rw[g?_old (lt_size_of_getElem? Φ)];exact Ο⟩
  ·obtain⟨bk,o',mQ,off,J,U,μ,Ε⟩:=Ν op Μ a iW;rw[μ] at fs;simp only[oe] at fs;subst fs;have es:=Β.lg s bk o o' mQ ν J hb U;subst es;rcases Ε with x|⟨x,y⟩
   ·exact .inl x
   ·exact .inr ⟨x,by simp[Trace.g?,χ,hu op Μ,y]⟩
theorem dy.sub {j0:Nat->Prop} {G G':Α} (h:dy t j0 G) (ν:Sub G' G):dy t j0 G':=
 ⟨λb o v p ε i a κ ξ hw=>let ⟨fL,an,π⟩:=ν.aP b o v p ε;h.aP b o v fL an i a κ ξ (hw.imp π id),λb ⟨x,γ⟩ i a κ ξ=>h.obj b ⟨x,ν.obj b x γ⟩ i a κ ξ⟩
theorem dy.join {j0:Nat->Prop} {G E:Α} (h:dy t j0 G) (k:dy t j0 E):dy t j0 (Go.TL.join G E):=by
 refine⟨λb o v p ε i a κ ξ hw=>?_,λb hb i a κ ξ=>?_⟩
 ·simp only[Go.TL.join] at ε;cases Ο:G.aP b o with
  | none=>rw[Ο] at ε;exact k.aP b o v p ε i a κ ξ hw
  | some y=>rw[Ο] at ε;cases ε;exact h.aP b o v p Ο i a κ ξ hw
 ·obtain⟨x,γ⟩:=hb;simp only[Go.TL.join] at γ;cases Ο:G.obj b with
  | none=>rw[Ο] at γ;exact k.obj b ⟨x,γ⟩ i a κ ξ
  | some y=>exact h.obj b ⟨y,Ο⟩ i a κ ξ
theorem dy.empty {j0:Nat->Prop}:dy t j0 Α.empty:=⟨λ_ _ _ _ h=>(by cases h),λ_ ⟨_,h⟩=>(by cases h)⟩
theorem dy.release {i b:Nat} {G:Α} {y:MemOp} (h:dy t (Knows t i) G) (Ο:y.g=i) (Κ:y.act=.mark (.releaseMerge ⟨b,0,none⟩)) (hd:Deaf t i=0):dy (t++#[y]) (j3 tok O (t++#[y]) (.inr b)) G:=by
 have j4:(t++#[y])[t.size]?=some y:=ζ
 have zF:(t++#[y]).heard t.size:=⟨i,by simp[Trace.g?,Ο],by rw[deaf_old (Nat.le_refl _)];exact hd⟩
 have key:∀k,Knows t i k->j3 tok O (t++#[y]) (.inr b) k:=λk χ=>.inl ⟨t.size,y,j4,Κ,zF,.inr (χ.hb_new (Nat.le_refl _) j4 Ο)⟩
 have nt:∀k a,touchAt (t++#[y]) k=some a->touchAt t k=some a:=λk a κ=>by
  rcases nA κ with eo|⟨_,op,Μ,_,iW⟩
  ·exact eo
  ·simp at Μ;subst Μ;rw[Κ] at iW;simp[MemAct.touch?] at iW
 exact⟨λo7 o v p ε k a κ ξ hw=>key k (h.aP o7 o v p ε k a (nt k a κ) ξ hw),λo7 hb k a κ ξ=>key k (h.obj o7 hb k a (nt k a κ) ξ)⟩
theorem dy.acquire {i b s:Nat} {o:aV} {E:Α} {y:MemOp} (h:dy t (j3 tok O t (.inr b)) E) (eu:∀op∈t,∀a,op.act≠.mark (.release a)) (ν:O s=some o) (hb:ez s o.toSpec b) (hi:tok i s≠.nil)
  (Ο:y.g=i) (Κ:y.act=.mark (.acquire ⟨b,0,none⟩)) (hd:Deaf t i=0):dy (t++#[y]) (Knows (t++#[y]) i) E:=by
 have j4:(t++#[y])[t.size]?=some y:=ζ
 have zF:(t++#[y]).heard t.size:=⟨i,by simp[Trace.g?,Ο],by rw[deaf_old (Nat.le_refl _)];exact hd⟩
 have key:∀k,j3 tok O t (.inr b) k->Knows (t++#[y]) i k:=λk χ=>by
  rcases χ with⟨p,op,J,U,μ,Ε⟩|χ
  ·have π:=lt_size_of_getElem? J;refine⟨t.size,y,j4,Ο,.inr ((Ε.app #[y]).hb (.single (.inr ⟨.marked (a:=⟨b,0,none⟩) π (.inr ?_) ?_ ?_,(heard_old π).2 μ,zF⟩)))⟩
   ·rw[act?_old π,act?_of J,U]
   ·rw[act?_of j4,Κ]
   ·intro af jo e9 jq;rw[act?_old e9] at jq;obtain⟨sD,j5,iW⟩:=Option.map_eq_some_iff.1 jq;exact eu sD (mem_of_getElem? j5) _ iW
  ·exact(χ s o ν hb i hi).app _
 have nt:∀k a,touchAt (t++#[y]) k=some a->touchAt t k=some a:=λk a κ=>by
  rcases nA κ with eo|⟨_,op,Μ,_,iW⟩
  ·exact eo
  ·simp at Μ;subst Μ;rw[Κ] at iW;simp[MemAct.touch?] at iW
 exact⟨λo7 o v p ε k a κ ξ hw=>key k (h.aP o7 o v p ε k a (nt k a κ) ξ hw),λo7 hb k a κ ξ=>key k (h.obj o7 hb k a (nt k a κ) ξ)⟩
theorem Knows.spawn {i j k:Nat} {y z:MemOp} (h:Knows t i k) (Ls:y.g=i) (Κ:y.act=.go j) (Gu:z.g=j) (Φ:z.act=.start) (hd:Deaf t i=0) (SO:Deaf t j=0):Knows (t++#[y,z]) j k:=by
 have vQ:(t++#[y,z])[t.size]?=some y:=ζ
 have p5:(t++#[y,z])[t.size+1]?=some z:=ζ
 have d1:(t++#[y,z]).heard t.size:=⟨i,by simp[Trace.g?,Ls],by rw[deaf_old (Nat.le_refl _)];exact hd⟩
 have d2:(t++#[y,z]).heard (t.size+1):=⟨j,by simp[Trace.g?,Gu],by
  rw[deaf_succ vQ];have:deafStep j ((t++#[y,z]).deaf j t.size) y=(t++#[y,z]).deaf j t.size:=by simp[deafStep,Κ]
  rw[this,deaf_old (Nat.le_refl _)];exact SO⟩
 have Γ:=h.hb_new (u:=#[y,z]) (Nat.le_refl _) vQ Ls
 have Δ:HappensBefore (t++#[y,z]) t.size (t.size+1):=.single (.inr ⟨.spawn (child:=j) (by rw[act?_of vQ,Κ]) (by rw[act?_of p5,Φ]) (by simp[Trace.g?,Gu]),d1,d2⟩);exact⟨t.size+1,z,p5,Gu,.inr (Γ.trans Δ)⟩
theorem Sub.refl (G:Α):Sub G G:=⟨λ_ _ _ p h=>⟨p,h,id⟩,λ_ _ h=>h,λ_ _ h=>h⟩
theorem Sub.owns {G G':Α} (h:Sub G' G) {b o:Nat} (x:G'.owns b o):G.owns b o:=let ⟨v,hv⟩:=x;let ⟨p,an,π⟩:=h.aP b o v true hv;⟨v,by rw[an,π rfl]⟩
theorem Sub.has {G G':Α} (h:Sub G' G) {b o:Nat} (x:G'.has b o):G.has b o:=let ⟨v,hv⟩:=x;let ⟨p,an,_⟩:=h.aP b o v.1 v.2 hv;⟨_,an⟩
theorem Sub.fg {G G':Α} (h:Sub G' G) {b:Nat} (x:G'.fg b):G.fg b:=let ⟨v,hv⟩:=x;⟨v,h.obj b v hv⟩
theorem Sub.off {G G':Α} (h:Sub G' G) {b:Nat} (x:G.off b):G'.off b:=⟨λo ψ=>x.1 o (h.has ψ),λψ=>x.2 (h.fg ψ)⟩
theorem Sub.fits {G G':Α} (h:Sub G' G) (x:Fits G w):Fits G' w:=⟨λb o v p ε=>let ⟨fL,an,_⟩:=h.aP b o v p ε;x.aP b o v fL an,λb t n ι=>x.row b t n (h.row b _ ι),λb v hv=>x.obj b v (h.obj b v hv)⟩
theorem Apart.symm {A B:Α} (h:Apart A B):Apart B A:=⟨h.q8,h.aP,λb hb κ=>h.obj b κ hb⟩
theorem Apart.sub {A B Lt B':Α} (h:Apart A B) (κ:Sub Lt A) (hb:Sub B' B):Apart Lt B':=
 ⟨λb o x y=>h.aP b o (κ.owns x) (hb.has y),λb o x y=>h.q8 b o (hb.owns x) (κ.has y),λb x y=>h.obj b (κ.fg x) (hb.fg y)⟩
theorem Apart.um (A:Α):Apart A Α.empty:=⟨λ_ _ _ ⟨_,h⟩=>(by cases h),λ_ _ ⟨_,h⟩=>(by cases h),λ_ _ ⟨_,h⟩=>(by cases h)⟩
theorem Gv {G E:Α} {b o:Nat} (h:(join G E).owns b o):G.owns b o\/E.owns b o:=by
 obtain⟨v,hv⟩:=h;simp only[join] at hv;cases Ο:G.aP b o with
 | none=>rw[Ο] at hv;exact .inr ⟨v,hv⟩
 | some y=>rw[Ο] at hv;cases hv;exact .inl ⟨v,Ο⟩
theorem Lu {G E:Α} {b o:Nat} (h:(join G E).has b o):G.has b o\/E.has b o:=by
 obtain⟨v,hv⟩:=h;simp only[join] at hv;cases Ο:G.aP b o with
 | none=>rw[Ο] at hv;exact .inr ⟨v,hv⟩
 | some y=>exact .inl ⟨y,Ο⟩
theorem CE {G E:Α} {b:Nat} (h:(join G E).fg b):G.fg b\/E.fg b:=by
 obtain⟨v,hv⟩:=h;simp only[join] at hv;cases Ο:G.obj b with
 | none=>rw[Ο] at hv;exact .inr ⟨v,hv⟩
 | some y=>exact .inl ⟨y,Ο⟩
theorem SP {G E:Α} {b:Nat} (h:G.off b) (k:E.off b):(join G E).off b:=⟨λo ψ=>(Lu ψ).elim (h.1 o) (k.1 o),λψ=>(CE ψ).elim h.2 k.2⟩
theorem zG {G E:Α} (h:Fits G w) (k:Fits E w):Fits (join G E) w:=by
 refine⟨λb o v p ε=>?_,λb t n ι=>?_,λb v hv=>?_⟩
 ·simp only[join] at ε;cases Ο:G.aP b o with
  | none=>rw[Ο] at ε;exact k.aP b o v p ε
  | some y=>rw[Ο] at ε;cases ε;exact h.aP b o v p Ο
 ·simp only[join] at ι;cases Ο:G.row b with
  | none=>rw[Ο] at ι;exact k.row b t n ι
  | some y=>rw[Ο] at ι;cases ι;exact h.row b t n Ο
 ·simp only[join] at hv;cases Ο:G.obj b with
  | none=>rw[Ο] at hv;exact k.obj b v hv
  | some y=>rw[Ο] at hv;cases hv;exact h.obj b v Ο
theorem Apart.rj {A B C:Α} (h:Apart A C) (k:Apart B C):Apart (join A B) C:=
 ⟨λb o x y=>(Gv x).elim (λz=>h.aP b o z y) (λz=>k.aP b o z y),λb o x y=>(Lu y).elim (λz=>h.q8 b o x z) (λz=>k.q8 b o x z),λb x y=>(CE x).elim (λz=>h.obj b z y) (λz=>k.obj b z y)⟩
theorem vR (w:World):Fits Α.empty w:=⟨λ_ _ _ _ h=>(by cases h),λ_ _ _ h=>(by cases h),λ_ _ h=>(by cases h)⟩
theorem iV.two (h:iV H aN O hJ) {a b:cN} (eO:a≠b) {A B:Α} (bY:Sub A (join (H a) (H b))) (dX:Sub B (join (H a) (H b))) (Lv:Apart A B)
  (dH:mP O O') (Lw:∀x,b=.inr x\/a=.inr x->∃s o,O s=some o/\ez s o.toSpec x):iV (bO (bO H a A) b B) aN O' hJ:=by
 have c9:=h.nz dH
 have vS:bO (bO H a A) b B a=A:=by rw[bP _ _ eO,dS]
 have vT:bO (bO H a A) b B b=B:=dS _ _ _
 have rk:∀k,k≠a->k≠b->bO (bO H a A) b B k=H k:=λk J U=>by rw[bP _ _ U,bP _ _ J]
 have CF:∀k,k≠a->k≠b->Apart (join (H a) (H b)) (H k):=λk J U=>(h.apart a k (Ne.symm J)).rj (h.apart b k (Ne.symm U))
 have Lx:∀x,(∀k,(H k).off x)->(join (H a) (H b)).off x:=λx γ=>SP (γ a) (γ b)
 have Gw:∀{p:cN->Prop},p a->p b->(∀k,k≠a->k≠b->p k)->∀k,p k:=λuo uq SQ k=>by
  by_cases J:k=a
  ·rw[J];exact uo
  ·by_cases U:k=b
   ·rw[U];exact uq
   ·exact SQ k J U
 have Ly:∀x,(∀k,(H k).off x)->∀k,(bO (bO H a A) b B k).off x:=λx γ=>Gw (by rw[vS];exact bY.off (Lx x γ)) (by rw[vT];exact dX.off (Lx x γ)) (λk J U=>by rw[rk k J U];exact γ k);refine⟨λp q zH=>?_,?_,?_,λi x v hv=>?_,λs o x ν γ=>?_,c9.lg,c9.p1,λx γ=>?_⟩
 ·by_cases uo:p=a
  ·subst uo;by_cases xH:q=b
   ·subst xH;rw[vS,vT];exact Lv
   ·rw[vS,rk q (Ne.symm zH) xH];exact(CF q (Ne.symm zH) xH).sub bY (Sub.refl _)
  ·by_cases uq:p=b
   ·subst uq;by_cases xI:q=a
    ·subst xI;rw[vS,vT];exact Lv.symm
    ·rw[vT,rk q xI (Ne.symm zH)];exact(CF q xI (Ne.symm zH)).sub dX (Sub.refl _)
   ·by_cases xI:q=a
    ·subst xI;rw[vS,rk p uo uq];exact((CF p uo uq).sub bY (Sub.refl _)).symm
    ·by_cases xH:q=b
     ·subst xH;rw[vT,rk p uo uq];exact((CF p uo uq).sub dX (Sub.refl _)).symm
     ·rw[rk p uo uq,rk q xI xH];exact h.apart p q zH
 ·exact Gw (λx o ψ=>by rw[vS] at ψ;exact(Gv (bY.owns ψ)).elim (h.high _ _ _) (h.high _ _ _)) (λx o ψ=>by rw[vT] at ψ;exact(Gv (dX.owns ψ)).elim (h.high _ _ _) (h.high _ _ _)) (λk J U x o ψ=>by rw[rk k J U] at ψ;exact h.high _ _ _ ψ)
 ·exact Gw (λx ψ=>by rw[vS] at ψ;exact(CE (bY.fg ψ)).elim (h.oj _ _) (h.oj _ _)) (λx ψ=>by rw[vT] at ψ;exact(CE (dX.fg ψ)).elim (h.oj _ _) (h.oj _ _)) (λk J U x ψ=>by rw[rk k J U] at ψ;exact h.oj _ _ ψ)
 ·obtain⟨a1,a9,cK⟩:=h.fresh i x v hv;exact⟨a1,Ly x a9,cK⟩
 ·obtain⟨a1,a9,cK⟩:=c9.kS s o x ν γ;exact⟨a1,Ly x a9,cK⟩
 ·have h7:(.inr x:cN)≠b:=λe=>by
   obtain⟨s,o,ν,hi⟩:=Lw x (.inl e.symm);obtain⟨o',J,U⟩:=dH.2 s o ν;exact γ s o' J (by rw[<-U];exact hi)
  have gm:(.inr x:cN)≠a:=λe=>by
   obtain⟨s,o,ν,hi⟩:=Lw x (.inr e.symm);obtain⟨o',J,U⟩:=dH.2 s o ν;exact γ s o' J (by rw[<-U];exact hi)
  rw[rk _ gm h7];exact c9.eF x γ
theorem Sub.rj {G E A:Α} (h:Sub A G):Sub A (join G E):=
 ⟨λb o v p ε=>let ⟨fL,an,π⟩:=h.aP b o v p ε;⟨fL,by simp[join,an],π⟩,λb x γ=>by simp[join,h.row b x γ],λb x γ=>by simp[join,h.obj b x γ]⟩
theorem hq.two (h:hq H aN O bn w) {a b:cN} {A B:Α} (bY:Fits A w) (dX:Fits B w) (dH:∀s o',O' s=some o'->At s o' w):hq (bO (bO H a A) b B) aN O' bn w:=by
 refine⟨λk=>?_,h.mN,dH,h.keep⟩;by_cases U:k=b
 ·subst U;rw[dS];exact dX
 ·rw[bP _ _ U];by_cases J:k=a
  ·subst J;rw[dS];exact bY
  ·rw[bP _ _ J];exact h.fit k
theorem hq.atom (h:hq H aN O bn w) (Β:iV H aN O hJ) (an:bn.heap.size=hJ) {s:Nat} {o o':aV} (ν:O s=some o) (b7:o'.toSpec=o.toSpec) (χ:fI (λb _=>ez s o.toSpec b) (λ_=>False) w w') (κ:At s o' w') :
  hq H aN (Go.ConcN.upd O s (some o')) bn w':=by
 refine⟨λk=>(h.fit k).keeps χ (λb dW hb=>((Β.kS s o b ν hb).2.1 k).1 dW) (λb hb=>hb.elim),λj b c t hb=>?_,λr q Ξ=>?_,?_⟩
 ·obtain⟨c',J,U,μ⟩:=χ.cells b c t _ (h.mN j b c t hb);have:c'=c:=by
   apply Array.ext_getElem?;intro dW;exact μ dW λdV=>by rw[(Β.kS s o b ν dV).2.2 j] at hb;cases hb
  rw[J,this]
 ·by_cases e:r=s
  ·subst e;rw[upd_same] at Ξ;cases Ξ;exact κ
  ·rw[upd_ne _ _ e] at Ξ;have zz:∀b c t,ez r q.toSpec b->w.heap[b]?=some (.cells c t (0,0))->w'.heap[b]?=some (.cells c t (0,0)):=λb c t hb ε=>by
    obtain⟨c',J,U,μ⟩:=χ.cells b c t _ ε;have:c'=c:=by
     apply Array.ext_getElem?;intro dW;exact μ dW λdV=>e (Β.lg r s q o b Ξ ν hb dV)
    rw[J,this]
   obtain⟨⟨ty,J⟩,U⟩:=h.fV r q Ξ;exact⟨⟨ty,zz _ _ _ (.inl rfl) J⟩,λm hm=>let ⟨j1,μ⟩:=U m hm;⟨j1,zz _ _ _ (.inr hm) μ⟩⟩
 ·have eN:=h.keep;refine⟨Nat.le_trans eN.size χ.size,λb c t ef hb=>?_,λb x hb γ _=>χ.nz b x (eN.nz b x hb γ id) γ id,eN.os.trans χ.os,χ.output.trans eN.output,χ.tape.trans eN.tape⟩;obtain⟨c1,J,U,μ⟩:=eN.cells b c t ef hb;obtain⟨c2,Ε,au,bd⟩:=χ.cells b c1 t ef J;refine⟨c2,Ε,by rw[au,U],λdW _=>?_⟩;rw[bd dW λγ=>?_,μ dW id];have:=(Β.kS s o b ν γ).1;have:=fJ hb;omega
end
structure xJ (H:cN->Α) (tok:Nat->Nat->Tok) (O:Nat->Option aV):Prop where
 p6:∀s o m,O s=some o->o.aZ=some m->(∀i q p,tok i s≠.par q p .bm)->(∀i k L g,tok i s≠.ch k (.dr L) g)->o.ar o.L (H (.inr m))
 mR:∀s o,O s=some o->(∀i q p,tok i s≠.par q p .bm)->lZ o.D o.ak (H (.inr s))
structure vU (n:Nat) (tok:Nat->Nat->Tok) (rel:Nat->Bool) (bw home dJ:Nat->Nat) (t:Trace):Prop where
 dY:∀k g,t.g? k=some g->g<n
 c1:∀i,i≠0->rel i=true->∃op,t[dJ i]?=some op/\op.g=i/\op.act=.mark (.releaseMerge ⟨home i,0,none⟩)/\t.heard (dJ i)/\∀k,t.g? k=some i->t.counts k->Before t k (dJ i)
 c2:∀i,i≠0->rel i=true->(∃q p,tok (bw (home i)) (home i)=.par q p .bm)->Knows t (bw (home i)) (dJ i)
 c3:∀i,i≠0->rel i=true->bw (home i)≠0->rel (bw (home i))=true->Before t (dJ i) (dJ (bw (home i)))
structure xK (aN:Nat->Nat->Option (Array Value×TypeId)) (tok:Nat->Nat->Tok) (O:Nat->Option aV) (rel:Nat->Bool) (dJ:Nat->Nat) (t:Trace):Prop where
 jH:∀s o m,O s=some o->o.aZ=some m->∀p op,t[p]?=some op->op.act=.mark (.releaseMerge ⟨m,0,none⟩)->(∃k mu g,tok op.g s=.ch k mu g)/\(rel op.g=true->Before t p (dJ op.g))
 vV:∀i b v,aN i b=some v->∀op∈t,op.act≠.mark (.releaseMerge ⟨b,0,none⟩)
def Rec (P:Program) (Q:Value->Prop) (c:dc) (i:Nat) (g:Goroutine):Prop:=
 ∃cQ,j2 P Q (c.T i) (i==0) cQ (c.x i)/\(g=cQ\/(jl cQ/\g={cQ with status:=.blocked}/\∃s o,c.O s=some o/\kA o (c.tok i s)/\∀bk,bk≠s->nF (c.tok i bk)))
structure Inv (P:Program) (Q:Value->Prop) (bn:World) (c:dc) (gs:Array Goroutine) (w:World) (t:Trace):Prop where
 pos:0<gs.size
 mem:hq c.H c.aN c.O bn w
 hold:iV c.H c.aN c.O bn.heap.size
 bU:jm c.H c.aN c.tok c.O c.bw c.deaf w.heap.size t
 bj:eY gs.size c.tok c.spec c.view c.rel c.O c.bw c.home
 eF:xJ c.H c.tok c.O
 et:vU gs.size c.tok c.rel c.bw c.home c.dJ t
 fW:xK c.aN c.tok c.O c.rel c.dJ t
 vW:∀i g,gs[i]?=some g->Rec P Q c i g
theorem zI {t u:Trace} {k:Nat} (h:k<t.size):(t++u).counts k↔t.counts k:=by
 unfold Trace.counts;rw[act?_old h,heard_old h]
theorem vU.app {n:Nat} {tok eG:Nat->Nat->Tok} {rel:Nat->Bool} {bw home dJ:Nat->Nat} {t u:Trace} (h:vU n tok rel bw home dJ t) {i:Nat} (hi:i<n) (hu:∀op∈u,op.g=i)
  (ε:rel i=true->∀k,t.size<=k->¬(t++u).counts k) (χ:∀s q p,(∃j,eG j s=.par q p .bm)->∃j,tok j s=.par q p .bm) (zJ:∀j s q p,eG j s=.par q p .bm->tok j s=.par q p .bm):vU n eG rel bw home dJ (t++u):=by
 refine⟨λk g Ο=>?_,λj an δ=>?_,λj an δ cm=>?_,λj an δ J U=>(h.c3 j an δ J U).app u⟩
 ·obtain⟨op,ψ,hK⟩:=Option.map_eq_some_iff.1 Ο;rcases getElem?_append_cases ψ with⟨_,j5⟩|⟨_,gA⟩
  ·exact h.dY k g (by simp[Trace.g?,j5,hK])
  ·rw[<-hK,hu op gA];exact hi
 ·obtain⟨op,J,U,μ,Ε,au⟩:=h.c1 j an δ;have π:=lt_size_of_getElem? J;refine⟨op,by rw[getElem?_append_old π];exact J,U,μ,(heard_old π).2 Ε,λk Ο mS=>?_⟩;obtain⟨sD,ψ,hK⟩:=Option.map_eq_some_iff.1 Ο;rcases getElem?_append_cases ψ with⟨aO,j5⟩|⟨hle,gA⟩
  ·exact(au k (by simp[Trace.g?,j5,hK]) ((zI aO).1 mS)).app u
  ·have e:j=i:=by rw[<-hK,hu sD gA]
   subst e;exact absurd mS (ε δ k hle)
 ·obtain⟨q,p,Ξ⟩:=cm;exact(h.c2 j an δ ⟨q,p,zJ _ _ _ _ Ξ⟩).app u
section
variable {P:Program} {Q:Value->Prop} {bn:World} {c:dc} {gs:Array Goroutine} {w:World} {t:Trace}
theorem Inv.stat (h:Inv P Q bn c gs w t) {i:Nat} {g:Goroutine} (Ο:gs[i]?=some g):g.status=.running\/(i≠0/\g.status=.finished/\c.rel i=true/\∀s,Gone (c.tok i s))\/(g.status=.blocked/\∃s o,c.O s=some o/\kA o (c.tok i s)/\∀bk,bk≠s->nF (c.tok i bk)):=by
 obtain⟨cQ,ι,ε⟩:=h.vW i g Ο;rcases ε with rfl|⟨_,rfl,hw⟩
 ·cases Ι:c.T i with
  | leaf=>
   rw[Ι] at ι;rcases ι.2 with⟨_,J⟩|⟨an,J,U,μ,_⟩
   ·exact .inl J.1.1
   ·exact .inr (.inl ⟨by rintro rfl;simp at an,μ,J,U⟩)
  | node f=>
   rw[Ι] at ι;rcases ι.2 with(⟨_,J⟩|⟨an,J,U,μ,_⟩)|J
   ·exact .inl J.1.1
   ·exact .inr (.inl ⟨by rintro rfl;simp at an,μ,J,U⟩)
   ·rcases J with⟨_,U,_⟩|⟨U,_⟩
    ·exact .inl U
    ·exact .inl U.1
 ·exact .inr (.inr ⟨rfl,hw⟩)
theorem SR {t:Tok} (h:o3 t):∃k m g,t=.ch k m g/\¬nF t/\(∀o,¬kA o t)/\m≠.done/\m≠.idle:=by
 cases t with
 | nil=>exact h.elim
 | par=>exact h.elim
 | ch k m g=>
  refine⟨k,m,g,rfl,?_⟩;cases m with
  | act b=>cases b<;>first|exact h.elim|simp[nF,kA]
  | _=>first|exact h.elim|simp[nF,kA]
theorem Inv.awake (h:Inv P Q bn c gs w t):∃(i:Nat) (g:Goroutine),gs[i]?=some g/\g.status=.running:=by
 apply Classical.byContradiction;intro SS;have iv:∀i,i<gs.size->(c.rel i=true/\∀s,Gone (c.tok i s))\/∃s o,c.O s=some o/\kA o (c.tok i s)/\∀bk,bk≠s->nF (c.tok i bk):=λi hi=>by
  have Ο:gs[i]?=some gs[i]:=ff hi;rcases h.stat Ο with J|⟨_,_,J⟩|⟨_,J⟩
  ·exact absurd ⟨i,_,Ο,J⟩ SS
  ·exact .inl J
  ·exact .inr J
 have up:∀i s o n p,c.O s=some o->c.tok i s=.par n p .w3->o.cP=0->∃j bk o' jE fj,i<j/\j<gs.size/\c.O bk=some o'/\c.tok j bk=.par jE fj .w3/\o'.cP=0:=λi s o n p ν Ν an=>by
  have bf:i<gs.size:=h.bj.lt (s:=s) (by rw[Ν];simp);obtain⟨j,δ,cH⟩:=Sy (h.bj.a7 s o ν).2 (i:=i) bf Ν an;have mT:rf (c.tok j s):=cH;have lj:∃k m g,c.tok j s=.ch k m g/\g≠.gone:=by
   cases γ:c.tok j s with
   | nil=>rw[γ] at mT;exact mT.elim
   | par=>rw[γ] at mT;exact mT.elim
   | ch k m g=>rw[γ] at mT;exact⟨k,m,g,rfl,by rintro rfl;exact mT⟩
  obtain⟨k,m,g,γ,Ο⟩:=lj;obtain⟨_,sE,aO⟩:=h.bj.o9 j s k m g γ;have hi:=h.bj.par i s n p _ Ν;rcases iv j δ with⟨_,J⟩|⟨bk,o',jD,hw,hΓ⟩
  ·have:=J s;rw[γ] at this;cases g<;>first|exact absurd rfl Ο|exact this.elim
  ·by_cases e:bk=s
   ·subst e;rw[ν] at jD;cases jD;rw[γ] at hw;have hm:m=.q/\o.db=0:=by cases m<;>simp_all [kA]
    obtain⟨rfl,SU⟩:=hm;have Ξ:0<ba gs.size (λa=>c.tok a bk) lT:=by
     have:=fy (λa=>c.tok a bk) lT δ;simp only[γ,lT,zm] at this;omega
    obtain⟨a,κ,hb⟩:=Sv (h.bj.a7 bk o ν).1 Ξ SU;obtain⟨af,cb,g',h4,bC,dt,fK,mU⟩:=SR hb;have CG:c.tok a bk=.ch af cb g':=h4;exfalso;rcases iv a κ with⟨_,J⟩|⟨s2,jI,eg,gO,vX⟩
    ·have sF:=J bk;rw[CG] at sF;have:g'≠.work:=by rintro rfl;exact sF
     rcases h.bj.pb a bk af cb g' o ν CG this with e|⟨e,_⟩
     ·exact fK e
     ·exact mU e
    ·by_cases Δ:s2=bk
     ·subst Δ;exact dt _ gO
     ·exact bC (vX bk (Ne.symm Δ))
   ·cases Κ:c.tok j bk with
    | nil=>rw[Κ] at hw;exact hw.elim
    | ch af cb g'=>exact absurd ((h.bj.o9 j bk af cb g' Κ).2.1.symm.trans sE) e
    | par jE fj Gp=>
     rw[Κ] at hw;cases Gp<;>first|exact hw.elim|exact⟨j,bk,o',jE,fj,R,δ,jD,Κ,hw⟩
 have top:∀d i s o n p,gs.size-i=d->i<gs.size->c.O s=some o->c.tok i s=.par n p .w3->o.cP=0->False:=λd=>by
  induction d using Nat.strongRecOn with
  | _ d ω=>
   intro i s o n p hd hi ν Ν an;obtain⟨j,bk,o',jE,fj,J,U,μ,Ε,au⟩:=up i s o n p ν Ν an;exact ω (gs.size-j) R j bk o' jE fj rfl U μ Ε au
 rcases iv 0 h.pos with⟨J,_⟩|⟨s,o,ν,hw,_⟩
 ·rw[h.bj.ui] at J;cases J
 ·cases Κ:c.tok 0 s with
  | nil=>rw[Κ] at hw;exact hw.elim
  | ch k m g=>exact(h.bj.o9 0 s k m g Κ).1 rfl
  | par n p aQ=>
   rw[Κ] at hw;cases aQ<;>first|exact hw.elim|exact top _ 0 s o n p rfl h.pos ν Κ hw
theorem Rec.woken {c':dc} {i j:Nat} {g g' b:Goroutine} {w':World} (h:Rec P Q c j b) (γ:c'.x j=c.x j) (Ι:c'.T j=c.T j)
  (hw:(mayWake P g=true/\jl g')\/∀s o,c.O s=some o->kA o (c.tok j s)->∃o',c'.O s=some o'/\kA o' (c.tok j s)):Rec P Q c' j (Go.Conc.woken P g g' w' b):=by
 have eb:c'.tok j=c.tok j:=congrArg a2.tok γ;obtain⟨cQ,ι,ε⟩:=h;rcases ε with rfl|⟨eh,rfl,s,o,ν,rl,cH⟩
 ·have ν:b.status=.running\/b.status=.finished:=by
   cases rm:c.T j with
   | leaf=>
    rw[rm] at ι;rcases ι.2 with⟨_,J⟩|⟨_,_,_,μ,_⟩
    ·exact .inl J.1.1
    ·exact .inr μ
   | node f=>
    rw[rm] at ι;rcases ι.2 with(⟨_,J⟩|⟨_,_,_,μ,_⟩)|J
    ·exact .inl J.1.1
    ·exact .inr μ
    ·rcases J with⟨_,U,_⟩|⟨U,_⟩
     ·exact .inl U
     ·exact .inl U.1
  have:Go.Conc.woken P g g' w' b=b:=by
   unfold Go.Conc.woken;split
   ·exact again_running _ ν
   ·rfl
  rw[this];exact⟨b,by rw[γ,Ι];exact ι,.inl rfl⟩
 ·unfold Go.Conc.woken;split
  ·rename_i CH;refine⟨cQ,by rw[γ,Ι];exact ι,.inl ?_⟩;obtain⟨r1,r2⟩:=eh;obtain⟨ax,bm,st,hΔ,of⟩:=cQ;simp only at r1 r2;subst r1 r2;rfl
  ·rename_i CH;rcases hw with⟨J,U⟩|hw
   ·exfalso;apply CH;simp[J,U.1]
   ·obtain⟨o',J,U⟩:=hw s o ν rl;exact⟨cQ,by rw[γ,Ι];exact ι,.inr ⟨eh,rfl,s,o',J,by rw[eb];exact U,by rw[eb];exact cH⟩⟩
end
section
variable {P:Program} {Q:Value->Prop} {bn:World} {c:dc} {gs:Array Goroutine} {w:World} {t:Trace}
theorem Inv.at (h:Inv P Q bn c gs w t) (d:Nat):Inv P Q bn c gs (w.at d) t:=⟨h.pos,h.mem.at d,h.hold,h.bU,h.bj,h.eF,h.et,h.fW,h.vW⟩
theorem Inv.gone (h:Inv P Q bn c gs w t) (an:∀s,gk (c.tok 0 s)):∀j,j≠0->j<gs.size->c.rel j=true/\(∀s,Gone (c.tok j s))/\Knows t 0 (c.dJ j):=by
 have SV:∀t:Tok,gk t->Gone t:=λt Ν=>by cases t with
  | nil=>trivial
  | par _ _ aQ=>cases aQ<;>first|exact Ν.elim|trivial
  | ch=>exact Ν.elim
 intro j
 induction j using Nat.strongRecOn with
 | _ j ω=>
  intro fN e2;obtain⟨k,m,g,Ν⟩:=h.bj.sB j fN e2;obtain⟨_,_,aO⟩:=h.bj.o9 j _ k m g Ν;cases ψ:c.O (c.home j) with
  | none=>have:=h.bj.bare _ ψ j;rw[Ν] at this;cases this
  | some o=>
  have Ζ:=h.bj.a7 _ o ψ;obtain⟨i0,lk,π⟩:=Cr (φ:=e1) (N:=gs.size) (τ:=λa=>c.tok a (c.home j)) (by rw[Ζ.2.oi];exact Nat.one_pos);have zJ:∃q p aQ,c.tok i0 (c.home j)=.par q p aQ:=by
   cases γ:c.tok i0 (c.home j) with
   | par q p aQ=>exact⟨q,p,aQ,rfl⟩
   | nil=>simp[γ,e1] at π
   | ch=>simp[γ,e1] at π
  obtain⟨q,p,aQ,γ⟩:=zJ;have cF:=h.bj.par i0 _ q p aQ γ;subst cF;have cm:aQ=.bm/\(c.bw (c.home j)≠0->c.rel (c.bw (c.home j))=true/\Knows t 0 (c.dJ (c.bw (c.home j)))):=by
   by_cases e:c.bw (c.home j)=0
   ·have:=an (c.home j);rw[<-e,γ] at this;refine⟨by cases aQ<;>first|exact this.elim|rfl,λx=>absurd e x⟩
   ·obtain⟨r1,r2,r3⟩:=ω _ aO e lk;have:=r2 (c.home j);rw[γ] at this;exact⟨by cases aQ<;>first|exact this.elim|rfl,λ_=>⟨r1,r3⟩⟩
  obtain⟨rfl,gn⟩:=cm;have uu:ba gs.size (λa=>c.tok a (c.home j)) iU=1:=by
   rw[pW (φ:=iU) (λt Ν=>by cases t<;>simp_all [e1,iU]) Ζ.2.oi lk (by rw[γ];rfl),γ];rfl
  obtain⟨f1,f2,f3,f4,f5,f6⟩:=Ζ.2.KX uu;have CI:=Ζ.2.F5;have l1:=fy (λa=>c.tok a (c.home j)) jF e2;have l2:=fy (λa=>c.tok a (c.home j)) kx e2;have o2:=fy (λa=>c.tok a (c.home j)) ky e2;simp only[Ν,jF,kx,ky] at l1 l2 o2;have Ο:g=.gone:=by
   cases g with
   | gone=>rfl
   | work=>simp only[sy] at l1;omega
   | rel=>simp only[sy] at l1;omega
   | l2=>simp only[vC] at l2;omega
   | h5=>simp only[vD] at o2;omega
  subst Ο;have eu:c.rel j=true:=(h.bj.eA j k m _ fN Ν).2 ζ;refine⟨eu,λs=>?_,?_⟩
  ·by_cases e:s=c.home j
   ·subst e;rw[Ν];trivial
   ·exact SV _ (h.bj.pa j s eu e)
  ·have χ:=h.et.c2 j fN eu ⟨q,p,γ⟩;by_cases e:c.bw (c.home j)=0
   ·rw[e] at χ;exact χ
   ·obtain⟨r1,r2⟩:=gn e;exact Knows.of_before (h.et.c3 j fN eu e r1) r2
theorem SW {o:aV} {x:Tok} (h:Gone x) (J:∀k m g,x=.ch k m g->m≠.q):¬kA o x:=by
 cases x with
 | nil=>exact id
 | par _ _ aQ=>cases aQ<;>first|exact h.elim|exact id
 | ch k m g=>cases m<;>first|exact absurd rfl (J _ _ _ rfl)|exact id
theorem Inv.Lz (h:Inv P Q bn c gs w t) {g:Goroutine} (Ο:gs[0]?=some g) (ν:Lf P g (c.x 0) Q) (sl:Option (Nat×Nat)) (w1:World) :
  ∃v es,stepG P true g w=.ended (.done v) w es/\Good P (λv w'=>Q v/\fI (λ_ _=>False) (λ_=>False) bn w') (crowd gs w1 sl) (.done v) w (t++MemOp.ofEvents 0 g.frame.fn g.frame.place es):=by
 obtain⟨_,c5,hd,uu⟩:=ν;obtain⟨v,es,J,U,μ⟩:=uu w (h.mem.fit (.inl 0));refine⟨v,es,J,v,rfl,⟨μ,h.mem.keep⟩,?_⟩;have p7:=h.gone c5;have LA:=h.bU.own (w':=w) h.mem h.hold 0 (G':=c.H (.inl 0)) (V':=c.aN 0) (es:=es) (fn:=g.frame.fn) (pos:=g.frame.place) (Nat.le_refl _)
  ⟨λb o v p ε=>.inr ⟨v,p,ε,id⟩,λb hb=>.inr hb⟩ (λb x γ=>.inl γ) U (λb x γ hle=>by
   have:=fJ (h.mem.mN 0 b x.1 x.2 γ);omega)
 have quit:∀j x,j≠0->gs[j]?=some x->∃n,QuitsD P n (c.deaf j) x:=λj x δ γ=>by
  have e2:=(Array.getElem?_eq_some_iff.1 γ).1;obtain⟨r1,r2,_⟩:=p7 j δ e2;obtain⟨cQ,ι,ε⟩:=h.vW j x γ;have Ξ:∃n,QuitsD P n (c.deaf j) cQ:=by
   cases Ι:c.T j with
   | leaf=>rw[Ι] at ι;exact ι.1 r1 r2
   | node f=>rw[Ι] at ι;exact ι.1 r1 r2
  rcases ε with rfl|⟨_,_,s,o,ν,hw,_⟩
  ·exact Ξ
  ·refine absurd hw (SW (r2 s) λk m g e hm=>?_);subst hm;have rn:g≠.work:=by rintro rfl;have:=r2 s;rw[e] at this;exact this
   rcases h.bj.pb j s k _ g o ν e rn with x|⟨x,_⟩<;>cases x
 refine⟨LA.race,λk g' χ bA ε=>?_,⟨λx γ=>?_,rfl⟩,λj x γ δ=>?_⟩
 ·obtain⟨op,ψ,hK⟩:=Option.map_eq_some_iff.1 χ;rcases getElem?_append_cases ψ with⟨aO,j5⟩|⟨_,gA⟩
  ·have hL:t.g? k=some g':=by simp[Trace.g?,j5,hK]
   have SX:=h.et.dY k g' hL;obtain⟨r1,_,r3⟩:=p7 g' bA SX;obtain⟨sD,Γ,Δ,a4,cM,fh⟩:=h.et.c1 g' bA r1;obtain⟨q,z,vY,p8,zK⟩:=Knows.of_before (fh k hL ((zI aO).1 ε)) r3;refine⟨q,by simp[Trace.g?,getElem?_append_old (lt_size_of_getElem? vY),vY,p8],?_⟩;rcases zK with rfl|zK
   ·exfalso;simp[Trace.g?,vY,p8] at hL;exact bA hL.symm
   ·exact hb_app _ zK
  ·obtain⟨e,_,rfl⟩:=Go.Conc.mem_ofEvents gA;exact absurd hK.symm bA
 ·obtain⟨j,δ⟩:=List.mem_iff_getElem?.1 γ;rw[List.getElem?_drop] at δ;obtain⟨n,Ξ⟩:=quit (1+j) x R (by simpa[crowd] using δ);exact⟨n,Ξ.leaves⟩
 ·obtain⟨n,Ξ⟩:=quit j x δ γ;refine⟨n,?_⟩;have e:(t++MemOp.ofEvents 0 g.frame.fn g.frame.place es).deaf j (t++MemOp.ofEvents 0 g.frame.fn g.frame.place es).size=c.deaf j:=LA.hears j;rw[e];exact Ξ.hears _
def Comes (P:Program) (Q:Value->Prop) (bn:World) (m:Machine) (t:Trace):Prop:=
 ∃N last o w' t',runNT P (N+1) m t=(.ended o w',t')/\runN P N m=.next last/\step P last=.ended o w'/\Good P (λv w'=>Q v/\fI (λ_ _=>False) (λ_=>False) bn w') last o w' t'
theorem Comes.next {m cb:Machine} {u:Trace} (ν:stepT P m=(.next cb,u)) (h:Comes P Q bn cb (t++u)):Comes P Q bn m t:=by
 obtain⟨n,last,o,w,t',J,U,μ,Ε⟩:=h;exact⟨n+1,last,o,w,t',by rw[runNT_succ_next ν];exact J,by rw[runN_succ_next ν];exact U,μ,Ε⟩
theorem Comes.last {m:Machine} {u:Trace} {o:Outcome} {w:World} (ν:stepT P m=(.ended o w,u)) (Ο:Good P (λv w'=>Q v/\fI (λ_ _=>False) (λ_=>False) bn w') m o w (t++u)):Comes P Q bn m t:=
 ⟨0,m,o,w,t++u,by simp[runNT,ν],rfl,by simp[step,ν],Ο⟩
def xL (gs:Array Goroutine):Nat:=(gs.toList.filter λg=>decide (g.status=.running)).length
structure Ord (j6:List Nat) (n:Nat):Prop where
 nodup:j6.Nodup
 mem:∀i,i∈j6↔i<n
theorem Ord.part {j6:List Nat} {n i:Nat} (h:Ord j6 n) (hi:i<n):∃a b,j6=a++i::b/\i∉a/\i∉b:=by
 obtain⟨a,b,rfl⟩:=List.append_of_mem ((h.mem i).2 hi);have:=h.nodup;rw[List.nodup_append] at this;obtain⟨_,U,μ⟩:=this;rw[List.nodup_cons] at U;exact⟨a,b,rfl,λκ=>μ i κ i ζ rfl,U.1⟩
theorem xM {B:Type} {T:Nat->B} {i:Nat} {x:B} {l:List Nat} (h:i∉l):l.map (upd T i x)=l.map T:=by
 apply List.map_congr_left;intro j δ;exact upd_ne _ _ (λe=>h (e▸δ))
theorem Ord.one {B:Type} {j6:List Nat} {n i:Nat} (h:Ord j6 n) (hi:i<n) {T:Nat->gy B} {f:B->gy B} (Ι:T i=.node f) (k:B):nC (j6.map (upd T i (f k))) (j6.map T):=by
 obtain⟨a,b,rfl,κ,hb⟩:=h.part hi;simp only[List.map_append,List.map_cons,xM κ,xM hb,upd_same,Ι];exact .one _ _ _ _
theorem Ord.two {B:Type} {j6:List Nat} {n i:Nat} (h:Ord j6 n) (hi:i<n) {T:Nat->gy B} {f:B->gy B} (Ι:T i=.node f) (k af:B) :
  ∃CJ,Ord CJ (n+1)/\nC (CJ.map (upd (upd T i (f k)) n (f af))) (j6.map T):=by
 have oo:n∉j6:=λγ=>by have:=(h.mem n).1 γ;omega
 obtain⟨a,b,rfl,κ,hb⟩:=h.part hi;have mV:n∉a:=λγ=>oo (by simp[γ]);have LB:n∉b:=λγ=>oo (by simp[γ]);refine⟨a++i::n::b,⟨?_,λj=>?_⟩,?_⟩
 ·have:=h.nodup;rw[List.nodup_append] at this ⊢;obtain⟨J,U,μ⟩:=this;rw[List.nodup_cons] at U;refine⟨J,?_,λx γ y Κ=>?_⟩
  ·rw[List.nodup_cons,List.nodup_cons];exact⟨by simp;exact⟨R,U.1⟩,LB,U.2⟩
  ·simp at Κ;rcases Κ with rfl|rfl|Κ
   ·exact μ x γ _ ζ
   ·rintro rfl;exact mV γ
   ·exact μ x γ y (by simp[Κ])
 ·have:=h.mem j;simp only[List.mem_append,List.mem_cons] at this ⊢;constructor
  ·rintro(γ|rfl|rfl|γ)
   ·have:=this.1 (.inl γ);omega
   ·omega
   ·omega
   ·have:=this.1 (.inr (.inr γ));omega
  ·intro γ;by_cases e:j=n
   ·exact .inr (.inr (.inl e))
   ·rcases this.2 R with γ|rfl|γ
    ·exact .inl γ
    ·exact .inr (.inl rfl)
    ·exact .inr (.inr (.inr γ))
 ·have bf:i≠n:=by omega
  simp only[List.map_append,List.map_cons,xM mV,xM LB,xM κ,xM hb,upd_same,upd_ne _ _ bf,Ι];exact .two _ _ _ _ _
end
theorem CK {B:Type} {f:Nat->B} {k:Nat} {x:B} (h:f k=x):upd f k x=f:=by
 funext j
 by_cases e:j=k
 ·subst e;rw[upd_same,h]
 ·rw[upd_ne _ _ e]
theorem jr (H:cN->Α) (i:Nat) (G:Α) (b:Nat):bO H (.inl i) G (.inr b)=H (.inr b):=bP H G ζ
theorem vZ (tok:Nat->Nat->Tok) (i s:Nat) (t:Tok):b' tok i s t i=upd (tok i) s t:=by unfold b';rw[upd_same]
theorem sG {tok:Nat->Nat->Tok} {i s j:Nat} (t:Tok) (h:j≠i):b' tok i s t j=tok j:=by unfold b';rw[upd_ne _ _ h]
theorem mW {B:Type} {a:Array B} {k:Nat} {x:B} (h:a[k]?=some x):k<a.size:=(Array.getElem?_eq_some_iff.1 h).1
theorem ofEvents_g {i:Nat} {fn:FuncId} {pos:String} {es:Array Event}:∀op∈MemOp.ofEvents i fn pos es,op.g=i:=λop Μ=>by obtain⟨e,_,rfl⟩:=Go.Conc.mem_ofEvents Μ;rfl
theorem LC {i:Nat} {fn:FuncId} {pos:String}:MemOp.ofEvents i fn pos #[]=#[]:=by rw[ofEvents_eq];simp
theorem SY (t:Trace) (i:Nat) (fn:FuncId) (pos:String) (es:Array Event) {j:Nat} (δ:j<=es.size):(t++MemOp.ofEvents i fn pos es).deaf i (t.size+j)=deafBehind (Deaf t i) (es.extract 0 j):=by
 have e:t++MemOp.ofEvents i fn pos es=(t++MemOp.ofEvents i fn pos (es.extract 0 j))++MemOp.ofEvents i fn pos (es.extract j es.size):=by
  rw[Array.append_assoc];congr 1;rw[ofEvents_eq,ofEvents_eq,ofEvents_eq,<-Array.map_append];congr 1;simp only[Array.extract_append_extract];rw[show max j es.size=es.size by omega];simp
 have cv:(t++MemOp.ofEvents i fn pos (es.extract 0 j)).size=t.size+j:=by rw[Array.size_append,ofEvents_eq];simp;omega
 rw[e,deaf_old R,<-cv];exact Deaf_own t i fn pos _
theorem Gx {t u:Trace} {k:Nat} (χ:t.size<=k) (ε:(t++u).counts k):∃op,u[k-t.size]?=some op/\(t++u)[k]?=some op/\∃x,op.act.touch?=some x/\x.loc.isMemory=true/\(x.kind≠.atomic\/(t++u).heard k):=by
 obtain⟨x,J,U,μ⟩:=ε;obtain⟨op,ψ,γ⟩:=touch_of (t:=t++u) (i:=k) J;exact⟨op,by rw[Array.getElem?_append_right χ] at ψ;exact ψ,ψ,x,γ,U,μ⟩
theorem xN {t u:Trace} (h:∀op∈u,op.act.touch?=none):∀k,t.size<=k->¬(t++u).counts k:=λk χ ε=>by
 obtain⟨op,J,_,x,μ,_⟩:=Gx χ ε;rw[h op (mem_of_getElem? J)] at μ;cases μ
theorem SZ {t:Trace} {i:Nat} {fn:FuncId} {pos:String} {es:Array Event} (h:∀e∈es,Cu e):∀k,t.size<=k->¬(t++MemOp.ofEvents i fn pos es).counts k:=λk χ ε=>by
 obtain⟨op,J,_,x,μ,Ε,_⟩:=Gx χ ε;obtain⟨e,he,rfl⟩:=Go.Conc.mem_ofEvents (mem_of_getElem? J);obtain⟨loc,wr,o6⟩:=e;rcases h _ he with ξ|ξ<;>simp only at ξ<;>subst ξ<;>simp[MemAct.ofEvent,MemAct.touch?] at μ;subst μ;simp[Loc.isMemory] at Ε
theorem CL {s d i:Nat} {sp:Spec} {es:Array Event} {fn:FuncId} {pos:String} (h:o4 s sp d es) {op:MemOp} (ψ:op∈MemOp.ofEvents i fn pos es) :
  (op.act=.mark .disable\/op.act=.mark .enable)\/∃b off wr,op.act=.access ⟨.cell ⟨b,off,none⟩,wr,true⟩/\ez s sp b:=by
 obtain⟨e,he,rfl⟩:=Go.Conc.mem_ofEvents ψ;obtain⟨j,δ⟩:=Array.mem_iff_getElem?.1 he;obtain⟨loc,wr,o6⟩:=e;rcases h.2 j _ δ with ξ|ξ|⟨b,off,S0,ξ,hb,_⟩
 ·simp only at ξ;subst ξ;exact .inl (.inl rfl)
 ·simp only at ξ;subst ξ;exact .inl (.inr rfl)
 ·cases ξ;exact .inr ⟨b,off,_,rfl,hb⟩
theorem S1 {t:Trace} {s i:Nat} {sp:Spec} {fn:FuncId} {pos:String} {es:Array Event} (h:o4 s sp (Deaf t i) es):∀k,t.size<=k->¬(t++MemOp.ofEvents i fn pos es).counts k:=λk χ ε=>by
 obtain⟨op,J,U,x,μ,Ε,au⟩:=Gx χ ε;rw[ofEvents_eq,Array.getElem?_map] at J;obtain⟨e,he,rfl⟩:=Option.map_eq_some_iff.1 J;have aO:k-t.size<es.size:=mW he;obtain⟨loc,wr,o6⟩:=e;rcases h.2 _ _ he with ξ|ξ|⟨b,off,S0,ξ,hb,hd⟩
 ·simp only at ξ;subst ξ;simp[MemAct.ofEvent,MemAct.touch?] at μ
 ·simp only at ξ;subst ξ;simp[MemAct.ofEvent,MemAct.touch?] at μ
 ·cases ξ;simp[MemAct.ofEvent,MemAct.touch?] at μ;subst μ;rcases au with au|⟨g,Ο,Φ⟩
  ·exact au rfl
  ·simp[Trace.g?,U] at Ο;subst Ο;have:=SY t i fn pos es (Nat.le_of_lt aO);rw[show t.size+(k-t.size)=k by omega] at this;rw[this] at Φ;omega
section
variable {P:Program} {Q:Value->Prop} {bn:World} {c c':dc} {gs:Array Goroutine} {w w':World} {t:Trace} {i:Nat} {g g':Goroutine} {es:Array Event}
theorem Inv.low (h:Inv P Q bn c gs w t) {s b:Nat} {o:aV} (ν:c.O s=some o) (hb:ez s o.toSpec b):b<w.heap.size:=by
 obtain⟨⟨ty,J⟩,U⟩:=h.mem.fV s o ν;rcases hb with rfl|hb
 ·exact fJ J
 ·obtain⟨j1,μ⟩:=U b hb;exact fJ μ
theorem Inv.obj (h:Inv P Q bn c gs w t) {s:Nat} (Ν:c.tok i s≠.nil):∃o,c.O s=some o:=by
 cases ν:c.O s with
 | none=>exact absurd (h.bj.bare s ν i) Ν
 | some o=>exact⟨o,rfl⟩
theorem jm.grow {H:cN->Α} {aN:Nat->Nat->Option (Array Value×TypeId)} {tok:Nat->Nat->Tok} {O:Nat->Option aV} {bw deaf:Nat->Nat} {N e':Nat} (h:jm H aN tok O bw deaf N t) (ck:N<=e'):jm H aN tok O bw deaf e' t:=
 ⟨h.race,λop Μ=>MemAct.low_mono ck (h.low op Μ),h.norel,h.perms,h.o5,h.cont,h.hears⟩
theorem xK.app {aN p9:Nat->Nat->Option (Array Value×TypeId)} {tok eG:Nat->Nat->Tok} {O O':Nat->Option aV} {rel:Nat->Bool} {dJ:Nat->Nat} {u:Trace} {N:Nat} (h:xK aN tok O rel dJ t) (uh:∀op∈t,op.act.low N)
  (hu:∀op∈u,∀b,op.act≠.mark (.releaseMerge ⟨b,0,none⟩)) (hv:∀j b v,p9 j b=some v->(∃fr,aN j b=some fr)\/N<=b) (dH:∀s o',O' s=some o'->∃o,O s=some o/\o.aZ=o'.aZ)
  (Ν:∀j s k mu g,tok j s=.ch k mu g->∃k mu g,eG j s=.ch k mu g):xK p9 eG O' rel dJ (t++u):=by
 refine⟨λs o' m ν hm p op π ψ=>?_,λj b v hb op Μ ψ=>?_⟩
 ·obtain⟨o,J,U⟩:=dH s o' ν;rcases getElem?_append_cases π with⟨_,iw⟩|⟨_,gA⟩
  ·obtain⟨⟨k,mu,g,μ⟩,Ε⟩:=h.jH s o m J (by rw[U];exact hm) p op iw ψ;exact⟨Ν _ _ _ _ _ μ,λι=>(Ε ι).app u⟩
  ·exact absurd ψ (hu op gA m)
 ·rcases Array.mem_append.1 Μ with ll|ll
  ·rcases hv j b v hb with⟨fr,l4⟩|hle
   ·exact h.vV j b fr l4 op ll ψ
   ·have:=uh op ll;rw[ψ] at this;simp only[MemAct.low] at this;omega
  ·exact hu op ll b ψ
theorem xJ.zL {H H':cN->Α} {tok:Nat->Nat->Tok} {O:Nat->Option aV} (h:xJ H tok O) (Β:∀b,H' (.inr b)=H (.inr b)):xJ H' tok O:=
 ⟨λs o m a b d e=>by rw[Β];exact h.p6 s o m a b d e,λs o a b=>by rw[Β];exact h.mR s o a b⟩
theorem Inv.laid (h:Inv P Q bn c gs w t) (Ο:gs[i]?=some g) {u:Trace}
  (mem:hq c'.H c'.aN c'.O bn w') (hold:iV c'.H c'.aN c'.O bn.heap.size) (bU:jm c'.H c'.aN c'.tok c'.O c'.bw c'.deaf w'.heap.size (t++u))
  (bj:eY gs.size c'.tok c'.spec c'.view c'.rel c'.O c'.bw c'.home) (eF:xJ c'.H c'.tok c'.O) (et:vU gs.size c'.tok c'.rel c'.bw c'.home c'.dJ (t++u)) (fW:xK c'.aN c'.tok c'.O c'.rel c'.dJ (t++u))
  (Gy:Rec P Q c' i g') (γ:∀j,j≠i->c'.x j=c.x j/\c'.T j=c.T j)
  (hw:(mayWake P g=true/\jl g')\/∀j s o,j≠i->c.O s=some o->kA o (c.tok j s)->∃o',c'.O s=some o'/\kA o' (c.tok j s)) :
  Inv P Q bn c' ((gs.map (woken P g g' w')).setIfInBounds i g') w' (t++u):=by
 have cv:((gs.map (woken P g g' w')).setIfInBounds i g').size=gs.size:=ζ
 have bf:i<gs.size:=mW Ο;refine⟨by rw[cv];exact h.pos,mem,hold,bU,by rw[cv];exact bj,eF,by rw[cv];exact et,fW,λj b hb=>?_⟩;by_cases e:j=i
 ·subst e;rw[Array.getElem?_setIfInBounds_self_of_lt (by simpa using bf)] at hb;cases hb;exact Gy
 ·rw[Array.getElem?_setIfInBounds_ne (Ne.symm e),Array.getElem?_map] at hb;obtain⟨dd,J,rfl⟩:=Option.map_eq_some_iff.1 hb;exact(h.vW j dd J).woken (i:=0) (γ j e).1 (γ j e).2 (hw.imp id λhw s o ν rl=>hw j s o e ν rl)
def ix (P:Program) (Q:Value->Prop) (bn:World) (c:dc) (gs:Array Goroutine) (w:World) (t:Trace) (i:Nat) (f:Bool×Goroutine×a2->gy (Bool×Goroutine×a2)):Prop:=
 ∀sl,∃c' rp w' u,runT P (crowd gs w sl) i=(.next (crowd rp w' sl),u)/\Inv P Q bn c' rp w' (t++u)/\
  ((rp.size=gs.size/\∃k,c'.T=upd c.T i (f k))\/(rp.size=gs.size+1/\∃k af,c'.T=upd (upd c.T i (f k)) gs.size (f af))\/(rp.size=gs.size/\c'.T=c.T/\xL rp<xL gs))
def CM (P:Program) (Q:Value->Prop) (bn:World) (c:dc) (gs:Array Goroutine) (w:World) (t:Trace) (i:Nat) (f:Bool×Goroutine×a2->gy (Bool×Goroutine×a2)):Prop:=
 ∃c',Inv P Q bn c' gs w t/\∃k,c'.T=upd c.T i (f k)
abbrev l5 (P:Program) (Q:Value->Prop) (f:Bool×Goroutine×a2->gy (Bool×Goroutine×a2)):zv:=λvL g' dj=>j2 P Q (f (vL,g',dj)) vL g' dj
theorem ix.go {f:Bool×Goroutine×a2->gy (Bool×Goroutine×a2)} (Ο:gs[i]?=some g) (ν:stepG P (i==0) g w=.go g' w' es)
  (h:Inv P Q bn c' ((gs.map (woken P g g' w')).setIfInBounds i g') w' (t++MemOp.ofEvents i g.frame.fn g.frame.place es)) (k:Bool×Goroutine×a2) (Ι:c'.T=upd c.T i (f k)):ix P Q bn c gs w t i f:=
 λ_=>⟨c',_,w',_,runT_crowd_go Ο ν,h,.inl ⟨ζ,k,Ι⟩⟩
variable {f:Bool×Goroutine×a2->gy (Bool×Goroutine×a2)}
theorem Inv.Gk (h:Inv P Q bn c gs w t) (Ο:gs[i]?=some g) (χ:K6 P (i==0) (l5 P Q f) g (c.x i)):ix P Q bn c gs w t i f:=by
 have hw:=χ w (h.mem.fit (.inl i)) (h.mem.mN i);cases ν:stepG P (i==0) g w with
 | go g' w' es=>
  rw[ν] at hw;obtain⟨G',V',ι,uv,Τ,b8,uw,rh,gl,Gl,aI⟩:=hw;have bf:i<gs.size:=mW Ο;have LD:∀e∈es,hG (c.H (.inl i)) w.heap.size w'.heap.size e:=λe he=>by
   have:=gl e he;split at this
   ·exact this.Gk
   ·exact this
  have γ:∀j,j≠i->({c with H:=bO c.H (.inl i) G',aN:=upd c.aN i V',T:=upd c.T i (f (i==0,g',{c.x i with G:=G',aN:=V'}))}:dc).x j=c.x j:=λj δ=>by
   have:(Sum.inl j:cN)≠.inl i:=λe=>δ (by cases e;rfl);simp[dc.x,bP _ _ this,upd_ne _ _ δ]
  refine ix.go (c':={c with H:=bO c.H (.inl i) G',aN:=upd c.aN i V',T:=upd c.T i (f (i==0,g',{c.x i with G:=G',aN:=V'}))}) Ο ν ?_ _ rfl;refine h.laid Ο (h.mem.own h.hold i uv Τ b8 rfl) (h.hold.own h.mem h.mem.keep.size i uw rh) (h.bU.own h.mem h.hold i uv.size uw rh LD Gl) h.bj ?_ ?_ ?_ ?_ (λj δ=>⟨γ j δ,upd_ne _ _ δ⟩) (.inr λj s o _ a b=>⟨o,a,b⟩)
  ·exact h.eF.zL λb=>jr c.H i G' b
  ·refine h.et.app bf ofEvents_g (λeu=>SZ λe he=>?_) (λ_ _ _ x=>x) (λ_ _ _ _ x=>x);have:=gl e he;have ft:(c.x i).rel=true:=eu;simpa only[ft,if_true] using this
  ·refine h.fW.app h.bU.low (λop Μ b hb=>?_) (λj b v hv=>?_) (λs o' ν=>⟨o',ν,rfl⟩) (λj s k mu g e=>⟨k,mu,g,e⟩)
   ·obtain⟨e,he,rfl⟩:=Go.Conc.mem_ofEvents Μ;have dK:=LD e he;obtain⟨loc,wr,o6⟩:=e;cases loc with
    | mark m=>simp only[hG] at dK;subst dK;simp[MemAct.ofEvent] at hb
    | obj r=>cases wr<;>cases o6<;>simp[MemAct.ofEvent] at hb
    | _=>simp[MemAct.ofEvent] at hb
   ·replace hv:upd c.aN i V' j b=some v:=hv
    by_cases δ:j=i
    ·subst δ;rw[upd_same] at hv;exact(rh b v hv).imp (λx=>⟨v,x⟩) (λx=>x.1)
    ·rw[upd_ne _ _ δ] at hv;exact .inl ⟨v,hv⟩
  ·refine⟨g',?_,.inl rfl⟩;have e:({c with H:=bO c.H (.inl i) G',aN:=upd c.aN i V',T:=upd c.T i (f (i==0,g',{c.x i with G:=G',aN:=V'}))}:dc).x i={c.x i with G:=G',aN:=V'}:=by
    simp[dc.x,upd_same]
   rw[e];show j2 P Q (upd c.T i (f (i==0,g',{c.x i with G:=G',aN:=V'})) i) _ _ _;rw[upd_same];exact aI
 | _=>rw[ν] at hw;exact hw.elim
theorem hq.zL {H:cN->Α} {aN:Nat->Nat->Option (Array Value×TypeId)} {O O':Nat->Option aV} (h:hq H aN O bn w) (e:O'=O):hq H aN O' bn w:=e▸h
theorem Inv.marked (h:Inv P Q bn c gs w t) (Ο:gs[i]?=some g) {m:Mark} (hm:m=.disable\/m=.enable) {d:Nat} (hd:d=deafBehind (c.deaf i) #[Go.ConcR.mk m]) (ν:stepG P (i==0) g w=.go g' w #[Go.ConcR.mk m])
  (aI:l5 P Q f (i==0) g' {c.x i with deaf:=d}):ix P Q bn c gs w t i f:=by
 have bf:i<gs.size:=mW Ο
 have nt:∀op∈MemOp.ofEvents i g.frame.fn g.frame.place #[Go.ConcR.mk m],op.act.touch?=none:=λop Μ=>by
  obtain⟨e,he,rfl⟩:=Go.Conc.mem_ofEvents Μ;simp at he;subst he;rcases hm with rfl|rfl<;>rfl
 have mV:∀op∈MemOp.ofEvents i g.frame.fn g.frame.place #[Go.ConcR.mk m],op.act=.mark .disable\/op.act=.mark .enable:=λop Μ=>by
  obtain⟨e,he,rfl⟩:=Go.Conc.mem_ofEvents Μ;simp at he;subst he;rcases hm with rfl|rfl
  ·exact .inl rfl
  ·exact .inr rfl
 refine ix.go (c':={c with deaf:=upd c.deaf i d,T:=upd c.T i (f (i==0,g',{c.x i with deaf:=d}))}) Ο ν ?_ _ rfl;refine h.laid Ο h.mem h.hold ?_ h.bj h.eF ?_ ?_ ⟨g',?_,.inl rfl⟩ (λj δ=>⟨by simp[dc.x,upd_ne _ _ δ],upd_ne _ _ δ⟩) (.inr λj s o _ a b=>⟨o,a,b⟩)
 ·refine h.bU.ext h.hold i ofEvents_g (λop Μ=>?_) (λop Μ a κ=>?_) (λop Μ b hb=>?_) (λj=>?_)
  ·rcases mV op Μ with e|e<;>rw[e]<;>trivial
  ·rcases mV op Μ with e|e<;>rw[e] at κ<;>cases κ
  ·rw[nt op Μ] at hb;cases hb
  ·by_cases e:j=i
   ·subst e;rw[Deaf_own,h.bU.hears,hd];exact(upd_same ..).symm
   ·rw[Deaf_other t (Ne.symm e) _ ofEvents_g,h.bU.hears];exact(upd_ne _ _ e).symm
 ·exact h.et.app bf ofEvents_g (λ_=>xN nt) (λ_ _ _ x=>x) (λ_ _ _ _ x=>x)
 ·refine h.fW.app h.bU.low (λop Μ b hb=>?_) (λj b v hv=>.inl ⟨v,hv⟩) (λs o' ν=>⟨o',ν,rfl⟩) (λj s k mu g e=>⟨k,mu,g,e⟩);rcases mV op Μ with e|e<;>rw[e] at hb<;>cases hb
 ·have e:({c with deaf:=upd c.deaf i d,T:=upd c.T i (f (i==0,g',{c.x i with deaf:=d}))}:dc).x i={c.x i with deaf:=d}:=by
   simp[dc.x,upd_same]
  rw[e];show j2 P Q (upd c.T i (f (i==0,g',{c.x i with deaf:=d})) i) _ _ _;rw[upd_same];exact aI
theorem Inv.S2 (h:Inv P Q bn c gs w t) (Ο:gs[i]?=some g) (χ:K7 P (i==0) (l5 P Q f) g (c.x i)):ix P Q bn c gs w t i f:=by
 obtain⟨g',_,χ|⟨_,χ⟩⟩:=χ
 ·obtain⟨J,U⟩:=χ w (h.mem.fit (.inl i));exact h.marked Ο (.inl rfl) (by rfl) J U
 ·obtain⟨J,U⟩:=χ w (h.mem.fit (.inl i));exact h.marked Ο (.inr rfl) (by rfl) J U
theorem Inv.S3 (h:Inv P Q bn c gs w t) (Ο:gs[i]?=some g) (χ:K8 P (i==0) (l5 P Q f) g (c.x i)):ix P Q bn c gs w t i f:=by
 obtain⟨s,n,p,aQ,g',off,wr,J,U,hI,μ,Ε⟩:=χ;have bf:i<gs.size:=mW Ο;obtain⟨ν,aI⟩:=Ε w (h.mem.fit (.inl i));have eb:c.tok i s=.par n p aQ:=J;obtain⟨o,ψ⟩:=h.obj (i:=i) (s:=s) (by rw[eb];simp);have eu:c.rel i=false:=hI;have mV:∀op∈MemOp.ofEvents i g.frame.fn g.frame.place #[Go.ConcR.mk (if wr then .write ⟨s,off,none⟩ else .read ⟨s,off,none⟩)],op.act=.mark (if wr then .write ⟨s,off,none⟩ else .read ⟨s,off,none⟩):=λop Μ=>by
  obtain⟨e,he,rfl⟩:=Go.Conc.mem_ofEvents Μ;simp at he;subst he;rfl
 refine ix.go (c':={c with T:=upd c.T i (f (i==0,g',c.x i))}) Ο ν ?_ _ rfl;refine h.laid Ο h.mem h.hold ?_ h.bj h.eF ?_ ?_ ⟨g',?_,.inl rfl⟩ (λj δ=>⟨rfl,upd_ne _ _ δ⟩) (.inr λj s o _ a b=>⟨o,a,b⟩)
 ·refine h.bU.ext h.hold i ofEvents_g (λop Μ=>?_) (λop Μ a κ=>?_) (λop Μ b hb=>?_) (λj=>?_)
  ·rw[mV op Μ];have:=h.low ψ (.inl rfl);cases wr<;>exact this
  ·rw[mV op Μ] at κ;cases wr<;>cases κ
  ·rw[mV op Μ] at hb;refine⟨s,o,s,off,ψ,.inl rfl,?_⟩;cases wr<;>simp[MemAct.touch?] at hb<;>subst hb<;>exact⟨rfl,.inr ⟨rfl,h.bj.par i s n p aQ eb⟩⟩
  ·by_cases e:j=i
   ·subst e;rw[Deaf_own,h.bU.hears];cases wr<;>rfl
   ·rw[Deaf_other t (Ne.symm e) _ ofEvents_g,h.bU.hears]
 ·exact h.et.app bf ofEvents_g (λγ=>by rw[eu] at γ;cases γ) (λ_ _ _ x=>x) (λ_ _ _ _ x=>x)
 ·refine h.fW.app h.bU.low (λop Μ b hb=>?_) (λj b v hv=>.inl ⟨v,hv⟩) (λs o' ν=>⟨o',ν,rfl⟩) (λj s k mu g e=>⟨k,mu,g,e⟩);rw[mV op Μ] at hb;cases wr<;>cases hb
 ·show j2 P Q (upd c.T i (f (i==0,g',c.x i)) i) _ _ _;rw[upd_same];exact aI
theorem Inv.quits (h:Inv P Q bn c gs w t) (Ο:gs[i]?=some g) (χ:Le P (i==0) (l5 P Q f) g (c.x i)):ix P Q bn c gs w t i f:=by
 obtain⟨pd,ι,eu,p7,g',es,hm,ν,aI⟩:=χ;have bf:i<gs.size:=mW Ο;have nt:∀op∈MemOp.ofEvents i g.frame.fn g.frame.place es,op.act.touch?=none:=λop Μ=>by
  obtain⟨e,he,rfl⟩:=Go.Conc.mem_ofEvents Μ;exact touch_mute (hm e he)
 have mV:∀op∈MemOp.ofEvents i g.frame.fn g.frame.place es,op.act=.mark .disable\/op.act=.mark .enable:=λop Μ=>by
  obtain⟨⟨loc,wr,o6⟩,he,rfl⟩:=Go.Conc.mem_ofEvents Μ;have:=hm _ he;cases loc<;>simp[Event.mute] at this;rename_i m;cases m<;>simp_all [MemAct.ofEvent]
 refine ix.go (c':={c with deaf:=upd c.deaf i (deafBehind (c.deaf i) es),T:=upd c.T i (f (i==0,g',{c.x i with deaf:=deafBehind (c.x i).deaf es}))}) Ο (by rw[pd];exact ν w) ?_ _ rfl;refine h.laid Ο h.mem h.hold ?_ h.bj h.eF ?_ ?_ ⟨g',?_,.inl rfl⟩ (λj δ=>⟨by simp[dc.x,upd_ne _ _ δ],upd_ne _ _ δ⟩) (.inr λj s o _ a b=>⟨o,a,b⟩)
 ·refine h.bU.ext h.hold i ofEvents_g (λop Μ=>?_) (λop Μ a κ=>?_) (λop Μ b hb=>?_) (λj=>?_)
  ·rcases mV op Μ with e|e<;>rw[e]<;>trivial
  ·rcases mV op Μ with e|e<;>rw[e] at κ<;>cases κ
  ·rw[nt op Μ] at hb;cases hb
  ·by_cases e:j=i
   ·subst e;rw[Deaf_own,h.bU.hears];exact(upd_same ..).symm
   ·rw[Deaf_other t (Ne.symm e) _ ofEvents_g,h.bU.hears];exact(upd_ne _ _ e).symm
 ·exact h.et.app bf ofEvents_g (λ_=>xN nt) (λ_ _ _ x=>x) (λ_ _ _ _ x=>x)
 ·refine h.fW.app h.bU.low (λop Μ b hb=>?_) (λj b v hv=>.inl ⟨v,hv⟩) (λs o' ν=>⟨o',ν,rfl⟩) (λj s k mu g e=>⟨k,mu,g,e⟩);rcases mV op Μ with e|e<;>rw[e] at hb<;>cases hb
 ·have e:({c with deaf:=upd c.deaf i (deafBehind (c.deaf i) es),T:=upd c.T i (f (i==0,g',{c.x i with deaf:=deafBehind (c.x i).deaf es}))}:dc).x i={c.x i with deaf:=deafBehind (c.x i).deaf es}:=by
   simp[dc.x,upd_same]
  rw[e];show j2 P Q (upd c.T i (f (i==0,g',{c.x i with deaf:=deafBehind (c.x i).deaf es})) i) _ _ _;rw[upd_same];exact aI
end
end Go.TL
namespace Go.TL
open Go.Conc
open Go.ConcM (OsLater)
open Go.ConcN (sumTo upd sumTo_upd upd_ne upd_same sumTo_congr le_sumTo)
section
variable {P:Program} {Q:Value->Prop} {bn:World} {c c':dc} {gs:Array Goroutine} {w w':World} {t:Trace} {i:Nat} {g g':Goroutine} {es:Array Event}
variable {f:Bool×Goroutine×a2->gy (Bool×Goroutine×a2)}
theorem S4 {o o':aV} {t t':Tok} (h:Act o t o' t'):(∀q p,t'≠.par q p .bm)/\(∀q p,t≠.par q p .bm)/\∀k L g,t=.ch k (.dr L) g->∃g',t'=.ch k (.dr L) g':=by
 cases h<;>refine⟨λq p e=>?_,λq p e=>?_,λk L g e=>?_⟩<;>cases e
 all_goals exact⟨_,rfl⟩
theorem LF {B:Type} (p:B->Bool) {y:B} (Κ:p y=false):∀(l:List B) (k:Nat) (x:B),l[k]?=some x->p x=true->((l.set k y).filter p).length<(l.filter p).length
 | [],k,x,h,_=>by simp at h
 | z::l,0,x,h,γ=>by
  simp at h;subst h;simp[List.set,γ,Κ]
 | z::l,k+1,x,h,γ=>by
  have:=LF p Κ l k x (by simpa using h) γ;simp only[List.set,List.filter_cons];split<;>simpa using this
theorem S5 {k:Nat} (Ο:gs[k]?=some g) (ι:g.status=.running) (hb:g'.status≠.running):xL (gs.setIfInBounds k g')<xL gs:=by
 unfold xL;rw[Array.toList_setIfInBounds];exact LF (λg:Goroutine=>decide (g.status=.running)) (by simp[hb]) _ k g (by rw[<-Ο];simp) (by simp[ι])
theorem Inv.atom (h:Inv P Q bn c gs w t) (Ο:gs[i]?=some g) (ι:jl g) (Ι:j2 P Q (c.T i) (i==0) g (c.x i)) (χ:Atom P (i==0) (l5 P Q f) g (c.x i)):ix P Q bn c gs w t i f:=by
 obtain⟨s,sp,J,U,μ⟩:=χ;have bf:i<gs.size:=mW Ο;obtain⟨o,ψ,b7⟩:=h.bj.ri i s sp J;have uh:∀b,ez s sp b->b<w.heap.size:=λb hb=>h.low ψ (by rw[b7];exact hb);have hI:¬gk (c.tok i s):=U;have zM:c.tok i s≠.nil:=λe=>hI (by rw[e];trivial);have LG:∀{w':World} {es:Array Event} {k:Nat},fI (λb _=>ez s sp b) (λ_=>False) w w'->o4 s sp (c.x i).deaf es->jm c.H c.aN c.tok c.O c.bw c.deaf w'.heap.size (t++MemOp.ofEvents i g.frame.fn g.frame.place es):=λ{w' es k} uv dK=>by
  refine jm.grow ?_ uv.size;refine h.bU.ext h.hold i ofEvents_g (λop Μ=>?_) (λop Μ a κ=>?_) (λop Μ b hb=>?_) (λj=>?_)
  ·rcases CL dK Μ with(e|e)|⟨b,off,wr,e,hb⟩
   ·rw[e];trivial
   ·rw[e];trivial
   ·rw[e];exact uh b hb
  ·rcases CL dK Μ with(e|e)|⟨b,off,wr,e,hb⟩<;>rw[e] at κ<;>cases κ
  ·rcases CL dK Μ with(e|e)|⟨Ψ,off,wr,e,dV⟩
   ·rw[e] at hb;cases hb
   ·rw[e] at hb;cases hb
   ·rw[e] at hb;simp[MemAct.touch?] at hb;subst hb;exact⟨s,o,Ψ,off,ψ,by rw[b7];exact dV,rfl,.inl rfl⟩
  ·by_cases e:j=i
   ·subst e;rw[Deaf_own,h.bU.hears];exact dK.1
   ·rw[Deaf_other t (Ne.symm e) _ ofEvents_g,h.bU.hears]
 have norel:∀{es:Array Event},o4 s sp (c.x i).deaf es->∀op∈MemOp.ofEvents i g.frame.fn g.frame.place es,∀b,op.act≠.mark (.releaseMerge ⟨b,0,none⟩):=λdK op Μ b hb=>by
  rcases CL dK Μ with(e|e)|⟨Ψ,off,wr,e,dV⟩<;>rw[e] at hb<;>cases hb
 have LH:∀{es:Array Event},o4 s sp (c.x i).deaf es->∀k,t.size<=k->¬(t++MemOp.ofEvents i g.frame.fn g.frame.place es).counts k:=λdK=>S1 (s:=s) (sp:=sp) (by rw[h.bU.hears];exact dK);rcases μ w (eL gs.size o (λj=>c.tok j s)) o (h.mem.fit (.inl i)) (h.mem.mN i) b7 (h.mem.fV s o ψ) (λg0 lY hv=>by
   obtain⟨dW,Γ,Δ,a4⟩:=h.bj.vN i s g0 lY hv;rw[ψ] at Γ;cases Γ;exact⟨Δ,a4⟩) ⟨gs.size,λj=>c.tok j s,i,h.bj.a7 s o ψ,bf,rfl,λk L g e=>h.bj.dr i s k L g o ψ e⟩ with hgo|⟨hw,cH,ν⟩
 ·cases ν:stepG P (i==0) g w with
  | go g' w' es=>
   rw[ν] at hgo;obtain⟨ft,uv,dK,iy⟩:=hgo;have LI:fI (λb _=>ez s o.toSpec b) (λ_=>False) w w':=by rw[b7];exact uv
   rcases iy with⟨bE,aI⟩|⟨o',t',uy,bE,S6,aI⟩
   ·refine ix.go (c':={c with view:=upd c.view i (upd (c.view i) s (some (eL gs.size o (λj=>c.tok j s),o))),T:=upd c.T i (f (i==0,g',{c.x i with view:=upd (c.view i) s (some (eL gs.size o (λj=>c.tok j s),o))}))}) Ο ν ?_ _ rfl;refine h.laid Ο ((h.mem.atom h.hold rfl ψ rfl LI bE).zL (CK ψ).symm) h.hold (LG (k:=0) uv dK) (h.bj.look ψ) h.eF
     (h.et.app bf ofEvents_g (λ_=>LH dK) (λ_ _ _ x=>x) (λ_ _ _ _ x=>x))
     (h.fW.app h.bU.low (norel dK) (λj b v hv=>.inl ⟨v,hv⟩) (λs o' ν=>⟨o',ν,rfl⟩) (λj s k mu g e=>⟨k,mu,g,e⟩))
     ⟨g',?_,.inl rfl⟩ (λj δ=>⟨by simp[dc.x,upd_ne _ _ δ],upd_ne _ _ δ⟩) (.inr λj s o _ a b=>⟨o,a,b⟩)
    have e:({c with view:=upd c.view i (upd (c.view i) s (some (eL gs.size o (λj=>c.tok j s),o))),T:=upd c.T i (f (i==0,g',{c.x i with view:=upd (c.view i) s (some (eL gs.size o (λj=>c.tok j s),o))}))}:dc).x i={c.x i with view:=upd (c.view i) s (some (eL gs.size o (λj=>c.tok j s),o))}:=by
     simp[dc.x,upd_same]
    rw[e];show j2 P Q (upd c.T i (f (i==0,g',{c.x i with view:=upd (c.view i) s (some (eL gs.size o (λj=>c.tok j s),o))})) i) _ _ _;rw[upd_same];exact aI
   ·have S7:=K1 (N:=gs.size) (τ:=λj=>c.tok j s) bf rfl uy
    have zN:=aI _ S7;obtain⟨xG,CB,Gt⟩:=Ln uy;obtain⟨S8,S9,S'⟩:=S4 uy;have dH:=mP.upd ψ xG;have uz:∀j r q p,b' c.tok i s t' j r=.par q p .bm↔c.tok j r=.par q p .bm:=λj r q p=>by
     by_cases e:j=i/\r=s
     ·obtain⟨rfl,rfl⟩:=e;rw[fi];exact⟨λx=>absurd x (S8 q p),λx=>absurd x (S9 q p)⟩
     ·rw[e8 _ e]
    have Gz:∀j r k L g,c.tok j r=.ch k (.dr L) g->∃g',b' c.tok i s t' j r=.ch k (.dr L) g':=λj r k L g δ=>by
     by_cases e:j=i/\r=s
     ·obtain⟨rfl,rfl⟩:=e;rw[fi];exact S' k L g δ
     ·rw[e8 _ e];exact⟨g,δ⟩
    have keepW:o'=o->∀j r q,j≠i->c.O r=some q->kA q (c.tok j r)->∃jJ,upd c.O s (some o') r=some jJ/\kA jJ (c.tok j r):=λj5 j r q _ a b=>⟨q,by
     by_cases e:r=s
     ·subst e;subst j5;rw[ψ] at a;cases a;exact upd_same _ _ _
     ·rw[upd_ne _ _ e];exact a,b⟩
    have hr:∀r q,upd c.O s (some o') r=some q->∃h8,c.O r=some h8/\h8.toSpec=q.toSpec/\h8.L=q.L/\h8.ak=q.ak:=λr q Ξ=>by
     by_cases e:r=s
     ·subst e;rw[upd_same] at Ξ;cases Ξ;exact⟨o,ψ,xG.symm,CB.symm,Gt.symm⟩
     ·rw[upd_ne _ _ e] at Ξ;exact⟨q,Ξ,rfl,rfl,rfl⟩
    let dj:a2:={c.x i with tok:=upd (c.tok i) s t',view:=upd (c.view i) s (some (eL gs.size o' (upd (λj=>c.tok j s) i t'),o'))};refine ix.go (c':={c with tok:=b' c.tok i s t',view:=upd c.view i (upd (c.view i) s (some (eL gs.size o' (upd (λj=>c.tok j s) i t'),o'))),O:=upd c.O s (some o'),T:=upd c.T i (f (i==0,g',dj))}) Ο ν ?_ _ rfl;refine h.laid Ο (h.mem.atom h.hold rfl ψ xG LI bE) (h.hold.nz dH) ((LG (k:=0) uv dK).SN dH λj r δ e=>?_) (h.bj.act ψ rfl uy) ⟨λr q m Ξ hm cm iX=>?_,λr q Ξ cm=>?_⟩
     (h.et.app bf ofEvents_g (λ_=>LH dK) (λs q p ⟨j,x⟩=>⟨j,(uz j s q p).1 x⟩) (λj s q p x=>(uz j s q p).1 x))
     (h.fW.app h.bU.low (norel dK) (λj b v hv=>.inl ⟨v,hv⟩) (λr q Ξ=>let ⟨h8,a,b,_⟩:=hr r q Ξ;⟨h8,a,by rw[b]⟩) (λj r k mu g e=>?_))
     ⟨g',?_,.inl rfl⟩ (λj δ=>⟨by simp[dc.x,upd_ne _ _ δ,sG _ δ],upd_ne _ _ δ⟩) (S6.imp (λhm=>⟨hm,ft⟩) λj5=>keepW j5)
    ·by_cases aM:j=i/\r=s
     ·obtain⟨rfl,rfl⟩:=aM;exact zM e
     ·apply δ;show b' c.tok i s t' j r=.nil;rw[e8 _ aM];exact e
    ·obtain⟨h8,a,b,Ψ,_⟩:=hr r q Ξ;have:=h.eF.p6 r h8 m a (by rw[b];exact hm) (λj q p x=>cm j q p ((uz j r q p).2 x)) (λj k L g x=>let ⟨g',y⟩:=Gz j r k L g x;iX j k L g' y);rw[b,Ψ] at this;exact this
    ·obtain⟨h8,a,b,_,Ψ⟩:=hr r q Ξ;have:=h.eF.mR r h8 a (λj q p x=>cm j q p ((uz j r q p).2 x));rw[b,Ψ] at this;exact this
    ·by_cases aM:j=i/\r=s
     ·obtain⟨rfl,rfl⟩:=aM;obtain⟨dU,Ρ,y,_⟩:=(Lo uy).2.1 k mu g e;exact⟨k,dU,Ρ,by show b' c.tok j r t' j r=_;rw[fi];exact y⟩
     ·exact⟨k,mu,g,by show b' c.tok i s t' j r=_;rw[e8 _ aM];exact e⟩
    ·have e:({c with tok:=b' c.tok i s t',view:=upd c.view i (upd (c.view i) s (some (eL gs.size o' (upd (λj=>c.tok j s) i t'),o'))),O:=upd c.O s (some o'),T:=upd c.T i (f (i==0,g',dj))}:dc).x i=dj:=by
      simp[dj,dc.x,upd_same,vZ]
     rw[e];show j2 P Q (upd c.T i (f (i==0,g',dj)) i) _ _ _;rw[upd_same];exact zN
  | _=>rw[ν] at hgo;exact hgo.elim
 ·refine λsl=>⟨c,_,w,_,runT_crowd_go Ο ν,?_,.inr (.inr ⟨ζ,rfl,?_⟩)⟩
  ·rw[LC,Array.append_empty];have:=h.laid (c':=c) (u:=#[]) Ο (g':={g with status:=.blocked}) h.mem h.hold (by rw[Array.append_empty];exact h.bU) h.bj h.eF (by rw[Array.append_empty];exact h.et) (by rw[Array.append_empty];exact h.fW) ⟨g,Ι,.inr ⟨ι,rfl,s,o,ψ,hw,cH⟩⟩ (λj δ=>⟨rfl,rfl⟩) (.inr λj s o _ a b=>⟨o,a,b⟩)
   rwa [Array.append_empty] at this
  ·have e:gs.map (woken P g {g with status:=.blocked} w)=gs:=by
    have:woken P g {g with status:=.blocked} w=id:=by
     funext b;simp[woken]
    rw[this];simp
   rw[e];exact S5 Ο ι.1 ζ
end
end Go.TL
