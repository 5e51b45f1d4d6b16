import Derived.Test.YtlabjopijpkiaaaGreatDAC
set_option maxHeartbeats 16000000
set_option maxRecDepth 20000
set_option linter.unusedSectionVars false
set_option linter.unusedSimpArgs false
set_option linter.unusedVariables false
namespace Go.TL
open Go.Conc
open Go.ConcM (OsLater)
open Go.ConcN (sumTo upd sumTo_upd upd_ne upd_same sumTo_congr le_sumTo)
open Go.ConcR (mk)
def l5 (O O':Nat->Option aN):Prop:=(∀s o',O' s=some o'->∃o,O s=some o/\o.toSpec=o'.toSpec)/\∀s o,O s=some o->∃o',O' s=some o'/\o.toSpec=o'.toSpec
theorem l5.upd {O:Nat->Option aN} {s:Nat} {o o':aN} (μ:O s=some o) (h:o'.toSpec=o.toSpec):l5 O (Go.ConcN.upd O s (some o')):=by
 refine⟨λr q Χ=>?_,λr q Χ=>?_⟩
 ·by_cases e:r=s
  ·subst e;rw[upd_same] at Χ;cases Χ;exact⟨o,μ,h.symm⟩
  ·rw[upd_ne _ _ e] at Χ;exact⟨q,Χ,rfl⟩
 ·by_cases e:r=s
  ·subst e;rw[μ] at Χ;cases Χ;exact⟨o',upd_same ..,h.symm⟩
  ·exact⟨q,by rw[upd_ne _ _ e];exact Χ,rfl⟩
section
variable {H:cy->π} {aG:Nat->Nat->Option (Array Value×TypeId)} {tok eB:Nat->Nat->Tok} {O O':Nat->Option aN} {bx:Nat->Nat} {deaf KE:Nat->Nat} {N hh:Nat} {t:Trace} {bl w w':World}
theorem BA {h:cy} {k:Nat} (cK:∀s o',O' s=some o'->∃o,O s=some o/\o.toSpec=o'.toSpec) (Ν:∀i s,eB i s≠.nil->tok i s≠.nil) (ψ:jx tok O t h k):jx eB O' t h k:=by
 cases h with
 | inl i=>exact ψ
 | inr b=>
  refine ψ.imp id λh s o μ hb i hi=>?_;obtain⟨lr,I,R⟩:=cK s o μ;exact h s lr I (by rw[R];exact hb) i (Ν i s hi)
theorem iu.Rq (h:iu H aG tok O bx deaf N t) (cK:l5 O O') (Ν:∀i s,eB i s≠.nil->tok i s≠.nil):iu H aG eB O' bx deaf N t:=
 ⟨h.race,h.low,h.norel,λk=>(h.perms k).mono λ_=>BA cK.1 Ν,h.oo,λs o b μ hb=>let ⟨lr,I,R⟩:=cK.1 s o μ;h.cont s lr b I (by rw[R];exact hb),h.hears⟩
theorem h8.mQ (h:h8 H aG O hh) (cK:l5 O O'):h8 H aG O' hh:=
 ⟨h.apart,h.high,h.ns,h.fresh,λs o b μ hb=>let ⟨lr,I,R⟩:=cK.1 s o μ;h.kr s lr b I (by rw[R];exact hb),
  λs bq o o' b μ iK hb dF=>let ⟨lr,I,R⟩:=cK.1 s o μ;let ⟨dG,ν,Ι⟩:=cK.1 bq o' iK;h.kE s bq lr dG b I ν (by rw[R];exact hb) (by rw[Ι];exact dF),
  λs o m μ hm=>let ⟨lr,I,R⟩:=cK.1 s o μ;h.po s lr m I (by rw[R];exact hm),
  λb hb=>h.eA b λs o μ hi=>let ⟨o',I,R⟩:=cK.2 s o μ;hb s o' I (by rw[<-R];exact hi)⟩
theorem iu.ext (h:iu H aG tok O bx deaf N t) (χ:h8 H aG O hh) (i:Nat) {u:Trace} (hu:∀op∈u,op.g=i) (υ:∀op∈u,op.act.low N) (ι:∀op∈u,∀a,op.act≠.mark (.release a))
  (Ν:∀op∈u,∀b,op.act.touch?=some b->∃s o l6 off,O s=some o/\ep s o.toSpec l6/\b.loc=.cell ⟨l6,off,none⟩/\(b.kind=.atomic\/(b.kind=.said/\i=bx s)))
  (hd:∀j,Deaf (t++u) j=KE j):iu H aG tok O bx KE N (t++u):=by
 refine⟨λsaid=>noRace_append (h.race said) hu λk a κ op Κ b hb ε=>?_,λop Κ=>(Array.mem_append.1 Κ).elim (h.low op) (υ op),λop Κ=>(Array.mem_append.1 Κ).elim (h.norel op) (ι op),λk=>?_,λj b v hv k a κ fe=>?_,λs o b μ hb k a κ fe=>?_,hd⟩
 ·obtain⟨s,o,l6,off,I,R,ν,Ι⟩:=Ν op Κ b hb;obtain⟨c1,_,_,c4⟩:=ε;have fe:nk a.loc l6:=by rw[c1,ν];rfl
  rcases h.cont s o l6 I R k a κ fe with aB|⟨aB,bn⟩
  ·exfalso;rcases c4 with x|x|⟨_,x,_⟩
   ·rw[aB] at x;cases x
   ·rcases Ι with y|⟨y,_⟩<;>(rw[y] at x;cases x)
   ·rw[aB] at x;cases x
  ·rcases Ι with y|⟨y,rfl⟩
   ·exfalso;rcases c4 with x|x|⟨_,_,x⟩
    ·rw[aB] at x;cases x
    ·rw[y] at x;cases x
    ·rw[y] at x;cases x
   ·obtain⟨z,Μ,_⟩:=touch_of κ;have:=knows_own Μ;have e:z.g=bx s:=by simpa[Trace.g?,Μ] using bn
    rwa [e] at this
 ·have:dm (t++u) (jx tok O (t++u) k) (H k):=(h.perms k).others (λx U=>Fh _ U) λop Κ a κ=>by
   obtain⟨s,o,l6,off,I,R,ν,Ι⟩:=Ν op Κ a κ;have off:=(χ.kr s o l6 I R).2.1 k;refine⟨λb o' v p υ ε=>?_,λb υ hb=>?_⟩
   ·rw[ν] at υ;cases υ;exact absurd ⟨_,ε⟩ (off.1 _)
   ·rw[ν] at υ;cases υ
  exact this
 ·rcases mR κ with eo|⟨_,op,Κ,_,h'⟩
  ·exact h.oo j b v hv k a eo fe
  ·obtain⟨s,o,l6,off,I,R,ν,Ι⟩:=Ν op Κ a h';rw[ν] at fe;simp only[nk] at fe;subst fe;rw[(χ.kr s o l6 I R).2.2 j] at hv;cases hv
 ·rcases mR κ with eo|⟨_,op,Κ,ψ,h'⟩
  ·rcases h.cont s o b μ hb k a eo fe with x|⟨x,Ο⟩
   ·exact .inl x
   ·obtain⟨z,Μ,_⟩:=touch_of eo;exact .inr ⟨x,by rw[g?_old (lt_size_of_getElem? Μ)];exact Ο⟩
  ·obtain⟨bq,o',l6,off,I,R,ν,Ι⟩:=Ν op Κ a h';rw[ν] at fe;simp only[nk] at fe;subst fe;have es:=χ.kE s bq o o' l6 μ I hb R;subst es;rcases Ι with x|⟨x,y⟩
   ·exact .inl x
   ·exact .inr ⟨x,by simp[Trace.g?,ψ,hu op Κ,y]⟩
theorem dm.sub {ju:Nat->Prop} {G G':π} (h:dm t ju G) (μ:Sub G' G):dm t ju G':=
 ⟨λb o v p ε i a κ υ hw=>let ⟨eQ,ao,ς⟩:=μ.aJ b o v p ε;h.aJ b o v eQ ao i a κ υ (hw.imp ς id),λb ⟨x,U⟩ i a κ υ=>h.obj b ⟨x,μ.obj b x U⟩ i a κ υ⟩
theorem dm.join {ju:Nat->Prop} {G E:π} (h:dm t ju G) (k:dm t ju E):dm t ju (Go.TL.join G E):=by
 refine⟨λb o v p ε i a κ υ hw=>?_,λb hb i a κ υ=>?_⟩
 ·simp only[Go.TL.join] at ε;cases Ο:G.aJ b o with
  | none=>rw[Ο] at ε;exact k.aJ b o v p ε i a κ υ hw
  | some y=>rw[Ο] at ε;cases ε;exact h.aJ b o v p Ο i a κ υ hw
 ·obtain⟨x,U⟩:=hb;simp only[Go.TL.join] at U;cases Ο:G.obj b with
  | none=>rw[Ο] at U;exact k.obj b ⟨x,U⟩ i a κ υ
  | some y=>exact h.obj b ⟨y,Ο⟩ i a κ υ
theorem dm.empty {ju:Nat->Prop}:dm t ju π.empty:=⟨λ_ _ _ _ h=>(by cases h),λ_ ⟨_,h⟩=>(by cases h)⟩
theorem dm.release {i b:Nat} {G:π} {y:MemOp} (h:dm t (Knows t i) G) (Ο:y.g=i) (Φ:y.act=.mark (.releaseMerge ⟨b,0,none⟩)) (hd:Deaf t i=0):dm (t++#[y]) (jx tok O (t++#[y]) (.inr b)) G:=by
 have kH:(t++#[y])[t.size]?=some y:=η
 have yK:(t++#[y]).heard t.size:=⟨i,by simp[Trace.g?,Ο],by rw[deaf_old (Nat.le_refl _)];exact hd⟩
 have key:∀k,Knows t i k->jx tok O (t++#[y]) (.inr b) k:=λk ψ=>.inl ⟨t.size,y,kH,Φ,yK,.inr (ψ.hb_new (Nat.le_refl _) kH Ο)⟩
 have nt:∀k a,touchAt (t++#[y]) k=some a->touchAt t k=some a:=λk a κ=>by
  rcases mR κ with eo|⟨_,op,Κ,_,h'⟩
  ·exact eo
  ·simp at Κ;subst Κ;rw[Φ] at h';simp[MemAct.touch?] at h'
 exact⟨λs4 o v p ε k a κ υ hw=>key k (h.aJ s4 o v p ε k a (nt k a κ) υ hw),λs4 hb k a κ υ=>key k (h.obj s4 hb k a (nt k a κ) υ)⟩
theorem dm.acquire {i b s:Nat} {o:aN} {E:π} {y:MemOp} (h:dm t (jx tok O t (.inr b)) E) (ee:∀op∈t,∀a,op.act≠.mark (.release a)) (μ:O s=some o) (hb:ep s o.toSpec b) (hi:tok i s≠.nil)
  (Ο:y.g=i) (Φ:y.act=.mark (.acquire ⟨b,0,none⟩)) (hd:Deaf t i=0):dm (t++#[y]) (Knows (t++#[y]) i) E:=by
 have kH:(t++#[y])[t.size]?=some y:=η
 have yK:(t++#[y]).heard t.size:=⟨i,by simp[Trace.g?,Ο],by rw[deaf_old (Nat.le_refl _)];exact hd⟩
 have key:∀k,jx tok O t (.inr b) k->Knows (t++#[y]) i k:=λk ψ=>by
  rcases ψ with⟨p,op,I,R,ν,Ι⟩|ψ
  ·have ς:=lt_size_of_getElem? I;refine⟨t.size,y,kH,Ο,.inr ((Ι.app #[y]).hb (.single (.inr ⟨.marked (a:=⟨b,0,none⟩) ς (.inr ?_) ?_ ?_,(heard_old ς).2 ν,yK⟩)))⟩
   ·rw[act?_old ς,act?_of I,R]
   ·rw[act?_of kH,Φ]
   ·intro af hj eC hB;rw[act?_old eC] at hB;obtain⟨rJ,jy,h'⟩:=Option.map_eq_some_iff.1 hB;exact ee rJ (mem_of_getElem? jy) _ h'
  ·exact(ψ s o μ hb i hi).app _
 have nt:∀k a,touchAt (t++#[y]) k=some a->touchAt t k=some a:=λk a κ=>by
  rcases mR κ with eo|⟨_,op,Κ,_,h'⟩
  ·exact eo
  ·simp at Κ;subst Κ;rw[Φ] at h';simp[MemAct.touch?] at h'
 exact⟨λs4 o v p ε k a κ υ hw=>key k (h.aJ s4 o v p ε k a (nt k a κ) υ hw),λs4 hb k a κ υ=>key k (h.obj s4 hb k a (nt k a κ) υ)⟩
theorem Knows.spawn {i j k:Nat} {y z:MemOp} (h:Knows t i k) (KF:y.g=i) (Φ:y.act=.go j) (Ft:z.g=j) (Μ:z.act=.start) (hd:Deaf t i=0) (Rr:Deaf t j=0):Knows (t++#[y,z]) j k:=by
 have uI:(t++#[y,z])[t.size]?=some y:=η
 have jz:(t++#[y,z])[t.size+1]?=some z:=η
 have d1:(t++#[y,z]).heard t.size:=⟨i,by simp[Trace.g?,KF],by rw[deaf_old (Nat.le_refl _)];exact hd⟩
 have d2:(t++#[y,z]).heard (t.size+1):=⟨j,by simp[Trace.g?,Ft],by
  rw[deaf_succ uI];have:deafStep j ((t++#[y,z]).deaf j t.size) y=(t++#[y,z]).deaf j t.size:=by simp[deafStep,Φ]
  rw[this,deaf_old (Nat.le_refl _)];exact Rr⟩
 have Γ:=h.hb_new (u:=#[y,z]) (Nat.le_refl _) uI KF
 have Θ:HappensBefore (t++#[y,z]) t.size (t.size+1):=.single (.inr ⟨.spawn (child:=j) (by rw[act?_of uI,Φ]) (by rw[act?_of jz,Μ]) (by simp[Trace.g?,Ft]),d1,d2⟩);exact⟨t.size+1,z,jz,Ft,.inr (Γ.trans Θ)⟩
theorem Sub.refl (G:π):Sub G G:=⟨λ_ _ _ p h=>⟨p,h,id⟩,λ_ _ h=>h,λ_ _ h=>h⟩
theorem Sub.owns {G G':π} (h:Sub G' G) {b o:Nat} (x:G'.owns b o):G.owns b o:=let ⟨v,hv⟩:=x;let ⟨p,ao,ς⟩:=h.aJ b o v true hv;⟨v,by rw[ao,ς rfl]⟩
theorem Sub.has {G G':π} (h:Sub G' G) {b o:Nat} (x:G'.has b o):G.has b o:=let ⟨v,hv⟩:=x;let ⟨p,ao,_⟩:=h.aJ b o v.1 v.2 hv;⟨_,ao⟩
theorem Sub.e7 {G G':π} (h:Sub G' G) {b:Nat} (x:G'.e7 b):G.e7 b:=let ⟨v,hv⟩:=x;⟨v,h.obj b v hv⟩
theorem Sub.off {G G':π} (h:Sub G' G) {b:Nat} (x:G.off b):G'.off b:=⟨λo Α=>x.1 o (h.has Α),λΑ=>x.2 (h.e7 Α)⟩
theorem Sub.fits {G G':π} (h:Sub G' G) (x:Fits G w):Fits G' w:=⟨λb o v p ε=>let ⟨eQ,ao,_⟩:=h.aJ b o v p ε;x.aJ b o v eQ ao,λb t n ι=>x.row b t n (h.row b _ ι),λb v hv=>x.obj b v (h.obj b v hv)⟩
theorem Apart.symm {A B:π} (h:Apart A B):Apart B A:=⟨h.qv,h.aJ,λb hb κ=>h.obj b κ hb⟩
theorem Apart.sub {A B KG B':π} (h:Apart A B) (κ:Sub KG A) (hb:Sub B' B):Apart KG B':=
 ⟨λb o x y=>h.aJ b o (κ.owns x) (hb.has y),λb o x y=>h.qv b o (hb.owns x) (κ.has y),λb x y=>h.obj b (κ.e7 x) (hb.e7 y)⟩
theorem Apart.s8 (A:π):Apart A π.empty:=⟨λ_ _ _ ⟨_,h⟩=>(by cases h),λ_ _ ⟨_,h⟩=>(by cases h),λ_ _ ⟨_,h⟩=>(by cases h)⟩
theorem Fu {G E:π} {b o:Nat} (h:(join G E).owns b o):G.owns b o\/E.owns b o:=by
 obtain⟨v,hv⟩:=h;simp only[join] at hv;cases Ο:G.aJ b o with
 | none=>rw[Ο] at hv;exact .inr ⟨v,hv⟩
 | some y=>rw[Ο] at hv;cases hv;exact .inl ⟨v,Ο⟩
theorem KH {G E:π} {b o:Nat} (h:(join G E).has b o):G.has b o\/E.has b o:=by
 obtain⟨v,hv⟩:=h;simp only[join] at hv;cases Ο:G.aJ b o with
 | none=>rw[Ο] at hv;exact .inr ⟨v,hv⟩
 | some y=>exact .inl ⟨y,Ο⟩
theorem BB {G E:π} {b:Nat} (h:(join G E).e7 b):G.e7 b\/E.e7 b:=by
 obtain⟨v,hv⟩:=h;simp only[join] at hv;cases Ο:G.obj b with
 | none=>rw[Ο] at hv;exact .inr ⟨v,hv⟩
 | some y=>exact .inl ⟨y,Ο⟩
theorem Rs {G E:π} {b:Nat} (h:G.off b) (k:E.off b):(join G E).off b:=⟨λo Α=>(KH Α).elim (h.1 o) (k.1 o),λΑ=>(BB Α).elim h.2 k.2⟩
theorem yL {G E:π} (h:Fits G w) (k:Fits E w):Fits (join G E) w:=by
 refine⟨λb o v p ε=>?_,λb t n ι=>?_,λb v hv=>?_⟩
 ·simp only[join] at ε;cases Ο:G.aJ b o with
  | none=>rw[Ο] at ε;exact k.aJ b o v p ε
  | some y=>rw[Ο] at ε;cases ε;exact h.aJ b o v p Ο
 ·simp only[join] at ι;cases Ο:G.row b with
  | none=>rw[Ο] at ι;exact k.row b t n ι
  | some y=>rw[Ο] at ι;cases ι;exact h.row b t n Ο
 ·simp only[join] at hv;cases Ο:G.obj b with
  | none=>rw[Ο] at hv;exact k.obj b v hv
  | some y=>rw[Ο] at hv;cases hv;exact h.obj b v Ο
theorem Apart.qE {A B C:π} (h:Apart A C) (k:Apart B C):Apart (join A B) C:=
 ⟨λb o x y=>(Fu x).elim (λz=>h.aJ b o z y) (λz=>k.aJ b o z y),λb o x y=>(KH y).elim (λz=>h.qv b o x z) (λz=>k.qv b o x z),λb x y=>(BB x).elim (λz=>h.obj b z y) (λz=>k.obj b z y)⟩
theorem uJ (w:World):Fits π.empty w:=⟨λ_ _ _ _ h=>(by cases h),λ_ _ _ h=>(by cases h),λ_ _ h=>(by cases h)⟩
theorem h8.two (h:h8 H aG O hh) {a b:cy} (hk:a≠b) {A B:π} (bR:Sub A (join (H a) (H b))) (e1:Sub B (join (H a) (H b))) (KI:Apart A B)
  (cK:l5 O O') (KJ:∀x,b=.inr x\/a=.inr x->∃s o,O s=some o/\ep s o.toSpec x):h8 (bL (bL H a A) b B) aG O' hh:=by
 have c9:=h.mQ cK
 have uK:bL (bL H a A) b B a=A:=by rw[bM _ _ hk,dC]
 have uL:bL (bL H a A) b B b=B:=dC _ _ _
 have ox:∀k,k≠a->k≠b->bL (bL H a A) b B k=H k:=λk I R=>by rw[bM _ _ R,bM _ _ I]
 have BC:∀k,k≠a->k≠b->Apart (join (H a) (H b)) (H k):=λk I R=>(h.apart a k (Ne.symm I)).qE (h.apart b k (Ne.symm R))
 have KL:∀x,(∀k,(H k).off x)->(join (H a) (H b)).off x:=λx U=>Rs (U a) (U b)
 have Fv:∀{p:cy->Prop},p a->p b->(∀k,k≠a->k≠b->p k)->∀k,p k:=λs9 s' Rt k=>by
  by_cases I:k=a
  ·rw[I];exact s9
  ·by_cases R:k=b
   ·rw[R];exact s'
   ·exact Rt k I R
 have KM:∀x,(∀k,(H k).off x)->∀k,(bL (bL H a A) b B k).off x:=λx U=>Fv (by rw[uK];exact bR.off (KL x U)) (by rw[uL];exact e1.off (KL x U)) (λk I R=>by rw[ox k I R];exact U k);refine⟨λp q yM=>?_,?_,?_,λi x v hv=>?_,λs o x μ U=>?_,c9.kE,c9.po,λx U=>?_⟩
 ·by_cases s9:p=a
  ·subst s9;by_cases wz:q=b
   ·subst wz;rw[uK,uL];exact KI
   ·rw[uK,ox q (Ne.symm yM) wz];exact(BC q (Ne.symm yM) wz).sub bR (Sub.refl _)
  ·by_cases s':p=b
   ·subst s';by_cases wA:q=a
    ·subst wA;rw[uK,uL];exact KI.symm
    ·rw[uL,ox q wA (Ne.symm yM)];exact(BC q wA (Ne.symm yM)).sub e1 (Sub.refl _)
   ·by_cases wA:q=a
    ·subst wA;rw[uK,ox p s9 s'];exact((BC p s9 s').sub bR (Sub.refl _)).symm
    ·by_cases wz:q=b
     ·subst wz;rw[uL,ox p s9 s'];exact((BC p s9 s').sub e1 (Sub.refl _)).symm
     ·rw[ox p s9 s',ox q wA wz];exact h.apart p q yM
 ·exact Fv (λx o Α=>by rw[uK] at Α;exact(Fu (bR.owns Α)).elim (h.high _ _ _) (h.high _ _ _)) (λx o Α=>by rw[uL] at Α;exact(Fu (e1.owns Α)).elim (h.high _ _ _) (h.high _ _ _)) (λk I R x o Α=>by rw[ox k I R] at Α;exact h.high _ _ _ Α)
 ·exact Fv (λx Α=>by rw[uK] at Α;exact(BB (bR.e7 Α)).elim (h.ns _ _) (h.ns _ _)) (λx Α=>by rw[uL] at Α;exact(BB (e1.e7 Α)).elim (h.ns _ _) (h.ns _ _)) (λk I R x Α=>by rw[ox k I R] at Α;exact h.ns _ _ Α)
 ·obtain⟨a1,a2,ck⟩:=h.fresh i x v hv;exact⟨a1,KM x a2,ck⟩
 ·obtain⟨a1,a2,ck⟩:=c9.kr s o x μ U;exact⟨a1,KM x a2,ck⟩
 ·have iR:(.inr x:cy)≠b:=λe=>by
   obtain⟨s,o,μ,hi⟩:=KJ x (.inl e.symm);obtain⟨o',I,R⟩:=cK.2 s o μ;exact U s o' I (by rw[<-R];exact hi)
  have fT:(.inr x:cy)≠a:=λe=>by
   obtain⟨s,o,μ,hi⟩:=KJ x (.inr e.symm);obtain⟨o',I,R⟩:=cK.2 s o μ;exact U s o' I (by rw[<-R];exact hi)
  rw[ox _ fT iR];exact c9.eA x U
theorem Sub.qE {G E A:π} (h:Sub A G):Sub A (join G E):=
 ⟨λb o v p ε=>let ⟨eQ,ao,ς⟩:=h.aJ b o v p ε;⟨eQ,by simp[join,ao],ς⟩,λb x U=>by simp[join,h.row b x U],λb x U=>by simp[join,h.obj b x U]⟩
theorem gX.two (h:gX H aG O bl w) {a b:cy} {A B:π} (bR:Fits A w) (e1:Fits B w) (cK:∀s o',O' s=some o'->At s o' w):gX (bL (bL H a A) b B) aG O' bl w:=by
 refine⟨λk=>?_,h.l4,cK,h.keep⟩;by_cases R:k=b
 ·subst R;rw[dC];exact e1
 ·rw[bM _ _ R];by_cases I:k=a
  ·subst I;rw[dC];exact bR
  ·rw[bM _ _ I];exact h.fit k
theorem gX.atom (h:gX H aG O bl w) (χ:h8 H aG O hh) (ao:bl.heap.size=hh) {s:Nat} {o o':aN} (μ:O s=some o) (b2:o'.toSpec=o.toSpec) (ψ:fv (λb _=>ep s o.toSpec b) (λ_=>False) w w') (κ:At s o' w') :
  gX H aG (Go.ConcN.upd O s (some o')) bl w':=by
 refine⟨λk=>(h.fit k).keeps ψ (λb dG hb=>((χ.kr s o b μ hb).2.1 k).1 dG) (λb hb=>hb.elim),λj b c t hb=>?_,λr q Χ=>?_,?_⟩
 ·obtain⟨c',I,R,ν⟩:=ψ.cells b c t _ (h.l4 j b c t hb);have:c'=c:=by
   apply Array.ext_getElem?;intro dG;exact ν dG λdF=>by rw[(χ.kr s o b μ dF).2.2 j] at hb;cases hb
  rw[I,this]
 ·by_cases e:r=s
  ·subst e;rw[upd_same] at Χ;cases Χ;exact κ
  ·rw[upd_ne _ _ e] at Χ;have yE:∀b c t,ep r q.toSpec b->w.heap[b]?=some (.cells c t (0,0))->w'.heap[b]?=some (.cells c t (0,0)):=λb c t hb ε=>by
    obtain⟨c',I,R,ν⟩:=ψ.cells b c t _ ε;have:c'=c:=by
     apply Array.ext_getElem?;intro dG;exact ν dG λdF=>e (χ.kE r s q o b Χ μ hb dF)
    rw[I,this]
   obtain⟨⟨ty,I⟩,R⟩:=h.fH r q Χ;exact⟨⟨ty,yE _ _ _ (.inl rfl) I⟩,λm hm=>let ⟨jv,ν⟩:=R m hm;⟨jv,yE _ _ _ (.inr hm) ν⟩⟩
 ·have h9:=h.keep;refine⟨Nat.le_trans h9.size ψ.size,λb c t dV hb=>?_,λb x hb U _=>ψ.mQ b x (h9.mQ b x hb U id) U id,h9.os.trans ψ.os,ψ.output.trans h9.output,ψ.tape.trans h9.tape⟩;obtain⟨c1,I,R,ν⟩:=h9.cells b c t dV hb;obtain⟨c2,Ι,aB,bn⟩:=ψ.cells b c1 t dV I;refine⟨c2,Ι,by rw[aB,R],λdG _=>?_⟩;rw[bn dG λU=>?_,ν dG id];have:=(χ.kr s o b μ U).1;have:=fw hb;omega
end
structure wB (H:cy->π) (tok:Nat->Nat->Tok) (O:Nat->Option aN):Prop where
 l7:∀s o m,O s=some o->o.aU=some m->(∀i q p,tok i s≠.par q p .cq)->(∀i k L g,tok i s≠.ch k (.dj L) g)->o.bb o.L (H (.inr m))
 l8:∀s o,O s=some o->(∀i q p,tok i s≠.par q p .cq)->lu o.D o.aj (H (.inr s))
structure uM (n:Nat) (tok:Nat->Nat->Tok) (rel:Nat->Bool) (bx home dw:Nat->Nat) (t:Trace):Prop where
 dQ:∀k g,t.g? k=some g->g<n
 c1:∀i,i≠0->rel i=true->∃op,t[dw i]?=some op/\op.g=i/\op.act=.mark (.releaseMerge ⟨home i,0,none⟩)/\t.heard (dw i)/\∀k,t.g? k=some i->t.counts k->Before t k (dw i)
 c2:∀i,i≠0->rel i=true->(∃q p,tok (bx (home i)) (home i)=.par q p .cq)->Knows t (bx (home i)) (dw i)
 c3:∀i,i≠0->rel i=true->bx (home i)≠0->rel (bx (home i))=true->Before t (dw i) (dw (bx (home i)))
structure wC (aG:Nat->Nat->Option (Array Value×TypeId)) (tok:Nat->Nat->Tok) (O:Nat->Option aN) (rel:Nat->Bool) (dw:Nat->Nat) (t:Trace):Prop where
 iO:∀s o m,O s=some o->o.aU=some m->∀p op,t[p]?=some op->op.act=.mark (.releaseMerge ⟨m,0,none⟩)->(∃k mu g,tok op.g s=.ch k mu g)/\(rel op.g=true->Before t p (dw op.g))
 uN:∀i b v,aG i b=some v->∀op∈t,op.act≠.mark (.releaseMerge ⟨b,0,none⟩)
def Rec (P:Program) (Q:Value->Prop) (c:c0) (i:Nat) (g:Goroutine):Prop:=
 ∃cP,jw P Q (c.T i) (i==0) cP (c.x i)/\(g=cP\/(ir cP/\g={cP with status:=.blocked}/\∃s o,c.O s=some o/\jZ o (c.tok i s)/\∀bq,bq≠s->mW (c.tok i bq)))
structure Inv (P:Program) (Q:Value->Prop) (bl:World) (c:c0) (gs:Array Goroutine) (w:World) (t:Trace):Prop where
 pos:0<gs.size
 mem:gX c.H c.aG c.O bl w
 hold:h8 c.H c.aG c.O bl.heap.size
 bS:iu c.H c.aG c.tok c.O c.bx c.deaf w.heap.size t
 bh:eR gs.size c.tok c.spec c.view c.rel c.O c.bx c.home
 eA:wB c.H c.tok c.O
 ea:uM gs.size c.tok c.rel c.bx c.home c.dw t
 gd:wC c.aG c.tok c.O c.rel c.dw t
 uO:∀i g,gs[i]?=some g->Rec P Q c i g
theorem yN {t u:Trace} {k:Nat} (h:k<t.size):(t++u).counts k↔t.counts k:=by
 unfold Trace.counts;rw[act?_old h,heard_old h]
theorem uM.app {n:Nat} {tok eB:Nat->Nat->Tok} {rel:Nat->Bool} {bx home dw:Nat->Nat} {t u:Trace} (h:uM n tok rel bx home dw t) {i:Nat} (hi:i<n) (hu:∀op∈u,op.g=i)
  (ε:rel i=true->∀k,t.size<=k->¬(t++u).counts k) (ψ:∀s q p,(∃j,eB j s=.par q p .cq)->∃j,tok j s=.par q p .cq) (yO:∀j s q p,eB j s=.par q p .cq->tok j s=.par q p .cq):uM n eB rel bx home dw (t++u):=by
 refine⟨λk g Ο=>?_,λj ao δ=>?_,λj ao δ bA=>?_,λj ao δ I R=>(h.c3 j ao δ I R).app u⟩
 ·obtain⟨op,Α,hl⟩:=Option.map_eq_some_iff.1 Ο;rcases getElem?_append_cases Α with⟨_,jy⟩|⟨_,gf⟩
  ·exact h.dQ k g (by simp[Trace.g?,jy,hl])
  ·rw[<-hl,hu op gf];exact hi
 ·obtain⟨op,I,R,ν,Ι,aB⟩:=h.c1 j ao δ;have ς:=lt_size_of_getElem? I;refine⟨op,by rw[getElem?_append_old ς];exact I,R,ν,(heard_old ς).2 Ι,λk Ο mX=>?_⟩;obtain⟨rJ,Α,hl⟩:=Option.map_eq_some_iff.1 Ο;rcases getElem?_append_cases Α with⟨aI,jy⟩|⟨hle,gf⟩
  ·exact(aB k (by simp[Trace.g?,jy,hl]) ((yN aI).1 mX)).app u
  ·have e:j=i:=by rw[<-hl,hu rJ gf]
   subst e;exact absurd mX (ε δ k hle)
 ·obtain⟨q,p,Χ⟩:=bA;exact(h.c2 j ao δ ⟨q,p,yO _ _ _ _ Χ⟩).app u
section
variable {P:Program} {Q:Value->Prop} {bl:World} {c:c0} {gs:Array Goroutine} {w:World} {t:Trace}
theorem Inv.stat (h:Inv P Q bl c gs w t) {i:Nat} {g:Goroutine} (Ο:gs[i]?=some g):g.status=.running\/(i≠0/\g.status=.finished/\c.rel i=true/\∀s,Gone (c.tok i s))\/(g.status=.blocked/\∃s o,c.O s=some o/\jZ o (c.tok i s)/\∀bq,bq≠s->mW (c.tok i bq)):=by
 obtain⟨cP,ι,ε⟩:=h.uO i g Ο;rcases ε with rfl|⟨_,rfl,hw⟩
 ·cases Η:c.T i with
  | leaf=>
   rw[Η] at ι;rcases ι.2 with⟨_,I⟩|⟨ao,I,R,ν,_⟩
   ·exact .inl I.1.1
   ·exact .inr (.inl ⟨by rintro rfl;simp at ao,ν,I,R⟩)
  | node f=>
   rw[Η] at ι;rcases ι.2 with(⟨_,I⟩|⟨ao,I,R,ν,_⟩)|I
   ·exact .inl I.1.1
   ·exact .inr (.inl ⟨by rintro rfl;simp at ao,ν,I,R⟩)
   ·rcases I with⟨_,R,_⟩|⟨R,_⟩
    ·exact .inl R
    ·exact .inl R.1
 ·exact .inr (.inr ⟨rfl,hw⟩)
theorem Ru {t:Tok} (h:oj t):∃k m g,t=.ch k m g/\¬mW t/\(∀o,¬jZ o t)/\m≠.done/\m≠.idle:=by
 cases t with
 | nil=>exact h.elim
 | par=>exact h.elim
 | ch k m g=>
  refine⟨k,m,g,rfl,?_⟩;cases m with
  | act b=>cases b<;>first|exact h.elim|simp[mW,jZ]
  | _=>first|exact h.elim|simp[mW,jZ]
theorem Inv.awake (h:Inv P Q bl c gs w t):∃(i:Nat) (g:Goroutine),gs[i]?=some g/\g.status=.running:=by
 apply Classical.byContradiction;intro Rv;have lp:∀i,i<gs.size->(c.rel i=true/\∀s,Gone (c.tok i s))\/∃s o,c.O s=some o/\jZ o (c.tok i s)/\∀bq,bq≠s->mW (c.tok i bq):=λi hi=>by
  have Ο:gs[i]?=some gs[i]:=gF hi;rcases h.stat Ο with I|⟨_,_,I⟩|⟨_,I⟩
  ·exact absurd ⟨i,_,Ο,I⟩ Rv
  ·exact .inl I
  ·exact .inr I
 have up:∀i s o n p,c.O s=some o->c.tok i s=.par n p .w3->o.cB=0->∃j bq o' iL e9,i<j/\j<gs.size/\c.O bq=some o'/\c.tok j bq=.par iL e9 .w3/\o'.cB=0:=λi s o n p μ Ν ao=>by
  have a4:i<gs.size:=h.bh.lt (s:=s) (by rw[Ν];simp);obtain⟨j,δ,cT⟩:=Ra (h.bh.fS s o μ).2 (i:=i) a4 Ν ao;have oy:qB (c.tok j s):=cT;have oz:∃k m g,c.tok j s=.ch k m g/\g≠.gone:=by
   cases U:c.tok j s with
   | nil=>rw[U] at oy;exact oy.elim
   | par=>rw[U] at oy;exact oy.elim
   | ch k m g=>rw[U] at oy;exact⟨k,m,g,rfl,by rintro rfl;exact oy⟩
  obtain⟨k,m,g,U,Ο⟩:=oz;obtain⟨_,rK,aI⟩:=h.bh.ou j s k m g U;have hi:=h.bh.par i s n p _ Ν;rcases lp j δ with⟨_,I⟩|⟨bq,o',iK,hw,eΤ⟩
  ·have:=I s;rw[U] at this;cases g<;>first|exact absurd rfl Ο|exact this.elim
  ·by_cases e:bq=s
   ·subst e;rw[μ] at iK;cases iK;rw[U] at hw;have hm:m=.q/\o.cZ=0:=by cases m<;>simp_all [jZ]
    obtain⟨rfl,Rw⟩:=hm;have Χ:0<a8 gs.size (λa=>c.tok a bq) lj:=by
     have:=fq (λa=>c.tok a bq) lj δ;simp only[U,lj,ys] at this;omega
    obtain⟨a,κ,hb⟩:=Q7 (h.bh.fS bq o μ).1 Χ Rw;obtain⟨af,b1,g',hy,bK,da,fP,l9⟩:=Ru hb;have BD:c.tok a bq=.ch af b1 g':=hy;exfalso;rcases lp a κ with⟨_,I⟩|⟨s2,iS,dk,l',BE⟩
    ·have rL:=I bq;rw[BD] at rL;have:g'≠.work:=by rintro rfl;exact rL
     rcases h.bh.ow a bq af b1 g' o μ BD this with e|⟨e,_⟩
     ·exact fP e
     ·exact l9 e
    ·by_cases Θ:s2=bq
     ·subst Θ;exact da _ l'
     ·exact bK (BE bq (Ne.symm Θ))
   ·cases Φ:c.tok j bq with
    | nil=>rw[Φ] at hw;exact hw.elim
    | ch af b1 g'=>exact absurd ((h.bh.ou j bq af b1 g' Φ).2.1.symm.trans rK) e
    | par iL e9 Fp=>
     rw[Φ] at hw;cases Fp<;>first|exact hw.elim|exact⟨j,bq,o',iL,e9,γ,δ,iK,Φ,hw⟩
 have top:∀d i s o n p,gs.size-i=d->i<gs.size->c.O s=some o->c.tok i s=.par n p .w3->o.cB=0->False:=λd=>by
  induction d using Nat.strongRecOn with
  | _ d ω=>
   intro i s o n p hd hi μ Ν ao;obtain⟨j,bq,o',iL,e9,I,R,ν,Ι,aB⟩:=up i s o n p μ Ν ao;exact ω (gs.size-j) γ j bq o' iL e9 rfl R ν Ι aB
 rcases lp 0 h.pos with⟨I,_⟩|⟨s,o,μ,hw,_⟩
 ·rw[h.bh.s5] at I;cases I
 ·cases Φ:c.tok 0 s with
  | nil=>rw[Φ] at hw;exact hw.elim
  | ch k m g=>exact(h.bh.ou 0 s k m g Φ).1 rfl
  | par n p aF=>
   rw[Φ] at hw;cases aF<;>first|exact hw.elim|exact top _ 0 s o n p rfl h.pos μ Φ hw
theorem Rec.woken {c':c0} {i j:Nat} {g g' b:Goroutine} {w':World} (h:Rec P Q c j b) (U:c'.x j=c.x j) (Η:c'.T j=c.T j)
  (hw:(mayWake P g=true/\ir g')\/∀s o,c.O s=some o->jZ o (c.tok j s)->∃o',c'.O s=some o'/\jZ o' (c.tok j s)):Rec P Q c' j (Go.Conc.woken P g g' w' b):=by
 have dK:c'.tok j=c.tok j:=congrArg aW.tok U;obtain⟨cP,ι,ε⟩:=h;rcases ε with rfl|⟨dR,rfl,s,o,μ,qF,cT⟩
 ·have μ:b.status=.running\/b.status=.finished:=by
   cases qG:c.T j with
   | leaf=>
    rw[qG] at ι;rcases ι.2 with⟨_,I⟩|⟨_,_,_,ν,_⟩
    ·exact .inl I.1.1
    ·exact .inr ν
   | node f=>
    rw[qG] at ι;rcases ι.2 with(⟨_,I⟩|⟨_,_,_,ν,_⟩)|I
    ·exact .inl I.1.1
    ·exact .inr ν
    ·rcases I with⟨_,R,_⟩|⟨R,_⟩
     ·exact .inl R
     ·exact .inl R.1
  have:Go.Conc.woken P g g' w' b=b:=by
   unfold Go.Conc.woken;split
   ·exact again_running _ μ
   ·rfl
  rw[this];exact⟨b,by rw[U,Η];exact ι,.inl rfl⟩
 ·unfold Go.Conc.woken;split
  ·rename_i BF;refine⟨cP,by rw[U,Η];exact ι,.inl ?_⟩;obtain⟨r1,r2⟩:=dR;obtain⟨ax,cq,st,eΥ,of⟩:=cP;simp only at r1 r2;subst r1 r2;rfl
  ·rename_i BF;rcases hw with⟨I,R⟩|hw
   ·exfalso;apply BF;simp[I,R.1]
   ·obtain⟨o',I,R⟩:=hw s o μ qF;exact⟨cP,by rw[U,Η];exact ι,.inr ⟨dR,rfl,s,o',I,by rw[dK];exact R,by rw[dK];exact cT⟩⟩
end
section
variable {P:Program} {Q:Value->Prop} {bl:World} {c:c0} {gs:Array Goroutine} {w:World} {t:Trace}
theorem Inv.at (h:Inv P Q bl c gs w t) (d:Nat):Inv P Q bl c gs (w.at d) t:=⟨h.pos,h.mem.at d,h.hold,h.bS,h.bh,h.eA,h.ea,h.gd,h.uO⟩
theorem Inv.gone (h:Inv P Q bl c gs w t) (ao:∀s,fQ (c.tok 0 s)):∀j,j≠0->j<gs.size->c.rel j=true/\(∀s,Gone (c.tok j s))/\Knows t 0 (c.dw j):=by
 have Rx:∀t:Tok,fQ t->Gone t:=λt Ν=>by cases t with
  | nil=>trivial
  | par _ _ aF=>cases aF<;>first|exact Ν.elim|trivial
  | ch=>exact Ν.elim
 intro j
 induction j using Nat.strongRecOn with
 | _ j ω=>
  intro fy fg;obtain⟨k,m,g,Ν⟩:=h.bh.rH j fy fg;obtain⟨_,_,aI⟩:=h.bh.ou j _ k m g Ν;cases Α:c.O (c.home j) with
  | none=>have:=h.bh.bare _ Α j;rw[Ν] at this;cases this
  | some o=>
  have Ε:=h.bh.fS _ o Α;obtain⟨i0,mY,ς⟩:=Bo (φ:=eT) (N:=gs.size) (τ:=λa=>c.tok a (c.home j)) (by rw[Ε.2.np];exact Nat.one_pos);have yO:∃q p aF,c.tok i0 (c.home j)=.par q p aF:=by
   cases U:c.tok i0 (c.home j) with
   | par q p aF=>exact⟨q,p,aF,rfl⟩
   | nil=>simp[U,eT] at ς
   | ch=>simp[U,eT] at ς
  obtain⟨q,p,aF,U⟩:=yO;have cW:=h.bh.par i0 _ q p aF U;subst cW;have bA:aF=.cq/\(c.bx (c.home j)≠0->c.rel (c.bx (c.home j))=true/\Knows t 0 (c.dw (c.bx (c.home j)))):=by
   by_cases e:c.bx (c.home j)=0
   ·have:=ao (c.home j);rw[<-e,U] at this;refine⟨by cases aF<;>first|exact this.elim|rfl,λx=>absurd e x⟩
   ·obtain⟨r1,r2,r3⟩:=ω _ aI e mY;have:=r2 (c.home j);rw[U] at this;exact⟨by cases aF<;>first|exact this.elim|rfl,λ_=>⟨r1,r3⟩⟩
  obtain⟨rfl,fU⟩:=bA;have ta:a8 gs.size (λa=>c.tok a (c.home j)) h7=1:=by
   rw[pn (φ:=h7) (λt Ν=>by cases t<;>simp_all [eT,h7]) Ε.2.np mY (by rw[U];rfl),U];rfl
  obtain⟨f1,f2,f3,f4,f5,f6⟩:=Ε.2.Ka ta;have BG:=Ε.2.E1;have l1:=fq (λa=>c.tok a (c.home j)) iM fg;have l2:=fq (λa=>c.tok a (c.home j)) jX fg;have og:=fq (λa=>c.tok a (c.home j)) jY fg;simp only[Ν,iM,jX,jY] at l1 l2 og;have Ο:g=.gone:=by
   cases g with
   | gone=>rfl
   | work=>simp only[rG] at l1;omega
   | rel=>simp only[rG] at l1;omega
   | l2=>simp only[uq] at l2;omega
   | hz=>simp only[uu] at og;omega
  subst Ο;have ee:c.rel j=true:=(h.bh.gY j k m _ fy Ν).2 η;refine⟨ee,λs=>?_,?_⟩
  ·by_cases e:s=c.home j
   ·subst e;rw[Ν];trivial
   ·exact Rx _ (h.bh.ov j s ee e)
  ·have ψ:=h.ea.c2 j fy ee ⟨q,p,U⟩;by_cases e:c.bx (c.home j)=0
   ·rw[e] at ψ;exact ψ
   ·obtain⟨r1,r2⟩:=fU e;exact Knows.of_before (h.ea.c3 j fy ee e r1) r2
theorem Ry {o:aN} {x:Tok} (h:Gone x) (I:∀k m g,x=.ch k m g->m≠.q):¬jZ o x:=by
 cases x with
 | nil=>exact id
 | par _ _ aF=>cases aF<;>first|exact h.elim|exact id
 | ch k m g=>cases m<;>first|exact absurd rfl (I _ _ _ rfl)|exact id
theorem Inv.KN (h:Inv P Q bl c gs w t) {g:Goroutine} (Ο:gs[0]?=some g) (μ:Ks P g (c.x 0) Q) (sl:Option (Nat×Nat)) (w1:World) :
  ∃v es,stepG P true g w=.ended (.done v) w es/\Good P (λv w'=>Q v/\fv (λ_ _=>False) (λ_=>False) bl w') (crowd gs w1 sl) (.done v) w (t++MemOp.ofEvents 0 g.frame.fn g.frame.place es):=by
 obtain⟨_,cQ,hd,ta⟩:=μ;obtain⟨v,es,I,R,ν⟩:=ta w (h.mem.fit (.inl 0));refine⟨v,es,I,v,rfl,⟨ν,h.mem.keep⟩,?_⟩;have uP:=h.gone cQ;have KO:=h.bS.own (w':=w) h.mem h.hold 0 (G':=c.H (.inl 0)) (V':=c.aG 0) (es:=es) (fn:=g.frame.fn) (pos:=g.frame.place) (Nat.le_refl _)
  ⟨λb o v p ε=>.inr ⟨v,p,ε,id⟩,λb hb=>.inr hb⟩ (λb x U=>.inl U) R (λb x U hle=>by
   have:=fw (h.mem.l4 0 b x.1 x.2 U);omega)
 have quit:∀j x,j≠0->gs[j]?=some x->∃n,QuitsD P n (c.deaf j) x:=λj x δ U=>by
  have fg:=(Array.getElem?_eq_some_iff.1 U).1;obtain⟨r1,r2,_⟩:=uP j δ fg;obtain⟨cP,ι,ε⟩:=h.uO j x U;have Χ:∃n,QuitsD P n (c.deaf j) cP:=by
   cases Η:c.T j with
   | leaf=>rw[Η] at ι;exact ι.1 r1 r2
   | node f=>rw[Η] at ι;exact ι.1 r1 r2
  rcases ε with rfl|⟨_,_,s,o,μ,hw,_⟩
  ·exact Χ
  ·refine absurd hw (Ry (r2 s) λk m g e hm=>?_);subst hm;have qH:g≠.work:=by rintro rfl;have:=r2 s;rw[e] at this;exact this
   rcases h.bh.ow j s k _ g o μ e qH with x|⟨x,_⟩<;>cases x
 refine⟨KO.race,λk g' ψ bC ε=>?_,⟨λx U=>?_,rfl⟩,λj x U δ=>?_⟩
 ·obtain⟨op,Α,hl⟩:=Option.map_eq_some_iff.1 ψ;rcases getElem?_append_cases Α with⟨aI,jy⟩|⟨_,gf⟩
  ·have ib:t.g? k=some g':=by simp[Trace.g?,jy,hl]
   have Rz:=h.ea.dQ k g' ib;obtain⟨r1,_,r3⟩:=uP g' bC Rz;obtain⟨rJ,Γ,Θ,bO,cF,eU⟩:=h.ea.c1 g' bC r1;obtain⟨q,z,uQ,pq,yP⟩:=Knows.of_before (eU k ib ((yN aI).1 ε)) r3;refine⟨q,by simp[Trace.g?,getElem?_append_old (lt_size_of_getElem? uQ),uQ,pq],?_⟩;rcases yP with rfl|yP
   ·exfalso;simp[Trace.g?,uQ,pq] at ib;exact bC ib.symm
   ·exact hb_app _ yP
  ·obtain⟨e,_,rfl⟩:=Go.Conc.mem_ofEvents gf;exact absurd hl.symm bC
 ·obtain⟨j,δ⟩:=List.mem_iff_getElem?.1 U;rw[List.getElem?_drop] at δ;obtain⟨n,Χ⟩:=quit (1+j) x γ (by simpa[crowd] using δ);exact⟨n,Χ.leaves⟩
 ·obtain⟨n,Χ⟩:=quit j x δ U;refine⟨n,?_⟩;have e:(t++MemOp.ofEvents 0 g.frame.fn g.frame.place es).deaf j (t++MemOp.ofEvents 0 g.frame.fn g.frame.place es).size=c.deaf j:=KO.hears j;rw[e];exact Χ.hears _
def Comes (P:Program) (Q:Value->Prop) (bl:World) (m:Machine) (t:Trace):Prop:=
 ∃N last o w' t',runNT P (N+1) m t=(.ended o w',t')/\runN P N m=.next last/\step P last=.ended o w'/\Good P (λv w'=>Q v/\fv (λ_ _=>False) (λ_=>False) bl w') last o w' t'
theorem Comes.next {m b1:Machine} {u:Trace} (μ:stepT P m=(.next b1,u)) (h:Comes P Q bl b1 (t++u)):Comes P Q bl m t:=by
 obtain⟨n,last,o,w,t',I,R,ν,Ι⟩:=h;exact⟨n+1,last,o,w,t',by rw[runNT_succ_next μ];exact I,by rw[runN_succ_next μ];exact R,ν,Ι⟩
theorem Comes.last {m:Machine} {u:Trace} {o:Outcome} {w:World} (μ:stepT P m=(.ended o w,u)) (Ο:Good P (λv w'=>Q v/\fv (λ_ _=>False) (λ_=>False) bl w') m o w (t++u)):Comes P Q bl m t:=
 ⟨0,m,o,w,t++u,by simp[runNT,μ],rfl,by simp[step,μ],Ο⟩
def wD (gs:Array Goroutine):Nat:=(gs.toList.filter λg=>decide (g.status=.running)).length
structure Ord (jA:List Nat) (n:Nat):Prop where
 nodup:jA.Nodup
 mem:∀i,i∈jA↔i<n
theorem Ord.part {jA:List Nat} {n i:Nat} (h:Ord jA n) (hi:i<n):∃a b,jA=a++i::b/\i∉a/\i∉b:=by
 obtain⟨a,b,rfl⟩:=List.append_of_mem ((h.mem i).2 hi);have:=h.nodup;rw[List.nodup_append] at this;obtain⟨_,R,ν⟩:=this;rw[List.nodup_cons] at R;exact⟨a,b,rfl,λκ=>ν i κ i η rfl,R.1⟩
theorem wE {B:Type} {T:Nat->B} {i:Nat} {x:B} {l:List Nat} (h:i∉l):l.map (upd T i x)=l.map T:=by
 apply List.map_congr_left;intro j δ;exact upd_ne _ _ (λe=>h (e▸δ))
theorem Ord.one {B:Type} {jA:List Nat} {n i:Nat} (h:Ord jA n) (hi:i<n) {T:Nat->ga B} {f:B->ga B} (Η:T i=.node f) (k:B):mT (jA.map (upd T i (f k))) (jA.map T):=by
 obtain⟨a,b,rfl,κ,hb⟩:=h.part hi;simp only[List.map_append,List.map_cons,wE κ,wE hb,upd_same,Η];exact .one _ _ _ _
theorem Ord.two {B:Type} {jA:List Nat} {n i:Nat} (h:Ord jA n) (hi:i<n) {T:Nat->ga B} {f:B->ga B} (Η:T i=.node f) (k af:B) :
  ∃BH,Ord BH (n+1)/\mT (BH.map (upd (upd T i (f k)) n (f af))) (jA.map T):=by
 have BI:n∉jA:=λU=>by have:=(h.mem n).1 U;omega
 obtain⟨a,b,rfl,κ,hb⟩:=h.part hi;have ma:n∉a:=λU=>BI (by simp[U]);have KP:n∉b:=λU=>BI (by simp[U]);refine⟨a++i::n::b,⟨?_,λj=>?_⟩,?_⟩
 ·have:=h.nodup;rw[List.nodup_append] at this ⊢;obtain⟨I,R,ν⟩:=this;rw[List.nodup_cons] at R;refine⟨I,?_,λx U y Φ=>?_⟩
  ·rw[List.nodup_cons,List.nodup_cons];exact⟨by simp;exact⟨γ,R.1⟩,KP,R.2⟩
  ·simp at Φ;rcases Φ with rfl|rfl|Φ
   ·exact ν x U _ η
   ·rintro rfl;exact ma U
   ·exact ν x U y (by simp[Φ])
 ·have:=h.mem j;simp only[List.mem_append,List.mem_cons] at this ⊢;constructor
  ·rintro(U|rfl|rfl|U)
   ·have:=this.1 (.inl U);omega
   ·omega
   ·omega
   ·have:=this.1 (.inr (.inr U));omega
  ·intro U;by_cases e:j=n
   ·exact .inr (.inr (.inl e))
   ·rcases this.2 γ with U|rfl|U
    ·exact .inl U
    ·exact .inr (.inl rfl)
    ·exact .inr (.inr (.inr U))
 ·have a4:i≠n:=by omega
  simp only[List.map_append,List.map_cons,wE ma,wE KP,wE κ,wE hb,upd_same,upd_ne _ _ a4,Η];exact .two _ _ _ _ _
end
theorem BJ {B:Type} {f:Nat->B} {k:Nat} {x:B} (h:f k=x):upd f k x=f:=by
 funext j
 by_cases e:j=k
 ·subst e;rw[upd_same,h]
 ·rw[upd_ne _ _ e]
theorem iv (H:cy->π) (i:Nat) (G:π) (b:Nat):bL H (.inl i) G (.inr b)=H (.inr b):=bM H G η
theorem uR (tok:Nat->Nat->Tok) (i s:Nat) (t:Tok):b0 tok i s t i=upd (tok i) s t:=by unfold b0;rw[upd_same]
theorem rM {tok:Nat->Nat->Tok} {i s j:Nat} (t:Tok) (h:j≠i):b0 tok i s t j=tok j:=by unfold b0;rw[upd_ne _ _ h]
theorem mb {B:Type} {a:Array B} {k:Nat} {x:B} (h:a[k]?=some x):k<a.size:=(Array.getElem?_eq_some_iff.1 h).1
theorem ofEvents_g {i:Nat} {fn:FuncId} {pos:String} {es:Array Event}:∀op∈MemOp.ofEvents i fn pos es,op.g=i:=λop Κ=>by obtain⟨e,_,rfl⟩:=Go.Conc.mem_ofEvents Κ;rfl
theorem KQ {i:Nat} {fn:FuncId} {pos:String}:MemOp.ofEvents i fn pos #[]=#[]:=by rw[ofEvents_eq];simp
theorem RA (t:Trace) (i:Nat) (fn:FuncId) (pos:String) (es:Array Event) {j:Nat} (δ:j<=es.size):(t++MemOp.ofEvents i fn pos es).deaf i (t.size+j)=deafBehind (Deaf t i) (es.extract 0 j):=by
 have e:t++MemOp.ofEvents i fn pos es=(t++MemOp.ofEvents i fn pos (es.extract 0 j))++MemOp.ofEvents i fn pos (es.extract j es.size):=by
  rw[Array.append_assoc];congr 1;rw[ofEvents_eq,ofEvents_eq,ofEvents_eq,<-Array.map_append];congr 1;simp only[Array.extract_append_extract];rw[show max j es.size=es.size by omega];simp
 have cC:(t++MemOp.ofEvents i fn pos (es.extract 0 j)).size=t.size+j:=by rw[Array.size_append,ofEvents_eq];simp;omega
 rw[e,deaf_old γ,<-cC];exact Deaf_own t i fn pos _
theorem Fw {t u:Trace} {k:Nat} (ψ:t.size<=k) (ε:(t++u).counts k):∃op,u[k-t.size]?=some op/\(t++u)[k]?=some op/\∃x,op.act.touch?=some x/\x.loc.isMemory=true/\(x.kind≠.atomic\/(t++u).heard k):=by
 obtain⟨x,I,R,ν⟩:=ε;obtain⟨op,Α,U⟩:=touch_of (t:=t++u) (i:=k) I;exact⟨op,by rw[Array.getElem?_append_right ψ] at Α;exact Α,Α,x,U,R,ν⟩
theorem wF {t u:Trace} (h:∀op∈u,op.act.touch?=none):∀k,t.size<=k->¬(t++u).counts k:=λk ψ ε=>by
 obtain⟨op,I,_,x,ν,_⟩:=Fw ψ ε;rw[h op (mem_of_getElem? I)] at ν;cases ν
theorem RB {t:Trace} {i:Nat} {fn:FuncId} {pos:String} {es:Array Event} (h:∀e∈es,Br e):∀k,t.size<=k->¬(t++MemOp.ofEvents i fn pos es).counts k:=λk ψ ε=>by
 obtain⟨op,I,_,x,ν,Ι,_⟩:=Fw ψ ε;obtain⟨e,he,rfl⟩:=Go.Conc.mem_ofEvents (mem_of_getElem? I);obtain⟨loc,wr,oq⟩:=e;rcases h _ he with υ|υ<;>simp only at υ<;>subst υ<;>simp[MemAct.ofEvent,MemAct.touch?] at ν;subst ν;simp[Loc.isMemory] at Ι
theorem BK {s d i:Nat} {sp:Spec} {es:Array Event} {fn:FuncId} {pos:String} (h:om s sp d es) {op:MemOp} (Α:op∈MemOp.ofEvents i fn pos es) :
  (op.act=.mark .disable\/op.act=.mark .enable)\/∃b off wr,op.act=.access ⟨.cell ⟨b,off,none⟩,wr,true⟩/\ep s sp b:=by
 obtain⟨e,he,rfl⟩:=Go.Conc.mem_ofEvents Α;obtain⟨j,δ⟩:=Array.mem_iff_getElem?.1 he;obtain⟨loc,wr,oq⟩:=e;rcases h.2 j _ δ with υ|υ|⟨b,off,RD,υ,hb,_⟩
 ·simp only at υ;subst υ;exact .inl (.inl rfl)
 ·simp only at υ;subst υ;exact .inl (.inr rfl)
 ·cases υ;exact .inr ⟨b,off,_,rfl,hb⟩
theorem RE {t:Trace} {s i:Nat} {sp:Spec} {fn:FuncId} {pos:String} {es:Array Event} (h:om s sp (Deaf t i) es):∀k,t.size<=k->¬(t++MemOp.ofEvents i fn pos es).counts k:=λk ψ ε=>by
 obtain⟨op,I,R,x,ν,Ι,aB⟩:=Fw ψ ε;rw[ofEvents_eq,Array.getElem?_map] at I;obtain⟨e,he,rfl⟩:=Option.map_eq_some_iff.1 I;have aI:k-t.size<es.size:=mb he;obtain⟨loc,wr,oq⟩:=e;rcases h.2 _ _ he with υ|υ|⟨b,off,RD,υ,hb,hd⟩
 ·simp only at υ;subst υ;simp[MemAct.ofEvent,MemAct.touch?] at ν
 ·simp only at υ;subst υ;simp[MemAct.ofEvent,MemAct.touch?] at ν
 ·cases υ;simp[MemAct.ofEvent,MemAct.touch?] at ν;subst ν;rcases aB with aB|⟨g,Ο,Μ⟩
  ·exact aB rfl
  ·simp[Trace.g?,R] at Ο;subst Ο;have:=RA t i fn pos es (Nat.le_of_lt aI);rw[show t.size+(k-t.size)=k by omega] at this;rw[this] at Μ;omega
section
variable {P:Program} {Q:Value->Prop} {bl:World} {c c':c0} {gs:Array Goroutine} {w w':World} {t:Trace} {i:Nat} {g g':Goroutine} {es:Array Event}
theorem Inv.low (h:Inv P Q bl c gs w t) {s b:Nat} {o:aN} (μ:c.O s=some o) (hb:ep s o.toSpec b):b<w.heap.size:=by
 obtain⟨⟨ty,I⟩,R⟩:=h.mem.fH s o μ;rcases hb with rfl|hb
 ·exact fw I
 ·obtain⟨jv,ν⟩:=R b hb;exact fw ν
theorem Inv.obj (h:Inv P Q bl c gs w t) {s:Nat} (Ν:c.tok i s≠.nil):∃o,c.O s=some o:=by
 cases μ:c.O s with
 | none=>exact absurd (h.bh.bare s μ i) Ν
 | some o=>exact⟨o,rfl⟩
theorem iu.grow {H:cy->π} {aG:Nat->Nat->Option (Array Value×TypeId)} {tok:Nat->Nat->Tok} {O:Nat->Option aN} {bx deaf:Nat->Nat} {N e2:Nat} (h:iu H aG tok O bx deaf N t) (c5:N<=e2):iu H aG tok O bx deaf e2 t:=
 ⟨h.race,λop Κ=>MemAct.low_mono c5 (h.low op Κ),h.norel,h.perms,h.oo,h.cont,h.hears⟩
theorem wC.app {aG ps:Nat->Nat->Option (Array Value×TypeId)} {tok eB:Nat->Nat->Tok} {O O':Nat->Option aN} {rel:Nat->Bool} {dw:Nat->Nat} {u:Trace} {N:Nat} (h:wC aG tok O rel dw t) (s3:∀op∈t,op.act.low N)
  (hu:∀op∈u,∀b,op.act≠.mark (.releaseMerge ⟨b,0,none⟩)) (hv:∀j b v,ps j b=some v->(∃fc,aG j b=some fc)\/N<=b) (cK:∀s o',O' s=some o'->∃o,O s=some o/\o.aU=o'.aU)
  (Ν:∀j s k mu g,tok j s=.ch k mu g->∃k mu g,eB j s=.ch k mu g):wC ps eB O' rel dw (t++u):=by
 refine⟨λs o' m μ hm p op ς Α=>?_,λj b v hb op Κ Α=>?_⟩
 ·obtain⟨o,I,R⟩:=cK s o' μ;rcases getElem?_append_cases ς with⟨_,hO⟩|⟨_,gf⟩
  ·obtain⟨⟨k,mu,g,ν⟩,Ι⟩:=h.iO s o m I (by rw[R];exact hm) p op hO Α;exact⟨Ν _ _ _ _ _ ν,λι=>(Ι ι).app u⟩
  ·exact absurd Α (hu op gf m)
 ·rcases Array.mem_append.1 Κ with kI|kI
  ·rcases hv j b v hb with⟨fc,ly⟩|hle
   ·exact h.uN j b fc ly op kI Α
   ·have:=s3 op kI;rw[Α] at this;simp only[MemAct.low] at this;omega
  ·exact hu op kI b Α
theorem wB.yQ {H H':cy->π} {tok:Nat->Nat->Tok} {O:Nat->Option aN} (h:wB H tok O) (χ:∀b,H' (.inr b)=H (.inr b)):wB H' tok O:=
 ⟨λs o m a b d e=>by rw[χ];exact h.l7 s o m a b d e,λs o a b=>by rw[χ];exact h.l8 s o a b⟩
theorem Inv.laid (h:Inv P Q bl c gs w t) (Ο:gs[i]?=some g) {u:Trace}
  (mem:gX c'.H c'.aG c'.O bl w') (hold:h8 c'.H c'.aG c'.O bl.heap.size) (bS:iu c'.H c'.aG c'.tok c'.O c'.bx c'.deaf w'.heap.size (t++u))
  (bh:eR gs.size c'.tok c'.spec c'.view c'.rel c'.O c'.bx c'.home) (eA:wB c'.H c'.tok c'.O) (ea:uM gs.size c'.tok c'.rel c'.bx c'.home c'.dw (t++u)) (gd:wC c'.aG c'.tok c'.O c'.rel c'.dw (t++u))
  (Fx:Rec P Q c' i g') (U:∀j,j≠i->c'.x j=c.x j/\c'.T j=c.T j)
  (hw:(mayWake P g=true/\ir g')\/∀j s o,j≠i->c.O s=some o->jZ o (c.tok j s)->∃o',c'.O s=some o'/\jZ o' (c.tok j s)) :
  Inv P Q bl c' ((gs.map (woken P g g' w')).setIfInBounds i g') w' (t++u):=by
 have cC:((gs.map (woken P g g' w')).setIfInBounds i g').size=gs.size:=η
 have a4:i<gs.size:=mb Ο;refine⟨by rw[cC];exact h.pos,mem,hold,bS,by rw[cC];exact bh,eA,by rw[cC];exact ea,gd,λj b hb=>?_⟩;by_cases e:j=i
 ·subst e;rw[Array.getElem?_setIfInBounds_self_of_lt (by simpa using a4)] at hb;cases hb;exact Fx
 ·rw[Array.getElem?_setIfInBounds_ne (Ne.symm e),Array.getElem?_map] at hb;obtain⟨bZ,I,rfl⟩:=Option.map_eq_some_iff.1 hb;exact(h.uO j bZ I).woken (i:=0) (U j e).1 (U j e).2 (hw.imp id λhw s o μ qF=>hw j s o e μ qF)
def hP (P:Program) (Q:Value->Prop) (bl:World) (c:c0) (gs:Array Goroutine) (w:World) (t:Trace) (i:Nat) (f:Bool×Goroutine×aW->ga (Bool×Goroutine×aW)):Prop:=
 ∀sl,∃c' qI w' u,runT P (crowd gs w sl) i=(.next (crowd qI w' sl),u)/\Inv P Q bl c' qI w' (t++u)/\
  ((qI.size=gs.size/\∃k,c'.T=upd c.T i (f k))\/(qI.size=gs.size+1/\∃k af,c'.T=upd (upd c.T i (f k)) gs.size (f af))\/(qI.size=gs.size/\c'.T=c.T/\wD qI<wD gs))
def BL (P:Program) (Q:Value->Prop) (bl:World) (c:c0) (gs:Array Goroutine) (w:World) (t:Trace) (i:Nat) (f:Bool×Goroutine×aW->ga (Bool×Goroutine×aW)):Prop:=
 ∃c',Inv P Q bl c' gs w t/\∃k,c'.T=upd c.T i (f k)
abbrev lz (P:Program) (Q:Value->Prop) (f:Bool×Goroutine×aW->ga (Bool×Goroutine×aW)):yB:=λuD g' de=>jw P Q (f (uD,g',de)) uD g' de
theorem hP.go {f:Bool×Goroutine×aW->ga (Bool×Goroutine×aW)} (Ο:gs[i]?=some g) (μ:stepG P (i==0) g w=.go g' w' es)
  (h:Inv P Q bl c' ((gs.map (woken P g g' w')).setIfInBounds i g') w' (t++MemOp.ofEvents i g.frame.fn g.frame.place es)) (k:Bool×Goroutine×aW) (Η:c'.T=upd c.T i (f k)):hP P Q bl c gs w t i f:=
 λ_=>⟨c',_,w',_,runT_crowd_go Ο μ,h,.inl ⟨η,k,Η⟩⟩
variable {f:Bool×Goroutine×aW->ga (Bool×Goroutine×aW)}
theorem Inv.Fi (h:Inv P Q bl c gs w t) (Ο:gs[i]?=some g) (ψ:Kj P (i==0) (lz P Q f) g (c.x i)):hP P Q bl c gs w t i f:=by
 have hw:=ψ w (h.mem.fit (.inl i)) (h.mem.l4 i);cases μ:stepG P (i==0) g w with
 | go g' w' es=>
  rw[μ] at hw;obtain⟨G',V',ι,tb,Υ,bu,tc,qC,fR,Fj,bm⟩:=hw;have a4:i<gs.size:=mb Ο;have KR:∀e∈es,hc (c.H (.inl i)) w.heap.size w'.heap.size e:=λe he=>by
   have:=fR e he;split at this
   ·exact this.Fi
   ·exact this
  have U:∀j,j≠i->({c with H:=bL c.H (.inl i) G',aG:=upd c.aG i V',T:=upd c.T i (f (i==0,g',{c.x i with G:=G',aG:=V'}))}:c0).x j=c.x j:=λj δ=>by
   have:(Sum.inl j:cy)≠.inl i:=λe=>δ (by cases e;rfl);simp[c0.x,bM _ _ this,upd_ne _ _ δ]
  refine hP.go (c':={c with H:=bL c.H (.inl i) G',aG:=upd c.aG i V',T:=upd c.T i (f (i==0,g',{c.x i with G:=G',aG:=V'}))}) Ο μ ?_ _ rfl;refine h.laid Ο (h.mem.own h.hold i tb Υ bu rfl) (h.hold.own h.mem h.mem.keep.size i tc qC) (h.bS.own h.mem h.hold i tb.size tc qC KR Fj) h.bh ?_ ?_ ?_ ?_ (λj δ=>⟨U j δ,upd_ne _ _ δ⟩) (.inr λj s o _ a b=>⟨o,a,b⟩)
  ·exact h.eA.yQ λb=>iv c.H i G' b
  ·refine h.ea.app a4 ofEvents_g (λee=>RB λe he=>?_) (λ_ _ _ x=>x) (λ_ _ _ _ x=>x);have:=fR e he;have fh:(c.x i).rel=true:=ee;simpa only[fh,if_true] using this
  ·refine h.gd.app h.bS.low (λop Κ b hb=>?_) (λj b v hv=>?_) (λs o' μ=>⟨o',μ,rfl⟩) (λj s k mu g e=>⟨k,mu,g,e⟩)
   ·obtain⟨e,he,rfl⟩:=Go.Conc.mem_ofEvents Κ;have dx:=KR e he;obtain⟨loc,wr,oq⟩:=e;cases loc with
    | mark m=>simp only[hc] at dx;subst dx;simp[MemAct.ofEvent] at hb
    | obj r=>cases wr<;>cases oq<;>simp[MemAct.ofEvent] at hb
    | _=>simp[MemAct.ofEvent] at hb
   ·replace hv:upd c.aG i V' j b=some v:=hv
    by_cases δ:j=i
    ·subst δ;rw[upd_same] at hv;exact(qC b v hv).imp (λx=>⟨v,x⟩) (λx=>x.1)
    ·rw[upd_ne _ _ δ] at hv;exact .inl ⟨v,hv⟩
  ·refine⟨g',?_,.inl rfl⟩;have e:({c with H:=bL c.H (.inl i) G',aG:=upd c.aG i V',T:=upd c.T i (f (i==0,g',{c.x i with G:=G',aG:=V'}))}:c0).x i={c.x i with G:=G',aG:=V'}:=by
    simp[c0.x,upd_same]
   rw[e];show jw P Q (upd c.T i (f (i==0,g',{c.x i with G:=G',aG:=V'})) i) _ _ _;rw[upd_same];exact bm
 | _=>rw[μ] at hw;exact hw.elim
theorem gX.yQ {H:cy->π} {aG:Nat->Nat->Option (Array Value×TypeId)} {O O':Nat->Option aN} (h:gX H aG O bl w) (e:O'=O):gX H aG O' bl w:=e▸h
theorem Inv.marked (h:Inv P Q bl c gs w t) (Ο:gs[i]?=some g) {m:Mark} (hm:m=.disable\/m=.enable) {d:Nat} (hd:d=deafBehind (c.deaf i) #[Go.ConcR.mk m]) (μ:stepG P (i==0) g w=.go g' w #[Go.ConcR.mk m])
  (bm:lz P Q f (i==0) g' {c.x i with deaf:=d}):hP P Q bl c gs w t i f:=by
 have a4:i<gs.size:=mb Ο
 have nt:∀op∈MemOp.ofEvents i g.frame.fn g.frame.place #[Go.ConcR.mk m],op.act.touch?=none:=λop Κ=>by
  obtain⟨e,he,rfl⟩:=Go.Conc.mem_ofEvents Κ;simp at he;subst he;rcases hm with rfl|rfl<;>rfl
 have ma:∀op∈MemOp.ofEvents i g.frame.fn g.frame.place #[Go.ConcR.mk m],op.act=.mark .disable\/op.act=.mark .enable:=λop Κ=>by
  obtain⟨e,he,rfl⟩:=Go.Conc.mem_ofEvents Κ;simp at he;subst he;rcases hm with rfl|rfl
  ·exact .inl rfl
  ·exact .inr rfl
 refine hP.go (c':={c with deaf:=upd c.deaf i d,T:=upd c.T i (f (i==0,g',{c.x i with deaf:=d}))}) Ο μ ?_ _ rfl;refine h.laid Ο h.mem h.hold ?_ h.bh h.eA ?_ ?_ ⟨g',?_,.inl rfl⟩ (λj δ=>⟨by simp[c0.x,upd_ne _ _ δ],upd_ne _ _ δ⟩) (.inr λj s o _ a b=>⟨o,a,b⟩)
 ·refine h.bS.ext h.hold i ofEvents_g (λop Κ=>?_) (λop Κ a κ=>?_) (λop Κ b hb=>?_) (λj=>?_)
  ·rcases ma op Κ with e|e<;>rw[e]<;>trivial
  ·rcases ma op Κ with e|e<;>rw[e] at κ<;>cases κ
  ·rw[nt op Κ] at hb;cases hb
  ·by_cases e:j=i
   ·subst e;rw[Deaf_own,h.bS.hears,hd];exact(upd_same ..).symm
   ·rw[Deaf_other t (Ne.symm e) _ ofEvents_g,h.bS.hears];exact(upd_ne _ _ e).symm
 ·exact h.ea.app a4 ofEvents_g (λ_=>wF nt) (λ_ _ _ x=>x) (λ_ _ _ _ x=>x)
 ·refine h.gd.app h.bS.low (λop Κ b hb=>?_) (λj b v hv=>.inl ⟨v,hv⟩) (λs o' μ=>⟨o',μ,rfl⟩) (λj s k mu g e=>⟨k,mu,g,e⟩);rcases ma op Κ with e|e<;>rw[e] at hb<;>cases hb
 ·have e:({c with deaf:=upd c.deaf i d,T:=upd c.T i (f (i==0,g',{c.x i with deaf:=d}))}:c0).x i={c.x i with deaf:=d}:=by
   simp[c0.x,upd_same]
  rw[e];show jw P Q (upd c.T i (f (i==0,g',{c.x i with deaf:=d})) i) _ _ _;rw[upd_same];exact bm
theorem Inv.RF (h:Inv P Q bl c gs w t) (Ο:gs[i]?=some g) (ψ:Kk P (i==0) (lz P Q f) g (c.x i)):hP P Q bl c gs w t i f:=by
 obtain⟨g',_,ψ|⟨_,ψ⟩⟩:=ψ
 ·obtain⟨I,R⟩:=ψ w (h.mem.fit (.inl i));exact h.marked Ο (.inl rfl) (by rfl) I R
 ·obtain⟨I,R⟩:=ψ w (h.mem.fit (.inl i));exact h.marked Ο (.inr rfl) (by rfl) I R
theorem Inv.RG (h:Inv P Q bl c gs w t) (Ο:gs[i]?=some g) (ψ:Kl P (i==0) (lz P Q f) g (c.x i)):hP P Q bl c gs w t i f:=by
 obtain⟨s,n,p,aF,g',off,wr,I,R,hg,ν,Ι⟩:=ψ;have a4:i<gs.size:=mb Ο;obtain⟨μ,bm⟩:=Ι w (h.mem.fit (.inl i));have dK:c.tok i s=.par n p aF:=I;obtain⟨o,Α⟩:=h.obj (i:=i) (s:=s) (by rw[dK];simp);have ee:c.rel i=false:=hg;have ma:∀op∈MemOp.ofEvents i g.frame.fn g.frame.place #[Go.ConcR.mk (if wr then .write ⟨s,off,none⟩ else .read ⟨s,off,none⟩)],op.act=.mark (if wr then .write ⟨s,off,none⟩ else .read ⟨s,off,none⟩):=λop Κ=>by
  obtain⟨e,he,rfl⟩:=Go.Conc.mem_ofEvents Κ;simp at he;subst he;rfl
 refine hP.go (c':={c with T:=upd c.T i (f (i==0,g',c.x i))}) Ο μ ?_ _ rfl;refine h.laid Ο h.mem h.hold ?_ h.bh h.eA ?_ ?_ ⟨g',?_,.inl rfl⟩ (λj δ=>⟨rfl,upd_ne _ _ δ⟩) (.inr λj s o _ a b=>⟨o,a,b⟩)
 ·refine h.bS.ext h.hold i ofEvents_g (λop Κ=>?_) (λop Κ a κ=>?_) (λop Κ b hb=>?_) (λj=>?_)
  ·rw[ma op Κ];have:=h.low Α (.inl rfl);cases wr<;>exact this
  ·rw[ma op Κ] at κ;cases wr<;>cases κ
  ·rw[ma op Κ] at hb;refine⟨s,o,s,off,Α,.inl rfl,?_⟩;cases wr<;>simp[MemAct.touch?] at hb<;>subst hb<;>exact⟨rfl,.inr ⟨rfl,h.bh.par i s n p aF dK⟩⟩
  ·by_cases e:j=i
   ·subst e;rw[Deaf_own,h.bS.hears];cases wr<;>rfl
   ·rw[Deaf_other t (Ne.symm e) _ ofEvents_g,h.bS.hears]
 ·exact h.ea.app a4 ofEvents_g (λU=>by rw[ee] at U;cases U) (λ_ _ _ x=>x) (λ_ _ _ _ x=>x)
 ·refine h.gd.app h.bS.low (λop Κ b hb=>?_) (λj b v hv=>.inl ⟨v,hv⟩) (λs o' μ=>⟨o',μ,rfl⟩) (λj s k mu g e=>⟨k,mu,g,e⟩);rw[ma op Κ] at hb;cases wr<;>cases hb
 ·show jw P Q (upd c.T i (f (i==0,g',c.x i)) i) _ _ _;rw[upd_same];exact bm
theorem Inv.quits (h:Inv P Q bl c gs w t) (Ο:gs[i]?=some g) (ψ:Kr P (i==0) (lz P Q f) g (c.x i)):hP P Q bl c gs w t i f:=by
 obtain⟨j0,ι,ee,uP,g',es,hm,μ,bm⟩:=ψ;have a4:i<gs.size:=mb Ο;have nt:∀op∈MemOp.ofEvents i g.frame.fn g.frame.place es,op.act.touch?=none:=λop Κ=>by
  obtain⟨e,he,rfl⟩:=Go.Conc.mem_ofEvents Κ;exact touch_mute (hm e he)
 have ma:∀op∈MemOp.ofEvents i g.frame.fn g.frame.place es,op.act=.mark .disable\/op.act=.mark .enable:=λop Κ=>by
  obtain⟨⟨loc,wr,oq⟩,he,rfl⟩:=Go.Conc.mem_ofEvents Κ;have:=hm _ he;cases loc<;>simp[Event.mute] at this;rename_i m;cases m<;>simp_all [MemAct.ofEvent]
 refine hP.go (c':={c with deaf:=upd c.deaf i (deafBehind (c.deaf i) es),T:=upd c.T i (f (i==0,g',{c.x i with deaf:=deafBehind (c.x i).deaf es}))}) Ο (by rw[j0];exact μ w) ?_ _ rfl;refine h.laid Ο h.mem h.hold ?_ h.bh h.eA ?_ ?_ ⟨g',?_,.inl rfl⟩ (λj δ=>⟨by simp[c0.x,upd_ne _ _ δ],upd_ne _ _ δ⟩) (.inr λj s o _ a b=>⟨o,a,b⟩)
 ·refine h.bS.ext h.hold i ofEvents_g (λop Κ=>?_) (λop Κ a κ=>?_) (λop Κ b hb=>?_) (λj=>?_)
  ·rcases ma op Κ with e|e<;>rw[e]<;>trivial
  ·rcases ma op Κ with e|e<;>rw[e] at κ<;>cases κ
  ·rw[nt op Κ] at hb;cases hb
  ·by_cases e:j=i
   ·subst e;rw[Deaf_own,h.bS.hears];exact(upd_same ..).symm
   ·rw[Deaf_other t (Ne.symm e) _ ofEvents_g,h.bS.hears];exact(upd_ne _ _ e).symm
 ·exact h.ea.app a4 ofEvents_g (λ_=>wF nt) (λ_ _ _ x=>x) (λ_ _ _ _ x=>x)
 ·refine h.gd.app h.bS.low (λop Κ b hb=>?_) (λj b v hv=>.inl ⟨v,hv⟩) (λs o' μ=>⟨o',μ,rfl⟩) (λj s k mu g e=>⟨k,mu,g,e⟩);rcases ma op Κ with e|e<;>rw[e] at hb<;>cases hb
 ·have e:({c with deaf:=upd c.deaf i (deafBehind (c.deaf i) es),T:=upd c.T i (f (i==0,g',{c.x i with deaf:=deafBehind (c.x i).deaf es}))}:c0).x i={c.x i with deaf:=deafBehind (c.x i).deaf es}:=by
   simp[c0.x,upd_same]
  rw[e];show jw P Q (upd c.T i (f (i==0,g',{c.x i with deaf:=deafBehind (c.x i).deaf es})) i) _ _ _;rw[upd_same];exact bm
end
end Go.TL
namespace Go.TL
open Go.Conc
open Go.ConcM (OsLater)
open Go.ConcN (sumTo upd sumTo_upd upd_ne upd_same sumTo_congr le_sumTo)
section
variable {P:Program} {Q:Value->Prop} {bl:World} {c c':c0} {gs:Array Goroutine} {w w':World} {t:Trace} {i:Nat} {g g':Goroutine} {es:Array Event}
variable {f:Bool×Goroutine×aW->ga (Bool×Goroutine×aW)}
theorem RH {o o':aN} {t t':Tok} (h:Act o t o' t'):(∀q p,t'≠.par q p .cq)/\(∀q p,t≠.par q p .cq)/\∀k L g,t=.ch k (.dj L) g->∃g',t'=.ch k (.dj L) g':=by
 cases h<;>refine⟨λq p e=>?_,λq p e=>?_,λk L g e=>?_⟩<;>cases e
 all_goals exact⟨_,rfl⟩
theorem KS {B:Type} (p:B->Bool) {y:B} (Φ:p y=false):∀(l:List B) (k:Nat) (x:B),l[k]?=some x->p x=true->((l.set k y).filter p).length<(l.filter p).length
 | [],k,x,h,_=>by simp at h
 | z::l,0,x,h,U=>by
  simp at h;subst h;simp[List.set,U,Φ]
 | z::l,k+1,x,h,U=>by
  have:=KS p Φ l k x (by simpa using h) U;simp only[List.set,List.filter_cons];split<;>simpa using this
theorem RI {k:Nat} (Ο:gs[k]?=some g) (ι:g.status=.running) (hb:g'.status≠.running):wD (gs.setIfInBounds k g')<wD gs:=by
 unfold wD;rw[Array.toList_setIfInBounds];exact KS (λg:Goroutine=>decide (g.status=.running)) (by simp[hb]) _ k g (by rw[<-Ο];simp) (by simp[ι])
theorem Inv.atom (h:Inv P Q bl c gs w t) (Ο:gs[i]?=some g) (ι:ir g) (Η:jw P Q (c.T i) (i==0) g (c.x i)) (ψ:Atom P (i==0) (lz P Q f) g (c.x i)):hP P Q bl c gs w t i f:=by
 obtain⟨s,sp,I,R,ν⟩:=ψ;have a4:i<gs.size:=mb Ο;obtain⟨o,Α,b2⟩:=h.bh.qD i s sp I;have s3:∀b,ep s sp b->b<w.heap.size:=λb hb=>h.low Α (by rw[b2];exact hb);have hg:¬fQ (c.tok i s):=R;have Fy:c.tok i s≠.nil:=λe=>hg (by rw[e];trivial);have KT:∀{w':World} {es:Array Event} {k:Nat},fv (λb _=>ep s sp b) (λ_=>False) w w'->om s sp (c.x i).deaf es->iu c.H c.aG c.tok c.O c.bx c.deaf w'.heap.size (t++MemOp.ofEvents i g.frame.fn g.frame.place es):=λ{w' es k} tb dx=>by
  refine iu.grow ?_ tb.size;refine h.bS.ext h.hold i ofEvents_g (λop Κ=>?_) (λop Κ a κ=>?_) (λop Κ b hb=>?_) (λj=>?_)
  ·rcases BK dx Κ with(e|e)|⟨b,off,wr,e,hb⟩
   ·rw[e];trivial
   ·rw[e];trivial
   ·rw[e];exact s3 b hb
  ·rcases BK dx Κ with(e|e)|⟨b,off,wr,e,hb⟩<;>rw[e] at κ<;>cases κ
  ·rcases BK dx Κ with(e|e)|⟨Ψ,off,wr,e,dF⟩
   ·rw[e] at hb;cases hb
   ·rw[e] at hb;cases hb
   ·rw[e] at hb;simp[MemAct.touch?] at hb;subst hb;exact⟨s,o,Ψ,off,Α,by rw[b2];exact dF,rfl,.inl rfl⟩
  ·by_cases e:j=i
   ·subst e;rw[Deaf_own,h.bS.hears];exact dx.1
   ·rw[Deaf_other t (Ne.symm e) _ ofEvents_g,h.bS.hears]
 have norel:∀{es:Array Event},om s sp (c.x i).deaf es->∀op∈MemOp.ofEvents i g.frame.fn g.frame.place es,∀b,op.act≠.mark (.releaseMerge ⟨b,0,none⟩):=λdx op Κ b hb=>by
  rcases BK dx Κ with(e|e)|⟨Ψ,off,wr,e,dF⟩<;>rw[e] at hb<;>cases hb
 have KU:∀{es:Array Event},om s sp (c.x i).deaf es->∀k,t.size<=k->¬(t++MemOp.ofEvents i g.frame.fn g.frame.place es).counts k:=λdx=>RE (s:=s) (sp:=sp) (by rw[h.bS.hears];exact dx);rcases ν w (eJ gs.size o (λj=>c.tok j s)) o (h.mem.fit (.inl i)) (h.mem.l4 i) b2 (h.mem.fH s o Α) (λgG lr hv=>by
   obtain⟨dG,Γ,Θ,bO⟩:=h.bh.uF i s gG lr hv;rw[Α] at Γ;cases Γ;exact⟨Θ,bO⟩) ⟨gs.size,λj=>c.tok j s,i,h.bh.fS s o Α,a4,rfl,λk L g e=>h.bh.dj i s k L g o Α e⟩ with hgo|⟨hw,cT,μ⟩
 ·cases μ:stepG P (i==0) g w with
  | go g' w' es=>
   rw[μ] at hgo;obtain⟨fh,tb,dx,hQ⟩:=hgo;have KV:fv (λb _=>ep s o.toSpec b) (λ_=>False) w w':=by rw[b2];exact tb
   rcases hQ with⟨bD,bm⟩|⟨o',t',td,bD,RJ,bm⟩
   ·refine hP.go (c':={c with view:=upd c.view i (upd (c.view i) s (some (eJ gs.size o (λj=>c.tok j s),o))),T:=upd c.T i (f (i==0,g',{c.x i with view:=upd (c.view i) s (some (eJ gs.size o (λj=>c.tok j s),o))}))}) Ο μ ?_ _ rfl;refine h.laid Ο ((h.mem.atom h.hold rfl Α rfl KV bD).yQ (BJ Α).symm) h.hold (KT (k:=0) tb dx) (h.bh.look Α) h.eA
     (h.ea.app a4 ofEvents_g (λ_=>KU dx) (λ_ _ _ x=>x) (λ_ _ _ _ x=>x))
     (h.gd.app h.bS.low (norel dx) (λj b v hv=>.inl ⟨v,hv⟩) (λs o' μ=>⟨o',μ,rfl⟩) (λj s k mu g e=>⟨k,mu,g,e⟩))
     ⟨g',?_,.inl rfl⟩ (λj δ=>⟨by simp[c0.x,upd_ne _ _ δ],upd_ne _ _ δ⟩) (.inr λj s o _ a b=>⟨o,a,b⟩)
    have e:({c with view:=upd c.view i (upd (c.view i) s (some (eJ gs.size o (λj=>c.tok j s),o))),T:=upd c.T i (f (i==0,g',{c.x i with view:=upd (c.view i) s (some (eJ gs.size o (λj=>c.tok j s),o))}))}:c0).x i={c.x i with view:=upd (c.view i) s (some (eJ gs.size o (λj=>c.tok j s),o))}:=by
     simp[c0.x,upd_same]
    rw[e];show jw P Q (upd c.T i (f (i==0,g',{c.x i with view:=upd (c.view i) s (some (eJ gs.size o (λj=>c.tok j s),o))})) i) _ _ _;rw[upd_same];exact bm
   ·have RK:=Kd (N:=gs.size) (τ:=λj=>c.tok j s) a4 rfl td
    have yR:=bm _ RK;obtain⟨wy,By,Fs⟩:=KA td;obtain⟨RL,RN,RO⟩:=RH td;have cK:=l5.upd Α wy;have te:∀j r q p,b0 c.tok i s t' j r=.par q p .cq↔c.tok j r=.par q p .cq:=λj r q p=>by
     by_cases e:j=i/\r=s
     ·obtain⟨rfl,rfl⟩:=e;rw[e8];exact⟨λx=>absurd x (RL q p),λx=>absurd x (RN q p)⟩
     ·rw[e0 _ e]
    have Fz:∀j r k L g,c.tok j r=.ch k (.dj L) g->∃g',b0 c.tok i s t' j r=.ch k (.dj L) g':=λj r k L g δ=>by
     by_cases e:j=i/\r=s
     ·obtain⟨rfl,rfl⟩:=e;rw[e8];exact RO k L g δ
     ·rw[e0 _ e];exact⟨g,δ⟩
    have keepW:o'=o->∀j r q,j≠i->c.O r=some q->jZ q (c.tok j r)->∃iT,upd c.O s (some o') r=some iT/\jZ iT (c.tok j r):=λjy j r q _ a b=>⟨q,by
     by_cases e:r=s
     ·subst e;subst jy;rw[Α] at a;cases a;exact upd_same _ _ _
     ·rw[upd_ne _ _ e];exact a,b⟩
    have gZ:∀r q,upd c.O s (some o') r=some q->∃ic,c.O r=some ic/\ic.toSpec=q.toSpec/\ic.L=q.L/\ic.aj=q.aj:=λr q Χ=>by
     by_cases e:r=s
     ·subst e;rw[upd_same] at Χ;cases Χ;exact⟨o,Α,wy.symm,By.symm,Fs.symm⟩
     ·rw[upd_ne _ _ e] at Χ;exact⟨q,Χ,rfl,rfl,rfl⟩
    let de:aW:={c.x i with tok:=upd (c.tok i) s t',view:=upd (c.view i) s (some (eJ gs.size o' (upd (λj=>c.tok j s) i t'),o'))};refine hP.go (c':={c with tok:=b0 c.tok i s t',view:=upd c.view i (upd (c.view i) s (some (eJ gs.size o' (upd (λj=>c.tok j s) i t'),o'))),O:=upd c.O s (some o'),T:=upd c.T i (f (i==0,g',de))}) Ο μ ?_ _ rfl;refine h.laid Ο (h.mem.atom h.hold rfl Α wy KV bD) (h.hold.mQ cK) ((KT (k:=0) tb dx).Rq cK λj r δ e=>?_) (h.bh.act Α rfl td) ⟨λr q m Χ hm bA ia=>?_,λr q Χ bA=>?_⟩
     (h.ea.app a4 ofEvents_g (λ_=>KU dx) (λs q p ⟨j,x⟩=>⟨j,(te j s q p).1 x⟩) (λj s q p x=>(te j s q p).1 x))
     (h.gd.app h.bS.low (norel dx) (λj b v hv=>.inl ⟨v,hv⟩) (λr q Χ=>let ⟨ic,a,b,_⟩:=gZ r q Χ;⟨ic,a,by rw[b]⟩) (λj r k mu g e=>?_))
     ⟨g',?_,.inl rfl⟩ (λj δ=>⟨by simp[c0.x,upd_ne _ _ δ,rM _ δ],upd_ne _ _ δ⟩) (RJ.imp (λhm=>⟨hm,fh⟩) λjy=>keepW jy)
    ·by_cases aH:j=i/\r=s
     ·obtain⟨rfl,rfl⟩:=aH;exact Fy e
     ·apply δ;show b0 c.tok i s t' j r=.nil;rw[e0 _ aH];exact e
    ·obtain⟨ic,a,b,Ψ,_⟩:=gZ r q Χ;have:=h.eA.l7 r ic m a (by rw[b];exact hm) (λj q p x=>bA j q p ((te j r q p).2 x)) (λj k L g x=>let ⟨g',y⟩:=Fz j r k L g x;ia j k L g' y);rw[b,Ψ] at this;exact this
    ·obtain⟨ic,a,b,_,Ψ⟩:=gZ r q Χ;have:=h.eA.l8 r ic a (λj q p x=>bA j q p ((te j r q p).2 x));rw[b,Ψ] at this;exact this
    ·by_cases aH:j=i/\r=s
     ·obtain⟨rfl,rfl⟩:=aH;obtain⟨ff,Ξ,y,_⟩:=(KB td).2.1 k mu g e;exact⟨k,ff,Ξ,by show b0 c.tok j r t' j r=_;rw[e8];exact y⟩
     ·exact⟨k,mu,g,by show b0 c.tok i s t' j r=_;rw[e0 _ aH];exact e⟩
    ·have e:({c with tok:=b0 c.tok i s t',view:=upd c.view i (upd (c.view i) s (some (eJ gs.size o' (upd (λj=>c.tok j s) i t'),o'))),O:=upd c.O s (some o'),T:=upd c.T i (f (i==0,g',de))}:c0).x i=de:=by
      simp[de,c0.x,upd_same,uR]
     rw[e];show jw P Q (upd c.T i (f (i==0,g',de)) i) _ _ _;rw[upd_same];exact yR
  | _=>rw[μ] at hgo;exact hgo.elim
 ·refine λsl=>⟨c,_,w,_,runT_crowd_go Ο μ,?_,.inr (.inr ⟨η,rfl,?_⟩)⟩
  ·rw[KQ,Array.append_empty];have:=h.laid (c':=c) (u:=#[]) Ο (g':={g with status:=.blocked}) h.mem h.hold (by rw[Array.append_empty];exact h.bS) h.bh h.eA (by rw[Array.append_empty];exact h.ea) (by rw[Array.append_empty];exact h.gd) ⟨g,Η,.inr ⟨ι,rfl,s,o,Α,hw,cT⟩⟩ (λj δ=>⟨rfl,rfl⟩) (.inr λj s o _ a b=>⟨o,a,b⟩)
   rwa [Array.append_empty] at this
  ·have e:gs.map (woken P g {g with status:=.blocked} w)=gs:=by
    have:woken P g {g with status:=.blocked} w=id:=by
     funext b;simp[woken]
    rw[this];simp
   rw[e];exact RI Ο ι.1 η
end
end Go.TL
