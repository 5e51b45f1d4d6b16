import Derived.Test.YtlabjopijpkiaaaGreatUAC
set_option maxHeartbeats 16000000
set_option maxRecDepth 20000
set_option linter.unusedSectionVars false
set_option linter.unusedSimpArgs false
set_option linter.unusedVariables false
namespace Go.TL
open Go.Conc
open Go.ConcM (OsLater)
open Go.ConcN (sumTo upd sumTo_upd upd_ne upd_same sumTo_congr le_sumTo)
open Go.ConcR (mk)
def mz (O O':Nat->Option aP):Prop:=(∀s o',O' s=some o'->∃o,O s=some o/\o.toSpec=o'.toSpec)/\∀s o,O s=some o->∃o',O' s=some o'/\o.toSpec=o'.toSpec
theorem mz.upd {O:Nat->Option aP} {s:Nat} {o o':aP} (ν:O s=some o) (h:o'.toSpec=o.toSpec):mz O (Go.ConcN.upd O s (some o')):=by
 refine⟨λr q Ψ=>?_,λr q Ψ=>?_⟩
 ·by_cases e:r=s
  ·subst e;rw[upd_same] at Ψ;cases Ψ;exact⟨o,ν,h.symm⟩
  ·rw[upd_ne _ _ e] at Ψ;exact⟨q,Ψ,rfl⟩
 ·by_cases e:r=s
  ·subst e;rw[ν] at Ψ;cases Ψ;exact⟨o',upd_same ..,h.symm⟩
  ·exact⟨q,by rw[upd_ne _ _ e];exact Ψ,rfl⟩
section
variable {H:cI->χ} {aK:Nat->Nat->Option (Array Value×TypeId)} {tok eA:Nat->Nat->Tok} {O O':Nat->Option aP} {bz:Nat->Nat} {deaf Mi:Nat->Nat} {N hp:Nat} {t:Trace} {bs w w':World}
theorem Cw {h:cI} {k:Nat} (cO:∀s o',O' s=some o'->∃o,O s=some o/\o.toSpec=o'.toSpec) (Ν:∀i s,eA i s≠.nil->tok i s≠.nil) (ς:jE tok O t h k):jE eA O' t h k:=by
 cases h with
 | inl i=>exact ς
 | inr b=>
  refine ς.imp id λh s o ν hb i hi=>?_;obtain⟨lN,I,U⟩:=cO s o ν;exact h s lN I (by rw[U];exact hb) i (Ν i s hi)
theorem iF.T4 (h:iF H aK tok O bz deaf N t) (cO:mz O O') (Ν:∀i s,eA i s≠.nil->tok i s≠.nil):iF H aK eA O' bz deaf N t:=
 ⟨h.race,h.low,h.norel,λk=>(h.perms k).mono λ_=>Cw cO.1 Ν,h.oR,λs o b ν hb=>let ⟨lN,I,U⟩:=cO.1 s o ν;h.cont s lN b I (by rw[U];exact hb),h.hears⟩
theorem ie.nd (h:ie H aK O hp) (cO:mz O O'):ie H aK O' hp:=
 ⟨h.apart,h.high,h.n1,h.fresh,λs o b ν hb=>let ⟨lN,I,U⟩:=cO.1 s o ν;h.kC s lN b I (by rw[U];exact hb),
  λs bp o o' b ν iY hb dF=>let ⟨lN,I,U⟩:=cO.1 s o ν;let ⟨dz,ξ,Κ⟩:=cO.1 bp o' iY;h.kU s bp lN dz b I ξ (by rw[U];exact hb) (by rw[Κ];exact dF),
  λs o m ν hm=>let ⟨lN,I,U⟩:=cO.1 s o ν;h.pU s lN m I (by rw[U];exact hm),
  λb hb=>h.ez b λs o ν hi=>let ⟨o',I,U⟩:=cO.2 s o ν;hb s o' I (by rw[<-U];exact hi)⟩
theorem iF.ext (h:iF H aK tok O bz deaf N t) (ω:ie H aK O hp) (i:Nat) {u:Trace} (hu:∀op∈u,op.g=i) (υ:∀op∈u,op.act.low N) (κ:∀op∈u,∀a,op.act≠.mark (.release a))
  (Ν:∀op∈u,∀b,op.act.touch?=some b->∃s o mA off,O s=some o/\ep s o.toSpec mA/\b.loc=.cell ⟨mA,off,none⟩/\(b.kind=.atomic\/(b.kind=.said/\i=bz s)))
  (hd:∀j,Deaf (t++u) j=Mi j):iF H aK tok O bz Mi N (t++u):=by
 refine⟨λsaid=>noRace_append (h.race said) hu λk a μ op Ξ b hb ε=>?_,λop Ξ=>(Array.mem_append.1 Ξ).elim (h.low op) (υ op),λop Ξ=>(Array.mem_append.1 Ξ).elim (h.norel op) (κ op),λk=>?_,λj b v hv k a μ fj=>?_,λs o b ν hb k a μ fj=>?_,hd⟩
 ·obtain⟨s,o,mA,off,I,U,ξ,Κ⟩:=Ν op Ξ b hb;obtain⟨c1,_,_,c4⟩:=ε;have fj:nV a.loc mA:=by rw[c1,ξ];rfl
  rcases h.cont s o mA I U k a μ fj with aE|⟨aE,bd⟩
  ·exfalso;rcases c4 with x|x|⟨_,x,_⟩
   ·rw[aE] at x;cases x
   ·rcases Κ with y|⟨y,_⟩<;>(rw[y] at x;cases x)
   ·rw[aE] at x;cases x
  ·rcases Κ with y|⟨y,rfl⟩
   ·exfalso;rcases c4 with x|x|⟨_,_,x⟩
    ·rw[aE] at x;cases x
    ·rw[y] at x;cases x
    ·rw[y] at x;cases x
   ·obtain⟨z,Θ,_⟩:=touch_of μ;have:=knows_own Θ;have e:z.g=bz s:=by simpa[Trace.g?,Θ] using bd
    rwa [e] at this
 ·have:dk (t++u) (jE tok O (t++u) k) (H k):=(h.perms k).others (λx γ=>GG _ γ) λop Ξ a μ=>by
   obtain⟨s,o,mA,off,I,U,ξ,Κ⟩:=Ν op Ξ a μ;have off:=(ω.kC s o mA I U).2.1 k;refine⟨λb o' v p υ ε=>?_,λb υ hb=>?_⟩
   ·rw[ξ] at υ;cases υ;exact absurd ⟨_,ε⟩ (off.1 _)
   ·rw[ξ] at υ;cases υ
  exact this
 ·rcases nf μ with eo|⟨_,op,Ξ,_,ig⟩
  ·exact h.oR j b v hv k a eo fj
  ·obtain⟨s,o,mA,off,I,U,ξ,Κ⟩:=Ν op Ξ a ig;rw[ξ] at fj;simp only[nV] at fj;subst fj;rw[(ω.kC s o mA I U).2.2 j] at hv;cases hv
 ·rcases nf μ with eo|⟨_,op,Ξ,ς,ig⟩
  ·rcases h.cont s o b ν hb k a eo fj with x|⟨x,Ρ⟩
   ·exact .inl x
   ·obtain⟨z,Θ,_⟩:=touch_of eo;exact .inr ⟨x,by rw[g?_old (lt_size_of_getElem? Θ)];exact Ρ⟩
  ·obtain⟨bp,o',mA,off,I,U,ξ,Κ⟩:=Ν op Ξ a ig;rw[ξ] at fj;simp only[nV] at fj;subst fj;have es:=ω.kU s bp o o' mA ν I hb U;subst es;rcases Κ with x|⟨x,y⟩
   ·exact .inl x
   ·exact .inr ⟨x,by simp[Trace.g?,ς,hu op Ξ,y]⟩
theorem dk.sub {jB:Nat->Prop} {G G':χ} (h:dk t jB G) (ν:Sub G' G):dk t jB G':=
 ⟨λb o v p ε i a μ υ hw=>let ⟨fF,ai,ψ⟩:=ν.aL b o v p ε;h.aL b o v fF ai i a μ υ (hw.imp ψ id),λb ⟨x,γ⟩ i a μ υ=>h.obj b ⟨x,ν.obj b x γ⟩ i a μ υ⟩
theorem dk.join {jB:Nat->Prop} {G E:χ} (h:dk t jB G) (k:dk t jB E):dk t jB (Go.TL.join G E):=by
 refine⟨λb o v p ε i a μ υ hw=>?_,λb hb i a μ υ=>?_⟩
 ·simp only[Go.TL.join] at ε;cases Ρ:G.aL b o with
  | none=>rw[Ρ] at ε;exact k.aL b o v p ε i a μ υ hw
  | some y=>rw[Ρ] at ε;cases ε;exact h.aL b o v p Ρ i a μ υ hw
 ·obtain⟨x,γ⟩:=hb;simp only[Go.TL.join] at γ;cases Ρ:G.obj b with
  | none=>rw[Ρ] at γ;exact k.obj b ⟨x,γ⟩ i a μ υ
  | some y=>exact h.obj b ⟨y,Ρ⟩ i a μ υ
theorem dk.empty {jB:Nat->Prop}:dk t jB χ.empty:=⟨λ_ _ _ _ h=>(by cases h),λ_ ⟨_,h⟩=>(by cases h)⟩
theorem dk.release {i b:Nat} {G:χ} {y:MemOp} (h:dk t (Knows t i) G) (Ρ:y.g=i) (Ο:y.act=.mark (.releaseMerge ⟨b,0,none⟩)) (hd:Deaf t i=0):dk (t++#[y]) (jE tok O (t++#[y]) (.inr b)) G:=by
 have jG:(t++#[y])[t.size]?=some y:=θ
 have zu:(t++#[y]).heard t.size:=⟨i,by simp[Trace.g?,Ρ],by rw[deaf_old (Nat.le_refl _)];exact hd⟩
 have key:∀k,Knows t i k->jE tok O (t++#[y]) (.inr b) k:=λk ς=>.inl ⟨t.size,y,jG,Ο,zu,.inr (ς.hb_new (Nat.le_refl _) jG Ρ)⟩
 have nt:∀k a,touchAt (t++#[y]) k=some a->touchAt t k=some a:=λk a μ=>by
  rcases nf μ with eo|⟨_,op,Ξ,_,ig⟩
  ·exact eo
  ·simp at Ξ;subst Ξ;rw[Ο] at ig;simp[MemAct.touch?] at ig
 exact⟨λoT o v p ε k a μ υ hw=>key k (h.aL oT o v p ε k a (nt k a μ) υ hw),λoT hb k a μ υ=>key k (h.obj oT hb k a (nt k a μ) υ)⟩
theorem dk.acquire {i b s:Nat} {o:aP} {E:χ} {y:MemOp} (h:dk t (jE tok O t (.inr b)) E) (eh:∀op∈t,∀a,op.act≠.mark (.release a)) (ν:O s=some o) (hb:ep s o.toSpec b) (hi:tok i s≠.nil)
  (Ρ:y.g=i) (Ο:y.act=.mark (.acquire ⟨b,0,none⟩)) (hd:Deaf t i=0):dk (t++#[y]) (Knows (t++#[y]) i) E:=by
 have jG:(t++#[y])[t.size]?=some y:=θ
 have zu:(t++#[y]).heard t.size:=⟨i,by simp[Trace.g?,Ρ],by rw[deaf_old (Nat.le_refl _)];exact hd⟩
 have key:∀k,jE tok O t (.inr b) k->Knows (t++#[y]) i k:=λk ς=>by
  rcases ς with⟨p,op,I,U,ξ,Κ⟩|ς
  ·have ψ:=lt_size_of_getElem? I;refine⟨t.size,y,jG,Ρ,.inr ((Κ.app #[y]).hb (.single (.inr ⟨.marked (a:=⟨b,0,none⟩) ψ (.inr ?_) ?_ ?_,(heard_old ψ).2 ξ,zu⟩)))⟩
   ·rw[act?_old ψ,act?_of I,U]
   ·rw[act?_of jG,Ο]
   ·intro ae ij ej jH;rw[act?_old ej] at jH;obtain⟨sm,jI,ig⟩:=Option.map_eq_some_iff.1 jH;exact eh sm (mem_of_getElem? jI) _ ig
  ·exact(ς s o ν hb i hi).app _
 have nt:∀k a,touchAt (t++#[y]) k=some a->touchAt t k=some a:=λk a μ=>by
  rcases nf μ with eo|⟨_,op,Ξ,_,ig⟩
  ·exact eo
  ·simp at Ξ;subst Ξ;rw[Ο] at ig;simp[MemAct.touch?] at ig
 exact⟨λoT o v p ε k a μ υ hw=>key k (h.aL oT o v p ε k a (nt k a μ) υ hw),λoT hb k a μ υ=>key k (h.obj oT hb k a (nt k a μ) υ)⟩
theorem Knows.spawn {i j k:Nat} {y z:MemOp} (h:Knows t i k) (Mj:y.g=i) (Ο:y.act=.go j) (GP:z.g=j) (Θ:z.act=.start) (hd:Deaf t i=0) (T5:Deaf t j=0):Knows (t++#[y,z]) j k:=by
 have vv:(t++#[y,z])[t.size]?=some y:=θ
 have kW:(t++#[y,z])[t.size+1]?=some z:=θ
 have d1:(t++#[y,z]).heard t.size:=⟨i,by simp[Trace.g?,Mj],by rw[deaf_old (Nat.le_refl _)];exact hd⟩
 have d2:(t++#[y,z]).heard (t.size+1):=⟨j,by simp[Trace.g?,GP],by
  rw[deaf_succ vv];have:deafStep j ((t++#[y,z]).deaf j t.size) y=(t++#[y,z]).deaf j t.size:=by simp[deafStep,Ο]
  rw[this,deaf_old (Nat.le_refl _)];exact T5⟩
 have Δ:=h.hb_new (u:=#[y,z]) (Nat.le_refl _) vv Mj
 have Γ:HappensBefore (t++#[y,z]) t.size (t.size+1):=.single (.inr ⟨.spawn (child:=j) (by rw[act?_of vv,Ο]) (by rw[act?_of kW,Θ]) (by simp[Trace.g?,GP]),d1,d2⟩);exact⟨t.size+1,z,kW,GP,.inr (Δ.trans Γ)⟩
theorem Sub.refl (G:χ):Sub G G:=⟨λ_ _ _ p h=>⟨p,h,id⟩,λ_ _ h=>h,λ_ _ h=>h⟩
theorem Sub.owns {G G':χ} (h:Sub G' G) {b o:Nat} (x:G'.owns b o):G.owns b o:=let ⟨v,hv⟩:=x;let ⟨p,ai,ψ⟩:=h.aL b o v true hv;⟨v,by rw[ai,ψ rfl]⟩
theorem Sub.has {G G':χ} (h:Sub G' G) {b o:Nat} (x:G'.has b o):G.has b o:=let ⟨v,hv⟩:=x;let ⟨p,ai,_⟩:=h.aL b o v.1 v.2 hv;⟨_,ai⟩
theorem Sub.e9 {G G':χ} (h:Sub G' G) {b:Nat} (x:G'.e9 b):G.e9 b:=let ⟨v,hv⟩:=x;⟨v,h.obj b v hv⟩
theorem Sub.off {G G':χ} (h:Sub G' G) {b:Nat} (x:G.off b):G'.off b:=⟨λo Α=>x.1 o (h.has Α),λΑ=>x.2 (h.e9 Α)⟩
theorem Sub.fits {G G':χ} (h:Sub G' G) (x:Fits G w):Fits G' w:=⟨λb o v p ε=>let ⟨fF,ai,_⟩:=h.aL b o v p ε;x.aL b o v fF ai,λb t n κ=>x.row b t n (h.row b _ κ),λb v hv=>x.obj b v (h.obj b v hv)⟩
theorem Apart.symm {A B:χ} (h:Apart A B):Apart B A:=⟨h.qU,h.aL,λb hb μ=>h.obj b μ hb⟩
theorem Apart.sub {A B Mk B':χ} (h:Apart A B) (μ:Sub Mk A) (hb:Sub B' B):Apart Mk B':=
 ⟨λb o x y=>h.aL b o (μ.owns x) (hb.has y),λb o x y=>h.qU b o (hb.owns x) (μ.has y),λb x y=>h.obj b (μ.e9 x) (hb.e9 y)⟩
theorem Apart.tK (A:χ):Apart A χ.empty:=⟨λ_ _ _ ⟨_,h⟩=>(by cases h),λ_ _ ⟨_,h⟩=>(by cases h),λ_ _ ⟨_,h⟩=>(by cases h)⟩
theorem GQ {G E:χ} {b o:Nat} (h:(join G E).owns b o):G.owns b o\/E.owns b o:=by
 obtain⟨v,hv⟩:=h;simp only[join] at hv;cases Ρ:G.aL b o with
 | none=>rw[Ρ] at hv;exact .inr ⟨v,hv⟩
 | some y=>rw[Ρ] at hv;cases hv;exact .inl ⟨v,Ρ⟩
theorem Ml {G E:χ} {b o:Nat} (h:(join G E).has b o):G.has b o\/E.has b o:=by
 obtain⟨v,hv⟩:=h;simp only[join] at hv;cases Ρ:G.aL b o with
 | none=>rw[Ρ] at hv;exact .inr ⟨v,hv⟩
 | some y=>exact .inl ⟨y,Ρ⟩
theorem Cx {G E:χ} {b:Nat} (h:(join G E).e9 b):G.e9 b\/E.e9 b:=by
 obtain⟨v,hv⟩:=h;simp only[join] at hv;cases Ρ:G.obj b with
 | none=>rw[Ρ] at hv;exact .inr ⟨v,hv⟩
 | some y=>exact .inl ⟨y,Ρ⟩
theorem T6 {G E:χ} {b:Nat} (h:G.off b) (k:E.off b):(join G E).off b:=⟨λo Α=>(Ml Α).elim (h.1 o) (k.1 o),λΑ=>(Cx Α).elim h.2 k.2⟩
theorem zv {G E:χ} (h:Fits G w) (k:Fits E w):Fits (join G E) w:=by
 refine⟨λb o v p ε=>?_,λb t n κ=>?_,λb v hv=>?_⟩
 ·simp only[join] at ε;cases Ρ:G.aL b o with
  | none=>rw[Ρ] at ε;exact k.aL b o v p ε
  | some y=>rw[Ρ] at ε;cases ε;exact h.aL b o v p Ρ
 ·simp only[join] at κ;cases Ρ:G.row b with
  | none=>rw[Ρ] at κ;exact k.row b t n κ
  | some y=>rw[Ρ] at κ;cases κ;exact h.row b t n Ρ
 ·simp only[join] at hv;cases Ρ:G.obj b with
  | none=>rw[Ρ] at hv;exact k.obj b v hv
  | some y=>rw[Ρ] at hv;cases hv;exact h.obj b v Ρ
theorem Apart.q4 {A B C:χ} (h:Apart A C) (k:Apart B C):Apart (join A B) C:=
 ⟨λb o x y=>(GQ x).elim (λz=>h.aL b o z y) (λz=>k.aL b o z y),λb o x y=>(Ml y).elim (λz=>h.qU b o x z) (λz=>k.qU b o x z),λb x y=>(Cx x).elim (λz=>h.obj b z y) (λz=>k.obj b z y)⟩
theorem vw (w:World):Fits χ.empty w:=⟨λ_ _ _ _ h=>(by cases h),λ_ _ _ h=>(by cases h),λ_ _ h=>(by cases h)⟩
theorem ie.two (h:ie H aK O hp) {a b:cI} (gU:a≠b) {A B:χ} (bW:Sub A (join (H a) (H b))) (fl:Sub B (join (H a) (H b))) (Mm:Apart A B)
  (cO:mz O O') (Mn:∀x,b=.inr x\/a=.inr x->∃s o,O s=some o/\ep s o.toSpec x):ie (bO (bO H a A) b B) aK O' hp:=by
 have cU:=h.nd cO
 have vx:bO (bO H a A) b B a=A:=by rw[bP _ _ gU,dC]
 have vy:bO (bO H a A) b B b=B:=dC _ _ _
 have q5:∀k,k≠a->k≠b->bO (bO H a A) b B k=H k:=λk I U=>by rw[bP _ _ U,bP _ _ I]
 have Cy:∀k,k≠a->k≠b->Apart (join (H a) (H b)) (H k):=λk I U=>(h.apart a k (Ne.symm I)).q4 (h.apart b k (Ne.symm U))
 have Mo:∀x,(∀k,(H k).off x)->(join (H a) (H b)).off x:=λx γ=>T6 (γ a) (γ b)
 have GR:∀{p:cI->Prop},p a->p b->(∀k,k≠a->k≠b->p k)->∀k,p k:=λtL tM n2 k=>by
  by_cases I:k=a
  ·rw[I];exact tL
  ·by_cases U:k=b
   ·rw[U];exact tM
   ·exact n2 k I U
 have Mp:∀x,(∀k,(H k).off x)->∀k,(bO (bO H a A) b B k).off x:=λx γ=>GR (by rw[vx];exact bW.off (Mo x γ)) (by rw[vy];exact fl.off (Mo x γ)) (λk I U=>by rw[q5 k I U];exact γ k);refine⟨λp q zw=>?_,?_,?_,λi x v hv=>?_,λs o x ν γ=>?_,cU.kU,cU.pU,λx γ=>?_⟩
 ·by_cases tL:p=a
  ·subst tL;by_cases xm:q=b
   ·subst xm;rw[vx,vy];exact Mm
   ·rw[vx,q5 q (Ne.symm zw) xm];exact(Cy q (Ne.symm zw) xm).sub bW (Sub.refl _)
  ·by_cases tM:p=b
   ·subst tM;by_cases xn:q=a
    ·subst xn;rw[vx,vy];exact Mm.symm
    ·rw[vy,q5 q xn (Ne.symm zw)];exact(Cy q xn (Ne.symm zw)).sub fl (Sub.refl _)
   ·by_cases xn:q=a
    ·subst xn;rw[vx,q5 p tL tM];exact((Cy p tL tM).sub bW (Sub.refl _)).symm
    ·by_cases xm:q=b
     ·subst xm;rw[vy,q5 p tL tM];exact((Cy p tL tM).sub fl (Sub.refl _)).symm
     ·rw[q5 p tL tM,q5 q xn xm];exact h.apart p q zw
 ·exact GR (λx o Α=>by rw[vx] at Α;exact(GQ (bW.owns Α)).elim (h.high _ _ _) (h.high _ _ _)) (λx o Α=>by rw[vy] at Α;exact(GQ (fl.owns Α)).elim (h.high _ _ _) (h.high _ _ _)) (λk I U x o Α=>by rw[q5 k I U] at Α;exact h.high _ _ _ Α)
 ·exact GR (λx Α=>by rw[vx] at Α;exact(Cx (bW.e9 Α)).elim (h.n1 _ _) (h.n1 _ _)) (λx Α=>by rw[vy] at Α;exact(Cx (fl.e9 Α)).elim (h.n1 _ _) (h.n1 _ _)) (λk I U x Α=>by rw[q5 k I U] at Α;exact h.n1 _ _ Α)
 ·obtain⟨a1,bk,cz⟩:=h.fresh i x v hv;exact⟨a1,Mp x bk,cz⟩
 ·obtain⟨a1,bk,cz⟩:=cU.kC s o x ν γ;exact⟨a1,Mp x bk,cz⟩
 ·have hP:(.inr x:cI)≠b:=λe=>by
   obtain⟨s,o,ν,hi⟩:=Mn x (.inl e.symm);obtain⟨o',I,U⟩:=cO.2 s o ν;exact γ s o' I (by rw[<-U];exact hi)
  have gb:(.inr x:cI)≠a:=λe=>by
   obtain⟨s,o,ν,hi⟩:=Mn x (.inr e.symm);obtain⟨o',I,U⟩:=cO.2 s o ν;exact γ s o' I (by rw[<-U];exact hi)
  rw[q5 _ gb hP];exact cU.ez x γ
theorem Sub.q4 {G E A:χ} (h:Sub A G):Sub A (join G E):=
 ⟨λb o v p ε=>let ⟨fF,ai,ψ⟩:=h.aL b o v p ε;⟨fF,by simp[join,ai],ψ⟩,λb x γ=>by simp[join,h.row b x γ],λb x γ=>by simp[join,h.obj b x γ]⟩
theorem g7.two (h:g7 H aK O bs w) {a b:cI} {A B:χ} (bW:Fits A w) (fl:Fits B w) (cO:∀s o',O' s=some o'->At s o' w):g7 (bO (bO H a A) b B) aK O' bs w:=by
 refine⟨λk=>?_,h.mx,cO,h.keep⟩;by_cases U:k=b
 ·subst U;rw[dC];exact fl
 ·rw[bP _ _ U];by_cases I:k=a
  ·subst I;rw[dC];exact bW
  ·rw[bP _ _ I];exact h.fit k
theorem g7.atom (h:g7 H aK O bs w) (ω:ie H aK O hp) (ai:bs.heap.size=hp) {s:Nat} {o o':aP} (ν:O s=some o) (b2:o'.toSpec=o.toSpec) (ς:fD (λb _=>ep s o.toSpec b) (λ_=>False) w w') (μ:At s o' w') :
  g7 H aK (Go.ConcN.upd O s (some o')) bs w':=by
 refine⟨λk=>(h.fit k).keeps ς (λb dz hb=>((ω.kC s o b ν hb).2.1 k).1 dz) (λb hb=>hb.elim),λj b c t hb=>?_,λr q Ψ=>?_,?_⟩
 ·obtain⟨c',I,U,ξ⟩:=ς.cells b c t _ (h.mx j b c t hb);have:c'=c:=by
   apply Array.ext_getElem?;intro dz;exact ξ dz λdF=>by rw[(ω.kC s o b ν dF).2.2 j] at hb;cases hb
  rw[I,this]
 ·by_cases e:r=s
  ·subst e;rw[upd_same] at Ψ;cases Ψ;exact μ
  ·rw[upd_ne _ _ e] at Ψ;have zn:∀b c t,ep r q.toSpec b->w.heap[b]?=some (.cells c t (0,0))->w'.heap[b]?=some (.cells c t (0,0)):=λb c t hb ε=>by
    obtain⟨c',I,U,ξ⟩:=ς.cells b c t _ ε;have:c'=c:=by
     apply Array.ext_getElem?;intro dz;exact ξ dz λdF=>e (ω.kU r s q o b Ψ ν hb dF)
    rw[I,this]
   obtain⟨⟨ty,I⟩,U⟩:=h.fQ r q Ψ;exact⟨⟨ty,zn _ _ _ (.inl rfl) I⟩,λm hm=>let ⟨jC,ξ⟩:=U m hm;⟨jC,zn _ _ _ (.inr hm) ξ⟩⟩
 ·have eJ:=h.keep;refine⟨Nat.le_trans eJ.size ς.size,λb c t dQ hb=>?_,λb x hb γ _=>ς.nd b x (eJ.nd b x hb γ id) γ id,eJ.os.trans ς.os,ς.output.trans eJ.output,ς.tape.trans eJ.tape⟩;obtain⟨c1,I,U,ξ⟩:=eJ.cells b c t dQ hb;obtain⟨c2,Κ,aE,bd⟩:=ς.cells b c1 t dQ I;refine⟨c2,Κ,by rw[aE,U],λdz _=>?_⟩;rw[bd dz λγ=>?_,ξ dz id];have:=(ω.kC s o b ν γ).1;have:=fE hb;omega
end
structure xo (H:cI->χ) (tok:Nat->Nat->Tok) (O:Nat->Option aP):Prop where
 pV:∀s o m,O s=some o->o.aW=some m->(∀i q p,tok i s≠.par q p .bB)->(∀i k L g,tok i s≠.ch k (.dh L) g)->o.aN o.L (H (.inr m))
 mB:∀s o,O s=some o->(∀i q p,tok i s≠.par q p .bB)->lO o.D o.ah (H (.inr s))
structure vz (n:Nat) (tok:Nat->Nat->Tok) (rel:Nat->Bool) (bz home dx:Nat->Nat) (t:Trace):Prop where
 er:∀k g,t.g? k=some g->g<n
 c1:∀i,i≠0->rel i=true->∃op,t[dx i]?=some op/\op.g=i/\op.act=.mark (.releaseMerge ⟨home i,0,none⟩)/\t.heard (dx i)/\∀k,t.g? k=some i->t.counts k->Before t k (dx i)
 c2:∀i,i≠0->rel i=true->(∃q p,tok (bz (home i)) (home i)=.par q p .bB)->Knows t (bz (home i)) (dx i)
 c3:∀i,i≠0->rel i=true->bz (home i)≠0->rel (bz (home i))=true->Before t (dx i) (dx (bz (home i)))
structure xp (aK:Nat->Nat->Option (Array Value×TypeId)) (tok:Nat->Nat->Tok) (O:Nat->Option aP) (rel:Nat->Bool) (dx:Nat->Nat) (t:Trace):Prop where
 jb:∀s o m,O s=some o->o.aW=some m->∀p op,t[p]?=some op->op.act=.mark (.releaseMerge ⟨m,0,none⟩)->(∃k mu g,tok op.g s=.ch k mu g)/\(rel op.g=true->Before t p (dx op.g))
 vA:∀i b v,aK i b=some v->∀op∈t,op.act≠.mark (.releaseMerge ⟨b,0,none⟩)
def Rec (P:Program) (Q:Value->Prop) (c:c9) (i:Nat) (g:Goroutine):Prop:=
 ∃cV,jD P Q (c.T i) (i==0) cV (c.x i)/\(g=cV\/(iE cV/\g={cV with status:=.blocked}/\∃s o,c.O s=some o/\j5 o (c.tok i s)/\∀bp,bp≠s->nk (c.tok i bp)))
structure Inv (P:Program) (Q:Value->Prop) (bs:World) (c:c9) (gs:Array Goroutine) (w:World) (t:Trace):Prop where
 pos:0<gs.size
 mem:g7 c.H c.aK c.O bs w
 hold:ie c.H c.aK c.O bs.heap.size
 bU:iF c.H c.aK c.tok c.O c.bz c.deaf w.heap.size t
 bj:eQ gs.size c.tok c.spec c.view c.rel c.O c.bz c.home
 ez:xo c.H c.tok c.O
 ec:vz gs.size c.tok c.rel c.bz c.home c.dx t
 gq:xp c.aK c.tok c.O c.rel c.dx t
 vB:∀i g,gs[i]?=some g->Rec P Q c i g
theorem zx {t u:Trace} {k:Nat} (h:k<t.size):(t++u).counts k↔t.counts k:=by
 unfold Trace.counts;rw[act?_old h,heard_old h]
theorem vz.app {n:Nat} {tok eA:Nat->Nat->Tok} {rel:Nat->Bool} {bz home dx:Nat->Nat} {t u:Trace} (h:vz n tok rel bz home dx t) {i:Nat} (hi:i<n) (hu:∀op∈u,op.g=i)
  (ε:rel i=true->∀k,t.size<=k->¬(t++u).counts k) (ς:∀s q p,(∃j,eA j s=.par q p .bB)->∃j,tok j s=.par q p .bB) (zy:∀j s q p,eA j s=.par q p .bB->tok j s=.par q p .bB):vz n eA rel bz home dx (t++u):=by
 refine⟨λk g Ρ=>?_,λj ai δ=>?_,λj ai δ bX=>?_,λj ai δ I U=>(h.c3 j ai δ I U).app u⟩
 ·obtain⟨op,Α,hr⟩:=Option.map_eq_some_iff.1 Ρ;rcases getElem?_append_cases Α with⟨_,jI⟩|⟨_,gr⟩
  ·exact h.er k g (by simp[Trace.g?,jI,hr])
  ·rw[<-hr,hu op gr];exact hi
 ·obtain⟨op,I,U,ξ,Κ,aE⟩:=h.c1 j ai δ;have ψ:=lt_size_of_getElem? I;refine⟨op,by rw[getElem?_append_old ψ];exact I,U,ξ,(heard_old ψ).2 Κ,λk Ρ oY=>?_⟩;obtain⟨sm,Α,hr⟩:=Option.map_eq_some_iff.1 Ρ;rcases getElem?_append_cases Α with⟨aB,jI⟩|⟨hle,gr⟩
  ·exact(aE k (by simp[Trace.g?,jI,hr]) ((zx aB).1 oY)).app u
  ·have e:j=i:=by rw[<-hr,hu sm gr]
   subst e;exact absurd oY (ε δ k hle)
 ·obtain⟨q,p,Ψ⟩:=bX;exact(h.c2 j ai δ ⟨q,p,zy _ _ _ _ Ψ⟩).app u
section
variable {P:Program} {Q:Value->Prop} {bs:World} {c:c9} {gs:Array Goroutine} {w:World} {t:Trace}
theorem Inv.stat (h:Inv P Q bs c gs w t) {i:Nat} {g:Goroutine} (Ρ:gs[i]?=some g):g.status=.running\/(i≠0/\g.status=.finished/\c.rel i=true/\∀s,Gone (c.tok i s))\/(g.status=.blocked/\∃s o,c.O s=some o/\j5 o (c.tok i s)/\∀bp,bp≠s->nk (c.tok i bp)):=by
 obtain⟨cV,κ,ε⟩:=h.vB i g Ρ;rcases ε with rfl|⟨_,rfl,hw⟩
 ·cases Ι:c.T i with
  | leaf=>
   rw[Ι] at κ;rcases κ.2 with⟨_,I⟩|⟨ai,I,U,ξ,_⟩
   ·exact .inl I.1.1
   ·exact .inr (.inl ⟨by rintro rfl;simp at ai,ξ,I,U⟩)
  | node f=>
   rw[Ι] at κ;rcases κ.2 with(⟨_,I⟩|⟨ai,I,U,ξ,_⟩)|I
   ·exact .inl I.1.1
   ·exact .inr (.inl ⟨by rintro rfl;simp at ai,ξ,I,U⟩)
   ·rcases I with⟨_,U,_⟩|⟨U,_⟩
    ·exact .inl U
    ·exact .inl U.1
 ·exact .inr (.inr ⟨rfl,hw⟩)
theorem T7 {t:Tok} (h:oP t):∃k m g,t=.ch k m g/\¬nk t/\(∀o,¬j5 o t)/\m≠.done/\m≠.idle:=by
 cases t with
 | nil=>exact h.elim
 | par=>exact h.elim
 | ch k m g=>
  refine⟨k,m,g,rfl,?_⟩;cases m with
  | act b=>cases b<;>first|exact h.elim|simp[nk,j5]
  | _=>first|exact h.elim|simp[nk,j5]
theorem Inv.awake (h:Inv P Q bs c gs w t):∃(i:Nat) (g:Goroutine),gs[i]?=some g/\g.status=.running:=by
 apply Classical.byContradiction;intro T8;have hY:∀i,i<gs.size->(c.rel i=true/\∀s,Gone (c.tok i s))\/∃s o,c.O s=some o/\j5 o (c.tok i s)/\∀bp,bp≠s->nk (c.tok i bp):=λi hi=>by
  have Ρ:gs[i]?=some gs[i]:=fh hi;rcases h.stat Ρ with I|⟨_,_,I⟩|⟨_,I⟩
  ·exact absurd ⟨i,_,Ρ,I⟩ T8
  ·exact .inl I
  ·exact .inr I
 have up:∀i s o n p,c.O s=some o->c.tok i s=.par n p .w3->o.cL=0->∃j bp o' iZ fb,i<j/\j<gs.size/\c.O bp=some o'/\c.tok j bp=.par iZ fb .w3/\o'.cL=0:=λi s o n p ν Ν ai=>by
  have bq:i<gs.size:=h.bj.lt (s:=s) (by rw[Ν];simp);obtain⟨j,δ,cH⟩:=TQ (h.bj.bg s o ν).2 (i:=i) bq Ν ai;have mC:q1 (c.tok j s):=cH;have oZ:∃k m g,c.tok j s=.ch k m g/\g≠.gone:=by
   cases γ:c.tok j s with
   | nil=>rw[γ] at mC;exact mC.elim
   | par=>rw[γ] at mC;exact mC.elim
   | ch k m g=>rw[γ] at mC;exact⟨k,m,g,rfl,by rintro rfl;exact mC⟩
  obtain⟨k,m,g,γ,Ρ⟩:=oZ;obtain⟨_,sn,aB⟩:=h.bj.oV j s k m g γ;have hi:=h.bj.par i s n p _ Ν;rcases hY j δ with⟨_,I⟩|⟨bp,o',iY,hw,jμ⟩
  ·have:=I s;rw[γ] at this;cases g<;>first|exact absurd rfl Ρ|exact this.elim
  ·by_cases e:bp=s
   ·subst e;rw[ν] at iY;cases iY;rw[γ] at hw;have hm:m=.q/\o.c7=0:=by cases m<;>simp_all [j5]
    obtain⟨rfl,T9⟩:=hm;have Ψ:0<a' gs.size (λa=>c.tok a bp) lI:=by
     have:=fv (λa=>c.tok a bp) lI δ;simp only[γ,lI,zb] at this;omega
    obtain⟨a,μ,hb⟩:=TN (h.bj.bg bp o ν).1 Ψ T9;obtain⟨ae,b7,g',hM,bJ,c8,fY,mD⟩:=T7 hb;have Cz:c.tok a bp=.ch ae b7 g':=hM;exfalso;rcases hY a μ with⟨_,I⟩|⟨s2,hZ,dX,iG,CA⟩
    ·have so:=I bp;rw[Cz] at so;have:g'≠.work:=by rintro rfl;exact so
     rcases h.bj.oX a bp ae b7 g' o ν Cz this with e|⟨e,_⟩
     ·exact fY e
     ·exact mD e
    ·by_cases Γ:s2=bp
     ·subst Γ;exact c8 _ iG
     ·exact bJ (CA bp (Ne.symm Γ))
   ·cases Ο:c.tok j bp with
    | nil=>rw[Ο] at hw;exact hw.elim
    | ch ae b7 g'=>exact absurd ((h.bj.oV j bp ae b7 g' Ο).2.1.symm.trans sn) e
    | par iZ fb GL=>
     rw[Ο] at hw;cases GL<;>first|exact hw.elim|exact⟨j,bp,o',iZ,fb,R,δ,iY,Ο,hw⟩
 have top:∀d i s o n p,gs.size-i=d->i<gs.size->c.O s=some o->c.tok i s=.par n p .w3->o.cL=0->False:=λd=>by
  induction d using Nat.strongRecOn with
  | _ d Β=>
   intro i s o n p hd hi ν Ν ai;obtain⟨j,bp,o',iZ,fb,I,U,ξ,Κ,aE⟩:=up i s o n p ν Ν ai;exact Β (gs.size-j) R j bp o' iZ fb rfl U ξ Κ aE
 rcases hY 0 h.pos with⟨I,_⟩|⟨s,o,ν,hw,_⟩
 ·rw[h.bj.tH] at I;cases I
 ·cases Ο:c.tok 0 s with
  | nil=>rw[Ο] at hw;exact hw.elim
  | ch k m g=>exact(h.bj.oV 0 s k m g Ο).1 rfl
  | par n p aJ=>
   rw[Ο] at hw;cases aJ<;>first|exact hw.elim|exact top _ 0 s o n p rfl h.pos ν Ο hw
theorem Rec.woken {c':c9} {i j:Nat} {g g' b:Goroutine} {w':World} (h:Rec P Q c j b) (γ:c'.x j=c.x j) (Ι:c'.T j=c.T j)
  (hw:(mayWake P g=true/\iE g')\/∀s o,c.O s=some o->j5 o (c.tok j s)->∃o',c'.O s=some o'/\j5 o' (c.tok j s)):Rec P Q c' j (Go.Conc.woken P g g' w' b):=by
 have dI:c'.tok j=c.tok j:=congrArg aX.tok γ;obtain⟨cV,κ,ε⟩:=h;rcases ε with rfl|⟨dR,rfl,s,o,ν,q6,cH⟩
 ·have ν:b.status=.running\/b.status=.finished:=by
   cases q7:c.T j with
   | leaf=>
    rw[q7] at κ;rcases κ.2 with⟨_,I⟩|⟨_,_,_,ξ,_⟩
    ·exact .inl I.1.1
    ·exact .inr ξ
   | node f=>
    rw[q7] at κ;rcases κ.2 with(⟨_,I⟩|⟨_,_,_,ξ,_⟩)|I
    ·exact .inl I.1.1
    ·exact .inr ξ
    ·rcases I with⟨_,U,_⟩|⟨U,_⟩
     ·exact .inl U
     ·exact .inl U.1
  have:Go.Conc.woken P g g' w' b=b:=by
   unfold Go.Conc.woken;split
   ·exact again_running _ ν
   ·rfl
  rw[this];exact⟨b,by rw[γ,Ι];exact κ,.inl rfl⟩
 ·unfold Go.Conc.woken;split
  ·rename_i CB;refine⟨cV,by rw[γ,Ι];exact κ,.inl ?_⟩;obtain⟨r1,r2⟩:=dR;obtain⟨ax,bB,st,jν,of⟩:=cV;simp only at r1 r2;subst r1 r2;rfl
  ·rename_i CB;rcases hw with⟨I,U⟩|hw
   ·exfalso;apply CB;simp[I,U.1]
   ·obtain⟨o',I,U⟩:=hw s o ν q6;exact⟨cV,by rw[γ,Ι];exact κ,.inr ⟨dR,rfl,s,o',I,by rw[dI];exact U,by rw[dI];exact cH⟩⟩
end
section
variable {P:Program} {Q:Value->Prop} {bs:World} {c:c9} {gs:Array Goroutine} {w:World} {t:Trace}
theorem Inv.at (h:Inv P Q bs c gs w t) (d:Nat):Inv P Q bs c gs (w.at d) t:=⟨h.pos,h.mem.at d,h.hold,h.bU,h.bj,h.ez,h.ec,h.gq,h.vB⟩
theorem Inv.gone (h:Inv P Q bs c gs w t) (ai:∀s,fZ (c.tok 0 s)):∀j,j≠0->j<gs.size->c.rel j=true/\(∀s,Gone (c.tok j s))/\Knows t 0 (c.dx j):=by
 have T':∀t:Tok,fZ t->Gone t:=λt Ν=>by cases t with
  | nil=>trivial
  | par _ _ aJ=>cases aJ<;>first|exact Ν.elim|trivial
  | ch=>exact Ν.elim
 intro j
 induction j using Nat.strongRecOn with
 | _ j Β=>
  intro fH e0;obtain⟨k,m,g,Ν⟩:=h.bj.sj j fH e0;obtain⟨_,_,aB⟩:=h.bj.oV j _ k m g Ν;cases Α:c.O (c.home j) with
  | none=>have:=h.bj.bare _ Α j;rw[Ν] at this;cases this
  | some o=>
  have Η:=h.bj.bg _ o Α;obtain⟨i0,j6,ψ⟩:=Cj (φ:=eV) (N:=gs.size) (τ:=λa=>c.tok a (c.home j)) (by rw[Η.2.nY];exact Nat.one_pos);have zy:∃q p aJ,c.tok i0 (c.home j)=.par q p aJ:=by
   cases γ:c.tok i0 (c.home j) with
   | par q p aJ=>exact⟨q,p,aJ,rfl⟩
   | nil=>simp[γ,eV] at ψ
   | ch=>simp[γ,eV] at ψ
  obtain⟨q,p,aJ,γ⟩:=zy;have cD:=h.bj.par i0 _ q p aJ γ;subst cD;have bX:aJ=.bB/\(c.bz (c.home j)≠0->c.rel (c.bz (c.home j))=true/\Knows t 0 (c.dx (c.bz (c.home j)))):=by
   by_cases e:c.bz (c.home j)=0
   ·have:=ai (c.home j);rw[<-e,γ] at this;refine⟨by cases aJ<;>first|exact this.elim|rfl,λx=>absurd e x⟩
   ·obtain⟨r1,r2,r3⟩:=Β _ aB e j6;have:=r2 (c.home j);rw[γ] at this;exact⟨by cases aJ<;>first|exact this.elim|rfl,λ_=>⟨r1,r3⟩⟩
  obtain⟨rfl,gd⟩:=bX;have tN:a' gs.size (λa=>c.tok a (c.home j)) ic=1:=by
   rw[pR (φ:=ic) (λt Ν=>by cases t<;>simp_all [eV,ic]) Η.2.nY j6 (by rw[γ];rfl),γ];rfl
  obtain⟨f1,f2,f3,f4,f5,f6⟩:=Η.2.LP tN;have CC:=Η.2.Gr;have l1:=fv (λa=>c.tok a (c.home j)) i' e0;have l2:=fv (λa=>c.tok a (c.home j)) j3 e0;have oM:=fv (λa=>c.tok a (c.home j)) j4 e0;simp only[Ν,i',j3,j4] at l1 l2 oM;have Ρ:g=.gone:=by
   cases g with
   | gone=>rfl
   | work=>simp only[sg] at l1;omega
   | rel=>simp only[sg] at l1;omega
   | l2=>simp only[ve] at l2;omega
   | hN=>simp only[vf] at oM;omega
  subst Ρ;have eh:c.rel j=true:=(h.bj.g8 j k m _ fH Ν).2 θ;refine⟨eh,λs=>?_,?_⟩
  ·by_cases e:s=c.home j
   ·subst e;rw[Ν];trivial
   ·exact T' _ (h.bj.oW j s eh e)
  ·have ς:=h.ec.c2 j fH eh ⟨q,p,γ⟩;by_cases e:c.bz (c.home j)=0
   ·rw[e] at ς;exact ς
   ·obtain⟨r1,r2⟩:=gd e;exact Knows.of_before (h.ec.c3 j fH eh e r1) r2
theorem Ua {o:aP} {x:Tok} (h:Gone x) (I:∀k m g,x=.ch k m g->m≠.q):¬j5 o x:=by
 cases x with
 | nil=>exact id
 | par _ _ aJ=>cases aJ<;>first|exact h.elim|exact id
 | ch k m g=>cases m<;>first|exact absurd rfl (I _ _ _ rfl)|exact id
theorem Inv.good (h:Inv P Q bs c gs w t) {g:Goroutine} (Ρ:gs[0]?=some g) (ν:L7 P g (c.x 0) Q) (sl:Option (Nat×Nat)) (w1:World) :
  ∃v es,stepG P true g w=.ended (.done v) w es/\Good P (λv w'=>Q v/\fD (λ_ _=>False) (λ_=>False) bs w') (crowd gs w1 sl) (.done v) w (t++MemOp.ofEvents 0 g.frame.fn g.frame.place es):=by
 obtain⟨_,cN,hd,tN⟩:=ν;obtain⟨v,es,I,U,ξ⟩:=tN w (h.mem.fit (.inl 0));refine⟨v,es,I,v,rfl,⟨ξ,h.mem.keep⟩,?_⟩;have vC:=h.gone cN;have Mq:=h.bU.own (w':=w) h.mem h.hold 0 (G':=c.H (.inl 0)) (V':=c.aK 0) (es:=es) (fn:=g.frame.fn) (pos:=g.frame.place) (Nat.le_refl _)
  ⟨λb o v p ε=>.inr ⟨v,p,ε,id⟩,λb hb=>.inr hb⟩ (λb x γ=>.inl γ) U (λb x γ hle=>by
   have:=fE (h.mem.mx 0 b x.1 x.2 γ);omega)
 have quit:∀j x,j≠0->gs[j]?=some x->∃n,QuitsD P n (c.deaf j) x:=λj x δ γ=>by
  have e0:=(Array.getElem?_eq_some_iff.1 γ).1;obtain⟨r1,r2,_⟩:=vC j δ e0;obtain⟨cV,κ,ε⟩:=h.vB j x γ;have Ψ:∃n,QuitsD P n (c.deaf j) cV:=by
   cases Ι:c.T j with
   | leaf=>rw[Ι] at κ;exact κ.1 r1 r2
   | node f=>rw[Ι] at κ;exact κ.1 r1 r2
  rcases ε with rfl|⟨_,_,s,o,ν,hw,_⟩
  ·exact Ψ
  ·refine absurd hw (Ua (r2 s) λk m g e hm=>?_);subst hm;have q8:g≠.work:=by rintro rfl;have:=r2 s;rw[e] at this;exact this
   rcases h.bj.oX j s k _ g o ν e q8 with x|⟨x,_⟩<;>cases x
 refine⟨Mq.race,λk g' ς bA ε=>?_,⟨λx γ=>?_,rfl⟩,λj x γ δ=>?_⟩
 ·obtain⟨op,Α,hr⟩:=Option.map_eq_some_iff.1 ς;rcases getElem?_append_cases Α with⟨aB,jI⟩|⟨_,gr⟩
  ·have hs:t.g? k=some g':=by simp[Trace.g?,jI,hr]
   have Ub:=h.ec.er k g' hs;obtain⟨r1,_,r3⟩:=vC g' bA Ub;obtain⟨sm,Δ,Γ,a0,cG,e'⟩:=h.ec.c1 g' bA r1;obtain⟨q,z,vD,q9,GU⟩:=Knows.of_before (e' k hs ((zx aB).1 ε)) r3;refine⟨q,by simp[Trace.g?,getElem?_append_old (lt_size_of_getElem? vD),vD,q9],?_⟩;rcases GU with rfl|GU
   ·exfalso;simp[Trace.g?,vD,q9] at hs;exact bA hs.symm
   ·exact hb_app _ GU
  ·obtain⟨e,_,rfl⟩:=Go.Conc.mem_ofEvents gr;exact absurd hr.symm bA
 ·obtain⟨j,δ⟩:=List.mem_iff_getElem?.1 γ;rw[List.getElem?_drop] at δ;obtain⟨n,Ψ⟩:=quit (1+j) x R (by simpa[crowd] using δ);exact⟨n,Ψ.leaves⟩
 ·obtain⟨n,Ψ⟩:=quit j x δ γ;refine⟨n,?_⟩;have e:(t++MemOp.ofEvents 0 g.frame.fn g.frame.place es).deaf j (t++MemOp.ofEvents 0 g.frame.fn g.frame.place es).size=c.deaf j:=Mq.hears j;rw[e];exact Ψ.hears _
def Comes (P:Program) (Q:Value->Prop) (bs:World) (m:Machine) (t:Trace):Prop:=
 ∃N last o w' t',runNT P (N+1) m t=(.ended o w',t')/\runN P N m=.next last/\step P last=.ended o w'/\Good P (λv w'=>Q v/\fD (λ_ _=>False) (λ_=>False) bs w') last o w' t'
theorem Comes.next {m b7:Machine} {u:Trace} (ν:stepT P m=(.next b7,u)) (h:Comes P Q bs b7 (t++u)):Comes P Q bs m t:=by
 obtain⟨n,last,o,w,t',I,U,ξ,Κ⟩:=h;exact⟨n+1,last,o,w,t',by rw[runNT_succ_next ν];exact I,by rw[runN_succ_next ν];exact U,ξ,Κ⟩
theorem Comes.last {m:Machine} {u:Trace} {o:Outcome} {w:World} (ν:stepT P m=(.ended o w,u)) (Ρ:Good P (λv w'=>Q v/\fD (λ_ _=>False) (λ_=>False) bs w') m o w (t++u)):Comes P Q bs m t:=
 ⟨0,m,o,w,t++u,by simp[runNT,ν],rfl,by simp[step,ν],Ρ⟩
def xq (gs:Array Goroutine):Nat:=(gs.toList.filter λg=>decide (g.status=.running)).length
structure Ord (jJ:List Nat) (n:Nat):Prop where
 nodup:jJ.Nodup
 mem:∀i,i∈jJ↔i<n
theorem Ord.part {jJ:List Nat} {n i:Nat} (h:Ord jJ n) (hi:i<n):∃a b,jJ=a++i::b/\i∉a/\i∉b:=by
 obtain⟨a,b,rfl⟩:=List.append_of_mem ((h.mem i).2 hi);have:=h.nodup;rw[List.nodup_append] at this;obtain⟨_,U,ξ⟩:=this;rw[List.nodup_cons] at U;exact⟨a,b,rfl,λμ=>ξ i μ i θ rfl,U.1⟩
theorem xr {B:Type} {T:Nat->B} {i:Nat} {x:B} {l:List Nat} (h:i∉l):l.map (upd T i x)=l.map T:=by
 apply List.map_congr_left;intro j δ;exact upd_ne _ _ (λe=>h (e▸δ))
theorem Ord.one {B:Type} {jJ:List Nat} {n i:Nat} (h:Ord jJ n) (hi:i<n) {T:Nat->gn B} {f:B->gn B} (Ι:T i=.node f) (k:B):nh (jJ.map (upd T i (f k))) (jJ.map T):=by
 obtain⟨a,b,rfl,μ,hb⟩:=h.part hi;simp only[List.map_append,List.map_cons,xr μ,xr hb,upd_same,Ι];exact .one _ _ _ _
theorem Ord.two {B:Type} {jJ:List Nat} {n i:Nat} (h:Ord jJ n) (hi:i<n) {T:Nat->gn B} {f:B->gn B} (Ι:T i=.node f) (k ae:B) :
  ∃CD,Ord CD (n+1)/\nh (CD.map (upd (upd T i (f k)) n (f ae))) (jJ.map T):=by
 have n3:n∉jJ:=λγ=>by have:=(h.mem n).1 γ;omega
 obtain⟨a,b,rfl,μ,hb⟩:=h.part hi;have mE:n∉a:=λγ=>n3 (by simp[γ]);have Mr:n∉b:=λγ=>n3 (by simp[γ]);refine⟨a++i::n::b,⟨?_,λj=>?_⟩,?_⟩
 ·have:=h.nodup;rw[List.nodup_append] at this ⊢;obtain⟨I,U,ξ⟩:=this;rw[List.nodup_cons] at U;refine⟨I,?_,λx γ y Ο=>?_⟩
  ·rw[List.nodup_cons,List.nodup_cons];exact⟨by simp;exact⟨R,U.1⟩,Mr,U.2⟩
  ·simp at Ο;rcases Ο with rfl|rfl|Ο
   ·exact ξ x γ _ θ
   ·rintro rfl;exact mE γ
   ·exact ξ x γ y (by simp[Ο])
 ·have:=h.mem j;simp only[List.mem_append,List.mem_cons] at this ⊢;constructor
  ·rintro(γ|rfl|rfl|γ)
   ·have:=this.1 (.inl γ);omega
   ·omega
   ·omega
   ·have:=this.1 (.inr (.inr γ));omega
  ·intro γ;by_cases e:j=n
   ·exact .inr (.inr (.inl e))
   ·rcases this.2 R with γ|rfl|γ
    ·exact .inl γ
    ·exact .inr (.inl rfl)
    ·exact .inr (.inr (.inr γ))
 ·have bq:i≠n:=by omega
  simp only[List.map_append,List.map_cons,xr mE,xr Mr,xr μ,xr hb,upd_same,upd_ne _ _ bq,Ι];exact .two _ _ _ _ _
end
theorem CE {B:Type} {f:Nat->B} {k:Nat} {x:B} (h:f k=x):upd f k x=f:=by
 funext j
 by_cases e:j=k
 ·subst e;rw[upd_same,h]
 ·rw[upd_ne _ _ e]
theorem iH (H:cI->χ) (i:Nat) (G:χ) (b:Nat):bO H (.inl i) G (.inr b)=H (.inr b):=bP H G θ
theorem vE (tok:Nat->Nat->Tok) (i s:Nat) (t:Tok):b5 tok i s t i=upd (tok i) s t:=by unfold b5;rw[upd_same]
theorem sr {tok:Nat->Nat->Tok} {i s j:Nat} (t:Tok) (h:j≠i):b5 tok i s t j=tok j:=by unfold b5;rw[upd_ne _ _ h]
theorem mF {B:Type} {a:Array B} {k:Nat} {x:B} (h:a[k]?=some x):k<a.size:=(Array.getElem?_eq_some_iff.1 h).1
theorem ofEvents_g {i:Nat} {fn:FuncId} {pos:String} {es:Array Event}:∀op∈MemOp.ofEvents i fn pos es,op.g=i:=λop Ξ=>by obtain⟨e,_,rfl⟩:=Go.Conc.mem_ofEvents Ξ;rfl
theorem Ms {i:Nat} {fn:FuncId} {pos:String}:MemOp.ofEvents i fn pos #[]=#[]:=by rw[ofEvents_eq];simp
theorem Uc (t:Trace) (i:Nat) (fn:FuncId) (pos:String) (es:Array Event) {j:Nat} (δ:j<=es.size):(t++MemOp.ofEvents i fn pos es).deaf i (t.size+j)=deafBehind (Deaf t i) (es.extract 0 j):=by
 have e:t++MemOp.ofEvents i fn pos es=(t++MemOp.ofEvents i fn pos (es.extract 0 j))++MemOp.ofEvents i fn pos (es.extract j es.size):=by
  rw[Array.append_assoc];congr 1;rw[ofEvents_eq,ofEvents_eq,ofEvents_eq,<-Array.map_append];congr 1;simp only[Array.extract_append_extract];rw[show max j es.size=es.size by omega];simp
 have cv:(t++MemOp.ofEvents i fn pos (es.extract 0 j)).size=t.size+j:=by rw[Array.size_append,ofEvents_eq];simp;omega
 rw[e,deaf_old R,<-cv];exact Deaf_own t i fn pos _
theorem GV {t u:Trace} {k:Nat} (ς:t.size<=k) (ε:(t++u).counts k):∃op,u[k-t.size]?=some op/\(t++u)[k]?=some op/\∃x,op.act.touch?=some x/\x.loc.isMemory=true/\(x.kind≠.atomic\/(t++u).heard k):=by
 obtain⟨x,I,U,ξ⟩:=ε;obtain⟨op,Α,γ⟩:=touch_of (t:=t++u) (i:=k) I;exact⟨op,by rw[Array.getElem?_append_right ς] at Α;exact Α,Α,x,γ,U,ξ⟩
theorem xu {t u:Trace} (h:∀op∈u,op.act.touch?=none):∀k,t.size<=k->¬(t++u).counts k:=λk ς ε=>by
 obtain⟨op,I,_,x,ξ,_⟩:=GV ς ε;rw[h op (mem_of_getElem? I)] at ξ;cases ξ
theorem Ud {t:Trace} {i:Nat} {fn:FuncId} {pos:String} {es:Array Event} (h:∀e∈es,Cn e):∀k,t.size<=k->¬(t++MemOp.ofEvents i fn pos es).counts k:=λk ς ε=>by
 obtain⟨op,I,_,x,ξ,Κ,_⟩:=GV ς ε;obtain⟨e,he,rfl⟩:=Go.Conc.mem_ofEvents (mem_of_getElem? I);obtain⟨loc,wr,oS⟩:=e;rcases h _ he with υ|υ<;>simp only at υ<;>subst υ<;>simp[MemAct.ofEvent,MemAct.touch?] at ξ;subst ξ;simp[Loc.isMemory] at Κ
theorem CF {s d i:Nat} {sp:Spec} {es:Array Event} {fn:FuncId} {pos:String} (h:oQ s sp d es) {op:MemOp} (Α:op∈MemOp.ofEvents i fn pos es) :
  (op.act=.mark .disable\/op.act=.mark .enable)\/∃b off wr,op.act=.access ⟨.cell ⟨b,off,none⟩,wr,true⟩/\ep s sp b:=by
 obtain⟨e,he,rfl⟩:=Go.Conc.mem_ofEvents Α;obtain⟨j,δ⟩:=Array.mem_iff_getElem?.1 he;obtain⟨loc,wr,oS⟩:=e;rcases h.2 j _ δ with υ|υ|⟨b,off,Ue,υ,hb,_⟩
 ·simp only at υ;subst υ;exact .inl (.inl rfl)
 ·simp only at υ;subst υ;exact .inl (.inr rfl)
 ·cases υ;exact .inr ⟨b,off,_,rfl,hb⟩
theorem Uf {t:Trace} {s i:Nat} {sp:Spec} {fn:FuncId} {pos:String} {es:Array Event} (h:oQ s sp (Deaf t i) es):∀k,t.size<=k->¬(t++MemOp.ofEvents i fn pos es).counts k:=λk ς ε=>by
 obtain⟨op,I,U,x,ξ,Κ,aE⟩:=GV ς ε;rw[ofEvents_eq,Array.getElem?_map] at I;obtain⟨e,he,rfl⟩:=Option.map_eq_some_iff.1 I;have aB:k-t.size<es.size:=mF he;obtain⟨loc,wr,oS⟩:=e;rcases h.2 _ _ he with υ|υ|⟨b,off,Ue,υ,hb,hd⟩
 ·simp only at υ;subst υ;simp[MemAct.ofEvent,MemAct.touch?] at ξ
 ·simp only at υ;subst υ;simp[MemAct.ofEvent,MemAct.touch?] at ξ
 ·cases υ;simp[MemAct.ofEvent,MemAct.touch?] at ξ;subst ξ;rcases aE with aE|⟨g,Ρ,Θ⟩
  ·exact aE rfl
  ·simp[Trace.g?,U] at Ρ;subst Ρ;have:=Uc t i fn pos es (Nat.le_of_lt aB);rw[show t.size+(k-t.size)=k by omega] at this;rw[this] at Θ;omega
section
variable {P:Program} {Q:Value->Prop} {bs:World} {c c':c9} {gs:Array Goroutine} {w w':World} {t:Trace} {i:Nat} {g g':Goroutine} {es:Array Event}
theorem Inv.low (h:Inv P Q bs c gs w t) {s b:Nat} {o:aP} (ν:c.O s=some o) (hb:ep s o.toSpec b):b<w.heap.size:=by
 obtain⟨⟨ty,I⟩,U⟩:=h.mem.fQ s o ν;rcases hb with rfl|hb
 ·exact fE I
 ·obtain⟨jC,ξ⟩:=U b hb;exact fE ξ
theorem Inv.obj (h:Inv P Q bs c gs w t) {s:Nat} (Ν:c.tok i s≠.nil):∃o,c.O s=some o:=by
 cases ν:c.O s with
 | none=>exact absurd (h.bj.bare s ν i) Ν
 | some o=>exact⟨o,rfl⟩
theorem iF.grow {H:cI->χ} {aK:Nat->Nat->Option (Array Value×TypeId)} {tok:Nat->Nat->Tok} {O:Nat->Option aP} {bz deaf:Nat->Nat} {N e1:Nat} (h:iF H aK tok O bz deaf N t) (cl:N<=e1):iF H aK tok O bz deaf e1 t:=
 ⟨h.race,λop Ξ=>MemAct.low_mono cl (h.low op Ξ),h.norel,h.perms,h.oR,h.cont,h.hears⟩
theorem xp.app {aK pW:Nat->Nat->Option (Array Value×TypeId)} {tok eA:Nat->Nat->Tok} {O O':Nat->Option aP} {rel:Nat->Bool} {dx:Nat->Nat} {u:Trace} {N:Nat} (h:xp aK tok O rel dx t) (tG:∀op∈t,op.act.low N)
  (hu:∀op∈u,∀b,op.act≠.mark (.releaseMerge ⟨b,0,none⟩)) (hv:∀j b v,pW j b=some v->(∃fi,aK j b=some fi)\/N<=b) (cO:∀s o',O' s=some o'->∃o,O s=some o/\o.aW=o'.aW)
  (Ν:∀j s k mu g,tok j s=.ch k mu g->∃k mu g,eA j s=.ch k mu g):xp pW eA O' rel dx (t++u):=by
 refine⟨λs o' m ν hm p op ψ Α=>?_,λj b v hb op Ξ Α=>?_⟩
 ·obtain⟨o,I,U⟩:=cO s o' ν;rcases getElem?_append_cases ψ with⟨_,gf⟩|⟨_,gr⟩
  ·obtain⟨⟨k,mu,g,ξ⟩,Κ⟩:=h.jb s o m I (by rw[U];exact hm) p op gf Α;exact⟨Ν _ _ _ _ _ ξ,λκ=>(Κ κ).app u⟩
  ·exact absurd Α (hu op gr m)
 ·rcases Array.mem_append.1 Ξ with kX|kX
  ·rcases hv j b v hb with⟨fi,lP⟩|hle
   ·exact h.vA j b fi lP op kX Α
   ·have:=tG op kX;rw[Α] at this;simp only[MemAct.low] at this;omega
  ·exact hu op kX b Α
theorem xo.zz {H H':cI->χ} {tok:Nat->Nat->Tok} {O:Nat->Option aP} (h:xo H tok O) (ω:∀b,H' (.inr b)=H (.inr b)):xo H' tok O:=
 ⟨λs o m a b d e=>by rw[ω];exact h.pV s o m a b d e,λs o a b=>by rw[ω];exact h.mB s o a b⟩
theorem Inv.laid (h:Inv P Q bs c gs w t) (Ρ:gs[i]?=some g) {u:Trace}
  (mem:g7 c'.H c'.aK c'.O bs w') (hold:ie c'.H c'.aK c'.O bs.heap.size) (bU:iF c'.H c'.aK c'.tok c'.O c'.bz c'.deaf w'.heap.size (t++u))
  (bj:eQ gs.size c'.tok c'.spec c'.view c'.rel c'.O c'.bz c'.home) (ez:xo c'.H c'.tok c'.O) (ec:vz gs.size c'.tok c'.rel c'.bz c'.home c'.dx (t++u)) (gq:xp c'.aK c'.tok c'.O c'.rel c'.dx (t++u))
  (GW:Rec P Q c' i g') (γ:∀j,j≠i->c'.x j=c.x j/\c'.T j=c.T j)
  (hw:(mayWake P g=true/\iE g')\/∀j s o,j≠i->c.O s=some o->j5 o (c.tok j s)->∃o',c'.O s=some o'/\j5 o' (c.tok j s)) :
  Inv P Q bs c' ((gs.map (woken P g g' w')).setIfInBounds i g') w' (t++u):=by
 have cv:((gs.map (woken P g g' w')).setIfInBounds i g').size=gs.size:=θ
 have bq:i<gs.size:=mF Ρ;refine⟨by rw[cv];exact h.pos,mem,hold,bU,by rw[cv];exact bj,ez,by rw[cv];exact ec,gq,λj b hb=>?_⟩;by_cases e:j=i
 ·subst e;rw[Array.getElem?_setIfInBounds_self_of_lt (by simpa using bq)] at hb;cases hb;exact GW
 ·rw[Array.getElem?_setIfInBounds_ne (Ne.symm e),Array.getElem?_map] at hb;obtain⟨db,I,rfl⟩:=Option.map_eq_some_iff.1 hb;exact(h.vB j db I).woken (i:=0) (γ j e).1 (γ j e).2 (hw.imp id λhw s o ν q6=>hw j s o e ν q6)
def h0 (P:Program) (Q:Value->Prop) (bs:World) (c:c9) (gs:Array Goroutine) (w:World) (t:Trace) (i:Nat) (f:Bool×Goroutine×aX->gn (Bool×Goroutine×aX)):Prop:=
 ∀sl,∃c' q' w' u,runT P (crowd gs w sl) i=(.next (crowd q' w' sl),u)/\Inv P Q bs c' q' w' (t++u)/\
  ((q'.size=gs.size/\∃k,c'.T=upd c.T i (f k))\/(q'.size=gs.size+1/\∃k ae,c'.T=upd (upd c.T i (f k)) gs.size (f ae))\/(q'.size=gs.size/\c'.T=c.T/\xq q'<xq gs))
def CG (P:Program) (Q:Value->Prop) (bs:World) (c:c9) (gs:Array Goroutine) (w:World) (t:Trace) (i:Nat) (f:Bool×Goroutine×aX->gn (Bool×Goroutine×aX)):Prop:=
 ∃c',Inv P Q bs c' gs w t/\∃k,c'.T=upd c.T i (f k)
abbrev lQ (P:Program) (Q:Value->Prop) (f:Bool×Goroutine×aX->gn (Bool×Goroutine×aX)):zj:=λvo g' df=>jD P Q (f (vo,g',df)) vo g' df
theorem h0.go {f:Bool×Goroutine×aX->gn (Bool×Goroutine×aX)} (Ρ:gs[i]?=some g) (ν:stepG P (i==0) g w=.go g' w' es)
  (h:Inv P Q bs c' ((gs.map (woken P g g' w')).setIfInBounds i g') w' (t++MemOp.ofEvents i g.frame.fn g.frame.place es)) (k:Bool×Goroutine×aX) (Ι:c'.T=upd c.T i (f k)):h0 P Q bs c gs w t i f:=
 λ_=>⟨c',_,w',_,runT_crowd_go Ρ ν,h,.inl ⟨θ,k,Ι⟩⟩
variable {f:Bool×Goroutine×aX->gn (Bool×Goroutine×aX)}
theorem Inv.GH (h:Inv P Q bs c gs w t) (Ρ:gs[i]?=some g) (ς:LY P (i==0) (lQ P Q f) g (c.x i)):h0 P Q bs c gs w t i f:=by
 have hw:=ς w (h.mem.fit (.inl i)) (h.mem.mx i);cases ν:stepG P (i==0) g w with
 | go g' w' es=>
  rw[ν] at hw;obtain⟨G',V',κ,tO,Χ,b3,tP,q2,ga,GI,bc⟩:=hw;have bq:i<gs.size:=mF Ρ;have Mt:∀e∈es,hl (c.H (.inl i)) w.heap.size w'.heap.size e:=λe he=>by
   have:=ga e he;split at this
   ·exact this.GH
   ·exact this
  have γ:∀j,j≠i->({c with H:=bO c.H (.inl i) G',aK:=upd c.aK i V',T:=upd c.T i (f (i==0,g',{c.x i with G:=G',aK:=V'}))}:c9).x j=c.x j:=λj δ=>by
   have:(Sum.inl j:cI)≠.inl i:=λe=>δ (by cases e;rfl);simp[c9.x,bP _ _ this,upd_ne _ _ δ]
  refine h0.go (c':={c with H:=bO c.H (.inl i) G',aK:=upd c.aK i V',T:=upd c.T i (f (i==0,g',{c.x i with G:=G',aK:=V'}))}) Ρ ν ?_ _ rfl;refine h.laid Ρ (h.mem.own h.hold i tO Χ b3 rfl) (h.hold.own h.mem h.mem.keep.size i tP q2) (h.bU.own h.mem h.hold i tO.size tP q2 Mt GI) h.bj ?_ ?_ ?_ ?_ (λj δ=>⟨γ j δ,upd_ne _ _ δ⟩) (.inr λj s o _ a b=>⟨o,a,b⟩)
  ·exact h.ez.zz λb=>iH c.H i G' b
  ·refine h.ec.app bq ofEvents_g (λeh=>Ud λe he=>?_) (λ_ _ _ x=>x) (λ_ _ _ _ x=>x);have:=ga e he;have fp:(c.x i).rel=true:=eh;simpa only[fp,if_true] using this
  ·refine h.gq.app h.bU.low (λop Ξ b hb=>?_) (λj b v hv=>?_) (λs o' ν=>⟨o',ν,rfl⟩) (λj s k mu g e=>⟨k,mu,g,e⟩)
   ·obtain⟨e,he,rfl⟩:=Go.Conc.mem_ofEvents Ξ;have dy:=Mt e he;obtain⟨loc,wr,oS⟩:=e;cases loc with
    | mark m=>simp only[hl] at dy;subst dy;simp[MemAct.ofEvent] at hb
    | obj r=>cases wr<;>cases oS<;>simp[MemAct.ofEvent] at hb
    | _=>simp[MemAct.ofEvent] at hb
   ·replace hv:upd c.aK i V' j b=some v:=hv
    by_cases δ:j=i
    ·subst δ;rw[upd_same] at hv;exact(q2 b v hv).imp (λx=>⟨v,x⟩) (λx=>x.1)
    ·rw[upd_ne _ _ δ] at hv;exact .inl ⟨v,hv⟩
  ·refine⟨g',?_,.inl rfl⟩;have e:({c with H:=bO c.H (.inl i) G',aK:=upd c.aK i V',T:=upd c.T i (f (i==0,g',{c.x i with G:=G',aK:=V'}))}:c9).x i={c.x i with G:=G',aK:=V'}:=by
    simp[c9.x,upd_same]
   rw[e];show jD P Q (upd c.T i (f (i==0,g',{c.x i with G:=G',aK:=V'})) i) _ _ _;rw[upd_same];exact bc
 | _=>rw[ν] at hw;exact hw.elim
theorem g7.zz {H:cI->χ} {aK:Nat->Nat->Option (Array Value×TypeId)} {O O':Nat->Option aP} (h:g7 H aK O bs w) (e:O'=O):g7 H aK O' bs w:=e▸h
theorem Inv.marked (h:Inv P Q bs c gs w t) (Ρ:gs[i]?=some g) {m:Mark} (hm:m=.disable\/m=.enable) {d:Nat} (hd:d=deafBehind (c.deaf i) #[Go.ConcR.mk m]) (ν:stepG P (i==0) g w=.go g' w #[Go.ConcR.mk m])
  (bc:lQ P Q f (i==0) g' {c.x i with deaf:=d}):h0 P Q bs c gs w t i f:=by
 have bq:i<gs.size:=mF Ρ
 have nt:∀op∈MemOp.ofEvents i g.frame.fn g.frame.place #[Go.ConcR.mk m],op.act.touch?=none:=λop Ξ=>by
  obtain⟨e,he,rfl⟩:=Go.Conc.mem_ofEvents Ξ;simp at he;subst he;rcases hm with rfl|rfl<;>rfl
 have mE:∀op∈MemOp.ofEvents i g.frame.fn g.frame.place #[Go.ConcR.mk m],op.act=.mark .disable\/op.act=.mark .enable:=λop Ξ=>by
  obtain⟨e,he,rfl⟩:=Go.Conc.mem_ofEvents Ξ;simp at he;subst he;rcases hm with rfl|rfl
  ·exact .inl rfl
  ·exact .inr rfl
 refine h0.go (c':={c with deaf:=upd c.deaf i d,T:=upd c.T i (f (i==0,g',{c.x i with deaf:=d}))}) Ρ ν ?_ _ rfl;refine h.laid Ρ h.mem h.hold ?_ h.bj h.ez ?_ ?_ ⟨g',?_,.inl rfl⟩ (λj δ=>⟨by simp[c9.x,upd_ne _ _ δ],upd_ne _ _ δ⟩) (.inr λj s o _ a b=>⟨o,a,b⟩)
 ·refine h.bU.ext h.hold i ofEvents_g (λop Ξ=>?_) (λop Ξ a μ=>?_) (λop Ξ b hb=>?_) (λj=>?_)
  ·rcases mE op Ξ with e|e<;>rw[e]<;>trivial
  ·rcases mE op Ξ with e|e<;>rw[e] at μ<;>cases μ
  ·rw[nt op Ξ] at hb;cases hb
  ·by_cases e:j=i
   ·subst e;rw[Deaf_own,h.bU.hears,hd];exact(upd_same ..).symm
   ·rw[Deaf_other t (Ne.symm e) _ ofEvents_g,h.bU.hears];exact(upd_ne _ _ e).symm
 ·exact h.ec.app bq ofEvents_g (λ_=>xu nt) (λ_ _ _ x=>x) (λ_ _ _ _ x=>x)
 ·refine h.gq.app h.bU.low (λop Ξ b hb=>?_) (λj b v hv=>.inl ⟨v,hv⟩) (λs o' ν=>⟨o',ν,rfl⟩) (λj s k mu g e=>⟨k,mu,g,e⟩);rcases mE op Ξ with e|e<;>rw[e] at hb<;>cases hb
 ·have e:({c with deaf:=upd c.deaf i d,T:=upd c.T i (f (i==0,g',{c.x i with deaf:=d}))}:c9).x i={c.x i with deaf:=d}:=by
   simp[c9.x,upd_same]
  rw[e];show jD P Q (upd c.T i (f (i==0,g',{c.x i with deaf:=d})) i) _ _ _;rw[upd_same];exact bc
theorem Inv.Ug (h:Inv P Q bs c gs w t) (Ρ:gs[i]?=some g) (ς:LZ P (i==0) (lQ P Q f) g (c.x i)):h0 P Q bs c gs w t i f:=by
 obtain⟨g',_,ς|⟨_,ς⟩⟩:=ς
 ·obtain⟨I,U⟩:=ς w (h.mem.fit (.inl i));exact h.marked Ρ (.inl rfl) (by rfl) I U
 ·obtain⟨I,U⟩:=ς w (h.mem.fit (.inl i));exact h.marked Ρ (.inr rfl) (by rfl) I U
theorem Inv.says (h:Inv P Q bs c gs w t) (Ρ:gs[i]?=some g) (ς:L0 P (i==0) (lQ P Q f) g (c.x i)):h0 P Q bs c gs w t i f:=by
 obtain⟨s,n,p,aJ,g',off,wr,I,U,ho,ξ,Κ⟩:=ς;have bq:i<gs.size:=mF Ρ;obtain⟨ν,bc⟩:=Κ w (h.mem.fit (.inl i));have dI:c.tok i s=.par n p aJ:=I;obtain⟨o,Α⟩:=h.obj (i:=i) (s:=s) (by rw[dI];simp);have eh:c.rel i=false:=ho;have mE:∀op∈MemOp.ofEvents i g.frame.fn g.frame.place #[Go.ConcR.mk (if wr then .write ⟨s,off,none⟩ else .read ⟨s,off,none⟩)],op.act=.mark (if wr then .write ⟨s,off,none⟩ else .read ⟨s,off,none⟩):=λop Ξ=>by
  obtain⟨e,he,rfl⟩:=Go.Conc.mem_ofEvents Ξ;simp at he;subst he;rfl
 refine h0.go (c':={c with T:=upd c.T i (f (i==0,g',c.x i))}) Ρ ν ?_ _ rfl;refine h.laid Ρ h.mem h.hold ?_ h.bj h.ez ?_ ?_ ⟨g',?_,.inl rfl⟩ (λj δ=>⟨rfl,upd_ne _ _ δ⟩) (.inr λj s o _ a b=>⟨o,a,b⟩)
 ·refine h.bU.ext h.hold i ofEvents_g (λop Ξ=>?_) (λop Ξ a μ=>?_) (λop Ξ b hb=>?_) (λj=>?_)
  ·rw[mE op Ξ];have:=h.low Α (.inl rfl);cases wr<;>exact this
  ·rw[mE op Ξ] at μ;cases wr<;>cases μ
  ·rw[mE op Ξ] at hb;refine⟨s,o,s,off,Α,.inl rfl,?_⟩;cases wr<;>simp[MemAct.touch?] at hb<;>subst hb<;>exact⟨rfl,.inr ⟨rfl,h.bj.par i s n p aJ dI⟩⟩
  ·by_cases e:j=i
   ·subst e;rw[Deaf_own,h.bU.hears];cases wr<;>rfl
   ·rw[Deaf_other t (Ne.symm e) _ ofEvents_g,h.bU.hears]
 ·exact h.ec.app bq ofEvents_g (λγ=>by rw[eh] at γ;cases γ) (λ_ _ _ x=>x) (λ_ _ _ _ x=>x)
 ·refine h.gq.app h.bU.low (λop Ξ b hb=>?_) (λj b v hv=>.inl ⟨v,hv⟩) (λs o' ν=>⟨o',ν,rfl⟩) (λj s k mu g e=>⟨k,mu,g,e⟩);rw[mE op Ξ] at hb;cases wr<;>cases hb
 ·show jD P Q (upd c.T i (f (i==0,g',c.x i)) i) _ _ _;rw[upd_same];exact bc
theorem Inv.quits (h:Inv P Q bs c gs w t) (Ρ:gs[i]?=some g) (ς:L6 P (i==0) (lQ P Q f) g (c.x i)):h0 P Q bs c gs w t i f:=by
 obtain⟨jK,κ,eh,vC,g',es,hm,ν,bc⟩:=ς;have bq:i<gs.size:=mF Ρ;have nt:∀op∈MemOp.ofEvents i g.frame.fn g.frame.place es,op.act.touch?=none:=λop Ξ=>by
  obtain⟨e,he,rfl⟩:=Go.Conc.mem_ofEvents Ξ;exact touch_mute (hm e he)
 have mE:∀op∈MemOp.ofEvents i g.frame.fn g.frame.place es,op.act=.mark .disable\/op.act=.mark .enable:=λop Ξ=>by
  obtain⟨⟨loc,wr,oS⟩,he,rfl⟩:=Go.Conc.mem_ofEvents Ξ;have:=hm _ he;cases loc<;>simp[Event.mute] at this;rename_i m;cases m<;>simp_all [MemAct.ofEvent]
 refine h0.go (c':={c with deaf:=upd c.deaf i (deafBehind (c.deaf i) es),T:=upd c.T i (f (i==0,g',{c.x i with deaf:=deafBehind (c.x i).deaf es}))}) Ρ (by rw[jK];exact ν w) ?_ _ rfl;refine h.laid Ρ h.mem h.hold ?_ h.bj h.ez ?_ ?_ ⟨g',?_,.inl rfl⟩ (λj δ=>⟨by simp[c9.x,upd_ne _ _ δ],upd_ne _ _ δ⟩) (.inr λj s o _ a b=>⟨o,a,b⟩)
 ·refine h.bU.ext h.hold i ofEvents_g (λop Ξ=>?_) (λop Ξ a μ=>?_) (λop Ξ b hb=>?_) (λj=>?_)
  ·rcases mE op Ξ with e|e<;>rw[e]<;>trivial
  ·rcases mE op Ξ with e|e<;>rw[e] at μ<;>cases μ
  ·rw[nt op Ξ] at hb;cases hb
  ·by_cases e:j=i
   ·subst e;rw[Deaf_own,h.bU.hears];exact(upd_same ..).symm
   ·rw[Deaf_other t (Ne.symm e) _ ofEvents_g,h.bU.hears];exact(upd_ne _ _ e).symm
 ·exact h.ec.app bq ofEvents_g (λ_=>xu nt) (λ_ _ _ x=>x) (λ_ _ _ _ x=>x)
 ·refine h.gq.app h.bU.low (λop Ξ b hb=>?_) (λj b v hv=>.inl ⟨v,hv⟩) (λs o' ν=>⟨o',ν,rfl⟩) (λj s k mu g e=>⟨k,mu,g,e⟩);rcases mE op Ξ with e|e<;>rw[e] at hb<;>cases hb
 ·have e:({c with deaf:=upd c.deaf i (deafBehind (c.deaf i) es),T:=upd c.T i (f (i==0,g',{c.x i with deaf:=deafBehind (c.x i).deaf es}))}:c9).x i={c.x i with deaf:=deafBehind (c.x i).deaf es}:=by
   simp[c9.x,upd_same]
  rw[e];show jD P Q (upd c.T i (f (i==0,g',{c.x i with deaf:=deafBehind (c.x i).deaf es})) i) _ _ _;rw[upd_same];exact bc
end
end Go.TL
namespace Go.TL
open Go.Conc
open Go.ConcM (OsLater)
open Go.ConcN (sumTo upd sumTo_upd upd_ne upd_same sumTo_congr le_sumTo)
section
variable {P:Program} {Q:Value->Prop} {bs:World} {c c':c9} {gs:Array Goroutine} {w w':World} {t:Trace} {i:Nat} {g g':Goroutine} {es:Array Event}
variable {f:Bool×Goroutine×aX->gn (Bool×Goroutine×aX)}
theorem Uh {o o':aP} {t t':Tok} (h:Act o t o' t'):(∀q p,t'≠.par q p .bB)/\(∀q p,t≠.par q p .bB)/\∀k L g,t=.ch k (.dh L) g->∃g',t'=.ch k (.dh L) g':=by
 cases h<;>refine⟨λq p e=>?_,λq p e=>?_,λk L g e=>?_⟩<;>cases e
 all_goals exact⟨_,rfl⟩
theorem Mu {B:Type} (p:B->Bool) {y:B} (Ο:p y=false):∀(l:List B) (k:Nat) (x:B),l[k]?=some x->p x=true->((l.set k y).filter p).length<(l.filter p).length
 | [],k,x,h,_=>by simp at h
 | z::l,0,x,h,γ=>by
  simp at h;subst h;simp[List.set,γ,Ο]
 | z::l,k+1,x,h,γ=>by
  have:=Mu p Ο l k x (by simpa using h) γ;simp only[List.set,List.filter_cons];split<;>simpa using this
theorem Ui {k:Nat} (Ρ:gs[k]?=some g) (κ:g.status=.running) (hb:g'.status≠.running):xq (gs.setIfInBounds k g')<xq gs:=by
 unfold xq;rw[Array.toList_setIfInBounds];exact Mu (λg:Goroutine=>decide (g.status=.running)) (by simp[hb]) _ k g (by rw[<-Ρ];simp) (by simp[κ])
theorem Inv.atom (h:Inv P Q bs c gs w t) (Ρ:gs[i]?=some g) (κ:iE g) (Ι:jD P Q (c.T i) (i==0) g (c.x i)) (ς:Atom P (i==0) (lQ P Q f) g (c.x i)):h0 P Q bs c gs w t i f:=by
 obtain⟨s,sp,I,U,ξ⟩:=ς;have bq:i<gs.size:=mF Ρ;obtain⟨o,Α,b2⟩:=h.bj.q3 i s sp I;have tG:∀b,ep s sp b->b<w.heap.size:=λb hb=>h.low Α (by rw[b2];exact hb);have ho:¬fZ (c.tok i s):=U;have zA:c.tok i s≠.nil:=λe=>ho (by rw[e];trivial);have Mv:∀{w':World} {es:Array Event} {k:Nat},fD (λb _=>ep s sp b) (λ_=>False) w w'->oQ s sp (c.x i).deaf es->iF c.H c.aK c.tok c.O c.bz c.deaf w'.heap.size (t++MemOp.ofEvents i g.frame.fn g.frame.place es):=λ{w' es k} tO dy=>by
  refine iF.grow ?_ tO.size;refine h.bU.ext h.hold i ofEvents_g (λop Ξ=>?_) (λop Ξ a μ=>?_) (λop Ξ b hb=>?_) (λj=>?_)
  ·rcases CF dy Ξ with(e|e)|⟨b,off,wr,e,hb⟩
   ·rw[e];trivial
   ·rw[e];trivial
   ·rw[e];exact tG b hb
  ·rcases CF dy Ξ with(e|e)|⟨b,off,wr,e,hb⟩<;>rw[e] at μ<;>cases μ
  ·rcases CF dy Ξ with(e|e)|⟨Ω,off,wr,e,dF⟩
   ·rw[e] at hb;cases hb
   ·rw[e] at hb;cases hb
   ·rw[e] at hb;simp[MemAct.touch?] at hb;subst hb;exact⟨s,o,Ω,off,Α,by rw[b2];exact dF,rfl,.inl rfl⟩
  ·by_cases e:j=i
   ·subst e;rw[Deaf_own,h.bU.hears];exact dy.1
   ·rw[Deaf_other t (Ne.symm e) _ ofEvents_g,h.bU.hears]
 have norel:∀{es:Array Event},oQ s sp (c.x i).deaf es->∀op∈MemOp.ofEvents i g.frame.fn g.frame.place es,∀b,op.act≠.mark (.releaseMerge ⟨b,0,none⟩):=λdy op Ξ b hb=>by
  rcases CF dy Ξ with(e|e)|⟨Ω,off,wr,e,dF⟩<;>rw[e] at hb<;>cases hb
 have Mw:∀{es:Array Event},oQ s sp (c.x i).deaf es->∀k,t.size<=k->¬(t++MemOp.ofEvents i g.frame.fn g.frame.place es).counts k:=λdy=>Uf (s:=s) (sp:=sp) (by rw[h.bU.hears];exact dy);rcases ξ w (eH gs.size o (λj=>c.tok j s)) o (h.mem.fit (.inl i)) (h.mem.mx i) b2 (h.mem.fQ s o Α) (λgL lN hv=>by
   obtain⟨dz,Δ,Γ,a0⟩:=h.bj.vq i s gL lN hv;rw[Α] at Δ;cases Δ;exact⟨Γ,a0⟩) ⟨gs.size,λj=>c.tok j s,i,h.bj.bg s o Α,bq,rfl,λk L g e=>h.bj.dh i s k L g o Α e⟩ with hgo|⟨hw,cH,ν⟩
 ·cases ν:stepG P (i==0) g w with
  | go g' w' es=>
   rw[ν] at hgo;obtain⟨fp,tO,dy,h1⟩:=hgo;have Mx:fD (λb _=>ep s o.toSpec b) (λ_=>False) w w':=by rw[b2];exact tO
   rcases h1 with⟨bE,bc⟩|⟨o',t',tQ,bE,Uj,bc⟩
   ·refine h0.go (c':={c with view:=upd c.view i (upd (c.view i) s (some (eH gs.size o (λj=>c.tok j s),o))),T:=upd c.T i (f (i==0,g',{c.x i with view:=upd (c.view i) s (some (eH gs.size o (λj=>c.tok j s),o))}))}) Ρ ν ?_ _ rfl;refine h.laid Ρ ((h.mem.atom h.hold rfl Α rfl Mx bE).zz (CE Α).symm) h.hold (Mv (k:=0) tO dy) (h.bj.look Α) h.ez
     (h.ec.app bq ofEvents_g (λ_=>Mw dy) (λ_ _ _ x=>x) (λ_ _ _ _ x=>x))
     (h.gq.app h.bU.low (norel dy) (λj b v hv=>.inl ⟨v,hv⟩) (λs o' ν=>⟨o',ν,rfl⟩) (λj s k mu g e=>⟨k,mu,g,e⟩))
     ⟨g',?_,.inl rfl⟩ (λj δ=>⟨by simp[c9.x,upd_ne _ _ δ],upd_ne _ _ δ⟩) (.inr λj s o _ a b=>⟨o,a,b⟩)
    have e:({c with view:=upd c.view i (upd (c.view i) s (some (eH gs.size o (λj=>c.tok j s),o))),T:=upd c.T i (f (i==0,g',{c.x i with view:=upd (c.view i) s (some (eH gs.size o (λj=>c.tok j s),o))}))}:c9).x i={c.x i with view:=upd (c.view i) s (some (eH gs.size o (λj=>c.tok j s),o))}:=by
     simp[c9.x,upd_same]
    rw[e];show jD P Q (upd c.T i (f (i==0,g',{c.x i with view:=upd (c.view i) s (some (eH gs.size o (λj=>c.tok j s),o))})) i) _ _ _;rw[upd_same];exact bc
   ·have Uk:=LS (N:=gs.size) (τ:=λj=>c.tok j s) bq rfl tQ
    have Ul:=bc _ Uk;obtain⟨xl,Cu,GO⟩:=Me tQ;obtain⟨Um,Un,Uo⟩:=Uh tQ;have cO:=mz.upd Α xl;have tR:∀j r q p,b5 c.tok i s t' j r=.par q p .bB↔c.tok j r=.par q p .bB:=λj r q p=>by
     by_cases e:j=i/\r=s
     ·obtain⟨rfl,rfl⟩:=e;rw[fa];exact⟨λx=>absurd x (Um q p),λx=>absurd x (Un q p)⟩
     ·rw[eY _ e]
    have GX:∀j r k L g,c.tok j r=.ch k (.dh L) g->∃g',b5 c.tok i s t' j r=.ch k (.dh L) g':=λj r k L g δ=>by
     by_cases e:j=i/\r=s
     ·obtain⟨rfl,rfl⟩:=e;rw[fa];exact Uo k L g δ
     ·rw[eY _ e];exact⟨g,δ⟩
    have keepW:o'=o->∀j r q,j≠i->c.O r=some q->j5 q (c.tok j r)->∃jc,upd c.O s (some o') r=some jc/\j5 jc (c.tok j r):=λjI j r q _ a b=>⟨q,by
     by_cases e:r=s
     ·subst e;subst jI;rw[Α] at a;cases a;exact upd_same _ _ _
     ·rw[upd_ne _ _ e];exact a,b⟩
    have g9:∀r q,upd c.O s (some o') r=some q->∃ik,c.O r=some ik/\ik.toSpec=q.toSpec/\ik.L=q.L/\ik.ah=q.ah:=λr q Ψ=>by
     by_cases e:r=s
     ·subst e;rw[upd_same] at Ψ;cases Ψ;exact⟨o,Α,xl.symm,Cu.symm,GO.symm⟩
     ·rw[upd_ne _ _ e] at Ψ;exact⟨q,Ψ,rfl,rfl,rfl⟩
    let df:aX:={c.x i with tok:=upd (c.tok i) s t',view:=upd (c.view i) s (some (eH gs.size o' (upd (λj=>c.tok j s) i t'),o'))};refine h0.go (c':={c with tok:=b5 c.tok i s t',view:=upd c.view i (upd (c.view i) s (some (eH gs.size o' (upd (λj=>c.tok j s) i t'),o'))),O:=upd c.O s (some o'),T:=upd c.T i (f (i==0,g',df))}) Ρ ν ?_ _ rfl;refine h.laid Ρ (h.mem.atom h.hold rfl Α xl Mx bE) (h.hold.nd cO) ((Mv (k:=0) tO dy).T4 cO λj r δ e=>?_) (h.bj.act Α rfl tQ) ⟨λr q m Ψ hm bX hq=>?_,λr q Ψ bX=>?_⟩
     (h.ec.app bq ofEvents_g (λ_=>Mw dy) (λs q p ⟨j,x⟩=>⟨j,(tR j s q p).1 x⟩) (λj s q p x=>(tR j s q p).1 x))
     (h.gq.app h.bU.low (norel dy) (λj b v hv=>.inl ⟨v,hv⟩) (λr q Ψ=>let ⟨ik,a,b,_⟩:=g9 r q Ψ;⟨ik,a,by rw[b]⟩) (λj r k mu g e=>?_))
     ⟨g',?_,.inl rfl⟩ (λj δ=>⟨by simp[c9.x,upd_ne _ _ δ,sr _ δ],upd_ne _ _ δ⟩) (Uj.imp (λhm=>⟨hm,fp⟩) λjI=>keepW jI)
    ·by_cases aM:j=i/\r=s
     ·obtain⟨rfl,rfl⟩:=aM;exact zA e
     ·apply δ;show b5 c.tok i s t' j r=.nil;rw[eY _ aM];exact e
    ·obtain⟨ik,a,b,Ω,_⟩:=g9 r q Ψ;have:=h.ez.pV r ik m a (by rw[b];exact hm) (λj q p x=>bX j q p ((tR j r q p).2 x)) (λj k L g x=>let ⟨g',y⟩:=GX j r k L g x;hq j k L g' y);rw[b,Ω] at this;exact this
    ·obtain⟨ik,a,b,_,Ω⟩:=g9 r q Ψ;have:=h.ez.mB r ik a (λj q p x=>bX j q p ((tR j r q p).2 x));rw[b,Ω] at this;exact this
    ·by_cases aM:j=i/\r=s
     ·obtain⟨rfl,rfl⟩:=aM;obtain⟨eZ,Τ,y,_⟩:=(Mf tQ).2.1 k mu g e;exact⟨k,eZ,Τ,by show b5 c.tok j r t' j r=_;rw[fa];exact y⟩
     ·exact⟨k,mu,g,by show b5 c.tok i s t' j r=_;rw[eY _ aM];exact e⟩
    ·have e:({c with tok:=b5 c.tok i s t',view:=upd c.view i (upd (c.view i) s (some (eH gs.size o' (upd (λj=>c.tok j s) i t'),o'))),O:=upd c.O s (some o'),T:=upd c.T i (f (i==0,g',df))}:c9).x i=df:=by
      simp[df,c9.x,upd_same,vE]
     rw[e];show jD P Q (upd c.T i (f (i==0,g',df)) i) _ _ _;rw[upd_same];exact Ul
  | _=>rw[ν] at hgo;exact hgo.elim
 ·refine λsl=>⟨c,_,w,_,runT_crowd_go Ρ ν,?_,.inr (.inr ⟨θ,rfl,?_⟩)⟩
  ·rw[Ms,Array.append_empty];have:=h.laid (c':=c) (u:=#[]) Ρ (g':={g with status:=.blocked}) h.mem h.hold (by rw[Array.append_empty];exact h.bU) h.bj h.ez (by rw[Array.append_empty];exact h.ec) (by rw[Array.append_empty];exact h.gq) ⟨g,Ι,.inr ⟨κ,rfl,s,o,Α,hw,cH⟩⟩ (λj δ=>⟨rfl,rfl⟩) (.inr λj s o _ a b=>⟨o,a,b⟩)
   rwa [Array.append_empty] at this
  ·have e:gs.map (woken P g {g with status:=.blocked} w)=gs:=by
    have:woken P g {g with status:=.blocked} w=id:=by
     funext b;simp[woken]
    rw[this];simp
   rw[e];exact Ui Ρ κ.1 θ
end
end Go.TL
