import Derived.Test.YtlabjopijpkiaaaGreatVAC
set_option maxHeartbeats 16000000
set_option maxRecDepth 20000
set_option linter.unusedSectionVars false
set_option linter.unusedSimpArgs false
set_option linter.unusedVariables false
namespace Go.TL
open Go.Conc
open Go.ConcM (OsLater)
open Go.ConcN (sumTo upd sumTo_upd upd_ne upd_same sumTo_congr le_sumTo)
open Go.ConcR (mk)
def mx (O O':Nat->Option aS):Prop:=(∀s o',O' s=some o'->∃o,O s=some o/\o.toSpec=o'.toSpec)/\∀s o,O s=some o->∃o',O' s=some o'/\o.toSpec=o'.toSpec
theorem mx.upd {O:Nat->Option aS} {s:Nat} {o o':aS} (ν:O s=some o) (h:o'.toSpec=o.toSpec):mx O (Go.ConcN.upd O s (some o')):=by
 refine⟨λr q Φ=>?_,λr q Φ=>?_⟩
 ·by_cases e:r=s
  ·subst e;rw[upd_same] at Φ;cases Φ;exact⟨o,ν,h.symm⟩
  ·rw[upd_ne _ _ e] at Φ;exact⟨q,Φ,rfl⟩
 ·by_cases e:r=s
  ·subst e;rw[ν] at Φ;cases Φ;exact⟨o',upd_same ..,h.symm⟩
  ·exact⟨q,by rw[upd_ne _ _ e];exact Φ,rfl⟩
section
variable {H:cM->χ} {aM:Nat->Nat->Option (Array Value×TypeId)} {tok eF:Nat->Nat->Tok} {O O':Nat->Option aS} {bz:Nat->Nat} {deaf K2:Nat->Nat} {N ht:Nat} {t:Trace} {bq w w':World}
theorem B0 {h:cM} {k:Nat} (dD:∀s o',O' s=some o'->∃o,O s=some o/\o.toSpec=o'.toSpec) (Ν:∀i s,eF i s≠.nil->tok i s≠.nil) (ς:jR tok O t h k):jR eF O' t h k:=by
 cases h with
 | inl i=>exact ς
 | inr b=>
  refine ς.imp id λh s o ν hb i hi=>?_;obtain⟨lM,J,U⟩:=dD s o ν;exact h s lM J (by rw[U];exact hb) i (Ν i s hi)
theorem iV.Sf (h:iV H aM tok O bz deaf N t) (dD:mx O O') (Ν:∀i s,eF i s≠.nil->tok i s≠.nil):iV H aM eF O' bz deaf N t:=
 ⟨h.race,h.low,h.norel,λk=>(h.perms k).mono λ_=>B0 dD.1 Ν,h.oG,λs o b ν hb=>let ⟨lM,J,U⟩:=dD.1 s o ν;h.cont s lM b J (by rw[U];exact hb),h.hears⟩
theorem iB.nf (h:iB H aM O ht) (dD:mx O O'):iB H aM O' ht:=
 ⟨h.apart,h.high,h.n1,h.fresh,λs o b ν hb=>let ⟨lM,J,U⟩:=dD.1 s o ν;h.kE s lM b J (by rw[U];exact hb),
  λs bm o o' b ν jo hb dT=>let ⟨lM,J,U⟩:=dD.1 s o ν;let ⟨dJ,μ,Θ⟩:=dD.1 bm o' jo;h.kY s bm lM dJ b J μ (by rw[U];exact hb) (by rw[Θ];exact dT),
  λs o m ν hm=>let ⟨lM,J,U⟩:=dD.1 s o ν;h.pE s lM m J (by rw[U];exact hm),
  λb hb=>h.eE b λs o ν hi=>let ⟨o',J,U⟩:=dD.2 s o ν;hb s o' J (by rw[<-U];exact hi)⟩
theorem iV.ext (h:iV H aM tok O bz deaf N t) (Α:iB H aM O ht) (i:Nat) {u:Trace} (hu:∀op∈u,op.g=i) (ο:∀op∈u,op.act.low N) (ι:∀op∈u,∀a,op.act≠.mark (.release a))
  (Ν:∀op∈u,∀b,op.act.touch?=some b->∃s o my off,O s=some o/\ew s o.toSpec my/\b.loc=.cell ⟨my,off,none⟩/\(b.kind=.atomic\/(b.kind=.said/\i=bz s)))
  (hd:∀j,Deaf (t++u) j=K2 j):iV H aM tok O bz K2 N (t++u):=by
 refine⟨λsaid=>noRace_append (h.race said) hu λk a κ op Μ b hb δ=>?_,λop Μ=>(Array.mem_append.1 Μ).elim (h.low op) (ο op),λop Μ=>(Array.mem_append.1 Μ).elim (h.norel op) (ι op),λk=>?_,λj b v hv k a κ fs=>?_,λs o b ν hb k a κ fs=>?_,hd⟩
 ·obtain⟨s,o,my,off,J,U,μ,Θ⟩:=Ν op Μ b hb;obtain⟨c1,_,_,c4⟩:=δ;have fs:nW a.loc my:=by rw[c1,μ];rfl
  rcases h.cont s o my J U k a κ fs with av|⟨av,ba⟩
  ·exfalso;rcases c4 with x|x|⟨_,x,_⟩
   ·rw[av] at x;cases x
   ·rcases Θ with y|⟨y,_⟩<;>(rw[y] at x;cases x)
   ·rw[av] at x;cases x
  ·rcases Θ with y|⟨y,rfl⟩
   ·exfalso;rcases c4 with x|x|⟨_,_,x⟩
    ·rw[av] at x;cases x
    ·rw[y] at x;cases x
    ·rw[y] at x;cases x
   ·obtain⟨z,Τ,_⟩:=touch_of κ;have:=knows_own Τ;have e:z.g=bz s:=by simpa[Trace.g?,Τ] using ba
    rwa [e] at this
 ·have:dv (t++u) (jR tok O (t++u) k) (H k):=(h.perms k).others (λx γ=>FT _ γ) λop Μ a κ=>by
   obtain⟨s,o,my,off,J,U,μ,Θ⟩:=Ν op Μ a κ;have off:=(Α.kE s o my J U).2.1 k;refine⟨λb o' v p ο δ=>?_,λb ο hb=>?_⟩
   ·rw[μ] at ο;cases ο;exact absurd ⟨_,δ⟩ (off.1 _)
   ·rw[μ] at ο;cases ο
  exact this
 ·rcases ng κ with ee|⟨_,op,Μ,_,iC⟩
  ·exact h.oG j b v hv k a ee fs
  ·obtain⟨s,o,my,off,J,U,μ,Θ⟩:=Ν op Μ a iC;rw[μ] at fs;simp only[nW] at fs;subst fs;rw[(Α.kE s o my J U).2.2 j] at hv;cases hv
 ·rcases ng κ with ee|⟨_,op,Μ,ς,iC⟩
  ·rcases h.cont s o b ν hb k a ee fs with x|⟨x,Ξ⟩
   ·exact .inl x
   ·obtain⟨z,Τ,_⟩:=touch_of ee;exact .inr ⟨x,by rw[g?_old (lt_size_of_getElem? Τ)];exact Ξ⟩
  ·obtain⟨bm,o',my,off,J,U,μ,Θ⟩:=Ν op Μ a iC;rw[μ] at fs;simp only[nW] at fs;subst fs;have es:=Α.kY s bm o o' my ν J hb U;subst es;rcases Θ with x|⟨x,y⟩
   ·exact .inl x
   ·exact .inr ⟨x,by simp[Trace.g?,ς,hu op Μ,y]⟩
theorem dv.sub {jO:Nat->Prop} {G G':χ} (h:dv t jO G) (ν:Sub G' G):dv t jO G':=
 ⟨λb o v p δ i a κ ο hw=>let ⟨fK,aj,ψ⟩:=ν.aO b o v p δ;h.aO b o v fK aj i a κ ο (hw.imp ψ id),λb ⟨x,γ⟩ i a κ ο=>h.obj b ⟨x,ν.obj b x γ⟩ i a κ ο⟩
theorem dv.join {jO:Nat->Prop} {G E:χ} (h:dv t jO G) (k:dv t jO E):dv t jO (Go.TL.join G E):=by
 refine⟨λb o v p δ i a κ ο hw=>?_,λb hb i a κ ο=>?_⟩
 ·simp only[Go.TL.join] at δ;cases Ξ:G.aO b o with
  | none=>rw[Ξ] at δ;exact k.aO b o v p δ i a κ ο hw
  | some y=>rw[Ξ] at δ;cases δ;exact h.aO b o v p Ξ i a κ ο hw
 ·obtain⟨x,γ⟩:=hb;simp only[Go.TL.join] at γ;cases Ξ:G.obj b with
  | none=>rw[Ξ] at γ;exact k.obj b ⟨x,γ⟩ i a κ ο
  | some y=>exact h.obj b ⟨y,Ξ⟩ i a κ ο
theorem dv.empty {jO:Nat->Prop}:dv t jO χ.empty:=⟨λ_ _ _ _ h=>(by cases h),λ_ ⟨_,h⟩=>(by cases h)⟩
theorem dv.release {i b:Nat} {G:χ} {y:MemOp} (h:dv t (Knows t i) G) (Ξ:y.g=i) (Ι:y.act=.mark (.releaseMerge ⟨b,0,none⟩)) (hd:Deaf t i=0):dv (t++#[y]) (jR tok O (t++#[y]) (.inr b)) G:=by
 have jS:(t++#[y])[t.size]?=some y:=η
 have za:(t++#[y]).heard t.size:=⟨i,by simp[Trace.g?,Ξ],by rw[deaf_old (Nat.le_refl _)];exact hd⟩
 have key:∀k,Knows t i k->jR tok O (t++#[y]) (.inr b) k:=λk ς=>.inl ⟨t.size,y,jS,Ι,za,.inr (ς.hb_new (Nat.le_refl _) jS Ξ)⟩
 have nt:∀k a,touchAt (t++#[y]) k=some a->touchAt t k=some a:=λk a κ=>by
  rcases ng κ with ee|⟨_,op,Μ,_,iC⟩
  ·exact ee
  ·simp at Μ;subst Μ;rw[Ι] at iC;simp[MemAct.touch?] at iC
 exact⟨λoI o v p δ k a κ ο hw=>key k (h.aO oI o v p δ k a (nt k a κ) ο hw),λoI hb k a κ ο=>key k (h.obj oI hb k a (nt k a κ) ο)⟩
theorem dv.acquire {i b s:Nat} {o:aS} {E:χ} {y:MemOp} (h:dv t (jR tok O t (.inr b)) E) (ep:∀op∈t,∀a,op.act≠.mark (.release a)) (ν:O s=some o) (hb:ew s o.toSpec b) (hi:tok i s≠.nil)
  (Ξ:y.g=i) (Ι:y.act=.mark (.acquire ⟨b,0,none⟩)) (hd:Deaf t i=0):dv (t++#[y]) (Knows (t++#[y]) i) E:=by
 have jS:(t++#[y])[t.size]?=some y:=η
 have za:(t++#[y]).heard t.size:=⟨i,by simp[Trace.g?,Ξ],by rw[deaf_old (Nat.le_refl _)];exact hd⟩
 have key:∀k,jR tok O t (.inr b) k->Knows (t++#[y]) i k:=λk ς=>by
  rcases ς with⟨p,op,J,U,μ,Θ⟩|ς
  ·have ψ:=lt_size_of_getElem? J;refine⟨t.size,y,jS,Ξ,.inr ((Θ.app #[y]).hb (.single (.inr ⟨.marked (a:=⟨b,0,none⟩) ψ (.inr ?_) ?_ ?_,(heard_old ψ).2 μ,za⟩)))⟩
   ·rw[act?_old ψ,act?_of J,U]
   ·rw[act?_of jS,Ι]
   ·intro ag iW e3 iX;rw[act?_old e3] at iX;obtain⟨r7,jT,iC⟩:=Option.map_eq_some_iff.1 iX;exact ep r7 (mem_of_getElem? jT) _ iC
  ·exact(ς s o ν hb i hi).app _
 have nt:∀k a,touchAt (t++#[y]) k=some a->touchAt t k=some a:=λk a κ=>by
  rcases ng κ with ee|⟨_,op,Μ,_,iC⟩
  ·exact ee
  ·simp at Μ;subst Μ;rw[Ι] at iC;simp[MemAct.touch?] at iC
 exact⟨λoI o v p δ k a κ ο hw=>key k (h.aO oI o v p δ k a (nt k a κ) ο hw),λoI hb k a κ ο=>key k (h.obj oI hb k a (nt k a κ) ο)⟩
theorem Knows.spawn {i j k:Nat} {y z:MemOp} (h:Knows t i k) (K3:y.g=i) (Ι:y.act=.go j) (F2:z.g=j) (Τ:z.act=.start) (hd:Deaf t i=0) (Sg:Deaf t j=0):Knows (t++#[y,z]) j k:=by
 have vd:(t++#[y,z])[t.size]?=some y:=η
 have nn:(t++#[y,z])[t.size+1]?=some z:=η
 have d1:(t++#[y,z]).heard t.size:=⟨i,by simp[Trace.g?,K3],by rw[deaf_old (Nat.le_refl _)];exact hd⟩
 have d2:(t++#[y,z]).heard (t.size+1):=⟨j,by simp[Trace.g?,F2],by
  rw[deaf_succ vd];have:deafStep j ((t++#[y,z]).deaf j t.size) y=(t++#[y,z]).deaf j t.size:=by simp[deafStep,Ι]
  rw[this,deaf_old (Nat.le_refl _)];exact Sg⟩
 have Δ:=h.hb_new (u:=#[y,z]) (Nat.le_refl _) vd K3
 have Γ:HappensBefore (t++#[y,z]) t.size (t.size+1):=.single (.inr ⟨.spawn (child:=j) (by rw[act?_of vd,Ι]) (by rw[act?_of nn,Τ]) (by simp[Trace.g?,F2]),d1,d2⟩);exact⟨t.size+1,z,nn,F2,.inr (Δ.trans Γ)⟩
theorem Sub.refl (G:χ):Sub G G:=⟨λ_ _ _ p h=>⟨p,h,id⟩,λ_ _ h=>h,λ_ _ h=>h⟩
theorem Sub.owns {G G':χ} (h:Sub G' G) {b o:Nat} (x:G'.owns b o):G.owns b o:=let ⟨v,hv⟩:=x;let ⟨p,aj,ψ⟩:=h.aO b o v true hv;⟨v,by rw[aj,ψ rfl]⟩
theorem Sub.has {G G':χ} (h:Sub G' G) {b o:Nat} (x:G'.has b o):G.has b o:=let ⟨v,hv⟩:=x;let ⟨p,aj,_⟩:=h.aO b o v.1 v.2 hv;⟨_,aj⟩
theorem Sub.e' {G G':χ} (h:Sub G' G) {b:Nat} (x:G'.e' b):G.e' b:=let ⟨v,hv⟩:=x;⟨v,h.obj b v hv⟩
theorem Sub.off {G G':χ} (h:Sub G' G) {b:Nat} (x:G.off b):G'.off b:=⟨λo ω=>x.1 o (h.has ω),λω=>x.2 (h.e' ω)⟩
theorem Sub.fits {G G':χ} (h:Sub G' G) (x:Fits G w):Fits G' w:=⟨λb o v p δ=>let ⟨fK,aj,_⟩:=h.aO b o v p δ;x.aO b o v fK aj,λb t n ι=>x.row b t n (h.row b _ ι),λb v hv=>x.obj b v (h.obj b v hv)⟩
theorem Apart.symm {A B:χ} (h:Apart A B):Apart B A:=⟨h.qH,h.aO,λb hb κ=>h.obj b κ hb⟩
theorem Apart.sub {A B K4 B':χ} (h:Apart A B) (κ:Sub K4 A) (hb:Sub B' B):Apart K4 B':=
 ⟨λb o x y=>h.aO b o (κ.owns x) (hb.has y),λb o x y=>h.qH b o (hb.owns x) (κ.has y),λb x y=>h.obj b (κ.e' x) (hb.e' y)⟩
theorem Apart.tw (A:χ):Apart A χ.empty:=⟨λ_ _ _ ⟨_,h⟩=>(by cases h),λ_ _ ⟨_,h⟩=>(by cases h),λ_ _ ⟨_,h⟩=>(by cases h)⟩
theorem F3 {G E:χ} {b o:Nat} (h:(join G E).owns b o):G.owns b o\/E.owns b o:=by
 obtain⟨v,hv⟩:=h;simp only[join] at hv;cases Ξ:G.aO b o with
 | none=>rw[Ξ] at hv;exact .inr ⟨v,hv⟩
 | some y=>rw[Ξ] at hv;cases hv;exact .inl ⟨v,Ξ⟩
theorem K5 {G E:χ} {b o:Nat} (h:(join G E).has b o):G.has b o\/E.has b o:=by
 obtain⟨v,hv⟩:=h;simp only[join] at hv;cases Ξ:G.aO b o with
 | none=>rw[Ξ] at hv;exact .inr ⟨v,hv⟩
 | some y=>exact .inl ⟨y,Ξ⟩
theorem B1 {G E:χ} {b:Nat} (h:(join G E).e' b):G.e' b\/E.e' b:=by
 obtain⟨v,hv⟩:=h;simp only[join] at hv;cases Ξ:G.obj b with
 | none=>rw[Ξ] at hv;exact .inr ⟨v,hv⟩
 | some y=>exact .inl ⟨y,Ξ⟩
theorem Si {G E:χ} {b:Nat} (h:G.off b) (k:E.off b):(join G E).off b:=⟨λo ω=>(K5 ω).elim (h.1 o) (k.1 o),λω=>(B1 ω).elim h.2 k.2⟩
theorem zb {G E:χ} (h:Fits G w) (k:Fits E w):Fits (join G E) w:=by
 refine⟨λb o v p δ=>?_,λb t n ι=>?_,λb v hv=>?_⟩
 ·simp only[join] at δ;cases Ξ:G.aO b o with
  | none=>rw[Ξ] at δ;exact k.aO b o v p δ
  | some y=>rw[Ξ] at δ;cases δ;exact h.aO b o v p Ξ
 ·simp only[join] at ι;cases Ξ:G.row b with
  | none=>rw[Ξ] at ι;exact k.row b t n ι
  | some y=>rw[Ξ] at ι;cases ι;exact h.row b t n Ξ
 ·simp only[join] at hv;cases Ξ:G.obj b with
  | none=>rw[Ξ] at hv;exact k.obj b v hv
  | some y=>rw[Ξ] at hv;cases hv;exact h.obj b v Ξ
theorem Apart.qQ {A B C:χ} (h:Apart A C) (k:Apart B C):Apart (join A B) C:=
 ⟨λb o x y=>(F3 x).elim (λz=>h.aO b o z y) (λz=>k.aO b o z y),λb o x y=>(K5 y).elim (λz=>h.qH b o x z) (λz=>k.qH b o x z),λb x y=>(B1 x).elim (λz=>h.obj b z y) (λz=>k.obj b z y)⟩
theorem ve (w:World):Fits χ.empty w:=⟨λ_ _ _ _ h=>(by cases h),λ_ _ _ h=>(by cases h),λ_ _ h=>(by cases h)⟩
theorem iB.two (h:iB H aM O ht) {a b:cM} (eN:a≠b) {A B:χ} (bW:Sub A (join (H a) (H b))) (dU:Sub B (join (H a) (H b))) (K6:Apart A B)
  (dD:mx O O') (K7:∀x,b=.inr x\/a=.inr x->∃s o,O s=some o/\ew s o.toSpec x):iB (bP (bP H a A) b B) aM O' ht:=by
 have dg:=h.nf dD
 have vf:bP (bP H a A) b B a=A:=by rw[bQ _ _ eN,dQ]
 have vg:bP (bP H a A) b B b=B:=dQ _ _ _
 have qR:∀k,k≠a->k≠b->bP (bP H a A) b B k=H k:=λk J U=>by rw[bQ _ _ U,bQ _ _ J]
 have B2:∀k,k≠a->k≠b->Apart (join (H a) (H b)) (H k):=λk J U=>(h.apart a k (Ne.symm J)).qQ (h.apart b k (Ne.symm U))
 have K8:∀x,(∀k,(H k).off x)->(join (H a) (H b)).off x:=λx γ=>Si (γ a) (γ b)
 have F4:∀{p:cM->Prop},p a->p b->(∀k,k≠a->k≠b->p k)->∀k,p k:=λtx tz n2 k=>by
  by_cases J:k=a
  ·rw[J];exact tx
  ·by_cases U:k=b
   ·rw[U];exact tz
   ·exact n2 k J U
 have K9:∀x,(∀k,(H k).off x)->∀k,(bP (bP H a A) b B k).off x:=λx γ=>F4 (by rw[vf];exact bW.off (K8 x γ)) (by rw[vg];exact dU.off (K8 x γ)) (λk J U=>by rw[qR k J U];exact γ k);refine⟨λp q zc=>?_,?_,?_,λi x v hv=>?_,λs o x ν γ=>?_,dg.kY,dg.pE,λx γ=>?_⟩
 ·by_cases tx:p=a
  ·subst tx;by_cases w5:q=b
   ·subst w5;rw[vf,vg];exact K6
   ·rw[vf,qR q (Ne.symm zc) w5];exact(B2 q (Ne.symm zc) w5).sub bW (Sub.refl _)
  ·by_cases tz:p=b
   ·subst tz;by_cases w6:q=a
    ·subst w6;rw[vf,vg];exact K6.symm
    ·rw[vg,qR q w6 (Ne.symm zc)];exact(B2 q w6 (Ne.symm zc)).sub dU (Sub.refl _)
   ·by_cases w6:q=a
    ·subst w6;rw[vf,qR p tx tz];exact((B2 p tx tz).sub bW (Sub.refl _)).symm
    ·by_cases w5:q=b
     ·subst w5;rw[vg,qR p tx tz];exact((B2 p tx tz).sub dU (Sub.refl _)).symm
     ·rw[qR p tx tz,qR q w6 w5];exact h.apart p q zc
 ·exact F4 (λx o ω=>by rw[vf] at ω;exact(F3 (bW.owns ω)).elim (h.high _ _ _) (h.high _ _ _)) (λx o ω=>by rw[vg] at ω;exact(F3 (dU.owns ω)).elim (h.high _ _ _) (h.high _ _ _)) (λk J U x o ω=>by rw[qR k J U] at ω;exact h.high _ _ _ ω)
 ·exact F4 (λx ω=>by rw[vf] at ω;exact(B1 (bW.e' ω)).elim (h.n1 _ _) (h.n1 _ _)) (λx ω=>by rw[vg] at ω;exact(B1 (dU.e' ω)).elim (h.n1 _ _) (h.n1 _ _)) (λk J U x ω=>by rw[qR k J U] at ω;exact h.n1 _ _ ω)
 ·obtain⟨a1,bd,cI⟩:=h.fresh i x v hv;exact⟨a1,K9 x bd,cI⟩
 ·obtain⟨a1,bd,cI⟩:=dg.kE s o x ν γ;exact⟨a1,K9 x bd,cI⟩
 ·have hU:(.inr x:cM)≠b:=λe=>by
   obtain⟨s,o,ν,hi⟩:=K7 x (.inl e.symm);obtain⟨o',J,U⟩:=dD.2 s o ν;exact γ s o' J (by rw[<-U];exact hi)
  have gl:(.inr x:cM)≠a:=λe=>by
   obtain⟨s,o,ν,hi⟩:=K7 x (.inr e.symm);obtain⟨o',J,U⟩:=dD.2 s o ν;exact γ s o' J (by rw[<-U];exact hi)
  rw[qR _ gl hU];exact dg.eE x γ
theorem Sub.qQ {G E A:χ} (h:Sub A G):Sub A (join G E):=
 ⟨λb o v p δ=>let ⟨fK,aj,ψ⟩:=h.aO b o v p δ;⟨fK,by simp[join,aj],ψ⟩,λb x γ=>by simp[join,h.row b x γ],λb x γ=>by simp[join,h.obj b x γ]⟩
theorem ha.two (h:ha H aM O bq w) {a b:cM} {A B:χ} (bW:Fits A w) (dU:Fits B w) (dD:∀s o',O' s=some o'->At s o' w):ha (bP (bP H a A) b B) aM O' bq w:=by
 refine⟨λk=>?_,h.mr,dD,h.keep⟩;by_cases U:k=b
 ·subst U;rw[dQ];exact dU
 ·rw[bQ _ _ U];by_cases J:k=a
  ·subst J;rw[dQ];exact bW
  ·rw[bQ _ _ J];exact h.fit k
theorem ha.atom (h:ha H aM O bq w) (Α:iB H aM O ht) (aj:bq.heap.size=ht) {s:Nat} {o o':aS} (ν:O s=some o) (b0:o'.toSpec=o.toSpec) (ς:fH (λb _=>ew s o.toSpec b) (λ_=>False) w w') (κ:At s o' w') :
  ha H aM (Go.ConcN.upd O s (some o')) bq w':=by
 refine⟨λk=>(h.fit k).keeps ς (λb dJ hb=>((Α.kE s o b ν hb).2.1 k).1 dJ) (λb hb=>hb.elim),λj b c t hb=>?_,λr q Φ=>?_,?_⟩
 ·obtain⟨c',J,U,μ⟩:=ς.cells b c t _ (h.mr j b c t hb);have:c'=c:=by
   apply Array.ext_getElem?;intro dJ;exact μ dJ λdT=>by rw[(Α.kE s o b ν dT).2.2 j] at hb;cases hb
  rw[J,this]
 ·by_cases e:r=s
  ·subst e;rw[upd_same] at Φ;cases Φ;exact κ
  ·rw[upd_ne _ _ e] at Φ;have y4:∀b c t,ew r q.toSpec b->w.heap[b]?=some (.cells c t (0,0))->w'.heap[b]?=some (.cells c t (0,0)):=λb c t hb δ=>by
    obtain⟨c',J,U,μ⟩:=ς.cells b c t _ δ;have:c'=c:=by
     apply Array.ext_getElem?;intro dJ;exact μ dJ λdT=>e (Α.kY r s q o b Φ ν hb dT)
    rw[J,this]
   obtain⟨⟨ty,J⟩,U⟩:=h.fV r q Φ;exact⟨⟨ty,y4 _ _ _ (.inl rfl) J⟩,λm hm=>let ⟨jP,μ⟩:=U m hm;⟨jP,y4 _ _ _ (.inr hm) μ⟩⟩
 ·have eM:=h.keep;refine⟨Nat.le_trans eM.size ς.size,λb c t d' hb=>?_,λb x hb γ _=>ς.nf b x (eM.nf b x hb γ id) γ id,eM.os.trans ς.os,ς.output.trans eM.output,ς.tape.trans eM.tape⟩;obtain⟨c1,J,U,μ⟩:=eM.cells b c t d' hb;obtain⟨c2,Θ,av,ba⟩:=ς.cells b c1 t d' J;refine⟨c2,Θ,by rw[av,U],λdJ _=>?_⟩;rw[ba dJ λγ=>?_,μ dJ id];have:=(Α.kE s o b ν γ).1;have:=fI hb;omega
end
structure w7 (H:cM->χ) (tok:Nat->Nat->Tok) (O:Nat->Option aS):Prop where
 pF:∀s o m,O s=some o->o.aW=some m->(∀i q p,tok i s≠.par q p .bB)->(∀i k L g,tok i s≠.ch k (.dr L) g)->o.an o.L (H (.inr m))
 mz:∀s o,O s=some o->(∀i q p,tok i s≠.par q p .bB)->lN o.D o.al (H (.inr s))
structure vh (n:Nat) (tok:Nat->Nat->Tok) (rel:Nat->Bool) (bz home dH:Nat->Nat) (t:Trace):Prop where
 ef:∀k g,t.g? k=some g->g<n
 c1:∀i,i≠0->rel i=true->∃op,t[dH i]?=some op/\op.g=i/\op.act=.mark (.releaseMerge ⟨home i,0,none⟩)/\t.heard (dH i)/\∀k,t.g? k=some i->t.counts k->Before t k (dH i)
 c2:∀i,i≠0->rel i=true->(∃q p,tok (bz (home i)) (home i)=.par q p .bB)->Knows t (bz (home i)) (dH i)
 c3:∀i,i≠0->rel i=true->bz (home i)≠0->rel (bz (home i))=true->Before t (dH i) (dH (bz (home i)))
structure w8 (aM:Nat->Nat->Option (Array Value×TypeId)) (tok:Nat->Nat->Tok) (O:Nat->Option aS) (rel:Nat->Bool) (dH:Nat->Nat) (t:Trace):Prop where
 ju:∀s o m,O s=some o->o.aW=some m->∀p op,t[p]?=some op->op.act=.mark (.releaseMerge ⟨m,0,none⟩)->(∃k mu g,tok op.g s=.ch k mu g)/\(rel op.g=true->Before t p (dH op.g))
 vi:∀i b v,aM i b=some v->∀op∈t,op.act≠.mark (.releaseMerge ⟨b,0,none⟩)
def Rec (P:Program) (Q:Value->Prop) (c:de) (i:Nat) (g:Goroutine):Prop:=
 ∃cP,jQ P Q (c.T i) (i==0) cP (c.x i)/\(g=cP\/(iU cP/\g={cP with status:=.blocked}/\∃s o,c.O s=some o/\kj o (c.tok i s)/\∀bm,bm≠s->nm (c.tok i bm)))
structure Inv (P:Program) (Q:Value->Prop) (bq:World) (c:de) (gs:Array Goroutine) (w:World) (t:Trace):Prop where
 pos:0<gs.size
 mem:ha c.H c.aM c.O bq w
 hold:iB c.H c.aM c.O bq.heap.size
 bU:iV c.H c.aM c.tok c.O c.bz c.deaf w.heap.size t
 bh:eS gs.size c.tok c.spec c.view c.rel c.O c.bz c.home
 eE:w7 c.H c.tok c.O
 ek:vh gs.size c.tok c.rel c.bz c.home c.dH t
 fW:w8 c.aM c.tok c.O c.rel c.dH t
 vj:∀i g,gs[i]?=some g->Rec P Q c i g
theorem zd {t u:Trace} {k:Nat} (h:k<t.size):(t++u).counts k↔t.counts k:=by
 unfold Trace.counts;rw[act?_old h,heard_old h]
theorem vh.app {n:Nat} {tok eF:Nat->Nat->Tok} {rel:Nat->Bool} {bz home dH:Nat->Nat} {t u:Trace} (h:vh n tok rel bz home dH t) {i:Nat} (hi:i<n) (hu:∀op∈u,op.g=i)
  (δ:rel i=true->∀k,t.size<=k->¬(t++u).counts k) (ς:∀s q p,(∃j,eF j s=.par q p .bB)->∃j,tok j s=.par q p .bB) (ze:∀j s q p,eF j s=.par q p .bB->tok j s=.par q p .bB):vh n eF rel bz home dH (t++u):=by
 refine⟨λk g Ξ=>?_,λj aj ε=>?_,λj aj ε cw=>?_,λj aj ε J U=>(h.c3 j aj ε J U).app u⟩
 ·obtain⟨op,ω,hx⟩:=Option.map_eq_some_iff.1 Ξ;rcases getElem?_append_cases ω with⟨_,jT⟩|⟨_,gy⟩
  ·exact h.ef k g (by simp[Trace.g?,jT,hx])
  ·rw[<-hx,hu op gy];exact hi
 ·obtain⟨op,J,U,μ,Θ,av⟩:=h.c1 j aj ε;have ψ:=lt_size_of_getElem? J;refine⟨op,by rw[getElem?_append_old ψ];exact J,U,μ,(heard_old ψ).2 Θ,λk Ξ jU=>?_⟩;obtain⟨r7,ω,hx⟩:=Option.map_eq_some_iff.1 Ξ;rcases getElem?_append_cases ω with⟨aP,jT⟩|⟨hle,gy⟩
  ·exact(av k (by simp[Trace.g?,jT,hx]) ((zd aP).1 jU)).app u
  ·have e:j=i:=by rw[<-hx,hu r7 gy]
   subst e;exact absurd jU (δ ε k hle)
 ·obtain⟨q,p,Φ⟩:=cw;exact(h.c2 j aj ε ⟨q,p,ze _ _ _ _ Φ⟩).app u
section
variable {P:Program} {Q:Value->Prop} {bq:World} {c:de} {gs:Array Goroutine} {w:World} {t:Trace}
theorem Inv.stat (h:Inv P Q bq c gs w t) {i:Nat} {g:Goroutine} (Ξ:gs[i]?=some g):g.status=.running\/(i≠0/\g.status=.finished/\c.rel i=true/\∀s,Gone (c.tok i s))\/(g.status=.blocked/\∃s o,c.O s=some o/\kj o (c.tok i s)/\∀bm,bm≠s->nm (c.tok i bm)):=by
 obtain⟨cP,ι,δ⟩:=h.vj i g Ξ;rcases δ with rfl|⟨_,rfl,hw⟩
 ·cases Κ:c.T i with
  | leaf=>
   rw[Κ] at ι;rcases ι.2 with⟨_,J⟩|⟨aj,J,U,μ,_⟩
   ·exact .inl J.1.1
   ·exact .inr (.inl ⟨by rintro rfl;simp at aj,μ,J,U⟩)
  | node f=>
   rw[Κ] at ι;rcases ι.2 with(⟨_,J⟩|⟨aj,J,U,μ,_⟩)|J
   ·exact .inl J.1.1
   ·exact .inr (.inl ⟨by rintro rfl;simp at aj,μ,J,U⟩)
   ·rcases J with⟨_,U,_⟩|⟨U,_⟩
    ·exact .inl U
    ·exact .inl U.1
 ·exact .inr (.inr ⟨rfl,hw⟩)
theorem Sj {t:Tok} (h:oE t):∃k m g,t=.ch k m g/\¬nm t/\(∀o,¬kj o t)/\m≠.done/\m≠.idle:=by
 cases t with
 | nil=>exact h.elim
 | par=>exact h.elim
 | ch k m g=>
  refine⟨k,m,g,rfl,?_⟩;cases m with
  | act b=>cases b<;>first|exact h.elim|simp[nm,kj]
  | _=>first|exact h.elim|simp[nm,kj]
theorem Inv.awake (h:Inv P Q bq c gs w t):∃(i:Nat) (g:Goroutine),gs[i]?=some g/\g.status=.running:=by
 apply Classical.byContradiction;intro Sk;have h7:∀i,i<gs.size->(c.rel i=true/\∀s,Gone (c.tok i s))\/∃s o,c.O s=some o/\kj o (c.tok i s)/\∀bm,bm≠s->nm (c.tok i bm):=λi hi=>by
  have Ξ:gs[i]?=some gs[i]:=fq hi;rcases h.stat Ξ with J|⟨_,_,J⟩|⟨_,J⟩
  ·exact absurd ⟨i,_,Ξ,J⟩ Sk
  ·exact .inl J
  ·exact .inr J
 have up:∀i s o n p,c.O s=some o->c.tok i s=.par n p .w3->o.cO=0->∃j bm o' jq fc,i<j/\j<gs.size/\c.O bm=some o'/\c.tok j bm=.par jq fc .w3/\o'.cO=0:=λi s o n p ν Ν aj=>by
  have br:i<gs.size:=h.bh.lt (s:=s) (by rw[Ν];simp);obtain⟨j,ε,cF⟩:=R1 (h.bh.bf s o ν).2 (i:=i) br Ν aj;have mA:qN (c.tok j s):=cF;have k0:∃k m g,c.tok j s=.ch k m g/\g≠.gone:=by
   cases γ:c.tok j s with
   | nil=>rw[γ] at mA;exact mA.elim
   | par=>rw[γ] at mA;exact mA.elim
   | ch k m g=>rw[γ] at mA;exact⟨k,m,g,rfl,by rintro rfl;exact mA⟩
  obtain⟨k,m,g,γ,Ξ⟩:=k0;obtain⟨_,r8,aP⟩:=h.bh.oK j s k m g γ;have hi:=h.bh.par i s n p _ Ν;rcases h7 j ε with⟨_,J⟩|⟨bm,o',jo,hw,gΘ⟩
  ·have:=J s;rw[γ] at this;cases g<;>first|exact absurd rfl Ξ|exact this.elim
  ·by_cases e:bm=s
   ·subst e;rw[ν] at jo;cases jo;rw[γ] at hw;have hm:m=.q/\o.dd=0:=by cases m<;>simp_all [kj]
    obtain⟨rfl,Sl⟩:=hm;have Φ:0<a8 gs.size (λa=>c.tok a bm) lH:=by
     have:=fy (λa=>c.tok a bm) lH ε;simp only[γ,lH,yS] at this;omega
    obtain⟨a,κ,hb⟩:=RY (h.bh.bf bm o ν).1 Φ Sl;obtain⟨ag,b5,g',hR,bw,dm,fJ,mB⟩:=Sj hb;have B3:c.tok a bm=.ch ag b5 g':=hR;exfalso;rcases h7 a κ with⟨_,J⟩|⟨s2,h8,ea,g0,vk⟩
    ·have r9:=J bm;rw[B3] at r9;have:g'≠.work:=by rintro rfl;exact r9
     rcases h.bh.oM a bm ag b5 g' o ν B3 this with e|⟨e,_⟩
     ·exact fJ e
     ·exact mB e
    ·by_cases Γ:s2=bm
     ·subst Γ;exact dm _ g0
     ·exact bw (vk bm (Ne.symm Γ))
   ·cases Ι:c.tok j bm with
    | nil=>rw[Ι] at hw;exact hw.elim
    | ch ag b5 g'=>exact absurd ((h.bh.oK j bm ag b5 g' Ι).2.1.symm.trans r8) e
    | par jq fc FY=>
     rw[Ι] at hw;cases FY<;>first|exact hw.elim|exact⟨j,bm,o',jq,fc,R,ε,jo,Ι,hw⟩
 have top:∀d i s o n p,gs.size-i=d->i<gs.size->c.O s=some o->c.tok i s=.par n p .w3->o.cO=0->False:=λd=>by
  induction d using Nat.strongRecOn with
  | _ d Β=>
   intro i s o n p hd hi ν Ν aj;obtain⟨j,bm,o',jq,fc,J,U,μ,Θ,av⟩:=up i s o n p ν Ν aj;exact Β (gs.size-j) R j bm o' jq fc rfl U μ Θ av
 rcases h7 0 h.pos with⟨J,_⟩|⟨s,o,ν,hw,_⟩
 ·rw[h.bh.tt] at J;cases J
 ·cases Ι:c.tok 0 s with
  | nil=>rw[Ι] at hw;exact hw.elim
  | ch k m g=>exact(h.bh.oK 0 s k m g Ι).1 rfl
  | par n p aL=>
   rw[Ι] at hw;cases aL<;>first|exact hw.elim|exact top _ 0 s o n p rfl h.pos ν Ι hw
theorem Rec.woken {c':de} {i j:Nat} {g g' b:Goroutine} {w':World} (h:Rec P Q c j b) (γ:c'.x j=c.x j) (Κ:c'.T j=c.T j)
  (hw:(mayWake P g=true/\iU g')\/∀s o,c.O s=some o->kj o (c.tok j s)->∃o',c'.O s=some o'/\kj o' (c.tok j s)):Rec P Q c' j (Go.Conc.woken P g g' w' b):=by
 have dW:c'.tok j=c.tok j:=congrArg aZ.tok γ;obtain⟨cP,ι,δ⟩:=h;rcases δ with rfl|⟨eb,rfl,s,o,ν,oO,cF⟩
 ·have ν:b.status=.running\/b.status=.finished:=by
   cases qS:c.T j with
   | leaf=>
    rw[qS] at ι;rcases ι.2 with⟨_,J⟩|⟨_,_,_,μ,_⟩
    ·exact .inl J.1.1
    ·exact .inr μ
   | node f=>
    rw[qS] at ι;rcases ι.2 with(⟨_,J⟩|⟨_,_,_,μ,_⟩)|J
    ·exact .inl J.1.1
    ·exact .inr μ
    ·rcases J with⟨_,U,_⟩|⟨U,_⟩
     ·exact .inl U
     ·exact .inl U.1
  have:Go.Conc.woken P g g' w' b=b:=by
   unfold Go.Conc.woken;split
   ·exact again_running _ ν
   ·rfl
  rw[this];exact⟨b,by rw[γ,Κ];exact ι,.inl rfl⟩
 ·unfold Go.Conc.woken;split
  ·rename_i B4;refine⟨cP,by rw[γ,Κ];exact ι,.inl ?_⟩;obtain⟨r1,r2⟩:=eb;obtain⟨aA,bB,st,gΙ,of⟩:=cP;simp only at r1 r2;subst r1 r2;rfl
  ·rename_i B4;rcases hw with⟨J,U⟩|hw
   ·exfalso;apply B4;simp[J,U.1]
   ·obtain⟨o',J,U⟩:=hw s o ν oO;exact⟨cP,by rw[γ,Κ];exact ι,.inr ⟨eb,rfl,s,o',J,by rw[dW];exact U,by rw[dW];exact cF⟩⟩
end
section
variable {P:Program} {Q:Value->Prop} {bq:World} {c:de} {gs:Array Goroutine} {w:World} {t:Trace}
theorem Inv.at (h:Inv P Q bq c gs w t) (d:Nat):Inv P Q bq c gs (w.at d) t:=⟨h.pos,h.mem.at d,h.hold,h.bU,h.bh,h.eE,h.ek,h.fW,h.vj⟩
theorem Inv.gone (h:Inv P Q bq c gs w t) (aj:∀s,gj (c.tok 0 s)):∀j,j≠0->j<gs.size->c.rel j=true/\(∀s,Gone (c.tok j s))/\Knows t 0 (c.dH j):=by
 have Sm:∀t:Tok,gj t->Gone t:=λt Ν=>by cases t with
  | nil=>trivial
  | par _ _ aL=>cases aL<;>first|exact Ν.elim|trivial
  | ch=>exact Ν.elim
 intro j
 induction j using Nat.strongRecOn with
 | _ j Β=>
  intro fM fe;obtain⟨k,m,g,Ν⟩:=h.bh.r5 j fM fe;obtain⟨_,_,aP⟩:=h.bh.oK j _ k m g Ν;cases ω:c.O (c.home j) with
  | none=>have:=h.bh.bare _ ω j;rw[Ν] at this;cases this
  | some o=>
  have Ζ:=h.bh.bf _ o ω;obtain⟨i0,k2,ψ⟩:=BO (φ:=eX) (N:=gs.size) (τ:=λa=>c.tok a (c.home j)) (by rw[Ζ.2.nZ];exact Nat.one_pos);have ze:∃q p aL,c.tok i0 (c.home j)=.par q p aL:=by
   cases γ:c.tok i0 (c.home j) with
   | par q p aL=>exact⟨q,p,aL,rfl⟩
   | nil=>simp[γ,eX] at ψ
   | ch=>simp[γ,eX] at ψ
  obtain⟨q,p,aL,γ⟩:=ze;have cl:=h.bh.par i0 _ q p aL γ;subst cl;have cw:aL=.bB/\(c.bz (c.home j)≠0->c.rel (c.bz (c.home j))=true/\Knows t 0 (c.dH (c.bz (c.home j)))):=by
   by_cases e:c.bz (c.home j)=0
   ·have:=aj (c.home j);rw[<-e,γ] at this;refine⟨by cases aL<;>first|exact this.elim|rfl,λx=>absurd e x⟩
   ·obtain⟨r1,r2,r3⟩:=Β _ aP e k2;have:=r2 (c.home j);rw[γ] at this;exact⟨by cases aL<;>first|exact this.elim|rfl,λ_=>⟨r1,r3⟩⟩
  obtain⟨rfl,gm⟩:=cw;have tA:a8 gs.size (λa=>c.tok a (c.home j)) iA=1:=by
   rw[pz (φ:=iA) (λt Ν=>by cases t<;>simp_all [eX,iA]) Ζ.2.nZ k2 (by rw[γ];rfl),γ];rfl
  obtain⟨f1,f2,f3,f4,f5,f6⟩:=Ζ.2.Kx tA;have B5:=Ζ.2.FE;have l1:=fy (λa=>c.tok a (c.home j)) jr fe;have l2:=fy (λa=>c.tok a (c.home j)) kg fe;have oD:=fy (λa=>c.tok a (c.home j)) kh fe;simp only[Ν,jr,kg,kh] at l1 l2 oD;have Ξ:g=.gone:=by
   cases g with
   | gone=>rfl
   | work=>simp only[rY] at l1;omega
   | rel=>simp only[rY] at l1;omega
   | l2=>simp only[uY] at l2;omega
   | hS=>simp only[uZ] at oD;omega
  subst Ξ;have ep:c.rel j=true:=(h.bh.ey j k m _ fM Ν).2 η;refine⟨ep,λs=>?_,?_⟩
  ·by_cases e:s=c.home j
   ·subst e;rw[Ν];trivial
   ·exact Sm _ (h.bh.oL j s ep e)
  ·have ς:=h.ek.c2 j fM ep ⟨q,p,γ⟩;by_cases e:c.bz (c.home j)=0
   ·rw[e] at ς;exact ς
   ·obtain⟨r1,r2⟩:=gm e;exact Knows.of_before (h.ek.c3 j fM ep e r1) r2
theorem Sn {o:aS} {x:Tok} (h:Gone x) (J:∀k m g,x=.ch k m g->m≠.q):¬kj o x:=by
 cases x with
 | nil=>exact id
 | par _ _ aL=>cases aL<;>first|exact h.elim|exact id
 | ch k m g=>cases m<;>first|exact absurd rfl (J _ _ _ rfl)|exact id
theorem Inv.La (h:Inv P Q bq c gs w t) {g:Goroutine} (Ξ:gs[0]?=some g) (ν:KP P g (c.x 0) Q) (sl:Option (Nat×Nat)) (w1:World) :
  ∃v es,stepG P true g w=.ended (.done v) w es/\Good P (λv w'=>Q v/\fH (λ_ _=>False) (λ_=>False) bq w') (crowd gs w1 sl) (.done v) w (t++MemOp.ofEvents 0 g.frame.fn g.frame.place es):=by
 obtain⟨_,cS,hd,tA⟩:=ν;obtain⟨v,es,J,U,μ⟩:=tA w (h.mem.fit (.inl 0));refine⟨v,es,J,v,rfl,⟨μ,h.mem.keep⟩,?_⟩;have n3:=h.gone cS;have Lb:=h.bU.own (w':=w) h.mem h.hold 0 (G':=c.H (.inl 0)) (V':=c.aM 0) (es:=es) (fn:=g.frame.fn) (pos:=g.frame.place) (Nat.le_refl _)
  ⟨λb o v p δ=>.inr ⟨v,p,δ,id⟩,λb hb=>.inr hb⟩ (λb x γ=>.inl γ) U (λb x γ hle=>by
   have:=fI (h.mem.mr 0 b x.1 x.2 γ);omega)
 have quit:∀j x,j≠0->gs[j]?=some x->∃n,QuitsD P n (c.deaf j) x:=λj x ε γ=>by
  have fe:=(Array.getElem?_eq_some_iff.1 γ).1;obtain⟨r1,r2,_⟩:=n3 j ε fe;obtain⟨cP,ι,δ⟩:=h.vj j x γ;have Φ:∃n,QuitsD P n (c.deaf j) cP:=by
   cases Κ:c.T j with
   | leaf=>rw[Κ] at ι;exact ι.1 r1 r2
   | node f=>rw[Κ] at ι;exact ι.1 r1 r2
  rcases δ with rfl|⟨_,_,s,o,ν,hw,_⟩
  ·exact Φ
  ·refine absurd hw (Sn (r2 s) λk m g e hm=>?_);subst hm;have qT:g≠.work:=by rintro rfl;have:=r2 s;rw[e] at this;exact this
   rcases h.bh.oM j s k _ g o ν e qT with x|⟨x,_⟩<;>cases x
 refine⟨Lb.race,λk g' ς bA δ=>?_,⟨λx γ=>?_,rfl⟩,λj x γ ε=>?_⟩
 ·obtain⟨op,ω,hx⟩:=Option.map_eq_some_iff.1 ς;rcases getElem?_append_cases ω with⟨aP,jT⟩|⟨_,gy⟩
  ·have hy:t.g? k=some g':=by simp[Trace.g?,jT,hx]
   have F5:=h.ek.ef k g' hy;obtain⟨r1,_,r3⟩:=n3 g' bA F5;obtain⟨r7,Δ,Γ,a2,cL,fa⟩:=h.ek.c1 g' bA r1;obtain⟨q,z,vl,qU,F6⟩:=Knows.of_before (fa k hy ((zd aP).1 δ)) r3;refine⟨q,by simp[Trace.g?,getElem?_append_old (lt_size_of_getElem? vl),vl,qU],?_⟩;rcases F6 with rfl|F6
   ·exfalso;simp[Trace.g?,vl,qU] at hy;exact bA hy.symm
   ·exact hb_app _ F6
  ·obtain⟨e,_,rfl⟩:=Go.Conc.mem_ofEvents gy;exact absurd hx.symm bA
 ·obtain⟨j,ε⟩:=List.mem_iff_getElem?.1 γ;rw[List.getElem?_drop] at ε;obtain⟨n,Φ⟩:=quit (1+j) x R (by simpa[crowd] using ε);exact⟨n,Φ.leaves⟩
 ·obtain⟨n,Φ⟩:=quit j x ε γ;refine⟨n,?_⟩;have e:(t++MemOp.ofEvents 0 g.frame.fn g.frame.place es).deaf j (t++MemOp.ofEvents 0 g.frame.fn g.frame.place es).size=c.deaf j:=Lb.hears j;rw[e];exact Φ.hears _
def Comes (P:Program) (Q:Value->Prop) (bq:World) (m:Machine) (t:Trace):Prop:=
 ∃N last o w' t',runNT P (N+1) m t=(.ended o w',t')/\runN P N m=.next last/\step P last=.ended o w'/\Good P (λv w'=>Q v/\fH (λ_ _=>False) (λ_=>False) bq w') last o w' t'
theorem Comes.next {m b5:Machine} {u:Trace} (ν:stepT P m=(.next b5,u)) (h:Comes P Q bq b5 (t++u)):Comes P Q bq m t:=by
 obtain⟨n,last,o,w,t',J,U,μ,Θ⟩:=h;exact⟨n+1,last,o,w,t',by rw[runNT_succ_next ν];exact J,by rw[runN_succ_next ν];exact U,μ,Θ⟩
theorem Comes.last {m:Machine} {u:Trace} {o:Outcome} {w:World} (ν:stepT P m=(.ended o w,u)) (Ξ:Good P (λv w'=>Q v/\fH (λ_ _=>False) (λ_=>False) bq w') m o w (t++u)):Comes P Q bq m t:=
 ⟨0,m,o,w,t++u,by simp[runNT,ν],rfl,by simp[step,ν],Ξ⟩
def w9 (gs:Array Goroutine):Nat:=(gs.toList.filter λg=>decide (g.status=.running)).length
structure Ord (jV:List Nat) (n:Nat):Prop where
 nodup:jV.Nodup
 mem:∀i,i∈jV↔i<n
theorem Ord.part {jV:List Nat} {n i:Nat} (h:Ord jV n) (hi:i<n):∃a b,jV=a++i::b/\i∉a/\i∉b:=by
 obtain⟨a,b,rfl⟩:=List.append_of_mem ((h.mem i).2 hi);have:=h.nodup;rw[List.nodup_append] at this;obtain⟨_,U,μ⟩:=this;rw[List.nodup_cons] at U;exact⟨a,b,rfl,λκ=>μ i κ i η rfl,U.1⟩
theorem xa {B:Type} {T:Nat->B} {i:Nat} {x:B} {l:List Nat} (h:i∉l):l.map (upd T i x)=l.map T:=by
 apply List.map_congr_left;intro j ε;exact upd_ne _ _ (λe=>h (e▸ε))
theorem Ord.one {B:Type} {jV:List Nat} {n i:Nat} (h:Ord jV n) (hi:i<n) {T:Nat->gw B} {f:B->gw B} (Κ:T i=.node f) (k:B):ni (jV.map (upd T i (f k))) (jV.map T):=by
 obtain⟨a,b,rfl,κ,hb⟩:=h.part hi;simp only[List.map_append,List.map_cons,xa κ,xa hb,upd_same,Κ];exact .one _ _ _ _
theorem Ord.two {B:Type} {jV:List Nat} {n i:Nat} (h:Ord jV n) (hi:i<n) {T:Nat->gw B} {f:B->gw B} (Κ:T i=.node f) (k ag:B) :
  ∃B6,Ord B6 (n+1)/\ni (B6.map (upd (upd T i (f k)) n (f ag))) (jV.map T):=by
 have n4:n∉jV:=λγ=>by have:=(h.mem n).1 γ;omega
 obtain⟨a,b,rfl,κ,hb⟩:=h.part hi;have mC:n∉a:=λγ=>n4 (by simp[γ]);have Lc:n∉b:=λγ=>n4 (by simp[γ]);refine⟨a++i::n::b,⟨?_,λj=>?_⟩,?_⟩
 ·have:=h.nodup;rw[List.nodup_append] at this ⊢;obtain⟨J,U,μ⟩:=this;rw[List.nodup_cons] at U;refine⟨J,?_,λx γ y Ι=>?_⟩
  ·rw[List.nodup_cons,List.nodup_cons];exact⟨by simp;exact⟨R,U.1⟩,Lc,U.2⟩
  ·simp at Ι;rcases Ι with rfl|rfl|Ι
   ·exact μ x γ _ η
   ·rintro rfl;exact mC γ
   ·exact μ x γ y (by simp[Ι])
 ·have:=h.mem j;simp only[List.mem_append,List.mem_cons] at this ⊢;constructor
  ·rintro(γ|rfl|rfl|γ)
   ·have:=this.1 (.inl γ);omega
   ·omega
   ·omega
   ·have:=this.1 (.inr (.inr γ));omega
  ·intro γ;by_cases e:j=n
   ·exact .inr (.inr (.inl e))
   ·rcases this.2 R with γ|rfl|γ
    ·exact .inl γ
    ·exact .inr (.inl rfl)
    ·exact .inr (.inr (.inr γ))
 ·have br:i≠n:=by omega
  simp only[List.map_append,List.map_cons,xa mC,xa Lc,xa κ,xa hb,upd_same,upd_ne _ _ br,Κ];exact .two _ _ _ _ _
end
theorem B7 {B:Type} {f:Nat->B} {k:Nat} {x:B} (h:f k=x):upd f k x=f:=by
 funext j
 by_cases e:j=k
 ·subst e;rw[upd_same,h]
 ·rw[upd_ne _ _ e]
theorem iY (H:cM->χ) (i:Nat) (G:χ) (b:Nat):bP H (.inl i) G (.inr b)=H (.inr b):=bQ H G η
theorem vm (tok:Nat->Nat->Tok) (i s:Nat) (t:Tok):b4 tok i s t i=upd (tok i) s t:=by unfold b4;rw[upd_same]
theorem sa {tok:Nat->Nat->Tok} {i s j:Nat} (t:Tok) (h:j≠i):b4 tok i s t j=tok j:=by unfold b4;rw[upd_ne _ _ h]
theorem mD {B:Type} {a:Array B} {k:Nat} {x:B} (h:a[k]?=some x):k<a.size:=(Array.getElem?_eq_some_iff.1 h).1
theorem ofEvents_g {i:Nat} {fn:FuncId} {pos:String} {es:Array Event}:∀op∈MemOp.ofEvents i fn pos es,op.g=i:=λop Μ=>by obtain⟨e,_,rfl⟩:=Go.Conc.mem_ofEvents Μ;rfl
theorem Ld {i:Nat} {fn:FuncId} {pos:String}:MemOp.ofEvents i fn pos #[]=#[]:=by rw[ofEvents_eq];simp
theorem So (t:Trace) (i:Nat) (fn:FuncId) (pos:String) (es:Array Event) {j:Nat} (ε:j<=es.size):(t++MemOp.ofEvents i fn pos es).deaf i (t.size+j)=deafBehind (Deaf t i) (es.extract 0 j):=by
 have e:t++MemOp.ofEvents i fn pos es=(t++MemOp.ofEvents i fn pos (es.extract 0 j))++MemOp.ofEvents i fn pos (es.extract j es.size):=by
  rw[Array.append_assoc];congr 1;rw[ofEvents_eq,ofEvents_eq,ofEvents_eq,<-Array.map_append];congr 1;simp only[Array.extract_append_extract];rw[show max j es.size=es.size by omega];simp
 have cv:(t++MemOp.ofEvents i fn pos (es.extract 0 j)).size=t.size+j:=by rw[Array.size_append,ofEvents_eq];simp;omega
 rw[e,deaf_old R,<-cv];exact Deaf_own t i fn pos _
theorem F7 {t u:Trace} {k:Nat} (ς:t.size<=k) (δ:(t++u).counts k):∃op,u[k-t.size]?=some op/\(t++u)[k]?=some op/\∃x,op.act.touch?=some x/\x.loc.isMemory=true/\(x.kind≠.atomic\/(t++u).heard k):=by
 obtain⟨x,J,U,μ⟩:=δ;obtain⟨op,ω,γ⟩:=touch_of (t:=t++u) (i:=k) J;exact⟨op,by rw[Array.getElem?_append_right ς] at ω;exact ω,ω,x,γ,U,μ⟩
theorem xb {t u:Trace} (h:∀op∈u,op.act.touch?=none):∀k,t.size<=k->¬(t++u).counts k:=λk ς δ=>by
 obtain⟨op,J,_,x,μ,_⟩:=F7 ς δ;rw[h op (mem_of_getElem? J)] at μ;cases μ
theorem Sp {t:Trace} {i:Nat} {fn:FuncId} {pos:String} {es:Array Event} (h:∀e∈es,BS e):∀k,t.size<=k->¬(t++MemOp.ofEvents i fn pos es).counts k:=λk ς δ=>by
 obtain⟨op,J,_,x,μ,Θ,_⟩:=F7 ς δ;obtain⟨e,he,rfl⟩:=Go.Conc.mem_ofEvents (mem_of_getElem? J);obtain⟨loc,wr,oH⟩:=e;rcases h _ he with ο|ο<;>simp only at ο<;>subst ο<;>simp[MemAct.ofEvent,MemAct.touch?] at μ;subst μ;simp[Loc.isMemory] at Θ
theorem B8 {s d i:Nat} {sp:Spec} {es:Array Event} {fn:FuncId} {pos:String} (h:oF s sp d es) {op:MemOp} (ω:op∈MemOp.ofEvents i fn pos es) :
  (op.act=.mark .disable\/op.act=.mark .enable)\/∃b off wr,op.act=.access ⟨.cell ⟨b,off,none⟩,wr,true⟩/\ew s sp b:=by
 obtain⟨e,he,rfl⟩:=Go.Conc.mem_ofEvents ω;obtain⟨j,ε⟩:=Array.mem_iff_getElem?.1 he;obtain⟨loc,wr,oH⟩:=e;rcases h.2 j _ ε with ο|ο|⟨b,off,Sq,ο,hb,_⟩
 ·simp only at ο;subst ο;exact .inl (.inl rfl)
 ·simp only at ο;subst ο;exact .inl (.inr rfl)
 ·cases ο;exact .inr ⟨b,off,_,rfl,hb⟩
theorem Sr {t:Trace} {s i:Nat} {sp:Spec} {fn:FuncId} {pos:String} {es:Array Event} (h:oF s sp (Deaf t i) es):∀k,t.size<=k->¬(t++MemOp.ofEvents i fn pos es).counts k:=λk ς δ=>by
 obtain⟨op,J,U,x,μ,Θ,av⟩:=F7 ς δ;rw[ofEvents_eq,Array.getElem?_map] at J;obtain⟨e,he,rfl⟩:=Option.map_eq_some_iff.1 J;have aP:k-t.size<es.size:=mD he;obtain⟨loc,wr,oH⟩:=e;rcases h.2 _ _ he with ο|ο|⟨b,off,Sq,ο,hb,hd⟩
 ·simp only at ο;subst ο;simp[MemAct.ofEvent,MemAct.touch?] at μ
 ·simp only at ο;subst ο;simp[MemAct.ofEvent,MemAct.touch?] at μ
 ·cases ο;simp[MemAct.ofEvent,MemAct.touch?] at μ;subst μ;rcases av with av|⟨g,Ξ,Τ⟩
  ·exact av rfl
  ·simp[Trace.g?,U] at Ξ;subst Ξ;have:=So t i fn pos es (Nat.le_of_lt aP);rw[show t.size+(k-t.size)=k by omega] at this;rw[this] at Τ;omega
section
variable {P:Program} {Q:Value->Prop} {bq:World} {c c':de} {gs:Array Goroutine} {w w':World} {t:Trace} {i:Nat} {g g':Goroutine} {es:Array Event}
theorem Inv.low (h:Inv P Q bq c gs w t) {s b:Nat} {o:aS} (ν:c.O s=some o) (hb:ew s o.toSpec b):b<w.heap.size:=by
 obtain⟨⟨ty,J⟩,U⟩:=h.mem.fV s o ν;rcases hb with rfl|hb
 ·exact fI J
 ·obtain⟨jP,μ⟩:=U b hb;exact fI μ
theorem Inv.obj (h:Inv P Q bq c gs w t) {s:Nat} (Ν:c.tok i s≠.nil):∃o,c.O s=some o:=by
 cases ν:c.O s with
 | none=>exact absurd (h.bh.bare s ν i) Ν
 | some o=>exact⟨o,rfl⟩
theorem iV.grow {H:cM->χ} {aM:Nat->Nat->Option (Array Value×TypeId)} {tok:Nat->Nat->Tok} {O:Nat->Option aS} {bz deaf:Nat->Nat} {N e4:Nat} (h:iV H aM tok O bz deaf N t) (cm:N<=e4):iV H aM tok O bz deaf e4 t:=
 ⟨h.race,λop Μ=>MemAct.low_mono cm (h.low op Μ),h.norel,h.perms,h.oG,h.cont,h.hears⟩
theorem w8.app {aM pG:Nat->Nat->Option (Array Value×TypeId)} {tok eF:Nat->Nat->Tok} {O O':Nat->Option aS} {rel:Nat->Bool} {dH:Nat->Nat} {u:Trace} {N:Nat} (h:w8 aM tok O rel dH t) (ts:∀op∈t,op.act.low N)
  (hu:∀op∈u,∀b,op.act≠.mark (.releaseMerge ⟨b,0,none⟩)) (hv:∀j b v,pG j b=some v->(∃fr,aM j b=some fr)\/N<=b) (dD:∀s o',O' s=some o'->∃o,O s=some o/\o.aW=o'.aW)
  (Ν:∀j s k mu g,tok j s=.ch k mu g->∃k mu g,eF j s=.ch k mu g):w8 pG eF O' rel dH (t++u):=by
 refine⟨λs o' m ν hm p op ψ ω=>?_,λj b v hb op Μ ω=>?_⟩
 ·obtain⟨o,J,U⟩:=dD s o' ν;rcases getElem?_append_cases ψ with⟨_,h9⟩|⟨_,gy⟩
  ·obtain⟨⟨k,mu,g,μ⟩,Θ⟩:=h.ju s o m J (by rw[U];exact hm) p op h9 ω;exact⟨Ν _ _ _ _ _ μ,λι=>(Θ ι).app u⟩
  ·exact absurd ω (hu op gy m)
 ·rcases Array.mem_append.1 Μ with k3|k3
  ·rcases hv j b v hb with⟨fr,lQ⟩|hle
   ·exact h.vi j b fr lQ op k3 ω
   ·have:=ts op k3;rw[ω] at this;simp only[MemAct.low] at this;omega
  ·exact hu op k3 b ω
theorem w7.zf {H H':cM->χ} {tok:Nat->Nat->Tok} {O:Nat->Option aS} (h:w7 H tok O) (Α:∀b,H' (.inr b)=H (.inr b)):w7 H' tok O:=
 ⟨λs o m a b d e=>by rw[Α];exact h.pF s o m a b d e,λs o a b=>by rw[Α];exact h.mz s o a b⟩
theorem Inv.laid (h:Inv P Q bq c gs w t) (Ξ:gs[i]?=some g) {u:Trace}
  (mem:ha c'.H c'.aM c'.O bq w') (hold:iB c'.H c'.aM c'.O bq.heap.size) (bU:iV c'.H c'.aM c'.tok c'.O c'.bz c'.deaf w'.heap.size (t++u))
  (bh:eS gs.size c'.tok c'.spec c'.view c'.rel c'.O c'.bz c'.home) (eE:w7 c'.H c'.tok c'.O) (ek:vh gs.size c'.tok c'.rel c'.bz c'.home c'.dH (t++u)) (fW:w8 c'.aM c'.tok c'.O c'.rel c'.dH (t++u))
  (F8:Rec P Q c' i g') (γ:∀j,j≠i->c'.x j=c.x j/\c'.T j=c.T j)
  (hw:(mayWake P g=true/\iU g')\/∀j s o,j≠i->c.O s=some o->kj o (c.tok j s)->∃o',c'.O s=some o'/\kj o' (c.tok j s)) :
  Inv P Q bq c' ((gs.map (woken P g g' w')).setIfInBounds i g') w' (t++u):=by
 have cv:((gs.map (woken P g g' w')).setIfInBounds i g').size=gs.size:=η
 have br:i<gs.size:=mD Ξ;refine⟨by rw[cv];exact h.pos,mem,hold,bU,by rw[cv];exact bh,eE,by rw[cv];exact ek,fW,λj b hb=>?_⟩;by_cases e:j=i
 ·subst e;rw[Array.getElem?_setIfInBounds_self_of_lt (by simpa using br)] at hb;cases hb;exact F8
 ·rw[Array.getElem?_setIfInBounds_ne (Ne.symm e),Array.getElem?_map] at hb;obtain⟨cU,J,rfl⟩:=Option.map_eq_some_iff.1 hb;exact(h.vj j cU J).woken (i:=0) (γ j e).1 (γ j e).2 (hw.imp id λhw s o ν oO=>hw j s o e ν oO)
def h' (P:Program) (Q:Value->Prop) (bq:World) (c:de) (gs:Array Goroutine) (w:World) (t:Trace) (i:Nat) (f:Bool×Goroutine×aZ->gw (Bool×Goroutine×aZ)):Prop:=
 ∀sl,∃c' qV w' u,runT P (crowd gs w sl) i=(.next (crowd qV w' sl),u)/\Inv P Q bq c' qV w' (t++u)/\
  ((qV.size=gs.size/\∃k,c'.T=upd c.T i (f k))\/(qV.size=gs.size+1/\∃k ag,c'.T=upd (upd c.T i (f k)) gs.size (f ag))\/(qV.size=gs.size/\c'.T=c.T/\w9 qV<w9 gs))
def B9 (P:Program) (Q:Value->Prop) (bq:World) (c:de) (gs:Array Goroutine) (w:World) (t:Trace) (i:Nat) (f:Bool×Goroutine×aZ->gw (Bool×Goroutine×aZ)):Prop:=
 ∃c',Inv P Q bq c' gs w t/\∃k,c'.T=upd c.T i (f k)
abbrev lR (P:Program) (Q:Value->Prop) (f:Bool×Goroutine×aZ->gw (Bool×Goroutine×aZ)):y0:=λu9 g' dn=>jQ P Q (f (u9,g',dn)) u9 g' dn
theorem h'.go {f:Bool×Goroutine×aZ->gw (Bool×Goroutine×aZ)} (Ξ:gs[i]?=some g) (ν:stepG P (i==0) g w=.go g' w' es)
  (h:Inv P Q bq c' ((gs.map (woken P g g' w')).setIfInBounds i g') w' (t++MemOp.ofEvents i g.frame.fn g.frame.place es)) (k:Bool×Goroutine×aZ) (Κ:c'.T=upd c.T i (f k)):h' P Q bq c gs w t i f:=
 λ_=>⟨c',_,w',_,runT_crowd_go Ξ ν,h,.inl ⟨η,k,Κ⟩⟩
variable {f:Bool×Goroutine×aZ->gw (Bool×Goroutine×aZ)}
theorem Inv.FU (h:Inv P Q bq c gs w t) (Ξ:gs[i]?=some g) (ς:KF P (i==0) (lR P Q f) g (c.x i)):h' P Q bq c gs w t i f:=by
 have hw:=ς w (h.mem.fit (.inl i)) (h.mem.mr i);cases ν:stepG P (i==0) g w with
 | go g' w' es=>
  rw[ν] at hw;obtain⟨G',V',ι,tB,Υ,b1,tC,qO,gk,FV,aN⟩:=hw;have br:i<gs.size:=mD Ξ;have Le:∀e∈es,hq (c.H (.inl i)) w.heap.size w'.heap.size e:=λe he=>by
   have:=gk e he;split at this
   ·exact this.FU
   ·exact this
  have γ:∀j,j≠i->({c with H:=bP c.H (.inl i) G',aM:=upd c.aM i V',T:=upd c.T i (f (i==0,g',{c.x i with G:=G',aM:=V'}))}:de).x j=c.x j:=λj ε=>by
   have:(Sum.inl j:cM)≠.inl i:=λe=>ε (by cases e;rfl);simp[de.x,bQ _ _ this,upd_ne _ _ ε]
  refine h'.go (c':={c with H:=bP c.H (.inl i) G',aM:=upd c.aM i V',T:=upd c.T i (f (i==0,g',{c.x i with G:=G',aM:=V'}))}) Ξ ν ?_ _ rfl;refine h.laid Ξ (h.mem.own h.hold i tB Υ b1 rfl) (h.hold.own h.mem h.mem.keep.size i tC qO) (h.bU.own h.mem h.hold i tB.size tC qO Le FV) h.bh ?_ ?_ ?_ ?_ (λj ε=>⟨γ j ε,upd_ne _ _ ε⟩) (.inr λj s o _ a b=>⟨o,a,b⟩)
  ·exact h.eE.zf λb=>iY c.H i G' b
  ·refine h.ek.app br ofEvents_g (λep=>Sp λe he=>?_) (λ_ _ _ x=>x) (λ_ _ _ _ x=>x);have:=gk e he;have ft:(c.x i).rel=true:=ep;simpa only[ft,if_true] using this
  ·refine h.fW.app h.bU.low (λop Μ b hb=>?_) (λj b v hv=>?_) (λs o' ν=>⟨o',ν,rfl⟩) (λj s k mu g e=>⟨k,mu,g,e⟩)
   ·obtain⟨e,he,rfl⟩:=Go.Conc.mem_ofEvents Μ;have dI:=Le e he;obtain⟨loc,wr,oH⟩:=e;cases loc with
    | mark m=>simp only[hq] at dI;subst dI;simp[MemAct.ofEvent] at hb
    | obj r=>cases wr<;>cases oH<;>simp[MemAct.ofEvent] at hb
    | _=>simp[MemAct.ofEvent] at hb
   ·replace hv:upd c.aM i V' j b=some v:=hv
    by_cases ε:j=i
    ·subst ε;rw[upd_same] at hv;exact(qO b v hv).imp (λx=>⟨v,x⟩) (λx=>x.1)
    ·rw[upd_ne _ _ ε] at hv;exact .inl ⟨v,hv⟩
  ·refine⟨g',?_,.inl rfl⟩;have e:({c with H:=bP c.H (.inl i) G',aM:=upd c.aM i V',T:=upd c.T i (f (i==0,g',{c.x i with G:=G',aM:=V'}))}:de).x i={c.x i with G:=G',aM:=V'}:=by
    simp[de.x,upd_same]
   rw[e];show jQ P Q (upd c.T i (f (i==0,g',{c.x i with G:=G',aM:=V'})) i) _ _ _;rw[upd_same];exact aN
 | _=>rw[ν] at hw;exact hw.elim
theorem ha.zf {H:cM->χ} {aM:Nat->Nat->Option (Array Value×TypeId)} {O O':Nat->Option aS} (h:ha H aM O bq w) (e:O'=O):ha H aM O' bq w:=e▸h
theorem Inv.marked (h:Inv P Q bq c gs w t) (Ξ:gs[i]?=some g) {m:Mark} (hm:m=.disable\/m=.enable) {d:Nat} (hd:d=deafBehind (c.deaf i) #[Go.ConcR.mk m]) (ν:stepG P (i==0) g w=.go g' w #[Go.ConcR.mk m])
  (aN:lR P Q f (i==0) g' {c.x i with deaf:=d}):h' P Q bq c gs w t i f:=by
 have br:i<gs.size:=mD Ξ
 have nt:∀op∈MemOp.ofEvents i g.frame.fn g.frame.place #[Go.ConcR.mk m],op.act.touch?=none:=λop Μ=>by
  obtain⟨e,he,rfl⟩:=Go.Conc.mem_ofEvents Μ;simp at he;subst he;rcases hm with rfl|rfl<;>rfl
 have mC:∀op∈MemOp.ofEvents i g.frame.fn g.frame.place #[Go.ConcR.mk m],op.act=.mark .disable\/op.act=.mark .enable:=λop Μ=>by
  obtain⟨e,he,rfl⟩:=Go.Conc.mem_ofEvents Μ;simp at he;subst he;rcases hm with rfl|rfl
  ·exact .inl rfl
  ·exact .inr rfl
 refine h'.go (c':={c with deaf:=upd c.deaf i d,T:=upd c.T i (f (i==0,g',{c.x i with deaf:=d}))}) Ξ ν ?_ _ rfl;refine h.laid Ξ h.mem h.hold ?_ h.bh h.eE ?_ ?_ ⟨g',?_,.inl rfl⟩ (λj ε=>⟨by simp[de.x,upd_ne _ _ ε],upd_ne _ _ ε⟩) (.inr λj s o _ a b=>⟨o,a,b⟩)
 ·refine h.bU.ext h.hold i ofEvents_g (λop Μ=>?_) (λop Μ a κ=>?_) (λop Μ b hb=>?_) (λj=>?_)
  ·rcases mC op Μ with e|e<;>rw[e]<;>trivial
  ·rcases mC op Μ with e|e<;>rw[e] at κ<;>cases κ
  ·rw[nt op Μ] at hb;cases hb
  ·by_cases e:j=i
   ·subst e;rw[Deaf_own,h.bU.hears,hd];exact(upd_same ..).symm
   ·rw[Deaf_other t (Ne.symm e) _ ofEvents_g,h.bU.hears];exact(upd_ne _ _ e).symm
 ·exact h.ek.app br ofEvents_g (λ_=>xb nt) (λ_ _ _ x=>x) (λ_ _ _ _ x=>x)
 ·refine h.fW.app h.bU.low (λop Μ b hb=>?_) (λj b v hv=>.inl ⟨v,hv⟩) (λs o' ν=>⟨o',ν,rfl⟩) (λj s k mu g e=>⟨k,mu,g,e⟩);rcases mC op Μ with e|e<;>rw[e] at hb<;>cases hb
 ·have e:({c with deaf:=upd c.deaf i d,T:=upd c.T i (f (i==0,g',{c.x i with deaf:=d}))}:de).x i={c.x i with deaf:=d}:=by
   simp[de.x,upd_same]
  rw[e];show jQ P Q (upd c.T i (f (i==0,g',{c.x i with deaf:=d})) i) _ _ _;rw[upd_same];exact aN
theorem Inv.Ss (h:Inv P Q bq c gs w t) (Ξ:gs[i]?=some g) (ς:KG P (i==0) (lR P Q f) g (c.x i)):h' P Q bq c gs w t i f:=by
 obtain⟨g',_,ς|⟨_,ς⟩⟩:=ς
 ·obtain⟨J,U⟩:=ς w (h.mem.fit (.inl i));exact h.marked Ξ (.inl rfl) (by rfl) J U
 ·obtain⟨J,U⟩:=ς w (h.mem.fit (.inl i));exact h.marked Ξ (.inr rfl) (by rfl) J U
theorem Inv.St (h:Inv P Q bq c gs w t) (Ξ:gs[i]?=some g) (ς:KH P (i==0) (lR P Q f) g (c.x i)):h' P Q bq c gs w t i f:=by
 obtain⟨s,n,p,aL,g',off,wr,J,U,hs,μ,Θ⟩:=ς;have br:i<gs.size:=mD Ξ;obtain⟨ν,aN⟩:=Θ w (h.mem.fit (.inl i));have dW:c.tok i s=.par n p aL:=J;obtain⟨o,ω⟩:=h.obj (i:=i) (s:=s) (by rw[dW];simp);have ep:c.rel i=false:=hs;have mC:∀op∈MemOp.ofEvents i g.frame.fn g.frame.place #[Go.ConcR.mk (if wr then .write ⟨s,off,none⟩ else .read ⟨s,off,none⟩)],op.act=.mark (if wr then .write ⟨s,off,none⟩ else .read ⟨s,off,none⟩):=λop Μ=>by
  obtain⟨e,he,rfl⟩:=Go.Conc.mem_ofEvents Μ;simp at he;subst he;rfl
 refine h'.go (c':={c with T:=upd c.T i (f (i==0,g',c.x i))}) Ξ ν ?_ _ rfl;refine h.laid Ξ h.mem h.hold ?_ h.bh h.eE ?_ ?_ ⟨g',?_,.inl rfl⟩ (λj ε=>⟨rfl,upd_ne _ _ ε⟩) (.inr λj s o _ a b=>⟨o,a,b⟩)
 ·refine h.bU.ext h.hold i ofEvents_g (λop Μ=>?_) (λop Μ a κ=>?_) (λop Μ b hb=>?_) (λj=>?_)
  ·rw[mC op Μ];have:=h.low ω (.inl rfl);cases wr<;>exact this
  ·rw[mC op Μ] at κ;cases wr<;>cases κ
  ·rw[mC op Μ] at hb;refine⟨s,o,s,off,ω,.inl rfl,?_⟩;cases wr<;>simp[MemAct.touch?] at hb<;>subst hb<;>exact⟨rfl,.inr ⟨rfl,h.bh.par i s n p aL dW⟩⟩
  ·by_cases e:j=i
   ·subst e;rw[Deaf_own,h.bU.hears];cases wr<;>rfl
   ·rw[Deaf_other t (Ne.symm e) _ ofEvents_g,h.bU.hears]
 ·exact h.ek.app br ofEvents_g (λγ=>by rw[ep] at γ;cases γ) (λ_ _ _ x=>x) (λ_ _ _ _ x=>x)
 ·refine h.fW.app h.bU.low (λop Μ b hb=>?_) (λj b v hv=>.inl ⟨v,hv⟩) (λs o' ν=>⟨o',ν,rfl⟩) (λj s k mu g e=>⟨k,mu,g,e⟩);rw[mC op Μ] at hb;cases wr<;>cases hb
 ·show jQ P Q (upd c.T i (f (i==0,g',c.x i)) i) _ _ _;rw[upd_same];exact aN
theorem Inv.quits (h:Inv P Q bq c gs w t) (Ξ:gs[i]?=some g) (ς:KO P (i==0) (lR P Q f) g (c.x i)):h' P Q bq c gs w t i f:=by
 obtain⟨oP,ι,ep,n3,g',es,hm,ν,aN⟩:=ς;have br:i<gs.size:=mD Ξ;have nt:∀op∈MemOp.ofEvents i g.frame.fn g.frame.place es,op.act.touch?=none:=λop Μ=>by
  obtain⟨e,he,rfl⟩:=Go.Conc.mem_ofEvents Μ;exact touch_mute (hm e he)
 have mC:∀op∈MemOp.ofEvents i g.frame.fn g.frame.place es,op.act=.mark .disable\/op.act=.mark .enable:=λop Μ=>by
  obtain⟨⟨loc,wr,oH⟩,he,rfl⟩:=Go.Conc.mem_ofEvents Μ;have:=hm _ he;cases loc<;>simp[Event.mute] at this;rename_i m;cases m<;>simp_all [MemAct.ofEvent]
 refine h'.go (c':={c with deaf:=upd c.deaf i (deafBehind (c.deaf i) es),T:=upd c.T i (f (i==0,g',{c.x i with deaf:=deafBehind (c.x i).deaf es}))}) Ξ (by rw[oP];exact ν w) ?_ _ rfl;refine h.laid Ξ h.mem h.hold ?_ h.bh h.eE ?_ ?_ ⟨g',?_,.inl rfl⟩ (λj ε=>⟨by simp[de.x,upd_ne _ _ ε],upd_ne _ _ ε⟩) (.inr λj s o _ a b=>⟨o,a,b⟩)
 ·refine h.bU.ext h.hold i ofEvents_g (λop Μ=>?_) (λop Μ a κ=>?_) (λop Μ b hb=>?_) (λj=>?_)
  ·rcases mC op Μ with e|e<;>rw[e]<;>trivial
  ·rcases mC op Μ with e|e<;>rw[e] at κ<;>cases κ
  ·rw[nt op Μ] at hb;cases hb
  ·by_cases e:j=i
   ·subst e;rw[Deaf_own,h.bU.hears];exact(upd_same ..).symm
   ·rw[Deaf_other t (Ne.symm e) _ ofEvents_g,h.bU.hears];exact(upd_ne _ _ e).symm
 ·exact h.ek.app br ofEvents_g (λ_=>xb nt) (λ_ _ _ x=>x) (λ_ _ _ _ x=>x)
 ·refine h.fW.app h.bU.low (λop Μ b hb=>?_) (λj b v hv=>.inl ⟨v,hv⟩) (λs o' ν=>⟨o',ν,rfl⟩) (λj s k mu g e=>⟨k,mu,g,e⟩);rcases mC op Μ with e|e<;>rw[e] at hb<;>cases hb
 ·have e:({c with deaf:=upd c.deaf i (deafBehind (c.deaf i) es),T:=upd c.T i (f (i==0,g',{c.x i with deaf:=deafBehind (c.x i).deaf es}))}:de).x i={c.x i with deaf:=deafBehind (c.x i).deaf es}:=by
   simp[de.x,upd_same]
  rw[e];show jQ P Q (upd c.T i (f (i==0,g',{c.x i with deaf:=deafBehind (c.x i).deaf es})) i) _ _ _;rw[upd_same];exact aN
end
end Go.TL
namespace Go.TL
open Go.Conc
open Go.ConcM (OsLater)
open Go.ConcN (sumTo upd sumTo_upd upd_ne upd_same sumTo_congr le_sumTo)
section
variable {P:Program} {Q:Value->Prop} {bq:World} {c c':de} {gs:Array Goroutine} {w w':World} {t:Trace} {i:Nat} {g g':Goroutine} {es:Array Event}
variable {f:Bool×Goroutine×aZ->gw (Bool×Goroutine×aZ)}
theorem Su {o o':aS} {t t':Tok} (h:Act o t o' t'):(∀q p,t'≠.par q p .bB)/\(∀q p,t≠.par q p .bB)/\∀k L g,t=.ch k (.dr L) g->∃g',t'=.ch k (.dr L) g':=by
 cases h<;>refine⟨λq p e=>?_,λq p e=>?_,λk L g e=>?_⟩<;>cases e
 all_goals exact⟨_,rfl⟩
theorem Lf {B:Type} (p:B->Bool) {y:B} (Ι:p y=false):∀(l:List B) (k:Nat) (x:B),l[k]?=some x->p x=true->((l.set k y).filter p).length<(l.filter p).length
 | [],k,x,h,_=>by simp at h
 | z::l,0,x,h,γ=>by
  simp at h;subst h;simp[List.set,γ,Ι]
 | z::l,k+1,x,h,γ=>by
  have:=Lf p Ι l k x (by simpa using h) γ;simp only[List.set,List.filter_cons];split<;>simpa using this
theorem Sv {k:Nat} (Ξ:gs[k]?=some g) (ι:g.status=.running) (hb:g'.status≠.running):w9 (gs.setIfInBounds k g')<w9 gs:=by
 unfold w9;rw[Array.toList_setIfInBounds];exact Lf (λg:Goroutine=>decide (g.status=.running)) (by simp[hb]) _ k g (by rw[<-Ξ];simp) (by simp[ι])
theorem Inv.atom (h:Inv P Q bq c gs w t) (Ξ:gs[i]?=some g) (ι:iU g) (Κ:jQ P Q (c.T i) (i==0) g (c.x i)) (ς:Atom P (i==0) (lR P Q f) g (c.x i)):h' P Q bq c gs w t i f:=by
 obtain⟨s,sp,J,U,μ⟩:=ς;have br:i<gs.size:=mD Ξ;obtain⟨o,ω,b0⟩:=h.bh.qP i s sp J;have ts:∀b,ew s sp b->b<w.heap.size:=λb hb=>h.low ω (by rw[b0];exact hb);have hs:¬gj (c.tok i s):=U;have zg:c.tok i s≠.nil:=λe=>hs (by rw[e];trivial);have Lg:∀{w':World} {es:Array Event} {k:Nat},fH (λb _=>ew s sp b) (λ_=>False) w w'->oF s sp (c.x i).deaf es->iV c.H c.aM c.tok c.O c.bz c.deaf w'.heap.size (t++MemOp.ofEvents i g.frame.fn g.frame.place es):=λ{w' es k} tB dI=>by
  refine iV.grow ?_ tB.size;refine h.bU.ext h.hold i ofEvents_g (λop Μ=>?_) (λop Μ a κ=>?_) (λop Μ b hb=>?_) (λj=>?_)
  ·rcases B8 dI Μ with(e|e)|⟨b,off,wr,e,hb⟩
   ·rw[e];trivial
   ·rw[e];trivial
   ·rw[e];exact ts b hb
  ·rcases B8 dI Μ with(e|e)|⟨b,off,wr,e,hb⟩<;>rw[e] at κ<;>cases κ
  ·rcases B8 dI Μ with(e|e)|⟨Ψ,off,wr,e,dT⟩
   ·rw[e] at hb;cases hb
   ·rw[e] at hb;cases hb
   ·rw[e] at hb;simp[MemAct.touch?] at hb;subst hb;exact⟨s,o,Ψ,off,ω,by rw[b0];exact dT,rfl,.inl rfl⟩
  ·by_cases e:j=i
   ·subst e;rw[Deaf_own,h.bU.hears];exact dI.1
   ·rw[Deaf_other t (Ne.symm e) _ ofEvents_g,h.bU.hears]
 have norel:∀{es:Array Event},oF s sp (c.x i).deaf es->∀op∈MemOp.ofEvents i g.frame.fn g.frame.place es,∀b,op.act≠.mark (.releaseMerge ⟨b,0,none⟩):=λdI op Μ b hb=>by
  rcases B8 dI Μ with(e|e)|⟨Ψ,off,wr,e,dT⟩<;>rw[e] at hb<;>cases hb
 have Lh:∀{es:Array Event},oF s sp (c.x i).deaf es->∀k,t.size<=k->¬(t++MemOp.ofEvents i g.frame.fn g.frame.place es).counts k:=λdI=>Sr (s:=s) (sp:=sp) (by rw[h.bU.hears];exact dI);rcases μ w (eK gs.size o (λj=>c.tok j s)) o (h.mem.fit (.inl i)) (h.mem.mr i) b0 (h.mem.fV s o ω) (λgS lM hv=>by
   obtain⟨dJ,Δ,Γ,a2⟩:=h.bh.va i s gS lM hv;rw[ω] at Δ;cases Δ;exact⟨Γ,a2⟩) ⟨gs.size,λj=>c.tok j s,i,h.bh.bf s o ω,br,rfl,λk L g e=>h.bh.dr i s k L g o ω e⟩ with hgo|⟨hw,cF,ν⟩
 ·cases ν:stepG P (i==0) g w with
  | go g' w' es=>
   rw[ν] at hgo;obtain⟨ft,tB,dI,ia⟩:=hgo;have Li:fH (λb _=>ew s o.toSpec b) (λ_=>False) w w':=by rw[b0];exact tB
   rcases ia with⟨bE,aN⟩|⟨o',t',tD,bE,Sw,aN⟩
   ·refine h'.go (c':={c with view:=upd c.view i (upd (c.view i) s (some (eK gs.size o (λj=>c.tok j s),o))),T:=upd c.T i (f (i==0,g',{c.x i with view:=upd (c.view i) s (some (eK gs.size o (λj=>c.tok j s),o))}))}) Ξ ν ?_ _ rfl;refine h.laid Ξ ((h.mem.atom h.hold rfl ω rfl Li bE).zf (B7 ω).symm) h.hold (Lg (k:=0) tB dI) (h.bh.look ω) h.eE
     (h.ek.app br ofEvents_g (λ_=>Lh dI) (λ_ _ _ x=>x) (λ_ _ _ _ x=>x))
     (h.fW.app h.bU.low (norel dI) (λj b v hv=>.inl ⟨v,hv⟩) (λs o' ν=>⟨o',ν,rfl⟩) (λj s k mu g e=>⟨k,mu,g,e⟩))
     ⟨g',?_,.inl rfl⟩ (λj ε=>⟨by simp[de.x,upd_ne _ _ ε],upd_ne _ _ ε⟩) (.inr λj s o _ a b=>⟨o,a,b⟩)
    have e:({c with view:=upd c.view i (upd (c.view i) s (some (eK gs.size o (λj=>c.tok j s),o))),T:=upd c.T i (f (i==0,g',{c.x i with view:=upd (c.view i) s (some (eK gs.size o (λj=>c.tok j s),o))}))}:de).x i={c.x i with view:=upd (c.view i) s (some (eK gs.size o (λj=>c.tok j s),o))}:=by
     simp[de.x,upd_same]
    rw[e];show jQ P Q (upd c.T i (f (i==0,g',{c.x i with view:=upd (c.view i) s (some (eK gs.size o (λj=>c.tok j s),o))})) i) _ _ _;rw[upd_same];exact aN
   ·have Sx:=KA (N:=gs.size) (τ:=λj=>c.tok j s) br rfl tD
    have Sy:=aN _ Sx;obtain⟨wZ,BY,F1⟩:=KX tD;obtain⟨Sz,SA,SB⟩:=Su tD;have dD:=mx.upd ω wZ;have tE:∀j r q p,b4 c.tok i s t' j r=.par q p .bB↔c.tok j r=.par q p .bB:=λj r q p=>by
     by_cases e:j=i/\r=s
     ·obtain⟨rfl,rfl⟩:=e;rw[fb];exact⟨λx=>absurd x (Sz q p),λx=>absurd x (SA q p)⟩
     ·rw[e2 _ e]
    have F9:∀j r k L g,c.tok j r=.ch k (.dr L) g->∃g',b4 c.tok i s t' j r=.ch k (.dr L) g':=λj r k L g ε=>by
     by_cases e:j=i/\r=s
     ·obtain⟨rfl,rfl⟩:=e;rw[fb];exact SB k L g ε
     ·rw[e2 _ e];exact⟨g,ε⟩
    have keepW:o'=o->∀j r q,j≠i->c.O r=some q->kj q (c.tok j r)->∃jv,upd c.O s (some o') r=some jv/\kj jv (c.tok j r):=λjT j r q _ a b=>⟨q,by
     by_cases e:r=s
     ·subst e;subst jT;rw[ω] at a;cases a;exact upd_same _ _ _
     ·rw[upd_ne _ _ e];exact a,b⟩
    have hc:∀r q,upd c.O s (some o') r=some q->∃iE,c.O r=some iE/\iE.toSpec=q.toSpec/\iE.L=q.L/\iE.al=q.al:=λr q Φ=>by
     by_cases e:r=s
     ·subst e;rw[upd_same] at Φ;cases Φ;exact⟨o,ω,wZ.symm,BY.symm,F1.symm⟩
     ·rw[upd_ne _ _ e] at Φ;exact⟨q,Φ,rfl,rfl,rfl⟩
    let dn:aZ:={c.x i with tok:=upd (c.tok i) s t',view:=upd (c.view i) s (some (eK gs.size o' (upd (λj=>c.tok j s) i t'),o'))};refine h'.go (c':={c with tok:=b4 c.tok i s t',view:=upd c.view i (upd (c.view i) s (some (eK gs.size o' (upd (λj=>c.tok j s) i t'),o'))),O:=upd c.O s (some o'),T:=upd c.T i (f (i==0,g',dn))}) Ξ ν ?_ _ rfl;refine h.laid Ξ (h.mem.atom h.hold rfl ω wZ Li bE) (h.hold.nf dD) ((Lg (k:=0) tB dI).Sf dD λj r ε e=>?_) (h.bh.act ω rfl tD) ⟨λr q m Φ hm cw iD=>?_,λr q Φ cw=>?_⟩
     (h.ek.app br ofEvents_g (λ_=>Lh dI) (λs q p ⟨j,x⟩=>⟨j,(tE j s q p).1 x⟩) (λj s q p x=>(tE j s q p).1 x))
     (h.fW.app h.bU.low (norel dI) (λj b v hv=>.inl ⟨v,hv⟩) (λr q Φ=>let ⟨iE,a,b,_⟩:=hc r q Φ;⟨iE,a,by rw[b]⟩) (λj r k mu g e=>?_))
     ⟨g',?_,.inl rfl⟩ (λj ε=>⟨by simp[de.x,upd_ne _ _ ε,sa _ ε],upd_ne _ _ ε⟩) (Sw.imp (λhm=>⟨hm,ft⟩) λjT=>keepW jT)
    ·by_cases aQ:j=i/\r=s
     ·obtain⟨rfl,rfl⟩:=aQ;exact zg e
     ·apply ε;show b4 c.tok i s t' j r=.nil;rw[e2 _ aQ];exact e
    ·obtain⟨iE,a,b,Ψ,_⟩:=hc r q Φ;have:=h.eE.pF r iE m a (by rw[b];exact hm) (λj q p x=>cw j q p ((tE j r q p).2 x)) (λj k L g x=>let ⟨g',y⟩:=F9 j r k L g x;iD j k L g' y);rw[b,Ψ] at this;exact this
    ·obtain⟨iE,a,b,_,Ψ⟩:=hc r q Φ;have:=h.eE.mz r iE a (λj q p x=>cw j q p ((tE j r q p).2 x));rw[b,Ψ] at this;exact this
    ·by_cases aQ:j=i/\r=s
     ·obtain⟨rfl,rfl⟩:=aQ;obtain⟨dS,Χ,y,_⟩:=(KY tD).2.1 k mu g e;exact⟨k,dS,Χ,by show b4 c.tok j r t' j r=_;rw[fb];exact y⟩
     ·exact⟨k,mu,g,by show b4 c.tok i s t' j r=_;rw[e2 _ aQ];exact e⟩
    ·have e:({c with tok:=b4 c.tok i s t',view:=upd c.view i (upd (c.view i) s (some (eK gs.size o' (upd (λj=>c.tok j s) i t'),o'))),O:=upd c.O s (some o'),T:=upd c.T i (f (i==0,g',dn))}:de).x i=dn:=by
      simp[dn,de.x,upd_same,vm]
     rw[e];show jQ P Q (upd c.T i (f (i==0,g',dn)) i) _ _ _;rw[upd_same];exact Sy
  | _=>rw[ν] at hgo;exact hgo.elim
 ·refine λsl=>⟨c,_,w,_,runT_crowd_go Ξ ν,?_,.inr (.inr ⟨η,rfl,?_⟩)⟩
  ·rw[Ld,Array.append_empty];have:=h.laid (c':=c) (u:=#[]) Ξ (g':={g with status:=.blocked}) h.mem h.hold (by rw[Array.append_empty];exact h.bU) h.bh h.eE (by rw[Array.append_empty];exact h.ek) (by rw[Array.append_empty];exact h.fW) ⟨g,Κ,.inr ⟨ι,rfl,s,o,ω,hw,cF⟩⟩ (λj ε=>⟨rfl,rfl⟩) (.inr λj s o _ a b=>⟨o,a,b⟩)
   rwa [Array.append_empty] at this
  ·have e:gs.map (woken P g {g with status:=.blocked} w)=gs:=by
    have:woken P g {g with status:=.blocked} w=id:=by
     funext b;simp[woken]
    rw[this];simp
   rw[e];exact Sv Ξ ι.1 η
end
end Go.TL
