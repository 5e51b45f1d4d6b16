import Derived.Test.YtlabjopijpkiaaaGreatSAC
set_option maxHeartbeats 16000000
set_option maxRecDepth 20000
set_option linter.unusedSectionVars false
set_option linter.unusedSimpArgs false
set_option linter.unusedVariables false
namespace Go.TL
open Go.Conc
open Go.ConcM (OsLater)
open Go.ConcN (sumTo upd sumTo_upd upd_ne upd_same sumTo_congr le_sumTo)
open Go.ConcR (mk)
def mg (O O':Nat->Option aN):Prop:=(∀s o',O' s=some o'->∃o,O s=some o/\o.toSpec=o'.toSpec)/\∀s o,O s=some o->∃o',O' s=some o'/\o.toSpec=o'.toSpec
theorem mg.upd {O:Nat->Option aN} {s:Nat} {o o':aN} (ο:O s=some o) (h:o'.toSpec=o.toSpec):mg O (Go.ConcN.upd O s (some o')):=by
 refine⟨λr q Ρ=>?_,λr q Ρ=>?_⟩
 ·by_cases e:r=s
  ·subst e;rw[upd_same] at Ρ;cases Ρ;exact⟨o,ο,h.symm⟩
  ·rw[upd_ne _ _ e] at Ρ;exact⟨q,Ρ,rfl⟩
 ·by_cases e:r=s
  ·subst e;rw[ο] at Ρ;cases Ρ;exact⟨o',upd_same ..,h.symm⟩
  ·exact⟨q,by rw[upd_ne _ _ e];exact Ρ,rfl⟩
section
variable {H:cB->Α} {aF:Nat->Nat->Option (Array Value×TypeId)} {tok ei:Nat->Nat->Tok} {O O':Nat->Option aN} {bx:Nat->Nat} {deaf L7:Nat->Nat} {N hg:Nat} {t:Trace} {bt w w':World}
theorem B6 {h:cB} {k:Nat} (cI:∀s o',O' s=some o'->∃o,O s=some o/\o.toSpec=o'.toSpec) (Ο:∀i s,ei i s≠.nil->tok i s≠.nil) (χ:jr tok O t h k):jr ei O' t h k:=by
 cases h with
 | inl i=>exact χ
 | inr b=>
  refine χ.imp id λh s o ο hb i hi=>?_;obtain⟨lB,J,γ⟩:=cI s o ο;exact h s lB J (by rw[γ];exact hb) i (Ο i s hi)
theorem iw.TT (h:iw H aF tok O bx deaf N t) (cI:mg O O') (Ο:∀i s,ei i s≠.nil->tok i s≠.nil):iw H aF ei O' bx deaf N t:=
 ⟨h.race,h.low,h.norel,λk=>(h.perms k).mono λ_=>B6 cI.1 Ο,h.oO,λs o b ο hb=>let ⟨lB,J,γ⟩:=cI.1 s o ο;h.cont s lB b J (by rw[γ];exact hb),h.hears⟩
theorem h7.m8 (h:h7 H aF O hg) (cI:mg O O'):h7 H aF O' hg:=
 ⟨h.apart,h.high,h.n0,h.fresh,λs o b ο hb=>let ⟨lB,J,γ⟩:=cI.1 s o ο;h.kp s lB b J (by rw[γ];exact hb),
  λs bq o o' b ο iM hb db=>let ⟨lB,J,γ⟩:=cI.1 s o ο;let ⟨du,π,Μ⟩:=cI.1 bq o' iM;h.kF s bq lB du b J π (by rw[γ];exact hb) (by rw[Μ];exact db),
  λs o m ο hm=>let ⟨lB,J,γ⟩:=cI.1 s o ο;h.pL s lB m J (by rw[γ];exact hm),
  λb hb=>h.eh b λs o ο hi=>let ⟨o',J,γ⟩:=cI.2 s o ο;hb s o' J (by rw[<-γ];exact hi)⟩
theorem iw.ext (h:iw H aF tok O bx deaf N t) (Β:h7 H aF O hg) (i:Nat) {u:Trace} (hu:∀op∈u,op.g=i) (ω:∀op∈u,op.act.low N) (μ:∀op∈u,∀a,op.act≠.mark (.release a))
  (Ο:∀op∈u,∀b,op.act.touch?=some b->∃s o mh off,O s=some o/\eb s o.toSpec mh/\b.loc=.cell ⟨mh,off,none⟩/\(b.kind=.atomic\/(b.kind=.said/\i=bx s)))
  (hd:∀j,Deaf (t++u) j=L7 j):iw H aF tok O bx L7 N (t++u):=by
 refine⟨λsaid=>noRace_append (h.race said) hu λk a ξ op Ν b hb ζ=>?_,λop Ν=>(Array.mem_append.1 Ν).elim (h.low op) (ω op),λop Ν=>(Array.mem_append.1 Ν).elim (h.norel op) (μ op),λk=>?_,λj b v hv k a ξ e9=>?_,λs o b ο hb k a ξ e9=>?_,hd⟩
 ·obtain⟨s,o,mh,off,J,γ,π,Μ⟩:=Ο op Ν b hb;obtain⟨c1,_,_,c4⟩:=ζ;have e9:nT a.loc mh:=by rw[c1,π];rfl
  rcases h.cont s o mh J γ k a ξ e9 with aA|⟨aA,bc⟩
  ·exfalso;rcases c4 with x|x|⟨_,x,_⟩
   ·rw[aA] at x;cases x
   ·rcases Μ with y|⟨y,_⟩<;>(rw[y] at x;cases x)
   ·rw[aA] at x;cases x
  ·rcases Μ with y|⟨y,rfl⟩
   ·exfalso;rcases c4 with x|x|⟨_,_,x⟩
    ·rw[aA] at x;cases x
    ·rw[y] at x;cases x
    ·rw[y] at x;cases x
   ·obtain⟨z,Θ,_⟩:=touch_of ξ;have:=knows_own Θ;have e:z.g=bx s:=by simpa[Trace.g?,Θ] using bc
    rwa [e] at this
 ·have:df (t++u) (jr tok O (t++u) k) (H k):=(h.perms k).others (λx U=>Gn _ U) λop Ν a ξ=>by
   obtain⟨s,o,mh,off,J,γ,π,Μ⟩:=Ο op Ν a ξ;have off:=(Β.kp s o mh J γ).2.1 k;refine⟨λb o' v p ω ζ=>?_,λb ω hb=>?_⟩
   ·rw[π] at ω;cases ω;exact absurd ⟨_,ζ⟩ (off.1 _)
   ·rw[π] at ω;cases ω
  exact this
 ·rcases m9 ξ with dO|⟨_,op,Ν,_,h8⟩
  ·exact h.oO j b v hv k a dO e9
  ·obtain⟨s,o,mh,off,J,γ,π,Μ⟩:=Ο op Ν a h8;rw[π] at e9;simp only[nT] at e9;subst e9;rw[(Β.kp s o mh J γ).2.2 j] at hv;cases hv
 ·rcases m9 ξ with dO|⟨_,op,Ν,χ,h8⟩
  ·rcases h.cont s o b ο hb k a dO e9 with x|⟨x,Υ⟩
   ·exact .inl x
   ·obtain⟨z,Θ,_⟩:=touch_of dO;exact .inr ⟨x,by rw[g?_old (lt_size_of_getElem? Θ)];exact Υ⟩
  ·obtain⟨bq,o',mh,off,J,γ,π,Μ⟩:=Ο op Ν a h8;rw[π] at e9;simp only[nT] at e9;subst e9;have es:=Β.kF s bq o o' mh ο J hb γ;subst es;rcases Μ with x|⟨x,y⟩
   ·exact .inl x
   ·exact .inr ⟨x,by simp[Trace.g?,χ,hu op Ν,y]⟩
theorem df.sub {jm:Nat->Prop} {G G':Α} (h:df t jm G) (ο:Sub G' G):df t jm G':=
 ⟨λb o v p ζ i a ξ ω hw=>let ⟨fs,ag,ψ⟩:=ο.aG b o v p ζ;h.aG b o v fs ag i a ξ ω (hw.imp ψ id),λb ⟨x,U⟩ i a ξ ω=>h.obj b ⟨x,ο.obj b x U⟩ i a ξ ω⟩
theorem df.join {jm:Nat->Prop} {G E:Α} (h:df t jm G) (k:df t jm E):df t jm (Go.TL.join G E):=by
 refine⟨λb o v p ζ i a ξ ω hw=>?_,λb hb i a ξ ω=>?_⟩
 ·simp only[Go.TL.join] at ζ;cases Υ:G.aG b o with
  | none=>rw[Υ] at ζ;exact k.aG b o v p ζ i a ξ ω hw
  | some y=>rw[Υ] at ζ;cases ζ;exact h.aG b o v p Υ i a ξ ω hw
 ·obtain⟨x,U⟩:=hb;simp only[Go.TL.join] at U;cases Υ:G.obj b with
  | none=>rw[Υ] at U;exact k.obj b ⟨x,U⟩ i a ξ ω
  | some y=>exact h.obj b ⟨y,Υ⟩ i a ξ ω
theorem df.empty {jm:Nat->Prop}:df t jm Α.empty:=⟨λ_ _ _ _ h=>(by cases h),λ_ ⟨_,h⟩=>(by cases h)⟩
theorem df.release {i b:Nat} {G:Α} {y:MemOp} (h:df t (Knows t i) G) (Υ:y.g=i) (Ξ:y.act=.mark (.releaseMerge ⟨b,0,none⟩)) (hd:Deaf t i=0):df (t++#[y]) (jr tok O (t++#[y]) (.inr b)) G:=by
 have ju:(t++#[y])[t.size]?=some y:=by simp
 have zh:(t++#[y]).heard t.size:=⟨i,by simp[Trace.g?,Υ],by rw[deaf_old (Nat.le_refl _)];exact hd⟩
 have key:∀k,Knows t i k->jr tok O (t++#[y]) (.inr b) k:=λk χ=>.inl ⟨t.size,y,ju,Ξ,zh,.inr (χ.hb_new (Nat.le_refl _) ju Υ)⟩
 have nt:∀k a,touchAt (t++#[y]) k=some a->touchAt t k=some a:=λk a ξ=>by
  rcases m9 ξ with dO|⟨_,op,Ν,_,h8⟩
  ·exact dO
  ·simp at Ν;subst Ν;rw[Ξ] at h8;simp[MemAct.touch?] at h8
 exact⟨λoQ o v p ζ k a ξ ω hw=>key k (h.aG oQ o v p ζ k a (nt k a ξ) ω hw),λoQ hb k a ξ ω=>key k (h.obj oQ hb k a (nt k a ξ) ω)⟩
theorem df.acquire {i b s:Nat} {o:aN} {E:Α} {y:MemOp} (h:df t (jr tok O t (.inr b)) E) (dZ:∀op∈t,∀a,op.act≠.mark (.release a)) (ο:O s=some o) (hb:eb s o.toSpec b) (hi:tok i s≠.nil)
  (Υ:y.g=i) (Ξ:y.act=.mark (.acquire ⟨b,0,none⟩)) (hd:Deaf t i=0):df (t++#[y]) (Knows (t++#[y]) i) E:=by
 have ju:(t++#[y])[t.size]?=some y:=by simp
 have zh:(t++#[y]).heard t.size:=⟨i,by simp[Trace.g?,Υ],by rw[deaf_old (Nat.le_refl _)];exact hd⟩
 have key:∀k,jr tok O t (.inr b) k->Knows (t++#[y]) i k:=λk χ=>by
  rcases χ with⟨p,op,J,γ,π,Μ⟩|χ
  ·have ψ:=lt_size_of_getElem? J;refine⟨t.size,y,ju,Υ,.inr ((Μ.app #[y]).hb (.single (.inr ⟨.marked (a:=⟨b,0,none⟩) ψ (.inr ?_) ?_ ?_,(heard_old ψ).2 π,zh⟩)))⟩
   ·rw[act?_old ψ,act?_of J,γ]
   ·rw[act?_of ju,Ξ]
   ·intro ab hB dW jv;rw[act?_old dW] at jv;obtain⟨sd,jw,h8⟩:=Option.map_eq_some_iff.1 jv;exact dZ sd (mem_of_getElem? jw) _ h8
  ·exact(χ s o ο hb i hi).app _
 have nt:∀k a,touchAt (t++#[y]) k=some a->touchAt t k=some a:=λk a ξ=>by
  rcases m9 ξ with dO|⟨_,op,Ν,_,h8⟩
  ·exact dO
  ·simp at Ν;subst Ν;rw[Ξ] at h8;simp[MemAct.touch?] at h8
 exact⟨λoQ o v p ζ k a ξ ω hw=>key k (h.aG oQ o v p ζ k a (nt k a ξ) ω hw),λoQ hb k a ξ ω=>key k (h.obj oQ hb k a (nt k a ξ) ω)⟩
theorem Knows.spawn {i j k:Nat} {y z:MemOp} (h:Knows t i k) (L8:y.g=i) (Ξ:y.act=.go j) (Gx:z.g=j) (Θ:z.act=.start) (hd:Deaf t i=0) (TU:Deaf t j=0):Knows (t++#[y,z]) j k:=by
 have vn:(t++#[y,z])[t.size]?=some y:=by simp
 have jY:(t++#[y,z])[t.size+1]?=some z:=by simp
 have d1:(t++#[y,z]).heard t.size:=⟨i,by simp[Trace.g?,L8],by rw[deaf_old (Nat.le_refl _)];exact hd⟩
 have d2:(t++#[y,z]).heard (t.size+1):=⟨j,by simp[Trace.g?,Gx],by
  rw[deaf_succ vn];have:deafStep j ((t++#[y,z]).deaf j t.size) y=(t++#[y,z]).deaf j t.size:=by simp[deafStep,Ξ]
  rw[this,deaf_old (Nat.le_refl _)];exact TU⟩
 have Ζ:=h.hb_new (u:=#[y,z]) (Nat.le_refl _) vn L8
 have Ε:HappensBefore (t++#[y,z]) t.size (t.size+1):=.single (.inr ⟨.spawn (child:=j) (by rw[act?_of vn,Ξ]) (by rw[act?_of jY,Θ]) (by simp[Trace.g?,Gx]),d1,d2⟩);exact⟨t.size+1,z,jY,Gx,.inr (Ζ.trans Ε)⟩
theorem Sub.refl (G:Α):Sub G G:=⟨λ_ _ _ p h=>⟨p,h,id⟩,λ_ _ h=>h,λ_ _ h=>h⟩
theorem Sub.owns {G G':Α} (h:Sub G' G) {b o:Nat} (x:G'.owns b o):G.owns b o:=let ⟨v,hv⟩:=x;let ⟨p,ag,ψ⟩:=h.aG b o v true hv;⟨v,by rw[ag,ψ rfl]⟩
theorem Sub.has {G G':Α} (h:Sub G' G) {b o:Nat} (x:G'.has b o):G.has b o:=let ⟨v,hv⟩:=x;let ⟨p,ag,_⟩:=h.aG b o v.1 v.2 hv;⟨_,ag⟩
theorem Sub.eY {G G':Α} (h:Sub G' G) {b:Nat} (x:G'.eY b):G.eY b:=let ⟨v,hv⟩:=x;⟨v,h.obj b v hv⟩
theorem Sub.off {G G':Α} (h:Sub G' G) {b:Nat} (x:G.off b):G'.off b:=⟨λo Γ=>x.1 o (h.has Γ),λΓ=>x.2 (h.eY Γ)⟩
theorem Sub.fits {G G':Α} (h:Sub G' G) (x:Fits G w):Fits G' w:=⟨λb o v p ζ=>let ⟨fs,ag,_⟩:=h.aG b o v p ζ;x.aG b o v fs ag,λb t n μ=>x.row b t n (h.row b _ μ),λb v hv=>x.obj b v (h.obj b v hv)⟩
theorem Apart.symm {A B:Α} (h:Apart A B):Apart B A:=⟨h.qJ,h.aG,λb hb ξ=>h.obj b ξ hb⟩
theorem Apart.sub {A B L9 B':Α} (h:Apart A B) (ξ:Sub L9 A) (hb:Sub B' B):Apart L9 B':=
 ⟨λb o x y=>h.aG b o (ξ.owns x) (hb.has y),λb o x y=>h.qJ b o (hb.owns x) (ξ.has y),λb x y=>h.obj b (ξ.eY x) (hb.eY y)⟩
theorem Apart.tC (A:Α):Apart A Α.empty:=⟨λ_ _ _ ⟨_,h⟩=>(by cases h),λ_ _ ⟨_,h⟩=>(by cases h),λ_ _ ⟨_,h⟩=>(by cases h)⟩
theorem Gy {G E:Α} {b o:Nat} (h:(join G E).owns b o):G.owns b o\/E.owns b o:=by
 obtain⟨v,hv⟩:=h;simp only[join] at hv;cases Υ:G.aG b o with
 | none=>rw[Υ] at hv;exact .inr ⟨v,hv⟩
 | some y=>rw[Υ] at hv;cases hv;exact .inl ⟨v,Υ⟩
theorem L' {G E:Α} {b o:Nat} (h:(join G E).has b o):G.has b o\/E.has b o:=by
 obtain⟨v,hv⟩:=h;simp only[join] at hv;cases Υ:G.aG b o with
 | none=>rw[Υ] at hv;exact .inr ⟨v,hv⟩
 | some y=>exact .inl ⟨y,Υ⟩
theorem B7 {G E:Α} {b:Nat} (h:(join G E).eY b):G.eY b\/E.eY b:=by
 obtain⟨v,hv⟩:=h;simp only[join] at hv;cases Υ:G.obj b with
 | none=>rw[Υ] at hv;exact .inr ⟨v,hv⟩
 | some y=>exact .inl ⟨y,Υ⟩
theorem TV {G E:Α} {b:Nat} (h:G.off b) (k:E.off b):(join G E).off b:=⟨λo Γ=>(L' Γ).elim (h.1 o) (k.1 o),λΓ=>(B7 Γ).elim h.2 k.2⟩
theorem zi {G E:Α} (h:Fits G w) (k:Fits E w):Fits (join G E) w:=by
 refine⟨λb o v p ζ=>?_,λb t n μ=>?_,λb v hv=>?_⟩
 ·simp only[join] at ζ;cases Υ:G.aG b o with
  | none=>rw[Υ] at ζ;exact k.aG b o v p ζ
  | some y=>rw[Υ] at ζ;cases ζ;exact h.aG b o v p Υ
 ·simp only[join] at μ;cases Υ:G.row b with
  | none=>rw[Υ] at μ;exact k.row b t n μ
  | some y=>rw[Υ] at μ;cases μ;exact h.row b t n Υ
 ·simp only[join] at hv;cases Υ:G.obj b with
  | none=>rw[Υ] at hv;exact k.obj b v hv
  | some y=>rw[Υ] at hv;cases hv;exact h.obj b v Υ
theorem Apart.qT {A B C:Α} (h:Apart A C) (k:Apart B C):Apart (join A B) C:=
 ⟨λb o x y=>(Gy x).elim (λz=>h.aG b o z y) (λz=>k.aG b o z y),λb o x y=>(L' y).elim (λz=>h.qJ b o x z) (λz=>k.qJ b o x z),λb x y=>(B7 x).elim (λz=>h.obj b z y) (λz=>k.obj b z y)⟩
theorem vo (w:World):Fits Α.empty w:=⟨λ_ _ _ _ h=>(by cases h),λ_ _ _ h=>(by cases h),λ_ _ h=>(by cases h)⟩
theorem h7.two (h:h7 H aF O hg) {a b:cB} (gL:a≠b) {A B:Α} (bS:Sub A (join (H a) (H b))) (e':Sub B (join (H a) (H b))) (Ma:Apart A B)
  (cI:mg O O') (Mb:∀x,b=.inr x\/a=.inr x->∃s o,O s=some o/\eb s o.toSpec x):h7 (bL (bL H a A) b B) aF O' hg:=by
 have cJ:=h.m8 cI
 have vp:bL (bL H a A) b B a=A:=by rw[bM _ _ gL,dy]
 have vq:bL (bL H a A) b B b=B:=dy _ _ _
 have qU:∀k,k≠a->k≠b->bL (bL H a A) b B k=H k:=λk J γ=>by rw[bM _ _ γ,bM _ _ J]
 have B8:∀k,k≠a->k≠b->Apart (join (H a) (H b)) (H k):=λk J γ=>(h.apart a k (Ne.symm J)).qT (h.apart b k (Ne.symm γ))
 have Mc:∀x,(∀k,(H k).off x)->(join (H a) (H b)).off x:=λx U=>TV (U a) (U b)
 have Gz:∀{p:cB->Prop},p a->p b->(∀k,k≠a->k≠b->p k)->∀k,p k:=λtD tE n1 k=>by
  by_cases J:k=a
  ·rw[J];exact tD
  ·by_cases γ:k=b
   ·rw[γ];exact tE
   ·exact n1 k J γ
 have Md:∀x,(∀k,(H k).off x)->∀k,(bL (bL H a A) b B k).off x:=λx U=>Gz (by rw[vp];exact bS.off (Mc x U)) (by rw[vq];exact e'.off (Mc x U)) (λk J γ=>by rw[qU k J γ];exact U k);refine⟨λp q zj=>?_,?_,?_,λi x v hv=>?_,λs o x ο U=>?_,cJ.kF,cJ.pL,λx U=>?_⟩
 ·by_cases tD:p=a
  ·subst tD;by_cases xg:q=b
   ·subst xg;rw[vp,vq];exact Ma
   ·rw[vp,qU q (Ne.symm zj) xg];exact(B8 q (Ne.symm zj) xg).sub bS (Sub.refl _)
  ·by_cases tE:p=b
   ·subst tE;by_cases xh:q=a
    ·subst xh;rw[vp,vq];exact Ma.symm
    ·rw[vq,qU q xh (Ne.symm zj)];exact(B8 q xh (Ne.symm zj)).sub e' (Sub.refl _)
   ·by_cases xh:q=a
    ·subst xh;rw[vp,qU p tD tE];exact((B8 p tD tE).sub bS (Sub.refl _)).symm
    ·by_cases xg:q=b
     ·subst xg;rw[vq,qU p tD tE];exact((B8 p tD tE).sub e' (Sub.refl _)).symm
     ·rw[qU p tD tE,qU q xh xg];exact h.apart p q zj
 ·exact Gz (λx o Γ=>by rw[vp] at Γ;exact(Gy (bS.owns Γ)).elim (h.high _ _ _) (h.high _ _ _)) (λx o Γ=>by rw[vq] at Γ;exact(Gy (e'.owns Γ)).elim (h.high _ _ _) (h.high _ _ _)) (λk J γ x o Γ=>by rw[qU k J γ] at Γ;exact h.high _ _ _ Γ)
 ·exact Gz (λx Γ=>by rw[vp] at Γ;exact(B7 (bS.eY Γ)).elim (h.n0 _ _) (h.n0 _ _)) (λx Γ=>by rw[vq] at Γ;exact(B7 (e'.eY Γ)).elim (h.n0 _ _) (h.n0 _ _)) (λk J γ x Γ=>by rw[qU k J γ] at Γ;exact h.n0 _ _ Γ)
 ·obtain⟨a1,bl,cz⟩:=h.fresh i x v hv;exact⟨a1,Md x bl,cz⟩
 ·obtain⟨a1,bl,cz⟩:=cJ.kp s o x ο U;exact⟨a1,Md x bl,cz⟩
 ·have hD:(.inr x:cB)≠b:=λe=>by
   obtain⟨s,o,ο,hi⟩:=Mb x (.inl e.symm);obtain⟨o',J,γ⟩:=cI.2 s o ο;exact U s o' J (by rw[<-γ];exact hi)
  have fV:(.inr x:cB)≠a:=λe=>by
   obtain⟨s,o,ο,hi⟩:=Mb x (.inr e.symm);obtain⟨o',J,γ⟩:=cI.2 s o ο;exact U s o' J (by rw[<-γ];exact hi)
  rw[qU _ fV hD];exact cJ.eh x U
theorem Sub.qT {G E A:Α} (h:Sub A G):Sub A (join G E):=
 ⟨λb o v p ζ=>let ⟨fs,ag,ψ⟩:=h.aG b o v p ζ;⟨fs,by simp[join,ag],ψ⟩,λb x U=>by simp[join,h.row b x U],λb x U=>by simp[join,h.obj b x U]⟩
theorem gZ.two (h:gZ H aF O bt w) {a b:cB} {A B:Α} (bS:Fits A w) (e':Fits B w) (cI:∀s o',O' s=some o'->At s o' w):gZ (bL (bL H a A) b B) aF O' bt w:=by
 refine⟨λk=>?_,h.me,cI,h.keep⟩;by_cases γ:k=b
 ·subst γ;rw[dy];exact e'
 ·rw[bM _ _ γ];by_cases J:k=a
  ·subst J;rw[dy];exact bS
  ·rw[bM _ _ J];exact h.fit k
theorem gZ.atom (h:gZ H aF O bt w) (Β:h7 H aF O hg) (ag:bt.heap.size=hg) {s:Nat} {o o':aN} (ο:O s=some o) (bU:o'.toSpec=o.toSpec) (χ:fq (λb _=>eb s o.toSpec b) (λ_=>False) w w') (ξ:At s o' w') :
  gZ H aF (Go.ConcN.upd O s (some o')) bt w':=by
 refine⟨λk=>(h.fit k).keeps χ (λb du hb=>((Β.kp s o b ο hb).2.1 k).1 du) (λb hb=>hb.elim),λj b c t hb=>?_,λr q Ρ=>?_,?_⟩
 ·obtain⟨c',J,γ,π⟩:=χ.cells b c t _ (h.me j b c t hb);have:c'=c:=by
   apply Array.ext_getElem?;intro du;exact π du λdb=>by rw[(Β.kp s o b ο db).2.2 j] at hb;cases hb
  rw[J,this]
 ·by_cases e:r=s
  ·subst e;rw[upd_same] at Ρ;cases Ρ;exact ξ
  ·rw[upd_ne _ _ e] at Ρ;have za:∀b c t,eb r q.toSpec b->w.heap[b]?=some (.cells c t (0,0))->w'.heap[b]?=some (.cells c t (0,0)):=λb c t hb ζ=>by
    obtain⟨c',J,γ,π⟩:=χ.cells b c t _ ζ;have:c'=c:=by
     apply Array.ext_getElem?;intro du;exact π du λdb=>e (Β.kF r s q o b Ρ ο hb db)
    rw[J,this]
   obtain⟨⟨ty,J⟩,γ⟩:=h.fD r q Ρ;exact⟨⟨ty,za _ _ _ (.inl rfl) J⟩,λm hm=>let ⟨jo,π⟩:=γ m hm;⟨jo,za _ _ _ (.inr hm) π⟩⟩
 ·have ev:=h.keep;refine⟨Nat.le_trans ev.size χ.size,λb c t dI hb=>?_,λb x hb U _=>χ.m8 b x (ev.m8 b x hb U id) U id,ev.os.trans χ.os,χ.output.trans ev.output,χ.tape.trans ev.tape⟩;obtain⟨c1,J,γ,π⟩:=ev.cells b c t dI hb;obtain⟨c2,Μ,aA,bc⟩:=χ.cells b c1 t dI J;refine⟨c2,Μ,by rw[aA,γ],λdu _=>?_⟩;rw[bc du λU=>?_,π du id];have:=(Β.kp s o b ο U).1;have:=fr hb;omega
end
structure xi (H:cB->Α) (tok:Nat->Nat->Tok) (O:Nat->Option aN):Prop where
 pM:∀s o m,O s=some o->o.aT=some m->(∀i q p,tok i s≠.par q p .bA)->(∀i k L g,tok i s≠.ch k (.dc L) g)->o.aH o.L (H (.inr m))
 mi:∀s o,O s=some o->(∀i q p,tok i s≠.par q p .bA)->lC o.D o.Ω (H (.inr s))
structure vr (n:Nat) (tok:Nat->Nat->Tok) (rel:Nat->Bool) (bx home dr:Nat->Nat) (t:Trace):Prop where
 dD:∀k g,t.g? k=some g->g<n
 c1:∀i,i≠0->rel i=true->∃op,t[dr i]?=some op/\op.g=i/\op.act=.mark (.releaseMerge ⟨home i,0,none⟩)/\t.heard (dr i)/\∀k,t.g? k=some i->t.counts k->Before t k (dr i)
 c2:∀i,i≠0->rel i=true->(∃q p,tok (bx (home i)) (home i)=.par q p .bA)->Knows t (bx (home i)) (dr i)
 c3:∀i,i≠0->rel i=true->bx (home i)≠0->rel (bx (home i))=true->Before t (dr i) (dr (bx (home i)))
structure xj (aF:Nat->Nat->Option (Array Value×TypeId)) (tok:Nat->Nat->Tok) (O:Nat->Option aN) (rel:Nat->Bool) (dr:Nat->Nat) (t:Trace):Prop where
 iQ:∀s o m,O s=some o->o.aT=some m->∀p op,t[p]?=some op->op.act=.mark (.releaseMerge ⟨m,0,none⟩)->(∃k mu g,tok op.g s=.ch k mu g)/\(rel op.g=true->Before t p (dr op.g))
 vu:∀i b v,aF i b=some v->∀op∈t,op.act≠.mark (.releaseMerge ⟨b,0,none⟩)
def Rec (P:Program) (Q:Value->Prop) (c:cY) (i:Nat) (g:Goroutine):Prop:=
 ∃cP,jq P Q (c.T i) (i==0) cP (c.x i)/\(g=cP\/(iv cP/\g={cP with status:=.blocked}/\∃s o,c.O s=some o/\jW o (c.tok i s)/\∀bq,bq≠s->nf (c.tok i bq)))
structure Inv (P:Program) (Q:Value->Prop) (bt:World) (c:cY) (gs:Array Goroutine) (w:World) (t:Trace):Prop where
 pos:0<gs.size
 mem:gZ c.H c.aF c.O bt w
 hold:h7 c.H c.aF c.O bt.heap.size
 bQ:iw c.H c.aF c.tok c.O c.bx c.deaf w.heap.size t
 bk:eD gs.size c.tok c.spec c.view c.rel c.O c.bx c.home
 eh:xi c.H c.tok c.O
 dX:vr gs.size c.tok c.rel c.bx c.home c.dr t
 gg:xj c.aF c.tok c.O c.rel c.dr t
 vv:∀i g,gs[i]?=some g->Rec P Q c i g
theorem zk {t u:Trace} {k:Nat} (h:k<t.size):(t++u).counts k↔t.counts k:=by
 unfold Trace.counts;rw[act?_old h,heard_old h]
theorem vr.app {n:Nat} {tok ei:Nat->Nat->Tok} {rel:Nat->Bool} {bx home dr:Nat->Nat} {t u:Trace} (h:vr n tok rel bx home dr t) {i:Nat} (hi:i<n) (hu:∀op∈u,op.g=i)
  (ζ:rel i=true->∀k,t.size<=k->¬(t++u).counts k) (χ:∀s q p,(∃j,ei j s=.par q p .bA)->∃j,tok j s=.par q p .bA) (zl:∀j s q p,ei j s=.par q p .bA->tok j s=.par q p .bA):vr n ei rel bx home dr (t++u):=by
 refine⟨λk g Υ=>?_,λj ag ε=>?_,λj ag ε bP=>?_,λj ag ε J γ=>(h.c3 j ag ε J γ).app u⟩
 ·obtain⟨op,Γ,hh⟩:=Option.map_eq_some_iff.1 Υ;rcases getElem?_append_cases Γ with⟨_,jw⟩|⟨_,gh⟩
  ·exact h.dD k g (by simp[Trace.g?,jw,hh])
  ·rw[<-hh,hu op gh];exact hi
 ·obtain⟨op,J,γ,π,Μ,aA⟩:=h.c1 j ag ε;have ψ:=lt_size_of_getElem? J;refine⟨op,by rw[getElem?_append_old ψ];exact J,γ,π,(heard_old ψ).2 Μ,λk Υ kH=>?_⟩;obtain⟨sd,Γ,hh⟩:=Option.map_eq_some_iff.1 Υ;rcases getElem?_append_cases Γ with⟨aD,jw⟩|⟨hle,gh⟩
  ·exact(aA k (by simp[Trace.g?,jw,hh]) ((zk aD).1 kH)).app u
  ·have e:j=i:=by rw[<-hh,hu sd gh]
   subst e;exact absurd kH (ζ ε k hle)
 ·obtain⟨q,p,Ρ⟩:=bP;exact(h.c2 j ag ε ⟨q,p,zl _ _ _ _ Ρ⟩).app u
section
variable {P:Program} {Q:Value->Prop} {bt:World} {c:cY} {gs:Array Goroutine} {w:World} {t:Trace}
theorem Inv.stat (h:Inv P Q bt c gs w t) {i:Nat} {g:Goroutine} (Υ:gs[i]?=some g):g.status=.running\/(i≠0/\g.status=.finished/\c.rel i=true/\∀s,Gone (c.tok i s))\/(g.status=.blocked/\∃s o,c.O s=some o/\jW o (c.tok i s)/\∀bq,bq≠s->nf (c.tok i bq)):=by
 obtain⟨cP,μ,ζ⟩:=h.vv i g Υ;rcases ζ with rfl|⟨_,rfl,hw⟩
 ·cases Κ:c.T i with
  | leaf=>
   rw[Κ] at μ;rcases μ.2 with⟨_,J⟩|⟨ag,J,γ,π,_⟩
   ·exact .inl J.1.1
   ·exact .inr (.inl ⟨by rintro rfl;simp at ag,π,J,γ⟩)
  | node f=>
   rw[Κ] at μ;rcases μ.2 with(⟨_,J⟩|⟨ag,J,γ,π,_⟩)|J
   ·exact .inl J.1.1
   ·exact .inr (.inl ⟨by rintro rfl;simp at ag,π,J,γ⟩)
   ·rcases J with⟨_,γ,_⟩|⟨γ,_⟩
    ·exact .inl γ
    ·exact .inl γ.1
 ·exact .inr (.inr ⟨rfl,hw⟩)
theorem TW {t:Tok} (h:oM t):∃k m g,t=.ch k m g/\¬nf t/\(∀o,¬jW o t)/\m≠.done/\m≠.idle:=by
 cases t with
 | nil=>exact h.elim
 | par=>exact h.elim
 | ch k m g=>
  refine⟨k,m,g,rfl,?_⟩;cases m with
  | act b=>cases b<;>first|exact h.elim|simp[nf,jW]
  | _=>first|exact h.elim|simp[nf,jW]
theorem Inv.awake (h:Inv P Q bt c gs w t):∃(i:Nat) (g:Goroutine),gs[i]?=some g/\g.status=.running:=by
 apply Classical.byContradiction;intro TX;have hM:∀i,i<gs.size->(c.rel i=true/\∀s,Gone (c.tok i s))\/∃s o,c.O s=some o/\jW o (c.tok i s)/\∀bq,bq≠s->nf (c.tok i bq):=λi hi=>by
  have Υ:gs[i]?=some gs[i]:=e7 hi;rcases h.stat Υ with J|⟨_,_,J⟩|⟨_,J⟩
  ·exact absurd ⟨i,_,Υ,J⟩ TX
  ·exact .inl J
  ·exact .inr J
 have up:∀i s o n p,c.O s=some o->c.tok i s=.par n p .w3->o.cE=0->∃j bq o' iN e2,i<j/\j<gs.size/\c.O bq=some o'/\c.tok j bq=.par iN e2 .w3/\o'.cE=0:=λi s o n p ο Ο ag=>by
  have br:i<gs.size:=h.bk.lt (s:=s) (by rw[Ο];simp);obtain⟨j,ε,cA⟩:=TF (h.bk.bg s o ο).2 (i:=i) br Ο ag;have mj:qP (c.tok j s):=cA;have ml:∃k m g,c.tok j s=.ch k m g/\g≠.gone:=by
   cases U:c.tok j s with
   | nil=>rw[U] at mj;exact mj.elim
   | par=>rw[U] at mj;exact mj.elim
   | ch k m g=>rw[U] at mj;exact⟨k,m,g,rfl,by rintro rfl;exact mj⟩
  obtain⟨k,m,g,U,Υ⟩:=ml;obtain⟨_,se,aD⟩:=h.bk.oS j s k m g U;have hi:=h.bk.par i s n p _ Ο;rcases hM j ε with⟨_,J⟩|⟨bq,o',iM,hw,jφ⟩
  ·have:=J s;rw[U] at this;cases g<;>first|exact absurd rfl Υ|exact this.elim
  ·by_cases e:bq=s
   ·subst e;rw[ο] at iM;cases iM;rw[U] at hw;have hm:m=.q/\o.cX=0:=by cases m<;>simp_all [jW]
    obtain⟨rfl,TY⟩:=hm;have Ρ:0<a8 gs.size (λa=>c.tok a bq) lu:=by
     have:=fh (λa=>c.tok a bq) lu ε;simp only[U,lu,yZ] at this;omega
    obtain⟨a,ξ,hb⟩:=TC (h.bk.bg bq o ο).1 Ρ TY;obtain⟨ab,b0,g',hy,bG,dj,fT,mm⟩:=TW hb;have B9:c.tok a bq=.ch ab b0 g':=hy;exfalso;rcases hM a ξ with⟨_,J⟩|⟨s2,hN,dP,hO,Ca⟩
    ·have sf:=J bq;rw[B9] at sf;have:g'≠.work:=by rintro rfl;exact sf
     rcases h.bk.oU a bq ab b0 g' o ο B9 this with e|⟨e,_⟩
     ·exact fT e
     ·exact mm e
    ·by_cases Ε:s2=bq
     ·subst Ε;exact dj _ hO
     ·exact bG (Ca bq (Ne.symm Ε))
   ·cases Ξ:c.tok j bq with
    | nil=>rw[Ξ] at hw;exact hw.elim
    | ch ab b0 g'=>exact absurd ((h.bk.oS j bq ab b0 g' Ξ).2.1.symm.trans se) e
    | par iN e2 Gt=>
     rw[Ξ] at hw;cases Gt<;>first|exact hw.elim|exact⟨j,bq,o',iN,e2,by omega,ε,iM,Ξ,hw⟩
 have top:∀d i s o n p,gs.size-i=d->i<gs.size->c.O s=some o->c.tok i s=.par n p .w3->o.cE=0->False:=λd=>by
  induction d using Nat.strongRecOn with
  | _ d Δ=>
   intro i s o n p hd hi ο Ο ag;obtain⟨j,bq,o',iN,e2,J,γ,π,Μ,aA⟩:=up i s o n p ο Ο ag;exact Δ (gs.size-j) (by omega) j bq o' iN e2 rfl γ π Μ aA
 rcases hM 0 h.pos with⟨J,_⟩|⟨s,o,ο,hw,_⟩
 ·rw[h.bk.tz] at J;cases J
 ·cases Ξ:c.tok 0 s with
  | nil=>rw[Ξ] at hw;exact hw.elim
  | ch k m g=>exact(h.bk.oS 0 s k m g Ξ).1 rfl
  | par n p aE=>
   rw[Ξ] at hw;cases aE<;>first|exact hw.elim|exact top _ 0 s o n p rfl h.pos ο Ξ hw
theorem Rec.woken {c':cY} {i j:Nat} {g g' b:Goroutine} {w':World} (h:Rec P Q c j b) (U:c'.x j=c.x j) (Κ:c'.T j=c.T j)
  (hw:(mayWake P g=true/\iv g')\/∀s o,c.O s=some o->jW o (c.tok j s)->∃o',c'.O s=some o'/\jW o' (c.tok j s)):Rec P Q c' j (Go.Conc.woken P g g' w' b):=by
 have dE:c'.tok j=c.tok j:=congrArg aV.tok U;obtain⟨cP,μ,ζ⟩:=h;rcases ζ with rfl|⟨dJ,rfl,s,o,ο,qV,cA⟩
 ·have ο:b.status=.running\/b.status=.finished:=by
   cases qW:c.T j with
   | leaf=>
    rw[qW] at μ;rcases μ.2 with⟨_,J⟩|⟨_,_,_,π,_⟩
    ·exact .inl J.1.1
    ·exact .inr π
   | node f=>
    rw[qW] at μ;rcases μ.2 with(⟨_,J⟩|⟨_,_,_,π,_⟩)|J
    ·exact .inl J.1.1
    ·exact .inr π
    ·rcases J with⟨_,γ,_⟩|⟨γ,_⟩
     ·exact .inl γ
     ·exact .inl γ.1
  have:Go.Conc.woken P g g' w' b=b:=by
   unfold Go.Conc.woken;split
   ·exact again_running _ ο
   ·rfl
  rw[this];exact⟨b,by rw[U,Κ];exact μ,.inl rfl⟩
 ·unfold Go.Conc.woken;split
  ·rename_i Cb;refine⟨cP,by rw[U,Κ];exact μ,.inl ?_⟩;obtain⟨r1,r2⟩:=dJ;obtain⟨ar,bA,st,jχ,of⟩:=cP;simp only at r1 r2;subst r1 r2;rfl
  ·rename_i Cb;rcases hw with⟨J,γ⟩|hw
   ·exfalso;apply Cb;simp[J,γ.1]
   ·obtain⟨o',J,γ⟩:=hw s o ο qV;exact⟨cP,by rw[U,Κ];exact μ,.inr ⟨dJ,rfl,s,o',J,by rw[dE];exact γ,by rw[dE];exact cA⟩⟩
end
section
variable {P:Program} {Q:Value->Prop} {bt:World} {c:cY} {gs:Array Goroutine} {w:World} {t:Trace}
theorem Inv.at (h:Inv P Q bt c gs w t) (d:Nat):Inv P Q bt c gs (w.at d) t:=⟨h.pos,h.mem.at d,h.hold,h.bQ,h.bk,h.eh,h.dX,h.gg,h.vv⟩
theorem Inv.gone (h:Inv P Q bt c gs w t) (ag:∀s,fU (c.tok 0 s)):∀j,j≠0->j<gs.size->c.rel j=true/\(∀s,Gone (c.tok j s))/\Knows t 0 (c.dr j):=by
 have TZ:∀t:Tok,fU t->Gone t:=λt Ο=>by cases t with
  | nil=>trivial
  | par _ _ aE=>cases aE<;>first|exact Ο.elim|trivial
  | ch=>exact Ο.elim
 intro j
 induction j using Nat.strongRecOn with
 | _ j Δ=>
  intro fv eO;obtain⟨k,m,g,Ο⟩:=h.bk.sb j fv eO;obtain⟨_,_,aD⟩:=h.bk.oS j _ k m g Ο;cases Γ:c.O (c.home j) with
  | none=>have:=h.bk.bare _ Γ j;rw[Ο] at this;cases this
  | some o=>
  have Η:=h.bk.bg _ o Γ;obtain⟨i0,iR,ψ⟩:=BU (φ:=eJ) (N:=gs.size) (τ:=λa=>c.tok a (c.home j)) (by rw[Η.2.nW];exact Nat.one_pos);have zl:∃q p aE,c.tok i0 (c.home j)=.par q p aE:=by
   cases U:c.tok i0 (c.home j) with
   | par q p aE=>exact⟨q,p,aE,rfl⟩
   | nil=>simp[U,eJ] at ψ
   | ch=>simp[U,eJ] at ψ
  obtain⟨q,p,aE,U⟩:=zl;have cv:=h.bk.par i0 _ q p aE U;subst cv;have bP:aE=.bA/\(c.bx (c.home j)≠0->c.rel (c.bx (c.home j))=true/\Knows t 0 (c.dr (c.bx (c.home j)))):=by
   by_cases e:c.bx (c.home j)=0
   ·have:=ag (c.home j);rw[<-e,U] at this;refine⟨by cases aE<;>first|exact this.elim|rfl,λx=>absurd e x⟩
   ·obtain⟨r1,r2,r3⟩:=Δ _ aD e iR;have:=r2 (c.home j);rw[U] at this;exact⟨by cases aE<;>first|exact this.elim|rfl,λ_=>⟨r1,r3⟩⟩
  obtain⟨rfl,fW⟩:=bP;have tF:a8 gs.size (λa=>c.tok a (c.home j)) h6=1:=by
   rw[pI (φ:=h6) (λt Ο=>by cases t<;>simp_all [eJ,h6]) Η.2.nW iR (by rw[U];rfl),U];rfl
  obtain⟨f1,f2,f3,f4,f5,f6⟩:=Η.2.LC tF;have Cc:=Η.2.F';have l1:=fh (λa=>c.tok a (c.home j)) iO eO;have l2:=fh (λa=>c.tok a (c.home j)) jU eO;have oJ:=fh (λa=>c.tok a (c.home j)) jV eO;simp only[Ο,iO,jU,jV] at l1 l2 oJ;have Υ:g=.gone:=by
   cases g with
   | gone=>rfl
   | work=>simp only[r8] at l1;omega
   | rel=>simp only[r8] at l1;omega
   | l2=>simp only[u9] at l2;omega
   | hz=>simp only[u'] at oJ;omega
  subst Υ;have dZ:c.rel j=true:=(h.bk.g0 j k m _ fv Ο).2 (by simp);refine⟨dZ,λs=>?_,?_⟩
  ·by_cases e:s=c.home j
   ·subst e;rw[Ο];trivial
   ·exact TZ _ (h.bk.oT j s dZ e)
  ·have χ:=h.dX.c2 j fv dZ ⟨q,p,U⟩;by_cases e:c.bx (c.home j)=0
   ·rw[e] at χ;exact χ
   ·obtain⟨r1,r2⟩:=fW e;exact Knows.of_before (h.dX.c3 j fv dZ e r1) r2
theorem T0 {o:aN} {x:Tok} (h:Gone x) (J:∀k m g,x=.ch k m g->m≠.q):¬jW o x:=by
 cases x with
 | nil=>exact id
 | par _ _ aE=>cases aE<;>first|exact h.elim|exact id
 | ch k m g=>cases m<;>first|exact absurd rfl (J _ _ _ rfl)|exact id
theorem Inv.Me (h:Inv P Q bt c gs w t) {g:Goroutine} (Υ:gs[0]?=some g) (ο:LV P g (c.x 0) Q) (sl:Option (Nat×Nat)) (w1:World) :
  ∃v es,stepG P true g w=.ended (.done v) w es/\Good P (λv w'=>Q v/\fq (λ_ _=>False) (λ_=>False) bt w') (crowd gs w1 sl) (.done v) w (t++MemOp.ofEvents 0 g.frame.fn g.frame.place es):=by
 obtain⟨_,cH,hd,tF⟩:=ο;obtain⟨v,es,J,γ,π⟩:=tF w (h.mem.fit (.inl 0));refine⟨v,es,J,v,rfl,⟨π,h.mem.keep⟩,?_⟩;have vw:=h.gone cH;have Mf:=h.bQ.own (w':=w) h.mem h.hold 0 (G':=c.H (.inl 0)) (V':=c.aF 0) (es:=es) (fn:=g.frame.fn) (pos:=g.frame.place) (Nat.le_refl _)
  ⟨λb o v p ζ=>.inr ⟨v,p,ζ,id⟩,λb hb=>.inr hb⟩ (λb x U=>.inl U) γ (λb x U hle=>by
   have:=fr (h.mem.me 0 b x.1 x.2 U);omega)
 have quit:∀j x,j≠0->gs[j]?=some x->∃n,QuitsD P n (c.deaf j) x:=λj x ε U=>by
  have eO:=(Array.getElem?_eq_some_iff.1 U).1;obtain⟨r1,r2,_⟩:=vw j ε eO;obtain⟨cP,μ,ζ⟩:=h.vv j x U;have Ρ:∃n,QuitsD P n (c.deaf j) cP:=by
   cases Κ:c.T j with
   | leaf=>rw[Κ] at μ;exact μ.1 r1 r2
   | node f=>rw[Κ] at μ;exact μ.1 r1 r2
  rcases ζ with rfl|⟨_,_,s,o,ο,hw,_⟩
  ·exact Ρ
  ·refine absurd hw (T0 (r2 s) λk m g e hm=>?_);subst hm;have qX:g≠.work:=by rintro rfl;have:=r2 s;rw[e] at this;exact this
   rcases h.bk.oU j s k _ g o ο e qX with x|⟨x,_⟩<;>cases x
 refine⟨Mf.race,λk g' χ bz ζ=>?_,⟨λx U=>?_,rfl⟩,λj x U ε=>?_⟩
 ·obtain⟨op,Γ,hh⟩:=Option.map_eq_some_iff.1 χ;rcases getElem?_append_cases Γ with⟨aD,jw⟩|⟨_,gh⟩
  ·have gM:t.g? k=some g':=by simp[Trace.g?,jw,hh]
   have T1:=h.dX.dD k g' gM;obtain⟨r1,_,r3⟩:=vw g' bz T1;obtain⟨sd,Ζ,Ε,aY,cy,eZ⟩:=h.dX.c1 g' bz r1;obtain⟨q,z,vx,qY,GA⟩:=Knows.of_before (eZ k gM ((zk aD).1 ζ)) r3;refine⟨q,by simp[Trace.g?,getElem?_append_old (lt_size_of_getElem? vx),vx,qY],?_⟩;rcases GA with rfl|GA
   ·exfalso;simp[Trace.g?,vx,qY] at gM;exact bz gM.symm
   ·exact hb_app _ GA
  ·obtain⟨e,_,rfl⟩:=Go.Conc.mem_ofEvents gh;exact absurd hh.symm bz
 ·obtain⟨j,ε⟩:=List.mem_iff_getElem?.1 U;rw[List.getElem?_drop] at ε;obtain⟨n,Ρ⟩:=quit (1+j) x (by omega) (by simpa[crowd] using ε);exact⟨n,Ρ.leaves⟩
 ·obtain⟨n,Ρ⟩:=quit j x ε U;refine⟨n,?_⟩;have e:(t++MemOp.ofEvents 0 g.frame.fn g.frame.place es).deaf j (t++MemOp.ofEvents 0 g.frame.fn g.frame.place es).size=c.deaf j:=Mf.hears j;rw[e];exact Ρ.hears _
def Comes (P:Program) (Q:Value->Prop) (bt:World) (m:Machine) (t:Trace):Prop:=
 ∃N last o w' t',runNT P (N+1) m t=(.ended o w',t')/\runN P N m=.next last/\step P last=.ended o w'/\Good P (λv w'=>Q v/\fq (λ_ _=>False) (λ_=>False) bt w') last o w' t'
theorem Comes.next {m b0:Machine} {u:Trace} (ο:stepT P m=(.next b0,u)) (h:Comes P Q bt b0 (t++u)):Comes P Q bt m t:=by
 obtain⟨n,last,o,w,t',J,γ,π,Μ⟩:=h;exact⟨n+1,last,o,w,t',by rw[runNT_succ_next ο];exact J,by rw[runN_succ_next ο];exact γ,π,Μ⟩
theorem Comes.last {m:Machine} {u:Trace} {o:Outcome} {w:World} (ο:stepT P m=(.ended o w,u)) (Υ:Good P (λv w'=>Q v/\fq (λ_ _=>False) (λ_=>False) bt w') m o w (t++u)):Comes P Q bt m t:=
 ⟨0,m,o,w,t++u,by simp[runNT,ο],rfl,by simp[step,ο],Υ⟩
def xk (gs:Array Goroutine):Nat:=(gs.toList.filter λg=>decide (g.status=.running)).length
structure Ord (jx:List Nat) (n:Nat):Prop where
 nodup:jx.Nodup
 mem:∀i,i∈jx↔i<n
theorem Ord.part {jx:List Nat} {n i:Nat} (h:Ord jx n) (hi:i<n):∃a b,jx=a++i::b/\i∉a/\i∉b:=by
 obtain⟨a,b,rfl⟩:=List.append_of_mem ((h.mem i).2 hi);have:=h.nodup;rw[List.nodup_append] at this;obtain⟨_,γ,π⟩:=this;rw[List.nodup_cons] at γ;exact⟨a,b,rfl,λξ=>π i ξ i (by simp) rfl,γ.1⟩
theorem xl {B:Type} {T:Nat->B} {i:Nat} {x:B} {l:List Nat} (h:i∉l):l.map (upd T i x)=l.map T:=by
 apply List.map_congr_left;intro j ε;exact upd_ne _ _ (λe=>h (e▸ε))
theorem Ord.one {B:Type} {jx:List Nat} {n i:Nat} (h:Ord jx n) (hi:i<n) {T:Nat->gd B} {f:B->gd B} (Κ:T i=.node f) (k:B):na (jx.map (upd T i (f k))) (jx.map T):=by
 obtain⟨a,b,rfl,ξ,hb⟩:=h.part hi;simp only[List.map_append,List.map_cons,xl ξ,xl hb,upd_same,Κ];exact .one _ _ _ _
theorem Ord.two {B:Type} {jx:List Nat} {n i:Nat} (h:Ord jx n) (hi:i<n) {T:Nat->gd B} {f:B->gd B} (Κ:T i=.node f) (k ab:B) :
  ∃Cd,Ord Cd (n+1)/\na (Cd.map (upd (upd T i (f k)) n (f ab))) (jx.map T):=by
 have n2:n∉jx:=λU=>by have:=(h.mem n).1 U;omega
 obtain⟨a,b,rfl,ξ,hb⟩:=h.part hi;have mo:n∉a:=λU=>n2 (by simp[U]);have Mg:n∉b:=λU=>n2 (by simp[U]);refine⟨a++i::n::b,⟨?_,λj=>?_⟩,?_⟩
 ·have:=h.nodup;rw[List.nodup_append] at this ⊢;obtain⟨J,γ,π⟩:=this;rw[List.nodup_cons] at γ;refine⟨J,?_,λx U y Ξ=>?_⟩
  ·rw[List.nodup_cons,List.nodup_cons];exact⟨by simp;exact⟨by omega,γ.1⟩,Mg,γ.2⟩
  ·simp at Ξ;rcases Ξ with rfl|rfl|Ξ
   ·exact π x U _ (by simp)
   ·rintro rfl;exact mo U
   ·exact π x U y (by simp[Ξ])
 ·have:=h.mem j;simp only[List.mem_append,List.mem_cons] at this ⊢;constructor
  ·rintro(U|rfl|rfl|U)
   ·have:=this.1 (.inl U);omega
   ·omega
   ·omega
   ·have:=this.1 (.inr (.inr U));omega
  ·intro U;by_cases e:j=n
   ·exact .inr (.inr (.inl e))
   ·rcases this.2 (by omega) with U|rfl|U
    ·exact .inl U
    ·exact .inr (.inl rfl)
    ·exact .inr (.inr (.inr U))
 ·have br:i≠n:=by omega
  simp only[List.map_append,List.map_cons,xl mo,xl Mg,xl ξ,xl hb,upd_same,upd_ne _ _ br,Κ];exact .two _ _ _ _ _
end
theorem Ce {B:Type} {f:Nat->B} {k:Nat} {x:B} (h:f k=x):upd f k x=f:=by
 funext j
 by_cases e:j=k
 ·subst e;rw[upd_same,h]
 ·rw[upd_ne _ _ e]
theorem ix (H:cB->Α) (i:Nat) (G:Α) (b:Nat):bL H (.inl i) G (.inr b)=H (.inr b):=bM H G (by simp)
theorem vy (tok:Nat->Nat->Tok) (i s:Nat) (t:Tok):bY tok i s t i=upd (tok i) s t:=by unfold bY;rw[upd_same]
theorem sg {tok:Nat->Nat->Tok} {i s j:Nat} (t:Tok) (h:j≠i):bY tok i s t j=tok j:=by unfold bY;rw[upd_ne _ _ h]
theorem mq {B:Type} {a:Array B} {k:Nat} {x:B} (h:a[k]?=some x):k<a.size:=(Array.getElem?_eq_some_iff.1 h).1
theorem ofEvents_g {i:Nat} {fn:FuncId} {pos:String} {es:Array Event}:∀op∈MemOp.ofEvents i fn pos es,op.g=i:=λop Ν=>by obtain⟨e,_,rfl⟩:=Go.Conc.mem_ofEvents Ν;rfl
theorem Mh {i:Nat} {fn:FuncId} {pos:String}:MemOp.ofEvents i fn pos #[]=#[]:=by rw[ofEvents_eq];simp
theorem T2 (t:Trace) (i:Nat) (fn:FuncId) (pos:String) (es:Array Event) {j:Nat} (ε:j<=es.size):(t++MemOp.ofEvents i fn pos es).deaf i (t.size+j)=deafBehind (Deaf t i) (es.extract 0 j):=by
 have e:t++MemOp.ofEvents i fn pos es=(t++MemOp.ofEvents i fn pos (es.extract 0 j))++MemOp.ofEvents i fn pos (es.extract j es.size):=by
  rw[Array.append_assoc];congr 1;rw[ofEvents_eq,ofEvents_eq,ofEvents_eq,<-Array.map_append];congr 1;simp only[Array.extract_append_extract];rw[show max j es.size=es.size by omega];simp
 have cm:(t++MemOp.ofEvents i fn pos (es.extract 0 j)).size=t.size+j:=by rw[Array.size_append,ofEvents_eq];simp;omega
 rw[e,deaf_old (by omega),<-cm];exact Deaf_own t i fn pos _
theorem GB {t u:Trace} {k:Nat} (χ:t.size<=k) (ζ:(t++u).counts k):∃op,u[k-t.size]?=some op/\(t++u)[k]?=some op/\∃x,op.act.touch?=some x/\x.loc.isMemory=true/\(x.kind≠.atomic\/(t++u).heard k):=by
 obtain⟨x,J,γ,π⟩:=ζ;obtain⟨op,Γ,U⟩:=touch_of (t:=t++u) (i:=k) J;exact⟨op,by rw[Array.getElem?_append_right χ] at Γ;exact Γ,Γ,x,U,γ,π⟩
theorem xm {t u:Trace} (h:∀op∈u,op.act.touch?=none):∀k,t.size<=k->¬(t++u).counts k:=λk χ ζ=>by
 obtain⟨op,J,_,x,π,_⟩:=GB χ ζ;rw[h op (mem_of_getElem? J)] at π;cases π
theorem T3 {t:Trace} {i:Nat} {fn:FuncId} {pos:String} {es:Array Event} (h:∀e∈es,BY e):∀k,t.size<=k->¬(t++MemOp.ofEvents i fn pos es).counts k:=λk χ ζ=>by
 obtain⟨op,J,_,x,π,Μ,_⟩:=GB χ ζ;obtain⟨e,he,rfl⟩:=Go.Conc.mem_ofEvents (mem_of_getElem? J);obtain⟨loc,wr,oP⟩:=e;rcases h _ he with ω|ω<;>simp only at ω<;>subst ω<;>simp[MemAct.ofEvent,MemAct.touch?] at π;subst π;simp[Loc.isMemory] at Μ
theorem Cf {s d i:Nat} {sp:Spec} {es:Array Event} {fn:FuncId} {pos:String} (h:oN s sp d es) {op:MemOp} (Γ:op∈MemOp.ofEvents i fn pos es) :
  (op.act=.mark .disable\/op.act=.mark .enable)\/∃b off wr,op.act=.access ⟨.cell ⟨b,off,none⟩,wr,true⟩/\eb s sp b:=by
 obtain⟨e,he,rfl⟩:=Go.Conc.mem_ofEvents Γ;obtain⟨j,ε⟩:=Array.mem_iff_getElem?.1 he;obtain⟨loc,wr,oP⟩:=e;rcases h.2 j _ ε with ω|ω|⟨b,off,T4,ω,hb,_⟩
 ·simp only at ω;subst ω;exact .inl (.inl rfl)
 ·simp only at ω;subst ω;exact .inl (.inr rfl)
 ·cases ω;exact .inr ⟨b,off,_,rfl,hb⟩
theorem T5 {t:Trace} {s i:Nat} {sp:Spec} {fn:FuncId} {pos:String} {es:Array Event} (h:oN s sp (Deaf t i) es):∀k,t.size<=k->¬(t++MemOp.ofEvents i fn pos es).counts k:=λk χ ζ=>by
 obtain⟨op,J,γ,x,π,Μ,aA⟩:=GB χ ζ;rw[ofEvents_eq,Array.getElem?_map] at J;obtain⟨e,he,rfl⟩:=Option.map_eq_some_iff.1 J;have aD:k-t.size<es.size:=mq he;obtain⟨loc,wr,oP⟩:=e;rcases h.2 _ _ he with ω|ω|⟨b,off,T4,ω,hb,hd⟩
 ·simp only at ω;subst ω;simp[MemAct.ofEvent,MemAct.touch?] at π
 ·simp only at ω;subst ω;simp[MemAct.ofEvent,MemAct.touch?] at π
 ·cases ω;simp[MemAct.ofEvent,MemAct.touch?] at π;subst π;rcases aA with aA|⟨g,Υ,Θ⟩
  ·exact aA rfl
  ·simp[Trace.g?,γ] at Υ;subst Υ;have:=T2 t i fn pos es (Nat.le_of_lt aD);rw[show t.size+(k-t.size)=k by omega] at this;rw[this] at Θ;omega
section
variable {P:Program} {Q:Value->Prop} {bt:World} {c c':cY} {gs:Array Goroutine} {w w':World} {t:Trace} {i:Nat} {g g':Goroutine} {es:Array Event}
theorem Inv.low (h:Inv P Q bt c gs w t) {s b:Nat} {o:aN} (ο:c.O s=some o) (hb:eb s o.toSpec b):b<w.heap.size:=by
 obtain⟨⟨ty,J⟩,γ⟩:=h.mem.fD s o ο;rcases hb with rfl|hb
 ·exact fr J
 ·obtain⟨jo,π⟩:=γ b hb;exact fr π
theorem Inv.obj (h:Inv P Q bt c gs w t) {s:Nat} (Ο:c.tok i s≠.nil):∃o,c.O s=some o:=by
 cases ο:c.O s with
 | none=>exact absurd (h.bk.bare s ο i) Ο
 | some o=>exact⟨o,rfl⟩
theorem iw.grow {H:cB->Α} {aF:Nat->Nat->Option (Array Value×TypeId)} {tok:Nat->Nat->Tok} {O:Nat->Option aN} {bx deaf:Nat->Nat} {N eP:Nat} (h:iw H aF tok O bx deaf N t) (b8:N<=eP):iw H aF tok O bx deaf eP t:=
 ⟨h.race,λop Ν=>MemAct.low_mono b8 (h.low op Ν),h.norel,h.perms,h.oO,h.cont,h.hears⟩
theorem xj.app {aF pN:Nat->Nat->Option (Array Value×TypeId)} {tok ei:Nat->Nat->Tok} {O O':Nat->Option aN} {rel:Nat->Bool} {dr:Nat->Nat} {u:Trace} {N:Nat} (h:xj aF tok O rel dr t) (tx:∀op∈t,op.act.low N)
  (hu:∀op∈u,∀b,op.act≠.mark (.releaseMerge ⟨b,0,none⟩)) (hv:∀j b v,pN j b=some v->(∃e8,aF j b=some e8)\/N<=b) (cI:∀s o',O' s=some o'->∃o,O s=some o/\o.aT=o'.aT)
  (Ο:∀j s k mu g,tok j s=.ch k mu g->∃k mu g,ei j s=.ch k mu g):xj pN ei O' rel dr (t++u):=by
 refine⟨λs o' m ο hm p op ψ Γ=>?_,λj b v hb op Ν Γ=>?_⟩
 ·obtain⟨o,J,γ⟩:=cI s o' ο;rcases getElem?_append_cases ψ with⟨_,fX⟩|⟨_,gh⟩
  ·obtain⟨⟨k,mu,g,π⟩,Μ⟩:=h.iQ s o m J (by rw[γ];exact hm) p op fX Γ;exact⟨Ο _ _ _ _ _ π,λμ=>(Μ μ).app u⟩
  ·exact absurd Γ (hu op gh m)
 ·rcases Array.mem_append.1 Ν with kI|kI
  ·rcases hv j b v hb with⟨e8,lE⟩|hle
   ·exact h.vu j b e8 lE op kI Γ
   ·have:=tx op kI;rw[Γ] at this;simp only[MemAct.low] at this;omega
  ·exact hu op kI b Γ
theorem xi.zm {H H':cB->Α} {tok:Nat->Nat->Tok} {O:Nat->Option aN} (h:xi H tok O) (Β:∀b,H' (.inr b)=H (.inr b)):xi H' tok O:=
 ⟨λs o m a b d e=>by rw[Β];exact h.pM s o m a b d e,λs o a b=>by rw[Β];exact h.mi s o a b⟩
theorem Inv.laid (h:Inv P Q bt c gs w t) (Υ:gs[i]?=some g) {u:Trace}
  (mem:gZ c'.H c'.aF c'.O bt w') (hold:h7 c'.H c'.aF c'.O bt.heap.size) (bQ:iw c'.H c'.aF c'.tok c'.O c'.bx c'.deaf w'.heap.size (t++u))
  (bk:eD gs.size c'.tok c'.spec c'.view c'.rel c'.O c'.bx c'.home) (eh:xi c'.H c'.tok c'.O) (dX:vr gs.size c'.tok c'.rel c'.bx c'.home c'.dr (t++u)) (gg:xj c'.aF c'.tok c'.O c'.rel c'.dr (t++u))
  (GC:Rec P Q c' i g') (U:∀j,j≠i->c'.x j=c.x j/\c'.T j=c.T j)
  (hw:(mayWake P g=true/\iv g')\/∀j s o,j≠i->c.O s=some o->jW o (c.tok j s)->∃o',c'.O s=some o'/\jW o' (c.tok j s)) :
  Inv P Q bt c' ((gs.map (woken P g g' w')).setIfInBounds i g') w' (t++u):=by
 have cm:((gs.map (woken P g g' w')).setIfInBounds i g').size=gs.size:=by simp
 have br:i<gs.size:=mq Υ;refine⟨by rw[cm];exact h.pos,mem,hold,bQ,by rw[cm];exact bk,eh,by rw[cm];exact dX,gg,λj b hb=>?_⟩;by_cases e:j=i
 ·subst e;rw[Array.getElem?_setIfInBounds_self_of_lt (by simpa using br)] at hb;cases hb;exact GC
 ·rw[Array.getElem?_setIfInBounds_ne (Ne.symm e),Array.getElem?_map] at hb;obtain⟨cV,J,rfl⟩:=Option.map_eq_some_iff.1 hb;exact(h.vv j cV J).woken (i:=0) (U j e).1 (U j e).2 (hw.imp id λhw s o ο qV=>hw j s o e ο qV)
def hP (P:Program) (Q:Value->Prop) (bt:World) (c:cY) (gs:Array Goroutine) (w:World) (t:Trace) (i:Nat) (f:Bool×Goroutine×aV->gd (Bool×Goroutine×aV)):Prop:=
 ∀sl,∃c' qZ w' u,runT P (crowd gs w sl) i=(.next (crowd qZ w' sl),u)/\Inv P Q bt c' qZ w' (t++u)/\
  ((qZ.size=gs.size/\∃k,c'.T=upd c.T i (f k))\/(qZ.size=gs.size+1/\∃k ab,c'.T=upd (upd c.T i (f k)) gs.size (f ab))\/(qZ.size=gs.size/\c'.T=c.T/\xk qZ<xk gs))
def Cg (P:Program) (Q:Value->Prop) (bt:World) (c:cY) (gs:Array Goroutine) (w:World) (t:Trace) (i:Nat) (f:Bool×Goroutine×aV->gd (Bool×Goroutine×aV)):Prop:=
 ∃c',Inv P Q bt c' gs w t/\∃k,c'.T=upd c.T i (f k)
abbrev lF (P:Program) (Q:Value->Prop) (f:Bool×Goroutine×aV->gd (Bool×Goroutine×aV)):y7:=λvi g' c8=>jq P Q (f (vi,g',c8)) vi g' c8
theorem hP.go {f:Bool×Goroutine×aV->gd (Bool×Goroutine×aV)} (Υ:gs[i]?=some g) (ο:stepG P (i==0) g w=.go g' w' es)
  (h:Inv P Q bt c' ((gs.map (woken P g g' w')).setIfInBounds i g') w' (t++MemOp.ofEvents i g.frame.fn g.frame.place es)) (k:Bool×Goroutine×aV) (Κ:c'.T=upd c.T i (f k)):hP P Q bt c gs w t i f:=
 λ_=>⟨c',_,w',_,runT_crowd_go Υ ο,h,.inl ⟨by simp,k,Κ⟩⟩
variable {f:Bool×Goroutine×aV->gd (Bool×Goroutine×aV)}
theorem Inv.Gp (h:Inv P Q bt c gs w t) (Υ:gs[i]?=some g) (χ:LL P (i==0) (lF P Q f) g (c.x i)):hP P Q bt c gs w t i f:=by
 have hw:=χ w (h.mem.fit (.inl i)) (h.mem.me i);cases ο:stepG P (i==0) g w with
 | go g' w' es=>
  rw[ο] at hw;obtain⟨G',V',μ,tG,Φ,bV,tH,qQ,fu,Gq,bb⟩:=hw;have br:i<gs.size:=mq Υ;have Mi:∀e∈es,ha (c.H (.inl i)) w.heap.size w'.heap.size e:=λe he=>by
   have:=fu e he;split at this
   ·exact this.Gp
   ·exact this
  have U:∀j,j≠i->({c with H:=bL c.H (.inl i) G',aF:=upd c.aF i V',T:=upd c.T i (f (i==0,g',{c.x i with G:=G',aF:=V'}))}:cY).x j=c.x j:=λj ε=>by
   have:(Sum.inl j:cB)≠.inl i:=λe=>ε (by cases e;rfl);simp[cY.x,bM _ _ this,upd_ne _ _ ε]
  refine hP.go (c':={c with H:=bL c.H (.inl i) G',aF:=upd c.aF i V',T:=upd c.T i (f (i==0,g',{c.x i with G:=G',aF:=V'}))}) Υ ο ?_ _ rfl;refine h.laid Υ (h.mem.own h.hold i tG Φ bV rfl) (h.hold.own h.mem h.mem.keep.size i tH qQ) (h.bQ.own h.mem h.hold i tG.size tH qQ Mi Gq) h.bk ?_ ?_ ?_ ?_ (λj ε=>⟨U j ε,upd_ne _ _ ε⟩) (.inr λj s o _ a b=>⟨o,a,b⟩)
  ·exact h.eh.zm λb=>ix c.H i G' b
  ·refine h.dX.app br ofEvents_g (λdZ=>T3 λe he=>?_) (λ_ _ _ x=>x) (λ_ _ _ _ x=>x);have:=fu e he;have fa:(c.x i).rel=true:=dZ;simpa only[fa,if_true] using this
  ·refine h.gg.app h.bQ.low (λop Ν b hb=>?_) (λj b v hv=>?_) (λs o' ο=>⟨o',ο,rfl⟩) (λj s k mu g e=>⟨k,mu,g,e⟩)
   ·obtain⟨e,he,rfl⟩:=Go.Conc.mem_ofEvents Ν;have dt:=Mi e he;obtain⟨loc,wr,oP⟩:=e;cases loc with
    | mark m=>simp only[ha] at dt;subst dt;simp[MemAct.ofEvent] at hb
    | obj r=>cases wr<;>cases oP<;>simp[MemAct.ofEvent] at hb
    | _=>simp[MemAct.ofEvent] at hb
   ·replace hv:upd c.aF i V' j b=some v:=hv
    by_cases ε:j=i
    ·subst ε;rw[upd_same] at hv;exact(qQ b v hv).imp (λx=>⟨v,x⟩) (λx=>x.1)
    ·rw[upd_ne _ _ ε] at hv;exact .inl ⟨v,hv⟩
  ·refine⟨g',?_,.inl rfl⟩;have e:({c with H:=bL c.H (.inl i) G',aF:=upd c.aF i V',T:=upd c.T i (f (i==0,g',{c.x i with G:=G',aF:=V'}))}:cY).x i={c.x i with G:=G',aF:=V'}:=by
    simp[cY.x,upd_same]
   rw[e];show jq P Q (upd c.T i (f (i==0,g',{c.x i with G:=G',aF:=V'})) i) _ _ _;rw[upd_same];exact bb
 | _=>rw[ο] at hw;exact hw.elim
theorem gZ.zm {H:cB->Α} {aF:Nat->Nat->Option (Array Value×TypeId)} {O O':Nat->Option aN} (h:gZ H aF O bt w) (e:O'=O):gZ H aF O' bt w:=e▸h
theorem Inv.marked (h:Inv P Q bt c gs w t) (Υ:gs[i]?=some g) {m:Mark} (hm:m=.disable\/m=.enable) {d:Nat} (hd:d=deafBehind (c.deaf i) #[Go.ConcR.mk m]) (ο:stepG P (i==0) g w=.go g' w #[Go.ConcR.mk m])
  (bb:lF P Q f (i==0) g' {c.x i with deaf:=d}):hP P Q bt c gs w t i f:=by
 have br:i<gs.size:=mq Υ
 have nt:∀op∈MemOp.ofEvents i g.frame.fn g.frame.place #[Go.ConcR.mk m],op.act.touch?=none:=λop Ν=>by
  obtain⟨e,he,rfl⟩:=Go.Conc.mem_ofEvents Ν;simp at he;subst he;rcases hm with rfl|rfl<;>rfl
 have mo:∀op∈MemOp.ofEvents i g.frame.fn g.frame.place #[Go.ConcR.mk m],op.act=.mark .disable\/op.act=.mark .enable:=λop Ν=>by
  obtain⟨e,he,rfl⟩:=Go.Conc.mem_ofEvents Ν;simp at he;subst he;rcases hm with rfl|rfl
  ·exact .inl rfl
  ·exact .inr rfl
 refine hP.go (c':={c with deaf:=upd c.deaf i d,T:=upd c.T i (f (i==0,g',{c.x i with deaf:=d}))}) Υ ο ?_ _ rfl;refine h.laid Υ h.mem h.hold ?_ h.bk h.eh ?_ ?_ ⟨g',?_,.inl rfl⟩ (λj ε=>⟨by simp[cY.x,upd_ne _ _ ε],upd_ne _ _ ε⟩) (.inr λj s o _ a b=>⟨o,a,b⟩)
 ·refine h.bQ.ext h.hold i ofEvents_g (λop Ν=>?_) (λop Ν a ξ=>?_) (λop Ν b hb=>?_) (λj=>?_)
  ·rcases mo op Ν with e|e<;>rw[e]<;>trivial
  ·rcases mo op Ν with e|e<;>rw[e] at ξ<;>cases ξ
  ·rw[nt op Ν] at hb;cases hb
  ·by_cases e:j=i
   ·subst e;rw[Deaf_own,h.bQ.hears,hd];exact(upd_same ..).symm
   ·rw[Deaf_other t (Ne.symm e) _ ofEvents_g,h.bQ.hears];exact(upd_ne _ _ e).symm
 ·exact h.dX.app br ofEvents_g (λ_=>xm nt) (λ_ _ _ x=>x) (λ_ _ _ _ x=>x)
 ·refine h.gg.app h.bQ.low (λop Ν b hb=>?_) (λj b v hv=>.inl ⟨v,hv⟩) (λs o' ο=>⟨o',ο,rfl⟩) (λj s k mu g e=>⟨k,mu,g,e⟩);rcases mo op Ν with e|e<;>rw[e] at hb<;>cases hb
 ·have e:({c with deaf:=upd c.deaf i d,T:=upd c.T i (f (i==0,g',{c.x i with deaf:=d}))}:cY).x i={c.x i with deaf:=d}:=by
   simp[cY.x,upd_same]
  rw[e];show jq P Q (upd c.T i (f (i==0,g',{c.x i with deaf:=d})) i) _ _ _;rw[upd_same];exact bb
theorem Inv.T6 (h:Inv P Q bt c gs w t) (Υ:gs[i]?=some g) (χ:LM P (i==0) (lF P Q f) g (c.x i)):hP P Q bt c gs w t i f:=by
 obtain⟨g',_,χ|⟨_,χ⟩⟩:=χ
 ·obtain⟨J,γ⟩:=χ w (h.mem.fit (.inl i));exact h.marked Υ (.inl rfl) (by rfl) J γ
 ·obtain⟨J,γ⟩:=χ w (h.mem.fit (.inl i));exact h.marked Υ (.inr rfl) (by rfl) J γ
theorem Inv.T7 (h:Inv P Q bt c gs w t) (Υ:gs[i]?=some g) (χ:LN P (i==0) (lF P Q f) g (c.x i)):hP P Q bt c gs w t i f:=by
 obtain⟨s,n,p,aE,g',off,wr,J,γ,hf,π,Μ⟩:=χ;have br:i<gs.size:=mq Υ;obtain⟨ο,bb⟩:=Μ w (h.mem.fit (.inl i));have dE:c.tok i s=.par n p aE:=J;obtain⟨o,Γ⟩:=h.obj (i:=i) (s:=s) (by rw[dE];simp);have dZ:c.rel i=false:=hf;have mo:∀op∈MemOp.ofEvents i g.frame.fn g.frame.place #[Go.ConcR.mk (if wr then .write ⟨s,off,none⟩ else .read ⟨s,off,none⟩)],op.act=.mark (if wr then .write ⟨s,off,none⟩ else .read ⟨s,off,none⟩):=λop Ν=>by
  obtain⟨e,he,rfl⟩:=Go.Conc.mem_ofEvents Ν;simp at he;subst he;rfl
 refine hP.go (c':={c with T:=upd c.T i (f (i==0,g',c.x i))}) Υ ο ?_ _ rfl;refine h.laid Υ h.mem h.hold ?_ h.bk h.eh ?_ ?_ ⟨g',?_,.inl rfl⟩ (λj ε=>⟨rfl,upd_ne _ _ ε⟩) (.inr λj s o _ a b=>⟨o,a,b⟩)
 ·refine h.bQ.ext h.hold i ofEvents_g (λop Ν=>?_) (λop Ν a ξ=>?_) (λop Ν b hb=>?_) (λj=>?_)
  ·rw[mo op Ν];have:=h.low Γ (.inl rfl);cases wr<;>exact this
  ·rw[mo op Ν] at ξ;cases wr<;>cases ξ
  ·rw[mo op Ν] at hb;refine⟨s,o,s,off,Γ,.inl rfl,?_⟩;cases wr<;>simp[MemAct.touch?] at hb<;>subst hb<;>exact⟨rfl,.inr ⟨rfl,h.bk.par i s n p aE dE⟩⟩
  ·by_cases e:j=i
   ·subst e;rw[Deaf_own,h.bQ.hears];cases wr<;>rfl
   ·rw[Deaf_other t (Ne.symm e) _ ofEvents_g,h.bQ.hears]
 ·exact h.dX.app br ofEvents_g (λU=>by rw[dZ] at U;cases U) (λ_ _ _ x=>x) (λ_ _ _ _ x=>x)
 ·refine h.gg.app h.bQ.low (λop Ν b hb=>?_) (λj b v hv=>.inl ⟨v,hv⟩) (λs o' ο=>⟨o',ο,rfl⟩) (λj s k mu g e=>⟨k,mu,g,e⟩);rw[mo op Ν] at hb;cases wr<;>cases hb
 ·show jq P Q (upd c.T i (f (i==0,g',c.x i)) i) _ _ _;rw[upd_same];exact bb
theorem Inv.quits (h:Inv P Q bt c gs w t) (Υ:gs[i]?=some g) (χ:LU P (i==0) (lF P Q f) g (c.x i)):hP P Q bt c gs w t i f:=by
 obtain⟨mr,μ,dZ,vw,g',es,hm,ο,bb⟩:=χ;have br:i<gs.size:=mq Υ;have nt:∀op∈MemOp.ofEvents i g.frame.fn g.frame.place es,op.act.touch?=none:=λop Ν=>by
  obtain⟨e,he,rfl⟩:=Go.Conc.mem_ofEvents Ν;exact touch_mute (hm e he)
 have mo:∀op∈MemOp.ofEvents i g.frame.fn g.frame.place es,op.act=.mark .disable\/op.act=.mark .enable:=λop Ν=>by
  obtain⟨⟨loc,wr,oP⟩,he,rfl⟩:=Go.Conc.mem_ofEvents Ν;have:=hm _ he;cases loc<;>simp[Event.mute] at this;rename_i m;cases m<;>simp_all [MemAct.ofEvent]
 refine hP.go (c':={c with deaf:=upd c.deaf i (deafBehind (c.deaf i) es),T:=upd c.T i (f (i==0,g',{c.x i with deaf:=deafBehind (c.x i).deaf es}))}) Υ (by rw[mr];exact ο w) ?_ _ rfl;refine h.laid Υ h.mem h.hold ?_ h.bk h.eh ?_ ?_ ⟨g',?_,.inl rfl⟩ (λj ε=>⟨by simp[cY.x,upd_ne _ _ ε],upd_ne _ _ ε⟩) (.inr λj s o _ a b=>⟨o,a,b⟩)
 ·refine h.bQ.ext h.hold i ofEvents_g (λop Ν=>?_) (λop Ν a ξ=>?_) (λop Ν b hb=>?_) (λj=>?_)
  ·rcases mo op Ν with e|e<;>rw[e]<;>trivial
  ·rcases mo op Ν with e|e<;>rw[e] at ξ<;>cases ξ
  ·rw[nt op Ν] at hb;cases hb
  ·by_cases e:j=i
   ·subst e;rw[Deaf_own,h.bQ.hears];exact(upd_same ..).symm
   ·rw[Deaf_other t (Ne.symm e) _ ofEvents_g,h.bQ.hears];exact(upd_ne _ _ e).symm
 ·exact h.dX.app br ofEvents_g (λ_=>xm nt) (λ_ _ _ x=>x) (λ_ _ _ _ x=>x)
 ·refine h.gg.app h.bQ.low (λop Ν b hb=>?_) (λj b v hv=>.inl ⟨v,hv⟩) (λs o' ο=>⟨o',ο,rfl⟩) (λj s k mu g e=>⟨k,mu,g,e⟩);rcases mo op Ν with e|e<;>rw[e] at hb<;>cases hb
 ·have e:({c with deaf:=upd c.deaf i (deafBehind (c.deaf i) es),T:=upd c.T i (f (i==0,g',{c.x i with deaf:=deafBehind (c.x i).deaf es}))}:cY).x i={c.x i with deaf:=deafBehind (c.x i).deaf es}:=by
   simp[cY.x,upd_same]
  rw[e];show jq P Q (upd c.T i (f (i==0,g',{c.x i with deaf:=deafBehind (c.x i).deaf es})) i) _ _ _;rw[upd_same];exact bb
end
end Go.TL
namespace Go.TL
open Go.Conc
open Go.ConcM (OsLater)
open Go.ConcN (sumTo upd sumTo_upd upd_ne upd_same sumTo_congr le_sumTo)
section
variable {P:Program} {Q:Value->Prop} {bt:World} {c c':cY} {gs:Array Goroutine} {w w':World} {t:Trace} {i:Nat} {g g':Goroutine} {es:Array Event}
variable {f:Bool×Goroutine×aV->gd (Bool×Goroutine×aV)}
theorem T8 {o o':aN} {t t':Tok} (h:Act o t o' t'):(∀q p,t'≠.par q p .bA)/\(∀q p,t≠.par q p .bA)/\∀k L g,t=.ch k (.dc L) g->∃g',t'=.ch k (.dc L) g':=by
 cases h<;>refine⟨λq p e=>?_,λq p e=>?_,λk L g e=>?_⟩<;>cases e
 all_goals exact⟨_,rfl⟩
theorem Mj {B:Type} (p:B->Bool) {y:B} (Ξ:p y=false):∀(l:List B) (k:Nat) (x:B),l[k]?=some x->p x=true->((l.set k y).filter p).length<(l.filter p).length
 | [],k,x,h,_=>by simp at h
 | z::l,0,x,h,U=>by
  simp at h;subst h;simp[List.set,U,Ξ]
 | z::l,k+1,x,h,U=>by
  have:=Mj p Ξ l k x (by simpa using h) U;simp only[List.set,List.filter_cons];split<;>simpa using this
theorem T9 {k:Nat} (Υ:gs[k]?=some g) (μ:g.status=.running) (hb:g'.status≠.running):xk (gs.setIfInBounds k g')<xk gs:=by
 unfold xk;rw[Array.toList_setIfInBounds];exact Mj (λg:Goroutine=>decide (g.status=.running)) (by simp[hb]) _ k g (by rw[<-Υ];simp) (by simp[μ])
theorem Inv.atom (h:Inv P Q bt c gs w t) (Υ:gs[i]?=some g) (μ:iv g) (Κ:jq P Q (c.T i) (i==0) g (c.x i)) (χ:Atom P (i==0) (lF P Q f) g (c.x i)):hP P Q bt c gs w t i f:=by
 obtain⟨s,sp,J,γ,π⟩:=χ;have br:i<gs.size:=mq Υ;obtain⟨o,Γ,bU⟩:=h.bk.qR i s sp J;have tx:∀b,eb s sp b->b<w.heap.size:=λb hb=>h.low Γ (by rw[bU];exact hb);have hf:¬fU (c.tok i s):=γ;have zn:c.tok i s≠.nil:=λe=>hf (by rw[e];trivial);have Mk:∀{w':World} {es:Array Event} {k:Nat},fq (λb _=>eb s sp b) (λ_=>False) w w'->oN s sp (c.x i).deaf es->iw c.H c.aF c.tok c.O c.bx c.deaf w'.heap.size (t++MemOp.ofEvents i g.frame.fn g.frame.place es):=λ{w' es k} tG dt=>by
  refine iw.grow ?_ tG.size;refine h.bQ.ext h.hold i ofEvents_g (λop Ν=>?_) (λop Ν a ξ=>?_) (λop Ν b hb=>?_) (λj=>?_)
  ·rcases Cf dt Ν with(e|e)|⟨b,off,wr,e,hb⟩
   ·rw[e];trivial
   ·rw[e];trivial
   ·rw[e];exact tx b hb
  ·rcases Cf dt Ν with(e|e)|⟨b,off,wr,e,hb⟩<;>rw[e] at ξ<;>cases ξ
  ·rcases Cf dt Ν with(e|e)|⟨Χ,off,wr,e,db⟩
   ·rw[e] at hb;cases hb
   ·rw[e] at hb;cases hb
   ·rw[e] at hb;simp[MemAct.touch?] at hb;subst hb;exact⟨s,o,Χ,off,Γ,by rw[bU];exact db,rfl,.inl rfl⟩
  ·by_cases e:j=i
   ·subst e;rw[Deaf_own,h.bQ.hears];exact dt.1
   ·rw[Deaf_other t (Ne.symm e) _ ofEvents_g,h.bQ.hears]
 have norel:∀{es:Array Event},oN s sp (c.x i).deaf es->∀op∈MemOp.ofEvents i g.frame.fn g.frame.place es,∀b,op.act≠.mark (.releaseMerge ⟨b,0,none⟩):=λdt op Ν b hb=>by
  rcases Cf dt Ν with(e|e)|⟨Χ,off,wr,e,db⟩<;>rw[e] at hb<;>cases hb
 have Ml:∀{es:Array Event},oN s sp (c.x i).deaf es->∀k,t.size<=k->¬(t++MemOp.ofEvents i g.frame.fn g.frame.place es).counts k:=λdt=>T5 (s:=s) (sp:=sp) (by rw[h.bQ.hears];exact dt);rcases π w (et gs.size o (λj=>c.tok j s)) o (h.mem.fit (.inl i)) (h.mem.me i) bU (h.mem.fD s o Γ) (λgD lB hv=>by
   obtain⟨du,Ζ,Ε,aY⟩:=h.bk.vk i s gD lB hv;rw[Γ] at Ζ;cases Ζ;exact⟨Ε,aY⟩) ⟨gs.size,λj=>c.tok j s,i,h.bk.bg s o Γ,br,rfl,λk L g e=>h.bk.dc i s k L g o Γ e⟩ with hgo|⟨hw,cA,ο⟩
 ·cases ο:stepG P (i==0) g w with
  | go g' w' es=>
   rw[ο] at hgo;obtain⟨fa,tG,dt,hQ⟩:=hgo;have Mm:fq (λb _=>eb s o.toSpec b) (λ_=>False) w w':=by rw[bU];exact tG
   rcases hQ with⟨bB,bb⟩|⟨o',t',tI,bB,T',bb⟩
   ·refine hP.go (c':={c with view:=upd c.view i (upd (c.view i) s (some (et gs.size o (λj=>c.tok j s),o))),T:=upd c.T i (f (i==0,g',{c.x i with view:=upd (c.view i) s (some (et gs.size o (λj=>c.tok j s),o))}))}) Υ ο ?_ _ rfl;refine h.laid Υ ((h.mem.atom h.hold rfl Γ rfl Mm bB).zm (Ce Γ).symm) h.hold (Mk (k:=0) tG dt) (h.bk.look Γ) h.eh
     (h.dX.app br ofEvents_g (λ_=>Ml dt) (λ_ _ _ x=>x) (λ_ _ _ _ x=>x))
     (h.gg.app h.bQ.low (norel dt) (λj b v hv=>.inl ⟨v,hv⟩) (λs o' ο=>⟨o',ο,rfl⟩) (λj s k mu g e=>⟨k,mu,g,e⟩))
     ⟨g',?_,.inl rfl⟩ (λj ε=>⟨by simp[cY.x,upd_ne _ _ ε],upd_ne _ _ ε⟩) (.inr λj s o _ a b=>⟨o,a,b⟩)
    have e:({c with view:=upd c.view i (upd (c.view i) s (some (et gs.size o (λj=>c.tok j s),o))),T:=upd c.T i (f (i==0,g',{c.x i with view:=upd (c.view i) s (some (et gs.size o (λj=>c.tok j s),o))}))}:cY).x i={c.x i with view:=upd (c.view i) s (some (et gs.size o (λj=>c.tok j s),o))}:=by
     simp[cY.x,upd_same]
    rw[e];show jq P Q (upd c.T i (f (i==0,g',{c.x i with view:=upd (c.view i) s (some (et gs.size o (λj=>c.tok j s),o))})) i) _ _ _;rw[upd_same];exact bb
   ·have Ua:=LG (N:=gs.size) (τ:=λj=>c.tok j s) br rfl tI
    have Ub:=bb _ Ua;obtain⟨xf,B4,Gw⟩:=L3 tI;obtain⟨Uc,Ud,Ue⟩:=T8 tI;have cI:=mg.upd Γ xf;have tJ:∀j r q p,bY c.tok i s t' j r=.par q p .bA↔c.tok j r=.par q p .bA:=λj r q p=>by
     by_cases e:j=i/\r=s
     ·obtain⟨rfl,rfl⟩:=e;rw[e1];exact⟨λx=>absurd x (Uc q p),λx=>absurd x (Ud q p)⟩
     ·rw[eM _ e]
    have GD:∀j r k L g,c.tok j r=.ch k (.dc L) g->∃g',bY c.tok i s t' j r=.ch k (.dc L) g':=λj r k L g ε=>by
     by_cases e:j=i/\r=s
     ·obtain⟨rfl,rfl⟩:=e;rw[e1];exact Ue k L g ε
     ·rw[eM _ e];exact⟨g,ε⟩
    have keepW:o'=o->∀j r q,j≠i->c.O r=some q->jW q (c.tok j r)->∃iS,upd c.O s (some o') r=some iS/\jW iS (c.tok j r):=λjw j r q _ a b=>⟨q,by
     by_cases e:r=s
     ·subst e;subst jw;rw[Γ] at a;cases a;exact upd_same _ _ _
     ·rw[upd_ne _ _ e];exact a,b⟩
    have g1:∀r q,upd c.O s (some o') r=some q->∃h9,c.O r=some h9/\h9.toSpec=q.toSpec/\h9.L=q.L/\h9.Ω=q.Ω:=λr q Ρ=>by
     by_cases e:r=s
     ·subst e;rw[upd_same] at Ρ;cases Ρ;exact⟨o,Γ,xf.symm,B4.symm,Gw.symm⟩
     ·rw[upd_ne _ _ e] at Ρ;exact⟨q,Ρ,rfl,rfl,rfl⟩
    let c8:aV:={c.x i with tok:=upd (c.tok i) s t',view:=upd (c.view i) s (some (et gs.size o' (upd (λj=>c.tok j s) i t'),o'))};refine hP.go (c':={c with tok:=bY c.tok i s t',view:=upd c.view i (upd (c.view i) s (some (et gs.size o' (upd (λj=>c.tok j s) i t'),o'))),O:=upd c.O s (some o'),T:=upd c.T i (f (i==0,g',c8))}) Υ ο ?_ _ rfl;refine h.laid Υ (h.mem.atom h.hold rfl Γ xf Mm bB) (h.hold.m8 cI) ((Mk (k:=0) tG dt).TT cI λj r ε e=>?_) (h.bk.act Γ rfl tI) ⟨λr q m Ρ hm bP gr=>?_,λr q Ρ bP=>?_⟩
     (h.dX.app br ofEvents_g (λ_=>Ml dt) (λs q p ⟨j,x⟩=>⟨j,(tJ j s q p).1 x⟩) (λj s q p x=>(tJ j s q p).1 x))
     (h.gg.app h.bQ.low (norel dt) (λj b v hv=>.inl ⟨v,hv⟩) (λr q Ρ=>let ⟨h9,a,b,_⟩:=g1 r q Ρ;⟨h9,a,by rw[b]⟩) (λj r k mu g e=>?_))
     ⟨g',?_,.inl rfl⟩ (λj ε=>⟨by simp[cY.x,upd_ne _ _ ε,sg _ ε],upd_ne _ _ ε⟩) (T'.imp (λhm=>⟨hm,fa⟩) λjw=>keepW jw)
    ·by_cases aJ:j=i/\r=s
     ·obtain⟨rfl,rfl⟩:=aJ;exact zn e
     ·apply ε;show bY c.tok i s t' j r=.nil;rw[eM _ aJ];exact e
    ·obtain⟨h9,a,b,Χ,_⟩:=g1 r q Ρ;have:=h.eh.pM r h9 m a (by rw[b];exact hm) (λj q p x=>bP j q p ((tJ j r q p).2 x)) (λj k L g x=>let ⟨g',y⟩:=GD j r k L g x;gr j k L g' y);rw[b,Χ] at this;exact this
    ·obtain⟨h9,a,b,_,Χ⟩:=g1 r q Ρ;have:=h.eh.mi r h9 a (λj q p x=>bP j q p ((tJ j r q p).2 x));rw[b,Χ] at this;exact this
    ·by_cases aJ:j=i/\r=s
     ·obtain⟨rfl,rfl⟩:=aJ;obtain⟨eN,Τ,y,_⟩:=(L4 tI).2.1 k mu g e;exact⟨k,eN,Τ,by show bY c.tok j r t' j r=_;rw[e1];exact y⟩
     ·exact⟨k,mu,g,by show bY c.tok i s t' j r=_;rw[eM _ aJ];exact e⟩
    ·have e:({c with tok:=bY c.tok i s t',view:=upd c.view i (upd (c.view i) s (some (et gs.size o' (upd (λj=>c.tok j s) i t'),o'))),O:=upd c.O s (some o'),T:=upd c.T i (f (i==0,g',c8))}:cY).x i=c8:=by
      simp[c8,cY.x,upd_same,vy]
     rw[e];show jq P Q (upd c.T i (f (i==0,g',c8)) i) _ _ _;rw[upd_same];exact Ub
  | _=>rw[ο] at hgo;exact hgo.elim
 ·refine λsl=>⟨c,_,w,_,runT_crowd_go Υ ο,?_,.inr (.inr ⟨by simp,rfl,?_⟩)⟩
  ·rw[Mh,Array.append_empty];have:=h.laid (c':=c) (u:=#[]) Υ (g':={g with status:=.blocked}) h.mem h.hold (by rw[Array.append_empty];exact h.bQ) h.bk h.eh (by rw[Array.append_empty];exact h.dX) (by rw[Array.append_empty];exact h.gg) ⟨g,Κ,.inr ⟨μ,rfl,s,o,Γ,hw,cA⟩⟩ (λj ε=>⟨rfl,rfl⟩) (.inr λj s o _ a b=>⟨o,a,b⟩)
   rwa [Array.append_empty] at this
  ·have e:gs.map (woken P g {g with status:=.blocked} w)=gs:=by
    have:woken P g {g with status:=.blocked} w=id:=by
     funext b;simp[woken]
    rw[this];simp
   rw[e];exact T9 Υ μ.1 (by simp)
end
end Go.TL
