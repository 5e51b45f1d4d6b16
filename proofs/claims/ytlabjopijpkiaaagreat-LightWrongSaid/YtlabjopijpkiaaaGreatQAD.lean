import Derived.Test.YtlabjopijpkiaaaGreatQAC
set_option maxHeartbeats 16000000
set_option maxRecDepth 20000
set_option linter.unusedSectionVars false
set_option linter.unusedSimpArgs false
set_option linter.unusedVariables false
namespace Go.TL
open Go.Conc
open Go.ConcM (OsLater)
open Go.ConcN (sumTo upd sumTo_upd upd_ne upd_same sumTo_congr le_sumTo)
open Go.ConcR (mk)
def l8 (O O':Nat->Option aM):Prop:=(∀s o',O' s=some o'->∃o,O s=some o/\o.toSpec=o'.toSpec)/\∀s o,O s=some o->∃o',O' s=some o'/\o.toSpec=o'.toSpec
theorem l8.upd {O:Nat->Option aM} {s:Nat} {o o':aM} (ο:O s=some o) (h:o'.toSpec=o.toSpec):l8 O (Go.ConcN.upd O s (some o')):=by
 refine⟨λr q Χ=>?_,λr q Χ=>?_⟩
 ·by_cases e:r=s
  ·subst e;rw[upd_same] at Χ;cases Χ;exact⟨o,ο,h.symm⟩
  ·rw[upd_ne _ _ e] at Χ;exact⟨q,Χ,rfl⟩
 ·by_cases e:r=s
  ·subst e;rw[ο] at Χ;cases Χ;exact⟨o',upd_same ..,h.symm⟩
  ·exact⟨q,by rw[upd_ne _ _ e];exact Χ,rfl⟩
section
variable {H:cF->ψ} {aF:Nat->Nat->Option (Array Value×TypeId)} {tok ev:Nat->Nat->Tok} {O O':Nat->Option aM} {bz:Nat->Nat} {deaf Lr:Nat->Nat} {N ho:Nat} {t:Trace} {bs w w':World}
theorem Ch {h:cF} {k:Nat} (cj:∀s o',O' s=some o'->∃o,O s=some o/\o.toSpec=o'.toSpec) (Ξ:∀i s,ev i s≠.nil->tok i s≠.nil) (χ:jv tok O t h k):jv ev O' t h k:=by
 cases h with
 | inl i=>exact χ
 | inr b=>
  refine χ.imp id λh s o ο hb i hi=>?_;obtain⟨lk,J,γ⟩:=cj s o ο;exact h s lk J (by rw[γ];exact hb) i (Ξ i s hi)
theorem iE.Sw (h:iE H aF tok O bz deaf N t) (cj:l8 O O') (Ξ:∀i s,ev i s≠.nil->tok i s≠.nil):iE H aF ev O' bz deaf N t:=
 ⟨h.race,h.low,h.norel,λk=>(h.perms k).mono λ_=>Ch cj.1 Ξ,h.ox,λs o b ο hb=>let ⟨lk,J,γ⟩:=cj.1 s o ο;h.cont s lk b J (by rw[γ];exact hb),h.hears⟩
theorem ic.mV (h:ic H aF O ho) (cj:l8 O O'):ic H aF O' ho:=
 ⟨h.apart,h.high,h.nM,h.fresh,λs o b ο hb=>let ⟨lk,J,γ⟩:=cj.1 s o ο;h.j' s lk b J (by rw[γ];exact hb),
  λs bq o o' b ο iS hb dG=>let ⟨lk,J,γ⟩:=cj.1 s o ο;let ⟨dH,π,Μ⟩:=cj.1 bq o' iS;h.ky s bq lk dH b J π (by rw[γ];exact hb) (by rw[Μ];exact dG),
  λs o m ο hm=>let ⟨lk,J,γ⟩:=cj.1 s o ο;h.pv s lk m J (by rw[γ];exact hm),
  λb hb=>h.eu b λs o ο hi=>let ⟨o',J,γ⟩:=cj.2 s o ο;hb s o' J (by rw[<-γ];exact hi)⟩
theorem iE.ext (h:iE H aF tok O bz deaf N t) (Β:ic H aF O ho) (i:Nat) {u:Trace} (hu:∀op∈u,op.g=i) (Α:∀op∈u,op.act.low N) (μ:∀op∈u,∀a,op.act≠.mark (.release a))
  (Ξ:∀op∈u,∀b,op.act.touch?=some b->∃s o l9 off,O s=some o/\ei s o.toSpec l9/\b.loc=.cell ⟨l9,off,none⟩/\(b.kind=.atomic\/(b.kind=.said/\i=bz s)))
  (hd:∀j,Deaf (t++u) j=Lr j):iE H aF tok O bz Lr N (t++u):=by
 refine⟨λsaid=>noRace_append (h.race said) hu λk a ν op Ν b hb ζ=>?_,λop Ν=>(Array.mem_append.1 Ν).elim (h.low op) (Α op),λop Ν=>(Array.mem_append.1 Ν).elim (h.norel op) (μ op),λk=>?_,λj b v hv k a ν fa=>?_,λs o b ο hb k a ν fa=>?_,hd⟩
 ·obtain⟨s,o,l9,off,J,γ,π,Μ⟩:=Ξ op Ν b hb;obtain⟨c1,_,_,c4⟩:=ζ;have fa:nH a.loc l9:=by rw[c1,π];rfl
  rcases h.cont s o l9 J γ k a ν fa with aB|⟨aB,bc⟩
  ·exfalso;rcases c4 with x|x|⟨_,x,_⟩
   ·rw[aB] at x;cases x
   ·rcases Μ with y|⟨y,_⟩<;>(rw[y] at x;cases x)
   ·rw[aB] at x;cases x
  ·rcases Μ with y|⟨y,rfl⟩
   ·exfalso;rcases c4 with x|x|⟨_,_,x⟩
    ·rw[aB] at x;cases x
    ·rw[y] at x;cases x
    ·rw[y] at x;cases x
   ·obtain⟨z,Η,_⟩:=touch_of ν;have:=knows_own Η;have e:z.g=bz s:=by simpa[Trace.g?,Η] using bc
    rwa [e] at this
 ·have:dm (t++u) (jv tok O (t++u) k) (H k):=(h.perms k).others (λx U=>Gc _ U) λop Ν a ν=>by
   obtain⟨s,o,l9,off,J,γ,π,Μ⟩:=Ξ op Ν a ν;have off:=(Β.j' s o l9 J γ).2.1 k;refine⟨λb o' v p Α ζ=>?_,λb Α hb=>?_⟩
   ·rw[π] at Α;cases Α;exact absurd ⟨_,ζ⟩ (off.1 _)
   ·rw[π] at Α;cases Α
  exact this
 ·rcases mW ν with eh|⟨_,op,Ν,_,ie⟩
  ·exact h.ox j b v hv k a eh fa
  ·obtain⟨s,o,l9,off,J,γ,π,Μ⟩:=Ξ op Ν a ie;rw[π] at fa;simp only[nH] at fa;subst fa;rw[(Β.j' s o l9 J γ).2.2 j] at hv;cases hv
 ·rcases mW ν with eh|⟨_,op,Ν,χ,ie⟩
  ·rcases h.cont s o b ο hb k a eh fa with x|⟨x,Υ⟩
   ·exact .inl x
   ·obtain⟨z,Η,_⟩:=touch_of eh;exact .inr ⟨x,by rw[g?_old (lt_size_of_getElem? Η)];exact Υ⟩
  ·obtain⟨bq,o',l9,off,J,γ,π,Μ⟩:=Ξ op Ν a ie;rw[π] at fa;simp only[nH] at fa;subst fa;have es:=Β.ky s bq o o' l9 ο J hb γ;subst es;rcases Μ with x|⟨x,y⟩
   ·exact .inl x
   ·exact .inr ⟨x,by simp[Trace.g?,χ,hu op Ν,y]⟩
theorem dm.sub {jr:Nat->Prop} {G G':ψ} (h:dm t jr G) (ο:Sub G' G):dm t jr G':=
 ⟨λb o v p ζ i a ν Α hw=>let ⟨fv,ah,ω⟩:=ο.aG b o v p ζ;h.aG b o v fv ah i a ν Α (hw.imp ω id),λb ⟨x,U⟩ i a ν Α=>h.obj b ⟨x,ο.obj b x U⟩ i a ν Α⟩
theorem dm.join {jr:Nat->Prop} {G E:ψ} (h:dm t jr G) (k:dm t jr E):dm t jr (Go.TL.join G E):=by
 refine⟨λb o v p ζ i a ν Α hw=>?_,λb hb i a ν Α=>?_⟩
 ·simp only[Go.TL.join] at ζ;cases Υ:G.aG b o with
  | none=>rw[Υ] at ζ;exact k.aG b o v p ζ i a ν Α hw
  | some y=>rw[Υ] at ζ;cases ζ;exact h.aG b o v p Υ i a ν Α hw
 ·obtain⟨x,U⟩:=hb;simp only[Go.TL.join] at U;cases Υ:G.obj b with
  | none=>rw[Υ] at U;exact k.obj b ⟨x,U⟩ i a ν Α
  | some y=>exact h.obj b ⟨y,Υ⟩ i a ν Α
theorem dm.empty {jr:Nat->Prop}:dm t jr ψ.empty:=⟨λ_ _ _ _ h=>(by cases h),λ_ ⟨_,h⟩=>(by cases h)⟩
theorem dm.release {i b:Nat} {G:ψ} {y:MemOp} (h:dm t (Knows t i) G) (Υ:y.g=i) (Ο:y.act=.mark (.releaseMerge ⟨b,0,none⟩)) (hd:Deaf t i=0):dm (t++#[y]) (jv tok O (t++#[y]) (.inr b)) G:=by
 have ig:(t++#[y])[t.size]?=some y:=by simp
 have zn:(t++#[y]).heard t.size:=⟨i,by simp[Trace.g?,Υ],by rw[deaf_old (Nat.le_refl _)];exact hd⟩
 have key:∀k,Knows t i k->jv tok O (t++#[y]) (.inr b) k:=λk χ=>.inl ⟨t.size,y,ig,Ο,zn,.inr (χ.hb_new (Nat.le_refl _) ig Υ)⟩
 have nt:∀k a,touchAt (t++#[y]) k=some a->touchAt t k=some a:=λk a ν=>by
  rcases mW ν with eh|⟨_,op,Ν,_,ie⟩
  ·exact eh
  ·simp at Ν;subst Ν;rw[Ο] at ie;simp[MemAct.touch?] at ie
 exact⟨λoz o v p ζ k a ν Α hw=>key k (h.aG oz o v p ζ k a (nt k a ν) Α hw),λoz hb k a ν Α=>key k (h.obj oz hb k a (nt k a ν) Α)⟩
theorem dm.acquire {i b s:Nat} {o:aM} {E:ψ} {y:MemOp} (h:dm t (jv tok O t (.inr b)) E) (eb:∀op∈t,∀a,op.act≠.mark (.release a)) (ο:O s=some o) (hb:ei s o.toSpec b) (hi:tok i s≠.nil)
  (Υ:y.g=i) (Ο:y.act=.mark (.acquire ⟨b,0,none⟩)) (hd:Deaf t i=0):dm (t++#[y]) (Knows (t++#[y]) i) E:=by
 have ig:(t++#[y])[t.size]?=some y:=by simp
 have zn:(t++#[y]).heard t.size:=⟨i,by simp[Trace.g?,Υ],by rw[deaf_old (Nat.le_refl _)];exact hd⟩
 have key:∀k,jv tok O t (.inr b) k->Knows (t++#[y]) i k:=λk χ=>by
  rcases χ with⟨p,op,J,γ,π,Μ⟩|χ
  ·have ω:=lt_size_of_getElem? J;refine⟨t.size,y,ig,Υ,.inr ((Μ.app #[y]).hb (.single (.inr ⟨.marked (a:=⟨b,0,none⟩) ω (.inr ?_) ?_ ?_,(heard_old ω).2 π,zn⟩)))⟩
   ·rw[act?_old ω,act?_of J,γ]
   ·rw[act?_of ig,Ο]
   ·intro ab ih eO kg;rw[act?_old eO] at kg;obtain⟨rY,jx,ie⟩:=Option.map_eq_some_iff.1 kg;exact eb rY (mem_of_getElem? jx) _ ie
  ·exact(χ s o ο hb i hi).app _
 have nt:∀k a,touchAt (t++#[y]) k=some a->touchAt t k=some a:=λk a ν=>by
  rcases mW ν with eh|⟨_,op,Ν,_,ie⟩
  ·exact eh
  ·simp at Ν;subst Ν;rw[Ο] at ie;simp[MemAct.touch?] at ie
 exact⟨λoz o v p ζ k a ν Α hw=>key k (h.aG oz o v p ζ k a (nt k a ν) Α hw),λoz hb k a ν Α=>key k (h.obj oz hb k a (nt k a ν) Α)⟩
theorem Knows.spawn {i j k:Nat} {y z:MemOp} (h:Knows t i k) (Ls:y.g=i) (Ο:y.act=.go j) (Gl:z.g=j) (Η:z.act=.start) (hd:Deaf t i=0) (Sx:Deaf t j=0):Knows (t++#[y,z]) j k:=by
 have vi:(t++#[y,z])[t.size]?=some y:=by simp
 have gK:(t++#[y,z])[t.size+1]?=some z:=by simp
 have d1:(t++#[y,z]).heard t.size:=⟨i,by simp[Trace.g?,Ls],by rw[deaf_old (Nat.le_refl _)];exact hd⟩
 have d2:(t++#[y,z]).heard (t.size+1):=⟨j,by simp[Trace.g?,Gl],by
  rw[deaf_succ vi];have:deafStep j ((t++#[y,z]).deaf j t.size) y=(t++#[y,z]).deaf j t.size:=by simp[deafStep,Ο]
  rw[this,deaf_old (Nat.le_refl _)];exact Sx⟩
 have Ε:=h.hb_new (u:=#[y,z]) (Nat.le_refl _) vi Ls
 have Ζ:HappensBefore (t++#[y,z]) t.size (t.size+1):=.single (.inr ⟨.spawn (child:=j) (by rw[act?_of vi,Ο]) (by rw[act?_of gK,Η]) (by simp[Trace.g?,Gl]),d1,d2⟩);exact⟨t.size+1,z,gK,Gl,.inr (Ε.trans Ζ)⟩
theorem Sub.refl (G:ψ):Sub G G:=⟨λ_ _ _ p h=>⟨p,h,id⟩,λ_ _ h=>h,λ_ _ h=>h⟩
theorem Sub.owns {G G':ψ} (h:Sub G' G) {b o:Nat} (x:G'.owns b o):G.owns b o:=let ⟨v,hv⟩:=x;let ⟨p,ah,ω⟩:=h.aG b o v true hv;⟨v,by rw[ah,ω rfl]⟩
theorem Sub.has {G G':ψ} (h:Sub G' G) {b o:Nat} (x:G'.has b o):G.has b o:=let ⟨v,hv⟩:=x;let ⟨p,ah,_⟩:=h.aG b o v.1 v.2 hv;⟨_,ah⟩
theorem Sub.e0 {G G':ψ} (h:Sub G' G) {b:Nat} (x:G'.e0 b):G.e0 b:=let ⟨v,hv⟩:=x;⟨v,h.obj b v hv⟩
theorem Sub.off {G G':ψ} (h:Sub G' G) {b:Nat} (x:G.off b):G'.off b:=⟨λo Γ=>x.1 o (h.has Γ),λΓ=>x.2 (h.e0 Γ)⟩
theorem Sub.fits {G G':ψ} (h:Sub G' G) (x:Fits G w):Fits G' w:=⟨λb o v p ζ=>let ⟨fv,ah,_⟩:=h.aG b o v p ζ;x.aG b o v fv ah,λb t n μ=>x.row b t n (h.row b _ μ),λb v hv=>x.obj b v (h.obj b v hv)⟩
theorem Apart.symm {A B:ψ} (h:Apart A B):Apart B A:=⟨h.qw,h.aG,λb hb ν=>h.obj b ν hb⟩
theorem Apart.sub {A B Lt B':ψ} (h:Apart A B) (ν:Sub Lt A) (hb:Sub B' B):Apart Lt B':=
 ⟨λb o x y=>h.aG b o (ν.owns x) (hb.has y),λb o x y=>h.qw b o (hb.owns x) (ν.has y),λb x y=>h.obj b (ν.e0 x) (hb.e0 y)⟩
theorem Apart.tv (A:ψ):Apart A ψ.empty:=⟨λ_ _ _ ⟨_,h⟩=>(by cases h),λ_ _ ⟨_,h⟩=>(by cases h),λ_ _ ⟨_,h⟩=>(by cases h)⟩
theorem Gm {G E:ψ} {b o:Nat} (h:(join G E).owns b o):G.owns b o\/E.owns b o:=by
 obtain⟨v,hv⟩:=h;simp only[join] at hv;cases Υ:G.aG b o with
 | none=>rw[Υ] at hv;exact .inr ⟨v,hv⟩
 | some y=>rw[Υ] at hv;cases hv;exact .inl ⟨v,Υ⟩
theorem Lu {G E:ψ} {b o:Nat} (h:(join G E).has b o):G.has b o\/E.has b o:=by
 obtain⟨v,hv⟩:=h;simp only[join] at hv;cases Υ:G.aG b o with
 | none=>rw[Υ] at hv;exact .inr ⟨v,hv⟩
 | some y=>exact .inl ⟨y,Υ⟩
theorem Ci {G E:ψ} {b:Nat} (h:(join G E).e0 b):G.e0 b\/E.e0 b:=by
 obtain⟨v,hv⟩:=h;simp only[join] at hv;cases Υ:G.obj b with
 | none=>rw[Υ] at hv;exact .inr ⟨v,hv⟩
 | some y=>exact .inl ⟨y,Υ⟩
theorem Sy {G E:ψ} {b:Nat} (h:G.off b) (k:E.off b):(join G E).off b:=⟨λo Γ=>(Lu Γ).elim (h.1 o) (k.1 o),λΓ=>(Ci Γ).elim h.2 k.2⟩
theorem zo {G E:ψ} (h:Fits G w) (k:Fits E w):Fits (join G E) w:=by
 refine⟨λb o v p ζ=>?_,λb t n μ=>?_,λb v hv=>?_⟩
 ·simp only[join] at ζ;cases Υ:G.aG b o with
  | none=>rw[Υ] at ζ;exact k.aG b o v p ζ
  | some y=>rw[Υ] at ζ;cases ζ;exact h.aG b o v p Υ
 ·simp only[join] at μ;cases Υ:G.row b with
  | none=>rw[Υ] at μ;exact k.row b t n μ
  | some y=>rw[Υ] at μ;cases μ;exact h.row b t n Υ
 ·simp only[join] at hv;cases Υ:G.obj b with
  | none=>rw[Υ] at hv;exact k.obj b v hv
  | some y=>rw[Υ] at hv;cases hv;exact h.obj b v Υ
theorem Apart.qF {A B C:ψ} (h:Apart A C) (k:Apart B C):Apart (join A B) C:=
 ⟨λb o x y=>(Gm x).elim (λz=>h.aG b o z y) (λz=>k.aG b o z y),λb o x y=>(Lu y).elim (λz=>h.qw b o x z) (λz=>k.qw b o x z),λb x y=>(Ci x).elim (λz=>h.obj b z y) (λz=>k.obj b z y)⟩
theorem vj (w:World):Fits ψ.empty w:=⟨λ_ _ _ _ h=>(by cases h),λ_ _ _ h=>(by cases h),λ_ _ h=>(by cases h)⟩
theorem ic.two (h:ic H aF O ho) {a b:cF} (gS:a≠b) {A B:ψ} (bU:Sub A (join (H a) (H b))) (fb:Sub B (join (H a) (H b))) (Lv:Apart A B)
  (cj:l8 O O') (Lw:∀x,b=.inr x\/a=.inr x->∃s o,O s=some o/\ei s o.toSpec x):ic (bM (bM H a A) b B) aF O' ho:=by
 have cW:=h.mV cj
 have vk:bM (bM H a A) b B a=A:=by rw[bN _ _ gS,dD]
 have vl:bM (bM H a A) b B b=B:=dD _ _ _
 have qG:∀k,k≠a->k≠b->bM (bM H a A) b B k=H k:=λk J γ=>by rw[bN _ _ γ,bN _ _ J]
 have Cj:∀k,k≠a->k≠b->Apart (join (H a) (H b)) (H k):=λk J γ=>(h.apart a k (Ne.symm J)).qF (h.apart b k (Ne.symm γ))
 have Lx:∀x,(∀k,(H k).off x)->(join (H a) (H b)).off x:=λx U=>Sy (U a) (U b)
 have Gn:∀{p:cF->Prop},p a->p b->(∀k,k≠a->k≠b->p k)->∀k,p k:=λtw tx Sz k=>by
  by_cases J:k=a
  ·rw[J];exact tw
  ·by_cases γ:k=b
   ·rw[γ];exact tx
   ·exact Sz k J γ
 have Ly:∀x,(∀k,(H k).off x)->∀k,(bM (bM H a A) b B k).off x:=λx U=>Gn (by rw[vk];exact bU.off (Lx x U)) (by rw[vl];exact fb.off (Lx x U)) (λk J γ=>by rw[qG k J γ];exact U k);refine⟨λp q zp=>?_,?_,?_,λi x v hv=>?_,λs o x ο U=>?_,cW.ky,cW.pv,λx U=>?_⟩
 ·by_cases tw:p=a
  ·subst tw;by_cases xn:q=b
   ·subst xn;rw[vk,vl];exact Lv
   ·rw[vk,qG q (Ne.symm zp) xn];exact(Cj q (Ne.symm zp) xn).sub bU (Sub.refl _)
  ·by_cases tx:p=b
   ·subst tx;by_cases xo:q=a
    ·subst xo;rw[vk,vl];exact Lv.symm
    ·rw[vl,qG q xo (Ne.symm zp)];exact(Cj q xo (Ne.symm zp)).sub fb (Sub.refl _)
   ·by_cases xo:q=a
    ·subst xo;rw[vk,qG p tw tx];exact((Cj p tw tx).sub bU (Sub.refl _)).symm
    ·by_cases xn:q=b
     ·subst xn;rw[vl,qG p tw tx];exact((Cj p tw tx).sub fb (Sub.refl _)).symm
     ·rw[qG p tw tx,qG q xo xn];exact h.apart p q zp
 ·exact Gn (λx o Γ=>by rw[vk] at Γ;exact(Gm (bU.owns Γ)).elim (h.high _ _ _) (h.high _ _ _)) (λx o Γ=>by rw[vl] at Γ;exact(Gm (fb.owns Γ)).elim (h.high _ _ _) (h.high _ _ _)) (λk J γ x o Γ=>by rw[qG k J γ] at Γ;exact h.high _ _ _ Γ)
 ·exact Gn (λx Γ=>by rw[vk] at Γ;exact(Ci (bU.e0 Γ)).elim (h.nM _ _) (h.nM _ _)) (λx Γ=>by rw[vl] at Γ;exact(Ci (fb.e0 Γ)).elim (h.nM _ _) (h.nM _ _)) (λk J γ x Γ=>by rw[qG k J γ] at Γ;exact h.nM _ _ Γ)
 ·obtain⟨a1,ba,cm⟩:=h.fresh i x v hv;exact⟨a1,Ly x ba,cm⟩
 ·obtain⟨a1,ba,cm⟩:=cW.j' s o x ο U;exact⟨a1,Ly x ba,cm⟩
 ·have hI:(.inr x:cF)≠b:=λe=>by
   obtain⟨s,o,ο,hi⟩:=Lw x (.inl e.symm);obtain⟨o',J,γ⟩:=cj.2 s o ο;exact U s o' J (by rw[<-γ];exact hi)
  have fP:(.inr x:cF)≠a:=λe=>by
   obtain⟨s,o,ο,hi⟩:=Lw x (.inr e.symm);obtain⟨o',J,γ⟩:=cj.2 s o ο;exact U s o' J (by rw[<-γ];exact hi)
  rw[qG _ fP hI];exact cW.eu x U
theorem Sub.qF {G E A:ψ} (h:Sub A G):Sub A (join G E):=
 ⟨λb o v p ζ=>let ⟨fv,ah,ω⟩:=h.aG b o v p ζ;⟨fv,by simp[join,ah],ω⟩,λb x U=>by simp[join,h.row b x U],λb x U=>by simp[join,h.obj b x U]⟩
theorem g2.two (h:g2 H aF O bs w) {a b:cF} {A B:ψ} (bU:Fits A w) (fb:Fits B w) (cj:∀s o',O' s=some o'->At s o' w):g2 (bM (bM H a A) b B) aF O' bs w:=by
 refine⟨λk=>?_,h.l7,cj,h.keep⟩;by_cases γ:k=b
 ·subst γ;rw[dD];exact fb
 ·rw[bN _ _ γ];by_cases J:k=a
  ·subst J;rw[dD];exact bU
  ·rw[bN _ _ J];exact h.fit k
theorem g2.atom (h:g2 H aF O bs w) (Β:ic H aF O ho) (ah:bs.heap.size=ho) {s:Nat} {o o':aM} (ο:O s=some o) (bX:o'.toSpec=o.toSpec) (χ:ft (λb _=>ei s o.toSpec b) (λ_=>False) w w') (ν:At s o' w') :
  g2 H aF (Go.ConcN.upd O s (some o')) bs w':=by
 refine⟨λk=>(h.fit k).keeps χ (λb dH hb=>((Β.j' s o b ο hb).2.1 k).1 dH) (λb hb=>hb.elim),λj b c t hb=>?_,λr q Χ=>?_,?_⟩
 ·obtain⟨c',J,γ,π⟩:=χ.cells b c t _ (h.l7 j b c t hb);have:c'=c:=by
   apply Array.ext_getElem?;intro dH;exact π dH λdG=>by rw[(Β.j' s o b ο dG).2.2 j] at hb;cases hb
  rw[J,this]
 ·by_cases e:r=s
  ·subst e;rw[upd_same] at Χ;cases Χ;exact ν
  ·rw[upd_ne _ _ e] at Χ;have zg:∀b c t,ei r q.toSpec b->w.heap[b]?=some (.cells c t (0,0))->w'.heap[b]?=some (.cells c t (0,0)):=λb c t hb ζ=>by
    obtain⟨c',J,γ,π⟩:=χ.cells b c t _ ζ;have:c'=c:=by
     apply Array.ext_getElem?;intro dH;exact π dH λdG=>e (Β.ky r s q o b Χ ο hb dG)
    rw[J,this]
   obtain⟨⟨ty,J⟩,γ⟩:=h.fF r q Χ;exact⟨⟨ty,zg _ _ _ (.inl rfl) J⟩,λm hm=>let ⟨js,π⟩:=γ m hm;⟨js,zg _ _ _ (.inr hm) π⟩⟩
 ·have eC:=h.keep;refine⟨Nat.le_trans eC.size χ.size,λb c t dR hb=>?_,λb x hb U _=>χ.mV b x (eC.mV b x hb U id) U id,eC.os.trans χ.os,χ.output.trans eC.output,χ.tape.trans eC.tape⟩;obtain⟨c1,J,γ,π⟩:=eC.cells b c t dR hb;obtain⟨c2,Μ,aB,bc⟩:=χ.cells b c1 t dR J;refine⟨c2,Μ,by rw[aB,γ],λdH _=>?_⟩;rw[bc dH λU=>?_,π dH id];have:=(Β.j' s o b ο U).1;have:=fu hb;omega
end
structure xp (H:cF->ψ) (tok:Nat->Nat->Tok) (O:Nat->Option aM):Prop where
 pw:∀s o m,O s=some o->o.aT=some m->(∀i q p,tok i s≠.par q p .bF)->(∀i k L g,tok i s≠.ch k (.dj L) g)->o.aI o.L (H (.inr m))
 l':∀s o,O s=some o->(∀i q p,tok i s≠.par q p .bF)->ll o.D o.af (H (.inr s))
structure vm (n:Nat) (tok:Nat->Nat->Tok) (rel:Nat->Bool) (bz home dx:Nat->Nat) (t:Trace):Prop where
 dC:∀k g,t.g? k=some g->g<n
 c1:∀i,i≠0->rel i=true->∃op,t[dx i]?=some op/\op.g=i/\op.act=.mark (.releaseMerge ⟨home i,0,none⟩)/\t.heard (dx i)/\∀k,t.g? k=some i->t.counts k->Before t k (dx i)
 c2:∀i,i≠0->rel i=true->(∃q p,tok (bz (home i)) (home i)=.par q p .bF)->Knows t (bz (home i)) (dx i)
 c3:∀i,i≠0->rel i=true->bz (home i)≠0->rel (bz (home i))=true->Before t (dx i) (dx (bz (home i)))
structure xq (aF:Nat->Nat->Option (Array Value×TypeId)) (tok:Nat->Nat->Tok) (O:Nat->Option aM) (rel:Nat->Bool) (dx:Nat->Nat) (t:Trace):Prop where
 iW:∀s o m,O s=some o->o.aT=some m->∀p op,t[p]?=some op->op.act=.mark (.releaseMerge ⟨m,0,none⟩)->(∃k mu g,tok op.g s=.ch k mu g)/\(rel op.g=true->Before t p (dx op.g))
 vn:∀i b v,aF i b=some v->∀op∈t,op.act≠.mark (.releaseMerge ⟨b,0,none⟩)
def Rec (P:Program) (Q:Value->Prop) (c:c5) (i:Nat) (g:Goroutine):Prop:=
 ∃cP,ju P Q (c.T i) (i==0) cP (c.x i)/\(g=cP\/(iD cP/\g={cP with status:=.blocked}/\∃s o,c.O s=some o/\jT o (c.tok i s)/\∀bq,bq≠s->m1 (c.tok i bq)))
structure Inv (P:Program) (Q:Value->Prop) (bs:World) (c:c5) (gs:Array Goroutine) (w:World) (t:Trace):Prop where
 pos:0<gs.size
 mem:g2 c.H c.aF c.O bs w
 hold:ic c.H c.aF c.O bs.heap.size
 bQ:iE c.H c.aF c.tok c.O c.bz c.deaf w.heap.size t
 bh:eI gs.size c.tok c.spec c.view c.rel c.O c.bz c.home
 eu:xp c.H c.tok c.O
 dY:vm gs.size c.tok c.rel c.bz c.home c.dx t
 gb:xq c.aF c.tok c.O c.rel c.dx t
 vo:∀i g,gs[i]?=some g->Rec P Q c i g
theorem zq {t u:Trace} {k:Nat} (h:k<t.size):(t++u).counts k↔t.counts k:=by
 unfold Trace.counts;rw[act?_old h,heard_old h]
theorem vm.app {n:Nat} {tok ev:Nat->Nat->Tok} {rel:Nat->Bool} {bz home dx:Nat->Nat} {t u:Trace} (h:vm n tok rel bz home dx t) {i:Nat} (hi:i<n) (hu:∀op∈u,op.g=i)
  (ζ:rel i=true->∀k,t.size<=k->¬(t++u).counts k) (χ:∀s q p,(∃j,ev j s=.par q p .bF)->∃j,tok j s=.par q p .bF) (zr:∀j s q p,ev j s=.par q p .bF->tok j s=.par q p .bF):vm n ev rel bz home dx (t++u):=by
 refine⟨λk g Υ=>?_,λj ah ε=>?_,λj ah ε bj=>?_,λj ah ε J γ=>(h.c3 j ah ε J γ).app u⟩
 ·obtain⟨op,Γ,hq⟩:=Option.map_eq_some_iff.1 Υ;rcases getElem?_append_cases Γ with⟨_,jx⟩|⟨_,gd⟩
  ·exact h.dC k g (by simp[Trace.g?,jx,hq])
  ·rw[<-hq,hu op gd];exact hi
 ·obtain⟨op,J,γ,π,Μ,aB⟩:=h.c1 j ah ε;have ω:=lt_size_of_getElem? J;refine⟨op,by rw[getElem?_append_old ω];exact J,γ,π,(heard_old ω).2 Μ,λk Υ hr=>?_⟩;obtain⟨rY,Γ,hq⟩:=Option.map_eq_some_iff.1 Υ;rcases getElem?_append_cases Γ with⟨aH,jx⟩|⟨hle,gd⟩
  ·exact(aB k (by simp[Trace.g?,jx,hq]) ((zq aH).1 hr)).app u
  ·have e:j=i:=by rw[<-hq,hu rY gd]
   subst e;exact absurd hr (ζ ε k hle)
 ·obtain⟨q,p,Χ⟩:=bj;exact(h.c2 j ah ε ⟨q,p,zr _ _ _ _ Χ⟩).app u
section
variable {P:Program} {Q:Value->Prop} {bs:World} {c:c5} {gs:Array Goroutine} {w:World} {t:Trace}
theorem Inv.stat (h:Inv P Q bs c gs w t) {i:Nat} {g:Goroutine} (Υ:gs[i]?=some g):g.status=.running\/(i≠0/\g.status=.finished/\c.rel i=true/\∀s,Gone (c.tok i s))\/(g.status=.blocked/\∃s o,c.O s=some o/\jT o (c.tok i s)/\∀bq,bq≠s->m1 (c.tok i bq)):=by
 obtain⟨cP,μ,ζ⟩:=h.vo i g Υ;rcases ζ with rfl|⟨_,rfl,hw⟩
 ·cases Θ:c.T i with
  | leaf=>
   rw[Θ] at μ;rcases μ.2 with⟨_,J⟩|⟨ah,J,γ,π,_⟩
   ·exact .inl J.1.1
   ·exact .inr (.inl ⟨by rintro rfl;simp at ah,π,J,γ⟩)
  | node f=>
   rw[Θ] at μ;rcases μ.2 with(⟨_,J⟩|⟨ah,J,γ,π,_⟩)|J
   ·exact .inl J.1.1
   ·exact .inr (.inl ⟨by rintro rfl;simp at ah,π,J,γ⟩)
   ·rcases J with⟨_,γ,_⟩|⟨γ,_⟩
    ·exact .inl γ
    ·exact .inl γ.1
 ·exact .inr (.inr ⟨rfl,hw⟩)
theorem SA {t:Tok} (h:ov t):∃k m g,t=.ch k m g/\¬m1 t/\(∀o,¬jT o t)/\m≠.done/\m≠.idle:=by
 cases t with
 | nil=>exact h.elim
 | par=>exact h.elim
 | ch k m g=>
  refine⟨k,m,g,rfl,?_⟩;cases m with
  | act b=>cases b<;>first|exact h.elim|simp[m1,jT]
  | _=>first|exact h.elim|simp[m1,jT]
theorem Inv.awake (h:Inv P Q bs c gs w t):∃(i:Nat) (g:Goroutine),gs[i]?=some g/\g.status=.running:=by
 apply Classical.byContradiction;intro Ck;have g1:∀i,i<gs.size->(c.rel i=true/\∀s,Gone (c.tok i s))\/∃s o,c.O s=some o/\jT o (c.tok i s)/\∀bq,bq≠s->m1 (c.tok i bq):=λi hi=>by
  have Υ:gs[i]?=some gs[i]:=e9 hi;rcases h.stat Υ with J|⟨_,_,J⟩|⟨_,J⟩
  ·exact absurd ⟨i,_,Υ,J⟩ Ck
  ·exact .inl J
  ·exact .inr J
 have up:∀i s o n p,c.O s=some o->c.tok i s=.par n p .w3->o.cH=0->∃j bq o' iT e2,i<j/\j<gs.size/\c.O bq=some o'/\c.tok j bq=.par iT e2 .w3/\o'.cH=0:=λi s o n p ο Ξ ah=>by
  have bb:i<gs.size:=h.bh.lt (s:=s) (by rw[Ξ];simp);obtain⟨j,ε,cE⟩:=Si (h.bh.bm s o ο).2 (i:=i) bb Ξ ah;have ma:qC (c.tok j s):=cE;have mb:∃k m g,c.tok j s=.ch k m g/\g≠.gone:=by
   cases U:c.tok j s with
   | nil=>rw[U] at ma;exact ma.elim
   | par=>rw[U] at ma;exact ma.elim
   | ch k m g=>rw[U] at ma;exact⟨k,m,g,rfl,by rintro rfl;exact ma⟩
  obtain⟨k,m,g,U,Υ⟩:=mb;obtain⟨_,rZ,aH⟩:=h.bh.oB j s k m g U;have hi:=h.bh.par i s n p _ Ξ;rcases g1 j ε with⟨_,J⟩|⟨bq,o',iS,hw,gΥ⟩
  ·have:=J s;rw[U] at this;cases g<;>first|exact absurd rfl Υ|exact this.elim
  ·by_cases e:bq=s
   ·subst e;rw[ο] at iS;cases iS;rw[U] at hw;have hm:m=.q/\o.c0=0:=by cases m<;>simp_all [jT]
    obtain⟨rfl,SB⟩:=hm;have Χ:0<a7 gs.size (λa=>c.tok a bq) lb:=by
     have:=fp (λa=>c.tok a bq) lb ε;simp only[U,lb,y5] at this;omega
    obtain⟨a,ν,hb⟩:=Se (h.bh.bm bq o ο).1 Χ SB;obtain⟨ab,b2,g',hF,bP,dw,fN,mc⟩:=SA hb;have Cl:c.tok a bq=.ch ab b2 g':=hF;exfalso;rcases g1 a ν with⟨_,J⟩|⟨s2,iX,dU,gw,Cm⟩
    ·have r4:=J bq;rw[Cl] at r4;have:g'≠.work:=by rintro rfl;exact r4
     rcases h.bh.oD a bq ab b2 g' o ο Cl this with e|⟨e,_⟩
     ·exact fN e
     ·exact mc e
    ·by_cases Ζ:s2=bq
     ·subst Ζ;exact dw _ gw
     ·exact bP (Cm bq (Ne.symm Ζ))
   ·cases Ο:c.tok j bq with
    | nil=>rw[Ο] at hw;exact hw.elim
    | ch ab b2 g'=>exact absurd ((h.bh.oB j bq ab b2 g' Ο).2.1.symm.trans rZ) e
    | par iT e2 Gh=>
     rw[Ο] at hw;cases Gh<;>first|exact hw.elim|exact⟨j,bq,o',iT,e2,by omega,ε,iS,Ο,hw⟩
 have top:∀d i s o n p,gs.size-i=d->i<gs.size->c.O s=some o->c.tok i s=.par n p .w3->o.cH=0->False:=λd=>by
  induction d using Nat.strongRecOn with
  | _ d Δ=>
   intro i s o n p hd hi ο Ξ ah;obtain⟨j,bq,o',iT,e2,J,γ,π,Μ,aB⟩:=up i s o n p ο Ξ ah;exact Δ (gs.size-j) (by omega) j bq o' iT e2 rfl γ π Μ aB
 rcases g1 0 h.pos with⟨J,_⟩|⟨s,o,ο,hw,_⟩
 ·rw[h.bh.ts] at J;cases J
 ·cases Ο:c.tok 0 s with
  | nil=>rw[Ο] at hw;exact hw.elim
  | ch k m g=>exact(h.bh.oB 0 s k m g Ο).1 rfl
  | par n p ae=>
   rw[Ο] at hw;cases ae<;>first|exact hw.elim|exact top _ 0 s o n p rfl h.pos ο Ο hw
theorem Rec.woken {c':c5} {i j:Nat} {g g' b:Goroutine} {w':World} (h:Rec P Q c j b) (U:c'.x j=c.x j) (Θ:c'.T j=c.T j)
  (hw:(mayWake P g=true/\iD g')\/∀s o,c.O s=some o->jT o (c.tok j s)->∃o',c'.O s=some o'/\jT o' (c.tok j s)):Rec P Q c' j (Go.Conc.woken P g g' w' b):=by
 have dK:c'.tok j=c.tok j:=congrArg aU.tok U;obtain⟨cP,μ,ζ⟩:=h;rcases ζ with rfl|⟨dS,rfl,s,o,ο,qH,cE⟩
 ·have ο:b.status=.running\/b.status=.finished:=by
   cases qI:c.T j with
   | leaf=>
    rw[qI] at μ;rcases μ.2 with⟨_,J⟩|⟨_,_,_,π,_⟩
    ·exact .inl J.1.1
    ·exact .inr π
   | node f=>
    rw[qI] at μ;rcases μ.2 with(⟨_,J⟩|⟨_,_,_,π,_⟩)|J
    ·exact .inl J.1.1
    ·exact .inr π
    ·rcases J with⟨_,γ,_⟩|⟨γ,_⟩
     ·exact .inl γ
     ·exact .inl γ.1
  have:Go.Conc.woken P g g' w' b=b:=by
   unfold Go.Conc.woken;split
   ·exact again_running _ ο
   ·rfl
  rw[this];exact⟨b,by rw[U,Θ];exact μ,.inl rfl⟩
 ·unfold Go.Conc.woken;split
  ·rename_i Cn;refine⟨cP,by rw[U,Θ];exact μ,.inl ?_⟩;obtain⟨r1,r2⟩:=dS;obtain⟨au,bF,st,gΦ,of⟩:=cP;simp only at r1 r2;subst r1 r2;rfl
  ·rename_i Cn;rcases hw with⟨J,γ⟩|hw
   ·exfalso;apply Cn;simp[J,γ.1]
   ·obtain⟨o',J,γ⟩:=hw s o ο qH;exact⟨cP,by rw[U,Θ];exact μ,.inr ⟨dS,rfl,s,o',J,by rw[dK];exact γ,by rw[dK];exact cE⟩⟩
end
section
variable {P:Program} {Q:Value->Prop} {bs:World} {c:c5} {gs:Array Goroutine} {w:World} {t:Trace}
theorem Inv.at (h:Inv P Q bs c gs w t) (d:Nat):Inv P Q bs c gs (w.at d) t:=⟨h.pos,h.mem.at d,h.hold,h.bQ,h.bh,h.eu,h.dY,h.gb,h.vo⟩
theorem Inv.gone (h:Inv P Q bs c gs w t) (ah:∀s,fO (c.tok 0 s)):∀j,j≠0->j<gs.size->c.rel j=true/\(∀s,Gone (c.tok j s))/\Knows t 0 (c.dx j):=by
 have SC:∀t:Tok,fO t->Gone t:=λt Ξ=>by cases t with
  | nil=>trivial
  | par _ _ ae=>cases ae<;>first|exact Ξ.elim|trivial
  | ch=>exact Ξ.elim
 intro j
 induction j using Nat.strongRecOn with
 | _ j Δ=>
  intro fy e3;obtain⟨k,m,g,Ξ⟩:=h.bh.rW j fy e3;obtain⟨_,_,aH⟩:=h.bh.oB j _ k m g Ξ;cases Γ:c.O (c.home j) with
  | none=>have:=h.bh.bare _ Γ j;rw[Ξ] at this;cases this
  | some o=>
  have Ι:=h.bh.bm _ o Γ;obtain⟨i0,kh,ω⟩:=B5 (φ:=eM) (N:=gs.size) (τ:=λa=>c.tok a (c.home j)) (by rw[Ι.2.nK];exact Nat.one_pos);have zr:∃q p ae,c.tok i0 (c.home j)=.par q p ae:=by
   cases U:c.tok i0 (c.home j) with
   | par q p ae=>exact⟨q,p,ae,rfl⟩
   | nil=>simp[U,eM] at ω
   | ch=>simp[U,eM] at ω
  obtain⟨q,p,ae,U⟩:=zr;have cI:=h.bh.par i0 _ q p ae U;subst cI;have bj:ae=.bF/\(c.bz (c.home j)≠0->c.rel (c.bz (c.home j))=true/\Knows t 0 (c.dx (c.bz (c.home j)))):=by
   by_cases e:c.bz (c.home j)=0
   ·have:=ah (c.home j);rw[<-e,U] at this;refine⟨by cases ae<;>first|exact this.elim|rfl,λx=>absurd e x⟩
   ·obtain⟨r1,r2,r3⟩:=Δ _ aH e kh;have:=r2 (c.home j);rw[U] at this;exact⟨by cases ae<;>first|exact this.elim|rfl,λ_=>⟨r1,r3⟩⟩
  obtain⟨rfl,fQ⟩:=bj;have tz:a7 gs.size (λa=>c.tok a (c.home j)) ib=1:=by
   rw[pq (φ:=ib) (λt Ξ=>by cases t<;>simp_all [eM,ib]) Ι.2.nK kh (by rw[U];rfl),U];rfl
  obtain⟨f1,f2,f3,f4,f5,f6⟩:=Ι.2.KX tz;have Co:=Ι.2.FX;have l1:=fp (λa=>c.tok a (c.home j)) iU e3;have l2:=fp (λa=>c.tok a (c.home j)) jR e3;have oq:=fp (λa=>c.tok a (c.home j)) jS e3;simp only[Ξ,iU,jR,jS] at l1 l2 oq;have Υ:g=.gone:=by
   cases g with
   | gone=>rfl
   | work=>simp only[rU] at l1;omega
   | rel=>simp only[rU] at l1;omega
   | l2=>simp only[u3] at l2;omega
   | hG=>simp only[u4] at oq;omega
  subst Υ;have eb:c.rel j=true:=(h.bh.g3 j k m _ fy Ξ).2 (by simp);refine⟨eb,λs=>?_,?_⟩
  ·by_cases e:s=c.home j
   ·subst e;rw[Ξ];trivial
   ·exact SC _ (h.bh.oC j s eb e)
  ·have χ:=h.dY.c2 j fy eb ⟨q,p,U⟩;by_cases e:c.bz (c.home j)=0
   ·rw[e] at χ;exact χ
   ·obtain⟨r1,r2⟩:=fQ e;exact Knows.of_before (h.dY.c3 j fy eb e r1) r2
theorem SD {o:aM} {x:Tok} (h:Gone x) (J:∀k m g,x=.ch k m g->m≠.q):¬jT o x:=by
 cases x with
 | nil=>exact id
 | par _ _ ae=>cases ae<;>first|exact h.elim|exact id
 | ch k m g=>cases m<;>first|exact absurd rfl (J _ _ _ rfl)|exact id
theorem Inv.Lz (h:Inv P Q bs c gs w t) {g:Goroutine} (Υ:gs[0]?=some g) (ο:Lf P g (c.x 0) Q) (sl:Option (Nat×Nat)) (w1:World) :
  ∃v es,stepG P true g w=.ended (.done v) w es/\Good P (λv w'=>Q v/\ft (λ_ _=>False) (λ_=>False) bs w') (crowd gs w1 sl) (.done v) w (t++MemOp.ofEvents 0 g.frame.fn g.frame.place es):=by
 obtain⟨_,cQ,hd,tz⟩:=ο;obtain⟨v,es,J,γ,π⟩:=tz w (h.mem.fit (.inl 0));refine⟨v,es,J,v,rfl,⟨π,h.mem.keep⟩,?_⟩;have vp:=h.gone cQ;have LA:=h.bQ.own (w':=w) h.mem h.hold 0 (G':=c.H (.inl 0)) (V':=c.aF 0) (es:=es) (fn:=g.frame.fn) (pos:=g.frame.place) (Nat.le_refl _)
  ⟨λb o v p ζ=>.inr ⟨v,p,ζ,id⟩,λb hb=>.inr hb⟩ (λb x U=>.inl U) γ (λb x U hle=>by
   have:=fu (h.mem.l7 0 b x.1 x.2 U);omega)
 have quit:∀j x,j≠0->gs[j]?=some x->∃n,QuitsD P n (c.deaf j) x:=λj x ε U=>by
  have e3:=(Array.getElem?_eq_some_iff.1 U).1;obtain⟨r1,r2,_⟩:=vp j ε e3;obtain⟨cP,μ,ζ⟩:=h.vo j x U;have Χ:∃n,QuitsD P n (c.deaf j) cP:=by
   cases Θ:c.T j with
   | leaf=>rw[Θ] at μ;exact μ.1 r1 r2
   | node f=>rw[Θ] at μ;exact μ.1 r1 r2
  rcases ζ with rfl|⟨_,_,s,o,ο,hw,_⟩
  ·exact Χ
  ·refine absurd hw (SD (r2 s) λk m g e hm=>?_);subst hm;have qJ:g≠.work:=by rintro rfl;have:=r2 s;rw[e] at this;exact this
   rcases h.bh.oD j s k _ g o ο e qJ with x|⟨x,_⟩<;>cases x
 refine⟨LA.race,λk g' χ bw ζ=>?_,⟨λx U=>?_,rfl⟩,λj x U ε=>?_⟩
 ·obtain⟨op,Γ,hq⟩:=Option.map_eq_some_iff.1 χ;rcases getElem?_append_cases Γ with⟨aH,jx⟩|⟨_,gd⟩
  ·have hs:t.g? k=some g':=by simp[Trace.g?,jx,hq]
   have SE:=h.dY.dC k g' hs;obtain⟨r1,_,r3⟩:=vp g' bw SE;obtain⟨rY,Ε,Ζ,a6,cD,eN⟩:=h.dY.c1 g' bw r1;obtain⟨q,z,zs,tA,Gp⟩:=Knows.of_before (eN k hs ((zq aH).1 ζ)) r3;refine⟨q,by simp[Trace.g?,getElem?_append_old (lt_size_of_getElem? zs),zs,tA],?_⟩;rcases Gp with rfl|Gp
   ·exfalso;simp[Trace.g?,zs,tA] at hs;exact bw hs.symm
   ·exact hb_app _ Gp
  ·obtain⟨e,_,rfl⟩:=Go.Conc.mem_ofEvents gd;exact absurd hq.symm bw
 ·obtain⟨j,ε⟩:=List.mem_iff_getElem?.1 U;rw[List.getElem?_drop] at ε;obtain⟨n,Χ⟩:=quit (1+j) x (by omega) (by simpa[crowd] using ε);exact⟨n,Χ.leaves⟩
 ·obtain⟨n,Χ⟩:=quit j x ε U;refine⟨n,?_⟩;have e:(t++MemOp.ofEvents 0 g.frame.fn g.frame.place es).deaf j (t++MemOp.ofEvents 0 g.frame.fn g.frame.place es).size=c.deaf j:=LA.hears j;rw[e];exact Χ.hears _
def Comes (P:Program) (Q:Value->Prop) (bs:World) (m:Machine) (t:Trace):Prop:=
 ∃N last o w' t',runNT P (N+1) m t=(.ended o w',t')/\runN P N m=.next last/\step P last=.ended o w'/\Good P (λv w'=>Q v/\ft (λ_ _=>False) (λ_=>False) bs w') last o w' t'
theorem Comes.next {m b2:Machine} {u:Trace} (ο:stepT P m=(.next b2,u)) (h:Comes P Q bs b2 (t++u)):Comes P Q bs m t:=by
 obtain⟨n,last,o,w,t',J,γ,π,Μ⟩:=h;exact⟨n+1,last,o,w,t',by rw[runNT_succ_next ο];exact J,by rw[runN_succ_next ο];exact γ,π,Μ⟩
theorem Comes.last {m:Machine} {u:Trace} {o:Outcome} {w:World} (ο:stepT P m=(.ended o w,u)) (Υ:Good P (λv w'=>Q v/\ft (λ_ _=>False) (λ_=>False) bs w') m o w (t++u)):Comes P Q bs m t:=
 ⟨0,m,o,w,t++u,by simp[runNT,ο],rfl,by simp[step,ο],Υ⟩
def xr (gs:Array Goroutine):Nat:=(gs.toList.filter λg=>decide (g.status=.running)).length
structure Ord (jy:List Nat) (n:Nat):Prop where
 nodup:jy.Nodup
 mem:∀i,i∈jy↔i<n
theorem Ord.part {jy:List Nat} {n i:Nat} (h:Ord jy n) (hi:i<n):∃a b,jy=a++i::b/\i∉a/\i∉b:=by
 obtain⟨a,b,rfl⟩:=List.append_of_mem ((h.mem i).2 hi);have:=h.nodup;rw[List.nodup_append] at this;obtain⟨_,γ,π⟩:=this;rw[List.nodup_cons] at γ;exact⟨a,b,rfl,λν=>π i ν i (by simp) rfl,γ.1⟩
theorem xu {B:Type} {T:Nat->B} {i:Nat} {x:B} {l:List Nat} (h:i∉l):l.map (upd T i x)=l.map T:=by
 apply List.map_congr_left;intro j ε;exact upd_ne _ _ (λe=>h (e▸ε))
theorem Ord.one {B:Type} {jy:List Nat} {n i:Nat} (h:Ord jy n) (hi:i<n) {T:Nat->fZ B} {f:B->fZ B} (Θ:T i=.node f) (k:B):mY (jy.map (upd T i (f k))) (jy.map T):=by
 obtain⟨a,b,rfl,ν,hb⟩:=h.part hi;simp only[List.map_append,List.map_cons,xu ν,xu hb,upd_same,Θ];exact .one _ _ _ _
theorem Ord.two {B:Type} {jy:List Nat} {n i:Nat} (h:Ord jy n) (hi:i<n) {T:Nat->fZ B} {f:B->fZ B} (Θ:T i=.node f) (k ab:B) :
  ∃Cp,Ord Cp (n+1)/\mY (Cp.map (upd (upd T i (f k)) n (f ab))) (jy.map T):=by
 have nN:n∉jy:=λU=>by have:=(h.mem n).1 U;omega
 obtain⟨a,b,rfl,ν,hb⟩:=h.part hi;have md:n∉a:=λU=>nN (by simp[U]);have LB:n∉b:=λU=>nN (by simp[U]);refine⟨a++i::n::b,⟨?_,λj=>?_⟩,?_⟩
 ·have:=h.nodup;rw[List.nodup_append] at this ⊢;obtain⟨J,γ,π⟩:=this;rw[List.nodup_cons] at γ;refine⟨J,?_,λx U y Ο=>?_⟩
  ·rw[List.nodup_cons,List.nodup_cons];exact⟨by simp;exact⟨by omega,γ.1⟩,LB,γ.2⟩
  ·simp at Ο;rcases Ο with rfl|rfl|Ο
   ·exact π x U _ (by simp)
   ·rintro rfl;exact md U
   ·exact π x U y (by simp[Ο])
 ·have:=h.mem j;simp only[List.mem_append,List.mem_cons] at this ⊢;constructor
  ·rintro(U|rfl|rfl|U)
   ·have:=this.1 (.inl U);omega
   ·omega
   ·omega
   ·have:=this.1 (.inr (.inr U));omega
  ·intro U;by_cases e:j=n
   ·exact .inr (.inr (.inl e))
   ·rcases this.2 (by omega) with U|rfl|U
    ·exact .inl U
    ·exact .inr (.inl rfl)
    ·exact .inr (.inr (.inr U))
 ·have bb:i≠n:=by omega
  simp only[List.map_append,List.map_cons,xu md,xu LB,xu ν,xu hb,upd_same,upd_ne _ _ bb,Θ];exact .two _ _ _ _ _
end
theorem Cq {B:Type} {f:Nat->B} {k:Nat} {x:B} (h:f k=x):upd f k x=f:=by
 funext j
 by_cases e:j=k
 ·subst e;rw[upd_same,h]
 ·rw[upd_ne _ _ e]
theorem iF (H:cF->ψ) (i:Nat) (G:ψ) (b:Nat):bM H (.inl i) G (.inr b)=H (.inr b):=bN H G (by simp)
theorem vq (tok:Nat->Nat->Tok) (i s:Nat) (t:Tok):b1 tok i s t i=upd (tok i) s t:=by unfold b1;rw[upd_same]
theorem r5 {tok:Nat->Nat->Tok} {i s j:Nat} (t:Tok) (h:j≠i):b1 tok i s t j=tok j:=by unfold b1;rw[upd_ne _ _ h]
theorem me {B:Type} {a:Array B} {k:Nat} {x:B} (h:a[k]?=some x):k<a.size:=(Array.getElem?_eq_some_iff.1 h).1
theorem ofEvents_g {i:Nat} {fn:FuncId} {pos:String} {es:Array Event}:∀op∈MemOp.ofEvents i fn pos es,op.g=i:=λop Ν=>by obtain⟨e,_,rfl⟩:=Go.Conc.mem_ofEvents Ν;rfl
theorem LC {i:Nat} {fn:FuncId} {pos:String}:MemOp.ofEvents i fn pos #[]=#[]:=by rw[ofEvents_eq];simp
theorem SF (t:Trace) (i:Nat) (fn:FuncId) (pos:String) (es:Array Event) {j:Nat} (ε:j<=es.size):(t++MemOp.ofEvents i fn pos es).deaf i (t.size+j)=deafBehind (Deaf t i) (es.extract 0 j):=by
 have e:t++MemOp.ofEvents i fn pos es=(t++MemOp.ofEvents i fn pos (es.extract 0 j))++MemOp.ofEvents i fn pos (es.extract j es.size):=by
  rw[Array.append_assoc];congr 1;rw[ofEvents_eq,ofEvents_eq,ofEvents_eq,<-Array.map_append];congr 1;simp only[Array.extract_append_extract];rw[show max j es.size=es.size by omega];simp
 have cp:(t++MemOp.ofEvents i fn pos (es.extract 0 j)).size=t.size+j:=by rw[Array.size_append,ofEvents_eq];simp;omega
 rw[e,deaf_old (by omega),<-cp];exact Deaf_own t i fn pos _
theorem Gq {t u:Trace} {k:Nat} (χ:t.size<=k) (ζ:(t++u).counts k):∃op,u[k-t.size]?=some op/\(t++u)[k]?=some op/\∃x,op.act.touch?=some x/\x.loc.isMemory=true/\(x.kind≠.atomic\/(t++u).heard k):=by
 obtain⟨x,J,γ,π⟩:=ζ;obtain⟨op,Γ,U⟩:=touch_of (t:=t++u) (i:=k) J;exact⟨op,by rw[Array.getElem?_append_right χ] at Γ;exact Γ,Γ,x,U,γ,π⟩
theorem xv {t u:Trace} (h:∀op∈u,op.act.touch?=none):∀k,t.size<=k->¬(t++u).counts k:=λk χ ζ=>by
 obtain⟨op,J,_,x,π,_⟩:=Gq χ ζ;rw[h op (mem_of_getElem? J)] at π;cases π
theorem SG {t:Trace} {i:Nat} {fn:FuncId} {pos:String} {es:Array Event} (h:∀e∈es,B8 e):∀k,t.size<=k->¬(t++MemOp.ofEvents i fn pos es).counts k:=λk χ ζ=>by
 obtain⟨op,J,_,x,π,Μ,_⟩:=Gq χ ζ;obtain⟨e,he,rfl⟩:=Go.Conc.mem_ofEvents (mem_of_getElem? J);obtain⟨loc,wr,oy⟩:=e;rcases h _ he with Α|Α<;>simp only at Α<;>subst Α<;>simp[MemAct.ofEvent,MemAct.touch?] at π;subst π;simp[Loc.isMemory] at Μ
theorem Cr {s d i:Nat} {sp:Spec} {es:Array Event} {fn:FuncId} {pos:String} (h:ow s sp d es) {op:MemOp} (Γ:op∈MemOp.ofEvents i fn pos es) :
  (op.act=.mark .disable\/op.act=.mark .enable)\/∃b off wr,op.act=.access ⟨.cell ⟨b,off,none⟩,wr,true⟩/\ei s sp b:=by
 obtain⟨e,he,rfl⟩:=Go.Conc.mem_ofEvents Γ;obtain⟨j,ε⟩:=Array.mem_iff_getElem?.1 he;obtain⟨loc,wr,oy⟩:=e;rcases h.2 j _ ε with Α|Α|⟨b,off,SH,Α,hb,_⟩
 ·simp only at Α;subst Α;exact .inl (.inl rfl)
 ·simp only at Α;subst Α;exact .inl (.inr rfl)
 ·cases Α;exact .inr ⟨b,off,_,rfl,hb⟩
theorem SI {t:Trace} {s i:Nat} {sp:Spec} {fn:FuncId} {pos:String} {es:Array Event} (h:ow s sp (Deaf t i) es):∀k,t.size<=k->¬(t++MemOp.ofEvents i fn pos es).counts k:=λk χ ζ=>by
 obtain⟨op,J,γ,x,π,Μ,aB⟩:=Gq χ ζ;rw[ofEvents_eq,Array.getElem?_map] at J;obtain⟨e,he,rfl⟩:=Option.map_eq_some_iff.1 J;have aH:k-t.size<es.size:=me he;obtain⟨loc,wr,oy⟩:=e;rcases h.2 _ _ he with Α|Α|⟨b,off,SH,Α,hb,hd⟩
 ·simp only at Α;subst Α;simp[MemAct.ofEvent,MemAct.touch?] at π
 ·simp only at Α;subst Α;simp[MemAct.ofEvent,MemAct.touch?] at π
 ·cases Α;simp[MemAct.ofEvent,MemAct.touch?] at π;subst π;rcases aB with aB|⟨g,Υ,Η⟩
  ·exact aB rfl
  ·simp[Trace.g?,γ] at Υ;subst Υ;have:=SF t i fn pos es (Nat.le_of_lt aH);rw[show t.size+(k-t.size)=k by omega] at this;rw[this] at Η;omega
section
variable {P:Program} {Q:Value->Prop} {bs:World} {c c':c5} {gs:Array Goroutine} {w w':World} {t:Trace} {i:Nat} {g g':Goroutine} {es:Array Event}
theorem Inv.low (h:Inv P Q bs c gs w t) {s b:Nat} {o:aM} (ο:c.O s=some o) (hb:ei s o.toSpec b):b<w.heap.size:=by
 obtain⟨⟨ty,J⟩,γ⟩:=h.mem.fF s o ο;rcases hb with rfl|hb
 ·exact fu J
 ·obtain⟨js,π⟩:=γ b hb;exact fu π
theorem Inv.obj (h:Inv P Q bs c gs w t) {s:Nat} (Ξ:c.tok i s≠.nil):∃o,c.O s=some o:=by
 cases ο:c.O s with
 | none=>exact absurd (h.bh.bare s ο i) Ξ
 | some o=>exact⟨o,rfl⟩
theorem iE.grow {H:cF->ψ} {aF:Nat->Nat->Option (Array Value×TypeId)} {tok:Nat->Nat->Tok} {O:Nat->Option aM} {bz deaf:Nat->Nat} {N eV:Nat} (h:iE H aF tok O bz deaf N t) (ck:N<=eV):iE H aF tok O bz deaf eV t:=
 ⟨h.race,λop Ν=>MemAct.low_mono ck (h.low op Ν),h.norel,h.perms,h.ox,h.cont,h.hears⟩
theorem xq.app {aF px:Nat->Nat->Option (Array Value×TypeId)} {tok ev:Nat->Nat->Tok} {O O':Nat->Option aM} {rel:Nat->Bool} {dx:Nat->Nat} {u:Trace} {N:Nat} (h:xq aF tok O rel dx t) (tr:∀op∈t,op.act.low N)
  (hu:∀op∈u,∀b,op.act≠.mark (.releaseMerge ⟨b,0,none⟩)) (hv:∀j b v,px j b=some v->(∃e',aF j b=some e')\/N<=b) (cj:∀s o',O' s=some o'->∃o,O s=some o/\o.aT=o'.aT)
  (Ξ:∀j s k mu g,tok j s=.ch k mu g->∃k mu g,ev j s=.ch k mu g):xq px ev O' rel dx (t++u):=by
 refine⟨λs o' m ο hm p op ω Γ=>?_,λj b v hb op Ν Γ=>?_⟩
 ·obtain⟨o,J,γ⟩:=cj s o' ο;rcases getElem?_append_cases ω with⟨_,hU⟩|⟨_,gd⟩
  ·obtain⟨⟨k,mu,g,π⟩,Μ⟩:=h.iW s o m J (by rw[γ];exact hm) p op hU Γ;exact⟨Ξ _ _ _ _ _ π,λμ=>(Μ μ).app u⟩
  ·exact absurd Γ (hu op gd m)
 ·rcases Array.mem_append.1 Ν with kB|kB
  ·rcases hv j b v hb with⟨e',ln⟩|hle
   ·exact h.vn j b e' ln op kB Γ
   ·have:=tr op kB;rw[Γ] at this;simp only[MemAct.low] at this;omega
  ·exact hu op kB b Γ
theorem xp.zt {H H':cF->ψ} {tok:Nat->Nat->Tok} {O:Nat->Option aM} (h:xp H tok O) (Β:∀b,H' (.inr b)=H (.inr b)):xp H' tok O:=
 ⟨λs o m a b d e=>by rw[Β];exact h.pw s o m a b d e,λs o a b=>by rw[Β];exact h.l' s o a b⟩
theorem Inv.laid (h:Inv P Q bs c gs w t) (Υ:gs[i]?=some g) {u:Trace}
  (mem:g2 c'.H c'.aF c'.O bs w') (hold:ic c'.H c'.aF c'.O bs.heap.size) (bQ:iE c'.H c'.aF c'.tok c'.O c'.bz c'.deaf w'.heap.size (t++u))
  (bh:eI gs.size c'.tok c'.spec c'.view c'.rel c'.O c'.bz c'.home) (eu:xp c'.H c'.tok c'.O) (dY:vm gs.size c'.tok c'.rel c'.bz c'.home c'.dx (t++u)) (gb:xq c'.aF c'.tok c'.O c'.rel c'.dx (t++u))
  (Gr:Rec P Q c' i g') (U:∀j,j≠i->c'.x j=c.x j/\c'.T j=c.T j)
  (hw:(mayWake P g=true/\iD g')\/∀j s o,j≠i->c.O s=some o->jT o (c.tok j s)->∃o',c'.O s=some o'/\jT o' (c.tok j s)) :
  Inv P Q bs c' ((gs.map (woken P g g' w')).setIfInBounds i g') w' (t++u):=by
 have cp:((gs.map (woken P g g' w')).setIfInBounds i g').size=gs.size:=by simp
 have bb:i<gs.size:=me Υ;refine⟨by rw[cp];exact h.pos,mem,hold,bQ,by rw[cp];exact bh,eu,by rw[cp];exact dY,gb,λj b hb=>?_⟩;by_cases e:j=i
 ·subst e;rw[Array.getElem?_setIfInBounds_self_of_lt (by simpa using bb)] at hb;cases hb;exact Gr
 ·rw[Array.getElem?_setIfInBounds_ne (Ne.symm e),Array.getElem?_map] at hb;obtain⟨cK,J,rfl⟩:=Option.map_eq_some_iff.1 hb;exact(h.vo j cK J).woken (i:=0) (U j e).1 (U j e).2 (hw.imp id λhw s o ο qH=>hw j s o e ο qH)
def hV (P:Program) (Q:Value->Prop) (bs:World) (c:c5) (gs:Array Goroutine) (w:World) (t:Trace) (i:Nat) (f:Bool×Goroutine×aU->fZ (Bool×Goroutine×aU)):Prop:=
 ∀sl,∃c' qK w' u,runT P (crowd gs w sl) i=(.next (crowd qK w' sl),u)/\Inv P Q bs c' qK w' (t++u)/\
  ((qK.size=gs.size/\∃k,c'.T=upd c.T i (f k))\/(qK.size=gs.size+1/\∃k ab,c'.T=upd (upd c.T i (f k)) gs.size (f ab))\/(qK.size=gs.size/\c'.T=c.T/\xr qK<xr gs))
def Cs (P:Program) (Q:Value->Prop) (bs:World) (c:c5) (gs:Array Goroutine) (w:World) (t:Trace) (i:Nat) (f:Bool×Goroutine×aU->fZ (Bool×Goroutine×aU)):Prop:=
 ∃c',Inv P Q bs c' gs w t/\∃k,c'.T=upd c.T i (f k)
abbrev lp (P:Program) (Q:Value->Prop) (f:Bool×Goroutine×aU->fZ (Bool×Goroutine×aU)):zc:=λvd g' dd=>ju P Q (f (vd,g',dd)) vd g' dd
theorem hV.go {f:Bool×Goroutine×aU->fZ (Bool×Goroutine×aU)} (Υ:gs[i]?=some g) (ο:stepG P (i==0) g w=.go g' w' es)
  (h:Inv P Q bs c' ((gs.map (woken P g g' w')).setIfInBounds i g') w' (t++MemOp.ofEvents i g.frame.fn g.frame.place es)) (k:Bool×Goroutine×aU) (Θ:c'.T=upd c.T i (f k)):hV P Q bs c gs w t i f:=
 λ_=>⟨c',_,w',_,runT_crowd_go Υ ο,h,.inl ⟨by simp,k,Θ⟩⟩
variable {f:Bool×Goroutine×aU->fZ (Bool×Goroutine×aU)}
theorem Inv.Gd (h:Inv P Q bs c gs w t) (Υ:gs[i]?=some g) (χ:K6 P (i==0) (lp P Q f) g (c.x i)):hV P Q bs c gs w t i f:=by
 have hw:=χ w (h.mem.fit (.inl i)) (h.mem.l7 i);cases ο:stepG P (i==0) g w with
 | go g' w' es=>
  rw[ο] at hw;obtain⟨G',V',μ,tB,Τ,bR,tC,qD,fx,Ge,bg⟩:=hw;have bb:i<gs.size:=me Υ;have LD:∀e∈es,hk (c.H (.inl i)) w.heap.size w'.heap.size e:=λe he=>by
   have:=fx e he;split at this
   ·exact this.Gd
   ·exact this
  have U:∀j,j≠i->({c with H:=bM c.H (.inl i) G',aF:=upd c.aF i V',T:=upd c.T i (f (i==0,g',{c.x i with G:=G',aF:=V'}))}:c5).x j=c.x j:=λj ε=>by
   have:(Sum.inl j:cF)≠.inl i:=λe=>ε (by cases e;rfl);simp[c5.x,bN _ _ this,upd_ne _ _ ε]
  refine hV.go (c':={c with H:=bM c.H (.inl i) G',aF:=upd c.aF i V',T:=upd c.T i (f (i==0,g',{c.x i with G:=G',aF:=V'}))}) Υ ο ?_ _ rfl;refine h.laid Υ (h.mem.own h.hold i tB Τ bR rfl) (h.hold.own h.mem h.mem.keep.size i tC qD) (h.bQ.own h.mem h.hold i tB.size tC qD LD Ge) h.bh ?_ ?_ ?_ ?_ (λj ε=>⟨U j ε,upd_ne _ _ ε⟩) (.inr λj s o _ a b=>⟨o,a,b⟩)
  ·exact h.eu.zt λb=>iF c.H i G' b
  ·refine h.dY.app bb ofEvents_g (λeb=>SG λe he=>?_) (λ_ _ _ x=>x) (λ_ _ _ _ x=>x);have:=fx e he;have fc:(c.x i).rel=true:=eb;simpa only[fc,if_true] using this
  ·refine h.gb.app h.bQ.low (λop Ν b hb=>?_) (λj b v hv=>?_) (λs o' ο=>⟨o',ο,rfl⟩) (λj s k mu g e=>⟨k,mu,g,e⟩)
   ·obtain⟨e,he,rfl⟩:=Go.Conc.mem_ofEvents Ν;have dy:=LD e he;obtain⟨loc,wr,oy⟩:=e;cases loc with
    | mark m=>simp only[hk] at dy;subst dy;simp[MemAct.ofEvent] at hb
    | obj r=>cases wr<;>cases oy<;>simp[MemAct.ofEvent] at hb
    | _=>simp[MemAct.ofEvent] at hb
   ·replace hv:upd c.aF i V' j b=some v:=hv
    by_cases ε:j=i
    ·subst ε;rw[upd_same] at hv;exact(qD b v hv).imp (λx=>⟨v,x⟩) (λx=>x.1)
    ·rw[upd_ne _ _ ε] at hv;exact .inl ⟨v,hv⟩
  ·refine⟨g',?_,.inl rfl⟩;have e:({c with H:=bM c.H (.inl i) G',aF:=upd c.aF i V',T:=upd c.T i (f (i==0,g',{c.x i with G:=G',aF:=V'}))}:c5).x i={c.x i with G:=G',aF:=V'}:=by
    simp[c5.x,upd_same]
   rw[e];show ju P Q (upd c.T i (f (i==0,g',{c.x i with G:=G',aF:=V'})) i) _ _ _;rw[upd_same];exact bg
 | _=>rw[ο] at hw;exact hw.elim
theorem g2.zt {H:cF->ψ} {aF:Nat->Nat->Option (Array Value×TypeId)} {O O':Nat->Option aM} (h:g2 H aF O bs w) (e:O'=O):g2 H aF O' bs w:=e▸h
theorem Inv.marked (h:Inv P Q bs c gs w t) (Υ:gs[i]?=some g) {m:Mark} (hm:m=.disable\/m=.enable) {d:Nat} (hd:d=deafBehind (c.deaf i) #[Go.ConcR.mk m]) (ο:stepG P (i==0) g w=.go g' w #[Go.ConcR.mk m])
  (bg:lp P Q f (i==0) g' {c.x i with deaf:=d}):hV P Q bs c gs w t i f:=by
 have bb:i<gs.size:=me Υ
 have nt:∀op∈MemOp.ofEvents i g.frame.fn g.frame.place #[Go.ConcR.mk m],op.act.touch?=none:=λop Ν=>by
  obtain⟨e,he,rfl⟩:=Go.Conc.mem_ofEvents Ν;simp at he;subst he;rcases hm with rfl|rfl<;>rfl
 have md:∀op∈MemOp.ofEvents i g.frame.fn g.frame.place #[Go.ConcR.mk m],op.act=.mark .disable\/op.act=.mark .enable:=λop Ν=>by
  obtain⟨e,he,rfl⟩:=Go.Conc.mem_ofEvents Ν;simp at he;subst he;rcases hm with rfl|rfl
  ·exact .inl rfl
  ·exact .inr rfl
 refine hV.go (c':={c with deaf:=upd c.deaf i d,T:=upd c.T i (f (i==0,g',{c.x i with deaf:=d}))}) Υ ο ?_ _ rfl;refine h.laid Υ h.mem h.hold ?_ h.bh h.eu ?_ ?_ ⟨g',?_,.inl rfl⟩ (λj ε=>⟨by simp[c5.x,upd_ne _ _ ε],upd_ne _ _ ε⟩) (.inr λj s o _ a b=>⟨o,a,b⟩)
 ·refine h.bQ.ext h.hold i ofEvents_g (λop Ν=>?_) (λop Ν a ν=>?_) (λop Ν b hb=>?_) (λj=>?_)
  ·rcases md op Ν with e|e<;>rw[e]<;>trivial
  ·rcases md op Ν with e|e<;>rw[e] at ν<;>cases ν
  ·rw[nt op Ν] at hb;cases hb
  ·by_cases e:j=i
   ·subst e;rw[Deaf_own,h.bQ.hears,hd];exact(upd_same ..).symm
   ·rw[Deaf_other t (Ne.symm e) _ ofEvents_g,h.bQ.hears];exact(upd_ne _ _ e).symm
 ·exact h.dY.app bb ofEvents_g (λ_=>xv nt) (λ_ _ _ x=>x) (λ_ _ _ _ x=>x)
 ·refine h.gb.app h.bQ.low (λop Ν b hb=>?_) (λj b v hv=>.inl ⟨v,hv⟩) (λs o' ο=>⟨o',ο,rfl⟩) (λj s k mu g e=>⟨k,mu,g,e⟩);rcases md op Ν with e|e<;>rw[e] at hb<;>cases hb
 ·have e:({c with deaf:=upd c.deaf i d,T:=upd c.T i (f (i==0,g',{c.x i with deaf:=d}))}:c5).x i={c.x i with deaf:=d}:=by
   simp[c5.x,upd_same]
  rw[e];show ju P Q (upd c.T i (f (i==0,g',{c.x i with deaf:=d})) i) _ _ _;rw[upd_same];exact bg
theorem Inv.SJ (h:Inv P Q bs c gs w t) (Υ:gs[i]?=some g) (χ:K7 P (i==0) (lp P Q f) g (c.x i)):hV P Q bs c gs w t i f:=by
 obtain⟨g',_,χ|⟨_,χ⟩⟩:=χ
 ·obtain⟨J,γ⟩:=χ w (h.mem.fit (.inl i));exact h.marked Υ (.inl rfl) (by rfl) J γ
 ·obtain⟨J,γ⟩:=χ w (h.mem.fit (.inl i));exact h.marked Υ (.inr rfl) (by rfl) J γ
theorem Inv.SK (h:Inv P Q bs c gs w t) (Υ:gs[i]?=some g) (χ:K8 P (i==0) (lp P Q f) g (c.x i)):hV P Q bs c gs w t i f:=by
 obtain⟨s,n,p,ae,g',off,wr,J,γ,hn,π,Μ⟩:=χ;have bb:i<gs.size:=me Υ;obtain⟨ο,bg⟩:=Μ w (h.mem.fit (.inl i));have dK:c.tok i s=.par n p ae:=J;obtain⟨o,Γ⟩:=h.obj (i:=i) (s:=s) (by rw[dK];simp);have eb:c.rel i=false:=hn;have md:∀op∈MemOp.ofEvents i g.frame.fn g.frame.place #[Go.ConcR.mk (if wr then .write ⟨s,off,none⟩ else .read ⟨s,off,none⟩)],op.act=.mark (if wr then .write ⟨s,off,none⟩ else .read ⟨s,off,none⟩):=λop Ν=>by
  obtain⟨e,he,rfl⟩:=Go.Conc.mem_ofEvents Ν;simp at he;subst he;rfl
 refine hV.go (c':={c with T:=upd c.T i (f (i==0,g',c.x i))}) Υ ο ?_ _ rfl;refine h.laid Υ h.mem h.hold ?_ h.bh h.eu ?_ ?_ ⟨g',?_,.inl rfl⟩ (λj ε=>⟨rfl,upd_ne _ _ ε⟩) (.inr λj s o _ a b=>⟨o,a,b⟩)
 ·refine h.bQ.ext h.hold i ofEvents_g (λop Ν=>?_) (λop Ν a ν=>?_) (λop Ν b hb=>?_) (λj=>?_)
  ·rw[md op Ν];have:=h.low Γ (.inl rfl);cases wr<;>exact this
  ·rw[md op Ν] at ν;cases wr<;>cases ν
  ·rw[md op Ν] at hb;refine⟨s,o,s,off,Γ,.inl rfl,?_⟩;cases wr<;>simp[MemAct.touch?] at hb<;>subst hb<;>exact⟨rfl,.inr ⟨rfl,h.bh.par i s n p ae dK⟩⟩
  ·by_cases e:j=i
   ·subst e;rw[Deaf_own,h.bQ.hears];cases wr<;>rfl
   ·rw[Deaf_other t (Ne.symm e) _ ofEvents_g,h.bQ.hears]
 ·exact h.dY.app bb ofEvents_g (λU=>by rw[eb] at U;cases U) (λ_ _ _ x=>x) (λ_ _ _ _ x=>x)
 ·refine h.gb.app h.bQ.low (λop Ν b hb=>?_) (λj b v hv=>.inl ⟨v,hv⟩) (λs o' ο=>⟨o',ο,rfl⟩) (λj s k mu g e=>⟨k,mu,g,e⟩);rw[md op Ν] at hb;cases wr<;>cases hb
 ·show ju P Q (upd c.T i (f (i==0,g',c.x i)) i) _ _ _;rw[upd_same];exact bg
theorem Inv.quits (h:Inv P Q bs c gs w t) (Υ:gs[i]?=some g) (χ:Le P (i==0) (lp P Q f) g (c.x i)):hV P Q bs c gs w t i f:=by
 obtain⟨mf,μ,eb,vp,g',es,hm,ο,bg⟩:=χ;have bb:i<gs.size:=me Υ;have nt:∀op∈MemOp.ofEvents i g.frame.fn g.frame.place es,op.act.touch?=none:=λop Ν=>by
  obtain⟨e,he,rfl⟩:=Go.Conc.mem_ofEvents Ν;exact touch_mute (hm e he)
 have md:∀op∈MemOp.ofEvents i g.frame.fn g.frame.place es,op.act=.mark .disable\/op.act=.mark .enable:=λop Ν=>by
  obtain⟨⟨loc,wr,oy⟩,he,rfl⟩:=Go.Conc.mem_ofEvents Ν;have:=hm _ he;cases loc<;>simp[Event.mute] at this;rename_i m;cases m<;>simp_all [MemAct.ofEvent]
 refine hV.go (c':={c with deaf:=upd c.deaf i (deafBehind (c.deaf i) es),T:=upd c.T i (f (i==0,g',{c.x i with deaf:=deafBehind (c.x i).deaf es}))}) Υ (by rw[mf];exact ο w) ?_ _ rfl;refine h.laid Υ h.mem h.hold ?_ h.bh h.eu ?_ ?_ ⟨g',?_,.inl rfl⟩ (λj ε=>⟨by simp[c5.x,upd_ne _ _ ε],upd_ne _ _ ε⟩) (.inr λj s o _ a b=>⟨o,a,b⟩)
 ·refine h.bQ.ext h.hold i ofEvents_g (λop Ν=>?_) (λop Ν a ν=>?_) (λop Ν b hb=>?_) (λj=>?_)
  ·rcases md op Ν with e|e<;>rw[e]<;>trivial
  ·rcases md op Ν with e|e<;>rw[e] at ν<;>cases ν
  ·rw[nt op Ν] at hb;cases hb
  ·by_cases e:j=i
   ·subst e;rw[Deaf_own,h.bQ.hears];exact(upd_same ..).symm
   ·rw[Deaf_other t (Ne.symm e) _ ofEvents_g,h.bQ.hears];exact(upd_ne _ _ e).symm
 ·exact h.dY.app bb ofEvents_g (λ_=>xv nt) (λ_ _ _ x=>x) (λ_ _ _ _ x=>x)
 ·refine h.gb.app h.bQ.low (λop Ν b hb=>?_) (λj b v hv=>.inl ⟨v,hv⟩) (λs o' ο=>⟨o',ο,rfl⟩) (λj s k mu g e=>⟨k,mu,g,e⟩);rcases md op Ν with e|e<;>rw[e] at hb<;>cases hb
 ·have e:({c with deaf:=upd c.deaf i (deafBehind (c.deaf i) es),T:=upd c.T i (f (i==0,g',{c.x i with deaf:=deafBehind (c.x i).deaf es}))}:c5).x i={c.x i with deaf:=deafBehind (c.x i).deaf es}:=by
   simp[c5.x,upd_same]
  rw[e];show ju P Q (upd c.T i (f (i==0,g',{c.x i with deaf:=deafBehind (c.x i).deaf es})) i) _ _ _;rw[upd_same];exact bg
end
end Go.TL
namespace Go.TL
open Go.Conc
open Go.ConcM (OsLater)
open Go.ConcN (sumTo upd sumTo_upd upd_ne upd_same sumTo_congr le_sumTo)
section
variable {P:Program} {Q:Value->Prop} {bs:World} {c c':c5} {gs:Array Goroutine} {w w':World} {t:Trace} {i:Nat} {g g':Goroutine} {es:Array Event}
variable {f:Bool×Goroutine×aU->fZ (Bool×Goroutine×aU)}
theorem SL {o o':aM} {t t':Tok} (h:Act o t o' t'):(∀q p,t'≠.par q p .bF)/\(∀q p,t≠.par q p .bF)/\∀k L g,t=.ch k (.dj L) g->∃g',t'=.ch k (.dj L) g':=by
 cases h<;>refine⟨λq p e=>?_,λq p e=>?_,λk L g e=>?_⟩<;>cases e
 all_goals exact⟨_,rfl⟩
theorem LF {B:Type} (p:B->Bool) {y:B} (Ο:p y=false):∀(l:List B) (k:Nat) (x:B),l[k]?=some x->p x=true->((l.set k y).filter p).length<(l.filter p).length
 | [],k,x,h,_=>by simp at h
 | z::l,0,x,h,U=>by
  simp at h;subst h;simp[List.set,U,Ο]
 | z::l,k+1,x,h,U=>by
  have:=LF p Ο l k x (by simpa using h) U;simp only[List.set,List.filter_cons];split<;>simpa using this
theorem SM {k:Nat} (Υ:gs[k]?=some g) (μ:g.status=.running) (hb:g'.status≠.running):xr (gs.setIfInBounds k g')<xr gs:=by
 unfold xr;rw[Array.toList_setIfInBounds];exact LF (λg:Goroutine=>decide (g.status=.running)) (by simp[hb]) _ k g (by rw[<-Υ];simp) (by simp[μ])
theorem Inv.atom (h:Inv P Q bs c gs w t) (Υ:gs[i]?=some g) (μ:iD g) (Θ:ju P Q (c.T i) (i==0) g (c.x i)) (χ:Atom P (i==0) (lp P Q f) g (c.x i)):hV P Q bs c gs w t i f:=by
 obtain⟨s,sp,J,γ,π⟩:=χ;have bb:i<gs.size:=me Υ;obtain⟨o,Γ,bX⟩:=h.bh.qE i s sp J;have tr:∀b,ei s sp b->b<w.heap.size:=λb hb=>h.low Γ (by rw[bX];exact hb);have hn:¬fO (c.tok i s):=γ;have zu:c.tok i s≠.nil:=λe=>hn (by rw[e];trivial);have LG:∀{w':World} {es:Array Event} {k:Nat},ft (λb _=>ei s sp b) (λ_=>False) w w'->ow s sp (c.x i).deaf es->iE c.H c.aF c.tok c.O c.bz c.deaf w'.heap.size (t++MemOp.ofEvents i g.frame.fn g.frame.place es):=λ{w' es k} tB dy=>by
  refine iE.grow ?_ tB.size;refine h.bQ.ext h.hold i ofEvents_g (λop Ν=>?_) (λop Ν a ν=>?_) (λop Ν b hb=>?_) (λj=>?_)
  ·rcases Cr dy Ν with(e|e)|⟨b,off,wr,e,hb⟩
   ·rw[e];trivial
   ·rw[e];trivial
   ·rw[e];exact tr b hb
  ·rcases Cr dy Ν with(e|e)|⟨b,off,wr,e,hb⟩<;>rw[e] at ν<;>cases ν
  ·rcases Cr dy Ν with(e|e)|⟨Φ,off,wr,e,dG⟩
   ·rw[e] at hb;cases hb
   ·rw[e] at hb;cases hb
   ·rw[e] at hb;simp[MemAct.touch?] at hb;subst hb;exact⟨s,o,Φ,off,Γ,by rw[bX];exact dG,rfl,.inl rfl⟩
  ·by_cases e:j=i
   ·subst e;rw[Deaf_own,h.bQ.hears];exact dy.1
   ·rw[Deaf_other t (Ne.symm e) _ ofEvents_g,h.bQ.hears]
 have norel:∀{es:Array Event},ow s sp (c.x i).deaf es->∀op∈MemOp.ofEvents i g.frame.fn g.frame.place es,∀b,op.act≠.mark (.releaseMerge ⟨b,0,none⟩):=λdy op Ν b hb=>by
  rcases Cr dy Ν with(e|e)|⟨Φ,off,wr,e,dG⟩<;>rw[e] at hb<;>cases hb
 have LH:∀{es:Array Event},ow s sp (c.x i).deaf es->∀k,t.size<=k->¬(t++MemOp.ofEvents i g.frame.fn g.frame.place es).counts k:=λdy=>SI (s:=s) (sp:=sp) (by rw[h.bQ.hears];exact dy);rcases π w (eA gs.size o (λj=>c.tok j s)) o (h.mem.fit (.inl i)) (h.mem.l7 i) bX (h.mem.fF s o Γ) (λgI lk hv=>by
   obtain⟨dH,Ε,Ζ,a6⟩:=h.bh.vf i s gI lk hv;rw[Γ] at Ε;cases Ε;exact⟨Ζ,a6⟩) ⟨gs.size,λj=>c.tok j s,i,h.bh.bm s o Γ,bb,rfl,λk L g e=>h.bh.dj i s k L g o Γ e⟩ with hgo|⟨hw,cE,ο⟩
 ·cases ο:stepG P (i==0) g w with
  | go g' w' es=>
   rw[ο] at hgo;obtain⟨fc,tB,dy,hX⟩:=hgo;have LI:ft (λb _=>ei s o.toSpec b) (λ_=>False) w w':=by rw[bX];exact tB
   rcases hX with⟨bH,bg⟩|⟨o',t',tD,bH,SN,bg⟩
   ·refine hV.go (c':={c with view:=upd c.view i (upd (c.view i) s (some (eA gs.size o (λj=>c.tok j s),o))),T:=upd c.T i (f (i==0,g',{c.x i with view:=upd (c.view i) s (some (eA gs.size o (λj=>c.tok j s),o))}))}) Υ ο ?_ _ rfl;refine h.laid Υ ((h.mem.atom h.hold rfl Γ rfl LI bH).zt (Cq Γ).symm) h.hold (LG (k:=0) tB dy) (h.bh.look Γ) h.eu
     (h.dY.app bb ofEvents_g (λ_=>LH dy) (λ_ _ _ x=>x) (λ_ _ _ _ x=>x))
     (h.gb.app h.bQ.low (norel dy) (λj b v hv=>.inl ⟨v,hv⟩) (λs o' ο=>⟨o',ο,rfl⟩) (λj s k mu g e=>⟨k,mu,g,e⟩))
     ⟨g',?_,.inl rfl⟩ (λj ε=>⟨by simp[c5.x,upd_ne _ _ ε],upd_ne _ _ ε⟩) (.inr λj s o _ a b=>⟨o,a,b⟩)
    have e:({c with view:=upd c.view i (upd (c.view i) s (some (eA gs.size o (λj=>c.tok j s),o))),T:=upd c.T i (f (i==0,g',{c.x i with view:=upd (c.view i) s (some (eA gs.size o (λj=>c.tok j s),o))}))}:c5).x i={c.x i with view:=upd (c.view i) s (some (eA gs.size o (λj=>c.tok j s),o))}:=by
     simp[c5.x,upd_same]
    rw[e];show ju P Q (upd c.T i (f (i==0,g',{c.x i with view:=upd (c.view i) s (some (eA gs.size o (λj=>c.tok j s),o))})) i) _ _ _;rw[upd_same];exact bg
   ·have SO:=K1 (N:=gs.size) (τ:=λj=>c.tok j s) bb rfl tD
    have SP:=bg _ SO;obtain⟨xm,Cf,Gk⟩:=Ln tD;obtain⟨SQ,SR,SS⟩:=SL tD;have cj:=l8.upd Γ xm;have tE:∀j r q p,b1 c.tok i s t' j r=.par q p .bF↔c.tok j r=.par q p .bF:=λj r q p=>by
     by_cases e:j=i/\r=s
     ·obtain⟨rfl,rfl⟩:=e;rw[e1];exact⟨λx=>absurd x (SQ q p),λx=>absurd x (SR q p)⟩
     ·rw[eT _ e]
    have Gs:∀j r k L g,c.tok j r=.ch k (.dj L) g->∃g',b1 c.tok i s t' j r=.ch k (.dj L) g':=λj r k L g ε=>by
     by_cases e:j=i/\r=s
     ·obtain⟨rfl,rfl⟩:=e;rw[e1];exact SS k L g ε
     ·rw[eT _ e];exact⟨g,ε⟩
    have keepW:o'=o->∀j r q,j≠i->c.O r=some q->jT q (c.tok j r)->∃iY,upd c.O s (some o') r=some iY/\jT iY (c.tok j r):=λjx j r q _ a b=>⟨q,by
     by_cases e:r=s
     ·subst e;subst jx;rw[Γ] at a;cases a;exact upd_same _ _ _
     ·rw[upd_ne _ _ e];exact a,b⟩
    have g5:∀r q,upd c.O s (some o') r=some q->∃hJ,c.O r=some hJ/\hJ.toSpec=q.toSpec/\hJ.L=q.L/\hJ.af=q.af:=λr q Χ=>by
     by_cases e:r=s
     ·subst e;rw[upd_same] at Χ;cases Χ;exact⟨o,Γ,xm.symm,Cf.symm,Gk.symm⟩
     ·rw[upd_ne _ _ e] at Χ;exact⟨q,Χ,rfl,rfl,rfl⟩
    let dd:aU:={c.x i with tok:=upd (c.tok i) s t',view:=upd (c.view i) s (some (eA gs.size o' (upd (λj=>c.tok j s) i t'),o'))};refine hV.go (c':={c with tok:=b1 c.tok i s t',view:=upd c.view i (upd (c.view i) s (some (eA gs.size o' (upd (λj=>c.tok j s) i t'),o'))),O:=upd c.O s (some o'),T:=upd c.T i (f (i==0,g',dd))}) Υ ο ?_ _ rfl;refine h.laid Υ (h.mem.atom h.hold rfl Γ xm LI bH) (h.hold.mV cj) ((LG (k:=0) tB dy).Sw cj λj r ε e=>?_) (h.bh.act Γ rfl tD) ⟨λr q m Χ hm bj g4=>?_,λr q Χ bj=>?_⟩
     (h.dY.app bb ofEvents_g (λ_=>LH dy) (λs q p ⟨j,x⟩=>⟨j,(tE j s q p).1 x⟩) (λj s q p x=>(tE j s q p).1 x))
     (h.gb.app h.bQ.low (norel dy) (λj b v hv=>.inl ⟨v,hv⟩) (λr q Χ=>let ⟨hJ,a,b,_⟩:=g5 r q Χ;⟨hJ,a,by rw[b]⟩) (λj r k mu g e=>?_))
     ⟨g',?_,.inl rfl⟩ (λj ε=>⟨by simp[c5.x,upd_ne _ _ ε,r5 _ ε],upd_ne _ _ ε⟩) (SN.imp (λhm=>⟨hm,fc⟩) λjx=>keepW jx)
    ·by_cases aJ:j=i/\r=s
     ·obtain⟨rfl,rfl⟩:=aJ;exact zu e
     ·apply ε;show b1 c.tok i s t' j r=.nil;rw[eT _ aJ];exact e
    ·obtain⟨hJ,a,b,Φ,_⟩:=g5 r q Χ;have:=h.eu.pw r hJ m a (by rw[b];exact hm) (λj q p x=>bj j q p ((tE j r q p).2 x)) (λj k L g x=>let ⟨g',y⟩:=Gs j r k L g x;g4 j k L g' y);rw[b,Φ] at this;exact this
    ·obtain⟨hJ,a,b,_,Φ⟩:=g5 r q Χ;have:=h.eu.l' r hJ a (λj q p x=>bj j q p ((tE j r q p).2 x));rw[b,Φ] at this;exact this
    ·by_cases aJ:j=i/\r=s
     ·obtain⟨rfl,rfl⟩:=aJ;obtain⟨eU,Ρ,y,_⟩:=(Lo tD).2.1 k mu g e;exact⟨k,eU,Ρ,by show b1 c.tok j r t' j r=_;rw[e1];exact y⟩
     ·exact⟨k,mu,g,by show b1 c.tok i s t' j r=_;rw[eT _ aJ];exact e⟩
    ·have e:({c with tok:=b1 c.tok i s t',view:=upd c.view i (upd (c.view i) s (some (eA gs.size o' (upd (λj=>c.tok j s) i t'),o'))),O:=upd c.O s (some o'),T:=upd c.T i (f (i==0,g',dd))}:c5).x i=dd:=by
      simp[dd,c5.x,upd_same,vq]
     rw[e];show ju P Q (upd c.T i (f (i==0,g',dd)) i) _ _ _;rw[upd_same];exact SP
  | _=>rw[ο] at hgo;exact hgo.elim
 ·refine λsl=>⟨c,_,w,_,runT_crowd_go Υ ο,?_,.inr (.inr ⟨by simp,rfl,?_⟩)⟩
  ·rw[LC,Array.append_empty];have:=h.laid (c':=c) (u:=#[]) Υ (g':={g with status:=.blocked}) h.mem h.hold (by rw[Array.append_empty];exact h.bQ) h.bh h.eu (by rw[Array.append_empty];exact h.dY) (by rw[Array.append_empty];exact h.gb) ⟨g,Θ,.inr ⟨μ,rfl,s,o,Γ,hw,cE⟩⟩ (λj ε=>⟨rfl,rfl⟩) (.inr λj s o _ a b=>⟨o,a,b⟩)
   rwa [Array.append_empty] at this
  ·have e:gs.map (woken P g {g with status:=.blocked} w)=gs:=by
    have:woken P g {g with status:=.blocked} w=id:=by
     funext b;simp[woken]
    rw[this];simp
   rw[e];exact SM Υ μ.1 (by simp)
end
end Go.TL
