import Derived.Test.YtlabjopijpkiaaaGreatQAC
set_option maxHeartbeats 16000000
set_option maxRecDepth 20000
set_option linter.unusedSectionVars false
set_option linter.unusedSimpArgs false
set_option linter.unusedVariables false
namespace Go.TL
open Go.Conc
open Go.ConcM (OsLater)
open Go.ConcN (sumTo upd sumTo_upd upd_ne upd_same sumTo_congr le_sumTo)
open Go.ConcR (mk)
def nV:kF→Prop
 | .fin|.uc|.us|.done=>True
 | _=>False
def bT (tok:Nat→Nat→Tok) (i s:Nat) (t:Tok):Nat→Nat→Tok:=upd tok i (upd (tok i) s t)
theorem eS (tok:Nat→Nat→Tok) (i s:Nat) (t:Tok):bT tok i s t i s=t:=by simp[bT,upd]
theorem eG {tok:Nat→Nat→Tok} {i s j r:Nat} (t:Tok) (h:¬(j=i∧r=s)):bT tok i s t j r=tok j r:=by
 unfold bT upd;by_cases ε:j=i
 ·subst ε;by_cases κ:r=s
  ·exact absurd ⟨rfl,κ⟩ h
  ·simp[κ]
 ·simp[ε]
theorem JI (tok:Nat→Nat→Tok) (i s:Nat) (t:Tok):(fun j=>bT tok i s t j s)=upd (fun j=>tok j s) i t:=by
 funext j
 by_cases ε:j=i
 ·subst ε;rw[eS,upd_same]
 ·rw[eG _ (fun h=>ε h.1),upd_ne _ _ ε]
theorem EM (tok:Nat→Nat→Tok) (i s:Nat) (t:Tok) {r:Nat} (κ:r≠s):(fun j=>bT tok i s t j r)=fun j=>tok j r:=by
 funext j;rw[eG _ (fun h=>κ h.2)]
structure ev (n:Nat) (tok:Nat→Nat→Tok) (spec:Nat→Nat→Option Spec) (view:Nat→Nat→Option (Nat×aK)) (rel:Nat→Bool) (O:Nat→Option aK) (bs home:Nat→Nat):Prop where
 bf:∀s o,O s=some o→sh n o (fun i=>tok i s)
 bare:∀s,O s=none→∀i,tok i s=.nil
 out:∀i s,n≤i→tok i s=.nil
 pX:∀i s sp,spec i s=some sp→∃o,O s=some o∧o.toSpec=sp
 tP:∀i s φ o,view i s=some (φ,o)→∃dw,O s=some dw∧ei n dw (fun j=>tok j s)≤φ∧(ei n dw (fun j=>tok j s)=φ→dw=o)
 c5:∀i s k L g o,O s=some o→tok i s=.ch k (.c5 L) g→o.L=L
 par:∀i s m p aB,tok i s=.par m p aB→i=bs s
 nW:∀i s k m g,tok i s=.ch k m g→i≠0∧home i=s∧bs s<i
 q1:∀i,i≠0→i<n→∃k m g,tok i (home i)=.ch k m g
 gJ:∀i k m g,i≠0→tok i (home i)=.ch k m g→(rel i=true↔g≠.work)
 sn:rel 0=false
 nX:∀i s,rel i=true→s≠home i→fC (tok i s)
 nY:∀i s k m g o,O s=some o→tok i s=.ch k m g→g≠.work→m=.done∨(m=.idle∧o.aQ=none)
 tQ:∀s i j k m g bW g',tok i s=.ch k m g→tok j s=.ch k bW g'→i=j
 so:∀s i k m g q p aB,tok i s=.ch k m g→tok (bs s) s=.par q p aB→k+p<q
 fh:∀s o,O s=some o→o.L.Nodup∧∀k,k∈o.L↔∃i m g,tok i s=.ch k m g∧nV m
 fM:∀s o,O s=some o→o.ab.Nodup∧∀k,k∈o.ab↔∃i m g,tok i s=.ch k m g∧g≠.work
def Alike (t t':Tok):Prop:=(∃m p aB bW eT EN,t=.par m p aB∧t'=.par bW eT EN∧∀k,k+p<m→k+eT<bW)∨(∃k m g bW g',t=.ch k m g∧t'=.ch k bW g')
section
variable {n:Nat} {tok:Nat→Nat→Tok} {spec:Nat→Nat→Option Spec} {view:Nat→Nat→Option (Nat×aK)} {rel:Nat→Bool} {O:Nat→Option aK} {bs home:Nat→Nat}
theorem ev.lt (h:ev n tok spec view rel O bs home) {i s:Nat} (Μ:tok i s≠.nil):i<n:=Nat.lt_of_not_le fun hle=>Μ (h.out i s hle)
theorem ev.change (h:ev n tok spec view rel O bs home) {s i:Nat} {o o':aK} {t t':Tok} {AN:Nat→Bool} {V:Nat→Option (Nat×aK)} (ξ:O s=some o) (Μ:tok i s=t) (AO:Alike t t')
  (Η:sh n o' (upd (fun j=>tok j s) i t')) (χ:ei n o' (upd (fun j=>tok j s) i t')<ei n o (fun j=>tok j s)) (bQ:o'.toSpec=o.toSpec)
  (EO:∀r φ q,V r=some (φ,q)→(r=s∧φ=ei n o' (upd (fun j=>tok j s) i t')∧q=o')∨(r≠s∧view i r=some (φ,q)))
  (hN:∀j k L g,bT tok i s t' j s=.ch k (.c5 L) g→o'.L=L)
  (AP:∀j k m g,j≠0→bT tok i s t' j (home j)=.ch k m g→(AN j=true↔g≠.work)) (EP:AN 0=false)
  (QC:∀j r,AN j=true→r≠home j→fC (bT tok i s t' j r))
  (QD:∀j k m g,bT tok i s t' j s=.ch k m g→g≠.work→m=.done∨(m=.idle∧o'.aQ=none))
  (aD:o'.L.Nodup∧∀k,k∈o'.L↔∃j m g,bT tok i s t' j s=.ch k m g∧nV m) (a8:o'.ab.Nodup∧∀k,k∈o'.ab↔∃j m g,bT tok i s t' j s=.ch k m g∧g≠.work) :
  ev n (bT tok i s t') spec (upd view i V) AN (upd O s (some o')) bs home:=by
 have bb:i<n:=h.lt (s:=s) (by rw[Μ];rcases AO with⟨_,_,_,_,_,_,rfl,_⟩|⟨_,_,_,_,_,rfl,_⟩<;>simp)
 have ER:=JI tok i s t'
 have q2:∀r,r≠s→(fun j=>bT tok i s t' j r)=fun j=>tok j r:=fun r κ=>EM tok i s t' κ
 have x5:∀j r,r≠s→bT tok i s t' j r=tok j r:=fun j r κ=>congrFun (q2 r κ) j
 have same:∀j,j≠i→∀r,bT tok i s t' j r=tok j r:=fun j ε r=>eG _ fun x=>ε x.1
 have AQ:∀j r k m g,bT tok i s t' j r=.ch k m g→∃du cH,tok j r=.ch k du cH:=fun j r k m g ε=>by
  by_cases e:j=i∧r=s
  ·obtain⟨rfl,rfl⟩:=e;rw[eS] at ε;rcases AO with⟨_,_,_,_,_,_,_,γ,_⟩|⟨ek,du,cH,eH,Ξ,R,γ⟩
   ·rw[γ] at ε;cases ε
   ·rw[γ] at ε;cases ε;exact⟨du,cH,by rw[Μ,R]⟩
  ·rw[eG _ e] at ε;exact⟨m,g,ε⟩
 have QE:∀j r k m g,tok j r=.ch k m g→∃du cH,bT tok i s t' j r=.ch k du cH:=fun j r k m g ε=>by
  by_cases e:j=i∧r=s
  ·obtain⟨rfl,rfl⟩:=e;rw[eS];rw[Μ] at ε;rcases AO with⟨_,_,_,_,_,_,R,_,_⟩|⟨ek,du,cH,eH,Ξ,R,γ⟩
   ·rw[R] at ε;cases ε
   ·rw[R] at ε;cases ε;exact⟨eH,Ξ,γ⟩
  ·rw[eG _ e];exact⟨m,g,ε⟩
 have JJ:∀j r m p aB,bT tok i s t' j r=.par m p aB→∃du fg x6,tok j r=.par du fg x6∧∀k,k+fg<du→k+p<m:=fun j r m p aB ε=>by
  by_cases e:j=i∧r=s
  ·obtain⟨rfl,rfl⟩:=e;rw[eS] at ε;rcases AO with⟨_,_,_,_,_,_,R,γ,ο⟩|⟨ek,du,cH,eH,Ξ,R,γ⟩
   ·rw[γ] at ε;cases ε;exact⟨_,_,_,by rw[Μ,R],ο⟩
   ·rw[γ] at ε;cases ε
  ·rw[eG _ e] at ε;exact⟨m,p,aB,ε,fun _ x=>x⟩
 have gK:∀r q,upd O s (some o') r=some q→(r=s∧q=o')∨(r≠s∧O r=some q):=fun r q Υ=>by
  by_cases e:r=s
  ·subst e;rw[upd_same] at Υ;cases Υ;exact .inl ⟨rfl,rfl⟩
  ·rw[upd_ne _ _ e] at Υ;exact .inr ⟨e,Υ⟩
 refine⟨fun r q Υ=>?_,fun r κ j=>?_,fun j r ε=>?_,fun j r sp ε=>?_,fun j r φ q ε=>?_,fun j r k L g q Υ ε=>?_,fun j r m p aB ε=>?_,fun j r k m g ε=>?_,fun j ae ε=>?_,AP,EP,QC,fun j r k m g q Υ ε Τ=>?_,fun r j bC k m g bW g' R γ=>?_,fun r j k m g q p aB R γ=>?_,fun r q Υ=>?_,fun r q Υ=>?_⟩
 ·rcases gK r q Υ with⟨rfl,rfl⟩|⟨e,bX⟩
  ·rw[ER];exact Η
  ·rw[q2 r e];exact h.bf r q bX
 ·by_cases e:r=s
  ·subst e;rw[upd_same] at κ;cases κ
  ·rw[upd_ne _ _ e] at κ;rw[x5 j r e];exact h.bare r κ j
 ·rw[same j (by omega) r];exact h.out j r ε
 ·obtain⟨q,R,γ⟩:=h.pX j r sp ε;by_cases e:r=s
  ·subst e;rw[ξ] at R;cases R;exact⟨o',upd_same ..,by rw[bQ];exact γ⟩
  ·exact⟨q,by rw[upd_ne _ _ e];exact R,γ⟩
 ·have old:∀φ q,view j r=some (φ,q)→∃dw,upd O s (some o') r=some dw∧ei n dw (fun a=>bT tok i s t' a r)≤φ∧(ei n dw (fun a=>bT tok i s t' a r)=φ→dw=q):=fun φ q hv=>by
   obtain⟨dw,R,γ,ο⟩:=h.tP j r φ q hv;by_cases e:r=s
   ·subst e;rw[ξ] at R;cases R;rw[upd_same,ER];exact⟨o',rfl,by omega,fun x=>by omega⟩
   ·rw[upd_ne _ _ e,q2 r e];exact⟨dw,R,γ,ο⟩
  by_cases e:j=i
  ·subst e;rw[upd_same] at ε;rcases EO r φ q ε with⟨rfl,rfl,rfl⟩|⟨κ,hv⟩
   ·rw[upd_same,ER];exact⟨_,rfl,Nat.le_refl _,fun _=>rfl⟩
   ·exact old φ q hv
  ·rw[upd_ne _ _ e] at ε;exact old φ q ε
 ·rcases gK r q Υ with⟨rfl,rfl⟩|⟨e,bX⟩
  ·exact hN j k L g ε
  ·rw[x5 j r e] at ε;exact h.c5 j r k L g q bX ε
 ·obtain⟨du,fg,x6,R,_⟩:=JJ j r m p aB ε;exact h.par j r du fg x6 R
 ·obtain⟨du,cH,R⟩:=AQ j r k m g ε;exact h.nW j r k du cH R
 ·obtain⟨k,m,g,R⟩:=h.q1 j ae ε;obtain⟨eH,Ξ,γ⟩:=QE j _ k m g R;exact⟨k,eH,Ξ,γ⟩
 ·rcases gK r q Υ with⟨rfl,rfl⟩|⟨e,bX⟩
  ·exact QD j k m g ε Τ
  ·rw[x5 j r e] at ε;exact h.nY j r k m g q bX ε Τ
 ·obtain⟨a,b,ο⟩:=AQ j r k m g R;obtain⟨b9,Φ,Ι⟩:=AQ bC r k bW g' γ;exact h.tQ r j bC k a b b9 Φ ο Ι
 ·obtain⟨a,b,ο⟩:=AQ j r k m g R;obtain⟨du,fg,x6,Ι,ay⟩:=JJ _ r q p aB γ;exact ay k (h.so r j k a b du fg x6 ο Ι)
 ·rcases gK r q Υ with⟨rfl,rfl⟩|⟨e,bX⟩
  ·exact aD
  ·simp only[fun j=>x5 j r e];exact h.fh r q bX
 ·rcases gK r q Υ with⟨rfl,rfl⟩|⟨e,bX⟩
  ·exact a8
  ·simp only[fun j=>x5 j r e];exact h.fM r q bX
theorem QF {o o':aK} {t t':Tok} (h:Act o t o' t'):Alike t t':=by
 cases h
 case add=>exact .inl ⟨_,_,_,_,_,_,rfl,rfl,fun k υ=>by omega⟩
 case thru|Jm|wake=>exact .inl ⟨_,_,_,_,_,_,rfl,rfl,fun k υ=>υ⟩
 all_goals exact .inr ⟨_,_,_,_,_,rfl,rfl⟩
theorem JK {o o':aK} {t t':Tok} (h:Act o t o' t'):o'.toSpec=o.toSpec∧o'.L=o.L∧o'.ab=o.ab:=by
 cases h<;>exact⟨rfl,rfl,rfl⟩
theorem JL {o o':aK} {t t':Tok} (h:Act o t o' t'):(∀k m g,t'=.ch k m g→∃du cH,t=.ch k du cH∧(nV m↔nV du)∧(g=.work↔cH=.work)∧(cH≠.work→m=du)∧∀L,m=.c5 L→du=.c5 L)∧(∀k m g,t=.ch k m g→∃eH Ξ,t'=.ch k eH Ξ∧(nV eH↔nV m)∧(Ξ=.work↔g=.work))∧¬fC t:=by
 refine⟨fun k m g e=>?_,fun k m g e=>?_,?_⟩
 ·cases h<;>cases e<;>exact⟨_,_,rfl,by simp[nV],by simp,by simp,by simp⟩
 ·cases h<;>cases e<;>exact⟨_,_,rfl,by simp[nV],by simp⟩
 ·cases h<;>simp[fC]
theorem ev.act (h:ev n tok spec view rel O bs home) {s i:Nat} {o o':aK} {t t':Tok} (ξ:O s=some o) (Μ:tok i s=t) (μ:Act o t o' t') :
  ev n (bT tok i s t') spec (upd view i (upd (view i) s (some (ei n o' (upd (fun j=>tok j s) i t'),o')))) rel (upd O s (some o')) bs home:=by
 obtain⟨hw,tR,JM⟩:=JL μ;have bb:i<n:=h.lt (s:=s) (by rw[Μ];rintro rfl;exact JM trivial);obtain⟨vE,AR,ES⟩:=JK μ;have x7:∀j r k m g,bT tok i s t' j r=.ch k m g→∃du cH,tok j r=.ch k du cH∧(nV m↔nV du)∧(g=.work↔cH=.work)∧(cH≠.work→m=du)∧∀L,m=.c5 L→du=.c5 L:=fun j r k m g ε=>by
  by_cases e:j=i∧r=s
  ·obtain⟨rfl,rfl⟩:=e;rw[eS] at ε;obtain⟨du,cH,Ε,Δ⟩:=hw k m g ε;exact⟨du,cH,by rw[Μ,Ε],Δ⟩
  ·rw[eG _ e] at ε;exact⟨m,g,ε,.rfl,.rfl,fun _=>rfl,fun _ x=>x⟩
 have is:∀j k m g,tok j s=.ch k m g→∃eH Ξ,bT tok i s t' j s=.ch k eH Ξ∧(nV eH↔nV m)∧(Ξ=.work↔g=.work):=fun j k m g ε=>by
  by_cases e:j=i∧s=s
  ·obtain⟨rfl,_⟩:=e;rw[eS];rw[Μ] at ε;exact tR k m g ε
  ·rw[eG _ e];exact⟨m,g,ε,.rfl,.rfl⟩
 refine h.change ξ Μ (QF μ) (⟨Qf (h.bf s o ξ).1 bb Μ μ,Qj (h.bf s o ξ).2 bb Μ μ⟩) (Jo bb Μ μ) vE (fun r φ q hv=>?_) (fun j k L g ε=>?_) (fun j k m g ae ε=>?_) h.sn (fun j r ε κ=>?_) (fun j k m g ε Τ=>?_) ?_ ?_
 ·by_cases e:r=s
  ·subst e;rw[upd_same] at hv;cases hv;exact .inl ⟨rfl,rfl,rfl⟩
  ·rw[upd_ne _ _ e] at hv;exact .inr ⟨e,hv⟩
 ·obtain⟨du,cH,Ε,_,_,_,Δ⟩:=x7 j s k _ g ε;rw[AR];exact h.c5 j s k L cH o ξ (by rw[Ε,Δ L rfl])
 ·obtain⟨du,cH,Ε,_,Δ,_⟩:=x7 j _ k m g ε;rw[h.gJ j k du cH ae Ε];exact not_congr Δ.symm
 ·by_cases e:j=i∧r=s
  ·obtain⟨rfl,rfl⟩:=e;have:=h.nX j r ε κ;rw[Μ] at this;exact absurd this JM
  ·rw[eG _ e];exact h.nX j r ε κ
 ·obtain⟨du,cH,Ε,_,Δ,a4,_⟩:=x7 j s k m g ε;have x8:cH≠.work:=fun x=>Τ (Δ.2 x);rw[a4 x8];have:=h.nY j s k du cH o ξ Ε x8;rw[show o'.aQ=o.aQ by rw[vE]];exact this
 ·obtain⟨a,b⟩:=h.fh s o ξ;rw[AR];refine⟨a,fun k=>(b k).trans ⟨fun⟨j,m,g,Ε,Δ⟩=>?_,fun⟨j,m,g,Ε,Δ⟩=>?_⟩⟩
  ·obtain⟨eH,Ξ,a4,cu,_⟩:=is j k m g Ε;exact⟨j,eH,Ξ,a4,cu.2 Δ⟩
  ·obtain⟨du,cH,a4,cu,_⟩:=x7 j s k m g Ε;exact⟨j,du,cH,a4,cu.1 Δ⟩
 ·obtain⟨a,b⟩:=h.fM s o ξ;rw[ES];refine⟨a,fun k=>(b k).trans ⟨fun⟨j,m,g,Ε,Δ⟩=>?_,fun⟨j,m,g,Ε,Δ⟩=>?_⟩⟩
  ·obtain⟨eH,Ξ,a4,_,cu⟩:=is j k m g Ε;exact⟨j,eH,Ξ,a4,fun x=>Δ (cu.1 x)⟩
  ·obtain⟨du,cH,a4,_,cu,_⟩:=x7 j s k m g Ε;exact⟨j,du,cH,a4,fun x=>Δ (cu.2 x)⟩
theorem ev.look (h:ev n tok spec view rel O bs home) {s i:Nat} {o:aK} (ξ:O s=some o):ev n tok spec (upd view i (upd (view i) s (some (ei n o (fun j=>tok j s),o)))) rel O bs home:=
 have key:∀j r φ q,upd view i (upd (view i) s (some (ei n o (fun j=>tok j s),o))) j r=some (φ,q)→∃dw,O r=some dw∧ei n dw (fun j=>tok j r)≤φ∧(ei n dw (fun j=>tok j r)=φ→dw=q):=fun j r φ q ε=>by
  by_cases e:j=i
  ·subst e;rw[upd_same] at ε;by_cases aH:r=s
   ·subst aH;rw[upd_same] at ε;cases ε;exact⟨o,ξ,Nat.le_refl _,fun _=>rfl⟩
   ·rw[upd_ne _ _ aH] at ε;exact h.tP j r φ q ε
  ·rw[upd_ne _ _ e] at ε;exact h.tP j r φ q ε
 {h with tP:=key}
theorem AS {s i:Nat} {r φ:Nat} {q:aK} {o':aK} {z:Nat} (hv:upd (view i) s none r=some (φ,q)):(r=s∧φ=z∧q=o')∨(r≠s∧view i r=some (φ,q)):=by
 by_cases e:r=s
 ·subst e;rw[upd_same] at hv;cases hv
 ·rw[upd_ne _ _ e] at hv;exact .inr ⟨e,hv⟩
theorem QG {l:List Nat} {k:Nat} (h:l.Nodup) (υ:k∉l):(l++[k]).Nodup:=by
 rw[List.nodup_append];exact⟨h,by simp,fun a μ b hb=>by simp at hb;subst hb;rintro rfl;exact υ μ⟩
theorem ev.Eu (h:ev n tok spec view rel O bs home) {s i k:Nat} {o:aK} (ξ:O s=some o) (Μ:tok i s=.ch k .own .work) :
  ev n (bT tok i s (.ch k (.c5 o.L) .work)) spec (upd view i (upd (view i) s none)) rel (upd O s (some o)) bs home:=by
 have bb:i<n:=h.lt (s:=s) (by rw[Μ];simp)
 have hw:oP o (.ch k .own .work) o (.ch k (.c5 o.L) .work):=.Eu
 have gL:∀j,j≠i→∀r,bT tok i s (.ch k (.c5 o.L) .work) j r=tok j r:=fun j ε r=>eG _ fun x=>ε x.1
 have η:=h.nW i s k _ _ Μ;refine h.change ξ Μ (.inr ⟨_,_,_,_,_,rfl,rfl⟩) ⟨AF (h.bf s o ξ).1 bb Μ hw,AG (h.bf s o ξ).2 bb Μ hw⟩ (AE bb Μ hw) rfl (fun r φ q hv=>AS hv) (fun j Ω L g ε=>?_) (fun j Ω m g ae ε=>?_) h.sn (fun j r ε κ=>?_) (fun j Ω m g ε Τ=>?_) ?_ ?_
 ·by_cases e:j=i
  ·subst e;rw[eS] at ε;cases ε;rfl
  ·rw[gL j e] at ε;exact h.c5 j s Ω L g o ξ ε
 ·by_cases e:j=i
  ·subst e;have aH:home j=s:=η.2.1;rw[aH,eS] at ε;cases ε;exact h.gJ j k .own .work ae (by rw[aH];exact Μ)
  ·rw[gL j e] at ε;exact h.gJ j Ω m g ae ε
 ·by_cases e:j=i
  ·subst e;have aH:home j=s:=η.2.1;rw[eG _ (fun x=>κ (by rw[x.2,aH]))];exact h.nX j r ε κ
  ·rw[gL j e];exact h.nX j r ε κ
 ·by_cases e:j=i
  ·subst e;rw[eS] at ε;cases ε;exact absurd rfl Τ
  ·rw[gL j e] at ε;exact h.nY j s Ω m g o ξ ε Τ
 ·obtain⟨a,b⟩:=h.fh s o ξ;refine⟨a,fun Ω=>(b Ω).trans ⟨fun⟨j,m,g,Ε,Δ⟩=>?_,fun⟨j,m,g,Ε,Δ⟩=>?_⟩⟩
  ·by_cases e:j=i
   ·subst e;rw[Μ] at Ε;cases Ε;exact Δ.elim
   ·exact⟨j,m,g,by rw[gL j e];exact Ε,Δ⟩
  ·by_cases e:j=i
   ·subst e;rw[eS] at Ε;cases Ε;exact Δ.elim
   ·exact⟨j,m,g,by rw[gL j e] at Ε;exact Ε,Δ⟩
 ·obtain⟨a,b⟩:=h.fM s o ξ;refine⟨a,fun Ω=>(b Ω).trans ⟨fun⟨j,m,g,Ε,Δ⟩=>?_,fun⟨j,m,g,Ε,Δ⟩=>?_⟩⟩
  ·by_cases e:j=i
   ·subst e;rw[Μ] at Ε;cases Ε;exact absurd rfl Δ
   ·exact⟨j,m,g,by rw[gL j e];exact Ε,Δ⟩
  ·by_cases e:j=i
   ·subst e;rw[eS] at Ε;cases Ε;exact absurd rfl Δ
   ·exact⟨j,m,g,by rw[gL j e] at Ε;exact Ε,Δ⟩
theorem ev.QH (h:ev n tok spec view rel O bs home) {s i k:Nat} {L:List Nat} {o:aK} (ξ:O s=some o) (Μ:tok i s=.ch k (.c5 L) .work) :
  ev n (bT tok i s (.ch k .fin .work)) spec (upd view i (upd (view i) s none)) rel (upd O s (some {o with L:=o.L++[k]})) bs home:=by
 have bb:i<n:=h.lt (s:=s) (by rw[Μ];simp)
 have hw:oP o (.ch k (.c5 L) .work) {o with L:=o.L++[k]} (.ch k .fin .work):=.Qd
 have gL:∀j,j≠i→∀r,bT tok i s (.ch k .fin .work) j r=tok j r:=fun j ε r=>eG _ fun x=>ε x.1
 have η:=h.nW i s k _ _ Μ
 have only:∀j Ω iV g,tok j s=.ch Ω (.c5 iV) g→j=i:=fun j Ω iV g ε=>by
  apply Classical.byContradiction;intro bu;have eI:j<n:=h.lt (s:=s) (by rw[ε];simp);have Ε:=fX (fun a=>tok a s) .nil hI bb;have Δ:=e9 (upd (fun a=>tok a s) i .nil) hI eI;rw[upd_ne _ _ bu] at Δ;simp only[Μ,ε,hI,xO] at Ε Δ;have:=(h.bf s o ξ).1.Jj;have:=(h.bf s o ξ).1.f1;omega
 have JN:k∉o.L:=fun υ=>by
  obtain⟨j,m,g,Ε,Δ⟩:=((h.fh s o ξ).2 k).1 υ;have:=h.tQ s j i k m g _ _ Ε Μ;subst this;rw[Μ] at Ε;cases Ε;exact Δ
 refine h.change ξ Μ (.inr ⟨_,_,_,_,_,rfl,rfl⟩) ⟨AF (h.bf s o ξ).1 bb Μ hw,AG (h.bf s o ξ).2 bb Μ hw⟩ (AE bb Μ hw) rfl (fun r φ q hv=>AS hv) (fun j Ω iV g ε=>?_) (fun j Ω m g ae ε=>?_) h.sn (fun j r ε κ=>?_) (fun j Ω m g ε Τ=>?_) ?_ ?_
 ·by_cases e:j=i
  ·subst e;rw[eS] at ε;cases ε
  ·rw[gL j e] at ε;exact absurd (only j Ω iV g ε) e
 ·by_cases e:j=i
  ·subst e;have aH:home j=s:=η.2.1;rw[aH,eS] at ε;cases ε;exact h.gJ j k (.c5 L) .work ae (by rw[aH];exact Μ)
  ·rw[gL j e] at ε;exact h.gJ j Ω m g ae ε
 ·by_cases e:j=i
  ·subst e;have aH:home j=s:=η.2.1;rw[eG _ (fun x=>κ (by rw[x.2,aH]))];exact h.nX j r ε κ
  ·rw[gL j e];exact h.nX j r ε κ
 ·by_cases e:j=i
  ·subst e;rw[eS] at ε;cases ε;exact absurd rfl Τ
  ·rw[gL j e] at ε;exact h.nY j s Ω m g o ξ ε Τ
 ·obtain⟨a,b⟩:=h.fh s o ξ;refine⟨QG a JN,fun Ω=>?_⟩;rw[List.mem_append,List.mem_singleton];constructor
  ·rintro(υ|rfl)
   ·obtain⟨j,m,g,Ε,Δ⟩:=(b Ω).1 υ;have e:j≠i:=by rintro rfl;rw[Μ] at Ε;cases Ε;exact Δ
    exact⟨j,m,g,by rw[gL j e];exact Ε,Δ⟩
   ·exact⟨i,.fin,.work,eS ..,trivial⟩
  ·rintro⟨j,m,g,Ε,Δ⟩;by_cases e:j=i
   ·subst e;rw[eS] at Ε;cases Ε;exact .inr rfl
   ·rw[gL j e] at Ε;exact .inl ((b Ω).2 ⟨j,m,g,Ε,Δ⟩)
 ·obtain⟨a,b⟩:=h.fM s o ξ;refine⟨a,fun Ω=>(b Ω).trans ⟨fun⟨j,m,g,Ε,Δ⟩=>?_,fun⟨j,m,g,Ε,Δ⟩=>?_⟩⟩
  ·by_cases e:j=i
   ·subst e;rw[Μ] at Ε;cases Ε;exact absurd rfl Δ
   ·exact⟨j,m,g,by rw[gL j e];exact Ε,Δ⟩
  ·by_cases e:j=i
   ·subst e;rw[eS] at Ε;cases Ε;exact absurd rfl Δ
   ·exact⟨j,m,g,by rw[gL j e] at Ε;exact Ε,Δ⟩
theorem ev.QI (h:ev n tok spec view rel O bs home) {s i k:Nat} {mu:kF} {o:aK} (ξ:O s=some o) (Μ:tok i s=.ch k mu .work) (sr:mu=.done∨(mu=.idle∧o.aQ=none)) (cM:∀r,r≠s→fC (tok i r)) :
  ev n (bT tok i s (.ch k mu .rel)) spec (upd view i (upd (view i) s none)) (upd rel i true) (upd O s (some {o with ab:=k::o.ab})) bs home:=by
 have bb:i<n:=h.lt (s:=s) (by rw[Μ];simp)
 have hw:oP o (.ch k mu .work) {o with ab:=k::o.ab} (.ch k mu .rel):=.Qe sr
 have gL:∀j,j≠i→∀r,bT tok i s (.ch k mu .rel) j r=tok j r:=fun j ε r=>eG _ fun x=>ε x.1
 have η:=h.nW i s k _ _ Μ
 have QJ:k∉o.ab:=fun υ=>by
  obtain⟨j,m,g,Ε,Δ⟩:=((h.fM s o ξ).2 k).1 υ;have:=h.tQ s j i k m g _ _ Ε Μ;subst this;rw[Μ] at Ε;cases Ε;exact Δ rfl
 refine h.change ξ Μ (.inr ⟨_,_,_,_,_,rfl,rfl⟩) ⟨AF (h.bf s o ξ).1 bb Μ hw,AG (h.bf s o ξ).2 bb Μ hw⟩ (AE bb Μ hw) rfl (fun r φ q hv=>AS hv) (fun j Ω iV g ε=>?_) (fun j Ω m g ae ε=>?_) (by rw[upd_ne _ _ (Ne.symm η.1)];exact h.sn) (fun j r ε κ=>?_) (fun j Ω m g ε Τ=>?_) ?_ ?_
 ·by_cases e:j=i
  ·subst e;rw[eS] at ε;rcases sr with rfl|⟨rfl,_⟩<;>cases ε
  ·rw[gL j e] at ε;exact h.c5 j s Ω iV g o ξ ε
 ·by_cases e:j=i
  ·subst e;have aH:home j=s:=η.2.1;rw[aH,eS] at ε;cases ε;rw[upd_same];simp
  ·rw[gL j e] at ε;rw[upd_ne _ _ e];exact h.gJ j Ω m g ae ε
 ·by_cases e:j=i
  ·subst e;have aH:home j=s:=η.2.1;have js:r≠s:=fun x=>κ (by rw[x,aH]);rw[eG _ (fun x=>js x.2)];exact cM r js
  ·rw[gL j e];rw[upd_ne _ _ e] at ε;exact h.nX j r ε κ
 ·by_cases e:j=i
  ·subst e;rw[eS] at ε;cases ε;exact sr
  ·rw[gL j e] at ε;exact h.nY j s Ω m g o ξ ε Τ
 ·obtain⟨a,b⟩:=h.fh s o ξ;refine⟨a,fun Ω=>(b Ω).trans ⟨fun⟨j,m,g,Ε,Δ⟩=>?_,fun⟨j,m,g,Ε,Δ⟩=>?_⟩⟩
  ·by_cases e:j=i
   ·subst e;rw[Μ] at Ε;cases Ε;exact⟨j,mu,.rel,eS ..,Δ⟩
   ·exact⟨j,m,g,by rw[gL j e];exact Ε,Δ⟩
  ·by_cases e:j=i
   ·subst e;rw[eS] at Ε;cases Ε;exact⟨j,mu,.work,Μ,Δ⟩
   ·exact⟨j,m,g,by rw[gL j e] at Ε;exact Ε,Δ⟩
 ·obtain⟨a,b⟩:=h.fM s o ξ;refine⟨List.nodup_cons.2 ⟨QJ,a⟩,fun Ω=>?_⟩;rw[List.mem_cons];constructor
  ·rintro(rfl|υ)
   ·exact⟨i,mu,.rel,eS ..,by simp⟩
   ·obtain⟨j,m,g,Ε,Δ⟩:=(b Ω).1 υ;have e:j≠i:=by rintro rfl;rw[Μ] at Ε;cases Ε;exact Δ rfl
    exact⟨j,m,g,by rw[gL j e];exact Ε,Δ⟩
  ·rintro⟨j,m,g,Ε,Δ⟩;by_cases e:j=i
   ·subst e;rw[eS] at Ε;cases Ε;exact .inl rfl
   ·rw[gL j e] at Ε;exact .inr ((b Ω).2 ⟨j,m,g,Ε,Δ⟩)
theorem ev.gtake (h:ev n tok spec view rel O bs home) {s i q:Nat} {aB:qX} {o:aK} (ξ:O s=some o) (Μ:tok i s=.par q 0 aB) (jL:aB=.lp∨aB=.w4) :
  ev n (bT tok i s (.par q 0 .bw)) spec (upd view i (upd (view i) s none)) rel (upd O s (some o)) bs home:=by
 have bb:i<n:=h.lt (s:=s) (by rw[Μ];simp)
 have hw:oP o (.par q 0 aB) o (.par q 0 .bw):=.gtake jL
 have gL:∀j,j≠i→∀r,bT tok i s (.par q 0 .bw) j r=tok j r:=fun j ε r=>eG _ fun x=>ε x.1
 have cs:∀j r k m g,bT tok i s (.par q 0 .bw) j r=.ch k m g↔tok j r=.ch k m g:=fun j r k m g=>by
  by_cases e:j=i∧r=s
  ·obtain⟨rfl,rfl⟩:=e;rw[eS,Μ];simp
  ·rw[eG _ e]
 refine h.change ξ Μ (.inl ⟨_,_,_,_,_,_,rfl,rfl,fun k υ=>υ⟩) ⟨AF (h.bf s o ξ).1 bb Μ hw,AG (h.bf s o ξ).2 bb Μ hw⟩ (AE bb Μ hw) rfl (fun r φ q hv=>AS hv) (fun j Ω iV g ε=>?_) (fun j Ω m g ae ε=>?_) h.sn (fun j r ε κ=>?_) (fun j Ω m g ε Τ=>?_) ?_ ?_
 ·rw[cs] at ε;exact h.c5 j s Ω iV g o ξ ε
 ·rw[cs] at ε;exact h.gJ j Ω m g ae ε
 ·by_cases e:j=i∧r=s
  ·obtain⟨rfl,rfl⟩:=e;rw[eS];trivial
  ·rw[eG _ e];exact h.nX j r ε κ
 ·rw[cs] at ε;exact h.nY j s Ω m g o ξ ε Τ
 ·simp only[cs];exact h.fh s o ξ
 ·simp only[cs];exact h.fM s o ξ
end
def lz (O O':Nat→Option aK):Prop:=(∀s o',O' s=some o'→∃o,O s=some o∧o.toSpec=o'.toSpec)∧∀s o,O s=some o→∃o',O' s=some o'∧o.toSpec=o'.toSpec
theorem lz.upd {O:Nat→Option aK} {s:Nat} {o o':aK} (ξ:O s=some o) (h:o'.toSpec=o.toSpec):lz O (Go.ConcN.upd O s (some o')):=by
 refine⟨fun r q Υ=>?_,fun r q Υ=>?_⟩
 ·by_cases e:r=s
  ·subst e;rw[upd_same] at Υ;cases Υ;exact⟨o,ξ,h.symm⟩
  ·rw[upd_ne _ _ e] at Υ;exact⟨q,Υ,rfl⟩
 ·by_cases e:r=s
  ·subst e;rw[ξ] at Υ;cases Υ;exact⟨o',upd_same ..,h.symm⟩
  ·exact⟨q,by rw[upd_ne _ _ e];exact Υ,rfl⟩
section
variable {H:cw→ψ} {aC:Nat→Nat→Option (Array Value×TypeId)} {tok ee:Nat→Nat→Tok} {O O':Nat→Option aK} {bs:Nat→Nat} {deaf JO:Nat→Nat} {N gW:Nat} {t:Trace} {bl w w':World}
theorem AT {h:cw} {k:Nat} (cN:∀s o',O' s=some o'→∃o,O s=some o∧o.toSpec=o'.toSpec) (Μ:∀i s,ee i s≠.nil→tok i s≠.nil) (υ:iU tok O t h k):iU ee O' t h k:=by
 cases h with
 | inl i=>exact υ
 | inr b=>
  refine υ.imp id fun h s o ξ hb i hi=>?_;obtain⟨kL,R,γ⟩:=cN s o ξ;exact h s kL R (by rw[γ];exact hb) i (Μ i s hi)
theorem h2.QK (h:h2 H aC tok O bs deaf N t) (cN:lz O O') (Μ:∀i s,ee i s≠.nil→tok i s≠.nil):h2 H aC ee O' bs deaf N t:=
 ⟨h.race,h.low,h.norel,fun k=>(h.perms k).mono fun _=>AT cN.1 Μ,h.nS,fun s o b ξ hb=>let ⟨kL,R,γ⟩:=cN.1 s o ξ;h.cont s kL b R (by rw[γ];exact hb),h.hears⟩
theorem hL.me (h:hL H aC O gW) (cN:lz O O'):hL H aC O' gW:=
 ⟨h.apart,h.high,h.m3,h.fresh,fun s o b ξ hb=>let ⟨kL,R,γ⟩:=cN.1 s o ξ;h.jK s kL b R (by rw[γ];exact hb),
  fun s bj o o' b ξ im hb dv=>let ⟨kL,R,γ⟩:=cN.1 s o ξ;let ⟨dw,ο,Ι⟩:=cN.1 bj o' im;h.j2 s bj kL dw b R ο (by rw[γ];exact hb) (by rw[Ι];exact dv),
  fun s o m ξ hm=>let ⟨kL,R,γ⟩:=cN.1 s o ξ;h.oT s kL m R (by rw[γ];exact hm),
  fun b hb=>h.ed b fun s o ξ hi=>let ⟨o',R,γ⟩:=cN.2 s o ξ;hb s o' R (by rw[←γ];exact hi)⟩
theorem h2.ext (h:h2 H aC tok O bs deaf N t) (Α:hL H aC O gW) (i:Nat) {u:Trace} (hu:∀op∈u,op.g=i) (ω:∀op∈u,op.act.low N) (κ:∀op∈u,∀a,op.act≠.mark (.release a))
  (Μ:∀op∈u,∀b,op.act.touch?=some b→∃s o lA off,O s=some o∧dW s o.toSpec lA∧b.loc=.cell ⟨lA,off,none⟩∧(b.kind=.atomic∨(b.kind=.said∧i=bs s)))
  (hd:∀j,Deaf (t++u) j=JO j):h2 H aC tok O bs JO N (t++u):=by
 refine⟨fun said=>noRace_append (h.race said) hu fun k a μ op Κ b hb η=>?_,fun op Κ=>(Array.mem_append.1 Κ).elim (h.low op) (ω op),fun op Κ=>(Array.mem_append.1 Κ).elim (h.norel op) (κ op),fun k=>?_,fun j b v hv k a μ e0=>?_,fun s o b ξ hb k a μ e0=>?_,hd⟩
 ·obtain⟨s,o,lA,off,R,γ,ο,Ι⟩:=Μ op Κ b hb;obtain⟨c1,_,_,c4⟩:=η;have e0:mY a.loc lA:=by rw[c1,ο];rfl
  rcases h.cont s o lA R γ k a μ e0 with ay|⟨ay,a6⟩
  ·exfalso;rcases c4 with x|x|⟨_,x,_⟩
   ·rw[ay] at x;cases x
   ·rcases Ι with y|⟨y,_⟩<;>(rw[y] at x;cases x)
   ·rw[ay] at x;cases x
  ·rcases Ι with y|⟨y,rfl⟩
   ·exfalso;rcases c4 with x|x|⟨_,_,x⟩
    ·rw[ay] at x;cases x
    ·rw[y] at x;cases x
    ·rw[y] at x;cases x
   ·obtain⟨z,Ν,_⟩:=touch_of μ;have:=knows_own Ν;have e:z.g=bs s:=by simpa[Trace.g?,Ν] using a6
    rwa [e] at this
 ·have:c8 (t++u) (iU tok O (t++u) k) (H k):=(h.perms k).others (fun x δ=>EI _ δ) fun op Κ a μ=>by
   obtain⟨s,o,lA,off,R,γ,ο,Ι⟩:=Μ op Κ a μ;have off:=(Α.jK s o lA R γ).2.1 k;refine⟨fun b o' v p ω η=>?_,fun b ω hb=>?_⟩
   ·rw[ο] at ω;cases ω;exact absurd ⟨_,η⟩ (off.1 _)
   ·rw[ο] at ω;cases ω
  exact this
 ·rcases mf μ with dV|⟨_,op,Κ,_,hM⟩
  ·exact h.nS j b v hv k a dV e0
  ·obtain⟨s,o,lA,off,R,γ,ο,Ι⟩:=Μ op Κ a hM;rw[ο] at e0;simp only[mY] at e0;subst e0;rw[(Α.jK s o lA R γ).2.2 j] at hv;cases hv
 ·rcases mf μ with dV|⟨_,op,Κ,υ,hM⟩
  ·rcases h.cont s o b ξ hb k a dV e0 with x|⟨x,Τ⟩
   ·exact .inl x
   ·obtain⟨z,Ν,_⟩:=touch_of dV;exact .inr ⟨x,by rw[g?_old (lt_size_of_getElem? Ν)];exact Τ⟩
  ·obtain⟨bj,o',lA,off,R,γ,ο,Ι⟩:=Μ op Κ a hM;rw[ο] at e0;simp only[mY] at e0;subst e0;have es:=Α.j2 s bj o o' lA ξ R hb γ;subst es;rcases Ι with x|⟨x,y⟩
   ·exact .inl x
   ·exact .inr ⟨x,by simp[Trace.g?,υ,hu op Κ,y]⟩
theorem c8.sub {iR:Nat→Prop} {G G':ψ} (h:c8 t iR G) (ξ:Sub G' G):c8 t iR G':=
 ⟨fun b o v p η i a μ ω hw=>let ⟨fg,ae,χ⟩:=ξ.aF b o v p η;h.aF b o v fg ae i a μ ω (hw.imp χ id),fun b ⟨x,δ⟩ i a μ ω=>h.obj b ⟨x,ξ.obj b x δ⟩ i a μ ω⟩
theorem c8.join {iR:Nat→Prop} {G E:ψ} (h:c8 t iR G) (k:c8 t iR E):c8 t iR (Go.TL.join G E):=by
 refine⟨fun b o v p η i a μ ω hw=>?_,fun b hb i a μ ω=>?_⟩
 ·simp only[Go.TL.join] at η;cases Τ:G.aF b o with
  | none=>rw[Τ] at η;exact k.aF b o v p η i a μ ω hw
  | some y=>rw[Τ] at η;cases η;exact h.aF b o v p Τ i a μ ω hw
 ·obtain⟨x,δ⟩:=hb;simp only[Go.TL.join] at δ;cases Τ:G.obj b with
  | none=>rw[Τ] at δ;exact k.obj b ⟨x,δ⟩ i a μ ω
  | some y=>exact h.obj b ⟨y,Τ⟩ i a μ ω
theorem c8.empty {iR:Nat→Prop}:c8 t iR ψ.empty:=⟨fun _ _ _ _ h=>(by cases h),fun _ ⟨_,h⟩=>(by cases h)⟩
theorem c8.release {i b:Nat} {G:ψ} {y:MemOp} (h:c8 t (Knows t i) G) (Τ:y.g=i) (Ο:y.act=.mark (.releaseMerge ⟨b,0,none⟩)) (hd:Deaf t i=0):c8 (t++#[y]) (iU tok O (t++#[y]) (.inr b)) G:=by
 have iW:(t++#[y])[t.size]?=some y:=by simp
 have x9:(t++#[y]).heard t.size:=⟨i,by simp[Trace.g?,Τ],by rw[deaf_old (Nat.le_refl _)];exact hd⟩
 have key:∀k,Knows t i k→iU tok O (t++#[y]) (.inr b) k:=fun k υ=>.inl ⟨t.size,y,iW,Ο,x9,.inr (υ.hb_new (Nat.le_refl _) iW Τ)⟩
 have nt:∀k a,touchAt (t++#[y]) k=some a→touchAt t k=some a:=fun k a μ=>by
  rcases mf μ with dV|⟨_,op,Κ,_,hM⟩
  ·exact dV
  ·simp at Κ;subst Κ;rw[Ο] at hM;simp[MemAct.touch?] at hM
 exact⟨fun nU o v p η k a μ ω hw=>key k (h.aF nU o v p η k a (nt k a μ) ω hw),fun nU hb k a μ ω=>key k (h.obj nU hb k a (nt k a μ) ω)⟩
theorem c8.acquire {i b s:Nat} {o:aK} {E:ψ} {y:MemOp} (h:c8 t (iU tok O t (.inr b)) E) (dQ:∀op∈t,∀a,op.act≠.mark (.release a)) (ξ:O s=some o) (hb:dW s o.toSpec b) (hi:tok i s≠.nil)
  (Τ:y.g=i) (Ο:y.act=.mark (.acquire ⟨b,0,none⟩)) (hd:Deaf t i=0):c8 (t++#[y]) (Knows (t++#[y]) i) E:=by
 have iW:(t++#[y])[t.size]?=some y:=by simp
 have x9:(t++#[y]).heard t.size:=⟨i,by simp[Trace.g?,Τ],by rw[deaf_old (Nat.le_refl _)];exact hd⟩
 have key:∀k,iU tok O t (.inr b) k→Knows (t++#[y]) i k:=fun k υ=>by
  rcases υ with⟨p,op,R,γ,ο,Ι⟩|υ
  ·have χ:=lt_size_of_getElem? R;refine⟨t.size,y,iW,Τ,.inr ((Ι.app #[y]).hb (.single (.inr ⟨.marked (a:=⟨b,0,none⟩) χ (.inr ?_) ?_ ?_,(heard_old χ).2 ο,x9⟩)))⟩
   ·rw[act?_old χ,act?_of R,γ]
   ·rw[act?_of iW,Ο]
   ·intro Ω iw eU jM;rw[act?_old eU] at jM;obtain⟨q3,iX,hM⟩:=Option.map_eq_some_iff.1 jM;exact dQ q3 (mem_of_getElem? iX) _ hM
  ·exact(υ s o ξ hb i hi).app _
 have nt:∀k a,touchAt (t++#[y]) k=some a→touchAt t k=some a:=fun k a μ=>by
  rcases mf μ with dV|⟨_,op,Κ,_,hM⟩
  ·exact dV
  ·simp at Κ;subst Κ;rw[Ο] at hM;simp[MemAct.touch?] at hM
 exact⟨fun nU o v p η k a μ ω hw=>key k (h.aF nU o v p η k a (nt k a μ) ω hw),fun nU hb k a μ ω=>key k (h.obj nU hb k a (nt k a μ) ω)⟩
theorem Knows.spawn {i j k:Nat} {y z:MemOp} (h:Knows t i k) (JP:y.g=i) (Ο:y.act=.go j) (ET:z.g=j) (Ν:z.act=.start) (hd:Deaf t i=0) (QL:Deaf t j=0):Knows (t++#[y,z]) j k:=by
 have tS:(t++#[y,z])[t.size]?=some y:=by simp
 have kN:(t++#[y,z])[t.size+1]?=some z:=by simp
 have d1:(t++#[y,z]).heard t.size:=⟨i,by simp[Trace.g?,JP],by rw[deaf_old (Nat.le_refl _)];exact hd⟩
 have d2:(t++#[y,z]).heard (t.size+1):=⟨j,by simp[Trace.g?,ET],by
  rw[deaf_succ tS];have:deafStep j ((t++#[y,z]).deaf j t.size) y=(t++#[y,z]).deaf j t.size:=by simp[deafStep,Ο]
  rw[this,deaf_old (Nat.le_refl _)];exact QL⟩
 have Ε:=h.hb_new (u:=#[y,z]) (Nat.le_refl _) tS JP
 have Δ:HappensBefore (t++#[y,z]) t.size (t.size+1):=.single (.inr ⟨.spawn (child:=j) (by rw[act?_of tS,Ο]) (by rw[act?_of kN,Ν]) (by simp[Trace.g?,ET]),d1,d2⟩);exact⟨t.size+1,z,kN,ET,.inr (Ε.trans Δ)⟩
theorem Sub.refl (G:ψ):Sub G G:=⟨fun _ _ _ p h=>⟨p,h,id⟩,fun _ _ h=>h,fun _ _ h=>h⟩
theorem Sub.owns {G G':ψ} (h:Sub G' G) {b o:Nat} (x:G'.owns b o):G.owns b o:=let ⟨v,hv⟩:=x;let ⟨p,ae,χ⟩:=h.aF b o v true hv;⟨v,by rw[ae,χ rfl]⟩
theorem Sub.has {G G':ψ} (h:Sub G' G) {b o:Nat} (x:G'.has b o):G.has b o:=let ⟨v,hv⟩:=x;let ⟨p,ae,_⟩:=h.aF b o v.1 v.2 hv;⟨_,ae⟩
theorem Sub.eQ {G G':ψ} (h:Sub G' G) {b:Nat} (x:G'.eQ b):G.eQ b:=let ⟨v,hv⟩:=x;⟨v,h.obj b v hv⟩
theorem Sub.off {G G':ψ} (h:Sub G' G) {b:Nat} (x:G.off b):G'.off b:=⟨fun o Β=>x.1 o (h.has Β),fun Β=>x.2 (h.eQ Β)⟩
theorem Sub.fits {G G':ψ} (h:Sub G' G) (x:Fits G w):Fits G' w:=⟨fun b o v p η=>let ⟨fg,ae,_⟩:=h.aF b o v p η;x.aF b o v fg ae,fun b t n κ=>x.row b t n (h.row b _ κ),fun b v hv=>x.obj b v (h.obj b v hv)⟩
theorem Apart.symm {A B:ψ} (h:Apart A B):Apart B A:=⟨h.pP,h.aF,fun b hb μ=>h.obj b μ hb⟩
theorem Apart.sub {A B JQ B':ψ} (h:Apart A B) (μ:Sub JQ A) (hb:Sub B' B):Apart JQ B':=
 ⟨fun b o x y=>h.aF b o (μ.owns x) (hb.has y),fun b o x y=>h.pP b o (hb.owns x) (μ.has y),fun b x y=>h.obj b (μ.eQ x) (hb.eQ y)⟩
theorem Apart.ss (A:ψ):Apart A ψ.empty:=⟨fun _ _ _ ⟨_,h⟩=>(by cases h),fun _ _ ⟨_,h⟩=>(by cases h),fun _ _ ⟨_,h⟩=>(by cases h)⟩
theorem EU {G E:ψ} {b o:Nat} (h:(join G E).owns b o):G.owns b o∨E.owns b o:=by
 obtain⟨v,hv⟩:=h;simp only[join] at hv;cases Τ:G.aF b o with
 | none=>rw[Τ] at hv;exact .inr ⟨v,hv⟩
 | some y=>rw[Τ] at hv;cases hv;exact .inl ⟨v,Τ⟩
theorem JR {G E:ψ} {b o:Nat} (h:(join G E).has b o):G.has b o∨E.has b o:=by
 obtain⟨v,hv⟩:=h;simp only[join] at hv;cases Τ:G.aF b o with
 | none=>rw[Τ] at hv;exact .inr ⟨v,hv⟩
 | some y=>exact .inl ⟨y,Τ⟩
theorem AU {G E:ψ} {b:Nat} (h:(join G E).eQ b):G.eQ b∨E.eQ b:=by
 obtain⟨v,hv⟩:=h;simp only[join] at hv;cases Τ:G.obj b with
 | none=>rw[Τ] at hv;exact .inr ⟨v,hv⟩
 | some y=>exact .inl ⟨y,Τ⟩
theorem QM {G E:ψ} {b:Nat} (h:G.off b) (k:E.off b):(join G E).off b:=⟨fun o Β=>(JR Β).elim (h.1 o) (k.1 o),fun Β=>(AU Β).elim h.2 k.2⟩
theorem x' {G E:ψ} (h:Fits G w) (k:Fits E w):Fits (join G E) w:=by
 refine⟨fun b o v p η=>?_,fun b t n κ=>?_,fun b v hv=>?_⟩
 ·simp only[join] at η;cases Τ:G.aF b o with
  | none=>rw[Τ] at η;exact k.aF b o v p η
  | some y=>rw[Τ] at η;cases η;exact h.aF b o v p Τ
 ·simp only[join] at κ;cases Τ:G.row b with
  | none=>rw[Τ] at κ;exact k.row b t n κ
  | some y=>rw[Τ] at κ;cases κ;exact h.row b t n Τ
 ·simp only[join] at hv;cases Τ:G.obj b with
  | none=>rw[Τ] at hv;exact k.obj b v hv
  | some y=>rw[Τ] at hv;cases hv;exact h.obj b v Τ
theorem Apart.pY {A B C:ψ} (h:Apart A C) (k:Apart B C):Apart (join A B) C:=
 ⟨fun b o x y=>(EU x).elim (fun z=>h.aF b o z y) (fun z=>k.aF b o z y),fun b o x y=>(JR y).elim (fun z=>h.pP b o x z) (fun z=>k.pP b o x z),fun b x y=>(AU x).elim (fun z=>h.obj b z y) (fun z=>k.obj b z y)⟩
theorem tT (w:World):Fits ψ.empty w:=⟨fun _ _ _ _ h=>(by cases h),fun _ _ _ h=>(by cases h),fun _ _ h=>(by cases h)⟩
theorem hL.two (h:hL H aC O gW) {a b:cw} (gw:a≠b) {A B:ψ} (bO:Sub A (join (H a) (H b))) (e1:Sub B (join (H a) (H b))) (JS:Apart A B)
  (cN:lz O O') (JU:∀x,b=.inr x∨a=.inr x→∃s o,O s=some o∧dW s o.toSpec x):hL (bF (bF H a A) b B) aC O' gW:=by
 have cP:=h.me cN
 have tU:bF (bF H a A) b B a=A:=by rw[bG _ _ gw,dt]
 have tV:bF (bF H a A) b B b=B:=dt _ _ _
 have pZ:∀k,k≠a→k≠b→bF (bF H a A) b B k=H k:=fun k R γ=>by rw[bG _ _ γ,bG _ _ R]
 have AV:∀k,k≠a→k≠b→Apart (join (H a) (H b)) (H k):=fun k R γ=>(h.apart a k (Ne.symm R)).pY (h.apart b k (Ne.symm γ))
 have JV:∀x,(∀k,(H k).off x)→(join (H a) (H b)).off x:=fun x δ=>QM (δ a) (δ b)
 have EV:∀{p:cw→Prop},p a→p b→(∀k,k≠a→k≠b→p k)→∀k,p k:=fun su sw QN k=>by
  by_cases R:k=a
  ·rw[R];exact su
  ·by_cases γ:k=b
   ·rw[γ];exact sw
   ·exact QN k R γ
 have JW:∀x,(∀k,(H k).off x)→∀k,(bF (bF H a A) b B k).off x:=fun x δ=>EV (by rw[tU];exact bO.off (JV x δ)) (by rw[tV];exact e1.off (JV x δ)) (fun k R γ=>by rw[pZ k R γ];exact δ k);refine⟨fun p q ya=>?_,?_,?_,fun i x v hv=>?_,fun s o x ξ δ=>?_,cP.j2,cP.oT,fun x δ=>?_⟩
 ·by_cases su:p=a
  ·subst su;by_cases vF:q=b
   ·subst vF;rw[tU,tV];exact JS
   ·rw[tU,pZ q (Ne.symm ya) vF];exact(AV q (Ne.symm ya) vF).sub bO (Sub.refl _)
  ·by_cases sw:p=b
   ·subst sw;by_cases vG:q=a
    ·subst vG;rw[tU,tV];exact JS.symm
    ·rw[tV,pZ q vG (Ne.symm ya)];exact(AV q vG (Ne.symm ya)).sub e1 (Sub.refl _)
   ·by_cases vG:q=a
    ·subst vG;rw[tU,pZ p su sw];exact((AV p su sw).sub bO (Sub.refl _)).symm
    ·by_cases vF:q=b
     ·subst vF;rw[tV,pZ p su sw];exact((AV p su sw).sub e1 (Sub.refl _)).symm
     ·rw[pZ p su sw,pZ q vG vF];exact h.apart p q ya
 ·exact EV (fun x o Β=>by rw[tU] at Β;exact(EU (bO.owns Β)).elim (h.high _ _ _) (h.high _ _ _)) (fun x o Β=>by rw[tV] at Β;exact(EU (e1.owns Β)).elim (h.high _ _ _) (h.high _ _ _)) (fun k R γ x o Β=>by rw[pZ k R γ] at Β;exact h.high _ _ _ Β)
 ·exact EV (fun x Β=>by rw[tU] at Β;exact(AU (bO.eQ Β)).elim (h.m3 _ _) (h.m3 _ _)) (fun x Β=>by rw[tV] at Β;exact(AU (e1.eQ Β)).elim (h.m3 _ _) (h.m3 _ _)) (fun k R γ x Β=>by rw[pZ k R γ] at Β;exact h.m3 _ _ Β)
 ·obtain⟨a1,bg,cv⟩:=h.fresh i x v hv;exact⟨a1,JW x bg,cv⟩
 ·obtain⟨a1,bg,cv⟩:=cP.jK s o x ξ δ;exact⟨a1,JW x bg,cv⟩
 ·have hc:(.inr x:cw)≠b:=fun e=>by
   obtain⟨s,o,ξ,hi⟩:=JU x (.inl e.symm);obtain⟨o',R,γ⟩:=cN.2 s o ξ;exact δ s o' R (by rw[←γ];exact hi)
  have fE:(.inr x:cw)≠a:=fun e=>by
   obtain⟨s,o,ξ,hi⟩:=JU x (.inr e.symm);obtain⟨o',R,γ⟩:=cN.2 s o ξ;exact δ s o' R (by rw[←γ];exact hi)
  rw[pZ _ fE hc];exact cP.ed x δ
theorem Sub.pY {G E A:ψ} (h:Sub A G):Sub A (join G E):=
 ⟨fun b o v p η=>let ⟨fg,ae,χ⟩:=h.aF b o v p η;⟨fg,by simp[join,ae],χ⟩,fun b x δ=>by simp[join,h.row b x δ],fun b x δ=>by simp[join,h.obj b x δ]⟩
theorem gI.two (h:gI H aC O bl w) {a b:cw} {A B:ψ} (bO:Fits A w) (e1:Fits B w) (cN:∀s o',O' s=some o'→At s o' w):gI (bF (bF H a A) b B) aC O' bl w:=by
 refine⟨fun k=>?_,h.ly,cN,h.keep⟩;by_cases γ:k=b
 ·subst γ;rw[dt];exact e1
 ·rw[bG _ _ γ];by_cases R:k=a
  ·subst R;rw[dt];exact bO
  ·rw[bG _ _ R];exact h.fit k
theorem gI.atom (h:gI H aC O bl w) (Α:hL H aC O gW) (ae:bl.heap.size=gW) {s:Nat} {o o':aK} (ξ:O s=some o) (bQ:o'.toSpec=o.toSpec) (υ:fe (fun b _=>dW s o.toSpec b) (fun _=>False) w w') (μ:At s o' w') :
  gI H aC (Go.ConcN.upd O s (some o')) bl w':=by
 refine⟨fun k=>(h.fit k).keeps υ (fun b dw hb=>((Α.jK s o b ξ hb).2.1 k).1 dw) (fun b hb=>hb.elim),fun j b c t hb=>?_,fun r q Υ=>?_,?_⟩
 ·obtain⟨c',R,γ,ο⟩:=υ.cells b c t _ (h.ly j b c t hb);have:c'=c:=by
   apply Array.ext_getElem?;intro dw;exact ο dw fun dv=>by rw[(Α.jK s o b ξ dv).2.2 j] at hb;cases hb
  rw[R,this]
 ·by_cases e:r=s
  ·subst e;rw[upd_same] at Υ;cases Υ;exact μ
  ·rw[upd_ne _ _ e] at Υ;have x2:∀b c t,dW r q.toSpec b→w.heap[b]?=some (.cells c t (0,0))→w'.heap[b]?=some (.cells c t (0,0)):=fun b c t hb η=>by
    obtain⟨c',R,γ,ο⟩:=υ.cells b c t _ η;have:c'=c:=by
     apply Array.ext_getElem?;intro dw;exact ο dw fun dv=>e (Α.j2 r s q o b Υ ξ hb dv)
    rw[R,this]
   obtain⟨⟨ty,R⟩,γ⟩:=h.ft r q Υ;exact⟨⟨ty,x2 _ _ _ (.inl rfl) R⟩,fun m hm=>let ⟨iS,ο⟩:=γ m hm;⟨iS,x2 _ _ _ (.inr hm) ο⟩⟩
 ·have ek:=h.keep;refine⟨Nat.le_trans ek.size υ.size,fun b c t dC hb=>?_,fun b x hb δ _=>υ.me b x (ek.me b x hb δ id) δ id,ek.os.trans υ.os,υ.output.trans ek.output,υ.tape.trans ek.tape⟩;obtain⟨c1,R,γ,ο⟩:=ek.cells b c t dC hb;obtain⟨c2,Ι,ay,a6⟩:=υ.cells b c1 t dC R;refine⟨c2,Ι,by rw[ay,γ],fun dw _=>?_⟩;rw[a6 dw fun δ=>?_,ο dw id];have:=(Α.jK s o b ξ δ).1;have:=ff hb;omega
end
end Go.TL
