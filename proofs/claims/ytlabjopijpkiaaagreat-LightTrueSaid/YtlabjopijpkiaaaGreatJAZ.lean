import Derived.Test.YtlabjopijpkiaaaGreatJAW
set_option maxHeartbeats 16000000
set_option maxRecDepth 20000
set_option linter.unusedSectionVars false
set_option linter.unusedSimpArgs false
set_option linter.unusedVariables false
namespace Go.TL
open Go.Proofs
variable [ZX]
theorem Fj (l:List (List Int)) (x:List Int) (g:l.length<2 ^ 62) (k:∀y∈l,y.length<2 ^ 62):Ε Tryz.prog 43 [ξ l,Z9 J 1 x] (Z4 (l.contains x)):=by
 refine Μ.body Ρ Tryz.func43 rfl rfl Tryz.ntmps43 rfl rfl I ?_;refine Τ ?_;refine W.iter (λi:Nat=>i<=l.length/\∀j,j<i->(h:j<l.length)->l[j]≠x) (λi=>[(0,ξ l),(1,Z9 J 1 x),(5,J i)]) (λ_=>[]) (λi=>l.length-i) 0 ⟨χ _,λj b=>U⟩ rfl I (λi hi m=>?_);refine Τ ?_;refine W.Yv rfl (λa=>?_) (λa=>?_)
 .have a:i<l.length:=by simpa using a
  refine XB a λo n=>?_;refine Ε.d (LF l[i] x (k _ (YF a))) (Z6 ?_);apply n;by_cases c:l[i]=x
  .refine Α (by simp[c]) ?_;refine Τ ?_;refine W.rt ?_;have:x∈l:=c▸YF _;exact .of (by simp[this])
  .refine Ζ (by simp[c]) ?_;have f:=X5 a g;refine Γ f ?_;refine W.forget _ ?_ (m (i+1) ⟨U,λj b h=>?_⟩ U)
   .simp[f]
   .by_cases e:j=i
    .subst e;exact c
    .exact hi.2 j U h
 .have a:i=l.length:=by simp at a;omega
  subst a;refine W.exit rfl ?_;refine Τ ?_;refine W.rt ?_;have:¬x∈l:=λh=>by
   obtain⟨j,b,e⟩:=OO h;exact hi.2 j b b e
  exact .of (by simp[this])
theorem KZ.call {s:ψ} {F:List Found} {lower:Bool} {N:Nat} (h:KZ s F lower N) (d:N<2 ^ 20) (e:N5 N) {c:Nat} (a:c<s.cells.length):Ε Tryz.prog 95 [Zb F,J c,Z4 lower] (Z9 J 1 (Yb F c lower)):=
 Dj F c lower h.Ut (λf b=>⟨by rw[(h.cells f b).1];exact a,(h.cells f b).2⟩) N d e (h.some c a).1 (h.some c a).2
theorem rO:∀a<64,∀b<64,(UK .i64 (a:Nat) (b:Nat)=0↔XY .i64 (b:Nat) (a:Nat)=(a:Nat))/\0<=QS .i64 (a:Nat) (b:Nat)/\QS .i64 (a:Nat) (b:Nat)<=63:=by decide +kernel
theorem HS {a b:Int} (c:0<=a/\a<=63) (d:0<=b/\b<=63):(UK .i64 a b=0↔XY .i64 b a=a)/\0<=QS .i64 a b/\QS .i64 a b<=63:=by
 obtain⟨x,rfl⟩:∃x:Nat,a=x:=⟨a.toNat,U⟩;obtain⟨y,rfl⟩:∃y:Nat,b=y:=⟨b.toNat,U⟩;exact rO x U y U
theorem Fi {s:ψ} (h:Yd s) {g:Int}:0<=s.of g/\s.of g<=63:=by
 unfold ψ.of;split
 .omega
 .cases c:s.Ι[g.toNat]? with
  | none=>simp
  | some x=>
   obtain⟨_,a,b⟩:=h.Ι.each x (Zi c);simp;omega
theorem A6 {s:ψ} (h:Yd s) (p r:Int×Int) (n:Nat):0<=s.XA p r n/\s.XA p r n<=63:=by
 have a:∀g,0<=Sb 0 (s.of g)/\Sb 0 (s.of g)<=63:=λg=>(HS (a:=0) U (Fi h)).2
 have z:(0:Int)<=0/\(0:Int)<=63:=U;unfold ψ.XA;simp only;split
 .split
  .exact(HS (a r.1) (Fi h)).2
  .exact(HS z (Fi h)).2
 .split
  .exact a r.1
  .exact z
theorem Fh {L:List (Int×Int)}:∀e∈L.map Φ,∀a∈e.cells,ς 0 a:=λe c a b=>by
 obtain⟨x,_,rfl⟩:=Zq.1 c;simp[Ω.cells] at b;subst b;simp
abbrev WT (l:List (Int×Int)):List (List Int):=l.map λr=>[r.1,r.2]
end Go.TL
namespace Go.TL
open Go.Proofs
abbrev Qo:κ:=[Zr [1,0],Zr [2,0],Zr [2,1]]
theorem A5:∀i,i<3->Qo[i]?=some (Zr [(Ze i).1,(Ze i).2])/\∀h,Qo[i]'h=Zr [(Ze i).1,(Ze i).2]:=λi hi=>by
 match i with
 | 0=>exact⟨rfl,λ_=>rfl⟩
 | 1=>exact⟨rfl,λ_=>rfl⟩
 | 2=>exact⟨rfl,λ_=>rfl⟩
end Go.TL
namespace Go.TL
open Go.Proofs
variable [ZX]
theorem rN {s:ψ} {c:Nat} {lower:Bool} (b:¬c<s.cells.length):Yb (Z1 s) c lower=[]:=by
 have:Xo (Z1 s) c lower=[]:=by
  refine List.flatMap_eq_nil_iff.2 λf a=>?_;unfold N4;rw[Wu (by rw[(Mt a).1];omega)];rfl
 unfold Yb;rw[this];simp[TM,Yk]
end Go.TL
namespace Go.TL
open Go.Proofs
theorem Fg [ZX] {s:ψ} (h:Yd s) (lower:Bool) (c:Nat):(Yb (Z1 s) c lower).length<2 ^ 40:=by
 by_cases a:c<s.cells.length
 .have:=Fz (lower:=lower) a
  have:=h.Ι.hi;omega
 .rw[rN a];decide
end Go.TL
namespace Go.TL
open Go.Proofs
variable [ZX]
theorem A4 {F:List Found} {c:Nat} {r:Int×Int}:r∈VM F c↔∃f∈F,r∈OX f c:=by
 unfold VM;rw[HW,(NG _ _).mem_iff];exact Qf
end Go.TL
