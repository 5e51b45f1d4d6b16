import Derived.Test.YtlabjopijpkiaaaGreatJAY
import Derived.Test.YtlabjopijpkiaaaGreatJBA
set_option maxHeartbeats 16000000
set_option maxRecDepth 20000
set_option linter.unusedSectionVars false
set_option linter.unusedSimpArgs false
set_option linter.unusedVariables false
namespace Go.TL
open Go.Conc
variable [ZX]
def fill {α:Type} (f:α->Ω) (z:Ω) (l:List α) (i:Nat):κ:=(l.take i).map f++List.replicate (l.length-i) z
theorem AT {α:Type} (f:α->Ω) (z:Ω) (l:List α):fill f z l 0=List.replicate l.length z:=by simp[fill]
theorem AS {α:Type} (f:α->Ω) (z:Ω) (l:List α) {i:Nat} (h:l.length<=i):fill f z l i=l.map f:=by simp[fill,U4 h,Nat.sub_eq_zero_of_le h]
theorem AR {α:Type} (f:α->Ω) (z:Ω) (l:List α) {i:Nat} (h:i<=l.length):(fill f z l i).length=l.length:=by simp[fill];omega
theorem qB {α:Type} (f:α->Ω) (z:Ω) (l:List α) {i:Nat} (h:i<l.length):(fill f z l i)[i]?=some z:=by
 unfold fill;rw[W8 (by simp;omega),OQ];rw[if_pos (by simp;omega)]
theorem AQ {α:Type} (f:α->Ω) (z:Ω) (l:List α) {i:Nat} (h:i<l.length):(fill f z l i).set i (f l[i])=fill f z l (i+1):=by
 unfold fill;have a:l.length-i=(l.length-(i+1))+1:=U;have Φ:((l.take i).map f).length=i:=by simp;omega
 rw[a,List.replicate_succ,Pz _ _ U,Φ,Q5,List.set_cons_zero,We h,Yc,Vi];rfl
end Go.TL
namespace Go.TL
open Go.Proofs
variable [ZX]
theorem AP {α:Type} (f:α->Ω) (z:Ω) (l:List α) {i:Nat} (h:i<l.length) (a:i<(fill f z l i).length):(fill f z l i)[i]=z:=by
 have:=qB f z l h;rw[δ a] at this;exact Xk this
theorem qA (l:List Int) (d:l.length<2 ^ 44):Ε Tryz.prog 44 [Z9 J 1 l] (Z9 J 1 l):=by
 refine Μ.body Ρ Tryz.func44 rfl rfl Tryz.ntmps44 rfl rfl I ?_
 repeat apply Ξ
 refine VT ?_
 repeat apply Ξ
 refine Y4 (A:=[7]) Ρ λe b=>Z6 ?_;refine⟨U,?_⟩;apply b;refine Τ ?_;refine W.iter (λi:Nat=>i<=l.length) (λi=>[(0,Z9 J 1 l),(3,.ms 0 l.length 0 l.length),(4,J i)]) (λi=>[.cells 3 1 (fill J (J 0) l i)]) (λi=>l.length-i) 0 (χ _) (by simp[AT]) I (λi hi c=>?_);refine Τ ?_;refine W.Yv rfl (λa=>?_) (λa=>?_)
 .have a:i<l.length:=by simpa using a
  refine Γ (Υ a (Υ (AR J (J 0) l hi) (Υ (AP J (J 0) l a) (AQ J (J 0) l a)))) ?_;refine W.forget _ ?_ (c (i+1) a U);simp[X5 a (show l.length<2 ^ 62 by omega)]
 .have a:l.length<=i:=by simpa using a
  refine W.exit rfl ?_;refine Τ ?_;refine W.cut 0 (χ _) [(2,Z9 J 1 l)] I I (by simp;rw[AS _ _ _ a];exact .own (χ _) rfl I I) ?_;refine W.rt ?_;exact .refl _
theorem qz (l:List (List Int)) (g:l.length<2 ^ 40) (c:∀x∈l,x.length<2 ^ 44):Ε Tryz.prog 74 [ξ l] (ξ l):=by
 refine Μ.body Ρ Tryz.func74 rfl rfl Tryz.ntmps74 rfl rfl I ?_
 repeat apply Ξ
 refine VT ?_
 repeat apply Ξ
 refine Y4 (A:=[7]) Ρ λe b=>Z6 ?_;refine⟨U,?_⟩;apply b;refine Τ ?_;refine W.iter (λi:Nat=>i<=l.length) (λi=>[(0,ξ l),(3,.ms 0 l.length 0 l.length),(4,J i)]) (λi=>[.cells 29 1 (fill (Z9 J 1) (.sl true 0 []) l i)]) (λi=>l.length-i) 0 (χ _) (by simp[AT]) I (λi hi f=>?_);refine Τ ?_;refine W.Yv rfl (λa=>?_) (λa=>?_)
 .have a:i<l.length:=by simpa using a
  refine XB a λe b=>?_;refine Ε.d (qA _ (c _ (YF _))) (XJ (Υ a (Υ (AR (Z9 J 1) (.sl true 0 []) l hi) (Υ (AP (Z9 J 1) (.sl true 0 []) l a) (AQ (Z9 J 1) (.sl true 0 []) l a)))) ?_);apply b;refine Τ ?_;refine W.forget _ ?_ (f (i+1) a U);simp[X5 a (show l.length<2 ^ 62 by omega)]
 .have a:l.length<=i:=by simpa using a
  refine W.exit rfl ?_;refine Τ ?_;refine W.cut 0 (χ _) [(2,ξ l)] I I (by simp;rw[AS _ _ _ a];exact .own (χ _) rfl I I) ?_;refine W.rt ?_;exact .refl _
def AO (c:List Nat):Nat:=match c.getLast? with|none=>0|some x=>x+1
def qy (n:Nat) (c:List Nat) (v:Nat):List (List Nat):=(List.range' (AO c) (v-AO c)).map λx=>c++[x]
def HQ (n:Nat):Nat->List (List Nat)
 | 0=>[[]]
 | i+1=>(HQ n i).flatMap λc=>qy n c n
theorem AN (n:Nat):∀i,∀c∈HQ n i,c.length=i
 | 0=>by simp[HQ]
 | i+1=>λc a=>by
  obtain⟨d,hd,a⟩:=Qf.1 a;obtain⟨x,_,rfl⟩:=Zq.1 a;have:=AN n i d hd;simp[this]
theorem qx:∀n<10,V2 n 0=(List.range (n+1)).flatMap (HQ n):=by decide +kernel
theorem HP {s:ψ} (h:Yd s):Lr s (Z1 s):=by
 have g:=h.many;refine⟨by have:=Re s;omega,λf a=>?_,λf a=>?_,?_⟩
 .obtain⟨k,_,_,rfl⟩:=OY.1 a;refine⟨by simp[YX],λc b=>⟨by have:=H0 h (Ze k) c b;omega,λr d=>?_⟩⟩;obtain⟨i,_,rfl⟩:=Zq.1 b;have:=Mu.1 (Vh.1 d).1;omega
 .obtain⟨k,_,_,rfl⟩:=OY.1 a;have j:(YX s (Ze k)).cells.length=s.cells.length:=by simp[YX]
  refine⟨U,λe i hi=>by have:=KV h (Ze k) e (i:=i) U;omega⟩
 .rw[Mr];have:=KR h 3;omega
theorem qw {s:ψ} {c:Nat} {lower:Bool} (a:c<s.cells.length) (b:Z1 s≠[]):Yb (Z1 s) c lower≠[]:=by
 obtain⟨x,d⟩:=HK _ (FB (lower:=lower) a b);intro h;have:=HV.2 d;rw[h] at this;cases this
end Go.TL
namespace Go.TL
open Go.Conc
variable [ZX]
section
variable {P:Program} {T:ZR} {A:List Nat} {m nt:Nat} {k:List Item} {env env':ω} {σ:Ο} {Z:X7} {E:Yn} {ops:Array Oper} {lo pu ids:List Nat}
def Qn (ids:List Nat):Ω->Bool
 | .Κ id _ _ _=>ids.contains id
 | .ms id _ _ _=>ids.contains id
 | _=>false
def KQ (T:ZR) (A:List Nat) (env:ω) (o:Oper) (ids:List Nat) (σ:Ο) (K:Ω->Prop):Prop:=match o.op with
 | .load b x=>Qn ids (ζ env x)=true/\(VD T A env o).X1 (λ_=>False) ((SO T b σ (ζ env x)).X1 λa _=>K a)
 | .fieldAddr b x f=>Qn ids (ζ env x)=true/\(VD T A env o).X1 (λ_=>False) ((SN T b f σ (ζ env x)).X1 λa _=>K a)
 | .indexAddr b x c=>Qn ids (ζ env x)=true/\(VD T A env o).X1 (λ_=>False) ((SM T b σ (ζ env x) (ζ env c)).X1 λa _=>K a)
 | _=>False
theorem qv {o:Oper} {ids:List Nat} {K:Ω->Prop}:KQ T A env o ids σ K=match o.op with
 | .load b x=>Qn ids (ζ env x)=true/\(VD T A env o).X1 (λ_=>False) ((SO T b σ (ζ env x)).X1 λa _=>K a)
 | .fieldAddr b x f=>Qn ids (ζ env x)=true/\(VD T A env o).X1 (λ_=>False) ((SN T b f σ (ζ env x)).X1 λa _=>K a)
 | .indexAddr b x c=>Qn ids (ζ env x)=true/\(VD T A env o).X1 (λ_=>False) ((SM T b σ (ζ env x) (ζ env c)).X1 λa _=>K a)
 | _=>False:=Xx rfl rfl
def TZ (P:Program) (T:ZR) (A:List Nat) (nt:Nat) (ops:Array Oper) (lo pu ids:List Nat):List Nat->ω->Ο->List Bool->(ω->Ο->Prop)->Prop
 | [],env,σ,tags,K=>PX (TO lo pu) ops tags=true/\K env σ
 | i::is,env,σ,tags,K=>Xc ops[i]? λo=>WO nt o=true/\Xc (XK env ops o) λw=>
   Wa w (TZ P T A nt ops lo pu ids is (Zt o env .Zl) σ (tags++[false]) K)
    (Wa (!lo.contains i) (KQ T A env o ids σ λa=>TZ P T A nt ops lo pu ids is (Zt o env a) σ (tags++[true]) K)
     (PU P T A env o σ (λa=>TZ P T A nt ops lo pu ids is (Zt o env a) σ (tags++[false]) K) (λa σ'=>(pu.contains i=true->seen ids σ'=seen ids σ)/\TZ P T A nt ops lo pu ids is (Zt o env a) σ' (tags++[true]) K)))
theorem qu {tags:List Bool} {K:ω->Ο->Prop}:TZ P T A nt ops lo pu ids [] env σ tags K=(PX (TO lo pu) ops tags=true/\K env σ):=Xx rfl rfl
theorem qt {i:Nat} {is:List Nat} {tags:List Bool} {K:ω->Ο->Prop}:TZ P T A nt ops lo pu ids (i::is) env σ tags K=Xc ops[i]? λo=>WO nt o=true/\Xc (XK env ops o) λw=>
   Wa w (TZ P T A nt ops lo pu ids is (Zt o env .Zl) σ (tags++[false]) K)
    (Wa (!lo.contains i) (KQ T A env o ids σ λa=>TZ P T A nt ops lo pu ids is (Zt o env a) σ (tags++[true]) K)
     (PU P T A env o σ (λa=>TZ P T A nt ops lo pu ids is (Zt o env a) σ (tags++[false]) K) (λa σ'=>(pu.contains i=true->seen ids σ'=seen ids σ)/\TZ P T A nt ops lo pu ids is (Zt o env a) σ' (tags++[true]) K))):=Xx rfl rfl
theorem AM {i:V5} {l:κ} (τ:Ο):(QR i l).YD τ=match PZ i l with|some a=>.ok a τ|none=>.bad:=by
 unfold QR PZ;split
 .split<;>rfl
 .cases l<;>rfl
theorem HO {ids:List Nat} {τ:Ο} {id:Nat} (h:seen ids τ=seen ids σ) (hi:ids.contains id=true):τ[id]?=σ[id]?:=by
 have a:=PA.1 hi;exact List.map_inj_left.1 h id a
theorem AL {ids:List Nat} {b:TypeId} {x:Ω} {τ:Ο} (c:seen ids τ=seen ids σ) (d:Qn ids x=true):(∀a σ',SO T b σ x=.ok a σ'->SO T b τ x=.ok a τ)/\∀p r,SO T b σ x≠.Y' p r:=by
 unfold SO;split
 .rename_i id n i j;rw[HO c d];split
  .split
   .split
    .rw[AM,AM];split
     .exact⟨λa σ' h=>(by cases h;rfl),nofun⟩
     .exact⟨nofun,nofun⟩
    .exact⟨nofun,nofun⟩
   .exact⟨nofun,nofun⟩
  .exact⟨nofun,nofun⟩
 .exact⟨nofun,nofun⟩
theorem AK {ids:List Nat} {b:TypeId} {f:Nat} {x:Ω} {τ:Ο} (c:seen ids τ=seen ids σ) (d:Qn ids x=true):(∀a σ',SN T b f σ x=.ok a σ'->SN T b f τ x=.ok a τ)/\∀p r,SN T b f σ x≠.Y' p r:=by
 unfold SN;split
 .rename_i id n i j;rw[HO c d];split
  .split
   .exact⟨λa σ' h=>(by cases h;rfl),nofun⟩
   .exact⟨nofun,nofun⟩
  .exact⟨nofun,nofun⟩
 .exact⟨nofun,nofun⟩
theorem AJ {ids:List Nat} {b:TypeId} {x c:Ω} {τ:Ο} (d:seen ids τ=seen ids σ) (e:Qn ids x=true):(∀a σ',SM T b σ x c≠.ok a σ')/\∀p a σ',SM T b σ x c=.Y' p (.ok a σ')->SM T b τ x c=.Y' p (.ok a τ):=by
 unfold SM;split
 .split
  .rename_i id m i len;rw[HO d e];split
   .split
    .exact⟨nofun,λp a σ' h=>(by cases h;rfl)⟩
    .exact⟨nofun,nofun⟩
   .exact⟨nofun,nofun⟩
  .exact⟨nofun,nofun⟩
 .split
  .rename_i id m i j;rw[HO d e];split
   .split
    .exact⟨nofun,λp a σ' h=>(by cases h;rfl)⟩
    .exact⟨nofun,nofun⟩
   .exact⟨nofun,nofun⟩
  .exact⟨nofun,nofun⟩
 .exact⟨nofun,nofun⟩
theorem qs (s:ZB P T) {i:Nat} {o:Oper} {K:Ω->Prop} (t:ops[i]?=some o) (hd:WO nt o=true) (u:XK env ops o=some true) (h:KQ T A env o ids σ K) :
  ∃a,VU o=true/\(∀τ:Ο,seen ids τ=seen ids σ->Pk P m nt k Z E ops i o env τ a τ)/\K a:=by
 unfold KQ at h;split at h
 .rename_i v x b;obtain⟨g,h⟩:=h;unfold Zf.X1 at h;split at h
  .exact h.elim
  .exact h.2.elim
  .exact h.elim
  .rename_i l;unfold Y2.X1 at h;split at h
   .rename_i a σ' d;refine⟨a,by unfold VU;rw[b],λτ n env' rest e r=>?_,h⟩;refine .op (A:=A) s t (by rw[UJ e];exact u) hd (λc j=>by rw[b] at j;cases j) ?_;have:Wb T A env τ o=.ok a τ:=by unfold Wb;rw[b];exact(AL n g).1 a σ' d
    rw[PV e,Nb e,l,this];exact r
   .rename_i p a σ' d;exact absurd d ((AL (σ:=σ) (τ:=σ) rfl g).2 _ _)
   .exact h.elim
 .rename_i v x f b;obtain⟨g,h⟩:=h;unfold Zf.X1 at h;split at h
  .exact h.elim
  .exact h.2.elim
  .exact h.elim
  .rename_i l;unfold Y2.X1 at h;split at h
   .rename_i a σ' d;refine⟨a,by unfold VU;rw[b],λτ n env' rest e r=>?_,h⟩;refine .op (A:=A) s t (by rw[UJ e];exact u) hd (λc j=>by rw[b] at j;cases j) ?_;have:Wb T A env τ o=.ok a τ:=by unfold Wb;rw[b];exact(AK n g).1 a σ' d
    rw[PV e,Nb e,l,this];exact r
   .rename_i p a σ' d;exact absurd d ((AK (σ:=σ) (τ:=σ) rfl g).2 _ _)
   .exact h.elim
 .rename_i v x w b;obtain⟨g,h⟩:=h;unfold Zf.X1 at h;split at h
  .exact h.elim
  .exact h.2.elim
  .exact h.elim
  .rename_i l;unfold Y2.X1 at h;split at h
   .rename_i a σ' d;exact absurd d ((AJ (σ:=σ) (τ:=σ) rfl g).1 _ _)
   .rename_i p a σ' d;refine⟨a,by unfold VU;rw[b],λτ n env' rest e r=>?_,h.2⟩;refine .op (A:=A) s t (by rw[UJ e];exact u) hd (λc j=>by rw[b] at j;cases j) ?_;have:Wb T A env τ o=.Y' p (.ok a τ):=by unfold Wb;rw[b];exact(AJ n g).2 p a σ' d
    rw[PV e,Nb e,l,this];exact⟨h.1,r⟩
   .exact h.elim
 .exact h.elim
theorem qq (D:ZB P T) {i:Nat} {o:Oper} {F:Ω->Prop} {H:Ω->Ο->Prop} (n:ops[i]?=some o) (hd:WO nt o=true) (t:XK env ops o=some true) (h:PU P T A env o σ F H) :
  ∃a σ' v,V4 P m nt k Z E ops i o env σ v a σ'/\(v=false->F a/\σ'=σ)/\(v=true->H a σ'):=by
 unfold PU at h;split at h
 .rename_i f args R u;have I:∀env',SI ops o env env'->ζ env' f=ζ env f/\args.toList.map (ζ env')=args.toList.map (ζ env):=λenv' b=>by
   have w:=LJ b;rw[u] at w;refine⟨w f (by simp[Op.operands,Call.operands]),LI λx N=>w x (by simp[Op.operands,Call.operands,N])⟩
  rcases h with⟨r,g,h⟩|⟨r,σ',g,h⟩
  .refine⟨r,σ,false,?_,λ_=>⟨h,rfl⟩,nofun⟩;unfold V4;simp only[W',if_false];refine⟨λenv' σ' rest b j=>.call n (by rw[UJ b];exact t) hd u ?_,trivial⟩;obtain⟨B,Φ⟩:=I env' b;rw[B,Φ];exact(g σ').mono (λa s ⟨x,y⟩=>by subst x;subst y;exact j) (λ_ _ h=>h.elim)
  .refine⟨r,σ',true,?_,nofun,λ_=>h⟩;unfold V4;simp only[if_true];refine⟨?_,λd=>by unfold VU at d;rw[u] at d;cases d⟩;refine λenv' rest b j=>.call n (by rw[UJ b];exact t) hd u ?_;obtain⟨B,Φ⟩:=I env' b;rw[B,Φ];exact g.mono (λa s ⟨x,y⟩=>by subst x;subst y;exact j) (λ_ _ h=>h.elim)
 .exact h.elim
 .exact h.elim
 .rename_i S U J;have L:∀(r:Zf) (a:Ω),VD T A env o=r->(∀K:Ω->Ο->Prop,∀s,K a s->(r.YD s).holds K)->(∀σ s,r.or σ s=r.YD σ)->Pl P m nt k Z E ops i o env a:=λr a d C O env' σ' rest b j=>by
   refine .op (A:=A) D n (by rw[UJ b];exact t) hd (λc g=>J c g) ?_;rw[PV b,d,O];exact C _ _ j
  unfold Zf.X1 at h;split at h
  .rename_i a e;refine⟨a,σ,false,?_,λ_=>⟨h,rfl⟩,nofun⟩;unfold V4;simp only[W',if_false];exact⟨L _ a e (λK s l=>l) (λ_ _=>rfl),trivial⟩
  .rename_i p a e;refine⟨a,σ,false,?_,λ_=>⟨h.2,rfl⟩,nofun⟩;unfold V4;simp only[W',if_false];exact⟨L _ a e (λK s l=>⟨h.1,l⟩) (λ_ _=>rfl),trivial⟩
  .exact h.elim
  .rename_i Q;have M:∀(a:Ω) (σ':Ο) (r:Y2),Wb T A env σ o=r->(∀K:Ω->Ο->Prop,K a σ'->r.holds K)->Pk P m nt k Z E ops i o env σ a σ':=λa σ' r d C env' rest b j=>by
    refine .op (A:=A) D n (by rw[UJ b];exact t) hd (λc g=>J c g) ?_;rw[PV b,Nb b,Q,d];exact C _ j
   unfold Y2.X1 at h;split at h
   .rename_i a σ' e;refine⟨a,σ',true,?_,nofun,λ_=>h⟩;unfold V4;simp only[if_true];exact⟨M a σ' _ e λK l=>l,λd=>Na (p:=True) d (.inl e)⟩
   .rename_i p a σ' e;refine⟨a,σ',true,?_,nofun,λ_=>h.2⟩;unfold V4;simp only[if_true];exact⟨M a σ' _ e λK l=>⟨h.1,l⟩,λd=>Na d (.inr e)⟩
   .exact h.elim
def Fc (lo pu ids:List Nat) (P:Program) (m nt:Nat) (k:List Item) (Z:X7) (E:Yn) (ops:Array Oper) (i:Nat) (o:Oper) (env:ω) (σ:Ο) (b:Bool) (a:Ω) (σ':Ο):Prop:=
 V4 P m nt k Z E ops i o env σ b a σ'/\(lo.contains i=true->b=true->VU o=true/\∀τ:Ο,seen ids τ=seen ids σ->Pk P m nt k Z E ops i o env τ a τ)/\(pu.contains i=true->seen ids σ'=seen ids σ)
theorem qp (p:ZB P T) {i:Nat} {is:List Nat} {tags:List Bool} {K:ω->Ο->Prop} (h:TZ P T A nt ops lo pu ids (i::is) env σ tags K) :
  ∃o a σ' d,ops[i]?=some o/\Fc lo pu ids P m nt k Z E ops i o env σ d a σ'/\TZ P T A nt ops lo pu ids is (Zt o env a) σ' (tags++[d]) K:=by
 unfold TZ Xc at h;split at h
 .exact h.elim
 .rename_i o b;obtain⟨hd,h⟩:=h;split at h
  .exact h.elim
  rename_i w j;unfold Wa at h;cases w
  .replace h:=h.1 rfl
   refine⟨o,.Zl,σ,false,b,⟨?_,λ_ h=>(by cases h),λ_=>rfl⟩,h⟩;unfold V4;simp only[W',if_false];exact⟨λenv' σ' rest r s=>.unwanted b (by rw[UJ r];exact j) hd s,trivial⟩
  .replace h:=h.2 rfl
   cases e:lo.contains i with
   | true=>
    rw[e] at h;obtain⟨a,f,g,l⟩:=qs (m:=m) (k:=k) (Z:=Z) (E:=E) p b hd j (h.1 rfl);refine⟨o,a,σ,true,b,⟨?_,λ_ _=>⟨f,g⟩,λ_=>rfl⟩,l⟩;unfold V4;simp only[if_true];exact⟨g σ rfl,λ_=>trivial⟩
   | false=>
    rw[e] at h;obtain⟨a,σ',d,f,g,l⟩:=qq (m:=m) (k:=k) (Z:=Z) (E:=E) p b hd j (h.2 rfl);cases d with
    | false=>
     obtain⟨n,rfl⟩:=g rfl;exact⟨o,a,σ',false,b,⟨f,λc=>(by rw[e] at c;cases c),λ_=>rfl⟩,n⟩
    | true=>
     obtain⟨n,t⟩:=l rfl;exact⟨o,a,σ',true,b,⟨f,λc=>(by rw[e] at c;cases c),n⟩,t⟩
theorem qo (t:ZB P T) {K:ω->Ο->Prop} {env0:ω}:∀(d i:Nat) (tags:List Bool) (as9:Nat->Ω) (σs:Nat->Ο),i+d=ops.size->tags.length=i->
  (∀j o,j<i->ops[j]?=some o->Fc lo pu ids P m nt k Z E ops j o (Zc ops env0 as9 (λ_=>true) j) (σs j) (tags.getD j false) (as9 j) (σs (j+1)))->
  TZ P T A nt ops lo pu ids (List.range' i d) (Zc ops env0 as9 (λ_=>true) i) (σs i) tags K->
  ∃(tags:List Bool) (as9:Nat->Ω) (b:Nat->Ο),PX (TO lo pu) ops tags=true/\b 0=σs 0/\(∀j o,ops[j]?=some o->Fc lo pu ids P m nt k Z E ops j o (Zc ops env0 as9 (λ_=>true) j) (b j) (tags.getD j false) (as9 j) (b (j+1)))/\K (Zc ops env0 as9 (λ_=>true) ops.size) (b ops.size):=by
 intro d
 induction d with
 | zero=>
  intro i tags as9 σs hi n g h;simp only[List.range'_zero,TZ] at h;have:i=ops.size:=U;subst this;exact⟨tags,as9,σs,h.1,rfl,λj o f=>g j o (TY.1 f).1 f,h.2⟩
 | succ d u=>
  intro i tags as9 σs hi n g h;rw[Kq] at h;obtain⟨o,a,σ',l,f,v,h⟩:=qp (m:=m) (k:=k) (Z:=Z) (E:=E) t h;let c:Nat->Ω:=λj=>if j=i then a else as9 j
  let b:Nat->Ο:=λj=>if j=i+1 then σ' else σs j
  have p:∀j,j<=i->Zc ops env0 as9 (λ_=>true) j=Zc ops env0 c (λ_=>true) j:=λj g=>G1 j λx J=>by simp only[c];rw[if_neg U]
  have w:Zc ops env0 c (λ_=>true) (i+1)=Zt o (Zc ops env0 as9 (λ_=>true) i) a:=by
   simp only[Zc,if_true,f];rw[<-p i (γ i)];simp only[c,if_true]
  have:=u (i+1) (tags++[l]) c b U (by simp[n]) (λj y L r=>?_) ?_
  .obtain⟨t2,B,C,D,F,H,I⟩:=this;exact⟨t2,B,C,D,F.trans (by simp only[b];rw[if_neg U]),H,I⟩
  .by_cases e:j=i
   .subst e;rw[f] at r;cases r;rw[<-p j (γ j)];have s:(tags++[l]).getD j false=l:=by rw[Xr,W8 U,n];simp
    rw[s];simp only[c,b,if_true];rw[if_neg U];exact v
   .have:=g j y U r;rw[<-p j U];have s:(tags++[l]).getD j false=tags.getD j false:=by rw[Xr,YK U,<-Xr]
    rw[s];simp only[c,b];rw[if_neg U,if_neg U,if_neg U];exact this
  .rw[w];simp only[b,if_true];exact h
theorem W.qn (lo pu ids:List Nat) (u:ZB P T) (w:P.follows .mixedOrders=true) {id:Nat} (h:∀g:ω->Ο->Prop,(∀env σ,W P m nt k env σ Z E->g env σ)->TZ P T A nt ops lo pu ids (idx ops.size []) env σ [] g):W P m nt (.code (.region id ops true)::k) env σ Z E:=by
 have l:=h (λenv σ=>W P m nt k env σ Z E) λ_ _ h=>h;rw[idx_eq,KB] at l;obtain⟨tags,as9,σs,y,C,d,D⟩:=qo (m:=m) (k:=k) (Z:=Z) (E:=E) (env0:=env) u ops.size 0 [] (λ_=>.Zl) (λ_=>σ) U rfl (λj o F=>U) l;intro J mn x cs b S B H t p r f K L;refine .draw p r λn=>?_;have s:=W.DQ (lo:=lo) (pu:=pu) (v:=seen ids) (P:=P) (m:=m) (nt:=nt) (k:=k) (Z:=Z) (E:=E) (ops:=ops) (as9:=as9) (σs:=σs) (tags:=tags) (env0:=env) y
  (λi o a c=>by have:=(d i o a).1;unfold V4 at this;rw[c] at this;simpa using this)
  (λi o a c=>by have:=(d i o a).1;unfold V4 at this;rw[c] at this;simpa using this)
  (λi o a e c=>(d i o a).2.1 e c) (λi o a f=>(d i o a).2.2 f)
  (.ZF D) ops.size n (Array.replicate ops.size false) env 0 I (λi=>?_) (λi o a e=>?_) (χ _) (λj F _=>?_) ?_
 .rw[C] at s;rw[w];simp only[Region.schedule,Bool.true_or,if_true,Region.linearise];exact s J mn x cs b S B H t p r f K L
 .have:∀n,Zc ops env as9 (λi=>(Array.replicate ops.size false).getD i false) n=env:=by
   intro n
   induction n with
   | zero=>rfl
   | succ n M=>
    simp only[Zc];have:(Array.replicate ops.size false).getD n false=false:=by
     rw[WG,OR];split<;>rfl
    rw[if_neg (by rw[this];simp)];exact M
  rw[this]
 .have:(Array.replicate ops.size false).getD i false=false:=by
   rw[WG,OR];split<;>rfl
  rw[this] at e;cases e
 .have:(Array.replicate ops.size false).getD j false=false:=by
   rw[WG,OR];split<;>rfl
  rw[this];simp
 .have:=KC (λi=>!(Array.replicate ops.size false).getD i false) (List.range ops.size);simpa using this
end
end Go.TL
namespace Go.TL
open Go.Proofs
variable [ZX]
def WS (C:List (List Zw)):Ο:=C.map λl=>.cells 28 3 (l.map Zv)
theorem AI (σ L:Ο) (k:Nat):(σ++L)[σ.length+k]?=L[k]?:=by rw[W8 U];congr 1;omega
theorem qm (σ L:Ο):(σ++L)[σ.length]?=L[0]?:=AI σ L 0
theorem AH (σ L:Ο) (k:Nat) (x:Row):(σ++L).set (σ.length+k) x=σ++L.set k x:=by rw[Pz _ _ U];congr 2;omega
theorem ql (σ L:Ο) (x:Row):(σ++L).set σ.length x=σ++L.set 0 x:=AH σ L 0 x
theorem qk (s:ψ) (h:s.small) (σ:Ο):Μ Tryz.prog 25 [Yz s] σ (λa r=>a=.ZT [ν s.Ι,ξ s.Δ,.ms (σ.length+2) s.cells.length 0 s.cells.length]/\r=σ++(.dead::.dead::.cells 60 1 (Yh (σ.length+3) s.cells)::WS s.cells)) (λ_ _=>False):=by
 obtain⟨D,H,m,o,X⟩:=h;obtain⟨n,f⟩:=Η σ.length;have d:=AI σ;have t:=qm σ;have v:=AH σ;have y:=ql σ;rw[<-f] at d t v y ⊢;refine Μ.body Ρ Tryz.func25 rfl rfl Tryz.ntmps25 rfl rfl I ?_
 repeat apply Ξ
 refine Y4 (A:=[2]) Ρ λS B=>?_;simp;(repeat (rw[Ν];simp[f.symm]));apply B;refine W.to (σ':=σ++[YY (.sl true 0 []) (.sl true 0 []) (.sl true 0 [])]) (env':=[(1,.Θ [ν s.Ι,ξ s.Δ,Z2 s.cells]),(2,.Κ n 1 0 0)]) ?_ I I
 repeat apply Ξ
 refine W.draw (A:=[3]) Ρ mixed λS B=>?_;simp;(repeat (rw[ZK];simp[f.symm]));try rw[ZL]
 refine⟨U,?_⟩;refine Yl (Ε.p (qz s.Δ U (λx Y=>by have:=o x Y;omega)) (ZM.refl _) I I) ?_;simp[f.symm];(repeat (rw[ZK];simp[f.symm]));try rw[ZL]
 refine Y8 (B _ _ ?_);refine W.to (σ':=σ++[YY (.sl true 0 []) (.sl true 0 []) (.sl true 0 []),YY (ν s.Ι) (ξ s.Δ) (.sl true 0 [])]) (env':=[(1,.Θ [ν s.Ι,ξ s.Δ,Z2 s.cells]),(2,.Κ n 1 0 0),(3,.Κ (n+1) 1 0 0)]) ?_ I I;have Z:OW (n+2) (YY (ν s.Ι) (ξ s.Δ) (.sl true 0 [])) (YY (ν s.Ι) (ξ s.Δ) (.ms (n+2) 0 0 0)):=by
  refine .inr ⟨26,3,_,_,rfl,rfl,rfl,λi e ae D H=>?_⟩
  match i with
  | 0=>
   simp at D H;subst D;subst H;refine⟨rfl,λx a af m o=>?_⟩
   match x with
   | 0=>simp[Ω.cells] at m o;subst m;subst o;exact .same _
   | 1=>simp[Ω.cells] at m o;subst m;subst o;exact .same _
   | 2=>simp[Ω.cells] at m o;subst m;subst o;exact .nil
   | x+3=>simp[Ω.cells] at m
  | i+1=>simp at D
 have aa:(σ++[YY (.sl true 0 []) (.sl true 0 []) (.sl true 0 []),YY (ν s.Ι) (ξ s.Δ) (.sl true 0 [])]).length=n+2:=by simp[<-f]
 refine W.A' 60 1 (i:=n+1) (r:=YY (ν s.Ι) (ξ s.Δ) (.sl true 0 [])) (r':=YY (ν s.Ι) (ξ s.Δ) (.ms (n+2) 0 0 0)) (by rw[d];rfl) (by rw[aa];exact Z) [(1,.Θ [ν s.Ι,ξ s.Δ,Z2 s.cells]),(2,.Κ n 1 0 0),(3,.Κ (n+1) 1 0 0)] (λp g=>by
  simp only[Y6,Ya,or_false] at g;rcases g with rfl|rfl|rfl<;>exact .same _) ?_
 rw[v,Vi];refine Τ ?_;refine W.iter (λi:Nat=>i<=s.cells.length) (λi=>[(1,.Θ [ν s.Ι,ξ s.Δ,Z2 s.cells]),(2,.Κ n 1 0 0),(3,.Κ (n+1) 1 0 0),(4,J i)])
  (λi=>σ++(YY (.sl true 0 []) (.sl true 0 []) (.sl true 0 [])::YY (ν s.Ι) (ξ s.Δ) (.ms (n+2) i 0 i)::.cells 60 1 (Yh (n+3) (s.cells.take i))::WS (s.cells.take i))) (λi=>s.cells.length-i) 0 (χ _) (by simp[Yh,WS]) I (λi hi w=>?_)
 refine Τ ?_;refine W.Yv rfl (λc=>?_) (λc=>?_)
 .have c:i<s.cells.length:=by simpa using c
  have g:s.cells[i].length<2 ^ 30:=X _ (YF c)
  have K:s.cells.take (i+1)=s.cells.take i++[s.cells[i]]:=We c
  have ab:=X5 c (show s.cells.length<2 ^ 62 by omega)
  have L:=δ c;obtain⟨l,M⟩:=Η (s.cells[i]);have T:∀h,s.cells[i]'h=l:=λh=>M.symm;rw[<-M] at K L g;have N:(Yh (n+3) (s.cells.take i)).length=i:=by rw[NP,SY];omega
  have O:(WS (s.cells.take i)).length=i:=by unfold WS;rw[Yp,SY];omega
  have E:=A9 (n+3) (s.cells.take i) l
  have P:WS (s.cells.take i++[l])=WS (s.cells.take i)++[.cells 28 3 (l.map Zv)]:=by simp[WS]
  have ad:(s.cells.take i).length=i:=by rw[SY];omega
  rw[ad] at E;rw[<-K] at E P;have w:=w (i+1) c U;rw[E,P] at w;obtain⟨u,C⟩:=Η (Yh (n+3) (s.cells.take i));obtain⟨R,F⟩:=Η (WS (s.cells.take i));rw[<-C] at N w ⊢;rw[<-F] at O w ⊢;clear C F E P K M;have ag:∀x,(σ++(YY (.sl true 0 []) (.sl true 0 []) (.sl true 0 [])::YY (ν s.Ι) (ξ s.Δ) (.ms (n+2) (i+1) 0 (i+1))::.cells 60 1 (u++[x])::R))[n+2]?=some (.cells 60 1 (u++[x])):=λx=>by rw[d];rfl
  repeat apply Ξ
  refine W.qn [0,1] [8,9] [n+1] (A:=[28,30]) Ρ mixed λS B=>?_;simp[f.symm,d,t,v,y,c,L,T,N,O]
  repeat (rw[qt];simp[qv,seen,Qn,f.symm,d,t,v,y,c,L,T,N,O])
  try rw[qu]
  refine⟨U,U,DN (by kernel_rfl),B _ _ ?_⟩;refine Τ ?_;refine W.to w ?_ (by simp[ab]);simp;omega
 .have c:i=s.cells.length:=by simp at c;omega
  subst c;refine W.exit rfl ?_;rw[OI];obtain⟨u,C⟩:=Η (Yh (n+3) s.cells);obtain⟨R,F⟩:=Η (WS s.cells);have V:u.length<=s.cells.length:=by rw[C,NP];exact γ _
  rw[<-C,<-F]
  repeat apply Ξ
  refine W.XV (A:=[]) Ρ [(2,.Κ n 1 0 0)] (σ++(YY (ν s.Ι) (ξ s.Δ) (.ms (n+2) s.cells.length 0 s.cells.length)::YY (ν s.Ι) (ξ s.Δ) (.ms (n+2) s.cells.length 0 s.cells.length)::.cells 60 1 u::R)) ?_ (by
   (try simp);(repeat (rw[Ν];simp[f.symm,d,t,v,y,V]));(try simp[f.symm,d,t,v,y,V]))
  refine W.PB (σ':=σ++(YY (ν s.Ι) (ξ s.Δ) (.ms (n+2) s.cells.length 0 s.cells.length)::.dead::.cells 60 1 u::R)) (id:=n+1) U (by rw[d];rfl) I (by rw[d];rfl) (λj r Q b=>⟨r,?_,.inl rfl⟩) [(2,.Κ n 1 0 0)] (λp g=>by simp at g;subst g;exact .same _) ?_
  .by_cases e:j<n
   .rw[YK U] at b ⊢;exact b
   .obtain⟨k,rfl⟩:∃k,j=n+k:=⟨j-n,U⟩;rw[d] at b ⊢
    match k,Q,b with
    | 0,_,b=>exact b
    | 1,h,_=>exact absurd rfl h
    | k+2,_,b=>exact b
  refine W.PB (σ':=σ++(.dead::.dead::.cells 60 1 u::R)) (id:=n) U (by rw[t];rfl) I (by rw[t];rfl) (λj r Q b=>⟨r,?_,.inl rfl⟩) [(2,.Θ [ν s.Ι,ξ s.Δ,.ms (n+2) s.cells.length 0 s.cells.length])] (λp g=>by simp at g;subst g;exact .Κ (e:=.ZT [ν s.Ι,ξ s.Δ,.ms (n+2) s.cells.length 0 s.cells.length]) rfl) ?_
  .by_cases e:j<n
   .rw[YK U] at b ⊢;exact b
   .obtain⟨k,rfl⟩:∃k,j=n+k:=⟨j-n,U⟩;rw[d] at b ⊢
    match k,Q,b with
    | 0,h,_=>exact absurd rfl h
    | k+1,_,b=>exact b
  exact W.ret ⟨_,rfl,rfl,rfl⟩
theorem qj (s:ψ) (h:s.small) {σ:Ο} {K E:Ω->Ο->Prop} {b:Ω} (c:Zh b (Yz s)) (f:ς 0 b) (d:K (.ZT [ν s.Ι,ξ s.Δ,.ms (σ.length+2) s.cells.length 0 s.cells.length]) (σ++(.dead::.dead::.cells 60 1 (Yh (σ.length+3) s.cells)::WS s.cells))) :
  WA Tryz.prog (.fn (.func 25) [] []) [b] σ K E:=
 Μ.call (first:=[]) (captured:=[]) (Μ.mono (Μ.T' (qk s h σ) (ZM.cons c .nil) (K':=λa r=>a=.ZT [ν s.Ι,ξ s.Δ,.ms (σ.length+2) s.cells.length 0 s.cells.length]/\r=σ++(.dead::.dead::.cells 60 1 (Yh (σ.length+3) s.cells)::WS s.cells)) (λa s h=>⟨_,.refl _,h⟩)) (λa r ⟨e,Φ⟩=>by rw[e,Φ];exact d) (λa s h=>h.elim))
theorem qi:∀k<256,PQ ⟨#[UInt8.ofNat k]⟩=false->97<=k/\k<=122:=by decide +kernel
theorem qh {n:ByteArray} (h:PQ n=false):∃b:UInt8,n=⟨#[b]⟩/\97<=b.toNat/\b.toNat<=122:=by
 have c:n.size=1:=by
  unfold PQ at h;simp only[Bool.or_eq_false_iff] at h;have:=h.1.1;simpa using this
 obtain⟨d⟩:=n;have hd:d=#[d[0]'(by show 0<ByteArray.size ⟨d⟩;omega)]:=by
  apply Array.ext
  .exact c
  .intro i e a;have:i=0:=by simp at a;exact a
   subst this;rfl
 generalize d[0]'_=b at hd;subst hd;refine⟨b,rfl,qi b.toNat b.toNat_lt ?_⟩;rw[UInt8.ofNat_toNat];exact h
def NO (n:ByteArray):Int:=((n.data.toList.headD 0).toNat:Nat)
theorem qg {b:UInt8} (h:b.toNat<128):Utf8.decode ⟨#[b]⟩ 0=(b.toNat,1):=by
 unfold Utf8.decode;have e:(ByteArray.get! ⟨#[b]⟩ 0)=b:=rfl;simp only[Nat.add_zero,e];rw[if_pos h]
theorem qf {b:UInt8} (h:b.toNat<128):(Conv.runesFrom ⟨#[b]⟩ (ByteArray.size ⟨#[b]⟩) 0 #[])[0]?=some (.int .i32 (NO ⟨#[b]⟩)):=by
 have e:ByteArray.size ⟨#[b]⟩=1:=rfl;rw[e,Conv.runesFrom,if_pos (by rw[e];omega),qg h];rfl
theorem AG {s:ψ} (h:Yd s) (a:Z1 s≠[]) (lower:Bool):GH s (Z1 s) lower NO 255 where
 Ut:=(NR h a lower).Ut
 cells:=(NR h a lower).cells
 some c d:=⟨(NR h a lower).some c d |>.1,(NR h a lower).some c d |>.2,qw d a,by have:=Fz (lower:=lower) d;have:=h.Ι.hi;omega,λx e=>(FA d e).2⟩
 name g f:=by
  obtain⟨b,i,j,k⟩:=qh (h.Ι.each g f).1;rw[i];exact qf U
end Go.TL
namespace Go.TL
open Go.Proofs
section
variable [ZX]
theorem AF (L:List (List Zw)) (c:Nat) (x:List Zw):WS (L.set c x)=(WS L).set c (.cells 28 3 (x.map Zv)):=by
 unfold WS;rw[Pw]
theorem AE (L:List (List Zw)) (c:Nat):(WS L)[c]?=L[c]?.map λl=>.cells 28 3 (l.map Zv):=by unfold WS;rw[YU]
theorem KP (L:List (List Zw)):(WS L).length=L.length:=by unfold WS;rw[Yp]
theorem qe {h b id:Nat} {σ:Ο} {L:List (List Zw)} (d:h<=b) (e:h<=id) (g:∀(j:Nat) (l:List Zw),L[j]?=some l->σ[b+j]?=some (.cells 28 3 (l.map Zv))) (i:σ[id]?=some (.cells 60 1 (Yh b L))):Ym h σ (.ms id L.length 0 L.length) (Z2 L):=
 A7 (f:=Zv) d e g i λp a c=>by
  simp[Ω.cells] at c;rcases c with rfl|rfl|rfl<;>simp
end
end Go.TL
namespace Go.TL
open Go.Proofs
variable [ZX]
def ψ.UC (s:ψ) (a:List (List Zw)):ψ:=⟨s.Ι,s.Δ,a⟩
def Qm (s:ψ) (a:List (List Zw)):Prop:=a.length=s.cells.length/\∀(c:Nat) (l b:List Zw),s.cells[c]?=some l->a[c]?=some b->b.Perm l
theorem Fb {s:ψ} (h:Yd s) {a:List (List Zw)} (b:Qm s a):Yd (s.UC a) where
 Ι:=h.Ι
 Δ:=h.Δ
 many:=by show a.length<=4;rw[b.1];exact h.many
 cells l g:=by
  obtain⟨j,i,rfl⟩:=OO g;have e:j<a.length:=i;have f:j<s.cells.length:=by rw[<-b.1];exact e
  have c:=b.2 j _ _ (δ f) (δ e)
  have d:=h.cells _ (YF f);exact⟨by rw[show(s.UC a).cells[j].length=s.cells[j].length from c.length_eq];exact d.hi,(c.map _).nodup_iff.2 d.apart,λp k=>d.each p (c.mem_iff.1 k)⟩
theorem qd {s:ψ} {a:List (List Zw)} (b:Qm s a) (p r:Int×Int) (c:Nat):(s.UC a).Uu p r c=s.Uu p r c:=by
 unfold ψ.Uu;show((a[c]?).getD []).all (s.VB p r)=((s.cells[c]?).getD []).all (s.VB p r);by_cases d:c<s.cells.length
 .have f:c<a.length:=by rw[b.1];exact d
  rw[δ d,δ f];have g:=b.2 c _ _ (δ d) (δ f);rw[Q6,WQ,WQ];exact⟨λh x e=>h x (g.mem_iff.2 e),λh x e=>h x (g.mem_iff.1 e)⟩
 .have i:s.cells[c]?=none:=Wu U
  have Φ:a[c]?=none:=Wu (by rw[b.1];omega);rw[i,Φ]
theorem qc {s:ψ} {a:List (List Zw)} (b:Qm s a):Z1 (s.UC a)=Z1 s:=by
 have d:∀p,X3 (s.UC a) p=X3 s p:=λp=>by
  funext c
  unfold X3;show(Rw s.Ι.length).filter _=(Rw s.Ι.length).filter _;exact Kv λr _=>qd b p r c
 have e:∀p,YX (s.UC a) p=YX s p:=λp=>by
  unfold YX;rw[d];show Found.mk _ _ ((List.range a.length).map _)=Found.mk _ _ ((List.range s.cells.length).map _);rw[b.1]
 unfold Z1;have:WH (s.UC a)=WH s:=by
  funext k
  unfold WH;rw[e]
 rw[this]
theorem Fa {s:ψ} (h:Yd s) {a:List (List Zw)} (b:Qm s a) (F:List Found):(Yr (s.UC a) true F).2.2=(Yr s true F).2.2:=by
 unfold Yr;rw[(Fb h b).err,h.err];simp only[ne_eq,not_true_eq_false,if_false,true_and];split<;>rfl
theorem AD {s:ψ} (h:Yd s) {a:List (List Zw)} (b:Qm s a) (F:List Found) (c:Int):(Xp (s.UC a) c F).2.2=(Xp s c F).2.2:=by
 unfold Xp;rw[(Fb h b).err,h.err];show(if _ then _ else if c<0\/(a.length:Int)<=c then _ else _:ψ×List Found×Int).2.2=_;rw[b.1];simp only[ne_eq,not_true_eq_false,if_false];split
 .rfl
 .exact Fa h b F
theorem qb {s:ψ} (h:Yd s) {a:List (List Zw)} (b:Qm s a) (F:List Found) (lower:Bool):R6 (s.UC a) F lower NO=R6 s F lower NO:=by
 unfold R6;rw[Fa h b];show(if _ then(spell (S8 (s.UC a) _ _ _ a.length),(0:Int)) else _)=(if _ then(spell (S8 s _ _ _ s.cells.length),(0:Int)) else _);rw[b.1];rfl
theorem qa {s:ψ} (h:Yd s) {a:List (List Zw)} (b:Qm s a) (F:List Found):SC (s.UC a) F=SC s F:=by
 have e:Rv (s.UC a) F (s.UC a).cells.length=Rv s F s.cells.length:=by
  show Rv (s.UC a) F a.length=_;rw[b.1];rfl
 unfold SC;rw[Fa h b,e]
theorem p' {s:ψ} (h:Yd s) {a:List (List Zw)} (b:Qm s a) (F:List Found) (c:Int) (lower:Bool):S3 (s.UC a) F c lower=S3 s F c lower:=by
 unfold S3;rw[AD h b];rfl
theorem p9 {s:ψ} (h:Yd s) {a:List (List Zw)} (b:Qm s a) (F:List Found) (c:Int):Sv (s.UC a) F c=Sv s F c:=by
 unfold Sv;rw[AD h b]
theorem p8 {l m:List Zw} {b:List Int} (f:m.length=l.length) (c:b.Perm ((List.range l.length).map λ(i:Nat)=>(i:Int))) (h:∀(j:Nat) (x:Int),b[j]?=some x->m[x.toNat]?=l[j]?):m.Perm l:=by
 have g:b.length=l.length:=by rw[c.length_eq];simp
 have e:b.map (λx:Int=>m[x.toNat]?)=l.map some:=by
  refine VJ λj=>?_;rw[YU,YU];cases a:b[j]? with
  | none=>
   have:l[j]?=none:=Wu (by have:=List.getElem?_eq_none_iff.1 a;omega);rw[this];rfl
  | some x=>
   have k:=(ZA.1 a).1;rw[Option.map_some,h j x a,δ (show j<l.length by omega)];rfl
 have Φ:((List.range l.length).map λ(i:Nat)=>(i:Int)).map (λx:Int=>m[x.toNat]?)=m.map some:=by
  refine VJ λj=>?_;rw[Sq,YU,YU];by_cases a:j<l.length
  .rw[Q8 a,δ (show j<m.length by omega)];simp
  .rw[Wu (by simpa using a),Wu U];rfl
 have d:=c.map (λx:Int=>m[x.toNat]?);rw[e,Φ] at d;have:=d.filterMap id;simpa using this.symm
theorem p7 {s:ψ} (e:s.Δ.length<=4) (F:List Found) (c:Int) (lower:Bool):(S3 s F c lower).1.length<=4:=by
 unfold S3;split
 .simp
 .cases b:(V2 s.Δ.length 0).find? (Ru s F c.toNat lower) with
  | none=>simp
  | some l=>
   have a:=List.mem_of_find?_eq_some b;rw[qx _ U] at a;obtain⟨i,hi,d⟩:=Qf.1 a;have:=AN _ _ _ d;have:=Ws.1 hi;simp;omega
theorem p6 {s:ψ} (h:Yd s) {c:Nat} (a:c<s.cells.length):(Sv s (Z1 s) c).1.length<=255:=by
 rw[Fy h a];by_cases q:Z1 s=[]
 .rw[if_pos q];simp
 .rw[if_neg q];exact X' (Fx _ _) (KS h q a).2.2.2
end Go.TL
namespace Go.TL
open Go.Proofs
theorem p5 (l:List Int) (br:l.length<2 ^ 63):@W Uq Tryz.prog 0 232 [.code (Tryz.f14.body.getD .skip)] (entry 0 [Z9 J 1 l]) [] (λj env _=>(∃k,j=.code .ret::k)/\Z7 env 2=Z4 true) (λ_ _ _=>False):=by
 letI:ZX:=Uq;show W Tryz.prog 0 232 [.code _] _ _ _ _;refine W.seq ?_
 repeat apply Ξ
 refine VT ?_;refine Z' λo n=>?_;refine Μ.call (first:=[]) (captured:=[]) ((FE l).mono (λa s ⟨E,D⟩=>?_) (λ_ _ h=>h.elim));subst E;subst D;simp;(repeat (rw[Ν];simp));apply n;have aX:(⟨l,1⟩:Zk).Z0.length<2 ^ 63:=br;generalize (⟨l,1⟩:Zk)=d0 at aX
 repeat apply Ξ
 refine Y4 (A:=[4]) Ρ λo n=>Z6 ?_;refine RS.c (Bb d0 aX 4 3 ZY ZY ZY) 0 rfl (ZM.refl _) I (by
  rintro r ⟨s,rfl,_⟩;simp[YG,Ω.cells]) ?_
 rintro r d1 ⟨s,rfl,v,bT,_⟩ bU;simp;(repeat (rw[Ν];simp));apply n;clear n o;refine W.U9 (σ0:=[ZH d1]) (χ _) (λr ag=>by simp at ag;subst ag;exact TA d1 _) (λa aY=>by simp[Ω.cells] at aY;rcases aY with rfl|rfl|rfl<;>simp[YG,Ω.cells]) [(3,.Κ 0 1 0 0),(4,.Θ [ν s.Ι,ξ s.Δ,Z2 s.cells])] (by simp[WV,Ω.cells,YG]) ?_;have T:=v.small;have bs:=v.many;have bt:d1.Z0.length<2 ^ 63:=U;obtain⟨nc,M⟩:=Η s.cells.length;rw[<-M] at bs;refine Y1 ?_;refine Y4 (A:=[5]) Ρ λo n=>Z6 ?_;refine qj s T (.refl _) (by simp[Ω.cells,YG]) ?_;simp[NP,KP]
 repeat (rw[Ν];simp[NP,KP])
 try rw[Td]
 apply n;obtain⟨N,aH⟩:=Η (YY (ν s.Ι) (ξ s.Δ) (.ms 3 nc 0 nc));obtain⟨aI,ar⟩:=Η ([ν s.Ι,ξ s.Δ,Z2 s.cells]);refine W.to (σ':=ZH d1::.dead::.dead::.cells 60 1 (Yh 4 s.cells)::(WS s.cells++[N])) (env':=[(3,.Κ 0 1 0 0),(4,.Θ aI),(5,.Κ (nc+4) 1 0 0)]) ?_ (by rw[aH];simp[M]) (by simp[M,ar,KP]);refine Τ ?_;refine W.iter (λq:Nat×Zk×List (List Zw)=>q.1<=nc/\q.2.1.Z0.length<2 ^ 63/\Qm s q.2.2) (λq=>[(3,.Κ 0 1 0 0),(4,.Θ aI),(5,.Κ (nc+4) 1 0 0),(6,J q.1)])
  (λq=>ZH q.2.1::.dead::.dead::.cells 60 1 (Yh 4 q.2.2)::(WS q.2.2++[N])) (λq=>nc-q.1) (0,d1,s.cells) ⟨χ _,bt,rfl,λc l aZ E D=>by rw[E] at D;cases D;exact .refl _⟩ rfl I (λq Q au=>?_)
 obtain⟨c,d,u⟩:=q;obtain⟨bu,a0,K⟩:=Q;simp only at bu a0 K;refine W.to (σ':=ZH d::.dead::.dead::.cells 60 1 (Yh 4 u)::(WS u++[N])) (env':=[(3,.Κ 0 1 0 0),(4,.Θ aI),(5,.Κ (nc+4) 1 0 0),(6,J c)]) ?_ rfl I;have aJ:u.length=nc:=by rw[K.1,M]
 have av:(Yh 4 u).length=nc:=by rw[NP,aJ]
 have ah:(WS u).length=nc:=by rw[KP,aJ]
 by_cases ai:c<nc
 case neg=>
  have g:¬(c:Int)<(nc:Int):=U;rw[ar];(repeat (first|apply Ξ|(refine Y9 λo n=>?_;simp;(repeat (rw[Ν];simp[M.symm,g]));apply n)));refine Ζ I ?_;refine W.exit rfl ?_;have a1:(WS u++[N])[nc]?=some (YY (ν s.Ι) (ξ s.Δ) (.ms 3 nc 0 nc)):=by rw[W8 U,ah,Q5,aH];rfl
  refine W.cut 1 (χ _) [(4,.Θ [ν s.Ι,ξ s.Δ,Z2 s.cells]),(5,.Θ [ν s.Ι,ξ s.Δ,Z2 u])] I (λid r bV ag=>by
   obtain rfl:id=0:=U;simp at ag;subst ag;exact TA d _) (λq Q=>by
   simp only[Y6,Ya,or_false] at Q;rcases Q with rfl|rfl
   .exact .low (by simp[Ω.cells,YG])
   .refine Ym.struct (id:=nc+4) (t:=26) (k:=3) (l:=[ν s.Ι,ξ s.Δ,.ms 3 nc 0 nc]) U (by simp[a1]) rfl (λy a bW E D=>?_)
    match y with
    | 0=>simp at E D;subst E;subst D;exact .low (by simp[Ω.cells,YG])
    | 1=>simp at E D;subst E;subst D;exact .low (by simp[Ω.cells,YG])
    | 2=>
     simp at E D;subst E;subst D;have:=qe (h:=1) (b:=4) (id:=3) (σ:=ZH d::.dead::.dead::.cells 60 1 (Yh 4 u)::(WS u++[N])) (L:=u) ZY ZY (λj l S=>by
      have bv:j<(WS u).length:=by rw[KP];exact(ZA.1 S).1
      rw[show 4+j=j+4 by omega];simp only[List.getElem?_cons_succ];rw[YK bv,AE,S];rfl) rfl
     rw[aJ] at this;exact this
    | y+3=>simp at E) ?_
  have H:=Fb v K
  have V:=qc K
  have a2:=λF=>qb v K F true
  have a3:=qa v K
  have a4:=λF c=>p' v K F c true
  have a5:=p9 v K;obtain⟨C,aj⟩:=Η (s.UC u);have a6:[ν s.Ι,ξ s.Δ,Z2 u]=[ν C.Ι,ξ C.Δ,Z2 C.cells]:=by rw[aj];rfl
  have bw:C.cells.length=s.cells.length:=by rw[aj];exact K.1
  have bx:C.Δ.length<=4:=by rw[aj];exact v.Δ.hi
  rw[a6];rw[List.take_succ_cons,List.take_zero];rw[<-aj] at H V a2 a3 a4 a5;clear a6 aj a1 av ah au;have a7:=v.err;have a8:=H.err;have X:=KU v;have Y:=KU H;have a9:∀{s:ψ},(Yr s true (Z1 s)).2.2=0->s.err=0->Z1 s≠[]:=λ{s} h bz bA=>by
   unfold Yr at h;rw[bA,bz] at h;simp at h
  have aw:=Fp s T (Z1 s) X (Fo v) (by rw[Mr];have:=KR v 3;omega)
  have ax:=Fp C H.small (Z1 C) Y (Fo H) (by rw[Mr];have:=KR H 3;omega)
  have ay:=Lu s T (Z1 s) X (by have:=Re s;omega)
  have az:=Lu C H.small (Z1 C) Y (by have:=Re C;omega)
  have a':=GG s T _ X true NO 255 ZY HX (λh=>AG v (a9 h a7) true)
  have aK:=GG C H.small _ Y true NO 255 ZY HX (λh=>AG H (a9 h a8) true)
  have ba:=GF s T _ X (HP v)
  have aL:=GF C H.small _ Y (HP H)
  have ak:=λ(c:Nat)=>F5 s T _ X (HP v) c true v.Δ.hi
  have Z:=λ(c:Nat)=>F5 C H.small _ Y (HP H) c true bx
  have al:=λ(c:Nat) (aa:c<s.cells.length)=>HU v aa X
  have ab:=λ(c:Nat) (aa:c<s.cells.length)=>HU H (c:=c) (by rw[bw];exact aa) Y
  have aA:=λ(c:Nat) (aa:c<s.cells.length)=>p6 v aa
  have aB:=λ(c:Nat)=>p7 v.Δ.hi (Z1 s) c true
  have bB:(W0 (Z1 s)).length<=3:=by simpa[W0] using Re s
  have bb:∀y∈W0 (Z1 s),y.length<2 ^ 40:=λy O=>by
   obtain⟨f,_,rfl⟩:=Zq.1 O;simp
  rw[a7] at aw ay;rw[a8,V] at ax az;rw[V,a2] at aK;rw[V,a3] at aL;simp only[V,a4] at Z;simp only[V,a5] at ab;simp only[if_true] at aw ax ay az;have aM:=I6 (W0 (Z1 s)) (W0 (Z1 s)) U bb;generalize W1 (Z1 s)=bX at aw ax;generalize W0 (Z1 s)=bY at ay az aM bB bb;generalize R6 s (Z1 s) true NO=B at a' aK;generalize SC s (Z1 s)=bC at ba aL;generalize Z1 s=F at *;obtain⟨B,bZ⟩:=B;obtain⟨b0,b1,b2,b3⟩:=bC;simp only[beq_self_eq_true] at aM;refine Z' λo n=>?_;refine Ε.d (aw) (Z6 ?_);apply n;refine Z' λo n=>?_;refine Ε.d (ax) (Z6 ?_);apply n;refine Z' λo n=>?_;refine Ε.d (ay) (Z6 ?_);apply n;refine Z' λo n=>?_;refine Ε.d (az) (Z6 ?_);apply n;refine Z' λo n=>?_;refine Ε.d (a') (Z6 ?_);apply n;refine Z' λo n=>?_;refine Ε.d (aK) (Z6 ?_);apply n;refine Z' λo n=>?_;refine Ε.d (aM) (Z6 ?_);apply n;refine Ζ I ?_;refine Z' λo n=>?_;refine Ε.d (ba) (Z6 ?_);apply n;refine Z' λo n=>?_;refine Ε.d (aL) (Z6 ?_);apply n;refine Τ ?_;refine Ζ I ?_;refine Τ ?_;obtain⟨b4,b5⟩:=Η ([ν s.Ι,ξ s.Δ,Z2 s.cells]);obtain⟨b6,b7⟩:=Η ([ν C.Ι,ξ C.Δ,Z2 C.cells]);refine W.iter (λc:Nat=>c<=nc) (λc=>[(4,.Θ [ν s.Ι,ξ s.Δ,Z2 s.cells]),(5,.Θ [ν C.Ι,ξ C.Δ,Z2 C.cells]),(27,J c)]) (λ_=>[ZH d]) (λc=>nc-c) 0 (χ _) rfl I (λc aa au=>?_);by_cases ai:c<nc
  case neg=>
   have g:¬(c:Int)<(nc:Int):=U;(repeat (first|apply Ξ|(refine Y9 λo n=>?_;simp;(repeat (rw[Ν];simp[M.symm,g]));apply n)));refine Ζ I ?_;refine W.exit rfl ?_;refine Z' λo n=>?_;refine Ε.d (FZ) (Z6 ?_);apply n;exact W.stop ⟨⟨_,rfl⟩,rfl⟩
  have g:(c:Int)<(nc:Int):=U
  have am:c<s.cells.length:=U
  have an:=Yt (i:=c) U
  have al:=al c am
  have ab:=ab c am
  have ak:=ak c
  have Z:=Z c
  have aA:=aA c am
  have aB:=aB c;generalize Sv s F c=bD at al ab aA;generalize S3 s F c true=bE at ak Z aB;obtain⟨aC,b8⟩:=bD;obtain⟨bc,Φ⟩:=bE;simp only at al ab ak Z aA aB;have bd:=I6 (aC.map λx=>[x.1,x.2]) (aC.map λx=>[x.1,x.2]) (by rw[Yp];omega) (λy O=>by
   obtain⟨x,_,rfl⟩:=Zq.1 O;simp)
  have be:=LF bc bc U;simp only[beq_self_eq_true] at bd be;(repeat (first|apply Ξ|(refine Y9 λo n=>?_;simp;(repeat (rw[Ν];simp[M.symm,g]));apply n)));refine Α I ?_;refine Z' λo n=>?_;refine Ε.d (al) (Z6 ?_);apply n;refine Z' λo n=>?_;refine Ε.d (ab) (Z6 ?_);apply n;refine Z' λo n=>?_;refine Ε.d (ak) (Z6 ?_);apply n;refine Z' λo n=>?_;refine Ε.d (Z) (Z6 ?_);apply n;refine Z' λo n=>?_;refine Ε.c bd (.cons (Ff aC) (.cons (Ff aC) .nil)) (by simp[YG,Ω.cells]) I ?_;simp;(repeat (rw[Ν];simp));refine Ε.d (be) (Z6 ?_);apply n;refine Ζ I ?_;refine Γ an ?_;exact W.to (au (c+1) U U) rfl (by simp[an])
 have g:(c:Int)<(nc:Int):=U
 have am:c<s.cells.length:=U
 have an:=Yt (i:=c) U
 have ad:=δ am;obtain⟨P,bf⟩:=Η (s.cells[c]);have bg:∀h,s.cells[c]'h=P:=λh=>bf.symm;rw[<-bf] at ad;have b9:=(v.cells P (Zi ad)).hi;obtain⟨aN,aO⟩:∃x,u[c]?=some x:=⟨_,δ U⟩;have bF:=(K.2 c P aN ad aO).length_eq;obtain⟨p,aD⟩:=Η P.length;have bh:=H9 d a0 p U;have aE:=K3 d p;have aP:∀x∈(Xb d p).1,0<=x/\x<p:=λx h=>H4 h;have bi:=H3 d p;have bG:=K4 d p;have bj:=FH d p;obtain⟨ao,bk⟩:=ZG ((Xb d p).1);obtain⟨aQ,bl⟩:=ZG ((Xb d p).2);rw[bk,bl] at bh;rw[bk] at aE aP bi bj;rw[bl] at bG;have bH:aQ.Z0.length<2 ^ 63:=U;have ap:(Yh 4 u)[c]?=some (.ms (c+4) p 0 p):=by rw[Fl,aO,OG,aD,<-bF];rfl
 have bm:∀m:List Zw,m.length=p->Yh 4 (u.set c m)=Yh 4 u:=λm aR=>by
  rw[A8,aR];refine VJ λk=>?_;by_cases e:c=k
  .subst e;rw[Xa (by rw[av];exact ai),ap,OG]
  .rw[WR e]
 have ae:=λ(m:List Zw) (aR:m.Perm P)=>au (c+1,aQ,u.set c m) ⟨by simp only;omega,bH,by rw[RP];exact K.1,λj l aZ E D=>by
  by_cases e:c=j
  .subst e;rw[ad] at E;cases E;rw[Xa U] at D;cases D;exact aR
  .rw[WR e] at D;exact K.2 j l aZ E D⟩ (by simp only;omega)
 have aS:WS (u.set c aN)=WS u:=by
  rw[AF];refine VJ λk=>?_;by_cases e:c=k
  .subst e;rw[Xa (by rw[ah];exact ai),AE,aO];rfl
  .rw[WR e]
 rw[ar];(repeat (first|apply Ξ|(refine Y9 λo n=>?_;simp;(repeat (rw[Ν];simp[M.symm,g]));apply n)));refine Α I ?_;(repeat apply Ξ);refine Y9 λo n=>?_;simp;(repeat (rw[Ν];simp[M.symm,ad,bg,ai,aD.symm]));refine YM.g (bh) (Z6 ?_);apply n;refine Τ ?_;simp only[AF] at ae aS;obtain⟨bn,bo⟩:=Η (Yh 4 u);obtain⟨R,bp⟩:=Η (WS u);rw[<-bo] at av ap bm ⊢;rw[<-bp] at ah ae aS ⊢;clear bo bp;have bI:∀h,bn[c]'h=.ms (c+4) p 0 p:=λh=>by rw[δ h] at ap;exact Xk ap
 have bJ:∀(w:Row),(R.set c w++[N])[nc]?=some (YY (ν s.Ι) (ξ s.Δ) (.ms 3 nc 0 nc)):=λw=>by rw[W8 (by rw[RP];omega),RP,ah,Q5,aH];rfl
 have bK:∀(w:Row),(R.set c w++[N])[c]?=some w:=λw=>by rw[YK (by rw[RP];omega),Xa U]
 have bL:∀(w w':Row),(R.set c w++[N]).set c w'=R.set c w'++[N]:=λw w'=>by rw[List.set_append_left _ _ (by rw[RP];omega),List.set_set]
 refine W.iter (λq:Nat×List Zw=>q.1<=p/\q.2.length=p/\∀(j:Nat) (x:Int),j<q.1->ao[j]?=some x->q.2[x.toNat]?=P[j]?) (λq=>[(3,.Κ 0 1 0 0),(4,.Θ [ν s.Ι,ξ s.Δ,Z2 s.cells]),(5,.Κ (nc+4) 1 0 0),(6,J c),(7,Z9 J 1 ao),(8,J q.1)])
  (λq=>ZH aQ::.dead::.dead::.cells 60 1 bn::(R.set c (.cells 28 3 (q.2.map Zv))++[N])) (λq=>p-q.1) (0,aN) ⟨χ _,by simp only;omega,λj x h=>by simp only at h;omega⟩ (by rw[aS]) I (λq Q aF=>?_)
 obtain⟨k,m⟩:=q;obtain⟨bM,aq,aT⟩:=Q;simp only at bM aq aT;by_cases bN:k<p
 .have aU:(k:Int)<(p:Int):=U
  have bq:=Yt (i:=k) U
  have aG:=δ (show k<ao.length by omega);obtain⟨x,aV⟩:=Η (ao[k]);have b':=aP x (by rw[aV];exact YF _);rw[<-aV] at aG;obtain⟨af,rfl⟩:∃af:Nat,x=af:=⟨x.toNat,U⟩;have bO:∀h,ao[k]'h=(af:Int):=λh=>aV.symm;have bP:af<p:=U;have aW:=δ (show k<P.length by omega);obtain⟨q,Q⟩:=Η (P[k]);have bQ:∀h,P[k]'h=q:=λh=>Q.symm;rw[<-Q] at aW;have aF:=aF (k+1,m.set af q) ⟨by simp only;omega,by rw[RP];exact aq,λj y S O=>by
   by_cases e:j=k
   .subst e;rw[aG] at O;cases O;rw[Int.toNat_natCast,Xa U,aW]
   .have ca:y≠(af:Int):=λΦ=>e ((List.getElem?_inj (by have:=(ZA.1 O).1;exact this) bi).1 (by rw[O,aG,Φ]))
    have cb:=aP y (Zi O);rw[WR U];exact aT j y (by simp only at S;omega) O⟩ (by simp only;omega)
  rw[Pw] at aF;have cc:(m.map Zv).length=p:=by rw[Yp,aq]
  refine Γ (Υ aE aU) ?_;refine Α I ?_;refine Τ ?_;refine W.draw (A:=[]) Ρ mixed λo n=>?_;simp;(repeat (rw[ZK];simp[M.symm,ad,bg,ai,aW,bQ,aG,bO,aE,bN,av,ap,bI,bJ,bK,bL,bP,aq,aD.symm]));try rw[ZL];refine Y8 (n _ _ ?_)
  refine Γ bq ?_;refine W.to aF ?_ (by simp[bq]);simp[Zv]
 have aU:¬(k:Int)<(p:Int):=U
 have bR:k=p:=U;subst bR;have bS:m.Perm P:=p8 U (by rw[<-aD];exact bj) (λj x S=>aT j x (by have:=(ZA.1 S).1;omega) S);have ae:=ae m bS;rw[bm m aq] at ae;refine Γ (Υ aE aU) ?_;refine Ζ I ?_;refine W.exit rfl ?_;rw[<-ar];refine Γ an ?_;exact W.to ae rfl (by simp[an])
end Go.TL
