import Derived.Carry
import Derived.ChangeSlices
import Derived.Conc.HoldsTime
import Derived.OpenShut
import Derived.Test.YtlabjopijpkiaaaGreatQAF
import Derived.Test.YtlabjopijpkiaaaGreatQAK
import Derived.Test.YtlabjopijpkiaaaGreatQAS
import Derived.Test.YtlabjopijpkiaaaGreatQAZ
import Derived.Test.YtlabjopijpkiaaaGreatRows
set_option maxHeartbeats 16000000
set_option maxRecDepth 20000
set_option linter.unusedSectionVars false
set_option linter.unusedSimpArgs false
set_option linter.unusedVariables false
namespace Go.TL
open Go.Proofs
variable [bh]
structure cm where
 a5:List Int
 state:Int
abbrev MP (n:Int):ζ:=.z (.int .u64 n)
abbrev Yc (d:cm):ζ:=.aR [bC δ 1 d.a5,MP d.state]
abbrev bK (d:cm):Row:=.cells 93 2 [Yc d]
def zc (d:cm):Int:=IntKind.u64.wrap (d.a5.headD 0)
def wx (d:cm):Int:=IntKind.u64.wrap (IntKind.u64.wrap (IntKind.u64.wrap (d.state+(if d.a5=[] then 0 else zc d))+6364136223846793005)*15074714826142052245)
def rh (d:cm):Int:=Aq .u64 (wx d) ((wx d).fdiv (2 ^ min 29 IntKind.u64.bits))
def p9 (d:cm):Int:=(IntKind.u64.wrap (Aq .u64 (rh d) ((rh d).fdiv (2 ^ min 33 IntKind.u64.bits))*18397679294719823053)).fdiv (2 ^ min 32 IntKind.u64.bits)
def cm.next (d:cm):cm:=⟨d.a5.tail,rh d⟩
theorem MQ (l:List (List Int)) (x:List Int) (Β:l.length<2 ^ 62) (ν:∀y∈l,y.length<2 ^ 62):an Tryz.prog 43 [aL l,bC δ 1 x] (bJ (l.contains x)):=by
 refine aC.body Μ Tryz.func43 rfl rfl Tryz.ntmps43 rfl rfl (by simp) ?_;(repeat (first|apply μ|(refine ξ λθ I=>?_;simp;(repeat (rw[ε];simp));apply I)));refine W.iter (λi:Nat=>i<=l.length/\∀j,j<i->(h:j<l.length)->l[j]≠x) (λi=>[(0,aL l),(1,bC δ 1 x),(5,δ i)]) (λ_=>[]) (λi=>l.length-i) 0 ⟨Nat.zero_le _,λj γ=>by omega⟩ rfl (by simp) (λi hi Γ=>?_);(repeat (first|apply μ|(refine ξ λθ I=>?_;simp;(repeat (rw[ε];simp));apply I)));refine W.dR rfl (λη=>?_) (λη=>?_)
 ·have η:i<l.length:=by simpa using η
  (repeat apply μ);refine ξ λθ I=>?_;simp;(repeat (rw[ε];simp[η]));refine an.c (FC l[i] x (ν _ (List.getElem_mem η))) (aE.refl _) (by simp) (by simp) ?_;simp;(repeat (rw[ε];simp));apply I;by_cases Ψ:l[i]=x
  ·refine ax (by simp[Ψ]) ?_;(repeat (first|apply μ|(refine ξ λθ I=>?_;simp;(repeat (rw[ε];simp));apply I)));refine W.ret ⟨_,rfl,?_,rfl⟩;have:x∈l:=Ψ▸List.getElem_mem _;exact .of (by simp[this])
  ·refine au (by simp[Ψ]) ?_;have hw:=eK η Β;(repeat (first|apply μ|(refine ξ λθ I=>?_;simp;(repeat (rw[ε];simp[hw]));apply I)));refine W.forget _ ?_ (Γ (i+1) ⟨by omega,λj γ h=>?_⟩ (by omega))
   ·simp[hw]
   ·by_cases e:j=i
    ·subst e;exact Ψ
    ·exact hi.2 j (by omega) h
 ·have η:i=l.length:=by simp at η;omega
  subst η;refine W.exit rfl ?_;(repeat (first|apply μ|(refine ξ λθ I=>?_;simp;(repeat (rw[ε];simp));apply I)));refine W.ret ⟨_,rfl,?_,rfl⟩;have:¬x∈l:=λh=>by
   obtain⟨j,γ,e⟩:=List.getElem_of_mem h;exact hi.2 j γ γ e
  exact .of (by simp[this])
theorem Yd (d:cm) (hd:d.a5.length<2 ^ 63):aC Tryz.prog 73 [.ae 0 1 0 0] [bK d] (λr s=>r=MP (p9 d)/\s=[bK d.next]) (λ_ _=>False):=by
 obtain⟨l,q⟩:=d;refine aC.body Μ Tryz.func73 rfl rfl Tryz.ntmps73 rfl rfl (by simp) ?_;(repeat (first|apply μ|(refine ξ λθ I=>?_;simp;(repeat (rw[ε];simp));apply I)));cases l with
 | nil=>
  refine au (by simp) ?_;(repeat (first|apply μ|(refine ξ λθ I=>?_;simp;(repeat (rw[ε];simp));apply I)));refine W.draw (A:=[]) Μ mixed λθ I=>?_;simp;(repeat (rw[cz];simp));try rw[cy]
  refine⟨cZ (by kernel_rfl),I _ _ ?_⟩
  repeat apply μ
  refine W.draw (A:=[]) Μ mixed λθ I=>?_;simp;(repeat (rw[cz];simp));try rw[cy]
  refine⟨cZ (by kernel_rfl),I _ _ ?_⟩;(repeat (first|apply μ|(refine ξ λθ I=>?_;simp;(repeat (rw[ε];simp));apply I)));exact W.ret ⟨_,rfl,by simp[p9,rh,wx,zc],by simp[cm.next,rh,wx,zc]⟩
 | cons a l=>
  refine ax (by simp) ?_;(repeat (first|apply μ|(refine ξ λθ I=>?_;simp;(repeat (rw[ε];simp));apply I)));have jT:List.take l.length (l.map δ)=l.map δ:=List.take_of_length_le (by simp);(repeat apply μ);refine ξ λθ I=>?_;simp;(repeat (rw[ε];simp[jT]));refine⟨by omega,?_⟩;apply I;(repeat (first|apply μ|(refine ξ λθ I=>?_;simp;(repeat (rw[ε];simp));apply I)));refine W.draw (A:=[]) Μ mixed λθ I=>?_;simp;(repeat (rw[cz];simp));try rw[cy]
  refine⟨cZ (by kernel_rfl),I _ _ ?_⟩
  repeat apply μ
  refine W.draw (A:=[]) Μ mixed λθ I=>?_;simp;(repeat (rw[cz];simp));try rw[cy]
  refine⟨cZ (by kernel_rfl),I _ _ ?_⟩;(repeat (first|apply μ|(refine ξ λθ I=>?_;simp;(repeat (rw[ε];simp));apply I)));exact W.ret ⟨_,rfl,by simp[p9,rh,wx,zc],by simp[cm.next,rh,wx,zc]⟩
def gM (d:cm) (n:Int):Int:=if n<=0 then 0 else IntKind.i64.wrap ((IntKind.u64.wrap (p9 d*IntKind.u64.wrap (IntKind.i64.wrap (n+1)))).fdiv (2 ^ min 32 IntKind.u64.bits))
def cm.after (d:cm) (n:Int):cm:=if n<=0 then d else d.next
theorem nQ (d:cm):iJ (bK d):=by simp[iJ,ζ.cells]
theorem Hb (d:cm) (hd:d.a5.length<2 ^ 63) (n:Int):aC Tryz.prog 24 [.ae 0 1 0 0,δ n] [bK d] (λr s=>r=δ (gM d n)/\s=[bK (d.after n)]) (λ_ _=>False):=by
 refine aC.body Μ Tryz.func24 rfl rfl Tryz.ntmps24 rfl rfl (by simp) ?_;(repeat (first|apply μ|(refine ξ λθ I=>?_;simp;(repeat (rw[ε];simp));apply I)));by_cases h:n<=0
 ·refine ax (by simp[h]) ?_;(repeat (first|apply μ|(refine ξ λθ I=>?_;simp;(repeat (rw[ε];simp));apply I)));exact W.ret ⟨_,rfl,by simp[gM,h],by simp[cm.after,h]⟩
 ·refine au (by simp[h]) ?_;(repeat (first|apply μ|(refine ξ λθ I=>?_;simp;(repeat (rw[ε];simp));apply I)));(repeat apply μ);refine ξ λθ I=>?_;simp;(repeat (rw[ε];simp));refine aC.one (as0:=[.ae 0 1 0 0]) (Yd d hd) 0 rfl (nQ d) (nQ d.next) (by simp[fH,pH]) ((az.z _).hT 1) rfl ?_;simp[mO];(repeat (rw[ε];simp));apply I;exact W.ret ⟨_,rfl,by simp[gM,h],by simp[cm.after,h]⟩
def nR (d:cm) (a b:Int):Int:=IntKind.i64.wrap (a+gM d (IntKind.i64.wrap (b-a)))
theorem Ye (d:cm) (hd:d.a5.length<2 ^ 63) (a b:Int):aC Tryz.prog 38 [.ae 0 1 0 0,δ a,δ b] [bK d] (λr s=>r=δ (nR d a b)/\s=[bK (d.after (IntKind.i64.wrap (b-a)))]) (λ_ _=>False):=by
 refine aC.body Μ Tryz.func38 rfl rfl Tryz.ntmps38 rfl rfl (by simp) ?_;(repeat (first|apply μ|(refine ξ λθ I=>?_;simp;(repeat (rw[ε];simp));apply I)));(repeat apply μ);refine ξ λθ I=>?_;simp;(repeat (rw[ε];simp));refine aC.one (as0:=[.ae 0 1 0 0,δ (IntKind.i64.wrap (b-a))]) (Hb d hd _) 0 rfl (nQ d) (nQ _) (by simp[fH,pH]) ((az.z _).hT 1) rfl ?_;simp[mO];(repeat (rw[ε];simp));apply I;exact W.ret ⟨_,rfl,rfl,rfl⟩
end Go.TL
namespace Go.TL
open Go.Proofs
theorem Yf (x:Int):0<=IntKind.u64.wrap x/\IntKind.u64.wrap x<18446744073709551616:=by
 unfold IntKind.wrap;simp[IntKind.bits,IntKind.signed];omega
theorem u64_in (x:Int) (h:0<=x) (R:x<18446744073709551616):IntKind.u64.wrap x=x:=by
 unfold IntKind.wrap;simp[IntKind.bits,IntKind.signed];omega
theorem MR:(2:Int) ^ min 32 IntKind.u64.bits=4294967296:=by decide
theorem Yg (d:cm):0<=p9 d/\p9 d<4294967296:=by
 unfold p9;rw[MR];generalize U:IntKind.u64.wrap _=x;have:=Yf (Aq .u64 (rh d) ((rh d).fdiv (2 ^ min 33 IntKind.u64.bits))*18397679294719823053);rw[U] at this;rw[Int.fdiv_eq_ediv_of_nonneg _ (by decide)];omega
theorem p' (d:cm) (n:Int) (af:0<=n) (Ι:n<2147483647):0<=gM d n/\gM d n<=n:=by
 unfold gM;split
 ·omega
 ·obtain⟨r0,r1⟩:=Yg d;rw[MR,IntWalk.i64_in (n+1) (by omega),u64_in (n+1) (by omega) (by omega)];have hm:p9 d*(n+1)<=4294967295*(n+1):=Int.mul_le_mul_of_nonneg_right (by omega) (by omega);have χ:0<=p9 d*(n+1):=Int.mul_nonneg r0 (by omega);generalize p9 d*(n+1)=y at hm χ;rw[u64_in y χ (by omega),Int.fdiv_eq_ediv_of_nonneg _ (by decide),IntWalk.i64_in _ (by omega)];omega
end Go.TL
namespace Go.TL
open Go.Proofs
variable [bh]
def wy (d:cm) (l:List Int):Nat:=(gM d ((l.length:Int)-1)).toNat
theorem Yh (d:cm) (hd:d.a5.length<2 ^ 63) (l:List Int) (af:0<l.length) (Β:l.length<1000000):aC Tryz.prog 61 [.ae 0 1 0 0,bC δ 1 l] [bK d] (λr s=>r=δ (l.getD (wy d l) 0)/\s=[bK (d.after ((l.length:Int)-1))]) (λ_ _=>False):=by
 refine aC.body Μ Tryz.func61 rfl rfl Tryz.ntmps61 rfl rfl (by simp) ?_;have hw:IntKind.i64.wrap ((l.length:Int)-1)=(l.length:Int)-1:=IntWalk.i64_in _ (by omega);obtain⟨t0,t1⟩:=p' d ((l.length:Int)-1) (by omega) (by omega);obtain⟨k,Α⟩:∃k:Nat,gM d ((l.length:Int)-1)=k:=⟨(gM d ((l.length:Int)-1)).toNat,by omega⟩;have h5:k<l.length:=by omega
 have dx:wy d l=k:=by unfold wy;rw[Α];rfl
 (repeat (first|apply μ|(refine ξ λθ I=>?_;simp;(repeat (rw[ε];simp));apply I)));(repeat apply μ);refine ξ λθ I=>?_;simp;(repeat (rw[ε];simp[hw]));refine aC.one (as0:=[.ae 0 1 0 0,δ ((l.length:Int)-1)]) (Hb d hd _) 0 rfl (nQ d) (nQ _) (by simp[fH,pH]) ((az.z _).hT 1) rfl ?_;rw[Α];simp[mO,h5];(repeat (rw[ε];simp[h5]));apply I;exact W.ret ⟨_,rfl,by rw[dx];simp[List.getD_eq_getElem?_getD,h5],rfl⟩
end Go.TL
namespace Go.TL
open Go.Conc
variable [bh]
section
variable {P:Program} {T:aZ} {A:List Nat} {m nt:Nat} {k:List Item} {env:Φ} {σ:List Row} {Z:List Item->Φ->List Row->Prop} {E:ζ->Φ->List Row->Prop} {ops:Array Oper}
def MS (P:Program) (m nt:Nat) (k:List Item) (Z:List Item->Φ->List Row->Prop) (E:ζ->Φ->List Row->Prop) (ops:Array Oper) (i:Nat) (o:Oper) (env:Φ) (r:Row) (a:ζ) (r2:Row):Prop:=
 ∀env' τ rest,ny ops o env env'->W P m nt (.inRegion ops rest::k) (bX o env' a) (r2::τ) Z E->W P m nt (.inRegion ops (i::rest)::k) env' (r::τ) Z E
def StepB (P:Program) (m nt:Nat) (k:List Item) (Z:List Item->Φ->List Row->Prop) (E:ζ->Φ->List Row->Prop) (ops:Array Oper) (i:Nat) (o:Oper) (env:Φ) (τ:List Row) (a:ζ) (Yi:List Row):Prop:=
 ∀env' r rest,ny ops o env env'->W P m nt (.inRegion ops rest::k) (bX o env' a) (r::Yi) Z E->W P m nt (.inRegion ops (i::rest)::k) env' (r::τ) Z E
theorem MT {α:Type} {f:Nat->α} {tags:List Bool} (Bu:∀i o,ops[i]?=some o->writer ops tags i=false->f (i+1)=f i):∀a b,a<=ops.size->b<=ops.size->(∀j,j<ops.size->writer ops tags j=true->(j<a↔j<b))->f a=f b:=by
 have x7:∀(d a:Nat),a+d<=ops.size->(∀j,a<=j->j<a+d->writer ops tags j=false)->f (a+d)=f a:=by
  intro d
  induction d with
  | zero=>intro a _ _;rfl
  | succ d Γ=>
   intro a hle h;have J:ops[a+d]?=some ops[a+d]:=eM (by omega);have:=Bu (a+d) _ J (h (a+d) (by omega) (by omega));rw[show a+(d+1)=a+d+1 by omega,this];exact Γ a (by omega) λj J R=>h j J (by omega)
 intro a b κ hb h;rcases Nat.le_total a b with hle|hle
 ·have:=x7 (b-a) a (by omega) λj J R=>by
   cases Η:writer ops tags j with
   | false=>rfl
   | true=>have:=(h j (by omega) Η).2 (by omega);omega
  rw[show a+(b-a)=b by omega] at this;exact this.symm
 ·have:=x7 (a-b) b (by omega) λj J R=>by
   cases Η:writer ops tags j with
   | false=>rfl
   | true=>have:=(h j (by omega) Η).1 (by omega);omega
  rw[show b+(a-b)=a by omega] at this;exact this
theorem MU {tags:List Bool} (dx:jU ops tags=true):∀i o,ops[i]?=some o->(∀j∈gq o,j<i)/\∀j bI,j<i->ops[j]?=some bI->clash ops tags i j o bI=true->j∈(Bq ops).getD i []:=by
 intro i o ω;have hi:i<ops.size:=(Array.getElem?_eq_some_iff.1 ω).1;unfold jU at dx;simp only[List.all_eq_true,List.mem_range] at dx;have h:=dx i hi;rw[ω] at h;simp only[Bool.and_eq_true,List.all_eq_true,decide_eq_true_eq,List.mem_range] at h;refine⟨h.1,λj bI γ de η=>?_⟩;have R:=h.2 j γ;rw[de] at R;simp only[η,Bool.not_true,Bool.false_or,List.contains_iff_mem] at R;exact R
theorem MV {tags:List Bool}:∀j,writer ops tags j=true->tags.getD j false=true:=λj h=>by
 unfold writer at h;rw[Bool.and_eq_true] at h;exact h.1
theorem MW {tags:List Bool} {i:Nat} {l8:Oper} (l9:tags.getD i false=true):∀j bI,ops[j]?=some bI->writer ops tags j=true->clash ops tags i j l8 bI=true/\clash ops tags j i bI l8=true:=λj bI de Η=>by
 have J:=MV j Η;unfold writer at Η;rw[J,de] at Η;have R:lj bI=false:=by simpa using Η
 unfold clash;rw[J,l9,R];simp
theorem W.Yj {as9:Nat->ζ} {ρs:Nat->Row} {τs:Nat->List Row} {td tb:List Bool} {env0:Φ} (Yk:jU ops td=true) (Yl:jU ops tb=true)
  (k5:∀i o,ops[i]?=some o->td.getD i false=false->tb.getD i false=false->vw P m nt k Z E ops i o (cQ ops env0 as9 (λ_=>true) i) (as9 i))
  (dQ:∀i o,ops[i]?=some o->td.getD i false=true->MS P m nt k Z E ops i o (cQ ops env0 as9 (λ_=>true) i) (ρs i) (as9 i) (ρs (i+1))/\tb.getD i false=false)
  (gT:∀i o,ops[i]?=some o->tb.getD i false=true->StepB P m nt k Z E ops i o (cQ ops env0 as9 (λ_=>true) i) (τs i) (as9 i) (τs (i+1)))
  (Ym:∀i o,ops[i]?=some o->writer ops td i=false->ρs (i+1)=ρs i) (Yn:∀i o,ops[i]?=some o->writer ops tb i=false->τs (i+1)=τs i)
  (Fb:W P m nt (.inRegion ops []::k) (cQ ops env0 as9 (λ_=>true) ops.size) (ρs ops.size::τs ops.size) Z E) :
  ∀(fuel:Nat) (t:Nat) (listed:Array Bool) (env:Φ) (cJ gm:Nat),listed.size=ops.size->
   (∀i,aW env i=aW (cQ ops env0 as9 (λi=>listed.getD i false) ops.size) i)->
   (∀i o,ops[i]?=some o->listed.getD i false=true->∀j∈gq o,listed.getD j false=true)->
   cJ<=ops.size->gm<=ops.size->(∀j,j<ops.size->writer ops td j=true->(listed.getD j false=true↔j<cJ))->(∀j,j<ops.size->writer ops tb j=true->(listed.getD j false=true↔j<gm))->
   ((List.range ops.size).filter λi=>!listed.getD i false).length<=fuel->
   W P m nt (.inRegion ops (Region.linearise.go .any ops fuel t listed [])::k) env (ρs cJ::τs gm) Z E:=by
 have tI:=MU Yk
 have MX:=MU Yl
 have qS:∀i o,ops[i]?=some o->∀j∈gq o,j<i:=λi o ω=>(tI i o ω).1
 have MY:=MT Ym
 have MZ:=MT Yn;intro fuel;have done:∀(t:Nat) (listed:Array Bool) (env:Φ) (cJ gm:Nat),(∀i,i<ops.size->listed.getD i false=true)->(∀i,aW env i=aW (cQ ops env0 as9 (λi=>listed.getD i false) ops.size) i)->cJ<=ops.size->gm<=ops.size->
   (∀j,j<ops.size->writer ops td j=true->(listed.getD j false=true↔j<cJ))->(∀j,j<ops.size->writer ops tb j=true->(listed.getD j false=true↔j<gm))->W P m nt (.inRegion ops []::k) env (ρs cJ::τs gm) Z E:=λt listed env cJ gm gX cq jV my hx sI=>by
  have Δ:ρs cJ=ρs ops.size:=MY cJ ops.size jV (Nat.le_refl _) λj γ Η=>by rw[<-hx j γ Η];simp[gX j γ,γ]
  have Ε:τs gm=τs ops.size:=MZ gm ops.size my (Nat.le_refl _) λj γ Η=>by rw[<-sI j γ Η];simp[gX j γ,γ]
  rw[Δ,Ε];refine .congr (λi=>?_) Fb;rw[cq i];exact vx ops.size λi o hi _ _=>gX i hi
 have Fc:∀listed:Array Bool,listed.size=ops.size->(∃i,i<ops.size/\listed.getD i false=false)->∃i,i<ops.size/\listed.getD i false=false/\∀j,j<i->listed.getD j false=true:=λlisted b2 ⟨i,hi,Β⟩=>by
  induction i using Nat.strongRecOn with
  | _ i Γ=>
   by_cases γ:∃j,j<i/\listed.getD j false=false
   ·obtain⟨j,J,R⟩:=γ;exact Γ j J (by omega) R
   ·exact⟨i,hi,Β,λj dE=>by
     cases h:listed.getD j false with
     | true=>rfl
     | false=>exact absurd ⟨j,dE,h⟩ γ⟩
 induction fuel with
 | zero=>
  intro t listed env cJ gm b2 cq b3 jV my hx sI Fe;have gX:∀i,i<ops.size->listed.getD i false=true:=λi hi=>by
   cases h:listed.getD i false with
   | true=>rfl
   | false=>
    have jR:i∈(List.range ops.size).filter λi=>!listed.getD i false:=by rw[List.mem_filter];exact⟨List.mem_range.2 hi,by rw[h];rfl⟩
    have:((List.range ops.size).filter λi=>!listed.getD i false)=[]:=dk.1 (by omega);rw[this] at jR;simp at jR
  exact done t listed env cJ gm gX cq jV my hx sI
 | succ fuel Γ=>
  intro t listed env cJ gm b2 cq b3 jV my hx sI Fe;simp only[Region.linearise.go];generalize iV:((List.range ops.size).filter λi=>!listed.getD i true&&((ops[i]?).map (·.after.all λe=>!Region.binds .any e||listed.getD e.on false)).getD false)=rs;have x8:∀i,i<ops.size->listed.getD i true=listed.getD i false:=λi hi=>by
   rw[Array.getD_eq_getD_getElem?,Array.getD_eq_getD_getElem?,eM (by omega)];rfl
  have x9:∀i,i∈rs↔i<ops.size/\listed.getD i false=false/\∀o,ops[i]?=some o->∀j∈gq o,listed.getD j false=true:=λi=>by
   rw[<-iV];simp only[List.mem_filter,List.mem_range,Bool.and_eq_true,Bool.not_eq_true'];constructor
   ·rintro⟨J,R,ς⟩;rw[x8 i J] at R;refine⟨J,R,λo ω j γ=>?_⟩;rw[ω] at ς;simp only[Option.map_some,Option.getD_some,Array.all_eq_true'] at ς;unfold gq at γ;simp only[List.mem_map,List.mem_filter] at γ;obtain⟨e,⟨Ff,pE⟩,rfl⟩:=γ;have:=ς e (by simpa using Ff);simpa[pE] using this
   ·rintro⟨J,R,ς⟩;refine⟨J,by rw[x8 i J];exact R,?_⟩;have ω:ops[i]?=some ops[i]:=eM J;rw[ω];simp only[Option.map_some,Option.getD_some,Array.all_eq_true'];intro e he;by_cases hb:Region.binds .any e=true
    ·have:=ς _ ω e.on (by unfold gq;simp only[List.mem_map,List.mem_filter];exact⟨e,⟨by simpa using he,hb⟩,rfl⟩);simp[this]
    ·simp[hb]
  cases hi:rs[t % rs.length]? with
  | none=>
   simp only[List.reverse_nil];have xm:rs=[]:=by
    cases ι:rs with
    | nil=>rfl
    | cons x xs=>
     rw[ι] at hi;have ar:t % (x::xs).length<(x::xs).length:=Nat.mod_lt _ (by simp);rw[aX ar] at hi;cases hi
   have gX:∀i,i<ops.size->listed.getD i false=true:=λi dj=>by
    cases h:listed.getD i false with
    | true=>rfl
    | false=>
     obtain⟨r,J,R,ς⟩:=Fc listed b2 ⟨i,dj,h⟩;have:r∈rs:=(x9 r).2 ⟨J,R,λo ω j γ=>ς j (qS r o ω j γ)⟩;rw[xm] at this;simp at this
   exact done t listed env cJ gm gX cq jV my hx sI
  | some i=>
   simp only;rw[J1];have jR:i∈rs:=cf hi;obtain⟨J,R,ς⟩:=(x9 i).1 jR;have ω:ops[i]?=some ops[i]:=eM J;have Fg:=Br qS (λj=>listed.getD j false=true) (λj o γ Β=>b3 j o γ Β) i _ ω (ς _ ω);have low:∀j bI,j<i->ops[j]?=some bI->(clash ops td i j ops[i] bI=true\/clash ops tb i j ops[i] bI=true)->listed.getD j false=true:=λj bI γ de η=>Fg j (η.elim (λη=>(tI i _ ω).2 j bI γ de η) (λη=>(MX i _ ω).2 j bI γ de η));have high:∀j bI,i<j->ops[j]?=some bI->(clash ops td j i bI ops[i]=true\/clash ops tb j i bI ops[i]=true)->listed.getD j false=false:=λj bI γ de η=>by
    cases Β:listed.getD j false with
    | false=>rfl
    | true=>
     have:=Br qS (λj=>listed.getD j false=true) (λj o γ Β=>b3 j o γ Β) j bI de (b3 j bI de Β) i (η.elim (λη=>(tI j bI de).2 i _ γ ω η) (λη=>(MX j bI de).2 i _ γ ω η));rw[R] at this;cases this
   have same:ny ops ops[i] (cQ ops env0 as9 (λ_=>true) i) env:=λx U=>by
    rw[cq x];have c1:aW (cQ ops env0 as9 (λi=>listed.getD i false) ops.size) x=aW (cQ ops env0 as9 (λi=>listed.getD i false) i) x:=Bt (by omega) λj bI vy Fh de hd=>by
     by_cases e:j=i
     ·subst e;exact R
     ·refine high j bI (by omega) de ?_;unfold clash;simp[hd,U]
    rw[c1];exact vx i λj bI γ de hd=>low j bI γ de (.inl (by unfold clash;simp[hd,U]))
   have lX:∀x,aW (bX ops[i] env (as9 i)) x=aW (cQ ops env0 as9 (λj=>(listed.setIfInBounds i true).getD j false) ops.size) x:=λx=>by
    have i':∀j,(listed.setIfInBounds i true).getD j false=if j=i then true else listed.getD j false:=λj=>by
     rw[Array.getD_eq_getD_getElem?,Array.getD_eq_getD_getElem?];by_cases e:j=i
     ·subst e;rw[Array.getElem?_setIfInBounds_self_of_lt (by omega)];simp
     ·rw[Array.getElem?_setIfInBounds_ne (Ne.symm e),if_neg e]
    rw[tG];by_cases hd:ops[i].dst=some x
    ·rw[if_pos hd];have c1:aW (cQ ops env0 as9 (λj=>(listed.setIfInBounds i true).getD j false) ops.size) x=aW (cQ ops env0 as9 (λj=>(listed.setIfInBounds i true).getD j false) (i+1)) x:=Bt (by omega) λj bI vy Fh de rX=>by
      rw[i',if_neg (by omega)];refine high j bI (by omega) de (.inl ?_);unfold clash;simp[hd,rX]
     rw[c1];simp only[cQ,i',if_true,ω,tG,hd]
    ·rw[if_neg hd,cq x];exact vx ops.size λj bI γ de rX=>by
      rw[i',if_neg];intro e;subst e;rw[ω] at de;cases de;exact hd rX
   have i':∀j,(listed.setIfInBounds i true).getD j false=if j=i then true else listed.getD j false:=λj=>by
    rw[Array.getD_eq_getD_getElem?,Array.getD_eq_getD_getElem?];by_cases e:j=i
    ·subst e;rw[Array.getElem?_setIfInBounds_self_of_lt (by omega)];simp
    ·rw[Array.getElem?_setIfInBounds_ne (Ne.symm e),if_neg e]
   have tJ:((List.range ops.size).filter λj=>!(listed.setIfInBounds i true).getD j false).length<=fuel:=by
    have ar:((List.range ops.size).filter λj=>!(listed.setIfInBounds i true).getD j false).length<((List.range ops.size).filter λj=>!listed.getD j false).length:=by
     have:((List.range ops.size).filter λj=>!(listed.setIfInBounds i true).getD j false)=((List.range ops.size).filter λj=>!listed.getD j false).filter λj=>j != i:=by
      rw[List.filter_filter];apply List.filter_congr;intro j _;rw[i'];by_cases e:j=i
      ·subst e;simp
      ·simp[e]
     rw[this];have hm:i∈(List.range ops.size).filter λj=>!listed.getD j false:=by
      rw[List.mem_filter];exact⟨List.mem_range.2 J,by rw[R];rfl⟩
     exact List.length_filter_lt_length_iff_exists.2 ⟨i,hm,by simp⟩
    omega
   have tK:∀j o,ops[j]?=some o->(listed.setIfInBounds i true).getD j false=true->∀y∈gq o,(listed.setIfInBounds i true).getD y false=true:=λj o γ Β y ad=>by
    rw[i'] at Β ⊢;by_cases e:y=i
    ·rw[if_pos e]
    ·rw[if_neg e];by_cases Ε:j=i
     ·subst Ε;rw[ω] at γ;cases γ;exact ς _ ω y ad
     ·rw[if_neg Ε] at Β;exact b3 j o γ Β y ad
   have keep:∀(tags:List Bool) (cJ:Nat),tags.getD i false=false->(∀j,j<ops.size->writer ops tags j=true->(listed.getD j false=true↔j<cJ))->∀j,j<ops.size->writer ops tags j=true->((listed.setIfInBounds i true).getD j false=true↔j<cJ):=λtags cJ l9 hx j γ Η=>by
    rw[i'];have:j≠i:=λe=>by subst e;rw[MV j Η] at l9;cases l9
    rw[if_neg this];exact hx j γ Η
   have keepW:∀(tags:List Bool) (cJ:Nat),writer ops tags i=false->(∀j,j<ops.size->writer ops tags j=true->(listed.getD j false=true↔j<cJ))->∀j,j<ops.size->writer ops tags j=true->((listed.setIfInBounds i true).getD j false=true↔j<cJ):=λtags cJ lk hx j γ Η=>by
    rw[i'];have:j≠i:=λe=>by subst e;rw[Η] at lk;cases lk
    rw[if_neg this];exact hx j γ Η
   have both:∀(tags:List Bool),tags.getD i false=true->(∀j bI,j<i->ops[j]?=some bI->clash ops tags i j ops[i] bI=true->listed.getD j false=true)->(∀j bI,i<j->ops[j]?=some bI->clash ops tags j i bI ops[i]=true->listed.getD j false=false)->
     (∀j,j<ops.size->writer ops tags j=true->j<i->listed.getD j false=true)/\(∀j,j<ops.size->writer ops tags j=true->i<j->listed.getD j false=false):=λtags l9 lo hi=>⟨λj γ Η tL=>lo j _ tL (eM γ) (MW l9 j _ (eM γ) Η).1,λj γ Η tL=>hi j _ tL (eM γ) (MW l9 j _ (eM γ) Η).2⟩
   have M0:∀(tags:List Bool) (cJ:Nat),(∀j,j<ops.size->writer ops tags j=true->j<i->listed.getD j false=true)->(∀j,j<ops.size->writer ops tags j=true->i<j->listed.getD j false=false)->(∀j,j<ops.size->writer ops tags j=true->(listed.getD j false=true↔j<cJ))->∀j,j<ops.size->writer ops tags j=true->(j<cJ↔j<i):=λtags cJ lo hi hx j γ Η=>by
    rw[<-hx j γ Η];constructor
    ·intro Β;apply Classical.byContradiction;intro Ι;by_cases e:j=i
     ·subst e;rw[R] at Β;cases Β
     ·rw[hi j γ Η (by omega)] at Β;cases Β
    ·exact lo j γ Η
   have next:∀(tags:List Bool),(∀j,j<ops.size->writer ops tags j=true->j<i->listed.getD j false=true)->(∀j,j<ops.size->writer ops tags j=true->i<j->listed.getD j false=false)->∀j,j<ops.size->writer ops tags j=true->((listed.setIfInBounds i true).getD j false=true↔j<i+1):=λtags lo hi j γ Η=>by
    rw[i'];by_cases e:j=i
    ·subst e;simp
    ·rw[if_neg e];constructor
     ·intro Β;apply Classical.byContradiction;intro Ι;rw[hi j γ Η (by omega)] at Β;cases Β
     ·intro ar;exact lo j γ Η (by omega)
   cases zd:td.getD i false with
   | true=>
    obtain⟨cj,wz⟩:=dQ i _ ω zd;obtain⟨lo,dj⟩:=both td zd (λj bI a b c=>low j bI a b (.inl c)) (λj bI a b c=>high j bI a b (.inl c));rw[MY cJ i jV (by omega) (M0 td cJ lo dj hx)];refine cj env _ _ same ?_;exact Γ _ _ _ (i+1) gm (by simpa using b2) lX tK (by omega) my (next td lo dj) (keep tb gm wz sI) tJ
   | false=>
    cases wz:tb.getD i false with
    | false=>
     refine k5 i _ ω zd wz env _ _ same ?_;exact Γ _ _ _ cJ gm (by simpa using b2) lX tK jV my (keep td cJ zd hx) (keep tb gm wz sI) tJ
    | true=>
     obtain⟨lo,dj⟩:=both tb wz (λj bI a b c=>low j bI a b (.inr c)) (λj bI a b c=>high j bI a b (.inr c));rw[MZ gm i my (by omega) (M0 tb gm lo dj sI)];refine gT i _ ω wz env _ _ same ?_;exact Γ _ _ _ cJ (i+1) (by simpa using b2) lX tK jV (by omega) (keep td cJ zd hx) (next tb lo dj) tJ
def wA (f:Row->cO) (K:ζ->List Row->Prop):Prop:=∃a en,((∀r,f r=.ok a (r::en))\/∃p:Prop,p/\∀r,f r=.bT p (.ok a (r::en)))/\K a en
theorem Yo {f g:Row->cO} {K:ζ->List Row->Prop} (h:∀r,f r=g r):wA f K=wA g K:=by rw[funext h]
theorem Yp {a:ζ} {τ:List Row} {K:ζ->List Row->Prop}:wA (λr=>.ok a (r::τ)) K=K a τ:=by
 refine propext ⟨λ⟨b,en,h,Α⟩=>?_,λh=>⟨a,τ,.inl λ_=>rfl,h⟩⟩;rcases h with h|⟨p,_,h⟩
 ·have:=h (.map []);injection this with J R
  injection R with _ R
  rw[J,R];exact Α
 ·have:=h (.map []);cases this
theorem Yq {p:Prop} {a:ζ} {τ:List Row} {K:ζ->List Row->Prop}:wA (λr=>.bT p (.ok a (r::τ))) K=(p/\K a τ):=by
 refine propext ⟨λ⟨b,en,h,Α⟩=>?_,λh=>⟨a,τ,.inr ⟨p,h.1,λ_=>rfl⟩,h.2⟩⟩;rcases h with h|⟨q,Ψ,h⟩
 ·have:=h (.map []);cases this
 ·have:=h (.map []);injection this with af J
  injection J with J R
  injection R with _ R
  rw[J,R];exact⟨af▸Ψ,Α⟩
def CW (P:Program) (f:ζ) (args:List ζ) (r:Row) (g5:ζ->Prop) (nS:ζ->Row->Prop):Prop:=
 (∃a,ja P f args a/\g5 a)\/∃a r',(∀τ,ht P f args (r::τ) (λb s=>b=a/\s=r'::τ) (λ_ _=>False))/\nS a r'
theorem Yr {P:Program} {f:ζ} {args:List ζ} {r r':Row} {g5:ζ->Prop} {nS:ζ->Row->Prop} {a:ζ} (h:∀τ,ht P f args (r::τ) (λb s=>b=a/\s=r'::τ) (λ_ _=>False)) (k:nS a r'):CW P f args r g5 nS:=.inr ⟨a,r',h,k⟩
def ze (P:Program) (T:aZ) (A:List Nat) (env:Φ) (o:Oper) (r:Row) (τ:List Row) (g5:ζ->Prop) (nS:ζ->Row->Prop) (ll:ζ->List Row->Prop):Prop:=match o.op with
 | .call ⟨.value f,args,_⟩=>CW P (aG env f) (args.toList.map (aG env)) r g5 nS
 | .panic _=>False
 | .defer _=>False
 | _=>(lg T A env o).fF g5 (wA (λr=>jv T A env (r::τ) o) ll)
theorem Ys {P:Program} {T:aZ} {A:List Nat} {env:Φ} {o:Oper} {r:Row} {τ:List Row} {g5:ζ->Prop} {nS:ζ->Row->Prop} {ll:ζ->List Row->Prop}:ze P T A env o r τ g5 nS ll=match o.op with
 | .call ⟨.value f,args,_⟩=>CW P (aG env f) (args.toList.map (aG env)) r g5 nS
 | .panic _=>False
 | .defer _=>False
 | _=>(lg T A env o).fF g5 (wA (λr=>jv T A env (r::τ) o) ll):=Eq.trans rfl rfl
def hG (P:Program) (T:aZ) (A:List Nat) (nt:Nat) (ops:Array Oper):List Nat->Φ->Row->List Row->List Bool->List Bool->(Φ->List Row->Prop)->Prop
 | [],env,r,τ,td,tb,K=>jU ops td=true/\jU ops tb=true/\K env (r::τ)
 | i::is,env,r,τ,td,tb,K=>ga ops[i]? λo=>g4 nt o=true/\ga (e7 env ops o) λw=>
   iG w (hG P T A nt ops is (bX o env .ca) r τ (td++[false]) (tb++[false]) K)
    (ze P T A env o r τ (λa=>hG P T A nt ops is (bX o env a) r τ (td++[false]) (tb++[false]) K) (λa r'=>hG P T A nt ops is (bX o env a) r' τ (td++[true]) (tb++[false]) K) (λa en=>hG P T A nt ops is (bX o env a) r en (td++[false]) (tb++[true]) K))
def M1 (P:Program) (T:aZ) (A:List Nat) (nt:Nat) (ops:Array Oper) (is:List Nat) (o:Oper) (env:Φ) (r:Row) (τ:List Row) (td tb:List Bool) (K:Φ->List Row->Prop) (a:ζ):Prop:=hG P T A nt ops is (bX o env a) r τ (td++[false]) (tb++[false]) K
def M3 (P:Program) (T:aZ) (A:List Nat) (nt:Nat) (ops:Array Oper) (is:List Nat) (o:Oper) (env:Φ) (τ:List Row) (td tb:List Bool) (K:Φ->List Row->Prop) (a:ζ) (r:Row):Prop:=hG P T A nt ops is (bX o env a) r τ (td++[true]) (tb++[false]) K
def M4 (P:Program) (T:aZ) (A:List Nat) (nt:Nat) (ops:Array Oper) (is:List Nat) (o:Oper) (env:Φ) (r:Row) (td tb:List Bool) (K:Φ->List Row->Prop) (a:ζ) (τ:List Row):Prop:=hG P T A nt ops is (bX o env a) r τ (td++[false]) (tb++[true]) K
section
variable {is:List Nat} {i:Nat} {o:Oper} {r:Row} {τ:List Row} {td tb:List Bool} {K:Φ->List Row->Prop} {a:ζ}
theorem jC:hG P T A nt ops [] env r τ td tb K=(jU ops td=true/\jU ops tb=true/\K env (r::τ)):=Eq.trans rfl rfl
theorem jD:hG P T A nt ops (i::is) env r τ td tb K=ga ops[i]? λo=>g4 nt o=true/\ga (e7 env ops o) λw=>
   iG w (hG P T A nt ops is (bX o env .ca) r τ (td++[false]) (tb++[false]) K) (ze P T A env o r τ (M1 P T A nt ops is o env r τ td tb K) (M3 P T A nt ops is o env τ td tb K) (M4 P T A nt ops is o env r td tb K)):=Eq.trans rfl rfl
theorem Yt:M1 P T A nt ops is o env r τ td tb K a=hG P T A nt ops is (bX o env a) r τ (td++[false]) (tb++[false]) K:=Eq.trans rfl rfl
theorem Yu:M3 P T A nt ops is o env τ td tb K a r=hG P T A nt ops is (bX o env a) r τ (td++[true]) (tb++[false]) K:=Eq.trans rfl rfl
theorem Yv:M4 P T A nt ops is o env r td tb K a τ=hG P T A nt ops is (bX o env a) r τ (td++[false]) (tb++[true]) K:=Eq.trans rfl rfl
end
def Hc (P:Program) (m nt:Nat) (k:List Item) (Z:List Item->Φ->List Row->Prop) (E:ζ->Φ->List Row->Prop) (ops:Array Oper) (i:Nat) (o:Oper) (env:Φ) (r:Row) (τ:List Row) (d b:Bool) (a:ζ) (r':Row) (en:List Row):Prop:=
 (d=true/\b=false/\MS P m nt k Z E ops i o env r a r'/\en=τ)\/(d=false/\b=true/\StepB P m nt k Z E ops i o env τ a en/\r'=r/\(lj o=true->en=τ))\/(d=false/\b=false/\vw P m nt k Z E ops i o env a/\r'=r/\en=τ)
theorem Yw (Ζ:bE P T) {i:Nat} {is:List Nat} {r:Row} {τ:List Row} {td tb:List Bool} {K:Φ->List Row->Prop} (h:hG P T A nt ops (i::is) env r τ td tb K) :
  ∃o a r' en d b,ops[i]?=some o/\Hc P m nt k Z E ops i o env r τ d b a r' en/\(d=true->lj o=false)/\hG P T A nt ops is (bX o env a) r' en (td++[d]) (tb++[b]) K:=by
 unfold hG ga at h;split at h
 ·exact h.elim
 ·rename_i o ω;obtain⟨hd,h⟩:=h;split at h
  ·exact h.elim
  rename_i w hw;unfold iG at h;cases w
  ·replace h:=h.1 rfl
   exact⟨o,.ca,r,τ,false,false,ω,.inr (.inr ⟨rfl,rfl,λenv' σ' rest ν hW=>.unwanted ω (by rw[pF ν];exact hw) hd hW,rfl,rfl⟩),λh=>(by cases h),h⟩
  ·replace h:=h.2 rfl
   unfold ze at h;split at h
   ·rename_i f args dI Θ;have ya:∀env',ny ops o env env'->aG env' f=aG env f/\args.toList.map (aG env')=args.toList.map (aG env):=λenv' ν=>by
     have U:=Bw ν;rw[Θ] at U;refine⟨U f (by simp[Op.operands,Call.operands]),By λx Fj=>U x (by simp[Op.operands,Call.operands,Fj])⟩
    rcases h with⟨a,η,h⟩|⟨a,r',η,h⟩
    ·refine⟨o,a,r,τ,false,false,ω,.inr (.inr ⟨rfl,rfl,λenv' σ' rest ν hW=>.call ω (by rw[pF ν];exact hw) hd Θ ?_,rfl,rfl⟩),λh=>(by cases h),h⟩;obtain⟨Δ,Ε⟩:=ya env' ν;rw[Δ,Ε];exact(η σ').mono (λa s ⟨x,y⟩=>by subst x;subst y;exact hW) (λ_ _ h=>h.elim)
    ·refine⟨o,a,r',τ,true,false,ω,.inl ⟨rfl,rfl,λenv' en rest ν hW=>.call ω (by rw[pF ν];exact hw) hd Θ ?_,rfl⟩,λ_=>(by unfold lj;rw[Θ]),h⟩;obtain⟨Δ,Ε⟩:=ya env' ν;rw[Δ,Ε];exact(η en).mono (λa s ⟨x,y⟩=>by subst x;subst y;exact hW) (λ_ _ h=>h.elim)
   ·exact h.elim
   ·exact h.elim
   ·rename_i J R ς;have yb:∀(zf:cd) (a:ζ),lg T A env o=zf->(∀K:ζ->List Row->Prop,∀s,K a s->(zf.dd s).holds K)->(∀σ s,zf.or σ s=zf.dd σ)->vw P m nt k Z E ops i o env a:=λzf a ι aN Fl env' σ' rest ν hW=>by
     refine .op (A:=A) Ζ ω (by rw[pF ν];exact hw) hd (λc η=>ς c η) ?_;rw[BA ν,ι,Fl];exact aN _ _ hW
    unfold cd.fF at h;split at h
    ·rename_i a κ;exact⟨o,a,r,τ,false,false,ω,.inr (.inr ⟨rfl,rfl,yb _ a κ (λK s Α=>Α) (λ_ _=>rfl),rfl,rfl⟩),λh=>(by cases h),h⟩
    ·rename_i p a κ;exact⟨o,a,r,τ,false,false,ω,.inr (.inr ⟨rfl,rfl,yb _ a κ (λK s Α=>⟨h.1,Α⟩) (λ_ _=>rfl),rfl,rfl⟩),λh=>(by cases h),h.2⟩
    ·exact h.elim
    ·rename_i vp;have BC:∀(a:ζ) (en:List Row),(∀r,∃x:cO,jv T A env (r::τ) o=x/\∀K:ζ->List Row->Prop,K a (r::en)->x.holds K)->StepB P m nt k Z E ops i o env τ a en:=λa en ι env' r rest ν hW=>by
      obtain⟨x,ι,aN⟩:=ι r;refine .op (A:=A) Ζ ω (by rw[pF ν];exact hw) hd (λc η=>ς c η) ?_;rw[BA ν,J9 ν,vp,ι];exact aN _ hW
     obtain⟨a,en,hu,Α⟩:=h;refine⟨o,a,r,en,false,true,ω,.inr (.inl ⟨rfl,rfl,BC a en λr=>?_,rfl,λι=>?_⟩),λh=>(by cases h),Α⟩
     ·rcases hu with hu|⟨p,χ,hu⟩
      ·exact⟨_,hu r,λK Α=>Α⟩
      ·exact⟨_,hu r,λK Α=>⟨χ,Α⟩⟩
     ·have:r::en=r::τ:=by
       rcases hu with hu|⟨p,χ,hu⟩
       ·exact BB (p:=True) ι (.inl (hu r))
       ·exact BB ι (.inr (hu r))
      injection this
theorem Yx (Ζ:bE P T) {K:Φ->List Row->Prop} {env0:Φ}:∀(d i:Nat) (td tb:List Bool) (as9:Nat->ζ) (ρs:Nat->Row) (τs:Nat->List Row),i+d=ops.size->td.length=i->tb.length=i->
  (∀j o,j<i->ops[j]?=some o->Hc P m nt k Z E ops j o (cQ ops env0 as9 (λ_=>true) j) (ρs j) (τs j) (td.getD j false) (tb.getD j false) (as9 j) (ρs (j+1)) (τs (j+1))/\(td.getD j false=true->lj o=false))->
  hG P T A nt ops (List.range' i d) (cQ ops env0 as9 (λ_=>true) i) (ρs i) (τs i) td tb K->
  ∃(td tb:List Bool) (as9:Nat->ζ) (qa:Nat->Row) (qb:Nat->List Row),jU ops td=true/\jU ops tb=true/\qa 0=ρs 0/\qb 0=τs 0/\(∀j o,ops[j]?=some o->Hc P m nt k Z E ops j o (cQ ops env0 as9 (λ_=>true) j) (qa j) (qb j) (td.getD j false) (tb.getD j false) (as9 j) (qa (j+1)) (qb (j+1))/\(td.getD j false=true->lj o=false))/\K (cQ ops env0 as9 (λ_=>true) ops.size) (qa ops.size::qb ops.size):=by
 intro d
 induction d with
 | zero=>
  intro i td tb as9 ρs τs hi Η oU γ h;simp only[List.range'_zero,hG] at h;have:i=ops.size:=by omega
  subst this;exact⟨td,tb,as9,ρs,τs,h.1,h.2.1,rfl,rfl,λj o ω=>γ j o (Array.getElem?_eq_some_iff.1 ω).1 ω,h.2.2⟩
 | succ d Γ=>
  intro i td tb as9 ρs τs hi Η oU γ h;rw[List.range'_succ] at h;obtain⟨o,a,r',en,Hd,nb,ω,Fo,bZ,h⟩:=Yw (m:=m) (k:=k) (Z:=Z) (E:=E) Ζ h;let jw:Nat->ζ:=λj=>if j=i then a else as9 j
  let qa:Nat->Row:=λj=>if j=i+1 then r' else ρs j
  let qb:Nat->List Row:=λj=>if j=i+1 then en else τs j
  have tM:∀j,j<=i->cQ ops env0 as9 (λ_=>true) j=cQ ops env0 jw (λ_=>true) j:=λj γ=>Kb j λx U=>by simp only[jw];rw[if_neg (by omega)]
  have Fp:cQ ops env0 jw (λ_=>true) (i+1)=bX o (cQ ops env0 as9 (λ_=>true) i) a:=by
   simp only[cQ,if_true,ω];rw[<-tM i (Nat.le_refl i)];simp only[jw,if_true]
  have u4:∀(t:List Bool) (x:Bool),t.length=i->(t++[x]).getD i false=x:=λt x h=>by rw[List.getD_eq_getElem?_getD,ha (by omega),h];simp
  have M5:∀(t:List Bool) (x:Bool) (j:Nat),t.length=i->j<i->(t++[x]).getD j false=t.getD j false:=λt x j h γ=>by rw[List.getD_eq_getElem?_getD,dW (by omega),<-List.getD_eq_getElem?_getD]
  have:=Γ (i+1) (td++[Hd]) (tb++[nb]) jw qa qb (by omega) (by simp[Η]) (by simp[oU]) (λj bI ar de=>?_) ?_
  ·obtain⟨t1,t2,bg,r2,s2,Ξ,aa,aM,b9,fV,hs⟩:=this;exact⟨t1,t2,bg,r2,s2,Ξ,aa,aM.trans (by simp only[qa];rw[if_neg (by omega)]),b9.trans (by simp only[qb];rw[if_neg (by omega)]),fV,hs⟩
  ·by_cases e:j=i
   ·subst e;rw[ω] at de;cases de;rw[<-tM j (Nat.le_refl j),u4 td Hd Η,u4 tb nb oU];simp only[jw,qa,qb,if_true];rw[if_neg (by omega),if_neg (by omega)];exact⟨Fo,bZ⟩
   ·have:=γ j bI (by omega) de;rw[<-tM j (by omega),M5 td Hd j Η (by omega),M5 tb nb j oU (by omega)];simp only[jw,qa,qb];rw[if_neg (by omega),if_neg (by omega),if_neg (by omega),if_neg (by omega),if_neg (by omega)];exact this
  ·rw[Fp];simp only[qa,qb,if_true];exact h
theorem W.He (Ζ:bE P T) (qT:P.follows .mixedOrders=true) {r:Row} {τ:List Row} {id:Nat} (h:∀θ:Φ->List Row->Prop,(∀env σ,W P m nt k env σ Z E->θ env σ)->hG P T A nt ops (idx ops.size []) env r τ [] [] θ):W P m nt (.code (.region id ops true)::k) env (r::τ) Z E:=by
 have af:=h (λenv σ=>W P m nt k env σ Z E) λ_ _ h=>h;rw[idx_eq,List.range_eq_range'] at af;obtain⟨td,tb,as9,ρs,τs,Ξ,aa,aM,b9,fV,hs⟩:=Yx (m:=m) (k:=k) (Z:=Z) (E:=E) (env0:=env) Ζ ops.size 0 [] [] (λ_=>.ca) (λ_=>r) (λ_=>τ) (by omega) rfl rfl (λj o γ=>by omega) af;intro Q mn x cs b S B H t U hb χ Ν he;refine .draw U hb λn=>?_;have CX:∀i:Nat,(Array.replicate ops.size false).getD i false=false:=λi=>by
  rw[Array.getD_eq_getD_getElem?,Array.getElem?_replicate];split<;>rfl
 have key:=W.Yj (P:=P) (m:=m) (nt:=nt) (k:=k) (Z:=Z) (E:=E) (ops:=ops) (as9:=as9) (ρs:=ρs) (τs:=τs) (td:=td) (tb:=tb) (env0:=env) Ξ aa
  (λi o ω J R=>by
   rcases(fV i o ω).1 with⟨a,_⟩|⟨_,a,_⟩|⟨_,_,a,_⟩
   ·rw[J] at a;cases a
   ·rw[R] at a;cases a
   ·exact a)
  (λi o ω J=>by
   rcases(fV i o ω).1 with⟨_,b,a,_⟩|⟨a,_⟩|⟨a,_⟩
   ·exact⟨a,b⟩
   ·rw[J] at a;cases a
   ·rw[J] at a;cases a)
  (λi o ω J=>by
   rcases(fV i o ω).1 with⟨_,a,_⟩|⟨_,_,a,_⟩|⟨_,a,_⟩
   ·rw[J] at a;cases a
   ·exact a
   ·rw[J] at a;cases a)
  (λi o ω hw=>by
   rcases(fV i o ω).1 with⟨a,_⟩|⟨_,_,_,a,_⟩|⟨_,_,_,a,_⟩
   ·unfold writer at hw;rw[a,ω] at hw;simp[(fV i o ω).2 a] at hw
   ·exact a
   ·exact a)
  (λi o ω hw=>by
   rcases(fV i o ω).1 with⟨_,_,_,a⟩|⟨_,b,_,_,a⟩|⟨_,_,_,_,a⟩
   ·exact a
   ·refine a ?_;unfold writer at hw;rw[b,ω] at hw;simpa using hw
   ·exact a)
  (.bm hs) ops.size n (Array.replicate ops.size false) env 0 0 (by simp) (λi=>?_) (λi o ω Β=>?_) (Nat.zero_le _) (Nat.zero_le _) (λj γ _=>?_) (λj γ _=>?_) ?_
 ·rw[aM,b9] at key;rw[qT];simp only[Region.schedule,Bool.true_or,if_true,Region.linearise];exact key Q mn x cs b S B H t U hb χ Ν he
 ·have:∀n,cQ ops env as9 (λi=>(Array.replicate ops.size false).getD i false) n=env:=by
   intro n
   induction n with
   | zero=>rfl
   | succ n Γ=>
    simp only[cQ];rw[if_neg (by rw[CX n];simp)];exact Γ
  rw[this]
 ·rw[CX] at Β;cases Β
 ·rw[CX];simp
 ·rw[CX];simp
 ·have:=List.length_filter_le (λi=>!(Array.replicate ops.size false).getD i false) (List.range ops.size);simpa using this
theorem Yy {K K':Φ->List Row->Prop} (I:∀e s,K e s->K' e s):∀(is:List Nat) (env:Φ) (r:Row) (τ:List Row) (td tb:List Bool),hG P T A nt ops is env r τ td tb K->hG P T A nt ops is env r τ td tb K':=by
 intro is
 induction is with
 | nil=>intro env r τ td tb h;exact⟨h.1,h.2.1,I _ _ h.2.2⟩
 | cons i is Γ=>
  intro env r τ td tb h;unfold hG ga at h ⊢;cases ω:ops[i]? with
  | none=>rw[ω] at h;exact h.elim
  | some o=>
   rw[ω] at h;simp only at h ⊢;refine⟨h.1,?_⟩
   replace h:=h.2
   cases hw:e7 env ops o with
   | none=>rw[hw] at h;exact h.elim
   | some w=>
    rw[hw] at h;unfold iG at h ⊢;refine⟨λe=>Γ _ _ _ _ _ (h.1 e),λe=>?_⟩
    replace h:=h.2 e
    unfold ze at h ⊢;split
    ·rename_i f args dI Θ;rw[Θ] at h;simp only at h;rcases h with⟨a,η,h⟩|⟨a,r',η,h⟩
     ·exact .inl ⟨a,η,Γ _ _ _ _ _ h⟩
     ·exact .inr ⟨a,r',η,Γ _ _ _ _ _ h⟩
    ·rename_i Θ;rw[Θ] at h;exact h
    ·rename_i Θ;rw[Θ] at h;exact h
    ·rename_i J R ς;split at h
     ·rename_i f args dI Θ;exact absurd Θ (J f args dI)
     ·rename_i y Θ;exact absurd Θ (R y)
     ·rename_i y Θ;exact absurd Θ (ς y)
     ·unfold cd.fF at h ⊢;split at h
      ·exact Γ _ _ _ _ _ h
      ·exact⟨h.1,Γ _ _ _ _ _ h.2⟩
      ·exact h.elim
      ·obtain⟨a,en,hu,Α⟩:=h;exact⟨a,en,hu,Γ _ _ _ _ _ Α⟩
theorem W.M6 (Ζ:bE P T) (qT:P.follows .mixedOrders=true) (gp:Φ) (fG:List Row) {r:Row} {τ:List Row} {id:Nat} (h:W P m nt k gp fG Z E) (ι:hG P T A nt ops (idx ops.size []) env r τ [] [] (λe s=>s=fG/\∀p∈gp,aW e p.1=p.2)):W P m nt (.code (.region id ops true)::k) env (r::τ) Z E:=
 W.He Ζ qT λθ I=>Yy (λe s ⟨J,R⟩=>I e s (J▸W.forget gp R h)) _ _ _ _ _ _ ι
theorem W.zg (Ζ:bE P T) (qT:P.follows .mixedOrders=true) (gp:Φ) (fG:List Row) {id:Nat} (h:W P m nt k gp fG Z E) (ι:ia P T A nt ops (idx ops.size []) env σ [] (λe s=>s=fG/\∀p∈gp,aW e p.1=p.2)):W P m nt (.code (.region id ops true)::k) env σ Z E:=
 W.draw Ζ qT λθ I=>Kc (λe s ⟨J,R⟩=>I e s (J▸W.forget gp R h)) _ _ _ _ ι
end
end Go.TL
namespace Go.TL
open Go.Proofs
variable [bh]
attribute [congr] Yo
attribute [simp] Yp Yq Ys Yt Yu Yv
def ej (g:FuncId) (args:List ζ) (d:cm) (r:ζ) (dV:cm):Prop:=aC Tryz.prog g (.ae 0 1 0 0::args) [bK d] (λa s=>dr a r/\s=[bK dV]) (λ_ _=>False)
theorem M7 {l:List ζ} (h:∀a∈l,az 0 a) (ρ:List Nat):l.map (dP ρ)=l:=by
 induction l with
 | nil=>rfl
 | cons a l Γ=>rw[List.map_cons,(h a (by simp)).dP,Γ λx U=>h x (by simp[U])]
theorem ej.c {g:FuncId} {args fz:List ζ} {d dV:cm} {r:ζ} {σ:List Row} {K E:ζ->List Row->Prop} (h:ej g args d r dV) (id:Nat) (bS:σ[id]?=some (bK d)) (he:aE fz args) (κ:∀a∈fz,az 0 a) (ι:az 0 r) (I:K r (σ.set id (bK dV))):ht Tryz.prog (.fn (.func g) [] []) (.ae id 1 0 0::fz) σ K E:=by
 refine aC.one (as0:=.ae 0 1 0 0::fz) (r:=r) (row':=bK dV) (aC.mL h (.cons (.refl _) he) λa s ⟨J,R⟩=>⟨r,J,rfl,R⟩) id bS (nQ d) (nQ dV) ?_ (ι.hT 1) ?_ ?_
 ·intro a hm;rcases List.mem_cons.1 hm with rfl|hm
  ·exact Nat.zero_lt_one
  ·exact(κ a hm).hT 1
 ·rw[List.map_cons,M7 κ];rfl
 ·rw[ι.dP];exact I
theorem ej.e {g:FuncId} {args fz:List ζ} {d dV:cm} {r:ζ} {g5:ζ->Prop} {nS:ζ->Row->Prop} (h:ej g args d r dV) (he:aE fz args) (κ:∀a∈fz,az 0 a) (ι:az 0 r) (I:nS r (bK dV)):CW Tryz.prog (.fn (.func g) [] []) (.ae 0 1 0 0::fz) (bK d) g5 nS:=
 Yr (λτ=>h.c 0 rfl he κ ι ⟨rfl,rfl⟩) I
@[simp] theorem lN (d:cm) (n:Int):(d.after n).a5.length<=d.a5.length:=by
 unfold cm.after;split
 ·exact Nat.le_refl _
 ·simp[cm.next]
theorem ri (d:cm) (hd:d.a5.length<2 ^ 63) (n:Int):ej 24 [δ n] d (δ (gM d n)) (d.after n):=(Hb d hd n).mono (λa s ⟨J,R⟩=>⟨.of J,R⟩) (λ_ _ h=>h)
theorem CY (d:cm) (hd:d.a5.length<2 ^ 63) (a b:Int):ej 38 [δ a,δ b] d (δ (nR d a b)) (d.after (IntKind.i64.wrap (b-a))):=(Ye d hd a b).mono (λa s ⟨J,R⟩=>⟨.of J,R⟩) (λ_ _ h=>h)
theorem Yz (d:cm) (hd:d.a5.length<2 ^ 63) (l:List Int) (af:0<l.length) (Β:l.length<1000000):ej 61 [bC δ 1 l] d (δ (l.getD (wy d l) 0)) (d.after ((l.length:Int)-1)):=(Yh d hd l af Β).mono (λa s ⟨J,R⟩=>⟨.of J,R⟩) (λ_ _ h=>h)
def uz (d:cm) (n:Int):Bool:=decide (gM d (n-1)=n.tdiv 2)
theorem Hf (d:cm) (hd:d.a5.length<2 ^ 63) (n:Int) (J:1<=n) (R:n<1000):ej 156 [δ n] d (bJ (uz d n)) (d.after (n-1)):=by
 have hw:IntKind.i64.wrap (n-1)=n-1:=IntWalk.i64_in _ (by omega);unfold ej;refine aC.body Μ Tryz.func156 rfl rfl Tryz.ntmps156 rfl rfl (by simp) ?_;(repeat (first|apply μ|(refine ξ λθ I=>?_;simp;(repeat (rw[ε];simp));apply I)));(repeat apply μ);refine ξ λθ I=>?_;simp;(repeat (rw[ε];simp[hw]));refine ej.c (ri d hd (n-1)) 0 rfl (aE.refl _) (by simp) (by simp) ?_;simp[hw];(repeat (rw[ε];simp[hw]));apply I;have Η:IntKind.i64.wrap (n.tdiv 2)=n.tdiv 2:=by
  rw[Int.tdiv_eq_ediv_of_nonneg (by omega)];exact IntWalk.i64_in _ (by omega)
 rw[Η];exact W.ret ⟨_,rfl,.refl _,rfl⟩
def nT (l:List Int) (k:Nat) (x:Int):List Int:=l.take k++x::l.drop k
def gu (d:cm):Nat->List Int×cm
 | 0=>([],d)
 | i+1=>(nT (gu d i).1 (gM (gu d i).2 i).toNat i,(gu d i).2.after i)
theorem Hg (d:cm) (n:Nat):(gu d n).2.a5.length<=d.a5.length:=by
 induction n with
 | zero=>exact Nat.le_refl _
 | succ n Γ=>exact Nat.le_trans (lN _ _) Γ
theorem Hh {l:List Int} {k:Nat} {x:Int}:(nT l k x).length=l.length+1:=by
 unfold nT;simp;omega
theorem Hi (d:cm) (n:Nat):(gu d n).1.length=n:=by
 induction n with
 | zero=>rfl
 | succ n Γ=>show(nT _ _ _).length=_;rw[Hh,Γ]
def il (l:List Int) (k:Nat):List Int:=(l++[0]).take (k+1)++l.drop k
theorem YA (l:List Int):il l l.length=l++[0]:=by unfold il;rw[List.take_of_length_le (by simp)];simp
theorem M8 {l:List Int} {k:Nat} (h:k<=l.length):(il l k).length=l.length+1:=by
 unfold il;simp;omega
theorem YB {l:List Int} {k:Nat} (h:k<l.length):(il l (k+1))[k]?=some l[k]:=by
 unfold il;rw[dW (by simp;omega),List.getElem?_take_of_lt (by omega),dW h,aX h]
theorem YC {l:List Int} {k:Nat} (h:k<l.length):(il l (k+1)).set (k+1) l[k]=il l k:=by
 unfold il;have Δ:((l++[0]).take (k+1+1))=(l++[0]).take (k+1)++[(l++[0])[k+1]'(by simp;omega)]:=List.take_succ_eq_append_getElem (by simp;omega);have Ε:l.drop k=l[k]::l.drop (k+1):=List.drop_eq_getElem_cons h;rw[Δ,Ε,List.append_assoc,List.set_append_right _ _ (by simp;omega)];congr 1;have:k+1-((l++[0]).take (k+1)).length=0:=by simp;omega
 rw[this];rfl
theorem YD {l:List Int} {k:Nat} {x:Int} (h:k<=l.length):(il l k).set k x=nT l k x:=by
 unfold il nT;have Δ:((l++[0]).take (k+1))=l.take k++[(l++[0])[k]'(by simp;omega)]:=by
  rw[List.take_succ_eq_append_getElem (by simp;omega),List.take_append_of_le_length h]
 rw[Δ,List.append_assoc,List.set_append_right _ _ (by rw[List.length_take];omega)];have:k-(l.take k).length=0:=by rw[List.length_take];omega
 rw[this];rfl
theorem M9 (d:cm) (hd:d.a5.length<2 ^ 63) (n:Nat) (Ι:n<1000):ej 63 [δ n] d (bC δ 1 (gu d n).1) (gu d n).2:=by
 unfold ej;refine aC.body Μ Tryz.func63 rfl rfl Tryz.ntmps63 rfl rfl (by simp) ?_;(repeat (first|apply μ|(refine ξ λθ I=>?_;simp;(repeat (rw[ε];simp));apply I)));refine W.iter (λi:Nat=>i<=n) (λi=>[(0,.ae 0 1 0 0),(1,δ n),(5,c8 1 ((gu d i).1.map δ)),(6,δ i)]) (λi=>bK (gu d i).2::bz 3 1 ((gu d i).1.map δ)) (λi=>n-i) 0 (Nat.zero_le _) rfl (by simp[c8,gu]) (λi hi Γ=>?_);(repeat (first|apply μ|(refine ξ λθ I=>?_;simp;(repeat (rw[ε];simp));apply I)));refine W.dR rfl (λη=>?_) (λη=>?_)
 ·have η:i<n:=by simpa using η
  have dJ:gu d (i+1)=(nT (gu d i).1 (gM (gu d i).2 i).toNat i,(gu d i).2.after i):=rfl;obtain⟨L,aS⟩:∃L,L=(gu d i).1:=⟨_,rfl⟩;obtain⟨D,dQ⟩:∃D,D=(gu d i).2:=⟨_,rfl⟩;have lz:L.length=i:=by rw[aS];exact Hi d i
  have mi:D.a5.length<2 ^ 63:=by rw[dQ];exact Nat.lt_of_le_of_lt (Hg d i) hd
  rw[<-aS,<-dQ] at dJ;rw[<-aS,<-dQ];obtain⟨t0,t1⟩:=p' D i (by omega) (by omega);obtain⟨ee,m5⟩:∃k:Nat,gM D i=k:=⟨(gM D i).toNat,by omega⟩;rw[m5] at dJ t1;have YE:ee<=i:=by omega
  (repeat apply μ);refine ξ λθ I=>?_;simp;(repeat (rw[ε];simp));refine ej.c (ri D mi i) 0 rfl (aE.refl _) (by simp) (by simp) ?_;simp;(repeat (rw[ε];simp));rw[m5];apply I
  repeat apply μ
  refine W.hD (A:=[19]) Μ [(0,.ae 0 1 0 0),(1,δ n),(5,.ms 1 (i+1) 0 (i+1)),(6,δ i),(7,δ ee)] [bK (D.after i),.cells 3 1 ((il L i).map δ)] ?_ (by
    have Ζ:(il L i).map δ=L.map δ++[δ 0]:=by rw[<-lz,YA];simp
    rw[Ζ];by_cases Ν:L=[]
    ·subst Ν;have jm:i=0:=by simpa using lz.symm
     subst jm;(try simp);(repeat (rw[ε];simp[iN,show c8 1 []=.sl true 0 [] from rfl]));(try simp[iN,show c8 1 []=.sl true 0 [] from rfl])
    ·have fL:L.map δ≠[]:=by simpa using Ν
     (try simp);(repeat (rw[ε];simp[gK fL,ei fL,lz]));(try simp[gK fL,ei fL,lz]);omega)
  (repeat (first|apply μ|(refine ξ λθ I=>?_;simp;(repeat (rw[ε];simp));apply I)));refine W.iter (λk:Nat=>ee<=k/\k<=i) (λk=>[(0,.ae 0 1 0 0),(1,δ n),(5,.ms 1 (i+1) 0 (i+1)),(6,δ i),(7,δ ee),(8,δ k)]) (λk=>[bK (D.after i),.cells 3 1 ((il L k).map δ)]) (λk=>k) i ⟨YE,Nat.le_refl _⟩ rfl (by simp) (λk Α Eb=>?_);(repeat (first|apply μ|(refine ξ λθ I=>?_;simp;(repeat (rw[ε];simp));apply I)));refine W.dR rfl (λa6=>?_) (λa6=>?_)
  ·have mB:ee<k:=by simpa using a6
   obtain⟨j,M'⟩:∃j,k=j+1:=⟨k-1,by omega⟩;have g6:j<L.length:=by omega
   have hw:IntKind.i64.wrap ((k:Int)-1)=j:=by rw[IntWalk.i64_in _ (by omega)];omega
   have vL:(il L k).length=i+1:=by rw[M8 (by omega),lz]
   obtain⟨y,ad⟩:∃y,(il L k)[k]?=some y:=⟨_,aX (by omega)⟩;obtain⟨ag,ck⟩:∃ag,ag=(il L k).map δ:=⟨_,rfl⟩;have Hj:ag.length=i+1:=by rw[ck,List.length_map,vL]
   have Hk:ag[j]?=some (δ L[j]):=by rw[ck,List.getElem?_map,M',YB g6];rfl
   have uA:ag[k]?=some (δ y):=by rw[ck,List.getElem?_map,ad];rfl
   have Hl:ag.set k (δ L[j])=(il L j).map δ:=by rw[ck,<-YC g6,List.map_set,M']
   have YF:∀h,ag[j]'h=δ L[j]:=λh=>by rw[aX h] at Hk;exact Option.some.inj Hk
   have Hm:∀h,ag[k]'h=δ y:=λh=>by rw[aX h] at uA;exact Option.some.inj uA
   refine W.to (σ':=[bK (D.after i),.cells 3 1 ag]) (env':=[(0,.ae 0 1 0 0),(1,δ n),(5,.ms 1 (i+1) 0 (i+1)),(6,δ i),(7,δ ee),(8,δ k)]) ?_ (by rw[ck]) (by simp);(repeat apply μ);refine ξ λθ I=>?_;simp;(repeat (rw[ε];simp[hw,Hj,Hk,uA,YF,Hm]));refine⟨by omega,by omega,?_⟩;apply I;(repeat (first|apply μ|(refine ξ λθ I=>?_;simp;(repeat (rw[ε];simp[hw]));apply I)));refine W.to (Eb j ⟨by omega,by omega⟩ (by omega)) ?_ ?_
   ·rw[Hl]
   ·simp
  ·have mB:k=ee:=by simp at a6;omega
   subst mB;refine W.exit rfl ?_;have vL:(il L k).length=i+1:=by rw[M8 (by omega),lz]
   obtain⟨y,ad⟩:∃y,(il L k)[k]?=some y:=⟨_,aX (by omega)⟩;obtain⟨ag,ck⟩:∃ag,ag=(il L k).map δ:=⟨_,rfl⟩;have Hj:ag.length=i+1:=by rw[ck,List.length_map,vL]
   have uA:ag[k]?=some (δ y):=by rw[ck,List.getElem?_map,ad];rfl
   have Hl:ag.set k (δ i)=(nT L k i).map δ:=by rw[ck,<-YD (by omega),List.map_set]
   have Hm:∀h,ag[k]'h=δ y:=λh=>by rw[aX h] at uA;exact Option.some.inj uA
   refine W.to (σ':=[bK (D.after i),.cells 3 1 ag]) (env':=[(0,.ae 0 1 0 0),(1,δ n),(5,.ms 1 (i+1) 0 (i+1)),(6,δ i),(7,δ k)]) ?_ (by rw[ck]) (by simp);(repeat apply μ);refine ξ λθ I=>?_;simp;(repeat (rw[ε];simp[Hj,uA,Hm]));refine⟨by omega,?_⟩;apply I;have hw:=eK η (show n<2 ^ 62 by omega);(repeat (first|apply μ|(refine ξ λθ I=>?_;simp;(repeat (rw[ε];simp[hw]));apply I)));have fL:(nT L k i).map δ≠[]:=λh=>by have:=congrArg List.length h;rw[List.length_map,Hh] at this;simp at this
   refine W.to (Γ (i+1) η (by omega)) ?_ ?_
   ·rw[dJ,Hl,ei (by simpa using fL)];rfl
   ·rw[dJ];simp only[Int.toNat_natCast];rw[gK fL];simp[hw,Hh,lz]
 ·have η:i=n:=by simp at η;omega
  subst η;refine W.exit rfl ?_;(repeat (first|apply μ|(refine ξ λθ I=>?_;simp;(repeat (rw[ε];simp));apply I)));refine W.cut 1 (by simp) [(4,fJ 1 ((gu d i).1.map δ))] (by simp) (λid r bS ι=>?_) ?_ ?_
  ·have:id=0:=by omega
   subst this;simp at ι;subst ι;exact λe he a κ=>by simp[ζ.cells] at he;subst he;simp[ζ.cells] at κ;rcases κ with rfl|rfl<;>simp[gH,ζ.cells]
  ·intro p χ;simp at χ;subst χ;show et 1 _ (aW _ 4) _;simp;refine B2 (t:=3) (Nat.le_refl _) (λΒ=>by rw[ei Β];rfl) (λe he a κ=>?_);obtain⟨x,_,rfl⟩:=List.mem_map.1 he;simp[ζ.cells] at κ;subst κ;exact .z _
  ·exact W.ret ⟨_,rfl,.acc,rfl⟩
theorem sJ (d:cm) (h:Nat):eJ h (bK d):=λe he a κ=>by
 simp[ζ.cells] at he;subst he;simp[ζ.cells] at κ;rcases κ with rfl|rfl<;>simp[gH,ζ.cells]
section
variable {P:Program} {m nt:Nat} {k:List Item} {env:Φ} {Z:List Item->Φ->List Row->Prop} {E:ζ->Φ->List Row->Prop}
theorem W.YG {d:cm} {t kk:Nat} {l:List ζ} {x:Nat} (hm:m<=1) (hb:∀e∈l,∀a∈e.cells,az 0 a) (env':Φ) (hd:aW env x=c8 1 l) (cq:∀p∈env',aW env p.1=p.2/\az 1 p.2) (hW:W P m nt k ((x,fJ kk l)::env') [bK d] Z E):W P m nt k env (bK d::bz t kk l) Z E:=
 W.cut 1 hm ((x,fJ kk l)::env') (by simp) (λid r bS ι=>by
  have:id=0:=by omega
  subst this;simp at ι;subst ι;exact sJ d 1) (λp χ=>by
  rcases List.mem_cons.1 χ with rfl|χ
  ·show et 1 _ (aW env x) _;rw[hd];exact B2 (t:=t) (Nat.le_refl _) (λΒ=>by rw[ei Β];rfl) (λe he a κ=>(hb e he a κ).mono (Nat.zero_le _))
  ·rw[(cq p χ).1];exact .low (cq p χ).2) (by simpa using hW)
end
theorem CZ {i n:Nat} (h:i<n) (Ι:n<1000):IntKind.i64.wrap ((i:Int)+1)=((i+1:Nat):Int):=by
 rw[IntWalk.i64_in _ (by omega)];omega
def g9 (d:cm):Nat->List Int×cm
 | 0=>([],d)
 | i+1=>((g9 d i).1++(if uz (g9 d i).2 2 then [(i:Int)] else []),(g9 d i).2.after 1)
theorem Na (d:cm) (n:Nat):(g9 d n).2.a5.length<=d.a5.length:=by
 induction n with
 | zero=>exact Nat.le_refl _
 | succ n Γ=>exact Nat.le_trans (lN _ _) Γ
theorem Nb (d:cm) (n:Nat):(g9 d n).1.length<=n:=by
 induction n with
 | zero=>exact Nat.le_refl _
 | succ n Γ=>
  show((g9 d n).1++_).length<=_;rw[List.length_append];split<;>simp<;>omega
theorem YH (d:cm) (hd:d.a5.length<2 ^ 63):ej 156 [δ 2] d (bJ (uz d 2)) (d.after 1):=Hf d hd 2 (by decide) (by decide)
theorem YI (d:cm) (hd:d.a5.length<2 ^ 63):ej 129 [] d (bC δ 1 (g9 d 3).1) (g9 d 3).2:=by
 unfold ej;obtain⟨n,Ι⟩:∃n,n=3:=⟨_,rfl⟩;rw[<-Ι];refine aC.body Μ Tryz.func129 rfl rfl Tryz.ntmps129 rfl rfl (by simp) ?_;(repeat (first|apply μ|(refine ξ λθ I=>?_;simp;(repeat (rw[ε];simp));apply I)));refine W.iter (λi:Nat=>i<=n) (λi=>[(0,.ae 0 1 0 0),(3,c8 1 ((g9 d i).1.map δ)),(4,δ i)]) (λi=>bK (g9 d i).2::bz 3 1 ((g9 d i).1.map δ)) (λi=>n-i) 0 (Nat.zero_le _) rfl (by simp[c8,g9]) (λi hi Γ=>?_);(repeat (first|apply μ|(refine ξ λθ I=>?_;simp;(repeat (rw[ε];simp));apply I)));refine W.dR rfl (λη=>?_) (λη=>?_)
 ·have η:i<n:=by simp at η;omega
  have dJ:g9 d (i+1)=((g9 d i).1++(if uz (g9 d i).2 2 then [(i:Int)] else []),(g9 d i).2.after 1):=rfl
  have lz:=Nb d i;obtain⟨L,aS⟩:∃L,L=(g9 d i).1:=⟨_,rfl⟩;obtain⟨D,dQ⟩:∃D,D=(g9 d i).2:=⟨_,rfl⟩;have mi:D.a5.length<2 ^ 63:=by rw[dQ];exact Nat.lt_of_le_of_lt (Na d i) hd
  rw[<-aS,<-dQ] at dJ;rw[<-aS] at lz;rw[<-aS,<-dQ];have hw:=CZ η (by omega);(repeat apply μ);refine ξ λθ I=>?_;simp;(repeat (rw[ε];simp));refine ej.c (YH D mi) 0 rfl (aE.refl _) (by simp) (by simp) ?_;simp;(repeat (rw[ε];simp));apply I;cases hb:uz D 2
  ·refine au rfl ?_;(repeat (first|apply μ|(refine ξ λθ I=>?_;simp;(repeat (rw[ε];simp[hw]));apply I)));refine W.to (Γ (i+1) η (by omega)) ?_ ?_
   ·rw[dJ,hb];simp
   ·rw[dJ,hb];simp[hw]
  ·refine ax rfl ?_
   repeat apply μ
   refine W.hD (A:=[14]) Μ [(0,.ae 0 1 0 0),(3,c8 1 ((L++[(i:Int)]).map δ)),(4,δ i)] (bK (D.after 1)::bz 3 1 ((L++[(i:Int)]).map δ)) ?_ (by
    rw[List.map_append,List.map_cons,List.map_nil,oE,gK (l:=L.map δ++[δ i]) (by simp)];by_cases Ν:L=[]
    ·subst Ν;(try simp);(repeat (rw[ε];simp[iN,show c8 1 []=.sl true 0 [] from rfl]));(try simp[iN,show c8 1 []=.sl true 0 [] from rfl])
    ·have fL:L.map δ≠[]:=by simpa using Ν
     (try simp);(repeat (rw[ε];simp[gK fL,ei fL]));(try simp[gK fL,ei fL]);omega)
   (repeat (first|apply μ|(refine ξ λθ I=>?_;simp;(repeat (rw[ε];simp[hw]));apply I)));refine W.to (Γ (i+1) η (by omega)) ?_ ?_
   ·rw[dJ,hb];simp
   ·rw[dJ,hb];simp[hw]
 ·have η:i=n:=by simp at η;omega
  subst η;refine W.exit rfl ?_;(repeat (first|apply μ|(refine ξ λθ I=>?_;simp;(repeat (rw[ε];simp));apply I)));refine W.YG (x:=2) (by simp) (λe he a κ=>?_) [] (by simp) (by simp) ?_
  ·obtain⟨x,_,rfl⟩:=List.mem_map.1 he;simp[ζ.cells] at κ;subst κ;exact .z _
  ·exact W.ret ⟨_,rfl,.acc,rfl⟩
end Go.TL
namespace Go.TL
open Go.Conc Go.Proofs
theorem Hn:@Seq nN calm:=@Seq.mk nN calm rfl (λ_ h=>h.rel) (λ_ h=>h.ao)
theorem YJ (w:World):Calm (aK.start w):=⟨rfl,rfl,rfl,λ_=>trivial⟩
def oW (w:World):al:=λb o=>((υ.ks w).av b o).map (·.1)
theorem YK (w:World):Holds (oW w) [] [] (υ.ks w):=
 ⟨λb o v h=>by
  unfold oW at h;cases η:(υ.ks w).av b o with
  | none=>rw[η] at h;cases h
  | some x=>rw[η] at h;cases h;exact⟨x.2,rfl⟩,rfl,λid r bo h=>by simp at h,λi j dT bW b fT fU _ h=>by simp at h,λid r b N h=>by simp at h⟩
theorem YL {P:Program} {f:FuncId} {fn:Func} {body:Code} {d:Nat} (cA:P.funcs[f]?=some fn) (l7:fn.body=some body) (eB:fn.results=#[.tmp d]) (aY:P.inits.idxOf? f=none) {w:World} {l:List ζ} {args:Array Value} (ι:e6 (oW w) [] [] l args) (Ι:l.length<=fn.ntmps)
  (hW:@W nN P 0 fn.ntmps [.code body] (entry 0 l) [] (λj env _=>(∃k,j=.code .ret::k)/\aW env d=bJ true) (λ_ _ _=>False)):Comes P (λv=>v=.bool true) w (solo (Go.Conc.G (Frame.enter P f args .normal) []) w) #[]:=by
 letI:bh:=nN;refine Goes.comes ?_;show b4 P _ true (aK.start w) (Frame.enter P f args .normal) [] (υ.ks w);rw[oz cA l7];refine hW (λv=>v=.bool true) true calm [] (Frame.enter P f args .normal) (oW w) [] (υ.ks w) _ Hn rfl (e5.enter (YK w) ι (Nat.le_refl _) Ι) (λj env' σ' aj B' H' t' Χ Ν κ χ Β=>?_) (λa env' σ' aj B' H' t' Χ v he=>he.elim) (aK.start w) (YJ w);obtain⟨⟨k,γ⟩,hd⟩:=Ν;have e:Χ=j:=Β;subst e;subst γ;refine aB.ret Hn rfl rfl (aB.done (v:=.bool true) Hn (λy h=>h.shut) (λy h=>h.deaf) rfl rfl rfl cA aY ?_ rfl);have hv:t'.getD d undef=.bool true:=by
  have:=χ.b7 d;rw[hd] at this;generalize t'.getD d undef=u at this;cases this;rfl
 show results fn t'=_;unfold results;rw[eB];rw[Array.getD_eq_getD_getElem?] at hv;simp[hv]
end Go.TL
namespace Go.TL
open Go.Conc Go.ConcM Go.Proofs
open Go.ChangeShapes Go.WideShapes Go.ChangeAt Go.RowKit
theorem YM:ownKnob Tryz.prog.godebug=none:=by kernel_rfl
theorem e0.below {W w:World} (h:e0 (λ_ _=>False) (λ_=>False) W w):Below W.heap.size W {w with os:=W.os}:=by
 refine⟨rfl,h.tape,h.output,h.size,λk Α=>?_⟩;show w.heap[k]?=W.heap[k]?;have e:=eM Α;cases η:Obj.qf W.heap[k] with
 | false=>rw[e];exact h.lO k _ e η id
 | true=>
  cases U:W.heap[k] with
  | cells c t dz=>
   rw[U] at e;obtain⟨c',J,R,ς⟩:=h.cells k c t dz e;have:c'=c:=by
    apply Array.ext' ;apply List.ext_getElem?;intro o;have:=ς o id;simpa using this
   rw[e,J,this]
  | _=>rw[U] at η;simp[Obj.qf] at η
theorem YN:laidOutB Tryz.prog=true:=by kernel_rfl
theorem YO:Tryz.prog.cellsOf 3=1:=by kernel_rfl
theorem YP {W:World} {b o:Nat} {v:Value} (h:W.cell? ⟨b,o,none⟩=some v):oW W b o=some v:=by
 unfold World.cell? at h;unfold oW υ.ks;simp only at h ⊢;split at h
 ·rename_i c t dz η;rw[η];simp at h ⊢;exact h
 ·cases h
theorem YQ {W:World} {a:Addr} {len cap:Nat} {fs:List Int} (Β:len<=cap) (Ν:len<=fs.length) (η:∀i,i<fs.length->W.cell? (a.add i)=some (.int .i64 (fs.getD i 0))) :
  ah (oW W) [] [] (bC δ 1 (fs.take len)) (.slice (some a) len cap):=by
 by_cases af:len=0
 ·subst af;exact .hN _ _ (by simp)
 ·have ν:a.spot=none:=by
   have:=η 0 (by omega);unfold World.cell? Addr.add at this;rw[if_pos rfl] at this;cases bF:a.spot with
   | none=>rfl
   | some x=>
    rw[bF] at this;simp at this;split at this<;>simp at this
  obtain⟨b,o,sp⟩:=a;simp only at ν;subst ν;have hlen:(fs.take len).length=len:=by rw[List.length_take];omega
  have one:∀(i:Nat) (e:ζ),((fs.take len).map δ)[i]?=some e->i<len/\e=δ (fs.getD i 0):=λi e hi=>by
   have hP:i<len:=by have:=(bU.1 hi).1;rw[List.length_map,hlen] at this;exact this
   rw[List.getElem?_map,List.getElem?_take_of_lt hP,aX (by omega)] at hi;refine⟨hP,?_⟩;rw[List.getD_eq_getElem?_getD,aX (by omega)];simpa using hi.symm
  have:=ah.sl (S:=oW W) (B:=[]) (σ:=[]) (ex:=false) (k:=1) (l:=(fs.take len).map δ) b o cap (λi _=>.int .i64 (fs.getD i 0)) (by simp) (by rw[List.length_map,hlen];exact Β)
   (λi e hi=>by rw[(one i e hi).2];rfl) (λi e hi j c γ=>by
    obtain⟨J,rfl⟩:=one i e hi
    match j with
    | 0=>
     refine YP ?_;have:=η i (by omega);unfold Addr.add at this;rw[Nat.mul_one,Nat.add_zero];split at this
     ·rename_i cw;subst cw;exact this
     ·exact this
    | j+1=>simp[ζ.cells] at γ) (λi e hi j c γ=>by
    obtain⟨J,rfl⟩:=one i e hi
    match j with
    | 0=>simp[ζ.cells] at γ;subst γ;exact .z _
    | j+1=>simp[ζ.cells] at γ)
  rw[List.length_map,hlen] at this;exact this
end Go.TL
