import Derived.Carry
import Derived.ChangeSlices
import Derived.Conc.HoldsTime
import Derived.OpenShut
import Derived.Test.YtlabjopijpkiaaaGreatSAF
import Derived.Test.YtlabjopijpkiaaaGreatSAK
import Derived.Test.YtlabjopijpkiaaaGreatSAS
import Derived.Test.YtlabjopijpkiaaaGreatSAZ
import Derived.Test.YtlabjopijpkiaaaGreatRows
set_option maxHeartbeats 16000000
set_option maxRecDepth 20000
set_option linter.unusedSectionVars false
set_option linter.unusedSimpArgs false
set_option linter.unusedVariables false
namespace Go.TL
open Go.Proofs
variable [bm]
theorem dΒ (d:cx) (hd:d.bg.length<2 ^ 63):ak Tryz.prog 73 [.al 0 1 0 0] [b6 d] (λr s=>r=QI (rQ d)/\s=[b6 d.next]) (λ_ _=>False):=by
 obtain⟨l,q⟩:=d;refine ak.body Ι Tryz.func73 rfl rfl Tryz.ntmps73 rfl rfl (by simp) ?_;(repeat (first|apply κ|(refine ν λη I=>?_;simp;(repeat (rw[δ];simp));apply I)));cases l with
 | nil=>
  refine ah (by simp) ?_;(repeat (first|apply κ|(refine ν λη I=>?_;simp;(repeat (rw[δ];simp));apply I)));refine W.draw (A:=[]) Ι mixed λη I=>?_;simp;(repeat (rw[ba];simp));try rw[a']
  refine⟨bK (by kernel_rfl),I _ _ ?_⟩
  repeat apply κ
  refine W.draw (A:=[]) Ι mixed λη I=>?_;simp;(repeat (rw[ba];simp));try rw[a']
  refine⟨bK (by kernel_rfl),I _ _ ?_⟩;(repeat (first|apply κ|(refine ν λη I=>?_;simp;(repeat (rw[δ];simp));apply I)));exact W.ret ⟨_,rfl,by simp[rQ,te,yt,Bb],by simp[cx.next,te,yt,Bb]⟩
 | cons a l=>
  refine aj (by simp) ?_;(repeat (first|apply κ|(refine ν λη I=>?_;simp;(repeat (rw[δ];simp));apply I)));have kT:List.take l.length (l.map R)=l.map R:=List.take_of_length_le (by simp);(repeat apply κ);refine ν λη I=>?_;simp;(repeat (rw[δ];simp[kT]));refine⟨by omega,?_⟩;apply I;(repeat (first|apply κ|(refine ν λη I=>?_;simp;(repeat (rw[δ];simp));apply I)));refine W.draw (A:=[]) Ι mixed λη I=>?_;simp;(repeat (rw[ba];simp));try rw[a']
  refine⟨bK (by kernel_rfl),I _ _ ?_⟩
  repeat apply κ
  refine W.draw (A:=[]) Ι mixed λη I=>?_;simp;(repeat (rw[ba];simp));try rw[a']
  refine⟨bK (by kernel_rfl),I _ _ ?_⟩;(repeat (first|apply κ|(refine ν λη I=>?_;simp;(repeat (rw[δ];simp));apply I)));exact W.ret ⟨_,rfl,by simp[rQ,te,yt,Bb],by simp[cx.next,te,yt,Bb]⟩
def ir (d:cx) (n:Int):Int:=if n<=0 then 0 else IntKind.i64.wrap ((IntKind.u64.wrap (rQ d*IntKind.u64.wrap (IntKind.i64.wrap (n+1)))).fdiv (2 ^ min 32 IntKind.u64.bits))
def cx.after (d:cx) (n:Int):cx:=if n<=0 then d else d.next
theorem pA (d:cx):iG (b6 d):=by simp[iG,θ.cells]
theorem JS (d:cx) (hd:d.bg.length<2 ^ 63) (n:Int):ak Tryz.prog 24 [.al 0 1 0 0,R n] [b6 d] (λr s=>r=R (ir d n)/\s=[b6 (d.after n)]) (λ_ _=>False):=by
 refine ak.body Ι Tryz.func24 rfl rfl Tryz.ntmps24 rfl rfl (by simp) ?_;(repeat (first|apply κ|(refine ν λη I=>?_;simp;(repeat (rw[δ];simp));apply I)));by_cases h:n<=0
 ·refine aj (by simp[h]) ?_;(repeat (first|apply κ|(refine ν λη I=>?_;simp;(repeat (rw[δ];simp));apply I)));exact W.ret ⟨_,rfl,by simp[ir,h],by simp[cx.after,h]⟩
 ·refine ah (by simp[h]) ?_;(repeat (first|apply κ|(refine ν λη I=>?_;simp;(repeat (rw[δ];simp));apply I)));(repeat apply κ);refine ν λη I=>?_;simp;(repeat (rw[δ];simp));refine ak.one (as0:=[.al 0 1 0 0]) (dΒ d hd) 0 rfl (pA d) (pA d.next) (by simp[ga,o8]) ((au.z _).ih 1) rfl ?_;simp[od];(repeat (rw[δ];simp));apply I;exact W.ret ⟨_,rfl,by simp[ir,h],by simp[cx.after,h]⟩
def nO (d:cx) (a b:Int):Int:=IntKind.i64.wrap (a+ir d (IntKind.i64.wrap (b-a)))
theorem dΓ (d:cx) (hd:d.bg.length<2 ^ 63) (a b:Int):ak Tryz.prog 38 [.al 0 1 0 0,R a,R b] [b6 d] (λr s=>r=R (nO d a b)/\s=[b6 (d.after (IntKind.i64.wrap (b-a)))]) (λ_ _=>False):=by
 refine ak.body Ι Tryz.func38 rfl rfl Tryz.ntmps38 rfl rfl (by simp) ?_;(repeat (first|apply κ|(refine ν λη I=>?_;simp;(repeat (rw[δ];simp));apply I)));(repeat apply κ);refine ν λη I=>?_;simp;(repeat (rw[δ];simp));refine ak.one (as0:=[.al 0 1 0 0,R (IntKind.i64.wrap (b-a))]) (JS d hd _) 0 rfl (pA d) (pA _) (by simp[ga,o8]) ((au.z _).ih 1) rfl ?_;simp[od];(repeat (rw[δ];simp));apply I;exact W.ret ⟨_,rfl,rfl,rfl⟩
end Go.TL
namespace Go.TL
open Go.Proofs
theorem dΔ (x:Int):0<=IntKind.u64.wrap x/\IntKind.u64.wrap x<18446744073709551616:=by
 unfold IntKind.wrap;simp[IntKind.bits,IntKind.signed];omega
theorem u64_in (x:Int) (h:0<=x) (γ:x<18446744073709551616):IntKind.u64.wrap x=x:=by
 unfold IntKind.wrap;simp[IntKind.bits,IntKind.signed];omega
theorem QJ:(2:Int) ^ min 32 IntKind.u64.bits=4294967296:=by decide
theorem dΕ (d:cx):0<=rQ d/\rQ d<4294967296:=by
 unfold rQ;rw[QJ];generalize U:IntKind.u64.wrap _=x;have:=dΔ (zF .u64 (te d) ((te d).fdiv (2 ^ min 33 IntKind.u64.bits))*18397679294719823053);rw[U] at this;rw[Int.fdiv_eq_ediv_of_nonneg _ (by decide)];omega
theorem uS (d:cx) (n:Int) (ag:0<=n) (Η:n<2147483647):0<=ir d n/\ir d n<=n:=by
 unfold ir;split
 ·omega
 ·obtain⟨r0,r1⟩:=dΕ d;rw[QJ,IntWalk.i64_in (n+1) (by omega),u64_in (n+1) (by omega) (by omega)];have hm:rQ d*(n+1)<=4294967295*(n+1):=Int.mul_le_mul_of_nonneg_right (by omega) (by omega);have ψ:0<=rQ d*(n+1):=Int.mul_nonneg r0 (by omega);generalize rQ d*(n+1)=y at hm ψ;rw[u64_in y ψ (by omega),Int.fdiv_eq_ediv_of_nonneg _ (by decide),IntWalk.i64_in _ (by omega)];omega
end Go.TL
namespace Go.TL
open Go.Proofs
variable [bm]
def tf (d:cx) (l:List Int):Nat:=(ir d ((l.length:Int)-1)).toNat
theorem dΖ (d:cx) (hd:d.bg.length<2 ^ 63) (l:List Int) (ag:0<l.length) (ω:l.length<1000000):ak Tryz.prog 61 [.al 0 1 0 0,aP R 1 l] [b6 d] (λr s=>r=R (l.getD (tf d l) 0)/\s=[b6 (d.after ((l.length:Int)-1))]) (λ_ _=>False):=by
 refine ak.body Ι Tryz.func61 rfl rfl Tryz.ntmps61 rfl rfl (by simp) ?_;have hw:IntKind.i64.wrap ((l.length:Int)-1)=(l.length:Int)-1:=IntWalk.i64_in _ (by omega);obtain⟨t0,t1⟩:=uS d ((l.length:Int)-1) (by omega) (by omega);obtain⟨k,χ⟩:∃k:Nat,ir d ((l.length:Int)-1)=k:=⟨(ir d ((l.length:Int)-1)).toNat,by omega⟩;have iT:k<l.length:=by omega
 have dG:tf d l=k:=by unfold tf;rw[χ];rfl
 (repeat (first|apply κ|(refine ν λη I=>?_;simp;(repeat (rw[δ];simp));apply I)));(repeat apply κ);refine ν λη I=>?_;simp;(repeat (rw[δ];simp[hw]));refine ak.one (as0:=[.al 0 1 0 0,R ((l.length:Int)-1)]) (JS d hd _) 0 rfl (pA d) (pA _) (by simp[ga,o8]) ((au.z _).ih 1) rfl ?_;rw[χ];simp[od,iT];(repeat (rw[δ];simp[iT]));apply I;exact W.ret ⟨_,rfl,by rw[dG];simp[List.getD_eq_getElem?_getD,iT],rfl⟩
end Go.TL
namespace Go.TL
open Go.Conc
variable [bm]
section
variable {P:Program} {T:bd} {A:List Nat} {m nt:Nat} {k:List Item} {env:aa} {σ:List Row} {Z:List Item->aa->List Row->Prop} {E:θ->aa->List Row->Prop} {ops:Array Oper}
def QK (P:Program) (m nt:Nat) (k:List Item) (Z:List Item->aa->List Row->Prop) (E:θ->aa->List Row->Prop) (ops:Array Oper) (i:Nat) (o:Oper) (env:aa) (r:Row) (a:θ) (r2:Row):Prop:=
 ∀env' τ rest,o6 ops o env env'->W P m nt (.inRegion ops rest::k) (ca o env' a) (r2::τ) Z E->W P m nt (.inRegion ops (i::rest)::k) env' (r::τ) Z E
def StepB (P:Program) (m nt:Nat) (k:List Item) (Z:List Item->aa->List Row->Prop) (E:θ->aa->List Row->Prop) (ops:Array Oper) (i:Nat) (o:Oper) (env:aa) (τ:List Row) (a:θ) (dΗ:List Row):Prop:=
 ∀env' r rest,o6 ops o env env'->W P m nt (.inRegion ops rest::k) (ca o env' a) (r::dΗ) Z E->W P m nt (.inRegion ops (i::rest)::k) env' (r::τ) Z E
theorem QL {α:Type} {f:Nat->α} {tags:List Bool} (DI:∀i o,ops[i]?=some o->writer ops tags i=false->f (i+1)=f i):∀a b,a<=ops.size->b<=ops.size->(∀j,j<ops.size->writer ops tags j=true->(j<a↔j<b))->f a=f b:=by
 have z4:∀(d a:Nat),a+d<=ops.size->(∀j,a<=j->j<a+d->writer ops tags j=false)->f (a+d)=f a:=by
  intro d
  induction d with
  | zero=>intro a _ _;rfl
  | succ d Δ=>
   intro a hle h;have J:ops[a+d]?=some ops[a+d]:=e7 (by omega);have:=DI (a+d) _ J (h (a+d) (by omega) (by omega));rw[show a+(d+1)=a+d+1 by omega,this];exact Δ a (by omega) λj J γ=>h j J (by omega)
 intro a b ξ hb h;rcases Nat.le_total a b with hle|hle
 ·have:=z4 (b-a) a (by omega) λj J γ=>by
   cases Ο:writer ops tags j with
   | false=>rfl
   | true=>have:=(h j (by omega) Ο).2 (by omega);omega
  rw[show a+(b-a)=b by omega] at this;exact this.symm
 ·have:=z4 (a-b) b (by omega) λj J γ=>by
   cases Ο:writer ops tags j with
   | false=>rfl
   | true=>have:=(h j (by omega) Ο).1 (by omega);omega
  rw[show b+(a-b)=a by omega] at this;exact this
theorem QM {tags:List Bool} (dG:kV ops tags=true):∀i o,ops[i]?=some o->(∀j∈g6 o,j<i)/\∀j bT,j<i->ops[j]?=some bT->clash ops tags i j o bT=true->j∈(DD ops).getD i []:=by
 intro i o Γ;have hi:i<ops.size:=(Array.getElem?_eq_some_iff.1 Γ).1;unfold kV at dG;simp only[List.all_eq_true,List.mem_range] at dG;have h:=dG i hi;rw[Γ] at h;simp only[Bool.and_eq_true,List.all_eq_true,decide_eq_true_eq,List.mem_range] at h;refine⟨h.1,λj bT ε dh ζ=>?_⟩;have γ:=h.2 j ε;rw[dh] at γ;simp only[ζ,Bool.not_true,Bool.false_or,List.contains_iff_mem] at γ;exact γ
theorem QN {tags:List Bool}:∀j,writer ops tags j=true->tags.getD j false=true:=λj h=>by
 unfold writer at h;rw[Bool.and_eq_true] at h;exact h.1
theorem QO {tags:List Bool} {i:Nat} {ny:Oper} (nz:tags.getD i false=true):∀j bT,ops[j]?=some bT->writer ops tags j=true->clash ops tags i j ny bT=true/\clash ops tags j i bT ny=true:=λj bT dh Ο=>by
 have J:=QN j Ο;unfold writer at Ο;rw[J,dh] at Ο;have γ:mI bT=false:=by simpa using Ο
 unfold clash;rw[J,nz,γ];simp
theorem W.dΘ {as9:Nat->θ} {ρs:Nat->Row} {τs:Nat->List Row} {td tb:List Bool} {env0:aa} (dΙ:kV ops td=true) (dΚ:kV ops tb=true)
  (dA:∀i o,ops[i]?=some o->td.getD i false=false->tb.getD i false=false->xV P m nt k Z E ops i o (c6 ops env0 as9 (λ_=>true) i) (as9 i))
  (dQ:∀i o,ops[i]?=some o->td.getD i false=true->QK P m nt k Z E ops i o (c6 ops env0 as9 (λ_=>true) i) (ρs i) (as9 i) (ρs (i+1))/\tb.getD i false=false)
  (e5:∀i o,ops[i]?=some o->tb.getD i false=true->StepB P m nt k Z E ops i o (c6 ops env0 as9 (λ_=>true) i) (τs i) (as9 i) (τs (i+1)))
  (dΜ:∀i o,ops[i]?=some o->writer ops td i=false->ρs (i+1)=ρs i) (dΝ:∀i o,ops[i]?=some o->writer ops tb i=false->τs (i+1)=τs i)
  (HU:W P m nt (.inRegion ops []::k) (c6 ops env0 as9 (λ_=>true) ops.size) (ρs ops.size::τs ops.size) Z E) :
  ∀(fuel:Nat) (t:Nat) (listed:Array Bool) (env:aa) (cK g3:Nat),listed.size=ops.size->
   (∀i,a3 env i=a3 (c6 ops env0 as9 (λi=>listed.getD i false) ops.size) i)->
   (∀i o,ops[i]?=some o->listed.getD i false=true->∀j∈g6 o,listed.getD j false=true)->
   cK<=ops.size->g3<=ops.size->(∀j,j<ops.size->writer ops td j=true->(listed.getD j false=true↔j<cK))->(∀j,j<ops.size->writer ops tb j=true->(listed.getD j false=true↔j<g3))->
   ((List.range ops.size).filter λi=>!listed.getD i false).length<=fuel->
   W P m nt (.inRegion ops (Region.linearise.go .any ops fuel t listed [])::k) env (ρs cK::τs g3) Z E:=by
 have v3:=QM dΙ
 have QP:=QM dΚ
 have sM:∀i o,ops[i]?=some o->∀j∈g6 o,j<i:=λi o Γ=>(v3 i o Γ).1
 have QQ:=QL dΜ
 have QR:=QL dΝ;intro fuel;have done:∀(t:Nat) (listed:Array Bool) (env:aa) (cK g3:Nat),(∀i,i<ops.size->listed.getD i false=true)->(∀i,a3 env i=a3 (c6 ops env0 as9 (λi=>listed.getD i false) ops.size) i)->cK<=ops.size->g3<=ops.size->
   (∀j,j<ops.size->writer ops td j=true->(listed.getD j false=true↔j<cK))->(∀j,j<ops.size->writer ops tb j=true->(listed.getD j false=true↔j<g3))->W P m nt (.inRegion ops []::k) env (ρs cK::τs g3) Z E:=λt listed env cK g3 hM cD iF n2 ic uT=>by
  have Ζ:ρs cK=ρs ops.size:=QQ cK ops.size iF (Nat.le_refl _) λj ε Ο=>by rw[<-ic j ε Ο];simp[hM j ε,ε]
  have Ε:τs g3=τs ops.size:=QR g3 ops.size n2 (Nat.le_refl _) λj ε Ο=>by rw[<-uT j ε Ο];simp[hM j ε,ε]
  rw[Ζ,Ε];refine .congr (λi=>?_) HU;rw[cD i];exact xW ops.size λi o hi _ _=>hM i hi
 have HV:∀listed:Array Bool,listed.size=ops.size->(∃i,i<ops.size/\listed.getD i false=false)->∃i,i<ops.size/\listed.getD i false=false/\∀j,j<i->listed.getD j false=true:=λlisted cm ⟨i,hi,ω⟩=>by
  induction i using Nat.strongRecOn with
  | _ i Δ=>
   by_cases ε:∃j,j<i/\listed.getD j false=false
   ·obtain⟨j,J,γ⟩:=ε;exact Δ j J (by omega) γ
   ·exact⟨i,hi,ω,λj bp=>by
     cases h:listed.getD j false with
     | true=>rfl
     | false=>exact absurd ⟨j,bp,h⟩ ε⟩
 induction fuel with
 | zero=>
  intro t listed env cK g3 cm cD bP iF n2 ic uT HW;have hM:∀i,i<ops.size->listed.getD i false=true:=λi hi=>by
   cases h:listed.getD i false with
   | true=>rfl
   | false=>
    have lN:i∈(List.range ops.size).filter λi=>!listed.getD i false:=by rw[List.mem_filter];exact⟨List.mem_range.2 hi,by rw[h];rfl⟩
    have:((List.range ops.size).filter λi=>!listed.getD i false)=[]:=dp.1 (by omega);rw[this] at lN;simp at lN
  exact done t listed env cK g3 hM cD iF n2 ic uT
 | succ fuel Δ=>
  intro t listed env cK g3 cm cD bP iF n2 ic uT HW;simp only[Region.linearise.go];generalize jX:((List.range ops.size).filter λi=>!listed.getD i true&&((ops[i]?).map (·.after.all λe=>!Region.binds .any e||listed.getD e.on false)).getD false)=rs;have z5:∀i,i<ops.size->listed.getD i true=listed.getD i false:=λi hi=>by
   rw[Array.getD_eq_getD_getElem?,Array.getD_eq_getD_getElem?,e7 (by omega)];rfl
  have z6:∀i,i∈rs↔i<ops.size/\listed.getD i false=false/\∀o,ops[i]?=some o->∀j∈g6 o,listed.getD j false=true:=λi=>by
   rw[<-jX];simp only[List.mem_filter,List.mem_range,Bool.and_eq_true,Bool.not_eq_true'];constructor
   ·rintro⟨J,γ,π⟩;rw[z5 i J] at γ;refine⟨J,γ,λo Γ j ε=>?_⟩;rw[Γ] at π;simp only[Option.map_some,Option.getD_some,Array.all_eq_true'] at π;unfold g6 at ε;simp only[List.mem_map,List.mem_filter] at ε;obtain⟨e,⟨rj,lQ⟩,rfl⟩:=ε;have:=π e (by simpa using rj);simpa[lQ] using this
   ·rintro⟨J,γ,π⟩;refine⟨J,by rw[z5 i J];exact γ,?_⟩;have Γ:ops[i]?=some ops[i]:=e7 J;rw[Γ];simp only[Option.map_some,Option.getD_some,Array.all_eq_true'];intro e he;by_cases hb:Region.binds .any e=true
    ·have:=π _ Γ e.on (by unfold g6;simp only[List.mem_map,List.mem_filter];exact⟨e,⟨by simpa using he,hb⟩,rfl⟩);simp[this]
    ·simp[hb]
  cases hi:rs[t % rs.length]? with
  | none=>
   simp only[List.reverse_nil];have zn:rs=[]:=by
    cases μ:rs with
    | nil=>rfl
    | cons x xs=>
     rw[μ] at hi;have aD:t % (x::xs).length<(x::xs).length:=Nat.mod_lt _ (by simp);rw[aW aD] at hi;cases hi
   have hM:∀i,i<ops.size->listed.getD i false=true:=λi a9=>by
    cases h:listed.getD i false with
    | true=>rfl
    | false=>
     obtain⟨r,J,γ,π⟩:=HV listed cm ⟨i,a9,h⟩;have:r∈rs:=(z6 r).2 ⟨J,γ,λo Γ j ε=>π j (sM r o Γ j ε)⟩;rw[zn] at this;simp at this
   exact done t listed env cK g3 hM cD iF n2 ic uT
  | some i=>
   simp only;rw[NU];have lN:i∈rs:=ck hi;obtain⟨J,γ,π⟩:=(z6 i).1 lN;have Γ:ops[i]?=some ops[i]:=e7 J;have HX:=DF sM (λj=>listed.getD j false=true) (λj o ε ω=>bP j o ε ω) i _ Γ (π _ Γ);have low:∀j bT,j<i->ops[j]?=some bT->(clash ops td i j ops[i] bT=true\/clash ops tb i j ops[i] bT=true)->listed.getD j false=true:=λj bT ε dh ζ=>HX j (ζ.elim (λζ=>(v3 i _ Γ).2 j bT ε dh ζ) (λζ=>(QP i _ Γ).2 j bT ε dh ζ));have high:∀j bT,i<j->ops[j]?=some bT->(clash ops td j i bT ops[i]=true\/clash ops tb j i bT ops[i]=true)->listed.getD j false=false:=λj bT ε dh ζ=>by
    cases ω:listed.getD j false with
    | false=>rfl
    | true=>
     have:=DF sM (λj=>listed.getD j false=true) (λj o ε ω=>bP j o ε ω) j bT dh (bP j bT dh ω) i (ζ.elim (λζ=>(v3 j bT dh).2 i _ ε Γ ζ) (λζ=>(QP j bT dh).2 i _ ε Γ ζ));rw[γ] at this;cases this
   have same:o6 ops ops[i] (c6 ops env0 as9 (λ_=>true) i) env:=λx U=>by
    rw[cD x];have c1:a3 (c6 ops env0 as9 (λi=>listed.getD i false) ops.size) x=a3 (c6 ops env0 as9 (λi=>listed.getD i false) i) x:=DH (by omega) λj bT xX HY dh hd=>by
     by_cases e:j=i
     ·subst e;exact γ
     ·refine high j bT (by omega) dh ?_;unfold clash;simp[hd,U]
    rw[c1];exact xW i λj bT ε dh hd=>low j bT ε dh (.inl (by unfold clash;simp[hd,U]))
   have nj:∀x,a3 (ca ops[i] env (as9 i)) x=a3 (c6 ops env0 as9 (λj=>(listed.setIfInBounds i true).getD j false) ops.size) x:=λx=>by
    have j4:∀j,(listed.setIfInBounds i true).getD j false=if j=i then true else listed.getD j false:=λj=>by
     rw[Array.getD_eq_getD_getElem?,Array.getD_eq_getD_getElem?];by_cases e:j=i
     ·subst e;rw[Array.getElem?_setIfInBounds_self_of_lt (by omega)];simp
     ·rw[Array.getElem?_setIfInBounds_ne (Ne.symm e),if_neg e]
    rw[vY];by_cases hd:ops[i].dst=some x
    ·rw[if_pos hd];have c1:a3 (c6 ops env0 as9 (λj=>(listed.setIfInBounds i true).getD j false) ops.size) x=a3 (c6 ops env0 as9 (λj=>(listed.setIfInBounds i true).getD j false) (i+1)) x:=DH (by omega) λj bT xX HY dh tZ=>by
      rw[j4,if_neg (by omega)];refine high j bT (by omega) dh (.inl ?_);unfold clash;simp[hd,tZ]
     rw[c1];simp only[c6,j4,if_true,Γ,vY,hd]
    ·rw[if_neg hd,cD x];exact xW ops.size λj bT ε dh tZ=>by
      rw[j4,if_neg];intro e;subst e;rw[Γ] at dh;cases dh;exact hd tZ
   have j4:∀j,(listed.setIfInBounds i true).getD j false=if j=i then true else listed.getD j false:=λj=>by
    rw[Array.getD_eq_getD_getElem?,Array.getD_eq_getD_getElem?];by_cases e:j=i
    ·subst e;rw[Array.getElem?_setIfInBounds_self_of_lt (by omega)];simp
    ·rw[Array.getElem?_setIfInBounds_ne (Ne.symm e),if_neg e]
   have v5:((List.range ops.size).filter λj=>!(listed.setIfInBounds i true).getD j false).length<=fuel:=by
    have aD:((List.range ops.size).filter λj=>!(listed.setIfInBounds i true).getD j false).length<((List.range ops.size).filter λj=>!listed.getD j false).length:=by
     have:((List.range ops.size).filter λj=>!(listed.setIfInBounds i true).getD j false)=((List.range ops.size).filter λj=>!listed.getD j false).filter λj=>j != i:=by
      rw[List.filter_filter];apply List.filter_congr;intro j _;rw[j4];by_cases e:j=i
      ·subst e;simp
      ·simp[e]
     rw[this];have hm:i∈(List.range ops.size).filter λj=>!listed.getD j false:=by
      rw[List.mem_filter];exact⟨List.mem_range.2 J,by rw[γ];rfl⟩
     exact List.length_filter_lt_length_iff_exists.2 ⟨i,hm,by simp⟩
    omega
   have rk:∀j o,ops[j]?=some o->(listed.setIfInBounds i true).getD j false=true->∀y∈g6 o,(listed.setIfInBounds i true).getD y false=true:=λj o ε ω y Ξ=>by
    rw[j4] at ω ⊢;by_cases e:y=i
    ·rw[if_pos e]
    ·rw[if_neg e];by_cases Ε:j=i
     ·subst Ε;rw[Γ] at ε;cases ε;exact π _ Γ y Ξ
     ·rw[if_neg Ε] at ω;exact bP j o ε ω y Ξ
   have keep:∀(tags:List Bool) (cK:Nat),tags.getD i false=false->(∀j,j<ops.size->writer ops tags j=true->(listed.getD j false=true↔j<cK))->∀j,j<ops.size->writer ops tags j=true->((listed.setIfInBounds i true).getD j false=true↔j<cK):=λtags cK nz ic j ε Ο=>by
    rw[j4];have:j≠i:=λe=>by subst e;rw[QN j Ο] at nz;cases nz
    rw[if_neg this];exact ic j ε Ο
   have keepW:∀(tags:List Bool) (cK:Nat),writer ops tags i=false->(∀j,j<ops.size->writer ops tags j=true->(listed.getD j false=true↔j<cK))->∀j,j<ops.size->writer ops tags j=true->((listed.setIfInBounds i true).getD j false=true↔j<cK):=λtags cK iZ ic j ε Ο=>by
    rw[j4];have:j≠i:=λe=>by subst e;rw[Ο] at iZ;cases iZ
    rw[if_neg this];exact ic j ε Ο
   have both:∀(tags:List Bool),tags.getD i false=true->(∀j bT,j<i->ops[j]?=some bT->clash ops tags i j ops[i] bT=true->listed.getD j false=true)->(∀j bT,i<j->ops[j]?=some bT->clash ops tags j i bT ops[i]=true->listed.getD j false=false)->
     (∀j,j<ops.size->writer ops tags j=true->j<i->listed.getD j false=true)/\(∀j,j<ops.size->writer ops tags j=true->i<j->listed.getD j false=false):=λtags nz lo hi=>⟨λj ε Ο sN=>lo j _ sN (e7 ε) (QO nz j _ (e7 ε) Ο).1,λj ε Ο sN=>hi j _ sN (e7 ε) (QO nz j _ (e7 ε) Ο).2⟩
   have QS:∀(tags:List Bool) (cK:Nat),(∀j,j<ops.size->writer ops tags j=true->j<i->listed.getD j false=true)->(∀j,j<ops.size->writer ops tags j=true->i<j->listed.getD j false=false)->(∀j,j<ops.size->writer ops tags j=true->(listed.getD j false=true↔j<cK))->∀j,j<ops.size->writer ops tags j=true->(j<cK↔j<i):=λtags cK lo hi ic j ε Ο=>by
    rw[<-ic j ε Ο];constructor
    ·intro ω;apply Classical.byContradiction;intro Η;by_cases e:j=i
     ·subst e;rw[γ] at ω;cases ω
     ·rw[hi j ε Ο (by omega)] at ω;cases ω
    ·exact lo j ε Ο
   have next:∀(tags:List Bool),(∀j,j<ops.size->writer ops tags j=true->j<i->listed.getD j false=true)->(∀j,j<ops.size->writer ops tags j=true->i<j->listed.getD j false=false)->∀j,j<ops.size->writer ops tags j=true->((listed.setIfInBounds i true).getD j false=true↔j<i+1):=λtags lo hi j ε Ο=>by
    rw[j4];by_cases e:j=i
    ·subst e;simp
    ·rw[if_neg e];constructor
     ·intro ω;apply Classical.byContradiction;intro Η;rw[hi j ε Ο (by omega)] at ω;cases ω
     ·intro aD;exact lo j ε Ο (by omega)
   cases Bc:td.getD i false with
   | true=>
    obtain⟨cA,yu⟩:=dQ i _ Γ Bc;obtain⟨lo,a9⟩:=both td Bc (λj bT a b c=>low j bT a b (.inl c)) (λj bT a b c=>high j bT a b (.inl c));rw[QQ cK i iF (by omega) (QS td cK lo a9 ic)];refine cA env _ _ same ?_;exact Δ _ _ _ (i+1) g3 (by simpa using cm) nj rk (by omega) n2 (next td lo a9) (keep tb g3 yu uT) v5
   | false=>
    cases yu:tb.getD i false with
    | false=>
     refine dA i _ Γ Bc yu env _ _ same ?_;exact Δ _ _ _ cK g3 (by simpa using cm) nj rk iF n2 (keep td cK Bc ic) (keep tb g3 yu uT) v5
    | true=>
     obtain⟨lo,a9⟩:=both tb yu (λj bT a b c=>low j bT a b (.inr c)) (λj bT a b c=>high j bT a b (.inr c));rw[QR g3 i n2 (by omega) (QS tb g3 lo a9 uT)];refine e5 i _ Γ yu env _ _ same ?_;exact Δ _ _ _ cK (i+1) (by simpa using cm) nj rk iF (by omega) (keep td cK Bc ic) (next tb lo a9) v5
def yv (f:Row->cZ) (K:θ->List Row->Prop):Prop:=∃a eI,((∀r,f r=.ok a (r::eI))\/∃p:Prop,p/\∀r,f r=.b4 p (.ok a (r::eI)))/\K a eI
theorem dΞ {f g:Row->cZ} {K:θ->List Row->Prop} (h:∀r,f r=g r):yv f K=yv g K:=by rw[funext h]
theorem dΟ {a:θ} {τ:List Row} {K:θ->List Row->Prop}:yv (λr=>.ok a (r::τ)) K=K a τ:=by
 refine propext ⟨λ⟨b,eI,h,χ⟩=>?_,λh=>⟨a,τ,.inl λ_=>rfl,h⟩⟩;rcases h with h|⟨p,_,h⟩
 ·have:=h (.map []);injection this with J γ
  injection γ with _ γ
  rw[J,γ];exact χ
 ·have:=h (.map []);cases this
theorem dΡ {p:Prop} {a:θ} {τ:List Row} {K:θ->List Row->Prop}:yv (λr=>.b4 p (.ok a (r::τ))) K=(p/\K a τ):=by
 refine propext ⟨λ⟨b,eI,h,χ⟩=>?_,λh=>⟨a,τ,.inr ⟨p,h.1,λ_=>rfl⟩,h.2⟩⟩;rcases h with h|⟨q,Ρ,h⟩
 ·have:=h (.map []);cases this
 ·have:=h (.map []);injection this with ag J
  injection J with J γ
  injection γ with _ γ
  rw[J,γ];exact⟨ag▸Ρ,χ⟩
def Ff (P:Program) (f:θ) (args:List θ) (r:Row) (hr:θ->Prop) (pB:θ->Row->Prop):Prop:=
 (∃a,gj P f args a/\hr a)\/∃a r',(∀τ,hG P f args (r::τ) (λb s=>b=a/\s=r'::τ) (λ_ _=>False))/\pB a r'
theorem dΤ {P:Program} {f:θ} {args:List θ} {r r':Row} {hr:θ->Prop} {pB:θ->Row->Prop} {a:θ} (h:∀τ,hG P f args (r::τ) (λb s=>b=a/\s=r'::τ) (λ_ _=>False)) (k:pB a r'):Ff P f args r hr pB:=.inr ⟨a,r',h,k⟩
def Bd (P:Program) (T:bd) (A:List Nat) (env:aa) (o:Oper) (r:Row) (τ:List Row) (hr:θ->Prop) (pB:θ->Row->Prop) (ky:θ->List Row->Prop):Prop:=match o.op with
 | .call ⟨.value f,args,_⟩=>Ff P (aQ env f) (args.toList.map (aQ env)) r hr pB
 | .panic _=>False
 | .defer _=>False
 | _=>(mF T A env o).gv hr (yv (λr=>kx T A env (r::τ) o) ky)
theorem dΥ {P:Program} {T:bd} {A:List Nat} {env:aa} {o:Oper} {r:Row} {τ:List Row} {hr:θ->Prop} {pB:θ->Row->Prop} {ky:θ->List Row->Prop}:Bd P T A env o r τ hr pB ky=match o.op with
 | .call ⟨.value f,args,_⟩=>Ff P (aQ env f) (args.toList.map (aQ env)) r hr pB
 | .panic _=>False
 | .defer _=>False
 | _=>(mF T A env o).gv hr (yv (λr=>kx T A env (r::τ) o) ky):=Eq.trans rfl rfl
def iu (P:Program) (T:bd) (A:List Nat) (nt:Nat) (ops:Array Oper):List Nat->aa->Row->List Row->List Bool->List Bool->(aa->List Row->Prop)->Prop
 | [],env,r,τ,td,tb,K=>kV ops td=true/\kV ops tb=true/\K env (r::τ)
 | i::is,env,r,τ,td,tb,K=>gP ops[i]? λo=>hT nt o=true/\gP (fz env ops o) λw=>
   jE w (iu P T A nt ops is (ca o env .cg) r τ (td++[false]) (tb++[false]) K)
    (Bd P T A env o r τ (λa=>iu P T A nt ops is (ca o env a) r τ (td++[false]) (tb++[false]) K) (λa r'=>iu P T A nt ops is (ca o env a) r' τ (td++[true]) (tb++[false]) K) (λa eI=>iu P T A nt ops is (ca o env a) r eI (td++[false]) (tb++[true]) K))
def QT (P:Program) (T:bd) (A:List Nat) (nt:Nat) (ops:Array Oper) (is:List Nat) (o:Oper) (env:aa) (r:Row) (τ:List Row) (td tb:List Bool) (K:aa->List Row->Prop) (a:θ):Prop:=iu P T A nt ops is (ca o env a) r τ (td++[false]) (tb++[false]) K
def QU (P:Program) (T:bd) (A:List Nat) (nt:Nat) (ops:Array Oper) (is:List Nat) (o:Oper) (env:aa) (τ:List Row) (td tb:List Bool) (K:aa->List Row->Prop) (a:θ) (r:Row):Prop:=iu P T A nt ops is (ca o env a) r τ (td++[true]) (tb++[false]) K
def QV (P:Program) (T:bd) (A:List Nat) (nt:Nat) (ops:Array Oper) (is:List Nat) (o:Oper) (env:aa) (r:Row) (td tb:List Bool) (K:aa->List Row->Prop) (a:θ) (τ:List Row):Prop:=iu P T A nt ops is (ca o env a) r τ (td++[false]) (tb++[true]) K
section
variable {is:List Nat} {i:Nat} {o:Oper} {r:Row} {τ:List Row} {td tb:List Bool} {K:aa->List Row->Prop} {a:θ}
theorem lg:iu P T A nt ops [] env r τ td tb K=(kV ops td=true/\kV ops tb=true/\K env (r::τ)):=Eq.trans rfl rfl
theorem lh:iu P T A nt ops (i::is) env r τ td tb K=gP ops[i]? λo=>hT nt o=true/\gP (fz env ops o) λw=>
   jE w (iu P T A nt ops is (ca o env .cg) r τ (td++[false]) (tb++[false]) K) (Bd P T A env o r τ (QT P T A nt ops is o env r τ td tb K) (QU P T A nt ops is o env τ td tb K) (QV P T A nt ops is o env r td tb K)):=Eq.trans rfl rfl
theorem dΦ:QT P T A nt ops is o env r τ td tb K a=iu P T A nt ops is (ca o env a) r τ (td++[false]) (tb++[false]) K:=Eq.trans rfl rfl
theorem dΧ:QU P T A nt ops is o env τ td tb K a r=iu P T A nt ops is (ca o env a) r τ (td++[true]) (tb++[false]) K:=Eq.trans rfl rfl
theorem dΨ:QV P T A nt ops is o env r td tb K a τ=iu P T A nt ops is (ca o env a) r τ (td++[false]) (tb++[true]) K:=Eq.trans rfl rfl
end
def JU (P:Program) (m nt:Nat) (k:List Item) (Z:List Item->aa->List Row->Prop) (E:θ->aa->List Row->Prop) (ops:Array Oper) (i:Nat) (o:Oper) (env:aa) (r:Row) (τ:List Row) (d b:Bool) (a:θ) (r':Row) (eI:List Row):Prop:=
 (d=true/\b=false/\QK P m nt k Z E ops i o env r a r'/\eI=τ)\/(d=false/\b=true/\StepB P m nt k Z E ops i o env τ a eI/\r'=r/\(mI o=true->eI=τ))\/(d=false/\b=false/\xV P m nt k Z E ops i o env a/\r'=r/\eI=τ)
theorem dΩ (Κ:bR P T) {i:Nat} {is:List Nat} {r:Row} {τ:List Row} {td tb:List Bool} {K:aa->List Row->Prop} (h:iu P T A nt ops (i::is) env r τ td tb K) :
  ∃o a r' eI d b,ops[i]?=some o/\JU P m nt k Z E ops i o env r τ d b a r' eI/\(d=true->mI o=false)/\iu P T A nt ops is (ca o env a) r' eI (td++[d]) (tb++[b]) K:=by
 unfold iu gP at h;split at h
 ·exact h.elim
 ·rename_i o Γ;obtain⟨hd,h⟩:=h;split at h
  ·exact h.elim
  rename_i w hw;unfold jE at h;cases w
  ·replace h:=h.1 rfl
   exact⟨o,.cg,r,τ,false,false,Γ,.inr (.inr ⟨rfl,rfl,λenv' σ' rest ο hW=>.unwanted Γ (by rw[rl ο];exact hw) hd hW,rfl,rfl⟩),λh=>(by cases h),h⟩
  ·replace h:=h.2 rfl
   unfold Bd at h;split at h
   ·rename_i f args dS Ν;have z8:∀env',o6 ops o env env'->aQ env' f=aQ env f/\args.toList.map (aQ env')=args.toList.map (aQ env):=λenv' ο=>by
     have U:=DK ο;rw[Ν] at U;refine⟨U f (by simp[Op.operands,Call.operands]),DN λx v7=>U x (by simp[Op.operands,Call.operands,v7])⟩
    rcases h with⟨a,ζ,h⟩|⟨a,r',ζ,h⟩
    ·refine⟨o,a,r,τ,false,false,Γ,.inr (.inr ⟨rfl,rfl,λenv' σ' rest ο hW=>.call Γ (by rw[rl ο];exact hw) hd Ν ?_,rfl,rfl⟩),λh=>(by cases h),h⟩;obtain⟨Ζ,Ε⟩:=z8 env' ο;rw[Ζ,Ε];exact(ζ σ').mono (λa s ⟨x,y⟩=>by subst x;subst y;exact hW) (λ_ _ h=>h.elim)
    ·refine⟨o,a,r',τ,true,false,Γ,.inl ⟨rfl,rfl,λenv' eI rest ο hW=>.call Γ (by rw[rl ο];exact hw) hd Ν ?_,rfl⟩,λ_=>(by unfold mI;rw[Ν]),h⟩;obtain⟨Ζ,Ε⟩:=z8 env' ο;rw[Ζ,Ε];exact(ζ eI).mono (λa s ⟨x,y⟩=>by subst x;subst y;exact hW) (λ_ _ h=>h.elim)
   ·exact h.elim
   ·exact h.elim
   ·rename_i J γ π;have z9:∀(Be:cw) (a:θ),mF T A env o=Be->(∀K:θ->List Row->Prop,∀s,K a s->(Be.dq s).holds K)->(∀σ s,Be.or σ s=Be.dq σ)->xV P m nt k Z E ops i o env a:=λBe a μ aU H0 env' σ' rest ο hW=>by
     refine .op (A:=A) Κ Γ (by rw[rl ο];exact hw) hd (λc ζ=>π c ζ) ?_;rw[DQ ο,μ,H0];exact aU _ _ hW
    unfold cw.gv at h;split at h
    ·rename_i a ξ;exact⟨o,a,r,τ,false,false,Γ,.inr (.inr ⟨rfl,rfl,z9 _ a ξ (λK s χ=>χ) (λ_ _=>rfl),rfl,rfl⟩),λh=>(by cases h),h⟩
    ·rename_i p a ξ;exact⟨o,a,r,τ,false,false,Γ,.inr (.inr ⟨rfl,rfl,z9 _ a ξ (λK s χ=>⟨h.1,χ⟩) (λ_ _=>rfl),rfl,rfl⟩),λh=>(by cases h),h.2⟩
    ·exact h.elim
    ·rename_i xQ;have DT:∀(a:θ) (eI:List Row),(∀r,∃x:cZ,kx T A env (r::τ) o=x/\∀K:θ->List Row->Prop,K a (r::eI)->x.holds K)->StepB P m nt k Z E ops i o env τ a eI:=λa eI μ env' r rest ο hW=>by
      obtain⟨x,μ,aU⟩:=μ r;refine .op (A:=A) Κ Γ (by rw[rl ο];exact hw) hd (λc ζ=>π c ζ) ?_;rw[DQ ο,N2 ο,xQ,μ];exact aU _ hW
     obtain⟨a,eI,hu,χ⟩:=h;refine⟨o,a,r,eI,false,true,Γ,.inr (.inl ⟨rfl,rfl,DT a eI λr=>?_,rfl,λμ=>?_⟩),λh=>(by cases h),χ⟩
     ·rcases hu with hu|⟨p,ψ,hu⟩
      ·exact⟨_,hu r,λK χ=>χ⟩
      ·exact⟨_,hu r,λK χ=>⟨ψ,χ⟩⟩
     ·have:r::eI=r::τ:=by
       rcases hu with hu|⟨p,ψ,hu⟩
       ·exact DS (p:=True) μ (.inl (hu r))
       ·exact DS μ (.inr (hu r))
      injection this
theorem eα (Κ:bR P T) {K:aa->List Row->Prop} {env0:aa}:∀(d i:Nat) (td tb:List Bool) (as9:Nat->θ) (ρs:Nat->Row) (τs:Nat->List Row),i+d=ops.size->td.length=i->tb.length=i->
  (∀j o,j<i->ops[j]?=some o->JU P m nt k Z E ops j o (c6 ops env0 as9 (λ_=>true) j) (ρs j) (τs j) (td.getD j false) (tb.getD j false) (as9 j) (ρs (j+1)) (τs (j+1))/\(td.getD j false=true->mI o=false))->
  iu P T A nt ops (List.range' i d) (c6 ops env0 as9 (λ_=>true) i) (ρs i) (τs i) td tb K->
  ∃(td tb:List Bool) (as9:Nat->θ) (rR:Nat->Row) (rS:Nat->List Row),kV ops td=true/\kV ops tb=true/\rR 0=ρs 0/\rS 0=τs 0/\(∀j o,ops[j]?=some o->JU P m nt k Z E ops j o (c6 ops env0 as9 (λ_=>true) j) (rR j) (rS j) (td.getD j false) (tb.getD j false) (as9 j) (rR (j+1)) (rS (j+1))/\(td.getD j false=true->mI o=false))/\K (c6 ops env0 as9 (λ_=>true) ops.size) (rR ops.size::rS ops.size):=by
 intro d
 induction d with
 | zero=>
  intro i td tb as9 ρs τs hi Ο wH ε h;simp only[List.range'_zero,iu] at h;have:i=ops.size:=by omega
  subst this;exact⟨td,tb,as9,ρs,τs,h.1,h.2.1,rfl,rfl,λj o Γ=>ε j o (Array.getElem?_eq_some_iff.1 Γ).1 Γ,h.2.2⟩
 | succ d Δ=>
  intro i td tb as9 ρs τs hi Ο wH ε h;rw[List.range'_succ] at h;obtain⟨o,a,r',eI,JV,oQ,Γ,H2,cd,h⟩:=dΩ (m:=m) (k:=k) (Z:=Z) (E:=E) Κ h;let kz:Nat->θ:=λj=>if j=i then a else as9 j
  let rR:Nat->Row:=λj=>if j=i+1 then r' else ρs j
  let rS:Nat->List Row:=λj=>if j=i+1 then eI else τs j
  have v8:∀j,j<=i->c6 ops env0 as9 (λ_=>true) j=c6 ops env0 kz (λ_=>true) j:=λj ε=>N5 j λx U=>by simp only[kz];rw[if_neg (by omega)]
  have H3:c6 ops env0 kz (λ_=>true) (i+1)=ca o (c6 ops env0 as9 (λ_=>true) i) a:=by
   simp only[c6,if_true,Γ];rw[<-v8 i (Nat.le_refl i)];simp only[kz,if_true]
  have xz:∀(t:List Bool) (x:Bool),t.length=i->(t++[x]).getD i false=x:=λt x h=>by rw[List.getD_eq_getElem?_getD,fS (by omega),h];simp
  have QW:∀(t:List Bool) (x:Bool) (j:Nat),t.length=i->j<i->(t++[x]).getD j false=t.getD j false:=λt x j h ε=>by rw[List.getD_eq_getElem?_getD,dB (by omega),<-List.getD_eq_getElem?_getD]
  have:=Δ (i+1) (td++[JV]) (tb++[oQ]) kz rR rS (by omega) (by simp[Ο]) (by simp[wH]) (λj bT aD dh=>?_) ?_
  ·obtain⟨t1,t2,bl,r2,s2,Τ,af,aX,cr,gH,ib⟩:=this;exact⟨t1,t2,bl,r2,s2,Τ,af,aX.trans (by simp only[rR];rw[if_neg (by omega)]),cr.trans (by simp only[rS];rw[if_neg (by omega)]),gH,ib⟩
  ·by_cases e:j=i
   ·subst e;rw[Γ] at dh;cases dh;rw[<-v8 j (Nat.le_refl j),xz td JV Ο,xz tb oQ wH];simp only[kz,rR,rS,if_true];rw[if_neg (by omega),if_neg (by omega)];exact⟨H2,cd⟩
   ·have:=ε j bT (by omega) dh;rw[<-v8 j (by omega),QW td JV j Ο (by omega),QW tb oQ j wH (by omega)];simp only[kz,rR,rS];rw[if_neg (by omega),if_neg (by omega),if_neg (by omega),if_neg (by omega),if_neg (by omega)];exact this
  ·rw[H3];simp only[rR,rS,if_true];exact h
theorem W.JW (Κ:bR P T) (sO:P.follows .mixedOrders=true) {r:Row} {τ:List Row} {id:Nat} (h:∀η:aa->List Row->Prop,(∀env σ,W P m nt k env σ Z E->η env σ)->iu P T A nt ops (idx ops.size []) env r τ [] [] η):W P m nt (.code (.region id ops true)::k) env (r::τ) Z E:=by
 have ag:=h (λenv σ=>W P m nt k env σ Z E) λ_ _ h=>h;rw[idx_eq,List.range_eq_range'] at ag;obtain⟨td,tb,as9,ρs,τs,Τ,af,aX,cr,gH,ib⟩:=eα (m:=m) (k:=k) (Z:=Z) (E:=E) (env0:=env) Κ ops.size 0 [] [] (λ_=>.cg) (λ_=>r) (λ_=>τ) (by omega) rfl rfl (λj o ε=>by omega) ag;intro Q mn x cs b S B H t U hb ψ Θ he;refine .draw U hb λn=>?_;have Fg:∀i:Nat,(Array.replicate ops.size false).getD i false=false:=λi=>by
  rw[Array.getD_eq_getD_getElem?,Array.getElem?_replicate];split<;>rfl
 have key:=W.dΘ (P:=P) (m:=m) (nt:=nt) (k:=k) (Z:=Z) (E:=E) (ops:=ops) (as9:=as9) (ρs:=ρs) (τs:=τs) (td:=td) (tb:=tb) (env0:=env) Τ af
  (λi o Γ J γ=>by
   rcases(gH i o Γ).1 with⟨a,_⟩|⟨_,a,_⟩|⟨_,_,a,_⟩
   ·rw[J] at a;cases a
   ·rw[γ] at a;cases a
   ·exact a)
  (λi o Γ J=>by
   rcases(gH i o Γ).1 with⟨_,b,a,_⟩|⟨a,_⟩|⟨a,_⟩
   ·exact⟨a,b⟩
   ·rw[J] at a;cases a
   ·rw[J] at a;cases a)
  (λi o Γ J=>by
   rcases(gH i o Γ).1 with⟨_,a,_⟩|⟨_,_,a,_⟩|⟨_,a,_⟩
   ·rw[J] at a;cases a
   ·exact a
   ·rw[J] at a;cases a)
  (λi o Γ hw=>by
   rcases(gH i o Γ).1 with⟨a,_⟩|⟨_,_,_,a,_⟩|⟨_,_,_,a,_⟩
   ·unfold writer at hw;rw[a,Γ] at hw;simp[(gH i o Γ).2 a] at hw
   ·exact a
   ·exact a)
  (λi o Γ hw=>by
   rcases(gH i o Γ).1 with⟨_,_,_,a⟩|⟨_,b,_,_,a⟩|⟨_,_,_,_,a⟩
   ·exact a
   ·refine a ?_;unfold writer at hw;rw[b,Γ] at hw;simpa using hw
   ·exact a)
  (.bF ib) ops.size n (Array.replicate ops.size false) env 0 0 (by simp) (λi=>?_) (λi o Γ ω=>?_) (Nat.zero_le _) (Nat.zero_le _) (λj ε _=>?_) (λj ε _=>?_) ?_
 ·rw[aX,cr] at key;rw[sO];simp only[Region.schedule,Bool.true_or,if_true,Region.linearise];exact key Q mn x cs b S B H t U hb ψ Θ he
 ·have:∀n,c6 ops env as9 (λi=>(Array.replicate ops.size false).getD i false) n=env:=by
   intro n
   induction n with
   | zero=>rfl
   | succ n Δ=>
    simp only[c6];rw[if_neg (by rw[Fg n];simp)];exact Δ
  rw[this]
 ·rw[Fg] at ω;cases ω
 ·rw[Fg];simp
 ·rw[Fg];simp
 ·have:=List.length_filter_le (λi=>!(Array.replicate ops.size false).getD i false) (List.range ops.size);simpa using this
theorem eβ {K K':aa->List Row->Prop} (I:∀e s,K e s->K' e s):∀(is:List Nat) (env:aa) (r:Row) (τ:List Row) (td tb:List Bool),iu P T A nt ops is env r τ td tb K->iu P T A nt ops is env r τ td tb K':=by
 intro is
 induction is with
 | nil=>intro env r τ td tb h;exact⟨h.1,h.2.1,I _ _ h.2.2⟩
 | cons i is Δ=>
  intro env r τ td tb h;unfold iu gP at h ⊢;cases Γ:ops[i]? with
  | none=>rw[Γ] at h;exact h.elim
  | some o=>
   rw[Γ] at h;simp only at h ⊢;refine⟨h.1,?_⟩
   replace h:=h.2
   cases hw:fz env ops o with
   | none=>rw[hw] at h;exact h.elim
   | some w=>
    rw[hw] at h;unfold jE at h ⊢;refine⟨λe=>Δ _ _ _ _ _ (h.1 e),λe=>?_⟩
    replace h:=h.2 e
    unfold Bd at h ⊢;split
    ·rename_i f args dS Ν;rw[Ν] at h;simp only at h;rcases h with⟨a,ζ,h⟩|⟨a,r',ζ,h⟩
     ·exact .inl ⟨a,ζ,Δ _ _ _ _ _ h⟩
     ·exact .inr ⟨a,r',ζ,Δ _ _ _ _ _ h⟩
    ·rename_i Ν;rw[Ν] at h;exact h
    ·rename_i Ν;rw[Ν] at h;exact h
    ·rename_i J γ π;split at h
     ·rename_i f args dS Ν;exact absurd Ν (J f args dS)
     ·rename_i y Ν;exact absurd Ν (γ y)
     ·rename_i y Ν;exact absurd Ν (π y)
     ·unfold cw.gv at h ⊢;split at h
      ·exact Δ _ _ _ _ _ h
      ·exact⟨h.1,Δ _ _ _ _ _ h.2⟩
      ·exact h.elim
      ·obtain⟨a,eI,hu,χ⟩:=h;exact⟨a,eI,hu,Δ _ _ _ _ _ χ⟩
theorem W.QX (Κ:bR P T) (sO:P.follows .mixedOrders=true) (g5:aa) (gw:List Row) {r:Row} {τ:List Row} {id:Nat} (h:W P m nt k g5 gw Z E) (μ:iu P T A nt ops (idx ops.size []) env r τ [] [] (λe s=>s=gw/\∀p∈g5,a3 e p.1=p.2)):W P m nt (.code (.region id ops true)::k) env (r::τ) Z E:=
 W.JW Κ sO λη I=>eβ (λe s ⟨J,γ⟩=>I e s (J▸W.forget g5 γ h)) _ _ _ _ _ _ μ
theorem W.yw (Κ:bR P T) (sO:P.follows .mixedOrders=true) (g5:aa) (gw:List Row) {id:Nat} (h:W P m nt k g5 gw Z E) (μ:i' P T A nt ops (idx ops.size []) env σ [] (λe s=>s=gw/\∀p∈g5,a3 e p.1=p.2)):W P m nt (.code (.region id ops true)::k) env σ Z E:=
 W.draw Κ sO λη I=>N6 (λe s ⟨J,γ⟩=>I e s (J▸W.forget g5 γ h)) _ _ _ _ μ
end
end Go.TL
namespace Go.TL
open Go.Proofs
variable [bm]
attribute [congr] dΞ
attribute [simp] dΟ dΡ dΥ dΦ dΧ dΨ
def er (g:FuncId) (args:List θ) (d:cx) (r:θ) (ef:cx):Prop:=ak Tryz.prog g (.al 0 1 0 0::args) [b6 d] (λa s=>cG a r/\s=[b6 ef]) (λ_ _=>False)
theorem QY {l:List θ} (h:∀a∈l,au 0 a) (ρ:List Nat):l.map (dM ρ)=l:=by
 induction l with
 | nil=>rfl
 | cons a l Δ=>rw[List.map_cons,(h a (by simp)).dM,Δ λx U=>h x (by simp[U])]
theorem er.c {g:FuncId} {args gk:List θ} {d ef:cx} {r:θ} {σ:List Row} {K E:θ->List Row->Prop} (h:er g args d r ef) (id:Nat) (bW:σ[id]?=some (b6 d)) (he:aK gk args) (ξ:∀a∈gk,au 0 a) (μ:au 0 r) (I:K r (σ.set id (b6 ef))):hG Tryz.prog (.fn (.func g) [] []) (.al id 1 0 0::gk) σ K E:=by
 refine ak.one (as0:=.al 0 1 0 0::gk) (r:=r) (row':=b6 ef) (ak.kX h (.cons (.refl _) he) λa s ⟨J,γ⟩=>⟨r,J,rfl,γ⟩) id bW (pA d) (pA ef) ?_ (μ.ih 1) ?_ ?_
 ·intro a hm;rcases List.mem_cons.1 hm with rfl|hm
  ·exact Nat.zero_lt_one
  ·exact(ξ a hm).ih 1
 ·rw[List.map_cons,QY ξ];rfl
 ·rw[μ.dM];exact I
theorem er.e {g:FuncId} {args gk:List θ} {d ef:cx} {r:θ} {hr:θ->Prop} {pB:θ->Row->Prop} (h:er g args d r ef) (he:aK gk args) (ξ:∀a∈gk,au 0 a) (μ:au 0 r) (I:pB r (b6 ef)):Ff Tryz.prog (.fn (.func g) [] []) (.al 0 1 0 0::gk) (b6 d) hr pB:=
 dΤ (λτ=>h.c 0 rfl he ξ μ ⟨rfl,rfl⟩) I
@[simp] theorem lj (d:cx) (n:Int):(d.after n).bg.length<=d.bg.length:=by
 unfold cx.after;split
 ·exact Nat.le_refl _
 ·simp[cx.next]
theorem wO (d:cx) (hd:d.bg.length<2 ^ 63) (n:Int):er 24 [R n] d (R (ir d n)) (d.after n):=(JS d hd n).mono (λa s ⟨J,γ⟩=>⟨.of J,γ⟩) (λ_ _ h=>h)
theorem yx (d:cx) (hd:d.bg.length<2 ^ 63) (a b:Int):er 38 [R a,R b] d (R (nO d a b)) (d.after (IntKind.i64.wrap (b-a))):=(dΓ d hd a b).mono (λa s ⟨J,γ⟩=>⟨.of J,γ⟩) (λ_ _ h=>h)
theorem QZ (d:cx) (hd:d.bg.length<2 ^ 63) (l:List Int) (ag:0<l.length) (ω:l.length<1000000):er 61 [aP R 1 l] d (R (l.getD (tf d l) 0)) (d.after ((l.length:Int)-1)):=(dΖ d hd l ag ω).mono (λa s ⟨J,γ⟩=>⟨.of J,γ⟩) (λ_ _ h=>h)
def wP (d:cx) (n:Int):Bool:=decide (ir d (n-1)=n.tdiv 2)
theorem JX (d:cx) (hd:d.bg.length<2 ^ 63) (n:Int) (J:1<=n) (γ:n<1000):er 156 [R n] d (a4 (wP d n)) (d.after (n-1)):=by
 have hw:IntKind.i64.wrap (n-1)=n-1:=IntWalk.i64_in _ (by omega);unfold er;refine ak.body Ι Tryz.func156 rfl rfl Tryz.ntmps156 rfl rfl (by simp) ?_;(repeat (first|apply κ|(refine ν λη I=>?_;simp;(repeat (rw[δ];simp));apply I)));(repeat apply κ);refine ν λη I=>?_;simp;(repeat (rw[δ];simp[hw]));refine er.c (wO d hd (n-1)) 0 rfl (aK.refl _) (by simp) (by simp) ?_;simp[hw];(repeat (rw[δ];simp[hw]));apply I;have Ο:IntKind.i64.wrap (n.tdiv 2)=n.tdiv 2:=by
  rw[Int.tdiv_eq_ediv_of_nonneg (by omega)];exact IntWalk.i64_in _ (by omega)
 rw[Ο];exact W.ret ⟨_,rfl,.refl _,rfl⟩
def pC (l:List Int) (k:Nat) (x:Int):List Int:=l.take k++x::l.drop k
def g9 (d:cx):Nat->List Int×cx
 | 0=>([],d)
 | i+1=>(pC (g9 d i).1 (ir (g9 d i).2 i).toNat i,(g9 d i).2.after i)
theorem JY (d:cx) (n:Nat):(g9 d n).2.bg.length<=d.bg.length:=by
 induction n with
 | zero=>exact Nat.le_refl _
 | succ n Δ=>exact Nat.le_trans (lj _ _) Δ
theorem JZ {l:List Int} {k:Nat} {x:Int}:(pC l k x).length=l.length+1:=by
 unfold pC;simp;omega
theorem J0 (d:cx) (n:Nat):(g9 d n).1.length=n:=by
 induction n with
 | zero=>rfl
 | succ n Δ=>show(pC _ _ _).length=_;rw[JZ,Δ]
def jh (l:List Int) (k:Nat):List Int:=(l++[0]).take (k+1)++l.drop k
theorem eγ (l:List Int):jh l l.length=l++[0]:=by unfold jh;rw[List.take_of_length_le (by simp)];simp
theorem Q0 {l:List Int} {k:Nat} (h:k<=l.length):(jh l k).length=l.length+1:=by
 unfold jh;simp;omega
theorem eδ {l:List Int} {k:Nat} (h:k<l.length):(jh l (k+1))[k]?=some l[k]:=by
 unfold jh;rw[dB (by simp;omega),List.getElem?_take_of_lt (by omega),dB h,aW h]
theorem eε {l:List Int} {k:Nat} (h:k<l.length):(jh l (k+1)).set (k+1) l[k]=jh l k:=by
 unfold jh;have Ζ:((l++[0]).take (k+1+1))=(l++[0]).take (k+1)++[(l++[0])[k+1]'(by simp;omega)]:=List.take_succ_eq_append_getElem (by simp;omega);have Ε:l.drop k=l[k]::l.drop (k+1):=List.drop_eq_getElem_cons h;rw[Ζ,Ε,List.append_assoc,List.set_append_right _ _ (by simp;omega)];congr 1;have:k+1-((l++[0]).take (k+1)).length=0:=by simp;omega
 rw[this];rfl
theorem eζ {l:List Int} {k:Nat} {x:Int} (h:k<=l.length):(jh l k).set k x=pC l k x:=by
 unfold jh pC;have Ζ:((l++[0]).take (k+1))=l.take k++[(l++[0])[k]'(by simp;omega)]:=by
  rw[List.take_succ_eq_append_getElem (by simp;omega),List.take_append_of_le_length h]
 rw[Ζ,List.append_assoc,List.set_append_right _ _ (by rw[List.length_take];omega)];have:k-(l.take k).length=0:=by rw[List.length_take];omega
 rw[this];rfl
theorem Q1 (d:cx) (hd:d.bg.length<2 ^ 63) (n:Nat) (Η:n<1000):er 63 [R n] d (aP R 1 (g9 d n).1) (g9 d n).2:=by
 unfold er;refine ak.body Ι Tryz.func63 rfl rfl Tryz.ntmps63 rfl rfl (by simp) ?_;(repeat (first|apply κ|(refine ν λη I=>?_;simp;(repeat (rw[δ];simp));apply I)));refine W.iter (λi:Nat=>i<=n) (λi=>[(0,.al 0 1 0 0),(1,R n),(5,cq 1 ((g9 d i).1.map R)),(6,R i)]) (λi=>b6 (g9 d i).2::bj 3 1 ((g9 d i).1.map R)) (λi=>n-i) 0 (Nat.zero_le _) rfl (by simp[cq,g9]) (λi hi Δ=>?_);(repeat (first|apply κ|(refine ν λη I=>?_;simp;(repeat (rw[δ];simp));apply I)));refine W.en rfl (λζ=>?_) (λζ=>?_)
 ·have ζ:i<n:=by simpa using ζ
  have dU:g9 d (i+1)=(pC (g9 d i).1 (ir (g9 d i).2 i).toNat i,(g9 d i).2.after i):=rfl;obtain⟨L,aC⟩:∃L,L=(g9 d i).1:=⟨_,rfl⟩;obtain⟨D,dQ⟩:∃D,D=(g9 d i).2:=⟨_,rfl⟩;have mR:L.length=i:=by rw[aC];exact J0 d i
  have m3:D.bg.length<2 ^ 63:=by rw[dQ];exact Nat.lt_of_le_of_lt (JY d i) hd
  rw[<-aC,<-dQ] at dU;rw[<-aC,<-dQ];obtain⟨t0,t1⟩:=uS D i (by omega) (by omega);obtain⟨ev,lk⟩:∃k:Nat,ir D i=k:=⟨(ir D i).toNat,by omega⟩;rw[lk] at dU t1;have eη:ev<=i:=by omega
  (repeat apply κ);refine ν λη I=>?_;simp;(repeat (rw[δ];simp));refine er.c (wO D m3 i) 0 rfl (aK.refl _) (by simp) (by simp) ?_;simp;(repeat (rw[δ];simp));rw[lk];apply I
  repeat apply κ
  refine W.fL (A:=[19]) Ι [(0,.al 0 1 0 0),(1,R n),(5,.ms 1 (i+1) 0 (i+1)),(6,R i),(7,R ev)] [b6 (D.after i),.cells 3 1 ((jh L i).map R)] ?_ (by
    have Κ:(jh L i).map R=L.map R++[R 0]:=by rw[<-mR,eγ];simp
    rw[Κ];by_cases Θ:L=[]
    ·subst Θ;have iR:i=0:=by simpa using mR.symm
     subst iR;(try simp);(repeat (rw[δ];simp[iJ,show cq 1 []=.sl true 0 [] from rfl]));(try simp[iJ,show cq 1 []=.sl true 0 [] from rfl])
    ·have gl:L.map R≠[]:=by simpa using Θ
     (try simp);(repeat (rw[δ];simp[gz gl,dY gl,mR]));(try simp[gz gl,dY gl,mR]);omega)
  (repeat (first|apply κ|(refine ν λη I=>?_;simp;(repeat (rw[δ];simp));apply I)));refine W.iter (λk:Nat=>ev<=k/\k<=i) (λk=>[(0,.al 0 1 0 0),(1,R n),(5,.ms 1 (i+1) 0 (i+1)),(6,R i),(7,R ev),(8,R k)]) (λk=>[b6 (D.after i),.cells 3 1 ((jh L k).map R)]) (λk=>k) i ⟨eη,Nat.le_refl _⟩ rfl (by simp) (λk χ xw=>?_);(repeat (first|apply κ|(refine ν λη I=>?_;simp;(repeat (rw[δ];simp));apply I)));refine W.en rfl (λa5=>?_) (λa5=>?_)
  ·have n4:ev<k:=by simpa using a5
   obtain⟨j,Q2⟩:∃j,k=j+1:=⟨k-1,by omega⟩;have gx:j<L.length:=by omega
   have hw:IntKind.i64.wrap ((k:Int)-1)=j:=by rw[IntWalk.i64_in _ (by omega)];omega
   have uw:(jh L k).length=i+1:=by rw[Q0 (by omega),mR]
   obtain⟨y,Ξ⟩:∃y,(jh L k)[k]?=some y:=⟨_,aW (by omega)⟩;obtain⟨Ω,bb⟩:∃Ω,Ω=(jh L k).map R:=⟨_,rfl⟩;have wQ:Ω.length=i+1:=by rw[bb,List.length_map,uw]
   have tg:Ω[j]?=some (R L[j]):=by rw[bb,List.getElem?_map,Q2,eδ gx];rfl
   have wR:Ω[k]?=some (R y):=by rw[bb,List.getElem?_map,Ξ];rfl
   have J1:Ω.set k (R L[j])=(jh L j).map R:=by rw[bb,<-eε gx,List.map_set,Q2]
   have eθ:∀h,Ω[j]'h=R L[j]:=λh=>by rw[aW h] at tg;exact Option.some.inj tg
   have J2:∀h,Ω[k]'h=R y:=λh=>by rw[aW h] at wR;exact Option.some.inj wR
   refine W.to (σ':=[b6 (D.after i),.cells 3 1 Ω]) (env':=[(0,.al 0 1 0 0),(1,R n),(5,.ms 1 (i+1) 0 (i+1)),(6,R i),(7,R ev),(8,R k)]) ?_ (by rw[bb]) (by simp);(repeat apply κ);refine ν λη I=>?_;simp;(repeat (rw[δ];simp[hw,wQ,tg,wR,eθ,J2]));refine⟨by omega,by omega,?_⟩;apply I;(repeat (first|apply κ|(refine ν λη I=>?_;simp;(repeat (rw[δ];simp[hw]));apply I)));refine W.to (xw j ⟨by omega,by omega⟩ (by omega)) ?_ ?_
   ·rw[J1]
   ·simp
  ·have n4:k=ev:=by simp at a5;omega
   subst n4;refine W.exit rfl ?_;have uw:(jh L k).length=i+1:=by rw[Q0 (by omega),mR]
   obtain⟨y,Ξ⟩:∃y,(jh L k)[k]?=some y:=⟨_,aW (by omega)⟩;obtain⟨Ω,bb⟩:∃Ω,Ω=(jh L k).map R:=⟨_,rfl⟩;have wQ:Ω.length=i+1:=by rw[bb,List.length_map,uw]
   have wR:Ω[k]?=some (R y):=by rw[bb,List.getElem?_map,Ξ];rfl
   have J1:Ω.set k (R i)=(pC L k i).map R:=by rw[bb,<-eζ (by omega),List.map_set]
   have J2:∀h,Ω[k]'h=R y:=λh=>by rw[aW h] at wR;exact Option.some.inj wR
   refine W.to (σ':=[b6 (D.after i),.cells 3 1 Ω]) (env':=[(0,.al 0 1 0 0),(1,R n),(5,.ms 1 (i+1) 0 (i+1)),(6,R i),(7,R k)]) ?_ (by rw[bb]) (by simp);(repeat apply κ);refine ν λη I=>?_;simp;(repeat (rw[δ];simp[wQ,wR,J2]));refine⟨by omega,?_⟩;apply I;have hw:=fe ζ (show n<2 ^ 62 by omega);(repeat (first|apply κ|(refine ν λη I=>?_;simp;(repeat (rw[δ];simp[hw]));apply I)));have gl:(pC L k i).map R≠[]:=λh=>by have:=congrArg List.length h;rw[List.length_map,JZ] at this;simp at this
   refine W.to (Δ (i+1) ζ (by omega)) ?_ ?_
   ·rw[dU,J1,dY (by simpa using gl)];rfl
   ·rw[dU];simp only[Int.toNat_natCast];rw[gz gl];simp[hw,JZ,mR]
 ·have ζ:i=n:=by simp at ζ;omega
  subst ζ;refine W.exit rfl ?_;(repeat (first|apply κ|(refine ν λη I=>?_;simp;(repeat (rw[δ];simp));apply I)));refine W.cut 1 (by simp) [(4,fA 1 ((g9 d i).1.map R))] (by simp) (λid r bW μ=>?_) ?_ ?_
  ·have:id=0:=by omega
   subst this;simp at μ;subst μ;exact λe he a ξ=>by simp[θ.cells] at he;subst he;simp[θ.cells] at ξ;rcases ξ with rfl|rfl<;>simp[fZ,θ.cells]
  ·intro p ψ;simp at ψ;subst ψ;show ed 1 _ (a3 _ 4) _;simp;refine Ar (t:=3) (Nat.le_refl _) (λω=>by rw[dY ω];rfl) (λe he a ξ=>?_);obtain⟨x,_,rfl⟩:=List.mem_map.1 he;simp[θ.cells] at ξ;subst ξ;exact .z _
  ·exact W.ret ⟨_,rfl,.acc,rfl⟩
theorem wS (d:cx) (h:Nat):eK h (b6 d):=λe he a ξ=>by
 simp[θ.cells] at he;subst he;simp[θ.cells] at ξ;rcases ξ with rfl|rfl<;>simp[fZ,θ.cells]
section
variable {P:Program} {m nt:Nat} {k:List Item} {env:aa} {Z:List Item->aa->List Row->Prop} {E:θ->aa->List Row->Prop}
theorem W.eι {d:cx} {t kk:Nat} {l:List θ} {x:Nat} (hm:m<=1) (hb:∀e∈l,∀a∈e.cells,au 0 a) (env':aa) (hd:a3 env x=cq 1 l) (cD:∀p∈env',a3 env p.1=p.2/\au 1 p.2) (hW:W P m nt k ((x,fA kk l)::env') [b6 d] Z E):W P m nt k env (b6 d::bj t kk l) Z E:=
 W.cut 1 hm ((x,fA kk l)::env') (by simp) (λid r bW μ=>by
  have:id=0:=by omega
  subst this;simp at μ;subst μ;exact wS d 1) (λp ψ=>by
  rcases List.mem_cons.1 ψ with rfl|ψ
  ·show ed 1 _ (a3 env x) _;rw[hd];exact Ar (t:=t) (Nat.le_refl _) (λω=>by rw[dY ω];rfl) (λe he a ξ=>(hb e he a ξ).mono (Nat.zero_le _))
  ·rw[(cD p ψ).1];exact .low (cD p ψ).2) (by simpa using hW)
end
theorem eκ {i n:Nat} (h:i<n) (Η:n<1000):IntKind.i64.wrap ((i:Int)+1)=((i+1:Nat):Int):=by
 rw[IntWalk.i64_in _ (by omega)];omega
def h2 (d:cx):Nat->List Int×cx
 | 0=>([],d)
 | i+1=>((h2 d i).1++(if wP (h2 d i).2 2 then [(i:Int)] else []),(h2 d i).2.after 1)
theorem Q3 (d:cx) (n:Nat):(h2 d n).2.bg.length<=d.bg.length:=by
 induction n with
 | zero=>exact Nat.le_refl _
 | succ n Δ=>exact Nat.le_trans (lj _ _) Δ
theorem Q4 (d:cx) (n:Nat):(h2 d n).1.length<=n:=by
 induction n with
 | zero=>exact Nat.le_refl _
 | succ n Δ=>
  show((h2 d n).1++_).length<=_;rw[List.length_append];split<;>simp<;>omega
theorem eμ (d:cx) (hd:d.bg.length<2 ^ 63):er 156 [R 2] d (a4 (wP d 2)) (d.after 1):=JX d hd 2 (by decide) (by decide)
theorem eν (d:cx) (hd:d.bg.length<2 ^ 63):er 129 [] d (aP R 1 (h2 d 3).1) (h2 d 3).2:=by
 unfold er;obtain⟨n,Η⟩:∃n,n=3:=⟨_,rfl⟩;rw[<-Η];refine ak.body Ι Tryz.func129 rfl rfl Tryz.ntmps129 rfl rfl (by simp) ?_;(repeat (first|apply κ|(refine ν λη I=>?_;simp;(repeat (rw[δ];simp));apply I)));refine W.iter (λi:Nat=>i<=n) (λi=>[(0,.al 0 1 0 0),(3,cq 1 ((h2 d i).1.map R)),(4,R i)]) (λi=>b6 (h2 d i).2::bj 3 1 ((h2 d i).1.map R)) (λi=>n-i) 0 (Nat.zero_le _) rfl (by simp[cq,h2]) (λi hi Δ=>?_);(repeat (first|apply κ|(refine ν λη I=>?_;simp;(repeat (rw[δ];simp));apply I)));refine W.en rfl (λζ=>?_) (λζ=>?_)
 ·have ζ:i<n:=by simp at ζ;omega
  have dU:h2 d (i+1)=((h2 d i).1++(if wP (h2 d i).2 2 then [(i:Int)] else []),(h2 d i).2.after 1):=rfl
  have mR:=Q4 d i;obtain⟨L,aC⟩:∃L,L=(h2 d i).1:=⟨_,rfl⟩;obtain⟨D,dQ⟩:∃D,D=(h2 d i).2:=⟨_,rfl⟩;have m3:D.bg.length<2 ^ 63:=by rw[dQ];exact Nat.lt_of_le_of_lt (Q3 d i) hd
  rw[<-aC,<-dQ] at dU;rw[<-aC] at mR;rw[<-aC,<-dQ];have hw:=eκ ζ (by omega);(repeat apply κ);refine ν λη I=>?_;simp;(repeat (rw[δ];simp));refine er.c (eμ D m3) 0 rfl (aK.refl _) (by simp) (by simp) ?_;simp;(repeat (rw[δ];simp));apply I;cases hb:wP D 2
  ·refine ah rfl ?_;(repeat (first|apply κ|(refine ν λη I=>?_;simp;(repeat (rw[δ];simp[hw]));apply I)));refine W.to (Δ (i+1) ζ (by omega)) ?_ ?_
   ·rw[dU,hb];simp
   ·rw[dU,hb];simp[hw]
  ·refine aj rfl ?_
   repeat apply κ
   refine W.fL (A:=[14]) Ι [(0,.al 0 1 0 0),(3,cq 1 ((L++[(i:Int)]).map R)),(4,R i)] (b6 (D.after 1)::bj 3 1 ((L++[(i:Int)]).map R)) ?_ (by
    rw[List.map_append,List.map_cons,List.map_nil,sX,gz (l:=L.map R++[R i]) (by simp)];by_cases Θ:L=[]
    ·subst Θ;(try simp);(repeat (rw[δ];simp[iJ,show cq 1 []=.sl true 0 [] from rfl]));(try simp[iJ,show cq 1 []=.sl true 0 [] from rfl])
    ·have gl:L.map R≠[]:=by simpa using Θ
     (try simp);(repeat (rw[δ];simp[gz gl,dY gl]));(try simp[gz gl,dY gl]);omega)
   (repeat (first|apply κ|(refine ν λη I=>?_;simp;(repeat (rw[δ];simp[hw]));apply I)));refine W.to (Δ (i+1) ζ (by omega)) ?_ ?_
   ·rw[dU,hb];simp
   ·rw[dU,hb];simp[hw]
 ·have ζ:i=n:=by simp at ζ;omega
  subst ζ;refine W.exit rfl ?_;(repeat (first|apply κ|(refine ν λη I=>?_;simp;(repeat (rw[δ];simp));apply I)));refine W.eι (x:=2) (by simp) (λe he a ξ=>?_) [] (by simp) (by simp) ?_
  ·obtain⟨x,_,rfl⟩:=List.mem_map.1 he;simp[θ.cells] at ξ;subst ξ;exact .z _
  ·exact W.ret ⟨_,rfl,.acc,rfl⟩
end Go.TL
namespace Go.TL
open Go.Conc Go.Proofs
theorem J3:@Seq oy calm:=@Seq.mk oy calm rfl (λ_ h=>h.rel) (λ_ h=>h.aF)
theorem eξ (w:World):Calm (aV.start w):=⟨rfl,rfl,rfl,λ_=>trivial⟩
def qC (w:World):aB:=λb o=>((Α.lH w).aG b o).map (·.1)
theorem eο (w:World):Holds (qC w) [] [] (Α.lH w):=
 ⟨λb o v h=>by
  unfold qC at h;cases ζ:(Α.lH w).aG b o with
  | none=>rw[ζ] at h;cases h
  | some x=>rw[ζ] at h;cases h;exact⟨x.2,rfl⟩,rfl,λid r bo h=>by simp at h,λi j ec b' b gF gG _ h=>by simp at h,λid r b N h=>by simp at h⟩
theorem eπ {P:Program} {f:FuncId} {fn:Func} {body:Code} {d:Nat} (cf:P.funcs[f]?=some fn) (nv:fn.body=some body) (eT:fn.results=#[.tmp d]) (br:P.inits.idxOf? f=none) {w:World} {l:List θ} {args:Array Value} (μ:fy (qC w) [] [] l args) (Η:l.length<=fn.ntmps)
  (hW:@W oy P 0 fn.ntmps [.code body] (entry 0 l) [] (λj env _=>(∃k,j=.code .ret::k)/\a3 env d=a4 true) (λ_ _ _=>False)):Comes P (λv=>v=.bool true) w (solo (Go.Conc.G (Frame.enter P f args .normal) []) w) #[]:=by
 letI:bm:=oy;refine Goes.comes ?_;show cn P _ true (aV.start w) (Frame.enter P f args .normal) [] (Α.lH w);rw[qj cf nv];refine hW (λv=>v=.bool true) true calm [] (Frame.enter P f args .normal) (qC w) [] (Α.lH w) _ J3 rfl (fx.enter (eο w) μ (Nat.le_refl _) Η) (λj env' σ' ax B' H' t' ab Θ ξ ψ ω=>?_) (λa env' σ' ax B' H' t' ab v he=>he.elim) (aV.start w) (eξ w);obtain⟨⟨k,ε⟩,hd⟩:=Θ;have e:ab=j:=ω;subst e;subst ε;refine aM.ret J3 rfl rfl (aM.done (v:=.bool true) J3 (λy h=>h.shut) (λy h=>h.deaf) rfl rfl rfl cf br ?_ rfl);have hv:t'.getD d undef=.bool true:=by
  have:=ψ.cp d;rw[hd] at this;generalize t'.getD d undef=u at this;cases this;rfl
 show results fn t'=_;unfold results;rw[eT];rw[Array.getD_eq_getD_getElem?] at hv;simp[hv]
end Go.TL
namespace Go.TL
open Go.Conc Go.ConcM Go.Proofs
open Go.ChangeShapes Go.WideShapes Go.ChangeAt Go.RowKit
theorem eρ:ownKnob Tryz.prog.godebug=none:=by kernel_rfl
theorem fq.below {W w:World} (h:fq (λ_ _=>False) (λ_=>False) W w):Below W.heap.size W {w with os:=W.os}:=by
 refine⟨rfl,h.tape,h.output,h.size,λk χ=>?_⟩;show w.heap[k]?=W.heap[k]?;have e:=e7 χ;cases ζ:Obj.r6 W.heap[k] with
 | false=>rw[e];exact h.m8 k _ e ζ id
 | true=>
  cases U:W.heap[k] with
  | cells c t dI=>
   rw[U] at e;obtain⟨c',J,γ,π⟩:=h.cells k c t dI e;have:c'=c:=by
    apply Array.ext' ;apply List.ext_getElem?;intro o;have:=π o id;simpa using this
   rw[e,J,this]
  | _=>rw[U] at ζ;simp[Obj.r6] at ζ
theorem eς:laidOutB Tryz.prog=true:=by kernel_rfl
theorem eτ:Tryz.prog.cellsOf 3=1:=by kernel_rfl
theorem eυ {W:World} {b o:Nat} {v:Value} (h:W.cell? ⟨b,o,none⟩=some v):qC W b o=some v:=by
 unfold World.cell? at h;unfold qC Α.lH;simp only at h ⊢;split at h
 ·rename_i c t dI ζ;rw[ζ];simp at h ⊢;exact h
 ·cases h
theorem eφ {W:World} {a:Addr} {len cap:Nat} {fY:List Int} (ω:len<=cap) (Θ:len<=fY.length) (ζ:∀i,i<fY.length->W.cell? (a.add i)=some (.int .i64 (fY.getD i 0))) :
  ao (qC W) [] [] (aP R 1 (fY.take len)) (.slice (some a) len cap):=by
 by_cases ag:len=0
 ·subst ag;exact .iA _ _ (by simp)
 ·have ο:a.spot=none:=by
   have:=ζ 0 (by omega);unfold World.cell? Addr.add at this;rw[if_pos rfl] at this;cases bU:a.spot with
   | none=>rfl
   | some x=>
    rw[bU] at this;simp at this;split at this<;>simp at this
  obtain⟨b,o,sp⟩:=a;simp only at ο;subst ο;have hlen:(fY.take len).length=len:=by rw[List.length_take];omega
  have one:∀(i:Nat) (e:θ),((fY.take len).map R)[i]?=some e->i<len/\e=R (fY.getD i 0):=λi e hi=>by
   have iC:i<len:=by have:=(b7.1 hi).1;rw[List.length_map,hlen] at this;exact this
   rw[List.getElem?_map,List.getElem?_take_of_lt iC,aW (by omega)] at hi;refine⟨iC,?_⟩;rw[List.getD_eq_getElem?_getD,aW (by omega)];simpa using hi.symm
  have:=ao.sl (S:=qC W) (B:=[]) (σ:=[]) (ex:=false) (k:=1) (l:=(fY.take len).map R) b o cap (λi _=>.int .i64 (fY.getD i 0)) (by simp) (by rw[List.length_map,hlen];exact ω)
   (λi e hi=>by rw[(one i e hi).2];rfl) (λi e hi j c ε=>by
    obtain⟨J,rfl⟩:=one i e hi
    match j with
    | 0=>
     refine eυ ?_;have:=ζ i (by omega);unfold Addr.add at this;rw[Nat.mul_one,Nat.add_zero];split at this
     ·rename_i cv;subst cv;exact this
     ·exact this
    | j+1=>simp[θ.cells] at ε) (λi e hi j c ε=>by
    obtain⟨J,rfl⟩:=one i e hi
    match j with
    | 0=>simp[θ.cells] at ε;subst ε;exact .z _
    | j+1=>simp[θ.cells] at ε)
  rw[List.length_map,hlen] at this;exact this
end Go.TL
namespace Go.TL
open Go.Proofs
variable [bm]
theorem yy (d:cx) {a b:Int} (h:a<=b) (ξ:-1000<a) (hb:b<1000):a<=nO d a b/\nO d a b<=b:=by
 unfold nO;rw[IntWalk.i64_in (b-a) (by omega)];obtain⟨t0,t1⟩:=uS d (b-a) (by omega) (by omega);generalize ir d (b-a)=x at t0 t1;rw[IntWalk.i64_in (a+x) (by omega)];omega
theorem eχ (l:List Int) (k:Nat) (x:Int):(pC l k x).Perm (x::l):=by
 unfold pC;have h:(l.take k++x::l.drop k).Perm (x::(l.take k++l.drop k)):=List.perm_middle
 rwa [List.take_append_drop] at h
theorem Q5 (d:cx) (n:Nat):(g9 d n).1.Perm ((List.range n).map λ(i:Nat)=>(i:Int)):=by
 induction n with
 | zero=>exact .refl _
 | succ n Δ=>
  show(pC _ _ _).Perm _;refine(eχ _ _ _).trans ?_;rw[List.range_succ,List.map_append];refine(List.Perm.cons _ Δ).trans ?_;exact(List.perm_append_singleton _ _).symm
theorem Q6 {d:cx} {n:Nat} {x:Int} (h:x∈(g9 d n).1):0<=x/\x<n:=by
 have:=(Q5 d n).mem_iff.1 h;obtain⟨i,hi,rfl⟩:=List.mem_map.1 this;have:=List.mem_range.1 hi;omega
theorem Q7 (d:cx) (n:Nat):(g9 d n).1.Nodup:=by
 refine(Q5 d n).nodup_iff.2 ?_;unfold List.Nodup;rw[List.pairwise_map];exact List.nodup_range.imp λh e=>h (by omega)
structure pD (l:List lS):Prop where
 lo:1<=l.length
 hi:l.length<=6
 each:∀g∈l,x1 g.name=false/\1<=g.eo/\g.eo<=63
 Q8:l.Pairwise λa b=>sx b.name a.name=false
 apart:l.Pairwise λa b=>a.eo≠b.eo
theorem Bf {l:List Int} (h:∀x∈l,x=0):iI l=0:=by
 induction l with
 | nil=>rfl
 | cons x l Δ=>
  have:=h x (by simp);subst this;simp[iI];exact Δ λy Ξ=>h y (by simp[Ξ])
theorem pD.err {l:List lS} (h:pD l):oh l=0:=by
 unfold oh;have J:=h.lo;have γ:=h.hi;rw[if_neg (by omega),if_neg (by omega)];refine Bf λx U=>?_;obtain⟨i,hi,rfl⟩:=List.mem_map.1 U;have hi:=List.mem_range.1 hi;unfold qh;rw[aW hi];obtain⟨Ζ,Ε,aY⟩:=h.each _ (List.getElem_mem hi);simp only;rw[if_neg (by rw[Ζ];simp),if_neg,if_neg (by omega),if_neg]
 ·intro ξ;obtain⟨y,Ξ,he⟩:=List.any_eq_true.1 ξ;obtain⟨j,ε,rfl⟩:=List.mem_take_iff_getElem.1 Ξ;have:=List.pairwise_iff_getElem.1 h.apart j i (by omega) hi (by omega);simp at he;exact this he
 ·rintro⟨iR,ο⟩;rw[aW (by omega)] at ο;have:=List.pairwise_iff_getElem.1 h.Q8 (i-1) i (by omega) hi (by omega);simp only[Option.map_some,Option.getD_some] at ο;rw[ο] at this;cases this
def nh (i:Nat):ByteArray:=⟨#[[97,98,99,100,111,122].getD i 0]⟩
def ji:List Int:=[4,9,6,12,48,8,3,16,5,10,20]
def kD (ord:List Int) (last:Int) (i:Nat):lS:=⟨nh i,(ji++[last]).getD ((ord.getD i 0).toNat) 0⟩
structure Made (ord:List Int):Prop where
 len:ord.length=11
 mem:∀x∈ord,0<=x/\x<11
 nodup:ord.Nodup
theorem eψ (d:cx):Made (g9 d 11).1:=⟨J0 d 11,λ_ h=>Q6 h,Q7 d 11⟩
theorem Made.get {ord:List Int} (h:Made ord) {i:Nat} (hi:i<11):∃k:Nat,k<11/\ord[i]?=some (k:Int)/\∀last,(ji++[last])[k]?=some (ji.getD k 0)/\1<=ji.getD k 0/\ji.getD k 0<=63:=by
 have ω:=h.len
 have hm:=h.mem _ (List.getElem_mem (l:=ord) (n:=i) (by omega));refine⟨(ord[i]).toNat,by omega,by rw[aW (by omega)];congr 1;omega,λlast=>?_⟩;have χ:(ord[i]).toNat<11:=by omega
 generalize (ord[i]).toNat=k at χ;rw[dB (by simpa[ji] using χ)];have:∀k<11,ji[k]?=some (ji.getD k 0)/\1<=ji.getD k 0/\ji.getD k 0<=63:=by decide
 exact this k χ
theorem eω:∀a<11,∀b<11,ji.getD a 0=ji.getD b 0->a=b:=by decide
theorem eΑ:∀i<6,x1 (nh i)=false:=by decide +kernel
theorem eΒ:∀j<6,∀i<j,sx (nh j) (nh i)=false:=by decide +kernel
theorem Fh {ord:List Int} (h:Made ord) (last:Int) {i:Nat} (hi:i<11):∃k:Nat,k<11/\ord[i]?=some (k:Int)/\(kD ord last i).eo=ji.getD k 0/\1<=ji.getD k 0/\ji.getD k 0<=63:=by
 obtain⟨k,χ,Γ,ο⟩:=h.get hi;obtain⟨J,γ,π⟩:=ο last;refine⟨k,χ,Γ,?_,γ,π⟩;unfold kD;rw[show ord.getD i 0=(k:Int) from by rw[List.getD_eq_getElem?_getD,Γ];rfl,Int.toNat_natCast];show(ji++[last]).getD k 0=_;rw[List.getD_eq_getElem?_getD,J];rfl
theorem eΓ {ord:List Int} (h:Made ord) (last:Int) {i j:Nat} (hi:i<11) (ε:j<11) (e:(kD ord last i).eo=(kD ord last j).eo):i=j:=by
 obtain⟨a,ξ,jG,eΔ,_⟩:=Fh h last hi;obtain⟨b,hb,iz,Ej,_⟩:=Fh h last ε;rw[eΔ,Ej] at e;have:=eω a ξ b hb e;subst this;have ω:=h.len;exact(List.getElem?_inj (by omega) h.nodup).1 (jG.trans iz.symm)
theorem eΕ {ord:List Int} (h:Made ord) (last:Int) {aH:List Nat} (dg:aH.Pairwise (· < ·)) (bc:∀j∈aH,j<6) (J:1<=aH.length) (Η:aH.length<=6):pD (aH.map (kD ord last)):=by
 refine⟨by simpa using J,by simpa using Η,λg Υ=>?_,?_,?_⟩
 ·obtain⟨j,ε,rfl⟩:=List.mem_map.1 Υ;have:=bc j ε;obtain⟨k,_,_,e,Ζ,Ε⟩:=Fh h last (i:=j) (by omega);exact⟨eΑ j this,by omega,by omega⟩
 ·rw[List.pairwise_map];refine(List.pairwise_iff_forall_sublist.2 λ{a b} ο=>?_);have gL:=(List.pairwise_iff_forall_sublist.1 dg) ο;exact eΒ b (bc b (ο.subset (by simp))) a gL
 ·rw[List.pairwise_map];refine(List.pairwise_iff_forall_sublist.2 λ{a b} ο=>λe=>?_);have gL:=(List.pairwise_iff_forall_sublist.1 dg) ο;have ξ:=bc a (ο.subset (by simp));have hb:=bc b (ο.subset (by simp));have:=eΓ h last (by omega) (by omega) e;omega
theorem pD.set {l:List lS} (h:pD l) {k:Nat} (χ:k<l.length) {x:Int} (J:1<=x) (γ:x<=63) (Φ:∀g∈l,g.eo≠x):pD (l.set k ⟨l[k].name,x⟩):=by
 have get:∀(i:Nat) (hi:i<(l.set k ⟨l[k].name,x⟩).length),(l.set k ⟨l[k].name,x⟩)[i].name=(l[i]'(by simpa using hi)).name/\((l.set k ⟨l[k].name,x⟩)[i].eo=x/\i=k\/(l.set k ⟨l[k].name,x⟩)[i].eo=(l[i]'(by simpa using hi)).eo/\i≠k):=by
  intro i hi;rw[List.getElem_set];split
  ·rename_i e;subst e;exact⟨rfl,.inl ⟨rfl,rfl⟩⟩
  ·rename_i e;exact⟨rfl,.inr ⟨rfl,λh=>e h.symm⟩⟩
 refine⟨by simpa using h.lo,by simpa using h.hi,λg Υ=>?_,?_,?_⟩
 ·obtain⟨i,hi,rfl⟩:=List.getElem_of_mem Υ;obtain⟨Ζ,Ε⟩:=get i hi;obtain⟨a,b,c⟩:=h.each _ (List.getElem_mem (l:=l) (n:=i) (by simpa using hi));rw[Ζ];rcases Ε with⟨Ε,_⟩|⟨Ε,_⟩<;>rw[Ε]
  ·exact⟨a,J,γ⟩
  ·exact⟨a,b,c⟩
 ·rw[List.pairwise_iff_getElem];intro i j hi ε e0;rw[(get i hi).1,(get j ε).1];exact List.pairwise_iff_getElem.1 h.Q8 i j (by simpa using hi) (by simpa using ε) e0
 ·rw[List.pairwise_iff_getElem];intro i j hi ε e0;have a9:i<l.length:=by simpa using hi
  have bp:j<l.length:=by simpa using ε
  rcases(get i hi).2 with⟨Ζ,Ε⟩|⟨Ζ,Ε⟩<;>rcases(get j ε).2 with⟨aY,cy⟩|⟨aY,cy⟩<;>rw[Ζ,aY]
  ·omega
  ·exact λe=>Φ _ (List.getElem_mem bp) e.symm
  ·exact λe=>Φ _ (List.getElem_mem a9) e
  ·exact List.pairwise_iff_getElem.1 h.apart i j a9 bp e0
end Go.TL
