import Derived.Carry
import Derived.ChangeSlices
import Derived.Conc.HoldsTime
import Derived.OpenShut
import Derived.Test.YtlabjopijpkiaaaGreatQAF
import Derived.Test.YtlabjopijpkiaaaGreatQAK
import Derived.Test.YtlabjopijpkiaaaGreatQAS
import Derived.Test.YtlabjopijpkiaaaGreatQAZ
import Derived.Test.YtlabjopijpkiaaaGreatRows
set_option maxHeartbeats 16000000
set_option maxRecDepth 20000
set_option linter.unusedSectionVars false
set_option linter.unusedSimpArgs false
set_option linter.unusedVariables false
namespace Go.TL
open Go.Proofs
variable [bn]
theorem bυ (d:cG) (hd:d.bm.length<2 ^ 63):ak Tryz.prog 73 [.Ψ 0 1 0 0] [b4 d] (λr s=>r=PX (rG d)/\s=[b4 d.next]) (λ_ _=>False):=by
 obtain⟨l,q⟩:=d;refine ak.body Κ Tryz.func73 rfl rfl Tryz.ntmps73 rfl rfl (by simp) ?_;(repeat (first|apply κ|(refine ξ λη I=>?_;simp;(repeat (rw[δ];simp));apply I)));cases l with
 | nil=>
  refine aj (by simp) ?_;(repeat (first|apply κ|(refine ξ λη I=>?_;simp;(repeat (rw[δ];simp));apply I)));refine W.draw (A:=[]) Κ mixed λη I=>?_;simp;(repeat (rw[bD];simp));try rw[bC]
  refine⟨bW (by kernel_rfl),I _ _ ?_⟩
  repeat apply κ
  refine W.draw (A:=[]) Κ mixed λη I=>?_;simp;(repeat (rw[bD];simp));try rw[bC]
  refine⟨bW (by kernel_rfl),I _ _ ?_⟩;(repeat (first|apply κ|(refine ξ λη I=>?_;simp;(repeat (rw[δ];simp));apply I)));exact W.ret ⟨_,rfl,by simp[rG,s8,yH,Bp],by simp[cG.next,s8,yH,Bp]⟩
 | cons a l=>
  refine al (by simp) ?_;(repeat (first|apply κ|(refine ξ λη I=>?_;simp;(repeat (rw[δ];simp));apply I)));have kM:List.take l.length (l.map R)=l.map R:=List.take_of_length_le (by simp);(repeat apply κ);refine ξ λη I=>?_;simp;(repeat (rw[δ];simp[kM]));refine⟨by omega,?_⟩;apply I;(repeat (first|apply κ|(refine ξ λη I=>?_;simp;(repeat (rw[δ];simp));apply I)));refine W.draw (A:=[]) Κ mixed λη I=>?_;simp;(repeat (rw[bD];simp));try rw[bC]
  refine⟨bW (by kernel_rfl),I _ _ ?_⟩
  repeat apply κ
  refine W.draw (A:=[]) Κ mixed λη I=>?_;simp;(repeat (rw[bD];simp));try rw[bC]
  refine⟨bW (by kernel_rfl),I _ _ ?_⟩;(repeat (first|apply κ|(refine ξ λη I=>?_;simp;(repeat (rw[δ];simp));apply I)));exact W.ret ⟨_,rfl,by simp[rG,s8,yH,Bp],by simp[cG.next,s8,yH,Bp]⟩
def hS (d:cG) (n:Int):Int:=if n<=0 then 0 else IntKind.i64.wrap ((IntKind.u64.wrap (rG d*IntKind.u64.wrap (IntKind.i64.wrap (n+1)))).fdiv (2 ^ min 32 IntKind.u64.bits))
def cG.after (d:cG) (n:Int):cG:=if n<=0 then d else d.next
theorem o9 (d:cG):iv (b4 d):=by simp[iv,θ.cells]
theorem JN (d:cG) (hd:d.bm.length<2 ^ 63) (n:Int):ak Tryz.prog 24 [.Ψ 0 1 0 0,R n] [b4 d] (λr s=>r=R (hS d n)/\s=[b4 (d.after n)]) (λ_ _=>False):=by
 refine ak.body Κ Tryz.func24 rfl rfl Tryz.ntmps24 rfl rfl (by simp) ?_;(repeat (first|apply κ|(refine ξ λη I=>?_;simp;(repeat (rw[δ];simp));apply I)));by_cases h:n<=0
 ·refine al (by simp[h]) ?_;(repeat (first|apply κ|(refine ξ λη I=>?_;simp;(repeat (rw[δ];simp));apply I)));exact W.ret ⟨_,rfl,by simp[hS,h],by simp[cG.after,h]⟩
 ·refine aj (by simp[h]) ?_;(repeat (first|apply κ|(refine ξ λη I=>?_;simp;(repeat (rw[δ];simp));apply I)));(repeat apply κ);refine ξ λη I=>?_;simp;(repeat (rw[δ];simp));refine ak.one (as0:=[.Ψ 0 1 0 0]) (bυ d hd) 0 rfl (o9 d) (o9 d.next) (by simp[fS,oR]) ((av.z _).hf 1) rfl ?_;simp[mz];(repeat (rw[δ];simp));apply I;exact W.ret ⟨_,rfl,by simp[hS,h],by simp[cG.after,h]⟩
def pa (d:cG) (a b:Int):Int:=IntKind.i64.wrap (a+hS d (IntKind.i64.wrap (b-a)))
theorem bφ (d:cG) (hd:d.bm.length<2 ^ 63) (a b:Int):ak Tryz.prog 38 [.Ψ 0 1 0 0,R a,R b] [b4 d] (λr s=>r=R (pa d a b)/\s=[b4 (d.after (IntKind.i64.wrap (b-a)))]) (λ_ _=>False):=by
 refine ak.body Κ Tryz.func38 rfl rfl Tryz.ntmps38 rfl rfl (by simp) ?_;(repeat (first|apply κ|(refine ξ λη I=>?_;simp;(repeat (rw[δ];simp));apply I)));(repeat apply κ);refine ξ λη I=>?_;simp;(repeat (rw[δ];simp));refine ak.one (as0:=[.Ψ 0 1 0 0,R (IntKind.i64.wrap (b-a))]) (JN d hd _) 0 rfl (o9 d) (o9 _) (by simp[fS,oR]) ((av.z _).hf 1) rfl ?_;simp[mz];(repeat (rw[δ];simp));apply I;exact W.ret ⟨_,rfl,rfl,rfl⟩
end Go.TL
namespace Go.TL
open Go.Proofs
theorem bχ (x:Int):0<=IntKind.u64.wrap x/\IntKind.u64.wrap x<18446744073709551616:=by
 unfold IntKind.wrap;simp[IntKind.bits,IntKind.signed];omega
theorem u64_in (x:Int) (h:0<=x) (γ:x<18446744073709551616):IntKind.u64.wrap x=x:=by
 unfold IntKind.wrap;simp[IntKind.bits,IntKind.signed];omega
theorem PY:(2:Int) ^ min 32 IntKind.u64.bits=4294967296:=by decide
theorem bψ (d:cG):0<=rG d/\rG d<4294967296:=by
 unfold rG;rw[PY];generalize U:IntKind.u64.wrap _=x;have:=bχ (zN .u64 (s8 d) ((s8 d).fdiv (2 ^ min 33 IntKind.u64.bits))*18397679294719823053);rw[U] at this;rw[Int.fdiv_eq_ediv_of_nonneg _ (by decide)];omega
theorem s9 (d:cG) (n:Int) (ah:0<=n) (Ι:n<2147483647):0<=hS d n/\hS d n<=n:=by
 unfold hS;split
 ·omega
 ·obtain⟨r0,r1⟩:=bψ d;rw[PY,IntWalk.i64_in (n+1) (by omega),u64_in (n+1) (by omega) (by omega)];have hm:rG d*(n+1)<=4294967295*(n+1):=Int.mul_le_mul_of_nonneg_right (by omega) (by omega);have ω:0<=rG d*(n+1):=Int.mul_nonneg r0 (by omega);generalize rG d*(n+1)=y at hm ω;rw[u64_in y ω (by omega),Int.fdiv_eq_ediv_of_nonneg _ (by decide),IntWalk.i64_in _ (by omega)];omega
end Go.TL
namespace Go.TL
open Go.Proofs
variable [bn]
def yI (d:cG) (l:List Int):Nat:=(hS d ((l.length:Int)-1)).toNat
theorem bω (d:cG) (hd:d.bm.length<2 ^ 63) (l:List Int) (ah:0<l.length) (Α:l.length<1000000):ak Tryz.prog 61 [.Ψ 0 1 0 0,bf R 1 l] [b4 d] (λr s=>r=R (l.getD (yI d l) 0)/\s=[b4 (d.after ((l.length:Int)-1))]) (λ_ _=>False):=by
 refine ak.body Κ Tryz.func61 rfl rfl Tryz.ntmps61 rfl rfl (by simp) ?_;have hw:IntKind.i64.wrap ((l.length:Int)-1)=(l.length:Int)-1:=IntWalk.i64_in _ (by omega);obtain⟨t0,t1⟩:=s9 d ((l.length:Int)-1) (by omega) (by omega);obtain⟨k,χ⟩:∃k:Nat,hS d ((l.length:Int)-1)=k:=⟨(hS d ((l.length:Int)-1)).toNat,by omega⟩;have e4:k<l.length:=by omega
 have dO:yI d l=k:=by unfold yI;rw[χ];rfl
 (repeat (first|apply κ|(refine ξ λη I=>?_;simp;(repeat (rw[δ];simp));apply I)));(repeat apply κ);refine ξ λη I=>?_;simp;(repeat (rw[δ];simp[hw]));refine ak.one (as0:=[.Ψ 0 1 0 0,R ((l.length:Int)-1)]) (JN d hd _) 0 rfl (o9 d) (o9 _) (by simp[fS,oR]) ((av.z _).hf 1) rfl ?_;rw[χ];simp[mz,e4];(repeat (rw[δ];simp[e4]));apply I;exact W.ret ⟨_,rfl,by rw[dO];simp[List.getD_eq_getElem?_getD,e4],rfl⟩
end Go.TL
namespace Go.TL
open Go.Conc
variable [bn]
section
variable {P:Program} {T:bd} {A:List Nat} {m nt:Nat} {k:List Item} {env:Ω} {σ:List Row} {Z:List Item->Ω->List Row->Prop} {E:θ->Ω->List Row->Prop} {ops:Array Oper}
def PZ (P:Program) (m nt:Nat) (k:List Item) (Z:List Item->Ω->List Row->Prop) (E:θ->Ω->List Row->Prop) (ops:Array Oper) (i:Nat) (o:Oper) (env:Ω) (r:Row) (a:θ) (r2:Row):Prop:=
 ∀env' τ rest,oP ops o env env'->W P m nt (.inRegion ops rest::k) (ca o env' a) (r2::τ) Z E->W P m nt (.inRegion ops (i::rest)::k) env' (r::τ) Z E
def StepB (P:Program) (m nt:Nat) (k:List Item) (Z:List Item->Ω->List Row->Prop) (E:θ->Ω->List Row->Prop) (ops:Array Oper) (i:Nat) (o:Oper) (env:Ω) (τ:List Row) (a:θ) (bΑ:List Row):Prop:=
 ∀env' r rest,oP ops o env env'->W P m nt (.inRegion ops rest::k) (ca o env' a) (r::bΑ) Z E->W P m nt (.inRegion ops (i::rest)::k) env' (r::τ) Z E
theorem P0 {α:Type} {f:Nat->α} {tags:List Bool} (DS:∀i o,ops[i]?=some o->writer ops tags i=false->f (i+1)=f i):∀a b,a<=ops.size->b<=ops.size->(∀j,j<ops.size->writer ops tags j=true->(j<a↔j<b))->f a=f b:=by
 have Af:∀(d a:Nat),a+d<=ops.size->(∀j,a<=j->j<a+d->writer ops tags j=false)->f (a+d)=f a:=by
  intro d
  induction d with
  | zero=>intro a _ _;rfl
  | succ d Δ=>
   intro a hle h;have J:ops[a+d]?=some ops[a+d]:=e9 (by omega);have:=DS (a+d) _ J (h (a+d) (by omega) (by omega));rw[show a+(d+1)=a+d+1 by omega,this];exact Δ a (by omega) λj J γ=>h j J (by omega)
 intro a b ν hb h;rcases Nat.le_total a b with hle|hle
 ·have:=Af (b-a) a (by omega) λj J γ=>by
   cases Ξ:writer ops tags j with
   | false=>rfl
   | true=>have:=(h j (by omega) Ξ).2 (by omega);omega
  rw[show a+(b-a)=b by omega] at this;exact this.symm
 ·have:=Af (a-b) b (by omega) λj J γ=>by
   cases Ξ:writer ops tags j with
   | false=>rfl
   | true=>have:=(h j (by omega) Ξ).1 (by omega);omega
  rw[show b+(a-b)=a by omega] at this;exact this
theorem P1 {tags:List Bool} (dO:kN ops tags=true):∀i o,ops[i]?=some o->(∀j∈hc o,j<i)/\∀j bV,j<i->ops[j]?=some bV->clash ops tags i j o bV=true->j∈(DN ops).getD i []:=by
 intro i o Γ;have hi:i<ops.size:=(Array.getElem?_eq_some_iff.1 Γ).1;unfold kN at dO;simp only[List.all_eq_true,List.mem_range] at dO;have h:=dO i hi;rw[Γ] at h;simp only[Bool.and_eq_true,List.all_eq_true,decide_eq_true_eq,List.mem_range] at h;refine⟨h.1,λj bV ε dv ζ=>?_⟩;have γ:=h.2 j ε;rw[dv] at γ;simp only[ζ,Bool.not_true,Bool.false_or,List.contains_iff_mem] at γ;exact γ
theorem P2 {tags:List Bool}:∀j,writer ops tags j=true->tags.getD j false=true:=λj h=>by
 unfold writer at h;rw[Bool.and_eq_true] at h;exact h.1
theorem P3 {tags:List Bool} {i:Nat} {nh:Oper} (ni:tags.getD i false=true):∀j bV,ops[j]?=some bV->writer ops tags j=true->clash ops tags i j nh bV=true/\clash ops tags j i bV nh=true:=λj bV dv Ξ=>by
 have J:=P2 j Ξ;unfold writer at Ξ;rw[J,dv] at Ξ;have γ:mr bV=false:=by simpa using Ξ
 unfold clash;rw[J,ni,γ];simp
theorem W.bΒ {as9:Nat->θ} {ρs:Nat->Row} {τs:Nat->List Row} {td tb:List Bool} {env0:Ω} (bΓ:kN ops td=true) (bΔ:kN ops tb=true)
  (dF:∀i o,ops[i]?=some o->td.getD i false=false->tb.getD i false=false->x3 P m nt k Z E ops i o (da ops env0 as9 (λ_=>true) i) (as9 i))
  (dL:∀i o,ops[i]?=some o->td.getD i false=true->PZ P m nt k Z E ops i o (da ops env0 as9 (λ_=>true) i) (ρs i) (as9 i) (ρs (i+1))/\tb.getD i false=false)
  (gi:∀i o,ops[i]?=some o->tb.getD i false=true->StepB P m nt k Z E ops i o (da ops env0 as9 (λ_=>true) i) (τs i) (as9 i) (τs (i+1)))
  (bΕ:∀i o,ops[i]?=some o->writer ops td i=false->ρs (i+1)=ρs i) (bΖ:∀i o,ops[i]?=some o->writer ops tb i=false->τs (i+1)=τs i)
  (HK:W P m nt (.inRegion ops []::k) (da ops env0 as9 (λ_=>true) ops.size) (ρs ops.size::τs ops.size) Z E) :
  ∀(fuel:Nat) (t:Nat) (listed:Array Bool) (env:Ω) (cM g8:Nat),listed.size=ops.size->
   (∀i,a5 env i=a5 (da ops env0 as9 (λi=>listed.getD i false) ops.size) i)->
   (∀i o,ops[i]?=some o->listed.getD i false=true->∀j∈hc o,listed.getD j false=true)->
   cM<=ops.size->g8<=ops.size->(∀j,j<ops.size->writer ops td j=true->(listed.getD j false=true↔j<cM))->(∀j,j<ops.size->writer ops tb j=true->(listed.getD j false=true↔j<g8))->
   ((List.range ops.size).filter λi=>!listed.getD i false).length<=fuel->
   W P m nt (.inRegion ops (Region.linearise.go .any ops fuel t listed [])::k) env (ρs cM::τs g8) Z E:=by
 have vS:=P1 bΓ
 have P4:=P1 bΔ
 have su:∀i o,ops[i]?=some o->∀j∈hc o,j<i:=λi o Γ=>(vS i o Γ).1
 have P5:=P0 bΕ
 have P6:=P0 bΖ;intro fuel;have done:∀(t:Nat) (listed:Array Bool) (env:Ω) (cM g8:Nat),(∀i,i<ops.size->listed.getD i false=true)->(∀i,a5 env i=a5 (da ops env0 as9 (λi=>listed.getD i false) ops.size) i)->cM<=ops.size->g8<=ops.size->
   (∀j,j<ops.size->writer ops td j=true->(listed.getD j false=true↔j<cM))->(∀j,j<ops.size->writer ops tb j=true->(listed.getD j false=true↔j<g8))->W P m nt (.inRegion ops []::k) env (ρs cM::τs g8) Z E:=λt listed env cM g8 g1 cL iL nN ir uP=>by
  have Ε:ρs cM=ρs ops.size:=P5 cM ops.size iL (Nat.le_refl _) λj ε Ξ=>by rw[<-ir j ε Ξ];simp[g1 j ε,ε]
  have Ζ:τs g8=τs ops.size:=P6 g8 ops.size nN (Nat.le_refl _) λj ε Ξ=>by rw[<-uP j ε Ξ];simp[g1 j ε,ε]
  rw[Ε,Ζ];refine .congr (λi=>?_) HK;rw[cL i];exact x4 ops.size λi o hi _ _=>g1 i hi
 have HL:∀listed:Array Bool,listed.size=ops.size->(∃i,i<ops.size/\listed.getD i false=false)->∃i,i<ops.size/\listed.getD i false=false/\∀j,j<i->listed.getD j false=true:=λlisted cp ⟨i,hi,Α⟩=>by
  induction i using Nat.strongRecOn with
  | _ i Δ=>
   by_cases ε:∃j,j<i/\listed.getD j false=false
   ·obtain⟨j,J,γ⟩:=ε;exact Δ j J (by omega) γ
   ·exact⟨i,hi,Α,λj bp=>by
     cases h:listed.getD j false with
     | true=>rfl
     | false=>exact absurd ⟨j,bp,h⟩ ε⟩
 induction fuel with
 | zero=>
  intro t listed env cM g8 cp cL bj iL nN ir uP HM;have g1:∀i,i<ops.size->listed.getD i false=true:=λi hi=>by
   cases h:listed.getD i false with
   | true=>rfl
   | false=>
    have pP:i∈(List.range ops.size).filter λi=>!listed.getD i false:=by rw[List.mem_filter];exact⟨List.mem_range.2 hi,by rw[h];rfl⟩
    have:((List.range ops.size).filter λi=>!listed.getD i false)=[]:=dp.1 (by omega);rw[this] at pP;simp at pP
  exact done t listed env cM g8 g1 cL iL nN ir uP
 | succ fuel Δ=>
  intro t listed env cM g8 cp cL bj iL nN ir uP HM;simp only[Region.linearise.go];generalize jU:((List.range ops.size).filter λi=>!listed.getD i true&&((ops[i]?).map (·.after.all λe=>!Region.binds .any e||listed.getD e.on false)).getD false)=rs;have Ag:∀i,i<ops.size->listed.getD i true=listed.getD i false:=λi hi=>by
   rw[Array.getD_eq_getD_getElem?,Array.getD_eq_getD_getElem?,e9 (by omega)];rfl
  have Ah:∀i,i∈rs↔i<ops.size/\listed.getD i false=false/\∀o,ops[i]?=some o->∀j∈hc o,listed.getD j false=true:=λi=>by
   rw[<-jU];simp only[List.mem_filter,List.mem_range,Bool.and_eq_true,Bool.not_eq_true'];constructor
   ·rintro⟨J,γ,π⟩;rw[Ag i J] at γ;refine⟨J,γ,λo Γ j ε=>?_⟩;rw[Γ] at π;simp only[Option.map_some,Option.getD_some,Array.all_eq_true'] at π;unfold hc at ε;simp only[List.mem_map,List.mem_filter] at ε;obtain⟨e,⟨q8,lF⟩,rfl⟩:=ε;have:=π e (by simpa using q8);simpa[lF] using this
   ·rintro⟨J,γ,π⟩;refine⟨J,by rw[Ag i J];exact γ,?_⟩;have Γ:ops[i]?=some ops[i]:=e9 J;rw[Γ];simp only[Option.map_some,Option.getD_some,Array.all_eq_true'];intro e he;by_cases hb:Region.binds .any e=true
    ·have:=π _ Γ e.on (by unfold hc;simp only[List.mem_map,List.mem_filter];exact⟨e,⟨by simpa using he,hb⟩,rfl⟩);simp[this]
    ·simp[hb]
  cases hi:rs[t % rs.length]? with
  | none=>
   simp only[List.reverse_nil];have zu:rs=[]:=by
    cases μ:rs with
    | nil=>rfl
    | cons x xs=>
     rw[μ] at hi;have aH:t % (x::xs).length<(x::xs).length:=Nat.mod_lt _ (by simp);rw[a2 aH] at hi;cases hi
   have g1:∀i,i<ops.size->listed.getD i false=true:=λi a9=>by
    cases h:listed.getD i false with
    | true=>rfl
    | false=>
     obtain⟨r,J,γ,π⟩:=HL listed cp ⟨i,a9,h⟩;have:r∈rs:=(Ah r).2 ⟨J,γ,λo Γ j ε=>π j (su r o Γ j ε)⟩;rw[zu] at this;simp at this
   exact done t listed env cM g8 g1 cL iL nN ir uP
  | some i=>
   simp only;rw[Nb];have pP:i∈rs:=cv hi;obtain⟨J,γ,π⟩:=(Ah i).1 pP;have Γ:ops[i]?=some ops[i]:=e9 J;have HN:=DO su (λj=>listed.getD j false=true) (λj o ε Α=>bj j o ε Α) i _ Γ (π _ Γ);have low:∀j bV,j<i->ops[j]?=some bV->(clash ops td i j ops[i] bV=true\/clash ops tb i j ops[i] bV=true)->listed.getD j false=true:=λj bV ε dv ζ=>HN j (ζ.elim (λζ=>(vS i _ Γ).2 j bV ε dv ζ) (λζ=>(P4 i _ Γ).2 j bV ε dv ζ));have high:∀j bV,i<j->ops[j]?=some bV->(clash ops td j i bV ops[i]=true\/clash ops tb j i bV ops[i]=true)->listed.getD j false=false:=λj bV ε dv ζ=>by
    cases Α:listed.getD j false with
    | false=>rfl
    | true=>
     have:=DO su (λj=>listed.getD j false=true) (λj o ε Α=>bj j o ε Α) j bV dv (bj j bV dv Α) i (ζ.elim (λζ=>(vS j bV dv).2 i _ ε Γ ζ) (λζ=>(P4 j bV dv).2 i _ ε Γ ζ));rw[γ] at this;cases this
   have same:oP ops ops[i] (da ops env0 as9 (λ_=>true) i) env:=λx U=>by
    rw[cL x];have c1:a5 (da ops env0 as9 (λi=>listed.getD i false) ops.size) x=a5 (da ops env0 as9 (λi=>listed.getD i false) i) x:=DR (by omega) λj bV x5 HO dv hd=>by
     by_cases e:j=i
     ·subst e;exact γ
     ·refine high j bV (by omega) dv ?_;unfold clash;simp[hd,U]
    rw[c1];exact x4 i λj bV ε dv hd=>low j bV ε dv (.inl (by unfold clash;simp[hd,U]))
   have m5:∀x,a5 (ca ops[i] env (as9 i)) x=a5 (da ops env0 as9 (λj=>(listed.setIfInBounds i true).getD j false) ops.size) x:=λx=>by
    have jY:∀j,(listed.setIfInBounds i true).getD j false=if j=i then true else listed.getD j false:=λj=>by
     rw[Array.getD_eq_getD_getElem?,Array.getD_eq_getD_getElem?];by_cases e:j=i
     ·subst e;rw[Array.getElem?_setIfInBounds_self_of_lt (by omega)];simp
     ·rw[Array.getElem?_setIfInBounds_ne (Ne.symm e),if_neg e]
    rw[vQ];by_cases hd:ops[i].dst=some x
    ·rw[if_pos hd];have c1:a5 (da ops env0 as9 (λj=>(listed.setIfInBounds i true).getD j false) ops.size) x=a5 (da ops env0 as9 (λj=>(listed.setIfInBounds i true).getD j false) (i+1)) x:=DR (by omega) λj bV x5 HO dv tW=>by
      rw[jY,if_neg (by omega)];refine high j bV (by omega) dv (.inl ?_);unfold clash;simp[hd,tW]
     rw[c1];simp only[da,jY,if_true,Γ,vQ,hd]
    ·rw[if_neg hd,cL x];exact x4 ops.size λj bV ε dv tW=>by
      rw[jY,if_neg];intro e;subst e;rw[Γ] at dv;cases dv;exact hd tW
   have jY:∀j,(listed.setIfInBounds i true).getD j false=if j=i then true else listed.getD j false:=λj=>by
    rw[Array.getD_eq_getD_getElem?,Array.getD_eq_getD_getElem?];by_cases e:j=i
    ·subst e;rw[Array.getElem?_setIfInBounds_self_of_lt (by omega)];simp
    ·rw[Array.getElem?_setIfInBounds_ne (Ne.symm e),if_neg e]
   have vT:((List.range ops.size).filter λj=>!(listed.setIfInBounds i true).getD j false).length<=fuel:=by
    have aH:((List.range ops.size).filter λj=>!(listed.setIfInBounds i true).getD j false).length<((List.range ops.size).filter λj=>!listed.getD j false).length:=by
     have:((List.range ops.size).filter λj=>!(listed.setIfInBounds i true).getD j false)=((List.range ops.size).filter λj=>!listed.getD j false).filter λj=>j != i:=by
      rw[List.filter_filter];apply List.filter_congr;intro j _;rw[jY];by_cases e:j=i
      ·subst e;simp
      ·simp[e]
     rw[this];have hm:i∈(List.range ops.size).filter λj=>!listed.getD j false:=by
      rw[List.mem_filter];exact⟨List.mem_range.2 J,by rw[γ];rfl⟩
     exact List.length_filter_lt_length_iff_exists.2 ⟨i,hm,by simp⟩
    omega
   have vU:∀j o,ops[j]?=some o->(listed.setIfInBounds i true).getD j false=true->∀y∈hc o,(listed.setIfInBounds i true).getD y false=true:=λj o ε Α y Ο=>by
    rw[jY] at Α ⊢;by_cases e:y=i
    ·rw[if_pos e]
    ·rw[if_neg e];by_cases Ζ:j=i
     ·subst Ζ;rw[Γ] at ε;cases ε;exact π _ Γ y Ο
     ·rw[if_neg Ζ] at Α;exact bj j o ε Α y Ο
   have keep:∀(tags:List Bool) (cM:Nat),tags.getD i false=false->(∀j,j<ops.size->writer ops tags j=true->(listed.getD j false=true↔j<cM))->∀j,j<ops.size->writer ops tags j=true->((listed.setIfInBounds i true).getD j false=true↔j<cM):=λtags cM ni ir j ε Ξ=>by
    rw[jY];have:j≠i:=λe=>by subst e;rw[P2 j Ξ] at ni;cases ni
    rw[if_neg this];exact ir j ε Ξ
   have keepW:∀(tags:List Bool) (cM:Nat),writer ops tags i=false->(∀j,j<ops.size->writer ops tags j=true->(listed.getD j false=true↔j<cM))->∀j,j<ops.size->writer ops tags j=true->((listed.setIfInBounds i true).getD j false=true↔j<cM):=λtags cM kO ir j ε Ξ=>by
    rw[jY];have:j≠i:=λe=>by subst e;rw[Ξ] at kO;cases kO
    rw[if_neg this];exact ir j ε Ξ
   have both:∀(tags:List Bool),tags.getD i false=true->(∀j bV,j<i->ops[j]?=some bV->clash ops tags i j ops[i] bV=true->listed.getD j false=true)->(∀j bV,i<j->ops[j]?=some bV->clash ops tags j i bV ops[i]=true->listed.getD j false=false)->
     (∀j,j<ops.size->writer ops tags j=true->j<i->listed.getD j false=true)/\(∀j,j<ops.size->writer ops tags j=true->i<j->listed.getD j false=false):=λtags ni lo hi=>⟨λj ε Ξ vV=>lo j _ vV (e9 ε) (P3 ni j _ (e9 ε) Ξ).1,λj ε Ξ vV=>hi j _ vV (e9 ε) (P3 ni j _ (e9 ε) Ξ).2⟩
   have P7:∀(tags:List Bool) (cM:Nat),(∀j,j<ops.size->writer ops tags j=true->j<i->listed.getD j false=true)->(∀j,j<ops.size->writer ops tags j=true->i<j->listed.getD j false=false)->(∀j,j<ops.size->writer ops tags j=true->(listed.getD j false=true↔j<cM))->∀j,j<ops.size->writer ops tags j=true->(j<cM↔j<i):=λtags cM lo hi ir j ε Ξ=>by
    rw[<-ir j ε Ξ];constructor
    ·intro Α;apply Classical.byContradiction;intro Ι;by_cases e:j=i
     ·subst e;rw[γ] at Α;cases Α
     ·rw[hi j ε Ξ (by omega)] at Α;cases Α
    ·exact lo j ε Ξ
   have next:∀(tags:List Bool),(∀j,j<ops.size->writer ops tags j=true->j<i->listed.getD j false=true)->(∀j,j<ops.size->writer ops tags j=true->i<j->listed.getD j false=false)->∀j,j<ops.size->writer ops tags j=true->((listed.setIfInBounds i true).getD j false=true↔j<i+1):=λtags lo hi j ε Ξ=>by
    rw[jY];by_cases e:j=i
    ·subst e;simp
    ·rw[if_neg e];constructor
     ·intro Α;apply Classical.byContradiction;intro Ι;rw[hi j ε Ξ (by omega)] at Α;cases Α
     ·intro aH;exact lo j ε Ξ (by omega)
   cases Bq:td.getD i false with
   | true=>
    obtain⟨cE,yJ⟩:=dL i _ Γ Bq;obtain⟨lo,a9⟩:=both td Bq (λj bV a b c=>low j bV a b (.inl c)) (λj bV a b c=>high j bV a b (.inl c));rw[P5 cM i iL (by omega) (P7 td cM lo a9 ir)];refine cE env _ _ same ?_;exact Δ _ _ _ (i+1) g8 (by simpa using cp) m5 vU (by omega) nN (next td lo a9) (keep tb g8 yJ uP) vT
   | false=>
    cases yJ:tb.getD i false with
    | false=>
     refine dF i _ Γ Bq yJ env _ _ same ?_;exact Δ _ _ _ cM g8 (by simpa using cp) m5 vU iL nN (keep td cM Bq ir) (keep tb g8 yJ uP) vT
    | true=>
     obtain⟨lo,a9⟩:=both tb yJ (λj bV a b c=>low j bV a b (.inr c)) (λj bV a b c=>high j bV a b (.inr c));rw[P6 g8 i nN (by omega) (P7 tb g8 lo a9 uP)];refine gi i _ Γ yJ env _ _ same ?_;exact Δ _ _ _ cM (i+1) (by simpa using cp) m5 vU iL (by omega) (keep td cM Bq ir) (next tb lo a9) vT
def yK (f:Row->c6) (K:θ->List Row->Prop):Prop:=∃a eK,((∀r,f r=.ok a (r::eK))\/∃p:Prop,p/\∀r,f r=.b5 p (.ok a (r::eK)))/\K a eK
theorem bΗ {f g:Row->c6} {K:θ->List Row->Prop} (h:∀r,f r=g r):yK f K=yK g K:=by rw[funext h]
theorem bΘ {a:θ} {τ:List Row} {K:θ->List Row->Prop}:yK (λr=>.ok a (r::τ)) K=K a τ:=by
 refine propext ⟨λ⟨b,eK,h,χ⟩=>?_,λh=>⟨a,τ,.inl λ_=>rfl,h⟩⟩;rcases h with h|⟨p,_,h⟩
 ·have:=h (.map []);injection this with J γ
  injection γ with _ γ
  rw[J,γ];exact χ
 ·have:=h (.map []);cases this
theorem bΙ {p:Prop} {a:θ} {τ:List Row} {K:θ->List Row->Prop}:yK (λr=>.b5 p (.ok a (r::τ))) K=(p/\K a τ):=by
 refine propext ⟨λ⟨b,eK,h,χ⟩=>?_,λh=>⟨a,τ,.inr ⟨p,h.1,λ_=>rfl⟩,h.2⟩⟩;rcases h with h|⟨q,Χ,h⟩
 ·have:=h (.map []);cases this
 ·have:=h (.map []);injection this with ah J
  injection J with J γ
  injection γ with _ γ
  rw[J,γ];exact⟨ah▸Χ,χ⟩
def Fc (P:Program) (f:θ) (args:List θ) (r:Row) (h4:θ->Prop) (pb:θ->Row->Prop):Prop:=
 (∃a,gj P f args a/\h4 a)\/∃a r',(∀τ,h1 P f args (r::τ) (λb s=>b=a/\s=r'::τ) (λ_ _=>False))/\pb a r'
theorem bΚ {P:Program} {f:θ} {args:List θ} {r r':Row} {h4:θ->Prop} {pb:θ->Row->Prop} {a:θ} (h:∀τ,h1 P f args (r::τ) (λb s=>b=a/\s=r'::τ) (λ_ _=>False)) (k:pb a r'):Fc P f args r h4 pb:=.inr ⟨a,r',h,k⟩
def Br (P:Program) (T:bd) (A:List Nat) (env:Ω) (o:Oper) (r:Row) (τ:List Row) (h4:θ->Prop) (pb:θ->Row->Prop) (mw:θ->List Row->Prop):Prop:=match o.op with
 | .call ⟨.value f,args,_⟩=>Fc P (aO env f) (args.toList.map (aO env)) r h4 pb
 | .panic _=>False
 | .defer _=>False
 | _=>(mo T A env o).gy h4 (yK (λr=>kp T A env (r::τ) o) mw)
theorem bΜ {P:Program} {T:bd} {A:List Nat} {env:Ω} {o:Oper} {r:Row} {τ:List Row} {h4:θ->Prop} {pb:θ->Row->Prop} {mw:θ->List Row->Prop}:Br P T A env o r τ h4 pb mw=match o.op with
 | .call ⟨.value f,args,_⟩=>Fc P (aO env f) (args.toList.map (aO env)) r h4 pb
 | .panic _=>False
 | .defer _=>False
 | _=>(mo T A env o).gy h4 (yK (λr=>kp T A env (r::τ) o) mw):=Eq.trans rfl rfl
def iA (P:Program) (T:bd) (A:List Nat) (nt:Nat) (ops:Array Oper):List Nat->Ω->Row->List Row->List Bool->List Bool->(Ω->List Row->Prop)->Prop
 | [],env,r,τ,td,tb,K=>kN ops td=true/\kN ops tb=true/\K env (r::τ)
 | i::is,env,r,τ,td,tb,K=>gT ops[i]? λo=>h2 nt o=true/\gT (fA env ops o) λw=>
   jE w (iA P T A nt ops is (ca o env .cz) r τ (td++[false]) (tb++[false]) K)
    (Br P T A env o r τ (λa=>iA P T A nt ops is (ca o env a) r τ (td++[false]) (tb++[false]) K) (λa r'=>iA P T A nt ops is (ca o env a) r' τ (td++[true]) (tb++[false]) K) (λa eK=>iA P T A nt ops is (ca o env a) r eK (td++[false]) (tb++[true]) K))
def P8 (P:Program) (T:bd) (A:List Nat) (nt:Nat) (ops:Array Oper) (is:List Nat) (o:Oper) (env:Ω) (r:Row) (τ:List Row) (td tb:List Bool) (K:Ω->List Row->Prop) (a:θ):Prop:=iA P T A nt ops is (ca o env a) r τ (td++[false]) (tb++[false]) K
def P9 (P:Program) (T:bd) (A:List Nat) (nt:Nat) (ops:Array Oper) (is:List Nat) (o:Oper) (env:Ω) (τ:List Row) (td tb:List Bool) (K:Ω->List Row->Prop) (a:θ) (r:Row):Prop:=iA P T A nt ops is (ca o env a) r τ (td++[true]) (tb++[false]) K
def P' (P:Program) (T:bd) (A:List Nat) (nt:Nat) (ops:Array Oper) (is:List Nat) (o:Oper) (env:Ω) (r:Row) (td tb:List Bool) (K:Ω->List Row->Prop) (a:θ) (τ:List Row):Prop:=iA P T A nt ops is (ca o env a) r τ (td++[false]) (tb++[true]) K
section
variable {is:List Nat} {i:Nat} {o:Oper} {r:Row} {τ:List Row} {td tb:List Bool} {K:Ω->List Row->Prop} {a:θ}
theorem ks:iA P T A nt ops [] env r τ td tb K=(kN ops td=true/\kN ops tb=true/\K env (r::τ)):=Eq.trans rfl rfl
theorem ku:iA P T A nt ops (i::is) env r τ td tb K=gT ops[i]? λo=>h2 nt o=true/\gT (fA env ops o) λw=>
   jE w (iA P T A nt ops is (ca o env .cz) r τ (td++[false]) (tb++[false]) K) (Br P T A env o r τ (P8 P T A nt ops is o env r τ td tb K) (P9 P T A nt ops is o env τ td tb K) (P' P T A nt ops is o env r td tb K)):=Eq.trans rfl rfl
theorem bΝ:P8 P T A nt ops is o env r τ td tb K a=iA P T A nt ops is (ca o env a) r τ (td++[false]) (tb++[false]) K:=Eq.trans rfl rfl
theorem bΞ:P9 P T A nt ops is o env τ td tb K a r=iA P T A nt ops is (ca o env a) r τ (td++[true]) (tb++[false]) K:=Eq.trans rfl rfl
theorem bΟ:P' P T A nt ops is o env r td tb K a τ=iA P T A nt ops is (ca o env a) r τ (td++[false]) (tb++[true]) K:=Eq.trans rfl rfl
end
def JO (P:Program) (m nt:Nat) (k:List Item) (Z:List Item->Ω->List Row->Prop) (E:θ->Ω->List Row->Prop) (ops:Array Oper) (i:Nat) (o:Oper) (env:Ω) (r:Row) (τ:List Row) (d b:Bool) (a:θ) (r':Row) (eK:List Row):Prop:=
 (d=true/\b=false/\PZ P m nt k Z E ops i o env r a r'/\eK=τ)\/(d=false/\b=true/\StepB P m nt k Z E ops i o env τ a eK/\r'=r/\(mr o=true->eK=τ))\/(d=false/\b=false/\x3 P m nt k Z E ops i o env a/\r'=r/\eK=τ)
theorem bΡ (Θ:bT P T) {i:Nat} {is:List Nat} {r:Row} {τ:List Row} {td tb:List Bool} {K:Ω->List Row->Prop} (h:iA P T A nt ops (i::is) env r τ td tb K) :
  ∃o a r' eK d b,ops[i]?=some o/\JO P m nt k Z E ops i o env r τ d b a r' eK/\(d=true->mr o=false)/\iA P T A nt ops is (ca o env a) r' eK (td++[d]) (tb++[b]) K:=by
 unfold iA gT at h;split at h
 ·exact h.elim
 ·rename_i o Γ;obtain⟨hd,h⟩:=h;split at h
  ·exact h.elim
  rename_i w hw;unfold jE at h;cases w
  ·replace h:=h.1 rfl
   exact⟨o,.cz,r,τ,false,false,Γ,.inr (.inr ⟨rfl,rfl,λenv' σ' rest ο hW=>.unwanted Γ (by rw[q9 ο];exact hw) hd hW,rfl,rfl⟩),λh=>(by cases h),h⟩
  ·replace h:=h.2 rfl
   unfold Br at h;split at h
   ·rename_i f args dW Ν;have Aj:∀env',oP ops o env env'->aO env' f=aO env f/\args.toList.map (aO env')=args.toList.map (aO env):=λenv' ο=>by
     have U:=DU ο;rw[Ν] at U;refine⟨U f (by simp[Op.operands,Call.operands]),DW λx HQ=>U x (by simp[Op.operands,Call.operands,HQ])⟩
    rcases h with⟨a,ζ,h⟩|⟨a,r',ζ,h⟩
    ·refine⟨o,a,r,τ,false,false,Γ,.inr (.inr ⟨rfl,rfl,λenv' σ' rest ο hW=>.call Γ (by rw[q9 ο];exact hw) hd Ν ?_,rfl,rfl⟩),λh=>(by cases h),h⟩;obtain⟨Ε,Ζ⟩:=Aj env' ο;rw[Ε,Ζ];exact(ζ σ').mono (λa s ⟨x,y⟩=>by subst x;subst y;exact hW) (λ_ _ h=>h.elim)
    ·refine⟨o,a,r',τ,true,false,Γ,.inl ⟨rfl,rfl,λenv' eK rest ο hW=>.call Γ (by rw[q9 ο];exact hw) hd Ν ?_,rfl⟩,λ_=>(by unfold mr;rw[Ν]),h⟩;obtain⟨Ε,Ζ⟩:=Aj env' ο;rw[Ε,Ζ];exact(ζ eK).mono (λa s ⟨x,y⟩=>by subst x;subst y;exact hW) (λ_ _ h=>h.elim)
   ·exact h.elim
   ·exact h.elim
   ·rename_i J γ π;have Ak:∀(Bs:cB) (a:θ),mo T A env o=Bs->(∀K:θ->List Row->Prop,∀s,K a s->(Bs.du s).holds K)->(∀σ s,Bs.or σ s=Bs.du σ)->x3 P m nt k Z E ops i o env a:=λBs a μ aS HR env' σ' rest ο hW=>by
     refine .op (A:=A) Θ Γ (by rw[q9 ο];exact hw) hd (λc ζ=>π c ζ) ?_;rw[DY ο,μ,HR];exact aS _ _ hW
    unfold cB.gy at h;split at h
    ·rename_i a ν;exact⟨o,a,r,τ,false,false,Γ,.inr (.inr ⟨rfl,rfl,Ak _ a ν (λK s χ=>χ) (λ_ _=>rfl),rfl,rfl⟩),λh=>(by cases h),h⟩
    ·rename_i p a ν;exact⟨o,a,r,τ,false,false,Γ,.inr (.inr ⟨rfl,rfl,Ak _ a ν (λK s χ=>⟨h.1,χ⟩) (λ_ _=>rfl),rfl,rfl⟩),λh=>(by cases h),h.2⟩
    ·exact h.elim
    ·rename_i xY;have D1:∀(a:θ) (eK:List Row),(∀r,∃x:c6,kp T A env (r::τ) o=x/\∀K:θ->List Row->Prop,K a (r::eK)->x.holds K)->StepB P m nt k Z E ops i o env τ a eK:=λa eK μ env' r rest ο hW=>by
      obtain⟨x,μ,aS⟩:=μ r;refine .op (A:=A) Θ Γ (by rw[q9 ο];exact hw) hd (λc ζ=>π c ζ) ?_;rw[DY ο,Nk ο,xY,μ];exact aS _ hW
     obtain⟨a,eK,hu,χ⟩:=h;refine⟨o,a,r,eK,false,true,Γ,.inr (.inl ⟨rfl,rfl,D1 a eK λr=>?_,rfl,λμ=>?_⟩),λh=>(by cases h),χ⟩
     ·rcases hu with hu|⟨p,ω,hu⟩
      ·exact⟨_,hu r,λK χ=>χ⟩
      ·exact⟨_,hu r,λK χ=>⟨ω,χ⟩⟩
     ·have:r::eK=r::τ:=by
       rcases hu with hu|⟨p,ω,hu⟩
       ·exact DZ (p:=True) μ (.inl (hu r))
       ·exact DZ μ (.inr (hu r))
      injection this
theorem bΤ (Θ:bT P T) {K:Ω->List Row->Prop} {env0:Ω}:∀(d i:Nat) (td tb:List Bool) (as9:Nat->θ) (ρs:Nat->Row) (τs:Nat->List Row),i+d=ops.size->td.length=i->tb.length=i->
  (∀j o,j<i->ops[j]?=some o->JO P m nt k Z E ops j o (da ops env0 as9 (λ_=>true) j) (ρs j) (τs j) (td.getD j false) (tb.getD j false) (as9 j) (ρs (j+1)) (τs (j+1))/\(td.getD j false=true->mr o=false))->
  iA P T A nt ops (List.range' i d) (da ops env0 as9 (λ_=>true) i) (ρs i) (τs i) td tb K->
  ∃(td tb:List Bool) (as9:Nat->θ) (rH:Nat->Row) (rI:Nat->List Row),kN ops td=true/\kN ops tb=true/\rH 0=ρs 0/\rI 0=τs 0/\(∀j o,ops[j]?=some o->JO P m nt k Z E ops j o (da ops env0 as9 (λ_=>true) j) (rH j) (rI j) (td.getD j false) (tb.getD j false) (as9 j) (rH (j+1)) (rI (j+1))/\(td.getD j false=true->mr o=false))/\K (da ops env0 as9 (λ_=>true) ops.size) (rH ops.size::rI ops.size):=by
 intro d
 induction d with
 | zero=>
  intro i td tb as9 ρs τs hi Ξ wF ε h;simp only[List.range'_zero,iA] at h;have:i=ops.size:=by omega
  subst this;exact⟨td,tb,as9,ρs,τs,h.1,h.2.1,rfl,rfl,λj o Γ=>ε j o (Array.getElem?_eq_some_iff.1 Γ).1 Γ,h.2.2⟩
 | succ d Δ=>
  intro i td tb as9 ρs τs hi Ξ wF ε h;rw[List.range'_succ] at h;obtain⟨o,a,r',eK,JP,oz,Γ,HS,cf,h⟩:=bΡ (m:=m) (k:=k) (Z:=Z) (E:=E) Θ h;let kq:Nat->θ:=λj=>if j=i then a else as9 j
  let rH:Nat->Row:=λj=>if j=i+1 then r' else ρs j
  let rI:Nat->List Row:=λj=>if j=i+1 then eK else τs j
  have vW:∀j,j<=i->da ops env0 as9 (λ_=>true) j=da ops env0 kq (λ_=>true) j:=λj ε=>Nn j λx U=>by simp only[kq];rw[if_neg (by omega)]
  have HT:da ops env0 kq (λ_=>true) (i+1)=ca o (da ops env0 as9 (λ_=>true) i) a:=by
   simp only[da,if_true,Γ];rw[<-vW i (Nat.le_refl i)];simp only[kq,if_true]
  have xF:∀(t:List Bool) (x:Bool),t.length=i->(t++[x]).getD i false=x:=λt x h=>by rw[List.getD_eq_getElem?_getD,hE (by omega),h];simp
  have Qa:∀(t:List Bool) (x:Bool) (j:Nat),t.length=i->j<i->(t++[x]).getD j false=t.getD j false:=λt x j h ε=>by rw[List.getD_eq_getElem?_getD,ea (by omega),<-List.getD_eq_getElem?_getD]
  have:=Δ (i+1) (td++[JP]) (tb++[oz]) kq rH rI (by omega) (by simp[Ξ]) (by simp[wF]) (λj bV aH dv=>?_) ?_
  ·obtain⟨t1,t2,ba,r2,s2,Ρ,ag,aV,cr,gO,iq⟩:=this;exact⟨t1,t2,ba,r2,s2,Ρ,ag,aV.trans (by simp only[rH];rw[if_neg (by omega)]),cr.trans (by simp only[rI];rw[if_neg (by omega)]),gO,iq⟩
  ·by_cases e:j=i
   ·subst e;rw[Γ] at dv;cases dv;rw[<-vW j (Nat.le_refl j),xF td JP Ξ,xF tb oz wF];simp only[kq,rH,rI,if_true];rw[if_neg (by omega),if_neg (by omega)];exact⟨HS,cf⟩
   ·have:=ε j bV (by omega) dv;rw[<-vW j (by omega),Qa td JP j Ξ (by omega),Qa tb oz j wF (by omega)];simp only[kq,rH,rI];rw[if_neg (by omega),if_neg (by omega),if_neg (by omega),if_neg (by omega),if_neg (by omega)];exact this
  ·rw[HT];simp only[rH,rI,if_true];exact h
theorem W.JQ (Θ:bT P T) (sw:P.follows .mixedOrders=true) {r:Row} {τ:List Row} {id:Nat} (h:∀η:Ω->List Row->Prop,(∀env σ,W P m nt k env σ Z E->η env σ)->iA P T A nt ops (idx ops.size []) env r τ [] [] η):W P m nt (.code (.region id ops true)::k) env (r::τ) Z E:=by
 have ah:=h (λenv σ=>W P m nt k env σ Z E) λ_ _ h=>h;rw[idx_eq,List.range_eq_range'] at ah;obtain⟨td,tb,as9,ρs,τs,Ρ,ag,aV,cr,gO,iq⟩:=bΤ (m:=m) (k:=k) (Z:=Z) (E:=E) (env0:=env) Θ ops.size 0 [] [] (λ_=>.cz) (λ_=>r) (λ_=>τ) (by omega) rfl rfl (λj o ε=>by omega) ah;intro Q mn x cs b S B H t U hb ω Η he;refine .draw U hb λn=>?_;have Fe:∀i:Nat,(Array.replicate ops.size false).getD i false=false:=λi=>by
  rw[Array.getD_eq_getD_getElem?,Array.getElem?_replicate];split<;>rfl
 have key:=W.bΒ (P:=P) (m:=m) (nt:=nt) (k:=k) (Z:=Z) (E:=E) (ops:=ops) (as9:=as9) (ρs:=ρs) (τs:=τs) (td:=td) (tb:=tb) (env0:=env) Ρ ag
  (λi o Γ J γ=>by
   rcases(gO i o Γ).1 with⟨a,_⟩|⟨_,a,_⟩|⟨_,_,a,_⟩
   ·rw[J] at a;cases a
   ·rw[γ] at a;cases a
   ·exact a)
  (λi o Γ J=>by
   rcases(gO i o Γ).1 with⟨_,b,a,_⟩|⟨a,_⟩|⟨a,_⟩
   ·exact⟨a,b⟩
   ·rw[J] at a;cases a
   ·rw[J] at a;cases a)
  (λi o Γ J=>by
   rcases(gO i o Γ).1 with⟨_,a,_⟩|⟨_,_,a,_⟩|⟨_,a,_⟩
   ·rw[J] at a;cases a
   ·exact a
   ·rw[J] at a;cases a)
  (λi o Γ hw=>by
   rcases(gO i o Γ).1 with⟨a,_⟩|⟨_,_,_,a,_⟩|⟨_,_,_,a,_⟩
   ·unfold writer at hw;rw[a,Γ] at hw;simp[(gO i o Γ).2 a] at hw
   ·exact a
   ·exact a)
  (λi o Γ hw=>by
   rcases(gO i o Γ).1 with⟨_,_,_,a⟩|⟨_,b,_,_,a⟩|⟨_,_,_,_,a⟩
   ·exact a
   ·refine a ?_;unfold writer at hw;rw[b,Γ] at hw;simpa using hw
   ·exact a)
  (.bJ iq) ops.size n (Array.replicate ops.size false) env 0 0 (by simp) (λi=>?_) (λi o Γ Α=>?_) (Nat.zero_le _) (Nat.zero_le _) (λj ε _=>?_) (λj ε _=>?_) ?_
 ·rw[aV,cr] at key;rw[sw];simp only[Region.schedule,Bool.true_or,if_true,Region.linearise];exact key Q mn x cs b S B H t U hb ω Η he
 ·have:∀n,da ops env as9 (λi=>(Array.replicate ops.size false).getD i false) n=env:=by
   intro n
   induction n with
   | zero=>rfl
   | succ n Δ=>
    simp only[da];rw[if_neg (by rw[Fe n];simp)];exact Δ
  rw[this]
 ·rw[Fe] at Α;cases Α
 ·rw[Fe];simp
 ·rw[Fe];simp
 ·have:=List.length_filter_le (λi=>!(Array.replicate ops.size false).getD i false) (List.range ops.size);simpa using this
theorem bΥ {K K':Ω->List Row->Prop} (I:∀e s,K e s->K' e s):∀(is:List Nat) (env:Ω) (r:Row) (τ:List Row) (td tb:List Bool),iA P T A nt ops is env r τ td tb K->iA P T A nt ops is env r τ td tb K':=by
 intro is
 induction is with
 | nil=>intro env r τ td tb h;exact⟨h.1,h.2.1,I _ _ h.2.2⟩
 | cons i is Δ=>
  intro env r τ td tb h;unfold iA gT at h ⊢;cases Γ:ops[i]? with
  | none=>rw[Γ] at h;exact h.elim
  | some o=>
   rw[Γ] at h;simp only at h ⊢;refine⟨h.1,?_⟩
   replace h:=h.2
   cases hw:fA env ops o with
   | none=>rw[hw] at h;exact h.elim
   | some w=>
    rw[hw] at h;unfold jE at h ⊢;refine⟨λe=>Δ _ _ _ _ _ (h.1 e),λe=>?_⟩
    replace h:=h.2 e
    unfold Br at h ⊢;split
    ·rename_i f args dW Ν;rw[Ν] at h;simp only at h;rcases h with⟨a,ζ,h⟩|⟨a,r',ζ,h⟩
     ·exact .inl ⟨a,ζ,Δ _ _ _ _ _ h⟩
     ·exact .inr ⟨a,r',ζ,Δ _ _ _ _ _ h⟩
    ·rename_i Ν;rw[Ν] at h;exact h
    ·rename_i Ν;rw[Ν] at h;exact h
    ·rename_i J γ π;split at h
     ·rename_i f args dW Ν;exact absurd Ν (J f args dW)
     ·rename_i y Ν;exact absurd Ν (γ y)
     ·rename_i y Ν;exact absurd Ν (π y)
     ·unfold cB.gy at h ⊢;split at h
      ·exact Δ _ _ _ _ _ h
      ·exact⟨h.1,Δ _ _ _ _ _ h.2⟩
      ·exact h.elim
      ·obtain⟨a,eK,hu,χ⟩:=h;exact⟨a,eK,hu,Δ _ _ _ _ _ χ⟩
theorem W.Qb (Θ:bT P T) (sw:P.follows .mixedOrders=true) (ha:Ω) (gA:List Row) {r:Row} {τ:List Row} {id:Nat} (h:W P m nt k ha gA Z E) (μ:iA P T A nt ops (idx ops.size []) env r τ [] [] (λe s=>s=gA/\∀p∈ha,a5 e p.1=p.2)):W P m nt (.code (.region id ops true)::k) env (r::τ) Z E:=
 W.JQ Θ sw λη I=>bΥ (λe s ⟨J,γ⟩=>I e s (J▸W.forget ha γ h)) _ _ _ _ _ _ μ
theorem W.JR (Θ:bT P T) (sw:P.follows .mixedOrders=true) (ha:Ω) (gA:List Row) {id:Nat} (h:W P m nt k ha gA Z E) (μ:jd P T A nt ops (idx ops.size []) env σ [] (λe s=>s=gA/\∀p∈ha,a5 e p.1=p.2)):W P m nt (.code (.region id ops true)::k) env σ Z E:=
 W.draw Θ sw λη I=>Np (λe s ⟨J,γ⟩=>I e s (J▸W.forget ha γ h)) _ _ _ _ μ
end
end Go.TL
namespace Go.TL
open Go.Proofs
variable [bn]
attribute [congr] bΗ
attribute [simp] bΘ bΙ bΜ bΝ bΞ bΟ
def eL (g:FuncId) (args:List θ) (d:cG) (r:θ) (ep:cG):Prop:=ak Tryz.prog g (.Ψ 0 1 0 0::args) [b4 d] (λa s=>cC a r/\s=[b4 ep]) (λ_ _=>False)
theorem Qc {l:List θ} (h:∀a∈l,av 0 a) (ρ:List Nat):l.map (dI ρ)=l:=by
 induction l with
 | nil=>rfl
 | cons a l Δ=>rw[List.map_cons,(h a (by simp)).dI,Δ λx U=>h x (by simp[U])]
theorem eL.c {g:FuncId} {args gk:List θ} {d ep:cG} {r:θ} {σ:List Row} {K E:θ->List Row->Prop} (h:eL g args d r ep) (id:Nat) (bS:σ[id]?=some (b4 d)) (he:aK gk args) (ν:∀a∈gk,av 0 a) (μ:av 0 r) (I:K r (σ.set id (b4 ep))):h1 Tryz.prog (.fn (.func g) [] []) (.Ψ id 1 0 0::gk) σ K E:=by
 refine ak.one (as0:=.Ψ 0 1 0 0::gk) (r:=r) (row':=b4 ep) (ak.kQ h (.cons (.refl _) he) λa s ⟨J,γ⟩=>⟨r,J,rfl,γ⟩) id bS (o9 d) (o9 ep) ?_ (μ.hf 1) ?_ ?_
 ·intro a hm;rcases List.mem_cons.1 hm with rfl|hm
  ·exact Nat.zero_lt_one
  ·exact(ν a hm).hf 1
 ·rw[List.map_cons,Qc ν];rfl
 ·rw[μ.dI];exact I
theorem eL.e {g:FuncId} {args gk:List θ} {d ep:cG} {r:θ} {h4:θ->Prop} {pb:θ->Row->Prop} (h:eL g args d r ep) (he:aK gk args) (ν:∀a∈gk,av 0 a) (μ:av 0 r) (I:pb r (b4 ep)):Fc Tryz.prog (.fn (.func g) [] []) (.Ψ 0 1 0 0::gk) (b4 d) h4 pb:=
 bΚ (λτ=>h.c 0 rfl he ν μ ⟨rfl,rfl⟩) I
@[simp] theorem mP (d:cG) (n:Int):(d.after n).bm.length<=d.bm.length:=by
 unfold cG.after;split
 ·exact Nat.le_refl _
 ·simp[cG.next]
theorem uQ (d:cG) (hd:d.bm.length<2 ^ 63) (n:Int):eL 24 [R n] d (R (hS d n)) (d.after n):=(JN d hd n).mono (λa s ⟨J,γ⟩=>⟨.of J,γ⟩) (λ_ _ h=>h)
theorem Ff (d:cG) (hd:d.bm.length<2 ^ 63) (a b:Int):eL 38 [R a,R b] d (R (pa d a b)) (d.after (IntKind.i64.wrap (b-a))):=(bφ d hd a b).mono (λa s ⟨J,γ⟩=>⟨.of J,γ⟩) (λ_ _ h=>h)
theorem bΦ (d:cG) (hd:d.bm.length<2 ^ 63) (l:List Int) (ah:0<l.length) (Α:l.length<1000000):eL 61 [bf R 1 l] d (R (l.getD (yI d l) 0)) (d.after ((l.length:Int)-1)):=(bω d hd l ah Α).mono (λa s ⟨J,γ⟩=>⟨.of J,γ⟩) (λ_ _ h=>h)
def wS (d:cG) (n:Int):Bool:=decide (hS d (n-1)=n.tdiv 2)
theorem JS (d:cG) (hd:d.bm.length<2 ^ 63) (n:Int) (J:1<=n) (γ:n<1000):eL 156 [R n] d (bA (wS d n)) (d.after (n-1)):=by
 have hw:IntKind.i64.wrap (n-1)=n-1:=IntWalk.i64_in _ (by omega);unfold eL;refine ak.body Κ Tryz.func156 rfl rfl Tryz.ntmps156 rfl rfl (by simp) ?_;(repeat (first|apply κ|(refine ξ λη I=>?_;simp;(repeat (rw[δ];simp));apply I)));(repeat apply κ);refine ξ λη I=>?_;simp;(repeat (rw[δ];simp[hw]));refine eL.c (uQ d hd (n-1)) 0 rfl (aK.refl _) (by simp) (by simp) ?_;simp[hw];(repeat (rw[δ];simp[hw]));apply I;have Ξ:IntKind.i64.wrap (n.tdiv 2)=n.tdiv 2:=by
  rw[Int.tdiv_eq_ediv_of_nonneg (by omega)];exact IntWalk.i64_in _ (by omega)
 rw[Ξ];exact W.ret ⟨_,rfl,.refl _,rfl⟩
def pd (l:List Int) (k:Nat) (x:Int):List Int:=l.take k++x::l.drop k
def hj (d:cG):Nat->List Int×cG
 | 0=>([],d)
 | i+1=>(pd (hj d i).1 (hS (hj d i).2 i).toNat i,(hj d i).2.after i)
theorem JU (d:cG) (n:Nat):(hj d n).2.bm.length<=d.bm.length:=by
 induction n with
 | zero=>exact Nat.le_refl _
 | succ n Δ=>exact Nat.le_trans (mP _ _) Δ
theorem JV {l:List Int} {k:Nat} {x:Int}:(pd l k x).length=l.length+1:=by
 unfold pd;simp;omega
theorem JW (d:cG) (n:Nat):(hj d n).1.length=n:=by
 induction n with
 | zero=>rfl
 | succ n Δ=>show(pd _ _ _).length=_;rw[JV,Δ]
def jm (l:List Int) (k:Nat):List Int:=(l++[0]).take (k+1)++l.drop k
theorem bΧ (l:List Int):jm l l.length=l++[0]:=by unfold jm;rw[List.take_of_length_le (by simp)];simp
theorem Qd {l:List Int} {k:Nat} (h:k<=l.length):(jm l k).length=l.length+1:=by
 unfold jm;simp;omega
theorem bΨ {l:List Int} {k:Nat} (h:k<l.length):(jm l (k+1))[k]?=some l[k]:=by
 unfold jm;rw[ea (by simp;omega),List.getElem?_take_of_lt (by omega),ea h,a2 h]
theorem bΩ {l:List Int} {k:Nat} (h:k<l.length):(jm l (k+1)).set (k+1) l[k]=jm l k:=by
 unfold jm;have Ε:((l++[0]).take (k+1+1))=(l++[0]).take (k+1)++[(l++[0])[k+1]'(by simp;omega)]:=List.take_succ_eq_append_getElem (by simp;omega);have Ζ:l.drop k=l[k]::l.drop (k+1):=List.drop_eq_getElem_cons h;rw[Ε,Ζ,List.append_assoc,List.set_append_right _ _ (by simp;omega)];congr 1;have:k+1-((l++[0]).take (k+1)).length=0:=by simp;omega
 rw[this];rfl
theorem cα {l:List Int} {k:Nat} {x:Int} (h:k<=l.length):(jm l k).set k x=pd l k x:=by
 unfold jm pd;have Ε:((l++[0]).take (k+1))=l.take k++[(l++[0])[k]'(by simp;omega)]:=by
  rw[List.take_succ_eq_append_getElem (by simp;omega),List.take_append_of_le_length h]
 rw[Ε,List.append_assoc,List.set_append_right _ _ (by rw[List.length_take];omega)];have:k-(l.take k).length=0:=by rw[List.length_take];omega
 rw[this];rfl
theorem Qe (d:cG) (hd:d.bm.length<2 ^ 63) (n:Nat) (Ι:n<1000):eL 63 [R n] d (bf R 1 (hj d n).1) (hj d n).2:=by
 unfold eL;refine ak.body Κ Tryz.func63 rfl rfl Tryz.ntmps63 rfl rfl (by simp) ?_;(repeat (first|apply κ|(refine ξ λη I=>?_;simp;(repeat (rw[δ];simp));apply I)));refine W.iter (λi:Nat=>i<=n) (λi=>[(0,.Ψ 0 1 0 0),(1,R n),(5,aX 1 ((hj d i).1.map R)),(6,R i)]) (λi=>b4 (hj d i).2::aL 3 1 ((hj d i).1.map R)) (λi=>n-i) 0 (Nat.zero_le _) rfl (by simp[aX,hj]) (λi hi Δ=>?_);(repeat (first|apply κ|(refine ξ λη I=>?_;simp;(repeat (rw[δ];simp));apply I)));refine W.en rfl (λζ=>?_) (λζ=>?_)
 ·have ζ:i<n:=by simpa using ζ
  have dc:hj d (i+1)=(pd (hj d i).1 (hS (hj d i).2 i).toNat i,(hj d i).2.after i):=rfl;obtain⟨L,aD⟩:∃L,L=(hj d i).1:=⟨_,rfl⟩;obtain⟨D,dL⟩:∃D,D=(hj d i).2:=⟨_,rfl⟩;have mD:L.length=i:=by rw[aD];exact JW d i
  have nA:D.bm.length<2 ^ 63:=by rw[dL];exact Nat.lt_of_le_of_lt (JU d i) hd
  rw[<-aD,<-dL] at dc;rw[<-aD,<-dL];obtain⟨t0,t1⟩:=s9 D i (by omega) (by omega);obtain⟨eC,k4⟩:∃k:Nat,hS D i=k:=⟨(hS D i).toNat,by omega⟩;rw[k4] at dc t1;have cβ:eC<=i:=by omega
  (repeat apply κ);refine ξ λη I=>?_;simp;(repeat (rw[δ];simp));refine eL.c (uQ D nA i) 0 rfl (aK.refl _) (by simp) (by simp) ?_;simp;(repeat (rw[δ];simp));rw[k4];apply I
  repeat apply κ
  refine W.fC (A:=[19]) Κ [(0,.Ψ 0 1 0 0),(1,R n),(5,.ms 1 (i+1) 0 (i+1)),(6,R i),(7,R eC)] [b4 (D.after i),.cells 3 1 ((jm L i).map R)] ?_ (by
    have Θ:(jm L i).map R=L.map R++[R 0]:=by rw[<-mD,bΧ];simp
    rw[Θ];by_cases Η:L=[]
    ·subst Η;have kh:i=0:=by simpa using mD.symm
     subst kh;(try simp);(repeat (rw[δ];simp[h6,show aX 1 []=.sl true 0 [] from rfl]));(try simp[h6,show aX 1 []=.sl true 0 [] from rfl])
    ·have gp:L.map R≠[]:=by simpa using Η
     (try simp);(repeat (rw[δ];simp[fi gp,c8 gp,mD]));(try simp[fi gp,c8 gp,mD]);omega)
  (repeat (first|apply κ|(refine ξ λη I=>?_;simp;(repeat (rw[δ];simp));apply I)));refine W.iter (λk:Nat=>eC<=k/\k<=i) (λk=>[(0,.Ψ 0 1 0 0),(1,R n),(5,.ms 1 (i+1) 0 (i+1)),(6,R i),(7,R eC),(8,R k)]) (λk=>[b4 (D.after i),.cells 3 1 ((jm L k).map R)]) (λk=>k) i ⟨cβ,Nat.le_refl _⟩ rfl (by simp) (λk χ xC=>?_);(repeat (first|apply κ|(refine ξ λη I=>?_;simp;(repeat (rw[δ];simp));apply I)));refine W.en rfl (λa4=>?_) (λa4=>?_)
  ·have kG:eC<k:=by simpa using a4
   obtain⟨j,Qf⟩:∃j,k=j+1:=⟨k-1,by omega⟩;have gV:j<L.length:=by omega
   have hw:IntKind.i64.wrap ((k:Int)-1)=j:=by rw[IntWalk.i64_in _ (by omega)];omega
   have yd:(jm L k).length=i+1:=by rw[Qd (by omega),mD]
   obtain⟨y,Ο⟩:∃y,(jm L k)[k]?=some y:=⟨_,a2 (by omega)⟩;obtain⟨af,bg⟩:∃af,af=(jm L k).map R:=⟨_,rfl⟩;have wT:af.length=i+1:=by rw[bg,List.length_map,yd]
   have s':af[j]?=some (R L[j]):=by rw[bg,List.getElem?_map,Qf,bΨ gV];rfl
   have wU:af[k]?=some (R y):=by rw[bg,List.getElem?_map,Ο];rfl
   have JX:af.set k (R L[j])=(jm L j).map R:=by rw[bg,<-bΩ gV,List.map_set,Qf]
   have cγ:∀h,af[j]'h=R L[j]:=λh=>by rw[a2 h] at s';exact Option.some.inj s'
   have JY:∀h,af[k]'h=R y:=λh=>by rw[a2 h] at wU;exact Option.some.inj wU
   refine W.to (σ':=[b4 (D.after i),.cells 3 1 af]) (env':=[(0,.Ψ 0 1 0 0),(1,R n),(5,.ms 1 (i+1) 0 (i+1)),(6,R i),(7,R eC),(8,R k)]) ?_ (by rw[bg]) (by simp);(repeat apply κ);refine ξ λη I=>?_;simp;(repeat (rw[δ];simp[hw,wT,s',wU,cγ,JY]));refine⟨by omega,by omega,?_⟩;apply I;(repeat (first|apply κ|(refine ξ λη I=>?_;simp;(repeat (rw[δ];simp[hw]));apply I)));refine W.to (xC j ⟨by omega,by omega⟩ (by omega)) ?_ ?_
   ·rw[JX]
   ·simp
  ·have kG:k=eC:=by simp at a4;omega
   subst kG;refine W.exit rfl ?_;have yd:(jm L k).length=i+1:=by rw[Qd (by omega),mD]
   obtain⟨y,Ο⟩:∃y,(jm L k)[k]?=some y:=⟨_,a2 (by omega)⟩;obtain⟨af,bg⟩:∃af,af=(jm L k).map R:=⟨_,rfl⟩;have wT:af.length=i+1:=by rw[bg,List.length_map,yd]
   have wU:af[k]?=some (R y):=by rw[bg,List.getElem?_map,Ο];rfl
   have JX:af.set k (R i)=(pd L k i).map R:=by rw[bg,<-cα (by omega),List.map_set]
   have JY:∀h,af[k]'h=R y:=λh=>by rw[a2 h] at wU;exact Option.some.inj wU
   refine W.to (σ':=[b4 (D.after i),.cells 3 1 af]) (env':=[(0,.Ψ 0 1 0 0),(1,R n),(5,.ms 1 (i+1) 0 (i+1)),(6,R i),(7,R k)]) ?_ (by rw[bg]) (by simp);(repeat apply κ);refine ξ λη I=>?_;simp;(repeat (rw[δ];simp[wT,wU,JY]));refine⟨by omega,?_⟩;apply I;have hw:=e6 ζ (show n<2 ^ 62 by omega);(repeat (first|apply κ|(refine ξ λη I=>?_;simp;(repeat (rw[δ];simp[hw]));apply I)));have gp:(pd L k i).map R≠[]:=λh=>by have:=congrArg List.length h;rw[List.length_map,JV] at this;simp at this
   refine W.to (Δ (i+1) ζ (by omega)) ?_ ?_
   ·rw[dc,JX,c8 (by simpa using gp)];rfl
   ·rw[dc];simp only[Int.toNat_natCast];rw[fi gp];simp[hw,JV,mD]
 ·have ζ:i=n:=by simp at ζ;omega
  subst ζ;refine W.exit rfl ?_;(repeat (first|apply κ|(refine ξ λη I=>?_;simp;(repeat (rw[δ];simp));apply I)));refine W.cut 1 (by simp) [(4,dk 1 ((hj d i).1.map R))] (by simp) (λid r bS μ=>?_) ?_ ?_
  ·have:id=0:=by omega
   subst this;simp at μ;subst μ;exact λe he a ν=>by simp[θ.cells] at he;subst he;simp[θ.cells] at ν;rcases ν with rfl|rfl<;>simp[fJ,θ.cells]
  ·intro p ω;simp at ω;subst ω;show eE 1 _ (a5 _ 4) _;simp;refine p6 (t:=3) (Nat.le_refl _) (λΑ=>by rw[c8 Α];rfl) (λe he a ν=>?_);obtain⟨x,_,rfl⟩:=List.mem_map.1 he;simp[θ.cells] at ν;subst ν;exact .z _
  ·exact W.ret ⟨_,rfl,.acc,rfl⟩
theorem ta (d:cG) (h:Nat):ek h (b4 d):=λe he a ν=>by
 simp[θ.cells] at he;subst he;simp[θ.cells] at ν;rcases ν with rfl|rfl<;>simp[fJ,θ.cells]
section
variable {P:Program} {m nt:Nat} {k:List Item} {env:Ω} {Z:List Item->Ω->List Row->Prop} {E:θ->Ω->List Row->Prop}
theorem W.cδ {d:cG} {t kk:Nat} {l:List θ} {x:Nat} (hm:m<=1) (hb:∀e∈l,∀a∈e.cells,av 0 a) (env':Ω) (hd:a5 env x=aX 1 l) (cL:∀p∈env',a5 env p.1=p.2/\av 1 p.2) (hW:W P m nt k ((x,dk kk l)::env') [b4 d] Z E):W P m nt k env (b4 d::aL t kk l) Z E:=
 W.cut 1 hm ((x,dk kk l)::env') (by simp) (λid r bS μ=>by
  have:id=0:=by omega
  subst this;simp at μ;subst μ;exact ta d 1) (λp ω=>by
  rcases List.mem_cons.1 ω with rfl|ω
  ·show eE 1 _ (a5 env x) _;rw[hd];exact p6 (t:=t) (Nat.le_refl _) (λΑ=>by rw[c8 Α];rfl) (λe he a ν=>(hb e he a ν).mono (Nat.zero_le _))
  ·rw[(cL p ω).1];exact .low (cL p ω).2) (by simpa using hW)
end
theorem cε {i n:Nat} (h:i<n) (Ι:n<1000):IntKind.i64.wrap ((i:Int)+1)=((i+1:Nat):Int):=by
 rw[IntWalk.i64_in _ (by omega)];omega
def h9 (d:cG):Nat->List Int×cG
 | 0=>([],d)
 | i+1=>((h9 d i).1++(if wS (h9 d i).2 2 then [(i:Int)] else []),(h9 d i).2.after 1)
theorem Qg (d:cG) (n:Nat):(h9 d n).2.bm.length<=d.bm.length:=by
 induction n with
 | zero=>exact Nat.le_refl _
 | succ n Δ=>exact Nat.le_trans (mP _ _) Δ
theorem Qh (d:cG) (n:Nat):(h9 d n).1.length<=n:=by
 induction n with
 | zero=>exact Nat.le_refl _
 | succ n Δ=>
  show((h9 d n).1++_).length<=_;rw[List.length_append];split<;>simp<;>omega
theorem cζ (d:cG) (hd:d.bm.length<2 ^ 63):eL 156 [R 2] d (bA (wS d 2)) (d.after 1):=JS d hd 2 (by decide) (by decide)
theorem cη (d:cG) (hd:d.bm.length<2 ^ 63):eL 129 [] d (bf R 1 (h9 d 3).1) (h9 d 3).2:=by
 unfold eL;obtain⟨n,Ι⟩:∃n,n=3:=⟨_,rfl⟩;rw[<-Ι];refine ak.body Κ Tryz.func129 rfl rfl Tryz.ntmps129 rfl rfl (by simp) ?_;(repeat (first|apply κ|(refine ξ λη I=>?_;simp;(repeat (rw[δ];simp));apply I)));refine W.iter (λi:Nat=>i<=n) (λi=>[(0,.Ψ 0 1 0 0),(3,aX 1 ((h9 d i).1.map R)),(4,R i)]) (λi=>b4 (h9 d i).2::aL 3 1 ((h9 d i).1.map R)) (λi=>n-i) 0 (Nat.zero_le _) rfl (by simp[aX,h9]) (λi hi Δ=>?_);(repeat (first|apply κ|(refine ξ λη I=>?_;simp;(repeat (rw[δ];simp));apply I)));refine W.en rfl (λζ=>?_) (λζ=>?_)
 ·have ζ:i<n:=by simp at ζ;omega
  have dc:h9 d (i+1)=((h9 d i).1++(if wS (h9 d i).2 2 then [(i:Int)] else []),(h9 d i).2.after 1):=rfl
  have mD:=Qh d i;obtain⟨L,aD⟩:∃L,L=(h9 d i).1:=⟨_,rfl⟩;obtain⟨D,dL⟩:∃D,D=(h9 d i).2:=⟨_,rfl⟩;have nA:D.bm.length<2 ^ 63:=by rw[dL];exact Nat.lt_of_le_of_lt (Qg d i) hd
  rw[<-aD,<-dL] at dc;rw[<-aD] at mD;rw[<-aD,<-dL];have hw:=cε ζ (by omega);(repeat apply κ);refine ξ λη I=>?_;simp;(repeat (rw[δ];simp));refine eL.c (cζ D nA) 0 rfl (aK.refl _) (by simp) (by simp) ?_;simp;(repeat (rw[δ];simp));apply I;cases hb:wS D 2
  ·refine aj rfl ?_;(repeat (first|apply κ|(refine ξ λη I=>?_;simp;(repeat (rw[δ];simp[hw]));apply I)));refine W.to (Δ (i+1) ζ (by omega)) ?_ ?_
   ·rw[dc,hb];simp
   ·rw[dc,hb];simp[hw]
  ·refine al rfl ?_
   repeat apply κ
   refine W.fC (A:=[14]) Κ [(0,.Ψ 0 1 0 0),(3,aX 1 ((L++[(i:Int)]).map R)),(4,R i)] (b4 (D.after 1)::aL 3 1 ((L++[(i:Int)]).map R)) ?_ (by
    rw[List.map_append,List.map_cons,List.map_nil,sH,fi (l:=L.map R++[R i]) (by simp)];by_cases Η:L=[]
    ·subst Η;(try simp);(repeat (rw[δ];simp[h6,show aX 1 []=.sl true 0 [] from rfl]));(try simp[h6,show aX 1 []=.sl true 0 [] from rfl])
    ·have gp:L.map R≠[]:=by simpa using Η
     (try simp);(repeat (rw[δ];simp[fi gp,c8 gp]));(try simp[fi gp,c8 gp]);omega)
   (repeat (first|apply κ|(refine ξ λη I=>?_;simp;(repeat (rw[δ];simp[hw]));apply I)));refine W.to (Δ (i+1) ζ (by omega)) ?_ ?_
   ·rw[dc,hb];simp
   ·rw[dc,hb];simp[hw]
 ·have ζ:i=n:=by simp at ζ;omega
  subst ζ;refine W.exit rfl ?_;(repeat (first|apply κ|(refine ξ λη I=>?_;simp;(repeat (rw[δ];simp));apply I)));refine W.cδ (x:=2) (by simp) (λe he a ν=>?_) [] (by simp) (by simp) ?_
  ·obtain⟨x,_,rfl⟩:=List.mem_map.1 he;simp[θ.cells] at ν;subst ν;exact .z _
  ·exact W.ret ⟨_,rfl,.acc,rfl⟩
end Go.TL
namespace Go.TL
open Go.Conc Go.Proofs
theorem JZ:@Seq oe calm:=@Seq.mk oe calm rfl (λ_ h=>h.rel) (λ_ h=>h.aF)
theorem cθ (w:World):Calm (aU.start w):=⟨rfl,rfl,rfl,λ_=>trivial⟩
def qn (w:World):aC:=λb o=>((ψ.lr w).aG b o).map (·.1)
theorem cι (w:World):Holds (qn w) [] [] (ψ.lr w):=
 ⟨λb o v h=>by
  unfold qn at h;cases ζ:(ψ.lr w).aG b o with
  | none=>rw[ζ] at h;cases h
  | some x=>rw[ζ] at h;cases h;exact⟨x.2,rfl⟩,rfl,λid r bo h=>by simp at h,λi j ej b' b gM gN _ h=>by simp at h,λid r b N h=>by simp at h⟩
theorem cκ {P:Program} {f:FuncId} {fn:Func} {body:Code} {d:Nat} (bY:P.funcs[f]?=some fn) (nf:fn.body=some body) (eY:fn.results=#[.tmp d]) (bb:P.inits.idxOf? f=none) {w:World} {l:List θ} {args:Array Value} (μ:fg (qn w) [] [] l args) (Ι:l.length<=fn.ntmps)
  (hW:@W oe P 0 fn.ntmps [.code body] (entry 0 l) [] (λj env _=>(∃k,j=.code .ret::k)/\a5 env d=bA true) (λ_ _ _=>False)):Comes P (λv=>v=.bool true) w (solo (Go.Conc.G (Frame.enter P f args .normal) []) w) #[]:=by
 letI:bn:=oe;refine Goes.comes ?_;show cq P _ true (aU.start w) (Frame.enter P f args .normal) [] (ψ.lr w);rw[n4 bY nf];refine hW (λv=>v=.bool true) true calm [] (Frame.enter P f args .normal) (qn w) [] (ψ.lr w) _ JZ rfl (ff.enter (cι w) μ (Nat.le_refl _) Ι) (λj env' σ' ay B' H' t' ab Η ν ω Α=>?_) (λa env' σ' ay B' H' t' ab v he=>he.elim) (aU.start w) (cθ w);obtain⟨⟨k,ε⟩,hd⟩:=Η;have e:ab=j:=Α;subst e;subst ε;refine aE.ret JZ rfl rfl (aE.done (v:=.bool true) JZ (λy h=>h.shut) (λy h=>h.deaf) rfl rfl rfl bY bb ?_ rfl);have hv:t'.getD d undef=.bool true:=by
  have:=ω.b6 d;rw[hd] at this;generalize t'.getD d undef=u at this;cases this;rfl
 show results fn t'=_;unfold results;rw[eY];rw[Array.getD_eq_getD_getElem?] at hv;simp[hv]
end Go.TL
namespace Go.TL
open Go.Conc Go.ConcM Go.Proofs
open Go.ChangeShapes Go.WideShapes Go.ChangeAt Go.RowKit
theorem cμ:ownKnob Tryz.prog.godebug=none:=by kernel_rfl
theorem ft.below {W w:World} (h:ft (λ_ _=>False) (λ_=>False) W w):Below W.heap.size W {w with os:=W.os}:=by
 refine⟨rfl,h.tape,h.output,h.size,λk χ=>?_⟩;show w.heap[k]?=W.heap[k]?;have e:=e9 χ;cases ζ:Obj.rS W.heap[k] with
 | false=>rw[e];exact h.mV k _ e ζ id
 | true=>
  cases U:W.heap[k] with
  | cells c t dR=>
   rw[U] at e;obtain⟨c',J,γ,π⟩:=h.cells k c t dR e;have:c'=c:=by
    apply Array.ext' ;apply List.ext_getElem?;intro o;have:=π o id;simpa using this
   rw[e,J,this]
  | _=>rw[U] at ζ;simp[Obj.rS] at ζ
theorem cν:laidOutB Tryz.prog=true:=by kernel_rfl
theorem cξ:Tryz.prog.cellsOf 3=1:=by kernel_rfl
theorem cο {W:World} {b o:Nat} {v:Value} (h:W.cell? ⟨b,o,none⟩=some v):qn W b o=some v:=by
 unfold World.cell? at h;unfold qn ψ.lr;simp only at h ⊢;split at h
 ·rename_i c t dR ζ;rw[ζ];simp at h ⊢;exact h
 ·cases h
theorem cπ {W:World} {a:Addr} {len cap:Nat} {fR:List Int} (Α:len<=cap) (Η:len<=fR.length) (ζ:∀i,i<fR.length->W.cell? (a.add i)=some (.int .i64 (fR.getD i 0))) :
  ar (qn W) [] [] (bf R 1 (fR.take len)) (.slice (some a) len cap):=by
 by_cases ah:len=0
 ·subst ah;exact .iI _ _ (by simp)
 ·have ο:a.spot=none:=by
   have:=ζ 0 (by omega);unfold World.cell? Addr.add at this;rw[if_pos rfl] at this;cases bX:a.spot with
   | none=>rfl
   | some x=>
    rw[bX] at this;simp at this;split at this<;>simp at this
  obtain⟨b,o,sp⟩:=a;simp only at ο;subst ο;have hlen:(fR.take len).length=len:=by rw[List.length_take];omega
  have one:∀(i:Nat) (e:θ),((fR.take len).map R)[i]?=some e->i<len/\e=R (fR.getD i 0):=λi e hi=>by
   have iK:i<len:=by have:=(b7.1 hi).1;rw[List.length_map,hlen] at this;exact this
   rw[List.getElem?_map,List.getElem?_take_of_lt iK,a2 (by omega)] at hi;refine⟨iK,?_⟩;rw[List.getD_eq_getElem?_getD,a2 (by omega)];simpa using hi.symm
  have:=ar.sl (S:=qn W) (B:=[]) (σ:=[]) (ex:=false) (k:=1) (l:=(fR.take len).map R) b o cap (λi _=>.int .i64 (fR.getD i 0)) (by simp) (by rw[List.length_map,hlen];exact Α)
   (λi e hi=>by rw[(one i e hi).2];rfl) (λi e hi j c ε=>by
    obtain⟨J,rfl⟩:=one i e hi
    match j with
    | 0=>
     refine cο ?_;have:=ζ i (by omega);unfold Addr.add at this;rw[Nat.mul_one,Nat.add_zero];split at this
     ·rename_i cI;subst cI;exact this
     ·exact this
    | j+1=>simp[θ.cells] at ε) (λi e hi j c ε=>by
    obtain⟨J,rfl⟩:=one i e hi
    match j with
    | 0=>simp[θ.cells] at ε;subst ε;exact .z _
    | j+1=>simp[θ.cells] at ε)
  rw[List.length_map,hlen] at this;exact this
end Go.TL
namespace Go.TL
open Go.Proofs
variable [bn]
theorem Fg (d:cG) {a b:Int} (h:a<=b) (ν:-1000<a) (hb:b<1000):a<=pa d a b/\pa d a b<=b:=by
 unfold pa;rw[IntWalk.i64_in (b-a) (by omega)];obtain⟨t0,t1⟩:=s9 d (b-a) (by omega) (by omega);generalize hS d (b-a)=x at t0 t1;rw[IntWalk.i64_in (a+x) (by omega)];omega
theorem cρ (l:List Int) (k:Nat) (x:Int):(pd l k x).Perm (x::l):=by
 unfold pd;have h:(l.take k++x::l.drop k).Perm (x::(l.take k++l.drop k)):=List.perm_middle
 rwa [List.take_append_drop] at h
theorem Qi (d:cG) (n:Nat):(hj d n).1.Perm ((List.range n).map λ(i:Nat)=>(i:Int)):=by
 induction n with
 | zero=>exact .refl _
 | succ n Δ=>
  show(pd _ _ _).Perm _;refine(cρ _ _ _).trans ?_;rw[List.range_succ,List.map_append];refine(List.Perm.cons _ Δ).trans ?_;exact(List.perm_append_singleton _ _).symm
theorem Qj {d:cG} {n:Nat} {x:Int} (h:x∈(hj d n).1):0<=x/\x<n:=by
 have:=(Qi d n).mem_iff.1 h;obtain⟨i,hi,rfl⟩:=List.mem_map.1 this;have:=List.mem_range.1 hi;omega
theorem Qk (d:cG) (n:Nat):(hj d n).1.Nodup:=by
 refine(Qi d n).nodup_iff.2 ?_;unfold List.Nodup;rw[List.pairwise_map];exact List.nodup_range.imp λh e=>h (by omega)
structure pe (l:List lH):Prop where
 lo:1<=l.length
 hi:l.length<=6
 each:∀g∈l,x9 g.name=false/\1<=g.eF/\g.eF<=63
 Ql:l.Pairwise λa b=>sf b.name a.name=false
 apart:l.Pairwise λa b=>a.eF≠b.eF
theorem Bt {l:List Int} (h:∀x∈l,x=0):iO l=0:=by
 induction l with
 | nil=>rfl
 | cons x l Δ=>
  have:=h x (by simp);subst this;simp[iO];exact Δ λy Ο=>h y (by simp[Ο])
theorem pe.err {l:List lH} (h:pe l):n3 l=0:=by
 unfold n3;have J:=h.lo;have γ:=h.hi;rw[if_neg (by omega),if_neg (by omega)];refine Bt λx U=>?_;obtain⟨i,hi,rfl⟩:=List.mem_map.1 U;have hi:=List.mem_range.1 hi;unfold pW;rw[a2 hi];obtain⟨Ε,Ζ,a6⟩:=h.each _ (List.getElem_mem hi);simp only;rw[if_neg (by rw[Ε];simp),if_neg,if_neg (by omega),if_neg]
 ·intro ν;obtain⟨y,Ο,he⟩:=List.any_eq_true.1 ν;obtain⟨j,ε,rfl⟩:=List.mem_take_iff_getElem.1 Ο;have:=List.pairwise_iff_getElem.1 h.apart j i (by omega) hi (by omega);simp at he;exact this he
 ·rintro⟨kh,ο⟩;rw[a2 (by omega)] at ο;have:=List.pairwise_iff_getElem.1 h.Ql (i-1) i (by omega) hi (by omega);simp only[Option.map_some,Option.getD_some] at ο;rw[ο] at this;cases this
def m3 (i:Nat):ByteArray:=⟨#[[97,98,99,100,111,122].getD i 0]⟩
def jo:List Int:=[4,9,6,12,48,8,3,16,5,10,20]
def kv (ord:List Int) (last:Int) (i:Nat):lH:=⟨m3 i,(jo++[last]).getD ((ord.getD i 0).toNat) 0⟩
structure Made (ord:List Int):Prop where
 len:ord.length=11
 mem:∀x∈ord,0<=x/\x<11
 nodup:ord.Nodup
theorem cς (d:cG):Made (hj d 11).1:=⟨JW d 11,λ_ h=>Qj h,Qk d 11⟩
theorem Made.get {ord:List Int} (h:Made ord) {i:Nat} (hi:i<11):∃k:Nat,k<11/\ord[i]?=some (k:Int)/\∀last,(jo++[last])[k]?=some (jo.getD k 0)/\1<=jo.getD k 0/\jo.getD k 0<=63:=by
 have Α:=h.len
 have hm:=h.mem _ (List.getElem_mem (l:=ord) (n:=i) (by omega));refine⟨(ord[i]).toNat,by omega,by rw[a2 (by omega)];congr 1;omega,λlast=>?_⟩;have χ:(ord[i]).toNat<11:=by omega
 generalize (ord[i]).toNat=k at χ;rw[ea (by simpa[jo] using χ)];have:∀k<11,jo[k]?=some (jo.getD k 0)/\1<=jo.getD k 0/\jo.getD k 0<=63:=by decide
 exact this k χ
theorem cτ:∀a<11,∀b<11,jo.getD a 0=jo.getD b 0->a=b:=by decide
theorem cυ:∀i<6,x9 (m3 i)=false:=by decide +kernel
theorem cφ:∀j<6,∀i<j,sf (m3 j) (m3 i)=false:=by decide +kernel
theorem Fh {ord:List Int} (h:Made ord) (last:Int) {i:Nat} (hi:i<11):∃k:Nat,k<11/\ord[i]?=some (k:Int)/\(kv ord last i).eF=jo.getD k 0/\1<=jo.getD k 0/\jo.getD k 0<=63:=by
 obtain⟨k,χ,Γ,ο⟩:=h.get hi;obtain⟨J,γ,π⟩:=ο last;refine⟨k,χ,Γ,?_,γ,π⟩;unfold kv;rw[show ord.getD i 0=(k:Int) from by rw[List.getD_eq_getElem?_getD,Γ];rfl,Int.toNat_natCast];show(jo++[last]).getD k 0=_;rw[List.getD_eq_getElem?_getD,J];rfl
theorem cχ {ord:List Int} (h:Made ord) (last:Int) {i j:Nat} (hi:i<11) (ε:j<11) (e:(kv ord last i).eF=(kv ord last j).eF):i=j:=by
 obtain⟨a,ν,kR,cψ,_⟩:=Fh h last hi;obtain⟨b,hb,iH,Em,_⟩:=Fh h last ε;rw[cψ,Em] at e;have:=cτ a ν b hb e;subst this;have Α:=h.len;exact(List.getElem?_inj (by omega) h.nodup).1 (kR.trans iH.symm)
theorem cω {ord:List Int} (h:Made ord) (last:Int) {aI:List Nat} (dn:aI.Pairwise (· < ·)) (bc:∀j∈aI,j<6) (J:1<=aI.length) (Ι:aI.length<=6):pe (aI.map (kv ord last)):=by
 refine⟨by simpa using J,by simpa using Ι,λg Υ=>?_,?_,?_⟩
 ·obtain⟨j,ε,rfl⟩:=List.mem_map.1 Υ;have:=bc j ε;obtain⟨k,_,_,e,Ε,Ζ⟩:=Fh h last (i:=j) (by omega);exact⟨cυ j this,by omega,by omega⟩
 ·rw[List.pairwise_map];refine(List.pairwise_iff_forall_sublist.2 λ{a b} ο=>?_);have gS:=(List.pairwise_iff_forall_sublist.1 dn) ο;exact cφ b (bc b (ο.subset (by simp))) a gS
 ·rw[List.pairwise_map];refine(List.pairwise_iff_forall_sublist.2 λ{a b} ο=>λe=>?_);have gS:=(List.pairwise_iff_forall_sublist.1 dn) ο;have ν:=bc a (ο.subset (by simp));have hb:=bc b (ο.subset (by simp));have:=cχ h last (by omega) (by omega) e;omega
theorem pe.set {l:List lH} (h:pe l) {k:Nat} (χ:k<l.length) {x:Int} (J:1<=x) (γ:x<=63) (Τ:∀g∈l,g.eF≠x):pe (l.set k ⟨l[k].name,x⟩):=by
 have get:∀(i:Nat) (hi:i<(l.set k ⟨l[k].name,x⟩).length),(l.set k ⟨l[k].name,x⟩)[i].name=(l[i]'(by simpa using hi)).name/\((l.set k ⟨l[k].name,x⟩)[i].eF=x/\i=k\/(l.set k ⟨l[k].name,x⟩)[i].eF=(l[i]'(by simpa using hi)).eF/\i≠k):=by
  intro i hi;rw[List.getElem_set];split
  ·rename_i e;subst e;exact⟨rfl,.inl ⟨rfl,rfl⟩⟩
  ·rename_i e;exact⟨rfl,.inr ⟨rfl,λh=>e h.symm⟩⟩
 refine⟨by simpa using h.lo,by simpa using h.hi,λg Υ=>?_,?_,?_⟩
 ·obtain⟨i,hi,rfl⟩:=List.getElem_of_mem Υ;obtain⟨Ε,Ζ⟩:=get i hi;obtain⟨a,b,c⟩:=h.each _ (List.getElem_mem (l:=l) (n:=i) (by simpa using hi));rw[Ε];rcases Ζ with⟨Ζ,_⟩|⟨Ζ,_⟩<;>rw[Ζ]
  ·exact⟨a,J,γ⟩
  ·exact⟨a,b,c⟩
 ·rw[List.pairwise_iff_getElem];intro i j hi ε fE;rw[(get i hi).1,(get j ε).1];exact List.pairwise_iff_getElem.1 h.Ql i j (by simpa using hi) (by simpa using ε) fE
 ·rw[List.pairwise_iff_getElem];intro i j hi ε fE;have a9:i<l.length:=by simpa using hi
  have bp:j<l.length:=by simpa using ε
  rcases(get i hi).2 with⟨Ε,Ζ⟩|⟨Ε,Ζ⟩<;>rcases(get j ε).2 with⟨a6,cD⟩|⟨a6,cD⟩<;>rw[Ε,a6]
  ·omega
  ·exact λe=>Τ _ (List.getElem_mem bp) e.symm
  ·exact λe=>Τ _ (List.getElem_mem a9) e
  ·exact List.pairwise_iff_getElem.1 h.apart i j a9 bp fE
end Go.TL
