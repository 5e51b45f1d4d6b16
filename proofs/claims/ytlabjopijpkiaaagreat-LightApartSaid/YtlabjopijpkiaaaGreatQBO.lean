import Derived.Test.YtlabjopijpkiaaaGreatQAS
import Derived.Test.YtlabjopijpkiaaaGreatQBN
set_option maxHeartbeats 16000000
set_option maxRecDepth 20000
set_option linter.unusedSectionVars false
set_option linter.unusedSimpArgs false
set_option linter.unusedVariables false
namespace Go.TL
open Go.Proofs
variable [bd]
def oI (d:cy) (a b:Int):Int:=IntKind.i64.wrap (a+hq d (IntKind.i64.wrap (b-a)))
theorem ZJ (d:cy) (hd:d.bf.length<2 ^ 63) (a b:Int):ak Tryz.prog 38 [.ag 0 1 0 0,U a,U b] [b1 d] (fun r s=>r=U (oI d a b)∧s=[b1 (d.after (IntKind.i64.wrap (b-a)))]) (fun _ _=>False):=by
 refine ak.body Θ Tryz.func38 rfl rfl Tryz.ntmps38 rfl rfl (by simp) ?_;(repeat (first|apply ι|(refine ν fun J I=>?_;simp;(repeat (rw[ζ];simp));apply I;clear I J)));(repeat (first|apply ι));refine ν fun J I=>?_;simp;(repeat (rw[ζ];simp));refine ak.one (as0:=[.ag 0 1 0 0,U (IntKind.i64.wrap (b-a))]) (Io d hd _) 0 rfl (oH d) (oH _) (by simp[fJ,oh]) ((az.z _).ih 1) rfl ?_;simp[nq];(repeat (rw[ζ];simp));apply I;clear I J;exact W.ret ⟨_,rfl,rfl,rfl⟩
end Go.TL
namespace Go.TL
open Go.Proofs
theorem ZK (x:Int):0≤IntKind.u64.wrap x∧IntKind.u64.wrap x<18446744073709551616:=by
 unfold IntKind.wrap;simp[IntKind.bits,IntKind.signed];omega
theorem u64_in (x:Int) (h:0≤x) (γ:x<18446744073709551616):IntKind.u64.wrap x=x:=by
 unfold IntKind.wrap;simp[IntKind.bits,IntKind.signed];omega
theorem Ou:(2:Int) ^ min 32 IntKind.u64.bits=4294967296:=by decide
theorem ZL (d:cy):0≤qP d∧qP d<4294967296:=by
 unfold qP;rw[Ou];generalize δ:IntKind.u64.wrap _=x;have:=ZK (yy .u64 (r9 d) ((r9 d).fdiv (2 ^ min 33 IntKind.u64.bits))*18397679294719823053);rw[δ] at this;rw[Int.fdiv_eq_ediv_of_nonneg _ (by decide)];omega
theorem sa (d:cy) (n:Int) (ae:0≤n) (Η:n<2147483647):0≤hq d n∧hq d n≤n:=by
 unfold hq;split
 ·omega
 ·obtain⟨r0,r1⟩:=ZL d;rw[Ou,IntWalk.i64_in (n+1) (by omega),u64_in (n+1) (by omega) (by omega)];have hm:qP d*(n+1)≤4294967295*(n+1):=Int.mul_le_mul_of_nonneg_right (by omega) (by omega);have χ:0≤qP d*(n+1):=Int.mul_nonneg r0 (by omega);generalize qP d*(n+1)=y at hm χ;rw[u64_in y χ (by omega),Int.fdiv_eq_ediv_of_nonneg _ (by decide),IntWalk.i64_in _ (by omega)];omega
end Go.TL
namespace Go.TL
open Go.Proofs
variable [bd]
def xq (d:cy) (l:List Int):Nat:=(hq d ((l.length:Int)-1)).toNat
theorem ZM (d:cy) (hd:d.bf.length<2 ^ 63) (l:List Int) (ae:0<l.length) (ω:l.length<1000000):ak Tryz.prog 61 [.ag 0 1 0 0,a3 U 1 l] [b1 d] (fun r s=>r=U (l.getD (xq d l) 0)∧s=[b1 (d.after ((l.length:Int)-1))]) (fun _ _=>False):=by
 refine ak.body Θ Tryz.func61 rfl rfl Tryz.ntmps61 rfl rfl (by simp) ?_;have hw:IntKind.i64.wrap ((l.length:Int)-1)=(l.length:Int)-1:=IntWalk.i64_in _ (by omega);obtain⟨t0,t1⟩:=sa d ((l.length:Int)-1) (by omega) (by omega);obtain⟨k,υ⟩:∃k:Nat,hq d ((l.length:Int)-1)=k:=⟨(hq d ((l.length:Int)-1)).toNat,by omega⟩;have iz:k<l.length:=by omega
 have dA:xq d l=k:=by unfold xq;rw[υ];rfl
 (repeat (first|apply ι|(refine ν fun J I=>?_;simp;(repeat (rw[ζ];simp));apply I;clear I J)));(repeat (first|apply ι));refine ν fun J I=>?_;simp;(repeat (rw[ζ];simp[hw]));refine ak.one (as0:=[.ag 0 1 0 0,U ((l.length:Int)-1)]) (Io d hd _) 0 rfl (oH d) (oH _) (by simp[fJ,oh]) ((az.z _).ih 1) rfl ?_;rw[υ];simp[nq,iz];(repeat (rw[ζ];simp[iz]));apply I;clear I J;exact W.ret ⟨_,rfl,by rw[dA];simp[List.getD_eq_getElem?_getD,iz],rfl⟩
end Go.TL
namespace Go.TL
open Go.Conc
variable [bd]
section
variable {P:Program} {T:a7} {A:List Nat} {m nt:Nat} {k:List Item} {env:Χ} {σ:List Row} {Z:List Item→Χ→List Row→Prop} {E:θ→Χ→List Row→Prop} {ops:Array Oper}
def Ov (P:Program) (m nt:Nat) (k:List Item) (Z:List Item→Χ→List Row→Prop) (E:θ→Χ→List Row→Prop) (ops:Array Oper) (i:Nat) (o:Oper) (env:Χ) (r:Row) (a:θ) (r2:Row):Prop:=
 ∀env' τ rest,oe ops o env env'→W P m nt (.inRegion ops rest::k) (b5 o env' a) (r2::τ) Z E→W P m nt (.inRegion ops (i::rest)::k) env' (r::τ) Z E
def StepB (P:Program) (m nt:Nat) (k:List Item) (Z:List Item→Χ→List Row→Prop) (E:θ→Χ→List Row→Prop) (ops:Array Oper) (i:Nat) (o:Oper) (env:Χ) (τ:List Row) (a:θ) (ZN:List Row):Prop:=
 ∀env' r rest,oe ops o env env'→W P m nt (.inRegion ops rest::k) (b5 o env' a) (r::ZN) Z E→W P m nt (.inRegion ops (i::rest)::k) env' (r::τ) Z E
theorem Ow {α:Type} {f:Nat→α} {tags:List Bool} (Cq:∀i o,ops[i]?=some o→writer ops tags i=false→f (i+1)=f i):∀a b,a≤ops.size→b≤ops.size→(∀j,j<ops.size→writer ops tags j=true→(j<a↔j<b))→f a=f b:=by
 have y0:∀(d a:Nat),a+d≤ops.size→(∀j,a≤j→j<a+d→writer ops tags j=false)→f (a+d)=f a:=by
  intro d
  induction d with
  | zero=>intro a _ _;rfl
  | succ d Γ=>
   intro a hle h;have R:ops[a+d]?=some ops[a+d]:=eY (by omega);have:=Cq (a+d) _ R (h (a+d) (by omega) (by omega));rw[show a+(d+1)=a+d+1 by omega,this];exact Γ a (by omega) fun j R γ=>h j R (by omega)
 intro a b μ hb h;rcases Nat.le_total a b with hle|hle
 ·have:=y0 (b-a) a (by omega) fun j R γ=>by
   cases Μ:writer ops tags j with
   | false=>rfl
   | true=>have:=(h j (by omega) Μ).2 (by omega);omega
  rw[show a+(b-a)=b by omega] at this;exact this.symm
 ·have:=y0 (a-b) b (by omega) fun j R γ=>by
   cases Μ:writer ops tags j with
   | false=>rfl
   | true=>have:=(h j (by omega) Μ).1 (by omega);omega
  rw[show b+(a-b)=a by omega] at this;exact this
theorem Ox {tags:List Bool} (dA:km ops tags=true):∀i o,ops[i]?=some o→(∀j∈gP o,j<i)∧∀j bP,j<i→ops[j]?=some bP→clash ops tags i j o bP=true→j∈(Cm ops).getD i []:=by
 intro i o Β;have hi:i<ops.size:=(Array.getElem?_eq_some_iff.1 Β).1;unfold km at dA;simp only[List.all_eq_true,List.mem_range] at dA;have h:=dA i hi;rw[Β] at h;simp only[Bool.and_eq_true,List.all_eq_true,decide_eq_true_eq,List.mem_range] at h;refine⟨h.1,fun j bP ε di η=>?_⟩;have γ:=h.2 j ε;rw[di] at γ;simp only[η,Bool.not_true,Bool.false_or,List.contains_iff_mem] at γ;exact γ
theorem Oy {tags:List Bool}:∀j,writer ops tags j=true→tags.getD j false=true:=fun j h=>by
 unfold writer at h;rw[Bool.and_eq_true] at h;exact h.1
theorem Oz {tags:List Bool} {i:Nat} {mD:Oper} (mF:tags.getD i false=true):∀j bP,ops[j]?=some bP→writer ops tags j=true→clash ops tags i j mD bP=true∧clash ops tags j i bP mD=true:=fun j bP di Μ=>by
 have R:=Oy j Μ;unfold writer at Μ;rw[R,di] at Μ;have γ:lN bP=false:=by simpa using Μ
 unfold clash;rw[R,mF,γ];simp
theorem W.ZO {as9:Nat→θ} {ρs:Nat→Row} {τs:Nat→List Row} {td tb:List Bool} {env0:Χ} (ZP:km ops td=true) (ZQ:km ops tb=true)
  (dR:∀i o,ops[i]?=some o→td.getD i false=false→tb.getD i false=false→wA P m nt k Z E ops i o (cW ops env0 as9 (fun _=>true) i) (as9 i))
  (dJ:∀i o,ops[i]?=some o→td.getD i false=true→Ov P m nt k Z E ops i o (cW ops env0 as9 (fun _=>true) i) (ρs i) (as9 i) (ρs (i+1))∧tb.getD i false=false)
  (fS:∀i o,ops[i]?=some o→tb.getD i false=true→StepB P m nt k Z E ops i o (cW ops env0 as9 (fun _=>true) i) (τs i) (as9 i) (τs (i+1)))
  (ZR:∀i o,ops[i]?=some o→writer ops td i=false→ρs (i+1)=ρs i) (ZS:∀i o,ops[i]?=some o→writer ops tb i=false→τs (i+1)=τs i)
  (Gi:W P m nt (.inRegion ops []::k) (cW ops env0 as9 (fun _=>true) ops.size) (ρs ops.size::τs ops.size) Z E) :
  ∀(fuel:Nat) (t:Nat) (listed:Array Bool) (env:Χ) (cD gM:Nat),listed.size=ops.size→
   (∀i,a5 env i=a5 (cW ops env0 as9 (fun i=>listed.getD i false) ops.size) i)→
   (∀i o,ops[i]?=some o→listed.getD i false=true→∀j∈gP o,listed.getD j false=true)→
   cD≤ops.size→gM≤ops.size→(∀j,j<ops.size→writer ops td j=true→(listed.getD j false=true↔j<cD))→(∀j,j<ops.size→writer ops tb j=true→(listed.getD j false=true↔j<gM))→
   ((List.range ops.size).filter fun i=>!listed.getD i false).length≤fuel→
   W P m nt (.inRegion ops (Region.linearise.go .any ops fuel t listed [])::k) env (ρs cD::τs gM) Z E:=by
 have uM:=Ox ZP
 have OA:=Ox ZQ
 have rD:∀i o,ops[i]?=some o→∀j∈gP o,j<i:=fun i o Β=>(uM i o Β).1
 have OB:=Ow ZR
 have OC:=Ow ZS;intro fuel;have done:∀(t:Nat) (listed:Array Bool) (env:Χ) (cD gM:Nat),(∀i,i<ops.size→listed.getD i false=true)→(∀i,a5 env i=a5 (cW ops env0 as9 (fun i=>listed.getD i false) ops.size) i)→cD≤ops.size→gM≤ops.size→
   (∀j,j<ops.size→writer ops td j=true→(listed.getD j false=true↔j<cD))→(∀j,j<ops.size→writer ops tb j=true→(listed.getD j false=true↔j<gM))→W P m nt (.inRegion ops []::k) env (ρs cD::τs gM) Z E:=fun t listed env cD gM hs cC ib m4 hS tu=>by
  have Ε:ρs cD=ρs ops.size:=OB cD ops.size ib (Nat.le_refl _) fun j ε Μ=>by rw[←hS j ε Μ];simp[hs j ε,ε]
  have Δ:τs gM=τs ops.size:=OC gM ops.size m4 (Nat.le_refl _) fun j ε Μ=>by rw[←tu j ε Μ];simp[hs j ε,ε]
  rw[Ε,Δ];refine .congr (fun i=>?_) Gi;rw[cC i];exact wB ops.size fun i o hi _ _=>hs i hi
 have Gj:∀listed:Array Bool,listed.size=ops.size→(∃i,i<ops.size∧listed.getD i false=false)→∃i,i<ops.size∧listed.getD i false=false∧∀j,j<i→listed.getD j false=true:=fun listed cd ⟨i,hi,ω⟩=>by
  induction i using Nat.strongRecOn with
  | _ i Γ=>
   by_cases ε:∃j,j<i∧listed.getD j false=false
   ·obtain⟨j,R,γ⟩:=ε;exact Γ j R (by omega) γ
   ·exact⟨i,hi,ω,fun j bh=>by
     cases h:listed.getD j false with
     | true=>rfl
     | false=>exact absurd ⟨j,bh,h⟩ ε⟩
 induction fuel with
 | zero=>
  intro t listed env cD gM cd cC bY ib m4 hS tu Gk;have hs:∀i,i<ops.size→listed.getD i false=true:=fun i hi=>by
   cases h:listed.getD i false with
   | true=>rfl
   | false=>
    have jw:i∈(List.range ops.size).filter fun i=>!listed.getD i false:=by rw[List.mem_filter];exact⟨List.mem_range.2 hi,by rw[h];rfl⟩
    have:((List.range ops.size).filter fun i=>!listed.getD i false)=[]:=dq.1 (by omega);rw[this] at jw;simp at jw
  exact done t listed env cD gM hs cC ib m4 hS tu
 | succ fuel Γ=>
  intro t listed env cD gM cd cC bY ib m4 hS tu Gk;simp only[Region.linearise.go];generalize js:((List.range ops.size).filter fun i=>!listed.getD i true&&((ops[i]?).map (·.after.all fun e=>!Region.binds .any e||listed.getD e.on false)).getD false)=rs;have y1:∀i,i<ops.size→listed.getD i true=listed.getD i false:=fun i hi=>by
   rw[Array.getD_eq_getD_getElem?,Array.getD_eq_getD_getElem?,eY (by omega)];rfl
  have y2:∀i,i∈rs↔i<ops.size∧listed.getD i false=false∧∀o,ops[i]?=some o→∀j∈gP o,listed.getD j false=true:=fun i=>by
   rw[←js];simp only[List.mem_filter,List.mem_range,Bool.and_eq_true,Bool.not_eq_true'];constructor
   ·rintro⟨R,γ,ο⟩;rw[y1 i R] at γ;refine⟨R,γ,fun o Β j ε=>?_⟩;rw[Β] at ο;simp only[Option.map_some,Option.getD_some,Array.all_eq_true'] at ο;unfold gP at ε;simp only[List.mem_map,List.mem_filter] at ε;obtain⟨e,⟨Gl,mE⟩,rfl⟩:=ε;have:=ο e (by simpa using Gl);simpa[mE] using this
   ·rintro⟨R,γ,ο⟩;refine⟨R,by rw[y1 i R];exact γ,?_⟩;have Β:ops[i]?=some ops[i]:=eY R;rw[Β];simp only[Option.map_some,Option.getD_some,Array.all_eq_true'];intro e he;by_cases hb:Region.binds .any e=true
    ·have:=ο _ Β e.on (by unfold gP;simp only[List.mem_map,List.mem_filter];exact⟨e,⟨by simpa using he,hb⟩,rfl⟩);simp[this]
    ·simp[hb]
  cases hi:rs[t % rs.length]? with
  | none=>
   simp only[List.reverse_nil];have yf:rs=[]:=by
    cases κ:rs with
    | nil=>rfl
    | cons x xs=>
     rw[κ] at hi;have aE:t % (x::xs).length<(x::xs).length:=Nat.mod_lt _ (by simp);rw[bc aE] at hi;cases hi
   have hs:∀i,i<ops.size→listed.getD i false=true:=fun i a2=>by
    cases h:listed.getD i false with
    | true=>rfl
    | false=>
     obtain⟨r,R,γ,ο⟩:=Gj listed cd ⟨i,a2,h⟩;have:r∈rs:=(y2 r).2 ⟨R,γ,fun o Β j ε=>ο j (rD r o Β j ε)⟩;rw[yf] at this;simp at this
   exact done t listed env cD gM hs cC ib m4 hS tu
  | some i=>
   simp only;rw[Lz];have jw:i∈rs:=cl hi;obtain⟨R,γ,ο⟩:=(y2 i).1 jw;have Β:ops[i]?=some ops[i]:=eY R;have Gm:=Cn rD (fun j=>listed.getD j false=true) (fun j o ε ω=>bY j o ε ω) i _ Β (ο _ Β);have low:∀j bP,j<i→ops[j]?=some bP→(clash ops td i j ops[i] bP=true∨clash ops tb i j ops[i] bP=true)→listed.getD j false=true:=fun j bP ε di η=>Gm j (η.elim (fun η=>(uM i _ Β).2 j bP ε di η) (fun η=>(OA i _ Β).2 j bP ε di η));have high:∀j bP,i<j→ops[j]?=some bP→(clash ops td j i bP ops[i]=true∨clash ops tb j i bP ops[i]=true)→listed.getD j false=false:=fun j bP ε di η=>by
    cases ω:listed.getD j false with
    | false=>rfl
    | true=>
     have:=Cn rD (fun j=>listed.getD j false=true) (fun j o ε ω=>bY j o ε ω) j bP di (bY j bP di ω) i (η.elim (fun η=>(uM j bP di).2 i _ ε Β η) (fun η=>(OA j bP di).2 i _ ε Β η));rw[γ] at this;cases this
   have same:oe ops ops[i] (cW ops env0 as9 (fun _=>true) i) env:=fun x δ=>by
    rw[cC x];have c1:a5 (cW ops env0 as9 (fun i=>listed.getD i false) ops.size) x=a5 (cW ops env0 as9 (fun i=>listed.getD i false) i) x:=Cp (by omega) fun j bP wC Gn di hd=>by
     by_cases e:j=i
     ·subst e;exact γ
     ·refine high j bP (by omega) di ?_;unfold clash;simp[hd,δ]
    rw[c1];exact wB i fun j bP ε di hd=>low j bP ε di (.inl (by unfold clash;simp[hd,δ]))
   have mr:∀x,a5 (b5 ops[i] env (as9 i)) x=a5 (cW ops env0 as9 (fun j=>(listed.setIfInBounds i true).getD j false) ops.size) x:=fun x=>by
    have jy:∀j,(listed.setIfInBounds i true).getD j false=if j=i then true else listed.getD j false:=fun j=>by
     rw[Array.getD_eq_getD_getElem?,Array.getD_eq_getD_getElem?];by_cases e:j=i
     ·subst e;rw[Array.getElem?_setIfInBounds_self_of_lt (by omega)];simp
     ·rw[Array.getElem?_setIfInBounds_ne (Ne.symm e),if_neg e]
    rw[uK];by_cases hd:ops[i].dst=some x
    ·rw[if_pos hd];have c1:a5 (cW ops env0 as9 (fun j=>(listed.setIfInBounds i true).getD j false) ops.size) x=a5 (cW ops env0 as9 (fun j=>(listed.setIfInBounds i true).getD j false) (i+1)) x:=Cp (by omega) fun j bP wC Gn di sS=>by
      rw[jy,if_neg (by omega)];refine high j bP (by omega) di (.inl ?_);unfold clash;simp[hd,sS]
     rw[c1];simp only[cW,jy,if_true,Β,uK,hd]
    ·rw[if_neg hd,cC x];exact wB ops.size fun j bP ε di sS=>by
      rw[jy,if_neg];intro e;subst e;rw[Β] at di;cases di;exact hd sS
   have jy:∀j,(listed.setIfInBounds i true).getD j false=if j=i then true else listed.getD j false:=fun j=>by
    rw[Array.getD_eq_getD_getElem?,Array.getD_eq_getD_getElem?];by_cases e:j=i
    ·subst e;rw[Array.getElem?_setIfInBounds_self_of_lt (by omega)];simp
    ·rw[Array.getElem?_setIfInBounds_ne (Ne.symm e),if_neg e]
   have uN:((List.range ops.size).filter fun j=>!(listed.setIfInBounds i true).getD j false).length≤fuel:=by
    have aE:((List.range ops.size).filter fun j=>!(listed.setIfInBounds i true).getD j false).length<((List.range ops.size).filter fun j=>!listed.getD j false).length:=by
     have:((List.range ops.size).filter fun j=>!(listed.setIfInBounds i true).getD j false)=((List.range ops.size).filter fun j=>!listed.getD j false).filter fun j=>j != i:=by
      rw[List.filter_filter];apply List.filter_congr;intro j _;rw[jy];by_cases e:j=i
      ·subst e;simp
      ·simp[e]
     rw[this];have hm:i∈(List.range ops.size).filter fun j=>!listed.getD j false:=by
      rw[List.mem_filter];exact⟨List.mem_range.2 R,by rw[γ];rfl⟩
     exact List.length_filter_lt_length_iff_exists.2 ⟨i,hm,by simp⟩
    omega
   have qq:∀j o,ops[j]?=some o→(listed.setIfInBounds i true).getD j false=true→∀y∈gP o,(listed.setIfInBounds i true).getD y false=true:=fun j o ε ω y Ο=>by
    rw[jy] at ω ⊢;by_cases e:y=i
    ·rw[if_pos e]
    ·rw[if_neg e];by_cases Δ:j=i
     ·subst Δ;rw[Β] at ε;cases ε;exact ο _ Β y Ο
     ·rw[if_neg Δ] at ω;exact bY j o ε ω y Ο
   have keep:∀(tags:List Bool) (cD:Nat),tags.getD i false=false→(∀j,j<ops.size→writer ops tags j=true→(listed.getD j false=true↔j<cD))→∀j,j<ops.size→writer ops tags j=true→((listed.setIfInBounds i true).getD j false=true↔j<cD):=fun tags cD mF hS j ε Μ=>by
    rw[jy];have:j≠i:=fun e=>by subst e;rw[Oy j Μ] at mF;cases mF
    rw[if_neg this];exact hS j ε Μ
   have keepW:∀(tags:List Bool) (cD:Nat),writer ops tags i=false→(∀j,j<ops.size→writer ops tags j=true→(listed.getD j false=true↔j<cD))→∀j,j<ops.size→writer ops tags j=true→((listed.setIfInBounds i true).getD j false=true↔j<cD):=fun tags cD kn hS j ε Μ=>by
    rw[jy];have:j≠i:=fun e=>by subst e;rw[Μ] at kn;cases kn
    rw[if_neg this];exact hS j ε Μ
   have both:∀(tags:List Bool),tags.getD i false=true→(∀j bP,j<i→ops[j]?=some bP→clash ops tags i j ops[i] bP=true→listed.getD j false=true)→(∀j bP,i<j→ops[j]?=some bP→clash ops tags j i bP ops[i]=true→listed.getD j false=false)→
     (∀j,j<ops.size→writer ops tags j=true→j<i→listed.getD j false=true)∧(∀j,j<ops.size→writer ops tags j=true→i<j→listed.getD j false=false):=fun tags mF lo hi=>⟨fun j ε Μ uO=>lo j _ uO (eY ε) (Oz mF j _ (eY ε) Μ).1,fun j ε Μ uO=>hi j _ uO (eY ε) (Oz mF j _ (eY ε) Μ).2⟩
   have OD:∀(tags:List Bool) (cD:Nat),(∀j,j<ops.size→writer ops tags j=true→j<i→listed.getD j false=true)→(∀j,j<ops.size→writer ops tags j=true→i<j→listed.getD j false=false)→(∀j,j<ops.size→writer ops tags j=true→(listed.getD j false=true↔j<cD))→∀j,j<ops.size→writer ops tags j=true→(j<cD↔j<i):=fun tags cD lo hi hS j ε Μ=>by
    rw[←hS j ε Μ];constructor
    ·intro ω;apply Classical.byContradiction;intro Η;by_cases e:j=i
     ·subst e;rw[γ] at ω;cases ω
     ·rw[hi j ε Μ (by omega)] at ω;cases ω
    ·exact lo j ε Μ
   have next:∀(tags:List Bool),(∀j,j<ops.size→writer ops tags j=true→j<i→listed.getD j false=true)→(∀j,j<ops.size→writer ops tags j=true→i<j→listed.getD j false=false)→∀j,j<ops.size→writer ops tags j=true→((listed.setIfInBounds i true).getD j false=true↔j<i+1):=fun tags lo hi j ε Μ=>by
    rw[jy];by_cases e:j=i
    ·subst e;simp
    ·rw[if_neg e];constructor
     ·intro ω;apply Classical.byContradiction;intro Η;rw[hi j ε Μ (by omega)] at ω;cases ω
     ·intro aE;exact lo j ε Μ (by omega)
   cases z6:td.getD i false with
   | true=>
    obtain⟨cg,xr⟩:=dJ i _ Β z6;obtain⟨lo,a2⟩:=both td z6 (fun j bP a b c=>low j bP a b (.inl c)) (fun j bP a b c=>high j bP a b (.inl c));rw[OB cD i ib (by omega) (OD td cD lo a2 hS)];refine cg env _ _ same ?_;exact Γ _ _ _ (i+1) gM (by simpa using cd) mr qq (by omega) m4 (next td lo a2) (keep tb gM xr tu) uN
   | false=>
    cases xr:tb.getD i false with
    | false=>
     refine dR i _ Β z6 xr env _ _ same ?_;exact Γ _ _ _ cD gM (by simpa using cd) mr qq ib m4 (keep td cD z6 hS) (keep tb gM xr tu) uN
    | true=>
     obtain⟨lo,a2⟩:=both tb xr (fun j bP a b c=>low j bP a b (.inr c)) (fun j bP a b c=>high j bP a b (.inr c));rw[OC gM i m4 (by omega) (OD tb gM lo a2 tu)];refine fS i _ Β xr env _ _ same ?_;exact Γ _ _ _ cD (i+1) (by simpa using cd) mr qq ib (by omega) (keep td cD z6 hS) (next tb lo a2) uN
def xu (f:Row→cT) (K:θ→List Row→Prop):Prop:=∃a eA,((∀r,f r=.ok a (r::eA))∨∃p:Prop,p∧∀r,f r=.b2 p (.ok a (r::eA)))∧K a eA
theorem ZT {f g:Row→cT} {K:θ→List Row→Prop} (h:∀r,f r=g r):xu f K=xu g K:=by rw[funext h]
theorem ZU {a:θ} {τ:List Row} {K:θ→List Row→Prop}:xu (fun r=>.ok a (r::τ)) K=K a τ:=by
 refine propext ⟨fun⟨b,eA,h,υ⟩=>?_,fun h=>⟨a,τ,.inl fun _=>rfl,h⟩⟩;rcases h with h|⟨p,_,h⟩
 ·have:=h (.map []);injection this with R γ
  injection γ with _ γ
  rw[R,γ];exact υ
 ·have:=h (.map []);cases this
theorem ZV {p:Prop} {a:θ} {τ:List Row} {K:θ→List Row→Prop}:xu (fun r=>.b2 p (.ok a (r::τ))) K=(p∧K a τ):=by
 refine propext ⟨fun⟨b,eA,h,υ⟩=>?_,fun h=>⟨a,τ,.inr ⟨p,h.1,fun _=>rfl⟩,h.2⟩⟩;rcases h with h|⟨q,Υ,h⟩
 ·have:=h (.map []);cases this
 ·have:=h (.map []);injection this with ae R
  injection R with R γ
  injection γ with _ γ
  rw[R,γ];exact⟨ae▸Υ,υ⟩
def DV (P:Program) (f:θ) (args:List θ) (r:Row) (hD:θ→Prop) (oJ:θ→Row→Prop):Prop:=
 (∃a,fT P f args a∧hD a)∨∃a r',(∀τ,hR P f args (r::τ) (fun b s=>b=a∧s=r'::τ) (fun _ _=>False))∧oJ a r'
theorem ZW {P:Program} {f:θ} {args:List θ} {r r':Row} {hD:θ→Prop} {oJ:θ→Row→Prop} {a:θ} (h:∀τ,hR P f args (r::τ) (fun b s=>b=a∧s=r'::τ) (fun _ _=>False)) (k:oJ a r'):DV P f args r hD oJ:=.inr ⟨a,r',h,k⟩
def z7 (P:Program) (T:a7) (A:List Nat) (env:Χ) (o:Oper) (r:Row) (τ:List Row) (hD:θ→Prop) (oJ:θ→Row→Prop) (lO:θ→List Row→Prop):Prop:=match o.op with
 | .call ⟨.value f,args,_⟩=>DV P (aL env f) (args.toList.map (aL env)) r hD oJ
 | .panic _=>False
 | .defer _=>False
 | _=>(lL T A env o).fZ hD (xu (fun r=>jT T A env (r::τ) o) lO)
theorem ZX {P:Program} {T:a7} {A:List Nat} {env:Χ} {o:Oper} {r:Row} {τ:List Row} {hD:θ→Prop} {oJ:θ→Row→Prop} {lO:θ→List Row→Prop}:z7 P T A env o r τ hD oJ lO=match o.op with
 | .call ⟨.value f,args,_⟩=>DV P (aL env f) (args.toList.map (aL env)) r hD oJ
 | .panic _=>False
 | .defer _=>False
 | _=>(lL T A env o).fZ hD (xu (fun r=>jT T A env (r::τ) o) lO):=Eq.trans rfl rfl
def hZ (P:Program) (T:a7) (A:List Nat) (nt:Nat) (ops:Array Oper):List Nat→Χ→Row→List Row→List Bool→List Bool→(Χ→List Row→Prop)→Prop
 | [],env,r,τ,td,tb,K=>km ops td=true∧km ops tb=true∧K env (r::τ)
 | i::is,env,r,τ,td,tb,K=>gz ops[i]? fun o=>hB nt o=true∧gz (fp env ops o) fun w=>
   jd w (hZ P T A nt ops is (b5 o env .cp) r τ (td++[false]) (tb++[false]) K)
    (z7 P T A env o r τ (fun a=>hZ P T A nt ops is (b5 o env a) r τ (td++[false]) (tb++[false]) K) (fun a r'=>hZ P T A nt ops is (b5 o env a) r' τ (td++[true]) (tb++[false]) K) (fun a eA=>hZ P T A nt ops is (b5 o env a) r eA (td++[false]) (tb++[true]) K))
def OE (P:Program) (T:a7) (A:List Nat) (nt:Nat) (ops:Array Oper) (is:List Nat) (o:Oper) (env:Χ) (r:Row) (τ:List Row) (td tb:List Bool) (K:Χ→List Row→Prop) (a:θ):Prop:=hZ P T A nt ops is (b5 o env a) r τ (td++[false]) (tb++[false]) K
def OF (P:Program) (T:a7) (A:List Nat) (nt:Nat) (ops:Array Oper) (is:List Nat) (o:Oper) (env:Χ) (τ:List Row) (td tb:List Bool) (K:Χ→List Row→Prop) (a:θ) (r:Row):Prop:=hZ P T A nt ops is (b5 o env a) r τ (td++[true]) (tb++[false]) K
def OG (P:Program) (T:a7) (A:List Nat) (nt:Nat) (ops:Array Oper) (is:List Nat) (o:Oper) (env:Χ) (r:Row) (td tb:List Bool) (K:Χ→List Row→Prop) (a:θ) (τ:List Row):Prop:=hZ P T A nt ops is (b5 o env a) r τ (td++[false]) (tb++[true]) K
section
variable {is:List Nat} {i:Nat} {o:Oper} {r:Row} {τ:List Row} {td tb:List Bool} {K:Χ→List Row→Prop} {a:θ}
theorem jZ:hZ P T A nt ops [] env r τ td tb K=(km ops td=true∧km ops tb=true∧K env (r::τ)):=Eq.trans rfl rfl
theorem j0:hZ P T A nt ops (i::is) env r τ td tb K=gz ops[i]? fun o=>hB nt o=true∧gz (fp env ops o) fun w=>
   jd w (hZ P T A nt ops is (b5 o env .cp) r τ (td++[false]) (tb++[false]) K) (z7 P T A env o r τ (OE P T A nt ops is o env r τ td tb K) (OF P T A nt ops is o env τ td tb K) (OG P T A nt ops is o env r td tb K)):=Eq.trans rfl rfl
theorem ZY:OE P T A nt ops is o env r τ td tb K a=hZ P T A nt ops is (b5 o env a) r τ (td++[false]) (tb++[false]) K:=Eq.trans rfl rfl
theorem ZZ:OF P T A nt ops is o env τ td tb K a r=hZ P T A nt ops is (b5 o env a) r τ (td++[true]) (tb++[false]) K:=Eq.trans rfl rfl
theorem Z0:OG P T A nt ops is o env r td tb K a τ=hZ P T A nt ops is (b5 o env a) r τ (td++[false]) (tb++[true]) K:=Eq.trans rfl rfl
end
def Ip (P:Program) (m nt:Nat) (k:List Item) (Z:List Item→Χ→List Row→Prop) (E:θ→Χ→List Row→Prop) (ops:Array Oper) (i:Nat) (o:Oper) (env:Χ) (r:Row) (τ:List Row) (d b:Bool) (a:θ) (r':Row) (eA:List Row):Prop:=
 (d=true∧b=false∧Ov P m nt k Z E ops i o env r a r'∧eA=τ)∨(d=false∧b=true∧StepB P m nt k Z E ops i o env τ a eA∧r'=r∧(lN o=true→eA=τ))∨(d=false∧b=false∧wA P m nt k Z E ops i o env a∧r'=r∧eA=τ)
theorem Z1 (Ζ:bN P T) {i:Nat} {is:List Nat} {r:Row} {τ:List Row} {td tb:List Bool} {K:Χ→List Row→Prop} (h:hZ P T A nt ops (i::is) env r τ td tb K) :
  ∃o a r' eA d b,ops[i]?=some o∧Ip P m nt k Z E ops i o env r τ d b a r' eA∧(d=true→lN o=false)∧hZ P T A nt ops is (b5 o env a) r' eA (td++[d]) (tb++[b]) K:=by
 unfold hZ gz at h;split at h
 ·exact h.elim
 ·rename_i o Β;obtain⟨hd,h⟩:=h;split at h
  ·exact h.elim
  rename_i w hw;unfold jd at h;cases w
  ·replace h:=h.1 rfl
   exact⟨o,.cp,r,τ,false,false,Β,.inr (.inr ⟨rfl,rfl,fun env' σ' rest ξ hW=>.unwanted Β (by rw[qs ξ];exact hw) hd hW,rfl,rfl⟩),fun h=>(by cases h),h⟩
  ·replace h:=h.2 rfl
   unfold z7 at h;split at h
   ·rename_i f args dL Κ;have y4:∀env',oe ops o env env'→aL env' f=aL env f∧args.toList.map (aL env')=args.toList.map (aL env):=fun env' ξ=>by
     have δ:=Cs ξ;rw[Κ] at δ;refine⟨δ f (by simp[Op.operands,Call.operands]),Cu fun x uP=>δ x (by simp[Op.operands,Call.operands,uP])⟩
    rcases h with⟨a,η,h⟩|⟨a,r',η,h⟩
    ·refine⟨o,a,r,τ,false,false,Β,.inr (.inr ⟨rfl,rfl,fun env' σ' rest ξ hW=>.call Β (by rw[qs ξ];exact hw) hd Κ ?_,rfl,rfl⟩),fun h=>(by cases h),h⟩;obtain⟨Ε,Δ⟩:=y4 env' ξ;rw[Ε,Δ];exact(η σ').mono (fun a s ⟨x,y⟩=>by subst x;subst y;exact hW) (fun _ _ h=>h.elim)
    ·refine⟨o,a,r',τ,true,false,Β,.inl ⟨rfl,rfl,fun env' eA rest ξ hW=>.call Β (by rw[qs ξ];exact hw) hd Κ ?_,rfl⟩,fun _=>(by unfold lN;rw[Κ]),h⟩;obtain⟨Ε,Δ⟩:=y4 env' ξ;rw[Ε,Δ];exact(η eA).mono (fun a s ⟨x,y⟩=>by subst x;subst y;exact hW) (fun _ _ h=>h.elim)
   ·exact h.elim
   ·exact h.elim
   ·rename_i R γ ο;have y5:∀(z8:cr) (a:θ),lL T A env o=z8→(∀K:θ→List Row→Prop,∀s,K a s→(z8.dh s).holds K)→(∀σ s,z8.or σ s=z8.dh σ)→wA P m nt k Z E ops i o env a:=fun z8 a κ aS Gq env' σ' rest ξ hW=>by
     refine .op (A:=A) Ζ Β (by rw[qs ξ];exact hw) hd (fun c η=>ο c η) ?_;rw[Cw ξ,κ,Gq];exact aS _ _ hW
    unfold cr.fZ at h;split at h
    ·rename_i a μ;exact⟨o,a,r,τ,false,false,Β,.inr (.inr ⟨rfl,rfl,y5 _ a μ (fun K s υ=>υ) (fun _ _=>rfl),rfl,rfl⟩),fun h=>(by cases h),h⟩
    ·rename_i p a μ;exact⟨o,a,r,τ,false,false,Β,.inr (.inr ⟨rfl,rfl,y5 _ a μ (fun K s υ=>⟨h.1,υ⟩) (fun _ _=>rfl),rfl,rfl⟩),fun h=>(by cases h),h.2⟩
    ·exact h.elim
    ·rename_i wu;have Cz:∀(a:θ) (eA:List Row),(∀r,∃x:cT,jT T A env (r::τ) o=x∧∀K:θ→List Row→Prop,K a (r::eA)→x.holds K)→StepB P m nt k Z E ops i o env τ a eA:=fun a eA κ env' r rest ξ hW=>by
      obtain⟨x,κ,aS⟩:=κ r;refine .op (A:=A) Ζ Β (by rw[qs ξ];exact hw) hd (fun c η=>ο c η) ?_;rw[Cw ξ,LI ξ,wu,κ];exact aS _ hW
     obtain⟨a,eA,hu,υ⟩:=h;refine⟨o,a,r,eA,false,true,Β,.inr (.inl ⟨rfl,rfl,Cz a eA fun r=>?_,rfl,fun κ=>?_⟩),fun h=>(by cases h),υ⟩
     ·rcases hu with hu|⟨p,χ,hu⟩
      ·exact⟨_,hu r,fun K υ=>υ⟩
      ·exact⟨_,hu r,fun K υ=>⟨χ,υ⟩⟩
     ·have:r::eA=r::τ:=by
       rcases hu with hu|⟨p,χ,hu⟩
       ·exact Cy (p:=True) κ (.inl (hu r))
       ·exact Cy κ (.inr (hu r))
      injection this
theorem Z2 (Ζ:bN P T) {K:Χ→List Row→Prop} {env0:Χ}:∀(d i:Nat) (td tb:List Bool) (as9:Nat→θ) (ρs:Nat→Row) (τs:Nat→List Row),i+d=ops.size→td.length=i→tb.length=i→
  (∀j o,j<i→ops[j]?=some o→Ip P m nt k Z E ops j o (cW ops env0 as9 (fun _=>true) j) (ρs j) (τs j) (td.getD j false) (tb.getD j false) (as9 j) (ρs (j+1)) (τs (j+1))∧(td.getD j false=true→lN o=false))→
  hZ P T A nt ops (List.range' i d) (cW ops env0 as9 (fun _=>true) i) (ρs i) (τs i) td tb K→
  ∃(td tb:List Bool) (as9:Nat→θ) (qQ:Nat→Row) (qR:Nat→List Row),km ops td=true∧km ops tb=true∧qQ 0=ρs 0∧qR 0=τs 0∧(∀j o,ops[j]?=some o→Ip P m nt k Z E ops j o (cW ops env0 as9 (fun _=>true) j) (qQ j) (qR j) (td.getD j false) (tb.getD j false) (as9 j) (qQ (j+1)) (qR (j+1))∧(td.getD j false=true→lN o=false))∧K (cW ops env0 as9 (fun _=>true) ops.size) (qQ ops.size::qR ops.size):=by
 intro d
 induction d with
 | zero=>
  intro i td tb as9 ρs τs hi Μ vf ε h;simp only[List.range'_zero,hZ] at h;have:i=ops.size:=by omega
  subst this;exact⟨td,tb,as9,ρs,τs,h.1,h.2.1,rfl,rfl,fun j o Β=>ε j o (Array.getElem?_eq_some_iff.1 Β).1 Β,h.2.2⟩
 | succ d Γ=>
  intro i td tb as9 ρs τs hi Μ vf ε h;rw[List.range'_succ] at h;obtain⟨o,a,r',eA,Iq,nU,Β,Gr,b7,h⟩:=Z1 (m:=m) (k:=k) (Z:=Z) (E:=E) Ζ h;let jU:Nat→θ:=fun j=>if j=i then a else as9 j
  let qQ:Nat→Row:=fun j=>if j=i+1 then r' else ρs j
  let qR:Nat→List Row:=fun j=>if j=i+1 then eA else τs j
  have uQ:∀j,j≤i→cW ops env0 as9 (fun _=>true) j=cW ops env0 jU (fun _=>true) j:=fun j ε=>LL j fun x δ=>by simp only[jU];rw[if_neg (by omega)]
  have Gs:cW ops env0 jU (fun _=>true) (i+1)=b5 o (cW ops env0 as9 (fun _=>true) i) a:=by
   simp only[cW,if_true,Β];rw[←uQ i (Nat.le_refl i)];simp only[jU,if_true]
  have vX:∀(t:List Bool) (x:Bool),t.length=i→(t++[x]).getD i false=x:=fun t x h=>by rw[List.getD_eq_getElem?_getD,hr (by omega),h];simp
  have OH:∀(t:List Bool) (x:Bool) (j:Nat),t.length=i→j<i→(t++[x]).getD j false=t.getD j false:=fun t x j h ε=>by rw[List.getD_eq_getElem?_getD,dU (by omega),←List.getD_eq_getElem?_getD]
  have:=Γ (i+1) (td++[Iq]) (tb++[nU]) jU qQ qR (by omega) (by simp[Μ]) (by simp[vf]) (fun j bP aE di=>?_) ?_
  ·obtain⟨t1,t2,bg,r2,s2,Ξ,ad,aT,ck,gm,hQ⟩:=this;exact⟨t1,t2,bg,r2,s2,Ξ,ad,aT.trans (by simp only[qQ];rw[if_neg (by omega)]),ck.trans (by simp only[qR];rw[if_neg (by omega)]),gm,hQ⟩
  ·by_cases e:j=i
   ·subst e;rw[Β] at di;cases di;rw[←uQ j (Nat.le_refl j),vX td Iq Μ,vX tb nU vf];simp only[jU,qQ,qR,if_true];rw[if_neg (by omega),if_neg (by omega)];exact⟨Gr,b7⟩
   ·have:=ε j bP (by omega) di;rw[←uQ j (by omega),OH td Iq j Μ (by omega),OH tb nU j vf (by omega)];simp only[jU,qQ,qR];rw[if_neg (by omega),if_neg (by omega),if_neg (by omega),if_neg (by omega),if_neg (by omega)];exact this
  ·rw[Gs];simp only[qQ,qR,if_true];exact h
theorem W.Ir (Ζ:bN P T) (rE:P.follows .mixedOrders=true) {r:Row} {τ:List Row} {id:Nat} (h:∀J:Χ→List Row→Prop,(∀env σ,W P m nt k env σ Z E→J env σ)→hZ P T A nt ops (idx ops.size []) env r τ [] [] J):W P m nt (.code (.region id ops true)::k) env (r::τ) Z E:=by
 have ae:=h (fun env σ=>W P m nt k env σ Z E) fun _ _ h=>h;rw[idx_eq,List.range_eq_range'] at ae;obtain⟨td,tb,as9,ρs,τs,Ξ,ad,aT,ck,gm,hQ⟩:=Z2 (m:=m) (k:=k) (Z:=Z) (E:=E) (env0:=env) Ζ ops.size 0 [] [] (fun _=>.cp) (fun _=>r) (fun _=>τ) (by omega) rfl rfl (fun j o ε=>by omega) ae;intro Q mn x cs b S B H t δ hb χ Ν he;refine .draw δ hb fun n=>?_;have DW:∀i:Nat,(Array.replicate ops.size false).getD i false=false:=fun i=>by
  rw[Array.getD_eq_getD_getElem?,Array.getElem?_replicate];split<;>rfl
 have key:=W.ZO (P:=P) (m:=m) (nt:=nt) (k:=k) (Z:=Z) (E:=E) (ops:=ops) (as9:=as9) (ρs:=ρs) (τs:=τs) (td:=td) (tb:=tb) (env0:=env) Ξ ad
  (fun i o Β R γ=>by
   rcases(gm i o Β).1 with⟨a,_⟩|⟨_,a,_⟩|⟨_,_,a,_⟩
   ·rw[R] at a;cases a
   ·rw[γ] at a;cases a
   ·exact a)
  (fun i o Β R=>by
   rcases(gm i o Β).1 with⟨_,b,a,_⟩|⟨a,_⟩|⟨a,_⟩
   ·exact⟨a,b⟩
   ·rw[R] at a;cases a
   ·rw[R] at a;cases a)
  (fun i o Β R=>by
   rcases(gm i o Β).1 with⟨_,a,_⟩|⟨_,_,a,_⟩|⟨_,a,_⟩
   ·rw[R] at a;cases a
   ·exact a
   ·rw[R] at a;cases a)
  (fun i o Β hw=>by
   rcases(gm i o Β).1 with⟨a,_⟩|⟨_,_,_,a,_⟩|⟨_,_,_,a,_⟩
   ·unfold writer at hw;rw[a,Β] at hw;simp[(gm i o Β).2 a] at hw
   ·exact a
   ·exact a)
  (fun i o Β hw=>by
   rcases(gm i o Β).1 with⟨_,_,_,a⟩|⟨_,b,_,_,a⟩|⟨_,_,_,_,a⟩
   ·exact a
   ·refine a ?_;unfold writer at hw;rw[b,Β] at hw;simpa using hw
   ·exact a)
  (.bB hQ) ops.size n (Array.replicate ops.size false) env 0 0 (by simp) (fun i=>?_) (fun i o Β ω=>?_) (Nat.zero_le _) (Nat.zero_le _) (fun j ε _=>?_) (fun j ε _=>?_) ?_
 ·rw[aT,ck] at key;rw[rE];simp only[Region.schedule,Bool.true_or,if_true,Region.linearise];exact key Q mn x cs b S B H t δ hb χ Ν he
 ·have:∀n,cW ops env as9 (fun i=>(Array.replicate ops.size false).getD i false) n=env:=by
   intro n
   induction n with
   | zero=>rfl
   | succ n Γ=>
    simp only[cW];rw[if_neg (by rw[DW n];simp)];exact Γ
  rw[this]
 ·rw[DW] at ω;cases ω
 ·rw[DW];simp
 ·rw[DW];simp
 ·have:=List.length_filter_le (fun i=>!(Array.replicate ops.size false).getD i false) (List.range ops.size);simpa using this
theorem Z3 {K K':Χ→List Row→Prop} (I:∀e s,K e s→K' e s):∀(is:List Nat) (env:Χ) (r:Row) (τ:List Row) (td tb:List Bool),hZ P T A nt ops is env r τ td tb K→hZ P T A nt ops is env r τ td tb K':=by
 intro is
 induction is with
 | nil=>intro env r τ td tb h;exact⟨h.1,h.2.1,I _ _ h.2.2⟩
 | cons i is Γ=>
  intro env r τ td tb h;unfold hZ gz at h ⊢;cases Β:ops[i]? with
  | none=>rw[Β] at h;exact h.elim
  | some o=>
   rw[Β] at h;simp only at h ⊢;refine⟨h.1,?_⟩
   replace h:=h.2
   cases hw:fp env ops o with
   | none=>rw[hw] at h;exact h.elim
   | some w=>
    rw[hw] at h;unfold jd at h ⊢;refine⟨fun e=>Γ _ _ _ _ _ (h.1 e),fun e=>?_⟩
    replace h:=h.2 e
    unfold z7 at h ⊢;split
    ·rename_i f args dL Κ;rw[Κ] at h;simp only at h;rcases h with⟨a,η,h⟩|⟨a,r',η,h⟩
     ·exact .inl ⟨a,η,Γ _ _ _ _ _ h⟩
     ·exact .inr ⟨a,r',η,Γ _ _ _ _ _ h⟩
    ·rename_i Κ;rw[Κ] at h;exact h
    ·rename_i Κ;rw[Κ] at h;exact h
    ·rename_i R γ ο;split at h
     ·rename_i f args dL Κ;exact absurd Κ (R f args dL)
     ·rename_i y Κ;exact absurd Κ (γ y)
     ·rename_i y Κ;exact absurd Κ (ο y)
     ·unfold cr.fZ at h ⊢;split at h
      ·exact Γ _ _ _ _ _ h
      ·exact⟨h.1,Γ _ _ _ _ _ h.2⟩
      ·exact h.elim
      ·obtain⟨a,eA,hu,υ⟩:=h;exact⟨a,eA,hu,Γ _ _ _ _ _ υ⟩
theorem W.OI (Ζ:bN P T) (rE:P.follows .mixedOrders=true) (gO:Χ) (ga:List Row) {r:Row} {τ:List Row} {id:Nat} (h:W P m nt k gO ga Z E) (κ:hZ P T A nt ops (idx ops.size []) env r τ [] [] (fun e s=>s=ga∧∀p∈gO,a5 e p.1=p.2)):W P m nt (.code (.region id ops true)::k) env (r::τ) Z E:=
 W.Ir Ζ rE fun J I=>Z3 (fun e s ⟨R,γ⟩=>I e s (R▸W.forget gO γ h)) _ _ _ _ _ _ κ
theorem W.Is (Ζ:bN P T) (rE:P.follows .mixedOrders=true) (gO:Χ) (ga:List Row) {id:Nat} (h:W P m nt k gO ga Z E) (κ:iE P T A nt ops (idx ops.size []) env σ [] (fun e s=>s=ga∧∀p∈gO,a5 e p.1=p.2)):W P m nt (.code (.region id ops true)::k) env σ Z E:=
 W.draw Ζ rE fun J I=>LM (fun e s ⟨R,γ⟩=>I e s (R▸W.forget gO γ h)) _ _ _ _ κ
end
end Go.TL
namespace Go.TL
open Go.Proofs
variable [bd]
attribute [congr] ZT
attribute [simp] ZU ZV ZX ZY ZZ Z0
def eB (g:FuncId) (args:List θ) (d:cy) (r:θ) (eb:cy):Prop:=ak Tryz.prog g (.ag 0 1 0 0::args) [b1 d] (fun a s=>db a r∧s=[b1 eb]) (fun _ _=>False)
theorem OJ {l:List θ} (h:∀a∈l,az 0 a) (ρ:List Nat):l.map (dP ρ)=l:=by
 induction l with
 | nil=>rfl
 | cons a l Γ=>rw[List.map_cons,(h a (by simp)).dP,Γ fun x δ=>h x (by simp[δ])]
theorem eB.c {g:FuncId} {args fU:List θ} {d eb:cy} {r:θ} {σ:List Row} {K E:θ→List Row→Prop} (h:eB g args d r eb) (id:Nat) (bU:σ[id]?=some (b1 d)) (he:aI fU args) (μ:∀a∈fU,az 0 a) (κ:az 0 r) (I:K r (σ.set id (b1 eb))):hR Tryz.prog (.fn (.func g) [] []) (.ag id 1 0 0::fU) σ K E:=by
 refine ak.one (as0:=.ag 0 1 0 0::fU) (r:=r) (row':=b1 eb) (ak.nm h (.cons (.refl _) he) fun a s ⟨R,γ⟩=>⟨r,R,rfl,γ⟩) id bU (oH d) (oH eb) ?_ (κ.ih 1) ?_ ?_
 ·intro a hm;rcases List.mem_cons.1 hm with rfl|hm
  ·exact Nat.zero_lt_one
  ·exact(μ a hm).ih 1
 ·rw[List.map_cons,OJ μ];rfl
 ·rw[κ.dP];exact I
theorem eB.e {g:FuncId} {args fU:List θ} {d eb:cy} {r:θ} {hD:θ→Prop} {oJ:θ→Row→Prop} (h:eB g args d r eb) (he:aI fU args) (μ:∀a∈fU,az 0 a) (κ:az 0 r) (I:oJ r (b1 eb)):DV Tryz.prog (.fn (.func g) [] []) (.ag 0 1 0 0::fU) (b1 d) hD oJ:=
 ZW (fun τ=>h.c 0 rfl he μ κ ⟨rfl,rfl⟩) I
@[simp] theorem mb (d:cy) (n:Int):(d.after n).bf.length≤d.bf.length:=by
 unfold cy.after;split
 ·exact Nat.le_refl _
 ·simp[cy.next]
theorem tv (d:cy) (hd:d.bf.length<2 ^ 63) (n:Int):eB 24 [U n] d (U (hq d n)) (d.after n):=(Io d hd n).mono (fun a s ⟨R,γ⟩=>⟨.of R,γ⟩) (fun _ _ h=>h)
theorem DX (d:cy) (hd:d.bf.length<2 ^ 63) (a b:Int):eB 38 [U a,U b] d (U (oI d a b)) (d.after (IntKind.i64.wrap (b-a))):=(ZJ d hd a b).mono (fun a s ⟨R,γ⟩=>⟨.of R,γ⟩) (fun _ _ h=>h)
theorem Z4 (d:cy) (hd:d.bf.length<2 ^ 63) (l:List Int) (ae:0<l.length) (ω:l.length<1000000):eB 61 [a3 U 1 l] d (U (l.getD (xq d l) 0)) (d.after ((l.length:Int)-1)):=(ZM d hd l ae ω).mono (fun a s ⟨R,γ⟩=>⟨.of R,γ⟩) (fun _ _ h=>h)
def vm (d:cy) (n:Int):Bool:=decide (hq d (n-1)=n.tdiv 2)
theorem It (d:cy) (hd:d.bf.length<2 ^ 63) (n:Int) (R:1≤n) (γ:n<1000):eB 156 [U n] d (bm (vm d n)) (d.after (n-1)):=by
 have hw:IntKind.i64.wrap (n-1)=n-1:=IntWalk.i64_in _ (by omega);unfold eB;refine ak.body Θ Tryz.func156 rfl rfl Tryz.ntmps156 rfl rfl (by simp) ?_;(repeat (first|apply ι|(refine ν fun J I=>?_;simp;(repeat (rw[ζ];simp));apply I;clear I J)));(repeat (first|apply ι));refine ν fun J I=>?_;simp;(repeat (rw[ζ];simp[hw]));refine eB.c (tv d hd (n-1)) 0 rfl (aI.refl _) (by simp) (by simp) ?_;simp[hw];(repeat (rw[ζ];simp[hw]));apply I;clear I J;have Μ:IntKind.i64.wrap (n.tdiv 2)=n.tdiv 2:=by
  rw[Int.tdiv_eq_ediv_of_nonneg (by omega)];exact IntWalk.i64_in _ (by omega)
 rw[Μ];exact W.ret ⟨_,rfl,.refl _,rfl⟩
end Go.TL
