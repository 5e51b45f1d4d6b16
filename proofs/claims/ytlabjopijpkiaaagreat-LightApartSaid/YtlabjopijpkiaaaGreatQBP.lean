import Derived.Carry
import Derived.ChangeSlices
import Derived.Conc.HoldsTime
import Derived.OpenShut
import Derived.Test.YtlabjopijpkiaaaGreatQAH
import Derived.Test.YtlabjopijpkiaaaGreatQBC
import Derived.Test.YtlabjopijpkiaaaGreatQBN
import Derived.Test.YtlabjopijpkiaaaGreatQBO
import Derived.Test.YtlabjopijpkiaaaGreatRows
set_option maxHeartbeats 16000000
set_option maxRecDepth 20000
set_option linter.unusedSectionVars false
set_option linter.unusedSimpArgs false
set_option linter.unusedVariables false
namespace Go.TL
open Go.Proofs
variable [bd]
def oK (l:List Int) (k:Nat) (x:Int):List Int:=l.take k++x::l.drop k
def gS (d:cy):Nat→List Int×cy
 | 0=>([],d)
 | i+1=>(oK (gS d i).1 (hq (gS d i).2 i).toNat i,(gS d i).2.after i)
theorem Iu (d:cy) (n:Nat):(gS d n).2.bf.length≤d.bf.length:=by
 induction n with
 | zero=>exact Nat.le_refl _
 | succ n Γ=>exact Nat.le_trans (mb _ _) Γ
theorem Iv {l:List Int} {k:Nat} {x:Int}:(oK l k x).length=l.length+1:=by
 unfold oK;simp;omega
theorem Iw (d:cy) (n:Nat):(gS d n).1.length=n:=by
 induction n with
 | zero=>rfl
 | succ n Γ=>show(oK _ _ _).length=_;rw[Iv,Γ]
def iP (l:List Int) (k:Nat):List Int:=(l++[0]).take (k+1)++l.drop k
theorem Z5 (l:List Int):iP l l.length=l++[0]:=by unfold iP;rw[List.take_of_length_le (by simp)];simp
theorem OK {l:List Int} {k:Nat} (h:k≤l.length):(iP l k).length=l.length+1:=by
 unfold iP;simp;omega
theorem Z6 {l:List Int} {k:Nat} (h:k<l.length):(iP l (k+1))[k]?=some l[k]:=by
 unfold iP;rw[dU (by simp;omega),List.getElem?_take_of_lt (by omega),dU h,bc h]
theorem Z7 {l:List Int} {k:Nat} (h:k<l.length):(iP l (k+1)).set (k+1) l[k]=iP l k:=by
 unfold iP;have Ε:((l++[0]).take (k+1+1))=(l++[0]).take (k+1)++[(l++[0])[k+1]'(by simp;omega)]:=List.take_succ_eq_append_getElem (by simp;omega);have Δ:l.drop k=l[k]::l.drop (k+1):=List.drop_eq_getElem_cons h;rw[Ε,Δ,List.append_assoc,List.set_append_right _ _ (by simp;omega)];congr 1;have:k+1-((l++[0]).take (k+1)).length=0:=by simp;omega
 rw[this];rfl
theorem Z8 {l:List Int} {k:Nat} {x:Int} (h:k≤l.length):(iP l k).set k x=oK l k x:=by
 unfold iP oK;have Ε:((l++[0]).take (k+1))=l.take k++[(l++[0])[k]'(by simp;omega)]:=by
  rw[List.take_succ_eq_append_getElem (by simp;omega),List.take_append_of_le_length h]
 rw[Ε,List.append_assoc,List.set_append_right _ _ (by rw[List.length_take];omega)];have:k-(l.take k).length=0:=by rw[List.length_take];omega
 rw[this];rfl
theorem OL (d:cy) (hd:d.bf.length<2 ^ 63) (n:Nat) (Η:n<1000):eB 63 [U n] d (a3 U 1 (gS d n).1) (gS d n).2:=by
 unfold eB;refine ak.body Θ Tryz.func63 rfl rfl Tryz.ntmps63 rfl rfl (by simp) ?_;(repeat (first|apply ι|(refine ν fun J I=>?_;simp;(repeat (rw[ζ];simp));apply I;clear I J)));refine W.iter (fun i:Nat=>i≤n) (fun i=>[(0,.ag 0 1 0 0),(1,U n),(5,cI 1 ((gS d i).1.map U)),(6,U i)]) (fun i=>b1 (gS d i).2::bq 3 1 ((gS d i).1.map U)) (fun i=>n-i) 0 (Nat.zero_le _) rfl (by simp[cI,gS]) (fun i hi Γ=>?_);(repeat (first|apply ι|(refine ν fun J I=>?_;simp;(repeat (rw[ζ];simp));apply I;clear I J)));refine W.dY rfl (fun η=>?_) (fun η=>?_)
 ·have η:i<n:=by simpa using η
  have dF:gS d (i+1)=(oK (gS d i).1 (hq (gS d i).2 i).toNat i,(gS d i).2.after i):=rfl;obtain⟨L,aD⟩:∃L,L=(gS d i).1:=⟨_,rfl⟩;obtain⟨D,dJ⟩:∃D,D=(gS d i).2:=⟨_,rfl⟩;have lW:L.length=i:=by rw[aD];exact Iw d i
  have mT:D.bf.length<2 ^ 63:=by rw[dJ];exact Nat.lt_of_le_of_lt (Iu d i) hd
  rw[←aD,←dJ] at dF;rw[←aD,←dJ];obtain⟨t0,t1⟩:=sa D i (by omega) (by omega);obtain⟨ek,kB⟩:∃k:Nat,hq D i=k:=⟨(hq D i).toNat,by omega⟩;rw[kB] at dF t1;have Z9:ek≤i:=by omega
  (repeat (first|apply ι));refine ν fun J I=>?_;simp;(repeat (rw[ζ];simp));refine eB.c (tv D mT i) 0 rfl (aI.refl _) (by simp) (by simp) ?_;simp;(repeat (rw[ζ];simp));rw[kB];apply I;clear I J
  repeat first|apply ι
  refine W.hl (A:=[19]) Θ [(0,.ag 0 1 0 0),(1,U n),(5,.ms 1 (i+1) 0 (i+1)),(6,U i),(7,U ek)] [b1 (D.after i),.cells 3 1 ((iP L i).map U)] ?_ (by
    have Ζ:(iP L i).map U=L.map U++[U 0]:=by rw[←lW,Z5];simp
    rw[Ζ];by_cases Ν:L=[]
    ·subst Ν;have kO:i=0:=by simpa using lW.symm
     subst kO;(try simp);(repeat (rw[ζ];simp[iG,show cI 1 []=.sl true 0 [] from rfl]));(try simp[iG,show cI 1 []=.sl true 0 [] from rfl])
    ·have fV:L.map U≠[]:=by simpa using Ν
     (try simp);(repeat (rw[ζ];simp[gR fV,ea fV,lW]));(try simp[gR fV,ea fV,lW]);omega)
  (repeat (first|apply ι|(refine ν fun J I=>?_;simp;(repeat (rw[ζ];simp));apply I;clear I J)));refine W.iter (fun k:Nat=>ek≤k∧k≤i) (fun k=>[(0,.ag 0 1 0 0),(1,U n),(5,.ms 1 (i+1) 0 (i+1)),(6,U i),(7,U ek),(8,U k)]) (fun k=>[b1 (D.after i),.cells 3 1 ((iP L k).map U)]) (fun k=>k) i ⟨Z9,Nat.le_refl _⟩ rfl (by simp) (fun k υ vU=>?_);(repeat (first|apply ι|(refine ν fun J I=>?_;simp;(repeat (rw[ζ];simp));apply I;clear I J)));refine W.dY rfl (fun aZ=>?_) (fun aZ=>?_)
  ·have m6:ek<k:=by simpa using aZ
   obtain⟨j,OM⟩:∃j,k=j+1:=⟨k-1,by omega⟩;have g4:j<L.length:=by omega
   have hw:IntKind.i64.wrap ((k:Int)-1)=j:=by rw[IntWalk.i64_in _ (by omega)];omega
   have wO:(iP L k).length=i+1:=by rw[OK (by omega),lW]
   obtain⟨y,Ο⟩:∃y,(iP L k)[k]?=some y:=⟨_,bc (by omega)⟩;obtain⟨ab,a8⟩:∃ab,ab=(iP L k).map U:=⟨_,rfl⟩;have vn:ab.length=i+1:=by rw[a8,List.length_map,wO]
   have sb:ab[j]?=some (U L[j]):=by rw[a8,List.getElem?_map,OM,Z6 g4];rfl
   have vo:ab[k]?=some (U y):=by rw[a8,List.getElem?_map,Ο];rfl
   have Ix:ab.set k (U L[j])=(iP L j).map U:=by rw[a8,←Z7 g4,List.map_set,OM]
   have Z':∀h,ab[j]'h=U L[j]:=fun h=>by rw[bc h] at sb;exact Option.some.inj sb
   have Iy:∀h,ab[k]'h=U y:=fun h=>by rw[bc h] at vo;exact Option.some.inj vo
   refine W.to (σ':=[b1 (D.after i),.cells 3 1 ab]) (env':=[(0,.ag 0 1 0 0),(1,U n),(5,.ms 1 (i+1) 0 (i+1)),(6,U i),(7,U ek),(8,U k)]) ?_ (by rw[a8]) (by simp);(repeat (first|apply ι));refine ν fun J I=>?_;simp;(repeat (rw[ζ];simp[hw,vn,sb,vo,Z',Iy]));refine⟨by omega,by omega,?_⟩;apply I;clear I J;(repeat (first|apply ι|(refine ν fun J I=>?_;simp;(repeat (rw[ζ];simp[hw]));apply I;clear I J)));refine W.to (vU j ⟨by omega,by omega⟩ (by omega)) ?_ ?_
   ·rw[Ix]
   ·simp
  ·have m6:k=ek:=by simp at aZ;omega
   subst m6;refine W.exit rfl ?_;have wO:(iP L k).length=i+1:=by rw[OK (by omega),lW]
   obtain⟨y,Ο⟩:∃y,(iP L k)[k]?=some y:=⟨_,bc (by omega)⟩;obtain⟨ab,a8⟩:∃ab,ab=(iP L k).map U:=⟨_,rfl⟩;have vn:ab.length=i+1:=by rw[a8,List.length_map,wO]
   have vo:ab[k]?=some (U y):=by rw[a8,List.getElem?_map,Ο];rfl
   have Ix:ab.set k (U i)=(oK L k i).map U:=by rw[a8,←Z8 (by omega),List.map_set]
   have Iy:∀h,ab[k]'h=U y:=fun h=>by rw[bc h] at vo;exact Option.some.inj vo
   refine W.to (σ':=[b1 (D.after i),.cells 3 1 ab]) (env':=[(0,.ag 0 1 0 0),(1,U n),(5,.ms 1 (i+1) 0 (i+1)),(6,U i),(7,U k)]) ?_ (by rw[a8]) (by simp);(repeat (first|apply ι));refine ν fun J I=>?_;simp;(repeat (rw[ζ];simp[vn,vo,Iy]));refine⟨by omega,?_⟩;apply I;clear I J;have hw:=eD η (show n<2 ^ 62 by omega);(repeat (first|apply ι|(refine ν fun J I=>?_;simp;(repeat (rw[ζ];simp[hw]));apply I;clear I J)));have fV:(oK L k i).map U≠[]:=fun h=>by have:=congrArg List.length h;rw[List.length_map,Iv] at this;simp at this
   refine W.to (Γ (i+1) η (by omega)) ?_ ?_
   ·rw[dF,Ix,ea (by simpa using fV)];rfl
   ·rw[dF];simp only[Int.toNat_natCast];rw[gR fV];simp[hw,Iv,lW]
 ·have η:i=n:=by simp at η;omega
  subst η;refine W.exit rfl ?_;(repeat (first|apply ι|(refine ν fun J I=>?_;simp;(repeat (rw[ζ];simp));apply I;clear I J)));refine W.cut 1 (by simp) [(4,fq 1 ((gS d i).1.map U))] (by simp) (fun id r bU κ=>?_) ?_ ?_
  ·have:id=0:=by omega
   subst this;simp at κ;subst κ;exact fun e he a μ=>by simp[θ.cells] at he;subst he;simp[θ.cells] at μ;rcases μ with rfl|rfl<;>simp[gA,θ.cells]
  ·intro p χ;simp at χ;subst χ;show ey 1 _ (a5 _ 4) _;simp;refine zm (t:=3) (Nat.le_refl _) (fun ω=>by rw[ea ω];rfl) (fun e he a μ=>?_);obtain⟨x,_,rfl⟩:=List.mem_map.1 he;simp[θ.cells] at μ;subst μ;exact .z _
  ·exact W.ret ⟨_,rfl,.acc,rfl⟩
theorem sc (d:cy) (h:Nat):eN h (b1 d):=fun e he a μ=>by
 simp[θ.cells] at he;subst he;simp[θ.cells] at μ;rcases μ with rfl|rfl<;>simp[gA,θ.cells]
section
variable {P:Program} {m nt:Nat} {k:List Item} {env:Χ} {Z:List Item→Χ→List Row→Prop} {E:θ→Χ→List Row→Prop}
theorem W.aα {d:cy} {t kk:Nat} {l:List θ} {x:Nat} (hm:m≤1) (hb:∀e∈l,∀a∈e.cells,az 0 a) (env':Χ) (hd:a5 env x=cI 1 l) (cC:∀p∈env',a5 env p.1=p.2∧az 1 p.2) (hW:W P m nt k ((x,fq kk l)::env') [b1 d] Z E):W P m nt k env (b1 d::bq t kk l) Z E:=
 W.cut 1 hm ((x,fq kk l)::env') (by simp) (fun id r bU κ=>by
  have:id=0:=by omega
  subst this;simp at κ;subst κ;exact sc d 1) (fun p χ=>by
  rcases List.mem_cons.1 χ with rfl|χ
  ·show ey 1 _ (a5 env x) _;rw[hd];exact zm (t:=t) (Nat.le_refl _) (fun ω=>by rw[ea ω];rfl) (fun e he a μ=>(hb e he a μ).mono (Nat.zero_le _))
  ·rw[(cC p χ).1];exact .low (cC p χ).2) (by simpa using hW)
end
theorem aβ {i n:Nat} (h:i<n) (Η:n<1000):IntKind.i64.wrap ((i:Int)+1)=((i+1:Nat):Int):=by
 rw[IntWalk.i64_in _ (by omega)];omega
def hH (d:cy):Nat→List Int×cy
 | 0=>([],d)
 | i+1=>((hH d i).1++(if vm (hH d i).2 2 then [(i:Int)] else []),(hH d i).2.after 1)
theorem ON (d:cy) (n:Nat):(hH d n).2.bf.length≤d.bf.length:=by
 induction n with
 | zero=>exact Nat.le_refl _
 | succ n Γ=>exact Nat.le_trans (mb _ _) Γ
theorem OO (d:cy) (n:Nat):(hH d n).1.length≤n:=by
 induction n with
 | zero=>exact Nat.le_refl _
 | succ n Γ=>
  show((hH d n).1++_).length≤_;rw[List.length_append];split<;>simp<;>omega
theorem aγ (d:cy) (hd:d.bf.length<2 ^ 63):eB 156 [U 2] d (bm (vm d 2)) (d.after 1):=It d hd 2 (by decide) (by decide)
theorem aδ (d:cy) (hd:d.bf.length<2 ^ 63):eB 129 [] d (a3 U 1 (hH d 3).1) (hH d 3).2:=by
 unfold eB;obtain⟨n,Η⟩:∃n,n=3:=⟨_,rfl⟩;rw[←Η];refine ak.body Θ Tryz.func129 rfl rfl Tryz.ntmps129 rfl rfl (by simp) ?_;(repeat (first|apply ι|(refine ν fun J I=>?_;simp;(repeat (rw[ζ];simp));apply I;clear I J)));refine W.iter (fun i:Nat=>i≤n) (fun i=>[(0,.ag 0 1 0 0),(3,cI 1 ((hH d i).1.map U)),(4,U i)]) (fun i=>b1 (hH d i).2::bq 3 1 ((hH d i).1.map U)) (fun i=>n-i) 0 (Nat.zero_le _) rfl (by simp[cI,hH]) (fun i hi Γ=>?_);(repeat (first|apply ι|(refine ν fun J I=>?_;simp;(repeat (rw[ζ];simp));apply I;clear I J)));refine W.dY rfl (fun η=>?_) (fun η=>?_)
 ·have η:i<n:=by simp at η;omega
  have dF:hH d (i+1)=((hH d i).1++(if vm (hH d i).2 2 then [(i:Int)] else []),(hH d i).2.after 1):=rfl
  have lW:=OO d i;obtain⟨L,aD⟩:∃L,L=(hH d i).1:=⟨_,rfl⟩;obtain⟨D,dJ⟩:∃D,D=(hH d i).2:=⟨_,rfl⟩;have mT:D.bf.length<2 ^ 63:=by rw[dJ];exact Nat.lt_of_le_of_lt (ON d i) hd
  rw[←aD,←dJ] at dF;rw[←aD] at lW;rw[←aD,←dJ];have hw:=aβ η (by omega);(repeat (first|apply ι));refine ν fun J I=>?_;simp;(repeat (rw[ζ];simp));refine eB.c (aγ D mT) 0 rfl (aI.refl _) (by simp) (by simp) ?_;simp;(repeat (rw[ζ];simp));apply I;clear I J;cases hb:vm D 2
  ·refine ah rfl ?_;(repeat (first|apply ι|(refine ν fun J I=>?_;simp;(repeat (rw[ζ];simp[hw]));apply I;clear I J)));refine W.to (Γ (i+1) η (by omega)) ?_ ?_
   ·rw[dF,hb];simp
   ·rw[dF,hb];simp[hw]
  ·refine al rfl ?_
   repeat first|apply ι
   refine W.hl (A:=[14]) Θ [(0,.ag 0 1 0 0),(3,cI 1 ((L++[(i:Int)]).map U)),(4,U i)] (b1 (D.after 1)::bq 3 1 ((L++[(i:Int)]).map U)) ?_ (by
    rw[List.map_append,List.map_cons,List.map_nil,rR,gR (l:=L.map U++[U i]) (by simp)];by_cases Ν:L=[]
    ·subst Ν;(try simp);(repeat (rw[ζ];simp[iG,show cI 1 []=.sl true 0 [] from rfl]));(try simp[iG,show cI 1 []=.sl true 0 [] from rfl])
    ·have fV:L.map U≠[]:=by simpa using Ν
     (try simp);(repeat (rw[ζ];simp[gR fV,ea fV]));(try simp[gR fV,ea fV]);omega)
   (repeat (first|apply ι|(refine ν fun J I=>?_;simp;(repeat (rw[ζ];simp[hw]));apply I;clear I J)));refine W.to (Γ (i+1) η (by omega)) ?_ ?_
   ·rw[dF,hb];simp
   ·rw[dF,hb];simp[hw]
 ·have η:i=n:=by simp at η;omega
  subst η;refine W.exit rfl ?_;(repeat (first|apply ι|(refine ν fun J I=>?_;simp;(repeat (rw[ζ];simp));apply I;clear I J)));refine W.aα (x:=2) (by simp) (fun e he a μ=>?_) [] (by simp) (by simp) ?_
  ·obtain⟨x,_,rfl⟩:=List.mem_map.1 he;simp[θ.cells] at μ;subst μ;exact .z _
  ·exact W.ret ⟨_,rfl,.acc,rfl⟩
end Go.TL
namespace Go.TL
open Go.Conc Go.Proofs
theorem Iz:@Seq nG calm:=@Seq.mk nG calm rfl (fun _ h=>h.rel) (fun _ h=>h.aC)
theorem aε (w:World):Calm (aR.start w):=⟨rfl,rfl,rfl,fun _=>trivial⟩
def pK (w:World):aA:=fun b o=>((ψ.kS w).aF b o).map (·.1)
theorem aζ (w:World):Holds (pK w) [] [] (ψ.kS w):=
 ⟨fun b o v h=>by
  unfold pK at h;cases η:(ψ.kS w).aF b o with
  | none=>rw[η] at h;cases h
  | some x=>rw[η] at h;cases h;exact⟨x.2,rfl⟩,rfl,fun id r bo h=>by simp at h,fun i j dX b4 b gk gl _ h=>by simp at h,fun id r b N h=>by simp at h⟩
theorem aη {P:Program} {f:FuncId} {fn:Func} {body:Code} {d:Nat} (b':P.funcs[f]?=some fn) (mC:fn.body=some body) (eL:fn.results=#[.tmp d]) (bb:P.inits.idxOf? f=none) {w:World} {l:List θ} {args:Array Value} (κ:fl (pK w) [] [] l args) (Η:l.length≤fn.ntmps)
  (hW:@W nG P 0 fn.ntmps [.code body] (entry 0 l) [] (fun j env _=>(∃k,j=.code .ret::k)∧a5 env d=bm true) (fun _ _ _=>False)):Comes P (fun v=>v=.bool true) w (solo (Go.Conc.G (Frame.enter P f args .normal) []) w) #[]:=by
 letI:bd:=nG;refine Goes.comes ?_;show cf P _ true (aR.start w) (Frame.enter P f args .normal) [] (ψ.kS w);rw[pj b' mC];refine hW (fun v=>v=.bool true) true calm [] (Frame.enter P f args .normal) (pK w) [] (ψ.kS w) _ Iz rfl (fj.enter (aζ w) κ (Nat.le_refl _) Η) (fun j env' σ' au B' H' t' Ω Ν μ χ ω=>?_) (fun a env' σ' au B' H' t' Ω v he=>he.elim) (aR.start w) (aε w);obtain⟨⟨k,ε⟩,hd⟩:=Ν;have e:Ω=j:=ω;subst e;subst ε;refine aJ.ret Iz rfl rfl (aJ.done (v:=.bool true) Iz (fun y h=>h.shut) (fun y h=>h.deaf) rfl rfl rfl b' bb ?_ rfl);have hv:t'.getD d undef=.bool true:=by
  have:=χ.cj d;rw[hd] at this;generalize t'.getD d undef=u at this;cases this;rfl
 show results fn t'=_;unfold results;rw[eL];rw[Array.getD_eq_getD_getElem?] at hv;simp[hv]
end Go.TL
namespace Go.TL
open Go.Conc Go.ConcM Go.Proofs
open Go.ChangeShapes Go.WideShapes Go.ChangeAt Go.RowKit
theorem aθ:ownKnob Tryz.prog.godebug=none:=by kernel_rfl
theorem fe.below {W w:World} (h:fe (fun _ _=>False) (fun _=>False) W w):Below W.heap.size W {w with os:=W.os}:=by
 refine⟨rfl,h.tape,h.output,h.size,fun k υ=>?_⟩;show w.heap[k]?=W.heap[k]?;have e:=eY υ;cases η:Obj.qW W.heap[k] with
 | false=>rw[e];exact h.me k _ e η id
 | true=>
  cases δ:W.heap[k] with
  | cells c t dC=>
   rw[δ] at e;obtain⟨c',R,γ,ο⟩:=h.cells k c t dC e;have:c'=c:=by
    apply Array.ext' ;apply List.ext_getElem?;intro o;have:=ο o id;simpa using this
   rw[e,R,this]
  | _=>rw[δ] at η;simp[Obj.qW] at η
theorem aι:laidOutB Tryz.prog=true:=by kernel_rfl
theorem aκ:Tryz.prog.cellsOf 3=1:=by kernel_rfl
theorem aμ {W:World} {b o:Nat} {v:Value} (h:W.cell? ⟨b,o,none⟩=some v):pK W b o=some v:=by
 unfold World.cell? at h;unfold pK ψ.kS;simp only at h ⊢;split at h
 ·rename_i c t dC η;rw[η];simp at h ⊢;exact h
 ·cases h
theorem aν {W:World} {a:Addr} {len cap:Nat} {fI:List Int} (ω:len≤cap) (Ν:len≤fI.length) (η:∀i,i<fI.length→W.cell? (a.add i)=some (.int .i64 (fI.getD i 0))) :
  aj (pK W) [] [] (a3 U 1 (fI.take len)) (.slice (some a) len cap):=by
 by_cases ae:len=0
 ·subst ae;exact .h7 _ _ (by simp)
 ·have ξ:a.spot=none:=by
   have:=η 0 (by omega);unfold World.cell? Addr.add at this;rw[if_pos rfl] at this;cases bQ:a.spot with
   | none=>rfl
   | some x=>
    rw[bQ] at this;simp at this;split at this<;>simp at this
  obtain⟨b,o,sp⟩:=a;simp only at ξ;subst ξ;have hlen:(fI.take len).length=len:=by rw[List.length_take];omega
  have one:∀(i:Nat) (e:θ),((fI.take len).map U)[i]?=some e→i<len∧e=U (fI.getD i 0):=fun i e hi=>by
   have h':i<len:=by have:=(b3.1 hi).1;rw[List.length_map,hlen] at this;exact this
   rw[List.getElem?_map,List.getElem?_take_of_lt h',bc (by omega)] at hi;refine⟨h',?_⟩;rw[List.getD_eq_getElem?_getD,bc (by omega)];simpa using hi.symm
  have:=aj.sl (S:=pK W) (B:=[]) (σ:=[]) (ex:=false) (k:=1) (l:=(fI.take len).map U) b o cap (fun i _=>.int .i64 (fI.getD i 0)) (by simp) (by rw[List.length_map,hlen];exact ω)
   (fun i e hi=>by rw[(one i e hi).2];rfl) (fun i e hi j c ε=>by
    obtain⟨R,rfl⟩:=one i e hi
    match j with
    | 0=>
     refine aμ ?_;have:=η i (by omega);unfold Addr.add at this;rw[Nat.mul_one,Nat.add_zero];split at this
     ·rename_i cA;subst cA;exact this
     ·exact this
    | j+1=>simp[θ.cells] at ε) (fun i e hi j c ε=>by
    obtain⟨R,rfl⟩:=one i e hi
    match j with
    | 0=>simp[θ.cells] at ε;subst ε;exact .z _
    | j+1=>simp[θ.cells] at ε)
  rw[List.length_map,hlen] at this;exact this
end Go.TL
namespace Go.TL
open Go.Proofs
variable [bd]
theorem DY (d:cy) {a b:Int} (h:a≤b) (μ:-1000<a) (hb:b<1000):a≤oI d a b∧oI d a b≤b:=by
 unfold oI;rw[IntWalk.i64_in (b-a) (by omega)];obtain⟨t0,t1⟩:=sa d (b-a) (by omega) (by omega);generalize hq d (b-a)=x at t0 t1;rw[IntWalk.i64_in (a+x) (by omega)];omega
theorem aξ (l:List Int) (k:Nat) (x:Int):(oK l k x).Perm (x::l):=by
 unfold oK;have h:(l.take k++x::l.drop k).Perm (x::(l.take k++l.drop k)):=List.perm_middle
 rwa [List.take_append_drop] at h
theorem OP (d:cy) (n:Nat):(gS d n).1.Perm ((List.range n).map fun(i:Nat)=>(i:Int)):=by
 induction n with
 | zero=>exact .refl _
 | succ n Γ=>
  show(oK _ _ _).Perm _;refine(aξ _ _ _).trans ?_;rw[List.range_succ,List.map_append];refine(List.Perm.cons _ Γ).trans ?_;exact(List.perm_append_singleton _ _).symm
theorem OQ {d:cy} {n:Nat} {x:Int} (h:x∈(gS d n).1):0≤x∧x<n:=by
 have:=(OP d n).mem_iff.1 h;obtain⟨i,hi,rfl⟩:=List.mem_map.1 this;have:=List.mem_range.1 hi;omega
theorem OR (d:cy) (n:Nat):(gS d n).1.Nodup:=by
 refine(OP d n).nodup_iff.2 ?_;unfold List.Nodup;rw[List.pairwise_map];exact List.nodup_range.imp fun h e=>h (by omega)
structure oL (l:List k4):Prop where
 lo:1≤l.length
 hi:l.length≤6
 each:∀g∈l,wH g.name=false∧1≤g.ep∧g.ep≤63
 OS:l.Pairwise fun a b=>rk b.name a.name=false
 apart:l.Pairwise fun a b=>a.ep≠b.ep
theorem z9 {l:List Int} (h:∀x∈l,x=0):ij l=0:=by
 induction l with
 | nil=>rfl
 | cons x l Γ=>
  have:=h x (by simp);subst this;simp[ij];exact Γ fun y Ο=>h y (by simp[Ο])
theorem oL.err {l:List k4} (h:oL l):nv l=0:=by
 unfold nv;have R:=h.lo;have γ:=h.hi;rw[if_neg (by omega),if_neg (by omega)];refine z9 fun x δ=>?_;obtain⟨i,hi,rfl⟩:=List.mem_map.1 δ;have hi:=List.mem_range.1 hi;unfold pg;rw[bc hi];obtain⟨Ε,Δ,a4⟩:=h.each _ (List.getElem_mem hi);simp only;rw[if_neg (by rw[Ε];simp),if_neg,if_neg (by omega),if_neg]
 ·intro μ;obtain⟨y,Ο,he⟩:=List.any_eq_true.1 μ;obtain⟨j,ε,rfl⟩:=List.mem_take_iff_getElem.1 Ο;have:=List.pairwise_iff_getElem.1 h.apart j i (by omega) hi (by omega);simp at he;exact this he
 ·rintro⟨kO,ξ⟩;rw[bc (by omega)] at ξ;have:=List.pairwise_iff_getElem.1 h.OS (i-1) i (by omega) hi (by omega);simp only[Option.map_some,Option.getD_some] at ξ;rw[ξ] at this;cases this
def mo (i:Nat):ByteArray:=⟨#[[97,98,99,100,111,122].getD i 0]⟩
def iQ:List Int:=[4,9,6,12,48,8,3,16,5,10,20]
def j1 (ord:List Int) (last:Int) (i:Nat):k4:=⟨mo i,(iQ++[last]).getD ((ord.getD i 0).toNat) 0⟩
structure Made (ord:List Int):Prop where
 len:ord.length=11
 mem:∀x∈ord,0≤x∧x<11
 nodup:ord.Nodup
theorem aο (d:cy):Made (gS d 11).1:=⟨Iw d 11,fun _ h=>OQ h,OR d 11⟩
theorem Made.get {ord:List Int} (h:Made ord) {i:Nat} (hi:i<11):∃k:Nat,k<11∧ord[i]?=some (k:Int)∧∀last,(iQ++[last])[k]?=some (iQ.getD k 0)∧1≤iQ.getD k 0∧iQ.getD k 0≤63:=by
 have ω:=h.len
 have hm:=h.mem _ (List.getElem_mem (l:=ord) (n:=i) (by omega));refine⟨(ord[i]).toNat,by omega,by rw[bc (by omega)];congr 1;omega,fun last=>?_⟩;have υ:(ord[i]).toNat<11:=by omega
 generalize (ord[i]).toNat=k at υ;rw[dU (by simpa[iQ] using υ)];have:∀k<11,iQ[k]?=some (iQ.getD k 0)∧1≤iQ.getD k 0∧iQ.getD k 0≤63:=by decide
 exact this k υ
theorem aπ:∀a<11,∀b<11,iQ.getD a 0=iQ.getD b 0→a=b:=by decide
theorem aρ:∀i<6,wH (mo i)=false:=by decide +kernel
theorem aς:∀j<6,∀i<j,rk (mo j) (mo i)=false:=by decide +kernel
theorem DZ {ord:List Int} (h:Made ord) (last:Int) {i:Nat} (hi:i<11):∃k:Nat,k<11∧ord[i]?=some (k:Int)∧(j1 ord last i).ep=iQ.getD k 0∧1≤iQ.getD k 0∧iQ.getD k 0≤63:=by
 obtain⟨k,υ,Β,ξ⟩:=h.get hi;obtain⟨R,γ,ο⟩:=ξ last;refine⟨k,υ,Β,?_,γ,ο⟩;unfold j1;rw[show ord.getD i 0=(k:Int) from by rw[List.getD_eq_getElem?_getD,Β];rfl,Int.toNat_natCast];show(iQ++[last]).getD k 0=_;rw[List.getD_eq_getElem?_getD,R];rfl
theorem aτ {ord:List Int} (h:Made ord) (last:Int) {i j:Nat} (hi:i<11) (ε:j<11) (e:(j1 ord last i).ep=(j1 ord last j).ep):i=j:=by
 obtain⟨a,μ,kp,aυ,_⟩:=DZ h last hi;obtain⟨b,hb,h6,CZ,_⟩:=DZ h last ε;rw[aυ,CZ] at e;have:=aπ a μ b hb e;subst this;have ω:=h.len;exact(List.getElem?_inj (by omega) h.nodup).1 (kp.trans h6.symm)
theorem aφ {ord:List Int} (h:Made ord) (last:Int) {aG:List Nat} (da:aG.Pairwise (· < ·)) (a6:∀j∈aG,j<6) (R:1≤aG.length) (Η:aG.length≤6):oL (aG.map (j1 ord last)):=by
 refine⟨by simpa using R,by simpa using Η,fun g Τ=>?_,?_,?_⟩
 ·obtain⟨j,ε,rfl⟩:=List.mem_map.1 Τ;have:=a6 j ε;obtain⟨k,_,_,e,Ε,Δ⟩:=DZ h last (i:=j) (by omega);exact⟨aρ j this,by omega,by omega⟩
 ·rw[List.pairwise_map];refine(List.pairwise_iff_forall_sublist.2 fun {a b} ξ=>?_);have gw:=(List.pairwise_iff_forall_sublist.1 da) ξ;exact aς b (a6 b (ξ.subset (by simp))) a gw
 ·rw[List.pairwise_map];refine(List.pairwise_iff_forall_sublist.2 fun {a b} ξ=>fun e=>?_);have gw:=(List.pairwise_iff_forall_sublist.1 da) ξ;have μ:=a6 a (ξ.subset (by simp));have hb:=a6 b (ξ.subset (by simp));have:=aτ h last (by omega) (by omega) e;omega
theorem oL.set {l:List k4} (h:oL l) {k:Nat} (υ:k<l.length) {x:Int} (R:1≤x) (γ:x≤63) (Ρ:∀g∈l,g.ep≠x):oL (l.set k ⟨l[k].name,x⟩):=by
 have get:∀(i:Nat) (hi:i<(l.set k ⟨l[k].name,x⟩).length),(l.set k ⟨l[k].name,x⟩)[i].name=(l[i]'(by simpa using hi)).name∧((l.set k ⟨l[k].name,x⟩)[i].ep=x∧i=k∨(l.set k ⟨l[k].name,x⟩)[i].ep=(l[i]'(by simpa using hi)).ep∧i≠k):=by
  intro i hi;rw[List.getElem_set];split
  ·rename_i e;subst e;exact⟨rfl,.inl ⟨rfl,rfl⟩⟩
  ·rename_i e;exact⟨rfl,.inr ⟨rfl,fun h=>e h.symm⟩⟩
 refine⟨by simpa using h.lo,by simpa using h.hi,fun g Τ=>?_,?_,?_⟩
 ·obtain⟨i,hi,rfl⟩:=List.getElem_of_mem Τ;obtain⟨Ε,Δ⟩:=get i hi;obtain⟨a,b,c⟩:=h.each _ (List.getElem_mem (l:=l) (n:=i) (by simpa using hi));rw[Ε];rcases Δ with⟨Δ,_⟩|⟨Δ,_⟩<;>rw[Δ]
  ·exact⟨a,R,γ⟩
  ·exact⟨a,b,c⟩
 ·rw[List.pairwise_iff_getElem];intro i j hi ε fs;rw[(get i hi).1,(get j ε).1];exact List.pairwise_iff_getElem.1 h.OS i j (by simpa using hi) (by simpa using ε) fs
 ·rw[List.pairwise_iff_getElem];intro i j hi ε fs;have a2:i<l.length:=by simpa using hi
  have bh:j<l.length:=by simpa using ε
  rcases(get i hi).2 with⟨Ε,Δ⟩|⟨Ε,Δ⟩<;>rcases(get j ε).2 with⟨a4,cu⟩|⟨a4,cu⟩<;>rw[Ε,a4]
  ·omega
  ·exact fun e=>Ρ _ (List.getElem_mem bh) e.symm
  ·exact fun e=>Ρ _ (List.getElem_mem a2) e
  ·exact List.pairwise_iff_getElem.1 h.apart i j a2 bh fs
end Go.TL
