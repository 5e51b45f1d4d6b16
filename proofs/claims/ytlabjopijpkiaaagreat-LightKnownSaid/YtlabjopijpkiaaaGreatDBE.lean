import Derived.Test.YtlabjopijpkiaaaGreatDAP
import Derived.Test.YtlabjopijpkiaaaGreatDAR
import Derived.Test.YtlabjopijpkiaaaGreatDAS
import Derived.Test.YtlabjopijpkiaaaGreatDAY
import Derived.Test.YtlabjopijpkiaaaGreatDAZ
import Derived.Test.YtlabjopijpkiaaaGreatDBA
import Derived.Test.YtlabjopijpkiaaaGreatDBB
import Derived.Test.YtlabjopijpkiaaaGreatDBC
import Derived.Test.YtlabjopijpkiaaaGreatDBD
set_option maxHeartbeats 16000000
set_option maxRecDepth 20000
set_option linter.unusedSectionVars false
set_option linter.unusedSimpArgs false
set_option linter.unusedVariables false
namespace Go.TL
open Go.Proofs
end Go.TL
namespace Go.TL
open Go.Proofs
variable [bj]
end Go.TL
namespace Go.TL
open Go.Conc Go.Proofs
variable [bj]
theorem W.eP {P:Program} {m nt:Nat} {k:List Item} {env:ab} {σ:List Row} {Z:List Item->ab->List Row->Prop} {E:θ->ab->List Row->Prop} (env':ab) (cU:∀p∈env',cp (bc env p.1) p.2) (hW:W P m nt k env' σ Z E):W P m nt k env σ Z E:=
 λQ mn x cs b S B H t U hb ς Μ he=>by
 have r6:∀(l:ab),(∀p∈l,cp (bc env p.1) p.2)->∀i,cp (bc env i) (bc l i):=by
  intro l
  induction l with
  | nil=>intro _ i;exact .cg _
  | cons p l ω=>
   intro υ i;simp only[bc];split
   ·rename_i e;rw[<-e];exact υ p η
   ·exact ω (λq Χ=>υ q (by simp[Χ])) i
 exact hW Q mn x cs b S B H t U hb ⟨ς.holds,λi=>r6 env' cU i S B σ _ (ς.b5 i),ς.size,ς.rows⟩ Μ he
end Go.TL
namespace Go.TL
open Go.Proofs
variable [bj]
theorem cι (l:List Int) (n:Nat) (aF:List cG) (i:Nat):(ko l n aF i).Sublist aF:=by
 have key:∀i,i<=aF.length->(ko l n aF i).Sublist (aF.take i):=by
  intro i
  induction i with
  | zero=>intro _;simp[ko]
  | succ i ω=>
   intro hi;rw[PA l n aF hi,List.take_succ_eq_append_getElem hi];refine List.Sublist.append (ω γ) ?_;split<;>simp
 by_cases h:i<=aF.length
 ·exact(key i h).trans (List.take_sublist _ _)
 ·have e:ko l n aF i=ko l n aF aF.length:=by
   have:∀d,ko l n aF (aF.length+d)=ko l n aF aF.length:=by
    intro d
    induction d with
    | zero=>rfl
    | succ d ω=>
     rw[<-ω];unfold ko;rw[<-Nat.add_assoc,List.range_succ,List.filterMap_append];simp
   have:=this (i-aF.length)
   rwa [show aF.length+(i-aF.length)=i by omega] at this
  rw[e];exact(key _ (Nat.le_refl _)).trans (List.take_sublist _ _)
theorem EL {s:aL} (h:lV s) (l:List Int):lV (s.sT l) where
 Τ:=h.Τ
 ai:=h.ai
 many:=by simp[aL.sT];exact h.many
 cells c ε:=by
  obtain⟨i,hi,rfl⟩:=List.mem_map.1 ε;have hi:=List.mem_range.1 hi;have hm:s.cells.getD i []∈s.cells:=by
   rw[List.getD_eq_getElem?_getD,ba hi];exact List.getElem_mem hi
  have Υ:=h.cells _ hm
  have μ:(yd l s.cells i).Sublist (s.cells.getD i []):=cι _ _ _ _;exact⟨Nat.le_trans μ.length_le Υ.hi,(μ.map _).nodup Υ.apart,λp ς=>Υ.each p (μ.subset ς)⟩
end Go.TL
namespace Go.TL
open Go.Proofs
abbrev EM (s:aL) (l:List Nat):List Found:=bW (s.sT (l.map λn:Nat=>(n:Int)))
end Go.TL
namespace Go.TL
open Go.Proofs
variable [bj]
theorem cκ {n:Nat} {r:Int×Int}:r∈z4 n↔(-1<=r.1/\r.1<n)/\(-1<=r.2/\r.2<n):=by
 unfold z4 nW lM;simp only[List.mem_flatMap,List.mem_map,List.mem_range];constructor
 ·rintro⟨x,U,y,Φ,rfl⟩;simp only;omega
 ·rintro⟨⟨I,R⟩,ν,Ι⟩;exact⟨(r.1+1).toNat,γ,(r.2+1).toNat,γ,Prod.ext (by simp only;omega) (by simp only;omega)⟩
structure A6 (s:aL) (F:List Found) (lower:Bool) (N:Nat):Prop where
 mA:F.length<2 ^ 20
 cells:∀f∈F,f.cells.length=s.cells.length/\∀c∈f.cells,c.length<2 ^ 20
 some:∀c,c<s.cells.length->gP F c lower≠[]/\(gP F c lower).length<=N
theorem A6.call {s:aL} {F:List Found} {lower:Bool} {N:Nat} (h:A6 s F lower N) (c5:N<2 ^ 20) (fA:xy N) {c:Nat} (ε:c<s.cells.length):Ω Tryz.prog 95 [cj F,J c,bs lower] (cS J 1 (ew F c lower)):=
 Na F c lower h.mA (λf Υ=>⟨by rw[(h.cells f Υ).1];exact ε,(h.cells f Υ).2⟩) N c5 fA (h.some c ε).1 (h.some c ε).2
def rA (s:aL) (F:List Found) (cell:Int) (lower:Bool):List Int×Int:=
 if(fX s cell F).2.2=0 then(ew F cell.toNat lower,0) else([],(fX s cell F).2.2)
theorem JL (s:aL) (μ:s.small) (F:List Found) (e':m' s F) (cell:Int) (lower:Bool) (N:Nat) (c5:N<2 ^ 20) (fA:xy N) (av:(fX s cell F).2.2=0->A6 s F lower N) :
  Ω Tryz.prog 57 [dH s,J cell,bs lower] (.a3 [cS J 1 (rA s F cell lower).1,J (rA s F cell lower).2]):=by
 refine ak.body Ρ Tryz.func57 rfl rfl Tryz.ntmps57 rfl rfl η ?_;refine Β ?_;refine cI ?_;refine cR (A:=[8]) Ρ λΔ ζ=>aV ?_;refine Ω.d (Hs s μ cell F e') (aV ?_);apply ζ;by_cases b:(fX s cell F).2.2=0
 case neg=>
  have e:rA s F cell lower=([],(fX s cell F).2.2):=if_neg b;rw[e];generalize (fX s cell F).2.2=eM at b;refine Β ?_;refine aA (by simp[b]) ?_;refine Β ?_;refine W.drop (h:=0) (Nat.zero_le _) (Nat.zero_le _) η rfl [(6,.sl true 0 []),(7,J eM)] η ?_;refine W.rt ?_;exact .a3 (.cons .nil (.cons (.refl _) .nil))
 have e:rA s F cell lower=(ew F cell.toNat lower,0):=if_pos b;obtain⟨jE,m3,Γ⟩:=Iv b;obtain⟨n,rfl⟩:∃n:Nat,cell=n:=⟨cell.toNat,γ⟩;rw[e,Γ];have υ:=(av b).call c5 fA (c:=n) γ;refine Β ?_;refine ay rfl ?_;refine a5 λΔ ζ=>?_;refine Ω.d (υ) (aV ?_);apply ζ;refine W.drop (h:=0) (Nat.zero_le _) (Nat.zero_le _) η rfl [(6,cS J 1 (ew F n lower)),(7,J 0)] η ?_;refine W.rt ?_;exact .refl _
def ph (s:aL) (F:List Found) (cell:Int) (lower:Bool) (g:Int):Int×Int:=
 if s.err≠0 then(0,s.err) else if cell<0\/(s.cells.length:Int)<=cell\/g< -1\/(s.Τ.length:Int)<=g then(0,3) else if F=[] then(0,9)
 else if ¬(ew F cell.toNat lower).contains g=true then(2,0) else if(ew F cell.toNat lower).length=1 then(1,0) else(3,0)
theorem EN (s:aL) (μ:s.small) (F:List Found) (e':m' s F) (cell:Int) (lower:Bool) (g:Int) (N:Nat) (c5:N<2 ^ 20) (fA:xy N) (av:F≠[]->A6 s F lower N) (cμ:∀c,(ew F c lower).length<2 ^ 40) :
  Ω Tryz.prog 53 [dH s,J cell,bs lower,J g] (.a3 [J (ph s F cell lower g).1,J (ph s F cell lower g).2]):=by
 refine ak.body Ρ Tryz.func53 rfl rfl Tryz.ntmps53 rfl rfl η ?_;refine Β ?_;refine a5 λΔ ζ=>?_;refine Ω.d (p1 s μ) (aV ?_);apply ζ;refine Β ?_;by_cases bZ:s.err=0
 case neg=>
  have e:ph s F cell lower g=(0,s.err):=if_pos bZ;rw[e];generalize s.err=eM at bZ;refine aA (by simp[bZ]) ?_;refine Β ?_;refine W.rt ?_;exact .refl _
 have cW:ph s F cell lower g=_:=if_neg (by simpa using bZ);refine ay (by simp[bZ]) ?_
 repeat apply al
 refine W.r7 (A:=[]) Ρ [(39,bs (decide (cell<0)||decide ((s.cells.length:Int)<=cell)||decide (g< -1)||decide ((s.Τ.length:Int)<=g))),(1,J cell),(2,bs lower),(3,J g),(4,.aa [aS s.Τ,aY s.ai,a7 s.cells])] ?_ (by
  by_cases dh:cell<0
  ·(try simp);(repeat (rw[ae];simp[dh]));(try simp[dh])
  ·by_cases c6:(s.cells.length:Int)<=cell
   ·(try simp);(repeat (rw[ae];simp[dh,c6]));(try simp[dh,c6])
   ·by_cases gj:g< -1
    ·(try simp);(repeat (rw[ae];simp[dh,c6,gj]));(try simp[dh,c6,gj])
    ·(try simp);(repeat (rw[ae];simp[dh,c6,gj]));(try simp[dh,c6,gj]))
 by_cases bK:cell<0\/(s.cells.length:Int)<=cell\/g< -1\/(s.Τ.length:Int)<=g
 ·rw[cW,if_pos bK];refine aA (by simp;omega) ?_;refine Β ?_;refine W.rt ?_;exact .refl _
 rw[cW,if_neg bK];refine ay (by simp;omega) ?_;obtain⟨n,rfl⟩:∃n:Nat,cell=n:=⟨cell.toNat,γ⟩;refine cI ?_;refine cR (A:=[11]) Ρ λΔ ζ=>aV ?_;refine Ω.d (xx s μ true F e') (aV ?_);apply ζ;by_cases z:F=[]
 ·have e:eH s true F=(s,[],9):=by unfold eH;rw[if_neg (by simpa using bZ),if_pos ⟨rfl,z⟩]
  rw[e,if_pos z];refine Β ?_;refine aA η ?_;refine Β ?_;refine W.drop (h:=0) (Nat.zero_le _) (Nat.zero_le _) η rfl [(8,J 0),(9,J 9)] η ?_;refine W.rt ?_;exact .refl _
 have e:eH s true F=(s,F,0):=by unfold eH;rw[if_neg (by simpa using bZ),if_neg (by simp[z])]
 rw[e,if_neg z];have υ:=(av z).call c5 fA (c:=n) γ;have El:=cμ n;rw[Int.toNat_natCast];refine Β ?_;refine ay rfl ?_;refine a5 λΔ ζ=>?_;refine Ω.d (υ) (aV ?_);apply ζ;obtain⟨L,cν⟩:=aO (ew F n lower);rw[<-cν] at El ⊢;refine Β ?_;refine a5 λΔ ζ=>?_;refine Ω.d (Hi L g γ) (aV ?_);apply ζ;by_cases q:L.contains g=true
 ·rw[if_neg (by simpa using q)];refine ay (by simpa using q) ?_;refine Β ?_;by_cases dh:L.length=1
  ·rw[if_pos dh];refine aA (by simp[dh]) ?_;refine Β ?_;refine W.drop (h:=0) (Nat.zero_le _) (Nat.zero_le _) η rfl [(8,J 1),(9,J 0)] η ?_;refine W.rt ?_;exact .refl _
  ·rw[if_neg dh];refine ay (by simp;omega) ?_;refine Β ?_;refine W.drop (h:=0) (Nat.zero_le _) (Nat.zero_le _) η rfl [(8,J 3),(9,J 0)] η ?_;refine W.rt ?_;exact .refl _
 ·rw[if_pos q];refine aA (by simpa using q) ?_;refine Β ?_;refine W.drop (h:=0) (Nat.zero_le _) (Nat.zero_le _) η rfl [(8,J 2),(9,J 0)] η ?_;refine W.rt ?_;exact .refl _
theorem cξ {s:aL} {p:Int×Int}:∀{n:Nat},n<=s.cells.length->0<ik (ha s p).cells (-1) n->∀c,c<n->0<(ji s p c).length:=by
 intro n
 induction n with
 | zero=>intro _ _ c ε;omega
 | succ n ω=>
  intro Ε h c ε;rw[cθ p γ] at h;by_cases e:c=n
  ·subst e;exact Nat.pos_of_mul_pos_left h
  ·exact ω γ (Nat.pos_of_mul_pos_right h) c γ
theorem Qa {s:aL} {f:Found} (Υ:f∈bW s):f.cells.length=s.cells.length/\∀c,c<s.cells.length->∃k,k<3/\f=ha s (gV k)/\f.cells[c]?=some (ji s (gV k) c)/\0<(ji s (gV k) c).length:=by
 obtain⟨k,ψ,hm,rfl⟩:=P9.1 Υ;refine⟨by simp[ha],λc ε=>⟨k,ψ,rfl,by simp[ha,ε],?_⟩⟩;rw[cη] at hm;exact cξ (Nat.le_refl _) hm c ε
theorem cο {s:aL} {p r:Int×Int} {c:Nat} (h:r∈ji s p c):(-1<=r.1/\r.1<s.Τ.length)/\(-1<=r.2/\r.2<s.Τ.length):=cκ.1 (List.mem_filter.1 h).1
theorem cπ {s:aL} {c:Nat} {lower:Bool} {x:Int} (ε:c<s.cells.length):x∈gP (bW s) c lower↔∃f∈bW s,∃r∈(f.cells[c]?).getD [],x=kZ lower r:=by
 unfold gP Dw;constructor
 ·intro h;obtain⟨f,Υ,U⟩:=List.mem_flatMap.1 h;obtain⟨r,ι,rfl⟩:=List.mem_map.1 U;exact⟨f,Υ,r,ι,rfl⟩
 ·rintro⟨f,Υ,r,ι,rfl⟩;exact List.mem_flatMap.2 ⟨f,Υ,List.mem_map.2 ⟨r,ι,rfl⟩⟩
theorem cρ {s:aL} {c:Nat} {lower:Bool} (ε:c<s.cells.length) {x:Int} (h:x∈gP (bW s) c lower):-1<=x/\x<s.Τ.length:=by
 obtain⟨f,Υ,r,ι,rfl⟩:=(cπ ε).1 h;obtain⟨k,_,_,Ο,_⟩:=(Qa Υ).2 c ε;rw[Ο] at ι;have:=cο ι;unfold kZ;cases lower<;>simp<;>omega
theorem cς {α:Type} [DecidableEq α] {x:α}:∀{l:List α} {a:α},x∈mx a l\/x=a↔x∈l\/x=a:=by
 intro l
 induction l with
 | nil=>intro a;simp[mx]
 | cons b l ω=>
  intro a;unfold mx;split
  ·rename_i h;have h:b=a:=by simpa using h
   subst h;rw[ω];simp only[List.mem_cons];exact⟨λh=>h.elim (λh=>.inl (.inr h)) .inr,λh=>h.elim (λh=>h.elim .inr .inl) .inr⟩
  ·have:=ω (a:=b);simp only[List.mem_cons] at this ⊢;constructor
   ·rintro((h|h)|h)
    ·exact .inl (.inl h)
    ·rcases this.1 (.inl h) with h|h
     ·exact .inl (.inr h)
     ·exact .inl (.inl h)
    ·exact .inr h
   ·rintro((h|h)|h)
    ·exact .inl (.inl h)
    ·rcases this.2 (.inl h) with h|h
     ·exact .inl (.inr h)
     ·exact .inl (.inl h)
    ·exact .inr h
theorem cτ {α:Type} [DecidableEq α] {x:α} {l:List α}:x∈dT l↔x∈l:=by
 cases l with
 | nil=>exact Iff.rfl
 | cons a l=>
  show x∈a::mx a l↔_
  have:=cς (x:=x) (l:=l) (a:=a);simp only[List.mem_cons];constructor
  ·rintro(h|h)
   ·exact .inl h
   ·rcases this.1 (.inl h) with h|h
    ·exact .inr h
    ·exact .inl h
  ·rintro(h|h)
   ·exact .inl h
   ·rcases this.2 (.inl h) with h|h
    ·exact .inr h
    ·exact .inl h
theorem cυ:∀{l:List Int} {a:Int},(a::l).Pairwise (·<=·)->(a::mx a l).Pairwise (· < ·):=by
 intro l
 induction l with
 | nil=>intro a _;simp[mx]
 | cons b l ω=>
  intro a h;obtain⟨I,R⟩:=List.pairwise_cons.1 h;have hk:=I b η;unfold mx;split
  ·rename_i q;have q:b=a:=by simpa using q
   subst q;exact ω R
  ·rename_i q;have q:b≠a:=by simpa using q
   have ν:=ω R;refine List.pairwise_cons.2 ⟨λy Φ=>?_,ν⟩;rcases List.mem_cons.1 Φ with rfl|Φ
   ·omega
   ·have:=(List.pairwise_cons.1 ν).1 y Φ;omega
theorem cφ {l:List Int} (h:l.Pairwise (·<=·)):(dT l).Pairwise (· < ·):=by
 cases l with
 | nil=>exact .nil
 | cons a l=>exact cυ h
theorem cχ {n:Nat}:∀{l:List Int} {a:Int},l.Pairwise (· < ·)->(∀x∈l,a<=x/\x<a+n)->l.length<=n:=by
 induction n with
 | zero=>
  intro l a _ h;cases l with
  | nil=>simp
  | cons x l=>have:=h x η;omega
 | succ n ω=>
  intro l a ς h;cases l with
  | nil=>simp
  | cons x l=>
   obtain⟨I,R⟩:=List.pairwise_cons.1 ς;have U:=h x η;have:=ω (a:=a+1) R λy Φ=>by have:=I y Φ;have:=h y (by simp[Φ]);omega
   simp only[List.length_cons];omega
theorem cψ (l:List Int):(mz l).Pairwise (·<=·):=by
 have:=List.pairwise_mergeSort (le:=λx y:Int=>decide (x<=y)) (λa b c I R=>by simp at I R ⊢;omega) (λa b=>by simp;omega) l;exact this.imp λh=>by simpa using h
theorem cω {x:Int} {l:List Int}:x∈mz l↔x∈l:=(List.mergeSort_perm _ _).mem_iff
theorem cΑ {F:List Found} {c:Nat} {lower:Bool} {x:Int}:x∈ew F c lower↔x∈gP F c lower:=by unfold ew;rw[cτ,cω]
theorem cΒ (F:List Found) (c:Nat) (lower:Bool):(ew F c lower).Pairwise (· < ·):=cφ (cψ _)
theorem cΓ {s:aL} {c:Nat} {lower:Bool} (ε:c<s.cells.length) {x:Int} (h:x∈ew (bW s) c lower):-1<=x/\x<s.Τ.length:=cρ ε (cΑ.1 h)
theorem cΔ {s:aL} {c:Nat} {lower:Bool} (ε:c<s.cells.length):(ew (bW s) c lower).length<=s.Τ.length+1:=
 cχ (a:=-1) (cΒ _ _ _) λx h=>by have:=cΓ ε h;omega
theorem cΕ {s:aL} {c:Nat} {lower:Bool} (ε:¬c<s.cells.length):ew (bW s) c lower=[]:=by
 have:gP (bW s) c lower=[]:=by
  refine List.flatMap_eq_nil_iff.2 λf Υ=>?_;unfold Dw;rw[List.getElem?_eq_none (by rw[(Qa Υ).1];omega)];rfl
 unfold ew;rw[this];simp[mz,dT]
end Go.TL
namespace Go.TL
open Go.Proofs
@[simp] theorem hΓ:iy .bool=true:=rfl
theorem cΖ [bj] {s:aL} (h:lV s) (lower:Bool) (c:Nat):(ew (bW s) c lower).length<2 ^ 40:=by
 by_cases ε:c<s.cells.length
 ·have:=cΔ (lower:=lower) ε
  have:=h.Τ.hi;omega
 ·rw[cΕ ε];decide
section
variable [bj]
theorem cp.aa {l m:List θ} (h:b9 l m):cp (.aa l) (.aa m):=λS B σ v x=>by
 cases x with
 | aa b o w I R=>
  have key:∀(j:Nat) (a:θ),m[j]?=some a->∃bP,l[j]?=some bP/\cp bP a:=λj a δ=>by
   have aI:j<l.length:=by rw[h.1];exact(bV.1 δ).1
   exact⟨_,ba aI,h.2 j _ a (ba aI) δ⟩
  refine .aa b o w (λj a δ=>?_) (λj a δ=>?_)
  ·obtain⟨bP,k1,_⟩:=key j a δ;exact I j bP k1
  ·obtain⟨bP,k1,bG⟩:=key j a δ;exact bG S B σ _ (R j bP k1)
theorem Qb (b:Nat) (L:List (List cG)) (j:Nat):(fO b L)[j]?=L[j]?.map λl=>.ms (b+j) l.length 0 l.length:=by
 induction L generalizing b j with
 | nil=>simp[fO]
 | cons l L ω=>
  cases j with
  | zero=>simp[fO]
  | succ j=>simp only[fO,List.getElem?_cons_succ];rw[ω,show b+1+j=b+(j+1) by omega]
theorem cΗ (b:Nat) (L:List (List cG)) (c:Nat) (x:List cG):fO b (L.set c x)=(fO b L).set c (.ms (b+c) x.length 0 x.length):=by
 induction L generalizing b c with
 | nil=>simp[fO]
 | cons l L ω=>
  cases c with
  | zero=>simp[fO]
  | succ c=>simp only[fO,List.set_cons_succ];rw[ω,show b+1+c=b+(c+1) by omega]
theorem cΘ (L:List (List cG)) (c:Nat) (x:List cG):gE (L.set c x)=(gE L).set c (.cells 28 3 (x.map cA)):=by
 unfold gE;rw[List.map_set]
theorem Qc (L:List (List cG)) (c:Nat):(gE L)[c]?=L[c]?.map λl=>.cells 28 3 (l.map cA):=by unfold gE;rw[List.getElem?_map]
theorem ym (L:List (List cG)):(gE L).length=L.length:=by unfold gE;rw[List.length_map]
theorem cΙ {h b id:Nat} {σ:List Row} {L:List (List cG)} (hb:h<=b) (b7:h<=id) (ι:∀(j:Nat) (l:List cG),L[j]?=some l->σ[b+j]?=some (.cells 28 3 (l.map cA))) (bN:σ[id]?=some (.cells 60 1 (fO b L))):eE h σ (.ms id L.length 0 L.length) (a7 L):=by
 have key:∀(j:Nat) (e aH:θ),(fO b L)[0+j]?=some e->(L.map h0)[j]?=some aH->∃l:List cG,L[j]?=some l/\e=.ms (b+j) l.length 0 l.length/\aH=h0 l:=λj e aH I R=>by
  rw[Nat.zero_add,Qb] at I;rw[List.getElem?_map] at R;cases υ:L[j]? with
  | none=>rw[υ] at I;cases I
  | some l=>rw[υ] at I R;cases I;cases R;exact⟨l,rfl,rfl,rfl⟩
 refine .ms b7 bN (x8 b L) (by rw[Nat.zero_add];exact Nat.le_refl _) η (λj e aH I R=>?_) (λj e aH I R x a bP ν Ι=>?_)
 ·obtain⟨l,_,rfl,rfl⟩:=key j e aH I R;rfl
 ·obtain⟨l,υ,rfl,rfl⟩:=key j e aH I R
  match x with
  | 0=>
   simp[θ.cells] at ν Ι;subst ν;subst Ι;refine eE.own γ (ι j l υ) η (λe he a κ=>?_);obtain⟨p,_,rfl⟩:=List.mem_map.1 he;simp[θ.cells] at κ;rcases κ with rfl|rfl|rfl<;>simp
  | x+1=>simp[θ.cells] at ν
end
end Go.TL
namespace Go.TL
open Go.Proofs
variable [bj]
theorem cΚ (l:List Int) (υ:l.length<2 ^ 30):Ω Tryz.prog 85 [cS J 1 l] (cS J 1 l):=by
 refine ak.body Ρ Tryz.func85 rfl rfl Tryz.ntmps85 rfl rfl η ?_;have hL:l.length<=4294967295:=γ;have vG:l.length<=4294967296:=γ;by_cases Μ:l=[]
 ·subst Μ;refine Β ?_;refine a5 λΔ ζ=>?_;intro j δ;apply ζ;by_cases nL:j=1
  ·refine aA (by simp[nL]) ?_;refine Β ?_;refine W.rt ?_;exact .nil
  ·refine ay (by simp[nL]) ?_;refine Β ?_;refine W.rt ?_
   first|exact .refl _|exact .ex
 ·refine Β ?_;refine iE Μ λΔ ζ=>?_;apply ζ;refine ay rfl ?_;refine aT (Ζ hL (Ζ Μ vG)) ?_;refine W.rt ?_
  first|exact .refl _|exact .ex
theorem cΜ (l:List kA) (υ:l.length<2 ^ 30):Ω Tryz.prog 154 [aS l] (aS l):=by
 refine ak.body Ρ Tryz.func154 rfl rfl Tryz.ntmps154 rfl rfl η ?_;have hL:l.length<=4294967295:=γ;have vG:l.length<=4294967296:=γ;by_cases Μ:l=[]
 ·subst Μ;refine Β ?_;refine a5 λΔ ζ=>?_;intro j δ;apply ζ;by_cases nL:j=1
  ·refine aA (by simp[nL]) ?_;refine Β ?_;refine W.rt ?_;exact .nil
  ·refine ay (by simp[nL]) ?_;refine Β ?_;refine W.rt ?_
   first|exact .refl _|exact .ex
 ·refine Β ?_;refine iE Μ λΔ ζ=>?_;apply ζ;refine ay rfl ?_;refine aT (Ζ hL (Ζ Μ vG)) ?_;refine W.rt ?_
  first|exact .refl _|exact .ex
theorem cΝ (l:List cG) (υ:l.length<2 ^ 30) (σ:List Row):ak Tryz.prog 155 [h0 l] σ (λa s=>a=.ms σ.length l.length 0 l.length/\s=σ++[.cells 28 3 (l.map cA)]) (λ_ _=>False):=by
 refine ak.body Ρ Tryz.func155 rfl rfl Tryz.ntmps155 rfl rfl η ?_;have hL:l.length<=4294967295:=γ;have vG:l.length<=4294967296:=γ;have nK:List.take l.length (l.map cA)=l.map cA:=List.take_of_length_le η;by_cases Μ:l=[]
 ·subst Μ;refine Β ?_;refine a5 λΔ ζ=>?_;intro j δ;apply ζ;by_cases nL:j=1
  ·refine aA (by simp[nL]) ?_;refine Β ?_;refine W.pad (σ':=σ) 28 3 rfl (λj r h=>⟨r,h,.inl rfl⟩) [(2,.ms σ.length 0 0 0)] (λp ς=>by simp at ς;subst ς;exact .nil) ?_;exact W.ret ⟨_,rfl,rfl,rfl⟩
  ·refine ay (by simp[nL]) ?_
   repeat apply al
   refine cR (A:=[7]) Ρ λΔ ζ=>aV ?_;apply ζ;exact W.ret ⟨_,rfl,rfl,rfl⟩
 ·refine Β ?_;refine iE Μ λΔ ζ=>?_;apply ζ;refine ay rfl ?_
  repeat apply al
  refine cR (A:=[7]) Ρ λΔ ζ=>fV (Ζ hL (Ζ Μ (Ζ nK vG))) ?_;apply ζ;exact W.ret ⟨_,rfl,rfl,rfl⟩
theorem cΞ (l:List cG) (υ:l.length<2 ^ 30) (σ:List Row):hV Tryz.prog (.fn (.func 155) [] []) [h0 l] σ (λa s=>a=.ms σ.length l.length 0 l.length/\s=σ++[.cells 28 3 (l.map cA)]) (λ_ _=>False):=
 ak.call (first:=[]) (captured:=[]) (cΝ l υ σ)
theorem n7.JM {id:Nat} {a c:θ}:n7 id (ft a (.sl true 0 []) c) (ft a (.ms id 0 0 0) c):=by
 refine .inr ⟨26,3,_,_,rfl,rfl,rfl,λi e aH I R=>?_⟩
 match i with
 | 0=>
  simp at I R;subst I;subst R;refine⟨rfl,λx a bP ν Ι=>?_⟩
  match x with
  | 0=>simp[θ.cells] at ν Ι;subst ν;subst Ι;exact .same _
  | 1=>simp[θ.cells] at ν Ι;subst ν;subst Ι;exact .nil
  | 2=>simp[θ.cells] at ν Ι;subst ν;subst Ι;exact .same _
  | x+3=>simp[θ.cells] at ν
 | i+1=>simp at I
theorem n7.yk {id:Nat} {a b:θ}:n7 id (ft a b (.sl true 0 [])) (ft a b (.ms id 0 0 0)):=by
 refine .inr ⟨26,3,_,_,rfl,rfl,rfl,λi e aH I R=>?_⟩
 match i with
 | 0=>
  simp at I R;subst I;subst R;refine⟨rfl,λx a bP ν Ι=>?_⟩
  match x with
  | 0=>simp[θ.cells] at ν Ι;subst ν;subst Ι;exact .same _
  | 1=>simp[θ.cells] at ν Ι;subst ν;subst Ι;exact .same _
  | 2=>simp[θ.cells] at ν Ι;subst ν;subst Ι;exact .nil
  | x+3=>simp[θ.cells] at ν
 | i+1=>simp at I
theorem x5.JM {id k m:Nat} {l:List θ} {a c:θ} (hm:m=l.length):x5 id k l (ft a (.ms id m 0 m) c) (ft a (.sl false k l) c):=by
 subst hm;refine .inr ⟨26,3,_,_,rfl,rfl,rfl,λi e aH I R=>?_⟩
 match i with
 | 0=>
  simp at I R;subst I;subst R;refine⟨rfl,λx a bP ν Ι=>?_⟩
  match x with
  | 0=>simp[θ.cells] at ν Ι;subst ν;subst Ι;exact .same _
  | 1=>simp[θ.cells] at ν Ι;subst ν;subst Ι;exact .ms
  | 2=>simp[θ.cells] at ν Ι;subst ν;subst Ι;exact .same _
  | x+3=>simp[θ.cells] at ν
 | i+1=>simp at I
theorem cΟ (s:aL) (h:s.small) (σ:List Row):ak Tryz.prog 123 [dH s] σ (λa r=>a=.a6 [aS s.Τ,aY s.ai,.ms (σ.length+3) s.cells.length 0 s.cells.length]/\r=σ++(.dead::.dead::.dead::.cells 60 1 (fO (σ.length+4) s.cells)::gE s.cells)) (λ_ _=>False):=by
 obtain⟨I,R,ν,Ι,aB⟩:=h;obtain⟨n,Ε⟩:=aO σ.length;have Ο:=Jd σ;have iP:=Pq σ;have μ:=Je σ;have gu:=Pr σ;rw[<-Ε] at Ο iP μ gu ⊢;refine ak.body Ρ Tryz.func123 rfl rfl Tryz.ntmps123 rfl rfl η ?_
 repeat apply al
 refine cR (A:=[2]) Ρ λΔ ζ=>?_;simp;(repeat (rw[ae];simp[Ε.symm]));apply ζ;refine W.to (σ':=σ++[ft (.sl true 0 []) (.sl true 0 []) (.sl true 0 [])]) (env':=[(1,.aa [aS s.Τ,aY s.ai,a7 s.cells]),(2,.an n 1 0 0)]) ?_ η η;(repeat apply al);refine cR (A:=[3]) Ρ λΔ ζ=>?_;simp;(repeat (rw[ae];simp[Ε.symm]));refine Ω.c (cΜ s.Τ γ) (b9.refl _) η η ?_;simp[Ε.symm];(repeat (rw[ae];simp[Ε.symm]));apply ζ;refine W.to (σ':=σ++[ft (.sl true 0 []) (.sl true 0 []) (.sl true 0 []),ft (aS s.Τ) (.sl true 0 []) (.sl true 0 [])]) (env':=[(1,.aa [aS s.Τ,aY s.ai,a7 s.cells]),(2,.an n 1 0 0),(3,.an (n+1) 1 0 0)]) ?_ η η;refine W.Pj 29 1 (i:=n+1) (r:=ft (aS s.Τ) (.sl true 0 []) (.sl true 0 [])) (r':=ft (aS s.Τ) (.ms (n+2) 0 0 0) (.sl true 0 [])) (by rw[Ο];rfl) (by refine(congrArg (λk=>n7 k _ _) (?_:_=n+2)).mpr n7.JM;simp[<-Ε]) [(1,.aa [aS s.Τ,aY s.ai,a7 s.cells]),(2,.an n 1 0 0),(3,.an (n+1) 1 0 0)] (λp ς=>by
  simp only[List.mem_cons,List.not_mem_nil,or_false] at ς;rcases ς with rfl|rfl|rfl<;>exact .same _) ?_
 rw[μ,List.append_assoc];refine W.Pj 60 1 (i:=n+1) (r:=ft (aS s.Τ) (.ms (n+2) 0 0 0) (.sl true 0 [])) (r':=ft (aS s.Τ) (.ms (n+2) 0 0 0) (.ms (n+3) 0 0 0)) (by rw[Ο];rfl) (by refine(congrArg (λk=>n7 k _ _) (?_:_=n+3)).mpr n7.yk;simp[<-Ε]) [(1,.aa [aS s.Τ,aY s.ai,a7 s.cells]),(2,.an n 1 0 0),(3,.an (n+1) 1 0 0)] (λp ς=>by
  simp only[List.mem_cons,List.not_mem_nil,or_false] at ς;rcases ς with rfl|rfl|rfl<;>exact .same _) ?_
 rw[μ,List.append_assoc];obtain⟨ug,iq⟩:=aO (ft (.sl true 0 []) (.sl true 0 []) (.sl true 0 []));refine W.to (σ':=σ++[ug,ft (aS s.Τ) (.ms (n+2) 0 0 0) (.ms (n+3) 0 0 0),.cells 29 1 [],.cells 60 1 []]) (env':=[(1,.aa [aS s.Τ,aY s.ai,a7 s.cells]),(2,.an n 1 0 0),(3,.an (n+1) 1 0 0)]) ?_ (by rw[iq];rfl) η;refine Β ?_;refine W.iter (λi:Nat=>i<=s.ai.length) (λi=>[(1,.aa [aS s.Τ,aY s.ai,a7 s.cells]),(2,.an n 1 0 0),(3,.an (n+1) 1 0 0),(13,aY s.ai),(14,J s.ai.length),(15,J i)])
  (λi=>σ++[ug,ft (aS s.Τ) (.ms (n+2) i 0 i) (.ms (n+3) 0 0 0),.cells 29 1 ((s.ai.take i).map (cS J 1)),.cells 60 1 []]) (λi=>s.ai.length-i) 0 (Nat.zero_le _) η η (λi hi ω=>?_)
 obtain⟨nl,kW⟩:=aO s.ai.length;rw[<-kW] at hi;by_cases ε:i<nl
 ·have uh:(i:Int)<(nl:Int):=by omega
  have bA:=ba (kW▸ε)
  have ih:s.ai[i].length<2 ^ 30:=by have:=Ι _ (List.getElem_mem (kW▸ε));omega
  have dr:s.ai.take (i+1)=s.ai.take i++[s.ai[i]]:=List.take_succ_eq_append_getElem (kW▸ε)
  have ja:=jW (i:=i) γ;obtain⟨l,υ⟩:=aO (s.ai[i]);have pQ:∀h,s.ai[i]'h=l:=λh=>υ.symm;rw[<-υ] at dr bA ih;have EO:((s.ai.take i).map (cS J 1)).length=i:=by rw[List.length_map,List.length_take];omega
  have ω:=ω (i+1) γ γ;rw[dr,List.map_append,List.map_cons,List.map_nil] at ω;obtain⟨hΔ,Qd⟩:=aO ((s.ai.take i).map (cS J 1));rw[<-Qd] at EO ω ⊢;rw[<-kW] at ω ⊢;clear Qd dr υ;(repeat (first|apply al|(refine cM λΔ ζ=>?_;simp;(repeat (rw[ae];simp[kW.symm,uh]));apply ζ)));refine aA η ?_;(repeat (first|apply al|(refine cM λΔ ζ=>?_;simp;(repeat (rw[ae];simp[kW.symm,bA,pQ,ε]));apply ζ)))
  repeat apply al
  refine W.draw (A:=[24]) Ρ mixed λΔ ζ=>?_;simp[Ε.symm,Ο,μ];(repeat (rw[dZ];simp[Ε.symm,Ο,μ,EO]));try rw[dY]
  refine eS (Ω.p (cΚ l ih) (b9.refl _) η η) ?_;simp[Ε.symm,Ο,μ,EO];(repeat (rw[dZ];simp[Ε.symm,Ο,μ,EO]));try rw[dY]
  first|refine⟨γ,oQ (by kernel_rfl),ζ _ _ ?_⟩|refine⟨oQ (by kernel_rfl),ζ _ _ ?_⟩
  clear ζ Δ;refine aT ja ?_;refine W.to ω ?_ (by simp[ja]);simp
 ·have uh:¬(i:Int)<(nl:Int):=by omega
  (repeat (first|apply al|(refine cM λΔ ζ=>?_;simp;(repeat (rw[ae];simp[kW.symm,uh]));apply ζ)));refine ay η ?_;refine W.exit rfl ?_;have a4:i=nl:=γ;subst a4;rw[List.take_of_length_le (show(s.ai.map (cS J 1)).length<=i by rw[List.length_map];omega)];refine W.x6 (σ':=σ++[ug,ft (aS s.Τ) (aY s.ai) (.ms (n+3) 0 0 0),.dead,.cells 60 1 []]) (id:=n+2) γ (by rw[Ο];rfl) η (by rw[Ο];rfl) (λj r δ ι=>?_) [(1,.aa [aS s.Τ,aY s.ai,a7 s.cells]),(2,.an n 1 0 0),(3,.an (n+1) 1 0 0)] (λp ς=>by
   simp only[List.mem_cons,List.not_mem_nil,or_false] at ς;rcases ς with rfl|rfl|rfl<;>exact .same _) ?_
  ·by_cases e:j<n
   ·rw[dv γ] at ι;exact⟨r,by rw[dv γ];exact ι,.inl rfl⟩
   ·obtain⟨k,rfl⟩:∃k,j=n+k:=⟨j-n,γ⟩;rw[Ο] at ι ⊢
    match k,δ,ι with
    | 0,_,ι=>exact⟨r,ι,.inl rfl⟩
    | 1,_,ι=>
     simp at ι;subst ι;exact⟨_,rfl,.JM (by simp[<-kW])⟩
    | 2,h,_=>exact absurd rfl h
    | 3,_,ι=>exact⟨r,ι,.inl rfl⟩
    | k+4,_,ι=>simp at ι
  clear ω ε uh;refine Β ?_;refine W.iter (λi:Nat=>i<=s.cells.length) (λi=>[(1,.aa [aS s.Τ,aY s.ai,a7 s.cells]),(2,.an n 1 0 0),(3,.an (n+1) 1 0 0),(28,a7 s.cells),(29,J s.cells.length),(30,J i)])
   (λi=>σ++(ug::ft (aS s.Τ) (aY s.ai) (.ms (n+3) i 0 i)::.dead::.cells 60 1 (fO (n+4) (s.cells.take i))::gE (s.cells.take i))) (λi=>s.cells.length-i) 0 (Nat.zero_le _) (by simp[fO,gE]) η (λi hi ω=>?_)
  obtain⟨fu,gx⟩:=aO s.cells.length;rw[<-gx] at ν;have hi:i<=fu:=by rw[gx];exact hi
  by_cases ε:i<fu
  ·have uh:(i:Int)<(fu:Int):=by omega
   have bA:=ba (gx▸ε)
   have ih:s.cells[i].length<2 ^ 30:=aB _ (List.getElem_mem (gx▸ε))
   have dr:s.cells.take (i+1)=s.cells.take i++[s.cells[i]]:=List.take_succ_eq_append_getElem (gx▸ε)
   have ja:=jW (i:=i) γ;obtain⟨l,υ⟩:=aO (s.cells[i]);have pQ:∀h,s.cells[i]'h=l:=λh=>υ.symm;rw[<-υ] at dr bA ih;have A7:(fO (n+4) (s.cells.take i)).length=i:=by rw[x8,List.length_take];omega
   have sy:(gE (s.cells.take i)).length=i:=by unfold gE;rw[List.length_map,List.length_take];omega
   have EP:=aθ (n+4) (s.cells.take i) l
   have yR:gE (s.cells.take i++[l])=gE (s.cells.take i)++[.cells 28 3 (l.map cA)]:=by simp[gE]
   have GF:(s.cells.take i).length=i:=by rw[List.length_take];omega
   rw[GF] at EP;rw[<-dr] at EP yR;have ω:=ω (i+1) γ γ;rw[EP,yR] at ω;obtain⟨M,cd⟩:=aO (fO (n+4) (s.cells.take i));obtain⟨aj,bm⟩:=aO (gE (s.cells.take i));rw[<-cd] at A7 ω ⊢;rw[<-bm] at sy ω ⊢;rw[<-gx] at ω ⊢;clear cd bm EP yR dr υ;have vx:∀a b c d:Row,(σ++(a::b::c::d::aj)).length=n+4+i:=λa b c d=>by simp[<-Ε,sy];omega
   (repeat (first|apply al|(refine cM λΔ ζ=>?_;simp;(repeat (rw[ae];simp[gx.symm,uh]));apply ζ)));refine aA η ?_;(repeat (first|apply al|(refine cM λΔ ζ=>?_;simp;(repeat (rw[ae];simp[gx.symm,bA,pQ,ε]));apply ζ)))
   repeat apply al
   refine W.Pp [0,1] [3,4] [n+1] (A:=[39]) Ρ mixed λΔ ζ=>?_;simp[Ε.symm,Ο,iP,μ,gu,A7,sy]
   repeat (rw[Jb];simp[Ja,seen,pe,Ε.symm,Ο,iP,μ,gu,A7,sy])
   refine U5 (cΞ l ih _) ?_;simp[seen,Ε.symm,Ο,iP,μ,gu,A7,sy]
   repeat (rw[Jb];simp[Ja,seen,pe,Ε.symm,Ο,iP,μ,gu,A7,sy])
   try rw[Pk]
   first|refine⟨γ,C' (by kernel_rfl),ζ _ _ ?_⟩|refine⟨C' (by kernel_rfl),ζ _ _ ?_⟩
   clear ζ Δ;refine aT ja ?_;refine W.to ω ?_ (by simp[ja]);simp;omega
  ·have uh:¬(i:Int)<(fu:Int):=by omega
   (repeat (first|apply al|(refine cM λΔ ζ=>?_;simp;(repeat (rw[ae];simp[gx.symm,uh]));apply ζ)));refine ay η ?_;refine W.exit rfl ?_;have a4:i=fu:=γ;subst a4;rw[List.take_of_length_le (show s.cells.length<=i by omega)];obtain⟨M,cd⟩:=aO (fO (n+4) s.cells);obtain⟨aj,bm⟩:=aO (gE s.cells);have v7:M.length<=s.cells.length:=by rw[cd,x8];exact Nat.le_refl _
   rw[<-gx] at v7;rw[<-cd,<-bm,<-gx];rw[iq]
   repeat apply al
   refine W.g8 (A:=[]) Ρ [(2,.an n 1 0 0)] (σ++(ft (aS s.Τ) (aY s.ai) (.ms (n+3) i 0 i)::ft (aS s.Τ) (aY s.ai) (.ms (n+3) i 0 i)::.dead::.cells 60 1 M::aj)) ?_ (by
    (try simp);(repeat (rw[ae];simp[Ε.symm,Ο,iP,μ,gu,v7]));(try simp[Ε.symm,Ο,iP,μ,gu,v7]))
   refine W.x6 (σ':=σ++(ft (aS s.Τ) (aY s.ai) (.ms (n+3) i 0 i)::.dead::.dead::.cells 60 1 M::aj)) (id:=n+1) γ (by rw[Ο];rfl) η (by rw[Ο];rfl) (λj r δ ι=>⟨r,?_,.inl rfl⟩) [(2,.an n 1 0 0)] (λp ς=>by simp at ς;subst ς;exact .same _) ?_
   ·by_cases e:j<n
    ·rw[dv γ] at ι ⊢;exact ι
    ·obtain⟨k,rfl⟩:∃k,j=n+k:=⟨j-n,γ⟩;rw[Ο] at ι ⊢
     match k,δ,ι with
     | 0,_,ι=>exact ι
     | 1,h,_=>exact absurd rfl h
     | k+2,_,ι=>exact ι
   refine W.x6 (σ':=σ++(.dead::.dead::.dead::.cells 60 1 M::aj)) (id:=n) γ (by rw[iP];rfl) η (by rw[iP];rfl) (λj r δ ι=>⟨r,?_,.inl rfl⟩) [(2,.aa [aS s.Τ,aY s.ai,.ms (n+3) i 0 i])] (λp ς=>by simp at ς;subst ς;exact .an (e:=.a6 [aS s.Τ,aY s.ai,.ms (n+3) i 0 i]) rfl) ?_
   ·by_cases e:j<n
    ·rw[dv γ] at ι ⊢;exact ι
    ·obtain⟨k,rfl⟩:∃k,j=n+k:=⟨j-n,γ⟩;rw[Ο] at ι ⊢
     match k,δ,ι with
     | 0,h,_=>exact absurd rfl h
     | k+1,_,ι=>exact ι
   exact W.ret ⟨_,rfl,rfl,rfl⟩
theorem cΡ (s:aL) (h:s.small) {σ:List Row} {K E:θ->List Row->Prop} {Qe:θ} (he:cp Qe (dH s)) (ζ:K (.a6 [aS s.Τ,aY s.ai,.ms (σ.length+3) s.cells.length 0 s.cells.length]) (σ++(.dead::.dead::.dead::.cells 60 1 (fO (σ.length+4) s.cells)::gE s.cells))) :
  hV Tryz.prog (.fn (.func 123) [] []) [Qe] σ K E:=
 ak.call (first:=[]) (captured:=[]) (ak.mono (ak.oS (cΟ s h σ) (b9.cons he .nil) (K':=λa r=>a=.a6 [aS s.Τ,aY s.ai,.ms (σ.length+3) s.cells.length 0 s.cells.length]/\r=σ++(.dead::.dead::.dead::.cells 60 1 (fO (σ.length+4) s.cells)::gE s.cells)) (λa s h=>⟨_,.refl _,h⟩)) (λa r ⟨Γ,Θ⟩=>by rw[Γ,Θ];exact ζ) (λa s h=>h.elim))
def aL.more (s:aL) (c:Nat) (p:cG):aL:=⟨s.Τ,s.ai,s.cells.set c ((s.cells[c]?).getD []++[p])⟩
def ob (s:aL) (cell:Int) (p:cG) (F ni:List Found):aL×Int:=
 if s.err≠0 then(jh,s.err)
 else if cell<0\/(s.cells.length:Int)<=cell then(jh,3)
 else if((s.cells[cell.toNat]?).getD []).length=4 then(jh,6)
 else if gz s ((s.cells[cell.toNat]?).getD []) p≠0 then(jh,gz s ((s.cells[cell.toNat]?).getD []) p)
 else if F≠[]/\ni=[] then(jh,9) else(s.more cell.toNat p,0)
theorem Qf (s:aL) (μ:s.small) (cell:Int) (p:cG) (F ni:List Found) (e':m' s F) (AA:F.length<2 ^ 20) (hΕ:ni.length<2 ^ 20)
  (A8:s.err=0->0<=cell->cell<s.cells.length->((s.cells[cell.toNat]?).getD []).length≠4->gz s ((s.cells[cell.toNat]?).getD []) p=0->Ω Tryz.prog 116 [dH (s.more cell.toNat p)] (cj ni)) :
  Ω Tryz.prog 69 [dH s,J cell,cA p] (.a3 [dH (ob s cell p F ni).1,J (ob s cell p F ni).2]):=by
 refine ak.body Ρ Tryz.func69 rfl rfl Tryz.ntmps69 rfl rfl η ?_
 repeat apply al
 refine cR (A:=[6]) Ρ λΔ ζ=>aV ?_;apply ζ;refine a5 λΔ ζ=>?_;refine Ω.d (p1 s μ) (aV ?_);apply ζ;refine Β ?_;by_cases bZ:s.err=0
 case neg=>
  have e:ob s cell p F ni=(jh,s.err):=by unfold ob;rw[if_pos bZ]
  rw[e];refine aA (by simp[bZ]) ?_;refine Β ?_;refine W.fix (id:=0) (σ':=[]) (Nat.zero_le _) rfl η η rfl [(6,.aa [.sl true 0 [],.sl true 0 [],.sl true 0 []]),(7,J s.err)] η ?_;refine W.rt ?_;exact .a3 (.cons sw (.cons (.refl _) .nil))
 refine ay (by simp[bZ]) ?_;obtain⟨fu,gx⟩:=aO s.cells.length;have kW:fu<2 ^ 30:=by rw[gx];exact μ.2.2.1
 have out:∀(q:cell<0\/(fu:Int)<=cell),ob s cell p F ni=(jh,3):=λq=>by unfold ob;rw[if_neg (by simpa using bZ),if_pos (by rw[<-gx];exact q)]
 by_cases dQ:cell<0
 ·rw[out (.inl dQ)];(repeat (first|apply al|(refine cM λΔ ζ=>?_;simp;(repeat (rw[ae];simp[gx.symm,dQ]));apply ζ)));refine aA η ?_;refine Β ?_;refine W.fix (id:=0) (σ':=[]) (Nat.zero_le _) rfl η η rfl [(6,.aa [.sl true 0 [],.sl true 0 [],.sl true 0 []]),(7,J 3)] η ?_;refine W.rt ?_;exact .a3 (.cons sw (.cons (.refl _) .nil))
 by_cases c1:(fu:Int)<=cell
 ·rw[out (.inr c1)];(repeat (first|apply al|(refine cM λΔ ζ=>?_;simp;(repeat (rw[ae];simp[gx.symm,dQ,c1]));apply ζ)));refine aA η ?_;refine Β ?_;refine W.fix (id:=0) (σ':=[]) (Nat.zero_le _) rfl η η rfl [(6,.aa [.sl true 0 [],.sl true 0 [],.sl true 0 []]),(7,J 3)] η ?_;refine W.rt ?_;exact .a3 (.cons sw (.cons (.refl _) .nil))
 obtain⟨c,rfl⟩:∃c:Nat,cell=c:=⟨cell.toNat,γ⟩;have ε:c<fu:=γ;have ig:c<s.cells.length:=γ;have bA:=ba ig;have nE:s.cells[c].length<2 ^ 30:=μ.2.2.2.2 _ (List.getElem_mem ig);obtain⟨x,U⟩:=aO (s.cells[c]);have pQ:∀h,s.cells[c]'h=x:=λh=>U.symm;rw[<-U] at bA nE;have hW:ob s c p F ni=if x.length=4 then(jh,6) else if gz s x p≠0 then(jh,gz s x p) else if F≠[]/\ni=[] then(jh,9) else(s.more c p,0):=by
  unfold ob;rw[if_neg (by simpa using bZ),if_neg γ];simp only[Int.toNat_natCast,bA,Option.getD_some]
 simp only[Int.toNat_natCast,bA,Option.getD_some] at A8;(repeat (first|apply al|(refine cM λΔ ζ=>?_;simp;(repeat (rw[ae];simp[gx.symm,dQ,c1]));apply ζ)));refine ay η ?_;(repeat (first|apply al|(refine cM λΔ ζ=>?_;simp;(repeat (rw[ae];simp[gx.symm,bA,pQ,ε]));apply ζ)));by_cases x4:x.length=4
 ·rw[hW,if_pos x4];refine aA (by simp[x4]) ?_;refine Β ?_;refine W.fix (id:=0) (σ':=[]) (Nat.zero_le _) rfl η η rfl [(6,.aa [.sl true 0 [],.sl true 0 [],.sl true 0 []]),(7,J 6)] η ?_;refine W.rt ?_;exact .a3 (.cons sw (.cons (.refl _) .nil))
 rw[if_neg x4] at hW;refine ay (by simp;omega) ?_;refine Β ?_;refine W.draw (A:=[]) Ρ mixed λΔ ζ=>?_;simp;(repeat (rw[dZ];simp[gx.symm,bA,pQ,ε]));try rw[dY]
 refine eS (Ω.q (M0 s x γ p)) (hZ ?_);refine fC (ζ _ _ ?_);refine Β ?_;by_cases eQ:gz s x p=0
 case neg=>
  rw[hW,if_pos eQ];refine aA (by simp[eQ]) ?_;refine Β ?_;refine W.fix (id:=0) (σ':=[]) (Nat.zero_le _) rfl η η rfl [(6,.aa [.sl true 0 [],.sl true 0 [],.sl true 0 []]),(7,J (gz s x p))] η ?_;refine W.rt ?_;exact .a3 (.cons sw (.cons (.refl _) .nil))
 rw[if_neg (by simpa using eQ)] at hW;refine ay (by simp[eQ]) ?_;have A8:=A8 bZ γ γ x4 eQ;refine cI ?_;refine cR (A:=[10]) Ρ λΔ ζ=>aV ?_;refine cΡ s μ (.refl _) ?_;simp[x8,ym]
 repeat (rw[ae];simp[x8,ym])
 try rw[q3]
 apply ζ;obtain⟨ug,iq⟩:=aO (ft (.sl true 0 []) (.sl true 0 []) (.sl true 0 []));obtain⟨Y,kD⟩:=aO (ft (aS s.Τ) (aY s.ai) (.ms 4 fu 0 fu));obtain⟨JN,JO⟩:=aO ([aS s.Τ,aY s.ai,a7 s.cells]);refine W.to (σ':=ug::.dead::.dead::.dead::.cells 60 1 (fO 5 s.cells)::(gE s.cells++[Y])) (env':=[(1,J c),(3,.aa JN),(5,.aa [J p.c8,J p.seen,J p.bare]),(6,.an 0 1 0 0),(7,J 0),(10,.an (fu+5) 1 0 0)]) ?_ (by rw[kD,iq];simp[gx]) (by simp[gx,JO,ym]);have Qg:(fO 5 s.cells).length=fu:=by rw[x8,gx]
 have JP:(gE s.cells).length=fu:=by rw[ym,gx]
 have yf:∀(aj:List Row) (y:Row),aj.length=fu->(aj++[y])[fu]?=some y:=λaj y h=>by rw[<-h];simp
 have A9:(fO 5 s.cells)[c]?=some (.ms (c+5) x.length 0 x.length):=by rw[Qb,bA,Nat.add_comm];rfl
 have JQ:(gE s.cells++[Y])[c]?=some (.cells 28 3 (x.map cA)):=by rw[dv γ,Qc,bA];rfl
 obtain⟨L,av⟩:=aO (s.cells.set c (x++[p]));have vy:L.length=fu:=by rw[av,List.length_set,gx]
 have wN:(fO 5 s.cells).set c (.ms (c+5) (x.length+1) 0 (x.length+1))=fO 5 L:=by rw[av,cΗ,Nat.add_comm 5 c,List.length_append];rfl
 have JR:(gE s.cells).set c (.cells 28 3 (x.map cA++[cA p]))=gE L:=by rw[av,cΘ,List.map_append];rfl
 have Qh:[aS s.Τ,aY s.ai,a7 L]=[aS (s.more c p).Τ,aY (s.more c p).ai,a7 (s.more c p).cells]:=by unfold aL.more;rw[bA,av];rfl
 obtain⟨M,cd⟩:=aO (fO 5 s.cells);obtain⟨aj,bm⟩:=aO (gE s.cells);rw[<-cd] at Qg A9 wN ⊢;rw[<-bm] at JP JQ JR ⊢;clear cd bm;have Qi:∀z,(aj++[Y]).set c z=aj.set c z++[Y]:=λz=>List.set_append_left _ _ γ;have Qj:∀z,(aj.set c z++[Y])[c]?=some z:=λz=>by rw[dv (by rw[List.length_set];omega),List.getElem?_set_self γ]
 have JS:(aj++[Y])[fu]?=some (ft (aS s.Τ) (aY s.ai) (.ms 4 fu 0 fu)):=by rw[yf _ _ JP,kD]
 have Qk:∀z,(aj.set c z++[Y])[fu]?=some (ft (aS s.Τ) (aY s.ai) (.ms 4 fu 0 fu)):=λz=>by rw[yf _ _ (by simpa using JP),kD]
 have Ql:∀h,M[c]'h=.ms (c+5) x.length 0 x.length:=λh=>by rw[ba h] at A9;exact Option.some.inj A9
 repeat apply al
 refine W.Pp [0,1,3,4,6,7] [10] [4,fu+5] (A:=[61]) Ρ mixed λΔ ζ=>?_;simp[JS]
 repeat (rw[Jb];simp[Ja,seen,pe,JS,Qk,Qg,A9,Ql,JQ,Qi,Qj,ε])
 try rw[Pk]
 refine⟨γ,C' (by kernel_rfl),ζ _ _ ?_⟩;refine W.to (σ':=ug::.dead::.dead::.dead::.cells 60 1 (fO 5 L)::(gE L++[Y])) (env':=[(1,J c),(3,.aa JN),(5,.aa [J p.c8,J p.seen,J p.bare]),(6,.an 0 1 0 0),(7,J 0),(10,.an (fu+5) 1 0 0)]) ?_ (by rw[<-wN,<-JR];try simp[cA]) η;have cΤ:(gE L).length=fu:=by rw[ym,vy]
 have Qm:(gE L++[Y])[fu]?=some (ft (aS s.Τ) (aY s.ai) (.ms 4 fu 0 fu)):=by rw[yf _ _ cΤ,kD]
 refine W.cut 1 (Nat.zero_le _) [(3,.aa JN),(6,.an 0 1 0 0),(7,J 0),(10,.aa [aS s.Τ,aY s.ai,a7 L])] η (λid r b7 ι=>by
  obtain rfl:id=0:=γ;simp at ι;subst ι;rw[iq];intro e he a κ;simp at he;subst he;simp[θ.cells] at κ;subst κ;(try simp[j8])) (λq Χ=>by
  simp only[List.mem_cons,List.not_mem_nil,or_false] at Χ;rcases Χ with rfl|rfl|rfl|rfl
  ·exact .low (by simp[JO,θ.cells,j8])
  ·exact .low (by simp[kS])
  ·exact .low η
  ·refine eE.struct (id:=fu+5) (t:=26) (k:=3) (l:=[aS s.Τ,aY s.ai,.ms 4 fu 0 fu]) γ (by simp[Qm]) rfl (λy a bP I R=>?_)
   match y with
   | 0=>simp at I R;subst I;subst R;exact .low (by simp[θ.cells,j8])
   | 1=>simp at I R;subst I;subst R;exact .low (by simp[θ.cells,j8])
   | 2=>
    simp at I R;subst I;subst R;have:=cΙ (h:=1) (b:=5) (id:=4) (σ:=ug::.dead::.dead::.dead::.cells 60 1 (fO 5 L)::(gE L++[Y])) (L:=L) a0 a0 (λj l δ=>by
     have fg:j<(gE L).length:=by rw[ym];exact(bV.1 δ).1
     rw[show 5+j=j+5 by omega];simp only[List.getElem?_cons_succ];rw[dv fg,Qc,δ];rfl) rfl
    rw[vy] at this;exact this
   | y+3=>simp at I) ?_
 rw[Qh,JO,iq];obtain⟨X,n6⟩:=aO (s.more c p);rw[<-n6] at A8 hW ⊢;clear Qh JS Qk Qm JQ A9 Ql Qi Qj yf wN JR kD;by_cases A':F=[]
 ·have e:ob s c p F ni=(X,0):=by rw[hW,if_neg (λh=>h.1 A')]
  rw[e];have Es:=e' bZ;rw[A'] at Es;refine a5 λΔ ζ=>?_;refine Ω.c (Es) (b9.refl _) η η ?_;simp[];(repeat (rw[ae];simp[]));apply ζ;refine ay η ?_;refine Β ?_;refine W.fix (id:=0) (σ':=[]) (Nat.zero_le _) rfl η η rfl [(6,.aa [aS X.Τ,aY X.ai,a7 X.cells]),(7,J 0)] η ?_;refine W.rt ?_;exact .refl _
 have yl:0<F.length:=List.length_pos_iff.2 A';refine a5 λΔ ζ=>?_;refine Ω.c (e' bZ) (b9.refl _) η η ?_;simp[yl];(repeat (rw[ae];simp[yl]));refine Ω.c (A8) (b9.refl _) η η ?_;simp[];(repeat (rw[ae];simp[]));apply ζ;by_cases G0:ni=[]
 ·have e:ob s c p F ni=(jh,9):=by rw[hW,if_pos ⟨A',G0⟩]
  rw[e];refine aA (by simp[G0]) ?_;refine Β ?_;refine W.fix (id:=0) (σ':=[]) (Nat.zero_le _) rfl η η rfl [(6,.aa [.sl true 0 [],.sl true 0 [],.sl true 0 []]),(7,J 9)] η ?_;refine W.rt ?_;exact .a3 (.cons sw (.cons (.refl _) .nil))
 ·have e:ob s c p F ni=(X,0):=by rw[hW,if_neg (λh=>G0 h.2)]
  rw[e];refine ay (by simp[G0]) ?_;refine Β ?_;refine W.fix (id:=0) (σ':=[]) (Nat.zero_le _) rfl η η rfl [(6,.aa [aS X.Τ,aY X.ai,a7 X.cells]),(7,J 0)] η ?_;refine W.rt ?_;exact .refl _
theorem cΥ {c:Prop} [Decidable c] {K} {a b:cH} (h:c) (ψ:cH.holds K a):cH.holds K (if c then a else b):=by rw[if_pos h];exact ψ
theorem cΦ (a b:List Int) (κ:a.length<2 ^ 62):Ω Tryz.prog 120 [cS J 1 a,cS J 1 b] (bs (decide (a=b))):=by
 refine ak.body Ρ Tryz.func120 rfl rfl Tryz.ntmps120 rfl rfl η ?_;refine Β ?_;by_cases υ:a.length=b.length
 case neg=>
  refine aA (by simp;omega) ?_;refine Β ?_;refine W.rt ?_;exact .of (by simp[show ¬a=b from λh=>υ (by rw[h])])
 refine ay (by simp;omega) ?_;refine Β ?_;refine W.iter (λi:Nat=>i<=a.length/\∀j,j<i->a[j]?=b[j]?) (λi=>[(0,cS J 1 a),(1,cS J 1 b),(12,J a.length),(13,J i)]) (λ_=>[]) (λi=>a.length-i) 0 ⟨Nat.zero_le _,λj δ=>γ⟩ rfl η (λi hi ω=>?_);obtain⟨I,R⟩:=hi;refine Β ?_;refine W.fL rfl (λε=>?_) (λε=>?_)
 ·have ε:i<a.length:=by simpa using ε
  have bg:i<b.length:=γ;refine Β ?_;refine fD (Ζ ε bg) ?_;by_cases q:a[i]=b[i]
  ·refine ay (by simp[q]) ?_;refine Β ?_;refine W.forget _ ?_ (ω (i+1) ⟨ε,λj δ=>?_⟩ γ)
   ·simp[eX ε κ]
   ·by_cases e:j=i
    ·subst e;rw[ba ε,ba bg,q]
    ·exact R j γ
  ·refine aA (by simp[q]) ?_;refine Β ?_;refine W.rt ?_;exact .of (by simp[show ¬a=b from λh=>q (by simp[h])])
 ·have ε:a.length<=i:=by simpa using ε
  refine W.exit rfl ?_;refine Β ?_;have:a=b:=List.ext_getElem? λj=>by
   by_cases δ:j<i
   ·exact R j δ
   ·rw[List.getElem?_eq_none γ,List.getElem?_eq_none γ]
  refine W.rt ?_;exact .of (by simp[this])
theorem ER {α:Type} {enc:α->θ} {f:List α} {T:List θ} {L:List θ} (av:L=f.map enc++T) {j:Nat} {x:α} (h:f[j]?=some x):L[j]?=some (enc x)/\∀h:j<L.length,L[j]=enc x:=by
 have δ:=(bV.1 h).1
 have e:L[j]?=some (enc x):=by rw[av,dv (by simpa using δ),List.getElem?_map,h];rfl
 exact⟨e,λδ=>by rw[ba δ] at e;exact Option.some.inj e⟩
theorem cΧ (l:List (Int×Int)) (n:Nat) (Ε:l.length=n) (μ:n<2 ^ 40) (ag:θ) (bu:aK 0 ag) (Υ:∀x y,eW Tryz.prog ag [cN x,cN y] (bs (decide (x=y)))):ak Tryz.prog 119 [.ms 0 n 0 n,ag] [.cells 29 1 (l.map cN)]
  (λr s=>∃T:List θ,(∀a∈T,a=.sl true 0 []\/∃x,a=cN x)/\(dT l).length+T.length=n/\r=.ms 0 n 0 (dT l).length/\s=[.cells 29 1 ((dT l).map cN++T)]) (λ_ _=>False):=by
 refine ak.body Ρ Tryz.func119 rfl rfl Tryz.ntmps119 rfl rfl η ?_;by_cases R:(n:Int)<2
 ·refine aT (Ζ Ε R) ?_;refine aA rfl ?_;refine aT Ε ?_;refine W.ret ⟨_,rfl,[],?_⟩;have e:dT l=l:=by
   match l,Ε with
   | [],_=>rfl
   | [a],_=>rfl
   | a::b::l,Ε=>simp at Ε;omega
  rw[e,List.append_nil,Ε];exact⟨η,η,rfl,rfl⟩
 refine aT (Ζ Ε R) ?_;refine ay rfl ?_;refine Β ?_;refine W.iter (λk:Nat=>1<=k/\k<=n/\dT (l.take k)=l.take k) (λk=>[(0,.ms 0 n 0 n),(1,ag),(5,J k)]) (λ_=>[.cells 29 1 (l.map cN)]) (λk=>n-k) 1 ⟨Nat.le_refl _,γ,by
  match l,Ε with
  | [],Ε=>rfl
  | a::l,Ε=>rfl⟩ rfl η (λk ψ ω=>?_)
 obtain⟨k1,bG,mi⟩:=ψ;refine aT Ε ?_;by_cases ε:k<n
 ·refine aA (by simp[ε]) ?_
  repeat apply al
  obtain⟨p,ς⟩:∃p,k=p+1:=⟨k-1,γ⟩;have ki:IntKind.i64.wrap ((k:Int)-1)=(p:Int):=by have:=et (show p<2 ^ 62 by omega);rw[ς];simpa using this
  have ml:p<n:=γ
  have gI:k<l.length:=γ
  have g2:p<l.length:=γ;obtain⟨L,av⟩:=aO (l.map cN);have p7:L=l.map cN++[]:=by rw[av,List.append_nil]
  have h1:L.length=n:=by rw[av];simpa using Ε
  obtain⟨a1,a2⟩:=ER p7 (ba gI);obtain⟨bK,da⟩:=ER p7 (ba g2);refine W.to (σ':=[.cells 29 1 L]) (env':=[(0,.ms 0 n 0 n),(1,ag),(5,J k)]) ?_ (by rw[av]) η;generalize U:l[k]=x at a1 a2;generalize Φ:l[p]=y at bK da;refine W.draw (A:=[]) Ρ mixed λΔ ζ=>mj (Ζ ε (Ζ ki (Ζ h1 (Ζ ml (Ζ a1 (Ζ a2 (Ζ bK da))))))) ?_;refine eS (Υ x y) ?_;simp;(repeat (rw[dZ];simp[]));try rw[dY]
  refine fC (ζ _ _ ?_);have dr:dT (l.take (k+1))=dT (l.take k)++if x=y then [] else [x]:=by
   rw[Du l γ gI γ];simp only[ς,Nat.add_sub_cancel] at U ⊢;rw[U,Φ]
  by_cases pJ:x=y
  ·refine aA (by simp[pJ]) ?_
   repeat apply al
   refine W.g8 (A:=[]) Ρ [(0,.ms 0 n 0 n),(1,ag),(5,J k),(6,.ms 0 n k (n-k))] [.cells 29 1 L] ?_ (by
    (try simp);(repeat (rw[ae];simp[h1,Nat.le_of_lt ε]));(try simp[h1,Nat.le_of_lt ε]))
   refine Β ?_;have cT:dT (l.take (k+1))=l.take k:=by rw[dr,if_pos pJ,List.append_nil,mi]
   refine W.iter (λq:Nat×Nat×List (Int×Int)=>1<=q.2.1/\k+q.2.1<=n/\q.2.2.length=n/\q.1<k+q.2.1/\q.1=(dT (l.take (k+q.2.1))).length/\q.2.2.take q.1=dT (l.take (k+q.2.1))/\∀j,k+q.2.1-1<=j->j<n->q.2.2[j]?=l[j]?)
    (λq=>[(0,.ms 0 n 0 n),(1,ag),(5,J q.1),(6,.ms 0 n k (n-k)),(7,J q.2.1)]) (λq=>[.cells 29 1 (q.2.2.map cN)]) (λq=>n-q.2.1) (k,1,l) ⟨Nat.le_refl _,by simp;omega,Ε,η,by simp only[cT];simp;omega,by simp only[cT],λj _ _=>rfl⟩ (by rw[av]) η (λq Χ e6=>?_)
   obtain⟨m,bG,f⟩:=q;obtain⟨c1,c2,c3,c4,jJ,mf,lE⟩:=Χ;simp only at c1 c2 c3 c4 jJ mf lE;clear av p7 h1 a1 a2 bK da;refine aT c3 ?_;by_cases hd:bG<n-k
   ·have zD:(bG:Int)<((n-k:Nat):Int):=by omega
    refine aA (by simp[hd]) ?_
    repeat apply al
    obtain⟨my,hB⟩:∃r,bG=r+1:=⟨bG-1,γ⟩;have eM:IntKind.i64.wrap ((bG:Int)-1)=(my:Int):=by have:=et (show my<2 ^ 62 by omega);rw[hB];simpa using this
    have ι:my<n-k:=γ;obtain⟨M,cd⟩:=aO (f.map cN);have Qn:M=f.map cN++[]:=by rw[cd,List.append_nil]
    have vw:M.length=n:=by rw[cd];simpa using c3
    have hu:f[k+bG]?=some (l[k+bG]'γ):=by rw[lE _ γ γ,ba]
    have hv:f[k+my]?=some (l[k+my]'γ):=by rw[lE _ γ γ,ba]
    have dk:=Du l (p:=k+bG) γ γ γ
    have Hq:l[k+bG-1]'γ=l[k+my]'γ:=by congr 1;omega
    rw[Hq] at dk;generalize l[k+bG]'γ=u at hu dk;generalize l[k+my]'γ=v at hv dk;obtain⟨ed,dM⟩:=ER Qn hu;obtain⟨v1,v2⟩:=ER Qn hv;refine W.to (σ':=[.cells 29 1 M]) (env':=[(0,.ms 0 n 0 n),(1,ag),(5,J m),(6,.ms 0 n k (n-k)),(7,J bG)]) ?_ (by rw[cd]) η;have j0:m<n:=γ;refine W.draw (A:=[]) Ρ mixed λΔ ζ=>?_;simp;(repeat (rw[dZ];simp[hd,eM,ι,vw,ed,dM,v1,v2]));try rw[dY]
    refine eS (Υ u v) ?_;simp;(repeat (rw[dZ];simp[]));try rw[dY]
    refine fC (ζ _ _ ?_);by_cases su:u=v
    ·refine ay (by simp[su]) ?_;refine Β ?_;rw[if_pos su,List.append_nil] at dk;refine W.to (e6 (m,bG+1,f) ⟨η,by simp;omega,c3,by simp;omega,by simp only[<-Nat.add_assoc,dk];exact jJ,by simp only[<-Nat.add_assoc,dk];exact mf,λj I R=>lE j (by simp at I;omega) R⟩ (by simp;omega)) (by rw[cd]) ?_;have:=et (show bG+1<2 ^ 62 by omega);simpa using this
    ·refine aA (by simp[su]) ?_;rw[if_neg su] at dk
     repeat apply al
     refine W.g8 (A:=[]) Ρ [(0,.ms 0 n 0 n),(1,ag),(5,J m),(6,.ms 0 n k (n-k)),(7,J bG)] [.cells 29 1 ((f.set m u).map cN)] ?_ (by
      (try simp);(repeat (rw[ae];simp[hd,vw,j0,ed,dM]));(try simp[hd,vw,j0,ed,dM]);subst cd;simp)
     refine Β ?_;refine W.to (e6 (m+1,bG+1,f.set m u) ⟨η,by simp;omega,by simpa using c3,by simp;omega,by simp only[<-Nat.add_assoc,dk];simp;exact jJ,?_,λj I R=>?_⟩ (by simp;omega)) η ?_
     ·simp only[<-Nat.add_assoc,dk];rw[<-mf,List.take_succ_eq_append_getElem (by simp;omega),List.take_set_of_le (Nat.le_refl _)];simp
     ·simp at I;rw[List.getElem?_set_ne γ];exact lE j γ R
     ·have Γ:=et (show bG+1<2 ^ 62 by omega)
      have Θ:=et (show m+1<2 ^ 62 by omega);simp at Γ Θ ⊢;exact⟨Θ,Γ⟩
   ·refine ay (by simp[hd]) ?_;refine W.exit rfl ?_;have he:k+bG=n:=γ;have Hr:l.take n=l:=List.take_of_length_le γ;rw[he,Hr] at jJ mf
    repeat apply al
    have j0:m<=n:=γ;refine W.g8 (A:=[]) Ρ [(0,.ms 0 n 0 n),(5,J m)] [.cells 29 1 ((dT l).map cN++List.replicate (n-m) (.sl true 0 []))] ?_ (by
     (try simp);(repeat (rw[ae];simp[c3,j0]));(try simp[c3,j0]);rw[<-List.map_take,mf,List.drop_eq_nil_of_le (by simp;omega),List.append_nil];refine cΥ ⟨by simpa using c3,rfl,γ,λa κ=>?_⟩ ?_
     ·obtain⟨x,_,rfl⟩:=List.mem_map.1 κ;rfl
     ·simp)
    have vx:(dT l).length+(n-m)=n:=γ;refine aT (Ζ vx j0) ?_;refine W.ret ⟨_,rfl,List.replicate (n-m) (.sl true 0 []),λa κ=>.inl (List.eq_of_mem_replicate κ),by simp;omega,?_,rfl⟩;rw[<-jJ];rfl
  ·refine ay (by simp[pJ]) ?_;refine Β ?_;refine W.to (ω (k+1) ⟨γ,γ,?_⟩ γ) (by rw[av]) ?_
   ·rw[dr,if_neg pJ,mi,<-U,<-List.take_succ_eq_append_getElem gI]
   ·have:=et (show k+1<2 ^ 62 by omega);simpa using this
 ·refine ay (by simp[ε]) ?_;refine W.exit rfl ?_;refine Β ?_;refine W.ret ⟨_,rfl,[],?_⟩;have e:dT l=l:=by rw[List.take_of_length_le γ] at mi;exact mi
  rw[e,List.append_nil,Ε];exact⟨η,η,rfl,rfl⟩
def Qo (N:Nat):Prop:=∀(l:List (Int×Int)),l.length<=N->ak Tryz.prog 117 [.ms 0 l.length 0 l.length,.fn (.func 118) [] []] [.cells 29 1 (l.map cN)] (λr s=>r=.a3 []/\s=[.cells 29 1 ((l.mergeSort eI).map cN)]) (λ_ _=>False)
theorem cΨ (x y:Int×Int):eW Tryz.prog (.fn (.func 118) [] []) [cN x,cN y] (J (lK x y)):=Ω.p (Hj [x.1,x.2] [y.1,y.2] η) (.cons .ex (.cons .ex .nil)) η η
def Qp (f:Found) (cell:Nat):List (Int×Int):=(f.cells[cell]?).getD []
def kq (F:List Found) (cell:Nat):List (Int×Int):=F.flatMap λf=>Qp f cell
def Ba (F:List Found) (cell:Nat):List (Int×Int):=dT ((kq F cell).mergeSort eI)
def oc (A C:List (Int×Int)) (j:Nat):List (Int×Int):=A++C.take j
theorem ES {l:List (Int×Int)}:∀e∈l.map cN,∀a∈e.cells,aK 0 a:=by
 intro e he a κ;obtain⟨x,_,rfl⟩:=List.mem_map.1 he;simp[θ.cells] at κ;subst κ;simp[j8,θ.cells]
abbrev Qq (l:List (Int×Int)):θ:=.sl false 1 (l.map cN)
def rB (s:aL) (F:List Found) (cell:Int):List (Int×Int)×Int:=
 if(fX s cell F).2.2=0 then(Ba F cell.toNat,0) else([],(fX s cell F).2.2)
theorem cΩ (x y:Int×Int):eW Tryz.prog (.fn (.func 120) [] []) [cN x,cN y] (bs (decide (x=y))):=by
 have h:eW Tryz.prog (.fn (.func 120) [] []) [cN x,cN y] (bs (decide ([x.1,x.2]=[y.1,y.2]))):=Ω.p (cΦ [x.1,x.2] [y.1,y.2] η) (.cons .ex (.cons .ex .nil)) η η
 have e:decide ([x.1,x.2]=[y.1,y.2])=decide (x=y):=by
  rw[decide_eq_decide];constructor
  ·intro h;simp at h;exact Prod.ext h.1 h.2
  ·rintro rfl;rfl
 rw[e] at h;exact h
theorem dα (ag:θ) (bu:aK 0 ag):Ω Tryz.prog 119 [.sl true 0 [],ag] (.sl true 0 []):=by
 refine ak.body Ρ Tryz.func119 rfl rfl Tryz.ntmps119 rfl rfl η ?_;refine Β ?_;refine aA rfl ?_;refine Β ?_;refine W.rt ?_;exact .refl _
theorem Qr {A C:List (Int×Int)}:oc A C 0=A:=by simp[oc]
theorem dβ {A C:List (Int×Int)} {j:Nat} (h:j<C.length):oc A C (j+1)=oc A C j++[C[j]]:=by
 unfold oc;rw[List.take_succ_eq_append_getElem h,List.append_assoc]
theorem Qs {A C:List (Int×Int)} {j:Nat} (h:C.length<=j):oc A C j=A++C:=by unfold oc;rw[List.take_of_length_le h]
theorem dγ {A C:List (Int×Int)} {j:Nat}:(oc A C j).length<=A.length+j:=by unfold oc;simp;omega
theorem JU (s:aL) (μ:s.small) (F:List Found) (e':m' s F) (cell:Int) (N:Nat) (c5:N<2 ^ 20) (fA:Qo N)
  (av:(fX s cell F).2.2=0->F.length<2 ^ 20/\(∀f∈F,cell.toNat<f.cells.length/\∀c∈f.cells,c.length<2 ^ 20)/\kq F cell.toNat≠[]/\(kq F cell.toNat).length<=N) :
  Ω Tryz.prog 62 [dH s,J cell] (.a3 [Qq (rB s F cell).1,J (rB s F cell).2]):=by
 refine ak.body Ρ Tryz.func62 rfl rfl Tryz.ntmps62 rfl rfl η ?_;refine Β ?_;refine cI ?_;refine cR (A:=[6]) Ρ λΔ ζ=>aV ?_;refine Ω.d (Hs s μ cell F e') (aV ?_);apply ζ;by_cases b:(fX s cell F).2.2=0
 case neg=>
  have e:rB s F cell=([],(fX s cell F).2.2):=if_neg b
  have dδ:(fX s cell F).2.1=[]:=by
   unfold fX eH at b ⊢;split
   ·rfl
   ·split
    ·rfl
    ·split
     ·rfl
     ·simp_all
  rw[e,dδ];generalize (fX s cell F).2.2=eM at b;refine W.drop (h:=0) (σ':=[]) (Nat.zero_le _) (Nat.zero_le _) η rfl [(1,J cell),(7,cj []),(8,J eM)] η ?_;refine Β ?_;refine .loop ?_;refine Β ?_;refine ay rfl ?_;refine W.exit rfl ?_;refine a5 λΔ ζ=>?_;refine Ω.d (Wi (.fn (.func 118) [] []) (by simp[hG])) (aV ?_);apply ζ;refine a5 λΔ ζ=>?_;refine Ω.d (dα (.fn (.func 120) [] []) (by simp[hG])) (aV ?_);apply ζ;refine W.rt ?_;exact .a3 (.cons .nil (.cons (.refl _) .nil))
 have e:rB s F cell=(Ba F cell.toNat,0):=if_pos b;obtain⟨jE,m3,Γ⟩:=Iv b;obtain⟨Υ,ig,bC,hle⟩:=av b;obtain⟨n,rfl⟩:∃n:Nat,cell=n:=⟨cell.toNat,γ⟩;rw[e,Γ];rw[Int.toNat_natCast] at ig bC hle ⊢;refine W.drop (h:=0) (σ':=[]) (Nat.zero_le _) (Nat.zero_le _) η rfl [(1,J n),(7,cj F),(8,J 0)] η ?_;refine Β ?_;refine W.iter (λi:Nat=>i<=F.length) (λi=>[(1,J n),(8,J 0),(9,en ((kq (F.take i) n).map cN)),(21,cj F),(22,J F.length),(23,J i)])
  (λi=>bF 29 1 ((kq (F.take i) n).map cN)) (λi=>F.length-i) 0 (Nat.zero_le _) rfl (by simp[kq,mw]) (λi hi ω=>?_)
 refine Β ?_;have Hu:∀i,(kq (F.take i) n).length<=N:=λi=>by
  have e:kq F n=kq (F.take i) n++kq (F.drop i) n:=by
   conv=>lhs;rw[<-List.take_append_drop i F]
   simp only[kq,List.flatMap_append]
  rw[e,List.length_append] at hle;omega
 refine W.fL rfl (λε=>?_) (λε=>?_)
 ·have bp:i<F.length:=by simpa using ε
  obtain⟨bA,kQ⟩:=ig _ (List.getElem_mem bp);have hC:F[i].cells[n].length<2 ^ 20:=kQ _ (List.getElem_mem bA);obtain⟨A,bR⟩:=aO (kq (F.take i) n);have dr:kq (F.take (i+1)) n=A++F[i].cells[n]:=by
   rw[bR];unfold kq;rw[List.take_succ_eq_append_getElem bp,List.flatMap_append];simp[Qp,bA]
  have z1:(A++F[i].cells[n]).length<=N:=by rw[<-dr];exact Hu _
  rw[List.length_append] at z1;refine W.to (σ':=bF 29 1 (A.map cN)) (env':=[(1,J n),(8,J 0),(9,en (A.map cN)),(21,cj F),(22,J F.length),(23,J i)]) ?_ (by rw[bR]) (by rw[bR];simp)
  repeat apply al
  refine cR (A:=[11]) Ρ λΔ ζ=>fV bp ?_;apply ζ;refine W.m9 (Nat.zero_le _) (ss ES) η [(11,.aa [J F[i].u,J F[i].v,lJ F[i].cells]),(1,J n),(8,J 0),(9,en (A.map cN)),(21,cj F),(22,J F.length),(23,J i)] η ?_;refine aT bA ?_;generalize V6:F[i].cells[n]=C at hC dr z1;refine W.iter (λj:Nat=>j<=C.length) (λj=>[(1,J n),(8,J 0),(9,en ((oc A C j).map cN)),(21,cj F),(22,J F.length),(23,J i),(31,kg C),(32,J C.length),(33,J j)])
   (λj=>bF 29 1 ((oc A C j).map cN)) (λj=>C.length-j) 0 (Nat.zero_le _) (by rw[Qr]) (by simp[Qr]) (λj δ e6=>?_)
  refine Β ?_;refine W.fL rfl (λbg=>?_) (λbg=>?_)
  ·have bk:j<C.length:=by simpa using bg
   obtain⟨L,av⟩:=aO (oc A C j);have vy:L.length<=A.length+j:=by rw[av];exact dγ
   have sx:oc A C (j+1)=L++[C[j]]:=by rw[av];exact dβ bk
   refine W.to (σ':=bF 29 1 (L.map cN)) (env':=[(1,J n),(8,J 0),(9,en (L.map cN)),(21,cj F),(22,J F.length),(23,J i),(31,kg C),(32,J C.length),(33,J j)]) ?_ (by rw[av]) (by rw[av];simp)
   repeat apply al
   refine cR (A:=[13]) Ρ λΔ ζ=>fV bk ?_;apply ζ;refine W.m9 (Nat.zero_le _) (ss ES) η [(13,.aa [J C[j].1,J C[j].2]),(1,J n),(8,J 0),(9,en (L.map cN)),(21,cj F),(22,J F.length),(23,J i),(31,kg C),(32,J C.length),(33,J j)] η ?_
   repeat apply al
   generalize C[j]=r at sx;refine W.g8 (A:=[40]) Ρ [(1,J n),(8,J 0),(9,en ((L++[r]).map cN)),(21,cj F),(22,J F.length),(23,J i),(31,kg C),(32,J C.length),(33,J j)] (bF 29 1 ((L++[r]).map cN)) ?_ (by
    have hL:L.length<=4294967295:=γ;rw[List.map_append];by_cases Μ:L.map cN=[]
    ·rw[Μ,mw,jg];(try simp);(repeat (rw[ae];simp[]));(try simp[]);simp[bF,en]
    ·rw[nT Μ,fF Μ];(try simp);(repeat (rw[ae];simp[]));(try simp[]);simp[p5,sr,hL])
   refine Β ?_;refine W.to (e6 (j+1) bk γ) ?_ ?_
   ·rw[sx,List.map_append];rfl
   ·rw[sx];simp[eX bk (show C.length<2 ^ 62 by omega)]
  ·have bk:C.length<=j:=by simpa using bg
   refine W.exit rfl ?_;refine Β ?_;refine W.to (ω (i+1) bp γ) ?_ ?_
   ·rw[dr,Qs bk]
   ·rw[dr,Qs bk];simp[eX bp (show F.length<2 ^ 62 by omega)]
 ·have bp:i=F.length:=by simp at ε;omega
  refine W.exit rfl ?_;rw[bp,List.take_length];obtain⟨M,cd⟩:=aO (kq F n);rw[<-cd] at bC hle ⊢;have vz:M.map cN≠[]:=by simpa using bC
  have hp:Ba F n=dT (M.mergeSort eI):=by rw[cd];rfl
  have k0:(M.mergeSort eI).length=M.length:=η;refine W.to (σ':=[.cells 29 1 (M.map cN)]) (env':=[(8,J 0),(9,.ms 0 M.length 0 M.length)]) ?_ (fF vz) (by simp[nT vz]);refine a5 λΔ ζ=>?_;refine ak.one (fA M hle) 0 rfl (nP vr) (nP vr) (by simp[jL,fB,pR]) (by simp[fB]) (by simp[jM,dO,g5]) ?_;simp[dO,g5];(repeat (rw[ae];simp[]));apply ζ;refine a5 λΔ ζ=>?_;have Hv:=cΧ (M.mergeSort eI) M.length k0 γ (.fn (.func 120) [] []) (by simp[hG]) cΩ;refine ak.Hk Hv 0 rfl (nP vr) (by simp[jL,fB,pR]) (by simp[jM,dO,g5]) (λa s ⟨T,ao,I,R,ν⟩=>⟨_,ν,?_,by subst R;simp[jL],?_⟩)
  ·intro e he a κ;rcases List.mem_append.1 he with he|he
   ·exact ES e he a κ
   ·rcases ao e he with rfl|⟨x,rfl⟩
    ·simp[θ.cells] at κ;subst κ;simp
    ·simp[θ.cells] at κ;subst κ;simp[j8,θ.cells]
  subst R;simp[jM];(repeat (rw[ae];simp[]));apply ζ;refine W.cut 0 (Nat.zero_le _) [(4,Qq (dT (M.mergeSort eI))),(5,J 0)] η η ?_ ?_
  ·intro p ς;simp only[List.mem_cons,List.not_mem_nil,or_false] at ς;rcases ς with rfl|rfl
   ·have ς:=eE.part (σ:=[.cells 29 1 ((dT (M.mergeSort eI)).map cN++T)]) (id:=0) (t:=29) (k:=1) (l:=(dT (M.mergeSort eI)).map cN) (l2:=T) (m:=(dT (M.mergeSort eI)).length) rfl η ES
    have e:((dT (M.mergeSort eI)).map cN++T).length=M.length:=by rw[List.length_append,List.length_map];exact I
    rw[e] at ς;exact ς
   ·exact .low η
  ·rw[hp];refine W.rt ?_;exact .refl _
end Go.TL
namespace Go.TL
open Go.Proofs
theorem JV [bj]:Qo 12:=λl υ=>by
 have h:=VI l.toArray l.length η υ (.fn (.func 118) [] []) lK (by simp[hG]) (λx y=>cΨ x y);rw[Hx vA Dx l] at h;exact h
def we:aL:=⟨aQ.Τ++[⟨⟨#[99]⟩,1⟩],aQ.ai,aQ.cells⟩
abbrev JW:cG:=⟨3,0,0⟩
abbrev JX:cG:=⟨2,5,4⟩
abbrev Bb:cG:=⟨2,8,0⟩
abbrev JY:cG:=⟨2,2,0⟩
def wh:aL:=aQ.more 1 JW
def wi:aL:=aQ.more 1 JX
def od:aL:=aQ.more 1 Bb
def ui:aL:=aQ.more 1 JY
theorem uj:lV aQ:=by
 refine⟨⟨a0,a0,by decide +kernel,by decide +kernel,by decide +kernel⟩,⟨a0,a0,by decide +kernel⟩,a0,λc ε=>?_⟩;simp only[aQ,List.mem_cons,List.not_mem_nil,or_false] at ε;rcases ε with rfl|rfl<;>exact⟨a0,by decide +kernel,by decide +kernel⟩
theorem yn:lV od:=by
 refine⟨uj.Τ,uj.ai,a0,λc ε=>?_⟩;simp only[od,aL.more,aQ,List.set_cons_succ,List.set_cons_zero,List.mem_cons,List.not_mem_nil,or_false] at ε;rcases ε with rfl|rfl<;>exact⟨by decide +kernel,by decide +kernel,by decide +kernel⟩
theorem yo:lV ui:=by
 refine⟨uj.Τ,uj.ai,a0,λc ε=>?_⟩;simp only[ui,aL.more,aQ,List.set_cons_succ,List.set_cons_zero,List.mem_cons,List.not_mem_nil,or_false] at ε;rcases ε with rfl|rfl<;>exact⟨by decide +kernel,by decide +kernel,by decide +kernel⟩
theorem dε:we.small:=by unfold aL.small;decide
theorem dζ:wh.small:=by unfold aL.small;decide
theorem dη:wi.small:=by unfold aL.small;decide
theorem dθ:we.err=5:=by decide +kernel
theorem dι:wh.err=3:=by decide +kernel
theorem dκ:wi.err=9:=by decide +kernel
theorem dμ:o9 aQ [1,0] [1,4] 0=(4,0):=by decide +kernel
theorem dν:o9 aQ [1,0] [1,4] 2=(12,0):=by decide +kernel
theorem dξ:o9 aQ [0,1] [1,4] 2=(0,5):=by decide +kernel
theorem dο:twins aQ.Τ=[[0,2],[2,0],[3,3],[4,4]]:=by decide +kernel
theorem Qt:g7 (bW aQ)=4:=by decide +kernel
theorem dπ:v8 aQ.cells (EM aQ)=[]:=by decide +kernel
theorem dρ:v8 od.cells (EM od)=[[1,0]]:=by decide +kernel
theorem dς:ob aQ 1 Bb (bW aQ) (bW od)=(jh,9):=by decide +kernel
theorem dτ:ob aQ 1 JY (bW aQ) (bW ui)=(ui,0):=by decide +kernel
theorem Qu:g7 (bW ui)=2:=by decide +kernel
theorem dυ:sL aQ (bW aQ) 0 true=([],0):=by decide +kernel
end Go.TL
