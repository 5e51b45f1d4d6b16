import Derived.Test.YtlabjopijpkiaaaGreatQBN
import Derived.Test.YtlabjopijpkiaaaGreatQBR
import Derived.Test.YtlabjopijpkiaaaGreatQBT
set_option maxHeartbeats 16000000
set_option maxRecDepth 20000
set_option linter.unusedSectionVars false
set_option linter.unusedSimpArgs false
set_option linter.unusedVariables false
namespace Go.TL
open Go.Proofs
variable [bd]
theorem cζ:∀k,k<3→0≤(dH k).2∧(dH k).2<(dH k).1∧(dH k).1≤2:=by decide
theorem Pt {s:aM} (h:il s) (p:Int×Int) (c:Nat):(fz s p c).length≤49:=by
 have R:=Pg (fun r=>s.lR p r c) s.af.length (s.af.length+1) 0;rw[G2] at R;have γ:=h.af.hi;have ο:(s.af.length+1)*(s.af.length+1)≤7*7:=Nat.mul_le_mul (by omega) (by omega);unfold fz;omega
theorem cη {l:List (List (Int×Int))} (h:∀c∈l,c.length≤49) (gb:Int) (i:Nat):fx l gb i≤49 ^ i:=by
 induction i with
 | zero=>simp[fx]
 | succ i Γ=>
  rw[CP,Nat.pow_succ];refine Nat.mul_le_mul Γ ?_;split
  ·omega
  ·cases η:l[i]? with
   | none=>simp
   | some c=>simpa using h c (cl η)
theorem Pu {s:aM} (h:il s) (p:Int×Int):∀c∈(eu s p).cells,c.length≤49:=fun c η=>by
 obtain⟨i,_,rfl⟩:=List.mem_map.1 η;exact Pt h p i
theorem Eh {s:aM} (h:il s) (p:Int×Int) (gb:Int) {i:Nat} (hi:i≤s.cells.length):fx (eu s p).cells gb i≤5764801:=by
 have:=h.many;exact Nat.le_trans (cη (Pu h p) gb i) (Nat.le_trans (Nat.pow_le_pow_right (by decide) (show i≤4 by omega)) (by decide))
theorem cθ {s:aM} (h:il s):Im 49 s where
 small:=h.small
 af:=by have:=h.af.hi;omega
 lit c η x δ:=((h.cells c η).each x δ).1
 reads k _ c _:=Pt h _ c
 many k _ i hi:=by have:=Eh h (dH k) (-1) hi;omega
theorem Pv {s:aM} (h:il s):@qy nG s (gH s):=Og (by decide) (fun c=>@cδ c) (cθ h)
theorem I5 {s:aM} {f:Found}:f∈gH s↔∃k,k<3∧0<(eu s (dH k)).many (-1)∧f=eu s (dH k):=by
 unfold gH;rw[List.mem_filterMap];constructor
 ·rintro⟨k,υ,h⟩;unfold jI at h;split at h
  ·rename_i η;exact⟨k,η.1,η.2,(Option.some.inj h).symm⟩
  ·cases h
 ·rintro⟨k,υ,R,rfl⟩;exact⟨k,List.mem_range.2 υ,by unfold jI;rw[if_pos ⟨υ,R⟩]⟩
theorem I6 (s:aM):(gH s).length≤3:=by
 unfold gH;exact Nat.le_trans (List.length_filterMap_le _ _) (by simp)
theorem cι {s:aM} (h:il s):Small (gH s):=by
 have Ι:=h.many;refine⟨by have:=I6 s;omega,fun f Ρ=>?_⟩;obtain⟨k,_,_,rfl⟩:=I5.1 Ρ;have ω:(eu s (dH k)).cells.length=s.cells.length:=by simp[eu]
 refine⟨by rw[ω];omega,fun i hi gb=>?_,fun c η=>?_⟩
 ·have:=Eh h (dH k) gb (show i≤s.cells.length by omega);omega
 ·have:=Pu h (dH k) c η;omega
theorem cκ:∀a,a<3→∀b,b<3→dH a=dH b→a=b:=by decide
theorem cμ {s:aM} {k:Nat} (υ:k<3):[(dH k).1,(dH k).2]∈iI (gH s)↔0<(eu s (dH k)).many (-1):=by
 unfold iI;rw[List.mem_map];constructor
 ·rintro⟨f,Ρ,he⟩;obtain⟨j,ε,R,rfl⟩:=I5.1 Ρ;have:dH j=dH k:=by
   simp only[eu,List.cons.injEq,and_true] at he;exact Prod.ext he.1 he.2
  rw[←cκ j ε k υ this];exact R
 ·intro h;exact⟨_,I5.2 ⟨k,υ,h,rfl⟩,rfl⟩
def ll (s:aM) (i:Nat):Nat:=((List.range i).map fun k=>(eu s (dH k)).many (-1)).sum
theorem I7 (s:aM) (i:Nat):ll s (i+1)=ll s i+(eu s (dH i)).many (-1):=by simp[ll,List.range_succ]
theorem Pw (s:aM):gB (gH s)=ll s 3:=by
 have key:∀i,i≤3→gB ((List.range i).filterMap (jI s))=ll s i:=by
  intro i
  induction i with
  | zero=>intro _;rfl
  | succ i Γ=>
   intro hi;rw[I7,←Γ (by omega),List.range_succ,List.filterMap_append];unfold gB;rw[List.map_append,List.sum_append];congr 1;unfold jI;by_cases hm:0<(eu s (dH i)).many (-1)
   ·have:i<3∧0<(eu s (dH i)).many (-1):=⟨by omega,hm⟩;simp[this]
   ·have:¬(i<3∧0<(eu s (dH i)).many (-1)):=fun h=>hm h.2;simp[this];omega
 exact key 3 (Nat.le_refl _)
def aM.only (s:aM) (c:List dZ):aM:=⟨s.af,s.an,[c]⟩
theorem cν {s:aM} (h:il s) {c:List dZ} (η:c∈s.cells):il (s.only c) where
 af:=h.af
 an:=h.an
 many:=by simp[aM.only]
 cells d hd:=by
  simp[aM.only] at hd;subst hd;exact h.cells _ η
theorem cξ {s:aM} (p:Int×Int) {c:Nat} {l:List dZ} (η:s.cells[c]?=some l):fz (s.only l) p 0=fz s p c:=by
 unfold fz;have:∀r,(s.only l).lR p r 0=s.lR p r c:=fun r=>by
  unfold aM.lR;rw[η];rfl
 simp only[this];rfl
theorem cο {s:aM} (p:Int×Int) {c:Nat} {l:List dZ} (η:s.cells[c]?=some l):(eu (s.only l) p).many (-1)=(fz s p c).length:=by
 unfold Found.many;have ω:(eu (s.only l) p).cells=[fz s p c]:=by
  show(List.range 1).map (fz (s.only l) p)=_;rw[show List.range 1=[0] from rfl,List.map_cons,List.map_nil,cξ p η]
 rw[ω];simp[fx]
theorem Px {s:aM} (p:Int×Int):(eu s p).many (-1)=fx (eu s p).cells (-1) s.cells.length:=by
 unfold Found.many;simp[eu]
theorem cπ {s:aM} (p:Int×Int) {c:Nat} (η:c<s.cells.length):fx (eu s p).cells (-1) (c+1)=fx (eu s p).cells (-1) c*(fz s p c).length:=by
 rw[CP,if_neg (by omega)];have:(eu s p).cells[c]?=some (fz s p c):=by
  unfold eu;simp[η]
 rw[this];rfl
section
variable {P:Program} {T:a7} {A:List Nat} {m nt:Nat} {k:List Item} {env:Χ} {σ:List Row} {Z:List Item→Χ→List Row→Prop} {E:θ→Χ→List Row→Prop}
theorem W.cρ (Ζ:bN P T) (env':Χ) (σ':List Row) {ops:Array Oper} {l:List Nat} (h:W P m nt k env' σ' Z E) (κ:run P T A nt ops l env σ (fun e s=>W P m nt k env' σ' Z E→W P m nt k e s Z E) E):W P m nt (.inRegion ops l::k) env σ Z E:=by
 have:=Ge (m:=m) (k:=k) (Z:=Z) Ζ [] l env σ (Cj (fun e s f=>W.bB (f h)) _ _ _ κ);simpa using this
end
def mW (l:List dZ):θ:=fq 3 (l.map e5)
def bw (done:List (List dZ)) (nc:Nat):List θ:=done.map mW++List.replicate (nc-done.length) bV
theorem cς (nc:Nat):bw [] nc=List.replicate nc bV:=by simp[bw]
theorem vy {done:List (List dZ)} {nc:Nat} (h:done.length≤nc):(bw done nc).length=nc:=by simp[bw];omega
theorem cτ {done:List (List dZ)}:bw done done.length=done.map mW:=by simp[bw]
theorem cυ {done:List (List dZ)} {nc:Nat} (h:done.length<nc):(bw done nc)[done.length]?=some bV:=by
 unfold bw;rw[hr (by simp),List.length_map,Nat.sub_self,List.getElem?_replicate,if_pos (by omega)]
theorem cφ {done:List (List dZ)} {nc:Nat} (h:done.length<nc) (aB:List dZ):(bw done nc).set done.length (mW aB)=bw (done++[aB]) nc:=by
 unfold bw;obtain⟨r,κ⟩:∃r,nc-done.length=r+1:=⟨nc-done.length-1,by omega⟩;have e:nc-(done++[aB]).length=r:=by simp;omega
 rw[κ,e,List.replicate_succ,List.set_append_right _ _ (by simp),List.length_map,Nat.sub_self,List.set_cons_zero,List.map_append,List.append_assoc];rfl
theorem Py (l:List dZ):az 0 (mW l):=by
 unfold mW fq;split
 ·simp
 ·refine gA.2 fun e he a μ=>?_;obtain⟨x,_,rfl⟩:=List.mem_map.1 he;simp[θ.cells] at μ;rcases μ with rfl|rfl|rfl<;>exact .z _
theorem Pz (l:List dZ):(mW l).cells=[mW l]:=by
 unfold mW fq;split<;>rfl
theorem I8 {done:List (List dZ)} {nc:Nat}:∀e∈bw done nc,e.cells=[e]∧az 0 e:=fun e he=>by
 unfold bw at he;rcases List.mem_append.1 he with he|he
 ·obtain⟨x,_,rfl⟩:=List.mem_map.1 he;exact⟨Pz x,Py x⟩
 ·have:=List.eq_of_mem_replicate he;subst this;exact⟨rfl,by simp⟩
structure cχ where
 d:cy
 done:List (List dZ)
structure cψ where
 k:Nat
 d:cy
 aB:List dZ
theorem cω (d:cy) (hd:d.bf.length<2 ^ 63) (h0 cells:Nat) (hY:1≤h0) (xw:h0≤6) (D6:cells≤4) :
  tw 37 [U h0,U cells] d (fun r=>∃s,r=eP s∧il s∧s.cells.length≤cells):=by
 unfold tw;refine ak.body Θ Tryz.func37 rfl rfl Tryz.ntmps37 rfl rfl (by simp) ?_
 repeat first|apply ι
 refine de (A:=[6]) Θ fun J I=>?_;simp;(repeat (rw[ζ];simp));apply I;clear I J
 repeat first|apply ι
 refine W.ca ?_;refine W.part (A:=[7]) Θ [0,1,2,3] [4,5] rfl fun J I=>?_;(try simp);(repeat (rw[ζ];simp));refine aΡ d hd h0 cells hY xw D6 rfl ?_;intro G L nc d1 cY aD rp jC;simp only[List.length_cons,List.length_nil,Nat.reduceAdd,List.set_cons_zero,List.cons_append,List.nil_append];obtain⟨xH,I9⟩:∃x,x=cI 5 (List.replicate nc bV):=⟨_,rfl⟩;have An:(nc=0∧xH=bV)∨(0<nc∧xH=.ms 5 nc 0 nc):=by
  by_cases Ν:nc=0
  ·subst Ν;exact .inl ⟨rfl,I9⟩
  ·exact .inr ⟨by omega,by rw[I9,gR (by simp[Ν]),List.length_replicate]⟩
 have Ao:∀done:List (List dZ),done.length≤nc→(nc=0∧bq 60 1 (bw done nc)=[])∨(0<nc∧bq 60 1 (bw done nc)=[.cells 60 1 (bw done nc)]):=fun done j8=>by
  by_cases Ν:nc=0
  ·subst Ν;have:=dq.1 (vy j8);exact .inl ⟨rfl,by rw[this];rfl⟩
  ·exact .inr ⟨by omega,ea (fun h=>by have:=vy j8;rw[h] at this;simp at this;omega)⟩
 rw[←I9,←cς];rw[Lv,oc];apply I;clear I J;have xI:az ([b1 d1,gr bV bV bV,.dead,.dead,.dead]++bq 60 1 (bw [] nc)).length xH:=by
  rcases An with⟨_,e⟩|⟨cA,e⟩
  ·rw[e];simp
  ·rcases Ao [] (Nat.zero_le _) with⟨ae,_⟩|⟨_,Δ⟩
   ·omega
   ·rw[e,Δ];exact od.2 (by simp)
 refine W.cρ (A:=[7]) Θ [(0,.ag 0 1 0 0),(6,.ag 1 1 0 0),(7,.aa [aP G,aO L,xH])] ([b1 d1,gr bV bV bV,.dead,.dead,.dead]++bq 60 1 (bw [] nc)) ?_ (by
  have bH:∀h,∀r∈[b1 d1,gr bV bV bV,.dead,.dead,.dead]++bq 60 1 (bw [] nc),eN h r:=fun h r κ=>by
   rcases List.mem_append.1 κ with κ|κ
   ·simp only[List.mem_cons,List.not_mem_nil,or_false] at κ;rcases κ with rfl|rfl|rfl|rfl|rfl
    ·exact sc d1 h
    ·intro e he a μ;simp[θ.cells] at he;subst he;simp[θ.cells] at μ;subst μ;simp
    ·trivial
    ·trivial
    ·trivial
   ·exact wN (fun e he a μ=>by obtain⟨R,γ⟩:=I8 e he;rw[R] at μ;simp at μ;subst μ;exact γ) r κ
  rcases An with⟨cA,e⟩|⟨cA,e⟩<;>rcases Ao [] (Nat.zero_le _) with⟨ae,Δ⟩|⟨ae,Δ⟩
  ·rw[Δ] at bH xI;rw[e] at xI;rw[e,Δ];(try simp);(repeat (rw[ζ];simp));(try simp[]);intro hW;exact W.mJ (σ0:=[b1 d1,gr bV bV bV,.dead,.dead,.dead]) (by simp) (bH _) (fun a μ=>by
    simp[θ.cells] at μ;rcases μ with rfl|rfl|rfl
    ·exact(gA.2 qS:az 0 _).mono (Nat.zero_le _)
    ·exact(gA.2 vr:az 0 _).mono (Nat.zero_le _)
    ·exact xI) [(0,.ag 0 1 0 0),(6,.ag 1 1 0 0),(7,.aa [aP G,aO L,bV])] (by simp[je,θ.cells]) hW
  ·omega
  ·omega
  ·rw[Δ] at bH xI;rw[e] at xI;rw[e,Δ];have mM:(bw [] nc).length=nc:=vy (Nat.zero_le _);(try simp);(repeat (rw[ζ];simp[mM]));(try simp[mM]);intro hW;exact W.mJ (σ0:=[b1 d1,gr bV bV bV,.dead,.dead,.dead,.cells 60 1 (bw [] nc)]) (by simp) (bH _) (fun a μ=>by
    simp[θ.cells] at μ;rcases μ with rfl|rfl|rfl
    ·exact(gA.2 qS:az 0 _).mono (Nat.zero_le _)
    ·exact(gA.2 vr:az 0 _).mono (Nat.zero_le _)
    ·exact xI) [(0,.ag 0 1 0 0),(6,.ag 1 1 0 0),(7,.aa [aP G,aO L,.ms 5 nc 0 nc])] (by simp[je,θ.cells]) hW)
 obtain⟨kE,Ei⟩:∃n,n=L.length:=⟨_,rfl⟩;have G7:=aD.lo;have zX:=aD.hi;rw[←Ei] at G7 zX;have IW:(L.map (a3 U 1)).length=kE:=by rw[List.length_map,Ei]
 (repeat (first|apply ι|(refine ν fun J I=>?_;simp;(repeat (rw[ζ];simp));apply I;clear I J)));refine W.iter (fun x:cχ=>x.done.length≤nc∧x.d.bf.length≤d.bf.length∧∀c∈x.done,xA kE c)
  (fun x=>[(0,.ag 0 1 0 0),(6,.ag 1 1 0 0),(7,.aa [aP G,aO L,xH]),(8,U x.done.length)])
  (fun x=>[b1 x.d,gr bV bV bV,.dead,.dead,.dead]++bq 60 1 (bw x.done nc)) (fun x=>nc-x.done.length) ⟨d1,[]⟩ ⟨by simp,jC,by simp⟩ rfl (by simp) (fun x δ Γ=>?_)
 obtain⟨D,done⟩:=x;obtain⟨j8,mT,Ai⟩:=δ;simp only at j8 mT Ai Γ ⊢;obtain⟨c,Ap⟩:∃c,c=done.length:=⟨_,rfl⟩;rw[←Ap] at j8 Γ;rw[←Ap]
 repeat first|apply ι
 refine W.hl (A:=[]) Θ [(20,bm (decide (c<nc))),(0,.ag 0 1 0 0),(6,.ag 1 1 0 0),(7,.aa [aP G,aO L,xH]),(8,U c)] ([b1 D,gr bV bV bV,.dead,.dead,.dead]++bq 60 1 (bw done nc)) ?_ (by
  have mM:(bw done nc).length=nc:=vy (by omega);rcases An with⟨cA,e⟩|⟨cA,e⟩<;>rcases Ao done (by omega) with⟨ae,Δ⟩|⟨ae,Δ⟩
  ·rw[e,Δ,ae];(try simp);(repeat (rw[ζ];simp));(try simp[])
  ·omega
  ·omega
  ·rw[e,Δ];(try simp);(repeat (rw[ζ];simp[mM]));(try simp[mM]))
 refine W.dY rfl (fun η=>?_) (fun η=>?_)
 ·have η:c<nc:=by simpa using η
  rcases An with⟨cA,_⟩|⟨cA,e⟩
  ·omega
  rcases Ao done (by omega) with⟨ae,_⟩|⟨ae,Δ⟩
  ·omega
  obtain⟨X,vl⟩:∃X,X=bw done nc:=⟨_,rfl⟩;have PA:X.length=nc:=by rw[vl];exact vy (by omega)
  have PB:X[c]?=some bV:=by rw[vl,Ap];exact cυ (by omega)
  have cΑ:∀aB,X.set c (mW aB)=bw (done++[aB]) nc:=fun aB=>by rw[vl,Ap];exact cφ (by omega) aB
  have PC:∀e∈X,e.cells=[e]∧az 0 e:=by rw[vl];exact I8
  have Ej:X.set c bV=X:=by
   apply List.ext_getElem?;intro i;rw[List.getElem?_set];split
   ·rename_i e;subst e;split
    ·exact PB.symm
    ·rename_i h;exact(h (by omega)).elim
   ·rfl
  have jA:L.length=kE:=Ei.symm;rw[e,Δ,←vl];simp only[List.cons_append,List.nil_append];have Β:=OL D (by omega) kE (by omega);have xn:=Iw D kE;have vP:∀x∈(gS D kE).1,0≤x∧x<kE:=fun x h=>OQ h;have sd:=OR D kE;have cΒ:=Iu D kE;obtain⟨ord,tt⟩:∃x,(gS D kE).1=x:=⟨_,rfl⟩;obtain⟨Aq,cΓ⟩:∃x,(gS D kE).2=x:=⟨_,rfl⟩;rw[tt] at Β xn vP sd;rw[cΓ] at Β cΒ;(repeat (first|apply ι));refine ν fun J I=>?_;simp;(repeat (rw[ζ];simp[jA]));refine eB.c (Β) 0 rfl (aI.refl _) (by simp) (by simp) ?_;simp;(repeat (rw[ζ];simp));apply I;clear I J;have Μ:=tv Aq (by omega) kE;obtain⟨t0,t1⟩:=sa Aq kE (by omega) (by omega);obtain⟨ek,kB⟩:∃k:Nat,hq Aq kE=k:=⟨(hq Aq kE).toNat,by omega⟩;obtain⟨oM,pL⟩:∃x,Aq.after kE=x:=⟨_,rfl⟩;have IB:oM.bf.length≤d.bf.length:=by rw[←pL];exact Nat.le_trans (mb _ _) (by omega)
  rw[kB,pL] at Μ;rw[kB] at t1;(repeat (first|apply ι));refine ν fun J I=>?_;simp;(repeat (rw[ζ];simp[jA]));refine eB.c (Μ) 0 rfl (aI.refl _) (by simp) (by simp) ?_;simp;(repeat (rw[ζ];simp));apply I;clear I J
  repeat first|apply ι
  refine W.iter (fun x:cψ=>x.aB.length+x.k=ek∧x.d.bf.length≤d.bf.length∧x.aB.map (·.cE)=((ord.take ek).drop x.k).reverse∧∀p∈x.aB,(0≤p.seen∧p.seen≤63)∧(0≤p.bare∧p.bare≤63)∧mH p.seen p.bare=0)
   (fun x=>[(0,.ag 0 1 0 0),(6,.ag 1 1 0 0),(7,.aa [aP G,aO L,.ms 5 nc 0 nc]),(8,U c),(9,a3 U 1 ord),(10,U x.k)])
   (fun x=>b1 x.d::gr bV bV bV::.dead::.dead::.dead::.cells 60 1 (X.set c (cI 6 (x.aB.map e5)))::bq 28 3 (x.aB.map e5)) (fun x=>x.k) ⟨ek,oM,[]⟩
   ⟨by simp,IB,by simp,by simp⟩ (by simp only[List.map_nil];rw[show cI 6 []=bV from rfl,Ej];rfl) (by simp) (fun x δ Ae=>?_)
  obtain⟨k,E,aB⟩:=x;obtain⟨υ,I',hz,Ja⟩:=δ;simp only at υ I' hz Ja Ae ⊢;(repeat (first|apply ι|(refine ν fun J I=>?_;simp;(repeat (rw[ζ];simp));apply I;clear I J)));refine W.dY rfl (fun aZ=>?_) (fun aZ=>?_)
  ·have kB:0<k:=by simpa using aZ
   obtain⟨j,ε⟩:∃j,k=j+1:=⟨k-1,by omega⟩;have hw:IntKind.i64.wrap ((k:Int)-1)=j:=by rw[IntWalk.i64_in _ (by omega)];omega
   have HS:j<ord.length:=by omega
   have di:ord[j]?=some ord[j]:=bc HS;obtain⟨xJ,dS⟩:∃x,x=ord[j]:=⟨_,rfl⟩;rw[←dS] at di;have PD:∀h,ord[j]'h=xJ:=fun h=>dS.symm;have Jb:=tv E (by omega) 63;obtain⟨Jc,a1⟩:=sa E 63 (by decide) (by decide);obtain⟨ui,rM⟩:∃x,hq E 63=x:=⟨_,rfl⟩;obtain⟨oR,PE⟩:∃x,E.after 63=x:=⟨_,rfl⟩;have cΔ:oR.bf.length≤d.bf.length:=by rw[←PE];exact Nat.le_trans (mb _ _) I'
   rw[rM,PE] at Jb;rw[rM] at Jc a1;have ku:=tv oR (by omega) 63;obtain⟨cU,bI⟩:=sa oR 63 (by decide) (by decide);obtain⟨m9,m7⟩:∃x,hq oR 63=x:=⟨_,rfl⟩;obtain⟨oS,PF⟩:∃x,oR.after 63=x:=⟨_,rfl⟩;have cΕ:oS.bf.length≤d.bf.length:=by rw[←PF];exact Nat.le_trans (mb _ _) cΔ
   rw[m7,PF] at ku;rw[m7] at cU bI;obtain⟨⟨hf,ew⟩,_,_⟩:=IH ⟨Jc,a1⟩ ⟨cU,bI⟩;obtain⟨qb,Ar⟩:∃x,fH .i64 ui m9=x:=⟨_,rfl⟩;rw[Ar] at hf ew;have zY:=Z4 oS (by omega) [0,0,qb] (by simp) (by simp);obtain⟨vz,dF⟩:∃x,([0,0,qb]:List Int).getD (xq oS [0,0,qb]) 0=x:=⟨_,rfl⟩;have PG:0≤vz∧vz≤63:=by
    rw[←dF]
    match xq oS [0,0,qb] with
    | 0=>simp
    | 1=>simp
    | 2=>simp;omega
    | n+3=>simp
   obtain⟨xK,PH⟩:∃x,oS.after ((([0,0,qb]:List Int).length:Int)-1)=x:=⟨_,rfl⟩;have cΖ:xK.bf.length≤d.bf.length:=by rw[←PH];exact Nat.le_trans (mb _ _) cΕ
   rw[dF,PH] at zY;obtain⟨qV,ln⟩:∃x:List Row,x=gr bV bV bV::.dead::.dead::.dead::.cells 60 1 (X.set c (cI 6 (aB.map e5)))::bq 28 3 (aB.map e5):=⟨_,rfl⟩;have As:(cI 6 (aB.map e5)=bV∧bq 28 3 (aB.map e5)=[]∧aB=[])∨(cI 6 (aB.map e5)=.ms 6 aB.length 0 aB.length∧bq 28 3 (aB.map e5)=[.cells 28 3 (aB.map e5)]∧0<aB.length):=by
    by_cases Ν:aB=[]
    ·subst Ν;exact .inl ⟨rfl,rfl,rfl⟩
    ·have fV:aB.map e5≠[]:=by simpa using Ν
     exact .inr ⟨by rw[gR fV,List.length_map],ea fV,List.length_pos_iff.2 Ν⟩
   rw[←ln]
   repeat first|apply ι
   refine W.OI (A:=[11]) Θ mixed [(0,.ag 0 1 0 0),(6,.ag 1 1 0 0),(7,.aa [aP G,aO L,.ms 5 nc 0 nc]),(8,U c),(9,a3 U 1 ord),(10,U k),(11,.ag (qV.length+1) 1 0 0)] (b1 xK::qV++[.cells 28 3 [.aU [U xJ,U vz,U 0]]]) ?_ (by
    rcases As with⟨f1,f2,f3⟩|⟨f1,f2,f3⟩
    ·rw[f1,f2] at ln;rw[ln];simp;(repeat (rw[j0];simp[hw,di,PD,xn]));(try rw[jZ]);refine⟨by omega,?_⟩;refine eB.e (Jb) (aI.refl _) (by simp) (by simp) ?_;simp[];(repeat (rw[j0];simp[]));(try rw[jZ]);refine eB.e (ku) (aI.refl _) (by simp) (by simp) ?_;simp[Ar];(repeat (rw[j0];simp[Ar]));(try rw[jZ]);refine eB.e zY (.cons .ex .nil) (by simp) (by simp) ?_;simp;(repeat (rw[j0];simp[]));(try rw[jZ]);refine⟨bL (by kernel_rfl),bL (by kernel_rfl),?_⟩;simp
    ·rw[f1,f2] at ln;rw[ln];simp;(repeat (rw[j0];simp[hw,di,PD,xn]));(try rw[jZ]);refine⟨by omega,?_⟩;refine eB.e (Jb) (aI.refl _) (by simp) (by simp) ?_;simp[];(repeat (rw[j0];simp[]));(try rw[jZ]);refine eB.e (ku) (aI.refl _) (by simp) (by simp) ?_;simp[Ar];(repeat (rw[j0];simp[Ar]));(try rw[jZ]);refine eB.e zY (.cons .ex .nil) (by simp) (by simp) ?_;simp;(repeat (rw[j0];simp[]));(try rw[jZ]);refine⟨bL (by kernel_rfl),bL (by kernel_rfl),?_⟩;simp)
   have nD:=tv xK (by omega) 63;obtain⟨dr,c1⟩:=sa xK 63 (by decide) (by decide);obtain⟨kU,pI⟩:∃x,hq xK 63=x:=⟨_,rfl⟩;obtain⟨Au,PI⟩:∃x,xK.after 63=x:=⟨_,rfl⟩;have cΗ:Au.bf.length≤d.bf.length:=by rw[←PI];exact Nat.le_trans (mb _ _) cΖ
   rw[pI,PI] at nD;rw[pI] at dr c1;have zN:=tv Au (by omega) 63;obtain⟨d0,PJ⟩:=sa Au 63 (by decide) (by decide);obtain⟨o0,vv⟩:∃x,hq Au 63=x:=⟨_,rfl⟩;obtain⟨pO,PK⟩:∃x,Au.after 63=x:=⟨_,rfl⟩;have cΘ:pO.bf.length≤d.bf.length:=by rw[←PK];exact Nat.le_trans (mb _ _) cΗ
   rw[vv,PK] at zN;rw[vv] at d0 PJ;obtain⟨PL,_,_⟩:=IH ⟨dr,c1⟩ ⟨d0,PJ⟩;obtain⟨yu,sf⟩:∃x,fH .i64 kU o0=x:=⟨_,rfl⟩;rw[sf] at PL;obtain⟨_,qz,Ν⟩:=IH PL PG;obtain⟨xW,qj⟩:∃x,n6 .i64 yu vz=x:=⟨_,rfl⟩;rw[qj] at qz Ν
   repeat first|apply ι
   refine W.OI (A:=[]) Θ mixed [(11,.ag (qV.length+1) 1 0 0),(0,.ag 0 1 0 0),(6,.ag 1 1 0 0),(7,.aa [aP G,aO L,.ms 5 nc 0 nc]),(8,U c),(9,a3 U 1 ord),(10,U k)] ((b1 pO::qV)++[.cells 28 3 [.aU [U xJ,U vz,U xW]]]) ?_ (by
    rcases As with⟨f1,f2,f3⟩|⟨f1,f2,f3⟩
    ·rw[f1,f2] at ln;rw[ln];simp;(repeat (rw[j0];simp[]));(try rw[jZ]);refine eB.e (nD) (aI.refl _) (by simp) (by simp) ?_;simp[];(repeat (rw[j0];simp[]));(try rw[jZ]);refine eB.e (zN) (aI.refl _) (by simp) (by simp) ?_;simp[sf,qj];(repeat (rw[j0];simp[sf,qj]));(try rw[jZ]);refine⟨bL (by kernel_rfl),bL (by kernel_rfl),?_⟩;simp
    ·rw[f1,f2] at ln;rw[ln];simp;(repeat (rw[j0];simp[]));(try rw[jZ]);refine eB.e (nD) (aI.refl _) (by simp) (by simp) ?_;simp[];(repeat (rw[j0];simp[]));(try rw[jZ]);refine eB.e (zN) (aI.refl _) (by simp) (by simp) ?_;simp[sf,qj];(repeat (rw[j0];simp[sf,qj]));(try rw[jZ]);refine⟨bL (by kernel_rfl),bL (by kernel_rfl),?_⟩;simp)
   have cΙ:∀r∈b1 pO::qV,eN (b1 pO::qV).length r:=fun r κ=>by
    rcases List.mem_cons.1 κ with rfl|κ
    ·exact sc pO _
    have hlen:0<aB.length→6<(b1 pO::qV).length:=fun h=>by
     rcases As with⟨_,_,f3⟩|⟨_,f2,_⟩
     ·rw[f3] at h;simp at h
     ·rw[ln,f2];simp
    generalize (b1 pO::qV).length=N at hlen;rw[ln] at κ;simp only[List.mem_cons] at κ;rcases κ with rfl|rfl|rfl|rfl|rfl|κ
    ·intro e he a μ;simp[θ.cells] at he;subst he;simp[θ.cells] at μ;subst μ;simp
    ·trivial
    ·trivial
    ·trivial
    ·intro e he a μ;rcases List.mem_or_eq_of_mem_set he with he|rfl
     ·obtain⟨R,γ⟩:=PC e he;rw[R] at μ;simp at μ;subst μ;exact γ.mono (Nat.zero_le _)
     ·rcases As with⟨f1,_,_⟩|⟨f1,_,f3⟩
      ·rw[f1] at μ;simp[θ.cells] at μ;subst μ;simp
      ·rw[f1] at μ;simp[θ.cells] at μ;subst μ;exact od.2 (hlen f3)
    ·refine wN (fun e he a μ=>?_) r κ;obtain⟨x,_,rfl⟩:=List.mem_map.1 he;simp[θ.cells] at μ;rcases μ with rfl|rfl|rfl<;>exact .z _
   have gΥ:6≤(b1 pO::qV).length:=by rw[ln];simp
   refine W.mJ (σ0:=b1 pO::qV) (by simp) cΙ (fun a μ=>by simp[θ.cells] at μ;rcases μ with rfl|rfl|rfl<;>exact .z _) [(11,.aa [U xJ,U vz,U xW]),(0,.ag 0 1 0 0),(6,.ag 1 1 0 0),(7,.aa [aP G,aO L,.ms 5 nc 0 nc]),(8,U c),(9,a3 U 1 ord),(10,U k)] (fun p χ=>by
    simp only[List.mem_cons,List.not_mem_nil,or_false] at χ;rcases χ with rfl|rfl|rfl|rfl|rfl|rfl|rfl
    ·exact .inr ⟨rfl,rfl⟩
    ·exact .inl ⟨rfl,je.2 (by omega)⟩
    ·exact .inl ⟨rfl,je.2 (by omega)⟩
    ·refine .inl ⟨rfl,Gg.2 fun a μ=>?_⟩;simp only[List.mem_cons,List.not_mem_nil,or_false] at μ;rcases μ with rfl|rfl|rfl
     ·exact(gA.2 qS:az 0 _).mono (Nat.zero_le _)
     ·exact(gA.2 vr:az 0 _).mono (Nat.zero_le _)
     ·exact od.2 (by omega)
    ·exact .inl ⟨rfl,.z _⟩
    ·exact .inl ⟨rfl,(gA.2 (fun e he a μ=>by obtain⟨x,_,rfl⟩:=List.mem_map.1 he;simp[θ.cells] at μ;subst μ;exact .z _):az 0 _).mono (Nat.zero_le _)⟩
    ·exact .inl ⟨rfl,.z _⟩) ?_
   obtain⟨tK,Jd⟩:∃p:dZ,p=⟨xJ,vz,xW⟩:=⟨_,rfl⟩;have bu:(aB++[tK]).map e5≠[]:=by simp
   repeat first|apply ι
   refine W.Is (A:=[70]) Θ mixed [(0,.ag 0 1 0 0),(6,.ag 1 1 0 0),(7,.aa [aP G,aO L,.ms 5 nc 0 nc]),(8,U c),(9,a3 U 1 ord),(10,U k)] (b1 pO::gr bV bV bV::.dead::.dead::.dead::.cells 60 1 (X.set c (cI 6 ((aB++[tK]).map e5)))::bq 28 3 ((aB++[tK]).map e5)) ?_ (by
    rw[gR bu,ea bu,List.length_map,List.length_append,List.map_append,List.map_cons,List.map_nil,Jd];rcases As with⟨f1,f2,f3⟩|⟨f1,f2,f3⟩
    ·rw[f1,f2] at ln;rw[ln,Ej,f3];simp;(repeat (rw[bp];simp[PA,PB]));refine⟨by omega,?_⟩;(first|exact bL (by kernel_rfl)|(refine⟨bL (by kernel_rfl),?_⟩;simp))
    ·rw[f1,f2] at ln;rw[ln];have cΚ:∀v,(X.set c v)[c]?=some v:=fun v=>by rw[List.getElem?_set_self (by omega)]
     have cΜ:∀v h,(X.set c v)[c]'h=v:=fun v h=>List.getElem_set_self h;simp;(repeat (rw[bp];simp[PA,cΚ,cΜ]));refine⟨by omega,by omega,by omega,?_⟩;(first|exact bL (by kernel_rfl)|(refine⟨bL (by kernel_rfl),?_⟩;simp)))
   (repeat (first|apply ι|(refine ν fun J I=>?_;simp;(repeat (rw[ζ];simp[hw]));apply I;clear I J)));have kl:(ord.take ek).drop j=xJ::(ord.take ek).drop k:=by
    have g4:j<(ord.take ek).length:=by rw[List.length_take];omega
    rw[List.drop_eq_getElem_cons g4,ε,List.getElem_take,dS]
   refine W.to (Ae ⟨j,pO,aB++[tK]⟩ ⟨by show(aB++[tK]).length+j=ek;rw[List.length_append];simp;omega,cΘ,?_,fun p χ=>?_⟩ (by show j<k;omega)) (by simp) (by simp[hw])
   ·show(aB++[tK]).map (·.cE)=((ord.take ek).drop j).reverse;rw[kl,List.map_append,hz,List.reverse_cons,Jd];rfl
   ·rcases List.mem_append.1 χ with χ|χ
    ·exact Ja p χ
    ·simp at χ;subst χ;subst Jd;exact⟨PG,qz,Ν⟩
  ·have kB:k=0:=by simp at aZ;omega
   subst kB;have gΦ:aB.length=ek:=by omega
   rw[List.drop_zero] at hz;have n2:xA kE aB:=by
    refine⟨by omega,?_,fun p χ=>?_⟩
    ·rw[hz];unfold List.Nodup;rw[List.pairwise_reverse];exact(sd.sublist (List.take_sublist _ _)).imp Ne.symm
    ·have hm:p.cE∈aB.map (·.cE):=List.mem_map.2 ⟨p,χ,rfl⟩;rw[hz,List.mem_reverse] at hm;have:=vP _ (List.mem_of_mem_take hm);obtain⟨Ξ,ad,aT⟩:=Ja p χ;exact⟨this,Ξ,ad,aT⟩
   have hw:IntKind.i64.wrap ((c:Int)+1)=((c+1:Nat):Int):=by rw[IntWalk.i64_in _ (by omega)];omega
   have Je:(done++[aB]).length=c+1:=by simp;omega
   have xL:=Γ ⟨E,done++[aB]⟩ ⟨by show(done++[aB]).length≤nc;omega,I',fun x δ=>by
    rcases List.mem_append.1 δ with δ|δ
    ·exact Ai x δ
    ·simp at δ;subst δ;exact n2⟩ (by show nc-(done++[aB]).length<nc-c;omega)
   have cΝ:bw (done++[aB]) nc≠[]:=fun h=>by
    have:=vy (done:=done++[aB]) (nc:=nc) (by omega);rw[h] at this;simp at this;omega
   simp only[Je] at xL;rw[ea cΝ,←cΑ aB,e] at xL;refine W.exit rfl ?_;by_cases Ν:aB=[]
   ·subst Ν;rw[show mW []=bV from rfl,Ej] at xL;rw[show cI 6 (([]:List dZ).map e5)=bV from rfl,show bq 28 3 (([]:List dZ).map e5)=[] from rfl,Ej];(repeat (first|apply ι|(refine ν fun J I=>?_;simp;(repeat (rw[ζ];simp[hw]));apply I;clear I J)));exact W.to xL rfl (by simp[hw])
   ·have fV:aB.map e5≠[]:=by simpa using Ν
    have PM:mW aB=.sl false 3 (aB.map e5):=by unfold mW fq;rw[if_neg (by simpa using Ν)]
    rw[PM] at xL;rw[gR fV,ea fV];refine W.xy (σ':=b1 E::gr bV bV bV::.dead::.dead::.dead::.cells 60 1 (X.set c (.sl false 3 (aB.map e5)))::[.dead]) (id:=6) (by simp) rfl rfl rfl (fun i r hi κ=>?_) [(0,.ag 0 1 0 0),(6,.ag 1 1 0 0),(7,.aa [aP G,aO L,.ms 5 nc 0 nc]),(8,U c)] (fun p χ=>by
     simp only[List.mem_cons,List.not_mem_nil,or_false] at χ;rcases χ with rfl|rfl|rfl|rfl<;>exact .same _) ?_
    ·match i,hi,κ with
     | 0,_,κ=>exact⟨r,κ,.inl rfl⟩
     | 1,_,κ=>exact⟨r,κ,.inl rfl⟩
     | 2,_,κ=>exact⟨r,κ,.inl rfl⟩
     | 3,_,κ=>exact⟨r,κ,.inl rfl⟩
     | 4,_,κ=>exact⟨r,κ,.inl rfl⟩
     | 5,_,κ=>
      simp at κ;subst κ;refine⟨_,rfl,.inr ⟨60,1,_,_,rfl,rfl,by simp,fun y e aH R γ=>?_⟩⟩;by_cases Ο:y=c
      ·subst Ο;rw[List.getElem?_set_self (by omega)] at R γ;cases R;cases γ;refine⟨rfl,fun x a b9 ο Ι=>?_⟩
       match x with
       | 0=>simp[θ.cells] at ο Ι;subst ο;subst Ι;have:=qT.ms (id:=6) (k:=3) (l:=aB.map e5);rwa [List.length_map] at this
       | x+1=>simp[θ.cells] at ο
      ·rw[List.getElem?_set_ne (Ne.symm Ο)] at R γ;rw[R] at γ;cases γ;exact⟨rfl,fun x a b9 ο Ι=>by rw[ο] at Ι;cases Ι;exact .same _⟩
     | 6,h,_=>exact absurd rfl h
     | i+7,_,κ=>simp at κ
    refine W.drop (h:=6) (by simp) (by simp) (fun i r hi κ=>?_) rfl [(0,.ag 0 1 0 0),(6,.ag 1 1 0 0),(7,.aa [aP G,aO L,.ms 5 nc 0 nc]),(8,U c)] ?_ ?_
    ·match i,hi,κ with
     | 0,_,κ=>simp at κ;subst κ;exact sc E 6
     | 1,_,κ=>simp at κ;subst κ;intro e he a μ;simp[θ.cells] at he;subst he;simp[θ.cells] at μ;subst μ;simp
     | 2,_,κ=>simp at κ;subst κ;trivial
     | 3,_,κ=>simp at κ;subst κ;trivial
     | 4,_,κ=>simp at κ;subst κ;trivial
     | 5,_,κ=>
      simp at κ;subst κ;intro e he a μ;rcases List.mem_or_eq_of_mem_set he with he|rfl
      ·obtain⟨R,γ⟩:=PC e he;rw[R] at μ;simp at μ;subst μ;exact γ.mono (Nat.zero_le _)
      ·simp[θ.cells] at μ;subst μ;have:=Py aB;rw[PM] at this;exact this.mono (Nat.zero_le _)
     | i+6,h,_=>omega
    ·intro p χ;simp only[List.mem_cons,List.not_mem_nil,or_false] at χ;rcases χ with rfl|rfl|rfl|rfl
     ·exact⟨rfl,je.2 (by omega)⟩
     ·exact⟨rfl,je.2 (by omega)⟩
     ·refine⟨rfl,Gg.2 fun a μ=>?_⟩;simp only[List.mem_cons,List.not_mem_nil,or_false] at μ;rcases μ with rfl|rfl|rfl
      ·exact(gA.2 qS:az 0 _).mono (Nat.zero_le _)
      ·exact(gA.2 vr:az 0 _).mono (Nat.zero_le _)
      ·exact od.2 (by omega)
     ·exact⟨rfl,.z _⟩
    (repeat (first|apply ι|(refine ν fun J I=>?_;simp;(repeat (rw[ζ];simp[hw]));apply I;clear I J)));exact W.to xL rfl (by simp[hw])
 ·have η:c=nc:=by simp at η;omega
  subst η;refine W.exit rfl ?_;have oa:il ⟨G,L,done⟩:=⟨cY,aD,by show done.length≤4;omega,fun x δ=>by show xA L.length x;rw[←Ei];exact Ai x δ⟩;have cΞ:bw done c=done.map mW:=by rw[Ap];exact cτ
  have Ik:db (.aU [aP G,aO L,.sl false 1 (done.map mW)]) (eP ⟨G,L,done⟩):=by
   refine .aU (.cons (.refl _) (.cons (.refl _) (.cons ?_ .nil)));exact .map fun x _=>.one .acc (Pz x) rfl
  rcases An with⟨cA,e⟩|⟨cA,e⟩<;>rcases Ao done (by omega) with⟨ae,Δ⟩|⟨ae,Δ⟩
  ·rw[e,Δ];(repeat (first|apply ι|(refine ν fun J I=>?_;simp;(repeat (rw[ζ];simp));apply I;clear I J)));have cΟ:done=[]:=dq.1 (by omega);refine W.cut 1 (by simp) [(6,.aa [aP G,aO L,bV])] (by simp) (fun id r bU κ=>?_) (fun p χ=>?_) ?_
   ·have:id=0:=by omega
    subst this;simp at κ;subst κ;exact sc D 1
   ·simp only[List.mem_cons,List.not_mem_nil,or_false] at χ;subst χ;show ey 1 _ (a5 _ 6) _;simp;refine .struct (by simp) (show _=some (Row.cells _ _ [.aU _]) from rfl) rfl fun x a b9 R γ=>?_
    match x with
    | 0=>simp at R γ;subst R;subst γ;exact .low ((gA.2 qS:az 0 _).mono (Nat.zero_le _))
    | 1=>simp at R γ;subst R;subst γ;exact .low ((gA.2 vr:az 0 _).mono (Nat.zero_le _))
    | 2=>simp at R γ;subst R;subst γ;exact .low (by simp)
    | x+3=>simp at γ
   ·refine W.ret ⟨_,rfl,_,D,?_,⟨_,rfl,oa,by show done.length≤cells;omega⟩,rfl,mT⟩;rw[cΟ];exact .aU (.cons (.refl _) (.cons (.refl _) (.cons .nil .nil)))
  ·omega
  ·omega
  ·have mM:(bw done c).length=c:=vy (by omega);rw[e,Δ];(repeat (first|apply ι|(refine ν fun J I=>?_;simp;(repeat (rw[ζ];simp[mM]));apply I;clear I J)));refine W.cut 1 (by simp) [(6,.aa [aP G,aO L,.sl false 1 (bw done c)])] (by simp) (fun id r bU κ=>?_) (fun p χ=>?_) ?_
   ·have:id=0:=by omega
    subst this;simp at κ;subst κ;exact sc D 1
   ·simp only[List.mem_cons,List.not_mem_nil,or_false] at χ;subst χ;show ey 1 _ (a5 _ 6) _;simp;refine .struct (by simp) (show _=some (Row.cells _ _ [.aU _]) from rfl) rfl fun x a b9 R γ=>?_
    match x with
    | 0=>simp at R γ;subst R;subst γ;exact .low ((gA.2 qS:az 0 _).mono (Nat.zero_le _))
    | 1=>simp at R γ;subst R;subst γ;exact .low ((gA.2 vr:az 0 _).mono (Nat.zero_le _))
    | 2=>simp at R γ;subst R;subst γ;exact .own (t:=60) (by simp) rfl mM (fun e he a μ=>by
      obtain⟨ew,en⟩:=I8 e he;rw[ew] at μ;simp at μ;subst μ;exact en.mono (Nat.zero_le _))
    | x+3=>simp at γ
   ·rw[cΞ];exact W.ret ⟨_,rfl,_,D,Ik,⟨_,rfl,oa,by show done.length≤cells;omega⟩,rfl,mT⟩
def cnt (x n:Int):Nat→Int
 | 0=>0
 | k+1=>cnt x n k+(if fH .i64 x (2 ^ k)≠0 then 1 else 0)-(if fH .i64 n (2 ^ k)≠0 then 1 else 0)
end Go.TL
