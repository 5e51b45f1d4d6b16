import Derived.Sort.LotC
import Derived.Sort.LotD5
import Derived.Sort.Walk13a
import Derived.Test.YtlabjopijpkiaaaGreatQAY
import Derived.Test.YtlabjopijpkiaaaGreatQBA
import Derived.Test.YtlabjopijpkiaaaGreatQBC
import Derived.Test.YtlabjopijpkiaaaGreatQBQ
set_option maxHeartbeats 16000000
set_option maxRecDepth 20000
set_option linter.unusedSectionVars false
set_option linter.unusedSimpArgs false
set_option linter.unusedVariables false
namespace Go.TL
open Go.Proofs
variable [bd]
theorem aΟ:∀a<64,∀b<64,0≤fH .i64 (a:Nat) (b:Nat)∧fH .i64 (a:Nat) (b:Nat)≤63∧0≤n6 .i64 (a:Nat) (b:Nat)∧n6 .i64 (a:Nat) (b:Nat)≤63∧fH .i64 (b:Nat) (n6 .i64 (a:Nat) (b:Nat))=0:=by decide +kernel
theorem IH {a b:Int} (μ:0≤a∧a≤63) (hb:0≤b∧b≤63):(0≤fH .i64 a b∧fH .i64 a b≤63)∧(0≤n6 .i64 a b∧n6 .i64 a b≤63)∧fH .i64 b (n6 .i64 a b)=0:=by
 obtain⟨x,rfl⟩:∃x:Nat,a=x:=⟨a.toNat,by omega⟩;obtain⟨y,rfl⟩:∃y:Nat,b=y:=⟨b.toNat,by omega⟩;obtain⟨R,γ,ο,Ι,ay⟩:=aΟ x (by omega) y (by omega);exact⟨⟨R,γ⟩,⟨ο,Ι⟩,ay⟩
structure xA (n:Nat) (c:List dZ):Prop where
 hi:c.length≤3
 apart:(c.map (·.cE)).Nodup
 each:∀p∈c,(0≤p.cE∧p.cE<n)∧(0≤p.seen∧p.seen≤63)∧(0≤p.bare∧p.bare≤63)∧mH p.seen p.bare=0
structure il (s:aM):Prop where
 af:oL s.af
 an:vq s.an
 many:s.cells.length≤4
 cells:∀c∈s.cells,xA s.an.length c
theorem xA.err {s:aM} {c:List dZ} (h:xA s.an.length c):pq s c=0:=by
 unfold pq;have:=h.hi;rw[if_neg (by omega)];refine z9 fun x δ=>?_;obtain⟨i,hi,rfl⟩:=List.mem_map.1 δ;have hi:=List.mem_range.1 hi;rw[bc hi];obtain⟨R,γ,ο,Ι⟩:=h.each _ (List.getElem_mem hi);simp only;unfold hT;rw[if_neg (by omega),if_neg,if_neg (by unfold valid;simp;omega),if_pos Ι];intro μ;obtain⟨y,Ο,he⟩:=List.any_eq_true.1 μ;obtain⟨j,ε,rfl⟩:=List.mem_take_iff_getElem.1 Ο;have hd:=List.pairwise_iff_getElem.1 h.apart j i (by simp;omega) (by simpa using hi) (by omega);simp at he hd;exact hd he
theorem il.err {s:aM} (h:il s):s.err=0:=by
 unfold aM.err;rw[h.af.err,h.an.err,if_neg (by simp),if_neg (by simp)];unfold rQ;have:=h.many;rw[if_neg (by omega)];refine z9 fun x δ=>?_;obtain⟨i,hi,rfl⟩:=List.mem_map.1 δ;have hi:=List.mem_range.1 hi;rw[bc hi];exact(h.cells _ (List.getElem_mem hi)).err
theorem il.small {s:aM} (h:il s):s.small:=by
 have R:=h.af.hi
 have γ:=h.an.hi
 have ο:=h.many;refine⟨by omega,by omega,by omega,fun x δ=>?_,fun x δ=>?_⟩
 ·have:=(h.an.each x δ).1;omega
 ·have:=(h.cells x δ).hi;omega
theorem aΡ (d:cy) (hd:d.bf.length<2 ^ 63) (h0 cells:Nat) (hY:1≤h0) (xw:h0≤6) (D6:cells≤4) {σ:List Row} {K E:θ→List Row→Prop} (ae:σ[0]?=some (b1 d))
  (I:∀G L nc eb,oL G→vq L→nc≤cells→eb.bf.length≤d.bf.length→K (.aU [aP G,aO L,cI (σ.length+3) (List.replicate nc bV)]) (σ.set 0 (b1 eb)++(.dead::.dead::.dead::bq 60 1 (List.replicate nc bV)))) :
  hR Tryz.prog (.fn (.func 90) [] []) [.ag 0 1 0 0,U h0,U cells] σ K E:=by
 have χ:∀nc,∀r∈bq 60 1 (List.replicate nc bV),y6 r:=fun nc r κ=>by
  unfold bq at κ;split at κ
  ·cases κ
  ·simp at κ;subst κ;refine .inl fun e he a μ=>?_;have:=List.eq_of_mem_replicate he;subst this;simp[θ.cells] at μ;subst μ;simp[gA]
 have R:=ak.nm (aΚ d hd h0 cells hY xw D6) (aI.refl _) (K':=fun a s=>∃G L nc eb,a=.aU [aP G,aO L,cI 4 (List.replicate nc bV)]∧oL G∧vq L∧nc≤cells∧s=b1 eb::.dead::.dead::.dead::bq 60 1 (List.replicate nc bV)∧eb.bf.length≤d.bf.length) (fun a s ⟨G,L,nc,eb,R,γ⟩=>⟨_,R,G,L,nc,eb,rfl,γ⟩)
 have aS:=ak.LR (σ:=σ) R [0] (by simp) rfl (fun j i ε=>by
  cases j with
  | zero=>simp at ε;subst ε;exact ae
  | succ j=>simp at ε) (fun r κ=>by simp at κ;subst κ;exact oH d) (by
   intro a μ;simp at μ;rcases μ with rfl|rfl|rfl
   ·exact Nat.zero_lt_one
   ·exact(az.z _).ih 1
   ·exact(az.z _).ih 1) (K':=K) (E':=E) (fun a s=>by
   rintro⟨G,L,nc,eb,rfl,Ξ,ad,aT,rfl,ck⟩;refine⟨fun r κ=>?_,?_,?_⟩
   ·simp only[List.mem_cons] at κ;rcases κ with rfl|rfl|rfl|rfl|κ
    ·exact .inl (oH eb)
    ·exact .inr rfl
    ·exact .inr rfl
    ·exact .inr rfl
    ·exact χ nc r κ
   ·intro a μ;simp only[List.mem_cons,List.not_mem_nil,or_false] at μ;rcases μ with rfl|rfl|rfl
    ·exact az.top (gA.2 qS) _
    ·exact az.top (gA.2 vr) _
    ·unfold cI bq;split
     ·exact az.top (by simp) _
     ·show 4<_;simp
   ·have Ε:rG σ [0] (b1 eb::.dead::.dead::.dead::bq 60 1 (List.replicate nc bV))=σ.set 0 (b1 eb)++(.dead::.dead::.dead::bq 60 1 (List.replicate nc bV)):=by
     simp[rG,ic]
    have Δ:dP (names [0] σ.length (b1 eb::.dead::.dead::.dead::bq 60 1 (List.replicate nc bV))) (.aU [aP G,aO L,cI 4 (List.replicate nc bV)])=.aU [aP G,aO L,cI (σ.length+3) (List.replicate nc bV)]:=by
     by_cases Ν:nc=0
     ·subst Ν;rfl
     ·rw[gR (by simp[Ν]),gR (by simp[Ν]),ea (by simp[Ν])];show θ.aU [_,_,_]=_;simp[hE,names,List.range_succ]
    rw[Ε,Δ];exact I G L nc eb Ξ ad aT ck) (fun a s h=>h.elim)
 exact ak.call (first:=[]) (captured:=[]) (by simpa[nq,dP,hE] using aS)
section
variable {P:Program} {m nt:Nat} {k:List Item} {env:Χ} {σ:List Row} {Z:List Item→Χ→List Row→Prop} {E:θ→Χ→List Row→Prop}
theorem W.bind {Pa:List Item→Χ→List Row→Prop} (h:W P m nt k env σ Pa E) (γ:∀j e s,Pa j e s→W P m nt j e s Z E):W P m nt k env σ Z E:=
 fun Q mn x cs b S B H t δ hb χ Ν he=>h Q mn x cs b S B H t δ hb χ
  (fun j e s au B' H' t' Ω sL μ fP υ=>by
   cases υ;exact γ j e s sL Q mn x cs b au B' H' t' δ hb fP (fun aΤ Δ s2 cO eV bJ t2 cx sy bg=>Ν aΤ Δ s2 cO eV bJ t2 cx sy (μ.trans bg)) (fun bg Δ s2 cO eV bJ t2 cx v2 sy o0=>he bg Δ s2 cO eV bJ t2 cx v2 sy (μ.trans o0)))
  he
theorem W.upto {a:Item} (env':Χ) (σ':List Row) (R:W P m nt (a::k) env σ (fun j e s=>j=k∧s=σ'∧∀p∈env',a5 e p.1=p.2) E) (γ:W P m nt k env' σ' Z E):W P m nt (a::k) env σ Z E:=
 .bind R fun j e s ⟨ε,ξ,he⟩=>by
  subst ε;subst ξ;exact .forget env' he γ
theorem W.qU {a:Item} {l:Nat} (env':Χ) (σ':List Row) (R:W P m nt (a::.inBlock l::k) env σ (fun j e s=>j=k∧s=σ'∧∀p∈env',a5 e p.1=p.2) E) (γ:W P m nt k env' σ' Z E):W P m nt (a::.inBlock l::k) env σ Z E:=
 .bind R fun j e s ⟨ε,ξ,he⟩=>by
  subst ε;subst ξ;exact .forget env' he γ
end
section
variable {α:Type} [Inhabited α]
theorem Ag (enc:α→θ) (d:Array α) {i:Nat} (h:i<d.size):(d.toList.map enc)[i]?=some (enc d[i]!):=by
 rw[List.getElem?_map,Array.getElem?_toList,rJ h];rfl
theorem jm (enc:α→θ) {d:Array α} {n:Nat} (Η:d.size=n) {i j:Nat} (hi:i<n) (ε:j<n):∃(L:List θ) (x y:α),d.toList.map enc=L∧d[i]! =x∧d[j]! =y∧L.length=n∧(L[i]?=some (enc x)∧∀h,L[i]'h=enc x)∧(L[j]?=some (enc y)∧∀h,L[j]'h=enc y)∧(Go.Sort.swp d i j).toList.map enc=(L.set i (enc y)).set j (enc x)∧∃z,∀h,(L.set i (enc y))[j]'h=enc z:=by
 subst Η;refine⟨_,_,_,rfl,rfl,rfl,by simp,⟨Ag enc d hi,fun h=>?_⟩,⟨Ag enc d ε,fun h=>?_⟩,by simp[Go.Sort.swp],if i=j then d[j]! else d[j]!,fun h=>?_⟩
 ·have:=Ag enc d hi;rw[bc h] at this;exact Option.some.inj this
 ·have:=Ag enc d ε;rw[bc h] at this;exact Option.some.inj this
 ·rw[List.getElem_set,ite_self];split
  ·rfl
  ·have:=Ag enc d ε;rw[bc (by simpa using h)] at this;exact Option.some.inj this
theorem swp_size {d:Array α} {n:Nat} (Η:d.size=n) (i j:Nat):(Go.Sort.swp d i j).size=n:=by simp[Go.Sort.swp,Η]
theorem Ah (p q:α→Bool) (Υ:∀x,q x = !p x) (d:Array α) {i j aW aG:Nat} (ae:0<i) (fs:i≤j+1) (fa:Go.Sort.scanUp p d j i=aW) (da:Go.Sort.scanDown q d aW j=aG):i≤aW∧aW≤j+1∧aG≤j∧aW≤aG+1∧(aW≤aG→aW<aG):=by
 obtain⟨eh,dT,gΔ,Pb⟩:=Go.Sort.scanUp_spec p d j _ i rfl;obtain⟨v1,v2,vh,v4⟩:=Go.Sort.scanDown_spec q d aW j;rw[fa] at eh dT Pb;rw[da] at v1 v2 v4;refine⟨eh,dT fs,v1,v2 (dT fs),fun h=>?_⟩;rcases Nat.lt_or_ge aW aG with cP|cP
 ·exact cP
 ·have e:aW=aG:=by omega
  have f1:=Pb (by omega)
  have f2:=v4 h (by omega);rw[Υ,←e,f1] at f2;cases f2
theorem aΥ (lt:α→α→Bool) {a b n:Nat}:∀(m i j:Nat) (g:Array α),j+1-i≤m→g.size=n→0<i→i≤j+1→j<b→(Go.Sort.partLoop lt a i j g).2.size=n∧(Go.Sort.partLoop lt a i j g).1<b:=by
 intro m
 induction m with
 | zero=>
  intro i j g hm Τ ae fs ε;rw[Go.Sort.partLoop_eq];obtain⟨aW,fa⟩:∃aW,Go.Sort.scanUp (fun x=>lt x g[a]!) g j i=aW:=⟨_,rfl⟩;obtain⟨aG,da⟩:∃aG,Go.Sort.scanDown (fun x=>!lt x g[a]!) g aW j=aG:=⟨_,rfl⟩;obtain⟨s1,s2,nO,tI,nP⟩:=Ah (fun x=>lt x g[a]!) (fun x=>!lt x g[a]!) (fun x=>rfl) g ae fs fa da;rw[fa,da,if_pos (by apply Classical.byContradiction;intro h;have:=nP (by omega);omega)];exact⟨Τ,by show aG<b;omega⟩
 | succ m Γ=>
  intro i j g hm Τ ae fs ε;rw[Go.Sort.partLoop_eq];obtain⟨aW,fa⟩:∃aW,Go.Sort.scanUp (fun x=>lt x g[a]!) g j i=aW:=⟨_,rfl⟩;obtain⟨aG,da⟩:∃aG,Go.Sort.scanDown (fun x=>!lt x g[a]!) g aW j=aG:=⟨_,rfl⟩;obtain⟨s1,s2,nO,tI,nP⟩:=Ah (fun x=>lt x g[a]!) (fun x=>!lt x g[a]!) (fun x=>rfl) g ae fs fa da;rw[fa,da];by_cases η:aW > aG
  ·rw[if_pos η];exact⟨Τ,by show aG<b;omega⟩
  ·rw[if_neg η];have:=nP (by omega);exact Γ (aW+1) (aG-1) _ (by omega) (swp_size Τ aW aG) (by omega) (by omega) (by omega)
theorem aΦ (lt:α→α→Bool) (hi first r:Nat) (e:Array α) {c k:Nat} (η:c=2*r+1) (h:c<hi) (υ:k=if(decide (c+1<hi)&&lt e[first+c]! e[first+(c+1)]!)=true then c+1 else c) :
  Go.Sort.siftDown lt hi first r e=if(!lt e[first+r]! e[first+k]!)=true then e else Go.Sort.siftDown lt hi first k (Go.Sort.swp e (first+r) (first+k)):=by
 subst η;rw[Go.Sort.siftDown,dif_neg (by omega)];have Ε:first+(2*r+1)+1=first+(2*r+1+1):=by omega
 have Δ:2*r+2=2*r+1+1:=by omega
 by_cases b:(decide (2*r+1+1<hi)&&lt e[first+(2*r+1)]! e[first+(2*r+1+1)]!)=true
 ·rw[if_pos b] at υ;subst υ;rw[Ε,Δ,if_pos b];have aS:2*r+1+1<hi:=by simp at b;exact b.1
  simp only[dif_pos aS]
 ·rw[if_neg b] at υ;subst υ;rw[Ε,if_neg b]
theorem II {lt:α→α→Bool} {hi first n:Nat}:∀{r:Nat} {e:Array α},e.size=n→(Go.Sort.siftDown lt hi first r e).size=n:=by
 have key:∀(m r:Nat) (e:Array α),hi-r≤m→e.size=n→(Go.Sort.siftDown lt hi first r e).size=n:=by
  intro m
  induction m with
  | zero=>
   intro r e hm he;rw[Go.Sort.siftDown,dif_pos (by omega)];exact he
  | succ m Γ=>
   intro r e hm he;rw[Go.Sort.siftDown];split
   ·exact he
   ·split
    ·split
     ·exact he
     ·split
      ·exact Γ _ _ (by omega) (swp_size he _ _)
      ·exact he
    ·split
     ·exact he
     ·exact Γ _ _ (by omega) (swp_size he _ _)
 intro r e he;exact key _ r e (Nat.le_refl _) he
theorem Pd {lt:α→α→Bool} {hi first n:Nat}:∀{k:Nat} {e:Array α},e.size=n→(Go.Sort.heapBuild lt hi first k e).size=n
 | 0,_,he=>he
 | k+1,e,he=>by
  show(Go.Sort.heapBuild lt hi first k (Go.Sort.siftDown lt hi first k e)).size=n;exact Pd (II he)
theorem IJ (lt:α→α→Bool) (d:Array α) {a b n:Nat} (μ:a<n) (hb:b<n) (s:Nat):(Go.Sort.order2 lt d a b s).1<n∧(Go.Sort.order2 lt d a b s).2.1<n∧(Go.Sort.order2 lt d a b s).2.2≤s+1:=by
 unfold Go.Sort.order2;split
 ·exact⟨hb,μ,Nat.le_refl _⟩
 ·exact⟨μ,hb,Nat.le_succ _⟩
theorem IK (p:α→Bool) (d:Array α) {i j:Nat} (h:j<i):Go.Sort.scanDown p d i j=j:=by
 cases j with
 | zero=>rfl
 | succ j=>rw[Go.Sort.scanDown,if_neg (by simp;omega)]
end
structure aΧ (α:Type) where
 a:Nat
 b:Nat
 lim:Nat
 wb:Bool
 wp:Bool
 e:Array α
def xB {α:Type} [Inhabited α] (a l m:Nat):Nat→Nat→UInt64×Array α→UInt64×Array α
 | 0,_,st=>st
 | k+1,idx,st=>xB a l m k (idx+1) (Go.Sort.breakStep a l m st idx)
theorem aΨ {α:Type} [Inhabited α] {d:Array α} {a b l c:Nat} (ω:l=b-a) (m2:8≤l) (η:c=a+(l / 4)*2):Go.Sort.breakPatterns d a b=(xB a l (1 <<< Go.Sort.bitsLen l) 3 (c-1) (UInt64.ofNat l,d)).2:=by
 subst ω;subst η;unfold Go.Sort.breakPatterns;simp only[ge_iff_le,m2,if_true];rfl
abbrev nI (n:Int):θ:=.z (.int .u64 n)
def xC:Go.Sort.Hint→Int
 | .unknown=>0
 | .increasing=>1
 | .decreasing=>2
theorem Pe {α:Type} {enc:α→θ} {t k:Nat} {d:Array α} {r2:Row} (hb:∀y,∀a∈(enc y).cells,az 0 a) (id:Nat) (r:Row) (bU:id<1) (κ:[Row.cells t k (d.toList.map enc),r2][id]?=some r):eN 1 r:=by
 obtain rfl:id=0:=by omega
 simp at κ;subst κ;intro e he a μ;obtain⟨y,_,rfl⟩:=List.mem_map.1 he;exact az.mono (hb y a μ) (Nat.zero_le _)
theorem aΩ {l m:Nat} (h:l<2 ^ 62):IntKind.i64.wrap (Int.tdiv (l:Int) (m:Int))=((l / m:Nat):Int):=by
 rw[Int.tdiv_eq_ediv_of_nonneg (by omega)];have R:l / m≤l:=Nat.div_le_self l m;have γ:((l:Int) / (m:Int))=((l / m:Nat):Int):=rfl;rw[γ];obtain⟨q,Υ⟩:∃q,q=l / m:=⟨_,rfl⟩;rw[←Υ] at R ⊢;rw[IntWalk.i64_in _ (by omega)]
theorem D8 {l m:Nat} (h:l<2 ^ 62):IntKind.i64.wrap ((l:Int) / (m:Int))=((l / m:Nat):Int):=by
 have:=aΩ (m:=m) h;rw[Int.tdiv_eq_ediv_of_nonneg (by omega)] at this;exact this
theorem xD {x:Nat} (h:x<2 ^ 64):IntKind.u64.wrap (x:Int)=(x:Int):=by
 unfold IntKind.wrap;simp[IntKind.bits,IntKind.signed];omega
theorem IL {x y:Nat} (δ:x<2 ^ 64) (Ο:y<2 ^ 64):yy .u64 (x:Int) (y:Int)=((x^^^y:Nat):Int):=by
 have h:x^^^y<2 ^ 64:=Nat.xor_lt_two_pow δ Ο
 have e:(BitVec.ofInt 64 (x:Int)^^^BitVec.ofInt 64 (y:Int)).toNat=x^^^y:=by
  rw[BitVec.toNat_xor,BitVec.ofInt_natCast,BitVec.ofInt_natCast,BitVec.toNat_ofNat,BitVec.toNat_ofNat,Nat.mod_eq_of_lt δ,Nat.mod_eq_of_lt Ο]
 show IntKind.u64.wrap (BitVec.ofInt 64 (x:Int)^^^BitVec.ofInt 64 (y:Int)).toNat=_;rw[e];exact xD h
theorem IM (x k:Nat) (υ:k≤64):IntKind.u64.wrap ((x:Int)*2 ^ min k IntKind.u64.bits)=((x*2 ^ k % 18446744073709551616:Nat):Int):=by
 have e:min k IntKind.u64.bits=k:=Nat.min_eq_left υ;rw[e];have Δ:(x:Int)*2 ^ k=((x*2 ^ k:Nat):Int):=by simp
 rw[Δ];obtain⟨y,Ο⟩:∃y,y=x*2 ^ k:=⟨_,rfl⟩;rw[←Ο];unfold IntKind.wrap;simp[IntKind.bits,IntKind.signed]
theorem bα (x k:Nat) (υ:k≤64):(x:Int).fdiv (2 ^ min k IntKind.u64.bits)=((x / 2 ^ k:Nat):Int):=by
 have e:min k IntKind.u64.bits=k:=Nat.min_eq_left υ;rw[e,Int.fdiv_eq_ediv_of_nonneg _ (Int.le_of_lt (Int.pow_pos (by decide)))];simp
theorem bβ {x y:Nat} (δ:x<2 ^ 64) (Ο:y<2 ^ 64):fH .u64 (x:Int) (y:Int)=((x&&&y:Nat):Int):=by
 have h:x&&&y<2 ^ 64:=Nat.lt_of_le_of_lt Nat.and_le_left δ
 have e:(BitVec.ofInt 64 (x:Int)&&&BitVec.ofInt 64 (y:Int)).toNat=x&&&y:=by
  rw[BitVec.toNat_and,BitVec.ofInt_natCast,BitVec.ofInt_natCast,BitVec.toNat_ofNat,BitVec.toNat_ofNat,Nat.mod_eq_of_lt δ,Nat.mod_eq_of_lt Ο]
 show IntKind.u64.wrap (BitVec.ofInt 64 (x:Int)&&&BitVec.ofInt 64 (y:Int)).toNat=_;rw[e];exact xD h
theorem nJ {i:Nat} (h:0<i) (γ:i<2 ^ 62):IntKind.i64.wrap ((i:Int)-1)=((i-1:Nat):Int):=by
 rw[IntWalk.i64_in _ (by omega)];omega
theorem lj {i:Nat} (γ:i<2 ^ 61):IntKind.i64.wrap ((i:Int)+1)=((i+1:Nat):Int):=by
 rw[IntWalk.i64_in _ (by omega)];omega
theorem IN {a b:Nat} (h:a≤b) (γ:b<2 ^ 62):IntKind.i64.wrap ((b:Int)-a)=((b-a:Nat):Int):=by
 rw[IntWalk.i64_in _ (by omega)];omega
theorem bγ:∀a<64,∀b<64,(n6 .i64 (a:Nat) (b:Nat)=0↔fH .i64 (b:Nat) (a:Nat)=(a:Nat))∧0≤qd .i64 (a:Nat) (b:Nat)∧qd .i64 (a:Nat) (b:Nat)≤63:=by decide +kernel
theorem D9 {a b:Int} (μ:0≤a∧a≤63) (hb:0≤b∧b≤63):(n6 .i64 a b=0↔fH .i64 b a=a)∧0≤qd .i64 a b∧qd .i64 a b≤63:=by
 obtain⟨x,rfl⟩:∃x:Nat,a=x:=⟨a.toNat,by omega⟩;obtain⟨y,rfl⟩:∃y:Nat,b=y:=⟨b.toNat,by omega⟩;exact bγ x (by omega) y (by omega)
theorem IP {s:aM} (h:il s) {g:Int}:0≤s.of g∧s.of g≤63:=by
 unfold aM.of;split
 ·omega
 ·cases Τ:s.af[g.toNat]? with
  | none=>simp
  | some x=>
   obtain⟨_,a,b⟩:=h.af.each x (cl Τ);simp;omega
theorem bδ {s:aM} (h:il s) (p r:Int×Int) (n:Nat):0≤s.gp p r n∧s.gp p r n≤63:=by
 have a:∀g,0≤rH 0 (s.of g)∧rH 0 (s.of g)≤63:=fun g=>(D9 (a:=0) (by omega) (IP h)).2
 have z:(0:Int)≤0∧(0:Int)≤63:=by omega
 unfold aM.gp;simp only;split
 ·split
  ·exact(D9 (a r.1) (IP h)).2
  ·exact(D9 z (IP h)).2
 ·split
  ·exact a r.1
  ·exact z
def aM.IQ (s:aM) (p r:Int×Int) (x:dZ):Bool:=decide (mH (s.gp p r x.cE.toNat) x.seen=x.seen)&&decide (mH (s.gp p r x.cE.toNat) x.bare=0)
theorem bε {s:aM} (h:il s) (p r:Int×Int) {c:List dZ} (η:c∈s.cells) {x:dZ} (δ:x∈c):s.IQ p r x=s.k6 p r x:=by
 obtain⟨_,γ,_,_⟩:=(h.cells c η).each x δ;have:=(D9 γ (bδ h p r x.cE.toNat)).1;unfold aM.IQ aM.k6;rw[Bool.eq_iff_iff];simp only[Bool.and_eq_true,decide_eq_true_eq,beq_iff_eq];rw[this]
theorem bζ {s:aM} (h:il s) {p r:Int×Int} (χ:0≤p.2∧p.2<p.1∧p.1≤2) (R:-1≤r.1∧r.1<s.af.length) (γ:-1≤r.2∧r.2<s.af.length) {l:Int} (ω:0≤l∧l<s.an.length):pJ s [p.1,p.2] [r.1,r.2] l=(s.gp p r l.toNat,0):=by
 have Ε:jV p.1=true:=by unfold jV;simp;omega
 have Δ:jV p.2=true:=by unfold jV;simp;omega
 have Ξ:s.hp r.1=false:=by unfold aM.hp;simp;omega
 have ad:s.hp r.2=false:=by unfold aM.hp;simp;omega
 unfold pJ;rw[h.err];simp only[ne_eq,not_true_eq_false,if_false];rw[if_neg (by rw[Ε,Δ,Ξ,ad];simp;omega),if_neg (by omega)]
theorem bη (s:aM) (h:il s) (p r:Int×Int) (χ:0≤p.2∧p.2<p.1∧p.1≤2) (R:-1≤r.1∧r.1<s.af.length) (γ:-1≤r.2∧r.2<s.af.length) (c:Nat) (η:c<s.cells.length) :
  av Tryz.prog 96 [eP s,U c,a3 U 1 [p.1,p.2],a3 U 1 [r.1,r.2]] (.bt [bm (s.lR p r c),bm true]):=by
 have bY:=bc η
 have jw:=List.getElem_mem η
 have Pf:s.lR p r c=(s.cells[c]).all (s.k6 p r):=by unfold aM.lR;rw[bY];rfl
 obtain⟨l,ω⟩:∃l,l=s.cells[c]:=⟨_,rfl⟩;rw[Pf,←ω];rw[←ω] at bY jw;have qq:∀h,s.cells[c]'h=l:=fun h=>ω.symm;have Md:l.length≤3:=(h.cells l jw).hi;clear Pf ω;refine ak.body Θ Tryz.func96 rfl rfl Tryz.ntmps96 rfl rfl (by simp) ?_;(repeat (first|apply ι|(refine ν fun J I=>?_;simp;(repeat (rw[ζ];simp));apply I;clear I J)));refine W.iter (fun i:Nat=>i≤l.length∧∀j,j<i→(ε:j<l.length)→s.k6 p r l[j]=true) (fun i=>[(1,U c),(2,a3 U 1 [p.1,p.2]),(3,a3 U 1 [r.1,r.2]),(4,.aa [aP s.af,aO s.an,bz s.cells]),(10,U i)]) (fun _=>[]) (fun i=>l.length-i) 0 ⟨Nat.zero_le _,fun j ε=>by omega⟩ rfl (by simp) (fun i hi Γ=>?_);obtain⟨nk,nK⟩:=hi;(repeat (first|apply ι|(refine ν fun J I=>?_;simp;(repeat (rw[ζ];simp[bY,qq,η]));apply I;clear I J)));by_cases aE:i<l.length
 ·refine al (by simp[aE]) ?_;have g0:=bc aE;obtain⟨x,δ⟩:∃x,x=l[i]:=⟨_,rfl⟩;have uP:x∈l:=δ▸List.getElem_mem aE;rw[←δ] at g0;have bθ:∀h,l[i]'h=x:=fun h=>δ.symm;obtain⟨ew,en,ia,rq⟩:=(h.cells l jw).each x uP;have hv:=Oe s h.small [p.1,p.2] [r.1,r.2] x.cE;rw[bζ h χ R γ ew] at hv;have Ρ:=bε h p r jw uP;obtain⟨n,Η⟩:∃n,n=s.gp p r x.cE.toNat:=⟨_,rfl⟩;rw[←Η] at hv;unfold aM.IQ at Ρ;rw[←Η] at Ρ;have hw:=lj (i:=i) (by omega)
  repeat first|apply ι
  refine de (A:=[11]) Θ fun J I=>?_;simp;(repeat (rw[ζ];simp[bY,qq,η,g0,bθ,aE]));apply I;clear I J;refine W.fix (id:=0) (σ':=[]) (Nat.zero_le _) rfl (by simp) (by simp) rfl [(1,U c),(2,a3 U 1 [p.1,p.2]),(3,a3 U 1 [r.1,r.2]),(4,.aa [aP s.af,aO s.an,bz s.cells]),(10,U i),(11,.aa [U x.cE,U x.seen,U x.bare])] (by simp) ?_;(repeat (first|apply ι));refine ν fun J I=>?_;simp;(repeat (rw[ζ];simp));refine av.c (hv) (aI.refl _) (by simp) (by simp) ?_;simp;(repeat (rw[ζ];simp));apply I;clear I J;(repeat (first|apply ι|(refine ν fun J I=>?_;simp;(repeat (rw[ζ];simp));apply I;clear I J)));refine ah rfl ?_
  repeat first|apply ι
  refine W.rA (A:=[]) Θ [(56,bm (!s.k6 p r x)),(1,U c),(2,a3 U 1 [p.1,p.2]),(3,a3 U 1 [r.1,r.2]),(4,.aa [aP s.af,aO s.an,bz s.cells]),(10,U i)] ?_ (by
   rw[←Ρ];by_cases bI:mH n x.seen=x.seen<;>by_cases dc:mH n x.bare=0<;>simp[ζ,oc,bI,dc])
  cases Υ:s.k6 p r x
  ·refine al rfl ?_;(repeat (first|apply ι|(refine ν fun J I=>?_;simp;(repeat (rw[ζ];simp));apply I;clear I J)));refine W.ret ⟨_,rfl,?_,rfl⟩;have:l.all (s.k6 p r)=false:=List.all_eq_false.2 ⟨x,uP,by rw[Υ];simp⟩;rw[this];exact .of rfl
  ·refine ah rfl ?_;(repeat (first|apply ι|(refine ν fun J I=>?_;simp;(repeat (rw[ζ];simp[hw]));apply I;clear I J)));refine W.to (Γ (i+1) ⟨aE,fun j ε g4=>?_⟩ (by omega)) rfl (by simp);by_cases e:j=i
   ·subst e;rw[←δ];exact Υ
   ·exact nK j (by omega) g4
 ·refine ah (by simp[aE]) ?_;refine W.exit rfl ?_;(repeat (first|apply ι|(refine ν fun J I=>?_;simp;(repeat (rw[ζ];simp));apply I;clear I J)));refine W.ret ⟨_,rfl,?_,rfl⟩;have:l.all (s.k6 p r)=true:=List.all_eq_true.2 fun x δ=>by
   obtain⟨j,ε,rfl⟩:=List.getElem_of_mem δ;exact nK j (by omega) ε
  rw[this];exact .of rfl
abbrev Δ (r:Int×Int):θ:=iH [r.1,r.2]
def mV (s:aM) (p:Int×Int) (c:Nat):θ:=fq 1 ((fz s p c).map Δ)
theorem bι {L:List (Int×Int)}:∀e∈L.map Δ,∀a∈e.cells,az 0 a:=fun e he a μ=>by
 obtain⟨x,_,rfl⟩:=List.mem_map.1 he;simp[θ.cells] at μ;subst μ;simp
theorem bκ {s:aM} {p:Int×Int} {l:List Nat}:∀e∈l.map (mV s p),∀a∈e.cells,az 0 a:=fun e he a μ=>by
 obtain⟨x,_,rfl⟩:=List.mem_map.1 he;unfold mV fq at μ;split at μ<;>simp[θ.cells] at μ<;>subst μ<;>simp
theorem Pg (q:Int×Int→Bool) (n i j:Nat):(hF q n i j).length≤i*(n+1)+j:=by
 have h:(oy n i).length=i*(n+1):=by
  induction i with
  | zero=>simp[oy]
  | succ i Γ=>rw[GY,List.length_append,Γ,Nat.succ_mul];simp[lX]
 unfold hF;refine Nat.le_trans (List.length_filter_le _ _) ?_;rw[List.length_append,h];simp[lX]
abbrev xE (l:List (List (List Int))):θ:=a3 aO 1 l
abbrev xF (l:List (Int×Int)):List (List Int):=l.map fun r=>[r.1,r.2]
theorem bμ (s:aM) (h:il s) (p:Int×Int) (χ:0≤p.2∧p.2<p.1∧p.1≤2) :
  av Tryz.prog 41 [eP s,a3 U 1 [p.1,p.2]] (.bt [xE ((List.range s.cells.length).map fun c=>xF (fz s p c)),bm true]):=by
 refine ak.body Θ Tryz.func41 rfl rfl Tryz.ntmps41 rfl rfl (by simp) ?_;(repeat (first|apply ι|(refine ν fun J I=>?_;simp;(repeat (rw[ζ];simp));apply I;clear I J)));have hy:=h.many;have bν:=h.af.hi;refine W.iter (fun c:Nat=>c≤s.cells.length) (fun c=>[(1,a3 U 1 [p.1,p.2]),(2,.aa [aP s.af,aO s.an,bz s.cells]),(6,d' ((List.range c).map (mV s p))),(7,U c)]) (fun c=>bq 23 1 ((List.range c).map (mV s p))) (fun c=>s.cells.length-c) 0 (Nat.zero_le _) rfl (by simp[ou]) (fun c η Γ=>?_);obtain⟨O,cN⟩:∃O,O=(List.range c).map (mV s p):=⟨_,rfl⟩;have Ph:∀e∈O,∀a∈e.cells,az 0 a:=by rw[cN];exact bκ
 refine W.to (σ':=bq 23 1 O) (env':=[(1,a3 U 1 [p.1,p.2]),(2,.aa [aP s.af,aO s.an,bz s.cells]),(6,d' O),(7,U c)]) ?_ (by rw[cN]) (by rw[cN];simp);(repeat (first|apply ι|(refine ν fun J I=>?_;simp;(repeat (rw[ζ];simp));apply I;clear I J)));by_cases bY:c<s.cells.length
 ·refine al (by simp[bY]) ?_;obtain⟨n,Η⟩:∃n,n=s.af.length:=⟨_,rfl⟩;obtain⟨q,Υ⟩:∃q:Int×Int→Bool,q=fun r=>s.lR p r c:=⟨_,rfl⟩;obtain⟨k,υ⟩:∃k,k=(bq 23 1 O).length:=⟨_,rfl⟩;have hw:=lj (i:=c) (by omega);(repeat (first|apply ι|(refine ν fun J I=>?_;simp;(repeat (rw[ζ];simp));apply I;clear I J)));refine W.iter (fun i:Nat=>i≤n+1) (fun i=>[(1,a3 U 1 [p.1,p.2]),(2,.aa [aP s.af,aO s.an,bz s.cells]),(6,d' O),(7,U c),(8,cI k ((hF q n i 0).map Δ)),(9,U ((i:Int)-1))])
   (fun i=>bq 23 1 O++bq 29 1 ((hF q n i 0).map Δ)) (fun i=>n+1-i) 0 (Nat.zero_le _) (by rw[GZ];simp[iG]) (by rw[GZ];simp[cI]) (fun i hi gq=>?_)
  (repeat (first|apply ι|(refine ν fun J I=>?_;simp;(repeat (rw[ζ];simp));apply I;clear I J)));by_cases bb:i<n+1
  ·refine al (by simp[←Η];omega) ?_;(repeat (first|apply ι|(refine ν fun J I=>?_;simp;(repeat (rw[ζ];simp));apply I;clear I J)));refine W.iter (fun j:Nat=>j≤n+1) (fun j=>[(1,a3 U 1 [p.1,p.2]),(2,.aa [aP s.af,aO s.an,bz s.cells]),(6,d' O),(7,U c),(8,cI k ((hF q n i j).map Δ)),(9,U ((i:Int)-1)),(10,U ((j:Int)-1))])
    (fun j=>bq 23 1 O++bq 29 1 ((hF q n i j).map Δ)) (fun j=>n+1-j) 0 (Nat.zero_le _) rfl (by simp) (fun j ε mL=>?_)
   (repeat (first|apply ι|(refine ν fun J I=>?_;simp;(repeat (rw[ζ];simp));apply I;clear I J)));by_cases eI:j<n+1
   ·refine al (by simp[←Η];omega) ?_;have nA:=fy (show j<2 ^ 62 by omega);have Ρ:=bη s h p ((i:Int)-1,(j:Int)-1) χ (by simp;omega) (by simp;omega) c bY;have G4:s.lR p ((i:Int)-1,(j:Int)-1) c=q ((i:Int)-1,(j:Int)-1):=by rw[Υ]
    rw[G4] at Ρ;have dF:=Mr (q:=q) (n:=n) (i:=i) (j:=j);obtain⟨M,dj⟩:∃M,M=hF q n i j:=⟨_,rfl⟩;refine W.to (σ':=bq 23 1 O++bq 29 1 (M.map Δ)) (env':=[(1,a3 U 1 [p.1,p.2]),(2,.aa [aP s.af,aO s.an,bz s.cells]),(6,d' O),(7,U c),(8,cI k (M.map Δ)),(9,U ((i:Int)-1)),(10,U ((j:Int)-1))]) ?_ (by rw[dj]) (by rw[dj];simp);(repeat (first|apply ι));refine ν fun J I=>?_;simp;(repeat (rw[ζ];simp));refine av.c Ρ (aI.cons (.refl _) (.cons (.refl _) (.cons (.refl _) (.cons .ex .nil)))) (by simp) (by simp) ?_;simp;(repeat (rw[ζ];simp));apply I;clear I J;(repeat (first|apply ι|(refine ν fun J I=>?_;simp;(repeat (rw[ζ];simp));apply I;clear I J)));refine ah rfl ?_;(repeat (first|apply ι|(refine ν fun J I=>?_;simp;(repeat (rw[ζ];simp));apply I;clear I J)));cases zn:q ((i:Int)-1,(j:Int)-1)
    ·refine ah rfl ?_;(repeat (first|apply ι|(refine ν fun J I=>?_;simp;(repeat (rw[ζ];simp[nA]));apply I;clear I J)));rw[zn] at dF;refine W.to (mL (j+1) (by omega) (by omega)) ?_ ?_
     ·rw[dF,dj];simp
     ·rw[dF,dj];simp
    ·refine al rfl ?_;rw[zn] at dF
     repeat first|apply ι
     refine W.hl (A:=[52]) Θ [(1,a3 U 1 [p.1,p.2]),(2,.aa [aP s.af,aO s.an,bz s.cells]),(6,d' O),(7,U c),(8,cI k ((M++[((i:Int)-1,(j:Int)-1)]).map Δ)),(9,U ((i:Int)-1)),(10,U ((j:Int)-1))] (bq 23 1 O++bq 29 1 ((M++[((i:Int)-1,(j:Int)-1)]).map Δ)) ?_ (by
      have bξ:M.length≤4294967295:=by
       have R:=Pg q n i j
       have γ:i*(n+1)≤7*7:=Nat.mul_le_mul (by omega) (by omega);rw[dj];omega
      clear mL gq Γ;by_cases Ν:M=[]
      ·subst Ν;simp only[List.map_nil,iG,List.append_nil,show cI k []=.sl true 0 [] from rfl];simp;(repeat (rw[ζ];simp));(try simp[cI,bq,υ])
      ·have kN:M.map Δ≠[]:=by simpa using Ν
       rw[gR kN,ea kN];have bH:(bq 23 1 O++[Row.cells 29 1 (M.map Δ)])[k]?=some (Row.cells 29 1 (M.map Δ)):=by rw[υ];simp
       simp;(repeat (rw[ζ];simp[bH,bξ]));(try simp[cI,bq,υ]))
     (repeat (first|apply ι|(refine ν fun J I=>?_;simp;(repeat (rw[ζ];simp[nA]));apply I;clear I J)));refine W.to (mL (j+1) (by omega) (by omega)) ?_ ?_
     ·rw[dF,dj];simp
     ·rw[dF,dj];simp
   ·refine ah (by simp[←Η];omega) ?_;refine W.exit rfl ?_;have uZ:j=n+1:=by omega
    subst uZ;have:=fy (show i<2 ^ 62 by omega);(repeat (first|apply ι|(refine ν fun J I=>?_;simp;(repeat (rw[ζ];simp[this]));apply I;clear I J)));refine W.to (gq (i+1) (by omega) (by omega)) ?_ ?_
    ·rw[G1]
    ·rw[G1];simp
  ·refine ah (by simp[←Η];omega) ?_;refine W.exit rfl ?_;have dO:i=n+1:=by omega
   subst dO;obtain⟨D,dJ⟩:∃D,D=fz s p c:=⟨_,rfl⟩;have G5:hF q n (n+1) 0=D:=by rw[G2,dJ,Υ,Η];rfl
   rw[G5];have Pj:mV s p c=fq 1 (D.map Δ):=by unfold mV;rw[dJ]
   refine W.cut (bq 23 1 O).length (Nat.zero_le _) [(1,a3 U 1 [p.1,p.2]),(2,.aa [aP s.af,aO s.an,bz s.cells]),(6,d' O),(7,U c),(8,mV s p c)] (by simp) ?_ ?_ ?_
   ·intro id r bU κ;rw[dU bU] at κ;exact wN Ph r (cl κ)
   ·intro z Ν;simp only[List.mem_cons,List.not_mem_nil,or_false] at Ν;rcases Ν with rfl|rfl|rfl|rfl|rfl
    ·exact .low (by simp)
    ·exact .low (by simp)
    ·refine .low ?_;show az _ (d' O);unfold d';by_cases Ν:O=[]
     ·simp[Ν]
     ·rw[if_neg (by simpa using Ν),ea Ν];simp[od]
    ·exact .low (by simp)
    ·show ey _ _ (cI k (D.map Δ)) (mV s p c);rw[Pj];refine zm (t:=29) (by rw[υ];exact Nat.le_refl _) (fun Ν=>?_) (fun e he a μ=>az.mono (bι e he a μ) (Nat.zero_le _));rw[ea Ν,υ];simp
   have q9:O++[mV s p c]=(List.range (c+1)).map (mV s p):=by rw[cN,List.range_succ,List.map_append];rfl
   rw[List.take_left];obtain⟨x,δ⟩:∃x,x=mV s p c:=⟨_,rfl⟩;rw[←δ] at q9 ⊢;obtain⟨gΕ,gΖ,gΗ,IS⟩:=G3 1 (D.map Δ);rw[←Pj,←δ] at IS
   repeat first|apply ι
   refine W.hl (A:=[56]) Θ [(1,a3 U 1 [p.1,p.2]),(2,.aa [aP s.af,aO s.an,bz s.cells]),(6,d' (O++[x])),(7,U c)] (bq 23 1 (O++[x])) ?_ (by
    have bο:O.length≤4294967295:=by rw[cN];simp;omega
    clear Γ gq q9 cN;by_cases Ν:O=[]
    ·subst Ν;rw[IS];simp only[ou,iG];simp;(repeat (rw[ζ];simp));(try simp[d',bq])
    ·rw[qx Ν,ea Ν,IS];simp;(repeat (rw[ζ];simp[bο]));(try simp[d',bq]))
   (repeat (first|apply ι|(refine ν fun J I=>?_;simp;(repeat (rw[ζ];simp[hw]));apply I;clear I J)));exact W.to (Γ (c+1) (by omega) (by omega)) (by rw[q9]) (by rw[q9];simp)
 ·refine ah (by simp[bY]) ?_;have u5:c=s.cells.length:=by omega
  refine W.exit rfl ?_;refine W.Ma (d:=6) Ph [(1,a3 U 1 [p.1,p.2])] (by simp) (by simp) ?_;(repeat (first|apply ι|(refine ν fun J I=>?_;simp;(repeat (rw[ζ];simp));apply I;clear I J)));refine W.ret ⟨_,rfl,?_,rfl⟩;refine db.bt (aI.cons ?_ (aI.cons (.refl _) .nil));rw[cN,u5];refine .trans db.acc ?_;show db _ (.sl false 1 (((List.range s.cells.length).map fun c=>xF (fz s p c)).map aO));rw[List.map_map];refine .map fun c _=>.one ?_ (by unfold mV fq;split<;>rfl) rfl;unfold mV;refine .trans db.acc ?_;show db (.sl false 1 ((fz s p c).map Δ)) (.sl false 1 ((xF (fz s p c)).map (a3 U 1)));rw[List.map_map];exact .map fun r _=>.one .ex rfl rfl
end Go.TL
