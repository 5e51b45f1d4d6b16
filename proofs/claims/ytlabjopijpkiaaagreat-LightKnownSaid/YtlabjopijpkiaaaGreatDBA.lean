import Derived.Sort.LotC
import Derived.Sort.LotD5
import Derived.Sort.Walk13a
import Derived.Test.YtlabjopijpkiaaaGreatDAK
import Derived.Test.YtlabjopijpkiaaaGreatDAP
import Derived.Test.YtlabjopijpkiaaaGreatDAR
import Derived.Test.YtlabjopijpkiaaaGreatDAS
import Derived.Test.YtlabjopijpkiaaaGreatDAY
import Derived.Test.YtlabjopijpkiaaaGreatDAZ
set_option maxHeartbeats 16000000
set_option maxRecDepth 20000
set_option linter.unusedSectionVars false
set_option linter.unusedSimpArgs false
set_option linter.unusedVariables false
namespace Go.TL
open Go.Conc
variable [bj]
section
variable {P:Program} {T:a9} {A:List Nat} {m nt:Nat} {k:List Item} {env:ab} {σ:List Row} {Z:List Item->ab->List Row->Prop} {E:θ->ab->List Row->Prop} {ops:Array Oper}
def x9 (f:Row->cH) (K:θ->List Row->Prop):Prop:=∃a kC,((∀r,f r=.ok a (r::kC))\/∃p:Prop,p/\∀r,f r=.bX p (.ok a (r::kC)))/\K a kC
theorem aμ {f g:Row->cH} {K:θ->List Row->Prop} (h:∀r,f r=g r):x9 f K=x9 g K:=by rw[funext h]
theorem aν {a:θ} {τ:List Row} {K:θ->List Row->Prop}:x9 (λr=>.ok a (r::τ)) K=K a τ:=by
 refine propext ⟨λ⟨b,kC,h,ψ⟩=>?_,λh=>⟨a,τ,.inl λ_=>rfl,h⟩⟩;rcases h with h|⟨p,_,h⟩
 ·have:=h (.map []);injection this with I R
  injection R with _ R
  rw[I,R];exact ψ
 ·have:=h (.map []);cases this
theorem aξ {p:Prop} {a:θ} {τ:List Row} {K:θ->List Row->Prop}:x9 (λr=>.bX p (.ok a (r::τ))) K=(p/\K a τ):=by
 refine propext ⟨λ⟨b,kC,h,ψ⟩=>?_,λh=>⟨a,τ,.inr ⟨p,h.1,λ_=>rfl⟩,h.2⟩⟩;rcases h with h|⟨q,Χ,h⟩
 ·have:=h (.map []);cases this
 ·have:=h (.map []);injection this with ao I
  injection I with I R
  injection R with _ R
  rw[I,R];exact⟨ao▸Χ,ψ⟩
def Pt (P:Program) (f:θ) (args:List θ) (r:Row) (hH:θ->Prop) (x':θ->Row->Prop):Prop:=
 (∃a,eW P f args a/\hH a)\/∃a r',(∀τ,hV P f args (r::τ) (λb s=>b=a/\s=r'::τ) (λ_ _=>False))/\x' a r'
def Pu (P:Program) (T:a9) (A:List Nat) (env:ab) (o:Oper) (r:Row) (τ:List Row) (hH:θ->Prop) (x':θ->Row->Prop) (jb:θ->List Row->Prop):Prop:=match o.op with
 | .call ⟨.value f,args,_⟩=>Pt P (aM env f) (args.toList.map (aM env)) r hH x'
 | .panic _=>False
 | .defer _=>False
 | _=>(iZ T A env o).dS hH (x9 (λr=>hU T A env (r::τ) o) jb)
theorem aο {P:Program} {T:a9} {A:List Nat} {env:ab} {o:Oper} {r:Row} {τ:List Row} {hH:θ->Prop} {x':θ->Row->Prop} {jb:θ->List Row->Prop}:Pu P T A env o r τ hH x' jb=match o.op with
 | .call ⟨.value f,args,_⟩=>Pt P (aM env f) (args.toList.map (aM env)) r hH x'
 | .panic _=>False
 | .defer _=>False
 | _=>(iZ T A env o).dS hH (x9 (λr=>hU T A env (r::τ) o) jb):=Eq.trans rfl rfl
def rv (P:Program) (T:a9) (A:List Nat) (nt:Nat) (ops:Array Oper):List Nat->ab->Row->List Row->List Bool->List Bool->(ab->List Row->Prop)->Prop
 | [],env,r,τ,iX,kn,K=>ve ops iX=true/\ve ops kn=true/\K env (r::τ)
 | i::is,env,r,τ,iX,kn,K=>gL ops[i]? λo=>g4 nt o=true/\gL (fl env ops o) λw=>
   iC w (rv P T A nt ops is (b6 o env .cg) r τ (iX++[false]) (kn++[false]) K)
    (Pu P T A env o r τ (λa=>rv P T A nt ops is (b6 o env a) r τ (iX++[false]) (kn++[false]) K) (λa r'=>rv P T A nt ops is (b6 o env a) r' τ (iX++[true]) (kn++[false]) K) (λa kC=>rv P T A nt ops is (b6 o env a) r kC (iX++[false]) (kn++[true]) K))
def aπ (P:Program) (T:a9) (A:List Nat) (nt:Nat) (ops:Array Oper) (is:List Nat) (o:Oper) (env:ab) (r:Row) (τ:List Row) (iX kn:List Bool) (K:ab->List Row->Prop) (a:θ):Prop:=rv P T A nt ops is (b6 o env a) r τ (iX++[false]) (kn++[false]) K
def aρ (P:Program) (T:a9) (A:List Nat) (nt:Nat) (ops:Array Oper) (is:List Nat) (o:Oper) (env:ab) (τ:List Row) (iX kn:List Bool) (K:ab->List Row->Prop) (a:θ) (r:Row):Prop:=rv P T A nt ops is (b6 o env a) r τ (iX++[true]) (kn++[false]) K
def aς (P:Program) (T:a9) (A:List Nat) (nt:Nat) (ops:Array Oper) (is:List Nat) (o:Oper) (env:ab) (r:Row) (iX kn:List Bool) (K:ab->List Row->Prop) (a:θ) (τ:List Row):Prop:=rv P T A nt ops is (b6 o env a) r τ (iX++[false]) (kn++[true]) K
section
variable {is:List Nat} {i:Nat} {o:Oper} {r:Row} {τ:List Row} {iX kn:List Bool} {K:ab->List Row->Prop} {a:θ}
theorem aτ:aπ P T A nt ops is o env r τ iX kn K a=rv P T A nt ops is (b6 o env a) r τ (iX++[false]) (kn++[false]) K:=Eq.trans rfl rfl
theorem aυ:aρ P T A nt ops is o env τ iX kn K a r=rv P T A nt ops is (b6 o env a) r τ (iX++[true]) (kn++[false]) K:=Eq.trans rfl rfl
theorem aφ:aς P T A nt ops is o env r iX kn K a τ=rv P T A nt ops is (b6 o env a) r τ (iX++[false]) (kn++[true]) K:=Eq.trans rfl rfl
end
theorem W.aχ (Η:bT P T) (vi:P.follows .mixedOrders=true) (g3:ab) (gk:List Row) {id:Nat} (h:W P m nt k g3 gk Z E) (ι:jc P T A nt ops (idx ops.size []) env σ [] (λe s=>s=gk/\∀p∈g3,bc e p.1=p.2)):W P m nt (.code (.region id ops true)::k) env σ Z E:=
 W.draw Η vi λΔ ζ=>MF (λe s ⟨I,R⟩=>ζ e s (I▸W.forget g3 R h)) _ _ _ _ ι
end
end Go.TL
namespace Go.TL
open Go.Proofs
variable [bj]
attribute [congr] aμ
attribute [simp] aν aξ aο aτ aυ aφ
@[simp] theorem hη (d:pf) (n:Int):(d.after n).fS.length<=d.fS.length:=by
 unfold pf.after;split
 ·exact Nat.le_refl _
 ·simp[pf.next]
structure Jf (l:List kA):Prop where
 lo:1<=l.length
 hi:l.length<=6
 each:∀g∈l,zW g.name=false/\1<=g.er/\g.er<=63
 aψ:l.Pairwise λa b=>tj b.name a.name=false
 apart:l.Pairwise λa b=>a.er≠b.er
theorem AS {l:List Int} (h:∀x∈l,x=0):iH l=0:=by
 induction l with
 | nil=>rfl
 | cons x l ω=>
  have:=h x η;subst this;simp[iH];exact ω λy Φ=>h y (by simp[Φ])
theorem Jf.err {l:List kA} (h:Jf l):nQ l=0:=by
 unfold nQ;have I:=h.lo;have R:=h.hi;rw[if_neg γ,if_neg γ];refine AS λx U=>?_;obtain⟨i,hi,rfl⟩:=List.mem_map.1 U;have hi:=List.mem_range.1 hi;unfold pV;rw[ba hi];obtain⟨Γ,Θ,bO⟩:=h.each _ (List.getElem_mem hi);simp only;rw[if_neg (by rw[Γ];simp),if_neg,if_neg γ,if_neg]
 ·intro κ;obtain⟨y,Φ,he⟩:=List.any_eq_true.1 κ;obtain⟨j,δ,rfl⟩:=List.mem_take_iff_getElem.1 Φ;have:=List.pairwise_iff_getElem.1 h.apart j i γ hi γ;simp at he;exact this he
 ·rintro⟨mY,μ⟩;rw[ba γ] at μ;have:=List.pairwise_iff_getElem.1 h.aψ (i-1) i γ hi γ;simp only[Option.map_some,Option.getD_some] at μ;rw[μ] at this;cases this
def BV (i:Nat):ByteArray:=⟨#[[97,98,99,100,111,122].getD i 0]⟩
structure Jg (L:List (List Int)):Prop where
 lo:1<=L.length
 hi:L.length<=4
 each:∀l∈L,l.length<=3/\l.Pairwise (· < ·)/\∀x∈l,0<=x/\x<3
theorem aω {l:List Int} (I:l.Pairwise (· < ·)) (R:∀x∈l,0<=x/\x<3):xq l=0:=by
 refine AS λx U=>?_;obtain⟨i,hi,rfl⟩:=List.mem_map.1 U;have hi:=List.mem_range.1 hi;unfold vv;rw[ba hi];have ν:=R _ (List.getElem_mem hi);simp only;rw[if_neg,if_neg]
 ·rintro⟨ao,Ι⟩;rw[ba γ] at Ι;have:=List.pairwise_iff_getElem.1 I (i-1) i γ hi γ;simp only[Option.getD_some] at Ι;omega
 ·unfold m7;simp;omega
theorem Jg.err {L:List (List Int)} (h:Jg L):nS L=0:=by
 unfold nS;have I:=h.lo;have R:=h.hi;rw[if_neg γ,if_neg γ];refine AS λx U=>?_;obtain⟨i,hi,rfl⟩:=List.mem_map.1 U;have hi:=List.mem_range.1 hi;rw[ba hi];obtain⟨_,ν,Ι⟩:=h.each _ (List.getElem_mem hi);exact aω ν Ι
abbrev tY:θ:=.sl true 0 []
structure Jh (n:Nat) (c:List cG):Prop where
 hi:c.length<=4
 apart:(c.map (·.c8)).Nodup
 each:∀p∈c,(0<=p.c8/\p.c8<n)/\(0<=p.seen/\p.seen<=63)/\(0<=p.bare/\p.bare<=63)/\sf p.seen p.bare=0
structure lV (s:aL):Prop where
 Τ:Jf s.Τ
 ai:Jg s.ai
 many:s.cells.length<=4
 cells:∀c∈s.cells,Jh s.ai.length c
theorem Jh.err {s:aL} {c:List cG} (h:Jh s.ai.length c):p0 s c=0:=by
 unfold p0;have:=h.hi;rw[if_neg γ];refine AS λx U=>?_;obtain⟨i,hi,rfl⟩:=List.mem_map.1 U;have hi:=List.mem_range.1 hi;rw[ba hi];obtain⟨I,R,ν,Ι⟩:=h.each _ (List.getElem_mem hi);simp only;unfold gz;rw[if_neg γ,if_neg,if_neg (by unfold valid;simp;omega),if_pos Ι];intro κ;obtain⟨y,Φ,he⟩:=List.any_eq_true.1 κ;obtain⟨j,δ,rfl⟩:=List.mem_take_iff_getElem.1 Φ;have hd:=List.pairwise_iff_getElem.1 h.apart j i (by simp;omega) (by simpa using hi) γ;simp at he hd;exact hd he
theorem lV.err {s:aL} (h:lV s):s.err=0:=by
 unfold aL.err;rw[h.Τ.err,h.ai.err,if_neg η,if_neg η];unfold so;have:=h.many;rw[if_neg γ];refine AS λx U=>?_;obtain⟨i,hi,rfl⟩:=List.mem_map.1 U;have hi:=List.mem_range.1 hi;rw[ba hi];exact(h.cells _ (List.getElem_mem hi)).err
theorem lV.small {s:aL} (h:lV s):s.small:=by
 have I:=h.Τ.hi
 have R:=h.ai.hi
 have ν:=h.many;refine⟨γ,γ,γ,λx U=>?_,λx U=>?_⟩
 ·have:=(h.ai.each x U).1;omega
 ·have:=(h.cells x U).hi;omega
def aΑ (l:List cG):θ:=ev 3 (l.map cA)
def cq (done:List (List cG)) (fu:Nat):List θ:=done.map aΑ++List.replicate (fu-done.length) tY
section
variable {P:Program} {m nt:Nat} {k:List Item} {env:ab} {σ:List Row} {Z:List Item->ab->List Row->Prop} {E:θ->ab->List Row->Prop}
theorem W.bind {Pv:List Item->ab->List Row->Prop} (h:W P m nt k env σ Pv E) (R:∀j e s,Pv j e s->W P m nt j e s Z E):W P m nt k env σ Z E:=
 λQ mn x cs b S B H t U hb ς Μ he=>h Q mn x cs b S B H t U hb ς
  (λj e s az B' H' t' af Cm κ hO ψ=>by
   cases ψ;exact R j e s Cm Q mn x cs b az B' H' t' U hb hO (λaΒ Θ s2 cL eL bH t2 bG pq a2=>Μ aΒ Θ s2 cL eL bH t2 bG pq (κ.trans a2)) (λa2 Θ s2 cL eL bH t2 bG v2 pq rT=>he a2 Θ s2 cL eL bH t2 bG v2 pq (κ.trans rT)))
  he
theorem W.upto {a:Item} (env':ab) (σ':List Row) (I:W P m nt (a::k) env σ (λj e s=>j=k/\s=σ'/\∀p∈env',bc e p.1=p.2) E) (R:W P m nt k env' σ' Z E):W P m nt (a::k) env σ Z E:=
 .bind I λj e s ⟨δ,μ,he⟩=>by
  subst δ;subst μ;exact .forget env' he R
theorem W.ry {a:Item} {l:Nat} (env':ab) (σ':List Row) (I:W P m nt (a::.inBlock l::k) env σ (λj e s=>j=k/\s=σ'/\∀p∈env',bc e p.1=p.2) E) (R:W P m nt k env' σ' Z E):W P m nt (a::.inBlock l::k) env σ Z E:=
 .bind I λj e s ⟨δ,μ,he⟩=>by
  subst δ;subst μ;exact .forget env' he R
end
section
variable {α:Type} [Inhabited α]
theorem AT (enc:α->θ) (d:Array α) {i:Nat} (h:i<d.size):(d.toList.map enc)[i]?=some (enc d[i]!):=by
 rw[List.getElem?_map,Array.getElem?_toList,pS h];rfl
theorem jV (enc:α->θ) {d:Array α} {n:Nat} (Ε:d.size=n) {i j:Nat} (hi:i<n) (δ:j<n):∃(L:List θ) (x y:α),d.toList.map enc=L/\d[i]! = x/\d[j]! = y/\L.length=n/\(L[i]?=some (enc x)/\∀h,L[i]'h=enc x)/\(L[j]?=some (enc y)/\∀h,L[j]'h=enc y)/\(Go.Sort.swp d i j).toList.map enc=(L.set i (enc y)).set j (enc x)/\∃z,∀h,(L.set i (enc y))[j]'h=enc z:=by
 subst Ε;refine⟨_,_,_,rfl,rfl,rfl,η,⟨AT enc d hi,λh=>?_⟩,⟨AT enc d δ,λh=>?_⟩,by simp[Go.Sort.swp],if i=j then d[j]! else d[j]!,λh=>?_⟩
 ·have:=AT enc d hi;rw[ba h] at this;exact Option.some.inj this
 ·have:=AT enc d δ;rw[ba h] at this;exact Option.some.inj this
 ·rw[List.getElem_set,ite_self];split
  ·rfl
  ·have:=AT enc d δ;rw[ba (by simpa using h)] at this;exact Option.some.inj this
theorem swp_size {d:Array α} {n:Nat} (Ε:d.size=n) (i j:Nat):(Go.Sort.swp d i j).size=n:=by simp[Go.Sort.swp,Ε]
theorem AU (p q:α->Bool) (Χ:∀x,q x = !p x) (d:Array α) {i j a' bb:Nat} (ao:0<i) (fZ:i<=j+1) (fs:Go.Sort.scanUp p d j i=a') (dy:Go.Sort.scanDown q d a' j=bb):i<=a'/\a'<=j+1/\bb<=j/\a'<=bb+1/\(a'<=bb->a'<bb):=by
 obtain⟨ed,dM,hθ,Pw⟩:=Go.Sort.scanUp_spec p d j _ i rfl;obtain⟨v1,v2,vQ,v4⟩:=Go.Sort.scanDown_spec q d a' j;rw[fs] at ed dM Pw;rw[dy] at v1 v2 v4;refine⟨ed,dM fZ,v1,v2 (dM fZ),λh=>?_⟩;rcases Nat.lt_or_ge a' bb with c9|c9
 ·exact c9
 ·have e:a'=bb:=by omega
  have f1:=Pw γ
  have f2:=v4 h γ;rw[Χ,<-e,f1] at f2;cases f2
theorem aΓ (lt:α->α->Bool) {a b n:Nat}:∀(m i j:Nat) (g:Array α),j+1-i<=m->g.size=n->0<i->i<=j+1->j<b->(Go.Sort.partLoop lt a i j g).2.size=n/\(Go.Sort.partLoop lt a i j g).1<b:=by
 intro m
 induction m with
 | zero=>
  intro i j g hm Ο ao fZ δ;rw[Go.Sort.partLoop_eq];obtain⟨a',fs⟩:=gW (Go.Sort.scanUp (λx=>lt x g[a]!) g j i);obtain⟨bb,dy⟩:=gW (Go.Sort.scanDown (λx=>!lt x g[a]!) g a' j);obtain⟨s1,s2,oh,uy,oi⟩:=AU (λx=>lt x g[a]!) (λx=>!lt x g[a]!) (λx=>rfl) g ao fZ fs dy;rw[fs,dy,if_pos (by apply Classical.byContradiction;intro h;have:=oi γ;omega)];exact⟨Ο,by show bb<b;omega⟩
 | succ m ω=>
  intro i j g hm Ο ao fZ δ;rw[Go.Sort.partLoop_eq];obtain⟨a',fs⟩:=gW (Go.Sort.scanUp (λx=>lt x g[a]!) g j i);obtain⟨bb,dy⟩:=gW (Go.Sort.scanDown (λx=>!lt x g[a]!) g a' j);obtain⟨s1,s2,oh,uy,oi⟩:=AU (λx=>lt x g[a]!) (λx=>!lt x g[a]!) (λx=>rfl) g ao fZ fs dy;rw[fs,dy];by_cases ε:a' > bb
  ·rw[if_pos ε];exact⟨Ο,by show bb<b;omega⟩
  ·rw[if_neg ε];have:=oi γ;exact ω (a'+1) (bb-1) _ γ (swp_size Ο a' bb) γ γ γ
theorem aΔ (lt:α->α->Bool) (hi first r:Nat) (e:Array α) {c k:Nat} (ε:c=2*r+1) (h:c<hi) (ψ:k=if(decide (c+1<hi)&&lt e[first+c]! e[first+(c+1)]!)=true then c+1 else c) :
  Go.Sort.siftDown lt hi first r e=if(!lt e[first+r]! e[first+k]!)=true then e else Go.Sort.siftDown lt hi first k (Go.Sort.swp e (first+r) (first+k)):=by
 subst ε;rw[Go.Sort.siftDown,dif_neg γ];have Γ:first+(2*r+1)+1=first+(2*r+1+1):=γ
 have Θ:2*r+2=2*r+1+1:=γ;by_cases b:(decide (2*r+1+1<hi)&&lt e[first+(2*r+1)]! e[first+(2*r+1+1)]!)=true
 ·rw[if_pos b] at ψ;subst ψ;rw[Γ,Θ,if_pos b];have aX:2*r+1+1<hi:=by simp at b;exact b.1
  simp only[dif_pos aX]
 ·rw[if_neg b] at ψ;subst ψ;rw[Γ,if_neg b]
theorem Ji {lt:α->α->Bool} {hi first n:Nat}:∀{r:Nat} {e:Array α},e.size=n->(Go.Sort.siftDown lt hi first r e).size=n:=by
 have key:∀(m r:Nat) (e:Array α),hi-r<=m->e.size=n->(Go.Sort.siftDown lt hi first r e).size=n:=by
  intro m
  induction m with
  | zero=>
   intro r e hm he;rw[Go.Sort.siftDown,dif_pos γ];exact he
  | succ m ω=>
   intro r e hm he;rw[Go.Sort.siftDown];split
   ·exact he
   ·split
    ·split
     ·exact he
     ·split
      ·exact ω _ _ γ (swp_size he _ _)
      ·exact he
    ·split
     ·exact he
     ·exact ω _ _ γ (swp_size he _ _)
 intro r e he;exact key _ r e (Nat.le_refl _) he
theorem Px {lt:α->α->Bool} {hi first n:Nat}:∀{k:Nat} {e:Array α},e.size=n->(Go.Sort.heapBuild lt hi first k e).size=n
 | 0,_,he=>he
 | k+1,e,he=>by
  show(Go.Sort.heapBuild lt hi first k (Go.Sort.siftDown lt hi first k e)).size=n;exact Px (Ji he)
theorem Jj (lt:α->α->Bool) (d:Array α) {a b n:Nat} (κ:a<n) (hb:b<n) (s:Nat):(Go.Sort.order2 lt d a b s).1<n/\(Go.Sort.order2 lt d a b s).2.1<n/\(Go.Sort.order2 lt d a b s).2.2<=s+1:=by
 unfold Go.Sort.order2;split
 ·exact⟨hb,κ,Nat.le_refl _⟩
 ·exact⟨κ,hb,Nat.le_succ _⟩
theorem Jk (p:α->Bool) (d:Array α) {i j:Nat} (h:j<i):Go.Sort.scanDown p d i j=j:=by
 cases j with
 | zero=>rfl
 | succ j=>rw[Go.Sort.scanDown,if_neg (by simp;omega)]
end
structure aΕ (α:Type) where
 a:Nat
 b:Nat
 lim:Nat
 wb:Bool
 wp:Bool
 e:Array α
def ya {α:Type} [Inhabited α] (a l m:Nat):Nat->Nat->UInt64×Array α->UInt64×Array α
 | 0,_,st=>st
 | k+1,idx,st=>ya a l m k (idx+1) (Go.Sort.breakStep a l m st idx)
theorem aΖ {α:Type} [Inhabited α] {d:Array α} {a b l c:Nat} (υ:l=b-a) (nq:8<=l) (ε:c=a+(l / 4)*2):Go.Sort.breakPatterns d a b=(ya a l (1 <<< Go.Sort.bitsLen l) 3 (c-1) (UInt64.ofNat l,d)).2:=by
 subst υ;subst ε;unfold Go.Sort.breakPatterns;simp only[ge_iff_le,nq,if_true];rfl
abbrev n8 (n:Int):θ:=.z (.int .u64 n)
def yb:Go.Sort.Hint->Int
 | .unknown=>0
 | .increasing=>1
 | .decreasing=>2
theorem Py {α:Type} {enc:α->θ} {t k:Nat} {d:Array α} {r2:Row} (hb:∀y,∀a∈(enc y).cells,aK 0 a) (id:Nat) (r:Row) (b7:id<1) (ι:[Row.cells t k (d.toList.map enc),r2][id]?=some r):eV 1 r:=by
 obtain rfl:id=0:=γ;simp at ι;subst ι;intro e he a κ;obtain⟨y,_,rfl⟩:=List.mem_map.1 he;exact aK.mono (hb y a κ) (Nat.zero_le _)
theorem aΗ {l m:Nat} (h:l<2 ^ 62):IntKind.i64.wrap (Int.tdiv (l:Int) (m:Int))=((l / m:Nat):Int):=by
 rw[Int.tdiv_eq_ediv_of_nonneg γ];have I:l / m<=l:=Nat.div_le_self l m;have R:((l:Int) / (m:Int))=((l / m:Nat):Int):=rfl;rw[R];obtain⟨q,Χ⟩:=aO (l / m);rw[<-Χ] at I ⊢;rw[IntWalk.i64_in _ γ]
theorem EB {l m:Nat} (h:l<2 ^ 62):IntKind.i64.wrap ((l:Int) / (m:Int))=((l / m:Nat):Int):=by
 have:=aΗ (m:=m) h;rw[Int.tdiv_eq_ediv_of_nonneg γ] at this;exact this
theorem yc {x:Nat} (h:x<2 ^ 64):IntKind.u64.wrap (x:Int)=(x:Int):=by
 unfold IntKind.wrap;simp[IntKind.bits,IntKind.signed];omega
theorem Jl {x y:Nat} (U:x<2 ^ 64) (Φ:y<2 ^ 64):F8 .u64 (x:Int) (y:Int)=((x^^^y:Nat):Int):=by
 have h:x^^^y<2 ^ 64:=Nat.xor_lt_two_pow U Φ
 have e:(BitVec.ofInt 64 (x:Int)^^^BitVec.ofInt 64 (y:Int)).toNat=x^^^y:=by
  rw[BitVec.toNat_xor,BitVec.ofInt_natCast,BitVec.ofInt_natCast,BitVec.toNat_ofNat,BitVec.toNat_ofNat,Nat.mod_eq_of_lt U,Nat.mod_eq_of_lt Φ]
 show IntKind.u64.wrap (BitVec.ofInt 64 (x:Int)^^^BitVec.ofInt 64 (y:Int)).toNat=_;rw[e];exact yc h
theorem Jm (x k:Nat) (ψ:k<=64):IntKind.u64.wrap ((x:Int)*2 ^ min k IntKind.u64.bits)=((x*2 ^ k % 18446744073709551616:Nat):Int):=by
 have e:min k IntKind.u64.bits=k:=Nat.min_eq_left ψ;rw[e];have Θ:(x:Int)*2 ^ k=((x*2 ^ k:Nat):Int):=η;rw[Θ];obtain⟨y,Φ⟩:=aO (x*2 ^ k);rw[<-Φ];unfold IntKind.wrap;simp[IntKind.bits,IntKind.signed]
theorem aΘ (x k:Nat) (ψ:k<=64):(x:Int).fdiv (2 ^ min k IntKind.u64.bits)=((x / 2 ^ k:Nat):Int):=by
 have e:min k IntKind.u64.bits=k:=Nat.min_eq_left ψ;rw[e,Int.fdiv_eq_ediv_of_nonneg _ (Int.le_of_lt (Int.pow_pos a0))];simp
theorem aΙ {x y:Nat} (U:x<2 ^ 64) (Φ:y<2 ^ 64):iA .u64 (x:Int) (y:Int)=((x&&&y:Nat):Int):=by
 have h:x&&&y<2 ^ 64:=Nat.lt_of_le_of_lt Nat.and_le_left U
 have e:(BitVec.ofInt 64 (x:Int)&&&BitVec.ofInt 64 (y:Int)).toNat=x&&&y:=by
  rw[BitVec.toNat_and,BitVec.ofInt_natCast,BitVec.ofInt_natCast,BitVec.toNat_ofNat,BitVec.toNat_ofNat,Nat.mod_eq_of_lt U,Nat.mod_eq_of_lt Φ]
 show IntKind.u64.wrap (BitVec.ofInt 64 (x:Int)&&&BitVec.ofInt 64 (y:Int)).toNat=_;rw[e];exact yc h
theorem n9 {i:Nat} (h:0<i) (R:i<2 ^ 62):IntKind.i64.wrap ((i:Int)-1)=((i-1:Nat):Int):=by
 rw[IntWalk.i64_in _ γ];omega
theorem jW {i:Nat} (R:i<2 ^ 61):IntKind.i64.wrap ((i:Int)+1)=((i+1:Nat):Int):=by
 rw[IntWalk.i64_in _ γ];omega
theorem Jn {a b:Nat} (h:a<=b) (R:b<2 ^ 62):IntKind.i64.wrap ((b:Int)-a)=((b-a:Nat):Int):=by
 rw[IntWalk.i64_in _ γ];omega
abbrev Θ (r:Int×Int):θ:=cE [r.1,r.2]
theorem aΚ (q:Int×Int->Bool) (n i j:Nat):(kB q n i j).length<=i*(n+1)+j:=by
 have h:(nW n i).length=i*(n+1):=by
  induction i with
  | zero=>simp[nW]
  | succ i ω=>rw[Hy,List.length_append,ω,Nat.succ_mul];simp[lM]
 unfold kB;refine Nat.le_trans (List.length_filter_le _ _) ?_;rw[List.length_append,h];simp[lM]
theorem aΜ (l:List Int) (n:Int) (υ:l.length<2 ^ 62):ak Tryz.prog 137 [.ms 0 l.length 0 l.length,J n] [.cells 3 1 (l.map J)] (λa s=>a=J (idxOf (·==n) l)/\s=[.cells 3 1 (l.map J)]) (λ_ _=>False):=by
 refine ak.body Ρ Tryz.func137 rfl rfl Tryz.ntmps137 rfl rfl η ?_;refine Β ?_;refine W.iter (λi:Nat=>i<=l.length/\∀j,j<i->(h:j<l.length)->(l[j]==n)=false) (λi=>[(0,.ms 0 l.length 0 l.length),(1,J n),(6,.ms 0 l.length 0 l.length),(7,J l.length),(8,J i)]) (λ_=>[.cells 3 1 (l.map J)]) (λi=>l.length-i) 0 ⟨Nat.zero_le _,λj δ=>γ⟩ rfl η (λi hi ω=>?_);refine Β ?_;refine W.fL rfl (λε=>?_) (λε=>?_)
 ·have ε:i<l.length:=by simpa using ε
  refine aT ε ?_;refine W.fL rfl (λbg=>?_) (λbg=>?_)
  ·have Ε:n=l[i]:=by simpa using bg
   refine Β ?_;refine W.ret ⟨_,rfl,?_,rfl⟩;show J i=_;rw[zQ ε (by simp[Ε]) hi.2]
  ·have Ε:¬n=l[i]:=by simpa using bg
   have hw:=eX ε υ;refine aT hw ?_;refine W.to (ω (i+1) ⟨γ,λj δ h=>?_⟩ γ) rfl (by simp[hw]);by_cases e:j=i
   ·subst e;simpa using λx=>Ε x.symm
   ·exact hi.2 j γ h
 ·have ε:l.length<=i:=by simpa using ε
  refine W.exit rfl ?_;refine Β ?_;refine W.ret ⟨_,rfl,?_,rfl⟩;show J (-1)=_;rw[zR λj δ=>hi.2 j γ δ]
theorem aΝ (l:List Int) (n:Int) (υ:l.length<2 ^ 62):ak Tryz.prog 110 [.ms 0 l.length 0 l.length,J n] [.cells 3 1 (l.map J)] (λa s=>a=bs (l.contains n)/\s=[.cells 3 1 (l.map J)]) (λ_ _=>False):=by
 refine ak.body Ρ Tryz.func110 rfl rfl Tryz.ntmps110 rfl rfl η ?_;refine Β ?_;refine a5 λΔ ζ=>?_;refine ak.call (first:=[]) (captured:=[]) ((aΜ l n υ).mono (λa s ⟨I,R⟩=>?_) (λ_ _ h=>h.elim));subst I;subst R;simp;(repeat (rw[ae];simp[]));apply ζ;refine Β ?_;refine W.ret ⟨_,rfl,?_,rfl⟩;rw[<-any_beq,<-zS];simp
def ko (l:List Int) (n:Nat) (aF:List cG) (i:Nat):List cG:=(List.range i).filterMap λk=>if l.contains ((n+k:Nat):Int) then none else aF[k]?
def lb (C:List (List cG)) (c:Nat):Nat:=((C.take c).map List.length).sum
def yd (l:List Int) (C:List (List cG)) (c:Nat):List cG:=ko l (lb C c) (C.getD c []) (C.getD c []).length
def aL.sT (s:aL) (l:List Int):aL:=⟨s.Τ,s.ai,(List.range s.cells.length).map (yd l s.cells)⟩
theorem Pz (l:List Int) (n:Nat) (aF:List cG):ko l n aF 0=[]:=rfl
theorem PA (l:List Int) (n:Nat) (aF:List cG) {i:Nat} (h:i<aF.length):ko l n aF (i+1)=ko l n aF i++if l.contains ((n+i:Nat):Int) then [] else [aF[i]]:=by
 unfold ko;rw[List.range_succ,List.filterMap_append];congr 1;cases ε:l.contains ((n+i:Nat):Int)<;>simp only[List.filterMap_cons,List.filterMap_nil,ε]<;>simp[h]
theorem aΞ (l:List Int) (n:Nat) (aF:List cG) (i:Nat):(ko l n aF i).length<=i:=by
 unfold ko;exact Nat.le_trans (List.length_filterMap_le _ _) η
theorem PB (C:List (List cG)) {c:Nat} (h:c<C.length):lb C (c+1)=lb C c+C[c].length:=by
 unfold lb;rw[List.take_succ_eq_append_getElem h];simp only[List.map_append,List.sum_append,List.map_cons,List.map_nil,List.sum_cons,List.sum_nil,Nat.add_zero]
theorem PC (C:List (List cG)) {m:Nat} (h:∀x∈C,x.length<m) (c:Nat):lb C c<=c*m:=by
 unfold lb
 induction c with
 | zero=>simp
 | succ c ω=>
  by_cases ε:c<C.length
  ·rw[List.take_succ_eq_append_getElem ε];have:=h _ (List.getElem_mem ε);simp only[List.map_append,List.sum_append,List.map_cons,List.map_nil,List.sum_cons,List.sum_nil,Nat.add_zero,Nat.succ_mul];omega
  ·rw[List.take_of_length_le γ];rw[List.take_of_length_le γ] at ω;exact Nat.le_trans ω (Nat.mul_le_mul_right _ (Nat.le_succ c))
abbrev qq (l:List Int) (C:List (List cG)) (c:Nat):θ:=ev 3 ((yd l C c).map cA)
theorem Jo {L:List cG}:∀e∈L.map cA,∀a∈e.cells,aK 0 a:=λe he a κ=>by
 obtain⟨x,_,rfl⟩:=List.mem_map.1 he;simp[θ.cells] at κ;rcases κ with rfl|rfl|rfl<;>exact .z _
theorem aΟ {l:List Int} {C:List (List cG)} {r:List Nat}:∀e∈r.map (qq l C),∀a∈e.cells,aK 0 a:=λe he a κ=>by
 obtain⟨x,_,rfl⟩:=List.mem_map.1 he;unfold qq ev at κ;split at κ
 ·simp[θ.cells] at κ;subst κ;simp
 ·simp[θ.cells] at κ;subst κ;exact j8.2 Jo
abbrev mN (l:List Int) (s:aL):List Row:=[.cells 3 1 (l.map J),ft (aS s.Τ) (aY s.ai) (a7 s.cells),ft tY tY tY]
theorem PD (l:List Int) (s:aL) (h:Nat):∀r∈mN l s,eV h r:=λr ι=>by
 simp only[List.mem_cons,List.not_mem_nil,or_false] at ι;rcases ι with rfl|rfl|rfl
 ·intro e he a κ;obtain⟨x,_,rfl⟩:=List.mem_map.1 he;simp[θ.cells] at κ;subst κ;exact .z _
 ·intro e he a κ;simp[θ.cells] at he;subst he;simp[θ.cells] at κ;rcases κ with rfl|rfl|rfl<;>simp
 ·intro e he a κ;simp[θ.cells] at he;subst he;simp[θ.cells] at κ;subst κ;simp
theorem aΡ (s:aL) (μ:s.small) (l:List Int) (υ:l.length<2 ^ 20) (aΤ:s.cells.length<2 ^ 20) (ye:∀x∈s.cells,x.length<2 ^ 20) :
  ak Tryz.prog 115 [dH s,.ms 0 l.length 0 l.length] [.cells 3 1 (l.map J)] (λa r=>cp a (dH (s.sT l))/\r=[.cells 3 1 (l.map J)]) (λ_ _=>False):=by
 refine ak.body Ρ Tryz.func115 rfl rfl Tryz.ntmps115 rfl rfl η ?_
 repeat apply al
 refine cR (A:=[2,4]) Ρ λΔ ζ=>aV ?_;apply ζ;refine Β ?_;have nu:=λc=>PC s.cells ye c;refine W.iter (λc:Nat=>c<=s.cells.length) (λc=>[(1,.ms 0 l.length 0 l.length),(2,.an 1 1 0 0),(4,.an 2 1 0 0),(5,J (lb s.cells c)),(6,cO 3 ((List.range c).map (qq l s.cells))),(13,a7 s.cells),(14,J s.cells.length),(15,J c)]) (λc=>mN l s++bF 60 1 ((List.range c).map (qq l s.cells))) (λc=>s.cells.length-c) 0 (Nat.zero_le _) (by simp[jg]) (by simp[cO,lb]) (λc ε ω=>?_);obtain⟨O,cK⟩:=aO ((List.range c).map (qq l s.cells));have Jp:∀e∈O,∀a∈e.cells,aK 0 a:=by rw[cK];exact aΟ
 refine W.to (σ':=mN l s++bF 60 1 O) (env':=[(1,.ms 0 l.length 0 l.length),(2,.an 1 1 0 0),(4,.an 2 1 0 0),(5,J (lb s.cells c)),(6,cO 3 O),(13,a7 s.cells),(14,J s.cells.length),(15,J c)]) ?_ (by rw[cK]) (by rw[cK];simp);refine Β ?_;by_cases bA:c<s.cells.length
 ·refine aA (by simp[bA]) ?_;have v5:=ba bA;have g2:=ye _ (List.getElem_mem bA);have PE:=PB s.cells bA;have Et:=nu c;have Jq:yd l s.cells c=ko l (lb s.cells c) s.cells[c] s.cells[c].length:=by
   unfold yd;rw[List.getD_eq_getElem?_getD,v5];rfl
  obtain⟨aF,iQ⟩:=aO (s.cells[c]);rw[<-iQ] at v5 g2 PE Jq;have Jr:∀h,s.cells[c]'h=aF:=λh=>iQ.symm;obtain⟨o,Α⟩:=aO (lb s.cells c);have wJ:c*2 ^ 20<2 ^ 40:=by
   have:c*2 ^ 20<2 ^ 20*2 ^ 20:=Nat.mul_lt_mul_of_pos_right γ a0;exact this
  rw[<-Α] at PE Jq Et ⊢;have hw:=jW (i:=c) γ;obtain⟨k,ψ⟩:=aO ((mN l s++bF 60 1 O).length);refine aT (Ζ bA (Ζ v5 Jr)) ?_;refine W.iter (λi:Nat=>i<=aF.length) (λi=>[(1,.ms 0 l.length 0 l.length),(2,.an 1 1 0 0),(4,.an 2 1 0 0),(5,J ((o+i:Nat))),(6,cO 3 O),(13,a7 s.cells),(14,J s.cells.length),(15,J c),(9,cO k ((ko l o aF i).map cA)),(19,h0 aF),(20,J aF.length),(21,J i)]) (λi=>mN l s++bF 60 1 O++bF 28 3 ((ko l o aF i).map cA)) (λi=>aF.length-i) 0 (Nat.zero_le _) (by rw[Pz];simp[jg]) (by rw[Pz];simp[cO]) (λi hi e6=>?_);have v7:=aΞ l o aF i;obtain⟨M,cd⟩:=aO (ko l o aF i);rw[<-cd] at v7;obtain⟨q,Χ⟩:=aO (o+i);refine W.to (σ':=mN l s++bF 60 1 O++bF 28 3 (M.map cA)) (env':=[(1,.ms 0 l.length 0 l.length),(2,.an 1 1 0 0),(4,.an 2 1 0 0),(5,J q),(6,cO 3 O),(13,a7 s.cells),(14,J s.cells.length),(15,J c),(9,cO k (M.map cA)),(19,h0 aF),(20,J aF.length),(21,J i)]) ?_ (by rw[cd]) (by rw[cd,Χ];simp);refine Β ?_;by_cases mM:i<aF.length
  ·refine aA (by simp[mM]) ?_;have dr:=PA l o aF mM;rw[<-cd,<-Χ] at dr;have PF:=ba mM;obtain⟨x,U⟩:=aO (aF[i]);rw[<-U] at PF dr;have aΥ:∀h,aF[i]'h=x:=λh=>U.symm;obtain⟨Y,kD⟩:=aO (mN l s++bF 60 1 O++bF 28 3 (M.map cA));have aΦ:Y[0]?=some (.cells 3 1 (l.map J)):=by rw[kD];rfl
   have hι:3<=Y.length:=by rw[kD];simp
   have yf:Y.set 0 (.cells 3 1 (l.map J))=Y:=by rw[kD];rfl
   have aΧ:∀h,∀r∈Y,eV h r:=λh r ι=>by
    rw[kD] at ι;rcases List.mem_append.1 ι with ι|ι
    ·rcases List.mem_append.1 ι with ι|ι
     ·exact PD l s h r ι
     ·exact ss Jp r ι
    ·exact ss Jo r ι
   have Js:aK Y.length (cO 3 O):=DC λΜ=>by rw[kD,fF Μ];simp
   have aΨ:aK Y.length (cO k (M.map cA)):=DC λΜ=>by rw[kD,fF Μ,ψ];simp
   refine W.to (σ':=Y) (env':=[(1,.ms 0 l.length 0 l.length),(2,.an 1 1 0 0),(4,.an 2 1 0 0),(5,J q),(6,cO 3 O),(13,a7 s.cells),(14,J s.cells.length),(15,J c),(9,cO k (M.map cA)),(19,h0 aF),(20,J aF.length),(21,J i)]) ?_ (by rw[kD];simp) η;have k6:=jW (i:=i) γ;have l':=jW (i:=q) γ
   repeat apply al
   refine cR (A:=[11]) Ρ λΔ ζ=>fV (Ζ mM (Ζ PF aΥ)) ?_;apply ζ;refine W.m9 (σ0:=Y) (by simp;omega) (aΧ _) (by simp[θ.cells]) [(1,.ms 0 l.length 0 l.length),(2,.an 1 1 0 0),(4,.an 2 1 0 0),(5,J q),(6,cO 3 O),(13,a7 s.cells),(14,J s.cells.length),(15,J c),(9,cO k (M.map cA)),(19,h0 aF),(20,J aF.length),(21,J i),(11,.aa [J x.c8,J x.seen,J x.bare])] (by
    have I:0<Y.length:=γ
    have R:1<Y.length:=γ
    have ν:2<Y.length:=γ;simp[kS,r9,θ.cells,I,R,ν,Js,aΨ]) ?_
   refine a5 λΔ ζ=>?_;refine ak.one (as0:=[.ms 0 l.length 0 l.length,J q]) (aΝ l q γ) 0 aΦ (nP (f:=J) λx=>by simp[θ.cells]) (nP (f:=J) λx=>by simp[θ.cells]) (by simp[jL,aK.kh]) ((aK.z _).kh 1) (by simp[jM,nO]) ?_;simp[nO];(repeat (rw[ae];simp[]));rw[yf];apply ζ;have yg:q+1=o+(i+1):=γ;by_cases a4:(q:Int)∈l
   ·refine ay (by simp[a4]) ?_;have mX:l.contains (q:Int)=true:=by simpa using a4
    rw[if_pos mX,List.append_nil] at dr;refine aT (Ζ k6 l') ?_;refine W.to (e6 (i+1) γ γ) (by rw[dr,kD]) ?_;rw[dr,<-yg];simp
   ·refine aA (by simp[a4]) ?_;have mX:¬l.contains (q:Int)=true:=by simpa using a4
    rw[if_neg mX] at dr
    repeat apply al
    refine W.g8 (A:=[32]) Ρ [(1,.ms 0 l.length 0 l.length),(2,.an 1 1 0 0),(4,.an 2 1 0 0),(5,J q),(6,cO 3 O),(13,a7 s.cells),(14,J s.cells.length),(15,J c),(9,cO k ((M++[x]).map cA)),(19,h0 aF),(20,J aF.length),(21,J i)] (mN l s++bF 60 1 O++bF 28 3 ((M++[x]).map cA)) ?_ (by
     clear e6 ω;by_cases Μ:M=[]
     ·subst Μ;have Γ:cO k (([]:List cG).map cA)=.sl true 0 []:=rfl;have Θ:Y=mN l s++bF 60 1 O:=by rw[kD];simp[jg]
      rw[Γ,Θ];simp;(repeat (rw[ae];simp[]));(try simp[cO,bF,ψ])
     ·have jz:M.map cA≠[]:=by simpa using Μ
      rw[o1 jz,kD,fF jz];have bN:(mN l s++bF 60 1 O++[Row.cells 28 3 (M.map cA)])[k]?=some (Row.cells 28 3 (M.map cA)):=by rw[ψ];simp
      have yh:M.length<=4294967295:=γ;simp;(repeat (rw[ae];simp[bN,yh]));(try simp[cO,bF,ψ]);(try (rw[ae];simp)))
    refine aT (Ζ k6 l') ?_;refine W.to (e6 (i+1) γ γ) (by rw[dr];simp) ?_;rw[dr,<-yg];simp
  ·refine ay (by simp[mM]) ?_;have ec:i=aF.length:=γ;subst ec;refine W.exit rfl ?_;refine W.to (σ':=mN l s++bF 60 1 O++bF 28 3 (M.map cA)) (env':=[(1,.ms 0 l.length 0 l.length),(2,.an 1 1 0 0),(4,.an 2 1 0 0),(5,J q),(6,cO 3 O),(13,a7 s.cells),(14,J s.cells.length),(15,J c),(9,cO k (M.map cA))]) ?_ η η;refine W.cut (mN l s++bF 60 1 O).length η [(1,.ms 0 l.length 0 l.length),(2,.an 1 1 0 0),(4,.an 2 1 0 0),(5,J q),(6,cO 3 O),(13,a7 s.cells),(14,J s.cells.length),(15,J c),(9,ev 3 (M.map cA))] η ?_ ?_ ?_
   ·intro id r b7 ι;rw[dv b7] at ι;have ι:=cx ι;rcases List.mem_append.1 ι with ι|ι
    ·exact PD l s _ r ι
    ·exact ss Jp r ι
   ·have Js:aK (mN l s++bF 60 1 O).length (cO 3 O):=DC λΜ=>by rw[fF Μ];simp
    intro z Μ;simp only[List.mem_cons,List.not_mem_nil,or_false] at Μ;rcases Μ with rfl|rfl|rfl|rfl|rfl|rfl|rfl|rfl|rfl
    ·exact .low (r9.2 η)
    ·exact .low (kS.2 η)
    ·exact .low (kS.2 η)
    ·exact .low η
    ·exact .low Js
    ·exact .low η
    ·exact .low η
    ·exact .low η
    ·refine xA (t:=28) (by rw[ψ];exact Nat.le_refl _) (λΜ=>?_) (λe he a κ=>aK.mono (Jo e he a κ) (Nat.zero_le _));rw[fF Μ,ψ];simp
   have Jt:q=lb s.cells (c+1):=γ
   have qM:O++[qq l s.cells c]=(List.range (c+1)).map (qq l s.cells):=by rw[cK,List.range_succ,List.map_append];rfl
   have aΩ:qq l s.cells c=ev 3 (M.map cA):=by unfold qq;rw[Jq,cd]
   rw[aΩ] at qM;rw[List.take_left];obtain⟨x,U⟩:=aO (ev 3 (M.map cA));obtain⟨hκ,hμ,hν,Ju⟩:=Hz 3 (M.map cA);rw[<-U] at qM Ju ⊢
   repeat apply al
   refine W.g8 (A:=[39]) Ρ [(1,.ms 0 l.length 0 l.length),(2,.an 1 1 0 0),(4,.an 2 1 0 0),(5,J q),(6,cO 3 (O++[x])),(13,a7 s.cells),(14,J s.cells.length),(15,J c)] (mN l s++bF 60 1 (O++[x])) ?_ (by
    have bα:O.length<=4294967295:=by rw[cK];simp;omega
    clear ω e6 qM;by_cases Μ:O=[]
    ·rw[Μ,Ju];have Γ:cO 3 ([]:List θ)=.sl true 0 []:=rfl;rw[Γ];simp only[jg,List.append_nil];simp;(repeat (rw[ae];simp[]));(try simp[cO,bF])
    ·rw[o1 Μ,fF Μ,Ju];have bN:(mN l s++[Row.cells 60 1 O])[3]?=some (Row.cells 60 1 O):=rfl;simp;(repeat (rw[ae];simp[bα,bN]));(try simp[cO,bF]))
   refine aT hw ?_;exact W.to (ω (c+1) γ γ) (by rw[qM];simp) (by rw[qM,<-Jt];simp)
 ·refine ay (by simp[bA]) ?_;have sB:c=s.cells.length:=γ;refine W.exit rfl ?_
  repeat apply al
  obtain⟨V,lx⟩:=aO (cO 3 O);have Jv:(V=.sl true 0 []/\bF 60 1 O=[])\/(V=.ms 3 O.length 0 O.length/\bF 60 1 O=[.cells 60 1 O]):=by
   by_cases Μ:O=[]
   ·exact .inl ⟨by rw[lx,Μ];rfl,by rw[Μ];rfl⟩
   ·exact .inr ⟨by rw[lx,o1 Μ],fF Μ⟩
  obtain⟨X,n6⟩:=aO (bF 60 1 O);rw[<-n6] at Jv;rw[<-lx,<-n6];refine W.g8 (A:=[]) Ρ [(2,.an 1 1 0 0),(4,.an 2 1 0 0)] (.cells 3 1 (l.map J)::ft (aS s.Τ) (aY s.ai) V::ft tY tY tY::X) ?_ (by
   rcases Jv with⟨Γ,Θ⟩|⟨Γ,Θ⟩<;>(rw[Γ,Θ];(try simp);(repeat (rw[ae];simp[]));(try simp[])))
  repeat apply al
  refine W.g8 (A:=[]) Ρ [(4,.an 2 1 0 0)] (.cells 3 1 (l.map J)::ft (aS s.Τ) (aY s.ai) V::ft (aS s.Τ) (aY s.ai) V::X) ?_ (by
   rcases Jv with⟨Γ,Θ⟩|⟨Γ,Θ⟩<;>(rw[Γ,Θ];(try simp);(repeat (rw[ae];simp[]));(try simp[])))
  refine W.cut 1 η [(4,.aa [aS s.Τ,aY s.ai,ev 1 O])] η ?_ ?_ ?_
  ·intro id r b7 ι;obtain rfl:id=0:=γ;simp at ι;subst ι;intro e he a κ;obtain⟨x,_,rfl⟩:=List.mem_map.1 he;simp[θ.cells] at κ;subst κ;exact .z _
  ·intro z Μ;simp only[List.mem_cons,List.not_mem_nil,or_false] at Μ;subst Μ;refine .struct (id:=2) a0 (show _=some (Row.cells _ _ [.a6 _]) from rfl) rfl λx a bP I R=>?_
   match x with
   | 0=>simp at I R;subst I;subst R;exact .low η
   | 1=>simp at I R;subst I;subst R;exact .low η
   | 2=>
    simp at I R;subst I;subst R;rw[lx];refine xA (t:=60) a0 (λΜ=>?_) (λe he a κ=>aK.mono (Jp e he a κ) (Nat.zero_le _));rw[n6,fF Μ];rfl
   | x+3=>simp at R
  ·repeat apply al
   refine W.ret ⟨_,rfl,?_,rfl⟩;show cp (.a6 [aS s.Τ,aY s.ai,ev 1 O]) _;refine .a6 (.cons (.refl _) (.cons (.refl _) (.cons ?_ .nil)));rw[cK,sB];refine .trans cp.acc ?_;show cp (.sl false 1 ((List.range s.cells.length).map (qq l s.cells))) (.sl false 1 (((List.range s.cells.length).map (yd l s.cells)).map h0));rw[List.map_map];exact .map λc _=>.one cp.acc (by unfold qq ev;split<;>rfl) rfl
end Go.TL
namespace Go.TL
open Go.Conc Go.Proofs
variable [bj]
def n' (c i:Nat):List (List Int):=(List.range i).map λj:Nat=>[(c:Int),(j:Int)]
def tZ (C:List (List cG)) (c:Nat):List (List Int):=(List.range c).flatMap λc=>n' c (C.getD c []).length
def placesOf (C:List (List cG)):List (List Int):=tZ C C.length
theorem PG (C:List (List cG)) (c:Nat):tZ C (c+1)=tZ C c++n' c (C.getD c []).length:=by
 simp[tZ,List.range_succ]
theorem bβ (c i:Nat):n' c (i+1)=n' c i++[[(c:Int),(i:Int)]]:=by simp[n',List.range_succ]
theorem bγ (C:List (List cG)) (c:Nat) (h:c<=C.length):(tZ C c).length=lb C c:=by
 induction c with
 | zero=>rfl
 | succ c ω=>
  rw[PG,PB C γ,List.length_append,ω γ];simp[n',List.getD_eq_getElem?_getD,show c<C.length by omega]
def v8 (C:List (List cG)) (F:List Nat->List Found):List (List Int):=
 match (jl (lb C C.length) 0).find? (λl=>!(F l).isEmpty) with
 | some l=>l.map λk=>(placesOf C).getD k []
 | none=>[]
abbrev im (s:aL):Row:=ft (aS s.Τ) (aY s.ai) (a7 s.cells)
abbrev qs:Row:=.cells 23 1 [tY]
theorem PH (s:aL) (h:Nat):eV h (im s):=λe he a κ=>by
 simp[θ.cells] at he;subst he;simp[θ.cells] at κ;rcases κ with rfl|rfl|rfl<;>simp
noncomputable abbrev PI (vs:Array Value):Frame:=Frame.enter Tryz.prog 58 vs .normal
abbrev AV (P:List (List Int)):ab:=[(1,.an 0 1 0 0),(5,.aa [ev 1 (P.map cE)]),(9,.an 1 1 0 0)]
section
variable {Q:Value->Prop} {mn:Bool} {c:Frame} {rest:List Frame}
theorem PJ {x:gJ} {eg S:aD} {B:aP} {di H:π} {aj a2 ck:θ} {b:Frame} {env:ab} (U:Seq x) (hX:ts Tryz.prog Q mn x c rest eg [] di [] (λa s=>cp a aj/\s=[]) (λ_ _=>False)) (cf:b.fn=58) (gn:b.kind=.normal) (eu:b.defers=[]) (It:b.mode=.returning)
  (he:Ext eg [] di S B H) (χ:Holds S B [] H) (μ:cX S B [] env b.tmps) (R:bc env 2=a2) (ν:bc env 3=ck) (df:cp (.a3 [a2,ck]) aj):aE Tryz.prog Q mn x b (c::rest) H:=by
 refine aE.back U It eu (.inl gn) (fn:=Tryz.f58) (by rw[cf];exact Tryz.func58) ?_;refine ξ.mono (λv fE ⟨gm,gN,eU,sW,aB,uz⟩=>?_) (λ_ _ h=>h) _ (zv Ρ (a:=.a3 [a2,ck]) (show nJ bf [.tmp 2,.tmp 3] env []=some (.a3 [a2,ck]) by simp[nJ,q4,R,ν,zu]) χ μ);obtain rfl:gN=[]:=dB.1 aB.len;have AB:=he.trans eU;exact hX.ret _ [] _ [] fE v ⟨df,rfl⟩ AB ⟨AB.dc,λid r h=>by simp at h⟩ aB uz
theorem PK (s:aL) (μ:s.small) (aΤ:s.cells.length<2 ^ 10) (ye:∀x∈s.cells,x.length<2 ^ 10) (Ε:s.err=0->lb s.cells s.cells.length<=10) (F:List Nat->List Found)
  (Η:s.err=0->∀l:List Nat,(∀x∈l,x<lb s.cells s.cells.length)->Ω Tryz.prog 116 [dH (s.sT (l.map λn:Nat=>(n:Int)))] (cj (F l))/\(F l).length<2 ^ 20) :
  Ω Tryz.prog 58 [dH s] (.a3 [aY (if s.err=0 then v8 s.cells F else []),J s.err]):=by
 refine⟨⟨_,Tryz.func58,rfl,rfl⟩,λQ mn x c rest eg eh di vs U oB tV hX=>?_⟩;obtain rfl:eh=[]:=dB.1 oB.len;rw[nR (body:=Tryz.f58.body.getD .skip) Tryz.func58 rfl];refine V.here (x:=x) (m:=0) (nt:=65) (S:=eg) (B:=[]) (H:=di) (σ:=[]) (env:=entry 0 [dH s]) ?_ (fi.enter oB tV (Nat.le_refl _) η);refine V.eY U rfl ?_;simp only[Tryz.f58,Option.getD_some]
 repeat apply al
 refine cR (A:=[1]) Ρ λΔ ζ=>aV ?_;apply ζ;refine W.scope ?_;refine a5 λΔ ζ=>?_;refine Ω.d (p1 s μ) (aV ?_);apply ζ;refine Β ?_;by_cases bZ:s.err=0
 case neg=>
  rw[if_neg bZ] at hX;generalize s.err=eM at bZ hX ⊢;refine aA (by simp[bZ]) ?_;refine Β ?_;refine W.cut 0 (Nat.zero_le _) [(2,.sl true 0 []),(3,J eM)] η (λid r h=>γ) (λz Μ=>by
   simp only[List.mem_cons,List.not_mem_nil,or_false] at Μ;rcases Μ with rfl|rfl<;>exact .low η) ?_
  refine W.stop ?_;intro gm gN fE t5 fN g9;refine aE.ret U rfl rfl ?_;exact PJ U hX rfl rfl rfl rfl fN.ext g9.holds g9.b5 rfl rfl (.a3 (.cons .nil (.cons (.refl _) .nil)))
 rw[if_pos bZ,bZ] at hX;have Ε:=Ε bZ;have Η:=Η bZ;rw[bZ];refine ay η ?_
 repeat apply al
 refine cR (A:=[5]) Ρ λΔ ζ=>aV ?_;apply ζ;refine Β ?_;have nu:=λc=>PC s.cells ye c;refine W.iter (λc:Nat=>c<=s.cells.length) (λc=>[(1,.an 0 1 0 0),(5,.an 1 1 0 0),(19,a7 s.cells),(20,J s.cells.length),(21,J c)]) (λc=>[im s,.cells 23 1 [cO 2 ((tZ s.cells c).map cE)]]++bF 29 1 ((tZ s.cells c).map cE)) (λc=>s.cells.length-c) 0 (Nat.zero_le _) rfl η (λc ε ω=>?_);have Jw:=bγ s.cells c ε;have v9:=PG s.cells c;have Α:=nu c;have wJ:c*2 ^ 10<=2 ^ 20:=Nat.mul_le_mul_right (2 ^ 10) (show c<=2 ^ 10 by omega);obtain⟨O,cK⟩:=aO (tZ s.cells c);rw[<-cK] at Jw v9;refine W.to (σ':=[im s,.cells 23 1 [cO 2 (O.map cE)]]++bF 29 1 (O.map cE)) (env':=[(1,.an 0 1 0 0),(5,.an 1 1 0 0),(19,a7 s.cells),(20,J s.cells.length),(21,J c)]) ?_ (by rw[cK]) η;refine Β ?_;by_cases bA:c<s.cells.length
 ·refine aA (by simp[bA]) ?_;have v5:=ba bA;have g2:=ye _ (List.getElem_mem bA);rw[List.getD_eq_getElem?_getD,v5] at v9;obtain⟨aF,iQ⟩:=aO (s.cells[c]);rw[<-iQ] at v5 g2 v9;simp only[Option.getD_some] at v9;have Jr:∀h,s.cells[c]'h=aF:=λh=>iQ.symm;have hw:=jW (i:=c) γ;refine aT (Ζ bA (Ζ v5 Jr)) ?_;refine W.iter (λi:Nat=>i<=aF.length) (λi=>[(1,.an 0 1 0 0),(5,.an 1 1 0 0),(19,a7 s.cells),(20,J s.cells.length),(21,J c),(6,J c),(7,h0 aF),(27,J aF.length),(28,J i)]) (λi=>[im s,.cells 23 1 [cO 2 ((O++n' c i).map cE)]]++bF 29 1 ((O++n' c i).map cE)) (λi=>aF.length-i) 0 (Nat.zero_le _) (by simp[n']) η (λi hi e6=>?_);have dr:=bβ c i;have v7:(O++n' c i).length<=2 ^ 21:=by simp[n'];omega
  obtain⟨M,cd⟩:=aO (O++n' c i);rw[<-cd] at v7;have nY:O++n' c (i+1)=M++[[(c:Int),(i:Int)]]:=by rw[dr,cd,List.append_assoc]
  refine W.to (σ':=[im s,.cells 23 1 [cO 2 (M.map cE)]]++bF 29 1 (M.map cE)) (env':=[(1,.an 0 1 0 0),(5,.an 1 1 0 0),(19,a7 s.cells),(20,J s.cells.length),(21,J c),(6,J c),(7,h0 aF),(27,J aF.length),(28,J i)]) ?_ (by rw[cd]) η;refine Β ?_;by_cases mM:i<aF.length
  ·refine aA (by simp[mM]) ?_;have k6:=jW (i:=i) γ;refine Β ?_;refine W.g8 (A:=[36]) Ρ [(1,.an 0 1 0 0),(5,.an 1 1 0 0),(19,a7 s.cells),(20,J s.cells.length),(21,J c),(6,J c),(7,h0 aF),(27,J aF.length),(28,J i)] ([im s,.cells 23 1 [cO 2 ((M++[[(c:Int),(i:Int)]]).map cE)]]++bF 29 1 ((M++[[(c:Int),(i:Int)]]).map cE)) ?_ (by
    clear e6 ω;by_cases Μ:M=[]
    ·subst Μ;have Γ:cO 2 (([]:List (List Int)).map cE)=.sl true 0 []:=rfl;have Θ:bF 29 1 (([]:List (List Int)).map cE)=[]:=rfl;rw[Γ,Θ];(try simp);(repeat (rw[ae];simp[]));(try simp[]);simp[cO,bF]
    ·have jz:M.map cE≠[]:=by simpa using Μ
     rw[o1 jz,fF jz];have yh:M.length<=4294967295:=γ;(try simp);(repeat (rw[ae];simp[yh]));(try simp[yh]);simp[cO,bF])
   refine aT k6 ?_;exact W.to (e6 (i+1) γ γ) (by rw[nY];simp) η
  ·refine ay (by simp[mM]) ?_;have ec:i=aF.length:=γ;subst ec;refine W.exit rfl ?_;refine aT hw ?_;rw[<-cd] at v9;exact W.to (ω (c+1) γ γ) (by rw[v9];simp) η
 ·refine ay (by simp[bA]) ?_;have sB:c=s.cells.length:=γ;refine W.exit rfl ?_
  repeat apply al
  refine W.cut 1 (Nat.zero_le _) [(1,.an 0 1 0 0),(5,.aa [ev 1 (O.map cE)])] η ?_ ?_ ?_
  ·intro id r b7 ι;obtain rfl:id=0:=γ;simp at ι;subst ι;exact PH s 1
  ·intro z Μ;simp only[List.mem_cons,List.not_mem_nil,or_false] at Μ;rcases Μ with rfl|rfl
   ·exact .low (kS.2 a0)
   ·refine .an (id:=1) (t:=23) (k:=1) (l:=[cO 2 (O.map cE)]) (e:=cO 2 (O.map cE)) a0 rfl rfl rfl (by unfold cO;split<;>simp[θ.cells]) λx a bP I R=>?_
    match x with
    | 0=>
     have Γ:(cO 2 (O.map cE)).cells=[cO 2 (O.map cE)]:=by unfold cO;split<;>rfl
     rw[Γ] at I;simp at I R;subst I;subst R;refine xA (t:=29) a0 (λΜ=>?_) (λe he a κ=>aK.mono (xu e he a κ) (Nat.zero_le _));rw[fF Μ];rfl
    | x+1=>simp at R
  obtain⟨n,bC⟩:=aO O.length;have PL:n=lb s.cells s.cells.length:=by rw[bC,Jw,sB]
  have AW:∃b kk l,ev 1 (O.map cE)=.sl b kk l/\l.length=n:=by
   unfold ev;split
   ·rename_i h;exact⟨_,_,_,rfl,by rw[bC];simp at h;simp[h]⟩
   ·exact⟨_,_,_,rfl,by rw[bC];simp⟩
  rw[<-PL] at Ε Η;have PM:O=placesOf s.cells:=by rw[cK,sB];rfl
  have Θ:v8 s.cells F=match (jl n 0).find? (λl=>!(F l).isEmpty) with|some l=>l.map (λk=>O.getD k [])|none=>[]:=by unfold v8;rw[<-PL,<-PM]
  clear PM v9 Jw cK ω Α wJ sB ε bA
  repeat apply al
  simp only[List.take_succ_cons,List.take_zero];refine cR (A:=[9]) Ρ λΔ ζ=>aV ?_;apply ζ
  repeat apply al
  refine W.label ?_;obtain⟨hξ,hο,hπ,Jx,PN⟩:=AW;refine iE (Ζ Jx PN) λΔ ζ=>?_;refine Ω.d (OO n) (fV (Ζ Jx PN) ?_);apply ζ
  repeat apply al
  refine W.forget ((41,.fn (.func 126) [] [.aa [J n]])::AV O) (by simp[Jx]) ?_;refine W.stop ?_;intro bz bB H1 t1 lL hK;have vI:∀r∈[im s,qs],vO r:=λr ι=>by
   simp only[List.mem_cons,List.not_mem_nil,or_false] at ι;rcases ι with rfl|rfl<;>exact⟨_,_,_,rfl⟩
  have bu:=hK.b5 41;simp only[bc,if_true] at bu;obtain⟨ag,tW⟩:=aO (t1.getD 41 undef);rw[<-tW] at bu;cases bu with
  | fn w1 k3 Ξ ah aR ca=>
  have Iw:w1=#[]:=Array.eq_empty_of_size_eq_zero (by rw[<-Ξ];rfl);subst Iw;refine aE.rangeFunc U rfl rfl (fo:=.tmp 41) tW.symm ⟨_,Tryz.func126,rfl,rfl⟩ λr1 L I R=>?_;have vT:¬bB.has r1:=hK.holds.Ek vI I;have sM:=hK.holds.aZ (y:=.deferred (some [])) vT;have sN:Ext bz bB H1 bz bB (H1.aZ r1 (.deferred (some []))):=Ext.Ej I;have qm:(H1.aZ r1 (.deferred (some []))).obj r1=some (.deferred (some [])):=by simp[π.aZ]
  have Ix:di.fresh r1:=lL.ext.grow _ I
  have sO:di.fresh L:=lL.ext.grow _ (sN.grow _ R);generalize Zl:H1.aZ r1 (.deferred (some []))=AD at R sM sN qm;have sP:r1≠L:=λe=>by rw[e,R.2.2.1] at qm;cases qm
  have AE:¬bB.has L:=sM.Ek vI R
  have AF:∀(S:aD) (B:aP) (H:π) (σ:List Row),eO 2 bz bB AD [im s,qs] S B H σ->bQ bz S bB B [im s,qs] σ:=λS B H σ κ=>κ.all sM η
  have AG:∀(k8:Frame) (S:aD) (B:aP) (H:π) (env:ab) (a2:θ),k8.fn=58->k8.kind=.normal->k8.mode=.returning->k8.defers=[⟨.collected r1,#[]⟩]->Ext eg [] di S B H->Holds S B [] H->H.obj r1=some (.deferred (some []))->
    cX S B [] env k8.tmps->bc env 2=a2->bc env 3=J 0->cp a2 (aY (v8 s.cells F))->aE Tryz.prog Q mn x k8 (_::rest) H:=
   λk8 S B H env a2 dh c6 gj qX qY Em qh Iy Iz IA IB=>by
   obtain rfl:B=[]:=dB.1 Em.len;refine aE.collected U gj qX qh ?_;exact PJ U hX (b:={k8 with defers:=[]}) dh c6 rfl gj (qY.aZ Ix ⟨_,qh⟩) (Em.aZ (λ⟨_,h⟩=>by cases h)) Iy Iz IA (.a3 (.cons IB (.cons (.refl _) .nil)))
  rw[nR (body:=Tryz.f126.body.getD .skip) Tryz.func126 rfl];have AH:fj bz bB [im s,qs] ([qk L]++[.aa [J n]]) (#[.func (.yield L) #[] #[]]++k3):=by
   refine fj.append ⟨rfl,λi a v dh c6=>?_⟩ ⟨ah,ca⟩
   match i with
   | 0=>simp at dh c6;subst dh;subst c6;exact .fn #[] #[] rfl rfl (λi a v hi=>by simp at hi) (λi a v hi=>by simp at hi)
   | i+1=>simp at dh
  refine OF (o:=⟨bz,bB,AD,[im s,qs],2⟩) (L:=L) (Fnd:=λrem=>(jl n 0).find? (λl=>!(F l).isEmpty)=rem.find? (λl=>!(F l).isEmpty)) U Ε ?_ rfl bz bB _ _ (eO.of (Ext.Ej R) (bQ.refl ..)) (fi.enter (sM.aZ AE) AH (Nat.le_refl _) η) AE (by simp[π.aZ];rfl);refine⟨rfl,PH s 2,by simp[eV,θ.cells],rfl,λl rem sQ OR aI S B H ws Zq κ χ jk av hv IC ID=>?_,λsQ S B H κ χ jk av=>?_⟩
  ·obtain⟨vU,qN⟩:=iI κ.ext vT qm;have IE:=AF _ _ _ _ κ;have k0:=hK.b5.later IE;have vV:Ext eg [] di S B H:=lL.ext.trans (sN.trans κ.ext);obtain⟨w0,rfl⟩:∃w0,ws=#[w0]:=by
    have I:=hv.1;clear hv;obtain⟨wl⟩:=ws
    match wl,I with
    | [w0],_=>exact⟨w0,rfl⟩
   have IF:((#[42]:Array Tmp).zip #[w0]).foldl (λtmps (t,a)=>tmps.setIfInBounds t a) t1=t1.setIfInBounds 42 w0:=η;change aE Tryz.prog Q mn x (Frame.round L 58 (((#[42]:Array Tmp).zip #[w0]).foldl (λtmps (t,a)=>tmps.setIfInBounds t a) t1) _ _ .normal) _ _;rw[IF];have xP:au S B [im s,qs,dP l] (.ms 2 l.length 0 l.length) w0:=hv.2 0 _ _ rfl rfl;have OS:l.length<2 ^ 30:=γ;have vS:cX S B [im s,qs,dP l] ((42,.ms 2 l.length 0 l.length)::AV O) (t1.setIfInBounds 42 w0):=rq (cX.put k0 (d:=42) (by rw[hK.size];omega) xP) η;refine V.here (b:=Frame.round L 58 t1 .skip .skip .normal) (t:=t1.setIfInBounds 42 w0) (m:=3) (nt:=65) (S:=S) (B:=B) (H:=H) (σ:=[im s,qs,dP l]) (env:=(42,.ms 2 l.length 0 l.length)::AV O) ?_ ⟨χ,vS,Eq.trans (Array.size_setIfInBounds ..) hK.size,Nat.le_refl _⟩;refine V.eY U rfl ?_;refine Β ?_;refine W.stop ?_;intro jP jQ hJ t3 fW eG;obtain⟨qn,vW⟩:=iI fW.ext jk av;obtain⟨IG,IH⟩:=iI fW.ext vU qN;refine aE.beginRound U rfl rfl vW rfl ?_;refine V.here (b:=Frame.round L 58 t1 .skip .skip .normal) (m:=3) (nt:=65) ?_ ⟨eG.holds.aZ qn,eG.b5,eG.size,eG.rows⟩;refine V.eY U rfl ?_;obtain⟨z,Μ⟩:=aO (l.map λn:Nat=>(n:Int));have IK:dP l=.cells 3 1 (z.map J):=by rw[Μ,List.map_map];rfl
   have m5:z.length=l.length:=by rw[Μ,List.length_map]
   have PO:=ak.oS (aΡ s μ z γ γ (λx U=>by have:=ye x U;omega)) (b9.refl _) (K':=λa r=>a=dH (s.sT z)/\r=[.cells 3 1 (z.map J)]) (λa r ⟨I,R⟩=>⟨_,I,rfl,R⟩);obtain⟨PQ,AA⟩:=Η l aI;rw[<-Μ] at PQ;rw[m5,<-IK] at PO;have cQ:aK 0 (dH s):=η;have ey:aK 0 (dH (s.sT z)):=η;have g2:jf (dP l):=nP (f:=λn:Nat=>J n) λx=>by simp[θ.cells]
   refine a5 λΔ ζ=>?_;refine ak.one (as0:=[dH s,.ms 0 l.length 0 l.length]) PO 2 rfl g2 g2 (λa κ=>by
    simp only[List.mem_cons,List.not_mem_nil,or_false] at κ;rcases κ with rfl|rfl
    ·exact cQ.kh 1
    ·exact jL.2 γ) (ey.kh 1) (by simp[jM,cQ.dO [2]]) ?_
   rw[ey.dO [2]];simp;(repeat (rw[ae];simp[]));refine Ω.c PQ (b9.refl _) η η ?_;simp;(repeat (rw[ae];simp[]));apply ζ;have vX:bQ S jP B jQ [im s,qs,dP l] [im s,qs,dP l]:=fW.all χ (Nat.le_refl _);have II:=λy=>(κ.ext.trans fW.ext).aZ R (y:=y) ⟨_,vW⟩;have IJ:=λy=>(vV.trans fW.ext).aZ sO (y:=y) ⟨_,vW⟩;by_cases qZ:F l=[]
   ·refine ay (by simp[qZ]) ?_
    repeat apply al
    refine W.stop ?_;intro gm gN fE t5 fN g9;obtain⟨qo,qp⟩:=iI fN.ext qn (show(hJ.aZ L _).obj L=some (.loop _) by simp[π.aZ];rfl);have sR:=fN.all (eG.holds.aZ qn) (Nat.le_refl _);refine aE.endRound U rfl rfl rfl qp (jump:=none) (.inl ⟨rfl,rfl⟩) (IC (by rw[sQ,List.find?_cons,qZ];rfl) gm gN _ ⟨((II _).trans fN.ext).aZ R ⟨_,qp⟩,?_⟩ (vX.trans sR) (g9.holds.aZ qo) qo (by simp[π.aZ]));exact κ.later.trans (vX.trans sR)
   ·refine aA (by
     have:0<(F l).length:=List.length_pos_iff.2 qZ;simp;omega) ?_
    refine Β ?_;obtain⟨ua,AX⟩:=aO (λk=>(l.take k).map λj=>O.getD j []:Nat->List (List Int));have xZ:ua 0=[]:=by rw[AX];simp
    have bδ:∀k,(h:k<l.length)->ua (k+1)=ua k++[O.getD l[k] []]:=λk h=>by
     rw[AX];simp only;rw[List.take_succ_eq_append_getElem h,List.map_append];rfl
    have bε:∀k,(ua k).length<=k:=λk=>by rw[AX];simp;omega
    have PR:ua l.length=v8 s.cells F:=by
     rw[Θ,sQ,List.find?_cons];have:(!(F l).isEmpty)=true:=by simpa using qZ
     rw[this,AX];simp
    clear AX;refine W.iter (λk:Nat=>k<=l.length) (λk=>[(1,.an 0 1 0 0),(5,.aa [ev 1 (O.map cE)]),(9,.an 1 1 0 0),(50,.ms 2 l.length 0 l.length),(51,J l.length),(52,J k)]) (λk=>[im s,.cells 23 1 [cO 3 ((ua k).map cE)],dP l]++bF 29 1 ((ua k).map cE)) (λk=>l.length-k) 0 (Nat.zero_le _) (by rw[xZ];rfl) η (λk ψ nX=>?_);have yi:=bδ k;have bζ:=bε k;obtain⟨M,cd⟩:=aO (ua k);rw[<-cd] at yi bζ;refine W.to (σ':=[im s,.cells 23 1 [cO 3 (M.map cE)],dP l]++bF 29 1 (M.map cE)) (env':=[(1,.an 0 1 0 0),(5,.aa [ev 1 (O.map cE)]),(9,.an 1 1 0 0),(50,.ms 2 l.length 0 l.length),(51,J l.length),(52,J k)]) ?_ (by rw[cd]) η;refine Β ?_;by_cases gI:k<l.length
    ·refine aA (by simp[gI]) ?_;have Jy:=ba gI;have xR:=aI _ (List.getElem_mem gI);have yi:=yi gI;obtain⟨p,ς⟩:=aO (l[k]);rw[<-ς] at Jy xR yi;have PS:∀h,l[k]'h=p:=λh=>ς.symm;have AY:p<O.length:=γ;have bη:O.map cE≠[]:=by
      intro h;have:O=[]:=by simpa using h
      rw[this] at AY;simp at AY
     have AW:ev 1 (O.map cE)=.sl false 1 (O.map cE):=by unfold ev;rw[if_neg (by simpa using bη)]
     have AZ:O[p]?=some (O.getD p []):=by rw[List.getD_eq_getElem?_getD,ba AY];rfl
     obtain⟨y,Φ⟩:=aO (O.getD p []);rw[<-Φ] at AZ yi;have PT:∀h,O[p]'h=y:=λh=>by rw[ba h] at AZ;simpa using AZ
     have hw:=jW (i:=k) γ
     have hρ:(dP l)=.cells 3 1 (l.map λn:Nat=>J n):=rfl;obtain⟨X,n6⟩:=aO (bF 29 1 (M.map cE));obtain⟨V,lx⟩:=aO (cO 3 (M.map cE));rw[<-n6,<-lx]
     repeat apply al
     refine W.g8 (A:=[]) Ρ [(1,.an 0 1 0 0),(5,.aa [ev 1 (O.map cE)]),(9,.an 1 1 0 0),(50,.ms 2 l.length 0 l.length),(51,J l.length),(52,J k),(12,J p)] ([im s,.cells 23 1 [V],dP l]++X) ?_ (by
      (try simp);(repeat (rw[ae];simp[gI,Jy,PS]));(try simp[gI,Jy,PS]))
     repeat apply al
     refine W.aχ (A:=[62]) Ρ mixed [(1,.an 0 1 0 0),(5,.aa [ev 1 (O.map cE)]),(9,.an 1 1 0 0),(50,.ms 2 l.length 0 l.length),(51,J l.length),(52,J k)] ([im s,.cells 23 1 [cO 3 ((M++[y]).map cE)],dP l]++bF 29 1 ((M++[y]).map cE)) ?_ (by
      rw[AW,n6,lx];clear nX;by_cases Μ:M=[]
      ·subst Μ;have Γ:cO 3 (([]:List (List Int)).map cE)=.sl true 0 []:=rfl;have Θ:bF 29 1 (([]:List (List Int)).map cE)=[]:=rfl;rw[Γ,Θ];simp;(repeat (rw[dZ];simp[AY,AZ,PT]));(try rw[dY]);refine⟨oQ (by kernel_rfl),?_⟩;simp[cO,bF,AW]
      ·have jz:M.map cE≠[]:=by simpa using Μ
       rw[o1 jz,fF jz];have yh:M.length<=4294967295:=γ;simp;(repeat (rw[dZ];simp[AY,AZ,PT,yh]));(try rw[dY]);refine⟨oQ (by kernel_rfl),?_⟩;simp[cO,bF,AW])
     refine aT hw ?_;exact W.to (nX (k+1) γ γ) (by rw[yi];simp) η
    ·refine ay (by simp[gI]) ?_;have HF:k=l.length:=γ;subst HF;refine W.exit rfl ?_
     repeat apply al
     refine W.stop ?_;rw[<-cd] at PR;intro gm gN fE t5 fN g9;obtain⟨qo,qp⟩:=iI fN.ext qn (show(hJ.aZ L _).obj L=some (.loop _) by simp[π.aZ];rfl);obtain⟨En,IL⟩:=iI fN.ext IG (show(hJ.aZ L _).obj r1=some (.deferred (some [])) by simp[π.aZ,sP,IH]);have sR:=fN.all (eG.holds.aZ qn) (Nat.le_refl _);refine aE.endRound U rfl rfl rfl qp (jump:=some (.exit 4)) (.inr (.inr ⟨4,_,rfl,rfl,rfl⟩)) (ID _ λZr OW AI=>?_);obtain⟨dh,c6⟩:=(g9.holds.aZ (y:=.loop _) qo).pA (λb hb=>AI.pA hb) AI.grow;obtain⟨IM,AJ⟩:=iI c6 qo (show(fE.aZ L _).obj L=some (.loop _) by simp[π.aZ];rfl);obtain⟨bθ,IN⟩:=iI c6 En (show(fE.aZ L _).obj r1=some (.deferred (some [])) by simp[π.aZ,sP,IL]);refine aE.DI (b:={PI vs with defers:=[⟨.collected r1,#[]⟩]}) (t:=t1) U rfl AJ η ?_;refine V.here (m:=0) (nt:=65) (S:=gm) (B:=gN) (σ:=[im s,.cells 23 1 [cO 3 (M.map cE)],dP l]++bF 29 1 (M.map cE)) (env:=AV O) ?_ ⟨dh.aZ IM,rq (k0.later (vX.trans sR)) η,hK.size,Nat.zero_le _⟩;refine V.eY U rfl ?_;simp only[Option.map_some,Option.toList_some,List.singleton_append];refine W.exit rfl ?_;obtain⟨X,n6⟩:=aO (bF 29 1 (M.map cE));obtain⟨V,lx⟩:=aO (cO 3 (M.map cE));rw[<-n6,<-lx]
     repeat apply al
     refine W.g8 (A:=[]) Ρ [(2,V),(3,J 0)] ([im s,.cells 23 1 [V],dP l]++X) ?_ (by
      by_cases Μ:M.map cE=[]
      ·have Γ:V=.sl true 0 []:=by rw[lx,Μ];rfl
       rw[Γ];(try simp);(repeat (rw[ae];simp[]));(try simp[])
      ·rw[lx,o1 Μ];(try simp);(repeat (rw[ae];simp[]));(try simp[]))
     refine W.cut 0 (Nat.zero_le _) [(2,ev 1 (M.map cE)),(3,J 0)] η (λid r h=>γ) (λz Μ=>by
      simp only[List.mem_cons,List.not_mem_nil,or_false] at Μ;rcases Μ with rfl|rfl
      ·show eE 0 _ V _;rw[lx];refine xA (t:=29) (Nat.zero_le _) (λΜ=>?_) (λe he a κ=>xu e he a κ);rw[n6,fF Μ];rfl
      ·exact .low η) ?_
     repeat apply al
     refine W.stop ?_;intro bι bκ bμ t9 PU PV;obtain⟨_,bν⟩:=iI PU.ext bθ (show(OW.aZ L _).obj r1=some (.deferred (some [])) by simp[π.aZ,sP,IN]);refine aE.ret U rfl rfl ?_;refine AG _ bι bκ bμ _ _ rfl rfl rfl rfl (((((((IJ _).trans fN.ext).aZ sO ⟨_,qp⟩)).trans c6).aZ sO ⟨_,AJ⟩).trans PU.ext) PV.holds bν PV.b5 rfl rfl ?_;rw[<-PR];exact cp.Ho
  ·obtain⟨vU,qN⟩:=iI κ.ext vT qm;have k0:=hK.b5.later (AF _ _ _ _ κ);have oC:Ext eg [] di S B H:=lL.ext.trans (sN.trans κ.ext);refine aE.DI (b:={PI vs with defers:=[⟨.collected r1,#[]⟩]}) (t:=t1) U rfl av η ?_;refine V.here (m:=0) (nt:=65) (S:=S) (B:=B) (σ:=[im s,qs]) (env:=AV O) ?_ ⟨χ.aZ jk,rq k0 η,hK.size,Nat.zero_le _⟩;refine V.eY U rfl ?_;simp only[Option.map_none,Option.toList_none,List.nil_append];refine Β ?_;refine W.cut 0 (Nat.zero_le _) [(2,.sl true 0 []),(3,J 0)] η (λid r h=>γ) (λz Μ=>by
    simp only[List.mem_cons,List.not_mem_nil,or_false] at Μ;rcases Μ with rfl|rfl<;>exact .low η) ?_
   refine W.stop ?_;intro gm gN fE t5 fN g9;have IP:∀y,(H.aZ L y).obj r1=some (.deferred (some [])):=λy=>by simp[π.aZ,sP,qN]
   obtain⟨k1,bG⟩:=iI fN.ext vU (IP _);refine aE.ret U rfl rfl ?_;refine AG _ gm gN fE _ _ rfl rfl rfl rfl ((oC.aZ sO ⟨_,av⟩).trans fN.ext) g9.holds bG g9.b5 rfl rfl ?_;rw[Θ,sQ];exact .nil
end
end Go.TL
namespace Go.TL
open Go.Proofs
variable [bj]
end Go.TL
