import Derived.Test.YtlabjopijpkiaaaGreatQAK
import Derived.Test.YtlabjopijpkiaaaGreatQBA
set_option maxHeartbeats 16000000
set_option maxRecDepth 20000
set_option linter.unusedSectionVars false
set_option linter.unusedSimpArgs false
set_option linter.unusedVariables false
namespace Go.TL
open Go.Proofs
variable [bh]
theorem C0 (d:cm) {a b:Int} (h:a<=b) (κ:-1000<a) (hb:b<1000):a<=nR d a b/\nR d a b<=b:=by
 unfold nR;rw[IntWalk.i64_in (b-a) (by omega)];obtain⟨t0,t1⟩:=p' d (b-a) (by omega) (by omega);generalize gM d (b-a)=x at t0 t1;rw[IntWalk.i64_in (a+x) (by omega)];omega
theorem YR (l:List Int) (k:Nat) (x:Int):(nT l k x).Perm (x::l):=by
 unfold nT;have h:(l.take k++x::l.drop k).Perm (x::(l.take k++l.drop k)):=List.perm_middle
 rwa [List.take_append_drop] at h
theorem Nc (d:cm) (n:Nat):(gu d n).1.Perm ((List.range n).map λ(i:Nat)=>(i:Int)):=by
 induction n with
 | zero=>exact .refl _
 | succ n Γ=>
  show(nT _ _ _).Perm _;refine(YR _ _ _).trans ?_;rw[List.range_succ,List.map_append];refine(List.Perm.cons _ Γ).trans ?_;exact(List.perm_append_singleton _ _).symm
theorem Nd {d:cm} {n:Nat} {x:Int} (h:x∈(gu d n).1):0<=x/\x<n:=by
 have:=(Nc d n).mem_iff.1 h;obtain⟨i,hi,rfl⟩:=List.mem_map.1 this;have:=List.mem_range.1 hi;omega
theorem Nf (d:cm) (n:Nat):(gu d n).1.Nodup:=by
 refine(Nc d n).nodup_iff.2 ?_;unfold List.Nodup;rw[List.pairwise_map];exact List.nodup_range.imp λh e=>h (by omega)
structure kO (l:List gb):Prop where
 lo:1<=l.length
 hi:l.length<=6
 each:∀g∈l,vF g.name=false/\1<=g.bR/\g.bR<=63
 C1:l.Pairwise λa b=>qE b.name a.name=false
 apart:l.Pairwise λa b=>a.bR≠b.bR
theorem zh {l:List Int} (h:∀x∈l,x=0):hU l=0:=by
 induction l with
 | nil=>rfl
 | cons x l Γ=>
  have:=h x (by simp);subst this;simp[hU];exact Γ λy ad=>h y (by simp[ad])
theorem kO.err {l:List gb} (h:kO l):mQ l=0:=by
 unfold mQ;have J:=h.lo;have R:=h.hi;rw[if_neg (by omega),if_neg (by omega)];refine zh λx U=>?_;obtain⟨i,hi,rfl⟩:=List.mem_map.1 U;have hi:=List.mem_range.1 hi;unfold ox;rw[aX hi];obtain⟨Δ,Ε,a3⟩:=h.each _ (List.getElem_mem hi);simp only;rw[if_neg (by rw[Δ];simp),if_neg,if_neg (by omega),if_neg]
 ·intro κ;obtain⟨y,ad,he⟩:=List.any_eq_true.1 κ;obtain⟨j,γ,rfl⟩:=List.mem_take_iff_getElem.1 ad;have:=List.pairwise_iff_getElem.1 h.apart j i (by omega) hi (by omega);simp at he;exact this he
 ·rintro⟨jm,ν⟩;rw[aX (by omega)] at ν;have:=List.pairwise_iff_getElem.1 h.C1 (i-1) i (by omega) hi (by omega);simp only[Option.map_some,Option.getD_some] at ν;rw[ν] at this;cases this
def lW (i:Nat):ByteArray:=⟨#[[97,98,99,100,111,122].getD i 0]⟩
def im:List Int:=[4,9,6,12,48,8,3,16,5,10,20]
def jE (ord:List Int) (last:Int) (i:Nat):gb:=⟨lW i,(im++[last]).getD ((ord.getD i 0).toNat) 0⟩
structure Made (ord:List Int):Prop where
 len:ord.length=11
 mem:∀x∈ord,0<=x/\x<11
 nodup:ord.Nodup
theorem YS (d:cm):Made (gu d 11).1:=⟨Hi d 11,λ_ h=>Nd h,Nf d 11⟩
theorem Made.get {ord:List Int} (h:Made ord) {i:Nat} (hi:i<11):∃k:Nat,k<11/\ord[i]?=some (k:Int)/\∀last,(im++[last])[k]?=some (im.getD k 0)/\1<=im.getD k 0/\im.getD k 0<=63:=by
 have Β:=h.len
 have hm:=h.mem _ (List.getElem_mem (l:=ord) (n:=i) (by omega));refine⟨(ord[i]).toNat,by omega,by rw[aX (by omega)];congr 1;omega,λlast=>?_⟩;have Α:(ord[i]).toNat<11:=by omega
 generalize (ord[i]).toNat=k at Α;rw[dW (by simpa[im] using Α)];have:∀k<11,im[k]?=some (im.getD k 0)/\1<=im.getD k 0/\im.getD k 0<=63:=by decide
 exact this k Α
theorem YT:∀a<11,∀b<11,im.getD a 0=im.getD b 0->a=b:=by decide
theorem YU:∀i<6,vF (lW i)=false:=by decide +kernel
theorem YV:∀j<6,∀i<j,qE (lW j) (lW i)=false:=by decide +kernel
theorem C2 {ord:List Int} (h:Made ord) (last:Int) {i:Nat} (hi:i<11):∃k:Nat,k<11/\ord[i]?=some (k:Int)/\(jE ord last i).bR=im.getD k 0/\1<=im.getD k 0/\im.getD k 0<=63:=by
 obtain⟨k,Α,ω,ν⟩:=h.get hi;obtain⟨J,R,ς⟩:=ν last;refine⟨k,Α,ω,?_,R,ς⟩;unfold jE;rw[show ord.getD i 0=(k:Int) from by rw[List.getD_eq_getElem?_getD,ω];rfl,Int.toNat_natCast];show(im++[last]).getD k 0=_;rw[List.getD_eq_getElem?_getD,J];rfl
theorem YW {ord:List Int} (h:Made ord) (last:Int) {i j:Nat} (hi:i<11) (γ:j<11) (e:(jE ord last i).bR=(jE ord last j).bR):i=j:=by
 obtain⟨a,κ,jX,YX,_⟩:=C2 h last hi;obtain⟨b,hb,hM,B3,_⟩:=C2 h last γ;rw[YX,B3] at e;have:=YT a κ b hb e;subst this;have Β:=h.len;exact(List.getElem?_inj (by omega) h.nodup).1 (jX.trans hM.symm)
theorem YY {ord:List Int} (h:Made ord) (last:Int) {bw:List Nat} (eA:bw.Pairwise (· < ·)) (aV:∀j∈bw,j<6) (J:1<=bw.length) (Ι:bw.length<=6):kO (bw.map (jE ord last)):=by
 refine⟨by simpa using J,by simpa using Ι,λg Ο=>?_,?_,?_⟩
 ·obtain⟨j,γ,rfl⟩:=List.mem_map.1 Ο;have:=aV j γ;obtain⟨k,_,_,e,Δ,Ε⟩:=C2 h last (i:=j) (by omega);exact⟨YU j this,by omega,by omega⟩
 ·rw[List.pairwise_map];refine(List.pairwise_iff_forall_sublist.2 λ{a b} ν=>?_);have jH:=(List.pairwise_iff_forall_sublist.1 eA) ν;exact YV b (aV b (ν.subset (by simp))) a jH
 ·rw[List.pairwise_map];refine(List.pairwise_iff_forall_sublist.2 λ{a b} ν=>λe=>?_);have jH:=(List.pairwise_iff_forall_sublist.1 eA) ν;have κ:=aV a (ν.subset (by simp));have hb:=aV b (ν.subset (by simp));have:=YW h last (by omega) (by omega) e;omega
theorem kO.set {l:List gb} (h:kO l) {k:Nat} (Α:k<l.length) {x:Int} (J:1<=x) (R:x<=63) (ab:∀g∈l,g.bR≠x):kO (l.set k ⟨l[k].name,x⟩):=by
 have get:∀(i:Nat) (hi:i<(l.set k ⟨l[k].name,x⟩).length),(l.set k ⟨l[k].name,x⟩)[i].name=(l[i]'(by simpa using hi)).name/\((l.set k ⟨l[k].name,x⟩)[i].bR=x/\i=k\/(l.set k ⟨l[k].name,x⟩)[i].bR=(l[i]'(by simpa using hi)).bR/\i≠k):=by
  intro i hi;rw[List.getElem_set];split
  ·rename_i e;subst e;exact⟨rfl,.inl ⟨rfl,rfl⟩⟩
  ·rename_i e;exact⟨rfl,.inr ⟨rfl,λh=>e h.symm⟩⟩
 refine⟨by simpa using h.lo,by simpa using h.hi,λg Ο=>?_,?_,?_⟩
 ·obtain⟨i,hi,rfl⟩:=List.getElem_of_mem Ο;obtain⟨Δ,Ε⟩:=get i hi;obtain⟨a,b,c⟩:=h.each _ (List.getElem_mem (l:=l) (n:=i) (by simpa using hi));rw[Δ];rcases Ε with⟨Ε,_⟩|⟨Ε,_⟩<;>rw[Ε]
  ·exact⟨a,J,R⟩
  ·exact⟨a,b,c⟩
 ·rw[List.pairwise_iff_getElem];intro i j hi γ gx;rw[(get i hi).1,(get j γ).1];exact List.pairwise_iff_getElem.1 h.C1 i j (by simpa using hi) (by simpa using γ) gx
 ·rw[List.pairwise_iff_getElem];intro i j hi γ gx;have dj:i<l.length:=by simpa using hi
  have dE:j<l.length:=by simpa using γ
  rcases(get i hi).2 with⟨Δ,Ε⟩|⟨Δ,Ε⟩<;>rcases(get j γ).2 with⟨a3,cg⟩|⟨a3,cg⟩<;>rw[Δ,a3]
  ·omega
  ·exact λe=>ab _ (List.getElem_mem dE) e.symm
  ·exact λe=>ab _ (List.getElem_mem dj) e
  ·exact List.pairwise_iff_getElem.1 h.apart i j dj dE gx
def sK (g:FuncId) (args:List ζ) (d:cm) (ag:ζ->Prop):Prop:=aC Tryz.prog g (.ae 0 1 0 0::args) [bK d] (λa s=>∃r dV,dr a r/\ag r/\s=[bK dV]/\dV.a5.length<=d.a5.length) (λ_ _=>False)
theorem sK.c {g:FuncId} {args fz:List ζ} {d:cm} {ag:ζ->Prop} {σ:List Row} {K E:ζ->List Row->Prop} (h:sK g args d ag) (id:Nat) (bS:σ[id]?=some (bK d)) (he:aE fz args) (κ:∀a∈fz,az 0 a) (ι:∀r,ag r->az 0 r) (I:∀r dV,ag r->dV.a5.length<=d.a5.length->K r (σ.set id (bK dV))):ht Tryz.prog (.fn (.func g) [] []) (.ae id 1 0 0::fz) σ K E:=by
 refine aC.FF (as0:=.ae 0 1 0 0::fz) (K0:=λa s=>∃dV,ag a/\s=[bK dV]/\dV.a5.length<=d.a5.length) (aC.mL h (.cons (.refl _) he) λa s ⟨r,dV,J,R,ς,Κ⟩=>⟨r,J,dV,R,ς,Κ⟩) id bS (nQ d) ?_ ?_ ?_
 ·intro a hm;rcases List.mem_cons.1 hm with rfl|hm
  ·exact Nat.zero_lt_one
  ·exact(κ a hm).hT 1
 ·rw[List.map_cons,M7 κ];rfl
 ·rintro a s ⟨dV,J,R,ς⟩;exact⟨bK dV,R,nQ dV,(ι a J).hT 1,by rw[(ι a J).dP];exact I a dV J ς⟩
section
variable {P:Program} {m nt:Nat} {k:List Item} {env:Φ} {Z:List Item->Φ->List Row->Prop} {E:ζ->Φ->List Row->Prop}
theorem W.Ng {d:cm} {t kk n:Nat} {l:List ζ} {x:Nat} (hm:m<=1) (Β:l.length=n) (hb:∀e∈l,∀a∈e.cells,az 0 a) (hd:aW env x=.ms 1 n 0 n) (hW:W P m nt k [(x,.sl false kk l)] [bK d] Z E):W P m nt k env [bK d,.cells t kk l] Z E:=
 W.cut 1 hm [(x,.sl false kk l)] (by simp) (λid r bS ι=>by
  have:id=0:=by omega
  subst this;simp at ι;subst ι;exact sJ d 1) (λp χ=>by
  simp at χ;subst χ;show et 1 _ (aW env x) _;rw[hd];exact .own (t:=t) (Nat.le_refl _) rfl Β (λe he a κ=>(hb e he a κ).mono (Nat.zero_le _))) (by simpa using hW)
end
theorem qc {l:List gb}:∀e∈l.map eb,∀a∈e.cells,az 0 a:=λe he a κ=>by
 obtain⟨x,_,rfl⟩:=List.mem_map.1 he;simp[ζ.cells] at κ;rcases κ with rfl|rfl<;>exact .z _
def wB:List ByteArray:=[⟨#[97]⟩,⟨#[98]⟩,⟨#[99]⟩,⟨#[100]⟩,⟨#[111]⟩,⟨#[122]⟩]
theorem YZ:∀i<6,wB[i]?=some (lW i):=by decide
structure Nh where
 i:Nat
 d:cm
 bw:List Nat
theorem Y0 (d:cm) (hd:d.a5.length<2 ^ 63) (hH:Nat) (lA:1<=hH) (wC:hH<=6):sK 128 [δ hH] d (λr=>∃l,r=aJ l/\kO l):=by
 unfold sK;refine aC.body Μ Tryz.func128 rfl rfl Tryz.ntmps128 rfl rfl (by simp) ?_;(repeat (first|apply μ|(refine ξ λθ I=>?_;simp;(repeat (rw[ε];simp));apply I)));obtain⟨l0,l1⟩:=C0 d (a:=1) (b:=63) (by decide) (by decide) (by decide);obtain⟨last,ix⟩:∃x,nR d 1 63=x:=⟨_,rfl⟩;obtain⟨d1,jc⟩:∃x,d.after (IntKind.i64.wrap (63-1))=x:=⟨_,rfl⟩;have Y1:d1.a5.length<=d.a5.length:=by rw[<-jc];exact lN _ _
 have ab:=CY d hd 1 63;rw[ix,jc] at ab;rw[ix] at l0 l1;(repeat apply μ);refine ξ λθ I=>?_;simp;(repeat (rw[ε];simp));refine ej.c (ab) 0 rfl (aE.refl _) (by simp) (by simp) ?_;simp;(repeat (rw[ε];simp));apply I
 repeat apply μ
 have ω:=M9 d1 (by omega) 11 (by decide)
 have zi:=YS d1
 have C3:=Nat.le_trans (Hg d1 11) Y1;obtain⟨ord,sH⟩:∃x,(gu d1 11).1=x:=⟨_,rfl⟩;obtain⟨d2,kN⟩:∃x,(gu d1 11).2=x:=⟨_,rfl⟩;rw[sH] at zi;rw[sH,kN] at ω;rw[kN] at C3;(repeat apply μ);refine ξ λθ I=>?_;simp;(repeat (rw[ε];simp));refine ej.c (ω) 0 rfl (aE.refl _) (by simp) (by simp) ?_;simp;(repeat (rw[ε];simp));apply I;(repeat (first|apply μ|(refine ξ λθ I=>?_;simp;(repeat (rw[ε];simp));apply I)));obtain⟨mA,gP⟩:=C0 d2 (a:=1) (b:=hH) (by omega) (by decide) (by omega);obtain⟨n,Ι⟩:∃n:Nat,nR d2 1 hH=n:=⟨(nR d2 1 hH).toNat,by omega⟩;rw[Ι] at mA gP;obtain⟨d3,zj⟩:∃x,d2.after (IntKind.i64.wrap ((hH:Int)-1))=x:=⟨_,rfl⟩;have Ho:d3.a5.length<=d.a5.length:=by rw[<-zj];exact Nat.le_trans (lN _ _) C3
 have EF:=CY d2 (by omega) 1 hH;rw[Ι,zj] at EF;(repeat apply μ);refine ξ λθ I=>?_;simp;(repeat (rw[ε];simp));refine ej.c (EF) 0 rfl (aE.refl _) (by simp) (by simp) ?_;simp;(repeat (rw[ε];simp));apply I;(repeat (first|apply μ|(refine ξ λθ I=>?_;simp;(repeat (rw[ε];simp));apply I)));have b8:wB.length=6:=rfl;have gT:(im++[last]).length=12:=by simp[im]
 obtain⟨uB,C4⟩:∃x,x=im++[last]:=⟨_,rfl⟩;rw[<-C4] at gT;have cS:∀bw:List Nat,(bw.map (jE ord last)).length=bw.length:=λbw=>List.length_map _;refine W.iter (λx:Nh=>x.i<=6/\x.d.a5.length<=d.a5.length/\x.bw.Pairwise (· < ·)/\(∀j∈x.bw,j<x.i)/\x.bw.length<=n/\n+x.i<=6+x.bw.length)
  (λx=>[(0,.ae 0 1 0 0),(5,.sl true 1 (wB.map ln)),(6,.sl true 1 (uB.map δ)),(7,bC δ 1 ord),(8,c8 1 ((x.bw.map (jE ord last)).map eb)),(9,δ n),(10,δ x.i)])
  (λx=>bK x.d::bz 77 2 ((x.bw.map (jE ord last)).map eb)) (λx=>6-x.i) ⟨0,d3,[]⟩ ⟨by simp,Ho,by simp,by simp,by simp,by simp;omega⟩ rfl (by rw[C4];intro p χ;simp only[List.mem_cons,List.not_mem_nil,or_false] at χ;rcases χ with rfl|rfl|rfl|rfl|rfl|rfl|rfl<;>rfl) (λx U Γ=>?_)
 obtain⟨i,D,bw⟩:=x;obtain⟨Y2,mi,C5,zk,Ni,Y3⟩:=U;simp only at Y2 mi C5 zk Ni Y3 Γ ⊢;obtain⟨G,wD⟩:∃G,G=bw.map (jE ord last):=⟨_,rfl⟩;have gr:G.length=bw.length:=by rw[wD];exact cS bw
 rw[<-wD];have qj:(c8 1 (G.map eb)=.sl true 0 []/\bz 77 2 (G.map eb)=[]/\bw.length=0)\/(c8 1 (G.map eb)=.ms 1 bw.length 0 bw.length/\bz 77 2 (G.map eb)=[.cells 77 2 (G.map eb)]/\0<bw.length):=by
  by_cases Ν:G=[]
  ·subst Ν;exact .inl ⟨rfl,rfl,by simpa using gr.symm⟩
  ·have fL:G.map eb≠[]:=by simpa using Ν
   refine .inr ⟨by rw[gK fL,List.length_map,gr],ei fL,?_⟩;have:=List.length_pos_iff.2 Ν;omega
 repeat apply μ
 refine W.hD (A:=[]) Μ [(35,bJ (decide (i<6)&&decide (bw.length<n))),(0,.ae 0 1 0 0),(5,.sl true 1 (wB.map ln)),(6,.sl true 1 (uB.map δ)),(7,bC δ 1 ord),(8,c8 1 (G.map eb)),(9,δ n),(10,δ i)] (bK D::bz 77 2 (G.map eb)) ?_ (by
  by_cases hi:i<6
  ·have dj:(i:Int)<6:=by omega
   rcases qj with⟨Δ,Ε,a3⟩|⟨Δ,Ε,a3⟩
   ·rw[Δ,Ε];(try simp);(repeat (rw[ε];simp[dj,b8,a3,hi]));(try simp[dj,b8,a3,hi])
   ·rw[Δ,Ε];(try simp);(repeat (rw[ε];simp[dj,b8,gr,hi]));(try simp[dj,b8,gr,hi])
  ·have hi:i=6:=by omega
   subst hi;rcases qj with⟨Δ,Ε,a3⟩|⟨Δ,Ε,a3⟩
   ·rw[Δ,Ε];(try simp);(repeat (rw[ε];simp[b8]));(try simp[b8])
   ·rw[Δ,Ε];(try simp);(repeat (rw[ε];simp[b8]));(try simp[b8]))
 refine W.dR rfl (λη=>?_) (λη=>?_)
 ·simp only[Bool.and_eq_true,decide_eq_true_eq] at η;obtain⟨hi,Nj⟩:=η;have j5:IntKind.i64.wrap (6-(i:Int))=6-i:=IntWalk.i64_in _ (by omega);have jl:IntKind.i64.wrap ((n:Int)-bw.length)=n-bw.length:=IntWalk.i64_in _ (by omega);have oV:IntKind.i64.wrap ((i:Int)+1)=((i+1:Nat):Int):=by rw[IntWalk.i64_in _ (by omega)];omega
  repeat apply μ
  have tW:D.a5.length<2 ^ 63:=by omega
  have rj:=Hf D tW 3 (by decide) (by decide);obtain⟨ο,qL⟩:∃x,uz D 3=x:=⟨_,rfl⟩;obtain⟨nU,oX⟩:∃x,D.after (3-1)=x:=⟨_,rfl⟩;have Hp:nU.a5.length<=d.a5.length:=by rw[<-oX];exact Nat.le_trans (lN _ _) mi
  rw[qL,oX] at rj;obtain⟨kP,rk⟩:∃x,x=if(n:Int)-bw.length<6-i then nU else D:=⟨_,rfl⟩
  have zl:kP.a5.length<=d.a5.length:=by rw[rk];split<;>assumption
  refine W.hD (A:=[]) Μ [(50,bJ (decide ((n:Int)-bw.length<6-i)&&ο)),(0,.ae 0 1 0 0),(5,.sl true 1 (wB.map ln)),(6,.sl true 1 (uB.map δ)),(7,bC δ 1 ord),(8,c8 1 (G.map eb)),(9,δ n),(10,δ i)] (bK kP::bz 77 2 (G.map eb)) ?_ (by
   by_cases mj:(n:Int)-bw.length<6-i
   ·rw[if_pos mj] at rk;rw[rk];rcases qj with⟨Δ,Ε,a3⟩|⟨Δ,Ε,a3⟩
    ·rw[Δ,Ε];rw[a3] at mj jl;simp only[Int.natCast_zero,Int.sub_zero] at mj jl;(try simp);(repeat (rw[ε];simp[b8,j5,jl,mj,a3]));(try simp[b8,j5,jl,mj,a3]);refine ej.c (rj) 0 rfl (aE.refl _) (by simp) (by simp) ?_;simp;(repeat (rw[ε];simp));(try simp)
    ·rw[Δ,Ε];(try simp);(repeat (rw[ε];simp[b8,j5,jl,mj,gr]));(try simp[b8,j5,jl,mj,gr]);refine ej.c (rj) 0 rfl (aE.refl _) (by simp) (by simp) ?_;simp;(repeat (rw[ε];simp));(try simp)
   ·rw[if_neg mj] at rk;rw[rk];rcases qj with⟨Δ,Ε,a3⟩|⟨Δ,Ε,a3⟩
    ·rw[Δ,Ε];rw[a3] at mj jl;simp only[Int.natCast_zero,Int.sub_zero] at mj jl;(try simp);(repeat (rw[ε];simp[b8,j5,jl,mj,a3]));(try simp[b8,j5,jl,mj,a3])
    ·rw[Δ,Ε];(try simp);(repeat (rw[ε];simp[b8,j5,jl,mj,gr]));(try simp[b8,j5,jl,mj,gr]))
  refine W.dR rfl (λa6=>?_) (λa6=>?_)
  ·simp only[Bool.and_eq_true,decide_eq_true_eq] at a6;refine W.exit rfl ?_;(repeat (first|apply μ|(refine ξ λθ I=>?_;simp;(repeat (rw[ε];simp[oV]));apply I)));refine W.to (Γ ⟨i+1,kP,bw⟩ ⟨by show i+1<=6;omega,zl,C5,λj γ=>by have:=zk j γ;show j<i+1;omega,Ni,by show n+(i+1)<=6+bw.length;omega⟩ (by show 6-(i+1)<6-i;omega)) (by rw[wD]) ?_;rw[<-wD];simp[oV]
  ·have nk:n+i+1<=6+bw.length+1:=by omega
   obtain⟨k,Α,zm,cj⟩:=zi.get (i:=i) (by omega);obtain⟨cj,_,_⟩:=cj last;have C6:jE ord last i=⟨lW i,im.getD k 0⟩:=by
    obtain⟨Χ,_,gB,e,_⟩:=C2 zi last (i:=i) (by omega);rw[zm] at gB;have pw:Χ=k:=by have:=Option.some.inj gB;omega
    subst pw;show(⟨lW i,(jE ord last i).bR⟩:gb)=_;rw[e]
   obtain⟨st,k0⟩:∃x,im.getD k 0=x:=⟨_,rfl⟩;rw[k0] at C6;rw[k0,<-C4] at cj;have jS:=YZ i hi;have Nk:∀h,wB[i]'h=lW i:=λh=>by rw[aX h] at jS;exact Option.some.inj jS
   have Nl:∀h,ord[i]'h=(k:Int):=λh=>by rw[aX h] at zm;exact Option.some.inj zm
   have Nm:∀h,uB[k]'h=st:=λh=>by rw[aX h] at cj;exact Option.some.inj cj
   have AZ:=zi.len
   have C7:(G++[jE ord last i])=(bw++[i]).map (jE ord last):=by rw[wD];simp
   repeat apply μ
   have bd:(G++[jE ord last i]).map eb≠[]:=by simp
   have sE:(⟨i+1,kP,bw++[i]⟩:Nh).i<=6/\kP.a5.length<=d.a5.length/\(bw++[i]).Pairwise (· < ·)/\(∀j∈bw++[i],j<i+1)/\(bw++[i]).length<=n/\n+(i+1)<=6+(bw++[i]).length:=by
    refine⟨hi,zl,?_,?_,?_,?_⟩
    ·rw[List.pairwise_append];exact⟨C5,by simp,λa κ b hb=>by simp at hb;subst hb;exact zk a κ⟩
    ·intro j γ;rcases List.mem_append.1 γ with γ|γ
     ·have:=zk j γ;omega
     ·simp at γ;omega
    ·simp;omega
    ·simp;omega
   rcases qj with⟨Δ,Ε,a3⟩|⟨Δ,Ε,a3⟩
   ·rw[Δ,Ε];refine W.draw (A:=[65]) Μ mixed λθ I=>?_;simp;(repeat (rw[cz];simp[b8,gT,AZ,jS,Nk,zm,Nl,cj,Nm]));try rw[cy]
    refine⟨by omega,by omega,by omega,?_⟩;refine⟨cZ (by kernel_rfl),I _ _ ?_⟩;(repeat (first|apply μ|(refine ξ λθ I=>?_;simp;(repeat (rw[ε];simp[oV]));apply I)));have Ν:G=[]:=dk.1 (by omega);refine W.to (Γ ⟨i+1,kP,bw++[i]⟩ sE (by show 6-(i+1)<6-i;omega)) ?_ ?_
    ·have e:bz 77 2 (((bw++[i]).map (jE ord last)).map eb)=[.cells 77 2 [eb ⟨lW i,st⟩]]:=by rw[<-C7,ei bd,Ν,C6];rfl
     simp only[e]
    ·have e:c8 1 (((bw++[i]).map (jE ord last)).map eb)=.ms 1 1 0 1:=by rw[<-C7,gK bd,Ν,C6];rfl
     simp only[e];simp[oV]
   ·rw[Δ,Ε];refine W.draw (A:=[65]) Μ mixed λθ I=>?_;simp;(repeat (rw[cz];simp[b8,gT,AZ,jS,Nk,zm,Nl,cj,Nm,gr]));try rw[cy]
    refine⟨by omega,by omega,by omega,by omega,?_⟩;refine⟨cZ (by kernel_rfl),I _ _ ?_⟩;(repeat (first|apply μ|(refine ξ λθ I=>?_;simp;(repeat (rw[ε];simp[oV]));apply I)));refine W.to (Γ ⟨i+1,kP,bw++[i]⟩ sE (by show 6-(i+1)<6-i;omega)) ?_ ?_
    ·have e:bz 77 2 (((bw++[i]).map (jE ord last)).map eb)=[.cells 77 2 (G.map eb++[eb ⟨lW i,st⟩])]:=by rw[<-C7,ei bd,List.map_append,C6];rfl
     simp only[e]
    ·have e:c8 1 (((bw++[i]).map (jE ord last)).map eb)=.ms 1 (bw.length+1) 0 (bw.length+1):=by rw[<-C7,gK bd,List.length_map,List.length_append,gr];rfl
     simp only[e];simp[oV]
 ·have Nj:bw.length=n:=by
   simp only[Bool.and_eq_false_iff,decide_eq_false_iff_not] at η;omega
  refine W.exit rfl ?_;rcases qj with⟨Δ,Ε,a3⟩|⟨Δ,Ε,a3⟩
  ·omega
  rw[Nj] at Δ gr;have Nn:kO G:=by rw[wD];exact YY zi last C5 (λj γ=>by have:=zk j γ;omega) (by omega) (by omega)
  have Hq:uB[11]?=some last:=by rw[C4];rfl
  have Y4:∀h,uB[11]'h=last:=λh=>by rw[aX h] at Hq;exact Option.some.inj Hq
  refine W.to (env':=[(0,.ae 0 1 0 0),(6,.sl true 1 (uB.map δ)),(8,.ms 1 n 0 n),(9,δ n)]) (σ':=[bK D,.cells 77 2 (G.map eb)]) ?_ (by rw[Ε]) (by rw[Δ];simp);have Y5:IntKind.i64.wrap 11=11:=by decide
  (repeat (first|apply μ|(refine ξ λθ I=>?_;simp;(repeat (rw[ε];simp[gT,Hq,Y4,Y5]));apply I)));refine W.iter (λx:Nat×Bool=>x.1<=n/\(x.2=true->∀g∈G.take x.1,g.bR≠last)) (λx=>[(0,.ae 0 1 0 0),(8,.ms 1 n 0 n),(11,δ last),(12,bJ x.2),(13,δ x.1)]) (λ_=>[bK D,.cells 77 2 (G.map eb)]) (λx=>n-x.1) (0,true) ⟨Nat.zero_le _,by simp⟩ rfl (by simp) (λx U zn=>?_);obtain⟨j,ai⟩:=x;obtain⟨γ,nk⟩:=U;simp only at γ nk zn ⊢;(repeat (first|apply μ|(refine ξ λθ I=>?_;simp;(repeat (rw[ε];simp[gr]));apply I)));refine W.dR rfl (λη=>?_) (λη=>?_)
  ·have eH:j<n:=by simpa using η
   have wE:G[j]?=some (G[j]'(by omega)):=aX (by omega);obtain⟨g,Ο⟩:∃g,g=G[j]'(by omega):=⟨_,rfl⟩;rw[<-Ο] at wE;have C8:∀h,G[j]'h=g:=λh=>Ο.symm;have oV:IntKind.i64.wrap ((j:Int)+1)=((j+1:Nat):Int):=by rw[IntWalk.i64_in _ (by omega)];omega
   have jT:G.take (j+1)=G.take j++[g]:=by rw[List.take_succ_eq_append_getElem (by omega),Ο]
   repeat apply μ
   refine W.hD (A:=[]) Μ [(0,.ae 0 1 0 0),(8,.ms 1 n 0 n),(11,δ last),(12,bJ (ai&&decide (g.bR≠last))),(13,δ j)] [bK D,.cells 77 2 (G.map eb)] ?_ (by
    cases ai
    ·(try simp);(repeat (rw[ε];simp[gr]));(try simp[gr])
    ·(try simp);(repeat (rw[ε];simp[gr,wE,C8]));(try simp[gr,wE,C8]);omega)
   (repeat (first|apply μ|(refine ξ λθ I=>?_;simp;(repeat (rw[ε];simp[oV]));apply I)));refine W.to (zn (j+1,ai&&decide (g.bR≠last)) ⟨eH,λh=>?_⟩ (by show n-(j+1)<n-j;omega)) rfl (by simp[oV]);simp only[Bool.and_eq_true,decide_eq_true_eq] at h;intro y ad;rw[jT] at ad;rcases List.mem_append.1 ad with ad|ad
   ·exact nk h.1 y ad
   ·simp at ad;subst ad;exact h.2
  ·have eH:j=n:=by simp at η;omega
   have Y6:ai=true->∀g∈G,g.bR≠last:=λh=>by
    have:=nk h
    rwa [List.take_of_length_le (by omega)] at this
   refine W.exit rfl ?_;have tW:D.a5.length<2 ^ 63:=by omega
   have rj:=Hf D tW 3 (by decide) (by decide);obtain⟨ο,qL⟩:∃x,uz D 3=x:=⟨_,rfl⟩;obtain⟨nU,oX⟩:∃x,D.after (3-1)=x:=⟨_,rfl⟩;have Hp:nU.a5.length<=d.a5.length:=by rw[<-oX];exact Nat.le_trans (lN _ _) mi
   rw[qL,oX] at rj;obtain⟨kP,rk⟩:∃x,x=if ai then nU else D:=⟨_,rfl⟩
   have zl:kP.a5.length<=d.a5.length:=by rw[rk];split<;>assumption
   repeat apply μ
   refine W.hD (A:=[]) Μ [(92,bJ (ai&&ο)),(0,.ae 0 1 0 0),(8,.ms 1 n 0 n),(11,δ last)] [bK kP,.cells 77 2 (G.map eb)] ?_ (by
    cases ai
    ·rw[rk];(try simp);(repeat (rw[ε];simp[gr]));(try simp[gr])
    ·rw[rk];(try simp);(repeat (rw[ε];simp[gr]));(try simp[gr]);refine ej.c (rj) 0 rfl (aE.refl _) (by simp) (by simp) ?_;simp;(repeat (rw[ε];simp));(try simp))
   refine W.dR rfl (λa6=>?_) (λa6=>?_)
   ·simp only[Bool.and_eq_true] at a6;have j5:IntKind.i64.wrap ((n:Int)-1)=n-1:=IntWalk.i64_in _ (by omega);have u6:=ri kP (by omega) ((n:Int)-1);obtain⟨t0,t1⟩:=p' kP ((n:Int)-1) (by omega) (by omega);obtain⟨k,Α⟩:∃k:Nat,gM kP ((n:Int)-1)=k:=⟨(gM kP ((n:Int)-1)).toNat,by omega⟩;obtain⟨Hr,Np⟩:∃x,kP.after ((n:Int)-1)=x:=⟨_,rfl⟩;have Y7:Hr.a5.length<=d.a5.length:=by rw[<-Np];exact Nat.le_trans (lN _ _) zl
    rw[Α,Np] at u6;rw[Α] at t1;have C9:k<G.length:=by omega
    have Hs:G[k]?=some (G[k]'C9):=aX C9;obtain⟨g,Ο⟩:∃g,g=G[k]'C9:=⟨_,rfl⟩;rw[<-Ο] at Hs;have Nq:∀h,G[k]'h=g:=λh=>Ο.symm
    repeat apply μ
    refine W.hD (A:=[]) Μ [(8,.ms 1 n 0 n)] [bK Hr,.cells 77 2 ((G.set k ⟨g.name,last⟩).map eb)] ?_ (by
     (try simp);(repeat (rw[ε];simp[gr,j5]));(try simp[gr,j5]);refine ej.c (u6) 0 rfl (aE.refl _) (by simp) (by simp) ?_;simp[Hs,Nq,gr];(repeat (rw[ε];simp[Hs,Nq,gr]))
     first|omega|(refine⟨by omega,?_⟩;simp[List.map_set]))
    (repeat (first|apply μ|(refine ξ λθ I=>?_;simp;(repeat (rw[ε];simp));apply I)));rw[<-List.map_set];refine W.Ng (x:=4) (n:=n) (l:=(G.set k ⟨g.name,last⟩).map eb) (Nat.le_refl _) (by rw[List.length_map];simp[gr]) qc ?_ ?_
    ·simp
    exact W.ret ⟨_,rfl,_,Hr,.refl _,⟨_,rfl,by rw[Ο];exact Nn.set C9 l0 l1 (Y6 a6.1)⟩,rfl,Y7⟩
   ·(repeat (first|apply μ|(refine ξ λθ I=>?_;simp;(repeat (rw[ε];simp));apply I)));refine W.Ng (x:=4) (n:=n) (l:=G.map eb) (Nat.le_refl _) (by rw[List.length_map];simp[gr]) qc ?_ ?_
    ·simp
    exact W.ret ⟨_,rfl,_,kP,.refl _,⟨_,rfl,Nn⟩,rfl,zl⟩
end Go.TL
namespace Go.TL
open Go.Conc
variable [bh]
inductive qd (id k:Nat) (l:List ζ):ζ->ζ->Prop where
 | same (a:ζ):qd id k l a a
 | ms:qd id k l (.ms id l.length 0 l.length) (.sl false k l)
 | ae {e:ζ}:l=[e]->qd id k l (.ae id 1 0 0) (.Ω e.cells)
def zo (id k:Nat) (l:List ζ) (r r':Row):Prop:=r'=r\/∃t n es es',r=.cells t n es/\r'=.cells t n es'/\es'.length=es.length/\
 ∀(i:Nat) (e aA:ζ),es[i]?=some e->es'[i]?=some aA->aA.cells.length=e.cells.length/\∀(x:Nat) (a b6:ζ),e.cells[x]?=some a->aA.cells[x]?=some b6->qd id k l a b6
section
variable {P:Program} {S:al} {B:aH} {H:υ} {σ σ':List Row} {m nt id k:Nat} {t:TypeId} {l:List ζ} {kk:List Item} {env:Φ} {Z:List Item->Φ->List Row->Prop} {E:ζ->Φ->List Row->Prop}
def al.set (S:al) (B:aH) (H:υ) (id:Nat):al:=λb o=>match B[id]? with
 | some (some (cx,_))=>if b=cx then(H.av b o).map (·.1) else S b o
 | _=>S b o
theorem Nr {b N:Nat} (hb:B[id]?=some (some (b,N))) (o:Nat):S.set B H id b o=(H.av b o).map (·.1):=by
 unfold al.set;rw[hb];simp
theorem Ns (ψ:Holds S B σ H) (bA:σ[id]?=some (.cells t k l)):∀b o v,S b o=some v->S.set B H id b o=some v:=λb o v hv=>by
 unfold al.set;split
 ·rename_i cx N hb;split
  ·rename_i e;subst e;rw[ψ.sep id _ b N bA trivial hb o] at hv;cases hv
  ·exact hv
 ·exact hv
theorem bQ.wF (ψ:Holds S B σ H) (bA:σ[id]?=some (.cells t k l)) (wG:σ'[id]?=some .dead) (mI:∀j r,j≠id->σ[j]?=some r->∃r',σ'[j]?=some r'/\zo id k l r r'):bQ S (S.set B H id) B B σ σ':=
 ⟨Ns ψ bA,λj r ι=>by
  by_cases e:j=id
  ·subst e;rw[bA] at ι;cases ι;exact⟨.dead,wG,.inr λn _=>trivial⟩
  ·obtain⟨r',J,R⟩:=mI j r e ι;refine⟨r',J,?_⟩;rcases R with rfl|⟨t,n,es,es',rfl,rfl,ς,_⟩
   ·exact Row.rM _ _
   ·exact .inl ⟨es',rfl,ς,rfl⟩⟩
theorem ah.Nt (ψ:Holds S B σ H) (bA:σ[id]?=some (.cells t k l)) (Β:bQ S (S.set B H id) B B σ σ') {a b6:ζ} (ν:qd id k l a b6) {v:Value} (ι:ah S B σ a v):ah (S.set B H id) B σ' b6 v:=by
 cases ν with
 | same=>exact ι.later Β
 | ms=>
  cases ι with
  | ms cap Ξ aa aM b9 fV hs=>
   rw[bA] at Ξ;cases Ξ;by_cases Ν:l=[]
   ·subst Ν;exact .hN _ _ (by simp)
   ·have og:0<l.length:=List.length_pos_iff.2 Ν;rcases hs with hs|⟨b,N,rfl,rfl,hs⟩
    ·omega
    ·obtain⟨_,_,_,w,hw⟩:=ψ.row id _ _ bA aM;rw[Nat.zero_mul];refine .sl b 0 cap (λj x=>w j x) (by simp) fV (λj e γ=>(hw j e γ).1) (λj e γ x c U=>?_) (λj e γ x c U=>?_)
     ·have:=((hw j e γ).2 x c U).1;rw[Nr aM,Nat.zero_add,this];rfl
     ·exact(((hw j e γ).2 x c U).2.1).later Β
  | h8 v Ξ aa=>rw[bA] at Ξ;cases Ξ;simp only[Row.gn] at aa;omega
 | @ae e he=>
  subst he;cases ι with
  | ae Ξ aa aM=>
   rw[bA] at Ξ;cases Ξ;obtain⟨_,_,_,w,hw⟩:=ψ.row id _ _ bA aM;have af:=hw 0 e rfl;refine .Ω _ _ (λx=>w 0 x) (λx a U=>?_) (λx a U=>?_)
   ·have:=(af.2 x a U).1;rw[Nr aM,Nat.add_zero,this];rfl
   ·exact((af.2 x a U).2.1).later Β
  | iD v Ξ aa=>rw[bA] at Ξ;cases Ξ;simp[Row.gn] at aa
theorem W.wF (hm:m<=id) (bA:σ[id]?=some (.cells t k l)) (hlen:σ'.length=σ.length) (wG:σ'[id]?=some .dead) (mI:∀j r,j≠id->σ[j]?=some r->∃r',σ'[j]?=some r'/\zo id k l r r') (env':Φ) (cq:∀p∈env',qd id k l (aW env p.1) p.2)
  (hW:W P m nt kk env' σ' Z E):W P m nt kk env σ Z E:=by
 intro Q mn x cs b S B H a4 U hb χ Ν he;have ψ:=χ.holds;have Β:=bQ.wF ψ bA wG mI;have back:∀j r',j≠id->σ'[j]?=some r'->∃r,σ[j]?=some r/\zo id k l r r':=λj r' γ h=>by
  have ar:j<σ.length:=by rw[<-hlen];exact(bU.1 h).1
  obtain⟨r2,J,R⟩:=mI j _ γ (aX ar);rw[h] at J;cases J;exact⟨_,aX ar,R⟩
 have live:∀{r r':Row},zo id k l r r'->r'.live->r.live:=λ{r r'} h hv=>by
  rcases h with rfl|⟨_,_,_,_,rfl,rfl,_⟩
  ·exact hv
  ·trivial
 have h':Holds (S.set B H id) B σ' H:=by
  refine⟨λb o v h=>?_,by rw[hlen];exact ψ.len,λj r bo ι eC=>?_,λi j dT bW b fT fU gx hi γ hp dO gE cv=>?_,λj r b N ι eR hb o=>?_⟩
  ·unfold al.set at h;split at h
   ·split at h
    ·cases η:H.av b o with
     | none=>rw[η] at h;cases h
     | some x=>rw[η] at h;cases h;exact⟨x.2,rfl⟩
    ·exact ψ.cX b o v h
   ·exact ψ.cX b o v h
  ·by_cases e:j=id
   ·subst e;rw[wG] at ι;cases ι;trivial
   ·obtain⟨r0,J,R⟩:=back j r e ι;have ς:=ψ.row j r0 bo J eC;rcases R with rfl|⟨t2,n,es,es',rfl,rfl,Κ,aF⟩
    ·refine ς.later Β (λb N _=>⟨λ_=>rfl,rfl,rfl⟩) λcJ left cur Ε=>?_;subst Ε;obtain⟨_,_,aI,jN,xs,clock,seen,_,er,⟨es,fb⟩,_⟩:=ς;refine⟨?_,rfl,λb N _=>⟨λ_=>rfl,rfl,rfl⟩⟩;have bd:cJ≠id:=λe=>by subst e;rw[bA] at fb;cases fb
     obtain⟨r',dU,p2⟩:=mI cJ _ bd fb;rcases p2 with rfl|⟨_,_,_,_,p3,_⟩
     ·rw[dU,fb]
     ·cases p3
    ·cases bo with
     | none=>
      have:es=[]:=ς;subst this;exact dk.1 Κ
     | some y=>
      obtain⟨b,N⟩:=y;obtain⟨Ξ,aa,aM,w,b9⟩:=ς;refine⟨Ξ,by rw[Κ];exact aa,aM,w,λi aA hi=>?_⟩;have ar:i<es.length:=by rw[<-Κ];exact(bU.1 hi).1
      obtain⟨c1,c2⟩:=b9 i _ (aX ar);obtain⟨d1,d2⟩:=aF i _ aA (aX ar) hi;refine⟨d1.trans c1,λx b6 U=>?_⟩;have vi:x<(es[i]).cells.length:=by rw[<-d1];exact(bU.1 U).1
      obtain⟨er,fb,jQ⟩:=c2 x _ (aX vi);exact⟨er,fb.Nt ψ bA Β (d2 x _ b6 (aX vi) U),jQ⟩
  ·have Nu:∀j r,σ'[j]?=some r->r.live->j≠id:=λj r h hv e=>by subst e;rw[wG] at h;cases h;exact hv
   obtain⟨r1,a1,bg⟩:=back i dT (Nu i dT hi hp) hi;obtain⟨r2,bs,cF⟩:=back j bW (Nu j bW γ dO) γ;exact ψ.inj i j r1 r2 b fT fU gx a1 bs (live bg hp) (live cF dO) gE cv
  ·have bd:j≠id:=λe=>by subst e;rw[wG] at ι;cases ι;exact eR
   obtain⟨r1,a1,bg⟩:=back j r bd ι;have ν:=ψ.sep j r1 b N a1 (live bg eR) hb o;unfold al.set;split
   ·rename_i cx gz iC;split
    ·rename_i e;subst e;exact(ψ.inj j id r1 _ b N gz bd a1 bA (live bg eR) trivial hb iC).elim
    ·exact ν
   ·exact ν
 have pC:Ext S B H (S.set B H id) B H:=by
  refine⟨Ns ψ bA,λ_ _ _=>lZ.of ⟨λ_=>rfl,rfl,rfl⟩,λ_ h=>.inl h,λb o v hv=>?_,λ_ h=>h⟩;unfold al.set at hv;split at hv
  ·rename_i cx N iC;split at hv
   ·rename_i e;subst e;exact .inr (.inl ⟨N,cf iC⟩)
   ·exact .inl hv
  ·exact .inl hv
 have κ:eD m S B H σ (S.set B H id) B H σ':=⟨pC,Β.left m⟩
 have x2:∀(l2:Φ),(∀p∈l2,qd id k l (aW env p.1) p.2)->∀i,ah S B σ (aW env i) (a4.getD i undef)->ah (S.set B H id) B σ' (aW l2 i) (a4.getD i undef):=by
  intro l2
  induction l2 with
  | nil=>intro _ i _;exact .ca _
  | cons p l2 Γ=>
   intro tT i ι;simp only[aW];split
   ·rename_i e;subst e;exact ι.Nt ψ bA Β (tT p (by simp))
   ·exact Γ (λq Ψ=>tT q (by simp[Ψ])) i ι
 refine hW Q mn x cs b _ _ H a4 U hb ⟨h',λi=>x2 env' cq i (χ.b7 i),χ.size,by rw[hlen];exact χ.rows⟩ (λj gp fG cV fe bH t2 cB Ξ aa aM b9=>?_) (λa gp fG cV fe bH t2 cB v Ξ aa aM b9 fV=>?_)
 ·exact Ν j gp fG cV fe bH t2 cB Ξ (κ.trans aa) aM b9
 ·exact he a gp fG cV fe bH t2 cB v Ξ (κ.trans aa) aM b9 fV
end
end Go.TL
namespace Go.TL
open Go.Proofs
variable [bh]
theorem Y8 (d:cm) (n:Nat):(g9 d n).1.Pairwise (· < ·)/\∀x∈(g9 d n).1,0<=x/\x<n:=by
 induction n with
 | zero=>exact⟨List.Pairwise.nil,λx h=>(by cases h)⟩
 | succ n Γ=>
  show((g9 d n).1++_).Pairwise _/\∀x∈(g9 d n).1++_,_;constructor
  ·rw[List.pairwise_append];refine⟨Γ.1,by split<;>simp,λa κ b hb=>?_⟩;have:=Γ.2 a κ;split at hb
   ·simp at hb;omega
   ·simp at hb
  ·intro x U;rcases List.mem_append.1 U with U|U
   ·have:=Γ.2 x U;omega
   ·split at U
    ·simp at U;omega
    ·simp at U
structure uC (L:List (List Int)):Prop where
 lo:1<=L.length
 hi:L.length<=3
 each:∀l∈L,l.length<=3/\l.Pairwise (· < ·)/\∀x∈l,0<=x/\x<3
theorem Y9 {l:List Int} (J:l.Pairwise (· < ·)) (R:∀x∈l,0<=x/\x<3):vH l=0:=by
 refine zh λx U=>?_;obtain⟨i,hi,rfl⟩:=List.mem_map.1 U;have hi:=List.mem_range.1 hi;unfold tU;rw[aX hi];have ς:=R _ (List.getElem_mem hi);simp only;rw[if_neg,if_neg]
 ·rintro⟨af,Κ⟩;rw[aX (by omega)] at Κ;have:=List.pairwise_iff_getElem.1 J (i-1) i (by omega) hi (by omega);simp only[Option.getD_some] at Κ;omega
 ·unfold l';simp;omega
theorem uC.err {L:List (List Int)} (h:uC L):mR L=0:=by
 unfold mR;have J:=h.lo;have R:=h.hi;rw[if_neg (by omega),if_neg (by omega)];refine zh λx U=>?_;obtain⟨i,hi,rfl⟩:=List.mem_map.1 U;have hi:=List.mem_range.1 hi;rw[aX hi];obtain⟨_,ς,Κ⟩:=h.each _ (List.getElem_mem hi);exact Y9 ς Κ
abbrev bN:ζ:=.sl true 0 []
structure Y' where
 k:Nat
 d:cm
 L:List (List Int)
theorem uD {L:List (List Int)}:∀e∈L.map (bC δ 1),∀a∈e.cells,az 0 a:=λe he a κ=>by
 obtain⟨x,_,rfl⟩:=List.mem_map.1 he;simp[ζ.cells] at κ;subst κ;simp[gH,ζ.cells]
theorem Za (d:cm) (hd:d.a5.length<2 ^ 63) (hH cells:Nat) (lA:1<=hH) (wC:hH<=6) (C':cells<=4) :
  aC Tryz.prog 90 [.ae 0 1 0 0,δ hH,δ cells] [bK d] (λa s=>∃G L nc dV,dr a (.aR [aJ G,aL L,c8 4 (List.replicate nc bN)])/\kO G/\uC L/\nc<=cells/\s=bK dV::.dead::.dead::.dead::bz 60 1 (List.replicate nc bN)/\dV.a5.length<=d.a5.length) (λ_ _=>False):=by
 refine aC.body Μ Tryz.func90 rfl rfl Tryz.ntmps90 rfl rfl (by simp) ?_
 repeat apply μ
 refine dy (A:=[6]) Μ λθ I=>?_;simp;(repeat (rw[ε];simp));apply I
 repeat apply μ
 refine dy (A:=[7]) Μ λθ I=>?_;simp;(repeat (rw[ε];simp));refine sK.c (Y0 d hd hH lA wC) 0 rfl (aE.refl _) (by simp) (by rintro r ⟨l,rfl,_⟩;exact gH.2 qc) ?_;rintro r d1 ⟨G,rfl,cS⟩ jc;simp;(repeat (rw[ε];simp));apply I;have Zb:d1.a5.length<2 ^ 63:=by omega
 obtain⟨mA,gP⟩:=C0 d1 (a:=1) (b:=3) (by decide) (by decide) (by decide);obtain⟨nl,qW⟩:∃n:Nat,nR d1 1 3=n:=⟨(nR d1 1 3).toNat,by omega⟩;rw[qW] at mA gP;obtain⟨d2,kN⟩:∃x,d1.after (IntKind.i64.wrap (3-1))=x:=⟨_,rfl⟩;have C3:d2.a5.length<=d.a5.length:=by rw[<-kN];exact Nat.le_trans (lN _ _) jc
 have ab:=CY d1 Zb 1 3;rw[qW,kN] at ab;(repeat apply μ);refine ξ λθ I=>?_;simp;(repeat (rw[ε];simp));refine ej.c (ab) 0 rfl (aE.refl _) (by simp) (by simp) ?_;simp;(repeat (rw[ε];simp));apply I;have Ht:∀L:List (List Int),(c8 3 (L.map (bC δ 1))=.sl true 0 []/\bz 29 1 (L.map (bC δ 1))=[]/\L=[])\/(c8 3 (L.map (bC δ 1))=.ms 3 L.length 0 L.length/\bz 29 1 (L.map (bC δ 1))=[.cells 29 1 (L.map (bC δ 1))]/\0<L.length):=λL=>by
  by_cases Ν:L=[]
  ·subst Ν;exact .inl ⟨rfl,rfl,rfl⟩
  ·have fL:L.map (bC δ 1)≠[]:=by simpa using Ν
   exact .inr ⟨by rw[gK fL,List.length_map],ei fL,List.length_pos_iff.2 Ν⟩
 repeat apply μ
 refine W.iter (λx:Y'=>x.L.length+x.k=nl/\x.d.a5.length<=d.a5.length/\∀l∈x.L,l.length<=3/\l.Pairwise (· < ·)/\∀y∈l,0<=y/\y<3)
  (λx=>[(0,.ae 0 1 0 0),(2,δ cells),(6,.ae 1 1 0 0),(7,.ae 2 1 0 0),(8,δ x.k)])
  (λx=>bK x.d::g7 bN bN bN::g7 (aJ G) (c8 3 (x.L.map (bC δ 1))) bN::bz 29 1 (x.L.map (bC δ 1))) (λx=>x.k) ⟨nl,d2,[]⟩ ⟨by simp,C3,by simp⟩ rfl (by simp) (λx U Γ=>?_)
 obtain⟨k,D,L⟩:=x;obtain⟨Α,mi,aS⟩:=U;simp only at Α mi aS Γ ⊢;(repeat (first|apply μ|(refine ξ λθ I=>?_;simp;(repeat (rw[ε];simp));apply I)));refine W.dR rfl (λη=>?_) (λη=>?_)
 ·have m5:0<k:=by simpa using η
  obtain⟨j,γ⟩:∃j,k=j+1:=⟨k-1,by omega⟩;have hw:IntKind.i64.wrap ((k:Int)-1)=j:=by rw[IntWalk.i64_in _ (by omega)];omega
  have hi:=YI D (by omega)
  have κ:=Y8 D 3
  have Nv:=Nb D 3
  have BZ:=Na D 3;obtain⟨l,Β⟩:∃x,(g9 D 3).1=x:=⟨_,rfl⟩;obtain⟨nU,oX⟩:∃x,(g9 D 3).2=x:=⟨_,rfl⟩;rw[Β,oX] at hi;rw[Β] at κ Nv;rw[oX] at BZ;have sE:(L++[l]).length+j=nl/\nU.a5.length<=d.a5.length/\∀x∈L++[l],x.length<=3/\x.Pairwise (· < ·)/\∀y∈x,0<=y/\y<3:=by
   refine⟨by simp;omega,by omega,λx U=>?_⟩;rcases List.mem_append.1 U with U|U
   ·exact aS x U
   ·simp at U;subst U;exact⟨Nv,κ.1,κ.2⟩
  have bd:(L++[l]).map (bC δ 1)≠[]:=by simp
  repeat apply μ
  rcases Ht L with⟨Δ,Ε,a3⟩|⟨Δ,Ε,a3⟩
  ·rw[Δ,Ε];refine W.He (A:=[25]) Μ mixed λθ I=>?_;simp;(repeat (rw[jD];simp[]));(try rw[jC]);refine ej.e (hi) (aE.refl _) (by simp) (by simp) ?_;simp[];(repeat (rw[jD];simp[]));(try rw[jC]);refine⟨cZ (by kernel_rfl),cZ (by kernel_rfl),I _ _ ?_⟩;(repeat (first|apply μ|(refine ξ λθ I=>?_;simp;(repeat (rw[ε];simp[hw]));apply I)));subst a3;refine W.to (Γ ⟨j,nU,[]++[l]⟩ sE (by show j<k;omega)) ?_ ?_
   ·have e:c8 3 (([]++[l]).map (bC δ 1))=.ms 3 1 0 1:=rfl
    have aA:bz 29 1 (([]++[l]).map (bC δ 1))=[.cells 29 1 [bC δ 1 l]]:=rfl;simp only[e,aA]
   ·simp
  ·rw[Δ,Ε];refine W.He (A:=[25]) Μ mixed λθ I=>?_;simp;(repeat (rw[jD];simp[]));(try rw[jC]);refine ej.e (hi) (aE.refl _) (by simp) (by simp) ?_;simp[];(repeat (rw[jD];simp[]));(try rw[jC]);refine⟨by omega,?_⟩;refine⟨cZ (by kernel_rfl),cZ (by kernel_rfl),I _ _ ?_⟩;(repeat (first|apply μ|(refine ξ λθ I=>?_;simp;(repeat (rw[ε];simp[hw]));apply I)));refine W.to (Γ ⟨j,nU,L++[l]⟩ sE (by show j<k;omega)) ?_ ?_
   ·have e:c8 3 ((L++[l]).map (bC δ 1))=.ms 3 (L.length+1) 0 (L.length+1):=by rw[gK bd,List.length_map,List.length_append];rfl
    have aA:bz 29 1 ((L++[l]).map (bC δ 1))=[.cells 29 1 (L.map (bC δ 1)++[bC δ 1 l])]:=by rw[ei bd,List.map_append];rfl
    simp only[e,aA]
   ·simp
 ·have m5:k=0:=by simp at η;omega
  subst m5;have lz:L.length=nl:=by omega
  have Zc:uC L:=⟨by omega,by omega,aS⟩;rcases Ht L with⟨Δ,Ε,a3⟩|⟨Δ,Ε,a3⟩
  ·subst a3;simp at lz;omega
  refine W.to (env':=[(0,.ae 0 1 0 0),(2,δ cells),(6,.ae 1 1 0 0),(7,.ae 2 1 0 0)]) (σ':=[bK D,g7 bN bN bN,g7 (aJ G) (.ms 3 L.length 0 L.length) bN,.cells 29 1 (L.map (bC δ 1))]) ?_ (by rw[Δ,Ε]) (by simp);clear Γ η Ht Δ Ε;refine W.exit rfl ?_;have tW:D.a5.length<2 ^ 63:=by omega
  obtain⟨dn,fR⟩:=C0 D (a:=0) (b:=cells) (by omega) (by decide) (by omega);obtain⟨nc,qJ⟩:∃n:Nat,nR D 0 cells=n:=⟨(nR D 0 cells).toNat,by omega⟩;rw[qJ] at dn fR;obtain⟨d3,zj⟩:∃x,D.after (IntKind.i64.wrap ((cells:Int)-0))=x:=⟨_,rfl⟩;have Ho:d3.a5.length<=d.a5.length:=by rw[<-zj];exact Nat.le_trans (lN _ _) mi
  have ab:=CY D tW 0 cells;rw[qJ,zj] at ab;(repeat apply μ);refine ξ λθ I=>?_;simp;(repeat (rw[ε];simp));refine ej.c (ab) 0 rfl (aE.refl _) (by simp) (by simp) ?_;simp;(repeat (rw[ε];simp));apply I
  repeat apply μ
  refine W.iter (λx:Nat×Nat=>x.1+x.2=nc)
   (λx=>[(0,.ae 0 1 0 0),(6,.ae 1 1 0 0),(7,.ae 2 1 0 0),(9,δ x.1)])
   (λx=>bK d3::g7 bN bN bN::g7 (aJ G) (.ms 3 L.length 0 L.length) (c8 4 (List.replicate x.2 bN))::.cells 29 1 (L.map (bC δ 1))::bz 60 1 (List.replicate x.2 bN)) (λx=>x.1) (nc,0) (by simp) rfl (by simp) (λx U Γ=>?_)
  obtain⟨k,c⟩:=x;simp only at U Γ ⊢;(repeat (first|apply μ|(refine ξ λθ I=>?_;simp;(repeat (rw[ε];simp));apply I)));refine W.dR rfl (λη=>?_) (λη=>?_)
  ·have m5:0<k:=by simpa using η
   obtain⟨j,γ⟩:∃j,k=j+1:=⟨k-1,by omega⟩;have hw:IntKind.i64.wrap ((k:Int)-1)=j:=by rw[IntWalk.i64_in _ (by omega)];omega
   have EC:c8 4 (List.replicate (c+1) bN)=.ms 4 (c+1) 0 (c+1):=by rw[gK (by simp),List.length_replicate]
   have yt:bz 60 1 (List.replicate (c+1) bN)=[.cells 60 1 (List.replicate c bN++[bN])]:=by rw[ei (by simp),List.replicate_succ']
   repeat apply μ
   by_cases Ν:c=0
   ·subst Ν;have vg:c8 4 (List.replicate 0 bN)=bN:=rfl;have xL:bz 60 1 (List.replicate 0 bN)=[]:=rfl;rw[vg,xL];refine dy (A:=[37]) Μ λθ I=>?_;simp;(repeat (rw[ε];simp));apply I;(repeat (first|apply μ|(refine ξ λθ I=>?_;simp;(repeat (rw[ε];simp[hw]));apply I)));refine W.to (Γ (j,1) (by show j+1=nc;omega) (by show j<k;omega)) ?_ ?_
    ·simp only[EC,yt];rfl
    ·simp
   ·have vg:c8 4 (List.replicate c bN)=.ms 4 c 0 c:=by rw[gK (by simp[Ν]),List.length_replicate]
    have xL:bz 60 1 (List.replicate c bN)=[.cells 60 1 (List.replicate c bN)]:=ei (by simp[Ν]);rw[vg,xL];refine dy (A:=[37]) Μ λθ I=>?_;simp;(repeat (rw[ε];simp));refine⟨by omega,?_⟩;apply I;(repeat (first|apply μ|(refine ξ λθ I=>?_;simp;(repeat (rw[ε];simp[hw]));apply I)));refine W.to (Γ (j,c+1) (by show j+(c+1)=nc;omega) (by show j<k;omega)) ?_ ?_
    ·simp only[EC,yt]
    ·simp
  ·have m5:k=0:=by simp at η;omega
   have ni:c=nc:=by omega
   subst ni;refine W.exit rfl ?_;obtain⟨C,hC⟩:∃x,x=c8 4 (List.replicate c bN):=⟨_,rfl⟩;obtain⟨RC,Da⟩:∃x,x=bz 60 1 (List.replicate c bN):=⟨_,rfl⟩;rw[<-hC,<-Da];have Zd:(C=bN/\RC=[])\/(C=.ms 4 c 0 c/\RC=[.cells 60 1 (List.replicate c bN)]):=by
    by_cases Ν:c=0
    ·subst Ν;exact .inl ⟨hC,Da⟩
    ·exact .inr ⟨by rw[hC,gK (by simp[Ν]),List.length_replicate],by rw[Da,ei (by simp[Ν])]⟩
   repeat apply μ
   refine W.hD (A:=[]) Μ [(6,.ae 1 1 0 0)] (bK d3::g7 (aJ G) (.ms 3 L.length 0 L.length) C::g7 (aJ G) (.ms 3 L.length 0 L.length) C::.cells 29 1 (L.map (bC δ 1))::RC) ?_ (by
    rcases Zd with⟨Δ,Ε⟩|⟨Δ,Ε⟩
    ·rw[Δ,Ε];(try simp);(repeat (rw[ε];simp));(try simp[])
    ·rw[Δ,Ε];(try simp);(repeat (rw[ε];simp));(try simp[]))
   have qu:qd 3 1 (L.map (bC δ 1)) (.ms 3 L.length 0 L.length) (aL L):=by
    have:=qd.ms (id:=3) (k:=1) (l:=L.map (bC δ 1))
    rwa [List.length_map] at this
   have bZ:zo 3 1 (L.map (bC δ 1)) (g7 (aJ G) (.ms 3 L.length 0 L.length) C) (g7 (aJ G) (aL L) C):=by
    refine .inr ⟨26,3,_,_,rfl,rfl,rfl,λi e aA J R=>?_⟩
    match i with
    | 0=>
     simp at J R;subst J;subst R;refine⟨rfl,λx a b6 ς Κ=>?_⟩
     match x with
     | 0=>simp[ζ.cells] at ς Κ;subst ς;subst Κ;exact .same _
     | 1=>simp[ζ.cells] at ς Κ;subst ς;subst Κ;exact qu
     | 2=>simp[ζ.cells] at ς Κ;subst ς;subst Κ;exact .same _
     | x+3=>simp[ζ.cells] at ς
    | i+1=>simp at J
   refine W.wF (σ':=bK d3::g7 (aJ G) (aL L) C::g7 (aJ G) (aL L) C::.dead::RC) (id:=3) (by simp) rfl rfl rfl (λj r γ ι=>?_) [(6,.ae 1 1 0 0)] (λp χ=>by simp at χ;subst χ;exact .same _) ?_
   ·match j,γ,ι with
    | 0,_,ι=>simp at ι;subst ι;exact⟨_,rfl,.inl rfl⟩
    | 1,_,ι=>simp at ι;subst ι;exact⟨_,rfl,bZ⟩
    | 2,_,ι=>simp at ι;subst ι;exact⟨_,rfl,bZ⟩
    | 3,h,_=>exact absurd rfl h
    | j+4,_,ι=>exact⟨r,ι,.inl rfl⟩
   refine W.wF (σ':=bK d3::g7 (aJ G) (aL L) C::.dead::.dead::RC) (id:=2) (by simp) rfl rfl rfl (λj r γ ι=>?_) [(6,.ae 1 1 0 0)] (λp χ=>by simp at χ;subst χ;exact .same _) ?_
   ·match j,γ,ι with
    | 0,_,ι=>exact⟨r,ι,.inl rfl⟩
    | 1,_,ι=>exact⟨r,ι,.inl rfl⟩
    | 2,h,_=>exact absurd rfl h
    | j+3,_,ι=>exact⟨r,ι,.inl rfl⟩
   refine W.wF (σ':=bK d3::.dead::.dead::.dead::RC) (id:=1) (by simp) rfl rfl rfl (λj r γ ι=>?_) [(6,.Ω [aJ G,aL L,C])] (λp χ=>by simp at χ;subst χ;exact .ae (e:=.aR [aJ G,aL L,C]) rfl) ?_
   ·match j,γ,ι with
    | 0,_,ι=>exact⟨r,ι,.inl rfl⟩
    | 1,h,_=>exact absurd rfl h
    | j+2,_,ι=>exact⟨r,ι,.inl rfl⟩
   refine W.ret ⟨_,rfl,?_⟩;refine⟨G,L,c,d3,?_,cS,Zc,by omega,by rw[Da],Ho⟩;rw[<-hC];exact .refl _
theorem Ze:∀a<64,∀b<64,0<=ff .i64 (a:Nat) (b:Nat)/\ff .i64 (a:Nat) (b:Nat)<=63/\0<=po .i64 (a:Nat) (b:Nat)/\po .i64 (a:Nat) (b:Nat)<=63/\ff .i64 (b:Nat) (po .i64 (a:Nat) (b:Nat))=0:=by decide +kernel
theorem Hu {a b:Int} (κ:0<=a/\a<=63) (hb:0<=b/\b<=63):(0<=ff .i64 a b/\ff .i64 a b<=63)/\(0<=po .i64 a b/\po .i64 a b<=63)/\ff .i64 b (po .i64 a b)=0:=by
 obtain⟨x,rfl⟩:∃x:Nat,a=x:=⟨a.toNat,by omega⟩;obtain⟨y,rfl⟩:∃y:Nat,b=y:=⟨b.toNat,by omega⟩;obtain⟨J,R,ς,Κ,aF⟩:=Ze x (by omega) y (by omega);exact⟨⟨J,R⟩,⟨ς,Κ⟩,aF⟩
structure wH (n:Nat) (c:List eS):Prop where
 hi:c.length<=3
 apart:(c.map (·.cK)).Nodup
 each:∀p∈c,(0<=p.cK/\p.cK<n)/\(0<=p.seen/\p.seen<=63)/\(0<=p.bare/\p.bare<=63)/\pJ p.seen p.bare=0
structure wI (s:a9):Prop where
 Τ:kO s.Τ
 ak:uC s.ak
 many:s.cells.length<=4
 cells:∀c∈s.cells,wH s.ak.length c
theorem wH.err {s:a9} {c:List eS} (h:wH s.ak.length c):oC s c=0:=by
 unfold oC;have:=h.hi;rw[if_neg (by omega)];refine zh λx U=>?_;obtain⟨i,hi,rfl⟩:=List.mem_map.1 U;have hi:=List.mem_range.1 hi;rw[aX hi];obtain⟨J,R,ς,Κ⟩:=h.each _ (List.getElem_mem hi);simp only;unfold hA;rw[if_neg (by omega),if_neg,if_neg (by unfold valid;simp;omega),if_pos Κ];intro κ;obtain⟨y,ad,he⟩:=List.any_eq_true.1 κ;obtain⟨j,γ,rfl⟩:=List.mem_take_iff_getElem.1 ad;have hd:=List.pairwise_iff_getElem.1 h.apart j i (by simp;omega) (by simpa using hi) (by omega);simp at he hd;exact hd he
theorem wI.err {s:a9} (h:wI s):s.err=0:=by
 unfold a9.err;rw[h.Τ.err,h.ak.err,if_neg (by simp),if_neg (by simp)];unfold q2;have:=h.many;rw[if_neg (by omega)];refine zh λx U=>?_;obtain⟨i,hi,rfl⟩:=List.mem_map.1 U;have hi:=List.mem_range.1 hi;rw[aX hi];exact(h.cells _ (List.getElem_mem hi)).err
theorem wI.small {s:a9} (h:wI s):s.small:=by
 have J:=h.Τ.hi
 have R:=h.ak.hi
 have ς:=h.many;refine⟨by omega,by omega,by omega,λx U=>?_,λx U=>?_⟩
 ·have:=(h.ak.each x U).1;omega
 ·have:=(h.cells x U).hi;omega
theorem Zf (d:cm) (hd:d.a5.length<2 ^ 63) (hH cells:Nat) (lA:1<=hH) (wC:hH<=6) (C':cells<=4) {σ:List Row} {K E:ζ->List Row->Prop} (af:σ[0]?=some (bK d))
  (I:∀G L nc dV,kO G->uC L->nc<=cells->dV.a5.length<=d.a5.length->K (.aR [aJ G,aL L,c8 (σ.length+3) (List.replicate nc bN)]) (σ.set 0 (bK dV)++(.dead::.dead::.dead::bz 60 1 (List.replicate nc bN)))) :
  ht Tryz.prog (.fn (.func 90) [] []) [.ae 0 1 0 0,δ hH,δ cells] σ K E:=by
 have χ:∀nc,∀r∈bz 60 1 (List.replicate nc bN),yc r:=λnc r ι=>by
  unfold bz at ι;split at ι
  ·cases ι
  ·simp at ι;subst ι;refine .inl λe he a κ=>?_;have:=List.eq_of_mem_replicate he;subst this;simp[ζ.cells] at κ;subst κ;simp[gH]
 have J:=aC.mL (Za d hd hH cells lA wC C') (aE.refl _) (K':=λa s=>∃G L nc dV,a=.aR [aJ G,aL L,c8 4 (List.replicate nc bN)]/\kO G/\uC L/\nc<=cells/\s=bK dV::.dead::.dead::.dead::bz 60 1 (List.replicate nc bN)/\dV.a5.length<=d.a5.length) (λa s ⟨G,L,nc,dV,J,R⟩=>⟨_,J,G,L,nc,dV,rfl,R⟩)
 have aN:=aC.Kj (σ:=σ) J [0] (by simp) rfl (λj i γ=>by
  cases j with
  | zero=>simp at γ;subst γ;exact af
  | succ j=>simp at γ) (λr ι=>by simp at ι;subst ι;exact nQ d) (by
   intro a κ;simp at κ;rcases κ with rfl|rfl|rfl
   ·exact Nat.zero_lt_one
   ·exact(az.z _).hT 1
   ·exact(az.z _).hT 1) (K':=K) (E':=E) (λa s=>by
   rintro⟨G,L,nc,dV,rfl,Ξ,aa,aM,rfl,b9⟩;refine⟨λr ι=>?_,?_,?_⟩
   ·simp only[List.mem_cons] at ι;rcases ι with rfl|rfl|rfl|rfl|ι
    ·exact .inl (nQ dV)
    ·exact .inr rfl
    ·exact .inr rfl
    ·exact .inr rfl
    ·exact χ nc r ι
   ·intro a κ;simp only[List.mem_cons,List.not_mem_nil,or_false] at κ;rcases κ with rfl|rfl|rfl
    ·exact az.top (gH.2 qc) _
    ·exact az.top (gH.2 uD) _
    ·unfold c8 bz;split
     ·exact az.top (by simp) _
     ·show 4<_;simp
   ·have Δ:qV σ [0] (bK dV::.dead::.dead::.dead::bz 60 1 (List.replicate nc bN))=σ.set 0 (bK dV)++(.dead::.dead::.dead::bz 60 1 (List.replicate nc bN)):=by
     simp[qV,hQ]
    have Ε:dP (names [0] σ.length (bK dV::.dead::.dead::.dead::bz 60 1 (List.replicate nc bN))) (.aR [aJ G,aL L,c8 4 (List.replicate nc bN)])=.aR [aJ G,aL L,c8 (σ.length+3) (List.replicate nc bN)]:=by
     by_cases Ν:nc=0
     ·subst Ν;rfl
     ·rw[gK (by simp[Ν]),gK (by simp[Ν]),ei (by simp[Ν])];show ζ.aR [_,_,_]=_;simp[hy,names,List.range_succ]
    rw[Δ,Ε];exact I G L nc dV Ξ aa aM b9) (λa s h=>h.elim)
 exact aC.call (first:=[]) (captured:=[]) (by simpa[mO,dP,hy] using aN)
end Go.TL
