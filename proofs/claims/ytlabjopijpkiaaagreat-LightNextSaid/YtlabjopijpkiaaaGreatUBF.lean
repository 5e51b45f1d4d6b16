/- LightNext: whatever the photograph of Next shows, at most as many truths are left as it says, and no other is better, nor as good and before it. No conditions. -/
import Derived.Carry
import Derived.ChangeSlices
import Derived.Conc.HoldsTime
import Derived.KernelRfl
import Derived.OpenShut
import Derived.Test.YtlabjopijpkiaaaGreatUAZ
import Derived.Test.YtlabjopijpkiaaaGreatUBE
import Derived.Test.YtlabjopijpkiaaaGreatRows
set_option maxHeartbeats 16000000
set_option maxRecDepth 20000
set_option linter.unusedSectionVars false
set_option linter.unusedSimpArgs false
set_option linter.unusedVariables false
namespace Go.TL
open Go.Proofs
variable [bt]
def nS (V:List Int) (i:Nat):List Int:=(List.range 64).map λv:Nat=>(((V.take i).count (v:Int):Nat):Int)
theorem B0 (V:List Int) (i:Nat):(nS V i).length=64:=by simp[nS]
theorem Gl (V:List Int) (i:Nat) {v:Nat} (h:v<64):(nS V i)[v]?=some (((V.take i).count (v:Int):Nat):Int):=by
 unfold nS;rw[List.getElem?_map,List.getElem?_range h];rfl
theorem hΗ (V:List Int):nS V 0=List.replicate 64 0:=by
 apply List.ext_getElem?;intro i;by_cases h:i<64
 ·rw[Gl V 0 h,List.getElem?_replicate,if_pos h];simp
 ·rw[List.getElem?_eq_none (by rw[B0];omega),List.getElem?_eq_none (by simp;omega)]
theorem SV (V:List Int) {i:Nat} (hi:i<V.length) (u:Int):(V.take (i+1)).count u=(V.take i).count u+if V[i]=u then 1 else 0:=by
 rw[List.take_succ_eq_append_getElem hi,List.count_append,List.count_singleton];by_cases hv:V[i]=u<;>simp[hv]
theorem hΘ (V:List Int) {i v:Nat} (hi:i<V.length) (hv:V[i]=(v:Int)):nS V (i+1)=(nS V i).set v ((((V.take i).count (v:Int):Nat):Int)+1):=by
 apply List.ext_getElem?;intro j;rw[List.getElem?_set,B0];by_cases h:j<64
 ·rw[Gl V (i+1) h,SV V hi,hv];by_cases δ:v=j
  ·subst δ;rw[if_pos rfl,if_pos h,if_pos rfl];rfl
  ·rw[if_neg δ,if_neg R,Gl V i h];rfl
 ·have Δ:(nS V (i+1))[j]?=none:=List.getElem?_eq_none (by rw[B0];omega)
  have Γ:(nS V i)[j]?=none:=List.getElem?_eq_none (by rw[B0];omega);rw[Δ,Γ];split
  ·rw[if_neg R]
  ·rfl
abbrev tz:=Int×Int×Int
def y5 (L:tz) (c n m:Int):tz:=if m<L.2.2 then(c,n,m) else L
def xd (s:aI) (T:List ew) (c n:Nat):Nat:=runM (T.map (pO s c n)) T.length
def qT (s:aI) (T:List ew) (c:Nat) (L:tz) (n:Nat):tz:=(List.range n).foldl (λL (n:Nat)=>y5 L c n (xd s T c n)) L
def nT (s:aI) (T:List ew) (c:Nat):tz:=(List.range c).foldl (λL (c:Nat)=>qT s T c L s.ak.length) (-1,0,T.length)
theorem SW (s:aI) (T:List ew) (c:Nat) (L:tz) (n:Nat):qT s T c L (n+1)=y5 (qT s T c L n) c n (xd s T c n):=by simp[qT,List.range_succ,List.foldl_append]
theorem SX (s:aI) (T:List ew) (c:Nat):nT s T (c+1)=qT s T c (nT s T c) s.ak.length:=by simp[nT,List.range_succ,List.foldl_append]
theorem SY (s:aI) (T:List ew) (c n:Nat):xd s T c n<=T.length:=by
 obtain⟨_,U⟩:=Lx (T.map (pO s c n)) T.length θ;unfold xd;rcases U with U|⟨v,U⟩
 ·omega
 ·have:=List.count_le_length (a:=v) (l:=(T.map (pO s c n)).take T.length);rw[List.length_take,List.length_map] at this;omega
def y6 (N:Int) (L:tz) (B:ks):Prop:=(L=(-1,0,N)/\(B.some=false\/B.least=N))\/(B.some=true/\L=(B.c,B.n,B.least)/\B.least<N/\0<=B.c)
theorem hΙ {N:Int} {L:tz} {B:ks} (h:y6 N L B) (c n:Nat) {m:Int} (hm:m<=N):y6 N (y5 L c n m) (B.take c n m):=by
 unfold y5 ks.take;rcases h with⟨rfl,h⟩|⟨I,rfl,ξ,Κ⟩
 ·simp only;by_cases aB:m<N
  ·rw[if_pos aB,if_pos (by rcases h with h|h;exact .inl h;exact .inr R)];exact .inr ⟨rfl,rfl,aB,θ⟩
  ·rw[if_neg aB];refine .inl ⟨rfl,?_⟩;split
   ·exact .inr (by simp only;omega)
   ·exact h
 ·simp only;by_cases aB:m<B.least
  ·rw[if_pos aB,if_pos (.inr aB)];exact .inr ⟨rfl,rfl,by simp only;omega,θ⟩
  ·rw[if_neg aB,if_neg (λh=>by rcases h with h|h;rw[I] at h;cases h;exact aB h)];exact .inr ⟨I,rfl,ξ,Κ⟩
theorem hΚ {s:aI} (h:qS s):y6 (eg s 3).length (nT s (eg s 3) s.cells.length) (rM s (en s) s.cells.length):=by
 have inner:∀c,c<s.cells.length->∀L B,y6 (eg s 3).length L B->∀n,y6 (eg s 3).length (qT s (eg s 3) c L n) (uH s (en s) c B n):=by
  intro c ε L B hi n
  induction n with
  | zero=>exact hi
  | succ n Β=>
   rw[SW,O4,hΖ h ε n];exact hΙ Β c n (Int.ofNat_le.2 (SY s (eg s 3) c n))
 have outer:∀c,c<=s.cells.length->y6 (eg s 3).length (nT s (eg s 3) c) (rM s (en s) c):=by
  intro c
  induction c with
  | zero=>intro _;exact .inl ⟨rfl,.inl rfl⟩
  | succ c Β=>
   intro ε;rw[SX,O5];exact inner c R _ _ (Β R) _
 exact outer _ (Nat.le_refl _)
theorem hΜ {s:aI} (h:qS s) (gB:en s≠[]):py s (en s)=if(nT s (eg s 3) s.cells.length).1<0 then(0,0,0,11) else((nT s (eg s 3) s.cells.length).1,(nT s (eg s 3) s.cells.length).2.1,(nT s (eg s 3) s.cells.length).2.2,0):=by
 have hi:=hΚ h
 have hb:(fN s true (en s)).2.2=0:=by
  unfold fN;rw[if_neg (by rw[h.yX.err];simp),if_neg (λh=>gB h.2)]
 unfold py;rw[if_neg (by rw[hb];simp),h.len];simp only;rcases hi with⟨I,U⟩|⟨I,U,ξ,Κ⟩
 ·rw[I,if_pos U];rfl
 ·rw[U];simp only;rw[if_neg (by rintro(aE|aE);rw[I] at aE;cases aE;omega),if_neg R]
theorem hΝ {most cells:Nat} {s:aI} {p:Int×Int} {rd:List (Int×Int)} (h:KY most cells s p rd):en s≠[]:=by
 obtain⟨k,ς,rfl⟩:=h.gΖ;have υ:=h.len;have κ:∀c,c<s.cells.length->0<(ev s (cd k) c).length:=λc ε=>by
  have Ρ:rd[c]?=some (rd[c]'R):=a5 R;exact List.length_pos_of_mem (List.mem_filter.2 ⟨Lv.2 (h.each _ (cr Ρ)),h.right c _ Ρ⟩)
 have ψ:∀i,i<=s.cells.length->0<gF (dW s (cd k)).cells (-1) i:=by
  intro i
  induction i with
  | zero=>intro _;simp[gF]
  | succ i Β=>
   intro hi;rw[gω _ R];exact Nat.mul_pos (Β R) (κ i R)
 intro Η;have:dW s (cd k)∈en s:=KW.2 ⟨k,ς,by rw[F3];exact ψ _ (Nat.le_refl _),rfl⟩;rw[Η] at this;cases this
theorem SZ {s:aI} {k:Nat} (ς:k<3):∀c,∀x∈jA s (cd k) c,SG s x
 | 0,x,γ=>by
  simp[jA] at γ;subst γ;exact⟨KV k ς,λr κ=>by cases κ⟩
 | c+1,x,γ=>by
  rw[Ly] at γ;obtain⟨y,Ο,γ⟩:=List.mem_flatMap.1 γ;obtain⟨r,κ,rfl⟩:=List.mem_map.1 γ;have Ο:=SZ ς c y Ο;refine⟨KV k ς,λz Θ=>?_⟩;rcases List.mem_append.1 Θ with Θ|Θ
  ·exact Ο.2 z Θ
  ·simp at Θ;subst Θ;exact Lv.1 (List.mem_filter.1 κ).1
theorem qS.ok {s:aI} (h:qS s):∀x∈eg s 3,SG s x/\x.2.length=s.cells.length:=λx γ=>by
 obtain⟨k,ς,γ⟩:=List.mem_flatMap.1 γ;have ς:=List.mem_range.1 ς;rw[h.full ς] at γ;exact⟨SZ ς _ x γ,(BY _ x γ).2⟩
end Go.TL
namespace Go.TL
open Go.Proofs
theorem hΞ (l:List Int) (υ:l.length<2 ^ 63):@W oD Tryz.prog 0 157 [.code (Tryz.f4.body.getD .skip)] (entry 0 [a2 J 1 l]) [] (λj env _=>(∃k,j=.code .ret::k)/\a6 env 2=bm true) (λ_ _ _=>False):=by
 letI:bt:=oD;show W Tryz.prog 0 157 [.code _] _ _ _ _;refine W.seq ?_
 repeat apply ar
 refine um ?_;refine x5 ?_;refine dG (A:=[3]) Φ λΕ ζ=>bT ?_;refine ao.call (first:=[]) (captured:=[]) ((gΑ l).mono (λa s ⟨I,U⟩=>?_) (λ_ _ h=>h.elim));subst I;subst U;simp;(repeat (rw[Υ];simp[]));have S0:(⟨l,1⟩:cB).bg.length<2 ^ 63:=υ;generalize (⟨l,1⟩:cB)=d0 at S0;refine u3.c (gΘ d0 S0 3 2 bD bD bD) 0 rfl (bS.refl _) θ (by
  rintro r ⟨s,p,rd,rfl,_⟩;simp[hh,η.cells]) ?_
 rintro r d1 ⟨s,p,rd,rfl,hw⟩ ko;simp;(repeat (rw[Υ];simp[]));apply ζ;clear ζ Ε;refine W.pt (σ0:=[b1 d1]) (Nat.zero_le _) (λr κ=>by simp at κ;subst κ;exact u2 d1 _) (λa μ=>by simp[η.cells] at μ;rcases μ with rfl|rfl|rfl<;>simp[hh,η.cells]) [(3,.ab [aS s.ag,aQ s.ak,bl s.cells])] (by simp[lb,η.cells,hh]) ?_;have ν:=hw.yX;have rf:=ν.small;have j8:=hw.many;have FN:=ν.ak.hi;have gB:=hΝ hw;have o1:=hρ s ν;have bY:=λh=>hΜ (s:=s) ⟨ν,j8,h⟩ gB;have B1:=λh=>qS.ok (s:=s) ⟨ν,j8,h⟩;have qL:=O6 s rf (en s) (gχ ν) (hΓ ν);obtain⟨mξ,LB⟩:=aF (py s (en s));rw[<-LB] at qL;simp only[<-LB] at bY;clear LB;obtain⟨T,Ι⟩:=aF (eg s 3);rw[<-Ι] at o1;simp only[<-Ι] at bY B1;clear Ι;have S1:(T.map lF).length=T.length:=List.length_map _;obtain⟨hΟ,LC⟩:=aF (decide (T.length<=400));rw[<-LC] at o1;refine bN λΕ ζ=>?_;refine aD.d (o1) (bT ?_);apply ζ;refine Ζ ?_;refine aj rfl ?_;refine Ζ ?_;cases hΟ with
 | false=>
  refine al rfl ?_;refine bN λΕ ζ=>?_;refine aD.d (J9) (bT ?_);apply ζ;exact W.stop ⟨⟨_,rfl⟩,rfl⟩
 | true=>
 refine aj rfl ?_;have S2:T.length<=400:=by simpa using LC.symm
 have bY:=bY S2
 have B1:=B1 S2;clear LC;obtain⟨n,Η⟩:=aF s.ak.length;have ph:s.ak.length=n:=Η.symm;rw[<-Η] at FN;refine Ζ ?_;refine W.iter (λc:Nat=>c<=s.cells.length) (λc=>[(3,.ab [aS s.ag,aQ s.ak,bl s.cells]),(6,j2 T),(9,J (nT s T c).1),(10,J (nT s T c).2.1),(11,J (nT s T c).2.2),(12,J c)]) (λ_=>[b1 d1]) (λc=>s.cells.length-c) 0 (Nat.zero_le _) rfl (by simp[nT]) (λc ε Β=>?_);have gW:=SX s T c;obtain⟨L,aG⟩:=aF (nT s T c);rw[<-aG] at gW ⊢;obtain⟨LD,S3⟩:=aF s.cells.length;rw[<-S3] at ε Β bY B1;have hΡ:s.cells.length=LD:=S3.symm;refine aR hΡ ?_;by_cases ji:c<LD
 ·refine al (by simp[ji]) ?_;have te:=iC (i:=c) R;refine Ζ ?_;refine W.iter (λm:Nat=>m<=n) (λm=>[(3,.ab [aS s.ag,aQ s.ak,bl s.cells]),(6,j2 T),(9,J (qT s T c L m).1),(10,J (qT s T c L m).2.1),(11,J (qT s T c L m).2.2),(12,J c),(13,J m)]) (λ_=>[b1 d1]) (λm=>n-m) 0 (Nat.zero_le _) rfl (by simp[qT]) (λm hm gk=>?_);have xe:=SW s T c L m;obtain⟨M,dm⟩:=aF (qT s T c L m);rw[<-dm] at xe ⊢;refine aR ph ?_;by_cases jK:m<n
  ·refine al (by simp[jK]) ?_;have S4:=iC (i:=m) R;obtain⟨V,jF⟩:=aF (T.map (pO s c m));have SU:V.length=T.length:=by rw[jF,List.length_map]
   have hΤ:xd s T c m=runM V T.length:=by rw[jF];rfl
   have H2:(nS V 0).map J=[J 0,J 0,J 0,J 0,J 0,J 0,J 0,J 0,J 0,J 0,J 0,J 0,J 0,J 0,J 0,J 0,J 0,J 0,J 0,J 0,J 0,J 0,J 0,J 0,J 0,J 0,J 0,J 0,J 0,J 0,J 0,J 0,J 0,J 0,J 0,J 0,J 0,J 0,J 0,J 0,J 0,J 0,J 0,J 0,J 0,J 0,J 0,J 0,J 0,J 0,J 0,J 0,J 0,J 0,J 0,J 0,J 0,J 0,J 0,J 0,J 0,J 0,J 0,J 0]:=by rw[hΗ];rfl
   obtain⟨xf,S5⟩:=aF M.1;obtain⟨M2,tc⟩:=aF M.2.1;obtain⟨tA,LF⟩:=aF M.2.2;rw[<-S5,<-tc,<-LF]
   repeat apply ar
   refine W.fA (A:=[57]) Φ [(3,.ab [aS s.ag,aQ s.ak,bl s.cells]),(6,j2 T),(9,J xf),(10,J M2),(11,J tA),(12,J c),(13,J m),(14,.ms 1 64 0 64)] [b1 d1,.cells 3 1 ((nS V 0).map J)] ?_ (by
    rw[H2];(try simp);(repeat (rw[Υ];simp[]));(try simp[]))
   refine Ζ ?_;refine W.iter (λi:Nat=>i<=T.length) (λi=>[(3,.ab [aS s.ag,aQ s.ak,bl s.cells]),(6,j2 T),(9,J xf),(10,J M2),(11,J tA),(12,J c),(13,J m),(14,.ms 1 64 0 64),(15,J (runM V i)),(16,J i)]) (λi=>[b1 d1,.cells 3 1 ((nS V i).map J)]) (λi=>T.length-i) 0 (Nat.zero_le _) rfl (by simp[runM]) (λi hi kr=>?_);refine Ζ ?_;by_cases y7:i<T.length
   ·refine al (by simp[y7]) ?_;have ki:=iC (i:=i) R;have tX:=a5 y7;have FW:=B1 _ (List.getElem_mem y7);have S6:V[i]'R=pO s c m T[i]:=by simp[jF]
    obtain⟨x,γ⟩:=aF (T[i]);rw[<-γ] at tX FW S6;have B2:(T.map lF)[i]?=some (lF x):=by rw[List.getElem?_map,tX];rfl
    obtain⟨q,xs⟩:=x;obtain⟨⟨Ψ,S7⟩,rq⟩:=FW;simp only at Ψ S7 rq;have LG:c<xs.length:=R;have Cs:=S7 _ (List.getElem_mem LG);have BS:kT (q,xs) c=xs[c]:=by simp[kT,LG]
    obtain⟨r,κ⟩:=aF (xs[c]);rw[<-κ] at Cs BS;have jw:(h9 xs)[c]?=some [r.1,r.2]:=by rw[List.getElem?_map,a5 LG,κ];rfl
    have xb:(h9 xs).length=xs.length:=θ
    have Gm:=J7 s rf [q.1,q.2] [r.1,r.2] m;rw[hΒ ν Ψ Cs R] at Gm;have xc:=Kz ν q r m;have B3:V[i]'R=s.dU q r m:=by rw[S6];show s.dU q (kT (q,xs) c) m=_;rw[BS]
    obtain⟨S8,hΥ⟩:=aF (s.dU q r m);rw[<-hΥ] at Gm xc B3;obtain⟨v,hv⟩:∃v:Nat,S8=v:=⟨S8.toNat,R⟩;rw[hv] at Gm xc B3;have B4:v<64:=R;have B5:=Gl V i B4;have y8:=hΘ V R B3;have bX:=B0 V i;have hΦ:(V.take i).count (v:Int)<=400:=by
     have:=List.count_le_length (a:=(v:Int)) (l:=V.take i);rw[List.length_take] at this;omega
    have ih:runM V (i+1)=max (runM V i) ((V.take i).count (v:Int)+1):=by
     have e:V.getD i 0=v:=by rw[List.getD_eq_getElem?_getD,a5 R,B3];rfl
     show max (runM V i) ((V.take (i+1)).count (V.getD i 0))=_;rw[e,SV V R,if_pos B3]
    obtain⟨k,ς⟩:=aF ((V.take i).count (v:Int));rw[<-ς] at B5 y8 hΦ ih;have tf:=iC (i:=k) R;obtain⟨Gn,kR⟩:=aF (runM V i);rw[<-kR] at ih ⊢;have AL:max (Gn:Int) ((k+1:Nat):Int)=(runM V (i+1):Nat):=by rw[ih];omega
    obtain⟨xg,hΧ⟩:=aF (nS V i);obtain⟨xh,S9⟩:=aF (nS V (i+1));rw[<-hΧ] at B5 y8 bX ⊢;rw[<-S9] at y8;have LH:xh[v]?=some ((k:Int)+1):=by rw[y8,List.getElem?_set_self R]
    have hΨ:xh.length=64:=by rw[y8,List.length_set,bX]
    have mο:∀h,xg[v]'h=k:=λh=>by rw[a5 h] at B5;simpa using B5
    have mπ:∀h,xh[v]'h=(k:Int)+1:=λh=>by rw[a5 h] at LH;simpa using LH
    obtain⟨X,S'⟩:=aF (h9 xs);have qW:lF (q,xs)=.aV [a2 J 1 [q.1,q.2],aQ X]:=by rw[S']
    rw[<-S'] at jw xb;rw[qW] at B2;have hΩ:∀h,X[c]'h=[r.1,r.2]:=λh=>by rw[a5 h] at jw;simpa using jw
    have iα:c<X.length:=R;obtain⟨y9,LI⟩:=aF (T.map lF);rw[<-LI] at B2 S1;have iβ:∀h,y9[i]'h=.aV [a2 J 1 [q.1,q.2],aQ X]:=λh=>by rw[a5 h] at B2;simpa using B2
    have iγ:j2 T=.sl false 2 y9:=by rw[LI]
    rw[iγ]
    repeat apply ar
    refine W.Kd (A:=[]) Φ mixed [(3,.ab [aS s.ag,aQ s.ak,bl s.cells]),(6,.sl false 2 y9),(9,J xf),(10,J M2),(11,J tA),(12,J c),(13,J m),(14,.ms 1 64 0 64),(15,J Gn),(16,J i),(17,J v),(18,J 0)] [b1 d1,.cells 3 1 (xg.map J)] ?_ (by
     simp;(repeat (rw[dN];simp[B2,iβ,y7,S1,jw,hΩ,iα]));(try rw[dM]);refine gv (aD.p Gm (bS.refl _) θ θ) ?_;simp;(repeat (rw[dN];simp[]));(try rw[dM]);refine⟨jk (by kernel_rfl),?_⟩;simp)
    have Ta:¬(63:Int)<v:=R
    repeat apply ar
    refine W.fA (A:=[]) Φ [(92,bm false),(3,.ab [aS s.ag,aQ s.ak,bl s.cells]),(6,.sl false 2 y9),(9,J xf),(10,J M2),(11,J tA),(12,J c),(13,J m),(14,.ms 1 64 0 64),(15,J Gn),(16,J i),(17,J v)] [b1 d1,.cells 3 1 (xg.map J)] ?_ (by
     have yD:¬(v:Int)<0:=R;(try simp);(repeat (rw[Υ];simp[Ta,yD]));(try simp[Ta,yD]))
    refine aj rfl ?_;have k3:(xg.map J)[v]?=some (J k):=by rw[List.getElem?_map,B5];rfl
    have mU:(xg.map J).set v (J ((k:Int)+1))=xh.map J:=by rw[y8,List.map_set]
    have LJ:(xg.map J).length=64:=by rw[List.length_map,bX]
    have B6:(xh.map J)[v]?=some (J ((k:Int)+1)):=by rw[List.getElem?_map,LH];rfl
    have LK:(xh.map J).length=64:=by rw[List.length_map,hΨ]
    have Tb:IntKind.i64.wrap ((k:Int)+1)=(k:Int)+1:=by rw[tf];omega
    obtain⟨D0,IX⟩:=aF (xg.map J);obtain⟨tx,BP⟩:=aF (xh.map J);rw[<-IX] at k3 mU LJ ⊢;rw[<-BP] at mU B6 LK;have sw:∀h,D0[v]'h=J k:=λh=>by rw[a5 h] at k3;simpa using k3
    have Tc:∀h,tx[v]'h=J ((k:Int)+1):=λh=>by rw[a5 h] at B6;simpa using B6
    repeat apply ar
    refine W.fA (A:=[]) Φ [(3,.ab [aS s.ag,aQ s.ak,bl s.cells]),(6,.sl false 2 y9),(9,J xf),(10,J M2),(11,J tA),(12,J c),(13,J m),(14,.ms 1 64 0 64),(15,J Gn),(16,J i),(17,J v)] [b1 d1,.cells 3 1 tx] ?_ (by
     (try simp);(repeat (rw[Υ];simp[k3,sw,LJ,B4,Tb,mU]));(try simp[k3,sw,LJ,B4,Tb,mU]);omega)
    repeat apply ar
    refine W.fA (A:=[]) Φ [(3,.ab [aS s.ag,aQ s.ak,bl s.cells]),(6,.sl false 2 y9),(9,J xf),(10,J M2),(11,J tA),(12,J c),(13,J m),(14,.ms 1 64 0 64),(15,J (runM V (i+1))),(16,J i)] [b1 d1,.cells 3 1 tx] ?_ (by
     rw[<-AL];(try simp);(repeat (rw[Υ];simp[B6,Tc,LK,B4]));(try simp[B6,Tc,LK,B4]);refine⟨R,?_⟩;split<;>omega)
    refine aR ki ?_;exact W.to (kr (i+1) y7 R) (by rw[BP,S9]) (by simp[LI])
   ·refine aj (by simp[y7]) ?_;have dT:i=T.length:=R;refine W.exit rfl ?_;rw[dT,<-hΤ];have I2:xd s T c m<=T.length:=SY s T c m;obtain⟨B7,iδ⟩:=aF (xd s T c m);rw[<-iδ] at I2 xe ⊢;refine W.drop (h:=1) θ θ (λid r b0 κ=>?_) rfl [(3,.ab [aS s.ag,aQ s.ak,bl s.cells]),(6,j2 T),(9,J xf),(10,J M2),(11,J tA),(12,J c),(13,J m),(15,J B7)] (λz Θ=>?_) ?_
    ·obtain rfl:id=0:=by omega
     simp at κ;subst κ;exact u2 d1 1
    ·simp only[List.mem_cons,List.not_mem_nil,or_false] at Θ;rcases Θ with rfl|rfl|rfl|rfl|rfl|rfl|rfl|rfl
     ·exact⟨rfl,θ⟩
     ·exact⟨rfl,(hh.2 Ga:ay 0 _).mono (Nat.zero_le _)⟩
     ·exact⟨rfl,.z _⟩
     ·exact⟨rfl,.z _⟩
     ·exact⟨rfl,.z _⟩
     ·exact⟨rfl,.z _⟩
     ·exact⟨rfl,.z _⟩
     ·exact⟨rfl,.z _⟩
    have dO:y5 M c m B7=if(B7:Int)<tA then((c:Int),(m:Int),(B7:Int)) else M:=by unfold y5;rw[LF]
    rw[dO] at xe;refine Ζ ?_;by_cases aB:(B7:Int)<tA
    ·refine al (by simp[aB]) ?_;rw[if_pos aB] at xe;refine aR S4 ?_;exact W.to (gk (m+1) jK R) rfl (by rw[xe];simp)
    ·refine aj (by simp;omega) ?_;rw[if_neg aB] at xe;refine aR S4 ?_;exact W.to (gk (m+1) jK R) rfl (by rw[xe];simp[S5,tc,LF])
  ·refine aj (by simp[jK]) ?_;have iε:m=n:=R;refine W.exit rfl ?_;rw[ph,<-iε,<-dm] at gW;refine aR te ?_;exact W.to (Β (c+1) ji R) rfl (by rw[gW];simp)
 ·refine aj (by simp[ji]) ?_;have ta:c=LD:=R;refine W.exit rfl ?_;rw[<-ta,<-aG] at bY;obtain⟨iζ,ml,tz⟩:=L;simp only at bY;refine bN λΕ ζ=>?_;refine aD.d (qL) (bT ?_);apply ζ;refine Ζ ?_;by_cases yy:iζ<0
  ·refine al (by simp[yy]) ?_;rw[if_pos yy] at bY;subst bY;refine bN λΕ ζ=>?_;refine aD.c J9 (bS.refl _) θ θ ?_;simp;(repeat (rw[Υ];simp[]));apply ζ;exact W.stop ⟨⟨_,rfl⟩,rfl⟩
  ·refine aj (by simp;omega) ?_;rw[if_neg yy] at bY;subst bY;refine bN λΕ ζ=>?_;refine aD.c J9 (bS.refl _) θ θ ?_;simp;(repeat (rw[Υ];simp[]));apply ζ;exact W.stop ⟨⟨_,rfl⟩,rfl⟩
theorem iη:(laidOutB Tryz.prog)=true:=by kernel_rfl
theorem iθ:(mapsRowed Tryz.prog)=true:=by kernel_rfl
theorem iι:((Tryz.prog.stops==[]))=true:=by kernel_rfl
theorem iκ:((Tryz.prog.stopKnobs==[]))=true:=by kernel_rfl
theorem iμ:(Tryz.prog.stopsHeard)=true:=by kernel_rfl
theorem iν:(Tryz.prog.mayEnter)=true:=by kernel_rfl
theorem iξ:(YtlabjopijpkiaaaGreat.Rows.lightNextRow.wf (OpenSpec.ofChange YtlabjopijpkiaaaGreat.Rows.lightNextSpec))=true:=by kernel_rfl
theorem iο:(Tryz.f4.params.all (Tryz.prog.readableRec ·))=true:=by kernel_rfl
theorem iπ:(namedTie Tryz.prog YtlabjopijpkiaaaGreat.Rows.lightNextRow.named YtlabjopijpkiaaaGreat.Rows.lightNextSpec.vars)=true:=by kernel_rfl
theorem iρ:((YtlabjopijpkiaaaGreat.Rows.lightNextRow.stops==[]))=true:=by kernel_rfl
theorem iς:((YtlabjopijpkiaaaGreat.Rows.lightNextRow.knobs==[]))=true:=by kernel_rfl
theorem iτ:((YtlabjopijpkiaaaGreat.Rows.lightNextRow.inPlace==Tryz.prog.inPlace 4))=true:=by kernel_rfl
theorem iυ:((YtlabjopijpkiaaaGreat.Rows.lightNextRow.unfollowed==Tryz.prog.unfollowed 4))=true:=by kernel_rfl
theorem iφ:((YtlabjopijpkiaaaGreat.Rows.lightNextRow.recurses==Tryz.prog.recurses 4))=true:=by kernel_rfl
theorem iχ:((YtlabjopijpkiaaaGreat.Rows.lightNextRow.named==Tryz.prog.varsNamed 4))=true:=by kernel_rfl
theorem iψ:((YtlabjopijpkiaaaGreat.Rows.lightNextRow.maps==(Tryz.f4.params.toList++YtlabjopijpkiaaaGreat.Rows.lightNextSpec.plain.varTypes Tryz.prog).any (Tryz.prog.mapsRec ·)))=true:=by kernel_rfl
theorem iω:((YtlabjopijpkiaaaGreat.Rows.lightNextRow.ifaces==(Tryz.f4.params.toList++YtlabjopijpkiaaaGreat.Rows.lightNextSpec.plain.varTypes Tryz.prog).any (Tryz.prog.ifacesRec ·)))=true:=by kernel_rfl
theorem iΑ:((YtlabjopijpkiaaaGreat.Rows.lightNextRow.mapsOut==Tryz.prog.mapsAmong Tryz.f4.resultTypes.toList))=true:=by kernel_rfl
theorem iΒ:((YtlabjopijpkiaaaGreat.Rows.lightNextRow.loops==(Tryz.f4.params.toList++YtlabjopijpkiaaaGreat.Rows.lightNextSpec.plain.varTypes Tryz.prog).any (Tryz.prog.loopsFrom ·)))=true:=by kernel_rfl
theorem iΓ:((YtlabjopijpkiaaaGreat.Rows.lightNextRow.wideKeys==(Tryz.f4.params.toList++YtlabjopijpkiaaaGreat.Rows.lightNextSpec.plain.varTypes Tryz.prog++Tryz.f4.resultTypes.toList).any (Tryz.prog.wideKeysFrom ·)))=true:=by kernel_rfl
theorem iΔ:(YtlabjopijpkiaaaGreat.Rows.lightNextSpec.vars.all (Tryz.prog.varReadable ·))=true:=by kernel_rfl
theorem iΕ:(Tryz.f4.resultTypes.all (λt=>Tryz.prog.readableRec t&&decide (t<Tryz.prog.types.size)))=true:=by kernel_rfl
theorem iΖ:((YtlabjopijpkiaaaGreat.Rows.lightNextRow.ifacesOut==Tryz.f4.resultTypes.toList.any (Tryz.prog.ifacesRec ·)))=true:=by kernel_rfl
theorem iΗ:((YtlabjopijpkiaaaGreat.Rows.lightNextRow.loopsOut==Tryz.f4.resultTypes.toList.any (Tryz.prog.loopsFrom ·)))=true:=by kernel_rfl
theorem iΘ:((YtlabjopijpkiaaaGreat.Rows.lightNextRow.plainKeys==Tryz.prog.plainKeys))=true:=by kernel_rfl
theorem iΙ:(YtlabjopijpkiaaaGreat.Rows.lightNextRow.shortTexts.isNone)=true:=by kernel_rfl
theorem iΚ:((YtlabjopijpkiaaaGreat.Rows.lightNextRow.lifted==Tryz.prog.liftsFinal))=true:=by kernel_rfl
theorem iΜ:((Tryz.prog.make==some YtlabjopijpkiaaaGreat.Rows.lightNextRow.make))=true:=by kernel_rfl
theorem iΝ:((YtlabjopijpkiaaaGreat.Rows.lightNextRow.kinds==(if YtlabjopijpkiaaaGreat.Rows.lightNextRow.domain.isEmpty then [] else Tryz.f4.params.toList.map λt=>match Tryz.prog.underlying t with|some (.int k)=>some k|_=>none)))=true:=by kernel_rfl
theorem iΞ:((YtlabjopijpkiaaaGreat.Rows.lightNextRow.pinned==YtlabjopijpkiaaaGreat.Rows.lightNextRow.pinnedBy))=true:=by kernel_rfl
theorem iΟ:((YtlabjopijpkiaaaGreat.Rows.lightNextRow.veiled==(Tryz.f4.params.toList++YtlabjopijpkiaaaGreat.Rows.lightNextSpec.plain.varTypes Tryz.prog++Tryz.f4.resultTypes.toList).any (Tryz.prog.veiledRec ·)))=true:=by kernel_rfl
theorem iΡ:(YtlabjopijpkiaaaGreat.Rows.lightNextRow.veiledFits Tryz.prog Tryz.f4.params.toList (Tryz.f4.params.toList++YtlabjopijpkiaaaGreat.Rows.lightNextSpec.plain.varTypes Tryz.prog++Tryz.f4.resultTypes.toList))=true:=by kernel_rfl
theorem iΤ:joinedFacts Tryz.prog 4 Tryz.f4 YtlabjopijpkiaaaGreat.Rows.lightNextSpec YtlabjopijpkiaaaGreat.Rows.lightNextRow=true:=by
 unfold joinedFacts;simp only[Bool.and_eq_true];exact⟨⟨⟨⟨⟨⟨⟨⟨⟨⟨⟨⟨⟨⟨⟨⟨⟨⟨⟨⟨⟨⟨⟨⟨⟨⟨⟨⟨⟨⟨⟨iξ,iη⟩,iθ⟩,iο⟩,iπ⟩,iρ⟩,iι⟩,iς⟩,iκ⟩,iτ⟩,iυ⟩,iφ⟩,iχ⟩,iψ⟩,iω⟩,iΑ⟩,iΒ⟩,iΓ⟩,iΔ⟩,iΕ⟩,iΖ⟩,iΗ⟩,iΘ⟩,iΙ⟩,iμ⟩,iν⟩,iΚ⟩,iΜ⟩,iΝ⟩,iΞ⟩,iΟ⟩,iΡ⟩
end Go.TL
namespace Go.TL
open Go.Conc Go.ConcM Go.Proofs
open Go.ChangeShapes Go.WideShapes Go.ChangeAt Go.RowKit
set_option maxRecDepth 100000 in
theorem iΥ (hW:∀(W:World) (l:List Int) (v:Value),l.length<2 ^ 63->av (qM W) [] [] (a2 J 1 l) v->Comes Tryz.prog (λv=>v=.bool true) W (solo (Go.Conc.G (Frame.enter Tryz.prog 4 #[v] .normal) []) W) #[])
  (os:Os) (started:os.Started) (H:Type) (enc:TypeId×Value->H) (F:Stop.Interp) :
  ReturnsInLeavingWide YtlabjopijpkiaaaGreat.Rows.lightNextRow.assume Tryz.checked os 4 .any (YtlabjopijpkiaaaGreat.Rows.lightNextSpec.pre6 enc Tryz.prog Tryz.f4 YtlabjopijpkiaaaGreat.Rows.lightNextRow.domain YtlabjopijpkiaaaGreat.Rows.lightNextRow.apart)
   ((OpenSpec.ofChange YtlabjopijpkiaaaGreat.Rows.lightNextSpec).postWith enc Tryz.prog Tryz.f4 F (outsideKept [.timePasses]) YtlabjopijpkiaaaGreat.Rows.lightNextRow.apart YtlabjopijpkiaaaGreat.Rows.lightNextRow.fresh YtlabjopijpkiaaaGreat.Rows.lightNextRow.handsOn):=by
 refine returnsInLeavingWide_of_change_time (C:=Tryz.checked) eυ started Tryz.func4
  (ChangeSpec.witness6c (enc:=enc) (C:=Tryz.checked) ⟨#[],#[.slice none 0 0],[]⟩ 8 (by kernel_rfl) (by kernel_rfl) (by kernel_rfl) (by kernel_rfl)) ?_
 intro W base args ds gs before iΦ Td _ _ _;have Ft:∀(j:Nat) t v,Tryz.f4.params[j]?=some t->args[j]?=some v->Value.okWide Tryz.prog W .any base t v:=iΦ;have Te:=Td;obtain⟨p,q,iΧ,jF,rfl,M7,kJ⟩:=Td;have bW:DataW.TrodAll enc Tryz.prog W 0 (λ_=>true) true Tryz.f4.params.toList args.toList ds p:=iΧ;rw[Tryz.params4] at bW Ft;obtain⟨v0,d0,rfl,rfl,ai⟩:=trodAll_one bW;obtain⟨rfl,rfl⟩:=trodVars_none jF;have aB:∀x∈p,x.block<W.heap.size:=λx γ=>by simpa using Te.lt x (List.mem_append_left _ γ)
 have mO:∀(LL:World),Below W.heap.size W LL->DataW.Trod enc Tryz.prog LL 0 (λb=>decide (b<W.heap.size)) true 29 v0 d0 p:=
  λLL Η=>Below.trod eφ (by kernel_rfl) (of_decide_eq_true (by kernel_rfl)) ai Η aB
 obtain⟨l,υ,Dq⟩:∃l:List Int,l.length<2 ^ 63/\av (qM W) [] [] (a2 J 1 l) v0:=by
  obtain⟨BO,len,cap,rfl⟩:=okWide_slice Tryz.underlying29 (Ft 0 29 v0 rfl rfl);obtain⟨mρ,Χ⟩:=ai;rcases open_ints Tryz.underlying29 Tryz.underlying3 eχ Χ with⟨gW,γ⟩|⟨a,mς,Hv,gh,gW,_,υ,hm,Θ,γ,yh,mτ⟩
  ·simp[Value.cells] at gW;obtain⟨rfl,rfl,rfl⟩:=gW;exact⟨[],bD,.iK _ _ θ⟩
  ·simp[Value.cells] at gW;obtain⟨rfl,rfl,rfl⟩:=gW;simp only[if_true] at Θ;refine⟨gh.take len,?_,eω υ R yh⟩;rw[List.length_take];unfold maxLen at hm;omega
 obtain⟨M,last,o,w',t',r1,r2,r3,v,e,ψ,Τ,af,aZ,cA⟩:=hW W l v0 υ Dq;refine⟨M,last,o,w',t',r1,r2,r3,v,e,⟨?_,ψ.2.os⟩,Τ,af,aZ,cA⟩;obtain⟨rfl,ς⟩:=ψ;exact⟨_,_,_,[],_,[],Te,trodAll_mk1 (shut_bool Tryz.underlying4 _),trodAll_mk1 (mO _ ς.below),rfl,ς.below.frame _,λh=>by cases h⟩
theorem iΨ (W:World) (l:List Int) (v:Value) (υ:l.length<2 ^ 63) (κ:av (qM W) [] [] (a2 J 1 l) v):Comes Tryz.prog (λv=>v=.bool true) W (solo (Go.Conc.G (Frame.enter Tryz.prog 4 #[v] .normal) []) W) #[]:=
 eτ (d:=2) (l:=[a2 J 1 l]) Tryz.func4 rfl (by kernel_rfl) (by kernel_rfl) ⟨rfl,λi a u I U=>by
  match i with
  | 0=>simp at I U;subst I;subst U;exact κ
  | i+1=>simp at I⟩ (by rw[Tryz.ntmps4];simp) (hΞ l υ)
end Go.TL
namespace Go.Proofs.YtlabjopijpkiaaaGreat
open Go.TL
theorem light_next:Rows.LightNextSaid:=
 OpenClaim.holds_of_wide_leaving_time 4 Tryz.f4 rfl rfl rfl rfl rfl rfl rfl ⟨rfl,rfl,rfl,rfl,rfl⟩ rfl rfl rfl rfl rfl (by kernel_rfl) Tryz.func4 iΤ
  (of_decide_eq_true (by kernel_rfl)) (by unfold Func.isWrapper;first|(rw[if_pos (by decide +kernel)];kernel_rfl)|(rw[if_neg (by decide +kernel)];exact⟨rfl,rfl⟩))
  (λos started H enc _ F=>iΥ iΨ os started H enc F)
end Go.Proofs.YtlabjopijpkiaaaGreat
