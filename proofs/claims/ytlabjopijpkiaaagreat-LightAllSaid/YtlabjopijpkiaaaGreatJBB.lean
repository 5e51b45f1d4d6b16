import Derived.Test.YtlabjopijpkiaaaGreatJAY
import Derived.Test.YtlabjopijpkiaaaGreatJAZ
set_option maxHeartbeats 16000000
set_option maxRecDepth 20000
set_option linter.unusedSectionVars false
set_option linter.unusedSimpArgs false
set_option linter.unusedVariables false
namespace Go.TL
open Go.Conc
variable [ZX]
theorem Zh.Zl (a:Ω):Zh a .Zl:=λ_ _ _ v _=>.Zl v
end Go.TL
namespace Go.TL
open Go.Proofs
variable [ZX]
@[simp] theorem t65:ZS 65=some ⟨1,.slice 23,.slice none 0 0,24,none⟩:=by kernel_rfl
@[simp] theorem mW:Wl ZS 65=some (23,1,none):=by kernel_rfl
@[simp] theorem t85:ZS 85=some ⟨1,.slice 4,.slice none 0 0,24,none⟩:=by kernel_rfl
@[simp] theorem mV:Wl ZS 85=some (4,1,none):=by kernel_rfl
@[simp] theorem mU:Uy ZS 65 65=some (23,1,⟨1,.slice 29,.slice none 0 0,24,none⟩):=by kernel_rfl
def Mq (s:ψ) (F:List Found) (cell:Int) (lower:Bool) (g:Int):Int×Int:=
 if s.err≠0 then(0,s.err) else if cell<0\/(s.cells.length:Int)<=cell\/g< -1\/(s.Ι.length:Int)<=g then(0,3) else if F=[] then(0,9)
 else if ¬(Yb F cell.toNat lower).contains g=true then(2,0) else if(Yb F cell.toNat lower).length=1 then(1,0) else(3,0)
theorem rM (s:ψ) (l:s.small) (F:List Found) (p:S9 s F) (cell:Int) (lower:Bool) (g:Int) (N:Nat) (r:N<2 ^ 20) (t:N5 N) (u:F≠[]->KZ s F lower N) (v:∀c,(Yb F c lower).length<2 ^ 40) :
  Ε Tryz.prog 53 [Yz s,J cell,Z4 lower,J g] (.ZW [J (Mq s F cell lower g).1,J (Mq s F cell lower g).2]):=by
 refine Μ.body Ρ Tryz.func53 rfl rfl Tryz.ntmps53 rfl rfl I ?_;refine Τ ?_;refine Z' λk b=>?_;refine Ε.d (Lw s l) (Z6 ?_);apply b;refine Τ ?_;by_cases f:s.err=0
 case neg=>
  have e:Mq s F cell lower g=(0,s.err):=if_pos f;rw[e];generalize s.err=B at f;refine Α (by simp[f]) ?_;refine Τ ?_;refine W.rt ?_;exact .refl _
 have m:Mq s F cell lower g=_:=if_neg (by simpa using f);refine Ζ (by simp[f]) ?_
 repeat apply Ξ
 refine W.RA (A:=[]) Ρ [(39,Z4 (decide (cell<0)||decide ((s.cells.length:Int)<=cell)||decide (g< -1)||decide ((s.Ι.length:Int)<=g))),(1,J cell),(2,Z4 lower),(3,J g),(4,.Θ [ν s.Ι,ξ s.Δ,Z2 s.cells])] ?_ (by
  by_cases a:cell<0
  ·(try simp);(repeat (rw[Ν];simp[a]));(try simp[a])
  .by_cases i:(s.cells.length:Int)<=cell
   ·(try simp);(repeat (rw[Ν];simp[a,i]));(try simp[a,i])
   .by_cases j:g< -1
    ·(try simp);(repeat (rw[Ν];simp[a,i,j]));(try simp[a,i,j])
    ·(try simp);(repeat (rw[Ν];simp[a,i,j]));(try simp[a,i,j]))
 by_cases o:cell<0\/(s.cells.length:Int)<=cell\/g< -1\/(s.Ι.length:Int)<=g
 .rw[m,if_pos o];refine Α (by simp;omega) ?_;refine Τ ?_;refine W.rt ?_;exact .refl _
 rw[m,if_neg o];refine Ζ (by simp;omega) ?_;obtain⟨n,rfl⟩:∃n:Nat,cell=n:=⟨cell.toNat,U⟩;refine Y1 ?_;refine Y4 (A:=[11]) Ρ λk b=>Z6 ?_;refine Ε.d (M5 s l true F p) (Z6 ?_);apply b;by_cases z:F=[]
 .have e:Yr s true F=(s,[],9):=by unfold Yr;rw[if_neg (by simpa using f),if_pos ⟨rfl,z⟩]
  rw[e,if_pos z];refine Τ ?_;refine Α I ?_;refine Τ ?_;refine W.drop (h:=0) (χ _) (χ _) I rfl [(8,J 0),(9,J 9)] I ?_;refine W.rt ?_;exact .refl _
 have e:Yr s true F=(s,F,0):=by unfold Yr;rw[if_neg (by simpa using f),if_neg (by simp[z])]
 rw[e,if_neg z];have w:=(u z).call r t (c:=n) U;have x:=v n;rw[Int.toNat_natCast];refine Τ ?_;refine Ζ rfl ?_;refine Z' λk b=>?_;refine Ε.d (w) (Z6 ?_);apply b;obtain⟨L,y⟩:=Η (Yb F n lower);rw[<-y] at x ⊢;refine Τ ?_;refine Z' λk b=>?_;refine Ε.d (GN L g U) (Z6 ?_);apply b;by_cases q:L.contains g=true
 .rw[if_neg (by simpa using q)];refine Ζ (by simpa using q) ?_;refine Τ ?_;by_cases a:L.length=1
  .rw[if_pos a];refine Α (by simp[a]) ?_;refine Τ ?_;refine W.drop (h:=0) (χ _) (χ _) I rfl [(8,J 1),(9,J 0)] I ?_;refine W.rt ?_;exact .refl _
  .rw[if_neg a];refine Ζ (by simp;omega) ?_;refine Τ ?_;refine W.drop (h:=0) (χ _) (χ _) I rfl [(8,J 3),(9,J 0)] I ?_;refine W.rt ?_;exact .refl _
 .rw[if_pos q];refine Α (by simpa using q) ?_;refine Τ ?_;refine W.drop (h:=0) (χ _) (χ _) I rfl [(8,J 2),(9,J 0)] I ?_;refine W.rt ?_;exact .refl _
def ψ.Fe (s:ψ) (p r:Int×Int) (x:Zw):Bool:=decide (Uv (s.XA p r x.Ys.toNat) x.seen=x.seen)&&decide (Uv (s.XA p r x.Ys.toNat) x.bare=0)
theorem rL {s:ψ} (h:Yd s) (p r:Int×Int) {c:List Zw} (a:c∈s.cells) {x:Zw} (b:x∈c):s.Fe p r x=s.VB p r x:=by
 obtain⟨_,d,_,_⟩:=(h.cells c a).each x b;have:=(HS d (A6 h p r x.Ys.toNat)).1;unfold ψ.Fe ψ.VB;rw[Q6];simp only[Wt,decide_eq_true_eq,beq_iff_eq];rw[this]
theorem rK {s:ψ} (h:Yd s) {p r:Int×Int} (d:0<=p.2/\p.2<p.1/\p.1<=2) (e:-1<=r.1/\r.1<s.Ι.length) (f:-1<=r.2/\r.2<s.Ι.length) {l:Int} (g:0<=l/\l<s.Δ.length):Ri s [p.1,p.2] [r.1,r.2] l=(s.XA p r l.toNat,0):=by
 have a:UI p.1=true:=by unfold UI;simp;omega
 have Φ:UI p.2=true:=by unfold UI;simp;omega
 have b:s.V7 r.1=false:=by unfold ψ.V7;simp;omega
 have c:s.V7 r.2=false:=by unfold ψ.V7;simp;omega
 unfold Ri;rw[h.err];simp only[ne_eq,not_true_eq_false,if_false];rw[if_neg (by rw[a,Φ,b,c];simp;omega),if_neg U]
theorem rJ (s:ψ) (h:Yd s) (p r:Int×Int) (F:0<=p.2/\p.2<p.1/\p.1<=2) (H:-1<=r.1/\r.1<s.Ι.length) (K:-1<=r.2/\r.2<s.Ι.length) (c:Nat) (f:c<s.cells.length) :
  Ε Tryz.prog 96 [Yz s,J c,Z9 J 1 [p.1,p.2],Z9 J 1 [r.1,r.2]] (.ZW [Z4 (s.Uu p r c),Z4 true]):=by
 have g:=δ f
 have k:=YF f
 have w:s.Uu p r c=(s.cells[c]).all (s.VB p r):=by unfold ψ.Uu;rw[g];rfl
 obtain⟨l,m⟩:=Η (s.cells[c]);rw[w,<-m];rw[<-m] at g k;have y:∀h,s.cells[c]'h=l:=λh=>m.symm;have T:l.length<=4:=(h.cells l k).hi;clear w m;refine Μ.body Ρ Tryz.func96 rfl rfl Tryz.ntmps96 rfl rfl I ?_;refine Τ ?_;refine W.iter (λi:Nat=>i<=l.length/\∀j,j<i->(o:j<l.length)->s.VB p r l[j]=true) (λi=>[(1,J c),(2,Z9 J 1 [p.1,p.2]),(3,Z9 J 1 [r.1,r.2]),(4,.Θ [ν s.Ι,ξ s.Δ,Z2 s.cells]),(10,J i)]) (λ_=>[]) (λi=>l.length-i) 0 ⟨χ _,λj o=>U⟩ rfl I (λi hi L=>?_);obtain⟨V,B⟩:=hi;refine Γ (Υ g (Υ y f)) ?_;by_cases a:i<l.length
 .refine Α (by simp[a]) ?_;have C:=δ a;obtain⟨x,b⟩:=Η (l[i]);have t:x∈l:=b▸YF a;rw[<-b] at C;have M:∀h,l[i]'h=x:=λh=>b.symm;obtain⟨N,X,Y,Z⟩:=(h.cells l k).each x t;have hv:=Cd s h.small [p.1,p.2] [r.1,r.2] x.Ys;rw[rK h F H K N] at hv;have u:=rL h p r k t;obtain⟨n,D⟩:=Η (s.XA p r x.Ys.toNat);rw[<-D] at hv;unfold ψ.Fe at u;rw[<-D] at u;have O:=Yt (i:=i) U
  repeat apply Ξ
  refine Y4 (A:=[11]) Ρ λP v=>XJ (Υ g (Υ y (Υ f (Υ C (Υ M a))))) ?_;apply v;refine W.fix (id:=0) (σ':=[]) (χ _) rfl I I rfl [(1,J c),(2,Z9 J 1 [p.1,p.2]),(3,Z9 J 1 [r.1,r.2]),(4,.Θ [ν s.Ι,ξ s.Δ,Z2 s.cells]),(10,J i),(11,.Θ [J x.Ys,J x.seen,J x.bare])] I ?_;refine Z' λP v=>?_;refine Ε.d (hv) (Z6 ?_);apply v;refine Τ ?_;refine Ζ rfl ?_
  repeat apply Ξ
  refine W.RA (A:=[]) Ρ [(56,Z4 (!s.VB p r x)),(1,J c),(2,Z9 J 1 [p.1,p.2]),(3,Z9 J 1 [r.1,r.2]),(4,.Θ [ν s.Ι,ξ s.Δ,Z2 s.cells]),(10,J i)] ?_ (by
   rw[<-u];by_cases Q:Uv n x.seen=x.seen<;>by_cases R:Uv n x.bare=0<;>simp[Ν,Td,Q,R])
  cases E:s.VB p r x
  .refine Α rfl ?_;refine Τ ?_;refine W.ret ⟨_,rfl,?_,rfl⟩;have:l.all (s.VB p r)=false:=List.all_eq_false.2 ⟨x,t,by rw[E];simp⟩;rw[this];exact .of rfl
  .refine Ζ rfl ?_;refine Γ O ?_;refine W.to (L (i+1) ⟨a,λj o S=>?_⟩ U) rfl I;by_cases e:j=i
   .subst e;rw[<-b];exact E
   .exact B j U S
 .refine Ζ (by simp[a]) ?_;refine W.exit rfl ?_;refine Τ ?_;refine W.ret ⟨_,rfl,?_,rfl⟩;have:l.all (s.VB p r)=true:=WQ.2 λx b=>by
   obtain⟨j,o,rfl⟩:=OO b;exact B j U o
  rw[this];exact .of rfl
def S0 (s:ψ) (p:Int×Int) (c:Nat):Ω:=YC 1 ((X3 s p c).map Φ)
theorem rI {s:ψ} {p:Int×Int} {l:List Nat}:∀e∈l.map (S0 s p),∀a∈e.cells,ς 0 a:=λe c a b=>by
 obtain⟨x,_,rfl⟩:=Zq.1 c;unfold S0 YC at b;split at b<;>simp[Ω.cells] at b<;>subst b<;>simp
abbrev SZ (l:List (List (List Int))):Ω:=Z9 ξ 1 l
theorem rH (s:ψ) (h:Yd s) (p:Int×Int) (T:0<=p.2/\p.2<p.1/\p.1<=2) :
  Ε Tryz.prog 41 [Yz s,Z9 J 1 [p.1,p.2]] (.ZW [SZ ((List.range s.cells.length).map λc=>WT (X3 s p c)),Z4 true]):=by
 refine Μ.body Ρ Tryz.func41 rfl rfl Tryz.ntmps41 rfl rfl I ?_;refine Τ ?_;have ak:=h.many;have al:=h.Ι.hi;refine W.iter (λc:Nat=>c<=s.cells.length) (λc=>[(1,Z9 J 1 [p.1,p.2]),(2,.Θ [ν s.Ι,ξ s.Δ,Z2 s.cells]),(6,Yu ((List.range c).map (S0 s p))),(7,J c)]) (λc=>η 23 1 ((List.range c).map (S0 s p))) (λc=>s.cells.length-c) 0 (χ _) rfl (by simp[S']) (λc am B=>?_);obtain⟨b,l⟩:=Η ((List.range c).map (S0 s p));have H:∀e∈b,∀a∈e.cells,ς 0 a:=by rw[l];exact rI
 refine W.to (σ':=η 23 1 b) (env':=[(1,Z9 J 1 [p.1,p.2]),(2,.Θ [ν s.Ι,ξ s.Δ,Z2 s.cells]),(6,Yu b),(7,J c)]) ?_ (by rw[l]) (by rw[l];simp);refine Τ ?_;by_cases C:c<s.cells.length
 .refine Α (by simp[C]) ?_;obtain⟨n,u⟩:=Η s.Ι.length;obtain⟨q,K⟩:=Η (λr=>s.Uu p r c:Int×Int->Bool);obtain⟨k,v⟩:=Η ((η 23 1 b).length);have V:=Yt (i:=c) U;refine Τ ?_;refine W.iter (λi:Nat=>i<=n+1) (λi=>[(1,Z9 J 1 [p.1,p.2]),(2,.Θ [ν s.Ι,ξ s.Δ,Z2 s.cells]),(6,Yu b),(7,J c),(8,ZV k ((Xm q n i 0).map Φ)),(9,J ((i:Int)-1))])
   (λi=>η 23 1 b++η 29 1 ((Xm q n i 0).map Φ)) (λi=>n+1-i) 0 (χ _) (by rw[Lt];simp[Wy]) (by rw[Lt];simp[ZV]) (λi hi D=>?_)
  refine Τ ?_;by_cases an:i<n+1
  .refine Α (by simp[<-u];omega) ?_;refine Τ ?_;refine W.iter (λj:Nat=>j<=n+1) (λj=>[(1,Z9 J 1 [p.1,p.2]),(2,.Θ [ν s.Ι,ξ s.Δ,Z2 s.cells]),(6,Yu b),(7,J c),(8,ZV k ((Xm q n i j).map Φ)),(9,J ((i:Int)-1)),(10,J ((j:Int)-1))])
    (λj=>η 23 1 b++η 29 1 ((Xm q n i j).map Φ)) (λj=>n+1-j) 0 (χ _) rfl I (λj ao E=>?_)
   refine Τ ?_;by_cases ap:j<n+1
   .refine Α (by simp[<-u];omega) ?_;have L:=Yg (show j<2 ^ 62 by omega);have M:=rJ s h p ((i:Int)-1,(j:Int)-1) T (by simp;omega) (by simp;omega) c C;have X:s.Uu p ((i:Int)-1,(j:Int)-1) c=q ((i:Int)-1,(j:Int)-1):=by rw[K]
    rw[X] at M;have o:=IT (q:=q) (n:=n) (i:=i) (j:=j);obtain⟨g,m⟩:=Η (Xm q n i j);refine W.to (σ':=η 23 1 b++η 29 1 (g.map Φ)) (env':=[(1,Z9 J 1 [p.1,p.2]),(2,.Θ [ν s.Ι,ξ s.Δ,Z2 s.cells]),(6,Yu b),(7,J c),(8,ZV k (g.map Φ)),(9,J ((i:Int)-1)),(10,J ((j:Int)-1))]) ?_ (by rw[m]) (by rw[m];simp);refine Z' λaq Y=>?_;refine Ε.c M (ZM.cons (.refl _) (.cons (.refl _) (.cons (.refl _) (.cons .ex .nil)))) I I ?_;simp;(repeat (rw[Ν];simp));apply Y;refine Τ ?_;refine Ζ rfl ?_;refine Τ ?_;cases N:q ((i:Int)-1,(j:Int)-1)
    .refine Ζ rfl ?_;refine Γ L ?_;rw[N] at o;refine W.to (E (j+1) U U) ?_ ?_
     .rw[o,m];simp
     .rw[o,m];simp
    .refine Α rfl ?_;rw[N] at o
     repeat apply Ξ
     refine W.XV (A:=[52]) Ρ [(1,Z9 J 1 [p.1,p.2]),(2,.Θ [ν s.Ι,ξ s.Δ,Z2 s.cells]),(6,Yu b),(7,J c),(8,ZV k ((g++[((i:Int)-1,(j:Int)-1)]).map Φ)),(9,J ((i:Int)-1)),(10,J ((j:Int)-1))] (η 23 1 b++η 29 1 ((g++[((i:Int)-1,(j:Int)-1)]).map Φ)) ?_ (by
      have Z:g.length<=4294967295:=by
       have ar:=Bu q n i j
       have au:i*(n+1)<=7*7:=Mk U U;rw[m];omega
      clear E D B;by_cases f:g=[]
      .subst f;simp only[UA,Wy,Vw,show ZV k []=.sl true 0 [] from rfl];simp;(repeat (rw[Ν];simp));(try simp[ZV,η,v])
      .have O:g.map Φ≠[]:=by simpa using f
       rw[XR O,YZ O];have aa:(η 23 1 b++[Row.cells 29 1 (g.map Φ)])[k]?=some (Row.cells 29 1 (g.map Φ)):=by rw[v];simp
       simp;(repeat (rw[Ν];simp[aa,Z]));(try simp[ZV,η,v]))
     refine Γ L ?_;refine W.to (E (j+1) U U) ?_ ?_
     .rw[o,m];simp
     .rw[o,m];simp
   .refine Ζ (by simp[<-u];omega) ?_;refine W.exit rfl ?_;have ab:j=n+1:=U;subst ab;have:=Yg (show i<2 ^ 62 by omega);refine Γ this ?_;refine W.to (D (i+1) U U) ?_ ?_
    .rw[IU]
    .rw[IU];simp
  .refine Ζ (by simp[<-u];omega) ?_;refine W.exit rfl ?_;have ad:i=n+1:=U;subst ad;obtain⟨w,P⟩:=Η (X3 s p c);have ae:Xm q n (n+1) 0=w:=by rw[Ls,P,K,u];rfl
   rw[ae];have Q:S0 s p c=YC 1 (w.map Φ):=by unfold S0;rw[P]
   refine W.cut (η 23 1 b).length (χ _) [(1,Z9 J 1 [p.1,p.2]),(2,.Θ [ν s.Ι,ξ s.Δ,Z2 s.cells]),(6,Yu b),(7,J c),(8,S0 s p c)] I ?_ ?_ ?_
   .intro id r af R;rw[YK af] at R;exact R7 H r (Zi R)
   .intro z f;simp only[Y6,Ya,or_false] at f;rcases f with rfl|rfl|rfl|rfl|rfl
    .exact .low I
    .exact .low I
    .refine .low ?_;show ς _ (Yu b);unfold Yu;by_cases f:b=[]
     .simp[f]
     .rw[if_neg (by simpa using f),YZ f];simp[Ux]
    .exact .low I
    .show Ym _ _ (ZV k (w.map Φ)) (S0 s p c);rw[Q];refine PL (t:=29) (by rw[v];exact γ _) (λf=>?_) (λe ag a ah=>ς.mono (Fh e ag a ah) (χ _));rw[YZ f,v];simp
   have y:b++[S0 s p c]=(List.range (c+1)).map (S0 s p):=by rw[l,V0,Yc];rfl
   rw[List.take_left];obtain⟨x,S⟩:=Η (S0 s p c);rw[<-S] at y ⊢;obtain⟨av,aw,ax,F⟩:=IQ 1 (w.map Φ);rw[<-Q,<-S] at F
   repeat apply Ξ
   refine W.XV (A:=[56]) Ρ [(1,Z9 J 1 [p.1,p.2]),(2,.Θ [ν s.Ι,ξ s.Δ,Z2 s.cells]),(6,Yu (b++[x])),(7,J c)] (η 23 1 (b++[x])) ?_ (by
    have ai:b.length<=4294967295:=by rw[l];simp;omega
    clear B D y l;by_cases f:b=[]
    .subst f;rw[F];simp only[S',Wy];simp;(repeat (rw[Ν];simp));(try simp[Yu,η])
    .rw[R8 f,YZ f,F];simp;(repeat (rw[Ν];simp[ai]));(try simp[Yu,η]))
   refine Γ V ?_;exact W.to (B (c+1) U U) (by rw[y]) (by rw[y];simp)
 .refine Ζ (by simp[C]) ?_;have aj:c=s.cells.length:=U;refine W.exit rfl ?_;refine W.Dq (d:=6) H [(1,Z9 J 1 [p.1,p.2])] I I ?_;refine Τ ?_;refine W.ret ⟨_,rfl,?_,rfl⟩;refine Zh.ZW (ZM.cons ?_ (ZM.cons (.refl _) .nil));rw[l,aj];refine .trans Zh.acc ?_;show Zh _ (.sl false 1 (((List.range s.cells.length).map λc=>WT (X3 s p c)).map ξ));rw[Sq];refine .map λc _=>.one ?_ (by unfold S0 YC;split<;>rfl) rfl;unfold S0;refine .trans Zh.acc ?_;show Zh (.sl false 1 ((X3 s p c).map Φ)) (.sl false 1 ((WT (X3 s p c)).map (Z9 J 1)));rw[Sq];exact .map λr _=>.one .ex rfl rfl
theorem rG:∀k,k<3->0<=(Ze k).2/\(Ze k).2<(Ze k).1/\(Ze k).1<=2:=ZY
end Go.TL
namespace Go.TL
open Go.Conc Go.Proofs
variable [ZX]
theorem W.XU {P:Program} {m nt:Nat} {k:List Item} {env:ω} {σ:Ο} {Z:X7} {E:Yn} (env':ω) (d:∀p∈env',Zh (Z7 env p.1) p.2) (f:W P m nt k env' σ Z E):W P m nt k env σ Z E:=
 λg mn x cs b S B H t h j a n o=>by
 have r:∀(l:ω),(∀p∈l,Zh (Z7 env p.1) p.2)->∀i,Zh (Z7 env i) (Z7 l i):=by
  intro l
  induction l with
  | nil=>intro _ i;exact .Zl _
  | cons p l s=>
   intro c i;simp only[Z7];split
   .rename_i e;rw[<-e];exact c p I
   .exact s (λq u=>c q (by simp[u])) i
 exact f g mn x cs b S B H t h j ⟨a.holds,λi=>r env' d i S B σ _ (a.Zm i),a.size,a.rows⟩ n o
end Go.TL
namespace Go.TL
open Go.Proofs
variable [ZX]
theorem rF {α:Type} [DecidableEq α] {R:α->α->Prop} (i:∀a b,R a b->R b a->a=b):∀{l:List α} {a:α},(a::l).Pairwise R->(a::Vr a l).Pairwise λx y=>R x y/\x≠y:=by
 intro l
 induction l with
 | nil=>intro a _;simp[Vr]
 | cons b l f=>
  intro a h;obtain⟨g,c⟩:=OJ.1 h;unfold Vr;split
  .rename_i q;have q:b=a:=by simpa using q
   subst q;exact f c
  .rename_i q;have q:¬b=a:=by simpa using q
   refine OJ.2 ⟨λy d=>?_,f c⟩;have hm:y∈b::l:=by
    rcases Y6.1 d with rfl|d
    .simp
    .rcases Be.1 (.inl d) with h|rfl
     .simp[h]
     .simp
   refine⟨g y hm,λe=>?_⟩;subst e;rcases Y6.1 hm with e|hm
   .exact q e.symm
   .exact q (i _ _ ((OJ.1 c).1 _ hm) (g b I))
theorem rE (F:List Found) (c:Nat):(VM F c).Pairwise λx y=>x.1<y.1\/(x.1=y.1/\x.2<y.2):=by
 have g:∀a b c:Int×Int,X4 a b=true->X4 b c=true->X4 a c=true:=λa b c h k=>by
  simp only[X4,R5] at *;simp at *;omega
 have i:∀a b:Int×Int,(X4 a b||X4 b a)=true:=λa b=>by
  simp only[X4,R5];simp;omega
 have d:=KE (le:=X4) g i (Xs F c);unfold VM;obtain⟨L,j⟩:=Η ((Xs F c).mergeSort X4);rw[<-j] at d ⊢;cases L with
 | nil=>exact .nil
 | cons a l=>
  refine(rF (R:=λx y=>X4 x y=true) (λa b h k=>IY a b (by simpa[X4] using k) (by simpa[X4] using h)) d).imp λ{x y} h=>?_;obtain⟨f,m⟩:=h;simp only[X4,R5] at f;simp at f;by_cases e:x.1=y.1
  .have:x.2≠y.2:=λΦ=>m (Prod.ext e Φ);omega
  .omega
theorem rD {s:ψ} {c:Nat} (b:c<s.cells.length) {r:Int×Int} (h:r∈VM (Z1 s) c):(-1<=r.1/\r.1<s.Ι.length)/\(-1<=r.2/\r.2<s.Ι.length):=by
 obtain⟨f,d,a⟩:=A4.1 h;obtain⟨k,_,_,e,_⟩:=(Mt d).2 c b;unfold OX at a;rw[e] at a;exact Bh a
theorem rC (s:ψ):Z1 s=[]↔W1 (Z1 s)=0:=by
 constructor
 .intro h;rw[h];rfl
 .intro h;rw[Mr,Ms,Ms,Ms] at h;refine List.eq_nil_iff_forall_not_mem.2 λf a=>?_;obtain⟨k,b,c,_⟩:=OY.1 a;obtain rfl|rfl|rfl:k=0\/k=1\/k=2:=U
  all_goals omega
def UD (s:ψ) (i:Nat):List (List Int):=((List.range i).filterMap (WH s)).map λf=>[f.u,f.v]
def U5 (s:ψ) (i c:Nat):List (Int×Int):=((List.range i).filterMap (WH s)).flatMap λf=>OX f c
theorem rB (s:ψ):UD s 3=W0 (Z1 s):=rfl
theorem rA (s:ψ) (c:Nat):U5 s 3 c=Xs (Z1 s) c:=rfl
theorem A3 (s:ψ):UD s 0=[]:=rfl
theorem rz (s:ψ) (c:Nat):U5 s 0 c=[]:=rfl
theorem A2 {s:ψ} {i:Nat} (hi:i<3) (h:0<(YX s (Ze i)).many (-1)):WH s i=some (YX s (Ze i)):=by unfold WH;rw[if_pos ⟨hi,h⟩]
theorem A1 {s:ψ} {i:Nat} (h:¬0<(YX s (Ze i)).many (-1)):WH s i=none:=by unfold WH;rw[if_neg (λq=>h q.2)]
theorem ry {s:ψ} {i:Nat} (hi:i<3) (h:0<(YX s (Ze i)).many (-1)):UD s (i+1)=UD s i++[[(Ze i).1,(Ze i).2]]:=by
 unfold UD;rw[V0,Ql,Yc];simp[A2 hi h,YX]
theorem rv {s:ψ} {i:Nat} (h:¬0<(YX s (Ze i)).many (-1)):UD s (i+1)=UD s i:=by
 unfold UD;rw[V0,Ql,Yc];simp[A1 h]
theorem A0 {s:ψ} {i c:Nat} (hi:i<3) (a:c<s.cells.length) (h:0<(YX s (Ze i)).many (-1)):U5 s (i+1) c=U5 s i c++X3 s (Ze i) c:=by
 unfold U5;rw[V0,Ql,ON];simp[A2 hi h,OX,YX,a]
theorem AZ {s:ψ} {i c:Nat} (h:¬0<(YX s (Ze i)).many (-1)):U5 s (i+1) c=U5 s i c:=by
 unfold U5;rw[V0,Ql,ON];simp[A1 h]
theorem ru {s:ψ} {c:Nat} (i:c<s.cells.length):Xm (λr=>decide (r∈Xs (Z1 s) c)) s.Ι.length (s.Ι.length+1) 0=VM (Z1 s) c:=by
 rw[Ls];have d:((Rw s.Ι.length).filter λr=>decide (r∈Xs (Z1 s) c)).Pairwise λx y=>x.1<y.1\/(x.1=y.1/\x.2<y.2):=(Df _ _).filter _;have f:=rE (Z1 s) c;have j:∀r,r∈(Rw s.Ι.length).filter (λr=>decide (r∈Xs (Z1 s) c))↔r∈VM (Z1 s) c:=λr=>by
  have e:r∈VM (Z1 s) c↔r∈Xs (Z1 s) c:=by
   unfold VM;rw[HW,(NG _ _).mem_iff]
  rw[Vh,decide_eq_true_eq,e];exact⟨λh=>h.2,λh=>⟨Mu.2 (rD i (e.2 h)),h⟩⟩
 have g:∀{l:List (Int×Int)},(l.Pairwise λx y=>x.1<y.1\/(x.1=y.1/\x.2<y.2))->l.Nodup:=λh=>h.imp λ{a b} h e=>by subst e;omega
 have m:=(KJ (g d) (g f)).2 j;exact KH (le:=λx y:Int×Int=>x.1<y.1\/(x.1=y.1/\x.2<y.2)) (λa b _ _ h k=>U) d f m
theorem rr (s:ψ) (i:Nat):(UD s i).length<=i:=by
 unfold UD;rw[Yp];exact X' (KG _ _) I
theorem AY {s:ψ} (h:Yd s) {c:Nat} (a:c<s.cells.length):∀i,i<=3->(U5 s i c).length<=49*i
 | 0,_=>by simp[rz]
 | i+1,hi=>by
  have b:=AY h a i U
  have d:=KW h (Ze i) c;by_cases q:0<(YX s (Ze i)).many (-1)
  .rw[A0 U a q,VK];omega
  .rw[AZ q];omega
def WW (s:ψ) (i:Nat):List (List (List Int)):=(List.range s.cells.length).map λk=>WT (U5 s i k)
def Tx (s:ψ) (i c:Nat):List (List (List Int)):=(List.range s.cells.length).map λk=>WT (U5 s (if k<c then i+1 else i) k)
theorem rq (s:ψ):WW s 0=List.replicate s.cells.length []:=by
 refine VJ λj=>?_;unfold WW;simp only[YU,List.getElem?_range',OQ];by_cases h:j<s.cells.length
 .rw[Q8 h,if_pos h];rfl
 .rw[Wu (by simp;omega),if_neg h];rfl
theorem rp (s:ψ) (i:Nat):Tx s i 0=WW s i:=by unfold Tx WW;simp
theorem rn (s:ψ) (i:Nat):Tx s i s.cells.length=WW s (i+1):=by
 unfold Tx WW;exact NI λk a=>by rw[if_pos (Ws.1 a)]
theorem AX (s:ψ) (i c:Nat):(Tx s i c).length=s.cells.length:=by unfold Tx;simp
theorem rm {s:ψ} {i c:Nat} (a:c<s.cells.length):(Tx s i c)[c]?=some (WT (U5 s i c)):=by unfold Tx;simp[a]
theorem rl {s:ψ} {i c:Nat} (a:c<s.cells.length):(Tx s i c).set c (WT (U5 s (i+1) c))=Tx s i (c+1):=by
 refine VJ λj=>?_;by_cases e:c=j
 .subst e;rw[Xa (by rw[AX];exact a)];unfold Tx;simp[a]
 .rw[WR e];unfold Tx;rw[YU,YU];by_cases h:j<s.cells.length
  .rw[Q8 h];show some (WT (U5 s (if j<c then i+1 else i) j))=some (WT (U5 s (if j<c+1 then i+1 else i) j));by_cases q:j<c
   .rw[if_pos q,if_pos U]
   .rw[if_neg q,if_neg U]
  .rw[Wu (by simp;omega)];rfl
theorem rk {s:ψ} {i:Nat} (h:¬0<(YX s (Ze i)).many (-1)):WW s (i+1)=WW s i:=by
 unfold WW;exact NI λk _=>by rw[AZ h]
theorem rj {s:ψ} {c:Nat} (a:c<s.cells.length):(WW s 3)[c]?=some (WT (Xs (Z1 s) c)):=by unfold WW;simp[a,rA]
theorem AW {j m:Nat} (h:j<=m):List.range j <+: List.range m:=by
 obtain⟨d,rfl⟩:∃d,m=j+d:=⟨m-j,U⟩;rw[List.range_add];exact Kx _ _
theorem ri {α c:Type} {f:α->c} {a b:List α} (h:a <+: b):a.map f <+: b.map f:=by
 obtain⟨t,rfl⟩:=h;rw[Yc];exact Kx _ _
theorem rh {n i j:Nat} (hi:i<n+1) (b:j<=n+1):Xn n i++Vq i j <+: Rw n:=by
 have c:Vq i j <+: Vq i (n+1):=by unfold Vq;exact ri (AW b)
 have d:Xn n i++Vq i j <+: Xn n (i+1):=by
  rw[IX];obtain⟨t,a⟩:=c;exact⟨t,by rw[Vi,a]⟩
 refine List.IsPrefix.trans d ?_;unfold Rw Xn;obtain⟨t,a⟩:=AW (j:=i+1) (m:=n+1) U;rw[<-a,ON];exact Kx _ _
theorem rf {q:Int×Int->Bool} {n i j:Nat} (hi:i<n+1) (d:j<n+1) (c:q ((i:Int)-1,(j:Int)-1)=true):(Xm q n (n+1) 0)[(Xm q n i j).length]?=some ((i:Int)-1,(j:Int)-1):=by
 have b:Xm q n i (j+1) <+: Xm q n (n+1) 0:=by
  rw[Ls];unfold Xm;obtain⟨t,a⟩:=rh (n:=n) (i:=i) (j:=j+1) hi U;rw[<-a,List.filter_append (l₂:=t)];exact Kx _ _
 rw[IT,c,if_pos rfl] at b;obtain⟨t,a⟩:=b;rw[<-a,Vi,W8 (γ _),Q5];rfl
def Uo (G:List (Int×Int)) (m:Nat):List Bool:=(List.range m).map λk:Nat=>G.any λr=>decide (r.2=(k:Int)-1)
theorem re (m:Nat):Uo [] m=List.replicate m false:=by
 refine VJ λj=>?_;unfold Uo;rw[YU,OQ];by_cases h:j<m
 .rw[Q8 h,if_pos h];rfl
 .rw[Wu (by simp;omega),if_neg h];rfl
theorem HR (G:List (Int×Int)) (m:Nat):(Uo G m).length=m:=by unfold Uo;simp
theorem rb (G:List (Int×Int)) (m j:Nat) (a:Int) (b:j<m):Uo (G++[(a,(j:Int)-1)]) m=(Uo G m).set j true:=by
 refine VJ λk=>?_;by_cases e:j=k
 .subst e;rw[Xa (by rw[HR];exact b)];unfold Uo;simp[b]
 .rw[WR e];unfold Uo;rw[YU,YU];by_cases h:k<m
  .rw[Q8 h];show some ((G++[(a,(j:Int)-1)]).any λr=>decide (r.2=(k:Int)-1))=some (G.any λr=>decide (r.2=(k:Int)-1));rw[List.any_append];have:¬((j:Int)-1=(k:Int)-1):=U;simp[this]
  .rw[Wu (by simp;omega)];rfl
theorem AV {s:ψ} {c k m:Nat} (d:k<m):(Uo (VM (Z1 s) c) m)[k]?=some ((Yb (Z1 s) c true).contains ((k:Int)-1)):=by
 unfold Uo;rw[YU,Q8 d];show some _=some _;congr 1;rw[Q6,Kp,PA,HV,Bc,Zq];have e:∀r,r∈VM (Z1 s) c↔r∈Xs (Z1 s) c:=λr=>by unfold VM;rw[HW,(NG _ _).mem_iff]
 constructor
 .rintro⟨r,a,b⟩;exact⟨r,(e r).1 a,by simpa[Vz] using b⟩
 .rintro⟨r,a,b⟩;exact⟨r,(e r).2 a,by simpa[Vz] using b⟩
theorem ra {s:ψ} {c:Nat} (f:c<s.cells.length):(Uo (VM (Z1 s) c) (s.Ι.length+1)).count true=(Yb (Z1 s) c true).length:=by
 obtain⟨L,d⟩:=Η (Yb (Z1 s) c true);obtain⟨m,g⟩:=Η (s.Ι.length+1);have e:Uo (VM (Z1 s) c) m=(List.range m).map λk:Nat=>L.contains ((k:Int)-1):=by
  refine VJ λk=>?_;by_cases h:k<m
  .rw[AV h,YU,Q8 h,d];rfl
  .rw[Wu (by rw[HR];omega),Wu (by simp;omega)]
 have i:∀x∈L,-1<=x/\x<s.Ι.length:=λx h=>FA f (by rw[<-d];exact h)
 have j:L.Pairwise (· < ·):=d▸Bd _ _ _;rw[<-g,e,List.count_eq_countP,List.countP_map,<-d,List.countP_eq_length_filter];have l:(((List.range m).filter ((λx=>x==true) ∘ λk:Nat=>L.contains ((k:Int)-1))).map λk:Nat=>(k:Int)-1).Perm L:=by
  refine(KJ ?_ (j.imp λh e=>by subst e;omega)).2 λx=>?_
  .refine List.Pairwise.map _ (λa b (h:a≠b)=>U) (List.Pairwise.filter _ Mm)
  .rw[Zq];constructor
   .rintro⟨k,n,rfl⟩;have:=(Vh.1 n).2;simpa using this
   .intro h;have:=i x h;refine⟨(x+1).toNat,Vh.2 ⟨Ws.2 U,?_⟩,U⟩;simp only[Function.comp];rw[show(((x+1).toNat:Nat):Int)-1=x by omega];simpa using h
 rw[<-l.length_eq,Yp]
theorem q' {s:ψ} (h:Yd s) (a:Z1 s≠[]) {c k:Nat} (b:c<s.cells.length) (d:k<s.Ι.length+1) :
  Mq s (Z1 s) c true ((k:Int)-1)=(if(Yb (Z1 s) c true).contains ((k:Int)-1) then(if(Yb (Z1 s) c true).length=1 then 1 else 3) else 2,0):=by
 unfold Mq;rw[if_neg (by rw[h.err];simp),if_neg U,if_neg a,Int.toNat_natCast];cases (Yb (Z1 s) c true).contains ((k:Int)-1) with
 | false=>simp
 | true=>by_cases e:(Yb (Z1 s) c true).length=1<;>simp[e]
theorem q9 (l:List (Int×Int)) (a b:Int):(WT l).contains [a,b]=decide ((a,b)∈l):=by
 rw[Q6,PA,decide_eq_true_eq];unfold WT;rw[Zq];constructor
 .rintro⟨r,d,c⟩;simp at c;obtain⟨rfl,rfl⟩:=c;exact d
 .exact λh=>⟨_,h,rfl⟩
theorem OW.mid {id:Nat} {t:TypeId} {k:Nat} {g R:κ}:OW id (.cells t k (g++.sl true 0 []::R)) (.cells t k (g++.ms id 0 0 0::R)):=by
 refine .inr ⟨t,k,_,_,rfl,rfl,I,λi e m c b=>?_⟩;by_cases hi:i<g.length
 .rw[YK hi] at c b;rw[c] at b;cases b;exact⟨rfl,λx a h f d=>by rw[f] at d;cases d;exact .same _⟩
 .rw[W8 U] at c b;obtain⟨j,l⟩:=Η (i-g.length);rw[<-l] at c b
  match j with
  | 0=>
   simp at c b;subst c;subst b;refine⟨rfl,λx a h f d=>?_⟩
   match x with
   | 0=>simp[Ω.cells] at f d;subst f;subst d;exact .nil
   | x+1=>simp[Ω.cells] at f
  | j+1=>
   simp only[List.getElem?_cons_succ] at c b;rw[c] at b;cases b;exact⟨rfl,λx a h f d=>by rw[f] at d;cases d;exact .same _⟩
section
variable {P:Program} {m nt:Nat} {kk:List Item} {env:ω} {σ:Ο} {Z:X7} {E:Yn}
theorem W.q8 {α:Type} (T t:TypeId) (k i n:Nat) (hi:σ[i]?=some (.cells T 1 (List.replicate n (.sl true 0 [])))) (env':ω) (f:∀p∈env',Z7 env p.1=p.2) (g:∀p∈env',Z7 env' p.1=p.2)
  (c:W P m nt kk env' (σ.set i (.cells T 1 (Yh σ.length (List.replicate n ([]:List α))))++List.replicate n (.cells t k [])) Z E):W P m nt kk env σ Z E:=by
 obtain⟨b,a⟩:=Η σ.length;rw[<-a] at c;have x:i<b:=by rw[a];exact(ZA.1 hi).1
 have h:∀(r j:Nat),j+r=n->W P m nt kk env' (σ.set i (.cells T 1 (Yh b (List.replicate j ([]:List α))++List.replicate r (.sl true 0 [])))++List.replicate j (.cells t k [])) Z E:=by
  intro r
  induction r with
  | zero=>
   intro j l;obtain rfl:j=n:=U;simpa using c
  | succ r o=>
   intro j l;have d:=o (j+1) U;rw[List.replicate_succ',A9,Q9,Vi,List.replicate_succ',<-Vi] at d;have s:(σ.set i (.cells T 1 (Yh b (List.replicate j ([]:List α))++List.replicate (r+1) (.sl true 0 [])))++List.replicate j (Row.cells t k []))[i]?=some (.cells T 1 (Yh b (List.replicate j ([]:List α))++.sl true 0 []::List.replicate r (.sl true 0 []))):=by
    rw[YK (by rw[RP];omega),Xa U,List.replicate_succ]
   have u:(σ.set i (.cells T 1 (Yh b (List.replicate j ([]:List α))++List.replicate (r+1) (Ω.sl true 0 [])))++List.replicate j (Row.cells t k [])).length=b+j:=by
    rw[VK,RP,Q9,<-a]
   refine W.A' t k s (r':=.cells T 1 (Yh b (List.replicate j ([]:List α))++.ms (b+j) 0 0 0::List.replicate r (.sl true 0 []))) (by rw[u];exact .mid) env' (λp v=>by rw[g p v];exact .same _) ?_;rw[List.set_append_left _ _ (by rw[RP];omega),List.set_set];exact d
 have w:=h n 0 U;refine W.to w ?_ f;simp only[List.replicate_zero,Yh,List.nil_append,Vw];refine VJ λj=>?_;by_cases e:i=j
 .subst e;rw[hi,Xa U]
 .rw[WR e]
end
end Go.TL
namespace Go.TL
open Go.Proofs
def T0 (L:List (List (List Int))):Ο:=L.map λl=>.cells 29 1 (l.map (Z9 J 1))
theorem AU (L:List (List (List Int))) (c:Nat):(T0 L)[c]?=L[c]?.map λl=>.cells 29 1 (l.map (Z9 J 1)):=by unfold T0;rw[YU]
theorem q7 (L:List (List (List Int))):(T0 L).length=L.length:=by unfold T0;rw[Yp]
theorem q6 (L:List (List (List Int))) (c:Nat) (x:List (List Int)):T0 (L.set c x)=(T0 L).set c (.cells 29 1 (x.map (Z9 J 1))):=by unfold T0;rw[Pw]
theorem q5 (l:List Int) (bE:l.length<2 ^ 63):@W Uq Tryz.prog 0 249 [.code (Tryz.f16.body.getD .skip)] (entry 0 [Z9 J 1 l]) [] (λj env _=>(∃k,j=.code .ret::k)/\Z7 env 2=Z4 true) (λ_ _ _=>False):=by
 letI:ZX:=Uq;show W Tryz.prog 0 249 [.code _] _ _ _ _;refine W.seq ?_
 repeat apply Ξ
 refine VT ?_;refine Y1 ?_;refine Y4 (A:=[3]) Ρ λv e=>Z6 ?_;refine Μ.call (first:=[]) (captured:=[]) ((FE l).mono (λa s ⟨ae,bF⟩=>?_) (λ_ _ h=>h.elim));subst ae;subst bF;simp;(repeat (rw[Ν];simp));have bh:(⟨l,1⟩:Zk).Z0.length<2 ^ 63:=bE;generalize (⟨l,1⟩:Zk)=d0 at bh;refine RS.c (Bb d0 bh 4 3 ZY ZY ZY) 0 rfl (ZM.refl _) I (by
  rintro r ⟨s,rfl,_⟩;simp[YG,Ω.cells]) ?_
 rintro r d1 ⟨s,rfl,C,b',_⟩ ca;simp;(repeat (rw[Ν];simp));apply e;clear e v;refine W.U9 (σ0:=[ZH d1]) (χ _) (λr ao=>by simp at ao;subst ao;exact TA d1 _) (λa aw=>by simp[Ω.cells] at aw;rcases aw with rfl|rfl|rfl<;>simp[YG,Ω.cells]) [(3,.Θ [ν s.Ι,ξ s.Δ,Z2 s.cells])] (by simp[WV,Ω.cells,YG]) ?_;refine W.cut 0 (χ _) [(3,.Θ [ν s.Ι,ξ s.Δ,Z2 s.cells])] (χ _) (λid r h=>absurd h (Nat.not_lt_zero _)) (λq B=>by
  simp only[Y6,Ya,or_false] at B;subst B;exact .low (by simp[Ω.cells,YG])) ?_
 rw[List.take_zero];have a8:=C.small;have bG:=C.err;have bH:=C.Ι.hi;obtain⟨n,P⟩:=Η s.cells.length
 repeat apply Ξ
 refine VT ?_
 repeat apply Ξ
 refine VT ?_
 repeat apply Ξ
 refine VT ?_;refine W.to (σ':=[]) (env':=[(3,.Θ [ν s.Ι,ξ s.Δ,Z2 s.cells]),(4,.sl true 1 Qo),(5,.sl true 0 []),(6,J 0)]) ?_ rfl I;refine W.pad 29 1 (σ':=[]) rfl (λj r h=>⟨r,h,.inl rfl⟩) [(3,.Θ [ν s.Ι,ξ s.Δ,Z2 s.cells]),(4,.sl true 1 Qo),(5,.ms 0 0 0 0),(6,J 0)] (λq B=>by
  simp only[Y6,Ya,or_false] at B;rcases B with rfl|rfl|rfl|rfl
  .exact .same _
  .exact .same _
  .exact .nil
  .exact .same _) ?_
 rw[List.nil_append]
 repeat apply Ξ
 refine W.XV (A:=[41]) Ρ [(3,.Θ [ν s.Ι,ξ s.Δ,Z2 s.cells]),(4,.sl true 1 Qo),(5,.ms 0 0 0 0),(6,J 0),(7,.ms 1 n 0 n)] [.cells 29 1 [],.cells 23 1 (List.replicate n (.sl true 0 []))] ?_ (by
  (try simp);(repeat (rw[Ν];simp[P.symm]));(try simp[P.symm]);omega)
 refine W.q8 (α:=List Int) 23 29 1 1 n rfl [(3,.Θ [ν s.Ι,ξ s.Δ,Z2 s.cells]),(4,.sl true 1 Qo),(5,.ms 0 0 0 0),(6,J 0),(7,.ms 1 n 0 n)] I I ?_;refine W.to (σ':=.cells 29 1 ((UD s 0).map Zr)::.cells 23 1 (Yh 2 (WW s 0))::T0 (WW s 0)) (env':=[(3,.Θ [ν s.Ι,ξ s.Δ,Z2 s.cells]),(4,.sl true 1 Qo),(5,.ms 0 0 0 0),(6,J 0),(7,.ms 1 n 0 n)]) ?_ (by
  rw[rq,A3,<-P];unfold T0;rw[List.map_replicate];rfl) I
 refine Τ ?_;refine W.iter (λi:Nat=>i<=3) (λi=>[(3,.Θ [ν s.Ι,ξ s.Δ,Z2 s.cells]),(4,.sl true 1 Qo),(5,.ms 0 (UD s i).length 0 (UD s i).length),(6,J (US s i)),(7,.ms 1 n 0 n),(8,J i)])
  (λi=>.cells 29 1 ((UD s i).map Zr)::.cells 23 1 (Yh 2 (WW s i))::T0 (WW s i)) (λi=>3-i) 0 ZY rfl (by simp[US,A3]) (λi hi S=>?_)
 obtain⟨σ0,af⟩:=Η (Row.cells 29 1 ((UD s i).map Zr)::.cells 23 1 (Yh 2 (WW s i))::T0 (WW s i));obtain⟨u,X⟩:=Η (UD s i);have bI:u.length<=i:=by rw[X];exact rr s i
 refine W.to (σ':=σ0) (env':=[(3,.Θ [ν s.Ι,ξ s.Δ,Z2 s.cells]),(4,.sl true 1 Qo),(5,.ms 0 u.length 0 u.length),(6,J (US s i)),(7,.ms 1 n 0 n),(8,J i)]) ?_ (by rw[af]) (by rw[X];simp);by_cases ax:i<3
 .obtain⟨ay,az⟩:=A5 i ax;have bi:=rG i ax;have K:=Ms s i;have bJ:=KR C (i+1);have bK:=KT (s:=s) (Ze i);have aM:¬0<(YX s (Ze i)).many (-1)->UD s (i+1)=u/\WW s (i+1)=WW s i:=λh=>⟨by rw[rv h,X],rk h⟩;have aA:0<(YX s (Ze i)).many (-1)->UD s (i+1)=u++[[(Ze i).1,(Ze i).2]]:=λh=>by rw[ry ax h,X]
  have aN:0<(YX s (Ze i)).many (-1)->∀c,c<s.cells.length->U5 s (i+1) c=U5 s i c++X3 s (Ze i) c:=λh c ap=>A0 ax ap h;rw[bK,<-P] at K aM aA aN;have S:=S (i+1) ax U;have aj:=Yt (i:=i) U;obtain⟨p,bL⟩:=Η (Ze i);rw[<-bL] at ay az bi K aM aA aN;have bj:=rH s C p bi;obtain⟨aa,aO⟩:=Η ((List.range s.cells.length).map λc=>WT (X3 s p c));rw[<-aO] at bj;have aq:aa.length=n:=by rw[aO,P];simp
  obtain⟨aB,bk⟩:=Η Qo;have aP:aB.length=3:=by rw[bk];rfl
  rw[<-bk] at ay az S ⊢;have aC:(i:Int)<3:=U;refine Γ (Υ aP aC) ?_;refine Α I ?_
  repeat apply Ξ
  refine W.K5 (A:=[]) Ρ mixed [(3,.Θ [ν s.Ι,ξ s.Δ,Z2 s.cells]),(4,.sl true 1 aB),(5,.ms 0 u.length 0 u.length),(6,J (US s i)),(7,.ms 1 n 0 n),(8,J i),(9,SZ aa),(10,Z4 true)] σ0 ?_ (by
   simp;(repeat (rw[ZK];simp[ay,az,aP]));(try rw[ZL]);refine⟨U,?_⟩;refine Yl (Ε.p bj (.cons (.refl _) (.cons .ex .nil)) I I) ?_;simp;(repeat (rw[ZK];simp));(try rw[ZL]);refine⟨XD (by kernel_rfl),?_⟩;simp)
  refine Τ ?_;refine Ζ rfl ?_;refine Τ ?_;refine W.iter (λc:Nat=>c<=n) (λc=>[(3,.Θ [ν s.Ι,ξ s.Δ,Z2 s.cells]),(4,.sl true 1 aB),(5,.ms 0 u.length 0 u.length),(6,J (US s i)),(7,.ms 1 n 0 n),(8,J i),(9,SZ aa),(11,J (Xh (YX s p).cells (-1) c)),(12,J c)]) (λ_=>σ0) (λc=>n-c) 0 (χ _) rfl (by simp[Xh]) (λc cb o=>?_);by_cases ap:c<n
  .have Q:c<s.cells.length:=U
   have a9:=HZ (s:=s) p Q
   have bM:=KV C p (-1) (show c+1<=s.cells.length by omega)
   have aQ:aa[c]?=some (WT (X3 s p c)):=by rw[aO];simp[Q]
   obtain⟨ab,aD⟩:=Η (WT (X3 s p c));have bl:ab.length=(X3 s p c).length:=by rw[aD];simp
   rw[<-aD] at aQ;have bN:∀h,aa[c]'h=ab:=λh=>by rw[δ h] at aQ;simpa using aQ
   rw[<-bl] at a9;have a':=Yt (i:=c) U;have ba:(c:Int)<(n:Int):=U;have aR:IntKind.i64.wrap ((Xh (YX s p).cells (-1) c:Int)*(ab.length:Int))=(Xh (YX s p).cells (-1) (c+1):Nat):=by
    rw[a9,Int.natCast_mul];refine IntWalk.i64_in _ ?_;rw[a9] at bM;have:(Xh (YX s p).cells (-1) c:Int)*(ab.length:Int)=((Xh (YX s p).cells (-1) c*ab.length:Nat):Int):=by rw[Int.natCast_mul]
    rw[this];omega
   refine Γ (Υ aq ba) ?_;refine Α I ?_;refine Γ (Υ aQ (Υ bN (Υ aq (Υ ap (Υ aR a'))))) ?_;exact W.to (o (c+1) U U) rfl I
  have ba:¬(c:Int)<(n:Int):=U;obtain rfl:c=n:=U;clear o;refine Γ (Υ aq ba) ?_;refine Ζ I ?_;refine W.exit rfl ?_;obtain⟨w,a'⟩:=Η (Xh (YX s p).cells (-1) c);rw[<-a'] at K aM aA aN ⊢;by_cases B:0<w
  case neg=>
   obtain rfl:w=0:=U;obtain⟨aE,Φ⟩:=aM U;refine Τ ?_;refine Α I ?_;refine W.exit rfl ?_;refine Γ aj ?_;refine W.to S (by rw[af,<-X,aE,Φ]) (by rw[aE,K];simp[aj])
  have aE:=aA B
  have Φ:=aN B
  have Wk:¬(w:Int)=0:=U
  have bm:IntKind.i64.wrap ((US s i:Int)+(w:Nat))=(US s (i+1):Nat):=by
   rw[K] at bJ ⊢;rw[IntWalk.i64_in _ U,Int.natCast_add]
  rw[<-X] at af;(repeat (first|apply Ξ|(refine Y9 λv e=>?_;simp;(repeat (rw[Ν];simp[Wk]));apply e)));refine Ζ (by simp;omega) ?_;rw[af];have bn:(u.map Zr).length=u.length:=I;have bo:u.length<=4294967295:=U
  repeat apply Ξ
  refine W.XV (A:=[80]) Ρ [(3,.Θ [ν s.Ι,ξ s.Δ,Z2 s.cells]),(4,.sl true 1 aB),(5,.ms 0 (u.length+1) 0 (u.length+1)),(6,J (US s (i+1))),(7,.ms 1 c 0 c),(8,J i),(9,SZ aa)] (.cells 29 1 (u.map Zr++[Zr [p.1,p.2]])::.cells 23 1 (Yh 2 (WW s i))::T0 (WW s i)) ?_ (by
   (try simp);(repeat (rw[Ν];simp[ay,az,aP,bm,bn,bo]));(try simp[ay,az,aP,bm,bn,bo]);omega)
  obtain⟨bO,bp⟩:=Η (Row.cells 29 1 (u.map Zr++[Zr [p.1,p.2]]));rw[<-rp,<-bp];refine Τ ?_;refine W.iter (λk:Nat=>k<=c) (λk=>[(3,.Θ [ν s.Ι,ξ s.Δ,Z2 s.cells]),(4,.sl true 1 aB),(5,.ms 0 (u.length+1) 0 (u.length+1)),(6,J (US s (i+1))),(7,.ms 1 c 0 c),(8,J i),(9,SZ aa),(13,J k)]) (λk=>bO::.cells 23 1 (Yh 2 (Tx s i k))::T0 (Tx s i k)) (λk=>c-k) 0 (χ _) rfl I (λk aA o=>?_);by_cases Y:k<c
  .have aS:k<s.cells.length:=U
   have aT:aa[k]?=some (WT (X3 s p k)):=by rw[aO];simp[aS]
   have aU:=rm (s:=s) (i:=i) aS
   have aV:=rl (s:=s) (i:=i) aS
   have cc:=AY C aS i U
   have bP:=KW C p k;rw[Φ k Y,show WT (U5 s i k++X3 s p k)=WT (U5 s i k)++WT (X3 s p k) from Yc] at aV;obtain⟨ab,aD⟩:=Η (WT (X3 s p k));obtain⟨T,ak⟩:=Η (WT (U5 s i k));have bl:ab.length<=49:=by rw[aD];simpa using bP
   have cd:T.length<=200:=by rw[ak];simp;omega
   rw[<-aD] at aT aV;rw[<-ak] at aU aV;have bQ:∀h,aa[k]'h=ab:=λh=>by rw[δ h] at aT;simpa using aT
   have o:=o (k+1) U U;rw[<-aV,A8,q6,Yc,VK,OG 2 k] at o;obtain⟨F,aW⟩:=Η (Tx s i k);have bq:F.length=c:=by rw[aW,AX,P]
   rw[<-aW] at aU o ⊢;have aX:(Yh 2 F)[k]?=some (.ms (k+2) T.length 0 T.length):=by rw[Fl,aU,OG];rfl
   have br:(Yh 2 F).length=c:=by rw[NP,bq]
   have aY:(T0 F)[k]?=some (.cells 29 1 (T.map (Z9 J 1))):=by rw[AU,aU];rfl
   have bs:(T0 F).length=c:=by rw[q7,bq]
   obtain⟨E,bR⟩:=Η (Yh 2 F);obtain⟨N,aF⟩:=Η (T0 F);rw[<-bR] at aX br o ⊢;rw[<-aF] at aY bs o ⊢;have bS:∀h,E[k]'h=.ms (k+2) T.length 0 T.length:=λh=>by rw[δ h] at aX;exact Xk aX
   have bT:(T.map (Z9 J 1)).length=T.length:=I
   have bU:∀h,N[k]'h=.cells 29 1 (T.map (Z9 J 1)):=λh=>by rw[δ h] at aY;exact Xk aY
   have M:T.length+ab.length<=4294967296:=U
   have O:(k:Int)<(c:Int):=U
   have Z:=Yt (i:=k) U;refine Γ (Υ aq O) ?_;refine Α I ?_
   repeat apply Ξ
   refine W.draw (A:=[100]) Ρ mixed λv e=>V8 (Υ aT (Υ bQ (Υ aq (Υ aX (Υ bS (Υ br (Υ aY (Υ bU (Υ bs (Υ Y (Υ bT (Υ M O)))))))))))) ?_;refine Y8 (e _ _ ?_);refine Γ Z ?_;refine W.to o ?_ (by simp[Z]);simp
  have O:¬(k:Int)<(c:Int):=U;obtain rfl:k=c:=U;refine Γ (Υ aq O) ?_;refine Ζ I ?_;refine W.exit rfl ?_;refine Γ aj ?_;refine W.to S (by rw[aE,bp,P,rn];simp) (by rw[aE];simp[aj])
 obtain rfl:i=3:=U;clear S;refine Τ ?_;refine Ζ I ?_;refine W.exit rfl ?_;refine W.cut 0 (χ _) [(3,.Θ [ν s.Ι,ξ s.Δ,Z2 s.cells]),(5,.sl false 1 (u.map Zr)),(6,J (US s 3)),(7,SZ (WW s 3))] (χ _) (λid r h=>absurd h (Nat.not_lt_zero _)) (λq B=>by
  simp only[Y6,Ya,or_false] at B;rcases B with rfl|rfl|rfl|rfl
  .exact .low (by simp[Ω.cells,YG])
  .exact .own (t:=29) (χ _) (by rw[af,X];rfl) I Lv
  .exact .low I
  .have ae:=A7 (h:=0) (b:=2) (id:=1) (T:=23) (t:=29) (k:=1) (f:=Z9 J 1) (σ:=σ0) (L:=WW s 3) (χ _) (χ _) (λj l aG=>by
    rw[af,show 2+j=j+2 by omega];simp only[List.getElem?_cons_succ];rw[AU,aG];rfl) (by rw[af];rfl) (λp a aw=>by
    simp[Ω.cells] at aw;subst aw;simp[YG])
   rw[show(WW s 3).length=n by unfold WW;simp[P]] at ae;exact ae) ?_
 rw[List.take_zero];refine W.XU [(3,.Θ [ν s.Ι,ξ s.Δ,Z2 s.cells]),(5,ξ u),(6,J (US s 3)),(7,SZ (WW s 3))] (λq B=>by
  simp only[Y6,Ya,or_false] at B;rcases B with rfl|rfl|rfl|rfl
  .exact .refl _
  .exact .map λx _=>.one .ex rfl rfl
  .exact .refl _
  .exact .refl _) ?_
 have ak:=KU C
 have aZ:=Lu s a8 (Z1 s) ak (by have:=Re s;omega)
 have aH:=Fp s a8 (Z1 s) ak (Fo C) (by rw[Mr];have:=KR C 3;omega);rw[bG] at aZ aH;simp only[if_true] at aZ aH;rw[rB] at X;rw[<-X] at aZ;have aI:=I6 u u U (λy a0=>by
  rw[X] at a0;obtain⟨f,_,rfl⟩:=Zq.1 a0;simp)
 simp only[beq_self_eq_true] at aI;have a1:=rC s;rw[Mr] at aH a1;have bb:∀c,c<s.cells.length->(WW s 3)[c]?=some (WT (Xs (Z1 s) c)):=λc ap=>rj ap;have bt:(WW s 3).length=n:=by unfold WW;simp[P]
 obtain⟨ag,bc⟩:=Η (WW s 3);obtain⟨N,aF⟩:=Η (US s 3);rw[<-aF] at aH a1;rw[<-bc] at bb bt;rw[<-aF,<-bc];clear af bc aF bI;refine Z' λv e=>?_;refine Ε.d (aZ) (Z6 ?_);apply e;refine Z' λv e=>?_;refine Ε.d (aH) (Z6 ?_);apply e;refine Z' λv e=>?_;refine Ε.d (aI) (Z6 ?_);apply e;refine Ζ I ?_;refine Τ ?_;refine W.iter (λc:Nat=>c<=n) (λc=>[(3,.Θ [ν s.Ι,ξ s.Δ,Z2 s.cells]),(6,J N),(7,SZ ag),(18,J c)]) (λ_=>[]) (λc=>n-c) 0 (χ _) rfl I (λc ap S=>?_);by_cases bV:c<n
 case neg=>
  have g:¬(c:Int)<(n:Int):=U;(repeat (first|apply Ξ|(refine Y9 λv e=>?_;simp;(repeat (rw[Ν];simp[P.symm,g]));apply e)));refine Ζ I ?_;refine W.exit rfl ?_;refine Z' λv e=>?_;refine Ε.d (FZ) (Z6 ?_);apply e;exact W.stop ⟨⟨_,rfl⟩,rfl⟩
 have g:(c:Int)<(n:Int):=U
 have Q:c<s.cells.length:=U
 have a2:=Yt (i:=c) U
 have S:=S (c+1) U U
 have ah:=HU C Q ak;rw[Fy C Q] at ah;by_cases ad:Z1 s=[]
 .rw[if_pos ad] at ah;obtain rfl:N=0:=a1.1 ad;simp only at ah;(repeat (first|apply Ξ|(refine Y9 λv e=>?_;simp;(repeat (rw[Ν];simp[P.symm,g]));apply e)));refine Α I ?_;refine Z' λv e=>?_;refine Ε.d (ah) (Z6 ?_);apply e;refine Τ ?_;refine Α I ?_;refine Τ ?_;refine Ζ I ?_
  repeat apply Ξ
  refine W.exit rfl ?_;refine Γ a2 ?_;exact W.to S rfl (by simp[a2])
 rw[if_neg ad] at ah;have ce:N≠0:=λh=>ad (a1.2 h);have bW:¬(N:Int)=0:=U;have aJ:=ru (s:=s) Q;have bX:=(KS C ad Q).2.2.2;have bu:=Fx (Z1 s) c;have a3:=λk (Y:k<s.Ι.length+1)=>AV (s:=s) (c:=c) Y;have a4:=ra (s:=s) Q;have bv:=Fz (s:=s) (lower:=true) Q;have cf:=Fg C true c;have a5:=λ(k:Nat) (Y:k<s.Ι.length+1)=>by
  have h:=rM s a8 _ ak c true ((k:Int)-1) 255 ZY HX (λad=>NR C ad true) (λc=>by have:=Fg C true c;omega);rw[q' C ad Q Y] at h;exact h
 have bd:=λ(a b:Int)=>by
  have h:=Fj (WT (Xs (Z1 s) c)) [a,b] (by simp;omega) (λy a0=>by
   obtain⟨x,_,rfl⟩:=Zq.1 a0;simp)
  rw[q9] at h;exact h
 have a6:=bb c Q;obtain⟨q,B⟩:=Η (λr=>decide (r∈Xs (Z1 s) c):Int×Int->Bool);have bw:∀a b,decide ((a,b)∈Xs (Z1 s) c)=q (a,b):=λa b=>by rw[B]
 rw[<-B] at aJ;simp only[bw] at bd;simp only at ah;obtain⟨bY,be⟩:=Η (WT (Xs (Z1 s) c));rw[<-be] at a6;simp only[<-be] at bd;have bZ:∀h,ag[c]'h=bY:=λh=>by rw[δ h] at a6;simpa using a6
 obtain⟨G,b0⟩:=Η (VM (Z1 s) c);obtain⟨L,b1⟩:=Η (Yb (Z1 s) c true);obtain⟨D,ar⟩:=Η s.Ι.length;simp only[<-b0,<-b1,<-ar] at aJ bu a3 a4 bv a5 ah bH;have au:=λ(i j:Nat) (hi:i<D+1) (aG:j<D+1) (h:q ((i:Int)-1,(j:Int)-1)=true)=>rf hi aG h;simp only[aJ] at au;clear bb be B bw bX;have bu:G.length<=255:=by have:=(KS C ad Q).2.2.2;omega
 have aR:IntKind.i64.wrap ((D:Int)+1)=((D+1:Nat):Int):=Yt U;(repeat (first|apply Ξ|(refine Y9 λv e=>?_;simp;(repeat (rw[Ν];simp[P.symm,g]));apply e)));refine Α I ?_;refine Z' λv e=>?_;refine Ε.d (ah) (Z6 ?_);apply e;refine Γ bW ?_;refine Ζ (by simp;omega) ?_
 repeat apply Ξ
 obtain⟨m,bx⟩:=Η (D+1);rw[<-bx] at aJ a3 a4 bv a5 au aR;refine W.K5 (A:=[150]) Ρ mixed [(3,.Θ [ν s.Ι,ξ s.Δ,Z2 s.cells]),(6,J N),(7,SZ ag),(18,J c),(19,NS G),(20,J 0),(21,J 0),(22,.ms 0 m 0 m)] [.cells 4 1 ((Uo [] m).map Z4)] ?_ (by
  rw[re,List.map_replicate];simp;(repeat (rw[ZK];simp[ar.symm,aR]));(try rw[ZL]);refine⟨U,?_⟩;refine⟨XD (by kernel_rfl),?_⟩;simp)
 refine Τ ?_;refine W.iter (λi:Nat=>i<=m) (λi=>[(3,.Θ [ν s.Ι,ξ s.Δ,Z2 s.cells]),(6,J N),(7,SZ ag),(18,J c),(19,NS G),(20,J 0),(21,J (Xm q D i 0).length),(22,.ms 0 m 0 m),(23,J ((i:Int)-1))])
  (λi=>[.cells 4 1 ((Uo (Xm q D i 0) m).map Z4)]) (λi=>m-i) 0 (χ _) (by rw[Lt]) (by rw[Lt];simp) (λi hi o=>?_)
 by_cases cg:i<m
 .have aC:(i:Int)-1<(D:Int):=U
  have aj:=Yg (show i<2 ^ 62 by omega);(repeat (first|apply Ξ|(refine Y9 λv e=>?_;simp;(repeat (rw[Ν];simp[ar.symm,aC]));apply e)));refine Α I ?_;refine Τ ?_;refine W.iter (λj:Nat=>j<=m) (λj=>[(3,.Θ [ν s.Ι,ξ s.Δ,Z2 s.cells]),(6,J N),(7,SZ ag),(18,J c),(19,NS G),(20,J 0),(21,J (Xm q D i j).length),(22,.ms 0 m 0 m),(23,J ((i:Int)-1)),(24,J ((j:Int)-1))])
   (λj=>[.cells 4 1 ((Uo (Xm q D i j) m).map Z4)]) (λj=>m-j) 0 (χ _) rfl I (λj aG a7=>?_)
  by_cases bz:j<m
  .have al:(j:Int)-1<(D:Int):=U
   have V:=Yg (show j<2 ^ 62 by omega)
   have b2:=bd ((i:Int)-1) ((j:Int)-1)
   have K:=IT (q:=q) (n:=D) (i:=i) (j:=j)
   have au:=au i j U U
   have a7:=a7 (j+1) U U;obtain⟨F,aW⟩:=Η (Xm q D i j);rw[<-aW] at K au ⊢;obtain⟨H,ai⟩:=Η (Uo F m);have R:H.length=m:=by rw[ai,HR]
   rw[<-ai];(repeat (first|apply Ξ|(refine Y9 λv e=>?_;simp;(repeat (rw[Ν];simp[ar.symm,al]));apply e)));refine Α I ?_;refine XB (Υ a6 (Υ bZ (Υ bt bV))) λv e=>?_;refine Ε.c b2 (.cons (.refl _) (.cons .ex .nil)) I I ?_;simp;(repeat (rw[Ν];simp));apply e;cases bf:q ((i:Int)-1,(j:Int)-1)
   .refine Α I ?_;refine W.exit rfl ?_;rw[bf] at K;refine Γ V ?_;refine W.to a7 ?_ ?_
    .rw[K,ai];simp
    .rw[K];simp[V]
   .refine Ζ I ?_;rw[bf] at K;have aK:=au bf;have bA:=(ZA.1 aK).1;have bB:∀h,G[F.length]'h=((i:Int)-1,(j:Int)-1):=λh=>by rw[δ h] at aK;exact Xk aK
    have aI:=LF [(i:Int)-1,(j:Int)-1] [(i:Int)-1,(j:Int)-1] I;simp only[beq_self_eq_true] at aI;have O:¬(G.length:Int)<=(F.length:Int):=U;have Z:=Yt (i:=F.length) U;have b3:=rb F m j ((i:Int)-1) bz;obtain⟨k,Y⟩:=Η F.length;rw[<-Y] at aK bA bB O Z ⊢;refine XB (Υ aK (Υ bB (Υ bA O))) λv e=>?_;refine Ε.c aI (.cons .ex (.cons .ex .nil)) I I ?_;simp[O];(repeat (rw[Ν];simp[O]));apply e;refine Ζ I ?_;refine Γ (Υ Z (Υ V (Υ R bz))) ?_;refine W.to a7 ?_ ?_
    .rw[K,if_pos rfl,b3,<-ai];simp[Pw]
    .rw[K];simp[V,Y]
  .have b4:j=m:=U
   subst b4;have al:¬(j:Int)-1<(D:Int):=U;(repeat (first|apply Ξ|(refine Y9 λv e=>?_;simp;(repeat (rw[Ν];simp[ar.symm,al]));apply e)));refine Ζ I ?_;refine W.exit rfl ?_;refine Γ aj ?_;have ao:=IU (q:=q) (n:=D) (i:=i);rw[<-bx] at ao;refine W.to (o (i+1) U U) (by rw[ao]) (by rw[ao];simp[aj])
 have b5:i=m:=U;subst b5;have aC:¬(i:Int)-1<(D:Int):=U;rw[aJ];clear o;obtain⟨H,ai⟩:=Η (Uo G i);have R:H.length=i:=by rw[ai,HR]
 rw[<-ai] at a3 a4;rw[<-ai];(repeat (first|apply Ξ|(refine Y9 λv e=>?_;simp;(repeat (rw[Ν];simp[ar.symm,aC]));apply e)));refine Ζ I ?_;refine W.exit rfl ?_;refine Τ ?_;refine Ζ I ?_;refine Τ ?_;refine W.iter (λk:Nat=>k<=i) (λk=>[(3,.Θ [ν s.Ι,ξ s.Δ,Z2 s.cells]),(6,J N),(7,SZ ag),(18,J c),(22,.ms 0 i 0 i),(25,J ((H.take k).count true)),(26,J k)]) (λ_=>[.cells 4 1 (H.map Z4)]) (λk=>i-k) 0 (χ _) rfl I (λk Y o=>?_);by_cases b6:k<i
 .have O:(k:Int)<(i:Int):=U
  have Z:=Yt (i:=k) U
  have M:=δ (show k<H.length by omega);obtain⟨b,aL⟩:=Η (H[k]);have am:∀h,H[k]'h=b:=λh=>aL.symm;rw[<-aL] at M;have b7:H.take (k+1)=H.take k++[b]:=by rw[aL];exact We _
  have o:=o (k+1) U U;rw[b7,List.count_append] at o;have b8:(H.take k).count true<=k:=X' List.count_le_length (by simp;omega);obtain⟨t,bg⟩:=Η ((H.take k).count true);rw[<-bg] at o b8 ⊢;have bC:=Yt (i:=t) U;refine Γ (Υ O R) ?_;refine Α I ?_;refine Γ (Υ M (Υ am (Υ R b6))) ?_;cases b with
  | true=>
   refine Α rfl ?_;refine Γ (Υ bC Z) ?_;exact W.to o rfl (by simp[bC,Z])
  | false=>
   refine Ζ rfl ?_;refine Γ Z ?_;exact W.to o rfl (by simp[Z])
 have b9:k=i:=U;subst b9;have O:¬(k:Int)<(k:Int):=U;clear o;rw[U4 U,a4];refine Γ (Υ O R) ?_;refine Ζ I ?_;refine W.exit rfl ?_;obtain⟨t,bg⟩:=Η L.length;rw[<-bg] at a5 ⊢;refine Τ ?_;refine W.iter (λj:Nat=>j<=k) (λj=>[(3,.Θ [ν s.Ι,ξ s.Δ,Z2 s.cells]),(6,J N),(7,SZ ag),(18,J c),(22,.ms 0 k 0 k),(25,J t),(27,J j)]) (λ_=>[.cells 4 1 (H.map Z4)]) (λj=>k-j) 0 (χ _) rfl I (λj aG o=>?_);by_cases an:j<k
 .have al:(j:Int)<(k:Int):=U
  have V:=Yt (i:=j) U
  have av:IntKind.i64.wrap ((j:Int)-1)=(j:Int)-1:=IntWalk.i64_in _ U
  have o:=o (j+1) U U
  have M:=a3 j an
  have hv:=a5 j an;obtain⟨b,aL⟩:=Η (L.contains ((j:Int)-1));rw[<-aL] at M hv;have am:∀h,H[j]'h=b:=λh=>by rw[δ h] at M;exact Xk M
  refine Γ (Υ al R) ?_;refine Α I ?_;refine Τ ?_;cases b with
  | false=>
   simp only[W',if_false] at hv;refine Γ (Υ M (Υ am (Υ R an))) ?_;refine Ζ I ?_;refine Γ (Υ M (Υ am (Υ R an))) ?_;refine Ζ I ?_;refine XB av λv e=>?_;refine Ε.d (hv) (XJ av ?_);apply e;refine Τ ?_;refine Ζ I ?_;refine Γ V ?_;exact W.to o rfl (by simp[V])
  | true=>
   simp only[if_true] at hv;by_cases ae:t=1
   .rw[if_pos ae] at hv;subst ae;refine Γ (Υ M (Υ am (Υ R an))) ?_;refine Α I ?_;refine Τ ?_;refine XB av λv e=>?_;refine Ε.d (hv) (XJ av ?_);apply e;refine Τ ?_;refine Ζ I ?_;refine Γ V ?_;exact W.to o rfl (by simp[V])
   .rw[if_neg ae] at hv;have bD:¬(t:Int)=1:=U;refine Γ (Υ M (Υ am (Υ R (Υ an bD)))) ?_;refine Ζ (by simp[bD]) ?_;refine Γ (Υ M (Υ am (Υ R an))) ?_;refine Α I ?_;refine Τ ?_;refine XB av λv e=>?_;refine Ε.d (hv) (XJ av ?_);apply e;refine Τ ?_;refine Ζ I ?_;refine Γ V ?_;exact W.to o rfl (by simp[V])
 have al:¬(j:Int)<(k:Int):=U;refine Γ (Υ al R) ?_;refine Ζ I ?_;refine W.exit rfl ?_;refine W.cut 0 (χ _) [(3,.Θ [ν s.Ι,ξ s.Δ,Z2 s.cells]),(6,J N),(7,SZ ag),(18,J c)] (χ _) (λid r h=>absurd h (Nat.not_lt_zero _)) (λq B=>by
  simp only[Y6,Ya,or_false] at B;rcases B with rfl|rfl|rfl|rfl<;>exact .low (by simp[Ω.cells,YG])) ?_
 rw[List.take_zero];refine Γ a2 ?_;exact W.to S rfl (by simp[a2])
end Go.TL
