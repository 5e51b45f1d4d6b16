import Derived.Test.YtkndbcflmgogjaaGreatQAM
set_option maxHeartbeats 16000000
set_option maxRecDepth 20000
set_option linter.unusedSectionVars false
set_option linter.unusedSimpArgs false
set_option linter.unusedVariables false
namespace Go.TL
open Go.Proofs.Tryz
open Go.Conc Go.Proofs
variable [Z1]
def yP (N:Nat):Prop:=∀(l:Α),l.length<=N->Μ prog 58 [.ms 0 l.length 0 l.length] [.cells 21 1 (l.map YK)] (λr s=>r=.ε []/\s=[.cells 21 1 ((WM l).map YK)]) (λ_ _=>False)
theorem Dg:yP 12:=λl a=>by
 have h:=nG l.toArray l.length Ω a;rw[EN Go.Sort.swo_ltInt tv l] at h;have e:(λx y:Int=>!Go.Sort.ltInt y x)=λx y=>decide (x<=y):=by
  funext x y;rw[Qd];simp[Go.Sort.ltInt]
 rw[e] at h;exact h
def V8 (s:ByteArray) (i:Nat):Int:=if i<s.size then((s.get! i).toNat:Int) else 0
def Vb (a:Int) (s:ByteArray):Int:=if a<18/\V8 s a.toNat≠0 then V8 s a.toNat else 45
theorem F8 {s:ByteArray} {i:Nat} (h:i<18):(YD s s.size)[i]?=some (YK (V8 s i)):=by simp[YD,h,V8]
def KW (g:ZZ) (b:List (Α)) (a:Int):ByteArray:=spell (Yf (WM ((W5 g b).map (Vb a))))
def Tu (g:ZZ) (b:Int) (P:List (List Z0)) (C:List (Α)) (a:Int):ByteArray×Int:=
 if b≠0 then(⟨#[]⟩,b) else if a<0 then(⟨#[]⟩,1) else if XK g b P C≠0 then(⟨#[]⟩,XK g b P C) else(KW g (YQ g P C) a,0)
section
variable {g:ZZ} {θ:Int} {P:List (List Z0)} {C:List (Α)}
theorem Df (F:UM g θ P C) (a:Int) (N:Nat) (aR:N<2 ^ 20) (an:yP N) (ao:θ=0->(YQ g P C).length<=N):Τ prog 20 [YT g,J a] (.ε [ZP (Tu g θ P C a).1,J (Tu g θ P C a).2]):=by
 have y:=Ji F;refine Μ.body Ο func20 U U ntmps20 U U Ω ?_;refine Φ ?_;refine υ λi b=>?_;refine Τ.d (F.check) (Δ ?_);apply b;refine Φ ?_;by_cases m:θ=0
 case neg=>
  refine Ι (by simp[m]) ?_;refine Φ ?_;have e:Tu g θ P C a=(⟨#[]⟩,θ):=by unfold Tu;rw[if_pos m]
  rw[e];refine W.rt ?_;exact .of U
 refine Κ (by simp[m]) ?_;refine Φ ?_;by_cases o:a<0
 .refine Ι (by simp[o]) ?_;refine Φ ?_;have e:Tu g θ P C a=(⟨#[]⟩,1):=by unfold Tu;rw[if_neg (by simpa using m),if_pos o]
  rw[e];refine W.rt ?_;exact .of U
 refine Κ (by simp[o]) ?_;by_cases t:XK g θ P C=0
 case neg=>
  have e:Tu g θ P C a=(⟨#[]⟩,XK g θ P C):=by unfold Tu;rw[if_neg (by simpa using m),if_neg o,if_pos t]
  rw[e];obtain⟨l,ap,aq,S,ar⟩:=Jg g θ P C;rw[ap] at y;generalize XK g θ P C=au at t y;generalize Wp g θ P C=E at y;refine ZO ?_;refine ZG (A:=[7]) Ο λi b=>Δ ?_;refine Τ.c y (Zw.refl _) Ω (by simpa using ar) ?_;simp
  repeat (rw[Η];simp[aq,S])
  apply b;refine Φ ?_;refine Ι (by simp[t]) ?_;refine Φ ?_;refine W.drop (h:=0) (Ζ _) (Ζ _) Ω U [(4,ZP ⟨#[]⟩),(5,J au)] Ω ?_;refine W.rt ?_;exact .of U
 subst m;have av:=(F' t).2;have aw:TX g 0 P C=VX g P C:=by unfold TX;rw[if_pos U]
 have ax:Wp g 0 P C=YQ g P C:=by unfold Wp;rw[if_pos U]
 rw[aw,ax,t] at y;have e:Tu g 0 P C a=(KW g (YQ g P C) a,0):=by unfold Tu;rw[if_neg Ω,if_neg o,if_neg (by simpa using t)]
 rw[e];have ah:∀f∈YQ g P C,Wa g f:=λf ay=>Jh ay;have ai:=KX g P C (F.XM U);have az:=ao U;generalize YQ g P C=E at av ai y ah az;have aA:=(F.work U).words;refine ZO ?_;refine ZG (A:=[7]) Ο λi b=>Δ ?_;refine Τ.c y (Zw.refl _) Ω Ω ?_;simp;(repeat (rw[Η];simp));apply b;refine Φ ?_;refine Κ Ω ?_;refine υ λi b=>?_;refine Τ.c (Dh (P:=P) (C:=C) aA E ai ah) (Zw.refl _) Ω (by
  have aB:∀s k,∀a∈YD s k,η 0 a:=λs k=>VO s k 0;simp[Ψ.cells];exact λs _=>aB _ _) ?_
 simp;(repeat (rw[Η];simp));apply b;obtain⟨T,H⟩:=Z' (W5 g E);have aS:T.length=E.length:=by rw[H];simp[W5]
 have aj:KW g E a=spell (Yf (WM (T.map (Vb a)))):=by rw[H];rfl
 rw[aj,<-H];clear H aj;refine Φ ?_;have ak:∀e∈T.map Vy,∀a∈e.cells,η 0 a:=λe B a o=>by
  obtain⟨s,_,rfl⟩:=Zh.1 B;exact VO _ _ _ a o
 obtain⟨n,rfl⟩:∃n:Nat,a=n:=⟨a.toNat,I⟩;refine W.cut 0 (Ζ _) [(1,J n),(38,Ym T),(39,J T.length),(40,J 0),(12,.sl true 0 [])] (Ζ _) (λid r h=>I) (λp u=>?_) ?_
 .simp at u;rcases u with rfl|rfl|rfl|rfl|rfl
  .exact .low (by simp[ι])
  .exact .low (.sl ak)
  .exact .low (by simp[ι])
  .exact .low (by simp[ι])
  .exact .low (by simp[ι])
 refine W.pad (σ':=[]) 21 1 U Ω [(1,J n),(38,Ym T),(39,J T.length),(40,J 0),(12,.ms 0 0 0 0)] (λp u=>by
  simp at u;rcases u with rfl|rfl|rfl|rfl|rfl<;>first|exact .same _|exact .nil) ?_
 refine W.iter (λj:Nat=>j<=T.length) (λj=>[(1,J n),(38,Ym T),(39,J T.length),(40,J j),(12,.ms 0 j 0 j)]) (λj=>[.cells 21 1 ((T.map λs=>YK (Vb n s)).take j)]) (λj=>T.length-j) 0 (Ζ _) U Ω (λj aT aC=>?_);refine Φ ?_;by_cases w:j<T.length
 .refine Ι (by simp[w]) ?_
  repeat apply Γ
  obtain⟨s,V⟩:=Z' (T[j]);have aU:(T.map Vy)[j]?=some (Vy s):=by rw[V,Ys,Z4 w];rfl
  have aD:∀h:j<T.length,T[j]=s:=λ_=>V.symm
  have X:=SM s s.size
  have aE:List.take 18 (YD s s.size)=YD s s.size:=Xb (by rw[X];exact ZY _)
  have S:=NC s s.size;refine ZO ?_;refine ZG (A:=[14]) Ο λi b=>W8 (Ξ w (Ξ aD (Ξ X (Ξ aE S)))) ?_;apply b;have K:((T.map λs=>YK (Vb n s)).take j).length=j:=by simp;omega
  have Y:j<=4294967295:=I
  have x:(T.map λs=>YK (Vb n s)).take j++[YK (Vb n s)]=(T.map λs=>YK (Vb n s)).take (j+1):=by
   rw[VW (by simpa using w)];simp[V]
  generalize (T.map λs=>YK (Vb n s)).take j=L at K x ⊢;obtain⟨Z,O⟩:=Z' ((T.map λs=>YK (Vb n s)).take (j+1));rw[<-O] at x;have Q:=aC (j+1) w I;rw[<-O] at Q;have aV:min j T.length=j:=I;refine Φ ?_;have aF:∀e∈Z,∀a∈e.cells,η 1 a:=λe B a o=>by
   rw[O] at B;obtain⟨s,_,rfl⟩:=Zh.1 (Nw B);simp[Ψ.cells] at o;subst o;exact .z _
  have aa:∀(id:Nat) (r:Row),id<1->[Row.cells 21 1 Z,.cells 114 18 [.Z6 (YD s s.size)]][id]?=some r->YR 1 r:=λid r aW t=>by
   obtain rfl:id=0:=I;cases t;exact aF
  have ab:∀(env:Β),ι env 1=J n->ι env 38=Ym T->ι env 39=J T.length->ι env 40=J j->ι env 12=.ms 0 (j+1) 0 (j+1)->∀p∈[(1,J n),(38,Ym T),(39,J T.length),(40,J j),(12,Ψ.ms 0 (j+1) 0 (j+1))],Y0 1 [Row.cells 21 1 Z,.cells 114 18 [.Z6 (YD s s.size)]] (ι env p.1) p.2:=λenv ad R ae aG aH p u=>by
   simp at u;rcases u with rfl|rfl|rfl|rfl|rfl
   .rw[ad];exact .low (.z _)
   .rw[R];exact .low (.sl λe B a o=>(ak e B a o).mono I)
   .rw[ae];exact .low (.z _)
   .rw[aG];exact .low (.z _)
   .rw[aH];exact .low (by simp[SB])
  clear O;by_cases D:(n:Int)<18
  .have al:n<18:=I
   have af:=F8 (s:=s) al;obtain⟨v,hv⟩:=Z' (V8 s n);rw[<-hv] at af;have aI:∀h:n<(YD s s.size).length,(YD s s.size)[n]=YK v:=λh=>by
    rw[Z4 h] at af;exact WU af
   have ag:List.drop n (YD s s.size)=YK v::List.drop (n+1) (YD s s.size):=by
    rw[Ph (by rw[X];exact al),aI]
   by_cases m:v=0
   .have θ:Vb n s=45:=by unfold Vb;rw[if_neg];simp[<-hv,m]
    refine Ze (Ξ D (Ξ ag m)) λi b=>?_;apply b;refine Κ (by simp[m]) ?_;rw[θ] at x;refine ZO ?_;refine ZG (A:=[58]) Ο λi b=>W8 (Ξ K (Ξ Y x)) ?_;apply b;refine W.cut 1 (Ζ _) [(1,J n),(38,Ym T),(39,J T.length),(40,J j),(12,.ms 0 (j+1) 0 (j+1))] Ω aa (ab _ U U U U U) ?_;refine Φ ?_;exact W.to Q U (by simp[Y9 w (show T.length<2 ^ 62 by omega)])
   .have θ:Vb n s=v:=by unfold Vb;rw[if_pos ⟨D,by simp[<-hv,m]⟩];simp[<-hv]
    refine Ze (Ξ D (Ξ ag m)) λi b=>?_;apply b;refine Ι (by simp[m]) ?_;refine Ze (Ξ D ag) λi b=>?_;apply b;rw[θ] at x;refine ZO ?_;refine ZG (A:=[58]) Ο λi b=>W8 (Ξ K (Ξ Y x)) ?_;apply b;refine W.cut 1 (Ζ _) [(1,J n),(38,Ym T),(39,J T.length),(40,J j),(12,.ms 0 (j+1) 0 (j+1))] Ω aa (ab _ U U U U U) ?_;refine Φ ?_;exact W.to Q U (by simp[Y9 w (show T.length<2 ^ 62 by omega)])
  .have θ:Vb n s=45:=by unfold Vb;rw[if_neg (λh=>D h.1)]
   refine Ze D λi b=>?_;apply b;refine Κ U ?_;rw[θ] at x;refine ZO ?_;refine ZG (A:=[58]) Ο λi b=>W8 (Ξ K (Ξ Y x)) ?_;apply b;refine W.cut 1 (Ζ _) [(1,J n),(38,Ym T),(39,J T.length),(40,J j),(12,.ms 0 (j+1) 0 (j+1))] Ω aa (ab _ U U U U U) ?_;refine Φ ?_;exact W.to Q U (by simp[Y9 w (show T.length<2 ^ 62 by omega)])
 .obtain rfl:j=T.length:=I
  refine Κ Ω ?_;refine W.exit U ?_;rw[Xb Ω];have aJ:(T.map λs=>YK (Vb n s))=(T.map (Vb n)).map YK:=by rw[Nq];rfl
  rw[aJ];obtain⟨M,am⟩:=Z' (T.map (Vb n));have aK:T.length=M.length:=by rw[am];simp
  rw[<-am];refine W.to (σ':=[.cells 21 1 (M.map YK)]) (env':=[(12,.ms 0 M.length 0 M.length)]) ?_ U (by simp[aK]);refine υ λi b=>?_;refine Μ.one (an M I) 0 U (PS NB) (PS NB) (by simp[T9]) (by simp[WR]) (by simp[T8]) ?_;simp[X5,V1];(repeat (rw[Η];simp));apply b;refine υ λi b=>?_;have aL:(WM M).length=M.length:=by simp[WM]
  have aM:=nF (WM M) M.length aL I;refine Μ.Bo aM 0 U (PS NB) (by simp[T9]) (by simp[T8]) (λa s ⟨aN,ad,R,ae⟩=>⟨_,ae,PS NB,by subst R;simp[T9],?_⟩);subst R;have aO:(Yf (WM M)).length+aN.length=M.length:=by rw[<-Sm];exact ad
  have aP:(Yf (WM M)).length<=M.length:=I
  have aQ:=tx (Yf (WM M));simp[T8];(repeat (rw[Η];simp[aO,aP,aQ]));apply b;refine Φ ?_;refine W.drop (h:=0) (Ζ _) (Ζ _) Ω U [(4,ZP (spell (Yf (WM M)))),(5,J 0)] Ω ?_;refine W.rt ?_;exact .of U
end
theorem De {s:ByteArray} {n:Nat} (h:n<18):List.drop n (YD s s.size)=YK (V8 s n)::List.drop (n+1) (YD s s.size):=by
 have a:=F8 (s:=s) h
 have b:=SM s s.size;rw[Ph (by rw[b];exact h)];rw[Z4 (by rw[b];exact h)] at a;rw[WU a]
abbrev KV (n:Nat):Ψ:=.fn (.func 138) [] [.Ν [J n]]
abbrev Yqa (n:Nat):Ψ:=.Z6 [J n,KV n]
theorem nE (s:ByteArray) {n:Nat} (b:n<18):Τ prog 138 [Vy s,.Ν [J n]] (YK (V8 s n)):=by
 have hd:=De (s:=s) b
 have c:=SM s s.size
 have d:=NC s s.size
 have e:(n:Int)<18:=I;refine Μ.body Ο func138 U U ntmps138 U U Ω ?_;refine Ze d λf a=>?_;apply a;refine Ze (Ξ hd (Ξ c e)) λf a=>?_;apply a;refine W.rt ?_;exact .of U
theorem nD (m:Nat) (v:m<=18):Τ prog 89 [J m] (.sl false 2 ((List.range m).map Yqa)):=by
 refine Μ.body Ο func89 U U ntmps89 U U Ω ?_;refine Φ ?_;refine W.pad (σ':=[]) 159 2 U Ω [(3,.ms 0 0 0 0),(5,J m),(6,J 0)] (λp b=>by
  simp at b;rcases b with rfl|rfl|rfl<;>first|exact .same _|exact .nil) ?_
 refine W.iter (λj:Nat=>j<=m) (λj=>[(3,.ms 0 j 0 j),(5,J m),(6,J j)]) (λj=>[.cells 159 2 ((List.range j).map Yqa)]) (λj=>m-j) 0 (Ζ _) U Ω (λj w k=>?_);refine Φ ?_;by_cases d:j<m
 .refine Ι (by simp[d]) ?_;refine ZO ?_;refine ZG (A:=[4]) Ο λl f=>Δ ?_;apply f;have n:∀(id:Nat) (r:Row),id<1->[Row.cells 159 2 ((List.range j).map Yqa),.cells 3 1 [J j]][id]?=some r->YR 1 r:=λid r x o=>by
   obtain rfl:id=0:=I;cases o;intro e g a c;obtain⟨i,_,rfl⟩:=Zh.1 g;simp[Ψ.cells] at c;rcases c with rfl|rfl<;>simp
  refine W.fix (id:=1) (σ':=[.cells 159 2 ((List.range j).map Yqa)]) (Ζ _) U Ω n U [(4,.Ν [J j]),(3,.ms 0 j 0 j),(5,J m),(6,J j)] (by simp[SB]) ?_;have y:((List.range j).map Yqa).length=j:=Ω;have s:j<=4294967295:=I;have u:(List.range j).map Yqa++[Yqa j]=(List.range (j+1)).map Yqa:=by rw[Q4,VV];rfl
  refine ZO ?_;refine ZG (A:=[14]) Ο λl f=>W8 s ?_;apply f;rw[u];refine Φ ?_;refine W.to (k (j+1) d I) U (by simp[Y9 d (show m<2 ^ 62 by omega)])
 .obtain rfl:j=m:=I
  refine Κ Ω ?_;refine W.exit U ?_;refine Φ ?_;refine W.cut 0 (Ζ _) [(2,.sl false 2 ((List.range j).map Yqa))] (Ζ _) (λid r h=>I) (λp b=>?_) ?_
  .simp at b;subst b;exact Y0.own (id:=0) (t:=159) (Ζ _) U Ω (λe g a c=>by
    obtain⟨i,_,rfl⟩:=Zh.1 g;simp[Ψ.cells] at c;rcases c with rfl|rfl<;>simp)
  refine W.rt ?_;exact .of U
abbrev Ot (e:Int×Int):Ψ×Ψ:=(YK e.1,J e.2)
theorem nC (k n:Int):∀(m:List Xt) (d:Nat),(WI ξ 21 (YK k) (m.map Ot) d=some none/\WG m k n=m++[(k,IntKind.i64.wrap (0+n))])\/∃i v,i<m.length/\WI ξ 21 (YK k) (m.map Ot) d=some (some (d+i,J v))/\WG m k n=m.set i (k,IntKind.i64.wrap (v+n)):=by
 intro m
 induction m with
 | nil=>intro d;exact .inl ⟨rfl,rfl⟩
 | cons e r g=>
  intro d;have a:aeqv ξ 21 (YK k) (YK e.1)=some (k==e.1):=by simp[aeqv,VH,Uc,Us]
  by_cases h:k=e.1
  .refine .inr ⟨0,e.2,Ω,?_,by simp[WG,h]⟩;simp only[V6,WI,a];simp[h]
  .have c:(k==e.1)=false:=by simpa using h
   rcases g (d+1) with⟨f,b⟩|⟨i,v,f,b,j⟩
   .refine .inl ⟨?_,by simp[WG,h,b]⟩;simp only[V6,WI,a,c,cond_false];exact f
   .refine .inr ⟨i+1,v,by simp;omega,?_,by simp[WG,h,j]⟩;simp only[V6,WI,a,c,cond_false];rw[b];have:d+1+i=d+(i+1):=I;rw[this]
def Q':List Xt->Int->Int
 | [],_=>0
 | e::r,k=>if k=e.1 then e.2 else Q' r k
theorem nB (k n:Int):∀(m:List Xt) (d:Nat),∃i,i<(WG m k n).length/\WI ξ 21 (YK k) ((WG m k n).map Ot) d=some (some (d+i,J (Q' (WG m k n) k))):=by
 intro m
 induction m with
 | nil=>intro d;exact⟨0,by simp[WG],by simp[WG,Q',WI,aeqv,VH,Uc,Us]⟩
 | cons e r a=>
  intro d;have b:aeqv ξ 21 (YK k) (YK e.1)=some (k==e.1):=by simp[aeqv,VH,Uc,Us]
  by_cases h:k=e.1
  .refine⟨0,by simp[WG,h],?_⟩;simp[WG,h,Q',WI,aeqv,VH,Uc,Us]
  .have c:(k==e.1)=false:=by simpa using h
   obtain⟨i,l,f⟩:=a (d+1);refine⟨i+1,by simp[WG,h];omega,?_⟩;have g:WG (e::r) k n=e::WG r k n:=by simp[WG,h]
   have j:Q' (e::WG r k n) k=Q' (WG r k n) k:=by simp[Q',h]
   rw[g,j];simp only[V6,WI,b,c,cond_false];rw[f];have:d+1+i=d+(i+1):=I;rw[this]
def Tt (T:List ByteArray) (i j:Nat):List Xt×Int:=(T.take j).foldl (λx s=>(WG x.1 (V8 s i) 1,max x.2 (Q' (WG x.1 (V8 s i) 1) (V8 s i)))) ([],0)
theorem nA (T:List ByteArray) (i:Nat) {j:Nat} (h:j<T.length):Tt T i (j+1)=(WG (Tt T i j).1 (V8 T[j] i) 1,max (Tt T i j).2 (Q' (WG (Tt T i j).1 (V8 T[j] i) 1) (V8 T[j] i))):=by
 unfold Tt;rw[VW h,Pf];rfl
def SL (T:List ByteArray) (m:Nat):Int×Int:=(List.range m).foldl (λ(x:Int×Int) (i:Nat)=>if(Tt T i T.length).2<x.2 then((i:Int),(Tt T i T.length).2) else x) (0,(T.length:Int))
theorem nz (T:List ByteArray) (m:Nat):SL T (m+1)=if(Tt T m T.length).2<(SL T m).2 then((m:Int),(Tt T m T.length).2) else SL T m:=by
 unfold SL;rw[Q4,Pf];rfl
def Dd (T:List ByteArray):Int×Int×Int:=if(SL T (Tv T)).2=T.length then(0,0,12) else((SL T (Tv T)).1,(SL T (Tv T)).2,0)
def Oq (g:ZZ) (a:Int) (P:List (List Z0)) (C:List (Α)):Int×Int×Int:=
 if XK g a P C≠0 then(0,0,XK g a P C) else Dd (W5 g (YQ g P C))
theorem yO {T:List ByteArray} {n:Nat} (h:∀t∈T,t.size<=n):Tv T<=n:=by
 unfold Tv;have:∀(l:κ) (a:Nat),a<=n->(∀x∈l,x<=n)->l.foldl max a<=n:=by
  intro l
  induction l with
  | nil=>intro a h _;exact h
  | cons x l c=>intro a d b;exact c _ (Nat.max_le.2 ⟨d,b x Ω⟩) λy e=>b y (by simp[e])
 exact this _ 0 I λx f=>by obtain⟨t,g,rfl⟩:=Zh.1 f;exact h t g
section
variable {g:ZZ} {θ:Int} {P:List (List Z0)} {C:List (Α)}
theorem ny (Y:UM g θ P C):Τ prog 37 [YT g] (.ε [J (Oq g θ P C).1,J (Oq g θ P C).2.1,J (Oq g θ P C).2.2]):=by
 have w:=Ji Y;refine Μ.body Ο func37 U U ntmps37 U U Ω ?_;refine Φ ?_;by_cases B:XK g θ P C=0
 case neg=>
  have e:Oq g θ P C=(0,0,XK g θ P C):=by unfold Oq;rw[if_pos B]
  rw[e];obtain⟨l,E,ax,S,K⟩:=Jg g θ P C;rw[E] at w;generalize XK g θ P C=ay at B w;generalize Wp g θ P C=L at w;refine ZO ?_;refine ZG (A:=[5]) Ο λo n=>Δ ?_;refine Τ.c w (Zw.refl _) Ω (by simpa using K) ?_;simp
  repeat (rw[Η];simp[ax,S])
  apply n;refine Φ ?_;refine Ι (by simp[B]) ?_;refine Φ ?_;refine W.drop (h:=0) (Ζ _) (Ζ _) Ω U [(2,J 0),(3,J 0),(4,J ay)] Ω ?_;refine W.rt ?_;exact .of U
 obtain⟨rfl,aj⟩:=F' B;have az:TX g 0 P C=VX g P C:=by unfold TX;rw[if_pos U]
 have aA:Wp g 0 P C=YQ g P C:=by unfold Wp;rw[if_pos U]
 rw[az,aA,B] at w;have e:Oq g 0 P C=Dd (W5 g (YQ g P C)):=by unfold Oq;rw[if_neg (by simpa using B)]
 rw[e];have V:∀f∈YQ g P C,Wa g f:=λf Z=>Jh Z;have aa:=KX g P C (Y.XM U);generalize YQ g P C=L at aj aa w V;have ab:=(Y.work U).words;refine ZO ?_;refine ZG (A:=[5]) Ο λo n=>Δ ?_;refine Τ.c w (Zw.refl _) Ω Ω ?_;simp;(repeat (rw[Η];simp));apply n;refine Φ ?_;refine Κ Ω ?_;have ad:∀t∈W5 g L,t.size<=18:=λt aB=>by
  obtain⟨f,Z,rfl⟩:=Zh.1 aB;exact Jo ab (V f Z)
 refine υ λo n=>?_;refine Τ.c (Dh (P:=P) (C:=C) ab L aa V) (Zw.refl _) Ω (by
  have aC:∀s k,∀a∈YD s k,η 0 a:=λs k=>VO s k 0;simp[Ψ.cells];exact λs _=>aC _ _) ?_
 simp;(repeat (rw[Η];simp));apply n;obtain⟨T,ae⟩:=Z' (W5 g L);have aD:T.length=L.length:=by rw[ae];simp[W5]
 rw[<-ae] at ad ⊢;clear ae;have ak:=yO ad;obtain⟨m,af⟩:=Z' (Tv T);have al:Dd T=if(SL T m).2=T.length then(0,0,12) else((SL T m).1,(SL T m).2,0):=by rw[af];rfl
 rw[al,<-af];rw[<-af] at ak;have am:∀e∈T.map Vy,∀a∈e.cells,η 0 a:=λe N a u=>by
  obtain⟨s,_,rfl⟩:=Zh.1 N;exact VO _ _ _ a u
 refine Φ ?_;refine υ λo n=>?_;refine Τ.d (nD m ak) (Δ ?_);apply n;have an:∀e∈(List.range m).map Yqa,∀a∈e.cells,η 0 a:=λe N a u=>by
  obtain⟨i,_,rfl⟩:=Zh.1 N;simp[Ψ.cells] at u;rcases u with rfl|rfl<;>simp
 refine W.cut 0 (Ζ _) [(2,J 0),(3,J T.length),(7,Ym T),(34,.sl false 2 ((List.range m).map Yqa)),(35,J m),(36,J 0)] (Ζ _) (λid r h=>I) (λp O=>?_) ?_
 .simp at O;rcases O with rfl|rfl|rfl|rfl|rfl|rfl
  .exact .low (by simp[ι])
  .exact .low (by simp[ι])
  .exact .low (.sl am)
  .exact .low (.sl an)
  .exact .low (by simp[ι])
  .exact .low (by simp[ι])
 have aO:T.length<2 ^ 62:=I;clear V w ad aa aj aD ab al;refine Φ ?_;refine W.iter (λi:Nat=>i<=m) (λi=>[(2,J (SL T i).1),(3,J (SL T i).2),(7,Ym T),(34,.sl false 2 ((List.range m).map Yqa)),(35,J m),(36,J i)]) (λi=>[]) (λi=>m-i) 0 (Ζ _) U (by simp[SL,-List.map_map]) (λi hi ao=>?_);refine Φ ?_;by_cases F:i<m
 .refine Ι (by simp[F]) ?_;have aP:((List.range m).map Yqa)[i]?=some (Yqa i):=by simp[F]
  have aE:i<18:=I;refine ZO ?_;refine ZG (A:=[10]) Ο λo n=>W8 F ?_;apply n;obtain⟨a,u⟩:=Z' (SL T i);have Q:=ao (i+1) F I;rw[nz,<-u] at Q;rw[<-u];clear ao u;refine W.fix (id:=0) (σ':=[]) (Ζ _) U Ω Ω U [(10,.Ν [J i,KV i]),(2,J a.1),(3,J a.2),(7,Ym T),(34,.sl false 2 ((List.range m).map Yqa)),(35,J m),(36,J i)] (by simp;exact λx _=>VO _ _ _) ?_;refine Φ ?_;refine W.iter (λj:Nat=>j<=T.length) (λj=>[(10,.Ν [J i,KV i]),(2,J a.1),(3,J a.2),(7,Ym T),(34,.sl false 2 ((List.range m).map Yqa)),(35,J m),(36,J i),(11,.mp 0),(12,J (Tt T i j).2),(41,Ym T),(42,J T.length),(43,J j)])
   (λj=>[.map ((Tt T i j).1.map Ot)]) (λj=>T.length-j) 0 (Ζ _) U (by simp[Tt]) (λj aQ ap=>?_)
  refine Φ ?_;by_cases D:j<T.length
  .refine Ι (by simp[D]) ?_;obtain⟨b,K⟩:=Z' (Tt T i j);have R:=ap (j+1) D I;rw[nA T i D,<-K] at R;rw[<-K];clear ap K;obtain⟨M,H⟩:=b;obtain⟨s,X⟩:=Z' (T[j]);have aR:(T.map Vy)[j]?=some (Vy s):=by rw[X,Ys,Z4 D];rfl
   have aF:∀h:j<T.length,T[j]=s:=λ_=>X.symm
   have ag:=SM s s.size
   have aq:List.take 18 (YD s s.size)=YD s s.size:=Xb (by rw[ag];exact ZY _)
   have S:=NC s s.size;rw[<-X] at R;clear X;refine ZO ?_;refine ZG (A:=[14]) Ο λo n=>W8 (Ξ D (Ξ aF (Ξ ag (Ξ aq S)))) ?_;apply n;have aG:∀(id:Nat) (r:Row),id<1->[Row.map (M.map Ot),.cells 114 18 [.Z6 (YD s s.size)]][id]?=some r->YR 1 r:=λid r aS B=>by
    obtain rfl:id=0:=I;cases B;intro e N;obtain⟨x,_,rfl⟩:=Zh.1 N;simp
   refine W.fix (id:=1) (σ':=[.map (M.map Ot)]) (Ζ _) U (by simp;exact VO _ _ _) aG U [(14,.Ν (YD s s.size)),(10,.Ν [J i,KV i]),(2,J a.1),(3,J a.2),(7,Ym T),(34,.sl false 2 ((List.range m).map Yqa)),(35,J m),(36,J i),(11,.mp 0),(12,J H),(41,Ym T),(42,J T.length),(43,J j)] (by simp[Hv];exact λx _=>VO _ _ _) ?_;refine Φ ?_;have ar:=nE s aE;obtain⟨v,hv⟩:=Z' (V8 s i);rw[<-hv] at ar R;obtain⟨aT,aU,au⟩:=nB v 1 M 0;refine Ze (Ξ ag (Ξ aq S)) λo n=>?_;refine Τ.cc ar (Zw.refl _) (by simp;exact VO _ _ _) Ω ?_;simp;(repeat (rw[Η];simp));apply n;have av:(if H<Q' (WG M v 1) v then Q' (WG M v 1) v else H)=max H (Q' (WG M v 1) v):=by split<;>omega
   rcases nC v 1 M 0 with⟨ah,ai⟩|⟨aV,aW,aX,ah,ai⟩
   ·(repeat apply Γ);refine YF λo n=>?_;simp;(repeat (rw[Η];simp[ah,Us]));apply n;refine W.to (σ':=[.map ((WG M v 1).map Ot)]) (env':=[(15,YK v),(10,.Ν [J i,KV i]),(2,J a.1),(3,J a.2),(7,Ym T),(34,.sl false 2 ((List.range m).map Yqa)),(35,J m),(36,J i),(11,.mp 0),(12,J H),(41,Ym T),(42,J T.length),(43,J j)]) ?_ (by rw[ai];simp) Ω;(repeat apply Γ);refine YF λo n=>?_;simp;(repeat (rw[Η];simp[au,Us]));apply n;rw[av];refine Φ ?_;exact W.to R U (by simp[Y9 D (show T.length<2 ^ 62 by omega)])
   ·(repeat apply Γ);refine YF λo n=>?_;simp;(repeat (rw[Η];simp[ah,Us]));apply n;refine W.to (σ':=[.map ((WG M v 1).map Ot)]) (env':=[(15,YK v),(10,.Ν [J i,KV i]),(2,J a.1),(3,J a.2),(7,Ym T),(34,.sl false 2 ((List.range m).map Yqa)),(35,J m),(36,J i),(11,.mp 0),(12,J H),(41,Ym T),(42,J T.length),(43,J j)]) ?_ (by rw[ai];simp) Ω;(repeat apply Γ);refine YF λo n=>?_;simp;(repeat (rw[Η];simp[au,Us]));apply n;rw[av];refine Φ ?_;exact W.to R U (by simp[Y9 D (show T.length<2 ^ 62 by omega)])
  .obtain rfl:j=T.length:=I
   refine Κ Ω ?_;refine W.exit U ?_;refine Φ ?_;have aw:∀(env:Β) {x y:Ψ},ι env 7=Ym T->ι env 34=.sl false 2 ((List.range m).map Yqa)->ι env 35=J m->ι env 36=J (i+1:Nat)->(∃z,ι env 2=J z/\x=J z)->(∃z,ι env 3=J z/\y=J z)->∀p∈[(2,x),(3,y),(7,Ym T),(34,.sl false 2 ((List.range m).map Yqa)),(35,J m),(36,J (i+1:Nat))],Y0 0 [Row.map ((Tt T i T.length).1.map Ot)] (ι env p.1) p.2:=λenv x y aH aI aJ aK ⟨_,aL,ex⟩ ⟨_,aM,aN⟩ p O=>by
    subst ex aN;simp only[Yd,Vw,or_false] at O;rcases O with rfl|rfl|rfl|rfl|rfl|rfl
    .rw[aL];exact .low (.z _)
    .rw[aM];exact .low (.z _)
    .rw[aH];exact .low (.sl am)
    .rw[aI];exact .low (.sl an)
    .rw[aJ];exact .low (.z _)
    .rw[aK];exact .low (.z _)
   by_cases E:(Tt T i T.length).2<a.2
   .refine Ι (by simp[E]) ?_;rw[if_pos E] at Q;refine Φ ?_;refine W.cut 0 (Ζ _) [(2,J i),(3,J (Tt T i T.length).2),(7,Ym T),(34,.sl false 2 ((List.range m).map Yqa)),(35,J m),(36,J (i+1:Nat))] (Ζ _) (λid r h=>I) (aw _ U U U (by simp[ι,Y9 F (show m<2 ^ 62 by omega)]) ⟨_,U,U⟩ ⟨_,U,U⟩) ?_;exact W.to Q U Ω
   .refine Κ (by simp[E]) ?_;rw[if_neg E] at Q;refine Φ ?_;refine W.cut 0 (Ζ _) [(2,J a.1),(3,J a.2),(7,Ym T),(34,.sl false 2 ((List.range m).map Yqa)),(35,J m),(36,J (i+1:Nat))] (Ζ _) (λid r h=>I) (aw _ U U U (by simp[ι,Y9 F (show m<2 ^ 62 by omega)]) ⟨_,U,U⟩ ⟨_,U,U⟩) ?_;exact W.to Q U Ω
 .obtain rfl:i=m:=I
  refine Κ Ω ?_;refine W.exit U ?_;refine Φ ?_;obtain⟨a,u⟩:=Z' (SL T i);rw[<-u];by_cases h:a.2=T.length
  .refine Ι (by simp[h]) ?_;rw[if_pos h];refine Φ ?_;refine W.rt ?_;exact .of U
  .refine Κ (by simpa using h) ?_;rw[if_neg h];refine Φ ?_;refine W.rt ?_;exact .of U
end
def yN (g:ZZ) (l:Α):Int:=max (max 0 (IntKind.i64.wrap ((UO g l).1-g.UB))) (IntKind.i64.wrap (g.W2-(UO g l).2))
def yM (g:ZZ) (P:List (List Z0)) (C:List (Α)) (l:Α):Bool:=toldOf g P l&&Re g C l&&decide ((UO g l).1<=80)
def Ml (g:ZZ) (P:List (List Z0)) (C:List (Α)) (s:Int) (l:Α):Int:=if yM g P C l=true/\(s<0\/yN g l<s) then yN g l else s
def Q9 (g:ZZ) (P:List (List Z0)) (C:List (Α)):Int:=(UN g.words.length 3 []).foldl (Ml g P C) (-1)
def Po (g:ZZ) (a:Int) (P:List (List Z0)) (C:List (Α)):Int×Int:=if a≠0 then(0,a) else if Q9 g P C<0 then(0,11) else(Q9 g P C,0)
theorem nx (g:ZZ) (P:List (List Z0)) (C:List (Α)) (f:Α):LX .i64 (Uz g P C f) 1=(if toldOf g P f then 0 else 2)+(if Re g C f then 0 else 4):=by
 unfold Uz;cases DG g f<;>cases toldOf g P f<;>cases Re g C f<;>decide
section
variable {g:ZZ} {θ:Int} {P:List (List Z0)} {C:List (Α)}
theorem yL (L:UM g θ P C):Τ prog 9 [YT g] (.ε [J (Po g θ P C).1,J (Po g θ P C).2]):=by
 by_cases ad:θ=0
 case neg=>
  have e:Po g θ P C=(0,θ):=by unfold Po;rw[if_pos ad]
  rw[e];refine Μ.body Ο func9 U U ntmps9 U U Ω ?_;refine Φ ?_;refine υ λj b=>?_;refine Τ.d (L.check) (Δ ?_);apply b;refine Φ ?_;refine Ι (by simp[ad]) ?_;refine Φ ?_;refine W.rt ?_;exact .of U
 subst ad;have e:Po g 0 P C=if Q9 g P C<0 then(0,11) else(Q9 g P C,0):=by unfold Po;rw[if_neg Ω]
 rw[e];clear e;have h:=L.work U;have aE:=L.XM U;refine⟨⟨_,func9,U,U⟩,λak mn x c rest al aF am vs K an aG ae=>?_⟩;obtain rfl:aF=[]:=YZ.1 an.len;rw[T7 (body:=Tryz.f9.body.getD .skip) func9 U];refine V.here (x:=x) (m:=0) (nt:=59) (S:=al) (B:=[]) (H:=am) (σ:=[]) (env:=entry 0 [YT g]) ?_ (XR.enter an aG (ZY _) Ω);refine V.YA K U ?_;simp only[Tryz.f9,Option.getD_some];refine Φ ?_;refine υ λj b=>?_;refine Τ.d (L.check) (Δ ?_);apply b;refine Φ ?_;refine Κ Ω ?_;refine ZO ?_;refine ZG (A:=[5]) Ο λj b=>Δ ?_;refine Τ.d (L.Mo U) (Δ ?_);apply b;refine W.fix (id:=0) (σ':=[]) (Ζ _) U Ω Ω U [(5,.Ν (YC g P C))] Ω ?_;refine ZO ?_;refine ZG (A:=[6]) Ο λj b=>Δ ?_;apply b;refine υ λj b=>?_;refine Τ.d (y9 g P C) (Δ ?_);apply b
 repeat apply Γ
 refine W.forget [(18,.fn (.func 83) [] [.Ν (YC g P C)]),(5,.Ν (YC g P C)),(6,.π 0 1 0 0)] Ω ?_;refine W.stop ?_;intro aW aX aY t1 ao ap;refine μ.y7 (R:=λs:Int=>[Row.cells 3 1 [J s]]) (n0:=1) (s:=-1) (sz:=λ_=>0) (M:=2 ^ 20) (step:=Ml g P C) (env:=[(5,.Ν (YC g P C)),(6,.π 0 1 0 0)]) (env1:=λ_ l=>[(7,ζ J 1 l),(5,.Ν (YC g P C)),(6,.π 0 1 0 0)])
  (λs l=>Ζ _) ?_ K U U (λ_=>rfl) (λs r f=>?_) (λs r f=>?_) (λi=>?_) h.XM Z7 U ap Ω (λs l aq N E af ar au=>?_) (λs l aq N E af ar au=>?_) (λS B H N aH aZ ag aI aJ f ah=>?_)
 .generalize g.words.length=n at aE ⊢;have:n=0\/n=1\/n=2\/n=3\/n=4\/n=5:=I;rcases this with rfl|rfl|rfl|rfl|rfl|rfl<;>decide
 .simp only[Yd,Vw,or_false] at f;subst f;exact⟨_,_,_,U⟩
 .simp only[Yd,Vw,or_false] at f;subst f;simp[YR,Ψ.cells]
 .simp only[ι];split
  .simp
  split
  .simp[TF]
  .exact .Zx
 .refine Φ ?_;exact W.stop ⟨U,U,Ω⟩
 .refine Φ ?_;have av:=DH g P C h.words h.lets h.blank h.Gf h.ZC l af;have o:=DF g P C h l af;have O:=nx g P C l;have t:Ml g P C s l=if(toldOf g P l&&Re g C l&&decide ((UO g l).1<=80))=true/\(s<0\/max (max 0 (IntKind.i64.wrap ((UO g l).1-g.UB))) (IntKind.i64.wrap (g.W2-(UO g l).2))<s) then max (max 0 (IntKind.i64.wrap ((UO g l).1-g.UB))) (IntKind.i64.wrap (g.W2-(UO g l).2)) else s:=rfl
  generalize Ml g P C s l=aK at t ⊢;generalize UO g l=w at av t;generalize Uz g P C l=aw at o O;generalize toldOf g P l=to at O t;generalize Re g C l=ai at O t;obtain⟨w1,Z⟩:=w;refine ZO ?_;refine ZG (A:=[8]) Ο λj b=>Δ ?_;refine Τ.d (av) (Δ ?_);apply b;refine W.fix (id:=3) (σ':=[Row.cells 3 1 [J s],aq,N]) (ZY _) U Ω (λid r aL f=>?_) U [(8,.Ν [J w1,J Z]),(7,ζ J 1 l),(5,.Ν (YC g P C)),(6,.π 0 1 0 0)] (by simp[TF]) ?_
  .match id,aL,f with
   | 0,_,f=>cases f;simp[YR,Ψ.cells]
   | 1,_,f=>cases f;exact ar
   | 2,_,f=>cases f;exact au
  by_cases Q:(to&&ai)=true
  case neg=>
   have aa:¬LX .i64 aw 1=0:=by rw[O];revert Q;cases to<;>cases ai<;>simp
   rw[if_neg (λT=>Q (by have:=T.1;simp only[Wm] at this ⊢;exact this.1))] at t;subst t;refine υ λj b=>?_;refine Τ.d (o) (Δ ?_);simp[aa];(repeat (rw[Η];simp));apply b;refine Ι Ω ?_;refine W.exit U ?_;exact W.stop ⟨U,U⟩
  have aa:LX .i64 aw 1=0:=by rw[O];revert Q;cases to<;>cases ai<;>simp
  by_cases ax:w1<=80
  case neg=>
   rw[if_neg (λT=>ax (by simpa[Q] using T.1))] at t;subst t;have X:80<w1:=I;refine υ λj b=>?_;refine Τ.d (o) (Δ ?_);simp[aa];(repeat (rw[Η];simp[X]));apply b;refine Ι (by simp[X]) ?_;refine W.exit U ?_;exact W.stop ⟨U,U⟩
  have X:¬80<w1:=I
  have D:aK=if s<0\/max (max 0 (IntKind.i64.wrap (w1-g.UB))) (IntKind.i64.wrap (g.W2-Z))<s then max (max 0 (IntKind.i64.wrap (w1-g.UB))) (IntKind.i64.wrap (g.W2-Z)) else s:=by rw[t];simp[Q,ax]
  clear t;refine υ λj b=>?_;refine Τ.d (o) (Δ ?_);simp[aa];(repeat (rw[Η];simp[X]));apply b;refine Κ (by simp[X]) ?_;refine υ λj b=>?_;apply b;generalize IntKind.i64.wrap (w1-g.UB)=u at D ⊢;generalize IntKind.i64.wrap (g.W2-Z)=v at D ⊢;have hv:(if(if 0<u then u else 0)<v then v else if 0<u then u else 0)=max (max 0 u) v:=by split<;>split at *<;>omega
  rw[hv];generalize max (max 0 u) v=z at D ⊢;by_cases Y:s<0
  .rw[if_pos (.inl Y)] at D;subst D;refine Ze Y λj b=>?_;apply b;refine Ι Ω ?_;refine Φ ?_;exact W.stop ⟨U,U⟩
  by_cases E:z<s
  .rw[if_pos (.inr E)] at D;subst D;refine Ze (Ξ Y E) λj b=>?_;apply b;refine Ι (by simp[E]) ?_;refine Φ ?_;exact W.stop ⟨U,U⟩
  .rw[if_neg (λT=>T.elim Y E)] at D;subst D;refine Ze (Ξ Y E) λj b=>?_;apply b;refine Κ (by simp[E]) ?_;refine Φ ?_;exact W.stop ⟨U,U⟩
 .change Holds S B [Row.cells 3 1 [J (Q9 g P C)]] H at ag;change Zg S B [Row.cells 3 1 [J (Q9 g P C)]] _ _ at ah;generalize Q9 g P C=F at ag ah ae;have aM:Ext al [] am S B H:=ao.ext.trans aH;obtain⟨a,o⟩:∃a:Int×Int,a=if F<0 then(0,11) else(F,0):=⟨_,U⟩
  rw[<-o] at ae;refine V.here (m:=0) (nt:=59) (S:=S) (B:=B) (σ:=[Row.cells 3 1 [J F]]) (env:=[(6,.π 0 1 0 0)]) ?_ ⟨ag,RZ ah Ω,ap.size,Ζ _⟩;refine V.YA K U ?_;refine Φ ?_;have ay:∀{k:ZA} {e:Β},ι e 2=J a.1->ι e 3=J a.2->W prog 0 59 (.code .ret::k) e [Row.cells 3 1 [J F]] (V prog ak mn x (χ {Frame.enter prog 9 vs .normal with defers:=⟨.collected N,#[]⟩::(Frame.enter prog 9 vs .normal).defers} #[] []) (c::rest) 59 {S:=S,B:=B,H:=H,σ:=[Row.cells 3 1 [J F]],m:=0}) (ET prog ak mn x (χ {Frame.enter prog 9 vs .normal with defers:=⟨.collected N,#[]⟩::(Frame.enter prog 9 vs .normal).defers} #[] []) (c::rest) {S:=S,B:=B,H:=H,σ:=[Row.cells 3 1 [J F]],m:=0}):=λ{k e} aN aO=>by
   refine W.cut 0 (Ζ _) [(2,J a.1),(3,J a.2)] (Ζ _) (λid r h=>I) (λp az=>?_) ?_
   .simp only[Yd,Vw,or_false] at az;rcases az with rfl|rfl
    .rw[aN];exact .low (.z _)
    .rw[aO];exact .low (.z _)
   refine W.stop ?_;intro a0 aP a1 t5 aA aj;obtain rfl:aP=[]:=YZ.1 aj.holds.len;obtain⟨aQ,aB⟩:=EG aA.ext aJ f;refine μ.ret K U U (μ.collected K U U aB ?_);refine μ.back K U U (.inl U) func9 ?_;refine Χ.mono (λu aR ⟨aS,aT,aU,a2,aC,aV⟩=>?_) (λ_ _ h=>h) _ (MQ Ο (a:=.ε [J a.1,J a.2]) U (aj.holds.Zq (y:=.deferred none) aQ) aj.Zt);obtain rfl:aT=[]:=YZ.1 aC.len;have aD:=((aM.trans aA.ext).Zq (ao.ext.grow _ aI) (y:=.deferred none) ⟨_,aB⟩).trans aU;exact ae.ret _ [] aS [] aR u ⟨.refl _,U⟩ aD ⟨aD.Zf,λid r h=>by simp at h⟩ aC aV
  by_cases ab:F<0
  .rw[if_pos ab] at o;subst o;refine Ι (by simp[ab]) ?_;refine Φ ?_;exact ay U U
  .rw[if_neg ab] at o;subst o;refine Κ (by simp[ab]) ?_;refine Φ ?_;exact ay U U
end
end Go.TL
namespace Go.TL
open Go.Proofs.Tryz
open Go.Proofs
theorem nv {c:Type} [DecidableEq c] {x:c}:∀{l:List c} {a:c},x∈S3 a l\/x=a↔x∈l\/x=a:=by
 intro l
 induction l with
 | nil=>intro a;simp[S3]
 | cons b l d=>
  intro a;unfold S3;split
  .rename_i h;have h:b=a:=by simpa using h
   subst h;rw[d];simp only[Yd];exact⟨λh=>h.elim (λh=>.inl (.inr h)) .inr,λh=>h.elim (λh=>h.elim .inr .inl) .inr⟩
  .have:=d (a:=b);simp only[Yd] at this ⊢;constructor
   .rintro((h|h)|h)
    .exact .inl (.inl h)
    .rcases this.1 (.inl h) with h|h
     .exact .inl (.inr h)
     .exact .inl (.inl h)
    .exact .inr h
   .rintro((h|h)|h)
    .exact .inl (.inl h)
    .rcases this.2 (.inl h) with h|h
     .exact .inl (.inr h)
     .exact .inl (.inl h)
    .exact .inr h
theorem nu {b:Type} [DecidableEq b] {x:b} {l:List b}:x∈Yf l↔x∈l:=by
 cases l with
 | nil=>exact Iff.rfl
 | cons a l=>
  show x∈a::S3 a l↔_
  have:=nv (x:=x) (l:=l) (a:=a);simp only[Yd];constructor
  .rintro(h|h)
   .exact .inl h
   .rcases this.1 (.inl h) with h|h
    .exact .inr h
    .exact .inl h
  .rintro(h|h)
   .exact .inl h
   .rcases this.2 (.inl h) with h|h
    .exact .inr h
    .exact .inl h
theorem ns {x:Int} {l:Α}:x∈WM l↔x∈l:=(Ma _ _).mem_iff
def F7:List (List Z0):=[RU Ov TY Wo,RU [Ow,Wo] TY Wo]
def NA (c:List XC):List (Α):=[VR (VB (Xc c).ZX) 0 false]
theorem yK {c:Type} {l d:List c} (h:∀x,x∈l↔x∈d) (p:c->Bool):l.any p=d.any p:=by
 rw[Qd,Qe,Qe];exact⟨λ⟨x,a,b⟩=>⟨x,(h x).1 a,b⟩,λ⟨x,a,b⟩=>⟨x,(h x).2 a,b⟩⟩
theorem yJ (a:List ByteArray) (l:List Z0):Tw a (l.mergeSort X2)=Tw a l:=by
 unfold Tw;have b:(l.mergeSort X2).length=l.length:=List.length_mergeSort _;have c:∀x,x∈l.mergeSort X2↔x∈l:=λx=>(Ma _ _).mem_iff;have d:(l.mergeSort X2).isEmpty=l.isEmpty:=by rw[Qd,Tp,Tp,<-YZ,b,YZ]
 rw[d,yK c]
theorem nq (g:ZZ) (f:Α):toldOf g Ye f=toldOf g F7 f:=by
 unfold toldOf Ye F7 SQ;simp[yJ]
theorem Dc (g:ZZ) (c:List XC) (f:Α):Re g (Yu c) f=Re g (NA c) f:=by
 unfold Re Yu NA OO;simp only[List.length_cons,List.length_nil,Q4,List.range_zero,List.nil_append,List.all_cons,List.all_nil,Bool.and_true,List.getElem?_cons_zero,Option.getD_some,V5];rw[yK λx=>nu.trans ns]
theorem Jf (g:ZZ) (c:List XC) (f:Α):Uz g Ye (Yu c) f=Uz g F7 (NA c) f:=by
 unfold Uz;rw[nq,Dc]
theorem yI (g:ZZ) (c:List XC):YQ g Ye (Yu c)=YQ g F7 (NA c):=by
 unfold YQ;simp only[Jf]
theorem Sr:YQ Y1 Ye (Yu [])=[[0,1],[2,3]]:=by rw[yI];decide +kernel
theorem Nz:YQ Uy Ye (Yu [⟨0,9,0⟩])=[[2,3]]:=by rw[yI];decide +kernel
theorem np:Uz Y1 Ye (Yu []) [3,2]=6:=by rw[Jf];decide +kernel
theorem nn:Pp Uy 0 Ye (Yu [⟨0,9,0⟩])=(⟨#[115,97,119,32,116,104,101]⟩,0):=by
 have h:XK Uy 0 Ye (Yu [⟨0,9,0⟩])=0:=by unfold XK;rw[Nz];decide
 unfold Pp;rw[if_neg (by rw[h];simp),Nz];decide +kernel
theorem Mk:XK Y1 0 Ye (Yu [])=0:=by unfold XK;rw[Sr];decide
theorem nm:Oq Y1 0 Ye (Yu [])=(0,1,0):=by
 unfold Oq;rw[if_neg (by rw[Mk];simp),Sr];decide +kernel
theorem nk:Tu Y1 0 Ye (Yu []) 4=(⟨#[45,104]⟩,0):=by
 unfold Tu;rw[if_neg Ω,if_neg Z7,if_neg (by rw[Mk];simp),Sr];have e:(W5 Y1 [[0,1],[2,3]]).map (Vb 4)=[45,104]:=by decide +kernel
 have a:WM [45,104]=[45,104]:=F0 Z7;unfold KW;rw[e,a];decide +kernel
theorem yH (g:ZZ) (a b:ByteArray) (L:List (List ByteArray)) (f:Α):toldOf g (VP a b L) f=toldOf g (KZ a b L) f:=by
 have c:∀l,Tw (WA g f) (SQ l a b)=Tw (WA g f) (RU l a b):=λl=>yJ _ _;unfold toldOf VP KZ;rw[List.all_map,List.all_map];congr 1
 funext l
 exact c l
theorem nj (g:ZZ) (c:List XC) (a b:ByteArray) (L:List (List ByteArray)) (f:Α):Uz g (VP a b L) (Yu c) f=Uz g (KZ a b L) (NA c) f:=by
 unfold Uz;rw[yH,Dc]
theorem KU (g:ZZ) (c:List XC) (a b:ByteArray) (L:List (List ByteArray)):YQ g (VP a b L) (Yu c)=YQ g (KZ a b L) (NA c):=by
 unfold YQ;simp only[nj]
theorem F6 (a b:ByteArray) (L:List (List ByteArray)) (i:Nat):(VP a b L).eraseIdx i=VP a b (L.eraseIdx i):=G9 _ _ _
theorem yG (g:ZZ) (c:List XC) (a b:ByteArray) (L:List (List ByteArray)):Q9 g (VP a b L) (Yu c)=Q9 g (KZ a b L) (NA c):=by
 have e:Ml g (VP a b L) (Yu c)=Ml g (KZ a b L) (NA c):=by
  funext s l
  unfold Ml yM;rw[yH,Dc]
 unfold Q9;rw[e]
end Go.TL
namespace Go.TL
open Go.Proofs.Tryz
open Go.Proofs
variable [Z1]
section
variable {g:ZZ} {θ:Int} {P:List (List Z0)} {C:List (Α)}
def Q8 (a:List (Α)) (w:Int):Nat:=(a.filter λf=>decide (w∈f)).length
def Db (a:List (Α)) (w:Int):Int:=if Q8 a w=0 then 2 else if Q8 a w=a.length then 1 else 3
def Sq (g:ZZ) (θ:Int) (P:List (List Z0)) (C:List (Α)) (w:Int):Int×Int:=if θ≠0 then(0,θ) else if w<0\/w>=g.words.length then(0,3) else if XK g θ P C≠0 then(0,XK g θ P C) else(Db (YQ g P C) w,0)
theorem ni (a:List (Α)) (w:Int) {j:Nat} (h:j<a.length):Q8 (a.take (j+1)) w=Q8 (a.take j) w+if w∈a[j] then 1 else 0:=by
 unfold Q8;rw[VW h,IV,Sm];congr 1;by_cases b:w∈a[j]<;>simp[b]
theorem nh (a:List (Α)) (w:Int):Q8 a w<=a.length:=Mc _ _
theorem yF (t:UM g θ P C) (w:Int):Τ prog 19 [YT g,J w] (.ε [J (Sq g θ P C w).1,J (Sq g θ P C w).2]):=by
 have m:=Ji t;refine Μ.body Ο func19 U U ntmps19 U U Ω ?_;refine Φ ?_;refine υ λi b=>?_;refine Τ.d (t.check) (Δ ?_);apply b;refine Φ ?_;by_cases n:θ=0
 case neg=>
  refine Ι (by simp[n]) ?_;refine Φ ?_;have e:Sq g θ P C w=(0,θ):=by unfold Sq;rw[if_pos n]
  rw[e];refine W.rt ?_;exact .of U
 refine Κ (by simp[n]) ?_;by_cases u:w<0\/w>=g.words.length
 .have e:Sq g θ P C w=(0,3):=by unfold Sq;rw[if_neg (by simpa using n),if_pos u]
  rw[e];by_cases r:w<0
  .refine Ze r λi b=>?_;apply b;refine Ι U ?_;refine Φ ?_;refine W.rt ?_;exact .of U
  .have v:(g.words.length:Int)<=w:=I
   refine Ze (Ξ r v) λi b=>?_;apply b;refine Ι U ?_;refine Φ ?_;refine W.rt ?_;exact .of U
 have r:¬w<0:=I
 have v:¬(g.words.length:Int)<=w:=I;refine Ze (Ξ r v) λi b=>?_;apply b;refine Κ U ?_;by_cases o:XK g θ P C=0
 case neg=>
  have e:Sq g θ P C w=(0,XK g θ P C):=by unfold Sq;rw[if_neg (by simpa using n),if_neg u,if_pos o]
  rw[e];obtain⟨l,D,E,F,H⟩:=Jg g θ P C;rw[D] at m;generalize XK g θ P C=K at o m;generalize Wp g θ P C=a at m;refine ZO ?_;refine ZG (A:=[7]) Ο λi b=>Δ ?_;refine Τ.c m (Zw.refl _) Ω (by simpa using H) ?_;simp
  repeat (rw[Η];simp[E,F])
  apply b;refine Φ ?_;refine Ι (by simp[o]) ?_;refine Φ ?_;refine W.drop (h:=0) (Ζ _) (Ζ _) Ω U [(4,J 0),(5,J K)] Ω ?_;refine W.rt ?_;exact .of U
 subst n;have L:TX g 0 P C=VX g P C:=by unfold TX;rw[if_pos U]
 have M:Wp g 0 P C=YQ g P C:=by unfold Wp;rw[if_pos U]
 rw[L,M,o] at m;have e:Sq g 0 P C w=(Db (YQ g P C) w,0):=by unfold Sq;rw[if_neg Ω,if_neg u,if_neg (by simpa using o)]
 rw[e];have x:∀f∈YQ g P C,Wa g f:=λf N=>Jh N;have O:=KX g P C (t.XM U);generalize YQ g P C=a at O m x;refine ZO ?_;refine ZG (A:=[7]) Ο λi b=>Δ ?_;refine Τ.c m (Zw.refl _) Ω Ω ?_;simp;(repeat (rw[Η];simp));apply b;refine Φ ?_;refine Κ Ω ?_;refine Φ ?_;refine W.drop (h:=0) (Ζ _) (Ζ _) Ω U [(8,Ya a),(1,J w),(10,J 0),(36,Ya a),(37,J a.length),(38,J 0)] Ω ?_;refine W.iter (λj:Nat=>j<=a.length) (λj=>[(8,Ya a),(1,J w),(10,J (Q8 (a.take j) w)),(36,Ya a),(37,J a.length),(38,J j)]) (λ_=>[]) (λj=>a.length-j) 0 (Ζ _) U (by simp[Q8]) (λj S B=>?_);refine Φ ?_;by_cases k:j<a.length
 .refine Ι (by simp[k]) ?_;have T:=(x a[j] (Yq k)).XM;have p:=ni a w k;have Q:=nh (a.take j) w;have V:(a.take j).length<=156:=by simp;omega
  obtain⟨c,R⟩:=Z' (Q8 (a.take j) w);rw[<-R] at p Q ⊢;refine Z9 k ?_;refine υ λi b=>?_;refine Τ.d (EU a[j] w I) (Δ ?_);apply b;by_cases s:w∈a[j]
  .rw[if_pos s] at p;refine Ι (by simp[s]) ?_;refine Φ ?_;refine W.to (B (j+1) k I) U (by simp[p,Y9 k (show a.length<2 ^ 62 by omega),Y9 (show c<1000 by omega) (show 1000<2 ^ 62 by omega)])
  .rw[if_neg s] at p;refine Κ (by simp[s]) ?_;refine Φ ?_;refine W.to (B (j+1) k I) U (by simp[p,Y9 k (show a.length<2 ^ 62 by omega)])
 .obtain rfl:j=a.length:=I
  refine Κ Ω ?_;refine W.exit U ?_;rw[Nu];have hv:Db a w=if Q8 a w=0 then 2 else if Q8 a w=a.length then 1 else 3:=rfl
  rw[hv];generalize Q8 a w=c;by_cases z:c=0
  .rw[if_pos z];refine Ze z λi b=>?_;apply b
   repeat apply Γ
   refine Ze z λi b=>?_;apply b;refine Ι (by simp[z]) ?_;refine Φ ?_;refine W.rt ?_;exact .of U
  .rw[if_neg z];refine Ze z λi b=>?_;apply b
   repeat apply Γ
   refine Ze z λi b=>?_;apply b;refine Κ (by simp[z]) ?_;by_cases y:c=a.length
   .rw[if_pos y];refine Ze y λi b=>?_;apply b;refine Ι (by simp[y]) ?_;refine Φ ?_;refine W.rt ?_;exact .of U
   .rw[if_neg y];refine Ze y λi b=>?_;apply b;refine Κ (by simp[y]) ?_;refine Φ ?_;refine W.rt ?_;exact .of U
end
end Go.TL
namespace Go.TL
open Go.Proofs.Tryz
open Go.Conc
variable [Z1]
theorem W.ng {P:Program} {m nt:Nat} {k:ZA} {env:Β} {σ:Ρ} {Z:XD} {E:Yb} {id kk:Nat} {t:TypeId} {l:ψ} (c:ψ) (d:σ[id]?=some (.cells t kk l)) (f:c.length=l.length)
  (V:∀(i:Nat) (a b:Ψ),l[i]?=some a->c[i]?=some b->Zw a.cells b.cells) (X:W P m nt k env (σ.set id (.cells t kk c)) Z E):W P m nt k env σ Z E:=by
 intro Y mn x cs b S B H ξ aa ab g ad ae;have n:=g.holds;obtain⟨bo,J⟩:=Ue n d;obtain⟨af,ag,K⟩:=n.Sc (H':=H) (r':=.cells t kk c) (bo':=bo) d trivial J (.inl ⟨c,U,f,U⟩) (λb N e=>.inl ⟨N,e⟩) (λb _ _=>⟨λ_=>rfl,U,U⟩) (λ_ h=>h) (M6 n d) (λah=>by
  have L:=n.row id _ bo d J;cases bo with
  | none=>
   have:l=[]:=L;subst this;exact YZ.1 f
  | some y=>
   obtain⟨b,N⟩:=y;obtain⟨ai,aj,ak,w,al⟩:=L;refine⟨ai,by rw[f];exact aj,ak,w,λi e hi=>?_⟩;have am:i<l.length:=by rw[<-f];exact(ZR.1 hi).1
   have M:=Z4 am;obtain⟨O,an⟩:=V i _ _ M hi;obtain⟨w1,ao⟩:=al i _ M;refine⟨O.symm.trans w1,λj a Q=>?_⟩;have ap:j<l[i].cells.length:=by rw[O];exact(ZR.1 Q).1
   have R:=Z4 ap;obtain⟨aq,ar,au⟩:=ao j _ R;exact⟨aq,Θ.later ah (an j _ _ R Q S B σ _ ar),au⟩)
 have T:Xw m S B H σ S (B.set id bo) H (σ.set id (.cells t kk c)):=⟨ag,K.left m⟩;refine X Y mn x cs b _ _ H ξ aa ab ⟨af,λi=>(g.Zt i).later K,g.size,by rw[List.length_set];exact g.rows⟩ (λj o p r s u t2 A C D F I=>?_) (λa o p r s u t2 A v C D F I av=>?_)
 .exact ad j o p r s u t2 A C (T.trans D) F I
 .exact ae a o p r s u t2 A v C (T.trans D) F I av
end Go.TL
namespace Go.TL
open Go.Proofs.Tryz
open Go.Conc Go.Proofs
variable [Z1]
def Mj (a b:ByteArray) (c:Α):Bool:=c.any λn=>decide (V8 a n.toNat≠V8 b n.toNat)
def F5 (T:List ByteArray) (i:Nat) (x:ByteArray) (a:Α):Bool:=(T.take i).all λb=>Mj x b a
def Mi (T:List ByteArray) (a:Α):Bool:=(List.range T.length).all λi=>F5 T i ((T[i]?).getD ⟨#[]⟩) a
theorem nf {T:List ByteArray} {a:Α} {i j:Nat} (d:j<i) (hi:i<T.length) (h:∀n∈a,V8 T[i] n.toNat=V8 (T[j]'I) n.toNat):Mi T a=false:=by
 have b:F5 T i T[i] a=false:=by
  unfold F5;rw[IS];refine⟨T[j],?_,?_⟩
  .rw[I8];exact⟨j,I,U⟩
  .have:Mj T[i] T[j] a=false:=by
    unfold Mj;rw[KL];intro n c;simp[h n c]
   simp[this]
 unfold Mi;rw[IS];exact⟨i,VN.2 hi,by rw[Z4 hi];simp[b]⟩
theorem nd {T:List ByteArray} {a:Α} (h:∀i (hi:i<T.length),∀j (c:j<i),Mj T[i] (T[j]'I) a=true):Mi T a=true:=by
 unfold Mi;rw[XJ];intro i hi;have hi:=VN.1 hi;rw[Z4 hi];unfold F5;rw[XJ];intro b d;obtain⟨j,c,rfl⟩:=I8.1 d;exact h i hi j I
theorem nc (T:List ByteArray) (b:Α) (al:T.length<2 ^ 40) (L:b.length<2 ^ 40) (C:∀n∈b,0<=n/\n<18):Τ prog 63 [Ym T,ζ J 1 b] (ZV (Mi T b)):=by
 refine Μ.body Ο func63 U U ntmps63 U U Ω ?_;refine Φ ?_;refine W.iter (λi:Nat=>i<=T.length/\∀c (t:c<T.length),c<i->∀j (l:j<c),Mj T[c] (T[j]'I) b=true) (λi=>[(0,Ym T),(1,ζ J 1 b),(11,Ym T),(12,J T.length),(13,J i)]) (λ_=>[]) (λi=>T.length-i) 0 ⟨Ζ _,λc _ h=>I⟩ U Ω (λi hi R=>?_);obtain⟨hi,M⟩:=hi;refine Φ ?_;by_cases o:i<T.length
 .refine Ι (by simp[o]) ?_;obtain⟨s,w⟩:=Z' (T[i]);have am:(T.map Vy)[i]?=some (Vy s):=by rw[w,Ys,Z4 o];rfl
  have S:∀h:i<T.length,T[i]=s:=λ_=>w.symm
  have D:=SM s s.size
  have V:List.take 18 (YD s s.size)=YD s s.size:=Xb (by rw[D];exact ZY _)
  have X:=NC s s.size
  have an:∀i,∀e∈(T.take i).map Vy,∀a∈e.cells,η 0 a:=λi e Y a L=>by
   obtain⟨s,_,rfl⟩:=Zh.1 Y;exact VO _ _ _ a L
  refine ZO ?_;refine ZG (A:=[6]) Ο λB f=>W8 (Ξ o (Ξ S (Ξ D (Ξ V X)))) ?_;apply f;refine W.fix (id:=0) (σ':=[]) (Ζ _) U (by simp;exact VO _ _ _) Ω U [(6,.Ν (YD s s.size)),(5,J i),(0,Ym T),(1,ζ J 1 b),(11,Ym T),(12,J T.length),(13,J i)] (by simp;exact λx _=>VO _ _ _) ?_
  repeat (first|refine W.label ?_|refine W.scope ?_|apply Γ)
  have ao:min i T.length=i:=I;refine Ze hi λB f=>?_;apply f
  repeat apply Γ
  have Z:((T.take i).map Vy).length=i:=by simp;omega
  refine W.iter (λj:Nat=>j<=i/\∀g (l:g<j) (u:g<T.length),Mj s T[g] b=true) (λj=>[(20,.sl false 18 ((T.take i).map Vy)),(21,J i),(22,J j),(6,.Ν (YD s s.size)),(5,J i),(0,Ym T),(1,ζ J 1 b),(11,Ym T),(12,J T.length),(13,J i)]) (λ_=>[]) (λj=>i-j) 0 ⟨Ζ _,λg h=>I⟩ U Ω (λj l aa=>?_);obtain⟨l,N⟩:=l;refine Φ ?_;by_cases v:j<i
  .refine Ι (by simp[v]) ?_;have ab:j<T.length:=I;obtain⟨y,E⟩:=Z' (T[j]);have ad:∀h:j<T.length,T[j]=y:=λ_=>E.symm;have F:=SM y y.size;have ae:List.take 18 (YD y y.size)=YD y y.size:=Xb (by rw[F];exact ZY _);have af:=NC y y.size;refine ZO ?_;refine ZG (A:=[8]) Ο λB f=>W8 (Ξ v (Ξ Z (Ξ ab (Ξ ad (Ξ F (Ξ ae af)))))) ?_;refine⟨I,?_⟩;apply f;refine W.fix (id:=0) (σ':=[]) (Ζ _) U (by simp;exact VO _ _ _) Ω U [(8,.Ν (YD y y.size)),(20,.sl false 18 ((T.take i).map Vy)),(21,J i),(22,J j),(6,.Ν (YD s s.size)),(5,J i),(0,Ym T),(1,ζ J 1 b),(11,Ym T),(12,J T.length),(13,J i)] (by
    simp;refine⟨?_,?_,?_⟩<;>intro x ag<;>first|exact VO _ _ _ _ ag|exact VO _ _ _) ?_
   refine υ λB f=>?_;apply f
   repeat apply Γ
   refine W.iter (λk:Nat=>k<=b.length/\∀d (p:d<k) (u:d<b.length),V8 s b[d].toNat=V8 y b[d].toNat) (λk=>[(26,ζ J 1 b),(27,J b.length),(28,J k),(8,.Ν (YD y y.size)),(20,.sl false 18 ((T.take i).map Vy)),(21,J i),(22,J j),(6,.Ν (YD s s.size)),(5,J i),(0,Ym T),(1,ζ J 1 b),(11,Ym T),(12,J T.length),(13,J i)]) (λ_=>[]) (λk=>b.length-k) 0 ⟨Ζ _,λd h=>I⟩ U Ω (λk p ah=>?_);obtain⟨p,O⟩:=p;refine Φ ?_;by_cases r:k<b.length
   .refine Ι (by simp[r]) ?_;obtain⟨n,P⟩:=Z' (b[k]);have ai:=C b[k] (Yq r);rw[<-P] at ai;obtain⟨m,rfl⟩:∃m:Nat,n=m:=⟨n.toNat,I⟩;have Q:m<18:=I;have H:∀h:k<b.length,b[k]=(m:Int):=λ_=>P.symm;have hd:=De (s:=s) Q;have aj:=De (s:=y) Q;have ak:(m:Int)<18:=I;refine Ze (Ξ r H) λB f=>?_;apply f
    repeat apply Γ
    refine WX (Ξ hd (Ξ aj (Ξ D (Ξ F ak)))) ?_;by_cases hv:V8 s m=V8 y m
    .refine Κ (by simp[hv]) ?_;refine Φ ?_;refine W.to (ah (k+1) ⟨r,λd K u=>?_⟩ I) U (by simp[Y9 r (show b.length<2 ^ 62 by omega)]);by_cases e:d=k
     .subst e;rw[H];exact hv
     .exact O d I u
    .refine Ι (by simp[hv]) ?_;refine W.exit U ?_;refine Φ ?_;refine W.to (aa (j+1) ⟨v,λg ap u=>?_⟩ I) U (by simp[Y9 v (show i<2 ^ 62 by omega)]);by_cases e:g=j
     .subst e;rw[<-E];unfold Mj;rw[Qe];exact⟨b[k],Yq r,by rw[H];simpa using hv⟩
     .exact N g I u
   .obtain rfl:k=b.length:=I
    refine Κ Ω ?_;refine W.exit U ?_;refine Φ ?_;rw[nf v o λn C=>?_]
    .refine W.rt ?_;exact .of U
    .obtain⟨d,K,rfl⟩:=Om C;rw[<-w,<-E];exact O d K K
  .obtain rfl:j=i:=I
   refine Κ Ω ?_;refine W.exit U ?_
   repeat (first|refine W.inScope ?_|first|apply Γ)
   refine Φ ?_;refine W.to (R (j+1) ⟨o,λc t h k p=>?_⟩ I) U (by simp[Y9 o (show T.length<2 ^ 62 by omega)]);by_cases e:c=j
   .subst e;rw[<-w];exact N k p _
   .exact M c t I k p
 .obtain rfl:i=T.length:=I
  refine Κ Ω ?_;refine W.exit U ?_;refine Φ ?_;rw[nd λc t j l=>M c t t j l];refine W.rt ?_;exact .of U
def Mh (s t:ByteArray):Bool:=(List.range 18).all λi=>decide (V8 s i=V8 t i)
theorem nb (f g:Nat->Int) (b c:ψ):∀a:κ,(∀o∈a,b[o]?=some (YK (f o))/\c[o]?=some (YK (g o)))->VH (a.map λo=>(TypeDesc.int .i32,o)) b c=some (a.all λo=>decide (f o=g o)):=by
 intro a
 induction a with
 | nil=>intro _;rfl
 | cons o a d=>
  intro h;obtain⟨i,j⟩:=h o Ω;have e:(f o==g o)=decide (f o=g o):=by rw[Qd];simp
  simp only[V6,VH,i,j,d λo k=>h o (by simp[k]),Uc,if_true,List.all_cons,e]
theorem na (s t:ByteArray):aeqv ξ 114 (Vy s) (Vy t)=some (Mh s t):=by
 have h:=nb (V8 s) (V8 t) (YD s s.size) (YD t t.size) (List.range 18) λo a=>by
  have a:=VN.1 a;exact⟨F8 a,F8 a⟩
 unfold aeqv;rw[t114];simp only[SM];exact h
def KT (T:List ByteArray):Bool:=(List.range T.length).any λi=>(T.take i).any λb=>Mh ((T[i]?).getD ⟨#[]⟩) b
def Pn (l:Α):Int:=match l.getLast? with|some n=>n+1|none=>0
def Uw (l:Α):Int->Nat->List (Α)
 | _,0=>[]
 | i,n+1=>(l++[i])::Uw l (i+1) n
def Je (m:Nat) (l:Α):List (Α):=Uw l (Pn l) ((m:Int)-Pn l).toNat
theorem m' (l:Α):∀(n:Nat) (i:Int),Uw l i (n+1)=Uw l i n++[l++[i+n]]:=by
 intro n
 induction n with
 | zero=>intro i;simp[Uw]
 | succ n a=>
  intro i;rw[Uw,a (i+1),Uw];have:i+1+(n:Int)=i+((n+1:Nat):Int):=I;rw[this];rfl
theorem yE (l:Α):∀(n:Nat) (i:Int),(Uw l i n).length=n:=by
 intro n
 induction n with
 | zero=>intro i;rfl
 | succ n a=>intro i;simp[Uw,a]
theorem m9 (l:Α):∀(n:Nat) (i:Int) (x:Α),x∈Uw l i n->∃y,x=l++[y]/\i<=y/\y<i+n:=by
 intro n
 induction n with
 | zero=>intro i x h;cases h
 | succ n a=>
  intro i x h;rcases Yd.1 h with rfl|h
  .exact⟨i,U,I,I⟩
  .obtain⟨y,b,c,d⟩:=a _ _ h;exact⟨y,b,I,I⟩
def Jd (T:List ByteArray) (m:Nat):Nat->List (Α)->Nat->Option (Α×Int)
 | 0,_,_=>none
 | f+1,q,n=>match q[n]? with
  | none=>some ([],12)
  | some l=>if Mi T l then some (l,0) else Jd T m f (q++Je m l) (n+1)
structure Da (T:List ByteArray) (r:Α×Int):Prop where
 dup:KT T=true->r=([],12)
 run:KT T=false->∃f,f<=2 ^ 20/\Jd T (Tv T) f [[]] 0=some r
def KS (m n:Nat) (l:Α):Prop:=l.length<=n/\∀y∈l,0<=y/\y<m
theorem KS.from {m n:Nat} {l:Α} (h:KS m n l):0<=Pn l/\Pn l<=m:=by
 unfold Pn;split
 .rename_i x a;have:=h.2 x (List.mem_of_getLast? a);omega
 .omega
theorem KS.QX {m n:Nat} {l:Α} (h:KS m n l) {x:Α} {i:Int} {k:Nat} (c:0<=i) (d:i+k<=m) (b:x∈Uw l i k):KS m (n+1) x:=by
 obtain⟨y,rfl,e,f⟩:=m9 l k i x b;refine⟨by simp;exact h.1,λz a=>?_⟩;rcases Uv.1 a with a|a
 .exact h.2 z a
 .obtain rfl:=Ol.1 a;omega
theorem m8 {T:List ByteArray} {i j:Nat} (a:j<i) (hi:i<T.length) (h:Mh T[i] (T[j]'I)=true):KT T=true:=by
 unfold KT;rw[Qe];refine⟨i,VN.2 hi,?_⟩;rw[Z4 hi,Qe];exact⟨T[j],I8.2 ⟨j,I,U⟩,h⟩
theorem m7 {T:List ByteArray} (h:∀i (hi:i<T.length),∀j (a:j<i),Mh T[i] (T[j]'I)=false):KT T=false:=by
 unfold KT;rw[KL];intro i hi;have hi:=VN.1 hi;rw[Z4 hi,Bool.not_eq_true,KL];intro b c;obtain⟨j,a,rfl⟩:=I8.1 c;simp[h i hi j I]
section
variable {g:ZZ} {θ:Int} {P:List (List Z0)} {C:List (Α)}
def Ny (g:ZZ) (θ:Int) (P:List (List Z0)) (C:List (Α)) (r:Α×Int):Α×Int:=if XK g θ P C≠0 then([],XK g θ P C) else r
theorem yD (af:UM g θ P C) (r:Α×Int) (o:θ=0->Da (W5 g (YQ g P C)) r):Τ prog 25 [YT g] (.ε [ζ J 1 (Ny g θ P C r).1,J (Ny g θ P C r).2]):=by
 have D:=Ji af;refine Μ.body Ο func25 U U ntmps25 U U Ω ?_;refine Φ ?_;by_cases O:XK g θ P C=0
 case neg=>
  have e:Ny g θ P C r=([],XK g θ P C):=by unfold Ny;rw[if_pos O]
  rw[e];obtain⟨l,w,aL,X,aM⟩:=Jg g θ P C;rw[w] at D;generalize XK g θ P C=aN at O D;generalize Wp g θ P C=R at D;refine ZO ?_;refine ZG (A:=[4]) Ο λu d=>Δ ?_;refine Τ.c D (Zw.refl _) Ω (by simpa using aM) ?_;simp
  repeat (rw[Η];simp[aL,X])
  apply d;refine Φ ?_;refine Ι (by simp[O]) ?_;refine Φ ?_;refine W.drop (h:=0) (Ζ _) (Ζ _) Ω U [(2,.sl true 0 []),(3,J aN)] Ω ?_;exact W.ret ⟨_,U,.ε (.cons .nil (.cons (.refl _) .nil)),U⟩
 obtain⟨rfl,av⟩:=F' O;have o:=o U;have aO:TX g 0 P C=VX g P C:=by unfold TX;rw[if_pos U]
 have aP:Wp g 0 P C=YQ g P C:=by unfold Wp;rw[if_pos U]
 rw[aO,aP,O] at D;have e:Ny g 0 P C r=r:=by unfold Ny;rw[if_neg (by simpa using O)]
 rw[e];have Y:∀f∈YQ g P C,Wa g f:=λf ag=>Jh ag;have ah:=KX g P C (af.XM U);generalize YQ g P C=R at av ah D Y o;have aw:=(af.work U).words;refine ZO ?_;refine ZG (A:=[4]) Ο λu d=>Δ ?_;refine Τ.c D (Zw.refl _) Ω Ω ?_;simp;(repeat (rw[Η];simp));apply d;refine Φ ?_;refine Κ Ω ?_;have ai:∀t∈W5 g R,t.size<=18:=λt Q=>by
  obtain⟨f,ag,rfl⟩:=Zh.1 Q;exact Jo aw (Y f ag)
 refine υ λu d=>?_;refine Τ.c (Dh (P:=P) (C:=C) aw R ah Y) (Zw.refl _) Ω (by
  have aQ:∀s k,∀a∈YD s k,η 0 a:=λs k=>VO s k 0;simp[Ψ.cells];exact λs _=>aQ _ _) ?_
 simp;(repeat (rw[Η];simp));apply d;obtain⟨T,aj⟩:=Z' (W5 g R);have aR:T.length=R.length:=by rw[aj];simp[W5]
 rw[<-aj] at ai o ⊢;clear aj;have aS:=yO ai;obtain⟨aT,Z⟩:=o;obtain⟨m,ax⟩:=Z' (Tv T);rw[<-ax] at aS Z ⊢;have ay:∀e∈T.map Vy,∀a∈e.cells,η 0 a:=λe aU a aV=>by
  obtain⟨s,_,rfl⟩:=Zh.1 aU;exact VO _ _ _ a aV
 refine υ λu d=>?_;apply d;refine W.cut 0 (Ζ _) [(7,Ym T),(8,J m),(33,Ym T),(34,J T.length),(35,J 0)] (Ζ _) (λid r h=>I) (λp az=>?_) ?_
 .simp at az;rcases az with rfl|rfl|rfl|rfl|rfl
  .exact .low (.sl ay)
  .exact .low (by simp[ι])
  .exact .low (.sl ay)
  .exact .low (by simp[ι])
  .exact .low (by simp[ι])
 have ba:T.length<=156:=I;clear Y D ai ah av aR ax
 repeat apply Γ
 refine W.iter (λi:Nat=>i<=T.length/\∀E (aA:E<T.length),E<i->∀j (H:j<E),Mh T[E] (T[j]'I)=false) (λi=>[(7,Ym T),(8,J m),(33,Ym T),(34,J T.length),(35,J i)]) (λ_=>[]) (λi=>T.length-i) 0 ⟨Ζ _,λE _ h=>I⟩ U Ω (λi hi aa=>?_);obtain⟨hi,aB⟩:=hi;refine Φ ?_;by_cases S:i<T.length
 .refine Ι (by simp[S]) ?_;obtain⟨s,ak⟩:=Z' (T[i]);have aW:∀h:i<T.length,T[i]=s:=λ_=>ak.symm;have al:=SM s s.size;have ab:List.take 18 (YD s s.size)=YD s s.size:=Xb (by rw[al];exact ZY _);have X:=NC s s.size;refine ZO ?_;refine ZG (A:=[10]) Ο λu d=>W8 (Ξ S (Ξ aW (Ξ al (Ξ ab X)))) ?_;apply d;refine W.fix (id:=0) (σ':=[]) (Ζ _) U (by simp;exact VO _ _ _) Ω U [(10,.Ν (YD s s.size)),(9,J i),(7,Ym T),(8,J m),(33,Ym T),(34,J T.length),(35,J i)] (by simp;exact λx _=>VO _ _ _) ?_
  repeat apply Γ
  have bb:min i T.length=i:=I;refine Ze hi λu d=>?_;apply d
  repeat apply Γ
  have aX:((T.take i).map Vy).length=i:=by simp;omega
  refine W.iter (λj:Nat=>j<=i/\∀L (H:L<j) (w:L<T.length),Mh s T[L]=false) (λj=>[(42,.sl false 18 ((T.take i).map Vy)),(43,J i),(44,J j),(10,.Ν (YD s s.size)),(7,Ym T),(8,J m),(33,Ym T),(34,J T.length),(35,J i)]) (λ_=>[]) (λj=>i-j) 0 ⟨Ζ _,λL h=>I⟩ U Ω (λj H am=>?_);obtain⟨H,aC⟩:=H;refine Φ ?_;by_cases M:j<i
  .refine Ι (by simp[M]) ?_;have aY:j<T.length:=I;obtain⟨y,N⟩:=Z' (T[j]);have aZ:∀h:j<T.length,T[j]=y:=λ_=>N.symm;have an:=SM y y.size;have aD:List.take 18 (YD y y.size)=YD y y.size:=Xb (by rw[an];exact ZY _);have aE:=NC y y.size;refine ZO ?_;refine ZG (A:=[12]) Ο λu d=>W8 (Ξ M (Ξ aX (Ξ aY (Ξ aZ (Ξ an (Ξ aD aE)))))) ?_;refine⟨I,?_⟩;apply d;refine W.fix (id:=0) (σ':=[]) (Ζ _) U (by simp;exact VO _ _ _) Ω U [(12,.Ν (YD y y.size)),(42,.sl false 18 ((T.take i).map Vy)),(43,J i),(44,J j),(10,.Ν (YD s s.size)),(7,Ym T),(8,J m),(33,Ym T),(34,J T.length),(35,J i)] (by
    simp;refine⟨?_,?_,?_⟩<;>intro x B<;>first|exact VO _ _ _ _ B|exact VO _ _ _) ?_
   have a0:=na s y;(repeat apply Γ);refine YF λu d=>?_;simp;(repeat (rw[Η];simp[-aeqv,al,an,ab,aD,X,aE,a0]));apply d;cases hv:Mh s y with
   | false=>
    refine Κ (by simp[hv]) ?_;refine Φ ?_;refine W.to (am (j+1) ⟨M,λL bc w=>?_⟩ I) U (by simp[Y9 M (show i<2 ^ 62 by omega)]);by_cases e:L=j
    .subst e;rw[<-N];exact hv
    .exact aC L I w
   | true=>
    refine Ι (by simp[hv]) ?_;refine Φ ?_;rw[aT (m8 M S (by rw[<-ak,<-N];exact hv))];exact W.ret ⟨_,U,.ε (.cons .nil (.cons (.refl _) .nil)),U⟩
  .obtain rfl:j=i:=I
   refine Κ Ω ?_;refine W.exit U ?_;refine Φ ?_;refine W.to (aa (j+1) ⟨S,λE aA h k aF=>?_⟩ I) U (by simp[Y9 S (show T.length<2 ^ 62 by omega)]);by_cases e:E=j
   .subst e;rw[<-ak];exact aC k aF _
   .exact aB E aA I k aF
 obtain rfl:i=T.length:=I;refine Κ Ω ?_;refine W.exit U ?_;obtain⟨f0,bd,Z⟩:=Z (m7 λi hi j H=>aB i hi hi j H);refine ZO ?_;refine ZG (A:=[53]) Ο λu d=>Δ ?_;apply d;refine W.ng (id:=0) [ζ J 1 []] U U (λi a b aG a1=>by
  match i with
  | 0=>cases aG;cases a1;exact .one .nil rfl rfl
  | i+1=>cases aG) ?_
 refine υ λu d=>?_;apply d
 repeat apply Γ
 refine W.iter (λx:List (Α)×Nat×Nat=>Jd T m x.2.2 x.1 x.2.1=some r/\x.2.1+x.2.2=f0/\x.1.length<=1+18*x.2.1/\∀l∈x.1,KS m x.2.1 l) (λx=>[(13,.ms 0 x.1.length 0 x.1.length),(14,J x.2.1),(7,Ym T),(8,J m)]) (λx=>[.cells 22 1 (x.1.map (ζ J 1))]) (λx=>x.2.2) ([[]],0,f0) ⟨Z,Ω,Ω,λl w=>by
  obtain rfl:=Ol.1 w;exact⟨Ζ _,Ω⟩⟩ U Ω (λx B aa=>?_)
 obtain⟨q,n,f⟩:=x;obtain⟨o,a2,a3,ao⟩:=B;simp only at o a2 a3 ao aa ⊢;obtain⟨f,rfl⟩:∃f',f=f'+1:=by
  cases f with
  | zero=>cases o
  | succ f=>exact⟨f,rfl⟩
 refine Φ ?_;by_cases ap:n<q.length
 case neg=>
  refine Κ (by simp;omega) ?_;refine W.exit U ?_;have:r=([],12):=by
   rw[Jd,W4 I] at o;exact(WU o).symm
  rw[this];refine Φ ?_;refine W.drop (h:=0) (Ζ _) (Ζ _) Ω U [(2,.sl true 0 []),(3,J 12)] Ω ?_;exact W.ret ⟨_,U,.ε (.cons .nil (.cons (.refl _) .nil)),U⟩
 refine Ι (by simp[ap]) ?_;obtain⟨l,w⟩:=Z' (q[n]);have aq:q[n]?=some l:=by rw[w];exact Z4 ap
 have a4:∀h:n<q.length,q[n]=l:=λ_=>w.symm
 have V:=ao l (ZH aq)
 have aH:=V.from;rw[Jd,aq] at o;clear w aq;have a5:l.length<2 ^ 21:=by have:=V.1;omega
 refine Ze (Ξ ap a4) λu d=>?_;apply d;refine υ λu d=>?_;refine Τ.c (nc T l I I λy N=>by have:=V.2 y N;omega) (Zw.refl _) (by simp;exact λx _=>VO _ _ _) Ω ?_;simp;(repeat (rw[Η];simp));apply d;cases Q:Mi T l with
 | true=>
  refine Ι (by simp[Q]) ?_;refine Φ ?_;have:r=(l,0):=by
   simp only[Q,if_true] at o;exact(WU o).symm
  rw[this];refine W.drop (h:=0) (Ζ _) (Ζ _) Ω U [(2,ζ J 1 l),(3,J 0)] Ω ?_;refine W.rt ?_;exact .of U
 | false=>
  simp only[Q,Xq,if_false] at o;refine Κ (by simp[Q]) ?_;refine Φ ?_;refine W.upto [(13,.ms 0 q.length 0 q.length),(14,J n),(15,ζ J 1 l),(16,J (Pn l)),(7,Ym T),(8,J m)] [.cells 22 1 (q.map (ζ J 1))] ?_ ?_
  .rcases List.eq_nil_or_concat l with rfl|⟨F,y,rfl⟩
   .refine Κ Ω ?_;exact W.skip (W.stop ⟨U,U,by simp[Pn]⟩)
   .refine Ι Ω ?_;have N:Pn (F++[y])=y+1:=by simp[Pn]
    have be:=V.2 y Ω
    have ad:IntKind.i64.wrap (y+1)=y+1:=IntWalk.i64_in _ I
    have bf:(F++[y]).length=F.length+1:=Ω
    have bg:F.length<2 ^ 21:=by have h:=a5;simp at h;omega
    have a6:IntKind.i64.wrap (F.length:Int)=F.length:=IntWalk.i64_in _ I
    have a7:(F.map J++[J y])[F.length]?=some (J y):=by rw[Xz Ω];simp
    refine Ze (Ξ ad (Ξ a6 a7)) λu d=>?_;refine⟨I,?_⟩;apply d;exact W.stop ⟨U,U,by simp[N,ad]⟩
  .obtain⟨v,aI⟩:=Z' (Pn l);rw[<-aI] at aH ⊢;obtain⟨K,bh⟩:∃K:Nat,(K:Int)=m-v:=⟨((m:Int)-v).toNat,I⟩;have ar:Je m l=Uw l v K:=by unfold Je;rw[<-aI];congr 1;omega
   refine υ λu d=>?_;apply d
   repeat apply Γ
   refine W.iter (λj:Nat=>j<=K) (λj=>[(17,J (v+j)),(13,.ms 0 (q++Uw l v j).length 0 (q++Uw l v j).length),(14,J n),(15,ζ J 1 l),(7,Ym T),(8,J m)]) (λj=>[.cells 22 1 ((q++Uw l v j).map (ζ J 1))]) (λj=>K-j) 0 (Ζ _) (by simp[Uw]) (by simp[Uw]) (λj H am=>?_);obtain⟨au,ae⟩:=Z' (q++Uw l v j);have bi:au.length=q.length+j:=by rw[ae,Sm,yE]
   have a8:q++Uw l v (j+1)=au++[l++[v+j]]:=by rw[ae,m',Tq]
   have aJ:=am (j+1);rw[<-ae];rw[a8] at aJ;refine Φ ?_;by_cases M:j<K
   .refine Ι (by simp;omega) ?_;have a9:au.length<=4294967295:=I;have a':l.length<=4294967295:=I;have ad:IntKind.i64.wrap (v+j+1)=v+(j+1:Nat):=by rw[show v+(j:Int)+1=v+(j+1:Nat) by omega];exact IntWalk.i64_in _ I
    have ab:List.take l.length (l.map J)=l.map J:=Xb Ω;refine ZO ?_;refine ZG (A:=[95]) Ο λu d=>W8 (Ξ a9 (Ξ a' ab)) ?_;apply d;refine Φ ?_;refine W.to (aJ M I) Ω (by simp[ad])
   .obtain rfl:j=K:=I
    refine Κ (by simp;omega) ?_;refine W.exit U ?_;refine Φ ?_;have aK:=aa (q++Je m l,n+1,f) ⟨o,by show n+1+f=f0;omega,by show(q++Je m l).length<=1+18*(n+1);rw[ar,Sm,yE];omega,λx B=>by
     rcases Uv.1 B with B|B
     .have:=ao x B;exact⟨by show x.length<=n+1;have:=this.1;omega,this.2⟩
     .rw[ar] at B;exact V.QX aH.1 I B⟩ Ω
    rw[ar,<-ae] at aK;refine W.to aK U (by simp[Y9 (show n<2 ^ 30 by omega) (show 2 ^ 30<2 ^ 62 by omega)])
end
end Go.TL
namespace Go.TL
open Go.Proofs.Tryz
open Go.Proofs
variable [Z1]
theorem Y0.m6 {h id k m n:Nat} {σ:Ρ} {t:TypeId} {l l2:ψ} (i:h<=id) (o:σ[id]?=some (.cells t k (l++l2))) (p:l.length+l2.length=n) (r:l.length=m) (s:∀e∈l,∀a∈e.cells,η h a):Y0 h σ (.ms id n 0 m) (.sl false k l):=by
 subst r;subst p;have el:∀(j:Nat) (e b:Ψ),(l++l2)[0+j]?=some e->l[j]?=some b->e=b:=λj e b d c=>by
  rw[V5,YN (ZR.1 c).1,c] at d;exact(WU d).symm
 refine .ms i o Ω Ω U (λj e b d c=>by rw[el j e b d c]) (λj e b d c x a a' f g=>?_);rw[el j e b d c,g] at f;cases f;exact .low (s b (ZH c) _ (ZH g))
theorem m5 {σ:Ρ} {K E:Ψ->Ρ->Prop} (l:List (List Z0)) (b:l.length<2 ^ 30) (c:K (.ms σ.length l.length 0 l.length) (σ++[.cells 23 1 (l.map (ζ Y7 1))])):Yg prog (.fn (.func 61) [] []) [.sl false 1 (l.map (ζ Y7 1))] σ K E:=
 Μ.call (first:=[]) (captured:=[]) ((nZ l b σ).mono (λa r ⟨d,e⟩=>by rw[d,e];exact c) (λa s h=>h.elim))
theorem m4 {σ:Ρ} {K E:Ψ->Ρ->Prop} {id:Nat} (l:List (List Z0)) (b:l.length<2 ^ 30) (c:σ[id]?=some (.cells 23 1 (l.map (ζ Y7 1)))) {i:Nat} (hi:i<l.length) (d:K (.ms id l.length 0 (l.length-1)) (σ.set id (.cells 23 1 ((l.eraseIdx i).map (ζ Y7 1)++[.sl true 0 []])))) :
  Yg prog (.fn (.func 60) [] []) [.ms id l.length 0 l.length,J i,J ((i:Int)+1)] σ K E:=
 Μ.call (first:=[]) (captured:=[]) ((nX l b c hi).mono (λa r ⟨e,f⟩=>by rw[e,f];exact d) (λa s h=>h.elim))
theorem m3 {a:Type} {x:a}:∀{l:List a} {i:Nat},x∈l.eraseIdx i->x∈l:=λh=>List.mem_of_mem_eraseIdx h
theorem Mp.erase {g:ZZ} {P:List (List Z0)} {C:List (Α)} (h:Mp g P C) (i:Nat):Mp g (P.eraseIdx i) C:=
 ⟨h.words,h.lets,h.blank,h.Gf,h.ZC,h.ZX,⟨L9 (List.length_eraseIdx_le _ _) h.pass.1,λl a=>h.pass.2 l (m3 a)⟩,h.cells,h.XM⟩
section
variable {g:ZZ} {θ:Int} {P:List (List Z0)} {C:List (Α)}
def SK (g:ZZ) (P:List (List Z0)) (C:List (Α)) (i:Nat):Bool:=decide ((YQ g P C).length<(YQ g (P.eraseIdx i) C).length)
def Sp (g:ZZ) (P:List (List Z0)) (C:List (Α)) (n:Nat):Α:=((List.range n).filter (SK g P C)).map λi:Nat=>(i:Int)
def Pm (g:ZZ) (θ:Int) (P:List (List Z0)) (C:List (Α)):Α×Int:=if θ≠0 then([],θ) else(Sp g P C P.length,0)
theorem Jc (g:ZZ) (P:List (List Z0)) (C:List (Α)) (n:Nat):Sp g P C (n+1)=if SK g P C n=true then Sp g P C n++[(n:Int)] else Sp g P C n:=by
 unfold Sp;rw[Q4,IV];by_cases h:SK g P C n=true
 .rw[if_pos h];simp[h]
 .rw[if_neg h];simp[h]
theorem m2 (g:ZZ) (P:List (List Z0)) (C:List (Α)) (n:Nat):(Sp g P C n).length<=n:=by
 unfold Sp;rw[SJ];have:=Mc (SK g P C) (List.range n);simpa using this
theorem yC (s:UM g θ P C) (B:θ=0->P.length<2 ^ 20):Τ prog 22 [YT g] (.ε [ζ J 1 (Pm g θ P C).1,J (Pm g θ P C).2]):=by
 refine Μ.body Ο func22 U U ntmps22 U U Ω ?_;refine Φ ?_;refine υ λk f=>?_;refine Τ.d (s.check) (Δ ?_);apply f;refine Φ ?_;by_cases u:θ=0
 case neg=>
  refine Ι (by simp[u]) ?_;refine Φ ?_;have e:Pm g θ P C=([],θ):=by unfold Pm;rw[if_pos u]
  rw[e];exact W.ret ⟨_,U,.ε (.cons .nil (.cons (.refl _) .nil)),U⟩
 refine Κ (by simp[u]) ?_;subst u;have B:=B U;have D:=s.work U;have E:=s.XM U;have e:Pm g 0 P C=(Sp g P C P.length,0):=by unfold Pm;rw[if_neg Ω]
 rw[e];refine ZO ?_;refine ZG (A:=[5]) Ο λk f=>Δ ?_;refine Τ.d (s.Mo U) (Δ ?_);apply f;refine W.fix (id:=0) (σ':=[]) (Ζ _) U Ω Ω U [(5,.Ν (YC g P C))] Ω ?_;refine υ λk f=>?_;refine Τ.d (K4 D E) (Δ ?_);apply f;refine Φ ?_;refine W.pad (σ':=[]) 3 1 U Ω [(5,.Ν (YC g P C)),(6,J (YQ g P C).length),(7,.ms 0 0 0 0),(22,J P.length),(23,J 0)] (λz n=>by
  simp at n;rcases n with rfl|rfl|rfl|rfl|rfl<;>first|exact .same _|exact .nil) ?_
 refine W.iter (λi:Nat=>i<=P.length) (λi=>[(5,.Ν (YC g P C)),(6,J (YQ g P C).length),(7,.ms 0 (Sp g P C i).length 0 (Sp g P C i).length),(22,J P.length),(23,J i)]) (λi=>[.cells 3 1 ((Sp g P C i).map J)]) (λi=>P.length-i) 0 (Ζ _) U (by simp[Sp]) (λi hi O=>?_);refine Φ ?_;by_cases l:i<P.length
 .refine Ι (by simp[l]) ?_;have Q:=Jc g P C i;have R:=m2 g P C i;have v:SK g P C i=decide ((YQ g P C).length<(YQ g (P.eraseIdx i) C).length):=rfl;have H:=K4 (D.erase i) E;obtain⟨M,K⟩:=Z' (Sp g P C i);have m:=O (i+1) l I;rw[Q,<-K] at m;rw[<-K] at R ⊢;generalize YQ g (P.eraseIdx i) C=F at H v;generalize YQ g P C=L at v m ⊢;refine Φ ?_;refine ZO ?_;refine ZG (A:=[9]) Ο λk f=>Δ ?_;apply f;have S:IntKind.i64.wrap ((i:Int)+1)=(i:Int)+1:=IntWalk.i64_in _ I;refine υ λk f=>?_;refine m5 P I ?_;simp;(repeat (rw[Η];simp[S]));refine m4 P I U l ?_;simp;(repeat (rw[Η];simp));apply f;have Y:(P.eraseIdx i).length=P.length-1:=F1 l;have T:∀e∈(P.eraseIdx i).map (ζ Y7 1),∀a∈e.cells,η 1 a:=λe o a j=>by
   obtain⟨p,_,rfl⟩:=Zh.1 o;simp[Ψ.cells] at j;subst j;simp
  refine W.cut 1 (Ζ _) [(9,.Ν (YC g (P.eraseIdx i) C)),(8,J i),(5,.Ν (YC g P C)),(6,J L.length),(7,.ms 0 M.length 0 M.length),(22,J P.length),(23,J i)] Ω (λid r Z V=>?_) (λp N=>?_) ?_
  .obtain rfl:id=0:=I
   cases V;intro e o a j;obtain⟨x,_,rfl⟩:=Zh.1 o;simp[Ψ.cells] at j;subst j;simp
  .simp only[Yd,Vw,or_false] at N;rcases N with rfl|rfl|rfl|rfl|rfl|rfl|rfl
   .refine Y0.struct (h:=1) (id:=1) (ZY _) U U (λx a a' b c=>?_)
    match x,b,c with
    | 13,b,c=>
     cases b;cases c;exact Y0.m6 (id:=2) (t:=23) I U (by simp;omega) (by simp;omega) T
    | 0,b,c|1,b,c|2,b,c|3,b,c|4,b,c|5,b,c|6,b,c|7,b,c|8,b,c|9,b,c|10,b,c|11,b,c|12,b,c|14,b,c=>
     cases b;cases c;exact .low Ω
   all_goals exact .low (by simp[ι,SB])
  refine υ λk f=>?_;refine Τ.d (H) (Δ ?_);apply f;by_cases w:L.length<F.length
  .have y:SK g P C i=true:=by rw[v];simpa using w
   rw[if_pos y] at m;refine Ι (by simp[w]) ?_;have X:M.length<=4294967295:=I;refine ZO ?_;refine ZG (A:=[43]) Ο λk f=>W8 X ?_;apply f;refine Φ ?_;refine W.to m Ω (by simp[Y9 l (show P.length<2 ^ 62 by omega)])
  .have y:¬SK g P C i=true:=by rw[v];simpa using w
   rw[if_neg y] at m;refine Κ (by simp[w]) ?_;refine Φ ?_;refine W.to m U (by simp[Y9 l (show P.length<2 ^ 62 by omega)])
 .obtain rfl:i=P.length:=I
  refine Κ Ω ?_;refine W.exit U ?_;refine Φ ?_;refine W.cut 0 (Ζ _) [(2,ζ J 1 (Sp g P C P.length)),(3,J 0)] (Ζ _) (λid r h=>I) (λz n=>?_) ?_
  .simp at n;rcases n with rfl|rfl
   .exact Y0.own (id:=0) (t:=3) (Ζ _) U Ω (λe o a j=>by
     obtain⟨x,_,rfl⟩:=Zh.1 o;simp[Ψ.cells] at j;subst j;simp)
   .exact .low (by simp[ι])
  refine W.rt ?_;exact .of U
end
abbrev C' (g:ZZ) (c:Ψ):ψ:=[c,ZP g.left,ZP g.right,Yw g.words,PB g.ZC,J g.UT,J g.US,J g.W2,J g.UB,WO g.ZX.ZN,Ya g.ZX.ZF,S5 g.ZX.cells,ZV g.lower]
abbrev Pl (g:ZZ) (c:Ψ):Row:=.cells 36 13 [.Z6 (C' g c)]
abbrev Qj (a b c:Ψ):Row:=.cells 34 3 [.Z6 [a,b,c]]
structure F4 (g:ZZ):Prop where
 ZT:g.ZT.length<2 ^ 30/\∀l∈g.ZT,l.length<2 ^ 30
 words:g.words.length<2 ^ 30
 ZC:g.ZC.length<2 ^ 30
 ZX:g.ZX.small
theorem TZ.m1 {id:Nat} {a c:Ψ}:TZ id (Qj a (.sl true 0 []) c) (Qj a (.ms id 0 0 0) c):=by
 refine .inr ⟨_,_,_,_,U,U,U,λi e h f g=>?_⟩
 match i with
 | 0=>
  simp at f g;subst f;subst g;refine⟨U,λx a a' b d=>?_⟩
  match x with
  | 0=>simp[Ψ.cells] at b d;subst b;subst d;exact .same _
  | 1=>simp[Ψ.cells] at b d;subst b;subst d;exact .nil
  | 2=>simp[Ψ.cells] at b d;subst b;subst d;exact .same _
  | x+3=>simp[Ψ.cells] at b
 | i+1=>simp at f
theorem TZ.m0 {id:Nat} {a b:Ψ}:TZ id (Qj a b (.sl true 0 [])) (Qj a b (.ms id 0 0 0)):=by
 refine .inr ⟨_,_,_,_,U,U,U,λi e h f g=>?_⟩
 match i with
 | 0=>
  simp at f g;subst f;subst g;refine⟨U,λx a a' c d=>?_⟩
  match x with
  | 0=>simp[Ψ.cells] at c d;subst c;subst d;exact .same _
  | 1=>simp[Ψ.cells] at c d;subst c;subst d;exact .same _
  | 2=>simp[Ψ.cells] at c d;subst c;subst d;exact .nil
  | x+3=>simp[Ψ.cells] at c
 | i+1=>simp at f
theorem mZ (g:ZZ) (D:F4 g) (k:Row) (P:YR 4 k):Μ prog 62 [YT g] [k] (λa s=>a=.Z6 (C' g (.ms 3 g.ZT.length 0 g.ZT.length))/\s=[k,Pl g (.ms 3 g.ZT.length 0 g.ZT.length),Pl g (.ms 3 g.ZT.length 0 g.ZT.length),.cells 26 1 (g.ZT.map Yw)]) (λ_ _=>False):=by
 have Y:=D.ZT.1
 have Q:=D.ZT.2;obtain⟨n,o,Z,R,S⟩:=D.ZX;refine Μ.body Ο func62 U U ntmps62 U U Ω ?_;refine ZO ?_;refine ZG (A:=[1,2]) Ο λf b=>Δ ?_;apply b;obtain⟨B,M⟩:=Z' (Row.cells 36 13 [Ψ.Z6 [Ψ.sl true 0 [],ZP ⟨#[]⟩,ZP ⟨#[]⟩,Ψ.sl true 0 [],Ψ.sl true 0 [],J 0,J 0,J 0,J 0,Ψ.sl true 0 [],Ψ.sl true 0 [],Ψ.sl true 0 [],ZV false]]);refine W.to (σ':=[k,Pl g (UA g.ZT),B]) (env':=[(2,.π 2 1 0 0),(1,.π 1 1 0 0)]) ?_ (by rw[M]) Ω
 repeat apply Γ
 refine W.draw (A:=[]) Ο mixed λf b=>VG ?_;refine XV (Τ.q (Ga g.words D.words)) (VG ?_);refine XV (Τ.q (n4 g.ZC D.ZC)) (VG ?_);refine Yn (b _ _ ?_);refine ZO ?_;refine ZG (A:=[23]) Ο λf b=>Δ ?_;refine⟨I,?_⟩;apply b;refine υ λf b=>?_;apply b
 repeat apply Γ
 refine W.iter (λi:Nat=>i<=g.ZT.length) (λi=>[(3,.ms 3 g.ZT.length 0 g.ZT.length),(26,UA g.ZT),(27,J g.ZT.length),(28,J i),(1,.π 1 1 0 0),(2,.π 2 1 0 0)]) (λi=>[k,Pl g (UA g.ZT),B,.cells 26 1 (fill Yw (.sl true 0 []) g.ZT i)]) (λi=>g.ZT.length-i) 0 (Ζ _) (by simp[uH]) Ω (λi hi E=>?_);refine Φ ?_;by_cases c:i<g.ZT.length
 .refine Ι (by simp[c]) ?_;obtain⟨l,j⟩:=Z' (g.ZT[i]);have C:∀h:i<g.ZT.length,g.ZT[i]=l:=λ_=>j.symm;have F:=Q l (by rw[j];exact Yq c);have f1:=uF Yw (.sl true 0 []) g.ZT hi;have f2:=uw Yw (.sl true 0 []) g.ZT c;have f3:=uD Yw (.sl true 0 []) g.ZT c;rw[<-j] at f3;refine Ze (Ξ c C) λf b=>?_;apply b;refine Ze (Ξ c C) λf b=>?_;refine Τ.d (Ga l F) (W8 (Ξ c (Ξ f1 (Ξ f2 f3))) ?_);apply b;refine Φ ?_;refine W.to (E (i+1) c I) (by simp[f3]) (by simp[Y9 c (show g.ZT.length<2 ^ 62 by omega)])
 have H:i=g.ZT.length:=I;subst H;refine Κ Ω ?_;refine W.exit U ?_;rw[uG _ _ _ (ZY _)];refine υ λf b=>?_;apply b;refine W.to (σ':=[k,Pl g (.ms 3 g.ZT.length 0 g.ZT.length),B,.cells 26 1 (g.ZT.map Yw)]) (env':=[(1,.π 1 1 0 0),(2,.π 2 1 0 0)]) ?_ U Ω;obtain⟨YU,N⟩:=Z' (Row.cells 26 1 (g.ZT.map Yw));rw[<-N];refine ZO ?_;refine ZG (A:=[6]) Ο λf b=>Δ ?_;refine Τ.d (n3 g.ZX.ZN I) (Δ ?_);apply b;refine W.DX 22 1 (i:=4) (r:=Qj (WO g.ZX.ZN) (.sl true 0 []) (.sl true 0 [])) (r':=Qj (WO g.ZX.ZN) (.ms 5 0 0 0) (.sl true 0 [])) U TZ.m1 [(1,.π 1 1 0 0),(2,.π 2 1 0 0),(6,.π 4 1 0 0)] (λp u=>by
  simp only[Yd,Vw,or_false] at u;rcases u with rfl|rfl|rfl<;>exact .same _) ?_
 refine W.DX 103 1 (i:=4) (r:=Qj (WO g.ZX.ZN) (.ms 5 0 0 0) (.sl true 0 [])) (r':=Qj (WO g.ZX.ZN) (.ms 5 0 0 0) (.ms 6 0 0 0)) U TZ.m0 [(1,.π 1 1 0 0),(2,.π 2 1 0 0),(6,.π 4 1 0 0)] (λp u=>by
  simp only[Yd,Vw,or_false] at u;rcases u with rfl|rfl|rfl<;>exact .same _) ?_
 refine W.to (σ':=[k,Pl g (.ms 3 g.ZT.length 0 g.ZT.length),B,YU,Qj (WO g.ZX.ZN) (.ms 5 0 0 0) (.ms 6 0 0 0),.cells 22 1 [],.cells 103 1 []]) (env':=[(1,.π 1 1 0 0),(2,.π 2 1 0 0),(6,.π 4 1 0 0)]) ?_ U Ω;refine υ λf b=>?_;apply b
 repeat apply Γ
 refine W.iter (λi:Nat=>i<=g.ZX.ZF.length) (λi=>[(49,Ya g.ZX.ZF),(50,J g.ZX.ZF.length),(51,J i),(1,.π 1 1 0 0),(2,.π 2 1 0 0),(6,.π 4 1 0 0)]) (λi=>[k,Pl g (.ms 3 g.ZT.length 0 g.ZT.length),B,YU,Qj (WO g.ZX.ZN) (.ms 5 i 0 i) (.ms 6 0 0 0),.cells 22 1 ((g.ZX.ZF.take i).map (ζ J 1)),.cells 103 1 []]) (λi=>g.ZX.ZF.length-i) 0 (Ζ _) U Ω (λi hi E=>?_);refine Φ ?_;by_cases c:i<g.ZX.ZF.length
 .refine Ι (by simp[c]) ?_;obtain⟨l,j⟩:=Z' (g.ZX.ZF[i]);have C:∀h:i<g.ZX.ZF.length,g.ZX.ZF[i]=l:=λ_=>j.symm;have F:l.length<2 ^ 30:=by rw[j];have:=R _ (Yq c);omega
  have K:g.ZX.ZF.take (i+1)=g.ZX.ZF.take i++[l]:=by rw[VW c,j]
  have v:((g.ZX.ZF.take i).map (ζ J 1)).length=i:=by rw[SJ,KJ];omega
  have w:=E (i+1) c I;rw[K,VV,V6,L7] at w;obtain⟨T,y⟩:=Z' ((g.ZX.ZF.take i).map (ζ J 1));rw[<-y] at v w;rw[<-Qc,<-y];have L:i<=4294967295:=I;clear y K j;refine Ze (Ξ c C) λf b=>?_;apply b
  repeat apply Γ
  refine W.draw (A:=[60]) Ο mixed λf b=>Ua (Ξ v L) ?_;refine XV (Τ.q (n2 l F)) (Ua (Ξ v L) ?_);refine Yn (b _ _ ?_);refine Φ ?_;refine W.to w Ω (by simp[Y9 c (show g.ZX.ZF.length<2 ^ 62 by omega)])
 have H:i=g.ZX.ZF.length:=I;subst H;refine Κ Ω ?_;refine W.exit U ?_;rw[<-Qc,Nu];refine υ λf b=>?_;apply b
 repeat apply Γ
 refine W.iter (λi:Nat=>i<=g.ZX.cells.length) (λi=>[(65,S5 g.ZX.cells),(66,J g.ZX.cells.length),(67,J i),(1,.π 1 1 0 0),(2,.π 2 1 0 0),(6,.π 4 1 0 0)]) (λi=>[k,Pl g (.ms 3 g.ZT.length 0 g.ZT.length),B,YU,Qj (WO g.ZX.ZN) (.ms 5 g.ZX.ZF.length 0 g.ZX.ZF.length) (.ms 6 i 0 i),.cells 22 1 (g.ZX.ZF.map (ζ J 1)),.cells 103 1 ((g.ZX.cells.take i).map TD)]) (λi=>g.ZX.cells.length-i) 0 (Ζ _) U Ω (λi hi E=>?_);refine Φ ?_;by_cases c:i<g.ZX.cells.length
 .refine Ι (by simp[c]) ?_;obtain⟨l,j⟩:=Z' (g.ZX.cells[i]);have C:∀h:i<g.ZX.cells.length,g.ZX.cells[i]=l:=λ_=>j.symm;have F:l.length<2 ^ 30:=by rw[j];exact S _ (Yq c)
  have K:g.ZX.cells.take (i+1)=g.ZX.cells.take i++[l]:=by rw[VW c,j]
  have v:((g.ZX.cells.take i).map TD).length=i:=by rw[SJ,KJ];omega
  have w:=E (i+1) c I;rw[K,VV,V6,L7] at w;obtain⟨T,y⟩:=Z' ((g.ZX.cells.take i).map TD);rw[<-y] at v w;rw[<-Qc,<-y];have L:i<=4294967295:=I;clear y K j;refine Ze (Ξ c C) λf b=>?_;apply b
  repeat apply Γ
  refine W.draw (A:=[76]) Ο mixed λf b=>Ua (Ξ v L) ?_;refine XV (Τ.q (n1 l F)) (Ua (Ξ v L) ?_);refine Yn (b _ _ ?_);refine Φ ?_;refine W.to w Ω (by simp[Y9 c (show g.ZX.cells.length<2 ^ 62 by omega)])
 have H:i=g.ZX.cells.length:=I;subst H;refine Κ Ω ?_;refine W.exit U ?_;rw[<-Qc,Nu,N,M];refine W.cut 4 Ω [(1,.π 1 1 0 0),(2,.π 2 1 0 0),(6,.Ν [WO g.ZX.ZN,Ya g.ZX.ZF,S5 g.ZX.cells])] Ω (λid r V m=>?_) (λp u=>?_) ?_
 .match id,V,m with
  | 0,_,m=>cases m;exact P
  | 1,_,m=>cases m;simp[YR,Ψ.cells,SB]
  | 2,_,m=>cases m;simp[YR,Ψ.cells]
  | 3,_,m=>
   cases m;intro e X a O;obtain⟨x,_,rfl⟩:=Zh.1 X;simp[Ψ.cells] at O;subst O;simp
 .simp only[Yd,Vw,or_false] at u;rcases u with rfl|rfl|rfl
  .exact .low (by simp[ι,TF])
  .exact .low (by simp[ι,TF])
  .refine Y0.struct (h:=4) (id:=4) (ZY _) U U (λx a a' n o=>?_)
   match x,n,o with
   | 0,n,o=>cases n;cases o;exact .low Ω
   | 1,n,o=>
    cases n;cases o;exact Y0.own (id:=5) (t:=22) I U Ω (by simp[Ψ.cells])
   | 2,n,o=>
    cases n;cases o;exact Y0.own (id:=6) (t:=103) I U Ω (by simp[Ψ.cells])
 refine υ λf b=>?_;apply b;refine υ λf b=>?_;apply b;exact W.ret ⟨_,U,U,U⟩
def Qi:ZZ:=⟨[],⟨#[]⟩,⟨#[]⟩,[],[],0,0,0,0,⟨[],[],[]⟩,false⟩
abbrev Jb:ψ:=[Ψ.sl true 0 [],ZP ⟨#[]⟩,ZP ⟨#[]⟩,Ψ.sl true 0 [],Ψ.sl true 0 [],J 0,J 0,J 0,J 0,Ψ.sl true 0 [],Ψ.sl true 0 [],Ψ.sl true 0 [],ZV false]
theorem F3:Yx (.Z6 Jb) (YT Qi):=.Z6 (.cons .nil (.cons (.refl _) (.cons (.refl _) (.cons .nil (.cons .nil (.cons (.refl _) (.cons (.refl _) (.cons (.refl _) (.cons (.refl _) (.cons .nil (.cons .nil (.cons .nil (.cons (.refl _) .nil)))))))))))))
def So (g:ZZ) (c:List ByteArray):ZZ:={g with ZT:=g.ZT++[c]}
section
variable {g:ZZ} {θ:Int} {P Qh:List (List Z0)} {C Qg:List (Α)}
def Sn (g:ZZ) (θ:Int) (c:List ByteArray) (P Qh:List (List Z0)) (C Qg:List (Α)):ZZ×Int:=
 if θ≠0 then(Qi,θ) else if g.ZT.length=4 then(Qi,6) else if UR (g.ZT++[c])≠0 then(Qi,UR (g.ZT++[c]))
 else if YQ g P C≠[]/\YQ (So g c) Qh Qg=[] then(Qi,9) else(So g c,0)
theorem mY {g:ZZ} (c:F4 g) {b:Row} (d:YR 4 b) {K E:Ψ->Ρ->Prop} (e:K (.Z6 (C' g (.ms 3 g.ZT.length 0 g.ZT.length))) [b,Pl g (.ms 3 g.ZT.length 0 g.ZT.length),Pl g (.ms 3 g.ZT.length 0 g.ZT.length),.cells 26 1 (g.ZT.map Yw)]) :
  Yg prog (.fn (.func 62) [] []) [YT g] [b] K E:=
 Μ.call (first:=[]) (captured:=[]) ((mZ g c b d).mono (λa r ⟨f,i⟩=>by rw[f,i];exact e) (λa s h=>h.elim))
theorem yB (y:UM g θ P C) (c:List ByteArray) (B:θ=0->F4 g) (T:c.length<2 ^ 30) (K:θ=0->Gu (g.ZT++[c])) (n:θ=0->g.ZT.length≠4->UR (g.ZT++[c])=0->UM (So g c) 0 Qh Qg) :
  Τ prog 23 [YT g,Yw c] (.ε [YT (Sn g θ c P Qh C Qg).1,J (Sn g θ c P Qh C Qg).2]):=by
 refine Μ.body Ο func23 U U ntmps23 U U Ω ?_;refine ZO ?_;refine ZG (A:=[4]) Ο λj b=>Δ ?_;apply b;refine υ λj b=>?_;refine Τ.d (y.check) (Δ ?_);apply b;refine Φ ?_;by_cases v:θ=0
 case neg=>
  refine Ι (by simp[v]) ?_;refine Φ ?_;have e:Sn g θ c P Qh C Qg=(Qi,θ):=by unfold Sn;rw[if_pos v]
  rw[e];refine W.fix (id:=0) (σ':=[]) (Ζ _) U Ω Ω U [(4,.Ν Jb),(5,J θ)] Ω ?_;exact W.ret ⟨_,U,.ε (.cons F3 (.cons (.refl _) .nil)),U⟩
 refine Κ (by simp[v]) ?_;by_cases o:g.ZT.length=4
 .refine Ze o λj b=>?_;apply b;refine Ι Ω ?_;refine Φ ?_;have e:Sn g θ c P Qh C Qg=(Qi,6):=by unfold Sn;rw[if_neg (by simpa using v),if_pos o]
  rw[e];refine W.fix (id:=0) (σ':=[]) (Ζ _) U Ω Ω U [(4,.Ν Jb),(5,J 6)] Ω ?_;exact W.ret ⟨_,U,.ε (.cons F3 (.cons (.refl _) .nil)),U⟩
 have M:¬(g.ZT.length:Int)=4:=I;refine Ze (Ξ o M) λj b=>?_;apply b;refine Κ (by simp[M]) ?_;subst v;have B:=B U;have K:=K U;have n:=n U o;obtain⟨D,s⟩:=Z' (Row.cells 36 13 [Ψ.Z6 [Ψ.sl true 0 [],ZP ⟨#[]⟩,ZP ⟨#[]⟩,Ψ.sl true 0 [],Ψ.sl true 0 [],J 0,J 0,J 0,J 0,Ψ.sl true 0 [],Ψ.sl true 0 [],Ψ.sl true 0 [],ZV false]]);have N:∀h,YR h D:=λh=>by rw[s];simp[YR,Ψ.cells]
 refine W.to (σ':=[D]) (env':=[(5,J 0),(4,.π 0 1 0 0),(2,.Ν (Y5 g)),(1,Yw c)]) ?_ (by rw[s]) Ω;refine ZO ?_;refine ZG (A:=[7]) Ο λj b=>Δ ?_;refine mY B (N 4) ?_;simp;(repeat (rw[Η];simp));apply b;have O:g.ZT.length<=4294967295:=by have:=B.ZT.1;omega
 repeat apply Γ
 refine W.draw (A:=[29]) Ο mixed λj b=>Ua O ?_;refine XV (Τ.q (Ga c T)) (Ua O ?_);refine Yn (b _ _ ?_);refine W.cut 1 (Ζ _) [(2,.Ν (Y5 g)),(4,.π 0 1 0 0),(5,J 0),(7,.Ν (Y5 (So g c)))] Ω (λid r aa V=>?_) (λp Q=>?_) ?_
 .obtain rfl:id=0:=I
  cases V;exact N 1
 .simp only[Yd,Vw,or_false] at Q;rcases Q with rfl|rfl|rfl|rfl
  .exact .low (by simp[ι])
  .exact .low (by simp[ι,TF])
  .exact .low (by simp[ι])
  .refine Y0.struct (h:=1) (id:=4) I U U (λx a a' f i=>?_)
   match x,f,i with
   | 0,f,i=>
    cases f;cases i;refine Y0.own (h:=1) (id:=3) (t:=26) (k:=1) (l:=(g.ZT++[c]).map Yw) I ?_ Ω (λe X a R=>?_)
    .simp
    .obtain⟨x,_,rfl⟩:=Zh.1 X;simp[Ψ.cells] at R;subst R;simp
   | 1,f,i|2,f,i|3,f,i|4,f,i|5,f,i|6,f,i|7,f,i|8,f,i|9,f,i|10,f,i|11,f,i|12,f,i=>
    cases f;cases i;exact .low Ω
 refine W.to (σ':=[D]) (env':=[(2,.Ν (Y5 g)),(4,.π 0 1 0 0),(5,J 0),(7,.Ν (Y5 (So g c)))]) ?_ U Ω;refine υ λj b=>?_;refine Τ.d (zW (g.ZT++[c]) K) (Δ ?_);apply b;refine Φ ?_;by_cases w:UR (g.ZT++[c])=0
 case neg=>
  refine Ι (by simp[w]) ?_;have e:Sn g 0 c P Qh C Qg=(Qi,UR (g.ZT++[c])):=by unfold Sn;rw[if_neg Ω,if_neg o,if_pos w]
  rw[e,s];generalize UR (g.ZT++[c])=Y;refine Φ ?_;refine W.fix (id:=0) (σ':=[]) (Ζ _) U Ω Ω U [(4,.Ν Jb),(5,J Y)] Ω ?_;exact W.ret ⟨_,U,.ε (.cons F3 (.cons (.refl _) .nil)),U⟩
 refine Κ (by simp[w]) ?_;have n:=n w;have e:Sn g 0 c P Qh C Qg=if YQ g P C≠[]/\YQ (So g c) Qh Qg=[] then(Qi,9) else(So g c,0):=by unfold Sn;rw[if_neg Ω,if_neg o,if_neg (by simpa using w)]
 rw[e];have f1:=K4 (y.work U) (y.XM U);have f2:=K4 (n.work U) (n.XM U);have L:=y.Mo U;have S:=n.Mo U;generalize YQ g P C=E at f1 ⊢;generalize YQ (So g c) Qh Qg=Z at f2 ⊢;refine W.to (σ':=[D]) (env':=[(2,.Ν (Y5 g)),(4,.π 0 1 0 0),(5,J 0),(7,.Ν (Y5 (So g c)))]) ?_ U Ω;by_cases m:E=[]
 .rw[if_neg (by simp[m])];rw[m] at f1;rw[s];refine υ λj b=>?_;refine Τ.d (L) (Δ ?_);refine Τ.d (f1) (Δ ?_);apply b;refine Κ U ?_;refine Φ ?_;refine W.fix (id:=0) (σ':=[]) (Ζ _) U Ω Ω U [(4,.Ν (Y5 (So g c))),(5,J 0)] Ω ?_;refine W.rt ?_;exact .of U
 have F:0<E.length:=Pg.2 m
 have H:(0:Int)<E.length:=I
 have ab:¬E.length=0:=I;by_cases u:Z=[]
 .rw[if_pos ⟨m,u⟩];rw[u] at f2;rw[s];refine υ λj b=>?_;refine Τ.d (L) (W8 (Ξ F (Ξ H m)) ?_);refine Τ.d (f1) (W8 (Ξ F (Ξ H m)) ?_);refine Τ.d (S) (Δ ?_);refine Τ.d (f2) (Δ ?_);apply b;refine Ι U ?_;refine Φ ?_;refine W.fix (id:=0) (σ':=[]) (Ζ _) U Ω Ω U [(4,.Ν Jb),(5,J 9)] Ω ?_;exact W.ret ⟨_,U,.ε (.cons F3 (.cons (.refl _) .nil)),U⟩
 .rw[if_neg (λh=>u h.2)];rw[s];refine υ λj b=>?_;refine Τ.d (L) (W8 (Ξ F (Ξ H m)) ?_);refine Τ.d (f1) (W8 (Ξ F (Ξ H m)) ?_);refine Τ.d (S) (W8 u ?_);refine Τ.d (f2) (W8 u ?_);apply b;refine Κ (by simp[u]) ?_;refine Φ ?_;refine W.fix (id:=0) (σ':=[]) (Ζ _) U Ω Ω U [(4,.Ν (Y5 (So g c))),(5,J 0)] Ω ?_;refine W.rt ?_;exact .of U
end
end Go.TL
namespace Go.TL
open Go.Proofs.Tryz
open Go.Proofs
theorem mX:@Τ XA prog 11 [] (ZV true):=by
 letI:Z1:=XA;have w1:Pq Y1 0 [2,3]=((18,22),0):=by decide +kernel
 have g:=(Di KY [2,3] Z7).eq (r':=.ε [.Z6 [J 18,J 22],J 0]) (by rw[w1])
 have h:=(DD KY).eq (r':=.ε [Ya [[0,1],[2,3]],J 0]) (by unfold Wp;rw[if_pos U,Sr])
 have i:=(yQ yS).eq (r':=.ε [ZP ⟨#[115,97,119,32,116,104,101]⟩,J 0]) (by rw[nn])
 have j:=(Gd KY [3,2] Z7).eq (r':=.ε [J 6,J 0]) (by unfold RO;rw[if_pos (by decide +kernel),np])
 have k:=(ny KY).eq (r':=.ε [J 0,J 1,J 0]) (by rw[nm])
 have m:=(Df KY 4 12 Z7 Dg (λ_=>by rw[Sr];decide)).eq (r':=.ε [ZP ⟨#[45,104]⟩,J 0]) (by rw[nk])
 have b:=DC
 have n:=y1
 have o:=EW [[0,1],[2,3]] [[0,1],[2,3]] Z7 Z7;clear w1;generalize Y1=p at g h j k m b;generalize Uy=r at i n;refine Μ.body Ο func11 U U ntmps11 U U Ω ?_
 repeat apply Γ
 refine Φ ?_;refine ZO ?_;refine ZG (A:=[1]) Ο λe a=>Δ ?_;refine Τ.d (b) (Δ ?_);refine Τ.c g (.cons (.refl _) (.cons .ex .nil)) Ω Ω ?_;simp;(repeat (rw[Η];simp));apply a;refine W.fix (id:=0) (σ':=[]) (Ζ _) U Ω Ω U [(1,.Ν [J 18,J 22]),(2,J 0)] Ω ?_;refine υ λe a=>?_;refine Τ.d (b) (Δ ?_);refine Τ.c h (Zw.refl _) Ω Ω ?_;simp;(repeat (rw[Η];simp));apply a;refine υ λe a=>?_;refine Τ.d (n) (Δ ?_);refine Τ.d (i) (Δ ?_);apply a;refine υ λe a=>?_;refine Τ.d (b) (Δ ?_);refine Τ.c j (.cons (.refl _) (.cons .ex .nil)) Ω Ω ?_;simp;(repeat (rw[Η];simp));apply a;refine υ λe a=>?_;refine Τ.d (b) (Δ ?_);refine Τ.d (k) (Δ ?_);apply a;refine υ λe a=>?_;refine Τ.d (b) (Δ ?_);refine Τ.d (m) (Δ ?_);apply a;refine υ λe a=>?_;refine Τ.c o (.cons (.refl _) (.cons (.map (l:=[[0,1],[2,3]]) (f:=T6) λx _=>.one .ex U U) .nil)) Ω Ω ?_;simp;(repeat (rw[Η];simp));apply a;refine Φ ?_;refine W.rt ?_;exact .of U
abbrev mW:ByteArray:=⟨#[75,105,110,103]⟩
def Mg:ZZ:={Y1 with left:=mW}
def mV:List VA:=⟨Ui,0,3⟩::Mm.tail
def Oo:ZZ:={Y1 with ZC:=mV}
def Mf:ZZ:={Y1 with words:=Y1.words++[Wo]}
def Pk:ZZ:={Y1 with UT:=2,US:=1}
def Q7:ZZ:={Y1 with W2:=30,UB:=30}
abbrev c1:List ByteArray:=[TY,Qm,Ql,Wo]
abbrev c2:List ByteArray:=[TY,Wo]
def RK:ZZ:=So Y1 c1
def On:ZZ:=So Y1 c2
theorem mU:ExG Mg []:=⟨rfl,rfl,by decide +kernel,by decide +kernel,by decide +kernel,by decide +kernel⟩
theorem mT:ExG Oo []:=⟨rfl,rfl,by decide +kernel,by decide +kernel,by decide +kernel,by decide +kernel⟩
theorem mS:ExG Mf []:=⟨rfl,rfl,by decide +kernel,by decide +kernel,by decide +kernel,by decide +kernel⟩
theorem mR:ExG Pk []:=⟨rfl,rfl,by decide +kernel,by decide +kernel,by decide +kernel,by decide +kernel⟩
theorem mQ:SN Q7 []:=⟨⟨rfl,rfl,by decide +kernel,by decide +kernel,by decide +kernel,by decide +kernel⟩,by decide +kernel,by decide +kernel,by decide +kernel,by decide +kernel,by decide +kernel⟩
theorem yA:SN RK []:=⟨⟨rfl,rfl,by decide +kernel,by decide +kernel,by decide +kernel,by decide +kernel⟩,by decide +kernel,by decide +kernel,by decide +kernel,by decide +kernel,by decide +kernel⟩
theorem yz:SN On []:=⟨⟨rfl,rfl,by decide +kernel,by decide +kernel,by decide +kernel,by decide +kernel⟩,by decide +kernel,by decide +kernel,by decide +kernel,by decide +kernel,by decide +kernel⟩
theorem mP:Tx Mg (VB (Xc []).ZX)=2:=by
 have h:UR Mg.ZT=0/\RS Mg=2:=by decide +kernel
 unfold Tx Pv;rw[h.1,h.2];rfl
theorem mO:Tx Oo (VB (Xc []).ZX)=1:=by
 have h:UR Oo.ZT=0/\RS Oo=0/\NI Oo=1:=by decide +kernel
 unfold Tx Pv;rw[h.1,h.2.1,h.2.2];rfl
theorem mN:Tx Mf (VB (Xc []).ZX)=5:=by
 have h:UR Mf.ZT=0/\RS Mf=5:=by decide +kernel
 unfold Tx Pv;rw[h.1,h.2];rfl
theorem mM:Tx Pk (VB (Xc []).ZX)=5:=by
 have h:UR Pk.ZT=0/\RS Pk=0/\NI Pk=0/\SU Pk.UT Pk.US 0 9=5:=by decide +kernel
 unfold Tx Pv;rw[h.1,h.2.1,h.2.2.1,h.2.2.2];rfl
theorem Ja:Ye=VP Y1.left Y1.right Y1.ZT:=rfl
theorem mL:Pq Y1 0 [0,1]=((12,16),0):=by decide +kernel
theorem mK:Pq Y1 0 []=((1,2),0):=by decide +kernel
theorem mJ {p q:Z0} (h:X2 p q=true):[q,p].mergeSort X2=[p,q]:=by
 letI:Z1:=XA;have f:∀a b c:Z0,X2 a b=true->X2 b c=true->X2 a c=true:=λa b c g k=>by
  have:=Pz.Mt.ntrans c b a (by simpa[X2] using k) (by simpa[X2] using g);simp[X2,this]
 have i:∀a b:Z0,(X2 a b||X2 b a)=true:=λa b=>by
  cases d:Zm Ms b a<;>cases e:Zm Ms a b<;>simp[X2,d,e];have:=Pz.Mt.trans a b a e d;rw[Pz.Mt.irrefl] at this;cases this
 exact I7 (le:=λa b=>X2 a b=true) (λa b _ _ h k=>Pz.DV a b (by simpa[X2] using k) (by simpa[X2] using h)) (I5 (le:=X2) f i _) (by simpa using h) ((Ma _ _).trans (List.Perm.swap ..))
abbrev C9:Z0:=⟨[Ui,Pr],Z7⟩
abbrev C8:Z0:=⟨[Qm,Ql],Z7⟩
theorem C7:RU Ov TY Wo=[C8,C9]/\RU [Ow,Wo] TY Wo=[]/\X2 C9 C8=true:=by decide +kernel
theorem mI:Qk Y1 0 Ye 0=([[Ui,Pr],[Qm,Ql]],0):=by
 have e:SQ Ov TY Wo=[C9,C8]:=by unfold SQ;rw[C7.1,mJ C7.2.2]
 show(Ra (SQ Ov TY Wo),(0:Int))=_;rw[e];rfl
theorem mH:Qk Y1 0 Ye 1=([],0):=by
 have e:SQ [Ow,Wo] TY Wo=[]:=by unfold SQ;rw[C7.2.1];exact List.mergeSort_nil
 show(Ra (SQ [Ow,Wo] TY Wo),(0:Int))=_;rw[e];rfl
theorem mG:Qk Y1 0 Ye 2=([],3):=by decide +kernel
theorem mF:RO Y1 0 Ye (Yu []) [2,3]=(0,0):=by unfold RO;rw[if_pos (by decide +kernel),Jf];decide +kernel
theorem mE:RO Y1 0 Ye (Yu []) [2,0]=(2,0):=by unfold RO;rw[if_pos (by decide +kernel),Jf];decide +kernel
theorem mD:RO Y1 0 Ye (Yu []) []=(3,0):=by unfold RO;rw[if_pos (by decide +kernel),Jf];decide +kernel
theorem mC:Wp Uy 0 Ye (Yu [⟨0,9,0⟩])=[[2,3]]:=by unfold Wp;rw[if_pos U];exact Nz
theorem mB:Pp Y1 0 Ye (Yu [])=(⟨#[]⟩,6):=by
 unfold Pp;rw[if_neg (by rw[Mk];simp),Sr];rfl
theorem yy:XK Uy 0 Ye (Yu [⟨0,9,0⟩])=0:=by unfold XK;rw[Nz];decide
theorem mA:Sq Y1 0 Ye (Yu []) 3=(3,0):=by
 unfold Sq;rw[if_neg Ω,if_neg Z7,if_neg (by rw[Mk];simp),Sr];decide +kernel
theorem mz:Sq Uy 0 Ye (Yu [⟨0,9,0⟩]) 3=(1,0):=by
 unfold Sq;rw[if_neg Ω,if_neg Z7,if_neg (by rw[yy];simp),Nz];decide +kernel
theorem my:Tu Y1 0 Ye (Yu []) 0=(⟨#[97,115]⟩,0):=by
 unfold Tu;rw[if_neg Ω,if_neg Z7,if_neg (by rw[Mk];simp),Sr];have e:(W5 Y1 [[0,1],[2,3]]).map (Vb 0)=[97,115]:=by decide +kernel
 have a:WM [97,115]=[97,115]:=F0 Z7;unfold KW;rw[e,a];decide +kernel
theorem mx:Tu Y1 0 Ye (Yu []) 6=(⟨#[45]⟩,0):=by
 unfold Tu;rw[if_neg Ω,if_neg Z7,if_neg (by rw[Mk];simp),Sr];have e:(W5 Y1 [[0,1],[2,3]]).map (Vb 6)=[45,45]:=by decide +kernel
 have a:WM [45,45]=[45,45]:=F0 Z7;unfold KW;rw[e,a];decide +kernel
theorem mw:Pm Y1 0 Ye (Yu [])=([0],0):=by
 have a:SK Y1 Ye (Yu []) 0=true:=by unfold SK;rw[Sr,Ja,F6,KU];decide +kernel
 have b:SK Y1 Ye (Yu []) 1=false:=by unfold SK;rw[Sr,Ja,F6,KU];decide +kernel
 letI:Z1:=XA;unfold Pm;rw[if_neg Ω,show Ye.length=0+1+1 from rfl,Jc,Jc,a,b];rfl
theorem mr:Pm Uy 0 Ye (Yu [⟨0,9,0⟩])=([0],0):=by
 have a:SK Uy Ye (Yu [⟨0,9,0⟩]) 0=true:=by unfold SK;rw[Nz,Ja,F6,KU];decide +kernel
 have b:SK Uy Ye (Yu [⟨0,9,0⟩]) 1=false:=by unfold SK;rw[Nz,Ja,F6,KU];decide +kernel
 letI:Z1:=XA;unfold Pm;rw[if_neg Ω,show Ye.length=0+1+1 from rfl,Jc,Jc,a,b];rfl
theorem yx:YQ RK (VP RK.left RK.right RK.ZT) (Yu [])=[[2,3]]:=by rw[KU];decide +kernel
theorem mq:YQ On (VP On.left On.right On.ZT) (Yu [])=[]:=by rw[KU];decide +kernel
theorem mo:Da (W5 Y1 (YQ Y1 Ye (Yu []))) ([0],0):=by
 rw[Sr];exact⟨λh=>absurd h (by decide +kernel),λ_=>⟨2,Z7,by decide +kernel⟩⟩
theorem mm:Da (W5 Uy (YQ Uy Ye (Yu [⟨0,9,0⟩]))) ([],0):=by
 rw[Nz];exact⟨λh=>absurd h (by decide +kernel),λ_=>⟨1,Z7,by decide +kernel⟩⟩
theorem ml:Po Y1 0 Ye (Yu [])=(0,0):=by
 have e:Q9 Y1 Ye (Yu [])=0:=by rw[Ja,yG];decide +kernel
 unfold Po;rw[if_neg Ω,e];rfl
theorem mj:Po Q7 0 (VP Q7.left Q7.right Q7.ZT) (Yu [])=(8,0):=by
 have e:Q9 Q7 (VP Q7.left Q7.right Q7.ZT) (Yu [])=8:=by rw[yG];decide +kernel
 unfold Po;rw[if_neg Ω,e];rfl
end Go.TL
namespace Go.TL
open Go.Proofs.Tryz
open Go.Proofs
variable [Z1]
abbrev yw (g:ZZ) (c:Ψ):ψ:=[UA g.ZT,ZP g.left,ZP g.right,Yw g.words,c,J g.UT,J g.US,J g.W2,J g.UB,WO g.ZX.ZN,Ya g.ZX.ZF,S5 g.ZX.cells,ZV g.lower]
abbrev mi (g:ZZ) (c:Ψ):ψ:=[UA g.ZT,ZP g.left,ZP g.right,c,PB g.ZC,J g.UT,J g.US,J g.W2,J g.UB,WO g.ZX.ZN,Ya g.ZX.ZF,S5 g.ZX.cells,ZV g.lower]
theorem yv:Yx (.sl true 1 [.sl true 1 (Ov.map ZP),.sl true 1 [ZP Ow,ZP Wo]]) (UA Y1.ZT):=.map (l:=Y1.ZT) (f:=λl:List ByteArray=>.sl true 1 (l.map ZP)) λx _=>.one .ex rfl rfl
theorem yu:Yx (.sl true 1 [.sl true 1 [J 2]]) (Ya Y1.ZX.ZF):=.map (l:=[[2]]) (f:=T6) λx _=>.one .ex rfl rfl
theorem yt:Yx (.sl true 1 [.sl true 0 []]) (S5 Y1.ZX.cells):=.map (l:=[([]:List XC)]) (f:=λ_=>.sl true 0 []) λx a=>by
 obtain rfl:x=[]:=by simpa using a
 exact .one .nil U U
theorem mh:Τ prog 12 [] (.Z6 (mi Y1 (.sl true 1 (Y1.words.map ZP)))):=by
 refine Μ.body Ο func12 U U ntmps12 U U Ω ?_
 repeat apply Γ
 refine ZG (A:=[0]) Ο λb a=>Δ ?_;apply a;refine υ λb a=>?_;refine Τ.d (W6 _ _ _) (Δ ?_);refine Τ.d (W6 _ _ _) (Δ ?_);refine Τ.d (W6 _ _ _) (Δ ?_);refine Τ.d (W6 _ _ _) (Δ ?_);refine Τ.d (W6 _ _ _) (Δ ?_);refine Τ.d (W6 _ _ _) (Δ ?_);refine Τ.d (W6 _ _ _) (Δ ?_);refine Τ.d (W6 _ _ _) (Δ ?_);apply a;refine W.fix (id:=0) (σ':=[]) (Ζ _) U Ω Ω U [(0,.Ν (ND (.sl true 1 [.sl true 0 []])))] Ω ?_;refine W.rt ?_;exact .Z6 (.cons yv (.cons (.refl _) (.cons (.refl _) (.cons (.refl _) (.cons .ex (.cons (.refl _) (.cons (.refl _) (.cons (.refl _) (.cons (.refl _) (.cons .ex (.cons yu (.cons yt (.cons (.refl _) .nil)))))))))))))
abbrev F2 (c:Ψ):ψ:=[.sl true 1 [.sl true 1 (Ov.map ZP),.sl true 1 [ZP Ow,ZP Wo]],ZP TY,ZP Wo,.sl true 1 [ZP Ui,ZP Pr,ZP Qm,ZP Ql],c,J 1,J 2,J 16,J 18,.sl true 2 [R5 ⟨Ui,4⟩,R5 ⟨⟨#[115]⟩,9⟩],.sl true 1 [.sl true 1 [J 2]],.sl true 1 [.sl true 0 []],ZV false]
theorem mg:Μ prog 12 [] [] (λa s=>a=.Z6 (F2 (.ms 1 8 0 8))/\s=[.cells 36 13 [.Z6 (F2 (.ms 1 8 0 8))],.cells 52 3 (Mm.map Uo)]) (λ_ _=>False):=by
 refine Μ.body Ο func12 U U ntmps12 U U Ω ?_
 repeat apply Γ
 refine ZG (A:=[0]) Ο λc b=>Δ ?_;apply b
 repeat apply Γ
 refine ZO ?_;refine ZG (A:=[14]) Ο λc b=>Δ ?_;refine Τ.d (W6 _ _ _) (Δ ?_);refine Τ.d (W6 _ _ _) (Δ ?_);refine Τ.d (W6 _ _ _) (Δ ?_);refine Τ.d (W6 _ _ _) (Δ ?_);refine Τ.d (W6 _ _ _) (Δ ?_);refine Τ.d (W6 _ _ _) (Δ ?_);refine Τ.d (W6 _ _ _) (Δ ?_);refine Τ.d (W6 _ _ _) (Δ ?_);apply b;exact W.ret ⟨_,U,U,U⟩
theorem mf:Μ prog 12 [] [] (λa s=>a=.Z6 (yw Y1 (.ms 1 8 0 8))/\s=[.cells 36 13 [.Z6 (F2 (.ms 1 8 0 8))],.cells 52 3 (Uo ⟨Ui,2,3⟩::Mm.tail.map Uo)]) (λ_ _=>False):=
 Μ.Rq mg (Zw.refl _) λa s ⟨b,c⟩=>⟨_,by
  rw[b];exact .Z6 (.cons yv (.cons (.refl _) (.cons (.refl _) (.cons .ex (.cons (.refl _) (.cons (.refl _) (.cons (.refl _) (.cons (.refl _) (.cons (.refl _) (.cons .ex (.cons yu (.cons yt (.cons (.refl _) .nil))))))))))))),U,c⟩
end Go.TL
namespace Go.TL
open Go.Proofs.Tryz
open Go.Proofs
structure me [Z1] (a b d e f g h c:ZZ):Prop where
 md:Τ prog 12 [] (YT a)
 lit:Τ prog 17 [] (YT b)
 filled:Τ prog 11 [] (ZV true)
 mc:Τ prog 13 [YT a] (J 0)
 mb:Τ prog 13 [YT d] (J 2)
 ma:Τ prog 13 [YT e] (J 1)
 l':Τ prog 13 [YT f] (J 5)
 l9:Τ prog 13 [YT g] (J 5)
 w1:Τ prog 14 [YT a,ζ J 1 [0,1]] (.ε [.Z6 [J 12,J 16],J 0])
 w2:Τ prog 14 [YT a,ζ J 1 []] (.ε [.Z6 [J 1,J 2],J 0])
 l8:Τ prog 15 [YT a,J 0] (.ε [UA [[Ui,Pr],[Qm,Ql]],J 0])
 l7:Τ prog 15 [YT a,J 1] (.ε [UA [],J 0])
 p2:Τ prog 15 [YT a,J 2] (.ε [UA [],J 3])
 Lq:Τ prog 7 [YT a,ζ J 1 [2,3]] (.ε [J 0,J 0])
 Qp:Τ prog 7 [YT a,ζ J 1 [2,0]] (.ε [J 2,J 0])
 l6:Τ prog 7 [YT a,ζ J 1 []] (.ε [J 3,J 0])
 l5:Τ prog 8 [YT b] (.ε [Ya [[2,3]],J 0])
 f1:Τ prog 18 [YT a] (.ε [ZP ⟨#[]⟩,J 6])
 v1:Τ prog 19 [YT a,J 3] (.ε [J 3,J 0])
 v2:Τ prog 19 [YT b,J 3] (.ε [J 1,J 0])
 l0:Τ prog 20 [YT a,J 0] (.ε [ZP ⟨#[97,115]⟩,J 0])
 l4:Τ prog 20 [YT a,J 6] (.ε [ZP ⟨#[45]⟩,J 0])
 l3:Τ prog 22 [YT a] (.ε [ζ J 1 [0],J 0])
 lZ:Τ prog 22 [YT b] (.ε [ζ J 1 [0],J 0])
 d1:Τ prog 23 [YT a,Yw c1] (.ε [YT c,J 0])
 d2:Τ prog 23 [YT a,Yw c2] (.ε [YT Qi,J 9])
 lY:Τ prog 8 [YT c] (.ε [Ya [[2,3]],J 0])
 s1:Τ prog 25 [YT a] (.ε [ζ J 1 [0],J 0])
 s2:Τ prog 25 [YT b] (.ε [ζ J 1 [],J 0])
 r1:Τ prog 9 [YT a] (.ε [J 0,J 0])
 r2:Τ prog 9 [YT h] (.ε [J 8,J 0])
theorem ys:F4 Y1:=⟨⟨by decide +kernel,λl a=>UJ (Dj.ZT.2 l a).1 Z7⟩,by decide +kernel,by decide +kernel,Ou.small.ZX⟩
theorem yr (c:List ByteArray) (h:(Y1.ZT++[c]).length<1000/\∀l∈Y1.ZT++[c],l.length<1000/\∀x∈l,x.size<1000):Gu (Y1.ZT++[c]):=
 ⟨UJ h.1 Z7,λl a=>⟨UJ (h.2 l a).1 Z7,λx b=>UJ ((h.2 l a).2 x b) Z7⟩⟩
theorem lX:Sn Y1 0 c1 Ye (VP RK.left RK.right RK.ZT) (Yu []) (Yu [])=(RK,0):=by
 unfold Sn;rw[if_neg Ω,if_neg Z7,if_neg (by rw[show Y1.ZT++[c1]=RK.ZT from rfl,yA.Dk.1];simp),if_neg (λh=>?_)]
 .rfl
 .have:=h.2;rw[show So Y1 c1=RK from rfl,yx] at this;cases this
theorem lW:Sn Y1 0 c2 Ye (VP On.left On.right On.ZT) (Yu []) (Yu [])=(Qi,9):=by
 unfold Sn;rw[if_neg Ω,if_neg Z7,if_neg (by rw[show Y1.ZT++[c2]=On.ZT from rfl,yz.Dk.1];simp),if_pos ⟨by rw[Sr];decide,mq⟩]
theorem lV:@me XA Y1 Uy Mg Oo Mf Pk Q7 RK:=by
 letI:Z1:=XA;have Ι:UM Y1 0 Ye (Yu []):=KY;have Wz:UM Uy 0 Ye (Yu [⟨0,9,0⟩]):=yS;have Κ:=mQ.Jj Ou;have b:=yA.Jj Ou;have d:=yz.Jj Ou;have a:Dm Y1 Ye:=Dj.yT;have c:(0:Int)=0->(YQ Y1 Ye (Yu [])).length<=12:=λ_=>by rw[Sr];decide
 exact ⟨
  DC,
  y1,
  mX,
  Ι.check,
  (mU.check Ou).eq (by rw[mP]),
  (mT.check Ou).eq (by rw[mO]),
  (mS.check Ou).eq (by rw[mN]),
  (mR.check Ou).eq (by rw[mM]),
  (Di Ι [0,1] Z7).eq (by rw[mL]),
  (Di Ι [] Z7).eq (by rw[mK]),
  (Dl Ι (λ_=>a) 0).eq (by rw[mI]),
  (Dl Ι (λ_=>a) 1).eq (by rw[mH]),
  (Dl Ι (λ_=>a) 2).eq (by rw[mG]),
  (Gd Ι [2,3] Z7).eq (by rw[mF]),
  (Gd Ι [2,0] Z7).eq (by rw[mE]),
  (Gd Ι [] Z7).eq (by rw[mD]),
  (DD Wz).eq (by rw[mC]),
  (yQ Ι).eq (by rw[mB]),
  (yF Ι 3).eq (by rw[mA]),
  (yF Wz 3).eq (by rw[mz]),
  (Df Ι 0 12 Z7 Dg c).eq (by rw[my]),
  (Df Ι 6 12 Z7 Dg c).eq (by rw[mx]),
  (yC Ι (λ_=>Z7)).eq (by rw[mw]),
  (yC Wz (λ_=>Z7)).eq (by rw[mr]),
  (yB Ι c1 (λ_=>ys) Z7 (λ_=>yr c1 (by decide +kernel)) (λ_ _ _=>b)).eq (by rw[lX]),
  (yB Ι c2 (λ_=>ys) Z7 (λ_=>yr c2 (by decide +kernel)) (λ_ _ _=>d)).eq (by rw[lW]),
  (DD b).eq (by unfold Wp;rw[if_pos U,yx]),
  (yD Ι ([0],0) (λ_=>mo)).eq (by unfold Ny;rw[if_neg (by rw[Mk];simp)]),
  (yD Wz ([],0) (λ_=>mm)).eq (by unfold Ny;rw[if_neg (by rw[yy];simp)]),
  (yL Ι).eq (by rw[ml]),
  (yL Κ).eq (by rw[mj])⟩
theorem lU [Z1] {K E:Ψ->Ρ->Prop} (b:K (.Z6 (yw Y1 (.ms 1 8 0 8))) [.cells 36 13 [.Z6 (F2 (.ms 1 8 0 8))],.cells 52 3 (Uo ⟨Ui,2,3⟩::Mm.tail.map Uo)]) :
  Yg prog (.fn (.func 12) [] []) [] [] K E:=
 Μ.call (first:=[]) (captured:=[]) (mf.mono (λa r ⟨c,d⟩=>by rw[c,d];exact b) (λa s h=>h.elim))
theorem Y0.plain [Z1] {id k:Nat} {σ:Ρ} {t:TypeId} {l:ψ} (d:σ[id]?=some (.cells t k [.Z6 l])) (e:∀a∈l,η 0 a):Y0 0 σ (.π id 1 0 0) (.Ν l):=
 Y0.struct (Ζ _) d U λx a a' b c=>by
  rw[b] at c;cases c;exact .low (e a (ZH b))
theorem lT:@W XA prog 0 365 [.code (Tryz.f4.body.getD .skip)] (entry 0 []) [] (λj env _=>(∃k,j=.code .ret::k)/\ι env 0=ZV true) (λ_ _ _=>False):=by
 letI:Z1:=XA;have n:=DC;have E:=mh;obtain⟨w,v⟩:=Z' (Mm.tail.map Uo);have y:w.length=7:=by rw[v];rfl
 have F:∀e∈w,∀a∈e.cells,η 0 a:=λe he a u=>by
  rw[v] at he;obtain⟨b,_,rfl⟩:=Zh.1 he;simp[Ψ.cells] at u;rcases u with rfl|rfl|rfl<;>simp
 show W prog 0 365 [.code _] _ _ _ _;refine W.seq ?_
 repeat apply Γ
 refine MO ?_;refine ZO ?_;refine ZG (A:=[1,2,3,4,5]) Ο λm g=>Δ ?_;refine Τ.d (n) (Δ ?_);refine lU ?_;rw[<-v];simp;(repeat (rw[Η];simp));refine Τ.d (E) (Δ ?_);refine Τ.d (n) (Δ ?_);refine Τ.d (n) (Δ ?_);apply g
 repeat apply Γ
 refine W.zP [0,1] [7] [3] (A:=[]) Ο mixed λm g=>?_;simp[y]
 repeat (rw[D4];simp[D5,seen,SS,y])
 try rw[zV]
 refine⟨Z7,E9 Wf,g _ _ ?_⟩;clear g m;refine υ λm g=>?_;apply g;refine W.cut 0 (ZY _) [(0,ZV false),(1,.Ν (Y5 Mg)),(2,.Ν (Y5 Oo)),(3,.Ν (Y5 Mf)),(4,.Ν (Y5 Pk)),(5,.Ν (Y5 Q7))] Ω (λid r N O=>I) (λp K=>by
  simp only[Yd,Vw,or_false] at K;rcases K with rfl|rfl|rfl|rfl|rfl|rfl
  .exact .low (.z _)
  .exact Y0.plain (id:=2) U Ω
  .refine Y0.struct (h:=0) (id:=3) (Ζ _) U U (λx a a' o s=>?_)
   match x,o,s with
   | 4,o,s=>
    cases o;cases s;have e:PB Oo.ZC=.sl false 3 (Uo ⟨Ui,0,3⟩::w):=by rw[v];rfl
    rw[e];exact Y0.own (id:=1) (t:=52) (Ζ _) U (by simp[y]) (λe he a u=>by
     rcases Yd.1 he with rfl|he
     .simp[Ψ.cells] at u;rcases u with rfl|rfl|rfl<;>simp
     .exact F e he a u)
   | 0,o,s|1,o,s|2,o,s|3,o,s|5,o,s|6,o,s|7,o,s|8,o,s|9,o,s|10,o,s|11,o,s|12,o,s=>
    cases o;cases s;exact .low Ω
  .exact Y0.plain (id:=4) U Ω
  .exact Y0.plain (id:=5) U Ω
  .exact Y0.plain (id:=6) U Ω) ?_
 rw[List.take_zero];clear y F v w E;have H:=lV;clear n;generalize Y1=P at H;generalize Uy=Q at H;generalize Mg=R at H ⊢;generalize Oo=S at H ⊢;generalize Mf=T at H ⊢;generalize Pk=V at H ⊢;generalize Q7=B at H ⊢;generalize RK=L at H;have n:=H.md;have C:=H.lit;refine υ λm g=>?_;refine Τ.d (H.filled) (Δ ?_);refine Τ.d (n) (Δ ?_);refine Τ.d (H.mc) (Δ ?_);refine Τ.d (H.mb) (Δ ?_);refine Τ.d (H.ma) (Δ ?_);refine Τ.d (H.l') (Δ ?_);refine Τ.d (H.l9) (Δ ?_);apply g;refine Κ U ?_;refine ZO ?_;refine ZG (A:=[6]) Ο λm g=>Δ ?_;refine Τ.d (n) (Δ ?_);refine Τ.c H.w1 (.cons (.refl _) (.cons .ex .nil)) Ω Ω ?_;simp;(repeat (rw[Η];simp));apply g;refine W.fix (id:=0) (σ':=[]) (Ζ _) U Ω Ω U [(6,.Ν [J 12,J 16]),(7,J 0),(5,.Ν (Y5 B))] Ω ?_;refine ZO ?_;refine ZG (A:=[8]) Ο λm g=>Δ ?_;refine Τ.d (n) (Δ ?_);refine Τ.c H.w2 (.cons (.refl _) (.cons .nil .nil)) Ω Ω ?_;simp;(repeat (rw[Η];simp));apply g;refine W.fix (id:=0) (σ':=[]) (Ζ _) U Ω Ω U [(8,.Ν [J 1,J 2]),(9,J 0),(6,.Ν [J 12,J 16]),(7,J 0),(5,.Ν (Y5 B))] Ω ?_;refine υ λm g=>?_;refine Τ.d (n) (Δ ?_);refine Τ.d (H.l8) (Δ ?_);apply g;refine υ λm g=>?_;refine Τ.d (n) (Δ ?_);refine Τ.d (H.l7) (Δ ?_);apply g;refine υ λm g=>?_;refine Τ.d (n) (Δ ?_);refine Τ.d (H.p2) (Δ ?_);apply g;refine υ λm g=>?_;refine Τ.c (nV [[Ui,Pr],[Qm,Ql]] [[Ui,Pr],[Qm,Ql]] Z7 Z7) (.cons (.refl _) (.cons (.map (l:=[[Ui,Pr],[Qm,Ql]]) (f:=λl:List ByteArray=>.sl true 1 (l.map ZP)) λx _=>.one .ex U U) .nil)) Ω Ω ?_;simp;(repeat (rw[Η];simp));apply g;refine Κ Ω ?_;refine υ λm g=>?_;apply g;refine υ λm g=>?_;apply g
 repeat apply Γ
 refine W.iter (λi:Nat=>i<=3) (λi=>[(16,.sl true 1 [.sl true 1 [J 2,J 3],.sl true 1 [J 2,J 0],.sl true 0 []]),(17,.sl true 1 [J 0,J 2,J 3]),(18,J i),(5,.Ν (Y5 B))]) (λ_=>[]) (λi=>3-i) 0 (Ζ _) U Ω (λi hi D=>?_);have M:i=0\/i=1\/i=2\/i=3:=I;rcases M with rfl|rfl|rfl|rfl
 .refine Φ ?_;refine Ι Ω ?_
  repeat apply Γ
  refine W.draw (A:=[]) Ο mixed λm g=>VG ?_;refine XV (Τ.q (n)) (VG ?_);refine XV (Τ.p H.Lq (.cons (.refl _) (.cons .ex .nil)) Ω Ω) ?_;simp;(repeat (rw[Za];simp));try rw[YL]
  refine Yn (g _ _ ?_);refine υ λm g=>?_;apply g;refine Κ Ω ?_;refine Φ ?_;exact W.to (D 1 I I) U (by simp[show IntKind.i64.wrap 1=1 by decide])
 .refine Φ ?_;refine Ι Ω ?_
  repeat apply Γ
  refine W.draw (A:=[]) Ο mixed λm g=>VG ?_;refine XV (Τ.q (n)) (VG ?_);refine XV (Τ.p H.Qp (.cons (.refl _) (.cons .ex .nil)) Ω Ω) ?_;simp;(repeat (rw[Za];simp));try rw[YL]
  refine Yn (g _ _ ?_);refine υ λm g=>?_;apply g;refine Κ Ω ?_;refine Φ ?_;exact W.to (D 2 I I) U (by simp[show IntKind.i64.wrap 2=2 by decide])
 .refine Φ ?_;refine Ι Ω ?_
  repeat apply Γ
  refine W.draw (A:=[]) Ο mixed λm g=>VG ?_;refine XV (Τ.q (n)) (VG ?_);refine XV (Τ.p H.l6 (.cons (.refl _) (.cons .nil .nil)) Ω Ω) ?_;simp;(repeat (rw[Za];simp));try rw[YL]
  refine Yn (g _ _ ?_);refine υ λm g=>?_;apply g;refine Κ Ω ?_;refine Φ ?_;exact W.to (D 3 I I) U (by simp[show IntKind.i64.wrap 3=3 by decide])
 refine Φ ?_;refine Κ Ω ?_;refine W.exit U ?_;refine υ λm g=>?_;refine Τ.d (C) (Δ ?_);refine Τ.d (H.l5) (Δ ?_);apply g;refine υ λm g=>?_;refine Τ.d (n) (Δ ?_);refine Τ.d (H.f1) (Δ ?_);apply g;refine υ λm g=>?_;refine Τ.d (n) (Δ ?_);refine Τ.d (H.v1) (Δ ?_);apply g;refine υ λm g=>?_;refine Τ.d (C) (Δ ?_);refine Τ.d (H.v2) (Δ ?_);apply g;refine υ λm g=>?_;refine Τ.d (n) (Δ ?_);refine Τ.d (H.l0) (Δ ?_);apply g;refine υ λm g=>?_;refine Τ.d (n) (Δ ?_);refine Τ.d (H.l4) (Δ ?_);apply g;refine υ λm g=>?_;refine Τ.c (EW [[2,3]] [[2,3]] Z7 Z7) (.cons (.refl _) (.cons (.map (l:=[[2,3]]) (f:=T6) λx _=>.one .ex U U) .nil)) Ω Ω ?_;simp;(repeat (rw[Η];simp));apply g;refine Κ Ω ?_;refine υ λm g=>?_;refine Τ.d (n) (Δ ?_);refine Τ.d (H.l3) (Δ ?_);apply g;refine υ λm g=>?_;refine Τ.d (C) (Δ ?_);refine Τ.d (H.lZ) (Δ ?_);apply g;refine ZO ?_;refine ZG (A:=[29]) Ο λm g=>Δ ?_;refine Τ.d (n) (Δ ?_);refine Τ.c H.d1 (.cons (.refl _) (.cons .ex .nil)) Ω Ω ?_;simp;(repeat (rw[Η];simp));apply g;refine W.fix (id:=0) (σ':=[]) (Ζ _) U Ω Ω U [(29,.Ν (Y5 L)),(11,J 0),(7,J 0),(9,J 0),(27,ζ J 1 [0]),(28,ζ J 1 [0]),(5,.Ν (Y5 B))] Ω ?_;refine υ λm g=>?_;refine Τ.d (n) (Δ ?_);refine Τ.c H.d2 (.cons (.refl _) (.cons .ex .nil)) Ω Ω ?_;simp;(repeat (rw[Η];simp));apply g;refine υ λm g=>?_;refine Τ.c (Hj [0] [0] Z7) (.cons (.refl _) (.cons .ex .nil)) Ω Ω ?_;simp;(repeat (rw[Η];simp));refine Τ.c (Hj [0] [0] Z7) (.cons (.refl _) (.cons .ex .nil)) Ω Ω ?_;simp;(repeat (rw[Η];simp));apply g;refine Κ Ω ?_;refine υ λm g=>?_;refine Τ.d (H.lY) (Δ ?_);apply g;refine υ λm g=>?_;refine Τ.d (n) (Δ ?_);refine Τ.d (H.s1) (Δ ?_);apply g;refine υ λm g=>?_;refine Τ.d (C) (Δ ?_);refine Τ.d (H.s2) (Δ ?_);apply g;refine υ λm g=>?_;refine Τ.d (n) (Δ ?_);refine Τ.d (H.r1) (Δ ?_);apply g;refine υ λm g=>?_;refine Τ.d (H.r2) (Δ ?_);apply g;refine υ λm g=>?_;refine Τ.c (EW [[2,3]] [[2,3]] Z7 Z7) (.cons (.refl _) (.cons (.map (l:=[[2,3]]) (f:=T6) λx _=>.one .ex U U) .nil)) Ω Ω ?_;simp;(repeat (rw[Η];simp));refine Τ.c (Hj [0] [0] Z7) (.cons (.refl _) (.cons .ex .nil)) Ω Ω ?_;simp;(repeat (rw[Η];simp));apply g;exact W.stop ⟨⟨_,U⟩,Ω⟩
end Go.TL
