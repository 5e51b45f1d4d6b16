import Derived.Test.YtlabjopijpkiaaaGreatJAU
set_option maxHeartbeats 16000000
set_option maxRecDepth 20000
set_option linter.unusedSectionVars false
set_option linter.unusedSimpArgs false
set_option linter.unusedVariables false
namespace Go.TL
open Go.IntKind (i64)
open Go.Proofs.Tryz
open Go.Sort (heapBuild heapPop ltInt partEqLoop partEqLoop_eq partLoop partLoop_eq reverseLoop scanDown scanUp swp)
open Go.Conc
variable [ZX]
inductive Rg (id k:Nat) (l:κ):Ω->Ω->Prop where
 | same (a:Ω):Rg id k l a a
 | ms:Rg id k l (.ms id l.length 0 l.length) (.sl false k l)
 | Κ {e:Ω}:l=[e]->Rg id k l (.Κ id 1 0 0) (.Θ e.cells)
def KX (id k:Nat) (l:κ) (r r':Row):Prop:=r'=r\/∃t n es es',r=.cells t n es/\r'=.cells t n es'/\es'.length=es.length/\
 ∀(i:Nat) (e b:Ω),es[i]?=some e->es'[i]?=some b->b.cells.length=e.cells.length/\∀(x:Nat) (a c:Ω),e.cells[x]?=some a->b.cells[x]?=some c->Rg id k l a c
section
variable {P:Program} {S:μ} {B:Z8} {H:Χ} {σ σ':Ο} {m nt id k:Nat} {t:TypeId} {l:κ} {kk:List Item} {env:ω} {Z:X7} {E:Yn}
def μ.set (S:μ) (B:Z8) (H:Χ) (id:Nat):μ:=λb o=>match B[id]? with
 | some (some (a,_))=>if b=a then(H.θ b o).map (·.1) else S b o
 | _=>S b o
theorem By {b N:Nat} (a:B[id]?=some (some (b,N))) (o:Nat):S.set B H id b o=(H.θ b o).map (·.1):=by
 unfold μ.set;rw[a];simp
theorem Bx (a:Holds S B σ H) (c:σ[id]?=some (.cells t k l)):∀b o v,S b o=some v->S.set B H id b o=some v:=λb o v hv=>by
 unfold μ.set;split
 .rename_i f N d;split
  .rename_i e;subst e;rw[a.sep id _ b N c trivial d o] at hv;cases hv
  .exact hv
 .exact hv
theorem Zx.PB (c:Holds S B σ H) (b:σ[id]?=some (.cells t k l)) (d:σ'[id]?=some .dead) (f:∀j r,j≠id->σ[j]?=some r->∃r',σ'[j]?=some r'/\KX id k l r r'):Zx S (S.set B H id) B B σ σ':=
 ⟨Bx c b,λj r a=>by
  by_cases e:j=id
  .subst e;rw[b] at a;cases a;exact⟨.dead,d,.inr λn _=>trivial⟩
  .obtain⟨r',g,h⟩:=f j r e a;refine⟨r',g,?_⟩;rcases h with rfl|⟨t,n,es,es',rfl,rfl,i,_⟩
   .exact Row.P8 _ _
   .exact .inl ⟨es',rfl,i,rfl⟩⟩
theorem π.Bw (s:Holds S B σ H) (g:σ[id]?=some (.cells t k l)) (o:Zx S (S.set B H id) B B σ σ') {a u:Ω} (C:Rg id k l a u) {v:Value} (p:π S B σ a v):π (S.set B H id) B σ' u v:=by
 cases C with
 | same=>exact p.later o
 | ms=>
  cases p with
  | ms cap d h i F D r=>
   rw[g] at d;cases d;by_cases y:l=[]
   .subst y;exact .Wo _ _ I
   .have J:0<l.length:=RQ.2 y;rcases r with r|⟨b,N,rfl,rfl,r⟩
    .omega
    .obtain⟨_,_,_,w,m⟩:=s.row id _ _ g i;rw[OF];refine .sl b 0 cap (λj x=>w j x) I D (λj e n=>(m j e n).1) (λj e n x c f=>?_) (λj e n x c f=>?_)
     .have:=((m j e n).2 x c f).1;rw[By i,UQ,this];rfl
     .exact(((m j e n).2 x c f).2.1).later o
  | Vt v d h=>rw[g] at d;cases d;simp only[Row.WB] at h;omega
 | @Κ e E=>
  subst E;cases p with
  | Κ d h i=>
   rw[g] at d;cases d;obtain⟨_,_,_,w,m⟩:=s.row id _ _ g i;have A:=m 0 e rfl;refine .Θ _ _ (λx=>w 0 x) (λx a f=>?_) (λx a f=>?_)
   .have:=(A.2 x a f).1;rw[By i,Nat.add_zero,this];rfl
   .exact((A.2 x a f).2.1).later o
  | Ve v d h=>rw[g] at d;cases d;simp[Row.WB] at h
theorem W.PB (a7:m<=id) (f:σ[id]?=some (.cells t k l)) (aa:σ'.length=σ.length) (F:σ'[id]?=some .dead) (ab:∀j r,j≠id->σ[j]?=some r->∃r',σ'[j]?=some r'/\KX id k l r r') (env':ω) (aC:∀p∈env',Rg id k l (Z7 env p.1) p.2)
  (aD:W P m nt kk env' σ' Z E):W P m nt kk env σ Z E:=by
 intro aE mn x cs b S B H ZS J K L aF aG;have c:=L.holds;have M:=Zx.PB c f F ab;have back:∀j r',j≠id->σ'[j]?=some r'->∃r,σ[j]?=some r/\KX id k l r r':=λj r' O h=>by
  have s:j<σ.length:=by rw[<-aa];exact(ZA.1 h).1
  obtain⟨an,Q,ad⟩:=ab j _ O (δ s);rw[h] at Q;cases Q;exact⟨_,δ s,ad⟩
 have R:∀{r r':Row},KX id k l r r'->r'.live->r.live:=λ{r r'} h hv=>by
  rcases h with rfl|⟨_,_,_,_,rfl,rfl,_⟩
  .exact hv
  .trivial
 have aH:Holds (S.set B H id) B σ' H:=by
  refine⟨λb o v h=>?_,by rw[aa];exact c.len,λj r bo d aI=>?_,λi j ao ap b aJ aK aL hi O aq ar aM aN=>?_,λj r b N d ae K o=>?_⟩
  .unfold μ.set at h;split at h
   .split at h
    .cases au:H.θ b o with
     | none=>rw[au] at h;cases h
     | some x=>rw[au] at h;cases h;exact⟨x.2,rfl⟩
    .exact c.YO b o v h
   .exact c.YO b o v h
  .by_cases e:j=id
   .subst e;rw[F] at d;cases d;trivial
   .obtain⟨aO,Q,ad⟩:=back j r e d;have T:=c.row j aO bo Q aI;rcases ad with rfl|⟨t2,n,es,es',rfl,rfl,af,aP⟩
    .refine T.later M (λb N _=>⟨λ_=>rfl,rfl,rfl⟩) λav left a8 Φ=>?_;subst Φ;obtain⟨_,_,a9,a',xs,ba,seen,_,aw,⟨es,g⟩,_⟩:=T;refine⟨?_,rfl,λb N _=>⟨λ_=>rfl,rfl,rfl⟩⟩;have U:av≠id:=λe=>by subst e;rw[f] at g;cases g
     obtain⟨r',aQ,aR⟩:=ab av _ U g;rcases aR with rfl|⟨_,_,_,_,aS,_⟩
     .rw[aQ,g]
     .cases aS
    .cases bo with
     | none=>
      have:es=[]:=T;subst this;exact YL.1 af
     | some y=>
      obtain⟨b,N⟩:=y;obtain⟨u,A,C,w,D⟩:=T;refine⟨u,by rw[af];exact A,C,w,λi aT hi=>?_⟩;have s:i<es.length:=by rw[<-af];exact(ZA.1 hi).1
      obtain⟨aU,aV⟩:=D i _ (δ s);obtain⟨d1,d2⟩:=aP i _ aT (δ s) hi;refine⟨d1.trans aU,λx aW J=>?_⟩;have ax:x<(es[i]).cells.length:=by rw[<-d1];exact(ZA.1 J).1
      obtain⟨aw,g,aX⟩:=aV x _ (δ ax);exact⟨aw,g.Bw c f M (d2 x _ aW (δ ax) J),aX⟩
  .have ay:∀j r,σ'[j]?=some r->r.live->j≠id:=λj r h hv e=>by subst e;rw[F] at h;cases h;exact hv
   obtain⟨V,X,Y⟩:=back i ao (ay i ao hi aq) hi;obtain⟨an,aY,aZ⟩:=back j ap (ay j ap O ar) O;exact c.inj i j V an b aJ aK aL X aY (R Y aq) (R aZ ar) aM aN
  .have U:j≠id:=λe=>by subst e;rw[F] at d;cases d;exact ae
   obtain⟨V,X,Y⟩:=back j r U d;have az:=c.sep j V b N X (R Y ae) K o;unfold μ.set;split
   .rename_i a0 a1 ag;split
    .rename_i e;subst e;exact(c.inj j id V _ b N a1 U X f (R Y ae) trivial K ag).elim
    .exact az
   .exact az
 have a2:Ext S B H (S.set B H id) B H:=by
  refine⟨Bx c f,λ_ _ _=>Tf.of ⟨λ_=>rfl,rfl,rfl⟩,λ_ h=>.inl h,λb o v hv=>?_,λ_ h=>h⟩;unfold μ.set at hv;split at hv
  .rename_i a0 N ag;split at hv
   .rename_i e;subst e;exact .inr (.inl ⟨N,Zi ag⟩)
   .exact .inl hv
  .exact .inl hv
 have aA:XX m S B H σ (S.set B H id) B H σ':=⟨a2,M.left m⟩
 have a3:∀(l2:ω),(∀p∈l2,Rg id k l (Z7 env p.1) p.2)->∀i,π S B σ (Z7 env i) (ZS.getD i undef)->π (S.set B H id) B σ' (Z7 l2 i) (ZS.getD i undef):=by
  intro l2
  induction l2 with
  | nil=>intro _ i _;exact .Zl _
  | cons p l2 a4=>
   intro aB i d;simp only[Z7];split
   .rename_i e;subst e;exact d.Bw c f M (aB p I)
   .exact a4 (λq a5=>aB q (by simp[a5])) i d
 refine aD aE mn x cs b _ _ H ZS J K ⟨aH,λi=>a3 env' aC i (L.Zm i),L.size,by rw[aa];exact L.rows⟩ (λj ah ai aj ak al t2 am u A C D=>?_) (λa ah ai aj ak al t2 am v u A C D a6=>?_)
 .exact aF j ah ai aj ak al t2 am u (aA.trans A) C D
 .exact aG a ah ai aj ak al t2 am v u (aA.trans A) C D a6
end
end Go.TL
namespace Go.TL
open Go.IntKind (i64)
open Go.Proofs.Tryz
open Go.Sort (heapBuild heapPop ltInt partEqLoop partEqLoop_eq partLoop partLoop_eq reverseLoop scanDown scanUp swp)
open Go.Proofs
variable [ZX]
theorem sj (d:Zk) (n:Nat):(V1 d n).1.Pairwise (· < ·)/\∀x∈(V1 d n).1,0<=x/\x<n:=by
 induction n with
 | zero=>exact⟨List.Pairwise.nil,λx h=>(by cases h)⟩
 | succ n e=>
  show((V1 d n).1++_).Pairwise _/\∀x∈(V1 d n).1++_,_;constructor
  .rw[NJ];refine⟨e.1,by split<;>simp,λa g b f=>?_⟩;have:=e.2 a g;split at f
   .simp at f;omega
   .simp at f
  .intro x c;rcases Wd.1 c with c|c
   .have:=e.2 x c;omega
   .split at c
    .simp at c;omega
    .simp at c
structure NT (L:List (List Int)):Prop where
 lo:1<=L.length
 hi:L.length<=4
 each:∀l∈L,l.length<=3/\l.Pairwise (· < ·)/\∀x∈l,0<=x/\x<3
theorem si {l:List Int} (b:l.Pairwise (· < ·)) (c:∀x∈l,0<=x/\x<3):M6 l=0:=by
 refine KY λx d=>?_;obtain⟨i,hi,rfl⟩:=Zq.1 d;have hi:=Ws.1 hi;unfold N7;rw[δ hi];have e:=c _ (YF hi);simp only;rw[if_neg,if_neg]
 .rintro⟨f,a⟩;rw[δ U] at a;have:=Q'.1 b (i-1) i U hi U;simp only[Option.getD_some] at a;omega
 .unfold UI;simp;omega
theorem NT.err {L:List (List Int)} (h:NT L):SE L=0:=by
 unfold SE;have d:=h.lo;have e:=h.hi;rw[if_neg U,if_neg U];refine KY λx a=>?_;obtain⟨i,hi,rfl⟩:=Zq.1 a;have hi:=Ws.1 hi;rw[δ hi];obtain⟨_,b,c⟩:=h.each _ (YF hi);exact si b c
abbrev Z5:Ω:=.sl true 0 []
structure sh where
 k:Nat
 d:Zk
 L:List (List Int)
theorem RR {L:List (List Int)}:∀e∈L.map (Z9 J 1),∀a∈e.cells,ς 0 a:=λe c a b=>by
 obtain⟨x,_,rfl⟩:=Zq.1 c;simp[Ω.cells] at b;subst b;simp[YG,Ω.cells]
theorem sg (d:Zk) (hd:d.Z0.length<2 ^ 63) (N v:Nat) (ay:1<=N) (az:N<=6) (aS:v<=4) :
  Μ prog 90 [.Κ 0 1 0 0,J N,J v] [ZH d] (λa s=>∃G L nc ag,Zh a (.ZT [ν G,ξ L,ZV 4 (List.replicate nc Z5)])/\RU G/\NT L/\(nc<=v/\G.length<=N/\L.length<=3)/\s=ZH ag::.dead::.dead::.dead::η 60 1 (List.replicate nc Z5)/\ag.Z0.length<=d.Z0.length) (λ_ _=>False):=by
 refine Μ.body Ρ func90 rfl rfl ntmps90 rfl rfl I ?_
 repeat apply Ξ
 refine Y4 (A:=[6]) Ρ λF m=>Z6 ?_;apply m
 repeat apply Ξ
 refine Y4 (A:=[7]) Ρ λF m=>Z6 ?_;refine RS.c (sk d hd N ay az) 0 rfl (ZM.refl _) I (by rintro r ⟨l,rfl,_⟩;exact YG.2 Ty) ?_;rintro r d1 ⟨G,rfl,aA,aB⟩ aC;simp;(repeat (rw[Ν];simp));apply m;have aD:d1.Z0.length<2 ^ 63:=U;obtain⟨aE,aF⟩:=My d1 (a:=1) (b:=3) ZY ZY ZY;obtain⟨R,ah⟩:∃n:Nat,S2 d1 1 3=n:=⟨(S2 d1 1 3).toNat,U⟩;rw[ah] at aE aF;obtain⟨d2,ai⟩:=ZG (d1.after (i64.wrap (3-1)));have aG:d2.Z0.length<=d.Z0.length:=by rw[<-ai];exact X' (VN _ _) aC
 have O:=MG d1 aD 1 3;rw[ah,ai] at O;refine Z' λF m=>?_;refine YM.g (O) (Z6 ?_);apply m;have Y:∀L:List (List Int),(ZV 3 (L.map (Z9 J 1))=.sl true 0 []/\η 29 1 (L.map (Z9 J 1))=[]/\L=[])\/(ZV 3 (L.map (Z9 J 1))=.ms 3 L.length 0 L.length/\η 29 1 (L.map (Z9 J 1))=[.cells 29 1 (L.map (Z9 J 1))]/\0<L.length):=λL=>by
  by_cases t:L=[]
  .subst t;exact .inl ⟨rfl,rfl,rfl⟩
  .have aj:L.map (Z9 J 1)≠[]:=by simpa using t
   exact .inr ⟨by rw[XR aj,Yp],YZ aj,RQ.2 t⟩
 repeat apply Ξ
 refine W.iter (λx:sh=>x.L.length+x.k=R/\x.d.Z0.length<=d.Z0.length/\∀l∈x.L,l.length<=3/\l.Pairwise (· < ·)/\∀y∈l,0<=y/\y<3)
  (λx=>[(0,.Κ 0 1 0 0),(2,J v),(6,.Κ 1 1 0 0),(7,.Κ 2 1 0 0),(8,J x.k)])
  (λx=>ZH x.d::YY Z5 Z5 Z5::YY (ν G) (ZV 3 (x.L.map (Z9 J 1))) Z5::η 29 1 (x.L.map (Z9 J 1))) (λx=>x.k) ⟨R,d2,[]⟩ ⟨I,aG,I⟩ rfl I (λx w B=>?_)
 obtain⟨k,o,L⟩:=x;obtain⟨aH,ak,Z⟩:=w;simp only at aH ak Z B ⊢;refine Τ ?_;refine W.Yv rfl (λD=>?_) (λD=>?_)
 .have S:0<k:=by simpa using D
  obtain⟨j,H⟩:∃j,k=j+1:=⟨k-1,U⟩;have P:i64.wrap ((k:Int)-1)=j:=by rw[IntWalk.i64_in _ U];omega
  have hi:=sY o U
  have aa:=sj o 3
  have al:=BP o 3
  have aI:=BQ o 3;obtain⟨l,am⟩:=ZG ((V1 o 3).1);obtain⟨ab,an⟩:=ZG ((V1 o 3).2);rw[am,an] at hi;rw[am] at aa al;rw[an] at aI;have ao:(L++[l]).length+j=R/\ab.Z0.length<=d.Z0.length/\∀x∈L++[l],x.length<=3/\x.Pairwise (· < ·)/\∀y∈x,0<=y/\y<3:=by
   refine⟨by simp;omega,U,λx w=>?_⟩;rcases Wd.1 w with w|w
   .exact Z x w
   .simp at w;subst w;exact⟨al,aa.1,aa.2⟩
  have ap:(L++[l]).map (Z9 J 1)≠[]:=I
  repeat apply Ξ
  rcases Y L with⟨u,Φ,Q⟩|⟨u,Φ,Q⟩
  .rw[u,Φ];refine W.FW (A:=[25]) Ρ mixed λF m=>?_;simp;(repeat (rw[UT];simp));(try rw[UU]);refine YM.h (hi) (Qt ?_);refine⟨XD (by kernel_rfl),XD (by kernel_rfl),m _ _ ?_⟩;refine Γ P ?_;subst Q;refine W.to (B ⟨j,ab,[]++[l]⟩ ao (by show j<k;omega)) ?_ ?_
   .have e:ZV 3 (([]++[l]).map (Z9 J 1))=.ms 3 1 0 1:=rfl
    have T:η 29 1 (([]++[l]).map (Z9 J 1))=[.cells 29 1 [Z9 J 1 l]]:=rfl;simp only[e,T]
   .simp
  .rw[u,Φ];refine W.FW (A:=[25]) Ρ mixed λF m=>?_;simp;(repeat (rw[UT];simp));(try rw[UU]);refine YM.h (hi) (Qt ?_);refine⟨U,?_⟩;refine⟨XD (by kernel_rfl),XD (by kernel_rfl),m _ _ ?_⟩;refine Γ P ?_;refine W.to (B ⟨j,ab,L++[l]⟩ ao (by show j<k;omega)) ?_ ?_
   .have e:ZV 3 ((L++[l]).map (Z9 J 1))=.ms 3 (L.length+1) 0 (L.length+1):=by rw[XR ap,Yp,VK];rfl
    have T:η 29 1 ((L++[l]).map (Z9 J 1))=[.cells 29 1 (L.map (Z9 J 1)++[Z9 J 1 l])]:=by rw[YZ ap,Yc];rfl
    simp only[e,T]
   .simp
 .have S:k=0:=by simp at D;omega
  subst S;have aJ:L.length=R:=U;have aK:NT L:=⟨U,U,Z⟩;rcases Y L with⟨u,Φ,Q⟩|⟨u,Φ,Q⟩
  .subst Q;simp at aJ;omega
  refine W.to (env':=[(0,.Κ 0 1 0 0),(2,J v),(6,.Κ 1 1 0 0),(7,.Κ 2 1 0 0)]) (σ':=[ZH o,YY Z5 Z5 Z5,YY (ν G) (.ms 3 L.length 0 L.length) Z5,.cells 29 1 (L.map (Z9 J 1))]) ?_ (by rw[u,Φ]) I;clear B D Y u Φ;refine W.exit rfl ?_;have aL:o.Z0.length<2 ^ 63:=U;obtain⟨aM,aN⟩:=My o (a:=0) (b:=v) U ZY U;obtain⟨nc,aq⟩:∃n:Nat,S2 o 0 v=n:=⟨(S2 o 0 v).toNat,U⟩;rw[aq] at aM aN;obtain⟨d3,ar⟩:=ZG (o.after (i64.wrap ((v:Int)-0)));have aO:d3.Z0.length<=d.Z0.length:=by rw[<-ar];exact X' (VN _ _) ak
  have O:=MG o aL 0 v;rw[aq,ar] at O;refine Z' λF m=>?_;refine YM.g (O) (Z6 ?_);apply m
  repeat apply Ξ
  refine W.iter (λx:Nat×Nat=>x.1+x.2=nc)
   (λx=>[(0,.Κ 0 1 0 0),(6,.Κ 1 1 0 0),(7,.Κ 2 1 0 0),(9,J x.1)])
   (λx=>ZH d3::YY Z5 Z5 Z5::YY (ν G) (.ms 3 L.length 0 L.length) (ZV 4 (List.replicate x.2 Z5))::.cells 29 1 (L.map (Z9 J 1))::η 60 1 (List.replicate x.2 Z5)) (λx=>x.1) (nc,0) I rfl I (λx w B=>?_)
  obtain⟨k,c⟩:=x;simp only at w B ⊢;refine Τ ?_;refine W.Yv rfl (λD=>?_) (λD=>?_)
  .have S:0<k:=by simpa using D
   obtain⟨j,H⟩:∃j,k=j+1:=⟨k-1,U⟩;have P:i64.wrap ((k:Int)-1)=j:=by rw[IntWalk.i64_in _ U];omega
   have au:ZV 4 (List.replicate (c+1) Z5)=.ms 4 (c+1) 0 (c+1):=by rw[XR I,Q9]
   have av:η 60 1 (List.replicate (c+1) Z5)=[.cells 60 1 (List.replicate c Z5++[Z5])]:=by rw[YZ I,List.replicate_succ']
   repeat apply Ξ
   by_cases t:c=0
   .subst t;have ad:ZV 4 (List.replicate 0 Z5)=Z5:=rfl;have ae:η 60 1 (List.replicate 0 Z5)=[]:=rfl;rw[ad,ae];refine Y4 (A:=[37]) Ρ λF m=>Z6 ?_;apply m;refine Γ P ?_;refine W.to (B (j,1) (by show j+1=nc;omega) (by show j<k;omega)) ?_ ?_
    .simp only[au,av];rfl
    .simp
   .have ad:ZV 4 (List.replicate c Z5)=.ms 4 c 0 c:=by rw[XR (by simp[t]),Q9]
    have ae:η 60 1 (List.replicate c Z5)=[.cells 60 1 (List.replicate c Z5)]:=YZ (by simp[t]);rw[ad,ae];refine Y4 (A:=[37]) Ρ λF m=>Z6 ?_;refine⟨U,?_⟩;apply m;refine Γ P ?_;refine W.to (B (j,c+1) (by show j+(c+1)=nc;omega) (by show j<k;omega)) ?_ ?_
    .simp only[au,av]
    .simp
  .have S:k=0:=by simp at D;omega
   have aP:c=nc:=U;subst aP;refine W.exit rfl ?_;obtain⟨C,V⟩:=Η (ZV 4 (List.replicate c Z5));obtain⟨RC,X⟩:=Η (η 60 1 (List.replicate c Z5));rw[<-V,<-X];have aQ:(C=Z5/\RC=[])\/(C=.ms 4 c 0 c/\RC=[.cells 60 1 (List.replicate c Z5)]):=by
    by_cases t:c=0
    .subst t;exact .inl ⟨V,X⟩
    .exact .inr ⟨by rw[V,XR (by simp[t]),Q9],by rw[X,YZ (by simp[t])]⟩
   repeat apply Ξ
   refine W.XV (A:=[]) Ρ [(6,.Κ 1 1 0 0)] (ZH d3::YY (ν G) (.ms 3 L.length 0 L.length) C::YY (ν G) (.ms 3 L.length 0 L.length) C::.cells 29 1 (L.map (Z9 J 1))::RC) ?_ (by
    rcases aQ with⟨u,Φ⟩|⟨u,Φ⟩
    .rw[u,Φ];(try simp);(repeat (rw[Ν];simp));(try simp)
    .rw[u,Φ];(try simp);(repeat (rw[Ν];simp));(try simp))
   have aR:Rg 3 1 (L.map (Z9 J 1)) (.ms 3 L.length 0 L.length) (ξ L):=by
    have:=Rg.ms (id:=3) (k:=1) (l:=L.map (Z9 J 1))
    rwa [Yp] at this
   have aw:KX 3 1 (L.map (Z9 J 1)) (YY (ν G) (.ms 3 L.length 0 L.length) C) (YY (ν G) (ξ L) C):=by
    refine .inr ⟨26,3,_,_,rfl,rfl,rfl,λi e T af ax=>?_⟩
    match i with
    | 0=>
     simp at af ax;subst af;subst ax;refine⟨rfl,λx a aT K M=>?_⟩
     match x with
     | 0=>simp[Ω.cells] at K M;subst K;subst M;exact .same _
     | 1=>simp[Ω.cells] at K M;subst K;subst M;exact aR
     | 2=>simp[Ω.cells] at K M;subst K;subst M;exact .same _
     | x+3=>simp[Ω.cells] at K
    | i+1=>simp at af
   refine W.PB (σ':=ZH d3::YY (ν G) (ξ L) C::YY (ν G) (ξ L) C::.dead::RC) (id:=3) I rfl rfl rfl (λj r H f=>?_) [(6,.Κ 1 1 0 0)] (λp E=>by simp at E;subst E;exact .same _) ?_
   .match j,H,f with
    | 0,_,f=>simp at f;subst f;exact⟨_,rfl,.inl rfl⟩
    | 1,_,f=>simp at f;subst f;exact⟨_,rfl,aw⟩
    | 2,_,f=>simp at f;subst f;exact⟨_,rfl,aw⟩
    | 3,h,_=>exact absurd rfl h
    | j+4,_,f=>exact⟨r,f,.inl rfl⟩
   refine W.PB (σ':=ZH d3::YY (ν G) (ξ L) C::.dead::.dead::RC) (id:=2) I rfl rfl rfl (λj r H f=>?_) [(6,.Κ 1 1 0 0)] (λp E=>by simp at E;subst E;exact .same _) ?_
   .match j,H,f with
    | 0,_,f=>exact⟨r,f,.inl rfl⟩
    | 1,_,f=>exact⟨r,f,.inl rfl⟩
    | 2,h,_=>exact absurd rfl h
    | j+3,_,f=>exact⟨r,f,.inl rfl⟩
   refine W.PB (σ':=ZH d3::.dead::.dead::.dead::RC) (id:=1) I rfl rfl rfl (λj r H f=>?_) [(6,.Θ [ν G,ξ L,C])] (λp E=>by simp at E;subst E;exact .Κ (e:=.ZT [ν G,ξ L,C]) rfl) ?_
   .match j,H,f with
    | 0,_,f=>exact⟨r,f,.inl rfl⟩
    | 1,h,_=>exact absurd rfl h
    | j+2,_,f=>exact⟨r,f,.inl rfl⟩
   refine W.ret ⟨_,rfl,?_⟩;refine⟨G,L,c,d3,?_,aA,aK,⟨U,aB,U⟩,by rw[X],aO⟩;rw[<-V];exact .refl _
theorem sf:∀a<64,∀b<64,0<=XY .i64 (a:Nat) (b:Nat)/\XY .i64 (a:Nat) (b:Nat)<=63/\0<=UK .i64 (a:Nat) (b:Nat)/\UK .i64 (a:Nat) (b:Nat)<=63/\XY .i64 (b:Nat) (UK .i64 (a:Nat) (b:Nat))=0:=by decide +kernel
theorem Mw {a b:Int} (h:0<=a/\a<=63) (i:0<=b/\b<=63):(0<=XY .i64 a b/\XY .i64 a b<=63)/\(0<=UK .i64 a b/\UK .i64 a b<=63)/\XY .i64 b (UK .i64 a b)=0:=by
 obtain⟨x,rfl⟩:∃x:Nat,a=x:=⟨a.toNat,U⟩;obtain⟨y,rfl⟩:∃y:Nat,b=y:=⟨b.toNat,U⟩;obtain⟨c,d,e,f,g⟩:=sf x U y U;exact⟨⟨c,d⟩,⟨e,f⟩,g⟩
structure Rf (n:Nat) (c:List Zw):Prop where
 hi:c.length<=4
 apart:(c.map (·.Ys)).Nodup
 each:∀p∈c,(0<=p.Ys/\p.Ys<n)/\(0<=p.seen/\p.seen<=63)/\(0<=p.bare/\p.bare<=63)/\Uv p.seen p.bare=0
structure Yd (s:ψ):Prop where
 Ι:RU s.Ι
 Δ:NT s.Δ
 many:s.cells.length<=4
 cells:∀c∈s.cells,Rf s.Δ.length c
theorem Rf.err {s:ψ} {c:List Zw} (h:Rf s.Δ.length c):Rx s c=0:=by
 unfold Rx;have:=h.hi;rw[if_neg U];refine KY λx b=>?_;obtain⟨i,hi,rfl⟩:=Zq.1 b;have hi:=Ws.1 hi;rw[δ hi];obtain⟨g,k,l,d⟩:=h.each _ (YF hi);simp only;unfold VS;rw[if_neg U,if_neg,if_neg (by unfold valid;simp;omega),if_pos d];intro e;obtain⟨y,f,a⟩:=Kp.1 e;obtain⟨j,m,rfl⟩:=List.mem_take_iff_getElem.1 f;have hd:=Q'.1 h.apart j i (by simp;omega) (by simpa using hi) U;simp at a hd;exact hd a
theorem Yd.err {s:ψ} (h:Yd s):s.err=0:=by
 unfold ψ.err;rw[h.Ι.err,h.Δ.err,if_neg I,if_neg I];unfold PN;have:=h.many;rw[if_neg U];refine KY λx a=>?_;obtain⟨i,hi,rfl⟩:=Zq.1 a;have hi:=Ws.1 hi;rw[δ hi];exact(h.cells _ (YF hi)).err
theorem Yd.small {s:ψ} (h:Yd s):s.small:=by
 have b:=h.Ι.hi
 have c:=h.Δ.hi
 have d:=h.many;refine⟨U,U,U,λx a=>?_,λx a=>?_⟩
 .have:=(h.Δ.each x a).1;omega
 .have:=(h.cells x a).hi;omega
theorem Bv (d:Zk) (hd:d.Z0.length<2 ^ 63) (g k:Nat) (o:1<=g) (p:g<=6) (t:k<=4) {σ:Ο} {K E:Ω->Ο->Prop} (u:σ[0]?=some (ZH d))
  (v:∀G L nc b,RU G->NT L->nc<=k/\G.length<=g/\L.length<=3->b.Z0.length<=d.Z0.length->K (.ZT [ν G,ξ L,ZV (σ.length+3) (List.replicate nc Z5)]) (σ.set 0 (ZH b)++(.dead::.dead::.dead::η 60 1 (List.replicate nc Z5)))) :
  WA prog (.fn (.func 90) [] []) [.Κ 0 1 0 0,J g,J k] σ K E:=by
 have w:∀nc,∀r∈η 60 1 (List.replicate nc Z5),LH r:=λnc r c=>by
  unfold η at c;split at c
  .cases c
  .simp at c;subst c;refine .inl λe x a f=>?_;have:=KI x;subst this;simp[Ω.cells] at f;subst f;simp[YG]
 have m:=Μ.T' (sg d hd g k o p t) (ZM.refl _) (K':=λa s=>∃G L nc b,a=.ZT [ν G,ξ L,ZV 4 (List.replicate nc Z5)]/\RU G/\NT L/\(nc<=k/\G.length<=g/\L.length<=3)/\s=ZH b::.dead::.dead::.dead::η 60 1 (List.replicate nc Z5)/\b.Z0.length<=d.Z0.length) (λa s ⟨G,L,nc,b,m,y⟩=>⟨_,m,G,L,nc,b,rfl,y⟩)
 have A:=Μ.DG (σ:=σ) m [0] I rfl (λj i n=>by
  cases j with
  | zero=>simp at n;subst n;exact u
  | succ j=>simp at n) (λr c=>by simp at c;subst c;exact RZ d) (by
   intro a f;simp at f;rcases f with rfl|rfl|rfl
   .exact Nat.zero_lt_one
   .exact(ς.z _).Wh 1
   .exact(ς.z _).Wh 1) (K':=K) (E':=E) (λa s=>by
   rintro⟨G,L,nc,b,rfl,B,C,D,rfl,F⟩;refine⟨λr c=>?_,?_,?_⟩
   .simp only[Y6] at c;rcases c with rfl|rfl|rfl|rfl|c
    .exact .inl (RZ b)
    .exact .inr rfl
    .exact .inr rfl
    .exact .inr rfl
    .exact w nc r c
   .intro a f;simp only[Y6,Ya,or_false] at f;rcases f with rfl|rfl|rfl
    .exact ς.top (YG.2 Ty) _
    .exact ς.top (YG.2 RR) _
    .unfold ZV η;split
     .exact ς.top I _
     .show 4<_;simp
   .have H:PS σ [0] (ZH b::.dead::.dead::.dead::η 60 1 (List.replicate nc Z5))=σ.set 0 (ZH b)++(.dead::.dead::.dead::η 60 1 (List.replicate nc Z5)):=by
     simp[PS,VC]
    have Φ:Yx (names [0] σ.length (ZH b::.dead::.dead::.dead::η 60 1 (List.replicate nc Z5))) (.ZT [ν G,ξ L,ZV 4 (List.replicate nc Z5)])=.ZT [ν G,ξ L,ZV (σ.length+3) (List.replicate nc Z5)]:=by
     by_cases l:nc=0
     .subst l;rfl
     .rw[XR (by simp[l]),XR (by simp[l]),YZ (by simp[l])];show Ω.ZT [_,_,_]=_;simp[WM,names,V0]
    rw[H,Φ];exact v G L nc b B C D F) (λa s h=>h.elim)
 exact Μ.call (first:=[]) (captured:=[]) (by simpa[TN,Yx,WM] using A)
abbrev Φ (r:Int×Int):Ω:=Zr [r.1,r.2]
theorem Bu (q:Int×Int->Bool) (n i j:Nat):(Xm q n i j).length<=i*(n+1)+j:=by
 have h:(Xn n i).length=i*(n+1):=by
  induction i with
  | zero=>simp[Xn]
  | succ i a=>rw[IX,VK,a,Nat.succ_mul];simp[Vq]
 unfold Xm;refine X' (KC _ _) ?_;rw[VK,h];simp[Vq]
section
variable {P:Program} {T:ZR} {A:List Nat} {m nt:Nat} {k:List Item} {env:ω} {σ:Ο} {Z:X7} {E:Yn}
theorem W.Bt (a:ZB P T) (env':ω) (σ':Ο) {ops:Array Oper} {l:List Nat} (h:W P m nt k env' σ' Z E) (b:run P T A nt ops l env σ (λe s=>W P m nt k env' σ' Z E->W P m nt k e s Z E) E):W P m nt (.inRegion ops l::k) env σ Z E:=by
 have:=G3 (m:=m) (k:=k) (Z:=Z) a [] l env σ (Ji (λe s f=>W.ZF (f h)) _ _ _ b);simpa using this
end
def U6 (l:List Zw):Ω:=YC 3 (l.map Zv)
def ZP (done:List (List Zw)) (nc:Nat):κ:=done.map U6++List.replicate (nc-done.length) Z5
theorem Bs (nc:Nat):ZP [] nc=List.replicate nc Z5:=by simp[ZP]
theorem S1 {done:List (List Zw)} {nc:Nat} (h:done.length<=nc):(ZP done nc).length=nc:=by simp[ZP];omega
theorem Br {done:List (List Zw)}:ZP done done.length=done.map U6:=by simp[ZP]
theorem Bq {done:List (List Zw)} {nc:Nat} (h:done.length<nc):(ZP done nc)[done.length]?=some Z5:=by
 unfold ZP;rw[W8 I,Yp,Q5,OQ,if_pos U]
theorem Bp {done:List (List Zw)} {nc:Nat} (h:done.length<nc) (a:List Zw):(ZP done nc).set done.length (U6 a)=ZP (done++[a]) nc:=by
 unfold ZP;obtain⟨r,b⟩:∃r,nc-done.length=r+1:=⟨nc-done.length-1,U⟩;have e:nc-(done++[a]).length=r:=by simp;omega
 rw[b,e,List.replicate_succ,Pz _ _ I,Yp,Q5,List.set_cons_zero,Yc,Vi];rfl
theorem FG (l:List Zw):ς 0 (U6 l):=by
 unfold U6 YC;split
 .simp
 .refine YG.2 λe c a b=>?_;obtain⟨x,_,rfl⟩:=Zq.1 c;simp[Ω.cells] at b;rcases b with rfl|rfl|rfl<;>exact .z _
theorem FF (l:List Zw):(U6 l).cells=[U6 l]:=by
 unfold U6 YC;split<;>rfl
theorem Mv {done:List (List Zw)} {nc:Nat}:∀e∈ZP done nc,e.cells=[e]/\ς 0 e:=λe he=>by
 unfold ZP at he;rcases Wd.1 he with he|he
 .obtain⟨x,_,rfl⟩:=Zq.1 he;exact⟨FF x,FG x⟩
 .have:=KI he;subst this;exact⟨rfl,I⟩
structure Bo where
 k:Nat
 d:Zk
 Qp:List Zw
theorem KW {s:ψ} (h:Yd s) (p:Int×Int) (c:Nat):(X3 s p c).length<=49:=by
 have a:=Bu (λr=>s.Uu p r c) s.Ι.length (s.Ι.length+1) 0;rw[Ls] at a;have b:=h.Ι.hi;have d:(s.Ι.length+1)*(s.Ι.length+1)<=7*7:=Mk U U;unfold X3;omega
theorem se {l:List (List (Int×Int))} (h:∀c∈l,c.length<=49) (a:Int) (i:Nat):Xh l a i<=49 ^ i:=by
 induction i with
 | zero=>simp[Xh]
 | succ i b=>
  rw[I4,Nat.pow_succ];refine Mk b ?_;split
  .omega
  .cases d:l[i]? with
   | none=>simp
   | some c=>simpa using h c (Zi d)
theorem H0 {s:ψ} (h:Yd s) (p:Int×Int):∀c∈(YX s p).cells,c.length<=49:=λc a=>by
 obtain⟨i,_,rfl⟩:=Zq.1 a;exact KW h p i
theorem KV {s:ψ} (h:Yd s) (p:Int×Int) (a:Int) {i:Nat} (hi:i<=s.cells.length):Xh (YX s p).cells a i<=5764801:=by
 have:=h.many;exact X' (se (H0 h p) a i) (X' (Mn ZY (show i<=4 by omega)) ZY)
theorem sd {s:ψ} (h:Yd s):F0 49 s where
 small:=h.small
 Ι:=by have:=h.Ι.hi;omega
 lit c a x b:=((h.cells c a).each x b).1
 reads k _ c _:=KW h _ c
 many k _ i hi:=by have:=KV h (Ze k) (-1) hi;omega
theorem KU {s:ψ} (h:Yd s):@S9 Uq s (Z1 s):=Cb ZY (λc=>@sA c) (sd h)
theorem OY {s:ψ} {f:Found}:f∈Z1 s↔∃k,k<3/\0<(YX s (Ze k)).many (-1)/\f=YX s (Ze k):=by
 unfold Z1;rw[List.mem_filterMap];constructor
 .rintro⟨k,a,h⟩;unfold WH at h;split at h
  .rename_i b;exact⟨k,b.1,b.2,(Xk h).symm⟩
  .cases h
 .rintro⟨k,a,c,rfl⟩;exact⟨k,Ws.2 a,by unfold WH;rw[if_pos ⟨a,c⟩]⟩
theorem Re (s:ψ):(Z1 s).length<=3:=by
 unfold Z1;exact X' (KG _ _) I
theorem KT {s:ψ} (p:Int×Int):(YX s p).many (-1)=Xh (YX s p).cells (-1) s.cells.length:=by
 unfold Found.many;simp[YX]
theorem HZ {s:ψ} (p:Int×Int) {c:Nat} (a:c<s.cells.length):Xh (YX s p).cells (-1) (c+1)=Xh (YX s p).cells (-1) c*(X3 s p c).length:=by
 rw[I4,if_neg U];have:(YX s p).cells[c]?=some (X3 s p c):=by
  unfold YX;simp[a]
 rw[this];rfl
def cnt (x n:Int):Nat->Int
 | 0=>0
 | k+1=>cnt x n k+(if XY .i64 x (2 ^ k)≠0 then 1 else 0)-(if XY .i64 n (2 ^ k)≠0 then 1 else 0)
end Go.TL
namespace Go.TL
open Go.IntKind (i64)
open Go.Proofs.Tryz
open Go.Sort (heapBuild heapPop ltInt partEqLoop partEqLoop_eq partLoop partLoop_eq reverseLoop scanDown scanUp swp)
open Go.Proofs
section
variable [ZX]
theorem FE (l:List Int):Μ prog 22 [Z9 J 1 l] [] (λr s=>r=.Κ 0 1 0 0/\s=[ZH ⟨l,1⟩]) (λ_ _=>False):=by
 refine Μ.body Ρ func22 rfl rfl ntmps22 rfl rfl I ?_
 repeat apply Ξ
 refine VT ?_
 repeat apply Ξ
 refine Y4 (A:=[5]) Ρ λb a=>Z6 ?_;apply a;refine Τ ?_;exact W.ret ⟨_,rfl,rfl,rfl⟩
end
end Go.TL
namespace Go.TL
open Go.IntKind (i64)
open Go.Proofs.Tryz
open Go.Sort (heapBuild heapPop ltInt partEqLoop partEqLoop_eq partLoop partLoop_eq reverseLoop scanDown scanUp swp)
open Go.Proofs
variable [ZX]
def OX (f:Found) (cell:Nat):List (Int×Int):=(f.cells[cell]?).getD []
def Xs (F:List Found) (cell:Nat):List (Int×Int):=F.flatMap λf=>OX f cell
def VM (F:List Found) (cell:Nat):List (Int×Int):=Yk ((Xs F cell).mergeSort X4)
def Sw (A C:List (Int×Int)) (j:Nat):List (Int×Int):=A++C.take j
theorem HY {l:List (Int×Int)}:∀e∈l.map YP,∀a∈e.cells,ς 0 a:=by
 intro e c a b;obtain⟨x,_,rfl⟩:=Zq.1 c;simp[Ω.cells] at b;subst b;simp[YG,Ω.cells]
abbrev NS (l:List (Int×Int)):Ω:=.sl false 1 (l.map YP)
def Sv (s:ψ) (F:List Found) (cell:Int):List (Int×Int)×Int:=
 if(Xp s cell F).2.2=0 then(VM F cell.toNat,0) else([],(Xp s cell F).2.2)
theorem sc (x y:Int×Int):XS prog (.fn (.func 120) [] []) [YP x,YP y] (Z4 (decide (x=y))):=by
 have h:XS prog (.fn (.func 120) [] []) [YP x,YP y] (Z4 (decide ([x.1,x.2]=[y.1,y.2]))):=Ε.p (sT [x.1,x.2] [y.1,y.2] I) (.cons .ex (.cons .ex .nil)) I I
 have e:decide ([x.1,x.2]=[y.1,y.2])=decide (x=y):=by
  rw[decide_eq_decide];constructor
  .intro h;simp at h;exact Prod.ext h.1 h.2
  .rintro rfl;rfl
 rw[e] at h;exact h
theorem sb (a:Ω) (b:ς 0 a):Ε prog 119 [.sl true 0 [],a] (.sl true 0 []):=by
 refine Μ.body Ρ func119 rfl rfl ntmps119 rfl rfl I ?_;refine Τ ?_;refine Α rfl ?_;refine Τ ?_;refine W.rt ?_;exact .refl _
theorem Bn {A C:List (Int×Int)}:Sw A C 0=A:=by simp[Sw]
theorem sa {A C:List (Int×Int)} {j:Nat} (h:j<C.length):Sw A C (j+1)=Sw A C j++[C[j]]:=by
 unfold Sw;rw[We h,Vi]
theorem Bm {A C:List (Int×Int)} {j:Nat} (h:C.length<=j):Sw A C j=A++C:=by unfold Sw;rw[U4 h]
theorem r9 {A C:List (Int×Int)} {j:Nat}:(Sw A C j).length<=A.length+j:=by unfold Sw;simp;omega
theorem r8 (s:ψ) (ae:s.small) (F:List Found) (af:S9 s F) (cell:Int) (N:Nat) (ay:N<2 ^ 20) (ag:BC N)
  (B:(Xp s cell F).2.2=0->F.length<2 ^ 20/\(∀f∈F,cell.toNat<f.cells.length/\∀c∈f.cells,c.length<2 ^ 20)/\Xs F cell.toNat≠[]/\(Xs F cell.toNat).length<=N) :
  Ε prog 62 [Yz s,J cell] (.ZW [NS (Sv s F cell).1,J (Sv s F cell).2]):=by
 refine Μ.body Ρ func62 rfl rfl ntmps62 rfl rfl I ?_;refine Τ ?_;refine Y1 ?_;refine Y4 (A:=[6]) Ρ λD o=>Z6 ?_;refine Ε.d (GJ s ae cell F af) (Z6 ?_);apply o;by_cases b:(Xp s cell F).2.2=0
 case neg=>
  have e:Sv s F cell=([],(Xp s cell F).2.2):=if_neg b
  have ah:(Xp s cell F).2.1=[]:=by
   unfold Xp Yr at b ⊢;split
   .rfl
   .split
    .rfl
    .split
     .rfl
     .simp_all
  rw[e,ah];generalize (Xp s cell F).2.2=ai at b;refine W.drop (h:=0) (σ':=[]) (χ _) (χ _) I rfl [(1,J cell),(7,Zb []),(8,J ai)] I ?_;refine Τ ?_;refine .loop ?_;refine Τ ?_;refine Ζ rfl ?_;refine W.exit rfl ?_;refine Z' λD o=>?_;refine Ε.d (wN (.fn (.func 118) [] []) (by simp[Va])) (Z6 ?_);apply o;refine Z' λD o=>?_;refine Ε.d (sb (.fn (.func 120) [] []) (by simp[Va])) (Z6 ?_);apply o;refine W.rt ?_;exact .ZW (.cons .nil (.cons (.refl _) .nil))
 have e:Sv s F cell=(VM F cell.toNat,0):=if_pos b;obtain⟨az,aA,aj⟩:=F6 b;obtain⟨aB,Y,O,K⟩:=B b;obtain⟨n,rfl⟩:∃n:Nat,cell=n:=⟨cell.toNat,U⟩;rw[e,aj];rw[Int.toNat_natCast] at Y O K ⊢;refine W.drop (h:=0) (σ':=[]) (χ _) (χ _) I rfl [(1,J n),(7,Zb F),(8,J 0)] I ?_;refine Τ ?_;refine W.iter (λi:Nat=>i<=F.length) (λi=>[(1,J n),(8,J 0),(9,Yu ((Xs (F.take i) n).map YP)),(21,Zb F),(22,J F.length),(23,J i)])
  (λi=>η 29 1 ((Xs (F.take i) n).map YP)) (λi=>F.length-i) 0 (χ _) rfl (by simp[Xs,S']) (λi hi ak=>?_)
 refine Τ ?_;have al:∀i,(Xs (F.take i) n).length<=N:=λi=>by
  have e:Xs F n=Xs (F.take i) n++Xs (F.drop i) n:=by
   conv=>lhs;rw[<-OP i F]
   simp only[Xs,ON]
  rw[e,VK] at K;omega
 refine W.Yv rfl (λP=>?_) (λP=>?_)
 .have w:i<F.length:=by simpa using P
  obtain⟨Q,am⟩:=Y _ (YF w);have an:F[i].cells[n].length<2 ^ 20:=am _ (YF Q);obtain⟨A,R⟩:=Η (Xs (F.take i) n);have M:Xs (F.take (i+1)) n=A++F[i].cells[n]:=by
   rw[R];unfold Xs;rw[We w,ON];simp[OX,Q]
  have Z:(A++F[i].cells[n]).length<=N:=by rw[<-M];exact al _
  rw[VK] at Z;refine W.to (σ':=η 29 1 (A.map YP)) (env':=[(1,J n),(8,J 0),(9,Yu (A.map YP)),(21,Zb F),(22,J F.length),(23,J i)]) ?_ (by rw[R]) (by rw[R];simp)
  repeat apply Ξ
  refine Y4 (A:=[11]) Ρ λD o=>XJ w ?_;apply o;refine W.U9 (χ _) (R7 HY) I [(11,.Θ [J F[i].u,J F[i].v,T8 F[i].cells]),(1,J n),(8,J 0),(9,Yu (A.map YP)),(21,Zb F),(22,J F.length),(23,J i)] I ?_;refine Γ Q ?_;generalize aC:F[i].cells[n]=C at an M Z;refine W.iter (λj:Nat=>j<=C.length) (λj=>[(1,J n),(8,J 0),(9,Yu ((Sw A C j).map YP)),(21,Zb F),(22,J F.length),(23,J i),(31,UZ C),(32,J C.length),(33,J j)])
   (λj=>η 29 1 ((Sw A C j).map YP)) (λj=>C.length-j) 0 (χ _) (by rw[Bn]) (by simp[Bn]) (λj aD ao=>?_)
  refine Τ ?_;refine W.Yv rfl (λS=>?_) (λS=>?_)
  .have y:j<C.length:=by simpa using S
   obtain⟨L,B⟩:=Η (Sw A C j);have aE:L.length<=A.length+j:=by rw[B];exact r9
   have V:Sw A C (j+1)=L++[C[j]]:=by rw[B];exact sa y
   refine W.to (σ':=η 29 1 (L.map YP)) (env':=[(1,J n),(8,J 0),(9,Yu (L.map YP)),(21,Zb F),(22,J F.length),(23,J i),(31,UZ C),(32,J C.length),(33,J j)]) ?_ (by rw[B]) (by rw[B];simp)
   repeat apply Ξ
   refine Y4 (A:=[13]) Ρ λD o=>XJ y ?_;apply o;refine W.U9 (χ _) (R7 HY) I [(13,.Θ [J C[j].1,J C[j].2]),(1,J n),(8,J 0),(9,Yu (L.map YP)),(21,Zb F),(22,J F.length),(23,J i),(31,UZ C),(32,J C.length),(33,J j)] I ?_
   repeat apply Ξ
   generalize C[j]=r at V;refine W.XV (A:=[40]) Ρ [(1,J n),(8,J 0),(9,Yu ((L++[r]).map YP)),(21,Zb F),(22,J F.length),(23,J i),(31,UZ C),(32,J C.length),(33,J j)] (η 29 1 ((L++[r]).map YP)) ?_ (by
    have ap:L.length<=4294967295:=U;rw[Yc];by_cases X:L.map YP=[]
    .rw[X,S',Wy];(try simp);(repeat (rw[Ν];simp));(try simp);simp[η,Yu]
    .rw[R8 X,YZ X];(try simp);(repeat (rw[Ν];simp));(try simp);simp[QI,N6,ap])
   refine Τ ?_;refine W.to (ao (j+1) y U) ?_ ?_
   .rw[V,Yc];rfl
   .rw[V];simp[X5 y (show C.length<2 ^ 62 by omega)]
  .have y:C.length<=j:=by simpa using S
   refine W.exit rfl ?_;refine Τ ?_;refine W.to (ak (i+1) w U) ?_ ?_
   .rw[M,Bm y]
   .rw[M,Bm y];simp[X5 w (show F.length<2 ^ 62 by omega)]
 .have w:i=F.length:=by simp at P;omega
  refine W.exit rfl ?_;rw[w,OI];obtain⟨g,aa⟩:=Η (Xs F n);rw[<-aa] at O K ⊢;have ab:g.map YP≠[]:=by simpa using O
  have aq:VM F n=Yk (g.mergeSort X4):=by rw[aa];rfl
  have ar:(g.mergeSort X4).length=g.length:=I;refine W.to (σ':=[.cells 29 1 (g.map YP)]) (env':=[(8,J 0),(9,.ms 0 g.length 0 g.length)]) ?_ (YZ ab) (by simp[R8 ab]);refine Z' λD o=>?_;refine Μ.one (ag g K) 0 rfl (SH Lz) (SH Lz) (by simp[UG,XC,Ua]) (by simp[XC]) (by simp[UF,Yx,WM]) ?_;simp[Yx,WM];(repeat (rw[Ν];simp));apply o;refine Z' λD o=>?_;have au:=sS (g.mergeSort X4) g.length ar U (.fn (.func 120) [] []) (by simp[Va]) sc;refine Μ.I1 au 0 rfl (SH Lz) (by simp[UG,XC,Ua]) (by simp[UF,Yx,WM]) (λa s ⟨T,av,aw,ad,ax⟩=>⟨_,ax,?_,by subst ad;simp[UG],?_⟩)
  .intro e he a E;rcases Wd.1 he with he|he
   .exact HY e he a E
   .rcases av e he with rfl|⟨x,rfl⟩
    .simp[Ω.cells] at E;subst E;simp
    .simp[Ω.cells] at E;subst E;simp[YG,Ω.cells]
  subst ad;simp[UF];(repeat (rw[Ν];simp));apply o;refine W.cut 0 (χ _) [(4,NS (Yk (g.mergeSort X4))),(5,J 0)] I I ?_ ?_
  .intro p H;simp only[Y6,Ya,or_false] at H;rcases H with rfl|rfl
   .have H:=Ym.part (σ:=[.cells 29 1 ((Yk (g.mergeSort X4)).map YP++T)]) (id:=0) (t:=29) (k:=1) (l:=(Yk (g.mergeSort X4)).map YP) (l2:=T) (m:=(Yk (g.mergeSort X4)).length) rfl I HY
    have e:((Yk (g.mergeSort X4)).map YP++T).length=g.length:=by rw[VK,Yp];exact aw
    rw[e] at H;exact H
   .exact .low I
  .rw[aq];refine W.rt ?_;exact .refl _
theorem Mu {n:Nat} {r:Int×Int}:r∈Rw n↔(-1<=r.1/\r.1<n)/\(-1<=r.2/\r.2<n):=by
 unfold Rw Xn Vq;simp only[Qf,Zq,Ws];constructor
 .rintro⟨x,a,y,b,rfl⟩;simp only;omega
 .rintro⟨⟨c,d⟩,e,f⟩;exact⟨(r.1+1).toNat,U,(r.2+1).toNat,U,Prod.ext (by simp only;omega) (by simp only;omega)⟩
theorem r7 (d:Array (Int)) (n a b p:Nat) (ae:d.size=n) (ap:n<2 ^ 40) (aq:a<=p) (ar:p<b) (au:b<=n)  :
  Μ prog 205 [.ms 0 n 0 n,J a,J b,J p] [.cells 3 1 ((d).toList.map J)] (λr s=>r=.ZW [J (Go.Sort.partition (ltInt) d a b p).1,Z4 (Go.Sort.partition (ltInt) d a b p).2.1]/\s=[.cells 3 1 (((Go.Sort.partition (ltInt) d a b p).2.2).toList.map J)]) (λ_ _=>False):=by
 refine Μ.body Ρ func205 rfl rfl ntmps205 rfl rfl I ?_;have al:=Yt (i:=a) U;have am:=Wf (i:=b) U U
 repeat apply Ξ
 refine VT ?_;refine W.two J ae (i:=a) (j:=p) U U λL x y z m o F t B=>?_
 repeat apply Ξ
 refine W.draw (A:=[]) Ρ mixed λH v=>?_;simp;(repeat (rw[ZK];simp[F]));try rw[ZL];refine Y8 (v _ _ ?_)
 refine W.back B [(0,.ms 0 n 0 n),(1,J a),(2,J b),(3,J p)] I ?_;clear F B t m o L x y z;obtain⟨e,Z⟩:=Η (swp d a p);have Q:e.size=n:=by rw[Z];exact swp_size ae a p
 rw[<-Z]
 repeat apply Ξ
 refine Tb (Υ al am) ?_;refine W.to (σ':=[.cells 3 1 ((e).toList.map J)]) (env':=[(0,.ms 0 n 0 n),(1,J a),(10,J (a+1:Nat)),(11,J (b-1:Nat))]) ?_ rfl I;obtain⟨c,K⟩:=ZG (scanUp (λx=>ltInt x e[a]!) e (b-1) (a+1));obtain⟨k,M⟩:=ZG (scanDown (λx=>!ltInt x e[a]!) e c (b-1));obtain⟨af,ag,ah,ai,Y⟩:=O0 (λx=>ltInt x e[a]!) (λx=>!ltInt x e[a]!) (λx=>rfl) e U U K M;have C:Go.Sort.partition (ltInt) d a b p=if c > k then(k,true,swp e k a) else((partLoop (ltInt) a (c+1) (k-1) (swp e c k)).1,false,swp (partLoop (ltInt) a (c+1) (k-1) (swp e c k)).2 (partLoop (ltInt) a (c+1) (k-1) (swp e c k)).1 a):=by
  unfold Go.Sort.partition;simp only[<-Z,K,M]
 repeat apply Ξ
 repeat apply Ξ
 refine W.Xn [(0,.ms 0 n 0 n),(1,J a),(10,J (c:Nat)),(11,J (b-1:Nat))] e ?_ ?_
 .refine W.iter (λi:Nat=>(a+1)<=i/\i<=(b-1)+1/\scanUp (λx=>ltInt x e[a]!) e (b-1) i=c) (λi=>[(0,.ms 0 n 0 n),(1,J a),(10,J (i:Nat)),(11,J (b-1:Nat))]) (λ_=>[.cells 3 1 ((e).toList.map J)]) (λi=>(b-1)+1-i) ((a+1)) ⟨γ _,U,K⟩ rfl I (λi hi E=>?_);obtain⟨S,T,w⟩:=hi;by_cases l:i<=(b-1)
  .refine W.two J Q (i:=i) (j:=a) U U λL x y _ m o F t _=>?_;have D:=Yt (i:=i) U
   repeat apply Ξ
   refine W.draw (A:=[]) Ρ mixed λH v=>?_;simp;(repeat (rw[ZK];simp[l,F]));try rw[ZL]
   refine Yl (Ε.p (Ta x y) (ZM.refl _) I I) ?_;simp;(repeat (rw[ZK];simp));try rw[ZL]
   refine Y8 (v _ _ ?_);by_cases u:x<y
   .refine Α (by simp[u]) ?_;refine Γ D ?_;exact W.to (E (i+1) ⟨U,U,MF w l (by simp[m,o,u,ltInt])⟩ ZD) (by rw[t]) (by simp[D])
   .refine Ζ (by simp[u]) ?_;refine W.exit rfl ?_;exact W.stop ⟨rfl,by rw[t],by rw[<-ME w l (by simp[m,o,u,ltInt])];simp⟩
  .repeat apply Ξ
   refine XI l ?_;refine Ζ rfl ?_;refine W.exit rfl ?_;exact W.stop ⟨rfl,rfl,by rw[<-MD w l];simp⟩
 repeat apply Ξ
 refine W.Xn [(0,.ms 0 n 0 n),(1,J a),(10,J (c:Nat)),(11,J (k:Nat))] e ?_ ?_
 .refine W.iter (λi:Nat=>i<=(b-1)/\c<=i+1/\scanDown (λx=>!ltInt x e[a]!) e c i=k) (λi=>[(0,.ms 0 n 0 n),(1,J a),(10,J (c:Nat)),(11,J (i:Nat))]) (λ_=>[.cells 3 1 ((e).toList.map J)]) (λi=>i+1-c) ((b-1)) ⟨γ _,U,M⟩ rfl I (λi hi E=>?_);obtain⟨S,T,w⟩:=hi;by_cases l:c<=i
  .refine W.two J Q (i:=i) (j:=a) U U λL x y _ m o F t _=>?_;have D:=Wf (i:=i) U U
   repeat apply Ξ
   refine W.draw (A:=[]) Ρ mixed λH v=>?_;simp;(repeat (rw[ZK];simp[l,F]));try rw[ZL]
   refine Yl (Ε.p (Ta x y) (ZM.refl _) I I) ?_;simp;(repeat (rw[ZK];simp));try rw[ZL]
   refine Y8 (v _ _ ?_);by_cases u:x<y
   .refine Ζ (by simp[u]) ?_;refine W.exit rfl ?_;exact W.stop ⟨rfl,by rw[t],by rw[<-MB w l U (by simp[m,o,u,ltInt])];simp⟩
   .refine Α (by simp[u]) ?_;refine Γ D ?_;exact W.to (E (i-1) ⟨U,U,MC w l U (by simp[m,o,u,ltInt])⟩ ZD) (by rw[t]) (by simp[D])
  .repeat apply Ξ
   refine XI l ?_;refine Ζ rfl ?_;refine W.exit rfl ?_;exact W.stop ⟨rfl,rfl,by rw[<-MA w l];simp⟩
 repeat apply Ξ
 by_cases l:c > k
 .have N:((k:Nat):Int)<(c:Nat):=U
  refine Γ N ?_;refine Α (by simp[l]) ?_;refine W.two J Q (i:=k) (j:=a) U U λL x y z m o F t B=>?_
  repeat apply Ξ
  refine W.draw (A:=[]) Ρ mixed λH v=>?_;simp;(repeat (rw[ZK];simp[F]));try rw[ZL];refine Y8 (v _ _ ?_)
  refine W.back B [(0,.ms 0 n 0 n),(1,J a),(10,J (c:Nat)),(11,J (k:Nat))] I ?_;clear F B t m o L x y z;refine Τ ?_;exact W.ret ⟨_,rfl,by rw[C,if_pos l];rfl,by rw[C,if_pos l]⟩
 have N:¬((k:Nat):Int)<(c:Nat):=U
 have an:=Y U
 have O:=Yt (i:=c) U
 have P:=Wf (i:=k) U U;refine Γ N ?_;refine Ζ (by simp[l]) ?_;refine W.two J Q (i:=c) (j:=k) U U λL x y z m o F t B=>?_
 repeat apply Ξ
 refine W.draw (A:=[]) Ρ mixed λH v=>?_;simp;(repeat (rw[ZK];simp[F]));try rw[ZL];refine Y8 (v _ _ ?_)
 refine W.back B [(0,.ms 0 n 0 n),(1,J a),(10,J (c:Nat)),(11,J (k:Nat))] I ?_;clear F B t m o L x y z;have aa:=swp_size Q c k;rw[if_neg l] at C;obtain⟨g,ab⟩:=Η (swp e c k);rw[<-ab] at C aa;rw[<-ab];refine Γ (Υ O P) ?_;refine W.to (σ':=[.cells 3 1 ((g).toList.map J)]) (env':=[(0,.ms 0 n 0 n),(1,J a),(10,J (c+1:Nat)),(11,J (k-1:Nat))]) ?_ rfl (by simp[O,P]);have av:a<c:=U;have aw:k<b:=U;have ax:c+1<=k-1+1:=U;clear K M N l af ag ah ai Y ab O P;obtain⟨R,ad⟩:=ZG (partLoop (ltInt) a (c+1) (k-1) g)
 repeat apply Ξ
 refine W.Xn [(0,.ms 0 n 0 n),(1,J a),(11,J R.1)] R.2 ?_ ?_
 .refine W.iter (λq:Nat×Nat×Array (Int)=>q.2.2.size=n/\a<q.1/\q.1<=q.2.1+1/\q.2.1<b/\partLoop (ltInt) a q.1 q.2.1 q.2.2=R) (λq=>[(0,.ms 0 n 0 n),(1,J a),(10,J (q.1:Nat)),(11,J (q.2.1:Nat))]) (λq=>[.cells 3 1 ((q.2.2).toList.map J)]) (λq=>q.2.1+1-q.1) (c+1,k-1,g) ⟨aa,ZD,ZD,ZD,ad⟩ rfl I (λq hi E=>?_);obtain⟨i,j,f⟩:=q;obtain⟨V,S,T,w,X⟩:=hi;simp only at V S T w X;obtain⟨c,K⟩:=ZG (scanUp (λx=>ltInt x f[a]!) f (j) (i));obtain⟨k,M⟩:=ZG (scanDown (λx=>!ltInt x f[a]!) f c (j));obtain⟨af,ag,ah,ai,Y⟩:=O0 (λx=>ltInt x f[a]!) (λx=>!ltInt x f[a]!) (λx=>rfl) f U U K M;have C:partLoop (ltInt) a i j f=if c > k then(k,f) else partLoop (ltInt) a (c+1) (k-1) (swp f c k):=by
   rw[partLoop_eq];simp only[K,M]
  refine W.to (σ':=[.cells 3 1 ((f).toList.map J)]) (env':=[(0,.ms 0 n 0 n),(1,J a),(10,J (i:Nat)),(11,J (j:Nat))]) ?_ rfl I;refine W.block ?_
  repeat apply Ξ
  refine W.Xn [(0,.ms 0 n 0 n),(1,J a),(10,J (c:Nat)),(11,J (j:Nat))] f ?_ ?_
  .refine W.iter (λi:Nat=>(i)<=i/\i<=(j)+1/\scanUp (λx=>ltInt x f[a]!) f (j) i=c) (λi=>[(0,.ms 0 n 0 n),(1,J a),(10,J (i:Nat)),(11,J (j:Nat))]) (λ_=>[.cells 3 1 ((f).toList.map J)]) (λi=>(j)+1-i) ((i)) ⟨γ _,U,K⟩ rfl I (λi hi E=>?_);obtain⟨S,T,w⟩:=hi;by_cases l:i<=(j)
   .refine W.two J V (i:=i) (j:=a) U U λL x y _ m o F t _=>?_;have D:=Yt (i:=i) U
    repeat apply Ξ
    refine W.draw (A:=[]) Ρ mixed λH v=>?_;simp;(repeat (rw[ZK];simp[l,F]));try rw[ZL]
    refine Yl (Ε.p (Ta x y) (ZM.refl _) I I) ?_;simp;(repeat (rw[ZK];simp));try rw[ZL]
    refine Y8 (v _ _ ?_);by_cases u:x<y
    .refine Α (by simp[u]) ?_;refine Γ D ?_;exact W.to (E (i+1) ⟨U,U,MF w l (by simp[m,o,u,ltInt])⟩ ZD) (by rw[t]) (by simp[D])
    .refine Ζ (by simp[u]) ?_;refine W.exit rfl ?_;exact W.stop ⟨rfl,by rw[t],by rw[<-ME w l (by simp[m,o,u,ltInt])];simp⟩
   .repeat apply Ξ
    refine XI l ?_;refine Ζ rfl ?_;refine W.exit rfl ?_;exact W.stop ⟨rfl,rfl,by rw[<-MD w l];simp⟩
  repeat apply Ξ
  refine W.Xn [(0,.ms 0 n 0 n),(1,J a),(10,J (c:Nat)),(11,J (k:Nat))] f ?_ ?_
  .refine W.iter (λi:Nat=>i<=(j)/\c<=i+1/\scanDown (λx=>!ltInt x f[a]!) f c i=k) (λi=>[(0,.ms 0 n 0 n),(1,J a),(10,J (c:Nat)),(11,J (i:Nat))]) (λ_=>[.cells 3 1 ((f).toList.map J)]) (λi=>i+1-c) ((j)) ⟨γ _,U,M⟩ rfl I (λi hi E=>?_);obtain⟨S,T,w⟩:=hi;by_cases l:c<=i
   .refine W.two J V (i:=i) (j:=a) U U λL x y _ m o F t _=>?_;have D:=Wf (i:=i) U U
    repeat apply Ξ
    refine W.draw (A:=[]) Ρ mixed λH v=>?_;simp;(repeat (rw[ZK];simp[l,F]));try rw[ZL]
    refine Yl (Ε.p (Ta x y) (ZM.refl _) I I) ?_;simp;(repeat (rw[ZK];simp));try rw[ZL]
    refine Y8 (v _ _ ?_);by_cases u:x<y
    .refine Ζ (by simp[u]) ?_;refine W.exit rfl ?_;exact W.stop ⟨rfl,by rw[t],by rw[<-MB w l U (by simp[m,o,u,ltInt])];simp⟩
    .refine Α (by simp[u]) ?_;refine Γ D ?_;exact W.to (E (i-1) ⟨U,U,MC w l U (by simp[m,o,u,ltInt])⟩ ZD) (by rw[t]) (by simp[D])
   .repeat apply Ξ
    refine XI l ?_;refine Ζ rfl ?_;refine W.exit rfl ?_;exact W.stop ⟨rfl,rfl,by rw[<-MA w l];simp⟩
  repeat apply Ξ
  by_cases l:c > k
  .have N:((k:Nat):Int)<(c:Nat):=U
   refine Γ N ?_;refine Α (by simp[l]) ?_;refine W.exit rfl ?_;rw[C,if_pos l] at X;exact W.stop ⟨rfl,by rw[<-X],by rw[<-X];simp⟩
  .have N:¬((k:Nat):Int)<(c:Nat):=U
   have an:=Y U
   have O:=Yt (i:=c) U
   have P:=Wf (i:=k) U U;refine Γ N ?_;refine Ζ (by simp[l]) ?_;refine W.two J V (i:=c) (j:=k) U U λL x y z m o F t B=>?_
   repeat apply Ξ
   refine W.draw (A:=[]) Ρ mixed λH v=>?_;simp;(repeat (rw[ZK];simp[F]));try rw[ZL];refine Y8 (v _ _ ?_)
   refine W.back B [(0,.ms 0 n 0 n),(1,J a),(10,J (c:Nat)),(11,J (k:Nat))] I ?_;clear F B t m o L x y z;refine Γ (Υ O P) ?_;exact W.to (E (c+1,k-1,swp f c k) ⟨swp_size V c k,ZD,ZD,ZD,by simp;rw[<-X,C,if_neg l]⟩ ZD) rfl (by simp[O,P])
 rw[ad] at C;have aj:=BO (ltInt) (a:=a) (b:=b) _ (c+1) (k-1) g (γ _) aa U U U;rw[ad] at aj;obtain⟨ak,ao⟩:=aj;obtain⟨j,h⟩:=R;simp only at ak ao C;refine W.two J ak (i:=j) (j:=a) U U λL x y z m o F t B=>?_
 repeat apply Ξ
 refine W.draw (A:=[]) Ρ mixed λH v=>?_;simp;(repeat (rw[ZK];simp[F]));try rw[ZL];refine Y8 (v _ _ ?_)
 refine W.back B [(0,.ms 0 n 0 n),(1,J a),(11,J (j:Nat))] I ?_;clear F B t m o L x y z;refine Τ ?_;exact W.ret ⟨_,rfl,by rw[C];rfl,by rw[C]⟩
theorem r6 (d:Array (Int)) (n a b p:Nat) (S:d.size=n) (ad:n<2 ^ 40) (ae:a<=p) (af:p<b) (ag:b<=n)  :
  Μ prog 204 [.ms 0 n 0 n,J a,J b,J p] [.cells 3 1 ((d).toList.map J)] (λr s=>r=J (Go.Sort.partitionEqual (ltInt) d a b p).1/\s=[.cells 3 1 (((Go.Sort.partitionEqual (ltInt) d a b p).2).toList.map J)]) (λ_ _=>False):=by
 refine Μ.body Ρ func204 rfl rfl ntmps204 rfl rfl I ?_;have Y:=Yt (i:=a) U;have Z:=Wf (i:=b) U U
 repeat apply Ξ
 refine VT ?_;refine W.two J S (i:=a) (j:=p) U U λL x y z k l F m v=>?_
 repeat apply Ξ
 refine W.draw (A:=[]) Ρ mixed λH u=>?_;simp;(repeat (rw[ZK];simp[F]));try rw[ZL];refine Y8 (u _ _ ?_)
 refine W.back v [(0,.ms 0 n 0 n),(1,J a),(2,J b),(3,J p)] I ?_;clear F v m k l L x y z;obtain⟨e,K⟩:=Η (swp d a p);have aa:e.size=n:=by rw[K];exact swp_size S a p
 rw[<-K]
 repeat apply Ξ
 refine Tb (Υ Y Z) ?_;refine W.to (σ':=[.cells 3 1 ((e).toList.map J)]) (env':=[(0,.ms 0 n 0 n),(1,J a),(9,J (a+1:Nat)),(10,J (b-1:Nat))]) ?_ rfl I;obtain⟨R,T⟩:=ZG (partEqLoop (ltInt) a (a+1) (b-1) e)
 repeat apply Ξ
 refine W.Xn [(9,J R.1)] R.2 ?_ ?_
 .refine W.iter (λq:Nat×Nat×Array (Int)=>q.2.2.size=n/\a<q.1/\q.1<=q.2.1+1/\q.2.1<b/\partEqLoop (ltInt) a q.1 q.2.1 q.2.2=R) (λq=>[(0,.ms 0 n 0 n),(1,J a),(9,J (q.1:Nat)),(10,J (q.2.1:Nat))]) (λq=>[.cells 3 1 ((q.2.2).toList.map J)]) (λq=>q.2.1+1-q.1) (a+1,b-1,e) ⟨aa,ZD,ZD,ZD,T⟩ rfl I (λq hi w=>?_);obtain⟨i,j,f⟩:=q;obtain⟨B,M,N,o,C⟩:=hi;simp only at B M N o C;obtain⟨c,O⟩:=ZG (scanUp (λx=>!ltInt f[a]! x) f (j) (i));obtain⟨h,P⟩:=ZG (scanDown (λx=>ltInt f[a]! x) f c (j));obtain⟨ah,ai,aj,ak,ab⟩:=O0 (λx=>!ltInt f[a]! x) (λx=>ltInt f[a]! x) (λx=>I) f U U O P;have D:partEqLoop (ltInt) a i j f=if c > h then(c,f) else partEqLoop (ltInt) a (c+1) (h-1) (swp f c h):=by
   rw[partEqLoop_eq];simp only[O,P]
  refine W.to (σ':=[.cells 3 1 ((f).toList.map J)]) (env':=[(0,.ms 0 n 0 n),(1,J a),(9,J (i:Nat)),(10,J (j:Nat))]) ?_ rfl I;refine W.block ?_
  repeat apply Ξ
  refine W.Xn [(0,.ms 0 n 0 n),(1,J a),(9,J (c:Nat)),(10,J (j:Nat))] f ?_ ?_
  .refine W.iter (λi:Nat=>(i)<=i/\i<=(j)+1/\scanUp (λx=>!ltInt f[a]! x) f (j) i=c) (λi=>[(0,.ms 0 n 0 n),(1,J a),(9,J (i:Nat)),(10,J (j:Nat))]) (λ_=>[.cells 3 1 ((f).toList.map J)]) (λi=>(j)+1-i) ((i)) ⟨γ _,U,O⟩ rfl I (λi hi w=>?_);obtain⟨M,N,o⟩:=hi;by_cases g:i<=(j)
   .refine W.two J B (i:=i) (j:=a) U U λL x y _ k l F m _=>?_;have E:=Yt (i:=i) U
    repeat apply Ξ
    refine W.draw (A:=[]) Ρ mixed λH u=>?_;simp;(repeat (rw[ZK];simp[g,F]));try rw[ZL]
    refine Yl (Ε.p (Ta y x) (ZM.refl _) I I) ?_;simp;(repeat (rw[ZK];simp));try rw[ZL]
    refine Y8 (u _ _ ?_);by_cases t:y<x
    .refine Ζ (by simp[t]) ?_;refine W.exit rfl ?_;exact W.stop ⟨rfl,by rw[m],by rw[<-ME o g (by simp[k,l,t,ltInt])];simp⟩
    .refine Α (by simp[t]) ?_;refine Γ E ?_;exact W.to (w (i+1) ⟨U,U,MF o g (by simp[k,l,t,ltInt])⟩ ZD) (by rw[m]) (by simp[E])
   .repeat apply Ξ
    refine XI g ?_;refine Ζ rfl ?_;refine W.exit rfl ?_;exact W.stop ⟨rfl,rfl,by rw[<-MD o g];simp⟩
  repeat apply Ξ
  refine W.Xn [(0,.ms 0 n 0 n),(1,J a),(9,J (c:Nat)),(10,J (h:Nat))] f ?_ ?_
  .refine W.iter (λi:Nat=>i<=(j)/\c<=i+1/\scanDown (λx=>ltInt f[a]! x) f c i=h) (λi=>[(0,.ms 0 n 0 n),(1,J a),(9,J (c:Nat)),(10,J (i:Nat))]) (λ_=>[.cells 3 1 ((f).toList.map J)]) (λi=>i+1-c) ((j)) ⟨γ _,U,P⟩ rfl I (λi hi w=>?_);obtain⟨M,N,o⟩:=hi;by_cases g:c<=i
   .refine W.two J B (i:=i) (j:=a) U U λL x y _ k l F m _=>?_;have E:=Wf (i:=i) U U
    repeat apply Ξ
    refine W.draw (A:=[]) Ρ mixed λH u=>?_;simp;(repeat (rw[ZK];simp[g,F]));try rw[ZL]
    refine Yl (Ε.p (Ta y x) (ZM.refl _) I I) ?_;simp;(repeat (rw[ZK];simp));try rw[ZL]
    refine Y8 (u _ _ ?_);by_cases t:y<x
    .refine Α (by simp[t]) ?_;refine Γ E ?_;exact W.to (w (i-1) ⟨U,U,MC o g U (by simp[k,l,t,ltInt])⟩ ZD) (by rw[m]) (by simp[E])
    .refine Ζ (by simp[t]) ?_;refine W.exit rfl ?_;exact W.stop ⟨rfl,by rw[m],by rw[<-MB o g U (by simp[k,l,t,ltInt])];simp⟩
   .repeat apply Ξ
    refine XI g ?_;refine Ζ rfl ?_;refine W.exit rfl ?_;exact W.stop ⟨rfl,rfl,by rw[<-MA o g];simp⟩
  repeat apply Ξ
  by_cases g:c > h
  .have Q:((h:Nat):Int)<(c:Nat):=U
   refine Γ Q ?_;refine Α (by simp[g]) ?_;refine W.exit rfl ?_;rw[D,if_pos g] at C;exact W.stop ⟨rfl,by rw[<-C],by rw[<-C];simp⟩
  .have Q:¬((h:Nat):Int)<(c:Nat):=U
   have al:=ab U
   have V:=Yt (i:=c) U
   have X:=Wf (i:=h) U U;refine Γ Q ?_;refine Ζ (by simp[g]) ?_;refine W.two J B (i:=c) (j:=h) U U λL x y z k l F m v=>?_
   repeat apply Ξ
   refine W.draw (A:=[]) Ρ mixed λH u=>?_;simp;(repeat (rw[ZK];simp[F]));try rw[ZL];refine Y8 (u _ _ ?_)
   refine W.back v [(0,.ms 0 n 0 n),(1,J a),(9,J (c:Nat)),(10,J (h:Nat))] I ?_;clear F v m k l L x y z;refine Γ (Υ V X) ?_;exact W.to (w (c+1,h-1,swp f c h) ⟨swp_size B c h,ZD,ZD,ZD,by simp;rw[<-C,D,if_neg g]⟩ ZD) rfl (by simp[V,X])
 refine Τ ?_;have D:Go.Sort.partitionEqual (ltInt) d a b p=R:=by unfold Go.Sort.partitionEqual;rw[<-K,T]
 exact W.ret ⟨_,rfl,by rw[D];rfl,by rw[D]⟩
theorem Bl (d:Array (Int)) (n lo hi first:Nat) (V:d.size=n) (ap:n<2 ^ 40) (aq:first+hi<=n) (X:lo<=n)  :
  Μ prog 231 [.ms 0 n 0 n,J lo,J hi,J first] [.cells 3 1 ((d).toList.map J)] (λr s=>r=.ZW []/\s=[.cells 3 1 ((Go.Sort.siftDown (ltInt) hi first lo d).toList.map J)]) (λ_ _=>False):=by
 refine Μ.body Ρ func231 rfl rfl ntmps231 rfl rfl I ?_;refine Τ ?_;obtain⟨R,P⟩:=ZG (Go.Sort.siftDown (ltInt) hi first lo d);rw[P];refine W.iter (λq:Nat×Array (Int)=>q.2.size=n/\q.1<=n/\Go.Sort.siftDown (ltInt) hi first q.1 q.2=R) (λq=>[(0,.ms 0 n 0 n),(2,J hi),(3,J first),(8,J (q.1:Nat))]) (λq=>[.cells 3 1 ((q.2).toList.map J)]) (λq=>hi-q.1) (lo,d) ⟨V,X,P⟩ rfl I (λq Y Z=>?_);obtain⟨r,e⟩:=q;obtain⟨m,aa,a⟩:=Y;simp only at m aa a;obtain⟨c,ab⟩:=Η (2*r+1);obtain⟨H,K⟩:=Η (c+1);obtain⟨ο,ad⟩:=Η (first+r);obtain⟨M,ae⟩:=Η (first+c);obtain⟨fd,af⟩:=Η (first+(c+1));have w1:i64.wrap (2*(r:Int))=2*(r:Int):=by rw[IntWalk.i64_in _ U]
 have ag:i64.wrap (2*(r:Int)+1)=(c:Int):=by rw[IntWalk.i64_in _ U];omega
 have N:i64.wrap ((c:Int)+1)=(H:Int):=by rw[IntWalk.i64_in _ U];omega
 have ah:i64.wrap ((first:Int)+(c:Int))=(M:Int):=by rw[IntWalk.i64_in _ U];omega
 have ai:i64.wrap ((M:Int)+1)=(fd:Int):=by rw[IntWalk.i64_in _ U];omega
 have Q:i64.wrap ((first:Int)+(r:Int))=(ο:Int):=by rw[IntWalk.i64_in _ U];omega
 refine W.to (σ':=[.cells 3 1 ((e).toList.map J)]) (env':=[(0,.ms 0 n 0 n),(2,J hi),(3,J first),(8,J (r:Nat))]) ?_ rfl I;refine Γ (Υ w1 ag) ?_;by_cases S:hi<=c
 .refine Α (by simp[S]) ?_;refine W.exit rfl ?_;exact W.nil ⟨_,rfl,rfl,by rw[<-a,Go.Sort.siftDown,dif_pos U]⟩
 refine Ζ (by simp[S]) ?_;obtain⟨B,g⟩:=Η ((decide (c+1<hi)&&ltInt e[first+c]! e[first+(c+1)]!):Bool);obtain⟨k,i⟩:∃k,k=if B=true then c+1 else c:=⟨_,rfl⟩
 have ar:k<hi:=by
  rw[i];split
  .rename_i h;rw[h] at g;have:=g.symm;simp at this;omega
  .omega
 have aj:=BN (ltInt) hi first r e (k:=k) ab U (by rw[<-g];exact i)
 rw[aj] at a
 repeat apply Ξ
 refine W.M' (A:=[]) Ρ mixed [(36,Z4 B),(0,.ms 0 n 0 n),(2,J hi),(3,J first),(8,J r),(9,J c)] ?_ (by
  by_cases o:H<hi
  .have b:M<n:=U
   have f:fd<n:=U;obtain⟨L,x,y,t,j,l,u,⟨v,w⟩,⟨C,D⟩,-,-⟩:=T1 J m b f;have O:B=ltInt x y:=by rw[g,<-j,<-l,ae,af];simp[<-K,o]
   have ak:(H:Int)<hi:=U;rw[t];clear j l;simp;(repeat (rw[ZK];simp[N,ah,ai,o,ak,u,v,w,C,D,b,f]));(try rw[ZL]);refine Yl (Ε.p (Ta x y) (ZM.refl _) I I) ?_;simp;(repeat (rw[ZK];simp));(try rw[ZL]);refine⟨XD (by kernel_rfl),?_⟩;simp[O,ltInt]
  .have O:B=false:=by rw[g];simp[<-K,o]
   simp;(repeat (rw[ZK];simp[N,o]));(try rw[ZL]);refine⟨XD (by kernel_rfl),?_⟩;simp[O])
 have au:r<k:=by rw[i];split<;>omega
 repeat apply Ξ
 refine W.upto [(0,.ms 0 n 0 n),(2,J hi),(3,J first),(8,J (r:Nat)),(9,J (k:Nat))] [.cells 3 1 ((e).toList.map J)] ?_ ?_
 .cases B with
  | true=>
   refine Α rfl ?_;refine Tb N ?_;exact W.stop ⟨rfl,rfl,by simp[i,K]⟩
  | false=>
   refine Ζ rfl ?_;refine W.skip ?_;exact W.stop ⟨rfl,rfl,by simp[i]⟩
 obtain⟨E,al⟩:=Η (first+k);rw[<-ad,<-al] at a;have T:i64.wrap ((first:Int)+(k:Int))=(E:Int):=by rw[IntWalk.i64_in _ U];omega
 have b:ο<n:=U
 have f:E<n:=U;obtain⟨L,x,y,t,j,l,u,⟨v,w⟩,⟨C,D⟩,am,av,an⟩:=T1 J m b f;rw[j,l] at a;refine W.to (σ':=[.cells 3 1 L]) (env':=[(0,.ms 0 n 0 n),(2,J hi),(3,J first),(8,J (r:Nat)),(9,J (k:Nat))]) ?_ (by rw[t]) I;clear j l
 repeat apply Ξ
 refine W.draw (A:=[]) Ρ mixed λaw ao=>V8 (Υ Q (Υ T (Υ u (Υ v (Υ w (Υ C (Υ D (Υ b f)))))))) ?_;refine Yl (Ε.p (Ta x y) (ZM.refl _) I I) ?_;simp;(repeat (rw[ZK];simp));try rw[ZL]
 refine Y8 (ao _ _ ?_);by_cases F:x<y
 .refine Ζ (by simp[F]) ?_
  repeat apply Ξ
  refine XI (Υ Q (Υ T (Υ u (Υ v (Υ w (Υ C (Υ D (Υ an (Υ b f))))))))) ?_;refine Τ ?_;refine W.to (Z (k,swp e ο E) ⟨swp_size m ο E,ZD,?_⟩ ZD) (by rw[am]) I;rw[<-a];simp[F,ltInt]
 .refine Α (by simp[F]) ?_;refine Τ ?_;exact W.ret ⟨_,rfl,rfl,by rw[<-t,<-a];simp[F,ltInt]⟩
theorem r5 (d:Array (Int)) (n a b:Nat) (K:d.size=n) (M:n<2 ^ 40) (ae:a<b) (af:b<=n)  :
  Μ prog 198 [.ms 0 n 0 n,J a,J b] [.cells 3 1 ((d).toList.map J)] (λr s=>r=.ZW []/\s=[.cells 3 1 ((Go.Sort.heapSort (ltInt) d a b).toList.map J)]) (λ_ _=>False):=by
 refine Μ.body Ρ func198 rfl rfl ntmps198 rfl rfl I ?_;obtain⟨m,T⟩:=ZG (b-a);have w1:i64.wrap ((b:Int)-(a:Int))=(m:Int):=by rw[IntWalk.i64_in _ U];omega
 have t:i64.wrap ((m:Int)-1)=((m-1:Nat):Int):=Wf U U
 have N:i64.wrap (((m-1:Nat):Int) / 2)=(((m-1) / 2:Nat):Int):=OZ (m:=2) U;obtain⟨ag,u⟩:=Η (m-1);obtain⟨v,O⟩:=Η ((m-1) / 2);rw[<-O,<-u] at N;rw[<-u] at t;have wp:∀k:Nat,k<=n->i64.wrap ((k:Int)-1)=(k:Int)-1:=λk p=>by rw[IntWalk.i64_in _ U]
 obtain⟨g,w⟩:=ZG (heapBuild (ltInt) m a (v+1) d);have P:Go.Sort.heapSort (ltInt) d a b=heapPop (ltInt) a m g:=by unfold Go.Sort.heapSort;rw[T,<-O,w]
 refine Γ (Υ w1 (Υ t N)) ?_;refine W.H7 [(0,.ms 0 n 0 n),(6,J a),(7,J 0),(8,J m)] [.cells 3 1 ((g).toList.map J)] ?_ ?_
 .refine W.iter (λq:Nat×Array (Int)=>q.2.size=n/\q.1<=v+1/\heapBuild (ltInt) m a q.1 q.2=g) (λq=>[(0,.ms 0 n 0 n),(6,J a),(7,J 0),(8,J m),(9,.z (.int .i64 ((q.1:Int)-1)))]) (λq=>[.cells 3 1 ((q.2).toList.map J)]) (λq=>q.1) (v+1,d) ⟨K,γ _,w⟩ rfl I (λq B C=>?_);obtain⟨k,e⟩:=q;obtain⟨c,p,f⟩:=B;simp only at c p f;cases k with
  | zero=>
   refine Τ ?_;refine Ζ rfl ?_;refine W.exit rfl ?_;exact W.stop ⟨rfl,by rw[<-f];rfl,I⟩
  | succ k=>
   have D:(0:Int)<=(k:Int):=U;refine W.to (σ':=[.cells 3 1 ((e).toList.map J)]) (env':=[(0,.ms 0 n 0 n),(6,J a),(7,J 0),(8,J m),(9,.z (.int .i64 ((k:Int))))]) ?_ rfl I;refine Γ D ?_;refine Α I ?_;refine Z' λQ o=>?_;refine Μ.call (first:=[]) (captured:=[]) ((Bl e n k m a c M U U).mono (λr s ⟨E,H⟩=>?_) (λ_ _ h=>h.elim));subst E;subst H;simp;(repeat (rw[Ν];simp));apply o;refine Γ (wp k U) ?_;exact W.to (C (k,Go.Sort.siftDown (ltInt) m a k e) ⟨K1 c,ZD,f⟩ I) rfl (by simp[wp k U])
 obtain⟨V,R⟩:=ZG (heapPop (ltInt) a m g);have X:g.size=n:=by rw[<-w];exact FL K
 rw[R] at P;refine Γ t ?_;refine W.iter (λq:Nat×Array (Int)=>q.2.size=n/\q.1<=m/\heapPop (ltInt) a q.1 q.2=V) (λq=>[(0,.ms 0 n 0 n),(6,J a),(7,J 0),(8,J m),(10,.z (.int .i64 ((q.1:Int)-1)))]) (λq=>[.cells 3 1 ((q.2).toList.map J)]) (λq=>q.1) (m,g) ⟨X,γ _,R⟩ rfl (by simp[u];omega) (λq B C=>?_);obtain⟨k,e⟩:=q;obtain⟨c,p,f⟩:=B;simp only at c p f;cases k with
 | zero=>
  refine Τ ?_;refine Ζ rfl ?_;refine W.exit rfl ?_;exact W.nil ⟨_,rfl,rfl,by rw[P,<-f];rfl⟩
 | succ k=>
  have D:(0:Int)<=(k:Int):=U;obtain⟨l,Y⟩:=Η (a+k);have Z:i64.wrap ((a:Int)+(k:Int))=(l:Int):=by rw[IntWalk.i64_in _ U];omega
  refine W.to (σ':=[.cells 3 1 ((e).toList.map J)]) (env':=[(0,.ms 0 n 0 n),(6,J a),(7,J 0),(8,J m),(10,.z (.int .i64 ((k:Int))))]) ?_ rfl I;refine Γ D ?_;refine Α I ?_;refine W.two J c (i:=a) (j:=l) U U λL x y z aa ab F ad S=>?_
  repeat apply Ξ
  refine W.draw (A:=[]) Ρ mixed λQ o=>?_;simp;(repeat (rw[ZK];simp[F,Z]));try rw[ZL];refine Y8 (o _ _ ?_)
  refine W.back S [(0,.ms 0 n 0 n),(6,J a),(7,J 0),(8,J m),(10,.z (.int .i64 ((k:Int))))] I ?_;clear F S ad aa ab L x y z;refine Z' λQ o=>?_;refine Μ.call (first:=[]) (captured:=[]) ((Bl (swp e a l) n 0 k a (swp_size c a l) M U U).mono (λr s ⟨E,H⟩=>?_) (λ_ _ h=>h.elim));subst E;subst H;simp;(repeat (rw[Ν];simp));apply o;refine Γ (wp k U) ?_;exact W.to (C (k,Go.Sort.siftDown (ltInt) k a 0 (swp e a l)) ⟨K1 (swp_size c a l),ZD,by rw[Y];exact f⟩ I) rfl (by simp[wp k U])
theorem r4 (d:Array (Int)) (n a b:Nat) (m:d.size=n) (C:n<2 ^ 40) (D:a<b) (E:b<=n)  :
  Μ prog 201 [.ms 0 n 0 n,J a,J b] [.cells 3 1 ((d).toList.map J)] (λr s=>r=.ZW []/\s=[.cells 3 1 ((Go.Sort.reverseRange d a b).toList.map J)]) (λ_ _=>False):=by
 refine Μ.body Ρ func201 rfl rfl ntmps201 rfl rfl I ?_;have w1:=Wf (i:=b) U U;refine Γ w1 ?_;refine W.iter (λq:Nat×Nat×Array (Int)=>q.2.2.size=n/\q.1<n/\q.2.1<n/\reverseLoop q.1 q.2.1 q.2.2=Go.Sort.reverseRange d a b) (λq=>[(0,.ms 0 n 0 n),(6,J (q.1:Nat)),(7,J (q.2.1:Nat))]) (λq=>[.cells 3 1 ((q.2.2).toList.map J)]) (λq=>q.2.1-q.1) (a,b-1,d) ⟨m,ZD,ZD,rfl⟩ rfl (by simp[w1]) (λq o p=>?_);obtain⟨i,j,e⟩:=q;obtain⟨g,hi,t,c⟩:=o;simp only at g hi t c;rw[reverseLoop] at c;refine W.to (σ':=[.cells 3 1 ((e).toList.map J)]) (env':=[(0,.ms 0 n 0 n),(6,J (i:Nat)),(7,J (j:Nat))]) ?_ rfl I;refine Τ ?_;by_cases f:i<j
 .refine Α (by simp[f]) ?_;rw[if_pos f] at c;have h:=Yt (i:=i) U;have k:=Wf (i:=j) U U;refine W.two J g (i:=i) (j:=j) U U λL x y z u v F w l=>?_
  repeat apply Ξ
  refine W.draw (A:=[]) Ρ mixed λH B=>?_;simp;(repeat (rw[ZK];simp[F]));try rw[ZL];refine Y8 (B _ _ ?_)
  refine W.back l [(0,.ms 0 n 0 n),(6,J (i:Nat)),(7,J (j:Nat))] I ?_;clear F l w u v L x y z;refine Γ (Υ h k) ?_;exact W.to (p (i+1,j-1,swp e i j) ⟨swp_size g i j,ZD,ZD,c⟩ ZD) rfl (by simp[h,k])
 .refine Ζ (by simp[f]) ?_;refine W.exit rfl ?_;rw[if_neg f] at c;exact W.nil ⟨_,rfl,rfl,by rw[c]⟩
end Go.TL
