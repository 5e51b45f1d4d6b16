import Derived.Carry
import Derived.ChangeSlices
import Derived.Conc.HoldsTime
import Derived.OpenShut
import Derived.Test.YtkndbcflmgogjaaGreatTAI
import Derived.Test.YtkndbcflmgogjaaGreatRows
set_option linter.defProp false
set_option maxHeartbeats 16000000
set_option maxRecDepth 20000
set_option linter.unusedSectionVars false
set_option linter.unusedSimpArgs false
set_option linter.unusedVariables false
namespace Go.TL
open Go.Conc Go.Proofs
open Go.ConcN (sumTo upd sumTo_upd upd_ne upd_same sumTo_congr le_sumTo)
noncomputable def Kp:Code:=Tryz.f141.body.getD .skip
noncomputable def zc:Code:=YN [1,1,1,1,0,1,0,0,1,1,0,0,1,1,0,0,1,1,0,0,1] Kp
noncomputable abbrev FT(vs:ZP):Frame:=Frame.enter Tryz.prog 141 vs .normal
abbrev env0(s m a:Nat)(b:Zm)(rest:κ):κ:=(5,.z (ptr a 0))::(4,.z (ptr s 0))::(3,.z (ptr m 0))::(1,XC b)::rest
abbrev Ko(s m c:Nat)(d:Zm)(a b:Int)(rest:κ):κ:=(7,.Κ [I b])::(6,.Κ [I a])::env0 s m c d rest
structure FR(a:Zm)(fd:Nat->Option Found)(pr:Nat->Int×Int)(F:Nat->Found)(N:Nat->Nat):Prop where
 look:∀k,k<3->∀c:Z8,@Μ c Tryz.prog 182 [Wa a,Y6 (pr k)] (YB (F k))
 many:∀k,k<3->∀c:Z8,@Μ c Tryz.prog 183 [YB (F k),I (-1)] (I (N k))
 fd:∀k,fd k=if k<3/\0<N k then some (F k) else none
def FR.Yf{a:Zm}{fd:Nat->Option Found}{pr:Nat->Int×Int}{F:Nat->Found}{N:Nat->Nat}(h:FR a fd pr F N)(L:Z6)(b:L.Nodup):(L.filterMap fd).length<=3:=by
 have c:L.filterMap fd=(L.filter (· < 3)).filterMap fd:=by
  rw[List.filterMap_filter];congr 1
  funext k
  by_cases e:k<3
  .simp[e]
  simp[e,h.fd k]
 rw[c];refine WL (Im ..) ?_;have d:(L.filter (· < 3)).Nodup:=b.filter _;exact BM 3 _ d λk f=>by simpa using (TK.1 f).2
variable[Z8]
def V.boxed{P:Program}{p:Value->Prop}{mn:Bool}{z:Vp}{b:Frame}{cs:YM}{nt:Nat}{d:Base}{k:Zk}{env:κ}{σ:Ρ}{ops:Y5}{i:Nat}{rest:Z6}{j:Oper}
  (x:Seq z) (y:b.mode=.run) (A:b.roundOf=none) (C:ops[i]?=some j) (D:j.guard=none) {g:TypeId} {f:Operand} (E:j.op=.box g f) {l:μ} (F:π env f=.Z' l) (I:l.all (Ψ.Y8 [])=true) (J:0<l.length)
  (h:∀(S:ζ)(B:ZZ)(H:Φ)(t:ZP)(r:Nat)(c:ZP),Xi d.m d.S d.B d.H d.σ S B H σ->XG d.m nt S B H σ env t->H.fresh r->(∃v,(S.lay r c) r 0=some v)->ZC S (S.lay r c) B B σ σ->Ext S B H (S.lay r c) B (H.YF r c g)->Holds (S.lay r c) B σ (H.YF r c g)->Θ (S.lay r c) B σ (.Κ l) (ptr r 0)->
   η P p mn z (χ b (put j t (ptr r 0)) (.inRegion ops rest::k)) cs (H.YF r c g)):V P p mn z b cs nt d (.inRegion ops (i::rest)::k) env σ:=by
 intro S B H t K n;refine .op x y C (by unfold Region.wanted;rw[D]) (.inl A) ?_;have e:execOp (ZX t) j=(do pure (.value (<-Instr.box g (ZX t f)))):=by unfold execOp;rw[E]
 have o:=S4 n.Zt f;rw[F]at o;rw[e];refine Ω.bind' ?_;unfold Instr.box;refine Ω.bind' ?_;unfold newVar newRow;have s:=KZ (σ:=σ) I;have L:=(o.cells (a:=.Z' l) s).1;refine Ω.bind' ⟨U,λr u=>Ω.pure' (Ω.pure' (Ω.pure' ?_))⟩;obtain⟨M,N,w⟩:=n.holds.lay (c:=(ZX t f).cells) (t:=g) u;have O:0<(ZX t f).cells.size:=by rw[L];exact J
 exact h S B H t r _ K n u ⟨(ZX t f).cells[0],by simp[ζ.lay,O]⟩ w N M (Bx w (Xd.one o s))
section
variable{y:Z0}{Q:Value->Prop}{mn:Bool}{β s m Η n:Nat}{Y2:ζ}{H1:Φ}{fd:Nat->Option Found}{pr:Nat->Int×Int}{F:Nat->Found}{N:Nat->Nat}{sp:Spec}{WU:Zm}{v:Option (Nat×Z5)}{vs:ZP}{cs:YM}{k:Zk}{rest:κ}
def De{a b:Int}(R:pr n=(a,b))(f:Uw y s sp)(ab:sp.ZR=some m)(ad:sp.Yd=LN β Y2 Η fd)(ae:∀k,sp.D k Φ.empty)(aQ:sp.top=3)(E:n<3)(j:FR WU fd pr F N)(af:∃q v,Y2 β q=some v)(ag:∃q x,H1.Α β q=some x)(ah:∀p∈rest,p.1∉[16,15,7,6,5,4,3,1]/\ε rest p.1=p.2)
  (ai:V Tryz.prog Q mn (one (ZW y s (.par (n+1) 0 .add) none 0)) (FT vs) cs 23 ⟨Y2,[],H1,[],0⟩ k ((6,.Κ [I a])::env0 s m Η WU rest) []) :
  V Tryz.prog Q mn (one (ZW y s (.par n 0 .add) v 0)) (FT vs) cs 23 ⟨Y2,[],H1,[],0⟩ (.code zc::k) (Ko s m Η WU a b rest) []:=by
 letI:Z8:=Yg;obtain rfl:a=(pr n).1:=by rw[R]
 obtain rfl:b=(pr n).2:=by rw[R]
 have o:=f.seq;refine V.Ys (o _ _ _) U ?_;simp only[zc,Kp,Tryz.f141,Option.getD_some,YN];refine ZA ?_;refine W.Zs (.stop ?_);refine V.call (o _ _ _) ⟨U,U,by simp[Frame.enter],U⟩ U U U ⟨_,Tryz.func72,U,U⟩ λS B H t aR aj c hv=>?_;obtain rfl:=V8 (l:=[ptr s 0,.int .i64 1]) hv;obtain rfl:B=[]:=YY.1 c.holds.len;rintro ak rfl;refine zv f J c.holds λaS T aT X al=>?_;rw[VQ U];have Y:ZC S T [] [] [] []:=⟨X.Za,λid r h=>by simp at h⟩;refine V.here (x:=one _) (m:=0) (nt:=23) (S:=T) (B:=[]) (σ:=[]) (env:=(15,.z (.tuple #[]))::Ko s m Η WU (pr n).1 (pr n).2 rest) ?_ ⟨al,Y'.later (Y'.put c.Zt (d:=15) (by rw[c.size];omega) (.z (.tuple #[]))) Y,X3 (Vh ..) c.size,Γ _⟩ _ U;refine V.Ys (o _ _ _) U ?_;refine W.ZK ?_;refine W.Zs ?_;refine XB [0] [1] ?_;refine W.stop ?_;intro w am an t3 ao e;obtain rfl:am=[]:=YY.1 e.holds.len;rintro ak rfl;have K:=e.Zt 16;simp only[ε,if_true]at K;obtain⟨aU,Z⟩:=ν (t3.getD 16 undef);rw[<-Z]at K;have M:Xi 0 Y2 [] H1 [] w [] an []:=aj.trans ((Xi.of X Y).trans ao);cases K with
 | fn w1 ap aq ar aV A=>
  have au:w1=#[]:=OI (by rw[<-aq];rfl);subst au;obtain⟨l2⟩:=ap
  match l2,ar with
  | [aa,av,aw,ax,ay,az],_=>
   have aA:aa=ptr s 0:=by have:=A 0 _ _ U U;cases this;rfl
   have aB:ay=ptr m 0:=by have:=A 4 _ _ U U;cases this;rfl
   have aC:az=ptr Η 0:=by have:=A 5 _ _ U U;cases this;rfl
   subst aA;subst aB;subst aC;have aD:XF w [] [] (zf s m Η WU (pr n).1 (pr n).2) (Dh s m Η av aw ax):=⟨U,λi a v C O=>A i a v C O⟩;refine Zx.EL (s:=s) (n:=n+1) (p:=0) (sp:=sp) f.rel U f.spec Zn ⟨U,U,by simp[Frame.enter],U⟩ U U U Z.symm (S:=w) e.holds ?_ ?_
   .rw[Ww];have aE:=zm e.holds;have aF:∀g:Ψ,∀p∈(6,.Κ [I (pr n).1])::env0 s m Η WU rest,ε ((16,g)::(15,.z (.tuple #[]))::Ko s m Η WU (pr n).1 (pr n).2 rest) p.1=p.2:=λg p c=>by
     simp only[env0,YU]at c;rcases c with rfl|rfl|rfl|rfl|rfl|c<;>first|rfl|skip
     obtain⟨C,O⟩:=ah p c;simp only[YU,XW,or_false,not_or]at C;obtain⟨aG,aH,aI,aJ,aK,aL,aM,aN⟩:=C;simp only[ε,YX aG,YX aH,YX aI,YX aJ,YX aK,YX aL,YX aM,YX aN,if_false];exact O
    refine V.Ys (o (.par (n+1) 0 .add) none 0) U (W.ZK (W.forget ((6,.Κ [I (pr n).1])::env0 s m Η WU rest) (aF _) (.stop ai))) w [] _ t3 (M.trans (Xi.of aE (ZC.refl ..))) ⟨qd e.holds,e.Zt,e.size,Γ _⟩ _ U
   refine p6 ab J ad (ae _) (j.look n E) (j.many n E) ?_ (λL aO=>?_) ?_ (λb q u P=>?_) aD
   .show fd n=_;rw[j.fd n];simp[E]
   .rw[WS];have:=j.Yf L aO;omega
   .obtain⟨q,u,P⟩:=af;exact⟨q,u,M.ext.Za _ _ _ P⟩
   obtain⟨aW,aa,aP⟩:=ag;rcases M.ext.S6 b q u P with h|⟨N,h⟩|h
   .exact .inl (by rw[h];simp)
   .simp at h
   exact .inr (Kq aP h)
end
end Go.TL
namespace Go.TL
open Go.Conc Go.Proofs
open Go.ConcN (sumTo upd sumTo_upd upd_ne upd_same sumTo_congr le_sumTo)
structure Calm(T:Nat->Option (Tok×Spec))(y:Z0):Prop where
 rel:y.rel=false
 Z9:y.Z9=λ_=>none
 deaf:y.deaf=0
 own:∀s,(T s=none/\Xp (y.tok s))\/∃sp,T s=some (y.tok s,sp)/\y.spec s=some sp/\SA (y.tok s)/\¬Xp (y.tok s)
def calm(T:Nat->Option (Tok×Spec)):Vp:=Calm T
@[reducible] def Ye:Z8:=⟨λx=>∃T,x=calm T⟩
def Calm.still{T:Nat->Option (Tok×Spec)}{y:Z0}(h:Calm T y)(s:Nat):SA (y.tok s):=by
 rcases h.own s with⟨_,a⟩|⟨_,_,_,a,_⟩
 .cases b:y.tok s with
  | nil=>trivial
  | par n p c=>rw[b]at a;cases c<;>first|trivial|exact a.elim
  | ch k d g=>rw[b]at a;exact a.elim
 exact a
def Calm.none{T:Nat->Option (Tok×Spec)}{y:Z0}(h:Calm T y){s:Nat}(b:Xp (y.tok s)):T s=none:=by
 rcases h.own s with⟨a,_⟩|⟨_,_,_,_,a⟩
 .exact a
 exact absurd b a
def Calm.bare{y:Z0}(h:Calm (λ_=>Option.none) y)(s:Nat):Xp (y.tok s):=by
 rcases h.own s with⟨_,a⟩|⟨_,a,_⟩
 .exact a
 cases a
variable[Z8]
def N8(x y:Found):Int:=P0 (x.u,x.v) (y.u,y.v)
def Rj(x y:Found):Prop:=x.u<y.u\/(x.u=y.u/\x.v<y.v)
def pY(x y:Found):Zh N8 x y=true↔Rj x y:=by
 have h:=Oe (x.u,x.v) (y.u,y.v)
 have e:Zh N8 x y=Zh P0 (x.u,x.v) (y.u,y.v):=rfl;rw[e,h];simp[Rj]
def pX:Go.Sort.SWO (Zh N8) where
 irrefl x:=Gk.irrefl (x.u,x.v)
 trans x y z:=Gk.trans (x.u,x.v) (y.u,y.v) (z.u,z.v)
 ntrans x y z:=Gk.ntrans (x.u,x.v) (y.u,y.v) (z.u,z.v)
instance:Inhabited Found:=⟨⟨0,0,[]⟩⟩
def pW{m:Wz}(h:m.Pairwise Rj):∀a∈m,∀b∈m,¬Rj a b->¬Rj b a->a=b:=by
 induction h with
 | nil=>intro a c;cases c
 | cons d o l=>
  intro a c b n e f;rcases YU.1 c with g|i<;>rcases YU.1 n with j|k
  .rw[g,j]
  .exact absurd (g▸d b k) e
  .exact absurd (j▸d a i) f
  exact l a i b k e f
def pV{l m:Wz}(s:l.Perm m)(e:m.Pairwise Rj):(Go.Sort.insertionSort (Zh N8) l.toArray 0 l.length).toList=m:=by
 obtain⟨⟨f,_,c⟩,g⟩:=Go.Sort.insertionSort_holds (lt:=Zh N8) pX l.toArray 0 l.length (Γ _) o;generalize Go.Sort.insertionSort (Zh N8) l.toArray 0 l.length=d at f c g;have n:d.size=l.length:=by simpa using f
 have t:d.extract 0 l.length=d:=by rw[<-n];exact Array.extract_size
 have Υ:l.toArray.extract 0 l.length=l.toArray:=by
  simp
 rw[t,Υ]at c;have p:d.toList.Perm m:=c.trans s;have u:∀x y,Zh N8 x y=false↔¬Rj x y:=λx y=>by rw[<-pY];simp
 refine Io (le:=λx y=>¬Rj y x) (λa b v w A B=>?_) ?_ (e.imp λ{a b} h k=>?_) p
 .exact pW e a (p.mem_iff.1 v) b w B A
 .rw[Tm];intro i j hi r C;have:=g i j (Γ _) C (by simpa[n] using r);rw[u]at this;rw[getElem!_pos d j (by simpa using r),getElem!_pos d i (by simpa using hi)]at this;simpa using this
 simp only[Rj]at h k;omega
def Dd{D:Nat->Φ->Prop}(a:∀k E,D k E->E=Φ.empty):∀(L:Z6)(E:Φ),Ta D L E->E=Φ.empty:=by
 intro L
 induction L with
 | nil=>intro E h;exact h
 | cons k g b=>
  rintro E ⟨c,d,e,f,_,rfl⟩;rw[a k c e,b d f];exact Mw _
end Go.TL
namespace Go.TL
open Go.Conc Go.Proofs
open Go.ConcN (sumTo upd sumTo_upd upd_ne upd_same sumTo_congr le_sumTo)
abbrev FQ:Ψ:=.fn (.func 185) [] []
def pU[Z8](x y:Found):WG Tryz.prog FQ [YB x,YB y] (I (N8 x y)):=λσ=>(sJ x y).c (ZJ.refl _) o o ⟨rfl,rfl⟩
section
variable{y:Z0}{Q:Value->Prop}{mn:Bool}{β s m Η:Nat}{Uv Y2:ζ}{WV H1:Φ}{fd:Nat->Option Found}{sp:Spec}{WU:Zm}{v:Option (Nat×Z5)}{vs:ZP}{c:Frame}{cs:YM}{T:Nat->Option (Tok×Spec)}
def pT(aa:Uw y s sp)(ao:sp.ZR=some m)(ap:sp.Yd=LN β Y2 Η fd)(aq:∀k E,sp.D k E->E=Φ.empty)(ar:∀L:Z6,L.Nodup->(L.filterMap fd).length<=3){d:Wz}(au:(List.range 3).filterMap fd=d)(av:d.Pairwise Rj)
  (aw:∀v,Calm T (ZW y s (.par 3 0 .Zg) v 0)) (ax:Me Tryz.prog Q mn (calm T) c cs Uv [] WV [] (λa s=>Yw a (Va d)/\s=[]) (λ_ _=>False)) (ay:Ext Uv [] WV Y2 [] H1) (az:WV.fresh β) :
  V Tryz.prog Q mn (one (ZW y s (.par 3 0 .add) v 0)) (FT vs) (c::cs) 23 ⟨Y2,[],H1,[],0⟩ [.code (YN [1,1,1,1,1] Kp)] (env0 s m Η WU []) []:=by
 letI:Z8:=Yg;have F:=aa.seq;refine V.Ys (F _ _ _) U ?_;simp only[Kp,Tryz.f141,Option.getD_some,YN];refine ZA ?_;refine W.Zs (.stop ?_);refine V.call (F _ _ _) ⟨U,U,by simp[Frame.enter],U⟩ U U U ⟨_,Tryz.func80,U,U⟩ λS B H t a5 g A hv=>?_;obtain rfl:=V8 (l:=[ptr s 0]) hv;obtain rfl:B=[]:=YY.1 A.holds.len;rintro aA rfl;refine Dr aa A.holds (n:=3) λI H' aB ab aC a6 C ad a7 aD aE a8 a9 aF a' aG aH ba aI O=>?_;rw[VQ U];obtain rfl:=Dd aq aB aC aD;rw[Mw]at O;obtain⟨ae,af⟩:=aE (by rw[ao];simp);rw[ap]at af;obtain⟨hi,K,M,P,aJ⟩:=af;obtain⟨w,f1,f2,f3⟩:=aG;obtain⟨G,R⟩:=ν (ab.filterMap fd);have X:G.Perm d:=by rw[R,<-au];exact ae.filterMap _
 have bb:G.length<=3:=by rw[R];exact ar ab (ae.nodup_iff.2 H7)
 rw[<-R]at P;obtain⟨aK,l1,l2⟩:=Dk ad P aF ⟨w,f1,f3⟩ (FU _);have aL:=zj (ay.trans (g.ext.trans C)) (g.ext.trans C).Za az hi ad P (FU _);obtain⟨aM,aN⟩:=aK.P8 (λb aO=>O.P8 aO) O.grow;have aP:=aL.trans aN;have aQ:t.getD 5 undef=ptr Η 0:=by
  have:=A.Zt 5;simp only[ε]at this;generalize t.getD 5 undef=u at this;cases this;rfl
 have aR:Y' (I.plus K) M (Wv (G.map YB)) [(5,.Ο 0 1 0 0)] (t.setIfInBounds 19 (.tuple #[])):=λi=>by
  simp only[ε];split
  .rename_i e;subst e;have aS:(t.setIfInBounds 19 (.tuple #[])).getD 5 undef=ptr Η 0:=by
    rw[<-aQ,Vv,Vv,Ut θ]
   rw[aS];have:=Θ.Ο (S:=I.plus K) (B:=M) (σ:=Wv (G.map YB)) (id:=0) (n:=1) (i:=0) (j:=0) (k:=1) (t:=166) (l:=[N9 (G.map YB)]) (b:=Η) (N:=1) (by simp[Wv]) U aJ;simpa using this
  exact .Zl _
 refine V.here (x:=one _) (m:=0) (nt:=23) (S:=I.plus K) (B:=M) (σ:=Wv (G.map YB)) (env:=[(5,.Ο 0 1 0 0)]) ?_ ⟨aM,aR,X3 (Vh ..) A.size,Γ _⟩ _ U;have ag:∀(e:Bool)(k:Nat),Yw (.sl e k (d.map YB)) (Va d)->V Tryz.prog Q mn (one (ZW y s (.par 3 0 .Zg) aH 0)) (FT vs) (c::cs) 23 ⟨I.plus K,M,aI,Wv (G.map YB),0⟩ [.code .ret] [(2,.sl e k (d.map YB))] []:=λe k aT=>by
  intro bc aU bd t5 aV Y;obtain rfl:aU=[]:=YY.1 Y.holds.len;refine η.ret (F _ _ _) U U (η.back (F _ _ _) U U (.inl U) Tryz.func141 ?_);refine Ω.mono (λu aW ⟨aX,aY,aZ,be,ah,a0⟩=>?_) (λ_ _ h=>h) _ (Mc Τ (a:=.sl e k (d.map YB)) U Y.holds Y.Zt);obtain rfl:aY=[]:=YY.1 ah.len;rintro aA rfl;have ai:=aP.trans (aV.ext.trans aZ);exact ax.ret _ [] aX [] aW u ⟨aT,U⟩ ai ⟨ai.Za,λid r h=>by simp at h⟩ ah a0 _ (aw _)
 refine V.Ys (F _ _ _) U ?_;refine W.ZK ?_;have a1:∀e∈G.map YB,∀a∈e.cells,ω 0 a:=λe C a g=>by
  obtain⟨z,_,rfl⟩:=ZG.1 C;exact KE z a g
 by_cases aj:G=[]
 .subst aj;have a2:d=[]:=X.symm.eq_nil;subst a2;refine ZA ?_;refine Yz λZ f=>?_;simp;(repeat (rw[Ι];simp[Wv,Di,R6]));refine Μ.c (rT FQ o) (ZJ.refl _) o o ?_;simp;(repeat (rw[Ι];simp));apply f;refine ο λZ f=>?_;apply f;refine W.cut 0 (Γ _) [(2,.sl true 0 [])] (Γ _) (λid r h=>J) (by simp;exact .low o) ?_;exact .stop (ag _ _ .nil)
 have ak:G.map YB≠[]:=by simpa using aj
 have a3:=pV X av;refine ZA ?_;refine Yz λZ f=>?_;simp;(repeat (rw[Ι];simp[Wv,FV ak,UT ak]));have al:=sC G.toArray G.length o J FQ N8 o pU;rw[a3]at al;have a4:d.length=G.length:=X.length_eq.symm;have am:ω 0 FQ:=o;have an:∀e∈d.map YB,∀a∈e.cells,ω 0 a:=λe C a g=>by
  obtain⟨z,_,rfl⟩:=ZG.1 C;exact KE z a g
 refine Ν.one al 1 U a1 an (by simp[Uj,PZ,am.U' 1]) (by simp[Xc]) (by simp[Ui,TW,am.Yt [1]]) ?_;simp[Yt,WE];(repeat (rw[Ι];simp));apply f;refine ο λZ f=>?_;apply f;refine W.cut 0 (Γ _) [(2,.sl false 3 (d.map YB))] (Γ _) (λid r h=>J) (λp A=>?_) ?_
 .obtain rfl:p=(2,.sl false 3 (d.map YB)):=by simpa using A
  refine Yx.own (id:=1) (t:=173) (Γ _) U (by simp[a4]) an
 exact .stop (ag _ _ (.refl _))
end
def IZ{P:Program}{ty z}(h:((P.info? ty).bind (·.zero))=some z):∃a,P.info? ty=some a/\a.zero=some z:=by
 cases hi:P.info? ty with
 | none=>rw[hi]at h;cases h
 | some a=>rw[hi]at h;exact⟨a,rfl,h⟩
def zb:((Tryz.prog.info? 136).bind (·.zero))=some (.agg #[.int .i32 0,.int .u32 0]):=by kernel_rfl
def za:((Tryz.prog.info? 142).bind (·.zero))=some (.agg #[.int .u64 0,.int .u32 0]):=by kernel_rfl
def pS:((Tryz.prog.info? 166).bind (·.zero))=some (.slice none 0 0):=by kernel_rfl
def pR{a}:Holds WZ [some (a,1)] (Wv []) (Φ.empty.YF a #[.slice none 0 0] 166):=by
 have b:Holds WZ [] [] Φ.empty:=I8 _
 have c:Xd WZ [] [] #[.slice none 0 0] 1 [.sl true 0 []]:=Xd.one (.WI none 0 λ_=>rfl) U;exact(Mt (P:=Tryz.prog) (E:=λ_ _=>False) b c 166 λr _ d _ _=>d).2 a ⟨λ_=>rfl,U,U,λ_ _=>⟨λ_=>rfl,U,U⟩⟩
section
variable{fd:Nat->Option Found}{pr:Nat->Int×Int}{F:Nat->Found}{N:Nat->Nat}{WU:Zm}{Dc:Wz}
def pQ(Y:FR WU fd pr F N)(av:pr 0=(1,0))(aw:pr 1=(2,0))(ax:pr 2=(2,1))(ay:(List.range 3).filterMap fd=Dc)(az:Dc.Pairwise Rj):@Μ Ye Tryz.prog 141 [Wa WU] (Va Dc):=by
 refine⟨⟨_,Tryz.func141,U,U⟩,λa5 mn x c rest al aA ag vs aB am aC aD=>?_⟩;obtain⟨T,rfl⟩:∃T,x=calm T:=@Seq.cls Ye x aB;obtain rfl:aA=[]:=YY.1 am.len;intro y w;have i:=w.rel;have Z:=w.Z9;have aE:=w.deaf;letI:Z8:=Yg;have ah:Seq (one y):=Seq.PV trivial i Z;rw[Ty (body:=Kp) Tryz.func141 U];refine V.here (x:=one y) (m:=0) (nt:=23) (S:=al) (B:=[]) (H:=ag) (σ:=[]) (env:=entry 0 [Wa WU]) ?_ (XG.enter am aC (Z3 _) o) y U;apply V.Ys ah U;simp only[Kp,Tryz.f141,Option.getD_some];refine ZA ?_;refine W.Zs (.stop ?_);refine V.boxed ah U U U U U (l:=[UA WU.Z2,Yv WU.ZE,Tz WU.cells]) U U o λS B H t n aF an C aG aH aI aJ aK aL=>?_;obtain rfl:B=[]:=YY.1 C.holds.len;refine V.here (x:=one y) (m:=0) (nt:=23) (S:=S.lay n aF) (B:=[]) (σ:=[]) (env:=[(1,XC WU)]) ?_
  ⟨aK,Rk (Y'.put (C.Zt.later aI) (d:=1) (by rw[C.size];omega) aL) o,X3 (Vh ..) C.size,Γ _⟩
 apply V.Ys ah U;refine XB [1] [] ?_;apply W.ZK;refine ZA ?_;refine W.Zs (.stop ?_);intro L aM ao t2 ap j;obtain rfl:aM=[]:=YY.1 j.holds.len;intro g aN;obtain rfl:g=y:=aN;let ⟨a6,aO,aP⟩:=IZ zb;let ⟨a7,aQ,aR⟩:=IZ za;let ⟨a8,aS,aT⟩:=IZ pS;refine Zx.I0 i ⟨U,U,by simp[Frame.enter],U⟩ U U aO aP λm a9 _=>?_;apply Zx.next
 .exact .inl i
 .rfl
 refine Zx.I0 ?_ ⟨U,U,by simp[Frame.enter],U⟩ U U aQ aR λs a' aU=>?_
 .exact i
 apply Zx.next
 .exact .inl i
 .rfl
 refine Zx.I0 ?_ ⟨U,U,by simp[Frame.enter],U⟩ U U aS aT λa aq aV=>?_
 .exact i
 have aW:m<s:=aU m _ (upd_same ..)
 have aX:s<a:=aV s _ (upd_same ..);obtain⟨sp,M⟩:∃sp:Spec,sp=⟨some m,LN n L a fd,λ_ E=>E=Φ.empty,3⟩:=⟨_,U⟩;have aa:∃q v,L n q=some v:=let ⟨u,ai⟩:=aH;⟨0,u,ap.ext.Za _ _ _ ai⟩;have ab:∃q x,ao.Α n q=some x:=let ⟨q,u,ai⟩:=aa;let ⟨p,C⟩:=j.holds.Za _ _ _ ai;⟨q,_,C⟩;have ar:n<a:=let ⟨_,_,h⟩:=ab;Kq h aq;have O:sp.ZR=some m:=by rw[M]
 have P:sp.Yd=LN n L a fd:=by rw[M]
 have ad:∀k E,sp.D k E↔E=Φ.empty:=λk E=>by rw[M]
 have ae:sp.top=3:=by rw[M]
 clear M;have aY:sp.Yd [] (Φ.empty.YF a #[.slice none 0 0] 166):=by
  rw[P];refine⟨⟨λb q x Q=>?_,λb x Q=>?_,λb x Q=>(by cases Q)⟩,WZ,_,pR,U⟩
  .by_cases e:b=a
   .exact .inr (e▸ar)
   simp[Φ.YF,e,Φ.empty]at Q
  by_cases e:b=a
  .exact e▸ar
  simp[Φ.YF,e,Φ.empty]at Q
 refine Zx.group (y:=g) (sp:=sp) i Z aW aX O aq aY λaZ=>?_;let ⟨aj,ak⟩:=ν ({g with spec:=upd g.spec s (some sp)}:Z0);have a0:({g with tok:=upd g.tok s (.par 0 0 .add),spec:=upd g.spec s (some sp),view:=upd g.view s none}:Z0)=ZW aj s (.par 0 0 .add) none 0:=by
  rw[ak];unfold ZW;simp only[aE]
 rw[a0];have R:Uw aj s sp:=by
  rw[ak];exact⟨i,Z,upd_same ..,by rw[ae];decide,λr _=>w.still r⟩
 have a1:∀v,Calm T (ZW aj s (.par 3 0 .Zg) v 0):=λv=>by
  rw[ak];refine⟨i,Z,U,λr=>?_⟩;by_cases e:r=s
  .subst e;rw[Zn];exact .inl ⟨w.none (by rw[aZ];trivial),trivial⟩
  rw[Nm e];show _\/∃au,T r=some (g.tok r,au)/\upd g.spec s (some sp) r=some au/\_;rw[upd_ne _ _ e];exact w.own r
 have af:=R.seq
 have a2:=Y.Yf
 have a3:Ext al [] ag L [] ao:=an.ext.trans (aJ.trans ap.ext)
 have a4:ag.fresh n:=an.ext.grow _ aG;refine V.here (x:=one _) (m:=0) (nt:=23) (S:=L) (B:=[]) (σ:=[]) (env:=env0 s m a WU []) ?_
  ⟨j.holds,Rk (Y'.put (Y'.put (Y'.put j.Zt (d:=3) (by rw[j.size];omega) (.z (ptr m 0))) (d:=4) (by rw[Vh,j.size];omega) (.z (ptr s 0))) (d:=5) (by rw[Vh,Vh,j.size];omega) (.z (ptr a 0))) o,
   X3 (Vh ..) (X3 (Vh ..) (X3 (Vh ..) j.size)),Γ _⟩ _ U
 have w1:IntKind.i64.wrap 1=1:=θ
 have J:IntKind.i64.wrap 2=2:=θ
 have K:IntKind.i64.wrap 3=3:=θ;apply V.Ys (af _ _ _) U;apply W.ZK;refine V1 ?_;refine .loop ?_;refine V1 ?_;refine ZB (A:=[6]) Τ λX f=>ς ?_;apply f;apply W.fix (id:=0) (σ':=[]) (Γ _) U o o U ((6,.Κ [I 0])::env0 s m a WU [(8,I 0)]) o;refine V1 ?_;refine .loop ?_;refine V1 ?_;refine W.exit U ?_;refine V0 (Ξ w1 (Ξ J K)) ?_;refine .inLoop ?_;refine V1 ?_;refine ZB (A:=[6]) Τ λX f=>ς ?_;apply f;refine W.fix (id:=0) (σ':=[]) (Γ _) U o o U ((6,.Κ [I 1])::env0 s m a WU [(8,I 1)]) o ?_;refine V1 ?_;refine .loop ?_;refine V1 ?_;refine ZB (A:=[7]) Τ λX f=>ς ?_;apply f;apply W.fix (id:=0) (σ':=[]) (Γ _) U o o U (Ko s m a WU 1 0 [(8,I 1),(11,I 1),(12,I 0)]) o;refine W.stop (De av R O P (λk=>(ad k _).2 U) ae θ Y aa ab o ?_);apply V.Ys (af _ _ _) U;refine V0 (Ξ w1 (Ξ J K)) ?_;refine .inLoop ?_;refine V1 ?_;refine W.exit U ?_;refine V0 (Ξ w1 (Ξ J K)) ?_;refine .inLoop ?_;refine V1 ?_;refine ZB (A:=[6]) Τ λX f=>ς ?_;apply f;refine W.fix (id:=0) (σ':=[]) (Γ _) U o o U ((6,.Κ [I 2])::env0 s m a WU [(8,I 2)]) o ?_;refine V1 ?_;refine .loop ?_;refine V1 ?_;refine ZB (A:=[7]) Τ λX f=>ς ?_;apply f;refine W.fix (id:=0) (σ':=[]) (Γ _) U o o U (Ko s m a WU 2 0 [(8,I 2),(11,I 2),(12,I 0)]) o ?_;refine W.stop (De aw R O P (λk=>(ad k _).2 U) ae θ Y aa ab o ?_);refine V.Ys (af _ _ _) U ?_;refine V0 (Ξ w1 (Ξ J K)) ?_;refine .inLoop ?_;refine V1 ?_;refine ZB (A:=[7]) Τ λX f=>ς ?_;apply f;refine W.fix (id:=0) (σ':=[]) (Γ _) U o o U (Ko s m a WU 2 1 [(8,I 2),(11,I 2),(12,I 1)]) o ?_;refine W.stop (De ax R O P (λk=>(ad k _).2 U) ae θ Y aa ab o ?_);refine V.Ys (af _ _ _) U ?_;refine V0 (Ξ w1 (Ξ J K)) ?_;refine .inLoop ?_;refine V1 ?_;refine W.exit U ?_;refine V0 (Ξ w1 (Ξ J K)) ?_;refine .inLoop ?_;refine V1 ?_;refine W.exit U ?_;refine W.forget (env0 s m a WU []) o ?_;refine W.stop ?_;exact pT R O P (λk E=>(ad k E).1) a2 ay az a1 aD a3 a4
end
end Go.TL
namespace Go.TL
open Go.Proofs
def Wu:Nat->Int×Int
 | 0=>(1,0)
 | 1=>(2,0)
 | _=>(2,1)
def SU(s:Zm)(p:Int×Int):Found:=⟨p.1,p.2,(List.range s.cells.length).map (Rl s p)⟩
def SS(s:Zm)(k:Nat):Option Found:=if k<3/\0<(SU s (Wu k)).many (-1) then some (SU s (Wu k)) else none
def VY(s:Zm):Wz:=(List.range 3).filterMap (SS s)
structure Db(N:Nat)(s:Zm):Prop where
 small:s.small
 Z2:s.Z2.length<2 ^ 20
 lit:∀c∈s.cells,∀x∈c,0<=x.Xn/\x.Xn<s.ZE.length
 reads:∀k,k<3->∀c,c<s.cells.length->(Rl s (Wu k) c).length<=N
 many:∀k,k<3->∀i,i<=s.cells.length->QH (SU s (Wu k)).cells (-1) i<2 ^ 62
abbrev pP(s:Zm):Prop:=Db 12 s
def pO{N:Nat}(n:N<2 ^ 20)(o:∀c:Z8,@DR c N){s:Zm}(h:Db N s):@O8 Ye s (VY s):=λ_=>by
 refine pQ (fd:=SS s) (pr:=Wu) (F:=λk=>SU s (Wu k)) (N:=λk=>(SU s (Wu k)).many (-1)) ⟨λk g c=>?_,λk g c=>?_,λk=>rfl⟩ U U U U ?_
 .exact @rD c s h.small h.Z2 (Wu k) h.lit N n (o c) (h.reads k g)
 .have l:(SU s (Wu k)).cells.length=s.cells.length:=by simp[SU]
  have:=h.small.2.2.1;exact @sM c (SU s (Wu k)) (-1) (by rw[l];omega) (λi hi=>h.many k g i (by rw[<-l];exact hi))
 have e:(List.range 3).filterMap (SS s)=(SS s 0).toList++(SS s 1).toList++(SS s 2).toList:=by
  show [0,1,2].filterMap (SS s)=_;simp only[List.filterMap_cons,List.filterMap_nil];cases SS s 0<;>cases SS s 1<;>cases SS s 2<;>rfl
 show((List.range 3).filterMap (SS s)).Pairwise Rj;rw[e];have m:∀k x,x∈(SS s k).toList->x=SU s (Wu k):=λk x f=>by
  unfold SS at f;split at f
  .simpa using f
  simp at f
 have one:∀k,((SS s k).toList).Pairwise Rj:=λk=>by cases SS s k<;>simp
 rw[Lp,Lp];refine⟨⟨one 0,one 1,λa d b j=>?_⟩,one 2,λa d b j=>?_⟩
 .rw[m 0 a d,m 1 b j];exact .inl (show(Wu 0).1<(Wu 1).1 by decide)
 rw[m 2 b j];rcases VS.1 d with d|d
 .rw[m 0 a d];exact .inl (show(Wu 0).1<(Wu 2).1 by decide)
 rw[m 1 a d];exact .inr ⟨U,show(Wu 1).2<(Wu 2).2 by decide⟩
def y'{s:Zm}(h:pP s):@O8 Ye s (VY s):=pO θ (λc=>@rN c) h
def pN{l m:ψ}(d:l.Perm m)(e:m.Pairwise λa b=>a<=b):WQ l=m:=by
 have f:∀a b c:Int,decide (a<=b)=true->decide (b<=c)=true->decide (a<=c)=true:=λa b c h k=>by simp at *;omega
 have g:∀a b:Int,(decide (a<=b)||decide (b<=a))=true:=λa b=>by simp;omega
 have i:=Il (le:=λx y:Int=>decide (x<=y)) f g l
 have j:(l.mergeSort λx y:Int=>decide (x<=y)).Perm m:=(Ln l _).trans d;exact Io (le:=λa b:Int=>a<=b) (λa b _ _ h k=>J) (i.imp λ{a b} h=>by simpa using h) e j
end Go.TL
namespace Go.TL
open Go.Proofs
variable[Z8]
structure ZF where
 Z4:ψ
 state:Int
abbrev y9(n:Int):Ψ:=.z (.int .u64 n)
abbrev pM(d:ZF):Ψ:=.Z' [δ I 1 d.Z4,y9 d.state]
abbrev ZS(d:ZF):Row:=.cells 76 2 [pM d]
def IY(d:ZF):Int:=IntKind.u64.wrap (d.Z4.headD 0)
def Kn(d:ZF):Int:=IntKind.u64.wrap (IntKind.u64.wrap (IntKind.u64.wrap (d.state+(if d.Z4=[] then 0 else IY d))+6364136223846793005)*15074714826142052245)
def N7(d:ZF):Int:=HF .u64 (Kn d) ((Kn d).fdiv (2 ^ min 29 IntKind.u64.bits))
def OY(d:ZF):Int:=(IntKind.u64.wrap (HF .u64 (N7 d) ((N7 d).fdiv (2 ^ min 33 IntKind.u64.bits))*18397679294719823053)).fdiv (2 ^ min 32 IntKind.u64.bits)
def ZF.next(d:ZF):ZF:=⟨d.Z4.tail,N7 d⟩
def pL(d:ZF)(hd:d.Z4.length<2 ^ 63):Ν Tryz.prog 69 [.Ο 0 1 0 0] [ZS d] (λr s=>r=y9 (OY d)/\s=[ZS d.next]) (λ_ _=>False):=by
 obtain⟨l,q⟩:=d;refine Ν.body Τ Tryz.func69 U U Tryz.ntmps69 U U o ?_;refine Χ ?_;cases l with
 | nil=>
  refine Δ o ?_;refine Χ ?_;refine Jo ?_
  repeat apply Ζ
  refine Jo ?_;refine Χ ?_;exact W.ret ⟨_,U,by simp[OY,N7,Kn,IY],by simp[ZF.next,N7,Kn,IY]⟩
 | cons a l=>
  refine Β o ?_;refine Χ ?_;have b:List.take l.length (l.map I)=l.map I:=Wl o;refine YC b λe c=>?_;refine⟨J,?_⟩;apply c;refine Χ ?_;refine Jo ?_
  repeat apply Ζ
  refine Jo ?_;refine Χ ?_;exact W.ret ⟨_,U,by simp[OY,N7,Kn,IY],by simp[ZF.next,N7,Kn,IY]⟩
def W'(d:ZF)(n:Int):Int:=if n<=0 then 0 else IntKind.i64.wrap ((IntKind.u64.wrap (OY d*IntKind.u64.wrap (IntKind.i64.wrap (n+1)))).fdiv (2 ^ min 32 IntKind.u64.bits))
def ZF.after(d:ZF)(n:Int):ZF:=if n<=0 then d else d.next
def TV(d:ZF):S0 (ZS d):=by simp[S0,Ψ.cells]
def Da(d:ZF)(hd:d.Z4.length<2 ^ 63)(n:Int):Ν Tryz.prog 27 [.Ο 0 1 0 0,I n] [ZS d] (λr s=>r=I (W' d n)/\s=[ZS (d.after n)]) (λ_ _=>False):=by
 refine Ν.body Τ Tryz.func27 U U Tryz.ntmps27 U U o ?_;refine Χ ?_;by_cases h:n<=0
 .refine Β (by simp[h]) ?_;refine Χ ?_;exact W.ret ⟨_,U,by simp[W',h],by simp[ZF.after,h]⟩
 refine Δ (by simp[h]) ?_;refine Χ ?_;refine ο λb a=>?_;refine Ν.one (as0:=[.Ο 0 1 0 0]) (pL d hd) 0 U (TV d) (TV d.next) (by simp[Xc,Ol]) ((ω.z _).U' 1) U ?_;simp[TW];(repeat (rw[Ι];simp));apply a;exact W.ret ⟨_,U,by simp[W',h],by simp[ZF.after,h]⟩
def N6(d:ZF)(a b:Int):Int:=IntKind.i64.wrap (a+W' d (IntKind.i64.wrap (b-a)))
def pK(d:ZF)(hd:d.Z4.length<2 ^ 63)(a b:Int):Ν Tryz.prog 28 [.Ο 0 1 0 0,I a,I b] [ZS d] (λr s=>r=I (N6 d a b)/\s=[ZS (d.after (IntKind.i64.wrap (b-a)))]) (λ_ _=>False):=by
 refine Ν.body Τ Tryz.func28 U U Tryz.ntmps28 U U o ?_;refine Χ ?_;refine ο λe c=>?_;refine Ν.one (as0:=[.Ο 0 1 0 0,I (IntKind.i64.wrap (b-a))]) (Da d hd _) 0 U (TV d) (TV _) (by simp[Xc,Ol]) ((ω.z _).U' 1) U ?_;simp[TW];(repeat (rw[Ι];simp));apply c;exact W.ret ⟨_,U,U,U⟩
end Go.TL
namespace Go.TL
open Go.Proofs
def pJ(x:Int):0<=IntKind.u64.wrap x/\IntKind.u64.wrap x<18446744073709551616:=by
 unfold IntKind.wrap;simp[IntKind.bits,IntKind.signed];omega
def u64_in(x:Int)(h:0<=x)(a:x<18446744073709551616):IntKind.u64.wrap x=x:=by
 unfold IntKind.wrap;simp[IntKind.bits,IntKind.signed];omega
def y8:(2:Int) ^ min 32 IntKind.u64.bits=4294967296:=θ
def pI(d:ZF):0<=OY d/\OY d<4294967296:=by
 unfold OY;rw[y8];generalize a:IntKind.u64.wrap _=x;have:=pJ (HF .u64 (N7 d) ((N7 d).fdiv (2 ^ min 33 IntKind.u64.bits))*18397679294719823053);rw[a]at this;rw[Int.fdiv_eq_ediv_of_nonneg _ θ];omega
def QA(d:ZF)(n:Int)(e:0<=n)(f:n<2147483647):0<=W' d n/\W' d n<=n:=by
 unfold W';split
 .omega
 obtain⟨b,g⟩:=pI d;rw[y8,IntWalk.i64_in (n+1) J,u64_in (n+1) J J];have c:OY d*(n+1)<=4294967295*(n+1):=E7 J J;have a:0<=OY d*(n+1):=Int.mul_nonneg b J;generalize OY d*(n+1)=y at c a;rw[u64_in y a J,Int.fdiv_eq_ediv_of_nonneg _ θ,IntWalk.i64_in _ J];omega
end Go.TL
namespace Go.TL
open Go.Proofs
variable[Z8]
def FP(d:ZF)(l:ψ):Nat:=(W' d ((l.length:Int)-1)).toNat
def pH(d:ZF)(hd:d.Z4.length<2 ^ 63)(l:ψ)(g:0<l.length)(h:l.length<1000000):Ν Tryz.prog 67 [.Ο 0 1 0 0,δ I 1 l] [ZS d] (λr s=>r=I (l.getD (FP d l) 0)/\s=[ZS (d.after ((l.length:Int)-1))]) (λ_ _=>False):=by
 refine Ν.body Τ Tryz.func67 U U Tryz.ntmps67 U U o ?_;have c:IntKind.i64.wrap ((l.length:Int)-1)=(l.length:Int)-1:=IntWalk.i64_in _ J;obtain⟨t0,t1⟩:=QA d ((l.length:Int)-1) J J;obtain⟨k,b⟩:∃k:Nat,W' d ((l.length:Int)-1)=k:=⟨(W' d ((l.length:Int)-1)).toNat,J⟩;have a:k<l.length:=J;have e:FP d l=k:=by unfold FP;rw[b];rfl
 refine Χ ?_;refine YC c λi f=>?_;refine Ν.one (as0:=[.Ο 0 1 0 0,I ((l.length:Int)-1)]) (Da d hd _) 0 U (TV d) (TV _) (by simp[Xc,Ol]) ((ω.z _).U' 1) U ?_;rw[b];simp[TW,a];(repeat (rw[Ι];simp[a]));apply f;exact W.ret ⟨_,U,by rw[e];simp[XA,a],U⟩
end Go.TL
namespace Go.TL
open Go.Conc
variable[Z8]
section
variable{P:Program}{T:ZY}{A:Z6}{m nt:Nat}{k:Zk}{env:κ}{σ:Ρ}{Z:Xv}{E:XM}{ops:Y5}
def y7(P:Program)(m nt:Nat)(k:Zk)(Z:Xv)(E:XM)(ops:Y5)(i:Nat)(b:Oper)(env:κ)(r:Row)(a:Ψ)(c:Row):Prop:=
 ∀env' τ rest,QK ops b env env'->W P m nt (.inRegion ops rest::k) (Zr b env' a) (c::τ) Z E->W P m nt (.inRegion ops (i::rest)::k) env' (r::τ) Z E
def StepB(P:Program)(m nt:Nat)(k:Zk)(Z:Xv)(E:XM)(ops:Y5)(i:Nat)(b:Oper)(env:κ)(τ:Ρ)(a:Ψ)(c:Ρ):Prop:=
 ∀env' r rest,QK ops b env env'->W P m nt (.inRegion ops rest::k) (Zr b env' a) (r::c) Z E->W P m nt (.inRegion ops (i::rest)::k) env' (r::τ) Z E
def y6{l:Type}{f:Nat->l}{tags}(m:∀i n,ops[i]?=some n->writer ops tags i=false->f (i+1)=f i):∀a b,a<=ops.size->b<=ops.size->(∀j,j<ops.size->writer ops tags j=true->(j<a↔j<b))->f a=f b:=by
 have g:∀(d a),a+d<=ops.size->(∀j,a<=j->j<a+d->writer ops tags j=false)->f (a+d)=f a:=by
  intro d
  induction d with
  | zero=>intro a _ _;rfl
  | succ d o=>
   intro a hle h;have c:ops[a+d]?=some ops[a+d]:=XV J;have:=m (a+d) _ c (h (a+d) J J);rw[show a+(d+1)=a+d+1 by omega,this];exact o a J λj c k=>h j c J
 intro a b p r h;rcases Nat.le_total a b with hle|hle
 .have:=g (b-a) a J λj c k=>by
   cases e:writer ops tags j with
   | false=>rfl
   | true=>have:=(h j J e).2 J;omega
  rw[show a+(b-a)=b by omega]at this;exact this.symm
 have:=g (a-b) b J λj c k=>by
  cases e:writer ops tags j with
  | false=>rfl
  | true=>have:=(h j J e).1 J;omega
 rw[show b+(a-b)=a by omega]at this;exact this
def y5{tags}(b:Rx ops tags=true):∀i a,ops[i]?=some a->(∀j∈Wg a,j<i)/\∀j c,j<i->ops[j]?=some c->clash ops tags i j a c=true->j∈(GJ ops).getD i []:=by
 intro i a e;have hi:=(Sd.1 e).1;unfold Rx Oo at b;simp at b;have h:=b i hi;rw[e]at h;simp[Xk]at h;refine⟨h.1,λj c g k f=>?_⟩;have d:=h.2 j g;rw[k]at d;unfold clash at f;simp[f]at d;exact d
def y4{tags}:∀j,writer ops tags j=true->tags.getD j false=true:=λj h=>by
 unfold writer at h;rw[U2]at h;exact h.1
def y3{tags i c}(e:tags.getD i false=true):∀j a,ops[j]?=some a->writer ops tags j=true->clash ops tags i j c a=true/\clash ops tags j i a c=true:=λj a f b=>by
 have d:=y4 j b;unfold writer at b;rw[d,f]at b;have g:VE a=false:=by simpa using b
 unfold clash S1 Mb;rw[d,e,g];simp
def W.pG{as9}{I:Nat->Row}{K:Nat->Ρ}{A w env0}(aE:Rx ops A=true)(aF:Rx ops w=true)
  (aG:∀i f,ops[i]?=some f->A.getD i false=false->w.getD i false=false->KM P m nt k Z E ops i f (YI ops env0 as9 (λ_=>true) i) (as9 i))
  (aH:∀i f,ops[i]?=some f->A.getD i false=true->y7 P m nt k Z E ops i f (YI ops env0 as9 (λ_=>true) i) (I i) (as9 i) (I (i+1))/\w.getD i false=false)
  (aI:∀i f,ops[i]?=some f->w.getD i false=true->StepB P m nt k Z E ops i f (YI ops env0 as9 (λ_=>true) i) (K i) (as9 i) (K (i+1)))
  (aJ:∀i f,ops[i]?=some f->writer ops A i=false->I (i+1)=I i) (aK:∀i f,ops[i]?=some f->writer ops w i=false->K (i+1)=K i)
  (aL:W P m nt (.inRegion ops []::k) (YI ops env0 as9 (λ_=>true) ops.size) (I ops.size::K ops.size) Z E) :
  ∀(V)(t)(listed) env (l p),listed.size=ops.size->
   (∀i,ε env i=ε (YI ops env0 as9 (λi=>listed.getD i false) ops.size) i)->
   (∀i f,ops[i]?=some f->listed.getD i false=true->∀j∈Wg f,listed.getD j false=true)->
   l<=ops.size->p<=ops.size->(∀j,j<ops.size->writer ops A j=true->(listed.getD j false=true↔j<l))->(∀j,j<ops.size->writer ops w j=true->(listed.getD j false=true↔j<p))->
   ((List.range ops.size).filter λi=>!listed.getD i false).length<=V->
   W P m nt (.inRegion ops (Region.linearise.go .any ops V t listed [])::k) env (I l::K p) Z E:=by
 have ah:=y5 aE
 have ar:=y5 aF
 have ai:∀i f,ops[i]?=some f->∀j∈Wg f,j<i:=λi f n=>(ah i f n).1
 have au:=y6 aJ
 have av:=y6 aK;intro V;have done:∀(t:Nat)(listed:Array Bool)(env)(l p),(∀i,i<ops.size->listed.getD i false=true)->(∀i,ε env i=ε (YI ops env0 as9 (λi=>listed.getD i false) ops.size) i)->l<=ops.size->p<=ops.size->
   (∀j,j<ops.size->writer ops A j=true->(listed.getD j false=true↔j<l))->(∀j,j<ops.size->writer ops w j=true->(listed.getD j false=true↔j<p))->W P m nt (.inRegion ops []::k) env (I l::K p) Z E:=λt listed env l p Q R M N B O=>by
  have aM:I l=I ops.size:=au l ops.size M (Z3 _) λj d s=>by rw[<-B j d s];simp[Q j d,d]
  have Υ:K p=K ops.size:=av p ops.size N (Z3 _) λj d s=>by rw[<-O j d s];simp[Q j d,d]
  rw[aM,Υ];refine .congr (λi=>?_) aL;rw[R i];exact KJ ops.size λi f hi _ _=>Q i hi
 have aN:∀listed:Array Bool,listed.size=ops.size->(∃i,i<ops.size/\listed.getD i false=false)->∃i,i<ops.size/\listed.getD i false=false/\∀j,j<i->listed.getD j false=true:=λlisted X ⟨i,hi,u⟩=>by
  induction i using Nat.strongRecOn with
  | _ i aa=>
   by_cases d:∃j,j<i/\listed.getD j false=false
   .let ⟨j,C,D⟩:=d;exact aa j C J D
   exact⟨i,hi,u,λj aO=>by
    cases h:listed.getD j false with
    | true=>rfl
    | false=>exact absurd ⟨j,aO,h⟩ d⟩
 induction V with
 | zero=>
  intro t listed env l p X R ab M N B O aP;have Q:∀i,i<ops.size->listed.getD i false=true:=λi hi=>by
   cases h:listed.getD i false with
   | true=>rfl
   | false=>
    have af:i∈(List.range ops.size).filter λi=>!listed.getD i false:=by rw[TK];exact⟨VR.2 hi,by rw[h];rfl⟩
    have:((List.range ops.size).filter λi=>!listed.getD i false)=[]:=YY.1 J;rw[this]at af;simp at af
  exact done t listed env l p Q R M N B O
 | succ V aa=>
  intro t listed env l p X R ab M N B O aP;simp only[Region.linearise.go];generalize aQ:((List.range ops.size).filter λi=>!listed.getD i true&&((ops[i]?).map (·.after.all λe=>!Region.binds .any e||listed.getD e.on false)).getD false)=S;have aw:∀i,i<ops.size->listed.getD i true=listed.getD i false:=λi hi=>by
   rw[Vv,Vv,XV J];rfl
  have ax:∀i,i∈S↔i<ops.size/\listed.getD i false=false/\∀f,ops[i]?=some f->∀j∈Wg f,listed.getD j false=true:=λi=>by
   rw[<-aQ];simp only[TK,VR,U2,Bool.not_eq_true'];constructor
   .rintro⟨C,D,H⟩;rw[aw i C]at D;refine⟨C,D,λf n j d=>?_⟩;rw[n]at H;simp only[Option.map_some,Option.getD_some,Ic]at H;unfold Wg at d;simp only[ZG,TK]at d;obtain⟨e,⟨aR,aS⟩,rfl⟩:=d;have:=H e (by simpa using aR);simpa[aS] using this
   rintro⟨C,D,H⟩;refine⟨C,by rw[aw i C];exact D,?_⟩;have n:ops[i]?=some ops[i]:=XV C;rw[n];simp only[Option.map_some,Option.getD_some,Ic];intro e aT;by_cases ay:Region.binds .any e=true
   .have:=H _ n e.on (by unfold Wg;simp only[ZG,TK];exact⟨e,⟨by simpa using aT,ay⟩,U⟩);simp[this]
   simp[ay]
  cases hi:S[t % S.length]? with
  | none=>
   simp only[List.reverse_nil];have aU:S=[]:=by
    cases aV:S with
    | nil=>rfl
    | cons x xs=>
     rw[aV]at hi;have aj:t % (x::xs).length<(x::xs).length:=Lg _ o;rw[ξ aj]at hi;cases hi
   have Q:∀i,i<ops.size->listed.getD i false=true:=λi T=>by
    cases h:listed.getD i false with
    | true=>rfl
    | false=>
     let ⟨r,C,D,H⟩:=aN listed X ⟨i,T,h⟩
     have:r∈S:=(ax r).2 ⟨C,D,λf n j d=>H j (ai r f n j d)⟩;rw[aU]at this;simp at this
   exact done t listed env l p Q R M N B O
  | some i=>
   simp only;rw[AT];have af:i∈S:=ZD hi;let ⟨C,D,H⟩:=(ax i).1 af;have n:ops[i]?=some ops[i]:=XV C;have aW:=GI ai (λj=>listed.getD j false=true) (λj f d u=>ab j f d u) i _ n (H _ n);have low:∀j g,j<i->ops[j]?=some g->(clash ops A i j ops[i] g=true\/clash ops w i j ops[i] g=true)->listed.getD j false=true:=λj g d v F=>aW j (F.elim (λF=>(ah i _ n).2 j g d v F) (λF=>(ar i _ n).2 j g d v F));have high:∀j g,i<j->ops[j]?=some g->(clash ops A j i g ops[i]=true\/clash ops w j i g ops[i]=true)->listed.getD j false=false:=λj g d v F=>by
    cases u:listed.getD j false with
    | false=>rfl
    | true=>
     have:=GI ai (λj=>listed.getD j false=true) (λj f d u=>ab j f d u) j g v (ab j g v u) i (F.elim (λF=>(ah j g v).2 i _ d n F) (λF=>(ar j g v).2 i _ d n F));rw[D]at this;cases this
   have ak:QK ops ops[i] (YI ops env0 as9 (λ_=>true) i) env:=λx az=>by
    rw[R x];have al:ε (YI ops env0 as9 (λi=>listed.getD i false) ops.size) x=ε (YI ops env0 as9 (λi=>listed.getD i false) i) x:=GH J λj g aX aY v hd=>by
     by_cases e:j=i
     .subst e;exact D
     apply high j g J v;unfold clash S1 Mb;simp[hd,az]
    rw[al];exact KJ i λj g d v hd=>low j g d v (.inl (by unfold clash S1 Mb;simp[hd,az]))
   have am:∀x,ε (Zr ops[i] env (as9 i)) x=ε (YI ops env0 as9 (λj=>(listed.setIfInBounds i true).getD j false) ops.size) x:=λx=>by
    have L:∀j,(listed.setIfInBounds i true).getD j false=if j=i then true else listed.getD j false:=λj=>by
     rw[Vv,Vv];by_cases e:j=i
     .subst e;rw[SL J];simp
     rw[Ut (YX e),if_neg e]
    rw[Ma];by_cases hd:ops[i].dst=some x
    .rw[if_pos hd];have al:ε (YI ops env0 as9 (λj=>(listed.setIfInBounds i true).getD j false) ops.size) x=ε (YI ops env0 as9 (λj=>(listed.setIfInBounds i true).getD j false) (i+1)) x:=GH J λj g aX aY v an=>by
      rw[L,if_neg J];refine high j g J v (.inl ?_);unfold clash S1 Mb;simp[hd,an]
     rw[al];simp only[YI,L,if_true,n,Ma,hd]
    rw[if_neg hd,R x];exact KJ ops.size λj g d v an=>by
     rw[L,if_neg];intro e;subst e;rw[n]at v;cases v;exact hd an
   have L:∀j,(listed.setIfInBounds i true).getD j false=if j=i then true else listed.getD j false:=λj=>by
    rw[Vv,Vv];by_cases e:j=i
    .subst e;rw[SL J];simp
    rw[Ut (YX e),if_neg e]
   have ao:((List.range ops.size).filter λj=>!(listed.setIfInBounds i true).getD j false).length<=V:=by
    have aj:((List.range ops.size).filter λj=>!(listed.setIfInBounds i true).getD j false).length<((List.range ops.size).filter λj=>!listed.getD j false).length:=by
     have:((List.range ops.size).filter λj=>!(listed.setIfInBounds i true).getD j false)=((List.range ops.size).filter λj=>!listed.getD j false).filter λj=>j != i:=by
      rw[Ie];apply List.filter_congr;intro j _;rw[L];by_cases e:j=i
      .subst e;simp
      simp[e]
     rw[this];have aZ:i∈(List.range ops.size).filter λj=>!listed.getD j false:=by
      rw[TK];exact⟨VR.2 C,by rw[D];rfl⟩
     exact List.length_filter_lt_length_iff_exists.2 ⟨i,aZ,o⟩
    omega
   have ap:∀j f,ops[j]?=some f->(listed.setIfInBounds i true).getD j false=true->∀y∈Wg f,(listed.setIfInBounds i true).getD y false=true:=λj f d u y aA=>by
    rw[L]at u ⊢;by_cases e:y=i
    .rw[if_pos e]
    rw[if_neg e];by_cases Υ:j=i
    .subst Υ;rw[n]at d;cases d;exact H _ n y aA
    rw[if_neg Υ]at u;exact ab j f d u y aA
   have ag:∀(tags)(l),tags.getD i false=false->(∀j,j<ops.size->writer ops tags j=true->(listed.getD j false=true↔j<l))->∀j,j<ops.size->writer ops tags j=true->((listed.setIfInBounds i true).getD j false=true↔j<l):=λtags l ad B j d s=>by
    rw[L];have:j≠i:=λe=>by subst e;rw[y4 j s]at ad;cases ad
    rw[if_neg this];exact B j d s
   have keepW:∀(tags)(l),writer ops tags i=false->(∀j,j<ops.size->writer ops tags j=true->(listed.getD j false=true↔j<l))->∀j,j<ops.size->writer ops tags j=true->((listed.setIfInBounds i true).getD j false=true↔j<l):=λtags l aB B j d s=>by
    rw[L];have:j≠i:=λe=>by subst e;rw[s]at aB;cases aB
    rw[if_neg this];exact B j d s
   have aC:∀(tags),tags.getD i false=true->(∀j g,j<i->ops[j]?=some g->clash ops tags i j ops[i] g=true->listed.getD j false=true)->(∀j g,i<j->ops[j]?=some g->clash ops tags j i g ops[i]=true->listed.getD j false=false)->
     (∀j,j<ops.size->writer ops tags j=true->j<i->listed.getD j false=true)/\(∀j,j<ops.size->writer ops tags j=true->i<j->listed.getD j false=false):=λtags ad lo hi=>⟨λj d s aq=>lo j _ aq (XV d) (y3 ad j _ (XV d) s).1,λj d s aq=>hi j _ aq (XV d) (y3 ad j _ (XV d) s).2⟩
   have aD:∀(tags)(l),(∀j,j<ops.size->writer ops tags j=true->j<i->listed.getD j false=true)->(∀j,j<ops.size->writer ops tags j=true->i<j->listed.getD j false=false)->(∀j,j<ops.size->writer ops tags j=true->(listed.getD j false=true↔j<l))->∀j,j<ops.size->writer ops tags j=true->(j<l↔j<i):=λtags l lo hi B j d s=>by
    rw[<-B j d s];constructor
    .intro u;apply Tn;intro a0;by_cases e:j=i
     .subst e;rw[D]at u;cases u
     rw[hi j d s J]at u;cases u
    exact lo j d s
   have next:∀(tags),(∀j,j<ops.size->writer ops tags j=true->j<i->listed.getD j false=true)->(∀j,j<ops.size->writer ops tags j=true->i<j->listed.getD j false=false)->∀j,j<ops.size->writer ops tags j=true->((listed.setIfInBounds i true).getD j false=true↔j<i+1):=λtags lo hi j d s=>by
    rw[L];by_cases e:j=i
    .subst e;simp
    rw[if_neg e];constructor
    .intro u;apply Tn;intro a0;rw[hi j d s J]at u;cases u
    intro aj;exact lo j d s J
   cases ae:A.getD i false with
   | true=>
    let ⟨a1,Y⟩:=aH i _ n ae
    let ⟨lo,T⟩:=aC A ae (λj g a b c=>low j g a b (.inl c)) (λj g a b c=>high j g a b (.inl c));rw[au l i M J (aD A l lo T B)];apply a1 env _ _ ak;exact aa _ _ _ (i+1) p (by simpa using X) am ap J N (next A lo T) (ag w p Y O) ao
   | false=>
    cases Y:w.getD i false with
    | false=>
     apply aG i _ n ae Y env _ _ ak;exact aa _ _ _ l p (by simpa using X) am ap M N (ag A l ae B) (ag w p Y O) ao
    | true=>
     let ⟨lo,T⟩:=aC w Y (λj g a b c=>low j g a b (.inr c)) (λj g a b c=>high j g a b (.inr c));rw[av p i N J (aD w p lo T O)];apply aI i _ n Y env _ _ ak;exact aa _ _ _ l (i+1) (by simpa using X) am ap M J (ag A l ae B) (next w lo T) ao
def PM(f:Row->Y1)(K:Ψ->Ρ->Prop):Prop:=∃a b,((∀r,f r=.ok a (r::b))\/∃p,p/\∀r,f r=.Zw p (.ok a (r::b)))/\K a b
def y2{f g:Row->Y1}{K:Ψ->Ρ->Prop}(h:∀r,f r=g r):PM f K=PM g K:=by rw[funext h]
def y1{a τ K}:PM (λr=>.ok a (r::τ)) K=K a τ:=by
 refine propext ⟨λ⟨b,f,h,d⟩=>?_,λh=>⟨a,τ,.inl λ_=>rfl,h⟩⟩;rcases h with h|⟨p,_,h⟩
 .have:=h (.map []);injection this with e c
  injection c with _ c
  rw[e,c];exact d
 have:=h (.map []);cases this
def y0{p a τ K}:PM (λr=>.Zw p (.ok a (r::τ))) K=(p/\K a τ):=by
 refine propext ⟨λ⟨b,i,h,e⟩=>?_,λh=>⟨a,τ,.inr ⟨p,h.1,λ_=>rfl⟩,h.2⟩⟩;rcases h with h|⟨q,f,h⟩
 .have:=h (.map []);cases this
 have:=h (.map []);injection this with g c
 injection c with c d
 injection d with _ d
 rw[c,d];exact⟨g▸f,e⟩
def IX(P:Program)(f:Ψ)(args:μ)(r:Row)(c:Ψ->Prop)(d:Ψ->Row->Prop):Prop:=
 (∃a,WG P f args a/\c a)\/∃a r',(∀τ,Yi P f args (r::τ) (λb s=>b=a/\s=r'::τ) (λ_ _=>False))/\d a r'
def pF{P f args r r' d c a}(h:∀τ,Yi P f args (r::τ) (λb s=>b=a/\s=r'::τ) (λ_ _=>False))(k:c a r'):IX P f args r d c:=.inr ⟨a,r',h,k⟩
def IW(x:Y1)(b:Ψ->Row->Prop):Prop:=match x with
 | .Zw p (.ok a [r])=>p/\b a r
 | _=>False
def pE{p a r b}:IW (.Zw p (.ok a [r])) b=(p/\b a r):=X3 rfl rfl
def IV(P:Program)(T:ZY)(A:Z6)(env:κ)(a:Oper)(r:Row)(τ:Ρ)(b:Ψ->Prop)(d:Ψ->Row->Prop)(e:Ψ->Ρ->Prop):Prop:=match a.op with
 | .call ⟨.value f,args,_⟩=>IX P (π env f) (args.toList.map (π env)) r b d
 | .panic _=>False
 | .defer _=>False
 | .makeSlice g n c=>Wh (TZ A a.dst&&TZ A (a.dst.map (· + 4096))) ((WH T A env a).Yj b (PM (λr=>W0 T A env (r::τ) a) e)) (IW (Ow T g (π env n) (π env c) [r]) d)
 | _=>(WH T A env a).Yj b (PM (λr=>W0 T A env (r::τ) a) e)
def yZ{P T A env a r τ b d e}:IV P T A env a r τ b d e=match a.op with
 | .call ⟨.value f,args,_⟩=>IX P (π env f) (args.toList.map (π env)) r b d
 | .panic _=>False
 | .defer _=>False
 | .makeSlice g n c=>Wh (TZ A a.dst&&TZ A (a.dst.map (· + 4096))) ((WH T A env a).Yj b (PM (λr=>W0 T A env (r::τ) a) e)) (IW (Ow T g (π env n) (π env c) [r]) d)
 | _=>(WH T A env a).Yj b (PM (λr=>W0 T A env (r::τ) a) e):=X3 rfl rfl
def Vz(P:Program)(T:ZY)(A:Z6)(nt:Nat)(ops:Y5):Z6->κ->Row->Ρ->List Bool->List Bool->(κ->Ρ->Prop)->Prop
 | [],env,r,τ,c,d,K=>Rx ops c=true/\Rx ops d=true/\K env (r::τ)
 | i::is,env,r,τ,c,d,K=>WX ops[i]? λb=>WA nt b=true/\WX (XE env ops b) λw=>
   Wh w (Vz P T A nt ops is (Zr b env .Zl) r τ (c++[false]) (d++[false]) K)
    (IV P T A env b r τ (λa=>Vz P T A nt ops is (Zr b env a) r τ (c++[false]) (d++[false]) K) (λa r'=>Vz P T A nt ops is (Zr b env a) r' τ (c++[true]) (d++[false]) K) (λa e=>Vz P T A nt ops is (Zr b env a) r e (c++[false]) (d++[true]) K))
def LM(P:Program)(T:ZY)(A:Z6)(nt:Nat)(ops:Y5)(is:Z6)(b:Oper)(env:κ)(r:Row)(τ:Ρ)(c d:List Bool)(K:κ->Ρ->Prop)(a:Ψ):Prop:=Vz P T A nt ops is (Zr b env a) r τ (c++[false]) (d++[false]) K
def yY(P:Program)(T:ZY)(A:Z6)(nt:Nat)(ops:Y5)(is:Z6)(b:Oper)(env:κ)(τ:Ρ)(c d:List Bool)(K:κ->Ρ->Prop)(a:Ψ)(r:Row):Prop:=Vz P T A nt ops is (Zr b env a) r τ (c++[true]) (d++[false]) K
def LL(P:Program)(T:ZY)(A:Z6)(nt:Nat)(ops:Y5)(is:Z6)(b:Oper)(env:κ)(r:Row)(c d:List Bool)(K:κ->Ρ->Prop)(a:Ψ)(τ:Ρ):Prop:=Vz P T A nt ops is (Zr b env a) r τ (c++[false]) (d++[true]) K
section
variable{is:Z6}{i:Nat}{Η:Oper}{r:Row}{τ:Ρ}{Ri Rh:List Bool}{K:κ->Ρ->Prop}{a:Ψ}
def OX:Vz P T A nt ops [] env r τ Ri Rh K=(Rx ops Ri=true/\Rx ops Rh=true/\K env (r::τ)):=X3 rfl rfl
def OW:Vz P T A nt ops (i::is) env r τ Ri Rh K=WX ops[i]? λΗ=>WA nt Η=true/\WX (XE env ops Η) λw=>
   Wh w (Vz P T A nt ops is (Zr Η env .Zl) r τ (Ri++[false]) (Rh++[false]) K) (IV P T A env Η r τ (LM P T A nt ops is Η env r τ Ri Rh K) (yY P T A nt ops is Η env τ Ri Rh K) (LL P T A nt ops is Η env r Ri Rh K)):=X3 U U
def yX:LM P T A nt ops is Η env r τ Ri Rh K a=Vz P T A nt ops is (Zr Η env a) r τ (Ri++[false]) (Rh++[false]) K:=X3 rfl rfl
def yW:yY P T A nt ops is Η env τ Ri Rh K a r=Vz P T A nt ops is (Zr Η env a) r τ (Ri++[true]) (Rh++[false]) K:=X3 rfl rfl
def yV:LL P T A nt ops is Η env r Ri Rh K a τ=Vz P T A nt ops is (Zr Η env a) r τ (Ri++[false]) (Rh++[true]) K:=X3 rfl rfl
end
def FO(P:Program)(m nt:Nat)(k:Zk)(Z:Xv)(E:XM)(ops:Y5)(i:Nat)(c:Oper)(env:κ)(r:Row)(τ:Ρ)(d b:Bool)(a:Ψ)(r':Row)(e:Ρ):Prop:=
 (d=true/\b=false/\y7 P m nt k Z E ops i c env r a r'/\e=τ)\/(d=false/\b=true/\StepB P m nt k Z E ops i c env τ a e/\r'=r/\(VE c=true->e=τ))\/(d=false/\b=false/\KM P m nt k Z E ops i c env a/\r'=r/\e=τ)
def pD(M:ZH P T){i is r τ F H K}(h:Vz P T A nt ops (i::is) env r τ F H K) :
  ∃e a r' j d b,ops[i]?=some e/\FO P m nt k Z E ops i e env r τ d b a r' j/\(d=true->VE e=false)/\Vz P T A nt ops is (Zr e env a) r' j (F++[d]) (H++[b]) K:=by
 unfold Vz WX at h;split at h
 .exact h.elim
 rename_i e o;let ⟨hd,h⟩:=h;split at h
 .exact h.elim
 rename_i w D;unfold Wh at h;cases w
 .replace h:=h.1 U
  exact⟨e,.Zl,r,τ,false,false,o,.inr (.inr ⟨U,U,λenv' σ' rest g t=>.unwanted o (by rw[St g];exact D) hd t,U,U⟩),λh=>(by cases h),h⟩
 replace h:=h.2 U
 have gen:(∀c,e.op≠.defer c)->(WH T A env e).Yj (LM P T A nt ops is e env r τ F H K) (PM (λr=>W0 T A env (r::τ) e) (LL P T A nt ops is e env r F H K))->∃e a r' j d b,ops[i]?=some e/\FO P m nt k Z E ops i e env r τ d b a r' j/\(d=true->VE e=false)/\Vz P T A nt ops is (Zr e env a) r' j (F++[d]) (H++[b]) K:=λL h=>by
  unfold LM LL at h;have R:∀(I)(a),WH T A env e=I->(∀K,∀s,K a s->(I.YA s).holds K)->(∀σ s,I.or σ s=I.YA σ)->KM P m nt k Z E ops i e env a:=λI a C N W env' σ' rest g t=>by
   refine .op (A:=A) M o (by rw[St g];exact D) hd (λc l=>L c l) ?_;rw[On g,C,W];exact N _ _ t
  unfold Y4.Yj at h;split at h
  .rename_i a O;exact⟨e,a,r,τ,false,false,o,.inr (.inr ⟨U,U,R _ a O (λK s B=>B) (λ_ _=>rfl),U,U⟩),λh=>(by cases h),h⟩
  .rename_i p a O;exact⟨e,a,r,τ,false,false,o,.inr (.inr ⟨U,U,R _ a O (λK s B=>⟨h.1,B⟩) (λ_ _=>rfl),U,U⟩),λh=>(by cases h),h.2⟩
  .exact h.elim
  rename_i X;have Y:∀(a)(j),(∀r,∃x,W0 T A env (r::τ) e=x/\∀K,K a (r::j)->x.holds K)->StepB P m nt k Z E ops i e env τ a j:=λa j C env' r rest g t=>by
   let ⟨x,C,N⟩:=C r;refine .op (A:=A) M o (by rw[St g];exact D) hd (λc l=>L c l) ?_;rw[On g,L9 g,X,C];exact N _ t
  let ⟨a,j,u,B⟩:=h;refine⟨e,a,r,j,false,true,o,.inr (.inl ⟨U,U,Y a j λr=>?_,U,λC=>?_⟩),λh=>(by cases h),B⟩
  .rcases u with u|⟨p,S,u⟩
   .exact⟨_,u r,λK B=>B⟩
   exact⟨_,u r,λK B=>⟨S,B⟩⟩
  have:r::j=r::τ:=by
   rcases u with u|⟨p,S,u⟩
   .exact GB (p:=True) C (.inl (u r))
   exact GB C (.inr (u r))
  injection this
 unfold IV at h;split at h
 .rename_i f args ad v;have V:∀env',QK ops e env env'->π env' f=π env f/\args.toList.map (π env')=args.toList.map (π env):=λenv' g=>by
   have Q:=GF g;rw[v]at Q;refine⟨Q f (by simp[Op.operands,Call.operands]),GC λx aa=>Q x (by simp[Op.operands,Call.operands,aa])⟩
  rcases h with⟨a,l,h⟩|⟨a,r',l,h⟩
  .refine⟨e,a,r,τ,false,false,o,.inr (.inr ⟨U,U,λenv' σ' rest g t=>.call o (by rw[St g];exact D) hd v ?_,U,U⟩),λh=>(by cases h),h⟩;let ⟨J,Υ⟩:=V env' g;rw[J,Υ];exact(l σ').mono (λa s ⟨x,y⟩=>by subst x;subst y;exact t) (λ_ _ h=>h.elim)
  refine⟨e,a,r',τ,true,false,o,.inl ⟨U,U,λenv' j rest g t=>.call o (by rw[St g];exact D) hd v ?_,U⟩,λ_=>(by unfold VE;rw[v]),h⟩;let ⟨J,Υ⟩:=V env' g;rw[J,Υ];exact(l j).mono (λa s ⟨x,y⟩=>by subst x;subst y;exact t) (λ_ _ h=>h.elim)
 .exact h.elim
 .exact h.elim
 .rename_i ae n c v;unfold Wh at h;cases l:(TZ A e.dst&&TZ A (e.dst.map (· + 4096)))
  .exact gen (λc hd=>by rw[v]at hd;cases hd) (h.1 l)
  replace h:=h.2 l
  rw[U2]at l;unfold IW at h;split at h
  .rename_i p a r' ab;refine⟨e,a,r',τ,true,false,o,.inl ⟨U,U,λenv' j rest g t=>?_,U⟩,λ_=>(by unfold VE;rw[v]),h.2⟩;refine .op (A:=A) M o (by rw[St g];exact D) hd (λc hd=>by rw[v]at hd;cases hd) ?_;rw[On g,L9 g];have J:WH T A env e=.bad:=by unfold WH;rw[v];simp only[l.1,if_true]
   have Υ:W0 T A env (r::j) e=.Zw p (.ok a (r'::j)):=by unfold W0;rw[v];simp only[l.1,l.2,if_true];exact vh ab j
   rw[J,Υ];exact⟨h.1,t⟩
  exact h.elim
 rename_i af ag L ah;exact gen (λc=>L c) h
def pC(H:ZH P T){K env0}:∀(d i)(b c)(as9)(n:Nat->Row)(o:Nat->Ρ),i+d=ops.size->b.length=i->c.length=i->
  (∀j f,j<i->ops[j]?=some f->FO P m nt k Z E ops j f (YI ops env0 as9 (λ_=>true) j) (n j) (o j) (b.getD j false) (c.getD j false) (as9 j) (n (j+1)) (o (j+1))/\(b.getD j false=true->VE f=false))->
  Vz P T A nt ops (List.range' i d) (YI ops env0 as9 (λ_=>true) i) (n i) (o i) b c K->
  ∃(b c:List Bool)(as9:Nat->Ψ)(g:Nat->Row)(l:Nat->Ρ),Rx ops b=true/\Rx ops c=true/\g 0=n 0/\l 0=o 0/\(∀j f,ops[j]?=some f->FO P m nt k Z E ops j f (YI ops env0 as9 (λ_=>true) j) (g j) (l j) (b.getD j false) (c.getD j false) (as9 j) (g (j+1)) (l (j+1))/\(b.getD j false=true->VE f=false))/\K (YI ops env0 as9 (λ_=>true) ops.size) (g ops.size::l ops.size):=by
 intro d
 induction d with
 | zero=>
  intro i b c as9 n o hi u v r h;simp[List.range'_zero,Vz]at h;have:i=ops.size:=J;subst this;exact⟨b,c,as9,n,o,h.1,h.2.1,U,U,λj f s=>r j f (Sd.1 s).1 s,h.2.2⟩
 | succ d I=>
  intro i b c as9 n o hi u v r h;rw[List.range'_succ]at h;let ⟨f,a,r',L,w,y,s,M,N,h⟩:=pD (m:=m) (k:=k) (Z:=Z) (E:=E) H h;let p:Nat->Ψ:=λj=>if j=i then a else as9 j
  let g:Nat->Row:=λj=>if j=i+1 then r' else n j
  let l:Nat->Ρ:=λj=>if j=i+1 then L else o j
  have B:∀j,j<=i->YI ops env0 as9 (λ_=>true) j=YI ops env0 p (λ_=>true) j:=λj r=>AR j λx ae=>by simp only[p];rw[if_neg J]
  have O:YI ops env0 p (λ_=>true) (i+1)=Zr f (YI ops env0 as9 (λ_=>true) i) a:=by
   simp[YI,if_true,s];rw[<-B i (Z3 i)];simp[p,if_true]
  have D:∀(t)(x),t.length=i->(t++[x]).getD i false=x:=λt x h=>by rw[XA,W5 J,h];simp
  have F:∀(t)(x)(j),t.length=i->j<i->(t++[x]).getD j false=t.getD j false:=λt x j h r=>by rw[XA,YT J,<-XA]
  have:=I (i+1) (b++[w]) (c++[y]) p g l J (by simp[u]) (by simp[v]) (λj Q af C=>?_) ?_
  .let ⟨t1,t2,R,S,V,W,X,Y,aa,ab,ad⟩:=this;exact⟨t1,t2,R,S,V,W,X,Y.trans (by simp only[g];rw[if_neg J]),aa.trans (by simp only[l];rw[if_neg J]),ab,ad⟩
  .by_cases e:j=i
   .subst e;rw[s]at C;cases C;rw[<-B j (Z3 j),D b w u,D c y v];simp only[p,g,l,if_true];rw[if_neg J,if_neg J];exact⟨M,N⟩
   have:=r j Q J C;rw[<-B j J,F b w j u J,F c y j v J];simp only[p,g,l];rw[if_neg J,if_neg J,if_neg J,if_neg J,if_neg J];exact this
  rw[O];simp only[g,l,if_true];exact h
def W.yU(D:ZH P T)(F:P.follows .mixedOrders=true){r τ id}(h:∀p,(∀env σ,W P m nt k env σ Z E->p env σ)->Vz P T A nt ops (idx ops.size []) env r τ [] [] p):W P m nt (.code (.region id ops true)::k) env (r::τ) Z E:=by
 have s:=h (λenv σ=>W P m nt k env σ Z E) λ_ _ h=>h;rw[idx_eq,List.range_eq_range']at s;let ⟨aa,ab,as9,ad,ae,I,K,L,M,g,N⟩:=pC (m:=m) (k:=k) (Z:=Z) (E:=E) D ops.size 0 [] [] (λ_=>.Zl) (λ_=>r) (λ_=>τ) J U U (λj d u=>J) s;intro O mn x cs b S B H t v w Q R V;refine .draw v w λn=>?_;have l:∀i,(Array.replicate ops.size false).getD i false=false:=λi=>by
  rw[Vv,Ip];split<;>rfl
 have y:=W.pG I K
  (λi d c e X=>by
   rcases(g i d c).1 with⟨a,_⟩|⟨_,a,_⟩|⟨_,_,a,_⟩
   .rw[e]at a;cases a
   .rw[X]at a;cases a
   exact a)
  (λi d c e=>by
   rcases(g i d c).1 with⟨_,b,a,_⟩|⟨a,_⟩|⟨a,_⟩
   .exact⟨a,b⟩
   .rw[e]at a;cases a
   rw[e]at a;cases a)
  (λi d c e=>by
   rcases(g i d c).1 with⟨_,a,_⟩|⟨_,_,a,_⟩|⟨_,a,_⟩
   .rw[e]at a;cases a
   .exact a
   rw[e]at a;cases a)
  (λi d c f=>by
   rcases(g i d c).1 with⟨a,_⟩|⟨_,_,_,a,_⟩|⟨_,_,_,a,_⟩
   .unfold writer at f;rw[a,c]at f;simp[(g i d c).2 a]at f
   .exact a
   exact a)
  (λi d c f=>by
   rcases(g i d c).1 with⟨_,_,_,a⟩|⟨_,b,_,_,a⟩|⟨_,_,_,_,a⟩
   .exact a
   .apply a;unfold writer at f;rw[b,c]at f;simpa using f
   exact a)
  (.ZK N) ops.size n (Array.replicate ops.size false) env 0 0 o (λi=>?_) (λi d c C=>?_) (Γ _) (Γ _) (λj u _=>?_) (λj u _=>?_) ?_
 .rw[L,M]at y;rw[F];simp[Region.schedule,Region.linearise];exact y O mn x cs b S B H t v w Q R V
 .have:∀n,YI ops env as9 (λi=>(Array.replicate ops.size false).getD i false) n=env:=by
   intro n
   induction n with
   | zero=>rfl
   | succ n Y=>
    simp only[YI];rw[if_neg (by rw[l n];simp)];exact Y
  rw[this]
 .rw[l]at C;cases C
 .rw[l];simp
 .rw[l];simp
 have:=J' (λi=>!(Array.replicate ops.size false).getD i false) (List.range ops.size);simpa using this
def pB{K K'}(u:∀e s,K e s->K' e s):∀(is)(env)(r)(τ)(g j),Vz P T A nt ops is env r τ g j K->Vz P T A nt ops is env r τ g j K':=by
 intro is
 induction is with
 | nil=>intro env r τ g j h;exact⟨h.1,h.2.1,u _ _ h.2.2⟩
 | cons i is k=>
  intro env r τ g j h;unfold Vz WX at h ⊢;cases m:ops[i]? with
  | none=>rw[m]at h;exact h.elim
  | some d=>
   rw[m]at h;simp only at h ⊢;refine⟨h.1,?_⟩
   replace h:=h.2
   cases o:XE env ops d with
   | none=>rw[o]at h;exact h.elim
   | some w=>
    rw[o]at h;unfold Wh at h ⊢;refine⟨λe=>k _ _ _ _ _ (h.1 e),λe=>?_⟩
    replace h:=h.2 e
    have gen:(WH T A env d).Yj (LM P T A nt ops is d env r τ g j K) (PM (λr=>W0 T A env (r::τ) d) (LL P T A nt ops is d env r g j K))->(WH T A env d).Yj (LM P T A nt ops is d env r τ g j K') (PM (λr=>W0 T A env (r::τ) d) (LL P T A nt ops is d env r g j K')):=λh=>by
     unfold Y4.Yj LM LL at h ⊢;split at h
     .exact k _ _ _ _ _ h
     .exact⟨h.1,k _ _ _ _ _ h.2⟩
     .exact h.elim
     let ⟨a,v,x,B⟩:=h;exact⟨a,v,x,k _ _ _ _ _ B⟩
    unfold IV at h ⊢;split
    .rename_i f args p b;rw[b]at h;simp only at h;rcases h with⟨a,l,h⟩|⟨a,r',l,h⟩
     .exact .inl ⟨a,l,k _ _ _ _ _ h⟩
     exact .inr ⟨a,r',l,k _ _ _ _ _ h⟩
    .rename_i b;rw[b]at h;exact h
    .rename_i b;rw[b]at h;exact h
    .rename_i t n c b;rw[b]at h;simp only at h;refine⟨λe=>gen (h.1 e),λe=>?_⟩
     replace h:=h.2 e
     unfold IW at h ⊢;split at h
     .exact⟨h.1,k _ _ _ _ _ h.2⟩
     exact h.elim
    rename_i C D E F;split at h
    .rename_i f args p b;exact absurd b (C f args p)
    .rename_i y b;exact absurd b (D y)
    .rename_i y b;exact absurd b (E y)
    .rename_i t n c b;exact absurd b (F t n c)
    exact gen h
def W.C'(c:ZH P T)(d:P.follows .mixedOrders=true)(a b){r τ id}(h:W P m nt k a b Z E)(f:Vz P T A nt ops (idx ops.size []) env r τ [] [] (λe s=>s=b/\∀p∈a,ε e p.1=p.2)):W P m nt (.code (.region id ops true)::k) env (r::τ) Z E:=
 W.yU c d λl g=>pB (λe s ⟨i,j⟩=>g e s (i▸W.forget a j h)) _ _ _ _ _ _ f
def W.yT(c:ZH P T)(d:P.follows .mixedOrders=true)(a b){id}(h:W P m nt k a b Z E)(f:TC P T A nt ops (idx ops.size []) env σ [] (λe s=>s=b/\∀p∈a,ε e p.1=p.2)):W P m nt (.code (.region id ops true)::k) env σ Z E:=
 W.draw c d λl g=>AJ (λe s ⟨i,j⟩=>g e s (i▸W.forget a j h)) _ _ _ _ f
end
end Go.TL
namespace Go.TL
open Go.Proofs
variable[Z8]
attribute [congr] y2
attribute [simp] y1 y0 yZ yX yW yV
def Zc(g:FuncId)(args:μ)(d:ZF)(r:Ψ)(b:ZF):Prop:=Ν Tryz.prog g (.Ο 0 1 0 0::args) [ZS d] (λa s=>Yw a r/\s=[ZS b]) (λ_ _=>False)
def yS{l:μ}(h:∀a∈l,ω 0 a)(ρ:Z6):l.map (Yt ρ)=l:=by
 induction l with
 | nil=>rfl
 | cons a l b=>rw[WY,(h a o).Yt,b λx c=>h x (by simp[c])]
def Zc.c{g:FuncId}{args args':μ}{d b:ZF}{r:Ψ}{σ:Ρ}{K E:Ψ->Ρ->Prop}(h:Zc g args d r b)(id:Nat)(i:σ[id]?=some (ZS d))(j:ZJ args' args)(e:∀a∈args',ω 0 a)(f:ω 0 r)(k:K r (σ.set id (ZS b))):Yi Tryz.prog (.fn (.func g) [] []) (.Ο id 1 0 0::args') σ K E:=by
 refine Ν.one (as0:=.Ο 0 1 0 0::args') (r:=r) (row':=ZS b) (Ν.SZ h (.cons (.refl _) j) λa s ⟨l,m⟩=>⟨r,l,U,m⟩) id i (TV d) (TV b) ?_ (f.U' 1) ?_ ?_
 .intro a hm;rcases YU.1 hm with rfl|hm
  .exact OF
  exact(e a hm).U' 1
 .rw[WY,yS e];rfl
 rw[f.Yt];exact k
def Zc.e{g:FuncId}{args args':μ}{d b:ZF}{r:Ψ}{i:Ψ->Prop}{f:Ψ->Row->Prop}(h:Zc g args d r b)(j:ZJ args' args)(k:∀a∈args',ω 0 a)(l:ω 0 r)(m:f r (ZS b)):IX Tryz.prog (.fn (.func g) [] []) (.Ο 0 1 0 0::args') (ZS d) i f:=
 pF (λτ=>h.c 0 U j k l ⟨U,U⟩) m
def Zc.g{g:FuncId}{args:μ}{d b:ZF}{r:Ψ}{σ:Ρ}{K E:Ψ->Ρ->Prop}(h:Zc g args d r b)(e:K r ((ZS d::σ).set 0 (ZS b)))(f:∀a∈args,ω 0 a:=by simp)(i:ω 0 r:=by simp):Yi Tryz.prog (.fn (.func g) [] []) (.Ο 0 1 0 0::args) (ZS d::σ) K E:=h.c 0 U (ZJ.refl _) f i e
def Zc.h{g:FuncId}{args:μ}{d b:ZF}{r:Ψ}{f:Ψ->Prop}{c:Ψ->Row->Prop}(h:Zc g args d r b)(i:c r (ZS b))(j:∀a∈args,ω 0 a:=by simp)(k:ω 0 r:=by simp):IX Tryz.prog (.fn (.func g) [] []) (.Ο 0 1 0 0::args) (ZS d) f c:=h.e (ZJ.refl _) j k i
def yR{p q:Prop}(k:q)(h:q->p:=by intro k;simp;(repeat (rw[OW];simp));(try rw[OX]);exact k):p:=h k
def Zc.d{g:FuncId}{args args':μ}{d b:ZF}{r:Ψ}{σ:Ρ}{f:Ψ->Prop}{e:Ψ->Ρ->Prop}(h:Zc g args d r b)(id:Nat)(i:σ[id]?=some (ZS d))(j:ZJ args' args)(k:∀a∈args',ω 0 a)(l:ω 0 r)(m:e r (σ.set id (ZS b))):dcall Tryz.prog (.fn (.func g) [] []) (.Ο id 1 0 0::args') σ f e:=
 Nv (h.c id i j k l ⟨U,U⟩) m
@[simp] theorem R1(d:ZF)(n:Int):(d.after n).Z4.length<=d.Z4.length:=by
 unfold ZF.after;split
 .exact Z3 _
 simp[ZF.next]
def LK(d:ZF)(hd:d.Z4.length<2 ^ 63)(n:Int):Zc 27 [I n] d (I (W' d n)) (d.after n):=(Da d hd n).mono (λa s ⟨b,c⟩=>⟨.of b,c⟩) (λ_ _ h=>h)
def yQ(d:ZF)(hd:d.Z4.length<2 ^ 63)(a b:Int):Zc 28 [I a,I b] d (I (N6 d a b)) (d.after (IntKind.i64.wrap (b-a))):=(pK d hd a b).mono (λa s ⟨c,e⟩=>⟨.of c,e⟩) (λ_ _ h=>h)
def pA(d:ZF)(hd:d.Z4.length<2 ^ 63)(l:ψ)(b:0<l.length)(c:l.length<1000000):Zc 67 [δ I 1 l] d (I (l.getD (FP d l) 0)) (d.after ((l.length:Int)-1)):=(pH d hd l b c).mono (λa s ⟨e,f⟩=>⟨.of e,f⟩) (λ_ _ h=>h)
def PL(d:ZF)(n:Int):Bool:=decide (W' d (n-1)=n.tdiv 2)
def FN(d:ZF)(hd:d.Z4.length<2 ^ 63)(n:Int)(e:1<=n)(f:n<1000):Zc 29 [I n] d (ZU (PL d n)) (d.after (n-1)):=by
 have a:IntKind.i64.wrap (n-1)=n-1:=IntWalk.i64_in _ J;unfold Zc;refine Ν.body Τ Tryz.func29 U U Tryz.ntmps29 U U o ?_;refine Χ ?_;refine YC a λh b=>?_;refine Zc.g (LK d hd (n-1)) (Wb a ?_);apply b;have c:IntKind.i64.wrap (n.tdiv 2)=n.tdiv 2:=by
  rw[E6 J];exact IntWalk.i64_in _ J
 rw[c];exact W.ret ⟨_,U,.refl _,U⟩
def Qz(l:ψ)(k:Nat)(x:Int):ψ:=l.take k++x::l.drop k
def V7(d:ZF):Nat->ψ×ZF
 | 0=>([],d)
 | i+1=>(Qz (V7 d i).1 (W' (V7 d i).2 i).toNat i,(V7 d i).2.after i)
def C9(d:ZF)(n:Nat):(V7 d n).2.Z4.length<=d.Z4.length:=by
 induction n with
 | zero=>exact Z3 _
 | succ n a=>exact WL (R1 _ _) a
def C8{l:ψ}{k:Nat}{x:Int}:(Qz l k x).length=l.length+1:=by
 unfold Qz;simp;omega
def C7(d:ZF)(n:Nat):(V7 d n).1.length=n:=by
 induction n with
 | zero=>rfl
 | succ n a=>show(Qz _ _ _).length=_;rw[C8,a]
def UQ(l:ψ)(k:Nat):ψ:=(l++[0]).take (k+1)++l.drop k
def pz(l:ψ):UQ l l.length=l++[0]:=by unfold UQ;rw[Wl o];simp
def yP{l:ψ}{k:Nat}(h:k<=l.length):(UQ l k).length=l.length+1:=by
 unfold UQ;simp;omega
def py{l:ψ}{k:Nat}(h:k<l.length):(UQ l (k+1))[k]?=some l[k]:=by
 unfold UQ;rw[YT (by simp;omega),UK J,YT h,ξ h]
def px{l:ψ}{k:Nat}(h:k<l.length):(UQ l (k+1)).set (k+1) l[k]=UQ l k:=by
 unfold UQ;have a:((l++[0]).take (k+1+1))=(l++[0]).take (k+1)++[(l++[0])[k+1]'(by simp;omega)]:=Ws (by simp;omega);have Υ:l.drop k=l[k]::l.drop (k+1):=Pw h;rw[a,Υ,Sc,J9 _ _ (by simp;omega)];congr 1;have:k+1-((l++[0]).take (k+1)).length=0:=by simp;omega
 rw[this];rfl
def pw{l:ψ}{k:Nat}{x:Int}(h:k<=l.length):(UQ l k).set k x=Qz l k x:=by
 unfold UQ Qz;have a:((l++[0]).take (k+1))=l.take k++[(l++[0])[k]'(by simp;omega)]:=by
  rw[Ws (by simp;omega),List.take_append_of_le_length h]
 rw[a,Sc,J9 _ _ (by rw[T5];omega)];have:k-(l.take k).length=0:=by rw[T5];omega
 rw[this];rfl
def yO(d:ZF)(hd:d.Z4.length<2 ^ 63)(n:Nat)(al:n<1000):Zc 158 [I n] d (δ I 1 (V7 d n).1) (V7 d n).2:=by
 unfold Zc;refine Ν.body Τ Tryz.func158 U U Tryz.ntmps158 U U o ?_;refine Χ ?_;refine W.iter (λi:Nat=>i<=n) (λi=>[(0,.Ο 0 1 0 0),(1,I n),(5,VM 1 ((V7 d i).1.map I)),(6,I i)]) (λi=>ZS (V7 d i).2::X1 3 1 ((V7 d i).1.map I)) (λi=>n-i) 0 (Γ _) U (by simp[VM,V7]) (λi hi ad=>?_);refine Χ ?_;refine W.YD U (λc=>?_) (λc=>?_)
 .have c:i<n:=by simpa using c
  have B:V7 d (i+1)=(Qz (V7 d i).1 (W' (V7 d i).2 i).toNat i,(V7 d i).2.after i):=rfl;obtain⟨L,E⟩:=ν ((V7 d i).1);obtain⟨D,F⟩:=ν ((V7 d i).2);have f:L.length=i:=by rw[E];exact C7 d i
  have ae:D.Z4.length<2 ^ 63:=by rw[F];exact Ll (C9 d i) hd
  rw[<-E,<-F]at B;rw[<-E,<-F];obtain⟨t0,t1⟩:=QA D i J J;obtain⟨l,S⟩:∃k:Nat,W' D i=k:=⟨(W' D i).toNat,J⟩;rw[S]at B t1;have af:l<=i:=J;refine ο λT u=>?_;refine Zc.g (LK D ae i) (ς ?_);rw[S];apply u
  repeat apply Ζ
  refine W.Wr (A:=[19]) Τ [(0,.Ο 0 1 0 0),(1,I n),(5,.ms 1 (i+1) 0 (i+1)),(6,I i),(7,I l)] [ZS (D.after i),.cells 3 1 ((UQ L i).map I)] ?_ (by
    have ag:(UQ L i).map I=L.map I++[I 0]:=by rw[<-f,pz];simp
    rw[ag];by_cases V:L=[]
    .subst V;have ah:i=0:=by simpa using f.symm
     subst ah;(try simp);(repeat (rw[Ι];simp[R6,show VM 1 []=.sl true 0 [] from rfl]));(try simp[R6,show VM 1 []=.sl true 0 [] from rfl])
    have m:L.map I≠[]:=by simpa using V
    (try simp);(repeat (rw[Ι];simp[QE m,UT m,f]));(try simp[QE m,UT m,f]);omega)
  refine Χ ?_;refine W.iter (λk:Nat=>l<=k/\k<=i) (λk=>[(0,.Ο 0 1 0 0),(1,I n),(5,.ms 1 (i+1) 0 (i+1)),(6,I i),(7,I l),(8,I k)]) (λk=>[ZS (D.after i),.cells 3 1 ((UQ L k).map I)]) (λk=>k) i ⟨af,Z3 _⟩ U o (λk am ai=>?_);refine Χ ?_;refine W.YD U (λH=>?_) (λH=>?_)
  .have X:l<k:=by simpa using H
   obtain⟨j,Y⟩:∃j,k=j+1:=⟨k-1,J⟩;have Z:j<L.length:=J;have v:IntKind.i64.wrap ((k:Int)-1)=j:=by rw[IntWalk.i64_in _ J];omega
   have K:(UQ L k).length=i+1:=by rw[yP J,f]
   obtain⟨y,M⟩:∃y,(UQ L k)[k]?=some y:=⟨_,ξ J⟩;obtain⟨R,b⟩:=ν ((UQ L k).map I);have N:R.length=i+1:=by rw[b,WS,K]
   have O:R[j]?=some (I L[j]):=by rw[b,YK,Y,py Z];rfl
   have s:R[k]?=some (I y):=by rw[b,YK,M];rfl
   have P:R.set k (I L[j])=(UQ L j).map I:=by rw[b,<-px Z,Lh,Y]
   have aj:∀h,R[j]'h=I L[j]:=λh=>by rw[ξ h]at O;exact Xq O
   have Q:∀h,R[k]'h=I y:=λh=>by rw[ξ h]at s;exact Xq s
   refine W.to (σ':=[ZS (D.after i),.cells 3 1 R]) (env':=[(0,.Ο 0 1 0 0),(1,I n),(5,.ms 1 (i+1) 0 (i+1)),(6,I i),(7,I l),(8,I k)]) ?_ (by rw[b]) o;refine YC (Ξ v (Ξ N (Ξ O (Ξ s (Ξ aj Q))))) λT u=>?_;refine⟨J,J,?_⟩;apply u;refine γ v ?_;refine W.to (ai j ⟨J,J⟩ J) ?_ ?_
   .rw[P]
   simp
  have X:k=l:=by simp at H;omega
  subst X;refine W.exit U ?_;have K:(UQ L k).length=i+1:=by rw[yP J,f]
  obtain⟨y,M⟩:∃y,(UQ L k)[k]?=some y:=⟨_,ξ J⟩;obtain⟨R,b⟩:=ν ((UQ L k).map I);have N:R.length=i+1:=by rw[b,WS,K]
  have s:R[k]?=some (I y):=by rw[b,YK,M];rfl
  have P:R.set k (I i)=(Qz L k i).map I:=by rw[b,<-pw J,Lh]
  have Q:∀h,R[k]'h=I y:=λh=>by rw[ξ h]at s;exact Xq s
  refine W.to (σ':=[ZS (D.after i),.cells 3 1 R]) (env':=[(0,.Ο 0 1 0 0),(1,I n),(5,.ms 1 (i+1) 0 (i+1)),(6,I i),(7,I k)]) ?_ (by rw[b]) o;refine YC (Ξ N (Ξ s Q)) λT u=>?_;refine⟨J,?_⟩;apply u;have v:=YR c (show n<2 ^ 62 by omega);refine γ v ?_;have m:(Qz L k i).map I≠[]:=λh=>by have:=congrArg List.length h;rw[WS,C8]at this;simp at this
  refine W.to (ad (i+1) c J) ?_ ?_
  .rw[B,P,UT (by simpa using m)];rfl
  rw[B];simp only[Int.toNat_natCast];rw[QE m];simp[v,C8,f]
 have c:i=n:=by simp at c;omega
 subst c;refine W.exit U ?_;refine Χ ?_;refine W.cut 1 o [(4,V9 1 ((V7 d i).1.map I))] o (λid r an aa=>?_) ?_ ?_
 .have:id=0:=J
  subst this;simp at aa;subst aa;exact λe C a w=>by simp[Ψ.cells]at C;subst C;simp[Ψ.cells]at w;rcases w with rfl|rfl<;>simp[TY,Ψ.cells]
 .intro p ab;simp at ab;subst ab;show Yx 1 _ (ε _ 4) _;simp;refine Gi (t:=3) (Z3 _) (λak=>by rw[UT ak];rfl) (λe C a w=>?_);obtain⟨x,_,rfl⟩:=ZG.1 C;simp[Ψ.cells]at w;subst w;exact .z _
 exact W.ret ⟨_,U,.acc,U⟩
def Ng(d:ZF)(h:Nat):YO h (ZS d):=λe b a c=>by
 simp[Ψ.cells]at b;subst b;simp[Ψ.cells]at c;rcases c with rfl|rfl<;>simp[TY,Ψ.cells]
section
variable{P:Program}{m nt:Nat}{k:Zk}{env:κ}{Z:Xv}{E:XM}
def W.pv{d:ZF}{t kk:Nat}{l:μ}{x:Nat}(g:m<=1)(h:∀e∈l,∀a∈e.cells,ω 0 a)(env':κ)(hd:ε env x=VM 1 l)(c:∀p∈env',ε env p.1=p.2/\ω 1 p.2)(i:W P m nt k ((x,V9 kk l)::env') [ZS d] Z E):W P m nt k env (ZS d::X1 t kk l) Z E:=
 W.cut 1 g ((x,V9 kk l)::env') o (λid r u f=>by
  have:id=0:=J;subst this;simp at f;subst f;exact Ng d 1) (λp b=>by
  rcases YU.1 b with rfl|b
  .show Yx 1 _ (ε env x) _;rw[hd];exact Gi (t:=t) (Z3 _) (λj=>by rw[UT j];rfl) (λe n a s=>(h e n a s).mono (Γ _))
  rw[(c p b).1];exact .low (c p b).2) (by simpa using i)
end
def pt{i n:Nat}(h:i<n)(a:n<1000):IntKind.i64.wrap ((i:Int)+1)=((i+1:Nat):Int):=by
 rw[IntWalk.i64_in _ J];omega
def Vy(d:ZF):Nat->ψ×ZF
 | 0=>([],d)
 | i+1=>((Vy d i).1++(if PL (Vy d i).2 2 then [(i:Int)] else []),(Vy d i).2.after 1)
def yN(d:ZF)(n:Nat):(Vy d n).2.Z4.length<=d.Z4.length:=by
 induction n with
 | zero=>exact Z3 _
 | succ n a=>exact WL (R1 _ _) a
def yM(d:ZF)(n:Nat):(Vy d n).1.length<=n:=by
 induction n with
 | zero=>exact Z3 _
 | succ n a=>
  show((Vy d n).1++_).length<=_;rw[VH];split<;>simp<;>omega
def ps(d:ZF)(hd:d.Z4.length<2 ^ 63):Zc 29 [I 2] d (ZU (PL d 2)) (d.after 1):=FN d hd 2 θ θ
def pq(d:ZF)(hd:d.Z4.length<2 ^ 63):Zc 205 [] d (δ I 1 (Vy d 3).1) (Vy d 3).2:=by
 unfold Zc;obtain⟨n,t⟩:=ν 3;rw[<-t];refine Ν.body Τ Tryz.func205 U U Tryz.ntmps205 U U o ?_;refine Χ ?_;refine W.iter (λi:Nat=>i<=n) (λi=>[(0,.Ο 0 1 0 0),(3,VM 1 ((Vy d i).1.map I)),(4,I i)]) (λi=>ZS (Vy d i).2::X1 3 1 ((Vy d i).1.map I)) (λi=>n-i) 0 (Γ _) U (by simp[VM,Vy]) (λi hi p=>?_);refine Χ ?_;refine W.YD U (λb=>?_) (λb=>?_)
 .have b:i<n:=by simp at b;omega
  have c:Vy d (i+1)=((Vy d i).1++(if PL (Vy d i).2 2 then [(i:Int)] else []),(Vy d i).2.after 1):=rfl
  have u:=yM d i;obtain⟨L,k⟩:=ν ((Vy d i).1);obtain⟨D,m⟩:=ν ((Vy d i).2);have v:D.Z4.length<2 ^ 63:=by rw[m];exact Ll (yN d i) hd
  rw[<-k,<-m]at c;rw[<-k]at u;rw[<-k,<-m];have f:=pt b J;refine ο λB w=>?_;refine Zc.g (ps D v) (ς ?_);apply w;cases h:PL D 2
  .refine Δ U ?_;refine γ f ?_;refine W.to (p (i+1) b J) ?_ ?_
   .rw[c,h];simp
   rw[c,h];simp[f]
  refine Β U ?_
  repeat apply Ζ
  refine W.Wr (A:=[14]) Τ [(0,.Ο 0 1 0 0),(3,VM 1 ((L++[(i:Int)]).map I)),(4,I i)] (ZS (D.after 1)::X1 3 1 ((L++[(i:Int)]).map I)) ?_ (by
   rw[WT,WY,OE,KC,QE (l:=L.map I++[I i]) o];by_cases r:L=[]
   .subst r;(try simp);(repeat (rw[Ι];simp[R6,show VM 1 []=.sl true 0 [] from rfl]));(try simp[R6,show VM 1 []=.sl true 0 [] from rfl])
   have j:L.map I≠[]:=by simpa using r
   (try simp);(repeat (rw[Ι];simp[QE j,UT j]));(try simp[QE j,UT j]);omega)
  refine γ f ?_;refine W.to (p (i+1) b J) ?_ ?_
  .rw[c,h];simp
  rw[c,h];simp[f]
 have b:i=n:=by simp at b;omega
 subst b;refine W.exit U ?_;refine Χ ?_;refine W.pv (x:=2) o (λe y a s=>?_) [] o o ?_
 .obtain⟨x,_,rfl⟩:=ZG.1 y;simp[Ψ.cells]at s;subst s;exact .z _
 exact W.ret ⟨_,U,.acc,U⟩
end Go.TL
namespace Go.TL
open Go.Conc Go.Proofs
abbrev C6:Vp:=calm λ_=>none
def C5:@Seq Ye C6:=@Seq.mk Ye C6 ⟨_,rfl⟩ (λ_ h=>h.rel) (λ_ h=>h.Z9)
def po(w:World):Calm (λ_=>none) (Z0.start w):=⟨rfl,rfl,rfl,λ_=>.inl ⟨rfl,trivial⟩⟩
def PK(w:World):ζ:=λb a=>((Φ.S9 w).Α b a).map (·.1)
def pn(w:World):Holds (PK w) [] [] (Φ.S9 w):=
 ⟨λb c v h=>by
  unfold PK at h;cases a:(Φ.S9 w).Α b c with
  | none=>rw[a]at h;cases h
  | some x=>rw[a]at h;cases h;exact⟨x.2,rfl⟩,rfl,λid r bo h=>by simp at h,λi j d e b f g _ h=>by simp at h,λid r b N h=>by simp at h⟩
def pk{P:Program}{f:FuncId}{fn:Func}{body:Code}{d:Nat}(b:P.funcs[f]?=some fn)(g:fn.body=some body)(i:fn.results=#[.tmp d])(m:P.inits.idxOf? f=none){w:World}{l:μ}{args:ZP}(n:XF (PK w) [] [] l args)(o:l.length<=fn.ntmps)
  (p:@W Ye P 0 fn.ntmps [.code body] (entry 0 l) [] (λj env _=>(∃k,j=.code .ret::k)/\ε env d=ZU true) (λ_ _ _=>False)):Comes P (λv=>v=.bool true) w (solo (Go.Conc.G (Frame.enter P f args .normal) []) w) #[]:=by
 letI:Z8:=Ye;refine Goes.comes ?_;show Zx P _ true (Z0.start w) (Frame.enter P f args .normal) [] (Φ.S9 w);rw[Ty b g];refine p (λv=>v=.bool true) true C6 [] (Frame.enter P f args .normal) (PK w) [] (Φ.S9 w) _ C5 U (XG.enter (pn w) n (Z3 _) o) (λj env' σ' r B' H' t' c s C t x=>?_) (λa env' σ' r B' H' t' c v A=>A.elim) (Z0.start w) (po w);obtain⟨⟨k,B⟩,hd⟩:=s;have e:c=j:=x;subst e;subst B;refine η.ret C5 U U (η.done (v:=.bool true) C5 (λy h=>h.bare) (λy h=>h.deaf) U U U b m ?_ U);have hv:t'.getD d undef=.bool true:=by
  have:=t.Zt d;rw[hd]at this;generalize t'.getD d undef=u at this;cases this;rfl
 show results fn t'=_;unfold results;rw[i];rw[Vv]at hv;simp[hv]
end Go.TL
namespace Go.TL
open Go.Conc Go.ConcM Go.Proofs
open Go.ChangeShapes Go.WideShapes Go.ChangeAt Go.RowKit
def pj:ownKnob Tryz.prog.godebug=none:=by kernel_rfl
def Xe.below{W w:World}(h:Xe (λ_ _=>False) (λ_=>False) W w):Below W.heap.size W {w with os:=W.os}:=by
 refine⟨U,h.tape,h.output,h.size,λk f=>?_⟩;show w.heap[k]?=W.heap[k]?;have e:=XV f;cases a:Obj.OD W.heap[k] with
 | false=>rw[e];exact h.SG k _ e a id
 | true=>
  cases b:W.heap[k] with
  | cells c t d=>
   rw[b]at e;obtain⟨c',g,i,n,j,l⟩:=h.cells k c t d e;obtain rfl:g=d:=l.elim id λ⟨⟨_,h⟩,_⟩=>h.elim;have:c'=c:=by
    apply NN ;apply T6;intro m;have:=j m id;simpa using this
   rw[e,i,this]
  | _=>rw[b]at a;simp[Obj.OD]at a
def ph:laidOutB Tryz.prog=true:=by kernel_rfl
def pg:Tryz.prog.cellsOf 3=1:=by kernel_rfl
def pf{W:World}{b a:Nat}{v:Value}(h:W.cell? ⟨b,a,none⟩=some v):PK W b a=some v:=by
 unfold World.cell? at h;unfold PK Φ.S9;simp only at h ⊢;split at h
 .rename_i c t e d;rw[d];simp at h ⊢;exact h
 cases h
def pe{W:World}{a:Addr}{len cap:Nat}{d:ψ}(p:len<=cap)(w:len<=d.length)(h:∀i,i<d.length->W.cell? (a.add i)=some (.int .i64 (d.getD i 0))) :
  Θ (PK W) [] [] (δ I 1 (d.take len)) (.slice (some a) len cap):=by
 by_cases r:len=0
 .subst r;exact .WI _ _ o
 have m:a.spot=none:=by
  have:=h 0 J;unfold World.cell? Addr.add at this;rw[if_pos U]at this;cases s:a.spot with
  | none=>rfl
  | some x=>
   rw[s]at this;simp at this;split at this<;>simp at this
 obtain⟨b,t,sp⟩:=a;simp only at m;subst m;have g:(d.take len).length=len:=by rw[T5];omega
 have one:∀(i:Nat)(e:Ψ),((d.take len).map I)[i]?=some e->i<len/\e=I (d.getD i 0):=λi e hi=>by
  have n:i<len:=by have:=(ZT.1 hi).1;rw[WS,g]at this;exact this
  rw[YK,UK n,ξ J]at hi;refine⟨n,?_⟩;rw[XA,ξ J];simpa using hi.symm
 have:=Θ.sl (S:=PK W) (B:=[]) (σ:=[]) (ex:=false) (k:=1) (l:=(d.take len).map I) b t cap (λi _=>.int .i64 (d.getD i 0)) o (by rw[WS,g];exact p)
  (λi e hi=>by rw[(one i e hi).2];rfl) (λi e hi j c f=>by
   obtain⟨u,rfl⟩:=one i e hi
   match j with
   | 0=>
    refine pf ?_;have:=h i J;unfold Addr.add at this;rw[SH,Nat.add_zero];split at this
    .rename_i v;subst v;exact this
    exact this
   | j+1=>simp[Ψ.cells]at f) (λi e hi j c f=>by
   obtain⟨u,rfl⟩:=one i e hi
   match j with
   | 0=>simp[Ψ.cells]at f;subst f;exact .z _
   | j+1=>simp[Ψ.cells]at f)
 rw[WS,g]at this;exact this
end Go.TL
namespace Go.TL
open Go.Proofs
variable[Z8]
def pd(d:ZF){a b:Int}(h:a<=b)(c:-1000<a)(e:b<1000):a<=N6 d a b/\N6 d a b<=b:=by
 unfold N6;rw[IntWalk.i64_in (b-a) J];obtain⟨t0,t1⟩:=QA d (b-a) J J;generalize W' d (b-a)=x at t0 t1;rw[IntWalk.i64_in (a+x) J];omega
def pb(l:ψ)(k:Nat)(x:Int):(Qz l k x).Perm (x::l):=by
 unfold Qz;have h:(l.take k++x::l.drop k).Perm (x::(l.take k++l.drop k)):=List.perm_middle
 rwa [List.take_append_drop]at h
def yL(d:ZF)(n:Nat):(V7 d n).1.Perm ((List.range n).map λ(i:Nat)=>(i:Int)):=by
 induction n with
 | zero=>exact .refl _
 | succ n a=>
  show(Qz _ _ _).Perm _;refine(pb _ _ _).trans ?_;rw[Ur,WT];refine(List.Perm.cons _ a).trans ?_;exact(List.perm_append_singleton _ _).symm
def yK{d:ZF}{n:Nat}{x:Int}(h:x∈(V7 d n).1):0<=x/\x<n:=by
 have:=(yL d n).mem_iff.1 h;obtain⟨i,hi,rfl⟩:=ZG.1 this;have:=VR.1 hi;omega
def pa(d:ZF)(n:Nat):(V7 d n).1.Nodup:=by
 refine(yL d n).nodup_iff.2 ?_;unfold List.Nodup;rw[Lk];exact H7.imp λh e=>h J
structure Tr(l:List Xb):Prop where
 lo:1<=l.length
 hi:l.length<=6
 each:∀g∈l,LZ g.name=false/\1<=g.X8/\g.X8<=63
 FM:l.Pairwise λa b=>UD b.name a.name=false
 apart:l.Pairwise λa b=>a.X8≠b.X8
def LJ{l:ψ}(h:∀x∈l,x=0):XK l=0:=by
 induction l with
 | nil=>rfl
 | cons x l a=>
  have:=h x o;subst this;simp[XK];exact a λy b=>h y (by simp[b])
def Tr.err{l:List Xb}(h:Tr l):Rr l=0:=by
 unfold Rr;have g:=h.lo;have k:=h.hi;rw[if_neg J,if_neg J];refine LJ λx c=>?_;obtain⟨i,hi,rfl⟩:=ZG.1 c;have hi:=VR.1 hi;unfold PY;rw[ξ hi];obtain⟨d,Υ,m⟩:=h.each _ (YW hi);simp only;rw[if_neg (by rw[d];simp),if_neg,if_neg J,if_neg]
 .intro e;obtain⟨y,f,b⟩:=Ti.1 e;obtain⟨j,n,rfl⟩:=List.mem_take_iff_getElem.1 f;have:=Tm.1 h.apart j i J hi J;simp at b;exact this b
 rintro⟨o,a⟩;rw[ξ J]at a;have:=Tm.1 h.FM (i-1) i J hi J;simp only[Option.map_some,Option.getD_some]at a;rw[a]at this;cases this
def RG(i:Nat):ByteArray:=⟨#[[97,98,99,100,111,122].getD i 0]⟩
def UP:ψ:=[4,9,6,12,48,8,3,16,5,10,20]
def Qy(a:ψ)(b:Int)(i:Nat):Xb:=⟨RG i,(UP++[b]).getD ((a.getD i 0).toNat) 0⟩
structure Made(a:ψ):Prop where
 len:a.length=11
 mem:∀x∈a,0<=x/\x<11
 nodup:a.Nodup
def o9(d:ZF):Made (V7 d 11).1:=⟨C7 d 11,λ_ h=>yK h,pa d 11⟩
def Made.get{a:ψ}(h:Made a){i:Nat}(hi:i<11):∃k:Nat,k<11/\a[i]?=some (k:Int)/\∀c,(UP++[c])[k]?=some (UP.getD k 0)/\1<=UP.getD k 0/\UP.getD k 0<=63:=by
 have d:=h.len
 have e:=h.mem _ (YW (l:=a) (n:=i) J);refine⟨(a[i]).toNat,J,by rw[ξ J];congr 1;omega,λc=>?_⟩;have b:(a[i]).toNat<11:=J;generalize (a[i]).toNat=k at b;rw[YT (by simpa[UP] using b)];have:∀k<11,UP[k]?=some (UP.getD k 0)/\1<=UP.getD k 0/\UP.getD k 0<=63:=θ;exact this k b
def o8:∀a<11,∀b<11,UP.getD a 0=UP.getD b 0->a=b:=θ
def o7:∀i<6,LZ (RG i)=false:=by decide +kernel
def o6:∀j<6,∀i<j,UD (RG j) (RG i)=false:=by decide +kernel
def FL{a:ψ}(h:Made a)(b:Int){i:Nat}(hi:i<11):∃k:Nat,k<11/\a[i]?=some (k:Int)/\(Qy a b i).X8=UP.getD k 0/\1<=UP.getD k 0/\UP.getD k 0<=63:=by
 obtain⟨k,d,c,e⟩:=h.get hi;obtain⟨f,g,j⟩:=e b;refine⟨k,d,c,?_,g,j⟩;unfold Qy;rw[show a.getD i 0=(k:Int) from by rw[XA,c];rfl,Int.toNat_natCast];show(UP++[b]).getD k 0=_;rw[XA,f];rfl
def o5{d:ψ}(h:Made d)(c:Int){i j:Nat}(hi:i<11)(f:j<11)(e:(Qy d c i).X8=(Qy d c j).X8):i=j:=by
 obtain⟨a,g,k,l,_⟩:=FL h c hi;obtain⟨b,m,n,o,_⟩:=FL h c f;rw[l,o]at e;have:=o8 a g b m e;subst this;have p:=h.len;exact(List.getElem?_inj J h.nodup).1 (k.trans n.symm)
def o4{m:ψ}(h:Made m)(l:Int){d:Z6}(n:d.Pairwise (· < ·))(f:∀j∈d,j<6)(r:1<=d.length)(s:d.length<=6):Tr (d.map (Qy m l)):=by
 refine⟨by simpa using r,by simpa using s,λg t=>?_,?_,?_⟩
 .obtain⟨j,u,rfl⟩:=ZG.1 t;have:=f j u;obtain⟨k,_,_,e,v,Υ⟩:=FL h l (i:=j) J;exact⟨o7 j this,J,J⟩
 .rw[Lk];refine(Ir.2 λ{a b} c=>?_);have p:=(Ir.1 n) c;exact o6 b (f b (c.subset o)) a p
 rw[Lk];refine(Ir.2 λ{a b} c=>λe=>?_);have p:=(Ir.1 n) c;have w:=f a (c.subset o);have x:=f b (c.subset o);have:=o5 h l J J e;omega
def Tr.set{l:List Xb}(h:Tr l){k:Nat}(y:k<l.length){x:Int}(t:1<=x)(u:x<=63)(o:∀g∈l,g.X8≠x):Tr (l.set k ⟨l[k].name,x⟩):=by
 have get:∀(i:Nat)(hi:i<(l.set k ⟨l[k].name,x⟩).length),(l.set k ⟨l[k].name,x⟩)[i].name=(l[i]'(by simpa using hi)).name/\((l.set k ⟨l[k].name,x⟩)[i].X8=x/\i=k\/(l.set k ⟨l[k].name,x⟩)[i].X8=(l[i]'(by simpa using hi)).X8/\i≠k):=by
  intro i hi;rw[List.getElem_set];split
  .rename_i e;subst e;exact⟨U,.inl ⟨U,U⟩⟩
  rename_i e;exact⟨U,.inr ⟨U,λh=>e h.symm⟩⟩
 refine⟨by simpa using h.lo,by simpa using h.hi,λg v=>?_,?_,?_⟩
 .obtain⟨i,hi,rfl⟩:=Qg v;obtain⟨f,Υ⟩:=get i hi;obtain⟨a,b,c⟩:=h.each _ (YW (l:=l) (n:=i) (by simpa using hi));rw[f];rcases Υ with⟨Υ,_⟩|⟨Υ,_⟩<;>rw[Υ]
  .exact⟨a,t,u⟩
  exact⟨a,b,c⟩
 .rw[Tm];intro i j hi d m;rw[(get i hi).1,(get j d).1];exact Tm.1 h.FM i j (by simpa using hi) (by simpa using d) m
 rw[Tm];intro i j hi d m;have p:i<l.length:=by simpa using hi
 have r:j<l.length:=by simpa using d
 rcases(get i hi).2 with⟨f,Υ⟩|⟨f,Υ⟩<;>rcases(get j d).2 with⟨s,w⟩|⟨s,w⟩<;>rw[f,s]
 .omega
 .exact λe=>o _ (YW r) e.symm
 .exact λe=>o _ (YW p) e
 exact Tm.1 h.apart i j p r m
end Go.TL
namespace Go.TL
open Go.Proofs
variable[Z8]{d:ZF}{N:Nat}{C:Prop}
def IU(hd:d.Z4.length<=N)(n:Int):(d.after n).Z4.length<=N:=WL (R1 _ _) hd
def Rg(n:Int)(hd:d.Z4.length<=N)(k:∀(x:Nat)(a:ZF),a.Z4.length<=N->(x:Int)<=n->Zc 27 [I n] d (I x) a->C)(f:N<2 ^ 63:=by omega)(b:0<=n:=by omega)(c:n<2147483647:=by omega):C:=by
 obtain⟨g,h⟩:=QA d n b c;have e:((W' d n).toNat:Int)=W' d n:=J;exact k (W' d n).toNat (d.after n) (IU hd _) J (by rw[e];exact LK d J n)
def Nf(a b:Int)(hd:d.Z4.length<=N)(k:∀(x:Int)(c:ZF),c.Z4.length<=N->a<=x->x<=b->Zc 28 [I a,I b] d (I x) c->C)(f:N<2 ^ 63:=by omega)(h:a<=b:=by omega)(g:-1000<a:=by omega)(i:b<100000:=by omega):C:=by
 have e:a<=N6 d a b/\N6 d a b<=b:=by
  unfold N6;rw[IntWalk.i64_in (b-a) J];obtain⟨t0,t1⟩:=QA d (b-a) J J;generalize W' d (b-a)=x at t0 t1;rw[IntWalk.i64_in (a+x) J];omega
 exact k _ _ (IU hd _) e.1 e.2 (yQ d J a b)
def IT(n:Int)(hd:d.Z4.length<=N)(k:∀(b:Bool)(a:ZF),a.Z4.length<=N->Zc 29 [I n] d (ZU b) a->C)(f:N<2 ^ 63:=by omega)(c:1<=n:=by decide)(e:n<1000:=by decide):C:=
 k _ _ (IU hd _) (FN d J n c e)
def o3{b:Type}{l:List b}{a:b}{n:Nat}:l.getD n a∈a::l:=by
 by_cases h:n<l.length
 .rw[XA,ξ h];exact SK _ (YW h)
 rw[XA,Wk J];exact SJ ..
def FK(l:ψ)(hd:d.Z4.length<=N)(k:∀(x:Int)(a:ZF),a.Z4.length<=N->x∈0::l->Zc 67 [δ I 1 l] d (I x) a->C)(e:N<2 ^ 63:=by omega)(b:0<l.length:=by simp)(c:l.length<1000000:=by simp):C:=
 k _ _ (IU hd _) o3 (pA d J l b c)
end Go.TL
namespace Go.TL
open Go.Conc
variable[Z8]
inductive R0(id k:Nat)(l:μ):Ψ->Ψ->Prop where
 | same (a:Ψ):R0 id k l a a
 | ms:R0 id k l (.ms id l.length 0 l.length) (.sl false k l)
 | Ο {e:Ψ}:l=[e]->R0 id k l (.Ο id 1 0 0) (.Κ e.cells)
def IS(id k:Nat)(l:μ)(r r':Row):Prop:=r'=r\/∃t n es es',r=.cells t n es/\r'=.cells t n es'/\es'.length=es.length/\
 ∀(i:Nat)(e b:Ψ),es[i]?=some e->es'[i]?=some b->b.cells.length=e.cells.length/\∀(x:Nat)(a a':Ψ),e.cells[x]?=some a->b.cells[x]?=some a'->R0 id k l a a'
section
variable{P:Program}{S:ζ}{B:ZZ}{H:Φ}{σ σ':Ρ}{m nt id k:Nat}{t:TypeId}{l:μ}{kk:Zk}{env:κ}{Z:Xv}{E:XM}
def ζ.set(S:ζ)(B:ZZ)(H:Φ)(id:Nat):ζ:=λb a=>match B[id]? with
 | some (some (c,_))=>if b=c then(H.Α b a).map (·.1) else S b a
 | _=>S b a
def yJ{b N:Nat}(c:B[id]?=some (some (b,N)))(a:Nat):S.set B H id b a=(H.Α b a).map (·.1):=by
 unfold ζ.set;rw[c];simp
def yI(c:Holds S B σ H)(d:σ[id]?=some (.cells t k l)):∀b a v,S b a=some v->S.set B H id b a=some v:=λb a v hv=>by
 unfold ζ.set;split
 .rename_i g N f;split
  .rename_i e;subst e;rw[c.sep id _ b N d trivial f a]at hv;cases hv
  exact hv
 exact hv
def ZC.LI(c:Holds S B σ H)(b:σ[id]?=some (.cells t k l))(d:σ'[id]?=some .dead)(f:∀j r,j≠id->σ[j]?=some r->∃r',σ'[j]?=some r'/\IS id k l r r'):ZC S (S.set B H id) B B σ σ':=
 ⟨yI c b,λj r a=>by
  by_cases e:j=id
  .subst e;rw[b]at a;cases a;exact⟨.dead,d,.inr λn _=>trivial⟩
  obtain⟨r',g,h⟩:=f j r e a;refine⟨r',g,?_⟩;rcases h with rfl|⟨t,n,es,es',rfl,rfl,i,_⟩
  .exact Row.Sv _ _
  exact .inl ⟨es',U,i,U⟩⟩
def Θ.yH(u:Holds S B σ H)(g:σ[id]?=some (.cells t k l))(p:ZC S (S.set B H id) B B σ σ'){a a':Ψ}(C:R0 id k l a a'){v:Value}(r:Θ S B σ a v):Θ (S.set B H id) B σ' a' v:=by
 cases C with
 | same=>exact r.later p
 | ms=>
  cases r with
  | ms cap d h i E F s=>
   rw[g]at d;cases d;by_cases y:l=[]
   .subst y;exact .WI _ _ o
   have I:0<l.length:=MT.2 y;rcases s with s|⟨b,N,rfl,rfl,s⟩
   .omega
   obtain⟨_,_,_,w,m⟩:=u.row id _ _ g i;rw[MN];refine .sl b 0 cap (λj x=>w j x) o J (λj e n=>(m j e n).1) (λj e n x c f=>?_) (λj e n x c f=>?_)
   .have:=((m j e n).2 x c f).1;rw[yJ i,Vu,this];rfl
   exact(((m j e n).2 x c f).2.1).later p
  | VP v d h=>rw[g]at d;cases d;simp only[Row.W3]at h;omega
 | @Ο e D=>
  subst D;cases r with
  | Ο d h i=>
   rw[g]at d;cases d;obtain⟨_,_,_,w,m⟩:=u.row id _ _ g i;have A:=m 0 e U;refine .Κ _ _ (λx=>w 0 x) (λx a f=>?_) (λx a f=>?_)
   .have:=(A.2 x a f).1;rw[yJ i,Nat.add_zero,this];rfl
   exact((A.2 x a f).2.1).later p
  | Vo v d h=>rw[g]at d;cases d;simp[Row.W3]at h
def W.LI(a7:m<=id)(f:σ[id]?=some (.cells t k l))(ab:σ'.length=σ.length)(I:σ'[id]?=some .dead)(ad:∀j r,j≠id->σ[j]?=some r->∃r',σ'[j]?=some r'/\IS id k l r r')(env':κ)(aD:∀p∈env',R0 id k l (ε env p.1) p.2)
  (aE:W P m nt kk env' σ' Z E):W P m nt kk env σ Z E:=by
 intro aF mn x cs b S B H υ J K L aG aH;have c:=L.holds;have M:=ZC.LI c f I ad;have back:∀j r',j≠id->σ'[j]?=some r'->∃r,σ[j]?=some r/\IS id k l r r':=λj r' O h=>by
  have u:j<σ.length:=by rw[<-ab];exact(ZT.1 h).1
  obtain⟨ao,Q,ae⟩:=ad j _ O (ξ u);rw[h]at Q;cases Q;exact⟨_,ξ u,ae⟩
 have R:∀{r r':Row},IS id k l r r'->r'.live->r.live:=λ{r r'} h hv=>by
  rcases h with rfl|⟨_,_,_,_,rfl,rfl,_⟩
  .exact hv
  trivial
 have aI:Holds (S.set B H id) B σ' H:=by
  refine⟨λb g v h=>?_,by rw[ab];exact c.len,λj r bo d aJ=>?_,λi j ap aq b aK aL aM hi O ar au aN aO=>?_,λj r b N d af K g=>?_⟩
  .unfold ζ.set at h;split at h
   .split at h
    .cases av:H.Α b g with
     | none=>rw[av]at h;cases h
     | some x=>rw[av]at h;cases h;exact⟨x.2,rfl⟩
    exact c.Za b g v h
   exact c.Za b g v h
  .by_cases e:j=id
   .subst e;rw[I]at d;cases d;trivial
   obtain⟨aP,Q,ae⟩:=back j r e d;have T:=c.row j aP bo Q aJ;rcases ae with rfl|⟨t2,n,es,es',rfl,rfl,ag,aQ⟩
   .refine T.later M (λb N _=>⟨λ_=>rfl,U,U⟩) λaw left a8 Υ=>?_;subst Υ;obtain⟨_,_,a9,ba,xs,bb,seen,_,ax,⟨es,s⟩,_⟩:=T;refine⟨?_,U,λb N _=>⟨λ_=>rfl,U,U⟩⟩;have V:aw≠id:=λe=>by subst e;rw[f]at s;cases s
    obtain⟨r',aR,aS⟩:=ad aw _ V s;rcases aS with rfl|⟨_,_,_,_,aT,_⟩
    .rw[aR,s]
    cases aT
   cases bo with
   | none=>
    have:es=[]:=T;subst this;exact YY.1 ag
   | some y=>
    obtain⟨b,N⟩:=y;obtain⟨A,C,D,w,F⟩:=T;refine⟨A,by rw[ag];exact C,D,w,λi aU hi=>?_⟩;have u:i<es.length:=by rw[<-ag];exact(ZT.1 hi).1
    obtain⟨aV,aW⟩:=F i _ (ξ u);obtain⟨d1,d2⟩:=aQ i _ aU (ξ u) hi;refine⟨d1.trans aV,λx a' J=>?_⟩;have ay:x<(es[i]).cells.length:=by rw[<-d1];exact(ZT.1 J).1
    obtain⟨ax,s,aX⟩:=aW x _ (ξ ay);exact⟨ax,s.yH c f M (d2 x _ a' (ξ ay) J),aX⟩
  .have az:∀j r,σ'[j]?=some r->r.live->j≠id:=λj r h hv e=>by subst e;rw[I]at h;cases h;exact hv
   obtain⟨X,Y,aa⟩:=back i ap (az i ap hi ar) hi;obtain⟨ao,aY,aZ⟩:=back j aq (az j aq O au) O;exact c.inj i j X ao b aK aL aM Y aY (R aa ar) (R aZ au) aN aO
  have V:j≠id:=λe=>by subst e;rw[I]at d;cases d;exact af
  obtain⟨X,Y,aa⟩:=back j r V d;have aA:=c.sep j X b N Y (R aa af) K g;unfold ζ.set;split
  .rename_i a0 a1 ah;split
   .rename_i e;subst e;exact(c.inj j id X _ b N a1 V Y f (R aa af) trivial K ah).elim
   exact aA
  exact aA
 have a2:Ext S B H (S.set B H id) B H:=by
  refine⟨yI c f,λ_ _ _=>S7.of ⟨λ_=>rfl,U,U⟩,λ_ h=>.inl h,λb g v hv=>?_,λ_ h=>h⟩;unfold ζ.set at hv;split at hv
  .rename_i a0 N ah;split at hv
   .rename_i e;subst e;exact .inr (.inl ⟨N,ZD ah⟩)
   exact .inl hv
  exact .inl hv
 have aB:Xi m S B H σ (S.set B H id) B H σ':=⟨a2,M.left m⟩
 have a3:∀(l2:κ),(∀p∈l2,R0 id k l (ε env p.1) p.2)->∀i,Θ S B σ (ε env i) (υ.getD i undef)->Θ (S.set B H id) B σ' (ε l2 i) (υ.getD i undef):=by
  intro l2
  induction l2 with
  | nil=>intro _ i _;exact .Zl _
  | cons p l2 a4=>
   intro aC i d;simp only[ε];split
   .rename_i e;subst e;exact d.yH c f M (aC p o)
   exact a4 (λq a5=>aC q (by simp[a5])) i d
 refine aE aF mn x cs b _ _ H υ J K ⟨aI,λi=>a3 env' aD i (L.Zt i),L.size,by rw[ab];exact L.rows⟩ (λj ai aj ak al am t2 an A C D F=>?_) (λa ai aj ak al am t2 an v A C D F a6=>?_)
 .exact aG j ai aj ak al am t2 an A (aB.trans C) D F
 exact aH a ai aj ak al am t2 an v A (aB.trans C) D F a6
end
inductive LH(id:Nat):Ψ->Ψ->Prop where
 | same (a:Ψ):LH id a a
 | nil {k:Nat}:LH id (.sl true k []) (.ms id 0 0 0)
def SR(id:Nat)(r r':Row):Prop:=r'=r\/∃t n es es',r=.cells t n es/\r'=.cells t n es'/\es'.length=es.length/\
 ∀(i:Nat)(e b:Ψ),es[i]?=some e->es'[i]?=some b->b.cells.length=e.cells.length/\∀(x:Nat)(a a':Ψ),e.cells[x]?=some a->b.cells[x]?=some a'->LH id a a'
section
variable{P:Program}{S:ζ}{B:ZZ}{H:Φ}{σ σ':Ρ}{m nt k:Nat}{t:TypeId}{kk:Zk}{env:κ}{Z:Xv}{E:XM}
def ZC.pad(g:B.length=σ.length)(i:σ'.length=σ.length)(b:∀(j:Nat)(r:Row),σ[j]?=some r->∃r',σ'[j]?=some r'/\SR σ.length r r'):ZC S S B (B++[none]) σ (σ'++[.cells t k []]):=
 ⟨λ_ _ _ h=>h,λj r a=>by
  have l:=(ZT.1 a).1;obtain⟨r',c,d⟩:=b j r a;have e:(B++[none])[j]?=B[j]?:=YT J;refine⟨r',by rw[YT J];exact c,?_⟩;rw[e];rcases d with rfl|⟨t,n,es,es',rfl,rfl,f,_⟩
  .exact Row.Sv _ _
  exact .inl ⟨es',U,f,U⟩⟩
def Θ.yG(f:B.length=σ.length)(i:σ'.length=σ.length)(j:ZC S S B (B++[none]) σ (σ'++[.cells t k []])){a a':Ψ}(h:LH σ.length a a'){v:Value}(c:Θ S B σ a v):Θ S (B++[none]) (σ'++[.cells t k []]) a' v:=by
 cases h with
 | same=>exact c.later j
 | nil=>
  have d:(σ'++[Row.cells t k []])[σ.length]?=some (.cells t k []):=by rw[<-i];simp
  have e:(B++[none])[σ.length]?=some none:=by rw[<-f];simp
  cases c with
  | WI base cap g=>
   obtain rfl:=g U;exact .ms 0 d U e (Z3 _) (Z3 _) (.inl U)
  | sl b l cap w g=>
   obtain rfl:cap=0:=g U;exact .ms 0 d U e (Z3 _) (Z3 _) (.inl U)
def W.pad(t:TypeId)(k:Nat)(L:σ'.length=σ.length)(V:∀(j:Nat)(r:Row),σ[j]?=some r->∃r',σ'[j]?=some r'/\SR σ.length r r')(env':κ)(az:∀p∈env',LH σ.length (ε env p.1) p.2)
  (aA:W P m nt kk env' (σ'++[.cells t k []]) Z E):W P m nt kk env σ Z E:=by
 intro aB mn x cs b S B H υ M g O aC aD;have f:=O.holds;have Q:=f.len;have R:ZC S S B (B++[none]) σ (σ'++[.cells t k []]):=ZC.pad Q L V;have ao:∀j,j<σ.length->(σ'++[Row.cells t k []])[j]?=σ'[j]?:=λj h=>YT J;have l:∀j,j<σ.length->(B++[none])[j]?=B[j]?:=λj h=>YT J;have back:∀j r',j<σ.length->(σ'++[Row.cells t k []])[j]?=some r'->∃r,σ[j]?=some r/\SR σ.length r r':=λj r' s h=>by
  rw[ao j s]at h;obtain⟨ap,d,X⟩:=V j _ (ξ s);rw[h]at d;cases d;exact⟨_,ξ s,X⟩
 have Y:∀{r r':Row},SR σ.length r r'->r'.live->r.live:=λ{r r'} h hv=>by
  rcases h with rfl|⟨_,_,_,_,rfl,rfl,_⟩
  .exact hv
  trivial
 have low:∀j y,(B++[none])[j]?=some (some y)->j<σ.length:=λj y h=>by
  have d:=(ZT.1 h).1;simp at d;by_cases e:j=B.length
  .subst e;simp at h
  omega
 have aE:Holds S (B++[none]) (σ'++[.cells t k []]) H:=by
  refine⟨f.Za,by simp;omega,λj r bo c u=>?_,λi j aF aG b aH aI aJ hi s aK aL aa ab=>?_,λj r b N c aM g aN=>?_⟩
  .by_cases e:j<σ.length
   .rw[l j e]at u;obtain⟨aO,d,X⟩:=back j r e c;have T:=f.row j aO bo d u;rcases X with rfl|⟨t2,n,es,es',rfl,rfl,ad,aP⟩
    .refine T.later R (λb N _=>⟨λ_=>rfl,U,U⟩) λae left a5 Υ=>?_;subst Υ;obtain⟨_,_,a6,a7,xs,a8,seen,_,aq,⟨es,A⟩,_⟩:=T;have ar:=(ZT.1 A).1;refine⟨?_,l ae ar,λb N _=>⟨λ_=>rfl,U,U⟩⟩;obtain⟨r',aQ,aR⟩:=V ae _ A;rcases aR with rfl|⟨_,_,_,_,aS,_⟩
     .rw[ao ae ar,aQ,A]
     cases aS
    cases bo with
    | none=>
     have:es=[]:=T;subst this;exact YY.1 ad
    | some y=>
     obtain⟨b,N⟩:=y;obtain⟨C,D,F,w,I⟩:=T;refine⟨C,by rw[ad];exact D,F,w,λi aT hi=>?_⟩;have au:i<es.length:=by rw[<-ad];exact(ZT.1 hi).1
     obtain⟨aU,aV⟩:=I i _ (ξ au);obtain⟨d1,d2⟩:=aP i _ aT (ξ au) hi;refine⟨d1.trans aU,λx a' M=>?_⟩;have av:x<(es[i]).cells.length:=by rw[<-d1];exact(ZT.1 M).1
     obtain⟨aq,A,aW⟩:=aV x _ (ξ av);exact⟨aq,A.yG Q L R (d2 x _ a' (ξ av) M),aW⟩
   have d:=(ZT.1 c).1;simp at d;have aX:j=σ'.length:=J;subst aX;rw[L,<-Q]at u;simp at c u;subst c;subst u;rfl
  .have aw:=low i _ aa
   have K:=low j _ ab;obtain⟨af,ag,ah⟩:=back i aF aw hi;obtain⟨ap,aY,aZ⟩:=back j aG K s;rw[l i aw]at aa;rw[l j K]at ab;exact f.inj i j af ap b aH aI aJ ag aY (Y ah aK) (Y aZ aL) aa ab
  have K:=low j _ g;obtain⟨af,ag,ah⟩:=back j r K c;rw[l j K]at g;exact f.sep j af b N ag (Y ah aM) g aN
 have a0:Ext S B H S (B++[none]) H:=(f.push (r:=.cells t k []) (bo:=none) (λb N h=>by cases h) (λb _=>⟨λ_=>rfl,U,U⟩) (λ_=>rfl)).2.1
 have ax:Xi m S B H σ S (B++[none]) H (σ'++[.cells t k []]):=⟨a0,R.left m⟩
 have a1:∀(l2:κ),(∀p∈l2,LH σ.length (ε env p.1) p.2)->∀i,Θ S B σ (ε env i) (υ.getD i undef)->Θ S (B++[none]) (σ'++[.cells t k []]) (ε l2 i) (υ.getD i undef):=by
  intro l2
  induction l2 with
  | nil=>intro _ i _;exact .Zl _
  | cons p l2 a2=>
   intro ay i c;simp only[ε];split
   .rename_i e;subst e;exact c.yG Q L R (ay p o)
   exact a2 (λq a3=>ay q (by simp[a3])) i c
 refine aA aB mn x cs b _ _ H υ M g ⟨aE,λi=>a1 env' az i (O.Zt i),O.size,by have:=O.rows;simp;omega⟩ (λj ai aj ak al am t2 an C D F I=>?_) (λa ai aj ak al am t2 an v C D F I a4=>?_)
 .exact aC j ai aj ak al am t2 an C (ax.trans D) F I
 exact aD a ai aj ak al am t2 an v C (ax.trans D) F I a4
def W.IQ(t:TypeId)(k:Nat){i:Nat}{r r':Row}(hi:σ[i]?=some r)(b:SR σ.length r r')(env':κ)(c:∀p∈env',LH σ.length (ε env p.1) p.2)(d:W P m nt kk env' (σ.set i r'++[.cells t k []]) Z E):W P m nt kk env σ Z E:=
 W.pad t k o (λj q a=>by
  by_cases e:j=i
  .subst e;rw[hi]at a;cases a;exact⟨r',by rw[Xz (ZT.1 hi).1],b⟩
  exact⟨q,by rw[XJ (YX e)];exact a,.inl U⟩) env' c d
def SR.last{id:Nat}{t:TypeId}{k:Nat}{M:μ}:SR id (.cells t k (M++[.sl true 0 []])) (.cells t k (M++[.ms id 0 0 0])):=by
 refine .inr ⟨t,k,_,_,U,U,o,λi e h b c=>?_⟩;by_cases hi:i<M.length
 .rw[YT hi]at b c;rw[b]at c;cases c;exact⟨U,λx a a' d f=>by rw[d]at f;cases f;exact .same _⟩
 rw[W5 J]at b c;obtain⟨j,g⟩:=ν (i-M.length);rw[<-g]at b c
 match j with
 | 0=>
  simp at b c;subst b;subst c;refine⟨U,λx a a' d f=>?_⟩
  match x with
  | 0=>simp[Ψ.cells]at d f;subst d;subst f;exact .nil
  | x+1=>simp[Ψ.cells]at d
 | j+1=>simp at b
end
def C4{R:Ψ->Ψ->Prop}(o:∀a,R a a)(t:TypeId)(k:Nat){l:μ}{j:Nat}{v v':Ψ}(g:l[j]?=some v)(h:R v v'):∃t' n es es',Row.cells t k [.Z' l]=.cells t' n es/\Row.cells t k [.Z' (l.set j v')]=.cells t' n es'/\es'.length=es.length/\∀(i:Nat)(e c:Ψ),es[i]?=some e->es'[i]?=some c->c.cells.length=e.cells.length/\∀(x:Nat)(a a':Ψ),e.cells[x]?=some a->c.cells[x]?=some a'->R a a':=by
 refine⟨_,_,_,_,U,U,U,λi e c f m=>?_⟩
 match i with
 | 0=>
  simp at f m;subst f;subst m;refine⟨by simp[Ψ.cells],λx a a' d b=>?_⟩;simp only[Ψ.cells]at d b;by_cases e:j=x
  .subst e;rw[g]at d;rw[Xz (ZT.1 g).1]at b;cases d;cases b;exact h
  rw[XJ e,d]at b;cases b;exact o _
 | i+1=>simp at f
def yF{R:Ψ->Ψ->Prop}(p:∀a,R a a)(t:TypeId)(k:Nat){l:μ}{j:Nat}{v v':Ψ}(m:l[j]?=some v)(h:R v v')(r:v.cells=[v])(s:v'.cells=[v']):∃t' n es es',Row.cells t k l=.cells t' n es/\Row.cells t k (l.set j v')=.cells t' n es'/\es'.length=es.length/\∀(i:Nat)(e b:Ψ),es[i]?=some e->es'[i]?=some b->b.cells.length=e.cells.length/\∀(x:Nat)(a a':Ψ),e.cells[x]?=some a->b.cells[x]?=some a'->R a a':=by
 refine⟨_,_,_,_,U,U,o,λi e b g c=>?_⟩;by_cases hi:j=i
 .subst hi;rw[m]at g;rw[Xz (ZT.1 m).1]at c;cases g;cases c;rw[r,s];refine⟨U,λx a a' d f=>?_⟩
  match x with
  | 0=>cases d;cases f;exact h
  | x+1=>simp at d
 rw[XJ hi,g]at c;cases c;exact⟨U,λx a a' d f=>by rw[d]at f;cases f;exact p _⟩
def SR.field{id j k kk:Nat}{t:TypeId}{l:μ}(a:l[j]?=some (.sl true kk [])):SR id (.cells t k [.Z' l]) (.cells t k [.Z' (l.set j (.ms id 0 0 0))]):=.inr (C4 .same t k a .nil)
section
variable{P:Program}{σ:Ρ}{m nt id k q:Nat}{t:TypeId}{l:μ}{kk:Zk}{env:κ}{Z:Xv}{E:XM}{r r':Row}
def W.Km(d:m<=id)(b:σ[id]?=some (.cells t k l))(c:σ[q]?=some r)(f:IS id k l r r')(n:q≠id)(env':κ)(g:∀p∈env',R0 id k l (ε env p.1) p.2)(h:W P m nt kk env' ((σ.set q r').set id .dead) Z E):W P m nt kk env σ Z E:=
 W.LI d b o (by rw[Xz (by rw[Lj];exact(ZT.1 b).1)]) (λj s i a=>by
  rw[XJ (YX i)];by_cases e:q=j
  .subst e;rw[c]at a;cases a;exact⟨r',Xz (ZT.1 c).1,f⟩
  exact⟨s,by rw[XJ e];exact a,.inl U⟩) env' g h
end
end Go.TL
namespace Go.TL
open Go.Proofs
variable[Z8]
def PJ(g:FuncId)(args:μ)(d:ZF)(R:Ψ->Prop):Prop:=Ν Tryz.prog g (.Ο 0 1 0 0::args) [ZS d] (λa s=>∃r b,Yw a r/\R r/\s=[ZS b]/\b.Z4.length<=d.Z4.length) (λ_ _=>False)
def PJ.c{g args args' d R σ K E}(h:PJ g args d R)(id)(l:σ[id]?=some (ZS d))(m:ZJ args' args)(j:∀a∈args',ω 0 a)(k:∀r,R r->ω 0 r)(n:∀r b,R r->b.Z4.length<=d.Z4.length->K r (σ.set id (ZS b))):Yi Tryz.prog (.fn (.func g) [] []) (.Ο id 1 0 0::args') σ K E:=by
 apply Ν.D2 (as0:=.Ο 0 1 0 0::args') (K0:=λa s=>∃b,R a/\s=[ZS b]/\b.Z4.length<=d.Z4.length) (Ν.SZ h (.cons (.refl _) m) λa s ⟨r,b,e,f,i,o⟩=>⟨r,e,b,f,i,o⟩) id l (TV d)
 .intro a hm;rcases YU.1 hm with rfl|hm
  .exact OF
  exact(j a hm).U' 1
 .rw[WY,yS j];rfl
 rintro a s ⟨b,e,f,i⟩;exact⟨ZS b,f,TV b,(k a e).U' 1,by rw[(k a e).Yt];exact n a b e i⟩
section
variable{P:Program}{m nt:Nat}{k:Zk}{env:κ}{Z:Xv}{E:XM}
def W.C3{d}{t kk n:Nat}{l x}(f:m<=1)(g:l.length=n)(h:∀e∈l,∀a∈e.cells,ω 0 a)(hd:ε env x=.ms 1 n 0 n)(i:W P m nt k [(x,.sl false kk l)] [ZS d] Z E):W P m nt k env [ZS d,.cells t kk l] Z E:=
 W.cut 1 f [(x,.sl false kk l)] o (λid r u b=>by
  have:id=0:=J;subst this;simp at b;subst b;exact Ng d 1) (λp c=>by
  simp at c;subst c;rw[hd];exact .own (Z3 _) U g (λe j a s=>(h e j a s).mono (Γ _))) (by simpa using i)
end
def FJ{l:List Xb}:∀e∈l.map X4,∀a∈e.cells,ω 0 a:=λe c a b=>by
 obtain⟨x,_,rfl⟩:=ZG.1 c;simp[Ψ.cells]at b;rcases b with rfl|rfl<;>exact .z _
def LG:List ByteArray:=[⟨#[97]⟩,⟨#[98]⟩,⟨#[99]⟩,⟨#[100]⟩,⟨#[111]⟩,⟨#[122]⟩]
def o2:∀i<6,LG[i]?=some (RG i):=θ
structure yE where
 i:Nat
 d:ZF
 Yd:Z6
def o1(d)(hd:d.Z4.length<2 ^ 63)(R:Nat)(bb:1<=R)(bc:R<=6):Ν Tryz.prog 204 [.Ο 0 1 0 0,I R] [ZS d] (λa s=>∃l ar,a=.ms 1 l.length 0 l.length/\s=[ZS ar,.cells 92 2 (l.map X4)]/\Tr l/\l.length<=R/\ar.Z4.length<=d.Z4.length) (λ_ _=>False):=by
 apply Ν.body Τ Tryz.func204 U U Tryz.ntmps204 U U o;refine Χ ?_;refine Nf 1 63 (Z3 _) λm d1 aM aN l1 aO=>?_;refine ο λaf H=>?_;refine Zc.g (aO) (ς ?_);apply H
 repeat apply Ζ
 have au:=yO d1 J 11 θ
 have S:=o9 d1
 have av:=WL (C9 d1 11) aM
 let ⟨u,aw⟩:=V6 ((V7 d1 11).1)
 let ⟨d2,ax⟩:=V6 ((V7 d1 11).2);rw[aw]at S;rw[aw,ax]at au;rw[ax]at av;refine ο λaf H=>?_;refine Zc.g (au) (ς ?_);apply H;refine Χ ?_;refine Nf 1 R av λz d3 aP n0 bd aQ=>?_;obtain⟨n,rfl⟩:∃n:Nat,z=n:=⟨z.toNat,J⟩;refine ο λaf H=>?_;refine Zc.g (aQ) (ς ?_);apply H;refine Χ ?_;have B:LG.length=6:=rfl;have ag:(UP++[m]).length=12:=by simp[UP]
 let ⟨E,Y⟩:=ν (UP++[m]);rw[<-Y]at ag;have aR:∀f:Z6,(f.map (Qy u m)).length=f.length:=λf=>WS _;apply W.pad 92 2 (σ':=[ZS d3]) U (λj r h=>⟨r,h,.inl U⟩) [(0,.Ο 0 1 0 0),(5,.sl true 1 (LG.map ZQ)),(6,.sl true 1 (E.map I)),(7,δ I 1 u),(8,.ms 1 0 0 0),(9,I n),(10,I 0)] (λp ay=>by
  simp only[YU,XW,or_false]at ay;rcases ay with rfl|rfl|rfl|rfl|rfl|rfl|rfl
  all_goals first|exact .nil|exact .same _|(rw[Y];exact .same _))
 refine W.iter (λx:yE=>x.i<=6/\x.d.Z4.length<=d.Z4.length/\x.Yd.Pairwise (· < ·)/\(∀j∈x.Yd,j<x.i)/\x.Yd.length<=n/\n+x.i<=6+x.Yd.length)
  (λx=>[(0,.Ο 0 1 0 0),(5,.sl true 1 (LG.map ZQ)),(6,.sl true 1 (E.map I)),(7,δ I 1 u),(8,.ms 1 x.Yd.length 0 x.Yd.length),(9,I n),(10,I x.i)])
  (λx=>[ZS x.d,.cells 92 2 ((x.Yd.map (Qy u m)).map X4)]) (λx=>6-x.i) ⟨0,d3,[]⟩ ⟨o,aP,o,o,o,by simp;omega⟩ U o (λx ah ai=>?_)
 let ⟨i,D,f⟩:=x
 let ⟨aS,aj,Z,T,az,aT⟩:=ah;simp only at aS aj Z T az aT ai ⊢;let ⟨G,V⟩:=ν (f.map (Qy u m));have t:G.length=f.length:=by rw[V];exact aR f
 rw[<-V]
 repeat apply Ζ
 refine W.Wr (A:=[]) Τ [(35,ZU (decide (i<6)&&decide (f.length<n))),(0,.Ο 0 1 0 0),(5,.sl true 1 (LG.map ZQ)),(6,.sl true 1 (E.map I)),(7,δ I 1 u),(8,.ms 1 f.length 0 f.length),(9,I n),(10,I i)] [ZS D,.cells 92 2 (G.map X4)] ?_ (by
  by_cases hi:i<6
  .have aA:(i:Int)<6:=J
   (try simp);(repeat (rw[Ι];simp[aA,B,t,hi]));(try simp[aA,B,t,hi])
  have hi:i=6:=J
  subst hi;(try simp);(repeat (rw[Ι];simp[B]));(try simp[B]))
 refine W.YD U (λF=>?_) (λF=>?_)
 .simp only[U2,decide_eq_true_eq]at F;let ⟨hi,aB⟩:=F;have K:IntKind.i64.wrap (6-i)=6-i:=IntWalk.i64_in _ J;have aa:IntKind.i64.wrap ((n:Int)-f.length)=n-f.length:=IntWalk.i64_in _ J;have L:IntKind.i64.wrap ((i:Int)+1)=((i+1:Nat):Int):=by rw[IntWalk.i64_in _ J];omega
  repeat apply Ζ
  refine IT 3 aj λak al aU am=>?_;obtain⟨w,C⟩:∃x,x=if(n:Int)-f.length<6-i then al else D:=⟨_,U⟩
  have X:w.Z4.length<=d.Z4.length:=by rw[C];split<;>assumption
  refine W.Wr (A:=[]) Τ [(50,ZU (decide ((n:Int)-f.length<6-i)&&ak)),(0,.Ο 0 1 0 0),(5,.sl true 1 (LG.map ZQ)),(6,.sl true 1 (E.map I)),(7,δ I 1 u),(8,.ms 1 f.length 0 f.length),(9,I n),(10,I i)] [ZS w,.cells 92 2 (G.map X4)] ?_ (by
   by_cases O:(n:Int)-f.length<6-i
   .rw[if_pos O]at C;rw[C];(try simp);(repeat (rw[Ι];simp[B,K,aa,O,t]));(try simp[B,K,aa,O,t]);apply Zc.c (am) 0 U (ZJ.refl _) o o;simp;(repeat (rw[Ι];simp));(try simp)
   rw[if_neg O]at C;rw[C];(try simp);(repeat (rw[Ι];simp[B,K,aa,O,t]));(try simp[B,K,aa,O,t]))
  refine W.YD U (λP=>?_) (λP=>?_)
  .simp only[U2,decide_eq_true_eq]at P;apply W.exit U;refine γ L ?_;refine W.to (ai ⟨i+1,w,f⟩ ⟨by show i+1<=6;omega,X,Z,λj v=>by have:=T j v;show j<i+1;omega,az,by show n+(i+1)<=6+f.length;omega⟩ (by show 6-(i+1)<6-i;omega)) (by rw[V]) (by simp[L])
  have ab:n+i+1<=6+f.length+1:=J
  let ⟨k,be,ad,Q⟩:=S.get (i:=i) J
  let ⟨Q,_,_⟩:=Q m
  have aC:Qy u m i=⟨RG i,UP.getD k 0⟩:=by
   let ⟨aV,_,aD,e,_⟩:=FL S m (i:=i) J;rw[ad]at aD;have aW:aV=k:=by have:=Xq aD;omega
   subst aW;show(⟨RG i,(Qy u m i).X8⟩:Xb)=_;rw[e]
  let ⟨aX,aE⟩:=V6 (UP.getD k 0);rw[aE]at aC;rw[aE,<-Y]at Q;have an:=o2 i hi;have aY:∀h,LG[i]'h=RG i:=λh=>by rw[ξ h]at an;exact Xq an
  have aZ:∀h,u[i]'h=(k:Int):=λh=>by rw[ξ h]at ad;exact Xq ad
  have a0:∀h,E[k]'h=aX:=λh=>by rw[ξ h]at Q;exact Xq Q
  have a1:=S.len
  have a2:(G++[Qy u m i])=(f++[i]).map (Qy u m):=by rw[V];simp
  repeat apply Ζ
  have a3:(⟨i+1,w,f++[i]⟩:yE).i<=6/\w.Z4.length<=d.Z4.length/\(f++[i]).Pairwise (· < ·)/\(∀j∈f++[i],j<i+1)/\(f++[i]).length<=n/\n+(i+1)<=6+(f++[i]).length:=by
   refine⟨hi,X,?_,?_,?_,?_⟩
   .rw[Lp];exact⟨Z,o,λa a4 b aF=>by simp at aF;subst aF;exact T a a4⟩
   .intro j v;rcases VS.1 v with v|v
    .have:=T j v;omega
    simp at v;omega
   .simp;omega
   simp;omega
  have ao:=ai ⟨i+1,w,f++[i]⟩ a3 (by show 6-(i+1)<6-i;omega);rw[<-a2,aC]at ao;simp only[VH,List.length_singleton,WT,WY,OE]at ao;refine W.draw (A:=[65]) Τ mixed λaf H=>SY (Ξ B (Ξ ag (Ξ a1 (Ξ an (Ξ aY (Ξ ad (Ξ aZ (Ξ Q (Ξ a0 t))))))))) ?_;refine⟨J,J,J,J,?_⟩;refine X5 (H _ _ ?_);refine γ L ?_;exact W.to ao U (by simp[L])
 have aB:f.length=n:=by
  simp only[Bool.and_eq_false_iff,decide_eq_false_iff_not]at F;omega
 apply W.exit U;rw[aB]at t ⊢;have aG:Tr G:=by rw[V];exact o4 S m Z (λj v=>by have:=T j v;omega) J J
 have ap:E[11]?=some m:=by rw[Y];rfl
 have a5:∀h,E[11]'h=m:=λh=>by rw[ξ h]at ap;exact Xq ap
 refine W.to (env':=[(0,.Ο 0 1 0 0),(6,.sl true 1 (E.map I)),(8,.ms 1 n 0 n),(9,I n)]) (σ':=[ZS D,.cells 92 2 (G.map X4)]) ?_ U o;have a6:IntKind.i64.wrap 11=11:=θ;refine γ (Ξ ag (Ξ ap (Ξ a5 a6))) ?_;refine W.iter (λx=>x.1<=n/\(x.2=true->∀g∈G.take x.1,g.X8≠m)) (λx=>[(0,.Ο 0 1 0 0),(8,.ms 1 n 0 n),(11,I m),(12,ZU x.2),(13,I x.1)]) (λ_=>[ZS D,.cells 92 2 (G.map X4)]) (λx=>n-x.1) (0,true) ⟨Γ _,o⟩ U o (λx ah aH=>?_);let ⟨j,χ⟩:=x;let ⟨v,ab⟩:=ah;simp only at v ab aH ⊢;refine γ t ?_;refine W.YD U (λF=>?_) (λF=>?_)
 .have aI:j<n:=by simpa using F
  have aq:G[j]?=some (G[j]'J):=ξ J
  let ⟨g,M⟩:=ν (G[j]'J);rw[<-M]at aq;have aJ:∀h,G[j]'h=g:=λh=>M.symm;have L:IntKind.i64.wrap ((j:Int)+1)=((j+1:Nat):Int):=by rw[IntWalk.i64_in _ J];omega
  have a7:G.take (j+1)=G.take j++[g]:=by rw[Ws J,M]
  repeat apply Ζ
  refine W.Wr (A:=[]) Τ [(0,.Ο 0 1 0 0),(8,.ms 1 n 0 n),(11,I m),(12,ZU (χ&&decide (g.X8≠m))),(13,I j)] [ZS D,.cells 92 2 (G.map X4)] ?_ (by
   cases χ
   ·(try simp);(repeat (rw[Ι];simp[t]));(try simp[t])
   ·(try simp);(repeat (rw[Ι];simp[t,aq,aJ]));(try simp[t,aq,aJ]);omega)
  refine γ L ?_;refine W.to (aH (j+1,χ&&decide (g.X8≠m)) ⟨aI,λh=>?_⟩ (by show n-(j+1)<n-j;omega)) U (by simp[L]);simp only[U2,decide_eq_true_eq]at h;intro y N;rw[a7]at N;rcases VS.1 N with N|N
  .exact ab h.1 y N
  simp at N;subst N;exact h.2
 have aI:j=n:=by simp at F;omega
 have a8:χ=true->∀g∈G,g.X8≠m:=λh=>by
  have:=ab h
  rwa [Wl J]at this
 apply W.exit U;refine IT 3 aj λak al aU am=>?_;let ⟨w,C⟩:=ν (if χ then al else D);have X:w.Z4.length<=d.Z4.length:=by rw[C];split<;>assumption
 repeat apply Ζ
 refine W.Wr (A:=[]) Τ [(92,ZU (χ&&ak)),(0,.Ο 0 1 0 0),(8,.ms 1 n 0 n),(11,I m)] [ZS w,.cells 92 2 (G.map X4)] ?_ (by
  cases χ
  .rw[C];(try simp);(repeat (rw[Ι];simp[t]));(try simp[t])
  rw[C];(try simp);(repeat (rw[Ι];simp[t]));(try simp[t]);apply Zc.c (am) 0 U (ZJ.refl _) o o;simp;(repeat (rw[Ι];simp));(try simp))
 refine W.YD U (λP=>?_) (λP=>?_)
 .simp only[U2]at P;have K:IntKind.i64.wrap ((n:Int)-1)=n-1:=IntWalk.i64_in _ J;refine Rg ((n:Int)-1) X λk aK a9 t1 a'=>?_;have ae:k<G.length:=J;have aL:G[k]?=some (G[k]'ae):=ξ ae;let ⟨g,M⟩:=ν (G[k]'ae);rw[<-M]at aL;have ba:∀h,G[k]'h=g:=λh=>M.symm
  repeat apply Ζ
  refine W.Wr (A:=[]) Τ [(8,.ms 1 n 0 n)] [ZS aK,.cells 92 2 ((G.set k ⟨g.name,m⟩).map X4)] ?_ (by
   (try simp);(repeat (rw[Ι];simp[t,K]));(try simp[t,K]);refine Zc.g (a') (Wb (Ξ aL (Ξ ba t)) ?_)
   first|omega|(refine⟨J,?_⟩;simp[Lh]))
  refine Χ ?_;rw[<-Lh];exact W.ret ⟨_,U,G.set k ⟨g.name,m⟩,aK,by rw[Lj,t];rfl,U,by rw[M];exact aG.set ae aN l1 (a8 P.1),by rw[Lj];omega,a9⟩
 refine Χ ?_;exact W.ret ⟨_,U,G,w,by rw[t];rfl,U,aG,J,X⟩
def o0(d)(hd:d.Z4.length<2 ^ 63)(c)(k:1<=c)(l:c<=6){σ K E}(m:σ[0]?=some (ZS d))
  (n:∀G b,Tr G->G.length<=c->b.Z4.length<=d.Z4.length->K (.ms σ.length G.length 0 G.length) (σ.set 0 (ZS b)++[.cells 92 2 (G.map X4)])) :
  Yi Tryz.prog (.fn (.func 204) [] []) [.Ο 0 1 0 0,I c] σ K E:=by
 have p:=Ν.Ec (o1 d hd c k l) [0] o U (λj i f=>by
  cases j with
  | zero=>simp at f;subst f;exact m
  | succ j=>simp at f) (λr e=>by simp at e;subst e;exact TV d) (by
   intro a g;simp at g;rcases g with rfl|rfl
   .exact OF
   .exact(ω.z _).U' 1) (E':=E) (λa s=>by
   rintro⟨G,b,rfl,rfl,t,u,v⟩;refine⟨λr e=>?_,?_,?_⟩
   .simp[XW]at e;rcases e with rfl|rfl
    .exact .inl (TV b)
    exact .inl FJ
   .show 1<_;simp
   have w:Ss σ [0] [ZS b,.cells 92 2 (G.map X4)]=σ.set 0 (ZS b)++[.cells 92 2 (G.map X4)]:=by
    simp[Ss,VC]
   have Υ:Yt (names [0] σ.length [ZS b,.cells 92 2 (G.map X4)]) (.ms 1 G.length 0 G.length)=.ms σ.length G.length 0 G.length:=by
    simp[Yt,WE,names]
   rw[w,Υ];exact n G b t u v) (λa s h=>h.elim)
 exact Ν.call (by simpa[TW,Yt,WE] using p)
end Go.TL
