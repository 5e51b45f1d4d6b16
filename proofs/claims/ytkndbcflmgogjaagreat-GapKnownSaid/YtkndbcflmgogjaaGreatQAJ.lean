import Derived.Conc.HoldsTime
import Derived.Test.YtkndbcflmgogjaaGreatQAI
import Derived.Test.YtkndbcflmgogjaaGreatRows
set_option maxHeartbeats 16000000
set_option maxRecDepth 20000
set_option linter.unusedSectionVars false
set_option linter.unusedSimpArgs false
set_option linter.unusedVariables false
namespace Go.TL
open Go.Proofs.Tryz
open Go.Conc Go.Proofs
open Go.ConcN (sumTo upd sumTo_upd upd_ne upd_same sumTo_congr le_sumTo)
variable [Z1]
section
variable {P:Program} {Q:Value->Prop} {mn:Bool} {y:Z5} {f f' b:Frame} {cs cs':Y3} {H:Υ} {t:ν} {k:ZA} {ops:ZI} {i:Nat} {rest:κ} {op:Oper}
theorem ZE.quiet (a:X4 y) (b:∀w,stepG P mn (Go.Conc.G f cs) w=.go (Go.Conc.G f' cs') w #[]) (h:ZE P Q mn y f' cs' H):ZE P Q mn y f cs H:=
 Quiet.goes (.cons ⟨U,U⟩ b (.nil _)) a ⟨U,U⟩ h
theorem ZE.next (a:X4 y) (d:b.mode=.run) {id:Nat} {e:ZI} {c:Code} (h:ZE P Q mn y (χ b t (.inRegion e (List.range e.size)::.code c::k)) cs H):ZE P Q mn y (χ b t (.inRegion ops []::.code (.seq (.region id e false) c)::k)) cs H:=
 .quiet a (λw=>(Vl d w).trans U) (.quiet a (λw=>(Vl d w).trans U) (.quiet a (λw=>(Vl d w).trans U) h))
theorem ri {a:TypeId} {b:TypeInfo} {z:Value} (hi:P.info? a=some b) (c:b.zero=some z) (w:World) :
  (Instr.alloc a true (.tuple #[])).run P w=.ok (ptr w.heap.size 0) (w.alloc (.cells z.cells a (0,0)))/\∀es,(Instr.alloc a true (.tuple #[])).events P w es=es:=by
 constructor
 .simp[Instr.alloc,zeroValue,typeInfo,newVar,newRow,hi,c,Result.andThen]
 .intro es;simp[Instr.alloc,zeroValue,typeInfo,newVar,newRow,hi,c,Result.andThen,Result.evThen]
theorem ZE.JC {d:TypeId} {m:TypeInfo} {z:Value} (D:y.rel=false) (f:TA b ops i op) (E:op.op=.alloc d) (F:op.guard=none) (hi:P.info? d=some m) (I:m.zero=some z)
  (h:∀r,H.fresh r->(∀c v,y.Z8 c=some v->c<r)->ZE P Q mn {y with Z8:=upd y.Z8 r (some (z.cells,d))} (χ b (put op t (ptr r 0)) (.inRegion ops rest::k)) cs H):ZE P Q mn y (χ b t (.inRegion ops (i::rest)::k)) cs H:=by
 refine Goes.step (X4.ok (.inl D)) (.inr ⟨⟨U,U⟩,.inl λw n hv=>?_⟩);obtain⟨s,J⟩:=ri (P:=P) hi I w;have K:Region.wanted op (yielded ops t)=true:=by unfold Region.wanted;rw[F]
 have L:stepG P mn (Go.Conc.G (χ b t (.inRegion ops (i::rest)::k)) cs) w=.go (Go.Conc.G (χ b (put op t (ptr w.heap.size 0)) (.inRegion ops rest::k)) cs) (w.alloc (.cells z.cells d (0,0))) #[]:=by
  have e:execOp (ZW t) op=(do pure (.value (<-Instr.alloc d true (.tuple #[])))):=by unfold execOp;rw[E]
  rw[Xn f.run f.ro,Xn f.run f.ro,<-OM];have M:(execOp (⟨t,b.defers⟩:_root_.Go.Act).eval op).run P w=.ok (.value (ptr w.heap.size 0)) (w.alloc (.cells z.cells d (0,0))):=by rw[UY,e];simp[s,Result.andThen]
  have g:(execOp (⟨t,b.defers⟩:_root_.Go.Act).eval op).events P w #[]=#[]:=by rw[UY,e];simp[s,J,Result.evThen]
  rw[stepG_value f.op K f.kd M];unfold listed;rw[g,seen_none]
 rw[L];have u:=(Yy.start n).row z.cells d;have j:Υ.fresh H w.heap.size:=n.fresh;have N:Sub H (H.YH w.heap.size z.cells d):=by
  refine⟨λc o v p a=>⟨p,?_,id⟩,λc x a=>?_,λc x a=>a⟩
  .have:c≠w.heap.size:=λe=>by rw[e,j.1 o] at a;cases a
   simpa[Υ.YH,this] using a
  .have:c≠w.heap.size:=λe=>by rw[e,j.2.1] at a;cases a
   simpa[Υ.YH,this] using a
 have A:∀c v,y.Z8 c=some v->c<w.heap.size:=λc v a=>by
  have:=hv c v.1 v.2 a;exact(Tr.1 this).1
 refine⟨H,upd y.Z8 w.heap.size (some (z.cells,d)),⟨U,U⟩,u.keeps,N.fits u.fit,λc c' t' a=>?_,⟨λc o v p a=>.inr ⟨v,p,a,id⟩,λc a=>.inr a⟩,λc c' a=>?_,λe g=>by simp at g,λc c' _ _ e g=>by simp at g,h _ j A⟩
 .by_cases e:c=w.heap.size
  .subst e;rw[upd_same] at a;cases a;exact Is
  .rw[upd_ne _ _ e] at a;have B:=hv c c' t' a;have C:=A c _ a;show(w.heap.push _)[c]?=_;rw[Array.getElem?_push_lt C];rw[YS C] at B;exact B
 .by_cases e:c=w.heap.size
  .exact .inr ⟨Nat.le_of_eq e.symm,⟨λo ⟨x,l⟩=>(by rw[e,j.1 o] at l;cases l),λ⟨x,l⟩=>(by rw[e,j.2.2.1] at l;cases l)⟩⟩
  .rw[upd_ne _ _ e] at a;exact .inl a
theorem Aa {B:Type} {s:Nat}:upd (λ_=>(none:Option B)) s none=λ_=>none:=by
 funext i
 by_cases e:i=s
 .subst e;exact upd_same ..
 .exact upd_ne _ _ e
theorem ZE.group {sp:Spec} {s m o:Nat} {k l g:TypeId} {c:ν} (n:y.rel=false) (D:y.Z8=λ_=>none) (E:m<s) (F:s<o) (t:sp.ZS=some m) (j:H.fresh o) (J:sp.X1 [] (Υ.empty.YH o c g))
  (h:y.tok s=.nil->ZE P Q mn {y with tok:=upd y.tok s (.par 0 0 .add),spec:=upd y.spec s (some sp),view:=upd y.view s none} f cs H) :
  ZE P Q mn {y with Z8:=upd (upd (upd y.Z8 m (some (#[.int .i32 0,.int .u32 0],l))) s (some (#[.int .u64 0,.int .u32 0],k))) o (some (c,g))} f cs H:=by
 have u:s≠o:=Nat.ne_of_lt F
 have w:m≠o:=I
 have A:m≠s:=Nat.ne_of_lt E;refine Goes.step (X4.ok (.inl n)) (.inr ⟨⟨U,U⟩,.inr (.inr (.inr (.inr (.inr (.inr (.inr (.inr (.inr (.inr (.inl ⟨o,c,g,upd_same ..,?_⟩))))))))))⟩);refine Goes.step (X4.ok (.inl n)) (.inr ⟨⟨U,U⟩,.inr (.inr (.inr (.inr (.inr (.inr (.inr (.inr (.inr (.inr (.inr ⟨s,sp,k,H,Υ.empty.YH o c g,?_,λN B=>?_,n,?_,λ_=>J,λK=>?_⟩))))))))))⟩)
 .show upd (upd _ o _) o none s=_;rw[upd_ne _ _ u,upd_ne _ _ u,upd_same]
 .rw[t] at B;cases B;refine⟨A,l,?_⟩;show upd (upd _ o _) o none m=_;rw[upd_ne _ _ w,upd_ne _ _ w,upd_ne _ _ A,upd_same]
 .refine⟨⟨λa q v p b=>⟨p,?_,id⟩,λa x b=>?_,λa x b=>b⟩,⟨λa q v p b=>⟨p,?_,id⟩,λa x b=>?_,λa x b=>(by cases b)⟩,⟨λa q ⟨v,hv⟩ ⟨x,d⟩=>?_,λa q ⟨v,hv⟩ ⟨x,d⟩=>?_,λa _ ⟨x,d⟩=>(by cases d)⟩⟩
  .have:a≠o:=λe=>by rw[e,j.1 q] at b;cases b
   simpa[this] using b
  .have:a≠o:=λe=>by rw[e,j.2.1] at b;cases b
   simpa[this] using b
  .by_cases e:a=o
   .simpa[Υ.YH,e] using b
   .simp[Υ.YH,e,Υ.empty] at b
  .by_cases e:a=o
   .simpa[Υ.YH,e] using b
   .simp[Υ.YH,e,Υ.empty] at b
  .by_cases e:a=o
   .rw[e,j.1 q] at hv;cases hv
   .simp[Υ.YH,e,Υ.empty] at d
  .by_cases e:a=o
   .rw[e,j.1 q] at d;cases d
   .simp[Υ.YH,e,Υ.empty] at hv
 .have e:(λa=>if a=s\/sp.ZS=some a then none else upd (upd (upd (upd y.Z8 m (some (#[.int .i32 0,.int .u32 0],l))) s (some (#[.int .u64 0,.int .u32 0],k))) o (some (c,g))) o none a)=y.Z8:=by
   funext a
   rw[D];by_cases i:a=s\/sp.ZS=some a
   .rw[if_pos i]
   .rw[if_neg i];rw[t] at i;have L:a≠s:=λe=>i (.inl e);have M:a≠m:=λe=>i (.inr (by rw[e]));by_cases r:a=o
    .rw[r,upd_same]
    .rw[upd_ne _ _ r,upd_ne _ _ r,upd_ne _ _ L,upd_ne _ _ M]
  have C:Goes P Q mn (Go.Conc.G f cs) {y with G:=H,Z8:=y.Z8,tok:=upd y.tok s (.par 0 0 .add),spec:=upd y.spec s (some sp),view:=upd y.view s none}:=h K;rw[<-e] at C;exact C
theorem ZE.FG {s n p:Nat} {sp:Spec} {g:FuncId} {d:ν} (h:y.rel=false) (j:y.deaf=0) (l:y.spec s=some sp) (m:y.tok s=.par n (p+1) .add) (c:TA b ops i op) (o:op.guard=none) {f:Operand} {ts:Array TypeId} (r:op.op=.go ⟨.value f,#[],ts⟩) (u:op.dst=none)
  (hv:ZW t f=.func (.func g) #[] d) {S:ς} (v:Holds S [] [] H) (x:ZE P Q mn {y with tok:=upd y.tok s (.par n p .add),view:=upd y.view s none} (χ b t (.inRegion ops rest::k)) cs (St S H))
  (A:Goes P Q false (born P ⟨.fn (.func g) d,#[]⟩) {ZU (Ve s sp) s (.ch (n-(p+1)) .idle .work) none 0 with G:=Vf S}):ZE P Q mn y (χ b t (.inRegion ops (i::rest)::k)) cs H:=by
 have B:Region.wanted op (yielded ops t)=true:=by unfold Region.wanted;rw[o]
 have C:∀w,stepG P mn (Go.Conc.G (χ b t (.inRegion ops (i::rest)::k)) cs) w=.spawn (Go.Conc.G (χ b t (.inRegion ops rest::k)) cs) (born P ⟨.fn (.func g) d,#[]⟩) w #[]:=λw=>by
  have e:execOp (ZW t) op=(do pure (.spawn (<-Deferred.ofValue (ZW t f) (#[].map (ZW t))))):=by unfold execOp;rw[r];rfl
  rw[Xn c.run c.ro,Xn c.run c.ro];have D:(execOp (⟨t,b.defers⟩:_root_.Go.Act).eval op).run P w=.ok (.spawn ⟨.fn (.func g) d,#[]⟩) w:=by rw[UY,e,hv];simp[Deferred.ofValue,Result.andThen]
  have E:(execOp (⟨t,b.defers⟩:_root_.Go.Act).eval op).events P w #[]=#[]:=by rw[UY,e,hv];simp[Deferred.ofValue,Result.andThen,Result.evThen]
  rw[stepG_spawn (a:=⟨t,b.defers⟩) c.op B c.kd D U];have:(⟨t,b.defers⟩:_root_.Go.Act).put op.dst undef=⟨t,b.defers⟩:=by rw[u];rfl
  rw[this];unfold listed;rw[E,seen_none]
 refine Goes.step (X4.ok (.inl h)) (.inr ⟨⟨U,U⟩,.inr (.inr (.inr (.inr (.inr (.inr (.inr (.inr (.inl ⟨s,sp,n,p,Go.Conc.G (χ b t (.inRegion ops rest::k)) cs,born P ⟨.fn (.func g) d,#[]⟩,St S H,Vf S,l,m,j,⟨U,U⟩,⟨U,U⟩,h,λw _=>C w,rA v,x,?_⟩))))))))⟩);have e:({ZU (Ve s sp) s (.ch (n-(p+1)) .idle .work) none 0 with G:=Vf S}:Z5)=⟨Vf S,λ_=>none,upd (λ_=>.nil) s (.ch (n-(p+1)) .idle .work),upd (λ_=>none) s (some sp),λ_=>none,0,false⟩:=by
  unfold ZU;simp only[Aa]
 rw[<-e];exact A
end
end Go.TL
namespace Go.TL
open Go.Proofs.Tryz
open Go.Conc Go.Proofs
open Go.ConcN (sumTo upd sumTo_upd upd_ne upd_same sumTo_congr le_sumTo)
noncomputable def Ld:Code:=f141.body.getD .skip
noncomputable def z':Code:=YP [1,1,1,1,0,1,0,0,1,1,0,0,1,1,0,0,1,1,0,0,1] Ld
noncomputable abbrev GB (vs:ν):Frame:=Frame.enter prog 141 vs .normal
abbrev env0 (s m o:Nat) (a:Y6) (rest:Β):Β:=(5,.z (ptr o 0))::(4,.z (ptr s 0))::(3,.z (ptr m 0))::(1,XP a)::rest
abbrev Lc (s m o:Nat) (c:Y6) (a b:Int) (rest:Β):Β:=(7,.Ν [J b])::(6,.Ν [J a])::env0 s m o c rest
structure GA (a:Y6) (fd:Nat->Option Found) (pr:Nat->Int×Int) (F:Nat->Found) (N:Nat->Nat):Prop where
 look:∀k,k<3->∀c:Z1,@Τ c prog 182 [Wr a,Zb (pr k)] (YE (F k))
 many:∀k,k<3->∀c:Z1,@Τ c prog 183 [YE (F k),J (-1)] (J (N k))
 fd:∀k,fd k=if k<3/\0<N k then some (F k) else none
theorem GA.XM {a:Y6} {fd:Nat->Option Found} {pr:Nat->Int×Int} {F:Nat->Found} {N:Nat->Nat} (h:GA a fd pr F N) (L:κ) (b:L.Nodup):(L.filterMap fd).length<=3:=by
 have c:L.filterMap fd=(L.filter (· < 3)).filterMap fd:=by
  rw[List.filterMap_filter];congr 1
  funext k
  by_cases e:k<3
  .simp[e]
  .simp[e,h.fd k]
 rw[c];refine RH (FZ ..) ?_;have d:(L.filter (· < 3)).Nodup:=b.filter _;exact CD 3 _ d λk f=>by simpa using (To.1 f).2
variable [Z1]
theorem V.boxed {P:Program} {p:Value->Prop} {mn:Bool} {z:Wv} {b:Frame} {cs:Y3} {nt:Nat} {o:Base} {k:ZA} {env:Β} {σ:Ρ} {ops:ZI} {i:Nat} {rest:κ} {g:Oper}
  (x:Seq z) (y:b.mode=.run) (A:b.roundOf=none) (C:ops[i]?=some g) (D:g.guard=none) {f:TypeId} {d:Operand} (E:g.op=.box f d) {l:ψ} (F:ο env d=.Z6 l) (I:l.all (Ψ.YW [])=true) (J:0<l.length)
  (h:∀(S:ς) (B:δ) (H:Υ) (t:ν) (r:Nat) (c:ν),Xw o.m o.S o.B o.H o.σ S B H σ->XR o.m nt S B H σ env t->H.fresh r->(∃v,(S.lay r c) r 0=some v)->ZJ S (S.lay r c) B B σ σ->Ext S B H (S.lay r c) B (H.YH r c f)->Holds (S.lay r c) B σ (H.YH r c f)->Θ (S.lay r c) B σ (.Ν l) (ptr r 0)->
   μ P p mn z (χ b (put g t (ptr r 0)) (.inRegion ops rest::k)) cs (H.YH r c f)):V P p mn z b cs nt o (.inRegion ops (i::rest)::k) env σ:=by
 intro S B H t K j;refine .op x y C (by unfold Region.wanted;rw[D]) (.inl A) ?_;have e:execOp (ZW t) g=(do pure (.value (<-Instr.box f (ZW t d)))):=by unfold execOp;rw[E]
 have n:=TH j.Zt d;rw[F] at n;rw[e];refine Χ.bind' ?_;unfold Instr.box;refine Χ.bind' ?_;unfold newVar newRow;have s:=LS (σ:=σ) I;have L:=(n.cells (a:=.Z6 l) s).1;refine Χ.bind' ⟨U,λr u=>Χ.pure' (Χ.pure' (Χ.pure' ?_))⟩;obtain⟨M,N,w⟩:=j.holds.lay (c:=(ZW t d).cells) (t:=f) u;have O:0<(ZW t d).cells.size:=by rw[L];exact J
 exact h S B H t r _ K j u ⟨(ZW t d).cells[0],by simp[ς.lay,O]⟩ w N M (Cn w (Xo.one n s))
section
variable {y:Z5} {Q:Value->Prop} {mn:Bool} {β s m o n:Nat} {Y8:ς} {H1:Υ} {fd:Nat->Option Found} {pr:Nat->Int×Int} {F:Nat->Found} {N:Nat->Nat} {sp:Spec} {Xf:Y6} {v:Option (Nat×γ)} {vs:ν} {cs:Y3} {k:ZA} {rest:Β}
theorem Ee {a b:Int} (T:pr n=(a,b)) (f:UW y s sp) (ad:sp.ZS=some m) (ae:sp.X1=My β Y8 o fd) (af:∀k,sp.D k Υ.empty) (aP:sp.top=3) (K:n<3) (j:GA Xf fd pr F N) (ag:∃q v,Y8 β q=some v) (ah:∃q x,H1.ω β q=some x) (ai:∀p∈rest,p.1∉[16,15,7,6,5,4,3,1]/\ι rest p.1=p.2)
  (aj:V prog Q mn (one (ZU y s (.par (n+1) 0 .add) none 0)) (GB vs) cs 23 ⟨Y8,[],H1,[],0⟩ k ((6,.Ν [J a])::env0 s m o Xf rest) []) :
  V prog Q mn (one (ZU y s (.par n 0 .add) v 0)) (GB vs) cs 23 ⟨Y8,[],H1,[],0⟩ (.code z'::k) (Lc s m o Xf a b rest) []:=by
 letI:Z1:=Yo;obtain rfl:a=(pr n).1:=by rw[T]
 obtain rfl:b=(pr n).2:=by rw[T]
 have w:=f.seq;refine V.YA (w _ _ _) U ?_;simp only[z',Ld,f141,Option.getD_some,YP];refine ZO ?_;refine W.Zs (.stop ?_);refine V.call (w _ _ _) ⟨U,U,by simp[Frame.enter],U⟩ U U U ⟨_,func72,U,U⟩ λS B H t aQ ak c hv=>?_;obtain rfl:=Wq (l:=[ptr s 0,.int .i64 1]) hv;obtain rfl:B=[]:=YZ.1 c.holds.len;rintro al rfl;refine Ar f I c.holds λaR X aS Y am=>?_;rw[V4 U];have Z:ZJ S X [] [] [] []:=⟨Y.Zf,λid r h=>by simp at h⟩;refine V.here (x:=one _) (m:=0) (nt:=23) (S:=X) (B:=[]) (σ:=[]) (env:=(15,.z (.tuple #[]))::Lc s m o Xf (pr n).1 (pr n).2 rest) ?_ ⟨am,Zg.later (Zg.put c.Zt (d:=15) (by rw[c.size];omega) (.z (.tuple #[]))) Z,X' (Vx ..) c.size,Ζ _⟩ _ U;refine V.YA (w _ _ _) U ?_;refine W.ZM ?_;refine W.Zs ?_;refine XN [0] [1] ?_;refine W.stop ?_;intro A an ao t3 ap e;obtain rfl:an=[]:=YZ.1 e.holds.len;rintro al rfl;have M:=e.Zt 16;simp only[ι,if_true] at M;obtain⟨aT,aa⟩:=Z' (t3.getD 16 undef);rw[<-aa] at M;have O:Xw 0 Y8 [] H1 [] A [] ao []:=ak.trans ((Xw.of Y Z).trans ap);cases M with
 | fn w1 aq ar au aU C=>
  have av:w1=#[]:=Pj (by rw[<-ar];rfl);subst av;obtain⟨l2⟩:=aq
  match l2,au with
  | [ab,aw,ax,ay,az,aA],_=>
   have aB:ab=ptr s 0:=by have:=C 0 _ _ U U;cases this;rfl
   have aC:az=ptr m 0:=by have:=C 4 _ _ U U;cases this;rfl
   have aD:aA=ptr o 0:=by have:=C 5 _ _ U U;cases this;rfl
   subst aB;subst aC;subst aD;have aE:XQ A [] [] (Eg s m o Xf (pr n).1 (pr n).2) (GD s m o aw ax ay):=⟨U,λi a v E P=>C i a v E P⟩;refine ZE.FG (s:=s) (n:=n+1) (p:=0) (sp:=sp) f.rel U f.spec Zp ⟨U,U,by simp[Frame.enter],U⟩ U U U aa.symm (S:=A) e.holds ?_ ?_
   .rw[WK];have aF:=Ai e.holds;have aG:∀g:Ψ,∀p∈(6,.Ν [J (pr n).1])::env0 s m o Xf rest,ι ((16,g)::(15,.z (.tuple #[]))::Lc s m o Xf (pr n).1 (pr n).2 rest) p.1=p.2:=λg p c=>by
     simp only[env0,Yd] at c;rcases c with rfl|rfl|rfl|rfl|rfl|c<;>first|rfl|skip
     obtain⟨E,P⟩:=ai p c;simp only[Yd,Vw,or_false,not_or] at E;obtain⟨c1,c2,aH,aI,aJ,aK,aL,aM⟩:=E;simp only[ι,YV c1,YV c2,YV aH,YV aI,YV aJ,YV aK,YV aL,YV aM,if_false];exact P
    refine V.YA (w (.par (n+1) 0 .add) none 0) U (W.ZM (W.forget ((6,.Ν [J (pr n).1])::env0 s m o Xf rest) (aG _) (.stop aj))) A [] _ t3 (O.trans (Xw.of aF (ZJ.refl ..))) ⟨rz e.holds,e.Zt,e.size,Ζ _⟩ _ U
   .refine rm ad I ae (af _) (j.look n K) (j.many n K) ?_ (λL aN=>?_) ?_ (λb q u R=>?_) aE
    .show fd n=_;rw[j.fd n];simp[K]
    .rw[SJ];have:=j.XM L aN;omega
    .obtain⟨q,u,R⟩:=ag;exact⟨q,u,O.ext.Zf _ _ _ R⟩
    .obtain⟨aV,ab,aO⟩:=ah;rcases O.ext.TJ b q u R with h|⟨N,h⟩|h
     .exact .inl (by rw[h];simp)
     .simp at h
     .exact .inr (Lf aO h)
end
end Go.TL
namespace Go.TL
open Go.Proofs.Tryz
open Go.Conc Go.Proofs
open Go.ConcN (sumTo upd sumTo_upd upd_ne upd_same sumTo_congr le_sumTo)
structure Calm (T:Nat->Option (Tok×Spec)) (y:Z5):Prop where
 rel:y.rel=false
 Z8:y.Z8=λ_=>none
 deaf:y.deaf=0
 own:∀s,(T s=none/\XE (y.tok s))\/∃sp,T s=some (y.tok s,sp)/\y.spec s=some sp/\Tg (y.tok s)/\¬XE (y.tok s)
def calm (T:Nat->Option (Tok×Spec)):Wv:=Calm T
@[reducible] def XA:Z1:=⟨λx=>∃T,x=calm T⟩
theorem Calm.still {T:Nat->Option (Tok×Spec)} {y:Z5} (h:Calm T y) (s:Nat):Tg (y.tok s):=by
 rcases h.own s with⟨_,a⟩|⟨_,_,_,a,_⟩
 .cases b:y.tok s with
  | nil=>trivial
  | par n p c=>rw[b] at a;cases c<;>first|trivial|exact a.elim
  | ch k d g=>rw[b] at a;exact a.elim
 .exact a
theorem Calm.none {T:Nat->Option (Tok×Spec)} {y:Z5} (h:Calm T y) {s:Nat} (b:XE (y.tok s)):T s=none:=by
 rcases h.own s with⟨a,_⟩|⟨_,_,_,_,a⟩
 .exact a
 .exact absurd b a
theorem Calm.bare {y:Z5} (h:Calm (λ_=>Option.none) y) (s:Nat):XE (y.tok s):=by
 rcases h.own s with⟨_,a⟩|⟨_,a,_⟩
 .exact a
 .cases a
variable [Z1]
def OG (x y:Found):Int:=QK (x.u,x.v) (y.u,y.v)
def RY (x y:Found):Prop:=x.u<y.u\/(x.u=y.u/\x.v<y.v)
theorem rh (x y:Found):Zm OG x y=true↔RY x y:=by
 have h:=ON (x.u,x.v) (y.u,y.v)
 have e:Zm OG x y=Zm QK (x.u,x.v) (y.u,y.v):=rfl;rw[e,h];simp[RY]
theorem rf:Go.Sort.SWO (Zm OG) where
 irrefl x:=G8.irrefl (x.u,x.v)
 trans x y z:=G8.trans (x.u,x.v) (y.u,y.v) (z.u,z.v)
 ntrans x y z:=G8.ntrans (x.u,x.v) (y.u,y.v) (z.u,z.v)
instance:Inhabited Found:=⟨⟨0,0,[]⟩⟩
theorem re {m:WN} (h:m.Pairwise RY):∀a∈m,∀b∈m,¬RY a b->¬RY b a->a=b:=by
 induction h with
 | nil=>intro a c;cases c
 | cons d o l=>
  intro a c b n e f;rcases Yd.1 c with g|i<;>rcases Yd.1 n with j|k
  .rw[g,j]
  .exact absurd (g▸d b k) e
  .exact absurd (j▸d a i) f
  .exact l a i b k e f
theorem rb {l m:WN} (r:l.Perm m) (e:m.Pairwise RY):(Go.Sort.insertionSort (Zm OG) l.toArray 0 l.length).toList=m:=by
 obtain⟨⟨f,_,c⟩,g⟩:=Go.Sort.insertionSort_holds (lt:=Zm OG) rf l.toArray 0 l.length (Ζ _) Ω;generalize Go.Sort.insertionSort (Zm OG) l.toArray 0 l.length=d at f c g;have n:d.size=l.length:=by simpa using f
 have s:d.extract 0 l.length=d:=by rw[<-n];exact Array.extract_size
 have t:l.toArray.extract 0 l.length=l.toArray:=by
  simp
 rw[s,t] at c;have o:d.toList.Perm m:=c.trans r;have u:∀x y,Zm OG x y=false↔¬RY x y:=λx y=>by rw[<-rh];simp
 refine I7 (le:=λx y=>¬RY y x) (λa b v w A B=>?_) ?_ (e.imp λ{a b} h k=>?_) o
 .exact re e a (o.mem_iff.1 v) b w B A
 .rw[I9];intro i j hi p C;have:=g i j (Ζ _) C (by simpa[n] using p);rw[u] at this;rw[getElem!_pos d j (by simpa using p),getElem!_pos d i (by simpa using hi)] at this;simpa using this
 .simp only[RY] at h k;omega
theorem Ed {a:Nat->Υ->Prop} (b:∀k E,a k E->E=Υ.empty):∀(L:κ) (E:Υ),TO a L E->E=Υ.empty:=by
 intro L
 induction L with
 | nil=>intro E h;exact h
 | cons k i c=>
  rintro E ⟨d,e,f,g,_,rfl⟩;rw[b k d f,c e g];exact M9 _
end Go.TL
namespace Go.TL
open Go.Proofs.Tryz
open Go.Conc Go.Proofs
open Go.ConcN (sumTo upd sumTo_upd upd_ne upd_same sumTo_congr le_sumTo)
abbrev Gz:Ψ:=.fn (.func 185) [] []
theorem ra [Z1] (x y:Found):WY prog Gz [YE x,YE y] (J (OG x y)):=λσ=>(ug x y).c (Zw.refl _) Ω Ω ⟨rfl,rfl⟩
section
variable {y:Z5} {Q:Value->Prop} {mn:Bool} {β s m o:Nat} {UU Y8:ς} {W7 H1:Υ} {fd:Nat->Option Found} {sp:Spec} {Xf:Y6} {v:Option (Nat×γ)} {vs:ν} {c:Frame} {cs:Y3} {T:Nat->Option (Tok×Spec)}
theorem q' (Z:UW y s sp) (an:sp.ZS=some m) (ao:sp.X1=My β Y8 o fd) (ap:∀k E,sp.D k E->E=Υ.empty) (aq:∀L:κ,L.Nodup->(L.filterMap fd).length<=3) {d:WN} (ar:(List.range 3).filterMap fd=d) (au:d.Pairwise RY)
  (av:∀v,Calm T (ZU y s (.par 3 0 .YG) v 0)) (aw:MS prog Q mn (calm T) c cs UU [] W7 [] (λa s=>Yx a (Vs d)/\s=[]) (λ_ _=>False)) (ax:Ext UU [] W7 Y8 [] H1) (ay:W7.fresh β) :
  V prog Q mn (one (ZU y s (.par 3 0 .add) v 0)) (GB vs) (c::cs) 23 ⟨Y8,[],H1,[],0⟩ [.code (YP [1,1,1,1,1] Ld)] (env0 s m o Xf []) []:=by
 letI:Z1:=Yo;have F:=Z.seq;refine V.YA (F _ _ _) U ?_;simp only[Ld,f141,Option.getD_some,YP];refine ZO ?_;refine W.Zs (.stop ?_);refine V.call (F _ _ _) ⟨U,U,by simp[Frame.enter],U⟩ U U U ⟨_,func80,U,U⟩ λS B H t a4 g A hv=>?_;obtain rfl:=Wq (l:=[ptr s 0]) hv;obtain rfl:B=[]:=YZ.1 A.holds.len;rintro az rfl;refine Ep Z A.holds (n:=3) λS' H' aA aa aB a5 C ab a6 aC aD a7 a8 aE a9 aF aG a' aH M=>?_;rw[V4 U];obtain rfl:=Ed ap aA aB aC;rw[M9] at M;obtain⟨ad,ae⟩:=aD (by rw[an];simp);rw[ao] at ae;obtain⟨hi,J,K,O,aI⟩:=ae;obtain⟨w,f1,f2,f3⟩:=aF;obtain⟨G,P⟩:=Z' (aa.filterMap fd);have R:G.Perm d:=by rw[P,<-ar];exact ad.filterMap _
 have ba:G.length<=3:=by rw[P];exact aq aa (ad.nodup_iff.2 List.nodup_range)
 rw[<-P] at O;obtain⟨aJ,l1,l2⟩:=Ej ab O aE ⟨w,f1,f3⟩ (GF _);have aK:=Af (ax.trans (g.ext.trans C)) (g.ext.trans C).Zf ay hi ab O (GF _);obtain⟨aL,aM⟩:=aJ.QV (λb aN=>M.QV aN) M.grow;have aO:=aK.trans aM;have aP:t.getD 5 undef=ptr o 0:=by
  have:=A.Zt 5;simp only[ι] at this;generalize t.getD 5 undef=u at this;cases this;rfl
 have aQ:Zg (S'.plus J) K (WV (G.map YE)) [(5,.π 0 1 0 0)] (t.setIfInBounds 19 (.tuple #[])):=λi=>by
  simp only[ι];split
  .rename_i e;subst e;have aR:(t.setIfInBounds 19 (.tuple #[])).getD 5 undef=ptr o 0:=by
    rw[<-aP,Wn,Wn,UK Z7]
   rw[aR];have:=Θ.π (S:=S'.plus J) (B:=K) (σ:=WV (G.map YE)) (id:=0) (n:=1) (i:=0) (j:=0) (k:=1) (t:=166) (l:=[OH (G.map YE)]) (b:=o) (N:=1) (by simp[WV]) U aI;simpa using this
  .exact .Zx _
 refine V.here (x:=one _) (m:=0) (nt:=23) (S:=S'.plus J) (B:=K) (σ:=WV (G.map YE)) (env:=[(5,.π 0 1 0 0)]) ?_ ⟨aL,aQ,X' (Vx ..) A.size,Ζ _⟩ _ U;have af:∀(e:Bool) (k:Nat),Yx (.sl e k (d.map YE)) (Vs d)->V prog Q mn (one (ZU y s (.par 3 0 .YG) aG 0)) (GB vs) (c::cs) 23 ⟨S'.plus J,K,aH,WV (G.map YE),0⟩ [.code .ret] [(2,.sl e k (d.map YE))] []:=λe k aS=>by
  intro bb aT bc t5 aU X;obtain rfl:aT=[]:=YZ.1 X.holds.len;refine μ.ret (F _ _ _) U U (μ.back (F _ _ _) U U (.inl U) func141 ?_);refine Χ.mono (λu aV ⟨aW,aX,aY,bd,ag,aZ⟩=>?_) (λ_ _ h=>h) _ (MQ Ο (a:=.sl e k (d.map YE)) U X.holds X.Zt);obtain rfl:aX=[]:=YZ.1 ag.len;rintro az rfl;have ah:=aO.trans (aU.ext.trans aY);exact aw.ret _ [] aW [] aV u ⟨aS,U⟩ ah ⟨ah.Zf,λid r h=>by simp at h⟩ ag aZ _ (av _)
 refine V.YA (F _ _ _) U ?_;refine W.ZM ?_;have a0:∀e∈G.map YE,∀a∈e.cells,η 0 a:=λe C a g=>by
  obtain⟨z,_,rfl⟩:=Zh.1 C;exact Lu z a g
 by_cases ai:G=[]
 .subst ai;have a1:d=[]:=R.symm.eq_nil;subst a1;refine ZO ?_;refine YF λY f=>?_;simp;(repeat (rw[Η];simp[WV,Eh,PO]));refine Τ.c (tl Gz Ω) (Zw.refl _) Ω Ω ?_;simp;(repeat (rw[Η];simp));apply f;refine υ λY f=>?_;apply f;refine W.cut 0 (Ζ _) [(2,.sl true 0 [])] (Ζ _) (λid r h=>I) (by simp;exact .low Ω) ?_;exact .stop (af _ _ .nil)
 .have aj:G.map YE≠[]:=by simpa using ai
  have a2:=rb R au;refine ZO ?_;refine YF λY f=>?_;simp;(repeat (rw[Η];simp[WV,GG aj,Sx aj]));have ak:=tV G.toArray G.length Ω I Gz OG Ω ra;rw[a2] at ak;have a3:d.length=G.length:=R.length_eq.symm;have al:η 0 Gz:=Ω;have am:∀e∈d.map YE,∀a∈e.cells,η 0 a:=λe C a g=>by
   obtain⟨z,_,rfl⟩:=Zh.1 C;exact Lu z a g
  refine Μ.one ak 1 U a0 am (by simp[T9,OT,al.PT 1]) (by simp[WR]) (by simp[T8,OS,al.X5 [1]]) ?_;simp[X5,V1];(repeat (rw[Η];simp));apply f;refine υ λY f=>?_;apply f;refine W.cut 0 (Ζ _) [(2,.sl false 3 (d.map YE))] (Ζ _) (λid r h=>I) (λp A=>?_) ?_
  .obtain rfl:p=(2,.sl false 3 (d.map YE)):=by simpa using A
   refine Y0.own (id:=1) (t:=173) (Ζ _) U (by simp[a3]) am
  .exact .stop (af _ _ (.refl _))
end
theorem JB {P:Program} {b:TypeId} {z:Value} (h:((P.info? b).bind (·.zero))=some z):∃a,P.info? b=some a/\a.zero=some z:=by
 cases hi:P.info? b with
 | none=>rw[hi] at h;cases h
 | some a=>rw[hi] at h;exact⟨a,rfl,h⟩
theorem z9:((prog.info? 136).bind (·.zero))=some (.agg #[.int .i32 0,.int .u32 0]):=by kernel_rfl
theorem z8:((prog.info? 142).bind (·.zero))=some (.agg #[.int .u64 0,.int .u32 0]):=by kernel_rfl
theorem q9:((prog.info? 166).bind (·.zero))=some (.slice none 0 0):=by kernel_rfl
theorem q8 {o:Nat}:Holds Xu [some (o,1)] (WV []) (Υ.empty.YH o #[.slice none 0 0] 166):=by
 have b:Holds Xu [] [] Υ.empty:=JJ _
 have c:Xo Xu [] [] #[.slice none 0 0] 1 [.sl true 0 []]:=Xo.one (a:=.sl true 0 []) (v:=.slice none 0 0) (.WJ none 0 λ_=>rfl) U;exact(M5 (P:=prog) (K:=λr G=>Holds Xu [some (r,1)] (WV []) G) (E:=λ_ _=>False) b c 166 λr _ d _ _=>d).2 o ⟨λ_=>rfl,U,U,λ_ _=>⟨λ_=>rfl,U,U⟩⟩
section
variable {fd:Nat->Option Found} {pr:Nat->Int×Int} {F:Nat->Found} {N:Nat->Nat} {Xf:Y6} {Ec:WN}
theorem q7 (X:GA Xf fd pr F N) (au:pr 0=(1,0)) (av:pr 1=(2,0)) (aw:pr 2=(2,1)) (ax:(List.range 3).filterMap fd=Ec) (ay:Ec.Pairwise RY):@Τ XA prog 141 [Wr Xf] (Vs Ec):=by
 refine⟨⟨_,func141,U,U⟩,λa3 mn x c rest ak az af vs aA al aB aC=>?_⟩;obtain⟨T,rfl⟩:∃T,x=calm T:=@Seq.cls XA x aA;obtain rfl:az=[]:=YZ.1 al.len;intro y r;have g:=r.rel;have Y:=r.Z8;have aD:=r.deaf;letI:Z1:=Yo;have ag:Seq (one y):=Seq.QF trivial g Y;rw[T7 (body:=Ld) func141 U];refine V.here (x:=one y) (m:=0) (nt:=23) (S:=ak) (B:=[]) (H:=af) (σ:=[]) (env:=entry 0 [Wr Xf]) ?_ (XR.enter al aB (ZY _) Ω) y U;refine V.YA ag U ?_;simp only[Ld,f141,Option.getD_some];refine ZO ?_;refine W.Zs (.stop ?_);refine V.boxed ag U U U U U (l:=[WO Xf.ZN,Ya Xf.ZF,S5 Xf.cells]) U U Ω λS B H t j c1 am w aE aF aG aH aI aJ=>?_;obtain rfl:B=[]:=YZ.1 w.holds.len;refine V.here (x:=one y) (m:=0) (nt:=23) (S:=S.lay j c1) (B:=[]) (σ:=[]) (env:=[(1,XP Xf)]) ?_
  ⟨aI,RZ (Zg.put (w.Zt.later aG) (d:=1) (by rw[w.size];omega) aJ) Ω,X' (Vx ..) w.size,Ζ _⟩
 refine V.YA ag U ?_;refine XN [1] [] ?_;refine W.ZM ?_;refine ZO ?_;refine W.Zs (.stop ?_);intro K aK an t2 ao i;obtain rfl:aK=[]:=YZ.1 i.holds.len;intro f aL;obtain rfl:f=y:=aL;obtain⟨a4,aM,aN⟩:=JB z9;obtain⟨a5,aO,aP⟩:=JB z8;obtain⟨a6,aQ,aR⟩:=JB q9;refine ZE.JC g ⟨U,U,by simp[Frame.enter],U⟩ U U aM aN λm a7 _=>?_;refine ZE.next ?_ ?_ ?_
 .exact .inl g
 .rfl
 refine ZE.JC ?_ ⟨U,U,by simp[Frame.enter],U⟩ U U aO aP λs a8 aS=>?_
 .exact g
 refine ZE.next ?_ ?_ ?_
 .exact .inl g
 .rfl
 refine ZE.JC ?_ ⟨U,U,by simp[Frame.enter],U⟩ U U aQ aR λo ap aT=>?_
 .exact g
 have aU:m<s:=aS m _ (upd_same ..)
 have aV:s<o:=aT s _ (upd_same ..);obtain⟨sp,L⟩:∃sp:Spec,sp=⟨some m,My j K o fd,λ_ E=>E=Υ.empty,3⟩:=⟨_,U⟩;have Z:∃q v,K j q=some v:=let ⟨u,ah⟩:=aF;⟨0,u,ao.ext.Zf _ _ _ ah⟩;have aa:∃q x,an.ω j q=some x:=let ⟨q,u,ah⟩:=Z;let ⟨p,w⟩:=i.holds.Zf _ _ _ ah;⟨q,_,w⟩;have aq:j<o:=let ⟨_,_,h⟩:=aa;Lf h ap;have M:sp.ZS=some m:=by rw[L]
 have O:sp.X1=My j K o fd:=by rw[L]
 have ab:∀k E,sp.D k E↔E=Υ.empty:=λk E=>by rw[L]
 have ad:sp.top=3:=by rw[L]
 clear L;have aW:sp.X1 [] (Υ.empty.YH o #[.slice none 0 0] 166):=by
  rw[O];refine⟨⟨λb q x P=>?_,λb x P=>?_,λb x P=>(by cases P)⟩,Xu,_,q8,U⟩
  .by_cases e:b=o
   .exact .inr (e▸aq)
   .simp[Υ.YH,e,Υ.empty] at P
  .by_cases e:b=o
   .exact e▸aq
   .simp[Υ.YH,e,Υ.empty] at P
 refine ZE.group (y:=f) (sp:=sp) g Y aU aV M ap aW λaX=>?_;obtain⟨ai,aj⟩:=Z' ({f with spec:=upd f.spec s (some sp)}:Z5);have aY:({f with tok:=upd f.tok s (.par 0 0 .add),spec:=upd f.spec s (some sp),view:=upd f.view s none}:Z5)=ZU ai s (.par 0 0 .add) none 0:=by
  rw[aj];unfold ZU;simp only[aD]
 rw[aY];have Q:UW ai s sp:=by
  rw[aj];exact⟨g,Y,upd_same ..,by rw[ad];decide,λn _=>r.still n⟩
 have aZ:∀v,Calm T (ZU ai s (.par 3 0 .YG) v 0):=λv=>by
  rw[aj];refine⟨g,Y,U,λn=>?_⟩;by_cases e:n=s
  .subst e;rw[Zp];exact .inl ⟨r.none (by rw[aX];trivial),trivial⟩
  .rw[NQ e];show _\/∃ar,T n=some (f.tok n,ar)/\upd f.spec s (some sp) n=some ar/\_;rw[upd_ne _ _ e];exact r.own n
 have ae:=Q.seq
 have a0:=X.XM
 have a1:Ext ak [] af K [] an:=am.ext.trans (aH.trans ao.ext)
 have a2:af.fresh j:=am.ext.grow _ aE;refine V.here (x:=one _) (m:=0) (nt:=23) (S:=K) (B:=[]) (σ:=[]) (env:=env0 s m o Xf []) ?_
  ⟨i.holds,RZ (Zg.put (Zg.put (Zg.put i.Zt (d:=3) (by rw[i.size];omega) (.z (ptr m 0))) (d:=4) (by rw[Vx,i.size];omega) (.z (ptr s 0))) (d:=5) (by rw[Vx,Vx,i.size];omega) (.z (ptr o 0))) Ω,
   X' (Vx ..) (X' (Vx ..) (X' (Vx ..) i.size)),Ζ _⟩ _ U
 have w1:IntKind.i64.wrap 1=1:=Z7
 have C:IntKind.i64.wrap 2=2:=Z7
 have I:IntKind.i64.wrap 3=3:=Z7;refine V.YA (ae _ _ _) U ?_;refine W.ZM ?_;refine Wd ?_;refine .loop ?_;refine Wd ?_;refine ZG (A:=[6]) Ο λR a=>Δ ?_;apply a;refine W.fix (id:=0) (σ':=[]) (Ζ _) U Ω Ω U ((6,.Ν [J 0])::env0 s m o Xf [(8,J 0)]) Ω ?_;refine Wd ?_;refine .loop ?_;refine Wd ?_;refine W.exit U ?_;refine Wc (Ξ w1 (Ξ C I)) ?_;refine .inLoop ?_;refine Wd ?_;refine ZG (A:=[6]) Ο λR a=>Δ ?_;apply a;refine W.fix (id:=0) (σ':=[]) (Ζ _) U Ω Ω U ((6,.Ν [J 1])::env0 s m o Xf [(8,J 1)]) Ω ?_;refine Wd ?_;refine .loop ?_;refine Wd ?_;refine ZG (A:=[7]) Ο λR a=>Δ ?_;apply a;refine W.fix (id:=0) (σ':=[]) (Ζ _) U Ω Ω U (Lc s m o Xf 1 0 [(8,J 1),(11,J 1),(12,J 0)]) Ω ?_;refine W.stop (Ee au Q M O (λk=>(ab k _).2 U) ad Z7 X Z aa Ω ?_);refine V.YA (ae _ _ _) U ?_;refine Wc (Ξ w1 (Ξ C I)) ?_;refine .inLoop ?_;refine Wd ?_;refine W.exit U ?_;refine Wc (Ξ w1 (Ξ C I)) ?_;refine .inLoop ?_;refine Wd ?_;refine ZG (A:=[6]) Ο λR a=>Δ ?_;apply a;refine W.fix (id:=0) (σ':=[]) (Ζ _) U Ω Ω U ((6,.Ν [J 2])::env0 s m o Xf [(8,J 2)]) Ω ?_;refine Wd ?_;refine .loop ?_;refine Wd ?_;refine ZG (A:=[7]) Ο λR a=>Δ ?_;apply a;refine W.fix (id:=0) (σ':=[]) (Ζ _) U Ω Ω U (Lc s m o Xf 2 0 [(8,J 2),(11,J 2),(12,J 0)]) Ω ?_;refine W.stop (Ee av Q M O (λk=>(ab k _).2 U) ad Z7 X Z aa Ω ?_);refine V.YA (ae _ _ _) U ?_;refine Wc (Ξ w1 (Ξ C I)) ?_;refine .inLoop ?_;refine Wd ?_;refine ZG (A:=[7]) Ο λR a=>Δ ?_;apply a;refine W.fix (id:=0) (σ':=[]) (Ζ _) U Ω Ω U (Lc s m o Xf 2 1 [(8,J 2),(11,J 2),(12,J 1)]) Ω ?_;refine W.stop (Ee aw Q M O (λk=>(ab k _).2 U) ad Z7 X Z aa Ω ?_);refine V.YA (ae _ _ _) U ?_;refine Wc (Ξ w1 (Ξ C I)) ?_;refine .inLoop ?_;refine Wd ?_;refine W.exit U ?_;refine Wc (Ξ w1 (Ξ C I)) ?_;refine .inLoop ?_;refine Wd ?_;refine W.exit U ?_;refine W.forget (env0 s m o Xf []) Ω ?_;refine W.stop ?_;exact q' Q M O (λk E=>(ab k E).1) a0 ax ay aZ aC a1 a2
end
end Go.TL
namespace Go.TL
open Go.Proofs.Tryz
open Go.Proofs
def UC:Nat->Int×Int
 | 0=>(1,0)
 | 1=>(2,0)
 | _=>(2,1)
def PE (s:Y6) (p:Int×Int):Found:=⟨p.1,p.2,(List.range s.cells.length).map (R0 s p)⟩
def SV (s:Y6) (k:Nat):Option Found:=if k<3/\0<(PE s (UC k)).many (-1) then some (PE s (UC k)) else none
def VB (s:Y6):WN:=(List.range 3).filterMap (SV s)
structure Eb (N:Nat) (s:Y6):Prop where
 small:s.small
 ZN:s.ZN.length<2 ^ 20
 lit:∀c∈s.cells,∀x∈c,0<=x.Xg/\x.Xg<s.ZF.length
 reads:∀k,k<3->∀c,c<s.cells.length->(R0 s (UC k) c).length<=N
 many:∀k,k<3->∀i,i<=s.cells.length->PU (PE s (UC k)).cells (-1) i<2 ^ 62
abbrev q6 (s:Y6):Prop:=Eb 12 s
theorem q5 {N:Nat} (n:N<2 ^ 20) (o:∀c:Z1,@EL c N) {s:Y6} (h:Eb N s):@OP XA s (VB s):=λ_=>by
 refine q7 (fd:=SV s) (pr:=UC) (F:=λk=>PE s (UC k)) (N:=λk=>(PE s (UC k)).many (-1)) ⟨λk g c=>?_,λk g c=>?_,λk=>rfl⟩ U U U U ?_
 .exact @s3 c s h.small h.ZN (UC k) h.lit N n (o c) (h.reads k g)
 .have l:(PE s (UC k)).cells.length=s.cells.length:=by simp[PE]
  have:=h.small.2.2.1;exact @uj c (PE s (UC k)) (-1) (by rw[l];omega) (λi hi=>h.many k g i (by rw[<-l];exact hi))
 .have e:(List.range 3).filterMap (SV s)=(SV s 0).toList++(SV s 1).toList++(SV s 2).toList:=by
   show [0,1,2].filterMap (SV s)=_;simp only[List.filterMap_cons,List.filterMap_nil];cases SV s 0<;>cases SV s 1<;>cases SV s 2<;>rfl
  show((List.range 3).filterMap (SV s)).Pairwise RY;rw[e];have m:∀k x,x∈(SV s k).toList->x=PE s (UC k):=λk x f=>by
   unfold SV at f;split at f
   .simpa using f
   .simp at f
  have one:∀k,((SV s k).toList).Pairwise RY:=λk=>by cases SV s k<;>simp
  rw[IZ,IZ];refine⟨⟨one 0,one 1,λa d b j=>?_⟩,one 2,λa d b j=>?_⟩
  .rw[m 0 a d,m 1 b j];exact .inl (show(UC 0).1<(UC 1).1 by decide)
  .rw[m 2 b j];rcases Uv.1 d with d|d
   .rw[m 0 a d];exact .inl (show(UC 0).1<(UC 2).1 by decide)
   .rw[m 1 a d];exact .inr ⟨U,show(UC 1).2<(UC 2).2 by decide⟩
theorem q4 {s:Y6} (h:q6 s):@OP XA s (VB s):=q5 Z7 (λc=>@tf c) h
end Go.TL
namespace Go.TL
open Go.Proofs.Tryz
open Go.Conc Go.Proofs
abbrev Ea:Wv:=calm λ_=>none
theorem D':@Seq XA Ea:=@Seq.mk XA Ea ⟨_,rfl⟩ (λ_ h=>h.rel) (λ_ h=>h.Z8)
theorem q3 (w:World):Calm (λ_=>none) (Z5.start w):=⟨rfl,rfl,rfl,λ_=>.inl ⟨rfl,trivial⟩⟩
def Gy (w:World):ς:=λb o=>((Υ.Tc w).ω b o).map (·.1)
theorem q2 (w:World):Holds (Gy w) [] [] (Υ.Tc w):=
 ⟨λb o v h=>by
  unfold Gy at h;cases a:(Υ.Tc w).ω b o with
  | none=>rw[a] at h;cases h
  | some x=>rw[a] at h;cases h;exact⟨x.2,rfl⟩,rfl,λid r bo h=>by simp at h,λi j c d b e f _ h=>by simp at h,λid r b N h=>by simp at h⟩
theorem q1 {P:Program} {f:FuncId} {fn:Func} {body:Code} {d:Nat} (b:P.funcs[f]?=some fn) (g:fn.body=some body) (i:fn.results=#[.tmp d]) (m:P.inits.idxOf? f=none) {w:World} {l:ψ} {args:ν} (n:XQ (Gy w) [] [] l args) (o:l.length<=fn.ntmps)
  (p:@W XA P 0 fn.ntmps [.code body] (entry 0 l) [] (λj env _=>(∃k,j=.code .ret::k)/\ι env d=ZV true) (λ_ _ _=>False)):Comes P (λv=>v=.bool true) w (solo (Go.Conc.G (Frame.enter P f args .normal) []) w) #[]:=by
 letI:Z1:=XA;refine Goes.comes ?_;show ZE P _ true (Z5.start w) (Frame.enter P f args .normal) [] (Υ.Tc w);rw[T7 b g];refine p (λv=>v=.bool true) true Ea [] (Frame.enter P f args .normal) (Gy w) [] (Υ.Tc w) _ D' U (XR.enter (q2 w) n (ZY _) o) (λj env' σ' S' B' H' t' c r B s t=>?_) (λa env' σ' S' B' H' t' c v x=>x.elim) (Z5.start w) (q3 w);obtain⟨⟨k,A⟩,hd⟩:=r;have e:c=j:=t;subst e;subst A;refine μ.ret D' U U (μ.done (v:=.bool true) D' (λy h=>h.bare) (λy h=>h.deaf) U U U b m ?_ U);have hv:t'.getD d undef=.bool true:=by
  have:=s.Zt d;rw[hd] at this;generalize t'.getD d undef=u at this;cases this;rfl
 show results fn t'=_;unfold results;rw[i];rw[Wn] at hv;simp[hv]
end Go.TL
namespace Go.TL
open Go.Proofs.Tryz
open Go.Conc Go.ConcM Go.Proofs
open Go.ChangeShapes Go.WideShapes Go.ChangeAt Go.RowKit
theorem q0:ownKnob prog.godebug=none:=by kernel_rfl
theorem Xp.below {W w:World} (h:Xp (λ_ _=>False) (λ_=>False) W w):Below W.heap.size W {w with os:=W.os}:=by
 refine⟨U,h.tape,h.output,h.size,λk f=>?_⟩;show w.heap[k]?=W.heap[k]?;have e:=YS f;cases a:Obj.Pd W.heap[k] with
 | false=>rw[e];exact h.Tn k _ e a id
 | true=>
  cases b:W.heap[k] with
  | cells c t d=>
   rw[b] at e;obtain⟨c',g,i,m,j,l⟩:=h.cells k c t d e;obtain rfl:g=d:=l.elim id λ⟨⟨_,h⟩,_⟩=>h.elim;have:c'=c:=by
    apply Og ;apply U';intro o;have:=j o id;simpa using this
   rw[e,i,this]
  | _=>rw[b] at a;simp[Obj.Pd] at a
end Go.TL
namespace Go.TL
open Go.Proofs.Tryz
open Go.Conc Go.Proofs
section
variable {P:Program} {S:ς} {B:δ} {H:Υ} {σ:Ρ} {id c o j:Nat} {l:ψ} {u:Value}
theorem Gx (a:Holds S B σ H) (b:σ[id]?=some (.own c o l)) (h:l[j]?=some (.z u)):∃N t M,B[id]?=some (some (c,N))/\H.ω c (o+j)=some (u,true)/\H.row c=some (t,M)/\One u:=by
 obtain⟨bo,d⟩:=Ue a b;obtain⟨N,t,M,rfl,i,w,k⟩:=a.row id _ bo b d;obtain⟨e,f,g⟩:=k j _ h;generalize w j=y at e f g;cases f;exact⟨N,t,M,d,e,i,g⟩
theorem z7 {b:Type} {l:List b} {j:Nat} {a:b} (c:j<l.length):l.take j++[a]++l.drop (j+1)=l.set j a:=by
 rw[List.set_eq_take_append_cons_drop,if_pos c];simp
theorem D9 (k:Holds S B σ H) {N:Nat} (m:σ[id]?=some (.own c o l)) (n:B[id]?=some (some (c,N))) (p:j<l.length) {x:Value} (f:(Ψ.z x).YW σ=true) :
  One x/\H.owns c (o+j)/\Holds S (B.set id (some (c,N))) (σ.set id (.own c o (l.set j (.z x)))) (H.Ru ⟨c,o+j,none⟩ x)/\Ext S B H S (B.set id (some (c,N))) (H.Ru ⟨c,o+j,none⟩ x)/\ZJ S S B (B.set id (some (c,N))) σ (σ.set id (.own c o (l.set j (.z x)))):=by
 have g:One x:=(Θ.z (S:=S) (B:=B) (σ:=σ) x).M7 f;obtain⟨u,r,w,b⟩:=Co k (a:=.z x) (v:=x) (j:=j) m n (.z x) (by show([Ψ.z x].all (Ψ.YW σ))=true;rw[List.all_cons,f];rfl) (by show j+[Ψ.z x].length<=_;simp;omega);have s:x.cells.toList=[x]:=by rw[g.cells]
 have t:H.XW c (o+j) [x]=H.Ru ⟨c,o+j,none⟩ x:=by
  unfold Υ.XW Υ.Ru;congr 1
  funext h o'
  by_cases d:h=c/\o'=o+j
  .obtain⟨rfl,rfl⟩:=d;simp
  .rw[if_neg d];by_cases i:h=c
   .subst i;have:o'≠o+j:=λe=>d ⟨U,e⟩;simp;intro y A;omega
   .simp[i]
 rw[s] at b;simp only[Ψ.cells,List.length_cons,List.length_nil,V5] at b;rw[t,z7 p] at b;exact⟨g,by simpa[Ψ.cells] using r 0 (by simp[Ψ.cells]),b⟩
variable [Z1]
variable {g:FuncId} {q:Nat} {K E:Ψ->Ρ->Prop}
theorem qZ {a:IntKind} {x:Int} (d:QM P g (Extern.Atomic.loadT (.int a))) (e:σ[id]?=some (.own c o l)) (f:l[j]?=some (.z (.int a x))) (h:q=o+j) (i:K (.z (.int a x)) σ):Yg P (.fn (.func g) [] []) [.z (ptr c q)] σ K E:=by
 subst h;refine .ext d λS B H vs b hv=>?_;obtain rfl:=Wq (l:=[ptr c (o+j)]) hv;obtain⟨N,t,M,m,k,n,p⟩:=Gx b e f;unfold Extern.Atomic.loadT;refine Χ.bind' (Χ.pure' ?_);unfold Extern.Atomic.read;refine Χ.bind' ⟨U,U,_,_,k,Χ.pure' ?_⟩;show Χ P (if a=a then _ else _) H _ _;rw[if_pos U];exact Χ.pure' (.same b i (.z _))
theorem qY {x u:Value} (e:QM P g Extern.Atomic.storeT) (a:σ[id]?=some (.own c o l)) (b:l[j]?=some (.z u)) (f:q=o+j) (h:(Ψ.z x).YW σ=true) (i:K (.z (.tuple #[])) (σ.set id (.own c o (l.set j (.z x))))):Yg P (.fn (.func g) [] []) [.z (ptr c q),.z x] σ K E:=by
 subst f;refine .ext e λS B H vs d hv=>?_;obtain rfl:=Wq (l:=[ptr c (o+j),x]) hv;obtain⟨N,t,M,k,w,m,y⟩:=Gx d a b;obtain⟨n,p,r,s,v⟩:=D9 d a k (ZR.1 b).1 h;unfold Extern.Atomic.storeT;refine Χ.bind' (Χ.pure' ?_);refine Χ.bind' ⟨U,U,p,⟨_,_,m⟩,n,Χ.pure' ?_⟩;exact Χ.pure' ⟨S,_,_,_,i,s,r,v,.z _⟩
theorem qX {a y:Int} (i:QM P g (Extern.Atomic.casT (.int .i32))) (b:σ[id]?=some (.own c o l)) (d:l[j]?=some (.z (.int .i32 a))) (k:q=o+j) (m:K (.z (.bool true)) (σ.set id (.own c o (l.set j (.z (.int .i32 y)))))):Yg P (.fn (.func g) [] []) [.z (ptr c q),.z (.int .i32 a),.z (.int .i32 y)] σ K E:=by
 subst k;refine .ext i λS B H vs e hv=>?_;obtain rfl:=Wq (l:=[ptr c (o+j),.int .i32 a,.int .i32 y]) hv;obtain⟨N,t,M,n,f,h,A⟩:=Gx e b d;obtain⟨p,r,s,u,v⟩:=D9 e b n (ZR.1 d).1 (x:=.int .i32 y) U;unfold Extern.Atomic.casT;refine Χ.bind' (Χ.pure' ?_);refine Χ.bind' ?_;unfold Extern.Atomic.touchesFrozen;refine Χ.bind' (B1 h ?_);refine⟨⟨_,f⟩,Χ.pure' ?_⟩;show Χ P (if false=true then _ else _) H _ _;rw[if_neg Ω];refine Χ.bind' ?_;unfold Extern.Atomic.read;refine Χ.bind' ⟨U,U,_,_,f,Χ.pure' ?_⟩;show Χ P (if IntKind.i32=IntKind.i32 then _ else _) H _ _;rw[if_pos U];refine Χ.pure' ?_;refine Χ.bind' (Χ.pure' ?_);show Χ P (if(a==a)=true then _ else _) H _ _;rw[if_pos Ω];refine Χ.bind' ⟨U,U,r,⟨_,_,h⟩,p,Χ.pure' ?_⟩;have w:(a==a)=true:=Ω;rw[w];exact Χ.pure' ⟨S,_,_,_,m,u,s,v,.z _⟩
theorem qW {a y:Int} (f:QM P g (Extern.Atomic.update (Op.intArith .add) .i32 true)) (b:σ[id]?=some (.own c o l)) (d:l[j]?=some (.z (.int .i32 a))) (h:q=o+j) (i:K (.z (.int .i32 (IntKind.i32.wrap (a+y)))) (σ.set id (.own c o (l.set j (.z (.int .i32 (IntKind.i32.wrap (a+y)))))))):Yg P (.fn (.func g) [] []) [.z (ptr c q),.z (.int .i32 y)] σ K E:=by
 subst h;refine .ext f λS B H vs e hv=>?_;obtain rfl:=Wq (l:=[ptr c (o+j),.int .i32 y]) hv;obtain⟨N,t,M,k,m,n,w⟩:=Gx e b d;obtain⟨p,r,s,u,v⟩:=D9 e b k (ZR.1 d).1 (x:=.int .i32 (IntKind.i32.wrap (a+y))) U;unfold Extern.Atomic.update;refine Χ.bind' (Χ.pure' ?_);refine Χ.bind' ?_;unfold Extern.Atomic.read;refine Χ.bind' ⟨U,U,_,_,m,Χ.pure' ?_⟩;show Χ P (if IntKind.i32=IntKind.i32 then _ else _) H _ _;rw[if_pos U];refine Χ.pure' ?_;refine Χ.bind' (Χ.pure' (Χ.bind' (Χ.pure' ?_)));refine Χ.bind' (Χ.pure' ?_);refine Χ.bind' ⟨U,U,r,⟨_,_,n⟩,p,Χ.pure' ?_⟩;exact Χ.pure' ⟨S,_,_,_,i,u,s,v,.z _⟩
end
section
variable [Z1]
variable {P:Program} {Q:Value->Prop} {mn:Bool} {x:Wv} {b:Frame} {cs:Y3} {nt:Nat} {o:Base} {k:ZA} {env:Β} {σ:Ρ} {ops:ZI} {i:Nat} {rest:κ} {op:Oper} {f:FuncId} {args:Array Operand} {id c p j q:Nat} {l:ψ} {a:Ψ}
theorem z6 {S:ς} {B:δ} {H:Υ} {w:World} (f:Fits H w) (b:Holds S B σ H) (d:σ[id]?=some (.own c p l)) (g:l[j]?=some a):(∃v,w.cell? ⟨c,p+j,none⟩=some v)/\H.owns c (p+j):=by
 obtain⟨bo,h⟩:=Ue b d;obtain⟨N,t,M,rfl,k,w',i⟩:=b.row id _ bo d h;obtain⟨e,_⟩:=i j _ g;exact⟨⟨_,f.ω _ _ _ _ e⟩,⟨_,e⟩⟩
theorem V.z5 (s:Seq x) (d:TA b ops i op) (hd:WS nt op=true) (u:XG env ops op=some true) {src dst t0:TypeId} {y:Operand} (A:op.op=.convert src dst y) (g:P.underlying src=some (.pointer t0)) (h:P.underlying dst=some .unsafePointer) (m:(P.info? t0).map (λi=>decide (i.size=0))=some false)
  (C:ο env y=.z (ptr c q)) (D:σ[id]?=some (.own c p l)) (E:l[j]?=some a) (F:q=p+j) (I:V P Q mn x b cs nt o (.inRegion ops rest::k) (Zu op env (.z (ptr c q))) σ):V P Q mn x b cs nt o (.inRegion ops (i::rest)::k) env σ:=by
 subst F;intro S B H t J f;refine μ.own s λw n=>?_;obtain⟨⟨v,hv⟩,_⟩:=z6 n f.holds D E;refine⟨_,_,w,#[],H,?_,Yy.start n,I S B H _ J (f.put hd (.z (ptr c (p+j))))⟩;have r:=run_convert_to_unsafe (P:=P) g h m hv;have K:=events_convert_to_unsafe (P:=P) g h m hv #[];have e:execOp (ZW t) op=(do pure (.value (<-convert src dst (ptr c (p+j))))):=by unfold execOp;rw[A,<-JV f.Zt C]
 rw[Xn d.run d.ro,Xn d.run d.ro,<-OM];have L:(execOp (⟨t,b.defers⟩:_root_.Go.Act).eval op).run P w=.ok (.value (ptr c (p+j))) w:=by rw[UY,e];simp[r,Result.andThen]
 have M:(execOp (⟨t,b.defers⟩:_root_.Go.Act).eval op).events P w #[]=#[]:=by rw[UY,e];simp[r,K,Result.evThen]
 rw[stepG_value d.op (UF f.Zt u) d.kd L];unfold listed;rw[M,seen_none]
theorem V.z4 (r:Seq x) {mk:Addr->Mark} (m:mk=.acquire\/mk=.releaseMerge) (h:WL P b ops i op f (Extern.Race.marked mk) args env [ptr c q] nt) (s:σ[id]?=some (.own c p l)) (u:l[j]?=some a) (v:q=p+j)
  (y:V P Q mn x b cs nt o (.inRegion ops rest::k) (Zu op env Sv) σ):V P Q mn x b cs nt o (.inRegion ops (i::rest)::k) env σ:=by
 subst v;intro S B H t A d;refine μ.own r λw n=>?_;obtain⟨_,C⟩:=z6 n d.holds s u;have D:∀g,mk ⟨c,p+j,none⟩≠Mark.extern g:=λg=>by rcases m with rfl|rfl<;>simp
 refine⟨_,_,w,_,H,h.step d.Zt (MG mk _) (MF mk _ _) (QE D),?_,y S B H _ A (d.put h.dst (.z _))⟩;exact(Yy.start n).push (e:=⟨.mark (mk ⟨c,p+j,none⟩),false,true⟩) (.inr (.inr ⟨_,m.imp (λh=>by rw[h]) (λh=>by rw[h]),U,C⟩))
end
section
variable [Z1]
theorem Μ.Mx {P:Program} {g:FuncId} {args:ψ} {σ σ':Ρ} {r:Ψ} {K E:Ψ->Ρ->Prop} (h:Μ P g args σ (λa s=>a=r/\s=σ') (λ_ _=>False)) (c:K r σ'):Yg P (.fn (.func g) [] []) args σ K E:=by
 have d:Μ P g ([]++args++[]) σ (λa s=>a=r/\s=σ') (λ_ _=>False):=by simpa using h
 refine(Μ.call (first:=[]) (captured:=[]) d).mono (λa s b=>?_) (λa s b=>False.elim b);rw[b.1,b.2];exact c
def Lb (P:Program) (g:FuncId) (args:ψ) (σ:Ρ) (K:Ρ->Prop):Prop:=
 ∀(a:Value->Prop) (mn:Bool) (x:Wv) (c:Frame) (rest:Y3) (S:ς) (B:δ) (H:Υ) (vs:ν),Seq x->c.mode=.returning->Holds S B σ H->XQ S B σ args vs->
  (∀(σ':Ρ) (S':ς) (B':δ) (H':Υ),K σ'->Ext S B H S' B' H'->ZJ S S' B B' σ σ'->Holds S' B' σ' H'->μ P a mn x c rest H')->μ P a mn x (Frame.enter P g vs .deferred) (c::rest) H
theorem Lb.Hw {P:Program} {σ:Ρ} {K:Ρ->Prop} {g:FuncId} {fn:Func} {body:Code} (e:P.funcs[g]?=some fn) (o:fn.body=some body) (p:fn.results=#[]) {nt m:Nat} (r:fn.ntmps=nt) (t:σ.length=m) {args:ψ} (J:args.length<=nt)
  (h:W P m nt [.code body] (entry 0 args) σ (λj _ s=>(j=[]\/∃k,j=.code .ret::k)/\K s) (λ_ _ _=>False)):Lb P g args σ K:=by
 subst r;subst t;intro f mn x c rest S B H vs b u i hv w;rw[T7 e o];have y:(vs++Array.replicate (fn.ntmps-vs.size) undef).size=fn.ntmps:=by
  have:=hv.1;simp;omega
 refine h f mn x (c::rest) _ S B H _ b U ⟨i,Fc hv _,y,ZY _⟩ (λj env' σ' S' B' H' t' d ⟨A,C⟩ l D E=>?_) (λa env' σ' S' B' H' t' d v F=>F.elim);have I:=l.all i (ZY _);have n:μ P f mn x {χ (Frame.enter P g vs .deferred) t' d with mode:=.returning} (c::rest) H':=by
  refine .Ir b U U U e ?_;rw[results_none p];refine Χ.pure' ?_;rw[u];exact w σ' S' B' H' C l.ext I D.holds
 have:d=j:=E;subst this;rcases A with rfl|⟨k,rfl⟩
 .exact .Rt b U U n
 .exact .ret b U U n
end
section
variable [Z1]
theorem qV:QM prog 164 (Extern.Atomic.loadT (.int .u32)):=⟨_,func164,by kernel_rfl,by kernel_rfl,by kernel_rfl,by kernel_rfl⟩
theorem qU:QM prog 208 Extern.Atomic.storeT:=⟨_,func208,by kernel_rfl,by kernel_rfl,by kernel_rfl,by kernel_rfl⟩
theorem qT:QM prog 169 (Extern.Atomic.casT (.int .i32)):=⟨_,func169,by kernel_rfl,by kernel_rfl,by kernel_rfl,by kernel_rfl⟩
theorem qS:QM prog 171 (Extern.Atomic.update (Op.intArith .add) .i32 true):=⟨_,func171,by kernel_rfl,by kernel_rfl,by kernel_rfl,by kernel_rfl⟩
abbrev X3 (c q:Nat) (d m:Int) (u a:Ψ):Row:=.own c q [.z (.int .u32 d),.z (.int .i32 m),u,a]
section
variable {c q:Nat} {d:Int} {u a:Ψ}
theorem qR:Μ prog 127 [.z (ptr c (q+1))] [X3 c q d 0 u a] (λr s=>r=.ε []/\s=[X3 c q d 1 u a]) (λ_ _=>False):=by
 refine⟨⟨_,func127,U,U⟩,λl mn x o rest S B H vs g h hv p y e=>?_⟩;have t:=g.rel y e;have w:=g.Z8 y e;obtain⟨O,P⟩:=Z' y.deaf;have f:∀n,@Seq Yo (one {y with deaf:=n}):=λn=>@Seq.QF Yo _ trivial t w;have Q:({y with deaf:=y.deaf+1-1}:Z5)=y:=rfl;have A:∀(S':ς) (B':δ) (H':Υ),Ext S B H S' B' H'->ZJ S S' B B' [X3 c q d 0 u a] [X3 c q d 1 u a]->Holds S' B' [X3 c q d 1 u a] H'->ZE prog l mn y (o.finish (.tuple #[])) rest H':=
  λS' B' H' C D E=>p.ret (.ε []) _ S' B' H' _ ⟨U,U⟩ C D E (.ε #[] U λi a v hi=>by simp at hi) y e
 letI:Z1:=Yo;have b:Seq (one y):=f y.deaf;rw[T7 (body:=f127.body.getD .skip) func127 U];refine V.here (x:=one y) (m:=1) (nt:=13) (S:=S) (B:=B) (H:=H) (σ:=[X3 c q d 0 u a]) (env:=entry 0 [.z (ptr c (q+1))]) ?_ (XR.enter h hv (ZY _) Ω) y U;refine V.YA b U ?_;simp only[f127,Option.getD_some]
 repeat apply Γ
 refine W.Zs (.stop ?_);refine V.disable b.here ⟨⟨U,U,by simp[Frame.enter],U⟩,ME,⟨_,U⟩,U,U,U⟩ ?_;refine V.YA (f _) U ?_;refine W.ZM ?_;refine υ λR F=>?_;refine qX (id:=0) (j:=1) (y:=1) qT U U U ?_;simp;(repeat (rw[Η];simp));apply F;refine Ι U ?_
 repeat apply Γ
 refine Ι U ?_
 repeat apply Γ
 refine W.Zs (.stop ?_);refine V.enable (f _).here (U8 _) ⟨⟨U,U,by simp[Frame.enter],U⟩,PI,⟨_,U⟩,U,U,U⟩ ?_;rw[show({({y with deaf:=y.deaf+1}:Z5) with deaf:=({y with deaf:=y.deaf+1}:Z5).deaf-1}:Z5)=y from rfl];refine V.YA b U ?_;refine W.ZM ?_
 repeat apply Γ
 refine W.Zs ?_;refine XN [0] [1,2] ?_;refine W.stop ?_;refine V.z5 b ⟨U,U,by simp[Frame.enter],U⟩ U U U JP PH JO U (id:=0) (j:=1) U U U ?_;refine V.z4 b (.inl U) ⟨⟨U,U,by simp[Frame.enter],U⟩,JQ,⟨_,U⟩,U,U,U⟩ (id:=0) (j:=1) U U U ?_;intro I J K t5 k L;have M:=k.all h (ZY _);refine μ.ZM b U (.ret b U U (.back b U U (.inl U) func127 ?_));rw[results_none U];refine Χ.pure' λz N=>?_;obtain rfl:z=y:=N;exact A I J K k.ext M L.holds
theorem qQ:Μ prog 128 [.z (ptr c (q+1))] [X3 c q d 1 u a] (λr s=>r=.ε []/\s=[X3 c q d 0 u a]) (λ_ _=>False):=by
 refine⟨⟨_,func128,U,U⟩,λp mn x t rest S B H vs h k hv w y f=>?_⟩;have A:=h.rel y f;have C:=h.Z8 y f;have g:∀n,@Seq Yo (one {y with deaf:=n}):=λn=>@Seq.QF Yo _ trivial A C;have D:∀(S':ς) (B':δ) (H':Υ),Ext S B H S' B' H'->ZJ S S' B B' [X3 c q d 1 u a] [X3 c q d 0 u a]->Holds S' B' [X3 c q d 0 u a] H'->ZE prog p mn y (t.finish (.tuple #[])) rest H':=
  λS' B' H' E F I=>w.ret (.ε []) _ S' B' H' _ ⟨U,U⟩ E F I (.ε #[] U λi a v hi=>by simp at hi) y f
 letI:Z1:=Yo;have b:Seq (one y):=g y.deaf;rw[T7 (body:=f128.body.getD .skip) func128 U];refine V.here (x:=one y) (m:=1) (nt:=21) (S:=S) (B:=B) (H:=H) (σ:=[X3 c q d 1 u a]) (env:=entry 0 [.z (ptr c (q+1))]) ?_ (XR.enter k hv (ZY _) Ω) y U;refine V.YA b U ?_;simp only[f128,Option.getD_some]
 repeat apply Γ
 refine Ι U ?_;refine υ λl e=>?_;apply e
 repeat apply Γ
 refine W.Zs ?_;refine XN [0] [1,2] ?_;refine W.stop ?_;refine V.z5 b ⟨U,U,by simp[Frame.enter],U⟩ U U U JP PH JO U (id:=0) (j:=1) U U U ?_;refine V.z4 b (.inr U) ⟨⟨U,U,by simp[Frame.enter],U⟩,Ez,⟨_,U⟩,U,U,U⟩ (id:=0) (j:=1) U U U ?_;refine V.YA b U ?_;refine W.ZM ?_
 repeat apply Γ
 refine W.Zs (.stop ?_);refine V.disable b.here ⟨⟨U,U,by simp[Frame.enter],U⟩,ME,⟨_,U⟩,U,U,U⟩ ?_;refine V.YA (g _) U ?_;refine W.ZM ?_;refine υ λl e=>?_;refine qW (id:=0) (j:=1) qS U U U ?_;have w0:IntKind.i32.wrap (1+-1)=0:=Z7;rw[w0];simp;(repeat (rw[Η];simp));apply e;refine υ λl e=>?_;apply e;refine Κ U ?_
 repeat apply Γ
 refine W.Zs (.stop ?_);refine V.enable (g _).here (U8 _) ⟨⟨U,U,by simp[Frame.enter],U⟩,PI,⟨_,U⟩,U,U,U⟩ ?_;rw[show({({y with deaf:=y.deaf+1}:Z5) with deaf:=({y with deaf:=y.deaf+1}:Z5).deaf-1}:Z5)=y from rfl];intro J K L t5 o M;have N:=o.all k (ZY _);refine μ.ZM b U (.Rt b U U (.back b U U (.inl U) func128 ?_));rw[results_none U];refine Χ.pure' λz O=>?_;obtain rfl:z=y:=O;exact D J K L o.ext N M.holds
theorem qP:Μ prog 78 [.z (ptr c (q+1))] [X3 c q d 0 u a] (λr s=>r=.ε []/\s=[X3 c q d 1 u a]) (λ_ _=>False):=by
 refine Μ.body Ο func78 U U ntmps78 U U Ω ?_;refine υ λe b=>?_;refine Μ.Mx qR ?_;simp;(repeat (rw[Η];simp));apply b;exact W.nil ⟨_,U,U,U⟩
theorem qO:Lb prog 79 [.z (ptr c (q+1))] [X3 c q d 1 u a] (λs=>s=[X3 c q d 0 u a]):=by
 refine Lb.Hw func79 U U ntmps79 U Ω ?_;refine υ λe b=>?_;refine Μ.Mx qQ ?_;simp;(repeat (rw[Η];simp));apply b;exact W.stop ⟨.inl U,U⟩
theorem z3 {m:Int}:Μ prog 123 [.z (ptr c q)] [X3 c q 0 m u a] (λr s=>r=ZV false/\s=[X3 c q 0 m u a]) (λ_ _=>False):=by
 refine Μ.body Ο func123 U U ntmps123 U U Ω ?_;refine Φ ?_;refine υ λd b=>?_;refine qZ (id:=0) (j:=0) qV U U U ?_;simp;(repeat (rw[Η];simp));apply b;refine Φ ?_;exact W.ret ⟨_,U,U,U⟩
theorem qN:Τ prog 209 [ZV true] (.z (.int .u32 1)):=by
 refine Μ.body Ο func209 U U ntmps209 U U Ω ?_;refine Φ ?_;refine Ι U ?_;refine Φ ?_;refine W.rt ?_;exact .of U
theorem qM {m:Int}:Lb prog 165 [.z (ptr c q),ZV true] [X3 c q 0 m u a] (λs=>s=[X3 c q 1 m u a]):=by
 refine Lb.Hw func165 U U ntmps165 U Ω ?_
 repeat apply Γ
 refine W.draw (A:=[]) Ο mixed λd b=>VG ?_;refine XV (Τ.q (qN)) (VG ?_);refine E8 (qY (id:=0) (j:=0) qU U U U U ⟨U,U⟩) ?_;simp;(repeat (rw[Za];simp));try rw[YL]
 refine Yn (b _ _ ?_);exact W.stop ⟨.inl U,U⟩
theorem qL {f a':Ψ} (E:Yg prog f [] [X3 c q 0 1 u a] (λr s=>r=.ε []/\s=[X3 c q 0 1 u a']) (λ_ _=>False)) :
  Μ prog 124 [.z (ptr c q),f] [X3 c q 0 0 u a] (λr s=>r=.ε []/\s=[X3 c q 1 0 u a']) (λ_ _=>False):=by
 refine⟨⟨_,func124,U,U⟩,λn mn x ak rest S B H vs b o hv F=>?_⟩;rw[T7 (body:=f124.body.getD .skip) func124 U];refine V.here (x:=x) (m:=1) (nt:=21) (S:=S) (B:=B) (H:=H) (σ:=[X3 c q 0 0 u a]) (env:=entry 0 [.z (ptr c q),f]) ?_ (XR.enter o hv (ZY _) Ω);refine V.YA b U ?_;simp only[f124,Option.getD_some];refine υ λp g=>?_;refine Μ.Mx qP ?_;simp;(repeat (rw[Η];simp));apply g
 repeat apply Γ
 refine W.Zs ?_;refine XN [0,1,2] [3] ?_;refine W.stop ?_;refine V.defer b U U U U U U U ⟨_,func79,U,U⟩ λal am an t1 d1 ao w y I j=>?_;obtain rfl:=Wq (l:=[ptr c (q+1)]) I;have J:=w.all o (ZY _);refine V.here (m:=1) (nt:=21) ?_ y;refine V.YA b U ?_;refine W.ZM ?_;refine υ λp g=>?_;refine Μ.Mx z3 ?_;simp;(repeat (rw[Η];simp));apply g;refine Ι U ?_
 repeat apply Γ
 refine W.Zs ?_;refine XN [0,1,2] [3] ?_;refine W.stop ?_;refine V.defer b U U U U U U U ⟨_,func165,U,U⟩ λap aq ar t2 d2 au A C K k=>?_;obtain rfl:=Wq (l:=[ptr c q,.bool true]) K;have L:=A.all y.holds (ZY _);refine V.here (m:=1) (nt:=21) ?_ C;refine V.YA b U ?_;refine W.ZM ?_;refine υ λp g=>?_;refine Yg.mono E (λr t h=>?_) (λ_ _ h=>h.elim);obtain⟨rfl,rfl⟩:=h;simp;(repeat (rw[Η];simp));apply g;refine W.stop ?_;intro M N O t3 D P;have Q:=D.all C.holds (ZY _);refine μ.Rt b U U ?_;refine μ.deferred b Ω U k.t1 k.t2 k.run ?_;refine qM n mn x _ _ M N O _ b U P.holds ⟨U,λi a v d e=>?_⟩ λav R T X Y Z aa ab=>?_
 .match i,d,e with
  | 0,d,e=>cases d;cases e;exact .z _
  | 1,d,e=>cases d;cases e;exact .z _
 subst Y;refine μ.deferred b Ω U j.t1 j.t2 j.run ?_;refine qO n mn x _ _ R T X _ b U ab ⟨U,λi a v d e=>?_⟩ λaw ad ae af ag ah ai aj=>?_
 .match i,d,e with
  | 0,d,e=>cases d;cases e;exact .z _
 subst ag;refine μ.back b U U (.inl U) func124 ?_;rw[results_none U];refine Χ.pure' ?_;exact F.ret (.ε []) _ ad ae af _ ⟨U,U⟩ (w.ext.trans (A.ext.trans (D.ext.trans (Z.trans ah)))) (J.trans (L.trans (Q.trans (aa.trans ai)))) aj (.ε #[] U λi a v hi=>by simp at hi)
theorem qK {f a':Ψ} (d:Yg prog f [] [X3 c q 0 1 u a] (λr s=>r=.ε []/\s=[X3 c q 0 1 u a']) (λ_ _=>False)) :
  Μ prog 75 [.z (ptr c q),f] [X3 c q 0 0 u a] (λr s=>r=.ε []/\s=[X3 c q 1 0 u a']) (λ_ _=>False):=by
 refine Μ.body Ο func75 U U ntmps75 U U Ω ?_;refine υ λe b=>?_;refine Μ.Mx z3 ?_;simp;(repeat (rw[Η];simp));apply b;refine Ι U ?_;refine υ λe b=>?_;refine Μ.Mx (qL d) ?_;simp;(repeat (rw[Η];simp));apply b;exact W.nil ⟨_,U,U,U⟩
end
end
end Go.TL
namespace Go.TL
open Go.Proofs.Tryz
open Go.Conc Go.Proofs
variable [Z1]
def Mw (r:Row):Prop:=(∃t k l,r=.cells t k l/\0<l.length*k)\/∃c o l,r=.own c o l/\l≠[]
section
variable {S VZ Y8:ς} {B W9 PD:δ} {σ Sz Ss:Ρ} {H E:Υ} {β:Nat}
theorem Mw.has {r:Row} {bo:Option (Nat×Nat)} {b N:Nat} (h:Mw r) (d:Wi S B σ H r bo) (g:bo=some (b,N)):∃o x,H.ω b o=some (x,true):=by
 subst g;rcases h with⟨t,k,l,rfl,h⟩|⟨c,o,l,rfl,h⟩
 .obtain⟨_,f,i,_⟩:=d;obtain⟨w,m⟩:=i 0 I;exact⟨0,w,m⟩
 .obtain⟨s,t,M,e,_,w,f⟩:=d;cases e;obtain⟨a,n⟩:=List.exists_mem_of_ne_nil l h;obtain⟨j,p⟩:=TU n;exact⟨_,_,(f j a p).1⟩
theorem Mw.live {r:Row} (h:Mw r):r.live:=by
 rcases h with⟨t,k,l,rfl,h⟩|⟨c,o,l,rfl,h⟩<;>trivial
theorem Wi.z2 {S':ς} {B':δ} {σ':Ρ} {r:Row} {bo:Option (Nat×Nat)} (C:Mw r) (f:YR 0 r) (g:Wi S B σ H r bo) (D:∀b o v,S b o=some v->S' b o=some v):Wi S' B' σ' (join H E) r bo:=by
 have s:∀{a:Ψ} {v:Value},Θ S B σ a v->η 0 a->Θ S' B' σ' a v:=λh f=>(h.any f B' σ').later ⟨D,λid r h=>⟨r,h,r.Tb _⟩⟩
 have y:∀{b x},H.row b=some x->(join H E).row b=some x:=λh=>by simp only[join,h]
 rcases C with⟨t,k,l,rfl,h⟩|⟨c,o,l,rfl,h⟩
 .cases bo with
  | none=>exact g
  | some x=>
   obtain⟨b,N⟩:=x;obtain⟨m,n,F,w,A⟩:=g;refine⟨y m,n,λo I=>?_,w,λi e hi=>⟨(A i e hi).1,λj a d=>?_⟩⟩
   .obtain⟨u,J⟩:=F o I;exact⟨u,join_some J⟩
   .obtain⟨c1,c2,p⟩:=(A i e hi).2 j a d;exact⟨join_some c1,s c2 (f e (ZH hi) a (ZH d)),p⟩
 .obtain⟨N,t,M,rfl,m,w,n⟩:=g;refine⟨N,t,M,U,y m,w,λj a d=>?_⟩;obtain⟨c1,c2,p⟩:=n j a d;exact⟨join_some c1,s c2 (f a (ZH d)),p⟩
theorem qJ (h:Apart H E):Apart E H:=⟨h.Q3,h.ω,λb a c=>h.obj b c a⟩
theorem z1 (u:Holds S W9 Sz H) (n:Holds VZ PD Ss E) (M:Apart H E) (O:∃w,Fits H w/\Fits E w) (D:∀r∈Ss,T1 r) (P:∀r∈Sz,Mw r/\YR 0 r) (ab:∀(id:Nat) (r:Row) (b N:Nat),Sz[id]?=some r->W9[id]?=some (some (b,N))->∀o,VZ b o=none) :
  Holds (S.plus VZ) (PD++W9) (Ss++Sz) (join H E)/\ZJ VZ (S.plus VZ) PD (PD++W9) Ss (Ss++Sz)/\∀b o v,S b o=some v->S.plus VZ b o=some v:=by
 obtain⟨F,l1,l2⟩:=Ej u.bare n M O D;obtain⟨w,ad,ae⟩:=O;have Q:ZJ (S.plus VZ) (S.plus VZ) PD (PD++W9) Ss (Ss++Sz):=⟨λ_ _ _ h=>h,λid r d=>⟨r,by rw[YN (ZR.1 d).1];exact d,by
  rw[YN (by rw[n.len];exact(ZR.1 d).1)];exact r.Tb _⟩⟩
 have split:∀(i:Nat) (r:Row) (bo:Option (Nat×Nat)),(Ss++Sz)[i]?=some r->(PD++W9)[i]?=some bo->(Ss[i]?=some r/\PD[i]?=some bo)\/∃j,i=Ss.length+j/\Sz[j]?=some r/\W9[j]?=some bo:=λi r bo hi y=>by
  by_cases R:i<Ss.length
  .rw[YN R] at hi;rw[YN (by rw[n.len];exact R)] at y;exact .inl ⟨hi,y⟩
  .rw[Xz I] at hi;rw[Xz (by rw[n.len];omega),n.len] at y;exact .inr ⟨i-Ss.length,I,hi,y⟩
 have af:∀(id:Nat) (r:Row) (b N:Nat),Ss[id]?=some r->PD[id]?=some (some (b,N))->∀o,H.ω b o=none:=λid r b N d y=>by
  obtain⟨t,k,l,rfl⟩:=D r (ZH d);obtain⟨ag,_,ah,_⟩:=n.row id _ _ d y;exact(Ek ad ae M ag ah).1
 have T:∀(i j:Nat) (g f:Row) (b p s:Nat),Ss[i]?=some g->Sz[j]?=some f->PD[i]?=some (some (b,p))->W9[j]?=some (some (b,s))->False:=λi j g f b p s hi C J K=>by
  obtain⟨o,x,V⟩:=(P f (ZH C)).1.has (u.row j f _ C K) U;rw[af i g b p hi J o] at V;cases V
 refine⟨⟨F.Zf,by simp[n.len,u.len],λid r bo d L=>?_,λi j g f b p s ai hi C W X J K=>?_,λid r b N d Y L o=>?_⟩,l2.trans Q,λb o v h=>Mz h⟩
 .rcases split id r bo d L with⟨a,c⟩|⟨j,rfl,a,c⟩
  .refine(F.row id r bo a c).later Q (λb N e=>⟨λ_=>rfl,U,U⟩) λm left al e=>?_;subst e;obtain⟨t,k,l,e⟩:=D _ (ZH a);cases e
  .obtain⟨aj,ak⟩:=P r (ZH a);exact(u.row j r bo a c).z2 aj ak λb o v h=>Mz h
 .rcases split i g _ hi J with⟨a,c⟩|⟨Z,rfl,a,c⟩<;>rcases split j f _ C K with⟨A,B⟩|⟨aa,rfl,A,B⟩
  .exact n.inj i j g f b p s ai a A W X c B
  .exact T i aa g f b p s a A c B
  .exact T j Z f g b s p A a B c
  .exact u.inj Z aa g f b p s I a A W X c B
 .rcases split id r _ d L with⟨a,c⟩|⟨j,rfl,a,c⟩
  .exact F.sep id r b N a Y c o
  .rw[JD (u.sep j r b N a Y c o)];exact ab j r b N a c o
def Vp (c:Nat) (a:TypeId×Nat) (f:Nat->Option (Value×Bool)):Υ:=⟨λb o=>if b=c then f o else none,λb=>if b=c then some a else none,λ_=>none⟩
def T0 (S:ς) (c:Nat) (a:TypeId×Nat) (f:Nat->Option (Value×Bool)):Υ:=join (Vf S) (Vp c a f)
variable {c q M:Nat} {t:TypeId} {f:Nat->Option (Value×Bool)} {l:ψ} {w:Nat->Value}
theorem Gw (a:∀o,S c o=none) (o:Nat):(T0 S c (t,M) f).ω c o=f o:=by
 unfold T0;rw[join_none (by simp[Vf,a])];simp[Vp]
theorem Gv {b:Nat} (a:b≠c) (o:Nat):(T0 S c (t,M) f).ω b o=(Vf S).ω b o:=by
 unfold T0;cases h:(Vf S).ω b o with
 | some x=>rw[join_some h]
 | none=>rw[join_none h];simp[Vp,a]
theorem z0 {b:Nat}:(T0 S c (t,M) f).row b=if b=c then some (t,M) else none:=rfl
theorem qI (h:∀o,S c o=none) (k:∀(j:Nat) (a:Ψ),l[j]?=some a->f (q+j)=some (w j,true)/\Θ S [] [] a (w j)/\One (w j)/\η 0 a) (N:Nat):Holds S [some (c,N)] [.own c q l] (T0 S c (t,M) f):=by
 refine⟨λb o v hv=>?_,U,λid r bo d e=>?_,λi j x y b A B m hi g=>?_,λid r b C d _ e o=>?_⟩
 .exact⟨false,by unfold T0;exact join_some (JE hv)⟩
 .match id,d,e with
  | 0,d,e=>
   cases d;cases e;refine⟨N,t,M,U,by rw[z0,if_pos U],w,λj a g=>?_⟩;obtain⟨n,p,s,u⟩:=k j a g;exact⟨by rw[Gw h];exact n,p.any u _ _,s⟩
  | id+1,d,_=>simp at d
 .match i,j,hi,g with
  | 0,0,_,_=>exact absurd rfl m
  | i+1,_,hi,_=>simp at hi
  | 0,j+1,_,g=>simp at g
 .match id,d,e with
  | 0,d,e=>cases e;exact h o
  | id+1,d,_=>simp at d
theorem zZ {l:ψ} {v:Value} {j:Nat} {a':Ψ} (h:Θ S B σ (.Ν l) v) (f:∀a u,l[j]?=some a->Θ S B σ a u->Θ S B σ a' u):Θ S B σ (.Ν (l.set j a')) v:=by
 cases h with
 | Ν b o w g d=>
  refine .Ν b o w (λi a hi=>?_) (λi a hi=>?_)
  .have c:i<l.length:=by simpa using (ZR.1 hi).1
   exact g i _ (Z4 c)
  .have c:i<l.length:=by simpa using (ZR.1 hi).1
   by_cases e:j=i
   .subst e;rw[Xs c] at hi;cases hi;exact f _ _ (Z4 c) (d j _ (Z4 c))
   .rw[Xj e] at hi;exact d i a hi
end
end Go.TL
namespace Go.TL
open Go.Proofs.Tryz
open Go.Proofs
variable [Z1]
theorem La (a:ByteArray):a.toList=a.data.toList:=by
 have c:∀(n i:Nat) (r:List UInt8),a.size-i=n->ByteArray.toList.loop a i r=r.reverse++a.data.toList.drop i:=by
  intro n
  induction n with
  | zero=>
   intro i r h;unfold ByteArray.toList.loop;have b:a.data.toList.length=a.size:=Ω;rw[if_neg I,Qf I];simp
  | succ n d=>
   intro i r h;unfold ByteArray.toList.loop;have hi:i<a.size:=I;have b:i<a.data.toList.length:=by simpa using hi
   rw[if_pos hi,d (i+1) _ I,Ph b];have e:a.get! i=a.data.toList[i]:=by
    show a.data[i]! = _;rw[getElem!_pos a.data i hi];simp
   rw[e];simp
 have:=c _ 0 [] U;exact(show a.toList=ByteArray.toList.loop a 0 [] from rfl).trans (by simpa using this)
theorem PC (a b:ByteArray):(a.toList==b.toList)=decide (a=b):=by
 rw[La,La,Qd];simp only[beq_iff_eq,decide_eq_true_eq];constructor
 .intro h;obtain⟨⟨x⟩⟩:=a;obtain⟨⟨y⟩⟩:=b;simp at h;subst h;rfl
 .rintro rfl;rfl
theorem zY (s:ByteArray):(s=⟨#[]⟩)↔s.size=0:=by
 obtain⟨d⟩:=s;show(ByteArray.mk d=ByteArray.mk #[])↔d.size=0;simp
theorem JA (s:ByteArray):s.toList.isEmpty=decide (s.size=0):=by
 rw[La];obtain⟨d⟩:=s;show d.toList.isEmpty=decide (d.size=0);rw[<-Array.length_toList];cases d.toList<;>simp
def Vd (s:ByteArray) (p:Nat):Bool:=decide (97<=(s.get! p).toNat)&&decide ((s.get! p).toNat<=122)
def Xm (s:ByteArray):Bool:=(List.range s.size).all (Vd s)&&decide (1<=s.size)&&decide (s.size<=6)
theorem Jz {s:ByteArray}:Xm s=true↔(∀p,p<s.size->Vd s p=true)/\1<=s.size/\s.size<=6:=by
 simp[Xm,and_assoc]
theorem Jy {s:ByteArray} {p:Nat} (h:Vd s p=true):Utf8.decode s p=((s.get! p).toNat,1):=by
 simp only[Vd,Wm,decide_eq_true_eq] at h;unfold Utf8.decode;simp only[Nat.add_zero];rw[if_pos I]
theorem zX {s:ByteArray} {p:Nat} (h:Vd s p=false):(Utf8.decode s p).1<97\/122<(Utf8.decode s p).1:=by
 simp only[Vd,Bool.and_eq_false_iff,decide_eq_false_iff_not] at h;unfold Utf8.decode;simp only[Nat.add_zero];split
 .simp only;omega
 .have e:Utf8.runeError=65533:=rfl;split
  .split<;>(simp only[e];omega)
  .split
   .split
    .rename_i a;simp only[Wm,decide_eq_true_eq] at a;simp only;omega
    .simp only[e];omega
   .split
    .split
     .rename_i a;simp only[Wm,decide_eq_true_eq] at a;simp only;omega
     .simp only[e];omega
    .simp only[e];omega
theorem qH (n lo hi:Int):Τ prog 177 [J n,J lo,J hi] (ZV (decide (lo<=n)&&decide (n<=hi))):=by
 refine Μ.body Ο func177 U U ntmps177 U U Ω ?_;refine Φ ?_;by_cases h:lo<=n
 .refine QL h ?_;refine Φ ?_;refine W.Y' ?_;simp[h]
 .refine QL h ?_;refine Φ ?_;refine W.Y' ?_;simp[h]
theorem qG (s:ByteArray) (u:s.size<2 ^ 40):Τ prog 139 [ZP s] (ZV (Xm s)):=by
 refine Μ.body Ο func139 U U ntmps139 U U Ω ?_;refine Φ ?_;refine W.iter (λp:Nat=>p<=s.size/\∀q,q<p->Vd s q=true) (λ_=>[(0,ZP s),(6,.it 0)]) (λp=>[.str s p]) (λp=>s.size-p) 0 ⟨Ζ _,λq f=>I⟩ U Ω (λp j l=>?_);by_cases g:p<s.size
 .refine Z9 g ?_;refine Ι U ?_;cases a:Vd s p with
  | true=>
   have hd:=Jy a
   have m:=a;simp only[Vd,Wm,decide_eq_true_eq] at m;have b:¬((s.get! p).toNat:Int)<97:=I;have i:¬(122:Int)<((s.get! p).toNat:Int):=I;rw[hd];refine Z9 (Ξ b i) ?_;refine Κ U ?_;refine Φ ?_;refine W.to (l (p+1) ⟨I,λq f=>?_⟩ I) U Ω;by_cases e:q=p
   .subst e;exact a
   .exact j.2 q I
  | false=>
   have k:Xm s=false:=by
    cases n:Xm s with
    | false=>rfl
    | true=>rw[(Jz.1 n).1 p g] at a;cases a
   have hd:=zX a;obtain⟨c,o⟩:=Z' ((Utf8.decode s p).1);rw[<-o] at hd ⊢;by_cases b:((c:Nat):Int)<97
   .refine Z9 b ?_;refine Ι U ?_;refine Φ ?_;refine W.drop (h:=0) (Ζ _) (Ζ _) Ω U [(2,ZV false)] Ω ?_;rw[k];refine W.rt ?_;exact .of U
   .have i:(122:Int)<(c:Nat):=I
    refine Z9 (Ξ b i) ?_;refine Ι U ?_;refine Φ ?_;refine W.drop (h:=0) (Ζ _) (Ζ _) Ω U [(2,ZV false)] Ω ?_;rw[k];refine W.rt ?_;exact .of U
 .refine Z9 g ?_;refine Κ U ?_;refine W.exit U ?_;have v:p=s.size:=I;have e:Xm s=(decide (1<=s.size)&&decide (s.size<=6)):=by
   unfold Xm;have:(List.range s.size).all (Vd s)=true:=by
    rw[XJ];intro q f;exact j.2 q (by have:=VN.1 f;omega)
   rw[this];simp
  refine υ λw r=>?_;refine Τ.d (qH s.size 1 6) (Δ ?_);apply r;refine Φ ?_;refine W.drop (h:=0) (Ζ _) (Ζ _) Ω U [(2,ZV (decide ((1:Int)<=s.size)&&decide ((s.size:Int)<=6)))] Ω ?_;have t:(decide ((1:Int)<=s.size)&&decide ((s.size:Int)<=6))=(decide (1<=s.size)&&decide (s.size<=6)):=by congr 1<;>(rw[decide_eq_decide];omega)
  rw[e,t];refine W.rt ?_;exact .of U
theorem D8 (s:ByteArray) (u:s.size<2 ^ 40):Τ prog 91 [ZP s] (ZV (Xm s)):=by
 refine Μ.body Ο func91 U U ntmps91 U U Ω ?_;refine Φ ?_;refine W.iter (λp:Nat=>p<=s.size/\∀q,q<p->Vd s q=true) (λ_=>[(0,ZP s),(6,.it 0)]) (λp=>[.str s p]) (λp=>s.size-p) 0 ⟨Ζ _,λq d=>I⟩ U Ω (λp j m=>?_);by_cases f:p<s.size
 .refine Z9 f ?_;refine Ι U ?_;cases a:Vd s p with
  | true=>
   have hd:=Jy a
   have n:=a;simp only[Vd,Wm,decide_eq_true_eq] at n;have b:¬((s.get! p).toNat:Int)<97:=I;have g:¬(122:Int)<((s.get! p).toNat:Int):=I;rw[hd];refine Z9 (Ξ b g) ?_;refine Κ U ?_;refine Φ ?_;refine W.to (m (p+1) ⟨I,λq d=>?_⟩ I) U Ω;by_cases e:q=p
   .subst e;exact a
   .exact j.2 q I
  | false=>
   have k:Xm s=false:=by
    cases o:Xm s with
    | false=>rfl
    | true=>rw[(Jz.1 o).1 p f] at a;cases a
   have hd:=zX a;obtain⟨c,r⟩:=Z' ((Utf8.decode s p).1);rw[<-r] at hd ⊢;by_cases b:((c:Nat):Int)<97
   .refine Z9 b ?_;refine Ι U ?_;refine Φ ?_;refine W.drop (h:=0) (Ζ _) (Ζ _) Ω U [(2,ZV false)] Ω ?_;rw[k];refine W.rt ?_;exact .of U
   .have g:(122:Int)<(c:Nat):=I
    refine Z9 (Ξ b g) ?_;refine Ι U ?_;refine Φ ?_;refine W.drop (h:=0) (Ζ _) (Ζ _) Ω U [(2,ZV false)] Ω ?_;rw[k];refine W.rt ?_;exact .of U
 .refine Z9 f ?_;refine Κ U ?_;refine W.exit U ?_;have v:p=s.size:=I;have e:Xm s=(decide (1<=s.size)&&decide (s.size<=6)):=by
   unfold Xm;have:(List.range s.size).all (Vd s)=true:=by
    rw[XJ];intro q d;exact j.2 q (by have:=VN.1 d;omega)
   rw[this];simp
  have l:=JA s;by_cases i:s.size=0
  .refine Z9 (Ξ l i) ?_;refine W.drop (h:=0) (Ζ _) (Ζ _) Ω U [(2,ZV false)] Ω ?_;rw[e,i];refine W.rt ?_;exact .of U
  .refine Z9 (Ξ l i) ?_;refine W.drop (h:=0) (Ζ _) (Ζ _) Ω U [(2,ZV (decide ((s.size:Int)<=6)))] Ω ?_;have t:decide ((s.size:Int)<=6)=(decide (1<=s.size)&&decide (s.size<=6)):=by
    rw[decide_eq_true (show 1<=s.size by omega),Bool.true_and];exact decide_eq_decide.2 I
   rw[e,t];refine W.rt ?_;exact .of U
end Go.TL
namespace Go.TL
open Go.Proofs.Tryz
open Go.Proofs
structure VA where
 Xe:ByteArray
 lo:Int
 hi:Int
deriving DecidableEq
structure ZZ where
 ZT:List (List ByteArray)
 left:ByteArray
 right:ByteArray
 words:List ByteArray
 ZC:List VA
 UT:Int
 US:Int
 W2:Int
 UB:Int
 ZX:Y6
 lower:Bool
abbrev Yw (l:List ByteArray):Ψ:=.sl false 1 (l.map ZP)
abbrev UA (l:List (List ByteArray)):Ψ:=.sl false 1 (l.map Yw)
abbrev Uo (b:VA):Ψ:=.Z6 [ZP b.Xe,J b.lo,J b.hi]
abbrev PB (l:List VA):Ψ:=.sl false 3 (l.map Uo)
abbrev Y5 (g:ZZ):ψ:=[UA g.ZT,ZP g.left,ZP g.right,Yw g.words,PB g.ZC,J g.UT,J g.US,J g.W2,J g.UB,WO g.ZX.ZN,Ya g.ZX.ZF,S5 g.ZX.cells,ZV g.lower]
abbrev YT (g:ZZ):Ψ:=.Z6 (Y5 g)
variable [Z1]
def NK (l:List ByteArray):Int:=if l.all Xm then 0 else 2
def D7 (l:List ByteArray):Prop:=l.length<2 ^ 40/\∀s∈l,s.size<2 ^ 40
theorem qF (l:List ByteArray) (f:D7 l):Τ prog 90 [Yw l] (J (NK l)):=by
 have n:=f.1;refine Μ.body Ο func90 U U ntmps90 U U Ω ?_;refine Φ ?_;refine W.iter (λi:Nat=>i<=l.length/\∀j,j<i->∀h:j<l.length,Xm l[j]=true) (λi=>[(5,Yw l),(6,J l.length),(7,J i)]) (λ_=>[]) (λi=>l.length-i) 0 ⟨Ζ _,λj b=>I⟩ U Ω (λi hi g=>?_);refine Φ ?_;refine W.Yl U (λa=>?_) (λa=>?_)
 .have a:i<l.length:=by simpa using a
  refine Z9 a ?_;refine υ λo k=>?_;refine Τ.d (qG l[i] (f.2 _ (Yq a))) (Δ ?_);apply k;cases c:Xm l[i] with
  | true=>
   refine Κ U ?_;refine Φ ?_;refine W.to (g (i+1) ⟨a,λj b h=>?_⟩ I) U (by simp[Y9 a (show l.length<2 ^ 62 by omega)]);by_cases e:j=i
   .subst e;exact c
   .exact hi.2 j I h
  | false=>
   refine Ι U ?_;refine Φ ?_;have e:NK l=2:=by
    unfold NK;rw[if_neg (λh=>by rw[XJ] at h;rw[h _ (Yq a)] at c;cases c)]
   rw[e];refine W.rt ?_;exact .of U
 .have a:l.length<=i:=by simpa using a
  refine W.exit U ?_;refine Φ ?_;have e:NK l=0:=by
   unfold NK;rw[if_pos];rw[XJ];intro s m;obtain⟨j,b,rfl⟩:=Om m;exact hi.2 j I b
  rw[e];refine W.rt ?_;exact .of U
def Ri (c:List ByteArray):Int:=if 8<c.length then 6 else NK c
def UR (C:List (List ByteArray)):Int:=if C.length<1 then 7 else if 4<C.length then 6 else XB (C.map Ri)
def Gu (C:List (List ByteArray)):Prop:=C.length<2 ^ 40/\∀c∈C,D7 c
theorem zW (C:List (List ByteArray)) (g:Gu C):Τ prog 40 [.Z6 [UA C]] (J (UR C)):=by
 have w:=g.1;refine Μ.body Ο func40 U U ntmps40 U U Ω ?_;refine Φ ?_;by_cases f:C.length<1
 .refine Ι (by simp;omega) ?_;refine Φ ?_;have e:UR C=7:=by unfold UR;rw[if_pos f]
  rw[e];refine W.rt ?_;exact .of U
 refine Κ (by simp;omega) ?_;refine Φ ?_;by_cases k:4<C.length
 .refine Ι (by simp;omega) ?_;refine Φ ?_;have e:UR C=6:=by unfold UR;rw[if_neg f,if_pos k]
  rw[e];refine W.rt ?_;exact .of U
 refine Κ (by simp;omega) ?_;refine Φ ?_;have o:UR C=XB (C.map Ri):=by unfold UR;rw[if_neg f,if_neg k]
 rw[o];refine W.iter (λi:Nat=>i<=C.length/\∀j,j<i->∀h:j<C.length,Ri C[j]=0) (λi=>[(17,UA C),(18,J C.length),(19,J i)]) (λ_=>[]) (λi=>C.length-i) 0 ⟨Ζ _,λj b=>I⟩ U Ω (λi hi p=>?_);refine Φ ?_;refine W.Yl U (λa=>?_) (λa=>?_)
 .have a:i<C.length:=by simpa using a
  have m:Ri C[i]≠0->XB (C.map Ri)=Ri C[i]:=λr=>by
   have:=Hf (l:=C.map Ri) (i:=i) (by simpa using a) (by simpa using r) (λj b h=>by simpa using hi.2 j b (by simpa using h));simpa using this
  refine Z9 a ?_;have s:=g.2 _ (Yq a);by_cases n:8<C[i].length
  .have e:Ri C[i]=6:=by unfold Ri;rw[if_pos n]
   rw[m (by rw[e];decide),e];refine Ι (by simp;omega) ?_;refine Φ ?_;refine W.rt ?_;exact .of U
  have e:Ri C[i]=NK C[i]:=by unfold Ri;rw[if_neg n]
  refine Κ (by simp;omega) ?_;refine υ λx t=>?_;refine Τ.d (qF C[i] s) (Δ ?_);apply t;refine Φ ?_;by_cases c:NK C[i]=0
  .refine Κ (by simp[c]) ?_;refine Φ ?_;refine W.to (p (i+1) ⟨a,λj b h=>?_⟩ I) U (by simp[Y9 a (show C.length<2 ^ 62 by omega)]);by_cases u:j=i
   .subst u;rw[e];exact c
   .exact hi.2 j I h
  .rw[m (by rw[e];exact c),e];refine Ι (by simp[c]) ?_;refine Φ ?_;refine W.rt ?_;exact .of U
 .have a:C.length<=i:=by simpa using a
  refine W.exit U ?_;refine Φ ?_;have e:XB (C.map Ri)=0:=He λj b=>by
   have v:j<C.length:=by simpa using b
   simpa using hi.2 j I v
  rw[e];refine W.rt ?_;exact .of U
def SU (lo hi a b:Int):Int:=if lo<a\/hi > b\/hi<a\/lo > b then 1 else if lo > hi then 5 else 0
theorem D6 (lo hi a b:Int):Τ prog 46 [.Z6 [J lo,J hi],J a,J b] (J (SU lo hi a b)):=by
 refine Μ.body Ο func46 U U ntmps46 U U Ω ?_;refine Φ ?_;have f:(lo<a\/hi > b\/hi<a\/lo > b)->SU lo hi a b=1:=λh=>by unfold SU;rw[if_pos h]
 by_cases c:lo<a
 .refine Z9 c ?_;refine Ι U ?_;refine Φ ?_;rw[f (.inl c)];refine W.rt ?_;exact .of U
 by_cases d:hi > b
 .refine Z9 (Ξ c d) ?_;refine Ι U ?_;refine Φ ?_;rw[f (.inr (.inl d))];refine W.rt ?_;exact .of U
 by_cases g:hi<a
 .refine Z9 (Ξ c (Ξ d g)) ?_;refine Ι U ?_;refine Φ ?_;rw[f (.inr (.inr (.inl g)))];refine W.rt ?_;exact .of U
 by_cases j:lo > b
 .refine Z9 (Ξ c (Ξ d (Ξ g j))) ?_;refine Ι U ?_;refine Φ ?_;rw[f (.inr (.inr (.inr j)))];refine W.rt ?_;exact .of U
 have e:SU lo hi a b=if lo > hi then 5 else 0:=by unfold SU;rw[if_neg I]
 refine Z9 (Ξ c (Ξ d (Ξ g j))) ?_;refine Κ U ?_;refine Φ ?_;rw[e];by_cases i:lo > hi
 .rw[if_pos i];refine Ι (by simpa using i) ?_;refine Φ ?_;refine W.rt ?_;exact .of U
 .rw[if_neg i];refine Κ (by simpa using i) ?_;refine Φ ?_;refine W.rt ?_;exact .of U
end Go.TL
namespace Go.TL
open Go.Proofs.Tryz
open Go.Conc
variable [Z1]
section
variable {P:Program} {T:Z2} {A:κ} {m nt:Nat} {k:ZA} {env env':Β} {σ:Ρ} {Z:XD} {E:Yb} {ops:ZI} {lo pu ids:κ}
def SS (ids:κ):Ψ->Bool
 | .π id _ _ _=>ids.contains id
 | .ms id _ _ _=>ids.contains id
 | _=>false
def seen (ids:κ) (σ:Ρ):List (Option Row):=ids.map λid=>σ[id]?
def Jx (T:Z2) (A:κ) (env:Β) (o:Oper) (ids:κ) (σ:Ρ) (K:Ψ->Prop):Prop:=match o.op with
 | .load b x=>SS ids (ο env x)=true/\(WT T A env o).Yp (λ_=>False) ((Sa T b σ (ο env x)).Yp λa _=>K a)
 | .fieldAddr b x f=>SS ids (ο env x)=true/\(WT T A env o).Yp (λ_=>False) ((R' T b f σ (ο env x)).Yp λa _=>K a)
 | .indexAddr b x c=>SS ids (ο env x)=true/\(WT T A env o).Yp (λ_=>False) ((R9 T b σ (ο env x) (ο env c)).Yp λa _=>K a)
 | .nilCheck x=>SS ids (ο env x)=true/\(WT T A env o).Yp (λ_=>False) ((R7 σ (ο env x)).Yp λa _=>K a)
 | _=>False
theorem D5 {o:Oper} {ids:κ} {K:Ψ->Prop}:Jx T A env o ids σ K=match o.op with
 | .load b x=>SS ids (ο env x)=true/\(WT T A env o).Yp (λ_=>False) ((Sa T b σ (ο env x)).Yp λa _=>K a)
 | .fieldAddr b x f=>SS ids (ο env x)=true/\(WT T A env o).Yp (λ_=>False) ((R' T b f σ (ο env x)).Yp λa _=>K a)
 | .indexAddr b x c=>SS ids (ο env x)=true/\(WT T A env o).Yp (λ_=>False) ((R9 T b σ (ο env x) (ο env c)).Yp λa _=>K a)
 | .nilCheck x=>SS ids (ο env x)=true/\(WT T A env o).Yp (λ_=>False) ((R7 σ (ο env x)).Yp λa _=>K a)
 | _=>False:=X' rfl rfl
def Tz (P:Program) (T:Z2) (A:κ) (nt:Nat) (ops:ZI) (lo pu ids:κ):κ->Β->Ρ->List Bool->(Β->Ρ->Prop)->Prop
 | [],env,σ,tags,K=>OX (S7 lo pu) ops tags=true/\K env σ
 | i::is,env,σ,tags,K=>W' ops[i]? λo=>WS nt o=true/\W' (XG env ops o) λw=>
   Wt w (Tz P T A nt ops lo pu ids is (Zu o env .Zx) σ (tags++[false]) K)
    (Wt (!lo.contains i) (Jx T A env o ids σ λa=>Tz P T A nt ops lo pu ids is (Zu o env a) σ (tags++[true]) K)
     (OV P T A env o σ (λa=>Tz P T A nt ops lo pu ids is (Zu o env a) σ (tags++[false]) K) (λa σ'=>(pu.contains i=true->seen ids σ'=seen ids σ)/\Tz P T A nt ops lo pu ids is (Zu o env a) σ' (tags++[true]) K)))
theorem zV {tags:List Bool} {K:Β->Ρ->Prop}:Tz P T A nt ops lo pu ids [] env σ tags K=(OX (S7 lo pu) ops tags=true/\K env σ):=X' rfl rfl
theorem D4 {i:Nat} {is:κ} {tags:List Bool} {K:Β->Ρ->Prop}:Tz P T A nt ops lo pu ids (i::is) env σ tags K=W' ops[i]? λo=>WS nt o=true/\W' (XG env ops o) λw=>
   Wt w (Tz P T A nt ops lo pu ids is (Zu o env .Zx) σ (tags++[false]) K)
    (Wt (!lo.contains i) (Jx T A env o ids σ λa=>Tz P T A nt ops lo pu ids is (Zu o env a) σ (tags++[true]) K)
     (OV P T A env o σ (λa=>Tz P T A nt ops lo pu ids is (Zu o env a) σ (tags++[false]) K) (λa σ'=>(pu.contains i=true->seen ids σ'=seen ids σ)/\Tz P T A nt ops lo pu ids is (Zu o env a) σ' (tags++[true]) K))):=X' U U
theorem zU {i:V2} {l:ψ} (τ:Ρ):(QT i l).YX τ=match N3 i l with|some a=>.ok a τ|none=>.bad:=by
 unfold QT N3;split
 .split<;>rfl
 .cases l<;>rfl
theorem Jw {ids:κ} {τ:Ρ} {id:Nat} (h:seen ids τ=seen ids σ) (hi:ids.contains id=true):τ[id]?=σ[id]?:=by
 have a:=I3.1 hi;exact List.map_inj_left.1 h id a
theorem zT {ids:κ} {b:TypeId} {x:Ψ} {τ:Ρ} (d:seen ids τ=seen ids σ) (c:SS ids x=true):(∀a σ',Sa T b σ x=.ok a σ'->Sa T b τ x=.ok a τ)/\∀p r,Sa T b σ x≠.ZD p r:=by
 unfold Sa;split
 .rename_i id n i j;rw[Jw d c];split
  .split
   .split
    .rw[zU,zU];split
     .exact⟨λa σ' h=>(by cases h;rfl),nofun⟩
     .exact⟨nofun,nofun⟩
    .exact⟨nofun,nofun⟩
   .exact⟨nofun,nofun⟩
  .exact⟨nofun,nofun⟩
 .cases c
 .exact⟨nofun,nofun⟩
theorem zS {ids:κ} {b:TypeId} {f:Nat} {x:Ψ} {τ:Ρ} (c:seen ids τ=seen ids σ) (d:SS ids x=true):(∀a σ',R' T b f σ x=.ok a σ'->R' T b f τ x=.ok a τ)/\∀p r,R' T b f σ x≠.ZD p r:=by
 unfold R';split
 .rename_i id n i j;rw[Jw c d];split
  .split
   .exact⟨λa σ' h=>(by cases h;rfl),nofun⟩
   .exact⟨nofun,nofun⟩
  .exact⟨nofun,nofun⟩
 .exact⟨nofun,nofun⟩
theorem zR {ids:κ} {x:Ψ} {τ:Ρ} (b:seen ids τ=seen ids σ) (c:SS ids x=true):(∀a σ',R7 σ x=.ok a σ'->R7 τ x=.ok a τ)/\∀p r,R7 σ x≠.ZD p r:=by
 unfold R7;split
 .rename_i id n i j;rw[Jw b c];split
  .split
   .exact⟨λa σ' h=>(by cases h;rfl),nofun⟩
   .exact⟨nofun,nofun⟩
  .exact⟨nofun,nofun⟩
 .exact⟨nofun,nofun⟩
theorem zQ {ids:κ} {b:TypeId} {x c:Ψ} {τ:Ρ} (d:seen ids τ=seen ids σ) (e:SS ids x=true):(∀a σ',R9 T b σ x c≠.ok a σ')/\∀p a σ',R9 T b σ x c=.ZD p (.ok a σ')->R9 T b τ x c=.ZD p (.ok a τ):=by
 unfold R9;split
 .split
  .rename_i id m i len;rw[Jw d e];split
   .split
    .exact⟨nofun,λp a σ' h=>(by cases h;rfl)⟩
    .exact⟨nofun,nofun⟩
   .exact⟨nofun,nofun⟩
  .exact⟨nofun,nofun⟩
 .split
  .rename_i id m i j;rw[Jw d e];split
   .split
    .exact⟨nofun,λp a σ' h=>(by cases h;rfl)⟩
    .exact⟨nofun,nofun⟩
   .exact⟨nofun,nofun⟩
  .exact⟨nofun,nofun⟩
 .exact⟨nofun,nofun⟩
theorem qE (s:ZL P T) {i:Nat} {o:Oper} {K:Ψ->Prop} (t:ops[i]?=some o) (hd:WS nt o=true) (u:XG env ops o=some true) (h:Jx T A env o ids σ K) :
  ∃a,We o=true/\(∀τ:Ρ,seen ids τ=seen ids σ->NZ P m nt k Z E ops i o env τ a τ)/\K a:=by
 unfold Jx at h;split at h
 .rename_i v x b;obtain⟨g,h⟩:=h;unfold Zl.Yp at h;split at h
  .exact h.elim
  .exact h.2.elim
  .exact h.elim
  .rename_i l;unfold Zi.Yp at h;split at h
   .rename_i a σ' d;refine⟨a,by unfold We;rw[b],λτ n env' rest e r=>?_,h⟩;refine .op (A:=A) s t (by rw[U2 e];exact u) hd (λc j=>by rw[b] at j;cases j) ?_;have:Xa T A env τ o=.ok a τ:=by unfold Xa;rw[b];exact(zT n g).1 a σ' d
    rw[QN e,NY e,l,this];exact r
   .rename_i p a σ' d;exact absurd d ((zT (σ:=σ) (τ:=σ) U g).2 _ _)
   .exact h.elim
 .rename_i v x f b;obtain⟨g,h⟩:=h;unfold Zl.Yp at h;split at h
  .exact h.elim
  .exact h.2.elim
  .exact h.elim
  .rename_i l;unfold Zi.Yp at h;split at h
   .rename_i a σ' d;refine⟨a,by unfold We;rw[b],λτ n env' rest e r=>?_,h⟩;refine .op (A:=A) s t (by rw[U2 e];exact u) hd (λc j=>by rw[b] at j;cases j) ?_;have:Xa T A env τ o=.ok a τ:=by unfold Xa;rw[b];exact(zS n g).1 a σ' d
    rw[QN e,NY e,l,this];exact r
   .rename_i p a σ' d;exact absurd d ((zS (σ:=σ) (τ:=σ) U g).2 _ _)
   .exact h.elim
 .rename_i v x w b;obtain⟨g,h⟩:=h;unfold Zl.Yp at h;split at h
  .exact h.elim
  .exact h.2.elim
  .exact h.elim
  .rename_i l;unfold Zi.Yp at h;split at h
   .rename_i a σ' d;exact absurd d ((zQ (σ:=σ) (τ:=σ) U g).1 _ _)
   .rename_i p a σ' d;refine⟨a,by unfold We;rw[b],λτ n env' rest e r=>?_,h.2⟩;refine .op (A:=A) s t (by rw[U2 e];exact u) hd (λc j=>by rw[b] at j;cases j) ?_;have:Xa T A env τ o=.ZD p (.ok a τ):=by unfold Xa;rw[b];exact(zQ n g).2 p a σ' d
    rw[QN e,NY e,l,this];exact⟨h.1,r⟩
   .exact h.elim
 .rename_i x b;obtain⟨g,h⟩:=h;unfold Zl.Yp at h;split at h
  .exact h.elim
  .exact h.2.elim
  .exact h.elim
  .rename_i l;unfold Zi.Yp at h;split at h
   .rename_i a σ' d;refine⟨a,by unfold We;rw[b],λτ n env' rest e r=>?_,h⟩;refine .op (A:=A) s t (by rw[U2 e];exact u) hd (λc j=>by rw[b] at j;cases j) ?_;have:Xa T A env τ o=.ok a τ:=by unfold Xa;rw[b];exact(zR n g).1 a σ' d
    rw[QN e,NY e,l,this];exact r
   .rename_i p a σ' d;exact absurd d ((zR (σ:=σ) (τ:=σ) U g).2 _ _)
   .exact h.elim
 .exact h.elim
theorem qD (F:ZL P T) {i:Nat} {o:Oper} {H:Ψ->Prop} {I:Ψ->Ρ->Prop} (n:ops[i]?=some o) (hd:WS nt o=true) (t:XG env ops o=some true) (h:OV P T A env o σ H I) :
  ∃a σ' v,VS P m nt k Z E ops i o env σ v a σ'/\(v=false->H a/\σ'=σ)/\(v=true->I a σ'):=by
 unfold OV at h;split at h
 .rename_i f args ts u;have J:∀env',R6 ops o env env'->ο env' f=ο env f/\args.toList.map (ο env')=args.toList.map (ο env):=λenv' b=>by
   have w:=J7 b;rw[u] at w;refine⟨w f (by simp[Op.operands,Call.operands]),J6 λx O=>w x (by simp[Op.operands,Call.operands,O])⟩
  rcases h with⟨r,g,h⟩|⟨r,σ',g,h⟩
  .refine⟨r,σ,false,?_,λ_=>⟨h,U⟩,nofun⟩;unfold VS;simp only[Xq,if_false];refine⟨λenv' σ' rest b j=>.call n (by rw[U2 b];exact t) hd u ?_,trivial⟩;obtain⟨B,C⟩:=J env' b;rw[B,C];exact(g σ').mono (λa s ⟨x,y⟩=>by subst x;subst y;exact j) (λ_ _ h=>h.elim)
  .refine⟨r,σ',true,?_,nofun,λ_=>h⟩;unfold VS;simp only[if_true];refine⟨?_,λd=>by unfold We at d;rw[u] at d;cases d⟩;refine λenv' rest b j=>.call n (by rw[U2 b];exact t) hd u ?_;obtain⟨B,C⟩:=J env' b;rw[B,C];exact g.mono (λa s ⟨x,y⟩=>by subst x;subst y;exact j) (λ_ _ h=>h.elim)
 .exact h.elim
 .exact h.elim
 .rename_i S V L;have M:∀(r:Zl) (a:Ψ),WT T A env o=r->(∀K:Ψ->Ρ->Prop,∀s,K a s->(r.YX s).holds K)->(∀σ s,r.or σ s=r.YX σ)->N0 P m nt k Z E ops i o env a:=λr a d D Q env' σ' rest b j=>by
   refine .op (A:=A) F n (by rw[U2 b];exact t) hd (λc g=>L c g) ?_;rw[QN b,d,Q];exact D _ _ j
  unfold Zl.Yp at h;split at h
  .rename_i a e;refine⟨a,σ,false,?_,λ_=>⟨h,U⟩,nofun⟩;unfold VS;simp only[Xq,if_false];exact⟨M _ a e (λK s l=>l) (λ_ _=>rfl),trivial⟩
  .rename_i p a e;refine⟨a,σ,false,?_,λ_=>⟨h.2,U⟩,nofun⟩;unfold VS;simp only[Xq,if_false];exact⟨M _ a e (λK s l=>⟨h.1,l⟩) (λ_ _=>rfl),trivial⟩
  .exact h.elim
  .rename_i R;have N:∀(a:Ψ) (σ':Ρ) (r:Zi),Xa T A env σ o=r->(∀K:Ψ->Ρ->Prop,K a σ'->r.holds K)->NZ P m nt k Z E ops i o env σ a σ':=λa σ' r d D env' rest b j=>by
    refine .op (A:=A) F n (by rw[U2 b];exact t) hd (λc g=>L c g) ?_;rw[QN b,NY b,R,d];exact D _ j
   unfold Zi.Yp at h;split at h
   .rename_i a σ' e;refine⟨a,σ',true,?_,nofun,λ_=>h⟩;unfold VS;simp only[if_true];exact⟨N a σ' _ e λK l=>l,λd=>LA (p:=True) d (.inl e)⟩
   .rename_i p a σ' e;refine⟨a,σ',true,?_,nofun,λ_=>h.2⟩;unfold VS;simp only[if_true];exact⟨N a σ' _ e λK l=>⟨h.1,l⟩,λd=>LA d (.inr e)⟩
   .exact h.elim
def D3 (lo pu ids:κ) (P:Program) (m nt:Nat) (k:ZA) (Z:XD) (E:Yb) (ops:ZI) (i:Nat) (o:Oper) (env:Β) (σ:Ρ) (b:Bool) (a:Ψ) (σ':Ρ):Prop:=
 VS P m nt k Z E ops i o env σ b a σ'/\(lo.contains i=true->b=true->We o=true/\∀τ:Ρ,seen ids τ=seen ids σ->NZ P m nt k Z E ops i o env τ a τ)/\(pu.contains i=true->seen ids σ'=seen ids σ)
theorem qC (p:ZL P T) {i:Nat} {is:κ} {tags:List Bool} {K:Β->Ρ->Prop} (h:Tz P T A nt ops lo pu ids (i::is) env σ tags K) :
  ∃o a σ' d,ops[i]?=some o/\D3 lo pu ids P m nt k Z E ops i o env σ d a σ'/\Tz P T A nt ops lo pu ids is (Zu o env a) σ' (tags++[d]) K:=by
 unfold Tz W' at h;split at h
 .exact h.elim
 .rename_i o b;obtain⟨hd,h⟩:=h;split at h
  .exact h.elim
  rename_i w j;unfold Wt at h;cases w
  .replace h:=h.1 U
   refine⟨o,.Zx,σ,false,b,⟨?_,λ_ h=>(by cases h),λ_=>rfl⟩,h⟩;unfold VS;simp only[Xq,if_false];exact⟨λenv' σ' rest r s=>.unwanted b (by rw[U2 r];exact j) hd s,trivial⟩
  .replace h:=h.2 U
   cases e:lo.contains i with
   | true=>
    rw[e] at h;obtain⟨a,f,g,l⟩:=qE (m:=m) (k:=k) (Z:=Z) (E:=E) p b hd j (h.1 U);refine⟨o,a,σ,true,b,⟨?_,λ_ _=>⟨f,g⟩,λ_=>rfl⟩,l⟩;unfold VS;simp only[if_true];exact⟨g σ U,λ_=>trivial⟩
   | false=>
    rw[e] at h;obtain⟨a,σ',d,f,g,l⟩:=qD (m:=m) (k:=k) (Z:=Z) (E:=E) p b hd j (h.2 U);cases d with
    | false=>
     obtain⟨n,rfl⟩:=g U;exact⟨o,a,σ',false,b,⟨f,λc=>(by rw[e] at c;cases c),λ_=>rfl⟩,n⟩
    | true=>
     obtain⟨n,t⟩:=l U;exact⟨o,a,σ',true,b,⟨f,λc=>(by rw[e] at c;cases c),n⟩,t⟩
theorem qB (t:ZL P T) {K:Β->Ρ->Prop} {env0:Β}:∀(d i:Nat) (tags:List Bool) (as9:Nat->Ψ) (σs:Nat->Ρ),i+d=ops.size->tags.length=i->
  (∀j o,j<i->ops[j]?=some o->D3 lo pu ids P m nt k Z E ops j o (Zc ops env0 as9 (λ_=>true) j) (σs j) (tags.getD j false) (as9 j) (σs (j+1)))->
  Tz P T A nt ops lo pu ids (List.range' i d) (Zc ops env0 as9 (λ_=>true) i) (σs i) tags K->
  ∃(tags:List Bool) (as9:Nat->Ψ) (b:Nat->Ρ),OX (S7 lo pu) ops tags=true/\b 0=σs 0/\(∀j o,ops[j]?=some o->D3 lo pu ids P m nt k Z E ops j o (Zc ops env0 as9 (λ_=>true) j) (b j) (tags.getD j false) (as9 j) (b (j+1)))/\K (Zc ops env0 as9 (λ_=>true) ops.size) (b ops.size):=by
 intro d
 induction d with
 | zero=>
  intro i tags as9 σs hi n g h;simp only[List.range'_zero,Tz] at h;have:i=ops.size:=I;subst this;exact⟨tags,as9,σs,h.1,U,λj o f=>g j o (Tr.1 f).1 f,h.2⟩
 | succ d u=>
  intro i tags as9 σs hi n g h;rw[List.range'_succ] at h;obtain⟨o,a,σ',l,f,v,h⟩:=qC (m:=m) (k:=k) (Z:=Z) (E:=E) t h;let c:Nat->Ψ:=λj=>if j=i then a else as9 j
  let b:Nat->Ρ:=λj=>if j=i+1 then σ' else σs j
  have p:∀j,j<=i->Zc ops env0 as9 (λ_=>true) j=Zc ops env0 c (λ_=>true) j:=λj g=>E7 j λx L=>by simp only[c];rw[if_neg I]
  have w:Zc ops env0 c (λ_=>true) (i+1)=Zu o (Zc ops env0 as9 (λ_=>true) i) a:=by
   simp only[Zc,if_true,f];rw[<-p i (ZY i)];simp only[c,if_true]
  have:=u (i+1) (tags++[l]) c b I (by simp[n]) (λj y M r=>?_) ?_
  .obtain⟨t2,B,C,D,F,H,J⟩:=this;exact⟨t2,B,C,D,F.trans (by simp only[b];rw[if_neg I]),H,J⟩
  .by_cases e:j=i
   .subst e;rw[f] at r;cases r;rw[<-p j (ZY j)];have s:(tags++[l]).getD j false=l:=by rw[V7,Xz I,n];simp
    rw[s];simp only[c,b,if_true];rw[if_neg I];exact v
   .have:=g j y I r;rw[<-p j I];have s:(tags++[l]).getD j false=tags.getD j false:=by rw[V7,YN I,<-V7]
    rw[s];simp only[c,b];rw[if_neg I,if_neg I,if_neg I];exact this
  .rw[w];simp only[b,if_true];exact h
theorem W.zP (lo pu ids:κ) (u:ZL P T) (w:P.follows .mixedOrders=true) {id:Nat} (h:∀g:Β->Ρ->Prop,(∀env σ,W P m nt k env σ Z E->g env σ)->Tz P T A nt ops lo pu ids (idx ops.size []) env σ [] g):W P m nt (.code (.region id ops true)::k) env σ Z E:=by
 have l:=h (λenv σ=>W P m nt k env σ Z E) λ_ _ h=>h;rw[idx_eq,I1] at l;obtain⟨tags,as9,σs,y,C,d,D⟩:=qB (m:=m) (k:=k) (Z:=Z) (E:=E) (env0:=env) u ops.size 0 [] (λ_=>.Zx) (λ_=>σ) I U (λj o F=>I) l;intro J mn x cs b S B H t p r f K L;refine .draw p r λn=>?_;have s:=W.BJ (lo:=lo) (pu:=pu) (v:=seen ids) (P:=P) (m:=m) (nt:=nt) (k:=k) (Z:=Z) (E:=E) (ops:=ops) (as9:=as9) (σs:=σs) (tags:=tags) (env0:=env) y
  (λi o a c=>by have:=(d i o a).1;unfold VS at this;rw[c] at this;simpa using this)
  (λi o a c=>by have:=(d i o a).1;unfold VS at this;rw[c] at this;simpa using this)
  (λi o a e c=>(d i o a).2.1 e c) (λi o a f=>(d i o a).2.2 f)
  (.ZM D) ops.size n (Array.replicate ops.size false) env 0 Ω (λi=>?_) (λi o a e=>?_) (Ζ _) (λj F _=>?_) ?_
 .rw[C] at s;rw[w];simp only[Region.schedule,Bool.true_or,if_true,Region.linearise];exact s J mn x cs b S B H t p r f K L
 .have:∀n,Zc ops env as9 (λi=>(Array.replicate ops.size false).getD i false) n=env:=by
   intro n
   induction n with
   | zero=>rfl
   | succ n M=>
    simp only[Zc];have:(Array.replicate ops.size false).getD n false=false:=by
     rw[Wn,Nx];split<;>rfl
    rw[if_neg (by rw[this];simp)];exact M
  rw[this]
 .have:(Array.replicate ops.size false).getD i false=false:=by
   rw[Wn,Nx];split<;>rfl
  rw[this] at e;cases e
 .have:(Array.replicate ops.size false).getD j false=false:=by
   rw[Wn,Nx];split<;>rfl
  rw[this];simp
 .have:=Mc (λi=>!(Array.replicate ops.size false).getD i false) (List.range ops.size);simpa using this
end
end Go.TL
namespace Go.TL
open Go.Proofs.Tryz
open Go.Proofs Go.Conc
variable [Z1]
theorem qA:QM prog 196 Extern.AbiNoEscape.same:=⟨_,func196,by kernel_rfl,by kernel_rfl,by kernel_rfl,by kernel_rfl⟩
theorem qz:QM prog 197 (Extern.BytealgMakeNoZero.makeNoZero #[3] #[179]):=⟨_,func197,by kernel_rfl,by kernel_rfl,by kernel_rfl,by kernel_rfl⟩
theorem qy {a:Ψ} {σ:Ρ} {K E:Ψ->Ρ->Prop} (b:K a σ):Yg prog (.fn (.func 196) [] []) [a] σ K E:=
 .ext qA λS B H vs c hv=>by
  match vs,hv.1 with
  | ⟨[v]⟩,_=>exact Χ.pure' (.same c b (hv.2 0 _ _ rfl rfl))
abbrev Un (a b:Ψ):Row:=.cells 181 2 [.Z6 [a,b]]
abbrev VY:Ψ:=.π 0 1 0 0
abbrev zO:Ψ:=.z (.pointer none)
abbrev Gt:Ψ:=.ε []
abbrev RX (l:ψ):Row:=.cells 5 1 l
theorem qx (b:Ψ) (c:b.cells=[b]) (rest:Ρ):Μ prog 144 [VY] (Un zO b::rest) (λa s=>a=Gt/\s=Un VY b::rest) (λ_ _=>False):=by
 refine Μ.body Ο func144 U U ntmps144 U U Ω ?_;refine Φ ?_;refine Ι U ?_;refine υ λe d=>?_;refine qy ?_;simp;(repeat (rw[Η];simp[c]));apply d;refine Φ ?_;exact W.nil ⟨_,U,U,U⟩
theorem qw (b:Ψ) (c:b.cells=[b]) (rest:Ρ):Μ prog 144 [VY] (Un VY b::rest) (λa s=>a=Gt/\s=Un VY b::rest) (λ_ _=>False):=by
 refine Μ.body Ο func144 U U ntmps144 U U Ω ?_;refine Φ ?_;refine Κ U ?_;refine Φ ?_;refine Κ U ?_;refine Φ ?_;exact W.nil ⟨_,U,U,U⟩
theorem Μ.all {P:Program} {g:FuncId} {args:ψ} {σ σ':Ρ} {r:Ψ} {K E:Ψ->Ρ->Prop} (h:Μ P g args σ (λa s=>a=r/\s=σ') (λ_ _=>False)) (c:K r σ'):Yg P (.fn (.func g) [] []) args σ K E:=by
 have d:Μ P g ([]++args++[]) σ (λa s=>a=r/\s=σ') (λ_ _=>False):=by simpa using h
 refine(Μ.call (first:=[]) (captured:=[]) d).mono (λa s b=>?_) (λa s b=>False.elim b);rw[b.1,b.2];exact c
theorem qv:∀(n t:Nat) (a:ν),(∀v∈a,One v)->(Extern.BytealgMakeNoZero.digits n t a).size=a.size+n/\∀v∈Extern.BytealgMakeNoZero.digits n t a,One v:=by
 intro n
 induction n with
 | zero=>intro t a h;exact⟨rfl,h⟩
 | succ n b=>
  intro t a h;unfold Extern.BytealgMakeNoZero.digits;obtain⟨c,d⟩:=b (t / 256) (a.push (.int .u8 (Int.ofNat (t % 256)))) (λv hv=>by
   rcases Nt.1 hv with e|rfl
   .exact h v e
   .trivial)
  exact⟨by rw[c,Array.size_push];omega,d⟩
theorem qu {P:Program} {t:TypeId} {d:TypeDesc} (h:P.underlying t=some d) {H:Υ} {K:TypeDesc->Υ->Prop} {E:Value->Υ->Prop} (a:K d H):Χ P (underlying t) H K E:=by
 unfold underlying;refine Χ.bind' ?_;show Χ P (match P.underlying t with|some d=>_|none=>_) H _ _;rw[h];exact Χ.pure' a
theorem qt {P:Program} {ts te:TypeId} (k:P.underlying ts=some (.slice te)) {S:ς} {B:δ} {H:Υ} {σ:Ρ} (d:Holds S B σ H) {n:Nat} (y:0<n) (A:n<2 ^ 40) {K:Ψ->Ρ->Prop} (l:Array TypeId) (o:K (.ms σ.length n 0 n) (σ++[.cells te 1 (List.replicate n .Zx)])) :
  Χ P (Extern.BytealgMakeNoZero.makeNoZero l #[ts] #[.int .i64 n]) H (XS S B H σ K) (λ_ _=>False):=by
 unfold Extern.BytealgMakeNoZero.makeNoZero;refine Χ.bind' (qu k ?_);have b:¬((n:Int)<0||(n:Int) > 2 ^ 48)=true:=by simp;omega
 show Χ P (if((n:Int)<0||(n:Int) > 2 ^ 48)=true then _ else _) H _ _;rw[if_neg b];refine Χ.bind' ?_;show Χ P (choose (.appendCap ((n:Int).toNat) 0 te)) H _ _;unfold choose;simp only[Χ,Question.forced,Xq,if_false];intro q;have p:n<=(Question.appendCap ((n:Int).toNat) 0 te).cut q:=by simp[Question.cut]
 generalize (Question.appendCap ((n:Int).toNat) 0 te).cut q=cap at p;have f:Χ P (do let bytes <-choose (Question.extern "internal/bytealg.MakeNoZero.bytes" 0);let a <-newRow te (Extern.BytealgMakeNoZero.digits cap bytes #[]);pure (Value.slice (some a) (n:Int).toNat cap):Sem Value) H (XS S B H σ K) (λ_ _=>False):=by
  refine Χ.bind' ?_;show Χ P (choose (Question.extern "internal/bytealg.MakeNoZero.bytes" 0)) H _ _;have g:∀m:Nat,Χ P (do let a <-newRow te (Extern.BytealgMakeNoZero.digits cap m #[]);pure (Value.slice (some a) (n:Int).toNat cap):Sem Value) H (XS S B H σ K) (λ_ _=>False):=λm=>by
   obtain⟨d1,d2⟩:=qv cap m #[] (λv hv=>by simp at hv);generalize Extern.BytealgMakeNoZero.digits cap m #[]=ds at d1 d2;have C:ds.size=cap:=by rw[d1];simp
   have s:Xo S B σ ds 1 (List.replicate n .Zx):=by
    refine⟨by simp;omega,λi e hi=>?_⟩;obtain⟨t,h⟩:=ZR.1 hi;simp at t h;subst h;refine⟨U,λj a c=>?_⟩;cases j with
    | succ j=>simp[Ψ.cells] at c
    | zero=>
     simp[Ψ.cells] at c;subst c;have b:i*1+0<ds.size:=I;exact⟨ds[i*1+0],YS b,.Zx _,d2 _ (Array.getElem_mem b)⟩
   refine Χ.bind' ?_;unfold newRow;refine Χ.bind' ?_;refine M5 d s te λr _ u w x=>?_;refine Χ.pure' (Χ.pure' ⟨_,_,_,_,o,w,u,x,?_⟩);have e:(n:Int).toNat=n:=I;rw[e];exact .ms cap (M4 σ _) Ω (M3 d.len _) I I (.inr ⟨r,ds.size,U,Ω,I⟩)
  unfold choose;simp only[Χ];split
  .exact g _
  .exact λq=>g _
 refine Χ.bind' ?_;unfold askRoom;split
 .exact⟨.inl U,Χ.pure' f⟩
 .exact Χ.pure' f
theorem qs:prog.underlying 179=some (.slice 5):=by kernel_rfl
theorem qq {n:Nat} (a:0<n) (b:n<2 ^ 40) {σ:Ρ} {K E:Ψ->Ρ->Prop} (c:K (.ms σ.length n 0 n) (σ++[RX (List.replicate n .Zx)])):Yg prog (.fn (.func 197) [] []) [J n] σ K E:=
 .ext qz λS B H vs d hv=>by
  match vs,hv.1 with
  | ⟨[v]⟩,_=>
   have e:(Value.int .i64 n)=v:=by
    have:Θ S B σ (J n) v:=hv.2 0 _ _ U U;cases this;rfl
   subst e;have h:=qt (P:=prog) (ts:=179) (te:=5) qs d a b (K:=K) #[3];have f:=h c;exact f
theorem qp (n:Nat) (c:0<n) (d:n<2 ^ 40):Μ prog 145 [VY,J n] [Un VY (.sl true 0 [])] (λa s=>a=Gt/\s=[Un VY (.ms 2 0 0 0),.dead,RX []]) (λ_ _=>False):=by
 have w0:IntKind.i64.wrap 0=0:=Z7
 have b:IntKind.i64.wrap (n:Int)=n:=IntWalk.i64_in _ I;refine Μ.body Ο func145 U U ntmps145 U U Ω ?_
 repeat apply Γ
 refine W.zP [1,2,3,10,11,12] [8] [0] (A:=[]) Ο mixed λf e=>?_;simp
 repeat (rw[D4];simp[D5,seen,SS,w0,b])
 refine E8 (r:=.ms 1 n 0 n) (σ':=[Un VY (.sl true 0 []),RX (List.replicate n .Zx)]) (qq c d ⟨U,U⟩) ?_;simp[seen]
 repeat (rw[D4];simp[D5,seen,SS,w0,b])
 rw[zV];refine⟨E9 Wf,e _ _ ?_⟩;refine W.uC (id:=1) (n:=n) Ω U Ω [(0,VY),(4,.ms 2 0 0 0)] Ω ?_;refine Φ ?_;exact W.nil ⟨_,U,U,U⟩
theorem qo (n:Nat) (c:0<n) (d:n<2 ^ 40):Μ prog 98 [VY,J n] [Un zO (.sl true 0 [])] (λa s=>a=Gt/\s=[Un VY (.ms 2 0 0 0),.dead,RX []]) (λ_ _=>False):=by
 have w0:IntKind.i64.wrap 0=0:=Z7
 have e:¬(n:Int)<0:=I
 have f:(0:Int)<n:=I;refine Μ.body Ο func98 U U ntmps98 U U Ω ?_;refine υ λg b=>?_;refine Μ.all (qx (.sl true 0 []) U []) ?_;simp;(repeat (rw[Η];simp));apply b;refine Z9 e ?_;refine Κ U ?_;refine Φ ?_;refine WX (Ξ w0 f) ?_;refine Ι (by simp;exact c) ?_;refine υ λg b=>?_;refine Μ.all (qp n c d) ?_;simp;(repeat (rw[Η];simp));apply b;exact W.nil ⟨_,U,U,U⟩
@[simp] theorem iK:VT ξ 179 9=some (5,1,⟨1,.int .u8,.int .u8 0,1,none⟩):=by kernel_rfl
theorem qn (s:ByteArray) (σ:Ρ):Ψ.P1 (Ψ.YW σ) (Xh s)=true:=by
 unfold Ψ.P1 Xh;rw[XJ];intro e a;obtain⟨b,_,rfl⟩:=Zh.1 a;rfl
theorem D2 (l:ψ) (n:Nat) (c:l.length=n) (s:ByteArray) (e:n+s.size<=4294967296):Μ prog 99 [VY,ZP s] [Un VY (.ms 2 n 0 n),.dead,RX l] (λa t=>a=.ε [J s.size,.z .nilIface]/\t=[Un VY (.ms 2 (n+s.size) 0 (n+s.size)),.dead,RX (l++Xh s)]) (λ_ _=>False):=by
 have d:(Xh s).length=s.size:=by simp[Xh]
 refine Μ.body Ο func99 U U ntmps99 U U Ω ?_;refine Φ ?_;refine υ λf b=>?_;refine Μ.all (qw (.ms 2 n 0 n) U [.dead,RX l]) ?_;simp;(repeat (rw[Η];simp));apply b;have g:=qn s [Un VY (.ms 2 n 0 n),.dead,RX l]
 repeat apply Γ
 refine ZG (A:=[14]) Ο λf b=>?_;simp
 repeat (rw[Η];simp[-Ψ.P1,-Ψ.YW,g,c,d,e])
 simp[c,d];(repeat (rw[Η];simp));apply b;refine Φ ?_;refine W.rt ?_;simp
theorem qm (l:List UInt8):MT (l.map λb=>Ψ.z (.int .u8 b.toNat))=some l:=by
 induction l with
 | nil=>rfl
 | cons b l a=>
  have e:((b.toNat:Int).toNat).toUInt8=b:=Ω;simp only[V6,MT,HC,a,e]
theorem ql (s:ByteArray) (c:0<s.size) (h:s.size<2 ^ 40):Μ prog 100 [VY] [Un VY (.ms 2 s.size 0 s.size),.dead,RX (Xh s)] (λa t=>a=ZP s/\t=[Un VY (.ms 2 s.size 0 s.size),.dead,.dead]) (λ_ _=>False):=by
 have b:(Xh s).length=s.size:=by simp[Xh]
 have d:MT ((Xh s).take s.size)=some s.data.toList:=by
  rw[Xb I];exact qm _
 have e:(⟨s.data.toList.toArray⟩:ByteArray)=s:=by cases s;simp
 refine Μ.body Ο func100 U U ntmps100 U U Ω ?_;refine Φ ?_;have i:(0:Int)<s.size:=I;have f:(s.size:Int)<4611686018427387904:=I;refine W.draw (A:=[]) Ο mixed λj g=>?_;simp;rw[Za];simp;rw[Za];simp;rw[Za];simp;rw[Za];simp;rw[Za];simp[b,c];rw[Za];simp[b];rw[Za];simp[b];rw[Za];simp[b];rw[Za];simp[b];rw[Za];simp[b];rw[Za];simp[b,d,e,c,f];rw[Za];simp
 try rw[YL]
 refine Yn (g _ _ ?_);refine W.rt ?_;simp
end Go.TL
namespace Go.TL
open Go.Proofs.Tryz
open Go.Proofs Go.Conc
def Xl (b:ByteArray):List ByteArray->ByteArray
 | []=>⟨#[]⟩
 | x::r=>r.foldl (λa y=>a++b++y) x
theorem qk (b:ByteArray) (l:List ByteArray) (h:l≠[]) (x:ByteArray):Xl b (l++[x])=Xl b l++b++x:=by
 cases l with
 | nil=>exact absurd rfl h
 | cons a r=>simp[Xl,Pf]
theorem D1 (b:ByteArray) (x:ByteArray) (r:List ByteArray):(Xl b (x::r)).size=b.size*r.length+(x.size+(r.map ByteArray.size).sum):=by
 show(r.foldl (λa y=>a++b++y) x).size=_
 induction r generalizing x with
 | nil=>simp
 | cons y r c=>
  rw[List.foldl_cons,c,I2,I2];simp only[List.length_cons,V6,List.sum_cons,Nat.mul_add];omega
theorem zN (a b:ByteArray):Xh (a++b)=Xh a++Xh b:=by simp[Xh]
theorem qj {a:Type} {l:List a} (h:l.length<=3) (b:2<=l.length):(∃x y,l=[x,y])\/∃x y z,l=[x,y,z]:=by
 match l,h,b with
 | [x,y],_,_=>exact .inl ⟨x,y,rfl⟩
 | [x,y,z],_,_=>exact .inr ⟨x,y,z,rfl⟩
def Qx (l:List ByteArray) (k:Nat):Nat:=((l.take k).map ByteArray.size).sum
theorem qi {l:List ByteArray} {k:Nat} (h:k<l.length):Qx l (k+1)=Qx l k+l[k].size:=by
 unfold Qx;rw[VW h,VV,List.sum_append];simp
theorem zM {l:List ByteArray} (b:∀x∈l,x.size<1000) (k:Nat):Qx l k<=1000*l.length:=by
 induction l generalizing k with
 | nil=>simp[Qx]
 | cons a l c=>
  cases k with
  | zero=>simp[Qx]
  | succ k=>
   have:=c (λx d=>b x (KQ _ d)) k
   have e:=b a (KN ..);simp[Qx] at this ⊢;omega
variable [Z1]
theorem DZ (a:ByteArray) (F:a.size<=1) (l:List ByteArray) (u:l.length<=3) (H:∀x∈l,0<x.size/\x.size<1000):Τ prog 54 [.sl false 1 (l.map ZP),ZP a] (ZP (Xl a l)):=by
 have w1:IntKind.i64.wrap 1=1:=Z7
 have K:IntKind.i64.wrap 2=2:=Z7
 have L:IntKind.i64.wrap 0=0:=Z7
 have Z:IntKind.i64.wrap (Int.tdiv 9223372036854775807 1)=9223372036854775807:=Z7
 have aa:IntKind.i64.wrap (Int.tdiv 9223372036854775807 2)=4611686018427387903:=Z7;refine Μ.body Ο func54 U U ntmps54 U U Ω ?_;refine Φ ?_;by_cases m:l=[]
 .refine Ι (by simp[m]) ?_;refine Φ ?_;subst m;refine W.rt ?_;exact .of U
 refine Κ (by simp[m]) ?_;refine Φ ?_;by_cases M:l.length=1
 .refine Ι (by simp[M]) ?_;obtain⟨x,e⟩:=FY.1 M;subst e;refine Φ ?_;refine W.rt ?_;exact .of U
 refine Κ (by simp;omega) ?_;have O:0<l.length:=Pg.2 m;obtain⟨v,n⟩:=Z' (a.size*(l.length-1));have ap:v<=2:=by
  rw[n];exact RH (Vo _ F) I
 refine Φ ?_;refine W.upto [(0,.sl false 1 (l.map ZP)),(1,ZP a),(5,J v)] [] ?_ ?_
 .by_cases ab:0<a.size
  .have j:a.size=1:=I
   refine Ι (by simp[ab]) ?_;rcases qj u I with⟨x,y,e⟩|⟨x,y,z,e⟩
   .subst e;refine Z9 (Ξ j (Ξ w1 Z)) ?_;refine Κ (by simp;decide) ?_;refine Ze (Ξ j (Ξ w1 L)) λf b=>?_;apply b;exact .stop ⟨U,U,by simp[n,j]⟩
   .subst e;refine Z9 (Ξ j (Ξ K aa)) ?_;refine Κ (by simp;decide) ?_;refine Ze (Ξ j (Ξ K L)) λf b=>?_;apply b;exact .stop ⟨U,U,by simp[n,j]⟩
  .have P:a.size=0:=I
   refine Κ (by simp[P]) ?_;refine W.skip ?_;exact .stop ⟨U,U,by simp[n,P]⟩
 refine Φ ?_;have k:∀x∈l,x.size<1000:=λx w=>(H x w).2;obtain⟨S,o⟩:∃S:Nat->Nat,∀i,S i=v+Qx l i:=⟨_,λ_=>rfl⟩;obtain⟨N,B⟩:=Z' (S l.length);have Q:∀i,S i<4000:=λi=>by have:=zM k i;rw[o];omega
 have aq:=B▸Q l.length;refine W.JX [(0,.sl false 1 (l.map ZP)),(1,ZP a),(5,J N)] [] ?_ ?_
 .refine W.iter (λi:Nat=>i<=l.length) (λi=>[(0,.sl false 1 (l.map ZP)),(1,ZP a),(5,J (S i)),(39,.sl false 1 (l.map ZP)),(40,J l.length),(41,J i)]) (λ_=>[]) (λi=>l.length-i) 0 (Ζ _) U (by simp[Qx,o]) (λi hi C=>?_);refine Φ ?_;refine W.Yl U (λd=>?_) (λd=>?_)
  .have d:i<l.length:=by simpa using d
   have ad:=qi d
   have ar:=Q i
   have R:=k _ (Yq d)
   have ae:IntKind.i64.wrap (9223372036854775807-(S i:Int))=9223372036854775807-(S i:Int):=IntWalk.i64_in _ I
   have af:IntKind.i64.wrap ((S i:Int)+(l[i].size:Int))=(S (i+1):Int):=by rw[o (i+1),ad];rw[IntWalk.i64_in _ I,o i];omega
   refine Z9 (Ξ d ae) ?_;refine Κ (by simp;omega) ?_;(repeat (first|apply Γ|(refine YF λf b=>?_;simp;(repeat (rw[Η];simp[af]));apply b)));refine W.to (C (i+1) d I) U (by simp[Y9 d (show l.length<2 ^ 62 by omega)])
  .have d:l.length<=i:=by simpa using d
   have D:i=l.length:=I;subst D;refine W.exit U ?_;exact .stop ⟨U,U,by simp[B]⟩
 refine ZO ?_;refine ZG (A:=[8]) Ο λf b=>Δ ?_;apply b;obtain⟨T,p,g⟩:∃x r,l=x::r:=List.exists_cons_of_ne_nil m;have ag:∀i,(Xl a (l.take (i+1))).size<4000:=λi=>by
  rw[g,List.take_succ_cons,D1];have R:=k T (by rw[g];exact KN ..);have ah:=zM (l:=p) (λx w=>k x (by rw[g];exact KQ _ w)) i;have au:p.length<=2:=by rw[g] at u;simpa using u
  have av:(p.take i).length<=p.length:=by simp;omega
  have aw:=Nat.mul_le_mul F (ZY (p.take i).length);unfold Qx at ah;omega
 have E:(Xl a l).size=N:=by
  rw[B,o,n,g,D1];simp[Qx]
 have ai:0<N:=by
  have:=(H T (by rw[g];exact KN ..)).1;rw[<-E,g,D1];omega
 refine υ λf b=>?_;refine Μ.all (qo N ai I) ?_;simp;(repeat (rw[Η];simp));apply b;refine Ze O λf b=>?_;refine Μ.all (D2 [] 0 U l[0] (by have:=k _ (Yq O);omega)) ?_;simp;(repeat (rw[Η];simp));apply b;have aj:Xl a (l.take 1)=l[0]:=by subst g;simp[Xl]
 refine υ λf b=>?_;refine⟨I,?_⟩;apply b;have ak:(List.take l.length (List.map ZP l)).tail=l.tail.map ZP:=by rw[Xb Ω,List.map_tail]
 have ax:l.tail.length=l.length-1:=Ω;rw[ak];obtain⟨c,t⟩:∃c:Nat->ByteArray,∀i,c i=Xl a (l.take (i+1)):=⟨_,λ_=>rfl⟩;have al:∀i,(c i).size<4000:=λi=>by rw[t];exact ag i
 have V:∀s:ByteArray,(Xh s).length=s.size:=λs=>by simp[Xh]
 repeat apply Γ
 refine W.JX [(8,VY)] [Un VY (.ms 2 N 0 N),.dead,RX (Xh (Xl a l))] ?_ ?_
 .refine W.iter (λi:Nat=>i<=l.tail.length) (λi=>[(1,ZP a),(8,VY),(63,.sl false 1 (l.tail.map ZP)),(64,J (l.length-1:Nat)),(65,J i)]) (λi=>[Un VY (.ms 2 (c i).size 0 (c i).size),.dead,RX (Xh (c i))]) (λi=>l.tail.length-i) 0 (Ζ _) (by rw[t,aj]) Ω (λi hi C=>?_);refine Φ ?_;refine W.Yl U (λd=>?_) (λd=>?_)
  .have d:i<l.length-1:=by simpa using d
   have X:i<l.tail.length:=I
   have am:i+1<l.length:=I
   have R:=k _ (Yq am)
   have an:c (i+1)=c i++a++l[i+1]:=by
    rw[t,t,VW (by omega:i+1<l.length),qk _ _ (by rw[g];simp)]
   have ay:=al i;refine Z9 d ?_;refine υ λf b=>?_;refine Μ.all (D2 (Xh (c i)) (c i).size (V _) a I) ?_;simp;(repeat (rw[Η];simp));apply b;refine υ λf b=>?_;refine Μ.all (D2 (Xh (c i)++Xh a) ((c i).size+a.size) (by simp[V]) l[i+1] I) ?_;simp;(repeat (rw[Η];simp));apply b;refine Φ ?_;have ao:[Un VY (.ms 2 (c (i+1)).size 0 (c (i+1)).size),.dead,RX (Xh (c (i+1)))]=[Un VY (.ms 2 ((c i).size+a.size+l[i+1].size) 0 ((c i).size+a.size+l[i+1].size)),.dead,RX (Xh (c i)++Xh a++Xh l[i+1])]:=by rw[an,zN,zN,I2,I2]
   refine W.to (C (i+1) X I) (by rw[ao];simp) (by simp[Y9 X (show l.tail.length<2 ^ 62 by omega)])
  .have d:l.length-1<=i:=by simpa using d
   have D:c i=Xl a l:=by rw[t,Xb I]
   refine W.exit U ?_;exact .stop ⟨U,by rw[D,E],Ω⟩
 refine υ λf b=>?_;have Y:=ql (Xl a l) I I;rw[E] at Y;refine Μ.all Y ?_;simp;(repeat (rw[Η];simp));apply b;refine Φ ?_;refine W.drop (h:=0) (Ζ _) (Ζ _) Ω U [(4,ZP (Xl a l))] Ω ?_;refine W.rt ?_;exact .of U
end Go.TL
namespace Go.TL
open Go.Proofs.Tryz
open Go.Conc
variable [Z1]
inductive Mv (id k:Nat) (l:ψ):Ψ->Ψ->Prop where
 | same (a:Ψ):Mv id k l a a
 | ms:Mv id k l (.ms id l.length 0 l.length) (.sl false k l)
 | π {e:Ψ}:l=[e]->Mv id k l (.π id 1 0 0) (.Ν e.cells)
def Gs (id k:Nat) (l:ψ) (r r':Row):Prop:=r'=r\/∃t n es es',r=.cells t n es/\r'=.cells t n es'/\es'.length=es.length/\
 ∀(i:Nat) (e b:Ψ),es[i]?=some e->es'[i]?=some b->b.cells.length=e.cells.length/\∀(x:Nat) (a a':Ψ),e.cells[x]?=some a->b.cells[x]?=some a'->Mv id k l a a'
section
variable {P:Program} {S:ς} {B:δ} {H:Υ} {σ σ':Ρ} {m nt id k:Nat} {t:TypeId} {l:ψ} {kk:ZA} {env:Β} {Z:XD} {E:Yb}
def ς.set (S:ς) (B:δ) (H:Υ) (id:Nat):ς:=λb o=>match B[id]? with
 | some (some (a,_))=>if b=a then(H.ω b o).map (·.1) else S b o
 | _=>S b o
theorem zL {b N:Nat} (a:B[id]?=some (some (b,N))) (o:Nat):S.set B H id b o=(H.ω b o).map (·.1):=by
 unfold ς.set;rw[a];simp
theorem zK (a:Holds S B σ H) (c:σ[id]?=some (.cells t k l)):∀b o v,S b o=some v->S.set B H id b o=some v:=λb o v hv=>by
 unfold ς.set;split
 .rename_i f N d;split
  .rename_i e;subst e;rw[a.sep id _ b N c trivial d o] at hv;cases hv
  .exact hv
 .exact hv
theorem ZJ.DY (c:Holds S B σ H) (b:σ[id]?=some (.cells t k l)) (d:σ'[id]?=some .dead) (f:∀j r,j≠id->σ[j]?=some r->∃r',σ'[j]?=some r'/\Gs id k l r r'):ZJ S (S.set B H id) B B σ σ':=
 ⟨zK c b,λj r a=>by
  by_cases e:j=id
  .subst e;rw[b] at a;cases a;exact⟨.dead,d,.inr λn _=>trivial⟩
  .obtain⟨r',g,h⟩:=f j r e a;refine⟨r',g,?_⟩;rcases h with rfl|⟨t,n,es,es',rfl,rfl,i,_⟩
   .exact Row.Tb _ _
   .exact .inl ⟨es',U,i,U⟩⟩
theorem Θ.zJ (s:Holds S B σ H) (g:σ[id]?=some (.cells t k l)) (o:ZJ S (S.set B H id) B B σ σ') {a a':Ψ} (A:Mv id k l a a') {v:Value} (p:Θ S B σ a v):Θ (S.set B H id) B σ' a' v:=by
 cases A with
 | same=>exact p.later o
 | ms=>
  cases p with
  | ms cap d h i D E r=>
   rw[g] at d;cases d;by_cases u:l=[]
   .subst u;exact .WJ _ _ Ω
   .have F:0<l.length:=Pg.2 u;rcases r with r|⟨b,N,rfl,rfl,r⟩
    .omega
    .obtain⟨_,_,_,w,m⟩:=s.row id _ _ g i;rw[Nr];refine .sl b 0 cap (λj x=>w j x) Ω I (λj e n=>(m j e n).1) (λj e n x c f=>?_) (λj e n x c f=>?_)
     .have:=((m j e n).2 x c f).1;rw[zL i,V5,this];rfl
     .exact(((m j e n).2 x c f).2.1).later o
  | Wu v d h=>rw[g] at d;cases d;simp only[Row.Xx] at h;omega
 | @π e C=>
  subst C;cases p with
  | π d h i=>
   rw[g] at d;cases d;obtain⟨_,_,_,w,m⟩:=s.row id _ _ g i;have y:=m 0 e U;refine .Ν _ _ (λx=>w 0 x) (λx a f=>?_) (λx a f=>?_)
   .have:=(y.2 x a f).1;rw[zL i,Nat.add_zero,this];rfl
   .exact((y.2 x a f).2.1).later o
  | VI v d h=>rw[g] at d;cases d;simp[Row.Xx] at h
theorem W.DY (a5:m<=id) (f:σ[id]?=some (.cells t k l)) (aa:σ'.length=σ.length) (F:σ'[id]?=some .dead) (ab:∀j r,j≠id->σ[j]?=some r->∃r',σ'[j]?=some r'/\Gs id k l r r') (env':Β) (aC:∀p∈env',Mv id k l (ι env p.1) p.2)
  (aD:W P m nt kk env' σ' Z E):W P m nt kk env σ Z E:=by
 intro aE mn x cs b S B H ξ I J K aF aG;have c:=K.holds;have L:=ZJ.DY c f F ab;have back:∀j r',j≠id->σ'[j]?=some r'->∃r,σ[j]?=some r/\Gs id k l r r':=λj r' M h=>by
  have s:j<σ.length:=by rw[<-aa];exact(ZR.1 h).1
  obtain⟨an,O,ad⟩:=ab j _ M (Z4 s);rw[h] at O;cases O;exact⟨_,Z4 s,ad⟩
 have Q:∀{r r':Row},Gs id k l r r'->r'.live->r.live:=λ{r r'} h hv=>by
  rcases h with rfl|⟨_,_,_,_,rfl,rfl,_⟩
  .exact hv
  .trivial
 have aH:Holds (S.set B H id) B σ' H:=by
  refine⟨λb o v h=>?_,by rw[aa];exact c.len,λj r bo d aI=>?_,λi j ao ap b aJ aK aL hi M aq ar aM aN=>?_,λj r b N d ae J o=>?_⟩
  .unfold ς.set at h;split at h
   .split at h
    .cases au:H.ω b o with
     | none=>rw[au] at h;cases h
     | some x=>rw[au] at h;cases h;exact⟨x.2,rfl⟩
    .exact c.Zf b o v h
   .exact c.Zf b o v h
  .by_cases e:j=id
   .subst e;rw[F] at d;cases d;trivial
   .obtain⟨aO,O,ad⟩:=back j r e d;have R:=c.row j aO bo O aI;rcases ad with rfl|⟨t2,n,es,es',rfl,rfl,af,aP⟩
    .refine R.later L (λb N _=>⟨λ_=>rfl,U,U⟩) λav left a6 aQ=>?_;subst aQ;obtain⟨_,_,a7,a8,a9,ba,seen,_,aw,⟨es,g⟩,_⟩:=R;refine⟨?_,U,λb N _=>⟨λ_=>rfl,U,U⟩⟩;have T:av≠id:=λe=>by subst e;rw[f] at g;cases g
     obtain⟨r',aR,aS⟩:=ab av _ T g;rcases aS with rfl|⟨_,_,_,_,aT,_⟩
     .rw[aR,g]
     .cases aT
    .cases bo with
     | none=>
      have:es=[]:=R;subst this;exact YZ.1 af
     | some y=>
      obtain⟨b,N⟩:=y;obtain⟨u,A,C,w,D⟩:=R;refine⟨u,by rw[af];exact A,C,w,λi aU hi=>?_⟩;have s:i<es.length:=by rw[<-af];exact(ZR.1 hi).1
      obtain⟨c1,c2⟩:=D i _ (Z4 s);obtain⟨d1,d2⟩:=aP i _ aU (Z4 s) hi;refine⟨d1.trans c1,λx a' I=>?_⟩;have ax:x<(es[i]).cells.length:=by rw[<-d1];exact(ZR.1 I).1
      obtain⟨aw,g,aV⟩:=c2 x _ (Z4 ax);exact⟨aw,g.zJ c f L (d2 x _ a' (Z4 ax) I),aV⟩
  .have ay:∀j r,σ'[j]?=some r->r.live->j≠id:=λj r h hv e=>by subst e;rw[F] at h;cases h;exact hv
   obtain⟨V,X,Y⟩:=back i ao (ay i ao hi aq) hi;obtain⟨an,aW,aX⟩:=back j ap (ay j ap M ar) M;exact c.inj i j V an b aJ aK aL X aW (Q Y aq) (Q aX ar) aM aN
  .have T:j≠id:=λe=>by subst e;rw[F] at d;cases d;exact ae
   obtain⟨V,X,Y⟩:=back j r T d;have az:=c.sep j V b N X (Q Y ae) J o;unfold ς.set;split
   .rename_i aY aZ ag;split
    .rename_i e;subst e;exact(c.inj j id V _ b N aZ T X f (Q Y ae) trivial J ag).elim
    .exact az
   .exact az
 have a0:Ext S B H (S.set B H id) B H:=by
  refine⟨zK c f,λ_ _ _=>TK.of ⟨λ_=>rfl,U,U⟩,λ_ h=>.inl h,λb o v hv=>?_,λ_ h=>h⟩;unfold ς.set at hv;split at hv
  .rename_i aY N ag;split at hv
   .rename_i e;subst e;exact .inr (.inl ⟨N,ZH ag⟩)
   .exact .inl hv
  .exact .inl hv
 have aA:Xw m S B H σ (S.set B H id) B H σ':=⟨a0,L.left m⟩
 have a1:∀(l2:Β),(∀p∈l2,Mv id k l (ι env p.1) p.2)->∀i,Θ S B σ (ι env i) (ξ.getD i undef)->Θ (S.set B H id) B σ' (ι l2 i) (ξ.getD i undef):=by
  intro l2
  induction l2 with
  | nil=>intro _ i _;exact .Zx _
  | cons p l2 a2=>
   intro aB i d;simp only[ι];split
   .rename_i e;subst e;exact d.zJ c f L (aB p Ω)
   .exact a2 (λq a3=>aB q (by simp[a3])) i d
 refine aD aE mn x cs b _ _ H ξ I J ⟨aH,λi=>a1 env' aC i (K.Zt i),K.size,by rw[aa];exact K.rows⟩ (λj ah ai aj ak al t2 am u A C D=>?_) (λa ah ai aj ak al t2 am v u A C D a4=>?_)
 .exact aF j ah ai aj ak al t2 am u (aA.trans A) C D
 .exact aG a ah ai aj ak al t2 am v u (aA.trans A) C D a4
end
end Go.TL
