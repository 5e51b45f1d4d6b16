import Derived.Conc.Own2
import Derived.Test.YtlabjopijpkiaaaGreatJAP
set_option maxHeartbeats 16000000
set_option maxRecDepth 20000
set_option linter.unusedSectionVars false
set_option linter.unusedSimpArgs false
set_option linter.unusedVariables false
namespace Go.TL
open Go.Proofs.Tryz
open Go.Conc Go.Proofs
open Go.ConcN (sumTo upd sumTo_upd upd_ne upd_same sumTo_congr le_sumTo)
variable [ZX]
def Zf.MR:Zf->Ω->Prop
 | .ok a,b=>a=b
 | .Y' p r,b=>p/\r.MR b
 | .bad,_=>False
def Vx (P:Program) {α:Type} (s:Sem α) (a:α):Prop:=∀w,s.run P w=.ok a w/\∀es,s.events P w es=es
section
variable {P:Program} {T:ZR} {α β:Type}
theorem Vx.pure (a:α):Vx P (Pure.pure a) a:=λw=>⟨I,λes=>I⟩
theorem Vx.bind {s:Sem α} {f:α->Sem β} {a:α} {b:β} (h:Vx P s a) (k:Vx P (f a) b):Vx P (s >>= f) b:=λw=>⟨by simp[(h w).1,(k w).1,Result.andThen],λes=>by simp[(h w).1,(h w).2,(k w).2,Result.evThen]⟩
theorem Vx.program:Vx P Go.program P:=λw=>⟨I,λes=>I⟩
theorem Vx.underlying {t:TypeId} {d:TypeDesc} (h:P.underlying t=some d):Vx P (Go.underlying t) d:=λw=>⟨run_underlying h w,λes=>I⟩
theorem Vx.sizeOf {t:TypeId} {i:TypeInfo} (hi:P.info? t=some i):Vx P (Go.sizeOf t) i.size:=by
 unfold Go.sizeOf Go.typeInfo;refine Vx.bind (Vx.bind .program ?_) (Vx.pure _);show Vx P (match P.info? t with|some i=>Pure.pure i|none=>_) i;rw[hi];exact .pure _
theorem uX {d:BinOp} {f:TypeId} {p q:Operand} {x y v:Value} (h:(P5 d x y).MR (.z v)):Vx P (do eqGuard d f p q x y;binOp d f x y) v:=by
 unfold P5 at h;split at h
 case h_25=>exact h.elim
 case h_1=>
  obtain⟨a,b⟩:=h;cases b;have c:¬(_:Int)<0:=OE.2 a;simp only[eqGuard,binOp,Op.shift,c,if_false];exact .pure _
 case h_2=>
  obtain⟨a,b⟩:=h;cases b;have c:¬(_:Int)<0:=OE.2 a;simp only[eqGuard,binOp,Op.shift,c,if_false];exact .pure _
 case h_6=>
  split at h
  .rename_i e;subst e;obtain⟨a,b⟩:=h;cases b;simp only[eqGuard,binOp,Op.intDiv,a,if_false,ne_eq,not_true_eq_false];exact .pure _
  .exact h.elim
 case h_7=>
  split at h
  .rename_i e;subst e;obtain⟨a,b⟩:=h;cases b;simp only[eqGuard,binOp,Op.intDiv,a,if_false,ne_eq,not_true_eq_false];exact .pure _
  .exact h.elim
 case h_18=>
  obtain⟨a,b⟩:=h;cases b;have c:¬((_:Int) > IntKind.i64.max):=OE.2 a;simp only[eqGuard,binOp,Op.stringOp,c,if_false];exact .pure _
 all_goals first
  |(cases h;exact .pure _)
  |(split at h
    .rename_i e;subst e;cases h;simp only[eqGuard,binOp,Op.intArith,Op.intBits,Op.intCmp,ne_eq,not_true_eq_false,if_false];exact .pure _
    .exact h.elim)
def MQ (T:ZR) (env:ω) (o:Oper):Zf:=match o.op with
 | .move x=>.ok (ζ env x)
 | .assign x=>.ok (ζ env x)
 | .pick c a b=>Ng (ζ env c) (ζ env a) (ζ env b)
 | .binOp e _ x y _=>match ζ env x,ζ env y with
  | .z a,.z b=>P5 e a b
  | _,_=>.bad
 | .unOp e _ x=>Nr e (ζ env x)
 | .convert s d x=>Ni T s d (ζ env x)
 | .nilCheck x=>match ζ env x with
  | .z (.pointer (some a))=>.ok (.z (.pointer (some a)))
  | _=>.bad
 | .fieldAddr g x f=>match ζ env x with
  | .z (.pointer (some ⟨b,o',none⟩))=>match W6 T g f with|some (o,_)=>.ok (.z (.pointer (some ⟨b,o'+o,none⟩)))|none=>.bad
  | _=>.bad
 | _=>.bad
theorem uW (m:ZB P T) {env:ω} {o:Oper} {v:Value} (h:(MQ T env o).MR (.z v)) {ρ:Operand->Value} (d:∀y u,ζ env y=.z u->ρ y=u):Vx P (execOp ρ o) (.value v):=by
 have l:∀{s:Sem Value} {u:Value},Vx P s u->Vx P (do Pure.pure (Next.value (<-s))) (.value u):=λA=>.bind A (.pure _);unfold MQ at h;unfold execOp;split at h<;>rename_i B<;>first|(rw[B];simp only)|exact h.elim
 .rw[d _ _ h];exact .pure _
 .rw[d _ _ h];exact .pure _
 .rename_i c a b;unfold Ng at h;split at h
  .rename_i p C;rw[d _ _ C];refine Vx.bind (a:=p) (Vx.pure _) ?_;split at h
   .rename_i y z r D;cases h;rw[d _ _ r,d _ _ D];cases p<;>exact .pure _
   .cases p with
    | true=>rw[d a v h];exact .pure _
    | false=>rw[d b v h];exact .pure _
  .exact h.elim
 .split at h
  .rename_i x y g r;rw[d _ _ g,d _ _ r];exact l (uX h)
  .exact h.elim
 .unfold Nr at h;split at h
  .rename_i p t;rw[d _ _ t];split at h
   .cases h;exact l (.pure _)
   .exact h.elim
  .rename_i k n t;rw[d _ _ t];split at h
   .cases h;exact l (.pure _)
   .exact h.elim
  .exact h.elim
 .unfold Ni at h;split at h
  .rename_i i j hi E;split at h
   .rename_i k kk n w g;cases h;rw[d _ _ g];refine l ?_;unfold convert;refine .bind (.underlying (m _ _ hi).1.1) (.bind (.underlying (m _ _ E).1.1) ?_);rw[w];exact .pure _
   .exact h.elim
  .exact h.elim
 .split at h
  .rename_i a g;cases h;rw[d _ _ g];exact .pure _
  .exact h.elim
 .split at h
  .rename_i b o' g;rw[d _ _ g];split at h
   .rename_i K L e;cases h;refine l ?_;unfold W6 at e;split at e<;>try cases e
    rename_i i hi;split at e<;>try cases e
    rename_i M w;split at e<;>try cases e
    rename_i x g;split at e<;>try cases e
    rename_i N F;split at e<;>try cases e
    rename_i H;unfold Instr.fieldAt;refine .bind (.underlying (m _ _ hi).1.1) ?_;rw[w];simp only[g];refine .bind (a:=⟨b,o',none⟩) (.pure _) ?_;obtain⟨f,I,J,_⟩:=(m _ _ F).2;refine .bind (a:=⟨b,o'+x.offset,none⟩) ?_ (.pure _);unfold fieldPlace;refine .bind (.sizeOf I) ?_;rw[J,if_neg H,Po];exact .pure _
   .exact h.elim
  .exact h.elim
end
theorem uV (vs:List Value) {nt:Nat} (d:vs.length<=nt):YT Xz [] [] (entry 0 (vs.map Ω.z)) (vs.toArray++Array.replicate (nt-vs.length) undef):=by
 have e:Xv Xz [] [] (vs.map Ω.z) vs.toArray:=⟨I,λi a v b c=>by
  simp only[YU,List.getElem?_toArray] at b c;rw[c] at b;cases b;exact .z v⟩
 have:=(Xw.enter (MT Χ.empty) (m:=0) (nt:=nt) e (γ _) (by simpa using d)).Zm;simpa using this
def Gg (P:Program) (mn:Bool) (a:Goroutine->Prop):Prop:=∀g g',VI g->(∀w,stepG P mn g w=.go g' w #[])->a g'->a g
def Β (a:Goroutine->Prop) (b:Frame) (cs:List Frame) (nt:Nat) (k:List Item) (env:ω):Prop:=∀t:Array Value,t.size=nt->YT Xz [] [] env t->a (Go.Conc.G (ο b t k) cs)
def TE (T:ZR) (nt:Nat) (ops:Array Oper):List Nat->ω->(ω->Prop)->Prop
 | [],env,K=>K env
 | i::is,env,K=>Xc ops[i]? λo=>WO nt o=true/\Xc (XK env ops o) λw=>
   Wa w (TE T nt ops is (Zt o env .Zl) K) (∃v,(MQ T env o).MR (.z v)/\TE T nt ops is (Zt o env (.z v)) K)
theorem NZ {T:ZR} {nt:Nat} {ops:Array Oper} {env:ω} {K:ω->Prop}:TE T nt ops [] env K=K env:=Xx rfl rfl
def NY (T:ZR) (nt:Nat) (ops:Array Oper) (is:List Nat) (o:Oper) (env:ω) (K:ω->Prop):Zf->Prop
 | .ok (.z v)=>TE T nt ops is (Zt o env (.z v)) K
 | .Y' p (.ok (.z v))=>p/\TE T nt ops is (Zt o env (.z v)) K
 | _=>False
theorem uU {T:ZR} {nt:Nat} {ops:Array Oper} {is:List Nat} {o:Oper} {env:ω} {K:ω->Prop} {v:Value}:NY T nt ops is o env K (.ok (.z v))=TE T nt ops is (Zt o env (.z v)) K:=Xx rfl rfl
theorem uT {T:ZR} {nt:Nat} {ops:Array Oper} {is:List Nat} {o:Oper} {env:ω} {K:ω->Prop} {v:Value} {p:Prop}:NY T nt ops is o env K (.Y' p (.ok (.z v)))=(p/\TE T nt ops is (Zt o env (.z v)) K):=Xx rfl rfl
theorem uS {T:ZR} {nt:Nat} {ops:Array Oper} {is:List Nat} {o:Oper} {env:ω} {K:ω->Prop} {r r':Zf} (h:r=r'):NY T nt ops is o env K r=NY T nt ops is o env K r':=by rw[h]
theorem uR {T:ZR} {nt:Nat} {ops:Array Oper} {is:List Nat} {o:Oper} {env:ω} {K:ω->Prop} {r:Zf} (h:NY T nt ops is o env K r):∃v,r.MR (.z v)/\TE T nt ops is (Zt o env (.z v)) K:=by
 unfold NY at h;split at h
 .exact⟨_,rfl,h⟩
 .exact⟨_,⟨h.1,rfl⟩,h.2⟩
 .exact h.elim
theorem WI {T:ZR} {nt:Nat} {ops:Array Oper} {i:Nat} {is:List Nat} {env:ω} {K:ω->Prop} (h:Xc ops[i]? λo=>WO nt o=true/\Xc (XK env ops o) λw=>Wa w (TE T nt ops is (Zt o env .Zl) K) (NY T nt ops is o env K (MQ T env o))):TE T nt ops (i::is) env K:=by
 unfold TE;unfold Xc at h ⊢;split at h
 .exact h.elim
 rename_i o a;refine⟨h.1,?_⟩
 replace h:=h.2
 split at h
 .exact h.elim
 rename_i w b;exact⟨h.1,λe=>uR (h.2 e)⟩
section
variable {P:Program} {T:ZR} {mn:Bool} {Yf:Goroutine->Prop} {b:Frame} {cs:List Frame} {nt:Nat} {k:List Item} {env:ω} {ops:Array Oper} {i:Nat} {rest:List Nat} {op:Oper}
variable (W4:Gg P mn Yf) (hb:b.mode=.run)
include W4 hb
theorem Β.to {a:List Item} (c:∀t w,stepG.exec P mn true (ο b t k) cs none w=.go (Go.Conc.G (ο b t a) cs) w #[]) (h:Β Yf b cs nt a env):Β Yf b cs nt k env:=
 λt d e=>W4 _ _ ⟨rfl,rfl⟩ (λw=>(Vu hb w).trans (c t w)) (h t d e)
theorem Β.skip (h:Β Yf b cs nt k env):Β Yf b cs nt (.code .skip::k) env:=.to W4 hb (λ_ _=>rfl) h
theorem Β.inBlock {l:Nat} (h:Β Yf b cs nt k env):Β Yf b cs nt (.inBlock l::k) env:=.to W4 hb (λ_ _=>rfl) h
theorem Β.seq {a c:Code} (h:Β Yf b cs nt (.code a::.code c::k) env):Β Yf b cs nt (.code (.seq a c)::k) env:=.to W4 hb (λ_ _=>rfl) h
theorem Β.block {l:Nat} {c:Code} (h:Β Yf b cs nt (.code c::.inBlock l::k) env):Β Yf b cs nt (.code (.block l c)::k) env:=.to W4 hb (λ_ _=>rfl) h
theorem Β.loop {c:Code} (h:Β Yf b cs nt (.code c::.inLoop c::k) env):Β Yf b cs nt (.code (.loop c)::k) env:=.to W4 hb (λ_ _=>rfl) h
theorem Β.inLoop {c:Code} (h:Β Yf b cs nt (.code c::.inLoop c::k) env):Β Yf b cs nt (.inLoop c::k) env:=.to W4 hb (λ_ _=>rfl) h
theorem Β.Zg {id:Nat} {ops:Array Oper} (h:Β Yf b cs nt (.inRegion ops (idx ops.size [])::k) env):Β Yf b cs nt (.code (.region id ops false)::k) env:=.to W4 hb (λ_ _=>by rw[idx_eq];rfl) h
theorem Β.ZF {ops:Array Oper} (h:Β Yf b cs nt k env):Β Yf b cs nt (.inRegion ops []::k) env:=.to W4 hb (λ_ _=>rfl) h
theorem Β.exit {l:Nat} {a:List Item} (c:exitTo l k=some a) (h:Β Yf b cs nt a env):Β Yf b cs nt (.code (.exit l)::k) env:=by
 refine .to W4 hb (λt w=>?_) h;unfold stepG.exec;simp only[ο,c,Option.elim];rfl
theorem Β.cond {c:Operand} {a e:Code} {v:Bool} (g:ζ env c=.z (.bool v)) (h:Β Yf b cs nt (.code (if v then a else e)::k) env):Β Yf b cs nt (.code (.cond c a e)::k) env:=by
 intro t i d;refine W4 _ _ ⟨rfl,rfl⟩ (λw=>?_) (h t i d);rw[Vu hb w];have f:(ο b t (.code (.cond c a e)::k)).eval c=.bool v:=by rw[L5];exact IL d g
 unfold stepG.exec;simp only[ο] at f ⊢;rw[f];rfl
theorem Β.TD {c:Operand} {a e:Code} (d:ζ env c=.z (.bool true)) (h:Β Yf b cs nt (.code a::k) env):Β Yf b cs nt (.code (.cond c a e)::k) env:=.cond W4 hb d h
theorem Β.TC {c:Operand} {a e:Code} (d:ζ env c=.z (.bool false)) (h:Β Yf b cs nt (.code e::k) env):Β Yf b cs nt (.code (.cond c a e)::k) env:=.cond W4 hb d h
theorem Gf {t:Array Value} (h:YT Xz [] [] env t) (hd:WO nt op=true) (b:t.size=nt) {a:Ω} {v:Value} (c:π Xz [] [] a v):(put op t v).size=nt/\YT Xz [] [] (Zt op env a) (put op t v):=⟨(QN h hd b c).2,(QN h hd b c).1⟩
theorem Β.unwanted (c:ops[i]?=some op) (e:XK env ops op=some false) (hd:WO nt op=true) (h:Β Yf b cs nt (.inRegion ops rest::k) (Zt op env .Zl)):Β Yf b cs nt (.inRegion ops (i::rest)::k) env:=by
 intro t f d;obtain⟨g,j⟩:=Gf (b:=b) W4 hb d hd f (a:=.Zl) (v:=undef) (.Zl _);refine W4 _ _ ⟨rfl,rfl⟩ (λw=>?_) (h _ g j);rw[Vu hb,<-VV c];have l:((ops[i]?).map (Region.wanted · (yielded ops t))).getD false=false:=by simp[c,U0 d e]
 unfold stepG.exec;simp only[ο,l];rfl
theorem Β.opn (f:ZB P T) (d:b.roundOf=none) (g:b.kind≠.early) (j:ops[i]?=some op) (l:XK env ops op=some true) (hd:WO nt op=true) {v:Value} (hv:(MQ T env op).MR (.z v)) (h:Β Yf b cs nt (.inRegion ops rest::k) (Zt op env (.z v))):Β Yf b cs nt (.inRegion ops (i::rest)::k) env:=by
 intro t m c;obtain⟨n,o⟩:=Gf (b:=b) W4 hb c hd m (a:=.z v) (v:=v) (.z v);refine W4 _ _ ⟨rfl,rfl⟩ (λw=>?_) (h _ n o);have e:=uW f hv (ρ:=ZN t) λy u p=>IL c p;rw[WY hb d,WY hb d,<-O9,stepG_value (a:=⟨t,b.defers⟩) j (U0 c l) g (by rw[T5];exact(e w).1)];unfold listed;rw[T5,(e w).2,seen_none]
theorem Β.part (g:ZB P T) (j:b.roundOf=none) (m:b.kind≠.early) (is a:List Nat) {l:List Nat} (n:l=is++a) (h:∀c:ω->Prop,(∀env,Β Yf b cs nt (.inRegion ops a::k) env->c env)->TE T nt ops is env c):Β Yf b cs nt (.inRegion ops l::k) env:=by
 subst n;have p:∀(is:List Nat) (env:ω),TE T nt ops is env (λenv=>Β Yf b cs nt (.inRegion ops a::k) env)->Β Yf b cs nt (.inRegion ops (is++a)::k) env:=by
  intro is
  induction is with
  | nil=>intro env h;exact h
  | cons i is d=>
   intro env h;unfold TE Xc at h;split at h
   .exact h.elim
   rename_i o e;obtain⟨hd,h⟩:=h;split at h
   .exact h.elim
   rename_i w f;cases w with
   | false=>exact .unwanted W4 hb e f hd (d _ (h.1 rfl))
   | true=>
    obtain⟨v,r,s⟩:=h.2 rfl;exact .opn W4 hb g j m e f hd r (d _ s)
 exact p is env (h _ λ_ h=>h)
theorem Β.region (c:ZB P T) (d:b.roundOf=none) (e:b.kind≠.early) {id:Nat} (h:∀a:ω->Prop,(∀env,Β Yf b cs nt k env->a env)->TE T nt ops (idx ops.size []) env a):Β Yf b cs nt (.code (.region id ops false)::k) env:=by
 refine .Zg W4 hb (.part W4 hb c d e (idx ops.size []) [] I λa f=>h a λenv g=>f env (.ZF W4 hb g))
theorem Β.IC (d:TJ b ops i op) (e:XK env ops op=some true) (hd:WO nt op=true) {f:FuncId} {args:Array Operand} {g:Array TypeId} (j:op.op=.call ⟨.value (.func f),args,g⟩) {v:Value} (l:Entry P f (λ_=>pure v)) (h:Β Yf b cs nt (.inRegion ops rest::k) (Zt op env (.z v))):Β Yf b cs nt (.inRegion ops (i::rest)::k) env:=by
 intro t m c;obtain⟨n,o⟩:=Gf (b:=b) W4 hb c hd m (a:=.z v) (v:=v) (.z v);exact W4 _ _ ⟨rfl,rfl⟩ (λw=>IM l d (U0 c e) j (vs:=args.map (ZN t)) rfl I I I) (h _ n o)
theorem Β.Gy (c:TJ b ops i op) (e:XK env ops op=some true) (g:op.dst=none) {f:FuncId} {j:Array TypeId} (l:op.op=.defer ⟨.value (.func f),#[],j⟩)
  (h:Β Yf {b with defers:=Go.Conc.dcall f #[]::b.defers} cs nt (.inRegion ops rest::k) env):Β Yf b cs nt (.inRegion ops (i::rest)::k) env:=by
 intro t m d;refine W4 _ (Go.Conc.G (ο {b with defers:=Go.Conc.dcall f #[]::b.defers} t (.inRegion ops rest::k)) cs) ⟨rfl,rfl⟩ (λw=>?_) (h t m d);rw[WY c.run c.ro,stepG_defer (a:=⟨t,b.defers⟩) c.op (U0 d e) c.kd l];have:(⟨t,Go.Conc.dcall f #[]::b.defers⟩:_root_.Go.Act).put op.dst undef=⟨t,Go.Conc.dcall f #[]::b.defers⟩:=by rw[g];rfl
 simp only[Array.map_empty,List.map_toArray,UA];rw[this,WY (b:={b with defers:=Go.Conc.dcall f #[]::b.defers}) c.run c.ro];rfl
theorem Β.call (c:TJ b ops i op) (o:XK env ops op=some true) {args:Array Operand} {p:Array TypeId} {g:FuncId} (r:op.op=.call ⟨.value (.func g),args,p⟩) {vs:List Value} (s:Lo env args vs) {fn:Func} {body:Code} (l:P.funcs[g]?=some fn) (u:(fn.name == "runtime.NumGoroutine")=false) (d:fn.body=some body) (v:vs.length<=fn.ntmps)
  (h:∀t:Array Value,t.size=nt->YT Xz [] [] env t->Β Yf (Frame.enter P g vs.toArray .normal) (ο b t (.inRegion ops (i::rest)::k)::cs) fn.ntmps [.code body] (entry 0 (vs.map Ω.z))):Β Yf b cs nt (.inRegion ops (i::rest)::k) env:=by
 intro t f j;have m:=h t f j (vs.toArray++Array.replicate (fn.ntmps-vs.length) undef) (by simp;omega) (uV vs v);rw[show vs.toArray++Array.replicate (fn.ntmps-vs.length) undef=vs.toArray++Array.replicate (fn.ntmps-vs.toArray.size) undef by simp,<-SF l d] at m;refine W4 _ _ ⟨rfl,rfl⟩ (λw=>?_) m;have x:(fn.name == "runtime.NumGoroutine")=false:=u;have y:fn.body.isNone=false:=by rw[d];rfl
 have n:(execOp (ZN t) op).run P w=.ok (.enter g vs.toArray) w/\(execOp (ZN t) op).events P w #[]=#[]:=by
  have e:execOp (ZN t) op=callFunc g vs.toArray:=by
   unfold execOp;rw[r];have:args.map (ZN t)=vs.toArray:=s.ZN j;simp only[resolve];rw[this];simp[Deferred.ofValue,Go.TL.ZN,invoke]
  rw[e];unfold callFunc;have f:¬fn.name = "runtime.NumGoroutine" := by simpa using x
  simp[l,f,d]
 rw[WY c.run c.ro,stepG_enter (a:=⟨t,b.defers⟩) c.op (U0 j o) c.kd (by rw[T5];exact n.1)];unfold listed;rw[T5,n.2,seen_none]
theorem Β.PK (e:b.roundOf=none) (g:b.defers=[]) (i:b.kind=.normal) {fn:Func} (j:P.funcs[b.fn]?=some fn) {d:Nat} (f:fn.results=#[.tmp d]) {v:Value} (hv:Z7 env d=.z v) {c:Frame}
  (h:Yf (Go.Conc.G (c.finish v) cs)):Β Yf b (c::cs) nt (.code .ret::k) env:=by
 intro t n l;have m:t.getD d undef=v:=by
  have:=l d;rw[hv] at this;generalize t.getD d undef=u at this;cases this;rfl
 refine W4 _ (Go.Conc.G {ο b t (.code .ret::k) with mode:=.returning} (c::cs)) ⟨rfl,rfl⟩ (λw=>?_) (W4 _ _ ⟨rfl,rfl⟩ (λw=>?_) h)
 .rw[Vu hb];unfold stepG.exec;simp only[ο,e];rfl
 .rw[WY hb e,stepG_leave (a:=⟨t,b.defers⟩) i g j (results_tmp f _ P w) (events_results_tmp f _ _),m]
theorem Β.ID (d:b.roundOf=none) (f:b.defers=[]) (g:b.kind=.normal) {fn:Func} (i:P.funcs[b.fn]?=some fn) (e:fn.results=#[]) {c:Frame}
  (h:Yf (Go.Conc.G (c.finish (.tuple #[])) cs)):Β Yf b (c::cs) nt [] env:=by
 intro t j k;refine W4 _ (Go.Conc.G {ο b t [] with mode:=.returning} (c::cs)) ⟨rfl,rfl⟩ (λw=>?_) (W4 _ _ ⟨rfl,rfl⟩ (λw=>?_) h)
 .rw[Vu hb];unfold stepG.exec;simp only[ο,d];rfl
 .rw[WY hb d,stepG_leave (a:=⟨t,b.defers⟩) g f i (Go.results_none e _ P w) (Go.Conc.events_results_none e _ _)]
end
attribute [congr] uS
attribute [simp] NZ uU uT MQ
def UW (P:Program) (a:Value->Prop) (mn:Bool) (y:ZZ) (g:Goroutine):Prop:=VI g/\Goes P a mn g {y with G:=Χ.empty}
def Ur (P:Program) (d:Nat) (g:Goroutine):Prop:=∃n,QuitsD P n d g
theorem ZJ {P:Program} {c:Value->Prop} {mn:Bool} {y:ZZ} (d:XN y):Gg P mn (UW P c mn y):=λg g' a e b=>⟨a,Quiet.goes (.cons a e (.nil _)) d b.1 b.2⟩
theorem Yi {P:Program} {d:Nat}:Gg P false (Ur P d):=λg g' a b ⟨n,c⟩=>⟨n+1,.ctl a.1 b c⟩
section
variable {P:Program} {Q:Value->Prop} {mn:Bool} {y:ZZ} {b:Frame} {cs:List Frame} {nt:Nat} {k:List Item} {env:ω}
variable {ops:Array Oper} {i:Nat} {rest:List Nat} {op:Oper} {f:FuncId} {e:Array Value->Sem Value} {args:Array Operand} {vs:List Value}
theorem Β.leaves {d:Nat} (a:y.rel=true) (c:∀s,Gone (y.tok s)) (hd:y.deaf=d) (h:Β (Ur P d) b cs nt k env):Β (UW P Q false y) b cs nt k env:=λt e f=>by
 obtain⟨n,g⟩:=h t e f;subst hd;exact⟨⟨rfl,rfl⟩,Goes.quits n a c g⟩
theorem Β.disable (d:XN y) (h:WL P b ops i op f (λ_=>do mark .disable;pure Extern.Race.none_) args env [] nt) (e:Β (UW P Q mn {y with deaf:=y.deaf+1}) b cs nt (.inRegion ops rest::k) (Zt op env SB)):Β (UW P Q mn y) b cs nt (.inRegion ops (i::rest)::k) env:=λt g c=>by
 obtain⟨j,l⟩:=QN c h.dst g (a:=SB) (v:=.tuple #[]) (.z _);exact⟨⟨rfl,rfl⟩,Goes.step d.ok (.inr ⟨⟨rfl,rfl⟩,.inr (.inl ⟨Go.Conc.G (ο b (put op t (.tuple #[])) (.inRegion ops rest::k)) cs,⟨rfl,rfl⟩,.inl λw _=>
  ⟨h.step c (IK .disable) (IJ .disable _) (QH I),(e _ l j).2⟩⟩)⟩)⟩
def Ge (P:Program) (Q:Value->Prop) (mn:Bool) (y:ZZ) (b:Frame) (cs:List Frame) (nt:Nat) (ops:Array Oper) (rest:List Nat) (k:List Item) (op:Oper) (env:ω) (s φ:Nat) (a:ε) (v:Value):Prop:=
 Β (UW P Q mn {y with view:=upd y.view s (some (φ,a))}) b cs nt (.inRegion ops rest::k) (Zt op env (.z v))
def Ir (P:Program) (Q:Value->Prop) (mn:Bool) (y:ZZ) (b:Frame) (cs:List Frame) (nt:Nat) (ops:Array Oper) (rest:List Nat) (k:List Item) (op:Oper) (env:ω) (s φ:Nat) (c:ε) (v:Value) (o':ε) (t':Tok):Prop:=
 Act c (y.tok s) o' t'/\∀a,a<φ->Β (UW P Q mn {y with tok:=upd y.tok s t',view:=upd y.view s (some (a,o'))}) b cs nt (.inRegion ops rest::k) (Zt op env (.z v))
theorem Β.ext (r:XN y) {s:Nat} {sp:Spec} (u:y.spec s=some sp) (x:¬W9 (y.tok s)) (h:WL P b ops i op f e args env vs nt)
  (A:∀(w:World) (φ:Nat) (c:ε),Seen y s sp φ c->At s c w->
   (∃v w' d,(e vs.toArray).run P w=.ok v w'/\(e vs.toArray).events P w #[⟨.mark (Mark.extern f),false,true⟩]=#[⟨.mark (Mark.extern f),false,true⟩]++d/\(∀y∈d,y.sync=true/\∀g,y.loc≠.mark (Mark.extern g))/\
    Xj (λB _=>X9 s sp B) (λ_=>False) w w'/\Sm s sp y.deaf d/\
    ((At s c w'/\Ge P Q mn y b cs nt ops rest k op env s φ c v)\/∃o' t',At s o' w'/\Ir P Q mn y b cs nt ops rest k op env s φ c v o' t'))) :
  Β (UW P Q mn y) b cs nt (.inRegion ops (i::rest)::k) env:=by
 obtain⟨U,n⟩:=h.call;intro t C j;refine⟨⟨rfl,rfl⟩,Goes.step r.ok (.inr ⟨⟨rfl,rfl⟩,.inr (.inr (.inr (.inl ⟨s,sp,u,x,λw φ c V hv D E F H=>?_⟩)))⟩)⟩;obtain⟨v,w',d,I,J,K,L,M,N⟩:=A w φ c ⟨D,F,H⟩ E;have O:=IM (mn:=mn) (cs:=cs) (rest:=rest) (k:=k) h.T' h.at_ (U0 j h.want) n (h.Ln.ZN j) I J K;refine .inl ?_;rw[O];obtain⟨o,p⟩:=QN j h.dst C (a:=.z v) (v:=v) (.z _);refine⟨⟨rfl,rfl⟩,L,M,?_⟩;rcases N with⟨l,m⟩|⟨o',t',l,m,R⟩
 .exact .inl ⟨l,(m _ p o).2⟩
 .exact .inr ⟨o',t',m,l,.inl (C8 h.T' h.at_ n),λS T=>(R S T _ p o).2⟩
section
variable {s:Nat} {sp:Spec} (X8:XN y) (hd:0<y.deaf) (VQ:y.spec s=some sp) (VP:¬W9 (y.tok s))
include X8 hd VQ VP
theorem Β.GB (h:WL P b ops i op f (Extern.Atomic.loadT (.int .u64)) args env [.pointer (some ⟨s,0,none⟩)] nt)
  (e:∀φ a,Seen y s sp φ a->Ge P Q mn y b cs nt ops rest k op env s φ a (.int .u64 (Y0 a))):Β (UW P Q mn y) b cs nt (.inRegion ops (i::rest)::k) env:=by
 refine .ext X8 VQ VP h λw φ a g c=>?_;have d:=c.Tk;refine⟨.int .u64 (Y0 a),w,#[⟨.cell ⟨s,0,none⟩,false,true⟩],?_,?_,QD (QE _ false),Xj.refl _ _ _,QG (.inl rfl) hd (QE _ false),.inl ⟨c,e φ a g⟩⟩
 .change Sem.run P (do Extern.Atomic.read (.int .u64) (<-asAddr (.pointer (some _)))) w=_;simp[Extern.Atomic.read,asAddr,d]
 .change Sem.events P (do Extern.Atomic.read (.int .u64) (<-asAddr (.pointer (some _)))) w _=_;simp[Extern.Atomic.read,asAddr,d,events_load]
theorem Β.GA {d:Int} (h:WL P b ops i op f (Extern.Atomic.update (Op.intArith .add) .u64 true) args env [.pointer (some ⟨s,0,none⟩),.int .u64 d] nt)
  (o:∀φ a,Seen y s sp φ a->∃o' t',Y0 o'=IntKind.u64.wrap (Y0 a+d)/\o'.YV=a.YV/\QC a o'/\Ir P Q mn y b cs nt ops rest k op env s φ a (.int .u64 (Y0 o')) o' t') :
  Β (UW P Q mn y) b cs nt (.inRegion ops (i::rest)::k) env:=by
 refine .ext X8 VQ VP h λw φ a p c=>?_;have j:=c.Tk;have l:=c.O7 0;obtain⟨o',t',m,r,e,n⟩:=o φ a p;rw[m] at n;refine⟨_,_,_,run_add_entry j l,(events_add_entry j l _).trans rfl,QD (QF ⟨s,0,none⟩),c.MX _,QG (.inl rfl) hd (QF ⟨s,0,none⟩),.inr ⟨o',t',c.MY e.ZO e.g e.w ?_,n⟩⟩;rw[m,r];rfl
theorem Β.uQ {d:Int} (h:WL P b ops i op f Extern.Atomic.storeT args env [.pointer (some ⟨s,0,none⟩),.int .u64 d] nt)
  (m:∀φ a,Seen y s sp φ a->∃o' t',Y0 o'=d/\o'.YV=a.YV/\QC a o'/\Ir P Q mn y b cs nt ops rest k op env s φ a (.tuple #[]) o' t') :
  Β (UW P Q mn y) b cs nt (.inRegion ops (i::rest)::k) env:=by
 refine .ext X8 VQ VP h λw φ a n c=>?_;have j:=c.Tk;have l:=c.O7 0;obtain⟨o',t',o,p,e,r⟩:=m φ a n;refine⟨.tuple #[],w.setCell ⟨s,0,none⟩ (.int .u64 d),#[⟨.cell ⟨s,0,none⟩,true,true⟩],?_,?_,QD (QE _ true),c.MX _,QG (.inl rfl) hd (QE _ true),.inr ⟨o',t',c.MY e.ZO e.g e.w (by rw[o,p];rfl),r⟩⟩
 .change Sem.run P (do
   store (<-asAddr (.pointer (some _))) (.int .u64 d) .atomic
   pure Extern.Atomic.none_) w=_
  simp[asAddr,j,l,run_store P w _ (.int .u64 d) .atomic rfl,Result.andThen,Extern.Atomic.none_]
 .change Sem.events P (do
   store (<-asAddr (.pointer (some _))) (.int .u64 d) .atomic
   pure Extern.Atomic.none_) w _=_
  simp[asAddr,j,l,events_store P w _ _ (.int .u64 d) .atomic rfl]
end
section
variable {s:Nat} {sp:Spec} (X8:XN y) (VQ:y.spec s=some sp) (VP:¬W9 (y.tok s))
include X8 VQ VP
theorem Β.uP (e:vs[0]?=some (.pointer (some ⟨s,1,none⟩))) (h:WL P b ops i op f Extern.Sync.semrelease args env vs nt)
  (l:∀φ a,Seen y s sp φ a->a.YV<1000/\∃o' t',Y0 o'=Y0 a/\o'.YV=a.YV+1/\QC a o'/\Ir P Q mn y b cs nt ops rest k op env s φ a (.tuple #[]) o' t') :
  Β (UW P Q mn y) b cs nt (.inRegion ops (i::rest)::k) env:=by
 refine .ext X8 VQ VP h λw φ a m c=>?_;have j:=c.II;obtain⟨r,o',t',n,o,d,p⟩:=l φ a m;refine⟨_,_,_,CZ e j (c.O7 1),CY e j (c.O7 1) _,semEvents_sync _,c.MX _,IE (.inl rfl),.inr ⟨o',t',c.MY d.ZO d.g d.w ?_,p⟩⟩;rw[n,o,show IntKind.u32.wrap (((a.YV:Nat):Int)+1)=((a.YV+1:Nat):Int) by simp only[IntKind.wrap_u32];omega];rfl
end
theorem Cr {t:Array Value} (e:b.mode=.run) (g:b.roundOf=none) (i:b.defers=[Go.Conc.dcall f #[]]) (j:b.kind=.normal) {fn:Func} (l:P.funcs[b.fn]?=some fn) (d:fn.results=#[]) (m:Entry P f (λ_=>do mark .enable;pure Extern.Race.none_)) {c:Frame}
  (h:Ur P 0 (Go.Conc.G (c.finish (.tuple #[])) cs)):Ur P 1 (Go.Conc.G {ο b t k with mode:=.returning} (c::cs)):=by
 obtain⟨v,o,Φ,p,r,s⟩:=m;obtain⟨n,u⟩:=h;rw[WY e g];refine⟨n+1+1,QuitsD.unwind_mark (a:=⟨t,b.defers⟩) (ds:=[]) .enable rfl I i o Φ p r s ?_⟩;exact .ctl rfl (λw=>stepG_leave (a:=⟨t,[]⟩) j rfl l (Go.results_none d _ P w) (Go.Conc.events_results_none d _ _)) u
theorem Β.Gh (a:b.mode=.run) (d:b.roundOf=none) (e:b.defers=[Go.Conc.dcall f #[]]) (g:b.kind=.normal) {fn:Func} (i:P.funcs[b.fn]?=some fn) (j:fn.results=#[]) (l:Entry P f (λ_=>do mark .enable;pure Extern.Race.none_)) {c:Frame}
  (h:Ur P 0 (Go.Conc.G (c.finish (.tuple #[])) cs)):Β (Ur P 1) b (c::cs) nt (.code .ret::k) env:=λt _ _=>by
 refine Yi _ (Go.Conc.G {ο b t (.code .ret::k) with mode:=.returning} (c::cs)) ⟨rfl,rfl⟩ (λw=>?_) (Cr a d e g i j l h);rw[Vu a];unfold stepG.exec;simp only[ο,d];rfl
theorem Β.uO (a:b.mode=.run) (d:b.roundOf=none) (e:b.defers=[Go.Conc.dcall f #[]]) (g:b.kind=.normal) {fn:Func} (i:P.funcs[b.fn]?=some fn) (j:fn.results=#[]) (k:Entry P f (λ_=>do mark .enable;pure Extern.Race.none_)) {c:Frame}
  (h:Ur P 0 (Go.Conc.G (c.finish (.tuple #[])) cs)):Β (Ur P 1) b (c::cs) nt [] env:=λt _ _=>by
 refine Yi _ (Go.Conc.G {ο b t [] with mode:=.returning} (c::cs)) ⟨rfl,rfl⟩ (λw=>?_) (Cr a d e g i j k h);rw[Vu a];unfold stepG.exec;simp only[ο,d];rfl
end
def MP (x:ZZ):ZZ:={x with Z3:=λ_=>none,rel:=true}
theorem V.Ht {P:Program} {m:Value->Prop} {x:ZZ} {b:Frame} {cs:List Frame} {nt:Nat} {o:Base} {k:List Item} {env:ω} {ops:Array Oper} {i:Nat} {rest:List Nat} {l:Oper} {f:FuncId} {args:Array Operand} (r:x.rel=false) {s n:Nat} {sp:Spec} {c:Un} {v:Option (Nat×ε)} (E:x.spec s=some sp) (F:c=.done\/(c=.idle/\sp.ZO=none)) (J:∀g,g≠s->W9 (x.tok g)) (K:sp.D n Χ.empty)
  (h:WL P b ops i l f (Extern.Race.marked .releaseMerge) args env [.pointer (some ⟨s,0,none⟩)] nt) (L:∀p∈Zt l env SB,∃v,p.2=Ω.z v)
  (M:Β (UW P m false (ZI (MP x) s (.ch n c .rel) none 0)) b cs nt (.inRegion ops rest::k) (Zt l env SB)):V P m false (one (ZI x s (.ch n c .work) v 0)) b cs nt o (.inRegion ops (i::rest)::k) env []:=by
 intro S B H t Q u y N;cases N;have A:=u.put h.dst (a:=SB) (v:=.tuple #[]) (.z _);have O:=(M _ A.size (Lf L A.Zm)).2;refine Goes.step (XN.ok (.inl r)) (.inr ⟨⟨rfl,rfl⟩,.inr (.inr (.inr (.inr (.inr (.inr (.inl ⟨s,sp,n,c,Go.Conc.G (ο b (put l t (.tuple #[])) (.inRegion ops rest::k)) cs,Χ.empty,E,Zn (v:=v) (d:=0),F,λg C=>by
  rw[show({ZI x s (.ch n c .work) v 0 with G:=H}:ZZ).tok g=(ZI x s (.ch n c .work) v 0).tok g from rfl,Lk C];exact J g C,rfl,⟨rfl,rfl⟩,r,λw _=>
  h.step u.Zm (M1 .releaseMerge _) (M0 .releaseMerge _ _) (QH I),⟨λb o v p j=>(by cases j),λb y j=>(by cases j),λb y j=>(by cases j)⟩,K,?_⟩))))))⟩)
 have e:({({ZI x s (.ch n c .work) v 0 with G:=H}:ZZ) with G:=Χ.empty,Z3:=λ_=>none,tok:=upd ({ZI x s (.ch n c .work) v 0 with G:=H}:ZZ).tok s (.ch n c .rel),view:=upd ({ZI x s (.ch n c .work) v 0 with G:=H}:ZZ).view s none,rel:=true}:ZZ)={ZI (MP x) s (.ch n c .rel) none 0 with G:=Χ.empty}:=by
  unfold ZI MP;simp only[Gx]
 exact e▸O
end Go.TL
namespace Go.TL
open Go.Proofs.Tryz
open Go.Conc Go.Proofs
open Go.ConcN (sumTo upd sumTo_upd upd_ne upd_same sumTo_congr le_sumTo)
noncomputable def Iq:Code:=f140.body.getD .skip
noncomputable abbrev Gd (s:Nat):Frame:={Frame.enter prog 140 #[ptr s 0,.int .i64 (-1)] .normal with defers:=[Go.Conc.dcall 161 #[]]}
theorem uN:IntKind.u64.wrap (IntKind.u64.wrap (-1)*2 ^ min 32 IntKind.u64.bits)=18446744069414584320:=ZY
theorem uM:IntKind.u64.wrap (18446744073709551615*2 ^ min 32 IntKind.u64.bits)=18446744069414584320:=ZY
theorem uL:IntKind.u64.wrap (-1)=18446744073709551615:=ZY
theorem Ip:IntKind.i32.wrap (-1)=-1:=ZY
section
variable {Q:Value->Prop} {c:Frame} {rest:List Frame} {s k:Nat} {sp:Spec} {v:Option (Nat×ε)}
theorem uK [ZX] (n:Ur prog 0 (Go.Conc.G (c.finish (.tuple #[])) rest)) {cc w0:Nat} (e:cc<8) (f:w0<2) (o:0<cc\/w0=0) {env:ω} (g:Z7 env 0=.z (ptr s 0)) (h:Z7 env 1=.z (.int .i64 (-1))) (i:Z7 env 4=.z (.bool false)) (d:Z7 env 6=.z (.int .u64 (Wk cc w0))) :
  Β (Ur prog 1) (Gd s) (c::rest) 117 [.code (Yq [1,1,1,1] Iq)] env:=by
 have j:∀(K:List Item) (env:ω),Β (Ur prog 1) (Gd s) (c::rest) 117 (.code .ret::K) env:=λK env=>Β.Gh rfl rfl rfl rfl func140 rfl O6 n
 have k:¬(cc:Int)<0:=OE.2 (Int.natCast_nonneg _)
 have p:w0=0\/w0=1:=U
 have f1:=Iw cc e w0 f
 have f2:=Iv cc e w0 f
 have f3:=Iu cc e w0 f;generalize Wk cc w0=w at f1 f2 f3 d;unfold Iq;by_cases a:0<cc
 .have l:(0:Int)<cc:=by exact_mod_cast a
  rcases p with rfl|rfl
  ·(repeat (first|refine Β.seq Yi rfl ?_|refine Β.block Yi rfl ?_|refine Β.inBlock Yi rfl ?_|refine Β.skip Yi rfl ?_|refine Β.TD Yi rfl rfl ?_|refine Β.TC Yi rfl rfl ?_|(refine Β.region Yi rfl Ρ rfl (by simp[Frame.enter]) λm b=>?_;(try simp);(repeat (refine WI ?_;simp[g,h,i,d,f1,f2,f3,Ip,k,a,l]));refine b _ ?_)));exact j _ _
  ·(repeat (first|refine Β.seq Yi rfl ?_|refine Β.block Yi rfl ?_|refine Β.inBlock Yi rfl ?_|refine Β.skip Yi rfl ?_|refine Β.TD Yi rfl rfl ?_|refine Β.TC Yi rfl rfl ?_|(refine Β.region Yi rfl Ρ rfl (by simp[Frame.enter]) λm b=>?_;(try simp);(repeat (refine WI ?_;simp[g,h,i,d,f1,f2,f3,Ip,k,a,l]));refine b _ ?_)));exact j _ _
 .have r:w0=0:=o.resolve_left a
  have t:cc=0:=Nat.eq_zero_of_not_pos a;subst r;subst t;(repeat (first|refine Β.seq Yi rfl ?_|refine Β.block Yi rfl ?_|refine Β.inBlock Yi rfl ?_|refine Β.skip Yi rfl ?_|refine Β.TD Yi rfl rfl ?_|refine Β.TC Yi rfl rfl ?_|(refine Β.region Yi rfl Ρ rfl (by simp[Frame.enter]) λm b=>?_;(try simp);(repeat (refine WI ?_;simp[g,h,i,d,f1,f2,f3,Ip]));refine b _ ?_)));exact j _ _
structure Rl (x:ZZ) (s:Nat) (sp:Spec):Prop where
 rel:x.rel=true
 spec:x.spec s=some sp
 top:sp.top<7
 shut:∀a,a≠s->W9 (x.tok a)
theorem Rl.here {x:ZZ} (h:Rl x s sp) {g:Pv} {d:Nat} (a:g≠.gone):XN (ZI x s (.ch k .done g) v d):=.inr ⟨s,by rw[Zn];cases g<;>simp_all [Gone]⟩
theorem Rl.gone {x:ZZ} (h:Rl x s sp) {d:Nat}:∀a,Gone ((ZI x s (.ch k .done .gone) v d).tok a):=λa=>by
 by_cases e:a=s
 .subst e;rw[Zn];trivial
 .rw[Lk e];have:=h.shut a e;revert this;cases x.tok a with
  | nil=>exact λ_=>trivial
  | par n p b=>cases b<;>exact λh=>h
  | ch k m g=>exact λh=>h.elim
theorem Rl.It {x:ZZ} (b:Rl x s sp) {a:ε} (h:a.toSpec=sp):a.top<7:=by have:=b.top;rw[show a.top=sp.top by rw[<-h]];exact this
theorem Β.back [ZX] {d:Goroutine->Prop} {b:Frame} {cs:List Frame} {nt:Nat} {k:List Item} {env:ω} {ops:Array Oper} {i:Nat} {rest:List Nat} {c:Oper} {t:Array Value} {v:Value} (e:ops[i]?=some c) (hd:WO nt c=true) (f:t.size=nt) (g:YT Xz [] [] env t)
  (h:Β d b cs nt (.inRegion ops rest::k) (Zt c env (.z v))):d (Go.Conc.G ((ο b t (.inRegion ops (i::rest)::k)).finish v) cs):=by
 rw[VV e];obtain⟨j,l⟩:=QN g hd f (a:=.z v) (v:=v) (.z _);exact h _ l j
theorem Β.Cq [ZX] {P:Program} {b:Frame} {cs:List Frame} {nt:Nat} {env:ω} (d:b.mode=.run) (e:b.roundOf=none) (f:b.defers=[]) (g:b.kind=.deferred) {fn:Func} (i:P.funcs[b.fn]?=some fn) (j:fn.results=#[]) {c:Frame} (k:c.mode=.returning)
  (h:Ur P 0 (Go.Conc.G c cs)):Β (Ur P 0) b (c::cs) nt [] env:=λt _ _=>by
 obtain⟨n,l⟩:=h;refine Yi _ (Go.Conc.G {ο b t [] with mode:=.returning} (c::cs)) ⟨rfl,rfl⟩ (λw=>?_) ⟨n+1,?_⟩
 .rw[Vu d];unfold stepG.exec;simp only[ο,e];rfl
 .rw[WY d e];exact QuitsD.leaveD (a:=⟨t,b.defers⟩) g f i j k l
theorem uJ [ZX] {x:ZZ} (g:Rl x s sp) {t:Tok} (a:∀v,XN (ZI x s t v 1)) (e:¬W9 t) {cs:List Frame} (h:∀φ b,Seen (ZI x s t v 1) s sp φ b->UW prog Q false (ZI x s t (some (φ,b)) 1) (Go.Conc.G (c.finish (.int .u64 (Y0 b))) cs)) :
  Β (UW prog Q false (ZI x s t v 1)) (Frame.enter prog 168 #[ptr s 0] .normal) (c::cs) 7 [.code (f168.body.getD .skip)] (entry 0 [.z (ptr s 0)]):=by
 simp only[f168,Option.getD_some];(repeat (first|refine Β.seq (ZJ (a _)) rfl ?_|refine Β.block (ZJ (a _)) rfl ?_|refine Β.inBlock (ZJ (a _)) rfl ?_|refine Β.skip (ZJ (a _)) rfl ?_|refine Β.TD (ZJ (a _)) rfl rfl ?_|refine Β.TC (ZJ (a _)) rfl rfl ?_|(refine Β.region (ZJ (a _)) rfl Ρ rfl (by simp[Frame.enter]) λf d=>?_;(try simp);(repeat (refine WI ?_;simp[e]));refine d _ ?_)));refine Β.Zg (ZJ (a _)) rfl ?_;refine Β.part (ZJ (a _)) rfl Ρ rfl (by simp[Frame.enter]) [0,1,2] [3,4] rfl λf d=>?_;(try simp[-NZ]);(repeat (refine WI ?_;simp));refine d _ ?_;refine Β.GB (a _) (UP _) (sp:=sp) g.spec (by rw[Zn];exact e) ⟨⟨rfl,rfl,by simp[Frame.enter],rfl⟩,CP,⟨_,rfl⟩,rfl,rfl,rfl⟩ λφ b i=>?_;unfold Ge;rw[UX];refine Β.part (ZJ (a _)) rfl Ρ rfl (by simp[Frame.enter]) [4] [] rfl λf d=>?_;(try simp[-NZ]);(repeat (refine WI ?_;simp));refine d _ ?_;refine Β.ZF (ZJ (a _)) rfl ?_;exact Β.PK (ZJ (a _)) rfl rfl rfl rfl func168 rfl rfl (h φ b i)
theorem uI [ZX] {x:ZZ} (i:Rl x s sp) {t t':Tok} {d:Int} (a:∀v,XN (ZI x s t v 1)) (g:∀v,XN (ZI x s t' v 1)) (h:¬W9 t) {cs:List Frame} (j:∀φ b,Seen (ZI x s t v 1) s sp φ b->∃o',Y0 o'=d/\o'.YV=b.YV/\QC b o'/\Act b t o' t'/\∀e,e<φ->UW prog Q false (ZI x s t' (some (e,o')) 1) (Go.Conc.G (c.finish (.tuple #[])) cs)) :
  Β (UW prog Q false (ZI x s t v 1)) (Frame.enter prog 169 #[ptr s 0,.int .u64 d] .normal) (c::cs) 9 [.code (f169.body.getD .skip)] (entry 0 [.z (ptr s 0),.z (.int .u64 d)]):=by
 simp only[f169,Option.getD_some];(repeat (first|refine Β.seq (ZJ (a _)) rfl ?_|refine Β.block (ZJ (a _)) rfl ?_|refine Β.inBlock (ZJ (a _)) rfl ?_|refine Β.skip (ZJ (a _)) rfl ?_|refine Β.TD (ZJ (a _)) rfl rfl ?_|refine Β.TC (ZJ (a _)) rfl rfl ?_|(refine Β.region (ZJ (a _)) rfl Ρ rfl (by simp[Frame.enter]) λk f=>?_;(try simp);(repeat (refine WI ?_;simp[h]));refine f _ ?_)));refine Β.Zg (ZJ (a _)) rfl ?_;refine Β.part (ZJ (a _)) rfl Ρ rfl (by simp[Frame.enter]) [0,1,2,3] [4] rfl λk f=>?_;(try simp[-NZ]);(repeat (refine WI ?_;simp));refine f _ ?_;refine Β.uQ (a _) (UP _) (sp:=sp) i.spec (by rw[Zn];exact h) ⟨⟨rfl,rfl,by simp[Frame.enter],rfl⟩,vz,⟨_,rfl⟩,rfl,rfl,rfl⟩ λφ b l=>?_;obtain⟨o',m,n,o,p,r⟩:=j φ b l;refine⟨o',t',m,n,o,by rw[Zn];exact p,λe u=>?_⟩;rw[WK];refine Β.ZF (ZJ (g _)) rfl ?_;exact Β.ID (ZJ (g _)) rfl rfl rfl rfl func169 rfl (r e u)
theorem uH [ZX] {x:ZZ} (j:Rl x s sp) {t:Tok} {d:Int} (a:∀v,XN (ZI x s t v 1)) (k:¬W9 t) {cs:List Frame}
  (l:∀φ b,Seen (ZI x s t v 1) s sp φ b->∃o' t',Y0 o'=IntKind.u64.wrap (Y0 b+d)/\o'.YV=b.YV/\QC b o'/\Act b t o' t'/\∀f,f<φ->(((∀v,XN (ZI x s t' v 1))/\UW prog Q false (ZI x s t' (some (f,o')) 1) (Go.Conc.G (c.finish (.int .u64 (Y0 o'))) cs))\/((∀m,Gone ((ZI x s t' (some (f,o')) 1).tok m))/\Ur prog 1 (Go.Conc.G (c.finish (.int .u64 (Y0 o'))) cs)))) :
  Β (UW prog Q false (ZI x s t v 1)) (Frame.enter prog 166 #[ptr s 0,.int .u64 d] .normal) (c::cs) 10 [.code (f166.body.getD .skip)] (entry 0 [.z (ptr s 0),.z (.int .u64 d)]):=by
 simp only[f166,Option.getD_some];(repeat (first|refine Β.seq (ZJ (a _)) rfl ?_|refine Β.block (ZJ (a _)) rfl ?_|refine Β.inBlock (ZJ (a _)) rfl ?_|refine Β.skip (ZJ (a _)) rfl ?_|refine Β.TD (ZJ (a _)) rfl rfl ?_|refine Β.TC (ZJ (a _)) rfl rfl ?_|(refine Β.region (ZJ (a _)) rfl Ρ rfl (by simp[Frame.enter]) λh e=>?_;(try simp);(repeat (refine WI ?_;simp[k]));refine e _ ?_)));refine Β.Zg (ZJ (a _)) rfl ?_;refine Β.part (ZJ (a _)) rfl Ρ rfl (by simp[Frame.enter]) [0,1,2,3] [4,5] rfl λh e=>?_;(try simp[-NZ]);(repeat (refine WI ?_;simp));refine e _ ?_;refine Β.GA (a _) (UP _) (sp:=sp) j.spec (by rw[Zn];exact k) ⟨⟨rfl,rfl,by simp[Frame.enter],rfl⟩,CQ,⟨_,rfl⟩,rfl,rfl,rfl⟩ λφ b n=>?_;obtain⟨o',t',o,p,r,u,w⟩:=l φ b n;refine⟨o',t',o,p,r,by rw[Zn];exact u,λf y=>?_⟩;rw[WK];rcases w f y with⟨g,i⟩|⟨g,i⟩
 .refine Β.part (ZJ (g _)) rfl Ρ rfl (by simp[Frame.enter]) [5] [] rfl λh e=>?_;(try simp[-NZ]);(repeat (refine WI ?_;simp));refine e _ ?_;refine Β.ZF (ZJ (g _)) rfl ?_;exact Β.PK (ZJ (g _)) rfl rfl rfl rfl func166 rfl rfl i
 .refine Β.leaves (d:=1) j.rel g rfl ?_;refine Β.part Yi rfl Ρ rfl (by simp[Frame.enter]) [5] [] rfl λh e=>?_;(try simp[-NZ]);(repeat (refine WI ?_;simp));refine e _ ?_;refine Β.ZF Yi rfl ?_;exact Β.PK Yi rfl rfl rfl rfl func166 rfl rfl i
theorem uG [ZX] {x:ZZ} (j:Rl x s sp) (u:Ur prog 0 (Go.Conc.G (c.finish (.tuple #[])) rest)) {env:ω} (h:Z7 env 0=.z (ptr s 0)) (y:Z7 env 1=.z (.int .i64 (-1))) (l:Z7 env 4=.z (.bool false)) (m:Z7 env 6=.z (.int .u64 (Wk 0 1))) :
  Β (UW prog Q false (ZI x s (.ch k .done .l2) v 1)) (Gd s) (c::rest) 117 [.code (Yq [1,1,1,1] Iq)] env:=by
 have f1:=Iw 0 ZY 1 ZY
 have f2:=Iv 0 ZY 1 ZY
 have f3:=Iu 0 ZY 1 ZY
 have R:Wk 0 1=1:=ZY;generalize A:Wk 0 1=w at f1 f2 f3 m;have f:=j.here (k:=k) (v:=v) (d:=1) (g:=.l2) I;unfold Iq;(repeat (first|refine Β.seq (ZJ f) rfl ?_|refine Β.block (ZJ f) rfl ?_|refine Β.inBlock (ZJ f) rfl ?_|refine Β.skip (ZJ f) rfl ?_|refine Β.TD (ZJ f) rfl rfl ?_|refine Β.TC (ZJ f) rfl rfl ?_|(refine Β.region (ZJ f) rfl Ρ rfl (by simp[Frame.enter]) λi b=>?_;(try simp);(repeat (refine WI ?_;simp[h,y,l,m,f1,f2,f3,Ip]));refine b _ ?_)));refine Β.Zg (ZJ f) rfl ?_;refine Β.part (ZJ f) rfl Ρ rfl (by simp[Frame.enter]) [0,1,2] [3,4,5] rfl λi b=>?_;(repeat (refine WI ?_;simp[h]));refine b _ ?_;refine Β.call (ZJ f) rfl ⟨rfl,rfl,by simp[Frame.enter],rfl⟩ rfl rfl (vs:=[ptr s 0]) rfl func168 rfl rfl (by simp[ntmps168]) λt B C=>?_;have e:∀v,XN (ZI x s (.ch k .done .l2) v 1):=λv=>j.here I;have a:∀v,XN (ZI x s (.ch k .done .RO) v 1):=λv=>j.here I;refine uJ j e id λφ D E=>?_;have n:=E.Vp.PH;rw[Zn] at n;obtain⟨F,H⟩:=n.l2 k _ rfl;have J:Y0 D=w:=by rw[<-A];simp only[Y0,F,H]
 rw[J];refine Β.back rfl rfl B C ?_;refine Β.part (ZJ (e _)) rfl Ρ rfl (by simp[Frame.enter]) [4,5] [] rfl λi b=>?_;(repeat (refine WI ?_;simp[m]));refine b _ ?_;refine Β.ZF (ZJ (e _)) rfl ?_;(repeat (first|refine Β.seq (ZJ (e _)) rfl ?_|refine Β.block (ZJ (e _)) rfl ?_|refine Β.inBlock (ZJ (e _)) rfl ?_|refine Β.skip (ZJ (e _)) rfl ?_|refine Β.TD (ZJ (e _)) rfl rfl ?_|refine Β.TC (ZJ (e _)) rfl rfl ?_|(refine Β.region (ZJ (e _)) rfl Ρ rfl (by simp[Frame.enter]) λi b=>?_;(try simp);(repeat (refine WI ?_;simp[h]));refine b _ ?_)));refine Β.Zg (ZJ (e _)) rfl ?_;refine Β.part (ZJ (e _)) rfl Ρ rfl (by simp[Frame.enter]) [0,1,2] [3] rfl λi b=>?_;(repeat (refine WI ?_;simp[h]));refine b _ ?_;refine Β.call (ZJ (e _)) rfl ⟨rfl,rfl,by simp[Frame.enter],rfl⟩ rfl rfl (vs:=[ptr s 0,.int .u64 0]) rfl func169 rfl rfl (by simp[ntmps169]) λt3 K L=>?_;refine uI j (t':=.ch k .done .RO) e a id λS M N=>?_;have o:=N.Vp.PH;rw[Zn] at o;obtain⟨T,O⟩:=o.l2 k _ rfl;refine⟨{M with wt:=0},by simp only[Y0,O];rfl,rfl,⟨rfl,rfl,rfl⟩,.Ac,λU V=>?_⟩;refine Β.back rfl rfl K L ?_;refine Β.ZF (ZJ (a _)) rfl ?_;(repeat (first|refine Β.seq (ZJ (a _)) rfl ?_|refine Β.block (ZJ (a _)) rfl ?_|refine Β.inBlock (ZJ (a _)) rfl ?_|refine Β.skip (ZJ (a _)) rfl ?_|refine Β.TD (ZJ (a _)) rfl rfl ?_|refine Β.TC (ZJ (a _)) rfl rfl ?_|(refine Β.region (ZJ (a _)) rfl Ρ rfl (by simp[Frame.enter]) λi b=>?_;(try simp);(repeat (refine WI ?_;simp[h,l]));refine b _ ?_)));refine Β.loop (ZJ (a _)) rfl ?_;(repeat (first|refine Β.seq (ZJ (a _)) rfl ?_|refine Β.block (ZJ (a _)) rfl ?_|refine Β.inBlock (ZJ (a _)) rfl ?_|refine Β.skip (ZJ (a _)) rfl ?_|refine Β.TD (ZJ (a _)) rfl rfl ?_|refine Β.TC (ZJ (a _)) rfl rfl ?_|(refine Β.region (ZJ (a _)) rfl Ρ rfl (by simp[Frame.enter]) λi b=>?_;(try simp);(repeat (refine WI ?_;simp[h,l]));refine b _ ?_)));refine Β.Zg (ZJ (a _)) rfl ?_;refine Β.part (ZJ (a _)) rfl Ρ rfl (by simp[Frame.enter]) [0,1,2] [3] rfl λi b=>?_;(repeat (refine WI ?_;simp[h]));refine b _ ?_;refine Β.uP (a _) (sp:=sp) j.spec (by rw[Zn];exact id) (vs:=[ptr s 1,.bool false,.int .i64 0]) rfl ⟨⟨rfl,rfl,by simp[Frame.enter],rfl⟩,vu,⟨_,rfl⟩,rfl,rfl,rfl⟩ λW p P=>?_;have r:=P.Vp.PH;rw[Zn] at r;refine⟨by have:=r.YV;omega,{p with YV:=p.YV+1},.ch k .done .gone,rfl,rfl,⟨rfl,rfl,rfl⟩,by rw[Zn];exact .Ab,λX Y=>?_⟩;rw[WK];refine Β.leaves (d:=1) j.rel j.gone rfl ?_;refine Β.ZF Yi rfl ?_;(repeat (first|refine Β.seq Yi rfl ?_|refine Β.block Yi rfl ?_|refine Β.inBlock Yi rfl ?_|refine Β.skip Yi rfl ?_|refine Β.TD Yi rfl rfl ?_|refine Β.TC Yi rfl rfl ?_|(refine Β.region Yi rfl Ρ rfl (by simp[Frame.enter]) λi b=>?_;(try simp);(repeat (refine WI ?_;simp[h,Is]));refine b _ ?_)));refine Β.inLoop Yi rfl ?_;(repeat (first|refine Β.seq Yi rfl ?_|refine Β.block Yi rfl ?_|refine Β.inBlock Yi rfl ?_|refine Β.skip Yi rfl ?_|refine Β.TD Yi rfl rfl ?_|refine Β.TC Yi rfl rfl ?_|(refine Β.region Yi rfl Ρ rfl (by simp[Frame.enter]) λi b=>?_;(try simp);(repeat (refine WI ?_;simp[h,Is]));refine b _ ?_)));refine Β.exit Yi rfl rfl ?_;exact Β.uO rfl rfl rfl rfl func140 rfl O6 u
structure Cp (x:ZZ) (s:Nat) (sp:Spec):Prop where
 rel:x.rel=false
 Z3:x.Z3=λ_=>none
 spec:x.spec s=some sp
 top:sp.top<7
 shut:∀a,a≠s->W9 (x.tok a)
theorem uF {x:ZZ} {H:Χ} (g:Cp x s sp) (R:sp.D k Χ.empty) (n:c.mode=.returning) (K:Ur prog 0 (Go.Conc.G c rest)) :
  Zd prog Q false (ZI x s (.ch k .done .work) v 0) (Frame.enter prog 142 #[ptr s 0] .deferred) (c::rest) H:=by
 letI:ZX:=XU;have r:∀t v d,Seq (one (ZI x s t v d)):=λt v d=>Seq.O8 trivial g.rel g.Z3;have h:Rl (MP x) s sp:=⟨rfl,g.spec,g.top,g.shut⟩;have b:∀v d,XN (ZI (MP x) s (.ch k .done .rel) v d):=λv d=>h.here I;have A:∀v d,XN (ZI (MP x) s (.ch k .done .l2) v d):=λv d=>h.here I;rw[SF (body:=f142.body.getD .skip) func142 rfl];refine V.here (x:=one _) (m:=0) (nt:=4) (S:=Xz) (B:=[]) (σ:=[]) (env:=entry 0 [.z (ptr s 0)]) ?_ (Xw.enter (MT H) ⟨rfl,λi a v C L=>?_⟩ (γ _) I) _ rfl
 .refine V.XO (r _ _ _) rfl ?_;simp only[f142,Option.getD_some];refine Y1 ?_;refine W.Zg ?_;refine Xu [0] [1] ?_;refine W.stop ?_;refine V.call (r _ _ _) ⟨rfl,rfl,by simp[Frame.enter],rfl⟩ rfl rfl rfl ⟨_,func140,rfl,rfl⟩ λab T ad t1 ae af j hv=>?_;obtain rfl:=TI (l:=[ptr s 0,.int .i64 (-1)]) hv;obtain rfl:T=[]:=YL.1 j.holds.len;rintro y rfl;refine V.Rr (z:=one _) (vs:=[ptr s 0,.int .i64 (-1)]) func140 rfl j.holds (by simp[ntmps140]) ?_ _ rfl;refine V.XO (r _ _ _) rfl ?_;refine Wj ?_;refine W.Zg ?_;refine Xu [0] [1,2] ?_;refine W.stop ?_;refine V.conv (r _ _ _).here (sp:=sp) g.spec (by rw[Zn];exact id) ⟨rfl,rfl,by simp[Frame.enter],rfl⟩ rfl rfl rfl Gp O5 Gn rfl (λe w ag X=>⟨_,X.Tk⟩) (λφ e ah=>?_);unfold V3;rw[UX];refine V.Ht g.rel (sp:=sp) g.spec (.inl rfl) g.shut R ⟨⟨rfl,rfl,by simp[Frame.enter],rfl⟩,CU,⟨_,rfl⟩,rfl,rfl,rfl⟩ I ?_;refine Β.ZF (ZJ (b _ _)) rfl ?_;(repeat (first|refine Β.seq (ZJ (b _ _)) rfl ?_|refine Β.block (ZJ (b _ _)) rfl ?_|refine Β.inBlock (ZJ (b _ _)) rfl ?_|refine Β.skip (ZJ (b _ _)) rfl ?_|refine Β.TD (ZJ (b _ _)) rfl rfl ?_|refine Β.TC (ZJ (b _ _)) rfl rfl ?_|(refine Β.region (ZJ (b _ _)) rfl Ρ rfl (by simp[Frame.enter]) λo f=>?_;(try simp);(repeat (refine WI ?_;simp[n]));refine f _ ?_)));refine Β.Zg (ZJ (b _ _)) rfl ?_;refine Β.disable (b _ _) ⟨⟨rfl,rfl,by simp[Frame.enter],rfl⟩,Lj,⟨_,rfl⟩,rfl,rfl,rfl⟩ ?_;rw[Lm];refine Β.ZF (ZJ (b _ _)) rfl ?_;refine Β.Zg (ZJ (b _ _)) rfl ?_;refine Β.Gy (ZJ (b _ _)) rfl ⟨rfl,rfl,by simp[Frame.enter],rfl⟩ rfl rfl rfl ?_;refine Β.ZF (ZJ (b _ _)) rfl ?_;(repeat (first|refine Β.seq (ZJ (b _ _)) rfl ?_|refine Β.block (ZJ (b _ _)) rfl ?_|refine Β.inBlock (ZJ (b _ _)) rfl ?_|refine Β.skip (ZJ (b _ _)) rfl ?_|refine Β.TD (ZJ (b _ _)) rfl rfl ?_|refine Β.TC (ZJ (b _ _)) rfl rfl ?_|(refine Β.region (ZJ (b _ _)) rfl Ρ rfl (by simp[Frame.enter]) λo f=>?_;(try simp);(repeat (refine WI ?_;simp[n]));refine f _ ?_)));refine Β.Zg (ZJ (b _ _)) rfl ?_;refine Β.IC (ZJ (b _ _)) rfl ⟨rfl,rfl,by simp[Frame.enter],rfl⟩ rfl rfl rfl CS ?_;refine Β.ZF (ZJ (b _ _)) rfl ?_;(repeat (first|refine Β.seq (ZJ (b _ _)) rfl ?_|refine Β.block (ZJ (b _ _)) rfl ?_|refine Β.inBlock (ZJ (b _ _)) rfl ?_|refine Β.skip (ZJ (b _ _)) rfl ?_|refine Β.TD (ZJ (b _ _)) rfl rfl ?_|refine Β.TC (ZJ (b _ _)) rfl rfl ?_|(refine Β.region (ZJ (b _ _)) rfl Ρ rfl (by simp[Frame.enter]) λo f=>?_;(try simp);(repeat (refine WI ?_;simp[n]));refine f _ ?_)));refine Β.Zg (ZJ (b _ _)) rfl ?_;refine Β.part (ZJ (b _ _)) rfl Ρ rfl (by simp[Frame.enter]) [0,1,2,3,4,5] [6,7] rfl λo f=>?_;(repeat (refine WI ?_;simp[uL,uN,uM]));refine f _ ?_;refine Β.call (ZJ (b _ _)) rfl ⟨rfl,rfl,by simp[Frame.enter],rfl⟩ rfl rfl (vs:=[ptr s 0,.int .u64 18446744069414584320]) rfl func166 rfl rfl (by simp[ntmps166]) λt2 M N=>?_;refine uH h (λv=>b v 1) id λφ e O=>?_;have u:=O.Vp.PH;rw[Zn] at u;have ai:1<=e.cnt:=u.live;have aj:=h.It O.spec;have ak:=u.cnt;have al:=u.wt;obtain⟨cc,E⟩:=Η (e.cnt-1);have p:e.cnt<8/\0<e.cnt/\cc<8/\e.wt<2:=U;have P:Y0 {e with cnt:=cc}=IntKind.u64.wrap (Y0 e+18446744069414584320):=by
   rw[O4,O4,u' e.cnt p.1 e.wt p.2.2.2 p.2.1,E]
  by_cases F:e.cnt=1/\e.wt=1
  .have Y:cc=0:=U
   refine⟨{e with cnt:=cc},.ch k .done .l2,P,rfl,⟨rfl,rfl,rfl⟩,by rw[E];exact .Ae F.1 F.2,λZ aa=>.inl ⟨λv=>A v 1,?_⟩⟩;have J:Y0 {e with cnt:=cc}=Wk 0 1:=by rw[O4,Y];simp only[F.2]
   rw[J];refine Β.back rfl rfl M N ?_;refine Β.part (ZJ (A _ _)) rfl Ρ rfl (by simp[Frame.enter]) [7] [] rfl λo f=>?_;(repeat (refine WI ?_;simp));refine f _ ?_;refine Β.ZF (ZJ (A _ _)) rfl ?_;refine uG h ?_ rfl rfl rfl rfl;exact Β.back (nt:=4) rfl rfl j.size (Lf I j.Zm) (Β.ZF Yi rfl (Β.Cq rfl rfl rfl rfl func142 rfl n K))
  .refine⟨{e with cnt:=cc},.ch k .done .gone,P,rfl,⟨rfl,rfl,rfl⟩,by rw[E];exact .Ad U,λZ aa=>.inr ⟨h.gone,?_⟩⟩;have J:Y0 {e with cnt:=cc}=Wk cc e.wt:=rfl;rw[J];refine Β.back rfl rfl M N ?_;refine Β.part Yi rfl Ρ rfl (by simp[Frame.enter]) [7] [] rfl λo f=>?_;(repeat (refine WI ?_;simp));refine f _ ?_;refine Β.ZF Yi rfl ?_;refine uK ?_ (cc:=cc) (w0:=e.wt) p.2.2.1 p.2.2.2 U rfl rfl rfl rfl;exact Β.back (nt:=4) rfl rfl j.size (Lf I j.Zm) (Β.ZF Yi rfl (Β.Cq rfl rfl rfl rfl func142 rfl n K))
 .cases i with
  | zero=>simp at C L;subst C;subst L;exact .z _
  | succ i=>simp at C
end
end Go.TL
namespace Go.TL
open Go.Proofs.Tryz
open Go.Conc
open Go.ConcN (upd)
def Qz (S:μ) (H:Χ):Χ:={H with θ:=λb o=>match S b o with|some v=>some (v,false)|none=>H.θ b o}
def TB (S:μ):Χ:=⟨λb o=>(S b o).map (·,false),λ_=>none,λ_=>none⟩
def μ.plus (S T:μ):μ:=λb o=>match S b o with|some v=>some v|none=>T b o
structure S4 (a:Nat) (c:μ) (E:Χ):Prop where
 θ:∀b o x,E.θ b o=some x->c b o≠none\/a<b
 row:∀b x,E.row b=some x->a<b
 obj:∀b x,E.obj b=some x->a<b
def NX (r:Row):Prop:=∃t k l,r=.cells t k l
section
variable {S YA T3 O1 XH:μ} {B B':Z8} {σ σ':Ο} {H H' Rk E G:Χ} {β:Nat}
theorem Lb {b o:Nat} {v:Value} (h:S b o=some v):(Qz S H).θ b o=some (v,false):=by simp only[Qz,h]
theorem Gc {b o:Nat} (h:S b o=none):(Qz S H).θ b o=H.θ b o:=by simp only[Qz,h]
theorem Gb {b o:Nat} {v:Value} (h:S b o=some v):(TB S).θ b o=some (v,false):=by simp only[TB,h];rfl
theorem Io {b o:Nat} {x:Value×Bool} (h:(TB S).θ b o=some x):∃v,S b o=some v/\x=(v,false):=by
 cases a:S b o with
 | none=>simp[TB,a] at h
 | some v=>exact⟨v,rfl,by simp[TB,a] at h;exact h.symm⟩
theorem La {b o:Nat} {v:Value} (h:S b o=some v):S.plus T3 b o=some v:=by simp only[μ.plus,h]
theorem Im {b o:Nat} (h:S b o=none):S.plus T3 b o=T3 b o:=by simp only[μ.plus,h]
theorem join_some {b o:Nat} {x:Value×Bool} (h:H.θ b o=some x):(join H E).θ b o=some x:=by simp only[join,h]
theorem join_none {b o:Nat} (h:H.θ b o=none):(join H E).θ b o=E.θ b o:=by simp only[join,h]
theorem uE {b:Nat} {x:TypeId×Nat} (h:(join H E).row b=some x):H.row b=some x\/E.row b=some x:=by
 cases a:H.row b with
 | none=>simp only[join,a] at h;exact .inr h
 | some y=>simp only[join,a] at h;exact .inl h
theorem uD {b:Nat} {x:Obj} (h:(join H E).obj b=some x):H.obj b=some x\/E.obj b=some x:=by
 cases a:H.obj b with
 | none=>simp only[join,a] at h;exact .inr h
 | some y=>simp only[join,a] at h;exact .inl h
theorem uC (f:Holds S [] [] H):Split H (Qz S H) (TB S):=by
 refine⟨⟨λb o v p h=>?_,λb x h=>h,λb x h=>h⟩,⟨λb o v p h=>?_,λb x h=>(by cases h),λb x h=>(by cases h)⟩,⟨λb o ⟨v,h⟩ ⟨x,k⟩=>?_,λb o ⟨v,h⟩ _=>?_,λb _ ⟨x,h⟩=>(by cases h)⟩⟩
 .cases a:S b o with
  | some u=>
   rw[Lb a] at h;cases h;obtain⟨c,d⟩:=f.YO b o _ a;exact⟨c,d,λe=>by cases e⟩
  | none=>rw[Gc a] at h;exact⟨p,h,id⟩
 .obtain⟨u,a,e⟩:=Io h;cases e;obtain⟨c,d⟩:=f.YO b o _ a;exact⟨c,d,λe=>by cases e⟩
 .obtain⟨u,a,e⟩:=Io k;rw[Lb a] at h;cases h
 .obtain⟨u,a,e⟩:=Io h;cases e
theorem uB (a:Holds S [] [] H):Holds S [] [] (Qz S H):=
 ⟨λb o v h=>⟨false,Lb h⟩,rfl,λid r bo h=>by simp at h,λi j c d b e f _ h=>by simp at h,λid r b N h=>by simp at h⟩
theorem uA:Holds S [] [] (TB S):=
 ⟨λb o v h=>⟨false,Gb h⟩,rfl,λid r bo h=>by simp at h,λi j a c b d e _ h=>by simp at h,λid r b N h=>by simp at h⟩
theorem uz (f:Holds S [] [] H):Ext S [] H S [] (Qz S H):=by
 refine⟨λ_ _ _ h=>h,λb _ _=>⟨λo=>?_,rfl,rfl⟩,λb h=>.inl h,λb o v h=>.inl h,λb h=>?_⟩
 .cases a:S b o with
  | none=>exact .inl (Gc a)
  | some v=>
   obtain⟨p,g⟩:=f.YO b o v a;exact .inr ⟨v,p,rfl,g,Lb a⟩
 .have d:∀b o,(Qz S H).θ b o=none->H.θ b o=none:=λb o h=>by
   cases a:S b o with
   | none=>rw[Gc a] at h;exact h
   | some v=>rw[Lb a] at h;cases h
  exact⟨λo=>d b o (h.1 o),h.2.1,h.2.2.1,λc e=>⟨λo=>d c o ((h.2.2.2 c e).1 o),(h.2.2.2 c e).2⟩⟩
theorem Holds.RG (a:Holds S B σ H) (c:∀b,¬H.fresh b->UL H H' b) (k:∀b,H'.fresh b->H.fresh b):Holds S B σ H'/\Ext S B H S B H':=by
 have l:∀b o x,H.θ b o=some x->¬H.fresh b:=λb o x h d=>by rw[d.1 o] at h;cases h
 refine⟨⟨λb o v h=>?_,a.len,λid r bo f g=>?_,a.inj,a.sep⟩,⟨λ_ _ _ h=>h,λb _ d=>Tf.of (c b d),λb h=>.inl h,λb o v h=>.inl h,k⟩⟩
 .obtain⟨p,i⟩:=a.YO b o v h;exact⟨p,by rw[(c b (l b o _ i)).1];exact i⟩
 .by_cases j:r.live
  .refine(a.row id r bo f g).later (Zx.refl S B σ) (λb N e=>c b (a.SP f j (by rw[g,e]))) λm left t e=>?_;subst e;obtain⟨_,_,u,w,xs,y,seen,_,A,⟨es,n⟩,_⟩:=a.row id _ bo f g;exact⟨rfl,rfl,λb N s=>c b (a.SP n trivial s)⟩
  .cases r<;>first|exact absurd trivial j|trivial
theorem Ext.RG (h:Ext Xz [] H YA [] H') {b:Nat} (a:¬H.fresh b):UL H H' b:=(h.Xf b (λ⟨N,x⟩=>by simp at x) a).RG λ_=>rfl
theorem Co {w:World} (c:Fits H w) (d:Fits E w) {b o:Nat} {u v:Value} {p q:Bool} (h:H.θ b o=some (u,p)) (k:E.θ b o=some (v,q)):u=v:=by
 have a:=c.θ b o u p h;rw[d.θ b o v q k] at a;exact(Xk a).symm
theorem uy {w:World} (e:Fits H w) (l:Fits E w) (m:Apart H E) {b N:Nat} {t:TypeId} (g:E.row b=some (t,N)) (n:∀o,o<N->∃v,E.θ b o=some (v,true)):(∀o,H.θ b o=none)/\UL E (join H E) b:=by
 obtain⟨c,f,p⟩:=l.row b t N g;have h:∀o,H.θ b o=none:=λo=>by
  cases a:H.θ b o with
  | none=>rfl
  | some x=>
   have i:=e.θ b o x.1 x.2 a;by_cases j:o<N
   .exact absurd ⟨x,a⟩ (m.Q4 b o (n o j))
   .simp only[World.cell?,f] at i;simp[p,j] at i
 refine⟨h,λo=>join_none (h o),?_,?_⟩
 .cases a:H.row b with
  | none=>simp only[join,a]
  | some x=>
   obtain⟨c',d,k⟩:=e.row b x.1 x.2 a;rw[f] at d;cases d;simp only[join,a,g];obtain⟨r,s⟩:=x
   simp_all
 .cases a:H.obj b with
  | none=>simp only[join,a]
  | some x=>
   obtain⟨d,k⟩:=e.obj b x a;rw[f] at d;cases d;simp[Obj.Qe] at k
theorem Cn (i:Holds S [] [] H) (f:Holds T3 B σ E) (C:Apart H E) (D:∃w,Fits H w/\Fits E w) (y:∀r∈σ,NX r) :
  Holds (S.plus T3) B σ (join H E)/\Zx S (S.plus T3) [] B [] σ/\Zx T3 (S.plus T3) B B σ σ:=by
 obtain⟨w,j,n⟩:=D;have st:∀b o v,T3 b o=some v->S.plus T3 b o=some v:=λb o v h=>by
  cases a:S b o with
  | none=>rw[Im a];exact h
  | some u=>
   obtain⟨p,c⟩:=i.YO b o u a;obtain⟨q,F⟩:=f.YO b o v h;rw[La a,Co j n c F]
 have l1:Zx S (S.plus T3) [] B [] σ:=⟨λb o v h=>La h,λid r h=>by simp at h⟩
 have l2:Zx T3 (S.plus T3) B B σ σ:=⟨st,λid r h=>⟨r,h,r.P8 _⟩⟩
 have A:∀(id:Nat) (r:Row) (b N:Nat),σ[id]?=some r->B[id]?=some (some (b,N))->(∀o,H.θ b o=none)/\UL E (join H E) b:=λid r b N d I=>by
  obtain⟨t,k,l,rfl⟩:=y r (Zi d);obtain⟨J,_,Φ,_⟩:=f.row id _ _ d I;exact uy j n C J Φ
 refine⟨⟨λb o v h=>?_,f.len,λid r bo d g=>?_,f.inj,λid r b N d K g o=>?_⟩,l1,l2⟩
 .cases a:S b o with
  | some u=>
   rw[La a] at h;cases h;obtain⟨p,c⟩:=i.YO b o _ a;exact⟨p,join_some c⟩
  | none=>
   rw[Im a] at h;obtain⟨p,c⟩:=f.YO b o v h;cases s:H.θ b o with
   | none=>exact⟨p,by rw[join_none s];exact c⟩
   | some x=>
    obtain⟨u,q⟩:=x;have:=Co j n s c;subst this;exact⟨q,join_some s⟩
 .refine(f.row id r bo d g).later l2 (λb N e=>(A id r b N d (by rw[g,e])).2) λm left M e=>?_;subst e;obtain⟨t,k,l,e⟩:=y _ (Zi d);cases e
 .have L:=(A id r b N d g).1 o;cases a:S b o with
  | some u=>
   obtain⟨p,c⟩:=i.YO b o u a;rw[L] at c;cases c
  | none=>rw[Im a];exact f.sep id r b N d K g o
theorem Ga {o:Nat} {x:Value×Bool} (a:G.θ β o=some x) {b:Nat} (c:G.fresh b):β<b:=by
 by_cases e:β<b
 .exact e
 .rcases OH b β with h|h
  .have:=(c.2.2.2 β h).1 o;rw[a] at this;cases this
  .obtain rfl:β=b:=U
   rw[c.1 o] at a;cases a
theorem F' {b:Nat} (a:G.fresh β) (h:β<b):G.fresh b:=
 ⟨(a.2.2.2 b h).1,(a.2.2.2 b h).2.1,(a.2.2.2 b h).2.2,λc d=>a.2.2.2 c (Nat.lt_trans h d)⟩
theorem uw (a:∀b o v,S b o=some v->XH b o≠none\/β<b):S4 β XH (TB S):=
 ⟨λb o x h=>let ⟨v,c,_⟩:=Io h;a b o v c,λb x h=>(by cases h),λb x h=>(by cases h)⟩
theorem S4.join (h:S4 β XH G) (k:S4 β XH E):S4 β XH (join G E):=by
 refine⟨λb o x a=>?_,λb x a=>(uE a).elim (h.row b x) (k.row b x),λb x a=>(uD a).elim (h.obj b x) (k.obj b x)⟩;cases c:G.θ b o with
 | none=>rw[join_none c] at a;exact k.θ b o x a
 | some y=>exact h.θ b o y c
theorem S4.ext (h:S4 β XH G) {G':Χ} (f:Ext S B G YA B' G') (g:∀b,B.has b->β<b) {o:Nat} {x:Value×Bool} (i:G.θ β o=some x):S4 β XH G':=by
 have d:∀b,¬β<b->Tf S G G' b:=λb a=>f.Xf b (λk=>a (g b k)) λk=>a (Ga i k);refine⟨λb o x c=>?_,λb x c=>?_,λb x c=>?_⟩
 .by_cases a:β<b
  .exact .inr a
  .rcases(d b a).1 o with e|⟨v,p,_,e,_⟩
   .rw[e] at c;exact h.θ b o x c
   .exact h.θ b o _ e
 .by_cases a:β<b
  .exact a
  .rw[(d b a).2.1] at c;exact h.row b x c
 .by_cases a:β<b
  .exact a
  .rw[(d b a).2.2] at c;exact h.obj b x c
theorem Cm {G':Χ} (b:Ext S B G YA B' G') (c:¬B.has β) (d:∃o x,G.θ β o=some x):∃o x,G'.θ β o=some x:=by
 obtain⟨o,x,a⟩:=d;rcases(b.Xf β c (λf=>by rw[f.1 o] at a;cases a)).1 o with e|⟨v,p,_,_,e⟩
 .exact⟨o,x,by rw[e];exact a⟩
 .exact⟨o,_,e⟩
theorem S4.blocks (h:S4 β XH E) (c:Holds T3 B σ E) (f:∀r∈σ,NX r) {b:Nat} (g:B.has b):β<b:=by
 obtain⟨N,i⟩:=g;obtain⟨id,d⟩:=St i;have j:id<σ.length:=by rw[<-c.len];exact(ZA.1 d).1
 have a:=δ j;obtain⟨t,k,l,e⟩:=f _ (Zi a);rw[e] at a;exact h.row b _ (c.row id _ _ a d).1
theorem uv (g:Ext O1 [] Rk S [] H) (l:∀b o v,XH b o=some v->S b o=some v) (j:Rk.fresh β) (hi:S4 β XH E) (t:Holds S [] [] H) (m:Holds T3 B σ E) (w:∀r∈σ,NX r) :
  Ext O1 [] Rk (S.plus T3) B (join H E):=by
 have A:∀b,¬Z8.has ([]:Z8) b:=λb ⟨N,h⟩=>by simp at h
 have C:∀b,¬Rk.fresh b->¬β<b:=λb h k=>h (F' j k)
 have same:∀b,¬β<b->∀o,(join H E).θ b o=H.θ b o:=λb d o=>by
  cases a:H.θ b o with
  | some x=>rw[join_some a]
  | none=>
   rw[join_none a];cases D:E.θ b o with
   | none=>rfl
   | some y=>
    rcases hi.θ b o y D with k|k
    .cases e:XH b o with
     | none=>exact absurd e k
     | some v=>
      obtain⟨p,i⟩:=t.YO b o v (l b o v e);rw[a] at i;cases i
    .exact absurd k d
 refine⟨λb o v h=>La (g.YO b o v h),λb _ n=>?_,λb d=>.inr (F' j (hi.blocks m w d)),λb o v h=>?_,λb h=>g.grow b ?_⟩
 .have d:=C b n;obtain⟨F,I,J⟩:=g.Xf b (A b) n;refine⟨λo=>by rw[same b d o];exact F o,?_,?_⟩
  .cases a:E.row b with
   | none=>rw[<-I];simp only[join,a];cases H.row b<;>rfl
   | some x=>exact absurd (hi.row b x a) d
  .cases a:E.obj b with
   | none=>rw[<-J];simp only[join,a];cases H.obj b<;>rfl
   | some x=>exact absurd (hi.obj b x a) d
 .cases e:S b o with
  | some u=>rw[La e] at h;cases h;exact g.QT b o _ e
  | none=>
   rw[Im e] at h;obtain⟨p,i⟩:=m.YO b o v h;rcases hi.θ b o _ i with k|k
   .cases s:XH b o with
    | none=>exact absurd s k
    | some u=>rw[l b o u s] at e;cases e
   .exact .inr (.inr (F' j k))
 .have c:∀b o,(join H E).θ b o=none->H.θ b o=none:=λb o h=>by
   cases a:H.θ b o with
   | none=>rfl
   | some x=>rw[join_some a] at h;cases h
  have r:∀b,(join H E).row b=none->H.row b=none:=λb h=>by
   cases a:H.row b with
   | none=>rfl
   | some x=>simp only[join,a] at h;cases h
  have o:∀b,(join H E).obj b=none->H.obj b=none:=λb h=>by
   cases a:H.obj b with
   | none=>rfl
   | some x=>simp only[join,a] at h;cases h
  exact⟨λo'=>c b o' (h.1 o'),r b h.2.1,o b h.2.2.1,λf d=>⟨λo'=>c f o' ((h.2.2.2 f d).1 o'),r f (h.2.2.2 f d).2.1,o f (h.2.2.2 f d).2.2⟩⟩
end
end Go.TL
namespace Go.TL
open Go.Proofs.Tryz
open Go.Conc Go.Proofs
open Go.ConcN (sumTo upd sumTo_upd upd_ne upd_same sumTo_congr le_sumTo)
noncomputable def under (P:Program):Frame:={(default:Frame) with fn:=P.funcs.size,defers:=[],mode:=.panicking [goexitEntry]}
theorem uu {P:Program} {g:FuncId} {cap:Array Value} (b:Plain P g) (w:World):stepG P false (born P ⟨.fn (.func g) cap,#[]⟩) w=.go (Go.Conc.G (Frame.enter P g cap .deferred) [under P]) w #[]:=by
 obtain⟨fn,c,d,a⟩:=b;have f:¬fn.name = "runtime.NumGoroutine" := by simpa using d
 have h:¬fn.body=none:=by intro e;rw[e] at a;cases a
 simp[born,stepG,unwind,callDeferred,invoke,callFunc,c,f,h,seen,GStep.after,Go.Conc.G,under]
theorem uq {P:Program} {b:Frame} {fn:Func} (a:P.funcs[b.fn]?=some fn) (c:fn.results=#[]) (d:b.defers=[]) (e:b.mode=.returning) (f:b.kind=.deferred):Ur P 0 (Go.Conc.G b [under P]):=by
 refine⟨2,QuitsD.ctl (g':=Go.Conc.G (under P) []) rfl (λw=>?_) ?_⟩
 .simp[Go.Conc.G,stepG,unwind,e,d,a,doReturn,results,c,f,under,seen,GStep.after,goexitEntry]
 .refine QuitsD.ctl (g':={Go.Conc.G (under P) [] with status:=.finished}) rfl (λw=>?_) ⟨rfl,rfl⟩;simp[Go.Conc.G,stepG,unwind,under,goexitEntry,Frame.catches];rfl
def PF (l:κ):Ω:=if l.isEmpty then .sl true 0 [] else .ms 1 l.length 0 l.length
def WX (l:κ):Ο:=.cells 99 1 [PF l]::η 110 3 l
theorem F9:PF []=.sl true 0 []:=rfl
theorem Il {l:κ} (h:l≠[]):PF l=.ms 1 l.length 0 l.length:=by unfold PF;rw[if_neg (by simpa using h)]
theorem Cl {l:κ} {x:Ω}:PF (l++[x])=.ms 1 (l.length+1) 0 (l.length+1):=by rw[Il I];simp
theorem Ik (l:κ):∀r∈WX l,NX r:=by
 intro r h;unfold WX η at h;rcases Y6.1 h with rfl|h
 .exact⟨_,_,_,rfl⟩
 .split at h
  .cases h
  .simp at h;subst h;exact⟨_,_,_,rfl⟩
def NW (a:Nat) (b:μ) (o:Nat) (fd:Nat->Option Found) (L:List Nat) (E:Χ):Prop:=
 S4 a b E/\∃S B,Holds S B (WX ((L.filterMap fd).map YN)) E/\B[0]?=some (some (o,1))
theorem uo {S c:μ} {B B':Z8} {l b:κ} {m:Nat} (h:Zx S c (B.take m) B' ((WX l).take m) (WX b)) (f:0<m):B'[0]?=B[0]?:=by
 obtain⟨m,rfl⟩:∃k,m=k+1:=⟨m-1,U⟩;obtain⟨r',d,e⟩:=h.rows 0 (.cells 99 1 [PF l]) (by simp[WX]);have:r'=.cells 99 1 [PF b]:=by simpa[WX] using d.symm
 subst this;rcases e with⟨l2,_,_,a⟩|a
 .simpa[OK] using a
 .have:=a 1 I;simp[Row.WB] at this
section
variable {β s m o k:Nat} {S XH:μ} {fd:Nat->Option Found} {sp:Spec} {Xy:ψ} {a b:Int} {v1 v2 MO:Value} {f:Found} {n:Nat}
abbrev T2 (s:Nat) (sp:Spec):ZZ:=⟨Χ.empty,λ_=>none,λ_=>.nil,upd (λ_=>none) s (some sp),λ_=>none,0,false⟩
abbrev Ij (s m o:Nat) (v1 v2 MO:Value):Array Value:=#[ptr s 0,v1,v2,MO,ptr m 0,ptr o 0]
abbrev F8 (s m o:Nat) (Xy:ψ) (a b:Int):κ:=[.z (ptr s 0),.Θ [ν Xy.Ι,ξ Xy.Δ,Z2 Xy.cells],.Θ [J a],.Θ [J b],.z (ptr m 0),.z (ptr o 0)]
theorem Ck:(T2 s sp).spec s=some sp:=upd_same (λ_=>(none:Option Spec)) s (some sp)
theorem Cj (a:sp.ZO=some m) (b:sp.top<7):Vo (T2 s sp) s m sp:=⟨rfl,rfl,Ck,a,b,λ_ _=>trivial⟩
theorem um (a:sp.top<7):Cp (T2 s sp) s sp:=⟨rfl,rfl,Ck,a,λ_ _=>trivial⟩
theorem uk (n:sp.ZO=some m) (d:sp.top<7) (e:sp.D k Χ.empty) {f:Value->Prop} {c:Frame} {H:Χ} {v:Option (Nat×ε)} {d1:Deferred} (a:N9 prog d1 142 #[ptr s 0])
  (b:c.mode=.returning) (g:c.defers=[d1]) (h:c.kind=.deferred) (i:c.fn=141):Zd prog f false (ZI (T2 s sp) s (.ch k .done .work) v 0) c [under prog] H:=by
 letI:ZX:=XU;have j:Seq (one (ZI (T2 s sp) s (.ch k .done .work) v 0)):=Seq.O8 trivial rfl rfl;refine ι.deferred (x:=one _) j (by rw[b];simp) g a.t1 a.t2 a.run (λy l=>?_) _ rfl;cases l;refine uF (um d) e b ?_;exact uq (fn:=f141) (by rw[i];exact func141) rfl rfl b h
theorem uj (g:sp.ZO=some m) (i:sp.top<7) (n:sp.XQ=NW β XH o fd) (p:sp.D k Χ.empty) {r:Value->Prop} {c:Frame} {t:μ} {d:Z8} {a:Χ} {L:List Nat} {v:Option (Nat×ε)} {d1 d2:Deferred}
  (u:N9 prog d1 142 #[ptr s 0]) (e:N9 prog d2 145 #[ptr m 0]) (f:c.mode=.returning) (w:c.defers=[d2,d1]) (A:c.kind=.deferred) (B:c.fn=141)
  (j:Holds t d (WX (((L++[k]).filterMap fd).map YN)) a) (C:d[0]?=some (some (o,1))) (hi:S4 β XH a) (E:∃q x,a.θ β q=some x) :
  Zd prog r false (ZI (T2 s sp) s (.ch k (.YJ L) .work) v 0) c [under prog] a:=by
 letI:ZX:=XU;have F:Seq (one (ZI (T2 s sp) s (.ch k (.YJ L) .work) v 0)):=Seq.O8 trivial rfl rfl;refine ι.deferred (x:=one _) F (by rw[f];simp) w e.t1 e.t2 e.run (λy H=>?_) _ rfl;cases H;refine vb (x:=T2 s sp) (s:=s) (c:={c with defers:=[d1]}) (Cj g i) j f λI J l K=>⟨Χ.empty,J,⟨Sub.empty _,Sub.refl _,(Apart.Pr _).symm⟩,?_,λv2 P Q _=>?_⟩
 .rw[n];obtain⟨M,R,S⟩:=j.back l K;obtain⟨q,x,O⟩:=E;exact⟨hi.ext l (λb ⟨N,h⟩=>by simp at h) O,I,d,M,C⟩
 .exact uk g i p u f rfl A B
end
end Go.TL
