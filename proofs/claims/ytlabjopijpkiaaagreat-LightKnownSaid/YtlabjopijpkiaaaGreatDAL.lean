import Derived.KernelRfl
import Derived.Test.YtlabjopijpkiaaaGreatProg
import Derived.Test.YtlabjopijpkiaaaGreatDAK
set_option maxHeartbeats 16000000
set_option maxRecDepth 20000
set_option linter.unusedSectionVars false
set_option linter.unusedSimpArgs false
set_option linter.unusedVariables false
namespace Go.TL
open Go.Conc
variable [bj]
def cp (a b:θ):Prop:=∀(S:aD) (B:aP) (σ:List Row) (v:Value),au S B σ a v->au S B σ b v
def b9 (l m:List θ):Prop:=l.length=m.length/\∀(i:Nat) (a b:θ),l[i]?=some a->m[i]?=some b->cp a b
theorem cp.refl (a:θ):cp a a:=λ_ _ _ _ h=>h
theorem cp.of {a b:θ} (h:a=b):cp a b:=h▸.refl a
theorem cp.trans {a b c:θ} (h:cp a b) (k:cp b c):cp a c:=λS B σ v x=>k S B σ v (h S B σ v x)
theorem cp.cg (a:θ):cp a .cg:=λ_ _ _ v _=>.cg v
theorem b9.refl (l:List θ):b9 l l:=⟨rfl,λi a b h k=>by rw[h] at k;cases k;exact .refl a⟩
theorem b9.nil:b9 [] []:=.refl []
theorem b9.cons {a b:θ} {l m:List θ} (h:cp a b) (k:b9 l m):b9 (a::l) (b::m):=⟨by simp[k.1],λi x y U Φ=>by
 cases i with
 | zero=>simp at U Φ;subst U;subst Φ;exact h
 | succ i=>exact k.2 i x y (by simpa using U) (by simpa using Φ)⟩
theorem cp.a6 {l m:List θ} (h:b9 l m):cp (.a6 l) (.a6 m):=λS B σ v x=>by
 cases x with
 | a6 vs I R=>
  refine .a6 vs (h.1.symm.trans I) λi b v hi hv=>?_;have aI:i<l.length:=by rw[h.1];exact(bV.1 hi).1
  have κ:=ba aI;exact h.2 i _ b κ hi S B σ v (R i _ v κ hv)
theorem cp.a3 {l m:List θ} (h:b9 l m):cp (.a3 l) (.a3 m):=λS B σ v x=>by
 cases x with
 | a3 vs I R=>
  refine .a3 vs (h.1.symm.trans I) λi b v hi hv=>?_;have aI:i<l.length:=by rw[h.1];exact(bV.1 hi).1
  have κ:=ba aI;exact h.2 i _ b κ hi S B σ v (R i _ v κ hv)
theorem cp.sl {e:Bool} {k:Nat} {l m:List θ} (hlen:l.length=m.length) (h:∀(i:Nat) (a b:θ),l[i]?=some a->m[i]?=some b->b9 a.cells b.cells):cp (.sl e k l) (.sl false k m):=λS B σ v x=>by
 have up:∀(i:Nat) (b:θ),m[i]?=some b->∃a,l[i]?=some a/\b9 a.cells b.cells:=λi b hi=>by
  have aI:i<l.length:=by rw[hlen];exact(bV.1 hi).1
  exact⟨_,ba aI,h i _ b (ba aI) hi⟩
 cases x with
 | ix base cap ε=>
  have:m=[]:=dB.1 hlen.symm;subst this;exact .ix base cap λx=>by cases x
 | sl b o cap w I R ν Ι aB=>
  rw[hlen];refine .sl b o cap w (λx=>by cases x) γ (λi y hi=>?_) (λi y hi j c δ=>?_) (λi y hi j c δ=>?_)
  ·obtain⟨a,κ,hk⟩:=up i y hi;rw[<-hk.1];exact ν i a κ
  ·obtain⟨a,κ,hk⟩:=up i y hi;have aI:j<a.cells.length:=by rw[hk.1];exact(bV.1 δ).1
   exact Ι i a κ j _ (ba aI)
  ·obtain⟨a,κ,hk⟩:=up i y hi;have aI:j<a.cells.length:=by rw[hk.1];exact(bV.1 δ).1
   have ε:=ba aI;exact hk.2 j _ c ε δ S B σ _ (aB i a κ j _ ε)
theorem cp.ex {e:Bool} {k:Nat} {l:List θ}:cp (.sl e k l) (.sl false k l):=.sl rfl λi a b I R=>by rw[I] at R;cases R;exact .refl _
theorem cp.nil {e:Bool} {k af:Nat}:cp (.sl e k []) (.sl false af []):=λS B σ v x=>by
 have g:∀(l:List θ),l=[]->au S B σ (.sl e k l) v->au S B σ (.sl false af []) v:=λl υ x=>by
  cases x with
  | ix base cap ε=>exact .ix base cap λx=>by cases x
  | sl b o cap w I R ν Ι aB=>subst υ;exact .ix _ cap λx=>by cases x
 exact g [] rfl x
theorem cp.map {α:Type} {f g:α->θ} {e:Bool} {k:Nat} {l:List α} (h:∀x∈l,b9 (f x).cells (g x).cells):cp (.sl e k (l.map f)) (.sl false k (l.map g)):=.sl η λi a b I R=>by
 rw[List.getElem?_map] at I R;cases U:l[i]? with
 | none=>rw[U] at I;cases I
 | some x=>rw[U] at I R;cases I;cases R;exact h x (cx U)
theorem b9.one {a b:θ} (h:cp a b) (κ:a.cells=[a]) (hb:b.cells=[b]):b9 a.cells b.cells:=by rw[κ,hb];exact .cons h .nil
section
variable {P:Program} {σ:List Row}
theorem fj.xc {S:aD} {B:aP} {l m:List θ} {vs:Array Value} (h:b9 l m) (k:fj S B σ l vs):fj S B σ m vs:=⟨h.1.symm.trans k.1,λi b v hi hv=>by
 have aI:i<l.length:=by rw[h.1];exact(bV.1 hi).1
 have κ:=ba aI;exact h.2 i _ b κ hi S B σ v (k.2 i _ v κ hv)⟩
theorem ak.oS {g:FuncId} {args kV:List θ} {K K' E:θ->List Row->Prop} (h:ak P g args σ K E) (κ:b9 kV args) (ζ:∀a s,K a s->∃b,cp a b/\K' b s):ak P g kV σ K' E:=
 ⟨h.1,λQ mn x c rest S B H vs U χ hv hb=>h.2 Q mn x c rest S B H vs U χ (hv.xc κ) ⟨λa σ' az B' H' v ψ he υ ij ι=>by
  obtain⟨b,I,R⟩:=ζ a σ' ψ;exact hb.ret b σ' az B' H' v R he υ ij (I az B' σ' v ι),hb.xg⟩⟩
def Ω (P:Program) (g:FuncId) (args:List θ) (r:θ):Prop:=ak P g args [] (λa s=>cp a r/\s=[]) (λ_ _=>False)
theorem Ω.ct {g:FuncId} {args kV:List θ} {r:θ} (h:Ω P g args r) (κ:b9 kV args):zw P g kV r:=ak.oS h κ λa s ⟨I,R⟩=>⟨r,I,rfl,R⟩
theorem Ω.c {g:FuncId} {args kV:List θ} {r:θ} {K E:θ->List Row->Prop} (h:Ω P g args r) (κ:b9 kV args) (hb:∀a∈kV,aK 0 a) (ι:aK 0 r) (ζ:K r σ):hV P (.fn (.func g) [] []) kV σ K E:=
 zw.call (first:=[]) (captured:=[]) (by simpa using h.ct κ) (by simpa using hb) ι ζ
theorem Ω.p {g:FuncId} {args kV:List θ} {r:θ} (h:Ω P g args r) (κ:b9 kV args) (hb:∀a∈kV,aK 0 a) (ι:aK 0 r):eW P (.fn (.func g) [] []) kV r:=λ_=>h.c κ hb ι ⟨rfl,rfl⟩
theorem Ω.d {g:FuncId} {args:List θ} {r:θ} {K E:θ->List Row->Prop} (h:Ω P g args r) (ζ:K r σ) (hb:∀a∈args,aK 0 a:=by simp) (ι:aK 0 r:=by simp):hV P (.fn (.func g) [] []) args σ K E:=h.c (b9.refl _) hb ι ζ
theorem Ω.q {g:FuncId} {args:List θ} {r:θ} (h:Ω P g args r) (hb:∀a∈args,aK 0 a:=by simp) (ι:aK 0 r:=by simp):eW P (.fn (.func g) [] []) args r:=h.p (b9.refl _) hb ι
theorem Ω.cc {g:FuncId} {args kV first captured:List θ} {r:θ} {K E:θ->List Row->Prop} (h:Ω P g args r) (κ:b9 (first++kV++captured) args) (hb:∀a∈first++kV++captured,aK 0 a) (ι:aK 0 r) (ζ:K r σ):hV P (.fn (.func g) first captured) kV σ K E:=
 zw.call (h.ct κ) hb ι ζ
end
theorem eE.own {h id n k:Nat} {σ:List Row} {t:TypeId} {l:List θ} (b7:h<=id) (bN:σ[id]?=some (.cells t k l)) (Ε:l.length=n) (hb:∀e∈l,∀a∈e.cells,aK h a):eE h σ (.ms id n 0 n) (.sl false k l):=by
 refine .ms b7 bN Ε γ Ε (λj e aH I R=>?_) (λj e aH I R x a bP ν Ι=>?_)
 ·rw[Nat.zero_add] at I;rw[I] at R;cases R;rfl
 ·rw[Nat.zero_add] at I;rw[I] at R;cases R;rw[ν] at Ι;cases Ι;exact .low (hb e (cx I) a (cx ν))
end Go.TL
namespace Go.TL
open Go.Proofs
variable [bj]
def G9 (P:Program) (t:TypeId):Option (List (TypeDesc×Nat)):=
 if P.eqGuardType P.depth t=false then match P.underlying t with
  | some (.struct db)=>if P.stoodInHeld t=false/\db.toList.map (·.offset)=List.range db.toList.length/\(db.toList.all λf=>f.name != "_" && match P.underlying f.type with|some d=>iy d|none=>false)=true then some (db.toList.map λf=>((P.underlying f.type).getD .invalid,f.offset)) else none
  | some (.array n e)=>match P.underlying e,P.info? e with
   | some d,some f=>if iy d=true/\f.size=1 then some ((List.range n).map λi=>(d,i)) else none
   | _,_=>none
  | _=>none
 else none
theorem Vo (P:Program) (t:TypeId):F7 P t (G9 P t):=by
 unfold G9;split
 ·rename_i Ο;split
  ·rename_i db hu;split
   ·rename_i ε;refine⟨Ο,by rw[List.map_map,List.length_map];exact ε.2.1,.inl ⟨db,hu,ε.1,rfl,λf Υ=>?_⟩⟩;have:=List.all_eq_true.1 ε.2.2 f Υ;simp only[Bool.and_eq_true,bne_iff_ne,ne_eq] at this;refine⟨this.1,?_⟩;cases hd:P.underlying f.type with
    | none=>rw[hd] at this;simp at this
    | some d=>rw[hd] at this;exact⟨d,rfl,this.2⟩
   ·trivial
  ·rename_i n e hu;split
   ·rename_i d f hd Υ;split
    ·rename_i ε;exact⟨Ο,by rw[List.map_map,List.length_map,List.length_range];exact(List.map_congr_left λ_ _=>rfl).trans (List.map_id _),.inr ⟨n,e,d,f,hu,hd,ε.1,Υ,ε.2,rfl⟩⟩
    ·trivial
   ·trivial
  ·trivial
 ·trivial
def a9.of (P:Program):a9:=λt=>match P.underlying t,P.info? t with
 | some d,some i=>match i.zero with|some z=>some ⟨i.size,d,z,i.bytes,G9 P t⟩|none=>none
 | _,_=>none
theorem a9.Dp (P:Program):bT P (a9.of P):=λt i h=>by
 unfold a9.of at h;split at h
 ·rename_i d f hd Υ;split at h
  ·rename_i z Μ;cases h;exact⟨⟨hd,Vo P t⟩,f,Υ,rfl,Μ,rfl⟩
  ·cases h
 ·cases h
noncomputable def bf:a9:=a9.of Tryz.prog
theorem Ρ:bT Tryz.prog bf:=a9.Dp _
def xj (pl:List (Nat×Nat)) (zero:Value) (bd:θ->Bool) (parts:List (Nat×θ)):cu:=
 match qU (λx=>(pl[x]?).map λp=>(0,p.1,p.2)) (ho zero).cells.length bd [ho zero] parts with
 | some [e]=>.ok (.a6 e.cells)
 | _=>.bad
def zL (es:Nat) (zero:Value) (bd:θ->Bool) (parts:List (Nat×θ)):cu:=
 match qU (λx=>some (0,x*es,es)) (ho zero).cells.length bd [ho zero] parts with
 | some [e]=>.ok (.a6 e.cells)
 | _=>.bad
theorem mixed:Tryz.prog.follows .mixedOrders=true:=by kernel_rfl
section
variable {P:Program} {m nt:Nat} {k:List Item} {env:ab} {σ:List Row} {Z:List Item->ab->List Row->Prop} {E:θ->ab->List Row->Prop}
theorem W.iter {xk:Type} {c:Code} (Inv:xk->Prop) (zM:xk->ab) (Dq:xk->List Row) (Ha:xk->Nat) (i0:xk) (ao:Inv i0) (lI:σ=Dq i0) (cU:∀p∈zM i0,bc env p.1=p.2)
  (step:∀i,Inv i->(∀eN,Inv eN->Ha eN<Ha i->W P m nt (.inLoop c::k) (zM eN) (Dq eN) Z E)->W P m nt (.code c::.inLoop c::k) (zM i) (Dq i) Z E):W P m nt (.code (.loop c)::k) env σ Z E:=by
 refine .loop (.forget (zM i0) cU ?_);rw[lI];have key:∀(n:Nat) (i:xk),Ha i<n->Inv i->W P m nt (.code c::.inLoop c::k) (zM i) (Dq i) Z E:=by
  intro n
  induction n with
  | zero=>intro i h;omega
  | succ n ω=>intro i hi fs;exact step i fs λeN Vp aI=>.inLoop (ω eN γ Vp)
 exact key _ i0 (Nat.lt_succ_self _) ao
end
section
variable {P:Program} {m nt:Nat} {k:List Item} {env:ab} {σ:List Row} {Z:List Item->ab->List Row->Prop} {E:θ->ab->List Row->Prop}
theorem W.fL {c:Operand} {a e:Code} {v:Bool} (ε:aM env c=.z (.bool v)) (I:v=true->W P m nt (.code a::k) env σ Z E) (R:v=false->W P m nt (.code e::k) env σ Z E):W P m nt (.code (.cond c a e)::k) env σ Z E:=by
 refine .cond ε ?_;cases v with
 | true=>exact I rfl
 | false=>exact R rfl
theorem aA {c:Operand} {a e:Code} (ε:aM env c=.z (.bool true)) (h:W P m nt (.code a::k) env σ Z E):W P m nt (.code (.cond c a e)::k) env σ Z E:=.cond ε h
theorem ay {c:Operand} {a e:Code} (ε:aM env c=.z (.bool false)) (h:W P m nt (.code e::k) env σ Z E):W P m nt (.code (.cond c a e)::k) env σ Z E:=.cond ε h
theorem ak.body {F:θ->List Row->Prop} {T:a9} (Η:bT P T) {g:FuncId} {fn:Func} {rP:Code} (cf:P.funcs[g]?=some fn) (m6:fn.body=some rP) (u4:(fn.name == "runtime.NumGoroutine")=false) {args:List θ} {K:θ->List Row->Prop} {rs:List ResultVar} (Vq:fn.ntmps=nt) (hm:σ.length=m) (kG:fn.results.toList=rs) (hlen:args.length<=nt)
  (h:W P m nt [.code rP] (entry 0 args) σ (Ends T rs K) (λa _ s=>F a s)):ak P g args σ K F:=by
 subst Vq;subst hm;subst kG;exact .UH Η cf m6 u4 hlen h
end
abbrev J (i:Int):θ:=.z (.int .i64 i)
abbrev bs (b:Bool):θ:=.z (.bool b)
abbrev cS {α:Type} (enc:α->θ) (k:Nat) (l:List α):θ:=.sl false k (l.map enc)
abbrev oT (b:ByteArray):θ:=.z (.string b)
@[simp] theorem fε (x y:Int):(x==y)=decide (x=y):=by rw[Bool.eq_iff_iff];simp
@[simp] theorem fζ (a b:Nat):((a:Int)=(b:Int))↔a=b:=γ
attribute [simp] UI UJ UK UL UM j8 UN hG
attribute [congr] Ux UA UB or_congr U3 U4
attribute [simp] idx Uv Uw Uy Uz q3 UC U6 Vb Vd U7 U8 U9 U' Va vc iZ hU cu.or cu.dq cH.holds fl g4 b6 bc aM ho y9 entry pM r4 xf CS rV wT w8 wY Cj wZ Cl Ck xj qU θ.rW θ.bd θ.lD zL qS hR.agg Ca nz Cc nA Ce nB
 CB CC Cy Cz pH B8 B9 CD Cg rX Cw pF ze zf Cp r5 CX tq zr zs CU CW CV vb CZ CY va aeqv jK mg u7 hF nF nH Gx CH zm CJ CK CN CR CO zg Cr Cq θ.cells nJ q4 zu Ends r8 xh
@[simp] theorem fη {k:IntKind}:kO (.int k)=false:=rfl
@[simp] theorem fθ:kO .bool=false:=rfl
@[simp] theorem fι:kO .string=false:=rfl
@[simp] theorem fκ {e:TypeId}:kO (.slice e)=false:=rfl
@[simp] theorem fμ {a b:TypeId}:kO (.map a b)=false:=rfl
@[simp] theorem fν {a:TypeId}:kO (.pointer a)=false:=rfl
@[simp] theorem fξ {n:Nat} {a:TypeId}:kO (.array n a)=true:=rfl
theorem Vr {P:Nat->Prop} (n:Nat) (h:n<256) (dW:∀m,m<256->P m):P n:=dW n h
section
variable {m nt l:Nat} {a c:Code} {k:List Item} {env:ab} {σ:List Row} {Z:List Item->ab->List Row->Prop} {E:θ->ab->List Row->Prop}
class xl [bj] (k:List Item) (af:outParam (List Item)):Prop where
 h:∀{P:Program} {m nt:Nat} {env:ab} {σ:List Row} {Z:List Item->ab->List Row->Prop} {E:θ->ab->List Row->Prop},W P m nt af env σ Z E->W P m nt k env σ Z E
instance:xl (.code (.seq a c)::k) (.code a::.code c::k):=⟨.seq⟩
instance:xl (.code (.block l c)::k) (.code c::.inBlock l::k):=⟨.block⟩
instance:xl (.inBlock l::k) k:=⟨.inBlock⟩
instance:xl (.code .skip::k) k:=⟨.skip⟩
theorem al {P:Program} {af:List Item} [xl k af] (h:W P m nt af env σ Z E):W P m nt k env σ Z E:=xl.h h
theorem gM {P:Program} (h:W P m nt (.code a::.code c::k) env σ Z E):W P m nt (.code (.seq a c)::k) env σ Z E:=.seq h
theorem wb {P:Program} (h:W P m nt (.code c::.inBlock l::k) env σ Z E):W P m nt (.code (.block l c)::k) env σ Z E:=.block h
theorem g6 {P:Program} (h:W P m nt k env σ Z E):W P m nt (.inBlock l::k) env σ Z E:=.inBlock h
theorem wd {P:Program} (h:W P m nt k env σ Z E):W P m nt (.code .skip::k) env σ Z E:=.skip h
theorem cM {id:Nat} {ops:Array Oper} (h:∀Δ:ab->List Row->Prop,(∀env σ,W Tryz.prog m nt k env σ Z E->Δ env σ)->run Tryz.prog bf [] nt ops (idx ops.size []) env σ Δ E):W Tryz.prog m nt (.code (.region id ops false)::k) env σ Z E:=cR Ρ h
end
theorem W.rt {P:Program} {T:a9} {rs:List ResultVar} {K:θ->List Row->Prop} {m nt:Nat} {k:List Item} {env:ab} {σ:List Row} {E:θ->ab->List Row->Prop} {a:θ} {p:Prop} {s:List Row} (h:p) (e:nJ T rs env σ=some a:=by exact rfl) (ψ:K a σ=(p/\s=s):=by exact rfl):W P m nt (.code .ret::k) env σ (Ends T rs K) E:=.ret ⟨a,e,ψ▸⟨h,rfl⟩⟩
end Go.TL
namespace Go.TL
open Go.Proofs
theorem Ζ {a b:Prop} (x:a) (y:b):a/\b:=⟨x,y⟩
theorem cI {p q:Prop} (k:q) (h:q->p:=by intro k;(repeat (first|apply al|apply gM|apply wb|apply g6|apply wd));exact k):p:=h k
theorem Β {p q:Prop} (k:q) (h:q->p:=by intro k;(repeat (first|apply al|apply gM|apply wb|apply g6|apply wd|(refine cM λΔ ζ=>?_;simp;(repeat (rw[ae];simp));apply ζ)));exact k):p:=h k
theorem aT {p f:Prop} {q:f->Prop} (a:f) (k:q a) (h:∀a,q a->p:=by intro a1 k;(repeat (first|apply al|apply gM|apply wb|apply g6|apply wd|(refine cM λΔ ζ=>?_;simp;(repeat (rw[ae];simp[a1]));apply ζ)));exact k):p:=h a k
theorem hr {p q:Prop} (k:q) (h:q->p:=by intro k;(repeat (first|apply al|apply gM|apply wb|apply g6|apply wd|refine aA rfl ?_|refine ay rfl ?_|(refine cM λΔ ζ=>?_;simp;(repeat (rw[ae];simp));apply ζ)));exact k):p:=h k
theorem hs {p f:Prop} {q:f->Prop} (a:f) (k:q a) (h:∀a,q a->p:=by intro a1 k;(repeat (first|apply al|apply gM|apply wb|apply g6|apply wd|refine aA rfl ?_|refine ay rfl ?_|(refine cM λΔ ζ=>?_;simp;(repeat (rw[ae];simp[a1]));apply ζ)));exact k):p:=h a k
theorem vk {p q:Prop} (k:q) (h:q->p:=by intro k;refine cM λΔ ζ=>?_;simp;(repeat (rw[ae];simp));apply ζ;exact k):p:=h k
theorem tz {p f:Prop} {q:f->Prop} (a:f) (k:q a) (h:∀a,q a->p:=by intro a1 k;refine cM λΔ ζ=>?_;simp;(repeat (rw[ae];simp[a1]));apply ζ;exact k):p:=h a k
theorem a5 {p:Prop} {H:(ab->List Row->Prop)->Prop} {q:∀K,H K->Prop} (k:∀K h,q K h) (h:(∀K h,q K h)->p:=by intro k;(repeat (first|apply al|apply gM|apply wb|apply g6|apply wd));refine cM λΔ ζ=>?_;simp;(repeat (rw[ae];simp));exact k Δ ζ):p:=h k
theorem iE {p f:Prop} {H:(ab->List Row->Prop)->Prop} {q:f->∀K,H K->Prop} (a:f) (k:∀K h,q a K h) (h:∀a,(∀K h,q a K h)->p:=by intro a1 k;(repeat (first|apply al|apply gM|apply wb|apply g6|apply wd));refine cM λΔ ζ=>?_;simp;(repeat (rw[ae];simp[a1]));exact k Δ ζ):p:=h a k
theorem aV {p q:Prop} (k:q) (h:q->p:=by intro k;simp;(repeat (rw[ae];simp));exact k):p:=h k
theorem fV {p f:Prop} {q:f->Prop} (a:f) (k:q a) (h:∀a,q a->p:=by intro a1 k;simp[a1];(repeat (rw[ae];simp[a1]));exact k):p:=h a k
theorem hZ {p q:Prop} (k:q) (h:q->p:=by intro k;simp;(repeat (rw[dZ];simp));(try rw[dY]);exact k):p:=h k
theorem mj {p f:Prop} {q:f->Prop} (a:f) (k:q a) (h:∀a,q a->p:=by intro a1 k;simp[a1];(repeat (rw[dZ];simp[a1]));(try rw[dY]);exact k):p:=h a k
theorem fC {a b:Prop} (k:b) (h:a:=by exact oQ (by kernel_rfl)):a/\b:=⟨h,k⟩
theorem vl {p q:Prop} (k:q) (h:q->p:=by intro k;refine W.draw (A:=[]) Ρ mixed λΔ ζ=>?_;simp;(repeat (rw[dZ];simp));(try rw[dY]);refine fC (ζ _ _ ?_);exact k):p:=h k
theorem fD {p f:Prop} {q:f->Prop} (a:f) (k:q a) (h:∀a,q a->p:=by intro a1 k;refine W.draw (A:=[]) Ρ mixed λΔ ζ=>?_;simp;(repeat (rw[dZ];simp[a1]));(try rw[dY]);refine fC (ζ _ _ ?_);exact k):p:=h a k
end Go.TL
