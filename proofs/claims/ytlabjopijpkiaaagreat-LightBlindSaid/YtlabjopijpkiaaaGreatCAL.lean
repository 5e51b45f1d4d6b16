import Derived.KernelRfl
import Derived.Test.YtlabjopijpkiaaaGreatProg
import Derived.Test.YtlabjopijpkiaaaGreatCAK
set_option maxHeartbeats 16000000
set_option maxRecDepth 20000
set_option linter.unusedSectionVars false
set_option linter.unusedSimpArgs false
set_option linter.unusedVariables false
namespace Go.TL
open Go.Conc
variable [bp]
def c6 (a b:η):Prop:=∀(S:aL) (B:aW) (σ:List Row) (v:Value),av S B σ a v->av S B σ b v
def bI (l m:List η):Prop:=l.length=m.length/\∀(i:Nat) (a b:η),l[i]?=some a->m[i]?=some b->c6 a b
theorem c6.refl (a:η):c6 a a:=λ_ _ _ _ h=>h
theorem c6.of {a b:η} (h:a=b):c6 a b:=h▸.refl a
theorem c6.trans {a b c:η} (h:c6 a b) (k:c6 b c):c6 a c:=λS B σ v x=>k S B σ v (h S B σ v x)
theorem c6.cg (a:η):c6 a .cg:=λ_ _ _ v _=>.cg v
theorem bI.refl (l:List η):bI l l:=⟨rfl,λi a b h k=>by rw[h] at k;cases k;exact .refl a⟩
theorem bI.nil:bI [] []:=.refl []
theorem bI.cons {a b:η} {l m:List η} (h:c6 a b) (k:bI l m):bI (a::l) (b::m):=⟨by simp[k.1],λi x y γ Κ=>by
 cases i with
 | zero=>simp at γ Κ;subst γ;subst Κ;exact h
 | succ i=>exact k.2 i x y (by simpa using γ) (by simpa using Κ)⟩
theorem c6.a0 {l m:List η} (h:bI l m):c6 (.a0 l) (.a0 m):=λS B σ v x=>by
 cases x with
 | a0 vs J U=>
  refine .a0 vs (h.1.symm.trans J) λi b v hi hv=>?_;have aO:i<l.length:=by rw[h.1];exact(bX.1 hi).1
  have κ:=a8 aO;exact h.2 i _ b κ hi S B σ v (U i _ v κ hv)
theorem c6.bq {l m:List η} (h:bI l m):c6 (.bq l) (.bq m):=λS B σ v x=>by
 cases x with
 | bq vs J U=>
  refine .bq vs (h.1.symm.trans J) λi b v hi hv=>?_;have aO:i<l.length:=by rw[h.1];exact(bX.1 hi).1
  have κ:=a8 aO;exact h.2 i _ b κ hi S B σ v (U i _ v κ hv)
theorem c6.sl {e:Bool} {k:Nat} {l m:List η} (hlen:l.length=m.length) (h:∀(i:Nat) (a b:η),l[i]?=some a->m[i]?=some b->bI a.cells b.cells):c6 (.sl e k l) (.sl false k m):=λS B σ v x=>by
 have up:∀(i:Nat) (b:η),m[i]?=some b->∃a,l[i]?=some a/\bI a.cells b.cells:=λi b hi=>by
  have aO:i<l.length:=by rw[hlen];exact(bX.1 hi).1
  exact⟨_,a8 aO,h i _ b (a8 aO) hi⟩
 cases x with
 | iB base cap ε=>
  have:m=[]:=dO.1 hlen.symm;subst this;exact .iB base cap λx=>by cases x
 | sl b o cap w J U μ Ε au=>
  rw[hlen];refine .sl b o cap w (λx=>by cases x) R (λi y hi=>?_) (λi y hi j c δ=>?_) (λi y hi j c δ=>?_)
  ·obtain⟨a,κ,eO⟩:=up i y hi;rw[<-eO.1];exact μ i a κ
  ·obtain⟨a,κ,eO⟩:=up i y hi;have aO:j<a.cells.length:=by rw[eO.1];exact(bX.1 δ).1
   exact Ε i a κ j _ (a8 aO)
  ·obtain⟨a,κ,eO⟩:=up i y hi;have aO:j<a.cells.length:=by rw[eO.1];exact(bX.1 δ).1
   have ε:=a8 aO;exact eO.2 j _ c ε δ S B σ _ (au i a κ j _ ε)
theorem c6.ex {e:Bool} {k:Nat} {l:List η}:c6 (.sl e k l) (.sl false k l):=.sl rfl λi a b J U=>by rw[J] at U;cases U;exact .refl _
theorem c6.nil {e:Bool} {k af:Nat}:c6 (.sl e k []) (.sl false af []):=λS B σ v x=>by
 have g:∀(l:List η),l=[]->av S B σ (.sl e k l) v->av S B σ (.sl false af []) v:=λl ξ x=>by
  cases x with
  | iB base cap ε=>exact .iB base cap λx=>by cases x
  | sl b o cap w J U μ Ε au=>subst ξ;exact .iB _ cap λx=>by cases x
 exact g [] rfl x
theorem c6.map {α:Type} {f g:α->η} {e:Bool} {k:Nat} {l:List α} (h:∀x∈l,bI (f x).cells (g x).cells):c6 (.sl e k (l.map f)) (.sl false k (l.map g)):=.sl ζ λi a b J U=>by
 rw[List.getElem?_map] at J U;cases γ:l[i]? with
 | none=>rw[γ] at J;cases J
 | some x=>rw[γ] at J U;cases J;cases U;exact h x (cG γ)
theorem bI.one {a b:η} (h:c6 a b) (κ:a.cells=[a]) (hb:b.cells=[b]):bI a.cells b.cells:=by rw[κ,hb];exact .cons h .nil
section
variable {P:Program} {σ:List Row}
theorem fQ.ye {S:aL} {B:aW} {l m:List η} {vs:Array Value} (h:bI l m) (k:fQ S B σ l vs):fQ S B σ m vs:=⟨h.1.symm.trans k.1,λi b v hi hv=>by
 have aO:i<l.length:=by rw[h.1];exact(bX.1 hi).1
 have κ:=a8 aO;exact h.2 i _ b κ hi S B σ v (k.2 i _ v κ hv)⟩
theorem ab.m8 {g:FuncId} {args fB:List η} {K K' E:η->List Row->Prop} (h:ab P g args σ K E) (κ:bI fB args) (θ:∀a s,K a s->∃b,c6 a b/\K' b s):ab P g fB σ K' E:=
 ⟨h.1,λQ mn x c rest S B H vs γ Β hv hb=>h.2 Q mn x c rest S B H vs γ Β (hv.ye κ) ⟨λa σ' aF B' H' v χ he ξ ja ι=>by
  obtain⟨b,J,U⟩:=θ a σ' χ;exact hb.ret b σ' aF B' H' v U he ξ ja (J aF B' σ' v ι),hb.yh⟩⟩
def az (P:Program) (g:FuncId) (args:List η) (r:η):Prop:=ab P g args [] (λa s=>c6 a r/\s=[]) (λ_ _=>False)
theorem az.ct {g:FuncId} {args fB:List η} {r:η} (h:az P g args r) (κ:bI fB args):Au P g fB r:=ab.m8 h κ λa s ⟨J,U⟩=>⟨r,J,rfl,U⟩
theorem az.c {g:FuncId} {args fB:List η} {r:η} {K E:η->List Row->Prop} (h:az P g args r) (κ:bI fB args) (hb:∀a∈fB,aJ 0 a) (ι:aJ 0 r) (θ:K r σ):ha P (.fn (.func g) [] []) fB σ K E:=
 Au.call (first:=[]) (captured:=[]) (by simpa using h.ct κ) (by simpa using hb) ι θ
theorem az.p {g:FuncId} {args fB:List η} {r:η} (h:az P g args r) (κ:bI fB args) (hb:∀a∈fB,aJ 0 a) (ι:aJ 0 r):gi P (.fn (.func g) [] []) fB r:=λ_=>h.c κ hb ι ⟨rfl,rfl⟩
theorem az.d {g:FuncId} {args:List η} {r:η} {K E:η->List Row->Prop} (h:az P g args r) (θ:K r σ) (hb:∀a∈args,aJ 0 a:=by simp) (ι:aJ 0 r:=by simp):ha P (.fn (.func g) [] []) args σ K E:=h.c (bI.refl _) hb ι θ
theorem az.q {g:FuncId} {args:List η} {r:η} (h:az P g args r) (hb:∀a∈args,aJ 0 a:=by simp) (ι:aJ 0 r:=by simp):gi P (.fn (.func g) [] []) args r:=h.p (bI.refl _) hb ι
theorem az.cc {g:FuncId} {args fB first captured:List η} {r:η} {K E:η->List Row->Prop} (h:az P g args r) (κ:bI (first++fB++captured) args) (hb:∀a∈first++fB++captured,aJ 0 a) (ι:aJ 0 r) (θ:K r σ):ha P (.fn (.func g) first captured) fB σ K E:=
 Au.call (h.ct κ) hb ι θ
end
theorem eJ.own {h id n k:Nat} {σ:List Row} {t:TypeId} {l:List η} (b5:h<=id) (bQ:σ[id]?=some (.cells t k l)) (Ζ:l.length=n) (hb:∀e∈l,∀a∈e.cells,aJ h a):eJ h σ (.ms id n 0 n) (.sl false k l):=by
 refine .ms b5 bQ Ζ R Ζ (λj e aM J U=>?_) (λj e aM J U x a bT μ Ε=>?_)
 ·rw[Nat.zero_add] at J;rw[J] at U;cases U;rfl
 ·rw[Nat.zero_add] at J;rw[J] at U;cases U;rw[μ] at Ε;cases Ε;exact .low (hb e (cG J) a (cG μ))
def fill {α:Type} (f:α->η) (z:η) (l:List α) (i:Nat):List η:=(l.take i).map f++List.replicate (l.length-i) z
theorem Ns {α:Type} (f:α->η) (z:η) (l:List α):fill f z l 0=List.replicate l.length z:=by simp[fill]
theorem Nt {α:Type} (f:α->η) (z:η) (l:List α) {i:Nat} (h:l.length<=i):fill f z l i=l.map f:=by simp[fill,List.take_of_length_le h,Nat.sub_eq_zero_of_le h]
theorem Nu {α:Type} (f:α->η) (z:η) (l:List α) {i:Nat} (h:i<=l.length):(fill f z l i).length=l.length:=by simp[fill];omega
theorem Ww {α:Type} (f:α->η) (z:η) (l:List α) {i:Nat} (h:i<l.length):(fill f z l i)[i]?=some z:=by
 unfold fill;rw[hp (by simp;omega),List.getElem?_replicate];rw[if_pos (by simp;omega)]
theorem Nv {α:Type} (f:α->η) (z:η) (l:List α) {i:Nat} (h:i<l.length):(fill f z l i).set i (f l[i])=fill f z l (i+1):=by
 unfold fill;have Γ:l.length-i=(l.length-(i+1))+1:=R;have Δ:((l.take i).map f).length=i:=by simp;omega
 rw[Γ,List.replicate_succ,List.set_append_right _ _ R,Δ,Nat.sub_self,List.set_cons_zero,List.take_succ_eq_append_getElem h,List.map_append,List.append_assoc];rfl
end Go.TL
namespace Go.TL
open Go.Proofs
variable [bp]
def H5 (P:Program) (t:TypeId):Option (List (TypeDesc×Nat)):=
 if P.eqGuardType P.depth t=false then match P.underlying t with
  | some (.struct df)=>if P.stoodInHeld t=false/\df.toList.map (·.offset)=List.range df.toList.length/\(df.toList.all λf=>f.name != "_" && match P.underlying f.type with|some d=>ju d|none=>false)=true then some (df.toList.map λf=>((P.underlying f.type).getD .invalid,f.offset)) else none
  | some (.array n e)=>match P.underlying e,P.info? e with
   | some d,some f=>if ju d=true/\f.size=1 then some ((List.range n).map λi=>(d,i)) else none
   | _,_=>none
  | _=>none
 else none
theorem Wx (P:Program) (t:TypeId):G7 P t (H5 P t):=by
 unfold H5;split
 ·rename_i Ο;split
  ·rename_i df hu;split
   ·rename_i ε;refine⟨Ο,by rw[List.map_map,List.length_map];exact ε.2.1,.inl ⟨df,hu,ε.1,rfl,λf Τ=>?_⟩⟩;have:=List.all_eq_true.1 ε.2.2 f Τ;simp only[Bool.and_eq_true,bne_iff_ne,ne_eq] at this;refine⟨this.1,?_⟩;cases hd:P.underlying f.type with
    | none=>rw[hd] at this;simp at this
    | some d=>rw[hd] at this;exact⟨d,rfl,this.2⟩
   ·trivial
  ·rename_i n e hu;split
   ·rename_i d f hd Τ;split
    ·rename_i ε;exact⟨Ο,by rw[List.map_map,List.length_map,List.length_range];exact(List.map_congr_left λ_ _=>rfl).trans (List.map_id _),.inr ⟨n,e,d,f,hu,hd,ε.1,Τ,ε.2,rfl⟩⟩
    ·trivial
   ·trivial
  ·trivial
 ·trivial
def bb.of (P:Program):bb:=λt=>match P.underlying t,P.info? t with
 | some d,some i=>match i.zero with|some z=>some ⟨i.size,d,z,i.bytes,H5 P t⟩|none=>none
 | _,_=>none
theorem bb.Er (P:Program):bN P (bb.of P):=λt i h=>by
 unfold bb.of at h;split at h
 ·rename_i d f hd Τ;split at h
  ·rename_i z Φ;cases h;exact⟨⟨hd,Wx P t⟩,f,Τ,rfl,Φ,rfl⟩
  ·cases h
 ·cases h
noncomputable def bg:bb:=bb.of Tryz.prog
theorem Υ:bN Tryz.prog bg:=bb.Er _
def wG (pl:List (Nat×Nat)) (zero:Value) (bc:η->Bool) (parts:List (Nat×η)):cw:=
 match rC (λx=>(pl[x]?).map λp=>(0,p.1,p.2)) (hO zero).cells.length bc [hO zero] parts with
 | some [e]=>.ok (.a0 e.cells)
 | _=>.bad
def AO (es:Nat) (zero:Value) (bc:η->Bool) (parts:List (Nat×η)):cw:=
 match rC (λx=>some (0,x*es,es)) (hO zero).cells.length bc [hO zero] parts with
 | some [e]=>.ok (.a0 e.cells)
 | _=>.bad
theorem mixed:Tryz.prog.follows .mixedOrders=true:=by kernel_rfl
section
variable {P:Program} {m nt:Nat} {k:List Item} {env:Χ} {σ:List Row} {Z:List Item->Χ->List Row->Prop} {E:η->Χ->List Row->Prop}
theorem W.iter {yo:Type} {c:Code} (Inv:yo->Prop) (AP:yo->Χ) (Es:yo->List Row) (H6:yo->Nat) (i0:yo) (an:Inv i0) (ml:σ=Es i0) (cE:∀p∈AP i0,a5 env p.1=p.2)
  (step:∀i,Inv i->(∀eR,Inv eR->H6 eR<H6 i->W P m nt (.inLoop c::k) (AP eR) (Es eR) Z E)->W P m nt (.code c::.inLoop c::k) (AP i) (Es i) Z E):W P m nt (.code (.loop c)::k) env σ Z E:=by
 refine .loop (.forget (AP i0) cE ?_);rw[ml];have key:∀(n:Nat) (i:yo),H6 i<n->Inv i->W P m nt (.code c::.inLoop c::k) (AP i) (Es i) Z E:=by
  intro n
  induction n with
  | zero=>intro i h;omega
  | succ n ω=>intro i hi dP;exact step i dP λeR Wy aO=>.inLoop (ω eR R Wy)
 exact key _ i0 (Nat.lt_succ_self _) an
end
section
variable {P:Program} {m nt:Nat} {k:List Item} {env:Χ} {σ:List Row} {Z:List Item->Χ->List Row->Prop} {E:η->Χ->List Row->Prop}
theorem W.eS {c:Operand} {a e:Code} {v:Bool} (ε:aR env c=.z (.bool v)) (J:v=true->W P m nt (.code a::k) env σ Z E) (U:v=false->W P m nt (.code e::k) env σ Z E):W P m nt (.code (.cond c a e)::k) env σ Z E:=by
 refine .cond ε ?_;cases v with
 | true=>exact J rfl
 | false=>exact U rfl
theorem aD {c:Operand} {a e:Code} (ε:aR env c=.z (.bool true)) (h:W P m nt (.code a::k) env σ Z E):W P m nt (.code (.cond c a e)::k) env σ Z E:=.cond ε h
theorem aA {c:Operand} {a e:Code} (ε:aR env c=.z (.bool false)) (h:W P m nt (.code e::k) env σ Z E):W P m nt (.code (.cond c a e)::k) env σ Z E:=.cond ε h
theorem ab.body {F:η->List Row->Prop} {T:bb} (Ι:bN P T) {g:FuncId} {fn:Func} {sN:Code} (bL:P.funcs[g]?=some fn) (nR:fn.body=some sN) (wh:(fn.name == "runtime.NumGoroutine")=false) {args:List η} {K:η->List Row->Prop} {rs:List ResultVar} (Wz:fn.ntmps=nt) (hm:σ.length=m) (kB:fn.results.toList=rs) (hlen:args.length<=nt)
  (h:W P m nt [.code sN] (entry 0 args) σ (Ends T rs K) (λa _ s=>F a s)):ab P g args σ K F:=by
 subst Wz;subst hm;subst kB;exact .VX Ι bL nR wh hlen h
end
abbrev I (i:Int):η:=.z (.int .i64 i)
abbrev a' (b:Bool):η:=.z (.bool b)
abbrev bt {α:Type} (enc:α->η) (k:Nat) (l:List α):η:=.sl false k (l.map enc)
abbrev nT (b:ByteArray):η:=.z (.string b)
@[simp] theorem hΜ (x y:Int):(x==y)=decide (x=y):=by rw[Bool.eq_iff_iff];simp
@[simp] theorem hΝ (a b:Nat):((a:Int)=(b:Int))↔a=b:=R
attribute [simp] VY VZ HR V0 V1 iG V2 mg
attribute [congr] VO VR VS or_congr Wb Wc
attribute [simp] idx VM VN VP VQ pv M9 We Wk Wl Wf Wg Wh Wi Wj wz jx ib cw.or cw.dw cV.holds fe hc b0 a5 aR hO z6 entry qp s3 yg DV sV x1 x9 x6 Di x7 Dk Dj wG rC η.sW η.bc η.mb AO rA iC.agg C' ow Db ox Dd oy
 DC DD Dy Dz qk C8 C9 DF Df sX Dw qi Ad Ae Dn s4 DZ uN Aq Ar DW DY DX wx D2 D1 wv aeqv kh m2 wm ia oB oD HA DJ Al DL DN DR DU DS Af Dq Dp η.cells qq s8 D9 Ends s7 yi
@[simp] theorem hΞ {k:IntKind}:l9 (.int k)=false:=rfl
@[simp] theorem hΟ:l9 .bool=false:=rfl
@[simp] theorem hΡ:l9 .string=false:=rfl
@[simp] theorem hΤ {e:TypeId}:l9 (.slice e)=false:=rfl
@[simp] theorem hΥ {a b:TypeId}:l9 (.map a b)=false:=rfl
@[simp] theorem hΦ {a:TypeId}:l9 (.pointer a)=false:=rfl
@[simp] theorem hΧ {n:Nat} {a:TypeId}:l9 (.array n a)=true:=rfl
theorem WA {P:Nat->Prop} (n:Nat) (h:n<256) (cB:∀m,m<256->P m):P n:=cB n h
section
variable {m nt l:Nat} {a c:Code} {k:List Item} {env:Χ} {σ:List Row} {Z:List Item->Χ->List Row->Prop} {E:η->Χ->List Row->Prop}
class yp [bp] (k:List Item) (af:outParam (List Item)):Prop where
 h:∀{P:Program} {m nt:Nat} {env:Χ} {σ:List Row} {Z:List Item->Χ->List Row->Prop} {E:η->Χ->List Row->Prop},W P m nt af env σ Z E->W P m nt k env σ Z E
instance:yp (.code (.seq a c)::k) (.code a::.code c::k):=⟨.seq⟩
instance:yp (.code (.block l c)::k) (.code c::.inBlock l::k):=⟨.block⟩
instance:yp (.inBlock l::k) k:=⟨.inBlock⟩
instance:yp (.code .skip::k) k:=⟨.skip⟩
theorem Ω {P:Program} {af:List Item} [yp k af] (h:W P m nt af env σ Z E):W P m nt k env σ Z E:=yp.h h
theorem gG {P:Program} (h:W P m nt (.code a::.code c::k) env σ Z E):W P m nt (.code (.seq a c)::k) env σ Z E:=.seq h
theorem wb {P:Program} (h:W P m nt (.code c::.inBlock l::k) env σ Z E):W P m nt (.code (.block l c)::k) env σ Z E:=.block h
theorem hy {P:Program} (h:W P m nt k env σ Z E):W P m nt (.inBlock l::k) env σ Z E:=.inBlock h
theorem wd {P:Program} (h:W P m nt k env σ Z E):W P m nt (.code .skip::k) env σ Z E:=.skip h
theorem dx {id:Nat} {ops:Array Oper} (h:∀Θ:Χ->List Row->Prop,(∀env σ,W Tryz.prog m nt k env σ Z E->Θ env σ)->run Tryz.prog bg [] nt ops (idx ops.size []) env σ Θ E):W Tryz.prog m nt (.code (.region id ops false)::k) env σ Z E:=dB Υ h
end
theorem W.rt {P:Program} {T:bb} {rs:List ResultVar} {K:η->List Row->Prop} {m nt:Nat} {k:List Item} {env:Χ} {σ:List Row} {E:η->Χ->List Row->Prop} {a:η} {p:Prop} {s:List Row} (h:p) (e:qq T rs env σ=some a:=by exact rfl) (χ:K a σ=(p/\s=s):=by exact rfl):W P m nt (.code .ret::k) env σ (Ends T rs K) E:=.ret ⟨a,e,χ▸⟨h,rfl⟩⟩
end Go.TL
namespace Go.TL
open Go.Proofs
theorem υ {a b:Prop} (x:a) (y:b):a/\b:=⟨x,y⟩
theorem c7 {p q:Prop} (k:q) (h:q->p:=by intro k;(repeat (first|apply Ω|apply gG|apply wb|apply hy|apply wd));exact k):p:=h k
theorem Η {p q:Prop} (k:q) (h:q->p:=by intro k;(repeat (first|apply Ω|apply gG|apply wb|apply hy|apply wd|(refine dx λΘ θ=>?_;simp;(repeat (rw[al];simp));apply θ)));exact k):p:=h k
theorem aE {p f:Prop} {q:f->Prop} (a:f) (k:q a) (h:∀a,q a->p:=by intro a1 k;(repeat (first|apply Ω|apply gG|apply wb|apply hy|apply wd|(refine dx λΘ θ=>?_;simp;(repeat (rw[al];simp[a1]));apply θ)));exact k):p:=h a k
theorem hT {p q:Prop} (k:q) (h:q->p:=by intro k;(repeat (first|apply Ω|apply gG|apply wb|apply hy|apply wd|refine aD rfl ?_|refine aA rfl ?_|(refine dx λΘ θ=>?_;simp;(repeat (rw[al];simp));apply θ)));exact k):p:=h k
theorem hU {p f:Prop} {q:f->Prop} (a:f) (k:q a) (h:∀a,q a->p:=by intro a1 k;(repeat (first|apply Ω|apply gG|apply wb|apply hy|apply wd|refine aD rfl ?_|refine aA rfl ?_|(refine dx λΘ θ=>?_;simp;(repeat (rw[al];simp[a1]));apply θ)));exact k):p:=h a k
theorem lE {p q:Prop} (k:q) (h:q->p:=by intro k;refine dx λΘ θ=>?_;simp;(repeat (rw[al];simp));apply θ;exact k):p:=h k
theorem nU {p f:Prop} {q:f->Prop} (a:f) (k:q a) (h:∀a,q a->p:=by intro a1 k;refine dx λΘ θ=>?_;simp;(repeat (rw[al];simp[a1]));apply θ;exact k):p:=h a k
theorem bh {p:Prop} {H:(Χ->List Row->Prop)->Prop} {q:∀K,H K->Prop} (k:∀K h,q K h) (h:(∀K h,q K h)->p:=by intro k;(repeat (first|apply Ω|apply gG|apply wb|apply hy|apply wd));refine dx λΘ θ=>?_;simp;(repeat (rw[al];simp));exact k Θ θ):p:=h k
theorem hz {p f:Prop} {H:(Χ->List Row->Prop)->Prop} {q:f->∀K,H K->Prop} (a:f) (k:∀K h,q a K h) (h:∀a,(∀K h,q a K h)->p:=by intro a1 k;(repeat (first|apply Ω|apply gG|apply wb|apply hy|apply wd));refine dx λΘ θ=>?_;simp;(repeat (rw[al];simp[a1]));exact k Θ θ):p:=h a k
theorem bD {p q:Prop} (k:q) (h:q->p:=by intro k;simp;(repeat (rw[al];simp));exact k):p:=h k
theorem gS {p f:Prop} {q:f->Prop} (a:f) (k:q a) (h:∀a,q a->p:=by intro a1 k;simp[a1];(repeat (rw[al];simp[a1]));exact k):p:=h a k
theorem rM {p q:Prop} (k:q) (h:q->p:=by intro k;simp;(repeat (rw[dq];simp));(try rw[dp]);exact k):p:=h k
theorem hV {p f:Prop} {q:f->Prop} (a:f) (k:q a) (h:∀a,q a->p:=by intro a1 k;simp[a1];(repeat (rw[dq];simp[a1]));(try rw[dp]);exact k):p:=h a k
theorem e5 {a b:Prop} (k:b) (h:a:=by exact hg (by kernel_rfl)):a/\b:=⟨h,k⟩
theorem uV {p q:Prop} (k:q) (h:q->p:=by intro k;refine W.draw (A:=[]) Υ mixed λΘ θ=>?_;simp;(repeat (rw[dq];simp));(try rw[dp]);refine e5 (θ _ _ ?_);exact k):p:=h k
theorem dR {p f:Prop} {q:f->Prop} (a:f) (k:q a) (h:∀a,q a->p:=by intro a1 k;refine W.draw (A:=[]) Υ mixed λΘ θ=>?_;simp;(repeat (rw[dq];simp[a1]));(try rw[dp]);refine e5 (θ _ _ ?_);exact k):p:=h a k
end Go.TL
