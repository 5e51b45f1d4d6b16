import Derived.Conc.Beside
import Derived.Conc.CrowdBase
import Derived.Conc.MuSpec
import GoSem.Core.World
set_option maxHeartbeats 16000000
set_option maxRecDepth 20000
set_option linter.unusedSectionVars false
set_option linter.unusedSimpArgs false
set_option linter.unusedVariables false
namespace Go.TL
abbrev Ε:=@Nat.zero_le
abbrev Z1:=@Nat.le_refl
abbrev Y2:=@List.getElem_mem
abbrev Zm:=@List.mem_cons
abbrev XJ:=@List.getD_eq_getElem?_getD
abbrev YM:=@List.not_mem_nil
abbrev Zd:=@List.mem_map
abbrev Wx:=@List.take_succ_eq_append_getElem
abbrev Yh:=@List.getElem?_map
abbrev Yp:=@List.length_map
abbrev WU:=@Array.getD_eq_getD_getElem?
abbrev Yd:=@List.map_append
abbrev Xf:=@Bool.false_eq_true
abbrev UW:=@Array.getElem?_setIfInBounds_ne
abbrev Ww:=@List.getElem?_set_self
abbrev Tt:=@Array.getElem?_setIfInBounds_self_of_lt
abbrev Wl:=@Array.getElem?_toList
abbrev X1:=@Nat.le_trans
abbrev XC:=@List.map_cons
abbrev VB:=@List.take_of_length_le
abbrev YQ:=@Ne.symm
abbrev W3:=@Option.some.inj
abbrev Wc:=@List.length_append
abbrev Vm:=@List.getElem?_set_ne
abbrev Wv:=@List.all_eq_true
abbrev WK:=@List.mem_append
abbrev T':=@Array.getElem?_eq_some_iff
abbrev VT:=@Bool.and_eq_true
abbrev T9:=@Array.size_setIfInBounds
abbrev Ts:=@Classical.byContradiction
abbrev Tr:=@List.pairwise_iff_getElem
abbrev Tq:=@List.getElem?_take_of_lt
abbrev U6:=@List.append_assoc
abbrev Wb:=@List.mem_range
abbrev VA:=@List.range_succ
abbrev Tp:=@Option.map_eq_some_iff
abbrev T8:=@Nat.mul_le_mul_right
abbrev WT:=@Nat.add_mul
abbrev XB:=@Eq.trans
abbrev S0:=@List.getElem?_eq_none
abbrev T7:=@List.getElem?_drop
abbrev To:=@List.getElem_of_mem
abbrev Vl:=@Nat.zero_add
abbrev Su:=@List.getElem?_of_mem
abbrev T6:=@List.length_take
abbrev UU:=@List.map_nil
abbrev UT:=@Nat.succ_pos
abbrev Tn:=@List.append_nil
abbrev RR:=@List.length_pos_iff
abbrev PH:=@List.drop_eq_getElem_cons
abbrev St:=@Array.mem_append
abbrev RQ:=@List.ext_getElem?
abbrev Ss:=@List.mem_filter
abbrev Sr:=@List.length_set
abbrev SZ:=@Nat.add_assoc
abbrev PG:=@List.length_replicate
abbrev OV:=@Array.getElem?_replicate
abbrev PF:=@List.set_append_right
abbrev NY:=@Array.getElem?_append_left
abbrev Qx:=@Option.some.injEq
abbrev Qw:=@List.any_eq_false
abbrev Rg:=@List.nodup_cons
abbrev MC:=@Array.eq_empty_of_size_eq_zero
abbrev NX:=@List.mem_take_iff_getElem
abbrev NW:=@List.mem_or_eq_of_mem_set
abbrev PE:=@Array.getElem?_map
abbrev Qv:=@List.isEmpty_iff
abbrev Qu:=@Nat.lt_succ_self
abbrev Sq:=@List.map_map
abbrev PD:=@List.foldl_append
abbrev NV:=@Array.getElem?_eq_none
abbrev RP:=@Nat.le_of_lt
abbrev NU:=@List.drop_eq_nil_of_le
abbrev PC:=@Nat.mod_eq_of_lt
abbrev PB:=@List.any_eq_true
abbrev K8:=@List.pairwise_iff_forall_sublist
abbrev OU:=@Array.append_assoc
abbrev OT:=@Array.append_empty
abbrev OS:=@List.getElem?_take
abbrev NT:=@List.take_append_drop
abbrev OR:=@Nat.lt_of_le_of_lt
abbrev NS:=@List.filterMap_append
abbrev NR:=@List.pairwise_append
abbrev PA:=@Nat.not_lt_zero
abbrev MB:=@List.getElem?_replicate
abbrev NQ:=@Array.getElem?_push
abbrev NP:=@Array.ext_getElem?
abbrev K7:=@Array.getElem?_append_right
abbrev OQ:=@Bool.eq_iff_iff
abbrev Qt:=@Nat.mul_one
abbrev OP:=@Nat.mul_le_mul
abbrev Pz:=@Nat.zero_mul
abbrev Py:=@Nat.sub_self
abbrev NO:=@List.mem_flatMap
abbrev K6:=@List.length_filterMap_le
abbrev MA:=@List.map_congr_left
abbrev K5:=@Array.mem_iff_getElem?
abbrev Mz:=@List.flatMap_cons
abbrev OO:=@Nat.lt_or_ge
abbrev NN:=@Array.mem_push
abbrev ON:=@Nat.add_comm
abbrev K4:=@List.contains_iff_mem
abbrev K3:=@List.length_filter_le
abbrev K2:=@List.range_eq_range'
abbrev K1:=@List.mem_of_mem_take
abbrev My:=@List.range'_succ
abbrev Mx:=@List.take_length
abbrev KZ:=@Nat.pow_le_pow_right
abbrev Iu:=@Int.fdiv_eq_ediv_of_nonneg
abbrev It:=@Int.tdiv_eq_ediv_of_nonneg
abbrev Is:=@List.eq_of_mem_replicate
abbrev KY:=@Nat.lt_of_lt_of_le
abbrev KX:=@Array.all_eq_true'
abbrev Ir:=@List.Perm.eq_of_pairwise
abbrev OM:=@Int.not_lt
abbrev KW:=@List.nodup_append
abbrev KV:=@List.pairwise_map
abbrev KU:=@List.getElem?_set
abbrev KT:=@List.take_sublist
abbrev Mw:=@List.map_take
abbrev KS:=@List.filter_cons
abbrev KR:=@List.nodup_range
abbrev NM:=@Array.ext'
abbrev Mv:=@List.map_set
theorem ε {a : Type _} {l : List a} {i : Nat} (h : i < l.length) : l[i]? = some l[i] := List.getElem?_eq_getElem h
theorem Zu {b : Type _} {l : List b} {i : Nat} {a : b} : l[i]? = some a ↔ ∃ h : i < l.length, l[i] = a := List.getElem?_eq_some_iff
theorem Zf {b : Type _} {l : List b} {i : Nat} {a : b} (e : l[i]? = some a) : a ∈ l := List.mem_of_getElem? e
theorem YP {a : Type _} {l : List a} : l.length = 0 ↔ l = [] := List.length_eq_zero_iff
theorem Y0 {b : Type _} {a c : List b} {i : Nat} (d : i < a.length) : (a ++ c)[i]? = a[i]? := List.getElem?_append_left d
theorem Xw {c : Type _} {a b : List c} {i : Nat} (h : a.length <= i) : (a ++ b)[i]? = b[i - a.length]? := List.getElem?_append_right h
theorem XI {a : Type _} {xs : Array a} {i : Nat} (h : i < xs.size) : xs[i]? = some xs[i] := Array.getElem?_eq_getElem h
theorem U {p:Prop} (h:p:=by omega):p:=h
theorem Yl {p:Prop} (h:p:=by(try simp only);omega):p:=h
theorem J {p:Prop} (h:p:=by simp):p:=h
theorem Z0 {p:Prop} (h:p:=by decide):p:=h
theorem Zl {b:Sort _} (a:b):∃x,a=x:=⟨a,rfl⟩
theorem Ι {b:Sort _} (a:b):∃x,x=a:=⟨a,rfl⟩
def Obj.Qs:Obj->Bool
 | .cells ..=>true
 | _=>false
structure Ψ where
 κ:Nat->Nat->Option (Value×Bool)
 row:Nat->Option (TypeId×Nat)
 obj:Nat->Option Obj
def Ψ.empty:Ψ:=⟨λ_ _=>none,λ_=>none,λ_=>none⟩
end Go.TL
namespace Go.TL
open Go.Conc
open Go.ConcM (OsLater)
structure Fits (G:Ψ) (w:World):Prop where
 κ:∀b o v p,G.κ b o=some (v,p)->w.cell? ⟨b,o,none⟩=some v
 row:∀b t n,G.row b=some (t,n)->∃c,w.heap[b]?=some (.cells c t (0,0))/\c.size=n
 obj:∀b x,G.obj b=some x->w.heap[b]?=some x/\Obj.Qs x=false
def Ψ.owns (G:Ψ) (b o:Nat):Prop:=∃v,G.κ b o=some (v,true)
def Ψ.has (G:Ψ) (b o:Nat):Prop:=∃x,G.κ b o=some x
def Ψ.XH (G:Ψ) (b:Nat):Prop:=∃x,G.obj b=some x
structure Apart (G H:Ψ):Prop where
 κ:∀b o,G.owns b o->¬H.has b o
 Rf:∀b o,H.owns b o->¬G.has b o
 obj:∀b,G.XH b->¬H.XH b
def Ψ.off (G:Ψ) (b:Nat):Prop:=(∀o,¬G.has b o)/\¬G.XH b
structure Xr (d:Nat->Nat->Prop) (e:Nat->Prop) (w w':World):Prop where
 size:w.heap.size<=w'.heap.size
 cells:∀b c t a,w.heap[b]?=some (.cells c t a)->∃c',w'.heap[b]?=some (.cells c' t a)/\c'.size=c.size/\∀o,¬d b o->c'[o]?=c[o]?
 Tm:∀b x,w.heap[b]?=some x->Obj.Qs x=false->¬e b->w'.heap[b]?=some x
 os:OsLater w.os w'.os
 output:w'.output=w.output
 tape:w'.tape=w.tape
theorem Xq {w:World} {b:Nat} {x:Obj} (h:w.heap[b]?=some x):b<w.heap.size:=by
 rcases OO b w.heap.size with a|a
 .exact a
 .rw[NV a] at h;cases h
theorem Re {w:World} {b o:Nat} {v:Value} (h:w.cell? ⟨b,o,none⟩=some v):∃c t d,w.heap[b]?=some (.cells c t d)/\c[o]?=some v:=by
 unfold World.cell? at h;cases a:w.heap[b]? with
 | none=>simp[a] at h
 | some x=>
  cases x<;>simp[a] at h;exact⟨_,_,_,rfl,h⟩
theorem SY {w:World} {b o:Nat} {v:Value} {c:Array Value} {t:TypeId} {a:Nat×Nat} (h:w.heap[b]?=some (.cells c t a)) (hv:c[o]?=some v):w.cell? ⟨b,o,none⟩=some v:=by
 simp[World.cell?,h,hv]
theorem Xr.refl (a:Nat->Nat->Prop) (d:Nat->Prop) (w:World):Xr a d w w:=
 ⟨Z1 _,λb c t e h=>⟨c,h,rfl,λ_ _=>rfl⟩,λ_ _ h _ _=>h,OsLater.refl _,rfl,rfl⟩
theorem Fits.keeps {g:Nat->Nat->Prop} {i:Nat->Prop} {w w':World} {H:Ψ} (d:Fits H w) (e:Xr g i w w') (k:∀b o,g b o->¬H.has b o) (l:∀b,i b->¬H.XH b):Fits H w':=by
 refine⟨λb o v p h=>?_,λb t n h=>?_,λb x h=>?_⟩
 .obtain⟨c,t,m,a,hv⟩:=Re (d.κ b o v p h);obtain⟨c',f,_,r⟩:=e.cells b c t m a;exact SY f (by rw[r o λx=>k b o x ⟨_,h⟩];exact hv)
 .obtain⟨c,a,s⟩:=d.row b t n h;obtain⟨c',f,u,_⟩:=e.cells b c t _ a;exact⟨c',f,by rw[u,s]⟩
 .obtain⟨a,j⟩:=d.obj b x h;exact⟨e.Tm b x a j λy=>l b y ⟨_,h⟩,j⟩
theorem Fits.at {H:Ψ} {w:World} (h:Fits H w) (d:Nat):Fits H (w.at d):=⟨h.κ,h.row,h.obj⟩
structure YH (t:Trace) (c:Nat->Prop) (G:Ψ):Prop where
 κ:∀b o v p,G.κ b o=some (v,p)->∀i a,touchAt t i=some a->a.loc=.cell ⟨b,o,none⟩->(p=true\/a.write=true)->c i
 obj:∀b,G.XH b->∀i a,touchAt t i=some a->a.loc=.obj b->c i
theorem YH.mono {t:Trace} {e f:Nat->Prop} {G:Ψ} (h:YH t e G) (g:∀i,e i->f i):YH t f G:=
 ⟨λb o v p j i a c d k=>g i (h.κ b o v p j i a c d k),λb l i a c d=>g i (h.obj b l i a c d)⟩
def SX (l:Loc) (b:Nat):Prop:=
 match l with
 | .cell a=>a.block=b
 | .obj r=>r=b
 | _=>False
def WJ (G:Ψ) (n b:Nat) (e:Event):Prop:=
 match e.loc with
 | .cell a=>(n<=a.block/\a.block<b)\/(a.spot=none/\(if e.write then G.owns a.block a.off else G.has a.block a.off))
 | .obj r=>e.sync=false/\((n<=r/\r<b)\/G.XH r)
 | .output=>True
 | .goroutines=>False
 | .mark m=>m=.noRoom
theorem Tl {t u:Trace} {i:Nat} {a:Touch} (h:touchAt (t++u) i=some a):touchAt t i=some a\/(t.size<=i/\∃b∈u,(t++u)[i]?=some b/\b.act.touch?=some a):=by
 obtain⟨x,c,d⟩:=touch_of h;rcases getElem?_append_cases c with⟨_,e⟩|⟨f,g⟩
 .exact .inl (by rw[touchAt_of e];exact d)
 .exact .inr ⟨f,x,g,c,d⟩
theorem YH.own {t u:Trace} {i:Nat} {G:Ψ} (h:YH t (Knows t i) G) (m:∀c∈u,c.g=i):YH (t++u) (Knows (t++u) i) G:=by
 refine⟨λb o v p n k a d e r=>?_,λb s k a d e=>?_⟩
 .rcases Tl d with f|⟨_,c,j,l,_⟩
  .exact(h.κ b o v p n k a f e r).app u
  .have:=knows_own l;rwa [m c j] at this
 .rcases Tl d with f|⟨_,c,j,l,_⟩
  .exact(h.obj b s k a f e).app u
  .have:=knows_own l;rwa [m c j] at this
theorem YH.others {t u:Trace} {l m:Nat->Prop} {G:Ψ} (h:YH t l G) (n:∀i,l i->m i)
  (r:∀c∈u,∀a,c.act.touch?=some a->(∀b o v p,a.loc=.cell ⟨b,o,none⟩->G.κ b o=some (v,p)->p=false/\a.write=false)/\∀b,a.loc=.obj b->¬G.XH b):YH (t++u) m G:=by
 refine⟨λb o v p s k a e d hw=>?_,λb w k a e d=>?_⟩
 .rcases Tl e with f|⟨_,c,g,_,j⟩
  .exact n _ (h.κ b o v p s k a f d hw)
  .have:=((r c g a j).1 b o v p d s);rcases hw with hw|hw
   .rw[this.1] at hw;cases hw
   .rw[this.2] at hw;cases hw
 .rcases Tl e with f|⟨_,c,g,_,j⟩
  .exact n _ (h.obj b w k a f d)
  .exact absurd w ((r c g a j).2 b d)
end Go.TL
namespace Go.TL
open Go.Conc
open Go.ConcN (sumTo upd sumTo_upd upd_ne upd_same sumTo_congr le_sumTo)
inductive Uw where
 | idle|act (a:Bool)|q|wk|hw|own|YI (L:List Nat)|fin|uc|us|done
inductive Px where
 | work|rel|l2|RO|gone
inductive Qr where
 | add|w3|w4|SW|ZQ
inductive Tok where
 | nil
 | par (n pend:Nat) (a:Qr)
 | ch (k:Nat) (b:Uw) (c:Px)
structure Spec where
 ZO:Option Nat
 XV:List Nat->Ψ->Prop
 D:Nat->Ψ->Prop
 top:Nat
structure δ extends Spec where
 Y7:Nat
 wk:Nat
 sv:Nat
 nw:Nat
 YD:Nat
 L:List Nat
 cnt:Nat
 wt:Nat
 YU:Nat
 YJ:List Nat
def Mu:Uw->Nat|.own|.YI _|.fin=>1|_=>0
def Wa:Tok->Nat|.ch _ m _=>Mu m|_=>0
def KQ:Uw->Nat|.us|.wk|.hw=>1|_=>0
def SV:Tok->Nat|.ch _ m _=>KQ m|_=>0
def OL:Uw->Nat|.act true=>1|_=>0
def T5:Tok->Nat|.ch _ m _=>OL m|_=>0
def Mt:Uw->Nat|.q=>1|_=>0
def Uv:Tok->Nat|.ch _ m _=>Mt m|_=>0
def KP:Uw->Nat|.hw=>1|_=>0
def Tk:Tok->Nat|.ch _ m _=>KP m|_=>0
def Iq:Uw->Nat|.wk=>1|_=>0
def Rc:Tok->Nat|.ch _ m _=>Iq m|_=>0
def Ms:Uw->Nat|.wk|.hw=>1|_=>0
def Uu:Tok->Nat|.ch _ m _=>Ms m|_=>0
def Ip:Uw->Nat|.us=>1|_=>0
def Rb:Tok->Nat|.ch _ m _=>Ip m|_=>0
def KO:Uw->Nat|.uc=>1|_=>0
def SU:Tok->Nat|.ch _ m _=>KO m|_=>0
def Qq:Px->Nat|.work|.rel=>1|_=>0
def Vz:Tok->Nat|.ch _ _ g=>Qq g|_=>0
def OK:Px->Nat|.l2=>1|_=>0
def U5:Tok->Nat|.ch _ _ g=>OK g|_=>0
def OJ:Px->Nat|.RO=>1|_=>0
def U4:Tok->Nat|.ch _ _ g=>OJ g|_=>0
def Ut:Tok->Nat|.ch ..=>1|_=>0
def XU:Tok->Nat|.par ..=>1|_=>0
def WI:Tok->Nat|.par _ p _=>p|_=>0
def V9:Tok->Nat|.par n _ _=>n|_=>0
def T4:Tok->Nat|.par _ _ .add=>1|_=>0
def Us:Tok->Nat|.par _ _ .w3=>1|_=>0
def V8:Tok->Nat|.par _ _ .w4|.par _ _ .SW|.par _ _ .ZQ=>1|_=>0
def OI:Uw->Nat
 | .idle=>20|.act false=>19|.act true=>18|.q=>12|.wk=>20|.hw=>19|.own=>14|.YI _=>13|.fin=>12|.uc=>11|.us=>10|.done=>0
def KN:Px->Nat
 | .work=>6|.rel=>5|.l2=>4|.RO=>3|.gone=>0
def NL:Qr->Nat
 | .add=>8|.w3=>6|.w4=>3|.SW=>3|.ZQ=>0
def T3 (a:Nat):Tok->Nat
 | .nil=>0
 | .par n p b=>(a-n)*100+p*50+NL b
 | .ch _ m w=>OI m+KN w
def ZS (N:Nat) (τ:Nat->Tok) (φ:Tok->Nat):Nat:=sumTo N λi=>φ (τ i)
theorem Xb {N i:Nat} (τ:Nat->Tok) (t:Tok) (φ:Tok->Nat) (h:i<N):ZS N (upd τ i t) φ+φ (τ i)=ZS N τ φ+φ t:=sumTo_upd τ t φ h
theorem Xv {N i:Nat} (τ:Nat->Tok) (φ:Tok->Nat) (h:i<N):φ (τ i)<=ZS N τ φ:=le_sumTo (f:=λi=>φ (τ i)) h
def X7 (N:Nat) (o:δ) (τ:Nat->Tok):Nat:=ZS N τ (T3 o.top)+9*o.YD+2*o.YU
structure Bm (a b c d e l f h i j g k m n:Nat):Prop where
 f1:a<=1
 f2:b<=1
 f3:c<=1
 F0:l=a
 qH:c=0->f+e+h=b/\j=0/\d+k+e=i
 qG:c=1->b=0/\h=0/\a+f+e=1/\d=i+g
 qF:c=0->a=0->0<d->b=0->0<m
 qE:k+g=f
 qD:j+n=g
structure Bl (cnt wt a e f l2 b g h pend n add c d:Nat):Prop where
 f4:wt<=1
 SS:h=1
 Io:cnt=pend+f
 FZ:g+pend=n
 qC:n<=e
 qB:add=1->wt=0/\a=0/\l2=0/\b=0
 Bj:c=1->pend=0/\((wt=1/\b=0/\a=0/\((cnt=0/\l2=1)\/(0<cnt/\l2=0)))\/(wt=0/\cnt=0/\l2=0/\b+a=1))
 FY:d=1->pend=0/\wt=0/\a=0/\cnt=0/\l2=0/\b=0
 qA:add+c+d=1
def RN (N:Nat) (o:δ) (τ:Nat->Tok):Prop:=
 Bm o.Y7 o.wk o.sv o.nw o.YD (ZS N τ Wa) (ZS N τ SV) (ZS N τ T5) (ZS N τ Uv) (ZS N τ Tk) (ZS N τ Uu) (ZS N τ Rb) (ZS N τ SU) (ZS N τ Rc)
def Sp (N:Nat) (o:δ) (τ:Nat->Tok):Prop:=
 Bl o.cnt o.wt o.YU o.top (ZS N τ Vz) (ZS N τ U5) (ZS N τ U4) (ZS N τ Ut) (ZS N τ XU) (ZS N τ WI) (ZS N τ V9) (ZS N τ T4) (ZS N τ Us) (ZS N τ V8)
def Pw (N:Nat) (o:δ) (τ:Nat->Tok):Prop:=RN N o τ/\Sp N o τ
inductive Act:δ->Tok->δ->Tok->Prop where
 | Bi {o k}:o.Y7=0->o.sv=0->o.wk=0->o.nw=0->Act o (.ch k .idle .work) {o with Y7:=1} (.ch k .own .work)
 | Bh {o k}:Act o (.ch k .idle .work) o (.ch k (.act false) .work)
 | acq {o k a}:o.Y7=0->o.sv=0->Act o (.ch k (.act a) .work) {o with Y7:=1,wk:=if a then 0 else o.wk} (.ch k .own .work)
 | Bg {o k}:o.wk=0->0<o.nw->o.Y7=1->o.sv=0->Act o (.ch k (.act false) .work) {o with wk:=1} (.ch k (.act true) .work)
 | queue {o k a} (st:Bool):(o.Y7=1\/o.sv=1)->(st=true->a=true/\o.Y7=1)->Act o (.ch k (.act a) .work) {o with nw:=o.nw+1,wk:=if a then 0 else o.wk,sv:=if st then 1 else o.sv} (.ch k .q .work)
 | take {o k}:0<o.YD->Act o (.ch k .q .work) {o with YD:=o.YD-1} (.ch k .wk .work)
 | norm {o k}:o.sv=0->Act o (.ch k .wk .work) o (.ch k (.act true) .work)
 | hand {o k}:o.sv=1->Act o (.ch k .wk .work) o (.ch k .hw .work)
 | hacq {o k} (b:Bool):Act o (.ch k .hw .work) {o with Y7:=1,nw:=o.nw-1,sv:=if b then 0 else 1} (.ch k .own .work)
 | Bf {o k}:o.sv=0->(o.nw=0\/o.wk=1)->Act o (.ch k .fin .work) {o with Y7:=0} (.ch k .done .work)
 | Be {o k}:o.sv=0->0<o.nw->o.wk=0->Act o (.ch k .fin .work) {o with Y7:=0} (.ch k .uc .work)
 | Bd {o k}:o.sv=1->Act o (.ch k .fin .work) {o with Y7:=0} (.ch k .us .work)
 | Bc {o k}:o.Y7=0->o.wk=0->o.sv=0->0<o.nw->Act o (.ch k .uc .work) {o with nw:=o.nw-1,wk:=1} (.ch k .us .work)
 | Bb {o k}:(o.nw=0\/o.Y7=1\/o.wk=1\/o.sv=1)->Act o (.ch k .uc .work) o (.ch k .done .work)
 | post {o k}:Act o (.ch k .us .work) {o with YD:=o.YD+1} (.ch k .done .work)
 | add {o n p}:n<o.top->Act o (.par n p .add) {o with cnt:=o.cnt+1} (.par (n+1) (p+1) .add)
 | thru {o n}:o.cnt=0->Act o (.par n 0 .add) o (.par n 0 .SW)
 | FX {o n}:0<o.cnt->Act o (.par n 0 .add) {o with wt:=1} (.par n 0 .w3)
 | wake {o n}:0<o.YU->Act o (.par n 0 .w3) {o with YU:=o.YU-1} (.par n 0 .w4)
 | Ba {o k m}:o.cnt=1->o.wt=1->Act o (.ch k m .rel) {o with cnt:=o.cnt-1} (.ch k m .l2)
 | A' {o k m}:(1<o.cnt\/o.wt=0)->Act o (.ch k m .rel) {o with cnt:=o.cnt-1} (.ch k m .gone)
 | A9 {o k m}:Act o (.ch k m .l2) {o with wt:=0} (.ch k m .RO)
 | A8 {o k m}:Act o (.ch k m .RO) {o with YU:=o.YU+1} (.ch k m .gone)
inductive RL:δ->Tok->δ->Tok->Prop where
 | Im {o k}:RL o (.ch k .own .work) o (.ch k (.YI o.L) .work)
 | A7 {o k L}:RL o (.ch k (.YI L) .work) {o with L:=o.L++[k]} (.ch k .fin .work)
 | A6 {o k m}:(m=.done\/(m=.idle/\o.ZO=none))->RL o (.ch k m .work) {o with YJ:=k::o.YJ} (.ch k m .rel)
 | gtake {o n a}:(a=.SW\/a=.w4)->RL o (.par n 0 a) o (.par n 0 .ZQ)
section
variable {N i:Nat} {o o':δ} {τ:Nat->Tok} {t t':Tok}
theorem RK {φ:Tok->Nat} (a:∀t,XU t=0->φ t=0) (h:ZS N τ XU=1) (hi:i<N) (c:XU (τ i)=1):ZS N τ φ=φ (τ i):=by
 have e:=Xb τ .nil XU hi
 have d:=Xb τ .nil φ hi
 have z:XU .nil=0:=rfl;rw[h,c,z] at e;rw[a .nil rfl] at d;have f:ZS N (upd τ i .nil) XU=0:=U;have:ZS N (upd τ i .nil) φ=0:=by
  have g:∀n,ZS n (upd τ i .nil) XU=0->ZS n (upd τ i .nil) φ=0:=λn=>by
   induction n with
   | zero=>exact λ_=>rfl
   | succ n b=>
    intro j;simp only[ZS,sumTo] at j b ⊢;have:=b U;have:=a (upd τ i .nil n) U;omega
  exact g N f
 omega
theorem A5 (h:RN N o τ) (hi:i<N) (b:τ i=t) (c:Act o t o' t'):RN N o' (upd τ i t'):=by
 unfold RN at h ⊢;have d:=Xb τ t' Wa hi;have e:=Xv τ Wa hi;have f:=Xb τ t' SV hi;have l1:=Xv τ SV hi;have Φ:=Xb τ t' T5 hi;have l2:=Xv τ T5 hi;have g:=Xb τ t' Uv hi;have j:=Xv τ Uv hi;have k:=Xb τ t' Tk hi;have l:=Xv τ Tk hi;have m:=Xb τ t' Uu hi;have n:=Xv τ Uu hi;have p:=Xb τ t' Rb hi;have r:=Xv τ Rb hi;have s:=Xb τ t' SU hi;have u:=Xv τ SU hi;have v:=Xb τ t' Rc hi;have w:=Xv τ Rc hi;rw[b] at v w d e f l1 Φ l2 g j k l m n p r s u;generalize ZS N (upd τ i t') Wa=y at *;generalize ZS N τ Wa=A at *;generalize ZS N (upd τ i t') SV=B at *;generalize ZS N τ SV=C at *;generalize ZS N (upd τ i t') T5=D at *;generalize ZS N τ T5=E at *;generalize ZS N (upd τ i t') Uv=F at *;generalize ZS N τ Uv=H at *;generalize ZS N (upd τ i t') Tk=I at *;generalize ZS N τ Tk=J at *;generalize ZS N (upd τ i t') Uu=K at *;generalize ZS N τ Uu=M at *;generalize ZS N (upd τ i t') Rb=O at *;generalize ZS N τ Rb=P at *;generalize ZS N (upd τ i t') SU=Q at *;generalize ZS N τ SU=R at *;generalize ZS N (upd τ i t') Rc=S at *;generalize ZS N τ Rc=T at *;clear b hi;obtain⟨⟨U,V,W,X⟩,Y,Z,aa,ab,ad,L,cnt,wt,ae,af⟩:=o;obtain⟨ag,ah,ai,aj,ak,al,am,an,ao⟩:=h;cases c<;>simp only[Wa,SV,T5,Uv,Tk,Uu,Rb,SU,Rc,Iq,Mu,KQ,OL,Mt,KP,Ms,Ip,KO,Nat.add_zero,Vl] at *
 case acq a _ _=>cases a<;>simp only[OL,if_true,if_false,Xf] at *<;>constructor<;>omega
 case queue a st _ ap=>
  cases a<;>cases st<;>simp only[OL,if_true,if_false,Xf,false_and,true_and,imp_false,not_true_eq_false,forall_const] at *<;>constructor<;>omega
 case hacq x=>cases x<;>simp only[if_true,if_false,Xf] at *<;>constructor<;>omega
 all_goals (constructor<;>omega)
theorem A4 (h:Sp N o τ) (hi:i<N) (a:τ i=t) (c:Act o t o' t'):Sp N o' (upd τ i t'):=by
 unfold Sp at h ⊢;have A:XU t=1->ZS N τ V9=V9 t:=λb=>by rw[RK (λt a=>by cases t<;>simp_all [XU,V9]) h.SS hi (by rw[a];exact b),a]
 have B:XU t=1->ZS N τ WI=WI t:=λb=>by rw[RK (λt a=>by cases t<;>simp_all [XU,WI]) h.SS hi (by rw[a];exact b),a]
 have d:=Xb τ t' Vz hi;have e:=Xv τ Vz hi
 have f:=Xb τ t' U5 hi;have l1:=Xv τ U5 hi
 have Φ:=Xb τ t' U4 hi;have l2:=Xv τ U4 hi
 have g:=Xb τ t' Ut hi;have j:=Xv τ Ut hi
 have k:=Xb τ t' XU hi;have l:=Xv τ XU hi
 have m:=Xb τ t' WI hi;have n:=Xv τ WI hi
 have p:=Xb τ t' V9 hi;have r:=Xv τ V9 hi
 have s:=Xb τ t' T4 hi;have u:=Xv τ T4 hi
 have v:=Xb τ t' Us hi;have w:=Xv τ Us hi
 have x:=Xb τ t' V8 hi;have y:=Xv τ V8 hi;rw[a] at d e f l1 Φ l2 g j k l m n p r s u v w x y;generalize ZS N (upd τ i t') Vz=C at *;generalize ZS N τ Vz=D at *;generalize ZS N (upd τ i t') U5=E at *;generalize ZS N τ U5=F at *;generalize ZS N (upd τ i t') U4=H at *;generalize ZS N τ U4=I at *;generalize ZS N (upd τ i t') Ut=J at *;generalize ZS N τ Ut=K at *;generalize ZS N (upd τ i t') XU=M at *;generalize ZS N τ XU=O at *;generalize ZS N (upd τ i t') WI=P at *;generalize ZS N τ WI=Q at *;generalize ZS N (upd τ i t') V9=R at *;generalize ZS N τ V9=S at *;generalize ZS N (upd τ i t') T4=T at *;generalize ZS N τ T4=U at *;generalize ZS N (upd τ i t') Us=V at *;generalize ZS N τ Us=W at *;generalize ZS N (upd τ i t') V8=X at *;generalize ZS N τ V8=Y at *;clear a hi;obtain⟨⟨Z,aa,ab,ad⟩,ae,af,ag,ah,ai,L,cnt,wt,aj,ak⟩:=o;obtain⟨al,am,an,ao,ap,aq,ar,au,av⟩:=h;cases c<;>simp only[Vz,U5,U4,Ut,XU,WI,V9,T4,Us,V8,Qq,OK,OJ,Nat.add_zero,Vl,forall_const] at *
 all_goals (constructor<;>omega)
end
section
variable {N i:Nat} {o o':δ} {τ:Nat->Tok} {t t':Tok}
theorem FW (o':δ) (a:o'.top=o.top) (hi:i<N) (b:τ i=t) (h:T3 o.top t'+9*o'.YD+2*o'.YU<T3 o.top t+9*o.YD+2*o.YU):X7 N o' (upd τ i t')<X7 N o τ:=by
 have e:=Xb τ t' (T3 o.top) hi;rw[b] at e;unfold X7;rw[a];omega
theorem FV (hi:i<N) (b:τ i=t) (c:Act o t o' t'):X7 N o' (upd τ i t')<X7 N o τ:=by
 cases c<;>refine FW _ rfl hi b ?_
 case acq a _ _=>cases a<;>simp[T3,OI]
 case queue a _ _ _=>cases a<;>simp[T3,OI]
 case take=>simp[T3,OI];omega
 case add=>simp[T3];omega
 case wake=>simp[T3,NL];omega
 all_goals (simp[T3,OI,KN,NL]<;>omega)
theorem KM (hi:i<N) (a:τ i=t) (b:RL o t o' t'):X7 N o' (upd τ i t')<X7 N o τ:=by
 cases b<;>refine FW _ rfl hi a ?_
 case gtake d c=>rcases c with rfl|rfl<;>simp[T3,NL]
 all_goals (simp[T3,OI,KN,NL]<;>omega)
theorem Il {φ:Tok->Nat} (hi:i<N) (h:φ t'=φ (τ i)):ZS N (upd τ i t') φ=ZS N τ φ:=by
 have:=Xb τ t' φ hi;omega
theorem KL (h:RN N o τ) (hi:i<N) (a:τ i=t) (b:RL o t o' t'):RN N o' (upd τ i t'):=by
 unfold RN at h ⊢;cases b<;>
 (repeat rw[Il hi (by rw[a];rfl)])<;>exact h
theorem KJ (h:Sp N o τ) (hi:i<N) (a:τ i=t) (b:RL o t o' t'):Sp N o' (upd τ i t'):=by
 unfold Sp at h ⊢;cases b
 case gtake d c=>rcases c with rfl|rfl<;>(repeat rw[Il hi (by rw[a];rfl)])<;>exact h
 all_goals (repeat rw[Il hi (by rw[a];rfl)])<;>exact h
theorem OH (N:Nat) (τ:Nat->Tok) (φ:Tok->Nat):ZS (N+1) τ φ=ZS N τ φ+φ (τ N):=rfl
theorem FU {φ:Tok->Nat} (a:φ .nil=0) (h:τ N=.nil):ZS (N+1) τ φ=ZS N τ φ:=by rw[OH,h,a];rfl
theorem FT (h:Pw N o τ) (a:τ N=.nil):Pw (N+1) o τ:=by
 unfold Pw RN Sp at h ⊢
 repeat rw[FU (by rfl) a]
 exact h
theorem FR (a:τ N=.nil):X7 (N+1) o τ=X7 N o τ:=by
 unfold X7;rw[FU (by rfl) a]
theorem A3 {j n p:Nat} (h:Pw N o τ) (hi:i<N) (d:j<N) (e:i≠j) (f:τ i=.par n (p+1) .add) (g:τ j=.nil) (k:Nat) :
  Pw N o (upd (upd τ i (.par n p .add)) j (.ch k .idle .work)):=by
 have l:upd τ i (.par n p .add) j=.nil:=by rw[upd_ne _ _ (YQ e)];exact g
 have a:∀φ:Tok->Nat,ZS N (upd (upd τ i (.par n p .add)) j (.ch k .idle .work)) φ+φ .nil+φ (.par n (p+1) .add)=ZS N τ φ+φ (.par n p .add)+φ (.ch k .idle .work):=λφ=>by
  have m:=Xb τ (.par n p .add) φ hi
  have Φ:=Xb (upd τ i (.par n p .add)) (.ch k .idle .work) φ d;rw[f] at m;rw[l] at Φ;omega
 obtain⟨b,c⟩:=h;constructor
 .unfold RN at b ⊢;have f1:=a Wa;have f2:=a SV;have f3:=a T5;have f4:=a Uv;have f5:=a Tk;have f6:=a Uu;have f7:=a Rb;have f8:=a SU;have f9:=a Rc;simp only[Wa,SV,T5,Uv,Tk,Uu,Rb,SU,Rc,Mu,KQ,OL,Mt,KP,Ms,Ip,KO,Iq,Nat.add_zero] at f1 f2 f3 f4 f5 f6 f7 f8 f9;rw[f1,f2,f3,f4,f5,f6,f7,f8,f9];exact b
 .unfold Sp at c ⊢;have f1:=a Vz;have f2:=a U5;have f3:=a U4;have f4:=a Ut;have f5:=a XU;have f6:=a WI;have f7:=a V9;have f8:=a T4;have f9:=a Us;have f10:=a V8;simp only[Vz,U5,U4,Ut,XU,WI,V9,T4,Us,V8,Qq,OK,OJ,Nat.add_zero] at f1 f2 f3 f4 f5 f6 f7 f8 f9 f10;obtain⟨r,s,t,u,v,w,x,y,A⟩:=c;constructor<;>omega
theorem A2 {j n p:Nat} (hi:i<N) (b:j<N) (c:i≠j) (d:τ i=.par n (p+1) .add) (e:τ j=.nil) (k:Nat) :
  X7 N o (upd (upd τ i (.par n p .add)) j (.ch k .idle .work))<X7 N o τ:=by
 have f:upd τ i (.par n p .add) j=.nil:=by rw[upd_ne _ _ (YQ c)];exact e
 have a:=Xb τ (.par n p .add) (T3 o.top) hi
 have Φ:=Xb (upd τ i (.par n p .add)) (.ch k .idle .work) (T3 o.top) b;rw[d] at a;rw[f] at Φ;simp only[T3,OI,KN,NL] at a Φ;unfold X7;omega
theorem KI {φ:Tok->Nat} (h:0<ZS N τ φ):∃i,i<N/\0<φ (τ i):=by
 have a:∀n,0<ZS n τ φ->∃i,i<n/\0<φ (τ i):=λn=>by
  induction n with
  | zero=>intro h;cases h
  | succ n b=>
   intro h;rw[OH] at h;by_cases c:0<φ (τ n)
   .exact⟨n,U,c⟩
   .obtain⟨i,hi,d⟩:=b U;exact⟨i,U,d⟩
 exact a N h
def So:Tok->Prop
 | .ch _ .own _|.ch _ (.YI _) _|.ch _ .fin _|.ch _ .us _|.ch _ .wk _|.ch _ .hw _|.ch _ (.act true) _|.ch _ .uc _=>True
 | _=>False
theorem A1 (h:RN N o τ) (x:0<ZS N τ Uv) (y:o.YD=0):∃i,i<N/\So (τ i):=by
 have pick:∀{φ:Tok->Nat},(∀t,0<φ t->So t)->0<ZS N τ φ->∃i,i<N/\So (τ i):=λd e=>let ⟨i,hi,f⟩:=KI e;⟨i,hi,d _ f⟩
 have g:∀t,0<Wa t->So t:=λt c=>by cases t<;>simp_all [Wa,So];rename_i m _;cases m<;>simp_all [Mu]
 have j:∀t,0<SV t->So t:=λt c=>by cases t<;>simp_all [SV,So];rename_i m _;cases m<;>simp_all [KQ]
 have k:∀t,0<T5 t->So t:=λt c=>by cases t<;>simp_all [T5,So];rename_i m _;cases m<;>simp_all [OL];rename_i b;cases b<;>simp_all [OL]
 have l:∀t,0<SU t->So t:=λt c=>by cases t<;>simp_all [SU,So];rename_i m _;cases m<;>simp_all [KO]
 obtain⟨f1,f2,f3,A,n,p,r,B,C⟩:=h;by_cases s:0<ZS N τ Wa
 .exact pick g s
 by_cases u:0<ZS N τ SV
 .exact pick j u
 by_cases v:0<ZS N τ T5
 .exact pick k v
 by_cases w:0<ZS N τ SU
 .exact pick l w
 exfalso;rcases(show o.sv=0\/o.sv=1 by omega) with a|a
 .have:=n a;have:=r a;omega
 .have:=p a;omega
def Ra:Tok->Prop
 | .ch _ _ .work|.ch _ _ .rel|.ch _ _ .l2|.ch _ _ .RO=>True
 | _=>False
theorem A0 (h:Sp N o τ) {n p:Nat} (hi:i<N) (a:τ i=.par n p .w3) (s:o.YU=0):∃j,j<N/\Ra (τ j):=by
 have pick:∀{φ:Tok->Nat},(∀t,0<φ t->Ra t)->0<ZS N τ φ->∃i,i<N/\Ra (τ i):=λb c=>let ⟨i,hi,d⟩:=KI c;⟨i,hi,b _ d⟩
 have e:∀t,0<Vz t->Ra t:=λt a=>by cases t<;>simp_all [Vz,Ra];rename_i m;cases m<;>simp_all [Qq]
 have f:∀t,0<U5 t->Ra t:=λt a=>by cases t<;>simp_all [U5,Ra];rename_i m;cases m<;>simp_all [OK]
 have g:∀t,0<U4 t->Ra t:=λt a=>by cases t<;>simp_all [U4,Ra];rename_i m;cases m<;>simp_all [OJ]
 have w:=RK (φ:=Us) (λt a=>by cases t<;>simp_all [XU,Us]) h.SS hi (by rw[a];rfl);rw[a] at w;have:=h.Bj w;have:=h.Io;by_cases k:0<ZS N τ Vz
 .exact pick e k
 by_cases l:0<ZS N τ U5
 .exact pick f l
 by_cases r:0<ZS N τ U4
 .exact pick g r
 exfalso;omega
end
end Go.TL
namespace Go.TL
open Go.Conc
open Go.ConcM (OsLater)
open Go.ConcN (sumTo upd sumTo_upd upd_ne upd_same sumTo_congr le_sumTo)
open Go.ConcR (mk)
inductive Xe (B:Type):Type where
 | leaf
 | node (f:B->Xe B)
inductive Tj {B:Type}:List (Xe B)->List (Xe B)->Prop where
 | one (a b:List (Xe B)) (f:B->Xe B) (k:B):Tj (a++f k::b) (a++Xe.node f::b)
 | two (a b:List (Xe B)) (f:B->Xe B) (k c:B):Tj (a++f k::f c::b) (a++Xe.node f::b)
theorem Tj.cons_inv {B:Type} {l:List (Xe B)} {t:Xe B} {m:List (Xe B)} (h:Tj m (t::l)) :
  (∃e,Tj e l/\m=t::e)\/(∃f k,t=.node f/\m=f k::l)\/(∃f k d,t=.node f/\m=f k::f d::l):=by
 generalize c:t::l=x at h;cases h with
 | one a b f k=>
  cases a with
  | nil=>simp at c;exact .inr (.inl ⟨f,k,c.1,by rw[c.2];rfl⟩)
  | cons y a=>simp at c;exact .inl ⟨a++f k::b,by rw[c.2];exact .one a b f k,by rw[c.1];rfl⟩
 | two a b f k d=>
  cases a with
  | nil=>simp at c;exact .inr (.inr ⟨f,k,d,c.1,by rw[c.2];rfl⟩)
  | cons y a=>simp at c;exact .inl ⟨a++f k::f d::b,by rw[c.2];exact .two a b f k d,by rw[c.1];rfl⟩
theorem Tj.AZ {B:Type} (t:Xe B):∀l,Acc Tj l->Acc Tj (t::l):=by
 induction t with
 | leaf=>
  intro l a
  induction a with
  | intro l _ b=>
   refine⟨_,λm c=>?_⟩;rcases c.cons_inv with⟨d,e,rfl⟩|⟨f,k,h,_⟩|⟨f,k,i,h,_⟩
   .exact b d e
   .cases h
   .cases h
 | node f g=>
  intro l a
  induction a with
  | intro l j b=>
   refine⟨_,λm c=>?_⟩;rcases c.cons_inv with⟨d,e,rfl⟩|⟨f',k,h,rfl⟩|⟨f',k,i,h,rfl⟩
   .exact b d e
   .cases h;exact g k l ⟨l,j⟩
   .cases h;exact g k _ (g i l ⟨l,j⟩)
theorem Tj.wf {B:Type}:WellFounded (Tj (B:=B)):=⟨λl=>by
 induction l with
 | nil=>exact⟨_,λm a=>by
   generalize b:([]:List (Xe B))=x at a;cases a<;>simp at b⟩
 | cons t l c=>exact Tj.AZ t l c⟩
structure ZZ where
 G:Ψ
 Z5:Nat->Option (Array Value×TypeId)
 tok:Nat->Tok
 spec:Nat->Option Spec
 view:Nat->Option (Nat×δ)
 deaf:Nat
 rel:Bool
def Mr (V:Nat->Option (Array Value×TypeId)) (w:World):Prop:=∀b c t,V b=some (c,t)->w.heap[b]?=some (.cells c t (0,0))
def YZ (o:δ):Int:=(o.cnt:Int)*4294967296+o.wt
def mwd (o:δ):Int:=(o.Y7:Int)+2*o.wk+4*o.sv+8*o.nw
def At (s:Nat) (o:δ) (w:World):Prop:=
 (∃a,w.heap[s]?=some (.cells #[.int .u64 (YZ o),.int .u32 o.YU] a (0,0)))/\∀m,o.ZO=some m->∃a,w.heap[m]?=some (.cells #[.int .i32 (mwd o),.int .u32 o.YD] a (0,0))
def Yb (s:Nat) (sp:Spec) (b:Nat):Prop:=b=s\/sp.ZO=some b
def OG (o:δ) (t:Tok):Prop:=∃N τ i,Pw N o τ/\i<N/\τ i=t/\(∀k L g,t=.ch k (.YI L) g->o.L=L)
def Ik (x:ZZ) (s φ:Nat) (o:δ):Prop:=∀a b,x.view s=some (a,b)->φ<=a/\(φ=a->o=b)
structure Sub (G' G:Ψ):Prop where
 κ:∀b o v p,G'.κ b o=some (v,p)->∃a,G.κ b o=some (v,a)/\(p=true->a=true)
 row:∀b x,G'.row b=some x->G.row b=some x
 obj:∀b x,G'.obj b=some x->G.obj b=some x
structure Split (G a b:Ψ):Prop where
 l:Sub a G
 r:Sub b G
 apart:Apart a b
def join (G H:Ψ):Ψ:=
 ⟨λb o=>match G.κ b o with|some x=>some x|none=>H.κ b o,λb=>match G.row b with|some x=>some x|none=>H.row b,λb=>match G.obj b with|some x=>some x|none=>H.obj b⟩
def Ur (c:Nat->Ψ->Prop):List Nat->Ψ->Prop
 | [],E=>E=Ψ.empty
 | k::d,E=>∃a b,c k a/\Ur c d b/\Apart a b/\E=join a b
structure KH (G G':Ψ) (n:Nat):Prop where
 κ:∀b o v p,G'.κ b o=some (v,p)->n<=b\/∃c a,G.κ b o=some (c,a)/\(p=true->a=true)
 obj:∀b,G'.XH b->n<=b\/G.XH b
def Ij (V:Nat->Option (Array Value×TypeId)) (V':Nat->Option (Array Value×TypeId)) (G':Ψ) (n:Nat):Prop:=
 ∀b c,V' b=some c->V b=some c\/(n<=b/\G'.off b)
def KG (e:Event):Prop:=e.loc=.output\/e.loc=.mark .noRoom
def Sn (s:Nat) (sp:Spec) (d:Nat) (es:Array Event):Prop:=
 deafBehind d es=d/\∀j e,es[j]?=some e->(e.loc=.mark .disable\/e.loc=.mark .enable\/(∃b a wr,e=⟨.cell ⟨b,a,none⟩,wr,true⟩/\Yb s sp b/\0<deafBehind d (es.extract 0 j)))
def U3 (o:δ):Tok->Prop
 | .ch _ .q _=>o.YD=0
 | .par _ _ .w3=>o.YU=0
 | _=>False
def Ti:Tok->Prop
 | .nil=>True
 | .par _ _ .add|.par _ _ .ZQ=>True
 | .ch _ .idle _|.ch _ .done _=>True
 | _=>False
def Xj:Tok->Prop
 | .nil=>True
 | .par _ _ .ZQ=>True
 | _=>False
def Gone:Tok->Prop
 | .nil=>True
 | .par _ _ .ZQ=>True
 | .ch _ _ .gone=>True
 | _=>False
abbrev Mq:=Bool->Goroutine->ZZ->Prop
def VS (g:Goroutine):Prop:=g.status=.running/\g.offers=none
section
variable (P:Program) (mn:Bool) (YJ:Mq) (g:Goroutine) (x:ZZ)
def FQ:Prop:=∀w,Fits x.G w->Mr x.Z5 w->(stepG P mn g w).goes λg' w' es=>∃G' V',VS g'/\Xr x.G.owns x.G.XH w w'/\Fits G' w'/\Mr V' w'/\
 KH x.G G' w.heap.size/\Ij x.Z5 V' G' w.heap.size/\(∀e∈es,if x.rel then KG e else WJ x.G w.heap.size w'.heap.size e)/\(∀b c,V' b=some c->w.heap.size<=b->∀e∈es,¬SX e.loc b)/\YJ mn g' {x with G:=G',Z5:=V'}
def FP:Prop:=∃g',VS g'/\((∀w,Fits x.G w->stepG P mn g w=.go g' w #[mk .disable]/\YJ mn g' {x with deaf:=x.deaf+1})\/
 (0<x.deaf/\∀w,Fits x.G w->stepG P mn g w=.go g' w #[mk .enable]/\YJ mn g' {x with deaf:=x.deaf-1}))
def FO:Prop:=∃(s n p:Nat) (a:Qr) (g':Goroutine) (b:Nat) (wr:Bool),x.tok s=.par n p a/\a≠.ZQ/\x.rel=false/\VS g'/\∀w,Fits x.G w->stepG P mn g w=.go g' w #[mk (if wr then .write ⟨s,b,none⟩ else .read ⟨s,b,none⟩)]/\YJ mn g' x
def Atom:Prop:=∃s sp,x.spec s=some sp/\¬Xj (x.tok s)/\∀w φ o,Fits x.G w->Mr x.Z5 w->o.toSpec=sp->At s o w->Ik x s φ o->OG o (x.tok s)->
 ((stepG P mn g w).goes λg' w' es=>VS g'/\Xr (λb _=>Yb s sp b) (λ_=>False) w w'/\Sn s sp x.deaf es/\
   ((At s o w'/\YJ mn g' {x with view:=upd x.view s (some (φ,o))})\/
    ∃o' t',Act o (x.tok s) o' t'/\At s o' w'/\(mayWake P g=true\/o'=o)/\∀a,a<φ->YJ mn g' {x with tok:=upd x.tok s t',view:=upd x.view s (some (a,o'))}))\/
 (U3 o (x.tok s)/\(∀c,c≠s->Ti (x.tok c))/\stepG P mn g w=.go {g with status:=.blocked} w #[])
def FN:Prop:=∃s sp m k g',x.spec s=some sp/\sp.ZO=some m/\x.tok s=.ch k .own .work/\x.deaf=0/\VS g'/\x.rel=false/\
 (∀w,Fits x.G w->stepG P mn g w=.go g' w #[mk (.acquire ⟨m,0,none⟩)])/\
 ∀L E,sp.XV L E->Apart x.G E->(L.Nodup/\k∉L/\∃w,Fits x.G w/\Fits E w)->YJ mn g' {x with G:=join x.G E,tok:=upd x.tok s (.ch k (.YI L) .work),view:=upd x.view s none}
def FM:Prop:=∃s sp m k L g' G' E,x.spec s=some sp/\sp.ZO=some m/\x.tok s=.ch k (.YI L) .work/\x.deaf=0/\VS g'/\x.rel=false/\
 (∀w,Fits x.G w->stepG P mn g w=.go g' w #[mk (.releaseMerge ⟨m,0,none⟩)])/\
 Split x.G G' E/\sp.XV (L++[k]) E/\YJ mn g' {x with G:=G',tok:=upd x.tok s (.ch k .fin .work),view:=upd x.view s none}
def FL:Prop:=∃s sp k a g' E,x.spec s=some sp/\x.tok s=.ch k a .work/\(a=.done\/(a=.idle/\sp.ZO=none))/\(∀b,b≠s->Xj (x.tok b))/\x.deaf=0/\VS g'/\x.rel=false/\
 (∀w,Fits x.G w->stepG P mn g w=.go g' w #[mk (.releaseMerge ⟨s,0,none⟩)])/\
 Sub E x.G/\sp.D k E/\YJ mn g' {x with G:=Ψ.empty,Z5:=λ_=>none,tok:=upd x.tok s (.ch k a .rel),view:=upd x.view s none,rel:=true}
def FK:Prop:=∃s sp n c g',x.spec s=some sp/\x.tok s=.par n 0 c/\(c=.SW\/c=.w4)/\x.deaf=0/\VS g'/\x.rel=false/\
 (∀w,Fits x.G w->stepG P mn g w=.go g' w #[mk (.acquire ⟨s,0,none⟩)])/\
 ∀d e b a,d.Perm (List.range n)->Ur sp.D d b->(sp.ZO≠none->e.Perm (List.range n)/\sp.XV e a)->(sp.ZO=none->a=Ψ.empty)->Apart x.G b->Apart x.G a->Apart b a->(∃w,Fits x.G w/\Fits b w/\Fits a w)->
  YJ mn g' {x with G:=join (join x.G b) a,tok:=upd x.tok s (.par n 0 .ZQ),view:=upd x.view s none}
def FJ:Prop:=∃s sp n p g' c a b,x.spec s=some sp/\x.tok s=.par n (p+1) .add/\x.deaf=0/\VS g'/\VS c/\x.rel=false/\
 (∀w,Fits x.G w->stepG P mn g w=.spawn g' c w #[])/\Split x.G a b/\
 YJ mn g' {x with G:=a,tok:=upd x.tok s (.par n p .add),view:=upd x.view s none}/\
 YJ false c ⟨b,λ_=>none,upd (λ_=>.nil) s (.ch (n-(p+1)) .idle .work),upd (λ_=>none) s (some sp),λ_=>none,0,false⟩
def Ii:Prop:=
 (∃G',Sub G' x.G/\YJ mn g {x with G:=G'})\/
 (∃b c t,x.Z5 b=some (c,t)/\YJ mn g {x with Z5:=upd x.Z5 b none,G:=⟨λa o=>if a=b then(c[o]?).map (·,true) else x.G.κ a o,λa=>if a=b then some (t,c.size) else x.G.row a,x.G.obj⟩})\/
 (∃s sp d G' E,x.Z5 s=some (#[.int .u64 0,.int .u32 0],d)/\(∀m,sp.ZO=some m->m≠s/\∃e,x.Z5 m=some (#[.int .i32 0,.int .u32 0],e))/\x.rel=false/\
  Split x.G G' E/\(sp.ZO≠none->sp.XV [] E)/\
  YJ mn g {x with G:=G',Z5:=λb=>if b=s\/sp.ZO=some b then none else x.Z5 b,tok:=upd x.tok s (.par 0 0 .add),spec:=upd x.spec s (some sp),view:=upd x.view s none})
def FI:Prop:=mn=false/\g.status=.running/\x.rel=true/\(∀s,Gone (x.tok s))/\∃g' es,(∀e∈es,Event.mute e=true)/\(∀w,stepG P false g w=.go g' w es)/\YJ mn g' {x with deaf:=deafBehind x.deaf es}
def Mp:Prop:=FI P mn YJ g x\/VS g/\(FQ P mn YJ g x\/FP P mn YJ g x\/FO P mn YJ g x\/Atom P mn YJ g x\/FN P mn YJ g x\/FM P mn YJ g x\/FL P mn YJ g x\/FK P mn YJ g x\/FJ P mn YJ g x\/Ii mn YJ g x)
def FH (a:Value->Prop):Prop:=VS g/\(∀s,Xj (x.tok s))/\x.deaf=0/\∀w,Fits x.G w->∃v es,stepG P true g w=.ended (.done v) w es/\(∀e∈es,WJ x.G w.heap.size w.heap.size e)/\a v
def AY:Prop:=x.rel=true/\(∀s,Gone (x.tok s))/\g.status=.finished/\x.deaf=0
def KF (a:Value->Prop):Prop:=(mn=true/\FH P g x a)\/(mn=false/\AY g x)
def Mo:Prop:=x.rel=true->(∀s,Gone (x.tok s))->∃n,QuitsD P n x.deaf g
end
open Classical in
def Vk (P:Program) (a:Value->Prop):Xe (Bool×Goroutine×ZZ)->Mq
 | .leaf=>λmn g x=>Mo P g x/\KF P mn g x a
 | .node f=>λmn g x=>Mo P g x/\(KF P mn g x a\/Mp P mn (λb g' c=>Vk P a (f (b,g',c)) b g' c) g x)
def Goes (P:Program) (a:Value->Prop):Mq:=λmn g x=>∃T,Vk P a T mn g x
theorem Mp.mono {P:Program} {mn:Bool} {K M:Mq} {g:Goroutine} {x:ZZ} (v:∀mn g x,K mn g x->M mn g x) (h:Mp P mn K g x):Mp P mn M g x:=by
 rcases h with⟨N,Φ,O,Q,g',es,R,S,T⟩|⟨U,h⟩
 .exact .inl ⟨N,Φ,O,Q,g',es,R,S,v _ _ _ T⟩
 refine .inr ⟨U,?_⟩;rcases h with h|h|h|h|h|h|h|h|h|h
 .refine .inl λw B hv=>?_;have:=h w B hv;revert this;cases stepG P mn g w<;>simp only[GStep.goes,imp_self];rintro⟨G',V',j,l,r,u,y,C,A,V,D⟩;exact⟨G',V',j,l,r,u,y,C,A,V,v _ _ _ D⟩
 .obtain⟨g',j,l⟩:=h;exact .inr (.inl ⟨g',j,l.elim (λh=>.inl λw B=>⟨(h w B).1,v _ _ _ (h w B).2⟩) (λh=>.inr ⟨h.1,λw B=>⟨(h.2 w B).1,v _ _ _ (h.2 w B).2⟩⟩)⟩)
 .obtain⟨s,n,p,I,g',W,wr,j,l,J,r,u⟩:=h;exact .inr (.inr (.inl ⟨s,n,p,I,g',W,wr,j,l,J,r,λw B=>⟨(u w B).1,v _ _ _ (u w B).2⟩⟩))
 .obtain⟨s,sp,j,J,r⟩:=h;refine .inr (.inr (.inr (.inl ⟨s,sp,j,J,λw φ o B hv X Y Z aa=>?_⟩)));refine(r w φ o B hv X Y Z aa).imp (λh=>?_) id;revert h;cases stepG P mn g w<;>simp only[GStep.goes,imp_self];rintro⟨j,l,r,u⟩;exact⟨j,l,r,u.imp (λh=>⟨h.1,v _ _ _ h.2⟩) λ⟨o',t',ab,ad,ae,af⟩=>⟨o',t',ab,ad,ae,λag ah=>v _ _ _ (af ag ah)⟩⟩
 .obtain⟨s,sp,m,k,g',j,l,r,u,y,F,C,A⟩:=h;exact .inr (.inr (.inr (.inr (.inl ⟨s,sp,m,k,g',j,l,r,u,y,F,C,λL E a b c=>v _ _ _ (A L E a b c)⟩))))
 .obtain⟨s,sp,m,k,L,g',G',E,j,l,r,u,y,F,C,A,D,H⟩:=h;exact .inr (.inr (.inr (.inr (.inr (.inl ⟨s,sp,m,k,L,g',G',E,j,l,r,u,y,F,C,A,D,v _ _ _ H⟩)))))
 .obtain⟨s,sp,k,ai,g',E,j,l,r,u,y,C,aj,A,D,H,ak⟩:=h;exact .inr (.inr (.inr (.inr (.inr (.inr (.inl ⟨s,sp,k,ai,g',E,j,l,r,u,y,C,aj,A,D,H,v _ _ _ ak⟩))))))
 .obtain⟨s,sp,n,I,g',j,l,r,u,y,F,C,A⟩:=h;exact .inr (.inr (.inr (.inr (.inr (.inr (.inr (.inl ⟨s,sp,n,I,g',j,l,r,u,y,F,C,λal am an ao a b c d e f g i=>v _ _ _ (A al am an ao a b c d e f g i)⟩)))))))
 .obtain⟨s,sp,n,p,g',c,ap,aq,j,l,r,u,y,F,C,A,D,H⟩:=h;exact .inr (.inr (.inr (.inr (.inr (.inr (.inr (.inr (.inl ⟨s,sp,n,p,g',c,ap,aq,j,l,r,u,y,F,C,A,v _ _ _ D,v _ _ _ H⟩))))))))
 .refine .inr (.inr (.inr (.inr (.inr (.inr (.inr (.inr (.inr ?_))))))));rcases h with⟨G',j,l⟩|⟨b,c,t,j,l⟩|⟨s,sp,ar,G',E,j,l,r,u,y,A⟩
  .exact .inl ⟨G',j,v _ _ _ l⟩
  .exact .inr (.inl ⟨b,c,t,j,v _ _ _ l⟩)
  .exact .inr (.inr ⟨s,sp,ar,G',E,j,l,r,u,y,v _ _ _ A⟩)
theorem Goes.stop {P:Program} {a:Value->Prop} {mn:Bool} {g:Goroutine} {x:ZZ} (b:Mo P g x) (h:KF P mn g x a):Goes P a mn g x:=⟨.leaf,b,h⟩
open Classical in
theorem Goes.step {P:Program} {a:Value->Prop} {mn:Bool} {g:Goroutine} {x:ZZ} (c:Mo P g x) (h:Mp P mn (Goes P a) g x):Goes P a mn g x:=by
 refine⟨.node λk=>if b:∃T,Vk P a T k.1 k.2.1 k.2.2 then Classical.choose b else .leaf,c,.inr (h.mono λd g' e f=>?_)⟩;have b:∃T,Vk P a T d g' e:=f;simp only[b,dif_pos];exact Classical.choose_spec b
theorem Goes.quits {P:Program} {i:Value->Prop} (n:Nat):∀{g:Goroutine} {x:ZZ},x.rel=true->(∀s,Gone (x.tok s))->QuitsD P n x.deaf g->Goes P i false g x:=by
 induction n with
 | zero=>
  intro g x b c a;exact .stop (λ_ _=>⟨0,a⟩) (.inr ⟨rfl,b,c,a.1,a.2⟩)
 | succ n j=>
  intro g x b c a;rcases a with a|⟨d,g',es,e,f,h⟩
  .exact .stop (λ_ _=>⟨0,a⟩) (.inr ⟨rfl,b,c,a.1,a.2⟩)
  .exact .step (λ_ _=>⟨n+1,.inr ⟨d,g',es,e,f,h⟩⟩) (.inl ⟨rfl,d,b,c,g',es,e,f,j (x:={x with deaf:=deafBehind x.deaf es}) b c h⟩)
abbrev Y5:=Nat ⊕ Nat
def Zy (H:Y5->Ψ) (h:Y5) (G:Ψ):Y5->Ψ:=λk=>if k=h then G else H k
@[simp] theorem Yu (H:Y5->Ψ) (h:Y5) (G:Ψ):Zy H h G h=G:=by simp[Zy]
theorem Zx (H:Y5->Ψ) {h k:Y5} (G:Ψ) (a:k≠h):Zy H h G k=H k:=by simp[Zy,a]
structure YO where
 H:Y5->Ψ
 Z5:Nat->Nat->Option (Array Value×TypeId)
 tok:Nat->Nat->Tok
 spec:Nat->Nat->Option Spec
 view:Nat->Nat->Option (Nat×δ)
 deaf:Nat->Nat
 rel:Nat->Bool
 T:Nat->Xe (Bool×Goroutine×ZZ)
 O:Nat->Option δ
 Zr:Nat->Nat
 home:Nat->Nat
 XO:Nat->Nat
def YO.x (c:YO) (i:Nat):ZZ:=⟨c.H (.inl i),c.Z5 i,c.tok i,c.spec i,c.view i,c.deaf i,c.rel i⟩
structure WS (H:Y5->Ψ) (a:Nat->Nat->Option (Array Value×TypeId)) (b:Nat->Option δ) (c w:World):Prop where
 fit:∀h,Fits (H h) w
 T2:∀i,Mr (a i) w
 Xp:∀s o,b s=some o->At s o w
 keep:Xr (λ_ _=>False) (λ_=>False) c w
structure V7 (H:Y5->Ψ) (d:Nat->Nat->Option (Array Value×TypeId)) (a:Nat->Option δ) (c:Nat):Prop where
 apart:∀h k,h≠k->Apart (H h) (H k)
 high:∀h b o,(H h).owns b o->c<=b
 SR:∀h b,(H h).XH b->c<=b
 fresh:∀i b v,d i b=some v->c<=b/\(∀h,(H h).off b)/\∀j,j≠i->d j b=none
 US:∀s o b,a s=some o->Yb s o.toSpec b->c<=b/\(∀h,(H h).off b)/\∀j,d j b=none
 UH:∀s e o o' b,a s=some o->a e=some o'->Yb s o.toSpec b->Yb e o'.toSpec b->s=e
 RJ:∀s o m,a s=some o->o.ZO=some m->m≠s
 Ya:∀b,(∀s o,a s=some o->¬Yb s o.toSpec b)->H (.inr b)=Ψ.empty
theorem WS.own {H:Y5->Ψ} {u:Nat->Nat->Option (Array Value×TypeId)} {y:Nat->Option δ} {A w w':World} {C:Nat} (p:WS H u y A w) (k:V7 H u y C) (i:Nat) {G':Ψ} {V':Nat->Option (Array Value×TypeId)}
  (d:Xr (H (.inl i)).owns (H (.inl i)).XH w w') (L:Fits G' w') (hv:Mr V' w') (V:A.heap.size=C):WS (Zy H (.inl i) G') (upd u i V') y A w':=by
 have D:∀h,h≠.inl i->(∀b o,(H (.inl i)).owns b o->¬(H h).has b o)/\∀b,(H (.inl i)).XH b->¬(H h).XH b:=λh e=>⟨(k.apart _ _ (YQ e)).κ,(k.apart _ _ (YQ e)).obj⟩;refine⟨λh=>?_,λj=>?_,λs o E=>?_,?_⟩
 .by_cases e:h=.inl i
  .subst e;rw[Yu];exact L
  .rw[Zx _ _ e];exact(p.fit h).keeps d (D h e).1 (D h e).2
 .by_cases F:j=i
  .subst F;rw[upd_same];exact hv
  .rw[upd_ne _ _ F];intro b c t a;obtain⟨c',f,n,g⟩:=d.cells b c t _ (p.T2 j b c t a);have B:=(k.fresh j b _ a).2.1 (.inl i);have:c'=c:=by
    apply NP;intro o;exact g o λ⟨v,hv⟩=>B.1 o ⟨_,hv⟩
   rw[f,this]
 .have B:=λb (a:Yb s o.toSpec b)=>(k.US s o b E a).2.1 (.inl i)
  have I:∀b c t,Yb s o.toSpec b->w.heap[b]?=some (.cells c t (0,0))->w'.heap[b]?=some (.cells c t (0,0)):=λb c t a M=>by
   obtain⟨c',f,n,g⟩:=d.cells b c t _ M;have:c'=c:=by
    apply NP;intro o';exact g o' λ⟨v,hv⟩=>(B b a).1 o' ⟨_,hv⟩
   rw[f,this]
  obtain⟨⟨N,f⟩,n⟩:=p.Xp s o E;exact⟨⟨N,I _ _ _ (.inl rfl) f⟩,λm J=>let ⟨O,g⟩:=n m J;⟨O,I _ _ _ (.inr J) g⟩⟩
 .have l:=p.keep;refine⟨X1 l.size d.size,λb c t K a=>?_,λb x a r _=>?_,l.os.trans d.os,d.output.trans l.output,d.tape.trans l.tape⟩
  .obtain⟨P,f,n,g⟩:=l.cells b c t K a;obtain⟨Q,R,S,T⟩:=d.cells b P t K f;refine⟨Q,R,by rw[S,n],λo _=>?_⟩;rw[T o λr=>?_,g o id];have:=k.high _ _ _ r;have:=Xq a;omega
  .refine d.Tm b x (l.Tm b x a r id) r λU=>?_;have:=k.SR _ _ U;have:=Xq a;omega
theorem WS.at {H:Y5->Ψ} {a:Nat->Nat->Option (Array Value×TypeId)} {b:Nat->Option δ} {c w:World} (h:WS H a b c w) (d:Nat):WS H a b c (w.at d):=
 ⟨λk=>(h.fit k).at d,h.T2,h.Xp,⟨h.keep.size,h.keep.cells,h.keep.Tm,h.keep.os,h.keep.output,h.keep.tape⟩⟩
theorem V7.own {H:Y5->Ψ} {y:Nat->Nat->Option (Array Value×TypeId)} {K:Nat->Option δ} {O:Nat} {w:World} {ad:World} (g:V7 H y K O) (L:WS H y K ad w) (al:O<=w.heap.size) (i:Nat) {G':Ψ} {V':Nat->Option (Array Value×TypeId)}
  (C:KH (H (.inl i)) G' w.heap.size) (P:Ij (y i) V' G' w.heap.size):V7 (Zy H (.inl i) G') (upd y i V') K O:=by
 have W:∀b o,G'.has b o->w.heap.size<=b\/(H (.inl i)).has b o:=λb o ⟨⟨v,p⟩,h⟩=>(C.κ b o v p h).imp id λ⟨X,ae,Q,_⟩=>⟨_,Q⟩
 have Y:∀b o,G'.owns b o->w.heap.size<=b\/(H (.inl i)).owns b o:=λb o ⟨v,h⟩=>(C.κ b o v true h).imp id λ⟨X,ae,Q,af⟩=>⟨X,by rw[Q,af rfl]⟩
 have R:∀h b o,(H h).has b o->b<w.heap.size:=λh b o ⟨⟨v,p⟩,m⟩=>by
  obtain⟨c,t,am,hb,_⟩:=Re ((L.fit h).κ b o v p m);exact Xq hb
 have Z:∀h b,(H h).XH b->b<w.heap.size:=λh b ⟨x,m⟩=>Xq ((L.fit h).obj b x m).1
 have aa:∀k,k≠.inl i->Apart G' (H k):=λk D=>by
  have a:=g.apart _ _ (YQ D);refine⟨λb o d m=>?_,λb o d m=>?_,λb d m=>?_⟩
  .rcases Y b o d with h|h
   .have:=R k b o m;omega
   .exact a.κ b o h m
  .rcases W b o m with h|h
   .have:=R k b o (let ⟨v,hv⟩:=d;⟨_,hv⟩);omega
   .exact a.Rf b o d h
  .rcases C.obj b d with h|h
   .have:=Z k b m;omega
   .exact a.obj b h m
 have ag:∀{A B:Ψ},Apart A B->Apart B A:=λh=>⟨h.Rf,h.κ,λb hb ah=>h.obj b ah hb⟩
 have S:∀b,b<w.heap.size->(H (.inl i)).off b->G'.off b:=λb hb h=>⟨λo d=>(W b o d).elim (λx=>U) (h.1 o),λd=>(C.obj b d).elim (λx=>U) h.2⟩
 have T:∀j b v,y j b=some v->b<w.heap.size:=λj b v hv=>Xq (L.T2 j b v.1 v.2 hv)
 have ai:∀s o b,K s=some o->Yb s o.toSpec b->b<w.heap.size:=λs o b M hb=>by
  obtain⟨⟨an,N⟩,V⟩:=L.Xp s o M;rcases hb with rfl|hb
  .exact Xq N
  .obtain⟨ao,aj⟩:=V b hb;exact Xq aj
 refine⟨λh k D=>?_,λh b o d=>?_,λh b d=>?_,λj b v hv=>?_,λs o b M hb=>?_,g.UH,g.RJ,λb hb=>?_⟩
 .by_cases e:h=.inl i
  .subst e;rw[Yu,Zx _ _ (YQ D)];exact aa k (YQ D)
  .by_cases kk:k=.inl i
   .subst kk;rw[Yu,Zx _ _ e];exact ag (aa h e)
   .rw[Zx _ _ e,Zx _ _ kk];exact g.apart h k D
 .by_cases e:h=.inl i
  .subst e;rw[Yu] at d;rcases Y b o d with h|h
   .omega
   .exact g.high _ _ _ h
  .rw[Zx _ _ e] at d;exact g.high _ _ _ d
 .by_cases e:h=.inl i
  .subst e;rw[Yu] at d;rcases C.obj b d with h|h
   .omega
   .exact g.SR _ _ h
  .rw[Zx _ _ e] at d;exact g.SR _ _ d
 .by_cases ab:j=i
  .subst ab;rw[upd_same] at hv;rcases P b v hv with h|⟨N,V⟩
   .obtain⟨E,n,r⟩:=g.fresh j b v h;refine⟨E,λf=>?_,λl u=>by rw[upd_ne _ _ u];exact r l u⟩;by_cases e:f=.inl j
    .subst e;rw[Yu];exact S b (T j b v h) (n _)
    .rw[Zx _ _ e];exact n _
   .refine⟨U,λf=>?_,λl u=>?_⟩
    .by_cases e:f=.inl j
     .subst e;rw[Yu];exact V
     .rw[Zx _ _ e];exact⟨λo d=>by have:=R f b o d;omega,λd=>by have:=Z f b d;omega⟩
    .rw[upd_ne _ _ u];cases F:y l b with
     | none=>rfl
     | some I=>have:=T l b I F;omega
  .rw[upd_ne _ _ ab] at hv;obtain⟨E,n,r⟩:=g.fresh j b v hv;have hb:=T j b v hv;refine⟨E,λf=>?_,λl u=>?_⟩
   .by_cases e:f=.inl i
    .subst e;rw[Yu];exact S b hb (n _)
    .rw[Zx _ _ e];exact n _
   .by_cases f:l=i
    .subst f;rw[upd_same];cases F:V' b with
     | none=>rfl
     | some I=>
      rcases P b I F with h|⟨N,_⟩
      .rw[r l u] at h;cases h
      .omega
    .rw[upd_ne _ _ f];exact r l u
 .obtain⟨E,n,r⟩:=g.US s o b M hb;have ak:=ai s o b M hb;refine⟨E,λf=>?_,λl=>?_⟩
  .by_cases e:f=.inl i
   .subst e;rw[Yu];exact S b ak (n _)
   .rw[Zx _ _ e];exact n _
  .by_cases f:l=i
   .subst f;rw[upd_same];cases F:V' b with
    | none=>rfl
    | some I=>
     rcases P b I F with h|⟨N,_⟩
     .rw[r l] at h;cases h
     .omega
   .rw[upd_ne _ _ f];exact r l
 .rw[Zx _ _ J];exact g.Ya b hb
def Vj (tok:Nat->Nat->Tok) (c:Nat->Option δ) (t:Trace):Y5->Nat->Prop
 | .inl i,k=>Knows t i k
 | .inr b,k=>(∃p a,t[p]?=some a/\a.act=.mark (.releaseMerge ⟨b,0,none⟩)/\t.heard p/\Before t k p)\/(∀s o,c s=some o->Yb s o.toSpec b->∀i,tok i s≠.nil->Knows t i k)
theorem Ih {tok:Nat->Nat->Tok} {a:Nat->Option δ} {t:Trace} (u:Trace) {h:Y5} {k:Nat} (c:Vj tok a t h k):Vj tok a (t++u) h k:=by
 cases h with
 | inl i=>exact Knows.app u c
 | inr b=>
  rcases c with⟨p,f,d,g,j,l⟩|h
  .have e:=lt_size_of_getElem? d;exact .inl ⟨p,f,by rw[getElem?_append_old e];exact d,g,(heard_old e).2 j,l.app u⟩
  .exact .inr λs o m n i hi=>(h s o m n i hi).app u
structure VR (H:Y5->Ψ) (e:Nat->Nat->Option (Array Value×TypeId)) (tok:Nat->Nat->Tok) (d:Nat->Option δ) (f:Nat->Nat) (g:Nat->Nat) (N:Nat) (t:Trace):Prop where
 race:∀j,¬Race j t
 low:∀c∈t,c.act.low N
 norel:∀c∈t,∀a,c.act≠.mark (.release a)
 perms:∀h,YH t (Vj tok d t h) (H h)
 Sm:∀i b v,e i b=some v->∀k a,touchAt t k=some a->¬SX a.loc b
 cont:∀s o b,d s=some o->Yb s o.toSpec b->∀k a,touchAt t k=some a->SX a.loc b->a.kind=.atomic\/(a.kind=.said/\t.g? k=some (f s))
 hears:∀i,Deaf t i=g i
theorem Mn {t:Trace} {N k:Nat} {a:Touch} (h:∀f∈t,f.act.low N) (j:touchAt t k=some a) {b:Nat} (c:SX a.loc b):b<N:=by
 obtain⟨f,l,d⟩:=touch_of j;have i:=h f (mem_of_getElem? l);obtain⟨g,fn,pos,n⟩:=f;cases n with
 | access e=>
  simp only[MemAct.touch?,Qx] at d;subst d;obtain⟨o,wr,p⟩:=e;cases o<;>simp only[SX] at c<;>first|(subst c;exact i)|exact c.elim
 | mark m=>
  cases m<;>simp only[MemAct.touch?,Qx,reduceCtorEq] at d<;>(subst d;simp only[SX] at c;subst c;exact i)
 | _=>simp[MemAct.touch?] at d
theorem KG.Ig {G:Ψ} {n a:Nat} {e:Event} (h:KG e):WJ G n a e:=by
 rcases h with h|h<;>simp[WJ,h]
theorem KE {G:Ψ} {n f:Nat} {e:Event} (c:WJ G n f e) {a:Touch} (b:(MemAct.ofEvent e).touch?=some a) :
  a.loc=e.loc/\a.write=e.write/\(a.loc.isMemory=true->(∃d,e.loc=.cell d)\/∃r,e.loc=.obj r):=by
 obtain⟨g,wr,h⟩:=e;cases g with
 | cell d=>simp[MemAct.ofEvent,MemAct.touch?] at b;subst b;simp
 | obj r=>
  simp only[WJ] at c;obtain⟨rfl,_⟩:=c;cases wr<;>simp[MemAct.ofEvent,MemAct.touch?] at b<;>subst b<;>simp
 | output=>simp[MemAct.ofEvent,MemAct.touch?] at b;subst b;simp[Loc.isMemory]
 | goroutines=>exact c.elim
 | mark m=>simp only[WJ] at c;subst c;simp[MemAct.ofEvent,MemAct.touch?] at b
theorem VR.own {H:Y5->Ψ} {M:Nat->Nat->Option (Array Value×TypeId)} {tok:Nat->Nat->Tok} {P:Nat->Option δ} {ah:Nat->Nat} {ai:Nat->Nat} {ap w w':World} {aq:Nat} {t:Trace}
  (l:VR H M tok P ah ai w.heap.size t) (U:WS H M P ap w) (V:V7 H M P aq) (i:Nat) {G':Ψ} {V':Nat->Option (Array Value×TypeId)} {es:Array Event} {fn:FuncId} {pos:String}
  (ar:w.heap.size<=w'.heap.size) (aj:KH (H (.inl i)) G' w.heap.size) (ak:Ij (M i) V' G' w.heap.size)
  (E:∀e∈es,WJ (H (.inl i)) w.heap.size w'.heap.size e) (au:∀b c,V' b=some c->w.heap.size<=b->∀e∈es,¬SX e.loc b) :
  VR (Zy H (.inl i) G') (upd M i V') tok P ah ai w'.heap.size (t++MemOp.ofEvents i fn pos es):=by
 have Q:∀B∈MemOp.ofEvents i fn pos es,B.g=i:=λB n=>by obtain⟨e,_,rfl⟩:=Go.Conc.mem_ofEvents n;rfl
 have W:∀h b o,(H h).has b o->b<w.heap.size:=λh b o ⟨⟨v,p⟩,C⟩=>by
  obtain⟨c,t,aF,hb,_⟩:=Re ((U.fit h).κ b o v p C);exact Xq hb
 have al:∀h b,(H h).XH b->b<w.heap.size:=λh b ⟨x,C⟩=>Xq ((U.fit h).obj b x C).1
 have am:∀j b v,M j b=some v->b<w.heap.size:=λj b v hv=>Xq (U.T2 j b v.1 v.2 hv)
 have av:∀s o b,P s=some o->Yb s o.toSpec b->b<w.heap.size:=λs o b R hb=>by
  obtain⟨⟨aG,D⟩,S⟩:=U.Xp s o R;rcases hb with rfl|hb
  .exact Xq D
  .obtain⟨aH,X⟩:=S b hb;exact Xq X
 have Y:∀e∈es,∀b,b<w.heap.size->(H (.inl i)).off b->¬SX e.loc b:=λe f b hb Z u=>by
  have:=E e f;obtain⟨T,wr,aa⟩:=e;cases T with
  | cell N=>
   simp only[SX] at u;subst u;simp only[WJ] at this;rcases this with h|⟨_,h⟩
   .omega
   .cases wr
    .exact Z.1 _ h
    .obtain⟨v,hv⟩:=h;exact Z.1 _ ⟨_,hv⟩
  | obj r=>
   simp only[SX] at u;subst u;simp only[WJ] at this;rcases this.2 with h|h
   .omega
   .exact Z.2 h
  | _=>exact u
 refine⟨λaw=>noRace_append (l.race aw) Q λk a y B n b hb K=>?_,λB n=>?_,λB n=>?_,λh=>?_,λj b v hv k a y u=>?_,λs o b R hb k a y u=>?_,λj=>?_⟩
 .obtain⟨e,f,rfl⟩:=Go.Conc.mem_ofEvents n;obtain⟨D,S,X⟩:=KE (E e f) hb;obtain⟨ab,ax,ay,_⟩:=K;have d:=E e f;rcases X (by rw[<-ab];exact ax) with⟨N,A⟩|⟨r,A⟩
  .simp only[WJ,A] at d;have O:a.loc=.cell N:=by rw[ab,D,A]
   rcases d with h|⟨an,h⟩
   .have:=Mn l.low y (b:=N.block) (by rw[O];rfl);omega
   .obtain⟨aI,aJ,sp⟩:=N;simp only at an;subst an;by_cases I:e.write=true
    .rw[if_pos I] at h;obtain⟨v,hv⟩:=h;exact(l.perms (.inl i)).κ _ _ v true hv k a y O (.inl rfl)
    .rw[if_neg I] at h;obtain⟨⟨v,p⟩,hv⟩:=h;exact(l.perms (.inl i)).κ _ _ v p hv k a y O (.inr (ay.resolve_right (by rw[S];exact I)))
  .simp only[WJ,A] at d;have O:a.loc=.obj r:=by rw[ab,D,A]
   rcases d.2 with h|h
   .have:=Mn l.low y (b:=r) (by rw[O];rfl);omega
   .exact(l.perms (.inl i)).obj r h k a y O
 .rcases St.1 n with h|h
  .exact MemAct.low_mono ar (l.low B h)
  .obtain⟨e,f,rfl⟩:=Go.Conc.mem_ofEvents h;have d:=E e f;obtain⟨T,wr,aa⟩:=e;cases T with
   | cell N=>
    simp only[WJ] at d;show N.block<_;rcases d with h|⟨_,h⟩
    .exact h.2
    .cases wr
     .have:=W _ _ _ h;omega
     .obtain⟨v,hv⟩:=h;have:=W (.inl i) _ _ ⟨_,hv⟩;omega
   | obj r=>
    simp only[WJ] at d;obtain⟨rfl,d⟩:=d;have az:r<w'.heap.size:=d.elim (λh=>h.2) (λh=>by have:=al _ _ h;omega);cases wr<;>exact az
   | output=>trivial
   | goroutines=>exact d.elim
   | mark m=>simp only[WJ] at d;subst d;trivial
 .rcases St.1 n with h|h
  .exact l.norel B h
  .obtain⟨e,f,rfl⟩:=Go.Conc.mem_ofEvents h;intro a h;have d:=E e f;obtain⟨T,wr,aa⟩:=e;cases T with
   | mark m=>simp only[WJ] at d;subst d;simp[MemAct.ofEvent] at h
   | obj r=>cases wr<;>cases aa<;>simp[MemAct.ofEvent] at h
   | _=>simp[MemAct.ofEvent] at h
 .by_cases ad:h=.inl i
  .subst ad;rw[Yu];have ao:YH (t++MemOp.ofEvents i fn pos es) (Knows (t++MemOp.ofEvents i fn pos es) i) (H (.inl i)):=(l.perms (.inl i)).own Q;refine⟨λb o v p K k a y A I=>?_,λb hb k a y A=>?_⟩
   .rcases aj.κ b o v p K with aA|⟨aB,aC,ae,aD⟩
    .rcases Tl y with F|⟨_,B,n,L,_⟩
     .have:=Mn l.low F (b:=b) (by rw[A];rfl);omega
     .have:=knows_own L;rwa [Q B n] at this
    .exact ao.κ b o aB aC ae k a y A (I.imp aD id)
   .rcases aj.obj b hb with aA|ae
    .rcases Tl y with F|⟨_,B,n,L,_⟩
     .have:=Mn l.low F (b:=b) (by rw[A];rfl);omega
     .have:=knows_own L;rwa [Q B n] at this
    .exact ao.obj b ae k a y A
  .rw[Zx _ _ ad];have af:=V.apart _ _ (YQ ad);refine(l.perms h).others (λk L=>Ih _ L) λB n a y=>?_;obtain⟨e,f,rfl⟩:=Go.Conc.mem_ofEvents n;obtain⟨D,S,_⟩:=KE (E e f) y;have d:=E e f;refine⟨λb o v p A K=>?_,λb A hb=>?_⟩
   .simp only[WJ,<-D,A] at d;rcases d with C|⟨_,C⟩
    .have:=W h b o ⟨_,K⟩;omega
    .by_cases I:e.write=true
     .rw[if_pos I] at C;exact absurd ⟨_,K⟩ (af.κ b o C)
     .rw[if_neg I] at C;refine⟨?_,by rw[S];simpa using I⟩;cases p with
      | false=>rfl
      | true=>exact absurd C (af.Rf b o ⟨v,K⟩)
   .simp only[WJ,<-D,A] at d;rcases d.2 with C|C
    .have:=al h b hb;omega
    .exact af.obj b C hb
 .rcases Tl y with F|⟨_,B,n,_,ag⟩
  .have hb:=Mn l.low F u;by_cases J:j=i
   .subst J;rw[upd_same] at hv;rcases ak b v hv with h|h
    .exact l.Sm j b v h k a F u
    .omega
   .rw[upd_ne _ _ J] at hv;exact l.Sm j b v hv k a F u
  .obtain⟨e,f,rfl⟩:=Go.Conc.mem_ofEvents n;obtain⟨D,_,_⟩:=KE (E e f) ag;rw[D] at u;by_cases J:j=i
   .subst J;rw[upd_same] at hv;rcases ak b v hv with h|h
    .exact Y e f b (am j b v h) ((V.fresh j b v h).2.1 _) u
    .exact au b v hv h.1 e f u
   .rw[upd_ne _ _ J] at hv;exact Y e f b (am j b v hv) ((V.fresh j b v hv).2.1 _) u
 .rcases Tl y with F|⟨_,B,n,_,ag⟩
  .rcases l.cont s o b R hb k a F u with h|⟨h,L⟩
   .exact .inl h
   .obtain⟨B,aE,_⟩:=touch_of F;exact .inr ⟨h,by rw[g?_old (lt_size_of_getElem? aE)];exact L⟩
  .obtain⟨e,f,rfl⟩:=Go.Conc.mem_ofEvents n;obtain⟨D,_,_⟩:=KE (E e f) ag;rw[D] at u;exact absurd u (Y e f b (av s o b R hb) ((V.US s o b R hb).2.1 _))
 .by_cases J:i=j
  .subst J;rw[Deaf_own,deafBehind_still (λe f=>?_)]
   .exact l.hears i
   .have d:=E e f;constructor<;>intro A<;>simp[WJ,A] at d
  .rw[Deaf_other t J _ Q];exact l.hears j
def Sl:Uw->Prop
 | .fin|.uc|.us|.done=>True
 | _=>False
def Zq (tok:Nat->Nat->Tok) (i s:Nat) (t:Tok):Nat->Nat->Tok:=upd tok i (upd (tok i) s t)
theorem XG (tok:Nat->Nat->Tok) (i s:Nat) (t:Tok):Zq tok i s t i s=t:=by simp[Zq,upd]
theorem XN {tok:Nat->Nat->Tok} {i s j r:Nat} (t:Tok) (h:¬(j=i/\r=s)):Zq tok i s t j r=tok j r:=by
 unfold Zq upd;by_cases a:j=i
 .subst a;by_cases b:r=s
  .exact absurd ⟨rfl,b⟩ h
  .simp[b]
 .simp[a]
theorem FG (tok:Nat->Nat->Tok) (i s:Nat) (t:Tok):(λj=>Zq tok i s t j s)=upd (λj=>tok j s) i t:=by
 funext j
 by_cases a:j=i
 .subst a;rw[XG,upd_same]
 .rw[XN _ (λh=>a h.1),upd_ne _ _ a]
theorem Ie (tok:Nat->Nat->Tok) (i s:Nat) (t:Tok) {r:Nat} (a:r≠s):(λj=>Zq tok i s t j r)=λj=>tok j r:=by
 funext j;rw[XN _ (λh=>a h.2)]
structure X0 (n:Nat) (tok:Nat->Nat->Tok) (spec:Nat->Nat->Option Spec) (h:Nat->Nat->Option (Nat×δ)) (d:Nat->Bool) (a:Nat->Option δ) (e b:Nat->Nat):Prop where
 Z3:∀s o,a s=some o->Pw n o (λi=>tok i s)
 bare:∀s,a s=none->∀i,tok i s=.nil
 out:∀i s,n<=i->tok i s=.nil
 Q':∀i s sp,spec i s=some sp->∃o,a s=some o/\o.toSpec=sp
 OF:∀i s φ o,h i s=some (φ,o)->∃c,a s=some c/\X7 n c (λj=>tok j s)<=φ/\(X7 n c (λj=>tok j s)=φ->c=o)
 YI:∀i s k L g o,a s=some o->tok i s=.ch k (.YI L) g->o.L=L
 par:∀i s m p f,tok i s=.par m p f->i=e s
 Sk:∀i s k m g,tok i s=.ch k m g->i≠0/\b i=s/\e s<i
 Qp:∀i,i≠0->i<n->∃k m g,tok i (b i)=.ch k m g
 RI:∀i k m g,i≠0->tok i (b i)=.ch k m g->(d i=true↔g≠.work)
 Pv:d 0=false
 Sj:∀i s,d i=true->s≠b i->Xj (tok i s)
 Si:∀i s k m g o,a s=some o->tok i s=.ch k m g->g≠.work->m=.done\/(m=.idle/\o.ZO=none)
 OE:∀s i j k m g l g',tok i s=.ch k m g->tok j s=.ch k l g'->i=j
 Pu:∀s i k m g q p f,tok i s=.ch k m g->tok (e s) s=.par q p f->k+p<q
 Sg:∀s o,a s=some o->o.L.Nodup/\∀k,k∈o.L↔∃i m g,tok i s=.ch k m g/\Sl m
 Q9:∀s o,a s=some o->o.YJ.Nodup/\∀k,k∈o.YJ↔∃i m g,tok i s=.ch k m g/\g≠.work
def Alike (t t':Tok):Prop:=(∃m p c a b d,t=.par m p c/\t'=.par a b d/\∀k,k+p<m->k+b<a)\/(∃k m g a g',t=.ch k m g/\t'=.ch k a g')
section
variable {n:Nat} {tok:Nat->Nat->Tok} {spec:Nat->Nat->Option Spec} {view:Nat->Nat->Option (Nat×δ)} {rel:Nat->Bool} {O:Nat->Option δ} {Zr home:Nat->Nat}
theorem X0.lt (h:X0 n tok spec view rel O Zr home) {i s:Nat} (a:tok i s≠.nil):i<n:=Nat.lt_of_not_le λb=>a (h.out i s b)
theorem X0.change (h:X0 n tok spec view rel O Zr home) {s i:Nat} {o o':δ} {t t':Tok} {K:Nat->Bool} {V:Nat->Option (Nat×δ)} (T:O s=some o) (M:tok i s=t) (N:Alike t t')
  (ab:Pw n o' (upd (λj=>tok j s) i t')) (av:X7 n o' (upd (λj=>tok j s) i t')<X7 n o (λj=>tok j s)) (ad:o'.toSpec=o.toSpec)
  (ae:∀r φ q,V r=some (φ,q)->(r=s/\φ=X7 n o' (upd (λj=>tok j s) i t')/\q=o')\/(r≠s/\view i r=some (φ,q)))
  (af:∀j k L g,Zq tok i s t' j s=.ch k (.YI L) g->o'.L=L)
  (ag:∀j k m g,j≠0->Zq tok i s t' j (home j)=.ch k m g->(K j=true↔g≠.work)) (ah:K 0=false)
  (ai:∀j r,K j=true->r≠home j->Xj (Zq tok i s t' j r))
  (aj:∀j k m g,Zq tok i s t' j s=.ch k m g->g≠.work->m=.done\/(m=.idle/\o'.ZO=none))
  (ak:o'.L.Nodup/\∀k,k∈o'.L↔∃j m g,Zq tok i s t' j s=.ch k m g/\Sl m) (al:o'.YJ.Nodup/\∀k,k∈o'.YJ↔∃j m g,Zq tok i s t' j s=.ch k m g/\g≠.work) :
  X0 n (Zq tok i s t') spec (upd view i V) K (upd O s (some o')) Zr home:=by
 have aw:i<n:=h.lt (s:=s) (by rw[M];rcases N with⟨_,_,_,_,_,_,rfl,_⟩|⟨_,_,_,_,_,rfl,_⟩<;>simp)
 have Q:=FG tok i s t'
 have R:∀r,r≠s->(λj=>Zq tok i s t' j r)=λj=>tok j r:=λr v=>Ie tok i s t' v
 have E:∀j r,r≠s->Zq tok i s t' j r=tok j r:=λj r v=>congrFun (R r v) j
 have am:∀j,j≠i->∀r,Zq tok i s t' j r=tok j r:=λj c r=>XN _ λx=>c x.1
 have P:∀j r k m g,Zq tok i s t' j r=.ch k m g->∃l w,tok j r=.ch k l w:=λj r k m g c=>by
  by_cases e:j=i/\r=s
  .obtain⟨rfl,rfl⟩:=e;rw[XG] at c;rcases N with⟨_,_,_,_,_,_,_,f,_⟩|⟨W,l,w,F,H,d,f⟩
   .rw[f] at c;cases c
   .rw[f] at c;cases c;exact⟨l,w,by rw[M,d]⟩
  .rw[XN _ e] at c;exact⟨m,g,c⟩
 have an:∀j r k m g,tok j r=.ch k m g->∃l w,Zq tok i s t' j r=.ch k l w:=λj r k m g c=>by
  by_cases e:j=i/\r=s
  .obtain⟨rfl,rfl⟩:=e;rw[XG];rw[M] at c;rcases N with⟨_,_,_,_,_,_,d,_,_⟩|⟨W,l,w,F,H,d,f⟩
   .rw[d] at c;cases c
   .rw[d] at c;cases c;exact⟨F,H,f⟩
  .rw[XN _ e];exact⟨m,g,c⟩
 have X:∀j r m p A,Zq tok i s t' j r=.par m p A->∃l C I,tok j r=.par l C I/\∀k,k+C<l->k+p<m:=λj r m p A c=>by
  by_cases e:j=i/\r=s
  .obtain⟨rfl,rfl⟩:=e;rw[XG] at c;rcases N with⟨_,_,_,_,_,_,d,f,B⟩|⟨W,l,w,F,H,d,f⟩
   .rw[f] at c;cases c;exact⟨_,_,_,by rw[M,d],B⟩
   .rw[f] at c;cases c
  .rw[XN _ e] at c;exact⟨m,p,A,c,λ_ x=>x⟩
 have J:∀r q,upd O s (some o') r=some q->(r=s/\q=o')\/(r≠s/\O r=some q):=λr q u=>by
  by_cases e:r=s
  .subst e;rw[upd_same] at u;cases u;exact .inl ⟨rfl,rfl⟩
  .rw[upd_ne _ _ e] at u;exact .inr ⟨e,u⟩
 refine⟨λr q u=>?_,λr v j=>?_,λj r c=>?_,λj r sp c=>?_,λj r φ q c=>?_,λj r k L g q u c=>?_,λj r m p A c=>?_,λj r k m g c=>?_,λj ao c=>?_,ag,ah,ai,λj r k m g q u c Y=>?_,λr j Z k m g ap g' d f=>?_,λr j k m g q p A d f=>?_,λr q u=>?_,λr q u=>?_⟩
 .rcases J r q u with⟨rfl,rfl⟩|⟨e,y⟩
  .rw[Q];exact ab
  .rw[R r e];exact h.Z3 r q y
 .by_cases e:r=s
  .subst e;rw[upd_same] at v;cases v
  .rw[upd_ne _ _ e] at v;rw[E j r e];exact h.bare r v j
 .rw[am j U r];exact h.out j r c
 .obtain⟨q,d,f⟩:=h.Q' j r sp c;by_cases e:r=s
  .subst e;rw[T] at d;cases d;exact⟨o',upd_same ..,by rw[ad];exact f⟩
  .exact⟨q,by rw[upd_ne _ _ e];exact d,f⟩
 .have aa:∀φ q,view j r=some (φ,q)->∃D,upd O s (some o') r=some D/\X7 n D (λa=>Zq tok i s t' a r)<=φ/\(X7 n D (λa=>Zq tok i s t' a r)=φ->D=q):=λφ q hv=>by
   obtain⟨D,d,f,B⟩:=h.OF j r φ q hv;by_cases e:r=s
   .subst e;rw[T] at d;cases d;rw[upd_same,Q];exact⟨o',rfl,U,λx=>U⟩
   .rw[upd_ne _ _ e,R r e];exact⟨D,d,f,B⟩
  by_cases e:j=i
  .subst e;rw[upd_same] at c;rcases ae r φ q c with⟨rfl,rfl,rfl⟩|⟨v,hv⟩
   .rw[upd_same,Q];exact⟨_,rfl,Z1 _,λ_=>rfl⟩
   .exact aa φ q hv
  .rw[upd_ne _ _ e] at c;exact aa φ q c
 .rcases J r q u with⟨rfl,rfl⟩|⟨e,y⟩
  .exact af j k L g c
  .rw[E j r e] at c;exact h.YI j r k L g q y c
 .obtain⟨l,C,I,d,_⟩:=X j r m p A c;exact h.par j r l C I d
 .obtain⟨l,w,d⟩:=P j r k m g c;exact h.Sk j r k l w d
 .obtain⟨k,m,g,d⟩:=h.Qp j ao c;obtain⟨F,H,f⟩:=an j _ k m g d;exact⟨k,F,H,f⟩
 .rcases J r q u with⟨rfl,rfl⟩|⟨e,y⟩
  .exact aj j k m g c Y
  .rw[E j r e] at c;exact h.Si j r k m g q y c Y
 .obtain⟨a,b,B⟩:=P j r k m g d;obtain⟨aq,ar,S⟩:=P Z r k ap g' f;exact h.OE r j Z k a b aq ar B S
 .obtain⟨a,b,B⟩:=P j r k m g d;obtain⟨l,C,I,S,au⟩:=X _ r q p A f;exact au k (h.Pu r j k a b l C I B S)
 .rcases J r q u with⟨rfl,rfl⟩|⟨e,y⟩
  .exact ak
  .simp only[λj=>E j r e];exact h.Sg r q y
 .rcases J r q u with⟨rfl,rfl⟩|⟨e,y⟩
  .exact al
  .simp only[λj=>E j r e];exact h.Q9 r q y
theorem AX {o o':δ} {t t':Tok} (h:Act o t o' t'):Alike t t':=by
 cases h
 case add=>exact .inl ⟨_,_,_,_,_,_,rfl,rfl,λk a=>U⟩
 case thru|FX|wake=>exact .inl ⟨_,_,_,_,_,_,rfl,rfl,λk a=>a⟩
 all_goals exact .inr ⟨_,_,_,_,_,rfl,rfl⟩
theorem FF {o o':δ} {t t':Tok} (h:Act o t o' t'):o'.toSpec=o.toSpec/\o'.L=o.L/\o'.YJ=o.YJ:=by
 cases h<;>exact⟨rfl,rfl,rfl⟩
theorem FE {o o':δ} {t t':Tok} (h:Act o t o' t'):(∀k m g,t'=.ch k m g->∃a b,t=.ch k a b/\(Sl m↔Sl a)/\(g=.work↔b=.work)/\(b≠.work->m=a)/\∀L,m=.YI L->a=.YI L)/\(∀k m g,t=.ch k m g->∃c d,t'=.ch k c d/\(Sl c↔Sl m)/\(d=.work↔g=.work))/\¬Xj t:=by
 refine⟨λk m g e=>?_,λk m g e=>?_,?_⟩
 .cases h<;>cases e<;>exact⟨_,_,rfl,by simp[Sl],J,J,J⟩
 .cases h<;>cases e<;>exact⟨_,_,rfl,by simp[Sl],J⟩
 .cases h<;>simp[Xj]
theorem X0.act (h:X0 n tok spec view rel O Zr home) {s i:Nat} {o o':δ} {t t':Tok} (v:O s=some o) (u:tok i s=t) (y:Act o t o' t') :
  X0 n (Zq tok i s t') spec (upd view i (upd (view i) s (some (X7 n o' (upd (λj=>tok j s) i t'),o')))) rel (upd O s (some o')) Zr home:=by
 obtain⟨K,M,E⟩:=FE y;have D:i<n:=h.lt (s:=s) (by rw[u];rintro rfl;exact E trivial);obtain⟨F,H,N⟩:=FF y;have C:∀j r k m g,Zq tok i s t' j r=.ch k m g->∃f d,tok j r=.ch k f d/\(Sl m↔Sl f)/\(g=.work↔d=.work)/\(d≠.work->m=f)/\∀L,m=.YI L->f=.YI L:=λj r k m g c=>by
  by_cases e:j=i/\r=s
  .obtain⟨rfl,rfl⟩:=e;rw[XG] at c;obtain⟨f,d,l,Φ⟩:=K k m g c;exact⟨f,d,by rw[u,l],Φ⟩
  .rw[XN _ e] at c;exact⟨m,g,c,.rfl,.rfl,λ_=>rfl,λ_ x=>x⟩
 have is:∀j k m g,tok j s=.ch k m g->∃A B,Zq tok i s t' j s=.ch k A B/\(Sl A↔Sl m)/\(B=.work↔g=.work):=λj k m g c=>by
  by_cases e:j=i/\s=s
  .obtain⟨rfl,_⟩:=e;rw[XG];rw[u] at c;exact M k m g c
  .rw[XN _ e];exact⟨m,g,c,.rfl,.rfl⟩
 refine h.change v u (AX y) (⟨A5 (h.Z3 s o v).1 D u y,A4 (h.Z3 s o v).2 D u y⟩) (FV D u y) F (λr φ q hv=>?_) (λj k L g c=>?_) (λj k m g P c=>?_) h.Pv (λj r c I=>?_) (λj k m g c Q=>?_) ?_ ?_
 .by_cases e:r=s
  .subst e;rw[upd_same] at hv;cases hv;exact .inl ⟨rfl,rfl,rfl⟩
  .rw[upd_ne _ _ e] at hv;exact .inr ⟨e,hv⟩
 .obtain⟨f,d,l,_,_,_,Φ⟩:=C j s k _ g c;rw[H];exact h.YI j s k L d o v (by rw[l,Φ L rfl])
 .obtain⟨f,d,l,_,Φ,_⟩:=C j _ k m g c;rw[h.RI j k f d P l];exact not_congr Φ.symm
 .by_cases e:j=i/\r=s
  .obtain⟨rfl,rfl⟩:=e;have:=h.Sj j r c I;rw[u] at this;exact absurd this E
  .rw[XN _ e];exact h.Sj j r c I
 .obtain⟨f,d,l,_,Φ,p,_⟩:=C j s k m g c;have J:d≠.work:=λx=>Q (Φ.2 x);rw[p J];have:=h.Si j s k f d o v l J;rw[show o'.ZO=o.ZO by rw[F]];exact this
 .obtain⟨a,b⟩:=h.Sg s o v;rw[H];refine⟨a,λk=>(b k).trans ⟨λ⟨j,m,g,l,Φ⟩=>?_,λ⟨j,m,g,l,Φ⟩=>?_⟩⟩
  .obtain⟨A,B,p,w,_⟩:=is j k m g l;exact⟨j,A,B,p,w.2 Φ⟩
  .obtain⟨f,d,p,w,_⟩:=C j s k m g l;exact⟨j,f,d,p,w.1 Φ⟩
 .obtain⟨a,b⟩:=h.Q9 s o v;rw[N];refine⟨a,λk=>(b k).trans ⟨λ⟨j,m,g,l,Φ⟩=>?_,λ⟨j,m,g,l,Φ⟩=>?_⟩⟩
  .obtain⟨A,B,p,_,w⟩:=is j k m g l;exact⟨j,A,B,p,λx=>Φ (w.1 x)⟩
  .obtain⟨f,d,p,_,w,_⟩:=C j s k m g l;exact⟨j,f,d,p,λx=>Φ (w.2 x)⟩
theorem X0.look (h:X0 n tok spec view rel O Zr home) {s i:Nat} {o:δ} (d:O s=some o):X0 n tok spec (upd view i (upd (view i) s (some (X7 n o (λj=>tok j s),o)))) rel O Zr home:=
 have f:∀j r φ q,upd view i (upd (view i) s (some (X7 n o (λj=>tok j s),o))) j r=some (φ,q)->∃b,O r=some b/\X7 n b (λj=>tok j r)<=φ/\(X7 n b (λj=>tok j r)=φ->b=q):=λj r φ q a=>by
  by_cases e:j=i
  .subst e;rw[upd_same] at a;by_cases c:r=s
   .subst c;rw[upd_same] at a;cases a;exact⟨o,d,Z1 _,λ_=>rfl⟩
   .rw[upd_ne _ _ c] at a;exact h.OF j r φ q a
  .rw[upd_ne _ _ e] at a;exact h.OF j r φ q a
 {h with OF:=f}
theorem KD {s i:Nat} {r φ:Nat} {q:δ} {o':δ} {z:Nat} (hv:upd (view i) s none r=some (φ,q)):(r=s/\φ=z/\q=o')\/(r≠s/\view i r=some (φ,q)):=by
 by_cases e:r=s
 .subst e;rw[upd_same] at hv;cases hv
 .rw[upd_ne _ _ e] at hv;exact .inr ⟨e,hv⟩
theorem AW {l:List Nat} {k:Nat} (h:l.Nodup) (d:k∉l):(l++[k]).Nodup:=by
 rw[KW];exact⟨h,J,λa e b c=>by simp at c;subst c;rintro rfl;exact d e⟩
theorem X0.Im (h:X0 n tok spec view rel O Zr home) {s i k:Nat} {o:δ} (t:O s=some o) (f:tok i s=.ch k .own .work) :
  X0 n (Zq tok i s (.ch k (.YI o.L) .work)) spec (upd view i (upd (view i) s none)) rel (upd O s (some o)) Zr home:=by
 have v:i<n:=h.lt (s:=s) (by rw[f];simp)
 have w:RL o (.ch k .own .work) o (.ch k (.YI o.L) .work):=.Im
 have p:∀j,j≠i->∀r,Zq tok i s (.ch k (.YI o.L) .work) j r=tok j r:=λj c r=>XN _ λx=>c x.1
 have A:=h.Sk i s k _ _ f;refine h.change t f (.inr ⟨_,_,_,_,_,rfl,rfl⟩) ⟨KL (h.Z3 s o t).1 v f w,KJ (h.Z3 s o t).2 v f w⟩ (KM v f w) rfl (λr φ q hv=>KD hv) (λj l L g c=>?_) (λj l m g B c=>?_) h.Pv (λj r c y=>?_) (λj l m g c C=>?_) ?_ ?_
 .by_cases e:j=i
  .subst e;rw[XG] at c;cases c;rfl
  .rw[p j e] at c;exact h.YI j s l L g o t c
 .by_cases e:j=i
  .subst e;have u:home j=s:=A.2.1;rw[u,XG] at c;cases c;exact h.RI j k .own .work B (by rw[u];exact f)
  .rw[p j e] at c;exact h.RI j l m g B c
 .by_cases e:j=i
  .subst e;have u:home j=s:=A.2.1;rw[XN _ (λx=>y (by rw[x.2,u]))];exact h.Sj j r c y
  .rw[p j e];exact h.Sj j r c y
 .by_cases e:j=i
  .subst e;rw[XG] at c;cases c;exact absurd rfl C
  .rw[p j e] at c;exact h.Si j s l m g o t c C
 .obtain⟨a,b⟩:=h.Sg s o t;refine⟨a,λl=>(b l).trans ⟨λ⟨j,m,g,d,Φ⟩=>?_,λ⟨j,m,g,d,Φ⟩=>?_⟩⟩
  .by_cases e:j=i
   .subst e;rw[f] at d;cases d;exact Φ.elim
   .exact⟨j,m,g,by rw[p j e];exact d,Φ⟩
  .by_cases e:j=i
   .subst e;rw[XG] at d;cases d;exact Φ.elim
   .exact⟨j,m,g,by rw[p j e] at d;exact d,Φ⟩
 .obtain⟨a,b⟩:=h.Q9 s o t;refine⟨a,λl=>(b l).trans ⟨λ⟨j,m,g,d,Φ⟩=>?_,λ⟨j,m,g,d,Φ⟩=>?_⟩⟩
  .by_cases e:j=i
   .subst e;rw[f] at d;cases d;exact absurd rfl Φ
   .exact⟨j,m,g,by rw[p j e];exact d,Φ⟩
  .by_cases e:j=i
   .subst e;rw[XG] at d;cases d;exact absurd rfl Φ
   .exact⟨j,m,g,by rw[p j e] at d;exact d,Φ⟩
theorem X0.AV (h:X0 n tok spec view rel O Zr home) {s i k:Nat} {L:List Nat} {o:δ} (p:O s=some o) (l:tok i s=.ch k (.YI L) .work) :
  X0 n (Zq tok i s (.ch k .fin .work)) spec (upd view i (upd (view i) s none)) rel (upd O s (some {o with L:=o.L++[k]})) Zr home:=by
 have u:i<n:=h.lt (s:=s) (by rw[l];simp)
 have y:RL o (.ch k (.YI L) .work) {o with L:=o.L++[k]} (.ch k .fin .work):=.A7
 have t:∀j,j≠i->∀r,Zq tok i s (.ch k .fin .work) j r=tok j r:=λj d r=>XN _ λx=>d x.1
 have C:=h.Sk i s k _ _ l
 have only:∀j f v g,tok j s=.ch f (.YI v) g->j=i:=λj f v g d=>by
  apply Ts;intro F;have H:j<n:=h.lt (s:=s) (by rw[d];simp);have c:=Xb (λa=>tok a s) .nil Wa u;have Φ:=Xv (upd (λa=>tok a s) i .nil) Wa H;rw[upd_ne _ _ F] at Φ;simp only[l,d,Wa,Mu] at c Φ;have:=(h.Z3 s o p).1.F0;have:=(h.Z3 s o p).1.f1;omega
 have I:k∉o.L:=λA=>by
  obtain⟨j,m,g,c,Φ⟩:=((h.Sg s o p).2 k).1 A;have:=h.OE s j i k m g _ _ c l;subst this;rw[l] at c;cases c;exact Φ
 refine h.change p l (.inr ⟨_,_,_,_,_,rfl,rfl⟩) ⟨KL (h.Z3 s o p).1 u l y,KJ (h.Z3 s o p).2 u l y⟩ (KM u l y) rfl (λr φ q hv=>KD hv) (λj f v g d=>?_) (λj f m g D d=>?_) h.Pv (λj r d B=>?_) (λj f m g d E=>?_) ?_ ?_
 .by_cases e:j=i
  .subst e;rw[XG] at d;cases d
  .rw[t j e] at d;exact absurd (only j f v g d) e
 .by_cases e:j=i
  .subst e;have w:home j=s:=C.2.1;rw[w,XG] at d;cases d;exact h.RI j k (.YI L) .work D (by rw[w];exact l)
  .rw[t j e] at d;exact h.RI j f m g D d
 .by_cases e:j=i
  .subst e;have w:home j=s:=C.2.1;rw[XN _ (λx=>B (by rw[x.2,w]))];exact h.Sj j r d B
  .rw[t j e];exact h.Sj j r d B
 .by_cases e:j=i
  .subst e;rw[XG] at d;cases d;exact absurd rfl E
  .rw[t j e] at d;exact h.Si j s f m g o p d E
 .obtain⟨a,b⟩:=h.Sg s o p;refine⟨AW a I,λf=>?_⟩;rw[WK,List.mem_singleton];constructor
  .rintro(A|rfl)
   .obtain⟨j,m,g,c,Φ⟩:=(b f).1 A;have e:j≠i:=by rintro rfl;rw[l] at c;cases c;exact Φ
    exact⟨j,m,g,by rw[t j e];exact c,Φ⟩
   .exact⟨i,.fin,.work,XG ..,trivial⟩
  .rintro⟨j,m,g,c,Φ⟩;by_cases e:j=i
   .subst e;rw[XG] at c;cases c;exact .inr rfl
   .rw[t j e] at c;exact .inl ((b f).2 ⟨j,m,g,c,Φ⟩)
 .obtain⟨a,b⟩:=h.Q9 s o p;refine⟨a,λf=>(b f).trans ⟨λ⟨j,m,g,c,Φ⟩=>?_,λ⟨j,m,g,c,Φ⟩=>?_⟩⟩
  .by_cases e:j=i
   .subst e;rw[l] at c;cases c;exact absurd rfl Φ
   .exact⟨j,m,g,by rw[t j e];exact c,Φ⟩
  .by_cases e:j=i
   .subst e;rw[XG] at c;cases c;exact absurd rfl Φ
   .exact⟨j,m,g,by rw[t j e] at c;exact c,Φ⟩
theorem X0.AU (h:X0 n tok spec view rel O Zr home) {s i k:Nat} {l:Uw} {o:δ} (t:O s=some o) (f:tok i s=.ch k l .work) (v:l=.done\/(l=.idle/\o.ZO=none)) (F:∀r,r≠s->Xj (tok i r)) :
  X0 n (Zq tok i s (.ch k l .rel)) spec (upd view i (upd (view i) s none)) (upd rel i true) (upd O s (some {o with YJ:=k::o.YJ})) Zr home:=by
 have w:i<n:=h.lt (s:=s) (by rw[f];simp)
 have y:RL o (.ch k l .work) {o with YJ:=k::o.YJ} (.ch k l .rel):=.A6 v
 have u:∀j,j≠i->∀r,Zq tok i s (.ch k l .rel) j r=tok j r:=λj d r=>XN _ λx=>d x.1
 have A:=h.Sk i s k _ _ f
 have H:k∉o.YJ:=λB=>by
  obtain⟨j,m,g,c,Φ⟩:=((h.Q9 s o t).2 k).1 B;have:=h.OE s j i k m g _ _ c f;subst this;rw[f] at c;cases c;exact Φ rfl
 refine h.change t f (.inr ⟨_,_,_,_,_,rfl,rfl⟩) ⟨KL (h.Z3 s o t).1 w f y,KJ (h.Z3 s o t).2 w f y⟩ (KM w f y) rfl (λr φ q hv=>KD hv) (λj p I g d=>?_) (λj p m g K d=>?_) (by rw[upd_ne _ _ (YQ A.1)];exact h.Pv) (λj r d D=>?_) (λj p m g d L=>?_) ?_ ?_
 .by_cases e:j=i
  .subst e;rw[XG] at d;rcases v with rfl|⟨rfl,_⟩<;>cases d
  .rw[u j e] at d;exact h.YI j s p I g o t d
 .by_cases e:j=i
  .subst e;have C:home j=s:=A.2.1;rw[C,XG] at d;cases d;rw[upd_same];simp
  .rw[u j e] at d;rw[upd_ne _ _ e];exact h.RI j p m g K d
 .by_cases e:j=i
  .subst e;have C:home j=s:=A.2.1;have E:r≠s:=λx=>D (by rw[x,C]);rw[XN _ (λx=>E x.2)];exact F r E
  .rw[u j e];rw[upd_ne _ _ e] at d;exact h.Sj j r d D
 .by_cases e:j=i
  .subst e;rw[XG] at d;cases d;exact v
  .rw[u j e] at d;exact h.Si j s p m g o t d L
 .obtain⟨a,b⟩:=h.Sg s o t;refine⟨a,λp=>(b p).trans ⟨λ⟨j,m,g,c,Φ⟩=>?_,λ⟨j,m,g,c,Φ⟩=>?_⟩⟩
  .by_cases e:j=i
   .subst e;rw[f] at c;cases c;exact⟨j,l,.rel,XG ..,Φ⟩
   .exact⟨j,m,g,by rw[u j e];exact c,Φ⟩
  .by_cases e:j=i
   .subst e;rw[XG] at c;cases c;exact⟨j,l,.work,f,Φ⟩
   .exact⟨j,m,g,by rw[u j e] at c;exact c,Φ⟩
 .obtain⟨a,b⟩:=h.Q9 s o t;refine⟨Rg.2 ⟨H,a⟩,λp=>?_⟩;rw[Zm];constructor
  .rintro(rfl|B)
   .exact⟨i,l,.rel,XG ..,J⟩
   .obtain⟨j,m,g,c,Φ⟩:=(b p).1 B;have e:j≠i:=by rintro rfl;rw[f] at c;cases c;exact Φ rfl
    exact⟨j,m,g,by rw[u j e];exact c,Φ⟩
  .rintro⟨j,m,g,c,Φ⟩;by_cases e:j=i
   .subst e;rw[XG] at c;cases c;exact .inl rfl
   .rw[u j e] at c;exact .inr ((b p).2 ⟨j,m,g,c,Φ⟩)
theorem X0.gtake (h:X0 n tok spec view rel O Zr home) {s i q:Nat} {f:Qr} {o:δ} (b:O s=some o) (c:tok i s=.par q 0 f) (t:f=.SW\/f=.w4) :
  X0 n (Zq tok i s (.par q 0 .ZQ)) spec (upd view i (upd (view i) s none)) rel (upd O s (some o)) Zr home:=by
 have l:i<n:=h.lt (s:=s) (by rw[c];simp)
 have p:RL o (.par q 0 f) o (.par q 0 .ZQ):=.gtake t
 have B:∀j,j≠i->∀r,Zq tok i s (.par q 0 .ZQ) j r=tok j r:=λj a r=>XN _ λx=>a x.1
 have cs:∀j r k m g,Zq tok i s (.par q 0 .ZQ) j r=.ch k m g↔tok j r=.ch k m g:=λj r k m g=>by
  by_cases e:j=i/\r=s
  .obtain⟨rfl,rfl⟩:=e;rw[XG,c];simp
  .rw[XN _ e]
 refine h.change b c (.inl ⟨_,_,_,_,_,_,rfl,rfl,λk u=>u⟩) ⟨KL (h.Z3 s o b).1 l c p,KJ (h.Z3 s o b).2 l c p⟩ (KM l c p) rfl (λr φ q hv=>KD hv) (λj d v g a=>?_) (λj d m g w a=>?_) h.Pv (λj r a y=>?_) (λj d m g a A=>?_) ?_ ?_
 .rw[cs] at a;exact h.YI j s d v g o b a
 .rw[cs] at a;exact h.RI j d m g w a
 .by_cases e:j=i/\r=s
  .obtain⟨rfl,rfl⟩:=e;rw[XG];trivial
  .rw[XN _ e];exact h.Sj j r a y
 .rw[cs] at a;exact h.Si j s d m g o b a A
 .simp only[cs];exact h.Sg s o b
 .simp only[cs];exact h.Q9 s o b
end
def T1 (a O':Nat->Option δ):Prop:=(∀s o',O' s=some o'->∃o,a s=some o/\o.toSpec=o'.toSpec)/\∀s o,a s=some o->∃o',O' s=some o'/\o.toSpec=o'.toSpec
theorem T1.upd {b:Nat->Option δ} {s:Nat} {o o':δ} (c:b s=some o) (h:o'.toSpec=o.toSpec):T1 b (Go.ConcN.upd b s (some o')):=by
 refine⟨λr q a=>?_,λr q a=>?_⟩
 .by_cases e:r=s
  .subst e;rw[upd_same] at a;cases a;exact⟨o,c,h.symm⟩
  .rw[upd_ne _ _ e] at a;exact⟨q,a,rfl⟩
 .by_cases e:r=s
  .subst e;rw[c] at a;cases a;exact⟨o',upd_same ..,h.symm⟩
  .exact⟨q,by rw[upd_ne _ _ e];exact a,rfl⟩
section
variable {H:Y5->Ψ} {Z5:Nat->Nat->Option (Array Value×TypeId)} {tok Qo:Nat->Nat->Tok} {O O':Nat->Option δ} {Zr:Nat->Nat} {deaf FD:Nat->Nat} {N Q8:Nat} {t:Trace} {ZA w w':World}
theorem KC {h:Y5} {k:Nat} (c:∀s o',O' s=some o'->∃o,O s=some o/\o.toSpec=o'.toSpec) (d:∀i s,Qo i s≠.nil->tok i s≠.nil) (a:Vj tok O t h k):Vj Qo O' t h k:=by
 cases h with
 | inl i=>exact a
 | inr b=>
  refine a.imp id λh s o e f i hi=>?_;obtain⟨g,j,l⟩:=c s o e;exact h s g j (by rw[l];exact f) i (d i s hi)
theorem VR.AT (h:VR H Z5 tok O Zr deaf N t) (a:T1 O O') (c:∀i s,Qo i s≠.nil->tok i s≠.nil):VR H Z5 Qo O' Zr deaf N t:=
 ⟨h.race,h.low,h.norel,λk=>(h.perms k).mono λ_=>KC a.1 c,h.Sm,λs o b d e=>let ⟨f,g,j⟩:=a.1 s o d;h.cont s f b g (by rw[j];exact e),h.hears⟩
theorem V7.Tm (h:V7 H Z5 O Q8) (e:T1 O O'):V7 H Z5 O' Q8:=
 ⟨h.apart,h.high,h.SR,h.fresh,λs o b a f=>let ⟨g,c,d⟩:=e.1 s o a;h.US s g b c (by rw[d];exact f),
  λs i o o' b a j f k=>let ⟨g,c,d⟩:=e.1 s o a;let ⟨l,n,p⟩:=e.1 i o' j;h.UH s i g l b c n (by rw[d];exact f) (by rw[p];exact k),
  λs o m a r=>let ⟨g,c,d⟩:=e.1 s o a;h.RJ s g m c (by rw[d];exact r),
  λb f=>h.Ya b λs o a hi=>let ⟨o',c,d⟩:=e.2 s o a;f s o' c (by rw[<-d];exact hi)⟩
theorem VR.ext (h:VR H Z5 tok O Zr deaf N t) (K:V7 H Z5 O Q8) (i:Nat) {u:Trace} (P:∀c∈u,c.g=i) (r:∀c∈u,c.act.low N) (S:∀c∈u,∀a,c.act≠.mark (.release a))
  (E:∀c∈u,∀b,c.act.touch?=some b->∃s o f w,O s=some o/\Yb s o.toSpec f/\b.loc=.cell ⟨f,w,none⟩/\(b.kind=.atomic\/(b.kind=.said/\i=Zr s)))
  (hd:∀j,Deaf (t++u) j=FD j):VR H Z5 tok O Zr FD N (t++u):=by
 refine⟨λT=>noRace_append (h.race T) P λk a m c d b D L=>?_,λc d=>(St.1 d).elim (h.low c) (r c),λc d=>(St.1 d).elim (h.norel c) (S c),λk=>?_,λj b v hv k a m l=>?_,λs o b Q D k a m l=>?_,hd⟩
 .obtain⟨s,o,f,w,A,B,n,C⟩:=E c d b D;obtain⟨U,_,_,R⟩:=L;have l:SX a.loc f:=by rw[U,n];rfl
  rcases h.cont s o f A B k a m l with F|⟨F,V⟩
  .exfalso;rcases R with x|x|⟨_,x,_⟩
   .rw[F] at x;cases x
   .rcases C with y|⟨y,_⟩<;>(rw[y] at x;cases x)
   .rw[F] at x;cases x
  .rcases C with y|⟨y,rfl⟩
   .exfalso;rcases R with x|x|⟨_,_,x⟩
    .rw[F] at x;cases x
    .rw[y] at x;cases x
    .rw[y] at x;cases x
   .obtain⟨z,I,_⟩:=touch_of m;have:=knows_own I;have e:z.g=Zr s:=by simpa[Trace.g?,I] using V
    rwa [e] at this
 .have:YH (t++u) (Vj tok O (t++u) k) (H k):=(h.perms k).others (λx W=>Ih _ W) λc d a m=>by
   obtain⟨s,o,f,w,A,B,n,C⟩:=E c d a m;have w:=(K.US s o f A B).2.1 k;refine⟨λb o' v p r L=>?_,λb r D=>?_⟩
   .rw[n] at r;cases r;exact absurd ⟨_,L⟩ (w.1 _)
   .rw[n] at r;cases r
  exact this
 .rcases Tl m with J|⟨_,c,d,_,M⟩
  .exact h.Sm j b v hv k a J l
  .obtain⟨s,o,f,w,A,B,n,C⟩:=E c d a M;rw[n] at l;simp only[SX] at l;subst l;rw[(K.US s o f A B).2.2 j] at hv;cases hv
 .rcases Tl m with J|⟨_,c,d,X,M⟩
  .rcases h.cont s o b Q D k a J l with x|⟨x,Y⟩
   .exact .inl x
   .obtain⟨z,I,_⟩:=touch_of J;exact .inr ⟨x,by rw[g?_old (lt_size_of_getElem? I)];exact Y⟩
  .obtain⟨Z,o',f,w,A,B,n,C⟩:=E c d a M;rw[n] at l;simp only[SX] at l;subst l;have es:=K.UH s Z o o' f Q A D B;subst es;rcases C with x|⟨x,y⟩
   .exact .inl x
   .exact .inr ⟨x,by simp[Trace.g?,X,P c d,y]⟩
theorem YH.sub {e:Nat->Prop} {G G':Ψ} (h:YH t e G) (f:Sub G' G):YH t e G':=
 ⟨λb o v p g i a c d j=>let ⟨k,l,m⟩:=f.κ b o v p g;h.κ b o v k l i a c d (j.imp m id),λb ⟨x,n⟩ i a c d=>h.obj b ⟨x,f.obj b x n⟩ i a c d⟩
theorem YH.join {g:Nat->Prop} {G E:Ψ} (h:YH t g G) (k:YH t g E):YH t g (Go.TL.join G E):=by
 refine⟨λb o v p d i a e f l=>?_,λb m i a e f=>?_⟩
 .simp only[Go.TL.join] at d;cases c:G.κ b o with
  | none=>rw[c] at d;exact k.κ b o v p d i a e f l
  | some y=>rw[c] at d;cases d;exact h.κ b o v p c i a e f l
 .obtain⟨x,j⟩:=m;simp only[Go.TL.join] at j;cases c:G.obj b with
  | none=>rw[c] at j;exact k.obj b ⟨x,j⟩ i a e f
  | some y=>exact h.obj b ⟨y,c⟩ i a e f
theorem YH.empty {a:Nat->Prop}:YH t a Ψ.empty:=⟨λ_ _ _ _ h=>(by cases h),λ_ ⟨_,h⟩=>(by cases h)⟩
theorem YH.release {i b:Nat} {G:Ψ} {y:MemOp} (h:YH t (Knows t i) G) (f:y.g=i) (j:y.act=.mark (.releaseMerge ⟨b,0,none⟩)) (hd:Deaf t i=0):YH (t++#[y]) (Vj tok O (t++#[y]) (.inr b)) G:=by
 have l:(t++#[y])[t.size]?=some y:=J
 have s:(t++#[y]).heard t.size:=⟨i,by simp[Trace.g?,f],by rw[deaf_old (Z1 _)];exact hd⟩
 have m:∀k,Knows t i k->Vj tok O (t++#[y]) (.inr b) k:=λk u=>.inl ⟨t.size,y,l,j,s,.inr (u.hb_new (Z1 _) l f)⟩
 have nt:∀k a,touchAt (t++#[y]) k=some a->touchAt t k=some a:=λk a c=>by
  rcases Tl c with w|⟨_,C,n,_,r⟩
  .exact w
  .simp at n;subst n;rw[j] at r;simp[MemAct.touch?] at r
 exact⟨λd o v p x k a c e A=>m k (h.κ d o v p x k a (nt k a c) e A),λd B k a c e=>m k (h.obj d B k a (nt k a c) e)⟩
theorem YH.acquire {i b s:Nat} {o:δ} {E:Ψ} {y:MemOp} (h:YH t (Vj tok O t (.inr b)) E) (D:∀e∈t,∀a,e.act≠.mark (.release a)) (F:O s=some o) (f:Yb s o.toSpec b) (hi:tok i s≠.nil)
  (r:y.g=i) (u:y.act=.mark (.acquire ⟨b,0,none⟩)) (hd:Deaf t i=0):YH (t++#[y]) (Knows (t++#[y]) i) E:=by
 have w:(t++#[y])[t.size]?=some y:=J
 have H:(t++#[y]).heard t.size:=⟨i,by simp[Trace.g?,r],by rw[deaf_old (Z1 _)];exact hd⟩
 have x:∀k,Vj tok O t (.inr b) k->Knows (t++#[y]) i k:=λk j=>by
  rcases j with⟨p,e,A,I,K,L⟩|j
  .have l:=lt_size_of_getElem? A;refine⟨t.size,y,w,r,.inr ((L.app #[y]).hb (.single (.inr ⟨.marked (a:=⟨b,0,none⟩) l (.inr ?_) ?_ ?_,(heard_old l).2 K,H⟩)))⟩
   .rw[act?_old l,act?_of A,I]
   .rw[act?_of w,u]
   .intro T U M B;rw[act?_old M] at B;obtain⟨N,P,d⟩:=Tp.1 B;exact D N (mem_of_getElem? P) _ d
  .exact(j s o F f i hi).app _
 have nt:∀k a,touchAt (t++#[y]) k=some a->touchAt t k=some a:=λk a c=>by
  rcases Tl c with Q|⟨_,e,C,_,d⟩
  .exact Q
  .simp at C;subst C;rw[u] at d;simp[MemAct.touch?] at d
 exact⟨λm o v p R k a c n S=>x k (h.κ m o v p R k a (nt k a c) n S),λm f k a c n=>x k (h.obj m f k a (nt k a c) n)⟩
theorem Knows.spawn {i j k:Nat} {y z:MemOp} (h:Knows t i k) (c:y.g=i) (d:y.act=.go j) (a:z.g=j) (f:z.act=.start) (hd:Deaf t i=0) (l:Deaf t j=0):Knows (t++#[y,z]) j k:=by
 have b:(t++#[y,z])[t.size]?=some y:=J
 have e:(t++#[y,z])[t.size+1]?=some z:=J
 have d1:(t++#[y,z]).heard t.size:=⟨i,by simp[Trace.g?,c],by rw[deaf_old (Z1 _)];exact hd⟩
 have d2:(t++#[y,z]).heard (t.size+1):=⟨j,by simp[Trace.g?,a],by
  rw[deaf_succ b];have:deafStep j ((t++#[y,z]).deaf j t.size) y=(t++#[y,z]).deaf j t.size:=by simp[deafStep,d]
  rw[this,deaf_old (Z1 _)];exact l⟩
 have m:=h.hb_new (u:=#[y,z]) (Z1 _) b c
 have Φ:HappensBefore (t++#[y,z]) t.size (t.size+1):=.single (.inr ⟨.spawn (child:=j) (by rw[act?_of b,d]) (by rw[act?_of e,f]) (by simp[Trace.g?,a]),d1,d2⟩);exact⟨t.size+1,z,e,a,.inr (m.trans Φ)⟩
theorem Sub.refl (G:Ψ):Sub G G:=⟨λ_ _ _ p h=>⟨p,h,id⟩,λ_ _ h=>h,λ_ _ h=>h⟩
theorem Sub.owns {G G':Ψ} (h:Sub G' G) {b o:Nat} (x:G'.owns b o):G.owns b o:=let ⟨v,hv⟩:=x;let ⟨p,a,c⟩:=h.κ b o v true hv;⟨v,by rw[a,c rfl]⟩
theorem Sub.has {G G':Ψ} (h:Sub G' G) {b o:Nat} (x:G'.has b o):G.has b o:=let ⟨v,hv⟩:=x;let ⟨p,a,_⟩:=h.κ b o v.1 v.2 hv;⟨_,a⟩
theorem Sub.XH {G G':Ψ} (h:Sub G' G) {b:Nat} (x:G'.XH b):G.XH b:=let ⟨v,hv⟩:=x;⟨v,h.obj b v hv⟩
theorem Sub.off {G G':Ψ} (h:Sub G' G) {b:Nat} (x:G.off b):G'.off b:=⟨λo a=>x.1 o (h.has a),λa=>x.2 (h.XH a)⟩
theorem Sub.fits {G G':Ψ} (h:Sub G' G) (x:Fits G w):Fits G' w:=⟨λb o v p a=>let ⟨c,d,_⟩:=h.κ b o v p a;x.κ b o v c d,λb t n e=>x.row b t n (h.row b _ e),λb v hv=>x.obj b v (h.obj b v hv)⟩
theorem Apart.symm {A B:Ψ} (h:Apart A B):Apart B A:=⟨h.Rf,h.κ,λb a c=>h.obj b c a⟩
theorem Apart.sub {A B d B':Ψ} (h:Apart A B) (a:Sub d A) (c:Sub B' B):Apart d B':=
 ⟨λb o x y=>h.κ b o (a.owns x) (c.has y),λb o x y=>h.Rf b o (c.owns x) (a.has y),λb x y=>h.obj b (a.XH x) (c.XH y)⟩
theorem Apart.Pt (A:Ψ):Apart A Ψ.empty:=⟨λ_ _ _ ⟨_,h⟩=>(by cases h),λ_ _ ⟨_,h⟩=>(by cases h),λ_ _ ⟨_,h⟩=>(by cases h)⟩
theorem Ic {G E:Ψ} {b o:Nat} (h:(join G E).owns b o):G.owns b o\/E.owns b o:=by
 obtain⟨v,hv⟩:=h;simp only[join] at hv;cases a:G.κ b o with
 | none=>rw[a] at hv;exact .inr ⟨v,hv⟩
 | some y=>rw[a] at hv;cases hv;exact .inl ⟨v,a⟩
theorem FC {G E:Ψ} {b o:Nat} (h:(join G E).has b o):G.has b o\/E.has b o:=by
 obtain⟨v,hv⟩:=h;simp only[join] at hv;cases a:G.κ b o with
 | none=>rw[a] at hv;exact .inr ⟨v,hv⟩
 | some y=>exact .inl ⟨y,a⟩
theorem KB {G E:Ψ} {b:Nat} (h:(join G E).XH b):G.XH b\/E.XH b:=by
 obtain⟨v,hv⟩:=h;simp only[join] at hv;cases a:G.obj b with
 | none=>rw[a] at hv;exact .inr ⟨v,hv⟩
 | some y=>exact .inl ⟨y,a⟩
theorem AS {G E:Ψ} {b:Nat} (h:G.off b) (k:E.off b):(join G E).off b:=⟨λo a=>(FC a).elim (h.1 o) (k.1 o),λa=>(KB a).elim h.2 k.2⟩
theorem Mm {G E:Ψ} (h:Fits G w) (k:Fits E w):Fits (join G E) w:=by
 refine⟨λb o v p c=>?_,λb t n d=>?_,λb v hv=>?_⟩
 .simp only[join] at c;cases a:G.κ b o with
  | none=>rw[a] at c;exact k.κ b o v p c
  | some y=>rw[a] at c;cases c;exact h.κ b o v p a
 .simp only[join] at d;cases a:G.row b with
  | none=>rw[a] at d;exact k.row b t n d
  | some y=>rw[a] at d;cases d;exact h.row b t n a
 .simp only[join] at hv;cases a:G.obj b with
  | none=>rw[a] at hv;exact k.obj b v hv
  | some y=>rw[a] at hv;cases hv;exact h.obj b v a
theorem Apart.Q7 {A B C:Ψ} (h:Apart A C) (k:Apart B C):Apart (join A B) C:=
 ⟨λb o x y=>(Ic x).elim (λz=>h.κ b o z y) (λz=>k.κ b o z y),λb o x y=>(FC y).elim (λz=>h.Rf b o x z) (λz=>k.Rf b o x z),λb x y=>(KB x).elim (λz=>h.obj b z y) (λz=>k.obj b z y)⟩
theorem OD (w:World):Fits Ψ.empty w:=⟨λ_ _ _ _ h=>(by cases h),λ_ _ _ h=>(by cases h),λ_ _ h=>(by cases h)⟩
theorem V7.two (h:V7 H Z5 O Q8) {a b:Y5} (S:a≠b) {A B:Ψ} (w:Sub A (join (H a) (H b))) (y:Sub B (join (H a) (H b))) (N:Apart A B)
  (I:T1 O O') (P:∀x,b=.inr x\/a=.inr x->∃s o,O s=some o/\Yb s o.toSpec x):V7 (Zy (Zy H a A) b B) Z5 O' Q8:=by
 have E:=h.Tm I
 have n:Zy (Zy H a A) b B a=A:=by rw[Zx _ _ S,Yu]
 have r:Zy (Zy H a A) b B b=B:=Yu _ _ _
 have j:∀k,k≠a->k≠b->Zy (Zy H a A) b B k=H k:=λk d f=>by rw[Zx _ _ f,Zx _ _ d]
 have F:∀k,k≠a->k≠b->Apart (join (H a) (H b)) (H k):=λk d f=>(h.apart a k (YQ d)).Q7 (h.apart b k (YQ f))
 have Q:∀x,(∀k,(H k).off x)->(join (H a) (H b)).off x:=λx g=>AS (g a) (g b)
 have J:∀{p:Y5->Prop},p a->p b->(∀k,k≠a->k≠b->p k)->∀k,p k:=λl m T k=>by
  by_cases d:k=a
  .rw[d];exact l
  .by_cases f:k=b
   .rw[f];exact m
   .exact T k d f
 have R:∀x,(∀k,(H k).off x)->∀k,(Zy (Zy H a A) b B k).off x:=λx g=>J (by rw[n];exact w.off (Q x g)) (by rw[r];exact y.off (Q x g)) (λk d f=>by rw[j k d f];exact g k);refine⟨λp q C=>?_,?_,?_,λi x v hv=>?_,λs o x D g=>?_,E.UH,E.RJ,λx g=>?_⟩
 .by_cases l:p=a
  .subst l;by_cases t:q=b
   .subst t;rw[n,r];exact N
   .rw[n,j q (YQ C) t];exact(F q (YQ C) t).sub w (Sub.refl _)
  .by_cases m:p=b
   .subst m;by_cases u:q=a
    .subst u;rw[n,r];exact N.symm
    .rw[r,j q u (YQ C)];exact(F q u (YQ C)).sub y (Sub.refl _)
   .by_cases u:q=a
    .subst u;rw[n,j p l m];exact((F p l m).sub w (Sub.refl _)).symm
    .by_cases t:q=b
     .subst t;rw[r,j p l m];exact((F p l m).sub y (Sub.refl _)).symm
     .rw[j p l m,j q u t];exact h.apart p q C
 .exact J (λx o c=>by rw[n] at c;exact(Ic (w.owns c)).elim (h.high _ _ _) (h.high _ _ _)) (λx o c=>by rw[r] at c;exact(Ic (y.owns c)).elim (h.high _ _ _) (h.high _ _ _)) (λk d f x o c=>by rw[j k d f] at c;exact h.high _ _ _ c)
 .exact J (λx c=>by rw[n] at c;exact(KB (w.XH c)).elim (h.SR _ _) (h.SR _ _)) (λx c=>by rw[r] at c;exact(KB (y.XH c)).elim (h.SR _ _) (h.SR _ _)) (λk d f x c=>by rw[j k d f] at c;exact h.SR _ _ c)
 .obtain⟨K,L,M⟩:=h.fresh i x v hv;exact⟨K,R x L,M⟩
 .obtain⟨K,L,M⟩:=E.US s o x D g;exact⟨K,R x L,M⟩
 .have U:(.inr x:Y5)≠b:=λe=>by
   obtain⟨s,o,D,hi⟩:=P x (.inl e.symm);obtain⟨o',d,f⟩:=I.2 s o D;exact g s o' d (by rw[<-f];exact hi)
  have V:(.inr x:Y5)≠a:=λe=>by
   obtain⟨s,o,D,hi⟩:=P x (.inr e.symm);obtain⟨o',d,f⟩:=I.2 s o D;exact g s o' d (by rw[<-f];exact hi)
  rw[j _ V U];exact E.Ya x g
theorem Sub.Q7 {G E A:Ψ} (h:Sub A G):Sub A (join G E):=
 ⟨λb o v p c=>let ⟨d,e,f⟩:=h.κ b o v p c;⟨d,by simp[join,e],f⟩,λb x a=>by simp[join,h.row b x a],λb x a=>by simp[join,h.obj b x a]⟩
theorem WS.two (h:WS H Z5 O ZA w) {a b:Y5} {A B:Ψ} (e:Fits A w) (f:Fits B w) (g:∀s o',O' s=some o'->At s o' w):WS (Zy (Zy H a A) b B) Z5 O' ZA w:=by
 refine⟨λk=>?_,h.T2,g,h.keep⟩;by_cases c:k=b
 .subst c;rw[Yu];exact f
 .rw[Zx _ _ c];by_cases d:k=a
  .subst d;rw[Yu];exact e
  .rw[Zx _ _ d];exact h.fit k
theorem WS.atom (h:WS H Z5 O ZA w) (u:V7 H Z5 O Q8) (Q:ZA.heap.size=Q8) {s:Nat} {o o':δ} (v:O s=some o) (R:o'.toSpec=o.toSpec) (d:Xr (λb _=>Yb s o.toSpec b) (λ_=>False) w w') (E:At s o' w') :
  WS H Z5 (Go.ConcN.upd O s (some o')) ZA w':=by
 refine⟨λk=>(h.fit k).keeps d (λb f a=>((u.US s o b v a).2.1 k).1 f) (λb a=>a.elim),λj b c t a=>?_,λr q n=>?_,?_⟩
 .obtain⟨c',g,p,i⟩:=d.cells b c t _ (h.T2 j b c t a);have:c'=c:=by
   apply NP;intro f;exact i f λA=>by rw[(u.US s o b v A).2.2 j] at a;cases a
  rw[g,this]
 .by_cases e:r=s
  .subst e;rw[upd_same] at n;cases n;exact E
  .rw[upd_ne _ _ e] at n;have B:∀b c t,Yb r q.toSpec b->w.heap[b]?=some (.cells c t (0,0))->w'.heap[b]?=some (.cells c t (0,0)):=λb c t a F=>by
    obtain⟨c',g,p,i⟩:=d.cells b c t _ F;have:c'=c:=by
     apply NP;intro f;exact i f λA=>e (u.UH r s q o b n v a A)
    rw[g,this]
   obtain⟨⟨I,g⟩,p⟩:=h.Xp r q n;exact⟨⟨I,B _ _ _ (.inl rfl) g⟩,λm C=>let ⟨J,i⟩:=p m C;⟨J,B _ _ _ (.inr C) i⟩⟩
 .have l:=h.keep;refine⟨X1 l.size d.size,λb c t D a=>?_,λb x a y _=>d.Tm b x (l.Tm b x a y id) y id,l.os.trans d.os,d.output.trans l.output,d.tape.trans l.tape⟩;obtain⟨K,g,p,i⟩:=l.cells b c t D a;obtain⟨L,M,N,P⟩:=d.cells b K t D g;refine⟨L,M,by rw[N,p],λf _=>?_⟩;rw[P f λy=>?_,i f id];have:=(u.US s o b v y).1;have:=Xq a;omega
end
structure NK (H:Y5->Ψ) (tok:Nat->Nat->Tok) (a:Nat->Option δ):Prop where
 RH:∀s o m,a s=some o->o.ZO=some m->(∀i q p,tok i s≠.par q p .ZQ)->(∀i k L g,tok i s≠.ch k (.YI L) g)->o.XV o.L (H (.inr m))
 Sf:∀s o,a s=some o->(∀i q p,tok i s≠.par q p .ZQ)->Ur o.D o.YJ (H (.inr s))
structure OC (n:Nat) (tok:Nat->Nat->Tok) (d:Nat->Bool) (c a b:Nat->Nat) (t:Trace):Prop where
 Q6:∀k g,t.g? k=some g->g<n
 c1:∀i,i≠0->d i=true->∃e,t[b i]?=some e/\e.g=i/\e.act=.mark (.releaseMerge ⟨a i,0,none⟩)/\t.heard (b i)/\∀k,t.g? k=some i->t.counts k->Before t k (b i)
 c2:∀i,i≠0->d i=true->(∃q p,tok (c (a i)) (a i)=.par q p .ZQ)->Knows t (c (a i)) (b i)
 c3:∀i,i≠0->d i=true->c (a i)≠0->d (c (a i))=true->Before t (b i) (b (c (a i)))
structure NJ (c:Nat->Nat->Option (Array Value×TypeId)) (tok:Nat->Nat->Tok) (d:Nat->Option δ) (e:Nat->Bool) (f:Nat->Nat) (t:Trace):Prop where
 OB:∀s o m,d s=some o->o.ZO=some m->∀p a,t[p]?=some a->a.act=.mark (.releaseMerge ⟨m,0,none⟩)->(∃k h g,tok a.g s=.ch k h g)/\(e a.g=true->Before t p (f a.g))
 OA:∀i b v,c i b=some v->∀a∈t,a.act≠.mark (.releaseMerge ⟨b,0,none⟩)
def Rec (P:Program) (b:Value->Prop) (c:YO) (i:Nat) (g:Goroutine):Prop:=
 ∃Tg,Vk P b (c.T i) (i==0) Tg (c.x i)/\(g=Tg\/(VS Tg/\g={Tg with status:=.blocked}/\∃s o,c.O s=some o/\U3 o (c.tok i s)/\∀a,a≠s->Ti (c.tok i a)))
structure Inv (P:Program) (d:Value->Prop) (b:World) (c:YO) (a:Array Goroutine) (w:World) (t:Trace):Prop where
 pos:0<a.size
 mem:WS c.H c.Z5 c.O b w
 hold:V7 c.H c.Z5 c.O b.heap.size
 Zv:VR c.H c.Z5 c.tok c.O c.Zr c.deaf w.heap.size t
 Y':X0 a.size c.tok c.spec c.view c.rel c.O c.Zr c.home
 Ya:NK c.H c.tok c.O
 Yg:OC a.size c.tok c.rel c.Zr c.home c.XO t
 WR:NJ c.Z5 c.tok c.O c.rel c.XO t
 Oz:∀i g,a[i]?=some g->Rec P d c i g
theorem Ml {t u:Trace} {k:Nat} (h:k<t.size):(t++u).counts k↔t.counts k:=by
 unfold Trace.counts;rw[act?_old h,heard_old h]
theorem OC.app {n:Nat} {tok l:Nat->Nat->Tok} {m:Nat->Bool} {y A B:Nat->Nat} {t u:Trace} (h:OC n tok m y A B t) {i:Nat} (hi:i<n) (C:∀b∈u,b.g=i)
  (F:m i=true->∀k,t.size<=k->¬(t++u).counts k) (Q:∀s q p,(∃j,l j s=.par q p .ZQ)->∃j,tok j s=.par q p .ZQ) (H:∀j s q p,l j s=.par q p .ZQ->tok j s=.par q p .ZQ):OC n l m y A B (t++u):=by
 refine⟨λk g o=>?_,λj c a=>?_,λj c a I=>?_,λj c a f r=>(h.c3 j c a f r).app u⟩
 .obtain⟨b,v,d⟩:=Tp.1 o;rcases getElem?_append_cases v with⟨_,w⟩|⟨_,x⟩
  .exact h.Q6 k g (by simp[Trace.g?,w,d])
  .rw[<-d,C b x];exact hi
 .obtain⟨b,f,r,J,K,L⟩:=h.c1 j c a;have D:=lt_size_of_getElem? f;refine⟨b,by rw[getElem?_append_old D];exact f,r,J,(heard_old D).2 K,λk o E=>?_⟩;obtain⟨M,v,d⟩:=Tp.1 o;rcases getElem?_append_cases v with⟨N,w⟩|⟨O,x⟩
  .exact(L k (by simp[Trace.g?,w,d]) ((Ml N).1 E)).app u
  .have e:j=i:=by rw[<-d,C M x]
   subst e;exact absurd E (F a k O)
 .obtain⟨q,p,P⟩:=I;exact(h.c2 j c a ⟨q,p,H _ _ _ _ P⟩).app u
section
variable {P:Program} {Q:Value->Prop} {ZA:World} {c:YO} {gs:Array Goroutine} {w:World} {t:Trace}
theorem Inv.stat (h:Inv P Q ZA c gs w t) {i:Nat} {g:Goroutine} (m:gs[i]?=some g):g.status=.running\/(i≠0/\g.status=.finished/\c.rel i=true/\∀s,Gone (c.tok i s))\/(g.status=.blocked/\∃s o,c.O s=some o/\U3 o (c.tok i s)/\∀k,k≠s->Ti (c.tok i k)):=by
 obtain⟨r,d,n⟩:=h.Oz i g m;rcases n with rfl|⟨_,rfl,p⟩
 .cases l:c.T i with
  | leaf=>
   rw[l] at d;rcases d.2 with⟨_,a⟩|⟨e,a,b,j,_⟩
   .exact .inl a.1.1
   .exact .inr (.inl ⟨by rintro rfl;simp at e,j,a,b⟩)
  | node f=>
   rw[l] at d;rcases d.2 with(⟨_,a⟩|⟨e,a,b,j,_⟩)|a
   .exact .inl a.1.1
   .exact .inr (.inl ⟨by rintro rfl;simp at e,j,a,b⟩)
   .rcases a with⟨_,b,_⟩|⟨b,_⟩
    .exact .inl b
    .exact .inl b.1
 .exact .inr (.inr ⟨rfl,p⟩)
theorem AR {t:Tok} (h:So t):∃k m g,t=.ch k m g/\¬Ti t/\(∀o,¬U3 o t)/\m≠.done/\m≠.idle:=by
 cases t with
 | nil=>exact h.elim
 | par=>exact h.elim
 | ch k m g=>
  refine⟨k,m,g,rfl,?_⟩;cases m with
  | act b=>cases b<;>first|exact h.elim|simp[Ti,U3]
  | _=>first|exact h.elim|simp[Ti,U3]
theorem Inv.awake (h:Inv P Q ZA c gs w t):∃(i:Nat) (g:Goroutine),gs[i]?=some g/\g.status=.running:=by
 apply Ts;intro M;have F:∀i,i<gs.size->(c.rel i=true/\∀s,Gone (c.tok i s))\/∃s o,c.O s=some o/\U3 o (c.tok i s)/\∀b,b≠s->Ti (c.tok i b):=λi hi=>by
  have C:gs[i]?=some gs[i]:=XI hi;rcases h.stat C with f|⟨_,_,f⟩|⟨_,f⟩
  .exact absurd ⟨i,_,C,f⟩ M
  .exact .inl f
  .exact .inr f
 have N:∀i s o n p,c.O s=some o->c.tok i s=.par n p .w3->o.YU=0->∃j b o' y A,i<j/\j<gs.size/\c.O b=some o'/\c.tok j b=.par y A .w3/\o'.YU=0:=λi s o n p u B H=>by
  have R:i<gs.size:=h.Y'.lt (s:=s) (by rw[B];simp);obtain⟨j,I,S⟩:=A0 (h.Y'.Z3 s o u).2 (i:=i) R B H;have x:Ra (c.tok j s):=S;have T:∃k m g,c.tok j s=.ch k m g/\g≠.gone:=by
   cases v:c.tok j s with
   | nil=>rw[v] at x;exact x.elim
   | par=>rw[v] at x;exact x.elim
   | ch k m g=>rw[v] at x;exact⟨k,m,g,rfl,by rintro rfl;exact x⟩
  obtain⟨k,m,g,v,C⟩:=T;obtain⟨_,V,au⟩:=h.Y'.Sk j s k m g v;have hi:=h.Y'.par i s n p _ B;rcases F j I with⟨_,f⟩|⟨b,o',J,l,av⟩
  .have:=f s;rw[v] at this;cases g<;>first|exact absurd rfl C|exact this.elim
  .by_cases e:b=s
   .subst e;rw[u] at J;cases J;rw[v] at l;have W:m=.q/\o.YD=0:=by cases m<;>simp_all [U3]
    obtain⟨rfl,X⟩:=W;have Y:0<ZS gs.size (λa=>c.tok a b) Uv:=by
     have:=Xv (λa=>c.tok a b) Uv I;simp only[v,Uv,Mt] at this;omega
    obtain⟨a,Z,aa⟩:=A1 (h.Y'.Z3 b o u).1 Y X;obtain⟨D,E,g',ab,ad,ae,af,ag⟩:=AR aa;have K:c.tok a b=.ch D E g':=ab;exfalso;rcases F a Z with⟨_,f⟩|⟨ah,aw,ax,ai,aj⟩
    .have L:=f b;rw[K] at L;have:g'≠.work:=by rintro rfl;exact L
     rcases h.Y'.Si a b D E g' o u K this with e|⟨e,_⟩
     .exact af e
     .exact ag e
    .by_cases Φ:ah=b
     .subst Φ;exact ae _ ai
     .exact ad (aj b (YQ Φ))
   .cases r:c.tok j b with
    | nil=>rw[r] at l;exact l.elim
    | ch D E g'=>exact absurd ((h.Y'.Sk j b D E g' r).2.1.symm.trans V) e
    | par y A ak=>
     rw[r] at l;cases ak<;>first|exact l.elim|exact⟨j,b,o',y,A,U,I,J,r,l⟩
 have al:∀d i s o n p,gs.size-i=d->i<gs.size->c.O s=some o->c.tok i s=.par n p .w3->o.YU=0->False:=λd=>by
  induction d using Nat.strongRecOn with
  | _ d am=>
   intro i s o n p hd hi u B H;obtain⟨j,b,o',y,A,f,an,ao,ap,aq⟩:=N i s o n p u B H;exact am (gs.size-j) U j b o' y A rfl an ao ap aq
 rcases F 0 h.pos with⟨f,_⟩|⟨s,o,u,l,_⟩
 .rw[h.Y'.Pv] at f;cases f
 .cases r:c.tok 0 s with
  | nil=>rw[r] at l;exact l.elim
  | ch k m g=>exact(h.Y'.Sk 0 s k m g r).1 rfl
  | par n p ar=>
   rw[r] at l;cases ar<;>first|exact l.elim|exact al _ 0 s o n p rfl h.pos u r l
theorem Rec.woken {c':YO} {i j:Nat} {g g' b:Goroutine} {w':World} (h:Rec P Q c j b) (k:c'.x j=c.x j) (l:c'.T j=c.T j)
  (hw:(mayWake P g=true/\VS g')\/∀s o,c.O s=some o->U3 o (c.tok j s)->∃o',c'.O s=some o'/\U3 o' (c.tok j s)):Rec P Q c' j (Go.Conc.woken P g g' w' b):=by
 have r:c'.tok j=c.tok j:=congrArg ZZ.tok k;obtain⟨m,d,A⟩:=h;rcases A with rfl|⟨t,rfl,s,o,n,B,C⟩
 .have n:b.status=.running\/b.status=.finished:=by
   cases u:c.T j with
   | leaf=>
    rw[u] at d;rcases d.2 with⟨_,a⟩|⟨_,_,_,p,_⟩
    .exact .inl a.1.1
    .exact .inr p
   | node f=>
    rw[u] at d;rcases d.2 with(⟨_,a⟩|⟨_,_,_,p,_⟩)|a
    .exact .inl a.1.1
    .exact .inr p
    .rcases a with⟨_,e,_⟩|⟨e,_⟩
     .exact .inl e
     .exact .inl e.1
  have:Go.Conc.woken P g g' w' b=b:=by
   unfold Go.Conc.woken;split
   .exact again_running _ n
   .rfl
  rw[this];exact⟨b,by rw[k,l];exact d,.inl rfl⟩
 .unfold Go.Conc.woken;split
  .rename_i v;refine⟨m,by rw[k,l];exact d,.inl ?_⟩;obtain⟨w,y⟩:=t;obtain⟨π,ZQ,st,D,of⟩:=m;simp only at w y;subst w y;rfl
  .rename_i v;rcases hw with⟨a,e⟩|hw
   .exfalso;apply v;simp[a,e.1]
   .obtain⟨o',a,e⟩:=hw s o n B;exact⟨m,by rw[k,l];exact d,.inr ⟨t,rfl,s,o',a,by rw[r];exact e,by rw[r];exact C⟩⟩
end
section
variable {P:Program} {Q:Value->Prop} {ZA:World} {c:YO} {gs:Array Goroutine} {w:World} {t:Trace}
theorem Inv.at (h:Inv P Q ZA c gs w t) (d:Nat):Inv P Q ZA c gs (w.at d) t:=⟨h.pos,h.mem.at d,h.hold,h.Zv,h.Y',h.Ya,h.Yg,h.WR,h.Oz⟩
theorem Inv.gone (h:Inv P Q ZA c gs w t) (F:∀s,Xj (c.tok 0 s)):∀j,j≠0->j<gs.size->c.rel j=true/\(∀s,Gone (c.tok j s))/\Knows t 0 (c.XO j):=by
 have H:∀t:Tok,Xj t->Gone t:=λt d=>by cases t with
  | nil=>trivial
  | par _ _ b=>cases b<;>first|exact d.elim|trivial
  | ch=>exact d.elim
 intro j
 induction j using Nat.strongRecOn with
 | _ j I=>
  intro i l;obtain⟨k,m,g,d⟩:=h.Y'.Qp j i l;obtain⟨_,_,K⟩:=h.Y'.Sk j _ k m g d;cases A:c.O (c.home j) with
  | none=>have:=h.Y'.bare _ A j;rw[d] at this;cases this
  | some o=>
  have n:=h.Y'.Z3 _ o A;obtain⟨u,B,C⟩:=KI (φ:=XU) (N:=gs.size) (τ:=λa=>c.tok a (c.home j)) (by rw[n.2.SS];exact Nat.one_pos);have L:∃q p b,c.tok u (c.home j)=.par q p b:=by
   cases f:c.tok u (c.home j) with
   | par q p b=>exact⟨q,p,b,rfl⟩
   | nil=>simp[f,XU] at C
   | ch=>simp[f,XU] at C
  obtain⟨q,p,b,f⟩:=L;have M:=h.Y'.par u _ q p b f;subst M;have R:b=.ZQ/\(c.Zr (c.home j)≠0->c.rel (c.Zr (c.home j))=true/\Knows t 0 (c.XO (c.Zr (c.home j)))):=by
   by_cases e:c.Zr (c.home j)=0
   .have:=F (c.home j);rw[<-e,f] at this;refine⟨by cases b<;>first|exact this.elim|rfl,λx=>absurd e x⟩
   .obtain⟨v,y,S⟩:=I _ K e B;have:=y (c.home j);rw[f] at this;exact⟨by cases b<;>first|exact this.elim|rfl,λ_=>⟨v,S⟩⟩
  obtain⟨rfl,T⟩:=R;have U:ZS gs.size (λa=>c.tok a (c.home j)) V8=1:=by
   rw[RK (φ:=V8) (λt d=>by cases t<;>simp_all [XU,V8]) n.2.SS B (by rw[f];rfl),f];rfl
  obtain⟨f1,f2,f3,f4,f5,f6⟩:=n.2.FY U;have W:=n.2.Io;have l1:=Xv (λa=>c.tok a (c.home j)) Vz l;have l2:=Xv (λa=>c.tok a (c.home j)) U5 l;have D:=Xv (λa=>c.tok a (c.home j)) U4 l;simp only[d,Vz,U5,U4] at l1 l2 D;have V:g=.gone:=by
   cases g with
   | gone=>rfl
   | work=>simp only[Qq] at l1;omega
   | rel=>simp only[Qq] at l1;omega
   | l2=>simp only[OK] at l2;omega
   | RO=>simp only[OJ] at D;omega
  subst V;have r:c.rel j=true:=(h.Y'.RI j k m _ i d).2 J;refine⟨r,λs=>?_,?_⟩
  .by_cases e:s=c.home j
   .subst e;rw[d];trivial
   .exact H _ (h.Y'.Sj j s r e)
  .have E:=h.Yg.c2 j i r ⟨q,p,f⟩;by_cases e:c.Zr (c.home j)=0
   .rw[e] at E;exact E
   .obtain⟨v,y⟩:=T e;exact Knows.of_before (h.Yg.c3 j i r e v) y
theorem AQ {o:δ} {x:Tok} (h:Gone x) (a:∀k m g,x=.ch k m g->m≠.q):¬U3 o x:=by
 cases x with
 | nil=>exact id
 | par _ _ b=>cases b<;>first|exact h.elim|exact id
 | ch k m g=>cases m<;>first|exact absurd rfl (a _ _ _ rfl)|exact id
theorem Inv.FB (h:Inv P Q ZA c gs w t) {g:Goroutine} (al:gs[0]?=some g) (C:FH P g (c.x 0) Q) (sl:Option (Nat×Nat)) (w1:World) :
  ∃v es,stepG P true g w=.ended (.done v) w es/\Good P (λv w'=>Q v/\Xr (λ_ _=>False) (λ_=>False) ZA w') (crowd gs w1 sl) (.done v) w (t++MemOp.ofEvents 0 g.frame.fn g.frame.place es):=by
 obtain⟨_,N,hd,O⟩:=C;obtain⟨v,es,R,S,V⟩:=O w (h.mem.fit (.inl 0));refine⟨v,es,R,v,rfl,⟨V,h.mem.keep⟩,?_⟩;have F:=h.gone N;have I:=h.Zv.own (w':=w) h.mem h.hold 0 (G':=c.H (.inl 0)) (V':=c.Z5 0) (es:=es) (fn:=g.frame.fn) (pos:=g.frame.place) (Z1 _)
  ⟨λb o v p i=>.inr ⟨v,p,i,id⟩,λb W=>.inr W⟩ (λb x a=>.inl a) S (λb x a am=>by
   have:=Xq (h.mem.T2 0 b x.1 x.2 a);omega)
 have J:∀j x,j≠0->gs[j]?=some x->∃n,QuitsD P n (c.deaf j) x:=λj x d a=>by
  have X:=(T'.1 a).1;obtain⟨r,u,_⟩:=F j d X;obtain⟨Y,y,i⟩:=h.Oz j x a;have l:∃n,QuitsD P n (c.deaf j) Y:=by
   cases K:c.T j with
   | leaf=>rw[K] at y;exact y.1 r u
   | node f=>rw[K] at y;exact y.1 r u
  rcases i with rfl|⟨_,_,s,o,C,Z,_⟩
  .exact l
  .refine absurd Z (AQ (u s) λk m g e aa=>?_);subst aa;have ab:g≠.work:=by rintro rfl;have:=u s;rw[e] at this;exact this
   rcases h.Y'.Si j s k _ g o C e ab with x|⟨x,_⟩<;>cases x
 refine⟨I.race,λk g' ad A i=>?_,⟨λx a=>?_,rfl⟩,λj x a d=>?_⟩
 .obtain⟨an,ae,L⟩:=Tp.1 ad;rcases getElem?_append_cases ae with⟨af,ag⟩|⟨_,ah⟩
  .have B:t.g? k=some g':=by simp[Trace.g?,ag,L]
   have ai:=h.Yg.Q6 k g' B;obtain⟨r,_,aj⟩:=F g' A ai;obtain⟨ao,ap,Φ,aq,ar,ak⟩:=h.Yg.c1 g' A r;obtain⟨q,z,D,M,E⟩:=Knows.of_before (ak k B ((Ml af).1 i)) aj;refine⟨q,by simp[Trace.g?,getElem?_append_old (lt_size_of_getElem? D),D,M],?_⟩;rcases E with rfl|E
   .exfalso;simp[Trace.g?,D,M] at B;exact A B.symm
   .exact hb_app _ E
  .obtain⟨e,_,rfl⟩:=Go.Conc.mem_ofEvents ah;exact absurd L.symm A
 .obtain⟨j,d⟩:=List.mem_iff_getElem?.1 a;rw[T7] at d;obtain⟨n,l⟩:=J (1+j) x U (by simpa[crowd] using d);exact⟨n,l.leaves⟩
 .obtain⟨n,l⟩:=J j x d a;refine⟨n,?_⟩;have e:(t++MemOp.ofEvents 0 g.frame.fn g.frame.place es).deaf j (t++MemOp.ofEvents 0 g.frame.fn g.frame.place es).size=c.deaf j:=I.hears j;rw[e];exact l.hears _
def Comes (P:Program) (Q:Value->Prop) (ZA:World) (m:Machine) (t:Trace):Prop:=
 ∃N a o w' t',runNT P (N+1) m t=(.ended o w',t')/\runN P N m=.next a/\step P a=.ended o w'/\Good P (λv w'=>Q v/\Xr (λ_ _=>False) (λ_=>False) ZA w') a o w' t'
theorem Comes.next {m a:Machine} {u:Trace} (b:stepT P m=(.next a,u)) (h:Comes P Q ZA a (t++u)):Comes P Q ZA m t:=by
 obtain⟨n,last,o,w,t',c,d,e,f⟩:=h;exact⟨n+1,last,o,w,t',by rw[runNT_succ_next b];exact c,by rw[runN_succ_next b];exact d,e,f⟩
theorem Comes.last {m:Machine} {u:Trace} {o:Outcome} {w:World} (a:stepT P m=(.ended o w,u)) (b:Good P (λv w'=>Q v/\Xr (λ_ _=>False) (λ_=>False) ZA w') m o w (t++u)):Comes P Q ZA m t:=
 ⟨0,m,o,w,t++u,by simp[runNT,a],rfl,by simp[step,a],b⟩
def NI (gs:Array Goroutine):Nat:=(gs.toList.filter λg=>decide (g.status=.running)).length
structure Ord (a:List Nat) (n:Nat):Prop where
 nodup:a.Nodup
 mem:∀i,i∈a↔i<n
theorem Ord.part {c:List Nat} {n i:Nat} (h:Ord c n) (hi:i<n):∃a b,c=a++i::b/\i∉a/\i∉b:=by
 obtain⟨a,b,rfl⟩:=List.append_of_mem ((h.mem i).2 hi);have:=h.nodup;rw[KW] at this;obtain⟨_,d,e⟩:=this;rw[Rg] at d;exact⟨a,b,rfl,λf=>e i f i J rfl,d.1⟩
theorem NH {B:Type} {T:Nat->B} {i:Nat} {x:B} {l:List Nat} (h:i∉l):l.map (upd T i x)=l.map T:=by
 apply MA;intro j a;exact upd_ne _ _ (λe=>h (e▸a))
theorem Ord.one {B:Type} {c:List Nat} {n i:Nat} (h:Ord c n) (hi:i<n) {T:Nat->Xe B} {f:B->Xe B} (d:T i=.node f) (k:B):Tj (c.map (upd T i (f k))) (c.map T):=by
 obtain⟨a,b,rfl,e,g⟩:=h.part hi;simp only[Yd,XC,NH e,NH g,upd_same,d];exact .one _ _ _ _
theorem Ord.two {B:Type} {g:List Nat} {n i:Nat} (h:Ord g n) (hi:i<n) {T:Nat->Xe B} {f:B->Xe B} (t:T i=.node f) (k u:B) :
  ∃m,Ord m (n+1)/\Tj (m.map (upd (upd T i (f k)) n (f u))) (g.map T):=by
 have o:n∉g:=λc=>by have:=(h.mem n).1 c;omega
 obtain⟨a,b,rfl,v,w⟩:=h.part hi;have p:n∉a:=λc=>o (by simp[c]);have r:n∉b:=λc=>o (by simp[c]);refine⟨a++i::n::b,⟨?_,λj=>?_⟩,?_⟩
 .have:=h.nodup;rw[KW] at this ⊢;obtain⟨A,l,s⟩:=this;rw[Rg] at l;refine⟨A,?_,λx c y d=>?_⟩
  .rw[Rg,Rg];exact⟨by simp;exact⟨U,l.1⟩,r,l.2⟩
  .simp at d;rcases d with rfl|rfl|d
   .exact s x c _ J
   .rintro rfl;exact p c
   .exact s x c y (by simp[d])
 .have:=h.mem j;simp only[WK,Zm] at this ⊢;constructor
  .rintro(c|rfl|rfl|c)
   .have:=this.1 (.inl c);omega
   .omega
   .omega
   .have:=this.1 (.inr (.inr c));omega
  .intro c;by_cases e:j=n
   .exact .inr (.inr (.inl e))
   .rcases this.2 U with c|rfl|c
    .exact .inl c
    .exact .inr (.inl rfl)
    .exact .inr (.inr (.inr c))
 .have C:i≠n:=by omega
  simp only[Yd,XC,NH p,NH r,NH v,NH w,upd_same,upd_ne _ _ C,t];exact .two _ _ _ _ _
end
theorem KA {B:Type} {f:Nat->B} {k:Nat} {x:B} (h:f k=x):upd f k x=f:=by
 funext j
 by_cases e:j=k
 .subst e;rw[upd_same,h]
 .rw[upd_ne _ _ e]
theorem VQ (H:Y5->Ψ) (i:Nat) (G:Ψ) (b:Nat):Zy H (.inl i) G (.inr b)=H (.inr b):=Zx H G J
theorem Oy (tok:Nat->Nat->Tok) (i s:Nat) (t:Tok):Zq tok i s t i=upd (tok i) s t:=by unfold Zq;rw[upd_same]
theorem Qn {tok:Nat->Nat->Tok} {i s j:Nat} (t:Tok) (h:j≠i):Zq tok i s t j=tok j:=by unfold Zq;rw[upd_ne _ _ h]
theorem T0 {B:Type} {a:Array B} {k:Nat} {x:B} (h:a[k]?=some x):k<a.size:=(T'.1 h).1
theorem ofEvents_g {i:Nat} {fn:FuncId} {pos:String} {es:Array Event}:∀a∈MemOp.ofEvents i fn pos es,a.g=i:=λa b=>by obtain⟨e,_,rfl⟩:=Go.Conc.mem_ofEvents b;rfl
theorem FA {i:Nat} {fn:FuncId} {pos:String}:MemOp.ofEvents i fn pos #[]=#[]:=by rw[ofEvents_eq];simp
theorem AP (t:Trace) (i:Nat) (fn:FuncId) (pos:String) (es:Array Event) {j:Nat} (b:j<=es.size):(t++MemOp.ofEvents i fn pos es).deaf i (t.size+j)=deafBehind (Deaf t i) (es.extract 0 j):=by
 have e:t++MemOp.ofEvents i fn pos es=(t++MemOp.ofEvents i fn pos (es.extract 0 j))++MemOp.ofEvents i fn pos (es.extract j es.size):=by
  rw[OU];congr 1;rw[ofEvents_eq,ofEvents_eq,ofEvents_eq,<-Array.map_append];congr 1;simp only[Array.extract_append_extract];rw[show max j es.size=es.size by omega];simp
 have a:(t++MemOp.ofEvents i fn pos (es.extract 0 j)).size=t.size+j:=by rw[Array.size_append,ofEvents_eq];simp;omega
 rw[e,deaf_old U,<-a];exact Deaf_own t i fn pos _
theorem Ib {t u:Trace} {k:Nat} (c:t.size<=k) (d:(t++u).counts k):∃a,u[k-t.size]?=some a/\(t++u)[k]?=some a/\∃x,a.act.touch?=some x/\x.loc.isMemory=true/\(x.kind≠.atomic\/(t++u).heard k):=by
 obtain⟨x,e,f,g⟩:=d;obtain⟨a,b,h⟩:=touch_of (t:=t++u) (i:=k) e;exact⟨a,by rw[K7 c] at b;exact b,b,x,h,f,g⟩
theorem NG {t u:Trace} (h:∀a∈u,a.act.touch?=none):∀k,t.size<=k->¬(t++u).counts k:=λk c d=>by
 obtain⟨a,e,_,x,b,_⟩:=Ib c d;rw[h a (mem_of_getElem? e)] at b;cases b
theorem AO {t:Trace} {i:Nat} {fn:FuncId} {pos:String} {es:Array Event} (h:∀e∈es,KG e):∀k,t.size<=k->¬(t++MemOp.ofEvents i fn pos es).counts k:=λk c d=>by
 obtain⟨l,f,_,x,b,g,_⟩:=Ib c d;obtain⟨e,j,rfl⟩:=Go.Conc.mem_ofEvents (mem_of_getElem? f);obtain⟨m,wr,n⟩:=e;rcases h _ j with a|a<;>simp only at a<;>subst a<;>simp[MemAct.ofEvent,MemAct.touch?] at b;subst b;simp[Loc.isMemory] at g
theorem Kz {s d i:Nat} {sp:Spec} {es:Array Event} {fn:FuncId} {pos:String} (h:Sn s sp d es) {c:MemOp} (g:c∈MemOp.ofEvents i fn pos es) :
  (c.act=.mark .disable\/c.act=.mark .enable)\/∃b f wr,c.act=.access ⟨.cell ⟨b,f,none⟩,wr,true⟩/\Yb s sp b:=by
 obtain⟨e,k,rfl⟩:=Go.Conc.mem_ofEvents g;obtain⟨j,l⟩:=K5.1 k;obtain⟨n,wr,o⟩:=e;rcases h.2 j _ l with a|a|⟨b,f,p,a,m,_⟩
 .simp only at a;subst a;exact .inl (.inl rfl)
 .simp only at a;subst a;exact .inl (.inr rfl)
 .cases a;exact .inr ⟨b,f,_,rfl,m⟩
theorem AN {t:Trace} {s i:Nat} {sp:Spec} {fn:FuncId} {pos:String} {es:Array Event} (h:Sn s sp (Deaf t i) es):∀k,t.size<=k->¬(t++MemOp.ofEvents i fn pos es).counts k:=λk m n=>by
 obtain⟨u,f,o,x,c,v,d⟩:=Ib m n;rw[ofEvents_eq,PE] at f;obtain⟨e,j,rfl⟩:=Tp.1 f;have p:k-t.size<es.size:=T0 j;obtain⟨w,wr,y⟩:=e;rcases h.2 _ _ j with a|a|⟨b,A,B,a,C,hd⟩
 .simp only at a;subst a;simp[MemAct.ofEvent,MemAct.touch?] at c
 .simp only at a;subst a;simp[MemAct.ofEvent,MemAct.touch?] at c
 .cases a;simp[MemAct.ofEvent,MemAct.touch?] at c;subst c;rcases d with d|⟨g,l,r⟩
  .exact d rfl
  .simp[Trace.g?,o] at l;subst l;have:=AP t i fn pos es (RP p);rw[show t.size+(k-t.size)=k by omega] at this;rw[this] at r;omega
section
variable {P:Program} {Q:Value->Prop} {ZA:World} {c c':YO} {gs:Array Goroutine} {w w':World} {t:Trace} {i:Nat} {g g':Goroutine} {es:Array Event}
theorem Inv.low (h:Inv P Q ZA c gs w t) {s b:Nat} {o:δ} (a:c.O s=some o) (hb:Yb s o.toSpec b):b<w.heap.size:=by
 obtain⟨⟨g,d⟩,e⟩:=h.mem.Xp s o a;rcases hb with rfl|hb
 .exact Xq d
 .obtain⟨i,f⟩:=e b hb;exact Xq f
theorem Inv.obj (h:Inv P Q ZA c gs w t) {s:Nat} (a:c.tok i s≠.nil):∃o,c.O s=some o:=by
 cases b:c.O s with
 | none=>exact absurd (h.Y'.bare s b i) a
 | some o=>exact⟨o,rfl⟩
theorem VR.grow {H:Y5->Ψ} {a:Nat->Nat->Option (Array Value×TypeId)} {tok:Nat->Nat->Tok} {b:Nat->Option δ} {c d:Nat->Nat} {N e:Nat} (h:VR H a tok b c d N t) (f:N<=e):VR H a tok b c d e t:=
 ⟨h.race,λg i=>MemAct.low_mono f (h.low g i),h.norel,h.perms,h.Sm,h.cont,h.hears⟩
theorem NJ.app {i l:Nat->Nat->Option (Array Value×TypeId)} {tok n:Nat->Nat->Tok} {r O':Nat->Option δ} {w:Nat->Bool} {x:Nat->Nat} {u:Trace} {N:Nat} (h:NJ i tok r w x t) (A:∀a∈t,a.act.low N)
  (y:∀a∈u,∀b,a.act≠.mark (.releaseMerge ⟨b,0,none⟩)) (hv:∀j b v,l j b=some v->(∃f,i j b=some f)\/N<=b) (B:∀s o',O' s=some o'->∃o,r s=some o/\o.ZO=o'.ZO)
  (C:∀j s k d g,tok j s=.ch k d g->∃k d g,n j s=.ch k d g):NJ l n O' w x (t++u):=by
 refine⟨λs o' m D E p a F c=>?_,λj b v H a I c=>?_⟩
 .obtain⟨o,J,K⟩:=B s o' D;rcases getElem?_append_cases F with⟨_,L⟩|⟨_,M⟩
  .obtain⟨⟨k,d,g,O⟩,P⟩:=h.OB s o m J (by rw[K];exact E) p a L c;exact⟨C _ _ _ _ _ O,λQ=>(P Q).app u⟩
  .exact absurd c (y a M m)
 .rcases St.1 I with e|e
  .rcases hv j b v H with⟨f,R⟩|hle
   .exact h.OA j b f R a e c
   .have:=A a e;rw[c] at this;simp only[MemAct.low] at this;omega
  .exact y a e b c
theorem NK.Mk {H H':Y5->Ψ} {tok:Nat->Nat->Tok} {c:Nat->Option δ} (h:NK H tok c) (f:∀b,H' (.inr b)=H (.inr b)):NK H' tok c:=
 ⟨λs o m a b d e=>by rw[f];exact h.RH s o m a b d e,λs o a b=>by rw[f];exact h.Sf s o a b⟩
theorem Inv.laid (h:Inv P Q ZA c gs w t) (l:gs[i]?=some g) {u:Trace}
  (mem:WS c'.H c'.Z5 c'.O ZA w') (hold:V7 c'.H c'.Z5 c'.O ZA.heap.size) (Zv:VR c'.H c'.Z5 c'.tok c'.O c'.Zr c'.deaf w'.heap.size (t++u))
  (Y':X0 gs.size c'.tok c'.spec c'.view c'.rel c'.O c'.Zr c'.home) (Ya:NK c'.H c'.tok c'.O) (Yg:OC gs.size c'.tok c'.rel c'.Zr c'.home c'.XO (t++u)) (WR:NJ c'.Z5 c'.tok c'.O c'.rel c'.XO (t++u))
  (m:Rec P Q c' i g') (k:∀j,j≠i->c'.x j=c.x j/\c'.T j=c.T j)
  (d:(mayWake P g=true/\VS g')\/∀j s o,j≠i->c.O s=some o->U3 o (c.tok j s)->∃o',c'.O s=some o'/\U3 o' (c.tok j s)) :
  Inv P Q ZA c' ((gs.map (woken P g g' w')).setIfInBounds i g') w' (t++u):=by
 have f:((gs.map (woken P g g' w')).setIfInBounds i g').size=gs.size:=J
 have n:i<gs.size:=T0 l;refine⟨by rw[f];exact h.pos,mem,hold,Zv,by rw[f];exact Y',Ya,by rw[f];exact Yg,WR,λj b a=>?_⟩;by_cases e:j=i
 .subst e;rw[Tt (by simpa using n)] at a;cases a;exact m
 .rw[UW (YQ e),PE] at a;obtain⟨p,r,rfl⟩:=Tp.1 a;exact(h.Oz j p r).woken (i:=0) (k j e).1 (k j e).2 (d.imp id λd s o v y=>d j s o e v y)
def Wk (P:Program) (Q:Value->Prop) (ZA:World) (c:YO) (gs:Array Goroutine) (w:World) (t:Trace) (i:Nat) (f:Bool×Goroutine×ZZ->Xe (Bool×Goroutine×ZZ)):Prop:=
 ∀sl,∃c' a w' u,runT P (crowd gs w sl) i=(.next (crowd a w' sl),u)/\Inv P Q ZA c' a w' (t++u)/\
  ((a.size=gs.size/\∃k,c'.T=upd c.T i (f k))\/(a.size=gs.size+1/\∃k b,c'.T=upd (upd c.T i (f k)) gs.size (f b))\/(a.size=gs.size/\c'.T=c.T/\NI a<NI gs))
def Ky (P:Program) (Q:Value->Prop) (ZA:World) (c:YO) (gs:Array Goroutine) (w:World) (t:Trace) (i:Nat) (f:Bool×Goroutine×ZZ->Xe (Bool×Goroutine×ZZ)):Prop:=
 ∃c',Inv P Q ZA c' gs w t/\∃k,c'.T=upd c.T i (f k)
abbrev Uq (P:Program) (Q:Value->Prop) (f:Bool×Goroutine×ZZ->Xe (Bool×Goroutine×ZZ)):Mq:=λa g' b=>Vk P Q (f (a,g',b)) a g' b
theorem Wk.go {f:Bool×Goroutine×ZZ->Xe (Bool×Goroutine×ZZ)} (a:gs[i]?=some g) (b:stepG P (i==0) g w=.go g' w' es)
  (h:Inv P Q ZA c' ((gs.map (woken P g g' w')).setIfInBounds i g') w' (t++MemOp.ofEvents i g.frame.fn g.frame.place es)) (k:Bool×Goroutine×ZZ) (d:c'.T=upd c.T i (f k)):Wk P Q ZA c gs w t i f:=
 λ_=>⟨c',_,w',_,runT_crowd_go a b,h,.inl ⟨J,k,d⟩⟩
variable {f:Bool×Goroutine×ZZ->Xe (Bool×Goroutine×ZZ)}
theorem Inv.Ig (h:Inv P Q ZA c gs w t) (u:gs[i]?=some g) (I:FQ P (i==0) (Uq P Q f) g (c.x i)):Wk P Q ZA c gs w t i f:=by
 have p:=I w (h.mem.fit (.inl i)) (h.mem.T2 i);cases l:stepG P (i==0) g w with
 | go g' w' es=>
  rw[l] at p;obtain⟨G',V',Y,B,J,K,C,y,D,L,M⟩:=p;have N:i<gs.size:=T0 u;have E:∀e∈es,WJ (c.H (.inl i)) w.heap.size w'.heap.size e:=λe n=>by
   have:=D e n;split at this
   .exact this.Ig
   .exact this
  have O:∀j,j≠i->({c with H:=Zy c.H (.inl i) G',Z5:=upd c.Z5 i V',T:=upd c.T i (f (i==0,g',{c.x i with G:=G',Z5:=V'}))}:YO).x j=c.x j:=λj d=>by
   have:(Sum.inl j:Y5)≠.inl i:=λe=>d (by cases e;rfl);simp[YO.x,Zx _ _ this,upd_ne _ _ d]
  refine Wk.go (c':={c with H:=Zy c.H (.inl i) G',Z5:=upd c.Z5 i V',T:=upd c.T i (f (i==0,g',{c.x i with G:=G',Z5:=V'}))}) u l ?_ _ rfl;refine h.laid u (h.mem.own h.hold i B J K rfl) (h.hold.own h.mem h.mem.keep.size i C y) (h.Zv.own h.mem h.hold i B.size C y E L) h.Y' ?_ ?_ ?_ ?_ (λj d=>⟨O j d,upd_ne _ _ d⟩) (.inr λj s o _ a b=>⟨o,a,b⟩)
  .exact h.Ya.Mk λb=>VQ c.H i G' b
  .refine h.Yg.app N ofEvents_g (λR=>AO λe n=>?_) (λ_ _ _ x=>x) (λ_ _ _ _ x=>x);have:=D e n;have S:(c.x i).rel=true:=R;simpa only[S,if_true] using this
  .refine h.WR.app h.Zv.low (λZ U b A=>?_) (λj b v hv=>?_) (λs o' l=>⟨o',l,rfl⟩) (λj s k V g e=>⟨k,V,g,e⟩)
   .obtain⟨e,n,rfl⟩:=Go.Conc.mem_ofEvents U;have F:=E e n;obtain⟨W,wr,X⟩:=e;cases W with
    | mark m=>simp only[WJ] at F;subst F;simp[MemAct.ofEvent] at A
    | obj r=>cases wr<;>cases X<;>simp[MemAct.ofEvent] at A
    | _=>simp[MemAct.ofEvent] at A
   .replace hv:upd c.Z5 i V' j b=some v:=hv
    by_cases d:j=i
    .subst d;rw[upd_same] at hv;exact(y b v hv).imp (λx=>⟨v,x⟩) (λx=>x.1)
    .rw[upd_ne _ _ d] at hv;exact .inl ⟨v,hv⟩
  .refine⟨g',?_,.inl rfl⟩;have e:({c with H:=Zy c.H (.inl i) G',Z5:=upd c.Z5 i V',T:=upd c.T i (f (i==0,g',{c.x i with G:=G',Z5:=V'}))}:YO).x i={c.x i with G:=G',Z5:=V'}:=by
    simp[YO.x,upd_same]
   rw[e];show Vk P Q (upd c.T i (f (i==0,g',{c.x i with G:=G',Z5:=V'})) i) _ _ _;rw[upd_same];exact M
 | _=>rw[l] at p;exact p.elim
theorem WS.Mk {H:Y5->Ψ} {a:Nat->Nat->Option (Array Value×TypeId)} {b O':Nat->Option δ} (h:WS H a b ZA w) (e:O'=b):WS H a O' ZA w:=e▸h
theorem Inv.marked (h:Inv P Q ZA c gs w t) (u:gs[i]?=some g) {m:Mark} (B:m=.disable\/m=.enable) {d:Nat} (hd:d=deafBehind (c.deaf i) #[Go.ConcR.mk m]) (y:stepG P (i==0) g w=.go g' w #[Go.ConcR.mk m])
  (E:Uq P Q f (i==0) g' {c.x i with deaf:=d}):Wk P Q ZA c gs w t i f:=by
 have F:i<gs.size:=T0 u
 have nt:∀l∈MemOp.ofEvents i g.frame.fn g.frame.place #[Go.ConcR.mk m],l.act.touch?=none:=λl n=>by
  obtain⟨e,p,rfl⟩:=Go.Conc.mem_ofEvents n;simp at p;subst p;rcases B with rfl|rfl<;>rfl
 have A:∀l∈MemOp.ofEvents i g.frame.fn g.frame.place #[Go.ConcR.mk m],l.act=.mark .disable\/l.act=.mark .enable:=λl n=>by
  obtain⟨e,p,rfl⟩:=Go.Conc.mem_ofEvents n;simp at p;subst p;rcases B with rfl|rfl
  .exact .inl rfl
  .exact .inr rfl
 refine Wk.go (c':={c with deaf:=upd c.deaf i d,T:=upd c.T i (f (i==0,g',{c.x i with deaf:=d}))}) u y ?_ _ rfl;refine h.laid u h.mem h.hold ?_ h.Y' h.Ya ?_ ?_ ⟨g',?_,.inl rfl⟩ (λj C=>⟨by simp[YO.x,upd_ne _ _ C],upd_ne _ _ C⟩) (.inr λj s o _ a b=>⟨o,a,b⟩)
 .refine h.Zv.ext h.hold i ofEvents_g (λl n=>?_) (λl n a D=>?_) (λl n b r=>?_) (λj=>?_)
  .rcases A l n with e|e<;>rw[e]<;>trivial
  .rcases A l n with e|e<;>rw[e] at D<;>cases D
  .rw[nt l n] at r;cases r
  .by_cases e:j=i
   .subst e;rw[Deaf_own,h.Zv.hears,hd];exact(upd_same ..).symm
   .rw[Deaf_other t (YQ e) _ ofEvents_g,h.Zv.hears];exact(upd_ne _ _ e).symm
 .exact h.Yg.app F ofEvents_g (λ_=>NG nt) (λ_ _ _ x=>x) (λ_ _ _ _ x=>x)
 .refine h.WR.app h.Zv.low (λl n b r=>?_) (λj b v hv=>.inl ⟨v,hv⟩) (λs o' y=>⟨o',y,rfl⟩) (λj s k H g e=>⟨k,H,g,e⟩);rcases A l n with e|e<;>rw[e] at r<;>cases r
 .have e:({c with deaf:=upd c.deaf i d,T:=upd c.T i (f (i==0,g',{c.x i with deaf:=d}))}:YO).x i={c.x i with deaf:=d}:=by
   simp[YO.x,upd_same]
  rw[e];show Vk P Q (upd c.T i (f (i==0,g',{c.x i with deaf:=d})) i) _ _ _;rw[upd_same];exact E
theorem Inv.AM (h:Inv P Q ZA c gs w t) (e:gs[i]?=some g) (a:FP P (i==0) (Uq P Q f) g (c.x i)):Wk P Q ZA c gs w t i f:=by
 obtain⟨g',_,a|⟨_,a⟩⟩:=a
 .obtain⟨b,d⟩:=a w (h.mem.fit (.inl i));exact h.marked e (.inl rfl) (by rfl) b d
 .obtain⟨b,d⟩:=a w (h.mem.fit (.inl i));exact h.marked e (.inr rfl) (by rfl) b d
theorem Inv.AL (h:Inv P Q ZA c gs w t) (y:gs[i]?=some g) (I:FO P (i==0) (Uq P Q f) g (c.x i)):Wk P Q ZA c gs w t i f:=by
 obtain⟨s,n,p,B,g',r,wr,J,U,K,V,L⟩:=I;have M:i<gs.size:=T0 y;obtain⟨A,N⟩:=L w (h.mem.fit (.inl i));have C:c.tok i s=.par n p B:=J;obtain⟨o,D⟩:=h.obj (i:=i) (s:=s) (by rw[C];simp);have O:c.rel i=false:=K;have u:∀d∈MemOp.ofEvents i g.frame.fn g.frame.place #[Go.ConcR.mk (if wr then .write ⟨s,r,none⟩ else .read ⟨s,r,none⟩)],d.act=.mark (if wr then .write ⟨s,r,none⟩ else .read ⟨s,r,none⟩):=λd l=>by
  obtain⟨e,E,rfl⟩:=Go.Conc.mem_ofEvents l;simp at E;subst E;rfl
 refine Wk.go (c':={c with T:=upd c.T i (f (i==0,g',c.x i))}) y A ?_ _ rfl;refine h.laid y h.mem h.hold ?_ h.Y' h.Ya ?_ ?_ ⟨g',?_,.inl rfl⟩ (λj R=>⟨rfl,upd_ne _ _ R⟩) (.inr λj s o _ a b=>⟨o,a,b⟩)
 .refine h.Zv.ext h.hold i ofEvents_g (λd l=>?_) (λd l a F=>?_) (λd l b m=>?_) (λj=>?_)
  .rw[u d l];have:=h.low D (.inl rfl);cases wr<;>exact this
  .rw[u d l] at F;cases wr<;>cases F
  .rw[u d l] at m;refine⟨s,o,s,r,D,.inl rfl,?_⟩;cases wr<;>simp[MemAct.touch?] at m<;>subst m<;>exact⟨rfl,.inr ⟨rfl,h.Y'.par i s n p B C⟩⟩
  .by_cases e:j=i
   .subst e;rw[Deaf_own,h.Zv.hears];cases wr<;>rfl
   .rw[Deaf_other t (YQ e) _ ofEvents_g,h.Zv.hears]
 .exact h.Yg.app M ofEvents_g (λH=>by rw[O] at H;cases H) (λ_ _ _ x=>x) (λ_ _ _ _ x=>x)
 .refine h.WR.app h.Zv.low (λd l b m=>?_) (λj b v hv=>.inl ⟨v,hv⟩) (λs o' A=>⟨o',A,rfl⟩) (λj s k S g e=>⟨k,S,g,e⟩);rw[u d l] at m;cases wr<;>cases m
 .show Vk P Q (upd c.T i (f (i==0,g',c.x i)) i) _ _ _;rw[upd_same];exact N
theorem Inv.quits (h:Inv P Q ZA c gs w t) (p:gs[i]?=some g) (D:FI P (i==0) (Uq P Q f) g (c.x i)):Wk P Q ZA c gs w t i f:=by
 obtain⟨E,K,L,M,g',es,A,r,F⟩:=D;have H:i<gs.size:=T0 p;have nt:∀d∈MemOp.ofEvents i g.frame.fn g.frame.place es,d.act.touch?=none:=λd l=>by
  obtain⟨e,u,rfl⟩:=Go.Conc.mem_ofEvents l;exact touch_mute (A e u)
 have y:∀d∈MemOp.ofEvents i g.frame.fn g.frame.place es,d.act=.mark .disable\/d.act=.mark .enable:=λd l=>by
  obtain⟨⟨I,wr,N⟩,u,rfl⟩:=Go.Conc.mem_ofEvents l;have:=A _ u;cases I<;>simp[Event.mute] at this;rename_i m;cases m<;>simp_all [MemAct.ofEvent]
 refine Wk.go (c':={c with deaf:=upd c.deaf i (deafBehind (c.deaf i) es),T:=upd c.T i (f (i==0,g',{c.x i with deaf:=deafBehind (c.x i).deaf es}))}) p (by rw[E];exact r w) ?_ _ rfl;refine h.laid p h.mem h.hold ?_ h.Y' h.Ya ?_ ?_ ⟨g',?_,.inl rfl⟩ (λj B=>⟨by simp[YO.x,upd_ne _ _ B],upd_ne _ _ B⟩) (.inr λj s o _ a b=>⟨o,a,b⟩)
 .refine h.Zv.ext h.hold i ofEvents_g (λd l=>?_) (λd l a C=>?_) (λd l b n=>?_) (λj=>?_)
  .rcases y d l with e|e<;>rw[e]<;>trivial
  .rcases y d l with e|e<;>rw[e] at C<;>cases C
  .rw[nt d l] at n;cases n
  .by_cases e:j=i
   .subst e;rw[Deaf_own,h.Zv.hears];exact(upd_same ..).symm
   .rw[Deaf_other t (YQ e) _ ofEvents_g,h.Zv.hears];exact(upd_ne _ _ e).symm
 .exact h.Yg.app H ofEvents_g (λ_=>NG nt) (λ_ _ _ x=>x) (λ_ _ _ _ x=>x)
 .refine h.WR.app h.Zv.low (λd l b n=>?_) (λj b v hv=>.inl ⟨v,hv⟩) (λs o' r=>⟨o',r,rfl⟩) (λj s k J g e=>⟨k,J,g,e⟩);rcases y d l with e|e<;>rw[e] at n<;>cases n
 .have e:({c with deaf:=upd c.deaf i (deafBehind (c.deaf i) es),T:=upd c.T i (f (i==0,g',{c.x i with deaf:=deafBehind (c.x i).deaf es}))}:YO).x i={c.x i with deaf:=deafBehind (c.x i).deaf es}:=by
   simp[YO.x,upd_same]
  rw[e];show Vk P Q (upd c.T i (f (i==0,g',{c.x i with deaf:=deafBehind (c.x i).deaf es})) i) _ _ _;rw[upd_same];exact F
end
end Go.TL
namespace Go.TL
open Go.Conc
open Go.ConcM (OsLater)
open Go.ConcN (sumTo upd sumTo_upd upd_ne upd_same sumTo_congr le_sumTo)
section
variable {P:Program} {Q:Value->Prop} {ZA:World} {c c':YO} {gs:Array Goroutine} {w w':World} {t:Trace} {i:Nat} {g g':Goroutine} {es:Array Event}
variable {f:Bool×Goroutine×ZZ->Xe (Bool×Goroutine×ZZ)}
theorem AK {o o':δ} {t t':Tok} (h:Act o t o' t'):(∀q p,t'≠.par q p .ZQ)/\(∀q p,t≠.par q p .ZQ)/\∀k L g,t=.ch k (.YI L) g->∃g',t'=.ch k (.YI L) g':=by
 cases h<;>refine⟨λq p e=>?_,λq p e=>?_,λk L g e=>?_⟩<;>cases e
 all_goals exact⟨_,rfl⟩
theorem Fz {B:Type} (p:B->Bool) {y:B} (b:p y=false):∀(l:List B) (k:Nat) (x:B),l[k]?=some x->p x=true->((l.set k y).filter p).length<(l.filter p).length
 | [],k,x,h,_=>by simp at h
 | z::l,0,x,h,a=>by
  simp at h;subst h;simp[List.set,a,b]
 | z::l,k+1,x,h,a=>by
  have:=Fz p b l k x (by simpa using h) a;simp only[List.set,KS];split<;>simpa using this
theorem AJ {k:Nat} (a:gs[k]?=some g) (b:g.status=.running) (c:g'.status≠.running):NI (gs.setIfInBounds k g')<NI gs:=by
 unfold NI;rw[Array.toList_setIfInBounds];exact Fz (λg:Goroutine=>decide (g.status=.running)) (by simp[c]) _ k g (by rw[<-a];simp) (by simp[b])
theorem Inv.atom (h:Inv P Q ZA c gs w t) (D:gs[i]?=some g) (aj:VS g) (av:Vk P Q (c.T i) (i==0) g (c.x i)) (aw:Atom P (i==0) (Uq P Q f) g (c.x i)):Wk P Q ZA c gs w t i f:=by
 obtain⟨s,sp,ax,ay,az⟩:=aw;have V:i<gs.size:=T0 D;obtain⟨o,d,W⟩:=h.Y'.Q' i s sp ax;have aA:∀b,Yb s sp b->b<w.heap.size:=λb l=>h.low d (by rw[W];exact l);have aB:¬Xj (c.tok i s):=ay;have aC:c.tok i s≠.nil:=λe=>aB (by rw[e];trivial);have ak:∀{w':World} {es:Array Event} {k:Nat},Xr (λb _=>Yb s sp b) (λ_=>False) w w'->Sn s sp (c.x i).deaf es->VR c.H c.Z5 c.tok c.O c.Zr c.deaf w'.heap.size (t++MemOp.ofEvents i g.frame.fn g.frame.place es):=λ{w' es k} K n=>by
  refine VR.grow ?_ K.size;refine h.Zv.ext h.hold i ofEvents_g (λM F=>?_) (λM F a al=>?_) (λM F b l=>?_) (λj=>?_)
  .rcases Kz n F with(e|e)|⟨b,X,wr,e,l⟩
   .rw[e];trivial
   .rw[e];trivial
   .rw[e];exact aA b l
  .rcases Kz n F with(e|e)|⟨b,X,wr,e,l⟩<;>rw[e] at al<;>cases al
  .rcases Kz n F with(e|e)|⟨I,X,wr,e,am⟩
   .rw[e] at l;cases l
   .rw[e] at l;cases l
   .rw[e] at l;simp[MemAct.touch?] at l;subst l;exact⟨s,o,I,X,d,by rw[W];exact am,rfl,.inl rfl⟩
  .by_cases e:j=i
   .subst e;rw[Deaf_own,h.Zv.hears];exact n.1
   .rw[Deaf_other t (YQ e) _ ofEvents_g,h.Zv.hears]
 have an:∀{es:Array Event},Sn s sp (c.x i).deaf es->∀M∈MemOp.ofEvents i g.frame.fn g.frame.place es,∀b,M.act≠.mark (.releaseMerge ⟨b,0,none⟩):=λn M F b l=>by
  rcases Kz n F with(e|e)|⟨I,X,wr,e,am⟩<;>rw[e] at l<;>cases l
 have ao:∀{es:Array Event},Sn s sp (c.x i).deaf es->∀k,t.size<=k->¬(t++MemOp.ofEvents i g.frame.fn g.frame.place es).counts k:=λn=>AN (s:=s) (sp:=sp) (by rw[h.Zv.hears];exact n);rcases az w (X7 gs.size o (λj=>c.tok j s)) o (h.mem.fit (.inl i)) (h.mem.T2 i) W (h.mem.Xp s o d) (λaD aE hv=>by
   obtain⟨aW,ap,Φ,aF⟩:=h.Y'.OF i s aD aE hv;rw[d] at ap;cases ap;exact⟨Φ,aF⟩) ⟨gs.size,λj=>c.tok j s,i,h.Y'.Z3 s o d,V,rfl,λk L g e=>h.Y'.YI i s k L g o d e⟩ with Y|⟨aG,aH,E⟩
 .cases E:stepG P (i==0) g w with
  | go g' w' es=>
   rw[E] at Y;obtain⟨aI,K,n,aJ⟩:=Y;have aq:Xr (λb _=>Yb s o.toSpec b) (λ_=>False) w w':=by rw[W];exact K
   rcases aJ with⟨ab,ad⟩|⟨o',t',R,ab,aK,ad⟩
   .refine Wk.go (c':={c with view:=upd c.view i (upd (c.view i) s (some (X7 gs.size o (λj=>c.tok j s),o))),T:=upd c.T i (f (i==0,g',{c.x i with view:=upd (c.view i) s (some (X7 gs.size o (λj=>c.tok j s),o))}))}) D E ?_ _ rfl;refine h.laid D ((h.mem.atom h.hold rfl d rfl aq ab).Mk (KA d).symm) h.hold (ak (k:=0) K n) (h.Y'.look d) h.Ya
     (h.Yg.app V ofEvents_g (λ_=>ao n) (λ_ _ _ x=>x) (λ_ _ _ _ x=>x))
     (h.WR.app h.Zv.low (an n) (λj b v hv=>.inl ⟨v,hv⟩) (λs o' E=>⟨o',E,rfl⟩) (λj s k Z g e=>⟨k,Z,g,e⟩))
     ⟨g',?_,.inl rfl⟩ (λj A=>⟨by simp[YO.x,upd_ne _ _ A],upd_ne _ _ A⟩) (.inr λj s o _ a b=>⟨o,a,b⟩)
    have e:({c with view:=upd c.view i (upd (c.view i) s (some (X7 gs.size o (λj=>c.tok j s),o))),T:=upd c.T i (f (i==0,g',{c.x i with view:=upd (c.view i) s (some (X7 gs.size o (λj=>c.tok j s),o))}))}:YO).x i={c.x i with view:=upd (c.view i) s (some (X7 gs.size o (λj=>c.tok j s),o))}:=by
     simp[YO.x,upd_same]
    rw[e];show Vk P Q (upd c.T i (f (i==0,g',{c.x i with view:=upd (c.view i) s (some (X7 gs.size o (λj=>c.tok j s),o))})) i) _ _ _;rw[upd_same];exact ad
   .have aL:=FV (N:=gs.size) (τ:=λj=>c.tok j s) V rfl R
    have aM:=ad _ aL;obtain⟨ae,aN,aO⟩:=FF R;obtain⟨aP,aQ,aR⟩:=AK R;have ar:=T1.upd d ae;have aa:∀j r q p,Zq c.tok i s t' j r=.par q p .ZQ↔c.tok j r=.par q p .ZQ:=λj r q p=>by
     by_cases e:j=i/\r=s
     .obtain⟨rfl,rfl⟩:=e;rw[XG];exact⟨λx=>absurd x (aP q p),λx=>absurd x (aQ q p)⟩
     .rw[XN _ e]
    have aS:∀j r k L g,c.tok j r=.ch k (.YI L) g->∃g',Zq c.tok i s t' j r=.ch k (.YI L) g':=λj r k L g A=>by
     by_cases e:j=i/\r=s
     .obtain⟨rfl,rfl⟩:=e;rw[XG];exact aR k L g A
     .rw[XN _ e];exact⟨g,A⟩
    have keepW:o'=o->∀j r q,j≠i->c.O r=some q->U3 q (c.tok j r)->∃au,upd c.O s (some o') r=some au/\U3 au (c.tok j r):=λaf j r q _ a b=>⟨q,by
     by_cases e:r=s
     .subst e;subst af;rw[d] at a;cases a;exact upd_same _ _ _
     .rw[upd_ne _ _ e];exact a,b⟩
    have ag:∀r q,upd c.O s (some o') r=some q->∃B,c.O r=some B/\B.toSpec=q.toSpec/\B.L=q.L/\B.YJ=q.YJ:=λr q C=>by
     by_cases e:r=s
     .subst e;rw[upd_same] at C;cases C;exact⟨o,d,ae.symm,aN.symm,aO.symm⟩
     .rw[upd_ne _ _ e] at C;exact⟨q,C,rfl,rfl,rfl⟩
    let S:ZZ:={c.x i with tok:=upd (c.tok i) s t',view:=upd (c.view i) s (some (X7 gs.size o' (upd (λj=>c.tok j s) i t'),o'))};refine Wk.go (c':={c with tok:=Zq c.tok i s t',view:=upd c.view i (upd (c.view i) s (some (X7 gs.size o' (upd (λj=>c.tok j s) i t'),o'))),O:=upd c.O s (some o'),T:=upd c.T i (f (i==0,g',S))}) D E ?_ _ rfl;refine h.laid D (h.mem.atom h.hold rfl d ae aq ab) (h.hold.Tm ar) ((ak (k:=0) K n).AT ar λj r A e=>?_) (h.Y'.act d rfl R) ⟨λr q m C ah ai aT=>?_,λr q C ai=>?_⟩
     (h.Yg.app V ofEvents_g (λ_=>ao n) (λs q p ⟨j,x⟩=>⟨j,(aa j s q p).1 x⟩) (λj s q p x=>(aa j s q p).1 x))
     (h.WR.app h.Zv.low (an n) (λj b v hv=>.inl ⟨v,hv⟩) (λr q C=>let ⟨B,a,b,_⟩:=ag r q C;⟨B,a,by rw[b]⟩) (λj r k Z g e=>?_))
     ⟨g',?_,.inl rfl⟩ (λj A=>⟨by simp[YO.x,upd_ne _ _ A,Qn _ A],upd_ne _ _ A⟩) (aK.imp (λah=>⟨ah,aI⟩) λaf=>keepW af)
    .by_cases U:j=i/\r=s
     .obtain⟨rfl,rfl⟩:=U;exact aC e
     .apply A;show Zq c.tok i s t' j r=.nil;rw[XN _ U];exact e
    .obtain⟨B,a,b,I,_⟩:=ag r q C;have:=h.Ya.RH r B m a (by rw[b];exact ah) (λj q p x=>ai j q p ((aa j r q p).2 x)) (λj k L g x=>let ⟨g',y⟩:=aS j r k L g x;aT j k L g' y);rw[b,I] at this;exact this
    .obtain⟨B,a,b,_,I⟩:=ag r q C;have:=h.Ya.Sf r B a (λj q p x=>ai j q p ((aa j r q p).2 x));rw[b,I] at this;exact this
    .by_cases U:j=i/\r=s
     .obtain⟨rfl,rfl⟩:=U;obtain⟨aU,aV,y,_⟩:=(FE R).2.1 k Z g e;exact⟨k,aU,aV,by show Zq c.tok j r t' j r=_;rw[XG];exact y⟩
     .exact⟨k,Z,g,by show Zq c.tok i s t' j r=_;rw[XN _ U];exact e⟩
    .have e:({c with tok:=Zq c.tok i s t',view:=upd c.view i (upd (c.view i) s (some (X7 gs.size o' (upd (λj=>c.tok j s) i t'),o'))),O:=upd c.O s (some o'),T:=upd c.T i (f (i==0,g',S))}:YO).x i=S:=by
      simp[S,YO.x,upd_same,Oy]
     rw[e];show Vk P Q (upd c.T i (f (i==0,g',S)) i) _ _ _;rw[upd_same];exact aM
  | _=>rw[E] at Y;exact Y.elim
 .refine λsl=>⟨c,_,w,_,runT_crowd_go D E,?_,.inr (.inr ⟨J,rfl,?_⟩)⟩
  .rw[FA,OT];have:=h.laid (c':=c) (u:=#[]) D (g':={g with status:=.blocked}) h.mem h.hold (by rw[OT];exact h.Zv) h.Y' h.Ya (by rw[OT];exact h.Yg) (by rw[OT];exact h.WR) ⟨g,av,.inr ⟨aj,rfl,s,o,d,aG,aH⟩⟩ (λj A=>⟨rfl,rfl⟩) (.inr λj s o _ a b=>⟨o,a,b⟩)
   rwa [OT] at this
  .have e:gs.map (woken P g {g with status:=.blocked} w)=gs:=by
    have:woken P g {g with status:=.blocked} w=id:=by
     funext b;simp[woken]
    rw[this];simp
   rw[e];exact AJ D aj.1 J
end
end Go.TL
