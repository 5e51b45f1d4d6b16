import Derived.Conc.Beside
import Derived.Conc.CrowdBase
import Derived.Conc.MuSpec
import GoSem.Core.World
set_option maxHeartbeats 16000000
set_option maxRecDepth 20000
set_option linter.unusedSectionVars false
set_option linter.unusedSimpArgs false
set_option linter.unusedVariables false
namespace Go.TL
abbrev ω:=@Nat.zero_le
abbrev ZO:=@Nat.le_refl
abbrev YB:=@List.getElem_mem
abbrev Xk:=@List.getD_eq_getElem?_getD
abbrev YZ:=@List.mem_cons
abbrev W3:=@Array.getD_eq_getD_getElem?
abbrev Yk:=@List.getElem?_map
abbrev YK:=@List.mem_map
abbrev XY:=@List.not_mem_nil
abbrev Yb:=@List.length_map
abbrev Xu:=@Bool.false_eq_true
abbrev Vp:=@Array.getElem?_setIfInBounds_ne
abbrev T5:=@Array.getElem?_setIfInBounds_self_of_lt
abbrev WE:=@List.getElem?_set_self
abbrev UZ:=@List.take_succ_eq_append_getElem
abbrev Xz:=@List.map_append
abbrev V7:=@Array.getElem?_toList
abbrev Y2:=@Ne.symm
abbrev Xt:=@List.map_cons
abbrev VT:=@List.getElem?_set_ne
abbrev WN:=@List.all_eq_true
abbrev UA:=@Array.getElem?_eq_some_iff
abbrev WM:=@Option.some.inj
abbrev Xs:=@Nat.le_trans
abbrev T4:=@Classical.byContradiction
abbrev T3:=@Array.size_setIfInBounds
abbrev T2:=@List.getElem?_take_of_lt
abbrev Vo:=@List.length_append
abbrev VE:=@Bool.and_eq_true
abbrev V6:=@List.mem_append
abbrev T1:=@Option.map_eq_some_iff
abbrev S4:=@List.pairwise_iff_getElem
abbrev WW:=@Nat.add_mul
abbrev TC:=@List.take_of_length_le
abbrev XU:=@Eq.trans
abbrev TB:=@List.getElem?_eq_none
abbrev Uz:=@List.getElem?_drop
abbrev T0:=@List.getElem_of_mem
abbrev S3:=@List.getElem?_of_mem
abbrev S2:=@Nat.mul_le_mul_right
abbrev TZ:=@List.append_assoc
abbrev VD:=@Nat.zero_add
abbrev Uy:=@List.range_succ
abbrev UY:=@List.mem_range
abbrev Vn:=@Nat.succ_pos
abbrev TY:=@List.append_nil
abbrev S1:=@Array.mem_append
abbrev Su:=@List.ext_getElem?
abbrev S0:=@List.mem_filter
abbrev PF:=@List.drop_eq_getElem_cons
abbrev Q9:=@List.length_pos_iff
abbrev Qo:=@List.length_replicate
abbrev PE:=@Array.getElem?_replicate
abbrev Qn:=@List.set_append_right
abbrev TX:=@List.map_nil
abbrev SZ:=@Nat.add_assoc
abbrev OJ:=@Array.getElem?_append_left
abbrev Q8:=@Option.some.injEq
abbrev Q7:=@List.any_eq_false
abbrev RS:=@List.nodup_cons
abbrev Qm:=@Array.getElem?_map
abbrev Q6:=@List.length_take
abbrev Q5:=@List.isEmpty_iff
abbrev Q4:=@Nat.lt_succ_self
abbrev Ql:=@List.foldl_append
abbrev OI:=@Array.getElem?_eq_none
abbrev St:=@Nat.le_of_lt
abbrev Mb:=@List.pairwise_iff_forall_sublist
abbrev PD:=@Array.append_assoc
abbrev PC:=@Array.append_empty
abbrev PB:=@List.getElem?_take
abbrev OH:=@List.take_append_drop
abbrev OG:=@List.pairwise_append
abbrev Ma:=@Array.eq_empty_of_size_eq_zero
abbrev Nu:=@List.getElem?_replicate
abbrev OF:=@Array.getElem?_push
abbrev OE:=@List.flatMap_append
abbrev Nt:=@List.drop_eq_nil_of_le
abbrev OD:=@Array.ext_getElem?
abbrev L':=@Array.getElem?_append_right
abbrev PA:=@Bool.eq_iff_iff
abbrev L9:=@List.mem_take_iff_getElem
abbrev L8:=@List.mem_or_eq_of_mem_set
abbrev Qk:=@Nat.zero_mul
abbrev Qj:=@Nat.sub_self
abbrev Ns:=@List.map_congr_left
abbrev Nr:=@Nat.lt_of_le_of_lt
abbrev L7:=@Array.mem_iff_getElem?
abbrev Nq:=@List.flatMap_cons
abbrev OC:=@Array.mem_push
abbrev L6:=@List.contains_iff_mem
abbrev Pz:=@List.map_map
abbrev L5:=@List.range_eq_range'
abbrev L4:=@List.mem_of_mem_take
abbrev Np:=@List.any_eq_true
abbrev Py:=@Nat.mul_one
abbrev No:=@List.length_set
abbrev OB:=@Nat.lt_or_ge
abbrev JD:=@List.eq_of_mem_replicate
abbrev L3:=@Nat.lt_of_lt_of_le
abbrev L2:=@Array.all_eq_true'
abbrev JC:=@List.Perm.eq_of_pairwise
abbrev Px:=@Int.not_lt
abbrev L1:=@List.pairwise_map
abbrev Nn:=@List.map_take
abbrev L0:=@List.filter_cons
abbrev LZ:=@List.nodup_range
abbrev LY:=@List.range'_succ
abbrev LX:=@List.take_length
abbrev OA:=@Array.ext'
abbrev Nm:=@Nat.add_comm
abbrev Nl:=@List.map_set
theorem ε {a : Type _} {l : List a} {i : Nat} (h : i < l.length) : l[i]? = some l[i] := List.getElem?_eq_getElem h
theorem ZD {b : Type _} {l : List b} {i : Nat} {a : b} : l[i]? = some a ↔ ∃ h : i < l.length, l[i] = a := List.getElem?_eq_some_iff
theorem Zk {b : Type _} {l : List b} {i : Nat} {a : b} (e : l[i]? = some a) : a ∈ l := List.mem_of_getElem? e
theorem YV {a : Type _} {l : List a} : l.length = 0 ↔ l = [] := List.length_eq_zero_iff
theorem YU {b : Type _} {a c : List b} {i : Nat} (d : i < a.length) : (a ++ c)[i]? = a[i]? := List.getElem?_append_left d
theorem XT {c : Type _} {a b : List c} {i : Nat} (h : a.length <= i) : (a ++ b)[i]? = b[i - a.length]? := List.getElem?_append_right h
theorem X4 {a : Type _} {xs : Array a} {i : Nat} (h : i < xs.size) : xs[i]? = some xs[i] := Array.getElem?_eq_getElem h
theorem U {p:Prop} (h:p:=by omega):p:=h
theorem tE {p:Prop} (h:p:=by(try simp only);omega):p:=h
theorem J {p:Prop} (h:p:=by simp):p:=h
theorem Z2 {p:Prop} (h:p:=by decide):p:=h
theorem YN {b:Sort _} (a:b):∃x,a=x:=⟨a,rfl⟩
theorem Z8 {b:Sort _} (a:b):∃x,x=a:=⟨a,rfl⟩
def Obj.Q3:Obj->Bool
 | .cells ..=>true
 | _=>false
structure Ψ where
 ς:Nat->Nat->Option (Value×Bool)
 row:Nat->Option (TypeId×Nat)
 obj:Nat->Option Obj
def Ψ.empty:Ψ:=⟨λ_ _=>none,λ_=>none,λ_=>none⟩
end Go.TL
namespace Go.TL
open Go.Conc
open Go.ConcM (OsLater)
structure Fits (G:Ψ) (w:World):Prop where
 ς:∀b o v p,G.ς b o=some (v,p)->w.cell? ⟨b,o,none⟩=some v
 row:∀b t n,G.row b=some (t,n)->∃c,w.heap[b]?=some (.cells c t (0,0))/\c.size=n
 obj:∀b x,G.obj b=some x->w.heap[b]?=some x/\Obj.Q3 x=false
def Ψ.owns (G:Ψ) (b o:Nat):Prop:=∃v,G.ς b o=some (v,true)
def Ψ.has (G:Ψ) (b o:Nat):Prop:=∃x,G.ς b o=some x
def Ψ.X3 (G:Ψ) (b:Nat):Prop:=∃x,G.obj b=some x
structure Apart (G H:Ψ):Prop where
 ς:∀b o,G.owns b o->¬H.has b o
 RR:∀b o,H.owns b o->¬G.has b o
 obj:∀b,G.X3 b->¬H.X3 b
def Ψ.off (G:Ψ) (b:Nat):Prop:=(∀o,¬G.has b o)/\¬G.X3 b
structure XP (d:Nat->Nat->Prop) (e:Nat->Prop) (w w':World):Prop where
 size:w.heap.size<=w'.heap.size
 cells:∀b c t a,w.heap[b]?=some (.cells c t a)->∃c',w'.heap[b]?=some (.cells c' t a)/\c'.size=c.size/\∀o,¬d b o->c'[o]?=c[o]?
 TW:∀b x,w.heap[b]?=some x->Obj.Q3 x=false->¬e b->w'.heap[b]?=some x
 os:OsLater w.os w'.os
 output:w'.output=w.output
 tape:w'.tape=w.tape
theorem XO {w:World} {b:Nat} {x:Obj} (h:w.heap[b]?=some x):b<w.heap.size:=by
 rcases OB b w.heap.size with a|a
 .exact a
 .rw[OI a] at h;cases h
theorem RQ {w:World} {b o:Nat} {v:Value} (h:w.cell? ⟨b,o,none⟩=some v):∃c t d,w.heap[b]?=some (.cells c t d)/\c[o]?=some v:=by
 unfold World.cell? at h;cases a:w.heap[b]? with
 | none=>simp[a] at h
 | some x=>
  cases x<;>simp[a] at h;exact⟨_,_,_,rfl,h⟩
theorem TA {w:World} {b o:Nat} {v:Value} {c:Array Value} {t:TypeId} {a:Nat×Nat} (h:w.heap[b]?=some (.cells c t a)) (hv:c[o]?=some v):w.cell? ⟨b,o,none⟩=some v:=by
 simp[World.cell?,h,hv]
theorem XP.refl (a:Nat->Nat->Prop) (d:Nat->Prop) (w:World):XP a d w w:=
 ⟨ZO _,λb c t e h=>⟨c,h,rfl,λ_ _=>rfl⟩,λ_ _ h _ _=>h,OsLater.refl _,rfl,rfl⟩
theorem Fits.keeps {g:Nat->Nat->Prop} {i:Nat->Prop} {w w':World} {H:Ψ} (d:Fits H w) (e:XP g i w w') (k:∀b o,g b o->¬H.has b o) (l:∀b,i b->¬H.X3 b):Fits H w':=by
 refine⟨λb o v p h=>?_,λb t n h=>?_,λb x h=>?_⟩
 .obtain⟨c,t,m,a,hv⟩:=RQ (d.ς b o v p h);obtain⟨c',f,_,r⟩:=e.cells b c t m a;exact TA f (by rw[r o λx=>k b o x ⟨_,h⟩];exact hv)
 .obtain⟨c,a,s⟩:=d.row b t n h;obtain⟨c',f,u,_⟩:=e.cells b c t _ a;exact⟨c',f,by rw[u,s]⟩
 .obtain⟨a,j⟩:=d.obj b x h;exact⟨e.TW b x a j λy=>l b y ⟨_,h⟩,j⟩
theorem Fits.at {H:Ψ} {w:World} (h:Fits H w) (d:Nat):Fits H (w.at d):=⟨h.ς,h.row,h.obj⟩
structure YQ (t:Trace) (c:Nat->Prop) (G:Ψ):Prop where
 ς:∀b o v p,G.ς b o=some (v,p)->∀i a,touchAt t i=some a->a.loc=.cell ⟨b,o,none⟩->(p=true\/a.write=true)->c i
 obj:∀b,G.X3 b->∀i a,touchAt t i=some a->a.loc=.obj b->c i
theorem YQ.mono {t:Trace} {e f:Nat->Prop} {G:Ψ} (h:YQ t e G) (g:∀i,e i->f i):YQ t f G:=
 ⟨λb o v p j i a c d k=>g i (h.ς b o v p j i a c d k),λb l i a c d=>g i (h.obj b l i a c d)⟩
def Tz (l:Loc) (b:Nat):Prop:=
 match l with
 | .cell a=>a.block=b
 | .obj r=>r=b
 | _=>False
def WV (G:Ψ) (n b:Nat) (e:Event):Prop:=
 match e.loc with
 | .cell a=>(n<=a.block/\a.block<b)\/(a.spot=none/\(if e.write then G.owns a.block a.off else G.has a.block a.off))
 | .obj r=>e.sync=false/\((n<=r/\r<b)\/G.X3 r)
 | .output=>True
 | .goroutines=>False
 | .mark m=>m=.noRoom
theorem TV {t u:Trace} {i:Nat} {a:Touch} (h:touchAt (t++u) i=some a):touchAt t i=some a\/(t.size<=i/\∃b∈u,(t++u)[i]?=some b/\b.act.touch?=some a):=by
 obtain⟨x,c,d⟩:=touch_of h;rcases getElem?_append_cases c with⟨_,e⟩|⟨f,g⟩
 .exact .inl (by rw[touchAt_of e];exact d)
 .exact .inr ⟨f,x,g,c,d⟩
theorem YQ.own {t u:Trace} {i:Nat} {G:Ψ} (h:YQ t (Knows t i) G) (m:∀c∈u,c.g=i):YQ (t++u) (Knows (t++u) i) G:=by
 refine⟨λb o v p n k a d e r=>?_,λb s k a d e=>?_⟩
 .rcases TV d with f|⟨_,c,j,l,_⟩
  .exact(h.ς b o v p n k a f e r).app u
  .have:=knows_own l;rwa [m c j] at this
 .rcases TV d with f|⟨_,c,j,l,_⟩
  .exact(h.obj b s k a f e).app u
  .have:=knows_own l;rwa [m c j] at this
theorem YQ.others {t u:Trace} {l m:Nat->Prop} {G:Ψ} (h:YQ t l G) (n:∀i,l i->m i)
  (r:∀c∈u,∀a,c.act.touch?=some a->(∀b o v p,a.loc=.cell ⟨b,o,none⟩->G.ς b o=some (v,p)->p=false/\a.write=false)/\∀b,a.loc=.obj b->¬G.X3 b):YQ (t++u) m G:=by
 refine⟨λb o v p s k a e d hw=>?_,λb w k a e d=>?_⟩
 .rcases TV e with f|⟨_,c,g,_,j⟩
  .exact n _ (h.ς b o v p s k a f d hw)
  .have:=((r c g a j).1 b o v p d s);rcases hw with hw|hw
   .rw[this.1] at hw;cases hw
   .rw[this.2] at hw;cases hw
 .rcases TV e with f|⟨_,c,g,_,j⟩
  .exact n _ (h.obj b w k a f d)
  .exact absurd w ((r c g a j).2 b d)
end Go.TL
namespace Go.TL
open Go.Conc
open Go.ConcN (sumTo upd sumTo_upd upd_ne upd_same sumTo_congr le_sumTo)
inductive UX where
 | idle|act (a:Bool)|q|wk|hw|own|YT (L:List Nat)|fin|uc|us|done
inductive Qi where
 | work|rel|l2|Ss|gone
inductive Q2 where
 | add|w3|w4|Ty|Z4
inductive Tok where
 | nil
 | par (n pend:Nat) (a:Q2)
 | ch (k:Nat) (b:UX) (c:Qi)
structure Spec where
 Z0:Option Nat
 Yi:List Nat->Ψ->Prop
 D:Nat->Ψ->Prop
 top:Nat
structure ν extends Spec where
 Zj:Nat
 wk:Nat
 sv:Nat
 nw:Nat
 YM:Nat
 L:List Nat
 cnt:Nat
 wt:Nat
 Y5:Nat
 YY:List Nat
def Nk:UX->Nat|.own|.YT _|.fin=>1|_=>0
def Wv:Tok->Nat|.ch _ m _=>Nk m|_=>0
def LW:UX->Nat|.us|.wk|.hw=>1|_=>0
def Tx:Tok->Nat|.ch _ m _=>LW m|_=>0
def Pw:UX->Nat|.act true=>1|_=>0
def Ux:Tok->Nat|.ch _ m _=>Pw m|_=>0
def Nj:UX->Nat|.q=>1|_=>0
def UW:Tok->Nat|.ch _ m _=>Nj m|_=>0
def LV:UX->Nat|.hw=>1|_=>0
def TU:Tok->Nat|.ch _ m _=>LV m|_=>0
def JB:UX->Nat|.wk=>1|_=>0
def RP:Tok->Nat|.ch _ m _=>JB m|_=>0
def Ni:UX->Nat|.wk|.hw=>1|_=>0
def UU:Tok->Nat|.ch _ m _=>Ni m|_=>0
def JA:UX->Nat|.us=>1|_=>0
def RO:Tok->Nat|.ch _ m _=>JA m|_=>0
def LU:UX->Nat|.uc=>1|_=>0
def Tw:Tok->Nat|.ch _ m _=>LU m|_=>0
def Q1:Qi->Nat|.work|.rel=>1|_=>0
def V5:Tok->Nat|.ch _ _ g=>Q1 g|_=>0
def Pv:Qi->Nat|.l2=>1|_=>0
def VC:Tok->Nat|.ch _ _ g=>Pv g|_=>0
def Pu:Qi->Nat|.Ss=>1|_=>0
def VB:Tok->Nat|.ch _ _ g=>Pu g|_=>0
def UT:Tok->Nat|.ch ..=>1|_=>0
def Yh:Tok->Nat|.par ..=>1|_=>0
def WU:Tok->Nat|.par _ p _=>p|_=>0
def Wu:Tok->Nat|.par n _ _=>n|_=>0
def Uw:Tok->Nat|.par _ _ .add=>1|_=>0
def US:Tok->Nat|.par _ _ .w3=>1|_=>0
def Wt:Tok->Nat|.par _ _ .w4|.par _ _ .Ty|.par _ _ .Z4=>1|_=>0
def Pt:UX->Nat
 | .idle=>20|.act false=>19|.act true=>18|.q=>12|.wk=>20|.hw=>19|.own=>14|.YT _=>13|.fin=>12|.uc=>11|.us=>10|.done=>0
def LS:Qi->Nat
 | .work=>6|.rel=>5|.l2=>4|.Ss=>3|.gone=>0
def Oz:Q2->Nat
 | .add=>8|.w3=>6|.w4=>3|.Ty=>3|.Z4=>0
def Uv (a:Nat):Tok->Nat
 | .nil=>0
 | .par n p b=>(a-n)*100+p*50+Oz b
 | .ch _ m w=>Pt m+LS w
def Z6 (N:Nat) (τ:Nat->Tok) (φ:Tok->Nat):Nat:=sumTo N λi=>φ (τ i)
theorem Xj {N i:Nat} (τ:Nat->Tok) (t:Tok) (φ:Tok->Nat) (h:i<N):Z6 N (upd τ i t) φ+φ (τ i)=Z6 N τ φ+φ t:=sumTo_upd τ t φ h
theorem XS {N i:Nat} (τ:Nat->Tok) (φ:Tok->Nat) (h:i<N):φ (τ i)<=Z6 N τ φ:=le_sumTo (f:=λi=>φ (τ i)) h
def Yn (N:Nat) (o:ν) (τ:Nat->Tok):Nat:=Z6 N τ (Uv o.top)+9*o.YM+2*o.Y5
structure Dg (a b c d e l f h i j g k m n:Nat):Prop where
 f1:a<=1
 f2:b<=1
 f3:c<=1
 HA:l=a
 tD:c=0->f+e+h=b/\j=0/\d+k+e=i
 tC:c=1->b=0/\h=0/\a+f+e=1/\d=i+g
 tB:c=0->a=0->0<d->b=0->0<m
 tA:k+g=f
 tz:j+n=g
structure Df (cnt wt a e f l2 b g h pend n add c d:Nat):Prop where
 f4:wt<=1
 Tv:h=1
 Jz:cnt=pend+f
 Hz:g+pend=n
 tx:n<=e
 tw:add=1->wt=0/\a=0/\l2=0/\b=0
 De:c=1->pend=0/\((wt=1/\b=0/\a=0/\((cnt=0/\l2=1)\/(0<cnt/\l2=0)))\/(wt=0/\cnt=0/\l2=0/\b+a=1))
 Hy:d=1->pend=0/\wt=0/\a=0/\cnt=0/\l2=0/\b=0
 tv:add+c+d=1
def Sr (N:Nat) (o:ν) (τ:Nat->Tok):Prop:=
 Dg o.Zj o.wk o.sv o.nw o.YM (Z6 N τ Wv) (Z6 N τ Tx) (Z6 N τ Ux) (Z6 N τ UW) (Z6 N τ TU) (Z6 N τ UU) (Z6 N τ RO) (Z6 N τ Tw) (Z6 N τ RP)
def SY (N:Nat) (o:ν) (τ:Nat->Tok):Prop:=
 Df o.cnt o.wt o.Y5 o.top (Z6 N τ V5) (Z6 N τ VC) (Z6 N τ VB) (Z6 N τ UT) (Z6 N τ Yh) (Z6 N τ WU) (Z6 N τ Wu) (Z6 N τ Uw) (Z6 N τ US) (Z6 N τ Wt)
def Qh (N:Nat) (o:ν) (τ:Nat->Tok):Prop:=Sr N o τ/\SY N o τ
inductive Act:ν->Tok->ν->Tok->Prop where
 | Dd {o k}:o.Zj=0->o.sv=0->o.wk=0->o.nw=0->Act o (.ch k .idle .work) {o with Zj:=1} (.ch k .own .work)
 | Dc {o k}:Act o (.ch k .idle .work) o (.ch k (.act false) .work)
 | acq {o k a}:o.Zj=0->o.sv=0->Act o (.ch k (.act a) .work) {o with Zj:=1,wk:=if a then 0 else o.wk} (.ch k .own .work)
 | Db {o k}:o.wk=0->0<o.nw->o.Zj=1->o.sv=0->Act o (.ch k (.act false) .work) {o with wk:=1} (.ch k (.act true) .work)
 | queue {o k a} (st:Bool):(o.Zj=1\/o.sv=1)->(st=true->a=true/\o.Zj=1)->Act o (.ch k (.act a) .work) {o with nw:=o.nw+1,wk:=if a then 0 else o.wk,sv:=if st then 1 else o.sv} (.ch k .q .work)
 | take {o k}:0<o.YM->Act o (.ch k .q .work) {o with YM:=o.YM-1} (.ch k .wk .work)
 | norm {o k}:o.sv=0->Act o (.ch k .wk .work) o (.ch k (.act true) .work)
 | hand {o k}:o.sv=1->Act o (.ch k .wk .work) o (.ch k .hw .work)
 | hacq {o k} (b:Bool):Act o (.ch k .hw .work) {o with Zj:=1,nw:=o.nw-1,sv:=if b then 0 else 1} (.ch k .own .work)
 | Da {o k}:o.sv=0->(o.nw=0\/o.wk=1)->Act o (.ch k .fin .work) {o with Zj:=0} (.ch k .done .work)
 | C' {o k}:o.sv=0->0<o.nw->o.wk=0->Act o (.ch k .fin .work) {o with Zj:=0} (.ch k .uc .work)
 | C9 {o k}:o.sv=1->Act o (.ch k .fin .work) {o with Zj:=0} (.ch k .us .work)
 | C8 {o k}:o.Zj=0->o.wk=0->o.sv=0->0<o.nw->Act o (.ch k .uc .work) {o with nw:=o.nw-1,wk:=1} (.ch k .us .work)
 | C7 {o k}:(o.nw=0\/o.Zj=1\/o.wk=1\/o.sv=1)->Act o (.ch k .uc .work) o (.ch k .done .work)
 | post {o k}:Act o (.ch k .us .work) {o with YM:=o.YM+1} (.ch k .done .work)
 | add {o n p}:n<o.top->Act o (.par n p .add) {o with cnt:=o.cnt+1} (.par (n+1) (p+1) .add)
 | thru {o n}:o.cnt=0->Act o (.par n 0 .add) o (.par n 0 .Ty)
 | Hx {o n}:0<o.cnt->Act o (.par n 0 .add) {o with wt:=1} (.par n 0 .w3)
 | wake {o n}:0<o.Y5->Act o (.par n 0 .w3) {o with Y5:=o.Y5-1} (.par n 0 .w4)
 | C6 {o k m}:o.cnt=1->o.wt=1->Act o (.ch k m .rel) {o with cnt:=o.cnt-1} (.ch k m .l2)
 | C5 {o k m}:(1<o.cnt\/o.wt=0)->Act o (.ch k m .rel) {o with cnt:=o.cnt-1} (.ch k m .gone)
 | C4 {o k m}:Act o (.ch k m .l2) {o with wt:=0} (.ch k m .Ss)
 | C3 {o k m}:Act o (.ch k m .Ss) {o with Y5:=o.Y5+1} (.ch k m .gone)
inductive Sq:ν->Tok->ν->Tok->Prop where
 | Jy {o k}:Sq o (.ch k .own .work) o (.ch k (.YT o.L) .work)
 | C2 {o k L}:Sq o (.ch k (.YT L) .work) {o with L:=o.L++[k]} (.ch k .fin .work)
 | C1 {o k m}:(m=.done\/(m=.idle/\o.Z0=none))->Sq o (.ch k m .work) {o with YY:=k::o.YY} (.ch k m .rel)
 | gtake {o n a}:(a=.Ty\/a=.w4)->Sq o (.par n 0 a) o (.par n 0 .Z4)
section
variable {N i:Nat} {o o':ν} {τ:Nat->Tok} {t t':Tok}
theorem Sp {φ:Tok->Nat} (a:∀t,Yh t=0->φ t=0) (h:Z6 N τ Yh=1) (hi:i<N) (c:Yh (τ i)=1):Z6 N τ φ=φ (τ i):=by
 have e:=Xj τ .nil Yh hi
 have d:=Xj τ .nil φ hi
 have z:Yh .nil=0:=rfl;rw[h,c,z] at e;rw[a .nil rfl] at d;have f:Z6 N (upd τ i .nil) Yh=0:=U;have:Z6 N (upd τ i .nil) φ=0:=by
  have g:∀n,Z6 n (upd τ i .nil) Yh=0->Z6 n (upd τ i .nil) φ=0:=λn=>by
   induction n with
   | zero=>exact λ_=>rfl
   | succ n b=>
    intro j;simp only[Z6,sumTo] at j b ⊢;have:=b U;have:=a (upd τ i .nil n) U;omega
  exact g N f
 omega
theorem C0 (h:Sr N o τ) (hi:i<N) (b:τ i=t) (c:Act o t o' t'):Sr N o' (upd τ i t'):=by
 unfold Sr at h ⊢;have d:=Xj τ t' Wv hi;have e:=XS τ Wv hi;have f:=Xj τ t' Tx hi;have l1:=XS τ Tx hi;have Χ:=Xj τ t' Ux hi;have l2:=XS τ Ux hi;have g:=Xj τ t' UW hi;have j:=XS τ UW hi;have k:=Xj τ t' TU hi;have l:=XS τ TU hi;have m:=Xj τ t' UU hi;have n:=XS τ UU hi;have p:=Xj τ t' RO hi;have r:=XS τ RO hi;have s:=Xj τ t' Tw hi;have u:=XS τ Tw hi;have v:=Xj τ t' RP hi;have w:=XS τ RP hi;rw[b] at v w d e f l1 Χ l2 g j k l m n p r s u;generalize Z6 N (upd τ i t') Wv=y at *;generalize Z6 N τ Wv=A at *;generalize Z6 N (upd τ i t') Tx=B at *;generalize Z6 N τ Tx=C at *;generalize Z6 N (upd τ i t') Ux=D at *;generalize Z6 N τ Ux=E at *;generalize Z6 N (upd τ i t') UW=F at *;generalize Z6 N τ UW=H at *;generalize Z6 N (upd τ i t') TU=I at *;generalize Z6 N τ TU=J at *;generalize Z6 N (upd τ i t') UU=K at *;generalize Z6 N τ UU=M at *;generalize Z6 N (upd τ i t') RO=O at *;generalize Z6 N τ RO=P at *;generalize Z6 N (upd τ i t') Tw=Q at *;generalize Z6 N τ Tw=R at *;generalize Z6 N (upd τ i t') RP=S at *;generalize Z6 N τ RP=T at *;clear b hi;obtain⟨⟨U,V,W,X⟩,Y,Z,aa,ab,ad,L,cnt,wt,ae,af⟩:=o;obtain⟨ag,ah,ai,aj,ak,al,am,an,ao⟩:=h;cases c<;>simp only[Wv,Tx,Ux,UW,TU,UU,RO,Tw,RP,JB,Nk,LW,Pw,Nj,LV,Ni,JA,LU,Nat.add_zero,VD] at *
 case acq a _ _=>cases a<;>simp only[Pw,if_true,if_false,Xu] at *<;>constructor<;>omega
 case queue a st _ ap=>
  cases a<;>cases st<;>simp only[Pw,if_true,if_false,Xu,false_and,true_and,imp_false,not_true_eq_false,forall_const] at *<;>constructor<;>omega
 case hacq x=>cases x<;>simp only[if_true,if_false,Xu] at *<;>constructor<;>omega
 all_goals (constructor<;>omega)
theorem CZ (h:SY N o τ) (hi:i<N) (a:τ i=t) (c:Act o t o' t'):SY N o' (upd τ i t'):=by
 unfold SY at h ⊢;have A:Yh t=1->Z6 N τ Wu=Wu t:=λb=>by rw[Sp (λt a=>by cases t<;>simp_all [Yh,Wu]) h.Tv hi (by rw[a];exact b),a]
 have B:Yh t=1->Z6 N τ WU=WU t:=λb=>by rw[Sp (λt a=>by cases t<;>simp_all [Yh,WU]) h.Tv hi (by rw[a];exact b),a]
 have d:=Xj τ t' V5 hi;have e:=XS τ V5 hi
 have f:=Xj τ t' VC hi;have l1:=XS τ VC hi
 have Χ:=Xj τ t' VB hi;have l2:=XS τ VB hi
 have g:=Xj τ t' UT hi;have j:=XS τ UT hi
 have k:=Xj τ t' Yh hi;have l:=XS τ Yh hi
 have m:=Xj τ t' WU hi;have n:=XS τ WU hi
 have p:=Xj τ t' Wu hi;have r:=XS τ Wu hi
 have s:=Xj τ t' Uw hi;have u:=XS τ Uw hi
 have v:=Xj τ t' US hi;have w:=XS τ US hi
 have x:=Xj τ t' Wt hi;have y:=XS τ Wt hi;rw[a] at d e f l1 Χ l2 g j k l m n p r s u v w x y;generalize Z6 N (upd τ i t') V5=C at *;generalize Z6 N τ V5=D at *;generalize Z6 N (upd τ i t') VC=E at *;generalize Z6 N τ VC=F at *;generalize Z6 N (upd τ i t') VB=H at *;generalize Z6 N τ VB=I at *;generalize Z6 N (upd τ i t') UT=J at *;generalize Z6 N τ UT=K at *;generalize Z6 N (upd τ i t') Yh=M at *;generalize Z6 N τ Yh=O at *;generalize Z6 N (upd τ i t') WU=P at *;generalize Z6 N τ WU=Q at *;generalize Z6 N (upd τ i t') Wu=R at *;generalize Z6 N τ Wu=S at *;generalize Z6 N (upd τ i t') Uw=T at *;generalize Z6 N τ Uw=U at *;generalize Z6 N (upd τ i t') US=V at *;generalize Z6 N τ US=W at *;generalize Z6 N (upd τ i t') Wt=X at *;generalize Z6 N τ Wt=Y at *;clear a hi;obtain⟨⟨Z,aa,ab,ad⟩,ae,af,ag,ah,ai,L,cnt,wt,aj,ak⟩:=o;obtain⟨al,am,an,ao,ap,aq,ar,au,av⟩:=h;cases c<;>simp only[V5,VC,VB,UT,Yh,WU,Wu,Uw,US,Wt,Q1,Pv,Pu,Nat.add_zero,VD,forall_const] at *
 all_goals (constructor<;>omega)
end
section
variable {N i:Nat} {o o':ν} {τ:Nat->Tok} {t t':Tok}
theorem Hw (o':ν) (a:o'.top=o.top) (hi:i<N) (b:τ i=t) (h:Uv o.top t'+9*o'.YM+2*o'.Y5<Uv o.top t+9*o.YM+2*o.Y5):Yn N o' (upd τ i t')<Yn N o τ:=by
 have e:=Xj τ t' (Uv o.top) hi;rw[b] at e;unfold Yn;rw[a];omega
theorem Hv (hi:i<N) (b:τ i=t) (c:Act o t o' t'):Yn N o' (upd τ i t')<Yn N o τ:=by
 cases c<;>refine Hw _ rfl hi b ?_
 case acq a _ _=>cases a<;>simp[Uv,Pt]
 case queue a _ _ _=>cases a<;>simp[Uv,Pt]
 case take=>simp[Uv,Pt];omega
 case add=>simp[Uv];omega
 case wake=>simp[Uv,Oz];omega
 all_goals (simp[Uv,Pt,LS,Oz]<;>omega)
theorem LR (hi:i<N) (a:τ i=t) (b:Sq o t o' t'):Yn N o' (upd τ i t')<Yn N o τ:=by
 cases b<;>refine Hw _ rfl hi a ?_
 case gtake d c=>rcases c with rfl|rfl<;>simp[Uv,Oz]
 all_goals (simp[Uv,Pt,LS,Oz]<;>omega)
theorem Jx {φ:Tok->Nat} (hi:i<N) (h:φ t'=φ (τ i)):Z6 N (upd τ i t') φ=Z6 N τ φ:=by
 have:=Xj τ t' φ hi;omega
theorem LQ (h:Sr N o τ) (hi:i<N) (a:τ i=t) (b:Sq o t o' t'):Sr N o' (upd τ i t'):=by
 unfold Sr at h ⊢;cases b<;>
 (repeat rw[Jx hi (by rw[a];rfl)])<;>exact h
theorem LP (h:SY N o τ) (hi:i<N) (a:τ i=t) (b:Sq o t o' t'):SY N o' (upd τ i t'):=by
 unfold SY at h ⊢;cases b
 case gtake d c=>rcases c with rfl|rfl<;>(repeat rw[Jx hi (by rw[a];rfl)])<;>exact h
 all_goals (repeat rw[Jx hi (by rw[a];rfl)])<;>exact h
theorem Ps (N:Nat) (τ:Nat->Tok) (φ:Tok->Nat):Z6 (N+1) τ φ=Z6 N τ φ+φ (τ N):=rfl
theorem Hu {φ:Tok->Nat} (a:φ .nil=0) (h:τ N=.nil):Z6 (N+1) τ φ=Z6 N τ φ:=by rw[Ps,h,a];rfl
theorem Ht (h:Qh N o τ) (a:τ N=.nil):Qh (N+1) o τ:=by
 unfold Qh Sr SY at h ⊢
 repeat rw[Hu (by rfl) a]
 exact h
theorem Hs (a:τ N=.nil):Yn (N+1) o τ=Yn N o τ:=by
 unfold Yn;rw[Hu (by rfl) a]
theorem CY {j n p:Nat} (h:Qh N o τ) (hi:i<N) (d:j<N) (e:i≠j) (f:τ i=.par n (p+1) .add) (g:τ j=.nil) (k:Nat) :
  Qh N o (upd (upd τ i (.par n p .add)) j (.ch k .idle .work)):=by
 have l:upd τ i (.par n p .add) j=.nil:=by rw[upd_ne _ _ (Y2 e)];exact g
 have a:∀φ:Tok->Nat,Z6 N (upd (upd τ i (.par n p .add)) j (.ch k .idle .work)) φ+φ .nil+φ (.par n (p+1) .add)=Z6 N τ φ+φ (.par n p .add)+φ (.ch k .idle .work):=λφ=>by
  have m:=Xj τ (.par n p .add) φ hi
  have Χ:=Xj (upd τ i (.par n p .add)) (.ch k .idle .work) φ d;rw[f] at m;rw[l] at Χ;omega
 obtain⟨b,c⟩:=h;constructor
 .unfold Sr at b ⊢;have f1:=a Wv;have f2:=a Tx;have f3:=a Ux;have f4:=a UW;have f5:=a TU;have f6:=a UU;have f7:=a RO;have f8:=a Tw;have f9:=a RP;simp only[Wv,Tx,Ux,UW,TU,UU,RO,Tw,RP,Nk,LW,Pw,Nj,LV,Ni,JA,LU,JB,Nat.add_zero] at f1 f2 f3 f4 f5 f6 f7 f8 f9;rw[f1,f2,f3,f4,f5,f6,f7,f8,f9];exact b
 .unfold SY at c ⊢;have f1:=a V5;have f2:=a VC;have f3:=a VB;have f4:=a UT;have f5:=a Yh;have f6:=a WU;have f7:=a Wu;have f8:=a Uw;have f9:=a US;have f10:=a Wt;simp only[V5,VC,VB,UT,Yh,WU,Wu,Uw,US,Wt,Q1,Pv,Pu,Nat.add_zero] at f1 f2 f3 f4 f5 f6 f7 f8 f9 f10;obtain⟨r,s,t,u,v,w,x,y,A⟩:=c;constructor<;>omega
theorem CX {j n p:Nat} (hi:i<N) (b:j<N) (c:i≠j) (d:τ i=.par n (p+1) .add) (e:τ j=.nil) (k:Nat) :
  Yn N o (upd (upd τ i (.par n p .add)) j (.ch k .idle .work))<Yn N o τ:=by
 have f:upd τ i (.par n p .add) j=.nil:=by rw[upd_ne _ _ (Y2 c)];exact e
 have a:=Xj τ (.par n p .add) (Uv o.top) hi
 have Χ:=Xj (upd τ i (.par n p .add)) (.ch k .idle .work) (Uv o.top) b;rw[d] at a;rw[f] at Χ;simp only[Uv,Pt,LS,Oz] at a Χ;unfold Yn;omega
theorem LO {φ:Tok->Nat} (h:0<Z6 N τ φ):∃i,i<N/\0<φ (τ i):=by
 have a:∀n,0<Z6 n τ φ->∃i,i<n/\0<φ (τ i):=λn=>by
  induction n with
  | zero=>intro h;cases h
  | succ n b=>
   intro h;rw[Ps] at h;by_cases c:0<φ (τ n)
   .exact⟨n,U,c⟩
   .obtain⟨i,hi,d⟩:=b U;exact⟨i,U,d⟩
 exact a N h
def SX:Tok->Prop
 | .ch _ .own _|.ch _ (.YT _) _|.ch _ .fin _|.ch _ .us _|.ch _ .wk _|.ch _ .hw _|.ch _ (.act true) _|.ch _ .uc _=>True
 | _=>False
theorem CW (h:Sr N o τ) (x:0<Z6 N τ UW) (y:o.YM=0):∃i,i<N/\SX (τ i):=by
 have pick:∀{φ:Tok->Nat},(∀t,0<φ t->SX t)->0<Z6 N τ φ->∃i,i<N/\SX (τ i):=λd e=>let ⟨i,hi,f⟩:=LO e;⟨i,hi,d _ f⟩
 have g:∀t,0<Wv t->SX t:=λt c=>by cases t<;>simp_all [Wv,SX];rename_i m _;cases m<;>simp_all [Nk]
 have j:∀t,0<Tx t->SX t:=λt c=>by cases t<;>simp_all [Tx,SX];rename_i m _;cases m<;>simp_all [LW]
 have k:∀t,0<Ux t->SX t:=λt c=>by cases t<;>simp_all [Ux,SX];rename_i m _;cases m<;>simp_all [Pw];rename_i b;cases b<;>simp_all [Pw]
 have l:∀t,0<Tw t->SX t:=λt c=>by cases t<;>simp_all [Tw,SX];rename_i m _;cases m<;>simp_all [LU]
 obtain⟨f1,f2,f3,A,n,p,r,B,C⟩:=h;by_cases s:0<Z6 N τ Wv
 .exact pick g s
 by_cases u:0<Z6 N τ Tx
 .exact pick j u
 by_cases v:0<Z6 N τ Ux
 .exact pick k v
 by_cases w:0<Z6 N τ Tw
 .exact pick l w
 exfalso;rcases(show o.sv=0\/o.sv=1 by omega) with a|a
 .have:=n a;have:=r a;omega
 .have:=p a;omega
def RN:Tok->Prop
 | .ch _ _ .work|.ch _ _ .rel|.ch _ _ .l2|.ch _ _ .Ss=>True
 | _=>False
theorem CV (h:SY N o τ) {n p:Nat} (hi:i<N) (a:τ i=.par n p .w3) (s:o.Y5=0):∃j,j<N/\RN (τ j):=by
 have pick:∀{φ:Tok->Nat},(∀t,0<φ t->RN t)->0<Z6 N τ φ->∃i,i<N/\RN (τ i):=λb c=>let ⟨i,hi,d⟩:=LO c;⟨i,hi,b _ d⟩
 have e:∀t,0<V5 t->RN t:=λt a=>by cases t<;>simp_all [V5,RN];rename_i m;cases m<;>simp_all [Q1]
 have f:∀t,0<VC t->RN t:=λt a=>by cases t<;>simp_all [VC,RN];rename_i m;cases m<;>simp_all [Pv]
 have g:∀t,0<VB t->RN t:=λt a=>by cases t<;>simp_all [VB,RN];rename_i m;cases m<;>simp_all [Pu]
 have w:=Sp (φ:=US) (λt a=>by cases t<;>simp_all [Yh,US]) h.Tv hi (by rw[a];rfl);rw[a] at w;have:=h.De w;have:=h.Jz;by_cases k:0<Z6 N τ V5
 .exact pick e k
 by_cases l:0<Z6 N τ VC
 .exact pick f l
 by_cases r:0<Z6 N τ VB
 .exact pick g r
 exfalso;omega
end
end Go.TL
namespace Go.TL
open Go.Conc
open Go.ConcM (OsLater)
open Go.ConcN (sumTo upd sumTo_upd upd_ne upd_same sumTo_congr le_sumTo)
open Go.ConcR (mk)
inductive Xr (B:Type):Type where
 | leaf
 | node (f:B->Xr B)
inductive TT {B:Type}:List (Xr B)->List (Xr B)->Prop where
 | one (a b:List (Xr B)) (f:B->Xr B) (k:B):TT (a++f k::b) (a++Xr.node f::b)
 | two (a b:List (Xr B)) (f:B->Xr B) (k c:B):TT (a++f k::f c::b) (a++Xr.node f::b)
theorem TT.cons_inv {B:Type} {l:List (Xr B)} {t:Xr B} {m:List (Xr B)} (h:TT m (t::l)) :
  (∃e,TT e l/\m=t::e)\/(∃f k,t=.node f/\m=f k::l)\/(∃f k d,t=.node f/\m=f k::f d::l):=by
 generalize c:t::l=x at h;cases h with
 | one a b f k=>
  cases a with
  | nil=>simp at c;exact .inr (.inl ⟨f,k,c.1,by rw[c.2];rfl⟩)
  | cons y a=>simp at c;exact .inl ⟨a++f k::b,by rw[c.2];exact .one a b f k,by rw[c.1];rfl⟩
 | two a b f k d=>
  cases a with
  | nil=>simp at c;exact .inr (.inr ⟨f,k,d,c.1,by rw[c.2];rfl⟩)
  | cons y a=>simp at c;exact .inl ⟨a++f k::f d::b,by rw[c.2];exact .two a b f k d,by rw[c.1];rfl⟩
theorem TT.CU {B:Type} (t:Xr B):∀l,Acc TT l->Acc TT (t::l):=by
 induction t with
 | leaf=>
  intro l a
  induction a with
  | intro l _ b=>
   refine⟨_,λm c=>?_⟩;rcases c.cons_inv with⟨d,e,rfl⟩|⟨f,k,h,_⟩|⟨f,k,i,h,_⟩
   .exact b d e
   .cases h
   .cases h
 | node f g=>
  intro l a
  induction a with
  | intro l j b=>
   refine⟨_,λm c=>?_⟩;rcases c.cons_inv with⟨d,e,rfl⟩|⟨f',k,h,rfl⟩|⟨f',k,i,h,rfl⟩
   .exact b d e
   .cases h;exact g k l ⟨l,j⟩
   .cases h;exact g k _ (g i l ⟨l,j⟩)
theorem TT.wf {B:Type}:WellFounded (TT (B:=B)):=⟨λl=>by
 induction l with
 | nil=>exact⟨_,λm a=>by
   generalize b:([]:List (Xr B))=x at a;cases a<;>simp at b⟩
 | cons t l c=>exact TT.CU t l c⟩
structure γ where
 G:Ψ
 η:Nat->Option (Array Value×TypeId)
 tok:Nat->Tok
 spec:Nat->Option Spec
 view:Nat->Option (Nat×ν)
 deaf:Nat
 rel:Bool
def Nh (V:Nat->Option (Array Value×TypeId)) (w:World):Prop:=∀b c t,V b=some (c,t)->w.heap[b]?=some (.cells c t (0,0))
def Zc (o:ν):Int:=(o.cnt:Int)*4294967296+o.wt
def mwd (o:ν):Int:=(o.Zj:Int)+2*o.wk+4*o.sv+8*o.nw
def At (s:Nat) (o:ν) (w:World):Prop:=
 (∃a,w.heap[s]?=some (.cells #[.int .u64 (Zc o),.int .u32 o.Y5] a (0,0)))/\∀m,o.Z0=some m->∃a,w.heap[m]?=some (.cells #[.int .i32 (mwd o),.int .u32 o.YM] a (0,0))
def Ys (s:Nat) (sp:Spec) (b:Nat):Prop:=b=s\/sp.Z0=some b
def Pr (o:ν) (t:Tok):Prop:=∃N τ i,Qh N o τ/\i<N/\τ i=t/\(∀k L g,t=.ch k (.YT L) g->o.L=L)
def Jw (x:γ) (s φ:Nat) (o:ν):Prop:=∀a b,x.view s=some (a,b)->φ<=a/\(φ=a->o=b)
structure Sub (G' G:Ψ):Prop where
 ς:∀b o v p,G'.ς b o=some (v,p)->∃a,G.ς b o=some (v,a)/\(p=true->a=true)
 row:∀b x,G'.row b=some x->G.row b=some x
 obj:∀b x,G'.obj b=some x->G.obj b=some x
structure Split (G a b:Ψ):Prop where
 l:Sub a G
 r:Sub b G
 apart:Apart a b
def join (G H:Ψ):Ψ:=
 ⟨λb o=>match G.ς b o with|some x=>some x|none=>H.ς b o,λb=>match G.row b with|some x=>some x|none=>H.row b,λb=>match G.obj b with|some x=>some x|none=>H.obj b⟩
def UR (c:Nat->Ψ->Prop):List Nat->Ψ->Prop
 | [],E=>E=Ψ.empty
 | k::d,E=>∃a b,c k a/\UR c d b/\Apart a b/\E=join a b
structure LN (G G':Ψ) (n:Nat):Prop where
 ς:∀b o v p,G'.ς b o=some (v,p)->n<=b\/∃c a,G.ς b o=some (c,a)/\(p=true->a=true)
 obj:∀b,G'.X3 b->n<=b\/G.X3 b
def Jv (V:Nat->Option (Array Value×TypeId)) (V':Nat->Option (Array Value×TypeId)) (G':Ψ) (n:Nat):Prop:=
 ∀b c,V' b=some c->V b=some c\/(n<=b/\G'.off b)
def LM (e:Event):Prop:=e.loc=.output\/e.loc=.mark .noRoom
def SW (s:Nat) (sp:Spec) (d:Nat) (es:Array Event):Prop:=
 deafBehind d es=d/\∀j e,es[j]?=some e->(e.loc=.mark .disable\/e.loc=.mark .enable\/(∃b a wr,e=⟨.cell ⟨b,a,none⟩,wr,true⟩/\Ys s sp b/\0<deafBehind d (es.extract 0 j)))
def VA (o:ν):Tok->Prop
 | .ch _ .q _=>o.YM=0
 | .par _ _ .w3=>o.Y5=0
 | _=>False
def TS:Tok->Prop
 | .nil=>True
 | .par _ _ .add|.par _ _ .Z4=>True
 | .ch _ .idle _|.ch _ .done _=>True
 | _=>False
def Xy:Tok->Prop
 | .nil=>True
 | .par _ _ .Z4=>True
 | _=>False
def Gone:Tok->Prop
 | .nil=>True
 | .par _ _ .Z4=>True
 | .ch _ _ .gone=>True
 | _=>False
abbrev Ng:=Bool->Goroutine->γ->Prop
def Wg (g:Goroutine):Prop:=g.status=.running/\g.offers=none
section
variable (P:Program) (mn:Bool) (YY:Ng) (g:Goroutine) (x:γ)
def Hr:Prop:=∀w,Fits x.G w->Nh x.η w->(stepG P mn g w).goes λg' w' es=>∃G' V',Wg g'/\XP x.G.owns x.G.X3 w w'/\Fits G' w'/\Nh V' w'/\
 LN x.G G' w.heap.size/\Jv x.η V' G' w.heap.size/\(∀e∈es,if x.rel then LM e else WV x.G w.heap.size w'.heap.size e)/\(∀b c,V' b=some c->w.heap.size<=b->∀e∈es,¬Tz e.loc b)/\YY mn g' {x with G:=G',η:=V'}
def Hq:Prop:=∃g',Wg g'/\((∀w,Fits x.G w->stepG P mn g w=.go g' w #[mk .disable]/\YY mn g' {x with deaf:=x.deaf+1})\/
 (0<x.deaf/\∀w,Fits x.G w->stepG P mn g w=.go g' w #[mk .enable]/\YY mn g' {x with deaf:=x.deaf-1}))
def Hp:Prop:=∃(s n p:Nat) (a:Q2) (g':Goroutine) (b:Nat) (wr:Bool),x.tok s=.par n p a/\a≠.Z4/\x.rel=false/\Wg g'/\∀w,Fits x.G w->stepG P mn g w=.go g' w #[mk (if wr then .write ⟨s,b,none⟩ else .read ⟨s,b,none⟩)]/\YY mn g' x
def Atom:Prop:=∃s sp,x.spec s=some sp/\¬Xy (x.tok s)/\∀w φ o,Fits x.G w->Nh x.η w->o.toSpec=sp->At s o w->Jw x s φ o->Pr o (x.tok s)->
 ((stepG P mn g w).goes λg' w' es=>Wg g'/\XP (λb _=>Ys s sp b) (λ_=>False) w w'/\SW s sp x.deaf es/\
   ((At s o w'/\YY mn g' {x with view:=upd x.view s (some (φ,o))})\/
    ∃o' t',Act o (x.tok s) o' t'/\At s o' w'/\(mayWake P g=true\/o'=o)/\∀a,a<φ->YY mn g' {x with tok:=upd x.tok s t',view:=upd x.view s (some (a,o'))}))\/
 (VA o (x.tok s)/\(∀c,c≠s->TS (x.tok c))/\stepG P mn g w=.go {g with status:=.blocked} w #[])
def Ho:Prop:=∃s sp m k g',x.spec s=some sp/\sp.Z0=some m/\x.tok s=.ch k .own .work/\x.deaf=0/\Wg g'/\x.rel=false/\
 (∀w,Fits x.G w->stepG P mn g w=.go g' w #[mk (.acquire ⟨m,0,none⟩)])/\
 ∀L E,sp.Yi L E->Apart x.G E->(L.Nodup/\k∉L/\∃w,Fits x.G w/\Fits E w)->YY mn g' {x with G:=join x.G E,tok:=upd x.tok s (.ch k (.YT L) .work),view:=upd x.view s none}
def Hn:Prop:=∃s sp m k L g' G' E,x.spec s=some sp/\sp.Z0=some m/\x.tok s=.ch k (.YT L) .work/\x.deaf=0/\Wg g'/\x.rel=false/\
 (∀w,Fits x.G w->stepG P mn g w=.go g' w #[mk (.releaseMerge ⟨m,0,none⟩)])/\
 Split x.G G' E/\sp.Yi (L++[k]) E/\YY mn g' {x with G:=G',tok:=upd x.tok s (.ch k .fin .work),view:=upd x.view s none}
def Hm:Prop:=∃s sp k a g' E,x.spec s=some sp/\x.tok s=.ch k a .work/\(a=.done\/(a=.idle/\sp.Z0=none))/\(∀b,b≠s->Xy (x.tok b))/\x.deaf=0/\Wg g'/\x.rel=false/\
 (∀w,Fits x.G w->stepG P mn g w=.go g' w #[mk (.releaseMerge ⟨s,0,none⟩)])/\
 Sub E x.G/\sp.D k E/\YY mn g' {x with G:=Ψ.empty,η:=λ_=>none,tok:=upd x.tok s (.ch k a .rel),view:=upd x.view s none,rel:=true}
def Hl:Prop:=∃s sp n c g',x.spec s=some sp/\x.tok s=.par n 0 c/\(c=.Ty\/c=.w4)/\x.deaf=0/\Wg g'/\x.rel=false/\
 (∀w,Fits x.G w->stepG P mn g w=.go g' w #[mk (.acquire ⟨s,0,none⟩)])/\
 ∀d e b a,d.Perm (List.range n)->UR sp.D d b->(sp.Z0≠none->e.Perm (List.range n)/\sp.Yi e a)->(sp.Z0=none->a=Ψ.empty)->Apart x.G b->Apart x.G a->Apart b a->(∃w,Fits x.G w/\Fits b w/\Fits a w)->
  YY mn g' {x with G:=join (join x.G b) a,tok:=upd x.tok s (.par n 0 .Z4),view:=upd x.view s none}
def Hk:Prop:=∃s sp n p g' c a b,x.spec s=some sp/\x.tok s=.par n (p+1) .add/\x.deaf=0/\Wg g'/\Wg c/\x.rel=false/\
 (∀w,Fits x.G w->stepG P mn g w=.spawn g' c w #[])/\Split x.G a b/\
 YY mn g' {x with G:=a,tok:=upd x.tok s (.par n p .add),view:=upd x.view s none}/\
 YY false c ⟨b,λ_=>none,upd (λ_=>.nil) s (.ch (n-(p+1)) .idle .work),upd (λ_=>none) s (some sp),λ_=>none,0,false⟩
def Ju:Prop:=
 (∃G',Sub G' x.G/\YY mn g {x with G:=G'})\/
 (∃b c t,x.η b=some (c,t)/\YY mn g {x with η:=upd x.η b none,G:=⟨λa o=>if a=b then(c[o]?).map (·,true) else x.G.ς a o,λa=>if a=b then some (t,c.size) else x.G.row a,x.G.obj⟩})\/
 (∃s sp d G' E,x.η s=some (#[.int .u64 0,.int .u32 0],d)/\(∀m,sp.Z0=some m->m≠s/\∃e,x.η m=some (#[.int .i32 0,.int .u32 0],e))/\x.rel=false/\
  Split x.G G' E/\(sp.Z0≠none->sp.Yi [] E)/\
  YY mn g {x with G:=G',η:=λb=>if b=s\/sp.Z0=some b then none else x.η b,tok:=upd x.tok s (.par 0 0 .add),spec:=upd x.spec s (some sp),view:=upd x.view s none})
def Hj:Prop:=mn=false/\g.status=.running/\x.rel=true/\(∀s,Gone (x.tok s))/\∃g' es,(∀e∈es,Event.mute e=true)/\(∀w,stepG P false g w=.go g' w es)/\YY mn g' {x with deaf:=deafBehind x.deaf es}
def Nf:Prop:=Hj P mn YY g x\/Wg g/\(Hr P mn YY g x\/Hq P mn YY g x\/Hp P mn YY g x\/Atom P mn YY g x\/Ho P mn YY g x\/Hn P mn YY g x\/Hm P mn YY g x\/Hl P mn YY g x\/Hk P mn YY g x\/Ju mn YY g x)
def Hi (a:Value->Prop):Prop:=Wg g/\(∀s,Xy (x.tok s))/\x.deaf=0/\∀w,Fits x.G w->∃v es,stepG P true g w=.ended (.done v) w es/\(∀e∈es,WV x.G w.heap.size w.heap.size e)/\a v
def CS:Prop:=x.rel=true/\(∀s,Gone (x.tok s))/\g.status=.finished/\x.deaf=0
def LL (a:Value->Prop):Prop:=(mn=true/\Hi P g x a)\/(mn=false/\CS g x)
def Nd:Prop:=x.rel=true->(∀s,Gone (x.tok s))->∃n,QuitsD P n x.deaf g
end
open Classical in
def VS (P:Program) (a:Value->Prop):Xr (Bool×Goroutine×γ)->Ng
 | .leaf=>λmn g x=>Nd P g x/\LL P mn g x a
 | .node f=>λmn g x=>Nd P g x/\(LL P mn g x a\/Nf P mn (λb g' c=>VS P a (f (b,g',c)) b g' c) g x)
def Goes (P:Program) (a:Value->Prop):Ng:=λmn g x=>∃T,VS P a T mn g x
theorem Nf.mono {P:Program} {mn:Bool} {K M:Ng} {g:Goroutine} {x:γ} (v:∀mn g x,K mn g x->M mn g x) (h:Nf P mn K g x):Nf P mn M g x:=by
 rcases h with⟨N,Χ,O,Q,g',es,R,S,T⟩|⟨U,h⟩
 .exact .inl ⟨N,Χ,O,Q,g',es,R,S,v _ _ _ T⟩
 refine .inr ⟨U,?_⟩;rcases h with h|h|h|h|h|h|h|h|h|h
 .refine .inl λw B hv=>?_;have:=h w B hv;revert this;cases stepG P mn g w<;>simp only[GStep.goes,imp_self];rintro⟨G',V',j,l,r,u,y,C,A,V,D⟩;exact⟨G',V',j,l,r,u,y,C,A,V,v _ _ _ D⟩
 .obtain⟨g',j,l⟩:=h;exact .inr (.inl ⟨g',j,l.elim (λh=>.inl λw B=>⟨(h w B).1,v _ _ _ (h w B).2⟩) (λh=>.inr ⟨h.1,λw B=>⟨(h.2 w B).1,v _ _ _ (h.2 w B).2⟩⟩)⟩)
 .obtain⟨s,n,p,I,g',W,wr,j,l,J,r,u⟩:=h;exact .inr (.inr (.inl ⟨s,n,p,I,g',W,wr,j,l,J,r,λw B=>⟨(u w B).1,v _ _ _ (u w B).2⟩⟩))
 .obtain⟨s,sp,j,J,r⟩:=h;refine .inr (.inr (.inr (.inl ⟨s,sp,j,J,λw φ o B hv X Y Z aa=>?_⟩)));refine(r w φ o B hv X Y Z aa).imp (λh=>?_) id;revert h;cases stepG P mn g w<;>simp only[GStep.goes,imp_self];rintro⟨j,l,r,u⟩;exact⟨j,l,r,u.imp (λh=>⟨h.1,v _ _ _ h.2⟩) λ⟨o',t',ab,ad,ae,af⟩=>⟨o',t',ab,ad,ae,λag ah=>v _ _ _ (af ag ah)⟩⟩
 .obtain⟨s,sp,m,k,g',j,l,r,u,y,F,C,A⟩:=h;exact .inr (.inr (.inr (.inr (.inl ⟨s,sp,m,k,g',j,l,r,u,y,F,C,λL E a b c=>v _ _ _ (A L E a b c)⟩))))
 .obtain⟨s,sp,m,k,L,g',G',E,j,l,r,u,y,F,C,A,D,H⟩:=h;exact .inr (.inr (.inr (.inr (.inr (.inl ⟨s,sp,m,k,L,g',G',E,j,l,r,u,y,F,C,A,D,v _ _ _ H⟩)))))
 .obtain⟨s,sp,k,ai,g',E,j,l,r,u,y,C,aj,A,D,H,ak⟩:=h;exact .inr (.inr (.inr (.inr (.inr (.inr (.inl ⟨s,sp,k,ai,g',E,j,l,r,u,y,C,aj,A,D,H,v _ _ _ ak⟩))))))
 .obtain⟨s,sp,n,I,g',j,l,r,u,y,F,C,A⟩:=h;exact .inr (.inr (.inr (.inr (.inr (.inr (.inr (.inl ⟨s,sp,n,I,g',j,l,r,u,y,F,C,λal am an ao a b c d e f g i=>v _ _ _ (A al am an ao a b c d e f g i)⟩)))))))
 .obtain⟨s,sp,n,p,g',c,ap,aq,j,l,r,u,y,F,C,A,D,H⟩:=h;exact .inr (.inr (.inr (.inr (.inr (.inr (.inr (.inr (.inl ⟨s,sp,n,p,g',c,ap,aq,j,l,r,u,y,F,C,A,v _ _ _ D,v _ _ _ H⟩))))))))
 .refine .inr (.inr (.inr (.inr (.inr (.inr (.inr (.inr (.inr ?_))))))));rcases h with⟨G',j,l⟩|⟨b,c,t,j,l⟩|⟨s,sp,ar,G',E,j,l,r,u,y,A⟩
  .exact .inl ⟨G',j,v _ _ _ l⟩
  .exact .inr (.inl ⟨b,c,t,j,v _ _ _ l⟩)
  .exact .inr (.inr ⟨s,sp,ar,G',E,j,l,r,u,y,v _ _ _ A⟩)
theorem Goes.stop {P:Program} {a:Value->Prop} {mn:Bool} {g:Goroutine} {x:γ} (b:Nd P g x) (h:LL P mn g x a):Goes P a mn g x:=⟨.leaf,b,h⟩
open Classical in
theorem Goes.step {P:Program} {a:Value->Prop} {mn:Bool} {g:Goroutine} {x:γ} (c:Nd P g x) (h:Nf P mn (Goes P a) g x):Goes P a mn g x:=by
 refine⟨.node λk=>if b:∃T,VS P a T k.1 k.2.1 k.2.2 then Classical.choose b else .leaf,c,.inr (h.mono λd g' e f=>?_)⟩;have b:∃T,VS P a T d g' e:=f;simp only[b,dif_pos];exact Classical.choose_spec b
theorem Goes.quits {P:Program} {i:Value->Prop} (n:Nat):∀{g:Goroutine} {x:γ},x.rel=true->(∀s,Gone (x.tok s))->QuitsD P n x.deaf g->Goes P i false g x:=by
 induction n with
 | zero=>
  intro g x b c a;exact .stop (λ_ _=>⟨0,a⟩) (.inr ⟨rfl,b,c,a.1,a.2⟩)
 | succ n j=>
  intro g x b c a;rcases a with a|⟨d,g',es,e,f,h⟩
  .exact .stop (λ_ _=>⟨0,a⟩) (.inr ⟨rfl,b,c,a.1,a.2⟩)
  .exact .step (λ_ _=>⟨n+1,.inr ⟨d,g',es,e,f,h⟩⟩) (.inl ⟨rfl,d,b,c,g',es,e,f,j (x:={x with deaf:=deafBehind x.deaf es}) b c h⟩)
abbrev Zi:=Nat ⊕ Nat
def ZI (H:Zi->Ψ) (h:Zi) (G:Ψ):Zi->Ψ:=λk=>if k=h then G else H k
@[simp] theorem YE (H:Zi->Ψ) (h:Zi) (G:Ψ):ZI H h G h=G:=by simp[ZI]
theorem ZH (H:Zi->Ψ) {h k:Zi} (G:Ψ) (a:k≠h):ZI H h G k=H k:=by simp[ZI,a]
structure Y1 where
 H:Zi->Ψ
 η:Nat->Nat->Option (Array Value×TypeId)
 tok:Nat->Nat->Tok
 spec:Nat->Nat->Option Spec
 view:Nat->Nat->Option (Nat×ν)
 deaf:Nat->Nat
 rel:Nat->Bool
 T:Nat->Xr (Bool×Goroutine×γ)
 O:Nat->Option ν
 ZA:Nat->Nat
 home:Nat->Nat
 Ya:Nat->Nat
def Y1.x (c:Y1) (i:Nat):γ:=⟨c.H (.inl i),c.η i,c.tok i,c.spec i,c.view i,c.deaf i,c.rel i⟩
structure W2 (H:Zi->Ψ) (a:Nat->Nat->Option (Array Value×TypeId)) (b:Nat->Option ν) (c w:World):Prop where
 fit:∀h,Fits (H h) w
 Uu:∀i,Nh (a i) w
 XH:∀s o,b s=some o->At s o w
 keep:XP (λ_ _=>False) (λ_=>False) c w
structure Ws (H:Zi->Ψ) (d:Nat->Nat->Option (Array Value×TypeId)) (a:Nat->Option ν) (c:Nat):Prop where
 apart:∀h k,h≠k->Apart (H h) (H k)
 high:∀h b o,(H h).owns b o->c<=b
 Tu:∀h b,(H h).X3 b->c<=b
 fresh:∀i b v,d i b=some v->c<=b/\(∀h,(H h).off b)/\∀j,j≠i->d j b=none
 Vm:∀s o b,a s=some o->Ys s o.toSpec b->c<=b/\(∀h,(H h).off b)/\∀j,d j b=none
 U':∀s e o o' b,a s=some o->a e=some o'->Ys s o.toSpec b->Ys e o'.toSpec b->s=e
 So:∀s o m,a s=some o->o.Z0=some m->m≠s
 Yq:∀b,(∀s o,a s=some o->¬Ys s o.toSpec b)->H (.inr b)=Ψ.empty
theorem W2.own {H:Zi->Ψ} {u:Nat->Nat->Option (Array Value×TypeId)} {y:Nat->Option ν} {A w w':World} {C:Nat} (p:W2 H u y A w) (k:Ws H u y C) (i:Nat) {G':Ψ} {V':Nat->Option (Array Value×TypeId)}
  (d:XP (H (.inl i)).owns (H (.inl i)).X3 w w') (L:Fits G' w') (hv:Nh V' w') (V:A.heap.size=C):W2 (ZI H (.inl i) G') (upd u i V') y A w':=by
 have D:∀h,h≠.inl i->(∀b o,(H (.inl i)).owns b o->¬(H h).has b o)/\∀b,(H (.inl i)).X3 b->¬(H h).X3 b:=λh e=>⟨(k.apart _ _ (Y2 e)).ς,(k.apart _ _ (Y2 e)).obj⟩;refine⟨λh=>?_,λj=>?_,λs o E=>?_,?_⟩
 .by_cases e:h=.inl i
  .subst e;rw[YE];exact L
  .rw[ZH _ _ e];exact(p.fit h).keeps d (D h e).1 (D h e).2
 .by_cases F:j=i
  .subst F;rw[upd_same];exact hv
  .rw[upd_ne _ _ F];intro b c t a;obtain⟨c',f,n,g⟩:=d.cells b c t _ (p.Uu j b c t a);have B:=(k.fresh j b _ a).2.1 (.inl i);have:c'=c:=by
    apply OD;intro o;exact g o λ⟨v,hv⟩=>B.1 o ⟨_,hv⟩
   rw[f,this]
 .have B:=λb (a:Ys s o.toSpec b)=>(k.Vm s o b E a).2.1 (.inl i)
  have I:∀b c t,Ys s o.toSpec b->w.heap[b]?=some (.cells c t (0,0))->w'.heap[b]?=some (.cells c t (0,0)):=λb c t a M=>by
   obtain⟨c',f,n,g⟩:=d.cells b c t _ M;have:c'=c:=by
    apply OD;intro o';exact g o' λ⟨v,hv⟩=>(B b a).1 o' ⟨_,hv⟩
   rw[f,this]
  obtain⟨⟨N,f⟩,n⟩:=p.XH s o E;exact⟨⟨N,I _ _ _ (.inl rfl) f⟩,λm J=>let ⟨O,g⟩:=n m J;⟨O,I _ _ _ (.inr J) g⟩⟩
 .have l:=p.keep;refine⟨Xs l.size d.size,λb c t K a=>?_,λb x a r _=>?_,l.os.trans d.os,d.output.trans l.output,d.tape.trans l.tape⟩
  .obtain⟨P,f,n,g⟩:=l.cells b c t K a;obtain⟨Q,R,S,T⟩:=d.cells b P t K f;refine⟨Q,R,by rw[S,n],λo _=>?_⟩;rw[T o λr=>?_,g o id];have:=k.high _ _ _ r;have:=XO a;omega
  .refine d.TW b x (l.TW b x a r id) r λU=>?_;have:=k.Tu _ _ U;have:=XO a;omega
theorem W2.at {H:Zi->Ψ} {a:Nat->Nat->Option (Array Value×TypeId)} {b:Nat->Option ν} {c w:World} (h:W2 H a b c w) (d:Nat):W2 H a b c (w.at d):=
 ⟨λk=>(h.fit k).at d,h.Uu,h.XH,⟨h.keep.size,h.keep.cells,h.keep.TW,h.keep.os,h.keep.output,h.keep.tape⟩⟩
theorem Ws.own {H:Zi->Ψ} {y:Nat->Nat->Option (Array Value×TypeId)} {K:Nat->Option ν} {O:Nat} {w:World} {ad:World} (g:Ws H y K O) (L:W2 H y K ad w) (al:O<=w.heap.size) (i:Nat) {G':Ψ} {V':Nat->Option (Array Value×TypeId)}
  (C:LN (H (.inl i)) G' w.heap.size) (P:Jv (y i) V' G' w.heap.size):Ws (ZI H (.inl i) G') (upd y i V') K O:=by
 have W:∀b o,G'.has b o->w.heap.size<=b\/(H (.inl i)).has b o:=λb o ⟨⟨v,p⟩,h⟩=>(C.ς b o v p h).imp id λ⟨X,ae,Q,_⟩=>⟨_,Q⟩
 have Y:∀b o,G'.owns b o->w.heap.size<=b\/(H (.inl i)).owns b o:=λb o ⟨v,h⟩=>(C.ς b o v true h).imp id λ⟨X,ae,Q,af⟩=>⟨X,by rw[Q,af rfl]⟩
 have R:∀h b o,(H h).has b o->b<w.heap.size:=λh b o ⟨⟨v,p⟩,m⟩=>by
  obtain⟨c,t,am,hb,_⟩:=RQ ((L.fit h).ς b o v p m);exact XO hb
 have Z:∀h b,(H h).X3 b->b<w.heap.size:=λh b ⟨x,m⟩=>XO ((L.fit h).obj b x m).1
 have aa:∀k,k≠.inl i->Apart G' (H k):=λk D=>by
  have a:=g.apart _ _ (Y2 D);refine⟨λb o d m=>?_,λb o d m=>?_,λb d m=>?_⟩
  .rcases Y b o d with h|h
   .have:=R k b o m;omega
   .exact a.ς b o h m
  .rcases W b o m with h|h
   .have:=R k b o (let ⟨v,hv⟩:=d;⟨_,hv⟩);omega
   .exact a.RR b o d h
  .rcases C.obj b d with h|h
   .have:=Z k b m;omega
   .exact a.obj b h m
 have ag:∀{A B:Ψ},Apart A B->Apart B A:=λh=>⟨h.RR,h.ς,λb hb ah=>h.obj b ah hb⟩
 have S:∀b,b<w.heap.size->(H (.inl i)).off b->G'.off b:=λb hb h=>⟨λo d=>(W b o d).elim (λx=>U) (h.1 o),λd=>(C.obj b d).elim (λx=>U) h.2⟩
 have T:∀j b v,y j b=some v->b<w.heap.size:=λj b v hv=>XO (L.Uu j b v.1 v.2 hv)
 have ai:∀s o b,K s=some o->Ys s o.toSpec b->b<w.heap.size:=λs o b M hb=>by
  obtain⟨⟨an,N⟩,V⟩:=L.XH s o M;rcases hb with rfl|hb
  .exact XO N
  .obtain⟨ao,aj⟩:=V b hb;exact XO aj
 refine⟨λh k D=>?_,λh b o d=>?_,λh b d=>?_,λj b v hv=>?_,λs o b M hb=>?_,g.U',g.So,λb hb=>?_⟩
 .by_cases e:h=.inl i
  .subst e;rw[YE,ZH _ _ (Y2 D)];exact aa k (Y2 D)
  .by_cases kk:k=.inl i
   .subst kk;rw[YE,ZH _ _ e];exact ag (aa h e)
   .rw[ZH _ _ e,ZH _ _ kk];exact g.apart h k D
 .by_cases e:h=.inl i
  .subst e;rw[YE] at d;rcases Y b o d with h|h
   .omega
   .exact g.high _ _ _ h
  .rw[ZH _ _ e] at d;exact g.high _ _ _ d
 .by_cases e:h=.inl i
  .subst e;rw[YE] at d;rcases C.obj b d with h|h
   .omega
   .exact g.Tu _ _ h
  .rw[ZH _ _ e] at d;exact g.Tu _ _ d
 .by_cases ab:j=i
  .subst ab;rw[upd_same] at hv;rcases P b v hv with h|⟨N,V⟩
   .obtain⟨E,n,r⟩:=g.fresh j b v h;refine⟨E,λf=>?_,λl u=>by rw[upd_ne _ _ u];exact r l u⟩;by_cases e:f=.inl j
    .subst e;rw[YE];exact S b (T j b v h) (n _)
    .rw[ZH _ _ e];exact n _
   .refine⟨U,λf=>?_,λl u=>?_⟩
    .by_cases e:f=.inl j
     .subst e;rw[YE];exact V
     .rw[ZH _ _ e];exact⟨λo d=>by have:=R f b o d;omega,λd=>by have:=Z f b d;omega⟩
    .rw[upd_ne _ _ u];cases F:y l b with
     | none=>rfl
     | some I=>have:=T l b I F;omega
  .rw[upd_ne _ _ ab] at hv;obtain⟨E,n,r⟩:=g.fresh j b v hv;have hb:=T j b v hv;refine⟨E,λf=>?_,λl u=>?_⟩
   .by_cases e:f=.inl i
    .subst e;rw[YE];exact S b hb (n _)
    .rw[ZH _ _ e];exact n _
   .by_cases f:l=i
    .subst f;rw[upd_same];cases F:V' b with
     | none=>rfl
     | some I=>
      rcases P b I F with h|⟨N,_⟩
      .rw[r l u] at h;cases h
      .omega
    .rw[upd_ne _ _ f];exact r l u
 .obtain⟨E,n,r⟩:=g.Vm s o b M hb;have ak:=ai s o b M hb;refine⟨E,λf=>?_,λl=>?_⟩
  .by_cases e:f=.inl i
   .subst e;rw[YE];exact S b ak (n _)
   .rw[ZH _ _ e];exact n _
  .by_cases f:l=i
   .subst f;rw[upd_same];cases F:V' b with
    | none=>rfl
    | some I=>
     rcases P b I F with h|⟨N,_⟩
     .rw[r l] at h;cases h
     .omega
   .rw[upd_ne _ _ f];exact r l
 .rw[ZH _ _ J];exact g.Yq b hb
def VR (tok:Nat->Nat->Tok) (c:Nat->Option ν) (t:Trace):Zi->Nat->Prop
 | .inl i,k=>Knows t i k
 | .inr b,k=>(∃p a,t[p]?=some a/\a.act=.mark (.releaseMerge ⟨b,0,none⟩)/\t.heard p/\Before t k p)\/(∀s o,c s=some o->Ys s o.toSpec b->∀i,tok i s≠.nil->Knows t i k)
theorem Jt {tok:Nat->Nat->Tok} {a:Nat->Option ν} {t:Trace} (u:Trace) {h:Zi} {k:Nat} (c:VR tok a t h k):VR tok a (t++u) h k:=by
 cases h with
 | inl i=>exact Knows.app u c
 | inr b=>
  rcases c with⟨p,f,d,g,j,l⟩|h
  .have e:=lt_size_of_getElem? d;exact .inl ⟨p,f,by rw[getElem?_append_old e];exact d,g,(heard_old e).2 j,l.app u⟩
  .exact .inr λs o m n i hi=>(h s o m n i hi).app u
structure Wf (H:Zi->Ψ) (e:Nat->Nat->Option (Array Value×TypeId)) (tok:Nat->Nat->Tok) (d:Nat->Option ν) (f:Nat->Nat) (g:Nat->Nat) (N:Nat) (t:Trace):Prop where
 race:∀j,¬Race j t
 low:∀c∈t,c.act.low N
 norel:∀c∈t,∀a,c.act≠.mark (.release a)
 perms:∀h,YQ t (VR tok d t h) (H h)
 SV:∀i b v,e i b=some v->∀k a,touchAt t k=some a->¬Tz a.loc b
 cont:∀s o b,d s=some o->Ys s o.toSpec b->∀k a,touchAt t k=some a->Tz a.loc b->a.kind=.atomic\/(a.kind=.said/\t.g? k=some (f s))
 hears:∀i,Deaf t i=g i
theorem Nc {t:Trace} {N k:Nat} {a:Touch} (h:∀f∈t,f.act.low N) (j:touchAt t k=some a) {b:Nat} (c:Tz a.loc b):b<N:=by
 obtain⟨f,l,d⟩:=touch_of j;have i:=h f (mem_of_getElem? l);obtain⟨g,fn,pos,n⟩:=f;cases n with
 | access e=>
  simp only[MemAct.touch?,Q8] at d;subst d;obtain⟨o,wr,p⟩:=e;cases o<;>simp only[Tz] at c<;>first|(subst c;exact i)|exact c.elim
 | mark m=>
  cases m<;>simp only[MemAct.touch?,Q8,reduceCtorEq] at d<;>(subst d;simp only[Tz] at c;subst c;exact i)
 | _=>simp[MemAct.touch?] at d
theorem LM.Js {G:Ψ} {n a:Nat} {e:Event} (h:LM e):WV G n a e:=by
 rcases h with h|h<;>simp[WV,h]
theorem LK {G:Ψ} {n f:Nat} {e:Event} (c:WV G n f e) {a:Touch} (b:(MemAct.ofEvent e).touch?=some a) :
  a.loc=e.loc/\a.write=e.write/\(a.loc.isMemory=true->(∃d,e.loc=.cell d)\/∃r,e.loc=.obj r):=by
 obtain⟨g,wr,h⟩:=e;cases g with
 | cell d=>simp[MemAct.ofEvent,MemAct.touch?] at b;subst b;simp
 | obj r=>
  simp only[WV] at c;obtain⟨rfl,_⟩:=c;cases wr<;>simp[MemAct.ofEvent,MemAct.touch?] at b<;>subst b<;>simp
 | output=>simp[MemAct.ofEvent,MemAct.touch?] at b;subst b;simp[Loc.isMemory]
 | goroutines=>exact c.elim
 | mark m=>simp only[WV] at c;subst c;simp[MemAct.ofEvent,MemAct.touch?] at b
theorem Wf.own {H:Zi->Ψ} {M:Nat->Nat->Option (Array Value×TypeId)} {tok:Nat->Nat->Tok} {P:Nat->Option ν} {ah:Nat->Nat} {ai:Nat->Nat} {ap w w':World} {aq:Nat} {t:Trace}
  (l:Wf H M tok P ah ai w.heap.size t) (U:W2 H M P ap w) (V:Ws H M P aq) (i:Nat) {G':Ψ} {V':Nat->Option (Array Value×TypeId)} {es:Array Event} {fn:FuncId} {pos:String}
  (ar:w.heap.size<=w'.heap.size) (aj:LN (H (.inl i)) G' w.heap.size) (ak:Jv (M i) V' G' w.heap.size)
  (E:∀e∈es,WV (H (.inl i)) w.heap.size w'.heap.size e) (au:∀b c,V' b=some c->w.heap.size<=b->∀e∈es,¬Tz e.loc b) :
  Wf (ZI H (.inl i) G') (upd M i V') tok P ah ai w'.heap.size (t++MemOp.ofEvents i fn pos es):=by
 have Q:∀B∈MemOp.ofEvents i fn pos es,B.g=i:=λB n=>by obtain⟨e,_,rfl⟩:=Go.Conc.mem_ofEvents n;rfl
 have W:∀h b o,(H h).has b o->b<w.heap.size:=λh b o ⟨⟨v,p⟩,C⟩=>by
  obtain⟨c,t,aF,hb,_⟩:=RQ ((U.fit h).ς b o v p C);exact XO hb
 have al:∀h b,(H h).X3 b->b<w.heap.size:=λh b ⟨x,C⟩=>XO ((U.fit h).obj b x C).1
 have am:∀j b v,M j b=some v->b<w.heap.size:=λj b v hv=>XO (U.Uu j b v.1 v.2 hv)
 have av:∀s o b,P s=some o->Ys s o.toSpec b->b<w.heap.size:=λs o b R hb=>by
  obtain⟨⟨aG,D⟩,S⟩:=U.XH s o R;rcases hb with rfl|hb
  .exact XO D
  .obtain⟨aH,X⟩:=S b hb;exact XO X
 have Y:∀e∈es,∀b,b<w.heap.size->(H (.inl i)).off b->¬Tz e.loc b:=λe f b hb Z u=>by
  have:=E e f;obtain⟨T,wr,aa⟩:=e;cases T with
  | cell N=>
   simp only[Tz] at u;subst u;simp only[WV] at this;rcases this with h|⟨_,h⟩
   .omega
   .cases wr
    .exact Z.1 _ h
    .obtain⟨v,hv⟩:=h;exact Z.1 _ ⟨_,hv⟩
  | obj r=>
   simp only[Tz] at u;subst u;simp only[WV] at this;rcases this.2 with h|h
   .omega
   .exact Z.2 h
  | _=>exact u
 refine⟨λaw=>noRace_append (l.race aw) Q λk a y B n b hb K=>?_,λB n=>?_,λB n=>?_,λh=>?_,λj b v hv k a y u=>?_,λs o b R hb k a y u=>?_,λj=>?_⟩
 .obtain⟨e,f,rfl⟩:=Go.Conc.mem_ofEvents n;obtain⟨D,S,X⟩:=LK (E e f) hb;obtain⟨ab,ax,ay,_⟩:=K;have d:=E e f;rcases X (by rw[<-ab];exact ax) with⟨N,A⟩|⟨r,A⟩
  .simp only[WV,A] at d;have O:a.loc=.cell N:=by rw[ab,D,A]
   rcases d with h|⟨an,h⟩
   .have:=Nc l.low y (b:=N.block) (by rw[O];rfl);omega
   .obtain⟨aI,aJ,sp⟩:=N;simp only at an;subst an;by_cases I:e.write=true
    .rw[if_pos I] at h;obtain⟨v,hv⟩:=h;exact(l.perms (.inl i)).ς _ _ v true hv k a y O (.inl rfl)
    .rw[if_neg I] at h;obtain⟨⟨v,p⟩,hv⟩:=h;exact(l.perms (.inl i)).ς _ _ v p hv k a y O (.inr (ay.resolve_right (by rw[S];exact I)))
  .simp only[WV,A] at d;have O:a.loc=.obj r:=by rw[ab,D,A]
   rcases d.2 with h|h
   .have:=Nc l.low y (b:=r) (by rw[O];rfl);omega
   .exact(l.perms (.inl i)).obj r h k a y O
 .rcases S1.1 n with h|h
  .exact MemAct.low_mono ar (l.low B h)
  .obtain⟨e,f,rfl⟩:=Go.Conc.mem_ofEvents h;have d:=E e f;obtain⟨T,wr,aa⟩:=e;cases T with
   | cell N=>
    simp only[WV] at d;show N.block<_;rcases d with h|⟨_,h⟩
    .exact h.2
    .cases wr
     .have:=W _ _ _ h;omega
     .obtain⟨v,hv⟩:=h;have:=W (.inl i) _ _ ⟨_,hv⟩;omega
   | obj r=>
    simp only[WV] at d;obtain⟨rfl,d⟩:=d;have az:r<w'.heap.size:=d.elim (λh=>h.2) (λh=>by have:=al _ _ h;omega);cases wr<;>exact az
   | output=>trivial
   | goroutines=>exact d.elim
   | mark m=>simp only[WV] at d;subst d;trivial
 .rcases S1.1 n with h|h
  .exact l.norel B h
  .obtain⟨e,f,rfl⟩:=Go.Conc.mem_ofEvents h;intro a h;have d:=E e f;obtain⟨T,wr,aa⟩:=e;cases T with
   | mark m=>simp only[WV] at d;subst d;simp[MemAct.ofEvent] at h
   | obj r=>cases wr<;>cases aa<;>simp[MemAct.ofEvent] at h
   | _=>simp[MemAct.ofEvent] at h
 .by_cases ad:h=.inl i
  .subst ad;rw[YE];have ao:YQ (t++MemOp.ofEvents i fn pos es) (Knows (t++MemOp.ofEvents i fn pos es) i) (H (.inl i)):=(l.perms (.inl i)).own Q;refine⟨λb o v p K k a y A I=>?_,λb hb k a y A=>?_⟩
   .rcases aj.ς b o v p K with aA|⟨aB,aC,ae,aD⟩
    .rcases TV y with F|⟨_,B,n,L,_⟩
     .have:=Nc l.low F (b:=b) (by rw[A];rfl);omega
     .have:=knows_own L;rwa [Q B n] at this
    .exact ao.ς b o aB aC ae k a y A (I.imp aD id)
   .rcases aj.obj b hb with aA|ae
    .rcases TV y with F|⟨_,B,n,L,_⟩
     .have:=Nc l.low F (b:=b) (by rw[A];rfl);omega
     .have:=knows_own L;rwa [Q B n] at this
    .exact ao.obj b ae k a y A
  .rw[ZH _ _ ad];have af:=V.apart _ _ (Y2 ad);refine(l.perms h).others (λk L=>Jt _ L) λB n a y=>?_;obtain⟨e,f,rfl⟩:=Go.Conc.mem_ofEvents n;obtain⟨D,S,_⟩:=LK (E e f) y;have d:=E e f;refine⟨λb o v p A K=>?_,λb A hb=>?_⟩
   .simp only[WV,<-D,A] at d;rcases d with C|⟨_,C⟩
    .have:=W h b o ⟨_,K⟩;omega
    .by_cases I:e.write=true
     .rw[if_pos I] at C;exact absurd ⟨_,K⟩ (af.ς b o C)
     .rw[if_neg I] at C;refine⟨?_,by rw[S];simpa using I⟩;cases p with
      | false=>rfl
      | true=>exact absurd C (af.RR b o ⟨v,K⟩)
   .simp only[WV,<-D,A] at d;rcases d.2 with C|C
    .have:=al h b hb;omega
    .exact af.obj b C hb
 .rcases TV y with F|⟨_,B,n,_,ag⟩
  .have hb:=Nc l.low F u;by_cases J:j=i
   .subst J;rw[upd_same] at hv;rcases ak b v hv with h|h
    .exact l.SV j b v h k a F u
    .omega
   .rw[upd_ne _ _ J] at hv;exact l.SV j b v hv k a F u
  .obtain⟨e,f,rfl⟩:=Go.Conc.mem_ofEvents n;obtain⟨D,_,_⟩:=LK (E e f) ag;rw[D] at u;by_cases J:j=i
   .subst J;rw[upd_same] at hv;rcases ak b v hv with h|h
    .exact Y e f b (am j b v h) ((V.fresh j b v h).2.1 _) u
    .exact au b v hv h.1 e f u
   .rw[upd_ne _ _ J] at hv;exact Y e f b (am j b v hv) ((V.fresh j b v hv).2.1 _) u
 .rcases TV y with F|⟨_,B,n,_,ag⟩
  .rcases l.cont s o b R hb k a F u with h|⟨h,L⟩
   .exact .inl h
   .obtain⟨B,aE,_⟩:=touch_of F;exact .inr ⟨h,by rw[g?_old (lt_size_of_getElem? aE)];exact L⟩
  .obtain⟨e,f,rfl⟩:=Go.Conc.mem_ofEvents n;obtain⟨D,_,_⟩:=LK (E e f) ag;rw[D] at u;exact absurd u (Y e f b (av s o b R hb) ((V.Vm s o b R hb).2.1 _))
 .by_cases J:i=j
  .subst J;rw[Deaf_own,deafBehind_still (λe f=>?_)]
   .exact l.hears i
   .have d:=E e f;constructor<;>intro A<;>simp[WV,A] at d
  .rw[Deaf_other t J _ Q];exact l.hears j
def SU:UX->Prop
 | .fin|.uc|.us|.done=>True
 | _=>False
def Zz (tok:Nat->Nat->Tok) (i s:Nat) (t:Tok):Nat->Nat->Tok:=upd tok i (upd (tok i) s t)
theorem X2 (tok:Nat->Nat->Tok) (i s:Nat) (t:Tok):Zz tok i s t i s=t:=by simp[Zz,upd]
theorem X' {tok:Nat->Nat->Tok} {i s j r:Nat} (t:Tok) (h:¬(j=i/\r=s)):Zz tok i s t j r=tok j r:=by
 unfold Zz upd;by_cases a:j=i
 .subst a;by_cases b:r=s
  .exact absurd ⟨rfl,b⟩ h
  .simp[b]
 .simp[a]
theorem Hh (tok:Nat->Nat->Tok) (i s:Nat) (t:Tok):(λj=>Zz tok i s t j s)=upd (λj=>tok j s) i t:=by
 funext j
 by_cases a:j=i
 .subst a;rw[X2,upd_same]
 .rw[X' _ (λh=>a h.1),upd_ne _ _ a]
theorem Jr (tok:Nat->Nat->Tok) (i s:Nat) (t:Tok) {r:Nat} (a:r≠s):(λj=>Zz tok i s t j r)=λj=>tok j r:=by
 funext j;rw[X' _ (λh=>a h.2)]
structure Yj (n:Nat) (tok:Nat->Nat->Tok) (spec:Nat->Nat->Option Spec) (h:Nat->Nat->Option (Nat×ν)) (d:Nat->Bool) (a:Nat->Option ν) (e b:Nat->Nat):Prop where
 ζ:∀s o,a s=some o->Qh n o (λi=>tok i s)
 bare:∀s,a s=none->∀i,tok i s=.nil
 out:∀i s,n<=i->tok i s=.nil
 RL:∀i s sp,spec i s=some sp->∃o,a s=some o/\o.toSpec=sp
 Pq:∀i s φ o,h i s=some (φ,o)->∃c,a s=some c/\Yn n c (λj=>tok j s)<=φ/\(Yn n c (λj=>tok j s)=φ->c=o)
 YT:∀i s k L g o,a s=some o->tok i s=.ch k (.YT L) g->o.L=L
 par:∀i s m p f,tok i s=.par m p f->i=e s
 SS:∀i s k m g,tok i s=.ch k m g->i≠0/\b i=s/\e s<i
 Q0:∀i,i≠0->i<n->∃k m g,tok i (b i)=.ch k m g
 Sn:∀i k m g,i≠0->tok i (b i)=.ch k m g->(d i=true↔g≠.work)
 Qg:d 0=false
 SR:∀i s,d i=true->s≠b i->Xy (tok i s)
 SQ:∀i s k m g o,a s=some o->tok i s=.ch k m g->g≠.work->m=.done\/(m=.idle/\o.Z0=none)
 Pp:∀s i j k m g l g',tok i s=.ch k m g->tok j s=.ch k l g'->i=j
 Qf:∀s i k m g q p f,tok i s=.ch k m g->tok (e s) s=.par q p f->k+p<q
 SP:∀s o,a s=some o->o.L.Nodup/\∀k,k∈o.L↔∃i m g,tok i s=.ch k m g/\SU m
 RK:∀s o,a s=some o->o.YY.Nodup/\∀k,k∈o.YY↔∃i m g,tok i s=.ch k m g/\g≠.work
def Alike (t t':Tok):Prop:=(∃m p c a b d,t=.par m p c/\t'=.par a b d/\∀k,k+p<m->k+b<a)\/(∃k m g a g',t=.ch k m g/\t'=.ch k a g')
section
variable {n:Nat} {tok:Nat->Nat->Tok} {spec:Nat->Nat->Option Spec} {view:Nat->Nat->Option (Nat×ν)} {rel:Nat->Bool} {O:Nat->Option ν} {ZA home:Nat->Nat}
theorem Yj.lt (h:Yj n tok spec view rel O ZA home) {i s:Nat} (a:tok i s≠.nil):i<n:=Nat.lt_of_not_le λb=>a (h.out i s b)
theorem Yj.change (h:Yj n tok spec view rel O ZA home) {s i:Nat} {o o':ν} {t t':Tok} {K:Nat->Bool} {V:Nat->Option (Nat×ν)} (T:O s=some o) (M:tok i s=t) (N:Alike t t')
  (ab:Qh n o' (upd (λj=>tok j s) i t')) (av:Yn n o' (upd (λj=>tok j s) i t')<Yn n o (λj=>tok j s)) (ad:o'.toSpec=o.toSpec)
  (ae:∀r φ q,V r=some (φ,q)->(r=s/\φ=Yn n o' (upd (λj=>tok j s) i t')/\q=o')\/(r≠s/\view i r=some (φ,q)))
  (af:∀j k L g,Zz tok i s t' j s=.ch k (.YT L) g->o'.L=L)
  (ag:∀j k m g,j≠0->Zz tok i s t' j (home j)=.ch k m g->(K j=true↔g≠.work)) (ah:K 0=false)
  (ai:∀j r,K j=true->r≠home j->Xy (Zz tok i s t' j r))
  (aj:∀j k m g,Zz tok i s t' j s=.ch k m g->g≠.work->m=.done\/(m=.idle/\o'.Z0=none))
  (ak:o'.L.Nodup/\∀k,k∈o'.L↔∃j m g,Zz tok i s t' j s=.ch k m g/\SU m) (al:o'.YY.Nodup/\∀k,k∈o'.YY↔∃j m g,Zz tok i s t' j s=.ch k m g/\g≠.work) :
  Yj n (Zz tok i s t') spec (upd view i V) K (upd O s (some o')) ZA home:=by
 have aw:i<n:=h.lt (s:=s) (by rw[M];rcases N with⟨_,_,_,_,_,_,rfl,_⟩|⟨_,_,_,_,_,rfl,_⟩<;>simp)
 have Q:=Hh tok i s t'
 have R:∀r,r≠s->(λj=>Zz tok i s t' j r)=λj=>tok j r:=λr v=>Jr tok i s t' v
 have E:∀j r,r≠s->Zz tok i s t' j r=tok j r:=λj r v=>congrFun (R r v) j
 have am:∀j,j≠i->∀r,Zz tok i s t' j r=tok j r:=λj c r=>X' _ λx=>c x.1
 have P:∀j r k m g,Zz tok i s t' j r=.ch k m g->∃l w,tok j r=.ch k l w:=λj r k m g c=>by
  by_cases e:j=i/\r=s
  .obtain⟨rfl,rfl⟩:=e;rw[X2] at c;rcases N with⟨_,_,_,_,_,_,_,f,_⟩|⟨W,l,w,F,H,d,f⟩
   .rw[f] at c;cases c
   .rw[f] at c;cases c;exact⟨l,w,by rw[M,d]⟩
  .rw[X' _ e] at c;exact⟨m,g,c⟩
 have an:∀j r k m g,tok j r=.ch k m g->∃l w,Zz tok i s t' j r=.ch k l w:=λj r k m g c=>by
  by_cases e:j=i/\r=s
  .obtain⟨rfl,rfl⟩:=e;rw[X2];rw[M] at c;rcases N with⟨_,_,_,_,_,_,d,_,_⟩|⟨W,l,w,F,H,d,f⟩
   .rw[d] at c;cases c
   .rw[d] at c;cases c;exact⟨F,H,f⟩
  .rw[X' _ e];exact⟨m,g,c⟩
 have X:∀j r m p A,Zz tok i s t' j r=.par m p A->∃l C I,tok j r=.par l C I/\∀k,k+C<l->k+p<m:=λj r m p A c=>by
  by_cases e:j=i/\r=s
  .obtain⟨rfl,rfl⟩:=e;rw[X2] at c;rcases N with⟨_,_,_,_,_,_,d,f,B⟩|⟨W,l,w,F,H,d,f⟩
   .rw[f] at c;cases c;exact⟨_,_,_,by rw[M,d],B⟩
   .rw[f] at c;cases c
  .rw[X' _ e] at c;exact⟨m,p,A,c,λ_ x=>x⟩
 have J:∀r q,upd O s (some o') r=some q->(r=s/\q=o')\/(r≠s/\O r=some q):=λr q u=>by
  by_cases e:r=s
  .subst e;rw[upd_same] at u;cases u;exact .inl ⟨rfl,rfl⟩
  .rw[upd_ne _ _ e] at u;exact .inr ⟨e,u⟩
 refine⟨λr q u=>?_,λr v j=>?_,λj r c=>?_,λj r sp c=>?_,λj r φ q c=>?_,λj r k L g q u c=>?_,λj r m p A c=>?_,λj r k m g c=>?_,λj ao c=>?_,ag,ah,ai,λj r k m g q u c Y=>?_,λr j Z k m g ap g' d f=>?_,λr j k m g q p A d f=>?_,λr q u=>?_,λr q u=>?_⟩
 .rcases J r q u with⟨rfl,rfl⟩|⟨e,y⟩
  .rw[Q];exact ab
  .rw[R r e];exact h.ζ r q y
 .by_cases e:r=s
  .subst e;rw[upd_same] at v;cases v
  .rw[upd_ne _ _ e] at v;rw[E j r e];exact h.bare r v j
 .rw[am j U r];exact h.out j r c
 .obtain⟨q,d,f⟩:=h.RL j r sp c;by_cases e:r=s
  .subst e;rw[T] at d;cases d;exact⟨o',upd_same ..,by rw[ad];exact f⟩
  .exact⟨q,by rw[upd_ne _ _ e];exact d,f⟩
 .have aa:∀φ q,view j r=some (φ,q)->∃D,upd O s (some o') r=some D/\Yn n D (λa=>Zz tok i s t' a r)<=φ/\(Yn n D (λa=>Zz tok i s t' a r)=φ->D=q):=λφ q hv=>by
   obtain⟨D,d,f,B⟩:=h.Pq j r φ q hv;by_cases e:r=s
   .subst e;rw[T] at d;cases d;rw[upd_same,Q];exact⟨o',rfl,U,λx=>U⟩
   .rw[upd_ne _ _ e,R r e];exact⟨D,d,f,B⟩
  by_cases e:j=i
  .subst e;rw[upd_same] at c;rcases ae r φ q c with⟨rfl,rfl,rfl⟩|⟨v,hv⟩
   .rw[upd_same,Q];exact⟨_,rfl,ZO _,λ_=>rfl⟩
   .exact aa φ q hv
  .rw[upd_ne _ _ e] at c;exact aa φ q c
 .rcases J r q u with⟨rfl,rfl⟩|⟨e,y⟩
  .exact af j k L g c
  .rw[E j r e] at c;exact h.YT j r k L g q y c
 .obtain⟨l,C,I,d,_⟩:=X j r m p A c;exact h.par j r l C I d
 .obtain⟨l,w,d⟩:=P j r k m g c;exact h.SS j r k l w d
 .obtain⟨k,m,g,d⟩:=h.Q0 j ao c;obtain⟨F,H,f⟩:=an j _ k m g d;exact⟨k,F,H,f⟩
 .rcases J r q u with⟨rfl,rfl⟩|⟨e,y⟩
  .exact aj j k m g c Y
  .rw[E j r e] at c;exact h.SQ j r k m g q y c Y
 .obtain⟨a,b,B⟩:=P j r k m g d;obtain⟨aq,ar,S⟩:=P Z r k ap g' f;exact h.Pp r j Z k a b aq ar B S
 .obtain⟨a,b,B⟩:=P j r k m g d;obtain⟨l,C,I,S,au⟩:=X _ r q p A f;exact au k (h.Qf r j k a b l C I B S)
 .rcases J r q u with⟨rfl,rfl⟩|⟨e,y⟩
  .exact ak
  .simp only[λj=>E j r e];exact h.SP r q y
 .rcases J r q u with⟨rfl,rfl⟩|⟨e,y⟩
  .exact al
  .simp only[λj=>E j r e];exact h.RK r q y
theorem CR {o o':ν} {t t':Tok} (h:Act o t o' t'):Alike t t':=by
 cases h
 case add=>exact .inl ⟨_,_,_,_,_,_,rfl,rfl,λk a=>U⟩
 case thru|Hx|wake=>exact .inl ⟨_,_,_,_,_,_,rfl,rfl,λk a=>a⟩
 all_goals exact .inr ⟨_,_,_,_,_,rfl,rfl⟩
theorem Hg {o o':ν} {t t':Tok} (h:Act o t o' t'):o'.toSpec=o.toSpec/\o'.L=o.L/\o'.YY=o.YY:=by
 cases h<;>exact⟨rfl,rfl,rfl⟩
theorem Hf {o o':ν} {t t':Tok} (h:Act o t o' t'):(∀k m g,t'=.ch k m g->∃a b,t=.ch k a b/\(SU m↔SU a)/\(g=.work↔b=.work)/\(b≠.work->m=a)/\∀L,m=.YT L->a=.YT L)/\(∀k m g,t=.ch k m g->∃c d,t'=.ch k c d/\(SU c↔SU m)/\(d=.work↔g=.work))/\¬Xy t:=by
 refine⟨λk m g e=>?_,λk m g e=>?_,?_⟩
 .cases h<;>cases e<;>exact⟨_,_,rfl,by simp[SU],J,J,J⟩
 .cases h<;>cases e<;>exact⟨_,_,rfl,by simp[SU],J⟩
 .cases h<;>simp[Xy]
theorem Yj.act (h:Yj n tok spec view rel O ZA home) {s i:Nat} {o o':ν} {t t':Tok} (v:O s=some o) (u:tok i s=t) (y:Act o t o' t') :
  Yj n (Zz tok i s t') spec (upd view i (upd (view i) s (some (Yn n o' (upd (λj=>tok j s) i t'),o')))) rel (upd O s (some o')) ZA home:=by
 obtain⟨K,M,E⟩:=Hf y;have D:i<n:=h.lt (s:=s) (by rw[u];rintro rfl;exact E trivial);obtain⟨F,H,N⟩:=Hg y;have C:∀j r k m g,Zz tok i s t' j r=.ch k m g->∃f d,tok j r=.ch k f d/\(SU m↔SU f)/\(g=.work↔d=.work)/\(d≠.work->m=f)/\∀L,m=.YT L->f=.YT L:=λj r k m g c=>by
  by_cases e:j=i/\r=s
  .obtain⟨rfl,rfl⟩:=e;rw[X2] at c;obtain⟨f,d,l,Χ⟩:=K k m g c;exact⟨f,d,by rw[u,l],Χ⟩
  .rw[X' _ e] at c;exact⟨m,g,c,.rfl,.rfl,λ_=>rfl,λ_ x=>x⟩
 have is:∀j k m g,tok j s=.ch k m g->∃A B,Zz tok i s t' j s=.ch k A B/\(SU A↔SU m)/\(B=.work↔g=.work):=λj k m g c=>by
  by_cases e:j=i/\s=s
  .obtain⟨rfl,_⟩:=e;rw[X2];rw[u] at c;exact M k m g c
  .rw[X' _ e];exact⟨m,g,c,.rfl,.rfl⟩
 refine h.change v u (CR y) (⟨C0 (h.ζ s o v).1 D u y,CZ (h.ζ s o v).2 D u y⟩) (Hv D u y) F (λr φ q hv=>?_) (λj k L g c=>?_) (λj k m g P c=>?_) h.Qg (λj r c I=>?_) (λj k m g c Q=>?_) ?_ ?_
 .by_cases e:r=s
  .subst e;rw[upd_same] at hv;cases hv;exact .inl ⟨rfl,rfl,rfl⟩
  .rw[upd_ne _ _ e] at hv;exact .inr ⟨e,hv⟩
 .obtain⟨f,d,l,_,_,_,Χ⟩:=C j s k _ g c;rw[H];exact h.YT j s k L d o v (by rw[l,Χ L rfl])
 .obtain⟨f,d,l,_,Χ,_⟩:=C j _ k m g c;rw[h.Sn j k f d P l];exact not_congr Χ.symm
 .by_cases e:j=i/\r=s
  .obtain⟨rfl,rfl⟩:=e;have:=h.SR j r c I;rw[u] at this;exact absurd this E
  .rw[X' _ e];exact h.SR j r c I
 .obtain⟨f,d,l,_,Χ,p,_⟩:=C j s k m g c;have J:d≠.work:=λx=>Q (Χ.2 x);rw[p J];have:=h.SQ j s k f d o v l J;rw[show o'.Z0=o.Z0 by rw[F]];exact this
 .obtain⟨a,b⟩:=h.SP s o v;rw[H];refine⟨a,λk=>(b k).trans ⟨λ⟨j,m,g,l,Χ⟩=>?_,λ⟨j,m,g,l,Χ⟩=>?_⟩⟩
  .obtain⟨A,B,p,w,_⟩:=is j k m g l;exact⟨j,A,B,p,w.2 Χ⟩
  .obtain⟨f,d,p,w,_⟩:=C j s k m g l;exact⟨j,f,d,p,w.1 Χ⟩
 .obtain⟨a,b⟩:=h.RK s o v;rw[N];refine⟨a,λk=>(b k).trans ⟨λ⟨j,m,g,l,Χ⟩=>?_,λ⟨j,m,g,l,Χ⟩=>?_⟩⟩
  .obtain⟨A,B,p,_,w⟩:=is j k m g l;exact⟨j,A,B,p,λx=>Χ (w.1 x)⟩
  .obtain⟨f,d,p,_,w,_⟩:=C j s k m g l;exact⟨j,f,d,p,λx=>Χ (w.2 x)⟩
theorem Yj.look (h:Yj n tok spec view rel O ZA home) {s i:Nat} {o:ν} (d:O s=some o):Yj n tok spec (upd view i (upd (view i) s (some (Yn n o (λj=>tok j s),o)))) rel O ZA home:=
 have f:∀j r φ q,upd view i (upd (view i) s (some (Yn n o (λj=>tok j s),o))) j r=some (φ,q)->∃b,O r=some b/\Yn n b (λj=>tok j r)<=φ/\(Yn n b (λj=>tok j r)=φ->b=q):=λj r φ q a=>by
  by_cases e:j=i
  .subst e;rw[upd_same] at a;by_cases c:r=s
   .subst c;rw[upd_same] at a;cases a;exact⟨o,d,ZO _,λ_=>rfl⟩
   .rw[upd_ne _ _ c] at a;exact h.Pq j r φ q a
  .rw[upd_ne _ _ e] at a;exact h.Pq j r φ q a
 {h with Pq:=f}
theorem LJ {s i:Nat} {r φ:Nat} {q:ν} {o':ν} {z:Nat} (hv:upd (view i) s none r=some (φ,q)):(r=s/\φ=z/\q=o')\/(r≠s/\view i r=some (φ,q)):=by
 by_cases e:r=s
 .subst e;rw[upd_same] at hv;cases hv
 .rw[upd_ne _ _ e] at hv;exact .inr ⟨e,hv⟩
theorem CQ {l:List Nat} {k:Nat} (h:l.Nodup) (d:k∉l):(l++[k]).Nodup:=by
 rw[List.nodup_append];exact⟨h,J,λa e b c=>by simp at c;subst c;rintro rfl;exact d e⟩
theorem Yj.Jy (h:Yj n tok spec view rel O ZA home) {s i k:Nat} {o:ν} (t:O s=some o) (f:tok i s=.ch k .own .work) :
  Yj n (Zz tok i s (.ch k (.YT o.L) .work)) spec (upd view i (upd (view i) s none)) rel (upd O s (some o)) ZA home:=by
 have v:i<n:=h.lt (s:=s) (by rw[f];simp)
 have w:Sq o (.ch k .own .work) o (.ch k (.YT o.L) .work):=.Jy
 have p:∀j,j≠i->∀r,Zz tok i s (.ch k (.YT o.L) .work) j r=tok j r:=λj c r=>X' _ λx=>c x.1
 have A:=h.SS i s k _ _ f;refine h.change t f (.inr ⟨_,_,_,_,_,rfl,rfl⟩) ⟨LQ (h.ζ s o t).1 v f w,LP (h.ζ s o t).2 v f w⟩ (LR v f w) rfl (λr φ q hv=>LJ hv) (λj l L g c=>?_) (λj l m g B c=>?_) h.Qg (λj r c y=>?_) (λj l m g c C=>?_) ?_ ?_
 .by_cases e:j=i
  .subst e;rw[X2] at c;cases c;rfl
  .rw[p j e] at c;exact h.YT j s l L g o t c
 .by_cases e:j=i
  .subst e;have u:home j=s:=A.2.1;rw[u,X2] at c;cases c;exact h.Sn j k .own .work B (by rw[u];exact f)
  .rw[p j e] at c;exact h.Sn j l m g B c
 .by_cases e:j=i
  .subst e;have u:home j=s:=A.2.1;rw[X' _ (λx=>y (by rw[x.2,u]))];exact h.SR j r c y
  .rw[p j e];exact h.SR j r c y
 .by_cases e:j=i
  .subst e;rw[X2] at c;cases c;exact absurd rfl C
  .rw[p j e] at c;exact h.SQ j s l m g o t c C
 .obtain⟨a,b⟩:=h.SP s o t;refine⟨a,λl=>(b l).trans ⟨λ⟨j,m,g,d,Χ⟩=>?_,λ⟨j,m,g,d,Χ⟩=>?_⟩⟩
  .by_cases e:j=i
   .subst e;rw[f] at d;cases d;exact Χ.elim
   .exact⟨j,m,g,by rw[p j e];exact d,Χ⟩
  .by_cases e:j=i
   .subst e;rw[X2] at d;cases d;exact Χ.elim
   .exact⟨j,m,g,by rw[p j e] at d;exact d,Χ⟩
 .obtain⟨a,b⟩:=h.RK s o t;refine⟨a,λl=>(b l).trans ⟨λ⟨j,m,g,d,Χ⟩=>?_,λ⟨j,m,g,d,Χ⟩=>?_⟩⟩
  .by_cases e:j=i
   .subst e;rw[f] at d;cases d;exact absurd rfl Χ
   .exact⟨j,m,g,by rw[p j e];exact d,Χ⟩
  .by_cases e:j=i
   .subst e;rw[X2] at d;cases d;exact absurd rfl Χ
   .exact⟨j,m,g,by rw[p j e] at d;exact d,Χ⟩
theorem Yj.CP (h:Yj n tok spec view rel O ZA home) {s i k:Nat} {L:List Nat} {o:ν} (p:O s=some o) (l:tok i s=.ch k (.YT L) .work) :
  Yj n (Zz tok i s (.ch k .fin .work)) spec (upd view i (upd (view i) s none)) rel (upd O s (some {o with L:=o.L++[k]})) ZA home:=by
 have u:i<n:=h.lt (s:=s) (by rw[l];simp)
 have y:Sq o (.ch k (.YT L) .work) {o with L:=o.L++[k]} (.ch k .fin .work):=.C2
 have t:∀j,j≠i->∀r,Zz tok i s (.ch k .fin .work) j r=tok j r:=λj d r=>X' _ λx=>d x.1
 have C:=h.SS i s k _ _ l
 have only:∀j f v g,tok j s=.ch f (.YT v) g->j=i:=λj f v g d=>by
  apply T4;intro F;have H:j<n:=h.lt (s:=s) (by rw[d];simp);have c:=Xj (λa=>tok a s) .nil Wv u;have Χ:=XS (upd (λa=>tok a s) i .nil) Wv H;rw[upd_ne _ _ F] at Χ;simp only[l,d,Wv,Nk] at c Χ;have:=(h.ζ s o p).1.HA;have:=(h.ζ s o p).1.f1;omega
 have I:k∉o.L:=λA=>by
  obtain⟨j,m,g,c,Χ⟩:=((h.SP s o p).2 k).1 A;have:=h.Pp s j i k m g _ _ c l;subst this;rw[l] at c;cases c;exact Χ
 refine h.change p l (.inr ⟨_,_,_,_,_,rfl,rfl⟩) ⟨LQ (h.ζ s o p).1 u l y,LP (h.ζ s o p).2 u l y⟩ (LR u l y) rfl (λr φ q hv=>LJ hv) (λj f v g d=>?_) (λj f m g D d=>?_) h.Qg (λj r d B=>?_) (λj f m g d E=>?_) ?_ ?_
 .by_cases e:j=i
  .subst e;rw[X2] at d;cases d
  .rw[t j e] at d;exact absurd (only j f v g d) e
 .by_cases e:j=i
  .subst e;have w:home j=s:=C.2.1;rw[w,X2] at d;cases d;exact h.Sn j k (.YT L) .work D (by rw[w];exact l)
  .rw[t j e] at d;exact h.Sn j f m g D d
 .by_cases e:j=i
  .subst e;have w:home j=s:=C.2.1;rw[X' _ (λx=>B (by rw[x.2,w]))];exact h.SR j r d B
  .rw[t j e];exact h.SR j r d B
 .by_cases e:j=i
  .subst e;rw[X2] at d;cases d;exact absurd rfl E
  .rw[t j e] at d;exact h.SQ j s f m g o p d E
 .obtain⟨a,b⟩:=h.SP s o p;refine⟨CQ a I,λf=>?_⟩;rw[V6,List.mem_singleton];constructor
  .rintro(A|rfl)
   .obtain⟨j,m,g,c,Χ⟩:=(b f).1 A;have e:j≠i:=by rintro rfl;rw[l] at c;cases c;exact Χ
    exact⟨j,m,g,by rw[t j e];exact c,Χ⟩
   .exact⟨i,.fin,.work,X2 ..,trivial⟩
  .rintro⟨j,m,g,c,Χ⟩;by_cases e:j=i
   .subst e;rw[X2] at c;cases c;exact .inr rfl
   .rw[t j e] at c;exact .inl ((b f).2 ⟨j,m,g,c,Χ⟩)
 .obtain⟨a,b⟩:=h.RK s o p;refine⟨a,λf=>(b f).trans ⟨λ⟨j,m,g,c,Χ⟩=>?_,λ⟨j,m,g,c,Χ⟩=>?_⟩⟩
  .by_cases e:j=i
   .subst e;rw[l] at c;cases c;exact absurd rfl Χ
   .exact⟨j,m,g,by rw[t j e];exact c,Χ⟩
  .by_cases e:j=i
   .subst e;rw[X2] at c;cases c;exact absurd rfl Χ
   .exact⟨j,m,g,by rw[t j e] at c;exact c,Χ⟩
theorem Yj.CO (h:Yj n tok spec view rel O ZA home) {s i k:Nat} {l:UX} {o:ν} (t:O s=some o) (f:tok i s=.ch k l .work) (v:l=.done\/(l=.idle/\o.Z0=none)) (F:∀r,r≠s->Xy (tok i r)) :
  Yj n (Zz tok i s (.ch k l .rel)) spec (upd view i (upd (view i) s none)) (upd rel i true) (upd O s (some {o with YY:=k::o.YY})) ZA home:=by
 have w:i<n:=h.lt (s:=s) (by rw[f];simp)
 have y:Sq o (.ch k l .work) {o with YY:=k::o.YY} (.ch k l .rel):=.C1 v
 have u:∀j,j≠i->∀r,Zz tok i s (.ch k l .rel) j r=tok j r:=λj d r=>X' _ λx=>d x.1
 have A:=h.SS i s k _ _ f
 have H:k∉o.YY:=λB=>by
  obtain⟨j,m,g,c,Χ⟩:=((h.RK s o t).2 k).1 B;have:=h.Pp s j i k m g _ _ c f;subst this;rw[f] at c;cases c;exact Χ rfl
 refine h.change t f (.inr ⟨_,_,_,_,_,rfl,rfl⟩) ⟨LQ (h.ζ s o t).1 w f y,LP (h.ζ s o t).2 w f y⟩ (LR w f y) rfl (λr φ q hv=>LJ hv) (λj p I g d=>?_) (λj p m g K d=>?_) (by rw[upd_ne _ _ (Y2 A.1)];exact h.Qg) (λj r d D=>?_) (λj p m g d L=>?_) ?_ ?_
 .by_cases e:j=i
  .subst e;rw[X2] at d;rcases v with rfl|⟨rfl,_⟩<;>cases d
  .rw[u j e] at d;exact h.YT j s p I g o t d
 .by_cases e:j=i
  .subst e;have C:home j=s:=A.2.1;rw[C,X2] at d;cases d;rw[upd_same];simp
  .rw[u j e] at d;rw[upd_ne _ _ e];exact h.Sn j p m g K d
 .by_cases e:j=i
  .subst e;have C:home j=s:=A.2.1;have E:r≠s:=λx=>D (by rw[x,C]);rw[X' _ (λx=>E x.2)];exact F r E
  .rw[u j e];rw[upd_ne _ _ e] at d;exact h.SR j r d D
 .by_cases e:j=i
  .subst e;rw[X2] at d;cases d;exact v
  .rw[u j e] at d;exact h.SQ j s p m g o t d L
 .obtain⟨a,b⟩:=h.SP s o t;refine⟨a,λp=>(b p).trans ⟨λ⟨j,m,g,c,Χ⟩=>?_,λ⟨j,m,g,c,Χ⟩=>?_⟩⟩
  .by_cases e:j=i
   .subst e;rw[f] at c;cases c;exact⟨j,l,.rel,X2 ..,Χ⟩
   .exact⟨j,m,g,by rw[u j e];exact c,Χ⟩
  .by_cases e:j=i
   .subst e;rw[X2] at c;cases c;exact⟨j,l,.work,f,Χ⟩
   .exact⟨j,m,g,by rw[u j e] at c;exact c,Χ⟩
 .obtain⟨a,b⟩:=h.RK s o t;refine⟨RS.2 ⟨H,a⟩,λp=>?_⟩;rw[YZ];constructor
  .rintro(rfl|B)
   .exact⟨i,l,.rel,X2 ..,J⟩
   .obtain⟨j,m,g,c,Χ⟩:=(b p).1 B;have e:j≠i:=by rintro rfl;rw[f] at c;cases c;exact Χ rfl
    exact⟨j,m,g,by rw[u j e];exact c,Χ⟩
  .rintro⟨j,m,g,c,Χ⟩;by_cases e:j=i
   .subst e;rw[X2] at c;cases c;exact .inl rfl
   .rw[u j e] at c;exact .inr ((b p).2 ⟨j,m,g,c,Χ⟩)
theorem Yj.gtake (h:Yj n tok spec view rel O ZA home) {s i q:Nat} {f:Q2} {o:ν} (b:O s=some o) (c:tok i s=.par q 0 f) (t:f=.Ty\/f=.w4) :
  Yj n (Zz tok i s (.par q 0 .Z4)) spec (upd view i (upd (view i) s none)) rel (upd O s (some o)) ZA home:=by
 have l:i<n:=h.lt (s:=s) (by rw[c];simp)
 have p:Sq o (.par q 0 f) o (.par q 0 .Z4):=.gtake t
 have B:∀j,j≠i->∀r,Zz tok i s (.par q 0 .Z4) j r=tok j r:=λj a r=>X' _ λx=>a x.1
 have cs:∀j r k m g,Zz tok i s (.par q 0 .Z4) j r=.ch k m g↔tok j r=.ch k m g:=λj r k m g=>by
  by_cases e:j=i/\r=s
  .obtain⟨rfl,rfl⟩:=e;rw[X2,c];simp
  .rw[X' _ e]
 refine h.change b c (.inl ⟨_,_,_,_,_,_,rfl,rfl,λk u=>u⟩) ⟨LQ (h.ζ s o b).1 l c p,LP (h.ζ s o b).2 l c p⟩ (LR l c p) rfl (λr φ q hv=>LJ hv) (λj d v g a=>?_) (λj d m g w a=>?_) h.Qg (λj r a y=>?_) (λj d m g a A=>?_) ?_ ?_
 .rw[cs] at a;exact h.YT j s d v g o b a
 .rw[cs] at a;exact h.Sn j d m g w a
 .by_cases e:j=i/\r=s
  .obtain⟨rfl,rfl⟩:=e;rw[X2];trivial
  .rw[X' _ e];exact h.SR j r a y
 .rw[cs] at a;exact h.SQ j s d m g o b a A
 .simp only[cs];exact h.SP s o b
 .simp only[cs];exact h.RK s o b
end
def Ut (a O':Nat->Option ν):Prop:=(∀s o',O' s=some o'->∃o,a s=some o/\o.toSpec=o'.toSpec)/\∀s o,a s=some o->∃o',O' s=some o'/\o.toSpec=o'.toSpec
theorem Ut.upd {b:Nat->Option ν} {s:Nat} {o o':ν} (c:b s=some o) (h:o'.toSpec=o.toSpec):Ut b (Go.ConcN.upd b s (some o')):=by
 refine⟨λr q a=>?_,λr q a=>?_⟩
 .by_cases e:r=s
  .subst e;rw[upd_same] at a;cases a;exact⟨o,c,h.symm⟩
  .rw[upd_ne _ _ e] at a;exact⟨q,a,rfl⟩
 .by_cases e:r=s
  .subst e;rw[c] at a;cases a;exact⟨o',upd_same ..,h.symm⟩
  .exact⟨q,by rw[upd_ne _ _ e];exact a,rfl⟩
section
variable {H:Zi->Ψ} {η:Nat->Nat->Option (Array Value×TypeId)} {tok QZ:Nat->Nat->Tok} {O O':Nat->Option ν} {ZA:Nat->Nat} {deaf He:Nat->Nat} {N RJ:Nat} {t:Trace} {ZK w w':World}
theorem LI {h:Zi} {k:Nat} (c:∀s o',O' s=some o'->∃o,O s=some o/\o.toSpec=o'.toSpec) (d:∀i s,QZ i s≠.nil->tok i s≠.nil) (a:VR tok O t h k):VR QZ O' t h k:=by
 cases h with
 | inl i=>exact a
 | inr b=>
  refine a.imp id λh s o e f i hi=>?_;obtain⟨g,j,l⟩:=c s o e;exact h s g j (by rw[l];exact f) i (d i s hi)
theorem Wf.CN (h:Wf H η tok O ZA deaf N t) (a:Ut O O') (c:∀i s,QZ i s≠.nil->tok i s≠.nil):Wf H η QZ O' ZA deaf N t:=
 ⟨h.race,h.low,h.norel,λk=>(h.perms k).mono λ_=>LI a.1 c,h.SV,λs o b d e=>let ⟨f,g,j⟩:=a.1 s o d;h.cont s f b g (by rw[j];exact e),h.hears⟩
theorem Ws.TW (h:Ws H η O RJ) (e:Ut O O'):Ws H η O' RJ:=
 ⟨h.apart,h.high,h.Tu,h.fresh,λs o b a f=>let ⟨g,c,d⟩:=e.1 s o a;h.Vm s g b c (by rw[d];exact f),
  λs i o o' b a j f k=>let ⟨g,c,d⟩:=e.1 s o a;let ⟨l,n,p⟩:=e.1 i o' j;h.U' s i g l b c n (by rw[d];exact f) (by rw[p];exact k),
  λs o m a r=>let ⟨g,c,d⟩:=e.1 s o a;h.So s g m c (by rw[d];exact r),
  λb f=>h.Yq b λs o a hi=>let ⟨o',c,d⟩:=e.2 s o a;f s o' c (by rw[<-d];exact hi)⟩
theorem Wf.ext (h:Wf H η tok O ZA deaf N t) (K:Ws H η O RJ) (i:Nat) {u:Trace} (P:∀c∈u,c.g=i) (r:∀c∈u,c.act.low N) (S:∀c∈u,∀a,c.act≠.mark (.release a))
  (E:∀c∈u,∀b,c.act.touch?=some b->∃s o f w,O s=some o/\Ys s o.toSpec f/\b.loc=.cell ⟨f,w,none⟩/\(b.kind=.atomic\/(b.kind=.said/\i=ZA s)))
  (hd:∀j,Deaf (t++u) j=He j):Wf H η tok O ZA He N (t++u):=by
 refine⟨λT=>noRace_append (h.race T) P λk a m c d b D L=>?_,λc d=>(S1.1 d).elim (h.low c) (r c),λc d=>(S1.1 d).elim (h.norel c) (S c),λk=>?_,λj b v hv k a m l=>?_,λs o b Q D k a m l=>?_,hd⟩
 .obtain⟨s,o,f,w,A,B,n,C⟩:=E c d b D;obtain⟨U,_,_,R⟩:=L;have l:Tz a.loc f:=by rw[U,n];rfl
  rcases h.cont s o f A B k a m l with F|⟨F,V⟩
  .exfalso;rcases R with x|x|⟨_,x,_⟩
   .rw[F] at x;cases x
   .rcases C with y|⟨y,_⟩<;>(rw[y] at x;cases x)
   .rw[F] at x;cases x
  .rcases C with y|⟨y,rfl⟩
   .exfalso;rcases R with x|x|⟨_,_,x⟩
    .rw[F] at x;cases x
    .rw[y] at x;cases x
    .rw[y] at x;cases x
   .obtain⟨z,I,_⟩:=touch_of m;have:=knows_own I;have e:z.g=ZA s:=by simpa[Trace.g?,I] using V
    rwa [e] at this
 .have:YQ (t++u) (VR tok O (t++u) k) (H k):=(h.perms k).others (λx W=>Jt _ W) λc d a m=>by
   obtain⟨s,o,f,w,A,B,n,C⟩:=E c d a m;have w:=(K.Vm s o f A B).2.1 k;refine⟨λb o' v p r L=>?_,λb r D=>?_⟩
   .rw[n] at r;cases r;exact absurd ⟨_,L⟩ (w.1 _)
   .rw[n] at r;cases r
  exact this
 .rcases TV m with J|⟨_,c,d,_,M⟩
  .exact h.SV j b v hv k a J l
  .obtain⟨s,o,f,w,A,B,n,C⟩:=E c d a M;rw[n] at l;simp only[Tz] at l;subst l;rw[(K.Vm s o f A B).2.2 j] at hv;cases hv
 .rcases TV m with J|⟨_,c,d,X,M⟩
  .rcases h.cont s o b Q D k a J l with x|⟨x,Y⟩
   .exact .inl x
   .obtain⟨z,I,_⟩:=touch_of J;exact .inr ⟨x,by rw[g?_old (lt_size_of_getElem? I)];exact Y⟩
  .obtain⟨Z,o',f,w,A,B,n,C⟩:=E c d a M;rw[n] at l;simp only[Tz] at l;subst l;have es:=K.U' s Z o o' f Q A D B;subst es;rcases C with x|⟨x,y⟩
   .exact .inl x
   .exact .inr ⟨x,by simp[Trace.g?,X,P c d,y]⟩
theorem YQ.sub {e:Nat->Prop} {G G':Ψ} (h:YQ t e G) (f:Sub G' G):YQ t e G':=
 ⟨λb o v p g i a c d j=>let ⟨k,l,m⟩:=f.ς b o v p g;h.ς b o v k l i a c d (j.imp m id),λb ⟨x,n⟩ i a c d=>h.obj b ⟨x,f.obj b x n⟩ i a c d⟩
theorem YQ.join {g:Nat->Prop} {G E:Ψ} (h:YQ t g G) (k:YQ t g E):YQ t g (Go.TL.join G E):=by
 refine⟨λb o v p d i a e f l=>?_,λb m i a e f=>?_⟩
 .simp only[Go.TL.join] at d;cases c:G.ς b o with
  | none=>rw[c] at d;exact k.ς b o v p d i a e f l
  | some y=>rw[c] at d;cases d;exact h.ς b o v p c i a e f l
 .obtain⟨x,j⟩:=m;simp only[Go.TL.join] at j;cases c:G.obj b with
  | none=>rw[c] at j;exact k.obj b ⟨x,j⟩ i a e f
  | some y=>exact h.obj b ⟨y,c⟩ i a e f
theorem YQ.empty {a:Nat->Prop}:YQ t a Ψ.empty:=⟨λ_ _ _ _ h=>(by cases h),λ_ ⟨_,h⟩=>(by cases h)⟩
theorem YQ.release {i b:Nat} {G:Ψ} {y:MemOp} (h:YQ t (Knows t i) G) (f:y.g=i) (j:y.act=.mark (.releaseMerge ⟨b,0,none⟩)) (hd:Deaf t i=0):YQ (t++#[y]) (VR tok O (t++#[y]) (.inr b)) G:=by
 have l:(t++#[y])[t.size]?=some y:=J
 have s:(t++#[y]).heard t.size:=⟨i,by simp[Trace.g?,f],by rw[deaf_old (ZO _)];exact hd⟩
 have m:∀k,Knows t i k->VR tok O (t++#[y]) (.inr b) k:=λk u=>.inl ⟨t.size,y,l,j,s,.inr (u.hb_new (ZO _) l f)⟩
 have nt:∀k a,touchAt (t++#[y]) k=some a->touchAt t k=some a:=λk a c=>by
  rcases TV c with w|⟨_,C,n,_,r⟩
  .exact w
  .simp at n;subst n;rw[j] at r;simp[MemAct.touch?] at r
 exact⟨λd o v p x k a c e A=>m k (h.ς d o v p x k a (nt k a c) e A),λd B k a c e=>m k (h.obj d B k a (nt k a c) e)⟩
theorem YQ.acquire {i b s:Nat} {o:ν} {E:Ψ} {y:MemOp} (h:YQ t (VR tok O t (.inr b)) E) (D:∀e∈t,∀a,e.act≠.mark (.release a)) (F:O s=some o) (f:Ys s o.toSpec b) (hi:tok i s≠.nil)
  (r:y.g=i) (u:y.act=.mark (.acquire ⟨b,0,none⟩)) (hd:Deaf t i=0):YQ (t++#[y]) (Knows (t++#[y]) i) E:=by
 have w:(t++#[y])[t.size]?=some y:=J
 have H:(t++#[y]).heard t.size:=⟨i,by simp[Trace.g?,r],by rw[deaf_old (ZO _)];exact hd⟩
 have x:∀k,VR tok O t (.inr b) k->Knows (t++#[y]) i k:=λk j=>by
  rcases j with⟨p,e,A,I,K,L⟩|j
  .have l:=lt_size_of_getElem? A;refine⟨t.size,y,w,r,.inr ((L.app #[y]).hb (.single (.inr ⟨.marked (a:=⟨b,0,none⟩) l (.inr ?_) ?_ ?_,(heard_old l).2 K,H⟩)))⟩
   .rw[act?_old l,act?_of A,I]
   .rw[act?_of w,u]
   .intro T U M B;rw[act?_old M] at B;obtain⟨N,P,d⟩:=T1.1 B;exact D N (mem_of_getElem? P) _ d
  .exact(j s o F f i hi).app _
 have nt:∀k a,touchAt (t++#[y]) k=some a->touchAt t k=some a:=λk a c=>by
  rcases TV c with Q|⟨_,e,C,_,d⟩
  .exact Q
  .simp at C;subst C;rw[u] at d;simp[MemAct.touch?] at d
 exact⟨λm o v p R k a c n S=>x k (h.ς m o v p R k a (nt k a c) n S),λm f k a c n=>x k (h.obj m f k a (nt k a c) n)⟩
theorem Knows.spawn {i j k:Nat} {y z:MemOp} (h:Knows t i k) (c:y.g=i) (d:y.act=.go j) (a:z.g=j) (f:z.act=.start) (hd:Deaf t i=0) (l:Deaf t j=0):Knows (t++#[y,z]) j k:=by
 have b:(t++#[y,z])[t.size]?=some y:=J
 have e:(t++#[y,z])[t.size+1]?=some z:=J
 have d1:(t++#[y,z]).heard t.size:=⟨i,by simp[Trace.g?,c],by rw[deaf_old (ZO _)];exact hd⟩
 have d2:(t++#[y,z]).heard (t.size+1):=⟨j,by simp[Trace.g?,a],by
  rw[deaf_succ b];have:deafStep j ((t++#[y,z]).deaf j t.size) y=(t++#[y,z]).deaf j t.size:=by simp[deafStep,d]
  rw[this,deaf_old (ZO _)];exact l⟩
 have m:=h.hb_new (u:=#[y,z]) (ZO _) b c
 have Χ:HappensBefore (t++#[y,z]) t.size (t.size+1):=.single (.inr ⟨.spawn (child:=j) (by rw[act?_of b,d]) (by rw[act?_of e,f]) (by simp[Trace.g?,a]),d1,d2⟩);exact⟨t.size+1,z,e,a,.inr (m.trans Χ)⟩
theorem Sub.refl (G:Ψ):Sub G G:=⟨λ_ _ _ p h=>⟨p,h,id⟩,λ_ _ h=>h,λ_ _ h=>h⟩
theorem Sub.owns {G G':Ψ} (h:Sub G' G) {b o:Nat} (x:G'.owns b o):G.owns b o:=let ⟨v,hv⟩:=x;let ⟨p,a,c⟩:=h.ς b o v true hv;⟨v,by rw[a,c rfl]⟩
theorem Sub.has {G G':Ψ} (h:Sub G' G) {b o:Nat} (x:G'.has b o):G.has b o:=let ⟨v,hv⟩:=x;let ⟨p,a,_⟩:=h.ς b o v.1 v.2 hv;⟨_,a⟩
theorem Sub.X3 {G G':Ψ} (h:Sub G' G) {b:Nat} (x:G'.X3 b):G.X3 b:=let ⟨v,hv⟩:=x;⟨v,h.obj b v hv⟩
theorem Sub.off {G G':Ψ} (h:Sub G' G) {b:Nat} (x:G.off b):G'.off b:=⟨λo a=>x.1 o (h.has a),λa=>x.2 (h.X3 a)⟩
theorem Sub.fits {G G':Ψ} (h:Sub G' G) (x:Fits G w):Fits G' w:=⟨λb o v p a=>let ⟨c,d,_⟩:=h.ς b o v p a;x.ς b o v c d,λb t n e=>x.row b t n (h.row b _ e),λb v hv=>x.obj b v (h.obj b v hv)⟩
theorem Apart.symm {A B:Ψ} (h:Apart A B):Apart B A:=⟨h.RR,h.ς,λb a c=>h.obj b c a⟩
theorem Apart.sub {A B d B':Ψ} (h:Apart A B) (a:Sub d A) (c:Sub B' B):Apart d B':=
 ⟨λb o x y=>h.ς b o (a.owns x) (c.has y),λb o x y=>h.RR b o (c.owns x) (a.has y),λb x y=>h.obj b (a.X3 x) (c.X3 y)⟩
theorem Apart.Qe (A:Ψ):Apart A Ψ.empty:=⟨λ_ _ _ ⟨_,h⟩=>(by cases h),λ_ _ ⟨_,h⟩=>(by cases h),λ_ _ ⟨_,h⟩=>(by cases h)⟩
theorem Jq {G E:Ψ} {b o:Nat} (h:(join G E).owns b o):G.owns b o\/E.owns b o:=by
 obtain⟨v,hv⟩:=h;simp only[join] at hv;cases a:G.ς b o with
 | none=>rw[a] at hv;exact .inr ⟨v,hv⟩
 | some y=>rw[a] at hv;cases hv;exact .inl ⟨v,a⟩
theorem Hd {G E:Ψ} {b o:Nat} (h:(join G E).has b o):G.has b o\/E.has b o:=by
 obtain⟨v,hv⟩:=h;simp only[join] at hv;cases a:G.ς b o with
 | none=>rw[a] at hv;exact .inr ⟨v,hv⟩
 | some y=>exact .inl ⟨y,a⟩
theorem LH {G E:Ψ} {b:Nat} (h:(join G E).X3 b):G.X3 b\/E.X3 b:=by
 obtain⟨v,hv⟩:=h;simp only[join] at hv;cases a:G.obj b with
 | none=>rw[a] at hv;exact .inr ⟨v,hv⟩
 | some y=>exact .inl ⟨y,a⟩
theorem CM {G E:Ψ} {b:Nat} (h:G.off b) (k:E.off b):(join G E).off b:=⟨λo a=>(Hd a).elim (h.1 o) (k.1 o),λa=>(LH a).elim h.2 k.2⟩
theorem Nb {G E:Ψ} (h:Fits G w) (k:Fits E w):Fits (join G E) w:=by
 refine⟨λb o v p c=>?_,λb t n d=>?_,λb v hv=>?_⟩
 .simp only[join] at c;cases a:G.ς b o with
  | none=>rw[a] at c;exact k.ς b o v p c
  | some y=>rw[a] at c;cases c;exact h.ς b o v p a
 .simp only[join] at d;cases a:G.row b with
  | none=>rw[a] at d;exact k.row b t n d
  | some y=>rw[a] at d;cases d;exact h.row b t n a
 .simp only[join] at hv;cases a:G.obj b with
  | none=>rw[a] at hv;exact k.obj b v hv
  | some y=>rw[a] at hv;cases hv;exact h.obj b v a
theorem Apart.RI {A B C:Ψ} (h:Apart A C) (k:Apart B C):Apart (join A B) C:=
 ⟨λb o x y=>(Jq x).elim (λz=>h.ς b o z y) (λz=>k.ς b o z y),λb o x y=>(Hd y).elim (λz=>h.RR b o x z) (λz=>k.RR b o x z),λb x y=>(LH x).elim (λz=>h.obj b z y) (λz=>k.obj b z y)⟩
theorem Po (w:World):Fits Ψ.empty w:=⟨λ_ _ _ _ h=>(by cases h),λ_ _ _ h=>(by cases h),λ_ _ h=>(by cases h)⟩
theorem Ws.two (h:Ws H η O RJ) {a b:Zi} (S:a≠b) {A B:Ψ} (w:Sub A (join (H a) (H b))) (y:Sub B (join (H a) (H b))) (N:Apart A B)
  (I:Ut O O') (P:∀x,b=.inr x\/a=.inr x->∃s o,O s=some o/\Ys s o.toSpec x):Ws (ZI (ZI H a A) b B) η O' RJ:=by
 have E:=h.TW I
 have n:ZI (ZI H a A) b B a=A:=by rw[ZH _ _ S,YE]
 have r:ZI (ZI H a A) b B b=B:=YE _ _ _
 have j:∀k,k≠a->k≠b->ZI (ZI H a A) b B k=H k:=λk d f=>by rw[ZH _ _ f,ZH _ _ d]
 have F:∀k,k≠a->k≠b->Apart (join (H a) (H b)) (H k):=λk d f=>(h.apart a k (Y2 d)).RI (h.apart b k (Y2 f))
 have Q:∀x,(∀k,(H k).off x)->(join (H a) (H b)).off x:=λx g=>CM (g a) (g b)
 have J:∀{p:Zi->Prop},p a->p b->(∀k,k≠a->k≠b->p k)->∀k,p k:=λl m T k=>by
  by_cases d:k=a
  .rw[d];exact l
  .by_cases f:k=b
   .rw[f];exact m
   .exact T k d f
 have R:∀x,(∀k,(H k).off x)->∀k,(ZI (ZI H a A) b B k).off x:=λx g=>J (by rw[n];exact w.off (Q x g)) (by rw[r];exact y.off (Q x g)) (λk d f=>by rw[j k d f];exact g k);refine⟨λp q C=>?_,?_,?_,λi x v hv=>?_,λs o x D g=>?_,E.U',E.So,λx g=>?_⟩
 .by_cases l:p=a
  .subst l;by_cases t:q=b
   .subst t;rw[n,r];exact N
   .rw[n,j q (Y2 C) t];exact(F q (Y2 C) t).sub w (Sub.refl _)
  .by_cases m:p=b
   .subst m;by_cases u:q=a
    .subst u;rw[n,r];exact N.symm
    .rw[r,j q u (Y2 C)];exact(F q u (Y2 C)).sub y (Sub.refl _)
   .by_cases u:q=a
    .subst u;rw[n,j p l m];exact((F p l m).sub w (Sub.refl _)).symm
    .by_cases t:q=b
     .subst t;rw[r,j p l m];exact((F p l m).sub y (Sub.refl _)).symm
     .rw[j p l m,j q u t];exact h.apart p q C
 .exact J (λx o c=>by rw[n] at c;exact(Jq (w.owns c)).elim (h.high _ _ _) (h.high _ _ _)) (λx o c=>by rw[r] at c;exact(Jq (y.owns c)).elim (h.high _ _ _) (h.high _ _ _)) (λk d f x o c=>by rw[j k d f] at c;exact h.high _ _ _ c)
 .exact J (λx c=>by rw[n] at c;exact(LH (w.X3 c)).elim (h.Tu _ _) (h.Tu _ _)) (λx c=>by rw[r] at c;exact(LH (y.X3 c)).elim (h.Tu _ _) (h.Tu _ _)) (λk d f x c=>by rw[j k d f] at c;exact h.Tu _ _ c)
 .obtain⟨K,L,M⟩:=h.fresh i x v hv;exact⟨K,R x L,M⟩
 .obtain⟨K,L,M⟩:=E.Vm s o x D g;exact⟨K,R x L,M⟩
 .have U:(.inr x:Zi)≠b:=λe=>by
   obtain⟨s,o,D,hi⟩:=P x (.inl e.symm);obtain⟨o',d,f⟩:=I.2 s o D;exact g s o' d (by rw[<-f];exact hi)
  have V:(.inr x:Zi)≠a:=λe=>by
   obtain⟨s,o,D,hi⟩:=P x (.inr e.symm);obtain⟨o',d,f⟩:=I.2 s o D;exact g s o' d (by rw[<-f];exact hi)
  rw[j _ V U];exact E.Yq x g
theorem Sub.RI {G E A:Ψ} (h:Sub A G):Sub A (join G E):=
 ⟨λb o v p c=>let ⟨d,e,f⟩:=h.ς b o v p c;⟨d,by simp[join,e],f⟩,λb x a=>by simp[join,h.row b x a],λb x a=>by simp[join,h.obj b x a]⟩
theorem W2.two (h:W2 H η O ZK w) {a b:Zi} {A B:Ψ} (e:Fits A w) (f:Fits B w) (g:∀s o',O' s=some o'->At s o' w):W2 (ZI (ZI H a A) b B) η O' ZK w:=by
 refine⟨λk=>?_,h.Uu,g,h.keep⟩;by_cases c:k=b
 .subst c;rw[YE];exact f
 .rw[ZH _ _ c];by_cases d:k=a
  .subst d;rw[YE];exact e
  .rw[ZH _ _ d];exact h.fit k
theorem W2.atom (h:W2 H η O ZK w) (u:Ws H η O RJ) (Q:ZK.heap.size=RJ) {s:Nat} {o o':ν} (v:O s=some o) (R:o'.toSpec=o.toSpec) (d:XP (λb _=>Ys s o.toSpec b) (λ_=>False) w w') (E:At s o' w') :
  W2 H η (Go.ConcN.upd O s (some o')) ZK w':=by
 refine⟨λk=>(h.fit k).keeps d (λb f a=>((u.Vm s o b v a).2.1 k).1 f) (λb a=>a.elim),λj b c t a=>?_,λr q n=>?_,?_⟩
 .obtain⟨c',g,p,i⟩:=d.cells b c t _ (h.Uu j b c t a);have:c'=c:=by
   apply OD;intro f;exact i f λA=>by rw[(u.Vm s o b v A).2.2 j] at a;cases a
  rw[g,this]
 .by_cases e:r=s
  .subst e;rw[upd_same] at n;cases n;exact E
  .rw[upd_ne _ _ e] at n;have B:∀b c t,Ys r q.toSpec b->w.heap[b]?=some (.cells c t (0,0))->w'.heap[b]?=some (.cells c t (0,0)):=λb c t a F=>by
    obtain⟨c',g,p,i⟩:=d.cells b c t _ F;have:c'=c:=by
     apply OD;intro f;exact i f λA=>e (u.U' r s q o b n v a A)
    rw[g,this]
   obtain⟨⟨I,g⟩,p⟩:=h.XH r q n;exact⟨⟨I,B _ _ _ (.inl rfl) g⟩,λm C=>let ⟨J,i⟩:=p m C;⟨J,B _ _ _ (.inr C) i⟩⟩
 .have l:=h.keep;refine⟨Xs l.size d.size,λb c t D a=>?_,λb x a y _=>d.TW b x (l.TW b x a y id) y id,l.os.trans d.os,d.output.trans l.output,d.tape.trans l.tape⟩;obtain⟨K,g,p,i⟩:=l.cells b c t D a;obtain⟨L,M,N,P⟩:=d.cells b K t D g;refine⟨L,M,by rw[N,p],λf _=>?_⟩;rw[P f λy=>?_,i f id];have:=(u.Vm s o b v y).1;have:=XO a;omega
end
structure Oy (H:Zi->Ψ) (tok:Nat->Nat->Tok) (a:Nat->Option ν):Prop where
 Sm:∀s o m,a s=some o->o.Z0=some m->(∀i q p,tok i s≠.par q p .Z4)->(∀i k L g,tok i s≠.ch k (.YT L) g)->o.Yi o.L (H (.inr m))
 SO:∀s o,a s=some o->(∀i q p,tok i s≠.par q p .Z4)->UR o.D o.YY (H (.inr s))
structure Pn (n:Nat) (tok:Nat->Nat->Tok) (d:Nat->Bool) (c a b:Nat->Nat) (t:Trace):Prop where
 RH:∀k g,t.g? k=some g->g<n
 c1:∀i,i≠0->d i=true->∃e,t[b i]?=some e/\e.g=i/\e.act=.mark (.releaseMerge ⟨a i,0,none⟩)/\t.heard (b i)/\∀k,t.g? k=some i->t.counts k->Before t k (b i)
 c2:∀i,i≠0->d i=true->(∃q p,tok (c (a i)) (a i)=.par q p .Z4)->Knows t (c (a i)) (b i)
 c3:∀i,i≠0->d i=true->c (a i)≠0->d (c (a i))=true->Before t (b i) (b (c (a i)))
structure Ox (c:Nat->Nat->Option (Array Value×TypeId)) (tok:Nat->Nat->Tok) (d:Nat->Option ν) (e:Nat->Bool) (f:Nat->Nat) (t:Trace):Prop where
 Pm:∀s o m,d s=some o->o.Z0=some m->∀p a,t[p]?=some a->a.act=.mark (.releaseMerge ⟨m,0,none⟩)->(∃k h g,tok a.g s=.ch k h g)/\(e a.g=true->Before t p (f a.g))
 Pl:∀i b v,c i b=some v->∀a∈t,a.act≠.mark (.releaseMerge ⟨b,0,none⟩)
def Rec (P:Program) (b:Value->Prop) (c:Y1) (i:Nat) (g:Goroutine):Prop:=
 ∃TR,VS P b (c.T i) (i==0) TR (c.x i)/\(g=TR\/(Wg TR/\g={TR with status:=.blocked}/\∃s o,c.O s=some o/\VA o (c.tok i s)/\∀a,a≠s->TS (c.tok i a)))
structure Inv (P:Program) (d:Value->Prop) (b:World) (c:Y1) (a:Array Goroutine) (w:World) (t:Trace):Prop where
 pos:0<a.size
 mem:W2 c.H c.η c.O b w
 hold:Ws c.H c.η c.O b.heap.size
 ZF:Wf c.H c.η c.tok c.O c.ZA c.deaf w.heap.size t
 Zn:Yj a.size c.tok c.spec c.view c.rel c.O c.ZA c.home
 Yq:Oy c.H c.tok c.O
 Yv:Pn a.size c.tok c.rel c.ZA c.home c.Ya t
 W1:Ox c.η c.tok c.O c.rel c.Ya t
 Pk:∀i g,a[i]?=some g->Rec P d c i g
theorem Na {t u:Trace} {k:Nat} (h:k<t.size):(t++u).counts k↔t.counts k:=by
 unfold Trace.counts;rw[act?_old h,heard_old h]
theorem Pn.app {n:Nat} {tok l:Nat->Nat->Tok} {m:Nat->Bool} {y A B:Nat->Nat} {t u:Trace} (h:Pn n tok m y A B t) {i:Nat} (hi:i<n) (C:∀b∈u,b.g=i)
  (F:m i=true->∀k,t.size<=k->¬(t++u).counts k) (Q:∀s q p,(∃j,l j s=.par q p .Z4)->∃j,tok j s=.par q p .Z4) (H:∀j s q p,l j s=.par q p .Z4->tok j s=.par q p .Z4):Pn n l m y A B (t++u):=by
 refine⟨λk g o=>?_,λj c a=>?_,λj c a I=>?_,λj c a f r=>(h.c3 j c a f r).app u⟩
 .obtain⟨b,v,d⟩:=T1.1 o;rcases getElem?_append_cases v with⟨_,w⟩|⟨_,x⟩
  .exact h.RH k g (by simp[Trace.g?,w,d])
  .rw[<-d,C b x];exact hi
 .obtain⟨b,f,r,J,K,L⟩:=h.c1 j c a;have D:=lt_size_of_getElem? f;refine⟨b,by rw[getElem?_append_old D];exact f,r,J,(heard_old D).2 K,λk o E=>?_⟩;obtain⟨M,v,d⟩:=T1.1 o;rcases getElem?_append_cases v with⟨N,w⟩|⟨O,x⟩
  .exact(L k (by simp[Trace.g?,w,d]) ((Na N).1 E)).app u
  .have e:j=i:=by rw[<-d,C M x]
   subst e;exact absurd E (F a k O)
 .obtain⟨q,p,P⟩:=I;exact(h.c2 j c a ⟨q,p,H _ _ _ _ P⟩).app u
section
variable {P:Program} {Q:Value->Prop} {ZK:World} {c:Y1} {gs:Array Goroutine} {w:World} {t:Trace}
theorem Inv.stat (h:Inv P Q ZK c gs w t) {i:Nat} {g:Goroutine} (m:gs[i]?=some g):g.status=.running\/(i≠0/\g.status=.finished/\c.rel i=true/\∀s,Gone (c.tok i s))\/(g.status=.blocked/\∃s o,c.O s=some o/\VA o (c.tok i s)/\∀k,k≠s->TS (c.tok i k)):=by
 obtain⟨r,d,n⟩:=h.Pk i g m;rcases n with rfl|⟨_,rfl,p⟩
 .cases l:c.T i with
  | leaf=>
   rw[l] at d;rcases d.2 with⟨_,a⟩|⟨e,a,b,j,_⟩
   .exact .inl a.1.1
   .exact .inr (.inl ⟨by rintro rfl;simp at e,j,a,b⟩)
  | node f=>
   rw[l] at d;rcases d.2 with(⟨_,a⟩|⟨e,a,b,j,_⟩)|a
   .exact .inl a.1.1
   .exact .inr (.inl ⟨by rintro rfl;simp at e,j,a,b⟩)
   .rcases a with⟨_,b,_⟩|⟨b,_⟩
    .exact .inl b
    .exact .inl b.1
 .exact .inr (.inr ⟨rfl,p⟩)
theorem CL {t:Tok} (h:SX t):∃k m g,t=.ch k m g/\¬TS t/\(∀o,¬VA o t)/\m≠.done/\m≠.idle:=by
 cases t with
 | nil=>exact h.elim
 | par=>exact h.elim
 | ch k m g=>
  refine⟨k,m,g,rfl,?_⟩;cases m with
  | act b=>cases b<;>first|exact h.elim|simp[TS,VA]
  | _=>first|exact h.elim|simp[TS,VA]
theorem Inv.awake (h:Inv P Q ZK c gs w t):∃(i:Nat) (g:Goroutine),gs[i]?=some g/\g.status=.running:=by
 apply T4;intro M;have F:∀i,i<gs.size->(c.rel i=true/\∀s,Gone (c.tok i s))\/∃s o,c.O s=some o/\VA o (c.tok i s)/\∀b,b≠s->TS (c.tok i b):=λi hi=>by
  have C:gs[i]?=some gs[i]:=X4 hi;rcases h.stat C with f|⟨_,_,f⟩|⟨_,f⟩
  .exact absurd ⟨i,_,C,f⟩ M
  .exact .inl f
  .exact .inr f
 have N:∀i s o n p,c.O s=some o->c.tok i s=.par n p .w3->o.Y5=0->∃j b o' y A,i<j/\j<gs.size/\c.O b=some o'/\c.tok j b=.par y A .w3/\o'.Y5=0:=λi s o n p u B H=>by
  have R:i<gs.size:=h.Zn.lt (s:=s) (by rw[B];simp);obtain⟨j,I,S⟩:=CV (h.Zn.ζ s o u).2 (i:=i) R B H;have x:RN (c.tok j s):=S;have T:∃k m g,c.tok j s=.ch k m g/\g≠.gone:=by
   cases v:c.tok j s with
   | nil=>rw[v] at x;exact x.elim
   | par=>rw[v] at x;exact x.elim
   | ch k m g=>rw[v] at x;exact⟨k,m,g,rfl,by rintro rfl;exact x⟩
  obtain⟨k,m,g,v,C⟩:=T;obtain⟨_,V,au⟩:=h.Zn.SS j s k m g v;have hi:=h.Zn.par i s n p _ B;rcases F j I with⟨_,f⟩|⟨b,o',J,l,av⟩
  .have:=f s;rw[v] at this;cases g<;>first|exact absurd rfl C|exact this.elim
  .by_cases e:b=s
   .subst e;rw[u] at J;cases J;rw[v] at l;have W:m=.q/\o.YM=0:=by cases m<;>simp_all [VA]
    obtain⟨rfl,X⟩:=W;have Y:0<Z6 gs.size (λa=>c.tok a b) UW:=by
     have:=XS (λa=>c.tok a b) UW I;simp only[v,UW,Nj] at this;omega
    obtain⟨a,Z,aa⟩:=CW (h.Zn.ζ b o u).1 Y X;obtain⟨D,E,g',ab,ad,ae,af,ag⟩:=CL aa;have K:c.tok a b=.ch D E g':=ab;exfalso;rcases F a Z with⟨_,f⟩|⟨ah,aw,ax,ai,aj⟩
    .have L:=f b;rw[K] at L;have:g'≠.work:=by rintro rfl;exact L
     rcases h.Zn.SQ a b D E g' o u K this with e|⟨e,_⟩
     .exact af e
     .exact ag e
    .by_cases Χ:ah=b
     .subst Χ;exact ae _ ai
     .exact ad (aj b (Y2 Χ))
   .cases r:c.tok j b with
    | nil=>rw[r] at l;exact l.elim
    | ch D E g'=>exact absurd ((h.Zn.SS j b D E g' r).2.1.symm.trans V) e
    | par y A ak=>
     rw[r] at l;cases ak<;>first|exact l.elim|exact⟨j,b,o',y,A,U,I,J,r,l⟩
 have al:∀d i s o n p,gs.size-i=d->i<gs.size->c.O s=some o->c.tok i s=.par n p .w3->o.Y5=0->False:=λd=>by
  induction d using Nat.strongRecOn with
  | _ d am=>
   intro i s o n p hd hi u B H;obtain⟨j,b,o',y,A,f,an,ao,ap,aq⟩:=N i s o n p u B H;exact am (gs.size-j) U j b o' y A rfl an ao ap aq
 rcases F 0 h.pos with⟨f,_⟩|⟨s,o,u,l,_⟩
 .rw[h.Zn.Qg] at f;cases f
 .cases r:c.tok 0 s with
  | nil=>rw[r] at l;exact l.elim
  | ch k m g=>exact(h.Zn.SS 0 s k m g r).1 rfl
  | par n p ar=>
   rw[r] at l;cases ar<;>first|exact l.elim|exact al _ 0 s o n p rfl h.pos u r l
theorem Rec.woken {c':Y1} {i j:Nat} {g g' b:Goroutine} {w':World} (h:Rec P Q c j b) (k:c'.x j=c.x j) (l:c'.T j=c.T j)
  (hw:(mayWake P g=true/\Wg g')\/∀s o,c.O s=some o->VA o (c.tok j s)->∃o',c'.O s=some o'/\VA o' (c.tok j s)):Rec P Q c' j (Go.Conc.woken P g g' w' b):=by
 have r:c'.tok j=c.tok j:=congrArg γ.tok k;obtain⟨m,d,A⟩:=h;rcases A with rfl|⟨t,rfl,s,o,n,B,C⟩
 .have n:b.status=.running\/b.status=.finished:=by
   cases u:c.T j with
   | leaf=>
    rw[u] at d;rcases d.2 with⟨_,a⟩|⟨_,_,_,p,_⟩
    .exact .inl a.1.1
    .exact .inr p
   | node f=>
    rw[u] at d;rcases d.2 with(⟨_,a⟩|⟨_,_,_,p,_⟩)|a
    .exact .inl a.1.1
    .exact .inr p
    .rcases a with⟨_,e,_⟩|⟨e,_⟩
     .exact .inl e
     .exact .inl e.1
  have:Go.Conc.woken P g g' w' b=b:=by
   unfold Go.Conc.woken;split
   .exact again_running _ n
   .rfl
  rw[this];exact⟨b,by rw[k,l];exact d,.inl rfl⟩
 .unfold Go.Conc.woken;split
  .rename_i v;refine⟨m,by rw[k,l];exact d,.inl ?_⟩;obtain⟨w,y⟩:=t;obtain⟨Η,Z4,st,D,of⟩:=m;simp only at w y;subst w y;rfl
  .rename_i v;rcases hw with⟨a,e⟩|hw
   .exfalso;apply v;simp[a,e.1]
   .obtain⟨o',a,e⟩:=hw s o n B;exact⟨m,by rw[k,l];exact d,.inr ⟨t,rfl,s,o',a,by rw[r];exact e,by rw[r];exact C⟩⟩
end
section
variable {P:Program} {Q:Value->Prop} {ZK:World} {c:Y1} {gs:Array Goroutine} {w:World} {t:Trace}
theorem Inv.at (h:Inv P Q ZK c gs w t) (d:Nat):Inv P Q ZK c gs (w.at d) t:=⟨h.pos,h.mem.at d,h.hold,h.ZF,h.Zn,h.Yq,h.Yv,h.W1,h.Pk⟩
theorem Inv.gone (h:Inv P Q ZK c gs w t) (F:∀s,Xy (c.tok 0 s)):∀j,j≠0->j<gs.size->c.rel j=true/\(∀s,Gone (c.tok j s))/\Knows t 0 (c.Ya j):=by
 have H:∀t:Tok,Xy t->Gone t:=λt d=>by cases t with
  | nil=>trivial
  | par _ _ b=>cases b<;>first|exact d.elim|trivial
  | ch=>exact d.elim
 intro j
 induction j using Nat.strongRecOn with
 | _ j I=>
  intro i l;obtain⟨k,m,g,d⟩:=h.Zn.Q0 j i l;obtain⟨_,_,K⟩:=h.Zn.SS j _ k m g d;cases A:c.O (c.home j) with
  | none=>have:=h.Zn.bare _ A j;rw[d] at this;cases this
  | some o=>
  have n:=h.Zn.ζ _ o A;obtain⟨u,B,C⟩:=LO (φ:=Yh) (N:=gs.size) (τ:=λa=>c.tok a (c.home j)) (by rw[n.2.Tv];exact Nat.one_pos);have L:∃q p b,c.tok u (c.home j)=.par q p b:=by
   cases f:c.tok u (c.home j) with
   | par q p b=>exact⟨q,p,b,rfl⟩
   | nil=>simp[f,Yh] at C
   | ch=>simp[f,Yh] at C
  obtain⟨q,p,b,f⟩:=L;have M:=h.Zn.par u _ q p b f;subst M;have R:b=.Z4/\(c.ZA (c.home j)≠0->c.rel (c.ZA (c.home j))=true/\Knows t 0 (c.Ya (c.ZA (c.home j)))):=by
   by_cases e:c.ZA (c.home j)=0
   .have:=F (c.home j);rw[<-e,f] at this;refine⟨by cases b<;>first|exact this.elim|rfl,λx=>absurd e x⟩
   .obtain⟨v,y,S⟩:=I _ K e B;have:=y (c.home j);rw[f] at this;exact⟨by cases b<;>first|exact this.elim|rfl,λ_=>⟨v,S⟩⟩
  obtain⟨rfl,T⟩:=R;have U:Z6 gs.size (λa=>c.tok a (c.home j)) Wt=1:=by
   rw[Sp (φ:=Wt) (λt d=>by cases t<;>simp_all [Yh,Wt]) n.2.Tv B (by rw[f];rfl),f];rfl
  obtain⟨f1,f2,f3,f4,f5,f6⟩:=n.2.Hy U;have W:=n.2.Jz;have l1:=XS (λa=>c.tok a (c.home j)) V5 l;have l2:=XS (λa=>c.tok a (c.home j)) VC l;have D:=XS (λa=>c.tok a (c.home j)) VB l;simp only[d,V5,VC,VB] at l1 l2 D;have V:g=.gone:=by
   cases g with
   | gone=>rfl
   | work=>simp only[Q1] at l1;omega
   | rel=>simp only[Q1] at l1;omega
   | l2=>simp only[Pv] at l2;omega
   | Ss=>simp only[Pu] at D;omega
  subst V;have r:c.rel j=true:=(h.Zn.Sn j k m _ i d).2 J;refine⟨r,λs=>?_,?_⟩
  .by_cases e:s=c.home j
   .subst e;rw[d];trivial
   .exact H _ (h.Zn.SR j s r e)
  .have E:=h.Yv.c2 j i r ⟨q,p,f⟩;by_cases e:c.ZA (c.home j)=0
   .rw[e] at E;exact E
   .obtain⟨v,y⟩:=T e;exact Knows.of_before (h.Yv.c3 j i r e v) y
theorem CK {o:ν} {x:Tok} (h:Gone x) (a:∀k m g,x=.ch k m g->m≠.q):¬VA o x:=by
 cases x with
 | nil=>exact id
 | par _ _ b=>cases b<;>first|exact h.elim|exact id
 | ch k m g=>cases m<;>first|exact absurd rfl (a _ _ _ rfl)|exact id
theorem Inv.Hc (h:Inv P Q ZK c gs w t) {g:Goroutine} (al:gs[0]?=some g) (C:Hi P g (c.x 0) Q) (sl:Option (Nat×Nat)) (w1:World) :
  ∃v es,stepG P true g w=.ended (.done v) w es/\Good P (λv w'=>Q v/\XP (λ_ _=>False) (λ_=>False) ZK w') (crowd gs w1 sl) (.done v) w (t++MemOp.ofEvents 0 g.frame.fn g.frame.place es):=by
 obtain⟨_,N,hd,O⟩:=C;obtain⟨v,es,R,S,V⟩:=O w (h.mem.fit (.inl 0));refine⟨v,es,R,v,rfl,⟨V,h.mem.keep⟩,?_⟩;have F:=h.gone N;have I:=h.ZF.own (w':=w) h.mem h.hold 0 (G':=c.H (.inl 0)) (V':=c.η 0) (es:=es) (fn:=g.frame.fn) (pos:=g.frame.place) (ZO _)
  ⟨λb o v p i=>.inr ⟨v,p,i,id⟩,λb W=>.inr W⟩ (λb x a=>.inl a) S (λb x a am=>by
   have:=XO (h.mem.Uu 0 b x.1 x.2 a);omega)
 have J:∀j x,j≠0->gs[j]?=some x->∃n,QuitsD P n (c.deaf j) x:=λj x d a=>by
  have X:=(UA.1 a).1;obtain⟨r,u,_⟩:=F j d X;obtain⟨Y,y,i⟩:=h.Pk j x a;have l:∃n,QuitsD P n (c.deaf j) Y:=by
   cases K:c.T j with
   | leaf=>rw[K] at y;exact y.1 r u
   | node f=>rw[K] at y;exact y.1 r u
  rcases i with rfl|⟨_,_,s,o,C,Z,_⟩
  .exact l
  .refine absurd Z (CK (u s) λk m g e aa=>?_);subst aa;have ab:g≠.work:=by rintro rfl;have:=u s;rw[e] at this;exact this
   rcases h.Zn.SQ j s k _ g o C e ab with x|⟨x,_⟩<;>cases x
 refine⟨I.race,λk g' ad A i=>?_,⟨λx a=>?_,rfl⟩,λj x a d=>?_⟩
 .obtain⟨an,ae,L⟩:=T1.1 ad;rcases getElem?_append_cases ae with⟨af,ag⟩|⟨_,ah⟩
  .have B:t.g? k=some g':=by simp[Trace.g?,ag,L]
   have ai:=h.Yv.RH k g' B;obtain⟨r,_,aj⟩:=F g' A ai;obtain⟨ao,ap,Χ,aq,ar,ak⟩:=h.Yv.c1 g' A r;obtain⟨q,z,D,M,E⟩:=Knows.of_before (ak k B ((Na af).1 i)) aj;refine⟨q,by simp[Trace.g?,getElem?_append_old (lt_size_of_getElem? D),D,M],?_⟩;rcases E with rfl|E
   .exfalso;simp[Trace.g?,D,M] at B;exact A B.symm
   .exact hb_app _ E
  .obtain⟨e,_,rfl⟩:=Go.Conc.mem_ofEvents ah;exact absurd L.symm A
 .obtain⟨j,d⟩:=List.mem_iff_getElem?.1 a;rw[Uz] at d;obtain⟨n,l⟩:=J (1+j) x U (by simpa[crowd] using d);exact⟨n,l.leaves⟩
 .obtain⟨n,l⟩:=J j x d a;refine⟨n,?_⟩;have e:(t++MemOp.ofEvents 0 g.frame.fn g.frame.place es).deaf j (t++MemOp.ofEvents 0 g.frame.fn g.frame.place es).size=c.deaf j:=I.hears j;rw[e];exact l.hears _
def Comes (P:Program) (Q:Value->Prop) (ZK:World) (m:Machine) (t:Trace):Prop:=
 ∃N a o w' t',runNT P (N+1) m t=(.ended o w',t')/\runN P N m=.next a/\step P a=.ended o w'/\Good P (λv w'=>Q v/\XP (λ_ _=>False) (λ_=>False) ZK w') a o w' t'
theorem Comes.next {m a:Machine} {u:Trace} (b:stepT P m=(.next a,u)) (h:Comes P Q ZK a (t++u)):Comes P Q ZK m t:=by
 obtain⟨n,last,o,w,t',c,d,e,f⟩:=h;exact⟨n+1,last,o,w,t',by rw[runNT_succ_next b];exact c,by rw[runN_succ_next b];exact d,e,f⟩
theorem Comes.last {m:Machine} {u:Trace} {o:Outcome} {w:World} (a:stepT P m=(.ended o w,u)) (b:Good P (λv w'=>Q v/\XP (λ_ _=>False) (λ_=>False) ZK w') m o w (t++u)):Comes P Q ZK m t:=
 ⟨0,m,o,w,t++u,by simp[runNT,a],rfl,by simp[step,a],b⟩
def Ow (gs:Array Goroutine):Nat:=(gs.toList.filter λg=>decide (g.status=.running)).length
structure Ord (a:List Nat) (n:Nat):Prop where
 nodup:a.Nodup
 mem:∀i,i∈a↔i<n
theorem Ord.part {c:List Nat} {n i:Nat} (h:Ord c n) (hi:i<n):∃a b,c=a++i::b/\i∉a/\i∉b:=by
 obtain⟨a,b,rfl⟩:=List.append_of_mem ((h.mem i).2 hi);have:=h.nodup;rw[List.nodup_append] at this;obtain⟨_,d,e⟩:=this;rw[RS] at d;exact⟨a,b,rfl,λf=>e i f i J rfl,d.1⟩
theorem Ov {B:Type} {T:Nat->B} {i:Nat} {x:B} {l:List Nat} (h:i∉l):l.map (upd T i x)=l.map T:=by
 apply Ns;intro j a;exact upd_ne _ _ (λe=>h (e▸a))
theorem Ord.one {B:Type} {c:List Nat} {n i:Nat} (h:Ord c n) (hi:i<n) {T:Nat->Xr B} {f:B->Xr B} (d:T i=.node f) (k:B):TT (c.map (upd T i (f k))) (c.map T):=by
 obtain⟨a,b,rfl,e,g⟩:=h.part hi;simp only[Xz,Xt,Ov e,Ov g,upd_same,d];exact .one _ _ _ _
theorem Ord.two {B:Type} {g:List Nat} {n i:Nat} (h:Ord g n) (hi:i<n) {T:Nat->Xr B} {f:B->Xr B} (t:T i=.node f) (k u:B) :
  ∃m,Ord m (n+1)/\TT (m.map (upd (upd T i (f k)) n (f u))) (g.map T):=by
 have o:n∉g:=λc=>by have:=(h.mem n).1 c;omega
 obtain⟨a,b,rfl,v,w⟩:=h.part hi;have p:n∉a:=λc=>o (by simp[c]);have r:n∉b:=λc=>o (by simp[c]);refine⟨a++i::n::b,⟨?_,λj=>?_⟩,?_⟩
 .have:=h.nodup;rw[List.nodup_append] at this ⊢;obtain⟨A,l,s⟩:=this;rw[RS] at l;refine⟨A,?_,λx c y d=>?_⟩
  .rw[RS,RS];exact⟨by simp;exact⟨U,l.1⟩,r,l.2⟩
  .simp at d;rcases d with rfl|rfl|d
   .exact s x c _ J
   .rintro rfl;exact p c
   .exact s x c y (by simp[d])
 .have:=h.mem j;simp only[V6,YZ] at this ⊢;constructor
  .rintro(c|rfl|rfl|c)
   .have:=this.1 (.inl c);omega
   .omega
   .omega
   .have:=this.1 (.inr (.inr c));omega
  .intro c;by_cases e:j=n
   .exact .inr (.inr (.inl e))
   .rcases this.2 U with c|rfl|c
    .exact .inl c
    .exact .inr (.inl rfl)
    .exact .inr (.inr (.inr c))
 .have C:i≠n:=by omega
  simp only[Xz,Xt,Ov p,Ov r,Ov v,Ov w,upd_same,upd_ne _ _ C,t];exact .two _ _ _ _ _
end
theorem LG {B:Type} {f:Nat->B} {k:Nat} {x:B} (h:f k=x):upd f k x=f:=by
 funext j
 by_cases e:j=k
 .subst e;rw[upd_same,h]
 .rw[upd_ne _ _ e]
theorem We (H:Zi->Ψ) (i:Nat) (G:Ψ) (b:Nat):ZI H (.inl i) G (.inr b)=H (.inr b):=ZH H G J
theorem Pj (tok:Nat->Nat->Tok) (i s:Nat) (t:Tok):Zz tok i s t i=upd (tok i) s t:=by unfold Zz;rw[upd_same]
theorem QY {tok:Nat->Nat->Tok} {i s j:Nat} (t:Tok) (h:j≠i):Zz tok i s t j=tok j:=by unfold Zz;rw[upd_ne _ _ h]
theorem Us {B:Type} {a:Array B} {k:Nat} {x:B} (h:a[k]?=some x):k<a.size:=(UA.1 h).1
theorem ofEvents_g {i:Nat} {fn:FuncId} {pos:String} {es:Array Event}:∀a∈MemOp.ofEvents i fn pos es,a.g=i:=λa b=>by obtain⟨e,_,rfl⟩:=Go.Conc.mem_ofEvents b;rfl
theorem Hb {i:Nat} {fn:FuncId} {pos:String}:MemOp.ofEvents i fn pos #[]=#[]:=by rw[ofEvents_eq];simp
theorem CJ (t:Trace) (i:Nat) (fn:FuncId) (pos:String) (es:Array Event) {j:Nat} (b:j<=es.size):(t++MemOp.ofEvents i fn pos es).deaf i (t.size+j)=deafBehind (Deaf t i) (es.extract 0 j):=by
 have e:t++MemOp.ofEvents i fn pos es=(t++MemOp.ofEvents i fn pos (es.extract 0 j))++MemOp.ofEvents i fn pos (es.extract j es.size):=by
  rw[PD];congr 1;rw[ofEvents_eq,ofEvents_eq,ofEvents_eq,<-Array.map_append];congr 1;simp only[Array.extract_append_extract];rw[show max j es.size=es.size by omega];simp
 have a:(t++MemOp.ofEvents i fn pos (es.extract 0 j)).size=t.size+j:=by rw[Array.size_append,ofEvents_eq];simp;omega
 rw[e,deaf_old U,<-a];exact Deaf_own t i fn pos _
theorem Jp {t u:Trace} {k:Nat} (c:t.size<=k) (d:(t++u).counts k):∃a,u[k-t.size]?=some a/\(t++u)[k]?=some a/\∃x,a.act.touch?=some x/\x.loc.isMemory=true/\(x.kind≠.atomic\/(t++u).heard k):=by
 obtain⟨x,e,f,g⟩:=d;obtain⟨a,b,h⟩:=touch_of (t:=t++u) (i:=k) e;exact⟨a,by rw[L' c] at b;exact b,b,x,h,f,g⟩
theorem Ou {t u:Trace} (h:∀a∈u,a.act.touch?=none):∀k,t.size<=k->¬(t++u).counts k:=λk c d=>by
 obtain⟨a,e,_,x,b,_⟩:=Jp c d;rw[h a (mem_of_getElem? e)] at b;cases b
theorem CI {t:Trace} {i:Nat} {fn:FuncId} {pos:String} {es:Array Event} (h:∀e∈es,LM e):∀k,t.size<=k->¬(t++MemOp.ofEvents i fn pos es).counts k:=λk c d=>by
 obtain⟨l,f,_,x,b,g,_⟩:=Jp c d;obtain⟨e,j,rfl⟩:=Go.Conc.mem_ofEvents (mem_of_getElem? f);obtain⟨m,wr,n⟩:=e;rcases h _ j with a|a<;>simp only at a<;>subst a<;>simp[MemAct.ofEvent,MemAct.touch?] at b;subst b;simp[Loc.isMemory] at g
theorem LF {s d i:Nat} {sp:Spec} {es:Array Event} {fn:FuncId} {pos:String} (h:SW s sp d es) {c:MemOp} (g:c∈MemOp.ofEvents i fn pos es) :
  (c.act=.mark .disable\/c.act=.mark .enable)\/∃b f wr,c.act=.access ⟨.cell ⟨b,f,none⟩,wr,true⟩/\Ys s sp b:=by
 obtain⟨e,k,rfl⟩:=Go.Conc.mem_ofEvents g;obtain⟨j,l⟩:=L7.1 k;obtain⟨n,wr,o⟩:=e;rcases h.2 j _ l with a|a|⟨b,f,p,a,m,_⟩
 .simp only at a;subst a;exact .inl (.inl rfl)
 .simp only at a;subst a;exact .inl (.inr rfl)
 .cases a;exact .inr ⟨b,f,_,rfl,m⟩
theorem CH {t:Trace} {s i:Nat} {sp:Spec} {fn:FuncId} {pos:String} {es:Array Event} (h:SW s sp (Deaf t i) es):∀k,t.size<=k->¬(t++MemOp.ofEvents i fn pos es).counts k:=λk m n=>by
 obtain⟨u,f,o,x,c,v,d⟩:=Jp m n;rw[ofEvents_eq,Qm] at f;obtain⟨e,j,rfl⟩:=T1.1 f;have p:k-t.size<es.size:=Us j;obtain⟨w,wr,y⟩:=e;rcases h.2 _ _ j with a|a|⟨b,A,B,a,C,hd⟩
 .simp only at a;subst a;simp[MemAct.ofEvent,MemAct.touch?] at c
 .simp only at a;subst a;simp[MemAct.ofEvent,MemAct.touch?] at c
 .cases a;simp[MemAct.ofEvent,MemAct.touch?] at c;subst c;rcases d with d|⟨g,l,r⟩
  .exact d rfl
  .simp[Trace.g?,o] at l;subst l;have:=CJ t i fn pos es (St p);rw[show t.size+(k-t.size)=k by omega] at this;rw[this] at r;omega
section
variable {P:Program} {Q:Value->Prop} {ZK:World} {c c':Y1} {gs:Array Goroutine} {w w':World} {t:Trace} {i:Nat} {g g':Goroutine} {es:Array Event}
theorem Inv.low (h:Inv P Q ZK c gs w t) {s b:Nat} {o:ν} (a:c.O s=some o) (hb:Ys s o.toSpec b):b<w.heap.size:=by
 obtain⟨⟨g,d⟩,e⟩:=h.mem.XH s o a;rcases hb with rfl|hb
 .exact XO d
 .obtain⟨i,f⟩:=e b hb;exact XO f
theorem Inv.obj (h:Inv P Q ZK c gs w t) {s:Nat} (a:c.tok i s≠.nil):∃o,c.O s=some o:=by
 cases b:c.O s with
 | none=>exact absurd (h.Zn.bare s b i) a
 | some o=>exact⟨o,rfl⟩
theorem Wf.grow {H:Zi->Ψ} {a:Nat->Nat->Option (Array Value×TypeId)} {tok:Nat->Nat->Tok} {b:Nat->Option ν} {c d:Nat->Nat} {N e:Nat} (h:Wf H a tok b c d N t) (f:N<=e):Wf H a tok b c d e t:=
 ⟨h.race,λg i=>MemAct.low_mono f (h.low g i),h.norel,h.perms,h.SV,h.cont,h.hears⟩
theorem Ox.app {i l:Nat->Nat->Option (Array Value×TypeId)} {tok n:Nat->Nat->Tok} {r O':Nat->Option ν} {w:Nat->Bool} {x:Nat->Nat} {u:Trace} {N:Nat} (h:Ox i tok r w x t) (A:∀a∈t,a.act.low N)
  (y:∀a∈u,∀b,a.act≠.mark (.releaseMerge ⟨b,0,none⟩)) (hv:∀j b v,l j b=some v->(∃f,i j b=some f)\/N<=b) (B:∀s o',O' s=some o'->∃o,r s=some o/\o.Z0=o'.Z0)
  (C:∀j s k d g,tok j s=.ch k d g->∃k d g,n j s=.ch k d g):Ox l n O' w x (t++u):=by
 refine⟨λs o' m D E p a F c=>?_,λj b v H a I c=>?_⟩
 .obtain⟨o,J,K⟩:=B s o' D;rcases getElem?_append_cases F with⟨_,L⟩|⟨_,M⟩
  .obtain⟨⟨k,d,g,O⟩,P⟩:=h.Pm s o m J (by rw[K];exact E) p a L c;exact⟨C _ _ _ _ _ O,λQ=>(P Q).app u⟩
  .exact absurd c (y a M m)
 .rcases S1.1 I with e|e
  .rcases hv j b v H with⟨f,R⟩|hle
   .exact h.Pl j b f R a e c
   .have:=A a e;rw[c] at this;simp only[MemAct.low] at this;omega
  .exact y a e b c
theorem Oy.M' {H H':Zi->Ψ} {tok:Nat->Nat->Tok} {c:Nat->Option ν} (h:Oy H tok c) (f:∀b,H' (.inr b)=H (.inr b)):Oy H' tok c:=
 ⟨λs o m a b d e=>by rw[f];exact h.Sm s o m a b d e,λs o a b=>by rw[f];exact h.SO s o a b⟩
theorem Inv.laid (h:Inv P Q ZK c gs w t) (l:gs[i]?=some g) {u:Trace}
  (mem:W2 c'.H c'.η c'.O ZK w') (hold:Ws c'.H c'.η c'.O ZK.heap.size) (ZF:Wf c'.H c'.η c'.tok c'.O c'.ZA c'.deaf w'.heap.size (t++u))
  (Zn:Yj gs.size c'.tok c'.spec c'.view c'.rel c'.O c'.ZA c'.home) (Yq:Oy c'.H c'.tok c'.O) (Yv:Pn gs.size c'.tok c'.rel c'.ZA c'.home c'.Ya (t++u)) (W1:Ox c'.η c'.tok c'.O c'.rel c'.Ya (t++u))
  (m:Rec P Q c' i g') (k:∀j,j≠i->c'.x j=c.x j/\c'.T j=c.T j)
  (d:(mayWake P g=true/\Wg g')\/∀j s o,j≠i->c.O s=some o->VA o (c.tok j s)->∃o',c'.O s=some o'/\VA o' (c.tok j s)) :
  Inv P Q ZK c' ((gs.map (woken P g g' w')).setIfInBounds i g') w' (t++u):=by
 have f:((gs.map (woken P g g' w')).setIfInBounds i g').size=gs.size:=J
 have n:i<gs.size:=Us l;refine⟨by rw[f];exact h.pos,mem,hold,ZF,by rw[f];exact Zn,Yq,by rw[f];exact Yv,W1,λj b a=>?_⟩;by_cases e:j=i
 .subst e;rw[T5 (by simpa using n)] at a;cases a;exact m
 .rw[Vp (Y2 e),Qm] at a;obtain⟨p,r,rfl⟩:=T1.1 a;exact(h.Pk j p r).woken (i:=0) (k j e).1 (k j e).2 (d.imp id λd s o v y=>d j s o e v y)
def WC (P:Program) (Q:Value->Prop) (ZK:World) (c:Y1) (gs:Array Goroutine) (w:World) (t:Trace) (i:Nat) (f:Bool×Goroutine×γ->Xr (Bool×Goroutine×γ)):Prop:=
 ∀sl,∃c' a w' u,runT P (crowd gs w sl) i=(.next (crowd a w' sl),u)/\Inv P Q ZK c' a w' (t++u)/\
  ((a.size=gs.size/\∃k,c'.T=upd c.T i (f k))\/(a.size=gs.size+1/\∃k b,c'.T=upd (upd c.T i (f k)) gs.size (f b))\/(a.size=gs.size/\c'.T=c.T/\Ow a<Ow gs))
def LD (P:Program) (Q:Value->Prop) (ZK:World) (c:Y1) (gs:Array Goroutine) (w:World) (t:Trace) (i:Nat) (f:Bool×Goroutine×γ->Xr (Bool×Goroutine×γ)):Prop:=
 ∃c',Inv P Q ZK c' gs w t/\∃k,c'.T=upd c.T i (f k)
abbrev UQ (P:Program) (Q:Value->Prop) (f:Bool×Goroutine×γ->Xr (Bool×Goroutine×γ)):Ng:=λa g' b=>VS P Q (f (a,g',b)) a g' b
theorem WC.go {f:Bool×Goroutine×γ->Xr (Bool×Goroutine×γ)} (a:gs[i]?=some g) (b:stepG P (i==0) g w=.go g' w' es)
  (h:Inv P Q ZK c' ((gs.map (woken P g g' w')).setIfInBounds i g') w' (t++MemOp.ofEvents i g.frame.fn g.frame.place es)) (k:Bool×Goroutine×γ) (d:c'.T=upd c.T i (f k)):WC P Q ZK c gs w t i f:=
 λ_=>⟨c',_,w',_,runT_crowd_go a b,h,.inl ⟨J,k,d⟩⟩
variable {f:Bool×Goroutine×γ->Xr (Bool×Goroutine×γ)}
theorem Inv.Js (h:Inv P Q ZK c gs w t) (u:gs[i]?=some g) (I:Hr P (i==0) (UQ P Q f) g (c.x i)):WC P Q ZK c gs w t i f:=by
 have p:=I w (h.mem.fit (.inl i)) (h.mem.Uu i);cases l:stepG P (i==0) g w with
 | go g' w' es=>
  rw[l] at p;obtain⟨G',V',Y,B,J,K,C,y,D,L,M⟩:=p;have N:i<gs.size:=Us u;have E:∀e∈es,WV (c.H (.inl i)) w.heap.size w'.heap.size e:=λe n=>by
   have:=D e n;split at this
   .exact this.Js
   .exact this
  have O:∀j,j≠i->({c with H:=ZI c.H (.inl i) G',η:=upd c.η i V',T:=upd c.T i (f (i==0,g',{c.x i with G:=G',η:=V'}))}:Y1).x j=c.x j:=λj d=>by
   have:(Sum.inl j:Zi)≠.inl i:=λe=>d (by cases e;rfl);simp[Y1.x,ZH _ _ this,upd_ne _ _ d]
  refine WC.go (c':={c with H:=ZI c.H (.inl i) G',η:=upd c.η i V',T:=upd c.T i (f (i==0,g',{c.x i with G:=G',η:=V'}))}) u l ?_ _ rfl;refine h.laid u (h.mem.own h.hold i B J K rfl) (h.hold.own h.mem h.mem.keep.size i C y) (h.ZF.own h.mem h.hold i B.size C y E L) h.Zn ?_ ?_ ?_ ?_ (λj d=>⟨O j d,upd_ne _ _ d⟩) (.inr λj s o _ a b=>⟨o,a,b⟩)
  .exact h.Yq.M' λb=>We c.H i G' b
  .refine h.Yv.app N ofEvents_g (λR=>CI λe n=>?_) (λ_ _ _ x=>x) (λ_ _ _ _ x=>x);have:=D e n;have S:(c.x i).rel=true:=R;simpa only[S,if_true] using this
  .refine h.W1.app h.ZF.low (λZ U b A=>?_) (λj b v hv=>?_) (λs o' l=>⟨o',l,rfl⟩) (λj s k V g e=>⟨k,V,g,e⟩)
   .obtain⟨e,n,rfl⟩:=Go.Conc.mem_ofEvents U;have F:=E e n;obtain⟨W,wr,X⟩:=e;cases W with
    | mark m=>simp only[WV] at F;subst F;simp[MemAct.ofEvent] at A
    | obj r=>cases wr<;>cases X<;>simp[MemAct.ofEvent] at A
    | _=>simp[MemAct.ofEvent] at A
   .replace hv:upd c.η i V' j b=some v:=hv
    by_cases d:j=i
    .subst d;rw[upd_same] at hv;exact(y b v hv).imp (λx=>⟨v,x⟩) (λx=>x.1)
    .rw[upd_ne _ _ d] at hv;exact .inl ⟨v,hv⟩
  .refine⟨g',?_,.inl rfl⟩;have e:({c with H:=ZI c.H (.inl i) G',η:=upd c.η i V',T:=upd c.T i (f (i==0,g',{c.x i with G:=G',η:=V'}))}:Y1).x i={c.x i with G:=G',η:=V'}:=by
    simp[Y1.x,upd_same]
   rw[e];show VS P Q (upd c.T i (f (i==0,g',{c.x i with G:=G',η:=V'})) i) _ _ _;rw[upd_same];exact M
 | _=>rw[l] at p;exact p.elim
theorem W2.M' {H:Zi->Ψ} {a:Nat->Nat->Option (Array Value×TypeId)} {b O':Nat->Option ν} (h:W2 H a b ZK w) (e:O'=b):W2 H a O' ZK w:=e▸h
theorem Inv.marked (h:Inv P Q ZK c gs w t) (u:gs[i]?=some g) {m:Mark} (B:m=.disable\/m=.enable) {d:Nat} (hd:d=deafBehind (c.deaf i) #[Go.ConcR.mk m]) (y:stepG P (i==0) g w=.go g' w #[Go.ConcR.mk m])
  (E:UQ P Q f (i==0) g' {c.x i with deaf:=d}):WC P Q ZK c gs w t i f:=by
 have F:i<gs.size:=Us u
 have nt:∀l∈MemOp.ofEvents i g.frame.fn g.frame.place #[Go.ConcR.mk m],l.act.touch?=none:=λl n=>by
  obtain⟨e,p,rfl⟩:=Go.Conc.mem_ofEvents n;simp at p;subst p;rcases B with rfl|rfl<;>rfl
 have A:∀l∈MemOp.ofEvents i g.frame.fn g.frame.place #[Go.ConcR.mk m],l.act=.mark .disable\/l.act=.mark .enable:=λl n=>by
  obtain⟨e,p,rfl⟩:=Go.Conc.mem_ofEvents n;simp at p;subst p;rcases B with rfl|rfl
  .exact .inl rfl
  .exact .inr rfl
 refine WC.go (c':={c with deaf:=upd c.deaf i d,T:=upd c.T i (f (i==0,g',{c.x i with deaf:=d}))}) u y ?_ _ rfl;refine h.laid u h.mem h.hold ?_ h.Zn h.Yq ?_ ?_ ⟨g',?_,.inl rfl⟩ (λj C=>⟨by simp[Y1.x,upd_ne _ _ C],upd_ne _ _ C⟩) (.inr λj s o _ a b=>⟨o,a,b⟩)
 .refine h.ZF.ext h.hold i ofEvents_g (λl n=>?_) (λl n a D=>?_) (λl n b r=>?_) (λj=>?_)
  .rcases A l n with e|e<;>rw[e]<;>trivial
  .rcases A l n with e|e<;>rw[e] at D<;>cases D
  .rw[nt l n] at r;cases r
  .by_cases e:j=i
   .subst e;rw[Deaf_own,h.ZF.hears,hd];exact(upd_same ..).symm
   .rw[Deaf_other t (Y2 e) _ ofEvents_g,h.ZF.hears];exact(upd_ne _ _ e).symm
 .exact h.Yv.app F ofEvents_g (λ_=>Ou nt) (λ_ _ _ x=>x) (λ_ _ _ _ x=>x)
 .refine h.W1.app h.ZF.low (λl n b r=>?_) (λj b v hv=>.inl ⟨v,hv⟩) (λs o' y=>⟨o',y,rfl⟩) (λj s k H g e=>⟨k,H,g,e⟩);rcases A l n with e|e<;>rw[e] at r<;>cases r
 .have e:({c with deaf:=upd c.deaf i d,T:=upd c.T i (f (i==0,g',{c.x i with deaf:=d}))}:Y1).x i={c.x i with deaf:=d}:=by
   simp[Y1.x,upd_same]
  rw[e];show VS P Q (upd c.T i (f (i==0,g',{c.x i with deaf:=d})) i) _ _ _;rw[upd_same];exact E
theorem Inv.CG (h:Inv P Q ZK c gs w t) (e:gs[i]?=some g) (a:Hq P (i==0) (UQ P Q f) g (c.x i)):WC P Q ZK c gs w t i f:=by
 obtain⟨g',_,a|⟨_,a⟩⟩:=a
 .obtain⟨b,d⟩:=a w (h.mem.fit (.inl i));exact h.marked e (.inl rfl) (by rfl) b d
 .obtain⟨b,d⟩:=a w (h.mem.fit (.inl i));exact h.marked e (.inr rfl) (by rfl) b d
theorem Inv.CF (h:Inv P Q ZK c gs w t) (y:gs[i]?=some g) (I:Hp P (i==0) (UQ P Q f) g (c.x i)):WC P Q ZK c gs w t i f:=by
 obtain⟨s,n,p,B,g',r,wr,J,U,K,V,L⟩:=I;have M:i<gs.size:=Us y;obtain⟨A,N⟩:=L w (h.mem.fit (.inl i));have C:c.tok i s=.par n p B:=J;obtain⟨o,D⟩:=h.obj (i:=i) (s:=s) (by rw[C];simp);have O:c.rel i=false:=K;have u:∀d∈MemOp.ofEvents i g.frame.fn g.frame.place #[Go.ConcR.mk (if wr then .write ⟨s,r,none⟩ else .read ⟨s,r,none⟩)],d.act=.mark (if wr then .write ⟨s,r,none⟩ else .read ⟨s,r,none⟩):=λd l=>by
  obtain⟨e,E,rfl⟩:=Go.Conc.mem_ofEvents l;simp at E;subst E;rfl
 refine WC.go (c':={c with T:=upd c.T i (f (i==0,g',c.x i))}) y A ?_ _ rfl;refine h.laid y h.mem h.hold ?_ h.Zn h.Yq ?_ ?_ ⟨g',?_,.inl rfl⟩ (λj R=>⟨rfl,upd_ne _ _ R⟩) (.inr λj s o _ a b=>⟨o,a,b⟩)
 .refine h.ZF.ext h.hold i ofEvents_g (λd l=>?_) (λd l a F=>?_) (λd l b m=>?_) (λj=>?_)
  .rw[u d l];have:=h.low D (.inl rfl);cases wr<;>exact this
  .rw[u d l] at F;cases wr<;>cases F
  .rw[u d l] at m;refine⟨s,o,s,r,D,.inl rfl,?_⟩;cases wr<;>simp[MemAct.touch?] at m<;>subst m<;>exact⟨rfl,.inr ⟨rfl,h.Zn.par i s n p B C⟩⟩
  .by_cases e:j=i
   .subst e;rw[Deaf_own,h.ZF.hears];cases wr<;>rfl
   .rw[Deaf_other t (Y2 e) _ ofEvents_g,h.ZF.hears]
 .exact h.Yv.app M ofEvents_g (λH=>by rw[O] at H;cases H) (λ_ _ _ x=>x) (λ_ _ _ _ x=>x)
 .refine h.W1.app h.ZF.low (λd l b m=>?_) (λj b v hv=>.inl ⟨v,hv⟩) (λs o' A=>⟨o',A,rfl⟩) (λj s k S g e=>⟨k,S,g,e⟩);rw[u d l] at m;cases wr<;>cases m
 .show VS P Q (upd c.T i (f (i==0,g',c.x i)) i) _ _ _;rw[upd_same];exact N
theorem Inv.quits (h:Inv P Q ZK c gs w t) (p:gs[i]?=some g) (D:Hj P (i==0) (UQ P Q f) g (c.x i)):WC P Q ZK c gs w t i f:=by
 obtain⟨E,K,L,M,g',es,A,r,F⟩:=D;have H:i<gs.size:=Us p;have nt:∀d∈MemOp.ofEvents i g.frame.fn g.frame.place es,d.act.touch?=none:=λd l=>by
  obtain⟨e,u,rfl⟩:=Go.Conc.mem_ofEvents l;exact touch_mute (A e u)
 have y:∀d∈MemOp.ofEvents i g.frame.fn g.frame.place es,d.act=.mark .disable\/d.act=.mark .enable:=λd l=>by
  obtain⟨⟨I,wr,N⟩,u,rfl⟩:=Go.Conc.mem_ofEvents l;have:=A _ u;cases I<;>simp[Event.mute] at this;rename_i m;cases m<;>simp_all [MemAct.ofEvent]
 refine WC.go (c':={c with deaf:=upd c.deaf i (deafBehind (c.deaf i) es),T:=upd c.T i (f (i==0,g',{c.x i with deaf:=deafBehind (c.x i).deaf es}))}) p (by rw[E];exact r w) ?_ _ rfl;refine h.laid p h.mem h.hold ?_ h.Zn h.Yq ?_ ?_ ⟨g',?_,.inl rfl⟩ (λj B=>⟨by simp[Y1.x,upd_ne _ _ B],upd_ne _ _ B⟩) (.inr λj s o _ a b=>⟨o,a,b⟩)
 .refine h.ZF.ext h.hold i ofEvents_g (λd l=>?_) (λd l a C=>?_) (λd l b n=>?_) (λj=>?_)
  .rcases y d l with e|e<;>rw[e]<;>trivial
  .rcases y d l with e|e<;>rw[e] at C<;>cases C
  .rw[nt d l] at n;cases n
  .by_cases e:j=i
   .subst e;rw[Deaf_own,h.ZF.hears];exact(upd_same ..).symm
   .rw[Deaf_other t (Y2 e) _ ofEvents_g,h.ZF.hears];exact(upd_ne _ _ e).symm
 .exact h.Yv.app H ofEvents_g (λ_=>Ou nt) (λ_ _ _ x=>x) (λ_ _ _ _ x=>x)
 .refine h.W1.app h.ZF.low (λd l b n=>?_) (λj b v hv=>.inl ⟨v,hv⟩) (λs o' r=>⟨o',r,rfl⟩) (λj s k J g e=>⟨k,J,g,e⟩);rcases y d l with e|e<;>rw[e] at n<;>cases n
 .have e:({c with deaf:=upd c.deaf i (deafBehind (c.deaf i) es),T:=upd c.T i (f (i==0,g',{c.x i with deaf:=deafBehind (c.x i).deaf es}))}:Y1).x i={c.x i with deaf:=deafBehind (c.x i).deaf es}:=by
   simp[Y1.x,upd_same]
  rw[e];show VS P Q (upd c.T i (f (i==0,g',{c.x i with deaf:=deafBehind (c.x i).deaf es})) i) _ _ _;rw[upd_same];exact F
end
end Go.TL
namespace Go.TL
open Go.Conc
open Go.ConcM (OsLater)
open Go.ConcN (sumTo upd sumTo_upd upd_ne upd_same sumTo_congr le_sumTo)
section
variable {P:Program} {Q:Value->Prop} {ZK:World} {c c':Y1} {gs:Array Goroutine} {w w':World} {t:Trace} {i:Nat} {g g':Goroutine} {es:Array Event}
variable {f:Bool×Goroutine×γ->Xr (Bool×Goroutine×γ)}
theorem CE {o o':ν} {t t':Tok} (h:Act o t o' t'):(∀q p,t'≠.par q p .Z4)/\(∀q p,t≠.par q p .Z4)/\∀k L g,t=.ch k (.YT L) g->∃g',t'=.ch k (.YT L) g':=by
 cases h<;>refine⟨λq p e=>?_,λq p e=>?_,λk L g e=>?_⟩<;>cases e
 all_goals exact⟨_,rfl⟩
theorem Ha {B:Type} (p:B->Bool) {y:B} (b:p y=false):∀(l:List B) (k:Nat) (x:B),l[k]?=some x->p x=true->((l.set k y).filter p).length<(l.filter p).length
 | [],k,x,h,_=>by simp at h
 | z::l,0,x,h,a=>by
  simp at h;subst h;simp[List.set,a,b]
 | z::l,k+1,x,h,a=>by
  have:=Ha p b l k x (by simpa using h) a;simp only[List.set,L0];split<;>simpa using this
theorem CD {k:Nat} (a:gs[k]?=some g) (b:g.status=.running) (c:g'.status≠.running):Ow (gs.setIfInBounds k g')<Ow gs:=by
 unfold Ow;rw[Array.toList_setIfInBounds];exact Ha (λg:Goroutine=>decide (g.status=.running)) (by simp[c]) _ k g (by rw[<-a];simp) (by simp[b])
theorem Inv.atom (h:Inv P Q ZK c gs w t) (D:gs[i]?=some g) (aj:Wg g) (av:VS P Q (c.T i) (i==0) g (c.x i)) (aw:Atom P (i==0) (UQ P Q f) g (c.x i)):WC P Q ZK c gs w t i f:=by
 obtain⟨s,sp,ax,ay,az⟩:=aw;have V:i<gs.size:=Us D;obtain⟨o,d,W⟩:=h.Zn.RL i s sp ax;have aA:∀b,Ys s sp b->b<w.heap.size:=λb l=>h.low d (by rw[W];exact l);have aB:¬Xy (c.tok i s):=ay;have aC:c.tok i s≠.nil:=λe=>aB (by rw[e];trivial);have ak:∀{w':World} {es:Array Event} {k:Nat},XP (λb _=>Ys s sp b) (λ_=>False) w w'->SW s sp (c.x i).deaf es->Wf c.H c.η c.tok c.O c.ZA c.deaf w'.heap.size (t++MemOp.ofEvents i g.frame.fn g.frame.place es):=λ{w' es k} K n=>by
  refine Wf.grow ?_ K.size;refine h.ZF.ext h.hold i ofEvents_g (λM F=>?_) (λM F a al=>?_) (λM F b l=>?_) (λj=>?_)
  .rcases LF n F with(e|e)|⟨b,X,wr,e,l⟩
   .rw[e];trivial
   .rw[e];trivial
   .rw[e];exact aA b l
  .rcases LF n F with(e|e)|⟨b,X,wr,e,l⟩<;>rw[e] at al<;>cases al
  .rcases LF n F with(e|e)|⟨I,X,wr,e,am⟩
   .rw[e] at l;cases l
   .rw[e] at l;cases l
   .rw[e] at l;simp[MemAct.touch?] at l;subst l;exact⟨s,o,I,X,d,by rw[W];exact am,rfl,.inl rfl⟩
  .by_cases e:j=i
   .subst e;rw[Deaf_own,h.ZF.hears];exact n.1
   .rw[Deaf_other t (Y2 e) _ ofEvents_g,h.ZF.hears]
 have an:∀{es:Array Event},SW s sp (c.x i).deaf es->∀M∈MemOp.ofEvents i g.frame.fn g.frame.place es,∀b,M.act≠.mark (.releaseMerge ⟨b,0,none⟩):=λn M F b l=>by
  rcases LF n F with(e|e)|⟨I,X,wr,e,am⟩<;>rw[e] at l<;>cases l
 have ao:∀{es:Array Event},SW s sp (c.x i).deaf es->∀k,t.size<=k->¬(t++MemOp.ofEvents i g.frame.fn g.frame.place es).counts k:=λn=>CH (s:=s) (sp:=sp) (by rw[h.ZF.hears];exact n);rcases az w (Yn gs.size o (λj=>c.tok j s)) o (h.mem.fit (.inl i)) (h.mem.Uu i) W (h.mem.XH s o d) (λaD aE hv=>by
   obtain⟨aW,ap,Χ,aF⟩:=h.Zn.Pq i s aD aE hv;rw[d] at ap;cases ap;exact⟨Χ,aF⟩) ⟨gs.size,λj=>c.tok j s,i,h.Zn.ζ s o d,V,rfl,λk L g e=>h.Zn.YT i s k L g o d e⟩ with Y|⟨aG,aH,E⟩
 .cases E:stepG P (i==0) g w with
  | go g' w' es=>
   rw[E] at Y;obtain⟨aI,K,n,aJ⟩:=Y;have aq:XP (λb _=>Ys s o.toSpec b) (λ_=>False) w w':=by rw[W];exact K
   rcases aJ with⟨ab,ad⟩|⟨o',t',R,ab,aK,ad⟩
   .refine WC.go (c':={c with view:=upd c.view i (upd (c.view i) s (some (Yn gs.size o (λj=>c.tok j s),o))),T:=upd c.T i (f (i==0,g',{c.x i with view:=upd (c.view i) s (some (Yn gs.size o (λj=>c.tok j s),o))}))}) D E ?_ _ rfl;refine h.laid D ((h.mem.atom h.hold rfl d rfl aq ab).M' (LG d).symm) h.hold (ak (k:=0) K n) (h.Zn.look d) h.Yq
     (h.Yv.app V ofEvents_g (λ_=>ao n) (λ_ _ _ x=>x) (λ_ _ _ _ x=>x))
     (h.W1.app h.ZF.low (an n) (λj b v hv=>.inl ⟨v,hv⟩) (λs o' E=>⟨o',E,rfl⟩) (λj s k Z g e=>⟨k,Z,g,e⟩))
     ⟨g',?_,.inl rfl⟩ (λj A=>⟨by simp[Y1.x,upd_ne _ _ A],upd_ne _ _ A⟩) (.inr λj s o _ a b=>⟨o,a,b⟩)
    have e:({c with view:=upd c.view i (upd (c.view i) s (some (Yn gs.size o (λj=>c.tok j s),o))),T:=upd c.T i (f (i==0,g',{c.x i with view:=upd (c.view i) s (some (Yn gs.size o (λj=>c.tok j s),o))}))}:Y1).x i={c.x i with view:=upd (c.view i) s (some (Yn gs.size o (λj=>c.tok j s),o))}:=by
     simp[Y1.x,upd_same]
    rw[e];show VS P Q (upd c.T i (f (i==0,g',{c.x i with view:=upd (c.view i) s (some (Yn gs.size o (λj=>c.tok j s),o))})) i) _ _ _;rw[upd_same];exact ad
   .have aL:=Hv (N:=gs.size) (τ:=λj=>c.tok j s) V rfl R
    have aM:=ad _ aL;obtain⟨ae,aN,aO⟩:=Hg R;obtain⟨aP,aQ,aR⟩:=CE R;have ar:=Ut.upd d ae;have aa:∀j r q p,Zz c.tok i s t' j r=.par q p .Z4↔c.tok j r=.par q p .Z4:=λj r q p=>by
     by_cases e:j=i/\r=s
     .obtain⟨rfl,rfl⟩:=e;rw[X2];exact⟨λx=>absurd x (aP q p),λx=>absurd x (aQ q p)⟩
     .rw[X' _ e]
    have aS:∀j r k L g,c.tok j r=.ch k (.YT L) g->∃g',Zz c.tok i s t' j r=.ch k (.YT L) g':=λj r k L g A=>by
     by_cases e:j=i/\r=s
     .obtain⟨rfl,rfl⟩:=e;rw[X2];exact aR k L g A
     .rw[X' _ e];exact⟨g,A⟩
    have keepW:o'=o->∀j r q,j≠i->c.O r=some q->VA q (c.tok j r)->∃au,upd c.O s (some o') r=some au/\VA au (c.tok j r):=λaf j r q _ a b=>⟨q,by
     by_cases e:r=s
     .subst e;subst af;rw[d] at a;cases a;exact upd_same _ _ _
     .rw[upd_ne _ _ e];exact a,b⟩
    have ag:∀r q,upd c.O s (some o') r=some q->∃B,c.O r=some B/\B.toSpec=q.toSpec/\B.L=q.L/\B.YY=q.YY:=λr q C=>by
     by_cases e:r=s
     .subst e;rw[upd_same] at C;cases C;exact⟨o,d,ae.symm,aN.symm,aO.symm⟩
     .rw[upd_ne _ _ e] at C;exact⟨q,C,rfl,rfl,rfl⟩
    let S:γ:={c.x i with tok:=upd (c.tok i) s t',view:=upd (c.view i) s (some (Yn gs.size o' (upd (λj=>c.tok j s) i t'),o'))};refine WC.go (c':={c with tok:=Zz c.tok i s t',view:=upd c.view i (upd (c.view i) s (some (Yn gs.size o' (upd (λj=>c.tok j s) i t'),o'))),O:=upd c.O s (some o'),T:=upd c.T i (f (i==0,g',S))}) D E ?_ _ rfl;refine h.laid D (h.mem.atom h.hold rfl d ae aq ab) (h.hold.TW ar) ((ak (k:=0) K n).CN ar λj r A e=>?_) (h.Zn.act d rfl R) ⟨λr q m C ah ai aT=>?_,λr q C ai=>?_⟩
     (h.Yv.app V ofEvents_g (λ_=>ao n) (λs q p ⟨j,x⟩=>⟨j,(aa j s q p).1 x⟩) (λj s q p x=>(aa j s q p).1 x))
     (h.W1.app h.ZF.low (an n) (λj b v hv=>.inl ⟨v,hv⟩) (λr q C=>let ⟨B,a,b,_⟩:=ag r q C;⟨B,a,by rw[b]⟩) (λj r k Z g e=>?_))
     ⟨g',?_,.inl rfl⟩ (λj A=>⟨by simp[Y1.x,upd_ne _ _ A,QY _ A],upd_ne _ _ A⟩) (aK.imp (λah=>⟨ah,aI⟩) λaf=>keepW af)
    .by_cases U:j=i/\r=s
     .obtain⟨rfl,rfl⟩:=U;exact aC e
     .apply A;show Zz c.tok i s t' j r=.nil;rw[X' _ U];exact e
    .obtain⟨B,a,b,I,_⟩:=ag r q C;have:=h.Yq.Sm r B m a (by rw[b];exact ah) (λj q p x=>ai j q p ((aa j r q p).2 x)) (λj k L g x=>let ⟨g',y⟩:=aS j r k L g x;aT j k L g' y);rw[b,I] at this;exact this
    .obtain⟨B,a,b,_,I⟩:=ag r q C;have:=h.Yq.SO r B a (λj q p x=>ai j q p ((aa j r q p).2 x));rw[b,I] at this;exact this
    .by_cases U:j=i/\r=s
     .obtain⟨rfl,rfl⟩:=U;obtain⟨aU,aV,y,_⟩:=(Hf R).2.1 k Z g e;exact⟨k,aU,aV,by show Zz c.tok j r t' j r=_;rw[X2];exact y⟩
     .exact⟨k,Z,g,by show Zz c.tok i s t' j r=_;rw[X' _ U];exact e⟩
    .have e:({c with tok:=Zz c.tok i s t',view:=upd c.view i (upd (c.view i) s (some (Yn gs.size o' (upd (λj=>c.tok j s) i t'),o'))),O:=upd c.O s (some o'),T:=upd c.T i (f (i==0,g',S))}:Y1).x i=S:=by
      simp[S,Y1.x,upd_same,Pj]
     rw[e];show VS P Q (upd c.T i (f (i==0,g',S)) i) _ _ _;rw[upd_same];exact aM
  | _=>rw[E] at Y;exact Y.elim
 .refine λsl=>⟨c,_,w,_,runT_crowd_go D E,?_,.inr (.inr ⟨J,rfl,?_⟩)⟩
  .rw[Hb,PC];have:=h.laid (c':=c) (u:=#[]) D (g':={g with status:=.blocked}) h.mem h.hold (by rw[PC];exact h.ZF) h.Zn h.Yq (by rw[PC];exact h.Yv) (by rw[PC];exact h.W1) ⟨g,av,.inr ⟨aj,rfl,s,o,d,aG,aH⟩⟩ (λj A=>⟨rfl,rfl⟩) (.inr λj s o _ a b=>⟨o,a,b⟩)
   rwa [PC] at this
  .have e:gs.map (woken P g {g with status:=.blocked} w)=gs:=by
    have:woken P g {g with status:=.blocked} w=id:=by
     funext b;simp[woken]
    rw[this];simp
   rw[e];exact CD D aj.1 J
end
end Go.TL
