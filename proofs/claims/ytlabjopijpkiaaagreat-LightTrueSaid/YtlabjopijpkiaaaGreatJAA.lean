import Derived.Conc.Beside
import Derived.Conc.CrowdBase
import Derived.Conc.MuSpec
import GoSem.Core.World
set_option maxHeartbeats 16000000
set_option maxRecDepth 20000
set_option linter.unusedSectionVars false
set_option linter.unusedSimpArgs false
set_option linter.unusedVariables false
namespace Go.TL
abbrev χ:=@Nat.zero_le
abbrev γ:=@Nat.le_refl
abbrev YU:=@List.getElem?_map
abbrev Zq:=@List.mem_map
abbrev Y6:=@List.mem_cons
abbrev Xr:=@List.getD_eq_getElem?_getD
abbrev YF:=@List.getElem_mem
abbrev We:=@List.take_succ_eq_append_getElem
abbrev Yp:=@List.length_map
abbrev WG:=@Array.getD_eq_getD_getElem?
abbrev Xa:=@List.getElem?_set_self
abbrev Ya:=@List.not_mem_nil
abbrev Yc:=@List.map_append
abbrev W':=@Bool.false_eq_true
abbrev WR:=@List.getElem?_set_ne
abbrev UR:=@Array.getElem?_setIfInBounds_ne
abbrev Tv:=@Array.getElem?_setIfInBounds_self_of_lt
abbrev Wv:=@Array.getElem?_toList
abbrev Wu:=@List.getElem?_eq_none
abbrev X':=@Nat.le_trans
abbrev Xk:=@Option.some.inj
abbrev WQ:=@List.all_eq_true
abbrev Xg:=@List.map_cons
abbrev YR:=@Ne.symm
abbrev U4:=@List.take_of_length_le
abbrev Wt:=@Bool.and_eq_true
abbrev VK:=@List.length_append
abbrev TY:=@Array.getElem?_eq_some_iff
abbrev Wd:=@List.mem_append
abbrev VJ:=@List.ext_getElem?
abbrev Ws:=@List.mem_range
abbrev TX:=@Array.size_setIfInBounds
abbrev Tu:=@Classical.byContradiction
abbrev V0:=@List.range_succ
abbrev Vi:=@List.append_assoc
abbrev Tt:=@List.getElem?_take_of_lt
abbrev Vw:=@List.append_nil
abbrev Ts:=@Option.map_eq_some_iff
abbrev Vh:=@List.mem_filter
abbrev Xx:=@Eq.trans
abbrev Wr:=@Nat.add_mul
abbrev Tr:=@Nat.mul_le_mul_right
abbrev Tq:=@List.getElem?_drop
abbrev Q':=@List.pairwise_iff_getElem
abbrev St:=@List.getElem?_of_mem
abbrev UB:=@Nat.add_assoc
abbrev UQ:=@Nat.zero_add
abbrev UP:=@Nat.succ_pos
abbrev Q9:=@List.length_replicate
abbrev RQ:=@List.length_pos_iff
abbrev SY:=@List.length_take
abbrev UA:=@List.map_nil
abbrev Ss:=@Array.mem_append
abbrev Q8:=@List.getElem?_range
abbrev Ql:=@List.filterMap_append
abbrev OS:=@List.drop_eq_getElem_cons
abbrev PA:=@List.contains_iff_mem
abbrev OR:=@Array.getElem?_replicate
abbrev Pz:=@List.set_append_right
abbrev RP:=@List.length_set
abbrev Qk:=@Nat.lt_of_le_of_lt
abbrev OQ:=@List.getElem?_replicate
abbrev NM:=@Array.getElem?_append_left
abbrev Qj:=@Option.some.injEq
abbrev Q7:=@List.nodup_cons
abbrev Q6:=@Bool.eq_iff_iff
abbrev Mo:=@Array.eq_empty_of_size_eq_zero
abbrev OP:=@List.take_append_drop
abbrev Py:=@Array.getElem?_map
abbrev Sr:=@Nat.le_of_lt
abbrev Qi:=@Nat.mod_eq_of_lt
abbrev Qh:=@List.isEmpty_iff
abbrev Qg:=@Nat.lt_succ_self
abbrev Qf:=@List.mem_flatMap
abbrev Sq:=@List.map_map
abbrev Px:=@List.foldl_append
abbrev OO:=@List.getElem_of_mem
abbrev ON:=@List.flatMap_append
abbrev NL:=@Array.getElem?_eq_none
abbrev Sp:=@Nat.mul_one
abbrev NK:=@List.drop_eq_nil_of_le
abbrev KM:=@List.pairwise_iff_forall_sublist
abbrev OM:=@Array.append_assoc
abbrev OL:=@Array.append_empty
abbrev OK:=@List.getElem?_take
abbrev OJ:=@List.pairwise_cons
abbrev Q5:=@Nat.sub_self
abbrev NJ:=@List.pairwise_append
abbrev NI:=@List.map_congr_left
abbrev NH:=@Array.getElem?_push
abbrev NG:=@List.mergeSort_perm
abbrev OI:=@List.take_length
abbrev NF:=@Array.ext_getElem?
abbrev KL:=@Array.getElem?_append_right
abbrev KJ:=@List.perm_ext_iff_of_nodup
abbrev Mn:=@Nat.pow_le_pow_right
abbrev KI:=@List.eq_of_mem_replicate
abbrev KH:=@List.Perm.eq_of_pairwise
abbrev KG:=@List.length_filterMap_le
abbrev Pw:=@List.map_set
abbrev KF:=@Bool.eq_false_or_eq_true
abbrev KE:=@List.pairwise_mergeSort
abbrev KD:=@Array.mem_iff_getElem?
abbrev OH:=@Nat.lt_or_ge
abbrev ND:=@Array.mem_push
abbrev OG:=@Nat.add_comm
abbrev OF:=@Nat.zero_mul
abbrev KC:=@List.length_filter_le
abbrev Mm:=@List.nodup_range
abbrev KB:=@List.range_eq_range'
abbrev KA:=@List.mem_of_mem_take
abbrev HM:=@Int.fdiv_eq_ediv_of_nonneg
abbrev HL:=@Int.tdiv_eq_ediv_of_nonneg
abbrev Ml:=@List.sum_append
abbrev HK:=@List.exists_mem_of_ne_nil
abbrev HJ:=@List.mem_or_eq_of_mem_set
abbrev Kz:=@Nat.lt_of_lt_of_le
abbrev Ky:=@Array.all_eq_true'
abbrev Kx:=@List.prefix_append
abbrev OE:=@Int.not_lt
abbrev Mk:=@Nat.mul_le_mul
abbrev Kw:=@List.pairwise_map
abbrev Kv:=@List.filter_congr
abbrev Ku:=@Bool.not_eq_true'
abbrev Kt:=@Nat.one_shiftLeft
abbrev Ks:=@List.take_sublist
abbrev Kr:=@List.filter_cons
abbrev Kq:=@List.range'_succ
abbrev Kp:=@List.any_eq_true
abbrev NC:=@Array.ext'
theorem δ {α : Type _} {l : List α} {i : Nat} (h : i < l.length) : l[i]? = some l[i] := List.getElem?_eq_getElem h
theorem ZA {α : Type _} {l : List α} {i : Nat} {a : α} : l[i]? = some a ↔ ∃ h : i < l.length, l[i] = a := List.getElem?_eq_some_iff
theorem Zi {α : Type _} {l : List α} {i : Nat} {a : α} (e : l[i]? = some a) : a ∈ l := List.mem_of_getElem? e
theorem YL {α : Type _} {l : List α} : l.length = 0 ↔ l = [] := List.length_eq_zero_iff
theorem YK {α : Type _} {a l₂ : List α} {i : Nat} (b : i < a.length) : (a ++ l₂)[i]? = a[i]? := List.getElem?_append_left b
theorem W8 {α : Type _} {a l₂ : List α} {i : Nat} (h : a.length <= i) : (a ++ l₂)[i]? = l₂[i - a.length]? := List.getElem?_append_right h
theorem XG {α : Type _} {xs : Array α} {i : Nat} (h : i < xs.size) : xs[i]? = some xs[i] := Array.getElem?_eq_getElem h
theorem U {p:Prop} (h:p:=by omega):p:=h
theorem ZD {p:Prop} (h:p:=by(try simp only);omega):p:=h
theorem I {p:Prop} (h:p:=by simp):p:=h
theorem ZY {p:Prop} (h:p:=by decide):p:=h
theorem ZG {α:Sort _} (a:α):∃x,a=x:=⟨a,rfl⟩
theorem Η {α:Sort _} (a:α):∃x,x=a:=⟨a,rfl⟩
def Obj.Qe:Obj->Bool
 | .cells ..=>true
 | _=>false
structure Χ where
 θ:Nat->Nat->Option (Value×Bool)
 row:Nat->Option (TypeId×Nat)
 obj:Nat->Option Obj
def Χ.empty:Χ:=⟨λ_ _=>none,λ_=>none,λ_=>none⟩
end Go.TL
namespace Go.TL
open Go.Conc
open Go.ConcM (OsLater)
structure Fits (G:Χ) (w:World):Prop where
 θ:∀b o v p,G.θ b o=some (v,p)->w.cell? ⟨b,o,none⟩=some v
 row:∀b t n,G.row b=some (t,n)->∃c,w.heap[b]?=some (.cells c t (0,0))/\c.size=n
 obj:∀b x,G.obj b=some x->w.heap[b]?=some x/\Obj.Qe x=false
def Χ.owns (G:Χ) (b o:Nat):Prop:=∃v,G.θ b o=some (v,true)
def Χ.has (G:Χ) (b o:Nat):Prop:=∃x,G.θ b o=some x
def Χ.XF (G:Χ) (b:Nat):Prop:=∃x,G.obj b=some x
structure Apart (G H:Χ):Prop where
 θ:∀b o,G.owns b o->¬H.has b o
 Q4:∀b o,H.owns b o->¬G.has b o
 obj:∀b,G.XF b->¬H.XF b
def Χ.off (G:Χ) (b:Nat):Prop:=(∀o,¬G.has b o)/\¬G.XF b
structure Xj (d:Nat->Nat->Prop) (e:Nat->Prop) (w w':World):Prop where
 size:w.heap.size<=w'.heap.size
 cells:∀b c t a,w.heap[b]?=some (.cells c t a)->∃c',w'.heap[b]?=some (.cells c' t a)/\c'.size=c.size/\∀o,¬d b o->c'[o]?=c[o]?
 Tp:∀b x,w.heap[b]?=some x->Obj.Qe x=false->¬e b->w'.heap[b]?=some x
 os:OsLater w.os w'.os
 output:w'.output=w.output
 tape:w'.tape=w.tape
theorem Xi {w:World} {b:Nat} {x:Obj} (h:w.heap[b]?=some x):b<w.heap.size:=by
 rcases OH b w.heap.size with a|a
 .exact a
 .rw[NL a] at h;cases h
theorem Q3 {w:World} {b o:Nat} {v:Value} (h:w.cell? ⟨b,o,none⟩=some v):∃c t d,w.heap[b]?=some (.cells c t d)/\c[o]?=some v:=by
 unfold World.cell? at h;cases a:w.heap[b]? with
 | none=>simp[a] at h
 | some x=>
  cases x<;>simp[a] at h;exact⟨_,_,_,rfl,h⟩
theorem SX {w:World} {b o:Nat} {v:Value} {c:Array Value} {t:TypeId} {a:Nat×Nat} (h:w.heap[b]?=some (.cells c t a)) (hv:c[o]?=some v):w.cell? ⟨b,o,none⟩=some v:=by
 simp[World.cell?,h,hv]
theorem Xj.refl (a:Nat->Nat->Prop) (d:Nat->Prop) (w:World):Xj a d w w:=
 ⟨γ _,λb c t e h=>⟨c,h,rfl,λ_ _=>rfl⟩,λ_ _ h _ _=>h,OsLater.refl _,rfl,rfl⟩
theorem Fits.keeps {g:Nat->Nat->Prop} {i:Nat->Prop} {w w':World} {H:Χ} (d:Fits H w) (e:Xj g i w w') (k:∀b o,g b o->¬H.has b o) (l:∀b,i b->¬H.XF b):Fits H w':=by
 refine⟨λb o v p h=>?_,λb t n h=>?_,λb x h=>?_⟩
 .obtain⟨c,t,m,a,hv⟩:=Q3 (d.θ b o v p h);obtain⟨c',f,_,r⟩:=e.cells b c t m a;exact SX f (by rw[r o λx=>k b o x ⟨_,h⟩];exact hv)
 .obtain⟨c,a,s⟩:=d.row b t n h;obtain⟨c',f,u,_⟩:=e.cells b c t _ a;exact⟨c',f,by rw[u,s]⟩
 .obtain⟨a,j⟩:=d.obj b x h;exact⟨e.Tp b x a j λy=>l b y ⟨_,h⟩,j⟩
theorem Fits.at {H:Χ} {w:World} (h:Fits H w) (d:Nat):Fits H (w.at d):=⟨h.θ,h.row,h.obj⟩
structure YI (t:Trace) (c:Nat->Prop) (G:Χ):Prop where
 θ:∀b o v p,G.θ b o=some (v,p)->∀i a,touchAt t i=some a->a.loc=.cell ⟨b,o,none⟩->(p=true\/a.write=true)->c i
 obj:∀b,G.XF b->∀i a,touchAt t i=some a->a.loc=.obj b->c i
theorem YI.mono {t:Trace} {e f:Nat->Prop} {G:Χ} (h:YI t e G) (g:∀i,e i->f i):YI t f G:=
 ⟨λb o v p j i a c d k=>g i (h.θ b o v p j i a c d k),λb l i a c d=>g i (h.obj b l i a c d)⟩
def SW (l:Loc) (b:Nat):Prop:=
 match l with
 | .cell a=>a.block=b
 | .obj r=>r=b
 | _=>False
def Wq (G:Χ) (n b:Nat) (e:Event):Prop:=
 match e.loc with
 | .cell a=>(n<=a.block/\a.block<b)\/(a.spot=none/\(if e.write then G.owns a.block a.off else G.has a.block a.off))
 | .obj r=>e.sync=false/\((n<=r/\r<b)\/G.XF r)
 | .output=>True
 | .goroutines=>False
 | .mark m=>m=.noRoom
theorem To {t u:Trace} {i:Nat} {a:Touch} (h:touchAt (t++u) i=some a):touchAt t i=some a\/(t.size<=i/\∃b∈u,(t++u)[i]?=some b/\b.act.touch?=some a):=by
 obtain⟨x,c,d⟩:=touch_of h;rcases getElem?_append_cases c with⟨_,e⟩|⟨f,g⟩
 .exact .inl (by rw[touchAt_of e];exact d)
 .exact .inr ⟨f,x,g,c,d⟩
theorem YI.own {t u:Trace} {i:Nat} {G:Χ} (h:YI t (Knows t i) G) (m:∀c∈u,c.g=i):YI (t++u) (Knows (t++u) i) G:=by
 refine⟨λb o v p n k a d e r=>?_,λb s k a d e=>?_⟩
 .rcases To d with f|⟨_,c,j,l,_⟩
  .exact(h.θ b o v p n k a f e r).app u
  .have:=knows_own l;rwa [m c j] at this
 .rcases To d with f|⟨_,c,j,l,_⟩
  .exact(h.obj b s k a f e).app u
  .have:=knows_own l;rwa [m c j] at this
theorem YI.others {t u:Trace} {l m:Nat->Prop} {G:Χ} (h:YI t l G) (n:∀i,l i->m i)
  (r:∀c∈u,∀a,c.act.touch?=some a->(∀b o v p,a.loc=.cell ⟨b,o,none⟩->G.θ b o=some (v,p)->p=false/\a.write=false)/\∀b,a.loc=.obj b->¬G.XF b):YI (t++u) m G:=by
 refine⟨λb o v p s k a e d hw=>?_,λb w k a e d=>?_⟩
 .rcases To e with f|⟨_,c,g,_,j⟩
  .exact n _ (h.θ b o v p s k a f d hw)
  .have:=((r c g a j).1 b o v p d s);rcases hw with hw|hw
   .rw[this.1] at hw;cases hw
   .rw[this.2] at hw;cases hw
 .rcases To e with f|⟨_,c,g,_,j⟩
  .exact n _ (h.obj b w k a f d)
  .exact absurd w ((r c g a j).2 b d)
end Go.TL
namespace Go.TL
open Go.Conc
open Go.ConcN (sumTo upd sumTo_upd upd_ne upd_same sumTo_congr le_sumTo)
inductive Un where
 | idle|act (a:Bool)|q|wk|hw|own|YJ (L:List Nat)|fin|uc|us|done
inductive Pv where
 | work|rel|l2|RO|gone
inductive Qd where
 | add|w3|w4|SV|ZP
inductive Tok where
 | nil
 | par (n pend:Nat) (a:Qd)
 | ch (k:Nat) (b:Un) (c:Pv)
structure Spec where
 ZO:Option Nat
 XQ:List Nat->Χ->Prop
 D:Nat->Χ->Prop
 top:Nat
structure ε extends Spec where
 Y7:Nat
 wk:Nat
 sv:Nat
 nw:Nat
 YE:Nat
 L:List Nat
 cnt:Nat
 wt:Nat
 YV:Nat
 R:List Nat
def Mj:Un->Nat|.own|.YJ _|.fin=>1|_=>0
def VZ:Tok->Nat|.ch _ m _=>Mj m|_=>0
def Ko:Un->Nat|.us|.wk|.hw=>1|_=>0
def SU:Tok->Nat|.ch _ m _=>Ko m|_=>0
def OD:Un->Nat|.act true=>1|_=>0
def TW:Tok->Nat|.ch _ m _=>OD m|_=>0
def Mi:Un->Nat|.q=>1|_=>0
def Um:Tok->Nat|.ch _ m _=>Mi m|_=>0
def Kn:Un->Nat|.hw=>1|_=>0
def Tn:Tok->Nat|.ch _ m _=>Kn m|_=>0
def HI:Un->Nat|.wk=>1|_=>0
def Q2:Tok->Nat|.ch _ m _=>HI m|_=>0
def Mh:Un->Nat|.wk|.hw=>1|_=>0
def Ul:Tok->Nat|.ch _ m _=>Mh m|_=>0
def HH:Un->Nat|.us=>1|_=>0
def Q1:Tok->Nat|.ch _ m _=>HH m|_=>0
def Km:Un->Nat|.uc=>1|_=>0
def SS:Tok->Nat|.ch _ m _=>Km m|_=>0
def Qc:Pv->Nat|.work|.rel=>1|_=>0
def Vv:Tok->Nat|.ch _ _ g=>Qc g|_=>0
def OC:Pv->Nat|.l2=>1|_=>0
def U3:Tok->Nat|.ch _ _ g=>OC g|_=>0
def OB:Pv->Nat|.RO=>1|_=>0
def U2:Tok->Nat|.ch _ _ g=>OB g|_=>0
def Uk:Tok->Nat|.ch ..=>1|_=>0
def XP:Tok->Nat|.par ..=>1|_=>0
def Wp:Tok->Nat|.par _ p _=>p|_=>0
def VY:Tok->Nat|.par n _ _=>n|_=>0
def TV:Tok->Nat|.par _ _ .add=>1|_=>0
def Uj:Tok->Nat|.par _ _ .w3=>1|_=>0
def VX:Tok->Nat|.par _ _ .w4|.par _ _ .SV|.par _ _ .ZP=>1|_=>0
def OA:Un->Nat
 | .idle=>20|.act false=>19|.act true=>18|.q=>12|.wk=>20|.hw=>19|.own=>14|.YJ _=>13|.fin=>12|.uc=>11|.us=>10|.done=>0
def Kl:Pv->Nat
 | .work=>6|.rel=>5|.l2=>4|.RO=>3|.gone=>0
def NB:Qd->Nat
 | .add=>8|.w3=>6|.w4=>3|.SV=>3|.ZP=>0
def TU (a:Nat):Tok->Nat
 | .nil=>0
 | .par n p b=>(a-n)*100+p*50+NB b
 | .ch _ m w=>OA m+Kl w
def ZQ (N:Nat) (τ:Nat->Tok) (φ:Tok->Nat):Nat:=sumTo N λi=>φ (τ i)
theorem W3 {N i:Nat} (τ:Nat->Tok) (t:Tok) (φ:Tok->Nat) (h:i<N):ZQ N (upd τ i t) φ+φ (τ i)=ZQ N τ φ+φ t:=sumTo_upd τ t φ h
theorem Xq {N i:Nat} (τ:Nat->Tok) (φ:Tok->Nat) (h:i<N):φ (τ i)<=ZQ N τ φ:=le_sumTo (f:=λi=>φ (τ i)) h
def XZ (N:Nat) (o:ε) (τ:Nat->Tok):Nat:=ZQ N τ (TU o.top)+9*o.YE+2*o.YV
structure Ap (a b c d e l f h i j g k m n:Nat):Prop where
 f1:a<=1
 f2:b<=1
 f3:c<=1
 E4:l=a
 ot:c=0->f+e+h=b/\j=0/\d+k+e=i
 oq:c=1->b=0/\h=0/\a+f+e=1/\d=i+g
 oo:c=0->a=0->0<d->b=0->0<m
 om:k+g=f
 oj:j+n=g
structure Ao (cnt wt a e f l2 b g h pend n add c d:Nat):Prop where
 f4:wt<=1
 SR:h=1
 HG:cnt=pend+f
 E3:g+pend=n
 oi:n<=e
 oh:add=1->wt=0/\a=0/\l2=0/\b=0
 An:c=1->pend=0/\((wt=1/\b=0/\a=0/\((cnt=0/\l2=1)\/(0<cnt/\l2=0)))\/(wt=0/\cnt=0/\l2=0/\b+a=1))
 E2:d=1->pend=0/\wt=0/\a=0/\cnt=0/\l2=0/\b=0
 og:add+c+d=1
def RN (N:Nat) (o:ε) (τ:Nat->Tok):Prop:=
 Ap o.Y7 o.wk o.sv o.nw o.YE (ZQ N τ VZ) (ZQ N τ SU) (ZQ N τ TW) (ZQ N τ Um) (ZQ N τ Tn) (ZQ N τ Ul) (ZQ N τ Q1) (ZQ N τ SS) (ZQ N τ Q2)
def So (N:Nat) (o:ε) (τ:Nat->Tok):Prop:=
 Ao o.cnt o.wt o.YV o.top (ZQ N τ Vv) (ZQ N τ U3) (ZQ N τ U2) (ZQ N τ Uk) (ZQ N τ XP) (ZQ N τ Wp) (ZQ N τ VY) (ZQ N τ TV) (ZQ N τ Uj) (ZQ N τ VX)
def Pu (N:Nat) (o:ε) (τ:Nat->Tok):Prop:=RN N o τ/\So N o τ
inductive Act:ε->Tok->ε->Tok->Prop where
 | Am {o k}:o.Y7=0->o.sv=0->o.wk=0->o.nw=0->Act o (.ch k .idle .work) {o with Y7:=1} (.ch k .own .work)
 | Al {o k}:Act o (.ch k .idle .work) o (.ch k (.act false) .work)
 | acq {o k a}:o.Y7=0->o.sv=0->Act o (.ch k (.act a) .work) {o with Y7:=1,wk:=if a then 0 else o.wk} (.ch k .own .work)
 | Ak {o k}:o.wk=0->0<o.nw->o.Y7=1->o.sv=0->Act o (.ch k (.act false) .work) {o with wk:=1} (.ch k (.act true) .work)
 | queue {o k a} (st:Bool):(o.Y7=1\/o.sv=1)->(st=true->a=true/\o.Y7=1)->Act o (.ch k (.act a) .work) {o with nw:=o.nw+1,wk:=if a then 0 else o.wk,sv:=if st then 1 else o.sv} (.ch k .q .work)
 | take {o k}:0<o.YE->Act o (.ch k .q .work) {o with YE:=o.YE-1} (.ch k .wk .work)
 | norm {o k}:o.sv=0->Act o (.ch k .wk .work) o (.ch k (.act true) .work)
 | hand {o k}:o.sv=1->Act o (.ch k .wk .work) o (.ch k .hw .work)
 | hacq {o k} (b:Bool):Act o (.ch k .hw .work) {o with Y7:=1,nw:=o.nw-1,sv:=if b then 0 else 1} (.ch k .own .work)
 | Aj {o k}:o.sv=0->(o.nw=0\/o.wk=1)->Act o (.ch k .fin .work) {o with Y7:=0} (.ch k .done .work)
 | Ai {o k}:o.sv=0->0<o.nw->o.wk=0->Act o (.ch k .fin .work) {o with Y7:=0} (.ch k .uc .work)
 | Ah {o k}:o.sv=1->Act o (.ch k .fin .work) {o with Y7:=0} (.ch k .us .work)
 | Ag {o k}:o.Y7=0->o.wk=0->o.sv=0->0<o.nw->Act o (.ch k .uc .work) {o with nw:=o.nw-1,wk:=1} (.ch k .us .work)
 | Af {o k}:(o.nw=0\/o.Y7=1\/o.wk=1\/o.sv=1)->Act o (.ch k .uc .work) o (.ch k .done .work)
 | post {o k}:Act o (.ch k .us .work) {o with YE:=o.YE+1} (.ch k .done .work)
 | add {o n p}:n<o.top->Act o (.par n p .add) {o with cnt:=o.cnt+1} (.par (n+1) (p+1) .add)
 | thru {o n}:o.cnt=0->Act o (.par n 0 .add) o (.par n 0 .SV)
 | E1 {o n}:0<o.cnt->Act o (.par n 0 .add) {o with wt:=1} (.par n 0 .w3)
 | wake {o n}:0<o.YV->Act o (.par n 0 .w3) {o with YV:=o.YV-1} (.par n 0 .w4)
 | Ae {o k m}:o.cnt=1->o.wt=1->Act o (.ch k m .rel) {o with cnt:=o.cnt-1} (.ch k m .l2)
 | Ad {o k m}:(1<o.cnt\/o.wt=0)->Act o (.ch k m .rel) {o with cnt:=o.cnt-1} (.ch k m .gone)
 | Ac {o k m}:Act o (.ch k m .l2) {o with wt:=0} (.ch k m .RO)
 | Ab {o k m}:Act o (.ch k m .RO) {o with YV:=o.YV+1} (.ch k m .gone)
inductive RL:ε->Tok->ε->Tok->Prop where
 | HF {o k}:RL o (.ch k .own .work) o (.ch k (.YJ o.L) .work)
 | Aa {o k L}:RL o (.ch k (.YJ L) .work) {o with L:=o.L++[k]} (.ch k .fin .work)
 | z' {o k m}:(m=.done\/(m=.idle/\o.ZO=none))->RL o (.ch k m .work) {o with R:=k::o.R} (.ch k m .rel)
 | gtake {o n a}:(a=.SV\/a=.w4)->RL o (.par n 0 a) o (.par n 0 .ZP)
section
variable {N i:Nat} {o o':ε} {τ:Nat->Tok} {t t':Tok}
theorem RK {φ:Tok->Nat} (a:∀t,XP t=0->φ t=0) (h:ZQ N τ XP=1) (hi:i<N) (c:XP (τ i)=1):ZQ N τ φ=φ (τ i):=by
 have e:=W3 τ .nil XP hi
 have d:=W3 τ .nil φ hi
 have z:XP .nil=0:=rfl;rw[h,c,z] at e;rw[a .nil rfl] at d;have f:ZQ N (upd τ i .nil) XP=0:=U;have:ZQ N (upd τ i .nil) φ=0:=by
  have g:∀n,ZQ n (upd τ i .nil) XP=0->ZQ n (upd τ i .nil) φ=0:=λn=>by
   induction n with
   | zero=>exact λ_=>rfl
   | succ n b=>
    intro j;simp only[ZQ,sumTo] at j b ⊢;have:=b U;have:=a (upd τ i .nil n) U;omega
  exact g N f
 omega
theorem z9 (h:RN N o τ) (hi:i<N) (b:τ i=t) (c:Act o t o' t'):RN N o' (upd τ i t'):=by
 unfold RN at h ⊢;have d:=W3 τ t' VZ hi;have e:=Xq τ VZ hi;have f:=W3 τ t' SU hi;have l1:=Xq τ SU hi;have Φ:=W3 τ t' TW hi;have l2:=Xq τ TW hi;have g:=W3 τ t' Um hi;have j:=Xq τ Um hi;have k:=W3 τ t' Tn hi;have l:=Xq τ Tn hi;have m:=W3 τ t' Ul hi;have n:=Xq τ Ul hi;have p:=W3 τ t' Q1 hi;have r:=Xq τ Q1 hi;have s:=W3 τ t' SS hi;have u:=Xq τ SS hi;have v:=W3 τ t' Q2 hi;have w:=Xq τ Q2 hi;rw[b] at v w d e f l1 Φ l2 g j k l m n p r s u;generalize ZQ N (upd τ i t') VZ=y at *;generalize ZQ N τ VZ=A at *;generalize ZQ N (upd τ i t') SU=B at *;generalize ZQ N τ SU=C at *;generalize ZQ N (upd τ i t') TW=D at *;generalize ZQ N τ TW=E at *;generalize ZQ N (upd τ i t') Um=F at *;generalize ZQ N τ Um=H at *;generalize ZQ N (upd τ i t') Tn=I at *;generalize ZQ N τ Tn=J at *;generalize ZQ N (upd τ i t') Ul=K at *;generalize ZQ N τ Ul=M at *;generalize ZQ N (upd τ i t') Q1=O at *;generalize ZQ N τ Q1=P at *;generalize ZQ N (upd τ i t') SS=Q at *;generalize ZQ N τ SS=S at *;generalize ZQ N (upd τ i t') Q2=T at *;generalize ZQ N τ Q2=U at *;clear b hi;obtain⟨⟨V,W,X,Y⟩,Z,aa,ab,ad,ae,L,cnt,wt,af,R⟩:=o;obtain⟨ag,ah,ai,aj,ak,al,am,an,ao⟩:=h;cases c<;>simp only[VZ,SU,TW,Um,Tn,Ul,Q1,SS,Q2,HI,Mj,Ko,OD,Mi,Kn,Mh,HH,Km,Nat.add_zero,UQ] at *
 case acq a _ _=>cases a<;>simp only[OD,if_true,if_false,W'] at *<;>constructor<;>omega
 case queue a st _ ap=>
  cases a<;>cases st<;>simp only[OD,if_true,if_false,W',false_and,true_and,imp_false,not_true_eq_false,forall_const] at *<;>constructor<;>omega
 case hacq x=>cases x<;>simp only[if_true,if_false,W'] at *<;>constructor<;>omega
 all_goals (constructor<;>omega)
theorem z8 (h:So N o τ) (hi:i<N) (a:τ i=t) (c:Act o t o' t'):So N o' (upd τ i t'):=by
 unfold So at h ⊢;have A:XP t=1->ZQ N τ VY=VY t:=λb=>by rw[RK (λt a=>by cases t<;>simp_all [XP,VY]) h.SR hi (by rw[a];exact b),a]
 have B:XP t=1->ZQ N τ Wp=Wp t:=λb=>by rw[RK (λt a=>by cases t<;>simp_all [XP,Wp]) h.SR hi (by rw[a];exact b),a]
 have d:=W3 τ t' Vv hi;have e:=Xq τ Vv hi
 have f:=W3 τ t' U3 hi;have l1:=Xq τ U3 hi
 have Φ:=W3 τ t' U2 hi;have l2:=Xq τ U2 hi
 have g:=W3 τ t' Uk hi;have j:=Xq τ Uk hi
 have k:=W3 τ t' XP hi;have l:=Xq τ XP hi
 have m:=W3 τ t' Wp hi;have n:=Xq τ Wp hi
 have p:=W3 τ t' VY hi;have r:=Xq τ VY hi
 have s:=W3 τ t' TV hi;have u:=Xq τ TV hi
 have v:=W3 τ t' Uj hi;have w:=Xq τ Uj hi
 have x:=W3 τ t' VX hi;have y:=Xq τ VX hi;rw[a] at d e f l1 Φ l2 g j k l m n p r s u v w x y;generalize ZQ N (upd τ i t') Vv=C at *;generalize ZQ N τ Vv=D at *;generalize ZQ N (upd τ i t') U3=E at *;generalize ZQ N τ U3=F at *;generalize ZQ N (upd τ i t') U2=H at *;generalize ZQ N τ U2=I at *;generalize ZQ N (upd τ i t') Uk=J at *;generalize ZQ N τ Uk=K at *;generalize ZQ N (upd τ i t') XP=M at *;generalize ZQ N τ XP=O at *;generalize ZQ N (upd τ i t') Wp=P at *;generalize ZQ N τ Wp=Q at *;generalize ZQ N (upd τ i t') VY=S at *;generalize ZQ N τ VY=T at *;generalize ZQ N (upd τ i t') TV=U at *;generalize ZQ N τ TV=V at *;generalize ZQ N (upd τ i t') Uj=W at *;generalize ZQ N τ Uj=X at *;generalize ZQ N (upd τ i t') VX=Y at *;generalize ZQ N τ VX=Z at *;clear a hi;obtain⟨⟨aa,ab,ad,ae⟩,af,ag,ah,ai,aj,L,cnt,wt,ak,R⟩:=o;obtain⟨al,am,an,ao,ap,aq,ar,au,av⟩:=h;cases c<;>simp only[Vv,U3,U2,Uk,XP,Wp,VY,TV,Uj,VX,Qc,OC,OB,Nat.add_zero,UQ,forall_const] at *
 all_goals (constructor<;>omega)
end
section
variable {N i:Nat} {o o':ε} {τ:Nat->Tok} {t t':Tok}
theorem E0 (o':ε) (a:o'.top=o.top) (hi:i<N) (b:τ i=t) (h:TU o.top t'+9*o'.YE+2*o'.YV<TU o.top t+9*o.YE+2*o.YV):XZ N o' (upd τ i t')<XZ N o τ:=by
 have e:=W3 τ t' (TU o.top) hi;rw[b] at e;unfold XZ;rw[a];omega
theorem EZ (hi:i<N) (b:τ i=t) (c:Act o t o' t'):XZ N o' (upd τ i t')<XZ N o τ:=by
 cases c<;>refine E0 _ rfl hi b ?_
 case acq a _ _=>cases a<;>simp[TU,OA]
 case queue a _ _ _=>cases a<;>simp[TU,OA]
 case take=>simp[TU,OA];omega
 case add=>simp[TU];omega
 case wake=>simp[TU,NB];omega
 all_goals (simp[TU,OA,Kl,NB]<;>omega)
theorem Kk (hi:i<N) (a:τ i=t) (b:RL o t o' t'):XZ N o' (upd τ i t')<XZ N o τ:=by
 cases b<;>refine E0 _ rfl hi a ?_
 case gtake d c=>rcases c with rfl|rfl<;>simp[TU,NB]
 all_goals (simp[TU,OA,Kl,NB]<;>omega)
theorem HE {φ:Tok->Nat} (hi:i<N) (h:φ t'=φ (τ i)):ZQ N (upd τ i t') φ=ZQ N τ φ:=by
 have:=W3 τ t' φ hi;omega
theorem Kj (h:RN N o τ) (hi:i<N) (a:τ i=t) (b:RL o t o' t'):RN N o' (upd τ i t'):=by
 unfold RN at h ⊢;cases b<;>
 (repeat rw[HE hi (by rw[a];rfl)])<;>exact h
theorem Ki (h:So N o τ) (hi:i<N) (a:τ i=t) (b:RL o t o' t'):So N o' (upd τ i t'):=by
 unfold So at h ⊢;cases b
 case gtake d c=>rcases c with rfl|rfl<;>(repeat rw[HE hi (by rw[a];rfl)])<;>exact h
 all_goals (repeat rw[HE hi (by rw[a];rfl)])<;>exact h
theorem Oz (N:Nat) (τ:Nat->Tok) (φ:Tok->Nat):ZQ (N+1) τ φ=ZQ N τ φ+φ (τ N):=rfl
theorem EY {φ:Tok->Nat} (a:φ .nil=0) (h:τ N=.nil):ZQ (N+1) τ φ=ZQ N τ φ:=by rw[Oz,h,a];rfl
theorem EX (h:Pu N o τ) (a:τ N=.nil):Pu (N+1) o τ:=by
 unfold Pu RN So at h ⊢
 repeat rw[EY (by rfl) a]
 exact h
theorem EW (a:τ N=.nil):XZ (N+1) o τ=XZ N o τ:=by
 unfold XZ;rw[EY (by rfl) a]
theorem z7 {j n p:Nat} (h:Pu N o τ) (hi:i<N) (d:j<N) (e:i≠j) (f:τ i=.par n (p+1) .add) (g:τ j=.nil) (k:Nat) :
  Pu N o (upd (upd τ i (.par n p .add)) j (.ch k .idle .work)):=by
 have l:upd τ i (.par n p .add) j=.nil:=by rw[upd_ne _ _ (YR e)];exact g
 have a:∀φ:Tok->Nat,ZQ N (upd (upd τ i (.par n p .add)) j (.ch k .idle .work)) φ+φ .nil+φ (.par n (p+1) .add)=ZQ N τ φ+φ (.par n p .add)+φ (.ch k .idle .work):=λφ=>by
  have m:=W3 τ (.par n p .add) φ hi
  have Φ:=W3 (upd τ i (.par n p .add)) (.ch k .idle .work) φ d;rw[f] at m;rw[l] at Φ;omega
 obtain⟨b,c⟩:=h;constructor
 .unfold RN at b ⊢;have f1:=a VZ;have f2:=a SU;have f3:=a TW;have f4:=a Um;have f5:=a Tn;have f6:=a Ul;have f7:=a Q1;have f8:=a SS;have f9:=a Q2;simp only[VZ,SU,TW,Um,Tn,Ul,Q1,SS,Q2,Mj,Ko,OD,Mi,Kn,Mh,HH,Km,HI,Nat.add_zero] at f1 f2 f3 f4 f5 f6 f7 f8 f9;rw[f1,f2,f3,f4,f5,f6,f7,f8,f9];exact b
 .unfold So at c ⊢;have f1:=a Vv;have f2:=a U3;have f3:=a U2;have f4:=a Uk;have f5:=a XP;have f6:=a Wp;have f7:=a VY;have f8:=a TV;have f9:=a Uj;have f10:=a VX;simp only[Vv,U3,U2,Uk,XP,Wp,VY,TV,Uj,VX,Qc,OC,OB,Nat.add_zero] at f1 f2 f3 f4 f5 f6 f7 f8 f9 f10;obtain⟨r,s,t,u,v,w,x,y,A⟩:=c;constructor<;>omega
theorem z6 {j n p:Nat} (hi:i<N) (b:j<N) (c:i≠j) (d:τ i=.par n (p+1) .add) (e:τ j=.nil) (k:Nat) :
  XZ N o (upd (upd τ i (.par n p .add)) j (.ch k .idle .work))<XZ N o τ:=by
 have f:upd τ i (.par n p .add) j=.nil:=by rw[upd_ne _ _ (YR c)];exact e
 have a:=W3 τ (.par n p .add) (TU o.top) hi
 have Φ:=W3 (upd τ i (.par n p .add)) (.ch k .idle .work) (TU o.top) b;rw[d] at a;rw[f] at Φ;simp only[TU,OA,Kl,NB] at a Φ;unfold XZ;omega
theorem Kh {φ:Tok->Nat} (h:0<ZQ N τ φ):∃i,i<N/\0<φ (τ i):=by
 have a:∀n,0<ZQ n τ φ->∃i,i<n/\0<φ (τ i):=λn=>by
  induction n with
  | zero=>intro h;cases h
  | succ n b=>
   intro h;rw[Oz] at h;by_cases c:0<φ (τ n)
   .exact⟨n,U,c⟩
   .obtain⟨i,hi,d⟩:=b U;exact⟨i,U,d⟩
 exact a N h
def Sn:Tok->Prop
 | .ch _ .own _|.ch _ (.YJ _) _|.ch _ .fin _|.ch _ .us _|.ch _ .wk _|.ch _ .hw _|.ch _ (.act true) _|.ch _ .uc _=>True
 | _=>False
theorem z5 (h:RN N o τ) (x:0<ZQ N τ Um) (y:o.YE=0):∃i,i<N/\Sn (τ i):=by
 have pick:∀{φ:Tok->Nat},(∀t,0<φ t->Sn t)->0<ZQ N τ φ->∃i,i<N/\Sn (τ i):=λd e=>let ⟨i,hi,f⟩:=Kh e;⟨i,hi,d _ f⟩
 have g:∀t,0<VZ t->Sn t:=λt c=>by cases t<;>simp_all [VZ,Sn];rename_i m _;cases m<;>simp_all [Mj]
 have j:∀t,0<SU t->Sn t:=λt c=>by cases t<;>simp_all [SU,Sn];rename_i m _;cases m<;>simp_all [Ko]
 have k:∀t,0<TW t->Sn t:=λt c=>by cases t<;>simp_all [TW,Sn];rename_i m _;cases m<;>simp_all [OD];rename_i b;cases b<;>simp_all [OD]
 have l:∀t,0<SS t->Sn t:=λt c=>by cases t<;>simp_all [SS,Sn];rename_i m _;cases m<;>simp_all [Km]
 obtain⟨f1,f2,f3,A,n,p,r,B,C⟩:=h;by_cases s:0<ZQ N τ VZ
 .exact pick g s
 by_cases u:0<ZQ N τ SU
 .exact pick j u
 by_cases v:0<ZQ N τ TW
 .exact pick k v
 by_cases w:0<ZQ N τ SS
 .exact pick l w
 exfalso;rcases(show o.sv=0\/o.sv=1 by omega) with a|a
 .have:=n a;have:=r a;omega
 .have:=p a;omega
def Q0:Tok->Prop
 | .ch _ _ .work|.ch _ _ .rel|.ch _ _ .l2|.ch _ _ .RO=>True
 | _=>False
theorem z4 (h:So N o τ) {n p:Nat} (hi:i<N) (a:τ i=.par n p .w3) (s:o.YV=0):∃j,j<N/\Q0 (τ j):=by
 have pick:∀{φ:Tok->Nat},(∀t,0<φ t->Q0 t)->0<ZQ N τ φ->∃i,i<N/\Q0 (τ i):=λb c=>let ⟨i,hi,d⟩:=Kh c;⟨i,hi,b _ d⟩
 have e:∀t,0<Vv t->Q0 t:=λt a=>by cases t<;>simp_all [Vv,Q0];rename_i m;cases m<;>simp_all [Qc]
 have f:∀t,0<U3 t->Q0 t:=λt a=>by cases t<;>simp_all [U3,Q0];rename_i m;cases m<;>simp_all [OC]
 have g:∀t,0<U2 t->Q0 t:=λt a=>by cases t<;>simp_all [U2,Q0];rename_i m;cases m<;>simp_all [OB]
 have w:=RK (φ:=Uj) (λt a=>by cases t<;>simp_all [XP,Uj]) h.SR hi (by rw[a];rfl);rw[a] at w;have:=h.An w;have:=h.HG;by_cases k:0<ZQ N τ Vv
 .exact pick e k
 by_cases l:0<ZQ N τ U3
 .exact pick f l
 by_cases r:0<ZQ N τ U2
 .exact pick g r
 exfalso;omega
end
end Go.TL
namespace Go.TL
open Go.Conc
open Go.ConcM (OsLater)
open Go.ConcN (sumTo upd sumTo_upd upd_ne upd_same sumTo_congr le_sumTo)
open Go.ConcR (mk)
inductive W7 (B:Type):Type where
 | leaf
 | node (f:B->W7 B)
inductive Tm {B:Type}:List (W7 B)->List (W7 B)->Prop where
 | one (a b:List (W7 B)) (f:B->W7 B) (k:B):Tm (a++f k::b) (a++W7.node f::b)
 | two (a b:List (W7 B)) (f:B->W7 B) (k c:B):Tm (a++f k::f c::b) (a++W7.node f::b)
theorem Tm.cons_inv {B:Type} {l:List (W7 B)} {t:W7 B} {m:List (W7 B)} (h:Tm m (t::l)) :
  (∃e,Tm e l/\m=t::e)\/(∃f k,t=.node f/\m=f k::l)\/(∃f k d,t=.node f/\m=f k::f d::l):=by
 generalize c:t::l=x at h;cases h with
 | one a b f k=>
  cases a with
  | nil=>simp at c;exact .inr (.inl ⟨f,k,c.1,by rw[c.2];rfl⟩)
  | cons y a=>simp at c;exact .inl ⟨a++f k::b,by rw[c.2];exact .one a b f k,by rw[c.1];rfl⟩
 | two a b f k d=>
  cases a with
  | nil=>simp at c;exact .inr (.inr ⟨f,k,d,c.1,by rw[c.2];rfl⟩)
  | cons y a=>simp at c;exact .inl ⟨a++f k::f d::b,by rw[c.2];exact .two a b f k d,by rw[c.1];rfl⟩
theorem Tm.z3 {B:Type} (t:W7 B):∀l,Acc Tm l->Acc Tm (t::l):=by
 induction t with
 | leaf=>
  intro l a
  induction a with
  | intro l _ b=>
   refine⟨_,λm c=>?_⟩;rcases c.cons_inv with⟨d,e,rfl⟩|⟨f,k,h,_⟩|⟨f,k,i,h,_⟩
   .exact b d e
   .cases h
   .cases h
 | node f g=>
  intro l a
  induction a with
  | intro l j b=>
   refine⟨_,λm c=>?_⟩;rcases c.cons_inv with⟨d,e,rfl⟩|⟨f',k,h,rfl⟩|⟨f',k,i,h,rfl⟩
   .exact b d e
   .cases h;exact g k l ⟨l,j⟩
   .cases h;exact g k _ (g i l ⟨l,j⟩)
theorem Tm.wf {B:Type}:WellFounded (Tm (B:=B)):=⟨λl=>by
 induction l with
 | nil=>exact⟨_,λm a=>by
   generalize b:([]:List (W7 B))=x at a;cases a<;>simp at b⟩
 | cons t l c=>exact Tm.z3 t l c⟩
structure ZZ where
 G:Χ
 Z3:Nat->Option (Array Value×TypeId)
 tok:Nat->Tok
 spec:Nat->Option Spec
 view:Nat->Option (Nat×ε)
 deaf:Nat
 rel:Bool
def Mg (V:Nat->Option (Array Value×TypeId)) (w:World):Prop:=∀b c t,V b=some (c,t)->w.heap[b]?=some (.cells c t (0,0))
def Y0 (o:ε):Int:=(o.cnt:Int)*4294967296+o.wt
def mwd (o:ε):Int:=(o.Y7:Int)+2*o.wk+4*o.sv+8*o.nw
def At (s:Nat) (o:ε) (w:World):Prop:=
 (∃a,w.heap[s]?=some (.cells #[.int .u64 (Y0 o),.int .u32 o.YV] a (0,0)))/\∀m,o.ZO=some m->∃a,w.heap[m]?=some (.cells #[.int .i32 (mwd o),.int .u32 o.YE] a (0,0))
def X9 (s:Nat) (sp:Spec) (b:Nat):Prop:=b=s\/sp.ZO=some b
def Oy (o:ε) (t:Tok):Prop:=∃N τ i,Pu N o τ/\i<N/\τ i=t/\(∀k L g,t=.ch k (.YJ L) g->o.L=L)
def HD (x:ZZ) (s φ:Nat) (o:ε):Prop:=∀a b,x.view s=some (a,b)->φ<=a/\(φ=a->o=b)
structure Sub (G' G:Χ):Prop where
 θ:∀b o v p,G'.θ b o=some (v,p)->∃a,G.θ b o=some (v,a)/\(p=true->a=true)
 row:∀b x,G'.row b=some x->G.row b=some x
 obj:∀b x,G'.obj b=some x->G.obj b=some x
structure Split (G a b:Χ):Prop where
 l:Sub a G
 r:Sub b G
 apart:Apart a b
def join (G H:Χ):Χ:=
 ⟨λb o=>match G.θ b o with|some x=>some x|none=>H.θ b o,λb=>match G.row b with|some x=>some x|none=>H.row b,λb=>match G.obj b with|some x=>some x|none=>H.obj b⟩
def Ui (c:Nat->Χ->Prop):List Nat->Χ->Prop
 | [],E=>E=Χ.empty
 | k::d,E=>∃a b,c k a/\Ui c d b/\Apart a b/\E=join a b
structure Kg (G G':Χ) (n:Nat):Prop where
 θ:∀b o v p,G'.θ b o=some (v,p)->n<=b\/∃c a,G.θ b o=some (c,a)/\(p=true->a=true)
 obj:∀b,G'.XF b->n<=b\/G.XF b
def HC (V:Nat->Option (Array Value×TypeId)) (V':Nat->Option (Array Value×TypeId)) (G':Χ) (n:Nat):Prop:=
 ∀b c,V' b=some c->V b=some c\/(n<=b/\G'.off b)
def Kf (e:Event):Prop:=e.loc=.output\/e.loc=.mark .noRoom
def Sm (s:Nat) (sp:Spec) (d:Nat) (es:Array Event):Prop:=
 deafBehind d es=d/\∀j e,es[j]?=some e->(e.loc=.mark .disable\/e.loc=.mark .enable\/(∃b a wr,e=⟨.cell ⟨b,a,none⟩,wr,true⟩/\X9 s sp b/\0<deafBehind d (es.extract 0 j)))
def U1 (o:ε):Tok->Prop
 | .ch _ .q _=>o.YE=0
 | .par _ _ .w3=>o.YV=0
 | _=>False
def Tl:Tok->Prop
 | .nil=>True
 | .par _ _ .add|.par _ _ .ZP=>True
 | .ch _ .idle _|.ch _ .done _=>True
 | _=>False
def W9:Tok->Prop
 | .nil=>True
 | .par _ _ .ZP=>True
 | _=>False
def Gone:Tok->Prop
 | .nil=>True
 | .par _ _ .ZP=>True
 | .ch _ _ .gone=>True
 | _=>False
abbrev Mf:=Bool->Goroutine->ZZ->Prop
def VI (g:Goroutine):Prop:=g.status=.running/\g.offers=none
section
variable (P:Program) (mn:Bool) (R:Mf) (g:Goroutine) (x:ZZ)
def EV:Prop:=∀w,Fits x.G w->Mg x.Z3 w->(stepG P mn g w).goes λg' w' es=>∃G' V',VI g'/\Xj x.G.owns x.G.XF w w'/\Fits G' w'/\Mg V' w'/\
 Kg x.G G' w.heap.size/\HC x.Z3 V' G' w.heap.size/\(∀e∈es,if x.rel then Kf e else Wq x.G w.heap.size w'.heap.size e)/\(∀b c,V' b=some c->w.heap.size<=b->∀e∈es,¬SW e.loc b)/\R mn g' {x with G:=G',Z3:=V'}
def EU:Prop:=∃g',VI g'/\((∀w,Fits x.G w->stepG P mn g w=.go g' w #[mk .disable]/\R mn g' {x with deaf:=x.deaf+1})\/
 (0<x.deaf/\∀w,Fits x.G w->stepG P mn g w=.go g' w #[mk .enable]/\R mn g' {x with deaf:=x.deaf-1}))
def ET:Prop:=∃(s n p:Nat) (a:Qd) (g':Goroutine) (b:Nat) (wr:Bool),x.tok s=.par n p a/\a≠.ZP/\x.rel=false/\VI g'/\∀w,Fits x.G w->stepG P mn g w=.go g' w #[mk (if wr then .write ⟨s,b,none⟩ else .read ⟨s,b,none⟩)]/\R mn g' x
def Atom:Prop:=∃s sp,x.spec s=some sp/\¬W9 (x.tok s)/\∀w φ o,Fits x.G w->Mg x.Z3 w->o.toSpec=sp->At s o w->HD x s φ o->Oy o (x.tok s)->
 ((stepG P mn g w).goes λg' w' es=>VI g'/\Xj (λb _=>X9 s sp b) (λ_=>False) w w'/\Sm s sp x.deaf es/\
   ((At s o w'/\R mn g' {x with view:=upd x.view s (some (φ,o))})\/
    ∃o' t',Act o (x.tok s) o' t'/\At s o' w'/\(mayWake P g=true\/o'=o)/\∀a,a<φ->R mn g' {x with tok:=upd x.tok s t',view:=upd x.view s (some (a,o'))}))\/
 (U1 o (x.tok s)/\(∀c,c≠s->Tl (x.tok c))/\stepG P mn g w=.go {g with status:=.blocked} w #[])
def ES:Prop:=∃s sp m k g',x.spec s=some sp/\sp.ZO=some m/\x.tok s=.ch k .own .work/\x.deaf=0/\VI g'/\x.rel=false/\
 (∀w,Fits x.G w->stepG P mn g w=.go g' w #[mk (.acquire ⟨m,0,none⟩)])/\
 ∀L E,sp.XQ L E->Apart x.G E->(L.Nodup/\k∉L/\∃w,Fits x.G w/\Fits E w)->R mn g' {x with G:=join x.G E,tok:=upd x.tok s (.ch k (.YJ L) .work),view:=upd x.view s none}
def ER:Prop:=∃s sp m k L g' G' E,x.spec s=some sp/\sp.ZO=some m/\x.tok s=.ch k (.YJ L) .work/\x.deaf=0/\VI g'/\x.rel=false/\
 (∀w,Fits x.G w->stepG P mn g w=.go g' w #[mk (.releaseMerge ⟨m,0,none⟩)])/\
 Split x.G G' E/\sp.XQ (L++[k]) E/\R mn g' {x with G:=G',tok:=upd x.tok s (.ch k .fin .work),view:=upd x.view s none}
def EP:Prop:=∃s sp k a g' E,x.spec s=some sp/\x.tok s=.ch k a .work/\(a=.done\/(a=.idle/\sp.ZO=none))/\(∀b,b≠s->W9 (x.tok b))/\x.deaf=0/\VI g'/\x.rel=false/\
 (∀w,Fits x.G w->stepG P mn g w=.go g' w #[mk (.releaseMerge ⟨s,0,none⟩)])/\
 Sub E x.G/\sp.D k E/\R mn g' {x with G:=Χ.empty,Z3:=λ_=>none,tok:=upd x.tok s (.ch k a .rel),view:=upd x.view s none,rel:=true}
def EO:Prop:=∃s sp n c g',x.spec s=some sp/\x.tok s=.par n 0 c/\(c=.SV\/c=.w4)/\x.deaf=0/\VI g'/\x.rel=false/\
 (∀w,Fits x.G w->stepG P mn g w=.go g' w #[mk (.acquire ⟨s,0,none⟩)])/\
 ∀d e b a,d.Perm (List.range n)->Ui sp.D d b->(sp.ZO≠none->e.Perm (List.range n)/\sp.XQ e a)->(sp.ZO=none->a=Χ.empty)->Apart x.G b->Apart x.G a->Apart b a->(∃w,Fits x.G w/\Fits b w/\Fits a w)->
  R mn g' {x with G:=join (join x.G b) a,tok:=upd x.tok s (.par n 0 .ZP),view:=upd x.view s none}
def EN:Prop:=∃s sp n p g' c a b,x.spec s=some sp/\x.tok s=.par n (p+1) .add/\x.deaf=0/\VI g'/\VI c/\x.rel=false/\
 (∀w,Fits x.G w->stepG P mn g w=.spawn g' c w #[])/\Split x.G a b/\
 R mn g' {x with G:=a,tok:=upd x.tok s (.par n p .add),view:=upd x.view s none}/\
 R false c ⟨b,λ_=>none,upd (λ_=>.nil) s (.ch (n-(p+1)) .idle .work),upd (λ_=>none) s (some sp),λ_=>none,0,false⟩
def HB:Prop:=
 (∃G',Sub G' x.G/\R mn g {x with G:=G'})\/
 (∃b c t,x.Z3 b=some (c,t)/\R mn g {x with Z3:=upd x.Z3 b none,G:=⟨λa o=>if a=b then(c[o]?).map (·,true) else x.G.θ a o,λa=>if a=b then some (t,c.size) else x.G.row a,x.G.obj⟩})\/
 (∃s sp d G' E,x.Z3 s=some (#[.int .u64 0,.int .u32 0],d)/\(∀m,sp.ZO=some m->m≠s/\∃e,x.Z3 m=some (#[.int .i32 0,.int .u32 0],e))/\x.rel=false/\
  Split x.G G' E/\(sp.ZO≠none->sp.XQ [] E)/\
  R mn g {x with G:=G',Z3:=λb=>if b=s\/sp.ZO=some b then none else x.Z3 b,tok:=upd x.tok s (.par 0 0 .add),spec:=upd x.spec s (some sp),view:=upd x.view s none})
def EM:Prop:=mn=false/\g.status=.running/\x.rel=true/\(∀s,Gone (x.tok s))/\∃g' es,(∀e∈es,Event.mute e=true)/\(∀w,stepG P false g w=.go g' w es)/\R mn g' {x with deaf:=deafBehind x.deaf es}
def Me:Prop:=EM P mn R g x\/VI g/\(EV P mn R g x\/EU P mn R g x\/ET P mn R g x\/Atom P mn R g x\/ES P mn R g x\/ER P mn R g x\/EP P mn R g x\/EO P mn R g x\/EN P mn R g x\/HB mn R g x)
def EL (a:Value->Prop):Prop:=VI g/\(∀s,W9 (x.tok s))/\x.deaf=0/\∀w,Fits x.G w->∃v es,stepG P true g w=.ended (.done v) w es/\(∀e∈es,Wq x.G w.heap.size w.heap.size e)/\a v
def z2:Prop:=x.rel=true/\(∀s,Gone (x.tok s))/\g.status=.finished/\x.deaf=0
def Ke (a:Value->Prop):Prop:=(mn=true/\EL P g x a)\/(mn=false/\z2 g x)
def Md:Prop:=x.rel=true->(∀s,Gone (x.tok s))->∃n,QuitsD P n x.deaf g
end
open Classical in
def Vg (P:Program) (a:Value->Prop):W7 (Bool×Goroutine×ZZ)->Mf
 | .leaf=>λmn g x=>Md P g x/\Ke P mn g x a
 | .node f=>λmn g x=>Md P g x/\(Ke P mn g x a\/Me P mn (λb g' c=>Vg P a (f (b,g',c)) b g' c) g x)
def Goes (P:Program) (a:Value->Prop):Mf:=λmn g x=>∃T,Vg P a T mn g x
theorem Me.mono {P:Program} {mn:Bool} {R K:Mf} {g:Goroutine} {x:ZZ} (v:∀mn g x,R mn g x->K mn g x) (h:Me P mn R g x):Me P mn K g x:=by
 rcases h with⟨M,Φ,N,O,g',es,Q,S,T⟩|⟨U,h⟩
 .exact .inl ⟨M,Φ,N,O,g',es,Q,S,v _ _ _ T⟩
 refine .inr ⟨U,?_⟩;rcases h with h|h|h|h|h|h|h|h|h|h
 .refine .inl λw B hv=>?_;have:=h w B hv;revert this;cases stepG P mn g w<;>simp only[GStep.goes,imp_self];rintro⟨G',V',j,l,r,u,y,C,A,V,D⟩;exact⟨G',V',j,l,r,u,y,C,A,V,v _ _ _ D⟩
 .obtain⟨g',j,l⟩:=h;exact .inr (.inl ⟨g',j,l.elim (λh=>.inl λw B=>⟨(h w B).1,v _ _ _ (h w B).2⟩) (λh=>.inr ⟨h.1,λw B=>⟨(h.2 w B).1,v _ _ _ (h.2 w B).2⟩⟩)⟩)
 .obtain⟨s,n,p,I,g',W,wr,j,l,J,r,u⟩:=h;exact .inr (.inr (.inl ⟨s,n,p,I,g',W,wr,j,l,J,r,λw B=>⟨(u w B).1,v _ _ _ (u w B).2⟩⟩))
 .obtain⟨s,sp,j,J,r⟩:=h;refine .inr (.inr (.inr (.inl ⟨s,sp,j,J,λw φ o B hv X Y Z aa=>?_⟩)));refine(r w φ o B hv X Y Z aa).imp (λh=>?_) id;revert h;cases stepG P mn g w<;>simp only[GStep.goes,imp_self];rintro⟨j,l,r,u⟩;exact⟨j,l,r,u.imp (λh=>⟨h.1,v _ _ _ h.2⟩) λ⟨o',t',ab,ad,ae,af⟩=>⟨o',t',ab,ad,ae,λag ah=>v _ _ _ (af ag ah)⟩⟩
 .obtain⟨s,sp,m,k,g',j,l,r,u,y,F,C,A⟩:=h;exact .inr (.inr (.inr (.inr (.inl ⟨s,sp,m,k,g',j,l,r,u,y,F,C,λL E a b c=>v _ _ _ (A L E a b c)⟩))))
 .obtain⟨s,sp,m,k,L,g',G',E,j,l,r,u,y,F,C,A,D,H⟩:=h;exact .inr (.inr (.inr (.inr (.inr (.inl ⟨s,sp,m,k,L,g',G',E,j,l,r,u,y,F,C,A,D,v _ _ _ H⟩)))))
 .obtain⟨s,sp,k,ai,g',E,j,l,r,u,y,C,aj,A,D,H,ak⟩:=h;exact .inr (.inr (.inr (.inr (.inr (.inr (.inl ⟨s,sp,k,ai,g',E,j,l,r,u,y,C,aj,A,D,H,v _ _ _ ak⟩))))))
 .obtain⟨s,sp,n,I,g',j,l,r,u,y,F,C,A⟩:=h;exact .inr (.inr (.inr (.inr (.inr (.inr (.inr (.inl ⟨s,sp,n,I,g',j,l,r,u,y,F,C,λal am an ao a b c d e f g i=>v _ _ _ (A al am an ao a b c d e f g i)⟩)))))))
 .obtain⟨s,sp,n,p,g',c,ap,aq,j,l,r,u,y,F,C,A,D,H⟩:=h;exact .inr (.inr (.inr (.inr (.inr (.inr (.inr (.inr (.inl ⟨s,sp,n,p,g',c,ap,aq,j,l,r,u,y,F,C,A,v _ _ _ D,v _ _ _ H⟩))))))))
 .refine .inr (.inr (.inr (.inr (.inr (.inr (.inr (.inr (.inr ?_))))))));rcases h with⟨G',j,l⟩|⟨b,c,t,j,l⟩|⟨s,sp,ar,G',E,j,l,r,u,y,A⟩
  .exact .inl ⟨G',j,v _ _ _ l⟩
  .exact .inr (.inl ⟨b,c,t,j,v _ _ _ l⟩)
  .exact .inr (.inr ⟨s,sp,ar,G',E,j,l,r,u,y,v _ _ _ A⟩)
theorem Goes.stop {P:Program} {a:Value->Prop} {mn:Bool} {g:Goroutine} {x:ZZ} (b:Md P g x) (h:Ke P mn g x a):Goes P a mn g x:=⟨.leaf,b,h⟩
open Classical in
theorem Goes.step {P:Program} {a:Value->Prop} {mn:Bool} {g:Goroutine} {x:ZZ} (c:Md P g x) (h:Me P mn (Goes P a) g x):Goes P a mn g x:=by
 refine⟨.node λk=>if b:∃T,Vg P a T k.1 k.2.1 k.2.2 then Classical.choose b else .leaf,c,.inr (h.mono λd g' e f=>?_)⟩;have b:∃T,Vg P a T d g' e:=f;simp only[b,dif_pos];exact Classical.choose_spec b
theorem Goes.quits {P:Program} {i:Value->Prop} (n:Nat):∀{g:Goroutine} {x:ZZ},x.rel=true->(∀s,Gone (x.tok s))->QuitsD P n x.deaf g->Goes P i false g x:=by
 induction n with
 | zero=>
  intro g x b c a;exact .stop (λ_ _=>⟨0,a⟩) (.inr ⟨rfl,b,c,a.1,a.2⟩)
 | succ n j=>
  intro g x b c a;rcases a with a|⟨d,g',es,e,f,h⟩
  .exact .stop (λ_ _=>⟨0,a⟩) (.inr ⟨rfl,b,c,a.1,a.2⟩)
  .exact .step (λ_ _=>⟨n+1,.inr ⟨d,g',es,e,f,h⟩⟩) (.inl ⟨rfl,d,b,c,g',es,e,f,j (x:={x with deaf:=deafBehind x.deaf es}) b c h⟩)
abbrev Y5:=Nat ⊕ Nat
def Zz (H:Y5->Χ) (h:Y5) (G:Χ):Y5->Χ:=λk=>if k=h then G else H k
@[simp] theorem Yw (H:Y5->Χ) (h:Y5) (G:Χ):Zz H h G h=G:=by simp[Zz]
theorem Zy (H:Y5->Χ) {h k:Y5} (G:Χ) (a:k≠h):Zz H h G k=H k:=by simp[Zz,a]
structure YQ where
 H:Y5->Χ
 Z3:Nat->Nat->Option (Array Value×TypeId)
 tok:Nat->Nat->Tok
 spec:Nat->Nat->Option Spec
 view:Nat->Nat->Option (Nat×ε)
 deaf:Nat->Nat
 rel:Nat->Bool
 T:Nat->W7 (Bool×Goroutine×ZZ)
 O:Nat->Option ε
 Zs:Nat->Nat
 home:Nat->Nat
 XM:Nat->Nat
def YQ.x (c:YQ) (i:Nat):ZZ:=⟨c.H (.inl i),c.Z3 i,c.tok i,c.spec i,c.view i,c.deaf i,c.rel i⟩
structure WE (H:Y5->Χ) (a:Nat->Nat->Option (Array Value×TypeId)) (b:Nat->Option ε) (c w:World):Prop where
 fit:∀h,Fits (H h) w
 TT:∀i,Mg (a i) w
 Xf:∀s o,b s=some o->At s o w
 keep:Xj (λ_ _=>False) (λ_=>False) c w
structure VW (H:Y5->Χ) (d:Nat->Nat->Option (Array Value×TypeId)) (a:Nat->Option ε) (c:Nat):Prop where
 apart:∀h k,h≠k->Apart (H h) (H k)
 high:∀h b o,(H h).owns b o->c<=b
 SQ:∀h b,(H h).XF b->c<=b
 fresh:∀i b v,d i b=some v->c<=b/\(∀h,(H h).off b)/\∀j,j≠i->d j b=none
 UO:∀s o b,a s=some o->X9 s o.toSpec b->c<=b/\(∀h,(H h).off b)/\∀j,d j b=none
 Uz:∀s e o o' b,a s=some o->a e=some o'->X9 s o.toSpec b->X9 e o'.toSpec b->s=e
 RJ:∀s o m,a s=some o->o.ZO=some m->m≠s
 X2:∀b,(∀s o,a s=some o->¬X9 s o.toSpec b)->H (.inr b)=Χ.empty
theorem WE.own {H:Y5->Χ} {u:Nat->Nat->Option (Array Value×TypeId)} {y:Nat->Option ε} {A w w':World} {C:Nat} (p:WE H u y A w) (k:VW H u y C) (i:Nat) {G':Χ} {V':Nat->Option (Array Value×TypeId)}
  (d:Xj (H (.inl i)).owns (H (.inl i)).XF w w') (L:Fits G' w') (hv:Mg V' w') (V:A.heap.size=C):WE (Zz H (.inl i) G') (upd u i V') y A w':=by
 have D:∀h,h≠.inl i->(∀b o,(H (.inl i)).owns b o->¬(H h).has b o)/\∀b,(H (.inl i)).XF b->¬(H h).XF b:=λh e=>⟨(k.apart _ _ (YR e)).θ,(k.apart _ _ (YR e)).obj⟩;refine⟨λh=>?_,λj=>?_,λs o E=>?_,?_⟩
 .by_cases e:h=.inl i
  .subst e;rw[Yw];exact L
  .rw[Zy _ _ e];exact(p.fit h).keeps d (D h e).1 (D h e).2
 .by_cases F:j=i
  .subst F;rw[upd_same];exact hv
  .rw[upd_ne _ _ F];intro b c t a;obtain⟨c',f,n,g⟩:=d.cells b c t _ (p.TT j b c t a);have B:=(k.fresh j b _ a).2.1 (.inl i);have:c'=c:=by
    apply NF;intro o;exact g o λ⟨v,hv⟩=>B.1 o ⟨_,hv⟩
   rw[f,this]
 .have B:=λb (a:X9 s o.toSpec b)=>(k.UO s o b E a).2.1 (.inl i)
  have I:∀b c t,X9 s o.toSpec b->w.heap[b]?=some (.cells c t (0,0))->w'.heap[b]?=some (.cells c t (0,0)):=λb c t a M=>by
   obtain⟨c',f,n,g⟩:=d.cells b c t _ M;have:c'=c:=by
    apply NF;intro o';exact g o' λ⟨v,hv⟩=>(B b a).1 o' ⟨_,hv⟩
   rw[f,this]
  obtain⟨⟨N,f⟩,n⟩:=p.Xf s o E;exact⟨⟨N,I _ _ _ (.inl rfl) f⟩,λm J=>let ⟨O,g⟩:=n m J;⟨O,I _ _ _ (.inr J) g⟩⟩
 .have l:=p.keep;refine⟨X' l.size d.size,λb c t K a=>?_,λb x a r _=>?_,l.os.trans d.os,d.output.trans l.output,d.tape.trans l.tape⟩
  .obtain⟨P,f,n,g⟩:=l.cells b c t K a;obtain⟨Q,R,S,T⟩:=d.cells b P t K f;refine⟨Q,R,by rw[S,n],λo _=>?_⟩;rw[T o λr=>?_,g o id];have:=k.high _ _ _ r;have:=Xi a;omega
  .refine d.Tp b x (l.Tp b x a r id) r λU=>?_;have:=k.SQ _ _ U;have:=Xi a;omega
theorem WE.at {H:Y5->Χ} {a:Nat->Nat->Option (Array Value×TypeId)} {b:Nat->Option ε} {c w:World} (h:WE H a b c w) (d:Nat):WE H a b c (w.at d):=
 ⟨λk=>(h.fit k).at d,h.TT,h.Xf,⟨h.keep.size,h.keep.cells,h.keep.Tp,h.keep.os,h.keep.output,h.keep.tape⟩⟩
theorem VW.own {H:Y5->Χ} {y:Nat->Nat->Option (Array Value×TypeId)} {K:Nat->Option ε} {O:Nat} {w:World} {ad:World} (g:VW H y K O) (L:WE H y K ad w) (al:O<=w.heap.size) (i:Nat) {G':Χ} {V':Nat->Option (Array Value×TypeId)}
  (C:Kg (H (.inl i)) G' w.heap.size) (P:HC (y i) V' G' w.heap.size):VW (Zz H (.inl i) G') (upd y i V') K O:=by
 have W:∀b o,G'.has b o->w.heap.size<=b\/(H (.inl i)).has b o:=λb o ⟨⟨v,p⟩,h⟩=>(C.θ b o v p h).imp id λ⟨X,ae,Q,_⟩=>⟨_,Q⟩
 have Y:∀b o,G'.owns b o->w.heap.size<=b\/(H (.inl i)).owns b o:=λb o ⟨v,h⟩=>(C.θ b o v true h).imp id λ⟨X,ae,Q,af⟩=>⟨X,by rw[Q,af rfl]⟩
 have R:∀h b o,(H h).has b o->b<w.heap.size:=λh b o ⟨⟨v,p⟩,m⟩=>by
  obtain⟨c,t,am,hb,_⟩:=Q3 ((L.fit h).θ b o v p m);exact Xi hb
 have Z:∀h b,(H h).XF b->b<w.heap.size:=λh b ⟨x,m⟩=>Xi ((L.fit h).obj b x m).1
 have aa:∀k,k≠.inl i->Apart G' (H k):=λk D=>by
  have a:=g.apart _ _ (YR D);refine⟨λb o d m=>?_,λb o d m=>?_,λb d m=>?_⟩
  .rcases Y b o d with h|h
   .have:=R k b o m;omega
   .exact a.θ b o h m
  .rcases W b o m with h|h
   .have:=R k b o (let ⟨v,hv⟩:=d;⟨_,hv⟩);omega
   .exact a.Q4 b o d h
  .rcases C.obj b d with h|h
   .have:=Z k b m;omega
   .exact a.obj b h m
 have ag:∀{A B:Χ},Apart A B->Apart B A:=λh=>⟨h.Q4,h.θ,λb hb ah=>h.obj b ah hb⟩
 have S:∀b,b<w.heap.size->(H (.inl i)).off b->G'.off b:=λb hb h=>⟨λo d=>(W b o d).elim (λx=>U) (h.1 o),λd=>(C.obj b d).elim (λx=>U) h.2⟩
 have T:∀j b v,y j b=some v->b<w.heap.size:=λj b v hv=>Xi (L.TT j b v.1 v.2 hv)
 have ai:∀s o b,K s=some o->X9 s o.toSpec b->b<w.heap.size:=λs o b M hb=>by
  obtain⟨⟨an,N⟩,V⟩:=L.Xf s o M;rcases hb with rfl|hb
  .exact Xi N
  .obtain⟨ao,aj⟩:=V b hb;exact Xi aj
 refine⟨λh k D=>?_,λh b o d=>?_,λh b d=>?_,λj b v hv=>?_,λs o b M hb=>?_,g.Uz,g.RJ,λb hb=>?_⟩
 .by_cases e:h=.inl i
  .subst e;rw[Yw,Zy _ _ (YR D)];exact aa k (YR D)
  .by_cases kk:k=.inl i
   .subst kk;rw[Yw,Zy _ _ e];exact ag (aa h e)
   .rw[Zy _ _ e,Zy _ _ kk];exact g.apart h k D
 .by_cases e:h=.inl i
  .subst e;rw[Yw] at d;rcases Y b o d with h|h
   .omega
   .exact g.high _ _ _ h
  .rw[Zy _ _ e] at d;exact g.high _ _ _ d
 .by_cases e:h=.inl i
  .subst e;rw[Yw] at d;rcases C.obj b d with h|h
   .omega
   .exact g.SQ _ _ h
  .rw[Zy _ _ e] at d;exact g.SQ _ _ d
 .by_cases ab:j=i
  .subst ab;rw[upd_same] at hv;rcases P b v hv with h|⟨N,V⟩
   .obtain⟨E,n,r⟩:=g.fresh j b v h;refine⟨E,λf=>?_,λl u=>by rw[upd_ne _ _ u];exact r l u⟩;by_cases e:f=.inl j
    .subst e;rw[Yw];exact S b (T j b v h) (n _)
    .rw[Zy _ _ e];exact n _
   .refine⟨U,λf=>?_,λl u=>?_⟩
    .by_cases e:f=.inl j
     .subst e;rw[Yw];exact V
     .rw[Zy _ _ e];exact⟨λo d=>by have:=R f b o d;omega,λd=>by have:=Z f b d;omega⟩
    .rw[upd_ne _ _ u];cases F:y l b with
     | none=>rfl
     | some J=>have:=T l b J F;omega
  .rw[upd_ne _ _ ab] at hv;obtain⟨E,n,r⟩:=g.fresh j b v hv;have hb:=T j b v hv;refine⟨E,λf=>?_,λl u=>?_⟩
   .by_cases e:f=.inl i
    .subst e;rw[Yw];exact S b hb (n _)
    .rw[Zy _ _ e];exact n _
   .by_cases f:l=i
    .subst f;rw[upd_same];cases F:V' b with
     | none=>rfl
     | some J=>
      rcases P b J F with h|⟨N,_⟩
      .rw[r l u] at h;cases h
      .omega
    .rw[upd_ne _ _ f];exact r l u
 .obtain⟨E,n,r⟩:=g.UO s o b M hb;have ak:=ai s o b M hb;refine⟨E,λf=>?_,λl=>?_⟩
  .by_cases e:f=.inl i
   .subst e;rw[Yw];exact S b ak (n _)
   .rw[Zy _ _ e];exact n _
  .by_cases f:l=i
   .subst f;rw[upd_same];cases F:V' b with
    | none=>rfl
    | some J=>
     rcases P b J F with h|⟨N,_⟩
     .rw[r l] at h;cases h
     .omega
   .rw[upd_ne _ _ f];exact r l
 .rw[Zy _ _ I];exact g.X2 b hb
def Vf (tok:Nat->Nat->Tok) (c:Nat->Option ε) (t:Trace):Y5->Nat->Prop
 | .inl i,k=>Knows t i k
 | .inr b,k=>(∃p a,t[p]?=some a/\a.act=.mark (.releaseMerge ⟨b,0,none⟩)/\t.heard p/\Before t k p)\/(∀s o,c s=some o->X9 s o.toSpec b->∀i,tok i s≠.nil->Knows t i k)
theorem HA {tok:Nat->Nat->Tok} {a:Nat->Option ε} {t:Trace} (u:Trace) {h:Y5} {k:Nat} (c:Vf tok a t h k):Vf tok a (t++u) h k:=by
 cases h with
 | inl i=>exact Knows.app u c
 | inr b=>
  rcases c with⟨p,f,d,g,j,l⟩|h
  .have e:=lt_size_of_getElem? d;exact .inl ⟨p,f,by rw[getElem?_append_old e];exact d,g,(heard_old e).2 j,l.app u⟩
  .exact .inr λs o m n i hi=>(h s o m n i hi).app u
structure VH (H:Y5->Χ) (e:Nat->Nat->Option (Array Value×TypeId)) (tok:Nat->Nat->Tok) (d:Nat->Option ε) (f:Nat->Nat) (g:Nat->Nat) (N:Nat) (t:Trace):Prop where
 race:∀j,¬Race j t
 low:∀c∈t,c.act.low N
 norel:∀c∈t,∀a,c.act≠.mark (.release a)
 perms:∀h,YI t (Vf tok d t h) (H h)
 Sl:∀i b v,e i b=some v->∀k a,touchAt t k=some a->¬SW a.loc b
 cont:∀s o b,d s=some o->X9 s o.toSpec b->∀k a,touchAt t k=some a->SW a.loc b->a.kind=.atomic\/(a.kind=.said/\t.g? k=some (f s))
 hears:∀i,Deaf t i=g i
theorem Mc {t:Trace} {N k:Nat} {a:Touch} (h:∀f∈t,f.act.low N) (j:touchAt t k=some a) {b:Nat} (c:SW a.loc b):b<N:=by
 obtain⟨f,l,d⟩:=touch_of j;have i:=h f (mem_of_getElem? l);obtain⟨g,fn,pos,n⟩:=f;cases n with
 | access e=>
  simp only[MemAct.touch?,Qj] at d;subst d;obtain⟨o,wr,p⟩:=e;cases o<;>simp only[SW] at c<;>first|(subst c;exact i)|exact c.elim
 | mark m=>
  cases m<;>simp only[MemAct.touch?,Qj,reduceCtorEq] at d<;>(subst d;simp only[SW] at c;subst c;exact i)
 | _=>simp[MemAct.touch?] at d
theorem Kf.Hz {G:Χ} {n a:Nat} {e:Event} (h:Kf e):Wq G n a e:=by
 rcases h with h|h<;>simp[Wq,h]
theorem Kd {G:Χ} {n f:Nat} {e:Event} (c:Wq G n f e) {a:Touch} (b:(MemAct.ofEvent e).touch?=some a) :
  a.loc=e.loc/\a.write=e.write/\(a.loc.isMemory=true->(∃d,e.loc=.cell d)\/∃r,e.loc=.obj r):=by
 obtain⟨g,wr,h⟩:=e;cases g with
 | cell d=>simp[MemAct.ofEvent,MemAct.touch?] at b;subst b;simp
 | obj r=>
  simp only[Wq] at c;obtain⟨rfl,_⟩:=c;cases wr<;>simp[MemAct.ofEvent,MemAct.touch?] at b<;>subst b<;>simp
 | output=>simp[MemAct.ofEvent,MemAct.touch?] at b;subst b;simp[Loc.isMemory]
 | goroutines=>exact c.elim
 | mark m=>simp only[Wq] at c;subst c;simp[MemAct.ofEvent,MemAct.touch?] at b
theorem VH.own {H:Y5->Χ} {M:Nat->Nat->Option (Array Value×TypeId)} {tok:Nat->Nat->Tok} {P:Nat->Option ε} {ah:Nat->Nat} {ai:Nat->Nat} {ap w w':World} {aq:Nat} {t:Trace}
  (l:VH H M tok P ah ai w.heap.size t) (U:WE H M P ap w) (V:VW H M P aq) (i:Nat) {G':Χ} {V':Nat->Option (Array Value×TypeId)} {es:Array Event} {fn:FuncId} {pos:String}
  (ar:w.heap.size<=w'.heap.size) (aj:Kg (H (.inl i)) G' w.heap.size) (ak:HC (M i) V' G' w.heap.size)
  (E:∀e∈es,Wq (H (.inl i)) w.heap.size w'.heap.size e) (au:∀b c,V' b=some c->w.heap.size<=b->∀e∈es,¬SW e.loc b) :
  VH (Zz H (.inl i) G') (upd M i V') tok P ah ai w'.heap.size (t++MemOp.ofEvents i fn pos es):=by
 have Q:∀B∈MemOp.ofEvents i fn pos es,B.g=i:=λB n=>by obtain⟨e,_,rfl⟩:=Go.Conc.mem_ofEvents n;rfl
 have W:∀h b o,(H h).has b o->b<w.heap.size:=λh b o ⟨⟨v,p⟩,C⟩=>by
  obtain⟨c,t,aF,hb,_⟩:=Q3 ((U.fit h).θ b o v p C);exact Xi hb
 have al:∀h b,(H h).XF b->b<w.heap.size:=λh b ⟨x,C⟩=>Xi ((U.fit h).obj b x C).1
 have am:∀j b v,M j b=some v->b<w.heap.size:=λj b v hv=>Xi (U.TT j b v.1 v.2 hv)
 have av:∀s o b,P s=some o->X9 s o.toSpec b->b<w.heap.size:=λs o b R hb=>by
  obtain⟨⟨aG,D⟩,S⟩:=U.Xf s o R;rcases hb with rfl|hb
  .exact Xi D
  .obtain⟨aH,X⟩:=S b hb;exact Xi X
 have Y:∀e∈es,∀b,b<w.heap.size->(H (.inl i)).off b->¬SW e.loc b:=λe f b hb Z u=>by
  have:=E e f;obtain⟨T,wr,aa⟩:=e;cases T with
  | cell N=>
   simp only[SW] at u;subst u;simp only[Wq] at this;rcases this with h|⟨_,h⟩
   .omega
   .cases wr
    .exact Z.1 _ h
    .obtain⟨v,hv⟩:=h;exact Z.1 _ ⟨_,hv⟩
  | obj r=>
   simp only[SW] at u;subst u;simp only[Wq] at this;rcases this.2 with h|h
   .omega
   .exact Z.2 h
  | _=>exact u
 refine⟨λaw=>noRace_append (l.race aw) Q λk a y B n b hb K=>?_,λB n=>?_,λB n=>?_,λh=>?_,λj b v hv k a y u=>?_,λs o b R hb k a y u=>?_,λj=>?_⟩
 .obtain⟨e,f,rfl⟩:=Go.Conc.mem_ofEvents n;obtain⟨D,S,X⟩:=Kd (E e f) hb;obtain⟨ab,ax,ay,_⟩:=K;have d:=E e f;rcases X (by rw[<-ab];exact ax) with⟨N,A⟩|⟨r,A⟩
  .simp only[Wq,A] at d;have O:a.loc=.cell N:=by rw[ab,D,A]
   rcases d with h|⟨an,h⟩
   .have:=Mc l.low y (b:=N.block) (by rw[O];rfl);omega
   .obtain⟨aI,aJ,sp⟩:=N;simp only at an;subst an;by_cases I:e.write=true
    .rw[if_pos I] at h;obtain⟨v,hv⟩:=h;exact(l.perms (.inl i)).θ _ _ v true hv k a y O (.inl rfl)
    .rw[if_neg I] at h;obtain⟨⟨v,p⟩,hv⟩:=h;exact(l.perms (.inl i)).θ _ _ v p hv k a y O (.inr (ay.resolve_right (by rw[S];exact I)))
  .simp only[Wq,A] at d;have O:a.loc=.obj r:=by rw[ab,D,A]
   rcases d.2 with h|h
   .have:=Mc l.low y (b:=r) (by rw[O];rfl);omega
   .exact(l.perms (.inl i)).obj r h k a y O
 .rcases Ss.1 n with h|h
  .exact MemAct.low_mono ar (l.low B h)
  .obtain⟨e,f,rfl⟩:=Go.Conc.mem_ofEvents h;have d:=E e f;obtain⟨T,wr,aa⟩:=e;cases T with
   | cell N=>
    simp only[Wq] at d;show N.block<_;rcases d with h|⟨_,h⟩
    .exact h.2
    .cases wr
     .have:=W _ _ _ h;omega
     .obtain⟨v,hv⟩:=h;have:=W (.inl i) _ _ ⟨_,hv⟩;omega
   | obj r=>
    simp only[Wq] at d;obtain⟨rfl,d⟩:=d;have az:r<w'.heap.size:=d.elim (λh=>h.2) (λh=>by have:=al _ _ h;omega);cases wr<;>exact az
   | output=>trivial
   | goroutines=>exact d.elim
   | mark m=>simp only[Wq] at d;subst d;trivial
 .rcases Ss.1 n with h|h
  .exact l.norel B h
  .obtain⟨e,f,rfl⟩:=Go.Conc.mem_ofEvents h;intro a h;have d:=E e f;obtain⟨T,wr,aa⟩:=e;cases T with
   | mark m=>simp only[Wq] at d;subst d;simp[MemAct.ofEvent] at h
   | obj r=>cases wr<;>cases aa<;>simp[MemAct.ofEvent] at h
   | _=>simp[MemAct.ofEvent] at h
 .by_cases ad:h=.inl i
  .subst ad;rw[Yw];have ao:YI (t++MemOp.ofEvents i fn pos es) (Knows (t++MemOp.ofEvents i fn pos es) i) (H (.inl i)):=(l.perms (.inl i)).own Q;refine⟨λb o v p K k a y A I=>?_,λb hb k a y A=>?_⟩
   .rcases aj.θ b o v p K with aA|⟨aB,aC,ae,aD⟩
    .rcases To y with F|⟨_,B,n,L,_⟩
     .have:=Mc l.low F (b:=b) (by rw[A];rfl);omega
     .have:=knows_own L;rwa [Q B n] at this
    .exact ao.θ b o aB aC ae k a y A (I.imp aD id)
   .rcases aj.obj b hb with aA|ae
    .rcases To y with F|⟨_,B,n,L,_⟩
     .have:=Mc l.low F (b:=b) (by rw[A];rfl);omega
     .have:=knows_own L;rwa [Q B n] at this
    .exact ao.obj b ae k a y A
  .rw[Zy _ _ ad];have af:=V.apart _ _ (YR ad);refine(l.perms h).others (λk L=>HA _ L) λB n a y=>?_;obtain⟨e,f,rfl⟩:=Go.Conc.mem_ofEvents n;obtain⟨D,S,_⟩:=Kd (E e f) y;have d:=E e f;refine⟨λb o v p A K=>?_,λb A hb=>?_⟩
   .simp only[Wq,<-D,A] at d;rcases d with C|⟨_,C⟩
    .have:=W h b o ⟨_,K⟩;omega
    .by_cases I:e.write=true
     .rw[if_pos I] at C;exact absurd ⟨_,K⟩ (af.θ b o C)
     .rw[if_neg I] at C;refine⟨?_,by rw[S];simpa using I⟩;cases p with
      | false=>rfl
      | true=>exact absurd C (af.Q4 b o ⟨v,K⟩)
   .simp only[Wq,<-D,A] at d;rcases d.2 with C|C
    .have:=al h b hb;omega
    .exact af.obj b C hb
 .rcases To y with F|⟨_,B,n,_,ag⟩
  .have hb:=Mc l.low F u;by_cases J:j=i
   .subst J;rw[upd_same] at hv;rcases ak b v hv with h|h
    .exact l.Sl j b v h k a F u
    .omega
   .rw[upd_ne _ _ J] at hv;exact l.Sl j b v hv k a F u
  .obtain⟨e,f,rfl⟩:=Go.Conc.mem_ofEvents n;obtain⟨D,_,_⟩:=Kd (E e f) ag;rw[D] at u;by_cases J:j=i
   .subst J;rw[upd_same] at hv;rcases ak b v hv with h|h
    .exact Y e f b (am j b v h) ((V.fresh j b v h).2.1 _) u
    .exact au b v hv h.1 e f u
   .rw[upd_ne _ _ J] at hv;exact Y e f b (am j b v hv) ((V.fresh j b v hv).2.1 _) u
 .rcases To y with F|⟨_,B,n,_,ag⟩
  .rcases l.cont s o b R hb k a F u with h|⟨h,L⟩
   .exact .inl h
   .obtain⟨B,aE,_⟩:=touch_of F;exact .inr ⟨h,by rw[g?_old (lt_size_of_getElem? aE)];exact L⟩
  .obtain⟨e,f,rfl⟩:=Go.Conc.mem_ofEvents n;obtain⟨D,_,_⟩:=Kd (E e f) ag;rw[D] at u;exact absurd u (Y e f b (av s o b R hb) ((V.UO s o b R hb).2.1 _))
 .by_cases J:i=j
  .subst J;rw[Deaf_own,deafBehind_still (λe f=>?_)]
   .exact l.hears i
   .have d:=E e f;constructor<;>intro A<;>simp[Wq,A] at d
  .rw[Deaf_other t J _ Q];exact l.hears j
end Go.TL
