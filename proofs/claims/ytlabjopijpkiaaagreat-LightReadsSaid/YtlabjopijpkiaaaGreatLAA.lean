import Derived.Conc.Beside
import Derived.Conc.CrowdBase
import Derived.Conc.MuSpec
import GoSem.Core.World
set_option maxHeartbeats 16000000
set_option maxRecDepth 20000
set_option linter.unusedSectionVars false
set_option linter.unusedSimpArgs false
set_option linter.unusedVariables false
namespace Go.TL
abbrev ζ:=Array Value
abbrev ο:=List Nat
abbrev Zz:=List Item
abbrev ZZ:=List Int
abbrev YU:=List Frame
abbrev ZC:=Array Oper
abbrev Zu:=Int×Int
theorem U {b:Sort _} {a:b}:a=a:=rfl
abbrev Α:=@Nat.zero_le
abbrev Z6:=@Nat.le_refl
abbrev Y9:=@List.mem_cons
abbrev Yx:=@List.getElem_mem
abbrev Ws:=@List.take_succ_eq_append_getElem
abbrev Yc:=@List.getElem?_map
abbrev YO:=@List.mem_map
abbrev Yb:=@List.not_mem_nil
abbrev Wr:=@Array.getD_eq_getD_getElem?
abbrev WB:=@List.getD_eq_getElem?_getD
abbrev X2:=@List.length_map
abbrev XA:=@List.map_append
abbrev WX:=@Bool.false_eq_true
abbrev UC:=@Array.getElem?_setIfInBounds_ne
abbrev Tc:=@Array.getElem?_setIfInBounds_self_of_lt
abbrev Wh:=@Array.getElem?_toList
abbrev V0:=@List.getElem?_set_self
abbrev VP:=@List.take_of_length_le
abbrev XQ:=@Nat.le_trans
abbrev WW:=@Option.some.inj
abbrev YF:=@Ne.symm
abbrev Vp:=@List.getElem?_set_ne
abbrev WZ:=@List.map_cons
abbrev V5:=@List.all_eq_true
abbrev VO:=@Bool.and_eq_true
abbrev Vz:=@List.length_append
abbrev TJ:=@Array.getElem?_eq_some_iff
abbrev V4:=@List.mem_append
abbrev Tb:=@Classical.byContradiction
abbrev Ta:=@Array.size_setIfInBounds
abbrev S':=@List.getElem?_take_of_lt
abbrev Uc:=@List.getElem?_eq_none
abbrev S9:=@Option.map_eq_some_iff
abbrev Wg:=@Nat.add_mul
abbrev Xk:=@Eq.trans
abbrev TI:=@List.getElem?_drop
abbrev UB:=@List.range_succ
abbrev UT:=@List.mem_range
abbrev S8:=@List.getElem_of_mem
abbrev TH:=@List.append_assoc
abbrev Ul:=@List.append_nil
abbrev Rc:=@List.pairwise_iff_getElem
abbrev Sl:=@List.getElem?_of_mem
abbrev Sk:=@Nat.mul_le_mul_right
abbrev US:=@Nat.zero_add
abbrev TG:=@List.mem_filter
abbrev UA:=@Nat.succ_pos
abbrev RN:=@List.length_pos_iff
abbrev Ub:=@Nat.add_assoc
abbrev Sj:=@List.ext_getElem?
abbrev Si:=@Array.mem_append
abbrev TF:=@List.map_nil
abbrev OM:=@List.drop_eq_getElem_cons
abbrev Pz:=@List.length_replicate
abbrev OL:=@Array.getElem?_replicate
abbrev Py:=@List.set_append_right
abbrev Qp:=@Nat.lt_of_le_of_lt
abbrev SM:=@Nat.le_of_lt
abbrev NI:=@Array.getElem?_append_left
abbrev Qo:=@Option.some.injEq
abbrev Qn:=@List.foldl_append
abbrev Rb:=@List.nodup_cons
abbrev OK:=@List.take_append_drop
abbrev Px:=@Array.getElem?_map
abbrev Qm:=@List.length_take
abbrev Ql:=@Nat.mod_eq_of_lt
abbrev Qk:=@List.isEmpty_iff
abbrev Qj:=@Nat.lt_succ_self
abbrev Pw:=@List.any_eq_false
abbrev Qi:=@Nat.not_lt_zero
abbrev NH:=@Array.getElem?_eq_none
abbrev NG:=@List.drop_eq_nil_of_le
abbrev Pv:=@List.mem_flatMap
abbrev KU:=@List.pairwise_iff_forall_sublist
abbrev OJ:=@Array.append_assoc
abbrev OI:=@Array.append_empty
abbrev OH:=@List.getElem?_take
abbrev OG:=@List.pairwise_cons
abbrev RL:=@Nat.mul_one
abbrev Ra:=@List.map_map
abbrev Pu:=@Bool.eq_iff_iff
abbrev Mm:=@List.Perm.eq_of_pairwise
abbrev NF:=@List.pairwise_append
abbrev KT:=@Array.eq_empty_of_size_eq_zero
abbrev Ml:=@List.getElem?_replicate
abbrev ND:=@Array.getElem?_push
abbrev NC:=@Array.ext_getElem?
abbrev KS:=@Array.getElem?_append_right
abbrev Mk:=@List.length_filter_le
abbrev Mj:=@List.filterMap_append
abbrev KR:=@List.perm_ext_iff_of_nodup
abbrev Mi:=@Nat.pow_le_pow_right
abbrev KQ:=@List.mem_take_iff_getElem
abbrev KP:=@List.mem_or_eq_of_mem_set
abbrev Pt:=@Nat.zero_mul
abbrev KO:=@List.eq_of_mem_replicate
abbrev Ps:=@Nat.sub_self
abbrev NB:=@List.take_length
abbrev KN:=@Bool.eq_false_or_eq_true
abbrev Mh:=@List.map_congr_left
abbrev Mg:=@List.flatMap_append
abbrev Mf:=@List.mergeSort_perm
abbrev KM:=@List.pairwise_mergeSort
abbrev KL:=@Array.mem_iff_getElem?
abbrev OF:=@Nat.lt_or_ge
abbrev NA:=@Array.mem_push
abbrev Nz:=@Nat.mul_le_mul
abbrev KJ:=@List.contains_iff_mem
abbrev KI:=@List.range_eq_range'
abbrev KH:=@List.mem_of_mem_take
abbrev Me:=@List.any_eq_true
abbrev Ny:=@List.map_take
abbrev HX:=@Int.fdiv_eq_ediv_of_nonneg
abbrev HW:=@Int.tdiv_eq_ediv_of_nonneg
abbrev Md:=@Bool.or_eq_true
abbrev Mc:=@List.length_set
abbrev HV:=@List.exists_mem_of_ne_nil
abbrev KG:=@Nat.lt_of_lt_of_le
abbrev KF:=@Array.all_eq_true'
abbrev KE:=@Nat.add_sub_cancel
abbrev HU:=@List.length_filterMap_le
abbrev OE:=@Int.not_lt
abbrev KD:=@List.pairwise_map
abbrev KC:=@Bool.not_eq_true'
abbrev KB:=@Nat.one_shiftLeft
abbrev HT:=@List.length_eq_one_iff
abbrev KA:=@List.filter_cons
abbrev Kz:=@List.nodup_range
abbrev Ky:=@List.range'_succ
abbrev Nx:=@Array.ext'
abbrev Mb:=@Nat.add_comm
abbrev Ma:=@List.map_set
theorem Z7 {a : Type _} {l : List a} {i : Nat} (h : i < l.length) : l[i]? = some l[i] := List.getElem?_eq_getElem h
theorem Zo {b : Type _} {l : List b} {i : Nat} {a : b} : l[i]? = some a ↔ ∃ h : i < l.length, l[i] = a := List.getElem?_eq_some_iff
theorem Y1 {b : Type _} {l : List b} {i : Nat} {a : b} (e : l[i]? = some a) : a ∈ l := List.mem_of_getElem? e
theorem YA {a : Type _} {l : List a} : l.length = 0 ↔ l = [] := List.length_eq_zero_iff
theorem Yz {b : Type _} {a c : List b} {i : Nat} (d : i < a.length) : (a ++ c)[i]? = a[i]? := List.getElem?_append_left d
theorem Xj {c : Type _} {a b : List c} {i : Nat} (h : a.length <= i) : (a ++ b)[i]? = b[i - a.length]? := List.getElem?_append_right h
theorem Xu {a : Type _} {xs : Array a} {i : Nat} (h : i < xs.size) : xs[i]? = some xs[i] := Array.getElem?_eq_getElem h
theorem J {p:Prop} (h:p:=by omega):p:=h
theorem Zy {p:Prop} (h:p:=by(try simp only);omega):p:=h
theorem Ω {p:Prop} (h:p:=by simp):p:=h
theorem ZT {p:Prop} (h:p:=by decide):p:=h
theorem ZG {b:Sort _} (a:b):∃x,a=x:=⟨a,rfl⟩
theorem Ε {b:Sort _} (a:b):∃x,x=a:=⟨a,rfl⟩
def Obj.Qh:Obj->Bool
 | .cells ..=>true
 | _=>false
structure Τ where
 η:Nat->Nat->Option (Value×Bool)
 row:Nat->Option (TypeId×Nat)
 obj:Nat->Option Obj
def Τ.empty:Τ:=⟨λ_ _=>none,λ_=>none,λ_=>none⟩
end Go.TL
namespace Go.TL
open Go.Conc
open Go.ConcM (OsLater)
structure Fits (G:Τ) (w:World):Prop where
 η:∀b o v p,G.η b o=some (v,p)->w.cell? ⟨b,o,none⟩=some v
 row:∀b t n,G.row b=some (t,n)->∃c,w.heap[b]?=some (.cells c t (0,0))/\c.size=n
 obj:∀b x,G.obj b=some x->w.heap[b]?=some x/\Obj.Qh x=false
def Τ.owns (G:Τ) (b o:Nat):Prop:=∃v,G.η b o=some (v,true)
def Τ.has (G:Τ) (b o:Nat):Prop:=∃x,G.η b o=some x
def Τ.Xt (G:Τ) (b:Nat):Prop:=∃x,G.obj b=some x
structure Apart (G H:Τ):Prop where
 η:∀b o,G.owns b o->¬H.has b o
 Q':∀b o,H.owns b o->¬G.has b o
 obj:∀b,G.Xt b->¬H.Xt b
def Τ.off (G:Τ) (b:Nat):Prop:=(∀o,¬G.has b o)/\¬G.Xt b
structure Xd (d:Nat->Nat->Prop) (e:Nat->Prop) (w w':World):Prop where
 size:w.heap.size<=w'.heap.size
 cells:∀b c t a,w.heap[b]?=some (.cells c t a)->∃c',w'.heap[b]?=some (.cells c' t a)/\c'.size=c.size/\∀o,¬d b o->c'[o]?=c[o]?
 S7:∀b x,w.heap[b]?=some x->Obj.Qh x=false->¬e b->w'.heap[b]?=some x
 os:OsLater w.os w'.os
 output:w'.output=w.output
 tape:w'.tape=w.tape
theorem Xc {w:World} {b:Nat} {x:Obj} (h:w.heap[b]?=some x):b<w.heap.size:=by
 rcases OF b w.heap.size with a|a
 .exact a
 .rw[NH a] at h;cases h
theorem Q9 {w:World} {b o:Nat} {v:Value} (h:w.cell? ⟨b,o,none⟩=some v):∃c t d,w.heap[b]?=some (.cells c t d)/\c[o]?=some v:=by
 unfold World.cell? at h;cases a:w.heap[b]? with
 | none=>simp[a] at h
 | some x=>
  cases x<;>simp[a] at h;exact⟨_,_,_,U,h⟩
theorem SL {w:World} {b o:Nat} {v:Value} {c:ζ} {t:TypeId} {a:Nat×Nat} (h:w.heap[b]?=some (.cells c t a)) (hv:c[o]?=some v):w.cell? ⟨b,o,none⟩=some v:=by
 simp[World.cell?,h,hv]
theorem Xd.refl (a:Nat->Nat->Prop) (d:Nat->Prop) (w:World):Xd a d w w:=
 ⟨Z6 _,λb c t e h=>⟨c,h,U,λ_ _=>rfl⟩,λ_ _ h _ _=>h,OsLater.refl _,U,U⟩
theorem Fits.keeps {g:Nat->Nat->Prop} {i:Nat->Prop} {w w':World} {H:Τ} (d:Fits H w) (e:Xd g i w w') (k:∀b o,g b o->¬H.has b o) (l:∀b,i b->¬H.Xt b):Fits H w':=by
 refine⟨λb o v p h=>?_,λb t n h=>?_,λb x h=>?_⟩
 .obtain⟨c,t,m,a,hv⟩:=Q9 (d.η b o v p h);obtain⟨c',f,_,r⟩:=e.cells b c t m a;exact SL f (by rw[r o λx=>k b o x ⟨_,h⟩];exact hv)
 .obtain⟨c,a,s⟩:=d.row b t n h;obtain⟨c',f,u,_⟩:=e.cells b c t _ a;exact⟨c',f,by rw[u,s]⟩
 .obtain⟨a,j⟩:=d.obj b x h;exact⟨e.S7 b x a j λy=>l b y ⟨_,h⟩,j⟩
theorem Fits.at {H:Τ} {w:World} (h:Fits H w) (d:Nat):Fits H (w.at d):=⟨h.η,h.row,h.obj⟩
structure Ys (t:Trace) (c:Nat->Prop) (G:Τ):Prop where
 η:∀b o v p,G.η b o=some (v,p)->∀i a,touchAt t i=some a->a.loc=.cell ⟨b,o,none⟩->(p=true\/a.write=true)->c i
 obj:∀b,G.Xt b->∀i a,touchAt t i=some a->a.loc=.obj b->c i
theorem Ys.mono {t:Trace} {e f:Nat->Prop} {G:Τ} (h:Ys t e G) (g:∀i,e i->f i):Ys t f G:=
 ⟨λb o v p j i a c d k=>g i (h.η b o v p j i a c d k),λb l i a c d=>g i (h.obj b l i a c d)⟩
def SK (l:Loc) (b:Nat):Prop:=
 match l with
 | .cell a=>a.block=b
 | .obj r=>r=b
 | _=>False
def Wf (G:Τ) (n b:Nat) (e:Event):Prop:=
 match e.loc with
 | .cell a=>(n<=a.block/\a.block<b)\/(a.spot=none/\(if e.write then G.owns a.block a.off else G.has a.block a.off))
 | .obj r=>e.sync=false/\((n<=r/\r<b)\/G.Xt r)
 | .output=>True
 | .goroutines=>False
 | .mark m=>m=.noRoom
theorem S6 {t u:Trace} {i:Nat} {a:Touch} (h:touchAt (t++u) i=some a):touchAt t i=some a\/(t.size<=i/\∃b∈u,(t++u)[i]?=some b/\b.act.touch?=some a):=by
 obtain⟨x,c,d⟩:=touch_of h;rcases getElem?_append_cases c with⟨_,e⟩|⟨f,g⟩
 .exact .inl (by rw[touchAt_of e];exact d)
 .exact .inr ⟨f,x,g,c,d⟩
theorem Ys.own {t u:Trace} {i:Nat} {G:Τ} (h:Ys t (Knows t i) G) (m:∀c∈u,c.g=i):Ys (t++u) (Knows (t++u) i) G:=by
 refine⟨λb o v p n k a d e r=>?_,λb s k a d e=>?_⟩
 .rcases S6 d with f|⟨_,c,j,l,_⟩
  .exact(h.η b o v p n k a f e r).app u
  .have:=knows_own l;rwa [m c j] at this
 .rcases S6 d with f|⟨_,c,j,l,_⟩
  .exact(h.obj b s k a f e).app u
  .have:=knows_own l;rwa [m c j] at this
theorem Ys.others {t u:Trace} {l m:Nat->Prop} {G:Τ} (h:Ys t l G) (n:∀i,l i->m i)
  (r:∀c∈u,∀a,c.act.touch?=some a->(∀b o v p,a.loc=.cell ⟨b,o,none⟩->G.η b o=some (v,p)->p=false/\a.write=false)/\∀b,a.loc=.obj b->¬G.Xt b):Ys (t++u) m G:=by
 refine⟨λb o v p s k a e d hw=>?_,λb w k a e d=>?_⟩
 .rcases S6 e with f|⟨_,c,g,_,j⟩
  .exact n _ (h.η b o v p s k a f d hw)
  .have:=((r c g a j).1 b o v p d s);rcases hw with hw|hw
   .rw[this.1] at hw;cases hw
   .rw[this.2] at hw;cases hw
 .rcases S6 e with f|⟨_,c,g,_,j⟩
  .exact n _ (h.obj b w k a f d)
  .exact absurd w ((r c g a j).2 b d)
end Go.TL
namespace Go.TL
open Go.Conc
open Go.ConcN (sumTo upd sumTo_upd upd_ne upd_same sumTo_congr le_sumTo)
inductive Ua where
 | idle|act (a:Bool)|q|wk|hw|own|Yw (L:ο)|fin|uc|us|done
inductive Pr where
 | work|rel|l2|RK|gone
inductive Qg where
 | add|w3|w4|SJ|ZO
inductive Tok where
 | nil
 | par (n pend:Nat) (a:Qg)
 | ch (k:Nat) (b:Ua) (c:Pr)
structure Spec where
 ZK:Option Nat
 XI:ο->Τ->Prop
 D:Nat->Τ->Prop
 top:Nat
structure Z' extends Spec where
 YW:Nat
 wk:Nat
 sv:Nat
 nw:Nat
 Yp:Nat
 L:ο
 cnt:Nat
 wt:Nat
 YK:Nat
 R:ο
def L':Ua->Nat|.own|.Yw _|.fin=>1|_=>0
def VN:Tok->Nat|.ch _ m _=>L' m|_=>0
def Kx:Ua->Nat|.us|.wk|.hw=>1|_=>0
def SI:Tok->Nat|.ch _ m _=>Kx m|_=>0
def OD:Ua->Nat|.act true=>1|_=>0
def TE:Tok->Nat|.ch _ m _=>OD m|_=>0
def L9:Ua->Nat|.q=>1|_=>0
def T':Tok->Nat|.ch _ m _=>L9 m|_=>0
def Kw:Ua->Nat|.hw=>1|_=>0
def S5:Tok->Nat|.ch _ m _=>Kw m|_=>0
def HS:Ua->Nat|.wk=>1|_=>0
def Q8:Tok->Nat|.ch _ m _=>HS m|_=>0
def L8:Ua->Nat|.wk|.hw=>1|_=>0
def T9:Tok->Nat|.ch _ m _=>L8 m|_=>0
def HR:Ua->Nat|.us=>1|_=>0
def Q7:Tok->Nat|.ch _ m _=>HR m|_=>0
def Kv:Ua->Nat|.uc=>1|_=>0
def SH:Tok->Nat|.ch _ m _=>Kv m|_=>0
def Qf:Pr->Nat|.work|.rel=>1|_=>0
def Vo:Tok->Nat|.ch _ _ g=>Qf g|_=>0
def OC:Pr->Nat|.l2=>1|_=>0
def UR:Tok->Nat|.ch _ _ g=>OC g|_=>0
def OB:Pr->Nat|.RK=>1|_=>0
def UQ:Tok->Nat|.ch _ _ g=>OB g|_=>0
def T8:Tok->Nat|.ch ..=>1|_=>0
def XH:Tok->Nat|.par ..=>1|_=>0
def We:Tok->Nat|.par _ p _=>p|_=>0
def VM:Tok->Nat|.par n _ _=>n|_=>0
def TD:Tok->Nat|.par _ _ .add=>1|_=>0
def T7:Tok->Nat|.par _ _ .w3=>1|_=>0
def VL:Tok->Nat|.par _ _ .w4|.par _ _ .SJ|.par _ _ .ZO=>1|_=>0
def OA:Ua->Nat
 | .idle=>20|.act false=>19|.act true=>18|.q=>12|.wk=>20|.hw=>19|.own=>14|.Yw _=>13|.fin=>12|.uc=>11|.us=>10|.done=>0
def Ku:Pr->Nat
 | .work=>6|.rel=>5|.l2=>4|.RK=>3|.gone=>0
def Nw:Qg->Nat
 | .add=>8|.w3=>6|.w4=>3|.SJ=>3|.ZO=>0
def TC (a:Nat):Tok->Nat
 | .nil=>0
 | .par n p b=>(a-n)*100+p*50+Nw b
 | .ch _ m w=>OA m+Ku w
def ZQ (N:Nat) (τ:Nat->Tok) (φ:Tok->Nat):Nat:=sumTo N λi=>φ (τ i)
theorem WN {N i:Nat} (τ:Nat->Tok) (t:Tok) (φ:Tok->Nat) (h:i<N):ZQ N (upd τ i t) φ+φ (τ i)=ZQ N τ φ+φ t:=sumTo_upd τ t φ h
theorem Xi {N i:Nat} (τ:Nat->Tok) (φ:Tok->Nat) (h:i<N):φ (τ i)<=ZQ N τ φ:=le_sumTo (f:=λi=>φ (τ i)) h
def XU (N:Nat) (o:Z') (τ:Nat->Tok):Nat:=ZQ N τ (TC o.top)+9*o.Yp+2*o.YK
structure Aw (a b c d e l f h i j g k m n:Nat):Prop where
 f1:a<=1
 f2:b<=1
 f3:c<=1
 Fq:l=a
 o2:c=0->f+e+h=b/\j=0/\d+k+e=i
 o1:c=1->b=0/\h=0/\a+f+e=1/\d=i+g
 o0:c=0->a=0->0<d->b=0->0<m
 oZ:k+g=f
 oY:j+n=g
structure Av (cnt wt a e f l2 b g h pend n add c d:Nat):Prop where
 f4:wt<=1
 SG:h=1
 HQ:cnt=pend+f
 Fp:g+pend=n
 oX:n<=e
 oW:add=1->wt=0/\a=0/\l2=0/\b=0
 Au:c=1->pend=0/\((wt=1/\b=0/\a=0/\((cnt=0/\l2=1)\/(0<cnt/\l2=0)))\/(wt=0/\cnt=0/\l2=0/\b+a=1))
 Fo:d=1->pend=0/\wt=0/\a=0/\cnt=0/\l2=0/\b=0
 oV:add+c+d=1
def RJ (N:Nat) (o:Z') (τ:Nat->Tok):Prop:=
 Aw o.YW o.wk o.sv o.nw o.Yp (ZQ N τ VN) (ZQ N τ SI) (ZQ N τ TE) (ZQ N τ T') (ZQ N τ S5) (ZQ N τ T9) (ZQ N τ Q7) (ZQ N τ SH) (ZQ N τ Q8)
def Sg (N:Nat) (o:Z') (τ:Nat->Tok):Prop:=
 Av o.cnt o.wt o.YK o.top (ZQ N τ Vo) (ZQ N τ UR) (ZQ N τ UQ) (ZQ N τ T8) (ZQ N τ XH) (ZQ N τ We) (ZQ N τ VM) (ZQ N τ TD) (ZQ N τ T7) (ZQ N τ VL)
def Pq (N:Nat) (o:Z') (τ:Nat->Tok):Prop:=RJ N o τ/\Sg N o τ
inductive Act:Z'->Tok->Z'->Tok->Prop where
 | As {o k}:o.YW=0->o.sv=0->o.wk=0->o.nw=0->Act o (.ch k .idle .work) {o with YW:=1} (.ch k .own .work)
 | Ar {o k}:Act o (.ch k .idle .work) o (.ch k (.act false) .work)
 | acq {o k a}:o.YW=0->o.sv=0->Act o (.ch k (.act a) .work) {o with YW:=1,wk:=if a then 0 else o.wk} (.ch k .own .work)
 | Aq {o k}:o.wk=0->0<o.nw->o.YW=1->o.sv=0->Act o (.ch k (.act false) .work) {o with wk:=1} (.ch k (.act true) .work)
 | queue {o k a} (st:Bool):(o.YW=1\/o.sv=1)->(st=true->a=true/\o.YW=1)->Act o (.ch k (.act a) .work) {o with nw:=o.nw+1,wk:=if a then 0 else o.wk,sv:=if st then 1 else o.sv} (.ch k .q .work)
 | take {o k}:0<o.Yp->Act o (.ch k .q .work) {o with Yp:=o.Yp-1} (.ch k .wk .work)
 | norm {o k}:o.sv=0->Act o (.ch k .wk .work) o (.ch k (.act true) .work)
 | hand {o k}:o.sv=1->Act o (.ch k .wk .work) o (.ch k .hw .work)
 | hacq {o k} (b:Bool):Act o (.ch k .hw .work) {o with YW:=1,nw:=o.nw-1,sv:=if b then 0 else 1} (.ch k .own .work)
 | Ap {o k}:o.sv=0->(o.nw=0\/o.wk=1)->Act o (.ch k .fin .work) {o with YW:=0} (.ch k .done .work)
 | Ao {o k}:o.sv=0->0<o.nw->o.wk=0->Act o (.ch k .fin .work) {o with YW:=0} (.ch k .uc .work)
 | An {o k}:o.sv=1->Act o (.ch k .fin .work) {o with YW:=0} (.ch k .us .work)
 | Am {o k}:o.YW=0->o.wk=0->o.sv=0->0<o.nw->Act o (.ch k .uc .work) {o with nw:=o.nw-1,wk:=1} (.ch k .us .work)
 | Al {o k}:(o.nw=0\/o.YW=1\/o.wk=1\/o.sv=1)->Act o (.ch k .uc .work) o (.ch k .done .work)
 | post {o k}:Act o (.ch k .us .work) {o with Yp:=o.Yp+1} (.ch k .done .work)
 | add {o n p}:n<o.top->Act o (.par n p .add) {o with cnt:=o.cnt+1} (.par (n+1) (p+1) .add)
 | thru {o n}:o.cnt=0->Act o (.par n 0 .add) o (.par n 0 .SJ)
 | Fl {o n}:0<o.cnt->Act o (.par n 0 .add) {o with wt:=1} (.par n 0 .w3)
 | wake {o n}:0<o.YK->Act o (.par n 0 .w3) {o with YK:=o.YK-1} (.par n 0 .w4)
 | Ak {o k m}:o.cnt=1->o.wt=1->Act o (.ch k m .rel) {o with cnt:=o.cnt-1} (.ch k m .l2)
 | Aj {o k m}:(1<o.cnt\/o.wt=0)->Act o (.ch k m .rel) {o with cnt:=o.cnt-1} (.ch k m .gone)
 | Ai {o k m}:Act o (.ch k m .l2) {o with wt:=0} (.ch k m .RK)
 | Ah {o k m}:Act o (.ch k m .RK) {o with YK:=o.YK+1} (.ch k m .gone)
inductive RI:Z'->Tok->Z'->Tok->Prop where
 | HP {o k}:RI o (.ch k .own .work) o (.ch k (.Yw o.L) .work)
 | Ag {o k L}:RI o (.ch k (.Yw L) .work) {o with L:=o.L++[k]} (.ch k .fin .work)
 | Af {o k m}:(m=.done\/(m=.idle/\o.ZK=none))->RI o (.ch k m .work) {o with R:=k::o.R} (.ch k m .rel)
 | gtake {o n a}:(a=.SJ\/a=.w4)->RI o (.par n 0 a) o (.par n 0 .ZO)
section
variable {N i:Nat} {o o':Z'} {τ:Nat->Tok} {t t':Tok}
theorem RH {φ:Tok->Nat} (a:∀t,XH t=0->φ t=0) (h:ZQ N τ XH=1) (hi:i<N) (c:XH (τ i)=1):ZQ N τ φ=φ (τ i):=by
 have e:=WN τ .nil XH hi
 have d:=WN τ .nil φ hi
 have z:XH .nil=0:=rfl;rw[h,c,z] at e;rw[a .nil U] at d;have f:ZQ N (upd τ i .nil) XH=0:=J;have:ZQ N (upd τ i .nil) φ=0:=by
  have g:∀n,ZQ n (upd τ i .nil) XH=0->ZQ n (upd τ i .nil) φ=0:=λn=>by
   induction n with
   | zero=>exact λ_=>rfl
   | succ n b=>
    intro j;simp only[ZQ,sumTo] at j b ⊢;have:=b J;have:=a (upd τ i .nil n) J;omega
  exact g N f
 omega
theorem Ae (h:RJ N o τ) (hi:i<N) (b:τ i=t) (c:Act o t o' t'):RJ N o' (upd τ i t'):=by
 unfold RJ at h ⊢;have d:=WN τ t' VN hi;have e:=Xi τ VN hi;have f:=WN τ t' SI hi;have l1:=Xi τ SI hi;have Ρ:=WN τ t' TE hi;have l2:=Xi τ TE hi;have g:=WN τ t' T' hi;have j:=Xi τ T' hi;have k:=WN τ t' S5 hi;have l:=Xi τ S5 hi;have m:=WN τ t' T9 hi;have n:=Xi τ T9 hi;have p:=WN τ t' Q7 hi;have r:=Xi τ Q7 hi;have s:=WN τ t' SH hi;have u:=Xi τ SH hi;have v:=WN τ t' Q8 hi;have w:=Xi τ Q8 hi;rw[b] at v w d e f l1 Ρ l2 g j k l m n p r s u;generalize ZQ N (upd τ i t') VN=y at *;generalize ZQ N τ VN=A at *;generalize ZQ N (upd τ i t') SI=B at *;generalize ZQ N τ SI=C at *;generalize ZQ N (upd τ i t') TE=D at *;generalize ZQ N τ TE=E at *;generalize ZQ N (upd τ i t') T'=F at *;generalize ZQ N τ T'=H at *;generalize ZQ N (upd τ i t') S5=I at *;generalize ZQ N τ S5=J at *;generalize ZQ N (upd τ i t') T9=K at *;generalize ZQ N τ T9=M at *;generalize ZQ N (upd τ i t') Q7=O at *;generalize ZQ N τ Q7=P at *;generalize ZQ N (upd τ i t') SH=Q at *;generalize ZQ N τ SH=S at *;generalize ZQ N (upd τ i t') Q8=T at *;generalize ZQ N τ Q8=U at *;clear b hi;obtain⟨⟨V,W,X,Y⟩,Z,aa,ab,ad,ae,L,cnt,wt,af,R⟩:=o;obtain⟨ag,ah,ai,aj,ak,al,am,an,ao⟩:=h;cases c<;>simp only[VN,SI,TE,T',S5,T9,Q7,SH,Q8,HS,L',Kx,OD,L9,Kw,L8,HR,Kv,Nat.add_zero,US] at *
 case acq a _ _=>cases a<;>simp only[OD,if_true,if_false,WX] at *<;>constructor<;>omega
 case queue a st _ ap=>
  cases a<;>cases st<;>simp only[OD,if_true,if_false,WX,false_and,true_and,imp_false,not_true_eq_false,forall_const] at *<;>constructor<;>omega
 case hacq x=>cases x<;>simp only[if_true,if_false,WX] at *<;>constructor<;>omega
 all_goals (constructor<;>omega)
theorem Ad (h:Sg N o τ) (hi:i<N) (a:τ i=t) (c:Act o t o' t'):Sg N o' (upd τ i t'):=by
 unfold Sg at h ⊢;have A:XH t=1->ZQ N τ VM=VM t:=λb=>by rw[RH (λt a=>by cases t<;>simp_all [XH,VM]) h.SG hi (by rw[a];exact b),a]
 have B:XH t=1->ZQ N τ We=We t:=λb=>by rw[RH (λt a=>by cases t<;>simp_all [XH,We]) h.SG hi (by rw[a];exact b),a]
 have d:=WN τ t' Vo hi;have e:=Xi τ Vo hi
 have f:=WN τ t' UR hi;have l1:=Xi τ UR hi
 have Ρ:=WN τ t' UQ hi;have l2:=Xi τ UQ hi
 have g:=WN τ t' T8 hi;have j:=Xi τ T8 hi
 have k:=WN τ t' XH hi;have l:=Xi τ XH hi
 have m:=WN τ t' We hi;have n:=Xi τ We hi
 have p:=WN τ t' VM hi;have r:=Xi τ VM hi
 have s:=WN τ t' TD hi;have u:=Xi τ TD hi
 have v:=WN τ t' T7 hi;have w:=Xi τ T7 hi
 have x:=WN τ t' VL hi;have y:=Xi τ VL hi;rw[a] at d e f l1 Ρ l2 g j k l m n p r s u v w x y;generalize ZQ N (upd τ i t') Vo=C at *;generalize ZQ N τ Vo=D at *;generalize ZQ N (upd τ i t') UR=E at *;generalize ZQ N τ UR=F at *;generalize ZQ N (upd τ i t') UQ=H at *;generalize ZQ N τ UQ=I at *;generalize ZQ N (upd τ i t') T8=J at *;generalize ZQ N τ T8=K at *;generalize ZQ N (upd τ i t') XH=M at *;generalize ZQ N τ XH=O at *;generalize ZQ N (upd τ i t') We=P at *;generalize ZQ N τ We=Q at *;generalize ZQ N (upd τ i t') VM=S at *;generalize ZQ N τ VM=T at *;generalize ZQ N (upd τ i t') TD=U at *;generalize ZQ N τ TD=V at *;generalize ZQ N (upd τ i t') T7=W at *;generalize ZQ N τ T7=X at *;generalize ZQ N (upd τ i t') VL=Y at *;generalize ZQ N τ VL=Z at *;clear a hi;obtain⟨⟨aa,ab,ad,ae⟩,af,ag,ah,ai,aj,L,cnt,wt,ak,R⟩:=o;obtain⟨al,am,an,ao,ap,aq,ar,au,av⟩:=h;cases c<;>simp only[Vo,UR,UQ,T8,XH,We,VM,TD,T7,VL,Qf,OC,OB,Nat.add_zero,US,forall_const] at *
 all_goals (constructor<;>omega)
end
section
variable {N i:Nat} {o o':Z'} {τ:Nat->Tok} {t t':Tok}
theorem Fj (o':Z') (a:o'.top=o.top) (hi:i<N) (b:τ i=t) (h:TC o.top t'+9*o'.Yp+2*o'.YK<TC o.top t+9*o.Yp+2*o.YK):XU N o' (upd τ i t')<XU N o τ:=by
 have e:=WN τ t' (TC o.top) hi;rw[b] at e;unfold XU;rw[a];omega
theorem Fi (hi:i<N) (b:τ i=t) (c:Act o t o' t'):XU N o' (upd τ i t')<XU N o τ:=by
 cases c<;>refine Fj _ U hi b ?_
 case acq a _ _=>cases a<;>simp[TC,OA]
 case queue a _ _ _=>cases a<;>simp[TC,OA]
 case take=>simp[TC,OA];omega
 case add=>simp[TC];omega
 case wake=>simp[TC,Nw];omega
 all_goals (simp[TC,OA,Ku,Nw]<;>omega)
theorem Kt (hi:i<N) (a:τ i=t) (b:RI o t o' t'):XU N o' (upd τ i t')<XU N o τ:=by
 cases b<;>refine Fj _ U hi a ?_
 case gtake d c=>rcases c with rfl|rfl<;>simp[TC,Nw]
 all_goals (simp[TC,OA,Ku,Nw]<;>omega)
theorem HO {φ:Tok->Nat} (hi:i<N) (h:φ t'=φ (τ i)):ZQ N (upd τ i t') φ=ZQ N τ φ:=by
 have:=WN τ t' φ hi;omega
theorem Ks (h:RJ N o τ) (hi:i<N) (a:τ i=t) (b:RI o t o' t'):RJ N o' (upd τ i t'):=by
 unfold RJ at h ⊢;cases b<;>
 (repeat rw[HO hi (by rw[a];rfl)])<;>exact h
theorem Kr (h:Sg N o τ) (hi:i<N) (a:τ i=t) (b:RI o t o' t'):Sg N o' (upd τ i t'):=by
 unfold Sg at h ⊢;cases b
 case gtake d c=>rcases c with rfl|rfl<;>(repeat rw[HO hi (by rw[a];rfl)])<;>exact h
 all_goals (repeat rw[HO hi (by rw[a];rfl)])<;>exact h
theorem Oz (N:Nat) (τ:Nat->Tok) (φ:Tok->Nat):ZQ (N+1) τ φ=ZQ N τ φ+φ (τ N):=rfl
theorem Fh {φ:Tok->Nat} (a:φ .nil=0) (h:τ N=.nil):ZQ (N+1) τ φ=ZQ N τ φ:=by rw[Oz,h,a];rfl
theorem Fg (h:Pq N o τ) (a:τ N=.nil):Pq (N+1) o τ:=by
 unfold Pq RJ Sg at h ⊢
 repeat rw[Fh (by rfl) a]
 exact h
theorem Ff (a:τ N=.nil):XU (N+1) o τ=XU N o τ:=by
 unfold XU;rw[Fh (by rfl) a]
theorem Ac {j n p:Nat} (h:Pq N o τ) (hi:i<N) (d:j<N) (e:i≠j) (f:τ i=.par n (p+1) .add) (g:τ j=.nil) (k:Nat) :
  Pq N o (upd (upd τ i (.par n p .add)) j (.ch k .idle .work)):=by
 have l:upd τ i (.par n p .add) j=.nil:=by rw[upd_ne _ _ (YF e)];exact g
 have a:∀φ:Tok->Nat,ZQ N (upd (upd τ i (.par n p .add)) j (.ch k .idle .work)) φ+φ .nil+φ (.par n (p+1) .add)=ZQ N τ φ+φ (.par n p .add)+φ (.ch k .idle .work):=λφ=>by
  have m:=WN τ (.par n p .add) φ hi
  have Ρ:=WN (upd τ i (.par n p .add)) (.ch k .idle .work) φ d;rw[f] at m;rw[l] at Ρ;omega
 obtain⟨b,c⟩:=h;constructor
 .unfold RJ at b ⊢;have f1:=a VN;have f2:=a SI;have f3:=a TE;have f4:=a T';have f5:=a S5;have f6:=a T9;have f7:=a Q7;have f8:=a SH;have f9:=a Q8;simp only[VN,SI,TE,T',S5,T9,Q7,SH,Q8,L',Kx,OD,L9,Kw,L8,HR,Kv,HS,Nat.add_zero] at f1 f2 f3 f4 f5 f6 f7 f8 f9;rw[f1,f2,f3,f4,f5,f6,f7,f8,f9];exact b
 .unfold Sg at c ⊢;have f1:=a Vo;have f2:=a UR;have f3:=a UQ;have f4:=a T8;have f5:=a XH;have f6:=a We;have f7:=a VM;have f8:=a TD;have f9:=a T7;have f10:=a VL;simp only[Vo,UR,UQ,T8,XH,We,VM,TD,T7,VL,Qf,OC,OB,Nat.add_zero] at f1 f2 f3 f4 f5 f6 f7 f8 f9 f10;obtain⟨r,s,t,u,v,w,x,y,A⟩:=c;constructor<;>omega
theorem Ab {j n p:Nat} (hi:i<N) (b:j<N) (c:i≠j) (d:τ i=.par n (p+1) .add) (e:τ j=.nil) (k:Nat) :
  XU N o (upd (upd τ i (.par n p .add)) j (.ch k .idle .work))<XU N o τ:=by
 have f:upd τ i (.par n p .add) j=.nil:=by rw[upd_ne _ _ (YF c)];exact e
 have a:=WN τ (.par n p .add) (TC o.top) hi
 have Ρ:=WN (upd τ i (.par n p .add)) (.ch k .idle .work) (TC o.top) b;rw[d] at a;rw[f] at Ρ;simp only[TC,OA,Ku,Nw] at a Ρ;unfold XU;omega
theorem Kq {φ:Tok->Nat} (h:0<ZQ N τ φ):∃i,i<N/\0<φ (τ i):=by
 have a:∀n,0<ZQ n τ φ->∃i,i<n/\0<φ (τ i):=λn=>by
  induction n with
  | zero=>intro h;cases h
  | succ n b=>
   intro h;rw[Oz] at h;by_cases c:0<φ (τ n)
   .exact⟨n,J,c⟩
   .obtain⟨i,hi,d⟩:=b J;exact⟨i,J,d⟩
 exact a N h
def Sf:Tok->Prop
 | .ch _ .own _|.ch _ (.Yw _) _|.ch _ .fin _|.ch _ .us _|.ch _ .wk _|.ch _ .hw _|.ch _ (.act true) _|.ch _ .uc _=>True
 | _=>False
theorem Aa (h:RJ N o τ) (x:0<ZQ N τ T') (y:o.Yp=0):∃i,i<N/\Sf (τ i):=by
 have pick:∀{φ:Tok->Nat},(∀t,0<φ t->Sf t)->0<ZQ N τ φ->∃i,i<N/\Sf (τ i):=λd e=>let ⟨i,hi,f⟩:=Kq e;⟨i,hi,d _ f⟩
 have g:∀t,0<VN t->Sf t:=λt c=>by cases t<;>simp_all [VN,Sf];rename_i m _;cases m<;>simp_all [L']
 have j:∀t,0<SI t->Sf t:=λt c=>by cases t<;>simp_all [SI,Sf];rename_i m _;cases m<;>simp_all [Kx]
 have k:∀t,0<TE t->Sf t:=λt c=>by cases t<;>simp_all [TE,Sf];rename_i m _;cases m<;>simp_all [OD];rename_i b;cases b<;>simp_all [OD]
 have l:∀t,0<SH t->Sf t:=λt c=>by cases t<;>simp_all [SH,Sf];rename_i m _;cases m<;>simp_all [Kv]
 obtain⟨f1,f2,f3,A,n,p,r,B,C⟩:=h;by_cases s:0<ZQ N τ VN
 .exact pick g s
 by_cases u:0<ZQ N τ SI
 .exact pick j u
 by_cases v:0<ZQ N τ TE
 .exact pick k v
 by_cases w:0<ZQ N τ SH
 .exact pick l w
 exfalso;rcases(show o.sv=0\/o.sv=1 by omega) with a|a
 .have:=n a;have:=r a;omega
 .have:=p a;omega
def Q6:Tok->Prop
 | .ch _ _ .work|.ch _ _ .rel|.ch _ _ .l2|.ch _ _ .RK=>True
 | _=>False
theorem z' (h:Sg N o τ) {n p:Nat} (hi:i<N) (a:τ i=.par n p .w3) (s:o.YK=0):∃j,j<N/\Q6 (τ j):=by
 have pick:∀{φ:Tok->Nat},(∀t,0<φ t->Q6 t)->0<ZQ N τ φ->∃i,i<N/\Q6 (τ i):=λb c=>let ⟨i,hi,d⟩:=Kq c;⟨i,hi,b _ d⟩
 have e:∀t,0<Vo t->Q6 t:=λt a=>by cases t<;>simp_all [Vo,Q6];rename_i m;cases m<;>simp_all [Qf]
 have f:∀t,0<UR t->Q6 t:=λt a=>by cases t<;>simp_all [UR,Q6];rename_i m;cases m<;>simp_all [OC]
 have g:∀t,0<UQ t->Q6 t:=λt a=>by cases t<;>simp_all [UQ,Q6];rename_i m;cases m<;>simp_all [OB]
 have w:=RH (φ:=T7) (λt a=>by cases t<;>simp_all [XH,T7]) h.SG hi (by rw[a];rfl);rw[a] at w;have:=h.Au w;have:=h.HQ;by_cases k:0<ZQ N τ Vo
 .exact pick e k
 by_cases l:0<ZQ N τ UR
 .exact pick f l
 by_cases r:0<ZQ N τ UQ
 .exact pick g r
 exfalso;omega
end
end Go.TL
namespace Go.TL
open Go.Conc
open Go.ConcM (OsLater)
open Go.ConcN (sumTo upd sumTo_upd upd_ne upd_same sumTo_congr le_sumTo)
open Go.ConcR (mk)
inductive WV (B:Type):Type where
 | leaf
 | node (f:B->WV B)
inductive S4 {B:Type}:List (WV B)->List (WV B)->Prop where
 | one (a b:List (WV B)) (f:B->WV B) (k:B):S4 (a++f k::b) (a++WV.node f::b)
 | two (a b:List (WV B)) (f:B->WV B) (k c:B):S4 (a++f k::f c::b) (a++WV.node f::b)
theorem S4.cons_inv {B:Type} {l:List (WV B)} {t:WV B} {m:List (WV B)} (h:S4 m (t::l)) :
  (∃e,S4 e l/\m=t::e)\/(∃f k,t=.node f/\m=f k::l)\/(∃f k d,t=.node f/\m=f k::f d::l):=by
 generalize c:t::l=x at h;cases h with
 | one a b f k=>
  cases a with
  | nil=>simp at c;exact .inr (.inl ⟨f,k,c.1,by rw[c.2];rfl⟩)
  | cons y a=>simp at c;exact .inl ⟨a++f k::b,by rw[c.2];exact .one a b f k,by rw[c.1];rfl⟩
 | two a b f k d=>
  cases a with
  | nil=>simp at c;exact .inr (.inr ⟨f,k,d,c.1,by rw[c.2];rfl⟩)
  | cons y a=>simp at c;exact .inl ⟨a++f k::f d::b,by rw[c.2];exact .two a b f k d,by rw[c.1];rfl⟩
theorem S4.z9 {B:Type} (t:WV B):∀l,Acc S4 l->Acc S4 (t::l):=by
 induction t with
 | leaf=>
  intro l a
  induction a with
  | intro l _ b=>
   refine⟨_,λm c=>?_⟩;rcases c.cons_inv with⟨d,e,rfl⟩|⟨f,k,h,_⟩|⟨f,k,i,h,_⟩
   .exact b d e
   .cases h
   .cases h
 | node f g=>
  intro l a
  induction a with
  | intro l j b=>
   refine⟨_,λm c=>?_⟩;rcases c.cons_inv with⟨d,e,rfl⟩|⟨f',k,h,rfl⟩|⟨f',k,i,h,rfl⟩
   .exact b d e
   .cases h;exact g k l ⟨l,j⟩
   .cases h;exact g k _ (g i l ⟨l,j⟩)
theorem S4.wf {B:Type}:WellFounded (S4 (B:=B)):=⟨λl=>by
 induction l with
 | nil=>exact⟨_,λm a=>by
   generalize b:([]:List (WV B))=x at a;cases a<;>simp at b⟩
 | cons t l c=>exact S4.z9 t l c⟩
structure ZU where
 G:Τ
 Z4:Nat->Option (ζ×TypeId)
 tok:Nat->Tok
 spec:Nat->Option Spec
 view:Nat->Option (Nat×Z')
 deaf:Nat
 rel:Bool
def L7 (V:Nat->Option (ζ×TypeId)) (w:World):Prop:=∀b c t,V b=some (c,t)->w.heap[b]?=some (.cells c t (0,0))
def YN (o:Z'):Int:=(o.cnt:Int)*4294967296+o.wt
def mwd (o:Z'):Int:=(o.YW:Int)+2*o.wk+4*o.sv+8*o.nw
def At (s:Nat) (o:Z') (w:World):Prop:=
 (∃a,w.heap[s]?=some (.cells #[.int .u64 (YN o),.int .u32 o.YK] a (0,0)))/\∀m,o.ZK=some m->∃a,w.heap[m]?=some (.cells #[.int .i32 (mwd o),.int .u32 o.Yp] a (0,0))
def X1 (s:Nat) (sp:Spec) (b:Nat):Prop:=b=s\/sp.ZK=some b
def Oy (o:Z') (t:Tok):Prop:=∃N τ i,Pq N o τ/\i<N/\τ i=t/\(∀k L g,t=.ch k (.Yw L) g->o.L=L)
def HN (x:ZU) (s φ:Nat) (o:Z'):Prop:=∀a b,x.view s=some (a,b)->φ<=a/\(φ=a->o=b)
structure Sub (G' G:Τ):Prop where
 η:∀b o v p,G'.η b o=some (v,p)->∃a,G.η b o=some (v,a)/\(p=true->a=true)
 row:∀b x,G'.row b=some x->G.row b=some x
 obj:∀b x,G'.obj b=some x->G.obj b=some x
structure Split (G a b:Τ):Prop where
 l:Sub a G
 r:Sub b G
 apart:Apart a b
def join (G H:Τ):Τ:=
 ⟨λb o=>match G.η b o with|some x=>some x|none=>H.η b o,λb=>match G.row b with|some x=>some x|none=>H.row b,λb=>match G.obj b with|some x=>some x|none=>H.obj b⟩
def T6 (c:Nat->Τ->Prop):ο->Τ->Prop
 | [],E=>E=Τ.empty
 | k::d,E=>∃a b,c k a/\T6 c d b/\Apart a b/\E=join a b
structure Kp (G G':Τ) (n:Nat):Prop where
 η:∀b o v p,G'.η b o=some (v,p)->n<=b\/∃c a,G.η b o=some (c,a)/\(p=true->a=true)
 obj:∀b,G'.Xt b->n<=b\/G.Xt b
def HM (V:Nat->Option (ζ×TypeId)) (V':Nat->Option (ζ×TypeId)) (G':Τ) (n:Nat):Prop:=
 ∀b c,V' b=some c->V b=some c\/(n<=b/\G'.off b)
def Ko (e:Event):Prop:=e.loc=.output\/e.loc=.mark .noRoom
def Se (s:Nat) (sp:Spec) (d:Nat) (es:Array Event):Prop:=
 deafBehind d es=d/\∀j e,es[j]?=some e->(e.loc=.mark .disable\/e.loc=.mark .enable\/(∃b a wr,e=⟨.cell ⟨b,a,none⟩,wr,true⟩/\X1 s sp b/\0<deafBehind d (es.extract 0 j)))
def UP (o:Z'):Tok->Prop
 | .ch _ .q _=>o.Yp=0
 | .par _ _ .w3=>o.YK=0
 | _=>False
def S3:Tok->Prop
 | .nil=>True
 | .par _ _ .add|.par _ _ .ZO=>True
 | .ch _ .idle _|.ch _ .done _=>True
 | _=>False
def WY:Tok->Prop
 | .nil=>True
 | .par _ _ .ZO=>True
 | _=>False
def Gone:Tok->Prop
 | .nil=>True
 | .par _ _ .ZO=>True
 | .ch _ _ .gone=>True
 | _=>False
abbrev L6:=Bool->Goroutine->ZU->Prop
def Vy (g:Goroutine):Prop:=g.status=.running/\g.offers=none
section
variable (P:Program) (mn:Bool) (R:L6) (g:Goroutine) (x:ZU)
def Fe:Prop:=∀w,Fits x.G w->L7 x.Z4 w->(stepG P mn g w).goes λg' w' es=>∃G' V',Vy g'/\Xd x.G.owns x.G.Xt w w'/\Fits G' w'/\L7 V' w'/\
 Kp x.G G' w.heap.size/\HM x.Z4 V' G' w.heap.size/\(∀e∈es,if x.rel then Ko e else Wf x.G w.heap.size w'.heap.size e)/\(∀b c,V' b=some c->w.heap.size<=b->∀e∈es,¬SK e.loc b)/\R mn g' {x with G:=G',Z4:=V'}
def Fc:Prop:=∃g',Vy g'/\((∀w,Fits x.G w->stepG P mn g w=.go g' w #[mk .disable]/\R mn g' {x with deaf:=x.deaf+1})\/
 (0<x.deaf/\∀w,Fits x.G w->stepG P mn g w=.go g' w #[mk .enable]/\R mn g' {x with deaf:=x.deaf-1}))
def Fb:Prop:=∃(s n p:Nat) (a:Qg) (g':Goroutine) (b:Nat) (wr:Bool),x.tok s=.par n p a/\a≠.ZO/\x.rel=false/\Vy g'/\∀w,Fits x.G w->stepG P mn g w=.go g' w #[mk (if wr then .write ⟨s,b,none⟩ else .read ⟨s,b,none⟩)]/\R mn g' x
def Atom:Prop:=∃s sp,x.spec s=some sp/\¬WY (x.tok s)/\∀w φ o,Fits x.G w->L7 x.Z4 w->o.toSpec=sp->At s o w->HN x s φ o->Oy o (x.tok s)->
 ((stepG P mn g w).goes λg' w' es=>Vy g'/\Xd (λb _=>X1 s sp b) (λ_=>False) w w'/\Se s sp x.deaf es/\
   ((At s o w'/\R mn g' {x with view:=upd x.view s (some (φ,o))})\/
    ∃o' t',Act o (x.tok s) o' t'/\At s o' w'/\(mayWake P g=true\/o'=o)/\∀a,a<φ->R mn g' {x with tok:=upd x.tok s t',view:=upd x.view s (some (a,o'))}))\/
 (UP o (x.tok s)/\(∀c,c≠s->S3 (x.tok c))/\stepG P mn g w=.go {g with status:=.blocked} w #[])
def Fa:Prop:=∃s sp m k g',x.spec s=some sp/\sp.ZK=some m/\x.tok s=.ch k .own .work/\x.deaf=0/\Vy g'/\x.rel=false/\
 (∀w,Fits x.G w->stepG P mn g w=.go g' w #[mk (.acquire ⟨m,0,none⟩)])/\
 ∀L E,sp.XI L E->Apart x.G E->(L.Nodup/\k∉L/\∃w,Fits x.G w/\Fits E w)->R mn g' {x with G:=join x.G E,tok:=upd x.tok s (.ch k (.Yw L) .work),view:=upd x.view s none}
def E9:Prop:=∃s sp m k L g' G' E,x.spec s=some sp/\sp.ZK=some m/\x.tok s=.ch k (.Yw L) .work/\x.deaf=0/\Vy g'/\x.rel=false/\
 (∀w,Fits x.G w->stepG P mn g w=.go g' w #[mk (.releaseMerge ⟨m,0,none⟩)])/\
 Split x.G G' E/\sp.XI (L++[k]) E/\R mn g' {x with G:=G',tok:=upd x.tok s (.ch k .fin .work),view:=upd x.view s none}
def E8:Prop:=∃s sp k a g' E,x.spec s=some sp/\x.tok s=.ch k a .work/\(a=.done\/(a=.idle/\sp.ZK=none))/\(∀b,b≠s->WY (x.tok b))/\x.deaf=0/\Vy g'/\x.rel=false/\
 (∀w,Fits x.G w->stepG P mn g w=.go g' w #[mk (.releaseMerge ⟨s,0,none⟩)])/\
 Sub E x.G/\sp.D k E/\R mn g' {x with G:=Τ.empty,Z4:=λ_=>none,tok:=upd x.tok s (.ch k a .rel),view:=upd x.view s none,rel:=true}
def E7:Prop:=∃s sp n c g',x.spec s=some sp/\x.tok s=.par n 0 c/\(c=.SJ\/c=.w4)/\x.deaf=0/\Vy g'/\x.rel=false/\
 (∀w,Fits x.G w->stepG P mn g w=.go g' w #[mk (.acquire ⟨s,0,none⟩)])/\
 ∀d e b a,d.Perm (List.range n)->T6 sp.D d b->(sp.ZK≠none->e.Perm (List.range n)/\sp.XI e a)->(sp.ZK=none->a=Τ.empty)->Apart x.G b->Apart x.G a->Apart b a->(∃w,Fits x.G w/\Fits b w/\Fits a w)->
  R mn g' {x with G:=join (join x.G b) a,tok:=upd x.tok s (.par n 0 .ZO),view:=upd x.view s none}
def E6:Prop:=∃s sp n p g' c a b,x.spec s=some sp/\x.tok s=.par n (p+1) .add/\x.deaf=0/\Vy g'/\Vy c/\x.rel=false/\
 (∀w,Fits x.G w->stepG P mn g w=.spawn g' c w #[])/\Split x.G a b/\
 R mn g' {x with G:=a,tok:=upd x.tok s (.par n p .add),view:=upd x.view s none}/\
 R false c ⟨b,λ_=>none,upd (λ_=>.nil) s (.ch (n-(p+1)) .idle .work),upd (λ_=>none) s (some sp),λ_=>none,0,false⟩
def HL:Prop:=
 (∃G',Sub G' x.G/\R mn g {x with G:=G'})\/
 (∃b c t,x.Z4 b=some (c,t)/\R mn g {x with Z4:=upd x.Z4 b none,G:=⟨λa o=>if a=b then(c[o]?).map (·,true) else x.G.η a o,λa=>if a=b then some (t,c.size) else x.G.row a,x.G.obj⟩})\/
 (∃s sp d G' E,x.Z4 s=some (#[.int .u64 0,.int .u32 0],d)/\(∀m,sp.ZK=some m->m≠s/\∃e,x.Z4 m=some (#[.int .i32 0,.int .u32 0],e))/\x.rel=false/\
  Split x.G G' E/\(sp.ZK≠none->sp.XI [] E)/\
  R mn g {x with G:=G',Z4:=λb=>if b=s\/sp.ZK=some b then none else x.Z4 b,tok:=upd x.tok s (.par 0 0 .add),spec:=upd x.spec s (some sp),view:=upd x.view s none})
def E5:Prop:=mn=false/\g.status=.running/\x.rel=true/\(∀s,Gone (x.tok s))/\∃g' es,(∀e∈es,Event.mute e=true)/\(∀w,stepG P false g w=.go g' w es)/\R mn g' {x with deaf:=deafBehind x.deaf es}
def L5:Prop:=E5 P mn R g x\/Vy g/\(Fe P mn R g x\/Fc P mn R g x\/Fb P mn R g x\/Atom P mn R g x\/Fa P mn R g x\/E9 P mn R g x\/E8 P mn R g x\/E7 P mn R g x\/E6 P mn R g x\/HL mn R g x)
def E4 (a:Value->Prop):Prop:=Vy g/\(∀s,WY (x.tok s))/\x.deaf=0/\∀w,Fits x.G w->∃v es,stepG P true g w=.ended (.done v) w es/\(∀e∈es,Wf x.G w.heap.size w.heap.size e)/\a v
def z8:Prop:=x.rel=true/\(∀s,Gone (x.tok s))/\g.status=.finished/\x.deaf=0
def Kn (a:Value->Prop):Prop:=(mn=true/\E4 P g x a)\/(mn=false/\z8 g x)
def L4:Prop:=x.rel=true->(∀s,Gone (x.tok s))->∃n,QuitsD P n x.deaf g
end
open Classical in
def U' (P:Program) (a:Value->Prop):WV (Bool×Goroutine×ZU)->L6
 | .leaf=>λmn g x=>L4 P g x/\Kn P mn g x a
 | .node f=>λmn g x=>L4 P g x/\(Kn P mn g x a\/L5 P mn (λb g' c=>U' P a (f (b,g',c)) b g' c) g x)
def Goes (P:Program) (a:Value->Prop):L6:=λmn g x=>∃T,U' P a T mn g x
theorem L5.mono {P:Program} {mn:Bool} {R K:L6} {g:Goroutine} {x:ZU} (v:∀mn g x,R mn g x->K mn g x) (h:L5 P mn R g x):L5 P mn K g x:=by
 rcases h with⟨M,Ρ,N,O,g',es,Q,S,T⟩|⟨U,h⟩
 .exact .inl ⟨M,Ρ,N,O,g',es,Q,S,v _ _ _ T⟩
 refine .inr ⟨U,?_⟩;rcases h with h|h|h|h|h|h|h|h|h|h
 .refine .inl λw B hv=>?_;have:=h w B hv;revert this;cases stepG P mn g w<;>simp only[GStep.goes,imp_self];rintro⟨G',V',j,l,r,u,y,C,A,V,D⟩;exact⟨G',V',j,l,r,u,y,C,A,V,v _ _ _ D⟩
 .obtain⟨g',j,l⟩:=h;exact .inr (.inl ⟨g',j,l.elim (λh=>.inl λw B=>⟨(h w B).1,v _ _ _ (h w B).2⟩) (λh=>.inr ⟨h.1,λw B=>⟨(h.2 w B).1,v _ _ _ (h.2 w B).2⟩⟩)⟩)
 .obtain⟨s,n,p,I,g',W,wr,j,l,J,r,u⟩:=h;exact .inr (.inr (.inl ⟨s,n,p,I,g',W,wr,j,l,J,r,λw B=>⟨(u w B).1,v _ _ _ (u w B).2⟩⟩))
 .obtain⟨s,sp,j,J,r⟩:=h;refine .inr (.inr (.inr (.inl ⟨s,sp,j,J,λw φ o B hv X Y Z aa=>?_⟩)));refine(r w φ o B hv X Y Z aa).imp (λh=>?_) id;revert h;cases stepG P mn g w<;>simp only[GStep.goes,imp_self];rintro⟨j,l,r,u⟩;exact⟨j,l,r,u.imp (λh=>⟨h.1,v _ _ _ h.2⟩) λ⟨o',t',ab,ad,ae,af⟩=>⟨o',t',ab,ad,ae,λag ah=>v _ _ _ (af ag ah)⟩⟩
 .obtain⟨s,sp,m,k,g',j,l,r,u,y,F,C,A⟩:=h;exact .inr (.inr (.inr (.inr (.inl ⟨s,sp,m,k,g',j,l,r,u,y,F,C,λL E a b c=>v _ _ _ (A L E a b c)⟩))))
 .obtain⟨s,sp,m,k,L,g',G',E,j,l,r,u,y,F,C,A,D,H⟩:=h;exact .inr (.inr (.inr (.inr (.inr (.inl ⟨s,sp,m,k,L,g',G',E,j,l,r,u,y,F,C,A,D,v _ _ _ H⟩)))))
 .obtain⟨s,sp,k,ai,g',E,j,l,r,u,y,C,aj,A,D,H,ak⟩:=h;exact .inr (.inr (.inr (.inr (.inr (.inr (.inl ⟨s,sp,k,ai,g',E,j,l,r,u,y,C,aj,A,D,H,v _ _ _ ak⟩))))))
 .obtain⟨s,sp,n,I,g',j,l,r,u,y,F,C,A⟩:=h;exact .inr (.inr (.inr (.inr (.inr (.inr (.inr (.inl ⟨s,sp,n,I,g',j,l,r,u,y,F,C,λal am an ao a b c d e f g i=>v _ _ _ (A al am an ao a b c d e f g i)⟩)))))))
 .obtain⟨s,sp,n,p,g',c,ap,aq,j,l,r,u,y,F,C,A,D,H⟩:=h;exact .inr (.inr (.inr (.inr (.inr (.inr (.inr (.inr (.inl ⟨s,sp,n,p,g',c,ap,aq,j,l,r,u,y,F,C,A,v _ _ _ D,v _ _ _ H⟩))))))))
 .refine .inr (.inr (.inr (.inr (.inr (.inr (.inr (.inr (.inr ?_))))))));rcases h with⟨G',j,l⟩|⟨b,c,t,j,l⟩|⟨s,sp,ar,G',E,j,l,r,u,y,A⟩
  .exact .inl ⟨G',j,v _ _ _ l⟩
  .exact .inr (.inl ⟨b,c,t,j,v _ _ _ l⟩)
  .exact .inr (.inr ⟨s,sp,ar,G',E,j,l,r,u,y,v _ _ _ A⟩)
theorem Goes.stop {P:Program} {a:Value->Prop} {mn:Bool} {g:Goroutine} {x:ZU} (b:L4 P g x) (h:Kn P mn g x a):Goes P a mn g x:=⟨.leaf,b,h⟩
open Classical in
theorem Goes.step {P:Program} {a:Value->Prop} {mn:Bool} {g:Goroutine} {x:ZU} (c:L4 P g x) (h:L5 P mn (Goes P a) g x):Goes P a mn g x:=by
 refine⟨.node λk=>if b:∃T,U' P a T k.1 k.2.1 k.2.2 then Classical.choose b else .leaf,c,.inr (h.mono λd g' e f=>?_)⟩;have b:∃T,U' P a T d g' e:=f;simp only[b,dif_pos];exact Classical.choose_spec b
theorem Goes.quits {P:Program} {i:Value->Prop} (n:Nat):∀{g:Goroutine} {x:ZU},x.rel=true->(∀s,Gone (x.tok s))->QuitsD P n x.deaf g->Goes P i false g x:=by
 induction n with
 | zero=>
  intro g x b c a;exact .stop (λ_ _=>⟨0,a⟩) (.inr ⟨U,b,c,a.1,a.2⟩)
 | succ n j=>
  intro g x b c a;rcases a with a|⟨d,g',es,e,f,h⟩
  .exact .stop (λ_ _=>⟨0,a⟩) (.inr ⟨U,b,c,a.1,a.2⟩)
  .exact .step (λ_ _=>⟨n+1,.inr ⟨d,g',es,e,f,h⟩⟩) (.inl ⟨U,d,b,c,g',es,e,f,j (x:={x with deaf:=deafBehind x.deaf es}) b c h⟩)
abbrev YT:=Nat ⊕ Nat
def Zt (H:YT->Τ) (h:YT) (G:Τ):YT->Τ:=λk=>if k=h then G else H k
@[simp] theorem Yj (H:YT->Τ) (h:YT) (G:Τ):Zt H h G h=G:=by simp[Zt]
theorem Zs (H:YT->Τ) {h k:YT} (G:Τ) (a:k≠h):Zt H h G k=H k:=by simp[Zt,a]
structure YE where
 H:YT->Τ
 Z4:Nat->Nat->Option (ζ×TypeId)
 tok:Nat->Nat->Tok
 spec:Nat->Nat->Option Spec
 view:Nat->Nat->Option (Nat×Z')
 deaf:Nat->Nat
 rel:Nat->Bool
 T:Nat->WV (Bool×Goroutine×ZU)
 O:Nat->Option Z'
 Zl:Nat->Nat
 home:Nat->Nat
 Xz:Nat->Nat
def YE.x (c:YE) (i:Nat):ZU:=⟨c.H (.inl i),c.Z4 i,c.tok i,c.spec i,c.view i,c.deaf i,c.rel i⟩
structure Wq (H:YT->Τ) (a:Nat->Nat->Option (ζ×TypeId)) (b:Nat->Option Z') (c w:World):Prop where
 fit:∀h,Fits (H h) w
 TB:∀i,L7 (a i) w
 W7:∀s o,b s=some o->At s o w
 keep:Xd (λ_ _=>False) (λ_=>False) c w
structure VK (H:YT->Τ) (d:Nat->Nat->Option (ζ×TypeId)) (a:Nat->Option Z') (c:Nat):Prop where
 apart:∀h k,h≠k->Apart (H h) (H k)
 high:∀h b o,(H h).owns b o->c<=b
 SF:∀h b,(H h).Xt b->c<=b
 fresh:∀i b v,d i b=some v->c<=b/\(∀h,(H h).off b)/\∀j,j≠i->d j b=none
 Uz:∀s o b,a s=some o->X1 s o.toSpec b->c<=b/\(∀h,(H h).off b)/\∀j,d j b=none
 Uk:∀s e o o' b,a s=some o->a e=some o'->X1 s o.toSpec b->X1 e o'.toSpec b->s=e
 RG:∀s o m,a s=some o->o.ZK=some m->m≠s
 XY:∀b,(∀s o,a s=some o->¬X1 s o.toSpec b)->H (.inr b)=Τ.empty
theorem Wq.own {H:YT->Τ} {u:Nat->Nat->Option (ζ×TypeId)} {y:Nat->Option Z'} {A w w':World} {C:Nat} (p:Wq H u y A w) (k:VK H u y C) (i:Nat) {G':Τ} {V':Nat->Option (ζ×TypeId)}
  (d:Xd (H (.inl i)).owns (H (.inl i)).Xt w w') (L:Fits G' w') (hv:L7 V' w') (W:A.heap.size=C):Wq (Zt H (.inl i) G') (upd u i V') y A w':=by
 have D:∀h,h≠.inl i->(∀b o,(H (.inl i)).owns b o->¬(H h).has b o)/\∀b,(H (.inl i)).Xt b->¬(H h).Xt b:=λh e=>⟨(k.apart _ _ (YF e)).η,(k.apart _ _ (YF e)).obj⟩;refine⟨λh=>?_,λj=>?_,λs o E=>?_,?_⟩
 .by_cases e:h=.inl i
  .subst e;rw[Yj];exact L
  .rw[Zs _ _ e];exact(p.fit h).keeps d (D h e).1 (D h e).2
 .by_cases F:j=i
  .subst F;rw[upd_same];exact hv
  .rw[upd_ne _ _ F];intro b c t a;obtain⟨c',f,n,g⟩:=d.cells b c t _ (p.TB j b c t a);have B:=(k.fresh j b _ a).2.1 (.inl i);have:c'=c:=by
    apply NC;intro o;exact g o λ⟨v,hv⟩=>B.1 o ⟨_,hv⟩
   rw[f,this]
 .have B:=λb (a:X1 s o.toSpec b)=>(k.Uz s o b E a).2.1 (.inl i)
  have I:∀b c t,X1 s o.toSpec b->w.heap[b]?=some (.cells c t (0,0))->w'.heap[b]?=some (.cells c t (0,0)):=λb c t a M=>by
   obtain⟨c',f,n,g⟩:=d.cells b c t _ M;have:c'=c:=by
    apply NC;intro o';exact g o' λ⟨v,hv⟩=>(B b a).1 o' ⟨_,hv⟩
   rw[f,this]
  obtain⟨⟨N,f⟩,n⟩:=p.W7 s o E;exact⟨⟨N,I _ _ _ (.inl U) f⟩,λm J=>let ⟨O,g⟩:=n m J;⟨O,I _ _ _ (.inr J) g⟩⟩
 .have l:=p.keep;refine⟨XQ l.size d.size,λb c t K a=>?_,λb x a r _=>?_,l.os.trans d.os,d.output.trans l.output,d.tape.trans l.tape⟩
  .obtain⟨P,f,n,g⟩:=l.cells b c t K a;obtain⟨Q,R,S,T⟩:=d.cells b P t K f;refine⟨Q,R,by rw[S,n],λo _=>?_⟩;rw[T o λr=>?_,g o id];have:=k.high _ _ _ r;have:=Xc a;omega
  .refine d.S7 b x (l.S7 b x a r id) r λV=>?_;have:=k.SF _ _ V;have:=Xc a;omega
theorem Wq.at {H:YT->Τ} {a:Nat->Nat->Option (ζ×TypeId)} {b:Nat->Option Z'} {c w:World} (h:Wq H a b c w) (d:Nat):Wq H a b c (w.at d):=
 ⟨λk=>(h.fit k).at d,h.TB,h.W7,⟨h.keep.size,h.keep.cells,h.keep.S7,h.keep.os,h.keep.output,h.keep.tape⟩⟩
theorem VK.own {H:YT->Τ} {y:Nat->Nat->Option (ζ×TypeId)} {K:Nat->Option Z'} {O:Nat} {w:World} {ad:World} (g:VK H y K O) (L:Wq H y K ad w) (al:O<=w.heap.size) (i:Nat) {G':Τ} {V':Nat->Option (ζ×TypeId)}
  (C:Kp (H (.inl i)) G' w.heap.size) (P:HM (y i) V' G' w.heap.size):VK (Zt H (.inl i) G') (upd y i V') K O:=by
 have W:∀b o,G'.has b o->w.heap.size<=b\/(H (.inl i)).has b o:=λb o ⟨⟨v,p⟩,h⟩=>(C.η b o v p h).imp id λ⟨X,ae,Q,_⟩=>⟨_,Q⟩
 have Y:∀b o,G'.owns b o->w.heap.size<=b\/(H (.inl i)).owns b o:=λb o ⟨v,h⟩=>(C.η b o v true h).imp id λ⟨X,ae,Q,af⟩=>⟨X,by rw[Q,af U]⟩
 have R:∀h b o,(H h).has b o->b<w.heap.size:=λh b o ⟨⟨v,p⟩,m⟩=>by
  obtain⟨c,t,am,hb,_⟩:=Q9 ((L.fit h).η b o v p m);exact Xc hb
 have Z:∀h b,(H h).Xt b->b<w.heap.size:=λh b ⟨x,m⟩=>Xc ((L.fit h).obj b x m).1
 have aa:∀k,k≠.inl i->Apart G' (H k):=λk D=>by
  have a:=g.apart _ _ (YF D);refine⟨λb o d m=>?_,λb o d m=>?_,λb d m=>?_⟩
  .rcases Y b o d with h|h
   .have:=R k b o m;omega
   .exact a.η b o h m
  .rcases W b o m with h|h
   .have:=R k b o (let ⟨v,hv⟩:=d;⟨_,hv⟩);omega
   .exact a.Q' b o d h
  .rcases C.obj b d with h|h
   .have:=Z k b m;omega
   .exact a.obj b h m
 have ag:∀{A B:Τ},Apart A B->Apart B A:=λh=>⟨h.Q',h.η,λb hb ah=>h.obj b ah hb⟩
 have S:∀b,b<w.heap.size->(H (.inl i)).off b->G'.off b:=λb hb h=>⟨λo d=>(W b o d).elim (λx=>J) (h.1 o),λd=>(C.obj b d).elim (λx=>J) h.2⟩
 have T:∀j b v,y j b=some v->b<w.heap.size:=λj b v hv=>Xc (L.TB j b v.1 v.2 hv)
 have ai:∀s o b,K s=some o->X1 s o.toSpec b->b<w.heap.size:=λs o b M hb=>by
  obtain⟨⟨an,N⟩,V⟩:=L.W7 s o M;rcases hb with rfl|hb
  .exact Xc N
  .obtain⟨ao,aj⟩:=V b hb;exact Xc aj
 refine⟨λh k D=>?_,λh b o d=>?_,λh b d=>?_,λj b v hv=>?_,λs o b M hb=>?_,g.Uk,g.RG,λb hb=>?_⟩
 .by_cases e:h=.inl i
  .subst e;rw[Yj,Zs _ _ (YF D)];exact aa k (YF D)
  .by_cases kk:k=.inl i
   .subst kk;rw[Yj,Zs _ _ e];exact ag (aa h e)
   .rw[Zs _ _ e,Zs _ _ kk];exact g.apart h k D
 .by_cases e:h=.inl i
  .subst e;rw[Yj] at d;rcases Y b o d with h|h
   .omega
   .exact g.high _ _ _ h
  .rw[Zs _ _ e] at d;exact g.high _ _ _ d
 .by_cases e:h=.inl i
  .subst e;rw[Yj] at d;rcases C.obj b d with h|h
   .omega
   .exact g.SF _ _ h
  .rw[Zs _ _ e] at d;exact g.SF _ _ d
 .by_cases ab:j=i
  .subst ab;rw[upd_same] at hv;rcases P b v hv with h|⟨N,V⟩
   .obtain⟨E,n,r⟩:=g.fresh j b v h;refine⟨E,λf=>?_,λl u=>by rw[upd_ne _ _ u];exact r l u⟩;by_cases e:f=.inl j
    .subst e;rw[Yj];exact S b (T j b v h) (n _)
    .rw[Zs _ _ e];exact n _
   .refine⟨J,λf=>?_,λl u=>?_⟩
    .by_cases e:f=.inl j
     .subst e;rw[Yj];exact V
     .rw[Zs _ _ e];exact⟨λo d=>by have:=R f b o d;omega,λd=>by have:=Z f b d;omega⟩
    .rw[upd_ne _ _ u];cases F:y l b with
     | none=>rfl
     | some I=>have:=T l b I F;omega
  .rw[upd_ne _ _ ab] at hv;obtain⟨E,n,r⟩:=g.fresh j b v hv;have hb:=T j b v hv;refine⟨E,λf=>?_,λl u=>?_⟩
   .by_cases e:f=.inl i
    .subst e;rw[Yj];exact S b hb (n _)
    .rw[Zs _ _ e];exact n _
   .by_cases f:l=i
    .subst f;rw[upd_same];cases F:V' b with
     | none=>rfl
     | some I=>
      rcases P b I F with h|⟨N,_⟩
      .rw[r l u] at h;cases h
      .omega
    .rw[upd_ne _ _ f];exact r l u
 .obtain⟨E,n,r⟩:=g.Uz s o b M hb;have ak:=ai s o b M hb;refine⟨E,λf=>?_,λl=>?_⟩
  .by_cases e:f=.inl i
   .subst e;rw[Yj];exact S b ak (n _)
   .rw[Zs _ _ e];exact n _
  .by_cases f:l=i
   .subst f;rw[upd_same];cases F:V' b with
    | none=>rfl
    | some I=>
     rcases P b I F with h|⟨N,_⟩
     .rw[r l] at h;cases h
     .omega
   .rw[upd_ne _ _ f];exact r l
 .rw[Zs _ _ Ω];exact g.XY b hb
def U9 (tok:Nat->Nat->Tok) (c:Nat->Option Z') (t:Trace):YT->Nat->Prop
 | .inl i,k=>Knows t i k
 | .inr b,k=>(∃p a,t[p]?=some a/\a.act=.mark (.releaseMerge ⟨b,0,none⟩)/\t.heard p/\Before t k p)\/(∀s o,c s=some o->X1 s o.toSpec b->∀i,tok i s≠.nil->Knows t i k)
theorem HK {tok:Nat->Nat->Tok} {a:Nat->Option Z'} {t:Trace} (u:Trace) {h:YT} {k:Nat} (c:U9 tok a t h k):U9 tok a (t++u) h k:=by
 cases h with
 | inl i=>exact Knows.app u c
 | inr b=>
  rcases c with⟨p,f,d,g,j,l⟩|h
  .have e:=lt_size_of_getElem? d;exact .inl ⟨p,f,by rw[getElem?_append_old e];exact d,g,(heard_old e).2 j,l.app u⟩
  .exact .inr λs o m n i hi=>(h s o m n i hi).app u
structure Vx (H:YT->Τ) (e:Nat->Nat->Option (ζ×TypeId)) (tok:Nat->Nat->Tok) (d:Nat->Option Z') (f:Nat->Nat) (g:Nat->Nat) (N:Nat) (t:Trace):Prop where
 race:∀j,¬Race j t
 low:∀c∈t,c.act.low N
 norel:∀c∈t,∀a,c.act≠.mark (.release a)
 perms:∀h,Ys t (U9 tok d t h) (H h)
 Sd:∀i b v,e i b=some v->∀k a,touchAt t k=some a->¬SK a.loc b
 cont:∀s o b,d s=some o->X1 s o.toSpec b->∀k a,touchAt t k=some a->SK a.loc b->a.kind=.atomic\/(a.kind=.said/\t.g? k=some (f s))
 hears:∀i,Deaf t i=g i
theorem L3 {t:Trace} {N k:Nat} {a:Touch} (h:∀f∈t,f.act.low N) (j:touchAt t k=some a) {b:Nat} (c:SK a.loc b):b<N:=by
 obtain⟨f,l,d⟩:=touch_of j;have i:=h f (mem_of_getElem? l);obtain⟨g,fn,pos,n⟩:=f;cases n with
 | access e=>
  simp only[MemAct.touch?,Qo] at d;subst d;obtain⟨o,wr,p⟩:=e;cases o<;>simp only[SK] at c<;>first|(subst c;exact i)|exact c.elim
 | mark m=>
  cases m<;>simp only[MemAct.touch?,Qo,reduceCtorEq] at d<;>(subst d;simp only[SK] at c;subst c;exact i)
 | _=>simp[MemAct.touch?] at d
theorem Ko.HJ {G:Τ} {n a:Nat} {e:Event} (h:Ko e):Wf G n a e:=by
 rcases h with h|h<;>simp[Wf,h]
theorem Km {G:Τ} {n f:Nat} {e:Event} (c:Wf G n f e) {a:Touch} (b:(MemAct.ofEvent e).touch?=some a) :
  a.loc=e.loc/\a.write=e.write/\(a.loc.isMemory=true->(∃d,e.loc=.cell d)\/∃r,e.loc=.obj r):=by
 obtain⟨g,wr,h⟩:=e;cases g with
 | cell d=>simp[MemAct.ofEvent,MemAct.touch?] at b;subst b;simp
 | obj r=>
  simp only[Wf] at c;obtain⟨rfl,_⟩:=c;cases wr<;>simp[MemAct.ofEvent,MemAct.touch?] at b<;>subst b<;>simp
 | output=>simp[MemAct.ofEvent,MemAct.touch?] at b;subst b;simp[Loc.isMemory]
 | goroutines=>exact c.elim
 | mark m=>simp only[Wf] at c;subst c;simp[MemAct.ofEvent,MemAct.touch?] at b
theorem Vx.own {H:YT->Τ} {M:Nat->Nat->Option (ζ×TypeId)} {tok:Nat->Nat->Tok} {P:Nat->Option Z'} {ai:Nat->Nat} {aj:Nat->Nat} {aq w w':World} {ar:Nat} {t:Trace}
  (l:Vx H M tok P ai aj w.heap.size t) (V:Wq H M P aq w) (W:VK H M P ar) (i:Nat) {G':Τ} {V':Nat->Option (ζ×TypeId)} {es:Array Event} {fn:FuncId} {pos:String}
  (au:w.heap.size<=w'.heap.size) (ak:Kp (H (.inl i)) G' w.heap.size) (al:HM (M i) V' G' w.heap.size)
  (E:∀e∈es,Wf (H (.inl i)) w.heap.size w'.heap.size e) (av:∀b c,V' b=some c->w.heap.size<=b->∀e∈es,¬SK e.loc b) :
  Vx (Zt H (.inl i) G') (upd M i V') tok P ai aj w'.heap.size (t++MemOp.ofEvents i fn pos es):=by
 have Q:∀B∈MemOp.ofEvents i fn pos es,B.g=i:=λB n=>by obtain⟨e,_,rfl⟩:=Go.Conc.mem_ofEvents n;rfl
 have X:∀h b o,(H h).has b o->b<w.heap.size:=λh b o ⟨⟨v,p⟩,C⟩=>by
  obtain⟨c,t,aG,hb,_⟩:=Q9 ((V.fit h).η b o v p C);exact Xc hb
 have am:∀h b,(H h).Xt b->b<w.heap.size:=λh b ⟨x,C⟩=>Xc ((V.fit h).obj b x C).1
 have an:∀j b v,M j b=some v->b<w.heap.size:=λj b v hv=>Xc (V.TB j b v.1 v.2 hv)
 have aw:∀s o b,P s=some o->X1 s o.toSpec b->b<w.heap.size:=λs o b R hb=>by
  obtain⟨⟨aH,D⟩,S⟩:=V.W7 s o R;rcases hb with rfl|hb
  .exact Xc D
  .obtain⟨aI,Y⟩:=S b hb;exact Xc Y
 have Z:∀e∈es,∀b,b<w.heap.size->(H (.inl i)).off b->¬SK e.loc b:=λe f b hb aa u=>by
  have:=E e f;obtain⟨T,wr,ab⟩:=e;cases T with
  | cell N=>
   simp only[SK] at u;subst u;simp only[Wf] at this;rcases this with h|⟨_,h⟩
   .omega
   .cases wr
    .exact aa.1 _ h
    .obtain⟨v,hv⟩:=h;exact aa.1 _ ⟨_,hv⟩
  | obj r=>
   simp only[SK] at u;subst u;simp only[Wf] at this;rcases this.2 with h|h
   .omega
   .exact aa.2 h
  | _=>exact u
 refine⟨λax=>noRace_append (l.race ax) Q λk a y B n b hb K=>?_,λB n=>?_,λB n=>?_,λh=>?_,λj b v hv k a y u=>?_,λs o b R hb k a y u=>?_,λj=>?_⟩
 .obtain⟨e,f,rfl⟩:=Go.Conc.mem_ofEvents n;obtain⟨D,S,Y⟩:=Km (E e f) hb;obtain⟨ad,ay,az,_⟩:=K;have d:=E e f;rcases Y (by rw[<-ad];exact ay) with⟨N,A⟩|⟨r,A⟩
  .simp only[Wf,A] at d;have O:a.loc=.cell N:=by rw[ad,D,A]
   rcases d with h|⟨ao,h⟩
   .have:=L3 l.low y (b:=N.block) (by rw[O];rfl);omega
   .obtain⟨aJ,aK,sp⟩:=N;simp only at ao;subst ao;by_cases I:e.write=true
    .rw[if_pos I] at h;obtain⟨v,hv⟩:=h;exact(l.perms (.inl i)).η _ _ v true hv k a y O (.inl U)
    .rw[if_neg I] at h;obtain⟨⟨v,p⟩,hv⟩:=h;exact(l.perms (.inl i)).η _ _ v p hv k a y O (.inr (az.resolve_right (by rw[S];exact I)))
  .simp only[Wf,A] at d;have O:a.loc=.obj r:=by rw[ad,D,A]
   rcases d.2 with h|h
   .have:=L3 l.low y (b:=r) (by rw[O];rfl);omega
   .exact(l.perms (.inl i)).obj r h k a y O
 .rcases Si.1 n with h|h
  .exact MemAct.low_mono au (l.low B h)
  .obtain⟨e,f,rfl⟩:=Go.Conc.mem_ofEvents h;have d:=E e f;obtain⟨T,wr,ab⟩:=e;cases T with
   | cell N=>
    simp only[Wf] at d;show N.block<_;rcases d with h|⟨_,h⟩
    .exact h.2
    .cases wr
     .have:=X _ _ _ h;omega
     .obtain⟨v,hv⟩:=h;have:=X (.inl i) _ _ ⟨_,hv⟩;omega
   | obj r=>
    simp only[Wf] at d;obtain⟨rfl,d⟩:=d;have aA:r<w'.heap.size:=d.elim (λh=>h.2) (λh=>by have:=am _ _ h;omega);cases wr<;>exact aA
   | output=>trivial
   | goroutines=>exact d.elim
   | mark m=>simp only[Wf] at d;subst d;trivial
 .rcases Si.1 n with h|h
  .exact l.norel B h
  .obtain⟨e,f,rfl⟩:=Go.Conc.mem_ofEvents h;intro a h;have d:=E e f;obtain⟨T,wr,ab⟩:=e;cases T with
   | mark m=>simp only[Wf] at d;subst d;simp[MemAct.ofEvent] at h
   | obj r=>cases wr<;>cases ab<;>simp[MemAct.ofEvent] at h
   | _=>simp[MemAct.ofEvent] at h
 .by_cases ae:h=.inl i
  .subst ae;rw[Yj];have ap:Ys (t++MemOp.ofEvents i fn pos es) (Knows (t++MemOp.ofEvents i fn pos es) i) (H (.inl i)):=(l.perms (.inl i)).own Q;refine⟨λb o v p K k a y A I=>?_,λb hb k a y A=>?_⟩
   .rcases ak.η b o v p K with aB|⟨aC,aD,af,aE⟩
    .rcases S6 y with F|⟨_,B,n,L,_⟩
     .have:=L3 l.low F (b:=b) (by rw[A];rfl);omega
     .have:=knows_own L;rwa [Q B n] at this
    .exact ap.η b o aC aD af k a y A (I.imp aE id)
   .rcases ak.obj b hb with aB|af
    .rcases S6 y with F|⟨_,B,n,L,_⟩
     .have:=L3 l.low F (b:=b) (by rw[A];rfl);omega
     .have:=knows_own L;rwa [Q B n] at this
    .exact ap.obj b af k a y A
  .rw[Zs _ _ ae];have ag:=W.apart _ _ (YF ae);refine(l.perms h).others (λk L=>HK _ L) λB n a y=>?_;obtain⟨e,f,rfl⟩:=Go.Conc.mem_ofEvents n;obtain⟨D,S,_⟩:=Km (E e f) y;have d:=E e f;refine⟨λb o v p A K=>?_,λb A hb=>?_⟩
   .simp only[Wf,<-D,A] at d;rcases d with C|⟨_,C⟩
    .have:=X h b o ⟨_,K⟩;omega
    .by_cases I:e.write=true
     .rw[if_pos I] at C;exact absurd ⟨_,K⟩ (ag.η b o C)
     .rw[if_neg I] at C;refine⟨?_,by rw[S];simpa using I⟩;cases p with
      | false=>rfl
      | true=>exact absurd C (ag.Q' b o ⟨v,K⟩)
   .simp only[Wf,<-D,A] at d;rcases d.2 with C|C
    .have:=am h b hb;omega
    .exact ag.obj b C hb
 .rcases S6 y with F|⟨_,B,n,_,ah⟩
  .have hb:=L3 l.low F u;by_cases J:j=i
   .subst J;rw[upd_same] at hv;rcases al b v hv with h|h
    .exact l.Sd j b v h k a F u
    .omega
   .rw[upd_ne _ _ J] at hv;exact l.Sd j b v hv k a F u
  .obtain⟨e,f,rfl⟩:=Go.Conc.mem_ofEvents n;obtain⟨D,_,_⟩:=Km (E e f) ah;rw[D] at u;by_cases J:j=i
   .subst J;rw[upd_same] at hv;rcases al b v hv with h|h
    .exact Z e f b (an j b v h) ((W.fresh j b v h).2.1 _) u
    .exact av b v hv h.1 e f u
   .rw[upd_ne _ _ J] at hv;exact Z e f b (an j b v hv) ((W.fresh j b v hv).2.1 _) u
 .rcases S6 y with F|⟨_,B,n,_,ah⟩
  .rcases l.cont s o b R hb k a F u with h|⟨h,L⟩
   .exact .inl h
   .obtain⟨B,aF,_⟩:=touch_of F;exact .inr ⟨h,by rw[g?_old (lt_size_of_getElem? aF)];exact L⟩
  .obtain⟨e,f,rfl⟩:=Go.Conc.mem_ofEvents n;obtain⟨D,_,_⟩:=Km (E e f) ah;rw[D] at u;exact absurd u (Z e f b (aw s o b R hb) ((W.Uz s o b R hb).2.1 _))
 .by_cases J:i=j
  .subst J;rw[Deaf_own,deafBehind_still (λe f=>?_)]
   .exact l.hears i
   .have d:=E e f;constructor<;>intro A<;>simp[Wf,A] at d
  .rw[Deaf_other t J _ Q];exact l.hears j
def Sc:Ua->Prop
 | .fin|.uc|.us|.done=>True
 | _=>False
def Zk (tok:Nat->Nat->Tok) (i s:Nat) (t:Tok):Nat->Nat->Tok:=upd tok i (upd (tok i) s t)
theorem Xs (tok:Nat->Nat->Tok) (i s:Nat) (t:Tok):Zk tok i s t i s=t:=by simp[Zk,upd]
theorem Xy {tok:Nat->Nat->Tok} {i s j r:Nat} (t:Tok) (h:¬(j=i/\r=s)):Zk tok i s t j r=tok j r:=by
 unfold Zk upd;by_cases a:j=i
 .subst a;by_cases b:r=s
  .exact absurd ⟨U,b⟩ h
  .simp[b]
 .simp[a]
theorem E3 (tok:Nat->Nat->Tok) (i s:Nat) (t:Tok):(λj=>Zk tok i s t j s)=upd (λj=>tok j s) i t:=by
 funext j
 by_cases a:j=i
 .subst a;rw[Xs,upd_same]
 .rw[Xy _ (λh=>a h.1),upd_ne _ _ a]
theorem HI (tok:Nat->Nat->Tok) (i s:Nat) (t:Tok) {r:Nat} (a:r≠s):(λj=>Zk tok i s t j r)=λj=>tok j r:=by
 funext j;rw[Xy _ (λh=>a h.2)]
structure XP (n:Nat) (tok:Nat->Nat->Tok) (spec:Nat->Nat->Option Spec) (h:Nat->Nat->Option (Nat×Z')) (d:Nat->Bool) (a:Nat->Option Z') (e b:Nat->Nat):Prop where
 Z0:∀s o,a s=some o->Pq n o (λi=>tok i s)
 bare:∀s,a s=none->∀i,tok i s=.nil
 out:∀i s,n<=i->tok i s=.nil
 Q5:∀i s sp,spec i s=some sp->∃o,a s=some o/\o.toSpec=sp
 Ox:∀i s φ o,h i s=some (φ,o)->∃c,a s=some c/\XU n c (λj=>tok j s)<=φ/\(XU n c (λj=>tok j s)=φ->c=o)
 Yw:∀i s k L g o,a s=some o->tok i s=.ch k (.Yw L) g->o.L=L
 par:∀i s m p f,tok i s=.par m p f->i=e s
 Sb:∀i s k m g,tok i s=.ch k m g->i≠0/\b i=s/\e s<i
 Qe:∀i,i≠0->i<n->∃k m g,tok i (b i)=.ch k m g
 RF:∀i k m g,i≠0->tok i (b i)=.ch k m g->(d i=true↔g≠.work)
 Pp:d 0=false
 Sa:∀i s,d i=true->s≠b i->WY (tok i s)
 R':∀i s k m g o,a s=some o->tok i s=.ch k m g->g≠.work->m=.done\/(m=.idle/\o.ZK=none)
 Ow:∀s i j k m g l g',tok i s=.ch k m g->tok j s=.ch k l g'->i=j
 Po:∀s i k m g q p f,tok i s=.ch k m g->tok (e s) s=.par q p f->k+p<q
 R9:∀s o,a s=some o->o.L.Nodup/\∀k,k∈o.L↔∃i m g,tok i s=.ch k m g/\Sc m
 Q4:∀s o,a s=some o->o.R.Nodup/\∀k,k∈o.R↔∃i m g,tok i s=.ch k m g/\g≠.work
def Alike (t t':Tok):Prop:=(∃m p c a b d,t=.par m p c/\t'=.par a b d/\∀k,k+p<m->k+b<a)\/(∃k m g a g',t=.ch k m g/\t'=.ch k a g')
section
variable {n:Nat} {tok:Nat->Nat->Tok} {spec:Nat->Nat->Option Spec} {view:Nat->Nat->Option (Nat×Z')} {rel:Nat->Bool} {O:Nat->Option Z'} {Zl home:Nat->Nat}
theorem XP.lt (h:XP n tok spec view rel O Zl home) {i s:Nat} (a:tok i s≠.nil):i<n:=Nat.lt_of_not_le λb=>a (h.out i s b)
theorem XP.change (h:XP n tok spec view rel O Zl home) {s i:Nat} {o o':Z'} {t t':Tok} {M:Nat->Bool} {V:Nat->Option (Nat×Z')} (X:O s=some o) (N:tok i s=t) (P:Alike t t')
  (ae:Pq n o' (upd (λj=>tok j s) i t')) (ax:XU n o' (upd (λj=>tok j s) i t')<XU n o (λj=>tok j s)) (af:o'.toSpec=o.toSpec)
  (ag:∀r φ q,V r=some (φ,q)->(r=s/\φ=XU n o' (upd (λj=>tok j s) i t')/\q=o')\/(r≠s/\view i r=some (φ,q)))
  (ah:∀j k L g,Zk tok i s t' j s=.ch k (.Yw L) g->o'.L=L)
  (ai:∀j k m g,j≠0->Zk tok i s t' j (home j)=.ch k m g->(M j=true↔g≠.work)) (aj:M 0=false)
  (ak:∀j r,M j=true->r≠home j->WY (Zk tok i s t' j r))
  (al:∀j k m g,Zk tok i s t' j s=.ch k m g->g≠.work->m=.done\/(m=.idle/\o'.ZK=none))
  (am:o'.L.Nodup/\∀k,k∈o'.L↔∃j m g,Zk tok i s t' j s=.ch k m g/\Sc m) (an:o'.R.Nodup/\∀k,k∈o'.R↔∃j m g,Zk tok i s t' j s=.ch k m g/\g≠.work) :
  XP n (Zk tok i s t') spec (upd view i V) M (upd O s (some o')) Zl home:=by
 have ay:i<n:=h.lt (s:=s) (by rw[N];rcases P with⟨_,_,_,_,_,_,rfl,_⟩|⟨_,_,_,_,_,rfl,_⟩<;>simp)
 have S:=E3 tok i s t'
 have T:∀r,r≠s->(λj=>Zk tok i s t' j r)=λj=>tok j r:=λr v=>HI tok i s t' v
 have E:∀j r,r≠s->Zk tok i s t' j r=tok j r:=λj r v=>congrFun (T r v) j
 have ao:∀j,j≠i->∀r,Zk tok i s t' j r=tok j r:=λj c r=>Xy _ λx=>c x.1
 have Q:∀j r k m g,Zk tok i s t' j r=.ch k m g->∃l w,tok j r=.ch k l w:=λj r k m g c=>by
  by_cases e:j=i/\r=s
  .obtain⟨rfl,rfl⟩:=e;rw[Xs] at c;rcases P with⟨_,_,_,_,_,_,_,f,_⟩|⟨Y,l,w,F,H,d,f⟩
   .rw[f] at c;cases c
   .rw[f] at c;cases c;exact⟨l,w,by rw[N,d]⟩
  .rw[Xy _ e] at c;exact⟨m,g,c⟩
 have ap:∀j r k m g,tok j r=.ch k m g->∃l w,Zk tok i s t' j r=.ch k l w:=λj r k m g c=>by
  by_cases e:j=i/\r=s
  .obtain⟨rfl,rfl⟩:=e;rw[Xs];rw[N] at c;rcases P with⟨_,_,_,_,_,_,d,_,_⟩|⟨Y,l,w,F,H,d,f⟩
   .rw[d] at c;cases c
   .rw[d] at c;cases c;exact⟨F,H,f⟩
  .rw[Xy _ e];exact⟨m,g,c⟩
 have Z:∀j r m p A,Zk tok i s t' j r=.par m p A->∃l C I,tok j r=.par l C I/\∀k,k+C<l->k+p<m:=λj r m p A c=>by
  by_cases e:j=i/\r=s
  .obtain⟨rfl,rfl⟩:=e;rw[Xs] at c;rcases P with⟨_,_,_,_,_,_,d,f,B⟩|⟨Y,l,w,F,H,d,f⟩
   .rw[f] at c;cases c;exact⟨_,_,_,by rw[N,d],B⟩
   .rw[f] at c;cases c
  .rw[Xy _ e] at c;exact⟨m,p,A,c,λ_ x=>x⟩
 have K:∀r q,upd O s (some o') r=some q->(r=s/\q=o')\/(r≠s/\O r=some q):=λr q u=>by
  by_cases e:r=s
  .subst e;rw[upd_same] at u;cases u;exact .inl ⟨U,U⟩
  .rw[upd_ne _ _ e] at u;exact .inr ⟨e,u⟩
 refine⟨λr q u=>?_,λr v j=>?_,λj r c=>?_,λj r sp c=>?_,λj r φ q c=>?_,λj r k L g q u c=>?_,λj r m p A c=>?_,λj r k m g c=>?_,λj aq c=>?_,ai,aj,ak,λj r k m g q u c aa=>?_,λr j ab k m g ar g' d f=>?_,λr j k m g q p A d f=>?_,λr q u=>?_,λr q u=>?_⟩
 .rcases K r q u with⟨rfl,rfl⟩|⟨e,y⟩
  .rw[S];exact ae
  .rw[T r e];exact h.Z0 r q y
 .by_cases e:r=s
  .subst e;rw[upd_same] at v;cases v
  .rw[upd_ne _ _ e] at v;rw[E j r e];exact h.bare r v j
 .rw[ao j J r];exact h.out j r c
 .obtain⟨q,d,f⟩:=h.Q5 j r sp c;by_cases e:r=s
  .subst e;rw[X] at d;cases d;exact⟨o',upd_same ..,by rw[af];exact f⟩
  .exact⟨q,by rw[upd_ne _ _ e];exact d,f⟩
 .have ad:∀φ q,view j r=some (φ,q)->∃D,upd O s (some o') r=some D/\XU n D (λa=>Zk tok i s t' a r)<=φ/\(XU n D (λa=>Zk tok i s t' a r)=φ->D=q):=λφ q hv=>by
   obtain⟨D,d,f,B⟩:=h.Ox j r φ q hv;by_cases e:r=s
   .subst e;rw[X] at d;cases d;rw[upd_same,S];exact⟨o',U,J,λx=>J⟩
   .rw[upd_ne _ _ e,T r e];exact⟨D,d,f,B⟩
  by_cases e:j=i
  .subst e;rw[upd_same] at c;rcases ag r φ q c with⟨rfl,rfl,rfl⟩|⟨v,hv⟩
   .rw[upd_same,S];exact⟨_,U,Z6 _,λ_=>rfl⟩
   .exact ad φ q hv
  .rw[upd_ne _ _ e] at c;exact ad φ q c
 .rcases K r q u with⟨rfl,rfl⟩|⟨e,y⟩
  .exact ah j k L g c
  .rw[E j r e] at c;exact h.Yw j r k L g q y c
 .obtain⟨l,C,I,d,_⟩:=Z j r m p A c;exact h.par j r l C I d
 .obtain⟨l,w,d⟩:=Q j r k m g c;exact h.Sb j r k l w d
 .obtain⟨k,m,g,d⟩:=h.Qe j aq c;obtain⟨F,H,f⟩:=ap j _ k m g d;exact⟨k,F,H,f⟩
 .rcases K r q u with⟨rfl,rfl⟩|⟨e,y⟩
  .exact al j k m g c aa
  .rw[E j r e] at c;exact h.R' j r k m g q y c aa
 .obtain⟨a,b,B⟩:=Q j r k m g d;obtain⟨au,av,W⟩:=Q ab r k ar g' f;exact h.Ow r j ab k a b au av B W
 .obtain⟨a,b,B⟩:=Q j r k m g d;obtain⟨l,C,I,W,aw⟩:=Z _ r q p A f;exact aw k (h.Po r j k a b l C I B W)
 .rcases K r q u with⟨rfl,rfl⟩|⟨e,y⟩
  .exact am
  .simp only[λj=>E j r e];exact h.R9 r q y
 .rcases K r q u with⟨rfl,rfl⟩|⟨e,y⟩
  .exact an
  .simp only[λj=>E j r e];exact h.Q4 r q y
theorem z7 {o o':Z'} {t t':Tok} (h:Act o t o' t'):Alike t t':=by
 cases h
 case add=>exact .inl ⟨_,_,_,_,_,_,U,U,λk a=>J⟩
 case thru|Fl|wake=>exact .inl ⟨_,_,_,_,_,_,U,U,λk a=>a⟩
 all_goals exact .inr ⟨_,_,_,_,_,U,U⟩
theorem E2 {o o':Z'} {t t':Tok} (h:Act o t o' t'):o'.toSpec=o.toSpec/\o'.L=o.L/\o'.R=o.R:=by
 cases h<;>exact⟨U,U,U⟩
theorem E1 {o o':Z'} {t t':Tok} (h:Act o t o' t'):(∀k m g,t'=.ch k m g->∃a b,t=.ch k a b/\(Sc m↔Sc a)/\(g=.work↔b=.work)/\(b≠.work->m=a)/\∀L,m=.Yw L->a=.Yw L)/\(∀k m g,t=.ch k m g->∃c d,t'=.ch k c d/\(Sc c↔Sc m)/\(d=.work↔g=.work))/\¬WY t:=by
 refine⟨λk m g e=>?_,λk m g e=>?_,?_⟩
 .cases h<;>cases e<;>exact⟨_,_,U,by simp[Sc],Ω,Ω,Ω⟩
 .cases h<;>cases e<;>exact⟨_,_,U,by simp[Sc],Ω⟩
 .cases h<;>simp[WY]
theorem XP.act (h:XP n tok spec view rel O Zl home) {s i:Nat} {o o':Z'} {t t':Tok} (v:O s=some o) (u:tok i s=t) (y:Act o t o' t') :
  XP n (Zk tok i s t') spec (upd view i (upd (view i) s (some (XU n o' (upd (λj=>tok j s) i t'),o')))) rel (upd O s (some o')) Zl home:=by
 obtain⟨K,M,E⟩:=E1 y;have D:i<n:=h.lt (s:=s) (by rw[u];rintro rfl;exact E trivial);obtain⟨F,H,N⟩:=E2 y;have C:∀j r k m g,Zk tok i s t' j r=.ch k m g->∃f d,tok j r=.ch k f d/\(Sc m↔Sc f)/\(g=.work↔d=.work)/\(d≠.work->m=f)/\∀L,m=.Yw L->f=.Yw L:=λj r k m g c=>by
  by_cases e:j=i/\r=s
  .obtain⟨rfl,rfl⟩:=e;rw[Xs] at c;obtain⟨f,d,l,Ρ⟩:=K k m g c;exact⟨f,d,by rw[u,l],Ρ⟩
  .rw[Xy _ e] at c;exact⟨m,g,c,.rfl,.rfl,λ_=>rfl,λ_ x=>x⟩
 have is:∀j k m g,tok j s=.ch k m g->∃A B,Zk tok i s t' j s=.ch k A B/\(Sc A↔Sc m)/\(B=.work↔g=.work):=λj k m g c=>by
  by_cases e:j=i/\s=s
  .obtain⟨rfl,_⟩:=e;rw[Xs];rw[u] at c;exact M k m g c
  .rw[Xy _ e];exact⟨m,g,c,.rfl,.rfl⟩
 refine h.change v u (z7 y) (⟨Ae (h.Z0 s o v).1 D u y,Ad (h.Z0 s o v).2 D u y⟩) (Fi D u y) F (λr φ q hv=>?_) (λj k L g c=>?_) (λj k m g P c=>?_) h.Pp (λj r c I=>?_) (λj k m g c Q=>?_) ?_ ?_
 .by_cases e:r=s
  .subst e;rw[upd_same] at hv;cases hv;exact .inl ⟨U,U,U⟩
  .rw[upd_ne _ _ e] at hv;exact .inr ⟨e,hv⟩
 .obtain⟨f,d,l,_,_,_,Ρ⟩:=C j s k _ g c;rw[H];exact h.Yw j s k L d o v (by rw[l,Ρ L U])
 .obtain⟨f,d,l,_,Ρ,_⟩:=C j _ k m g c;rw[h.RF j k f d P l];exact not_congr Ρ.symm
 .by_cases e:j=i/\r=s
  .obtain⟨rfl,rfl⟩:=e;have:=h.Sa j r c I;rw[u] at this;exact absurd this E
  .rw[Xy _ e];exact h.Sa j r c I
 .obtain⟨f,d,l,_,Ρ,p,_⟩:=C j s k m g c;have J:d≠.work:=λx=>Q (Ρ.2 x);rw[p J];have:=h.R' j s k f d o v l J;rw[show o'.ZK=o.ZK by rw[F]];exact this
 .obtain⟨a,b⟩:=h.R9 s o v;rw[H];refine⟨a,λk=>(b k).trans ⟨λ⟨j,m,g,l,Ρ⟩=>?_,λ⟨j,m,g,l,Ρ⟩=>?_⟩⟩
  .obtain⟨A,B,p,w,_⟩:=is j k m g l;exact⟨j,A,B,p,w.2 Ρ⟩
  .obtain⟨f,d,p,w,_⟩:=C j s k m g l;exact⟨j,f,d,p,w.1 Ρ⟩
 .obtain⟨a,b⟩:=h.Q4 s o v;rw[N];refine⟨a,λk=>(b k).trans ⟨λ⟨j,m,g,l,Ρ⟩=>?_,λ⟨j,m,g,l,Ρ⟩=>?_⟩⟩
  .obtain⟨A,B,p,_,w⟩:=is j k m g l;exact⟨j,A,B,p,λx=>Ρ (w.1 x)⟩
  .obtain⟨f,d,p,_,w,_⟩:=C j s k m g l;exact⟨j,f,d,p,λx=>Ρ (w.2 x)⟩
theorem XP.look (h:XP n tok spec view rel O Zl home) {s i:Nat} {o:Z'} (d:O s=some o):XP n tok spec (upd view i (upd (view i) s (some (XU n o (λj=>tok j s),o)))) rel O Zl home:=
 have f:∀j r φ q,upd view i (upd (view i) s (some (XU n o (λj=>tok j s),o))) j r=some (φ,q)->∃b,O r=some b/\XU n b (λj=>tok j r)<=φ/\(XU n b (λj=>tok j r)=φ->b=q):=λj r φ q a=>by
  by_cases e:j=i
  .subst e;rw[upd_same] at a;by_cases c:r=s
   .subst c;rw[upd_same] at a;cases a;exact⟨o,d,Z6 _,λ_=>rfl⟩
   .rw[upd_ne _ _ c] at a;exact h.Ox j r φ q a
  .rw[upd_ne _ _ e] at a;exact h.Ox j r φ q a
 {h with Ox:=f}
theorem Kl {s i:Nat} {r φ:Nat} {q:Z'} {o':Z'} {z:Nat} (hv:upd (view i) s none r=some (φ,q)):(r=s/\φ=z/\q=o')\/(r≠s/\view i r=some (φ,q)):=by
 by_cases e:r=s
 .subst e;rw[upd_same] at hv;cases hv
 .rw[upd_ne _ _ e] at hv;exact .inr ⟨e,hv⟩
theorem z6 {l:ο} {k:Nat} (h:l.Nodup) (d:k∉l):(l++[k]).Nodup:=by
 rw[List.nodup_append];exact⟨h,Ω,λa e b c=>by simp at c;subst c;rintro rfl;exact d e⟩
theorem XP.HP (h:XP n tok spec view rel O Zl home) {s i k:Nat} {o:Z'} (t:O s=some o) (f:tok i s=.ch k .own .work) :
  XP n (Zk tok i s (.ch k (.Yw o.L) .work)) spec (upd view i (upd (view i) s none)) rel (upd O s (some o)) Zl home:=by
 have v:i<n:=h.lt (s:=s) (by rw[f];simp)
 have w:RI o (.ch k .own .work) o (.ch k (.Yw o.L) .work):=.HP
 have p:∀j,j≠i->∀r,Zk tok i s (.ch k (.Yw o.L) .work) j r=tok j r:=λj c r=>Xy _ λx=>c x.1
 have A:=h.Sb i s k _ _ f;refine h.change t f (.inr ⟨_,_,_,_,_,U,U⟩) ⟨Ks (h.Z0 s o t).1 v f w,Kr (h.Z0 s o t).2 v f w⟩ (Kt v f w) U (λr φ q hv=>Kl hv) (λj l L g c=>?_) (λj l m g B c=>?_) h.Pp (λj r c y=>?_) (λj l m g c C=>?_) ?_ ?_
 .by_cases e:j=i
  .subst e;rw[Xs] at c;cases c;rfl
  .rw[p j e] at c;exact h.Yw j s l L g o t c
 .by_cases e:j=i
  .subst e;have u:home j=s:=A.2.1;rw[u,Xs] at c;cases c;exact h.RF j k .own .work B (by rw[u];exact f)
  .rw[p j e] at c;exact h.RF j l m g B c
 .by_cases e:j=i
  .subst e;have u:home j=s:=A.2.1;rw[Xy _ (λx=>y (by rw[x.2,u]))];exact h.Sa j r c y
  .rw[p j e];exact h.Sa j r c y
 .by_cases e:j=i
  .subst e;rw[Xs] at c;cases c;exact absurd U C
  .rw[p j e] at c;exact h.R' j s l m g o t c C
 .obtain⟨a,b⟩:=h.R9 s o t;refine⟨a,λl=>(b l).trans ⟨λ⟨j,m,g,d,Ρ⟩=>?_,λ⟨j,m,g,d,Ρ⟩=>?_⟩⟩
  .by_cases e:j=i
   .subst e;rw[f] at d;cases d;exact Ρ.elim
   .exact⟨j,m,g,by rw[p j e];exact d,Ρ⟩
  .by_cases e:j=i
   .subst e;rw[Xs] at d;cases d;exact Ρ.elim
   .exact⟨j,m,g,by rw[p j e] at d;exact d,Ρ⟩
 .obtain⟨a,b⟩:=h.Q4 s o t;refine⟨a,λl=>(b l).trans ⟨λ⟨j,m,g,d,Ρ⟩=>?_,λ⟨j,m,g,d,Ρ⟩=>?_⟩⟩
  .by_cases e:j=i
   .subst e;rw[f] at d;cases d;exact absurd U Ρ
   .exact⟨j,m,g,by rw[p j e];exact d,Ρ⟩
  .by_cases e:j=i
   .subst e;rw[Xs] at d;cases d;exact absurd U Ρ
   .exact⟨j,m,g,by rw[p j e] at d;exact d,Ρ⟩
theorem XP.z5 (h:XP n tok spec view rel O Zl home) {s i k:Nat} {L:ο} {o:Z'} (p:O s=some o) (l:tok i s=.ch k (.Yw L) .work) :
  XP n (Zk tok i s (.ch k .fin .work)) spec (upd view i (upd (view i) s none)) rel (upd O s (some {o with L:=o.L++[k]})) Zl home:=by
 have u:i<n:=h.lt (s:=s) (by rw[l];simp)
 have y:RI o (.ch k (.Yw L) .work) {o with L:=o.L++[k]} (.ch k .fin .work):=.Ag
 have t:∀j,j≠i->∀r,Zk tok i s (.ch k .fin .work) j r=tok j r:=λj d r=>Xy _ λx=>d x.1
 have C:=h.Sb i s k _ _ l
 have only:∀j f v g,tok j s=.ch f (.Yw v) g->j=i:=λj f v g d=>by
  apply Tb;intro F;have H:j<n:=h.lt (s:=s) (by rw[d];simp);have c:=WN (λa=>tok a s) .nil VN u;have Ρ:=Xi (upd (λa=>tok a s) i .nil) VN H;rw[upd_ne _ _ F] at Ρ;simp only[l,d,VN,L'] at c Ρ;have:=(h.Z0 s o p).1.Fq;have:=(h.Z0 s o p).1.f1;omega
 have I:k∉o.L:=λA=>by
  obtain⟨j,m,g,c,Ρ⟩:=((h.R9 s o p).2 k).1 A;have:=h.Ow s j i k m g _ _ c l;subst this;rw[l] at c;cases c;exact Ρ
 refine h.change p l (.inr ⟨_,_,_,_,_,U,U⟩) ⟨Ks (h.Z0 s o p).1 u l y,Kr (h.Z0 s o p).2 u l y⟩ (Kt u l y) U (λr φ q hv=>Kl hv) (λj f v g d=>?_) (λj f m g D d=>?_) h.Pp (λj r d B=>?_) (λj f m g d E=>?_) ?_ ?_
 .by_cases e:j=i
  .subst e;rw[Xs] at d;cases d
  .rw[t j e] at d;exact absurd (only j f v g d) e
 .by_cases e:j=i
  .subst e;have w:home j=s:=C.2.1;rw[w,Xs] at d;cases d;exact h.RF j k (.Yw L) .work D (by rw[w];exact l)
  .rw[t j e] at d;exact h.RF j f m g D d
 .by_cases e:j=i
  .subst e;have w:home j=s:=C.2.1;rw[Xy _ (λx=>B (by rw[x.2,w]))];exact h.Sa j r d B
  .rw[t j e];exact h.Sa j r d B
 .by_cases e:j=i
  .subst e;rw[Xs] at d;cases d;exact absurd U E
  .rw[t j e] at d;exact h.R' j s f m g o p d E
 .obtain⟨a,b⟩:=h.R9 s o p;refine⟨z6 a I,λf=>?_⟩;rw[V4,List.mem_singleton];constructor
  .rintro(A|rfl)
   .obtain⟨j,m,g,c,Ρ⟩:=(b f).1 A;have e:j≠i:=by rintro rfl;rw[l] at c;cases c;exact Ρ
    exact⟨j,m,g,by rw[t j e];exact c,Ρ⟩
   .exact⟨i,.fin,.work,Xs ..,trivial⟩
  .rintro⟨j,m,g,c,Ρ⟩;by_cases e:j=i
   .subst e;rw[Xs] at c;cases c;exact .inr U
   .rw[t j e] at c;exact .inl ((b f).2 ⟨j,m,g,c,Ρ⟩)
 .obtain⟨a,b⟩:=h.Q4 s o p;refine⟨a,λf=>(b f).trans ⟨λ⟨j,m,g,c,Ρ⟩=>?_,λ⟨j,m,g,c,Ρ⟩=>?_⟩⟩
  .by_cases e:j=i
   .subst e;rw[l] at c;cases c;exact absurd U Ρ
   .exact⟨j,m,g,by rw[t j e];exact c,Ρ⟩
  .by_cases e:j=i
   .subst e;rw[Xs] at c;cases c;exact absurd U Ρ
   .exact⟨j,m,g,by rw[t j e] at c;exact c,Ρ⟩
theorem XP.z4 (h:XP n tok spec view rel O Zl home) {s i k:Nat} {l:Ua} {o:Z'} (t:O s=some o) (f:tok i s=.ch k l .work) (v:l=.done\/(l=.idle/\o.ZK=none)) (F:∀r,r≠s->WY (tok i r)) :
  XP n (Zk tok i s (.ch k l .rel)) spec (upd view i (upd (view i) s none)) (upd rel i true) (upd O s (some {o with R:=k::o.R})) Zl home:=by
 have w:i<n:=h.lt (s:=s) (by rw[f];simp)
 have y:RI o (.ch k l .work) {o with R:=k::o.R} (.ch k l .rel):=.Af v
 have u:∀j,j≠i->∀r,Zk tok i s (.ch k l .rel) j r=tok j r:=λj d r=>Xy _ λx=>d x.1
 have A:=h.Sb i s k _ _ f
 have H:k∉o.R:=λB=>by
  obtain⟨j,m,g,c,Ρ⟩:=((h.Q4 s o t).2 k).1 B;have:=h.Ow s j i k m g _ _ c f;subst this;rw[f] at c;cases c;exact Ρ U
 refine h.change t f (.inr ⟨_,_,_,_,_,U,U⟩) ⟨Ks (h.Z0 s o t).1 w f y,Kr (h.Z0 s o t).2 w f y⟩ (Kt w f y) U (λr φ q hv=>Kl hv) (λj p I g d=>?_) (λj p m g J d=>?_) (by rw[upd_ne _ _ (YF A.1)];exact h.Pp) (λj r d D=>?_) (λj p m g d K=>?_) ?_ ?_
 .by_cases e:j=i
  .subst e;rw[Xs] at d;rcases v with rfl|⟨rfl,_⟩<;>cases d
  .rw[u j e] at d;exact h.Yw j s p I g o t d
 .by_cases e:j=i
  .subst e;have C:home j=s:=A.2.1;rw[C,Xs] at d;cases d;rw[upd_same];simp
  .rw[u j e] at d;rw[upd_ne _ _ e];exact h.RF j p m g J d
 .by_cases e:j=i
  .subst e;have C:home j=s:=A.2.1;have E:r≠s:=λx=>D (by rw[x,C]);rw[Xy _ (λx=>E x.2)];exact F r E
  .rw[u j e];rw[upd_ne _ _ e] at d;exact h.Sa j r d D
 .by_cases e:j=i
  .subst e;rw[Xs] at d;cases d;exact v
  .rw[u j e] at d;exact h.R' j s p m g o t d K
 .obtain⟨a,b⟩:=h.R9 s o t;refine⟨a,λp=>(b p).trans ⟨λ⟨j,m,g,c,Ρ⟩=>?_,λ⟨j,m,g,c,Ρ⟩=>?_⟩⟩
  .by_cases e:j=i
   .subst e;rw[f] at c;cases c;exact⟨j,l,.rel,Xs ..,Ρ⟩
   .exact⟨j,m,g,by rw[u j e];exact c,Ρ⟩
  .by_cases e:j=i
   .subst e;rw[Xs] at c;cases c;exact⟨j,l,.work,f,Ρ⟩
   .exact⟨j,m,g,by rw[u j e] at c;exact c,Ρ⟩
 .obtain⟨a,b⟩:=h.Q4 s o t;refine⟨Rb.2 ⟨H,a⟩,λp=>?_⟩;rw[Y9];constructor
  .rintro(rfl|B)
   .exact⟨i,l,.rel,Xs ..,Ω⟩
   .obtain⟨j,m,g,c,Ρ⟩:=(b p).1 B;have e:j≠i:=by rintro rfl;rw[f] at c;cases c;exact Ρ U
    exact⟨j,m,g,by rw[u j e];exact c,Ρ⟩
  .rintro⟨j,m,g,c,Ρ⟩;by_cases e:j=i
   .subst e;rw[Xs] at c;cases c;exact .inl U
   .rw[u j e] at c;exact .inr ((b p).2 ⟨j,m,g,c,Ρ⟩)
theorem XP.gtake (h:XP n tok spec view rel O Zl home) {s i q:Nat} {f:Qg} {o:Z'} (b:O s=some o) (c:tok i s=.par q 0 f) (t:f=.SJ\/f=.w4) :
  XP n (Zk tok i s (.par q 0 .ZO)) spec (upd view i (upd (view i) s none)) rel (upd O s (some o)) Zl home:=by
 have l:i<n:=h.lt (s:=s) (by rw[c];simp)
 have p:RI o (.par q 0 f) o (.par q 0 .ZO):=.gtake t
 have B:∀j,j≠i->∀r,Zk tok i s (.par q 0 .ZO) j r=tok j r:=λj a r=>Xy _ λx=>a x.1
 have cs:∀j r k m g,Zk tok i s (.par q 0 .ZO) j r=.ch k m g↔tok j r=.ch k m g:=λj r k m g=>by
  by_cases e:j=i/\r=s
  .obtain⟨rfl,rfl⟩:=e;rw[Xs,c];simp
  .rw[Xy _ e]
 refine h.change b c (.inl ⟨_,_,_,_,_,_,U,U,λk u=>u⟩) ⟨Ks (h.Z0 s o b).1 l c p,Kr (h.Z0 s o b).2 l c p⟩ (Kt l c p) U (λr φ q hv=>Kl hv) (λj d v g a=>?_) (λj d m g w a=>?_) h.Pp (λj r a y=>?_) (λj d m g a A=>?_) ?_ ?_
 .rw[cs] at a;exact h.Yw j s d v g o b a
 .rw[cs] at a;exact h.RF j d m g w a
 .by_cases e:j=i/\r=s
  .obtain⟨rfl,rfl⟩:=e;rw[Xs];trivial
  .rw[Xy _ e];exact h.Sa j r a y
 .rw[cs] at a;exact h.R' j s d m g o b a A
 .simp only[cs];exact h.R9 s o b
 .simp only[cs];exact h.Q4 s o b
end
def TA (a O':Nat->Option Z'):Prop:=(∀s o',O' s=some o'->∃o,a s=some o/\o.toSpec=o'.toSpec)/\∀s o,a s=some o->∃o',O' s=some o'/\o.toSpec=o'.toSpec
theorem TA.upd {b:Nat->Option Z'} {s:Nat} {o o':Z'} (c:b s=some o) (h:o'.toSpec=o.toSpec):TA b (Go.ConcN.upd b s (some o')):=by
 refine⟨λr q a=>?_,λr q a=>?_⟩
 .by_cases e:r=s
  .subst e;rw[upd_same] at a;cases a;exact⟨o,c,h.symm⟩
  .rw[upd_ne _ _ e] at a;exact⟨q,a,U⟩
 .by_cases e:r=s
  .subst e;rw[c] at a;cases a;exact⟨o',upd_same ..,h.symm⟩
  .exact⟨q,by rw[upd_ne _ _ e];exact a,U⟩
section
variable {H:YT->Τ} {Z4:Nat->Nat->Option (ζ×TypeId)} {tok Qd:Nat->Nat->Tok} {O O':Nat->Option Z'} {Zl:Nat->Nat} {deaf E0:Nat->Nat} {N Q3:Nat} {t:Trace} {Zw w w':World}
theorem Kk {h:YT} {k:Nat} (c:∀s o',O' s=some o'->∃o,O s=some o/\o.toSpec=o'.toSpec) (d:∀i s,Qd i s≠.nil->tok i s≠.nil) (a:U9 tok O t h k):U9 Qd O' t h k:=by
 cases h with
 | inl i=>exact a
 | inr b=>
  refine a.imp id λh s o e f i hi=>?_;obtain⟨g,j,l⟩:=c s o e;exact h s g j (by rw[l];exact f) i (d i s hi)
theorem Vx.z3 (h:Vx H Z4 tok O Zl deaf N t) (a:TA O O') (c:∀i s,Qd i s≠.nil->tok i s≠.nil):Vx H Z4 Qd O' Zl deaf N t:=
 ⟨h.race,h.low,h.norel,λk=>(h.perms k).mono λ_=>Kk a.1 c,h.Sd,λs o b d e=>let ⟨f,g,j⟩:=a.1 s o d;h.cont s f b g (by rw[j];exact e),h.hears⟩
theorem VK.S7 (h:VK H Z4 O Q3) (e:TA O O'):VK H Z4 O' Q3:=
 ⟨h.apart,h.high,h.SF,h.fresh,λs o b a f=>let ⟨g,c,d⟩:=e.1 s o a;h.Uz s g b c (by rw[d];exact f),
  λs i o o' b a j f k=>let ⟨g,c,d⟩:=e.1 s o a;let ⟨l,n,p⟩:=e.1 i o' j;h.Uk s i g l b c n (by rw[d];exact f) (by rw[p];exact k),
  λs o m a r=>let ⟨g,c,d⟩:=e.1 s o a;h.RG s g m c (by rw[d];exact r),
  λb f=>h.XY b λs o a hi=>let ⟨o',c,d⟩:=e.2 s o a;f s o' c (by rw[<-d];exact hi)⟩
theorem Vx.ext (h:Vx H Z4 tok O Zl deaf N t) (K:VK H Z4 O Q3) (i:Nat) {u:Trace} (P:∀c∈u,c.g=i) (r:∀c∈u,c.act.low N) (S:∀c∈u,∀a,c.act≠.mark (.release a))
  (E:∀c∈u,∀b,c.act.touch?=some b->∃s o f w,O s=some o/\X1 s o.toSpec f/\b.loc=.cell ⟨f,w,none⟩/\(b.kind=.atomic\/(b.kind=.said/\i=Zl s)))
  (hd:∀j,Deaf (t++u) j=E0 j):Vx H Z4 tok O Zl E0 N (t++u):=by
 refine⟨λT=>noRace_append (h.race T) P λk a m c d b D L=>?_,λc d=>(Si.1 d).elim (h.low c) (r c),λc d=>(Si.1 d).elim (h.norel c) (S c),λk=>?_,λj b v hv k a m l=>?_,λs o b Q D k a m l=>?_,hd⟩
 .obtain⟨s,o,f,w,A,B,n,C⟩:=E c d b D;obtain⟨U,_,_,R⟩:=L;have l:SK a.loc f:=by rw[U,n];rfl
  rcases h.cont s o f A B k a m l with F|⟨F,V⟩
  .exfalso;rcases R with x|x|⟨_,x,_⟩
   .rw[F] at x;cases x
   .rcases C with y|⟨y,_⟩<;>(rw[y] at x;cases x)
   .rw[F] at x;cases x
  .rcases C with y|⟨y,rfl⟩
   .exfalso;rcases R with x|x|⟨_,_,x⟩
    .rw[F] at x;cases x
    .rw[y] at x;cases x
    .rw[y] at x;cases x
   .obtain⟨z,I,_⟩:=touch_of m;have:=knows_own I;have e:z.g=Zl s:=by simpa[Trace.g?,I] using V
    rwa [e] at this
 .have:Ys (t++u) (U9 tok O (t++u) k) (H k):=(h.perms k).others (λx W=>HK _ W) λc d a m=>by
   obtain⟨s,o,f,w,A,B,n,C⟩:=E c d a m;have w:=(K.Uz s o f A B).2.1 k;refine⟨λb o' v p r L=>?_,λb r D=>?_⟩
   .rw[n] at r;cases r;exact absurd ⟨_,L⟩ (w.1 _)
   .rw[n] at r;cases r
  exact this
 .rcases S6 m with J|⟨_,c,d,_,M⟩
  .exact h.Sd j b v hv k a J l
  .obtain⟨s,o,f,w,A,B,n,C⟩:=E c d a M;rw[n] at l;simp only[SK] at l;subst l;rw[(K.Uz s o f A B).2.2 j] at hv;cases hv
 .rcases S6 m with J|⟨_,c,d,X,M⟩
  .rcases h.cont s o b Q D k a J l with x|⟨x,Y⟩
   .exact .inl x
   .obtain⟨z,I,_⟩:=touch_of J;exact .inr ⟨x,by rw[g?_old (lt_size_of_getElem? I)];exact Y⟩
  .obtain⟨Z,o',f,w,A,B,n,C⟩:=E c d a M;rw[n] at l;simp only[SK] at l;subst l;have es:=K.Uk s Z o o' f Q A D B;subst es;rcases C with x|⟨x,y⟩
   .exact .inl x
   .exact .inr ⟨x,by simp[Trace.g?,X,P c d,y]⟩
theorem Ys.sub {e:Nat->Prop} {G G':Τ} (h:Ys t e G) (f:Sub G' G):Ys t e G':=
 ⟨λb o v p g i a c d j=>let ⟨k,l,m⟩:=f.η b o v p g;h.η b o v k l i a c d (j.imp m id),λb ⟨x,n⟩ i a c d=>h.obj b ⟨x,f.obj b x n⟩ i a c d⟩
theorem Ys.join {g:Nat->Prop} {G E:Τ} (h:Ys t g G) (k:Ys t g E):Ys t g (Go.TL.join G E):=by
 refine⟨λb o v p d i a e f l=>?_,λb m i a e f=>?_⟩
 .simp only[Go.TL.join] at d;cases c:G.η b o with
  | none=>rw[c] at d;exact k.η b o v p d i a e f l
  | some y=>rw[c] at d;cases d;exact h.η b o v p c i a e f l
 .obtain⟨x,j⟩:=m;simp only[Go.TL.join] at j;cases c:G.obj b with
  | none=>rw[c] at j;exact k.obj b ⟨x,j⟩ i a e f
  | some y=>exact h.obj b ⟨y,c⟩ i a e f
theorem Ys.empty {a:Nat->Prop}:Ys t a Τ.empty:=⟨λ_ _ _ _ h=>(by cases h),λ_ ⟨_,h⟩=>(by cases h)⟩
theorem Ys.release {i b:Nat} {G:Τ} {y:MemOp} (h:Ys t (Knows t i) G) (f:y.g=i) (j:y.act=.mark (.releaseMerge ⟨b,0,none⟩)) (hd:Deaf t i=0):Ys (t++#[y]) (U9 tok O (t++#[y]) (.inr b)) G:=by
 have l:(t++#[y])[t.size]?=some y:=Ω
 have s:(t++#[y]).heard t.size:=⟨i,by simp[Trace.g?,f],by rw[deaf_old (Z6 _)];exact hd⟩
 have m:∀k,Knows t i k->U9 tok O (t++#[y]) (.inr b) k:=λk u=>.inl ⟨t.size,y,l,j,s,.inr (u.hb_new (Z6 _) l f)⟩
 have nt:∀k a,touchAt (t++#[y]) k=some a->touchAt t k=some a:=λk a c=>by
  rcases S6 c with w|⟨_,C,n,_,r⟩
  .exact w
  .simp at n;subst n;rw[j] at r;simp[MemAct.touch?] at r
 exact⟨λd o v p x k a c e A=>m k (h.η d o v p x k a (nt k a c) e A),λd B k a c e=>m k (h.obj d B k a (nt k a c) e)⟩
theorem Ys.acquire {i b s:Nat} {o:Z'} {E:Τ} {y:MemOp} (h:Ys t (U9 tok O t (.inr b)) E) (D:∀e∈t,∀a,e.act≠.mark (.release a)) (F:O s=some o) (f:X1 s o.toSpec b) (hi:tok i s≠.nil)
  (r:y.g=i) (u:y.act=.mark (.acquire ⟨b,0,none⟩)) (hd:Deaf t i=0):Ys (t++#[y]) (Knows (t++#[y]) i) E:=by
 have w:(t++#[y])[t.size]?=some y:=Ω
 have H:(t++#[y]).heard t.size:=⟨i,by simp[Trace.g?,r],by rw[deaf_old (Z6 _)];exact hd⟩
 have x:∀k,U9 tok O t (.inr b) k->Knows (t++#[y]) i k:=λk j=>by
  rcases j with⟨p,e,A,I,J,K⟩|j
  .have l:=lt_size_of_getElem? A;refine⟨t.size,y,w,r,.inr ((K.app #[y]).hb (.single (.inr ⟨.marked (a:=⟨b,0,none⟩) l (.inr ?_) ?_ ?_,(heard_old l).2 J,H⟩)))⟩
   .rw[act?_old l,act?_of A,I]
   .rw[act?_of w,u]
   .intro S T L B;rw[act?_old L] at B;obtain⟨M,N,d⟩:=S9.1 B;exact D M (mem_of_getElem? N) _ d
  .exact(j s o F f i hi).app _
 have nt:∀k a,touchAt (t++#[y]) k=some a->touchAt t k=some a:=λk a c=>by
  rcases S6 c with P|⟨_,e,C,_,d⟩
  .exact P
  .simp at C;subst C;rw[u] at d;simp[MemAct.touch?] at d
 exact⟨λm o v p Q k a c n R=>x k (h.η m o v p Q k a (nt k a c) n R),λm f k a c n=>x k (h.obj m f k a (nt k a c) n)⟩
theorem Knows.spawn {i j k:Nat} {y z:MemOp} (h:Knows t i k) (c:y.g=i) (d:y.act=.go j) (a:z.g=j) (f:z.act=.start) (hd:Deaf t i=0) (l:Deaf t j=0):Knows (t++#[y,z]) j k:=by
 have b:(t++#[y,z])[t.size]?=some y:=Ω
 have e:(t++#[y,z])[t.size+1]?=some z:=Ω
 have d1:(t++#[y,z]).heard t.size:=⟨i,by simp[Trace.g?,c],by rw[deaf_old (Z6 _)];exact hd⟩
 have d2:(t++#[y,z]).heard (t.size+1):=⟨j,by simp[Trace.g?,a],by
  rw[deaf_succ b];have:deafStep j ((t++#[y,z]).deaf j t.size) y=(t++#[y,z]).deaf j t.size:=by simp[deafStep,d]
  rw[this,deaf_old (Z6 _)];exact l⟩
 have m:=h.hb_new (u:=#[y,z]) (Z6 _) b c
 have Ρ:HappensBefore (t++#[y,z]) t.size (t.size+1):=.single (.inr ⟨.spawn (child:=j) (by rw[act?_of b,d]) (by rw[act?_of e,f]) (by simp[Trace.g?,a]),d1,d2⟩);exact⟨t.size+1,z,e,a,.inr (m.trans Ρ)⟩
theorem Sub.refl (G:Τ):Sub G G:=⟨λ_ _ _ p h=>⟨p,h,id⟩,λ_ _ h=>h,λ_ _ h=>h⟩
theorem Sub.owns {G G':Τ} (h:Sub G' G) {b o:Nat} (x:G'.owns b o):G.owns b o:=let ⟨v,hv⟩:=x;let ⟨p,a,c⟩:=h.η b o v true hv;⟨v,by rw[a,c rfl]⟩
theorem Sub.has {G G':Τ} (h:Sub G' G) {b o:Nat} (x:G'.has b o):G.has b o:=let ⟨v,hv⟩:=x;let ⟨p,a,_⟩:=h.η b o v.1 v.2 hv;⟨_,a⟩
theorem Sub.Xt {G G':Τ} (h:Sub G' G) {b:Nat} (x:G'.Xt b):G.Xt b:=let ⟨v,hv⟩:=x;⟨v,h.obj b v hv⟩
theorem Sub.off {G G':Τ} (h:Sub G' G) {b:Nat} (x:G.off b):G'.off b:=⟨λo a=>x.1 o (h.has a),λa=>x.2 (h.Xt a)⟩
theorem Sub.fits {G G':Τ} (h:Sub G' G) (x:Fits G w):Fits G' w:=⟨λb o v p a=>let ⟨c,d,_⟩:=h.η b o v p a;x.η b o v c d,λb t n e=>x.row b t n (h.row b _ e),λb v hv=>x.obj b v (h.obj b v hv)⟩
theorem Apart.symm {A B:Τ} (h:Apart A B):Apart B A:=⟨h.Q',h.η,λb a c=>h.obj b c a⟩
theorem Apart.sub {A B d B':Τ} (h:Apart A B) (a:Sub d A) (c:Sub B' B):Apart d B':=
 ⟨λb o x y=>h.η b o (a.owns x) (c.has y),λb o x y=>h.Q' b o (c.owns x) (a.has y),λb x y=>h.obj b (a.Xt x) (c.Xt y)⟩
theorem Apart.Pn (A:Τ):Apart A Τ.empty:=⟨λ_ _ _ ⟨_,h⟩=>(by cases h),λ_ _ ⟨_,h⟩=>(by cases h),λ_ _ ⟨_,h⟩=>(by cases h)⟩
theorem HH {G E:Τ} {b o:Nat} (h:(join G E).owns b o):G.owns b o\/E.owns b o:=by
 obtain⟨v,hv⟩:=h;simp only[join] at hv;cases a:G.η b o with
 | none=>rw[a] at hv;exact .inr ⟨v,hv⟩
 | some y=>rw[a] at hv;cases hv;exact .inl ⟨v,a⟩
theorem EZ {G E:Τ} {b o:Nat} (h:(join G E).has b o):G.has b o\/E.has b o:=by
 obtain⟨v,hv⟩:=h;simp only[join] at hv;cases a:G.η b o with
 | none=>rw[a] at hv;exact .inr ⟨v,hv⟩
 | some y=>exact .inl ⟨y,a⟩
theorem Kj {G E:Τ} {b:Nat} (h:(join G E).Xt b):G.Xt b\/E.Xt b:=by
 obtain⟨v,hv⟩:=h;simp only[join] at hv;cases a:G.obj b with
 | none=>rw[a] at hv;exact .inr ⟨v,hv⟩
 | some y=>exact .inl ⟨y,a⟩
theorem z2 {G E:Τ} {b:Nat} (h:G.off b) (k:E.off b):(join G E).off b:=⟨λo a=>(EZ a).elim (h.1 o) (k.1 o),λa=>(Kj a).elim h.2 k.2⟩
theorem L2 {G E:Τ} (h:Fits G w) (k:Fits E w):Fits (join G E) w:=by
 refine⟨λb o v p c=>?_,λb t n d=>?_,λb v hv=>?_⟩
 .simp only[join] at c;cases a:G.η b o with
  | none=>rw[a] at c;exact k.η b o v p c
  | some y=>rw[a] at c;cases c;exact h.η b o v p a
 .simp only[join] at d;cases a:G.row b with
  | none=>rw[a] at d;exact k.row b t n d
  | some y=>rw[a] at d;cases d;exact h.row b t n a
 .simp only[join] at hv;cases a:G.obj b with
  | none=>rw[a] at hv;exact k.obj b v hv
  | some y=>rw[a] at hv;cases hv;exact h.obj b v a
theorem Apart.Q2 {A B C:Τ} (h:Apart A C) (k:Apart B C):Apart (join A B) C:=
 ⟨λb o x y=>(HH x).elim (λz=>h.η b o z y) (λz=>k.η b o z y),λb o x y=>(EZ y).elim (λz=>h.Q' b o x z) (λz=>k.Q' b o x z),λb x y=>(Kj x).elim (λz=>h.obj b z y) (λz=>k.obj b z y)⟩
theorem Ov (w:World):Fits Τ.empty w:=⟨λ_ _ _ _ h=>(by cases h),λ_ _ _ h=>(by cases h),λ_ _ h=>(by cases h)⟩
theorem VK.two (h:VK H Z4 O Q3) {a b:YT} (S:a≠b) {A B:Τ} (w:Sub A (join (H a) (H b))) (y:Sub B (join (H a) (H b))) (N:Apart A B)
  (I:TA O O') (P:∀x,b=.inr x\/a=.inr x->∃s o,O s=some o/\X1 s o.toSpec x):VK (Zt (Zt H a A) b B) Z4 O' Q3:=by
 have E:=h.S7 I
 have n:Zt (Zt H a A) b B a=A:=by rw[Zs _ _ S,Yj]
 have r:Zt (Zt H a A) b B b=B:=Yj _ _ _
 have j:∀k,k≠a->k≠b->Zt (Zt H a A) b B k=H k:=λk d f=>by rw[Zs _ _ f,Zs _ _ d]
 have F:∀k,k≠a->k≠b->Apart (join (H a) (H b)) (H k):=λk d f=>(h.apart a k (YF d)).Q2 (h.apart b k (YF f))
 have Q:∀x,(∀k,(H k).off x)->(join (H a) (H b)).off x:=λx g=>z2 (g a) (g b)
 have J:∀{p:YT->Prop},p a->p b->(∀k,k≠a->k≠b->p k)->∀k,p k:=λl m T k=>by
  by_cases d:k=a
  .rw[d];exact l
  .by_cases f:k=b
   .rw[f];exact m
   .exact T k d f
 have R:∀x,(∀k,(H k).off x)->∀k,(Zt (Zt H a A) b B k).off x:=λx g=>J (by rw[n];exact w.off (Q x g)) (by rw[r];exact y.off (Q x g)) (λk d f=>by rw[j k d f];exact g k);refine⟨λp q C=>?_,?_,?_,λi x v hv=>?_,λs o x D g=>?_,E.Uk,E.RG,λx g=>?_⟩
 .by_cases l:p=a
  .subst l;by_cases t:q=b
   .subst t;rw[n,r];exact N
   .rw[n,j q (YF C) t];exact(F q (YF C) t).sub w (Sub.refl _)
  .by_cases m:p=b
   .subst m;by_cases u:q=a
    .subst u;rw[n,r];exact N.symm
    .rw[r,j q u (YF C)];exact(F q u (YF C)).sub y (Sub.refl _)
   .by_cases u:q=a
    .subst u;rw[n,j p l m];exact((F p l m).sub w (Sub.refl _)).symm
    .by_cases t:q=b
     .subst t;rw[r,j p l m];exact((F p l m).sub y (Sub.refl _)).symm
     .rw[j p l m,j q u t];exact h.apart p q C
 .exact J (λx o c=>by rw[n] at c;exact(HH (w.owns c)).elim (h.high _ _ _) (h.high _ _ _)) (λx o c=>by rw[r] at c;exact(HH (y.owns c)).elim (h.high _ _ _) (h.high _ _ _)) (λk d f x o c=>by rw[j k d f] at c;exact h.high _ _ _ c)
 .exact J (λx c=>by rw[n] at c;exact(Kj (w.Xt c)).elim (h.SF _ _) (h.SF _ _)) (λx c=>by rw[r] at c;exact(Kj (y.Xt c)).elim (h.SF _ _) (h.SF _ _)) (λk d f x c=>by rw[j k d f] at c;exact h.SF _ _ c)
 .obtain⟨K,L,M⟩:=h.fresh i x v hv;exact⟨K,R x L,M⟩
 .obtain⟨K,L,M⟩:=E.Uz s o x D g;exact⟨K,R x L,M⟩
 .have U:(.inr x:YT)≠b:=λe=>by
   obtain⟨s,o,D,hi⟩:=P x (.inl e.symm);obtain⟨o',d,f⟩:=I.2 s o D;exact g s o' d (by rw[<-f];exact hi)
  have V:(.inr x:YT)≠a:=λe=>by
   obtain⟨s,o,D,hi⟩:=P x (.inr e.symm);obtain⟨o',d,f⟩:=I.2 s o D;exact g s o' d (by rw[<-f];exact hi)
  rw[j _ V U];exact E.XY x g
theorem Sub.Q2 {G E A:Τ} (h:Sub A G):Sub A (join G E):=
 ⟨λb o v p c=>let ⟨d,e,f⟩:=h.η b o v p c;⟨d,by simp[join,e],f⟩,λb x a=>by simp[join,h.row b x a],λb x a=>by simp[join,h.obj b x a]⟩
theorem Wq.two (h:Wq H Z4 O Zw w) {a b:YT} {A B:Τ} (e:Fits A w) (f:Fits B w) (g:∀s o',O' s=some o'->At s o' w):Wq (Zt (Zt H a A) b B) Z4 O' Zw w:=by
 refine⟨λk=>?_,h.TB,g,h.keep⟩;by_cases c:k=b
 .subst c;rw[Yj];exact f
 .rw[Zs _ _ c];by_cases d:k=a
  .subst d;rw[Yj];exact e
  .rw[Zs _ _ d];exact h.fit k
theorem Wq.atom (h:Wq H Z4 O Zw w) (u:VK H Z4 O Q3) (Q:Zw.heap.size=Q3) {s:Nat} {o o':Z'} (v:O s=some o) (R:o'.toSpec=o.toSpec) (d:Xd (λb _=>X1 s o.toSpec b) (λ_=>False) w w') (E:At s o' w') :
  Wq H Z4 (Go.ConcN.upd O s (some o')) Zw w':=by
 refine⟨λk=>(h.fit k).keeps d (λb f a=>((u.Uz s o b v a).2.1 k).1 f) (λb a=>a.elim),λj b c t a=>?_,λr q n=>?_,?_⟩
 .obtain⟨c',g,p,i⟩:=d.cells b c t _ (h.TB j b c t a);have:c'=c:=by
   apply NC;intro f;exact i f λA=>by rw[(u.Uz s o b v A).2.2 j] at a;cases a
  rw[g,this]
 .by_cases e:r=s
  .subst e;rw[upd_same] at n;cases n;exact E
  .rw[upd_ne _ _ e] at n;have B:∀b c t,X1 r q.toSpec b->w.heap[b]?=some (.cells c t (0,0))->w'.heap[b]?=some (.cells c t (0,0)):=λb c t a F=>by
    obtain⟨c',g,p,i⟩:=d.cells b c t _ F;have:c'=c:=by
     apply NC;intro f;exact i f λA=>e (u.Uk r s q o b n v a A)
    rw[g,this]
   obtain⟨⟨I,g⟩,p⟩:=h.W7 r q n;exact⟨⟨I,B _ _ _ (.inl U) g⟩,λm C=>let ⟨J,i⟩:=p m C;⟨J,B _ _ _ (.inr C) i⟩⟩
 .have l:=h.keep;refine⟨XQ l.size d.size,λb c t D a=>?_,λb x a y _=>d.S7 b x (l.S7 b x a y id) y id,l.os.trans d.os,d.output.trans l.output,d.tape.trans l.tape⟩;obtain⟨K,g,p,i⟩:=l.cells b c t D a;obtain⟨L,M,N,P⟩:=d.cells b K t D g;refine⟨L,M,by rw[N,p],λf _=>?_⟩;rw[P f λy=>?_,i f id];have:=(u.Uz s o b v y).1;have:=Xc a;omega
end
structure Nv (H:YT->Τ) (tok:Nat->Nat->Tok) (a:Nat->Option Z'):Prop where
 RE:∀s o m,a s=some o->o.ZK=some m->(∀i q p,tok i s≠.par q p .ZO)->(∀i k L g,tok i s≠.ch k (.Yw L) g)->o.XI o.L (H (.inr m))
 R8:∀s o,a s=some o->(∀i q p,tok i s≠.par q p .ZO)->T6 o.D o.R (H (.inr s))
structure Ou (n:Nat) (tok:Nat->Nat->Tok) (d:Nat->Bool) (c a b:Nat->Nat) (t:Trace):Prop where
 Q1:∀k g,t.g? k=some g->g<n
 c1:∀i,i≠0->d i=true->∃e,t[b i]?=some e/\e.g=i/\e.act=.mark (.releaseMerge ⟨a i,0,none⟩)/\t.heard (b i)/\∀k,t.g? k=some i->t.counts k->Before t k (b i)
 c2:∀i,i≠0->d i=true->(∃q p,tok (c (a i)) (a i)=.par q p .ZO)->Knows t (c (a i)) (b i)
 c3:∀i,i≠0->d i=true->c (a i)≠0->d (c (a i))=true->Before t (b i) (b (c (a i)))
structure Nu (c:Nat->Nat->Option (ζ×TypeId)) (tok:Nat->Nat->Tok) (d:Nat->Option Z') (e:Nat->Bool) (f:Nat->Nat) (t:Trace):Prop where
 Ot:∀s o m,d s=some o->o.ZK=some m->∀p a,t[p]?=some a->a.act=.mark (.releaseMerge ⟨m,0,none⟩)->(∃k h g,tok a.g s=.ch k h g)/\(e a.g=true->Before t p (f a.g))
 Oq:∀i b v,c i b=some v->∀a∈t,a.act≠.mark (.releaseMerge ⟨b,0,none⟩)
def Rec (P:Program) (b:Value->Prop) (c:YE) (i:Nat) (g:Goroutine):Prop:=
 ∃S2,U' P b (c.T i) (i==0) S2 (c.x i)/\(g=S2\/(Vy S2/\g={S2 with status:=.blocked}/\∃s o,c.O s=some o/\UP o (c.tok i s)/\∀a,a≠s->S3 (c.tok i a)))
structure Inv (P:Program) (d:Value->Prop) (b:World) (c:YE) (a:Array Goroutine) (w:World) (t:Trace):Prop where
 pos:0<a.size
 mem:Wq c.H c.Z4 c.O b w
 hold:VK c.H c.Z4 c.O b.heap.size
 Zp:Vx c.H c.Z4 c.tok c.O c.Zl c.deaf w.heap.size t
 Y4:XP a.size c.tok c.spec c.view c.rel c.O c.Zl c.home
 XY:Nv c.H c.tok c.O
 X5:Ou a.size c.tok c.rel c.Zl c.home c.Xz t
 Wp:Nu c.Z4 c.tok c.O c.rel c.Xz t
 Oo:∀i g,a[i]?=some g->Rec P d c i g
theorem L1 {t u:Trace} {k:Nat} (h:k<t.size):(t++u).counts k↔t.counts k:=by
 unfold Trace.counts;rw[act?_old h,heard_old h]
theorem Ou.app {n:Nat} {tok l:Nat->Nat->Tok} {m:Nat->Bool} {y A B:Nat->Nat} {t u:Trace} (h:Ou n tok m y A B t) {i:Nat} (hi:i<n) (C:∀b∈u,b.g=i)
  (F:m i=true->∀k,t.size<=k->¬(t++u).counts k) (Q:∀s q p,(∃j,l j s=.par q p .ZO)->∃j,tok j s=.par q p .ZO) (H:∀j s q p,l j s=.par q p .ZO->tok j s=.par q p .ZO):Ou n l m y A B (t++u):=by
 refine⟨λk g o=>?_,λj c a=>?_,λj c a I=>?_,λj c a f r=>(h.c3 j c a f r).app u⟩
 .obtain⟨b,v,d⟩:=S9.1 o;rcases getElem?_append_cases v with⟨_,w⟩|⟨_,x⟩
  .exact h.Q1 k g (by simp[Trace.g?,w,d])
  .rw[<-d,C b x];exact hi
 .obtain⟨b,f,r,J,K,L⟩:=h.c1 j c a;have D:=lt_size_of_getElem? f;refine⟨b,by rw[getElem?_append_old D];exact f,r,J,(heard_old D).2 K,λk o E=>?_⟩;obtain⟨M,v,d⟩:=S9.1 o;rcases getElem?_append_cases v with⟨N,w⟩|⟨O,x⟩
  .exact(L k (by simp[Trace.g?,w,d]) ((L1 N).1 E)).app u
  .have e:j=i:=by rw[<-d,C M x]
   subst e;exact absurd E (F a k O)
 .obtain⟨q,p,P⟩:=I;exact(h.c2 j c a ⟨q,p,H _ _ _ _ P⟩).app u
section
variable {P:Program} {Q:Value->Prop} {Zw:World} {c:YE} {gs:Array Goroutine} {w:World} {t:Trace}
theorem Inv.stat (h:Inv P Q Zw c gs w t) {i:Nat} {g:Goroutine} (m:gs[i]?=some g):g.status=.running\/(i≠0/\g.status=.finished/\c.rel i=true/\∀s,Gone (c.tok i s))\/(g.status=.blocked/\∃s o,c.O s=some o/\UP o (c.tok i s)/\∀k,k≠s->S3 (c.tok i k)):=by
 obtain⟨r,d,n⟩:=h.Oo i g m;rcases n with rfl|⟨_,rfl,p⟩
 .cases l:c.T i with
  | leaf=>
   rw[l] at d;rcases d.2 with⟨_,a⟩|⟨e,a,b,j,_⟩
   .exact .inl a.1.1
   .exact .inr (.inl ⟨by rintro rfl;simp at e,j,a,b⟩)
  | node f=>
   rw[l] at d;rcases d.2 with(⟨_,a⟩|⟨e,a,b,j,_⟩)|a
   .exact .inl a.1.1
   .exact .inr (.inl ⟨by rintro rfl;simp at e,j,a,b⟩)
   .rcases a with⟨_,b,_⟩|⟨b,_⟩
    .exact .inl b
    .exact .inl b.1
 .exact .inr (.inr ⟨U,p⟩)
theorem z1 {t:Tok} (h:Sf t):∃k m g,t=.ch k m g/\¬S3 t/\(∀o,¬UP o t)/\m≠.done/\m≠.idle:=by
 cases t with
 | nil=>exact h.elim
 | par=>exact h.elim
 | ch k m g=>
  refine⟨k,m,g,U,?_⟩;cases m with
  | act b=>cases b<;>first|exact h.elim|simp[S3,UP]
  | _=>first|exact h.elim|simp[S3,UP]
theorem Inv.awake (h:Inv P Q Zw c gs w t):∃(i:Nat) (g:Goroutine),gs[i]?=some g/\g.status=.running:=by
 apply Tb;intro N;have F:∀i,i<gs.size->(c.rel i=true/\∀s,Gone (c.tok i s))\/∃s o,c.O s=some o/\UP o (c.tok i s)/\∀b,b≠s->S3 (c.tok i b):=λi hi=>by
  have C:gs[i]?=some gs[i]:=Xu hi;rcases h.stat C with f|⟨_,_,f⟩|⟨_,f⟩
  .exact absurd ⟨i,_,C,f⟩ N
  .exact .inl f
  .exact .inr f
 have R:∀i s o n p,c.O s=some o->c.tok i s=.par n p .w3->o.YK=0->∃j b o' y A,i<j/\j<gs.size/\c.O b=some o'/\c.tok j b=.par y A .w3/\o'.YK=0:=λi s o n p u B H=>by
  have S:i<gs.size:=h.Y4.lt (s:=s) (by rw[B];simp);obtain⟨j,I,T⟩:=z' (h.Y4.Z0 s o u).2 (i:=i) S B H;have x:Q6 (c.tok j s):=T;have V:∃k m g,c.tok j s=.ch k m g/\g≠.gone:=by
   cases v:c.tok j s with
   | nil=>rw[v] at x;exact x.elim
   | par=>rw[v] at x;exact x.elim
   | ch k m g=>rw[v] at x;exact⟨k,m,g,rfl,by rintro rfl;exact x⟩
  obtain⟨k,m,g,v,C⟩:=V;obtain⟨_,W,av⟩:=h.Y4.Sb j s k m g v;have hi:=h.Y4.par i s n p _ B;rcases F j I with⟨_,f⟩|⟨b,o',K,l,aw⟩
  .have:=f s;rw[v] at this;cases g<;>first|exact absurd rfl C|exact this.elim
  .by_cases e:b=s
   .subst e;rw[u] at K;cases K;rw[v] at l;have X:m=.q/\o.Yp=0:=by cases m<;>simp_all [UP]
    obtain⟨rfl,Y⟩:=X;have Z:0<ZQ gs.size (λa=>c.tok a b) T':=by
     have:=Xi (λa=>c.tok a b) T' I;simp only[v,T',L9] at this;omega
    obtain⟨a,aa,ab⟩:=Aa (h.Y4.Z0 b o u).1 Z Y;obtain⟨D,E,g',ad,ae,af,ag,ah⟩:=z1 ab;have L:c.tok a b=.ch D E g':=ad;exfalso;rcases F a aa with⟨_,f⟩|⟨ai,ax,ay,aj,ak⟩
    .have M:=f b;rw[L] at M;have:g'≠.work:=by rintro rfl;exact M
     rcases h.Y4.R' a b D E g' o u L this with e|⟨e,_⟩
     .exact ag e
     .exact ah e
    .by_cases Ρ:ai=b
     .subst Ρ;exact af _ aj
     .exact ae (ak b (YF Ρ))
   .cases r:c.tok j b with
    | nil=>rw[r] at l;exact l.elim
    | ch D E g'=>exact absurd ((h.Y4.Sb j b D E g' r).2.1.symm.trans W) e
    | par y A al=>
     rw[r] at l;cases al<;>first|exact l.elim|exact⟨j,b,o',y,A,J,I,K,r,l⟩
 have am:∀d i s o n p,gs.size-i=d->i<gs.size->c.O s=some o->c.tok i s=.par n p .w3->o.YK=0->False:=λd=>by
  induction d using Nat.strongRecOn with
  | _ d an=>
   intro i s o n p hd hi u B H;obtain⟨j,b,o',y,A,f,ao,ap,aq,ar⟩:=R i s o n p u B H;exact an (gs.size-j) J j b o' y A U ao ap aq ar
 rcases F 0 h.pos with⟨f,_⟩|⟨s,o,u,l,_⟩
 .rw[h.Y4.Pp] at f;cases f
 .cases r:c.tok 0 s with
  | nil=>rw[r] at l;exact l.elim
  | ch k m g=>exact(h.Y4.Sb 0 s k m g r).1 rfl
  | par n p au=>
   rw[r] at l;cases au<;>first|exact l.elim|exact am _ 0 s o n p rfl h.pos u r l
theorem Rec.woken {c':YE} {i j:Nat} {g g' b:Goroutine} {w':World} (h:Rec P Q c j b) (k:c'.x j=c.x j) (l:c'.T j=c.T j)
  (hw:(mayWake P g=true/\Vy g')\/∀s o,c.O s=some o->UP o (c.tok j s)->∃o',c'.O s=some o'/\UP o' (c.tok j s)):Rec P Q c' j (Go.Conc.woken P g g' w' b):=by
 have r:c'.tok j=c.tok j:=congrArg ZU.tok k;obtain⟨m,d,A⟩:=h;rcases A with rfl|⟨t,rfl,s,o,n,B,C⟩
 .have n:b.status=.running\/b.status=.finished:=by
   cases u:c.T j with
   | leaf=>
    rw[u] at d;rcases d.2 with⟨_,a⟩|⟨_,_,_,p,_⟩
    .exact .inl a.1.1
    .exact .inr p
   | node f=>
    rw[u] at d;rcases d.2 with(⟨_,a⟩|⟨_,_,_,p,_⟩)|a
    .exact .inl a.1.1
    .exact .inr p
    .rcases a with⟨_,e,_⟩|⟨e,_⟩
     .exact .inl e
     .exact .inl e.1
  have:Go.Conc.woken P g g' w' b=b:=by
   unfold Go.Conc.woken;split
   .exact again_running _ n
   .rfl
  rw[this];exact⟨b,by rw[k,l];exact d,.inl U⟩
 .unfold Go.Conc.woken;split
  .rename_i v;refine⟨m,by rw[k,l];exact d,.inl ?_⟩;obtain⟨w,y⟩:=t;obtain⟨π,ZO,st,D,of⟩:=m;simp only at w y;subst w y;rfl
  .rename_i v;rcases hw with⟨a,e⟩|hw
   .exfalso;apply v;simp[a,e.1]
   .obtain⟨o',a,e⟩:=hw s o n B;exact⟨m,by rw[k,l];exact d,.inr ⟨t,U,s,o',a,by rw[r];exact e,by rw[r];exact C⟩⟩
end
section
variable {P:Program} {Q:Value->Prop} {Zw:World} {c:YE} {gs:Array Goroutine} {w:World} {t:Trace}
theorem Inv.at (h:Inv P Q Zw c gs w t) (d:Nat):Inv P Q Zw c gs (w.at d) t:=⟨h.pos,h.mem.at d,h.hold,h.Zp,h.Y4,h.XY,h.X5,h.Wp,h.Oo⟩
theorem Inv.gone (h:Inv P Q Zw c gs w t) (F:∀s,WY (c.tok 0 s)):∀j,j≠0->j<gs.size->c.rel j=true/\(∀s,Gone (c.tok j s))/\Knows t 0 (c.Xz j):=by
 have H:∀t:Tok,WY t->Gone t:=λt d=>by cases t with
  | nil=>trivial
  | par _ _ b=>cases b<;>first|exact d.elim|trivial
  | ch=>exact d.elim
 intro j
 induction j using Nat.strongRecOn with
 | _ j I=>
  intro i l;obtain⟨k,m,g,d⟩:=h.Y4.Qe j i l;obtain⟨_,_,J⟩:=h.Y4.Sb j _ k m g d;cases A:c.O (c.home j) with
  | none=>have:=h.Y4.bare _ A j;rw[d] at this;cases this
  | some o=>
  have n:=h.Y4.Z0 _ o A;obtain⟨u,B,C⟩:=Kq (φ:=XH) (N:=gs.size) (τ:=λa=>c.tok a (c.home j)) (by rw[n.2.SG];exact Nat.one_pos);have K:∃q p b,c.tok u (c.home j)=.par q p b:=by
   cases f:c.tok u (c.home j) with
   | par q p b=>exact⟨q,p,b,rfl⟩
   | nil=>simp[f,XH] at C
   | ch=>simp[f,XH] at C
  obtain⟨q,p,b,f⟩:=K;have L:=h.Y4.par u _ q p b f;subst L;have M:b=.ZO/\(c.Zl (c.home j)≠0->c.rel (c.Zl (c.home j))=true/\Knows t 0 (c.Xz (c.Zl (c.home j)))):=by
   by_cases e:c.Zl (c.home j)=0
   .have:=F (c.home j);rw[<-e,f] at this;refine⟨by cases b<;>first|exact this.elim|rfl,λx=>absurd e x⟩
   .obtain⟨v,y,R⟩:=I _ J e B;have:=y (c.home j);rw[f] at this;exact⟨by cases b<;>first|exact this.elim|rfl,λ_=>⟨v,R⟩⟩
  obtain⟨rfl,S⟩:=M;have T:ZQ gs.size (λa=>c.tok a (c.home j)) VL=1:=by
   rw[RH (φ:=VL) (λt d=>by cases t<;>simp_all [XH,VL]) n.2.SG B (by rw[f];rfl),f];rfl
  obtain⟨f1,f2,f3,f4,f5,f6⟩:=n.2.Fo T;have V:=n.2.HQ;have l1:=Xi (λa=>c.tok a (c.home j)) Vo l;have l2:=Xi (λa=>c.tok a (c.home j)) UR l;have D:=Xi (λa=>c.tok a (c.home j)) UQ l;simp only[d,Vo,UR,UQ] at l1 l2 D;have U:g=.gone:=by
   cases g with
   | gone=>rfl
   | work=>simp only[Qf] at l1;omega
   | rel=>simp only[Qf] at l1;omega
   | l2=>simp only[OC] at l2;omega
   | RK=>simp only[OB] at D;omega
  subst U;have r:c.rel j=true:=(h.Y4.RF j k m _ i d).2 Ω;refine⟨r,λs=>?_,?_⟩
  .by_cases e:s=c.home j
   .subst e;rw[d];trivial
   .exact H _ (h.Y4.Sa j s r e)
  .have E:=h.X5.c2 j i r ⟨q,p,f⟩;by_cases e:c.Zl (c.home j)=0
   .rw[e] at E;exact E
   .obtain⟨v,y⟩:=S e;exact Knows.of_before (h.X5.c3 j i r e v) y
theorem z0 {o:Z'} {x:Tok} (h:Gone x) (a:∀k m g,x=.ch k m g->m≠.q):¬UP o x:=by
 cases x with
 | nil=>exact id
 | par _ _ b=>cases b<;>first|exact h.elim|exact id
 | ch k m g=>cases m<;>first|exact absurd rfl (a _ _ _ rfl)|exact id
theorem Inv.EY (h:Inv P Q Zw c gs w t) {g:Goroutine} (am:gs[0]?=some g) (C:E4 P g (c.x 0) Q) (sl:Option (Nat×Nat)) (w1:World) :
  ∃v es,stepG P true g w=.ended (.done v) w es/\Good P (λv w'=>Q v/\Xd (λ_ _=>False) (λ_=>False) Zw w') (crowd gs w1 sl) (.done v) w (t++MemOp.ofEvents 0 g.frame.fn g.frame.place es):=by
 obtain⟨_,O,hd,R⟩:=C;obtain⟨v,es,S,V,W⟩:=R w (h.mem.fit (.inl 0));refine⟨v,es,S,v,U,⟨W,h.mem.keep⟩,?_⟩;have F:=h.gone O;have I:=h.Zp.own (w':=w) h.mem h.hold 0 (G':=c.H (.inl 0)) (V':=c.Z4 0) (es:=es) (fn:=g.frame.fn) (pos:=g.frame.place) (Z6 _)
  ⟨λb o v p i=>.inr ⟨v,p,i,id⟩,λb X=>.inr X⟩ (λb x a=>.inl a) V (λb x a an=>by
   have:=Xc (h.mem.TB 0 b x.1 x.2 a);omega)
 have K:∀j x,j≠0->gs[j]?=some x->∃n,QuitsD P n (c.deaf j) x:=λj x d a=>by
  have Y:=(TJ.1 a).1;obtain⟨r,u,_⟩:=F j d Y;obtain⟨Z,y,i⟩:=h.Oo j x a;have l:∃n,QuitsD P n (c.deaf j) Z:=by
   cases L:c.T j with
   | leaf=>rw[L] at y;exact y.1 r u
   | node f=>rw[L] at y;exact y.1 r u
  rcases i with rfl|⟨_,_,s,o,C,aa,_⟩
  .exact l
  .refine absurd aa (z0 (u s) λk m g e ab=>?_);subst ab;have ad:g≠.work:=by rintro rfl;have:=u s;rw[e] at this;exact this
   rcases h.Y4.R' j s k _ g o C e ad with x|⟨x,_⟩<;>cases x
 refine⟨I.race,λk g' ae A i=>?_,⟨λx a=>?_,U⟩,λj x a d=>?_⟩
 .obtain⟨ao,af,M⟩:=S9.1 ae;rcases getElem?_append_cases af with⟨ag,ah⟩|⟨_,ai⟩
  .have B:t.g? k=some g':=by simp[Trace.g?,ah,M]
   have aj:=h.X5.Q1 k g' B;obtain⟨r,_,ak⟩:=F g' A aj;obtain⟨ap,aq,Ρ,ar,au,al⟩:=h.X5.c1 g' A r;obtain⟨q,z,D,N,E⟩:=Knows.of_before (al k B ((L1 ag).1 i)) ak;refine⟨q,by simp[Trace.g?,getElem?_append_old (lt_size_of_getElem? D),D,N],?_⟩;rcases E with rfl|E
   .exfalso;simp[Trace.g?,D,N] at B;exact A B.symm
   .exact hb_app _ E
  .obtain⟨e,_,rfl⟩:=Go.Conc.mem_ofEvents ai;exact absurd M.symm A
 .obtain⟨j,d⟩:=List.mem_iff_getElem?.1 a;rw[TI] at d;obtain⟨n,l⟩:=K (1+j) x J (by simpa[crowd] using d);exact⟨n,l.leaves⟩
 .obtain⟨n,l⟩:=K j x d a;refine⟨n,?_⟩;have e:(t++MemOp.ofEvents 0 g.frame.fn g.frame.place es).deaf j (t++MemOp.ofEvents 0 g.frame.fn g.frame.place es).size=c.deaf j:=I.hears j;rw[e];exact l.hears _
def Comes (P:Program) (Q:Value->Prop) (Zw:World) (m:Machine) (t:Trace):Prop:=
 ∃N a o w' t',runNT P (N+1) m t=(.ended o w',t')/\runN P N m=.next a/\step P a=.ended o w'/\Good P (λv w'=>Q v/\Xd (λ_ _=>False) (λ_=>False) Zw w') a o w' t'
theorem Comes.next {m a:Machine} {u:Trace} (b:stepT P m=(.next a,u)) (h:Comes P Q Zw a (t++u)):Comes P Q Zw m t:=by
 obtain⟨n,last,o,w,t',c,d,e,f⟩:=h;exact⟨n+1,last,o,w,t',by rw[runNT_succ_next b];exact c,by rw[runN_succ_next b];exact d,e,f⟩
theorem Comes.last {m:Machine} {u:Trace} {o:Outcome} {w:World} (a:stepT P m=(.ended o w,u)) (b:Good P (λv w'=>Q v/\Xd (λ_ _=>False) (λ_=>False) Zw w') m o w (t++u)):Comes P Q Zw m t:=
 ⟨0,m,o,w,t++u,by simp[runNT,a],U,by simp[step,a],b⟩
def Nt (gs:Array Goroutine):Nat:=(gs.toList.filter λg=>decide (g.status=.running)).length
structure Ord (a:ο) (n:Nat):Prop where
 nodup:a.Nodup
 mem:∀i,i∈a↔i<n
theorem Ord.part {c:ο} {n i:Nat} (h:Ord c n) (hi:i<n):∃a b,c=a++i::b/\i∉a/\i∉b:=by
 obtain⟨a,b,rfl⟩:=List.append_of_mem ((h.mem i).2 hi);have:=h.nodup;rw[List.nodup_append] at this;obtain⟨_,d,e⟩:=this;rw[Rb] at d;exact⟨a,b,U,λf=>e i f i Ω U,d.1⟩
theorem Ns {B:Type} {T:Nat->B} {i:Nat} {x:B} {l:ο} (h:i∉l):l.map (upd T i x)=l.map T:=by
 apply Mh;intro j a;exact upd_ne _ _ (λe=>h (e▸a))
theorem Ord.one {B:Type} {c:ο} {n i:Nat} (h:Ord c n) (hi:i<n) {T:Nat->WV B} {f:B->WV B} (d:T i=.node f) (k:B):S4 (c.map (upd T i (f k))) (c.map T):=by
 obtain⟨a,b,rfl,e,g⟩:=h.part hi;simp only[XA,WZ,Ns e,Ns g,upd_same,d];exact .one _ _ _ _
theorem Ord.two {B:Type} {g:ο} {n i:Nat} (h:Ord g n) (hi:i<n) {T:Nat->WV B} {f:B->WV B} (t:T i=.node f) (k u:B) :
  ∃m,Ord m (n+1)/\S4 (m.map (upd (upd T i (f k)) n (f u))) (g.map T):=by
 have o:n∉g:=λc=>by have:=(h.mem n).1 c;omega
 obtain⟨a,b,rfl,v,w⟩:=h.part hi;have p:n∉a:=λc=>o (by simp[c]);have r:n∉b:=λc=>o (by simp[c]);refine⟨a++i::n::b,⟨?_,λj=>?_⟩,?_⟩
 .have:=h.nodup;rw[List.nodup_append] at this ⊢;obtain⟨A,l,s⟩:=this;rw[Rb] at l;refine⟨A,?_,λx c y d=>?_⟩
  .rw[Rb,Rb];exact⟨by simp;exact⟨J,l.1⟩,r,l.2⟩
  .simp at d;rcases d with rfl|rfl|d
   .exact s x c _ Ω
   .rintro rfl;exact p c
   .exact s x c y (by simp[d])
 .have:=h.mem j;simp only[V4,Y9] at this ⊢;constructor
  .rintro(c|rfl|rfl|c)
   .have:=this.1 (.inl c);omega
   .omega
   .omega
   .have:=this.1 (.inr (.inr c));omega
  .intro c;by_cases e:j=n
   .exact .inr (.inr (.inl e))
   .rcases this.2 J with c|rfl|c
    .exact .inl c
    .exact .inr (.inl U)
    .exact .inr (.inr (.inr c))
 .have C:i≠n:=by omega
  simp only[XA,WZ,Ns p,Ns r,Ns v,Ns w,upd_same,upd_ne _ _ C,t];exact .two _ _ _ _ _
end
theorem Ki {B:Type} {f:Nat->B} {k:Nat} {x:B} (h:f k=x):upd f k x=f:=by
 funext j
 by_cases e:j=k
 .subst e;rw[upd_same,h]
 .rw[upd_ne _ _ e]
theorem Vw (H:YT->Τ) (i:Nat) (G:Τ) (b:Nat):Zt H (.inl i) G (.inr b)=H (.inr b):=Zs H G Ω
theorem On (tok:Nat->Nat->Tok) (i s:Nat) (t:Tok):Zk tok i s t i=upd (tok i) s t:=by unfold Zk;rw[upd_same]
theorem Qc {tok:Nat->Nat->Tok} {i s j:Nat} (t:Tok) (h:j≠i):Zk tok i s t j=tok j:=by unfold Zk;rw[upd_ne _ _ h]
theorem Tz {B:Type} {a:Array B} {k:Nat} {x:B} (h:a[k]?=some x):k<a.size:=(TJ.1 h).1
theorem ofEvents_g {i:Nat} {fn:FuncId} {pos:String} {es:Array Event}:∀a∈MemOp.ofEvents i fn pos es,a.g=i:=λa b=>by obtain⟨e,_,rfl⟩:=Go.Conc.mem_ofEvents b;rfl
theorem EX {i:Nat} {fn:FuncId} {pos:String}:MemOp.ofEvents i fn pos #[]=#[]:=by rw[ofEvents_eq];simp
theorem zZ (t:Trace) (i:Nat) (fn:FuncId) (pos:String) (es:Array Event) {j:Nat} (b:j<=es.size):(t++MemOp.ofEvents i fn pos es).deaf i (t.size+j)=deafBehind (Deaf t i) (es.extract 0 j):=by
 have e:t++MemOp.ofEvents i fn pos es=(t++MemOp.ofEvents i fn pos (es.extract 0 j))++MemOp.ofEvents i fn pos (es.extract j es.size):=by
  rw[OJ];congr 1;rw[ofEvents_eq,ofEvents_eq,ofEvents_eq,<-Array.map_append];congr 1;simp only[Array.extract_append_extract];rw[show max j es.size=es.size by omega];simp
 have a:(t++MemOp.ofEvents i fn pos (es.extract 0 j)).size=t.size+j:=by rw[Array.size_append,ofEvents_eq];simp;omega
 rw[e,deaf_old J,<-a];exact Deaf_own t i fn pos _
theorem HG {t u:Trace} {k:Nat} (c:t.size<=k) (d:(t++u).counts k):∃a,u[k-t.size]?=some a/\(t++u)[k]?=some a/\∃x,a.act.touch?=some x/\x.loc.isMemory=true/\(x.kind≠.atomic\/(t++u).heard k):=by
 obtain⟨x,e,f,g⟩:=d;obtain⟨a,b,h⟩:=touch_of (t:=t++u) (i:=k) e;exact⟨a,by rw[KS c] at b;exact b,b,x,h,f,g⟩
theorem Nr {t u:Trace} (h:∀a∈u,a.act.touch?=none):∀k,t.size<=k->¬(t++u).counts k:=λk c d=>by
 obtain⟨a,e,_,x,b,_⟩:=HG c d;rw[h a (mem_of_getElem? e)] at b;cases b
theorem zY {t:Trace} {i:Nat} {fn:FuncId} {pos:String} {es:Array Event} (h:∀e∈es,Ko e):∀k,t.size<=k->¬(t++MemOp.ofEvents i fn pos es).counts k:=λk c d=>by
 obtain⟨l,f,_,x,b,g,_⟩:=HG c d;obtain⟨e,j,rfl⟩:=Go.Conc.mem_ofEvents (mem_of_getElem? f);obtain⟨m,wr,n⟩:=e;rcases h _ j with a|a<;>simp only at a<;>subst a<;>simp[MemAct.ofEvent,MemAct.touch?] at b;subst b;simp[Loc.isMemory] at g
theorem Kh {s d i:Nat} {sp:Spec} {es:Array Event} {fn:FuncId} {pos:String} (h:Se s sp d es) {c:MemOp} (g:c∈MemOp.ofEvents i fn pos es) :
  (c.act=.mark .disable\/c.act=.mark .enable)\/∃b f wr,c.act=.access ⟨.cell ⟨b,f,none⟩,wr,true⟩/\X1 s sp b:=by
 obtain⟨e,k,rfl⟩:=Go.Conc.mem_ofEvents g;obtain⟨j,l⟩:=KL.1 k;obtain⟨n,wr,o⟩:=e;rcases h.2 j _ l with a|a|⟨b,f,p,a,m,_⟩
 .simp only at a;subst a;exact .inl (.inl U)
 .simp only at a;subst a;exact .inl (.inr U)
 .cases a;exact .inr ⟨b,f,_,U,m⟩
theorem zX {t:Trace} {s i:Nat} {sp:Spec} {fn:FuncId} {pos:String} {es:Array Event} (h:Se s sp (Deaf t i) es):∀k,t.size<=k->¬(t++MemOp.ofEvents i fn pos es).counts k:=λk m n=>by
 obtain⟨u,f,o,x,c,v,d⟩:=HG m n;rw[ofEvents_eq,Px] at f;obtain⟨e,j,rfl⟩:=S9.1 f;have p:k-t.size<es.size:=Tz j;obtain⟨w,wr,y⟩:=e;rcases h.2 _ _ j with a|a|⟨b,A,B,a,C,hd⟩
 .simp only at a;subst a;simp[MemAct.ofEvent,MemAct.touch?] at c
 .simp only at a;subst a;simp[MemAct.ofEvent,MemAct.touch?] at c
 .cases a;simp[MemAct.ofEvent,MemAct.touch?] at c;subst c;rcases d with d|⟨g,l,r⟩
  .exact d U
  .simp[Trace.g?,o] at l;subst l;have:=zZ t i fn pos es (SM p);rw[show t.size+(k-t.size)=k by omega] at this;rw[this] at r;omega
section
variable {P:Program} {Q:Value->Prop} {Zw:World} {c c':YE} {gs:Array Goroutine} {w w':World} {t:Trace} {i:Nat} {g g':Goroutine} {es:Array Event}
theorem Inv.low (h:Inv P Q Zw c gs w t) {s b:Nat} {o:Z'} (a:c.O s=some o) (hb:X1 s o.toSpec b):b<w.heap.size:=by
 obtain⟨⟨g,d⟩,e⟩:=h.mem.W7 s o a;rcases hb with rfl|hb
 .exact Xc d
 .obtain⟨i,f⟩:=e b hb;exact Xc f
theorem Inv.obj (h:Inv P Q Zw c gs w t) {s:Nat} (a:c.tok i s≠.nil):∃o,c.O s=some o:=by
 cases b:c.O s with
 | none=>exact absurd (h.Y4.bare s b i) a
 | some o=>exact⟨o,rfl⟩
theorem Vx.grow {H:YT->Τ} {a:Nat->Nat->Option (ζ×TypeId)} {tok:Nat->Nat->Tok} {b:Nat->Option Z'} {c d:Nat->Nat} {N e:Nat} (h:Vx H a tok b c d N t) (f:N<=e):Vx H a tok b c d e t:=
 ⟨h.race,λg i=>MemAct.low_mono f (h.low g i),h.norel,h.perms,h.Sd,h.cont,h.hears⟩
theorem Nu.app {i l:Nat->Nat->Option (ζ×TypeId)} {tok n:Nat->Nat->Tok} {r O':Nat->Option Z'} {w:Nat->Bool} {x:Nat->Nat} {u:Trace} {N:Nat} (h:Nu i tok r w x t) (A:∀a∈t,a.act.low N)
  (y:∀a∈u,∀b,a.act≠.mark (.releaseMerge ⟨b,0,none⟩)) (hv:∀j b v,l j b=some v->(∃f,i j b=some f)\/N<=b) (B:∀s o',O' s=some o'->∃o,r s=some o/\o.ZK=o'.ZK)
  (C:∀j s k d g,tok j s=.ch k d g->∃k d g,n j s=.ch k d g):Nu l n O' w x (t++u):=by
 refine⟨λs o' m D E p a F c=>?_,λj b v H a I c=>?_⟩
 .obtain⟨o,J,K⟩:=B s o' D;rcases getElem?_append_cases F with⟨_,L⟩|⟨_,M⟩
  .obtain⟨⟨k,d,g,O⟩,P⟩:=h.Ot s o m J (by rw[K];exact E) p a L c;exact⟨C _ _ _ _ _ O,λQ=>(P Q).app u⟩
  .exact absurd c (y a M m)
 .rcases Si.1 I with e|e
  .rcases hv j b v H with⟨f,R⟩|hle
   .exact h.Oq j b f R a e c
   .have:=A a e;rw[c] at this;simp only[MemAct.low] at this;omega
  .exact y a e b c
theorem Nv.L0 {H H':YT->Τ} {tok:Nat->Nat->Tok} {c:Nat->Option Z'} (h:Nv H tok c) (f:∀b,H' (.inr b)=H (.inr b)):Nv H' tok c:=
 ⟨λs o m a b d e=>by rw[f];exact h.RE s o m a b d e,λs o a b=>by rw[f];exact h.R8 s o a b⟩
theorem Inv.laid (h:Inv P Q Zw c gs w t) (l:gs[i]?=some g) {u:Trace}
  (mem:Wq c'.H c'.Z4 c'.O Zw w') (hold:VK c'.H c'.Z4 c'.O Zw.heap.size) (Zp:Vx c'.H c'.Z4 c'.tok c'.O c'.Zl c'.deaf w'.heap.size (t++u))
  (Y4:XP gs.size c'.tok c'.spec c'.view c'.rel c'.O c'.Zl c'.home) (XY:Nv c'.H c'.tok c'.O) (X5:Ou gs.size c'.tok c'.rel c'.Zl c'.home c'.Xz (t++u)) (Wp:Nu c'.Z4 c'.tok c'.O c'.rel c'.Xz (t++u))
  (m:Rec P Q c' i g') (k:∀j,j≠i->c'.x j=c.x j/\c'.T j=c.T j)
  (d:(mayWake P g=true/\Vy g')\/∀j s o,j≠i->c.O s=some o->UP o (c.tok j s)->∃o',c'.O s=some o'/\UP o' (c.tok j s)) :
  Inv P Q Zw c' ((gs.map (woken P g g' w')).setIfInBounds i g') w' (t++u):=by
 have f:((gs.map (woken P g g' w')).setIfInBounds i g').size=gs.size:=Ω
 have n:i<gs.size:=Tz l;refine⟨by rw[f];exact h.pos,mem,hold,Zp,by rw[f];exact Y4,XY,by rw[f];exact X5,Wp,λj b a=>?_⟩;by_cases e:j=i
 .subst e;rw[Tc (by simpa using n)] at a;cases a;exact m
 .rw[UC (YF e),Px] at a;obtain⟨p,r,rfl⟩:=S9.1 a;exact(h.Oo j p r).woken (i:=0) (k j e).1 (k j e).2 (d.imp id λd s o v y=>d j s o e v y)
def VZ (P:Program) (Q:Value->Prop) (Zw:World) (c:YE) (gs:Array Goroutine) (w:World) (t:Trace) (i:Nat) (f:Bool×Goroutine×ZU->WV (Bool×Goroutine×ZU)):Prop:=
 ∀sl,∃c' a w' u,runT P (crowd gs w sl) i=(.next (crowd a w' sl),u)/\Inv P Q Zw c' a w' (t++u)/\
  ((a.size=gs.size/\∃k,c'.T=upd c.T i (f k))\/(a.size=gs.size+1/\∃k b,c'.T=upd (upd c.T i (f k)) gs.size (f b))\/(a.size=gs.size/\c'.T=c.T/\Nt a<Nt gs))
def Kg (P:Program) (Q:Value->Prop) (Zw:World) (c:YE) (gs:Array Goroutine) (w:World) (t:Trace) (i:Nat) (f:Bool×Goroutine×ZU->WV (Bool×Goroutine×ZU)):Prop:=
 ∃c',Inv P Q Zw c' gs w t/\∃k,c'.T=upd c.T i (f k)
abbrev Uy (P:Program) (Q:Value->Prop) (f:Bool×Goroutine×ZU->WV (Bool×Goroutine×ZU)):L6:=λa g' b=>U' P Q (f (a,g',b)) a g' b
theorem VZ.go {f:Bool×Goroutine×ZU->WV (Bool×Goroutine×ZU)} (a:gs[i]?=some g) (b:stepG P (i==0) g w=.go g' w' es)
  (h:Inv P Q Zw c' ((gs.map (woken P g g' w')).setIfInBounds i g') w' (t++MemOp.ofEvents i g.frame.fn g.frame.place es)) (k:Bool×Goroutine×ZU) (d:c'.T=upd c.T i (f k)):VZ P Q Zw c gs w t i f:=
 λ_=>⟨c',_,w',_,runT_crowd_go a b,h,.inl ⟨Ω,k,d⟩⟩
variable {f:Bool×Goroutine×ZU->WV (Bool×Goroutine×ZU)}
theorem Inv.HJ (h:Inv P Q Zw c gs w t) (u:gs[i]?=some g) (I:Fe P (i==0) (Uy P Q f) g (c.x i)):VZ P Q Zw c gs w t i f:=by
 have p:=I w (h.mem.fit (.inl i)) (h.mem.TB i);cases l:stepG P (i==0) g w with
 | go g' w' es=>
  rw[l] at p;obtain⟨G',V',Z,B,J,K,C,y,D,L,M⟩:=p;have N:i<gs.size:=Tz u;have E:∀e∈es,Wf (c.H (.inl i)) w.heap.size w'.heap.size e:=λe n=>by
   have:=D e n;split at this
   .exact this.HJ
   .exact this
  have O:∀j,j≠i->({c with H:=Zt c.H (.inl i) G',Z4:=upd c.Z4 i V',T:=upd c.T i (f (i==0,g',{c.x i with G:=G',Z4:=V'}))}:YE).x j=c.x j:=λj d=>by
   have:(Sum.inl j:YT)≠.inl i:=λe=>d (by cases e;rfl);simp[YE.x,Zs _ _ this,upd_ne _ _ d]
  refine VZ.go (c':={c with H:=Zt c.H (.inl i) G',Z4:=upd c.Z4 i V',T:=upd c.T i (f (i==0,g',{c.x i with G:=G',Z4:=V'}))}) u l ?_ _ U;refine h.laid u (h.mem.own h.hold i B J K U) (h.hold.own h.mem h.mem.keep.size i C y) (h.Zp.own h.mem h.hold i B.size C y E L) h.Y4 ?_ ?_ ?_ ?_ (λj d=>⟨O j d,upd_ne _ _ d⟩) (.inr λj s o _ a b=>⟨o,a,b⟩)
  .exact h.XY.L0 λb=>Vw c.H i G' b
  .refine h.X5.app N ofEvents_g (λR=>zY λe n=>?_) (λ_ _ _ x=>x) (λ_ _ _ _ x=>x);have:=D e n;have S:(c.x i).rel=true:=R;simpa only[S,if_true] using this
  .refine h.Wp.app h.Zp.low (λaa V b A=>?_) (λj b v hv=>?_) (λs o' l=>⟨o',l,U⟩) (λj s k W g e=>⟨k,W,g,e⟩)
   .obtain⟨e,n,rfl⟩:=Go.Conc.mem_ofEvents V;have F:=E e n;obtain⟨X,wr,Y⟩:=e;cases X with
    | mark m=>simp only[Wf] at F;subst F;simp[MemAct.ofEvent] at A
    | obj r=>cases wr<;>cases Y<;>simp[MemAct.ofEvent] at A
    | _=>simp[MemAct.ofEvent] at A
   .replace hv:upd c.Z4 i V' j b=some v:=hv
    by_cases d:j=i
    .subst d;rw[upd_same] at hv;exact(y b v hv).imp (λx=>⟨v,x⟩) (λx=>x.1)
    .rw[upd_ne _ _ d] at hv;exact .inl ⟨v,hv⟩
  .refine⟨g',?_,.inl U⟩;have e:({c with H:=Zt c.H (.inl i) G',Z4:=upd c.Z4 i V',T:=upd c.T i (f (i==0,g',{c.x i with G:=G',Z4:=V'}))}:YE).x i={c.x i with G:=G',Z4:=V'}:=by
    simp[YE.x,upd_same]
   rw[e];show U' P Q (upd c.T i (f (i==0,g',{c.x i with G:=G',Z4:=V'})) i) _ _ _;rw[upd_same];exact M
 | _=>rw[l] at p;exact p.elim
theorem Wq.L0 {H:YT->Τ} {a:Nat->Nat->Option (ζ×TypeId)} {b O':Nat->Option Z'} (h:Wq H a b Zw w) (e:O'=b):Wq H a O' Zw w:=e▸h
theorem Inv.marked (h:Inv P Q Zw c gs w t) (u:gs[i]?=some g) {m:Mark} (B:m=.disable\/m=.enable) {d:Nat} (hd:d=deafBehind (c.deaf i) #[Go.ConcR.mk m]) (y:stepG P (i==0) g w=.go g' w #[Go.ConcR.mk m])
  (E:Uy P Q f (i==0) g' {c.x i with deaf:=d}):VZ P Q Zw c gs w t i f:=by
 have F:i<gs.size:=Tz u
 have nt:∀l∈MemOp.ofEvents i g.frame.fn g.frame.place #[Go.ConcR.mk m],l.act.touch?=none:=λl n=>by
  obtain⟨e,p,rfl⟩:=Go.Conc.mem_ofEvents n;simp at p;subst p;rcases B with rfl|rfl<;>rfl
 have A:∀l∈MemOp.ofEvents i g.frame.fn g.frame.place #[Go.ConcR.mk m],l.act=.mark .disable\/l.act=.mark .enable:=λl n=>by
  obtain⟨e,p,rfl⟩:=Go.Conc.mem_ofEvents n;simp at p;subst p;rcases B with rfl|rfl
  .exact .inl U
  .exact .inr U
 refine VZ.go (c':={c with deaf:=upd c.deaf i d,T:=upd c.T i (f (i==0,g',{c.x i with deaf:=d}))}) u y ?_ _ U;refine h.laid u h.mem h.hold ?_ h.Y4 h.XY ?_ ?_ ⟨g',?_,.inl U⟩ (λj C=>⟨by simp[YE.x,upd_ne _ _ C],upd_ne _ _ C⟩) (.inr λj s o _ a b=>⟨o,a,b⟩)
 .refine h.Zp.ext h.hold i ofEvents_g (λl n=>?_) (λl n a D=>?_) (λl n b r=>?_) (λj=>?_)
  .rcases A l n with e|e<;>rw[e]<;>trivial
  .rcases A l n with e|e<;>rw[e] at D<;>cases D
  .rw[nt l n] at r;cases r
  .by_cases e:j=i
   .subst e;rw[Deaf_own,h.Zp.hears,hd];exact(upd_same ..).symm
   .rw[Deaf_other t (YF e) _ ofEvents_g,h.Zp.hears];exact(upd_ne _ _ e).symm
 .exact h.X5.app F ofEvents_g (λ_=>Nr nt) (λ_ _ _ x=>x) (λ_ _ _ _ x=>x)
 .refine h.Wp.app h.Zp.low (λl n b r=>?_) (λj b v hv=>.inl ⟨v,hv⟩) (λs o' y=>⟨o',y,U⟩) (λj s k H g e=>⟨k,H,g,e⟩);rcases A l n with e|e<;>rw[e] at r<;>cases r
 .have e:({c with deaf:=upd c.deaf i d,T:=upd c.T i (f (i==0,g',{c.x i with deaf:=d}))}:YE).x i={c.x i with deaf:=d}:=by
   simp[YE.x,upd_same]
  rw[e];show U' P Q (upd c.T i (f (i==0,g',{c.x i with deaf:=d})) i) _ _ _;rw[upd_same];exact E
theorem Inv.zW (h:Inv P Q Zw c gs w t) (e:gs[i]?=some g) (a:Fc P (i==0) (Uy P Q f) g (c.x i)):VZ P Q Zw c gs w t i f:=by
 obtain⟨g',_,a|⟨_,a⟩⟩:=a
 .obtain⟨b,d⟩:=a w (h.mem.fit (.inl i));exact h.marked e (.inl U) (by rfl) b d
 .obtain⟨b,d⟩:=a w (h.mem.fit (.inl i));exact h.marked e (.inr U) (by rfl) b d
theorem Inv.zV (h:Inv P Q Zw c gs w t) (y:gs[i]?=some g) (I:Fb P (i==0) (Uy P Q f) g (c.x i)):VZ P Q Zw c gs w t i f:=by
 obtain⟨s,n,p,B,g',r,wr,J,V,K,W,L⟩:=I;have M:i<gs.size:=Tz y;obtain⟨A,N⟩:=L w (h.mem.fit (.inl i));have C:c.tok i s=.par n p B:=J;obtain⟨o,D⟩:=h.obj (i:=i) (s:=s) (by rw[C];simp);have O:c.rel i=false:=K;have u:∀d∈MemOp.ofEvents i g.frame.fn g.frame.place #[Go.ConcR.mk (if wr then .write ⟨s,r,none⟩ else .read ⟨s,r,none⟩)],d.act=.mark (if wr then .write ⟨s,r,none⟩ else .read ⟨s,r,none⟩):=λd l=>by
  obtain⟨e,E,rfl⟩:=Go.Conc.mem_ofEvents l;simp at E;subst E;rfl
 refine VZ.go (c':={c with T:=upd c.T i (f (i==0,g',c.x i))}) y A ?_ _ U;refine h.laid y h.mem h.hold ?_ h.Y4 h.XY ?_ ?_ ⟨g',?_,.inl U⟩ (λj R=>⟨U,upd_ne _ _ R⟩) (.inr λj s o _ a b=>⟨o,a,b⟩)
 .refine h.Zp.ext h.hold i ofEvents_g (λd l=>?_) (λd l a F=>?_) (λd l b m=>?_) (λj=>?_)
  .rw[u d l];have:=h.low D (.inl U);cases wr<;>exact this
  .rw[u d l] at F;cases wr<;>cases F
  .rw[u d l] at m;refine⟨s,o,s,r,D,.inl U,?_⟩;cases wr<;>simp[MemAct.touch?] at m<;>subst m<;>exact⟨U,.inr ⟨U,h.Y4.par i s n p B C⟩⟩
  .by_cases e:j=i
   .subst e;rw[Deaf_own,h.Zp.hears];cases wr<;>rfl
   .rw[Deaf_other t (YF e) _ ofEvents_g,h.Zp.hears]
 .exact h.X5.app M ofEvents_g (λH=>by rw[O] at H;cases H) (λ_ _ _ x=>x) (λ_ _ _ _ x=>x)
 .refine h.Wp.app h.Zp.low (λd l b m=>?_) (λj b v hv=>.inl ⟨v,hv⟩) (λs o' A=>⟨o',A,U⟩) (λj s k S g e=>⟨k,S,g,e⟩);rw[u d l] at m;cases wr<;>cases m
 .show U' P Q (upd c.T i (f (i==0,g',c.x i)) i) _ _ _;rw[upd_same];exact N
theorem Inv.quits (h:Inv P Q Zw c gs w t) (p:gs[i]?=some g) (D:E5 P (i==0) (Uy P Q f) g (c.x i)):VZ P Q Zw c gs w t i f:=by
 obtain⟨E,K,L,M,g',es,A,r,F⟩:=D;have H:i<gs.size:=Tz p;have nt:∀d∈MemOp.ofEvents i g.frame.fn g.frame.place es,d.act.touch?=none:=λd l=>by
  obtain⟨e,u,rfl⟩:=Go.Conc.mem_ofEvents l;exact touch_mute (A e u)
 have y:∀d∈MemOp.ofEvents i g.frame.fn g.frame.place es,d.act=.mark .disable\/d.act=.mark .enable:=λd l=>by
  obtain⟨⟨I,wr,N⟩,u,rfl⟩:=Go.Conc.mem_ofEvents l;have:=A _ u;cases I<;>simp[Event.mute] at this;rename_i m;cases m<;>simp_all [MemAct.ofEvent]
 refine VZ.go (c':={c with deaf:=upd c.deaf i (deafBehind (c.deaf i) es),T:=upd c.T i (f (i==0,g',{c.x i with deaf:=deafBehind (c.x i).deaf es}))}) p (by rw[E];exact r w) ?_ _ U;refine h.laid p h.mem h.hold ?_ h.Y4 h.XY ?_ ?_ ⟨g',?_,.inl U⟩ (λj B=>⟨by simp[YE.x,upd_ne _ _ B],upd_ne _ _ B⟩) (.inr λj s o _ a b=>⟨o,a,b⟩)
 .refine h.Zp.ext h.hold i ofEvents_g (λd l=>?_) (λd l a C=>?_) (λd l b n=>?_) (λj=>?_)
  .rcases y d l with e|e<;>rw[e]<;>trivial
  .rcases y d l with e|e<;>rw[e] at C<;>cases C
  .rw[nt d l] at n;cases n
  .by_cases e:j=i
   .subst e;rw[Deaf_own,h.Zp.hears];exact(upd_same ..).symm
   .rw[Deaf_other t (YF e) _ ofEvents_g,h.Zp.hears];exact(upd_ne _ _ e).symm
 .exact h.X5.app H ofEvents_g (λ_=>Nr nt) (λ_ _ _ x=>x) (λ_ _ _ _ x=>x)
 .refine h.Wp.app h.Zp.low (λd l b n=>?_) (λj b v hv=>.inl ⟨v,hv⟩) (λs o' r=>⟨o',r,U⟩) (λj s k J g e=>⟨k,J,g,e⟩);rcases y d l with e|e<;>rw[e] at n<;>cases n
 .have e:({c with deaf:=upd c.deaf i (deafBehind (c.deaf i) es),T:=upd c.T i (f (i==0,g',{c.x i with deaf:=deafBehind (c.x i).deaf es}))}:YE).x i={c.x i with deaf:=deafBehind (c.x i).deaf es}:=by
   simp[YE.x,upd_same]
  rw[e];show U' P Q (upd c.T i (f (i==0,g',{c.x i with deaf:=deafBehind (c.x i).deaf es})) i) _ _ _;rw[upd_same];exact F
end
end Go.TL
namespace Go.TL
open Go.Conc
open Go.ConcM (OsLater)
open Go.ConcN (sumTo upd sumTo_upd upd_ne upd_same sumTo_congr le_sumTo)
section
variable {P:Program} {Q:Value->Prop} {Zw:World} {c c':YE} {gs:Array Goroutine} {w w':World} {t:Trace} {i:Nat} {g g':Goroutine} {es:Array Event}
variable {f:Bool×Goroutine×ZU->WV (Bool×Goroutine×ZU)}
theorem zU {o o':Z'} {t t':Tok} (h:Act o t o' t'):(∀q p,t'≠.par q p .ZO)/\(∀q p,t≠.par q p .ZO)/\∀k L g,t=.ch k (.Yw L) g->∃g',t'=.ch k (.Yw L) g':=by
 cases h<;>refine⟨λq p e=>?_,λq p e=>?_,λk L g e=>?_⟩<;>cases e
 all_goals exact⟨_,U⟩
theorem EW {B:Type} (p:B->Bool) {y:B} (b:p y=false):∀(l:List B) (k:Nat) (x:B),l[k]?=some x->p x=true->((l.set k y).filter p).length<(l.filter p).length
 | [],k,x,h,_=>by simp at h
 | z::l,0,x,h,a=>by
  simp at h;subst h;simp[List.set,a,b]
 | z::l,k+1,x,h,a=>by
  have:=EW p b l k x (by simpa using h) a;simp only[List.set,KA];split<;>simpa using this
theorem zT {k:Nat} (a:gs[k]?=some g) (b:g.status=.running) (c:g'.status≠.running):Nt (gs.setIfInBounds k g')<Nt gs:=by
 unfold Nt;rw[Array.toList_setIfInBounds];exact EW (λg:Goroutine=>decide (g.status=.running)) (by simp[c]) _ k g (by rw[<-a];simp) (by simp[b])
theorem Inv.atom (h:Inv P Q Zw c gs w t) (D:gs[i]?=some g) (ak:Vy g) (aw:U' P Q (c.T i) (i==0) g (c.x i)) (ax:Atom P (i==0) (Uy P Q f) g (c.x i)):VZ P Q Zw c gs w t i f:=by
 obtain⟨s,sp,ay,az,aA⟩:=ax;have W:i<gs.size:=Tz D;obtain⟨o,d,X⟩:=h.Y4.Q5 i s sp ay;have aB:∀b,X1 s sp b->b<w.heap.size:=λb l=>h.low d (by rw[X];exact l);have aC:¬WY (c.tok i s):=az;have aD:c.tok i s≠.nil:=λe=>aC (by rw[e];trivial);have al:∀{w':World} {es:Array Event} {k:Nat},Xd (λb _=>X1 s sp b) (λ_=>False) w w'->Se s sp (c.x i).deaf es->Vx c.H c.Z4 c.tok c.O c.Zl c.deaf w'.heap.size (t++MemOp.ofEvents i g.frame.fn g.frame.place es):=λ{w' es k} J n=>by
  refine Vx.grow ?_ J.size;refine h.Zp.ext h.hold i ofEvents_g (λK F=>?_) (λK F a am=>?_) (λK F b l=>?_) (λj=>?_)
  .rcases Kh n F with(e|e)|⟨b,Y,wr,e,l⟩
   .rw[e];trivial
   .rw[e];trivial
   .rw[e];exact aB b l
  .rcases Kh n F with(e|e)|⟨b,Y,wr,e,l⟩<;>rw[e] at am<;>cases am
  .rcases Kh n F with(e|e)|⟨I,Y,wr,e,an⟩
   .rw[e] at l;cases l
   .rw[e] at l;cases l
   .rw[e] at l;simp[MemAct.touch?] at l;subst l;exact⟨s,o,I,Y,d,by rw[X];exact an,U,.inl U⟩
  .by_cases e:j=i
   .subst e;rw[Deaf_own,h.Zp.hears];exact n.1
   .rw[Deaf_other t (YF e) _ ofEvents_g,h.Zp.hears]
 have ao:∀{es:Array Event},Se s sp (c.x i).deaf es->∀K∈MemOp.ofEvents i g.frame.fn g.frame.place es,∀b,K.act≠.mark (.releaseMerge ⟨b,0,none⟩):=λn K F b l=>by
  rcases Kh n F with(e|e)|⟨I,Y,wr,e,an⟩<;>rw[e] at l<;>cases l
 have ap:∀{es:Array Event},Se s sp (c.x i).deaf es->∀k,t.size<=k->¬(t++MemOp.ofEvents i g.frame.fn g.frame.place es).counts k:=λn=>zX (s:=s) (sp:=sp) (by rw[h.Zp.hears];exact n);rcases aA w (XU gs.size o (λj=>c.tok j s)) o (h.mem.fit (.inl i)) (h.mem.TB i) X (h.mem.W7 s o d) (λaE aF hv=>by
   obtain⟨aX,aq,Ρ,aG⟩:=h.Y4.Ox i s aE aF hv;rw[d] at aq;cases aq;exact⟨Ρ,aG⟩) ⟨gs.size,λj=>c.tok j s,i,h.Y4.Z0 s o d,W,U,λk L g e=>h.Y4.Yw i s k L g o d e⟩ with Z|⟨aH,aI,E⟩
 .cases E:stepG P (i==0) g w with
  | go g' w' es=>
   rw[E] at Z;obtain⟨aJ,J,n,aK⟩:=Z;have ar:Xd (λb _=>X1 s o.toSpec b) (λ_=>False) w w':=by rw[X];exact J
   rcases aK with⟨ad,ae⟩|⟨o',t',M,ad,aL,ae⟩
   .refine VZ.go (c':={c with view:=upd c.view i (upd (c.view i) s (some (XU gs.size o (λj=>c.tok j s),o))),T:=upd c.T i (f (i==0,g',{c.x i with view:=upd (c.view i) s (some (XU gs.size o (λj=>c.tok j s),o))}))}) D E ?_ _ U;refine h.laid D ((h.mem.atom h.hold U d U ar ad).L0 (Ki d).symm) h.hold (al (k:=0) J n) (h.Y4.look d) h.XY
     (h.X5.app W ofEvents_g (λ_=>ap n) (λ_ _ _ x=>x) (λ_ _ _ _ x=>x))
     (h.Wp.app h.Zp.low (ao n) (λj b v hv=>.inl ⟨v,hv⟩) (λs o' E=>⟨o',E,U⟩) (λj s k aa g e=>⟨k,aa,g,e⟩))
     ⟨g',?_,.inl U⟩ (λj A=>⟨by simp[YE.x,upd_ne _ _ A],upd_ne _ _ A⟩) (.inr λj s o _ a b=>⟨o,a,b⟩)
    have e:({c with view:=upd c.view i (upd (c.view i) s (some (XU gs.size o (λj=>c.tok j s),o))),T:=upd c.T i (f (i==0,g',{c.x i with view:=upd (c.view i) s (some (XU gs.size o (λj=>c.tok j s),o))}))}:YE).x i={c.x i with view:=upd (c.view i) s (some (XU gs.size o (λj=>c.tok j s),o))}:=by
     simp[YE.x,upd_same]
    rw[e];show U' P Q (upd c.T i (f (i==0,g',{c.x i with view:=upd (c.view i) s (some (XU gs.size o (λj=>c.tok j s),o))})) i) _ _ _;rw[upd_same];exact ae
   .have aM:=Fi (N:=gs.size) (τ:=λj=>c.tok j s) W U M
    have aN:=ae _ aM;obtain⟨af,aO,aP⟩:=E2 M;obtain⟨aQ,aR,aS⟩:=zU M;have au:=TA.upd d af;have ab:∀j r q p,Zk c.tok i s t' j r=.par q p .ZO↔c.tok j r=.par q p .ZO:=λj r q p=>by
     by_cases e:j=i/\r=s
     .obtain⟨rfl,rfl⟩:=e;rw[Xs];exact⟨λx=>absurd x (aQ q p),λx=>absurd x (aR q p)⟩
     .rw[Xy _ e]
    have aT:∀j r k L g,c.tok j r=.ch k (.Yw L) g->∃g',Zk c.tok i s t' j r=.ch k (.Yw L) g':=λj r k L g A=>by
     by_cases e:j=i/\r=s
     .obtain⟨rfl,rfl⟩:=e;rw[Xs];exact aS k L g A
     .rw[Xy _ e];exact⟨g,A⟩
    have keepW:o'=o->∀j r q,j≠i->c.O r=some q->UP q (c.tok j r)->∃av,upd c.O s (some o') r=some av/\UP av (c.tok j r):=λag j r q _ a b=>⟨q,by
     by_cases e:r=s
     .subst e;subst ag;rw[d] at a;cases a;exact upd_same _ _ _
     .rw[upd_ne _ _ e];exact a,b⟩
    have ah:∀r q,upd c.O s (some o') r=some q->∃B,c.O r=some B/\B.toSpec=q.toSpec/\B.L=q.L/\B.R=q.R:=λr q C=>by
     by_cases e:r=s
     .subst e;rw[upd_same] at C;cases C;exact⟨o,d,af.symm,aO.symm,aP.symm⟩
     .rw[upd_ne _ _ e] at C;exact⟨q,C,U,U,U⟩
    let S:ZU:={c.x i with tok:=upd (c.tok i) s t',view:=upd (c.view i) s (some (XU gs.size o' (upd (λj=>c.tok j s) i t'),o'))};refine VZ.go (c':={c with tok:=Zk c.tok i s t',view:=upd c.view i (upd (c.view i) s (some (XU gs.size o' (upd (λj=>c.tok j s) i t'),o'))),O:=upd c.O s (some o'),T:=upd c.T i (f (i==0,g',S))}) D E ?_ _ U;refine h.laid D (h.mem.atom h.hold U d af ar ad) (h.hold.S7 au) ((al (k:=0) J n).z3 au λj r A e=>?_) (h.Y4.act d U M) ⟨λr q m C ai aj aU=>?_,λr q C aj=>?_⟩
     (h.X5.app W ofEvents_g (λ_=>ap n) (λs q p ⟨j,x⟩=>⟨j,(ab j s q p).1 x⟩) (λj s q p x=>(ab j s q p).1 x))
     (h.Wp.app h.Zp.low (ao n) (λj b v hv=>.inl ⟨v,hv⟩) (λr q C=>let ⟨B,a,b,_⟩:=ah r q C;⟨B,a,by rw[b]⟩) (λj r k aa g e=>?_))
     ⟨g',?_,.inl U⟩ (λj A=>⟨by simp[YE.x,upd_ne _ _ A,Qc _ A],upd_ne _ _ A⟩) (aL.imp (λai=>⟨ai,aJ⟩) λag=>keepW ag)
    .by_cases V:j=i/\r=s
     .obtain⟨rfl,rfl⟩:=V;exact aD e
     .apply A;show Zk c.tok i s t' j r=.nil;rw[Xy _ V];exact e
    .obtain⟨B,a,b,I,_⟩:=ah r q C;have:=h.XY.RE r B m a (by rw[b];exact ai) (λj q p x=>aj j q p ((ab j r q p).2 x)) (λj k L g x=>let ⟨g',y⟩:=aT j r k L g x;aU j k L g' y);rw[b,I] at this;exact this
    .obtain⟨B,a,b,_,I⟩:=ah r q C;have:=h.XY.R8 r B a (λj q p x=>aj j q p ((ab j r q p).2 x));rw[b,I] at this;exact this
    .by_cases V:j=i/\r=s
     .obtain⟨rfl,rfl⟩:=V;obtain⟨aV,aW,y,_⟩:=(E1 M).2.1 k aa g e;exact⟨k,aV,aW,by show Zk c.tok j r t' j r=_;rw[Xs];exact y⟩
     .exact⟨k,aa,g,by show Zk c.tok i s t' j r=_;rw[Xy _ V];exact e⟩
    .have e:({c with tok:=Zk c.tok i s t',view:=upd c.view i (upd (c.view i) s (some (XU gs.size o' (upd (λj=>c.tok j s) i t'),o'))),O:=upd c.O s (some o'),T:=upd c.T i (f (i==0,g',S))}:YE).x i=S:=by
      simp[S,YE.x,upd_same,On]
     rw[e];show U' P Q (upd c.T i (f (i==0,g',S)) i) _ _ _;rw[upd_same];exact aN
  | _=>rw[E] at Z;exact Z.elim
 .refine λsl=>⟨c,_,w,_,runT_crowd_go D E,?_,.inr (.inr ⟨Ω,U,?_⟩)⟩
  .rw[EX,OI];have:=h.laid (c':=c) (u:=#[]) D (g':={g with status:=.blocked}) h.mem h.hold (by rw[OI];exact h.Zp) h.Y4 h.XY (by rw[OI];exact h.X5) (by rw[OI];exact h.Wp) ⟨g,aw,.inr ⟨ak,U,s,o,d,aH,aI⟩⟩ (λj A=>⟨U,U⟩) (.inr λj s o _ a b=>⟨o,a,b⟩)
   rwa [OI] at this
  .have e:gs.map (woken P g {g with status:=.blocked} w)=gs:=by
    have:woken P g {g with status:=.blocked} w=id:=by
     funext b;simp[woken]
    rw[this];simp
   rw[e];exact zT D ak.1 Ω
end
end Go.TL
