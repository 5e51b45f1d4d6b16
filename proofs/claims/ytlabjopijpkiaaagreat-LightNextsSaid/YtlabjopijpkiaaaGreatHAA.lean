import Derived.Conc.Beside
import Derived.Conc.CrowdBase
import Derived.Conc.MuSpec
import GoSem.Core.World
set_option maxHeartbeats 16000000
set_option maxRecDepth 20000
set_option linter.unusedSectionVars false
set_option linter.unusedSimpArgs false
set_option linter.unusedVariables false
namespace Go.TL
abbrev ω:=@Nat.zero_le
abbrev Z5:=@Nat.le_refl
abbrev Y7:=@List.getElem_mem
abbrev Zf:=@List.mem_cons
abbrev Zc:=@List.mem_map
abbrev Xd:=@List.getD_eq_getElem?_getD
abbrev Wp:=@List.take_succ_eq_append_getElem
abbrev Yl:=@List.getElem?_map
abbrev WV:=@Array.getD_eq_getD_getElem?
abbrev Yk:=@List.not_mem_nil
abbrev Yh:=@List.length_map
abbrev Xo:=@Bool.false_eq_true
abbrev UT:=@Array.getElem?_setIfInBounds_ne
abbrev XR:=@List.map_append
abbrev Tv:=@Array.getElem?_setIfInBounds_self_of_lt
abbrev Wo:=@List.getElem?_set_self
abbrev X3:=@List.map_cons
abbrev Wn:=@Array.getElem?_toList
abbrev Ya:=@Nat.le_trans
abbrev Va:=@Classical.byContradiction
abbrev YZ:=@Ne.symm
abbrev WU:=@List.all_eq_true
abbrev W4:=@Option.some.inj
abbrev Vq:=@List.getElem?_set_ne
abbrev VU:=@List.length_append
abbrev US:=@List.take_of_length_le
abbrev T3:=@Array.getElem?_eq_some_iff
abbrev V9:=@Bool.and_eq_true
abbrev Tu:=@List.pairwise_iff_getElem
abbrev Xi:=@Nat.add_mul
abbrev Wm:=@List.mem_range
abbrev Tt:=@Array.size_setIfInBounds
abbrev Ts:=@List.getElem?_take_of_lt
abbrev VG:=@List.mem_append
abbrev Tr:=@Option.map_eq_some_iff
abbrev Us:=@List.getElem_of_mem
abbrev Vp:=@List.range_succ
abbrev XH:=@Eq.trans
abbrev S2:=@List.getElem?_eq_none
abbrev Ur:=@List.append_assoc
abbrev T2:=@List.getElem?_drop
abbrev Sx:=@List.getElem?_of_mem
abbrev Sw:=@Nat.mul_le_mul_right
abbrev U':=@Nat.zero_add
abbrev Tq:=@List.length_take
abbrev UR:=@Nat.succ_pos
abbrev PH:=@List.drop_eq_getElem_cons
abbrev S1:=@List.nodup_cons
abbrev S0:=@List.mem_filter
abbrev Sv:=@Array.mem_append
abbrev RU:=@List.ext_getElem?
abbrev RS:=@List.foldl_append
abbrev T1:=@List.map_nil
abbrev RR:=@List.take_length
abbrev Qy:=@List.length_pos_iff
abbrev PG:=@List.length_replicate
abbrev OY:=@Array.getElem?_replicate
abbrev PF:=@List.set_append_right
abbrev Su:=@Nat.add_assoc
abbrev N0:=@Array.getElem?_append_left
abbrev RQ:=@Nat.mul_le_mul
abbrev Qx:=@Option.some.injEq
abbrev Rg:=@List.append_nil
abbrev Rf:=@Nat.not_lt_zero
abbrev NZ:=@List.mem_take_iff_getElem
abbrev PE:=@Array.getElem?_map
abbrev Qw:=@List.isEmpty_iff
abbrev Qv:=@Nat.lt_succ_self
abbrev PD:=@List.any_eq_false
abbrev NY:=@Array.getElem?_eq_none
abbrev RP:=@Nat.le_of_lt
abbrev NX:=@List.drop_eq_nil_of_le
abbrev PC:=@Nat.mod_eq_of_lt
abbrev Lj:=@List.pairwise_iff_forall_sublist
abbrev OX:=@Array.append_assoc
abbrev OW:=@Array.append_empty
abbrev OV:=@List.getElem?_take
abbrev NW:=@List.take_append_drop
abbrev OU:=@Nat.lt_of_le_of_lt
abbrev NV:=@List.mem_of_mem_take
abbrev NU:=@List.pairwise_append
abbrev Li:=@Array.eq_empty_of_size_eq_zero
abbrev ME:=@List.getElem?_replicate
abbrev NT:=@Array.getElem?_push
abbrev OT:=@List.mem_flatMap
abbrev OS:=@List.any_eq_true
abbrev Re:=@Nat.mul_one
abbrev NS:=@Array.ext_getElem?
abbrev Lh:=@Array.getElem?_append_right
abbrev Qu:=@Nat.zero_mul
abbrev Qt:=@List.map_map
abbrev OR:=@Bool.eq_iff_iff
abbrev MD:=@List.filterMap_append
abbrev NR:=@List.flatMap_cons
abbrev Lg:=@List.mem_or_eq_of_mem_set
abbrev PB:=@Nat.sub_self
abbrev MC:=@List.map_congr_left
abbrev Lf:=@Array.mem_iff_getElem?
abbrev OQ:=@Nat.lt_or_ge
abbrev NQ:=@Array.mem_push
abbrev Le:=@List.contains_iff_mem
abbrev Ld:=@List.length_filter_le
abbrev Lc:=@List.range_eq_range'
abbrev MB:=@List.range'_succ
abbrev Lb:=@Nat.pow_le_pow_right
abbrev IH:=@Int.fdiv_eq_ediv_of_nonneg
abbrev IG:=@Int.tdiv_eq_ediv_of_nonneg
abbrev La:=@List.flatMap_append
abbrev MA:=@List.length_set
abbrev IF:=@List.eq_of_mem_replicate
abbrev K9:=@Nat.lt_of_lt_of_le
abbrev K8:=@Array.all_eq_true'
abbrev IE:=@List.Perm.eq_of_pairwise
abbrev ID:=@List.length_filterMap_le
abbrev OP:=@Int.not_lt
abbrev K7:=@List.pairwise_map
abbrev Mz:=@List.map_take
abbrev K6:=@List.filter_cons
abbrev K5:=@List.nodup_range
abbrev NP:=@Array.ext'
abbrev My:=@Nat.add_comm
abbrev Mx:=@List.map_set
theorem ζ {a : Type _} {l : List a} {i : Nat} (h : i < l.length) : l[i]? = some l[i] := List.getElem?_eq_getElem h
theorem ZB {b : Type _} {l : List b} {i : Nat} {a : b} : l[i]? = some a ↔ ∃ h : i < l.length, l[i] = a := List.getElem?_eq_some_iff
theorem Zp {b : Type _} {l : List b} {i : Nat} {a : b} (e : l[i]? = some a) : a ∈ l := List.mem_of_getElem? e
theorem YR {a : Type _} {l : List a} : l.length = 0 ↔ l = [] := List.length_eq_zero_iff
theorem YL {b : Type _} {a c : List b} {i : Nat} (d : i < a.length) : (a ++ c)[i]? = a[i]? := List.getElem?_append_left d
theorem XG {c : Type _} {a b : List c} {i : Nat} (h : a.length <= i) : (a ++ b)[i]? = b[i - a.length]? := List.getElem?_append_right h
theorem XQ {a : Type _} {xs : Array a} {i : Nat} (h : i < xs.size) : xs[i]? = some xs[i] := Array.getElem?_eq_getElem h
theorem U {p:Prop} (h:p:=by omega):p:=h
theorem Yt {p:Prop} (h:p:=by(try simp only);omega):p:=h
theorem J {p:Prop} (h:p:=by simp):p:=h
theorem Z3 {p:Prop} (h:p:=by decide):p:=h
theorem Zt {b:Sort _} (a:b):∃x,a=x:=⟨a,rfl⟩
theorem ψ {b:Sort _} (a:b):∃x,x=a:=⟨a,rfl⟩
def Obj.Qs:Obj->Bool
 | .cells ..=>true
 | _=>false
structure Ψ where
 μ:Nat->Nat->Option (Value×Bool)
 row:Nat->Option (TypeId×Nat)
 obj:Nat->Option Obj
def Ψ.empty:Ψ:=⟨λ_ _=>none,λ_=>none,λ_=>none⟩
end Go.TL
namespace Go.TL
open Go.Conc
open Go.ConcM (OsLater)
structure Fits (G:Ψ) (w:World):Prop where
 μ:∀b o v p,G.μ b o=some (v,p)->w.cell? ⟨b,o,none⟩=some v
 row:∀b t n,G.row b=some (t,n)->∃c,w.heap[b]?=some (.cells c t (0,0))/\c.size=n
 obj:∀b x,G.obj b=some x->w.heap[b]?=some x/\Obj.Qs x=false
def Ψ.owns (G:Ψ) (b o:Nat):Prop:=∃v,G.μ b o=some (v,true)
def Ψ.has (G:Ψ) (b o:Nat):Prop:=∃x,G.μ b o=some x
def Ψ.XP (G:Ψ) (b:Nat):Prop:=∃x,G.obj b=some x
structure Apart (G H:Ψ):Prop where
 μ:∀b o,G.owns b o->¬H.has b o
 Rc:∀b o,H.owns b o->¬G.has b o
 obj:∀b,G.XP b->¬H.XP b
def Ψ.off (G:Ψ) (b:Nat):Prop:=(∀o,¬G.has b o)/\¬G.XP b
structure Xy (d:Nat->Nat->Prop) (e:Nat->Prop) (w w':World):Prop where
 size:w.heap.size<=w'.heap.size
 cells:∀b c t a,w.heap[b]?=some (.cells c t a)->∃c',w'.heap[b]?=some (.cells c' t a)/\c'.size=c.size/\∀o,¬d b o->c'[o]?=c[o]?
 Tp:∀b x,w.heap[b]?=some x->Obj.Qs x=false->¬e b->w'.heap[b]?=some x
 os:OsLater w.os w'.os
 output:w'.output=w.output
 tape:w'.tape=w.tape
theorem Xx {w:World} {b:Nat} {x:Obj} (h:w.heap[b]?=some x):b<w.heap.size:=by
 rcases OQ b w.heap.size with a|a
 .exact a
 .rw[NY a] at h;cases h
theorem Rb {w:World} {b o:Nat} {v:Value} (h:w.cell? ⟨b,o,none⟩=some v):∃c t d,w.heap[b]?=some (.cells c t d)/\c[o]?=some v:=by
 unfold World.cell? at h;cases a:w.heap[b]? with
 | none=>simp[a] at h
 | some x=>
  cases x<;>simp[a] at h;exact⟨_,_,_,rfl,h⟩
theorem SZ {w:World} {b o:Nat} {v:Value} {c:Array Value} {t:TypeId} {a:Nat×Nat} (h:w.heap[b]?=some (.cells c t a)) (hv:c[o]?=some v):w.cell? ⟨b,o,none⟩=some v:=by
 simp[World.cell?,h,hv]
theorem Xy.refl (a:Nat->Nat->Prop) (d:Nat->Prop) (w:World):Xy a d w w:=
 ⟨Z5 _,λb c t e h=>⟨c,h,rfl,λ_ _=>rfl⟩,λ_ _ h _ _=>h,OsLater.refl _,rfl,rfl⟩
theorem Fits.keeps {g:Nat->Nat->Prop} {i:Nat->Prop} {w w':World} {H:Ψ} (d:Fits H w) (e:Xy g i w w') (k:∀b o,g b o->¬H.has b o) (l:∀b,i b->¬H.XP b):Fits H w':=by
 refine⟨λb o v p h=>?_,λb t n h=>?_,λb x h=>?_⟩
 .obtain⟨c,t,m,a,hv⟩:=Rb (d.μ b o v p h);obtain⟨c',f,_,r⟩:=e.cells b c t m a;exact SZ f (by rw[r o λx=>k b o x ⟨_,h⟩];exact hv)
 .obtain⟨c,a,s⟩:=d.row b t n h;obtain⟨c',f,u,_⟩:=e.cells b c t _ a;exact⟨c',f,by rw[u,s]⟩
 .obtain⟨a,j⟩:=d.obj b x h;exact⟨e.Tp b x a j λy=>l b y ⟨_,h⟩,j⟩
theorem Fits.at {H:Ψ} {w:World} (h:Fits H w) (d:Nat):Fits H (w.at d):=⟨h.μ,h.row,h.obj⟩
structure YI (t:Trace) (c:Nat->Prop) (G:Ψ):Prop where
 μ:∀b o v p,G.μ b o=some (v,p)->∀i a,touchAt t i=some a->a.loc=.cell ⟨b,o,none⟩->(p=true\/a.write=true)->c i
 obj:∀b,G.XP b->∀i a,touchAt t i=some a->a.loc=.obj b->c i
theorem YI.mono {t:Trace} {e f:Nat->Prop} {G:Ψ} (h:YI t e G) (g:∀i,e i->f i):YI t f G:=
 ⟨λb o v p j i a c d k=>g i (h.μ b o v p j i a c d k),λb l i a c d=>g i (h.obj b l i a c d)⟩
def SY (l:Loc) (b:Nat):Prop:=
 match l with
 | .cell a=>a.block=b
 | .obj r=>r=b
 | _=>False
def WJ (G:Ψ) (n b:Nat) (e:Event):Prop:=
 match e.loc with
 | .cell a=>(n<=a.block/\a.block<b)\/(a.spot=none/\(if e.write then G.owns a.block a.off else G.has a.block a.off))
 | .obj r=>e.sync=false/\((n<=r/\r<b)\/G.XP r)
 | .output=>True
 | .goroutines=>False
 | .mark m=>m=.noRoom
theorem To {t u:Trace} {i:Nat} {a:Touch} (h:touchAt (t++u) i=some a):touchAt t i=some a\/(t.size<=i/\∃b∈u,(t++u)[i]?=some b/\b.act.touch?=some a):=by
 obtain⟨x,c,d⟩:=touch_of h;rcases getElem?_append_cases c with⟨_,e⟩|⟨f,g⟩
 .exact .inl (by rw[touchAt_of e];exact d)
 .exact .inr ⟨f,x,g,c,d⟩
theorem YI.own {t u:Trace} {i:Nat} {G:Ψ} (h:YI t (Knows t i) G) (m:∀c∈u,c.g=i):YI (t++u) (Knows (t++u) i) G:=by
 refine⟨λb o v p n k a d e r=>?_,λb s k a d e=>?_⟩
 .rcases To d with f|⟨_,c,j,l,_⟩
  .exact(h.μ b o v p n k a f e r).app u
  .have:=knows_own l;rwa [m c j] at this
 .rcases To d with f|⟨_,c,j,l,_⟩
  .exact(h.obj b s k a f e).app u
  .have:=knows_own l;rwa [m c j] at this
theorem YI.others {t u:Trace} {l m:Nat->Prop} {G:Ψ} (h:YI t l G) (n:∀i,l i->m i)
  (r:∀c∈u,∀a,c.act.touch?=some a->(∀b o v p,a.loc=.cell ⟨b,o,none⟩->G.μ b o=some (v,p)->p=false/\a.write=false)/\∀b,a.loc=.obj b->¬G.XP b):YI (t++u) m G:=by
 refine⟨λb o v p s k a e d hw=>?_,λb w k a e d=>?_⟩
 .rcases To e with f|⟨_,c,g,_,j⟩
  .exact n _ (h.μ b o v p s k a f d hw)
  .have:=((r c g a j).1 b o v p d s);rcases hw with hw|hw
   .rw[this.1] at hw;cases hw
   .rw[this.2] at hw;cases hw
 .rcases To e with f|⟨_,c,g,_,j⟩
  .exact n _ (h.obj b w k a f d)
  .exact absurd w ((r c g a j).2 b d)
end Go.TL
namespace Go.TL
open Go.Conc
open Go.ConcN (sumTo upd sumTo_upd upd_ne upd_same sumTo_congr le_sumTo)
inductive Uq where
 | idle|act (a:Bool)|q|wk|hw|own|YK (L:List Nat)|fin|uc|us|done
inductive PA where
 | work|rel|l2|RO|gone
inductive Qr where
 | add|w3|w4|SX|ZY
inductive Tok where
 | nil
 | par (n pend:Nat) (a:Qr)
 | ch (k:Nat) (b:Uq) (c:PA)
structure Spec where
 ZW:Option Nat
 X2:List Nat->Ψ->Prop
 D:Nat->Ψ->Prop
 top:Nat
structure η extends Spec where
 Zb:Nat
 wk:Nat
 sv:Nat
 nw:Nat
 YF:Nat
 L:List Nat
 cnt:Nat
 wt:Nat
 YY:Nat
 YP:List Nat
def Mw:Uq->Nat|.own|.YK _|.fin=>1|_=>0
def V8:Tok->Nat|.ch _ m _=>Mw m|_=>0
def K4:Uq->Nat|.us|.wk|.hw=>1|_=>0
def SW:Tok->Nat|.ch _ m _=>K4 m|_=>0
def OO:Uq->Nat|.act true=>1|_=>0
def T0:Tok->Nat|.ch _ m _=>OO m|_=>0
def Mv:Uq->Nat|.q=>1|_=>0
def Up:Tok->Nat|.ch _ m _=>Mv m|_=>0
def K3:Uq->Nat|.hw=>1|_=>0
def Tn:Tok->Nat|.ch _ m _=>K3 m|_=>0
def IC:Uq->Nat|.wk=>1|_=>0
def Ra:Tok->Nat|.ch _ m _=>IC m|_=>0
def Mu:Uq->Nat|.wk|.hw=>1|_=>0
def Uo:Tok->Nat|.ch _ m _=>Mu m|_=>0
def IB:Uq->Nat|.us=>1|_=>0
def Q':Tok->Nat|.ch _ m _=>IB m|_=>0
def K2:Uq->Nat|.uc=>1|_=>0
def SV:Tok->Nat|.ch _ m _=>K2 m|_=>0
def Qq:PA->Nat|.work|.rel=>1|_=>0
def VF:Tok->Nat|.ch _ _ g=>Qq g|_=>0
def ON:PA->Nat|.l2=>1|_=>0
def U9:Tok->Nat|.ch _ _ g=>ON g|_=>0
def OM:PA->Nat|.RO=>1|_=>0
def U8:Tok->Nat|.ch _ _ g=>OM g|_=>0
def Un:Tok->Nat|.ch ..=>1|_=>0
def X1:Tok->Nat|.par ..=>1|_=>0
def WI:Tok->Nat|.par _ p _=>p|_=>0
def V7:Tok->Nat|.par n _ _=>n|_=>0
def TZ:Tok->Nat|.par _ _ .add=>1|_=>0
def Um:Tok->Nat|.par _ _ .w3=>1|_=>0
def V6:Tok->Nat|.par _ _ .w4|.par _ _ .SX|.par _ _ .ZY=>1|_=>0
def OL:Uq->Nat
 | .idle=>20|.act false=>19|.act true=>18|.q=>12|.wk=>20|.hw=>19|.own=>14|.YK _=>13|.fin=>12|.uc=>11|.us=>10|.done=>0
def K1:PA->Nat
 | .work=>6|.rel=>5|.l2=>4|.RO=>3|.gone=>0
def NO:Qr->Nat
 | .add=>8|.w3=>6|.w4=>3|.SX=>3|.ZY=>0
def TY (a:Nat):Tok->Nat
 | .nil=>0
 | .par n p b=>(a-n)*100+p*50+NO b
 | .ch _ m w=>OL m+K1 w
def Z0 (N:Nat) (τ:Nat->Tok) (φ:Tok->Nat):Nat:=sumTo N λi=>φ (τ i)
theorem Xc {N i:Nat} (τ:Nat->Tok) (t:Tok) (φ:Tok->Nat) (h:i<N):Z0 N (upd τ i t) φ+φ (τ i)=Z0 N τ φ+φ t:=sumTo_upd τ t φ h
theorem XF {N i:Nat} (τ:Nat->Tok) (φ:Tok->Nat) (h:i<N):φ (τ i)<=Z0 N τ φ:=le_sumTo (f:=λi=>φ (τ i)) h
def Yc (N:Nat) (o:η) (τ:Nat->Tok):Nat:=Z0 N τ (TY o.top)+9*o.YF+2*o.YY
structure Bj (a b c d e l f h i j g k m n:Nat):Prop where
 f1:a<=1
 f2:b<=1
 f3:c<=1
 F6:l=a
 qi:c=0->f+e+h=b/\j=0/\d+k+e=i
 qh:c=1->b=0/\h=0/\a+f+e=1/\d=i+g
 qg:c=0->a=0->0<d->b=0->0<m
 qf:k+g=f
 qe:j+n=g
structure Bi (cnt wt a e f l2 b g h pend n add c d:Nat):Prop where
 f4:wt<=1
 SU:h=1
 IA:cnt=pend+f
 F5:g+pend=n
 qd:n<=e
 qc:add=1->wt=0/\a=0/\l2=0/\b=0
 Bh:c=1->pend=0/\((wt=1/\b=0/\a=0/\((cnt=0/\l2=1)\/(0<cnt/\l2=0)))\/(wt=0/\cnt=0/\l2=0/\b+a=1))
 F4:d=1->pend=0/\wt=0/\a=0/\cnt=0/\l2=0/\b=0
 qb:add+c+d=1
def RN (N:Nat) (o:η) (τ:Nat->Tok):Prop:=
 Bj o.Zb o.wk o.sv o.nw o.YF (Z0 N τ V8) (Z0 N τ SW) (Z0 N τ T0) (Z0 N τ Up) (Z0 N τ Tn) (Z0 N τ Uo) (Z0 N τ Q') (Z0 N τ SV) (Z0 N τ Ra)
def St (N:Nat) (o:η) (τ:Nat->Tok):Prop:=
 Bi o.cnt o.wt o.YY o.top (Z0 N τ VF) (Z0 N τ U9) (Z0 N τ U8) (Z0 N τ Un) (Z0 N τ X1) (Z0 N τ WI) (Z0 N τ V7) (Z0 N τ TZ) (Z0 N τ Um) (Z0 N τ V6)
def Pz (N:Nat) (o:η) (τ:Nat->Tok):Prop:=RN N o τ/\St N o τ
inductive Act:η->Tok->η->Tok->Prop where
 | Bg {o k}:o.Zb=0->o.sv=0->o.wk=0->o.nw=0->Act o (.ch k .idle .work) {o with Zb:=1} (.ch k .own .work)
 | Bf {o k}:Act o (.ch k .idle .work) o (.ch k (.act false) .work)
 | acq {o k a}:o.Zb=0->o.sv=0->Act o (.ch k (.act a) .work) {o with Zb:=1,wk:=if a then 0 else o.wk} (.ch k .own .work)
 | Be {o k}:o.wk=0->0<o.nw->o.Zb=1->o.sv=0->Act o (.ch k (.act false) .work) {o with wk:=1} (.ch k (.act true) .work)
 | queue {o k a} (st:Bool):(o.Zb=1\/o.sv=1)->(st=true->a=true/\o.Zb=1)->Act o (.ch k (.act a) .work) {o with nw:=o.nw+1,wk:=if a then 0 else o.wk,sv:=if st then 1 else o.sv} (.ch k .q .work)
 | take {o k}:0<o.YF->Act o (.ch k .q .work) {o with YF:=o.YF-1} (.ch k .wk .work)
 | norm {o k}:o.sv=0->Act o (.ch k .wk .work) o (.ch k (.act true) .work)
 | hand {o k}:o.sv=1->Act o (.ch k .wk .work) o (.ch k .hw .work)
 | hacq {o k} (b:Bool):Act o (.ch k .hw .work) {o with Zb:=1,nw:=o.nw-1,sv:=if b then 0 else 1} (.ch k .own .work)
 | Bd {o k}:o.sv=0->(o.nw=0\/o.wk=1)->Act o (.ch k .fin .work) {o with Zb:=0} (.ch k .done .work)
 | Bc {o k}:o.sv=0->0<o.nw->o.wk=0->Act o (.ch k .fin .work) {o with Zb:=0} (.ch k .uc .work)
 | Bb {o k}:o.sv=1->Act o (.ch k .fin .work) {o with Zb:=0} (.ch k .us .work)
 | Ba {o k}:o.Zb=0->o.wk=0->o.sv=0->0<o.nw->Act o (.ch k .uc .work) {o with nw:=o.nw-1,wk:=1} (.ch k .us .work)
 | A' {o k}:(o.nw=0\/o.Zb=1\/o.wk=1\/o.sv=1)->Act o (.ch k .uc .work) o (.ch k .done .work)
 | post {o k}:Act o (.ch k .us .work) {o with YF:=o.YF+1} (.ch k .done .work)
 | add {o n p}:n<o.top->Act o (.par n p .add) {o with cnt:=o.cnt+1} (.par (n+1) (p+1) .add)
 | thru {o n}:o.cnt=0->Act o (.par n 0 .add) o (.par n 0 .SX)
 | F3 {o n}:0<o.cnt->Act o (.par n 0 .add) {o with wt:=1} (.par n 0 .w3)
 | wake {o n}:0<o.YY->Act o (.par n 0 .w3) {o with YY:=o.YY-1} (.par n 0 .w4)
 | A9 {o k m}:o.cnt=1->o.wt=1->Act o (.ch k m .rel) {o with cnt:=o.cnt-1} (.ch k m .l2)
 | A8 {o k m}:(1<o.cnt\/o.wt=0)->Act o (.ch k m .rel) {o with cnt:=o.cnt-1} (.ch k m .gone)
 | A7 {o k m}:Act o (.ch k m .l2) {o with wt:=0} (.ch k m .RO)
 | A6 {o k m}:Act o (.ch k m .RO) {o with YY:=o.YY+1} (.ch k m .gone)
inductive RL:η->Tok->η->Tok->Prop where
 | Iz {o k}:RL o (.ch k .own .work) o (.ch k (.YK o.L) .work)
 | A5 {o k L}:RL o (.ch k (.YK L) .work) {o with L:=o.L++[k]} (.ch k .fin .work)
 | A4 {o k m}:(m=.done\/(m=.idle/\o.ZW=none))->RL o (.ch k m .work) {o with YP:=k::o.YP} (.ch k m .rel)
 | gtake {o n a}:(a=.SX\/a=.w4)->RL o (.par n 0 a) o (.par n 0 .ZY)
section
variable {N i:Nat} {o o':η} {τ:Nat->Tok} {t t':Tok}
theorem RK {φ:Tok->Nat} (a:∀t,X1 t=0->φ t=0) (h:Z0 N τ X1=1) (hi:i<N) (c:X1 (τ i)=1):Z0 N τ φ=φ (τ i):=by
 have e:=Xc τ .nil X1 hi
 have d:=Xc τ .nil φ hi
 have z:X1 .nil=0:=rfl;rw[h,c,z] at e;rw[a .nil rfl] at d;have f:Z0 N (upd τ i .nil) X1=0:=U;have:Z0 N (upd τ i .nil) φ=0:=by
  have g:∀n,Z0 n (upd τ i .nil) X1=0->Z0 n (upd τ i .nil) φ=0:=λn=>by
   induction n with
   | zero=>exact λ_=>rfl
   | succ n b=>
    intro j;simp only[Z0,sumTo] at j b ⊢;have:=b U;have:=a (upd τ i .nil n) U;omega
  exact g N f
 omega
theorem A3 (h:RN N o τ) (hi:i<N) (b:τ i=t) (c:Act o t o' t'):RN N o' (upd τ i t'):=by
 unfold RN at h ⊢;have d:=Xc τ t' V8 hi;have e:=XF τ V8 hi;have f:=Xc τ t' SW hi;have l1:=XF τ SW hi;have Φ:=Xc τ t' T0 hi;have l2:=XF τ T0 hi;have g:=Xc τ t' Up hi;have j:=XF τ Up hi;have k:=Xc τ t' Tn hi;have l:=XF τ Tn hi;have m:=Xc τ t' Uo hi;have n:=XF τ Uo hi;have p:=Xc τ t' Q' hi;have r:=XF τ Q' hi;have s:=Xc τ t' SV hi;have u:=XF τ SV hi;have v:=Xc τ t' Ra hi;have w:=XF τ Ra hi;rw[b] at v w d e f l1 Φ l2 g j k l m n p r s u;generalize Z0 N (upd τ i t') V8=y at *;generalize Z0 N τ V8=A at *;generalize Z0 N (upd τ i t') SW=B at *;generalize Z0 N τ SW=C at *;generalize Z0 N (upd τ i t') T0=D at *;generalize Z0 N τ T0=E at *;generalize Z0 N (upd τ i t') Up=F at *;generalize Z0 N τ Up=H at *;generalize Z0 N (upd τ i t') Tn=I at *;generalize Z0 N τ Tn=J at *;generalize Z0 N (upd τ i t') Uo=K at *;generalize Z0 N τ Uo=M at *;generalize Z0 N (upd τ i t') Q'=O at *;generalize Z0 N τ Q'=P at *;generalize Z0 N (upd τ i t') SV=Q at *;generalize Z0 N τ SV=R at *;generalize Z0 N (upd τ i t') Ra=S at *;generalize Z0 N τ Ra=T at *;clear b hi;obtain⟨⟨U,V,W,X⟩,Y,Z,aa,ab,ad,L,cnt,wt,ae,af⟩:=o;obtain⟨ag,ah,ai,aj,ak,al,am,an,ao⟩:=h;cases c<;>simp only[V8,SW,T0,Up,Tn,Uo,Q',SV,Ra,IC,Mw,K4,OO,Mv,K3,Mu,IB,K2,Nat.add_zero,U'] at *
 case acq a _ _=>cases a<;>simp only[OO,if_true,if_false,Xo] at *<;>constructor<;>omega
 case queue a st _ ap=>
  cases a<;>cases st<;>simp only[OO,if_true,if_false,Xo,false_and,true_and,imp_false,not_true_eq_false,forall_const] at *<;>constructor<;>omega
 case hacq x=>cases x<;>simp only[if_true,if_false,Xo] at *<;>constructor<;>omega
 all_goals (constructor<;>omega)
theorem A2 (h:St N o τ) (hi:i<N) (a:τ i=t) (c:Act o t o' t'):St N o' (upd τ i t'):=by
 unfold St at h ⊢;have A:X1 t=1->Z0 N τ V7=V7 t:=λb=>by rw[RK (λt a=>by cases t<;>simp_all [X1,V7]) h.SU hi (by rw[a];exact b),a]
 have B:X1 t=1->Z0 N τ WI=WI t:=λb=>by rw[RK (λt a=>by cases t<;>simp_all [X1,WI]) h.SU hi (by rw[a];exact b),a]
 have d:=Xc τ t' VF hi;have e:=XF τ VF hi
 have f:=Xc τ t' U9 hi;have l1:=XF τ U9 hi
 have Φ:=Xc τ t' U8 hi;have l2:=XF τ U8 hi
 have g:=Xc τ t' Un hi;have j:=XF τ Un hi
 have k:=Xc τ t' X1 hi;have l:=XF τ X1 hi
 have m:=Xc τ t' WI hi;have n:=XF τ WI hi
 have p:=Xc τ t' V7 hi;have r:=XF τ V7 hi
 have s:=Xc τ t' TZ hi;have u:=XF τ TZ hi
 have v:=Xc τ t' Um hi;have w:=XF τ Um hi
 have x:=Xc τ t' V6 hi;have y:=XF τ V6 hi;rw[a] at d e f l1 Φ l2 g j k l m n p r s u v w x y;generalize Z0 N (upd τ i t') VF=C at *;generalize Z0 N τ VF=D at *;generalize Z0 N (upd τ i t') U9=E at *;generalize Z0 N τ U9=F at *;generalize Z0 N (upd τ i t') U8=H at *;generalize Z0 N τ U8=I at *;generalize Z0 N (upd τ i t') Un=J at *;generalize Z0 N τ Un=K at *;generalize Z0 N (upd τ i t') X1=M at *;generalize Z0 N τ X1=O at *;generalize Z0 N (upd τ i t') WI=P at *;generalize Z0 N τ WI=Q at *;generalize Z0 N (upd τ i t') V7=R at *;generalize Z0 N τ V7=S at *;generalize Z0 N (upd τ i t') TZ=T at *;generalize Z0 N τ TZ=U at *;generalize Z0 N (upd τ i t') Um=V at *;generalize Z0 N τ Um=W at *;generalize Z0 N (upd τ i t') V6=X at *;generalize Z0 N τ V6=Y at *;clear a hi;obtain⟨⟨Z,aa,ab,ad⟩,ae,af,ag,ah,ai,L,cnt,wt,aj,ak⟩:=o;obtain⟨al,am,an,ao,ap,aq,ar,au,av⟩:=h;cases c<;>simp only[VF,U9,U8,Un,X1,WI,V7,TZ,Um,V6,Qq,ON,OM,Nat.add_zero,U',forall_const] at *
 all_goals (constructor<;>omega)
end
section
variable {N i:Nat} {o o':η} {τ:Nat->Tok} {t t':Tok}
theorem F2 (o':η) (a:o'.top=o.top) (hi:i<N) (b:τ i=t) (h:TY o.top t'+9*o'.YF+2*o'.YY<TY o.top t+9*o.YF+2*o.YY):Yc N o' (upd τ i t')<Yc N o τ:=by
 have e:=Xc τ t' (TY o.top) hi;rw[b] at e;unfold Yc;rw[a];omega
theorem F1 (hi:i<N) (b:τ i=t) (c:Act o t o' t'):Yc N o' (upd τ i t')<Yc N o τ:=by
 cases c<;>refine F2 _ rfl hi b ?_
 case acq a _ _=>cases a<;>simp[TY,OL]
 case queue a _ _ _=>cases a<;>simp[TY,OL]
 case take=>simp[TY,OL];omega
 case add=>simp[TY];omega
 case wake=>simp[TY,NO];omega
 all_goals (simp[TY,OL,K1,NO]<;>omega)
theorem KZ (hi:i<N) (a:τ i=t) (b:RL o t o' t'):Yc N o' (upd τ i t')<Yc N o τ:=by
 cases b<;>refine F2 _ rfl hi a ?_
 case gtake d c=>rcases c with rfl|rfl<;>simp[TY,NO]
 all_goals (simp[TY,OL,K1,NO]<;>omega)
theorem Iy {φ:Tok->Nat} (hi:i<N) (h:φ t'=φ (τ i)):Z0 N (upd τ i t') φ=Z0 N τ φ:=by
 have:=Xc τ t' φ hi;omega
theorem KY (h:RN N o τ) (hi:i<N) (a:τ i=t) (b:RL o t o' t'):RN N o' (upd τ i t'):=by
 unfold RN at h ⊢;cases b<;>
 (repeat rw[Iy hi (by rw[a];rfl)])<;>exact h
theorem KX (h:St N o τ) (hi:i<N) (a:τ i=t) (b:RL o t o' t'):St N o' (upd τ i t'):=by
 unfold St at h ⊢;cases b
 case gtake d c=>rcases c with rfl|rfl<;>(repeat rw[Iy hi (by rw[a];rfl)])<;>exact h
 all_goals (repeat rw[Iy hi (by rw[a];rfl)])<;>exact h
theorem OK (N:Nat) (τ:Nat->Tok) (φ:Tok->Nat):Z0 (N+1) τ φ=Z0 N τ φ+φ (τ N):=rfl
theorem F0 {φ:Tok->Nat} (a:φ .nil=0) (h:τ N=.nil):Z0 (N+1) τ φ=Z0 N τ φ:=by rw[OK,h,a];rfl
theorem FZ (h:Pz N o τ) (a:τ N=.nil):Pz (N+1) o τ:=by
 unfold Pz RN St at h ⊢
 repeat rw[F0 (by rfl) a]
 exact h
theorem FY (a:τ N=.nil):Yc (N+1) o τ=Yc N o τ:=by
 unfold Yc;rw[F0 (by rfl) a]
theorem A1 {j n p:Nat} (h:Pz N o τ) (hi:i<N) (d:j<N) (e:i≠j) (f:τ i=.par n (p+1) .add) (g:τ j=.nil) (k:Nat) :
  Pz N o (upd (upd τ i (.par n p .add)) j (.ch k .idle .work)):=by
 have l:upd τ i (.par n p .add) j=.nil:=by rw[upd_ne _ _ (YZ e)];exact g
 have a:∀φ:Tok->Nat,Z0 N (upd (upd τ i (.par n p .add)) j (.ch k .idle .work)) φ+φ .nil+φ (.par n (p+1) .add)=Z0 N τ φ+φ (.par n p .add)+φ (.ch k .idle .work):=λφ=>by
  have m:=Xc τ (.par n p .add) φ hi
  have Φ:=Xc (upd τ i (.par n p .add)) (.ch k .idle .work) φ d;rw[f] at m;rw[l] at Φ;omega
 obtain⟨b,c⟩:=h;constructor
 .unfold RN at b ⊢;have f1:=a V8;have f2:=a SW;have f3:=a T0;have f4:=a Up;have f5:=a Tn;have f6:=a Uo;have f7:=a Q';have f8:=a SV;have f9:=a Ra;simp only[V8,SW,T0,Up,Tn,Uo,Q',SV,Ra,Mw,K4,OO,Mv,K3,Mu,IB,K2,IC,Nat.add_zero] at f1 f2 f3 f4 f5 f6 f7 f8 f9;rw[f1,f2,f3,f4,f5,f6,f7,f8,f9];exact b
 .unfold St at c ⊢;have f1:=a VF;have f2:=a U9;have f3:=a U8;have f4:=a Un;have f5:=a X1;have f6:=a WI;have f7:=a V7;have f8:=a TZ;have f9:=a Um;have f10:=a V6;simp only[VF,U9,U8,Un,X1,WI,V7,TZ,Um,V6,Qq,ON,OM,Nat.add_zero] at f1 f2 f3 f4 f5 f6 f7 f8 f9 f10;obtain⟨r,s,t,u,v,w,x,y,A⟩:=c;constructor<;>omega
theorem A0 {j n p:Nat} (hi:i<N) (b:j<N) (c:i≠j) (d:τ i=.par n (p+1) .add) (e:τ j=.nil) (k:Nat) :
  Yc N o (upd (upd τ i (.par n p .add)) j (.ch k .idle .work))<Yc N o τ:=by
 have f:upd τ i (.par n p .add) j=.nil:=by rw[upd_ne _ _ (YZ c)];exact e
 have a:=Xc τ (.par n p .add) (TY o.top) hi
 have Φ:=Xc (upd τ i (.par n p .add)) (.ch k .idle .work) (TY o.top) b;rw[d] at a;rw[f] at Φ;simp only[TY,OL,K1,NO] at a Φ;unfold Yc;omega
theorem KW {φ:Tok->Nat} (h:0<Z0 N τ φ):∃i,i<N/\0<φ (τ i):=by
 have a:∀n,0<Z0 n τ φ->∃i,i<n/\0<φ (τ i):=λn=>by
  induction n with
  | zero=>intro h;cases h
  | succ n b=>
   intro h;rw[OK] at h;by_cases c:0<φ (τ n)
   .exact⟨n,U,c⟩
   .obtain⟨i,hi,d⟩:=b U;exact⟨i,U,d⟩
 exact a N h
def Ss:Tok->Prop
 | .ch _ .own _|.ch _ (.YK _) _|.ch _ .fin _|.ch _ .us _|.ch _ .wk _|.ch _ .hw _|.ch _ (.act true) _|.ch _ .uc _=>True
 | _=>False
theorem AZ (h:RN N o τ) (x:0<Z0 N τ Up) (y:o.YF=0):∃i,i<N/\Ss (τ i):=by
 have pick:∀{φ:Tok->Nat},(∀t,0<φ t->Ss t)->0<Z0 N τ φ->∃i,i<N/\Ss (τ i):=λd e=>let ⟨i,hi,f⟩:=KW e;⟨i,hi,d _ f⟩
 have g:∀t,0<V8 t->Ss t:=λt c=>by cases t<;>simp_all [V8,Ss];rename_i m _;cases m<;>simp_all [Mw]
 have j:∀t,0<SW t->Ss t:=λt c=>by cases t<;>simp_all [SW,Ss];rename_i m _;cases m<;>simp_all [K4]
 have k:∀t,0<T0 t->Ss t:=λt c=>by cases t<;>simp_all [T0,Ss];rename_i m _;cases m<;>simp_all [OO];rename_i b;cases b<;>simp_all [OO]
 have l:∀t,0<SV t->Ss t:=λt c=>by cases t<;>simp_all [SV,Ss];rename_i m _;cases m<;>simp_all [K2]
 obtain⟨f1,f2,f3,A,n,p,r,B,C⟩:=h;by_cases s:0<Z0 N τ V8
 .exact pick g s
 by_cases u:0<Z0 N τ SW
 .exact pick j u
 by_cases v:0<Z0 N τ T0
 .exact pick k v
 by_cases w:0<Z0 N τ SV
 .exact pick l w
 exfalso;rcases(show o.sv=0\/o.sv=1 by omega) with a|a
 .have:=n a;have:=r a;omega
 .have:=p a;omega
def Q9:Tok->Prop
 | .ch _ _ .work|.ch _ _ .rel|.ch _ _ .l2|.ch _ _ .RO=>True
 | _=>False
theorem AY (h:St N o τ) {n p:Nat} (hi:i<N) (a:τ i=.par n p .w3) (s:o.YY=0):∃j,j<N/\Q9 (τ j):=by
 have pick:∀{φ:Tok->Nat},(∀t,0<φ t->Q9 t)->0<Z0 N τ φ->∃i,i<N/\Q9 (τ i):=λb c=>let ⟨i,hi,d⟩:=KW c;⟨i,hi,b _ d⟩
 have e:∀t,0<VF t->Q9 t:=λt a=>by cases t<;>simp_all [VF,Q9];rename_i m;cases m<;>simp_all [Qq]
 have f:∀t,0<U9 t->Q9 t:=λt a=>by cases t<;>simp_all [U9,Q9];rename_i m;cases m<;>simp_all [ON]
 have g:∀t,0<U8 t->Q9 t:=λt a=>by cases t<;>simp_all [U8,Q9];rename_i m;cases m<;>simp_all [OM]
 have w:=RK (φ:=Um) (λt a=>by cases t<;>simp_all [X1,Um]) h.SU hi (by rw[a];rfl);rw[a] at w;have:=h.Bh w;have:=h.IA;by_cases k:0<Z0 N τ VF
 .exact pick e k
 by_cases l:0<Z0 N τ U9
 .exact pick f l
 by_cases r:0<Z0 N τ U8
 .exact pick g r
 exfalso;omega
end
end Go.TL
namespace Go.TL
open Go.Conc
open Go.ConcM (OsLater)
open Go.ConcN (sumTo upd sumTo_upd upd_ne upd_same sumTo_congr le_sumTo)
open Go.ConcR (mk)
inductive Xh (B:Type):Type where
 | leaf
 | node (f:B->Xh B)
inductive Tm {B:Type}:List (Xh B)->List (Xh B)->Prop where
 | one (a b:List (Xh B)) (f:B->Xh B) (k:B):Tm (a++f k::b) (a++Xh.node f::b)
 | two (a b:List (Xh B)) (f:B->Xh B) (k c:B):Tm (a++f k::f c::b) (a++Xh.node f::b)
theorem Tm.cons_inv {B:Type} {l:List (Xh B)} {t:Xh B} {m:List (Xh B)} (h:Tm m (t::l)) :
  (∃e,Tm e l/\m=t::e)\/(∃f k,t=.node f/\m=f k::l)\/(∃f k d,t=.node f/\m=f k::f d::l):=by
 generalize c:t::l=x at h;cases h with
 | one a b f k=>
  cases a with
  | nil=>simp at c;exact .inr (.inl ⟨f,k,c.1,by rw[c.2];rfl⟩)
  | cons y a=>simp at c;exact .inl ⟨a++f k::b,by rw[c.2];exact .one a b f k,by rw[c.1];rfl⟩
 | two a b f k d=>
  cases a with
  | nil=>simp at c;exact .inr (.inr ⟨f,k,d,c.1,by rw[c.2];rfl⟩)
  | cons y a=>simp at c;exact .inl ⟨a++f k::f d::b,by rw[c.2];exact .two a b f k d,by rw[c.1];rfl⟩
theorem Tm.AX {B:Type} (t:Xh B):∀l,Acc Tm l->Acc Tm (t::l):=by
 induction t with
 | leaf=>
  intro l a
  induction a with
  | intro l _ b=>
   refine⟨_,λm c=>?_⟩;rcases c.cons_inv with⟨d,e,rfl⟩|⟨f,k,h,_⟩|⟨f,k,i,h,_⟩
   .exact b d e
   .cases h
   .cases h
 | node f g=>
  intro l a
  induction a with
  | intro l j b=>
   refine⟨_,λm c=>?_⟩;rcases c.cons_inv with⟨d,e,rfl⟩|⟨f',k,h,rfl⟩|⟨f',k,i,h,rfl⟩
   .exact b d e
   .cases h;exact g k l ⟨l,j⟩
   .cases h;exact g k _ (g i l ⟨l,j⟩)
theorem Tm.wf {B:Type}:WellFounded (Tm (B:=B)):=⟨λl=>by
 induction l with
 | nil=>exact⟨_,λm a=>by
   generalize b:([]:List (Xh B))=x at a;cases a<;>simp at b⟩
 | cons t l c=>exact Tm.AX t l c⟩
structure Z4 where
 G:Ψ
 γ:Nat->Option (Array Value×TypeId)
 tok:Nat->Tok
 spec:Nat->Option Spec
 view:Nat->Option (Nat×η)
 deaf:Nat
 rel:Bool
def Mt (V:Nat->Option (Array Value×TypeId)) (w:World):Prop:=∀b c t,V b=some (c,t)->w.heap[b]?=some (.cells c t (0,0))
def Y8 (o:η):Int:=(o.cnt:Int)*4294967296+o.wt
def mwd (o:η):Int:=(o.Zb:Int)+2*o.wk+4*o.sv+8*o.nw
def At (s:Nat) (o:η) (w:World):Prop:=
 (∃a,w.heap[s]?=some (.cells #[.int .u64 (Y8 o),.int .u32 o.YY] a (0,0)))/\∀m,o.ZW=some m->∃a,w.heap[m]?=some (.cells #[.int .i32 (mwd o),.int .u32 o.YF] a (0,0))
def Yj (s:Nat) (sp:Spec) (b:Nat):Prop:=b=s\/sp.ZW=some b
def OJ (o:η) (t:Tok):Prop:=∃N τ i,Pz N o τ/\i<N/\τ i=t/\(∀k L g,t=.ch k (.YK L) g->o.L=L)
def Ix (x:Z4) (s φ:Nat) (o:η):Prop:=∀a b,x.view s=some (a,b)->φ<=a/\(φ=a->o=b)
structure Sub (G' G:Ψ):Prop where
 μ:∀b o v p,G'.μ b o=some (v,p)->∃a,G.μ b o=some (v,a)/\(p=true->a=true)
 row:∀b x,G'.row b=some x->G.row b=some x
 obj:∀b x,G'.obj b=some x->G.obj b=some x
structure Split (G a b:Ψ):Prop where
 l:Sub a G
 r:Sub b G
 apart:Apart a b
def join (G H:Ψ):Ψ:=
 ⟨λb o=>match G.μ b o with|some x=>some x|none=>H.μ b o,λb=>match G.row b with|some x=>some x|none=>H.row b,λb=>match G.obj b with|some x=>some x|none=>H.obj b⟩
def Ul (c:Nat->Ψ->Prop):List Nat->Ψ->Prop
 | [],E=>E=Ψ.empty
 | k::d,E=>∃a b,c k a/\Ul c d b/\Apart a b/\E=join a b
structure KV (G G':Ψ) (n:Nat):Prop where
 μ:∀b o v p,G'.μ b o=some (v,p)->n<=b\/∃c a,G.μ b o=some (c,a)/\(p=true->a=true)
 obj:∀b,G'.XP b->n<=b\/G.XP b
def Iw (V:Nat->Option (Array Value×TypeId)) (V':Nat->Option (Array Value×TypeId)) (G':Ψ) (n:Nat):Prop:=
 ∀b c,V' b=some c->V b=some c\/(n<=b/\G'.off b)
def KU (e:Event):Prop:=e.loc=.output\/e.loc=.mark .noRoom
def Sr (s:Nat) (sp:Spec) (d:Nat) (es:Array Event):Prop:=
 deafBehind d es=d/\∀j e,es[j]?=some e->(e.loc=.mark .disable\/e.loc=.mark .enable\/(∃b a wr,e=⟨.cell ⟨b,a,none⟩,wr,true⟩/\Yj s sp b/\0<deafBehind d (es.extract 0 j)))
def U7 (o:η):Tok->Prop
 | .ch _ .q _=>o.YF=0
 | .par _ _ .w3=>o.YY=0
 | _=>False
def Tl:Tok->Prop
 | .nil=>True
 | .par _ _ .add|.par _ _ .ZY=>True
 | .ch _ .idle _|.ch _ .done _=>True
 | _=>False
def Xn:Tok->Prop
 | .nil=>True
 | .par _ _ .ZY=>True
 | _=>False
def Gone:Tok->Prop
 | .nil=>True
 | .par _ _ .ZY=>True
 | .ch _ _ .gone=>True
 | _=>False
abbrev Ms:=Bool->Goroutine->Z4->Prop
def VT (g:Goroutine):Prop:=g.status=.running/\g.offers=none
section
variable (P:Program) (mn:Bool) (YP:Ms) (g:Goroutine) (x:Z4)
def FX:Prop:=∀w,Fits x.G w->Mt x.γ w->(stepG P mn g w).goes λg' w' es=>∃G' V',VT g'/\Xy x.G.owns x.G.XP w w'/\Fits G' w'/\Mt V' w'/\
 KV x.G G' w.heap.size/\Iw x.γ V' G' w.heap.size/\(∀e∈es,if x.rel then KU e else WJ x.G w.heap.size w'.heap.size e)/\(∀b c,V' b=some c->w.heap.size<=b->∀e∈es,¬SY e.loc b)/\YP mn g' {x with G:=G',γ:=V'}
def FW:Prop:=∃g',VT g'/\((∀w,Fits x.G w->stepG P mn g w=.go g' w #[mk .disable]/\YP mn g' {x with deaf:=x.deaf+1})\/
 (0<x.deaf/\∀w,Fits x.G w->stepG P mn g w=.go g' w #[mk .enable]/\YP mn g' {x with deaf:=x.deaf-1}))
def FV:Prop:=∃(s n p:Nat) (a:Qr) (g':Goroutine) (b:Nat) (wr:Bool),x.tok s=.par n p a/\a≠.ZY/\x.rel=false/\VT g'/\∀w,Fits x.G w->stepG P mn g w=.go g' w #[mk (if wr then .write ⟨s,b,none⟩ else .read ⟨s,b,none⟩)]/\YP mn g' x
def Atom:Prop:=∃s sp,x.spec s=some sp/\¬Xn (x.tok s)/\∀w φ o,Fits x.G w->Mt x.γ w->o.toSpec=sp->At s o w->Ix x s φ o->OJ o (x.tok s)->
 ((stepG P mn g w).goes λg' w' es=>VT g'/\Xy (λb _=>Yj s sp b) (λ_=>False) w w'/\Sr s sp x.deaf es/\
   ((At s o w'/\YP mn g' {x with view:=upd x.view s (some (φ,o))})\/
    ∃o' t',Act o (x.tok s) o' t'/\At s o' w'/\(mayWake P g=true\/o'=o)/\∀a,a<φ->YP mn g' {x with tok:=upd x.tok s t',view:=upd x.view s (some (a,o'))}))\/
 (U7 o (x.tok s)/\(∀c,c≠s->Tl (x.tok c))/\stepG P mn g w=.go {g with status:=.blocked} w #[])
def FU:Prop:=∃s sp m k g',x.spec s=some sp/\sp.ZW=some m/\x.tok s=.ch k .own .work/\x.deaf=0/\VT g'/\x.rel=false/\
 (∀w,Fits x.G w->stepG P mn g w=.go g' w #[mk (.acquire ⟨m,0,none⟩)])/\
 ∀L E,sp.X2 L E->Apart x.G E->(L.Nodup/\k∉L/\∃w,Fits x.G w/\Fits E w)->YP mn g' {x with G:=join x.G E,tok:=upd x.tok s (.ch k (.YK L) .work),view:=upd x.view s none}
def FT:Prop:=∃s sp m k L g' G' E,x.spec s=some sp/\sp.ZW=some m/\x.tok s=.ch k (.YK L) .work/\x.deaf=0/\VT g'/\x.rel=false/\
 (∀w,Fits x.G w->stepG P mn g w=.go g' w #[mk (.releaseMerge ⟨m,0,none⟩)])/\
 Split x.G G' E/\sp.X2 (L++[k]) E/\YP mn g' {x with G:=G',tok:=upd x.tok s (.ch k .fin .work),view:=upd x.view s none}
def FR:Prop:=∃s sp k a g' E,x.spec s=some sp/\x.tok s=.ch k a .work/\(a=.done\/(a=.idle/\sp.ZW=none))/\(∀b,b≠s->Xn (x.tok b))/\x.deaf=0/\VT g'/\x.rel=false/\
 (∀w,Fits x.G w->stepG P mn g w=.go g' w #[mk (.releaseMerge ⟨s,0,none⟩)])/\
 Sub E x.G/\sp.D k E/\YP mn g' {x with G:=Ψ.empty,γ:=λ_=>none,tok:=upd x.tok s (.ch k a .rel),view:=upd x.view s none,rel:=true}
def FQ:Prop:=∃s sp n c g',x.spec s=some sp/\x.tok s=.par n 0 c/\(c=.SX\/c=.w4)/\x.deaf=0/\VT g'/\x.rel=false/\
 (∀w,Fits x.G w->stepG P mn g w=.go g' w #[mk (.acquire ⟨s,0,none⟩)])/\
 ∀d e b a,d.Perm (List.range n)->Ul sp.D d b->(sp.ZW≠none->e.Perm (List.range n)/\sp.X2 e a)->(sp.ZW=none->a=Ψ.empty)->Apart x.G b->Apart x.G a->Apart b a->(∃w,Fits x.G w/\Fits b w/\Fits a w)->
  YP mn g' {x with G:=join (join x.G b) a,tok:=upd x.tok s (.par n 0 .ZY),view:=upd x.view s none}
def FP:Prop:=∃s sp n p g' c a b,x.spec s=some sp/\x.tok s=.par n (p+1) .add/\x.deaf=0/\VT g'/\VT c/\x.rel=false/\
 (∀w,Fits x.G w->stepG P mn g w=.spawn g' c w #[])/\Split x.G a b/\
 YP mn g' {x with G:=a,tok:=upd x.tok s (.par n p .add),view:=upd x.view s none}/\
 YP false c ⟨b,λ_=>none,upd (λ_=>.nil) s (.ch (n-(p+1)) .idle .work),upd (λ_=>none) s (some sp),λ_=>none,0,false⟩
def Iv:Prop:=
 (∃G',Sub G' x.G/\YP mn g {x with G:=G'})\/
 (∃b c t,x.γ b=some (c,t)/\YP mn g {x with γ:=upd x.γ b none,G:=⟨λa o=>if a=b then(c[o]?).map (·,true) else x.G.μ a o,λa=>if a=b then some (t,c.size) else x.G.row a,x.G.obj⟩})\/
 (∃s sp d G' E,x.γ s=some (#[.int .u64 0,.int .u32 0],d)/\(∀m,sp.ZW=some m->m≠s/\∃e,x.γ m=some (#[.int .i32 0,.int .u32 0],e))/\x.rel=false/\
  Split x.G G' E/\(sp.ZW≠none->sp.X2 [] E)/\
  YP mn g {x with G:=G',γ:=λb=>if b=s\/sp.ZW=some b then none else x.γ b,tok:=upd x.tok s (.par 0 0 .add),spec:=upd x.spec s (some sp),view:=upd x.view s none})
def FO:Prop:=mn=false/\g.status=.running/\x.rel=true/\(∀s,Gone (x.tok s))/\∃g' es,(∀e∈es,Event.mute e=true)/\(∀w,stepG P false g w=.go g' w es)/\YP mn g' {x with deaf:=deafBehind x.deaf es}
def Mr:Prop:=FO P mn YP g x\/VT g/\(FX P mn YP g x\/FW P mn YP g x\/FV P mn YP g x\/Atom P mn YP g x\/FU P mn YP g x\/FT P mn YP g x\/FR P mn YP g x\/FQ P mn YP g x\/FP P mn YP g x\/Iv mn YP g x)
def FN (a:Value->Prop):Prop:=VT g/\(∀s,Xn (x.tok s))/\x.deaf=0/\∀w,Fits x.G w->∃v es,stepG P true g w=.ended (.done v) w es/\(∀e∈es,WJ x.G w.heap.size w.heap.size e)/\a v
def AW:Prop:=x.rel=true/\(∀s,Gone (x.tok s))/\g.status=.finished/\x.deaf=0
def KT (a:Value->Prop):Prop:=(mn=true/\FN P g x a)\/(mn=false/\AW g x)
def Mq:Prop:=x.rel=true->(∀s,Gone (x.tok s))->∃n,QuitsD P n x.deaf g
end
open Classical in
def Vo (P:Program) (a:Value->Prop):Xh (Bool×Goroutine×Z4)->Ms
 | .leaf=>λmn g x=>Mq P g x/\KT P mn g x a
 | .node f=>λmn g x=>Mq P g x/\(KT P mn g x a\/Mr P mn (λb g' c=>Vo P a (f (b,g',c)) b g' c) g x)
def Goes (P:Program) (a:Value->Prop):Ms:=λmn g x=>∃T,Vo P a T mn g x
theorem Mr.mono {P:Program} {mn:Bool} {K M:Ms} {g:Goroutine} {x:Z4} (v:∀mn g x,K mn g x->M mn g x) (h:Mr P mn K g x):Mr P mn M g x:=by
 rcases h with⟨N,Φ,O,Q,g',es,R,S,T⟩|⟨U,h⟩
 .exact .inl ⟨N,Φ,O,Q,g',es,R,S,v _ _ _ T⟩
 refine .inr ⟨U,?_⟩;rcases h with h|h|h|h|h|h|h|h|h|h
 .refine .inl λw B hv=>?_;have:=h w B hv;revert this;cases stepG P mn g w<;>simp only[GStep.goes,imp_self];rintro⟨G',V',j,l,r,u,y,C,A,V,D⟩;exact⟨G',V',j,l,r,u,y,C,A,V,v _ _ _ D⟩
 .obtain⟨g',j,l⟩:=h;exact .inr (.inl ⟨g',j,l.elim (λh=>.inl λw B=>⟨(h w B).1,v _ _ _ (h w B).2⟩) (λh=>.inr ⟨h.1,λw B=>⟨(h.2 w B).1,v _ _ _ (h.2 w B).2⟩⟩)⟩)
 .obtain⟨s,n,p,I,g',W,wr,j,l,J,r,u⟩:=h;exact .inr (.inr (.inl ⟨s,n,p,I,g',W,wr,j,l,J,r,λw B=>⟨(u w B).1,v _ _ _ (u w B).2⟩⟩))
 .obtain⟨s,sp,j,J,r⟩:=h;refine .inr (.inr (.inr (.inl ⟨s,sp,j,J,λw φ o B hv X Y Z aa=>?_⟩)));refine(r w φ o B hv X Y Z aa).imp (λh=>?_) id;revert h;cases stepG P mn g w<;>simp only[GStep.goes,imp_self];rintro⟨j,l,r,u⟩;exact⟨j,l,r,u.imp (λh=>⟨h.1,v _ _ _ h.2⟩) λ⟨o',t',ab,ad,ae,af⟩=>⟨o',t',ab,ad,ae,λag ah=>v _ _ _ (af ag ah)⟩⟩
 .obtain⟨s,sp,m,k,g',j,l,r,u,y,F,C,A⟩:=h;exact .inr (.inr (.inr (.inr (.inl ⟨s,sp,m,k,g',j,l,r,u,y,F,C,λL E a b c=>v _ _ _ (A L E a b c)⟩))))
 .obtain⟨s,sp,m,k,L,g',G',E,j,l,r,u,y,F,C,A,D,H⟩:=h;exact .inr (.inr (.inr (.inr (.inr (.inl ⟨s,sp,m,k,L,g',G',E,j,l,r,u,y,F,C,A,D,v _ _ _ H⟩)))))
 .obtain⟨s,sp,k,ai,g',E,j,l,r,u,y,C,aj,A,D,H,ak⟩:=h;exact .inr (.inr (.inr (.inr (.inr (.inr (.inl ⟨s,sp,k,ai,g',E,j,l,r,u,y,C,aj,A,D,H,v _ _ _ ak⟩))))))
 .obtain⟨s,sp,n,I,g',j,l,r,u,y,F,C,A⟩:=h;exact .inr (.inr (.inr (.inr (.inr (.inr (.inr (.inl ⟨s,sp,n,I,g',j,l,r,u,y,F,C,λal am an ao a b c d e f g i=>v _ _ _ (A al am an ao a b c d e f g i)⟩)))))))
 .obtain⟨s,sp,n,p,g',c,ap,aq,j,l,r,u,y,F,C,A,D,H⟩:=h;exact .inr (.inr (.inr (.inr (.inr (.inr (.inr (.inr (.inl ⟨s,sp,n,p,g',c,ap,aq,j,l,r,u,y,F,C,A,v _ _ _ D,v _ _ _ H⟩))))))))
 .refine .inr (.inr (.inr (.inr (.inr (.inr (.inr (.inr (.inr ?_))))))));rcases h with⟨G',j,l⟩|⟨b,c,t,j,l⟩|⟨s,sp,ar,G',E,j,l,r,u,y,A⟩
  .exact .inl ⟨G',j,v _ _ _ l⟩
  .exact .inr (.inl ⟨b,c,t,j,v _ _ _ l⟩)
  .exact .inr (.inr ⟨s,sp,ar,G',E,j,l,r,u,y,v _ _ _ A⟩)
theorem Goes.stop {P:Program} {a:Value->Prop} {mn:Bool} {g:Goroutine} {x:Z4} (b:Mq P g x) (h:KT P mn g x a):Goes P a mn g x:=⟨.leaf,b,h⟩
open Classical in
theorem Goes.step {P:Program} {a:Value->Prop} {mn:Bool} {g:Goroutine} {x:Z4} (c:Mq P g x) (h:Mr P mn (Goes P a) g x):Goes P a mn g x:=by
 refine⟨.node λk=>if b:∃T,Vo P a T k.1 k.2.1 k.2.2 then Classical.choose b else .leaf,c,.inr (h.mono λd g' e f=>?_)⟩;have b:∃T,Vo P a T d g' e:=f;simp only[b,dif_pos];exact Classical.choose_spec b
theorem Goes.quits {P:Program} {i:Value->Prop} (n:Nat):∀{g:Goroutine} {x:Z4},x.rel=true->(∀s,Gone (x.tok s))->QuitsD P n x.deaf g->Goes P i false g x:=by
 induction n with
 | zero=>
  intro g x b c a;exact .stop (λ_ _=>⟨0,a⟩) (.inr ⟨rfl,b,c,a.1,a.2⟩)
 | succ n j=>
  intro g x b c a;rcases a with a|⟨d,g',es,e,f,h⟩
  .exact .stop (λ_ _=>⟨0,a⟩) (.inr ⟨rfl,b,c,a.1,a.2⟩)
  .exact .step (λ_ _=>⟨n+1,.inr ⟨d,g',es,e,f,h⟩⟩) (.inl ⟨rfl,d,b,c,g',es,e,f,j (x:={x with deaf:=deafBehind x.deaf es}) b c h⟩)
abbrev Za:=Nat ⊕ Nat
def ZD (H:Za->Ψ) (h:Za) (G:Ψ):Za->Ψ:=λk=>if k=h then G else H k
@[simp] theorem Yy (H:Za->Ψ) (h:Za) (G:Ψ):ZD H h G h=G:=by simp[ZD]
theorem ZC (H:Za->Ψ) {h k:Za} (G:Ψ) (a:k≠h):ZD H h G k=H k:=by simp[ZD,a]
structure YS where
 H:Za->Ψ
 γ:Nat->Nat->Option (Array Value×TypeId)
 tok:Nat->Nat->Tok
 spec:Nat->Nat->Option Spec
 view:Nat->Nat->Option (Nat×η)
 deaf:Nat->Nat
 rel:Nat->Bool
 T:Nat->Xh (Bool×Goroutine×Z4)
 O:Nat->Option η
 Zx:Nat->Nat
 home:Nat->Nat
 XV:Nat->Nat
def YS.x (c:YS) (i:Nat):Z4:=⟨c.H (.inl i),c.γ i,c.tok i,c.spec i,c.view i,c.deaf i,c.rel i⟩
structure WT (H:Za->Ψ) (a:Nat->Nat->Option (Array Value×TypeId)) (b:Nat->Option η) (c w:World):Prop where
 fit:∀h,Fits (H h) w
 TX:∀i,Mt (a i) w
 Xv:∀s o,b s=some o->At s o w
 keep:Xy (λ_ _=>False) (λ_=>False) c w
structure V5 (H:Za->Ψ) (d:Nat->Nat->Option (Array Value×TypeId)) (a:Nat->Option η) (c:Nat):Prop where
 apart:∀h k,h≠k->Apart (H h) (H k)
 high:∀h b o,(H h).owns b o->c<=b
 SS:∀h b,(H h).XP b->c<=b
 fresh:∀i b v,d i b=some v->c<=b/\(∀h,(H h).off b)/\∀j,j≠i->d j b=none
 UQ:∀s o b,a s=some o->Yj s o.toSpec b->c<=b/\(∀h,(H h).off b)/\∀j,d j b=none
 UF:∀s e o o' b,a s=some o->a e=some o'->Yj s o.toSpec b->Yj e o'.toSpec b->s=e
 RJ:∀s o m,a s=some o->o.ZW=some m->m≠s
 Yg:∀b,(∀s o,a s=some o->¬Yj s o.toSpec b)->H (.inr b)=Ψ.empty
theorem WT.own {H:Za->Ψ} {u:Nat->Nat->Option (Array Value×TypeId)} {y:Nat->Option η} {A w w':World} {C:Nat} (p:WT H u y A w) (k:V5 H u y C) (i:Nat) {G':Ψ} {V':Nat->Option (Array Value×TypeId)}
  (d:Xy (H (.inl i)).owns (H (.inl i)).XP w w') (L:Fits G' w') (hv:Mt V' w') (V:A.heap.size=C):WT (ZD H (.inl i) G') (upd u i V') y A w':=by
 have D:∀h,h≠.inl i->(∀b o,(H (.inl i)).owns b o->¬(H h).has b o)/\∀b,(H (.inl i)).XP b->¬(H h).XP b:=λh e=>⟨(k.apart _ _ (YZ e)).μ,(k.apart _ _ (YZ e)).obj⟩;refine⟨λh=>?_,λj=>?_,λs o E=>?_,?_⟩
 .by_cases e:h=.inl i
  .subst e;rw[Yy];exact L
  .rw[ZC _ _ e];exact(p.fit h).keeps d (D h e).1 (D h e).2
 .by_cases F:j=i
  .subst F;rw[upd_same];exact hv
  .rw[upd_ne _ _ F];intro b c t a;obtain⟨c',f,n,g⟩:=d.cells b c t _ (p.TX j b c t a);have B:=(k.fresh j b _ a).2.1 (.inl i);have:c'=c:=by
    apply NS;intro o;exact g o λ⟨v,hv⟩=>B.1 o ⟨_,hv⟩
   rw[f,this]
 .have B:=λb (a:Yj s o.toSpec b)=>(k.UQ s o b E a).2.1 (.inl i)
  have I:∀b c t,Yj s o.toSpec b->w.heap[b]?=some (.cells c t (0,0))->w'.heap[b]?=some (.cells c t (0,0)):=λb c t a M=>by
   obtain⟨c',f,n,g⟩:=d.cells b c t _ M;have:c'=c:=by
    apply NS;intro o';exact g o' λ⟨v,hv⟩=>(B b a).1 o' ⟨_,hv⟩
   rw[f,this]
  obtain⟨⟨N,f⟩,n⟩:=p.Xv s o E;exact⟨⟨N,I _ _ _ (.inl rfl) f⟩,λm J=>let ⟨O,g⟩:=n m J;⟨O,I _ _ _ (.inr J) g⟩⟩
 .have l:=p.keep;refine⟨Ya l.size d.size,λb c t K a=>?_,λb x a r _=>?_,l.os.trans d.os,d.output.trans l.output,d.tape.trans l.tape⟩
  .obtain⟨P,f,n,g⟩:=l.cells b c t K a;obtain⟨Q,R,S,T⟩:=d.cells b P t K f;refine⟨Q,R,by rw[S,n],λo _=>?_⟩;rw[T o λr=>?_,g o id];have:=k.high _ _ _ r;have:=Xx a;omega
  .refine d.Tp b x (l.Tp b x a r id) r λU=>?_;have:=k.SS _ _ U;have:=Xx a;omega
theorem WT.at {H:Za->Ψ} {a:Nat->Nat->Option (Array Value×TypeId)} {b:Nat->Option η} {c w:World} (h:WT H a b c w) (d:Nat):WT H a b c (w.at d):=
 ⟨λk=>(h.fit k).at d,h.TX,h.Xv,⟨h.keep.size,h.keep.cells,h.keep.Tp,h.keep.os,h.keep.output,h.keep.tape⟩⟩
theorem V5.own {H:Za->Ψ} {y:Nat->Nat->Option (Array Value×TypeId)} {K:Nat->Option η} {O:Nat} {w:World} {ad:World} (g:V5 H y K O) (L:WT H y K ad w) (al:O<=w.heap.size) (i:Nat) {G':Ψ} {V':Nat->Option (Array Value×TypeId)}
  (C:KV (H (.inl i)) G' w.heap.size) (P:Iw (y i) V' G' w.heap.size):V5 (ZD H (.inl i) G') (upd y i V') K O:=by
 have W:∀b o,G'.has b o->w.heap.size<=b\/(H (.inl i)).has b o:=λb o ⟨⟨v,p⟩,h⟩=>(C.μ b o v p h).imp id λ⟨X,ae,Q,_⟩=>⟨_,Q⟩
 have Y:∀b o,G'.owns b o->w.heap.size<=b\/(H (.inl i)).owns b o:=λb o ⟨v,h⟩=>(C.μ b o v true h).imp id λ⟨X,ae,Q,af⟩=>⟨X,by rw[Q,af rfl]⟩
 have R:∀h b o,(H h).has b o->b<w.heap.size:=λh b o ⟨⟨v,p⟩,m⟩=>by
  obtain⟨c,t,am,hb,_⟩:=Rb ((L.fit h).μ b o v p m);exact Xx hb
 have Z:∀h b,(H h).XP b->b<w.heap.size:=λh b ⟨x,m⟩=>Xx ((L.fit h).obj b x m).1
 have aa:∀k,k≠.inl i->Apart G' (H k):=λk D=>by
  have a:=g.apart _ _ (YZ D);refine⟨λb o d m=>?_,λb o d m=>?_,λb d m=>?_⟩
  .rcases Y b o d with h|h
   .have:=R k b o m;omega
   .exact a.μ b o h m
  .rcases W b o m with h|h
   .have:=R k b o (let ⟨v,hv⟩:=d;⟨_,hv⟩);omega
   .exact a.Rc b o d h
  .rcases C.obj b d with h|h
   .have:=Z k b m;omega
   .exact a.obj b h m
 have ag:∀{A B:Ψ},Apart A B->Apart B A:=λh=>⟨h.Rc,h.μ,λb hb ah=>h.obj b ah hb⟩
 have S:∀b,b<w.heap.size->(H (.inl i)).off b->G'.off b:=λb hb h=>⟨λo d=>(W b o d).elim (λx=>U) (h.1 o),λd=>(C.obj b d).elim (λx=>U) h.2⟩
 have T:∀j b v,y j b=some v->b<w.heap.size:=λj b v hv=>Xx (L.TX j b v.1 v.2 hv)
 have ai:∀s o b,K s=some o->Yj s o.toSpec b->b<w.heap.size:=λs o b M hb=>by
  obtain⟨⟨an,N⟩,V⟩:=L.Xv s o M;rcases hb with rfl|hb
  .exact Xx N
  .obtain⟨ao,aj⟩:=V b hb;exact Xx aj
 refine⟨λh k D=>?_,λh b o d=>?_,λh b d=>?_,λj b v hv=>?_,λs o b M hb=>?_,g.UF,g.RJ,λb hb=>?_⟩
 .by_cases e:h=.inl i
  .subst e;rw[Yy,ZC _ _ (YZ D)];exact aa k (YZ D)
  .by_cases kk:k=.inl i
   .subst kk;rw[Yy,ZC _ _ e];exact ag (aa h e)
   .rw[ZC _ _ e,ZC _ _ kk];exact g.apart h k D
 .by_cases e:h=.inl i
  .subst e;rw[Yy] at d;rcases Y b o d with h|h
   .omega
   .exact g.high _ _ _ h
  .rw[ZC _ _ e] at d;exact g.high _ _ _ d
 .by_cases e:h=.inl i
  .subst e;rw[Yy] at d;rcases C.obj b d with h|h
   .omega
   .exact g.SS _ _ h
  .rw[ZC _ _ e] at d;exact g.SS _ _ d
 .by_cases ab:j=i
  .subst ab;rw[upd_same] at hv;rcases P b v hv with h|⟨N,V⟩
   .obtain⟨E,n,r⟩:=g.fresh j b v h;refine⟨E,λf=>?_,λl u=>by rw[upd_ne _ _ u];exact r l u⟩;by_cases e:f=.inl j
    .subst e;rw[Yy];exact S b (T j b v h) (n _)
    .rw[ZC _ _ e];exact n _
   .refine⟨U,λf=>?_,λl u=>?_⟩
    .by_cases e:f=.inl j
     .subst e;rw[Yy];exact V
     .rw[ZC _ _ e];exact⟨λo d=>by have:=R f b o d;omega,λd=>by have:=Z f b d;omega⟩
    .rw[upd_ne _ _ u];cases F:y l b with
     | none=>rfl
     | some I=>have:=T l b I F;omega
  .rw[upd_ne _ _ ab] at hv;obtain⟨E,n,r⟩:=g.fresh j b v hv;have hb:=T j b v hv;refine⟨E,λf=>?_,λl u=>?_⟩
   .by_cases e:f=.inl i
    .subst e;rw[Yy];exact S b hb (n _)
    .rw[ZC _ _ e];exact n _
   .by_cases f:l=i
    .subst f;rw[upd_same];cases F:V' b with
     | none=>rfl
     | some I=>
      rcases P b I F with h|⟨N,_⟩
      .rw[r l u] at h;cases h
      .omega
    .rw[upd_ne _ _ f];exact r l u
 .obtain⟨E,n,r⟩:=g.UQ s o b M hb;have ak:=ai s o b M hb;refine⟨E,λf=>?_,λl=>?_⟩
  .by_cases e:f=.inl i
   .subst e;rw[Yy];exact S b ak (n _)
   .rw[ZC _ _ e];exact n _
  .by_cases f:l=i
   .subst f;rw[upd_same];cases F:V' b with
    | none=>rfl
    | some I=>
     rcases P b I F with h|⟨N,_⟩
     .rw[r l] at h;cases h
     .omega
   .rw[upd_ne _ _ f];exact r l
 .rw[ZC _ _ J];exact g.Yg b hb
def Vn (tok:Nat->Nat->Tok) (c:Nat->Option η) (t:Trace):Za->Nat->Prop
 | .inl i,k=>Knows t i k
 | .inr b,k=>(∃p a,t[p]?=some a/\a.act=.mark (.releaseMerge ⟨b,0,none⟩)/\t.heard p/\Before t k p)\/(∀s o,c s=some o->Yj s o.toSpec b->∀i,tok i s≠.nil->Knows t i k)
theorem Iu {tok:Nat->Nat->Tok} {a:Nat->Option η} {t:Trace} (u:Trace) {h:Za} {k:Nat} (c:Vn tok a t h k):Vn tok a (t++u) h k:=by
 cases h with
 | inl i=>exact Knows.app u c
 | inr b=>
  rcases c with⟨p,f,d,g,j,l⟩|h
  .have e:=lt_size_of_getElem? d;exact .inl ⟨p,f,by rw[getElem?_append_old e];exact d,g,(heard_old e).2 j,l.app u⟩
  .exact .inr λs o m n i hi=>(h s o m n i hi).app u
structure VS (H:Za->Ψ) (e:Nat->Nat->Option (Array Value×TypeId)) (tok:Nat->Nat->Tok) (d:Nat->Option η) (f:Nat->Nat) (g:Nat->Nat) (N:Nat) (t:Trace):Prop where
 race:∀j,¬Race j t
 low:∀c∈t,c.act.low N
 norel:∀c∈t,∀a,c.act≠.mark (.release a)
 perms:∀h,YI t (Vn tok d t h) (H h)
 Sq:∀i b v,e i b=some v->∀k a,touchAt t k=some a->¬SY a.loc b
 cont:∀s o b,d s=some o->Yj s o.toSpec b->∀k a,touchAt t k=some a->SY a.loc b->a.kind=.atomic\/(a.kind=.said/\t.g? k=some (f s))
 hears:∀i,Deaf t i=g i
theorem Mp {t:Trace} {N k:Nat} {a:Touch} (h:∀f∈t,f.act.low N) (j:touchAt t k=some a) {b:Nat} (c:SY a.loc b):b<N:=by
 obtain⟨f,l,d⟩:=touch_of j;have i:=h f (mem_of_getElem? l);obtain⟨g,fn,pos,n⟩:=f;cases n with
 | access e=>
  simp only[MemAct.touch?,Qx] at d;subst d;obtain⟨o,wr,p⟩:=e;cases o<;>simp only[SY] at c<;>first|(subst c;exact i)|exact c.elim
 | mark m=>
  cases m<;>simp only[MemAct.touch?,Qx,reduceCtorEq] at d<;>(subst d;simp only[SY] at c;subst c;exact i)
 | _=>simp[MemAct.touch?] at d
theorem KU.It {G:Ψ} {n a:Nat} {e:Event} (h:KU e):WJ G n a e:=by
 rcases h with h|h<;>simp[WJ,h]
theorem KS {G:Ψ} {n f:Nat} {e:Event} (c:WJ G n f e) {a:Touch} (b:(MemAct.ofEvent e).touch?=some a) :
  a.loc=e.loc/\a.write=e.write/\(a.loc.isMemory=true->(∃d,e.loc=.cell d)\/∃r,e.loc=.obj r):=by
 obtain⟨g,wr,h⟩:=e;cases g with
 | cell d=>simp[MemAct.ofEvent,MemAct.touch?] at b;subst b;simp
 | obj r=>
  simp only[WJ] at c;obtain⟨rfl,_⟩:=c;cases wr<;>simp[MemAct.ofEvent,MemAct.touch?] at b<;>subst b<;>simp
 | output=>simp[MemAct.ofEvent,MemAct.touch?] at b;subst b;simp[Loc.isMemory]
 | goroutines=>exact c.elim
 | mark m=>simp only[WJ] at c;subst c;simp[MemAct.ofEvent,MemAct.touch?] at b
theorem VS.own {H:Za->Ψ} {M:Nat->Nat->Option (Array Value×TypeId)} {tok:Nat->Nat->Tok} {P:Nat->Option η} {ah:Nat->Nat} {ai:Nat->Nat} {ap w w':World} {aq:Nat} {t:Trace}
  (l:VS H M tok P ah ai w.heap.size t) (U:WT H M P ap w) (V:V5 H M P aq) (i:Nat) {G':Ψ} {V':Nat->Option (Array Value×TypeId)} {es:Array Event} {fn:FuncId} {pos:String}
  (ar:w.heap.size<=w'.heap.size) (aj:KV (H (.inl i)) G' w.heap.size) (ak:Iw (M i) V' G' w.heap.size)
  (E:∀e∈es,WJ (H (.inl i)) w.heap.size w'.heap.size e) (au:∀b c,V' b=some c->w.heap.size<=b->∀e∈es,¬SY e.loc b) :
  VS (ZD H (.inl i) G') (upd M i V') tok P ah ai w'.heap.size (t++MemOp.ofEvents i fn pos es):=by
 have Q:∀B∈MemOp.ofEvents i fn pos es,B.g=i:=λB n=>by obtain⟨e,_,rfl⟩:=Go.Conc.mem_ofEvents n;rfl
 have W:∀h b o,(H h).has b o->b<w.heap.size:=λh b o ⟨⟨v,p⟩,C⟩=>by
  obtain⟨c,t,aF,hb,_⟩:=Rb ((U.fit h).μ b o v p C);exact Xx hb
 have al:∀h b,(H h).XP b->b<w.heap.size:=λh b ⟨x,C⟩=>Xx ((U.fit h).obj b x C).1
 have am:∀j b v,M j b=some v->b<w.heap.size:=λj b v hv=>Xx (U.TX j b v.1 v.2 hv)
 have av:∀s o b,P s=some o->Yj s o.toSpec b->b<w.heap.size:=λs o b R hb=>by
  obtain⟨⟨aG,D⟩,S⟩:=U.Xv s o R;rcases hb with rfl|hb
  .exact Xx D
  .obtain⟨aH,X⟩:=S b hb;exact Xx X
 have Y:∀e∈es,∀b,b<w.heap.size->(H (.inl i)).off b->¬SY e.loc b:=λe f b hb Z u=>by
  have:=E e f;obtain⟨T,wr,aa⟩:=e;cases T with
  | cell N=>
   simp only[SY] at u;subst u;simp only[WJ] at this;rcases this with h|⟨_,h⟩
   .omega
   .cases wr
    .exact Z.1 _ h
    .obtain⟨v,hv⟩:=h;exact Z.1 _ ⟨_,hv⟩
  | obj r=>
   simp only[SY] at u;subst u;simp only[WJ] at this;rcases this.2 with h|h
   .omega
   .exact Z.2 h
  | _=>exact u
 refine⟨λaw=>noRace_append (l.race aw) Q λk a y B n b hb K=>?_,λB n=>?_,λB n=>?_,λh=>?_,λj b v hv k a y u=>?_,λs o b R hb k a y u=>?_,λj=>?_⟩
 .obtain⟨e,f,rfl⟩:=Go.Conc.mem_ofEvents n;obtain⟨D,S,X⟩:=KS (E e f) hb;obtain⟨ab,ax,ay,_⟩:=K;have d:=E e f;rcases X (by rw[<-ab];exact ax) with⟨N,A⟩|⟨r,A⟩
  .simp only[WJ,A] at d;have O:a.loc=.cell N:=by rw[ab,D,A]
   rcases d with h|⟨an,h⟩
   .have:=Mp l.low y (b:=N.block) (by rw[O];rfl);omega
   .obtain⟨aI,aJ,sp⟩:=N;simp only at an;subst an;by_cases I:e.write=true
    .rw[if_pos I] at h;obtain⟨v,hv⟩:=h;exact(l.perms (.inl i)).μ _ _ v true hv k a y O (.inl rfl)
    .rw[if_neg I] at h;obtain⟨⟨v,p⟩,hv⟩:=h;exact(l.perms (.inl i)).μ _ _ v p hv k a y O (.inr (ay.resolve_right (by rw[S];exact I)))
  .simp only[WJ,A] at d;have O:a.loc=.obj r:=by rw[ab,D,A]
   rcases d.2 with h|h
   .have:=Mp l.low y (b:=r) (by rw[O];rfl);omega
   .exact(l.perms (.inl i)).obj r h k a y O
 .rcases Sv.1 n with h|h
  .exact MemAct.low_mono ar (l.low B h)
  .obtain⟨e,f,rfl⟩:=Go.Conc.mem_ofEvents h;have d:=E e f;obtain⟨T,wr,aa⟩:=e;cases T with
   | cell N=>
    simp only[WJ] at d;show N.block<_;rcases d with h|⟨_,h⟩
    .exact h.2
    .cases wr
     .have:=W _ _ _ h;omega
     .obtain⟨v,hv⟩:=h;have:=W (.inl i) _ _ ⟨_,hv⟩;omega
   | obj r=>
    simp only[WJ] at d;obtain⟨rfl,d⟩:=d;have az:r<w'.heap.size:=d.elim (λh=>h.2) (λh=>by have:=al _ _ h;omega);cases wr<;>exact az
   | output=>trivial
   | goroutines=>exact d.elim
   | mark m=>simp only[WJ] at d;subst d;trivial
 .rcases Sv.1 n with h|h
  .exact l.norel B h
  .obtain⟨e,f,rfl⟩:=Go.Conc.mem_ofEvents h;intro a h;have d:=E e f;obtain⟨T,wr,aa⟩:=e;cases T with
   | mark m=>simp only[WJ] at d;subst d;simp[MemAct.ofEvent] at h
   | obj r=>cases wr<;>cases aa<;>simp[MemAct.ofEvent] at h
   | _=>simp[MemAct.ofEvent] at h
 .by_cases ad:h=.inl i
  .subst ad;rw[Yy];have ao:YI (t++MemOp.ofEvents i fn pos es) (Knows (t++MemOp.ofEvents i fn pos es) i) (H (.inl i)):=(l.perms (.inl i)).own Q;refine⟨λb o v p K k a y A I=>?_,λb hb k a y A=>?_⟩
   .rcases aj.μ b o v p K with aA|⟨aB,aC,ae,aD⟩
    .rcases To y with F|⟨_,B,n,L,_⟩
     .have:=Mp l.low F (b:=b) (by rw[A];rfl);omega
     .have:=knows_own L;rwa [Q B n] at this
    .exact ao.μ b o aB aC ae k a y A (I.imp aD id)
   .rcases aj.obj b hb with aA|ae
    .rcases To y with F|⟨_,B,n,L,_⟩
     .have:=Mp l.low F (b:=b) (by rw[A];rfl);omega
     .have:=knows_own L;rwa [Q B n] at this
    .exact ao.obj b ae k a y A
  .rw[ZC _ _ ad];have af:=V.apart _ _ (YZ ad);refine(l.perms h).others (λk L=>Iu _ L) λB n a y=>?_;obtain⟨e,f,rfl⟩:=Go.Conc.mem_ofEvents n;obtain⟨D,S,_⟩:=KS (E e f) y;have d:=E e f;refine⟨λb o v p A K=>?_,λb A hb=>?_⟩
   .simp only[WJ,<-D,A] at d;rcases d with C|⟨_,C⟩
    .have:=W h b o ⟨_,K⟩;omega
    .by_cases I:e.write=true
     .rw[if_pos I] at C;exact absurd ⟨_,K⟩ (af.μ b o C)
     .rw[if_neg I] at C;refine⟨?_,by rw[S];simpa using I⟩;cases p with
      | false=>rfl
      | true=>exact absurd C (af.Rc b o ⟨v,K⟩)
   .simp only[WJ,<-D,A] at d;rcases d.2 with C|C
    .have:=al h b hb;omega
    .exact af.obj b C hb
 .rcases To y with F|⟨_,B,n,_,ag⟩
  .have hb:=Mp l.low F u;by_cases J:j=i
   .subst J;rw[upd_same] at hv;rcases ak b v hv with h|h
    .exact l.Sq j b v h k a F u
    .omega
   .rw[upd_ne _ _ J] at hv;exact l.Sq j b v hv k a F u
  .obtain⟨e,f,rfl⟩:=Go.Conc.mem_ofEvents n;obtain⟨D,_,_⟩:=KS (E e f) ag;rw[D] at u;by_cases J:j=i
   .subst J;rw[upd_same] at hv;rcases ak b v hv with h|h
    .exact Y e f b (am j b v h) ((V.fresh j b v h).2.1 _) u
    .exact au b v hv h.1 e f u
   .rw[upd_ne _ _ J] at hv;exact Y e f b (am j b v hv) ((V.fresh j b v hv).2.1 _) u
 .rcases To y with F|⟨_,B,n,_,ag⟩
  .rcases l.cont s o b R hb k a F u with h|⟨h,L⟩
   .exact .inl h
   .obtain⟨B,aE,_⟩:=touch_of F;exact .inr ⟨h,by rw[g?_old (lt_size_of_getElem? aE)];exact L⟩
  .obtain⟨e,f,rfl⟩:=Go.Conc.mem_ofEvents n;obtain⟨D,_,_⟩:=KS (E e f) ag;rw[D] at u;exact absurd u (Y e f b (av s o b R hb) ((V.UQ s o b R hb).2.1 _))
 .by_cases J:i=j
  .subst J;rw[Deaf_own,deafBehind_still (λe f=>?_)]
   .exact l.hears i
   .have d:=E e f;constructor<;>intro A<;>simp[WJ,A] at d
  .rw[Deaf_other t J _ Q];exact l.hears j
def Sp:Uq->Prop
 | .fin|.uc|.us|.done=>True
 | _=>False
def Zw (tok:Nat->Nat->Tok) (i s:Nat) (t:Tok):Nat->Nat->Tok:=upd tok i (upd (tok i) s t)
theorem XO (tok:Nat->Nat->Tok) (i s:Nat) (t:Tok):Zw tok i s t i s=t:=by simp[Zw,upd]
theorem XU {tok:Nat->Nat->Tok} {i s j r:Nat} (t:Tok) (h:¬(j=i/\r=s)):Zw tok i s t j r=tok j r:=by
 unfold Zw upd;by_cases a:j=i
 .subst a;by_cases b:r=s
  .exact absurd ⟨rfl,b⟩ h
  .simp[b]
 .simp[a]
theorem FM (tok:Nat->Nat->Tok) (i s:Nat) (t:Tok):(λj=>Zw tok i s t j s)=upd (λj=>tok j s) i t:=by
 funext j
 by_cases a:j=i
 .subst a;rw[XO,upd_same]
 .rw[XU _ (λh=>a h.1),upd_ne _ _ a]
theorem Is (tok:Nat->Nat->Tok) (i s:Nat) (t:Tok) {r:Nat} (a:r≠s):(λj=>Zw tok i s t j r)=λj=>tok j r:=by
 funext j;rw[XU _ (λh=>a h.2)]
structure X' (n:Nat) (tok:Nat->Nat->Tok) (spec:Nat->Nat->Option Spec) (h:Nat->Nat->Option (Nat×η)) (d:Nat->Bool) (a:Nat->Option η) (e b:Nat->Nat):Prop where
 Z9:∀s o,a s=some o->Pz n o (λi=>tok i s)
 bare:∀s,a s=none->∀i,tok i s=.nil
 out:∀i s,n<=i->tok i s=.nil
 Q8:∀i s sp,spec i s=some sp->∃o,a s=some o/\o.toSpec=sp
 OI:∀i s φ o,h i s=some (φ,o)->∃c,a s=some c/\Yc n c (λj=>tok j s)<=φ/\(Yc n c (λj=>tok j s)=φ->c=o)
 YK:∀i s k L g o,a s=some o->tok i s=.ch k (.YK L) g->o.L=L
 par:∀i s m p f,tok i s=.par m p f->i=e s
 So:∀i s k m g,tok i s=.ch k m g->i≠0/\b i=s/\e s<i
 Qp:∀i,i≠0->i<n->∃k m g,tok i (b i)=.ch k m g
 RI:∀i k m g,i≠0->tok i (b i)=.ch k m g->(d i=true↔g≠.work)
 Py:d 0=false
 Sn:∀i s,d i=true->s≠b i->Xn (tok i s)
 Sm:∀i s k m g o,a s=some o->tok i s=.ch k m g->g≠.work->m=.done\/(m=.idle/\o.ZW=none)
 OH:∀s i j k m g l g',tok i s=.ch k m g->tok j s=.ch k l g'->i=j
 Px:∀s i k m g q p f,tok i s=.ch k m g->tok (e s) s=.par q p f->k+p<q
 Sl:∀s o,a s=some o->o.L.Nodup/\∀k,k∈o.L↔∃i m g,tok i s=.ch k m g/\Sp m
 Q7:∀s o,a s=some o->o.YP.Nodup/\∀k,k∈o.YP↔∃i m g,tok i s=.ch k m g/\g≠.work
def Alike (t t':Tok):Prop:=(∃m p c a b d,t=.par m p c/\t'=.par a b d/\∀k,k+p<m->k+b<a)\/(∃k m g a g',t=.ch k m g/\t'=.ch k a g')
section
variable {n:Nat} {tok:Nat->Nat->Tok} {spec:Nat->Nat->Option Spec} {view:Nat->Nat->Option (Nat×η)} {rel:Nat->Bool} {O:Nat->Option η} {Zx home:Nat->Nat}
theorem X'.lt (h:X' n tok spec view rel O Zx home) {i s:Nat} (a:tok i s≠.nil):i<n:=Nat.lt_of_not_le λb=>a (h.out i s b)
theorem X'.change (h:X' n tok spec view rel O Zx home) {s i:Nat} {o o':η} {t t':Tok} {K:Nat->Bool} {V:Nat->Option (Nat×η)} (T:O s=some o) (M:tok i s=t) (N:Alike t t')
  (ab:Pz n o' (upd (λj=>tok j s) i t')) (av:Yc n o' (upd (λj=>tok j s) i t')<Yc n o (λj=>tok j s)) (ad:o'.toSpec=o.toSpec)
  (ae:∀r φ q,V r=some (φ,q)->(r=s/\φ=Yc n o' (upd (λj=>tok j s) i t')/\q=o')\/(r≠s/\view i r=some (φ,q)))
  (af:∀j k L g,Zw tok i s t' j s=.ch k (.YK L) g->o'.L=L)
  (ag:∀j k m g,j≠0->Zw tok i s t' j (home j)=.ch k m g->(K j=true↔g≠.work)) (ah:K 0=false)
  (ai:∀j r,K j=true->r≠home j->Xn (Zw tok i s t' j r))
  (aj:∀j k m g,Zw tok i s t' j s=.ch k m g->g≠.work->m=.done\/(m=.idle/\o'.ZW=none))
  (ak:o'.L.Nodup/\∀k,k∈o'.L↔∃j m g,Zw tok i s t' j s=.ch k m g/\Sp m) (al:o'.YP.Nodup/\∀k,k∈o'.YP↔∃j m g,Zw tok i s t' j s=.ch k m g/\g≠.work) :
  X' n (Zw tok i s t') spec (upd view i V) K (upd O s (some o')) Zx home:=by
 have aw:i<n:=h.lt (s:=s) (by rw[M];rcases N with⟨_,_,_,_,_,_,rfl,_⟩|⟨_,_,_,_,_,rfl,_⟩<;>simp)
 have Q:=FM tok i s t'
 have R:∀r,r≠s->(λj=>Zw tok i s t' j r)=λj=>tok j r:=λr v=>Is tok i s t' v
 have E:∀j r,r≠s->Zw tok i s t' j r=tok j r:=λj r v=>congrFun (R r v) j
 have am:∀j,j≠i->∀r,Zw tok i s t' j r=tok j r:=λj c r=>XU _ λx=>c x.1
 have P:∀j r k m g,Zw tok i s t' j r=.ch k m g->∃l w,tok j r=.ch k l w:=λj r k m g c=>by
  by_cases e:j=i/\r=s
  .obtain⟨rfl,rfl⟩:=e;rw[XO] at c;rcases N with⟨_,_,_,_,_,_,_,f,_⟩|⟨W,l,w,F,H,d,f⟩
   .rw[f] at c;cases c
   .rw[f] at c;cases c;exact⟨l,w,by rw[M,d]⟩
  .rw[XU _ e] at c;exact⟨m,g,c⟩
 have an:∀j r k m g,tok j r=.ch k m g->∃l w,Zw tok i s t' j r=.ch k l w:=λj r k m g c=>by
  by_cases e:j=i/\r=s
  .obtain⟨rfl,rfl⟩:=e;rw[XO];rw[M] at c;rcases N with⟨_,_,_,_,_,_,d,_,_⟩|⟨W,l,w,F,H,d,f⟩
   .rw[d] at c;cases c
   .rw[d] at c;cases c;exact⟨F,H,f⟩
  .rw[XU _ e];exact⟨m,g,c⟩
 have X:∀j r m p A,Zw tok i s t' j r=.par m p A->∃l C I,tok j r=.par l C I/\∀k,k+C<l->k+p<m:=λj r m p A c=>by
  by_cases e:j=i/\r=s
  .obtain⟨rfl,rfl⟩:=e;rw[XO] at c;rcases N with⟨_,_,_,_,_,_,d,f,B⟩|⟨W,l,w,F,H,d,f⟩
   .rw[f] at c;cases c;exact⟨_,_,_,by rw[M,d],B⟩
   .rw[f] at c;cases c
  .rw[XU _ e] at c;exact⟨m,p,A,c,λ_ x=>x⟩
 have J:∀r q,upd O s (some o') r=some q->(r=s/\q=o')\/(r≠s/\O r=some q):=λr q u=>by
  by_cases e:r=s
  .subst e;rw[upd_same] at u;cases u;exact .inl ⟨rfl,rfl⟩
  .rw[upd_ne _ _ e] at u;exact .inr ⟨e,u⟩
 refine⟨λr q u=>?_,λr v j=>?_,λj r c=>?_,λj r sp c=>?_,λj r φ q c=>?_,λj r k L g q u c=>?_,λj r m p A c=>?_,λj r k m g c=>?_,λj ao c=>?_,ag,ah,ai,λj r k m g q u c Y=>?_,λr j Z k m g ap g' d f=>?_,λr j k m g q p A d f=>?_,λr q u=>?_,λr q u=>?_⟩
 .rcases J r q u with⟨rfl,rfl⟩|⟨e,y⟩
  .rw[Q];exact ab
  .rw[R r e];exact h.Z9 r q y
 .by_cases e:r=s
  .subst e;rw[upd_same] at v;cases v
  .rw[upd_ne _ _ e] at v;rw[E j r e];exact h.bare r v j
 .rw[am j U r];exact h.out j r c
 .obtain⟨q,d,f⟩:=h.Q8 j r sp c;by_cases e:r=s
  .subst e;rw[T] at d;cases d;exact⟨o',upd_same ..,by rw[ad];exact f⟩
  .exact⟨q,by rw[upd_ne _ _ e];exact d,f⟩
 .have aa:∀φ q,view j r=some (φ,q)->∃D,upd O s (some o') r=some D/\Yc n D (λa=>Zw tok i s t' a r)<=φ/\(Yc n D (λa=>Zw tok i s t' a r)=φ->D=q):=λφ q hv=>by
   obtain⟨D,d,f,B⟩:=h.OI j r φ q hv;by_cases e:r=s
   .subst e;rw[T] at d;cases d;rw[upd_same,Q];exact⟨o',rfl,U,λx=>U⟩
   .rw[upd_ne _ _ e,R r e];exact⟨D,d,f,B⟩
  by_cases e:j=i
  .subst e;rw[upd_same] at c;rcases ae r φ q c with⟨rfl,rfl,rfl⟩|⟨v,hv⟩
   .rw[upd_same,Q];exact⟨_,rfl,Z5 _,λ_=>rfl⟩
   .exact aa φ q hv
  .rw[upd_ne _ _ e] at c;exact aa φ q c
 .rcases J r q u with⟨rfl,rfl⟩|⟨e,y⟩
  .exact af j k L g c
  .rw[E j r e] at c;exact h.YK j r k L g q y c
 .obtain⟨l,C,I,d,_⟩:=X j r m p A c;exact h.par j r l C I d
 .obtain⟨l,w,d⟩:=P j r k m g c;exact h.So j r k l w d
 .obtain⟨k,m,g,d⟩:=h.Qp j ao c;obtain⟨F,H,f⟩:=an j _ k m g d;exact⟨k,F,H,f⟩
 .rcases J r q u with⟨rfl,rfl⟩|⟨e,y⟩
  .exact aj j k m g c Y
  .rw[E j r e] at c;exact h.Sm j r k m g q y c Y
 .obtain⟨a,b,B⟩:=P j r k m g d;obtain⟨aq,ar,S⟩:=P Z r k ap g' f;exact h.OH r j Z k a b aq ar B S
 .obtain⟨a,b,B⟩:=P j r k m g d;obtain⟨l,C,I,S,au⟩:=X _ r q p A f;exact au k (h.Px r j k a b l C I B S)
 .rcases J r q u with⟨rfl,rfl⟩|⟨e,y⟩
  .exact ak
  .simp only[λj=>E j r e];exact h.Sl r q y
 .rcases J r q u with⟨rfl,rfl⟩|⟨e,y⟩
  .exact al
  .simp only[λj=>E j r e];exact h.Q7 r q y
theorem AV {o o':η} {t t':Tok} (h:Act o t o' t'):Alike t t':=by
 cases h
 case add=>exact .inl ⟨_,_,_,_,_,_,rfl,rfl,λk a=>U⟩
 case thru|F3|wake=>exact .inl ⟨_,_,_,_,_,_,rfl,rfl,λk a=>a⟩
 all_goals exact .inr ⟨_,_,_,_,_,rfl,rfl⟩
theorem FL {o o':η} {t t':Tok} (h:Act o t o' t'):o'.toSpec=o.toSpec/\o'.L=o.L/\o'.YP=o.YP:=by
 cases h<;>exact⟨rfl,rfl,rfl⟩
theorem FK {o o':η} {t t':Tok} (h:Act o t o' t'):(∀k m g,t'=.ch k m g->∃a b,t=.ch k a b/\(Sp m↔Sp a)/\(g=.work↔b=.work)/\(b≠.work->m=a)/\∀L,m=.YK L->a=.YK L)/\(∀k m g,t=.ch k m g->∃c d,t'=.ch k c d/\(Sp c↔Sp m)/\(d=.work↔g=.work))/\¬Xn t:=by
 refine⟨λk m g e=>?_,λk m g e=>?_,?_⟩
 .cases h<;>cases e<;>exact⟨_,_,rfl,by simp[Sp],J,J,J⟩
 .cases h<;>cases e<;>exact⟨_,_,rfl,by simp[Sp],J⟩
 .cases h<;>simp[Xn]
theorem X'.act (h:X' n tok spec view rel O Zx home) {s i:Nat} {o o':η} {t t':Tok} (v:O s=some o) (u:tok i s=t) (y:Act o t o' t') :
  X' n (Zw tok i s t') spec (upd view i (upd (view i) s (some (Yc n o' (upd (λj=>tok j s) i t'),o')))) rel (upd O s (some o')) Zx home:=by
 obtain⟨K,M,E⟩:=FK y;have D:i<n:=h.lt (s:=s) (by rw[u];rintro rfl;exact E trivial);obtain⟨F,H,N⟩:=FL y;have C:∀j r k m g,Zw tok i s t' j r=.ch k m g->∃f d,tok j r=.ch k f d/\(Sp m↔Sp f)/\(g=.work↔d=.work)/\(d≠.work->m=f)/\∀L,m=.YK L->f=.YK L:=λj r k m g c=>by
  by_cases e:j=i/\r=s
  .obtain⟨rfl,rfl⟩:=e;rw[XO] at c;obtain⟨f,d,l,Φ⟩:=K k m g c;exact⟨f,d,by rw[u,l],Φ⟩
  .rw[XU _ e] at c;exact⟨m,g,c,.rfl,.rfl,λ_=>rfl,λ_ x=>x⟩
 have is:∀j k m g,tok j s=.ch k m g->∃A B,Zw tok i s t' j s=.ch k A B/\(Sp A↔Sp m)/\(B=.work↔g=.work):=λj k m g c=>by
  by_cases e:j=i/\s=s
  .obtain⟨rfl,_⟩:=e;rw[XO];rw[u] at c;exact M k m g c
  .rw[XU _ e];exact⟨m,g,c,.rfl,.rfl⟩
 refine h.change v u (AV y) (⟨A3 (h.Z9 s o v).1 D u y,A2 (h.Z9 s o v).2 D u y⟩) (F1 D u y) F (λr φ q hv=>?_) (λj k L g c=>?_) (λj k m g P c=>?_) h.Py (λj r c I=>?_) (λj k m g c Q=>?_) ?_ ?_
 .by_cases e:r=s
  .subst e;rw[upd_same] at hv;cases hv;exact .inl ⟨rfl,rfl,rfl⟩
  .rw[upd_ne _ _ e] at hv;exact .inr ⟨e,hv⟩
 .obtain⟨f,d,l,_,_,_,Φ⟩:=C j s k _ g c;rw[H];exact h.YK j s k L d o v (by rw[l,Φ L rfl])
 .obtain⟨f,d,l,_,Φ,_⟩:=C j _ k m g c;rw[h.RI j k f d P l];exact not_congr Φ.symm
 .by_cases e:j=i/\r=s
  .obtain⟨rfl,rfl⟩:=e;have:=h.Sn j r c I;rw[u] at this;exact absurd this E
  .rw[XU _ e];exact h.Sn j r c I
 .obtain⟨f,d,l,_,Φ,p,_⟩:=C j s k m g c;have J:d≠.work:=λx=>Q (Φ.2 x);rw[p J];have:=h.Sm j s k f d o v l J;rw[show o'.ZW=o.ZW by rw[F]];exact this
 .obtain⟨a,b⟩:=h.Sl s o v;rw[H];refine⟨a,λk=>(b k).trans ⟨λ⟨j,m,g,l,Φ⟩=>?_,λ⟨j,m,g,l,Φ⟩=>?_⟩⟩
  .obtain⟨A,B,p,w,_⟩:=is j k m g l;exact⟨j,A,B,p,w.2 Φ⟩
  .obtain⟨f,d,p,w,_⟩:=C j s k m g l;exact⟨j,f,d,p,w.1 Φ⟩
 .obtain⟨a,b⟩:=h.Q7 s o v;rw[N];refine⟨a,λk=>(b k).trans ⟨λ⟨j,m,g,l,Φ⟩=>?_,λ⟨j,m,g,l,Φ⟩=>?_⟩⟩
  .obtain⟨A,B,p,_,w⟩:=is j k m g l;exact⟨j,A,B,p,λx=>Φ (w.1 x)⟩
  .obtain⟨f,d,p,_,w,_⟩:=C j s k m g l;exact⟨j,f,d,p,λx=>Φ (w.2 x)⟩
theorem X'.look (h:X' n tok spec view rel O Zx home) {s i:Nat} {o:η} (d:O s=some o):X' n tok spec (upd view i (upd (view i) s (some (Yc n o (λj=>tok j s),o)))) rel O Zx home:=
 have f:∀j r φ q,upd view i (upd (view i) s (some (Yc n o (λj=>tok j s),o))) j r=some (φ,q)->∃b,O r=some b/\Yc n b (λj=>tok j r)<=φ/\(Yc n b (λj=>tok j r)=φ->b=q):=λj r φ q a=>by
  by_cases e:j=i
  .subst e;rw[upd_same] at a;by_cases c:r=s
   .subst c;rw[upd_same] at a;cases a;exact⟨o,d,Z5 _,λ_=>rfl⟩
   .rw[upd_ne _ _ c] at a;exact h.OI j r φ q a
  .rw[upd_ne _ _ e] at a;exact h.OI j r φ q a
 {h with OI:=f}
theorem KR {s i:Nat} {r φ:Nat} {q:η} {o':η} {z:Nat} (hv:upd (view i) s none r=some (φ,q)):(r=s/\φ=z/\q=o')\/(r≠s/\view i r=some (φ,q)):=by
 by_cases e:r=s
 .subst e;rw[upd_same] at hv;cases hv
 .rw[upd_ne _ _ e] at hv;exact .inr ⟨e,hv⟩
theorem AU {l:List Nat} {k:Nat} (h:l.Nodup) (d:k∉l):(l++[k]).Nodup:=by
 rw[List.nodup_append];exact⟨h,J,λa e b c=>by simp at c;subst c;rintro rfl;exact d e⟩
theorem X'.Iz (h:X' n tok spec view rel O Zx home) {s i k:Nat} {o:η} (t:O s=some o) (f:tok i s=.ch k .own .work) :
  X' n (Zw tok i s (.ch k (.YK o.L) .work)) spec (upd view i (upd (view i) s none)) rel (upd O s (some o)) Zx home:=by
 have v:i<n:=h.lt (s:=s) (by rw[f];simp)
 have w:RL o (.ch k .own .work) o (.ch k (.YK o.L) .work):=.Iz
 have p:∀j,j≠i->∀r,Zw tok i s (.ch k (.YK o.L) .work) j r=tok j r:=λj c r=>XU _ λx=>c x.1
 have A:=h.So i s k _ _ f;refine h.change t f (.inr ⟨_,_,_,_,_,rfl,rfl⟩) ⟨KY (h.Z9 s o t).1 v f w,KX (h.Z9 s o t).2 v f w⟩ (KZ v f w) rfl (λr φ q hv=>KR hv) (λj l L g c=>?_) (λj l m g B c=>?_) h.Py (λj r c y=>?_) (λj l m g c C=>?_) ?_ ?_
 .by_cases e:j=i
  .subst e;rw[XO] at c;cases c;rfl
  .rw[p j e] at c;exact h.YK j s l L g o t c
 .by_cases e:j=i
  .subst e;have u:home j=s:=A.2.1;rw[u,XO] at c;cases c;exact h.RI j k .own .work B (by rw[u];exact f)
  .rw[p j e] at c;exact h.RI j l m g B c
 .by_cases e:j=i
  .subst e;have u:home j=s:=A.2.1;rw[XU _ (λx=>y (by rw[x.2,u]))];exact h.Sn j r c y
  .rw[p j e];exact h.Sn j r c y
 .by_cases e:j=i
  .subst e;rw[XO] at c;cases c;exact absurd rfl C
  .rw[p j e] at c;exact h.Sm j s l m g o t c C
 .obtain⟨a,b⟩:=h.Sl s o t;refine⟨a,λl=>(b l).trans ⟨λ⟨j,m,g,d,Φ⟩=>?_,λ⟨j,m,g,d,Φ⟩=>?_⟩⟩
  .by_cases e:j=i
   .subst e;rw[f] at d;cases d;exact Φ.elim
   .exact⟨j,m,g,by rw[p j e];exact d,Φ⟩
  .by_cases e:j=i
   .subst e;rw[XO] at d;cases d;exact Φ.elim
   .exact⟨j,m,g,by rw[p j e] at d;exact d,Φ⟩
 .obtain⟨a,b⟩:=h.Q7 s o t;refine⟨a,λl=>(b l).trans ⟨λ⟨j,m,g,d,Φ⟩=>?_,λ⟨j,m,g,d,Φ⟩=>?_⟩⟩
  .by_cases e:j=i
   .subst e;rw[f] at d;cases d;exact absurd rfl Φ
   .exact⟨j,m,g,by rw[p j e];exact d,Φ⟩
  .by_cases e:j=i
   .subst e;rw[XO] at d;cases d;exact absurd rfl Φ
   .exact⟨j,m,g,by rw[p j e] at d;exact d,Φ⟩
theorem X'.AT (h:X' n tok spec view rel O Zx home) {s i k:Nat} {L:List Nat} {o:η} (p:O s=some o) (l:tok i s=.ch k (.YK L) .work) :
  X' n (Zw tok i s (.ch k .fin .work)) spec (upd view i (upd (view i) s none)) rel (upd O s (some {o with L:=o.L++[k]})) Zx home:=by
 have u:i<n:=h.lt (s:=s) (by rw[l];simp)
 have y:RL o (.ch k (.YK L) .work) {o with L:=o.L++[k]} (.ch k .fin .work):=.A5
 have t:∀j,j≠i->∀r,Zw tok i s (.ch k .fin .work) j r=tok j r:=λj d r=>XU _ λx=>d x.1
 have C:=h.So i s k _ _ l
 have only:∀j f v g,tok j s=.ch f (.YK v) g->j=i:=λj f v g d=>by
  apply Va;intro F;have H:j<n:=h.lt (s:=s) (by rw[d];simp);have c:=Xc (λa=>tok a s) .nil V8 u;have Φ:=XF (upd (λa=>tok a s) i .nil) V8 H;rw[upd_ne _ _ F] at Φ;simp only[l,d,V8,Mw] at c Φ;have:=(h.Z9 s o p).1.F6;have:=(h.Z9 s o p).1.f1;omega
 have I:k∉o.L:=λA=>by
  obtain⟨j,m,g,c,Φ⟩:=((h.Sl s o p).2 k).1 A;have:=h.OH s j i k m g _ _ c l;subst this;rw[l] at c;cases c;exact Φ
 refine h.change p l (.inr ⟨_,_,_,_,_,rfl,rfl⟩) ⟨KY (h.Z9 s o p).1 u l y,KX (h.Z9 s o p).2 u l y⟩ (KZ u l y) rfl (λr φ q hv=>KR hv) (λj f v g d=>?_) (λj f m g D d=>?_) h.Py (λj r d B=>?_) (λj f m g d E=>?_) ?_ ?_
 .by_cases e:j=i
  .subst e;rw[XO] at d;cases d
  .rw[t j e] at d;exact absurd (only j f v g d) e
 .by_cases e:j=i
  .subst e;have w:home j=s:=C.2.1;rw[w,XO] at d;cases d;exact h.RI j k (.YK L) .work D (by rw[w];exact l)
  .rw[t j e] at d;exact h.RI j f m g D d
 .by_cases e:j=i
  .subst e;have w:home j=s:=C.2.1;rw[XU _ (λx=>B (by rw[x.2,w]))];exact h.Sn j r d B
  .rw[t j e];exact h.Sn j r d B
 .by_cases e:j=i
  .subst e;rw[XO] at d;cases d;exact absurd rfl E
  .rw[t j e] at d;exact h.Sm j s f m g o p d E
 .obtain⟨a,b⟩:=h.Sl s o p;refine⟨AU a I,λf=>?_⟩;rw[VG,List.mem_singleton];constructor
  .rintro(A|rfl)
   .obtain⟨j,m,g,c,Φ⟩:=(b f).1 A;have e:j≠i:=by rintro rfl;rw[l] at c;cases c;exact Φ
    exact⟨j,m,g,by rw[t j e];exact c,Φ⟩
   .exact⟨i,.fin,.work,XO ..,trivial⟩
  .rintro⟨j,m,g,c,Φ⟩;by_cases e:j=i
   .subst e;rw[XO] at c;cases c;exact .inr rfl
   .rw[t j e] at c;exact .inl ((b f).2 ⟨j,m,g,c,Φ⟩)
 .obtain⟨a,b⟩:=h.Q7 s o p;refine⟨a,λf=>(b f).trans ⟨λ⟨j,m,g,c,Φ⟩=>?_,λ⟨j,m,g,c,Φ⟩=>?_⟩⟩
  .by_cases e:j=i
   .subst e;rw[l] at c;cases c;exact absurd rfl Φ
   .exact⟨j,m,g,by rw[t j e];exact c,Φ⟩
  .by_cases e:j=i
   .subst e;rw[XO] at c;cases c;exact absurd rfl Φ
   .exact⟨j,m,g,by rw[t j e] at c;exact c,Φ⟩
theorem X'.AS (h:X' n tok spec view rel O Zx home) {s i k:Nat} {l:Uq} {o:η} (t:O s=some o) (f:tok i s=.ch k l .work) (v:l=.done\/(l=.idle/\o.ZW=none)) (F:∀r,r≠s->Xn (tok i r)) :
  X' n (Zw tok i s (.ch k l .rel)) spec (upd view i (upd (view i) s none)) (upd rel i true) (upd O s (some {o with YP:=k::o.YP})) Zx home:=by
 have w:i<n:=h.lt (s:=s) (by rw[f];simp)
 have y:RL o (.ch k l .work) {o with YP:=k::o.YP} (.ch k l .rel):=.A4 v
 have u:∀j,j≠i->∀r,Zw tok i s (.ch k l .rel) j r=tok j r:=λj d r=>XU _ λx=>d x.1
 have A:=h.So i s k _ _ f
 have H:k∉o.YP:=λB=>by
  obtain⟨j,m,g,c,Φ⟩:=((h.Q7 s o t).2 k).1 B;have:=h.OH s j i k m g _ _ c f;subst this;rw[f] at c;cases c;exact Φ rfl
 refine h.change t f (.inr ⟨_,_,_,_,_,rfl,rfl⟩) ⟨KY (h.Z9 s o t).1 w f y,KX (h.Z9 s o t).2 w f y⟩ (KZ w f y) rfl (λr φ q hv=>KR hv) (λj p I g d=>?_) (λj p m g K d=>?_) (by rw[upd_ne _ _ (YZ A.1)];exact h.Py) (λj r d D=>?_) (λj p m g d L=>?_) ?_ ?_
 .by_cases e:j=i
  .subst e;rw[XO] at d;rcases v with rfl|⟨rfl,_⟩<;>cases d
  .rw[u j e] at d;exact h.YK j s p I g o t d
 .by_cases e:j=i
  .subst e;have C:home j=s:=A.2.1;rw[C,XO] at d;cases d;rw[upd_same];simp
  .rw[u j e] at d;rw[upd_ne _ _ e];exact h.RI j p m g K d
 .by_cases e:j=i
  .subst e;have C:home j=s:=A.2.1;have E:r≠s:=λx=>D (by rw[x,C]);rw[XU _ (λx=>E x.2)];exact F r E
  .rw[u j e];rw[upd_ne _ _ e] at d;exact h.Sn j r d D
 .by_cases e:j=i
  .subst e;rw[XO] at d;cases d;exact v
  .rw[u j e] at d;exact h.Sm j s p m g o t d L
 .obtain⟨a,b⟩:=h.Sl s o t;refine⟨a,λp=>(b p).trans ⟨λ⟨j,m,g,c,Φ⟩=>?_,λ⟨j,m,g,c,Φ⟩=>?_⟩⟩
  .by_cases e:j=i
   .subst e;rw[f] at c;cases c;exact⟨j,l,.rel,XO ..,Φ⟩
   .exact⟨j,m,g,by rw[u j e];exact c,Φ⟩
  .by_cases e:j=i
   .subst e;rw[XO] at c;cases c;exact⟨j,l,.work,f,Φ⟩
   .exact⟨j,m,g,by rw[u j e] at c;exact c,Φ⟩
 .obtain⟨a,b⟩:=h.Q7 s o t;refine⟨S1.2 ⟨H,a⟩,λp=>?_⟩;rw[Zf];constructor
  .rintro(rfl|B)
   .exact⟨i,l,.rel,XO ..,J⟩
   .obtain⟨j,m,g,c,Φ⟩:=(b p).1 B;have e:j≠i:=by rintro rfl;rw[f] at c;cases c;exact Φ rfl
    exact⟨j,m,g,by rw[u j e];exact c,Φ⟩
  .rintro⟨j,m,g,c,Φ⟩;by_cases e:j=i
   .subst e;rw[XO] at c;cases c;exact .inl rfl
   .rw[u j e] at c;exact .inr ((b p).2 ⟨j,m,g,c,Φ⟩)
theorem X'.gtake (h:X' n tok spec view rel O Zx home) {s i q:Nat} {f:Qr} {o:η} (b:O s=some o) (c:tok i s=.par q 0 f) (t:f=.SX\/f=.w4) :
  X' n (Zw tok i s (.par q 0 .ZY)) spec (upd view i (upd (view i) s none)) rel (upd O s (some o)) Zx home:=by
 have l:i<n:=h.lt (s:=s) (by rw[c];simp)
 have p:RL o (.par q 0 f) o (.par q 0 .ZY):=.gtake t
 have B:∀j,j≠i->∀r,Zw tok i s (.par q 0 .ZY) j r=tok j r:=λj a r=>XU _ λx=>a x.1
 have cs:∀j r k m g,Zw tok i s (.par q 0 .ZY) j r=.ch k m g↔tok j r=.ch k m g:=λj r k m g=>by
  by_cases e:j=i/\r=s
  .obtain⟨rfl,rfl⟩:=e;rw[XO,c];simp
  .rw[XU _ e]
 refine h.change b c (.inl ⟨_,_,_,_,_,_,rfl,rfl,λk u=>u⟩) ⟨KY (h.Z9 s o b).1 l c p,KX (h.Z9 s o b).2 l c p⟩ (KZ l c p) rfl (λr φ q hv=>KR hv) (λj d v g a=>?_) (λj d m g w a=>?_) h.Py (λj r a y=>?_) (λj d m g a A=>?_) ?_ ?_
 .rw[cs] at a;exact h.YK j s d v g o b a
 .rw[cs] at a;exact h.RI j d m g w a
 .by_cases e:j=i/\r=s
  .obtain⟨rfl,rfl⟩:=e;rw[XO];trivial
  .rw[XU _ e];exact h.Sn j r a y
 .rw[cs] at a;exact h.Sm j s d m g o b a A
 .simp only[cs];exact h.Sl s o b
 .simp only[cs];exact h.Q7 s o b
end
def TW (a O':Nat->Option η):Prop:=(∀s o',O' s=some o'->∃o,a s=some o/\o.toSpec=o'.toSpec)/\∀s o,a s=some o->∃o',O' s=some o'/\o.toSpec=o'.toSpec
theorem TW.upd {b:Nat->Option η} {s:Nat} {o o':η} (c:b s=some o) (h:o'.toSpec=o.toSpec):TW b (Go.ConcN.upd b s (some o')):=by
 refine⟨λr q a=>?_,λr q a=>?_⟩
 .by_cases e:r=s
  .subst e;rw[upd_same] at a;cases a;exact⟨o,c,h.symm⟩
  .rw[upd_ne _ _ e] at a;exact⟨q,a,rfl⟩
 .by_cases e:r=s
  .subst e;rw[c] at a;cases a;exact⟨o',upd_same ..,h.symm⟩
  .exact⟨q,by rw[upd_ne _ _ e];exact a,rfl⟩
section
variable {H:Za->Ψ} {γ:Nat->Nat->Option (Array Value×TypeId)} {tok Qo:Nat->Nat->Tok} {O O':Nat->Option η} {Zx:Nat->Nat} {deaf FJ:Nat->Nat} {N Q6:Nat} {t:Trace} {ZF w w':World}
theorem KQ {h:Za} {k:Nat} (c:∀s o',O' s=some o'->∃o,O s=some o/\o.toSpec=o'.toSpec) (d:∀i s,Qo i s≠.nil->tok i s≠.nil) (a:Vn tok O t h k):Vn Qo O' t h k:=by
 cases h with
 | inl i=>exact a
 | inr b=>
  refine a.imp id λh s o e f i hi=>?_;obtain⟨g,j,l⟩:=c s o e;exact h s g j (by rw[l];exact f) i (d i s hi)
theorem VS.AR (h:VS H γ tok O Zx deaf N t) (a:TW O O') (c:∀i s,Qo i s≠.nil->tok i s≠.nil):VS H γ Qo O' Zx deaf N t:=
 ⟨h.race,h.low,h.norel,λk=>(h.perms k).mono λ_=>KQ a.1 c,h.Sq,λs o b d e=>let ⟨f,g,j⟩:=a.1 s o d;h.cont s f b g (by rw[j];exact e),h.hears⟩
theorem V5.Tp (h:V5 H γ O Q6) (e:TW O O'):V5 H γ O' Q6:=
 ⟨h.apart,h.high,h.SS,h.fresh,λs o b a f=>let ⟨g,c,d⟩:=e.1 s o a;h.UQ s g b c (by rw[d];exact f),
  λs i o o' b a j f k=>let ⟨g,c,d⟩:=e.1 s o a;let ⟨l,n,p⟩:=e.1 i o' j;h.UF s i g l b c n (by rw[d];exact f) (by rw[p];exact k),
  λs o m a r=>let ⟨g,c,d⟩:=e.1 s o a;h.RJ s g m c (by rw[d];exact r),
  λb f=>h.Yg b λs o a hi=>let ⟨o',c,d⟩:=e.2 s o a;f s o' c (by rw[<-d];exact hi)⟩
theorem VS.ext (h:VS H γ tok O Zx deaf N t) (K:V5 H γ O Q6) (i:Nat) {u:Trace} (P:∀c∈u,c.g=i) (r:∀c∈u,c.act.low N) (S:∀c∈u,∀a,c.act≠.mark (.release a))
  (E:∀c∈u,∀b,c.act.touch?=some b->∃s o f w,O s=some o/\Yj s o.toSpec f/\b.loc=.cell ⟨f,w,none⟩/\(b.kind=.atomic\/(b.kind=.said/\i=Zx s)))
  (hd:∀j,Deaf (t++u) j=FJ j):VS H γ tok O Zx FJ N (t++u):=by
 refine⟨λT=>noRace_append (h.race T) P λk a m c d b D L=>?_,λc d=>(Sv.1 d).elim (h.low c) (r c),λc d=>(Sv.1 d).elim (h.norel c) (S c),λk=>?_,λj b v hv k a m l=>?_,λs o b Q D k a m l=>?_,hd⟩
 .obtain⟨s,o,f,w,A,B,n,C⟩:=E c d b D;obtain⟨U,_,_,R⟩:=L;have l:SY a.loc f:=by rw[U,n];rfl
  rcases h.cont s o f A B k a m l with F|⟨F,V⟩
  .exfalso;rcases R with x|x|⟨_,x,_⟩
   .rw[F] at x;cases x
   .rcases C with y|⟨y,_⟩<;>(rw[y] at x;cases x)
   .rw[F] at x;cases x
  .rcases C with y|⟨y,rfl⟩
   .exfalso;rcases R with x|x|⟨_,_,x⟩
    .rw[F] at x;cases x
    .rw[y] at x;cases x
    .rw[y] at x;cases x
   .obtain⟨z,I,_⟩:=touch_of m;have:=knows_own I;have e:z.g=Zx s:=by simpa[Trace.g?,I] using V
    rwa [e] at this
 .have:YI (t++u) (Vn tok O (t++u) k) (H k):=(h.perms k).others (λx W=>Iu _ W) λc d a m=>by
   obtain⟨s,o,f,w,A,B,n,C⟩:=E c d a m;have w:=(K.UQ s o f A B).2.1 k;refine⟨λb o' v p r L=>?_,λb r D=>?_⟩
   .rw[n] at r;cases r;exact absurd ⟨_,L⟩ (w.1 _)
   .rw[n] at r;cases r
  exact this
 .rcases To m with J|⟨_,c,d,_,M⟩
  .exact h.Sq j b v hv k a J l
  .obtain⟨s,o,f,w,A,B,n,C⟩:=E c d a M;rw[n] at l;simp only[SY] at l;subst l;rw[(K.UQ s o f A B).2.2 j] at hv;cases hv
 .rcases To m with J|⟨_,c,d,X,M⟩
  .rcases h.cont s o b Q D k a J l with x|⟨x,Y⟩
   .exact .inl x
   .obtain⟨z,I,_⟩:=touch_of J;exact .inr ⟨x,by rw[g?_old (lt_size_of_getElem? I)];exact Y⟩
  .obtain⟨Z,o',f,w,A,B,n,C⟩:=E c d a M;rw[n] at l;simp only[SY] at l;subst l;have es:=K.UF s Z o o' f Q A D B;subst es;rcases C with x|⟨x,y⟩
   .exact .inl x
   .exact .inr ⟨x,by simp[Trace.g?,X,P c d,y]⟩
theorem YI.sub {e:Nat->Prop} {G G':Ψ} (h:YI t e G) (f:Sub G' G):YI t e G':=
 ⟨λb o v p g i a c d j=>let ⟨k,l,m⟩:=f.μ b o v p g;h.μ b o v k l i a c d (j.imp m id),λb ⟨x,n⟩ i a c d=>h.obj b ⟨x,f.obj b x n⟩ i a c d⟩
theorem YI.join {g:Nat->Prop} {G E:Ψ} (h:YI t g G) (k:YI t g E):YI t g (Go.TL.join G E):=by
 refine⟨λb o v p d i a e f l=>?_,λb m i a e f=>?_⟩
 .simp only[Go.TL.join] at d;cases c:G.μ b o with
  | none=>rw[c] at d;exact k.μ b o v p d i a e f l
  | some y=>rw[c] at d;cases d;exact h.μ b o v p c i a e f l
 .obtain⟨x,j⟩:=m;simp only[Go.TL.join] at j;cases c:G.obj b with
  | none=>rw[c] at j;exact k.obj b ⟨x,j⟩ i a e f
  | some y=>exact h.obj b ⟨y,c⟩ i a e f
theorem YI.empty {a:Nat->Prop}:YI t a Ψ.empty:=⟨λ_ _ _ _ h=>(by cases h),λ_ ⟨_,h⟩=>(by cases h)⟩
theorem YI.release {i b:Nat} {G:Ψ} {y:MemOp} (h:YI t (Knows t i) G) (f:y.g=i) (j:y.act=.mark (.releaseMerge ⟨b,0,none⟩)) (hd:Deaf t i=0):YI (t++#[y]) (Vn tok O (t++#[y]) (.inr b)) G:=by
 have l:(t++#[y])[t.size]?=some y:=J
 have s:(t++#[y]).heard t.size:=⟨i,by simp[Trace.g?,f],by rw[deaf_old (Z5 _)];exact hd⟩
 have m:∀k,Knows t i k->Vn tok O (t++#[y]) (.inr b) k:=λk u=>.inl ⟨t.size,y,l,j,s,.inr (u.hb_new (Z5 _) l f)⟩
 have nt:∀k a,touchAt (t++#[y]) k=some a->touchAt t k=some a:=λk a c=>by
  rcases To c with w|⟨_,C,n,_,r⟩
  .exact w
  .simp at n;subst n;rw[j] at r;simp[MemAct.touch?] at r
 exact⟨λd o v p x k a c e A=>m k (h.μ d o v p x k a (nt k a c) e A),λd B k a c e=>m k (h.obj d B k a (nt k a c) e)⟩
theorem YI.acquire {i b s:Nat} {o:η} {E:Ψ} {y:MemOp} (h:YI t (Vn tok O t (.inr b)) E) (D:∀e∈t,∀a,e.act≠.mark (.release a)) (F:O s=some o) (f:Yj s o.toSpec b) (hi:tok i s≠.nil)
  (r:y.g=i) (u:y.act=.mark (.acquire ⟨b,0,none⟩)) (hd:Deaf t i=0):YI (t++#[y]) (Knows (t++#[y]) i) E:=by
 have w:(t++#[y])[t.size]?=some y:=J
 have H:(t++#[y]).heard t.size:=⟨i,by simp[Trace.g?,r],by rw[deaf_old (Z5 _)];exact hd⟩
 have x:∀k,Vn tok O t (.inr b) k->Knows (t++#[y]) i k:=λk j=>by
  rcases j with⟨p,e,A,I,K,L⟩|j
  .have l:=lt_size_of_getElem? A;refine⟨t.size,y,w,r,.inr ((L.app #[y]).hb (.single (.inr ⟨.marked (a:=⟨b,0,none⟩) l (.inr ?_) ?_ ?_,(heard_old l).2 K,H⟩)))⟩
   .rw[act?_old l,act?_of A,I]
   .rw[act?_of w,u]
   .intro T U M B;rw[act?_old M] at B;obtain⟨N,P,d⟩:=Tr.1 B;exact D N (mem_of_getElem? P) _ d
  .exact(j s o F f i hi).app _
 have nt:∀k a,touchAt (t++#[y]) k=some a->touchAt t k=some a:=λk a c=>by
  rcases To c with Q|⟨_,e,C,_,d⟩
  .exact Q
  .simp at C;subst C;rw[u] at d;simp[MemAct.touch?] at d
 exact⟨λm o v p R k a c n S=>x k (h.μ m o v p R k a (nt k a c) n S),λm f k a c n=>x k (h.obj m f k a (nt k a c) n)⟩
theorem Knows.spawn {i j k:Nat} {y z:MemOp} (h:Knows t i k) (c:y.g=i) (d:y.act=.go j) (a:z.g=j) (f:z.act=.start) (hd:Deaf t i=0) (l:Deaf t j=0):Knows (t++#[y,z]) j k:=by
 have b:(t++#[y,z])[t.size]?=some y:=J
 have e:(t++#[y,z])[t.size+1]?=some z:=J
 have d1:(t++#[y,z]).heard t.size:=⟨i,by simp[Trace.g?,c],by rw[deaf_old (Z5 _)];exact hd⟩
 have d2:(t++#[y,z]).heard (t.size+1):=⟨j,by simp[Trace.g?,a],by
  rw[deaf_succ b];have:deafStep j ((t++#[y,z]).deaf j t.size) y=(t++#[y,z]).deaf j t.size:=by simp[deafStep,d]
  rw[this,deaf_old (Z5 _)];exact l⟩
 have m:=h.hb_new (u:=#[y,z]) (Z5 _) b c
 have Φ:HappensBefore (t++#[y,z]) t.size (t.size+1):=.single (.inr ⟨.spawn (child:=j) (by rw[act?_of b,d]) (by rw[act?_of e,f]) (by simp[Trace.g?,a]),d1,d2⟩);exact⟨t.size+1,z,e,a,.inr (m.trans Φ)⟩
theorem Sub.refl (G:Ψ):Sub G G:=⟨λ_ _ _ p h=>⟨p,h,id⟩,λ_ _ h=>h,λ_ _ h=>h⟩
theorem Sub.owns {G G':Ψ} (h:Sub G' G) {b o:Nat} (x:G'.owns b o):G.owns b o:=let ⟨v,hv⟩:=x;let ⟨p,a,c⟩:=h.μ b o v true hv;⟨v,by rw[a,c rfl]⟩
theorem Sub.has {G G':Ψ} (h:Sub G' G) {b o:Nat} (x:G'.has b o):G.has b o:=let ⟨v,hv⟩:=x;let ⟨p,a,_⟩:=h.μ b o v.1 v.2 hv;⟨_,a⟩
theorem Sub.XP {G G':Ψ} (h:Sub G' G) {b:Nat} (x:G'.XP b):G.XP b:=let ⟨v,hv⟩:=x;⟨v,h.obj b v hv⟩
theorem Sub.off {G G':Ψ} (h:Sub G' G) {b:Nat} (x:G.off b):G'.off b:=⟨λo a=>x.1 o (h.has a),λa=>x.2 (h.XP a)⟩
theorem Sub.fits {G G':Ψ} (h:Sub G' G) (x:Fits G w):Fits G' w:=⟨λb o v p a=>let ⟨c,d,_⟩:=h.μ b o v p a;x.μ b o v c d,λb t n e=>x.row b t n (h.row b _ e),λb v hv=>x.obj b v (h.obj b v hv)⟩
theorem Apart.symm {A B:Ψ} (h:Apart A B):Apart B A:=⟨h.Rc,h.μ,λb a c=>h.obj b c a⟩
theorem Apart.sub {A B d B':Ψ} (h:Apart A B) (a:Sub d A) (c:Sub B' B):Apart d B':=
 ⟨λb o x y=>h.μ b o (a.owns x) (c.has y),λb o x y=>h.Rc b o (c.owns x) (a.has y),λb x y=>h.obj b (a.XP x) (c.XP y)⟩
theorem Apart.Pw (A:Ψ):Apart A Ψ.empty:=⟨λ_ _ _ ⟨_,h⟩=>(by cases h),λ_ _ ⟨_,h⟩=>(by cases h),λ_ _ ⟨_,h⟩=>(by cases h)⟩
theorem Ir {G E:Ψ} {b o:Nat} (h:(join G E).owns b o):G.owns b o\/E.owns b o:=by
 obtain⟨v,hv⟩:=h;simp only[join] at hv;cases a:G.μ b o with
 | none=>rw[a] at hv;exact .inr ⟨v,hv⟩
 | some y=>rw[a] at hv;cases hv;exact .inl ⟨v,a⟩
theorem FI {G E:Ψ} {b o:Nat} (h:(join G E).has b o):G.has b o\/E.has b o:=by
 obtain⟨v,hv⟩:=h;simp only[join] at hv;cases a:G.μ b o with
 | none=>rw[a] at hv;exact .inr ⟨v,hv⟩
 | some y=>exact .inl ⟨y,a⟩
theorem KP {G E:Ψ} {b:Nat} (h:(join G E).XP b):G.XP b\/E.XP b:=by
 obtain⟨v,hv⟩:=h;simp only[join] at hv;cases a:G.obj b with
 | none=>rw[a] at hv;exact .inr ⟨v,hv⟩
 | some y=>exact .inl ⟨y,a⟩
theorem AQ {G E:Ψ} {b:Nat} (h:G.off b) (k:E.off b):(join G E).off b:=⟨λo a=>(FI a).elim (h.1 o) (k.1 o),λa=>(KP a).elim h.2 k.2⟩
theorem Mo {G E:Ψ} (h:Fits G w) (k:Fits E w):Fits (join G E) w:=by
 refine⟨λb o v p c=>?_,λb t n d=>?_,λb v hv=>?_⟩
 .simp only[join] at c;cases a:G.μ b o with
  | none=>rw[a] at c;exact k.μ b o v p c
  | some y=>rw[a] at c;cases c;exact h.μ b o v p a
 .simp only[join] at d;cases a:G.row b with
  | none=>rw[a] at d;exact k.row b t n d
  | some y=>rw[a] at d;cases d;exact h.row b t n a
 .simp only[join] at hv;cases a:G.obj b with
  | none=>rw[a] at hv;exact k.obj b v hv
  | some y=>rw[a] at hv;cases hv;exact h.obj b v a
theorem Apart.Q5 {A B C:Ψ} (h:Apart A C) (k:Apart B C):Apart (join A B) C:=
 ⟨λb o x y=>(Ir x).elim (λz=>h.μ b o z y) (λz=>k.μ b o z y),λb o x y=>(FI y).elim (λz=>h.Rc b o x z) (λz=>k.Rc b o x z),λb x y=>(KP x).elim (λz=>h.obj b z y) (λz=>k.obj b z y)⟩
theorem OG (w:World):Fits Ψ.empty w:=⟨λ_ _ _ _ h=>(by cases h),λ_ _ _ h=>(by cases h),λ_ _ h=>(by cases h)⟩
theorem V5.two (h:V5 H γ O Q6) {a b:Za} (S:a≠b) {A B:Ψ} (w:Sub A (join (H a) (H b))) (y:Sub B (join (H a) (H b))) (N:Apart A B)
  (I:TW O O') (P:∀x,b=.inr x\/a=.inr x->∃s o,O s=some o/\Yj s o.toSpec x):V5 (ZD (ZD H a A) b B) γ O' Q6:=by
 have E:=h.Tp I
 have n:ZD (ZD H a A) b B a=A:=by rw[ZC _ _ S,Yy]
 have r:ZD (ZD H a A) b B b=B:=Yy _ _ _
 have j:∀k,k≠a->k≠b->ZD (ZD H a A) b B k=H k:=λk d f=>by rw[ZC _ _ f,ZC _ _ d]
 have F:∀k,k≠a->k≠b->Apart (join (H a) (H b)) (H k):=λk d f=>(h.apart a k (YZ d)).Q5 (h.apart b k (YZ f))
 have Q:∀x,(∀k,(H k).off x)->(join (H a) (H b)).off x:=λx g=>AQ (g a) (g b)
 have J:∀{p:Za->Prop},p a->p b->(∀k,k≠a->k≠b->p k)->∀k,p k:=λl m T k=>by
  by_cases d:k=a
  .rw[d];exact l
  .by_cases f:k=b
   .rw[f];exact m
   .exact T k d f
 have R:∀x,(∀k,(H k).off x)->∀k,(ZD (ZD H a A) b B k).off x:=λx g=>J (by rw[n];exact w.off (Q x g)) (by rw[r];exact y.off (Q x g)) (λk d f=>by rw[j k d f];exact g k);refine⟨λp q C=>?_,?_,?_,λi x v hv=>?_,λs o x D g=>?_,E.UF,E.RJ,λx g=>?_⟩
 .by_cases l:p=a
  .subst l;by_cases t:q=b
   .subst t;rw[n,r];exact N
   .rw[n,j q (YZ C) t];exact(F q (YZ C) t).sub w (Sub.refl _)
  .by_cases m:p=b
   .subst m;by_cases u:q=a
    .subst u;rw[n,r];exact N.symm
    .rw[r,j q u (YZ C)];exact(F q u (YZ C)).sub y (Sub.refl _)
   .by_cases u:q=a
    .subst u;rw[n,j p l m];exact((F p l m).sub w (Sub.refl _)).symm
    .by_cases t:q=b
     .subst t;rw[r,j p l m];exact((F p l m).sub y (Sub.refl _)).symm
     .rw[j p l m,j q u t];exact h.apart p q C
 .exact J (λx o c=>by rw[n] at c;exact(Ir (w.owns c)).elim (h.high _ _ _) (h.high _ _ _)) (λx o c=>by rw[r] at c;exact(Ir (y.owns c)).elim (h.high _ _ _) (h.high _ _ _)) (λk d f x o c=>by rw[j k d f] at c;exact h.high _ _ _ c)
 .exact J (λx c=>by rw[n] at c;exact(KP (w.XP c)).elim (h.SS _ _) (h.SS _ _)) (λx c=>by rw[r] at c;exact(KP (y.XP c)).elim (h.SS _ _) (h.SS _ _)) (λk d f x c=>by rw[j k d f] at c;exact h.SS _ _ c)
 .obtain⟨K,L,M⟩:=h.fresh i x v hv;exact⟨K,R x L,M⟩
 .obtain⟨K,L,M⟩:=E.UQ s o x D g;exact⟨K,R x L,M⟩
 .have U:(.inr x:Za)≠b:=λe=>by
   obtain⟨s,o,D,hi⟩:=P x (.inl e.symm);obtain⟨o',d,f⟩:=I.2 s o D;exact g s o' d (by rw[<-f];exact hi)
  have V:(.inr x:Za)≠a:=λe=>by
   obtain⟨s,o,D,hi⟩:=P x (.inr e.symm);obtain⟨o',d,f⟩:=I.2 s o D;exact g s o' d (by rw[<-f];exact hi)
  rw[j _ V U];exact E.Yg x g
theorem Sub.Q5 {G E A:Ψ} (h:Sub A G):Sub A (join G E):=
 ⟨λb o v p c=>let ⟨d,e,f⟩:=h.μ b o v p c;⟨d,by simp[join,e],f⟩,λb x a=>by simp[join,h.row b x a],λb x a=>by simp[join,h.obj b x a]⟩
theorem WT.two (h:WT H γ O ZF w) {a b:Za} {A B:Ψ} (e:Fits A w) (f:Fits B w) (g:∀s o',O' s=some o'->At s o' w):WT (ZD (ZD H a A) b B) γ O' ZF w:=by
 refine⟨λk=>?_,h.TX,g,h.keep⟩;by_cases c:k=b
 .subst c;rw[Yy];exact f
 .rw[ZC _ _ c];by_cases d:k=a
  .subst d;rw[Yy];exact e
  .rw[ZC _ _ d];exact h.fit k
theorem WT.atom (h:WT H γ O ZF w) (u:V5 H γ O Q6) (Q:ZF.heap.size=Q6) {s:Nat} {o o':η} (v:O s=some o) (R:o'.toSpec=o.toSpec) (d:Xy (λb _=>Yj s o.toSpec b) (λ_=>False) w w') (E:At s o' w') :
  WT H γ (Go.ConcN.upd O s (some o')) ZF w':=by
 refine⟨λk=>(h.fit k).keeps d (λb f a=>((u.UQ s o b v a).2.1 k).1 f) (λb a=>a.elim),λj b c t a=>?_,λr q n=>?_,?_⟩
 .obtain⟨c',g,p,i⟩:=d.cells b c t _ (h.TX j b c t a);have:c'=c:=by
   apply NS;intro f;exact i f λA=>by rw[(u.UQ s o b v A).2.2 j] at a;cases a
  rw[g,this]
 .by_cases e:r=s
  .subst e;rw[upd_same] at n;cases n;exact E
  .rw[upd_ne _ _ e] at n;have B:∀b c t,Yj r q.toSpec b->w.heap[b]?=some (.cells c t (0,0))->w'.heap[b]?=some (.cells c t (0,0)):=λb c t a F=>by
    obtain⟨c',g,p,i⟩:=d.cells b c t _ F;have:c'=c:=by
     apply NS;intro f;exact i f λA=>e (u.UF r s q o b n v a A)
    rw[g,this]
   obtain⟨⟨I,g⟩,p⟩:=h.Xv r q n;exact⟨⟨I,B _ _ _ (.inl rfl) g⟩,λm C=>let ⟨J,i⟩:=p m C;⟨J,B _ _ _ (.inr C) i⟩⟩
 .have l:=h.keep;refine⟨Ya l.size d.size,λb c t D a=>?_,λb x a y _=>d.Tp b x (l.Tp b x a y id) y id,l.os.trans d.os,d.output.trans l.output,d.tape.trans l.tape⟩;obtain⟨K,g,p,i⟩:=l.cells b c t D a;obtain⟨L,M,N,P⟩:=d.cells b K t D g;refine⟨L,M,by rw[N,p],λf _=>?_⟩;rw[P f λy=>?_,i f id];have:=(u.UQ s o b v y).1;have:=Xx a;omega
end
structure NN (H:Za->Ψ) (tok:Nat->Nat->Tok) (a:Nat->Option η):Prop where
 RH:∀s o m,a s=some o->o.ZW=some m->(∀i q p,tok i s≠.par q p .ZY)->(∀i k L g,tok i s≠.ch k (.YK L) g)->o.X2 o.L (H (.inr m))
 Sk:∀s o,a s=some o->(∀i q p,tok i s≠.par q p .ZY)->Ul o.D o.YP (H (.inr s))
structure OF (n:Nat) (tok:Nat->Nat->Tok) (d:Nat->Bool) (c a b:Nat->Nat) (t:Trace):Prop where
 Q4:∀k g,t.g? k=some g->g<n
 c1:∀i,i≠0->d i=true->∃e,t[b i]?=some e/\e.g=i/\e.act=.mark (.releaseMerge ⟨a i,0,none⟩)/\t.heard (b i)/\∀k,t.g? k=some i->t.counts k->Before t k (b i)
 c2:∀i,i≠0->d i=true->(∃q p,tok (c (a i)) (a i)=.par q p .ZY)->Knows t (c (a i)) (b i)
 c3:∀i,i≠0->d i=true->c (a i)≠0->d (c (a i))=true->Before t (b i) (b (c (a i)))
structure NM (c:Nat->Nat->Option (Array Value×TypeId)) (tok:Nat->Nat->Tok) (d:Nat->Option η) (e:Nat->Bool) (f:Nat->Nat) (t:Trace):Prop where
 OE:∀s o m,d s=some o->o.ZW=some m->∀p a,t[p]?=some a->a.act=.mark (.releaseMerge ⟨m,0,none⟩)->(∃k h g,tok a.g s=.ch k h g)/\(e a.g=true->Before t p (f a.g))
 OD:∀i b v,c i b=some v->∀a∈t,a.act≠.mark (.releaseMerge ⟨b,0,none⟩)
def Rec (P:Program) (b:Value->Prop) (c:YS) (i:Nat) (g:Goroutine):Prop:=
 ∃Tk,Vo P b (c.T i) (i==0) Tk (c.x i)/\(g=Tk\/(VT Tk/\g={Tk with status:=.blocked}/\∃s o,c.O s=some o/\U7 o (c.tok i s)/\∀a,a≠s->Tl (c.tok i a)))
structure Inv (P:Program) (d:Value->Prop) (b:World) (c:YS) (a:Array Goroutine) (w:World) (t:Trace):Prop where
 pos:0<a.size
 mem:WT c.H c.γ c.O b w
 hold:V5 c.H c.γ c.O b.heap.size
 ZA:VS c.H c.γ c.tok c.O c.Zx c.deaf w.heap.size t
 Zi:X' a.size c.tok c.spec c.view c.rel c.O c.Zx c.home
 Yg:NN c.H c.tok c.O
 Yo:OF a.size c.tok c.rel c.Zx c.home c.XV t
 WS:NM c.γ c.tok c.O c.rel c.XV t
 OC:∀i g,a[i]?=some g->Rec P d c i g
theorem Mn {t u:Trace} {k:Nat} (h:k<t.size):(t++u).counts k↔t.counts k:=by
 unfold Trace.counts;rw[act?_old h,heard_old h]
theorem OF.app {n:Nat} {tok l:Nat->Nat->Tok} {m:Nat->Bool} {y A B:Nat->Nat} {t u:Trace} (h:OF n tok m y A B t) {i:Nat} (hi:i<n) (C:∀b∈u,b.g=i)
  (F:m i=true->∀k,t.size<=k->¬(t++u).counts k) (Q:∀s q p,(∃j,l j s=.par q p .ZY)->∃j,tok j s=.par q p .ZY) (H:∀j s q p,l j s=.par q p .ZY->tok j s=.par q p .ZY):OF n l m y A B (t++u):=by
 refine⟨λk g o=>?_,λj c a=>?_,λj c a I=>?_,λj c a f r=>(h.c3 j c a f r).app u⟩
 .obtain⟨b,v,d⟩:=Tr.1 o;rcases getElem?_append_cases v with⟨_,w⟩|⟨_,x⟩
  .exact h.Q4 k g (by simp[Trace.g?,w,d])
  .rw[<-d,C b x];exact hi
 .obtain⟨b,f,r,J,K,L⟩:=h.c1 j c a;have D:=lt_size_of_getElem? f;refine⟨b,by rw[getElem?_append_old D];exact f,r,J,(heard_old D).2 K,λk o E=>?_⟩;obtain⟨M,v,d⟩:=Tr.1 o;rcases getElem?_append_cases v with⟨N,w⟩|⟨O,x⟩
  .exact(L k (by simp[Trace.g?,w,d]) ((Mn N).1 E)).app u
  .have e:j=i:=by rw[<-d,C M x]
   subst e;exact absurd E (F a k O)
 .obtain⟨q,p,P⟩:=I;exact(h.c2 j c a ⟨q,p,H _ _ _ _ P⟩).app u
section
variable {P:Program} {Q:Value->Prop} {ZF:World} {c:YS} {gs:Array Goroutine} {w:World} {t:Trace}
theorem Inv.stat (h:Inv P Q ZF c gs w t) {i:Nat} {g:Goroutine} (m:gs[i]?=some g):g.status=.running\/(i≠0/\g.status=.finished/\c.rel i=true/\∀s,Gone (c.tok i s))\/(g.status=.blocked/\∃s o,c.O s=some o/\U7 o (c.tok i s)/\∀k,k≠s->Tl (c.tok i k)):=by
 obtain⟨r,d,n⟩:=h.OC i g m;rcases n with rfl|⟨_,rfl,p⟩
 .cases l:c.T i with
  | leaf=>
   rw[l] at d;rcases d.2 with⟨_,a⟩|⟨e,a,b,j,_⟩
   .exact .inl a.1.1
   .exact .inr (.inl ⟨by rintro rfl;simp at e,j,a,b⟩)
  | node f=>
   rw[l] at d;rcases d.2 with(⟨_,a⟩|⟨e,a,b,j,_⟩)|a
   .exact .inl a.1.1
   .exact .inr (.inl ⟨by rintro rfl;simp at e,j,a,b⟩)
   .rcases a with⟨_,b,_⟩|⟨b,_⟩
    .exact .inl b
    .exact .inl b.1
 .exact .inr (.inr ⟨rfl,p⟩)
theorem AP {t:Tok} (h:Ss t):∃k m g,t=.ch k m g/\¬Tl t/\(∀o,¬U7 o t)/\m≠.done/\m≠.idle:=by
 cases t with
 | nil=>exact h.elim
 | par=>exact h.elim
 | ch k m g=>
  refine⟨k,m,g,rfl,?_⟩;cases m with
  | act b=>cases b<;>first|exact h.elim|simp[Tl,U7]
  | _=>first|exact h.elim|simp[Tl,U7]
theorem Inv.awake (h:Inv P Q ZF c gs w t):∃(i:Nat) (g:Goroutine),gs[i]?=some g/\g.status=.running:=by
 apply Va;intro M;have F:∀i,i<gs.size->(c.rel i=true/\∀s,Gone (c.tok i s))\/∃s o,c.O s=some o/\U7 o (c.tok i s)/\∀b,b≠s->Tl (c.tok i b):=λi hi=>by
  have C:gs[i]?=some gs[i]:=XQ hi;rcases h.stat C with f|⟨_,_,f⟩|⟨_,f⟩
  .exact absurd ⟨i,_,C,f⟩ M
  .exact .inl f
  .exact .inr f
 have N:∀i s o n p,c.O s=some o->c.tok i s=.par n p .w3->o.YY=0->∃j b o' y A,i<j/\j<gs.size/\c.O b=some o'/\c.tok j b=.par y A .w3/\o'.YY=0:=λi s o n p u B H=>by
  have R:i<gs.size:=h.Zi.lt (s:=s) (by rw[B];simp);obtain⟨j,I,S⟩:=AY (h.Zi.Z9 s o u).2 (i:=i) R B H;have x:Q9 (c.tok j s):=S;have T:∃k m g,c.tok j s=.ch k m g/\g≠.gone:=by
   cases v:c.tok j s with
   | nil=>rw[v] at x;exact x.elim
   | par=>rw[v] at x;exact x.elim
   | ch k m g=>rw[v] at x;exact⟨k,m,g,rfl,by rintro rfl;exact x⟩
  obtain⟨k,m,g,v,C⟩:=T;obtain⟨_,V,au⟩:=h.Zi.So j s k m g v;have hi:=h.Zi.par i s n p _ B;rcases F j I with⟨_,f⟩|⟨b,o',J,l,av⟩
  .have:=f s;rw[v] at this;cases g<;>first|exact absurd rfl C|exact this.elim
  .by_cases e:b=s
   .subst e;rw[u] at J;cases J;rw[v] at l;have W:m=.q/\o.YF=0:=by cases m<;>simp_all [U7]
    obtain⟨rfl,X⟩:=W;have Y:0<Z0 gs.size (λa=>c.tok a b) Up:=by
     have:=XF (λa=>c.tok a b) Up I;simp only[v,Up,Mv] at this;omega
    obtain⟨a,Z,aa⟩:=AZ (h.Zi.Z9 b o u).1 Y X;obtain⟨D,E,g',ab,ad,ae,af,ag⟩:=AP aa;have K:c.tok a b=.ch D E g':=ab;exfalso;rcases F a Z with⟨_,f⟩|⟨ah,aw,ax,ai,aj⟩
    .have L:=f b;rw[K] at L;have:g'≠.work:=by rintro rfl;exact L
     rcases h.Zi.Sm a b D E g' o u K this with e|⟨e,_⟩
     .exact af e
     .exact ag e
    .by_cases Φ:ah=b
     .subst Φ;exact ae _ ai
     .exact ad (aj b (YZ Φ))
   .cases r:c.tok j b with
    | nil=>rw[r] at l;exact l.elim
    | ch D E g'=>exact absurd ((h.Zi.So j b D E g' r).2.1.symm.trans V) e
    | par y A ak=>
     rw[r] at l;cases ak<;>first|exact l.elim|exact⟨j,b,o',y,A,U,I,J,r,l⟩
 have al:∀d i s o n p,gs.size-i=d->i<gs.size->c.O s=some o->c.tok i s=.par n p .w3->o.YY=0->False:=λd=>by
  induction d using Nat.strongRecOn with
  | _ d am=>
   intro i s o n p hd hi u B H;obtain⟨j,b,o',y,A,f,an,ao,ap,aq⟩:=N i s o n p u B H;exact am (gs.size-j) U j b o' y A rfl an ao ap aq
 rcases F 0 h.pos with⟨f,_⟩|⟨s,o,u,l,_⟩
 .rw[h.Zi.Py] at f;cases f
 .cases r:c.tok 0 s with
  | nil=>rw[r] at l;exact l.elim
  | ch k m g=>exact(h.Zi.So 0 s k m g r).1 rfl
  | par n p ar=>
   rw[r] at l;cases ar<;>first|exact l.elim|exact al _ 0 s o n p rfl h.pos u r l
theorem Rec.woken {c':YS} {i j:Nat} {g g' b:Goroutine} {w':World} (h:Rec P Q c j b) (k:c'.x j=c.x j) (l:c'.T j=c.T j)
  (hw:(mayWake P g=true/\VT g')\/∀s o,c.O s=some o->U7 o (c.tok j s)->∃o',c'.O s=some o'/\U7 o' (c.tok j s)):Rec P Q c' j (Go.Conc.woken P g g' w' b):=by
 have r:c'.tok j=c.tok j:=congrArg Z4.tok k;obtain⟨m,d,A⟩:=h;rcases A with rfl|⟨t,rfl,s,o,n,B,C⟩
 .have n:b.status=.running\/b.status=.finished:=by
   cases u:c.T j with
   | leaf=>
    rw[u] at d;rcases d.2 with⟨_,a⟩|⟨_,_,_,p,_⟩
    .exact .inl a.1.1
    .exact .inr p
   | node f=>
    rw[u] at d;rcases d.2 with(⟨_,a⟩|⟨_,_,_,p,_⟩)|a
    .exact .inl a.1.1
    .exact .inr p
    .rcases a with⟨_,e,_⟩|⟨e,_⟩
     .exact .inl e
     .exact .inl e.1
  have:Go.Conc.woken P g g' w' b=b:=by
   unfold Go.Conc.woken;split
   .exact again_running _ n
   .rfl
  rw[this];exact⟨b,by rw[k,l];exact d,.inl rfl⟩
 .unfold Go.Conc.woken;split
  .rename_i v;refine⟨m,by rw[k,l];exact d,.inl ?_⟩;obtain⟨w,y⟩:=t;obtain⟨υ,ZY,st,D,of⟩:=m;simp only at w y;subst w y;rfl
  .rename_i v;rcases hw with⟨a,e⟩|hw
   .exfalso;apply v;simp[a,e.1]
   .obtain⟨o',a,e⟩:=hw s o n B;exact⟨m,by rw[k,l];exact d,.inr ⟨t,rfl,s,o',a,by rw[r];exact e,by rw[r];exact C⟩⟩
end
section
variable {P:Program} {Q:Value->Prop} {ZF:World} {c:YS} {gs:Array Goroutine} {w:World} {t:Trace}
theorem Inv.at (h:Inv P Q ZF c gs w t) (d:Nat):Inv P Q ZF c gs (w.at d) t:=⟨h.pos,h.mem.at d,h.hold,h.ZA,h.Zi,h.Yg,h.Yo,h.WS,h.OC⟩
theorem Inv.gone (h:Inv P Q ZF c gs w t) (F:∀s,Xn (c.tok 0 s)):∀j,j≠0->j<gs.size->c.rel j=true/\(∀s,Gone (c.tok j s))/\Knows t 0 (c.XV j):=by
 have H:∀t:Tok,Xn t->Gone t:=λt d=>by cases t with
  | nil=>trivial
  | par _ _ b=>cases b<;>first|exact d.elim|trivial
  | ch=>exact d.elim
 intro j
 induction j using Nat.strongRecOn with
 | _ j I=>
  intro i l;obtain⟨k,m,g,d⟩:=h.Zi.Qp j i l;obtain⟨_,_,K⟩:=h.Zi.So j _ k m g d;cases A:c.O (c.home j) with
  | none=>have:=h.Zi.bare _ A j;rw[d] at this;cases this
  | some o=>
  have n:=h.Zi.Z9 _ o A;obtain⟨u,B,C⟩:=KW (φ:=X1) (N:=gs.size) (τ:=λa=>c.tok a (c.home j)) (by rw[n.2.SU];exact Nat.one_pos);have L:∃q p b,c.tok u (c.home j)=.par q p b:=by
   cases f:c.tok u (c.home j) with
   | par q p b=>exact⟨q,p,b,rfl⟩
   | nil=>simp[f,X1] at C
   | ch=>simp[f,X1] at C
  obtain⟨q,p,b,f⟩:=L;have M:=h.Zi.par u _ q p b f;subst M;have R:b=.ZY/\(c.Zx (c.home j)≠0->c.rel (c.Zx (c.home j))=true/\Knows t 0 (c.XV (c.Zx (c.home j)))):=by
   by_cases e:c.Zx (c.home j)=0
   .have:=F (c.home j);rw[<-e,f] at this;refine⟨by cases b<;>first|exact this.elim|rfl,λx=>absurd e x⟩
   .obtain⟨v,y,S⟩:=I _ K e B;have:=y (c.home j);rw[f] at this;exact⟨by cases b<;>first|exact this.elim|rfl,λ_=>⟨v,S⟩⟩
  obtain⟨rfl,T⟩:=R;have U:Z0 gs.size (λa=>c.tok a (c.home j)) V6=1:=by
   rw[RK (φ:=V6) (λt d=>by cases t<;>simp_all [X1,V6]) n.2.SU B (by rw[f];rfl),f];rfl
  obtain⟨f1,f2,f3,f4,f5,f6⟩:=n.2.F4 U;have W:=n.2.IA;have l1:=XF (λa=>c.tok a (c.home j)) VF l;have l2:=XF (λa=>c.tok a (c.home j)) U9 l;have D:=XF (λa=>c.tok a (c.home j)) U8 l;simp only[d,VF,U9,U8] at l1 l2 D;have V:g=.gone:=by
   cases g with
   | gone=>rfl
   | work=>simp only[Qq] at l1;omega
   | rel=>simp only[Qq] at l1;omega
   | l2=>simp only[ON] at l2;omega
   | RO=>simp only[OM] at D;omega
  subst V;have r:c.rel j=true:=(h.Zi.RI j k m _ i d).2 J;refine⟨r,λs=>?_,?_⟩
  .by_cases e:s=c.home j
   .subst e;rw[d];trivial
   .exact H _ (h.Zi.Sn j s r e)
  .have E:=h.Yo.c2 j i r ⟨q,p,f⟩;by_cases e:c.Zx (c.home j)=0
   .rw[e] at E;exact E
   .obtain⟨v,y⟩:=T e;exact Knows.of_before (h.Yo.c3 j i r e v) y
theorem AO {o:η} {x:Tok} (h:Gone x) (a:∀k m g,x=.ch k m g->m≠.q):¬U7 o x:=by
 cases x with
 | nil=>exact id
 | par _ _ b=>cases b<;>first|exact h.elim|exact id
 | ch k m g=>cases m<;>first|exact absurd rfl (a _ _ _ rfl)|exact id
theorem Inv.FH (h:Inv P Q ZF c gs w t) {g:Goroutine} (al:gs[0]?=some g) (C:FN P g (c.x 0) Q) (sl:Option (Nat×Nat)) (w1:World) :
  ∃v es,stepG P true g w=.ended (.done v) w es/\Good P (λv w'=>Q v/\Xy (λ_ _=>False) (λ_=>False) ZF w') (crowd gs w1 sl) (.done v) w (t++MemOp.ofEvents 0 g.frame.fn g.frame.place es):=by
 obtain⟨_,N,hd,O⟩:=C;obtain⟨v,es,R,S,V⟩:=O w (h.mem.fit (.inl 0));refine⟨v,es,R,v,rfl,⟨V,h.mem.keep⟩,?_⟩;have F:=h.gone N;have I:=h.ZA.own (w':=w) h.mem h.hold 0 (G':=c.H (.inl 0)) (V':=c.γ 0) (es:=es) (fn:=g.frame.fn) (pos:=g.frame.place) (Z5 _)
  ⟨λb o v p i=>.inr ⟨v,p,i,id⟩,λb W=>.inr W⟩ (λb x a=>.inl a) S (λb x a am=>by
   have:=Xx (h.mem.TX 0 b x.1 x.2 a);omega)
 have J:∀j x,j≠0->gs[j]?=some x->∃n,QuitsD P n (c.deaf j) x:=λj x d a=>by
  have X:=(T3.1 a).1;obtain⟨r,u,_⟩:=F j d X;obtain⟨Y,y,i⟩:=h.OC j x a;have l:∃n,QuitsD P n (c.deaf j) Y:=by
   cases K:c.T j with
   | leaf=>rw[K] at y;exact y.1 r u
   | node f=>rw[K] at y;exact y.1 r u
  rcases i with rfl|⟨_,_,s,o,C,Z,_⟩
  .exact l
  .refine absurd Z (AO (u s) λk m g e aa=>?_);subst aa;have ab:g≠.work:=by rintro rfl;have:=u s;rw[e] at this;exact this
   rcases h.Zi.Sm j s k _ g o C e ab with x|⟨x,_⟩<;>cases x
 refine⟨I.race,λk g' ad A i=>?_,⟨λx a=>?_,rfl⟩,λj x a d=>?_⟩
 .obtain⟨an,ae,L⟩:=Tr.1 ad;rcases getElem?_append_cases ae with⟨af,ag⟩|⟨_,ah⟩
  .have B:t.g? k=some g':=by simp[Trace.g?,ag,L]
   have ai:=h.Yo.Q4 k g' B;obtain⟨r,_,aj⟩:=F g' A ai;obtain⟨ao,ap,Φ,aq,ar,ak⟩:=h.Yo.c1 g' A r;obtain⟨q,z,D,M,E⟩:=Knows.of_before (ak k B ((Mn af).1 i)) aj;refine⟨q,by simp[Trace.g?,getElem?_append_old (lt_size_of_getElem? D),D,M],?_⟩;rcases E with rfl|E
   .exfalso;simp[Trace.g?,D,M] at B;exact A B.symm
   .exact hb_app _ E
  .obtain⟨e,_,rfl⟩:=Go.Conc.mem_ofEvents ah;exact absurd L.symm A
 .obtain⟨j,d⟩:=List.mem_iff_getElem?.1 a;rw[T2] at d;obtain⟨n,l⟩:=J (1+j) x U (by simpa[crowd] using d);exact⟨n,l.leaves⟩
 .obtain⟨n,l⟩:=J j x d a;refine⟨n,?_⟩;have e:(t++MemOp.ofEvents 0 g.frame.fn g.frame.place es).deaf j (t++MemOp.ofEvents 0 g.frame.fn g.frame.place es).size=c.deaf j:=I.hears j;rw[e];exact l.hears _
def Comes (P:Program) (Q:Value->Prop) (ZF:World) (m:Machine) (t:Trace):Prop:=
 ∃N a o w' t',runNT P (N+1) m t=(.ended o w',t')/\runN P N m=.next a/\step P a=.ended o w'/\Good P (λv w'=>Q v/\Xy (λ_ _=>False) (λ_=>False) ZF w') a o w' t'
theorem Comes.next {m a:Machine} {u:Trace} (b:stepT P m=(.next a,u)) (h:Comes P Q ZF a (t++u)):Comes P Q ZF m t:=by
 obtain⟨n,last,o,w,t',c,d,e,f⟩:=h;exact⟨n+1,last,o,w,t',by rw[runNT_succ_next b];exact c,by rw[runN_succ_next b];exact d,e,f⟩
theorem Comes.last {m:Machine} {u:Trace} {o:Outcome} {w:World} (a:stepT P m=(.ended o w,u)) (b:Good P (λv w'=>Q v/\Xy (λ_ _=>False) (λ_=>False) ZF w') m o w (t++u)):Comes P Q ZF m t:=
 ⟨0,m,o,w,t++u,by simp[runNT,a],rfl,by simp[step,a],b⟩
def NL (gs:Array Goroutine):Nat:=(gs.toList.filter λg=>decide (g.status=.running)).length
structure Ord (a:List Nat) (n:Nat):Prop where
 nodup:a.Nodup
 mem:∀i,i∈a↔i<n
theorem Ord.part {c:List Nat} {n i:Nat} (h:Ord c n) (hi:i<n):∃a b,c=a++i::b/\i∉a/\i∉b:=by
 obtain⟨a,b,rfl⟩:=List.append_of_mem ((h.mem i).2 hi);have:=h.nodup;rw[List.nodup_append] at this;obtain⟨_,d,e⟩:=this;rw[S1] at d;exact⟨a,b,rfl,λf=>e i f i J rfl,d.1⟩
theorem NK {B:Type} {T:Nat->B} {i:Nat} {x:B} {l:List Nat} (h:i∉l):l.map (upd T i x)=l.map T:=by
 apply MC;intro j a;exact upd_ne _ _ (λe=>h (e▸a))
theorem Ord.one {B:Type} {c:List Nat} {n i:Nat} (h:Ord c n) (hi:i<n) {T:Nat->Xh B} {f:B->Xh B} (d:T i=.node f) (k:B):Tm (c.map (upd T i (f k))) (c.map T):=by
 obtain⟨a,b,rfl,e,g⟩:=h.part hi;simp only[XR,X3,NK e,NK g,upd_same,d];exact .one _ _ _ _
theorem Ord.two {B:Type} {g:List Nat} {n i:Nat} (h:Ord g n) (hi:i<n) {T:Nat->Xh B} {f:B->Xh B} (t:T i=.node f) (k u:B) :
  ∃m,Ord m (n+1)/\Tm (m.map (upd (upd T i (f k)) n (f u))) (g.map T):=by
 have o:n∉g:=λc=>by have:=(h.mem n).1 c;omega
 obtain⟨a,b,rfl,v,w⟩:=h.part hi;have p:n∉a:=λc=>o (by simp[c]);have r:n∉b:=λc=>o (by simp[c]);refine⟨a++i::n::b,⟨?_,λj=>?_⟩,?_⟩
 .have:=h.nodup;rw[List.nodup_append] at this ⊢;obtain⟨A,l,s⟩:=this;rw[S1] at l;refine⟨A,?_,λx c y d=>?_⟩
  .rw[S1,S1];exact⟨by simp;exact⟨U,l.1⟩,r,l.2⟩
  .simp at d;rcases d with rfl|rfl|d
   .exact s x c _ J
   .rintro rfl;exact p c
   .exact s x c y (by simp[d])
 .have:=h.mem j;simp only[VG,Zf] at this ⊢;constructor
  .rintro(c|rfl|rfl|c)
   .have:=this.1 (.inl c);omega
   .omega
   .omega
   .have:=this.1 (.inr (.inr c));omega
  .intro c;by_cases e:j=n
   .exact .inr (.inr (.inl e))
   .rcases this.2 U with c|rfl|c
    .exact .inl c
    .exact .inr (.inl rfl)
    .exact .inr (.inr (.inr c))
 .have C:i≠n:=by omega
  simp only[XR,X3,NK p,NK r,NK v,NK w,upd_same,upd_ne _ _ C,t];exact .two _ _ _ _ _
end
theorem KO {B:Type} {f:Nat->B} {k:Nat} {x:B} (h:f k=x):upd f k x=f:=by
 funext j
 by_cases e:j=k
 .subst e;rw[upd_same,h]
 .rw[upd_ne _ _ e]
theorem VR (H:Za->Ψ) (i:Nat) (G:Ψ) (b:Nat):ZD H (.inl i) G (.inr b)=H (.inr b):=ZC H G J
theorem OB (tok:Nat->Nat->Tok) (i s:Nat) (t:Tok):Zw tok i s t i=upd (tok i) s t:=by unfold Zw;rw[upd_same]
theorem Qn {tok:Nat->Nat->Tok} {i s j:Nat} (t:Tok) (h:j≠i):Zw tok i s t j=tok j:=by unfold Zw;rw[upd_ne _ _ h]
theorem TV {B:Type} {a:Array B} {k:Nat} {x:B} (h:a[k]?=some x):k<a.size:=(T3.1 h).1
theorem ofEvents_g {i:Nat} {fn:FuncId} {pos:String} {es:Array Event}:∀a∈MemOp.ofEvents i fn pos es,a.g=i:=λa b=>by obtain⟨e,_,rfl⟩:=Go.Conc.mem_ofEvents b;rfl
theorem FG {i:Nat} {fn:FuncId} {pos:String}:MemOp.ofEvents i fn pos #[]=#[]:=by rw[ofEvents_eq];simp
theorem AN (t:Trace) (i:Nat) (fn:FuncId) (pos:String) (es:Array Event) {j:Nat} (b:j<=es.size):(t++MemOp.ofEvents i fn pos es).deaf i (t.size+j)=deafBehind (Deaf t i) (es.extract 0 j):=by
 have e:t++MemOp.ofEvents i fn pos es=(t++MemOp.ofEvents i fn pos (es.extract 0 j))++MemOp.ofEvents i fn pos (es.extract j es.size):=by
  rw[OX];congr 1;rw[ofEvents_eq,ofEvents_eq,ofEvents_eq,<-Array.map_append];congr 1;simp only[Array.extract_append_extract];rw[show max j es.size=es.size by omega];simp
 have a:(t++MemOp.ofEvents i fn pos (es.extract 0 j)).size=t.size+j:=by rw[Array.size_append,ofEvents_eq];simp;omega
 rw[e,deaf_old U,<-a];exact Deaf_own t i fn pos _
theorem Iq {t u:Trace} {k:Nat} (c:t.size<=k) (d:(t++u).counts k):∃a,u[k-t.size]?=some a/\(t++u)[k]?=some a/\∃x,a.act.touch?=some x/\x.loc.isMemory=true/\(x.kind≠.atomic\/(t++u).heard k):=by
 obtain⟨x,e,f,g⟩:=d;obtain⟨a,b,h⟩:=touch_of (t:=t++u) (i:=k) e;exact⟨a,by rw[Lh c] at b;exact b,b,x,h,f,g⟩
theorem NJ {t u:Trace} (h:∀a∈u,a.act.touch?=none):∀k,t.size<=k->¬(t++u).counts k:=λk c d=>by
 obtain⟨a,e,_,x,b,_⟩:=Iq c d;rw[h a (mem_of_getElem? e)] at b;cases b
theorem AM {t:Trace} {i:Nat} {fn:FuncId} {pos:String} {es:Array Event} (h:∀e∈es,KU e):∀k,t.size<=k->¬(t++MemOp.ofEvents i fn pos es).counts k:=λk c d=>by
 obtain⟨l,f,_,x,b,g,_⟩:=Iq c d;obtain⟨e,j,rfl⟩:=Go.Conc.mem_ofEvents (mem_of_getElem? f);obtain⟨m,wr,n⟩:=e;rcases h _ j with a|a<;>simp only at a<;>subst a<;>simp[MemAct.ofEvent,MemAct.touch?] at b;subst b;simp[Loc.isMemory] at g
theorem KN {s d i:Nat} {sp:Spec} {es:Array Event} {fn:FuncId} {pos:String} (h:Sr s sp d es) {c:MemOp} (g:c∈MemOp.ofEvents i fn pos es) :
  (c.act=.mark .disable\/c.act=.mark .enable)\/∃b f wr,c.act=.access ⟨.cell ⟨b,f,none⟩,wr,true⟩/\Yj s sp b:=by
 obtain⟨e,k,rfl⟩:=Go.Conc.mem_ofEvents g;obtain⟨j,l⟩:=Lf.1 k;obtain⟨n,wr,o⟩:=e;rcases h.2 j _ l with a|a|⟨b,f,p,a,m,_⟩
 .simp only at a;subst a;exact .inl (.inl rfl)
 .simp only at a;subst a;exact .inl (.inr rfl)
 .cases a;exact .inr ⟨b,f,_,rfl,m⟩
theorem AL {t:Trace} {s i:Nat} {sp:Spec} {fn:FuncId} {pos:String} {es:Array Event} (h:Sr s sp (Deaf t i) es):∀k,t.size<=k->¬(t++MemOp.ofEvents i fn pos es).counts k:=λk m n=>by
 obtain⟨u,f,o,x,c,v,d⟩:=Iq m n;rw[ofEvents_eq,PE] at f;obtain⟨e,j,rfl⟩:=Tr.1 f;have p:k-t.size<es.size:=TV j;obtain⟨w,wr,y⟩:=e;rcases h.2 _ _ j with a|a|⟨b,A,B,a,C,hd⟩
 .simp only at a;subst a;simp[MemAct.ofEvent,MemAct.touch?] at c
 .simp only at a;subst a;simp[MemAct.ofEvent,MemAct.touch?] at c
 .cases a;simp[MemAct.ofEvent,MemAct.touch?] at c;subst c;rcases d with d|⟨g,l,r⟩
  .exact d rfl
  .simp[Trace.g?,o] at l;subst l;have:=AN t i fn pos es (RP p);rw[show t.size+(k-t.size)=k by omega] at this;rw[this] at r;omega
section
variable {P:Program} {Q:Value->Prop} {ZF:World} {c c':YS} {gs:Array Goroutine} {w w':World} {t:Trace} {i:Nat} {g g':Goroutine} {es:Array Event}
theorem Inv.low (h:Inv P Q ZF c gs w t) {s b:Nat} {o:η} (a:c.O s=some o) (hb:Yj s o.toSpec b):b<w.heap.size:=by
 obtain⟨⟨g,d⟩,e⟩:=h.mem.Xv s o a;rcases hb with rfl|hb
 .exact Xx d
 .obtain⟨i,f⟩:=e b hb;exact Xx f
theorem Inv.obj (h:Inv P Q ZF c gs w t) {s:Nat} (a:c.tok i s≠.nil):∃o,c.O s=some o:=by
 cases b:c.O s with
 | none=>exact absurd (h.Zi.bare s b i) a
 | some o=>exact⟨o,rfl⟩
theorem VS.grow {H:Za->Ψ} {a:Nat->Nat->Option (Array Value×TypeId)} {tok:Nat->Nat->Tok} {b:Nat->Option η} {c d:Nat->Nat} {N e:Nat} (h:VS H a tok b c d N t) (f:N<=e):VS H a tok b c d e t:=
 ⟨h.race,λg i=>MemAct.low_mono f (h.low g i),h.norel,h.perms,h.Sq,h.cont,h.hears⟩
theorem NM.app {i l:Nat->Nat->Option (Array Value×TypeId)} {tok n:Nat->Nat->Tok} {r O':Nat->Option η} {w:Nat->Bool} {x:Nat->Nat} {u:Trace} {N:Nat} (h:NM i tok r w x t) (A:∀a∈t,a.act.low N)
  (y:∀a∈u,∀b,a.act≠.mark (.releaseMerge ⟨b,0,none⟩)) (hv:∀j b v,l j b=some v->(∃f,i j b=some f)\/N<=b) (B:∀s o',O' s=some o'->∃o,r s=some o/\o.ZW=o'.ZW)
  (C:∀j s k d g,tok j s=.ch k d g->∃k d g,n j s=.ch k d g):NM l n O' w x (t++u):=by
 refine⟨λs o' m D E p a F c=>?_,λj b v H a I c=>?_⟩
 .obtain⟨o,J,K⟩:=B s o' D;rcases getElem?_append_cases F with⟨_,L⟩|⟨_,M⟩
  .obtain⟨⟨k,d,g,O⟩,P⟩:=h.OE s o m J (by rw[K];exact E) p a L c;exact⟨C _ _ _ _ _ O,λQ=>(P Q).app u⟩
  .exact absurd c (y a M m)
 .rcases Sv.1 I with e|e
  .rcases hv j b v H with⟨f,R⟩|hle
   .exact h.OD j b f R a e c
   .have:=A a e;rw[c] at this;simp only[MemAct.low] at this;omega
  .exact y a e b c
theorem NN.Mm {H H':Za->Ψ} {tok:Nat->Nat->Tok} {c:Nat->Option η} (h:NN H tok c) (f:∀b,H' (.inr b)=H (.inr b)):NN H' tok c:=
 ⟨λs o m a b d e=>by rw[f];exact h.RH s o m a b d e,λs o a b=>by rw[f];exact h.Sk s o a b⟩
theorem Inv.laid (h:Inv P Q ZF c gs w t) (l:gs[i]?=some g) {u:Trace}
  (mem:WT c'.H c'.γ c'.O ZF w') (hold:V5 c'.H c'.γ c'.O ZF.heap.size) (ZA:VS c'.H c'.γ c'.tok c'.O c'.Zx c'.deaf w'.heap.size (t++u))
  (Zi:X' gs.size c'.tok c'.spec c'.view c'.rel c'.O c'.Zx c'.home) (Yg:NN c'.H c'.tok c'.O) (Yo:OF gs.size c'.tok c'.rel c'.Zx c'.home c'.XV (t++u)) (WS:NM c'.γ c'.tok c'.O c'.rel c'.XV (t++u))
  (m:Rec P Q c' i g') (k:∀j,j≠i->c'.x j=c.x j/\c'.T j=c.T j)
  (d:(mayWake P g=true/\VT g')\/∀j s o,j≠i->c.O s=some o->U7 o (c.tok j s)->∃o',c'.O s=some o'/\U7 o' (c.tok j s)) :
  Inv P Q ZF c' ((gs.map (woken P g g' w')).setIfInBounds i g') w' (t++u):=by
 have f:((gs.map (woken P g g' w')).setIfInBounds i g').size=gs.size:=J
 have n:i<gs.size:=TV l;refine⟨by rw[f];exact h.pos,mem,hold,ZA,by rw[f];exact Zi,Yg,by rw[f];exact Yo,WS,λj b a=>?_⟩;by_cases e:j=i
 .subst e;rw[Tv (by simpa using n)] at a;cases a;exact m
 .rw[UT (YZ e),PE] at a;obtain⟨p,r,rfl⟩:=Tr.1 a;exact(h.OC j p r).woken (i:=0) (k j e).1 (k j e).2 (d.imp id λd s o v y=>d j s o e v y)
def Wl (P:Program) (Q:Value->Prop) (ZF:World) (c:YS) (gs:Array Goroutine) (w:World) (t:Trace) (i:Nat) (f:Bool×Goroutine×Z4->Xh (Bool×Goroutine×Z4)):Prop:=
 ∀sl,∃c' a w' u,runT P (crowd gs w sl) i=(.next (crowd a w' sl),u)/\Inv P Q ZF c' a w' (t++u)/\
  ((a.size=gs.size/\∃k,c'.T=upd c.T i (f k))\/(a.size=gs.size+1/\∃k b,c'.T=upd (upd c.T i (f k)) gs.size (f b))\/(a.size=gs.size/\c'.T=c.T/\NL a<NL gs))
def KM (P:Program) (Q:Value->Prop) (ZF:World) (c:YS) (gs:Array Goroutine) (w:World) (t:Trace) (i:Nat) (f:Bool×Goroutine×Z4->Xh (Bool×Goroutine×Z4)):Prop:=
 ∃c',Inv P Q ZF c' gs w t/\∃k,c'.T=upd c.T i (f k)
abbrev Uk (P:Program) (Q:Value->Prop) (f:Bool×Goroutine×Z4->Xh (Bool×Goroutine×Z4)):Ms:=λa g' b=>Vo P Q (f (a,g',b)) a g' b
theorem Wl.go {f:Bool×Goroutine×Z4->Xh (Bool×Goroutine×Z4)} (a:gs[i]?=some g) (b:stepG P (i==0) g w=.go g' w' es)
  (h:Inv P Q ZF c' ((gs.map (woken P g g' w')).setIfInBounds i g') w' (t++MemOp.ofEvents i g.frame.fn g.frame.place es)) (k:Bool×Goroutine×Z4) (d:c'.T=upd c.T i (f k)):Wl P Q ZF c gs w t i f:=
 λ_=>⟨c',_,w',_,runT_crowd_go a b,h,.inl ⟨J,k,d⟩⟩
variable {f:Bool×Goroutine×Z4->Xh (Bool×Goroutine×Z4)}
theorem Inv.It (h:Inv P Q ZF c gs w t) (u:gs[i]?=some g) (I:FX P (i==0) (Uk P Q f) g (c.x i)):Wl P Q ZF c gs w t i f:=by
 have p:=I w (h.mem.fit (.inl i)) (h.mem.TX i);cases l:stepG P (i==0) g w with
 | go g' w' es=>
  rw[l] at p;obtain⟨G',V',Y,B,J,K,C,y,D,L,M⟩:=p;have N:i<gs.size:=TV u;have E:∀e∈es,WJ (c.H (.inl i)) w.heap.size w'.heap.size e:=λe n=>by
   have:=D e n;split at this
   .exact this.It
   .exact this
  have O:∀j,j≠i->({c with H:=ZD c.H (.inl i) G',γ:=upd c.γ i V',T:=upd c.T i (f (i==0,g',{c.x i with G:=G',γ:=V'}))}:YS).x j=c.x j:=λj d=>by
   have:(Sum.inl j:Za)≠.inl i:=λe=>d (by cases e;rfl);simp[YS.x,ZC _ _ this,upd_ne _ _ d]
  refine Wl.go (c':={c with H:=ZD c.H (.inl i) G',γ:=upd c.γ i V',T:=upd c.T i (f (i==0,g',{c.x i with G:=G',γ:=V'}))}) u l ?_ _ rfl;refine h.laid u (h.mem.own h.hold i B J K rfl) (h.hold.own h.mem h.mem.keep.size i C y) (h.ZA.own h.mem h.hold i B.size C y E L) h.Zi ?_ ?_ ?_ ?_ (λj d=>⟨O j d,upd_ne _ _ d⟩) (.inr λj s o _ a b=>⟨o,a,b⟩)
  .exact h.Yg.Mm λb=>VR c.H i G' b
  .refine h.Yo.app N ofEvents_g (λR=>AM λe n=>?_) (λ_ _ _ x=>x) (λ_ _ _ _ x=>x);have:=D e n;have S:(c.x i).rel=true:=R;simpa only[S,if_true] using this
  .refine h.WS.app h.ZA.low (λZ U b A=>?_) (λj b v hv=>?_) (λs o' l=>⟨o',l,rfl⟩) (λj s k V g e=>⟨k,V,g,e⟩)
   .obtain⟨e,n,rfl⟩:=Go.Conc.mem_ofEvents U;have F:=E e n;obtain⟨W,wr,X⟩:=e;cases W with
    | mark m=>simp only[WJ] at F;subst F;simp[MemAct.ofEvent] at A
    | obj r=>cases wr<;>cases X<;>simp[MemAct.ofEvent] at A
    | _=>simp[MemAct.ofEvent] at A
   .replace hv:upd c.γ i V' j b=some v:=hv
    by_cases d:j=i
    .subst d;rw[upd_same] at hv;exact(y b v hv).imp (λx=>⟨v,x⟩) (λx=>x.1)
    .rw[upd_ne _ _ d] at hv;exact .inl ⟨v,hv⟩
  .refine⟨g',?_,.inl rfl⟩;have e:({c with H:=ZD c.H (.inl i) G',γ:=upd c.γ i V',T:=upd c.T i (f (i==0,g',{c.x i with G:=G',γ:=V'}))}:YS).x i={c.x i with G:=G',γ:=V'}:=by
    simp[YS.x,upd_same]
   rw[e];show Vo P Q (upd c.T i (f (i==0,g',{c.x i with G:=G',γ:=V'})) i) _ _ _;rw[upd_same];exact M
 | _=>rw[l] at p;exact p.elim
theorem WT.Mm {H:Za->Ψ} {a:Nat->Nat->Option (Array Value×TypeId)} {b O':Nat->Option η} (h:WT H a b ZF w) (e:O'=b):WT H a O' ZF w:=e▸h
theorem Inv.marked (h:Inv P Q ZF c gs w t) (u:gs[i]?=some g) {m:Mark} (B:m=.disable\/m=.enable) {d:Nat} (hd:d=deafBehind (c.deaf i) #[Go.ConcR.mk m]) (y:stepG P (i==0) g w=.go g' w #[Go.ConcR.mk m])
  (E:Uk P Q f (i==0) g' {c.x i with deaf:=d}):Wl P Q ZF c gs w t i f:=by
 have F:i<gs.size:=TV u
 have nt:∀l∈MemOp.ofEvents i g.frame.fn g.frame.place #[Go.ConcR.mk m],l.act.touch?=none:=λl n=>by
  obtain⟨e,p,rfl⟩:=Go.Conc.mem_ofEvents n;simp at p;subst p;rcases B with rfl|rfl<;>rfl
 have A:∀l∈MemOp.ofEvents i g.frame.fn g.frame.place #[Go.ConcR.mk m],l.act=.mark .disable\/l.act=.mark .enable:=λl n=>by
  obtain⟨e,p,rfl⟩:=Go.Conc.mem_ofEvents n;simp at p;subst p;rcases B with rfl|rfl
  .exact .inl rfl
  .exact .inr rfl
 refine Wl.go (c':={c with deaf:=upd c.deaf i d,T:=upd c.T i (f (i==0,g',{c.x i with deaf:=d}))}) u y ?_ _ rfl;refine h.laid u h.mem h.hold ?_ h.Zi h.Yg ?_ ?_ ⟨g',?_,.inl rfl⟩ (λj C=>⟨by simp[YS.x,upd_ne _ _ C],upd_ne _ _ C⟩) (.inr λj s o _ a b=>⟨o,a,b⟩)
 .refine h.ZA.ext h.hold i ofEvents_g (λl n=>?_) (λl n a D=>?_) (λl n b r=>?_) (λj=>?_)
  .rcases A l n with e|e<;>rw[e]<;>trivial
  .rcases A l n with e|e<;>rw[e] at D<;>cases D
  .rw[nt l n] at r;cases r
  .by_cases e:j=i
   .subst e;rw[Deaf_own,h.ZA.hears,hd];exact(upd_same ..).symm
   .rw[Deaf_other t (YZ e) _ ofEvents_g,h.ZA.hears];exact(upd_ne _ _ e).symm
 .exact h.Yo.app F ofEvents_g (λ_=>NJ nt) (λ_ _ _ x=>x) (λ_ _ _ _ x=>x)
 .refine h.WS.app h.ZA.low (λl n b r=>?_) (λj b v hv=>.inl ⟨v,hv⟩) (λs o' y=>⟨o',y,rfl⟩) (λj s k H g e=>⟨k,H,g,e⟩);rcases A l n with e|e<;>rw[e] at r<;>cases r
 .have e:({c with deaf:=upd c.deaf i d,T:=upd c.T i (f (i==0,g',{c.x i with deaf:=d}))}:YS).x i={c.x i with deaf:=d}:=by
   simp[YS.x,upd_same]
  rw[e];show Vo P Q (upd c.T i (f (i==0,g',{c.x i with deaf:=d})) i) _ _ _;rw[upd_same];exact E
theorem Inv.AK (h:Inv P Q ZF c gs w t) (e:gs[i]?=some g) (a:FW P (i==0) (Uk P Q f) g (c.x i)):Wl P Q ZF c gs w t i f:=by
 obtain⟨g',_,a|⟨_,a⟩⟩:=a
 .obtain⟨b,d⟩:=a w (h.mem.fit (.inl i));exact h.marked e (.inl rfl) (by rfl) b d
 .obtain⟨b,d⟩:=a w (h.mem.fit (.inl i));exact h.marked e (.inr rfl) (by rfl) b d
theorem Inv.AJ (h:Inv P Q ZF c gs w t) (y:gs[i]?=some g) (I:FV P (i==0) (Uk P Q f) g (c.x i)):Wl P Q ZF c gs w t i f:=by
 obtain⟨s,n,p,B,g',r,wr,J,U,K,V,L⟩:=I;have M:i<gs.size:=TV y;obtain⟨A,N⟩:=L w (h.mem.fit (.inl i));have C:c.tok i s=.par n p B:=J;obtain⟨o,D⟩:=h.obj (i:=i) (s:=s) (by rw[C];simp);have O:c.rel i=false:=K;have u:∀d∈MemOp.ofEvents i g.frame.fn g.frame.place #[Go.ConcR.mk (if wr then .write ⟨s,r,none⟩ else .read ⟨s,r,none⟩)],d.act=.mark (if wr then .write ⟨s,r,none⟩ else .read ⟨s,r,none⟩):=λd l=>by
  obtain⟨e,E,rfl⟩:=Go.Conc.mem_ofEvents l;simp at E;subst E;rfl
 refine Wl.go (c':={c with T:=upd c.T i (f (i==0,g',c.x i))}) y A ?_ _ rfl;refine h.laid y h.mem h.hold ?_ h.Zi h.Yg ?_ ?_ ⟨g',?_,.inl rfl⟩ (λj R=>⟨rfl,upd_ne _ _ R⟩) (.inr λj s o _ a b=>⟨o,a,b⟩)
 .refine h.ZA.ext h.hold i ofEvents_g (λd l=>?_) (λd l a F=>?_) (λd l b m=>?_) (λj=>?_)
  .rw[u d l];have:=h.low D (.inl rfl);cases wr<;>exact this
  .rw[u d l] at F;cases wr<;>cases F
  .rw[u d l] at m;refine⟨s,o,s,r,D,.inl rfl,?_⟩;cases wr<;>simp[MemAct.touch?] at m<;>subst m<;>exact⟨rfl,.inr ⟨rfl,h.Zi.par i s n p B C⟩⟩
  .by_cases e:j=i
   .subst e;rw[Deaf_own,h.ZA.hears];cases wr<;>rfl
   .rw[Deaf_other t (YZ e) _ ofEvents_g,h.ZA.hears]
 .exact h.Yo.app M ofEvents_g (λH=>by rw[O] at H;cases H) (λ_ _ _ x=>x) (λ_ _ _ _ x=>x)
 .refine h.WS.app h.ZA.low (λd l b m=>?_) (λj b v hv=>.inl ⟨v,hv⟩) (λs o' A=>⟨o',A,rfl⟩) (λj s k S g e=>⟨k,S,g,e⟩);rw[u d l] at m;cases wr<;>cases m
 .show Vo P Q (upd c.T i (f (i==0,g',c.x i)) i) _ _ _;rw[upd_same];exact N
theorem Inv.quits (h:Inv P Q ZF c gs w t) (p:gs[i]?=some g) (D:FO P (i==0) (Uk P Q f) g (c.x i)):Wl P Q ZF c gs w t i f:=by
 obtain⟨E,K,L,M,g',es,A,r,F⟩:=D;have H:i<gs.size:=TV p;have nt:∀d∈MemOp.ofEvents i g.frame.fn g.frame.place es,d.act.touch?=none:=λd l=>by
  obtain⟨e,u,rfl⟩:=Go.Conc.mem_ofEvents l;exact touch_mute (A e u)
 have y:∀d∈MemOp.ofEvents i g.frame.fn g.frame.place es,d.act=.mark .disable\/d.act=.mark .enable:=λd l=>by
  obtain⟨⟨I,wr,N⟩,u,rfl⟩:=Go.Conc.mem_ofEvents l;have:=A _ u;cases I<;>simp[Event.mute] at this;rename_i m;cases m<;>simp_all [MemAct.ofEvent]
 refine Wl.go (c':={c with deaf:=upd c.deaf i (deafBehind (c.deaf i) es),T:=upd c.T i (f (i==0,g',{c.x i with deaf:=deafBehind (c.x i).deaf es}))}) p (by rw[E];exact r w) ?_ _ rfl;refine h.laid p h.mem h.hold ?_ h.Zi h.Yg ?_ ?_ ⟨g',?_,.inl rfl⟩ (λj B=>⟨by simp[YS.x,upd_ne _ _ B],upd_ne _ _ B⟩) (.inr λj s o _ a b=>⟨o,a,b⟩)
 .refine h.ZA.ext h.hold i ofEvents_g (λd l=>?_) (λd l a C=>?_) (λd l b n=>?_) (λj=>?_)
  .rcases y d l with e|e<;>rw[e]<;>trivial
  .rcases y d l with e|e<;>rw[e] at C<;>cases C
  .rw[nt d l] at n;cases n
  .by_cases e:j=i
   .subst e;rw[Deaf_own,h.ZA.hears];exact(upd_same ..).symm
   .rw[Deaf_other t (YZ e) _ ofEvents_g,h.ZA.hears];exact(upd_ne _ _ e).symm
 .exact h.Yo.app H ofEvents_g (λ_=>NJ nt) (λ_ _ _ x=>x) (λ_ _ _ _ x=>x)
 .refine h.WS.app h.ZA.low (λd l b n=>?_) (λj b v hv=>.inl ⟨v,hv⟩) (λs o' r=>⟨o',r,rfl⟩) (λj s k J g e=>⟨k,J,g,e⟩);rcases y d l with e|e<;>rw[e] at n<;>cases n
 .have e:({c with deaf:=upd c.deaf i (deafBehind (c.deaf i) es),T:=upd c.T i (f (i==0,g',{c.x i with deaf:=deafBehind (c.x i).deaf es}))}:YS).x i={c.x i with deaf:=deafBehind (c.x i).deaf es}:=by
   simp[YS.x,upd_same]
  rw[e];show Vo P Q (upd c.T i (f (i==0,g',{c.x i with deaf:=deafBehind (c.x i).deaf es})) i) _ _ _;rw[upd_same];exact F
end
end Go.TL
namespace Go.TL
open Go.Conc
open Go.ConcM (OsLater)
open Go.ConcN (sumTo upd sumTo_upd upd_ne upd_same sumTo_congr le_sumTo)
section
variable {P:Program} {Q:Value->Prop} {ZF:World} {c c':YS} {gs:Array Goroutine} {w w':World} {t:Trace} {i:Nat} {g g':Goroutine} {es:Array Event}
variable {f:Bool×Goroutine×Z4->Xh (Bool×Goroutine×Z4)}
theorem AI {o o':η} {t t':Tok} (h:Act o t o' t'):(∀q p,t'≠.par q p .ZY)/\(∀q p,t≠.par q p .ZY)/\∀k L g,t=.ch k (.YK L) g->∃g',t'=.ch k (.YK L) g':=by
 cases h<;>refine⟨λq p e=>?_,λq p e=>?_,λk L g e=>?_⟩<;>cases e
 all_goals exact⟨_,rfl⟩
theorem FF {B:Type} (p:B->Bool) {y:B} (b:p y=false):∀(l:List B) (k:Nat) (x:B),l[k]?=some x->p x=true->((l.set k y).filter p).length<(l.filter p).length
 | [],k,x,h,_=>by simp at h
 | z::l,0,x,h,a=>by
  simp at h;subst h;simp[List.set,a,b]
 | z::l,k+1,x,h,a=>by
  have:=FF p b l k x (by simpa using h) a;simp only[List.set,K6];split<;>simpa using this
theorem AH {k:Nat} (a:gs[k]?=some g) (b:g.status=.running) (c:g'.status≠.running):NL (gs.setIfInBounds k g')<NL gs:=by
 unfold NL;rw[Array.toList_setIfInBounds];exact FF (λg:Goroutine=>decide (g.status=.running)) (by simp[c]) _ k g (by rw[<-a];simp) (by simp[b])
theorem Inv.atom (h:Inv P Q ZF c gs w t) (D:gs[i]?=some g) (aj:VT g) (av:Vo P Q (c.T i) (i==0) g (c.x i)) (aw:Atom P (i==0) (Uk P Q f) g (c.x i)):Wl P Q ZF c gs w t i f:=by
 obtain⟨s,sp,ax,ay,az⟩:=aw;have V:i<gs.size:=TV D;obtain⟨o,d,W⟩:=h.Zi.Q8 i s sp ax;have aA:∀b,Yj s sp b->b<w.heap.size:=λb l=>h.low d (by rw[W];exact l);have aB:¬Xn (c.tok i s):=ay;have aC:c.tok i s≠.nil:=λe=>aB (by rw[e];trivial);have ak:∀{w':World} {es:Array Event} {k:Nat},Xy (λb _=>Yj s sp b) (λ_=>False) w w'->Sr s sp (c.x i).deaf es->VS c.H c.γ c.tok c.O c.Zx c.deaf w'.heap.size (t++MemOp.ofEvents i g.frame.fn g.frame.place es):=λ{w' es k} K n=>by
  refine VS.grow ?_ K.size;refine h.ZA.ext h.hold i ofEvents_g (λM F=>?_) (λM F a al=>?_) (λM F b l=>?_) (λj=>?_)
  .rcases KN n F with(e|e)|⟨b,X,wr,e,l⟩
   .rw[e];trivial
   .rw[e];trivial
   .rw[e];exact aA b l
  .rcases KN n F with(e|e)|⟨b,X,wr,e,l⟩<;>rw[e] at al<;>cases al
  .rcases KN n F with(e|e)|⟨I,X,wr,e,am⟩
   .rw[e] at l;cases l
   .rw[e] at l;cases l
   .rw[e] at l;simp[MemAct.touch?] at l;subst l;exact⟨s,o,I,X,d,by rw[W];exact am,rfl,.inl rfl⟩
  .by_cases e:j=i
   .subst e;rw[Deaf_own,h.ZA.hears];exact n.1
   .rw[Deaf_other t (YZ e) _ ofEvents_g,h.ZA.hears]
 have an:∀{es:Array Event},Sr s sp (c.x i).deaf es->∀M∈MemOp.ofEvents i g.frame.fn g.frame.place es,∀b,M.act≠.mark (.releaseMerge ⟨b,0,none⟩):=λn M F b l=>by
  rcases KN n F with(e|e)|⟨I,X,wr,e,am⟩<;>rw[e] at l<;>cases l
 have ao:∀{es:Array Event},Sr s sp (c.x i).deaf es->∀k,t.size<=k->¬(t++MemOp.ofEvents i g.frame.fn g.frame.place es).counts k:=λn=>AL (s:=s) (sp:=sp) (by rw[h.ZA.hears];exact n);rcases az w (Yc gs.size o (λj=>c.tok j s)) o (h.mem.fit (.inl i)) (h.mem.TX i) W (h.mem.Xv s o d) (λaD aE hv=>by
   obtain⟨aW,ap,Φ,aF⟩:=h.Zi.OI i s aD aE hv;rw[d] at ap;cases ap;exact⟨Φ,aF⟩) ⟨gs.size,λj=>c.tok j s,i,h.Zi.Z9 s o d,V,rfl,λk L g e=>h.Zi.YK i s k L g o d e⟩ with Y|⟨aG,aH,E⟩
 .cases E:stepG P (i==0) g w with
  | go g' w' es=>
   rw[E] at Y;obtain⟨aI,K,n,aJ⟩:=Y;have aq:Xy (λb _=>Yj s o.toSpec b) (λ_=>False) w w':=by rw[W];exact K
   rcases aJ with⟨ab,ad⟩|⟨o',t',R,ab,aK,ad⟩
   .refine Wl.go (c':={c with view:=upd c.view i (upd (c.view i) s (some (Yc gs.size o (λj=>c.tok j s),o))),T:=upd c.T i (f (i==0,g',{c.x i with view:=upd (c.view i) s (some (Yc gs.size o (λj=>c.tok j s),o))}))}) D E ?_ _ rfl;refine h.laid D ((h.mem.atom h.hold rfl d rfl aq ab).Mm (KO d).symm) h.hold (ak (k:=0) K n) (h.Zi.look d) h.Yg
     (h.Yo.app V ofEvents_g (λ_=>ao n) (λ_ _ _ x=>x) (λ_ _ _ _ x=>x))
     (h.WS.app h.ZA.low (an n) (λj b v hv=>.inl ⟨v,hv⟩) (λs o' E=>⟨o',E,rfl⟩) (λj s k Z g e=>⟨k,Z,g,e⟩))
     ⟨g',?_,.inl rfl⟩ (λj A=>⟨by simp[YS.x,upd_ne _ _ A],upd_ne _ _ A⟩) (.inr λj s o _ a b=>⟨o,a,b⟩)
    have e:({c with view:=upd c.view i (upd (c.view i) s (some (Yc gs.size o (λj=>c.tok j s),o))),T:=upd c.T i (f (i==0,g',{c.x i with view:=upd (c.view i) s (some (Yc gs.size o (λj=>c.tok j s),o))}))}:YS).x i={c.x i with view:=upd (c.view i) s (some (Yc gs.size o (λj=>c.tok j s),o))}:=by
     simp[YS.x,upd_same]
    rw[e];show Vo P Q (upd c.T i (f (i==0,g',{c.x i with view:=upd (c.view i) s (some (Yc gs.size o (λj=>c.tok j s),o))})) i) _ _ _;rw[upd_same];exact ad
   .have aL:=F1 (N:=gs.size) (τ:=λj=>c.tok j s) V rfl R
    have aM:=ad _ aL;obtain⟨ae,aN,aO⟩:=FL R;obtain⟨aP,aQ,aR⟩:=AI R;have ar:=TW.upd d ae;have aa:∀j r q p,Zw c.tok i s t' j r=.par q p .ZY↔c.tok j r=.par q p .ZY:=λj r q p=>by
     by_cases e:j=i/\r=s
     .obtain⟨rfl,rfl⟩:=e;rw[XO];exact⟨λx=>absurd x (aP q p),λx=>absurd x (aQ q p)⟩
     .rw[XU _ e]
    have aS:∀j r k L g,c.tok j r=.ch k (.YK L) g->∃g',Zw c.tok i s t' j r=.ch k (.YK L) g':=λj r k L g A=>by
     by_cases e:j=i/\r=s
     .obtain⟨rfl,rfl⟩:=e;rw[XO];exact aR k L g A
     .rw[XU _ e];exact⟨g,A⟩
    have keepW:o'=o->∀j r q,j≠i->c.O r=some q->U7 q (c.tok j r)->∃au,upd c.O s (some o') r=some au/\U7 au (c.tok j r):=λaf j r q _ a b=>⟨q,by
     by_cases e:r=s
     .subst e;subst af;rw[d] at a;cases a;exact upd_same _ _ _
     .rw[upd_ne _ _ e];exact a,b⟩
    have ag:∀r q,upd c.O s (some o') r=some q->∃B,c.O r=some B/\B.toSpec=q.toSpec/\B.L=q.L/\B.YP=q.YP:=λr q C=>by
     by_cases e:r=s
     .subst e;rw[upd_same] at C;cases C;exact⟨o,d,ae.symm,aN.symm,aO.symm⟩
     .rw[upd_ne _ _ e] at C;exact⟨q,C,rfl,rfl,rfl⟩
    let S:Z4:={c.x i with tok:=upd (c.tok i) s t',view:=upd (c.view i) s (some (Yc gs.size o' (upd (λj=>c.tok j s) i t'),o'))};refine Wl.go (c':={c with tok:=Zw c.tok i s t',view:=upd c.view i (upd (c.view i) s (some (Yc gs.size o' (upd (λj=>c.tok j s) i t'),o'))),O:=upd c.O s (some o'),T:=upd c.T i (f (i==0,g',S))}) D E ?_ _ rfl;refine h.laid D (h.mem.atom h.hold rfl d ae aq ab) (h.hold.Tp ar) ((ak (k:=0) K n).AR ar λj r A e=>?_) (h.Zi.act d rfl R) ⟨λr q m C ah ai aT=>?_,λr q C ai=>?_⟩
     (h.Yo.app V ofEvents_g (λ_=>ao n) (λs q p ⟨j,x⟩=>⟨j,(aa j s q p).1 x⟩) (λj s q p x=>(aa j s q p).1 x))
     (h.WS.app h.ZA.low (an n) (λj b v hv=>.inl ⟨v,hv⟩) (λr q C=>let ⟨B,a,b,_⟩:=ag r q C;⟨B,a,by rw[b]⟩) (λj r k Z g e=>?_))
     ⟨g',?_,.inl rfl⟩ (λj A=>⟨by simp[YS.x,upd_ne _ _ A,Qn _ A],upd_ne _ _ A⟩) (aK.imp (λah=>⟨ah,aI⟩) λaf=>keepW af)
    .by_cases U:j=i/\r=s
     .obtain⟨rfl,rfl⟩:=U;exact aC e
     .apply A;show Zw c.tok i s t' j r=.nil;rw[XU _ U];exact e
    .obtain⟨B,a,b,I,_⟩:=ag r q C;have:=h.Yg.RH r B m a (by rw[b];exact ah) (λj q p x=>ai j q p ((aa j r q p).2 x)) (λj k L g x=>let ⟨g',y⟩:=aS j r k L g x;aT j k L g' y);rw[b,I] at this;exact this
    .obtain⟨B,a,b,_,I⟩:=ag r q C;have:=h.Yg.Sk r B a (λj q p x=>ai j q p ((aa j r q p).2 x));rw[b,I] at this;exact this
    .by_cases U:j=i/\r=s
     .obtain⟨rfl,rfl⟩:=U;obtain⟨aU,aV,y,_⟩:=(FK R).2.1 k Z g e;exact⟨k,aU,aV,by show Zw c.tok j r t' j r=_;rw[XO];exact y⟩
     .exact⟨k,Z,g,by show Zw c.tok i s t' j r=_;rw[XU _ U];exact e⟩
    .have e:({c with tok:=Zw c.tok i s t',view:=upd c.view i (upd (c.view i) s (some (Yc gs.size o' (upd (λj=>c.tok j s) i t'),o'))),O:=upd c.O s (some o'),T:=upd c.T i (f (i==0,g',S))}:YS).x i=S:=by
      simp[S,YS.x,upd_same,OB]
     rw[e];show Vo P Q (upd c.T i (f (i==0,g',S)) i) _ _ _;rw[upd_same];exact aM
  | _=>rw[E] at Y;exact Y.elim
 .refine λsl=>⟨c,_,w,_,runT_crowd_go D E,?_,.inr (.inr ⟨J,rfl,?_⟩)⟩
  .rw[FG,OW];have:=h.laid (c':=c) (u:=#[]) D (g':={g with status:=.blocked}) h.mem h.hold (by rw[OW];exact h.ZA) h.Zi h.Yg (by rw[OW];exact h.Yo) (by rw[OW];exact h.WS) ⟨g,av,.inr ⟨aj,rfl,s,o,d,aG,aH⟩⟩ (λj A=>⟨rfl,rfl⟩) (.inr λj s o _ a b=>⟨o,a,b⟩)
   rwa [OW] at this
  .have e:gs.map (woken P g {g with status:=.blocked} w)=gs:=by
    have:woken P g {g with status:=.blocked} w=id:=by
     funext b;simp[woken]
    rw[this];simp
   rw[e];exact AH D aj.1 J
end
end Go.TL
