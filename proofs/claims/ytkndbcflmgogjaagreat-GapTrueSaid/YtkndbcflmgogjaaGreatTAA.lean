import Derived.Conc.Beside
import Derived.Conc.CrowdBase
import Derived.Conc.MuSpec
import GoSem.Core.World
set_option linter.defProp false
set_option maxHeartbeats 16000000
set_option maxRecDepth 20000
set_option linter.unusedSectionVars false
set_option linter.unusedSimpArgs false
set_option linter.unusedVariables false
namespace Go.TL
abbrev ZP:=Array Value
abbrev Z6:=List Nat
abbrev Zk:=List Item
abbrev ψ:=List Int
abbrev YM:=List Frame
abbrev Y5:=Array Oper
abbrev Wm:=Int×Int
def U{b:Sort _}{a:b}:a=a:=rfl
abbrev Γ:=@Nat.zero_le
abbrev Z3:=@Nat.le_refl
abbrev ZG:=@List.mem_map
abbrev YW:=@List.getElem_mem
abbrev YK:=@List.getElem?_map
abbrev XA:=@List.getD_eq_getElem?_getD
abbrev Ws:=@List.take_succ_eq_append_getElem
abbrev YU:=@List.mem_cons
abbrev Xz:=@List.getElem?_set_self
abbrev XJ:=@List.getElem?_set_ne
abbrev Xf:=@Array.getElem?_toList
abbrev XW:=@List.not_mem_nil
abbrev Vv:=@Array.getD_eq_getD_getElem?
abbrev Wl:=@List.take_of_length_le
abbrev Ut:=@Array.getElem?_setIfInBounds_ne
abbrev SL:=@Array.getElem?_setIfInBounds_self_of_lt
abbrev Wk:=@List.getElem?_eq_none
abbrev Xk:=@List.all_eq_true
abbrev Xq:=@Option.some.inj
abbrev Vh:=@Array.size_setIfInBounds
abbrev UK:=@List.getElem?_take_of_lt
abbrev YX:=@Ne.symm
abbrev WT:=@List.map_append
abbrev WS:=@List.length_map
abbrev VH:=@List.length_append
abbrev WY:=@List.map_cons
abbrev Tn:=@Classical.byContradiction
abbrev Tm:=@List.pairwise_iff_getElem
abbrev Vg:=@Bool.false_eq_true
abbrev T7:=@Option.map_eq_some_iff
abbrev Vf:=@List.getElem?_drop
abbrev VS:=@List.mem_append
abbrev Sd:=@Array.getElem?_eq_some_iff
abbrev WL:=@Nat.le_trans
abbrev U2:=@Bool.and_eq_true
abbrev VR:=@List.mem_range
abbrev Us:=@List.mem_singleton
abbrev X3:=@Eq.trans
abbrev Tl:=@List.getElem?_of_mem
abbrev Tk:=@Nat.mul_le_mul_right
abbrev WB:=@Nat.add_mul
abbrev T6:=@List.ext_getElem?
abbrev SK:=@List.mem_cons_of_mem
abbrev T5:=@List.length_take
abbrev Ur:=@List.range_succ
abbrev Vu:=@Nat.zero_add
abbrev OI:=@Array.eq_empty_of_size_eq_zero
abbrev SJ:=@List.mem_cons_self
abbrev UJ:=@Nat.add_assoc
abbrev Tj:=@List.isEmpty_iff
abbrev Ti:=@List.any_eq_true
abbrev TM:=@List.append_nil
abbrev TK:=@List.mem_filter
abbrev SI:=@List.foldl_append
abbrev Pw:=@List.drop_eq_getElem_cons
abbrev UI:=@Nat.succ_pos
abbrev Sc:=@List.append_assoc
abbrev Q4:=@List.getElem?_take
abbrev Qg:=@List.getElem_of_mem
abbrev OH:=@List.drop_eq_nil_of_le
abbrev Q3:=@Array.mem_append
abbrev Tg:=@Nat.lt_trans
abbrev Q2:=@List.nodup_cons
abbrev Qf:=@Nat.lt_succ_self
abbrev SH:=@Nat.mul_one
abbrev RO:=@Nat.le_of_lt
abbrev Lr:=@Array.getElem?_append_left
abbrev Pv:=@Bool.eq_iff_iff
abbrev NQ:=@Array.getElem?_map
abbrev NP:=@Array.append_empty
abbrev OG:=@List.take_length
abbrev MU:=@List.mem_of_mem_take
abbrev OF:=@Nat.zero_lt_one
abbrev MT:=@List.length_pos_iff
abbrev Lq:=@Array.getElem?_eq_none
abbrev Ir:=@List.pairwise_iff_forall_sublist
abbrev MS:=@Array.append_assoc
abbrev Lp:=@List.pairwise_append
abbrev Lo:=@Array.getElem?_push
abbrev Ln:=@List.mergeSort_perm
abbrev MR:=@List.filter_cons
abbrev MQ:=@List.mem_flatMap
abbrev Lm:=@Array.ext_getElem?
abbrev Iq:=@Array.getElem?_append_right
abbrev OE:=@List.map_nil
abbrev Ll:=@Nat.lt_of_le_of_lt
abbrev Ka:=@Array.getElem?_modify
abbrev J':=@List.length_filter_le
abbrev J9:=@List.set_append_right
abbrev Lk:=@List.pairwise_map
abbrev MP:=@Array.mem_push
abbrev NO:=@Nat.add_comm
abbrev Ip:=@Array.getElem?_replicate
abbrev Io:=@List.Perm.eq_of_pairwise
abbrev Im:=@List.length_filterMap_le
abbrev J8:=@List.flatMap_append
abbrev Il:=@List.pairwise_mergeSort
abbrev E7:=@Int.mul_le_mul_of_nonneg_right
abbrev J7:=@Nat.lt_of_lt_of_le
abbrev Lj:=@List.length_set
abbrev Ik:=@Array.mem_iff_getElem?
abbrev J6:=@List.nodup_append
abbrev J5:=@List.flatMap_cons
abbrev MO:=@Nat.lt_or_ge
abbrev MN:=@Nat.zero_mul
abbrev Li:=@List.map_map
abbrev Ij:=@ByteArray.size_append
abbrev NN:=@Array.ext'
abbrev Ii:=@List.length_eraseIdx
abbrev E6:=@Int.tdiv_eq_ediv_of_nonneg
abbrev Ih:=@List.map_congr_left
abbrev Ig:=@List.getElem?_range
abbrev Ie:=@List.filter_filter
abbrev E5:=@List.eq_of_mem_replicate
abbrev Ic:=@Array.all_eq_true'
abbrev Lh:=@List.map_set
abbrev MM:=@Int.not_lt
abbrev E4:=@List.getElem?_replicate
abbrev Ib:=@Option.some.injEq
abbrev Ia:=@Array.size_append
abbrev H9:=@List.length_range
abbrev H8:=@Bool.eq_false_iff
abbrev E3:=@List.length_eq_one_iff
abbrev E2:=@ByteArray.append_assoc
abbrev J4:=@List.map_take
abbrev H7:=@List.nodup_range
abbrev NM:=@Prod.ext
abbrev Lg:=@Nat.mod_lt
abbrev J3:=@Int.le_trans
def ξ{a : Type _}{l : List a}{i : Nat}(h : i < l.length) : l[i]? = some l[i] := List.getElem?_eq_getElem h
def ZT{b : Type _}{l : List b}{i : Nat}{a : b} : l[i]? = some a ↔ ∃ h : i < l.length, l[i] = a := List.getElem?_eq_some_iff
def ZD{b : Type _}{l : List b}{i : Nat}{a : b}(e : l[i]? = some a) : a ∈ l := List.mem_of_getElem? e
def YY{a : Type _}{l : List a} : l.length = 0 ↔ l = [] := List.length_eq_zero_iff
def YT{a : Type _}{l₁ l₂ : List a}{i : Nat}(b : i < l₁.length) : (l₁ ++ l₂)[i]? = l₁[i]? := List.getElem?_append_left b
def W5{a : Type _}{l₁ l₂ : List a}{i : Nat}(h : l₁.length <= i) : (l₁ ++ l₂)[i]? = l₂[i - l₁.length]? := List.getElem?_append_right h
def XV{a : Type _}{xs : Array a}{i : Nat}(h : i < xs.size) : xs[i]? = some xs[i] := Array.getElem?_eq_getElem h
def J{p:Prop}(h:p:=by omega):p:=h
def UH{p:Prop}(h:p:=by(try simp only);omega):p:=h
def o{p:Prop}(h:p:=by simp):p:=h
def θ{p:Prop}(h:p:=by decide):p:=h
def V6{b:Sort _}(a:b):∃x,a=x:=⟨a,rfl⟩
def ν{b:Sort _}(a:b):∃x,x=a:=⟨a,rfl⟩
def Obj.OD:Obj->Bool
 | .cells ..=>true
 | _=>false
structure Φ where
 Α:Nat->Nat->Option (Value×Bool)
 row:Nat->Option (TypeId×Nat)
 obj:Nat->Option Obj
def Φ.empty:Φ:=⟨λ_ _=>none,λ_=>none,λ_=>none⟩
end Go.TL
namespace Go.TL
open Go.Conc
open Go.ConcM (OsLater)
structure Fits(G:Φ)(w:World):Prop where
 Α:∀b a v p,G.Α b a=some (v,p)->w.cell? ⟨b,a,none⟩=some v
 row:∀b t n,G.row b=some (t,n)->∃c d,w.heap[b]?=some (.cells c t d)/\c.size=n
 obj:∀b x,G.obj b=some x->w.heap[b]?=some x/\Obj.OD x=false
 thaw:∀b a v,G.Α b a=some (v,true)->w.frozen? ⟨b,a,none⟩=false
def Φ.owns(G:Φ)(b a:Nat):Prop:=∃v,G.Α b a=some (v,true)
def Φ.has(G:Φ)(b a:Nat):Prop:=∃x,G.Α b a=some x
def Φ.Xy(G:Φ)(b:Nat):Prop:=∃x,G.obj b=some x
structure Apart(G H:Φ):Prop where
 Α:∀b a,G.owns b a->¬H.has b a
 Qe:∀b a,H.owns b a->¬G.has b a
 obj:∀b,G.Xy b->¬H.Xy b
def Φ.off(G:Φ)(b:Nat):Prop:=(∀a,¬G.has b a)/\¬G.Xy b
structure Xe(own:Nat->Nat->Prop)(f:Nat->Prop)(w w':World):Prop where
 size:w.heap.size<=w'.heap.size
 cells:∀b c t d,w.heap[b]?=some (.cells c t d)->∃c' e,w'.heap[b]?=some (.cells c' t e)/\c'.size=c.size/\(∀a,¬own b a->c'[a]?=c[a]?)/\(e=d\/(∃a,own b a)/\∀a,a<c.size->own b a)
 SG:∀b x,w.heap[b]?=some x->Obj.OD x=false->¬f b->w'.heap[b]?=some x
 os:OsLater w.os w'.os
 output:w'.output=w.output
 tape:w'.tape=w.tape
def XP{w:World}{b:Nat}{x:Obj}(h:w.heap[b]?=some x):b<w.heap.size:=by
 rcases MO b w.heap.size with a|a
 .exact a
 rw[Lq a]at h;cases h
def SF{w:World}{b a:Nat}{v:Value}(h:w.cell? ⟨b,a,none⟩=some v):∃c t e,w.heap[b]?=some (.cells c t e)/\c[a]?=some v:=by
 unfold World.cell? at h;cases d:w.heap[b]? with
 | none=>simp[d]at h
 | some x=>
  cases x<;>simp[d]at h;exact⟨_,_,_,U,h⟩
def SE{w:World}{b a:Nat}{v:Value}{c:ZP}{t:TypeId}{d:Nat×Nat}(h:w.heap[b]?=some (.cells c t d))(hv:c[a]?=some v):w.cell? ⟨b,a,none⟩=some v:=by
 simp[World.cell?,h,hv]
def Xe.refl(own:Nat->Nat->Prop)(a:Nat->Prop)(w:World):Xe own a w w:=
 ⟨Z3 _,λb c t d h=>⟨c,d,h,U,λ_ _=>rfl,.inl U⟩,λ_ _ h _ _=>h,OsLater.refl _,U,U⟩
def Fits.keeps{own:Nat->Nat->Prop}{j:Nat->Prop}{w w':World}{H:Φ}(e:Fits H w)(g:Xe own j w w')(k:∀b a,own b a->¬H.has b a)(m:∀b,j b->¬H.Xy b):Fits H w':=by
 refine⟨λb a v p h=>?_,λb t n h=>?_,λb x h=>?_,λb a v h=>?_⟩
 .obtain⟨c,t,i,d,hv⟩:=SF (e.Α b a v p h);obtain⟨c',f',f,_,o,_⟩:=g.cells b c t i d;exact SE f (by rw[o a λx=>k b a x ⟨_,h⟩];exact hv)
 .obtain⟨c,i,d,r⟩:=e.row b t n h;obtain⟨c',f',f,s,_⟩:=g.cells b c t _ d;exact⟨c',f',f,by rw[s,r]⟩
 .obtain⟨d,l⟩:=e.obj b x h;exact⟨g.SG b x d l λy=>m b y ⟨_,h⟩,l⟩
 have u:=e.thaw b a v h;obtain⟨c,t,i,d,hv⟩:=SF (e.Α b a v true h);obtain⟨c',f',f,_,_,rfl|⟨_,A⟩⟩:=g.cells b c t i d
 .simpa[World.frozen?,d,f] using u
 exact absurd ⟨_,h⟩ (k b a (A a (Sd.1 hv).1))
def Fits.at{H:Φ}{w:World}(h:Fits H w)(d:Nat):Fits H (w.at d):=⟨h.Α,h.row,h.obj,h.thaw⟩
structure Yy(t:Trace)(c:Nat->Prop)(G:Φ):Prop where
 Α:∀b d v p,G.Α b d=some (v,p)->∀i a,touchAt t i=some a->a.loc=.cell ⟨b,d,none⟩->(p=true\/a.write=true)->c i
 obj:∀b,G.Xy b->∀i a,touchAt t i=some a->a.loc=.obj b->c i
def Yy.mono{t:Trace}{e f:Nat->Prop}{G:Φ}(h:Yy t e G)(g:∀i,e i->f i):Yy t f G:=
 ⟨λb j v p k i a c d l=>g i (h.Α b j v p k i a c d l),λb m i a c d=>g i (h.obj b m i a c d)⟩
def RN(l:Loc)(b:Nat):Prop:=
 match l with
 | .cell a=>a.block=b
 | .obj r=>r=b
 | _=>False
def V5(G:Φ)(n b:Nat)(e:Event):Prop:=
 match e.loc with
 | .cell a=>(n<=a.block/\a.block<b)\/(a.spot=none/\(if e.write then G.owns a.block a.off else G.has a.block a.off))
 | .obj r=>e.sync=false/\((n<=r/\r<b)\/G.Xy r)
 | .output=>True
 | .goroutines=>False
 | .mark m=>m=.noRoom\/(∃f,m=.extern f)\/∃a:Addr,(m=.acquire a\/m=.releaseMerge a)/\a.spot=none/\G.owns a.block a.off
def Sb{t u:Trace}{i:Nat}{a:Touch}(h:touchAt (t++u) i=some a):touchAt t i=some a\/(t.size<=i/\∃b∈u,(t++u)[i]?=some b/\b.act.touch?=some a):=by
 obtain⟨x,c,d⟩:=touch_of h;rcases getElem?_append_cases c with⟨_,e⟩|⟨f,g⟩
 .exact .inl (by rw[touchAt_of e];exact d)
 exact .inr ⟨f,x,g,c,d⟩
def Yy.own{t u:Trace}{i:Nat}{G:Φ}(h:Yy t (Knows t i) G)(m:∀c∈u,c.g=i):Yy (t++u) (Knows (t++u) i) G:=by
 refine⟨λb n v p o k a d e r=>?_,λb s k a d e=>?_⟩
 .rcases Sb d with f|⟨_,c,j,l,_⟩
  .exact(h.Α b n v p o k a f e r).app u
  have:=knows_own l;rwa [m c j]at this
 rcases Sb d with f|⟨_,c,j,l,_⟩
 .exact(h.obj b s k a f e).app u
 have:=knows_own l;rwa [m c j]at this
def Yy.others{t u:Trace}{m n:Nat->Prop}{G:Φ}(h:Yy t m G)(o:∀i,m i->n i)
  (r:∀c∈u,∀a,c.act.touch?=some a->(∀b d v p,a.loc=.cell ⟨b,d,none⟩->G.Α b d=some (v,p)->p=false/\a.write=false)/\∀b,a.loc=.obj b->¬G.Xy b):Yy (t++u) n G:=by
 refine⟨λb d v p s k a f e hw=>?_,λb w k a f e=>?_⟩
 .rcases Sb f with g|⟨_,c,j,_,l⟩
  .exact o _ (h.Α b d v p s k a g e hw)
  have:=((r c j a l).1 b d v p e s);rcases hw with hw|hw
  .rw[this.1]at hw;cases hw
  rw[this.2]at hw;cases hw
 rcases Sb f with g|⟨_,c,j,_,l⟩
 .exact o _ (h.obj b w k a g e)
 exact absurd w ((r c j a l).2 b e)
end Go.TL
namespace Go.TL
open Go.Conc
open Go.ConcN (sumTo upd sumTo_upd upd_ne upd_same sumTo_congr le_sumTo)
inductive Tf where
 | idle|act (a:Bool)|q|wk|hw|own|YG (L:Z6)|fin|uc|us|done
inductive ML where
 | work|rel|l2|Qd|gone
inductive Lf where
 | add|w3|w4|RL|Zg
inductive Tok where
 | nil
 | par (n pend:Nat) (a:Lf)
 | ch (k:Nat) (b:Tf) (c:ML)
structure Spec where
 ZR:Option Nat
 Yd:Z6->Φ->Prop
 D:Nat->Φ->Prop
 top:Nat
structure Z5 extends Spec where
 YZ:Nat
 wk:Nat
 sv:Nat
 nw:Nat
 Yr:Nat
 L:Z6
 cnt:Nat
 wt:Nat
 YP:Nat
 R:Z6
def J2:Tf->Nat|.own|.YG _|.fin=>1|_=>0
def Vt:Tok->Nat|.ch _ m _=>J2 m|_=>0
def H6:Tf->Nat|.us|.wk|.hw=>1|_=>0
def RK:Tok->Nat|.ch _ m _=>H6 m|_=>0
def MK:Tf->Nat|.act true=>1|_=>0
def SD:Tok->Nat|.ch _ m _=>MK m|_=>0
def J1:Tf->Nat|.q=>1|_=>0
def Te:Tok->Nat|.ch _ m _=>J1 m|_=>0
def H5:Tf->Nat|.hw=>1|_=>0
def Sa:Tok->Nat|.ch _ m _=>H5 m|_=>0
def E1:Tf->Nat|.wk=>1|_=>0
def Pu:Tok->Nat|.ch _ m _=>E1 m|_=>0
def J0:Tf->Nat|.wk|.hw=>1|_=>0
def Td:Tok->Nat|.ch _ m _=>J0 m|_=>0
def E0:Tf->Nat|.us=>1|_=>0
def Pt:Tok->Nat|.ch _ m _=>E0 m|_=>0
def H4:Tf->Nat|.uc=>1|_=>0
def RJ:Tok->Nat|.ch _ m _=>H4 m|_=>0
def OC:ML->Nat|.work|.rel=>1|_=>0
def U1:Tok->Nat|.ch _ _ g=>OC g|_=>0
def MJ:ML->Nat|.l2=>1|_=>0
def Uq:Tok->Nat|.ch _ _ g=>MJ g|_=>0
def MI:ML->Nat|.Qd=>1|_=>0
def Up:Tok->Nat|.ch _ _ g=>MI g|_=>0
def Tc:Tok->Nat|.ch ..=>1|_=>0
def XO:Tok->Nat|.par ..=>1|_=>0
def V4:Tok->Nat|.par _ p _=>p|_=>0
def Vs:Tok->Nat|.par n _ _=>n|_=>0
def SC:Tok->Nat|.par _ _ .add=>1|_=>0
def Tb:Tok->Nat|.par _ _ .w3=>1|_=>0
def Vr:Tok->Nat|.par _ _ .w4|.par _ _ .RL|.par _ _ .Zg=>1|_=>0
def MH:Tf->Nat
 | .idle=>20|.act false=>19|.act true=>18|.q=>12|.wk=>20|.hw=>19|.own=>14|.YG _=>13|.fin=>12|.uc=>11|.us=>10|.done=>0
def H3:ML->Nat
 | .work=>6|.rel=>5|.l2=>4|.Qd=>3|.gone=>0
def Le:Lf->Nat
 | .add=>8|.w3=>6|.w4=>3|.RL=>3|.Zg=>0
def SB(a:Nat):Tok->Nat
 | .nil=>0
 | .par n p b=>(a-n)*100+p*50+Le b
 | .ch _ m w=>MH m+H3 w
def ZO(N:Nat)(τ:Nat->Tok)(φ:Tok->Nat):Nat:=sumTo N λi=>φ (τ i)
def WK{N i:Nat}(τ:Nat->Tok)(t:Tok)(φ:Tok->Nat)(h:i<N):ZO N (upd τ i t) φ+φ (τ i)=ZO N τ φ+φ t:=sumTo_upd τ t φ h
def Xj{N i:Nat}(τ:Nat->Tok)(φ:Tok->Nat)(h:i<N):φ (τ i)<=ZO N τ φ:=le_sumTo (f:=λi=>φ (τ i)) h
def XZ(N:Nat)(a:Z5)(τ:Nat->Tok):Nat:=ZO N τ (SB a.top)+9*a.Yr+2*a.YP
structure wS(a b c d e l f h i j g k m n:Nat):Prop where
 f1:a<=1
 f2:b<=1
 f3:c<=1
 Ce:l=a
 jN:c=0->f+e+h=b/\j=0/\d+k+e=i
 jM:c=1->b=0/\h=0/\a+f+e=1/\d=i+g
 jL:c=0->a=0->0<d->b=0->0<m
 jK:k+g=f
 jJ:j+n=g
structure wR(cnt wt a e f l2 b g h pend n add c d:Nat):Prop where
 f4:wt<=1
 RI:h=1
 EZ:cnt=pend+f
 Cd:g+pend=n
 jI:n<=e
 jH:add=1->wt=0/\a=0/\l2=0/\b=0
 wQ:c=1->pend=0/\((wt=1/\b=0/\a=0/\((cnt=0/\l2=1)\/(0<cnt/\l2=0)))\/(wt=0/\cnt=0/\l2=0/\b+a=1))
 Cc:d=1->pend=0/\wt=0/\a=0/\cnt=0/\l2=0/\b=0
 jG:add+c+d=1
def Qc(N:Nat)(a:Z5)(τ:Nat->Tok):Prop:=
 wS a.YZ a.wk a.sv a.nw a.Yr (ZO N τ Vt) (ZO N τ RK) (ZO N τ SD) (ZO N τ Te) (ZO N τ Sa) (ZO N τ Td) (ZO N τ Pt) (ZO N τ RJ) (ZO N τ Pu)
def Q1(N:Nat)(a:Z5)(τ:Nat->Tok):Prop:=
 wR a.cnt a.wt a.YP a.top (ZO N τ U1) (ZO N τ Uq) (ZO N τ Up) (ZO N τ Tc) (ZO N τ XO) (ZO N τ V4) (ZO N τ Vs) (ZO N τ SC) (ZO N τ Tb) (ZO N τ Vr)
def NL(N:Nat)(a:Z5)(τ:Nat->Tok):Prop:=Qc N a τ/\Q1 N a τ
inductive Act:Z5->Tok->Z5->Tok->Prop where
 | wP {a k}:a.YZ=0->a.sv=0->a.wk=0->a.nw=0->Act a (.ch k .idle .work) {a with YZ:=1} (.ch k .own .work)
 | wO {a k}:Act a (.ch k .idle .work) a (.ch k (.act false) .work)
 | acq {a k b}:a.YZ=0->a.sv=0->Act a (.ch k (.act b) .work) {a with YZ:=1,wk:=if b then 0 else a.wk} (.ch k .own .work)
 | wN {a k}:a.wk=0->0<a.nw->a.YZ=1->a.sv=0->Act a (.ch k (.act false) .work) {a with wk:=1} (.ch k (.act true) .work)
 | queue {a k b} (c:Bool):(a.YZ=1\/a.sv=1)->(c=true->b=true/\a.YZ=1)->Act a (.ch k (.act b) .work) {a with nw:=a.nw+1,wk:=if b then 0 else a.wk,sv:=if c then 1 else a.sv} (.ch k .q .work)
 | take {a k}:0<a.Yr->Act a (.ch k .q .work) {a with Yr:=a.Yr-1} (.ch k .wk .work)
 | norm {a k}:a.sv=0->Act a (.ch k .wk .work) a (.ch k (.act true) .work)
 | hand {a k}:a.sv=1->Act a (.ch k .wk .work) a (.ch k .hw .work)
 | hacq {a k} (d:Bool):Act a (.ch k .hw .work) {a with YZ:=1,nw:=a.nw-1,sv:=if d then 0 else 1} (.ch k .own .work)
 | wM {a k}:a.sv=0->(a.nw=0\/a.wk=1)->Act a (.ch k .fin .work) {a with YZ:=0} (.ch k .done .work)
 | wL {a k}:a.sv=0->0<a.nw->a.wk=0->Act a (.ch k .fin .work) {a with YZ:=0} (.ch k .uc .work)
 | wK {a k}:a.sv=1->Act a (.ch k .fin .work) {a with YZ:=0} (.ch k .us .work)
 | wJ {a k}:a.YZ=0->a.wk=0->a.sv=0->0<a.nw->Act a (.ch k .uc .work) {a with nw:=a.nw-1,wk:=1} (.ch k .us .work)
 | wI {a k}:(a.nw=0\/a.YZ=1\/a.wk=1\/a.sv=1)->Act a (.ch k .uc .work) a (.ch k .done .work)
 | post {a k}:Act a (.ch k .us .work) {a with Yr:=a.Yr+1} (.ch k .done .work)
 | add {a n p}:n<a.top->Act a (.par n p .add) {a with cnt:=a.cnt+1} (.par (n+1) (p+1) .add)
 | thru {a n}:a.cnt=0->Act a (.par n 0 .add) a (.par n 0 .RL)
 | Cb {a n}:0<a.cnt->Act a (.par n 0 .add) {a with wt:=1} (.par n 0 .w3)
 | wake {a n}:0<a.YP->Act a (.par n 0 .w3) {a with YP:=a.YP-1} (.par n 0 .w4)
 | wH {a k m}:a.cnt=1->a.wt=1->Act a (.ch k m .rel) {a with cnt:=a.cnt-1} (.ch k m .l2)
 | wG {a k m}:(1<a.cnt\/a.wt=0)->Act a (.ch k m .rel) {a with cnt:=a.cnt-1} (.ch k m .gone)
 | wF {a k m}:Act a (.ch k m .l2) {a with wt:=0} (.ch k m .Qd)
 | wE {a k m}:Act a (.ch k m .Qd) {a with YP:=a.YP+1} (.ch k m .gone)
inductive Qb:Z5->Tok->Z5->Tok->Prop where
 | EY {a k}:Qb a (.ch k .own .work) a (.ch k (.YG a.L) .work)
 | wD {a k L}:Qb a (.ch k (.YG L) .work) {a with L:=a.L++[k]} (.ch k .fin .work)
 | wC {a k m}:(m=.done\/(m=.idle/\a.ZR=none))->Qb a (.ch k m .work) {a with R:=k::a.R} (.ch k m .rel)
 | gtake {a n b}:(b=.RL\/b=.w4)->Qb a (.par n 0 b) a (.par n 0 .Zg)
section
variable{N i:Nat}{Η o':Z5}{τ:Nat->Tok}{t t':Tok}
def Qa{φ:Tok->Nat}(a:∀t,XO t=0->φ t=0)(h:ZO N τ XO=1)(hi:i<N)(c:XO (τ i)=1):ZO N τ φ=φ (τ i):=by
 have e:=WK τ .nil XO hi
 have d:=WK τ .nil φ hi
 have z:XO .nil=0:=rfl;rw[h,c,z]at e;rw[a .nil U]at d;have f:ZO N (upd τ i .nil) XO=0:=J;have:ZO N (upd τ i .nil) φ=0:=by
  have g:∀n,ZO n (upd τ i .nil) XO=0->ZO n (upd τ i .nil) φ=0:=λn=>by
   induction n with
   | zero=>exact λ_=>rfl
   | succ n b=>
    intro j;simp only[ZO,sumTo]at j b ⊢;have:=b J;have:=a (upd τ i .nil n) J;omega
  exact g N f
 omega
def wB(h:Qc N Η τ)(hi:i<N)(b:τ i=t)(c:Act Η t o' t'):Qc N o' (upd τ i t'):=by
 unfold Qc at h ⊢;have d:=WK τ t' Vt hi;have e:=Xj τ Vt hi;have f:=WK τ t' RK hi;have l1:=Xj τ RK hi;have Υ:=WK τ t' SD hi;have l2:=Xj τ SD hi;have g:=WK τ t' Te hi;have j:=Xj τ Te hi;have k:=WK τ t' Sa hi;have l:=Xj τ Sa hi;have m:=WK τ t' Td hi;have n:=Xj τ Td hi;have o:=WK τ t' Pt hi;have p:=Xj τ Pt hi;have r:=WK τ t' RJ hi;have s:=Xj τ RJ hi;have u:=WK τ t' Pu hi;have v:=Xj τ Pu hi;rw[b]at u v d e f l1 Υ l2 g j k l m n o p r s;generalize ZO N (upd τ i t') Vt=y at *;generalize ZO N τ Vt=A at *;generalize ZO N (upd τ i t') RK=B at *;generalize ZO N τ RK=C at *;generalize ZO N (upd τ i t') SD=E at *;generalize ZO N τ SD=F at *;generalize ZO N (upd τ i t') Te=H at *;generalize ZO N τ Te=I at *;generalize ZO N (upd τ i t') Sa=J at *;generalize ZO N τ Sa=K at *;generalize ZO N (upd τ i t') Td=M at *;generalize ZO N τ Td=O at *;generalize ZO N (upd τ i t') Pt=P at *;generalize ZO N τ Pt=Q at *;generalize ZO N (upd τ i t') RJ=S at *;generalize ZO N τ RJ=T at *;generalize ZO N (upd τ i t') Pu=U at *;generalize ZO N τ Pu=V at *;clear b hi;obtain⟨⟨W,X,D,Y⟩,Z,aa,ab,ad,ae,L,cnt,wt,af,R⟩:=Η;obtain⟨ag,ah,ai,aj,ak,al,am,an,ao⟩:=h;cases c<;>simp only[Vt,RK,SD,Te,Sa,Td,Pt,RJ,Pu,E1,J2,H6,MK,J1,H5,J0,E0,H4,Nat.add_zero,Vu] at *
 case acq a _ _=>cases a<;>simp only[MK,if_true,if_false,Vg] at *<;>constructor<;>omega
 case queue a w _ ap=>
  cases a<;>cases w<;>simp only[MK,if_true,if_false,Vg,false_and,true_and,imp_false,not_true_eq_false,forall_const] at *<;>constructor<;>omega
 case hacq x=>cases x<;>simp only[if_true,if_false,Vg] at *<;>constructor<;>omega
 all_goals (constructor<;>omega)
def wA(h:Q1 N Η τ)(hi:i<N)(a:τ i=t)(c:Act Η t o' t'):Q1 N o' (upd τ i t'):=by
 unfold Q1 at h ⊢;have y:XO t=1->ZO N τ Vs=Vs t:=λb=>by rw[Qa (λt a=>by cases t<;>simp_all [XO,Vs]) h.RI hi (by rw[a];exact b),a]
 have A:XO t=1->ZO N τ V4=V4 t:=λb=>by rw[Qa (λt a=>by cases t<;>simp_all [XO,V4]) h.RI hi (by rw[a];exact b),a]
 have d:=WK τ t' U1 hi;have e:=Xj τ U1 hi
 have f:=WK τ t' Uq hi;have l1:=Xj τ Uq hi
 have Υ:=WK τ t' Up hi;have l2:=Xj τ Up hi
 have g:=WK τ t' Tc hi;have j:=Xj τ Tc hi
 have k:=WK τ t' XO hi;have l:=Xj τ XO hi
 have m:=WK τ t' V4 hi;have n:=Xj τ V4 hi
 have o:=WK τ t' Vs hi;have p:=Xj τ Vs hi
 have r:=WK τ t' SC hi;have s:=Xj τ SC hi
 have u:=WK τ t' Tb hi;have v:=Xj τ Tb hi
 have w:=WK τ t' Vr hi;have x:=Xj τ Vr hi;rw[a]at d e f l1 Υ l2 g j k l m n o p r s u v w x;generalize ZO N (upd τ i t') U1=B at *;generalize ZO N τ U1=C at *;generalize ZO N (upd τ i t') Uq=E at *;generalize ZO N τ Uq=F at *;generalize ZO N (upd τ i t') Up=H at *;generalize ZO N τ Up=I at *;generalize ZO N (upd τ i t') Tc=J at *;generalize ZO N τ Tc=K at *;generalize ZO N (upd τ i t') XO=M at *;generalize ZO N τ XO=O at *;generalize ZO N (upd τ i t') V4=P at *;generalize ZO N τ V4=Q at *;generalize ZO N (upd τ i t') Vs=S at *;generalize ZO N τ Vs=T at *;generalize ZO N (upd τ i t') SC=U at *;generalize ZO N τ SC=V at *;generalize ZO N (upd τ i t') Tb=W at *;generalize ZO N τ Tb=X at *;generalize ZO N (upd τ i t') Vr=Y at *;generalize ZO N τ Vr=Z at *;clear a hi;obtain⟨⟨aa,ab,D,ad⟩,ae,af,ag,ah,ai,L,cnt,wt,aj,R⟩:=Η;obtain⟨ak,al,am,an,ao,ap,aq,ar,au⟩:=h;cases c<;>simp only[U1,Uq,Up,Tc,XO,V4,Vs,SC,Tb,Vr,OC,MJ,MI,Nat.add_zero,Vu,forall_const] at *
 all_goals (constructor<;>omega)
end
section
variable{N i:Nat}{Η o':Z5}{τ:Nat->Tok}{t t':Tok}
def Ca(o':Z5)(a:o'.top=Η.top)(hi:i<N)(b:τ i=t)(h:SB Η.top t'+9*o'.Yr+2*o'.YP<SB Η.top t+9*Η.Yr+2*Η.YP):XZ N o' (upd τ i t')<XZ N Η τ:=by
 have e:=WK τ t' (SB Η.top) hi;rw[b]at e;unfold XZ;rw[a];omega
def B9(hi:i<N)(b:τ i=t)(c:Act Η t o' t'):XZ N o' (upd τ i t')<XZ N Η τ:=by
 cases c<;>refine Ca _ U hi b ?_
 case acq a _ _=>cases a<;>simp[SB,MH]
 case queue a _ _ _=>cases a<;>simp[SB,MH]
 case take=>simp[SB,MH];omega
 case add=>simp[SB];omega
 case wake=>simp[SB,Le];omega
 all_goals (simp[SB,MH,H3,Le]<;>omega)
def H2(hi:i<N)(a:τ i=t)(b:Qb Η t o' t'):XZ N o' (upd τ i t')<XZ N Η τ:=by
 cases b<;>refine Ca _ U hi a ?_
 case gtake d c=>rcases c with rfl|rfl<;>simp[SB,Le]
 all_goals (simp[SB,MH,H3,Le]<;>omega)
def EX{φ:Tok->Nat}(hi:i<N)(h:φ t'=φ (τ i)):ZO N (upd τ i t') φ=ZO N τ φ:=by
 have:=WK τ t' φ hi;omega
def H0(h:Qc N Η τ)(hi:i<N)(a:τ i=t)(b:Qb Η t o' t'):Qc N o' (upd τ i t'):=by
 unfold Qc at h ⊢;cases b<;>
 (repeat rw[EX hi (by rw[a];rfl)])<;>exact h
def HZ(h:Q1 N Η τ)(hi:i<N)(a:τ i=t)(b:Qb Η t o' t'):Q1 N o' (upd τ i t'):=by
 unfold Q1 at h ⊢;cases b
 case gtake d c=>rcases c with rfl|rfl<;>(repeat rw[EX hi (by rw[a];rfl)])<;>exact h
 all_goals (repeat rw[EX hi (by rw[a];rfl)])<;>exact h
def MG(N:Nat)(τ:Nat->Tok)(φ:Tok->Nat):ZO (N+1) τ φ=ZO N τ φ+φ (τ N):=rfl
def B8{φ:Tok->Nat}(a:φ .nil=0)(h:τ N=.nil):ZO (N+1) τ φ=ZO N τ φ:=by rw[MG,h,a];rfl
def B7(h:NL N Η τ)(a:τ N=.nil):NL (N+1) Η τ:=by
 unfold NL Qc Q1 at h ⊢
 repeat rw[B8 (by rfl) a]
 exact h
def B6(a:τ N=.nil):XZ (N+1) Η τ=XZ N Η τ:=by
 unfold XZ;rw[B8 (by rfl) a]
def wz{j n p:Nat}(h:NL N Η τ)(hi:i<N)(d:j<N)(e:i≠j)(f:τ i=.par n (p+1) .add)(g:τ j=.nil)(k:Nat) :
  NL N Η (upd (upd τ i (.par n p .add)) j (.ch k .idle .work)):=by
 have l:upd τ i (.par n p .add) j=.nil:=by rw[upd_ne _ _ (YX e)];exact g
 have a:∀φ:Tok->Nat,ZO N (upd (upd τ i (.par n p .add)) j (.ch k .idle .work)) φ+φ .nil+φ (.par n (p+1) .add)=ZO N τ φ+φ (.par n p .add)+φ (.ch k .idle .work):=λφ=>by
  have m:=WK τ (.par n p .add) φ hi
  have Υ:=WK (upd τ i (.par n p .add)) (.ch k .idle .work) φ d;rw[f]at m;rw[l]at Υ;omega
 obtain⟨b,c⟩:=h;constructor
 .unfold Qc at b ⊢;have f1:=a Vt;have f2:=a RK;have f3:=a SD;have f4:=a Te;have f5:=a Sa;have f6:=a Td;have f7:=a Pt;have f8:=a RJ;have f9:=a Pu;simp only[Vt,RK,SD,Te,Sa,Td,Pt,RJ,Pu,J2,H6,MK,J1,H5,J0,E0,H4,E1,Nat.add_zero]at f1 f2 f3 f4 f5 f6 f7 f8 f9;rw[f1,f2,f3,f4,f5,f6,f7,f8,f9];exact b
 unfold Q1 at c ⊢;have f1:=a U1;have f2:=a Uq;have f3:=a Up;have f4:=a Tc;have f5:=a XO;have f6:=a V4;have f7:=a Vs;have f8:=a SC;have f9:=a Tb;have f10:=a Vr;simp only[U1,Uq,Up,Tc,XO,V4,Vs,SC,Tb,Vr,OC,MJ,MI,Nat.add_zero]at f1 f2 f3 f4 f5 f6 f7 f8 f9 f10;obtain⟨o,r,s,t,u,v,w,x,y⟩:=c;constructor<;>omega
def wy{j n p:Nat}(hi:i<N)(b:j<N)(c:i≠j)(d:τ i=.par n (p+1) .add)(e:τ j=.nil)(k:Nat) :
  XZ N Η (upd (upd τ i (.par n p .add)) j (.ch k .idle .work))<XZ N Η τ:=by
 have f:upd τ i (.par n p .add) j=.nil:=by rw[upd_ne _ _ (YX c)];exact e
 have a:=WK τ (.par n p .add) (SB Η.top) hi
 have Υ:=WK (upd τ i (.par n p .add)) (.ch k .idle .work) (SB Η.top) b;rw[d]at a;rw[f]at Υ;simp only[SB,MH,H3,Le]at a Υ;unfold XZ;omega
def HY{φ:Tok->Nat}(h:0<ZO N τ φ):∃i,i<N/\0<φ (τ i):=by
 have a:∀n,0<ZO n τ φ->∃i,i<n/\0<φ (τ i):=λn=>by
  induction n with
  | zero=>intro h;cases h
  | succ n b=>
   intro h;rw[MG]at h;by_cases c:0<φ (τ n)
   .exact⟨n,J,c⟩
   obtain⟨i,hi,d⟩:=b J;exact⟨i,J,d⟩
 exact a N h
def Q0:Tok->Prop
 | .ch _ .own _|.ch _ (.YG _) _|.ch _ .fin _|.ch _ .us _|.ch _ .wk _|.ch _ .hw _|.ch _ (.act true) _|.ch _ .uc _=>True
 | _=>False
def wx(h:Qc N Η τ)(w:0<ZO N τ Te)(x:Η.Yr=0):∃i,i<N/\Q0 (τ i):=by
 have pick:∀{φ:Tok->Nat},(∀t,0<φ t->Q0 t)->0<ZO N τ φ->∃i,i<N/\Q0 (τ i):=λd e=>let ⟨i,hi,f⟩:=HY e;⟨i,hi,d _ f⟩
 have g:∀t,0<Vt t->Q0 t:=λt c=>by cases t<;>simp_all [Vt,Q0];rename_i m _;cases m<;>simp_all [J2]
 have j:∀t,0<RK t->Q0 t:=λt c=>by cases t<;>simp_all [RK,Q0];rename_i m _;cases m<;>simp_all [H6]
 have k:∀t,0<SD t->Q0 t:=λt c=>by cases t<;>simp_all [SD,Q0];rename_i m _;cases m<;>simp_all [MK];rename_i b;cases b<;>simp_all [MK]
 have l:∀t,0<RJ t->Q0 t:=λt c=>by cases t<;>simp_all [RJ,Q0];rename_i m _;cases m<;>simp_all [H4]
 obtain⟨f1,f2,f3,y,n,o,p,A,B⟩:=h;by_cases r:0<ZO N τ Vt
 .exact pick g r
 by_cases s:0<ZO N τ RK
 .exact pick j s
 by_cases u:0<ZO N τ SD
 .exact pick k u
 by_cases v:0<ZO N τ RJ
 .exact pick l v
 exfalso;rcases(show Η.sv=0\/Η.sv=1 by omega)with a|a
 .have:=n a;have:=p a;omega
 have:=o a;omega
def Ps:Tok->Prop
 | .ch _ _ .work|.ch _ _ .rel|.ch _ _ .l2|.ch _ _ .Qd=>True
 | _=>False
def wv(h:Q1 N Η τ){n p:Nat}(hi:i<N)(a:τ i=.par n p .w3)(r:Η.YP=0):∃j,j<N/\Ps (τ j):=by
 have pick:∀{φ:Tok->Nat},(∀t,0<φ t->Ps t)->0<ZO N τ φ->∃i,i<N/\Ps (τ i):=λb c=>let ⟨i,hi,d⟩:=HY c;⟨i,hi,b _ d⟩
 have e:∀t,0<U1 t->Ps t:=λt a=>by cases t<;>simp_all [U1,Ps];rename_i m;cases m<;>simp_all [OC]
 have f:∀t,0<Uq t->Ps t:=λt a=>by cases t<;>simp_all [Uq,Ps];rename_i m;cases m<;>simp_all [MJ]
 have g:∀t,0<Up t->Ps t:=λt a=>by cases t<;>simp_all [Up,Ps];rename_i m;cases m<;>simp_all [MI]
 have w:=Qa (φ:=Tb) (λt a=>by cases t<;>simp_all [XO,Tb]) h.RI hi (by rw[a];rfl);rw[a]at w;have:=h.wQ w;have:=h.EZ;by_cases k:0<ZO N τ U1
 .exact pick e k
 by_cases l:0<ZO N τ Uq
 .exact pick f l
 by_cases o:0<ZO N τ Up
 .exact pick g o
 exfalso;omega
end
end Go.TL
namespace Go.TL
open Go.Conc
open Go.ConcM (OsLater)
open Go.ConcN (sumTo upd sumTo_upd upd_ne upd_same sumTo_congr le_sumTo)
open Go.ConcR (mk)
inductive WJ(B:Type):Type where
 | leaf
 | node (f:B->WJ B)
inductive R'{B:Type}:List (WJ B)->List (WJ B)->Prop where
 | one (a b:List (WJ B)) (f:B->WJ B) (k:B):R' (a++f k::b) (a++WJ.node f::b)
 | two (a b:List (WJ B)) (f:B->WJ B) (k c:B):R' (a++f k::f c::b) (a++WJ.node f::b)
def R'.cons_inv{B:Type}{l:List (WJ B)}{t:WJ B}{m:List (WJ B)}(h:R' m (t::l)) :
  (∃e,R' e l/\m=t::e)\/(∃f k,t=.node f/\m=f k::l)\/(∃f k d,t=.node f/\m=f k::f d::l):=by
 generalize c:t::l=x at h;cases h with
 | one a b f k=>
  cases a with
  | nil=>simp at c;exact .inr (.inl ⟨f,k,c.1,by rw[c.2];rfl⟩)
  | cons y a=>simp at c;exact .inl ⟨a++f k::b,by rw[c.2];exact .one a b f k,by rw[c.1];rfl⟩
 | two a b f k d=>
  cases a with
  | nil=>simp at c;exact .inr (.inr ⟨f,k,d,c.1,by rw[c.2];rfl⟩)
  | cons y a=>simp at c;exact .inl ⟨a++f k::f d::b,by rw[c.2];exact .two a b f k d,by rw[c.1];rfl⟩
def R'.wu{B:Type}(t:WJ B):∀l,Acc R' l->Acc R' (t::l):=by
 induction t with
 | leaf=>
  intro l a
  induction a with
  | intro l _ b=>
   refine⟨_,λm c=>?_⟩;rcases c.cons_inv with⟨d,e,rfl⟩|⟨f,k,h,_⟩|⟨f,k,i,h,_⟩
   .exact b d e
   .cases h
   cases h
 | node f g=>
  intro l a
  induction a with
  | intro l j b=>
   refine⟨_,λm c=>?_⟩;rcases c.cons_inv with⟨d,e,rfl⟩|⟨f',k,h,rfl⟩|⟨f',k,i,h,rfl⟩
   .exact b d e
   .cases h;exact g k l ⟨l,j⟩
   cases h;exact g k _ (g i l ⟨l,j⟩)
def R'.wf{B:Type}:WellFounded (R' (B:=B)):=⟨λl=>by
 induction l with
 | nil=>exact⟨_,λm a=>by
   generalize b:([]:List (WJ B))=x at a;cases a<;>simp at b⟩
 | cons t l c=>exact R'.wu t l c⟩
structure Z0 where
 G:Φ
 Z9:Nat->Option (ZP×TypeId)
 tok:Nat->Tok
 spec:Nat->Option Spec
 view:Nat->Option (Nat×Z5)
 deaf:Nat
 rel:Bool
def JZ(V:Nat->Option (ZP×TypeId))(w:World):Prop:=∀b c t,V b=some (c,t)->w.heap[b]?=some (.cells c t (0,0))
def YV(a:Z5):Int:=(a.cnt:Int)*4294967296+a.wt
def mwd(a:Z5):Int:=(a.YZ:Int)+2*a.wk+4*a.sv+8*a.nw
def At(s:Nat)(a:Z5)(w:World):Prop:=
 (∃b,w.heap[s]?=some (.cells #[.int .u64 (YV a),.int .u32 a.YP] b (0,0)))/\∀m,a.ZR=some m->∃b,w.heap[m]?=some (.cells #[.int .i32 (mwd a),.int .u32 a.Yr] b (0,0))
def X6(s:Nat)(sp:Spec)(b:Nat):Prop:=b=s\/sp.ZR=some b
def MF(a:Z5)(t:Tok):Prop:=∃N τ i,NL N a τ/\i<N/\τ i=t/\(∀k L g,t=.ch k (.YG L) g->a.L=L)
def EW(x:Z0)(s φ:Nat)(c:Z5):Prop:=∀a b,x.view s=some (a,b)->φ<=a/\(φ=a->c=b)
structure Sub(G' G:Φ):Prop where
 Α:∀b a v p,G'.Α b a=some (v,p)->∃c,G.Α b a=some (v,c)/\(p=true->c=true)
 row:∀b x,G'.row b=some x->G.row b=some x
 obj:∀b x,G'.obj b=some x->G.obj b=some x
structure Split(G a b:Φ):Prop where
 l:Sub a G
 r:Sub b G
 apart:Apart a b
def join(G H:Φ):Φ:=
 ⟨λb a=>match G.Α b a with|some x=>some x|none=>H.Α b a,λb=>match G.row b with|some x=>some x|none=>H.row b,λb=>match G.obj b with|some x=>some x|none=>H.obj b⟩
def Ta(D:Nat->Φ->Prop):Z6->Φ->Prop
 | [],E=>E=Φ.empty
 | k::c,E=>∃a b,D k a/\Ta D c b/\Apart a b/\E=join a b
structure HX(G G':Φ)(n:Nat):Prop where
 Α:∀b a v p,G'.Α b a=some (v,p)->n<=b\/∃d c,G.Α b a=some (d,c)/\(p=true->c=true)
 obj:∀b,G'.Xy b->n<=b\/G.Xy b
def EV(V V':Nat->Option (ZP×TypeId))(G':Φ)(n:Nat):Prop:=
 ∀b c,V' b=some c->V b=some c\/(n<=b/\G'.off b)
def HW(e:Event):Prop:=e.loc=.output\/e.loc=.mark .noRoom
def QZ(s:Nat)(sp:Spec)(d:Nat)(es:Array Event):Prop:=
 deafBehind d es=d/\∀j e,es[j]?=some e->(e.loc=.mark .disable\/e.loc=.mark .enable\/(∃b a wr,e=⟨.cell ⟨b,a,none⟩,wr,true⟩/\X6 s sp b/\0<deafBehind d (es.extract 0 j)))
def Uo(a:Z5):Tok->Prop
 | .ch _ .q _=>a.Yr=0
 | .par _ _ .w3=>a.YP=0
 | _=>False
def SA:Tok->Prop
 | .nil=>True
 | .par _ _ .add|.par _ _ .Zg=>True
 | .ch _ .idle _|.ch _ .done _=>True
 | _=>False
def Xp:Tok->Prop
 | .nil=>True
 | .par _ _ .Zg=>True
 | _=>False
def Gone:Tok->Prop
 | .nil=>True
 | .par _ _ .Zg=>True
 | .ch _ _ .gone=>True
 | _=>False
abbrev JY:=Bool->Goroutine->Z0->Prop
def Ve(g:Goroutine):Prop:=g.status=.running/\g.offers=none
section
variable(P:Program)(mn:Bool)(R:JY)(g:Goroutine)(x:Z0)
def B5:Prop:=∀w,Fits x.G w->JZ x.Z9 w->(stepG P mn g w).goes λg' w' es=>∃G' V',Ve g'/\Xe x.G.owns x.G.Xy w w'/\Fits G' w'/\JZ V' w'/\
 HX x.G G' w.heap.size/\EV x.Z9 V' G' w.heap.size/\(∀e∈es,if x.rel then HW e else V5 x.G w.heap.size w'.heap.size e)/\(∀b c,V' b=some c->w.heap.size<=b->∀e∈es,¬RN e.loc b)/\R mn g' {x with G:=G',Z9:=V'}
def B4:Prop:=∃g',Ve g'/\((∀w,Fits x.G w->stepG P mn g w=.go g' w #[mk .disable]/\R mn g' {x with deaf:=x.deaf+1})\/
 (0<x.deaf/\∀w,Fits x.G w->stepG P mn g w=.go g' w #[mk .enable]/\R mn g' {x with deaf:=x.deaf-1}))
def B3:Prop:=∃(s n p:Nat)(a:Lf)(g':Goroutine)(b:Nat)(wr:Bool),x.tok s=.par n p a/\a≠.Zg/\x.rel=false/\Ve g'/\∀w,Fits x.G w->stepG P mn g w=.go g' w #[mk (if wr then .write ⟨s,b,none⟩ else .read ⟨s,b,none⟩)]/\R mn g' x
def Atom:Prop:=∃s sp,x.spec s=some sp/\¬Xp (x.tok s)/\∀w φ a,Fits x.G w->JZ x.Z9 w->a.toSpec=sp->At s a w->EW x s φ a->MF a (x.tok s)->
 ((stepG P mn g w).goes λg' w' es=>Ve g'/\Xe (λb _=>X6 s sp b) (λ_=>False) w w'/\QZ s sp x.deaf es/\
   ((At s a w'/\R mn g' {x with view:=upd x.view s (some (φ,a))})\/
    ∃o' t',Act a (x.tok s) o' t'/\At s o' w'/\(mayWake P g=true\/o'=a)/\∀c,c<φ->R mn g' {x with tok:=upd x.tok s t',view:=upd x.view s (some (c,o'))}))\/
 (Uo a (x.tok s)/\(∀d,d≠s->SA (x.tok d))/\stepG P mn g w=.go {g with status:=.blocked} w #[])
def B2:Prop:=∃s sp m k g',x.spec s=some sp/\sp.ZR=some m/\x.tok s=.ch k .own .work/\x.deaf=0/\Ve g'/\x.rel=false/\
 (∀w,Fits x.G w->stepG P mn g w=.go g' w #[mk (.acquire ⟨m,0,none⟩)])/\
 ∀L E,sp.Yd L E->Apart x.G E->(L.Nodup/\k∉L/\∃w,Fits x.G w/\Fits E w)->R mn g' {x with G:=join x.G E,tok:=upd x.tok s (.ch k (.YG L) .work),view:=upd x.view s none}
def B1:Prop:=∃s sp m k L g' G' E,x.spec s=some sp/\sp.ZR=some m/\x.tok s=.ch k (.YG L) .work/\x.deaf=0/\Ve g'/\x.rel=false/\
 (∀w,Fits x.G w->stepG P mn g w=.go g' w #[mk (.releaseMerge ⟨m,0,none⟩)])/\
 Split x.G G' E/\sp.Yd (L++[k]) E/\R mn g' {x with G:=G',tok:=upd x.tok s (.ch k .fin .work),view:=upd x.view s none}
def B0:Prop:=∃s sp k a g' E,x.spec s=some sp/\x.tok s=.ch k a .work/\(a=.done\/(a=.idle/\sp.ZR=none))/\(∀b,b≠s->Xp (x.tok b))/\x.deaf=0/\Ve g'/\x.rel=false/\
 (∀w,Fits x.G w->stepG P mn g w=.go g' w #[mk (.releaseMerge ⟨s,0,none⟩)])/\
 Sub E x.G/\sp.D k E/\R mn g' {x with G:=Φ.empty,Z9:=λ_=>none,tok:=upd x.tok s (.ch k a .rel),view:=upd x.view s none,rel:=true}
def BZ:Prop:=∃s sp n c g',x.spec s=some sp/\x.tok s=.par n 0 c/\(c=.RL\/c=.w4)/\x.deaf=0/\Ve g'/\x.rel=false/\
 (∀w,Fits x.G w->stepG P mn g w=.go g' w #[mk (.acquire ⟨s,0,none⟩)])/\
 ∀d e b a,d.Perm (List.range n)->Ta sp.D d b->(sp.ZR≠none->e.Perm (List.range n)/\sp.Yd e a)->(sp.ZR=none->a=Φ.empty)->Apart x.G b->Apart x.G a->Apart b a->(∃w,Fits x.G w/\Fits b w/\Fits a w)->
  R mn g' {x with G:=join (join x.G b) a,tok:=upd x.tok s (.par n 0 .Zg),view:=upd x.view s none}
def BY:Prop:=∃s sp n p g' c a b,x.spec s=some sp/\x.tok s=.par n (p+1) .add/\x.deaf=0/\Ve g'/\Ve c/\x.rel=false/\
 (∀w,Fits x.G w->stepG P mn g w=.spawn g' c w #[])/\Split x.G a b/\
 R mn g' {x with G:=a,tok:=upd x.tok s (.par n p .add),view:=upd x.view s none}/\
 R false c ⟨b,λ_=>none,upd (λ_=>.nil) s (.ch (n-(p+1)) .idle .work),upd (λ_=>none) s (some sp),λ_=>none,0,false⟩
def EU:Prop:=
 (∃G',Sub G' x.G/\R mn g {x with G:=G'})\/
 (∃b c t,x.Z9 b=some (c,t)/\R mn g {x with Z9:=upd x.Z9 b none,G:=⟨λa d=>if a=b then(c[d]?).map (·,true) else x.G.Α a d,λa=>if a=b then some (t,c.size) else x.G.row a,x.G.obj⟩})\/
 (∃s sp e G' E,x.Z9 s=some (#[.int .u64 0,.int .u32 0],e)/\(∀m,sp.ZR=some m->m≠s/\∃f,x.Z9 m=some (#[.int .i32 0,.int .u32 0],f))/\x.rel=false/\
  Split x.G G' E/\(sp.ZR≠none->sp.Yd [] E)/\
  (x.tok s=.nil->R mn g {x with G:=G',Z9:=λb=>if b=s\/sp.ZR=some b then none else x.Z9 b,tok:=upd x.tok s (.par 0 0 .add),spec:=upd x.spec s (some sp),view:=upd x.view s none}))
def BX:Prop:=mn=false/\g.status=.running/\x.rel=true/\(∀s,Gone (x.tok s))/\∃g' es,(∀e∈es,Event.mute e=true)/\(∀w,stepG P false g w=.go g' w es)/\R mn g' {x with deaf:=deafBehind x.deaf es}
def JX:Prop:=BX P mn R g x\/Ve g/\(B5 P mn R g x\/B4 P mn R g x\/B3 P mn R g x\/Atom P mn R g x\/B2 P mn R g x\/B1 P mn R g x\/B0 P mn R g x\/BZ P mn R g x\/BY P mn R g x\/EU mn R g x)
def BW(a:Value->Prop):Prop:=Ve g/\(∀s,Xp (x.tok s))/\x.deaf=0/\∀w,Fits x.G w->∃v es,stepG P true g w=.ended (.done v) w es/\(∀e∈es,V5 x.G w.heap.size w.heap.size e)/\a v
def wq:Prop:=x.rel=true/\(∀s,Gone (x.tok s))/\g.status=.finished/\x.deaf=0
def HV(a:Value->Prop):Prop:=(mn=true/\BW P g x a)\/(mn=false/\wq g x)
def JW:Prop:=x.rel=true->(∀s,Gone (x.tok s))->∃n,QuitsD P n x.deaf g
end
open Classical in
def UG(P:Program)(a:Value->Prop):WJ (Bool×Goroutine×Z0)->JY
 | .leaf=>λmn g x=>JW P g x/\HV P mn g x a
 | .node f=>λmn g x=>JW P g x/\(HV P mn g x a\/JX P mn (λb g' c=>UG P a (f (b,g',c)) b g' c) g x)
def Goes(P:Program)(a:Value->Prop):JY:=λmn g x=>∃T,UG P a T mn g x
def JX.mono{P:Program}{mn:Bool}{R J:JY}{g:Goroutine}{x:Z0}(u:∀mn g x,R mn g x->J mn g x)(h:JX P mn R g x):JX P mn J g x:=by
 rcases h with⟨K,Υ,M,N,g',es,O,Q,S⟩|⟨T,h⟩
 .exact .inl ⟨K,Υ,M,N,g',es,O,Q,u _ _ _ S⟩
 refine .inr ⟨T,?_⟩;rcases h with h|h|h|h|h|h|h|h|h|h
 .refine .inl λw A hv=>?_;have:=h w A hv;revert this;cases stepG P mn g w<;>simp only[GStep.goes,imp_self];rintro⟨G',V',j,l,o,r,v,B,y,U,C⟩;exact⟨G',V',j,l,o,r,v,B,y,U,u _ _ _ C⟩
 .obtain⟨g',j,l⟩:=h;exact .inr (.inl ⟨g',j,l.elim (λh=>.inl λw A=>⟨(h w A).1,u _ _ _ (h w A).2⟩) (λh=>.inr ⟨h.1,λw A=>⟨(h.2 w A).1,u _ _ _ (h.2 w A).2⟩⟩)⟩)
 .obtain⟨s,n,p,H,g',V,wr,j,l,I,o,r⟩:=h;exact .inr (.inr (.inl ⟨s,n,p,H,g',V,wr,j,l,I,o,λw A=>⟨(r w A).1,u _ _ _ (r w A).2⟩⟩))
 .obtain⟨s,sp,j,I,o⟩:=h;refine .inr (.inr (.inr (.inl ⟨s,sp,j,I,λw φ W A hv X Y Z aa=>?_⟩)));refine(o w φ W A hv X Y Z aa).imp (λh=>?_) id;revert h;cases stepG P mn g w<;>simp only[GStep.goes,imp_self];rintro⟨j,l,o,r⟩;exact⟨j,l,o,r.imp (λh=>⟨h.1,u _ _ _ h.2⟩) λ⟨o',t',ab,ad,ae,af⟩=>⟨o',t',ab,ad,ae,λag ah=>u _ _ _ (af ag ah)⟩⟩
 .obtain⟨s,sp,m,k,g',j,l,o,r,v,D,B,y⟩:=h;exact .inr (.inr (.inr (.inr (.inl ⟨s,sp,m,k,g',j,l,o,r,v,D,B,λL E a b c=>u _ _ _ (y L E a b c)⟩))))
 .obtain⟨s,sp,m,k,L,g',G',E,j,l,o,r,v,D,B,y,C,F⟩:=h;exact .inr (.inr (.inr (.inr (.inr (.inl ⟨s,sp,m,k,L,g',G',E,j,l,o,r,v,D,B,y,C,u _ _ _ F⟩)))))
 .obtain⟨s,sp,k,ai,g',E,j,l,o,r,v,B,aj,y,C,F,ak⟩:=h;exact .inr (.inr (.inr (.inr (.inr (.inr (.inl ⟨s,sp,k,ai,g',E,j,l,o,r,v,B,aj,y,C,F,u _ _ _ ak⟩))))))
 .obtain⟨s,sp,n,H,g',j,l,o,r,v,D,B,y⟩:=h;exact .inr (.inr (.inr (.inr (.inr (.inr (.inr (.inl ⟨s,sp,n,H,g',j,l,o,r,v,D,B,λal am an ao a b c d e f g i=>u _ _ _ (y al am an ao a b c d e f g i)⟩)))))))
 .obtain⟨s,sp,n,p,g',c,ap,aq,j,l,o,r,v,D,B,y,C,F⟩:=h;exact .inr (.inr (.inr (.inr (.inr (.inr (.inr (.inr (.inl ⟨s,sp,n,p,g',c,ap,aq,j,l,o,r,v,D,B,y,u _ _ _ C,u _ _ _ F⟩))))))))
 refine .inr (.inr (.inr (.inr (.inr (.inr (.inr (.inr (.inr ?_))))))));rcases h with⟨G',j,l⟩|⟨b,c,t,j,l⟩|⟨s,sp,ar,G',E,j,l,o,r,v,y⟩
 .exact .inl ⟨G',j,u _ _ _ l⟩
 .exact .inr (.inl ⟨b,c,t,j,u _ _ _ l⟩)
 exact .inr (.inr ⟨s,sp,ar,G',E,j,l,o,r,v,λe=>u _ _ _ (y e)⟩)
def Goes.stop{P:Program}{a:Value->Prop}{mn:Bool}{g:Goroutine}{x:Z0}(b:JW P g x)(h:HV P mn g x a):Goes P a mn g x:=⟨.leaf,b,h⟩
open Classical in
def Goes.step{P:Program}{a:Value->Prop}{mn:Bool}{g:Goroutine}{x:Z0}(c:JW P g x)(h:JX P mn (Goes P a) g x):Goes P a mn g x:=by
 refine⟨.node λk=>if b:∃T,UG P a T k.1 k.2.1 k.2.2 then Classical.choose b else .leaf,c,.inr (h.mono λd g' e f=>?_)⟩;have b:∃T,UG P a T d g' e:=f;simp only[b,dif_pos];exact Classical.choose_spec b
def Goes.quits{P:Program}{i:Value->Prop}(n:Nat):∀{g:Goroutine}{x:Z0},x.rel=true->(∀s,Gone (x.tok s))->QuitsD P n x.deaf g->Goes P i false g x:=by
 induction n with
 | zero=>
  intro g x b c a;exact .stop (λ_ _=>⟨0,a⟩) (.inr ⟨U,b,c,a.1,a.2⟩)
 | succ n j=>
  intro g x b c a;rcases a with a|⟨d,g',es,e,f,h⟩
  .exact .stop (λ_ _=>⟨0,a⟩) (.inr ⟨U,b,c,a.1,a.2⟩)
  exact .step (λ_ _=>⟨n+1,.inr ⟨d,g',es,e,f,h⟩⟩) (.inl ⟨U,d,b,c,g',es,e,f,j (x:={x with deaf:=deafBehind x.deaf es}) b c h⟩)
abbrev YS:=Nat ⊕ Nat
def Zv(H:YS->Φ)(h:YS)(G:Φ):YS->Φ:=λk=>if k=h then G else H k
@[simp] theorem Yk(H:YS->Φ)(h:YS)(G:Φ):Zv H h G h=G:=by simp[Zv]
def Zu(H:YS->Φ){h k:YS}(G:Φ)(a:k≠h):Zv H h G k=H k:=by simp[Zv,a]
structure YJ where
 H:YS->Φ
 Z9:Nat->Nat->Option (ZP×TypeId)
 tok:Nat->Nat->Tok
 spec:Nat->Nat->Option Spec
 view:Nat->Nat->Option (Nat×Z5)
 deaf:Nat->Nat
 rel:Nat->Bool
 T:Nat->WJ (Bool×Goroutine×Z0)
 O:Nat->Option Z5
 Ze:Nat->Nat
 home:Nat->Nat
 Xx:Nat->Nat
def YJ.x(c:YJ)(i:Nat):Z0:=⟨c.H (.inl i),c.Z9 i,c.tok i,c.spec i,c.view i,c.deaf i,c.rel i⟩
structure Wj(H:YS->Φ)(b:Nat->Nat->Option (ZP×TypeId))(c:Nat->Option Z5)(d w:World):Prop where
 fit:∀h,Fits (H h) w
 Sz:∀i,JZ (b i) w
 XU:∀s a,c s=some a->At s a w
 keep:Xe (λ_ _=>False) (λ_=>False) d w
structure Vq(H:YS->Φ)(e:Nat->Nat->Option (ZP×TypeId))(c:Nat->Option Z5)(d:Nat):Prop where
 apart:∀h k,h≠k->Apart (H h) (H k)
 high:∀h b a,(H h).owns b a->d<=b
 RH:∀h b,(H h).Xy b->d<=b
 fresh:∀i b v,e i b=some v->d<=b/\(∀h,(H h).off b)/\∀j,j≠i->e j b=none
 UF:∀s a b,c s=some a->X6 s a.toSpec b->d<=b/\(∀h,(H h).off b)/\∀j,e j b=none
 T4:∀s f a o' b,c s=some a->c f=some o'->X6 s a.toSpec b->X6 f o'.toSpec b->s=f
 P':∀s a m,c s=some a->a.ZR=some m->m≠s
 X2:∀b,(∀s a,c s=some a->¬X6 s a.toSpec b)->H (.inr b)=Φ.empty
def Wj.own{H:YS->Φ}{A:Nat->Nat->Option (ZP×TypeId)}{B:Nat->Option Z5}{C w w':World}{D:Nat}(y:Wj H A B C w)(n:Vq H A B D)(i:Nat){G':Φ}{V':Nat->Option (ZP×TypeId)}
  (e:Xe (H (.inl i)).owns (H (.inl i)).Xy w w') (L:Fits G' w') (hv:JZ V' w') (Y:C.heap.size=D):Wj (Zv H (.inl i) G') (upd A i V') B C w':=by
 have E:∀h,h≠.inl i->(∀b a,(H (.inl i)).owns b a->¬(H h).has b a)/\∀b,(H (.inl i)).Xy b->¬(H h).Xy b:=λh g=>⟨(n.apart _ _ (YX g)).Α,(n.apart _ _ (YX g)).obj⟩;refine⟨λh=>?_,λj=>?_,λs a F=>?_,?_⟩
 .by_cases g:h=.inl i
  .subst g;rw[Yk];exact L
  rw[Zu _ _ g];exact(y.fit h).keeps e (E h g).1 (E h g).2
 .by_cases I:j=i
  .subst I;rw[upd_same];exact hv
  rw[upd_ne _ _ I];intro b c t d;obtain⟨c',f',k,p,l,r⟩:=e.cells b c t _ (y.Sz j b c t d);have u:=(n.fresh j b _ d).2.1 (.inl i);have:c'=c:=by
   apply Lm;intro a;exact l a λ⟨v,hv⟩=>u.1 a ⟨_,hv⟩
  rw[k,this,r.resolve_right λ⟨⟨a,v,hv⟩,_⟩=>u.1 a ⟨_,hv⟩]
 .have u:=λb (d:X6 s a.toSpec b)=>(n.UF s a b F d).2.1 (.inl i)
  have J:∀b c t,X6 s a.toSpec b->w.heap[b]?=some (.cells c t (0,0))->w'.heap[b]?=some (.cells c t (0,0)):=λb c t d M=>by
   obtain⟨c',f',k,p,l,r⟩:=e.cells b c t _ M;have:c'=c:=by
    apply Lm;intro o';exact l o' λ⟨v,hv⟩=>(u b d).1 o' ⟨_,hv⟩
   rw[k,this,r.resolve_right λ⟨⟨a,v,hv⟩,_⟩=>(u b d).1 a ⟨_,hv⟩]
  obtain⟨⟨N,k⟩,p⟩:=y.XU s a F;exact⟨⟨N,J _ _ _ (.inl U) k⟩,λm K=>let ⟨O,l⟩:=p m K;⟨O,J _ _ _ (.inr K) l⟩⟩
 have o:=y.keep;refine⟨WL o.size e.size,λb c t P d=>?_,λb x d f _=>?_,o.os.trans e.os,e.output.trans o.output,e.tape.trans o.tape⟩
 .obtain⟨Q,f1,k,p,l,R⟩:=o.cells b c t P d;obtain⟨S,f2,r,T,V,W⟩:=e.cells b Q t f1 k;have low:∀a,¬(H (.inl i)).owns b a:=λa f=>by
   have:=n.high _ _ _ f
   have:=XP d;omega
  refine⟨S,f2,r,by rw[T,p],λa _=>?_,.inl ?_⟩
  .rw[V a (low a),l a id]
  rw[W.resolve_right λ⟨⟨a,f⟩,_⟩=>low a f,R.resolve_right λ⟨⟨_,f⟩,_⟩=>f]
 refine e.SG b x (o.SG b x d f id) f λX=>?_;have:=n.RH _ _ X;have:=XP d;omega
def Wj.at{H:YS->Φ}{a:Nat->Nat->Option (ZP×TypeId)}{b:Nat->Option Z5}{c w:World}(h:Wj H a b c w)(d:Nat):Wj H a b c (w.at d):=
 ⟨λk=>(h.fit k).at d,h.Sz,h.XU,⟨h.keep.size,h.keep.cells,h.keep.SG,h.keep.os,h.keep.output,h.keep.tape⟩⟩
def Vq.own{H:YS->Φ}{C:Nat->Nat->Option (ZP×TypeId)}{K:Nat->Option Z5}{O:Nat}{w ad:World}(l:Vq H C K O)(L:Wj H C K ad w)(al:O<=w.heap.size)(i:Nat){G':Φ}{V':Nat->Option (ZP×TypeId)}
  (D:HX (H (.inl i)) G' w.heap.size) (P:EV (C i) V' G' w.heap.size):Vq (Zv H (.inl i) G') (upd C i V') K O:=by
 have W:∀b d,G'.has b d->w.heap.size<=b\/(H (.inl i)).has b d:=λb d ⟨⟨v,p⟩,h⟩=>(D.Α b d v p h).imp id λ⟨X,ae,Q,_⟩=>⟨_,Q⟩
 have Y:∀b d,G'.owns b d->w.heap.size<=b\/(H (.inl i)).owns b d:=λb d ⟨v,h⟩=>(D.Α b d v true h).imp id λ⟨X,ae,Q,af⟩=>⟨X,by rw[Q,af U]⟩
 have R:∀h b d,(H h).has b d->b<w.heap.size:=λh b d ⟨⟨v,p⟩,n⟩=>by
  obtain⟨c,t,am,hb,_⟩:=SF ((L.fit h).Α b d v p n);exact XP hb
 have Z:∀h b,(H h).Xy b->b<w.heap.size:=λh b ⟨x,n⟩=>XP ((L.fit h).obj b x n).1
 have aa:∀k,k≠.inl i->Apart G' (H k):=λk E=>by
  have a:=l.apart _ _ (YX E);refine⟨λb d e n=>?_,λb d e n=>?_,λb e n=>?_⟩
  .rcases Y b d e with h|h
   .have:=R k b d n;omega
   exact a.Α b d h n
  .rcases W b d n with h|h
   .have:=R k b d (let ⟨v,hv⟩:=e;⟨_,hv⟩);omega
   exact a.Qe b d e h
  rcases D.obj b e with h|h
  .have:=Z k b n;omega
  exact a.obj b h n
 have ag:∀{A B:Φ},Apart A B->Apart B A:=λh=>⟨h.Qe,h.Α,λb hb ah=>h.obj b ah hb⟩
 have S:∀b,b<w.heap.size->(H (.inl i)).off b->G'.off b:=λb hb h=>⟨λd e=>(W b d e).elim (λx=>J) (h.1 d),λe=>(D.obj b e).elim (λx=>J) h.2⟩
 have T:∀j b v,C j b=some v->b<w.heap.size:=λj b v hv=>XP (L.Sz j b v.1 v.2 hv)
 have ai:∀s d b,K s=some d->X6 s d.toSpec b->b<w.heap.size:=λs d b M hb=>by
  obtain⟨⟨an,N⟩,V⟩:=L.XU s d M;rcases hb with rfl|hb
  .exact XP N
  obtain⟨ao,aj⟩:=V b hb;exact XP aj
 refine⟨λh k E=>?_,λh b d e=>?_,λh b e=>?_,λj b v hv=>?_,λs d b M hb=>?_,l.T4,l.P',λb hb=>?_⟩
 .by_cases f:h=.inl i
  .subst f;rw[Yk,Zu _ _ (YX E)];exact aa k (YX E)
  by_cases kk:k=.inl i
  .subst kk;rw[Yk,Zu _ _ f];exact ag (aa h f)
  rw[Zu _ _ f,Zu _ _ kk];exact l.apart h k E
 .by_cases f:h=.inl i
  .subst f;rw[Yk]at e;rcases Y b d e with h|h
   .omega
   exact l.high _ _ _ h
  rw[Zu _ _ f]at e;exact l.high _ _ _ e
 .by_cases f:h=.inl i
  .subst f;rw[Yk]at e;rcases D.obj b e with h|h
   .omega
   exact l.RH _ _ h
  rw[Zu _ _ f]at e;exact l.RH _ _ e
 .by_cases ab:j=i
  .subst ab;rw[upd_same]at hv;rcases P b v hv with h|⟨N,V⟩
   .obtain⟨F,r,u⟩:=l.fresh j b v h;refine⟨F,λg=>?_,λm y=>by rw[upd_ne _ _ y];exact u m y⟩;by_cases f:g=.inl j
    .subst f;rw[Yk];exact S b (T j b v h) (r _)
    rw[Zu _ _ f];exact r _
   refine⟨J,λg=>?_,λm y=>?_⟩
   .by_cases f:g=.inl j
    .subst f;rw[Yk];exact V
    rw[Zu _ _ f];exact⟨λd e=>by have:=R g b d e;omega,λe=>by have:=Z g b e;omega⟩
   rw[upd_ne _ _ y];cases I:C m b with
   | none=>rfl
   | some v'=>have:=T m b v' I;omega
  rw[upd_ne _ _ ab]at hv;obtain⟨F,r,u⟩:=l.fresh j b v hv;have hb:=T j b v hv;refine⟨F,λg=>?_,λm y=>?_⟩
  .by_cases f:g=.inl i
   .subst f;rw[Yk];exact S b hb (r _)
   rw[Zu _ _ f];exact r _
  by_cases g:m=i
  .subst g;rw[upd_same];cases I:V' b with
   | none=>rfl
   | some v'=>
    rcases P b v' I with h|⟨N,_⟩
    .rw[u m y]at h;cases h
    omega
  rw[upd_ne _ _ g];exact u m y
 .obtain⟨F,r,u⟩:=l.UF s d b M hb;have ak:=ai s d b M hb;refine⟨F,λg=>?_,λm=>?_⟩
  .by_cases f:g=.inl i
   .subst f;rw[Yk];exact S b ak (r _)
   rw[Zu _ _ f];exact r _
  by_cases g:m=i
  .subst g;rw[upd_same];cases I:V' b with
   | none=>rfl
   | some v'=>
    rcases P b v' I with h|⟨N,_⟩
    .rw[u m]at h;cases h
    omega
  rw[upd_ne _ _ g];exact u m
 rw[Zu _ _ o];exact l.X2 b hb
def UE(tok:Nat->Nat->Tok)(d:Nat->Option Z5)(t:Trace):YS->Nat->Prop
 | .inl i,k=>Knows t i k
 | .inr b,k=>(∃p a,t[p]?=some a/\a.act=.mark (.releaseMerge ⟨b,0,none⟩)/\t.heard p/\Before t k p)\/(∀s c,d s=some c->X6 s c.toSpec b->∀i,tok i s≠.nil->Knows t i k)
def ET{tok:Nat->Nat->Tok}{a:Nat->Option Z5}{t:Trace}(u:Trace){h:YS}{k:Nat}(c:UE tok a t h k):UE tok a (t++u) h k:=by
 cases h with
 | inl i=>exact Knows.app u c
 | inr b=>
  rcases c with⟨p,f,d,g,j,l⟩|h
  .have e:=lt_size_of_getElem? d;exact .inl ⟨p,f,by rw[getElem?_append_old e];exact d,g,(heard_old e).2 j,l.app u⟩
  exact .inr λs m n o i hi=>(h s m n o i hi).app u
structure Vd(H:YS->Φ)(f:Nat->Nat->Option (ZP×TypeId))(tok:Nat->Nat->Tok)(d:Nat->Option Z5)(g:Nat->Nat)(j:Nat->Nat)(N:Nat)(t:Trace):Prop where
 race:∀l,¬Race l t
 low:∀c∈t,c.act.low N
 norel:∀c∈t,∀a,c.act≠.mark (.release a)
 perms:∀h,Yy t (UE tok d t h) (H h)
 QY:∀i b v,f i b=some v->∀k a,touchAt t k=some a->¬RN a.loc b
 cont:∀s e b,d s=some e->X6 s e.toSpec b->∀k a,touchAt t k=some a->RN a.loc b->a.kind=.atomic\/(a.kind=.said/\t.g? k=some (g s))
 hears:∀i,Deaf t i=j i
def JV{t:Trace}{N k:Nat}{a:Touch}(h:∀f∈t,f.act.low N)(j:touchAt t k=some a){b:Nat}(c:RN a.loc b):b<N:=by
 obtain⟨f,l,d⟩:=touch_of j;have i:=h f (mem_of_getElem? l);obtain⟨g,fn,pos,n⟩:=f;cases n with
 | access e=>
  simp only[MemAct.touch?,Ib]at d;subst d;obtain⟨o,wr,p⟩:=e;cases o<;>simp only[RN]at c<;>first|(subst c;exact i)|exact c.elim
 | mark m=>
  cases m<;>simp only[MemAct.touch?,Ib,reduceCtorEq]at d<;>(subst d;simp only[RN]at c;subst c;exact i)
 | _=>simp[MemAct.touch?]at d
def HW.ES{G:Φ}{n a:Nat}{e:Event}(h:HW e):V5 G n a e:=by
 rcases h with h|h<;>simp[V5,h]
def HU{G:Φ}{n h:Nat}{e:Event}(d:V5 G n h e){a:Touch}(c:(MemAct.ofEvent e).touch?=some a) :
  a.loc=e.loc/\a.write=e.write/\(a.loc.isMemory=true->(∃g,e.loc=.cell g)\/∃r,e.loc=.obj r):=by
 obtain⟨i,wr,j⟩:=e;cases i with
 | cell g=>simp[MemAct.ofEvent,MemAct.touch?]at c;subst c;simp
 | obj r=>
  simp only[V5]at d;obtain⟨rfl,_⟩:=d;cases wr<;>simp[MemAct.ofEvent,MemAct.touch?]at c<;>subst c<;>simp
 | output=>simp[MemAct.ofEvent,MemAct.touch?]at c;subst c;simp[Loc.isMemory]
 | goroutines=>exact d.elim
 | mark m=>simp only[V5]at d;rcases d with rfl|⟨f,rfl⟩|⟨b,rfl|rfl,_⟩<;>simp[MemAct.ofEvent,MemAct.touch?]at c
def Vd.own{H:YS->Φ}{N:Nat->Nat->Option (ZP×TypeId)}{tok:Nat->Nat->Tok}{Q:Nat->Option Z5}{aj ak:Nat->Nat}{ar w w':World}{au:Nat}{t:Trace}
  (o:Vd H N tok Q aj ak w.heap.size t) (W:Wj H N Q ar w) (X:Vq H N Q au) (i:Nat) {G':Φ} {V':Nat->Option (ZP×TypeId)} {es:Array Event} {fn:FuncId} {pos:String}
  (av:w.heap.size<=w'.heap.size) (al:HX (H (.inl i)) G' w.heap.size) (am:EV (N i) V' G' w.heap.size)
  (F:∀e∈es,V5 (H (.inl i)) w.heap.size w'.heap.size e) (aw:∀b c,V' b=some c->w.heap.size<=b->∀e∈es,¬RN e.loc b) :
  Vd (Zv H (.inl i) G') (upd N i V') tok Q aj ak w'.heap.size (t++MemOp.ofEvents i fn pos es):=by
 have R:∀C∈MemOp.ofEvents i fn pos es,C.g=i:=λC u=>by obtain⟨e,_,rfl⟩:=Go.Conc.mem_ofEvents u;rfl
 have Y:∀h b n,(H h).has b n->b<w.heap.size:=λh b n ⟨⟨v,p⟩,D⟩=>by
  obtain⟨c,t,aI,hb,_⟩:=SF ((W.fit h).Α b n v p D);exact XP hb
 have an:∀h b,(H h).Xy b->b<w.heap.size:=λh b ⟨x,D⟩=>XP ((W.fit h).obj b x D).1
 have ao:∀j b v,N j b=some v->b<w.heap.size:=λj b v hv=>XP (W.Sz j b v.1 v.2 hv)
 have ax:∀s n b,Q s=some n->X6 s n.toSpec b->b<w.heap.size:=λs n b S hb=>by
  obtain⟨⟨aJ,E⟩,T⟩:=W.XU s n S;rcases hb with rfl|hb
  .exact XP E
  obtain⟨aK,Z⟩:=T b hb;exact XP Z
 have aa:∀e∈es,∀b,b<w.heap.size->(H (.inl i)).off b->¬RN e.loc b:=λe l b hb ab y=>by
  have:=F e l;obtain⟨V,wr,ad⟩:=e;cases V with
  | cell O=>
   simp only[RN]at y;subst y;simp only[V5]at this;rcases this with h|⟨_,h⟩
   .omega
   cases wr
   .exact ab.1 _ h
   obtain⟨v,hv⟩:=h;exact ab.1 _ ⟨_,hv⟩
  | obj r=>
   simp only[RN]at y;subst y;simp only[V5]at this;rcases this.2 with h|h
   .omega
   exact ab.2 h
  | _=>exact y
 refine⟨λay=>noRace_append (o.race ay) R λk a A C u b hb L=>?_,λC u=>?_,λC u=>?_,λh=>?_,λj b v hv k a A y=>?_,λs n b S hb k a A y=>?_,λj=>?_⟩
 .obtain⟨e,l,rfl⟩:=Go.Conc.mem_ofEvents u;obtain⟨E,T,Z⟩:=HU (F e l) hb;obtain⟨ae,az,aA,_⟩:=L;have d:=F e l;rcases Z (by rw[<-ae];exact az)with⟨O,B⟩|⟨r,B⟩
  .simp only[V5,B]at d;have P:a.loc=.cell O:=by rw[ae,E,B]
   rcases d with h|⟨ap,h⟩
   .have:=JV o.low A (b:=O.block) (by rw[P];rfl);omega
   obtain⟨aL,aM,sp⟩:=O;simp only at ap;subst ap;by_cases J:e.write=true
   .rw[if_pos J]at h;obtain⟨v,hv⟩:=h;exact(o.perms (.inl i)).Α _ _ v true hv k a A P (.inl U)
   rw[if_neg J]at h;obtain⟨⟨v,p⟩,hv⟩:=h;exact(o.perms (.inl i)).Α _ _ v p hv k a A P (.inr (aA.resolve_right (by rw[T];exact J)))
  simp only[V5,B]at d;have P:a.loc=.obj r:=by rw[ae,E,B]
  rcases d.2 with h|h
  .have:=JV o.low A (b:=r) (by rw[P];rfl);omega
  exact(o.perms (.inl i)).obj r h k a A P
 .rcases Q3.1 u with h|h
  .exact MemAct.low_mono av (o.low C h)
  obtain⟨e,l,rfl⟩:=Go.Conc.mem_ofEvents h;have d:=F e l;obtain⟨V,wr,ad⟩:=e;cases V with
  | cell O=>
   simp only[V5]at d;show O.block<_;rcases d with h|⟨_,h⟩
   .exact h.2
   cases wr
   .have:=Y _ _ _ h;omega
   obtain⟨v,hv⟩:=h;have:=Y (.inl i) _ _ ⟨_,hv⟩;omega
  | obj r=>
   simp only[V5]at d;obtain⟨rfl,d⟩:=d;have aB:r<w'.heap.size:=d.elim (λh=>h.2) (λh=>by have:=an _ _ h;omega);cases wr<;>exact aB
  | output=>trivial
  | goroutines=>exact d.elim
  | mark m=>
   simp only[V5]at d;rcases d with rfl|⟨f,rfl⟩|⟨b,aC,_,v,hv⟩
   .trivial
   .trivial
   have:=Y (.inl i) _ _ ⟨_,hv⟩;rcases aC with rfl|rfl<;>(show b.block<_;omega)
 .rcases Q3.1 u with h|h
  .exact o.norel C h
  obtain⟨e,l,rfl⟩:=Go.Conc.mem_ofEvents h;intro a h;have d:=F e l;obtain⟨V,wr,ad⟩:=e;cases V with
  | mark m=>simp only[V5]at d;rcases d with rfl|⟨f,rfl⟩|⟨b,rfl|rfl,_⟩<;>simp[MemAct.ofEvent]at h
  | obj r=>cases wr<;>cases ad<;>simp[MemAct.ofEvent]at h
  | _=>simp[MemAct.ofEvent]at h
 .by_cases af:h=.inl i
  .subst af;rw[Yk];have aq:Yy (t++MemOp.ofEvents i fn pos es) (Knows (t++MemOp.ofEvents i fn pos es) i) (H (.inl i)):=(o.perms (.inl i)).own R;refine⟨λb n v p L k a A B J=>?_,λb hb k a A B=>?_⟩
   .rcases al.Α b n v p L with aD|⟨aE,aF,ag,aG⟩
    .rcases Sb A with I|⟨_,C,u,M,_⟩
     .have:=JV o.low I (b:=b) (by rw[B];rfl);omega
     have:=knows_own M;rwa [R C u]at this
    exact aq.Α b n aE aF ag k a A B (J.imp aG id)
   rcases al.obj b hb with aD|ag
   .rcases Sb A with I|⟨_,C,u,M,_⟩
    .have:=JV o.low I (b:=b) (by rw[B];rfl);omega
    have:=knows_own M;rwa [R C u]at this
   exact aq.obj b ag k a A B
  rw[Zu _ _ af];have ah:=X.apart _ _ (YX af);refine(o.perms h).others (λk M=>ET _ M) λC u a A=>?_;obtain⟨e,l,rfl⟩:=Go.Conc.mem_ofEvents u;obtain⟨E,T,_⟩:=HU (F e l) A;have d:=F e l;refine⟨λb n v p B L=>?_,λb B hb=>?_⟩
  .simp only[V5,<-E,B]at d;rcases d with D|⟨_,D⟩
   .have:=Y h b n ⟨_,L⟩;omega
   by_cases J:e.write=true
   .rw[if_pos J]at D;exact absurd ⟨_,L⟩ (ah.Α b n D)
   rw[if_neg J]at D;refine⟨?_,by rw[T];simpa using J⟩;cases p with
   | false=>rfl
   | true=>exact absurd D (ah.Qe b n ⟨v,L⟩)
  simp only[V5,<-E,B]at d;rcases d.2 with D|D
  .have:=an h b hb;omega
  exact ah.obj b D hb
 .rcases Sb A with I|⟨_,C,u,_,ai⟩
  .have hb:=JV o.low I y;by_cases K:j=i
   .subst K;rw[upd_same]at hv;rcases am b v hv with h|h
    .exact o.QY j b v h k a I y
    omega
   rw[upd_ne _ _ K]at hv;exact o.QY j b v hv k a I y
  obtain⟨e,l,rfl⟩:=Go.Conc.mem_ofEvents u;obtain⟨E,_,_⟩:=HU (F e l) ai;rw[E]at y;by_cases K:j=i
  .subst K;rw[upd_same]at hv;rcases am b v hv with h|h
   .exact aa e l b (ao j b v h) ((X.fresh j b v h).2.1 _) y
   exact aw b v hv h.1 e l y
  rw[upd_ne _ _ K]at hv;exact aa e l b (ao j b v hv) ((X.fresh j b v hv).2.1 _) y
 .rcases Sb A with I|⟨_,C,u,_,ai⟩
  .rcases o.cont s n b S hb k a I y with h|⟨h,M⟩
   .exact .inl h
   obtain⟨C,aH,_⟩:=touch_of I;exact .inr ⟨h,by rw[g?_old (lt_size_of_getElem? aH)];exact M⟩
  obtain⟨e,l,rfl⟩:=Go.Conc.mem_ofEvents u;obtain⟨E,_,_⟩:=HU (F e l) ai;rw[E]at y;exact absurd y (aa e l b (ax s n b S hb) ((X.UF s n b S hb).2.1 _))
 by_cases K:i=j
 .subst K;rw[Deaf_own,deafBehind_still (λe l=>?_)]
  .exact o.hears i
  have d:=F e l;constructor<;>intro B<;>simp[V5,B]at d
 rw[Deaf_other t K _ R];exact o.hears j
def QX:Tf->Prop
 | .fin|.uc|.us|.done=>True
 | _=>False
def Zj(tok:Nat->Nat->Tok)(i s:Nat)(t:Tok):Nat->Nat->Tok:=upd tok i (upd (tok i) s t)
def Xw(tok:Nat->Nat->Tok)(i s:Nat)(t:Tok):Zj tok i s t i s=t:=by simp[Zj,upd]
def XI{tok:Nat->Nat->Tok}{i s j r:Nat}(t:Tok)(h:¬(j=i/\r=s)):Zj tok i s t j r=tok j r:=by
 unfold Zj upd;by_cases a:j=i
 .subst a;by_cases b:r=s
  .exact absurd ⟨U,b⟩ h
  simp[b]
 simp[a]
def BV(tok:Nat->Nat->Tok)(i s:Nat)(t:Tok):(λj=>Zj tok i s t j s)=upd (λj=>tok j s) i t:=by
 funext j
 by_cases a:j=i
 .subst a;rw[Xw,upd_same]
 rw[XI _ (λh=>a h.1),upd_ne _ _ a]
def ER(tok:Nat->Nat->Tok)(i s:Nat)(t:Tok){r:Nat}(a:r≠s):(λj=>Zj tok i s t j r)=λj=>tok j r:=by
 funext j;rw[XI _ (λh=>a h.2)]
structure XT(n:Nat)(tok:Nat->Nat->Tok)(spec:Nat->Nat->Option Spec)(l:Nat->Nat->Option (Nat×Z5))(e:Nat->Bool)(b:Nat->Option Z5)(f c:Nat->Nat):Prop where
 Z4:∀s a,b s=some a->NL n a (λi=>tok i s)
 bare:∀s,b s=none->∀i,tok i s=.nil
 out:∀i s,n<=i->tok i s=.nil
 Pr:∀i s sp,spec i s=some sp->∃a,b s=some a/\a.toSpec=sp
 ME:∀i s φ a,l i s=some (φ,a)->∃d,b s=some d/\XZ n d (λj=>tok j s)<=φ/\(XZ n d (λj=>tok j s)=φ->d=a)
 YG:∀i s k L g a,b s=some a->tok i s=.ch k (.YG L) g->a.L=L
 par:∀i s m p h,tok i s=.par m p h->i=f s
 QW:∀i s k m g,tok i s=.ch k m g->i≠0/\c i=s/\f s<i
 OB:∀i,i≠0->i<n->∃k m g,tok i (c i)=.ch k m g
 XH:∀i k m g,i≠0->tok i (c i)=.ch k m g->(e i=true↔g≠.work)
 NK:e 0=false
 QV:∀i s,e i=true->s≠c i->Xp (tok i s)
 QU:∀i s k m g a,b s=some a->tok i s=.ch k m g->g≠.work->m=.done\/(m=.idle/\a.ZR=none)
 MD:∀s i j k m g o g',tok i s=.ch k m g->tok j s=.ch k o g'->i=j
 NJ:∀s i k m g q p h,tok i s=.ch k m g->tok (f s) s=.par q p h->k+p<q
 Sy:∀s a,b s=some a->a.L.Nodup/\∀k,k∈a.L↔∃i m g,tok i s=.ch k m g/\QX m
 Pq:∀s a,b s=some a->a.R.Nodup/\∀k,k∈a.R↔∃i m g,tok i s=.ch k m g/\g≠.work
def Alike(t t':Tok):Prop:=(∃m p c a b d,t=.par m p c/\t'=.par a b d/\∀k,k+p<m->k+b<a)\/(∃k m g a g',t=.ch k m g/\t'=.ch k a g')
section
variable{n:Nat}{tok:Nat->Nat->Tok}{spec:Nat->Nat->Option Spec}{view:Nat->Nat->Option (Nat×Z5)}{rel:Nat->Bool}{O:Nat->Option Z5}{Ze home:Nat->Nat}
def XT.lt(h:XT n tok spec view rel O Ze home){i s:Nat}(a:tok i s≠.nil):i<n:=Nat.lt_of_not_le λb=>a (h.out i s b)
def XT.change(h:XT n tok spec view rel O Ze home){s i:Nat}{Q o':Z5}{t t':Tok}{K:Nat->Bool}{V:Nat->Option (Nat×Z5)}(X:O s=some Q)(M:tok i s=t)(N:Alike t t')
  (ae:NL n o' (upd (λj=>tok j s) i t')) (aw:XZ n o' (upd (λj=>tok j s) i t')<XZ n Q (λj=>tok j s)) (af:o'.toSpec=Q.toSpec)
  (ag:∀r φ q,V r=some (φ,q)->(r=s/\φ=XZ n o' (upd (λj=>tok j s) i t')/\q=o')\/(r≠s/\view i r=some (φ,q)))
  (ah:∀j k L g,Zj tok i s t' j s=.ch k (.YG L) g->o'.L=L)
  (ai:∀j k m g,j≠0->Zj tok i s t' j (home j)=.ch k m g->(K j=true↔g≠.work)) (aj:K 0=false)
  (ak:∀j r,K j=true->r≠home j->Xp (Zj tok i s t' j r))
  (al:∀j k m g,Zj tok i s t' j s=.ch k m g->g≠.work->m=.done\/(m=.idle/\o'.ZR=none))
  (am:o'.L.Nodup/\∀k,k∈o'.L↔∃j m g,Zj tok i s t' j s=.ch k m g/\QX m) (an:o'.R.Nodup/\∀k,k∈o'.R↔∃j m g,Zj tok i s t' j s=.ch k m g/\g≠.work) :
  XT n (Zj tok i s t') spec (upd view i V) K (upd O s (some o')) Ze home:=by
 have ax:i<n:=h.lt (s:=s) (by rw[M];rcases N with⟨_,_,_,_,_,_,rfl,_⟩|⟨_,_,_,_,_,rfl,_⟩<;>simp)
 have S:=BV tok i s t'
 have T:∀r,r≠s->(λj=>Zj tok i s t' j r)=λj=>tok j r:=λr u=>ER tok i s t' u
 have D:∀j r,r≠s->Zj tok i s t' j r=tok j r:=λj r u=>congrFun (T r u) j
 have ao:∀j,j≠i->∀r,Zj tok i s t' j r=tok j r:=λj c r=>XI _ λx=>c x.1
 have P:∀j r k m g,Zj tok i s t' j r=.ch k m g->∃l v,tok j r=.ch k l v:=λj r k m g c=>by
  by_cases e:j=i/\r=s
  .obtain⟨rfl,rfl⟩:=e;rw[Xw]at c;rcases N with⟨_,_,_,_,_,_,_,f,_⟩|⟨Y,l,v,E,F,d,f⟩
   .rw[f]at c;cases c
   rw[f]at c;cases c;exact⟨l,v,by rw[M,d]⟩
  rw[XI _ e]at c;exact⟨m,g,c⟩
 have ap:∀j r k m g,tok j r=.ch k m g->∃l v,Zj tok i s t' j r=.ch k l v:=λj r k m g c=>by
  by_cases e:j=i/\r=s
  .obtain⟨rfl,rfl⟩:=e;rw[Xw];rw[M]at c;rcases N with⟨_,_,_,_,_,_,d,_,_⟩|⟨Y,l,v,E,F,d,f⟩
   .rw[d]at c;cases c
   rw[d]at c;cases c;exact⟨E,F,f⟩
  rw[XI _ e];exact⟨m,g,c⟩
 have Z:∀j r m p y,Zj tok i s t' j r=.par m p y->∃l B H,tok j r=.par l B H/\∀k,k+B<l->k+p<m:=λj r m p y c=>by
  by_cases e:j=i/\r=s
  .obtain⟨rfl,rfl⟩:=e;rw[Xw]at c;rcases N with⟨_,_,_,_,_,_,d,f,A⟩|⟨Y,l,v,E,F,d,f⟩
   .rw[f]at c;cases c;exact⟨_,_,_,by rw[M,d],A⟩
   rw[f]at c;cases c
  rw[XI _ e]at c;exact⟨m,p,y,c,λ_ x=>x⟩
 have I:∀r q,upd O s (some o') r=some q->(r=s/\q=o')\/(r≠s/\O r=some q):=λr q o=>by
  by_cases e:r=s
  .subst e;rw[upd_same]at o;cases o;exact .inl ⟨U,U⟩
  rw[upd_ne _ _ e]at o;exact .inr ⟨e,o⟩
 refine⟨λr q o=>?_,λr u j=>?_,λj r c=>?_,λj r sp c=>?_,λj r φ q c=>?_,λj r k L g q o c=>?_,λj r m p y c=>?_,λj r k m g c=>?_,λj aq c=>?_,ai,aj,ak,λj r k m g q o c aa=>?_,λr j ab k m g ar g' d f=>?_,λr j k m g q p y d f=>?_,λr q o=>?_,λr q o=>?_⟩
 .rcases I r q o with⟨rfl,rfl⟩|⟨e,w⟩
  .rw[S];exact ae
  rw[T r e];exact h.Z4 r q w
 .by_cases e:r=s
  .subst e;rw[upd_same]at u;cases u
  rw[upd_ne _ _ e]at u;rw[D j r e];exact h.bare r u j
 .rw[ao j J r];exact h.out j r c
 .obtain⟨q,d,f⟩:=h.Pr j r sp c;by_cases e:r=s
  .subst e;rw[X]at d;cases d;exact⟨o',upd_same ..,by rw[af];exact f⟩
  exact⟨q,by rw[upd_ne _ _ e];exact d,f⟩
 .have ad:∀φ q,view j r=some (φ,q)->∃C,upd O s (some o') r=some C/\XZ n C (λa=>Zj tok i s t' a r)<=φ/\(XZ n C (λa=>Zj tok i s t' a r)=φ->C=q):=λφ q hv=>by
   obtain⟨C,d,f,A⟩:=h.ME j r φ q hv;by_cases e:r=s
   .subst e;rw[X]at d;cases d;rw[upd_same,S];exact⟨o',U,J,λx=>J⟩
   rw[upd_ne _ _ e,T r e];exact⟨C,d,f,A⟩
  by_cases e:j=i
  .subst e;rw[upd_same]at c;rcases ag r φ q c with⟨rfl,rfl,rfl⟩|⟨u,hv⟩
   .rw[upd_same,S];exact⟨_,U,Z3 _,λ_=>rfl⟩
   exact ad φ q hv
  rw[upd_ne _ _ e]at c;exact ad φ q c
 .rcases I r q o with⟨rfl,rfl⟩|⟨e,w⟩
  .exact ah j k L g c
  rw[D j r e]at c;exact h.YG j r k L g q w c
 .obtain⟨l,B,H,d,_⟩:=Z j r m p y c;exact h.par j r l B H d
 .obtain⟨l,v,d⟩:=P j r k m g c;exact h.QW j r k l v d
 .obtain⟨k,m,g,d⟩:=h.OB j aq c;obtain⟨E,F,f⟩:=ap j _ k m g d;exact⟨k,E,F,f⟩
 .rcases I r q o with⟨rfl,rfl⟩|⟨e,w⟩
  .exact al j k m g c aa
  rw[D j r e]at c;exact h.QU j r k m g q w c aa
 .obtain⟨a,b,A⟩:=P j r k m g d;obtain⟨a',au,W⟩:=P ab r k ar g' f;exact h.MD r j ab k a b a' au A W
 .obtain⟨a,b,A⟩:=P j r k m g d;obtain⟨l,B,H,W,av⟩:=Z _ r q p y f;exact av k (h.NJ r j k a b l B H A W)
 .rcases I r q o with⟨rfl,rfl⟩|⟨e,w⟩
  .exact am
  simp only[λj=>D j r e];exact h.Sy r q w
 rcases I r q o with⟨rfl,rfl⟩|⟨e,w⟩
 .exact an
 simp only[λj=>D j r e];exact h.Pq r q w
def wm{b o':Z5}{t t':Tok}(h:Act b t o' t'):Alike t t':=by
 cases h
 case add=>exact .inl ⟨_,_,_,_,_,_,U,U,λk a=>J⟩
 case thru|Cb|wake=>exact .inl ⟨_,_,_,_,_,_,U,U,λk a=>a⟩
 all_goals exact .inr ⟨_,_,_,_,_,U,U⟩
def BU{a o':Z5}{t t':Tok}(h:Act a t o' t'):o'.toSpec=a.toSpec/\o'.L=a.L/\o'.R=a.R:=by
 cases h<;>exact⟨U,U,U⟩
def BT{f o':Z5}{t t':Tok}(h:Act f t o' t'):(∀k m g,t'=.ch k m g->∃a b,t=.ch k a b/\(QX m↔QX a)/\(g=.work↔b=.work)/\(b≠.work->m=a)/\∀L,m=.YG L->a=.YG L)/\(∀k m g,t=.ch k m g->∃c d,t'=.ch k c d/\(QX c↔QX m)/\(d=.work↔g=.work))/\¬Xp t:=by
 refine⟨λk m g e=>?_,λk m g e=>?_,?_⟩
 .cases h<;>cases e<;>exact⟨_,_,U,by simp[QX],o,o,o⟩
 .cases h<;>cases e<;>exact⟨_,_,U,by simp[QX],o⟩
 cases h<;>simp[Xp]
def XT.act(h:XT n tok spec view rel O Ze home){s i:Nat}{o o':Z5}{t t':Tok}(v:O s=some o)(u:tok i s=t)(y:Act o t o' t') :
  XT n (Zj tok i s t') spec (upd view i (upd (view i) s (some (XZ n o' (upd (λj=>tok j s) i t'),o')))) rel (upd O s (some o')) Ze home:=by
 obtain⟨K,M,E⟩:=BT y;have D:i<n:=h.lt (s:=s) (by rw[u];rintro rfl;exact E trivial);obtain⟨F,H,N⟩:=BU y;have C:∀j r k m g,Zj tok i s t' j r=.ch k m g->∃f d,tok j r=.ch k f d/\(QX m↔QX f)/\(g=.work↔d=.work)/\(d≠.work->m=f)/\∀L,m=.YG L->f=.YG L:=λj r k m g c=>by
  by_cases e:j=i/\r=s
  .obtain⟨rfl,rfl⟩:=e;rw[Xw]at c;obtain⟨f,d,l,Υ⟩:=K k m g c;exact⟨f,d,by rw[u,l],Υ⟩
  rw[XI _ e]at c;exact⟨m,g,c,.rfl,.rfl,λ_=>rfl,λ_ x=>x⟩
 have is:∀j k m g,tok j s=.ch k m g->∃A B,Zj tok i s t' j s=.ch k A B/\(QX A↔QX m)/\(B=.work↔g=.work):=λj k m g c=>by
  by_cases e:j=i/\s=s
  .obtain⟨rfl,_⟩:=e;rw[Xw];rw[u]at c;exact M k m g c
  rw[XI _ e];exact⟨m,g,c,.rfl,.rfl⟩
 refine h.change v u (wm y) (⟨wB (h.Z4 s o v).1 D u y,wA (h.Z4 s o v).2 D u y⟩) (B9 D u y) F (λr φ q hv=>?_) (λj k L g c=>?_) (λj k m g P c=>?_) h.NK (λj r c I=>?_) (λj k m g c Q=>?_) ?_ ?_
 .by_cases e:r=s
  .subst e;rw[upd_same]at hv;cases hv;exact .inl ⟨U,U,U⟩
  rw[upd_ne _ _ e]at hv;exact .inr ⟨e,hv⟩
 .obtain⟨f,d,l,_,_,_,Υ⟩:=C j s k _ g c;rw[H];exact h.YG j s k L d o v (by rw[l,Υ L U])
 .obtain⟨f,d,l,_,Υ,_⟩:=C j _ k m g c;rw[h.XH j k f d P l];exact not_congr Υ.symm
 .by_cases e:j=i/\r=s
  .obtain⟨rfl,rfl⟩:=e;have:=h.QV j r c I;rw[u]at this;exact absurd this E
  rw[XI _ e];exact h.QV j r c I
 .obtain⟨f,d,l,_,Υ,p,_⟩:=C j s k m g c;have J:d≠.work:=λx=>Q (Υ.2 x);rw[p J];have:=h.QU j s k f d o v l J;rw[show o'.ZR=o.ZR by rw[F]];exact this
 .obtain⟨a,b⟩:=h.Sy s o v;rw[H];refine⟨a,λk=>(b k).trans ⟨λ⟨j,m,g,l,Υ⟩=>?_,λ⟨j,m,g,l,Υ⟩=>?_⟩⟩
  .obtain⟨A,B,p,w,_⟩:=is j k m g l;exact⟨j,A,B,p,w.2 Υ⟩
  obtain⟨f,d,p,w,_⟩:=C j s k m g l;exact⟨j,f,d,p,w.1 Υ⟩
 obtain⟨a,b⟩:=h.Pq s o v;rw[N];refine⟨a,λk=>(b k).trans ⟨λ⟨j,m,g,l,Υ⟩=>?_,λ⟨j,m,g,l,Υ⟩=>?_⟩⟩
 .obtain⟨A,B,p,_,w⟩:=is j k m g l;exact⟨j,A,B,p,λx=>Υ (w.1 x)⟩
 obtain⟨f,d,p,_,w,_⟩:=C j s k m g l;exact⟨j,f,d,p,λx=>Υ (w.2 x)⟩
def XT.look(h:XT n tok spec view rel O Ze home){s i:Nat}{b:Z5}(f:O s=some b):XT n tok spec (upd view i (upd (view i) s (some (XZ n b (λj=>tok j s),b)))) rel O Ze home:=
 have g:∀j r φ q,upd view i (upd (view i) s (some (XZ n b (λj=>tok j s),b))) j r=some (φ,q)->∃c,O r=some c/\XZ n c (λj=>tok j r)<=φ/\(XZ n c (λj=>tok j r)=φ->c=q):=λj r φ q a=>by
  by_cases e:j=i
  .subst e;rw[upd_same]at a;by_cases d:r=s
   .subst d;rw[upd_same]at a;cases a;exact⟨b,f,Z3 _,λ_=>rfl⟩
   rw[upd_ne _ _ d]at a;exact h.ME j r φ q a
  rw[upd_ne _ _ e]at a;exact h.ME j r φ q a
 {h with ME:=g}
def HT{s i r φ:Nat}{q o':Z5}{z:Nat}(hv:upd (view i) s none r=some (φ,q)):(r=s/\φ=z/\q=o')\/(r≠s/\view i r=some (φ,q)):=by
 by_cases e:r=s
 .subst e;rw[upd_same]at hv;cases hv
 rw[upd_ne _ _ e]at hv;exact .inr ⟨e,hv⟩
def wj{l:Z6}{k:Nat}(h:l.Nodup)(d:k∉l):(l++[k]).Nodup:=by
 rw[J6];exact⟨h,o,λa e b c=>by simp at c;subst c;rintro rfl;exact d e⟩
def XT.EY(h:XT n tok spec view rel O Ze home){s i k:Nat}{f:Z5}(t:O s=some f)(l:tok i s=.ch k .own .work) :
  XT n (Zj tok i s (.ch k (.YG f.L) .work)) spec (upd view i (upd (view i) s none)) rel (upd O s (some f)) Ze home:=by
 have v:i<n:=h.lt (s:=s) (by rw[l];simp)
 have w:Qb f (.ch k .own .work) f (.ch k (.YG f.L) .work):=.EY
 have p:∀j,j≠i->∀r,Zj tok i s (.ch k (.YG f.L) .work) j r=tok j r:=λj c r=>XI _ λx=>c x.1
 have A:=h.QW i s k _ _ l;refine h.change t l (.inr ⟨_,_,_,_,_,U,U⟩) ⟨H0 (h.Z4 s f t).1 v l w,HZ (h.Z4 s f t).2 v l w⟩ (H2 v l w) U (λr φ q hv=>HT hv) (λj o L g c=>?_) (λj o m g B c=>?_) h.NK (λj r c y=>?_) (λj o m g c C=>?_) ?_ ?_
 .by_cases e:j=i
  .subst e;rw[Xw]at c;cases c;rfl
  rw[p j e]at c;exact h.YG j s o L g f t c
 .by_cases e:j=i
  .subst e;have u:home j=s:=A.2.1;rw[u,Xw]at c;cases c;exact h.XH j k .own .work B (by rw[u];exact l)
  rw[p j e]at c;exact h.XH j o m g B c
 .by_cases e:j=i
  .subst e;have u:home j=s:=A.2.1;rw[XI _ (λx=>y (by rw[x.2,u]))];exact h.QV j r c y
  rw[p j e];exact h.QV j r c y
 .by_cases e:j=i
  .subst e;rw[Xw]at c;cases c;exact absurd U C
  rw[p j e]at c;exact h.QU j s o m g f t c C
 .obtain⟨a,b⟩:=h.Sy s f t;refine⟨a,λo=>(b o).trans ⟨λ⟨j,m,g,d,Υ⟩=>?_,λ⟨j,m,g,d,Υ⟩=>?_⟩⟩
  .by_cases e:j=i
   .subst e;rw[l]at d;cases d;exact Υ.elim
   exact⟨j,m,g,by rw[p j e];exact d,Υ⟩
  by_cases e:j=i
  .subst e;rw[Xw]at d;cases d;exact Υ.elim
  exact⟨j,m,g,by rw[p j e]at d;exact d,Υ⟩
 obtain⟨a,b⟩:=h.Pq s f t;refine⟨a,λo=>(b o).trans ⟨λ⟨j,m,g,d,Υ⟩=>?_,λ⟨j,m,g,d,Υ⟩=>?_⟩⟩
 .by_cases e:j=i
  .subst e;rw[l]at d;cases d;exact absurd U Υ
  exact⟨j,m,g,by rw[p j e];exact d,Υ⟩
 by_cases e:j=i
 .subst e;rw[Xw]at d;cases d;exact absurd U Υ
 exact⟨j,m,g,by rw[p j e]at d;exact d,Υ⟩
def XT.wi(h:XT n tok spec view rel O Ze home){s i k:Nat}{L:Z6}{f:Z5}(p:O s=some f)(o:tok i s=.ch k (.YG L) .work) :
  XT n (Zj tok i s (.ch k .fin .work)) spec (upd view i (upd (view i) s none)) rel (upd O s (some {f with L:=f.L++[k]})) Ze home:=by
 have u:i<n:=h.lt (s:=s) (by rw[o];simp)
 have y:Qb f (.ch k (.YG L) .work) {f with L:=f.L++[k]} (.ch k .fin .work):=.wD
 have t:∀j,j≠i->∀r,Zj tok i s (.ch k .fin .work) j r=tok j r:=λj d r=>XI _ λx=>d x.1
 have C:=h.QW i s k _ _ o
 have only:∀j l v g,tok j s=.ch l (.YG v) g->j=i:=λj l v g d=>by
  apply Tn;intro F;have H:j<n:=h.lt (s:=s) (by rw[d];simp);have c:=WK (λa=>tok a s) .nil Vt u;have Υ:=Xj (upd (λa=>tok a s) i .nil) Vt H;rw[upd_ne _ _ F]at Υ;simp only[o,d,Vt,J2]at c Υ;have:=(h.Z4 s f p).1.Ce;have:=(h.Z4 s f p).1.f1;omega
 have I:k∉f.L:=λA=>by
  obtain⟨j,m,g,c,Υ⟩:=((h.Sy s f p).2 k).1 A;have:=h.MD s j i k m g _ _ c o;subst this;rw[o]at c;cases c;exact Υ
 refine h.change p o (.inr ⟨_,_,_,_,_,U,U⟩) ⟨H0 (h.Z4 s f p).1 u o y,HZ (h.Z4 s f p).2 u o y⟩ (H2 u o y) U (λr φ q hv=>HT hv) (λj l v g d=>?_) (λj l m g D d=>?_) h.NK (λj r d B=>?_) (λj l m g d E=>?_) ?_ ?_
 .by_cases e:j=i
  .subst e;rw[Xw]at d;cases d
  rw[t j e]at d;exact absurd (only j l v g d) e
 .by_cases e:j=i
  .subst e;have w:home j=s:=C.2.1;rw[w,Xw]at d;cases d;exact h.XH j k (.YG L) .work D (by rw[w];exact o)
  rw[t j e]at d;exact h.XH j l m g D d
 .by_cases e:j=i
  .subst e;have w:home j=s:=C.2.1;rw[XI _ (λx=>B (by rw[x.2,w]))];exact h.QV j r d B
  rw[t j e];exact h.QV j r d B
 .by_cases e:j=i
  .subst e;rw[Xw]at d;cases d;exact absurd U E
  rw[t j e]at d;exact h.QU j s l m g f p d E
 .obtain⟨a,b⟩:=h.Sy s f p;refine⟨wj a I,λl=>?_⟩;rw[VS,Us];constructor
  .rintro(A|rfl)
   .obtain⟨j,m,g,c,Υ⟩:=(b l).1 A;have e:j≠i:=by rintro rfl;rw[o]at c;cases c;exact Υ
    exact⟨j,m,g,by rw[t j e];exact c,Υ⟩
   exact⟨i,.fin,.work,Xw ..,trivial⟩
  rintro⟨j,m,g,c,Υ⟩;by_cases e:j=i
  .subst e;rw[Xw]at c;cases c;exact .inr U
  rw[t j e]at c;exact .inl ((b l).2 ⟨j,m,g,c,Υ⟩)
 obtain⟨a,b⟩:=h.Pq s f p;refine⟨a,λl=>(b l).trans ⟨λ⟨j,m,g,c,Υ⟩=>?_,λ⟨j,m,g,c,Υ⟩=>?_⟩⟩
 .by_cases e:j=i
  .subst e;rw[o]at c;cases c;exact absurd U Υ
  exact⟨j,m,g,by rw[t j e];exact c,Υ⟩
 by_cases e:j=i
 .subst e;rw[Xw]at c;cases c;exact absurd U Υ
 exact⟨j,m,g,by rw[t j e]at c;exact c,Υ⟩
def XT.wh(h:XT n tok spec view rel O Ze home){s i k:Nat}{p:Tf}{f:Z5}(u:O s=some f)(l:tok i s=.ch k p .work)(w:p=.done\/(p=.idle/\f.ZR=none))(H:∀r,r≠s->Xp (tok i r)) :
  XT n (Zj tok i s (.ch k p .rel)) spec (upd view i (upd (view i) s none)) (upd rel i true) (upd O s (some {f with R:=k::f.R})) Ze home:=by
 have y:i<n:=h.lt (s:=s) (by rw[l];simp)
 have A:Qb f (.ch k p .work) {f with R:=k::f.R} (.ch k p .rel):=.wC w
 have v:∀j,j≠i->∀r,Zj tok i s (.ch k p .rel) j r=tok j r:=λj d r=>XI _ λx=>d x.1
 have B:=h.QW i s k _ _ l
 have I:k∉f.R:=λC=>by
  obtain⟨j,m,g,c,Υ⟩:=((h.Pq s f u).2 k).1 C;have:=h.MD s j i k m g _ _ c l;subst this;rw[l]at c;cases c;exact Υ U
 refine h.change u l (.inr ⟨_,_,_,_,_,U,U⟩) ⟨H0 (h.Z4 s f u).1 y l A,HZ (h.Z4 s f u).2 y l A⟩ (H2 y l A) U (λr φ q hv=>HT hv) (λj t J g d=>?_) (λj t m g K d=>?_) (by rw[upd_ne _ _ (YX B.1)];exact h.NK) (λj r d E=>?_) (λj t m g d L=>?_) ?_ ?_
 .by_cases e:j=i
  .subst e;rw[Xw]at d;rcases w with rfl|⟨rfl,_⟩<;>cases d
  rw[v j e]at d;exact h.YG j s t J g f u d
 .by_cases e:j=i
  .subst e;have D:home j=s:=B.2.1;rw[D,Xw]at d;cases d;rw[upd_same];simp
  rw[v j e]at d;rw[upd_ne _ _ e];exact h.XH j t m g K d
 .by_cases e:j=i
  .subst e;have D:home j=s:=B.2.1;have F:r≠s:=λx=>E (by rw[x,D]);rw[XI _ (λx=>F x.2)];exact H r F
  rw[v j e];rw[upd_ne _ _ e]at d;exact h.QV j r d E
 .by_cases e:j=i
  .subst e;rw[Xw]at d;cases d;exact w
  rw[v j e]at d;exact h.QU j s t m g f u d L
 .obtain⟨a,b⟩:=h.Sy s f u;refine⟨a,λt=>(b t).trans ⟨λ⟨j,m,g,c,Υ⟩=>?_,λ⟨j,m,g,c,Υ⟩=>?_⟩⟩
  .by_cases e:j=i
   .subst e;rw[l]at c;cases c;exact⟨j,p,.rel,Xw ..,Υ⟩
   exact⟨j,m,g,by rw[v j e];exact c,Υ⟩
  by_cases e:j=i
  .subst e;rw[Xw]at c;cases c;exact⟨j,p,.work,l,Υ⟩
  exact⟨j,m,g,by rw[v j e]at c;exact c,Υ⟩
 obtain⟨a,b⟩:=h.Pq s f u;refine⟨Q2.2 ⟨I,a⟩,λt=>?_⟩;rw[YU];constructor
 .rintro(rfl|C)
  .exact⟨i,p,.rel,Xw ..,o⟩
  obtain⟨j,m,g,c,Υ⟩:=(b t).1 C;have e:j≠i:=by rintro rfl;rw[l]at c;cases c;exact Υ U
  exact⟨j,m,g,by rw[v j e];exact c,Υ⟩
 rintro⟨j,m,g,c,Υ⟩;by_cases e:j=i
 .subst e;rw[Xw]at c;cases c;exact .inl U
 rw[v j e]at c;exact .inr ((b t).2 ⟨j,m,g,c,Υ⟩)
def XT.gtake(h:XT n tok spec view rel O Ze home){s i q:Nat}{l:Lf}{b:Z5}(c:O s=some b)(d:tok i s=.par q 0 l)(t:l=.RL\/l=.w4) :
  XT n (Zj tok i s (.par q 0 .Zg)) spec (upd view i (upd (view i) s none)) rel (upd O s (some b)) Ze home:=by
 have o:i<n:=h.lt (s:=s) (by rw[d];simp)
 have p:Qb b (.par q 0 l) b (.par q 0 .Zg):=.gtake t
 have B:∀j,j≠i->∀r,Zj tok i s (.par q 0 .Zg) j r=tok j r:=λj a r=>XI _ λx=>a x.1
 have cs:∀j r k m g,Zj tok i s (.par q 0 .Zg) j r=.ch k m g↔tok j r=.ch k m g:=λj r k m g=>by
  by_cases e:j=i/\r=s
  .obtain⟨rfl,rfl⟩:=e;rw[Xw,d];simp
  rw[XI _ e]
 refine h.change c d (.inl ⟨_,_,_,_,_,_,U,U,λk u=>u⟩) ⟨H0 (h.Z4 s b c).1 o d p,HZ (h.Z4 s b c).2 o d p⟩ (H2 o d p) U (λr φ q hv=>HT hv) (λj f v g a=>?_) (λj f m g w a=>?_) h.NK (λj r a y=>?_) (λj f m g a A=>?_) ?_ ?_
 .rw[cs]at a;exact h.YG j s f v g b c a
 .rw[cs]at a;exact h.XH j f m g w a
 .by_cases e:j=i/\r=s
  .obtain⟨rfl,rfl⟩:=e;rw[Xw];trivial
  rw[XI _ e];exact h.QV j r a y
 .rw[cs]at a;exact h.QU j s f m g b c a A
 .simp only[cs];exact h.Sy s b c
 simp only[cs];exact h.Pq s b c
end
def Sx(b O':Nat->Option Z5):Prop:=(∀s o',O' s=some o'->∃a,b s=some a/\a.toSpec=o'.toSpec)/\∀s a,b s=some a->∃o',O' s=some o'/\a.toSpec=o'.toSpec
def Sx.upd{b:Nat->Option Z5}{s:Nat}{c o':Z5}(d:b s=some c)(h:o'.toSpec=c.toSpec):Sx b (Go.ConcN.upd b s (some o')):=by
 refine⟨λr q a=>?_,λr q a=>?_⟩
 .by_cases e:r=s
  .subst e;rw[upd_same]at a;cases a;exact⟨c,d,h.symm⟩
  rw[upd_ne _ _ e]at a;exact⟨q,a,U⟩
 by_cases e:r=s
 .subst e;rw[d]at a;cases a;exact⟨o',upd_same ..,h.symm⟩
 exact⟨q,by rw[upd_ne _ _ e];exact a,U⟩
section
variable{H:YS->Φ}{Z9:Nat->Nat->Option (ZP×TypeId)}{tok OA:Nat->Nat->Tok}{O O':Nat->Option Z5}{Ze:Nat->Nat}{deaf BS:Nat->Nat}{N Pp:Nat}{t:Trace}{Zy w w':World}
def HS{h:YS}{k:Nat}(d:∀s o',O' s=some o'->∃a,O s=some a/\a.toSpec=o'.toSpec)(e:∀i s,OA i s≠.nil->tok i s≠.nil)(c:UE tok O t h k):UE OA O' t h k:=by
 cases h with
 | inl i=>exact c
 | inr b=>
  refine c.imp id λh s a f g i hi=>?_;obtain⟨j,l,m⟩:=d s a f;exact h s j l (by rw[m];exact g) i (e i s hi)
def Vd.we(h:Vd H Z9 tok O Ze deaf N t)(a:Sx O O')(c:∀i s,OA i s≠.nil->tok i s≠.nil):Vd H Z9 OA O' Ze deaf N t:=
 ⟨h.race,h.low,h.norel,λk=>(h.perms k).mono λ_=>HS a.1 c,h.QY,λs d b e f=>let ⟨g,j,l⟩:=a.1 s d e;h.cont s g b j (by rw[l];exact f),h.hears⟩
def Vq.SG(h:Vq H Z9 O Pp)(f:Sx O O'):Vq H Z9 O' Pp:=
 ⟨h.apart,h.high,h.RH,h.fresh,λs a b c g=>let ⟨i,d,e⟩:=f.1 s a c;h.UF s i b d (by rw[e];exact g),
  λs j a o' b c k g l=>let ⟨i,d,e⟩:=f.1 s a c;let ⟨n,o,p⟩:=f.1 j o' k;h.T4 s j i n b d o (by rw[e];exact g) (by rw[p];exact l),
  λs a m c r=>let ⟨i,d,e⟩:=f.1 s a c;h.P' s i m d (by rw[e];exact r),
  λb g=>h.X2 b λs a c hi=>let ⟨o',d,e⟩:=f.2 s a c;g s o' d (by rw[<-e];exact hi)⟩
def Vd.ext(h:Vd H Z9 tok O Ze deaf N t)(K:Vq H Z9 O Pp)(i:Nat){u:Trace}(P:∀c∈u,c.g=i)(r:∀c∈u,c.act.low N)(S:∀c∈u,∀a,c.act≠.mark (.release a))
  (E:∀c∈u,∀b,c.act.touch?=some b->∃s f l w,O s=some f/\X6 s f.toSpec l/\b.loc=.cell ⟨l,w,none⟩/\(b.kind=.atomic\/(b.kind=.said/\i=Ze s)))
  (hd:∀j,Deaf (t++u) j=BS j):Vd H Z9 tok O Ze BS N (t++u):=by
 refine⟨λT=>noRace_append (h.race T) P λk a n c d b D L=>?_,λc d=>(Q3.1 d).elim (h.low c) (r c),λc d=>(Q3.1 d).elim (h.norel c) (S c),λk=>?_,λj b v hv k a n m=>?_,λs f b Q D k a n m=>?_,hd⟩
 .obtain⟨s,f,l,w,A,B,o,C⟩:=E c d b D;obtain⟨U,_,_,R⟩:=L;have m:RN a.loc l:=by rw[U,o];rfl
  rcases h.cont s f l A B k a n m with F|⟨F,V⟩
  .exfalso;rcases R with x|x|⟨_,x,_⟩
   .rw[F]at x;cases x
   .rcases C with y|⟨y,_⟩<;>(rw[y]at x;cases x)
   rw[F]at x;cases x
  rcases C with y|⟨y,rfl⟩
  .exfalso;rcases R with x|x|⟨_,_,x⟩
   .rw[F]at x;cases x
   .rw[y]at x;cases x
   rw[y]at x;cases x
  obtain⟨z,I,_⟩:=touch_of n;have:=knows_own I;have e:z.g=Ze s:=by simpa[Trace.g?,I] using V
  rwa [e]at this
 .have:Yy (t++u) (UE tok O (t++u) k) (H k):=(h.perms k).others (λx W=>ET _ W) λc d a n=>by
   obtain⟨s,f,l,w,A,B,o,C⟩:=E c d a n;have w:=(K.UF s f l A B).2.1 k;refine⟨λb o' v p r L=>?_,λb r D=>?_⟩
   .rw[o]at r;cases r;exact absurd ⟨_,L⟩ (w.1 _)
   rw[o]at r;cases r
  exact this
 .rcases Sb n with J|⟨_,c,d,_,M⟩
  .exact h.QY j b v hv k a J m
  obtain⟨s,f,l,w,A,B,o,C⟩:=E c d a M;rw[o]at m;simp only[RN]at m;subst m;rw[(K.UF s f l A B).2.2 j]at hv;cases hv
 rcases Sb n with J|⟨_,c,d,X,M⟩
 .rcases h.cont s f b Q D k a J m with x|⟨x,Y⟩
  .exact .inl x
  obtain⟨z,I,_⟩:=touch_of J;exact .inr ⟨x,by rw[g?_old (lt_size_of_getElem? I)];exact Y⟩
 obtain⟨Z,o',l,w,A,B,o,C⟩:=E c d a M;rw[o]at m;simp only[RN]at m;subst m;have es:=K.T4 s Z f o' l Q A D B;subst es;rcases C with x|⟨x,y⟩
 .exact .inl x
 exact .inr ⟨x,by simp[Trace.g?,X,P c d,y]⟩
def Yy.sub{e:Nat->Prop}{G G':Φ}(h:Yy t e G)(f:Sub G' G):Yy t e G':=
 ⟨λb g v p j i a c d k=>let ⟨l,m,n⟩:=f.Α b g v p j;h.Α b g v l m i a c d (k.imp n id),λb ⟨x,o⟩ i a c d=>h.obj b ⟨x,f.obj b x o⟩ i a c d⟩
def Yy.join{g:Nat->Prop}{G E:Φ}(h:Yy t g G)(k:Yy t g E):Yy t g (Go.TL.join G E):=by
 refine⟨λb j v p d i a e f m=>?_,λb n i a e f=>?_⟩
 .simp only[Go.TL.join]at d;cases c:G.Α b j with
  | none=>rw[c]at d;exact k.Α b j v p d i a e f m
  | some y=>rw[c]at d;cases d;exact h.Α b j v p c i a e f m
 obtain⟨x,l⟩:=n;simp only[Go.TL.join]at l;cases c:G.obj b with
 | none=>rw[c]at l;exact k.obj b ⟨x,l⟩ i a e f
 | some y=>exact h.obj b ⟨y,c⟩ i a e f
def Yy.empty{a:Nat->Prop}:Yy t a Φ.empty:=⟨λ_ _ _ _ h=>(by cases h),λ_ ⟨_,h⟩=>(by cases h)⟩
def Yy.release{i b:Nat}{G:Φ}{y:MemOp}(h:Yy t (Knows t i) G)(f:y.g=i)(j:y.act=.mark (.releaseMerge ⟨b,0,none⟩))(hd:Deaf t i=0):Yy (t++#[y]) (UE tok O (t++#[y]) (.inr b)) G:=by
 have l:(t++#[y])[t.size]?=some y:=o
 have s:(t++#[y]).heard t.size:=⟨i,by simp[Trace.g?,f],by rw[deaf_old (Z3 _)];exact hd⟩
 have m:∀k,Knows t i k->UE tok O (t++#[y]) (.inr b) k:=λk u=>.inl ⟨t.size,y,l,j,s,.inr (u.hb_new (Z3 _) l f)⟩
 have nt:∀k a,touchAt (t++#[y]) k=some a->touchAt t k=some a:=λk a c=>by
  rcases Sb c with w|⟨_,D,n,_,r⟩
  .exact w
  simp at n;subst n;rw[j]at r;simp[MemAct.touch?]at r
 exact⟨λd x v p A k a c e B=>m k (h.Α d x v p A k a (nt k a c) e B),λd C k a c e=>m k (h.obj d C k a (nt k a c) e)⟩
def Yy.acquire{i b s:Nat}{c:Z5}{E:Φ}{y:MemOp}(h:Yy t (UE tok O t (.inr b)) E)(F:∀f∈t,∀a,f.act≠.mark (.release a))(H:O s=some c)(j:X6 s c.toSpec b)(hi:tok i s≠.nil)
  (u:y.g=i) (w:y.act=.mark (.acquire ⟨b,0,none⟩)) (hd:Deaf t i=0):Yy (t++#[y]) (Knows (t++#[y]) i) E:=by
 have x:(t++#[y])[t.size]?=some y:=o
 have I:(t++#[y]).heard t.size:=⟨i,by simp[Trace.g?,u],by rw[deaf_old (Z3 _)];exact hd⟩
 have A:∀k,UE tok O t (.inr b) k->Knows (t++#[y]) i k:=λk l=>by
  rcases l with⟨p,f,B,J,K,L⟩|l
  .have m:=lt_size_of_getElem? B;refine⟨t.size,y,x,u,.inr ((L.app #[y]).hb (.single (.inr ⟨.marked (a:=⟨b,0,none⟩) m (.inr ?_) ?_ ?_,(heard_old m).2 K,I⟩)))⟩
   .rw[act?_old m,act?_of B,J]
   .rw[act?_of x,w]
   intro T U M C;rw[act?_old M]at C;obtain⟨N,P,e⟩:=T7.1 C;exact F N (mem_of_getElem? P) _ e
  exact(l s c H j i hi).app _
 have nt:∀k a,touchAt (t++#[y]) k=some a->touchAt t k=some a:=λk a d=>by
  rcases Sb d with Q|⟨_,f,D,_,e⟩
  .exact Q
  simp at D;subst D;rw[w]at e;simp[MemAct.touch?]at e
 exact⟨λn c v p R k a d r S=>A k (h.Α n c v p R k a (nt k a d) r S),λn j k a d r=>A k (h.obj n j k a (nt k a d) r)⟩
def Knows.spawn{i j k:Nat}{y z:MemOp}(h:Knows t i k)(c:y.g=i)(d:y.act=.go j)(a:z.g=j)(f:z.act=.start)(hd:Deaf t i=0)(l:Deaf t j=0):Knows (t++#[y,z]) j k:=by
 have b:(t++#[y,z])[t.size]?=some y:=o
 have e:(t++#[y,z])[t.size+1]?=some z:=o
 have d1:(t++#[y,z]).heard t.size:=⟨i,by simp[Trace.g?,c],by rw[deaf_old (Z3 _)];exact hd⟩
 have d2:(t++#[y,z]).heard (t.size+1):=⟨j,by simp[Trace.g?,a],by
  rw[deaf_succ b];have:deafStep j ((t++#[y,z]).deaf j t.size) y=(t++#[y,z]).deaf j t.size:=by simp[deafStep,d]
  rw[this,deaf_old (Z3 _)];exact l⟩
 have m:=h.hb_new (u:=#[y,z]) (Z3 _) b c
 have Υ:HappensBefore (t++#[y,z]) t.size (t.size+1):=.single (.inr ⟨.spawn (child:=j) (by rw[act?_of b,d]) (by rw[act?_of e,f]) (by simp[Trace.g?,a]),d1,d2⟩);exact⟨t.size+1,z,e,a,.inr (m.trans Υ)⟩
def Sub.refl(G:Φ):Sub G G:=⟨λ_ _ _ p h=>⟨p,h,id⟩,λ_ _ h=>h,λ_ _ h=>h⟩
def Sub.owns{G G':Φ}(h:Sub G' G){b a:Nat}(x:G'.owns b a):G.owns b a:=let ⟨v,hv⟩:=x;let ⟨p,c,d⟩:=h.Α b a v true hv;⟨v,by rw[c,d rfl]⟩
def Sub.has{G G':Φ}(h:Sub G' G){b a:Nat}(x:G'.has b a):G.has b a:=let ⟨v,hv⟩:=x;let ⟨p,c,_⟩:=h.Α b a v.1 v.2 hv;⟨_,c⟩
def Sub.Xy{G G':Φ}(h:Sub G' G){b:Nat}(x:G'.Xy b):G.Xy b:=let ⟨v,hv⟩:=x;⟨v,h.obj b v hv⟩
def Sub.off{G G':Φ}(h:Sub G' G){b:Nat}(x:G.off b):G'.off b:=⟨λc a=>x.1 c (h.has a),λa=>x.2 (h.Xy a)⟩
def Sub.fits{G G':Φ}(h:Sub G' G)(x:Fits G w):Fits G' w:=⟨λb a v p c=>let ⟨e,d,_⟩:=h.Α b a v p c;x.Α b a v e d,λb t n f=>x.row b t n (h.row b _ f),λb v hv=>x.obj b v (h.obj b v hv),λb a v c=>let ⟨e,d,g⟩:=h.Α b a v true c;x.thaw b a v (by rw[d,g rfl])⟩
def Apart.symm{A B:Φ}(h:Apart A B):Apart B A:=⟨h.Qe,h.Α,λb a c=>h.obj b c a⟩
def Apart.sub{A B e B':Φ}(h:Apart A B)(a:Sub e A)(c:Sub B' B):Apart e B':=
 ⟨λb d x y=>h.Α b d (a.owns x) (c.has y),λb d x y=>h.Qe b d (c.owns x) (a.has y),λb x y=>h.obj b (a.Xy x) (c.Xy y)⟩
def Apart.Po(A:Φ):Apart A Φ.empty:=⟨λ_ _ _ ⟨_,h⟩=>(by cases h),λ_ _ ⟨_,h⟩=>(by cases h),λ_ _ ⟨_,h⟩=>(by cases h)⟩
def EP{G E:Φ}{b a:Nat}(h:(join G E).owns b a):G.owns b a\/E.owns b a:=by
 obtain⟨v,hv⟩:=h;simp only[join]at hv;cases c:G.Α b a with
 | none=>rw[c]at hv;exact .inr ⟨v,hv⟩
 | some y=>rw[c]at hv;cases hv;exact .inl ⟨v,c⟩
def BR{G E:Φ}{b a:Nat}(h:(join G E).has b a):G.has b a\/E.has b a:=by
 obtain⟨v,hv⟩:=h;simp only[join]at hv;cases c:G.Α b a with
 | none=>rw[c]at hv;exact .inr ⟨v,hv⟩
 | some y=>exact .inl ⟨y,c⟩
def HR{G E:Φ}{b:Nat}(h:(join G E).Xy b):G.Xy b\/E.Xy b:=by
 obtain⟨v,hv⟩:=h;simp only[join]at hv;cases a:G.obj b with
 | none=>rw[a]at hv;exact .inr ⟨v,hv⟩
 | some y=>exact .inl ⟨y,a⟩
def wc{G E:Φ}{b:Nat}(h:G.off b)(k:E.off b):(join G E).off b:=⟨λc a=>(BR a).elim (h.1 c) (k.1 c),λa=>(HR a).elim h.2 k.2⟩
def JU{G E:Φ}(h:Fits G w)(k:Fits E w):Fits (join G E) w:=by
 refine⟨λb d v p c=>?_,λb t n e=>?_,λb v hv=>?_,λb d v c=>?_⟩
 .simp only[join]at c;cases a:G.Α b d with
  | none=>rw[a]at c;exact k.Α b d v p c
  | some y=>rw[a]at c;cases c;exact h.Α b d v p a
 .simp only[join]at e;cases a:G.row b with
  | none=>rw[a]at e;exact k.row b t n e
  | some y=>rw[a]at e;cases e;exact h.row b t n a
 .simp only[join]at hv;cases a:G.obj b with
  | none=>rw[a]at hv;exact k.obj b v hv
  | some y=>rw[a]at hv;cases hv;exact h.obj b v a
 simp only[join]at c;cases a:G.Α b d with
 | none=>rw[a]at c;exact k.thaw b d v c
 | some y=>rw[a]at c;cases c;exact h.thaw b d v a
def Apart.Pn{A B C:Φ}(h:Apart A C)(k:Apart B C):Apart (join A B) C:=
 ⟨λb a x y=>(EP x).elim (λz=>h.Α b a z y) (λz=>k.Α b a z y),λb a x y=>(BR y).elim (λz=>h.Qe b a x z) (λz=>k.Qe b a x z),λb x y=>(HR x).elim (λz=>h.obj b z y) (λz=>k.obj b z y)⟩
def MC(w:World):Fits Φ.empty w:=⟨λ_ _ _ _ h=>(by cases h),λ_ _ _ h=>(by cases h),λ_ _ h=>(by cases h),λ_ _ _ h=>(by cases h)⟩
def Vq.two(h:Vq H Z9 O Pp){a b:YS}(S:a≠b){A B:Φ}(w:Sub A (join (H a) (H b)))(y:Sub B (join (H a) (H b)))(N:Apart A B)
  (I:Sx O O') (P:∀x,b=.inr x\/a=.inr x->∃s j,O s=some j/\X6 s j.toSpec x):Vq (Zv (Zv H a A) b B) Z9 O' Pp:=by
 have E:=h.SG I
 have o:Zv (Zv H a A) b B a=A:=by rw[Zu _ _ S,Yk]
 have r:Zv (Zv H a A) b B b=B:=Yk _ _ _
 have l:∀k,k≠a->k≠b->Zv (Zv H a A) b B k=H k:=λk d f=>by rw[Zu _ _ f,Zu _ _ d]
 have F:∀k,k≠a->k≠b->Apart (join (H a) (H b)) (H k):=λk d f=>(h.apart a k (YX d)).Pn (h.apart b k (YX f))
 have Q:∀x,(∀k,(H k).off x)->(join (H a) (H b)).off x:=λx g=>wc (g a) (g b)
 have J:∀{p:YS->Prop},p a->p b->(∀k,k≠a->k≠b->p k)->∀k,p k:=λm n T k=>by
  by_cases d:k=a
  .rw[d];exact m
  by_cases f:k=b
  .rw[f];exact n
  exact T k d f
 have R:∀x,(∀k,(H k).off x)->∀k,(Zv (Zv H a A) b B k).off x:=λx g=>J (by rw[o];exact w.off (Q x g)) (by rw[r];exact y.off (Q x g)) (λk d f=>by rw[l k d f];exact g k);refine⟨λp q C=>?_,?_,?_,λi x v hv=>?_,λs j x D g=>?_,E.T4,E.P',λx g=>?_⟩
 .by_cases m:p=a
  .subst m;by_cases t:q=b
   .subst t;rw[o,r];exact N
   rw[o,l q (YX C) t];exact(F q (YX C) t).sub w (Sub.refl _)
  by_cases n:p=b
  .subst n;by_cases u:q=a
   .subst u;rw[o,r];exact N.symm
   rw[r,l q u (YX C)];exact(F q u (YX C)).sub y (Sub.refl _)
  by_cases u:q=a
  .subst u;rw[o,l p m n];exact((F p m n).sub w (Sub.refl _)).symm
  by_cases t:q=b
  .subst t;rw[r,l p m n];exact((F p m n).sub y (Sub.refl _)).symm
  rw[l p m n,l q u t];exact h.apart p q C
 .exact J (λx j c=>by rw[o]at c;exact(EP (w.owns c)).elim (h.high _ _ _) (h.high _ _ _)) (λx j c=>by rw[r]at c;exact(EP (y.owns c)).elim (h.high _ _ _) (h.high _ _ _)) (λk d f x j c=>by rw[l k d f]at c;exact h.high _ _ _ c)
 .exact J (λx c=>by rw[o]at c;exact(HR (w.Xy c)).elim (h.RH _ _) (h.RH _ _)) (λx c=>by rw[r]at c;exact(HR (y.Xy c)).elim (h.RH _ _) (h.RH _ _)) (λk d f x c=>by rw[l k d f]at c;exact h.RH _ _ c)
 .obtain⟨K,L,M⟩:=h.fresh i x v hv;exact⟨K,R x L,M⟩
 .obtain⟨K,L,M⟩:=E.UF s j x D g;exact⟨K,R x L,M⟩
 have U:(.inr x:YS)≠b:=λe=>by
  obtain⟨s,j,D,hi⟩:=P x (.inl e.symm);obtain⟨o',d,f⟩:=I.2 s j D;exact g s o' d (by rw[<-f];exact hi)
 have V:(.inr x:YS)≠a:=λe=>by
  obtain⟨s,j,D,hi⟩:=P x (.inr e.symm);obtain⟨o',d,f⟩:=I.2 s j D;exact g s o' d (by rw[<-f];exact hi)
 rw[l _ V U];exact E.X2 x g
def Sub.Pn{G E A:Φ}(h:Sub A G):Sub A (join G E):=
 ⟨λb c v p d=>let ⟨e,f,g⟩:=h.Α b c v p d;⟨e,by simp[join,f],g⟩,λb x a=>by simp[join,h.row b x a],λb x a=>by simp[join,h.obj b x a]⟩
def Wj.two(h:Wj H Z9 O Zy w){a b:YS}{A B:Φ}(e:Fits A w)(f:Fits B w)(g:∀s o',O' s=some o'->At s o' w):Wj (Zv (Zv H a A) b B) Z9 O' Zy w:=by
 refine⟨λk=>?_,h.Sz,g,h.keep⟩;by_cases c:k=b
 .subst c;rw[Yk];exact f
 rw[Zu _ _ c];by_cases d:k=a
 .subst d;rw[Yk];exact e
 rw[Zu _ _ d];exact h.fit k
def Wj.atom(h:Wj H Z9 O Zy w)(u:Vq H Z9 O Pp)(T:Zy.heap.size=Pp){s:Nat}{d o':Z5}(v:O s=some d)(V:o'.toSpec=d.toSpec)(g:Xe (λb _=>X6 s d.toSpec b) (λ_=>False) w w')(F:At s o' w') :
  Wj H Z9 (Go.ConcN.upd O s (some o')) Zy w':=by
 refine⟨λk=>(h.fit k).keeps g (λb i a=>((u.UF s d b v a).2.1 k).1 i) (λb a=>a.elim),λj b c t a=>?_,λr q o=>?_,?_⟩
 .obtain⟨c',f',l,y,n,A⟩:=g.cells b c t _ (h.Sz j b c t a);have C:¬X6 s d.toSpec b:=λB=>by rw[(u.UF s d b v B).2.2 j]at a;cases a
  have:c'=c:=by
   apply Lm;intro i;exact n i C
  rw[l,this,A.resolve_right λ⟨⟨_,f⟩,_⟩=>C f]
 .by_cases e:r=s
  .subst e;rw[upd_same]at o;cases o;exact F
  rw[upd_ne _ _ e]at o;have D:∀b c t,X6 r q.toSpec b->w.heap[b]?=some (.cells c t (0,0))->w'.heap[b]?=some (.cells c t (0,0)):=λb c t a I=>by
   obtain⟨c',f',l,y,n,A⟩:=g.cells b c t _ I;have:c'=c:=by
    apply Lm;intro i;exact n i λB=>e (u.T4 r s q d b o v a B)
   rw[l,this,A.resolve_right λ⟨⟨_,B⟩,_⟩=>e (u.T4 r s q d b o v a B)]
  obtain⟨⟨J,l⟩,y⟩:=h.XU r q o;exact⟨⟨J,D _ _ _ (.inl U) l⟩,λm E=>let ⟨K,n⟩:=y m E;⟨K,D _ _ _ (.inr E) n⟩⟩
 have p:=h.keep;refine⟨WL p.size g.size,λb c t L a=>?_,λb x a f _=>g.SG b x (p.SG b x a f id) f id,p.os.trans g.os,g.output.trans p.output,g.tape.trans p.tape⟩;obtain⟨M,f1,l,y,n,N⟩:=p.cells b c t L a;obtain⟨P,f2,A,Q,R,S⟩:=g.cells b M t f1 l;have low:¬X6 s d.toSpec b:=λf=>by
  have:=(u.UF s d b v f).1
  have:=XP a;omega
 refine⟨P,f2,A,by rw[Q,y],λi _=>?_,.inl ?_⟩
 .rw[R i low,n i id]
 rw[S.resolve_right λ⟨⟨_,f⟩,_⟩=>low f,N.resolve_right λ⟨⟨_,f⟩,_⟩=>f]
end
structure Ld(H:YS->Φ)(tok:Nat->Nat->Tok)(b:Nat->Option Z5):Prop where
 P9:∀s a m,b s=some a->a.ZR=some m->(∀i q p,tok i s≠.par q p .Zg)->(∀i k L g,tok i s≠.ch k (.YG L) g)->a.Yd a.L (H (.inr m))
 QT:∀s a,b s=some a->(∀i q p,tok i s≠.par q p .Zg)->Ta a.D a.R (H (.inr s))
structure MB(n:Nat)(tok:Nat->Nat->Tok)(d:Nat->Bool)(c a b:Nat->Nat)(t:Trace):Prop where
 Pm:∀k g,t.g? k=some g->g<n
 c1:∀i,i≠0->d i=true->∃e,t[b i]?=some e/\e.g=i/\e.act=.mark (.releaseMerge ⟨a i,0,none⟩)/\t.heard (b i)/\∀k,t.g? k=some i->t.counts k->Before t k (b i)
 c2:∀i,i≠0->d i=true->(∃q p,tok (c (a i)) (a i)=.par q p .Zg)->Knows t (c (a i)) (b i)
 c3:∀i,i≠0->d i=true->c (a i)≠0->d (c (a i))=true->Before t (b i) (b (c (a i)))
structure Oz(d:Nat->Nat->Option (ZP×TypeId))(tok:Nat->Nat->Tok)(e:Nat->Option Z5)(f:Nat->Bool)(h:Nat->Nat)(t:Trace):Prop where
 MA:∀s c m,e s=some c->c.ZR=some m->∀p a,t[p]?=some a->a.act=.mark (.releaseMerge ⟨m,0,none⟩)->(∃k j g,tok a.g s=.ch k j g)/\(f a.g=true->Before t p (h a.g))
 Mz:∀i b v,d i b=some v->∀a∈t,a.act≠.mark (.releaseMerge ⟨b,0,none⟩)
def Rec(P:Program)(d:Value->Prop)(c:YJ)(i:Nat)(g:Goroutine):Prop:=
 ∃Un,UG P d (c.T i) (i==0) Un (c.x i)/\(g=Un\/(Ve Un/\g={Un with status:=.blocked}/\∃s a,c.O s=some a/\Uo a (c.tok i s)/\∀b,b≠s->SA (c.tok i b)))
structure Inv(P:Program)(d:Value->Prop)(b:World)(c:YJ)(a:Array Goroutine)(w:World)(t:Trace):Prop where
 pos:0<a.size
 mem:Wj c.H c.Z9 c.O b w
 hold:Vq c.H c.Z9 c.O b.heap.size
 Zq:Vd c.H c.Z9 c.tok c.O c.Ze c.deaf w.heap.size t
 Y7:XT a.size c.tok c.spec c.view c.rel c.O c.Ze c.home
 X2:Ld c.H c.tok c.O
 X9:MB a.size c.tok c.rel c.Ze c.home c.Xx t
 Wi:Oz c.Z9 c.tok c.O c.rel c.Xx t
 My:∀i g,a[i]?=some g->Rec P d c i g
def JS{t u:Trace}{k:Nat}(h:k<t.size):(t++u).counts k↔t.counts k:=by
 unfold Trace.counts;rw[act?_old h,heard_old h]
def MB.app{n:Nat}{tok l:Nat->Nat->Tok}{m:Nat->Bool}{y A B:Nat->Nat}{t u:Trace}(h:MB n tok m y A B t){i:Nat}(hi:i<n)(C:∀b∈u,b.g=i)
  (F:m i=true->∀k,t.size<=k->¬(t++u).counts k) (Q:∀s q p,(∃j,l j s=.par q p .Zg)->∃j,tok j s=.par q p .Zg) (H:∀j s q p,l j s=.par q p .Zg->tok j s=.par q p .Zg):MB n l m y A B (t++u):=by
 refine⟨λk g o=>?_,λj c a=>?_,λj c a I=>?_,λj c a f r=>(h.c3 j c a f r).app u⟩
 .obtain⟨b,v,d⟩:=T7.1 o;rcases getElem?_append_cases v with⟨_,w⟩|⟨_,x⟩
  .exact h.Pm k g (by simp[Trace.g?,w,d])
  rw[<-d,C b x];exact hi
 .obtain⟨b,f,r,J,K,L⟩:=h.c1 j c a;have D:=lt_size_of_getElem? f;refine⟨b,by rw[getElem?_append_old D];exact f,r,J,(heard_old D).2 K,λk o E=>?_⟩;obtain⟨M,v,d⟩:=T7.1 o;rcases getElem?_append_cases v with⟨N,w⟩|⟨O,x⟩
  .exact(L k (by simp[Trace.g?,w,d]) ((JS N).1 E)).app u
  have e:j=i:=by rw[<-d,C M x]
  subst e;exact absurd E (F a k O)
 obtain⟨q,p,P⟩:=I;exact(h.c2 j c a ⟨q,p,H _ _ _ _ P⟩).app u
section
variable{P:Program}{Q:Value->Prop}{Zy:World}{c:YJ}{gs:Array Goroutine}{w:World}{t:Trace}
def Inv.stat(h:Inv P Q Zy c gs w t){i:Nat}{g:Goroutine}(n:gs[i]?=some g):g.status=.running\/(i≠0/\g.status=.finished/\c.rel i=true/\∀s,Gone (c.tok i s))\/(g.status=.blocked/\∃s k,c.O s=some k/\Uo k (c.tok i s)/\∀l,l≠s->SA (c.tok i l)):=by
 obtain⟨r,d,o⟩:=h.My i g n;rcases o with rfl|⟨_,rfl,p⟩
 .cases m:c.T i with
  | leaf=>
   rw[m]at d;rcases d.2 with⟨_,a⟩|⟨e,a,b,j,_⟩
   .exact .inl a.1.1
   exact .inr (.inl ⟨by rintro rfl;simp at e,j,a,b⟩)
  | node f=>
   rw[m]at d;rcases d.2 with(⟨_,a⟩|⟨e,a,b,j,_⟩)|a
   .exact .inl a.1.1
   .exact .inr (.inl ⟨by rintro rfl;simp at e,j,a,b⟩)
   rcases a with⟨_,b,_⟩|⟨b,_⟩
   .exact .inl b
   exact .inl b.1
 exact .inr (.inr ⟨U,p⟩)
def wb{t:Tok}(h:Q0 t):∃k m g,t=.ch k m g/\¬SA t/\(∀a,¬Uo a t)/\m≠.done/\m≠.idle:=by
 cases t with
 | nil=>exact h.elim
 | par=>exact h.elim
 | ch k m g=>
  refine⟨k,m,g,U,?_⟩;cases m with
  | act b=>cases b<;>first|exact h.elim|simp[SA,Uo]
  | _=>first|exact h.elim|simp[SA,Uo]
def Inv.awake(h:Inv P Q Zy c gs w t):∃(i:Nat)(g:Goroutine),gs[i]?=some g/\g.status=.running:=by
 apply Tn;intro N;have F:∀i,i<gs.size->(c.rel i=true/\∀s,Gone (c.tok i s))\/∃s f,c.O s=some f/\Uo f (c.tok i s)/\∀b,b≠s->SA (c.tok i b):=λi hi=>by
  have C:gs[i]?=some gs[i]:=XV hi;rcases h.stat C with l|⟨_,_,l⟩|⟨_,l⟩
  .exact absurd ⟨i,_,C,l⟩ N
  .exact .inl l
  exact .inr l
 have R:∀i s f n p,c.O s=some f->c.tok i s=.par n p .w3->f.YP=0->∃j b o' y A,i<j/\j<gs.size/\c.O b=some o'/\c.tok j b=.par y A .w3/\o'.YP=0:=λi s f n p u B H=>by
  have S:i<gs.size:=h.Y7.lt (s:=s) (by rw[B];simp);obtain⟨j,I,T⟩:=wv (h.Y7.Z4 s f u).2 (i:=i) S B H;have x:Ps (c.tok j s):=T;have V:∃k m g,c.tok j s=.ch k m g/\g≠.gone:=by
   cases v:c.tok j s with
   | nil=>rw[v]at x;exact x.elim
   | par=>rw[v]at x;exact x.elim
   | ch k m g=>rw[v]at x;exact⟨k,m,g,rfl,by rintro rfl;exact x⟩
  obtain⟨k,m,g,v,C⟩:=V;obtain⟨_,W,av⟩:=h.Y7.QW j s k m g v;have hi:=h.Y7.par i s n p _ B;rcases F j I with⟨_,l⟩|⟨b,o',K,o,aw⟩
  .have:=l s;rw[v]at this;cases g<;>first|exact absurd rfl C|exact this.elim
  by_cases e:b=s
  .subst e;rw[u]at K;cases K;rw[v]at o;have X:m=.q/\f.Yr=0:=by cases m<;>simp_all [Uo]
   obtain⟨rfl,Y⟩:=X;have Z:0<ZO gs.size (λa=>c.tok a b) Te:=by
    have:=Xj (λa=>c.tok a b) Te I;simp only[v,Te,J1]at this;omega
   obtain⟨a,aa,ab⟩:=wx (h.Y7.Z4 b f u).1 Z Y;obtain⟨D,E,g',ad,ae,af,ag,ah⟩:=wb ab;have L:c.tok a b=.ch D E g':=ad;exfalso;rcases F a aa with⟨_,l⟩|⟨ai,ax,ay,aj,ak⟩
   .have M:=l b;rw[L]at M;have:g'≠.work:=by rintro rfl;exact M
    rcases h.Y7.QU a b D E g' f u L this with e|⟨e,_⟩
    .exact ag e
    exact ah e
   by_cases Υ:ai=b
   .subst Υ;exact af _ aj
   exact ae (ak b (YX Υ))
  cases r:c.tok j b with
  | nil=>rw[r]at o;exact o.elim
  | ch D E g'=>exact absurd ((h.Y7.QW j b D E g' r).2.1.symm.trans W) e
  | par y A al=>
   rw[r]at o;cases al<;>first|exact o.elim|exact⟨j,b,o',y,A,J,I,K,r,o⟩
 have am:∀d i s f n p,gs.size-i=d->i<gs.size->c.O s=some f->c.tok i s=.par n p .w3->f.YP=0->False:=λd=>by
  induction d using Nat.strongRecOn with
  | _ d an=>
   intro i s f n p hd hi u B H;obtain⟨j,b,o',y,A,l,ao,ap,aq,ar⟩:=R i s f n p u B H;exact an (gs.size-j) J j b o' y A U ao ap aq ar
 rcases F 0 h.pos with⟨l,_⟩|⟨s,f,u,o,_⟩
 .rw[h.Y7.NK]at l;cases l
 cases r:c.tok 0 s with
 | nil=>rw[r]at o;exact o.elim
 | ch k m g=>exact(h.Y7.QW 0 s k m g r).1 rfl
 | par n p au=>
  rw[r]at o;cases au<;>first|exact o.elim|exact am _ 0 s f n p rfl h.pos u r o
def Rec.woken{c':YJ}{i j:Nat}{g g' b:Goroutine}{w':World}(h:Rec P Q c j b)(k:c'.x j=c.x j)(m:c'.T j=c.T j)
  (hw:(mayWake P g=true/\Ve g')\/∀s l,c.O s=some l->Uo l (c.tok j s)->∃o',c'.O s=some o'/\Uo o' (c.tok j s)):Rec P Q c' j (Go.Conc.woken P g g' w' b):=by
 have r:c'.tok j=c.tok j:=congrArg Z0.tok k;obtain⟨n,d,A⟩:=h;rcases A with rfl|⟨t,rfl,s,l,o,B,C⟩
 .have o:b.status=.running\/b.status=.finished:=by
   cases u:c.T j with
   | leaf=>
    rw[u]at d;rcases d.2 with⟨_,a⟩|⟨_,_,_,p,_⟩
    .exact .inl a.1.1
    exact .inr p
   | node f=>
    rw[u]at d;rcases d.2 with(⟨_,a⟩|⟨_,_,_,p,_⟩)|a
    .exact .inl a.1.1
    .exact .inr p
    rcases a with⟨_,e,_⟩|⟨e,_⟩
    .exact .inl e
    exact .inl e.1
  have:Go.Conc.woken P g g' w' b=b:=by
   unfold Go.Conc.woken;split
   .exact again_running _ o
   rfl
  rw[this];exact⟨b,by rw[k,m];exact d,.inl U⟩
 unfold Go.Conc.woken;split
 .rename_i v;refine⟨n,by rw[k,m];exact d,.inl ?_⟩;obtain⟨w,y⟩:=t;obtain⟨χ,Zg,D,E,of⟩:=n;simp only at w y;subst w y;rfl
 rename_i v;rcases hw with⟨a,e⟩|hw
 .exfalso;apply v;simp[a,e.1]
 obtain⟨o',a,e⟩:=hw s l o B;exact⟨n,by rw[k,m];exact d,.inr ⟨t,U,s,o',a,by rw[r];exact e,by rw[r];exact C⟩⟩
end
section
variable{P:Program}{Q:Value->Prop}{Zy:World}{c:YJ}{gs:Array Goroutine}{w:World}{t:Trace}
def Inv.at(h:Inv P Q Zy c gs w t)(d:Nat):Inv P Q Zy c gs (w.at d) t:=⟨h.pos,h.mem.at d,h.hold,h.Zq,h.Y7,h.X2,h.X9,h.Wi,h.My⟩
def Inv.gone(h:Inv P Q Zy c gs w t)(F:∀s,Xp (c.tok 0 s)):∀j,j≠0->j<gs.size->c.rel j=true/\(∀s,Gone (c.tok j s))/\Knows t 0 (c.Xx j):=by
 have H:∀t:Tok,Xp t->Gone t:=λt d=>by cases t with
  | nil=>trivial
  | par _ _ b=>cases b<;>first|exact d.elim|trivial
  | ch=>exact d.elim
 intro j
 induction j using Nat.strongRecOn with
 | _ j I=>
  intro i l;obtain⟨k,m,g,d⟩:=h.Y7.OB j i l;obtain⟨_,_,J⟩:=h.Y7.QW j _ k m g d;cases A:c.O (c.home j) with
  | none=>have:=h.Y7.bare _ A j;rw[d]at this;cases this
  | some K=>
  have n:=h.Y7.Z4 _ K A;obtain⟨u,B,C⟩:=HY (φ:=XO) (N:=gs.size) (τ:=λa=>c.tok a (c.home j)) (by rw[n.2.RI];exact Nat.one_pos);have L:∃q p b,c.tok u (c.home j)=.par q p b:=by
   cases f:c.tok u (c.home j) with
   | par q p b=>exact⟨q,p,b,rfl⟩
   | nil=>simp[f,XO]at C
   | ch=>simp[f,XO]at C
  obtain⟨q,p,b,f⟩:=L;have M:=h.Y7.par u _ q p b f;subst M;have R:b=.Zg/\(c.Ze (c.home j)≠0->c.rel (c.Ze (c.home j))=true/\Knows t 0 (c.Xx (c.Ze (c.home j)))):=by
   by_cases e:c.Ze (c.home j)=0
   .have:=F (c.home j);rw[<-e,f]at this;refine⟨by cases b<;>first|exact this.elim|rfl,λx=>absurd e x⟩
   obtain⟨v,y,S⟩:=I _ J e B;have:=y (c.home j);rw[f]at this;exact⟨by cases b<;>first|exact this.elim|rfl,λ_=>⟨v,S⟩⟩
  obtain⟨rfl,T⟩:=R;have U:ZO gs.size (λa=>c.tok a (c.home j)) Vr=1:=by
   rw[Qa (φ:=Vr) (λt d=>by cases t<;>simp_all [XO,Vr]) n.2.RI B (by rw[f];rfl),f];rfl
  obtain⟨f1,f2,f3,f4,f5,f6⟩:=n.2.Cc U;have W:=n.2.EZ;have l1:=Xj (λa=>c.tok a (c.home j)) U1 l;have l2:=Xj (λa=>c.tok a (c.home j)) Uq l;have D:=Xj (λa=>c.tok a (c.home j)) Up l;simp only[d,U1,Uq,Up]at l1 l2 D;have V:g=.gone:=by
   cases g with
   | gone=>rfl
   | work=>simp only[OC]at l1;omega
   | rel=>simp only[OC]at l1;omega
   | l2=>simp only[MJ]at l2;omega
   | Qd=>simp only[MI]at D;omega
  subst V;have r:c.rel j=true:=(h.Y7.XH j k m _ i d).2 o;refine⟨r,λs=>?_,?_⟩
  .by_cases e:s=c.home j
   .subst e;rw[d];trivial
   exact H _ (h.Y7.QV j s r e)
  have E:=h.X9.c2 j i r ⟨q,p,f⟩;by_cases e:c.Ze (c.home j)=0
  .rw[e]at E;exact E
  obtain⟨v,y⟩:=T e;exact Knows.of_before (h.X9.c3 j i r e v) y
def wa{a:Z5}{x:Tok}(h:Gone x)(b:∀k m g,x=.ch k m g->m≠.q):¬Uo a x:=by
 cases x with
 | nil=>exact id
 | par _ _ c=>cases c<;>first|exact h.elim|exact id
 | ch k m g=>cases m<;>first|exact absurd rfl (b _ _ _ rfl)|exact id
def Inv.BQ(h:Inv P Q Zy c gs w t){g:Goroutine}(am:gs[0]?=some g)(B:BW P g (c.x 0) Q)(sl:Option (Nat×Nat))(w1:World) :
  ∃v es,stepG P true g w=.ended (.done v) w es/\Good P (λv w'=>Q v/\Xe (λ_ _=>False) (λ_=>False) Zy w') (crowd gs w1 sl) (.done v) w (t++MemOp.ofEvents 0 g.frame.fn g.frame.place es):=by
 obtain⟨_,O,hd,R⟩:=B;obtain⟨v,es,S,V,W⟩:=R w (h.mem.fit (.inl 0));refine⟨v,es,S,v,U,⟨W,h.mem.keep⟩,?_⟩;have E:=h.gone O;have F:=h.Zq.own (w':=w) h.mem h.hold 0 (G':=c.H (.inl 0)) (V':=c.Z9 0) (es:=es) (fn:=g.frame.fn) (pos:=g.frame.place) (Z3 _)
  ⟨λb I v p i=>.inr ⟨v,p,i,id⟩,λb X=>.inr X⟩ (λb x a=>.inl a) V (λb x a an=>by
   have:=XP (h.mem.Sz 0 b x.1 x.2 a);omega)
 have K:∀j x,j≠0->gs[j]?=some x->∃n,QuitsD P n (c.deaf j) x:=λj x d a=>by
  have Y:=(Sd.1 a).1;obtain⟨o,r,_⟩:=E j d Y;obtain⟨Z,u,i⟩:=h.My j x a;have l:∃n,QuitsD P n (c.deaf j) Z:=by
   cases L:c.T j with
   | leaf=>rw[L]at u;exact u.1 o r
   | node f=>rw[L]at u;exact u.1 o r
  rcases i with rfl|⟨_,_,s,I,B,aa,_⟩
  .exact l
  refine absurd aa (wa (r s) λk m g e ab=>?_);subst ab;have ad:g≠.work:=by rintro rfl;have:=r s;rw[e]at this;exact this
  rcases h.Y7.QU j s k _ g I B e ad with x|⟨x,_⟩<;>cases x
 refine⟨F.race,λk g' ae y i=>?_,⟨λx a=>?_,U⟩,λj x a d=>?_⟩
 .obtain⟨ao,af,M⟩:=T7.1 ae;rcases getElem?_append_cases af with⟨ag,ah⟩|⟨_,ai⟩
  .have A:t.g? k=some g':=by simp[Trace.g?,ah,M]
   have aj:=h.X9.Pm k g' A;obtain⟨o,_,ak⟩:=E g' y aj;obtain⟨ap,aq,Υ,ar,au,al⟩:=h.X9.c1 g' y o;obtain⟨q,z,C,N,D⟩:=Knows.of_before (al k A ((JS ag).1 i)) ak;refine⟨q,by simp[Trace.g?,getElem?_append_old (lt_size_of_getElem? C),C,N],?_⟩;rcases D with rfl|D
   .exfalso;simp[Trace.g?,C,N]at A;exact y A.symm
   exact hb_app _ D
  obtain⟨e,_,rfl⟩:=Go.Conc.mem_ofEvents ai;exact absurd M.symm y
 .obtain⟨j,d⟩:=List.mem_iff_getElem?.1 a;rw[Vf]at d;obtain⟨n,l⟩:=K (1+j) x J (by simpa[crowd] using d);exact⟨n,l.leaves⟩
 obtain⟨n,l⟩:=K j x d a;refine⟨n,?_⟩;have e:(t++MemOp.ofEvents 0 g.frame.fn g.frame.place es).deaf j (t++MemOp.ofEvents 0 g.frame.fn g.frame.place es).size=c.deaf j:=F.hears j;rw[e];exact l.hears _
def Comes(P:Program)(Q:Value->Prop)(Zy:World)(m:Machine)(t:Trace):Prop:=
 ∃N a b w' t',runNT P (N+1) m t=(.ended b w',t')/\runN P N m=.next a/\step P a=.ended b w'/\Good P (λv w'=>Q v/\Xe (λ_ _=>False) (λ_=>False) Zy w') a b w' t'
def Comes.next{m a:Machine}{u:Trace}(b:stepT P m=(.next a,u))(h:Comes P Q Zy a (t++u)):Comes P Q Zy m t:=by
 obtain⟨n,last,c,w,t',d,e,f,g⟩:=h;exact⟨n+1,last,c,w,t',by rw[runNT_succ_next b];exact d,by rw[runN_succ_next b];exact e,f,g⟩
def Comes.last{m:Machine}{u:Trace}{a:Outcome}{w:World}(b:stepT P m=(.ended a w,u))(c:Good P (λv w'=>Q v/\Xe (λ_ _=>False) (λ_=>False) Zy w') m a w (t++u)):Comes P Q Zy m t:=
 ⟨0,m,a,w,t++u,by simp[runNT,b],U,by simp[step,b],c⟩
def Lc(gs:Array Goroutine):Nat:=(gs.toList.filter λg=>decide (g.status=.running)).length
structure Ord(a:Z6)(n:Nat):Prop where
 nodup:a.Nodup
 mem:∀i,i∈a↔i<n
def Ord.part{c:Z6}{n i:Nat}(h:Ord c n)(hi:i<n):∃a b,c=a++i::b/\i∉a/\i∉b:=by
 obtain⟨a,b,rfl⟩:=List.append_of_mem ((h.mem i).2 hi);have:=h.nodup;rw[J6]at this;obtain⟨_,d,e⟩:=this;rw[Q2]at d;exact⟨a,b,U,λf=>e i f i o U,d.1⟩
def Lb{B:Type}{T:Nat->B}{i:Nat}{x:B}{l:Z6}(h:i∉l):l.map (upd T i x)=l.map T:=by
 apply Ih;intro j a;exact upd_ne _ _ (λe=>h (e▸a))
def Ord.one{B:Type}{c:Z6}{n i:Nat}(h:Ord c n)(hi:i<n){T:Nat->WJ B}{f:B->WJ B}(d:T i=.node f)(k:B):R' (c.map (upd T i (f k))) (c.map T):=by
 obtain⟨a,b,rfl,e,g⟩:=h.part hi;simp only[WT,WY,Lb e,Lb g,upd_same,d];exact .one _ _ _ _
def Ord.two{B:Type}{g:Z6}{n i:Nat}(h:Ord g n)(hi:i<n){T:Nat->WJ B}{f:B->WJ B}(u:T i=.node f)(k v:B) :
  ∃m,Ord m (n+1)/\R' (m.map (upd (upd T i (f k)) n (f v))) (g.map T):=by
 have p:n∉g:=λc=>by have:=(h.mem n).1 c;omega
 obtain⟨a,b,rfl,w,A⟩:=h.part hi;have r:n∉a:=λc=>p (by simp[c]);have s:n∉b:=λc=>p (by simp[c]);refine⟨a++i::n::b,⟨?_,λj=>?_⟩,?_⟩
 .have:=h.nodup;rw[J6]at this ⊢;obtain⟨C,l,t⟩:=this;rw[Q2]at l;refine⟨C,?_,λx c y d=>?_⟩
  .rw[Q2,Q2];exact⟨by simp;exact⟨J,l.1⟩,s,l.2⟩
  simp at d;rcases d with rfl|rfl|d
  .exact t x c _ o
  .rintro rfl;exact r c
  exact t x c y (by simp[d])
 .have:=h.mem j;simp only[VS,YU]at this ⊢;constructor
  .rintro(c|rfl|rfl|c)
   .have:=this.1 (.inl c);omega
   .omega
   .omega
   have:=this.1 (.inr (.inr c));omega
  intro c;by_cases e:j=n
  .exact .inr (.inr (.inl e))
  rcases this.2 J with c|rfl|c
  .exact .inl c
  .exact .inr (.inl U)
  exact .inr (.inr (.inr c))
 have D:i≠n:=by omega
 simp only[WT,WY,Lb r,Lb s,Lb w,Lb A,upd_same,upd_ne _ _ D,u];exact .two _ _ _ _ _
end
end Go.TL
