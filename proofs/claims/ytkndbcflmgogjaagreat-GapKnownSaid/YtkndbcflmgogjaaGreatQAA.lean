import Derived.Conc.Beside
import Derived.Conc.CrowdBase
import Derived.Conc.MuSpec
import GoSem.Core.World
set_option maxHeartbeats 16000000
set_option maxRecDepth 20000
set_option linter.unusedSectionVars false
set_option linter.unusedSimpArgs false
set_option linter.unusedVariables false
namespace Go.TL
abbrev ν:=Array Value
abbrev κ:=List Nat
abbrev ZA:=List Item
abbrev Α:=List Int
abbrev Y3:=List Frame
abbrev ZI:=Array Oper
abbrev Xt:=Int×Int
theorem U {b:Sort _} {a:b}:a=a:=rfl
abbrev Ζ:=@Nat.zero_le
abbrev ZY:=@Nat.le_refl
abbrev Zh:=@List.mem_map
abbrev Ys:=@List.getElem?_map
abbrev Yq:=@List.getElem_mem
abbrev VW:=@List.take_succ_eq_append_getElem
abbrev Xs:=@List.getElem?_set_self
abbrev Xr:=@Array.getElem?_toList
abbrev Xb:=@List.take_of_length_le
abbrev Wn:=@Array.getD_eq_getD_getElem?
abbrev Xj:=@List.getElem?_set_ne
abbrev W4:=@List.getElem?_eq_none
abbrev V7:=@List.getD_eq_getElem?_getD
abbrev Xq:=@Bool.false_eq_true
abbrev XJ:=@List.all_eq_true
abbrev UK:=@Array.getElem?_setIfInBounds_ne
abbrev Yd:=@List.mem_cons
abbrev Ts:=@Array.getElem?_setIfInBounds_self_of_lt
abbrev Vx:=@Array.size_setIfInBounds
abbrev YV:=@Ne.symm
abbrev WU:=@Option.some.inj
abbrev Wm:=@Bool.and_eq_true
abbrev Vo:=@Nat.mul_le_mul_right
abbrev TW:=@Classical.byContradiction
abbrev XF:=@Nat.add_mul
abbrev Tr:=@Array.getElem?_eq_some_iff
abbrev TV:=@List.getElem?_take_of_lt
abbrev Uh:=@Option.map_eq_some_iff
abbrev Va:=@List.getElem?_drop
abbrev VV:=@List.map_append
abbrev Vw:=@List.not_mem_nil
abbrev U':=@List.ext_getElem?
abbrev X':=@Eq.trans
abbrev V6:=@List.map_cons
abbrev VN:=@List.mem_range
abbrev TU:=@List.getElem?_of_mem
abbrev V5:=@Nat.zero_add
abbrev Uv:=@List.mem_append
abbrev Pj:=@Array.eq_empty_of_size_eq_zero
abbrev U9:=@Nat.add_assoc
abbrev Tq:=@List.append_assoc
abbrev Ug:=@List.append_nil
abbrev Tp:=@List.isEmpty_iff
abbrev U8:=@Nat.succ_pos
abbrev Sm:=@List.length_append
abbrev UJ:=@Nat.lt_trans
abbrev To:=@List.mem_filter
abbrev Ph:=@List.drop_eq_getElem_cons
abbrev Qf:=@List.drop_eq_nil_of_le
abbrev RJ:=@List.getElem?_take
abbrev SJ:=@List.length_map
abbrev RI:=@Array.mem_append
abbrev Q6:=@Option.some.injEq
abbrev Pg:=@List.length_pos_iff
abbrev Nx:=@Array.getElem?_replicate
abbrev Q5:=@List.nodup_cons
abbrev Q4:=@List.range_succ
abbrev Qe:=@List.any_eq_true
abbrev Me:=@Array.getElem?_append_left
abbrev SI:=@Nat.mul_one
abbrev Pf:=@List.foldl_append
abbrev Om:=@List.getElem_of_mem
abbrev Qd:=@Bool.eq_iff_iff
abbrev RH:=@Nat.le_trans
abbrev Ol:=@List.mem_singleton
abbrev Oj:=@Array.getElem?_map
abbrev RG:=@Nat.le_of_lt
abbrev Oi:=@Array.append_empty
abbrev Pe:=@Nat.lt_succ_self
abbrev Nw:=@List.mem_of_mem_take
abbrev Md:=@Array.getElem?_eq_none
abbrev Qc:=@List.map_take
abbrev Oh:=@Nat.mod_eq_of_lt
abbrev Nv:=@Array.append_assoc
abbrev Mc:=@List.length_filter_le
abbrev Mb:=@Array.getElem?_push
abbrev Ma:=@List.mergeSort_perm
abbrev Nu:=@List.take_length
abbrev L':=@Array.ext_getElem?
abbrev I':=@Array.getElem?_append_right
abbrev L9:=@Nat.lt_of_le_of_lt
abbrev KR:=@Array.getElem?_modify
abbrev I9:=@List.pairwise_iff_getElem
abbrev KQ:=@List.mem_cons_of_mem
abbrev I8:=@List.mem_take_iff_getElem
abbrev Nt:=@Array.mem_push
abbrev L8:=@List.filter_cons
abbrev I7:=@List.Perm.eq_of_pairwise
abbrev KP:=@List.flatMap_append
abbrev I6:=@List.getElem?_replicate
abbrev I5:=@List.pairwise_mergeSort
abbrev KO:=@Nat.lt_of_lt_of_le
abbrev KN:=@List.mem_cons_self
abbrev I4:=@Array.mem_iff_getElem?
abbrev KM:=@List.nodup_append
abbrev KL:=@List.any_eq_false
abbrev Ns:=@Nat.lt_or_ge
abbrev Nr:=@Nat.zero_mul
abbrev I3:=@List.contains_iff_mem
abbrev Nq:=@List.map_map
abbrev I2:=@ByteArray.size_append
abbrev Og:=@Array.ext'
abbrev KJ:=@List.length_take
abbrev I1:=@List.range_eq_range'
abbrev I0:=@List.length_eraseIdx
abbrev KI:=@List.mem_flatMap
abbrev IZ:=@List.pairwise_append
abbrev F1:=@List.length_eraseIdx_of_lt
abbrev F0:=@List.mergeSort_of_pairwise
abbrev IY:=@List.map_congr_left
abbrev IX:=@List.getElem?_range
abbrev IW:=@Array.all_eq_true'
abbrev IV:=@List.filter_append
abbrev L7:=@List.map_nil
abbrev FZ:=@List.length_filterMap_le
abbrev Np:=@Int.not_lt
abbrev No:=@Nat.mod_lt
abbrev IU:=@Array.size_append
abbrev IT:=@List.length_range
abbrev IS:=@List.all_eq_false
abbrev IQ:=@Bool.eq_false_iff
abbrev FY:=@List.length_eq_one_iff
abbrev FX:=@ByteArray.append_assoc
abbrev KH:=@Nat.add_comm
theorem Z4 {a : Type _} {l : List a} {i : Nat} (h : i < l.length) : l[i]? = some l[i] := List.getElem?_eq_getElem h
theorem ZR {b : Type _} {l : List b} {i : Nat} {a : b} : l[i]? = some a ↔ ∃ h : i < l.length, l[i] = a := List.getElem?_eq_some_iff
theorem ZH {b : Type _} {l : List b} {i : Nat} {a : b} (e : l[i]? = some a) : a ∈ l := List.mem_of_getElem? e
theorem YZ {a : Type _} {l : List a} : l.length = 0 ↔ l = [] := List.length_eq_zero_iff
theorem YN {b : Type _} {a c : List b} {i : Nat} (d : i < a.length) : (a ++ c)[i]? = a[i]? := List.getElem?_append_left d
theorem Xz {c : Type _} {a b : List c} {i : Nat} (h : a.length <= i) : (a ++ b)[i]? = b[i - a.length]? := List.getElem?_append_right h
theorem YS {b : Type _} {a : Array b} {i : Nat} (h : i < a.size) : a[i]? = some a[i] := Array.getElem?_eq_getElem h
theorem I {p:Prop} (h:p:=by omega):p:=h
theorem X9 {p:Prop} (h:p:=by(try simp only);omega):p:=h
theorem Ω {p:Prop} (h:p:=by simp):p:=h
theorem Z7 {p:Prop} (h:p:=by decide):p:=h
theorem Wy {b:Sort _} (a:b):∃x,a=x:=⟨a,rfl⟩
theorem Z' {b:Sort _} (a:b):∃x,x=a:=⟨a,rfl⟩
def Obj.Pd:Obj->Bool
 | .cells ..=>true
 | _=>false
structure Υ where
 ω:Nat->Nat->Option (Value×Bool)
 row:Nat->Option (TypeId×Nat)
 obj:Nat->Option Obj
def Υ.empty:Υ:=⟨λ_ _=>none,λ_=>none,λ_=>none⟩
end Go.TL
namespace Go.TL
open Go.Conc
open Go.ConcM (OsLater)
structure Fits (G:Υ) (w:World):Prop where
 ω:∀b o v p,G.ω b o=some (v,p)->w.cell? ⟨b,o,none⟩=some v
 row:∀b t n,G.row b=some (t,n)->∃c a,w.heap[b]?=some (.cells c t a)/\c.size=n
 obj:∀b x,G.obj b=some x->w.heap[b]?=some x/\Obj.Pd x=false
 thaw:∀b o v,G.ω b o=some (v,true)->w.frozen? ⟨b,o,none⟩=false
def Υ.owns (G:Υ) (b o:Nat):Prop:=∃v,G.ω b o=some (v,true)
def Υ.has (G:Υ) (b o:Nat):Prop:=∃x,G.ω b o=some x
def Υ.XI (G:Υ) (b:Nat):Prop:=∃x,G.obj b=some x
structure Apart (G H:Υ):Prop where
 ω:∀b o,G.owns b o->¬H.has b o
 Q3:∀b o,H.owns b o->¬G.has b o
 obj:∀b,G.XI b->¬H.XI b
def Υ.off (G:Υ) (b:Nat):Prop:=(∀o,¬G.has b o)/\¬G.XI b
structure Xp (a:Nat->Nat->Prop) (f:Nat->Prop) (w w':World):Prop where
 size:w.heap.size<=w'.heap.size
 cells:∀b c t d,w.heap[b]?=some (.cells c t d)->∃c' e,w'.heap[b]?=some (.cells c' t e)/\c'.size=c.size/\(∀o,¬a b o->c'[o]?=c[o]?)/\(e=d\/(∃o,a b o)/\∀o,o<c.size->a b o)
 Tn:∀b x,w.heap[b]?=some x->Obj.Pd x=false->¬f b->w'.heap[b]?=some x
 os:OsLater w.os w'.os
 output:w'.output=w.output
 tape:w'.tape=w.tape
theorem XY {w:World} {b:Nat} {x:Obj} (h:w.heap[b]?=some x):b<w.heap.size:=by
 rcases Ns b w.heap.size with a|a
 .exact a
 .rw[Md a] at h;cases h
theorem Tm {w:World} {b o:Nat} {v:Value} (h:w.cell? ⟨b,o,none⟩=some v):∃c t d,w.heap[b]?=some (.cells c t d)/\c[o]?=some v:=by
 unfold World.cell? at h;cases a:w.heap[b]? with
 | none=>simp[a] at h
 | some x=>
  cases x<;>simp[a] at h;exact⟨_,_,_,U,h⟩
theorem Tl {w:World} {b o:Nat} {v:Value} {c:ν} {t:TypeId} {a:Nat×Nat} (h:w.heap[b]?=some (.cells c t a)) (hv:c[o]?=some v):w.cell? ⟨b,o,none⟩=some v:=by
 simp[World.cell?,h,hv]
theorem Xp.refl (a:Nat->Nat->Prop) (d:Nat->Prop) (w:World):Xp a d w w:=
 ⟨ZY _,λb c t e h=>⟨c,e,h,U,λ_ _=>rfl,.inl U⟩,λ_ _ h _ _=>h,OsLater.refl _,U,U⟩
theorem Fits.keeps {i:Nat->Nat->Prop} {j:Nat->Prop} {w w':World} {H:Υ} (d:Fits H w) (f:Xp i j w w') (k:∀b o,i b o->¬H.has b o) (m:∀b,j b->¬H.XI b):Fits H w':=by
 refine⟨λb o v p h=>?_,λb t n h=>?_,λb x h=>?_,λb o v h=>?_⟩
 .obtain⟨c,t,g,a,hv⟩:=Tm (d.ω b o v p h);obtain⟨c',f',e,_,r,_⟩:=f.cells b c t g a;exact Tl e (by rw[r o λx=>k b o x ⟨_,h⟩];exact hv)
 .obtain⟨c,g,a,s⟩:=d.row b t n h;obtain⟨c',f',e,u,_⟩:=f.cells b c t _ a;exact⟨c',f',e,by rw[u,s]⟩
 .obtain⟨a,l⟩:=d.obj b x h;exact⟨f.Tn b x a l λy=>m b y ⟨_,h⟩,l⟩
 .have A:=d.thaw b o v h;obtain⟨c,t,g,a,hv⟩:=Tm (d.ω b o v true h);obtain⟨c',f',e,_,_,rfl|⟨_,B⟩⟩:=f.cells b c t g a
  .simpa[World.frozen?,a,e] using A
  .exact absurd ⟨_,h⟩ (k b o (B o (Tr.1 hv).1))
theorem Fits.at {H:Υ} {w:World} (h:Fits H w) (d:Nat):Fits H (w.at d):=⟨h.ω,h.row,h.obj,h.thaw⟩
structure YB (t:Trace) (c:Nat->Prop) (G:Υ):Prop where
 ω:∀b o v p,G.ω b o=some (v,p)->∀i a,touchAt t i=some a->a.loc=.cell ⟨b,o,none⟩->(p=true\/a.write=true)->c i
 obj:∀b,G.XI b->∀i a,touchAt t i=some a->a.loc=.obj b->c i
theorem YB.mono {t:Trace} {e f:Nat->Prop} {G:Υ} (h:YB t e G) (g:∀i,e i->f i):YB t f G:=
 ⟨λb o v p j i a c d k=>g i (h.ω b o v p j i a c d k),λb l i a c d=>g i (h.obj b l i a c d)⟩
def Sl (l:Loc) (b:Nat):Prop:=
 match l with
 | .cell a=>a.block=b
 | .obj r=>r=b
 | _=>False
def Wl (G:Υ) (n b:Nat) (e:Event):Prop:=
 match e.loc with
 | .cell a=>(n<=a.block/\a.block<b)\/(a.spot=none/\(if e.write then G.owns a.block a.off else G.has a.block a.off))
 | .obj r=>e.sync=false/\((n<=r/\r<b)\/G.XI r)
 | .output=>True
 | .goroutines=>False
 | .mark m=>m=.noRoom\/(∃f,m=.extern f)\/∃a:Addr,(m=.acquire a\/m=.releaseMerge a)/\a.spot=none/\G.owns a.block a.off
theorem SH {t u:Trace} {i:Nat} {a:Touch} (h:touchAt (t++u) i=some a):touchAt t i=some a\/(t.size<=i/\∃b∈u,(t++u)[i]?=some b/\b.act.touch?=some a):=by
 obtain⟨x,c,d⟩:=touch_of h;rcases getElem?_append_cases c with⟨_,e⟩|⟨f,g⟩
 .exact .inl (by rw[touchAt_of e];exact d)
 .exact .inr ⟨f,x,g,c,d⟩
theorem YB.own {t u:Trace} {i:Nat} {G:Υ} (h:YB t (Knows t i) G) (m:∀c∈u,c.g=i):YB (t++u) (Knows (t++u) i) G:=by
 refine⟨λb o v p n k a d e r=>?_,λb s k a d e=>?_⟩
 .rcases SH d with f|⟨_,c,j,l,_⟩
  .exact(h.ω b o v p n k a f e r).app u
  .have:=knows_own l;rwa [m c j] at this
 .rcases SH d with f|⟨_,c,j,l,_⟩
  .exact(h.obj b s k a f e).app u
  .have:=knows_own l;rwa [m c j] at this
theorem YB.others {t u:Trace} {l m:Nat->Prop} {G:Υ} (h:YB t l G) (n:∀i,l i->m i)
  (r:∀c∈u,∀a,c.act.touch?=some a->(∀b o v p,a.loc=.cell ⟨b,o,none⟩->G.ω b o=some (v,p)->p=false/\a.write=false)/\∀b,a.loc=.obj b->¬G.XI b):YB (t++u) m G:=by
 refine⟨λb o v p s k a e d hw=>?_,λb w k a e d=>?_⟩
 .rcases SH e with f|⟨_,c,g,_,j⟩
  .exact n _ (h.ω b o v p s k a f d hw)
  .have:=((r c g a j).1 b o v p d s);rcases hw with hw|hw
   .rw[this.1] at hw;cases hw
   .rw[this.2] at hw;cases hw
 .rcases SH e with f|⟨_,c,g,_,j⟩
  .exact n _ (h.obj b w k a f d)
  .exact absurd w ((r c g a j).2 b d)
end Go.TL
namespace Go.TL
open Go.Conc
open Go.ConcN (sumTo upd sumTo_upd upd_ne upd_same sumTo_congr le_sumTo)
inductive TT where
 | idle|act (a:Bool)|q|wk|hw|own|YJ (L:κ)|fin|uc|us|done
inductive Of where
 | work|rel|l2|Q2|gone
inductive Pb where
 | add|w3|w4|Sk|YG
inductive Tok where
 | nil
 | par (n pend:Nat) (a:Pb)
 | ch (k:Nat) (b:TT) (c:Of)
structure Spec where
 ZS:Option Nat
 X1:κ->Υ->Prop
 D:Nat->Υ->Prop
 top:Nat
structure γ extends Spec where
 Y4:Nat
 wk:Nat
 sv:Nat
 nw:Nat
 Yz:Nat
 L:κ
 cnt:Nat
 wt:Nat
 YM:Nat
 R:κ
def KG:TT->Nat|.own|.YJ _|.fin=>1|_=>0
def VM:Tok->Nat|.ch _ m _=>KG m|_=>0
def IP:TT->Nat|.us|.wk|.hw=>1|_=>0
def Sj:Tok->Nat|.ch _ m _=>IP m|_=>0
def Nn:TT->Nat|.act true=>1|_=>0
def Tk:Tok->Nat|.ch _ m _=>Nn m|_=>0
def KF:TT->Nat|.q=>1|_=>0
def TS:Tok->Nat|.ch _ m _=>KF m|_=>0
def IN:TT->Nat|.hw=>1|_=>0
def SG:Tok->Nat|.ch _ m _=>IN m|_=>0
def FW:TT->Nat|.wk=>1|_=>0
def Qb:Tok->Nat|.ch _ m _=>FW m|_=>0
def KE:TT->Nat|.wk|.hw=>1|_=>0
def TR:Tok->Nat|.ch _ m _=>KE m|_=>0
def FV:TT->Nat|.us=>1|_=>0
def Qa:Tok->Nat|.ch _ m _=>FV m|_=>0
def IM:TT->Nat|.uc=>1|_=>0
def Si:Tok->Nat|.ch _ m _=>IM m|_=>0
def Pa:Of->Nat|.work|.rel=>1|_=>0
def Vn:Tok->Nat|.ch _ _ g=>Pa g|_=>0
def Nm:Of->Nat|.l2=>1|_=>0
def UI:Tok->Nat|.ch _ _ g=>Nm g|_=>0
def Nl:Of->Nat|.Q2=>1|_=>0
def UH:Tok->Nat|.ch _ _ g=>Nl g|_=>0
def TQ:Tok->Nat|.ch ..=>1|_=>0
def XX:Tok->Nat|.par ..=>1|_=>0
def Wk:Tok->Nat|.par _ p _=>p|_=>0
def VL:Tok->Nat|.par n _ _=>n|_=>0
def Tj:Tok->Nat|.par _ _ .add=>1|_=>0
def TP:Tok->Nat|.par _ _ .w3=>1|_=>0
def VK:Tok->Nat|.par _ _ .w4|.par _ _ .Sk|.par _ _ .YG=>1|_=>0
def Nk:TT->Nat
 | .idle=>20|.act false=>19|.act true=>18|.q=>12|.wk=>20|.hw=>19|.own=>14|.YJ _=>13|.fin=>12|.uc=>11|.us=>10|.done=>0
def IL:Of->Nat
 | .work=>6|.rel=>5|.l2=>4|.Q2=>3|.gone=>0
def L6:Pb->Nat
 | .add=>8|.w3=>6|.w4=>3|.Sk=>3|.YG=>0
def Ti (a:Nat):Tok->Nat
 | .nil=>0
 | .par n p b=>(a-n)*100+p*50+L6 b
 | .ch _ m w=>Nk m+IL w
def ZQ (N:Nat) (τ:Nat->Tok) (φ:Tok->Nat):Nat:=sumTo N λi=>φ (τ i)
theorem W0 {N i:Nat} (τ:Nat->Tok) (t:Tok) (φ:Tok->Nat) (h:i<N):ZQ N (upd τ i t) φ+φ (τ i)=ZQ N τ φ+φ t:=sumTo_upd τ t φ h
theorem Xy {N i:Nat} (τ:Nat->Tok) (φ:Tok->Nat) (h:i<N):φ (τ i)<=ZQ N τ φ:=le_sumTo (f:=λi=>φ (τ i)) h
def X6 (N:Nat) (o:γ) (τ:Nat->Tok):Nat:=ZQ N τ (Ti o.top)+9*o.Yz+2*o.YM
structure yq (a b c d e l f h i j g k m n:Nat):Prop where
 f1:a<=1
 f2:b<=1
 f3:c<=1
 C6:l=a
 k9:c=0->f+e+h=b/\j=0/\d+k+e=i
 k8:c=1->b=0/\h=0/\a+f+e=1/\d=i+g
 k7:c=0->a=0->0<d->b=0->0<m
 k6:k+g=f
 k5:j+n=g
structure yp (cnt wt a e f l2 b g h pend n add c d:Nat):Prop where
 f4:wt<=1
 Sg:h=1
 FU:cnt=pend+f
 C5:g+pend=n
 k4:n<=e
 k3:add=1->wt=0/\a=0/\l2=0/\b=0
 yo:c=1->pend=0/\((wt=1/\b=0/\a=0/\((cnt=0/\l2=1)\/(0<cnt/\l2=0)))\/(wt=0/\cnt=0/\l2=0/\b+a=1))
 C4:d=1->pend=0/\wt=0/\a=0/\cnt=0/\l2=0/\b=0
 k2:add+c+d=1
def Q1 (N:Nat) (o:γ) (τ:Nat->Tok):Prop:=
 yq o.Y4 o.wk o.sv o.nw o.Yz (ZQ N τ VM) (ZQ N τ Sj) (ZQ N τ Tk) (ZQ N τ TS) (ZQ N τ SG) (ZQ N τ TR) (ZQ N τ Qa) (ZQ N τ Si) (ZQ N τ Qb)
def RF (N:Nat) (o:γ) (τ:Nat->Tok):Prop:=
 yp o.cnt o.wt o.YM o.top (ZQ N τ Vn) (ZQ N τ UI) (ZQ N τ UH) (ZQ N τ TQ) (ZQ N τ XX) (ZQ N τ Wk) (ZQ N τ VL) (ZQ N τ Tj) (ZQ N τ TP) (ZQ N τ VK)
def Oe (N:Nat) (o:γ) (τ:Nat->Tok):Prop:=Q1 N o τ/\RF N o τ
inductive Act:γ->Tok->γ->Tok->Prop where
 | yn {o k}:o.Y4=0->o.sv=0->o.wk=0->o.nw=0->Act o (.ch k .idle .work) {o with Y4:=1} (.ch k .own .work)
 | ym {o k}:Act o (.ch k .idle .work) o (.ch k (.act false) .work)
 | acq {o k a}:o.Y4=0->o.sv=0->Act o (.ch k (.act a) .work) {o with Y4:=1,wk:=if a then 0 else o.wk} (.ch k .own .work)
 | yl {o k}:o.wk=0->0<o.nw->o.Y4=1->o.sv=0->Act o (.ch k (.act false) .work) {o with wk:=1} (.ch k (.act true) .work)
 | queue {o k a} (st:Bool):(o.Y4=1\/o.sv=1)->(st=true->a=true/\o.Y4=1)->Act o (.ch k (.act a) .work) {o with nw:=o.nw+1,wk:=if a then 0 else o.wk,sv:=if st then 1 else o.sv} (.ch k .q .work)
 | take {o k}:0<o.Yz->Act o (.ch k .q .work) {o with Yz:=o.Yz-1} (.ch k .wk .work)
 | norm {o k}:o.sv=0->Act o (.ch k .wk .work) o (.ch k (.act true) .work)
 | hand {o k}:o.sv=1->Act o (.ch k .wk .work) o (.ch k .hw .work)
 | hacq {o k} (b:Bool):Act o (.ch k .hw .work) {o with Y4:=1,nw:=o.nw-1,sv:=if b then 0 else 1} (.ch k .own .work)
 | yk {o k}:o.sv=0->(o.nw=0\/o.wk=1)->Act o (.ch k .fin .work) {o with Y4:=0} (.ch k .done .work)
 | yj {o k}:o.sv=0->0<o.nw->o.wk=0->Act o (.ch k .fin .work) {o with Y4:=0} (.ch k .uc .work)
 | yi {o k}:o.sv=1->Act o (.ch k .fin .work) {o with Y4:=0} (.ch k .us .work)
 | yh {o k}:o.Y4=0->o.wk=0->o.sv=0->0<o.nw->Act o (.ch k .uc .work) {o with nw:=o.nw-1,wk:=1} (.ch k .us .work)
 | yg {o k}:(o.nw=0\/o.Y4=1\/o.wk=1\/o.sv=1)->Act o (.ch k .uc .work) o (.ch k .done .work)
 | post {o k}:Act o (.ch k .us .work) {o with Yz:=o.Yz+1} (.ch k .done .work)
 | add {o n p}:n<o.top->Act o (.par n p .add) {o with cnt:=o.cnt+1} (.par (n+1) (p+1) .add)
 | thru {o n}:o.cnt=0->Act o (.par n 0 .add) o (.par n 0 .Sk)
 | C3 {o n}:0<o.cnt->Act o (.par n 0 .add) {o with wt:=1} (.par n 0 .w3)
 | wake {o n}:0<o.YM->Act o (.par n 0 .w3) {o with YM:=o.YM-1} (.par n 0 .w4)
 | yf {o k m}:o.cnt=1->o.wt=1->Act o (.ch k m .rel) {o with cnt:=o.cnt-1} (.ch k m .l2)
 | ye {o k m}:(1<o.cnt\/o.wt=0)->Act o (.ch k m .rel) {o with cnt:=o.cnt-1} (.ch k m .gone)
 | yd {o k m}:Act o (.ch k m .l2) {o with wt:=0} (.ch k m .Q2)
 | yc {o k m}:Act o (.ch k m .Q2) {o with YM:=o.YM+1} (.ch k m .gone)
inductive Q0:γ->Tok->γ->Tok->Prop where
 | FT {o k}:Q0 o (.ch k .own .work) o (.ch k (.YJ o.L) .work)
 | yb {o k L}:Q0 o (.ch k (.YJ L) .work) {o with L:=o.L++[k]} (.ch k .fin .work)
 | ya {o k m}:(m=.done\/(m=.idle/\o.ZS=none))->Q0 o (.ch k m .work) {o with R:=k::o.R} (.ch k m .rel)
 | gtake {o n a}:(a=.Sk\/a=.w4)->Q0 o (.par n 0 a) o (.par n 0 .YG)
section
variable {N i:Nat} {o o':γ} {τ:Nat->Tok} {t t':Tok}
theorem QZ {φ:Tok->Nat} (a:∀t,XX t=0->φ t=0) (h:ZQ N τ XX=1) (hi:i<N) (c:XX (τ i)=1):ZQ N τ φ=φ (τ i):=by
 have e:=W0 τ .nil XX hi
 have d:=W0 τ .nil φ hi
 have z:XX .nil=0:=rfl;rw[h,c,z] at e;rw[a .nil U] at d;have f:ZQ N (upd τ i .nil) XX=0:=I;have:ZQ N (upd τ i .nil) φ=0:=by
  have g:∀n,ZQ n (upd τ i .nil) XX=0->ZQ n (upd τ i .nil) φ=0:=λn=>by
   induction n with
   | zero=>exact λ_=>rfl
   | succ n b=>
    intro j;simp only[ZQ,sumTo] at j b ⊢;have:=b I;have:=a (upd τ i .nil n) I;omega
  exact g N f
 omega
theorem x' (h:Q1 N o τ) (hi:i<N) (b:τ i=t) (c:Act o t o' t'):Q1 N o' (upd τ i t'):=by
 unfold Q1 at h ⊢;have d:=W0 τ t' VM hi;have e:=Xy τ VM hi;have f:=W0 τ t' Sj hi;have l1:=Xy τ Sj hi;have g:=W0 τ t' Tk hi;have l2:=Xy τ Tk hi;have j:=W0 τ t' TS hi;have k:=Xy τ TS hi;have l:=W0 τ t' SG hi;have m:=Xy τ SG hi;have n:=W0 τ t' TR hi;have p:=Xy τ TR hi;have r:=W0 τ t' Qa hi;have s:=Xy τ Qa hi;have u:=W0 τ t' Si hi;have v:=Xy τ Si hi;have w:=W0 τ t' Qb hi;have x:=Xy τ Qb hi;rw[b] at w x d e f l1 g l2 j k l m n p r s u v;generalize ZQ N (upd τ i t') VM=A at *;generalize ZQ N τ VM=B at *;generalize ZQ N (upd τ i t') Sj=C at *;generalize ZQ N τ Sj=D at *;generalize ZQ N (upd τ i t') Tk=E at *;generalize ZQ N τ Tk=F at *;generalize ZQ N (upd τ i t') TS=H at *;generalize ZQ N τ TS=I at *;generalize ZQ N (upd τ i t') SG=J at *;generalize ZQ N τ SG=K at *;generalize ZQ N (upd τ i t') TR=M at *;generalize ZQ N τ TR=O at *;generalize ZQ N (upd τ i t') Qa=P at *;generalize ZQ N τ Qa=Q at *;generalize ZQ N (upd τ i t') Si=S at *;generalize ZQ N τ Si=T at *;generalize ZQ N (upd τ i t') Qb=U at *;generalize ZQ N τ Qb=V at *;clear b hi;obtain⟨⟨W,X,Y,Z⟩,aa,ab,ad,ae,af,L,cnt,wt,ag,R⟩:=o;obtain⟨ah,ai,aj,ak,al,am,an,ao,ap⟩:=h;cases c<;>simp only[VM,Sj,Tk,TS,SG,TR,Qa,Si,Qb,FW,KG,IP,Nn,KF,IN,KE,FV,IM,Nat.add_zero,V5] at *
 case acq a _ _=>cases a<;>simp only[Nn,if_true,if_false,Xq] at *<;>constructor<;>omega
 case queue a st _ aq=>
  cases a<;>cases st<;>simp only[Nn,if_true,if_false,Xq,false_and,true_and,imp_false,not_true_eq_false,forall_const] at *<;>constructor<;>omega
 case hacq y=>cases y<;>simp only[if_true,if_false,Xq] at *<;>constructor<;>omega
 all_goals (constructor<;>omega)
theorem x9 (h:RF N o τ) (hi:i<N) (a:τ i=t) (c:Act o t o' t'):RF N o' (upd τ i t'):=by
 unfold RF at h ⊢;have B:XX t=1->ZQ N τ VL=VL t:=λb=>by rw[QZ (λt a=>by cases t<;>simp_all [XX,VL]) h.Sg hi (by rw[a];exact b),a]
 have C:XX t=1->ZQ N τ Wk=Wk t:=λb=>by rw[QZ (λt a=>by cases t<;>simp_all [XX,Wk]) h.Sg hi (by rw[a];exact b),a]
 have d:=W0 τ t' Vn hi;have e:=Xy τ Vn hi
 have f:=W0 τ t' UI hi;have l1:=Xy τ UI hi
 have g:=W0 τ t' UH hi;have l2:=Xy τ UH hi
 have j:=W0 τ t' TQ hi;have k:=Xy τ TQ hi
 have l:=W0 τ t' XX hi;have m:=Xy τ XX hi
 have n:=W0 τ t' Wk hi;have p:=Xy τ Wk hi
 have r:=W0 τ t' VL hi;have s:=Xy τ VL hi
 have u:=W0 τ t' Tj hi;have v:=Xy τ Tj hi
 have w:=W0 τ t' TP hi;have x:=Xy τ TP hi
 have y:=W0 τ t' VK hi;have A:=Xy τ VK hi;rw[a] at d e f l1 g l2 j k l m n p r s u v w x y A;generalize ZQ N (upd τ i t') Vn=D at *;generalize ZQ N τ Vn=E at *;generalize ZQ N (upd τ i t') UI=F at *;generalize ZQ N τ UI=H at *;generalize ZQ N (upd τ i t') UH=I at *;generalize ZQ N τ UH=J at *;generalize ZQ N (upd τ i t') TQ=K at *;generalize ZQ N τ TQ=M at *;generalize ZQ N (upd τ i t') XX=O at *;generalize ZQ N τ XX=P at *;generalize ZQ N (upd τ i t') Wk=Q at *;generalize ZQ N τ Wk=S at *;generalize ZQ N (upd τ i t') VL=T at *;generalize ZQ N τ VL=U at *;generalize ZQ N (upd τ i t') Tj=V at *;generalize ZQ N τ Tj=W at *;generalize ZQ N (upd τ i t') TP=X at *;generalize ZQ N τ TP=Y at *;generalize ZQ N (upd τ i t') VK=Z at *;generalize ZQ N τ VK=aa at *;clear a hi;obtain⟨⟨ab,ad,ae,af⟩,ag,ah,ai,aj,ak,L,cnt,wt,al,R⟩:=o;obtain⟨am,an,ao,ap,aq,ar,au,av,aw⟩:=h;cases c<;>simp only[Vn,UI,UH,TQ,XX,Wk,VL,Tj,TP,VK,Pa,Nm,Nl,Nat.add_zero,V5,forall_const] at *
 all_goals (constructor<;>omega)
end
section
variable {N i:Nat} {o o':γ} {τ:Nat->Tok} {t t':Tok}
theorem C2 (o':γ) (a:o'.top=o.top) (hi:i<N) (b:τ i=t) (h:Ti o.top t'+9*o'.Yz+2*o'.YM<Ti o.top t+9*o.Yz+2*o.YM):X6 N o' (upd τ i t')<X6 N o τ:=by
 have e:=W0 τ t' (Ti o.top) hi;rw[b] at e;unfold X6;rw[a];omega
theorem C1 (hi:i<N) (b:τ i=t) (c:Act o t o' t'):X6 N o' (upd τ i t')<X6 N o τ:=by
 cases c<;>refine C2 _ U hi b ?_
 case acq a _ _=>cases a<;>simp[Ti,Nk]
 case queue a _ _ _=>cases a<;>simp[Ti,Nk]
 case take=>simp[Ti,Nk];omega
 case add=>simp[Ti];omega
 case wake=>simp[Ti,L6];omega
 all_goals (simp[Ti,Nk,IL,L6]<;>omega)
theorem IK (hi:i<N) (a:τ i=t) (b:Q0 o t o' t'):X6 N o' (upd τ i t')<X6 N o τ:=by
 cases b<;>refine C2 _ U hi a ?_
 case gtake d c=>rcases c with rfl|rfl<;>simp[Ti,L6]
 all_goals (simp[Ti,Nk,IL,L6]<;>omega)
theorem FR {φ:Tok->Nat} (hi:i<N) (h:φ t'=φ (τ i)):ZQ N (upd τ i t') φ=ZQ N τ φ:=by
 have:=W0 τ t' φ hi;omega
theorem IJ (h:Q1 N o τ) (hi:i<N) (a:τ i=t) (b:Q0 o t o' t'):Q1 N o' (upd τ i t'):=by
 unfold Q1 at h ⊢;cases b<;>
 (repeat rw[FR hi (by rw[a];rfl)])<;>exact h
theorem II (h:RF N o τ) (hi:i<N) (a:τ i=t) (b:Q0 o t o' t'):RF N o' (upd τ i t'):=by
 unfold RF at h ⊢;cases b
 case gtake d c=>rcases c with rfl|rfl<;>(repeat rw[FR hi (by rw[a];rfl)])<;>exact h
 all_goals (repeat rw[FR hi (by rw[a];rfl)])<;>exact h
theorem Nj (N:Nat) (τ:Nat->Tok) (φ:Tok->Nat):ZQ (N+1) τ φ=ZQ N τ φ+φ (τ N):=rfl
theorem C0 {φ:Tok->Nat} (a:φ .nil=0) (h:τ N=.nil):ZQ (N+1) τ φ=ZQ N τ φ:=by rw[Nj,h,a];rfl
theorem CZ (h:Oe N o τ) (a:τ N=.nil):Oe (N+1) o τ:=by
 unfold Oe Q1 RF at h ⊢
 repeat rw[C0 (by rfl) a]
 exact h
theorem CY (a:τ N=.nil):X6 (N+1) o τ=X6 N o τ:=by
 unfold X6;rw[C0 (by rfl) a]
theorem x8 {j n p:Nat} (h:Oe N o τ) (hi:i<N) (d:j<N) (e:i≠j) (f:τ i=.par n (p+1) .add) (g:τ j=.nil) (k:Nat) :
  Oe N o (upd (upd τ i (.par n p .add)) j (.ch k .idle .work)):=by
 have l:upd τ i (.par n p .add) j=.nil:=by rw[upd_ne _ _ (YV e)];exact g
 have a:∀φ:Tok->Nat,ZQ N (upd (upd τ i (.par n p .add)) j (.ch k .idle .work)) φ+φ .nil+φ (.par n (p+1) .add)=ZQ N τ φ+φ (.par n p .add)+φ (.ch k .idle .work):=λφ=>by
  have m:=W0 τ (.par n p .add) φ hi
  have r:=W0 (upd τ i (.par n p .add)) (.ch k .idle .work) φ d;rw[f] at m;rw[l] at r;omega
 obtain⟨b,c⟩:=h;constructor
 .unfold Q1 at b ⊢;have f1:=a VM;have f2:=a Sj;have f3:=a Tk;have f4:=a TS;have f5:=a SG;have f6:=a TR;have f7:=a Qa;have f8:=a Si;have f9:=a Qb;simp only[VM,Sj,Tk,TS,SG,TR,Qa,Si,Qb,KG,IP,Nn,KF,IN,KE,FV,IM,FW,Nat.add_zero] at f1 f2 f3 f4 f5 f6 f7 f8 f9;rw[f1,f2,f3,f4,f5,f6,f7,f8,f9];exact b
 .unfold RF at c ⊢;have f1:=a Vn;have f2:=a UI;have f3:=a UH;have f4:=a TQ;have f5:=a XX;have f6:=a Wk;have f7:=a VL;have f8:=a Tj;have f9:=a TP;have f10:=a VK;simp only[Vn,UI,UH,TQ,XX,Wk,VL,Tj,TP,VK,Pa,Nm,Nl,Nat.add_zero] at f1 f2 f3 f4 f5 f6 f7 f8 f9 f10;obtain⟨s,t,u,v,w,x,y,A,B⟩:=c;constructor<;>omega
theorem x7 {j n p:Nat} (hi:i<N) (c:j<N) (d:i≠j) (e:τ i=.par n (p+1) .add) (f:τ j=.nil) (k:Nat) :
  X6 N o (upd (upd τ i (.par n p .add)) j (.ch k .idle .work))<X6 N o τ:=by
 have g:upd τ i (.par n p .add) j=.nil:=by rw[upd_ne _ _ (YV d)];exact f
 have a:=W0 τ (.par n p .add) (Ti o.top) hi
 have b:=W0 (upd τ i (.par n p .add)) (.ch k .idle .work) (Ti o.top) c;rw[e] at a;rw[g] at b;simp only[Ti,Nk,IL,L6] at a b;unfold X6;omega
theorem IH {φ:Tok->Nat} (h:0<ZQ N τ φ):∃i,i<N/\0<φ (τ i):=by
 have a:∀n,0<ZQ n τ φ->∃i,i<n/\0<φ (τ i):=λn=>by
  induction n with
  | zero=>intro h;cases h
  | succ n b=>
   intro h;rw[Nj] at h;by_cases c:0<φ (τ n)
   .exact⟨n,I,c⟩
   .obtain⟨i,hi,d⟩:=b I;exact⟨i,I,d⟩
 exact a N h
def RE:Tok->Prop
 | .ch _ .own _|.ch _ (.YJ _) _|.ch _ .fin _|.ch _ .us _|.ch _ .wk _|.ch _ .hw _|.ch _ (.act true) _|.ch _ .uc _=>True
 | _=>False
theorem x6 (h:Q1 N o τ) (v:0<ZQ N τ TS) (w:o.Yz=0):∃i,i<N/\RE (τ i):=by
 have pick:∀{φ:Tok->Nat},(∀t,0<φ t->RE t)->0<ZQ N τ φ->∃i,i<N/\RE (τ i):=λd e=>let ⟨i,hi,f⟩:=IH e;⟨i,hi,d _ f⟩
 have g:∀t,0<VM t->RE t:=λt c=>by cases t<;>simp_all [VM,RE];rename_i m _;cases m<;>simp_all [KG]
 have j:∀t,0<Sj t->RE t:=λt c=>by cases t<;>simp_all [Sj,RE];rename_i m _;cases m<;>simp_all [IP]
 have k:∀t,0<Tk t->RE t:=λt c=>by cases t<;>simp_all [Tk,RE];rename_i m _;cases m<;>simp_all [Nn];rename_i b;cases b<;>simp_all [Nn]
 have l:∀t,0<Si t->RE t:=λt c=>by cases t<;>simp_all [Si,RE];rename_i m _;cases m<;>simp_all [IM]
 obtain⟨f1,f2,f3,x,n,p,r,y,A⟩:=h;by_cases c1:0<ZQ N τ VM
 .exact pick g c1
 by_cases c2:0<ZQ N τ Sj
 .exact pick j c2
 by_cases s:0<ZQ N τ Tk
 .exact pick k s
 by_cases u:0<ZQ N τ Si
 .exact pick l u
 exfalso;rcases(show o.sv=0\/o.sv=1 by omega) with a|a
 .have:=n a;have:=r a;omega
 .have:=p a;omega
def P':Tok->Prop
 | .ch _ _ .work|.ch _ _ .rel|.ch _ _ .l2|.ch _ _ .Q2=>True
 | _=>False
theorem x5 (h:RF N o τ) {n p:Nat} (hi:i<N) (a:τ i=.par n p .w3) (l:o.YM=0):∃j,j<N/\P' (τ j):=by
 have pick:∀{φ:Tok->Nat},(∀t,0<φ t->P' t)->0<ZQ N τ φ->∃i,i<N/\P' (τ i):=λb c=>let ⟨i,hi,d⟩:=IH c;⟨i,hi,b _ d⟩
 have e:∀t,0<Vn t->P' t:=λt a=>by cases t<;>simp_all [Vn,P'];rename_i m;cases m<;>simp_all [Pa]
 have f:∀t,0<UI t->P' t:=λt a=>by cases t<;>simp_all [UI,P'];rename_i m;cases m<;>simp_all [Nm]
 have g:∀t,0<UH t->P' t:=λt a=>by cases t<;>simp_all [UH,P'];rename_i m;cases m<;>simp_all [Nl]
 have w:=QZ (φ:=TP) (λt a=>by cases t<;>simp_all [XX,TP]) h.Sg hi (by rw[a];rfl);rw[a] at w;have:=h.yo w;have:=h.FU;by_cases c1:0<ZQ N τ Vn
 .exact pick e c1
 by_cases c2:0<ZQ N τ UI
 .exact pick f c2
 by_cases k:0<ZQ N τ UH
 .exact pick g k
 exfalso;omega
end
end Go.TL
namespace Go.TL
open Go.Conc
open Go.ConcM (OsLater)
open Go.ConcN (sumTo upd sumTo_upd upd_ne upd_same sumTo_congr le_sumTo)
open Go.ConcR (mk)
inductive W3 (B:Type):Type where
 | leaf
 | node (f:B->W3 B)
inductive SF {B:Type}:List (W3 B)->List (W3 B)->Prop where
 | one (a b:List (W3 B)) (f:B->W3 B) (k:B):SF (a++f k::b) (a++W3.node f::b)
 | two (a b:List (W3 B)) (f:B->W3 B) (k c:B):SF (a++f k::f c::b) (a++W3.node f::b)
theorem SF.cons_inv {B:Type} {l:List (W3 B)} {t:W3 B} {m:List (W3 B)} (h:SF m (t::l)) :
  (∃e,SF e l/\m=t::e)\/(∃f k,t=.node f/\m=f k::l)\/(∃f k d,t=.node f/\m=f k::f d::l):=by
 generalize c:t::l=x at h;cases h with
 | one a b f k=>
  cases a with
  | nil=>simp at c;exact .inr (.inl ⟨f,k,c.1,by rw[c.2];rfl⟩)
  | cons y a=>simp at c;exact .inl ⟨a++f k::b,by rw[c.2];exact .one a b f k,by rw[c.1];rfl⟩
 | two a b f k d=>
  cases a with
  | nil=>simp at c;exact .inr (.inr ⟨f,k,d,c.1,by rw[c.2];rfl⟩)
  | cons y a=>simp at c;exact .inl ⟨a++f k::f d::b,by rw[c.2];exact .two a b f k d,by rw[c.1];rfl⟩
theorem SF.x4 {B:Type} (t:W3 B):∀l,Acc SF l->Acc SF (t::l):=by
 induction t with
 | leaf=>
  intro l a
  induction a with
  | intro l _ b=>
   refine⟨_,λm c=>?_⟩;rcases c.cons_inv with⟨d,e,rfl⟩|⟨f,k,h,_⟩|⟨f,k,i,h,_⟩
   .exact b d e
   .cases h
   .cases h
 | node f g=>
  intro l a
  induction a with
  | intro l j b=>
   refine⟨_,λm c=>?_⟩;rcases c.cons_inv with⟨d,e,rfl⟩|⟨f',k,h,rfl⟩|⟨f',k,i,h,rfl⟩
   .exact b d e
   .cases h;exact g k l ⟨l,j⟩
   .cases h;exact g k _ (g i l ⟨l,j⟩)
theorem SF.wf {B:Type}:WellFounded (SF (B:=B)):=⟨λl=>by
 induction l with
 | nil=>exact⟨_,λm a=>by
   generalize b:([]:List (W3 B))=x at a;cases a<;>simp at b⟩
 | cons t l c=>exact SF.x4 t l c⟩
structure Z5 where
 G:Υ
 Z8:Nat->Option (ν×TypeId)
 tok:Nat->Tok
 spec:Nat->Option Spec
 view:Nat->Option (Nat×γ)
 deaf:Nat
 rel:Bool
def KD (V:Nat->Option (ν×TypeId)) (w:World):Prop:=∀b c t,V b=some (c,t)->w.heap[b]?=some (.cells c t (0,0))
def YY (o:γ):Int:=(o.cnt:Int)*4294967296+o.wt
def mwd (o:γ):Int:=(o.Y4:Int)+2*o.wk+4*o.sv+8*o.nw
def At (s:Nat) (o:γ) (w:World):Prop:=
 (∃a,w.heap[s]?=some (.cells #[.int .u64 (YY o),.int .u32 o.YM] a (0,0)))/\∀m,o.ZS=some m->∃a,w.heap[m]?=some (.cells #[.int .i32 (mwd o),.int .u32 o.Yz] a (0,0))
def Yc (s:Nat) (sp:Spec) (b:Nat):Prop:=b=s\/sp.ZS=some b
def Ni (o:γ) (t:Tok):Prop:=∃N τ i,Oe N o τ/\i<N/\τ i=t/\(∀k L g,t=.ch k (.YJ L) g->o.L=L)
def FQ (x:Z5) (s φ:Nat) (o:γ):Prop:=∀a b,x.view s=some (a,b)->φ<=a/\(φ=a->o=b)
structure Sub (G' G:Υ):Prop where
 ω:∀b o v p,G'.ω b o=some (v,p)->∃a,G.ω b o=some (v,a)/\(p=true->a=true)
 row:∀b x,G'.row b=some x->G.row b=some x
 obj:∀b x,G'.obj b=some x->G.obj b=some x
structure Split (G a b:Υ):Prop where
 l:Sub a G
 r:Sub b G
 apart:Apart a b
def join (G H:Υ):Υ:=
 ⟨λb o=>match G.ω b o with|some x=>some x|none=>H.ω b o,λb=>match G.row b with|some x=>some x|none=>H.row b,λb=>match G.obj b with|some x=>some x|none=>H.obj b⟩
def TO (c:Nat->Υ->Prop):κ->Υ->Prop
 | [],E=>E=Υ.empty
 | k::d,E=>∃a b,c k a/\TO c d b/\Apart a b/\E=join a b
structure IG (G G':Υ) (n:Nat):Prop where
 ω:∀b o v p,G'.ω b o=some (v,p)->n<=b\/∃c a,G.ω b o=some (c,a)/\(p=true->a=true)
 obj:∀b,G'.XI b->n<=b\/G.XI b
def FP (V:Nat->Option (ν×TypeId)) (V':Nat->Option (ν×TypeId)) (G':Υ) (n:Nat):Prop:=
 ∀b c,V' b=some c->V b=some c\/(n<=b/\G'.off b)
def IF (e:Event):Prop:=e.loc=.output\/e.loc=.mark .noRoom
def RD (s:Nat) (sp:Spec) (d:Nat) (es:Array Event):Prop:=
 deafBehind d es=d/\∀j e,es[j]?=some e->(e.loc=.mark .disable\/e.loc=.mark .enable\/(∃b a wr,e=⟨.cell ⟨b,a,none⟩,wr,true⟩/\Yc s sp b/\0<deafBehind d (es.extract 0 j)))
def UG (o:γ):Tok->Prop
 | .ch _ .q _=>o.Yz=0
 | .par _ _ .w3=>o.YM=0
 | _=>False
def Tg:Tok->Prop
 | .nil=>True
 | .par _ _ .add|.par _ _ .YG=>True
 | .ch _ .idle _|.ch _ .done _=>True
 | _=>False
def XE:Tok->Prop
 | .nil=>True
 | .par _ _ .YG=>True
 | _=>False
def Gone:Tok->Prop
 | .nil=>True
 | .par _ _ .YG=>True
 | .ch _ _ .gone=>True
 | _=>False
abbrev KC:=Bool->Goroutine->Z5->Prop
def Vv (g:Goroutine):Prop:=g.status=.running/\g.offers=none
section
variable (P:Program) (mn:Bool) (R:KC) (g:Goroutine) (x:Z5)
def CX:Prop:=∀w,Fits x.G w->KD x.Z8 w->(stepG P mn g w).goes λg' w' es=>∃G' V',Vv g'/\Xp x.G.owns x.G.XI w w'/\Fits G' w'/\KD V' w'/\
 IG x.G G' w.heap.size/\FP x.Z8 V' G' w.heap.size/\(∀e∈es,if x.rel then IF e else Wl x.G w.heap.size w'.heap.size e)/\(∀b c,V' b=some c->w.heap.size<=b->∀e∈es,¬Sl e.loc b)/\R mn g' {x with G:=G',Z8:=V'}
def CW:Prop:=∃g',Vv g'/\((∀w,Fits x.G w->stepG P mn g w=.go g' w #[mk .disable]/\R mn g' {x with deaf:=x.deaf+1})\/
 (0<x.deaf/\∀w,Fits x.G w->stepG P mn g w=.go g' w #[mk .enable]/\R mn g' {x with deaf:=x.deaf-1}))
def CV:Prop:=∃(s n p:Nat) (a:Pb) (g':Goroutine) (b:Nat) (wr:Bool),x.tok s=.par n p a/\a≠.YG/\x.rel=false/\Vv g'/\∀w,Fits x.G w->stepG P mn g w=.go g' w #[mk (if wr then .write ⟨s,b,none⟩ else .read ⟨s,b,none⟩)]/\R mn g' x
def Atom:Prop:=∃s sp,x.spec s=some sp/\¬XE (x.tok s)/\∀w φ o,Fits x.G w->KD x.Z8 w->o.toSpec=sp->At s o w->FQ x s φ o->Ni o (x.tok s)->
 ((stepG P mn g w).goes λg' w' es=>Vv g'/\Xp (λb _=>Yc s sp b) (λ_=>False) w w'/\RD s sp x.deaf es/\
   ((At s o w'/\R mn g' {x with view:=upd x.view s (some (φ,o))})\/
    ∃o' t',Act o (x.tok s) o' t'/\At s o' w'/\(mayWake P g=true\/o'=o)/\∀a,a<φ->R mn g' {x with tok:=upd x.tok s t',view:=upd x.view s (some (a,o'))}))\/
 (UG o (x.tok s)/\(∀c,c≠s->Tg (x.tok c))/\stepG P mn g w=.go {g with status:=.blocked} w #[])
def CU:Prop:=∃s sp m k g',x.spec s=some sp/\sp.ZS=some m/\x.tok s=.ch k .own .work/\x.deaf=0/\Vv g'/\x.rel=false/\
 (∀w,Fits x.G w->stepG P mn g w=.go g' w #[mk (.acquire ⟨m,0,none⟩)])/\
 ∀L E,sp.X1 L E->Apart x.G E->(L.Nodup/\k∉L/\∃w,Fits x.G w/\Fits E w)->R mn g' {x with G:=join x.G E,tok:=upd x.tok s (.ch k (.YJ L) .work),view:=upd x.view s none}
def CS:Prop:=∃s sp m k L g' G' E,x.spec s=some sp/\sp.ZS=some m/\x.tok s=.ch k (.YJ L) .work/\x.deaf=0/\Vv g'/\x.rel=false/\
 (∀w,Fits x.G w->stepG P mn g w=.go g' w #[mk (.releaseMerge ⟨m,0,none⟩)])/\
 Split x.G G' E/\sp.X1 (L++[k]) E/\R mn g' {x with G:=G',tok:=upd x.tok s (.ch k .fin .work),view:=upd x.view s none}
def CR:Prop:=∃s sp k a g' E,x.spec s=some sp/\x.tok s=.ch k a .work/\(a=.done\/(a=.idle/\sp.ZS=none))/\(∀b,b≠s->XE (x.tok b))/\x.deaf=0/\Vv g'/\x.rel=false/\
 (∀w,Fits x.G w->stepG P mn g w=.go g' w #[mk (.releaseMerge ⟨s,0,none⟩)])/\
 Sub E x.G/\sp.D k E/\R mn g' {x with G:=Υ.empty,Z8:=λ_=>none,tok:=upd x.tok s (.ch k a .rel),view:=upd x.view s none,rel:=true}
def CQ:Prop:=∃s sp n c g',x.spec s=some sp/\x.tok s=.par n 0 c/\(c=.Sk\/c=.w4)/\x.deaf=0/\Vv g'/\x.rel=false/\
 (∀w,Fits x.G w->stepG P mn g w=.go g' w #[mk (.acquire ⟨s,0,none⟩)])/\
 ∀d e b a,d.Perm (List.range n)->TO sp.D d b->(sp.ZS≠none->e.Perm (List.range n)/\sp.X1 e a)->(sp.ZS=none->a=Υ.empty)->Apart x.G b->Apart x.G a->Apart b a->(∃w,Fits x.G w/\Fits b w/\Fits a w)->
  R mn g' {x with G:=join (join x.G b) a,tok:=upd x.tok s (.par n 0 .YG),view:=upd x.view s none}
def CP:Prop:=∃s sp n p g' c a b,x.spec s=some sp/\x.tok s=.par n (p+1) .add/\x.deaf=0/\Vv g'/\Vv c/\x.rel=false/\
 (∀w,Fits x.G w->stepG P mn g w=.spawn g' c w #[])/\Split x.G a b/\
 R mn g' {x with G:=a,tok:=upd x.tok s (.par n p .add),view:=upd x.view s none}/\
 R false c ⟨b,λ_=>none,upd (λ_=>.nil) s (.ch (n-(p+1)) .idle .work),upd (λ_=>none) s (some sp),λ_=>none,0,false⟩
def FO:Prop:=
 (∃G',Sub G' x.G/\R mn g {x with G:=G'})\/
 (∃b c t,x.Z8 b=some (c,t)/\R mn g {x with Z8:=upd x.Z8 b none,G:=⟨λa o=>if a=b then(c[o]?).map (·,true) else x.G.ω a o,λa=>if a=b then some (t,c.size) else x.G.row a,x.G.obj⟩})\/
 (∃s sp d G' E,x.Z8 s=some (#[.int .u64 0,.int .u32 0],d)/\(∀m,sp.ZS=some m->m≠s/\∃e,x.Z8 m=some (#[.int .i32 0,.int .u32 0],e))/\x.rel=false/\
  Split x.G G' E/\(sp.ZS≠none->sp.X1 [] E)/\
  (x.tok s=.nil->R mn g {x with G:=G',Z8:=λb=>if b=s\/sp.ZS=some b then none else x.Z8 b,tok:=upd x.tok s (.par 0 0 .add),spec:=upd x.spec s (some sp),view:=upd x.view s none}))
def CO:Prop:=mn=false/\g.status=.running/\x.rel=true/\(∀s,Gone (x.tok s))/\∃g' es,(∀e∈es,Event.mute e=true)/\(∀w,stepG P false g w=.go g' w es)/\R mn g' {x with deaf:=deafBehind x.deaf es}
def KB:Prop:=CO P mn R g x\/Vv g/\(CX P mn R g x\/CW P mn R g x\/CV P mn R g x\/Atom P mn R g x\/CU P mn R g x\/CS P mn R g x\/CR P mn R g x\/CQ P mn R g x\/CP P mn R g x\/FO mn R g x)
def CN (a:Value->Prop):Prop:=Vv g/\(∀s,XE (x.tok s))/\x.deaf=0/\∀w,Fits x.G w->∃v es,stepG P true g w=.ended (.done v) w es/\(∀e∈es,Wl x.G w.heap.size w.heap.size e)/\a v
def x3:Prop:=x.rel=true/\(∀s,Gone (x.tok s))/\g.status=.finished/\x.deaf=0
def IE (a:Value->Prop):Prop:=(mn=true/\CN P g x a)\/(mn=false/\x3 g x)
def KA:Prop:=x.rel=true->(∀s,Gone (x.tok s))->∃n,QuitsD P n x.deaf g
end
open Classical in
def U7 (P:Program) (a:Value->Prop):W3 (Bool×Goroutine×Z5)->KC
 | .leaf=>λmn g x=>KA P g x/\IE P mn g x a
 | .node f=>λmn g x=>KA P g x/\(IE P mn g x a\/KB P mn (λb g' c=>U7 P a (f (b,g',c)) b g' c) g x)
def Goes (P:Program) (a:Value->Prop):KC:=λmn g x=>∃T,U7 P a T mn g x
theorem KB.mono {P:Program} {mn:Bool} {R K:KC} {g:Goroutine} {x:Z5} (v:∀mn g x,R mn g x->K mn g x) (h:KB P mn R g x):KB P mn K g x:=by
 rcases h with⟨M,N,O,Q,g',es,S,T,U⟩|⟨V,h⟩
 .exact .inl ⟨M,N,O,Q,g',es,S,T,v _ _ _ U⟩
 refine .inr ⟨V,?_⟩;rcases h with h|h|h|h|h|h|h|h|h|h
 .refine .inl λw B hv=>?_;have:=h w B hv;revert this;cases stepG P mn g w<;>simp only[GStep.goes,imp_self];rintro⟨G',V',j,l,r,u,y,C,A,W,D⟩;exact⟨G',V',j,l,r,u,y,C,A,W,v _ _ _ D⟩
 .obtain⟨g',j,l⟩:=h;exact .inr (.inl ⟨g',j,l.elim (λh=>.inl λw B=>⟨(h w B).1,v _ _ _ (h w B).2⟩) (λh=>.inr ⟨h.1,λw B=>⟨(h.2 w B).1,v _ _ _ (h.2 w B).2⟩⟩)⟩)
 .obtain⟨s,n,p,I,g',X,wr,j,l,J,r,u⟩:=h;exact .inr (.inr (.inl ⟨s,n,p,I,g',X,wr,j,l,J,r,λw B=>⟨(u w B).1,v _ _ _ (u w B).2⟩⟩))
 .obtain⟨s,sp,j,J,r⟩:=h;refine .inr (.inr (.inr (.inl ⟨s,sp,j,J,λw φ o B hv Y Z aa ab=>?_⟩)));refine(r w φ o B hv Y Z aa ab).imp (λh=>?_) id;revert h;cases stepG P mn g w<;>simp only[GStep.goes,imp_self];rintro⟨j,l,r,u⟩;exact⟨j,l,r,u.imp (λh=>⟨h.1,v _ _ _ h.2⟩) λ⟨o',t',ad,ae,af,ag⟩=>⟨o',t',ad,ae,af,λah ai=>v _ _ _ (ag ah ai)⟩⟩
 .obtain⟨s,sp,m,k,g',j,l,r,u,y,F,C,A⟩:=h;exact .inr (.inr (.inr (.inr (.inl ⟨s,sp,m,k,g',j,l,r,u,y,F,C,λL E a b c=>v _ _ _ (A L E a b c)⟩))))
 .obtain⟨s,sp,m,k,L,g',G',E,j,l,r,u,y,F,C,A,D,H⟩:=h;exact .inr (.inr (.inr (.inr (.inr (.inl ⟨s,sp,m,k,L,g',G',E,j,l,r,u,y,F,C,A,D,v _ _ _ H⟩)))))
 .obtain⟨s,sp,k,aj,g',E,j,l,r,u,y,C,ak,A,D,H,al⟩:=h;exact .inr (.inr (.inr (.inr (.inr (.inr (.inl ⟨s,sp,k,aj,g',E,j,l,r,u,y,C,ak,A,D,H,v _ _ _ al⟩))))))
 .obtain⟨s,sp,n,I,g',j,l,r,u,y,F,C,A⟩:=h;exact .inr (.inr (.inr (.inr (.inr (.inr (.inr (.inl ⟨s,sp,n,I,g',j,l,r,u,y,F,C,λam an ao ap a b c d e f g i=>v _ _ _ (A am an ao ap a b c d e f g i)⟩)))))))
 .obtain⟨s,sp,n,p,g',c,aq,ar,j,l,r,u,y,F,C,A,D,H⟩:=h;exact .inr (.inr (.inr (.inr (.inr (.inr (.inr (.inr (.inl ⟨s,sp,n,p,g',c,aq,ar,j,l,r,u,y,F,C,A,v _ _ _ D,v _ _ _ H⟩))))))))
 .refine .inr (.inr (.inr (.inr (.inr (.inr (.inr (.inr (.inr ?_))))))));rcases h with⟨G',j,l⟩|⟨b,c,t,j,l⟩|⟨s,sp,au,G',E,j,l,r,u,y,A⟩
  .exact .inl ⟨G',j,v _ _ _ l⟩
  .exact .inr (.inl ⟨b,c,t,j,v _ _ _ l⟩)
  .exact .inr (.inr ⟨s,sp,au,G',E,j,l,r,u,y,λe=>v _ _ _ (A e)⟩)
theorem Goes.stop {P:Program} {a:Value->Prop} {mn:Bool} {g:Goroutine} {x:Z5} (b:KA P g x) (h:IE P mn g x a):Goes P a mn g x:=⟨.leaf,b,h⟩
open Classical in
theorem Goes.step {P:Program} {a:Value->Prop} {mn:Bool} {g:Goroutine} {x:Z5} (c:KA P g x) (h:KB P mn (Goes P a) g x):Goes P a mn g x:=by
 refine⟨.node λk=>if b:∃T,U7 P a T k.1 k.2.1 k.2.2 then Classical.choose b else .leaf,c,.inr (h.mono λd g' e f=>?_)⟩;have b:∃T,U7 P a T d g' e:=f;simp only[b,dif_pos];exact Classical.choose_spec b
theorem Goes.quits {P:Program} {i:Value->Prop} (n:Nat):∀{g:Goroutine} {x:Z5},x.rel=true->(∀s,Gone (x.tok s))->QuitsD P n x.deaf g->Goes P i false g x:=by
 induction n with
 | zero=>
  intro g x b c a;exact .stop (λ_ _=>⟨0,a⟩) (.inr ⟨U,b,c,a.1,a.2⟩)
 | succ n j=>
  intro g x b c a;rcases a with a|⟨d,g',es,e,f,h⟩
  .exact .stop (λ_ _=>⟨0,a⟩) (.inr ⟨U,b,c,a.1,a.2⟩)
  .exact .step (λ_ _=>⟨n+1,.inr ⟨d,g',es,e,f,h⟩⟩) (.inl ⟨U,d,b,c,g',es,e,f,j (x:={x with deaf:=deafBehind x.deaf es}) b c h⟩)
abbrev Y2:=Nat ⊕ Nat
def Zz (H:Y2->Υ) (h:Y2) (G:Υ):Y2->Υ:=λk=>if k=h then G else H k
@[simp] theorem Yr (H:Y2->Υ) (h:Y2) (G:Υ):Zz H h G h=G:=by simp[Zz]
theorem Zy (H:Y2->Υ) {h k:Y2} (G:Υ) (a:k≠h):Zz H h G k=H k:=by simp[Zz,a]
structure YI where
 H:Y2->Υ
 Z8:Nat->Nat->Option (ν×TypeId)
 tok:Nat->Nat->Tok
 spec:Nat->Nat->Option Spec
 view:Nat->Nat->Option (Nat×γ)
 deaf:Nat->Nat
 rel:Nat->Bool
 T:Nat->W3 (Bool×Goroutine×Z5)
 O:Nat->Option γ
 Zo:Nat->Nat
 home:Nat->Nat
 XU:Nat->Nat
def YI.x (c:YI) (i:Nat):Z5:=⟨c.H (.inl i),c.Z8 i,c.tok i,c.spec i,c.view i,c.deaf i,c.rel i⟩
structure Wx (H:Y2->Υ) (a:Nat->Nat->Option (ν×TypeId)) (b:Nat->Option γ) (c w:World):Prop where
 fit:∀h,Fits (H h) w
 Tf:∀i,KD (a i) w
 X0:∀s o,b s=some o->At s o w
 keep:Xp (λ_ _=>False) (λ_=>False) c w
structure VJ (H:Y2->Υ) (d:Nat->Nat->Option (ν×TypeId)) (a:Nat->Option γ) (c:Nat):Prop where
 apart:∀h k,h≠k->Apart (H h) (H k)
 high:∀h b o,(H h).owns b o->c<=b
 Sf:∀h b,(H h).XI b->c<=b
 fresh:∀i b v,d i b=some v->c<=b/\(∀h,(H h).off b)/\∀j,j≠i->d j b=none
 U6:∀s o b,a s=some o->Yc s o.toSpec b->c<=b/\(∀h,(H h).off b)/\∀j,d j b=none
 Uu:∀s e o o' b,a s=some o->a e=some o'->Yc s o.toSpec b->Yc e o'.toSpec b->s=e
 QY:∀s o m,a s=some o->o.ZS=some m->m≠s
 X8:∀b,(∀s o,a s=some o->¬Yc s o.toSpec b)->H (.inr b)=Υ.empty
theorem Wx.own {H:Y2->Υ} {A:Nat->Nat->Option (ν×TypeId)} {B:Nat->Option γ} {C w w':World} {D:Nat} (y:Wx H A B C w) (l:VJ H A B D) (i:Nat) {G':Υ} {V':Nat->Option (ν×TypeId)}
  (d:Xp (H (.inl i)).owns (H (.inl i)).XI w w') (L:Fits G' w') (hv:KD V' w') (W:C.heap.size=D):Wx (Zz H (.inl i) G') (upd A i V') B C w':=by
 have E:∀h,h≠.inl i->(∀b o,(H (.inl i)).owns b o->¬(H h).has b o)/\∀b,(H (.inl i)).XI b->¬(H h).XI b:=λh f=>⟨(l.apart _ _ (YV f)).ω,(l.apart _ _ (YV f)).obj⟩;refine⟨λh=>?_,λj=>?_,λs o F=>?_,?_⟩
 .by_cases f:h=.inl i
  .subst f;rw[Yr];exact L
  .rw[Zy _ _ f];exact(y.fit h).keeps d (E h f).1 (E h f).2
 .by_cases I:j=i
  .subst I;rw[upd_same];exact hv
  .rw[upd_ne _ _ I];intro b c t a;obtain⟨c',f',g,p,k,r⟩:=d.cells b c t _ (y.Tf j b c t a);have u:=(l.fresh j b _ a).2.1 (.inl i);have:c'=c:=by
    apply L';intro o;exact k o λ⟨v,hv⟩=>u.1 o ⟨_,hv⟩
   rw[g,this,r.resolve_right λ⟨⟨o,v,hv⟩,_⟩=>u.1 o ⟨_,hv⟩]
 .have u:=λb (a:Yc s o.toSpec b)=>(l.U6 s o b F a).2.1 (.inl i)
  have J:∀b c t,Yc s o.toSpec b->w.heap[b]?=some (.cells c t (0,0))->w'.heap[b]?=some (.cells c t (0,0)):=λb c t a M=>by
   obtain⟨c',f',g,p,k,r⟩:=d.cells b c t _ M;have:c'=c:=by
    apply L';intro o';exact k o' λ⟨v,hv⟩=>(u b a).1 o' ⟨_,hv⟩
   rw[g,this,r.resolve_right λ⟨⟨o,v,hv⟩,_⟩=>(u b a).1 o ⟨_,hv⟩]
  obtain⟨⟨N,g⟩,p⟩:=y.X0 s o F;exact⟨⟨N,J _ _ _ (.inl U) g⟩,λm K=>let ⟨O,k⟩:=p m K;⟨O,J _ _ _ (.inr K) k⟩⟩
 .have n:=y.keep;refine⟨RH n.size d.size,λb c t P a=>?_,λb x a e _=>?_,n.os.trans d.os,d.output.trans n.output,d.tape.trans n.tape⟩
  .obtain⟨c1,f1,g,p,k,Q⟩:=n.cells b c t P a;obtain⟨c2,f2,r,R,S,T⟩:=d.cells b c1 t f1 g;have low:∀o,¬(H (.inl i)).owns b o:=λo e=>by
    have:=l.high _ _ _ e
    have:=XY a;omega
   refine⟨c2,f2,r,by rw[R,p],λo _=>?_,.inl ?_⟩
   .rw[S o (low o),k o id]
   .rw[T.resolve_right λ⟨⟨o,e⟩,_⟩=>low o e,Q.resolve_right λ⟨⟨_,e⟩,_⟩=>e]
  .refine d.Tn b x (n.Tn b x a e id) e λV=>?_;have:=l.Sf _ _ V;have:=XY a;omega
theorem Wx.at {H:Y2->Υ} {a:Nat->Nat->Option (ν×TypeId)} {b:Nat->Option γ} {c w:World} (h:Wx H a b c w) (d:Nat):Wx H a b c (w.at d):=
 ⟨λk=>(h.fit k).at d,h.Tf,h.X0,⟨h.keep.size,h.keep.cells,h.keep.Tn,h.keep.os,h.keep.output,h.keep.tape⟩⟩
theorem VJ.own {H:Y2->Υ} {y:Nat->Nat->Option (ν×TypeId)} {K:Nat->Option γ} {O:Nat} {w:World} {ad:World} (g:VJ H y K O) (L:Wx H y K ad w) (al:O<=w.heap.size) (i:Nat) {G':Υ} {V':Nat->Option (ν×TypeId)}
  (C:IG (H (.inl i)) G' w.heap.size) (P:FP (y i) V' G' w.heap.size):VJ (Zz H (.inl i) G') (upd y i V') K O:=by
 have W:∀b o,G'.has b o->w.heap.size<=b\/(H (.inl i)).has b o:=λb o ⟨⟨v,p⟩,h⟩=>(C.ω b o v p h).imp id λ⟨X,ae,Q,_⟩=>⟨_,Q⟩
 have Y:∀b o,G'.owns b o->w.heap.size<=b\/(H (.inl i)).owns b o:=λb o ⟨v,h⟩=>(C.ω b o v true h).imp id λ⟨X,ae,Q,af⟩=>⟨X,by rw[Q,af U]⟩
 have R:∀h b o,(H h).has b o->b<w.heap.size:=λh b o ⟨⟨v,p⟩,m⟩=>by
  obtain⟨c,t,am,hb,_⟩:=Tm ((L.fit h).ω b o v p m);exact XY hb
 have Z:∀h b,(H h).XI b->b<w.heap.size:=λh b ⟨x,m⟩=>XY ((L.fit h).obj b x m).1
 have aa:∀k,k≠.inl i->Apart G' (H k):=λk D=>by
  have a:=g.apart _ _ (YV D);refine⟨λb o d m=>?_,λb o d m=>?_,λb d m=>?_⟩
  .rcases Y b o d with h|h
   .have:=R k b o m;omega
   .exact a.ω b o h m
  .rcases W b o m with h|h
   .have:=R k b o (let ⟨v,hv⟩:=d;⟨_,hv⟩);omega
   .exact a.Q3 b o d h
  .rcases C.obj b d with h|h
   .have:=Z k b m;omega
   .exact a.obj b h m
 have ag:∀{A B:Υ},Apart A B->Apart B A:=λh=>⟨h.Q3,h.ω,λb hb ah=>h.obj b ah hb⟩
 have S:∀b,b<w.heap.size->(H (.inl i)).off b->G'.off b:=λb hb h=>⟨λo d=>(W b o d).elim (λx=>I) (h.1 o),λd=>(C.obj b d).elim (λx=>I) h.2⟩
 have T:∀j b v,y j b=some v->b<w.heap.size:=λj b v hv=>XY (L.Tf j b v.1 v.2 hv)
 have ai:∀s o b,K s=some o->Yc s o.toSpec b->b<w.heap.size:=λs o b M hb=>by
  obtain⟨⟨an,N⟩,V⟩:=L.X0 s o M;rcases hb with rfl|hb
  .exact XY N
  .obtain⟨ao,aj⟩:=V b hb;exact XY aj
 refine⟨λh k D=>?_,λh b o d=>?_,λh b d=>?_,λj b v hv=>?_,λs o b M hb=>?_,g.Uu,g.QY,λb hb=>?_⟩
 .by_cases e:h=.inl i
  .subst e;rw[Yr,Zy _ _ (YV D)];exact aa k (YV D)
  .by_cases kk:k=.inl i
   .subst kk;rw[Yr,Zy _ _ e];exact ag (aa h e)
   .rw[Zy _ _ e,Zy _ _ kk];exact g.apart h k D
 .by_cases e:h=.inl i
  .subst e;rw[Yr] at d;rcases Y b o d with h|h
   .omega
   .exact g.high _ _ _ h
  .rw[Zy _ _ e] at d;exact g.high _ _ _ d
 .by_cases e:h=.inl i
  .subst e;rw[Yr] at d;rcases C.obj b d with h|h
   .omega
   .exact g.Sf _ _ h
  .rw[Zy _ _ e] at d;exact g.Sf _ _ d
 .by_cases ab:j=i
  .subst ab;rw[upd_same] at hv;rcases P b v hv with h|⟨N,V⟩
   .obtain⟨E,n,r⟩:=g.fresh j b v h;refine⟨E,λf=>?_,λl u=>by rw[upd_ne _ _ u];exact r l u⟩;by_cases e:f=.inl j
    .subst e;rw[Yr];exact S b (T j b v h) (n _)
    .rw[Zy _ _ e];exact n _
   .refine⟨I,λf=>?_,λl u=>?_⟩
    .by_cases e:f=.inl j
     .subst e;rw[Yr];exact V
     .rw[Zy _ _ e];exact⟨λo d=>by have:=R f b o d;omega,λd=>by have:=Z f b d;omega⟩
    .rw[upd_ne _ _ u];cases F:y l b with
     | none=>rfl
     | some J=>have:=T l b J F;omega
  .rw[upd_ne _ _ ab] at hv;obtain⟨E,n,r⟩:=g.fresh j b v hv;have hb:=T j b v hv;refine⟨E,λf=>?_,λl u=>?_⟩
   .by_cases e:f=.inl i
    .subst e;rw[Yr];exact S b hb (n _)
    .rw[Zy _ _ e];exact n _
   .by_cases f:l=i
    .subst f;rw[upd_same];cases F:V' b with
     | none=>rfl
     | some J=>
      rcases P b J F with h|⟨N,_⟩
      .rw[r l u] at h;cases h
      .omega
    .rw[upd_ne _ _ f];exact r l u
 .obtain⟨E,n,r⟩:=g.U6 s o b M hb;have ak:=ai s o b M hb;refine⟨E,λf=>?_,λl=>?_⟩
  .by_cases e:f=.inl i
   .subst e;rw[Yr];exact S b ak (n _)
   .rw[Zy _ _ e];exact n _
  .by_cases f:l=i
   .subst f;rw[upd_same];cases F:V' b with
    | none=>rfl
    | some J=>
     rcases P b J F with h|⟨N,_⟩
     .rw[r l] at h;cases h
     .omega
   .rw[upd_ne _ _ f];exact r l
 .rw[Zy _ _ Ω];exact g.X8 b hb
def U5 (tok:Nat->Nat->Tok) (c:Nat->Option γ) (t:Trace):Y2->Nat->Prop
 | .inl i,k=>Knows t i k
 | .inr b,k=>(∃p a,t[p]?=some a/\a.act=.mark (.releaseMerge ⟨b,0,none⟩)/\t.heard p/\Before t k p)\/(∀s o,c s=some o->Yc s o.toSpec b->∀i,tok i s≠.nil->Knows t i k)
theorem FN {tok:Nat->Nat->Tok} {a:Nat->Option γ} {t:Trace} (u:Trace) {h:Y2} {k:Nat} (c:U5 tok a t h k):U5 tok a (t++u) h k:=by
 cases h with
 | inl i=>exact Knows.app u c
 | inr b=>
  rcases c with⟨p,f,d,g,j,l⟩|h
  .have e:=lt_size_of_getElem? d;exact .inl ⟨p,f,by rw[getElem?_append_old e];exact d,g,(heard_old e).2 j,l.app u⟩
  .exact .inr λs o m n i hi=>(h s o m n i hi).app u
structure Vu (H:Y2->Υ) (e:Nat->Nat->Option (ν×TypeId)) (tok:Nat->Nat->Tok) (d:Nat->Option γ) (f:Nat->Nat) (g:Nat->Nat) (N:Nat) (t:Trace):Prop where
 race:∀j,¬Race j t
 low:∀c∈t,c.act.low N
 norel:∀c∈t,∀a,c.act≠.mark (.release a)
 perms:∀h,YB t (U5 tok d t h) (H h)
 RB:∀i b v,e i b=some v->∀k a,touchAt t k=some a->¬Sl a.loc b
 cont:∀s o b,d s=some o->Yc s o.toSpec b->∀k a,touchAt t k=some a->Sl a.loc b->a.kind=.atomic\/(a.kind=.said/\t.g? k=some (f s))
 hears:∀i,Deaf t i=g i
theorem Kz {t:Trace} {N k:Nat} {a:Touch} (h:∀f∈t,f.act.low N) (j:touchAt t k=some a) {b:Nat} (c:Sl a.loc b):b<N:=by
 obtain⟨f,l,d⟩:=touch_of j;have i:=h f (mem_of_getElem? l);obtain⟨g,fn,pos,n⟩:=f;cases n with
 | access e=>
  simp only[MemAct.touch?,Q6] at d;subst d;obtain⟨o,wr,p⟩:=e;cases o<;>simp only[Sl] at c<;>first|(subst c;exact i)|exact c.elim
 | mark m=>
  cases m<;>simp only[MemAct.touch?,Q6,reduceCtorEq] at d<;>(subst d;simp only[Sl] at c;subst c;exact i)
 | _=>simp[MemAct.touch?] at d
theorem IF.FM {G:Υ} {n a:Nat} {e:Event} (h:IF e):Wl G n a e:=by
 rcases h with h|h<;>simp[Wl,h]
theorem ID {G:Υ} {n h:Nat} {e:Event} (d:Wl G n h e) {a:Touch} (c:(MemAct.ofEvent e).touch?=some a) :
  a.loc=e.loc/\a.write=e.write/\(a.loc.isMemory=true->(∃g,e.loc=.cell g)\/∃r,e.loc=.obj r):=by
 obtain⟨i,wr,j⟩:=e;cases i with
 | cell g=>simp[MemAct.ofEvent,MemAct.touch?] at c;subst c;simp
 | obj r=>
  simp only[Wl] at d;obtain⟨rfl,_⟩:=d;cases wr<;>simp[MemAct.ofEvent,MemAct.touch?] at c<;>subst c<;>simp
 | output=>simp[MemAct.ofEvent,MemAct.touch?] at c;subst c;simp[Loc.isMemory]
 | goroutines=>exact d.elim
 | mark m=>simp only[Wl] at d;rcases d with rfl|⟨f,rfl⟩|⟨b,rfl|rfl,_⟩<;>simp[MemAct.ofEvent,MemAct.touch?] at c
theorem Vu.own {H:Y2->Υ} {N:Nat->Nat->Option (ν×TypeId)} {tok:Nat->Nat->Tok} {Q:Nat->Option γ} {ai:Nat->Nat} {aj:Nat->Nat} {aq w w':World} {ar:Nat} {t:Trace}
  (n:Vu H N tok Q ai aj w.heap.size t) (W:Wx H N Q aq w) (X:VJ H N Q ar) (i:Nat) {G':Υ} {V':Nat->Option (ν×TypeId)} {es:Array Event} {fn:FuncId} {pos:String}
  (au:w.heap.size<=w'.heap.size) (ak:IG (H (.inl i)) G' w.heap.size) (al:FP (N i) V' G' w.heap.size)
  (F:∀e∈es,Wl (H (.inl i)) w.heap.size w'.heap.size e) (av:∀b c,V' b=some c->w.heap.size<=b->∀e∈es,¬Sl e.loc b) :
  Vu (Zz H (.inl i) G') (upd N i V') tok Q ai aj w'.heap.size (t++MemOp.ofEvents i fn pos es):=by
 have R:∀C∈MemOp.ofEvents i fn pos es,C.g=i:=λC u=>by obtain⟨e,_,rfl⟩:=Go.Conc.mem_ofEvents u;rfl
 have Y:∀h b o,(H h).has b o->b<w.heap.size:=λh b o ⟨⟨v,p⟩,D⟩=>by
  obtain⟨c,t,aG,hb,_⟩:=Tm ((W.fit h).ω b o v p D);exact XY hb
 have am:∀h b,(H h).XI b->b<w.heap.size:=λh b ⟨x,D⟩=>XY ((W.fit h).obj b x D).1
 have an:∀j b v,N j b=some v->b<w.heap.size:=λj b v hv=>XY (W.Tf j b v.1 v.2 hv)
 have aw:∀s o b,Q s=some o->Yc s o.toSpec b->b<w.heap.size:=λs o b S hb=>by
  obtain⟨⟨aH,E⟩,T⟩:=W.X0 s o S;rcases hb with rfl|hb
  .exact XY E
  .obtain⟨aI,Z⟩:=T b hb;exact XY Z
 have aa:∀e∈es,∀b,b<w.heap.size->(H (.inl i)).off b->¬Sl e.loc b:=λe l b hb ab y=>by
  have:=F e l;obtain⟨V,wr,ad⟩:=e;cases V with
  | cell O=>
   simp only[Sl] at y;subst y;simp only[Wl] at this;rcases this with h|⟨_,h⟩
   .omega
   .cases wr
    .exact ab.1 _ h
    .obtain⟨v,hv⟩:=h;exact ab.1 _ ⟨_,hv⟩
  | obj r=>
   simp only[Sl] at y;subst y;simp only[Wl] at this;rcases this.2 with h|h
   .omega
   .exact ab.2 h
  | _=>exact y
 refine⟨λax=>noRace_append (n.race ax) R λk a A C u b hb L=>?_,λC u=>?_,λC u=>?_,λh=>?_,λj b v hv k a A y=>?_,λs o b S hb k a A y=>?_,λj=>?_⟩
 .obtain⟨e,l,rfl⟩:=Go.Conc.mem_ofEvents u;obtain⟨E,T,Z⟩:=ID (F e l) hb;obtain⟨c1,c2,ay,_⟩:=L;have d:=F e l;rcases Z (by rw[<-c1];exact c2) with⟨O,B⟩|⟨r,B⟩
  .simp only[Wl,B] at d;have P:a.loc=.cell O:=by rw[c1,E,B]
   rcases d with h|⟨ao,h⟩
   .have:=Kz n.low A (b:=O.block) (by rw[P];rfl);omega
   .obtain⟨aJ,aK,sp⟩:=O;simp only at ao;subst ao;by_cases J:e.write=true
    .rw[if_pos J] at h;obtain⟨v,hv⟩:=h;exact(n.perms (.inl i)).ω _ _ v true hv k a A P (.inl U)
    .rw[if_neg J] at h;obtain⟨⟨v,p⟩,hv⟩:=h;exact(n.perms (.inl i)).ω _ _ v p hv k a A P (.inr (ay.resolve_right (by rw[T];exact J)))
  .simp only[Wl,B] at d;have P:a.loc=.obj r:=by rw[c1,E,B]
   rcases d.2 with h|h
   .have:=Kz n.low A (b:=r) (by rw[P];rfl);omega
   .exact(n.perms (.inl i)).obj r h k a A P
 .rcases RI.1 u with h|h
  .exact MemAct.low_mono au (n.low C h)
  .obtain⟨e,l,rfl⟩:=Go.Conc.mem_ofEvents h;have d:=F e l;obtain⟨V,wr,ad⟩:=e;cases V with
   | cell O=>
    simp only[Wl] at d;show O.block<_;rcases d with h|⟨_,h⟩
    .exact h.2
    .cases wr
     .have:=Y _ _ _ h;omega
     .obtain⟨v,hv⟩:=h;have:=Y (.inl i) _ _ ⟨_,hv⟩;omega
   | obj r=>
    simp only[Wl] at d;obtain⟨rfl,d⟩:=d;have az:r<w'.heap.size:=d.elim (λh=>h.2) (λh=>by have:=am _ _ h;omega);cases wr<;>exact az
   | output=>trivial
   | goroutines=>exact d.elim
   | mark m=>
    simp only[Wl] at d;rcases d with rfl|⟨f,rfl⟩|⟨b,aA,_,v,hv⟩
    .trivial
    .trivial
    .have:=Y (.inl i) _ _ ⟨_,hv⟩;rcases aA with rfl|rfl<;>(show b.block<_;omega)
 .rcases RI.1 u with h|h
  .exact n.norel C h
  .obtain⟨e,l,rfl⟩:=Go.Conc.mem_ofEvents h;intro a h;have d:=F e l;obtain⟨V,wr,ad⟩:=e;cases V with
   | mark m=>simp only[Wl] at d;rcases d with rfl|⟨f,rfl⟩|⟨b,rfl|rfl,_⟩<;>simp[MemAct.ofEvent] at h
   | obj r=>cases wr<;>cases ad<;>simp[MemAct.ofEvent] at h
   | _=>simp[MemAct.ofEvent] at h
 .by_cases ae:h=.inl i
  .subst ae;rw[Yr];have ap:YB (t++MemOp.ofEvents i fn pos es) (Knows (t++MemOp.ofEvents i fn pos es) i) (H (.inl i)):=(n.perms (.inl i)).own R;refine⟨λb o v p L k a A B J=>?_,λb hb k a A B=>?_⟩
   .rcases ak.ω b o v p L with aB|⟨aC,aD,af,aE⟩
    .rcases SH A with I|⟨_,C,u,M,_⟩
     .have:=Kz n.low I (b:=b) (by rw[B];rfl);omega
     .have:=knows_own M;rwa [R C u] at this
    .exact ap.ω b o aC aD af k a A B (J.imp aE id)
   .rcases ak.obj b hb with aB|af
    .rcases SH A with I|⟨_,C,u,M,_⟩
     .have:=Kz n.low I (b:=b) (by rw[B];rfl);omega
     .have:=knows_own M;rwa [R C u] at this
    .exact ap.obj b af k a A B
  .rw[Zy _ _ ae];have ag:=X.apart _ _ (YV ae);refine(n.perms h).others (λk M=>FN _ M) λC u a A=>?_;obtain⟨e,l,rfl⟩:=Go.Conc.mem_ofEvents u;obtain⟨E,T,_⟩:=ID (F e l) A;have d:=F e l;refine⟨λb o v p B L=>?_,λb B hb=>?_⟩
   .simp only[Wl,<-E,B] at d;rcases d with D|⟨_,D⟩
    .have:=Y h b o ⟨_,L⟩;omega
    .by_cases J:e.write=true
     .rw[if_pos J] at D;exact absurd ⟨_,L⟩ (ag.ω b o D)
     .rw[if_neg J] at D;refine⟨?_,by rw[T];simpa using J⟩;cases p with
      | false=>rfl
      | true=>exact absurd D (ag.Q3 b o ⟨v,L⟩)
   .simp only[Wl,<-E,B] at d;rcases d.2 with D|D
    .have:=am h b hb;omega
    .exact ag.obj b D hb
 .rcases SH A with I|⟨_,C,u,_,ah⟩
  .have hb:=Kz n.low I y;by_cases K:j=i
   .subst K;rw[upd_same] at hv;rcases al b v hv with h|h
    .exact n.RB j b v h k a I y
    .omega
   .rw[upd_ne _ _ K] at hv;exact n.RB j b v hv k a I y
  .obtain⟨e,l,rfl⟩:=Go.Conc.mem_ofEvents u;obtain⟨E,_,_⟩:=ID (F e l) ah;rw[E] at y;by_cases K:j=i
   .subst K;rw[upd_same] at hv;rcases al b v hv with h|h
    .exact aa e l b (an j b v h) ((X.fresh j b v h).2.1 _) y
    .exact av b v hv h.1 e l y
   .rw[upd_ne _ _ K] at hv;exact aa e l b (an j b v hv) ((X.fresh j b v hv).2.1 _) y
 .rcases SH A with I|⟨_,C,u,_,ah⟩
  .rcases n.cont s o b S hb k a I y with h|⟨h,M⟩
   .exact .inl h
   .obtain⟨C,aF,_⟩:=touch_of I;exact .inr ⟨h,by rw[g?_old (lt_size_of_getElem? aF)];exact M⟩
  .obtain⟨e,l,rfl⟩:=Go.Conc.mem_ofEvents u;obtain⟨E,_,_⟩:=ID (F e l) ah;rw[E] at y;exact absurd y (aa e l b (aw s o b S hb) ((X.U6 s o b S hb).2.1 _))
 .by_cases K:i=j
  .subst K;rw[Deaf_own,deafBehind_still (λe l=>?_)]
   .exact n.hears i
   .have d:=F e l;constructor<;>intro B<;>simp[Wl,B] at d
  .rw[Deaf_other t K _ R];exact n.hears j
def RA:TT->Prop
 | .fin|.uc|.us|.done=>True
 | _=>False
def Zn (tok:Nat->Nat->Tok) (i s:Nat) (t:Tok):Nat->Nat->Tok:=upd tok i (upd (tok i) s t)
theorem XH (tok:Nat->Nat->Tok) (i s:Nat) (t:Tok):Zn tok i s t i s=t:=by simp[Zn,upd]
theorem XT {tok:Nat->Nat->Tok} {i s j r:Nat} (t:Tok) (h:¬(j=i/\r=s)):Zn tok i s t j r=tok j r:=by
 unfold Zn upd;by_cases a:j=i
 .subst a;by_cases b:r=s
  .exact absurd ⟨U,b⟩ h
  .simp[b]
 .simp[a]
theorem CM (tok:Nat->Nat->Tok) (i s:Nat) (t:Tok):(λj=>Zn tok i s t j s)=upd (λj=>tok j s) i t:=by
 funext j
 by_cases a:j=i
 .subst a;rw[XH,upd_same]
 .rw[XT _ (λh=>a h.1),upd_ne _ _ a]
theorem FL (tok:Nat->Nat->Tok) (i s:Nat) (t:Tok) {r:Nat} (a:r≠s):(λj=>Zn tok i s t j r)=λj=>tok j r:=by
 funext j;rw[XT _ (λh=>a h.2)]
structure XZ (n:Nat) (tok:Nat->Nat->Tok) (spec:Nat->Nat->Option Spec) (h:Nat->Nat->Option (Nat×γ)) (d:Nat->Bool) (a:Nat->Option γ) (e b:Nat->Nat):Prop where
 Wj:∀s o,a s=some o->Oe n o (λi=>tok i s)
 bare:∀s,a s=none->∀i,tok i s=.nil
 out:∀i s,n<=i->tok i s=.nil
 P9:∀i s sp,spec i s=some sp->∃o,a s=some o/\o.toSpec=sp
 Nh:∀i s φ o,h i s=some (φ,o)->∃c,a s=some c/\X6 n c (λj=>tok j s)<=φ/\(X6 n c (λj=>tok j s)=φ->c=o)
 YJ:∀i s k L g o,a s=some o->tok i s=.ch k (.YJ L) g->o.L=L
 par:∀i s m p f,tok i s=.par m p f->i=e s
 Rz:∀i s k m g,tok i s=.ch k m g->i≠0/\b i=s/\e s<i
 QX:∀i,i≠0->i<n->∃k m g,tok i (b i)=.ch k m g
 W2:∀i k m g,i≠0->tok i (b i)=.ch k m g->(d i=true↔g≠.work)
 Od:d 0=false
 Ry:∀i s,d i=true->s≠b i->XE (tok i s)
 Rx:∀i s k m g o,a s=some o->tok i s=.ch k m g->g≠.work->m=.done\/(m=.idle/\o.ZS=none)
 Ng:∀s i j k m g l g',tok i s=.ch k m g->tok j s=.ch k l g'->i=j
 Oc:∀s i k m g q p f,tok i s=.ch k m g->tok (e s) s=.par q p f->k+p<q
 Rw:∀s o,a s=some o->o.L.Nodup/\∀k,k∈o.L↔∃i m g,tok i s=.ch k m g/\RA m
 P8:∀s o,a s=some o->o.R.Nodup/\∀k,k∈o.R↔∃i m g,tok i s=.ch k m g/\g≠.work
def Alike (t t':Tok):Prop:=(∃m p c a b d,t=.par m p c/\t'=.par a b d/\∀k,k+p<m->k+b<a)\/(∃k m g a g',t=.ch k m g/\t'=.ch k a g')
section
variable {n:Nat} {tok:Nat->Nat->Tok} {spec:Nat->Nat->Option Spec} {view:Nat->Nat->Option (Nat×γ)} {rel:Nat->Bool} {O:Nat->Option γ} {Zo home:Nat->Nat}
theorem XZ.lt (h:XZ n tok spec view rel O Zo home) {i s:Nat} (a:tok i s≠.nil):i<n:=Nat.lt_of_not_le λb=>a (h.out i s b)
theorem XZ.change (h:XZ n tok spec view rel O Zo home) {s i:Nat} {o o':γ} {t t':Tok} {M:Nat->Bool} {V:Nat->Option (Nat×γ)} (X:O s=some o) (N:tok i s=t) (P:Alike t t')
  (ae:Oe n o' (upd (λj=>tok j s) i t')) (aw:X6 n o' (upd (λj=>tok j s) i t')<X6 n o (λj=>tok j s)) (af:o'.toSpec=o.toSpec)
  (ag:∀r φ q,V r=some (φ,q)->(r=s/\φ=X6 n o' (upd (λj=>tok j s) i t')/\q=o')\/(r≠s/\view i r=some (φ,q)))
  (ah:∀j k L g,Zn tok i s t' j s=.ch k (.YJ L) g->o'.L=L)
  (ai:∀j k m g,j≠0->Zn tok i s t' j (home j)=.ch k m g->(M j=true↔g≠.work)) (aj:M 0=false)
  (ak:∀j r,M j=true->r≠home j->XE (Zn tok i s t' j r))
  (al:∀j k m g,Zn tok i s t' j s=.ch k m g->g≠.work->m=.done\/(m=.idle/\o'.ZS=none))
  (am:o'.L.Nodup/\∀k,k∈o'.L↔∃j m g,Zn tok i s t' j s=.ch k m g/\RA m) (an:o'.R.Nodup/\∀k,k∈o'.R↔∃j m g,Zn tok i s t' j s=.ch k m g/\g≠.work) :
  XZ n (Zn tok i s t') spec (upd view i V) M (upd O s (some o')) Zo home:=by
 have ax:i<n:=h.lt (s:=s) (by rw[N];rcases P with⟨_,_,_,_,_,_,rfl,_⟩|⟨_,_,_,_,_,rfl,_⟩<;>simp)
 have S:=CM tok i s t'
 have T:∀r,r≠s->(λj=>Zn tok i s t' j r)=λj=>tok j r:=λr v=>FL tok i s t' v
 have E:∀j r,r≠s->Zn tok i s t' j r=tok j r:=λj r v=>congrFun (T r v) j
 have ao:∀j,j≠i->∀r,Zn tok i s t' j r=tok j r:=λj c r=>XT _ λx=>c x.1
 have Q:∀j r k m g,Zn tok i s t' j r=.ch k m g->∃l w,tok j r=.ch k l w:=λj r k m g c=>by
  by_cases e:j=i/\r=s
  .obtain⟨rfl,rfl⟩:=e;rw[XH] at c;rcases P with⟨_,_,_,_,_,_,_,f,_⟩|⟨Y,l,w,F,H,d,f⟩
   .rw[f] at c;cases c
   .rw[f] at c;cases c;exact⟨l,w,by rw[N,d]⟩
  .rw[XT _ e] at c;exact⟨m,g,c⟩
 have ap:∀j r k m g,tok j r=.ch k m g->∃l w,Zn tok i s t' j r=.ch k l w:=λj r k m g c=>by
  by_cases e:j=i/\r=s
  .obtain⟨rfl,rfl⟩:=e;rw[XH];rw[N] at c;rcases P with⟨_,_,_,_,_,_,d,_,_⟩|⟨Y,l,w,F,H,d,f⟩
   .rw[d] at c;cases c
   .rw[d] at c;cases c;exact⟨F,H,f⟩
  .rw[XT _ e];exact⟨m,g,c⟩
 have Z:∀j r m p A,Zn tok i s t' j r=.par m p A->∃l C J,tok j r=.par l C J/\∀k,k+C<l->k+p<m:=λj r m p A c=>by
  by_cases e:j=i/\r=s
  .obtain⟨rfl,rfl⟩:=e;rw[XH] at c;rcases P with⟨_,_,_,_,_,_,d,f,B⟩|⟨Y,l,w,F,H,d,f⟩
   .rw[f] at c;cases c;exact⟨_,_,_,by rw[N,d],B⟩
   .rw[f] at c;cases c
  .rw[XT _ e] at c;exact⟨m,p,A,c,λ_ x=>x⟩
 have K:∀r q,upd O s (some o') r=some q->(r=s/\q=o')\/(r≠s/\O r=some q):=λr q u=>by
  by_cases e:r=s
  .subst e;rw[upd_same] at u;cases u;exact .inl ⟨U,U⟩
  .rw[upd_ne _ _ e] at u;exact .inr ⟨e,u⟩
 refine⟨λr q u=>?_,λr v j=>?_,λj r c=>?_,λj r sp c=>?_,λj r φ q c=>?_,λj r k L g q u c=>?_,λj r m p A c=>?_,λj r k m g c=>?_,λj aq c=>?_,ai,aj,ak,λj r k m g q u c aa=>?_,λr j ab k m g ar g' d f=>?_,λr j k m g q p A d f=>?_,λr q u=>?_,λr q u=>?_⟩
 .rcases K r q u with⟨rfl,rfl⟩|⟨e,y⟩
  .rw[S];exact ae
  .rw[T r e];exact h.Wj r q y
 .by_cases e:r=s
  .subst e;rw[upd_same] at v;cases v
  .rw[upd_ne _ _ e] at v;rw[E j r e];exact h.bare r v j
 .rw[ao j I r];exact h.out j r c
 .obtain⟨q,d,f⟩:=h.P9 j r sp c;by_cases e:r=s
  .subst e;rw[X] at d;cases d;exact⟨o',upd_same ..,by rw[af];exact f⟩
  .exact⟨q,by rw[upd_ne _ _ e];exact d,f⟩
 .have ad:∀φ q,view j r=some (φ,q)->∃D,upd O s (some o') r=some D/\X6 n D (λa=>Zn tok i s t' a r)<=φ/\(X6 n D (λa=>Zn tok i s t' a r)=φ->D=q):=λφ q hv=>by
   obtain⟨D,d,f,B⟩:=h.Nh j r φ q hv;by_cases e:r=s
   .subst e;rw[X] at d;cases d;rw[upd_same,S];exact⟨o',U,I,λx=>I⟩
   .rw[upd_ne _ _ e,T r e];exact⟨D,d,f,B⟩
  by_cases e:j=i
  .subst e;rw[upd_same] at c;rcases ag r φ q c with⟨rfl,rfl,rfl⟩|⟨v,hv⟩
   .rw[upd_same,S];exact⟨_,U,ZY _,λ_=>rfl⟩
   .exact ad φ q hv
  .rw[upd_ne _ _ e] at c;exact ad φ q c
 .rcases K r q u with⟨rfl,rfl⟩|⟨e,y⟩
  .exact ah j k L g c
  .rw[E j r e] at c;exact h.YJ j r k L g q y c
 .obtain⟨l,C,J,d,_⟩:=Z j r m p A c;exact h.par j r l C J d
 .obtain⟨l,w,d⟩:=Q j r k m g c;exact h.Rz j r k l w d
 .obtain⟨k,m,g,d⟩:=h.QX j aq c;obtain⟨F,H,f⟩:=ap j _ k m g d;exact⟨k,F,H,f⟩
 .rcases K r q u with⟨rfl,rfl⟩|⟨e,y⟩
  .exact al j k m g c aa
  .rw[E j r e] at c;exact h.Rx j r k m g q y c aa
 .obtain⟨a,b,B⟩:=Q j r k m g d;obtain⟨a',au,W⟩:=Q ab r k ar g' f;exact h.Ng r j ab k a b a' au B W
 .obtain⟨a,b,B⟩:=Q j r k m g d;obtain⟨l,C,J,W,av⟩:=Z _ r q p A f;exact av k (h.Oc r j k a b l C J B W)
 .rcases K r q u with⟨rfl,rfl⟩|⟨e,y⟩
  .exact am
  .simp only[λj=>E j r e];exact h.Rw r q y
 .rcases K r q u with⟨rfl,rfl⟩|⟨e,y⟩
  .exact an
  .simp only[λj=>E j r e];exact h.P8 r q y
theorem x2 {o o':γ} {t t':Tok} (h:Act o t o' t'):Alike t t':=by
 cases h
 case add=>exact .inl ⟨_,_,_,_,_,_,U,U,λk a=>I⟩
 case thru|C3|wake=>exact .inl ⟨_,_,_,_,_,_,U,U,λk a=>a⟩
 all_goals exact .inr ⟨_,_,_,_,_,U,U⟩
theorem CL {o o':γ} {t t':Tok} (h:Act o t o' t'):o'.toSpec=o.toSpec/\o'.L=o.L/\o'.R=o.R:=by
 cases h<;>exact⟨U,U,U⟩
theorem CK {o o':γ} {t t':Tok} (h:Act o t o' t'):(∀k m g,t'=.ch k m g->∃a b,t=.ch k a b/\(RA m↔RA a)/\(g=.work↔b=.work)/\(b≠.work->m=a)/\∀L,m=.YJ L->a=.YJ L)/\(∀k m g,t=.ch k m g->∃c d,t'=.ch k c d/\(RA c↔RA m)/\(d=.work↔g=.work))/\¬XE t:=by
 refine⟨λk m g e=>?_,λk m g e=>?_,?_⟩
 .cases h<;>cases e<;>exact⟨_,_,U,by simp[RA],Ω,Ω,Ω⟩
 .cases h<;>cases e<;>exact⟨_,_,U,by simp[RA],Ω⟩
 .cases h<;>simp[XE]
theorem XZ.act (h:XZ n tok spec view rel O Zo home) {s i:Nat} {o o':γ} {t t':Tok} (w:O s=some o) (v:tok i s=t) (A:Act o t o' t') :
  XZ n (Zn tok i s t') spec (upd view i (upd (view i) s (some (X6 n o' (upd (λj=>tok j s) i t'),o')))) rel (upd O s (some o')) Zo home:=by
 obtain⟨M,N,F⟩:=CK A;have E:i<n:=h.lt (s:=s) (by rw[v];rintro rfl;exact F trivial);obtain⟨H,I,P⟩:=CL A;have D:∀j r k m g,Zn tok i s t' j r=.ch k m g->∃f d,tok j r=.ch k f d/\(RA m↔RA f)/\(g=.work↔d=.work)/\(d≠.work->m=f)/\∀L,m=.YJ L->f=.YJ L:=λj r k m g c=>by
  by_cases e:j=i/\r=s
  .obtain⟨rfl,rfl⟩:=e;rw[XH] at c;obtain⟨f,d,l,p⟩:=M k m g c;exact⟨f,d,by rw[v,l],p⟩
  .rw[XT _ e] at c;exact⟨m,g,c,.rfl,.rfl,λ_=>rfl,λ_ x=>x⟩
 have is:∀j k m g,tok j s=.ch k m g->∃B C,Zn tok i s t' j s=.ch k B C/\(RA B↔RA m)/\(C=.work↔g=.work):=λj k m g c=>by
  by_cases e:j=i/\s=s
  .obtain⟨rfl,_⟩:=e;rw[XH];rw[v] at c;exact N k m g c
  .rw[XT _ e];exact⟨m,g,c,.rfl,.rfl⟩
 refine h.change w v (x2 A) (⟨x' (h.Wj s o w).1 E v A,x9 (h.Wj s o w).2 E v A⟩) (C1 E v A) H (λr φ q hv=>?_) (λj k L g c=>?_) (λj k m g Q c=>?_) h.Od (λj r c J=>?_) (λj k m g c R=>?_) ?_ ?_
 .by_cases e:r=s
  .subst e;rw[upd_same] at hv;cases hv;exact .inl ⟨U,U,U⟩
  .rw[upd_ne _ _ e] at hv;exact .inr ⟨e,hv⟩
 .obtain⟨f,d,l,_,_,_,p⟩:=D j s k _ g c;rw[I];exact h.YJ j s k L d o w (by rw[l,p L U])
 .obtain⟨f,d,l,_,p,_⟩:=D j _ k m g c;rw[h.W2 j k f d Q l];exact not_congr p.symm
 .by_cases e:j=i/\r=s
  .obtain⟨rfl,rfl⟩:=e;have:=h.Ry j r c J;rw[v] at this;exact absurd this F
  .rw[XT _ e];exact h.Ry j r c J
 .obtain⟨f,d,l,_,p,u,_⟩:=D j s k m g c;have K:d≠.work:=λx=>R (p.2 x);rw[u K];have:=h.Rx j s k f d o w l K;rw[show o'.ZS=o.ZS by rw[H]];exact this
 .obtain⟨a,b⟩:=h.Rw s o w;rw[I];refine⟨a,λk=>(b k).trans ⟨λ⟨j,m,g,l,p⟩=>?_,λ⟨j,m,g,l,p⟩=>?_⟩⟩
  .obtain⟨B,C,u,y,_⟩:=is j k m g l;exact⟨j,B,C,u,y.2 p⟩
  .obtain⟨f,d,u,y,_⟩:=D j s k m g l;exact⟨j,f,d,u,y.1 p⟩
 .obtain⟨a,b⟩:=h.P8 s o w;rw[P];refine⟨a,λk=>(b k).trans ⟨λ⟨j,m,g,l,p⟩=>?_,λ⟨j,m,g,l,p⟩=>?_⟩⟩
  .obtain⟨B,C,u,_,y⟩:=is j k m g l;exact⟨j,B,C,u,λx=>p (y.1 x)⟩
  .obtain⟨f,d,u,_,y,_⟩:=D j s k m g l;exact⟨j,f,d,u,λx=>p (y.2 x)⟩
theorem XZ.look (h:XZ n tok spec view rel O Zo home) {s i:Nat} {o:γ} (d:O s=some o):XZ n tok spec (upd view i (upd (view i) s (some (X6 n o (λj=>tok j s),o)))) rel O Zo home:=
 have f:∀j r φ q,upd view i (upd (view i) s (some (X6 n o (λj=>tok j s),o))) j r=some (φ,q)->∃b,O r=some b/\X6 n b (λj=>tok j r)<=φ/\(X6 n b (λj=>tok j r)=φ->b=q):=λj r φ q a=>by
  by_cases e:j=i
  .subst e;rw[upd_same] at a;by_cases c:r=s
   .subst c;rw[upd_same] at a;cases a;exact⟨o,d,ZY _,λ_=>rfl⟩
   .rw[upd_ne _ _ c] at a;exact h.Nh j r φ q a
  .rw[upd_ne _ _ e] at a;exact h.Nh j r φ q a
 {h with Nh:=f}
theorem IC {s i:Nat} {r φ:Nat} {q:γ} {o':γ} {z:Nat} (hv:upd (view i) s none r=some (φ,q)):(r=s/\φ=z/\q=o')\/(r≠s/\view i r=some (φ,q)):=by
 by_cases e:r=s
 .subst e;rw[upd_same] at hv;cases hv
 .rw[upd_ne _ _ e] at hv;exact .inr ⟨e,hv⟩
theorem x1 {l:κ} {k:Nat} (h:l.Nodup) (d:k∉l):(l++[k]).Nodup:=by
 rw[KM];exact⟨h,Ω,λa e b c=>by simp at c;subst c;rintro rfl;exact d e⟩
theorem XZ.FT (h:XZ n tok spec view rel O Zo home) {s i k:Nat} {o:γ} (u:O s=some o) (l:tok i s=.ch k .own .work) :
  XZ n (Zn tok i s (.ch k (.YJ o.L) .work)) spec (upd view i (upd (view i) s none)) rel (upd O s (some o)) Zo home:=by
 have w:i<n:=h.lt (s:=s) (by rw[l];simp)
 have y:Q0 o (.ch k .own .work) o (.ch k (.YJ o.L) .work):=.FT
 have t:∀j,j≠i->∀r,Zn tok i s (.ch k (.YJ o.L) .work) j r=tok j r:=λj c r=>XT _ λx=>c x.1
 have B:=h.Rz i s k _ _ l;refine h.change u l (.inr ⟨_,_,_,_,_,U,U⟩) ⟨IJ (h.Wj s o u).1 w l y,II (h.Wj s o u).2 w l y⟩ (IK w l y) U (λr φ q hv=>IC hv) (λj p L g c=>?_) (λj p m g C c=>?_) h.Od (λj r c A=>?_) (λj p m g c D=>?_) ?_ ?_
 .by_cases e:j=i
  .subst e;rw[XH] at c;cases c;rfl
  .rw[t j e] at c;exact h.YJ j s p L g o u c
 .by_cases e:j=i
  .subst e;have v:home j=s:=B.2.1;rw[v,XH] at c;cases c;exact h.W2 j k .own .work C (by rw[v];exact l)
  .rw[t j e] at c;exact h.W2 j p m g C c
 .by_cases e:j=i
  .subst e;have v:home j=s:=B.2.1;rw[XT _ (λx=>A (by rw[x.2,v]))];exact h.Ry j r c A
  .rw[t j e];exact h.Ry j r c A
 .by_cases e:j=i
  .subst e;rw[XH] at c;cases c;exact absurd U D
  .rw[t j e] at c;exact h.Rx j s p m g o u c D
 .obtain⟨a,b⟩:=h.Rw s o u;refine⟨a,λp=>(b p).trans ⟨λ⟨j,m,g,d,f⟩=>?_,λ⟨j,m,g,d,f⟩=>?_⟩⟩
  .by_cases e:j=i
   .subst e;rw[l] at d;cases d;exact f.elim
   .exact⟨j,m,g,by rw[t j e];exact d,f⟩
  .by_cases e:j=i
   .subst e;rw[XH] at d;cases d;exact f.elim
   .exact⟨j,m,g,by rw[t j e] at d;exact d,f⟩
 .obtain⟨a,b⟩:=h.P8 s o u;refine⟨a,λp=>(b p).trans ⟨λ⟨j,m,g,d,f⟩=>?_,λ⟨j,m,g,d,f⟩=>?_⟩⟩
  .by_cases e:j=i
   .subst e;rw[l] at d;cases d;exact absurd U f
   .exact⟨j,m,g,by rw[t j e];exact d,f⟩
  .by_cases e:j=i
   .subst e;rw[XH] at d;cases d;exact absurd U f
   .exact⟨j,m,g,by rw[t j e] at d;exact d,f⟩
theorem XZ.x0 (h:XZ n tok spec view rel O Zo home) {s i k:Nat} {L:κ} {o:γ} (t:O s=some o) (p:tok i s=.ch k (.YJ L) .work) :
  XZ n (Zn tok i s (.ch k .fin .work)) spec (upd view i (upd (view i) s none)) rel (upd O s (some {o with L:=o.L++[k]})) Zo home:=by
 have v:i<n:=h.lt (s:=s) (by rw[p];simp)
 have A:Q0 o (.ch k (.YJ L) .work) {o with L:=o.L++[k]} (.ch k .fin .work):=.yb
 have u:∀j,j≠i->∀r,Zn tok i s (.ch k .fin .work) j r=tok j r:=λj d r=>XT _ λx=>d x.1
 have D:=h.Rz i s k _ _ p
 have only:∀j l w g,tok j s=.ch l (.YJ w) g->j=i:=λj l w g d=>by
  apply TW;intro H;have I:j<n:=h.lt (s:=s) (by rw[d];simp);have c:=W0 (λa=>tok a s) .nil VM v;have f:=Xy (upd (λa=>tok a s) i .nil) VM I;rw[upd_ne _ _ H] at f;simp only[p,d,VM,KG] at c f;have:=(h.Wj s o t).1.C6;have:=(h.Wj s o t).1.f1;omega
 have J:k∉o.L:=λB=>by
  obtain⟨j,m,g,c,f⟩:=((h.Rw s o t).2 k).1 B;have:=h.Ng s j i k m g _ _ c p;subst this;rw[p] at c;cases c;exact f
 refine h.change t p (.inr ⟨_,_,_,_,_,U,U⟩) ⟨IJ (h.Wj s o t).1 v p A,II (h.Wj s o t).2 v p A⟩ (IK v p A) U (λr φ q hv=>IC hv) (λj l w g d=>?_) (λj l m g E d=>?_) h.Od (λj r d C=>?_) (λj l m g d F=>?_) ?_ ?_
 .by_cases e:j=i
  .subst e;rw[XH] at d;cases d
  .rw[u j e] at d;exact absurd (only j l w g d) e
 .by_cases e:j=i
  .subst e;have y:home j=s:=D.2.1;rw[y,XH] at d;cases d;exact h.W2 j k (.YJ L) .work E (by rw[y];exact p)
  .rw[u j e] at d;exact h.W2 j l m g E d
 .by_cases e:j=i
  .subst e;have y:home j=s:=D.2.1;rw[XT _ (λx=>C (by rw[x.2,y]))];exact h.Ry j r d C
  .rw[u j e];exact h.Ry j r d C
 .by_cases e:j=i
  .subst e;rw[XH] at d;cases d;exact absurd U F
  .rw[u j e] at d;exact h.Rx j s l m g o t d F
 .obtain⟨a,b⟩:=h.Rw s o t;refine⟨x1 a J,λl=>?_⟩;rw[Uv,Ol];constructor
  .rintro(B|rfl)
   .obtain⟨j,m,g,c,f⟩:=(b l).1 B;have e:j≠i:=by rintro rfl;rw[p] at c;cases c;exact f
    exact⟨j,m,g,by rw[u j e];exact c,f⟩
   .exact⟨i,.fin,.work,XH ..,trivial⟩
  .rintro⟨j,m,g,c,f⟩;by_cases e:j=i
   .subst e;rw[XH] at c;cases c;exact .inr U
   .rw[u j e] at c;exact .inl ((b l).2 ⟨j,m,g,c,f⟩)
 .obtain⟨a,b⟩:=h.P8 s o t;refine⟨a,λl=>(b l).trans ⟨λ⟨j,m,g,c,f⟩=>?_,λ⟨j,m,g,c,f⟩=>?_⟩⟩
  .by_cases e:j=i
   .subst e;rw[p] at c;cases c;exact absurd U f
   .exact⟨j,m,g,by rw[u j e];exact c,f⟩
  .by_cases e:j=i
   .subst e;rw[XH] at c;cases c;exact absurd U f
   .exact⟨j,m,g,by rw[u j e] at c;exact c,f⟩
theorem XZ.xZ (h:XZ n tok spec view rel O Zo home) {s i k:Nat} {p:TT} {o:γ} (u:O s=some o) (l:tok i s=.ch k p .work) (w:p=.done\/(p=.idle/\o.ZS=none)) (H:∀r,r≠s->XE (tok i r)) :
  XZ n (Zn tok i s (.ch k p .rel)) spec (upd view i (upd (view i) s none)) (upd rel i true) (upd O s (some {o with R:=k::o.R})) Zo home:=by
 have y:i<n:=h.lt (s:=s) (by rw[l];simp)
 have A:Q0 o (.ch k p .work) {o with R:=k::o.R} (.ch k p .rel):=.ya w
 have v:∀j,j≠i->∀r,Zn tok i s (.ch k p .rel) j r=tok j r:=λj d r=>XT _ λx=>d x.1
 have B:=h.Rz i s k _ _ l
 have I:k∉o.R:=λC=>by
  obtain⟨j,m,g,c,f⟩:=((h.P8 s o u).2 k).1 C;have:=h.Ng s j i k m g _ _ c l;subst this;rw[l] at c;cases c;exact f U
 refine h.change u l (.inr ⟨_,_,_,_,_,U,U⟩) ⟨IJ (h.Wj s o u).1 y l A,II (h.Wj s o u).2 y l A⟩ (IK y l A) U (λr φ q hv=>IC hv) (λj t J g d=>?_) (λj t m g K d=>?_) (by rw[upd_ne _ _ (YV B.1)];exact h.Od) (λj r d E=>?_) (λj t m g d L=>?_) ?_ ?_
 .by_cases e:j=i
  .subst e;rw[XH] at d;rcases w with rfl|⟨rfl,_⟩<;>cases d
  .rw[v j e] at d;exact h.YJ j s t J g o u d
 .by_cases e:j=i
  .subst e;have D:home j=s:=B.2.1;rw[D,XH] at d;cases d;rw[upd_same];simp
  .rw[v j e] at d;rw[upd_ne _ _ e];exact h.W2 j t m g K d
 .by_cases e:j=i
  .subst e;have D:home j=s:=B.2.1;have F:r≠s:=λx=>E (by rw[x,D]);rw[XT _ (λx=>F x.2)];exact H r F
  .rw[v j e];rw[upd_ne _ _ e] at d;exact h.Ry j r d E
 .by_cases e:j=i
  .subst e;rw[XH] at d;cases d;exact w
  .rw[v j e] at d;exact h.Rx j s t m g o u d L
 .obtain⟨a,b⟩:=h.Rw s o u;refine⟨a,λt=>(b t).trans ⟨λ⟨j,m,g,c,f⟩=>?_,λ⟨j,m,g,c,f⟩=>?_⟩⟩
  .by_cases e:j=i
   .subst e;rw[l] at c;cases c;exact⟨j,p,.rel,XH ..,f⟩
   .exact⟨j,m,g,by rw[v j e];exact c,f⟩
  .by_cases e:j=i
   .subst e;rw[XH] at c;cases c;exact⟨j,p,.work,l,f⟩
   .exact⟨j,m,g,by rw[v j e] at c;exact c,f⟩
 .obtain⟨a,b⟩:=h.P8 s o u;refine⟨Q5.2 ⟨I,a⟩,λt=>?_⟩;rw[Yd];constructor
  .rintro(rfl|C)
   .exact⟨i,p,.rel,XH ..,Ω⟩
   .obtain⟨j,m,g,c,f⟩:=(b t).1 C;have e:j≠i:=by rintro rfl;rw[l] at c;cases c;exact f U
    exact⟨j,m,g,by rw[v j e];exact c,f⟩
  .rintro⟨j,m,g,c,f⟩;by_cases e:j=i
   .subst e;rw[XH] at c;cases c;exact .inl U
   .rw[v j e] at c;exact .inr ((b t).2 ⟨j,m,g,c,f⟩)
theorem XZ.gtake (h:XZ n tok spec view rel O Zo home) {s i q:Nat} {f:Pb} {o:γ} (b:O s=some o) (c:tok i s=.par q 0 f) (t:f=.Sk\/f=.w4) :
  XZ n (Zn tok i s (.par q 0 .YG)) spec (upd view i (upd (view i) s none)) rel (upd O s (some o)) Zo home:=by
 have l:i<n:=h.lt (s:=s) (by rw[c];simp)
 have p:Q0 o (.par q 0 f) o (.par q 0 .YG):=.gtake t
 have B:∀j,j≠i->∀r,Zn tok i s (.par q 0 .YG) j r=tok j r:=λj a r=>XT _ λx=>a x.1
 have cs:∀j r k m g,Zn tok i s (.par q 0 .YG) j r=.ch k m g↔tok j r=.ch k m g:=λj r k m g=>by
  by_cases e:j=i/\r=s
  .obtain⟨rfl,rfl⟩:=e;rw[XH,c];simp
  .rw[XT _ e]
 refine h.change b c (.inl ⟨_,_,_,_,_,_,U,U,λk u=>u⟩) ⟨IJ (h.Wj s o b).1 l c p,II (h.Wj s o b).2 l c p⟩ (IK l c p) U (λr φ q hv=>IC hv) (λj d v g a=>?_) (λj d m g w a=>?_) h.Od (λj r a y=>?_) (λj d m g a A=>?_) ?_ ?_
 .rw[cs] at a;exact h.YJ j s d v g o b a
 .rw[cs] at a;exact h.W2 j d m g w a
 .by_cases e:j=i/\r=s
  .obtain⟨rfl,rfl⟩:=e;rw[XH];trivial
  .rw[XT _ e];exact h.Ry j r a y
 .rw[cs] at a;exact h.Rx j s d m g o b a A
 .simp only[cs];exact h.Rw s o b
 .simp only[cs];exact h.P8 s o b
end
def Te (a O':Nat->Option γ):Prop:=(∀s o',O' s=some o'->∃o,a s=some o/\o.toSpec=o'.toSpec)/\∀s o,a s=some o->∃o',O' s=some o'/\o.toSpec=o'.toSpec
theorem Te.upd {b:Nat->Option γ} {s:Nat} {o o':γ} (c:b s=some o) (h:o'.toSpec=o.toSpec):Te b (Go.ConcN.upd b s (some o')):=by
 refine⟨λr q a=>?_,λr q a=>?_⟩
 .by_cases e:r=s
  .subst e;rw[upd_same] at a;cases a;exact⟨o,c,h.symm⟩
  .rw[upd_ne _ _ e] at a;exact⟨q,a,U⟩
 .by_cases e:r=s
  .subst e;rw[c] at a;cases a;exact⟨o',upd_same ..,h.symm⟩
  .exact⟨q,by rw[upd_ne _ _ e];exact a,U⟩
section
variable {H:Y2->Υ} {Z8:Nat->Nat->Option (ν×TypeId)} {tok O9:Nat->Nat->Tok} {O O':Nat->Option γ} {Zo:Nat->Nat} {deaf CJ:Nat->Nat} {N P7:Nat} {t:Trace} {ZB w w':World}
theorem IB {h:Y2} {k:Nat} (c:∀s o',O' s=some o'->∃o,O s=some o/\o.toSpec=o'.toSpec) (d:∀i s,O9 i s≠.nil->tok i s≠.nil) (a:U5 tok O t h k):U5 O9 O' t h k:=by
 cases h with
 | inl i=>exact a
 | inr b=>
  refine a.imp id λh s o e f i hi=>?_;obtain⟨g,j,l⟩:=c s o e;exact h s g j (by rw[l];exact f) i (d i s hi)
theorem Vu.xY (h:Vu H Z8 tok O Zo deaf N t) (a:Te O O') (c:∀i s,O9 i s≠.nil->tok i s≠.nil):Vu H Z8 O9 O' Zo deaf N t:=
 ⟨h.race,h.low,h.norel,λk=>(h.perms k).mono λ_=>IB a.1 c,h.RB,λs o b d e=>let ⟨f,g,j⟩:=a.1 s o d;h.cont s f b g (by rw[j];exact e),h.hears⟩
theorem VJ.Tn (h:VJ H Z8 O P7) (e:Te O O'):VJ H Z8 O' P7:=
 ⟨h.apart,h.high,h.Sf,h.fresh,λs o b a f=>let ⟨g,c,d⟩:=e.1 s o a;h.U6 s g b c (by rw[d];exact f),
  λs i o o' b a j f k=>let ⟨g,c,d⟩:=e.1 s o a;let ⟨l,n,p⟩:=e.1 i o' j;h.Uu s i g l b c n (by rw[d];exact f) (by rw[p];exact k),
  λs o m a r=>let ⟨g,c,d⟩:=e.1 s o a;h.QY s g m c (by rw[d];exact r),
  λb f=>h.X8 b λs o a hi=>let ⟨o',c,d⟩:=e.2 s o a;f s o' c (by rw[<-d];exact hi)⟩
theorem Vu.ext (h:Vu H Z8 tok O Zo deaf N t) (K:VJ H Z8 O P7) (i:Nat) {u:Trace} (P:∀c∈u,c.g=i) (r:∀c∈u,c.act.low N) (S:∀c∈u,∀a,c.act≠.mark (.release a))
  (E:∀c∈u,∀b,c.act.touch?=some b->∃s o f w,O s=some o/\Yc s o.toSpec f/\b.loc=.cell ⟨f,w,none⟩/\(b.kind=.atomic\/(b.kind=.said/\i=Zo s)))
  (hd:∀j,Deaf (t++u) j=CJ j):Vu H Z8 tok O Zo CJ N (t++u):=by
 refine⟨λT=>noRace_append (h.race T) P λk a m c d b D L=>?_,λc d=>(RI.1 d).elim (h.low c) (r c),λc d=>(RI.1 d).elim (h.norel c) (S c),λk=>?_,λj b v hv k a m l=>?_,λs o b Q D k a m l=>?_,hd⟩
 .obtain⟨s,o,f,w,A,B,n,C⟩:=E c d b D;obtain⟨c1,_,_,R⟩:=L;have l:Sl a.loc f:=by rw[c1,n];rfl
  rcases h.cont s o f A B k a m l with F|⟨F,U⟩
  .exfalso;rcases R with x|x|⟨_,x,_⟩
   .rw[F] at x;cases x
   .rcases C with y|⟨y,_⟩<;>(rw[y] at x;cases x)
   .rw[F] at x;cases x
  .rcases C with y|⟨y,rfl⟩
   .exfalso;rcases R with x|x|⟨_,_,x⟩
    .rw[F] at x;cases x
    .rw[y] at x;cases x
    .rw[y] at x;cases x
   .obtain⟨z,I,_⟩:=touch_of m;have:=knows_own I;have e:z.g=Zo s:=by simpa[Trace.g?,I] using U
    rwa [e] at this
 .have:YB (t++u) (U5 tok O (t++u) k) (H k):=(h.perms k).others (λx V=>FN _ V) λc d a m=>by
   obtain⟨s,o,f,w,A,B,n,C⟩:=E c d a m;have w:=(K.U6 s o f A B).2.1 k;refine⟨λb o' v p r L=>?_,λb r D=>?_⟩
   .rw[n] at r;cases r;exact absurd ⟨_,L⟩ (w.1 _)
   .rw[n] at r;cases r
  exact this
 .rcases SH m with J|⟨_,c,d,_,M⟩
  .exact h.RB j b v hv k a J l
  .obtain⟨s,o,f,w,A,B,n,C⟩:=E c d a M;rw[n] at l;simp only[Sl] at l;subst l;rw[(K.U6 s o f A B).2.2 j] at hv;cases hv
 .rcases SH m with J|⟨_,c,d,W,M⟩
  .rcases h.cont s o b Q D k a J l with x|⟨x,X⟩
   .exact .inl x
   .obtain⟨z,I,_⟩:=touch_of J;exact .inr ⟨x,by rw[g?_old (lt_size_of_getElem? I)];exact X⟩
  .obtain⟨Y,o',f,w,A,B,n,C⟩:=E c d a M;rw[n] at l;simp only[Sl] at l;subst l;have es:=K.Uu s Y o o' f Q A D B;subst es;rcases C with x|⟨x,y⟩
   .exact .inl x
   .exact .inr ⟨x,by simp[Trace.g?,W,P c d,y]⟩
theorem YB.sub {e:Nat->Prop} {G G':Υ} (h:YB t e G) (f:Sub G' G):YB t e G':=
 ⟨λb o v p g i a c d j=>let ⟨k,l,m⟩:=f.ω b o v p g;h.ω b o v k l i a c d (j.imp m id),λb ⟨x,n⟩ i a c d=>h.obj b ⟨x,f.obj b x n⟩ i a c d⟩
theorem YB.join {g:Nat->Prop} {G E:Υ} (h:YB t g G) (k:YB t g E):YB t g (Go.TL.join G E):=by
 refine⟨λb o v p d i a e f l=>?_,λb m i a e f=>?_⟩
 .simp only[Go.TL.join] at d;cases c:G.ω b o with
  | none=>rw[c] at d;exact k.ω b o v p d i a e f l
  | some y=>rw[c] at d;cases d;exact h.ω b o v p c i a e f l
 .obtain⟨x,j⟩:=m;simp only[Go.TL.join] at j;cases c:G.obj b with
  | none=>rw[c] at j;exact k.obj b ⟨x,j⟩ i a e f
  | some y=>exact h.obj b ⟨y,c⟩ i a e f
theorem YB.empty {a:Nat->Prop}:YB t a Υ.empty:=⟨λ_ _ _ _ h=>(by cases h),λ_ ⟨_,h⟩=>(by cases h)⟩
theorem YB.release {i b:Nat} {G:Υ} {y:MemOp} (h:YB t (Knows t i) G) (f:y.g=i) (j:y.act=.mark (.releaseMerge ⟨b,0,none⟩)) (hd:Deaf t i=0):YB (t++#[y]) (U5 tok O (t++#[y]) (.inr b)) G:=by
 have l:(t++#[y])[t.size]?=some y:=Ω
 have s:(t++#[y]).heard t.size:=⟨i,by simp[Trace.g?,f],by rw[deaf_old (ZY _)];exact hd⟩
 have m:∀k,Knows t i k->U5 tok O (t++#[y]) (.inr b) k:=λk u=>.inl ⟨t.size,y,l,j,s,.inr (u.hb_new (ZY _) l f)⟩
 have nt:∀k a,touchAt (t++#[y]) k=some a->touchAt t k=some a:=λk a c=>by
  rcases SH c with w|⟨_,C,n,_,r⟩
  .exact w
  .simp at n;subst n;rw[j] at r;simp[MemAct.touch?] at r
 exact⟨λd o v p x k a c e A=>m k (h.ω d o v p x k a (nt k a c) e A),λd B k a c e=>m k (h.obj d B k a (nt k a c) e)⟩
theorem YB.acquire {i b s:Nat} {o:γ} {E:Υ} {y:MemOp} (h:YB t (U5 tok O t (.inr b)) E) (D:∀e∈t,∀a,e.act≠.mark (.release a)) (F:O s=some o) (f:Yc s o.toSpec b) (hi:tok i s≠.nil)
  (r:y.g=i) (u:y.act=.mark (.acquire ⟨b,0,none⟩)) (hd:Deaf t i=0):YB (t++#[y]) (Knows (t++#[y]) i) E:=by
 have w:(t++#[y])[t.size]?=some y:=Ω
 have H:(t++#[y]).heard t.size:=⟨i,by simp[Trace.g?,r],by rw[deaf_old (ZY _)];exact hd⟩
 have x:∀k,U5 tok O t (.inr b) k->Knows (t++#[y]) i k:=λk j=>by
  rcases j with⟨p,e,A,I,J,K⟩|j
  .have l:=lt_size_of_getElem? A;refine⟨t.size,y,w,r,.inr ((K.app #[y]).hb (.single (.inr ⟨.marked (a:=⟨b,0,none⟩) l (.inr ?_) ?_ ?_,(heard_old l).2 J,H⟩)))⟩
   .rw[act?_old l,act?_of A,I]
   .rw[act?_of w,u]
   .intro S T L B;rw[act?_old L] at B;obtain⟨M,N,d⟩:=Uh.1 B;exact D M (mem_of_getElem? N) _ d
  .exact(j s o F f i hi).app _
 have nt:∀k a,touchAt (t++#[y]) k=some a->touchAt t k=some a:=λk a c=>by
  rcases SH c with P|⟨_,e,C,_,d⟩
  .exact P
  .simp at C;subst C;rw[u] at d;simp[MemAct.touch?] at d
 exact⟨λm o v p Q k a c n R=>x k (h.ω m o v p Q k a (nt k a c) n R),λm f k a c n=>x k (h.obj m f k a (nt k a c) n)⟩
theorem Knows.spawn {i j k:Nat} {y z:MemOp} (h:Knows t i k) (c:y.g=i) (d:y.act=.go j) (a:z.g=j) (f:z.act=.start) (hd:Deaf t i=0) (l:Deaf t j=0):Knows (t++#[y,z]) j k:=by
 have b:(t++#[y,z])[t.size]?=some y:=Ω
 have e:(t++#[y,z])[t.size+1]?=some z:=Ω
 have d1:(t++#[y,z]).heard t.size:=⟨i,by simp[Trace.g?,c],by rw[deaf_old (ZY _)];exact hd⟩
 have d2:(t++#[y,z]).heard (t.size+1):=⟨j,by simp[Trace.g?,a],by
  rw[deaf_succ b];have:deafStep j ((t++#[y,z]).deaf j t.size) y=(t++#[y,z]).deaf j t.size:=by simp[deafStep,d]
  rw[this,deaf_old (ZY _)];exact l⟩
 have m:=h.hb_new (u:=#[y,z]) (ZY _) b c
 have n:HappensBefore (t++#[y,z]) t.size (t.size+1):=.single (.inr ⟨.spawn (child:=j) (by rw[act?_of b,d]) (by rw[act?_of e,f]) (by simp[Trace.g?,a]),d1,d2⟩);exact⟨t.size+1,z,e,a,.inr (m.trans n)⟩
theorem Sub.refl (G:Υ):Sub G G:=⟨λ_ _ _ p h=>⟨p,h,id⟩,λ_ _ h=>h,λ_ _ h=>h⟩
theorem Sub.owns {G G':Υ} (h:Sub G' G) {b o:Nat} (x:G'.owns b o):G.owns b o:=let ⟨v,hv⟩:=x;let ⟨p,a,c⟩:=h.ω b o v true hv;⟨v,by rw[a,c rfl]⟩
theorem Sub.has {G G':Υ} (h:Sub G' G) {b o:Nat} (x:G'.has b o):G.has b o:=let ⟨v,hv⟩:=x;let ⟨p,a,_⟩:=h.ω b o v.1 v.2 hv;⟨_,a⟩
theorem Sub.XI {G G':Υ} (h:Sub G' G) {b:Nat} (x:G'.XI b):G.XI b:=let ⟨v,hv⟩:=x;⟨v,h.obj b v hv⟩
theorem Sub.off {G G':Υ} (h:Sub G' G) {b:Nat} (x:G.off b):G'.off b:=⟨λo a=>x.1 o (h.has a),λa=>x.2 (h.XI a)⟩
theorem Sub.fits {G G':Υ} (h:Sub G' G) (x:Fits G w):Fits G' w:=⟨λb o v p a=>let ⟨d,c,_⟩:=h.ω b o v p a;x.ω b o v d c,λb t n e=>x.row b t n (h.row b _ e),λb v hv=>x.obj b v (h.obj b v hv),λb o v a=>let ⟨d,c,f⟩:=h.ω b o v true a;x.thaw b o v (by rw[c,f rfl])⟩
theorem Apart.symm {A B:Υ} (h:Apart A B):Apart B A:=⟨h.Q3,h.ω,λb a c=>h.obj b c a⟩
theorem Apart.sub {A B d B':Υ} (h:Apart A B) (a:Sub d A) (c:Sub B' B):Apart d B':=
 ⟨λb o x y=>h.ω b o (a.owns x) (c.has y),λb o x y=>h.Q3 b o (c.owns x) (a.has y),λb x y=>h.obj b (a.XI x) (c.XI y)⟩
theorem Apart.P6 (A:Υ):Apart A Υ.empty:=⟨λ_ _ _ ⟨_,h⟩=>(by cases h),λ_ _ ⟨_,h⟩=>(by cases h),λ_ _ ⟨_,h⟩=>(by cases h)⟩
theorem FK {G E:Υ} {b o:Nat} (h:(join G E).owns b o):G.owns b o\/E.owns b o:=by
 obtain⟨v,hv⟩:=h;simp only[join] at hv;cases a:G.ω b o with
 | none=>rw[a] at hv;exact .inr ⟨v,hv⟩
 | some y=>rw[a] at hv;cases hv;exact .inl ⟨v,a⟩
theorem CI {G E:Υ} {b o:Nat} (h:(join G E).has b o):G.has b o\/E.has b o:=by
 obtain⟨v,hv⟩:=h;simp only[join] at hv;cases a:G.ω b o with
 | none=>rw[a] at hv;exact .inr ⟨v,hv⟩
 | some y=>exact .inl ⟨y,a⟩
theorem IA {G E:Υ} {b:Nat} (h:(join G E).XI b):G.XI b\/E.XI b:=by
 obtain⟨v,hv⟩:=h;simp only[join] at hv;cases a:G.obj b with
 | none=>rw[a] at hv;exact .inr ⟨v,hv⟩
 | some y=>exact .inl ⟨y,a⟩
theorem xX {G E:Υ} {b:Nat} (h:G.off b) (k:E.off b):(join G E).off b:=⟨λo a=>(CI a).elim (h.1 o) (k.1 o),λa=>(IA a).elim h.2 k.2⟩
theorem Ky {G E:Υ} (h:Fits G w) (k:Fits E w):Fits (join G E) w:=by
 refine⟨λb o v p c=>?_,λb t n d=>?_,λb v hv=>?_,λb o v c=>?_⟩
 .simp only[join] at c;cases a:G.ω b o with
  | none=>rw[a] at c;exact k.ω b o v p c
  | some y=>rw[a] at c;cases c;exact h.ω b o v p a
 .simp only[join] at d;cases a:G.row b with
  | none=>rw[a] at d;exact k.row b t n d
  | some y=>rw[a] at d;cases d;exact h.row b t n a
 .simp only[join] at hv;cases a:G.obj b with
  | none=>rw[a] at hv;exact k.obj b v hv
  | some y=>rw[a] at hv;cases hv;exact h.obj b v a
 .simp only[join] at c;cases a:G.ω b o with
  | none=>rw[a] at c;exact k.thaw b o v c
  | some y=>rw[a] at c;cases c;exact h.thaw b o v a
theorem Apart.P5 {A B C:Υ} (h:Apart A C) (k:Apart B C):Apart (join A B) C:=
 ⟨λb o x y=>(FK x).elim (λz=>h.ω b o z y) (λz=>k.ω b o z y),λb o x y=>(CI y).elim (λz=>h.Q3 b o x z) (λz=>k.Q3 b o x z),λb x y=>(IA x).elim (λz=>h.obj b z y) (λz=>k.obj b z y)⟩
theorem Nf (w:World):Fits Υ.empty w:=⟨λ_ _ _ _ h=>(by cases h),λ_ _ _ h=>(by cases h),λ_ _ h=>(by cases h),λ_ _ _ h=>(by cases h)⟩
theorem VJ.two (h:VJ H Z8 O P7) {a b:Y2} (S:a≠b) {A B:Υ} (w:Sub A (join (H a) (H b))) (y:Sub B (join (H a) (H b))) (N:Apart A B)
  (I:Te O O') (P:∀x,b=.inr x\/a=.inr x->∃s o,O s=some o/\Yc s o.toSpec x):VJ (Zz (Zz H a A) b B) Z8 O' P7:=by
 have E:=h.Tn I
 have n:Zz (Zz H a A) b B a=A:=by rw[Zy _ _ S,Yr]
 have r:Zz (Zz H a A) b B b=B:=Yr _ _ _
 have j:∀k,k≠a->k≠b->Zz (Zz H a A) b B k=H k:=λk d f=>by rw[Zy _ _ f,Zy _ _ d]
 have F:∀k,k≠a->k≠b->Apart (join (H a) (H b)) (H k):=λk d f=>(h.apart a k (YV d)).P5 (h.apart b k (YV f))
 have Q:∀x,(∀k,(H k).off x)->(join (H a) (H b)).off x:=λx g=>xX (g a) (g b)
 have J:∀{p:Y2->Prop},p a->p b->(∀k,k≠a->k≠b->p k)->∀k,p k:=λl m T k=>by
  by_cases d:k=a
  .rw[d];exact l
  .by_cases f:k=b
   .rw[f];exact m
   .exact T k d f
 have R:∀x,(∀k,(H k).off x)->∀k,(Zz (Zz H a A) b B k).off x:=λx g=>J (by rw[n];exact w.off (Q x g)) (by rw[r];exact y.off (Q x g)) (λk d f=>by rw[j k d f];exact g k);refine⟨λp q C=>?_,?_,?_,λi x v hv=>?_,λs o x D g=>?_,E.Uu,E.QY,λx g=>?_⟩
 .by_cases l:p=a
  .subst l;by_cases t:q=b
   .subst t;rw[n,r];exact N
   .rw[n,j q (YV C) t];exact(F q (YV C) t).sub w (Sub.refl _)
  .by_cases m:p=b
   .subst m;by_cases u:q=a
    .subst u;rw[n,r];exact N.symm
    .rw[r,j q u (YV C)];exact(F q u (YV C)).sub y (Sub.refl _)
   .by_cases u:q=a
    .subst u;rw[n,j p l m];exact((F p l m).sub w (Sub.refl _)).symm
    .by_cases t:q=b
     .subst t;rw[r,j p l m];exact((F p l m).sub y (Sub.refl _)).symm
     .rw[j p l m,j q u t];exact h.apart p q C
 .exact J (λx o c=>by rw[n] at c;exact(FK (w.owns c)).elim (h.high _ _ _) (h.high _ _ _)) (λx o c=>by rw[r] at c;exact(FK (y.owns c)).elim (h.high _ _ _) (h.high _ _ _)) (λk d f x o c=>by rw[j k d f] at c;exact h.high _ _ _ c)
 .exact J (λx c=>by rw[n] at c;exact(IA (w.XI c)).elim (h.Sf _ _) (h.Sf _ _)) (λx c=>by rw[r] at c;exact(IA (y.XI c)).elim (h.Sf _ _) (h.Sf _ _)) (λk d f x c=>by rw[j k d f] at c;exact h.Sf _ _ c)
 .obtain⟨K,L,M⟩:=h.fresh i x v hv;exact⟨K,R x L,M⟩
 .obtain⟨K,L,M⟩:=E.U6 s o x D g;exact⟨K,R x L,M⟩
 .have U:(.inr x:Y2)≠b:=λe=>by
   obtain⟨s,o,D,hi⟩:=P x (.inl e.symm);obtain⟨o',d,f⟩:=I.2 s o D;exact g s o' d (by rw[<-f];exact hi)
  have V:(.inr x:Y2)≠a:=λe=>by
   obtain⟨s,o,D,hi⟩:=P x (.inr e.symm);obtain⟨o',d,f⟩:=I.2 s o D;exact g s o' d (by rw[<-f];exact hi)
  rw[j _ V U];exact E.X8 x g
theorem Sub.P5 {G E A:Υ} (h:Sub A G):Sub A (join G E):=
 ⟨λb o v p c=>let ⟨d,e,f⟩:=h.ω b o v p c;⟨d,by simp[join,e],f⟩,λb x a=>by simp[join,h.row b x a],λb x a=>by simp[join,h.obj b x a]⟩
theorem Wx.two (h:Wx H Z8 O ZB w) {a b:Y2} {A B:Υ} (e:Fits A w) (f:Fits B w) (g:∀s o',O' s=some o'->At s o' w):Wx (Zz (Zz H a A) b B) Z8 O' ZB w:=by
 refine⟨λk=>?_,h.Tf,g,h.keep⟩;by_cases c:k=b
 .subst c;rw[Yr];exact f
 .rw[Zy _ _ c];by_cases d:k=a
  .subst d;rw[Yr];exact e
  .rw[Zy _ _ d];exact h.fit k
theorem Wx.atom (h:Wx H Z8 O ZB w) (u:VJ H Z8 O P7) (R:ZB.heap.size=P7) {s:Nat} {o o':γ} (v:O s=some o) (S:o'.toSpec=o.toSpec) (f:Xp (λb _=>Yc s o.toSpec b) (λ_=>False) w w') (F:At s o' w') :
  Wx H Z8 (Go.ConcN.upd O s (some o')) ZB w':=by
 refine⟨λk=>(h.fit k).keeps f (λb g a=>((u.U6 s o b v a).2.1 k).1 g) (λb a=>a.elim),λj b c t a=>?_,λr q n=>?_,?_⟩
 .obtain⟨c',f',i,y,l,A⟩:=f.cells b c t _ (h.Tf j b c t a);have C:¬Yc s o.toSpec b:=λB=>by rw[(u.U6 s o b v B).2.2 j] at a;cases a
  have:c'=c:=by
   apply L';intro g;exact l g C
  rw[i,this,A.resolve_right λ⟨⟨_,d⟩,_⟩=>C d]
 .by_cases e:r=s
  .subst e;rw[upd_same] at n;cases n;exact F
  .rw[upd_ne _ _ e] at n;have D:∀b c t,Yc r q.toSpec b->w.heap[b]?=some (.cells c t (0,0))->w'.heap[b]?=some (.cells c t (0,0)):=λb c t a I=>by
    obtain⟨c',f',i,y,l,A⟩:=f.cells b c t _ I;have:c'=c:=by
     apply L';intro g;exact l g λB=>e (u.Uu r s q o b n v a B)
    rw[i,this,A.resolve_right λ⟨⟨_,B⟩,_⟩=>e (u.Uu r s q o b n v a B)]
   obtain⟨⟨J,i⟩,y⟩:=h.X0 r q n;exact⟨⟨J,D _ _ _ (.inl U) i⟩,λm E=>let ⟨K,l⟩:=y m E;⟨K,D _ _ _ (.inr E) l⟩⟩
 .have p:=h.keep;refine⟨RH p.size f.size,λb c t L a=>?_,λb x a d _=>f.Tn b x (p.Tn b x a d id) d id,p.os.trans f.os,f.output.trans p.output,f.tape.trans p.tape⟩;obtain⟨c1,f1,i,y,l,M⟩:=p.cells b c t L a;obtain⟨c2,f2,A,N,P,Q⟩:=f.cells b c1 t f1 i;have low:¬Yc s o.toSpec b:=λd=>by
   have:=(u.U6 s o b v d).1
   have:=XY a;omega
  refine⟨c2,f2,A,by rw[N,y],λg _=>?_,.inl ?_⟩
  .rw[P g low,l g id]
  .rw[Q.resolve_right λ⟨⟨_,d⟩,_⟩=>low d,M.resolve_right λ⟨⟨_,d⟩,_⟩=>d]
end
structure L5 (H:Y2->Υ) (tok:Nat->Nat->Tok) (a:Nat->Option γ):Prop where
 QW:∀s o m,a s=some o->o.ZS=some m->(∀i q p,tok i s≠.par q p .YG)->(∀i k L g,tok i s≠.ch k (.YJ L) g)->o.X1 o.L (H (.inr m))
 Rv:∀s o,a s=some o->(∀i q p,tok i s≠.par q p .YG)->TO o.D o.R (H (.inr s))
structure Nd (n:Nat) (tok:Nat->Nat->Tok) (d:Nat->Bool) (c a b:Nat->Nat) (t:Trace):Prop where
 P4:∀k g,t.g? k=some g->g<n
 c1:∀i,i≠0->d i=true->∃e,t[b i]?=some e/\e.g=i/\e.act=.mark (.releaseMerge ⟨a i,0,none⟩)/\t.heard (b i)/\∀k,t.g? k=some i->t.counts k->Before t k (b i)
 c2:∀i,i≠0->d i=true->(∃q p,tok (c (a i)) (a i)=.par q p .YG)->Knows t (c (a i)) (b i)
 c3:∀i,i≠0->d i=true->c (a i)≠0->d (c (a i))=true->Before t (b i) (b (c (a i)))
structure O8 (c:Nat->Nat->Option (ν×TypeId)) (tok:Nat->Nat->Tok) (d:Nat->Option γ) (e:Nat->Bool) (f:Nat->Nat) (t:Trace):Prop where
 Nc:∀s o m,d s=some o->o.ZS=some m->∀p a,t[p]?=some a->a.act=.mark (.releaseMerge ⟨m,0,none⟩)->(∃k h g,tok a.g s=.ch k h g)/\(e a.g=true->Before t p (f a.g))
 Nb:∀i b v,c i b=some v->∀a∈t,a.act≠.mark (.releaseMerge ⟨b,0,none⟩)
def Rec (P:Program) (b:Value->Prop) (c:YI) (i:Nat) (g:Goroutine):Prop:=
 ∃SE,U7 P b (c.T i) (i==0) SE (c.x i)/\(g=SE\/(Vv SE/\g={SE with status:=.blocked}/\∃s o,c.O s=some o/\UG o (c.tok i s)/\∀a,a≠s->Tg (c.tok i a)))
structure Inv (P:Program) (d:Value->Prop) (b:World) (c:YI) (a:Array Goroutine) (w:World) (t:Trace):Prop where
 pos:0<a.size
 mem:Wx c.H c.Z8 c.O b w
 hold:VJ c.H c.Z8 c.O b.heap.size
 Zr:Vu c.H c.Z8 c.tok c.O c.Zo c.deaf w.heap.size t
 Zd:XZ a.size c.tok c.spec c.view c.rel c.O c.Zo c.home
 X8:L5 c.H c.tok c.O
 Yh:Nd a.size c.tok c.rel c.Zo c.home c.XU t
 Ww:O8 c.Z8 c.tok c.O c.rel c.XU t
 Na:∀i g,a[i]?=some g->Rec P d c i g
theorem Kx {t u:Trace} {k:Nat} (h:k<t.size):(t++u).counts k↔t.counts k:=by
 unfold Trace.counts;rw[act?_old h,heard_old h]
theorem Nd.app {n:Nat} {tok l:Nat->Nat->Tok} {m:Nat->Bool} {y A B:Nat->Nat} {t u:Trace} (h:Nd n tok m y A B t) {i:Nat} (hi:i<n) (C:∀b∈u,b.g=i)
  (F:m i=true->∀k,t.size<=k->¬(t++u).counts k) (Q:∀s q p,(∃j,l j s=.par q p .YG)->∃j,tok j s=.par q p .YG) (H:∀j s q p,l j s=.par q p .YG->tok j s=.par q p .YG):Nd n l m y A B (t++u):=by
 refine⟨λk g o=>?_,λj c a=>?_,λj c a I=>?_,λj c a f r=>(h.c3 j c a f r).app u⟩
 .obtain⟨b,v,d⟩:=Uh.1 o;rcases getElem?_append_cases v with⟨_,w⟩|⟨_,x⟩
  .exact h.P4 k g (by simp[Trace.g?,w,d])
  .rw[<-d,C b x];exact hi
 .obtain⟨b,f,r,J,K,L⟩:=h.c1 j c a;have D:=lt_size_of_getElem? f;refine⟨b,by rw[getElem?_append_old D];exact f,r,J,(heard_old D).2 K,λk o E=>?_⟩;obtain⟨M,v,d⟩:=Uh.1 o;rcases getElem?_append_cases v with⟨N,w⟩|⟨O,x⟩
  .exact(L k (by simp[Trace.g?,w,d]) ((Kx N).1 E)).app u
  .have e:j=i:=by rw[<-d,C M x]
   subst e;exact absurd E (F a k O)
 .obtain⟨q,p,P⟩:=I;exact(h.c2 j c a ⟨q,p,H _ _ _ _ P⟩).app u
section
variable {P:Program} {Q:Value->Prop} {ZB:World} {c:YI} {gs:Array Goroutine} {w:World} {t:Trace}
theorem Inv.stat (h:Inv P Q ZB c gs w t) {i:Nat} {g:Goroutine} (m:gs[i]?=some g):g.status=.running\/(i≠0/\g.status=.finished/\c.rel i=true/\∀s,Gone (c.tok i s))\/(g.status=.blocked/\∃s o,c.O s=some o/\UG o (c.tok i s)/\∀k,k≠s->Tg (c.tok i k)):=by
 obtain⟨r,d,n⟩:=h.Na i g m;rcases n with rfl|⟨_,rfl,p⟩
 .cases l:c.T i with
  | leaf=>
   rw[l] at d;rcases d.2 with⟨_,a⟩|⟨e,a,b,j,_⟩
   .exact .inl a.1.1
   .exact .inr (.inl ⟨by rintro rfl;simp at e,j,a,b⟩)
  | node f=>
   rw[l] at d;rcases d.2 with(⟨_,a⟩|⟨e,a,b,j,_⟩)|a
   .exact .inl a.1.1
   .exact .inr (.inl ⟨by rintro rfl;simp at e,j,a,b⟩)
   .rcases a with⟨_,b,_⟩|⟨b,_⟩
    .exact .inl b
    .exact .inl b.1
 .exact .inr (.inr ⟨U,p⟩)
theorem xW {t:Tok} (h:RE t):∃k m g,t=.ch k m g/\¬Tg t/\(∀o,¬UG o t)/\m≠.done/\m≠.idle:=by
 cases t with
 | nil=>exact h.elim
 | par=>exact h.elim
 | ch k m g=>
  refine⟨k,m,g,U,?_⟩;cases m with
  | act b=>cases b<;>first|exact h.elim|simp[Tg,UG]
  | _=>first|exact h.elim|simp[Tg,UG]
theorem Inv.awake (h:Inv P Q ZB c gs w t):∃(i:Nat) (g:Goroutine),gs[i]?=some g/\g.status=.running:=by
 apply TW;intro R;have F:∀i,i<gs.size->(c.rel i=true/\∀s,Gone (c.tok i s))\/∃s o,c.O s=some o/\UG o (c.tok i s)/\∀b,b≠s->Tg (c.tok i b):=λi hi=>by
  have C:gs[i]?=some gs[i]:=YS hi;rcases h.stat C with f|⟨_,_,f⟩|⟨_,f⟩
  .exact absurd ⟨i,_,C,f⟩ R
  .exact .inl f
  .exact .inr f
 have S:∀i s o n p,c.O s=some o->c.tok i s=.par n p .w3->o.YM=0->∃j b o' y A,i<j/\j<gs.size/\c.O b=some o'/\c.tok j b=.par y A .w3/\o'.YM=0:=λi s o n p u B H=>by
  have T:i<gs.size:=h.Zd.lt (s:=s) (by rw[B];simp);obtain⟨j,J,V⟩:=x5 (h.Zd.Wj s o u).2 (i:=i) T B H;have x:P' (c.tok j s):=V;have W:∃k m g,c.tok j s=.ch k m g/\g≠.gone:=by
   cases v:c.tok j s with
   | nil=>rw[v] at x;exact x.elim
   | par=>rw[v] at x;exact x.elim
   | ch k m g=>rw[v] at x;exact⟨k,m,g,rfl,by rintro rfl;exact x⟩
  obtain⟨k,m,g,v,C⟩:=W;obtain⟨_,X,aw⟩:=h.Zd.Rz j s k m g v;have hi:=h.Zd.par i s n p _ B;rcases F j J with⟨_,f⟩|⟨b,o',K,l,ax⟩
  .have:=f s;rw[v] at this;cases g<;>first|exact absurd rfl C|exact this.elim
  .by_cases e:b=s
   .subst e;rw[u] at K;cases K;rw[v] at l;have Y:m=.q/\o.Yz=0:=by cases m<;>simp_all [UG]
    obtain⟨rfl,Z⟩:=Y;have aa:0<ZQ gs.size (λa=>c.tok a b) TS:=by
     have:=Xy (λa=>c.tok a b) TS J;simp only[v,TS,KF] at this;omega
    obtain⟨a,ab,ad⟩:=x6 (h.Zd.Wj b o u).1 aa Z;obtain⟨D,E,g',ae,af,ag,ah,ai⟩:=xW ad;have L:c.tok a b=.ch D E g':=ae;exfalso;rcases F a ab with⟨_,f⟩|⟨aj,ay,az,ak,al⟩
    .have M:=f b;rw[L] at M;have:g'≠.work:=by rintro rfl;exact M
     rcases h.Zd.Rx a b D E g' o u L this with e|⟨e,_⟩
     .exact ah e
     .exact ai e
    .by_cases N:aj=b
     .subst N;exact ag _ ak
     .exact af (al b (YV N))
   .cases r:c.tok j b with
    | nil=>rw[r] at l;exact l.elim
    | ch D E g'=>exact absurd ((h.Zd.Rz j b D E g' r).2.1.symm.trans X) e
    | par y A am=>
     rw[r] at l;cases am<;>first|exact l.elim|exact⟨j,b,o',y,A,I,J,K,r,l⟩
 have an:∀d i s o n p,gs.size-i=d->i<gs.size->c.O s=some o->c.tok i s=.par n p .w3->o.YM=0->False:=λd=>by
  induction d using Nat.strongRecOn with
  | _ d ao=>
   intro i s o n p hd hi u B H;obtain⟨j,b,o',y,A,f,ap,aq,ar,au⟩:=S i s o n p u B H;exact ao (gs.size-j) I j b o' y A U ap aq ar au
 rcases F 0 h.pos with⟨f,_⟩|⟨s,o,u,l,_⟩
 .rw[h.Zd.Od] at f;cases f
 .cases r:c.tok 0 s with
  | nil=>rw[r] at l;exact l.elim
  | ch k m g=>exact(h.Zd.Rz 0 s k m g r).1 rfl
  | par n p av=>
   rw[r] at l;cases av<;>first|exact l.elim|exact an _ 0 s o n p rfl h.pos u r l
theorem Rec.woken {c':YI} {i j:Nat} {g g' b:Goroutine} {w':World} (h:Rec P Q c j b) (k:c'.x j=c.x j) (l:c'.T j=c.T j)
  (hw:(mayWake P g=true/\Vv g')\/∀s o,c.O s=some o->UG o (c.tok j s)->∃o',c'.O s=some o'/\UG o' (c.tok j s)):Rec P Q c' j (Go.Conc.woken P g g' w' b):=by
 have r:c'.tok j=c.tok j:=congrArg Z5.tok k;obtain⟨m,d,A⟩:=h;rcases A with rfl|⟨t,rfl,s,o,n,B,C⟩
 .have n:b.status=.running\/b.status=.finished:=by
   cases u:c.T j with
   | leaf=>
    rw[u] at d;rcases d.2 with⟨_,a⟩|⟨_,_,_,p,_⟩
    .exact .inl a.1.1
    .exact .inr p
   | node f=>
    rw[u] at d;rcases d.2 with(⟨_,a⟩|⟨_,_,_,p,_⟩)|a
    .exact .inl a.1.1
    .exact .inr p
    .rcases a with⟨_,e,_⟩|⟨e,_⟩
     .exact .inl e
     .exact .inl e.1
  have:Go.Conc.woken P g g' w' b=b:=by
   unfold Go.Conc.woken;split
   .exact again_running _ n
   .rfl
  rw[this];exact⟨b,by rw[k,l];exact d,.inl U⟩
 .unfold Go.Conc.woken;split
  .rename_i v;refine⟨m,by rw[k,l];exact d,.inl ?_⟩;obtain⟨w,y⟩:=t;obtain⟨χ,D,st,E,of⟩:=m;simp only at w y;subst w y;rfl
  .rename_i v;rcases hw with⟨a,e⟩|hw
   .exfalso;apply v;simp[a,e.1]
   .obtain⟨o',a,e⟩:=hw s o n B;exact⟨m,by rw[k,l];exact d,.inr ⟨t,U,s,o',a,by rw[r];exact e,by rw[r];exact C⟩⟩
end
section
variable {P:Program} {Q:Value->Prop} {ZB:World} {c:YI} {gs:Array Goroutine} {w:World} {t:Trace}
theorem Inv.at (h:Inv P Q ZB c gs w t) (d:Nat):Inv P Q ZB c gs (w.at d) t:=⟨h.pos,h.mem.at d,h.hold,h.Zr,h.Zd,h.X8,h.Yh,h.Ww,h.Na⟩
theorem Inv.gone (h:Inv P Q ZB c gs w t) (F:∀s,XE (c.tok 0 s)):∀j,j≠0->j<gs.size->c.rel j=true/\(∀s,Gone (c.tok j s))/\Knows t 0 (c.XU j):=by
 have H:∀t:Tok,XE t->Gone t:=λt d=>by cases t with
  | nil=>trivial
  | par _ _ b=>cases b<;>first|exact d.elim|trivial
  | ch=>exact d.elim
 intro j
 induction j using Nat.strongRecOn with
 | _ j I=>
  intro i l;obtain⟨k,m,g,d⟩:=h.Zd.QX j i l;obtain⟨_,_,J⟩:=h.Zd.Rz j _ k m g d;cases A:c.O (c.home j) with
  | none=>have:=h.Zd.bare _ A j;rw[d] at this;cases this
  | some o=>
  have n:=h.Zd.Wj _ o A;obtain⟨u,B,C⟩:=IH (φ:=XX) (N:=gs.size) (τ:=λa=>c.tok a (c.home j)) (by rw[n.2.Sg];exact Nat.one_pos);have K:∃q p b,c.tok u (c.home j)=.par q p b:=by
   cases f:c.tok u (c.home j) with
   | par q p b=>exact⟨q,p,b,rfl⟩
   | nil=>simp[f,XX] at C
   | ch=>simp[f,XX] at C
  obtain⟨q,p,b,f⟩:=K;have L:=h.Zd.par u _ q p b f;subst L;have M:b=.YG/\(c.Zo (c.home j)≠0->c.rel (c.Zo (c.home j))=true/\Knows t 0 (c.XU (c.Zo (c.home j)))):=by
   by_cases e:c.Zo (c.home j)=0
   .have:=F (c.home j);rw[<-e,f] at this;refine⟨by cases b<;>first|exact this.elim|rfl,λx=>absurd e x⟩
   .obtain⟨v,y,R⟩:=I _ J e B;have:=y (c.home j);rw[f] at this;exact⟨by cases b<;>first|exact this.elim|rfl,λ_=>⟨v,R⟩⟩
  obtain⟨rfl,S⟩:=M;have T:ZQ gs.size (λa=>c.tok a (c.home j)) VK=1:=by
   rw[QZ (φ:=VK) (λt d=>by cases t<;>simp_all [XX,VK]) n.2.Sg B (by rw[f];rfl),f];rfl
  obtain⟨f1,f2,f3,f4,f5,f6⟩:=n.2.C4 T;have V:=n.2.FU;have l1:=Xy (λa=>c.tok a (c.home j)) Vn l;have l2:=Xy (λa=>c.tok a (c.home j)) UI l;have D:=Xy (λa=>c.tok a (c.home j)) UH l;simp only[d,Vn,UI,UH] at l1 l2 D;have U:g=.gone:=by
   cases g with
   | gone=>rfl
   | work=>simp only[Pa] at l1;omega
   | rel=>simp only[Pa] at l1;omega
   | l2=>simp only[Nm] at l2;omega
   | Q2=>simp only[Nl] at D;omega
  subst U;have r:c.rel j=true:=(h.Zd.W2 j k m _ i d).2 Ω;refine⟨r,λs=>?_,?_⟩
  .by_cases e:s=c.home j
   .subst e;rw[d];trivial
   .exact H _ (h.Zd.Ry j s r e)
  .have E:=h.Yh.c2 j i r ⟨q,p,f⟩;by_cases e:c.Zo (c.home j)=0
   .rw[e] at E;exact E
   .obtain⟨v,y⟩:=S e;exact Knows.of_before (h.Yh.c3 j i r e v) y
theorem xV {o:γ} {x:Tok} (h:Gone x) (a:∀k m g,x=.ch k m g->m≠.q):¬UG o x:=by
 cases x with
 | nil=>exact id
 | par _ _ b=>cases b<;>first|exact h.elim|exact id
 | ch k m g=>cases m<;>first|exact absurd rfl (a _ _ _ rfl)|exact id
theorem Inv.CH (h:Inv P Q ZB c gs w t) {g:Goroutine} (am:gs[0]?=some g) (C:CN P g (c.x 0) Q) (sl:Option (Nat×Nat)) (w1:World) :
  ∃v es,stepG P true g w=.ended (.done v) w es/\Good P (λv w'=>Q v/\Xp (λ_ _=>False) (λ_=>False) ZB w') (crowd gs w1 sl) (.done v) w (t++MemOp.ofEvents 0 g.frame.fn g.frame.place es):=by
 obtain⟨_,O,hd,R⟩:=C;obtain⟨v,es,S,V,W⟩:=R w (h.mem.fit (.inl 0));refine⟨v,es,S,v,U,⟨W,h.mem.keep⟩,?_⟩;have F:=h.gone O;have J:=h.Zr.own (w':=w) h.mem h.hold 0 (G':=c.H (.inl 0)) (V':=c.Z8 0) (es:=es) (fn:=g.frame.fn) (pos:=g.frame.place) (ZY _)
  ⟨λb o v p i=>.inr ⟨v,p,i,id⟩,λb X=>.inr X⟩ (λb x a=>.inl a) V (λb x a an=>by
   have:=XY (h.mem.Tf 0 b x.1 x.2 a);omega)
 have K:∀j x,j≠0->gs[j]?=some x->∃n,QuitsD P n (c.deaf j) x:=λj x d a=>by
  have Y:=(Tr.1 a).1;obtain⟨r,u,_⟩:=F j d Y;obtain⟨Z,y,i⟩:=h.Na j x a;have l:∃n,QuitsD P n (c.deaf j) Z:=by
   cases L:c.T j with
   | leaf=>rw[L] at y;exact y.1 r u
   | node f=>rw[L] at y;exact y.1 r u
  rcases i with rfl|⟨_,_,s,o,C,aa,_⟩
  .exact l
  .refine absurd aa (xV (u s) λk m g e ab=>?_);subst ab;have ad:g≠.work:=by rintro rfl;have:=u s;rw[e] at this;exact this
   rcases h.Zd.Rx j s k _ g o C e ad with x|⟨x,_⟩<;>cases x
 refine⟨J.race,λk g' ae A i=>?_,⟨λx a=>?_,U⟩,λj x a d=>?_⟩
 .obtain⟨ao,af,M⟩:=Uh.1 ae;rcases getElem?_append_cases af with⟨ag,ah⟩|⟨_,ai⟩
  .have B:t.g? k=some g':=by simp[Trace.g?,ah,M]
   have aj:=h.Yh.P4 k g' B;obtain⟨r,_,ak⟩:=F g' A aj;obtain⟨ap,aq,ar,au,av,al⟩:=h.Yh.c1 g' A r;obtain⟨q,z,D,N,E⟩:=Knows.of_before (al k B ((Kx ag).1 i)) ak;refine⟨q,by simp[Trace.g?,getElem?_append_old (lt_size_of_getElem? D),D,N],?_⟩;rcases E with rfl|E
   .exfalso;simp[Trace.g?,D,N] at B;exact A B.symm
   .exact hb_app _ E
  .obtain⟨e,_,rfl⟩:=Go.Conc.mem_ofEvents ai;exact absurd M.symm A
 .obtain⟨j,d⟩:=List.mem_iff_getElem?.1 a;rw[Va] at d;obtain⟨n,l⟩:=K (1+j) x I (by simpa[crowd] using d);exact⟨n,l.leaves⟩
 .obtain⟨n,l⟩:=K j x d a;refine⟨n,?_⟩;have e:(t++MemOp.ofEvents 0 g.frame.fn g.frame.place es).deaf j (t++MemOp.ofEvents 0 g.frame.fn g.frame.place es).size=c.deaf j:=J.hears j;rw[e];exact l.hears _
def Comes (P:Program) (Q:Value->Prop) (ZB:World) (m:Machine) (t:Trace):Prop:=
 ∃N a o w' t',runNT P (N+1) m t=(.ended o w',t')/\runN P N m=.next a/\step P a=.ended o w'/\Good P (λv w'=>Q v/\Xp (λ_ _=>False) (λ_=>False) ZB w') a o w' t'
theorem Comes.next {m a:Machine} {u:Trace} (b:stepT P m=(.next a,u)) (h:Comes P Q ZB a (t++u)):Comes P Q ZB m t:=by
 obtain⟨n,last,o,w,t',c,d,e,f⟩:=h;exact⟨n+1,last,o,w,t',by rw[runNT_succ_next b];exact c,by rw[runN_succ_next b];exact d,e,f⟩
theorem Comes.last {m:Machine} {u:Trace} {o:Outcome} {w:World} (a:stepT P m=(.ended o w,u)) (b:Good P (λv w'=>Q v/\Xp (λ_ _=>False) (λ_=>False) ZB w') m o w (t++u)):Comes P Q ZB m t:=
 ⟨0,m,o,w,t++u,by simp[runNT,a],U,by simp[step,a],b⟩
def L4 (gs:Array Goroutine):Nat:=(gs.toList.filter λg=>decide (g.status=.running)).length
structure Ord (a:κ) (n:Nat):Prop where
 nodup:a.Nodup
 mem:∀i,i∈a↔i<n
theorem Ord.part {c:κ} {n i:Nat} (h:Ord c n) (hi:i<n):∃a b,c=a++i::b/\i∉a/\i∉b:=by
 obtain⟨a,b,rfl⟩:=List.append_of_mem ((h.mem i).2 hi);have:=h.nodup;rw[KM] at this;obtain⟨_,d,e⟩:=this;rw[Q5] at d;exact⟨a,b,U,λf=>e i f i Ω U,d.1⟩
theorem L3 {B:Type} {T:Nat->B} {i:Nat} {x:B} {l:κ} (h:i∉l):l.map (upd T i x)=l.map T:=by
 apply IY;intro j a;exact upd_ne _ _ (λe=>h (e▸a))
theorem Ord.one {B:Type} {c:κ} {n i:Nat} (h:Ord c n) (hi:i<n) {T:Nat->W3 B} {f:B->W3 B} (d:T i=.node f) (k:B):SF (c.map (upd T i (f k))) (c.map T):=by
 obtain⟨a,b,rfl,e,g⟩:=h.part hi;simp only[VV,V6,L3 e,L3 g,upd_same,d];exact .one _ _ _ _
theorem Ord.two {B:Type} {g:κ} {n i:Nat} (h:Ord g n) (hi:i<n) {T:Nat->W3 B} {f:B->W3 B} (t:T i=.node f) (k u:B) :
  ∃m,Ord m (n+1)/\SF (m.map (upd (upd T i (f k)) n (f u))) (g.map T):=by
 have o:n∉g:=λc=>by have:=(h.mem n).1 c;omega
 obtain⟨a,b,rfl,v,w⟩:=h.part hi;have p:n∉a:=λc=>o (by simp[c]);have r:n∉b:=λc=>o (by simp[c]);refine⟨a++i::n::b,⟨?_,λj=>?_⟩,?_⟩
 .have:=h.nodup;rw[KM] at this ⊢;obtain⟨A,l,s⟩:=this;rw[Q5] at l;refine⟨A,?_,λx c y d=>?_⟩
  .rw[Q5,Q5];exact⟨by simp;exact⟨I,l.1⟩,r,l.2⟩
  .simp at d;rcases d with rfl|rfl|d
   .exact s x c _ Ω
   .rintro rfl;exact p c
   .exact s x c y (by simp[d])
 .have:=h.mem j;simp only[Uv,Yd] at this ⊢;constructor
  .rintro(c|rfl|rfl|c)
   .have:=this.1 (.inl c);omega
   .omega
   .omega
   .have:=this.1 (.inr (.inr c));omega
  .intro c;by_cases e:j=n
   .exact .inr (.inr (.inl e))
   .rcases this.2 I with c|rfl|c
    .exact .inl c
    .exact .inr (.inl U)
    .exact .inr (.inr (.inr c))
 .have C:i≠n:=by omega
  simp only[VV,V6,L3 p,L3 r,L3 v,L3 w,upd_same,upd_ne _ _ C,t];exact .two _ _ _ _ _
end
end Go.TL
