import Derived.Test.YtlabjopijpkiaaaGreatQAI
set_option maxHeartbeats 16000000
set_option maxRecDepth 20000
set_option linter.unusedSectionVars false
set_option linter.unusedSimpArgs false
set_option linter.unusedVariables false
namespace Go.TL
open Go.Conc
inductive θ where
 | z (v:Value)
 | aa (cells:List θ)
 | sl (ex:Bool) (k:Nat) (l:List θ)
 | aU (l:List θ)
 | bt (l:List θ)
 | ag (id n i j:Nat)
 | ms (id n i len:Nat)
 | fn (f:Fn) (first captured:List θ)
 | fv (t:TypeId) (a:θ)
 | mp (id:Nat)
 | it (id:Nat)
 | cp
 deriving Inhabited
def θ.cells:θ→List θ
 | .aU l=>l
 | a=>[a]
inductive Row where
 | cells (t:TypeId) (k:Nat) (l:List θ)
 | map (es:List (θ×θ))
 | iter (m:Nat) (left:List (θ×θ)) (cur:Option (θ×θ))
 | dead
 deriving Inhabited
def Row.gN (r:Row) (n:Nat):Prop:=match r with|.cells _ _ l=>n<l.length|_=>True
abbrev aN:=List (Option (Nat×Nat))
abbrev aA:=Nat→Nat→Option Value
inductive aj (S:aA) (B:aN) (σ:List Row):θ→Value→Prop where
 | z (v:Value):aj S B σ (.z v) v
 | aa {cells:List θ} (b o:Nat) (w:Nat→Value):(∀(j:Nat) (a:θ),cells[j]?=some a→S b (o+j)=some (w j))→(∀(j:Nat) (a:θ),cells[j]?=some a→aj S B σ a (w j))→aj S B σ (.aa cells) (.pointer (some ⟨b,o,none⟩))
 | h7 {ex:Bool} {k:Nat} (base:Option Addr) (cap:Nat):(ex=true→cap=0)→aj S B σ (.sl ex k []) (.slice base 0 cap)
 | sl {ex:Bool} {k:Nat} {l:List θ} (b o cap:Nat) (w:Nat→Nat→Value):(ex=true→cap=l.length)→l.length≤cap→(∀(i:Nat) (e:θ),l[i]?=some e→e.cells.length=k)→
   (∀(i:Nat) (e:θ),l[i]?=some e→∀(j:Nat) (c:θ),e.cells[j]?=some c→S b (o+i*k+j)=some (w i j))→(∀(i:Nat) (e:θ),l[i]?=some e→∀(j:Nat) (c:θ),e.cells[j]?=some c→aj S B σ c (w i j))→aj S B σ (.sl ex k l) (.slice (some ⟨b,o,none⟩) l.length cap)
 | aU {l:List θ} (vs:Array Value):l.length=vs.size→(∀(i:Nat) (a:θ) (v:Value),l[i]?=some a→vs[i]?=some v→aj S B σ a v)→aj S B σ (.aU l) (.agg vs)
 | bt {l:List θ} (vs:Array Value):l.length=vs.size→(∀(i:Nat) (a:θ) (v:Value),l[i]?=some a→vs[i]?=some v→aj S B σ a v)→aj S B σ (.bt l) (.tuple vs)
 | ag {id n i j k:Nat} {t:TypeId} {l:List θ} {b N:Nat}:σ[id]?=some (.cells t k l)→l.length=n→B[id]?=some (some (b,N))→aj S B σ (.ag id n i j) (.pointer (some ⟨b,i*k+j,none⟩))
 | ja {id n i j:Nat} {r:Row} (v:Value):σ[id]?=some r→r.gN n→aj S B σ (.ag id n i j) v
 | ms {id n i len:Nat} {t:TypeId} {k:Nat} {l:List θ} {bo:Option (Nat×Nat)} {base:Option Addr} (cap:Nat):σ[id]?=some (.cells t k l)→l.length=n→B[id]?=some bo→i+len≤n→len≤cap→
   (cap=0∨∃b N,bo=some (b,N)∧base=some ⟨b,i*k,none⟩∧(i+cap)*k≤N)→aj S B σ (.ms id n i len) (.slice base len cap)
 | iC {id n i len:Nat} {r:Row} (v:Value):σ[id]?=some r→r.gN n→aj S B σ (.ms id n i len) v
 | fn {f:Fn} {cV cs:List θ} (vs ws:Array Value):cV.length=vs.size→cs.length=ws.size→(∀(i:Nat) (a:θ) (v:Value),cV[i]?=some a→vs[i]?=some v→aj S B σ a v)→(∀(i:Nat) (a:θ) (v:Value),cs[i]?=some a→ws[i]?=some v→aj S B σ a v)→aj S B σ (.fn f cV cs) (.func f vs ws)
 | fv {t:TypeId} {a:θ} (v:Value):aj S B σ a v→aj S B σ (.fv t a) (.iface t v)
 | mp {id:Nat} {es:List (θ×θ)} {b N:Nat}:σ[id]?=some (.map es)→B[id]?=some (some (b,N))→aj S B σ (.mp id) (.map (some b))
 | kT {id:Nat} (v:Value):σ[id]?=some .dead→aj S B σ (.mp id) v
 | it {id m:Nat} {left:List (θ×θ)} {cur:Option (θ×θ)} {b N:Nat}:σ[id]?=some (.iter m left cur)→B[id]?=some (some (b,N))→aj S B σ (.it id) (.pointer (some ⟨b,0,none⟩))
 | mw {id:Nat} (v:Value):σ[id]?=some .dead→aj S B σ (.it id) v
 | cp (v:Value):aj S B σ .cp v
def Row.to (r r':Row) (b Φ:Option (Option (Nat×Nat))):Prop:=
 match r with
 | .cells t k l=>(∃dK,r'=.cells t k dK∧dK.length=l.length∧Φ=b)∨∀n,n≤l.length→r'.gN n
 | .map _=>(∃es',r'=.map es'∧Φ=b)∨r'=.dead
 | .iter m _ _=>(∃Ft Fu,r'=.iter m Ft Fu∧Φ=b)∨r'=.dead
 | .dead=>r'=.dead
structure b0 (S au:aA) (B B':aN) (σ σ':List Row):Prop where
 c6:∀b o v,S b o=some v→au b o=some v
 rows:∀(id:Nat) (r:Row),σ[id]?=some r→∃r':Row,σ'[id]?=some r'∧r.to r' B[id]? B'[id]?
theorem Row.sG (r:Row) (b:Option (Option (Nat×Nat))):r.to r b b:=by
 cases r with
 | cells t k l=>exact .inl ⟨l,rfl,rfl,rfl⟩
 | map es=>exact .inl ⟨es,rfl,rfl⟩
 | iter m l c=>exact .inl ⟨l,c,rfl,rfl⟩
 | dead=>rfl
theorem b0.refl (S:aA) (B:aN) (σ:List Row):b0 S S B B σ σ:=⟨fun _ _ _ h=>h,fun _ r h=>⟨r,h,r.sG _⟩⟩
theorem Row.Fv {r r':Row} {b Φ:Option (Option (Nat×Nat))} {n:Nat} (h:r.to r' b Φ) (Η:r.gN n):r'.gN n:=by
 cases r with
 | cells t k l=>
  rcases h with⟨dK,rfl,R,_⟩|h
  ·simp only[Row.gN] at Η ⊢;omega
  ·exact h n (Nat.le_of_lt Η)
 | map es=>rcases h with⟨es',rfl,_⟩|rfl<;>trivial
 | iter m l c=>rcases h with⟨dK,c',rfl,_⟩|rfl<;>trivial
 | dead=>cases h;trivial
theorem Row.R1 {r r' Bl:Row} {b Φ KF:Option (Option (Nat×Nat))} (h:r.to r' b Φ) (k:r'.to Bl Φ KF):r.to Bl b KF:=by
 cases r with
 | cells t e l=>
  rcases h with⟨dK,rfl,R,rfl⟩|h
  ·rcases k with⟨R2,rfl,γ,rfl⟩|k
   ·exact .inl ⟨R2,rfl,γ.trans R,rfl⟩
   ·exact .inr fun n Η=>k n (by omega)
  ·exact .inr fun n Η=>Row.Fv k (h n Η)
 | map es=>
  rcases h with⟨es',rfl,rfl⟩|rfl
  ·exact k
  ·cases k;exact .inr rfl
 | iter m l c=>
  rcases h with⟨dK,c',rfl,rfl⟩|rfl
  ·exact k
  ·cases k;exact .inr rfl
 | dead=>cases h;exact k
theorem b0.trans {S au yr:aA} {B B' ys:aN} {σ σ' yt:List Row} (h:b0 S au B B' σ σ') (k:b0 au yr B' ys σ' yt):b0 S yr B ys σ yt:=
 ⟨fun b o v x=>k.c6 b o v (h.c6 b o v x),fun id r κ=>by
  obtain⟨r',R,γ⟩:=h.rows id r κ;obtain⟨Bl,ο,Ι⟩:=k.rows id r' R;exact⟨Bl,ο,Row.R1 γ Ι⟩⟩
theorem aj.later {S au:aA} {B B':aN} {σ σ':List Row} (ω:b0 S au B B' σ σ') {a:θ} {v:Value} (h:aj S B σ a v):aj au B' σ' a v:=by
 induction h with
 | z v=>exact .z v
 | aa b o w R _ Γ=>exact .aa b o w (fun j a ε=>ω.c6 _ _ _ (R j a ε)) Γ
 | h7 base cap h=>exact .h7 base cap h
 | sl b o cap w R γ ο Ι _ Γ=>exact .sl b o cap w R γ ο (fun i e hi j c ε=>ω.c6 _ _ _ (Ι i e hi j c ε)) Γ
 | aU vs R _ Γ=>exact .aU vs R Γ
 | bt vs R _ Γ=>exact .bt vs R Γ
 | ag R γ ο=>
  obtain⟨r',Ε,Δ⟩:=ω.rows _ _ R;rcases Δ with⟨dK,rfl,a4,cu⟩|Δ
  ·exact .ag Ε (a4.trans γ) (by rw[cu];exact ο)
  ·exact .ja _ Ε (Δ _ (by omega))
 | ja v R γ=>
  obtain⟨r',Ε,Δ⟩:=ω.rows _ _ R;exact .ja _ Ε (Row.Fv Δ γ)
 | ms cap R γ ο Ι ay a6=>
  obtain⟨r',Ε,Δ⟩:=ω.rows _ _ R;rcases Δ with⟨dK,rfl,a4,cu⟩|Δ
  ·exact .ms cap Ε (a4.trans γ) (by rw[cu];exact ο) Ι ay a6
  ·exact .iC _ Ε (Δ _ (by omega))
 | iC v R γ=>
  obtain⟨r',Ε,Δ⟩:=ω.rows _ _ R;exact .iC _ Ε (Row.Fv Δ γ)
 | fn vs ws R γ _ _ rf lH=>exact .fn vs ws R γ rf lH
 | fv v _ Γ=>exact .fv v Γ
 | mp R γ=>
  obtain⟨r',Ε,Δ⟩:=ω.rows _ _ R;rcases Δ with⟨es',rfl,cu⟩|rfl
  ·exact .mp Ε (by rw[cu];exact γ)
  ·exact .kT _ Ε
 | kT v R=>
  obtain⟨r',Ε,Δ⟩:=ω.rows _ _ R;cases Δ;exact .kT _ Ε
 | it R γ=>
  obtain⟨r',Ε,Δ⟩:=ω.rows _ _ R;rcases Δ with⟨dK,c',rfl,cu⟩|rfl
  ·exact .it Ε (by rw[cu];exact γ)
  ·exact .mw _ Ε
 | mw v R=>
  obtain⟨r',Ε,Δ⟩:=ω.rows _ _ R;cases Δ;exact .mw _ Ε
 | cp v=>exact .cp v
def rh (S:aA) (B:aN) (σ:List Row) (es:List (θ×θ)) (xs:Array MapEntry) (clock:Nat):Prop:=
 es.length=xs.size∧(∀(i:Nat) (e:θ×θ) (y:MapEntry),es[i]?=some e→xs[i]?=some y→aj S B σ e.1 y.key∧aj S B σ e.2 y.val∧y.born<clock)∧
 ∀(i j:Nat) (y z:MapEntry),xs[i]?=some y→xs[j]?=some z→i<j→y.born<z.born
def Bm (S:aA) (B:aN) (σ:List Row) (left:List (θ×θ)) (cur:Option (θ×θ)) (xs:Array MapEntry) (clock:Nat) (seen:Array Nat):Prop:=
 (∃cq:List MapEntry,cq=xs.toList.filter (fun e=>!seen.contains e.born)∧left.length=cq.length∧∀(i:Nat) (e:θ×θ) (y:MapEntry),left[i]?=some e→cq[i]?=some y→aj S B σ e.1 y.key∧aj S B σ e.2 y.val)∧
 (∀y∈xs,y.born<clock)∧
 ∀e,cur=some e→∃Fw y,seen.back?=some Fw∧xs.find? (·.born==Fw)=some y∧aj S B σ e.1 y.key∧aj S B σ e.2 y.val
def jb (S:aA) (B:aN) (σ:List Row) (H:ψ) (r:Row) (bo:Option (Nat×Nat)):Prop:=
 match r with
 | .cells t k l=>match bo with
  | none=>l=[]
  | some (b,N)=>H.row b=some (t,N)∧l.length*k≤N∧(∀o,o<N→∃w,H.aF b o=some (w,true))∧
   ∃w:Nat→Nat→Value,∀(i:Nat) (e:θ),l[i]?=some e→e.cells.length=k∧∀(j:Nat) (a:θ),e.cells[j]?=some a→H.aF b (i*k+j)=some (w i j,true)∧aj S B σ a (w i j)∧One (w i j)
 | .map es=>∃b N xs clock,bo=some (b,N)∧H.obj b=some (.map xs clock)∧rh S B σ es xs clock
 | .iter m left cur=>∃b N aQ j' xs clock seen,bo=some (b,N)∧B[m]?=some (some (aQ,j'))∧(∃es,σ[m]?=some (.map es))∧H.obj b=some (.mapIter (some aQ) clock seen clock)∧H.obj aQ=some (.map xs clock)∧Bm S B σ left cur xs clock seen
 | .dead=>True
def Row.live (r:Row):Prop:=match r with|.dead=>False|_=>True
structure Holds (S:aA) (B:aN) (σ:List Row) (H:ψ):Prop where
 c6:∀b o v,S b o=some v→∃p,H.aF b o=some (v,p)
 len:B.length=σ.length
 row:∀(id:Nat) (r:Row) (bo:Option (Nat×Nat)),σ[id]?=some r→B[id]?=some bo→jb S B σ H r bo
 inj:∀(i j:Nat) (dX b4:Row) (b gk gl:Nat),i≠j→σ[i]?=some dX→σ[j]?=some b4→dX.live→b4.live→B[i]?=some (some (b,gk))→B[j]?=some (some (b,gl))→False
 sep:∀(id:Nat) (r:Row) (b N:Nat),σ[id]?=some r→r.live→B[id]?=some (some (b,N))→∀o,S b o=none
def aN.has (B:aN) (b:Nat):Prop:=∃N,some (b,N)∈B
def mx (e3:aA) (dE H:ψ) (b:Nat):Prop:=
 (∀o,H.aF b o=dE.aF b o∨∃v p,e3 b o=some v∧dE.aF b o=some (v,p)∧H.aF b o=some (v,false))∧H.row b=dE.row b∧H.obj b=dE.obj b
theorem mx.of {e3:aA} {dE H:ψ} {b:Nat} (h:(∀o,H.aF b o=dE.aF b o)∧H.row b=dE.row b∧H.obj b=dE.obj b):mx e3 dE H b:=⟨fun o=>.inl (h.1 o),h.2⟩
structure Ext (e3:aA) (eg:aN) (dE:ψ) (S:aA) (B:aN) (H:ψ):Prop where
 c6:∀b o v,e3 b o=some v→S b o=some v
 ft:∀b,¬eg.has b→¬dE.fresh b→mx e3 dE H b
 blocks:∀b,B.has b→eg.has b∨dE.fresh b
 qa:∀b o v,S b o=some v→e3 b o=some v∨eg.has b∨dE.fresh b
 grow:∀b,H.fresh b→dE.fresh b
theorem Ext.refl (S:aA) (B:aN) (H:ψ):Ext S B H S B H:=⟨fun _ _ _ h=>h,fun _ _ _=>mx.of ⟨fun _=>rfl,rfl,rfl⟩,fun _ h=>.inl h,fun _ _ _ h=>.inl h,fun _ h=>h⟩
theorem Ext.trans {e3 bE cO:aA} {eg bK eV:aN} {dE H1 bJ:ψ} (h:Ext e3 eg dE bE bK H1) (k:Ext bE bK H1 cO eV bJ):Ext e3 eg dE cO eV bJ:=by
 refine⟨fun b o v x=>k.c6 b o v (h.c6 b o v x),fun b hb Ρ=>?_,fun b hb=>?_,fun b o v hv=>?_,fun b x=>h.grow b (k.grow b x)⟩
 ·have Ε:=h.ft b hb Ρ
  have R3:¬H1.fresh b:=fun x=>Ρ (h.grow b x)
  have j9:¬bK.has b:=fun x=>(h.blocks b x).elim hb Ρ
  have Δ:=k.ft b j9 R3;refine⟨fun o=>?_,Δ.2.1.trans Ε.2.1,Δ.2.2.trans Ε.2.2⟩;rcases Δ.1 o with x|⟨v,p,ui,m9,qb⟩<;>rcases Ε.1 o with y|⟨u,q,kU,o0,yu⟩
  ·exact .inl (x.trans y)
  ·exact .inr ⟨u,q,kU,o0,x.trans yu⟩
  ·rcases h.qa b o v ui with z|z|z
   ·exact .inr ⟨v,p,z,by rw[←y];exact m9,qb⟩
   ·exact absurd z hb
   ·exact absurd z Ρ
  ·have e:=h.c6 b o u kU
   have:v=u:=by rw[ui] at e;exact Option.some.inj e
   subst this;exact .inr ⟨v,q,kU,o0,qb⟩
 ·rcases k.blocks b hb with x|x
  ·exact h.blocks b x
  ·exact .inr (h.grow b x)
 ·rcases k.qa b o v hv with x|x|x
  ·exact h.qa b o v x
  ·exact .inr (h.blocks b x)
  ·exact .inr (.inr (h.grow b x))
abbrev Χ:=List (Nat×θ)
def a5:Χ→Nat→θ
 | [],_=>.cp
 |(j,a)::r,i=>if j=i then a else a5 r i
def c7 (S:aA) (B:aN) (σ:List Row) (env:Χ) (t:Array Value):Prop:=∀i,aj S B σ (a5 env i) (t.getD i undef)
theorem c7.later {S au:aA} {B B':aN} {σ σ':List Row} {env:Χ} {t:Array Value} (h:c7 S B σ env t) (ω:b0 S au B B' σ σ'):c7 au B' σ' env t:=fun i=>(h i).later ω
theorem c7.put {S:aA} {B:aN} {σ:List Row} {env:Χ} {t:Array Value} (h:c7 S B σ env t) {d:Nat} (hd:d<t.size) {a:θ} {v:Value} (μ:aj S B σ a v):c7 S B σ ((d,a)::env) (t.setIfInBounds d v):=by
 intro i;simp only[a5];split
 ·rename_i e;subst e;simpa[Array.getD_eq_getD_getElem?,hd] using μ
 ·rename_i e;have:=h i;rw[Array.getD_eq_getD_getElem?] at this ⊢
  rwa [Array.getElem?_setIfInBounds_ne e]
theorem KG {S:aA} {B:aN} {σ:List Row} {H:ψ} (Α:Holds S B σ H) {id:Nat} {r:Row} (h:σ[id]?=some r):∃bo,B[id]?=some bo:=by
 have:id<B.length:=by rw[Α.len];exact(b3.1 h).1
 exact⟨_,bc this⟩
def kV:TypeDesc→Bool
 | .struct _|.array _ _=>true
 | _=>false
section
variable {P:Program} {α β:Type} {G:ψ} {E:Value→ψ→Prop}
theorem ς.mono {K K':α→ψ→Prop} {E':Value→ψ→Prop} (I:∀a G,K a G→K' a G) (c9:∀v G,E v G→E' v G) (s:Sem α):∀{G:ψ},ς P s G K E→ς P s G K' E':=by
 induction s with
 | pure a=>intro G h;exact I _ _ h
 | load m a k Γ=>intro G ⟨R,γ,v,p,ο,Ι⟩;exact⟨R,γ,v,p,ο,Γ v Ι⟩
 | store m a v k Γ=>intro G ⟨R,γ,ο,Ι,ay,a6⟩;exact⟨R,γ,ο,Ι,ay,Γ a6⟩
 | new o k Γ=>
  intro G h;cases o with
  | cells c t dC=>exact⟨h.1,fun r κ=>Γ r (h.2 r κ)⟩
  | _=>exact fun r κ=>Γ r (h r κ)
 | shape r k Γ=>intro G ⟨t,n,R,γ⟩;exact⟨t,n,R,Γ _ γ⟩
 | freeze a n k Γ=>intro G h;exact h.elim
 | frozen a k Γ=>intro G ⟨R,γ⟩;exact⟨R,Γ _ γ⟩
 | getObj r k Γ=>intro G ⟨o,R,γ,ο⟩;exact⟨o,R,γ,Γ _ ο⟩
 | setObj r o k Γ=>intro G ⟨R,γ,ο,Ι⟩;exact⟨R,γ,ο,Γ Ι⟩
 | choose q k Γ=>
  intro G h;simp only[ς] at h ⊢;split
  ·rw[if_pos ‹_›] at h;exact Γ _ h
  ·rw[if_neg ‹_›] at h;exact fun n=>Γ _ (h n)
 | sys c k Γ=>intro G h;exact h.elim
 | program k Γ=>intro G h;exact Γ P h
 | mark m k Γ=>intro G ⟨R,γ⟩;exact⟨R,Γ γ⟩
 | halt x=>
  intro G h;cases x<;>first|exact h.elim|exact c9 _ _ h
theorem ς.bind {f:α→Sem β} {K:β→ψ→Prop} (s:Sem α):∀{G:ψ},ς P s G (fun a G'=>ς P (f a) G' K E) E→ς P (s.bind f) G K E:=by
 induction s with
 | pure a=>intro G h;exact h
 | load m a k Γ=>intro G ⟨R,γ,v,p,ο,Ι⟩;exact⟨R,γ,v,p,ο,Γ v Ι⟩
 | store m a v k Γ=>intro G ⟨R,γ,ο,Ι,ay,a6⟩;exact⟨R,γ,ο,Ι,ay,Γ a6⟩
 | new o k Γ=>
  intro G h;cases o with
  | cells c t dC=>exact⟨h.1,fun r κ=>Γ r (h.2 r κ)⟩
  | _=>exact fun r κ=>Γ r (h r κ)
 | shape r k Γ=>intro G ⟨t,n,R,γ⟩;exact⟨t,n,R,Γ _ γ⟩
 | freeze a n k Γ=>intro G h;exact h.elim
 | frozen a k Γ=>intro G ⟨R,γ⟩;exact⟨R,Γ _ γ⟩
 | getObj r k Γ=>intro G ⟨o,R,γ,ο⟩;exact⟨o,R,γ,Γ _ ο⟩
 | setObj r o k Γ=>intro G ⟨R,γ,ο,Ι⟩;exact⟨R,γ,ο,Γ Ι⟩
 | choose q k Γ=>
  intro G h;simp only[ς] at h;simp only[Sem.bind,ς];split
  ·rw[if_pos ‹_›] at h;exact Γ _ h
  ·rw[if_neg ‹_›] at h;exact fun n=>Γ _ (h n)
 | sys c k Γ=>intro G h;exact h.elim
 | program k Γ=>intro G h;exact Γ P h
 | mark m k Γ=>intro G ⟨R,γ⟩;exact⟨R,Γ γ⟩
 | halt x=>
  intro G h;cases x<;>first|exact h.elim|exact h
theorem ς.bind' {f:α→Sem β} {K:β→ψ→Prop} {s:Sem α} (h:ς P s G (fun a G'=>ς P (f a) G' K E) E):ς P (s >>= f) G K E:=ς.bind s h
theorem ς.pure' {a:α} {K:α→ψ→Prop} (h:K a G):ς P (pure a) G K E:=h
theorem ς.underlying {t:TypeId} {d:TypeDesc} {K:TypeDesc→ψ→Prop} (hd:P.underlying t=some d) (h:K d G):ς P (Go.underlying t) G K E:=by
 unfold Go.underlying;refine ς.bind' ?_;show ς P (match P.underlying t with|some d=>pure d|none=>_) G K E;rw[hd];exact h
theorem ς.typeInfo {t:TypeId} {i:TypeInfo} {K:TypeInfo→ψ→Prop} (hi:P.info? t=some i) (h:K i G):ς P (Go.typeInfo t) G K E:=by
 unfold Go.typeInfo;refine ς.bind' ?_;show ς P (match P.info? t with|some i=>pure i|none=>_) G K E;have:P.info? t=some i:=hi;rw[this];exact h
theorem ς.sizeOf {t:TypeId} {i:TypeInfo} {K:Nat→ψ→Prop} (hi:P.info? t=some i) (h:K i.size G):ς P (Go.sizeOf t) G K E:=by
 unfold Go.sizeOf;exact ς.bind' (ς.typeInfo hi (ς.pure' h))
theorem ς.isAgg {t:TypeId} {d:TypeDesc} {K:Bool→ψ→Prop} (hd:P.underlying t=some d) (h:K (kV d) G):ς P (Go.isAgg t) G K E:=by
 unfold Go.isAgg;refine ς.bind' (ς.underlying hd ?_);cases d<;>exact h
theorem ς.zeroValue {t:TypeId} {i:TypeInfo} {v:Value} {K:Value→ψ→Prop} (hi:P.info? t=some i) (Ν:i.zero=some v) (h:K v G):ς P (Go.zeroValue t) G K E:=by
 unfold Go.zeroValue;refine ς.bind' (ς.typeInfo hi ?_);rw[Ν];exact h
theorem ς.R4 {a:Addr} (w:Nat→Value) {K:Array Value→ψ→Prop}:∀(n i:Nat) (acc:Array Value),a.spot=none→(∀j,i≤j→j<i+n→∃p,G.aF a.block (a.off+j)=some (w j,p))→K (acc++((List.range n).map fun j=>w (i+j)).toArray) G→ς P (loadCellsFrom a i n acc) G K E:=by
 intro n
 induction n with
 | zero=>intro i acc _ _ h;simp at h;exact h
 | succ n Γ=>
  intro i acc μ η h;unfold loadCellsFrom;refine ς.bind' ?_;obtain⟨p,χ⟩:=η i (Nat.le_refl _) (by omega);have Ε:(a.add i).spot=none:=by unfold Addr.add;split<;>simp[μ]
  have Δ:(a.add i).block=a.block:=by unfold Addr.add;split<;>rfl
  have a4:(a.add i).off=a.off+i:=by unfold Addr.add;split<;>simp_all
  refine⟨rfl,Ε,w i,p,by rw[Δ,a4];exact χ,?_⟩;refine Γ (i+1) (acc.push (w i)) μ (fun j R γ=>η j (by omega) (by omega)) ?_;have:acc.push (w i)++((List.range n).map fun j=>w (i+1+j)).toArray=acc++((List.range (n+1)).map fun j=>w (i+j)).toArray:=by
   rw[List.range_succ_eq_map];apply Array.ext';simp[Function.comp_def,Nat.add_assoc,Nat.add_comm 1]
  rw[this];exact h
theorem ς.loadCells {a:Addr} (w:Nat→Value) {n:Nat} {K:Array Value→ψ→Prop} (μ:a.spot=none) (η:∀j,j<n→∃p,G.aF a.block (a.off+j)=some (w j,p)) (h:K ((List.range n).map w).toArray G):ς P (Go.loadCells a n) G K E:=by
 unfold Go.loadCells;exact ς.R4 w n 0 #[] μ (fun j _ ε=>η j (by omega)) (by simpa using h)
def ψ.gZ (G:ψ) (b o:Nat) (vs:List Value):ψ:={G with aF:=fun Φ o'=>if Φ=b∧o≤o'∧o'<o+vs.length then some ((vs[o'-o]?).getD undef,true) else G.aF Φ o'}
theorem ψ.Fx {H:ψ} {b o:Nat} {vs:List Value}:∀r,(H.gZ b o vs).fresh r→H.fresh r:=
 ψ.Fo (fun Φ o' h=>by
  simp only[ψ.gZ] at h;split at h
  ·cases h
  ·exact h) (fun _ h=>h) (fun _ h=>h)
theorem ς.storeCells {a:Addr} {K:Unit→ψ→Prop} (μ:a.spot=none) (bH:∃t n,G.row a.block=some (t,n)):∀(vs:List Value) (i:Nat) (G':ψ),(∀v∈vs,One v)→(∀j,i≤j→j<i+vs.length→G'.owns a.block (a.off+j))→(G'.row=G.row)→K () (G'.gZ a.block (a.off+i) vs)→ς P (Go.storeCells a vs i) G' K E:=by
 intro vs
 induction vs with
 | nil=>
  intro i G' _ _ _ h;have:G'.gZ a.block (a.off+i) []=G':=by
   unfold ψ.gZ;have:∀Φ o',¬(Φ=a.block∧a.off+i≤o'∧o'<a.off+i+([]:List Value).length):=fun Φ o' h=>by simp at h;omega
   simp only[this,if_false]
  rw[this] at h;exact h
 | cons v vs Γ=>
  intro i G' Bh fF κ h;unfold Go.storeCells;refine ς.bind' ?_;have Ε:(a.add i).spot=none:=by unfold Addr.add;split<;>simp[μ]
  have Δ:(a.add i).block=a.block:=by unfold Addr.add;split<;>rfl
  have a4:(a.add i).off=a.off+i:=by unfold Addr.add;split<;>simp_all
  refine⟨rfl,Ε,by rw[Δ,a4];exact fF i (Nat.le_refl _) (by simp),by rw[Δ,κ];exact bH,Bh v (by simp),?_⟩;refine Γ (i+1) _ (fun v hv=>Bh v (by simp[hv])) (fun j R γ=>?_) κ ?_
  ·obtain⟨u,hu⟩:=fF j (by omega) (by simp;omega);refine⟨u,?_⟩;simp only[ψ.ug,Δ,a4];rw[if_neg (by omega)];exact hu
  ·have:(G'.ug (a.add i) v).gZ a.block (a.off+(i+1)) vs=G'.gZ a.block (a.off+i) (v::vs):=by
    unfold ψ.gZ ψ.ug;simp only[Δ,a4];congr 1
    funext Φ o'
    by_cases hb:Φ=a.block
    ·subst hb;by_cases R:o'=a.off+i
     ·subst R;rw[if_neg (by omega),if_pos ⟨rfl,rfl⟩,if_pos ⟨rfl,by omega,by simp⟩];simp
     ·by_cases γ:a.off+(i+1)≤o'∧o'<a.off+(i+1)+vs.length
      ·rw[if_pos ⟨rfl,γ⟩,if_pos ⟨rfl,by omega,by simp;omega⟩];have:o'-(a.off+i)=(o'-(a.off+(i+1)))+1:=by omega
       rw[this,List.getElem?_cons_succ]
      ·rw[if_neg (by intro x;exact γ x.2),if_neg (by intro x;exact R x.2),if_neg (by intro x;simp at x;omega)]
    ·rw[if_neg (fun x=>hb x.1),if_neg (fun x=>hb x.1),if_neg (fun x=>hb x.1)]
   rw[this];exact h
end
def jR (H H':ψ) (b:Nat):Prop:=(∀o,H'.aF b o=H.aF b o)∧H'.row b=H.row b∧H'.obj b=H.obj b
theorem mx.ri {e3:aA} {dE H:ψ} {b:Nat} (h:mx e3 dE H b) (Η:∀o,e3 b o=none):jR dE H b:=
 ⟨fun o=>(h.1 o).elim id fun⟨v,p,R,_⟩=>(by rw[Η o] at R;cases R),h.2⟩
section
variable {S au:aA} {B B':aN} {σ σ':List Row} {H H':ψ}
theorem rh.later (ω:b0 S au B B' σ σ') {es:List (θ×θ)} {xs:Array MapEntry} {clock:Nat} (h:rh S B σ es xs clock):rh au B' σ' es xs clock:=
 ⟨h.1,fun i e y R γ=>⟨(h.2.1 i e y R γ).1.later ω,(h.2.1 i e y R γ).2.1.later ω,(h.2.1 i e y R γ).2.2⟩,h.2.2⟩
theorem Bm.later (ω:b0 S au B B' σ σ') {left:List (θ×θ)} {cur:Option (θ×θ)} {xs:Array MapEntry} {clock:Nat} {seen:Array Nat} (h:Bm S B σ left cur xs clock seen):Bm au B' σ' left cur xs clock seen:=by
 obtain⟨⟨cq,R,γ,ο⟩,Ι,ay⟩:=h;refine⟨⟨cq,R,γ,fun i e y a b=>⟨(ο i e y a b).1.later ω,(ο i e y a b).2.later ω⟩⟩,Ι,fun e he=>?_⟩;obtain⟨st,y,a,b,c,d⟩:=ay e he;exact⟨st,y,a,b,c.later ω,d.later ω⟩
theorem jb.later (ω:b0 S au B B' σ σ') {r:Row} {bo:Option (Nat×Nat)} (h:jb S B σ H r bo) (μ:∀b N,bo=some (b,N)→jR H H' b)
  (dd:∀m left cur,r=.iter m left cur→σ'[m]?=σ[m]?∧B'[m]?=B[m]?∧∀b N,B[m]?=some (some (b,N))→jR H H' b):jb au B' σ' H' r bo:=by
 cases r with
 | cells t k l=>
  cases bo with
  | none=>exact h
  | some x=>
   obtain⟨b,N⟩:=x;obtain⟨a1,bg,_⟩:=μ b N rfl;obtain⟨R,γ,ο,w,Ι⟩:=h;refine⟨by rw[bg];exact R,γ,fun o Β=>by rw[a1];exact ο o Β,w,fun i e hi=>⟨(Ι i e hi).1,fun j a ε=>?_⟩⟩;obtain⟨c1,c2,c3⟩:=(Ι i e hi).2 j a ε;exact⟨by rw[a1];exact c1,c2.later ω,c3⟩
 | map es=>
  obtain⟨b,N,xs,clock,rfl,R,γ⟩:=h;exact⟨b,N,xs,clock,rfl,by rw[(μ b N rfl).2.2];exact R,γ.later ω⟩
 | iter m left cur=>
  obtain⟨b,N,aQ,j',xs,clock,seen,rfl,R,γ,ο,Ι,ay⟩:=h;obtain⟨i1,i2,i3⟩:=dd m left cur rfl;exact⟨b,N,aQ,j',xs,clock,seen,rfl,by rw[i2];exact R,by rw[i1];exact γ,by rw[(μ b N rfl).2.2];exact ο,by rw[(i3 aQ j' R).2.2];exact Ι,ay.later ω⟩
 | dead=>trivial
theorem n3 {id:Nat} {b N:Nat} (h:B[id]?=some (some (b,N))):B.has b:=⟨N,cl h⟩
theorem Holds.m' (Α:Holds S B σ H) {id b N:Nat} {r:Row} (κ:σ[id]?=some r) (ω:r.live) (hb:B[id]?=some (some (b,N))):¬H.fresh b:=fun Ρ=>by
 have h:=Α.row id r _ κ hb;cases r with
 | cells t k l=>have:=h.1;rw[Ρ.2.1] at this;cases this
 | map es=>
  obtain⟨Φ,eJ,xs,clock,e,R,_⟩:=h;cases e;rw[Ρ.2.2.1] at R;cases R
 | iter m left cur=>
  obtain⟨Φ,eJ,aQ,j',xs,clock,seen,e,_,_,R,_⟩:=h;cases e;rw[Ρ.2.2.1] at R;cases R
 | dead=>exact ω
theorem R5 {id:Nat} {r r':Row} {bo bo':Option (Nat×Nat)} (κ:σ[id]?=some r) (hb:B[id]?=some bo) (vY:r.to r' (some bo) (some bo')):b0 S S B (B.set id bo') σ (σ.set id r'):=by
 have bU:id<σ.length:=(b3.1 κ).1
 have n4:id<B.length:=(b3.1 hb).1;refine⟨fun _ _ _ h=>h,fun j b4 ε=>?_⟩;by_cases e:id=j
 ·subst e;rw[κ] at ε;cases ε;refine⟨r',by rw[List.getElem?_set_self bU],?_⟩;rw[hb,List.getElem?_set_self n4];exact vY
 ·exact⟨b4,by rw[List.getElem?_set_ne e];exact ε,by rw[List.getElem?_set_ne e];exact b4.sG _⟩
theorem Holds.vZ (Α:Holds S B σ H) {id:Nat} {r r':Row} {bo bo':Option (Nat×Nat)} (κ:σ[id]?=some r) (e4:r.live) (hb:B[id]?=some bo) (vY:r.to r' (some bo) (some bo'))
  (fF:∀b eJ,bo'=some (b,eJ)→(∃N,bo=some (b,N))∨H.fresh b) (cg:∀b,(∀N,bo≠some (b,N))→(∀N,bo'≠some (b,N))→jR H H' b) (sA:∀b,H'.fresh b→H.fresh b)
  (dd:∀(j:Nat) left cur,σ[j]?≠some (Row.iter id left cur)) (bH:b0 S S B (B.set id bo') σ (σ.set id r')→jb S (B.set id bo') (σ.set id r') H' r' bo') :
  Holds S (B.set id bo') (σ.set id r') H'∧Ext S B H S (B.set id bo') H'∧b0 S S B (B.set id bo') σ (σ.set id r'):=by
 have ω:=R5 (S:=S) κ hb vY
 have bU:id<σ.length:=(b3.1 κ).1
 have n4:id<B.length:=(b3.1 hb).1
 have other:∀(j:Nat) (b4:Row) (b N:Nat),j≠id→σ[j]?=some b4→b4.live→B[j]?=some (some (b,N))→jR H H' b:=fun j b4 b N ε yv dS cG=>by
  refine cg b (fun eJ e=>?_) (fun eJ e=>?_)
  ·exact Α.inj j id b4 r b N eJ ε yv κ dS e4 cG (by rw[hb,e])
  ·rcases fF b eJ e with⟨o1,γ⟩|γ
   ·exact Α.inj j id b4 r b N o1 ε yv κ dS e4 cG (by rw[hb,γ])
   ·exact Α.m' yv dS cG γ
 refine⟨⟨fun b o v hv=>?_,by simp[Α.len],fun j b4 sH ε cG=>?_,fun i j dX b4 b gk gl fs hi ε g0 dS g1 cG=>?_,fun j b4 b N ε dS cG o=>?_⟩,⟨fun _ _ _ h=>h,fun b i' Ρ=>?_,fun b i'=>?_,fun b o v hv=>.inl hv,sA⟩,ω⟩
 ·have ae:=Α.c6 b o v hv
  have Η:∀N,bo≠some (b,N):=fun N e=>by
   have:=Α.sep id r b N κ e4 (by rw[hb,e]) o;rw[hv] at this;cases this
  have qc:∀N,bo'≠some (b,N):=fun N e=>by
   rcases fF b N e with⟨o1,γ⟩|γ
   ·exact Η o1 γ
   ·obtain⟨p,χ⟩:=ae;rw[γ.1 o] at χ;cases χ
  rw[(cg b Η qc).1];exact ae
 ·by_cases e:id=j
  ·subst e;rw[List.getElem?_set_self bU] at ε;rw[List.getElem?_set_self n4] at cG;cases ε;cases cG;exact bH ω
  ·rw[List.getElem?_set_ne e] at ε cG;by_cases dS:b4.live
   ·refine(Α.row j b4 sH ε cG).later ω (fun b N h6=>other j b4 b N (Ne.symm e) ε dS (by rw[cG,h6])) fun m left cur fG=>?_;subst fG;have hm:id≠m:=fun x=>by subst x;exact dd j left cur ε
    refine⟨by rw[List.getElem?_set_ne hm],by rw[List.getElem?_set_ne hm],fun b N rj=>?_⟩;obtain⟨_,_,aQ,j',xs,clock,seen,_,R,⟨es,γ⟩,_⟩:=Α.row j _ sH ε cG;exact other m _ b N (Ne.symm hm) γ trivial rj
   ·cases b4<;>first|exact absurd trivial dS|trivial
 ·have key:∀(i:Nat) (dX:Row) (N:Nat),(σ.set id r')[i]?=some dX→dX.live→(B.set id bo')[i]?=some (some (b,N))→i≠id→(σ[i]?=some dX∧B[i]?=some (some (b,N))):=fun i dX N R _ ο bu=>by
   rw[List.getElem?_set_ne (Ne.symm bu)] at R ο;exact⟨R,ο⟩
  have yw:∀(i:Nat) (dX:Row) (N eJ:Nat),i≠id→σ[i]?=some dX→dX.live→B[i]?=some (some (b,N))→bo'=some (b,eJ)→False:=fun i dX N eJ bu R γ ο Ι=>by
   rcases fF b eJ Ι with⟨o1,ay⟩|ay
   ·exact Α.inj i id dX r b N o1 bu R κ γ e4 ο (by rw[hb,ay])
   ·exact Α.m' R γ ο ay
  by_cases vM:i=id
  ·subst vM;rw[List.getElem?_set_self n4] at g1;obtain⟨R,γ⟩:=key j b4 gl ε dS cG (Ne.symm fs);exact yw j b4 gl gk (Ne.symm fs) R dS γ (by simpa using g1)
  ·obtain⟨R,γ⟩:=key i dX gk hi g0 g1 vM;by_cases lI:j=id
   ·subst lI;rw[List.getElem?_set_self n4] at cG;exact yw i dX gk gl fs R g0 γ (by simpa using cG)
   ·obtain⟨ο,Ι⟩:=key j b4 gl ε dS cG lI;exact Α.inj i j dX b4 b gk gl fs R ο g0 dS γ Ι
 ·by_cases e:id=j
  ·subst e;rw[List.getElem?_set_self n4] at cG;have R6:bo'=some (b,N):=by simpa using cG
   rcases fF b N R6 with⟨o1,γ⟩|γ
   ·exact Α.sep id r b o1 κ e4 (by rw[hb,γ]) o
   ·cases hv:S b o with
    | none=>rfl
    | some v=>obtain⟨p,χ⟩:=Α.c6 b o v hv;rw[γ.1 o] at χ;cases χ
  ·rw[List.getElem?_set_ne e] at ε cG;exact Α.sep j b4 b N ε dS cG o
 ·refine mx.of (cg b (fun N e=>i' (n3 (id:=id) (N:=N) (by rw[hb,e]))) fun N e=>?_);rcases fF b N e with⟨o1,γ⟩|γ
  ·exact i' (n3 (id:=id) (N:=o1) (by rw[hb,γ]))
  ·exact Ρ γ
 ·obtain⟨N,cm⟩:=i';obtain⟨j,ε⟩:=List.getElem?_of_mem cm;by_cases e:id=j
  ·subst e;rw[List.getElem?_set_self n4] at ε;rcases fF b N (by simpa using ε) with⟨o1,γ⟩|γ
   ·exact .inl (n3 (id:=id) (N:=o1) (by rw[hb,γ]))
   ·exact .inr γ
  ·rw[List.getElem?_set_ne e] at ε;exact .inl (n3 ε)
theorem R7 {r:Row} {bo:Option (Nat×Nat)} (hlen:B.length=σ.length):b0 S S B (B++[bo]) σ (σ++[r]):=by
 refine⟨fun _ _ _ h=>h,fun j b4 ε=>?_⟩;have aE:=(b3.1 ε).1;exact⟨b4,by rw[dU aE];exact ε,by rw[dU (by omega)];exact b4.sG _⟩
theorem Holds.push (Α:Holds S B σ H) {r:Row} {bo:Option (Nat×Nat)} (fF:∀b N,bo=some (b,N)→H.fresh b) (cg:∀b,(∀N,bo≠some (b,N))→jR H H' b)
  (bH:b0 S S B (B++[bo]) σ (σ++[r])→jb S (B++[bo]) (σ++[r]) H' r bo) :
  Holds S (B++[bo]) (σ++[r]) H'∧Ext S B H S (B++[bo]) H'∧b0 S S B (B++[bo]) σ (σ++[r]):=by
 have ω:=R7 (S:=S) (r:=r) (bo:=bo) Α.len
 have hlen:=Α.len
 have sA:∀b,H'.fresh b→H.fresh b:=by
  have key:∀b,((∀o,H'.aF b o=none)→∀o,H.aF b o=none)∧(H'.row b=none→H.row b=none)∧(H'.obj b=none→H.obj b=none):=fun b=>by
   by_cases e:∀N,bo≠some (b,N)
   ·obtain⟨a1,bg,cv⟩:=cg b e;exact⟨fun h o=>by rw[←a1 o];exact h o,fun h=>by rw[←bg];exact h,fun h=>by rw[←cv];exact h⟩
   ·obtain⟨N,cm⟩:=Classical.not_forall.1 e;have Ρ:=fF b N (Classical.not_not.1 cm);exact⟨fun _=>Ρ.1,fun _=>Ρ.2.1,fun _=>Ρ.2.2.1⟩
  exact fun b hb=>⟨(key b).1 hb.1,(key b).2.1 hb.2.1,(key b).2.2 hb.2.2.1,fun Φ aE=>⟨(key Φ).1 (hb.2.2.2 Φ aE).1,(key Φ).2.1 (hb.2.2.2 Φ aE).2.1,(key Φ).2.2 (hb.2.2.2 Φ aE).2.2⟩⟩
 have other:∀(j:Nat) (b4:Row) (b N:Nat),σ[j]?=some b4→b4.live→B[j]?=some (some (b,N))→jR H H' b:=fun j b4 b N yv dS cG=>
  cg b fun eJ e=>Α.m' yv dS cG (fF b eJ e)
 have old:∀{α:Type} (l:List α) (x:α) (j:Nat) (y:α),(l++[x])[j]?=some y→(j<l.length∧l[j]?=some y)∨(j=l.length∧x=y):=fun l x j y h=>by
  by_cases ε:j<l.length
  ·rw[dU ε] at h;exact .inl ⟨ε,h⟩
  ·rw[hr (by omega)] at h;have:j-l.length=0:=by
    have:=(b3.1 h).1;simp at this;omega
   rw[this] at h;simp at h;exact .inr ⟨by omega,h⟩
 refine⟨⟨fun b o v hv=>?_,by simp[hlen],fun j b4 sH ε cG=>?_,fun i j dX b4 b gk gl fs hi ε g0 dS g1 cG=>?_,fun j b4 b N ε dS cG o=>?_⟩,⟨fun _ _ _ h=>h,fun b i' Ρ=>?_,fun b i'=>?_,fun b o v hv=>.inl hv,sA⟩,ω⟩
 ·obtain⟨p,χ⟩:=Α.c6 b o v hv;rw[(cg b fun N e=>by have:=(fF b N e).1 o;rw[χ] at this;cases this).1];exact⟨p,χ⟩
 ·rcases old σ r j b4 ε with⟨R,γ⟩|⟨R,rfl⟩
  ·rw[dU (by omega)] at cG;by_cases dS:b4.live
   ·refine(Α.row j b4 sH γ cG).later ω (fun b N h6=>other j b4 b N γ dS (by rw[cG,h6])) fun m left cur fG=>?_;subst fG;obtain⟨_,_,aQ,j',xs,clock,seen,_,Ε,⟨es,Δ⟩,_⟩:=Α.row j _ sH γ cG;have hm:=(b3.1 Δ).1;exact⟨by rw[dU hm],by rw[dU (by omega)],fun b N rj=>other m _ b N Δ trivial rj⟩
   ·cases b4<;>first|exact absurd trivial dS|trivial
  ·rw[R,←hlen] at cG;simp at cG;subst cG;exact bH ω
 ·rcases old σ r i dX hi with⟨R,γ⟩|⟨R,rfl⟩<;>rcases old σ r j b4 ε with⟨ο,Ι⟩|⟨ο,rfl⟩
  ·rw[dU (by omega)] at g1 cG;exact Α.inj i j dX b4 b gk gl fs γ Ι g0 dS g1 cG
  ·rw[dU (by omega)] at g1;rw[ο,←hlen] at cG;simp at cG;exact Α.m' γ g0 g1 (fF b gl cG)
  ·rw[dU (by omega)] at cG;rw[R,←hlen] at g1;simp at g1;exact Α.m' Ι dS cG (fF b gk g1)
  ·omega
 ·rcases old σ r j b4 ε with⟨R,γ⟩|⟨R,rfl⟩
  ·rw[dU (by omega)] at cG;exact Α.sep j b4 b N γ dS cG o
  ·rw[R,←hlen] at cG;simp at cG;cases hv:S b o with
   | none=>rfl
   | some v=>obtain⟨p,χ⟩:=Α.c6 b o v hv;rw[(fF b N cG).1 o] at χ;cases χ
 ·exact mx.of (cg b fun N e=>Ρ (fF b N e))
 ·obtain⟨N,cm⟩:=i';rcases List.mem_append.1 cm with h|h
  ·exact .inl ⟨N,h⟩
  ·simp at h;exact .inr (fF b N h.symm)
def aA.lay (S:aA) (r:Nat) (c:Array Value):aA:=fun b o=>if b=r then c[o]? else S b o
theorem Holds.lay (Α:Holds S B σ H) {r:Nat} {c:Array Value} {t:TypeId} (Ρ:H.fresh r) :
  Holds (S.lay r c) B σ (H.dn r c t)∧Ext S B H (S.lay r c) B (H.dn r c t)∧b0 S (S.lay r c) B B σ σ:=by
 have Η:∀o,S r o=none:=fun o=>by
  cases hv:S r o with
  | none=>rfl
  | some v=>obtain⟨p,χ⟩:=Α.c6 r o v hv;rw[Ρ.1 o] at χ;cases χ
 have cg:∀b o v,S b o=some v→S.lay r c b o=some v:=fun b o v h=>by
  unfold aA.lay;rw[if_neg (fun e=>by subst e;rw[Η] at h;cases h)];exact h
 have ω:b0 S (S.lay r c) B B σ σ:=⟨cg,fun _ b4 h=>⟨b4,h,b4.sG _⟩⟩
 have aU:∀b,b≠r→jR H (H.dn r c t) b:=fun b hb=>⟨fun o=>by simp[ψ.dn,hb],by simp[ψ.dn,hb],rfl⟩;refine⟨⟨fun b o v hv=>?_,Α.len,fun j b4 sH ε cG=>?_,Α.inj,fun j b4 b N ε dS cG o=>?_⟩,⟨cg,fun b _ n5=>mx.of (aU b fun e=>n5 (e▸Ρ)),fun b hb=>.inl hb,fun b o v hv=>?_,ψ.Ky Ρ c t⟩,ω⟩
 ·unfold aA.lay at hv;split at hv
  ·rename_i e;subst e;exact⟨true,by simp[ψ.dn,hv]⟩
  ·rename_i e;rw[(aU b e).1];exact Α.c6 b o v hv
 ·by_cases dS:b4.live
  ·have Bn:∀(j:Nat) (b4:Row) (b N:Nat),σ[j]?=some b4→b4.live→B[j]?=some (some (b,N))→b≠r:=fun j b4 b N R γ ο e=>Α.m' R γ ο (e▸Ρ);refine(Α.row j b4 sH ε cG).later ω (fun b N h6=>aU b (Bn j b4 b N ε dS (by rw[cG,h6]))) fun m left cur fG=>?_;subst fG;obtain⟨_,_,aQ,j',xs,clock,seen,_,Ε,⟨es,Δ⟩,_⟩:=Α.row j _ sH ε cG;exact⟨rfl,rfl,fun b N rj=>aU b (Bn m _ b N Δ trivial rj)⟩
  ·cases b4<;>first|exact absurd trivial dS|trivial
 ·unfold aA.lay;rw[if_neg (fun e:b=r=>Α.m' ε dS cG (e▸Ρ))];exact Α.sep j b4 b N ε dS cG o
 ·unfold aA.lay at hv;split at hv
  ·rename_i e;subst e;exact .inr (.inr Ρ)
  ·exact .inl hv
end
def yx:Value→θ
 | .slice none 0 0=>.sl true 0 []
 | v=>.z v
def g2:Value→θ
 | .agg vs=>.aU (vs.toList.map yx)
 | v=>yx v
def aL (env:Χ):Operand→θ
 | .tmp n=>a5 env n
 | .const v=>g2 v
 | .global _=>.cp
 | .func f=>.fn (.func f) [] []
theorem KH {S:aA} {B:aN} {σ:List Row} (v:Value):aj S B σ (yx v) v:=by
 unfold yx;split
 ·exact .h7 none 0 fun _=>rfl
 ·exact .z v
theorem o2 {S:aA} {B:aN} {σ:List Row} (v:Value):aj S B σ (g2 v) v:=by
 unfold g2;split
 ·rename_i vs;refine .aU vs (by simp) fun i a w R γ=>?_;rw[List.getElem?_map,Array.getElem?_toList,γ] at R;cases R;exact KH w
 ·exact KH _
theorem kW {S:aA} {B:aN} {σ:List Row} {env:Χ} {t:Array Value} (h:c7 S B σ env t) (o:Operand):aj S B σ (aL env o) (bk t o):=by
 cases o with
 | tmp n=>exact h n
 | const v=>exact o2 v
 | global g=>exact .cp _
 | func f=>exact .fn #[] #[] rfl rfl (fun i a v hi=>by simp at hi) (fun i a v hi=>by simp at hi)
inductive cT where
 | ok (a:θ) (σ:List Row)
 | b2 (p:Prop) (r:cT)
 | all (n:Nat) (f:Nat→cT)
 | bad
def cT.holds (K:θ→List Row→Prop):cT→Prop
 | .ok a σ=>K a σ
 | .b2 p r=>p∧r.holds K
 | .all n f=>∀i,i<n→(f i).holds K
 | .bad=>False
def KI:Next→Option Value
 | .value v=>some v
 | .skip=>some undef
 | _=>none
def h8:TypeDesc→Bool
 | .int _|.string|.bool=>true
 | _=>false
def Fy (P:Program) (t:TypeId):Option (List (TypeDesc×Nat))→Prop
 | none=>True
 | some items=>P.eqGuardType P.depth t=false∧items.map (·.2)=List.range items.length∧
  ((∃cV,P.underlying t=some (.struct cV)∧P.stoodInHeld t=false∧items=cV.toList.map (fun f=>((P.underlying f.type).getD .invalid,f.offset))∧∀f∈cV.toList,f.name≠ "_" ∧ ∃d,P.underlying f.type=some d∧h8 d=true)∨
   ∃n e d f,P.underlying t=some (.array n e)∧P.underlying e=some d∧h8 d=true∧P.info? e=some f∧f.size=1∧items=(List.range n).map fun i=>(d,i))
structure hP where
 size:Nat
 bA:TypeDesc
 zero:Value
 bytes:Nat
 eqs:Option (List (TypeDesc×Nat))
def hP.agg (i:hP):Bool:=kV i.bA
abbrev a7:=TypeId→Option hP
def bN (P:Program) (T:a7):Prop:=∀t i,T t=some i→(P.underlying t=some i.bA∧Fy P t i.eqs)∧∃f,P.info? t=some f∧f.size=i.size∧f.zero=some i.zero∧f.bytes=i.bytes
def h9 (S:aA) (B:aN) (H:ψ) (σ:List Row) (K:θ→List Row→Prop) (v:Value) (H':ψ):Prop:=
 ∃au B' σ' a,K a σ'∧Ext S B H au B' H'∧Holds au B' σ' H'∧b0 S au B B' σ σ'∧aj au B' σ' a v
def cB (P:Program) (s:Sem Value) (S:aA) (B:aN) (H:ψ) (σ:List Row) (r:cT):Prop:=
 ∀K:θ→List Row→Prop,r.holds K→ς P s H (h9 S B H σ K) (fun _ _=>False)
def Does (P:Program) (s:Sem Next) (S:aA) (B:aN) (H:ψ) (σ:List Row) (r:cT):Prop:=
 ∀K:θ→List Row→Prop,r.holds K→ς P s H (fun fZ H'=>∃v,KI fZ=some v∧h9 S B H σ K v H') (fun _ _=>False)
section
variable {P:Program} {T:a7} {S:aA} {B:aN} {H:ψ} {σ:List Row} {env:Χ} {t:Array Value}
theorem cB.next {s:Sem Value} {r:cT} (h:cB P s S B H σ r):Does P (do pure (.value (←s))) S B H σ r:=fun K I=>
 ς.bind' (ς.mono (fun v G hb=>ς.pure' ⟨v,rfl,hb⟩) (fun _ _ h=>h) _ (h K I))
theorem h9.same {K:θ→List Row→Prop} {a:θ} {v:Value} (Α:Holds S B σ H) (I:K a σ) (μ:aj S B σ a v):h9 S B H σ K v H:=⟨S,B,σ,a,I,.refl _ _ _,Α,.refl _ _ _,μ⟩
theorem cB.pure {a:θ} {v:Value} (Α:Holds S B σ H) (μ:aj S B σ a v):cB P (pure v) S B H σ (.ok a σ):=fun K I=>
 ς.pure' (.same Α I μ)
theorem cB.bad {s:Sem Value}:cB P s S B H σ .bad:=fun K I=>I.elim
theorem cB.b2 {s:Sem Value} {p:Prop} {r:cT} (h:p→cB P s S B H σ r):cB P s S B H σ (.b2 p r):=fun K I=>h I.1 K I.2
theorem Does.val {a:θ} {v:Value} (Α:Holds S B σ H) (μ:aj S B σ a v):Does P (pure (.value v)) S B H σ (.ok a σ):=fun K I=>
 ς.pure' ⟨v,rfl,.same Α I μ⟩
theorem Does.bad {s:Sem Next}:Does P s S B H σ .bad:=fun K I=>I.elim
theorem bN.size (Ζ:bN P T) {ty:TypeId} {i:hP} (h:T ty=some i) {G:ψ} {K:Nat→ψ→Prop} {E:Value→ψ→Prop} (υ:K i.size G):ς P (sizeOf ty) G K E:=by
 obtain⟨_,f,R,γ,_⟩:=Ζ ty i h;exact ς.sizeOf R (by rw[γ];exact υ)
theorem bN.bA (Ζ:bN P T) {ty:TypeId} {i:hP} (h:T ty=some i) {G:ψ} {K:TypeDesc→ψ→Prop} {E:Value→ψ→Prop} (υ:K i.bA G):ς P (underlying ty) G K E:=
 ς.underlying (Ζ ty i h).1.1 υ
theorem bN.agg (Ζ:bN P T) {ty:TypeId} {i:hP} (h:T ty=some i) {G:ψ} {K:Bool→ψ→Prop} {E:Value→ψ→Prop} (υ:K i.agg G):ς P (isAgg ty) G K E:=
 ς.isAgg (Ζ ty i h).1.1 υ
theorem bN.zero (Ζ:bN P T) {ty:TypeId} {i:hP} (h:T ty=some i) {G:ψ} {K:Value→ψ→Prop} {E:Value→ψ→Prop} (υ:K i.zero G):ς P (zeroValue ty) G K E:=by
 obtain⟨_,f,R,_,ο,_⟩:=Ζ ty i h;exact ς.zeroValue R ο υ
theorem bN.info (Ζ:bN P T) {ty:TypeId} {i:hP} (h:T ty=some i) {G:ψ} {K:TypeInfo→ψ→Prop} {E:Value→ψ→Prop} (υ:∀f:TypeInfo,f.bytes=i.bytes→K f G):ς P (typeInfo ty) G K E:=by
 obtain⟨_,f,R,_,_,Ι⟩:=Ζ ty i h;exact ς.typeInfo R (υ f Ι)
end
end Go.TL
