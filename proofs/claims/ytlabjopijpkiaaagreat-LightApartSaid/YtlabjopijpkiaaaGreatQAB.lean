import Derived.Conc.CrowdBase
import Derived.Test.YtlabjopijpkiaaaGreatQAA
set_option maxHeartbeats 16000000
set_option maxRecDepth 20000
set_option linter.unusedSectionVars false
set_option linter.unusedSimpArgs false
set_option linter.unusedVariables false
namespace Go.TL
open Go.Conc
open Go.ConcN (sumTo upd sumTo_upd upd_ne upd_same sumTo_congr le_sumTo)
inductive kF where
 | idle|act (aw:Bool)|q|wk|hw|own|c5 (L:List Nat)|fin|uc|us|done
inductive sg where
 | work|rel|l2|g9|gone
inductive qX where
 | add|w3|w4|lp|bw
inductive Tok where
 | nil
 | par (n pend:Nat) (aB:qX)
 | ch (k:Nat) (mu:kF) (wg:sg)
structure Spec where
 aQ:Option Nat
 aG:List Nat→ψ→Prop
 D:Nat→ψ→Prop
 top:Nat
structure aK extends Spec where
 b6:Nat
 wk:Nat
 sv:Nat
 nw:Nat
 cR:Nat
 L:List Nat
 cnt:Nat
 wt:Nat
 cz:Nat
 ab:List Nat
def xO:kF→Nat|.own|.c5 _|.fin=>1|_=>0
def hI:Tok→Nat|.ch _ m _=>xO m|_=>0
def Aw:kF→Nat|.us|.wk|.hw=>1|_=>0
def mZ:Tok→Nat|.ch _ m _=>Aw m|_=>0
def tC:kF→Nat|.act true=>1|_=>0
def lq:Tok→Nat|.ch _ m _=>tC m|_=>0
def xP:kF→Nat|.q=>1|_=>0
def kG:Tok→Nat|.ch _ m _=>xP m|_=>0
def Ax:kF→Nat|.hw=>1|_=>0
def mg:Tok→Nat|.ch _ m _=>Ax m|_=>0
def Er:kF→Nat|.wk=>1|_=>0
def pR:Tok→Nat|.ch _ m _=>Er m|_=>0
def xQ:kF→Nat|.wk|.hw=>1|_=>0
def kH:Tok→Nat|.ch _ m _=>xQ m|_=>0
def Es:kF→Nat|.us=>1|_=>0
def pS:Tok→Nat|.ch _ m _=>Es m|_=>0
def Ay:kF→Nat|.uc=>1|_=>0
def m0:Tok→Nat|.ch _ m _=>Ay m|_=>0
def qY:sg→Nat|.work|.rel=>1|_=>0
def ir:Tok→Nat|.ch _ _ g=>qY g|_=>0
def tD:sg→Nat|.l2=>1|_=>0
def jo:Tok→Nat|.ch _ _ g=>tD g|_=>0
def tE:sg→Nat|.g9=>1|_=>0
def jq:Tok→Nat|.ch _ _ g=>tE g|_=>0
def kI:Tok→Nat|.ch ..=>1|_=>0
def eC:Tok→Nat|.par ..=>1|_=>0
def gU:Tok→Nat|.par _ p _=>p|_=>0
def hJ:Tok→Nat|.par n _ _=>n|_=>0
def lr:Tok→Nat|.par _ _ .add=>1|_=>0
def kJ:Tok→Nat|.par _ _ .w3=>1|_=>0
def hK:Tok→Nat|.par _ _ .w4|.par _ _ .lp|.par _ _ .bw=>1|_=>0
def tF:kF→Nat
 | .idle=>20|.act false=>19|.act true=>18|.q=>12|.wk=>20|.hw=>19|.own=>14|.c5 _=>13|.fin=>12|.uc=>11|.us=>10|.done=>0
def Az:sg→Nat
 | .work=>6|.rel=>5|.l2=>4|.g9=>3|.gone=>0
def vC:qX→Nat
 | .add=>8|.w3=>6|.w4=>3|.lp=>3|.bw=>0
def lu (top:Nat):Tok→Nat
 | .nil=>0
 | .par n p aB=>(top-n)*100+p*50+vC aB
 | .ch _ m w=>tF m+Az w
def aY (N:Nat) (τ:Nat→Tok) (φ:Tok→Nat):Nat:=sumTo N fun i=>φ (τ i)
theorem fX {N i:Nat} (τ:Nat→Tok) (t:Tok) (φ:Tok→Nat) (h:i<N):aY N (upd τ i t) φ+φ (τ i)=aY N τ φ+φ t:=sumTo_upd τ t φ h
theorem e9 {N i:Nat} (τ:Nat→Tok) (φ:Tok→Nat) (h:i<N):φ (τ i)≤aY N τ φ:=le_sumTo (f:=fun i=>φ (τ i)) h
def ei (N:Nat) (o:aK) (τ:Nat→Tok):Nat:=aY N τ (lu o.top)+9*o.cR+2*o.cz
structure PY (b6 wk sv nw cR hold ba AA Ji hw xR us uc PZ:Nat):Prop where
 f1:b6≤1
 f2:wk≤1
 f3:sv≤1
 Jj:hold=b6
 dΨ:sv=0→ba+cR+AA=wk∧hw=0∧nw+us+cR=Ji
 dΩ:sv=1→wk=0∧AA=0∧b6+ba+cR=1∧nw=Ji+xR
 eα:sv=0→b6=0→0<nw→wk=0→0<uc
 eβ:us+xR=ba
 eγ:hw+PZ=xR
structure P0 (cnt wt cz top live l2 g9 iu par pend n add w3 fin:Nat):Prop where
 f4:wt≤1
 m1:par=1
 Et:cnt=pend+live
 Jk:iu+pend=n
 eδ:n≤top
 eε:add=1→wt=0∧cz=0∧l2=0∧g9=0
 P1:w3=1→pend=0∧((wt=1∧g9=0∧cz=0∧((cnt=0∧l2=1)∨(0<cnt∧l2=0)))∨(wt=0∧cnt=0∧l2=0∧g9+cz=1))
 Jl:fin=1→pend=0∧wt=0∧cz=0∧cnt=0∧l2=0∧g9=0
 eζ:add+w3+fin=1
def oO (N:Nat) (o:aK) (τ:Nat→Tok):Prop:=
 PY o.b6 o.wk o.sv o.nw o.cR (aY N τ hI) (aY N τ mZ) (aY N τ lq) (aY N τ kG) (aY N τ mg) (aY N τ kH) (aY N τ pS) (aY N τ m0) (aY N τ pR)
def nM (N:Nat) (o:aK) (τ:Nat→Tok):Prop:=
 P0 o.cnt o.wt o.cz o.top (aY N τ ir) (aY N τ jo) (aY N τ jq) (aY N τ kI) (aY N τ eC) (aY N τ gU) (aY N τ hJ) (aY N τ lr) (aY N τ kJ) (aY N τ hK)
def sh (N:Nat) (o:aK) (τ:Nat→Tok):Prop:=oO N o τ∧nM N o τ
inductive Act:aK→Tok→aK→Tok→Prop where
 | P2 {o k}:o.b6=0→o.sv=0→o.wk=0→o.nw=0→Act o (.ch k .idle .work) {o with b6:=1} (.ch k .own .work)
 | P3 {o k}:Act o (.ch k .idle .work) o (.ch k (.act false) .work)
 | acq {o k aw}:o.b6=0→o.sv=0→Act o (.ch k (.act aw) .work) {o with b6:=1,wk:=if aw then 0 else o.wk} (.ch k .own .work)
 | P4 {o k}:o.wk=0→0<o.nw→o.b6=1→o.sv=0→Act o (.ch k (.act false) .work) {o with wk:=1} (.ch k (.act true) .work)
 | queue {o k aw} (st:Bool):(o.b6=1∨o.sv=1)→(st=true→aw=true∧o.b6=1)→Act o (.ch k (.act aw) .work) {o with nw:=o.nw+1,wk:=if aw then 0 else o.wk,sv:=if st then 1 else o.sv} (.ch k .q .work)
 | take {o k}:0<o.cR→Act o (.ch k .q .work) {o with cR:=o.cR-1} (.ch k .wk .work)
 | norm {o k}:o.sv=0→Act o (.ch k .wk .work) o (.ch k (.act true) .work)
 | hand {o k}:o.sv=1→Act o (.ch k .wk .work) o (.ch k .hw .work)
 | hacq {o k} (pT:Bool):Act o (.ch k .hw .work) {o with b6:=1,nw:=o.nw-1,sv:=if pT then 0 else 1} (.ch k .own .work)
 | P5 {o k}:o.sv=0→(o.nw=0∨o.wk=1)→Act o (.ch k .fin .work) {o with b6:=0} (.ch k .done .work)
 | P6 {o k}:o.sv=0→0<o.nw→o.wk=0→Act o (.ch k .fin .work) {o with b6:=0} (.ch k .uc .work)
 | P7 {o k}:o.sv=1→Act o (.ch k .fin .work) {o with b6:=0} (.ch k .us .work)
 | P8 {o k}:o.b6=0→o.wk=0→o.sv=0→0<o.nw→Act o (.ch k .uc .work) {o with nw:=o.nw-1,wk:=1} (.ch k .us .work)
 | P9 {o k}:(o.nw=0∨o.b6=1∨o.wk=1∨o.sv=1)→Act o (.ch k .uc .work) o (.ch k .done .work)
 | post {o k}:Act o (.ch k .us .work) {o with cR:=o.cR+1} (.ch k .done .work)
 | add {o n p}:n<o.top→Act o (.par n p .add) {o with cnt:=o.cnt+1} (.par (n+1) (p+1) .add)
 | thru {o n}:o.cnt=0→Act o (.par n 0 .add) o (.par n 0 .lp)
 | Jm {o n}:0<o.cnt→Act o (.par n 0 .add) {o with wt:=1} (.par n 0 .w3)
 | wake {o n}:0<o.cz→Act o (.par n 0 .w3) {o with cz:=o.cz-1} (.par n 0 .w4)
 | P' {o k m}:o.cnt=1→o.wt=1→Act o (.ch k m .rel) {o with cnt:=o.cnt-1} (.ch k m .l2)
 | Qa {o k m}:(1<o.cnt∨o.wt=0)→Act o (.ch k m .rel) {o with cnt:=o.cnt-1} (.ch k m .gone)
 | Qb {o k m}:Act o (.ch k m .l2) {o with wt:=0} (.ch k m .g9)
 | Qc {o k m}:Act o (.ch k m .g9) {o with cz:=o.cz+1} (.ch k m .gone)
inductive oP:aK→Tok→aK→Tok→Prop where
 | Eu {o k}:oP o (.ch k .own .work) o (.ch k (.c5 o.L) .work)
 | Qd {o k L}:oP o (.ch k (.c5 L) .work) {o with L:=o.L++[k]} (.ch k .fin .work)
 | Qe {o k m}:(m=.done∨(m=.idle∧o.aQ=none))→oP o (.ch k m .work) {o with ab:=k::o.ab} (.ch k m .rel)
 | gtake {o n aB}:(aB=.lp∨aB=.w4)→oP o (.par n 0 aB) o (.par n 0 .bw)
section
variable {N i:Nat} {o o':aK} {τ:Nat→Tok} {t t':Tok}
theorem oQ {φ:Tok→Nat} (ec:∀t,eC t=0→φ t=0) (h:aY N τ eC=1) (hi:i<N) (χ:eC (τ i)=1):aY N τ φ=φ (τ i):=by
 have e:=fX τ .nil eC hi
 have aH:=fX τ .nil φ hi
 have z:eC .nil=0:=rfl;rw[h,χ,z] at e;rw[ec .nil rfl] at aH;have ae:aY N (upd τ i .nil) eC=0:=by omega
 have:aY N (upd τ i .nil) φ=0:=by
  have hs:∀n,aY n (upd τ i .nil) eC=0→aY n (upd τ i .nil) φ=0:=fun n=>by
   induction n with
   | zero=>exact fun _=>rfl
   | succ n Γ=>
    intro Ν;simp only[aY,sumTo] at Ν Γ ⊢;have:=Γ (by omega);have:=ec (upd τ i .nil n) (by omega);omega
  exact hs N ae
 omega
theorem Qf (h:oO N o τ) (hi:i<N) (Μ:τ i=t) (μ:Act o t o' t'):oO N o' (upd τ i t'):=by
 unfold oO at h ⊢;have cA:=fX τ t' hI hi;have l0:=e9 τ hI hi;have Ε:=fX τ t' mZ hi;have l1:=e9 τ mZ hi;have Δ:=fX τ t' lq hi;have l2:=e9 τ lq hi;have a4:=fX τ t' kG hi;have nN:=e9 τ kG hi;have cu:=fX τ t' mg hi;have g9:=e9 τ mg hi;have eR:=fX τ t' kH hi;have tG:=e9 τ kH hi;have kK:=fX τ t' pS hi;have AB:=e9 τ pS hi;have pU:=fX τ t' m0 hi;have Ev:=e9 τ m0 hi;have Ew:=fX τ t' pR hi;have tH:=e9 τ pR hi;rw[Μ] at Ew tH cA l0 Ε l1 Δ l2 a4 nN cu g9 eR tG kK AB pU Ev;generalize aY N (upd τ i t') hI=r0 at *;generalize aY N τ hI=Ex at *;generalize aY N (upd τ i t') mZ=r1 at *;generalize aY N τ mZ=s1 at *;generalize aY N (upd τ i t') lq=r2 at *;generalize aY N τ lq=s2 at *;generalize aY N (upd τ i t') kG=r3 at *;generalize aY N τ kG=nO at *;generalize aY N (upd τ i t') mg=iv at *;generalize aY N τ mg=tI at *;generalize aY N (upd τ i t') kH=xS at *;generalize aY N τ kH=nP at *;generalize aY N (upd τ i t') pS=Ey at *;generalize aY N τ pS=AD at *;generalize aY N (upd τ i t') m0=Qg at *;generalize aY N τ m0=Qh at *;generalize aY N (upd τ i t') pR=Qi at *;generalize aY N τ pR=xT at *;clear Μ hi;obtain⟨⟨aQ,aG,D,top⟩,b6,wk,sv,nw,cR,L,cnt,wt,cz,ab⟩:=o;obtain⟨a1,bg,cv,ha,lx,tJ,si,xU,xV⟩:=h;cases μ<;>simp only[hI,mZ,lq,kG,mg,kH,pS,m0,pR,Er,xO,Aw,tC,xP,Ax,xQ,Es,Ay,Nat.add_zero,Nat.zero_add] at *
 case acq aw _ _=>cases aw<;>simp only[tC,if_true,if_false,Bool.false_eq_true] at *<;>constructor<;>omega
 case queue aw st _ cg=>
  cases aw<;>cases st<;>simp only[tC,if_true,if_false,Bool.false_eq_true,false_and,true_and,imp_false,not_true_eq_false,forall_const] at *<;>constructor<;>omega
 case hacq pT=>cases pT<;>simp only[if_true,if_false,Bool.false_eq_true] at *<;>constructor<;>omega
 all_goals (constructor<;>omega)
theorem Qj (h:nM N o τ) (hi:i<N) (Μ:τ i=t) (μ:Act o t o' t'):nM N o' (upd τ i t'):=by
 unfold nM at h ⊢;have tK:eC t=1→aY N τ hJ=hJ t:=fun χ=>by rw[oQ (fun t Μ=>by cases t<;>simp_all [eC,hJ]) h.m1 hi (by rw[Μ];exact χ),Μ]
 have pp:eC t=1→aY N τ gU=gU t:=fun χ=>by rw[oQ (fun t Μ=>by cases t<;>simp_all [eC,gU]) h.m1 hi (by rw[Μ];exact χ),Μ]
 have cA:=fX τ t' ir hi;have l0:=e9 τ ir hi
 have Ε:=fX τ t' jo hi;have l1:=e9 τ jo hi
 have Δ:=fX τ t' jq hi;have l2:=e9 τ jq hi
 have a4:=fX τ t' kI hi;have nN:=e9 τ kI hi
 have cu:=fX τ t' eC hi;have g9:=e9 τ eC hi
 have eR:=fX τ t' gU hi;have tG:=e9 τ gU hi
 have kK:=fX τ t' hJ hi;have AB:=e9 τ hJ hi
 have pU:=fX τ t' lr hi;have Ev:=e9 τ lr hi
 have Ew:=fX τ t' kJ hi;have tH:=e9 τ kJ hi
 have Qk:=fX τ t' hK hi;have Ql:=e9 τ hK hi;rw[Μ] at cA l0 Ε l1 Δ l2 a4 nN cu g9 eR tG kK AB pU Ev Ew tH Qk Ql;generalize aY N (upd τ i t') ir=r0 at *;generalize aY N τ ir=Ex at *;generalize aY N (upd τ i t') jo=r1 at *;generalize aY N τ jo=s1 at *;generalize aY N (upd τ i t') jq=r2 at *;generalize aY N τ jq=s2 at *;generalize aY N (upd τ i t') kI=r3 at *;generalize aY N τ kI=nO at *;generalize aY N (upd τ i t') eC=iv at *;generalize aY N τ eC=tI at *;generalize aY N (upd τ i t') gU=xS at *;generalize aY N τ gU=nP at *;generalize aY N (upd τ i t') hJ=Ey at *;generalize aY N τ hJ=AD at *;generalize aY N (upd τ i t') lr=Qg at *;generalize aY N τ lr=Qh at *;generalize aY N (upd τ i t') kJ=Qi at *;generalize aY N τ kJ=xT at *;generalize aY N (upd τ i t') hK=eη at *;generalize aY N τ hK=eθ at *;clear Μ hi;obtain⟨⟨aQ,aG,D,top⟩,b6,wk,sv,nw,cR,L,cnt,wt,cz,ab⟩:=o;obtain⟨fK,si,xU,xV,Ez,Qm,Qn,Qo,Qp⟩:=h;cases μ<;>simp only[ir,jo,jq,kI,eC,gU,hJ,lr,kJ,hK,qY,tD,tE,Nat.add_zero,Nat.zero_add,forall_const] at *
 all_goals (constructor<;>omega)
end
end Go.TL
