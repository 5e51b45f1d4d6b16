import Derived.Conc.CrowdBase
import Derived.Test.YtlabjopijpkiaaaGreatQAA
set_option maxHeartbeats 16000000
set_option maxRecDepth 20000
set_option linter.unusedSectionVars false
set_option linter.unusedSimpArgs false
set_option linter.unusedVariables false
namespace Go.TL
open Go.Conc
open Go.ConcN (sumTo upd sumTo_upd upd_ne upd_same sumTo_congr le_sumTo)
inductive k' where
 | idle|act (aw:Bool)|q|wk|hw|own|dj (L:List Nat)|fin|uc|us|done
inductive tk where
 | work|rel|l2|hG|gone
inductive rT where
 | add|w3|w4|lZ|bF
inductive Tok where
 | nil
 | par (n pend:Nat) (ae:rT)
 | ch (k:Nat) (mu:k') (wg:tk)
structure Spec where
 aT:Option Nat
 aI:List Nat->ψ->Prop
 D:Nat->ψ->Prop
 top:Nat
structure aM extends Spec where
 cb:Nat
 wk:Nat
 sv:Nat
 nw:Nat
 c0:Nat
 L:List Nat
 cnt:Nat
 wt:Nat
 cH:Nat
 af:List Nat
def y4:k'->Nat|.own|.dj _|.fin=>1|_=>0
def h':Tok->Nat|.ch _ m _=>y4 m|_=>0
def BV:k'->Nat|.us|.wk|.hw=>1|_=>0
def nI:Tok->Nat|.ch _ m _=>BV m|_=>0
def u2:k'->Nat|.act true=>1|_=>0
def l3:Tok->Nat|.ch _ m _=>u2 m|_=>0
def y5:k'->Nat|.q=>1|_=>0
def lb:Tok->Nat|.ch _ m _=>y5 m|_=>0
def BW:k'->Nat|.hw=>1|_=>0
def mX:Tok->Nat|.ch _ m _=>BW m|_=>0
def FV:k'->Nat|.wk=>1|_=>0
def qy:Tok->Nat|.ch _ m _=>FV m|_=>0
def y6:k'->Nat|.wk|.hw=>1|_=>0
def lf:Tok->Nat|.ch _ m _=>y6 m|_=>0
def FW:k'->Nat|.us=>1|_=>0
def qz:Tok->Nat|.ch _ m _=>FW m|_=>0
def BX:k'->Nat|.uc=>1|_=>0
def nJ:Tok->Nat|.ch _ m _=>BX m|_=>0
def rU:tk->Nat|.work|.rel=>1|_=>0
def iU:Tok->Nat|.ch _ _ g=>rU g|_=>0
def u3:tk->Nat|.l2=>1|_=>0
def jR:Tok->Nat|.ch _ _ g=>u3 g|_=>0
def u4:tk->Nat|.hG=>1|_=>0
def jS:Tok->Nat|.ch _ _ g=>u4 g|_=>0
def lg:Tok->Nat|.ch ..=>1|_=>0
def eM:Tok->Nat|.par ..=>1|_=>0
def hl:Tok->Nat|.par _ p _=>p|_=>0
def ia:Tok->Nat|.par n _ _=>n|_=>0
def l4:Tok->Nat|.par _ _ .add=>1|_=>0
def lh:Tok->Nat|.par _ _ .w3=>1|_=>0
def ib:Tok->Nat|.par _ _ .w4|.par _ _ .lZ|.par _ _ .bF=>1|_=>0
def u5:k'->Nat
 | .idle=>20|.act false=>19|.act true=>18|.q=>12|.wk=>20|.hw=>19|.own=>14|.dj _=>13|.fin=>12|.uc=>11|.us=>10|.done=>0
def BY:tk->Nat
 | .work=>6|.rel=>5|.l2=>4|.hG=>3|.gone=>0
def xk:rT->Nat
 | .add=>8|.w3=>6|.w4=>3|.lZ=>3|.bF=>0
def l5 (top:Nat):Tok->Nat
 | .nil=>0
 | .par n p ae=>(top-n)*100+p*50+xk ae
 | .ch _ m w=>u5 m+BY w
def a7 (N:Nat) (τ:Nat->Tok) (φ:Tok->Nat):Nat:=sumTo N λi=>φ (τ i)
theorem gv {N i:Nat} (τ:Nat->Tok) (t:Tok) (φ:Tok->Nat) (h:i<N):a7 N (upd τ i t) φ+φ (τ i)=a7 N τ φ+φ t:=sumTo_upd τ t φ h
theorem fp {N i:Nat} (τ:Nat->Tok) (φ:Tok->Nat) (h:i<N):φ (τ i)<=a7 N τ φ:=le_sumTo (f:=λi=>φ (τ i)) h
def eA (N:Nat) (o:aM) (τ:Nat->Tok):Nat:=a7 N τ (l5 o.top)+9*o.c0+2*o.cH
structure RH (cb wk sv nw c0 hold bh BZ KU hw y7 us uc RI:Nat):Prop where
 f1:cb<=1
 f2:wk<=1
 f3:sv<=1
 KV:hold=cb
 gΖ:sv=0->bh+c0+BZ=wk/\hw=0/\nw+us+c0=KU
 gΗ:sv=1->wk=0/\BZ=0/\cb+bh+c0=1/\nw=KU+y7
 gΘ:sv=0->cb=0->0<nw->wk=0->0<uc
 gΙ:us+y7=bh
 gΚ:hw+RI=y7
structure RJ (cnt wt cH top live l2 hG iV par pend n add w3 fin:Nat):Prop where
 f4:wt<=1
 nK:par=1
 FX:cnt=pend+live
 KW:iV+pend=n
 gΜ:n<=top
 gΝ:add=1->wt=0/\cH=0/\l2=0/\hG=0
 RK:w3=1->pend=0/\((wt=1/\hG=0/\cH=0/\((cnt=0/\l2=1)\/(0<cnt/\l2=0)))\/(wt=0/\cnt=0/\l2=0/\hG+cH=1))
 KX:fin=1->pend=0/\wt=0/\cH=0/\cnt=0/\l2=0/\hG=0
 gΞ:add+w3+fin=1
def pn (N:Nat) (o:aM) (τ:Nat->Tok):Prop:=
 RH o.cb o.wk o.sv o.nw o.c0 (a7 N τ h') (a7 N τ nI) (a7 N τ l3) (a7 N τ lb) (a7 N τ mX) (a7 N τ lf) (a7 N τ qz) (a7 N τ nJ) (a7 N τ qy)
def oo (N:Nat) (o:aM) (τ:Nat->Tok):Prop:=
 RJ o.cnt o.wt o.cH o.top (a7 N τ iU) (a7 N τ jR) (a7 N τ jS) (a7 N τ lg) (a7 N τ eM) (a7 N τ hl) (a7 N τ ia) (a7 N τ l4) (a7 N τ lh) (a7 N τ ib)
def tl (N:Nat) (o:aM) (τ:Nat->Tok):Prop:=pn N o τ/\oo N o τ
inductive Act:aM->Tok->aM->Tok->Prop where
 | RL {o k}:o.cb=0->o.sv=0->o.wk=0->o.nw=0->Act o (.ch k .idle .work) {o with cb:=1} (.ch k .own .work)
 | RN {o k}:Act o (.ch k .idle .work) o (.ch k (.act false) .work)
 | acq {o k aw}:o.cb=0->o.sv=0->Act o (.ch k (.act aw) .work) {o with cb:=1,wk:=if aw then 0 else o.wk} (.ch k .own .work)
 | RO {o k}:o.wk=0->0<o.nw->o.cb=1->o.sv=0->Act o (.ch k (.act false) .work) {o with wk:=1} (.ch k (.act true) .work)
 | queue {o k aw} (st:Bool):(o.cb=1\/o.sv=1)->(st=true->aw=true/\o.cb=1)->Act o (.ch k (.act aw) .work) {o with nw:=o.nw+1,wk:=if aw then 0 else o.wk,sv:=if st then 1 else o.sv} (.ch k .q .work)
 | take {o k}:0<o.c0->Act o (.ch k .q .work) {o with c0:=o.c0-1} (.ch k .wk .work)
 | norm {o k}:o.sv=0->Act o (.ch k .wk .work) o (.ch k (.act true) .work)
 | hand {o k}:o.sv=1->Act o (.ch k .wk .work) o (.ch k .hw .work)
 | hacq {o k} (qA:Bool):Act o (.ch k .hw .work) {o with cb:=1,nw:=o.nw-1,sv:=if qA then 0 else 1} (.ch k .own .work)
 | RP {o k}:o.sv=0->(o.nw=0\/o.wk=1)->Act o (.ch k .fin .work) {o with cb:=0} (.ch k .done .work)
 | RQ {o k}:o.sv=0->0<o.nw->o.wk=0->Act o (.ch k .fin .work) {o with cb:=0} (.ch k .uc .work)
 | RR {o k}:o.sv=1->Act o (.ch k .fin .work) {o with cb:=0} (.ch k .us .work)
 | RS {o k}:o.cb=0->o.wk=0->o.sv=0->0<o.nw->Act o (.ch k .uc .work) {o with nw:=o.nw-1,wk:=1} (.ch k .us .work)
 | RU {o k}:(o.nw=0\/o.cb=1\/o.wk=1\/o.sv=1)->Act o (.ch k .uc .work) o (.ch k .done .work)
 | post {o k}:Act o (.ch k .us .work) {o with c0:=o.c0+1} (.ch k .done .work)
 | add {o n p}:n<o.top->Act o (.par n p .add) {o with cnt:=o.cnt+1} (.par (n+1) (p+1) .add)
 | thru {o n}:o.cnt=0->Act o (.par n 0 .add) o (.par n 0 .lZ)
 | KY {o n}:0<o.cnt->Act o (.par n 0 .add) {o with wt:=1} (.par n 0 .w3)
 | wake {o n}:0<o.cH->Act o (.par n 0 .w3) {o with cH:=o.cH-1} (.par n 0 .w4)
 | RV {o k m}:o.cnt=1->o.wt=1->Act o (.ch k m .rel) {o with cnt:=o.cnt-1} (.ch k m .l2)
 | RX {o k m}:(1<o.cnt\/o.wt=0)->Act o (.ch k m .rel) {o with cnt:=o.cnt-1} (.ch k m .gone)
 | RY {o k m}:Act o (.ch k m .l2) {o with wt:=0} (.ch k m .hG)
 | RZ {o k m}:Act o (.ch k m .hG) {o with cH:=o.cH+1} (.ch k m .gone)
inductive po:aM->Tok->aM->Tok->Prop where
 | FY {o k}:po o (.ch k .own .work) o (.ch k (.dj o.L) .work)
 | R0 {o k L}:po o (.ch k (.dj L) .work) {o with L:=o.L++[k]} (.ch k .fin .work)
 | R1 {o k m}:(m=.done\/(m=.idle/\o.aT=none))->po o (.ch k m .work) {o with af:=k::o.af} (.ch k m .rel)
 | gtake {o n ae}:(ae=.lZ\/ae=.w4)->po o (.par n 0 ae) o (.par n 0 .bF)
section
variable {N i:Nat} {o o':aM} {τ:Nat->Tok} {t t':Tok}
theorem pq {φ:Tok->Nat} (et:∀t,eM t=0->φ t=0) (h:a7 N τ eM=1) (hi:i<N) (ω:eM (τ i)=1):a7 N τ φ=φ (τ i):=by
 have e:=gv τ .nil eM hi
 have aJ:=gv τ .nil φ hi
 have z:eM .nil=0:=rfl;rw[h,ω,z] at e;rw[et .nil rfl] at aJ;have ah:a7 N (upd τ i .nil) eM=0:=by omega
 have:a7 N (upd τ i .nil) φ=0:=by
  have g1:∀n,a7 n (upd τ i .nil) eM=0->a7 n (upd τ i .nil) φ=0:=λn=>by
   induction n with
   | zero=>exact λ_=>rfl
   | succ n Δ=>
    intro Η;simp only[a7,sumTo] at Η Δ ⊢;have:=Δ (by omega);have:=et (upd τ i .nil n) (by omega);omega
  exact g1 N ah
 omega
theorem R2 (h:pn N o τ) (hi:i<N) (Ξ:τ i=t) (ν:Act o t o' t'):pn N o' (upd τ i t'):=by
 unfold pn at h ⊢;have cI:=gv τ t' h' hi;have l0:=fp τ h' hi;have Ε:=gv τ t' nI hi;have l1:=fp τ nI hi;have Ζ:=gv τ t' l3 hi;have l2:=fp τ l3 hi;have a6:=gv τ t' lb hi;have oq:=fp τ lb hi;have cD:=gv τ t' mX hi;have hG:=fp τ mX hi;have eN:=gv τ t' lf hi;have tm:=fp τ lf hi;have lj:=gv τ t' qz hi;have B0:=fp τ qz hi;have qB:=gv τ t' nJ hi;have FZ:=fp τ nJ hi;have F0:=gv τ t' qy hi;have u6:=fp τ qy hi;rw[Ξ] at F0 u6 cI l0 Ε l1 Ζ l2 a6 oq cD hG eN tm lj B0 qB FZ;generalize a7 N (upd τ i t') h'=r0 at *;generalize a7 N τ h'=F1 at *;generalize a7 N (upd τ i t') nI=r1 at *;generalize a7 N τ nI=s1 at *;generalize a7 N (upd τ i t') l3=r2 at *;generalize a7 N τ l3=s2 at *;generalize a7 N (upd τ i t') lb=r3 at *;generalize a7 N τ lb=ot at *;generalize a7 N (upd τ i t') mX=iW at *;generalize a7 N τ mX=u7 at *;generalize a7 N (upd τ i t') lf=u9 at *;generalize a7 N τ lf=ou at *;generalize a7 N (upd τ i t') qz=F2 at *;generalize a7 N τ qz=B1 at *;generalize a7 N (upd τ i t') nJ=R3 at *;generalize a7 N τ nJ=R4 at *;generalize a7 N (upd τ i t') qy=R5 at *;generalize a7 N τ qy=y8 at *;clear Ξ hi;obtain⟨⟨aT,aI,D,top⟩,cb,wk,sv,nw,c0,L,cnt,wt,cH,af⟩:=o;obtain⟨a1,ba,cm,hH,l6,u',tn,y9,y'⟩:=h;cases ν<;>simp only[h',nI,l3,lb,mX,lf,qz,nJ,qy,FV,y4,BV,u2,y5,BW,y6,FW,BX,Nat.add_zero,Nat.zero_add] at *
 case acq aw _ _=>cases aw<;>simp only[u2,if_true,if_false,Bool.false_eq_true] at *<;>constructor<;>omega
 case queue aw st _ cE=>
  cases aw<;>cases st<;>simp only[u2,if_true,if_false,Bool.false_eq_true,false_and,true_and,imp_false,not_true_eq_false,forall_const] at *<;>constructor<;>omega
 case hacq qA=>cases qA<;>simp only[if_true,if_false,Bool.false_eq_true] at *<;>constructor<;>omega
 all_goals (constructor<;>omega)
theorem R6 (h:oo N o τ) (hi:i<N) (Ξ:τ i=t) (ν:Act o t o' t'):oo N o' (upd τ i t'):=by
 unfold oo at h ⊢;have va:eM t=1->a7 N τ ia=ia t:=λω=>by rw[pq (λt Ξ=>by cases t<;>simp_all [eM,ia]) h.nK hi (by rw[Ξ];exact ω),Ξ]
 have pp:eM t=1->a7 N τ hl=hl t:=λω=>by rw[pq (λt Ξ=>by cases t<;>simp_all [eM,hl]) h.nK hi (by rw[Ξ];exact ω),Ξ]
 have cI:=gv τ t' iU hi;have l0:=fp τ iU hi
 have Ε:=gv τ t' jR hi;have l1:=fp τ jR hi
 have Ζ:=gv τ t' jS hi;have l2:=fp τ jS hi
 have a6:=gv τ t' lg hi;have oq:=fp τ lg hi
 have cD:=gv τ t' eM hi;have hG:=fp τ eM hi
 have eN:=gv τ t' hl hi;have tm:=fp τ hl hi
 have lj:=gv τ t' ia hi;have B0:=fp τ ia hi
 have qB:=gv τ t' l4 hi;have FZ:=fp τ l4 hi
 have F0:=gv τ t' lh hi;have u6:=fp τ lh hi
 have R7:=gv τ t' ib hi;have R8:=fp τ ib hi;rw[Ξ] at cI l0 Ε l1 Ζ l2 a6 oq cD hG eN tm lj B0 qB FZ F0 u6 R7 R8;generalize a7 N (upd τ i t') iU=r0 at *;generalize a7 N τ iU=F1 at *;generalize a7 N (upd τ i t') jR=r1 at *;generalize a7 N τ jR=s1 at *;generalize a7 N (upd τ i t') jS=r2 at *;generalize a7 N τ jS=s2 at *;generalize a7 N (upd τ i t') lg=r3 at *;generalize a7 N τ lg=ot at *;generalize a7 N (upd τ i t') eM=iW at *;generalize a7 N τ eM=u7 at *;generalize a7 N (upd τ i t') hl=u9 at *;generalize a7 N τ hl=ou at *;generalize a7 N (upd τ i t') ia=F2 at *;generalize a7 N τ ia=B1 at *;generalize a7 N (upd τ i t') l4=R3 at *;generalize a7 N τ l4=R4 at *;generalize a7 N (upd τ i t') lh=R5 at *;generalize a7 N τ lh=y8 at *;generalize a7 N (upd τ i t') ib=gΟ at *;generalize a7 N τ ib=gΡ at *;clear Ξ hi;obtain⟨⟨aT,aI,D,top⟩,cb,wk,sv,nw,c0,L,cnt,wt,cH,af⟩:=o;obtain⟨fY,tn,y9,y',F3,R9,R',Sa,Sb⟩:=h;cases ν<;>simp only[iU,jR,jS,lg,eM,hl,ia,l4,lh,ib,rU,u3,u4,Nat.add_zero,Nat.zero_add,forall_const] at *
 all_goals (constructor<;>omega)
end
end Go.TL
