import Derived.Conc.CrowdBase
import Derived.Test.YtlabjopijpkiaaaGreatSAA
set_option maxHeartbeats 16000000
set_option maxRecDepth 20000
set_option linter.unusedSectionVars false
set_option linter.unusedSimpArgs false
set_option linter.unusedVariables false
namespace Go.TL
open Go.Conc
open Go.ConcN (sumTo upd sumTo_upd upd_ne upd_same sumTo_congr le_sumTo)
inductive lr where
 | idle|act (aw:Bool)|q|wk|hw|own|dc (L:List Nat)|fin|uc|us|done
inductive ts where
 | work|rel|l2|hz|gone
inductive r7 where
 | add|w3|w4|l'|bA
inductive Tok where
 | nil
 | par (n pend:Nat) (aE:r7)
 | ch (k:Nat) (mu:lr) (wg:ts)
structure Spec where
 aT:Option Nat
 aH:List Nat->Α->Prop
 D:Nat->Α->Prop
 top:Nat
structure aN extends Spec where
 cb:Nat
 wk:Nat
 sv:Nat
 nw:Nat
 cX:Nat
 L:List Nat
 cnt:Nat
 wt:Nat
 cE:Nat
 Ω:List Nat
def yY:lr->Nat|.own|.dc _|.fin=>1|_=>0
def h4:Tok->Nat|.ch _ m _=>yY m|_=>0
def BK:lr->Nat|.us|.wk|.hw=>1|_=>0
def nU:Tok->Nat|.ch _ m _=>BK m|_=>0
def u7:lr->Nat|.act true=>1|_=>0
def ma:Tok->Nat|.ch _ m _=>u7 m|_=>0
def yZ:lr->Nat|.q=>1|_=>0
def lu:Tok->Nat|.ch _ m _=>yZ m|_=>0
def BL:lr->Nat|.hw=>1|_=>0
def m':Tok->Nat|.ch _ m _=>BL m|_=>0
def F8:lr->Nat|.wk=>1|_=>0
def qL:Tok->Nat|.ch _ m _=>F8 m|_=>0
def y0:lr->Nat|.wk|.hw=>1|_=>0
def lx:Tok->Nat|.ch _ m _=>y0 m|_=>0
def F9:lr->Nat|.us=>1|_=>0
def qM:Tok->Nat|.ch _ m _=>F9 m|_=>0
def BM:lr->Nat|.uc=>1|_=>0
def nV:Tok->Nat|.ch _ m _=>BM m|_=>0
def r8:ts->Nat|.work|.rel=>1|_=>0
def iO:Tok->Nat|.ch _ _ g=>r8 g|_=>0
def u9:ts->Nat|.l2=>1|_=>0
def jU:Tok->Nat|.ch _ _ g=>u9 g|_=>0
def u':ts->Nat|.hz=>1|_=>0
def jV:Tok->Nat|.ch _ _ g=>u' g|_=>0
def ly:Tok->Nat|.ch ..=>1|_=>0
def eJ:Tok->Nat|.par ..=>1|_=>0
def hc:Tok->Nat|.par _ p _=>p|_=>0
def h5:Tok->Nat|.par n _ _=>n|_=>0
def mb:Tok->Nat|.par _ _ .add=>1|_=>0
def lz:Tok->Nat|.par _ _ .w3=>1|_=>0
def h6:Tok->Nat|.par _ _ .w4|.par _ _ .l'|.par _ _ .bA=>1|_=>0
def va:lr->Nat
 | .idle=>20|.act false=>19|.act true=>18|.q=>12|.wk=>20|.hw=>19|.own=>14|.dc _=>13|.fin=>12|.uc=>11|.us=>10|.done=>0
def BN:ts->Nat
 | .work=>6|.rel=>5|.l2=>4|.hz=>3|.gone=>0
def xd:r7->Nat
 | .add=>8|.w3=>6|.w4=>3|.l'=>3|.bA=>0
def mc (top:Nat):Tok->Nat
 | .nil=>0
 | .par n p aE=>(top-n)*100+p*50+xd aE
 | .ch _ m w=>va m+BN w
def a8 (N:Nat) (τ:Nat->Tok) (φ:Tok->Nat):Nat:=sumTo N λi=>φ (τ i)
theorem gq {N i:Nat} (τ:Nat->Tok) (t:Tok) (φ:Tok->Nat) (h:i<N):a8 N (upd τ i t) φ+φ (τ i)=a8 N τ φ+φ t:=sumTo_upd τ t φ h
theorem fh {N i:Nat} (τ:Nat->Tok) (φ:Tok->Nat) (h:i<N):φ (τ i)<=a8 N τ φ:=le_sumTo (f:=λi=>φ (τ i)) h
def et (N:Nat) (o:aN) (τ:Nat->Tok):Nat:=a8 N τ (mc o.top)+9*o.cX+2*o.cE
structure S7 (cb wk sv nw cX hold bk BO Lz hw y1 us uc S8:Nat):Prop where
 f1:cb<=1
 f2:wk<=1
 f3:sv<=1
 LA:hold=cb
 jι:sv=0->bk+cX+BO=wk/\hw=0/\nw+us+cX=Lz
 jκ:sv=1->wk=0/\BO=0/\cb+bk+cX=1/\nw=Lz+y1
 jμ:sv=0->cb=0->0<nw->wk=0->0<uc
 jν:us+y1=bk
 jξ:hw+S8=y1
structure S9 (cnt wt cE top live l2 hz iP par pend n add w3 fin:Nat):Prop where
 f4:wt<=1
 nW:par=1
 F':cnt=pend+live
 LB:iP+pend=n
 jο:n<=top
 jπ:add=1->wt=0/\cE=0/\l2=0/\hz=0
 S':w3=1->pend=0/\((wt=1/\hz=0/\cE=0/\((cnt=0/\l2=1)\/(0<cnt/\l2=0)))\/(wt=0/\cnt=0/\l2=0/\hz+cE=1))
 LC:fin=1->pend=0/\wt=0/\cE=0/\cnt=0/\l2=0/\hz=0
 jρ:add+w3+fin=1
def pG (N:Nat) (o:aN) (τ:Nat->Tok):Prop:=
 S7 o.cb o.wk o.sv o.nw o.cX (a8 N τ h4) (a8 N τ nU) (a8 N τ ma) (a8 N τ lu) (a8 N τ m') (a8 N τ lx) (a8 N τ qM) (a8 N τ nV) (a8 N τ qL)
def oI (N:Nat) (o:aN) (τ:Nat->Tok):Prop:=
 S9 o.cnt o.wt o.cE o.top (a8 N τ iO) (a8 N τ jU) (a8 N τ jV) (a8 N τ ly) (a8 N τ eJ) (a8 N τ hc) (a8 N τ h5) (a8 N τ mb) (a8 N τ lz) (a8 N τ h6)
def tt (N:Nat) (o:aN) (τ:Nat->Tok):Prop:=pG N o τ/\oI N o τ
inductive Act:aN->Tok->aN->Tok->Prop where
 | Ta {o k}:o.cb=0->o.sv=0->o.wk=0->o.nw=0->Act o (.ch k .idle .work) {o with cb:=1} (.ch k .own .work)
 | Tb {o k}:Act o (.ch k .idle .work) o (.ch k (.act false) .work)
 | acq {o k aw}:o.cb=0->o.sv=0->Act o (.ch k (.act aw) .work) {o with cb:=1,wk:=if aw then 0 else o.wk} (.ch k .own .work)
 | Tc {o k}:o.wk=0->0<o.nw->o.cb=1->o.sv=0->Act o (.ch k (.act false) .work) {o with wk:=1} (.ch k (.act true) .work)
 | queue {o k aw} (st:Bool):(o.cb=1\/o.sv=1)->(st=true->aw=true/\o.cb=1)->Act o (.ch k (.act aw) .work) {o with nw:=o.nw+1,wk:=if aw then 0 else o.wk,sv:=if st then 1 else o.sv} (.ch k .q .work)
 | take {o k}:0<o.cX->Act o (.ch k .q .work) {o with cX:=o.cX-1} (.ch k .wk .work)
 | norm {o k}:o.sv=0->Act o (.ch k .wk .work) o (.ch k (.act true) .work)
 | hand {o k}:o.sv=1->Act o (.ch k .wk .work) o (.ch k .hw .work)
 | hacq {o k} (qN:Bool):Act o (.ch k .hw .work) {o with cb:=1,nw:=o.nw-1,sv:=if qN then 0 else 1} (.ch k .own .work)
 | Td {o k}:o.sv=0->(o.nw=0\/o.wk=1)->Act o (.ch k .fin .work) {o with cb:=0} (.ch k .done .work)
 | Te {o k}:o.sv=0->0<o.nw->o.wk=0->Act o (.ch k .fin .work) {o with cb:=0} (.ch k .uc .work)
 | Tf {o k}:o.sv=1->Act o (.ch k .fin .work) {o with cb:=0} (.ch k .us .work)
 | Tg {o k}:o.cb=0->o.wk=0->o.sv=0->0<o.nw->Act o (.ch k .uc .work) {o with nw:=o.nw-1,wk:=1} (.ch k .us .work)
 | Ti {o k}:(o.nw=0\/o.cb=1\/o.wk=1\/o.sv=1)->Act o (.ch k .uc .work) o (.ch k .done .work)
 | post {o k}:Act o (.ch k .us .work) {o with cX:=o.cX+1} (.ch k .done .work)
 | add {o n p}:n<o.top->Act o (.par n p .add) {o with cnt:=o.cnt+1} (.par (n+1) (p+1) .add)
 | thru {o n}:o.cnt=0->Act o (.par n 0 .add) o (.par n 0 .l')
 | LD {o n}:0<o.cnt->Act o (.par n 0 .add) {o with wt:=1} (.par n 0 .w3)
 | wake {o n}:0<o.cE->Act o (.par n 0 .w3) {o with cE:=o.cE-1} (.par n 0 .w4)
 | Tj {o k m}:o.cnt=1->o.wt=1->Act o (.ch k m .rel) {o with cnt:=o.cnt-1} (.ch k m .l2)
 | Tk {o k m}:(1<o.cnt\/o.wt=0)->Act o (.ch k m .rel) {o with cnt:=o.cnt-1} (.ch k m .gone)
 | Tl {o k m}:Act o (.ch k m .l2) {o with wt:=0} (.ch k m .hz)
 | Tm {o k m}:Act o (.ch k m .hz) {o with cE:=o.cE+1} (.ch k m .gone)
inductive pH:aN->Tok->aN->Tok->Prop where
 | Ga {o k}:pH o (.ch k .own .work) o (.ch k (.dc o.L) .work)
 | Tn {o k L}:pH o (.ch k (.dc L) .work) {o with L:=o.L++[k]} (.ch k .fin .work)
 | To {o k m}:(m=.done\/(m=.idle/\o.aT=none))->pH o (.ch k m .work) {o with Ω:=k::o.Ω} (.ch k m .rel)
 | gtake {o n aE}:(aE=.l'\/aE=.w4)->pH o (.par n 0 aE) o (.par n 0 .bA)
section
variable {N i:Nat} {o o':aN} {τ:Nat->Tok} {t t':Tok}
theorem pI {φ:Tok->Nat} (eg:∀t,eJ t=0->φ t=0) (h:a8 N τ eJ=1) (hi:i<N) (ψ:eJ (τ i)=1):a8 N τ φ=φ (τ i):=by
 have e:=gq τ .nil eJ hi
 have aJ:=gq τ .nil φ hi
 have z:eJ .nil=0:=rfl;rw[h,ψ,z] at e;rw[eg .nil rfl] at aJ;have ag:a8 N (upd τ i .nil) eJ=0:=by omega
 have:a8 N (upd τ i .nil) φ=0:=by
  have hM:∀n,a8 n (upd τ i .nil) eJ=0->a8 n (upd τ i .nil) φ=0:=λn=>by
   induction n with
   | zero=>exact λ_=>rfl
   | succ n Δ=>
    intro Θ;simp only[a8,sumTo] at Θ Δ ⊢;have:=Δ (by omega);have:=eg (upd τ i .nil n) (by omega);omega
  exact hM N ag
 omega
theorem Tp (h:pG N o τ) (hi:i<N) (Ο:τ i=t) (ξ:Act o t o' t'):pG N o' (upd τ i t'):=by
 unfold pG at h ⊢;have cv:=gq τ t' h4 hi;have l0:=fh τ h4 hi;have Ζ:=gq τ t' nU hi;have l1:=fh τ nU hi;have Ε:=gq τ t' ma hi;have l2:=fh τ ma hi;have aY:=gq τ t' lu hi;have oJ:=fh τ lu hi;have cy:=gq τ t' m' hi;have hz:=fh τ m' hi;have eZ:=gq τ t' lx hi;have vb:=fh τ lx hi;have lA:=gq τ t' qM hi;have BP:=fh τ qM hi;have qO:=gq τ t' nV hi;have Gb:=fh τ nV hi;have Gc:=gq τ t' qL hi;have vc:=fh τ qL hi;rw[Ο] at Gc vc cv l0 Ζ l1 Ε l2 aY oJ cy hz eZ vb lA BP qO Gb;generalize a8 N (upd τ i t') h4=r0 at *;generalize a8 N τ h4=nX at *;generalize a8 N (upd τ i t') nU=r1 at *;generalize a8 N τ nU=s1 at *;generalize a8 N (upd τ i t') ma=r2 at *;generalize a8 N τ ma=s2 at *;generalize a8 N (upd τ i t') lu=r3 at *;generalize a8 N τ lu=oK at *;generalize a8 N (upd τ i t') m'=iQ at *;generalize a8 N τ m'=vd at *;generalize a8 N (upd τ i t') lx=y2 at *;generalize a8 N τ lx=oL at *;generalize a8 N (upd τ i t') qM=Gd at *;generalize a8 N τ qM=BQ at *;generalize a8 N (upd τ i t') nV=Tq at *;generalize a8 N τ nV=Tr at *;generalize a8 N (upd τ i t') qL=Ts at *;generalize a8 N τ qL=y3 at *;clear Ο hi;obtain⟨⟨aT,aH,D,top⟩,cb,wk,sv,nw,cX,L,cnt,wt,cE,Ω⟩:=o;obtain⟨a1,bl,cz,hA,md,ve,tu,y4,y5⟩:=h;cases ξ<;>simp only[h4,nU,ma,lu,m',lx,qM,nV,qL,F8,yY,BK,u7,yZ,BL,y0,F9,BM,Nat.add_zero,Nat.zero_add] at *
 case acq aw _ _=>cases aw<;>simp only[u7,if_true,if_false,Bool.false_eq_true] at *<;>constructor<;>omega
 case queue aw st _ cA=>
  cases aw<;>cases st<;>simp only[u7,if_true,if_false,Bool.false_eq_true,false_and,true_and,imp_false,not_true_eq_false,forall_const] at *<;>constructor<;>omega
 case hacq qN=>cases qN<;>simp only[if_true,if_false,Bool.false_eq_true] at *<;>constructor<;>omega
 all_goals (constructor<;>omega)
theorem Tt (h:oI N o τ) (hi:i<N) (Ο:τ i=t) (ξ:Act o t o' t'):oI N o' (upd τ i t'):=by
 unfold oI at h ⊢;have vf:eJ t=1->a8 N τ h5=h5 t:=λψ=>by rw[pI (λt Ο=>by cases t<;>simp_all [eJ,h5]) h.nW hi (by rw[Ο];exact ψ),Ο]
 have pp:eJ t=1->a8 N τ hc=hc t:=λψ=>by rw[pI (λt Ο=>by cases t<;>simp_all [eJ,hc]) h.nW hi (by rw[Ο];exact ψ),Ο]
 have cv:=gq τ t' iO hi;have l0:=fh τ iO hi
 have Ζ:=gq τ t' jU hi;have l1:=fh τ jU hi
 have Ε:=gq τ t' jV hi;have l2:=fh τ jV hi
 have aY:=gq τ t' ly hi;have oJ:=fh τ ly hi
 have cy:=gq τ t' eJ hi;have hz:=fh τ eJ hi
 have eZ:=gq τ t' hc hi;have vb:=fh τ hc hi
 have lA:=gq τ t' h5 hi;have BP:=fh τ h5 hi
 have qO:=gq τ t' mb hi;have Gb:=fh τ mb hi
 have Gc:=gq τ t' lz hi;have vc:=fh τ lz hi
 have Tu:=gq τ t' h6 hi;have Tv:=fh τ h6 hi;rw[Ο] at cv l0 Ζ l1 Ε l2 aY oJ cy hz eZ vb lA BP qO Gb Gc vc Tu Tv;generalize a8 N (upd τ i t') iO=r0 at *;generalize a8 N τ iO=nX at *;generalize a8 N (upd τ i t') jU=r1 at *;generalize a8 N τ jU=s1 at *;generalize a8 N (upd τ i t') jV=r2 at *;generalize a8 N τ jV=s2 at *;generalize a8 N (upd τ i t') ly=r3 at *;generalize a8 N τ ly=oK at *;generalize a8 N (upd τ i t') eJ=iQ at *;generalize a8 N τ eJ=vd at *;generalize a8 N (upd τ i t') hc=y2 at *;generalize a8 N τ hc=oL at *;generalize a8 N (upd τ i t') h5=Gd at *;generalize a8 N τ h5=BQ at *;generalize a8 N (upd τ i t') mb=Tq at *;generalize a8 N τ mb=Tr at *;generalize a8 N (upd τ i t') lz=Ts at *;generalize a8 N τ lz=y3 at *;generalize a8 N (upd τ i t') h6=jς at *;generalize a8 N τ h6=jτ at *;clear Ο hi;obtain⟨⟨aT,aH,D,top⟩,cb,wk,sv,nw,cX,L,cnt,wt,cE,Ω⟩:=o;obtain⟨gb,tu,y4,y5,Ge,Tw,Tx,Ty,Tz⟩:=h;cases ξ<;>simp only[iO,jU,jV,ly,eJ,hc,h5,mb,lz,h6,r8,u9,u',Nat.add_zero,Nat.zero_add,forall_const] at *
 all_goals (constructor<;>omega)
end
end Go.TL
