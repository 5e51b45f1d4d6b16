import Derived.Conc.CrowdBase
import Derived.Test.YtlabjopijpkiaaaGreatEAA
set_option maxHeartbeats 16000000
set_option maxRecDepth 20000
set_option linter.unusedSectionVars false
set_option linter.unusedSimpArgs false
set_option linter.unusedVariables false
namespace Go.TL
open Go.Conc
open Go.ConcN (sumTo upd sumTo_upd upd_ne upd_same sumTo_congr le_sumTo)
inductive ml where
 | idle|act (aw:Bool)|q|wk|hw|own|dA (L:List Nat)|fin|uc|us|done
inductive uC where
 | work|rel|l2|iw|gone
inductive sT where
 | add|w3|w4|nb|bH
inductive Tok where
 | nil
 | par (n pend:Nat) (aQ:sT)
 | ch (k:Nat) (mu:ml) (wg:uC)
structure Spec where
 a4:Option Nat
 av:List Nat->Γ->Prop
 D:Nat->Γ->Prop
 top:Nat
structure aW extends Spec where
 cr:Nat
 wk:Nat
 sv:Nat
 nw:Nat
 dm:Nat
 L:List Nat
 cnt:Nat
 wt:Nat
 cU:Nat
 R:List Nat
def zP:ml->Nat|.own|.dA _|.fin=>1|_=>0
def jf:Tok->Nat|.ch _ m _=>zP m|_=>0
def CJ:ml->Nat|.us|.wk|.hw=>1|_=>0
def oP:Tok->Nat|.ch _ m _=>CJ m|_=>0
def v5:ml->Nat|.act true=>1|_=>0
def nd:Tok->Nat|.ch _ m _=>v5 m|_=>0
def zQ:ml->Nat|.q=>1|_=>0
def mm:Tok->Nat|.ch _ m _=>zQ m|_=>0
def CK:ml->Nat|.hw=>1|_=>0
def n7:Tok->Nat|.ch _ m _=>CK m|_=>0
def GO:ml->Nat|.wk=>1|_=>0
def rL:Tok->Nat|.ch _ m _=>GO m|_=>0
def zR:ml->Nat|.wk|.hw=>1|_=>0
def mo:Tok->Nat|.ch _ m _=>zR m|_=>0
def GP:ml->Nat|.us=>1|_=>0
def rM:Tok->Nat|.ch _ m _=>GP m|_=>0
def CL:ml->Nat|.uc=>1|_=>0
def oQ:Tok->Nat|.ch _ m _=>CL m|_=>0
def sU:uC->Nat|.work|.rel=>1|_=>0
def jU:Tok->Nat|.ch _ _ g=>sU g|_=>0
def v7:uC->Nat|.l2=>1|_=>0
def kT:Tok->Nat|.ch _ _ g=>v7 g|_=>0
def v8:uC->Nat|.iw=>1|_=>0
def kU:Tok->Nat|.ch _ _ g=>v8 g|_=>0
def mq:Tok->Nat|.ch ..=>1|_=>0
def fc:Tok->Nat|.par ..=>1|_=>0
def h3:Tok->Nat|.par _ p _=>p|_=>0
def jg:Tok->Nat|.par n _ _=>n|_=>0
def nf:Tok->Nat|.par _ _ .add=>1|_=>0
def mr:Tok->Nat|.par _ _ .w3=>1|_=>0
def jh:Tok->Nat|.par _ _ .w4|.par _ _ .nb|.par _ _ .bH=>1|_=>0
def v9:ml->Nat
 | .idle=>20|.act false=>19|.act true=>18|.q=>12|.wk=>20|.hw=>19|.own=>14|.dA _=>13|.fin=>12|.uc=>11|.us=>10|.done=>0
def CM:uC->Nat
 | .work=>6|.rel=>5|.l2=>4|.iw=>3|.gone=>0
def x4:sT->Nat
 | .add=>8|.w3=>6|.w4=>3|.nb=>3|.bH=>0
def ng (top:Nat):Tok->Nat
 | .nil=>0
 | .par n p aQ=>(top-n)*100+p*50+x4 aQ
 | .ch _ m w=>v9 m+CM w
def bh (N:Nat) (τ:Nat->Tok) (φ:Tok->Nat):Nat:=sumTo N λi=>φ (τ i)
theorem g2 {N i:Nat} (τ:Nat->Tok) (t:Tok) (φ:Tok->Nat) (h:i<N):bh N (upd τ i t) φ+φ (τ i)=bh N τ φ+φ t:=sumTo_upd τ t φ h
theorem fO {N i:Nat} (τ:Nat->Tok) (φ:Tok->Nat) (h:i<N):φ (τ i)<=bh N τ φ:=le_sumTo (f:=λi=>φ (τ i)) h
def eZ (N:Nat) (o:aW) (τ:Nat->Tok):Nat:=bh N τ (ng o.top)+9*o.dm+2*o.cU
structure Tf (cr wk sv nw dm hold bn CN LR hw zS us uc Tg:Nat):Prop where
 f1:cr<=1
 f2:wk<=1
 f3:sv<=1
 LS:hold=cr
 jΥ:sv=0->bn+dm+CN=wk/\hw=0/\nw+us+dm=LR
 jΦ:sv=1->wk=0/\CN=0/\cr+bn+dm=1/\nw=LR+zS
 jΧ:sv=0->cr=0->0<nw->wk=0->0<uc
 jΨ:us+zS=bn
 jΩ:hw+Tg=zS
structure Ti (cnt wt cU top live l2 iw jV par pend n add w3 fin:Nat):Prop where
 f4:wt<=1
 oR:par=1
 GQ:cnt=pend+live
 LU:jV+pend=n
 kα:n<=top
 kβ:add=1->wt=0/\cU=0/\l2=0/\iw=0
 Tj:w3=1->pend=0/\((wt=1/\iw=0/\cU=0/\((cnt=0/\l2=1)\/(0<cnt/\l2=0)))\/(wt=0/\cnt=0/\l2=0/\iw+cU=1))
 LV:fin=1->pend=0/\wt=0/\cU=0/\cnt=0/\l2=0/\iw=0
 kγ:add+w3+fin=1
def qw (N:Nat) (o:aW) (τ:Nat->Tok):Prop:=
 Tf o.cr o.wk o.sv o.nw o.dm (bh N τ jf) (bh N τ oP) (bh N τ nd) (bh N τ mm) (bh N τ n7) (bh N τ mo) (bh N τ rM) (bh N τ oQ) (bh N τ rL)
def pC (N:Nat) (o:aW) (τ:Nat->Tok):Prop:=
 Ti o.cnt o.wt o.cU o.top (bh N τ jU) (bh N τ kT) (bh N τ kU) (bh N τ mq) (bh N τ fc) (bh N τ h3) (bh N τ jg) (bh N τ nf) (bh N τ mr) (bh N τ jh)
def uD (N:Nat) (o:aW) (τ:Nat->Tok):Prop:=qw N o τ/\pC N o τ
inductive Act:aW->Tok->aW->Tok->Prop where
 | Tk {o k}:o.cr=0->o.sv=0->o.wk=0->o.nw=0->Act o (.ch k .idle .work) {o with cr:=1} (.ch k .own .work)
 | Tl {o k}:Act o (.ch k .idle .work) o (.ch k (.act false) .work)
 | acq {o k aw}:o.cr=0->o.sv=0->Act o (.ch k (.act aw) .work) {o with cr:=1,wk:=if aw then 0 else o.wk} (.ch k .own .work)
 | Tm {o k}:o.wk=0->0<o.nw->o.cr=1->o.sv=0->Act o (.ch k (.act false) .work) {o with wk:=1} (.ch k (.act true) .work)
 | queue {o k aw} (st:Bool):(o.cr=1\/o.sv=1)->(st=true->aw=true/\o.cr=1)->Act o (.ch k (.act aw) .work) {o with nw:=o.nw+1,wk:=if aw then 0 else o.wk,sv:=if st then 1 else o.sv} (.ch k .q .work)
 | take {o k}:0<o.dm->Act o (.ch k .q .work) {o with dm:=o.dm-1} (.ch k .wk .work)
 | norm {o k}:o.sv=0->Act o (.ch k .wk .work) o (.ch k (.act true) .work)
 | hand {o k}:o.sv=1->Act o (.ch k .wk .work) o (.ch k .hw .work)
 | hacq {o k} (rN:Bool):Act o (.ch k .hw .work) {o with cr:=1,nw:=o.nw-1,sv:=if rN then 0 else 1} (.ch k .own .work)
 | Tn {o k}:o.sv=0->(o.nw=0\/o.wk=1)->Act o (.ch k .fin .work) {o with cr:=0} (.ch k .done .work)
 | To {o k}:o.sv=0->0<o.nw->o.wk=0->Act o (.ch k .fin .work) {o with cr:=0} (.ch k .uc .work)
 | Tp {o k}:o.sv=1->Act o (.ch k .fin .work) {o with cr:=0} (.ch k .us .work)
 | Tq {o k}:o.cr=0->o.wk=0->o.sv=0->0<o.nw->Act o (.ch k .uc .work) {o with nw:=o.nw-1,wk:=1} (.ch k .us .work)
 | Tr {o k}:(o.nw=0\/o.cr=1\/o.wk=1\/o.sv=1)->Act o (.ch k .uc .work) o (.ch k .done .work)
 | post {o k}:Act o (.ch k .us .work) {o with dm:=o.dm+1} (.ch k .done .work)
 | add {o n p}:n<o.top->Act o (.par n p .add) {o with cnt:=o.cnt+1} (.par (n+1) (p+1) .add)
 | thru {o n}:o.cnt=0->Act o (.par n 0 .add) o (.par n 0 .nb)
 | LW {o n}:0<o.cnt->Act o (.par n 0 .add) {o with wt:=1} (.par n 0 .w3)
 | wake {o n}:0<o.cU->Act o (.par n 0 .w3) {o with cU:=o.cU-1} (.par n 0 .w4)
 | Ts {o k m}:o.cnt=1->o.wt=1->Act o (.ch k m .rel) {o with cnt:=o.cnt-1} (.ch k m .l2)
 | Tt {o k m}:(1<o.cnt\/o.wt=0)->Act o (.ch k m .rel) {o with cnt:=o.cnt-1} (.ch k m .gone)
 | Tu {o k m}:Act o (.ch k m .l2) {o with wt:=0} (.ch k m .iw)
 | Tv {o k m}:Act o (.ch k m .iw) {o with cU:=o.cU+1} (.ch k m .gone)
inductive qx:aW->Tok->aW->Tok->Prop where
 | GR {o k}:qx o (.ch k .own .work) o (.ch k (.dA o.L) .work)
 | Tw {o k L}:qx o (.ch k (.dA L) .work) {o with L:=o.L++[k]} (.ch k .fin .work)
 | Tx {o k m}:(m=.done\/(m=.idle/\o.a4=none))->qx o (.ch k m .work) {o with R:=k::o.R} (.ch k m .rel)
 | gtake {o n aQ}:(aQ=.nb\/aQ=.w4)->qx o (.par n 0 aQ) o (.par n 0 .bH)
section
variable {N i:Nat} {o o':aW} {τ:Nat->Tok} {t t':Tok}
theorem qy {φ:Tok->Nat} (eS:∀t,fc t=0->φ t=0) (h:bh N τ fc=1) (hi:i<N) (ω:fc (τ i)=1):bh N τ φ=φ (τ i):=by
 have e:=g2 τ .nil fc hi
 have aP:=g2 τ .nil φ hi
 have z:fc .nil=0:=rfl;rw[h,ω,z] at e;rw[eS .nil rfl] at aP;have ao:bh N (upd τ i .nil) fc=0:=J;have:bh N (upd τ i .nil) φ=0:=by
  have g3:∀n,bh n (upd τ i .nil) fc=0->bh n (upd τ i .nil) φ=0:=λn=>by
   induction n with
   | zero=>exact λ_=>rfl
   | succ n Α=>
    intro Ψ;simp only[bh,sumTo] at Ψ Α ⊢;have:=Α J;have:=eS (upd τ i .nil n) J;omega
  exact g3 N ao
 omega
theorem Ty (h:qw N o τ) (hi:i<N) (Υ:τ i=t) (ν:Act o t o' t'):qw N o' (upd τ i t'):=by
 unfold qw at h ⊢;have cu:=g2 τ t' jf hi;have l0:=fO τ jf hi;have Ζ:=g2 τ t' oP hi;have l1:=fO τ oP hi;have Ε:=g2 τ t' nd hi;have l2:=fO τ nd hi;have a8:=g2 τ t' mm hi;have pD:=fO τ mm hi;have cR:=g2 τ t' n7 hi;have iw:=fO τ n7 hi;have fy:=g2 τ t' mo hi;have v':=fO τ mo hi;have mw:=g2 τ t' rM hi;have CO:=fO τ rM hi;have rO:=g2 τ t' oQ hi;have GU:=fO τ oQ hi;have GV:=g2 τ t' rL hi;have qz:=fO τ rL hi;rw[Υ] at GV qz cu l0 Ζ l1 Ε l2 a8 pD cR iw fy v' mw CO rO GU;generalize bh N (upd τ i t') jf=r0 at *;generalize bh N τ jf=oS at *;generalize bh N (upd τ i t') oP=r1 at *;generalize bh N τ oP=s1 at *;generalize bh N (upd τ i t') nd=r2 at *;generalize bh N τ nd=s2 at *;generalize bh N (upd τ i t') mm=r3 at *;generalize bh N τ mm=lu at *;generalize bh N (upd τ i t') n7=iM at *;generalize bh N τ n7=qA at *;generalize bh N (upd τ i t') mo=uE at *;generalize bh N τ mo=kV at *;generalize bh N (upd τ i t') rM=GW at *;generalize bh N τ rM=wa at *;generalize bh N (upd τ i t') oQ=Tz at *;generalize bh N τ oQ=TA at *;generalize bh N (upd τ i t') rL=TB at *;generalize bh N τ rL=zT at *;clear Υ hi;obtain⟨⟨a4,av,D,top⟩,cr,wk,sv,nw,dm,L,cnt,wt,cU,R⟩:=o;obtain⟨a1,bb,cP,ix,nh,wc,uF,zU,zV⟩:=h;cases ν<;>simp only[jf,oP,nd,mm,n7,mo,rM,oQ,rL,GO,zP,CJ,v5,zQ,CK,zR,GP,CL,Nat.add_zero,Nat.zero_add] at *
 case acq aw _ _=>cases aw<;>simp only[v5,if_true,if_false,Bool.false_eq_true] at *<;>constructor<;>omega
 case queue aw st _ cD=>
  cases aw<;>cases st<;>simp only[v5,if_true,if_false,Bool.false_eq_true,false_and,true_and,imp_false,not_true_eq_false,forall_const] at *<;>constructor<;>omega
 case hacq rN=>cases rN<;>simp only[if_true,if_false,Bool.false_eq_true] at *<;>constructor<;>omega
 all_goals (constructor<;>omega)
theorem TC (h:pC N o τ) (hi:i<N) (Υ:τ i=t) (ν:Act o t o' t'):pC N o' (upd τ i t'):=by
 unfold pC at h ⊢;have we:fc t=1->bh N τ jg=jg t:=λω=>by rw[qy (λt Υ=>by cases t<;>simp_all [fc,jg]) h.oR hi (by rw[Υ];exact ω),Υ]
 have pp:fc t=1->bh N τ h3=h3 t:=λω=>by rw[qy (λt Υ=>by cases t<;>simp_all [fc,h3]) h.oR hi (by rw[Υ];exact ω),Υ]
 have cu:=g2 τ t' jU hi;have l0:=fO τ jU hi
 have Ζ:=g2 τ t' kT hi;have l1:=fO τ kT hi
 have Ε:=g2 τ t' kU hi;have l2:=fO τ kU hi
 have a8:=g2 τ t' mq hi;have pD:=fO τ mq hi
 have cR:=g2 τ t' fc hi;have iw:=fO τ fc hi
 have fy:=g2 τ t' h3 hi;have v':=fO τ h3 hi
 have mw:=g2 τ t' jg hi;have CO:=fO τ jg hi
 have rO:=g2 τ t' nf hi;have GU:=fO τ nf hi
 have GV:=g2 τ t' mr hi;have qz:=fO τ mr hi
 have TD:=g2 τ t' jh hi;have TE:=fO τ jh hi;rw[Υ] at cu l0 Ζ l1 Ε l2 a8 pD cR iw fy v' mw CO rO GU GV qz TD TE;generalize bh N (upd τ i t') jU=r0 at *;generalize bh N τ jU=oS at *;generalize bh N (upd τ i t') kT=r1 at *;generalize bh N τ kT=s1 at *;generalize bh N (upd τ i t') kU=r2 at *;generalize bh N τ kU=s2 at *;generalize bh N (upd τ i t') mq=r3 at *;generalize bh N τ mq=lu at *;generalize bh N (upd τ i t') fc=iM at *;generalize bh N τ fc=qA at *;generalize bh N (upd τ i t') h3=uE at *;generalize bh N τ h3=kV at *;generalize bh N (upd τ i t') jg=GW at *;generalize bh N τ jg=wa at *;generalize bh N (upd τ i t') nf=Tz at *;generalize bh N τ nf=TA at *;generalize bh N (upd τ i t') mr=TB at *;generalize bh N τ mr=zT at *;generalize bh N (upd τ i t') jh=kδ at *;generalize bh N τ jh=kε at *;clear Υ hi;obtain⟨⟨a4,av,D,top⟩,cr,wk,sv,nw,dm,L,cnt,wt,cU,R⟩:=o;obtain⟨gJ,uF,zU,zV,GX,TF,TG,TH,TI⟩:=h;cases ν<;>simp only[jU,kT,kU,mq,fc,h3,jg,nf,mr,jh,sU,v7,v8,Nat.add_zero,Nat.zero_add,forall_const] at *
 all_goals (constructor<;>omega)
end
end Go.TL
