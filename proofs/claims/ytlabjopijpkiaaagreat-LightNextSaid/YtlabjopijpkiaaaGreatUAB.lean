import Derived.Conc.CrowdBase
import Derived.Test.YtlabjopijpkiaaaGreatUAA
set_option maxHeartbeats 16000000
set_option maxRecDepth 20000
set_option linter.unusedSectionVars false
set_option linter.unusedSimpArgs false
set_option linter.unusedVariables false
namespace Go.TL
open Go.Conc
open Go.ConcN (sumTo upd sumTo_upd upd_ne upd_same sumTo_congr le_sumTo)
inductive lH where
 | idle|act (aw:Bool)|q|wk|hw|own|dh (L:List Nat)|fin|uc|us|done
inductive tB where
 | work|rel|l2|hN|gone
inductive sf where
 | add|w3|w4|mm|bB
inductive Tok where
 | nil
 | par (n pend:Nat) (aJ:sf)
 | ch (k:Nat) (mu:lH) (wg:tB)
structure Spec where
 aW:Option Nat
 aN:List Nat->χ->Prop
 D:Nat->χ->Prop
 top:Nat
structure aP extends Spec where
 ck:Nat
 wk:Nat
 sv:Nat
 nw:Nat
 c7:Nat
 L:List Nat
 cnt:Nat
 wt:Nat
 cL:Nat
 ah:List Nat
def za:lH->Nat|.own|.dh _|.fin=>1|_=>0
def ia:Tok->Nat|.ch _ m _=>za m|_=>0
def B9:lH->Nat|.us|.wk|.hw=>1|_=>0
def nW:Tok->Nat|.ch _ m _=>B9 m|_=>0
def vd:lH->Nat|.act true=>1|_=>0
def mo:Tok->Nat|.ch _ m _=>vd m|_=>0
def zb:lH->Nat|.q=>1|_=>0
def lI:Tok->Nat|.ch _ m _=>zb m|_=>0
def Ca:lH->Nat|.hw=>1|_=>0
def ng:Tok->Nat|.ch _ m _=>Ca m|_=>0
def Gp:lH->Nat|.wk=>1|_=>0
def qX:Tok->Nat|.ch _ m _=>Gp m|_=>0
def zc:lH->Nat|.wk|.hw=>1|_=>0
def lJ:Tok->Nat|.ch _ m _=>zc m|_=>0
def Gq:lH->Nat|.us=>1|_=>0
def qY:Tok->Nat|.ch _ m _=>Gq m|_=>0
def Cb:lH->Nat|.uc=>1|_=>0
def nX:Tok->Nat|.ch _ m _=>Cb m|_=>0
def sg:tB->Nat|.work|.rel=>1|_=>0
def i':Tok->Nat|.ch _ _ g=>sg g|_=>0
def ve:tB->Nat|.l2=>1|_=>0
def j3:Tok->Nat|.ch _ _ g=>ve g|_=>0
def vf:tB->Nat|.hN=>1|_=>0
def j4:Tok->Nat|.ch _ _ g=>vf g|_=>0
def lK:Tok->Nat|.ch ..=>1|_=>0
def eV:Tok->Nat|.par ..=>1|_=>0
def hn:Tok->Nat|.par _ p _=>p|_=>0
def ib:Tok->Nat|.par n _ _=>n|_=>0
def mq:Tok->Nat|.par _ _ .add=>1|_=>0
def lL:Tok->Nat|.par _ _ .w3=>1|_=>0
def ic:Tok->Nat|.par _ _ .w4|.par _ _ .mm|.par _ _ .bB=>1|_=>0
def vg:lH->Nat
 | .idle=>20|.act false=>19|.act true=>18|.q=>12|.wk=>20|.hw=>19|.own=>14|.dh _=>13|.fin=>12|.uc=>11|.us=>10|.done=>0
def Cc:tB->Nat
 | .work=>6|.rel=>5|.l2=>4|.hN=>3|.gone=>0
def xj:sf->Nat
 | .add=>8|.w3=>6|.w4=>3|.mm=>3|.bB=>0
def mr (top:Nat):Tok->Nat
 | .nil=>0
 | .par n p aJ=>(top-n)*100+p*50+xj aJ
 | .ch _ m w=>vg m+Cc w
def a' (N:Nat) (τ:Nat->Tok) (φ:Tok->Nat):Nat:=sumTo N λi=>φ (τ i)
theorem gA {N i:Nat} (τ:Nat->Tok) (t:Tok) (φ:Tok->Nat) (h:i<N):a' N (upd τ i t) φ+φ (τ i)=a' N τ φ+φ t:=sumTo_upd τ t φ h
theorem fv {N i:Nat} (τ:Nat->Tok) (φ:Tok->Nat) (h:i<N):φ (τ i)<=a' N τ φ:=le_sumTo (f:=λi=>φ (τ i)) h
def eH (N:Nat) (o:aP) (τ:Nat->Tok):Nat:=a' N τ (mr o.top)+9*o.c7+2*o.cL
structure Tg (ck wk sv nw c7 hold bj Cd LM hw zd us uc Ti:Nat):Prop where
 f1:ck<=1
 f2:wk<=1
 f3:sv<=1
 LN:hold=ck
 iΩ:sv=0->bj+c7+Cd=wk/\hw=0/\nw+us+c7=LM
 jα:sv=1->wk=0/\Cd=0/\ck+bj+c7=1/\nw=LM+zd
 jβ:sv=0->ck=0->0<nw->wk=0->0<uc
 jγ:us+zd=bj
 jδ:hw+Ti=zd
structure Tj (cnt wt cL top live l2 hN ja par pend n add w3 fin:Nat):Prop where
 f4:wt<=1
 nY:par=1
 Gr:cnt=pend+live
 LO:ja+pend=n
 jε:n<=top
 jζ:add=1->wt=0/\cL=0/\l2=0/\hN=0
 Tk:w3=1->pend=0/\((wt=1/\hN=0/\cL=0/\((cnt=0/\l2=1)\/(0<cnt/\l2=0)))\/(wt=0/\cnt=0/\l2=0/\hN+cL=1))
 LP:fin=1->pend=0/\wt=0/\cL=0/\cnt=0/\l2=0/\hN=0
 jη:add+w3+fin=1
def pP (N:Nat) (o:aP) (τ:Nat->Tok):Prop:=
 Tg o.ck o.wk o.sv o.nw o.c7 (a' N τ ia) (a' N τ nW) (a' N τ mo) (a' N τ lI) (a' N τ ng) (a' N τ lJ) (a' N τ qY) (a' N τ nX) (a' N τ qX)
def oL (N:Nat) (o:aP) (τ:Nat->Tok):Prop:=
 Tj o.cnt o.wt o.cL o.top (a' N τ i') (a' N τ j3) (a' N τ j4) (a' N τ lK) (a' N τ eV) (a' N τ hn) (a' N τ ib) (a' N τ mq) (a' N τ lL) (a' N τ ic)
def tC (N:Nat) (o:aP) (τ:Nat->Tok):Prop:=pP N o τ/\oL N o τ
inductive Act:aP->Tok->aP->Tok->Prop where
 | Tl {o k}:o.ck=0->o.sv=0->o.wk=0->o.nw=0->Act o (.ch k .idle .work) {o with ck:=1} (.ch k .own .work)
 | Tm {o k}:Act o (.ch k .idle .work) o (.ch k (.act false) .work)
 | acq {o k aw}:o.ck=0->o.sv=0->Act o (.ch k (.act aw) .work) {o with ck:=1,wk:=if aw then 0 else o.wk} (.ch k .own .work)
 | Tn {o k}:o.wk=0->0<o.nw->o.ck=1->o.sv=0->Act o (.ch k (.act false) .work) {o with wk:=1} (.ch k (.act true) .work)
 | queue {o k aw} (st:Bool):(o.ck=1\/o.sv=1)->(st=true->aw=true/\o.ck=1)->Act o (.ch k (.act aw) .work) {o with nw:=o.nw+1,wk:=if aw then 0 else o.wk,sv:=if st then 1 else o.sv} (.ch k .q .work)
 | take {o k}:0<o.c7->Act o (.ch k .q .work) {o with c7:=o.c7-1} (.ch k .wk .work)
 | norm {o k}:o.sv=0->Act o (.ch k .wk .work) o (.ch k (.act true) .work)
 | hand {o k}:o.sv=1->Act o (.ch k .wk .work) o (.ch k .hw .work)
 | hacq {o k} (qZ:Bool):Act o (.ch k .hw .work) {o with ck:=1,nw:=o.nw-1,sv:=if qZ then 0 else 1} (.ch k .own .work)
 | To {o k}:o.sv=0->(o.nw=0\/o.wk=1)->Act o (.ch k .fin .work) {o with ck:=0} (.ch k .done .work)
 | Tp {o k}:o.sv=0->0<o.nw->o.wk=0->Act o (.ch k .fin .work) {o with ck:=0} (.ch k .uc .work)
 | Tq {o k}:o.sv=1->Act o (.ch k .fin .work) {o with ck:=0} (.ch k .us .work)
 | Tr {o k}:o.ck=0->o.wk=0->o.sv=0->0<o.nw->Act o (.ch k .uc .work) {o with nw:=o.nw-1,wk:=1} (.ch k .us .work)
 | Ts {o k}:(o.nw=0\/o.ck=1\/o.wk=1\/o.sv=1)->Act o (.ch k .uc .work) o (.ch k .done .work)
 | post {o k}:Act o (.ch k .us .work) {o with c7:=o.c7+1} (.ch k .done .work)
 | add {o n p}:n<o.top->Act o (.par n p .add) {o with cnt:=o.cnt+1} (.par (n+1) (p+1) .add)
 | thru {o n}:o.cnt=0->Act o (.par n 0 .add) o (.par n 0 .mm)
 | LQ {o n}:0<o.cnt->Act o (.par n 0 .add) {o with wt:=1} (.par n 0 .w3)
 | wake {o n}:0<o.cL->Act o (.par n 0 .w3) {o with cL:=o.cL-1} (.par n 0 .w4)
 | Tt {o k m}:o.cnt=1->o.wt=1->Act o (.ch k m .rel) {o with cnt:=o.cnt-1} (.ch k m .l2)
 | Tu {o k m}:(1<o.cnt\/o.wt=0)->Act o (.ch k m .rel) {o with cnt:=o.cnt-1} (.ch k m .gone)
 | Tv {o k m}:Act o (.ch k m .l2) {o with wt:=0} (.ch k m .hN)
 | Tw {o k m}:Act o (.ch k m .hN) {o with cL:=o.cL+1} (.ch k m .gone)
inductive pQ:aP->Tok->aP->Tok->Prop where
 | Gs {o k}:pQ o (.ch k .own .work) o (.ch k (.dh o.L) .work)
 | Tx {o k L}:pQ o (.ch k (.dh L) .work) {o with L:=o.L++[k]} (.ch k .fin .work)
 | Ty {o k m}:(m=.done\/(m=.idle/\o.aW=none))->pQ o (.ch k m .work) {o with ah:=k::o.ah} (.ch k m .rel)
 | gtake {o n aJ}:(aJ=.mm\/aJ=.w4)->pQ o (.par n 0 aJ) o (.par n 0 .bB)
section
variable {N i:Nat} {o o':aP} {τ:Nat->Tok} {t t':Tok}
theorem pR {φ:Tok->Nat} (ey:∀t,eV t=0->φ t=0) (h:a' N τ eV=1) (hi:i<N) (ψ:eV (τ i)=1):a' N τ φ=φ (τ i):=by
 have e:=gA τ .nil eV hi
 have aM:=gA τ .nil φ hi
 have z:eV .nil=0:=rfl;rw[h,ψ,z] at e;rw[ey .nil rfl] at aM;have ai:a' N (upd τ i .nil) eV=0:=R;have:a' N (upd τ i .nil) φ=0:=by
  have hY:∀n,a' n (upd τ i .nil) eV=0->a' n (upd τ i .nil) φ=0:=λn=>by
   induction n with
   | zero=>exact λ_=>rfl
   | succ n Β=>
    intro Θ;simp only[a',sumTo] at Θ Β ⊢;have:=Β R;have:=ey (upd τ i .nil n) R;omega
  exact hY N ai
 omega
theorem Tz (h:pP N o τ) (hi:i<N) (Ν:τ i=t) (μ:Act o t o' t'):pP N o' (upd τ i t'):=by
 unfold pP at h ⊢;have cD:=gA τ t' ia hi;have l0:=fv τ ia hi;have Δ:=gA τ t' nW hi;have l1:=fv τ nW hi;have Γ:=gA τ t' mo hi;have l2:=fv τ mo hi;have a0:=gA τ t' lI hi;have oM:=fv τ lI hi;have cG:=gA τ t' ng hi;have hN:=fv τ ng hi;have e':=gA τ t' lJ hi;have vh:=fv τ lJ hi;have lM:=gA τ t' qY hi;have Ce:=fv τ qY hi;have q0:=gA τ t' nX hi;have Gt:=fv τ nX hi;have Gu:=gA τ t' qX hi;have vi:=fv τ qX hi;rw[Ν] at Gu vi cD l0 Δ l1 Γ l2 a0 oM cG hN e' vh lM Ce q0 Gt;generalize a' N (upd τ i t') ia=r0 at *;generalize a' N τ ia=nZ at *;generalize a' N (upd τ i t') nW=r1 at *;generalize a' N τ nW=s1 at *;generalize a' N (upd τ i t') mo=r2 at *;generalize a' N τ mo=s2 at *;generalize a' N (upd τ i t') lI=r3 at *;generalize a' N τ lI=oN at *;generalize a' N (upd τ i t') ng=jb at *;generalize a' N τ ng=vj at *;generalize a' N (upd τ i t') lJ=ze at *;generalize a' N τ lJ=oO at *;generalize a' N (upd τ i t') qY=Gv at *;generalize a' N τ qY=Cf at *;generalize a' N (upd τ i t') nX=TA at *;generalize a' N τ nX=TB at *;generalize a' N (upd τ i t') qX=TC at *;generalize a' N τ qX=zf at *;clear Ν hi;obtain⟨⟨aW,aN,D,top⟩,ck,wk,sv,nw,c7,L,cnt,wt,cL,ah⟩:=o;obtain⟨a1,bk,cz,hO,mw,vk,tD,zg,zh⟩:=h;cases μ<;>simp only[ia,nW,mo,lI,ng,lJ,qY,nX,qX,Gp,za,B9,vd,zb,Ca,zc,Gq,Cb,Nat.add_zero,Nat.zero_add] at *
 case acq aw _ _=>cases aw<;>simp only[vd,if_true,if_false,Bool.false_eq_true] at *<;>constructor<;>omega
 case queue aw st _ cH=>
  cases aw<;>cases st<;>simp only[vd,if_true,if_false,Bool.false_eq_true,false_and,true_and,imp_false,not_true_eq_false,forall_const] at *<;>constructor<;>omega
 case hacq qZ=>cases qZ<;>simp only[if_true,if_false,Bool.false_eq_true] at *<;>constructor<;>omega
 all_goals (constructor<;>omega)
theorem TD (h:oL N o τ) (hi:i<N) (Ν:τ i=t) (μ:Act o t o' t'):oL N o' (upd τ i t'):=by
 unfold oL at h ⊢;have vl:eV t=1->a' N τ ib=ib t:=λψ=>by rw[pR (λt Ν=>by cases t<;>simp_all [eV,ib]) h.nY hi (by rw[Ν];exact ψ),Ν]
 have pp:eV t=1->a' N τ hn=hn t:=λψ=>by rw[pR (λt Ν=>by cases t<;>simp_all [eV,hn]) h.nY hi (by rw[Ν];exact ψ),Ν]
 have cD:=gA τ t' i' hi;have l0:=fv τ i' hi
 have Δ:=gA τ t' j3 hi;have l1:=fv τ j3 hi
 have Γ:=gA τ t' j4 hi;have l2:=fv τ j4 hi
 have a0:=gA τ t' lK hi;have oM:=fv τ lK hi
 have cG:=gA τ t' eV hi;have hN:=fv τ eV hi
 have e':=gA τ t' hn hi;have vh:=fv τ hn hi
 have lM:=gA τ t' ib hi;have Ce:=fv τ ib hi
 have q0:=gA τ t' mq hi;have Gt:=fv τ mq hi
 have Gu:=gA τ t' lL hi;have vi:=fv τ lL hi
 have TE:=gA τ t' ic hi;have TF:=fv τ ic hi;rw[Ν] at cD l0 Δ l1 Γ l2 a0 oM cG hN e' vh lM Ce q0 Gt Gu vi TE TF;generalize a' N (upd τ i t') i'=r0 at *;generalize a' N τ i'=nZ at *;generalize a' N (upd τ i t') j3=r1 at *;generalize a' N τ j3=s1 at *;generalize a' N (upd τ i t') j4=r2 at *;generalize a' N τ j4=s2 at *;generalize a' N (upd τ i t') lK=r3 at *;generalize a' N τ lK=oN at *;generalize a' N (upd τ i t') eV=jb at *;generalize a' N τ eV=vj at *;generalize a' N (upd τ i t') hn=ze at *;generalize a' N τ hn=oO at *;generalize a' N (upd τ i t') ib=Gv at *;generalize a' N τ ib=Cf at *;generalize a' N (upd τ i t') mq=TA at *;generalize a' N τ mq=TB at *;generalize a' N (upd τ i t') lL=TC at *;generalize a' N τ lL=zf at *;generalize a' N (upd τ i t') ic=jθ at *;generalize a' N τ ic=jι at *;clear Ν hi;obtain⟨⟨aW,aN,D,top⟩,ck,wk,sv,nw,c7,L,cnt,wt,cL,ah⟩:=o;obtain⟨gm,tD,zg,zh,Gw,TG,TH,TI,TJ⟩:=h;cases μ<;>simp only[i',j3,j4,lK,eV,hn,ib,mq,lL,ic,sg,ve,vf,Nat.add_zero,Nat.zero_add,forall_const] at *
 all_goals (constructor<;>omega)
end
end Go.TL
