import Derived.Conc.CrowdBase
import Derived.Test.YtlabjopijpkiaaaGreatVAA
set_option maxHeartbeats 16000000
set_option maxRecDepth 20000
set_option linter.unusedSectionVars false
set_option linter.unusedSimpArgs false
set_option linter.unusedVariables false
namespace Go.TL
open Go.Conc
open Go.ConcN (sumTo upd sumTo_upd upd_ne upd_same sumTo_congr le_sumTo)
inductive lG where
 | idle|act (aw:Bool)|q|wk|hw|own|dr (L:List Nat)|fin|uc|us|done
inductive tm where
 | work|rel|l2|hS|gone
inductive rX where
 | add|w3|w4|mj|bB
inductive Tok where
 | nil
 | par (n pend:Nat) (aL:rX)
 | ch (k:Nat) (mu:lG) (wg:tm)
structure Spec where
 aW:Option Nat
 an:List Nat->χ->Prop
 D:Nat->χ->Prop
 top:Nat
structure aS extends Spec where
 ck:Nat
 wk:Nat
 sv:Nat
 nw:Nat
 dd:Nat
 L:List Nat
 cnt:Nat
 wt:Nat
 cO:Nat
 al:List Nat
def yR:lG->Nat|.own|.dr _|.fin=>1|_=>0
def iy:Tok->Nat|.ch _ m _=>yR m|_=>0
def BF:lG->Nat|.us|.wk|.hw=>1|_=>0
def nX:Tok->Nat|.ch _ m _=>BF m|_=>0
def uX:lG->Nat|.act true=>1|_=>0
def ml:Tok->Nat|.ch _ m _=>uX m|_=>0
def yS:lG->Nat|.q=>1|_=>0
def lH:Tok->Nat|.ch _ m _=>yS m|_=>0
def BG:lG->Nat|.hw=>1|_=>0
def nh:Tok->Nat|.ch _ m _=>BG m|_=>0
def FC:lG->Nat|.wk=>1|_=>0
def qJ:Tok->Nat|.ch _ m _=>FC m|_=>0
def yT:lG->Nat|.wk|.hw=>1|_=>0
def lI:Tok->Nat|.ch _ m _=>yT m|_=>0
def FD:lG->Nat|.us=>1|_=>0
def qK:Tok->Nat|.ch _ m _=>FD m|_=>0
def BH:lG->Nat|.uc=>1|_=>0
def nY:Tok->Nat|.ch _ m _=>BH m|_=>0
def rY:tm->Nat|.work|.rel=>1|_=>0
def jr:Tok->Nat|.ch _ _ g=>rY g|_=>0
def uY:tm->Nat|.l2=>1|_=>0
def kg:Tok->Nat|.ch _ _ g=>uY g|_=>0
def uZ:tm->Nat|.hS=>1|_=>0
def kh:Tok->Nat|.ch _ _ g=>uZ g|_=>0
def lJ:Tok->Nat|.ch ..=>1|_=>0
def eX:Tok->Nat|.par ..=>1|_=>0
def hr:Tok->Nat|.par _ p _=>p|_=>0
def iz:Tok->Nat|.par n _ _=>n|_=>0
def mm:Tok->Nat|.par _ _ .add=>1|_=>0
def lK:Tok->Nat|.par _ _ .w3=>1|_=>0
def iA:Tok->Nat|.par _ _ .w4|.par _ _ .mj|.par _ _ .bB=>1|_=>0
def u1:lG->Nat
 | .idle=>20|.act false=>19|.act true=>18|.q=>12|.wk=>20|.hw=>19|.own=>14|.dr _=>13|.fin=>12|.uc=>11|.us=>10|.done=>0
def BI:tm->Nat
 | .work=>6|.rel=>5|.l2=>4|.hS=>3|.gone=>0
def wX:rX->Nat
 | .add=>8|.w3=>6|.w4=>3|.mj=>3|.bB=>0
def mo (top:Nat):Tok->Nat
 | .nil=>0
 | .par n p aL=>(top-n)*100+p*50+wX aL
 | .ch _ m w=>u1 m+BI w
def a8 (N:Nat) (τ:Nat->Tok) (φ:Tok->Nat):Nat:=sumTo N λi=>φ (τ i)
theorem gI {N i:Nat} (τ:Nat->Tok) (t:Tok) (φ:Tok->Nat) (h:i<N):a8 N (upd τ i t) φ+φ (τ i)=a8 N τ φ+φ t:=sumTo_upd τ t φ h
theorem fy {N i:Nat} (τ:Nat->Tok) (φ:Tok->Nat) (h:i<N):φ (τ i)<=a8 N τ φ:=le_sumTo (f:=λi=>φ (τ i)) h
def eK (N:Nat) (o:aS) (τ:Nat->Tok):Nat:=a8 N τ (mo o.top)+9*o.dd+2*o.cO
structure Rp (ck wk sv nw dd hold bh BJ Ku hw yU us uc Rq:Nat):Prop where
 f1:ck<=1
 f2:wk<=1
 f3:sv<=1
 Kv:hold=ck
 gφ:sv=0->bh+dd+BJ=wk/\hw=0/\nw+us+dd=Ku
 gχ:sv=1->wk=0/\BJ=0/\ck+bh+dd=1/\nw=Ku+yU
 gψ:sv=0->ck=0->0<nw->wk=0->0<uc
 gω:us+yU=bh
 gΑ:hw+Rq=yU
structure Rr (cnt wt cO top live l2 hS js par pend n add w3 fin:Nat):Prop where
 f4:wt<=1
 nZ:par=1
 FE:cnt=pend+live
 Kw:js+pend=n
 gΒ:n<=top
 gΓ:add=1->wt=0/\cO=0/\l2=0/\hS=0
 Rs:w3=1->pend=0/\((wt=1/\hS=0/\cO=0/\((cnt=0/\l2=1)\/(0<cnt/\l2=0)))\/(wt=0/\cnt=0/\l2=0/\hS+cO=1))
 Kx:fin=1->pend=0/\wt=0/\cO=0/\cnt=0/\l2=0/\hS=0
 gΔ:add+w3+fin=1
def px (N:Nat) (o:aS) (τ:Nat->Tok):Prop:=
 Rp o.ck o.wk o.sv o.nw o.dd (a8 N τ iy) (a8 N τ nX) (a8 N τ ml) (a8 N τ lH) (a8 N τ nh) (a8 N τ lI) (a8 N τ qK) (a8 N τ nY) (a8 N τ qJ)
def oC (N:Nat) (o:aS) (τ:Nat->Tok):Prop:=
 Rr o.cnt o.wt o.cO o.top (a8 N τ jr) (a8 N τ kg) (a8 N τ kh) (a8 N τ lJ) (a8 N τ eX) (a8 N τ hr) (a8 N τ iz) (a8 N τ mm) (a8 N τ lK) (a8 N τ iA)
def tn (N:Nat) (o:aS) (τ:Nat->Tok):Prop:=px N o τ/\oC N o τ
inductive Act:aS->Tok->aS->Tok->Prop where
 | Rt {o k}:o.ck=0->o.sv=0->o.wk=0->o.nw=0->Act o (.ch k .idle .work) {o with ck:=1} (.ch k .own .work)
 | Ru {o k}:Act o (.ch k .idle .work) o (.ch k (.act false) .work)
 | acq {o k aw}:o.ck=0->o.sv=0->Act o (.ch k (.act aw) .work) {o with ck:=1,wk:=if aw then 0 else o.wk} (.ch k .own .work)
 | Rv {o k}:o.wk=0->0<o.nw->o.ck=1->o.sv=0->Act o (.ch k (.act false) .work) {o with wk:=1} (.ch k (.act true) .work)
 | queue {o k aw} (st:Bool):(o.ck=1\/o.sv=1)->(st=true->aw=true/\o.ck=1)->Act o (.ch k (.act aw) .work) {o with nw:=o.nw+1,wk:=if aw then 0 else o.wk,sv:=if st then 1 else o.sv} (.ch k .q .work)
 | take {o k}:0<o.dd->Act o (.ch k .q .work) {o with dd:=o.dd-1} (.ch k .wk .work)
 | norm {o k}:o.sv=0->Act o (.ch k .wk .work) o (.ch k (.act true) .work)
 | hand {o k}:o.sv=1->Act o (.ch k .wk .work) o (.ch k .hw .work)
 | hacq {o k} (qL:Bool):Act o (.ch k .hw .work) {o with ck:=1,nw:=o.nw-1,sv:=if qL then 0 else 1} (.ch k .own .work)
 | Rw {o k}:o.sv=0->(o.nw=0\/o.wk=1)->Act o (.ch k .fin .work) {o with ck:=0} (.ch k .done .work)
 | Rx {o k}:o.sv=0->0<o.nw->o.wk=0->Act o (.ch k .fin .work) {o with ck:=0} (.ch k .uc .work)
 | Ry {o k}:o.sv=1->Act o (.ch k .fin .work) {o with ck:=0} (.ch k .us .work)
 | Rz {o k}:o.ck=0->o.wk=0->o.sv=0->0<o.nw->Act o (.ch k .uc .work) {o with nw:=o.nw-1,wk:=1} (.ch k .us .work)
 | RA {o k}:(o.nw=0\/o.ck=1\/o.wk=1\/o.sv=1)->Act o (.ch k .uc .work) o (.ch k .done .work)
 | post {o k}:Act o (.ch k .us .work) {o with dd:=o.dd+1} (.ch k .done .work)
 | add {o n p}:n<o.top->Act o (.par n p .add) {o with cnt:=o.cnt+1} (.par (n+1) (p+1) .add)
 | thru {o n}:o.cnt=0->Act o (.par n 0 .add) o (.par n 0 .mj)
 | Ky {o n}:0<o.cnt->Act o (.par n 0 .add) {o with wt:=1} (.par n 0 .w3)
 | wake {o n}:0<o.cO->Act o (.par n 0 .w3) {o with cO:=o.cO-1} (.par n 0 .w4)
 | RB {o k m}:o.cnt=1->o.wt=1->Act o (.ch k m .rel) {o with cnt:=o.cnt-1} (.ch k m .l2)
 | RD {o k m}:(1<o.cnt\/o.wt=0)->Act o (.ch k m .rel) {o with cnt:=o.cnt-1} (.ch k m .gone)
 | RE {o k m}:Act o (.ch k m .l2) {o with wt:=0} (.ch k m .hS)
 | RF {o k m}:Act o (.ch k m .hS) {o with cO:=o.cO+1} (.ch k m .gone)
inductive py:aS->Tok->aS->Tok->Prop where
 | FF {o k}:py o (.ch k .own .work) o (.ch k (.dr o.L) .work)
 | RG {o k L}:py o (.ch k (.dr L) .work) {o with L:=o.L++[k]} (.ch k .fin .work)
 | RH {o k m}:(m=.done\/(m=.idle/\o.aW=none))->py o (.ch k m .work) {o with al:=k::o.al} (.ch k m .rel)
 | gtake {o n aL}:(aL=.mj\/aL=.w4)->py o (.par n 0 aL) o (.par n 0 .bB)
section
variable {N i:Nat} {o o':aS} {τ:Nat->Tok} {t t':Tok}
theorem pz {φ:Tok->Nat} (eD:∀t,eX t=0->φ t=0) (h:a8 N τ eX=1) (hi:i<N) (ψ:eX (τ i)=1):a8 N τ φ=φ (τ i):=by
 have e:=gI τ .nil eX hi
 have aQ:=gI τ .nil φ hi
 have z:eX .nil=0:=rfl;rw[h,ψ,z] at e;rw[eD .nil rfl] at aQ;have aj:a8 N (upd τ i .nil) eX=0:=R;have:a8 N (upd τ i .nil) φ=0:=by
  have h7:∀n,a8 n (upd τ i .nil) eX=0->a8 n (upd τ i .nil) φ=0:=λn=>by
   induction n with
   | zero=>exact λ_=>rfl
   | succ n Β=>
    intro Τ;simp only[a8,sumTo] at Τ Β ⊢;have:=Β R;have:=eD (upd τ i .nil n) R;omega
  exact h7 N aj
 omega
theorem RI (h:px N o τ) (hi:i<N) (Ν:τ i=t) (κ:Act o t o' t'):px N o' (upd τ i t'):=by
 unfold px at h ⊢;have cl:=gI τ t' iy hi;have l0:=fy τ iy hi;have Δ:=gI τ t' nX hi;have l1:=fy τ nX hi;have Γ:=gI τ t' ml hi;have l2:=fy τ ml hi;have a2:=gI τ t' lH hi;have oD:=fy τ lH hi;have cL:=gI τ t' nh hi;have hS:=fy τ nh hi;have fa:=gI τ t' lI hi;have u2:=fy τ lI hi;have lL:=gI τ t' qK hi;have BK:=fy τ qK hi;have qM:=gI τ t' nY hi;have FG:=fy τ nY hi;have FH:=gI τ t' qJ hi;have pA:=fy τ qJ hi;rw[Ν] at FH pA cl l0 Δ l1 Γ l2 a2 oD cL hS fa u2 lL BK qM FG;generalize a8 N (upd τ i t') iy=r0 at *;generalize a8 N τ iy=n0 at *;generalize a8 N (upd τ i t') nX=r1 at *;generalize a8 N τ nX=s1 at *;generalize a8 N (upd τ i t') ml=r2 at *;generalize a8 N τ ml=s2 at *;generalize a8 N (upd τ i t') lH=r3 at *;generalize a8 N τ lH=kD at *;generalize a8 N (upd τ i t') nh=ju at *;generalize a8 N τ nh=pB at *;generalize a8 N (upd τ i t') lI=yV at *;generalize a8 N τ lI=ki at *;generalize a8 N (upd τ i t') qK=FI at *;generalize a8 N τ qK=u3 at *;generalize a8 N (upd τ i t') nY=RJ at *;generalize a8 N τ nY=RK at *;generalize a8 N (upd τ i t') qJ=RL at *;generalize a8 N τ qJ=yW at *;clear Ν hi;obtain⟨⟨aW,an,D,top⟩,ck,wk,sv,nw,dd,L,cnt,wt,cO,al⟩:=o;obtain⟨a1,bd,cI,hT,mq,u4,tp,yX,yY⟩:=h;cases κ<;>simp only[iy,nX,ml,lH,nh,lI,qK,nY,qJ,FC,yR,BF,uX,yS,BG,yT,FD,BH,Nat.add_zero,Nat.zero_add] at *
 case acq aw _ _=>cases aw<;>simp only[uX,if_true,if_false,Bool.false_eq_true] at *<;>constructor<;>omega
 case queue aw st _ cF=>
  cases aw<;>cases st<;>simp only[uX,if_true,if_false,Bool.false_eq_true,false_and,true_and,imp_false,not_true_eq_false,forall_const] at *<;>constructor<;>omega
 case hacq qL=>cases qL<;>simp only[if_true,if_false,Bool.false_eq_true] at *<;>constructor<;>omega
 all_goals (constructor<;>omega)
theorem RN (h:oC N o τ) (hi:i<N) (Ν:τ i=t) (κ:Act o t o' t'):oC N o' (upd τ i t'):=by
 unfold oC at h ⊢;have u5:eX t=1->a8 N τ iz=iz t:=λψ=>by rw[pz (λt Ν=>by cases t<;>simp_all [eX,iz]) h.nZ hi (by rw[Ν];exact ψ),Ν]
 have pp:eX t=1->a8 N τ hr=hr t:=λψ=>by rw[pz (λt Ν=>by cases t<;>simp_all [eX,hr]) h.nZ hi (by rw[Ν];exact ψ),Ν]
 have cl:=gI τ t' jr hi;have l0:=fy τ jr hi
 have Δ:=gI τ t' kg hi;have l1:=fy τ kg hi
 have Γ:=gI τ t' kh hi;have l2:=fy τ kh hi
 have a2:=gI τ t' lJ hi;have oD:=fy τ lJ hi
 have cL:=gI τ t' eX hi;have hS:=fy τ eX hi
 have fa:=gI τ t' hr hi;have u2:=fy τ hr hi
 have lL:=gI τ t' iz hi;have BK:=fy τ iz hi
 have qM:=gI τ t' mm hi;have FG:=fy τ mm hi
 have FH:=gI τ t' lK hi;have pA:=fy τ lK hi
 have RO:=gI τ t' iA hi;have RP:=fy τ iA hi;rw[Ν] at cl l0 Δ l1 Γ l2 a2 oD cL hS fa u2 lL BK qM FG FH pA RO RP;generalize a8 N (upd τ i t') jr=r0 at *;generalize a8 N τ jr=n0 at *;generalize a8 N (upd τ i t') kg=r1 at *;generalize a8 N τ kg=s1 at *;generalize a8 N (upd τ i t') kh=r2 at *;generalize a8 N τ kh=s2 at *;generalize a8 N (upd τ i t') lJ=r3 at *;generalize a8 N τ lJ=kD at *;generalize a8 N (upd τ i t') eX=ju at *;generalize a8 N τ eX=pB at *;generalize a8 N (upd τ i t') hr=yV at *;generalize a8 N τ hr=ki at *;generalize a8 N (upd τ i t') iz=FI at *;generalize a8 N τ iz=u3 at *;generalize a8 N (upd τ i t') mm=RJ at *;generalize a8 N τ mm=RK at *;generalize a8 N (upd τ i t') lK=RL at *;generalize a8 N τ lK=yW at *;generalize a8 N (upd τ i t') iA=gΕ at *;generalize a8 N τ iA=gΖ at *;clear Ν hi;obtain⟨⟨aW,an,D,top⟩,ck,wk,sv,nw,dd,L,cnt,wt,cO,al⟩:=o;obtain⟨gv,tp,yX,yY,FJ,RQ,RR,RS,RU⟩:=h;cases κ<;>simp only[jr,kg,kh,lJ,eX,hr,iz,mm,lK,iA,rY,uY,uZ,Nat.add_zero,Nat.zero_add,forall_const] at *
 all_goals (constructor<;>omega)
end
end Go.TL
