import Derived.Conc.CrowdBase
import Derived.Test.YtlabjopijpkiaaaGreatDAA
set_option maxHeartbeats 16000000
set_option maxRecDepth 20000
set_option linter.unusedSectionVars false
set_option linter.unusedSimpArgs false
set_option linter.unusedVariables false
namespace Go.TL
open Go.Conc
open Go.ConcN (sumTo upd sumTo_upd upd_ne upd_same sumTo_congr le_sumTo)
inductive lh where
 | idle|act (aw:Bool)|q|wk|hw|own|dj (L:List Nat)|fin|uc|us|done
inductive sU where
 | work|rel|l2|hz|gone
inductive rF where
 | add|w3|w4|lW|cq
inductive Tok where
 | nil
 | par (n pend:Nat) (aF:rF)
 | ch (k:Nat) (mu:lh) (wg:sU)
structure Spec where
 aU:Option Nat
 bb:List Nat->π->Prop
 D:Nat->π->Prop
 top:Nat
structure aN extends Spec where
 cb:Nat
 wk:Nat
 sv:Nat
 nw:Nat
 cZ:Nat
 L:List Nat
 cnt:Nat
 wt:Nat
 cB:Nat
 aj:List Nat
def yr:lh->Nat|.own|.dj _|.fin=>1|_=>0
def h5:Tok->Nat|.ch _ m _=>yr m|_=>0
def Bd:lh->Nat|.us|.wk|.hw=>1|_=>0
def nm:Tok->Nat|.ch _ m _=>Bd m|_=>0
def uo:lh->Nat|.act true=>1|_=>0
def lX:Tok->Nat|.ch _ m _=>uo m|_=>0
def ys:lh->Nat|.q=>1|_=>0
def lj:Tok->Nat|.ch _ m _=>ys m|_=>0
def Be:lh->Nat|.hw=>1|_=>0
def mS:Tok->Nat|.ch _ m _=>Be m|_=>0
def EZ:lh->Nat|.wk=>1|_=>0
def qx:Tok->Nat|.ch _ m _=>EZ m|_=>0
def yt:lh->Nat|.wk|.hw=>1|_=>0
def lk:Tok->Nat|.ch _ m _=>yt m|_=>0
def E0:lh->Nat|.us=>1|_=>0
def qy:Tok->Nat|.ch _ m _=>E0 m|_=>0
def Bf:lh->Nat|.uc=>1|_=>0
def nn:Tok->Nat|.ch _ m _=>Bf m|_=>0
def rG:sU->Nat|.work|.rel=>1|_=>0
def iM:Tok->Nat|.ch _ _ g=>rG g|_=>0
def uq:sU->Nat|.l2=>1|_=>0
def jX:Tok->Nat|.ch _ _ g=>uq g|_=>0
def uu:sU->Nat|.hz=>1|_=>0
def jY:Tok->Nat|.ch _ _ g=>uu g|_=>0
def ll:Tok->Nat|.ch ..=>1|_=>0
def eT:Tok->Nat|.par ..=>1|_=>0
def hf:Tok->Nat|.par _ p _=>p|_=>0
def h6:Tok->Nat|.par n _ _=>n|_=>0
def lY:Tok->Nat|.par _ _ .add=>1|_=>0
def ln:Tok->Nat|.par _ _ .w3=>1|_=>0
def h7:Tok->Nat|.par _ _ .w4|.par _ _ .lW|.par _ _ .cq=>1|_=>0
def uv:lh->Nat
 | .idle=>20|.act false=>19|.act true=>18|.q=>12|.wk=>20|.hw=>19|.own=>14|.dj _=>13|.fin=>12|.uc=>11|.us=>10|.done=>0
def Bg:sU->Nat
 | .work=>6|.rel=>5|.l2=>4|.hz=>3|.gone=>0
def wu:rF->Nat
 | .add=>8|.w3=>6|.w4=>3|.lW=>3|.cq=>0
def lZ (top:Nat):Tok->Nat
 | .nil=>0
 | .par n p aF=>(top-n)*100+p*50+wu aF
 | .ch _ m w=>uv m+Bg w
def a8 (N:Nat) (τ:Nat->Tok) (φ:Tok->Nat):Nat:=sumTo N λi=>φ (τ i)
theorem gr {N i:Nat} (τ:Nat->Tok) (t:Tok) (φ:Tok->Nat) (h:i<N):a8 N (upd τ i t) φ+φ (τ i)=a8 N τ φ+φ t:=sumTo_upd τ t φ h
theorem fq {N i:Nat} (τ:Nat->Tok) (φ:Tok->Nat) (h:i<N):φ (τ i)<=a8 N τ φ:=le_sumTo (f:=λi=>φ (τ i)) h
def eJ (N:Nat) (o:aN) (τ:Nat->Tok):Nat:=a8 N τ (lZ o.top)+9*o.cZ+2*o.cB
structure QC (cb wk sv nw cZ hold bh Bh J8 hw yu us uc QD:Nat):Prop where
 f1:cb<=1
 f2:wk<=1
 f3:sv<=1
 J9:hold=cb
 eΔ:sv=0->bh+cZ+Bh=wk/\hw=0/\nw+us+cZ=J8
 eΕ:sv=1->wk=0/\Bh=0/\cb+bh+cZ=1/\nw=J8+yu
 eΖ:sv=0->cb=0->0<nw->wk=0->0<uc
 eΗ:us+yu=bh
 eΘ:hw+QD=yu
structure QE (cnt wt cB top live l2 hz iN par pend n add w3 fin:Nat):Prop where
 f4:wt<=1
 np:par=1
 E1:cnt=pend+live
 J':iN+pend=n
 eΙ:n<=top
 eΚ:add=1->wt=0/\cB=0/\l2=0/\hz=0
 QF:w3=1->pend=0/\((wt=1/\hz=0/\cB=0/\((cnt=0/\l2=1)\/(0<cnt/\l2=0)))\/(wt=0/\cnt=0/\l2=0/\hz+cB=1))
 Ka:fin=1->pend=0/\wt=0/\cB=0/\cnt=0/\l2=0/\hz=0
 eΜ:add+w3+fin=1
def pj (N:Nat) (o:aN) (τ:Nat->Tok):Prop:=
 QC o.cb o.wk o.sv o.nw o.cZ (a8 N τ h5) (a8 N τ nm) (a8 N τ lX) (a8 N τ lj) (a8 N τ mS) (a8 N τ lk) (a8 N τ qy) (a8 N τ nn) (a8 N τ qx)
def oe (N:Nat) (o:aN) (τ:Nat->Tok):Prop:=
 QE o.cnt o.wt o.cB o.top (a8 N τ iM) (a8 N τ jX) (a8 N τ jY) (a8 N τ ll) (a8 N τ eT) (a8 N τ hf) (a8 N τ h6) (a8 N τ lY) (a8 N τ ln) (a8 N τ h7)
def sV (N:Nat) (o:aN) (τ:Nat->Tok):Prop:=pj N o τ/\oe N o τ
inductive Act:aN->Tok->aN->Tok->Prop where
 | QG {o k}:o.cb=0->o.sv=0->o.wk=0->o.nw=0->Act o (.ch k .idle .work) {o with cb:=1} (.ch k .own .work)
 | QH {o k}:Act o (.ch k .idle .work) o (.ch k (.act false) .work)
 | acq {o k aw}:o.cb=0->o.sv=0->Act o (.ch k (.act aw) .work) {o with cb:=1,wk:=if aw then 0 else o.wk} (.ch k .own .work)
 | QI {o k}:o.wk=0->0<o.nw->o.cb=1->o.sv=0->Act o (.ch k (.act false) .work) {o with wk:=1} (.ch k (.act true) .work)
 | queue {o k aw} (st:Bool):(o.cb=1\/o.sv=1)->(st=true->aw=true/\o.cb=1)->Act o (.ch k (.act aw) .work) {o with nw:=o.nw+1,wk:=if aw then 0 else o.wk,sv:=if st then 1 else o.sv} (.ch k .q .work)
 | take {o k}:0<o.cZ->Act o (.ch k .q .work) {o with cZ:=o.cZ-1} (.ch k .wk .work)
 | norm {o k}:o.sv=0->Act o (.ch k .wk .work) o (.ch k (.act true) .work)
 | hand {o k}:o.sv=1->Act o (.ch k .wk .work) o (.ch k .hw .work)
 | hacq {o k} (qz:Bool):Act o (.ch k .hw .work) {o with cb:=1,nw:=o.nw-1,sv:=if qz then 0 else 1} (.ch k .own .work)
 | QJ {o k}:o.sv=0->(o.nw=0\/o.wk=1)->Act o (.ch k .fin .work) {o with cb:=0} (.ch k .done .work)
 | QK {o k}:o.sv=0->0<o.nw->o.wk=0->Act o (.ch k .fin .work) {o with cb:=0} (.ch k .uc .work)
 | QL {o k}:o.sv=1->Act o (.ch k .fin .work) {o with cb:=0} (.ch k .us .work)
 | QM {o k}:o.cb=0->o.wk=0->o.sv=0->0<o.nw->Act o (.ch k .uc .work) {o with nw:=o.nw-1,wk:=1} (.ch k .us .work)
 | QN {o k}:(o.nw=0\/o.cb=1\/o.wk=1\/o.sv=1)->Act o (.ch k .uc .work) o (.ch k .done .work)
 | post {o k}:Act o (.ch k .us .work) {o with cZ:=o.cZ+1} (.ch k .done .work)
 | add {o n p}:n<o.top->Act o (.par n p .add) {o with cnt:=o.cnt+1} (.par (n+1) (p+1) .add)
 | thru {o n}:o.cnt=0->Act o (.par n 0 .add) o (.par n 0 .lW)
 | Kb {o n}:0<o.cnt->Act o (.par n 0 .add) {o with wt:=1} (.par n 0 .w3)
 | wake {o n}:0<o.cB->Act o (.par n 0 .w3) {o with cB:=o.cB-1} (.par n 0 .w4)
 | QO {o k m}:o.cnt=1->o.wt=1->Act o (.ch k m .rel) {o with cnt:=o.cnt-1} (.ch k m .l2)
 | QP {o k m}:(1<o.cnt\/o.wt=0)->Act o (.ch k m .rel) {o with cnt:=o.cnt-1} (.ch k m .gone)
 | QQ {o k m}:Act o (.ch k m .l2) {o with wt:=0} (.ch k m .hz)
 | QR {o k m}:Act o (.ch k m .hz) {o with cB:=o.cB+1} (.ch k m .gone)
inductive pk:aN->Tok->aN->Tok->Prop where
 | E2 {o k}:pk o (.ch k .own .work) o (.ch k (.dj o.L) .work)
 | QS {o k L}:pk o (.ch k (.dj L) .work) {o with L:=o.L++[k]} (.ch k .fin .work)
 | QT {o k m}:(m=.done\/(m=.idle/\o.aU=none))->pk o (.ch k m .work) {o with aj:=k::o.aj} (.ch k m .rel)
 | gtake {o n aF}:(aF=.lW\/aF=.w4)->pk o (.par n 0 aF) o (.par n 0 .cq)
section
variable {N i:Nat} {o o':aN} {τ:Nat->Tok} {t t':Tok}
theorem pn {φ:Tok->Nat} (ez:∀t,eT t=0->φ t=0) (h:a8 N τ eT=1) (hi:i<N) (ς:eT (τ i)=1):a8 N τ φ=φ (τ i):=by
 have e:=gr τ .nil eT hi
 have aH:=gr τ .nil φ hi
 have z:eT .nil=0:=rfl;rw[h,ς,z] at e;rw[ez .nil rfl] at aH;have ao:a8 N (upd τ i .nil) eT=0:=γ;have:a8 N (upd τ i .nil) φ=0:=by
  have lp:∀n,a8 n (upd τ i .nil) eT=0->a8 n (upd τ i .nil) φ=0:=λn=>by
   induction n with
   | zero=>exact λ_=>rfl
   | succ n ω=>
    intro Μ;simp only[a8,sumTo] at Μ ω ⊢;have:=ω γ;have:=ez (upd τ i .nil n) γ;omega
  exact lp N ao
 omega
theorem QU (h:pj N o τ) (hi:i<N) (Ν:τ i=t) (κ:Act o t o' t'):pj N o' (upd τ i t'):=by
 unfold pj at h ⊢;have cW:=gr τ t' h5 hi;have l0:=fq τ h5 hi;have Γ:=gr τ t' nm hi;have l1:=fq τ nm hi;have Θ:=gr τ t' lX hi;have l2:=fq τ lX hi;have bO:=gr τ t' lj hi;have og:=fq τ lj hi;have cF:=gr τ t' mS hi;have hz:=fq τ mS hi;have eU:=gr τ t' lk hi;have sW:=fq τ lk hi;have lq:=gr τ t' qy hi;have Bi:=fq τ qy hi;have qA:=gr τ t' nn hi;have E3:=fq τ nn hi;have E4:=gr τ t' qx hi;have uw:=fq τ qx hi;rw[Ν] at E4 uw cW l0 Γ l1 Θ l2 bO og cF hz eU sW lq Bi qA E3;generalize a8 N (upd τ i t') h5=r0 at *;generalize a8 N τ h5=E5 at *;generalize a8 N (upd τ i t') nm=r1 at *;generalize a8 N τ nm=s1 at *;generalize a8 N (upd τ i t') lX=r2 at *;generalize a8 N τ lX=s2 at *;generalize a8 N (upd τ i t') lj=r3 at *;generalize a8 N τ lj=oh at *;generalize a8 N (upd τ i t') mS=iO at *;generalize a8 N τ mS=uy at *;generalize a8 N (upd τ i t') lk=uz at *;generalize a8 N τ lk=oi at *;generalize a8 N (upd τ i t') qy=E6 at *;generalize a8 N τ qy=Bj at *;generalize a8 N (upd τ i t') nn=QV at *;generalize a8 N τ nn=QW at *;generalize a8 N (upd τ i t') qx=QX at *;generalize a8 N τ qx=yv at *;clear Ν hi;obtain⟨⟨aU,bb,D,top⟩,cb,wk,sv,nw,cZ,L,cnt,wt,cB,aj⟩:=o;obtain⟨a1,a2,ck,hA,l3,uA,sX,yw,yx⟩:=h;cases κ<;>simp only[h5,nm,lX,lj,mS,lk,qy,nn,qx,EZ,yr,Bd,uo,ys,Be,yt,E0,Bf,Nat.add_zero,Nat.zero_add] at *
 case acq aw _ _=>cases aw<;>simp only[uo,if_true,if_false,Bool.false_eq_true] at *<;>constructor<;>omega
 case queue aw st _ cT=>
  cases aw<;>cases st<;>simp only[uo,if_true,if_false,Bool.false_eq_true,false_and,true_and,imp_false,not_true_eq_false,forall_const] at *<;>constructor<;>omega
 case hacq qz=>cases qz<;>simp only[if_true,if_false,Bool.false_eq_true] at *<;>constructor<;>omega
 all_goals (constructor<;>omega)
theorem QY (h:oe N o τ) (hi:i<N) (Ν:τ i=t) (κ:Act o t o' t'):oe N o' (upd τ i t'):=by
 unfold oe at h ⊢;have eΝ:eT t=1->a8 N τ h6=h6 t:=λς=>by rw[pn (λt Ν=>by cases t<;>simp_all [eT,h6]) h.np hi (by rw[Ν];exact ς),Ν]
 have pp:eT t=1->a8 N τ hf=hf t:=λς=>by rw[pn (λt Ν=>by cases t<;>simp_all [eT,hf]) h.np hi (by rw[Ν];exact ς),Ν]
 have cW:=gr τ t' iM hi;have l0:=fq τ iM hi
 have Γ:=gr τ t' jX hi;have l1:=fq τ jX hi
 have Θ:=gr τ t' jY hi;have l2:=fq τ jY hi
 have bO:=gr τ t' ll hi;have og:=fq τ ll hi
 have cF:=gr τ t' eT hi;have hz:=fq τ eT hi
 have eU:=gr τ t' hf hi;have sW:=fq τ hf hi
 have lq:=gr τ t' h6 hi;have Bi:=fq τ h6 hi
 have qA:=gr τ t' lY hi;have E3:=fq τ lY hi
 have E4:=gr τ t' ln hi;have uw:=fq τ ln hi
 have QZ:=gr τ t' h7 hi;have Q0:=fq τ h7 hi;rw[Ν] at cW l0 Γ l1 Θ l2 bO og cF hz eU sW lq Bi qA E3 E4 uw QZ Q0;generalize a8 N (upd τ i t') iM=r0 at *;generalize a8 N τ iM=E5 at *;generalize a8 N (upd τ i t') jX=r1 at *;generalize a8 N τ jX=s1 at *;generalize a8 N (upd τ i t') jY=r2 at *;generalize a8 N τ jY=s2 at *;generalize a8 N (upd τ i t') ll=r3 at *;generalize a8 N τ ll=oh at *;generalize a8 N (upd τ i t') eT=iO at *;generalize a8 N τ eT=uy at *;generalize a8 N (upd τ i t') hf=uz at *;generalize a8 N τ hf=oi at *;generalize a8 N (upd τ i t') h6=E6 at *;generalize a8 N τ h6=Bj at *;generalize a8 N (upd τ i t') lY=QV at *;generalize a8 N τ lY=QW at *;generalize a8 N (upd τ i t') ln=QX at *;generalize a8 N τ ln=yv at *;generalize a8 N (upd τ i t') h7=eΞ at *;generalize a8 N τ h7=eΟ at *;clear Ν hi;obtain⟨⟨aU,bb,D,top⟩,cb,wk,sv,nw,cZ,L,cnt,wt,cB,aj⟩:=o;obtain⟨fY,sX,yw,yx,E7,Q1,Q2,Q3,Q4⟩:=h;cases κ<;>simp only[iM,jX,jY,ll,eT,hf,h6,lY,ln,h7,rG,uq,uu,Nat.add_zero,Nat.zero_add,forall_const] at *
 all_goals (constructor<;>omega)
end
end Go.TL
