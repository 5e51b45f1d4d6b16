import Derived.Conc.CrowdBase
import Derived.Test.YtlabjopijpkiaaaGreatCAA
set_option maxHeartbeats 16000000
set_option maxRecDepth 20000
set_option linter.unusedSectionVars false
set_option linter.unusedSimpArgs false
set_option linter.unusedVariables false
namespace Go.TL
open Go.Conc
open Go.ConcN (sumTo upd sumTo_upd upd_ne upd_same sumTo_congr le_sumTo)
inductive lS where
 | idle|act (aw:Bool)|q|wk|hw|own|dr (L:List Nat)|fin|uc|us|done
inductive tZ where
 | work|rel|l2|h5|gone
inductive sx where
 | add|w3|w4|mI|bm
inductive Tok where
 | nil
 | par (n pend:Nat) (aQ:sx)
 | ch (k:Nat) (mu:lS) (wg:tZ)
structure Spec where
 aZ:Option Nat
 ar:List Nat->Α->Prop
 D:Nat->Α->Prop
 top:Nat
structure aV extends Spec where
 cn:Nat
 wk:Nat
 sv:Nat
 nw:Nat
 db:Nat
 L:List Nat
 cnt:Nat
 wt:Nat
 cP:Nat
 ak:List Nat
def zl:lS->Nat|.own|.dr _|.fin=>1|_=>0
def iS:Tok->Nat|.ch _ m _=>zl m|_=>0
def Ci:lS->Nat|.us|.wk|.hw=>1|_=>0
def og:Tok->Nat|.ch _ m _=>Ci m|_=>0
def vB:lS->Nat|.act true=>1|_=>0
def mJ:Tok->Nat|.ch _ m _=>vB m|_=>0
def zm:lS->Nat|.q=>1|_=>0
def lT:Tok->Nat|.ch _ m _=>zm m|_=>0
def Cj:lS->Nat|.hw=>1|_=>0
def nB:Tok->Nat|.ch _ m _=>Cj m|_=>0
def F3:lS->Nat|.wk=>1|_=>0
def q':Tok->Nat|.ch _ m _=>F3 m|_=>0
def zn:lS->Nat|.wk|.hw=>1|_=>0
def lU:Tok->Nat|.ch _ m _=>zn m|_=>0
def F4:lS->Nat|.us=>1|_=>0
def ra:Tok->Nat|.ch _ m _=>F4 m|_=>0
def Ck:lS->Nat|.uc=>1|_=>0
def oh:Tok->Nat|.ch _ m _=>Ck m|_=>0
def sy:tZ->Nat|.work|.rel=>1|_=>0
def jF:Tok->Nat|.ch _ _ g=>sy g|_=>0
def vC:tZ->Nat|.l2=>1|_=>0
def kx:Tok->Nat|.ch _ _ g=>vC g|_=>0
def vD:tZ->Nat|.h5=>1|_=>0
def ky:Tok->Nat|.ch _ _ g=>vD g|_=>0
def lV:Tok->Nat|.ch ..=>1|_=>0
def e1:Tok->Nat|.par ..=>1|_=>0
def hH:Tok->Nat|.par _ p _=>p|_=>0
def iT:Tok->Nat|.par n _ _=>n|_=>0
def mK:Tok->Nat|.par _ _ .add=>1|_=>0
def lW:Tok->Nat|.par _ _ .w3=>1|_=>0
def iU:Tok->Nat|.par _ _ .w4|.par _ _ .mI|.par _ _ .bm=>1|_=>0
def vE:lS->Nat
 | .idle=>20|.act false=>19|.act true=>18|.q=>12|.wk=>20|.hw=>19|.own=>14|.dr _=>13|.fin=>12|.uc=>11|.us=>10|.done=>0
def Cl:tZ->Nat
 | .work=>6|.rel=>5|.l2=>4|.h5=>3|.gone=>0
def xE:sx->Nat
 | .add=>8|.w3=>6|.w4=>3|.mI=>3|.bm=>0
def mL (top:Nat):Tok->Nat
 | .nil=>0
 | .par n p aQ=>(top-n)*100+p*50+xE aQ
 | .ch _ m w=>vE m+Cl w
def ba (N:Nat) (τ:Nat->Tok) (φ:Tok->Nat):Nat:=sumTo N λi=>φ (τ i)
theorem gN {N i:Nat} (τ:Nat->Tok) (t:Tok) (φ:Tok->Nat) (h:i<N):ba N (upd τ i t) φ+φ (τ i)=ba N τ φ+φ t:=sumTo_upd τ t φ h
theorem fy {N i:Nat} (τ:Nat->Tok) (φ:Tok->Nat) (h:i<N):φ (τ i)<=ba N τ φ:=le_sumTo (f:=λi=>φ (τ i)) h
def eL (N:Nat) (o:aV) (τ:Nat->Tok):Nat:=ba N τ (mL o.top)+9*o.db+2*o.cP
structure R0 (cn wk sv nw db hold bj Cm KU hw zo us uc R1:Nat):Prop where
 f1:cn<=1
 f2:wk<=1
 f3:sv<=1
 KV:hold=cn
 hπ:sv=0->bj+db+Cm=wk/\hw=0/\nw+us+db=KU
 hρ:sv=1->wk=0/\Cm=0/\cn+bj+db=1/\nw=KU+zo
 hς:sv=0->cn=0->0<nw->wk=0->0<uc
 hτ:us+zo=bj
 hυ:hw+R1=zo
structure R2 (cnt wt cP top live l2 h5 jG par pend n add w3 fin:Nat):Prop where
 f4:wt<=1
 oi:par=1
 F5:cnt=pend+live
 KW:jG+pend=n
 hφ:n<=top
 hχ:add=1->wt=0/\cP=0/\l2=0/\h5=0
 R3:w3=1->pend=0/\((wt=1/\h5=0/\cP=0/\((cnt=0/\l2=1)\/(0<cnt/\l2=0)))\/(wt=0/\cnt=0/\l2=0/\h5+cP=1))
 KX:fin=1->pend=0/\wt=0/\cP=0/\cnt=0/\l2=0/\h5=0
 hψ:add+w3+fin=1
def pU (N:Nat) (o:aV) (τ:Nat->Tok):Prop:=
 R0 o.cn o.wk o.sv o.nw o.db (ba N τ iS) (ba N τ og) (ba N τ mJ) (ba N τ lT) (ba N τ nB) (ba N τ lU) (ba N τ ra) (ba N τ oh) (ba N τ q')
def o1 (N:Nat) (o:aV) (τ:Nat->Tok):Prop:=
 R2 o.cnt o.wt o.cP o.top (ba N τ jF) (ba N τ kx) (ba N τ ky) (ba N τ lV) (ba N τ e1) (ba N τ hH) (ba N τ iT) (ba N τ mK) (ba N τ lW) (ba N τ iU)
def ua (N:Nat) (o:aV) (τ:Nat->Tok):Prop:=pU N o τ/\o1 N o τ
inductive Act:aV->Tok->aV->Tok->Prop where
 | R4 {o k}:o.cn=0->o.sv=0->o.wk=0->o.nw=0->Act o (.ch k .idle .work) {o with cn:=1} (.ch k .own .work)
 | R5 {o k}:Act o (.ch k .idle .work) o (.ch k (.act false) .work)
 | acq {o k aw}:o.cn=0->o.sv=0->Act o (.ch k (.act aw) .work) {o with cn:=1,wk:=if aw then 0 else o.wk} (.ch k .own .work)
 | R6 {o k}:o.wk=0->0<o.nw->o.cn=1->o.sv=0->Act o (.ch k (.act false) .work) {o with wk:=1} (.ch k (.act true) .work)
 | queue {o k aw} (st:Bool):(o.cn=1\/o.sv=1)->(st=true->aw=true/\o.cn=1)->Act o (.ch k (.act aw) .work) {o with nw:=o.nw+1,wk:=if aw then 0 else o.wk,sv:=if st then 1 else o.sv} (.ch k .q .work)
 | take {o k}:0<o.db->Act o (.ch k .q .work) {o with db:=o.db-1} (.ch k .wk .work)
 | norm {o k}:o.sv=0->Act o (.ch k .wk .work) o (.ch k (.act true) .work)
 | hand {o k}:o.sv=1->Act o (.ch k .wk .work) o (.ch k .hw .work)
 | hacq {o k} (rb:Bool):Act o (.ch k .hw .work) {o with cn:=1,nw:=o.nw-1,sv:=if rb then 0 else 1} (.ch k .own .work)
 | R7 {o k}:o.sv=0->(o.nw=0\/o.wk=1)->Act o (.ch k .fin .work) {o with cn:=0} (.ch k .done .work)
 | R8 {o k}:o.sv=0->0<o.nw->o.wk=0->Act o (.ch k .fin .work) {o with cn:=0} (.ch k .uc .work)
 | R9 {o k}:o.sv=1->Act o (.ch k .fin .work) {o with cn:=0} (.ch k .us .work)
 | R' {o k}:o.cn=0->o.wk=0->o.sv=0->0<o.nw->Act o (.ch k .uc .work) {o with nw:=o.nw-1,wk:=1} (.ch k .us .work)
 | Sa {o k}:(o.nw=0\/o.cn=1\/o.wk=1\/o.sv=1)->Act o (.ch k .uc .work) o (.ch k .done .work)
 | post {o k}:Act o (.ch k .us .work) {o with db:=o.db+1} (.ch k .done .work)
 | add {o n p}:n<o.top->Act o (.par n p .add) {o with cnt:=o.cnt+1} (.par (n+1) (p+1) .add)
 | thru {o n}:o.cnt=0->Act o (.par n 0 .add) o (.par n 0 .mI)
 | KY {o n}:0<o.cnt->Act o (.par n 0 .add) {o with wt:=1} (.par n 0 .w3)
 | wake {o n}:0<o.cP->Act o (.par n 0 .w3) {o with cP:=o.cP-1} (.par n 0 .w4)
 | Sb {o k m}:o.cnt=1->o.wt=1->Act o (.ch k m .rel) {o with cnt:=o.cnt-1} (.ch k m .l2)
 | Sc {o k m}:(1<o.cnt\/o.wt=0)->Act o (.ch k m .rel) {o with cnt:=o.cnt-1} (.ch k m .gone)
 | Sd {o k m}:Act o (.ch k m .l2) {o with wt:=0} (.ch k m .h5)
 | Se {o k m}:Act o (.ch k m .h5) {o with cP:=o.cP+1} (.ch k m .gone)
inductive pV:aV->Tok->aV->Tok->Prop where
 | F6 {o k}:pV o (.ch k .own .work) o (.ch k (.dr o.L) .work)
 | Sf {o k L}:pV o (.ch k (.dr L) .work) {o with L:=o.L++[k]} (.ch k .fin .work)
 | Sg {o k m}:(m=.done\/(m=.idle/\o.aZ=none))->pV o (.ch k m .work) {o with ak:=k::o.ak} (.ch k m .rel)
 | gtake {o n aQ}:(aQ=.mI\/aQ=.w4)->pV o (.par n 0 aQ) o (.par n 0 .bm)
section
variable {N i:Nat} {o o':aV} {τ:Nat->Tok} {t t':Tok}
theorem pW {φ:Tok->Nat} (eE:∀t,e1 t=0->φ t=0) (h:ba N τ e1=1) (hi:i<N) (π:e1 (τ i)=1):ba N τ φ=φ (τ i):=by
 have e:=gN τ .nil e1 hi
 have aM:=gN τ .nil φ hi
 have z:e1 .nil=0:=rfl;rw[h,π,z] at e;rw[eE .nil rfl] at aM;have an:ba N (upd τ i .nil) e1=0:=R;have:ba N (upd τ i .nil) φ=0:=by
  have iv:∀n,ba n (upd τ i .nil) e1=0->ba n (upd τ i .nil) φ=0:=λn=>by
   induction n with
   | zero=>exact λ_=>rfl
   | succ n ω=>
    intro Φ;simp only[ba,sumTo] at Φ ω ⊢;have:=ω R;have:=eE (upd τ i .nil n) R;omega
  exact iv N an
 omega
theorem Si (h:pU N o τ) (hi:i<N) (Ν:τ i=t) (κ:Act o t o' t'):pU N o' (upd τ i t'):=by
 unfold pU at h ⊢;have cF:=gN τ t' iS hi;have l0:=fy τ iS hi;have Γ:=gN τ t' og hi;have l1:=fy τ og hi;have Δ:=gN τ t' mJ hi;have l2:=fy τ mJ hi;have a4:=gN τ t' lT hi;have o2:=fy τ lT hi;have cM:=gN τ t' nB hi;have h5:=fy τ nB hi;have fh:=gN τ t' lU hi;have vF:=fy τ lU hi;have lX:=gN τ t' ra hi;have Cn:=fy τ ra hi;have re:=gN τ t' oh hi;have F7:=fy τ oh hi;have F8:=gN τ t' q' hi;have pX:=fy τ q' hi;rw[Ν] at F8 pX cF l0 Γ l1 Δ l2 a4 o2 cM h5 fh vF lX Cn re F7;generalize ba N (upd τ i t') iS=r0 at *;generalize ba N τ iS=F9 at *;generalize ba N (upd τ i t') og=r1 at *;generalize ba N τ og=s1 at *;generalize ba N (upd τ i t') mJ=r2 at *;generalize ba N τ mJ=s2 at *;generalize ba N (upd τ i t') lT=r3 at *;generalize ba N τ lT=kR at *;generalize ba N (upd τ i t') nB=jH at *;generalize ba N τ nB=pY at *;generalize ba N (upd τ i t') lU=zp at *;generalize ba N τ lU=kz at *;generalize ba N (upd τ i t') ra=F' at *;generalize ba N τ ra=vG at *;generalize ba N (upd τ i t') oh=Sj at *;generalize ba N τ oh=Sk at *;generalize ba N (upd τ i t') q'=Sl at *;generalize ba N τ q'=zq at *;clear Ν hi;obtain⟨⟨aZ,ar,D,top⟩,cn,wk,sv,nw,db,L,cnt,wt,cP,ak⟩:=o;obtain⟨a1,a9,cK,h6,mM,vH,ub,zr,zs⟩:=h;cases κ<;>simp only[iS,og,mJ,lT,nB,lU,ra,oh,q',F3,zl,Ci,vB,zm,Cj,zn,F4,Ck,Nat.add_zero,Nat.zero_add] at *
 case acq aw _ _=>cases aw<;>simp only[vB,if_true,if_false,Bool.false_eq_true] at *<;>constructor<;>omega
 case queue aw st _ cH=>
  cases aw<;>cases st<;>simp only[vB,if_true,if_false,Bool.false_eq_true,false_and,true_and,imp_false,not_true_eq_false,forall_const] at *<;>constructor<;>omega
 case hacq rb=>cases rb<;>simp only[if_true,if_false,Bool.false_eq_true] at *<;>constructor<;>omega
 all_goals (constructor<;>omega)
theorem Sm (h:o1 N o τ) (hi:i<N) (Ν:τ i=t) (κ:Act o t o' t'):o1 N o' (upd τ i t'):=by
 unfold o1 at h ⊢;have vI:e1 t=1->ba N τ iT=iT t:=λπ=>by rw[pW (λt Ν=>by cases t<;>simp_all [e1,iT]) h.oi hi (by rw[Ν];exact π),Ν]
 have pp:e1 t=1->ba N τ hH=hH t:=λπ=>by rw[pW (λt Ν=>by cases t<;>simp_all [e1,hH]) h.oi hi (by rw[Ν];exact π),Ν]
 have cF:=gN τ t' jF hi;have l0:=fy τ jF hi
 have Γ:=gN τ t' kx hi;have l1:=fy τ kx hi
 have Δ:=gN τ t' ky hi;have l2:=fy τ ky hi
 have a4:=gN τ t' lV hi;have o2:=fy τ lV hi
 have cM:=gN τ t' e1 hi;have h5:=fy τ e1 hi
 have fh:=gN τ t' hH hi;have vF:=fy τ hH hi
 have lX:=gN τ t' iT hi;have Cn:=fy τ iT hi
 have re:=gN τ t' mK hi;have F7:=fy τ mK hi
 have F8:=gN τ t' lW hi;have pX:=fy τ lW hi
 have Sn:=gN τ t' iU hi;have So:=fy τ iU hi;rw[Ν] at cF l0 Γ l1 Δ l2 a4 o2 cM h5 fh vF lX Cn re F7 F8 pX Sn So;generalize ba N (upd τ i t') jF=r0 at *;generalize ba N τ jF=F9 at *;generalize ba N (upd τ i t') kx=r1 at *;generalize ba N τ kx=s1 at *;generalize ba N (upd τ i t') ky=r2 at *;generalize ba N τ ky=s2 at *;generalize ba N (upd τ i t') lV=r3 at *;generalize ba N τ lV=kR at *;generalize ba N (upd τ i t') e1=jH at *;generalize ba N τ e1=pY at *;generalize ba N (upd τ i t') hH=zp at *;generalize ba N τ hH=kz at *;generalize ba N (upd τ i t') iT=F' at *;generalize ba N τ iT=vG at *;generalize ba N (upd τ i t') mK=Sj at *;generalize ba N τ mK=Sk at *;generalize ba N (upd τ i t') lW=Sl at *;generalize ba N τ lW=zq at *;generalize ba N (upd τ i t') iU=hω at *;generalize ba N τ iU=hΑ at *;clear Ν hi;obtain⟨⟨aZ,ar,D,top⟩,cn,wk,sv,nw,db,L,cnt,wt,cP,ak⟩:=o;obtain⟨gx,ub,zr,zs,Ga,Sp,Sq,Sr,Ss⟩:=h;cases κ<;>simp only[jF,kx,ky,lV,e1,hH,iT,mK,lW,iU,sy,vC,vD,Nat.add_zero,Nat.zero_add,forall_const] at *
 all_goals (constructor<;>omega)
end
end Go.TL
