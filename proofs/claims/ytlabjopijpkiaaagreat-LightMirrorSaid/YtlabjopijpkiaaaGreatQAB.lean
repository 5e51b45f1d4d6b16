import Derived.Conc.CrowdBase
import Derived.Test.YtlabjopijpkiaaaGreatQAA
set_option maxHeartbeats 16000000
set_option maxRecDepth 20000
set_option linter.unusedSectionVars false
set_option linter.unusedSimpArgs false
set_option linter.unusedVariables false
namespace Go.TL
open Go.Conc
open Go.ConcN (sumTo upd sumTo_upd upd_ne upd_same sumTo_congr le_sumTo)
inductive kg where
 | idle|act (aw:Bool)|q|wk|hw|own|cW (L:List Nat)|fin|uc|us|done
inductive rl where
 | work|rel|l2|gO|gone
inductive qg where
 | add|w3|w4|kR|bf
inductive Tok where
 | nil
 | par (n pend:Nat) (ay:qg)
 | ch (k:Nat) (mu:kg) (wg:rl)
structure Spec where
 aI:Option Nat
 bw:List Nat->υ->Prop
 D:Nat->υ->Prop
 top:Nat
structure aD extends Spec where
 bY:Nat
 wk:Nat
 sv:Nat
 nw:Nat
 cM:Nat
 L:List Nat
 cnt:Nat
 wt:Nat
 cn:Nat
 ag:List Nat
def wP:kg->Nat|.own|.cW _|.fin=>1|_=>0
def hc:Tok->Nat|.ch _ m _=>wP m|_=>0
def zz:kg->Nat|.us|.wk|.hw=>1|_=>0
def mq:Tok->Nat|.ch _ m _=>zz m|_=>0
def sN:kg->Nat|.act true=>1|_=>0
def kS:Tok->Nat|.ch _ m _=>sN m|_=>0
def wQ:kg->Nat|.q=>1|_=>0
def kh:Tok->Nat|.ch _ m _=>wQ m|_=>0
def zA:kg->Nat|.hw=>1|_=>0
def lQ:Tok->Nat|.ch _ m _=>zA m|_=>0
def De:kg->Nat|.wk=>1|_=>0
def o1:Tok->Nat|.ch _ m _=>De m|_=>0
def wR:kg->Nat|.wk|.hw=>1|_=>0
def ki:Tok->Nat|.ch _ m _=>wR m|_=>0
def Df:kg->Nat|.us=>1|_=>0
def o2:Tok->Nat|.ch _ m _=>Df m|_=>0
def zB:kg->Nat|.uc=>1|_=>0
def mr:Tok->Nat|.ch _ m _=>zB m|_=>0
def qh:rl->Nat|.work|.rel=>1|_=>0
def h0:Tok->Nat|.ch _ _ g=>qh g|_=>0
def sO:rl->Nat|.l2=>1|_=>0
def iS:Tok->Nat|.ch _ _ g=>sO g|_=>0
def sP:rl->Nat|.gO=>1|_=>0
def iT:Tok->Nat|.ch _ _ g=>sP g|_=>0
def kj:Tok->Nat|.ch ..=>1|_=>0
def ep:Tok->Nat|.par ..=>1|_=>0
def gw:Tok->Nat|.par _ p _=>p|_=>0
def hf:Tok->Nat|.par n _ _=>n|_=>0
def kT:Tok->Nat|.par _ _ .add=>1|_=>0
def kl:Tok->Nat|.par _ _ .w3=>1|_=>0
def hg:Tok->Nat|.par _ _ .w4|.par _ _ .kR|.par _ _ .bf=>1|_=>0
def sQ:kg->Nat
 | .idle=>20|.act false=>19|.act true=>18|.q=>12|.wk=>20|.hw=>19|.own=>14|.cW _=>13|.fin=>12|.uc=>11|.us=>10|.done=>0
def zC:rl->Nat
 | .work=>6|.rel=>5|.l2=>4|.gO=>3|.gone=>0
def uJ:qg->Nat
 | .add=>8|.w3=>6|.w4=>3|.kR=>3|.bf=>0
def kU (top:Nat):Tok->Nat
 | .nil=>0
 | .par n p ay=>(top-n)*100+p*50+uJ ay
 | .ch _ m w=>sQ m+zC w
def aT (N:Nat) (τ:Nat->Tok) (φ:Tok->Nat):Nat:=sumTo N λi=>φ (τ i)
theorem fC {N i:Nat} (τ:Nat->Tok) (t:Tok) (φ:Tok->Nat) (h:i<N):aT N (upd τ i t) φ+φ (τ i)=aT N τ φ+φ t:=sumTo_upd τ t φ h
theorem eW {N i:Nat} (τ:Nat->Tok) (φ:Tok->Nat) (h:i<N):φ (τ i)<=aT N τ φ:=le_sumTo (f:=λi=>φ (τ i)) h
def ec (N:Nat) (o:aD) (τ:Nat->Tok):Nat:=aT N τ (kU o.top)+9*o.cM+2*o.cn
structure N8 (bY wk sv nw cM hold a2 zD HF hw wS us uc N9:Nat):Prop where
 f1:bY<=1
 f2:wk<=1
 f3:sv<=1
 HG:hold=bY
 aΑ:sv=0->a2+cM+zD=wk/\hw=0/\nw+us+cM=HF
 aΒ:sv=1->wk=0/\zD=0/\bY+a2+cM=1/\nw=HF+wS
 aΓ:sv=0->bY=0->0<nw->wk=0->0<uc
 aΔ:us+wS=a2
 aΕ:hw+N9=wS
structure N' (cnt wt cn top live l2 gO h1 par pend n add w3 fin:Nat):Prop where
 f4:wt<=1
 mw:par=1
 Dg:cnt=pend+live
 HH:h1+pend=n
 aΖ:n<=top
 aΗ:add=1->wt=0/\cn=0/\l2=0/\gO=0
 Oa:w3=1->pend=0/\((wt=1/\gO=0/\cn=0/\((cnt=0/\l2=1)\/(0<cnt/\l2=0)))\/(wt=0/\cnt=0/\l2=0/\gO+cn=1))
 HI:fin=1->pend=0/\wt=0/\cn=0/\cnt=0/\l2=0/\gO=0
 aΘ:add+w3+fin=1
def nV (N:Nat) (o:aD) (τ:Nat->Tok):Prop:=
 N8 o.bY o.wk o.sv o.nw o.cM (aT N τ hc) (aT N τ mq) (aT N τ kS) (aT N τ kh) (aT N τ lQ) (aT N τ ki) (aT N τ o2) (aT N τ mr) (aT N τ o1)
def m6 (N:Nat) (o:aD) (τ:Nat->Tok):Prop:=
 N' o.cnt o.wt o.cn o.top (aT N τ h0) (aT N τ iS) (aT N τ iT) (aT N τ kj) (aT N τ ep) (aT N τ gw) (aT N τ hf) (aT N τ kT) (aT N τ kl) (aT N τ hg)
def rm (N:Nat) (o:aD) (τ:Nat->Tok):Prop:=nV N o τ/\m6 N o τ
inductive Act:aD->Tok->aD->Tok->Prop where
 | Ob {o k}:o.bY=0->o.sv=0->o.wk=0->o.nw=0->Act o (.ch k .idle .work) {o with bY:=1} (.ch k .own .work)
 | Oc {o k}:Act o (.ch k .idle .work) o (.ch k (.act false) .work)
 | acq {o k aw}:o.bY=0->o.sv=0->Act o (.ch k (.act aw) .work) {o with bY:=1,wk:=if aw then 0 else o.wk} (.ch k .own .work)
 | Od {o k}:o.wk=0->0<o.nw->o.bY=1->o.sv=0->Act o (.ch k (.act false) .work) {o with wk:=1} (.ch k (.act true) .work)
 | queue {o k aw} (st:Bool):(o.bY=1\/o.sv=1)->(st=true->aw=true/\o.bY=1)->Act o (.ch k (.act aw) .work) {o with nw:=o.nw+1,wk:=if aw then 0 else o.wk,sv:=if st then 1 else o.sv} (.ch k .q .work)
 | take {o k}:0<o.cM->Act o (.ch k .q .work) {o with cM:=o.cM-1} (.ch k .wk .work)
 | norm {o k}:o.sv=0->Act o (.ch k .wk .work) o (.ch k (.act true) .work)
 | hand {o k}:o.sv=1->Act o (.ch k .wk .work) o (.ch k .hw .work)
 | hacq {o k} (o3:Bool):Act o (.ch k .hw .work) {o with bY:=1,nw:=o.nw-1,sv:=if o3 then 0 else 1} (.ch k .own .work)
 | Oe {o k}:o.sv=0->(o.nw=0\/o.wk=1)->Act o (.ch k .fin .work) {o with bY:=0} (.ch k .done .work)
 | Of {o k}:o.sv=0->0<o.nw->o.wk=0->Act o (.ch k .fin .work) {o with bY:=0} (.ch k .uc .work)
 | Og {o k}:o.sv=1->Act o (.ch k .fin .work) {o with bY:=0} (.ch k .us .work)
 | Oh {o k}:o.bY=0->o.wk=0->o.sv=0->0<o.nw->Act o (.ch k .uc .work) {o with nw:=o.nw-1,wk:=1} (.ch k .us .work)
 | Oi {o k}:(o.nw=0\/o.bY=1\/o.wk=1\/o.sv=1)->Act o (.ch k .uc .work) o (.ch k .done .work)
 | post {o k}:Act o (.ch k .us .work) {o with cM:=o.cM+1} (.ch k .done .work)
 | add {o n p}:n<o.top->Act o (.par n p .add) {o with cnt:=o.cnt+1} (.par (n+1) (p+1) .add)
 | thru {o n}:o.cnt=0->Act o (.par n 0 .add) o (.par n 0 .kR)
 | HJ {o n}:0<o.cnt->Act o (.par n 0 .add) {o with wt:=1} (.par n 0 .w3)
 | wake {o n}:0<o.cn->Act o (.par n 0 .w3) {o with cn:=o.cn-1} (.par n 0 .w4)
 | Oj {o k m}:o.cnt=1->o.wt=1->Act o (.ch k m .rel) {o with cnt:=o.cnt-1} (.ch k m .l2)
 | Ol {o k m}:(1<o.cnt\/o.wt=0)->Act o (.ch k m .rel) {o with cnt:=o.cnt-1} (.ch k m .gone)
 | Om {o k m}:Act o (.ch k m .l2) {o with wt:=0} (.ch k m .gO)
 | On {o k m}:Act o (.ch k m .gO) {o with cn:=o.cn+1} (.ch k m .gone)
inductive nW:aD->Tok->aD->Tok->Prop where
 | Dh {o k}:nW o (.ch k .own .work) o (.ch k (.cW o.L) .work)
 | Oo {o k L}:nW o (.ch k (.cW L) .work) {o with L:=o.L++[k]} (.ch k .fin .work)
 | Oq {o k m}:(m=.done\/(m=.idle/\o.aI=none))->nW o (.ch k m .work) {o with ag:=k::o.ag} (.ch k m .rel)
 | gtake {o n ay}:(ay=.kR\/ay=.w4)->nW o (.par n 0 ay) o (.par n 0 .bf)
section
variable {N i:Nat} {o o':aD} {τ:Nat->Tok} {t t':Tok}
theorem nX {φ:Tok->Nat} (dX:∀t,ep t=0->φ t=0) (h:aT N τ ep=1) (hi:i<N) (χ:ep (τ i)=1):aT N τ φ=φ (τ i):=by
 have e:=fC τ .nil ep hi
 have aA:=fC τ .nil φ hi
 have z:ep .nil=0:=rfl;rw[h,χ,z] at e;rw[dX .nil rfl] at aA;have af:aT N (upd τ i .nil) ep=0:=by omega
 have:aT N (upd τ i .nil) φ=0:=by
  have gX:∀n,aT n (upd τ i .nil) ep=0->aT n (upd τ i .nil) φ=0:=λn=>by
   induction n with
   | zero=>exact λ_=>rfl
   | succ n Γ=>
    intro Ν;simp only[aT,sumTo] at Ν Γ ⊢;have:=Γ (by omega);have:=dX (upd τ i .nil n) (by omega);omega
  exact gX N af
 omega
theorem Ot (h:nV N o τ) (hi:i<N) (Η:τ i=t) (κ:Act o t o' t'):nV N o' (upd τ i t'):=by
 unfold nV at h ⊢;have cw:=fC τ t' hc hi;have l0:=eW τ hc hi;have Δ:=fC τ t' mq hi;have l1:=eW τ mq hi;have Ε:=fC τ t' kS hi;have l2:=eW τ kS hi;have a3:=fC τ t' kh hi;have qi:=eW τ kh hi;have cg:=fC τ t' lQ hi;have gO:=eW τ lQ hi;have eF:=fC τ t' ki hi;have sR:=eW τ ki hi;have km:=fC τ t' o2 hi;have zE:=eW τ o2 hi;have o4:=fC τ t' mr hi;have Di:=eW τ mr hi;have Dj:=fC τ t' o1 hi;have Dk:=eW τ o1 hi;rw[Η] at Dj Dk cw l0 Δ l1 Ε l2 a3 qi cg gO eF sR km zE o4 Di;generalize aT N (upd τ i t') hc=r0 at *;generalize aT N τ hc=Dl at *;generalize aT N (upd τ i t') mq=r1 at *;generalize aT N τ mq=s1 at *;generalize aT N (upd τ i t') kS=r2 at *;generalize aT N τ kS=s2 at *;generalize aT N (upd τ i t') kh=r3 at *;generalize aT N τ kh=zF at *;generalize aT N (upd τ i t') lQ=h2 at *;generalize aT N τ lQ=Ou at *;generalize aT N (upd τ i t') ki=wT at *;generalize aT N τ ki=Ov at *;generalize aT N (upd τ i t') o2=Dm at *;generalize aT N τ o2=Ow at *;generalize aT N (upd τ i t') mr=Ox at *;generalize aT N τ mr=Oy at *;generalize aT N (upd τ i t') o1=Oz at *;generalize aT N τ o1=wU at *;clear Η hi;obtain⟨⟨aI,bw,D,top⟩,bY,wk,sv,nw,cM,L,cnt,wt,cn,ag⟩:=o;obtain⟨a1,bg,cr,hI,m7,sS,rn,wV,wW⟩:=h;cases κ<;>simp only[hc,mq,kS,kh,lQ,ki,o2,mr,o1,De,wP,zz,sN,wQ,zA,wR,Df,zB,Nat.add_zero,Nat.zero_add] at *
 case acq aw _ _=>cases aw<;>simp only[sN,if_true,if_false,Bool.false_eq_true] at *<;>constructor<;>omega
 case queue aw st _ cj=>
  cases aw<;>cases st<;>simp only[sN,if_true,if_false,Bool.false_eq_true,false_and,true_and,imp_false,not_true_eq_false,forall_const] at *<;>constructor<;>omega
 case hacq o3=>cases o3<;>simp only[if_true,if_false,Bool.false_eq_true] at *<;>constructor<;>omega
 all_goals (constructor<;>omega)
theorem OA (h:m6 N o τ) (hi:i<N) (Η:τ i=t) (κ:Act o t o' t'):m6 N o' (upd τ i t'):=by
 unfold m6 at h ⊢;have sT:ep t=1->aT N τ hf=hf t:=λχ=>by rw[nX (λt Η=>by cases t<;>simp_all [ep,hf]) h.mw hi (by rw[Η];exact χ),Η]
 have pp:ep t=1->aT N τ gw=gw t:=λχ=>by rw[nX (λt Η=>by cases t<;>simp_all [ep,gw]) h.mw hi (by rw[Η];exact χ),Η]
 have cw:=fC τ t' h0 hi;have l0:=eW τ h0 hi
 have Δ:=fC τ t' iS hi;have l1:=eW τ iS hi
 have Ε:=fC τ t' iT hi;have l2:=eW τ iT hi
 have a3:=fC τ t' kj hi;have qi:=eW τ kj hi
 have cg:=fC τ t' ep hi;have gO:=eW τ ep hi
 have eF:=fC τ t' gw hi;have sR:=eW τ gw hi
 have km:=fC τ t' hf hi;have zE:=eW τ hf hi
 have o4:=fC τ t' kT hi;have Di:=eW τ kT hi
 have Dj:=fC τ t' kl hi;have Dk:=eW τ kl hi
 have OB:=fC τ t' hg hi;have OC:=eW τ hg hi;rw[Η] at cw l0 Δ l1 Ε l2 a3 qi cg gO eF sR km zE o4 Di Dj Dk OB OC;generalize aT N (upd τ i t') h0=r0 at *;generalize aT N τ h0=Dl at *;generalize aT N (upd τ i t') iS=r1 at *;generalize aT N τ iS=s1 at *;generalize aT N (upd τ i t') iT=r2 at *;generalize aT N τ iT=s2 at *;generalize aT N (upd τ i t') kj=r3 at *;generalize aT N τ kj=zF at *;generalize aT N (upd τ i t') ep=h2 at *;generalize aT N τ ep=Ou at *;generalize aT N (upd τ i t') gw=wT at *;generalize aT N τ gw=Ov at *;generalize aT N (upd τ i t') hf=Dm at *;generalize aT N τ hf=Ow at *;generalize aT N (upd τ i t') kT=Ox at *;generalize aT N τ kT=Oy at *;generalize aT N (upd τ i t') kl=Oz at *;generalize aT N τ kl=wU at *;generalize aT N (upd τ i t') hg=aΙ at *;generalize aT N τ hg=aΚ at *;clear Η hi;obtain⟨⟨aI,bw,D,top⟩,bY,wk,sv,nw,cM,L,cnt,wt,cn,ag⟩:=o;obtain⟨fX,rn,wV,wW,Dn,OD,OE,OF,OG⟩:=h;cases κ<;>simp only[h0,iS,iT,kj,ep,gw,hf,kT,kl,hg,qh,sO,sP,Nat.add_zero,Nat.zero_add,forall_const] at *
 all_goals (constructor<;>omega)
end
end Go.TL
