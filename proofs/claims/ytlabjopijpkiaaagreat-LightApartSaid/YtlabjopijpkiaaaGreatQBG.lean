import Derived.Test.YtlabjopijpkiaaaGreatQAU
import Derived.Test.YtlabjopijpkiaaaGreatQBF
set_option maxHeartbeats 16000000
set_option maxRecDepth 20000
set_option linter.unusedSectionVars false
set_option linter.unusedSimpArgs false
set_option linter.unusedVariables false
namespace Go.TL
open Go.Conc Go.Proofs
open Go.ConcN (sumTo upd sumTo_upd upd_ne upd_same sumTo_congr le_sumTo)
theorem Hj {B:Type} (f:Nat→B) (s:Nat) (a b:B):upd (upd f s a) s b=upd f s b:=by
 funext i;unfold upd;split<;>rfl
def br (x:aR) (s:Nat) (t:Tok) (v:Option (Nat×aK)) (d:Nat):aR:={x with tok:=upd x.tok s t,view:=upd x.view s v,deaf:=d}
section
variable {x:aR} {s:Nat} {t t':Tok} {v eZ:Option (Nat×aK)} {d eb:Nat}
theorem gD:({br x s t v d with tok:=upd (br x s t v d).tok s t',view:=upd (br x s t v d).view s eZ}:aR)=br x s t' eZ d:=by unfold br;simp only[Hj]
theorem jF:({br x s t v d with view:=upd (br x s t v d).view s eZ}:aR)=br x s t eZ d:=by unfold br;simp only[Hj]
theorem zy:({br x s t v d with deaf:=(br x s t v d).deaf+1}:aR)=br x s t v (d+1):=rfl
theorem zz:({br x s t v d with deaf:=(br x s t v d).deaf-1}:aR)=br x s t v (d-1):=rfl
theorem bZ:(br x s t v d).tok s=t:=by unfold br;simp only[upd_same]
theorem oB:(br x s t v d).view s=v:=by unfold br;simp only[upd_same]
theorem zA {r:Nat} (h:r≠s):(br x s t v d).tok r=x.tok r:=by unfold br;exact upd_ne _ _ h
end
theorem Hk {N:Nat} {τ:Nat→Tok} {φ zB:Tok→Nat} (h:∀t,φ t≤zB t):aY N τ φ≤aY N τ zB:=by
 induction N with
 | zero=>exact Nat.le_refl _
 | succ N Γ=>rw[tL,tL];have:=h (τ N);omega
theorem Wy {N:Nat} {τ:Nat→Tok} {φ zB:Tok→Nat}:aY N τ (fun t=>φ t+zB t)=aY N τ φ+aY N τ zB:=by
 induction N with
 | zero=>rfl
 | succ N Γ=>simp only[tL,Γ];omega
structure rZ (π:aK) (t:Tok):Prop where
 b6:π.b6≤1
 wk:π.wk≤1
 sv:π.sv≤1
 cR:π.cR≤1
 nw:π.nw≤π.top
 AA:lq t=1→π.sv=0∧π.wk=1
 hw:mg t=1→π.sv=1∧π.wk=0∧π.b6=0∧1≤π.nw
 hold:hI t=1→π.b6=1
 xR:kH t=1→(π.sv=0→π.wk=1)∧(π.sv=1→π.wk=0∧π.b6=0∧1≤π.nw)
theorem tM.mm {π:aK} {t:Tok} (h:tM π t):rZ π t:=by
 obtain⟨N,τ,i,⟨dj,cY⟩,hi,Μ,_⟩:=h;have l0:=e9 τ hI hi;have l2:=e9 τ lq hi;have g9:=e9 τ mg hi;have tG:=e9 τ kH hi;rw[Μ] at l0 l2 g9 tG;have bI:aY N τ kG+aY N τ kH≤aY N τ kI:=by
  rw[←Wy];refine Hk fun t=>?_;cases t<;>simp[kG,kH,kI];rename_i m _;cases m<;>simp[xP,xQ]
 have dc:aY N τ mg≤aY N τ kH:=Hk fun t=>by
  cases t<;>simp[mg,kH];rename_i m _;cases m<;>simp[Ax,xQ]
 obtain⟨f1,f2,f3,a1,bg,cv,fK,ha,lx⟩:=dj;obtain⟨Ξ,ad,aT,ck,gm,hQ,Dc,r4,Wz⟩:=cY;have ξ:π.sv=0∨π.sv=1:=by omega
 refine⟨f1,f2,f3,?_,?_,fun R=>?_,fun R=>?_,fun R=>?_,fun R=>⟨fun e=>?_,fun e=>?_⟩⟩
 ·rcases ξ with e|e
  ·have:=bg e;omega
  ·have:=cv e;omega
 ·rcases ξ with e|e
  ·have:=bg e;omega
  ·have:=cv e;omega
 ·rcases ξ with e|e
  ·have:=bg e;omega
  ·have:=cv e;omega
 ·rcases ξ with e|e
  ·have:=bg e;omega
  ·have:=cv e;omega
 ·omega
 ·have:=bg e;omega
 ·have:=cv e;omega
structure WA (π:aK) (t:Tok):Prop where
 wt:π.wt≤1
 cnt:π.cnt≤π.top
 cz:π.cz≤1
 live:ir t≤π.cnt
 add:∀n p,t=.par n p .add→π.wt=0∧π.cz=0∧n≤π.top∧p≤π.cnt∧π.cnt≤n
 fin:∀n p,t=.par n p .lp∨t=.par n p .w4∨t=.par n p .bw→π.wt=0∧π.cz=0∧π.cnt=0
 l2:∀k m,t=.ch k m .l2→π.wt=1∧π.cnt=0
 g9:∀k m,t=.ch k m .g9→π.wt=0∧π.cnt=0∧π.cz=0
theorem tM.r5 {π:aK} {t:Tok} (h:tM π t):WA π t:=by
 obtain⟨N,τ,i,⟨dj,cY⟩,hi,Μ,_⟩:=h;have l0:=e9 τ ir hi;have l2:=e9 τ jo hi;have g9:=e9 τ jq hi;rw[Μ] at l0 l2 g9;have bI:aY N τ ir≤aY N τ kI:=Hk fun t=>by
  cases t<;>simp[ir,kI];rename_i g;cases g<;>simp[qY]
 unfold nM at cY;have MT:eC t=1→aY N τ gU=gU t∧aY N τ hJ=hJ t∧aY N τ lr=lr t∧aY N τ kJ=kJ t∧aY N τ hK=hK t:=fun χ=>by
  have fP:eC (τ i)=1:=by rw[Μ];exact χ
  refine⟨?_,?_,?_,?_,?_⟩<;>(rw[oQ (fun t Μ=>by cases t<;>simp_all [eC,gU,hJ,lr,kJ,hK]) cY.m1 hi fP,Μ])
 obtain⟨Ξ,ad,aT,ck,gm,hQ,Dc,r4,Wz⟩:=cY;have ο:aY N τ lr=1∨aY N τ kJ=1∨aY N τ hK=1:=by omega
 refine⟨Ξ,by omega,?_,by omega,fun n p e=>?_,fun n p e=>?_,fun k m e=>?_,fun k m e=>?_⟩
 ·rcases ο with e|e|e
  ·have:=hQ e;omega
  ·have:=Dc e;omega
  ·have:=r4 e;omega
 ·subst e;obtain⟨dB,p2,p3,p4,MU⟩:=MT rfl;simp only[gU,hJ,lr] at dB p2 p3;have:=hQ p3;omega
 ·have χ:eC t=1:=by rcases e with rfl|rfl|rfl<;>rfl
  obtain⟨dB,p2,p3,p4,MU⟩:=MT χ;have:aY N τ hK=1:=by rw[MU];rcases e with rfl|rfl|rfl<;>rfl
  have:=r4 this;omega
 ·subst e;simp only[jo,tD] at l2;rcases ο with e|e|e
  ·have:=hQ e;omega
  ·have:=Dc e;omega
  ·have:=r4 e;omega
 ·subst e;simp only[jq,tE] at g9;rcases ο with e|e|e
  ·have:=hQ e;omega
  ·have:=Dc e;omega
  ·have:=r4 e;omega
abbrev gE (a b c n:Nat):Int:=(a:Int)+2*b+4*c+8*n
theorem Hl:∀a<2,∀b<2,∀c<2,∀n<8,fH .i32 (gE a b c n) 5=a+4*c:=by decide +kernel
theorem Hm:∀a<2,∀b<2,∀c<2,∀n<8,fH .i32 (gE a b c n) 4=4*c:=by decide +kernel
theorem WB:∀a<2,∀b<2,∀c<2,∀n<8,fH .i32 (gE a b c n) 3=a+2*b:=by decide +kernel
theorem WC:∀a<2,∀b<2,∀c<2,∀n<8,fH .i32 (gE a b c n) 7=a+2*b+4*c:=by decide +kernel
theorem Dd:∀a<2,∀b<2,∀c<2,∀n<8,fH .i32 (gE a b c n) 2=2*b:=by decide +kernel
theorem WE:∀a<2,∀b<2,∀c<2,∀n<8,fH .i32 (gE a b c n) 1=a:=by decide +kernel
theorem WG:∀a<2,∀b<2,∀c<2,∀n<8,qd .i32 (gE a b c n) 1=gE 1 b c n:=by decide +kernel
theorem WH:∀a<2,∀b<2,∀c<2,∀n<8,qd .i32 (gE a b c n) 2=gE a 1 c n:=by decide +kernel
theorem WI:∀a<2,∀b<2,∀c<2,∀n<8,qd .i32 (gE a b c n) 4=gE a b 1 n:=by decide +kernel
theorem Hn:∀a<2,∀b<2,∀c<2,∀n<8,n6 .i32 (gE a b c n) 2=gE a 0 c n:=by decide +kernel
theorem Ho:∀a<2,∀b<2,∀c<2,∀n<8,(gE a b c n).fdiv (2 ^ min 3 IntKind.i32.bits)=n:=by decide +kernel
theorem WJ:∀a<2,∀b<2,∀c<2,∀n<7,IntKind.i32.wrap (gE a b c n+8)=gE a b c (n+1):=by decide +kernel
theorem oC (π:aK):mwd π=gE π.b6 π.wk π.sv π.nw:=rfl
theorem zC:Entry Tryz.prog 160 (fun _=>do mark .disable;pure Extern.Race.none_):=⟨_,Tryz.func160,by kernel_rfl,by kernel_rfl,by kernel_rfl,by kernel_rfl⟩
theorem th:Entry Tryz.prog 161 (fun _=>do mark .enable;pure Extern.Race.none_):=⟨_,Tryz.func161,by kernel_rfl,by kernel_rfl,by kernel_rfl,by kernel_rfl⟩
theorem MV:Entry Tryz.prog 159 (Extern.Race.marked .releaseMerge):=⟨_,Tryz.func159,by kernel_rfl,by kernel_rfl,by kernel_rfl,by kernel_rfl⟩
theorem De:Entry Tryz.prog 177 (Extern.Race.marked .acquire):=⟨_,Tryz.func177,by kernel_rfl,by kernel_rfl,by kernel_rfl,by kernel_rfl⟩
theorem WK:Entry Tryz.prog 167 (Extern.Race.marked .read):=⟨_,Tryz.func167,by kernel_rfl,by kernel_rfl,by kernel_rfl,by kernel_rfl⟩
theorem WL:Entry Tryz.prog 180 (Extern.Race.marked .write):=⟨_,Tryz.func180,by kernel_rfl,by kernel_rfl,by kernel_rfl,by kernel_rfl⟩
theorem MW:Entry Tryz.prog 162 (fun _=>pure (.bool false)):=⟨_,Tryz.func162,by kernel_rfl,by kernel_rfl,by kernel_rfl,by kernel_rfl⟩
theorem Df:Entry Tryz.prog 212 (Extern.Atomic.casT (.int .i32)):=⟨_,Tryz.func212,by kernel_rfl,by kernel_rfl,by kernel_rfl,by kernel_rfl⟩
theorem MX:Entry Tryz.prog 214 (Extern.Atomic.update (Op.intArith .add) .i32 true):=⟨_,Tryz.func214,by kernel_rfl,by kernel_rfl,by kernel_rfl,by kernel_rfl⟩
theorem WM:Entry Tryz.prog 216 (Extern.Atomic.casT (.int .u64)):=⟨_,Tryz.func216,by kernel_rfl,by kernel_rfl,by kernel_rfl,by kernel_rfl⟩
theorem MY:Entry Tryz.prog 207 (Extern.Atomic.update (Op.intArith .add) .u64 true):=⟨_,Tryz.func207,by kernel_rfl,by kernel_rfl,by kernel_rfl,by kernel_rfl⟩
theorem MZ:Entry Tryz.prog 208 (Extern.Atomic.loadT (.int .u64)):=⟨_,Tryz.func208,by kernel_rfl,by kernel_rfl,by kernel_rfl,by kernel_rfl⟩
theorem WN:Entry Tryz.prog 209 Extern.Atomic.storeT:=⟨_,Tryz.func209,by kernel_rfl,by kernel_rfl,by kernel_rfl,by kernel_rfl⟩
theorem WO:Entry Tryz.prog 242 Extern.Sync.canSpin:=⟨_,Tryz.func242,by kernel_rfl,by kernel_rfl,by kernel_rfl,by kernel_rfl⟩
theorem WQ:Entry Tryz.prog 243 (fun _=>pure (.tuple #[])):=⟨_,Tryz.func243,by kernel_rfl,by kernel_rfl,by kernel_rfl,by kernel_rfl⟩
theorem M0:Entry Tryz.prog 245 Extern.OsHooks.nano:=⟨_,Tryz.func245,by kernel_rfl,by kernel_rfl,by kernel_rfl,by kernel_rfl⟩
theorem WR:Entry Tryz.prog 246 Extern.Sync.semacquire:=⟨_,Tryz.func246,by kernel_rfl,by kernel_rfl,by kernel_rfl,by kernel_rfl⟩
theorem WS:Entry Tryz.prog 181 Extern.Sync.semacquire:=⟨_,Tryz.func181,by kernel_rfl,by kernel_rfl,by kernel_rfl,by kernel_rfl⟩
theorem M1:Entry Tryz.prog 248 Extern.Sync.semrelease:=⟨_,Tryz.func248,by kernel_rfl,by kernel_rfl,by kernel_rfl,by kernel_rfl⟩
theorem WT:Entry Tryz.prog 171 Extern.Sync.semrelease:=⟨_,Tryz.func171,by kernel_rfl,by kernel_rfl,by kernel_rfl,by kernel_rfl⟩
theorem ti:Tryz.prog.underlying 195=some .unsafePointer:=by kernel_rfl
theorem Hp:Tryz.prog.underlying 237=some (.pointer 171):=by kernel_rfl
theorem Hq:(Tryz.prog.info? 171).map (fun i=>decide (i.size=0))=some false:=by kernel_rfl
theorem Hr:Tryz.prog.underlying 193=some (.pointer 179):=by kernel_rfl
theorem Hs:(Tryz.prog.info? 179).map (fun i=>decide (i.size=0))=some false:=by kernel_rfl
theorem M3:Tryz.prog.underlying 200=some (.pointer 169):=by kernel_rfl
theorem M4:(Tryz.prog.info? 169).map (fun i=>decide (i.size=0))=some false:=by kernel_rfl
theorem w7:Tryz.prog.underlying 21=some (.int .i32):=by kernel_rfl
theorem aJ.leave0 [bd] {P:Program} {Q:Value→Prop} {mn:Bool} {z:gy} {c b:Frame} {rest:List Frame} {H:ψ} {t:Array Value} {ops:Array Oper} {fn:Func} (δ:Seq z) (hb:b.mode=.run) (b7:b.roundOf=none) (et:b.defers=[]) (gu:b.kind=.normal) (b':P.funcs[b.fn]?=some fn) (eL:fn.results=#[])
  (h:aJ P Q mn z (c.finish (.tuple #[])) rest H):aJ P Q mn z (ao b t [.inRegion ops []]) (c::rest) H:=by
 refine .bB δ hb (.rb δ hb b7 (.back δ rfl et (.inl gu) b' ?_));rw[results_none eL];exact ς.pure' h
theorem cf.leave0 [bd] {P:Program} {Q:Value→Prop} {mn:Bool} {x:aR} {c b:Frame} {rest:List Frame} {H:ψ} {t:Array Value} {ops:Array Oper} {fn:Func} (δ:Seq (one x)) (hb:b.mode=.run) (b7:b.roundOf=none) (et:b.defers=[]) (gu:b.kind=.normal) (b':P.funcs[b.fn]?=some fn) (eL:fn.results=#[])
  (h:cf P Q mn x (c.finish (.tuple #[])) rest H):cf P Q mn x (ao b t [.inRegion ops []]) (c::rest) H:=
 aJ.leave0 (z:=one x) δ hb b7 et gu b' eL (fun y Ο=>by cases Ο;exact h) x rfl
end Go.TL
