import Derived.Test.YtlabjopijpkiaaaGreatSAM
import Derived.Test.YtlabjopijpkiaaaGreatSAU
set_option maxHeartbeats 16000000
set_option maxRecDepth 20000
set_option linter.unusedSectionVars false
set_option linter.unusedSimpArgs false
set_option linter.unusedVariables false
namespace Go.TL
open Go.Conc Go.Proofs
open Go.ConcN (sumTo upd sumTo_upd upd_ne upd_same sumTo_congr le_sumTo)
theorem IU {B:Type} (f:Nat->B) (s:Nat) (a b:B):upd (upd f s a) s b=upd f s b:=by
 funext i;unfold upd;split<;>rfl
def bw (x:aV) (s:Nat) (t:Tok) (v:Option (Nat×aN)) (d:Nat):aV:={x with tok:=upd x.tok s t,view:=upd x.view s v,deaf:=d}
section
variable {x:aV} {s:Nat} {t t':Tok} {v e8:Option (Nat×aN)} {d ef:Nat}
theorem gT:({bw x s t v d with tok:=upd (bw x s t v d).tok s t',view:=upd (bw x s t v d).view s e8}:aV)=bw x s t' e8 d:=by unfold bw;simp only[IU]
theorem kh:({bw x s t v d with view:=upd (bw x s t v d).view s e8}:aV)=bw x s t e8 d:=by unfold bw;simp only[IU]
theorem AE:({bw x s t v d with deaf:=(bw x s t v d).deaf+1}:aV)=bw x s t v (d+1):=rfl
theorem AF:({bw x s t v d with deaf:=(bw x s t v d).deaf-1}:aV)=bw x s t v (d-1):=rfl
theorem b2:(bw x s t v d).tok s=t:=by unfold bw;simp only[upd_same]
theorem pt:(bw x s t v d).view s=v:=by unfold bw;simp only[upd_same]
theorem AG {r:Nat} (h:r≠s):(bw x s t v d).tok r=x.tok r:=by unfold bw;exact upd_ne _ _ h
end
theorem IV {N:Nat} {τ:Nat->Tok} {φ AH:Tok->Nat} (h:∀t,φ t<=AH t):a8 N τ φ<=a8 N τ AH:=by
 induction N with
 | zero=>exact Nat.le_refl _
 | succ N Δ=>rw[vg,vg];have:=h (τ N);omega
theorem Zz {N:Nat} {τ:Nat->Tok} {φ AH:Tok->Nat}:a8 N τ (λt=>φ t+AH t)=a8 N τ φ+a8 N τ AH:=by
 induction N with
 | zero=>rfl
 | succ N Δ=>simp only[vg,Δ];omega
structure s7 (ς:aN) (t:Tok):Prop where
 cb:ς.cb<=1
 wk:ς.wk<=1
 sv:ς.sv<=1
 cX:ς.cX<=1
 nw:ς.nw<=ς.top
 BO:ma t=1->ς.sv=0/\ς.wk=1
 hw:m' t=1->ς.sv=1/\ς.wk=0/\ς.cb=0/\1<=ς.nw
 hold:h4 t=1->ς.cb=1
 y1:lx t=1->(ς.sv=0->ς.wk=1)/\(ς.sv=1->ς.wk=0/\ς.cb=0/\1<=ς.nw)
theorem vh.ng {ς:aN} {t:Tok} (h:vh ς t):s7 ς t:=by
 obtain⟨N,τ,i,⟨c0,cU⟩,hi,Ο,_⟩:=h;have l0:=fh τ h4 hi;have l2:=fh τ ma hi;have hz:=fh τ m' hi;have vb:=fh τ lx hi;rw[Ο] at l0 l2 hz vb;have bG:a8 N τ lu+a8 N τ lx<=a8 N τ ly:=by
  rw[<-Zz];refine IV λt=>?_;cases t<;>simp[lu,lx,ly];rename_i m _;cases m<;>simp[yZ,y0]
 have dj:a8 N τ m'<=a8 N τ lx:=IV λt=>by
  cases t<;>simp[m',lx];rename_i m _;cases m<;>simp[BL,y0]
 obtain⟨f1,f2,f3,a1,bl,cz,gb,hA,md⟩:=c0;obtain⟨Τ,af,aX,cr,gH,ib,Ex,s8,ZA⟩:=cU;have ο:ς.sv=0\/ς.sv=1:=by omega
 refine⟨f1,f2,f3,?_,?_,λJ=>?_,λJ=>?_,λJ=>?_,λJ=>⟨λe=>?_,λe=>?_⟩⟩
 ·rcases ο with e|e
  ·have:=bl e;omega
  ·have:=cz e;omega
 ·rcases ο with e|e
  ·have:=bl e;omega
  ·have:=cz e;omega
 ·rcases ο with e|e
  ·have:=bl e;omega
  ·have:=cz e;omega
 ·rcases ο with e|e
  ·have:=bl e;omega
  ·have:=cz e;omega
 ·omega
 ·have:=bl e;omega
 ·have:=cz e;omega
structure ZB (ς:aN) (t:Tok):Prop where
 wt:ς.wt<=1
 cnt:ς.cnt<=ς.top
 cE:ς.cE<=1
 live:iO t<=ς.cnt
 add:∀n p,t=.par n p .add->ς.wt=0/\ς.cE=0/\n<=ς.top/\p<=ς.cnt/\ς.cnt<=n
 fin:∀n p,t=.par n p .l'\/t=.par n p .w4\/t=.par n p .bA->ς.wt=0/\ς.cE=0/\ς.cnt=0
 l2:∀k m,t=.ch k m .l2->ς.wt=1/\ς.cnt=0
 hz:∀k m,t=.ch k m .hz->ς.wt=0/\ς.cnt=0/\ς.cE=0
theorem vh.s9 {ς:aN} {t:Tok} (h:vh ς t):ZB ς t:=by
 obtain⟨N,τ,i,⟨c0,cU⟩,hi,Ο,_⟩:=h;have l0:=fh τ iO hi;have l2:=fh τ jU hi;have hz:=fh τ jV hi;rw[Ο] at l0 l2 hz;have bG:a8 N τ iO<=a8 N τ ly:=IV λt=>by
  cases t<;>simp[iO,ly];rename_i g;cases g<;>simp[r8]
 unfold oI at cU;have Pb:eJ t=1->a8 N τ hc=hc t/\a8 N τ h5=h5 t/\a8 N τ mb=mb t/\a8 N τ lz=lz t/\a8 N τ h6=h6 t:=λψ=>by
  have fX:eJ (τ i)=1:=by rw[Ο];exact ψ
  refine⟨?_,?_,?_,?_,?_⟩<;>(rw[pI (λt Ο=>by cases t<;>simp_all [eJ,hc,h5,mb,lz,h6]) cU.nW hi fX,Ο])
 obtain⟨Τ,af,aX,cr,gH,ib,Ex,s8,ZA⟩:=cU;have π:a8 N τ mb=1\/a8 N τ lz=1\/a8 N τ h6=1:=by omega
 refine⟨Τ,by omega,?_,by omega,λn p e=>?_,λn p e=>?_,λk m e=>?_,λk m e=>?_⟩
 ·rcases π with e|e|e
  ·have:=ib e;omega
  ·have:=Ex e;omega
  ·have:=s8 e;omega
 ·subst e;obtain⟨dH,p2,p3,p4,Pd⟩:=Pb rfl;simp only[hc,h5,mb] at dH p2 p3;have:=ib p3;omega
 ·have ψ:eJ t=1:=by rcases e with rfl|rfl|rfl<;>rfl
  obtain⟨dH,p2,p3,p4,Pd⟩:=Pb ψ;have:a8 N τ h6=1:=by rw[Pd];rcases e with rfl|rfl|rfl<;>rfl
  have:=s8 this;omega
 ·subst e;simp only[jU,u9] at l2;rcases π with e|e|e
  ·have:=ib e;omega
  ·have:=Ex e;omega
  ·have:=s8 e;omega
 ·subst e;simp only[jV,u'] at hz;rcases π with e|e|e
  ·have:=ib e;omega
  ·have:=Ex e;omega
  ·have:=s8 e;omega
abbrev gU (a b c n:Nat):Int:=(a:Int)+2*b+4*c+8*n
theorem IW:∀a<2,∀b<2,∀c<2,∀n<8,eS .i32 (gU a b c n) 5=a+4*c:=by decide +kernel
theorem IX:∀a<2,∀b<2,∀c<2,∀n<8,eS .i32 (gU a b c n) 4=4*c:=by decide +kernel
theorem ZC:∀a<2,∀b<2,∀c<2,∀n<8,eS .i32 (gU a b c n) 3=a+2*b:=by decide +kernel
theorem ZD:∀a<2,∀b<2,∀c<2,∀n<8,eS .i32 (gU a b c n) 7=a+2*b+4*c:=by decide +kernel
theorem Ey:∀a<2,∀b<2,∀c<2,∀n<8,eS .i32 (gU a b c n) 2=2*b:=by decide +kernel
theorem ZE:∀a<2,∀b<2,∀c<2,∀n<8,eS .i32 (gU a b c n) 1=a:=by decide +kernel
theorem ZF:∀a<2,∀b<2,∀c<2,∀n<8,q5 .i32 (gU a b c n) 1=gU 1 b c n:=by decide +kernel
theorem ZG:∀a<2,∀b<2,∀c<2,∀n<8,q5 .i32 (gU a b c n) 2=gU a 1 c n:=by decide +kernel
theorem ZH:∀a<2,∀b<2,∀c<2,∀n<8,q5 .i32 (gU a b c n) 4=gU a b 1 n:=by decide +kernel
theorem IY:∀a<2,∀b<2,∀c<2,∀n<8,kQ .i32 (gU a b c n) 2=gU a 0 c n:=by decide +kernel
theorem IZ:∀a<2,∀b<2,∀c<2,∀n<8,(gU a b c n).fdiv (2 ^ min 3 IntKind.i32.bits)=n:=by decide +kernel
theorem ZI:∀a<2,∀b<2,∀c<2,∀n<7,IntKind.i32.wrap (gU a b c n+8)=gU a b c (n+1):=by decide +kernel
theorem pv (ς:aN):mwd ς=gU ς.cb ς.wk ς.sv ς.nw:=rfl
theorem AI:Entry Tryz.prog 160 (λ_=>do mark .disable;pure Extern.Race.none_):=⟨_,Tryz.func160,by kernel_rfl,by kernel_rfl,by kernel_rfl,by kernel_rfl⟩
theorem uG:Entry Tryz.prog 161 (λ_=>do mark .enable;pure Extern.Race.none_):=⟨_,Tryz.func161,by kernel_rfl,by kernel_rfl,by kernel_rfl,by kernel_rfl⟩
theorem Pe:Entry Tryz.prog 159 (Extern.Race.marked .releaseMerge):=⟨_,Tryz.func159,by kernel_rfl,by kernel_rfl,by kernel_rfl,by kernel_rfl⟩
theorem Ez:Entry Tryz.prog 177 (Extern.Race.marked .acquire):=⟨_,Tryz.func177,by kernel_rfl,by kernel_rfl,by kernel_rfl,by kernel_rfl⟩
theorem ZJ:Entry Tryz.prog 167 (Extern.Race.marked .read):=⟨_,Tryz.func167,by kernel_rfl,by kernel_rfl,by kernel_rfl,by kernel_rfl⟩
theorem ZK:Entry Tryz.prog 180 (Extern.Race.marked .write):=⟨_,Tryz.func180,by kernel_rfl,by kernel_rfl,by kernel_rfl,by kernel_rfl⟩
theorem Pf:Entry Tryz.prog 162 (λ_=>pure (.bool false)):=⟨_,Tryz.func162,by kernel_rfl,by kernel_rfl,by kernel_rfl,by kernel_rfl⟩
theorem EA:Entry Tryz.prog 212 (Extern.Atomic.casT (.int .i32)):=⟨_,Tryz.func212,by kernel_rfl,by kernel_rfl,by kernel_rfl,by kernel_rfl⟩
theorem Pg:Entry Tryz.prog 214 (Extern.Atomic.update (Op.intArith .add) .i32 true):=⟨_,Tryz.func214,by kernel_rfl,by kernel_rfl,by kernel_rfl,by kernel_rfl⟩
theorem ZL:Entry Tryz.prog 216 (Extern.Atomic.casT (.int .u64)):=⟨_,Tryz.func216,by kernel_rfl,by kernel_rfl,by kernel_rfl,by kernel_rfl⟩
theorem Ph:Entry Tryz.prog 207 (Extern.Atomic.update (Op.intArith .add) .u64 true):=⟨_,Tryz.func207,by kernel_rfl,by kernel_rfl,by kernel_rfl,by kernel_rfl⟩
theorem Pj:Entry Tryz.prog 208 (Extern.Atomic.loadT (.int .u64)):=⟨_,Tryz.func208,by kernel_rfl,by kernel_rfl,by kernel_rfl,by kernel_rfl⟩
theorem ZM:Entry Tryz.prog 209 Extern.Atomic.storeT:=⟨_,Tryz.func209,by kernel_rfl,by kernel_rfl,by kernel_rfl,by kernel_rfl⟩
theorem ZN:Entry Tryz.prog 242 Extern.Sync.canSpin:=⟨_,Tryz.func242,by kernel_rfl,by kernel_rfl,by kernel_rfl,by kernel_rfl⟩
theorem ZO:Entry Tryz.prog 243 (λ_=>pure (.tuple #[])):=⟨_,Tryz.func243,by kernel_rfl,by kernel_rfl,by kernel_rfl,by kernel_rfl⟩
theorem Pk:Entry Tryz.prog 245 Extern.OsHooks.nano:=⟨_,Tryz.func245,by kernel_rfl,by kernel_rfl,by kernel_rfl,by kernel_rfl⟩
theorem ZP:Entry Tryz.prog 246 Extern.Sync.semacquire:=⟨_,Tryz.func246,by kernel_rfl,by kernel_rfl,by kernel_rfl,by kernel_rfl⟩
theorem ZQ:Entry Tryz.prog 181 Extern.Sync.semacquire:=⟨_,Tryz.func181,by kernel_rfl,by kernel_rfl,by kernel_rfl,by kernel_rfl⟩
theorem Pl:Entry Tryz.prog 248 Extern.Sync.semrelease:=⟨_,Tryz.func248,by kernel_rfl,by kernel_rfl,by kernel_rfl,by kernel_rfl⟩
theorem ZR:Entry Tryz.prog 171 Extern.Sync.semrelease:=⟨_,Tryz.func171,by kernel_rfl,by kernel_rfl,by kernel_rfl,by kernel_rfl⟩
theorem uH:Tryz.prog.underlying 195=some .unsafePointer:=by kernel_rfl
theorem I0:Tryz.prog.underlying 237=some (.pointer 171):=by kernel_rfl
theorem I1:(Tryz.prog.info? 171).map (λi=>decide (i.size=0))=some false:=by kernel_rfl
theorem I2:Tryz.prog.underlying 193=some (.pointer 179):=by kernel_rfl
theorem I3:(Tryz.prog.info? 179).map (λi=>decide (i.size=0))=some false:=by kernel_rfl
theorem Pm:Tryz.prog.underlying 200=some (.pointer 169):=by kernel_rfl
theorem Pn:(Tryz.prog.info? 169).map (λi=>decide (i.size=0))=some false:=by kernel_rfl
theorem ye:Tryz.prog.underlying 21=some (.int .i32):=by kernel_rfl
theorem aM.leave0 [bm] {P:Program} {Q:Value->Prop} {mn:Bool} {z:gN} {c b:Frame} {rest:List Frame} {H:Α} {t:Array Value} {ops:Array Oper} {fn:Func} (U:Seq z) (hb:b.mode=.run) (cd:b.roundOf=none) (eC:b.defers=[]) (gJ:b.kind=.normal) (cf:P.funcs[b.fn]?=some fn) (eT:fn.results=#[])
  (h:aM P Q mn z (c.finish (.tuple #[])) rest H):aM P Q mn z (ar b t [.inRegion ops []]) (c::rest) H:=by
 refine .bF U hb (.sm U hb cd (.back U rfl eC (.inl gJ) cf ?_));rw[results_none eT];exact υ.pure' h
theorem cn.leave0 [bm] {P:Program} {Q:Value->Prop} {mn:Bool} {x:aV} {c b:Frame} {rest:List Frame} {H:Α} {t:Array Value} {ops:Array Oper} {fn:Func} (U:Seq (one x)) (hb:b.mode=.run) (cd:b.roundOf=none) (eC:b.defers=[]) (gJ:b.kind=.normal) (cf:P.funcs[b.fn]?=some fn) (eT:fn.results=#[])
  (h:cn P Q mn x (c.finish (.tuple #[])) rest H):cn P Q mn x (ar b t [.inRegion ops []]) (c::rest) H:=
 aM.leave0 (z:=one x) U hb cd eC gJ cf eT (λy Ξ=>by cases Ξ;exact h) x rfl
end Go.TL
