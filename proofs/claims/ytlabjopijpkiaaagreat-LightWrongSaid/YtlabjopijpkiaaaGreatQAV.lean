import Derived.Test.YtlabjopijpkiaaaGreatQAM
import Derived.Test.YtlabjopijpkiaaaGreatQAU
set_option maxHeartbeats 16000000
set_option maxRecDepth 20000
set_option linter.unusedSectionVars false
set_option linter.unusedSimpArgs false
set_option linter.unusedVariables false
namespace Go.TL
open Go.Conc Go.Proofs
open Go.ConcN (sumTo upd sumTo_upd upd_ne upd_same sumTo_congr le_sumTo)
theorem IA {B:Type} (f:Nat->B) (s:Nat) (a b:B):upd (upd f s a) s b=upd f s b:=by
 funext i;unfold upd;split<;>rfl
def bx (x:aU) (s:Nat) (t:Tok) (v:Option (Nat×aM)) (d:Nat):aU:={x with tok:=upd x.tok s t,view:=upd x.view s v,deaf:=d}
section
variable {x:aU} {s:Nat} {t t':Tok} {v e':Option (Nat×aM)} {d ep:Nat}
theorem gX:({bx x s t v d with tok:=upd (bx x s t v d).tok s t',view:=upd (bx x s t v d).view s e'}:aU)=bx x s t' e' d:=by unfold bx;simp only[IA]
theorem j5:({bx x s t v d with view:=upd (bx x s t v d).view s e'}:aU)=bx x s t e' d:=by unfold bx;simp only[IA]
theorem AS:({bx x s t v d with deaf:=(bx x s t v d).deaf+1}:aU)=bx x s t v (d+1):=rfl
theorem AT:({bx x s t v d with deaf:=(bx x s t v d).deaf-1}:aU)=bx x s t v (d-1):=rfl
theorem b3:(bx x s t v d).tok s=t:=by unfold bx;simp only[upd_same]
theorem o3:(bx x s t v d).view s=v:=by unfold bx;simp only[upd_same]
theorem AU {r:Nat} (h:r≠s):(bx x s t v d).tok r=x.tok r:=by unfold bx;exact upd_ne _ _ h
end
theorem IB {N:Nat} {τ:Nat->Tok} {φ AV:Tok->Nat} (h:∀t,φ t<=AV t):a7 N τ φ<=a7 N τ AV:=by
 induction N with
 | zero=>exact Nat.le_refl _
 | succ N Δ=>rw[vb,vb];have:=h (τ N);omega
theorem Yn {N:Nat} {τ:Nat->Tok} {φ AV:Tok->Nat}:a7 N τ (λt=>φ t+AV t)=a7 N τ φ+a7 N τ AV:=by
 induction N with
 | zero=>rfl
 | succ N Δ=>simp only[vb,Δ];omega
structure sR (ς:aM) (t:Tok):Prop where
 cb:ς.cb<=1
 wk:ς.wk<=1
 sv:ς.sv<=1
 c0:ς.c0<=1
 nw:ς.nw<=ς.top
 BZ:l3 t=1->ς.sv=0/\ς.wk=1
 hw:mX t=1->ς.sv=1/\ς.wk=0/\ς.cb=0/\1<=ς.nw
 hold:h' t=1->ς.cb=1
 y7:lf t=1->(ς.sv=0->ς.wk=1)/\(ς.sv=1->ς.wk=0/\ς.cb=0/\1<=ς.nw)
theorem vc.m2 {ς:aM} {t:Tok} (h:vc ς t):sR ς t:=by
 obtain⟨N,τ,i,⟨cd,cX⟩,hi,Ξ,_⟩:=h;have l0:=fp τ h' hi;have l2:=fp τ l3 hi;have hG:=fp τ mX hi;have tm:=fp τ lf hi;rw[Ξ] at l0 l2 hG tm;have bP:a7 N τ lb+a7 N τ lf<=a7 N τ lg:=by
  rw[<-Yn];refine IB λt=>?_;cases t<;>simp[lb,lf,lg];rename_i m _;cases m<;>simp[y5,y6]
 have dw:a7 N τ mX<=a7 N τ lf:=IB λt=>by
  cases t<;>simp[mX,lf];rename_i m _;cases m<;>simp[BW,y6]
 obtain⟨f1,f2,f3,a1,ba,cm,fY,hH,l6⟩:=cd;obtain⟨Ρ,ag,aV,cr,gO,iq,EC,sS,Yo⟩:=cX;have ο:ς.sv=0\/ς.sv=1:=by omega
 refine⟨f1,f2,f3,?_,?_,λJ=>?_,λJ=>?_,λJ=>?_,λJ=>⟨λe=>?_,λe=>?_⟩⟩
 ·rcases ο with e|e
  ·have:=ba e;omega
  ·have:=cm e;omega
 ·rcases ο with e|e
  ·have:=ba e;omega
  ·have:=cm e;omega
 ·rcases ο with e|e
  ·have:=ba e;omega
  ·have:=cm e;omega
 ·rcases ο with e|e
  ·have:=ba e;omega
  ·have:=cm e;omega
 ·omega
 ·have:=ba e;omega
 ·have:=cm e;omega
structure Yp (ς:aM) (t:Tok):Prop where
 wt:ς.wt<=1
 cnt:ς.cnt<=ς.top
 cH:ς.cH<=1
 live:iU t<=ς.cnt
 add:∀n p,t=.par n p .add->ς.wt=0/\ς.cH=0/\n<=ς.top/\p<=ς.cnt/\ς.cnt<=n
 fin:∀n p,t=.par n p .lZ\/t=.par n p .w4\/t=.par n p .bF->ς.wt=0/\ς.cH=0/\ς.cnt=0
 l2:∀k m,t=.ch k m .l2->ς.wt=1/\ς.cnt=0
 hG:∀k m,t=.ch k m .hG->ς.wt=0/\ς.cnt=0/\ς.cH=0
theorem vc.sT {ς:aM} {t:Tok} (h:vc ς t):Yp ς t:=by
 obtain⟨N,τ,i,⟨cd,cX⟩,hi,Ξ,_⟩:=h;have l0:=fp τ iU hi;have l2:=fp τ jR hi;have hG:=fp τ jS hi;rw[Ξ] at l0 l2 hG;have bP:a7 N τ iU<=a7 N τ lg:=IB λt=>by
  cases t<;>simp[iU,lg];rename_i g;cases g<;>simp[rU]
 unfold oo at cX;have Ox:eM t=1->a7 N τ hl=hl t/\a7 N τ ia=ia t/\a7 N τ l4=l4 t/\a7 N τ lh=lh t/\a7 N τ ib=ib t:=λω=>by
  have hU:eM (τ i)=1:=by rw[Ξ];exact ω
  refine⟨?_,?_,?_,?_,?_⟩<;>(rw[pq (λt Ξ=>by cases t<;>simp_all [eM,hl,ia,l4,lh,ib]) cX.nK hi hU,Ξ])
 obtain⟨Ρ,ag,aV,cr,gO,iq,EC,sS,Yo⟩:=cX;have π:a7 N τ l4=1\/a7 N τ lh=1\/a7 N τ ib=1:=by omega
 refine⟨Ρ,by omega,?_,by omega,λn p e=>?_,λn p e=>?_,λk m e=>?_,λk m e=>?_⟩
 ·rcases π with e|e|e
  ·have:=iq e;omega
  ·have:=EC e;omega
  ·have:=sS e;omega
 ·subst e;obtain⟨dP,p2,p3,p4,Oy⟩:=Ox rfl;simp only[hl,ia,l4] at dP p2 p3;have:=iq p3;omega
 ·have ω:eM t=1:=by rcases e with rfl|rfl|rfl<;>rfl
  obtain⟨dP,p2,p3,p4,Oy⟩:=Ox ω;have:a7 N τ ib=1:=by rw[Oy];rcases e with rfl|rfl|rfl<;>rfl
  have:=sS this;omega
 ·subst e;simp only[jR,u3] at l2;rcases π with e|e|e
  ·have:=iq e;omega
  ·have:=EC e;omega
  ·have:=sS e;omega
 ·subst e;simp only[jS,u4] at hG;rcases π with e|e|e
  ·have:=iq e;omega
  ·have:=EC e;omega
  ·have:=sS e;omega
abbrev gY (a b c n:Nat):Int:=(a:Int)+2*b+4*c+8*n
theorem IC:∀a<2,∀b<2,∀c<2,∀n<8,gz .i32 (gY a b c n) 5=a+4*c:=by decide +kernel
theorem ID:∀a<2,∀b<2,∀c<2,∀n<8,gz .i32 (gY a b c n) 4=4*c:=by decide +kernel
theorem Yq:∀a<2,∀b<2,∀c<2,∀n<8,gz .i32 (gY a b c n) 3=a+2*b:=by decide +kernel
theorem Yr:∀a<2,∀b<2,∀c<2,∀n<8,gz .i32 (gY a b c n) 7=a+2*b+4*c:=by decide +kernel
theorem ED:∀a<2,∀b<2,∀c<2,∀n<8,gz .i32 (gY a b c n) 2=2*b:=by decide +kernel
theorem Ys:∀a<2,∀b<2,∀c<2,∀n<8,gz .i32 (gY a b c n) 1=a:=by decide +kernel
theorem Yt:∀a<2,∀b<2,∀c<2,∀n<8,xI .i32 (gY a b c n) 1=gY 1 b c n:=by decide +kernel
theorem Yu:∀a<2,∀b<2,∀c<2,∀n<8,xI .i32 (gY a b c n) 2=gY a 1 c n:=by decide +kernel
theorem Yv:∀a<2,∀b<2,∀c<2,∀n<8,xI .i32 (gY a b c n) 4=gY a b 1 n:=by decide +kernel
theorem IE:∀a<2,∀b<2,∀c<2,∀n<8,qS .i32 (gY a b c n) 2=gY a 0 c n:=by decide +kernel
theorem IF:∀a<2,∀b<2,∀c<2,∀n<8,(gY a b c n).fdiv (2 ^ min 3 IntKind.i32.bits)=n:=by decide +kernel
theorem Yw:∀a<2,∀b<2,∀c<2,∀n<7,IntKind.i32.wrap (gY a b c n+8)=gY a b c (n+1):=by decide +kernel
theorem o4 (ς:aM):mwd ς=gY ς.cb ς.wk ς.sv ς.nw:=rfl
theorem AW:Entry Tryz.prog 160 (λ_=>do mark .disable;pure Extern.Race.none_):=⟨_,Tryz.func160,by kernel_rfl,by kernel_rfl,by kernel_rfl,by kernel_rfl⟩
theorem uD:Entry Tryz.prog 161 (λ_=>do mark .enable;pure Extern.Race.none_):=⟨_,Tryz.func161,by kernel_rfl,by kernel_rfl,by kernel_rfl,by kernel_rfl⟩
theorem Oz:Entry Tryz.prog 159 (Extern.Race.marked .releaseMerge):=⟨_,Tryz.func159,by kernel_rfl,by kernel_rfl,by kernel_rfl,by kernel_rfl⟩
theorem EE:Entry Tryz.prog 177 (Extern.Race.marked .acquire):=⟨_,Tryz.func177,by kernel_rfl,by kernel_rfl,by kernel_rfl,by kernel_rfl⟩
theorem Yx:Entry Tryz.prog 167 (Extern.Race.marked .read):=⟨_,Tryz.func167,by kernel_rfl,by kernel_rfl,by kernel_rfl,by kernel_rfl⟩
theorem Yy:Entry Tryz.prog 180 (Extern.Race.marked .write):=⟨_,Tryz.func180,by kernel_rfl,by kernel_rfl,by kernel_rfl,by kernel_rfl⟩
theorem OA:Entry Tryz.prog 162 (λ_=>pure (.bool false)):=⟨_,Tryz.func162,by kernel_rfl,by kernel_rfl,by kernel_rfl,by kernel_rfl⟩
theorem EF:Entry Tryz.prog 212 (Extern.Atomic.casT (.int .i32)):=⟨_,Tryz.func212,by kernel_rfl,by kernel_rfl,by kernel_rfl,by kernel_rfl⟩
theorem OB:Entry Tryz.prog 214 (Extern.Atomic.update (Op.intArith .add) .i32 true):=⟨_,Tryz.func214,by kernel_rfl,by kernel_rfl,by kernel_rfl,by kernel_rfl⟩
theorem Yz:Entry Tryz.prog 216 (Extern.Atomic.casT (.int .u64)):=⟨_,Tryz.func216,by kernel_rfl,by kernel_rfl,by kernel_rfl,by kernel_rfl⟩
theorem OC:Entry Tryz.prog 207 (Extern.Atomic.update (Op.intArith .add) .u64 true):=⟨_,Tryz.func207,by kernel_rfl,by kernel_rfl,by kernel_rfl,by kernel_rfl⟩
theorem OD:Entry Tryz.prog 208 (Extern.Atomic.loadT (.int .u64)):=⟨_,Tryz.func208,by kernel_rfl,by kernel_rfl,by kernel_rfl,by kernel_rfl⟩
theorem YA:Entry Tryz.prog 209 Extern.Atomic.storeT:=⟨_,Tryz.func209,by kernel_rfl,by kernel_rfl,by kernel_rfl,by kernel_rfl⟩
theorem YB:Entry Tryz.prog 242 Extern.Sync.canSpin:=⟨_,Tryz.func242,by kernel_rfl,by kernel_rfl,by kernel_rfl,by kernel_rfl⟩
theorem YC:Entry Tryz.prog 243 (λ_=>pure (.tuple #[])):=⟨_,Tryz.func243,by kernel_rfl,by kernel_rfl,by kernel_rfl,by kernel_rfl⟩
theorem OE:Entry Tryz.prog 245 Extern.OsHooks.nano:=⟨_,Tryz.func245,by kernel_rfl,by kernel_rfl,by kernel_rfl,by kernel_rfl⟩
theorem YD:Entry Tryz.prog 246 Extern.Sync.semacquire:=⟨_,Tryz.func246,by kernel_rfl,by kernel_rfl,by kernel_rfl,by kernel_rfl⟩
theorem YE:Entry Tryz.prog 181 Extern.Sync.semacquire:=⟨_,Tryz.func181,by kernel_rfl,by kernel_rfl,by kernel_rfl,by kernel_rfl⟩
theorem OF:Entry Tryz.prog 248 Extern.Sync.semrelease:=⟨_,Tryz.func248,by kernel_rfl,by kernel_rfl,by kernel_rfl,by kernel_rfl⟩
theorem YF:Entry Tryz.prog 171 Extern.Sync.semrelease:=⟨_,Tryz.func171,by kernel_rfl,by kernel_rfl,by kernel_rfl,by kernel_rfl⟩
theorem uE:Tryz.prog.underlying 195=some .unsafePointer:=by kernel_rfl
theorem IG:Tryz.prog.underlying 237=some (.pointer 171):=by kernel_rfl
theorem IH:(Tryz.prog.info? 171).map (λi=>decide (i.size=0))=some false:=by kernel_rfl
theorem II:Tryz.prog.underlying 193=some (.pointer 179):=by kernel_rfl
theorem IJ:(Tryz.prog.info? 179).map (λi=>decide (i.size=0))=some false:=by kernel_rfl
theorem OG:Tryz.prog.underlying 200=some (.pointer 169):=by kernel_rfl
theorem OH:(Tryz.prog.info? 169).map (λi=>decide (i.size=0))=some false:=by kernel_rfl
theorem ys:Tryz.prog.underlying 21=some (.int .i32):=by kernel_rfl
theorem aE.leave0 [bn] {P:Program} {Q:Value->Prop} {mn:Bool} {z:gL} {c b:Frame} {rest:List Frame} {H:ψ} {t:Array Value} {ops:Array Oper} {fn:Func} (U:Seq z) (hb:b.mode=.run) (cf:b.roundOf=none) (eo:b.defers=[]) (gq:b.kind=.normal) (bY:P.funcs[b.fn]?=some fn) (eY:fn.results=#[])
  (h:aE P Q mn z (c.finish (.tuple #[])) rest H):aE P Q mn z (au b t [.inRegion ops []]) (c::rest) H:=by
 refine .bJ U hb (.sa U hb cf (.back U rfl eo (.inl gq) bY ?_));rw[results_none eY];exact υ.pure' h
theorem cq.leave0 [bn] {P:Program} {Q:Value->Prop} {mn:Bool} {x:aU} {c b:Frame} {rest:List Frame} {H:ψ} {t:Array Value} {ops:Array Oper} {fn:Func} (U:Seq (one x)) (hb:b.mode=.run) (cf:b.roundOf=none) (eo:b.defers=[]) (gq:b.kind=.normal) (bY:P.funcs[b.fn]?=some fn) (eY:fn.results=#[])
  (h:cq P Q mn x (c.finish (.tuple #[])) rest H):cq P Q mn x (au b t [.inRegion ops []]) (c::rest) H:=
 aE.leave0 (z:=one x) U hb cf eo gq bY eY (λy Ο=>by cases Ο;exact h) x rfl
end Go.TL
