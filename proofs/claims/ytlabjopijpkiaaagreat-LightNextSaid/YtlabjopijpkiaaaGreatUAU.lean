import Derived.Test.YtlabjopijpkiaaaGreatUAM
import Derived.Test.YtlabjopijpkiaaaGreatUAT
set_option maxHeartbeats 16000000
set_option maxRecDepth 20000
set_option linter.unusedSectionVars false
set_option linter.unusedSimpArgs false
set_option linter.unusedVariables false
namespace Go.TL
open Go.Proofs
theorem W.Zz [bt] {nt:Nat} {E:η->aa->List Row->Prop} {m:Nat} {k:List Item} {env:aa} {σ:List Row} {Z:List Item->aa->List Row->Prop} {is kg:List Nat} (_:is=is) (_:kg=kg) {ops:Array Oper} {l:List Nat} (υ:l=is++kg) (h:∀Ε:aa->List Row->Prop,(∀env σ,W Tryz.prog m nt (.inRegion ops kg::k) env σ Z E->Ε env σ)->run Tryz.prog a7 [] nt ops is env σ Ε E):W Tryz.prog m nt (.inRegion ops l::k) env σ Z E:=W.part Φ is kg υ h
theorem ft (a b:List Nat) {p q:Prop} (k:q) (h:a=a->b=b->q->p:=by intro a1 bk k;refine W.Zz a1 bk rfl λΕ ζ=>?_;(try simp);(repeat (rw[Υ];simp));apply ζ;exact k):p:=h rfl rfl k
end Go.TL
namespace Go.TL
open Go.Conc Go.Proofs
open Go.ConcN (sumTo upd sumTo_upd upd_ne upd_same sumTo_congr le_sumTo)
theorem I' {B:Type} (f:Nat->B) (s:Nat) (a b:B):upd (upd f s a) s b=upd f s b:=by
 funext i;unfold upd;split<;>rfl
def bx (x:aX) (s:Nat) (t:Tok) (v:Option (Nat×aP)) (d:Nat):aX:={x with tok:=upd x.tok s t,view:=upd x.view s v,deaf:=d}
section
variable {x:aX} {s:Nat} {t t':Tok} {v fi:Option (Nat×aP)} {d dP:Nat}
theorem g3:({bx x s t v d with tok:=upd (bx x s t v d).tok s t',view:=upd (bx x s t v d).view s fi}:aX)=bx x s t' fi d:=by unfold bx;simp only[I']
theorem kv:({bx x s t v d with view:=upd (bx x s t v d).view s fi}:aX)=bx x s t fi d:=by unfold bx;simp only[I']
theorem AS:({bx x s t v d with deaf:=(bx x s t v d).deaf+1}:aX)=bx x s t v (d+1):=rfl
theorem AT:({bx x s t v d with deaf:=(bx x s t v d).deaf-1}:aX)=bx x s t v (d-1):=rfl
theorem b9:(bx x s t v d).tok s=t:=by unfold bx;simp only[upd_same]
theorem pB:(bx x s t v d).view s=v:=by unfold bx;simp only[upd_same]
theorem AU {r:Nat} (h:r≠s):(bx x s t v d).tok r=x.tok r:=by unfold bx;exact upd_ne _ _ h
end
theorem Ja {N:Nat} {τ:Nat->Tok} {φ AV:Tok->Nat} (h:∀t,φ t<=AV t):a' N τ φ<=a' N τ AV:=by
 induction N with
 | zero=>exact Nat.le_refl _
 | succ N Β=>rw[vm,vm];have:=h (τ N);omega
theorem ZA {N:Nat} {τ:Nat->Tok} {φ AV:Tok->Nat}:a' N τ (λt=>φ t+AV t)=a' N τ φ+a' N τ AV:=by
 induction N with
 | zero=>rfl
 | succ N Β=>simp only[vm,Β];omega
structure ti (ο:aP) (t:Tok):Prop where
 ck:ο.ck<=1
 wk:ο.wk<=1
 sv:ο.sv<=1
 c7:ο.c7<=1
 nw:ο.nw<=ο.top
 Cd:mo t=1->ο.sv=0/\ο.wk=1
 hw:ng t=1->ο.sv=1/\ο.wk=0/\ο.ck=0/\1<=ο.nw
 hold:ia t=1->ο.ck=1
 zd:lJ t=1->(ο.sv=0->ο.wk=1)/\(ο.sv=1->ο.wk=0/\ο.ck=0/\1<=ο.nw)
theorem vn.nm {ο:aP} {t:Tok} (h:vn ο t):ti ο t:=by
 obtain⟨N,τ,i,⟨dm,c5⟩,hi,Ν,_⟩:=h;have l0:=fv τ ia hi;have l2:=fv τ mo hi;have hN:=fv τ ng hi;have vh:=fv τ lJ hi;rw[Ν] at l0 l2 hN vh;have bJ:a' N τ lI+a' N τ lJ<=a' N τ lK:=by
  rw[<-ZA];refine Ja λt=>?_;cases t<;>simp[lI,lJ,lK];rename_i m _;cases m<;>simp[zb,zc]
 have c8:a' N τ ng<=a' N τ lJ:=Ja λt=>by
  cases t<;>simp[ng,lJ];rename_i m _;cases m<;>simp[Ca,zc]
 obtain⟨f1,f2,f3,a1,bk,cz,gm,hO,mw⟩:=dm;obtain⟨Τ,af,aZ,cA,gP,iq,EW,tj,ZB⟩:=c5;have ν:ο.sv=0\/ο.sv=1:=R;refine⟨f1,f2,f3,?_,?_,λI=>?_,λI=>?_,λI=>?_,λI=>⟨λe=>?_,λe=>?_⟩⟩
 ·rcases ν with e|e
  ·have:=bk e;omega
  ·have:=cz e;omega
 ·rcases ν with e|e
  ·have:=bk e;omega
  ·have:=cz e;omega
 ·rcases ν with e|e
  ·have:=bk e;omega
  ·have:=cz e;omega
 ·rcases ν with e|e
  ·have:=bk e;omega
  ·have:=cz e;omega
 ·omega
 ·have:=bk e;omega
 ·have:=cz e;omega
structure ZC (ο:aP) (t:Tok):Prop where
 wt:ο.wt<=1
 cnt:ο.cnt<=ο.top
 cL:ο.cL<=1
 live:i' t<=ο.cnt
 add:∀n p,t=.par n p .add->ο.wt=0/\ο.cL=0/\n<=ο.top/\p<=ο.cnt/\ο.cnt<=n
 fin:∀n p,t=.par n p .mm\/t=.par n p .w4\/t=.par n p .bB->ο.wt=0/\ο.cL=0/\ο.cnt=0
 l2:∀k m,t=.ch k m .l2->ο.wt=1/\ο.cnt=0
 hN:∀k m,t=.ch k m .hN->ο.wt=0/\ο.cnt=0/\ο.cL=0
theorem vn.tk {ο:aP} {t:Tok} (h:vn ο t):ZC ο t:=by
 obtain⟨N,τ,i,⟨dm,c5⟩,hi,Ν,_⟩:=h;have l0:=fv τ i' hi;have l2:=fv τ j3 hi;have hN:=fv τ j4 hi;rw[Ν] at l0 l2 hN;have bJ:a' N τ i'<=a' N τ lK:=Ja λt=>by
  cases t<;>simp[i',lK];rename_i g;cases g<;>simp[sg]
 unfold oL at c5;have Pv:eV t=1->a' N τ hn=hn t/\a' N τ ib=ib t/\a' N τ mq=mq t/\a' N τ lL=lL t/\a' N τ ic=ic t:=λψ=>by
  have gf:eV (τ i)=1:=by rw[Ν];exact ψ
  refine⟨?_,?_,?_,?_,?_⟩<;>(rw[pR (λt Ν=>by cases t<;>simp_all [eV,hn,ib,mq,lL,ic]) c5.nY hi gf,Ν])
 obtain⟨Τ,af,aZ,cA,gP,iq,EW,tj,ZB⟩:=c5;have ξ:a' N τ mq=1\/a' N τ lL=1\/a' N τ ic=1:=R;refine⟨Τ,R,?_,R,λn p e=>?_,λn p e=>?_,λk m e=>?_,λk m e=>?_⟩
 ·rcases ξ with e|e|e
  ·have:=iq e;omega
  ·have:=EW e;omega
  ·have:=tj e;omega
 ·subst e;obtain⟨dL,p2,p3,p4,Pw⟩:=Pv rfl;simp only[hn,ib,mq] at dL p2 p3;have:=iq p3;omega
 ·have ψ:eV t=1:=by rcases e with rfl|rfl|rfl<;>rfl
  obtain⟨dL,p2,p3,p4,Pw⟩:=Pv ψ;have:a' N τ ic=1:=by rw[Pw];rcases e with rfl|rfl|rfl<;>rfl
  have:=tj this;omega
 ·subst e;simp only[j3,ve] at l2;rcases ξ with e|e|e
  ·have:=iq e;omega
  ·have:=EW e;omega
  ·have:=tj e;omega
 ·subst e;simp only[j4,vf] at hN;rcases ξ with e|e|e
  ·have:=iq e;omega
  ·have:=EW e;omega
  ·have:=tj e;omega
abbrev g4 (a b c n:Nat):Int:=(a:Int)+2*b+4*c+8*n
theorem Jb:∀a<2,∀b<2,∀c<2,∀n<8,e4 .i32 (g4 a b c n) 5=a+4*c:=by decide +kernel
theorem Jc:∀a<2,∀b<2,∀c<2,∀n<8,e4 .i32 (g4 a b c n) 4=4*c:=by decide +kernel
theorem ZD:∀a<2,∀b<2,∀c<2,∀n<8,e4 .i32 (g4 a b c n) 3=a+2*b:=by decide +kernel
theorem ZE:∀a<2,∀b<2,∀c<2,∀n<8,e4 .i32 (g4 a b c n) 7=a+2*b+4*c:=by decide +kernel
theorem EX:∀a<2,∀b<2,∀c<2,∀n<8,e4 .i32 (g4 a b c n) 2=2*b:=by decide +kernel
theorem ZF:∀a<2,∀b<2,∀c<2,∀n<8,e4 .i32 (g4 a b c n) 1=a:=by decide +kernel
theorem ZG:∀a<2,∀b<2,∀c<2,∀n<8,rj .i32 (g4 a b c n) 1=g4 1 b c n:=by decide +kernel
theorem ZH:∀a<2,∀b<2,∀c<2,∀n<8,rj .i32 (g4 a b c n) 2=g4 a 1 c n:=by decide +kernel
theorem ZI:∀a<2,∀b<2,∀c<2,∀n<8,rj .i32 (g4 a b c n) 4=g4 a b 1 n:=by decide +kernel
theorem Jd:∀a<2,∀b<2,∀c<2,∀n<8,k7 .i32 (g4 a b c n) 2=g4 a 0 c n:=by decide +kernel
theorem Je:∀a<2,∀b<2,∀c<2,∀n<8,(g4 a b c n).fdiv (2 ^ min 3 IntKind.i32.bits)=n:=by decide +kernel
theorem ZJ:∀a<2,∀b<2,∀c<2,∀n<7,IntKind.i32.wrap (g4 a b c n+8)=g4 a b c (n+1):=by decide +kernel
theorem pC (ο:aP):mwd ο=g4 ο.ck ο.wk ο.sv ο.nw:=rfl
theorem AW:Entry Tryz.prog 160 (λ_=>do mark .disable;pure Extern.Race.none_):=⟨_,Tryz.func160,by kernel_rfl,by kernel_rfl,by kernel_rfl,by kernel_rfl⟩
theorem uN:Entry Tryz.prog 161 (λ_=>do mark .enable;pure Extern.Race.none_):=⟨_,Tryz.func161,by kernel_rfl,by kernel_rfl,by kernel_rfl,by kernel_rfl⟩
theorem Px:Entry Tryz.prog 159 (Extern.Race.marked .releaseMerge):=⟨_,Tryz.func159,by kernel_rfl,by kernel_rfl,by kernel_rfl,by kernel_rfl⟩
theorem EY:Entry Tryz.prog 177 (Extern.Race.marked .acquire):=⟨_,Tryz.func177,by kernel_rfl,by kernel_rfl,by kernel_rfl,by kernel_rfl⟩
theorem ZK:Entry Tryz.prog 167 (Extern.Race.marked .read):=⟨_,Tryz.func167,by kernel_rfl,by kernel_rfl,by kernel_rfl,by kernel_rfl⟩
theorem ZL:Entry Tryz.prog 180 (Extern.Race.marked .write):=⟨_,Tryz.func180,by kernel_rfl,by kernel_rfl,by kernel_rfl,by kernel_rfl⟩
theorem Py:Entry Tryz.prog 162 (λ_=>pure (.bool false)):=⟨_,Tryz.func162,by kernel_rfl,by kernel_rfl,by kernel_rfl,by kernel_rfl⟩
theorem EZ:Entry Tryz.prog 212 (Extern.Atomic.casT (.int .i32)):=⟨_,Tryz.func212,by kernel_rfl,by kernel_rfl,by kernel_rfl,by kernel_rfl⟩
theorem Pz:Entry Tryz.prog 214 (Extern.Atomic.update (Op.intArith .add) .i32 true):=⟨_,Tryz.func214,by kernel_rfl,by kernel_rfl,by kernel_rfl,by kernel_rfl⟩
theorem ZM:Entry Tryz.prog 216 (Extern.Atomic.casT (.int .u64)):=⟨_,Tryz.func216,by kernel_rfl,by kernel_rfl,by kernel_rfl,by kernel_rfl⟩
theorem PA:Entry Tryz.prog 207 (Extern.Atomic.update (Op.intArith .add) .u64 true):=⟨_,Tryz.func207,by kernel_rfl,by kernel_rfl,by kernel_rfl,by kernel_rfl⟩
theorem PB:Entry Tryz.prog 208 (Extern.Atomic.loadT (.int .u64)):=⟨_,Tryz.func208,by kernel_rfl,by kernel_rfl,by kernel_rfl,by kernel_rfl⟩
theorem ZN:Entry Tryz.prog 209 Extern.Atomic.storeT:=⟨_,Tryz.func209,by kernel_rfl,by kernel_rfl,by kernel_rfl,by kernel_rfl⟩
theorem ZO:Entry Tryz.prog 242 Extern.Sync.canSpin:=⟨_,Tryz.func242,by kernel_rfl,by kernel_rfl,by kernel_rfl,by kernel_rfl⟩
theorem ZP:Entry Tryz.prog 243 (λ_=>pure (.tuple #[])):=⟨_,Tryz.func243,by kernel_rfl,by kernel_rfl,by kernel_rfl,by kernel_rfl⟩
theorem PC:Entry Tryz.prog 245 Extern.OsHooks.nano:=⟨_,Tryz.func245,by kernel_rfl,by kernel_rfl,by kernel_rfl,by kernel_rfl⟩
theorem ZQ:Entry Tryz.prog 246 Extern.Sync.semacquire:=⟨_,Tryz.func246,by kernel_rfl,by kernel_rfl,by kernel_rfl,by kernel_rfl⟩
theorem ZR:Entry Tryz.prog 181 Extern.Sync.semacquire:=⟨_,Tryz.func181,by kernel_rfl,by kernel_rfl,by kernel_rfl,by kernel_rfl⟩
theorem PD:Entry Tryz.prog 248 Extern.Sync.semrelease:=⟨_,Tryz.func248,by kernel_rfl,by kernel_rfl,by kernel_rfl,by kernel_rfl⟩
theorem ZS:Entry Tryz.prog 171 Extern.Sync.semrelease:=⟨_,Tryz.func171,by kernel_rfl,by kernel_rfl,by kernel_rfl,by kernel_rfl⟩
theorem uO:Tryz.prog.underlying 195=some .unsafePointer:=by kernel_rfl
theorem Jf:Tryz.prog.underlying 237=some (.pointer 171):=by kernel_rfl
theorem Jg:(Tryz.prog.info? 171).map (λi=>decide (i.size=0))=some false:=by kernel_rfl
theorem Jh:Tryz.prog.underlying 193=some (.pointer 179):=by kernel_rfl
theorem Ji:(Tryz.prog.info? 179).map (λi=>decide (i.size=0))=some false:=by kernel_rfl
theorem PE:Tryz.prog.underlying 200=some (.pointer 169):=by kernel_rfl
theorem PF:(Tryz.prog.info? 169).map (λi=>decide (i.size=0))=some false:=by kernel_rfl
theorem yp:Tryz.prog.underlying 21=some (.int .i32):=by kernel_rfl
theorem aO.leave0 [bt] {P:Program} {Q:Value->Prop} {mn:Bool} {z:gV} {c b:Frame} {rest:List Frame} {H:χ} {t:Array Value} {ops:Array Oper} {fn:Func} (γ:Seq z) (hb:b.mode=.run) (cm:b.roundOf=none) (eP:b.defers=[]) (gR:b.kind=.normal) (bY:P.funcs[b.fn]?=some fn) (e5:fn.results=#[])
  (h:aO P Q mn z (c.finish (.tuple #[])) rest H):aO P Q mn z (ax b t [.inRegion ops []]) (c::rest) H:=by
 refine .bI γ hb (.sy γ hb cm (.back γ rfl eP (.inl gR) bY ?_));rw[results_none e5];exact π.pure' h
theorem cw.leave0 [bt] {P:Program} {Q:Value->Prop} {mn:Bool} {x:aX} {c b:Frame} {rest:List Frame} {H:χ} {t:Array Value} {ops:Array Oper} {fn:Func} (γ:Seq (one x)) (hb:b.mode=.run) (cm:b.roundOf=none) (eP:b.defers=[]) (gR:b.kind=.normal) (bY:P.funcs[b.fn]?=some fn) (e5:fn.results=#[])
  (h:cw P Q mn x (c.finish (.tuple #[])) rest H):cw P Q mn x (ax b t [.inRegion ops []]) (c::rest) H:=
 aO.leave0 (z:=one x) γ hb cm eP gR bY e5 (λy Ο=>by cases Ο;exact h) x rfl
end Go.TL
