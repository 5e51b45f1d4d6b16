import Derived.Test.YtlabjopijpkiaaaGreatDAM
import Derived.Test.YtlabjopijpkiaaaGreatDAU
set_option maxHeartbeats 16000000
set_option maxRecDepth 20000
set_option linter.unusedSectionVars false
set_option linter.unusedSimpArgs false
set_option linter.unusedVariables false
namespace Go.TL
open Go.Proofs
theorem W.Xp [bj] {nt:Nat} {E:θ->ab->List Row->Prop} {m:Nat} {k:List Item} {env:ab} {σ:List Row} {Z:List Item->ab->List Row->Prop} {is j7:List Nat} (_:is=is) (_:j7=j7) {ops:Array Oper} {l:List Nat} (υ:l=is++j7) (h:∀Δ:ab->List Row->Prop,(∀env σ,W Tryz.prog m nt (.inRegion ops j7::k) env σ Z E->Δ env σ)->run Tryz.prog bf [] nt ops is env σ Δ E):W Tryz.prog m nt (.inRegion ops l::k) env σ Z E:=W.part Ρ is j7 υ h
theorem fp (a b:List Nat) {p q:Prop} (k:q) (h:a=a->b=b->q->p:=by intro a1 a2 k;refine W.Xp a1 a2 rfl λΔ ζ=>?_;(try simp);(repeat (rw[ae];simp));apply ζ;exact k):p:=h rfl rfl k
end Go.TL
namespace Go.TL
open Go.Conc Go.Proofs
open Go.ConcN (sumTo upd sumTo_upd upd_ne upd_same sumTo_congr le_sumTo)
theorem HM {B:Type} (f:Nat->B) (s:Nat) (a b:B):upd (upd f s a) s b=upd f s b:=by
 funext i;unfold upd;split<;>rfl
def bw (x:aW) (s:Nat) (t:Tok) (v:Option (Nat×aN)) (d:Nat):aW:={x with tok:=upd x.tok s t,view:=upd x.view s v,deaf:=d}
section
variable {x:aW} {s:Nat} {t t':Tok} {v fc:Option (Nat×aN)} {d WW:Nat}
theorem gR:({bw x s t v d with tok:=upd (bw x s t v d).tok s t',view:=upd (bw x s t v d).view s fc}:aW)=bw x s t' fc d:=by unfold bw;simp only[HM]
theorem kl:({bw x s t v d with view:=upd (bw x s t v d).view s fc}:aW)=bw x s t fc d:=by unfold bw;simp only[HM]
theorem Ag:({bw x s t v d with deaf:=(bw x s t v d).deaf+1}:aW)=bw x s t v (d+1):=rfl
theorem Ah:({bw x s t v d with deaf:=(bw x s t v d).deaf-1}:aW)=bw x s t v (d-1):=rfl
theorem b4:(bw x s t v d).tok s=t:=by unfold bw;simp only[upd_same]
theorem o5:(bw x s t v d).view s=v:=by unfold bw;simp only[upd_same]
theorem Ai {r:Nat} (h:r≠s):(bw x s t v d).tok r=x.tok r:=by unfold bw;exact upd_ne _ _ h
end
theorem HN {N:Nat} {τ:Nat->Tok} {φ Aj:Tok->Nat} (h:∀t,φ t<=Aj t):a8 N τ φ<=a8 N τ Aj:=by
 induction N with
 | zero=>exact Nat.le_refl _
 | succ N ω=>rw[uB,uB];have:=h (τ N);omega
theorem Xq {N:Nat} {τ:Nat->Tok} {φ Aj:Tok->Nat}:a8 N τ (λt=>φ t+Aj t)=a8 N τ φ+a8 N τ Aj:=by
 induction N with
 | zero=>rfl
 | succ N ω=>simp only[uB,ω];omega
structure sF (ο:aN) (t:Tok):Prop where
 cb:ο.cb<=1
 wk:ο.wk<=1
 sv:ο.sv<=1
 cZ:ο.cZ<=1
 nw:ο.nw<=ο.top
 Bh:lX t=1->ο.sv=0/\ο.wk=1
 hw:mS t=1->ο.sv=1/\ο.wk=0/\ο.cb=0/\1<=ο.nw
 hold:h5 t=1->ο.cb=1
 yu:lk t=1->(ο.sv=0->ο.wk=1)/\(ο.sv=1->ο.wk=0/\ο.cb=0/\1<=ο.nw)
theorem uC.mZ {ο:aN} {t:Tok} (h:uC ο t):sF ο t:=by
 obtain⟨N,τ,i,⟨cd,dn⟩,hi,Ν,_⟩:=h;have l0:=fq τ h5 hi;have l2:=fq τ lX hi;have hz:=fq τ mS hi;have sW:=fq τ lk hi;rw[Ν] at l0 l2 hz sW;have bK:a8 N τ lj+a8 N τ lk<=a8 N τ ll:=by
  rw[<-Xq];refine HN λt=>?_;cases t<;>simp[lj,lk,ll];rename_i m _;cases m<;>simp[ys,yt]
 have da:a8 N τ mS<=a8 N τ lk:=HN λt=>by
  cases t<;>simp[mS,lk];rename_i m _;cases m<;>simp[Be,yt]
 obtain⟨f1,f2,f3,a1,a2,ck,fY,hA,l3⟩:=cd;obtain⟨Ξ,ah,aR,ca,iB,j4,DV,sG,Xr⟩:=dn;have μ:ο.sv=0\/ο.sv=1:=γ;refine⟨f1,f2,f3,?_,?_,λI=>?_,λI=>?_,λI=>?_,λI=>⟨λe=>?_,λe=>?_⟩⟩
 ·rcases μ with e|e
  ·have:=a2 e;omega
  ·have:=ck e;omega
 ·rcases μ with e|e
  ·have:=a2 e;omega
  ·have:=ck e;omega
 ·rcases μ with e|e
  ·have:=a2 e;omega
  ·have:=ck e;omega
 ·rcases μ with e|e
  ·have:=a2 e;omega
  ·have:=ck e;omega
 ·omega
 ·have:=a2 e;omega
 ·have:=ck e;omega
structure Xs (ο:aN) (t:Tok):Prop where
 wt:ο.wt<=1
 cnt:ο.cnt<=ο.top
 cB:ο.cB<=1
 live:iM t<=ο.cnt
 add:∀n p,t=.par n p .add->ο.wt=0/\ο.cB=0/\n<=ο.top/\p<=ο.cnt/\ο.cnt<=n
 fin:∀n p,t=.par n p .lW\/t=.par n p .w4\/t=.par n p .cq->ο.wt=0/\ο.cB=0/\ο.cnt=0
 l2:∀k m,t=.ch k m .l2->ο.wt=1/\ο.cnt=0
 hz:∀k m,t=.ch k m .hz->ο.wt=0/\ο.cnt=0/\ο.cB=0
theorem uC.sH {ο:aN} {t:Tok} (h:uC ο t):Xs ο t:=by
 obtain⟨N,τ,i,⟨cd,dn⟩,hi,Ν,_⟩:=h;have l0:=fq τ iM hi;have l2:=fq τ jX hi;have hz:=fq τ jY hi;rw[Ν] at l0 l2 hz;have bK:a8 N τ iM<=a8 N τ ll:=HN λt=>by
  cases t<;>simp[iM,ll];rename_i g;cases g<;>simp[rG]
 unfold oe at dn;have NN:eT t=1->a8 N τ hf=hf t/\a8 N τ h6=h6 t/\a8 N τ lY=lY t/\a8 N τ ln=ln t/\a8 N τ h7=h7 t:=λς=>by
  have hO:eT (τ i)=1:=by rw[Ν];exact ς
  refine⟨?_,?_,?_,?_,?_⟩<;>(rw[pn (λt Ν=>by cases t<;>simp_all [eT,hf,h6,lY,ln,h7]) dn.np hi hO,Ν])
 obtain⟨Ξ,ah,aR,ca,iB,j4,DV,sG,Xr⟩:=dn;have ν:a8 N τ lY=1\/a8 N τ ln=1\/a8 N τ h7=1:=γ;refine⟨Ξ,γ,?_,γ,λn p e=>?_,λn p e=>?_,λk m e=>?_,λk m e=>?_⟩
 ·rcases ν with e|e|e
  ·have:=j4 e;omega
  ·have:=DV e;omega
  ·have:=sG e;omega
 ·subst e;obtain⟨dD,p2,p3,p4,NO⟩:=NN rfl;simp only[hf,h6,lY] at dD p2 p3;have:=j4 p3;omega
 ·have ς:eT t=1:=by rcases e with rfl|rfl|rfl<;>rfl
  obtain⟨dD,p2,p3,p4,NO⟩:=NN ς;have:a8 N τ h7=1:=by rw[NO];rcases e with rfl|rfl|rfl<;>rfl
  have:=sG this;omega
 ·subst e;simp only[jX,uq] at l2;rcases ν with e|e|e
  ·have:=j4 e;omega
  ·have:=DV e;omega
  ·have:=sG e;omega
 ·subst e;simp only[jY,uu] at hz;rcases ν with e|e|e
  ·have:=j4 e;omega
  ·have:=DV e;omega
  ·have:=sG e;omega
abbrev gS (a b c n:Nat):Int:=(a:Int)+2*b+4*c+8*n
theorem HO:∀a<2,∀b<2,∀c<2,∀n<8,iA .i32 (gS a b c n) 5=a+4*c:=by decide +kernel
theorem HP:∀a<2,∀b<2,∀c<2,∀n<8,iA .i32 (gS a b c n) 4=4*c:=by decide +kernel
theorem Xt:∀a<2,∀b<2,∀c<2,∀n<8,iA .i32 (gS a b c n) 3=a+2*b:=by decide +kernel
theorem Xu:∀a<2,∀b<2,∀c<2,∀n<8,iA .i32 (gS a b c n) 7=a+2*b+4*c:=by decide +kernel
theorem DW:∀a<2,∀b<2,∀c<2,∀n<8,iA .i32 (gS a b c n) 2=2*b:=by decide +kernel
theorem Xv:∀a<2,∀b<2,∀c<2,∀n<8,iA .i32 (gS a b c n) 1=a:=by decide +kernel
theorem Xw:∀a<2,∀b<2,∀c<2,∀n<8,wS .i32 (gS a b c n) 1=gS 1 b c n:=by decide +kernel
theorem Xx:∀a<2,∀b<2,∀c<2,∀n<8,wS .i32 (gS a b c n) 2=gS a 1 c n:=by decide +kernel
theorem Xy:∀a<2,∀b<2,∀c<2,∀n<8,wS .i32 (gS a b c n) 4=gS a b 1 n:=by decide +kernel
theorem HQ:∀a<2,∀b<2,∀c<2,∀n<8,F9 .i32 (gS a b c n) 2=gS a 0 c n:=by decide +kernel
theorem HR:∀a<2,∀b<2,∀c<2,∀n<8,(gS a b c n).fdiv (2 ^ min 3 IntKind.i32.bits)=n:=by decide +kernel
theorem Xz:∀a<2,∀b<2,∀c<2,∀n<7,IntKind.i32.wrap (gS a b c n+8)=gS a b c (n+1):=by decide +kernel
theorem o6 (ο:aN):mwd ο=gS ο.cb ο.wk ο.sv ο.nw:=rfl
theorem Ak:Entry Tryz.prog 160 (λ_=>do mark .disable;pure Extern.Race.none_):=⟨_,Tryz.func160,by kernel_rfl,by kernel_rfl,by kernel_rfl,by kernel_rfl⟩
theorem tO:Entry Tryz.prog 161 (λ_=>do mark .enable;pure Extern.Race.none_):=⟨_,Tryz.func161,by kernel_rfl,by kernel_rfl,by kernel_rfl,by kernel_rfl⟩
theorem NP:Entry Tryz.prog 159 (Extern.Race.marked .releaseMerge):=⟨_,Tryz.func159,by kernel_rfl,by kernel_rfl,by kernel_rfl,by kernel_rfl⟩
theorem DX:Entry Tryz.prog 177 (Extern.Race.marked .acquire):=⟨_,Tryz.func177,by kernel_rfl,by kernel_rfl,by kernel_rfl,by kernel_rfl⟩
theorem XA:Entry Tryz.prog 167 (Extern.Race.marked .read):=⟨_,Tryz.func167,by kernel_rfl,by kernel_rfl,by kernel_rfl,by kernel_rfl⟩
theorem XB:Entry Tryz.prog 180 (Extern.Race.marked .write):=⟨_,Tryz.func180,by kernel_rfl,by kernel_rfl,by kernel_rfl,by kernel_rfl⟩
theorem NQ:Entry Tryz.prog 162 (λ_=>pure (.bool false)):=⟨_,Tryz.func162,by kernel_rfl,by kernel_rfl,by kernel_rfl,by kernel_rfl⟩
theorem DY:Entry Tryz.prog 212 (Extern.Atomic.casT (.int .i32)):=⟨_,Tryz.func212,by kernel_rfl,by kernel_rfl,by kernel_rfl,by kernel_rfl⟩
theorem NR:Entry Tryz.prog 214 (Extern.Atomic.update (Op.intArith .add) .i32 true):=⟨_,Tryz.func214,by kernel_rfl,by kernel_rfl,by kernel_rfl,by kernel_rfl⟩
theorem XC:Entry Tryz.prog 216 (Extern.Atomic.casT (.int .u64)):=⟨_,Tryz.func216,by kernel_rfl,by kernel_rfl,by kernel_rfl,by kernel_rfl⟩
theorem NS:Entry Tryz.prog 207 (Extern.Atomic.update (Op.intArith .add) .u64 true):=⟨_,Tryz.func207,by kernel_rfl,by kernel_rfl,by kernel_rfl,by kernel_rfl⟩
theorem NT:Entry Tryz.prog 208 (Extern.Atomic.loadT (.int .u64)):=⟨_,Tryz.func208,by kernel_rfl,by kernel_rfl,by kernel_rfl,by kernel_rfl⟩
theorem XD:Entry Tryz.prog 209 Extern.Atomic.storeT:=⟨_,Tryz.func209,by kernel_rfl,by kernel_rfl,by kernel_rfl,by kernel_rfl⟩
theorem XE:Entry Tryz.prog 242 Extern.Sync.canSpin:=⟨_,Tryz.func242,by kernel_rfl,by kernel_rfl,by kernel_rfl,by kernel_rfl⟩
theorem XF:Entry Tryz.prog 243 (λ_=>pure (.tuple #[])):=⟨_,Tryz.func243,by kernel_rfl,by kernel_rfl,by kernel_rfl,by kernel_rfl⟩
theorem NU:Entry Tryz.prog 245 Extern.OsHooks.nano:=⟨_,Tryz.func245,by kernel_rfl,by kernel_rfl,by kernel_rfl,by kernel_rfl⟩
theorem XG:Entry Tryz.prog 246 Extern.Sync.semacquire:=⟨_,Tryz.func246,by kernel_rfl,by kernel_rfl,by kernel_rfl,by kernel_rfl⟩
theorem XH:Entry Tryz.prog 181 Extern.Sync.semacquire:=⟨_,Tryz.func181,by kernel_rfl,by kernel_rfl,by kernel_rfl,by kernel_rfl⟩
theorem NV:Entry Tryz.prog 248 Extern.Sync.semrelease:=⟨_,Tryz.func248,by kernel_rfl,by kernel_rfl,by kernel_rfl,by kernel_rfl⟩
theorem XI:Entry Tryz.prog 171 Extern.Sync.semrelease:=⟨_,Tryz.func171,by kernel_rfl,by kernel_rfl,by kernel_rfl,by kernel_rfl⟩
theorem tP:Tryz.prog.underlying 195=some .unsafePointer:=by kernel_rfl
theorem HS:Tryz.prog.underlying 237=some (.pointer 171):=by kernel_rfl
theorem HT:(Tryz.prog.info? 171).map (λi=>decide (i.size=0))=some false:=by kernel_rfl
theorem HU:Tryz.prog.underlying 193=some (.pointer 179):=by kernel_rfl
theorem HV:(Tryz.prog.info? 179).map (λi=>decide (i.size=0))=some false:=by kernel_rfl
theorem NW:Tryz.prog.underlying 200=some (.pointer 169):=by kernel_rfl
theorem NX:(Tryz.prog.info? 169).map (λi=>decide (i.size=0))=some false:=by kernel_rfl
theorem xM:Tryz.prog.underlying 21=some (.int .i32):=by kernel_rfl
theorem aE.leave0 [bj] {P:Program} {Q:Value->Prop} {mn:Bool} {z:gJ} {c b:Frame} {rest:List Frame} {H:π} {t:Array Value} {ops:Array Oper} {fn:Func} (U:Seq z) (hb:b.mode=.run) (cr:b.roundOf=none) (eu:b.defers=[]) (gn:b.kind=.normal) (cf:P.funcs[b.fn]?=some fn) (e5:fn.results=#[])
  (h:aE P Q mn z (c.finish (.tuple #[])) rest H):aE P Q mn z (ax b t [.inRegion ops []]) (c::rest) H:=by
 refine .bJ U hb (.rO U hb cr (.back U rfl eu (.inl gn) cf ?_));rw[results_none e5];exact ξ.pure' h
theorem cm.leave0 [bj] {P:Program} {Q:Value->Prop} {mn:Bool} {x:aW} {c b:Frame} {rest:List Frame} {H:π} {t:Array Value} {ops:Array Oper} {fn:Func} (U:Seq (one x)) (hb:b.mode=.run) (cr:b.roundOf=none) (eu:b.defers=[]) (gn:b.kind=.normal) (cf:P.funcs[b.fn]?=some fn) (e5:fn.results=#[])
  (h:cm P Q mn x (c.finish (.tuple #[])) rest H):cm P Q mn x (ax b t [.inRegion ops []]) (c::rest) H:=
 aE.leave0 (z:=one x) U hb cr eu gn cf e5 (λy Φ=>by cases Φ;exact h) x rfl
end Go.TL
