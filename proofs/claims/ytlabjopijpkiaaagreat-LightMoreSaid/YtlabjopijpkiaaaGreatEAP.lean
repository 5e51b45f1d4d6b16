import Derived.Test.YtlabjopijpkiaaaGreatEAI
import Derived.Test.YtlabjopijpkiaaaGreatEAO
set_option maxHeartbeats 16000000
set_option maxRecDepth 20000
set_option linter.unusedSectionVars false
set_option linter.unusedSimpArgs false
set_option linter.unusedVariables false
namespace Go.TL
open Go.Proofs
theorem W.ZQ [bq] {nt:Nat} {E:aq} {m:Nat} {k:List Item} {env:ab} {σ:ac} {Z:be} {is k6:List Nat} (_:is=is) (_:k6=k6) {ops:Array Oper} {l:List Nat} (π:l=is++k6) (h:∀Κ:ab->ac->Prop,(∀env σ,W Tryz.prog m nt (.inRegion ops k6::k) env σ Z E->Κ env σ)->run Tryz.prog bm [] nt ops is env σ Κ E):W Tryz.prog m nt (.inRegion ops l::k) env σ Z E:=W.part Φ is k6 π h
theorem fM (a b:List Nat) {p q:Prop} (k:q) (h:a=a->b=b->q->p:=by intro a1 bb k;refine W.ZQ a1 bb rfl λΚ κ=>?_;(try simp);(repeat (rw[ah];simp));apply κ;exact k):p:=h rfl rfl k
end Go.TL
namespace Go.TL
open Go.Conc Go.Proofs
open Go.ConcN (sumTo upd sumTo_upd upd_ne upd_same sumTo_congr le_sumTo)
theorem Jq {B:Type} (f:Nat->B) (s:Nat) (a b:B):upd (upd f s a) s b=upd f s b:=by
 funext i;unfold upd;split<;>rfl
def bB (x:a7) (s:Nat) (t:Tok) (v:Option (Nat×aW)) (d:Nat):a7:={x with tok:=upd x.tok s t,view:=upd x.view s v,deaf:=d}
section
variable {x:a7} {s:Nat} {t t':Tok} {v fG:Option (Nat×aW)} {d eo:Nat}
theorem hJ:({bB x s t v d with tok:=upd (bB x s t v d).tok s t',view:=upd (bB x s t v d).view s fG}:a7)=bB x s t' fG d:=by unfold bB;simp only[Jq]
theorem ln:({bB x s t v d with view:=upd (bB x s t v d).view s fG}:a7)=bB x s t fG d:=by unfold bB;simp only[Jq]
theorem BB:({bB x s t v d with deaf:=(bB x s t v d).deaf+1}:a7)=bB x s t v (d+1):=rfl
theorem BC:({bB x s t v d with deaf:=(bB x s t v d).deaf-1}:a7)=bB x s t v (d-1):=rfl
theorem cm:(bB x s t v d).tok s=t:=by unfold bB;simp only[upd_same]
theorem qj:(bB x s t v d).view s=v:=by unfold bB;simp only[upd_same]
theorem BD {r:Nat} (h:r≠s):(bB x s t v d).tok r=x.tok r:=by unfold bB;exact upd_ne _ _ h
end
theorem Jr {N:Nat} {τ:Nat->Tok} {φ BE:Tok->Nat} (h:∀t,φ t<=BE t):bh N τ φ<=bh N τ BE:=by
 induction N with
 | zero=>exact Nat.le_refl _
 | succ N Α=>rw[wh,wh];have:=h (τ N);omega
theorem ZR {N:Nat} {τ:Nat->Tok} {φ BE:Tok->Nat}:bh N τ (λt=>φ t+BE t)=bh N τ φ+bh N τ BE:=by
 induction N with
 | zero=>rfl
 | succ N Α=>simp only[wh,Α];omega
structure tT (υ:aW) (t:Tok):Prop where
 cr:υ.cr<=1
 wk:υ.wk<=1
 sv:υ.sv<=1
 dm:υ.dm<=1
 nw:υ.nw<=υ.top
 CN:nd t=1->υ.sv=0/\υ.wk=1
 hw:n7 t=1->υ.sv=1/\υ.wk=0/\υ.cr=0/\1<=υ.nw
 hold:jf t=1->υ.cr=1
 zS:mo t=1->(υ.sv=0->υ.wk=1)/\(υ.sv=1->υ.wk=0/\υ.cr=0/\1<=υ.nw)
theorem wi.oc {υ:aW} {t:Tok} (h:wi υ t):tT υ t:=by
 obtain⟨N,τ,i,⟨db,di⟩,hi,Υ,_⟩:=h;have l0:=fO τ jf hi;have l2:=fO τ nd hi;have iw:=fO τ n7 hi;have v':=fO τ mo hi;rw[Υ] at l0 l2 iw v';have bE:bh N τ mm+bh N τ mo<=bh N τ mq:=by
  rw[<-ZR];refine Jr λt=>?_;cases t<;>simp[mm,mo,mq];rename_i m _;cases m<;>simp[zQ,zR]
 have c6:bh N τ n7<=bh N τ mo:=Jr λt=>by
  cases t<;>simp[n7,mo];rename_i m _;cases m<;>simp[CK,zR]
 obtain⟨f1,f2,f3,a1,bb,cP,gJ,ix,nh⟩:=db;obtain⟨aa,ai,aZ,cn,gr,jm,Fx,ps,ZS⟩:=di;have ξ:υ.sv=0\/υ.sv=1:=J;refine⟨f1,f2,f3,?_,?_,λU=>?_,λU=>?_,λU=>?_,λU=>⟨λe=>?_,λe=>?_⟩⟩
 ·rcases ξ with e|e
  ·have:=bb e;omega
  ·have:=cP e;omega
 ·rcases ξ with e|e
  ·have:=bb e;omega
  ·have:=cP e;omega
 ·rcases ξ with e|e
  ·have:=bb e;omega
  ·have:=cP e;omega
 ·rcases ξ with e|e
  ·have:=bb e;omega
  ·have:=cP e;omega
 ·omega
 ·have:=bb e;omega
 ·have:=cP e;omega
structure ZT (υ:aW) (t:Tok):Prop where
 wt:υ.wt<=1
 cnt:υ.cnt<=υ.top
 cU:υ.cU<=1
 live:jU t<=υ.cnt
 add:∀n p,t=.par n p .add->υ.wt=0/\υ.cU=0/\n<=υ.top/\p<=υ.cnt/\υ.cnt<=n
 fin:∀n p,t=.par n p .nb\/t=.par n p .w4\/t=.par n p .bH->υ.wt=0/\υ.cU=0/\υ.cnt=0
 l2:∀k m,t=.ch k m .l2->υ.wt=1/\υ.cnt=0
 iw:∀k m,t=.ch k m .iw->υ.wt=0/\υ.cnt=0/\υ.cU=0
theorem wi.tU {υ:aW} {t:Tok} (h:wi υ t):ZT υ t:=by
 obtain⟨N,τ,i,⟨db,di⟩,hi,Υ,_⟩:=h;have l0:=fO τ jU hi;have l2:=fO τ kT hi;have iw:=fO τ kU hi;rw[Υ] at l0 l2 iw;have bE:bh N τ jU<=bh N τ mq:=Jr λt=>by
  cases t<;>simp[jU,mq];rename_i g;cases g<;>simp[sU]
 unfold pC at di;have Ps:fc t=1->bh N τ h3=h3 t/\bh N τ jg=jg t/\bh N τ nf=nf t/\bh N τ mr=mr t/\bh N τ jh=jh t:=λω=>by
  have iP:fc (τ i)=1:=by rw[Υ];exact ω
  refine⟨?_,?_,?_,?_,?_⟩<;>(rw[qy (λt Υ=>by cases t<;>simp_all [fc,h3,jg,nf,mr,jh]) di.oR hi iP,Υ])
 obtain⟨aa,ai,aZ,cn,gr,jm,Fx,ps,ZS⟩:=di;have ο:bh N τ nf=1\/bh N τ mr=1\/bh N τ jh=1:=J;refine⟨aa,J,?_,J,λn p e=>?_,λn p e=>?_,λk m e=>?_,λk m e=>?_⟩
 ·rcases ο with e|e|e
  ·have:=jm e;omega
  ·have:=Fx e;omega
  ·have:=ps e;omega
 ·subst e;obtain⟨dz,p2,p3,p4,Pt⟩:=Ps rfl;simp only[h3,jg,nf] at dz p2 p3;have:=jm p3;omega
 ·have ω:fc t=1:=by rcases e with rfl|rfl|rfl<;>rfl
  obtain⟨dz,p2,p3,p4,Pt⟩:=Ps ω;have:bh N τ jh=1:=by rw[Pt];rcases e with rfl|rfl|rfl<;>rfl
  have:=ps this;omega
 ·subst e;simp only[kT,v7] at l2;rcases ο with e|e|e
  ·have:=jm e;omega
  ·have:=Fx e;omega
  ·have:=ps e;omega
 ·subst e;simp only[kU,v8] at iw;rcases ο with e|e|e
  ·have:=jm e;omega
  ·have:=Fx e;omega
  ·have:=ps e;omega
abbrev hK (a b c n:Nat):Int:=(a:Int)+2*b+4*c+8*n
theorem Js:∀a<2,∀b<2,∀c<2,∀n<8,eG .i32 (hK a b c n) 5=a+4*c:=by decide +kernel
theorem Jt:∀a<2,∀b<2,∀c<2,∀n<8,eG .i32 (hK a b c n) 4=4*c:=by decide +kernel
theorem ZU:∀a<2,∀b<2,∀c<2,∀n<8,eG .i32 (hK a b c n) 3=a+2*b:=by decide +kernel
theorem ZV:∀a<2,∀b<2,∀c<2,∀n<8,eG .i32 (hK a b c n) 7=a+2*b+4*c:=by decide +kernel
theorem Fy:∀a<2,∀b<2,∀c<2,∀n<8,eG .i32 (hK a b c n) 2=2*b:=by decide +kernel
theorem ZW:∀a<2,∀b<2,∀c<2,∀n<8,eG .i32 (hK a b c n) 1=a:=by decide +kernel
theorem ZX:∀a<2,∀b<2,∀c<2,∀n<8,fB .i32 (hK a b c n) 1=hK 1 b c n:=by decide +kernel
theorem ZY:∀a<2,∀b<2,∀c<2,∀n<8,fB .i32 (hK a b c n) 2=hK a 1 c n:=by decide +kernel
theorem ZZ:∀a<2,∀b<2,∀c<2,∀n<8,fB .i32 (hK a b c n) 4=hK a b 1 n:=by decide +kernel
theorem Ju:∀a<2,∀b<2,∀c<2,∀n<8,eP .i32 (hK a b c n) 2=hK a 0 c n:=by decide +kernel
theorem Jv:∀a<2,∀b<2,∀c<2,∀n<8,(hK a b c n).fdiv (2 ^ min 3 IntKind.i32.bits)=n:=by decide +kernel
theorem Z0:∀a<2,∀b<2,∀c<2,∀n<7,IntKind.i32.wrap (hK a b c n+8)=hK a b c (n+1):=by decide +kernel
theorem qk (υ:aW):mwd υ=hK υ.cr υ.wk υ.sv υ.nw:=rfl
theorem BF:Entry Tryz.prog 160 (λ_=>do mark .disable;pure Extern.Race.none_):=⟨_,Tryz.func160,by kernel_rfl,by kernel_rfl,by kernel_rfl,by kernel_rfl⟩
theorem vx:Entry Tryz.prog 161 (λ_=>do mark .enable;pure Extern.Race.none_):=⟨_,Tryz.func161,by kernel_rfl,by kernel_rfl,by kernel_rfl,by kernel_rfl⟩
theorem Pu:Entry Tryz.prog 159 (Extern.Race.marked .releaseMerge):=⟨_,Tryz.func159,by kernel_rfl,by kernel_rfl,by kernel_rfl,by kernel_rfl⟩
theorem Fz:Entry Tryz.prog 177 (Extern.Race.marked .acquire):=⟨_,Tryz.func177,by kernel_rfl,by kernel_rfl,by kernel_rfl,by kernel_rfl⟩
theorem Z1:Entry Tryz.prog 167 (Extern.Race.marked .read):=⟨_,Tryz.func167,by kernel_rfl,by kernel_rfl,by kernel_rfl,by kernel_rfl⟩
theorem Z2:Entry Tryz.prog 180 (Extern.Race.marked .write):=⟨_,Tryz.func180,by kernel_rfl,by kernel_rfl,by kernel_rfl,by kernel_rfl⟩
theorem Pv:Entry Tryz.prog 162 (λ_=>pure (.bool false)):=⟨_,Tryz.func162,by kernel_rfl,by kernel_rfl,by kernel_rfl,by kernel_rfl⟩
theorem FA:Entry Tryz.prog 212 (Extern.Atomic.casT (.int .i32)):=⟨_,Tryz.func212,by kernel_rfl,by kernel_rfl,by kernel_rfl,by kernel_rfl⟩
theorem Pw:Entry Tryz.prog 214 (Extern.Atomic.update (Op.intArith .add) .i32 true):=⟨_,Tryz.func214,by kernel_rfl,by kernel_rfl,by kernel_rfl,by kernel_rfl⟩
theorem Z3:Entry Tryz.prog 216 (Extern.Atomic.casT (.int .u64)):=⟨_,Tryz.func216,by kernel_rfl,by kernel_rfl,by kernel_rfl,by kernel_rfl⟩
theorem Px:Entry Tryz.prog 207 (Extern.Atomic.update (Op.intArith .add) .u64 true):=⟨_,Tryz.func207,by kernel_rfl,by kernel_rfl,by kernel_rfl,by kernel_rfl⟩
theorem Py:Entry Tryz.prog 208 (Extern.Atomic.loadT (.int .u64)):=⟨_,Tryz.func208,by kernel_rfl,by kernel_rfl,by kernel_rfl,by kernel_rfl⟩
theorem Z4:Entry Tryz.prog 209 Extern.Atomic.storeT:=⟨_,Tryz.func209,by kernel_rfl,by kernel_rfl,by kernel_rfl,by kernel_rfl⟩
theorem Z5:Entry Tryz.prog 242 Extern.Sync.canSpin:=⟨_,Tryz.func242,by kernel_rfl,by kernel_rfl,by kernel_rfl,by kernel_rfl⟩
theorem Z6:Entry Tryz.prog 243 (λ_=>pure (.tuple #[])):=⟨_,Tryz.func243,by kernel_rfl,by kernel_rfl,by kernel_rfl,by kernel_rfl⟩
theorem Pz:Entry Tryz.prog 245 Extern.OsHooks.nano:=⟨_,Tryz.func245,by kernel_rfl,by kernel_rfl,by kernel_rfl,by kernel_rfl⟩
theorem Z7:Entry Tryz.prog 246 Extern.Sync.semacquire:=⟨_,Tryz.func246,by kernel_rfl,by kernel_rfl,by kernel_rfl,by kernel_rfl⟩
theorem Z8:Entry Tryz.prog 181 Extern.Sync.semacquire:=⟨_,Tryz.func181,by kernel_rfl,by kernel_rfl,by kernel_rfl,by kernel_rfl⟩
theorem PA:Entry Tryz.prog 248 Extern.Sync.semrelease:=⟨_,Tryz.func248,by kernel_rfl,by kernel_rfl,by kernel_rfl,by kernel_rfl⟩
theorem Z9:Entry Tryz.prog 171 Extern.Sync.semrelease:=⟨_,Tryz.func171,by kernel_rfl,by kernel_rfl,by kernel_rfl,by kernel_rfl⟩
theorem vy:Tryz.prog.underlying 195=some .unsafePointer:=by kernel_rfl
theorem Jw:Tryz.prog.underlying 237=some (.pointer 171):=by kernel_rfl
theorem Jx:(Tryz.prog.info? 171).map (λi=>decide (i.size=0))=some false:=by kernel_rfl
theorem Jy:Tryz.prog.underlying 193=some (.pointer 179):=by kernel_rfl
theorem Jz:(Tryz.prog.info? 179).map (λi=>decide (i.size=0))=some false:=by kernel_rfl
theorem PB:Tryz.prog.underlying 200=some (.pointer 169):=by kernel_rfl
theorem PC:(Tryz.prog.info? 169).map (λi=>decide (i.size=0))=some false:=by kernel_rfl
theorem y':Tryz.prog.underlying 21=some (.int .i32):=by kernel_rfl
theorem aV.leave0 [bq] {P:Program} {Q:Value->Prop} {mn:Bool} {z:hz} {c b:Frame} {rest:List Frame} {H:Γ} {t:Array Value} {ops:Array Oper} {fn:Func} (δ:Seq z) (hb:b.mode=.run) (cv:b.roundOf=none) (e6:b.defers=[]) (ht:b.kind=.normal) (bR:P.funcs[b.fn]?=some fn) (fs:fn.results=#[])
  (h:aV P Q mn z (c.finish (.tuple #[])) rest H):aV P Q mn z (aD b t [.inRegion ops []]) (c::rest) H:=by
 refine .bL δ hb (.s' δ hb cv (.back δ rfl e6 (.inl ht) bR ?_));rw[results_none fs];exact χ.pure' h
theorem cG.leave0 [bq] {P:Program} {Q:Value->Prop} {mn:Bool} {x:a7} {c b:Frame} {rest:List Frame} {H:Γ} {t:Array Value} {ops:Array Oper} {fn:Func} (δ:Seq (one x)) (hb:b.mode=.run) (cv:b.roundOf=none) (e6:b.defers=[]) (ht:b.kind=.normal) (bR:P.funcs[b.fn]?=some fn) (fs:fn.results=#[])
  (h:cG P Q mn x (c.finish (.tuple #[])) rest H):cG P Q mn x (aD b t [.inRegion ops []]) (c::rest) H:=
 aV.leave0 (z:=one x) δ hb cv e6 ht bR fs (λy Μ=>by cases Μ;exact h) x rfl
end Go.TL
