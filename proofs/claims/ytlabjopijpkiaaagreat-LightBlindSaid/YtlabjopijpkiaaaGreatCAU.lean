import Derived.Test.YtlabjopijpkiaaaGreatCAM
import Derived.Test.YtlabjopijpkiaaaGreatCAT
set_option maxHeartbeats 16000000
set_option maxRecDepth 20000
set_option linter.unusedSectionVars false
set_option linter.unusedSimpArgs false
set_option linter.unusedVariables false
namespace Go.TL
open Go.Proofs
theorem W.YE [bp] {nt:Nat} {E:η->Χ->List Row->Prop} {m:Nat} {k:List Item} {env:Χ} {σ:List Row} {Z:List Item->Χ->List Row->Prop} {is kG:List Nat} (_:is=is) (_:kG=kG) {ops:Array Oper} {l:List Nat} (ξ:l=is++kG) (h:∀Θ:Χ->List Row->Prop,(∀env σ,W Tryz.prog m nt (.inRegion ops kG::k) env σ Z E->Θ env σ)->run Tryz.prog bg [] nt ops is env σ Θ E):W Tryz.prog m nt (.inRegion ops l::k) env σ Z E:=W.part Υ is kG ξ h
theorem fw (a b:List Nat) {p q:Prop} (k:q) (h:a=a->b=b->q->p:=by intro a1 a9 k;refine W.YE a1 a9 rfl λΘ θ=>?_;(try simp);(repeat (rw[al];simp));apply θ;exact k):p:=h rfl rfl k
end Go.TL
namespace Go.TL
open Go.Conc Go.Proofs
open Go.ConcN (sumTo upd sumTo_upd upd_ne upd_same sumTo_congr le_sumTo)
theorem IH {B:Type} (f:Nat->B) (s:Nat) (a b:B):upd (upd f s a) s b=upd f s b:=by
 funext i;unfold upd;split<;>rfl
def bu (x:a2) (s:Nat) (t:Tok) (v:Option (Nat×aV)) (d:Nat):a2:={x with tok:=upd x.tok s t,view:=upd x.view s v,deaf:=d}
section
variable {x:a2} {s:Nat} {t t':Tok} {v fr:Option (Nat×aV)} {d cJ:Nat}
theorem hj:({bu x s t v d with tok:=upd (bu x s t v d).tok s t',view:=upd (bu x s t v d).view s fr}:a2)=bu x s t' fr d:=by unfold bu;simp only[IH]
theorem kN:({bu x s t v d with view:=upd (bu x s t v d).view s fr}:a2)=bu x s t fr d:=by unfold bu;simp only[IH]
theorem Ba:({bu x s t v d with deaf:=(bu x s t v d).deaf+1}:a2)=bu x s t v (d+1):=rfl
theorem Bb:({bu x s t v d with deaf:=(bu x s t v d).deaf-1}:a2)=bu x s t v (d-1):=rfl
theorem cf:(bu x s t v d).tok s=t:=by unfold bu;simp only[upd_same]
theorem pH:(bu x s t v d).view s=v:=by unfold bu;simp only[upd_same]
theorem Bc {r:Nat} (h:r≠s):(bu x s t v d).tok r=x.tok r:=by unfold bu;exact upd_ne _ _ h
end
theorem II {N:Nat} {τ:Nat->Tok} {φ Bd:Tok->Nat} (h:∀t,φ t<=Bd t):ba N τ φ<=ba N τ Bd:=by
 induction N with
 | zero=>exact Nat.le_refl _
 | succ N ω=>rw[vJ,vJ];have:=h (τ N);omega
theorem YF {N:Nat} {τ:Nat->Tok} {φ Bd:Tok->Nat}:ba N τ (λt=>φ t+Bd t)=ba N τ φ+ba N τ Bd:=by
 induction N with
 | zero=>rfl
 | succ N ω=>simp only[vJ,ω];omega
structure tB (ο:aV) (t:Tok):Prop where
 cn:ο.cn<=1
 wk:ο.wk<=1
 sv:ο.sv<=1
 db:ο.db<=1
 nw:ο.nw<=ο.top
 Cm:mJ t=1->ο.sv=0/\ο.wk=1
 hw:nB t=1->ο.sv=1/\ο.wk=0/\ο.cn=0/\1<=ο.nw
 hold:iS t=1->ο.cn=1
 zo:lU t=1->(ο.sv=0->ο.wk=1)/\(ο.sv=1->ο.wk=0/\ο.cn=0/\1<=ο.nw)
theorem vK.nG {ο:aV} {t:Tok} (h:vK ο t):tB ο t:=by
 obtain⟨N,τ,i,⟨dG,di⟩,hi,Ν,_⟩:=h;have l0:=fy τ iS hi;have l2:=fy τ mJ hi;have h5:=fy τ nB hi;have vF:=fy τ lU hi;rw[Ν] at l0 l2 h5 vF;have bC:ba N τ lT+ba N τ lU<=ba N τ lV:=by
  rw[<-YF];refine II λt=>?_;cases t<;>simp[lT,lU,lV];rename_i m _;cases m<;>simp[zm,zn]
 have dt:ba N τ nB<=ba N τ lU:=II λt=>by
  cases t<;>simp[nB,lU];rename_i m _;cases m<;>simp[Cj,zn]
 obtain⟨f1,f2,f3,a1,a9,cK,gx,h6,mM⟩:=dG;obtain⟨Ρ,aa,aX,ca,gf,i',EY,oR,YG⟩:=di;have ν:ο.sv=0\/ο.sv=1:=R;refine⟨f1,f2,f3,?_,?_,λJ=>?_,λJ=>?_,λJ=>?_,λJ=>⟨λe=>?_,λe=>?_⟩⟩
 ·rcases ν with e|e
  ·have:=a9 e;omega
  ·have:=cK e;omega
 ·rcases ν with e|e
  ·have:=a9 e;omega
  ·have:=cK e;omega
 ·rcases ν with e|e
  ·have:=a9 e;omega
  ·have:=cK e;omega
 ·rcases ν with e|e
  ·have:=a9 e;omega
  ·have:=cK e;omega
 ·omega
 ·have:=a9 e;omega
 ·have:=cK e;omega
structure YH (ο:aV) (t:Tok):Prop where
 wt:ο.wt<=1
 cnt:ο.cnt<=ο.top
 cP:ο.cP<=1
 live:jF t<=ο.cnt
 add:∀n p,t=.par n p .add->ο.wt=0/\ο.cP=0/\n<=ο.top/\p<=ο.cnt/\ο.cnt<=n
 fin:∀n p,t=.par n p .mI\/t=.par n p .w4\/t=.par n p .bm->ο.wt=0/\ο.cP=0/\ο.cnt=0
 l2:∀k m,t=.ch k m .l2->ο.wt=1/\ο.cnt=0
 h5:∀k m,t=.ch k m .h5->ο.wt=0/\ο.cnt=0/\ο.cP=0
theorem vK.tC {ο:aV} {t:Tok} (h:vK ο t):YH ο t:=by
 obtain⟨N,τ,i,⟨dG,di⟩,hi,Ν,_⟩:=h;have l0:=fy τ jF hi;have l2:=fy τ kx hi;have h5:=fy τ ky hi;rw[Ν] at l0 l2 h5;have bC:ba N τ jF<=ba N τ lV:=II λt=>by
  cases t<;>simp[jF,lV];rename_i g;cases g<;>simp[sy]
 unfold o1 at di;have OB:e1 t=1->ba N τ hH=hH t/\ba N τ iT=iT t/\ba N τ mK=mK t/\ba N τ lW=lW t/\ba N τ iU=iU t:=λπ=>by
  have iw:e1 (τ i)=1:=by rw[Ν];exact π
  refine⟨?_,?_,?_,?_,?_⟩<;>(rw[pW (λt Ν=>by cases t<;>simp_all [e1,hH,iT,mK,lW,iU]) di.oi hi iw,Ν])
 obtain⟨Ρ,aa,aX,ca,gf,i',EY,oR,YG⟩:=di;have μ:ba N τ mK=1\/ba N τ lW=1\/ba N τ iU=1:=R;refine⟨Ρ,R,?_,R,λn p e=>?_,λn p e=>?_,λk m e=>?_,λk m e=>?_⟩
 ·rcases μ with e|e|e
  ·have:=i' e;omega
  ·have:=EY e;omega
  ·have:=oR e;omega
 ·subst e;obtain⟨dn,p2,p3,p4,OC⟩:=OB rfl;simp only[hH,iT,mK] at dn p2 p3;have:=i' p3;omega
 ·have π:e1 t=1:=by rcases e with rfl|rfl|rfl<;>rfl
  obtain⟨dn,p2,p3,p4,OC⟩:=OB π;have:ba N τ iU=1:=by rw[OC];rcases e with rfl|rfl|rfl<;>rfl
  have:=oR this;omega
 ·subst e;simp only[kx,vC] at l2;rcases μ with e|e|e
  ·have:=i' e;omega
  ·have:=EY e;omega
  ·have:=oR e;omega
 ·subst e;simp only[ky,vD] at h5;rcases μ with e|e|e
  ·have:=i' e;omega
  ·have:=EY e;omega
  ·have:=oR e;omega
abbrev hk (a b c n:Nat):Int:=(a:Int)+2*b+4*c+8*n
theorem IJ:∀a<2,∀b<2,∀c<2,∀n<8,ga .i32 (hk a b c n) 5=a+4*c:=by decide +kernel
theorem IK:∀a<2,∀b<2,∀c<2,∀n<8,ga .i32 (hk a b c n) 4=4*c:=by decide +kernel
theorem YI:∀a<2,∀b<2,∀c<2,∀n<8,ga .i32 (hk a b c n) 3=a+2*b:=by decide +kernel
theorem YJ:∀a<2,∀b<2,∀c<2,∀n<8,ga .i32 (hk a b c n) 7=a+2*b+4*c:=by decide +kernel
theorem EZ:∀a<2,∀b<2,∀c<2,∀n<8,ga .i32 (hk a b c n) 2=2*b:=by decide +kernel
theorem YK:∀a<2,∀b<2,∀c<2,∀n<8,ga .i32 (hk a b c n) 1=a:=by decide +kernel
theorem YL:∀a<2,∀b<2,∀c<2,∀n<8,x0 .i32 (hk a b c n) 1=hk 1 b c n:=by decide +kernel
theorem YM:∀a<2,∀b<2,∀c<2,∀n<8,x0 .i32 (hk a b c n) 2=hk a 1 c n:=by decide +kernel
theorem YN:∀a<2,∀b<2,∀c<2,∀n<8,x0 .i32 (hk a b c n) 4=hk a b 1 n:=by decide +kernel
theorem IL:∀a<2,∀b<2,∀c<2,∀n<8,pj .i32 (hk a b c n) 2=hk a 0 c n:=by decide +kernel
theorem IM:∀a<2,∀b<2,∀c<2,∀n<8,(hk a b c n).fdiv (2 ^ min 3 IntKind.i32.bits)=n:=by decide +kernel
theorem YO:∀a<2,∀b<2,∀c<2,∀n<7,IntKind.i32.wrap (hk a b c n+8)=hk a b c (n+1):=by decide +kernel
theorem pI (ο:aV):mwd ο=hk ο.cn ο.wk ο.sv ο.nw:=rfl
theorem Be:Entry Tryz.prog 160 (λ_=>do mark .disable;pure Extern.Race.none_):=⟨_,Tryz.func160,by kernel_rfl,by kernel_rfl,by kernel_rfl,by kernel_rfl⟩
theorem vd:Entry Tryz.prog 161 (λ_=>do mark .enable;pure Extern.Race.none_):=⟨_,Tryz.func161,by kernel_rfl,by kernel_rfl,by kernel_rfl,by kernel_rfl⟩
theorem OD:Entry Tryz.prog 159 (Extern.Race.marked .releaseMerge):=⟨_,Tryz.func159,by kernel_rfl,by kernel_rfl,by kernel_rfl,by kernel_rfl⟩
theorem E0:Entry Tryz.prog 177 (Extern.Race.marked .acquire):=⟨_,Tryz.func177,by kernel_rfl,by kernel_rfl,by kernel_rfl,by kernel_rfl⟩
theorem YP:Entry Tryz.prog 167 (Extern.Race.marked .read):=⟨_,Tryz.func167,by kernel_rfl,by kernel_rfl,by kernel_rfl,by kernel_rfl⟩
theorem YQ:Entry Tryz.prog 180 (Extern.Race.marked .write):=⟨_,Tryz.func180,by kernel_rfl,by kernel_rfl,by kernel_rfl,by kernel_rfl⟩
theorem OE:Entry Tryz.prog 162 (λ_=>pure (.bool false)):=⟨_,Tryz.func162,by kernel_rfl,by kernel_rfl,by kernel_rfl,by kernel_rfl⟩
theorem E1:Entry Tryz.prog 212 (Extern.Atomic.casT (.int .i32)):=⟨_,Tryz.func212,by kernel_rfl,by kernel_rfl,by kernel_rfl,by kernel_rfl⟩
theorem OF:Entry Tryz.prog 214 (Extern.Atomic.update (Op.intArith .add) .i32 true):=⟨_,Tryz.func214,by kernel_rfl,by kernel_rfl,by kernel_rfl,by kernel_rfl⟩
theorem YR:Entry Tryz.prog 216 (Extern.Atomic.casT (.int .u64)):=⟨_,Tryz.func216,by kernel_rfl,by kernel_rfl,by kernel_rfl,by kernel_rfl⟩
theorem OG:Entry Tryz.prog 207 (Extern.Atomic.update (Op.intArith .add) .u64 true):=⟨_,Tryz.func207,by kernel_rfl,by kernel_rfl,by kernel_rfl,by kernel_rfl⟩
theorem OH:Entry Tryz.prog 208 (Extern.Atomic.loadT (.int .u64)):=⟨_,Tryz.func208,by kernel_rfl,by kernel_rfl,by kernel_rfl,by kernel_rfl⟩
theorem YS:Entry Tryz.prog 209 Extern.Atomic.storeT:=⟨_,Tryz.func209,by kernel_rfl,by kernel_rfl,by kernel_rfl,by kernel_rfl⟩
theorem YT:Entry Tryz.prog 242 Extern.Sync.canSpin:=⟨_,Tryz.func242,by kernel_rfl,by kernel_rfl,by kernel_rfl,by kernel_rfl⟩
theorem YU:Entry Tryz.prog 243 (λ_=>pure (.tuple #[])):=⟨_,Tryz.func243,by kernel_rfl,by kernel_rfl,by kernel_rfl,by kernel_rfl⟩
theorem OI:Entry Tryz.prog 245 Extern.OsHooks.nano:=⟨_,Tryz.func245,by kernel_rfl,by kernel_rfl,by kernel_rfl,by kernel_rfl⟩
theorem YV:Entry Tryz.prog 246 Extern.Sync.semacquire:=⟨_,Tryz.func246,by kernel_rfl,by kernel_rfl,by kernel_rfl,by kernel_rfl⟩
theorem YW:Entry Tryz.prog 181 Extern.Sync.semacquire:=⟨_,Tryz.func181,by kernel_rfl,by kernel_rfl,by kernel_rfl,by kernel_rfl⟩
theorem OJ:Entry Tryz.prog 248 Extern.Sync.semrelease:=⟨_,Tryz.func248,by kernel_rfl,by kernel_rfl,by kernel_rfl,by kernel_rfl⟩
theorem YX:Entry Tryz.prog 171 Extern.Sync.semrelease:=⟨_,Tryz.func171,by kernel_rfl,by kernel_rfl,by kernel_rfl,by kernel_rfl⟩
theorem ve:Tryz.prog.underlying 195=some .unsafePointer:=by kernel_rfl
theorem IN:Tryz.prog.underlying 237=some (.pointer 171):=by kernel_rfl
theorem IP:(Tryz.prog.info? 171).map (λi=>decide (i.size=0))=some false:=by kernel_rfl
theorem IQ:Tryz.prog.underlying 193=some (.pointer 179):=by kernel_rfl
theorem IS:(Tryz.prog.info? 179).map (λi=>decide (i.size=0))=some false:=by kernel_rfl
theorem OK:Tryz.prog.underlying 200=some (.pointer 169):=by kernel_rfl
theorem OL:(Tryz.prog.info? 169).map (λi=>decide (i.size=0))=some false:=by kernel_rfl
theorem yJ:Tryz.prog.underlying 21=some (.int .i32):=by kernel_rfl
theorem aU.leave0 [bp] {P:Program} {Q:Value->Prop} {mn:Bool} {z:g9} {c b:Frame} {rest:List Frame} {H:Α} {t:Array Value} {ops:Array Oper} {fn:Func} (γ:Seq z) (hb:b.mode=.run) (cu:b.roundOf=none) (eV:b.defers=[]) (g6:b.kind=.normal) (bL:P.funcs[b.fn]?=some fn) (fc:fn.results=#[])
  (h:aU P Q mn z (c.finish (.tuple #[])) rest H):aU P Q mn z (ax b t [.inRegion ops []]) (c::rest) H:=by
 refine .bF γ hb (.sM γ hb cu (.back γ rfl eV (.inl g6) bL ?_));rw[results_none fc];exact ς.pure' h
theorem cC.leave0 [bp] {P:Program} {Q:Value->Prop} {mn:Bool} {x:a2} {c b:Frame} {rest:List Frame} {H:Α} {t:Array Value} {ops:Array Oper} {fn:Func} (γ:Seq (one x)) (hb:b.mode=.run) (cu:b.roundOf=none) (eV:b.defers=[]) (g6:b.kind=.normal) (bL:P.funcs[b.fn]?=some fn) (fc:fn.results=#[])
  (h:cC P Q mn x (c.finish (.tuple #[])) rest H):cC P Q mn x (ax b t [.inRegion ops []]) (c::rest) H:=
 aU.leave0 (z:=one x) γ hb cu eV g6 bL fc (λy Κ=>by cases Κ;exact h) x rfl
end Go.TL
