import Derived.Test.YtlabjopijpkiaaaGreatVAM
import Derived.Test.YtlabjopijpkiaaaGreatVAT
set_option maxHeartbeats 16000000
set_option maxRecDepth 20000
set_option linter.unusedSectionVars false
set_option linter.unusedSimpArgs false
set_option linter.unusedVariables false
namespace Go.TL
open Go.Proofs
theorem W.XZ [bn] {nt:Nat} {E:θ->Ω->List Row->Prop} {m:Nat} {k:List Item} {env:Ω} {σ:List Row} {Z:List Item->Ω->List Row->Prop} {is kp:List Nat} (_:is=is) (_:kp=kp) {ops:Array Oper} {l:List Nat} (ο:l=is++kp) (h:∀Ε:Ω->List Row->Prop,(∀env σ,W Tryz.prog m nt (.inRegion ops kp::k) env σ Z E->Ε env σ)->run Tryz.prog bk [] nt ops is env σ Ε E):W Tryz.prog m nt (.inRegion ops l::k) env σ Z E:=W.part Ρ is kp ο h
theorem fw (a b:List Nat) {p q:Prop} (k:q) (h:a=a->b=b->q->p:=by intro a1 bd k;refine W.XZ a1 bd rfl λΕ ζ=>?_;(try simp);(repeat (rw[Ο];simp));apply ζ;exact k):p:=h rfl rfl k
end Go.TL
namespace Go.TL
open Go.Conc Go.Proofs
open Go.ConcN (sumTo upd sumTo_upd upd_ne upd_same sumTo_congr le_sumTo)
theorem Ic {B:Type} (f:Nat->B) (s:Nat) (a b:B):upd (upd f s a) s b=upd f s b:=by
 funext i;unfold upd;split<;>rfl
def bx (x:aZ) (s:Nat) (t:Tok) (v:Option (Nat×aS)) (d:Nat):aZ:={x with tok:=upd x.tok s t,view:=upd x.view s v,deaf:=d}
section
variable {x:aZ} {s:Nat} {t t':Tok} {v fr:Option (Nat×aS)} {d dZ:Nat}
theorem g6:({bx x s t v d with tok:=upd (bx x s t v d).tok s t',view:=upd (bx x s t v d).view s fr}:aZ)=bx x s t' fr d:=by unfold bx;simp only[Ic]
theorem kA:({bx x s t v d with view:=upd (bx x s t v d).view s fr}:aZ)=bx x s t fr d:=by unfold bx;simp only[Ic]
theorem Aw:({bx x s t v d with deaf:=(bx x s t v d).deaf+1}:aZ)=bx x s t v (d+1):=rfl
theorem Ax:({bx x s t v d with deaf:=(bx x s t v d).deaf-1}:aZ)=bx x s t v (d-1):=rfl
theorem b7:(bx x s t v d).tok s=t:=by unfold bx;simp only[upd_same]
theorem pf:(bx x s t v d).view s=v:=by unfold bx;simp only[upd_same]
theorem Ay {r:Nat} (h:r≠s):(bx x s t v d).tok r=x.tok r:=by unfold bx;exact upd_ne _ _ h
end
theorem Ie {N:Nat} {τ:Nat->Tok} {φ Az:Tok->Nat} (h:∀t,φ t<=Az t):a8 N τ φ<=a8 N τ Az:=by
 induction N with
 | zero=>exact Nat.le_refl _
 | succ N Β=>rw[u6,u6];have:=h (τ N);omega
theorem X0 {N:Nat} {τ:Nat->Tok} {φ Az:Tok->Nat}:a8 N τ (λt=>φ t+Az t)=a8 N τ φ+a8 N τ Az:=by
 induction N with
 | zero=>rfl
 | succ N Β=>simp only[u6,Β];omega
structure sX (ξ:aS) (t:Tok):Prop where
 ck:ξ.ck<=1
 wk:ξ.wk<=1
 sv:ξ.sv<=1
 dd:ξ.dd<=1
 nw:ξ.nw<=ξ.top
 BJ:ml t=1->ξ.sv=0/\ξ.wk=1
 hw:nh t=1->ξ.sv=1/\ξ.wk=0/\ξ.ck=0/\1<=ξ.nw
 hold:iy t=1->ξ.ck=1
 yU:lI t=1->(ξ.sv=0->ξ.wk=1)/\(ξ.sv=1->ξ.wk=0/\ξ.ck=0/\1<=ξ.nw)
theorem u7.np {ξ:aS} {t:Tok} (h:u7 ξ t):sX ξ t:=by
 obtain⟨N,τ,i,⟨eo,da⟩,hi,Ν,_⟩:=h;have l0:=fy τ iy hi;have l2:=fy τ ml hi;have hS:=fy τ nh hi;have u2:=fy τ lI hi;rw[Ν] at l0 l2 hS u2;have bw:a8 N τ lH+a8 N τ lI<=a8 N τ lJ:=by
  rw[<-X0];refine Ie λt=>?_;cases t<;>simp[lH,lI,lJ];rename_i m _;cases m<;>simp[yS,yT]
 have dm:a8 N τ nh<=a8 N τ lI:=Ie λt=>by
  cases t<;>simp[nh,lI];rename_i m _;cases m<;>simp[BG,yT]
 obtain⟨f1,f2,f3,a1,bd,cI,gv,hT,mq⟩:=eo;obtain⟨Χ,ak,aY,cy,gB,iK,Et,ow,X1⟩:=da;have ν:ξ.sv=0\/ξ.sv=1:=R;refine⟨f1,f2,f3,?_,?_,λJ=>?_,λJ=>?_,λJ=>?_,λJ=>⟨λe=>?_,λe=>?_⟩⟩
 ·rcases ν with e|e
  ·have:=bd e;omega
  ·have:=cI e;omega
 ·rcases ν with e|e
  ·have:=bd e;omega
  ·have:=cI e;omega
 ·rcases ν with e|e
  ·have:=bd e;omega
  ·have:=cI e;omega
 ·rcases ν with e|e
  ·have:=bd e;omega
  ·have:=cI e;omega
 ·omega
 ·have:=bd e;omega
 ·have:=cI e;omega
structure X2 (ξ:aS) (t:Tok):Prop where
 wt:ξ.wt<=1
 cnt:ξ.cnt<=ξ.top
 cO:ξ.cO<=1
 live:jr t<=ξ.cnt
 add:∀n p,t=.par n p .add->ξ.wt=0/\ξ.cO=0/\n<=ξ.top/\p<=ξ.cnt/\ξ.cnt<=n
 fin:∀n p,t=.par n p .mj\/t=.par n p .w4\/t=.par n p .bB->ξ.wt=0/\ξ.cO=0/\ξ.cnt=0
 l2:∀k m,t=.ch k m .l2->ξ.wt=1/\ξ.cnt=0
 hS:∀k m,t=.ch k m .hS->ξ.wt=0/\ξ.cnt=0/\ξ.cO=0
theorem u7.sY {ξ:aS} {t:Tok} (h:u7 ξ t):X2 ξ t:=by
 obtain⟨N,τ,i,⟨eo,da⟩,hi,Ν,_⟩:=h;have l0:=fy τ jr hi;have l2:=fy τ kg hi;have hS:=fy τ kh hi;rw[Ν] at l0 l2 hS;have bw:a8 N τ jr<=a8 N τ lJ:=Ie λt=>by
  cases t<;>simp[jr,lJ];rename_i g;cases g<;>simp[rY]
 unfold oC at da;have N9:eX t=1->a8 N τ hr=hr t/\a8 N τ iz=iz t/\a8 N τ mm=mm t/\a8 N τ lK=lK t/\a8 N τ iA=iA t:=λψ=>by
  have h9:eX (τ i)=1:=by rw[Ν];exact ψ
  refine⟨?_,?_,?_,?_,?_⟩<;>(rw[pz (λt Ν=>by cases t<;>simp_all [eX,hr,iz,mm,lK,iA]) da.nZ hi h9,Ν])
 obtain⟨Χ,ak,aY,cy,gB,iK,Et,ow,X1⟩:=da;have μ:a8 N τ mm=1\/a8 N τ lK=1\/a8 N τ iA=1:=R;refine⟨Χ,R,?_,R,λn p e=>?_,λn p e=>?_,λk m e=>?_,λk m e=>?_⟩
 ·rcases μ with e|e|e
  ·have:=iK e;omega
  ·have:=Et e;omega
  ·have:=ow e;omega
 ·subst e;obtain⟨dy,p2,p3,p4,N'⟩:=N9 rfl;simp only[hr,iz,mm] at dy p2 p3;have:=iK p3;omega
 ·have ψ:eX t=1:=by rcases e with rfl|rfl|rfl<;>rfl
  obtain⟨dy,p2,p3,p4,N'⟩:=N9 ψ;have:a8 N τ iA=1:=by rw[N'];rcases e with rfl|rfl|rfl<;>rfl
  have:=ow this;omega
 ·subst e;simp only[kg,uY] at l2;rcases μ with e|e|e
  ·have:=iK e;omega
  ·have:=Et e;omega
  ·have:=ow e;omega
 ·subst e;simp only[kh,uZ] at hS;rcases μ with e|e|e
  ·have:=iK e;omega
  ·have:=Et e;omega
  ·have:=ow e;omega
abbrev g7 (a b c n:Nat):Int:=(a:Int)+2*b+4*c+8*n
theorem Ig:∀a<2,∀b<2,∀c<2,∀n<8,eY .i32 (g7 a b c n) 5=a+4*c:=by decide +kernel
theorem Ih:∀a<2,∀b<2,∀c<2,∀n<8,eY .i32 (g7 a b c n) 4=4*c:=by decide +kernel
theorem X3:∀a<2,∀b<2,∀c<2,∀n<8,eY .i32 (g7 a b c n) 3=a+2*b:=by decide +kernel
theorem X4:∀a<2,∀b<2,∀c<2,∀n<8,eY .i32 (g7 a b c n) 7=a+2*b+4*c:=by decide +kernel
theorem Eu:∀a<2,∀b<2,∀c<2,∀n<8,eY .i32 (g7 a b c n) 2=2*b:=by decide +kernel
theorem X5:∀a<2,∀b<2,∀c<2,∀n<8,eY .i32 (g7 a b c n) 1=a:=by decide +kernel
theorem X6:∀a<2,∀b<2,∀c<2,∀n<8,q1 .i32 (g7 a b c n) 1=g7 1 b c n:=by decide +kernel
theorem X7:∀a<2,∀b<2,∀c<2,∀n<8,q1 .i32 (g7 a b c n) 2=g7 a 1 c n:=by decide +kernel
theorem X8:∀a<2,∀b<2,∀c<2,∀n<8,q1 .i32 (g7 a b c n) 4=g7 a b 1 n:=by decide +kernel
theorem Ii:∀a<2,∀b<2,∀c<2,∀n<8,k9 .i32 (g7 a b c n) 2=g7 a 0 c n:=by decide +kernel
theorem Ij:∀a<2,∀b<2,∀c<2,∀n<8,(g7 a b c n).fdiv (2 ^ min 3 IntKind.i32.bits)=n:=by decide +kernel
theorem X9:∀a<2,∀b<2,∀c<2,∀n<7,IntKind.i32.wrap (g7 a b c n+8)=g7 a b c (n+1):=by decide +kernel
theorem pg (ξ:aS):mwd ξ=g7 ξ.ck ξ.wk ξ.sv ξ.nw:=rfl
theorem AA:Entry Tryz.prog 160 (λ_=>do mark .disable;pure Extern.Race.none_):=⟨_,Tryz.func160,by kernel_rfl,by kernel_rfl,by kernel_rfl,by kernel_rfl⟩
theorem uw:Entry Tryz.prog 161 (λ_=>do mark .enable;pure Extern.Race.none_):=⟨_,Tryz.func161,by kernel_rfl,by kernel_rfl,by kernel_rfl,by kernel_rfl⟩
theorem Oa:Entry Tryz.prog 159 (Extern.Race.marked .releaseMerge):=⟨_,Tryz.func159,by kernel_rfl,by kernel_rfl,by kernel_rfl,by kernel_rfl⟩
theorem Ev:Entry Tryz.prog 177 (Extern.Race.marked .acquire):=⟨_,Tryz.func177,by kernel_rfl,by kernel_rfl,by kernel_rfl,by kernel_rfl⟩
theorem X':Entry Tryz.prog 167 (Extern.Race.marked .read):=⟨_,Tryz.func167,by kernel_rfl,by kernel_rfl,by kernel_rfl,by kernel_rfl⟩
theorem Ya:Entry Tryz.prog 180 (Extern.Race.marked .write):=⟨_,Tryz.func180,by kernel_rfl,by kernel_rfl,by kernel_rfl,by kernel_rfl⟩
theorem Ob:Entry Tryz.prog 162 (λ_=>pure (.bool false)):=⟨_,Tryz.func162,by kernel_rfl,by kernel_rfl,by kernel_rfl,by kernel_rfl⟩
theorem Ew:Entry Tryz.prog 212 (Extern.Atomic.casT (.int .i32)):=⟨_,Tryz.func212,by kernel_rfl,by kernel_rfl,by kernel_rfl,by kernel_rfl⟩
theorem Oc:Entry Tryz.prog 214 (Extern.Atomic.update (Op.intArith .add) .i32 true):=⟨_,Tryz.func214,by kernel_rfl,by kernel_rfl,by kernel_rfl,by kernel_rfl⟩
theorem Yb:Entry Tryz.prog 216 (Extern.Atomic.casT (.int .u64)):=⟨_,Tryz.func216,by kernel_rfl,by kernel_rfl,by kernel_rfl,by kernel_rfl⟩
theorem Od:Entry Tryz.prog 207 (Extern.Atomic.update (Op.intArith .add) .u64 true):=⟨_,Tryz.func207,by kernel_rfl,by kernel_rfl,by kernel_rfl,by kernel_rfl⟩
theorem Oe:Entry Tryz.prog 208 (Extern.Atomic.loadT (.int .u64)):=⟨_,Tryz.func208,by kernel_rfl,by kernel_rfl,by kernel_rfl,by kernel_rfl⟩
theorem Yc:Entry Tryz.prog 209 Extern.Atomic.storeT:=⟨_,Tryz.func209,by kernel_rfl,by kernel_rfl,by kernel_rfl,by kernel_rfl⟩
theorem Yd:Entry Tryz.prog 242 Extern.Sync.canSpin:=⟨_,Tryz.func242,by kernel_rfl,by kernel_rfl,by kernel_rfl,by kernel_rfl⟩
theorem Ye:Entry Tryz.prog 243 (λ_=>pure (.tuple #[])):=⟨_,Tryz.func243,by kernel_rfl,by kernel_rfl,by kernel_rfl,by kernel_rfl⟩
theorem Of:Entry Tryz.prog 245 Extern.OsHooks.nano:=⟨_,Tryz.func245,by kernel_rfl,by kernel_rfl,by kernel_rfl,by kernel_rfl⟩
theorem Yf:Entry Tryz.prog 246 Extern.Sync.semacquire:=⟨_,Tryz.func246,by kernel_rfl,by kernel_rfl,by kernel_rfl,by kernel_rfl⟩
theorem Yg:Entry Tryz.prog 181 Extern.Sync.semacquire:=⟨_,Tryz.func181,by kernel_rfl,by kernel_rfl,by kernel_rfl,by kernel_rfl⟩
theorem Og:Entry Tryz.prog 248 Extern.Sync.semrelease:=⟨_,Tryz.func248,by kernel_rfl,by kernel_rfl,by kernel_rfl,by kernel_rfl⟩
theorem Yh:Entry Tryz.prog 171 Extern.Sync.semrelease:=⟨_,Tryz.func171,by kernel_rfl,by kernel_rfl,by kernel_rfl,by kernel_rfl⟩
theorem uy:Tryz.prog.underlying 195=some .unsafePointer:=by kernel_rfl
theorem Ik:Tryz.prog.underlying 237=some (.pointer 171):=by kernel_rfl
theorem Il:(Tryz.prog.info? 171).map (λi=>decide (i.size=0))=some false:=by kernel_rfl
theorem Im:Tryz.prog.underlying 193=some (.pointer 179):=by kernel_rfl
theorem Io:(Tryz.prog.info? 179).map (λi=>decide (i.size=0))=some false:=by kernel_rfl
theorem Oh:Tryz.prog.underlying 200=some (.pointer 169):=by kernel_rfl
theorem Oi:(Tryz.prog.info? 169).map (λi=>decide (i.size=0))=some false:=by kernel_rfl
theorem ya:Tryz.prog.underlying 21=some (.int .i32):=by kernel_rfl
theorem aR.leave0 [bn] {P:Program} {Q:Value->Prop} {mn:Bool} {z:g1} {c b:Frame} {rest:List Frame} {H:χ} {t:Array Value} {ops:Array Oper} {fn:Func} (γ:Seq z) (hb:b.mode=.run) (cn:b.roundOf=none) (eR:b.defers=[]) (gY:b.kind=.normal) (bM:P.funcs[b.fn]?=some fn) (e6:fn.results=#[])
  (h:aR P Q mn z (c.finish (.tuple #[])) rest H):aR P Q mn z (aA b t [.inRegion ops []]) (c::rest) H:=by
 refine .bJ γ hb (.sf γ hb cn (.back γ rfl eR (.inl gY) bM ?_));rw[results_none e6];exact π.pure' h
theorem cx.leave0 [bn] {P:Program} {Q:Value->Prop} {mn:Bool} {x:aZ} {c b:Frame} {rest:List Frame} {H:χ} {t:Array Value} {ops:Array Oper} {fn:Func} (γ:Seq (one x)) (hb:b.mode=.run) (cn:b.roundOf=none) (eR:b.defers=[]) (gY:b.kind=.normal) (bM:P.funcs[b.fn]?=some fn) (e6:fn.results=#[])
  (h:cx P Q mn x (c.finish (.tuple #[])) rest H):cx P Q mn x (aA b t [.inRegion ops []]) (c::rest) H:=
 aR.leave0 (z:=one x) γ hb cn eR gY bM e6 (λy Ι=>by cases Ι;exact h) x rfl
end Go.TL
