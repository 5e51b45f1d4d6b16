import Derived.Test.YtlabjopijpkiaaaGreatQAM
import Derived.Test.YtlabjopijpkiaaaGreatQAU
set_option maxHeartbeats 16000000
set_option maxRecDepth 20000
set_option linter.unusedSectionVars false
set_option linter.unusedSimpArgs false
set_option linter.unusedVariables false
namespace Go.TL
open Go.Conc Go.Proofs
open Go.ConcN (sumTo upd sumTo_upd upd_ne upd_same sumTo_congr le_sumTo)
theorem F8 {B:Type} (f:Nat->B) (s:Nat) (a b:B):upd (upd f s a) s b=upd f s b:=by
 funext i;unfold upd;split<;>rfl
def bb (x:aK) (s:Nat) (t:Tok) (v:Option (Nat×aD)) (d:Nat):aK:={x with tok:=upd x.tok s t,view:=upd x.view s v,deaf:=d}
section
variable {x:aK} {s:Nat} {t t':Tok} {v eN:Option (Nat×aD)} {d dV:Nat}
theorem gf:({bb x s t v d with tok:=upd (bb x s t v d).tok s t',view:=upd (bb x s t v d).view s eN}:aK)=bb x s t' eN d:=by unfold bb;simp only[F8]
theorem jf:({bb x s t v d with view:=upd (bb x s t v d).view s eN}:aK)=bb x s t eN d:=by unfold bb;simp only[F8]
theorem yF:({bb x s t v d with deaf:=(bb x s t v d).deaf+1}:aK)=bb x s t v (d+1):=rfl
theorem yG:({bb x s t v d with deaf:=(bb x s t v d).deaf-1}:aK)=bb x s t v (d-1):=rfl
theorem bP:(bb x s t v d).tok s=t:=by unfold bb;simp only[upd_same]
theorem nK:(bb x s t v d).view s=v:=by unfold bb;simp only[upd_same]
theorem yH {r:Nat} (h:r≠s):(bb x s t v d).tok r=x.tok r:=by unfold bb;exact upd_ne _ _ h
end
theorem F9 {N:Nat} {τ:Nat->Tok} {φ yI:Tok->Nat} (h:∀t,φ t<=yI t):aT N τ φ<=aT N τ yI:=by
 induction N with
 | zero=>exact Nat.le_refl _
 | succ N Γ=>rw[sU,sU];have:=h (τ N);omega
theorem U1 {N:Nat} {τ:Nat->Tok} {φ yI:Tok->Nat}:aT N τ (λt=>φ t+yI t)=aT N τ φ+aT N τ yI:=by
 induction N with
 | zero=>rfl
 | succ N Γ=>simp only[sU,Γ];omega
structure q8 (ο:aD) (t:Tok):Prop where
 bY:ο.bY<=1
 wk:ο.wk<=1
 sv:ο.sv<=1
 cM:ο.cM<=1
 nw:ο.nw<=ο.top
 zD:kS t=1->ο.sv=0/\ο.wk=1
 hw:lQ t=1->ο.sv=1/\ο.wk=0/\ο.bY=0/\1<=ο.nw
 hold:hc t=1->ο.bY=1
 wS:ki t=1->(ο.sv=0->ο.wk=1)/\(ο.sv=1->ο.wk=0/\ο.bY=0/\1<=ο.nw)
theorem sV.lV {ο:aD} {t:Tok} (h:sV ο t):q8 ο t:=by
 obtain⟨N,τ,i,⟨dM,cS⟩,hi,Η,_⟩:=h;have l0:=eW τ hc hi;have l2:=eW τ kS hi;have gO:=eW τ lQ hi;have sR:=eW τ ki hi;rw[Η] at l0 l2 gO sR;have bs:aT N τ kh+aT N τ ki<=aT N τ kj:=by
  rw[<-U1];refine F9 λt=>?_;cases t<;>simp[kh,ki,kj];rename_i m _;cases m<;>simp[wQ,wR]
 have cF:aT N τ lQ<=aT N τ ki:=F9 λt=>by
  cases t<;>simp[lQ,ki];rename_i m _;cases m<;>simp[zA,wR]
 obtain⟨f1,f2,f3,a1,bg,cr,fX,hI,m7⟩:=dM;obtain⟨Ξ,aa,aM,b9,fV,hs,Ch,yJ,U2⟩:=cS;have ν:ο.sv=0\/ο.sv=1:=by omega
 refine⟨f1,f2,f3,?_,?_,λJ=>?_,λJ=>?_,λJ=>?_,λJ=>⟨λe=>?_,λe=>?_⟩⟩
 ·rcases ν with e|e
  ·have:=bg e;omega
  ·have:=cr e;omega
 ·rcases ν with e|e
  ·have:=bg e;omega
  ·have:=cr e;omega
 ·rcases ν with e|e
  ·have:=bg e;omega
  ·have:=cr e;omega
 ·rcases ν with e|e
  ·have:=bg e;omega
  ·have:=cr e;omega
 ·omega
 ·have:=bg e;omega
 ·have:=cr e;omega
structure U3 (ο:aD) (t:Tok):Prop where
 wt:ο.wt<=1
 cnt:ο.cnt<=ο.top
 cn:ο.cn<=1
 live:h0 t<=ο.cnt
 add:∀n p,t=.par n p .add->ο.wt=0/\ο.cn=0/\n<=ο.top/\p<=ο.cnt/\ο.cnt<=n
 fin:∀n p,t=.par n p .kR\/t=.par n p .w4\/t=.par n p .bf->ο.wt=0/\ο.cn=0/\ο.cnt=0
 l2:∀k m,t=.ch k m .l2->ο.wt=1/\ο.cnt=0
 gO:∀k m,t=.ch k m .gO->ο.wt=0/\ο.cnt=0/\ο.cn=0
theorem sV.q9 {ο:aD} {t:Tok} (h:sV ο t):U3 ο t:=by
 obtain⟨N,τ,i,⟨dM,cS⟩,hi,Η,_⟩:=h;have l0:=eW τ h0 hi;have l2:=eW τ iS hi;have gO:=eW τ iT hi;rw[Η] at l0 l2 gO;have bs:aT N τ h0<=aT N τ kj:=F9 λt=>by
  cases t<;>simp[h0,kj];rename_i g;cases g<;>simp[qh]
 unfold m6 at cS;have Ci:ep t=1->aT N τ gw=gw t/\aT N τ hf=hf t/\aT N τ kT=kT t/\aT N τ kl=kl t/\aT N τ hg=hg t:=λχ=>by
  have hl:ep (τ i)=1:=by rw[Η];exact χ
  refine⟨?_,?_,?_,?_,?_⟩<;>(rw[nX (λt Η=>by cases t<;>simp_all [ep,gw,hf,kT,kl,hg]) cS.mw hi hl,Η])
 obtain⟨Ξ,aa,aM,b9,fV,hs,Ch,yJ,U2⟩:=cS;have ς:aT N τ kT=1\/aT N τ kl=1\/aT N τ hg=1:=by omega
 refine⟨Ξ,by omega,?_,by omega,λn p e=>?_,λn p e=>?_,λk m e=>?_,λk m e=>?_⟩
 ·rcases ς with e|e|e
  ·have:=hs e;omega
  ·have:=Ch e;omega
  ·have:=yJ e;omega
 ·subst e;obtain⟨dU,p2,p3,p4,Lm⟩:=Ci rfl;simp only[gw,hf,kT] at dU p2 p3;have:=hs p3;omega
 ·have χ:ep t=1:=by rcases e with rfl|rfl|rfl<;>rfl
  obtain⟨dU,p2,p3,p4,Lm⟩:=Ci χ;have:aT N τ hg=1:=by rw[Lm];rcases e with rfl|rfl|rfl<;>rfl
  have:=yJ this;omega
 ·subst e;simp only[iS,sO] at l2;rcases ς with e|e|e
  ·have:=hs e;omega
  ·have:=Ch e;omega
  ·have:=yJ e;omega
 ·subst e;simp only[iT,sP] at gO;rcases ς with e|e|e
  ·have:=hs e;omega
  ·have:=Ch e;omega
  ·have:=yJ e;omega
abbrev gg (a b c n:Nat):Int:=(a:Int)+2*b+4*c+8*n
theorem F':∀a<2,∀b<2,∀c<2,∀n<8,ff .i32 (gg a b c n) 5=a+4*c:=by decide +kernel
theorem Ga:∀a<2,∀b<2,∀c<2,∀n<8,ff .i32 (gg a b c n) 4=4*c:=by decide +kernel
theorem U4:∀a<2,∀b<2,∀c<2,∀n<8,ff .i32 (gg a b c n) 3=a+2*b:=by decide +kernel
theorem U5:∀a<2,∀b<2,∀c<2,∀n<8,ff .i32 (gg a b c n) 7=a+2*b+4*c:=by decide +kernel
theorem Cj:∀a<2,∀b<2,∀c<2,∀n<8,ff .i32 (gg a b c n) 2=2*b:=by decide +kernel
theorem U6:∀a<2,∀b<2,∀c<2,∀n<8,ff .i32 (gg a b c n) 1=a:=by decide +kernel
theorem U7:∀a<2,∀b<2,∀c<2,∀n<8,u9 .i32 (gg a b c n) 1=gg 1 b c n:=by decide +kernel
theorem U8:∀a<2,∀b<2,∀c<2,∀n<8,u9 .i32 (gg a b c n) 2=gg a 1 c n:=by decide +kernel
theorem U9:∀a<2,∀b<2,∀c<2,∀n<8,u9 .i32 (gg a b c n) 4=gg a b 1 n:=by decide +kernel
theorem Gb:∀a<2,∀b<2,∀c<2,∀n<8,po .i32 (gg a b c n) 2=gg a 0 c n:=by decide +kernel
theorem Gc:∀a<2,∀b<2,∀c<2,∀n<8,(gg a b c n).fdiv (2 ^ min 3 IntKind.i32.bits)=n:=by decide +kernel
theorem U':∀a<2,∀b<2,∀c<2,∀n<7,IntKind.i32.wrap (gg a b c n+8)=gg a b c (n+1):=by decide +kernel
theorem nL (ο:aD):mwd ο=gg ο.bY ο.wk ο.sv ο.nw:=rfl
theorem yK:Entry Tryz.prog 160 (λ_=>do mark .disable;pure Extern.Race.none_):=⟨_,Tryz.func160,by kernel_rfl,by kernel_rfl,by kernel_rfl,by kernel_rfl⟩
theorem sw:Entry Tryz.prog 161 (λ_=>do mark .enable;pure Extern.Race.none_):=⟨_,Tryz.func161,by kernel_rfl,by kernel_rfl,by kernel_rfl,by kernel_rfl⟩
theorem Ln:Entry Tryz.prog 159 (Extern.Race.marked .releaseMerge):=⟨_,Tryz.func159,by kernel_rfl,by kernel_rfl,by kernel_rfl,by kernel_rfl⟩
theorem Ck:Entry Tryz.prog 177 (Extern.Race.marked .acquire):=⟨_,Tryz.func177,by kernel_rfl,by kernel_rfl,by kernel_rfl,by kernel_rfl⟩
theorem Va:Entry Tryz.prog 167 (Extern.Race.marked .read):=⟨_,Tryz.func167,by kernel_rfl,by kernel_rfl,by kernel_rfl,by kernel_rfl⟩
theorem Vb:Entry Tryz.prog 180 (Extern.Race.marked .write):=⟨_,Tryz.func180,by kernel_rfl,by kernel_rfl,by kernel_rfl,by kernel_rfl⟩
theorem Lo:Entry Tryz.prog 162 (λ_=>pure (.bool false)):=⟨_,Tryz.func162,by kernel_rfl,by kernel_rfl,by kernel_rfl,by kernel_rfl⟩
theorem Cl:Entry Tryz.prog 212 (Extern.Atomic.casT (.int .i32)):=⟨_,Tryz.func212,by kernel_rfl,by kernel_rfl,by kernel_rfl,by kernel_rfl⟩
theorem Lp:Entry Tryz.prog 214 (Extern.Atomic.update (Op.intArith .add) .i32 true):=⟨_,Tryz.func214,by kernel_rfl,by kernel_rfl,by kernel_rfl,by kernel_rfl⟩
theorem Vd:Entry Tryz.prog 216 (Extern.Atomic.casT (.int .u64)):=⟨_,Tryz.func216,by kernel_rfl,by kernel_rfl,by kernel_rfl,by kernel_rfl⟩
theorem Lq:Entry Tryz.prog 207 (Extern.Atomic.update (Op.intArith .add) .u64 true):=⟨_,Tryz.func207,by kernel_rfl,by kernel_rfl,by kernel_rfl,by kernel_rfl⟩
theorem Lr:Entry Tryz.prog 208 (Extern.Atomic.loadT (.int .u64)):=⟨_,Tryz.func208,by kernel_rfl,by kernel_rfl,by kernel_rfl,by kernel_rfl⟩
theorem Ve:Entry Tryz.prog 209 Extern.Atomic.storeT:=⟨_,Tryz.func209,by kernel_rfl,by kernel_rfl,by kernel_rfl,by kernel_rfl⟩
theorem Vf:Entry Tryz.prog 242 Extern.Sync.canSpin:=⟨_,Tryz.func242,by kernel_rfl,by kernel_rfl,by kernel_rfl,by kernel_rfl⟩
theorem Vg:Entry Tryz.prog 243 (λ_=>pure (.tuple #[])):=⟨_,Tryz.func243,by kernel_rfl,by kernel_rfl,by kernel_rfl,by kernel_rfl⟩
theorem Ls:Entry Tryz.prog 245 Extern.OsHooks.nano:=⟨_,Tryz.func245,by kernel_rfl,by kernel_rfl,by kernel_rfl,by kernel_rfl⟩
theorem Vh:Entry Tryz.prog 246 Extern.Sync.semacquire:=⟨_,Tryz.func246,by kernel_rfl,by kernel_rfl,by kernel_rfl,by kernel_rfl⟩
theorem Vi:Entry Tryz.prog 181 Extern.Sync.semacquire:=⟨_,Tryz.func181,by kernel_rfl,by kernel_rfl,by kernel_rfl,by kernel_rfl⟩
theorem Lt:Entry Tryz.prog 248 Extern.Sync.semrelease:=⟨_,Tryz.func248,by kernel_rfl,by kernel_rfl,by kernel_rfl,by kernel_rfl⟩
theorem Vj:Entry Tryz.prog 171 Extern.Sync.semrelease:=⟨_,Tryz.func171,by kernel_rfl,by kernel_rfl,by kernel_rfl,by kernel_rfl⟩
theorem sx:Tryz.prog.underlying 195=some .unsafePointer:=by kernel_rfl
theorem Gd:Tryz.prog.underlying 237=some (.pointer 171):=by kernel_rfl
theorem Ge:(Tryz.prog.info? 171).map (λi=>decide (i.size=0))=some false:=by kernel_rfl
theorem Gf:Tryz.prog.underlying 193=some (.pointer 179):=by kernel_rfl
theorem Gg:(Tryz.prog.info? 179).map (λi=>decide (i.size=0))=some false:=by kernel_rfl
theorem Lu:Tryz.prog.underlying 200=some (.pointer 169):=by kernel_rfl
theorem Lv:(Tryz.prog.info? 169).map (λi=>decide (i.size=0))=some false:=by kernel_rfl
theorem vY:Tryz.prog.underlying 21=some (.int .i32):=by kernel_rfl
theorem aB.leave0 [bh] {P:Program} {Q:Value->Prop} {mn:Bool} {z:fZ} {c b:Frame} {rest:List Frame} {H:υ} {t:Array Value} {ops:Array Oper} {fn:Func} (U:Seq z) (hb:b.mode=.run) (bZ:b.roundOf=none) (eh:b.defers=[]) (fW:b.kind=.normal) (cA:P.funcs[b.fn]?=some fn) (eB:fn.results=#[])
  (h:aB P Q mn z (c.finish (.tuple #[])) rest H):aB P Q mn z (ai b t [.inRegion ops []]) (c::rest) H:=by
 refine .bm U hb (.qy U hb bZ (.back U rfl eh (.inl fW) cA ?_));rw[results_none eB];exact π.pure' h
theorem b4.leave0 [bh] {P:Program} {Q:Value->Prop} {mn:Bool} {x:aK} {c b:Frame} {rest:List Frame} {H:υ} {t:Array Value} {ops:Array Oper} {fn:Func} (U:Seq (one x)) (hb:b.mode=.run) (bZ:b.roundOf=none) (eh:b.defers=[]) (fW:b.kind=.normal) (cA:P.funcs[b.fn]?=some fn) (eB:fn.results=#[])
  (h:b4 P Q mn x (c.finish (.tuple #[])) rest H):b4 P Q mn x (ai b t [.inRegion ops []]) (c::rest) H:=
 aB.leave0 (z:=one x) U hb bZ eh fW cA eB (λy ad=>by cases ad;exact h) x rfl
end Go.TL
