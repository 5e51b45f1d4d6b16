import Derived.Test.YtlabjopijpkiaaaGreatQAY
import Derived.Test.YtlabjopijpkiaaaGreatQBA
set_option maxHeartbeats 16000000
set_option maxRecDepth 20000
set_option linter.unusedSectionVars false
set_option linter.unusedSimpArgs false
set_option linter.unusedVariables false
namespace Go.TL
open Go.Proofs
variable [bd]
def s3:Int→List Int→List Int
 | _,[]=>[]
 | a,b::l=>if b=a then s3 a l else b::s3 b l
def hV:List Int→List Int
 | []=>[]
 | a::l=>a::s3 a l
theorem Mc (l:List Int) {p:Nat} (χ:0<p) (h:p<l.length) (cP:p-1<l.length):hV (l.take (p+1))=hV (l.take p)++if l[p]=l[p-1] then [] else [l[p]]:=by
 have gen:∀(l:List Int) (a:Int) (p:Nat) (h:p<l.length),s3 a (l.take (p+1))=s3 a (l.take p)++if l[p]=(a::l)[p]'(by simp;omega) then [] else [l[p]]:=by
  intro l
  induction l with
  | nil=>intro a p h;cases h
  | cons b l Γ=>
   intro a p h;cases p with
   | zero=>by_cases e:b=a<;>simp[s3,e]
   | succ p=>
    have γ:p<l.length:=by simpa using h
    by_cases e:b=a
    ·subst e;have:=Γ b p γ;simp only[List.take_succ_cons,s3,if_true,List.getElem_cons_succ] at this ⊢;exact this
    ·have:=Γ b p γ;simp only[List.take_succ_cons,s3,e,if_false,List.getElem_cons_succ,List.cons_append] at this ⊢;rw[this]
 cases l with
 | nil=>cases h
 | cons a l=>
  obtain⟨q,rfl⟩:∃q,p=q+1:=⟨p-1,by omega⟩;have γ:q<l.length:=by simpa using h
  have:=gen l a q γ;simp only[List.take_succ_cons,hV,List.getElem_cons_succ,Nat.add_sub_cancel] at this ⊢;rw[this];rfl
theorem CS {f:List Int} {L:List θ} (aD:L=f.map U) {j:Nat} {x:Int} (h:f[j]?=some x):L[j]?=some (U x)∧∀h:j<L.length,L[j]=U x:=by
 have e:L[j]?=some (U x):=by rw[aD,List.getElem?_map,h];rfl
 exact⟨e,fun ε=>by rw[bc ε] at e;exact Option.some.inj e⟩
theorem Vb (l:List Int) (n:Nat) (Η:l.length=n) (ξ:n<2 ^ 40):ak Tryz.prog 133 [.ms 0 n 0 n] [.cells 3 1 (l.map U)]
  (fun r s=>∃tail:List Int,(hV l++tail).length=n∧r=.ms 0 n 0 (hV l).length∧s=[.cells 3 1 ((hV l++tail).map U)]) (fun _ _=>False):=by
 refine ak.body Θ Tryz.func133 rfl rfl Tryz.ntmps133 rfl rfl (by simp) ?_;by_cases γ:(n:Int)<2
 ·(repeat (first|apply ι|(refine ν fun J I=>?_;simp;(repeat (rw[ζ];simp[Η,γ]));apply I;clear I J)));refine al rfl ?_;(repeat (first|apply ι|(refine ν fun J I=>?_;simp;(repeat (rw[ζ];simp[Η]));apply I;clear I J)));refine W.ret ⟨_,rfl,[],?_⟩;have e:hV l=l:=by
   match l,Η with
   | [],_=>rfl
   | [a],_=>rfl
   | a::b::l,Η=>simp at Η;omega
  rw[e,List.append_nil,Η];exact⟨rfl,rfl,rfl⟩
 (repeat (first|apply ι|(refine ν fun J I=>?_;simp;(repeat (rw[ζ];simp[Η,γ]));apply I;clear I J)));refine ah rfl ?_;(repeat (first|apply ι|(refine ν fun J I=>?_;simp;(repeat (rw[ζ];simp));apply I;clear I J)));refine W.iter (fun k:Nat=>1≤k∧k≤n∧hV (l.take k)=l.take k) (fun k=>[(0,.ms 0 n 0 n),(3,U k)]) (fun _=>[.cells 3 1 (l.map U)]) (fun k=>n-k) 1 ⟨Nat.le_refl _,by omega,by
  match l,Η with
  | [],Η=>rfl
  | a::l,Η=>rfl⟩ rfl (by simp) (fun k υ Γ=>?_)
 obtain⟨k1,cx,qu⟩:=υ;(repeat (first|apply ι|(refine ν fun J I=>?_;simp;(repeat (rw[ζ];simp[Η]));apply I;clear I J)));by_cases η:k<n
 ·refine al (by simp[η]) ?_
  repeat (first|apply ι)
  obtain⟨p,χ⟩:∃p,k=p+1:=⟨k-1,by omega⟩;have ns:IntKind.i64.wrap ((k:Int)-1)=(p:Int):=by have:=fy (show p<2 ^ 62 by omega);rw[χ];simpa using this
  have qv:p<n:=by omega
  have iz:k<l.length:=by omega
  have hz:p<l.length:=by omega
  obtain⟨L,aD⟩:∃L,L=l.map U:=⟨_,rfl⟩;have jA:L.length=n:=by rw[aD];simpa using Η
  obtain⟨a1,bg⟩:=CS aD (bc iz);obtain⟨bI,dc⟩:=CS aD (bc hz);refine W.to (σ':=[.cells 3 1 L]) (env':=[(0,.ms 0 n 0 n),(3,U k)]) ?_ (by rw[aD]) (by simp);generalize δ:l[k]=x at a1 bg;generalize Ο:l[p]=y at bI dc;refine W.draw (A:=[]) Θ mixed fun J I=>?_;simp;(repeat (rw[bp];simp[η,ns,jA,qv,a1,bg,bI,dc]));refine⟨bL (by kernel_rfl),I _ _ ?_⟩;clear I J;have dF:hV (l.take (k+1))=hV (l.take k)++if x=y then [] else [x]:=by
   rw[Mc l (by omega) iz (by omega)];simp only[χ,Nat.add_sub_cancel] at δ ⊢;rw[δ,Ο]
  by_cases wi:x=y
  ·refine al (by simp[wi]) ?_
   repeat first|apply ι
   refine W.hl (A:=[]) Θ [(0,.ms 0 n 0 n),(3,U k),(4,.ms 0 n k (n-k))] [.cells 3 1 L] ?_ (by
    (try simp);(repeat (rw[ζ];simp[jA,Nat.le_of_lt η]));(try simp[jA,Nat.le_of_lt η]))
   (repeat (first|apply ι|(refine ν fun J I=>?_;simp;(repeat (rw[ζ];simp));apply I;clear I J)));have cg:hV (l.take (k+1))=l.take k:=by rw[dF,if_pos wi,List.append_nil,qu]
   refine W.iter (fun q:Nat×Nat×List Int=>1≤q.2.1∧k+q.2.1≤n∧q.2.2.length=n∧q.1<k+q.2.1∧q.1=(hV (l.take (k+q.2.1))).length∧q.2.2.take q.1=hV (l.take (k+q.2.1))∧∀j,k+q.2.1-1≤j→j<n→q.2.2[j]?=l[j]?)
    (fun q=>[(0,.ms 0 n 0 n),(3,U q.1),(4,.ms 0 n k (n-k)),(5,U q.2.1)]) (fun q=>[.cells 3 1 (q.2.2.map U)]) (fun q=>n-q.2.1) (k,1,l) ⟨Nat.le_refl _,by simp;omega,Η,by simp,by simp only[cg];simp;omega,by simp only[cg],fun j _ _=>rfl⟩ (by rw[aD]) (by simp) (fun q Υ gq=>?_)
   obtain⟨m,cx,f⟩:=q;obtain⟨c1,c2,c3,c4,mA,rr,qk⟩:=Υ;simp only at c1 c2 c3 c4 mA rr qk;clear aD jA a1 bg bI dc;(repeat (first|apply ι|(refine ν fun J I=>?_;simp;(repeat (rw[ζ];simp[c3]));apply I;clear I J)));by_cases hd:cx<n-k
   ·have sS:(cx:Int)<((n-k:Nat):Int):=by omega
    refine al (by simp[hd]) ?_
    repeat (first|apply ι)
    obtain⟨uX,jM⟩:∃r,cx=r+1:=⟨cx-1,by omega⟩;have fG:IntKind.i64.wrap ((cx:Int)-1)=(uX:Int):=by have:=fy (show uX<2 ^ 62 by omega);rw[jM];simpa using this
    have κ:uX<n-k:=by omega
    obtain⟨M,dj⟩:∃M,M=f.map U:=⟨_,rfl⟩;have GP:M.length=n:=by rw[dj];simpa using c3
    have hu:f[k+cx]?=some (l[k+cx]'(by omega)):=by rw[qk _ (by omega) (by omega),bc]
    have hv:f[k+uX]?=some (l[k+uX]'(by omega)):=by rw[qk _ (by omega) (by omega),bc]
    have dI:=Mc l (p:=k+cx) (by omega) (by omega) (by omega)
    have Vd:l[k+cx-1]'(by omega)=l[k+uX]'(by omega):=by congr 1;omega
    rw[Vd] at dI;generalize l[k+cx]'(by omega)=u at hu dI;generalize l[k+uX]'(by omega)=v at hv dI;obtain⟨eh,dT⟩:=CS dj hu;obtain⟨v1,v2⟩:=CS dj hv;refine W.to (σ':=[.cells 3 1 M]) (env':=[(0,.ms 0 n 0 n),(3,U m),(4,.ms 0 n k (n-k)),(5,U cx)]) ?_ (by rw[dj]) (by simp);have n1:m<n:=by omega
    refine W.draw (A:=[]) Θ mixed fun J I=>?_;simp;(repeat (rw[bp];simp[hd,fG,κ,GP,eh,dT,v1,v2]));refine⟨bL (by kernel_rfl),I _ _ ?_⟩;clear I J;by_cases CU:u=v
    ·refine ah (by simp[CU]) ?_;(repeat (first|apply ι|(refine ν fun J I=>?_;simp;(repeat (rw[ζ];simp));apply I;clear I J)));rw[if_pos CU,List.append_nil] at dI;refine W.to (gq (m,cx+1,f) ⟨by simp,by simp;omega,c3,by simp;omega,by simp only[←Nat.add_assoc,dI];exact mA,by simp only[←Nat.add_assoc,dI];exact rr,fun j R γ=>qk j (by simp at R;omega) γ⟩ (by simp;omega)) (by rw[dj]) ?_;have:=fy (show cx+1<2 ^ 62 by omega);simpa using this
    ·refine al (by simp[CU]) ?_;rw[if_neg CU] at dI
     repeat first|apply ι
     refine W.hl (A:=[]) Θ [(0,.ms 0 n 0 n),(3,U m),(4,.ms 0 n k (n-k)),(5,U cx)] [.cells 3 1 ((f.set m u).map U)] ?_ (by
      (try simp);(repeat (rw[ζ];simp[hd,GP,n1,eh,dT]));(try simp[hd,GP,n1,eh,dT]);subst dj;simp)
     (repeat (first|apply ι|(refine ν fun J I=>?_;simp;(repeat (rw[ζ];simp));apply I;clear I J)));refine W.to (gq (m+1,cx+1,f.set m u) ⟨by simp,by simp;omega,by simpa using c3,by simp;omega,by simp only[←Nat.add_assoc,dI];simp;exact mA,?_,fun j R γ=>?_⟩ (by simp;omega)) (by simp) ?_
     ·simp only[←Nat.add_assoc,dI];rw[←rr,List.take_succ_eq_append_getElem (by simp;omega),List.take_set_of_le (Nat.le_refl _)];simp
     ·simp at R;rw[List.getElem?_set_ne (by omega)];exact qk j (by omega) γ
     ·have Ε:=fy (show cx+1<2 ^ 62 by omega)
      have Δ:=fy (show m+1<2 ^ 62 by omega);simp at Ε Δ ⊢;exact⟨Δ,Ε⟩
   ·refine ah (by simp[hd]) ?_;refine W.exit rfl ?_;have he:k+cx=n:=by omega
    have Ve:l.take n=l:=List.take_of_length_le (by omega);rw[he,Ve] at mA rr
    repeat first|apply ι
    have n1:m≤n:=by omega
    refine W.hl (A:=[]) Θ [(0,.ms 0 n 0 n),(3,U m)] [.cells 3 1 ((hV l++List.replicate (n-m) 0).map U)] ?_ (by
     (try simp);(repeat (rw[ζ];simp[c3,n1]));(try simp[c3,n1]);rw[←List.map_take,rr,List.drop_eq_nil_of_le (by simp;omega),List.append_nil])
    have Md:(hV l).length+(n-m)=n:=by omega
    (repeat (first|apply ι|(refine ν fun J I=>?_;simp;(repeat (rw[ζ];simp[Md,n1]));apply I;clear I J)));refine W.ret ⟨_,rfl,List.replicate (n-m) 0,by simp;omega,?_,by simp⟩;rw[←mA];rfl
  ·refine ah (by simp[wi]) ?_;(repeat (first|apply ι|(refine ν fun J I=>?_;simp;(repeat (rw[ζ];simp));apply I;clear I J)));refine W.to (Γ (k+1) ⟨by omega,by omega,?_⟩ (by omega)) (by rw[aD]) ?_
   ·rw[dF,if_neg wi,qu,←δ,←List.take_succ_eq_append_getElem iz]
   ·have:=fy (show k+1<2 ^ 62 by omega);simpa using this
 ·refine ah (by simp[η]) ?_;refine W.exit rfl ?_;(repeat (first|apply ι|(refine ν fun J I=>?_;simp;(repeat (rw[ζ];simp));apply I;clear I J)));refine W.ret ⟨_,rfl,[],?_⟩;have e:hV l=l:=by rw[List.take_of_length_le (by omega)] at qu;exact qu
  rw[e,List.append_nil,Η];exact⟨rfl,rfl,rfl⟩
def rS:aM:=⟨[],[],[]⟩
theorem GQ {e f g:Bool} {a b c:Nat}:db (.aU [.sl e a [],.sl f b [],.sl g c []]) (eP rS):=.aU (.cons .nil (.cons .nil (.cons .nil .nil)))
abbrev Me (r:aM×List Found×Int):θ:=.bt [eP r.1,cJ r.2.1,U r.2.2]
def e6 (s:aM) (b2:Bool) (F:List Found):aM×List Found×Int:=
 if s.err≠0 then(rS,[],s.err) else if b2=true∧F=[] then(s,[],9) else(s,F,0)
def ny (s:aM) (cell:Int) (F:List Found):aM×List Found×Int:=
 if s.err≠0 then(rS,[],s.err) else if cell<0∨(s.cells.length:Int)≤cell then(rS,[],3) else e6 s true F
def qy (s:aM) (F:List Found):Prop:=s.err=0→av Tryz.prog 116 [eP s] (cJ F)
theorem zj (s:aM) (ξ:s.small) (b2:Bool) (F:List Found) (gx:qy s F):av Tryz.prog 75 [eP s,bm b2] (Me (e6 s b2 F)):=by
 refine ak.body Θ Tryz.func75 rfl rfl Tryz.ntmps75 rfl rfl (by simp) ?_
 repeat first|apply ι
 refine de (A:=[4]) Θ fun J I=>?_;simp;(repeat (rw[ζ];simp));apply I;clear I J;(repeat (first|apply ι));refine ν fun J I=>?_;simp;(repeat (rw[ζ];simp));refine av.c (GO s ξ) (aI.refl _) (by simp) (by simp) ?_;simp;(repeat (rw[ζ];simp));apply I;clear I J;(repeat (first|apply ι|(refine ν fun J I=>?_;simp;(repeat (rw[ζ];simp));apply I;clear I J)));by_cases cU:s.err=0
 case neg=>
  have e:e6 s b2 F=(rS,[],s.err):=by unfold e6;rw[if_pos cU]
  rw[e];refine al (by simp[cU]) ?_;(repeat (first|apply ι|(refine ν fun J I=>?_;simp;(repeat (rw[ζ];simp));apply I;clear I J)));refine W.fix (id:=0) (σ':=[]) (Nat.zero_le _) rfl (by simp) (by simp) rfl [(4,.aa [.sl true 0 [],.sl true 0 [],.sl true 0 []]),(5,.sl true 0 []),(6,U s.err)] (by simp) ?_;refine W.ret ⟨_,rfl,?_,rfl⟩;exact .bt (.cons GQ (.cons .nil (.cons (.refl _) .nil)))
 refine ah (by simp[cU]) ?_
 repeat first|apply ι
 refine de (A:=[8]) Θ fun J I=>?_;simp;(repeat (rw[ζ];simp));apply I;clear I J;(repeat (first|apply ι));refine ν fun J I=>?_;simp;(repeat (rw[ζ];simp));refine av.c (gx cU) (aI.refl _) (by simp) (by simp) ?_;simp;(repeat (rw[ζ];simp));apply I;clear I J
 repeat first|apply ι
 cases b2
 case false=>
  have e:e6 s false F=(s,F,0):=by unfold e6;rw[if_neg (by simpa using cU),if_neg (by simp)]
  rw[e];(repeat (first|apply ι|(refine ν fun J I=>?_;simp;(repeat (rw[ζ];simp));apply I;clear I J)));refine ah rfl ?_;(repeat (first|apply ι|(refine ν fun J I=>?_;simp;(repeat (rw[ζ];simp));apply I;clear I J)));refine W.fix (id:=0) (σ':=[]) (Nat.zero_le _) rfl (by simp) (by simp) rfl [(4,.aa [aP s.af,aO s.an,bz s.cells]),(5,cJ F),(6,U 0)] (by simp) ?_;refine W.ret ⟨_,rfl,?_,rfl⟩;exact .refl _
 case true=>
  (repeat (first|apply ι|(refine ν fun J I=>?_;simp;(repeat (rw[ζ];simp));apply I;clear I J)));by_cases z:F=[]
  ·have e:e6 s true F=(s,[],9):=by unfold e6;rw[if_neg (by simpa using cU),if_pos ⟨rfl,z⟩]
   rw[e];refine al (by simp[z]) ?_;(repeat (first|apply ι|(refine ν fun J I=>?_;simp;(repeat (rw[ζ];simp));apply I;clear I J)));refine W.fix (id:=0) (σ':=[]) (Nat.zero_le _) rfl (by simp) (by simp) rfl [(4,.aa [aP s.af,aO s.an,bz s.cells]),(5,.sl true 0 []),(6,U 9)] (by simp) ?_;refine W.ret ⟨_,rfl,?_,rfl⟩;exact .bt (.cons (.refl _) (.cons .nil (.cons (.refl _) .nil)))
  ·have e:e6 s true F=(s,F,0):=by unfold e6;rw[if_neg (by simpa using cU),if_neg (by simp[z])]
   rw[e];refine ah (by simp[z]) ?_;(repeat (first|apply ι|(refine ν fun J I=>?_;simp;(repeat (rw[ζ];simp));apply I;clear I J)));refine W.fix (id:=0) (σ':=[]) (Nat.zero_le _) rfl (by simp) (by simp) rfl [(4,.aa [aP s.af,aO s.an,bz s.cells]),(5,cJ F),(6,U 0)] (by simp) ?_;refine W.ret ⟨_,rfl,?_,rfl⟩;exact .refl _
theorem Vf (s:aM) (ξ:s.small) (cell:Int) (F:List Found) (gx:qy s F):av Tryz.prog 82 [eP s,U cell] (Me (ny s cell F)):=by
 refine ak.body Θ Tryz.func82 rfl rfl Tryz.ntmps82 rfl rfl (by simp) ?_
 repeat first|apply ι
 refine de (A:=[4]) Θ fun J I=>?_;simp;(repeat (rw[ζ];simp));apply I;clear I J;(repeat (first|apply ι));refine ν fun J I=>?_;simp;(repeat (rw[ζ];simp));refine av.c (GO s ξ) (aI.refl _) (by simp) (by simp) ?_;simp;(repeat (rw[ζ];simp));apply I;clear I J;(repeat (first|apply ι|(refine ν fun J I=>?_;simp;(repeat (rw[ζ];simp));apply I;clear I J)));by_cases cU:s.err=0
 case neg=>
  have e:ny s cell F=(rS,[],s.err):=by unfold ny;rw[if_pos cU]
  rw[e];refine al (by simp[cU]) ?_;(repeat (first|apply ι|(refine ν fun J I=>?_;simp;(repeat (rw[ζ];simp));apply I;clear I J)));refine W.fix (id:=0) (σ':=[]) (Nat.zero_le _) rfl (by simp) (by simp) rfl [(4,.aa [.sl true 0 [],.sl true 0 [],.sl true 0 []]),(5,.sl true 0 []),(6,U s.err)] (by simp) ?_;refine W.ret ⟨_,rfl,?_,rfl⟩;exact .bt (.cons GQ (.cons .nil (.cons (.refl _) .nil)))
 refine ah (by simp[cU]) ?_;have cA:ny s cell F=if cell<0∨(s.cells.length:Int)≤cell then(rS,[],3) else e6 s true F:=by unfold ny;rw[if_neg (by simpa using cU)]
 repeat first|apply ι
 refine W.rA (A:=[]) Θ [(22,bm (decide (cell<0)||decide ((s.cells.length:Int)≤cell))),(2,.aa [aP s.af,aO s.an,bz s.cells]),(4,.ag 0 1 0 0),(1,U cell)] ?_ (by
  by_cases q:cell<0
  ·(try simp);(repeat (rw[ζ];simp[q]));(try simp[q])
  ·(try simp);(repeat (rw[ζ];simp[q]));(try simp[q]))
 by_cases bI:cell<0∨(s.cells.length:Int)≤cell
 ·rw[cA,if_pos bI];refine al (by simpa using bI) ?_;(repeat (first|apply ι|(refine ν fun J I=>?_;simp;(repeat (rw[ζ];simp));apply I;clear I J)));refine W.fix (id:=0) (σ':=[]) (Nat.zero_le _) rfl (by simp) (by simp) rfl [(4,.aa [.sl true 0 [],.sl true 0 [],.sl true 0 []]),(5,.sl true 0 []),(6,U 3)] (by simp) ?_;refine W.ret ⟨_,rfl,?_,rfl⟩;exact .bt (.cons GQ (.cons .nil (.cons (.refl _) .nil)))
 ·rw[cA,if_neg bI];refine ah (by simpa using bI) ?_;(repeat (first|apply ι));refine ν fun J I=>?_;simp;(repeat (rw[ζ];simp));refine av.c (zj s ξ true F gx) (aI.refl _) (by simp) (by simp) ?_;simp;(repeat (rw[ζ];simp));apply I;clear I J;(repeat (first|apply ι|(refine ν fun J I=>?_;simp;(repeat (rw[ζ];simp));apply I;clear I J)));generalize e6 s true F=r;refine W.fix (id:=0) (σ':=[]) (Nat.zero_le _) rfl (by simp) (by simp) rfl [(4,.aa [aP r.1.af,aO r.1.an,bz r.1.cells]),(5,cJ r.2.1),(6,U r.2.2)] (by simp) ?_;refine W.ret ⟨_,rfl,?_,rfl⟩;exact .refl _
def Small (F:List Found):Prop:=F.length<2 ^ 20∧(∀f∈F,f.cells.length<2 ^ 20∧(∀i,i≤f.cells.length→∀gb,fx f.cells gb i<2 ^ 40)∧∀c∈f.cells,c.length<2 ^ 20)
theorem Vg (s:aM) (ξ:s.small) (F:List Found) (gx:qy s F) (Ρ:Small F) (η:gB F<2 ^ 62):av Tryz.prog 39 [eP s] (.bt [U (if s.err=0 then gB F else 0),U s.err]):=by
 refine ak.body Θ Tryz.func39 rfl rfl Tryz.ntmps39 rfl rfl (by simp) ?_;(repeat (first|apply ι|(refine ν fun J I=>?_;simp;(repeat (rw[ζ];simp));apply I;clear I J)));(repeat (first|apply ι));refine de (A:=[4]) Θ fun J I=>?_;simp;(repeat (rw[ζ];simp));refine av.c (zj s ξ false F gx) (aI.refl _) (by simp) (by simp) ?_;simp;(repeat (rw[ζ];simp));apply I;clear I J;have e:e6 s false F=if s.err=0 then(s,F,0) else(rS,[],s.err):=by
  unfold e6;by_cases b:s.err=0
  ·rw[if_neg (by simpa using b),if_neg (by simp),if_pos b]
  ·rw[if_pos b,if_neg b]
 have Ε:(e6 s false F).2.1=if s.err=0 then F else []:=by rw[e];split<;>rfl
 have Δ:(e6 s false F).2.2=s.err:=by rw[e];split<;>simp[*]
 have fin:∀l:List Found,(∀f∈l,f∈F)→l.length≤F.length→gB l<2 ^ 62→av Tryz.prog 79 [cJ l] (U (gB l)):=fun l ω R γ=>
  L3 l (by have:=Ρ.1;omega) (fun f δ=>⟨by have:=(Ρ.2 f (ω f δ)).1;omega,fun i hi=>by have:=(Ρ.2 f (ω f δ)).2.1 i hi (-1);omega⟩) γ
 rw[Ε,Δ];by_cases b:s.err=0
 ·rw[if_pos b];(repeat (first|apply ι));refine ν fun J I=>?_;simp;(repeat (rw[ζ];simp));refine av.c (fin F (fun f h=>h) (Nat.le_refl _) η) (aI.refl _) (by simp) (by simp) ?_;simp;(repeat (rw[ζ];simp));apply I;clear I J;refine W.drop (h:=0) (Nat.zero_le _) (Nat.zero_le _) (by simp) rfl [(2,U (gB F)),(3,U s.err)] (by simp) ?_;refine W.ret ⟨_,rfl,?_,rfl⟩;rw[if_pos b];exact .refl _
 ·rw[if_neg b];(repeat (first|apply ι));refine ν fun J I=>?_;simp;(repeat (rw[ζ];simp));refine av.c (fin [] (by simp) (by simp) (by simp[gB])) (aI.refl _) (by simp) (by simp) ?_;simp;(repeat (rw[ζ];simp));apply I;clear I J;refine W.drop (h:=0) (Nat.zero_le _) (Nat.zero_le _) (by simp) rfl [(2,U (gB [])),(3,U s.err)] (by simp) ?_;refine W.ret ⟨_,rfl,?_,rfl⟩;rw[if_neg b];exact .refl _
def iI (F:List Found):List (List Int):=F.map fun f=>[f.u,f.v]
theorem Mf {α β:Type} (f:α→β) (l:List α) {i:Nat} (h:i<l.length):(l.take (i+1)).map f=(l.take i).map f++[f l[i]]:=by
 rw[List.take_succ_eq_append_getElem h,List.map_append];rfl
theorem Mg (s:aM) (ξ:s.small) (F:List Found) (gx:qy s F) (Ρ:F.length<2 ^ 20):av Tryz.prog 42 [eP s] (.bt [aO (if s.err=0 then iI F else []),U s.err]):=by
 refine ak.body Θ Tryz.func42 rfl rfl Tryz.ntmps42 rfl rfl (by simp) ?_;(repeat (first|apply ι|(refine ν fun J I=>?_;simp;(repeat (rw[ζ];simp));apply I;clear I J)));(repeat (first|apply ι));refine de (A:=[4]) Θ fun J I=>?_;simp;(repeat (rw[ζ];simp));refine av.c (zj s ξ false F gx) (aI.refl _) (by simp) (by simp) ?_;simp;(repeat (rw[ζ];simp));apply I;clear I J;have e:e6 s false F=if s.err=0 then(s,F,0) else(rS,[],s.err):=by
  unfold e6;by_cases b:s.err=0
  ·rw[if_neg (by simpa using b),if_neg (by simp),if_pos b]
  ·rw[if_pos b,if_neg b]
 have Ε:(e6 s false F).2.1=if s.err=0 then F else []:=by rw[e];split<;>rfl
 have Δ:(e6 s false F).2.2=s.err:=by rw[e];split<;>simp[*]
 obtain⟨G,cY⟩:∃G,G=if s.err=0 then F else []:=⟨_,rfl⟩
 have gQ:G.length<2 ^ 20:=by rw[cY];split;exact Ρ;simp
 have lB:(if s.err=0 then iI F else [])=iI G:=by rw[cY];split<;>rfl
 rw[Ε,Δ,lB,←cY];clear cY lB e Ε Δ;generalize s.err=fG;refine W.drop (h:=0) (σ':=[]) (Nat.zero_le _) (Nat.zero_le _) (by simp) rfl [(5,cJ G),(6,U fG)] (by simp) ?_;(repeat (first|apply ι|(refine ν fun J I=>?_;simp;(repeat (rw[ζ];simp));apply I;clear I J)));have gε:∀i,(iI G).take i=iI (G.take i):=fun i=>by simp[iI]
 refine W.iter (fun i:Nat=>i≤G.length) (fun i=>[(6,U fG),(7,d' ((iI (G.take i)).map iH)),(16,cJ G),(17,U G.length),(18,U i)])
  (fun i=>bq 29 1 ((iI (G.take i)).map iH)) (fun i=>G.length-i) 0 (Nat.zero_le _) rfl (by simp[ou,iI]) (fun i hi Γ=>?_)
 (repeat (first|apply ι|(refine ν fun J I=>?_;simp;(repeat (rw[ζ];simp));apply I;clear I J)));refine W.dY rfl (fun η=>?_) (fun η=>?_)
 ·have η:i<G.length:=by simpa using η
  have dF:(iI (G.take (i+1))).map iH=(iI (G.take i)).map iH++[iH [G[i].u,G[i].v]]:=by
   unfold iI;rw[List.map_map,List.map_map,Mf _ _ η];rfl
  have Mh:=fun h=>wN (t:=29) (k:=1) (h:=h) (Mb (L:=iI (G.take i)))
  have rT:((iI (G.take i)).map iH).length≤i:=by simp[iI];omega
  obtain⟨L,aD⟩:∃L,L=(iI (G.take i)).map iH:=⟨_,rfl⟩;rw[←aD] at Mh rT dF;refine W.to (σ':=bq 29 1 L) (env':=[(6,U fG),(7,d' L),(16,cJ G),(17,U G.length),(18,U i)]) ?_ (by rw[aD]) (by rw[aD];simp)
  repeat first|apply ι
  refine de (A:=[9]) Θ fun J I=>?_;simp;(repeat (rw[ζ];simp[η]));apply I;clear I J;refine W.mJ (Nat.zero_le _) (Mh _) (by simp) [(9,.aa [U G[i].u,U G[i].v,lQ G[i].cells]),(6,U fG),(7,d' L),(16,cJ G),(17,U G.length),(18,U i)] (by simp) ?_
  repeat first|apply ι
  refine W.hl (A:=[26]) Θ [(6,U fG),(7,d' (L++[iH [G[i].u,G[i].v]])),(16,cJ G),(17,U G.length),(18,U i)] (bq 29 1 (L++[iH [G[i].u,G[i].v]])) ?_ (by
   by_cases Ν:L=[]
   ·subst Ν;(try simp);(repeat (rw[ζ];simp[ou,iG]));(try simp[ou,iG]);exact⟨rfl,rfl⟩
   ·have lU:L.length≤4294967295:=by omega
    (try simp);(repeat (rw[ζ];simp[qx Ν,ea Ν,wM,rR]));(try simp[qx Ν,ea Ν,wM,rR]);exact lU)
  (repeat (first|apply ι|(refine ν fun J I=>?_;simp;(repeat (rw[ζ];simp));apply I;clear I J)));refine W.to (Γ (i+1) η (by omega)) ?_ ?_
  ·rw[dF]
  ·rw[dF];simp[eD η (show G.length<2 ^ 62 by omega)]
 ·have η:i=G.length:=by simp at η;omega
  subst η;refine W.exit rfl ?_;(repeat (first|apply ι|(refine ν fun J I=>?_;simp;(repeat (rw[ζ];simp));apply I;clear I J)));refine W.Ma (d:=2) Mb [(3,U fG)] (by simp) (by simp) ?_;refine W.ret ⟨_,rfl,?_,rfl⟩;exact .bt (.cons .U' (.cons (.refl _) .nil))
abbrev ov (l:List Int):List Int:=l.mergeSort (fun x y=>decide (x≤y))
def GR (N:Nat):Prop:=∀(l:List Int),l.length≤N→ak Tryz.prog 132 [.ms 0 l.length 0 l.length] [.cells 3 1 (l.map U)] (fun r s=>r=.bt []∧s=[.cells 3 1 ((ov l).map U)]) (fun _ _=>False)
def lV (lower:Bool) (r:Int×Int):Int:=if lower then r.2 else r.1
def nz (lower:Bool) (A:List Int) (C:List (Int×Int)) (j:Nat):List Int:=A++(C.take j).map (lV lower)
theorem Mi {lower:Bool} {A:List Int} {C:List (Int×Int)}:nz lower A C 0=A:=by simp[nz]
theorem Vh {lower:Bool} {A:List Int} {C:List (Int×Int)} {j:Nat} (h:j<C.length):nz lower A C (j+1)=nz lower A C j++[lV lower C[j]]:=by
 unfold nz;rw[Mf _ _ h,List.append_assoc]
theorem Mj {lower:Bool} {A:List Int} {C:List (Int×Int)} {j:Nat} (h:C.length≤j):nz lower A C j=A++C.map (lV lower):=by
 unfold nz;rw[List.take_of_length_le h]
theorem Vi {lower:Bool} {A:List Int} {C:List (Int×Int)} {j:Nat}:(nz lower A C j).length≤A.length+j:=by
 unfold nz;simp;omega
def Mk (f:Found) (cell:Nat) (lower:Bool):List Int:=((f.cells[cell]?).getD []).map (lV lower)
def jD (F:List Found) (cell:Nat) (lower:Bool):List Int:=F.flatMap fun f=>Mk f cell lower
def ps (F:List Found) (cell:Nat) (lower:Bool):List Int:=hV (ov (jD F cell lower))
theorem GU {l:List Int}:∀e∈l.map U,∀a∈e.cells,az 0 a:=by
 intro e he a μ;obtain⟨x,_,rfl⟩:=List.mem_map.1 he;simp[θ.cells] at μ;subst μ;simp
theorem Vj (F:List Found) (cell:Nat) (lower:Bool) (gx:F.length<2 ^ 20) (hy:∀f∈F,cell<f.cells.length∧∀c∈f.cells,c.length<2 ^ 20) (N:Nat) (cm:N<2 ^ 20) (fS:GR N) (bu:jD F cell lower≠[]) (hle:(jD F cell lower).length≤N) :
  av Tryz.prog 95 [cJ F,U cell,bm lower] (a3 U 1 (ps F cell lower)):=by
 refine ak.body Θ Tryz.func95 rfl rfl Tryz.ntmps95 rfl rfl (by simp) ?_;(repeat (first|apply ι|(refine ν fun J I=>?_;simp;(repeat (rw[ζ];simp));apply I;clear I J)));refine W.iter (fun i:Nat=>i≤F.length) (fun i=>[(1,U cell),(2,bm lower),(7,d' ((jD (F.take i) cell lower).map U)),(12,cJ F),(13,U F.length),(14,U i)])
  (fun i=>bq 3 1 ((jD (F.take i) cell lower).map U)) (fun i=>F.length-i) 0 (Nat.zero_le _) rfl (by simp[jD,ou]) (fun i hi Γ=>?_)
 (repeat (first|apply ι|(refine ν fun J I=>?_;simp;(repeat (rw[ζ];simp));apply I;clear I J)));have Vk:∀i,(jD (F.take i) cell lower).length≤N:=fun i=>by
  have e:jD F cell lower=jD (F.take i) cell lower++jD (F.drop i) cell lower:=by
   conv=>lhs;rw[←List.take_append_drop i F]
   simp only[jD,List.flatMap_append]
  rw[e,List.length_append] at hle;omega
 refine W.dY rfl (fun η=>?_) (fun η=>?_)
 ·have a2:i<F.length:=by simpa using η
  obtain⟨bY,lJ⟩:=hy _ (List.getElem_mem a2);have hC:F[i].cells[cell].length<2 ^ 20:=lJ _ (List.getElem_mem bY);obtain⟨A,bO⟩:∃A,A=jD (F.take i) cell lower:=⟨_,rfl⟩;have dF:jD (F.take (i+1)) cell lower=A++F[i].cells[cell].map (lV lower):=by
   rw[bO];unfold jD;rw[List.take_succ_eq_append_getElem a2,List.flatMap_append];simp[Mk,bY]
  have Ml:(A++F[i].cells[cell].map (lV lower)).length≤N:=by rw[←dF];exact Vk _
  rw[List.length_append,List.length_map] at Ml;refine W.to (σ':=bq 3 1 (A.map U)) (env':=[(1,U cell),(2,bm lower),(7,d' (A.map U)),(12,cJ F),(13,U F.length),(14,U i)]) ?_ (by rw[bO]) (by rw[bO];simp)
  repeat first|apply ι
  refine de (A:=[9]) Θ fun J I=>?_;simp;(repeat (rw[ζ];simp[a2]));apply I;clear I J;refine W.mJ (Nat.zero_le _) (wN GU) (by simp) [(9,.aa [U F[i].u,U F[i].v,lQ F[i].cells]),(1,U cell),(2,bm lower),(7,d' (A.map U)),(12,cJ F),(13,U F.length),(14,U i)] (by simp) ?_;(repeat (first|apply ι|(refine ν fun J I=>?_;simp;(repeat (rw[ζ];simp[bY]));apply I;clear I J)));generalize gζ:F[i].cells[cell]=C at hC dF Ml;refine W.iter (fun j:Nat=>j≤C.length) (fun j=>[(1,U cell),(2,bm lower),(7,d' ((nz lower A C j).map U)),(12,cJ F),(13,U F.length),(14,U i),(22,lP C),(23,U C.length),(24,U j)])
   (fun j=>bq 3 1 ((nz lower A C j).map U)) (fun j=>C.length-j) 0 (Nat.zero_le _) (by rw[Mi]) (by simp[Mi]) (fun j ε gq=>?_)
  (repeat (first|apply ι|(refine ν fun J I=>?_;simp;(repeat (rw[ζ];simp));apply I;clear I J)));refine W.dY rfl (fun aZ=>?_) (fun aZ=>?_)
  ·have bh:j<C.length:=by simpa using aZ
   obtain⟨L,aD⟩:∃L,L=nz lower A C j:=⟨_,rfl⟩;have lW:L.length≤A.length+j:=by rw[aD];exact Vi
   have zk:nz lower A C (j+1)=L++[lV lower C[j]]:=by rw[aD];exact Vh bh
   refine W.to (σ':=bq 3 1 (L.map U)) (env':=[(1,U cell),(2,bm lower),(7,d' (L.map U)),(12,cJ F),(13,U F.length),(14,U i),(22,lP C),(23,U C.length),(24,U j)]) ?_ (by rw[aD]) (by rw[aD];simp)
   repeat first|apply ι
   refine de (A:=[11]) Θ fun J I=>?_;simp;(repeat (rw[ζ];simp[bh]));apply I;clear I J;refine W.mJ (Nat.zero_le _) (wN GU) (by simp) [(11,.aa [U C[j].1,U C[j].2]),(1,U cell),(2,bm lower),(7,d' (L.map U)),(12,cJ F),(13,U F.length),(14,U i),(22,lP C),(23,U C.length),(24,U j)] (by simp) ?_
   repeat first|apply ι
   generalize C[j]=r at zk;refine W.hl (A:=[34]) Θ [(1,U cell),(2,bm lower),(7,d' ((L++[lV lower r]).map U)),(12,cJ F),(13,U F.length),(14,U i),(22,lP C),(23,U C.length),(24,U j)] (bq 3 1 ((L++[lV lower r]).map U)) ?_ (by
    have lU:L.length≤4294967295:=by omega
    rw[List.map_append];cases lower
    all_goals
     by_cases Ν:L.map U=[]
     ·rw[Ν,ou,iG];(try simp);(repeat (rw[ζ];simp));(try simp[]);refine av.c (GI _) (aI.refl _) (by simp) (by simp) ?_;simp;(repeat (rw[ζ];simp));(try simp[bq,d',lV])
     ·rw[qx Ν,ea Ν];(try simp);(repeat (rw[ζ];simp));(try simp[]);refine av.c (GI _) (aI.refl _) (by simp) (by simp) ?_;simp;(repeat (rw[ζ];simp));(try simp[rR,wM,lV,lU]))
   (repeat (first|apply ι|(refine ν fun J I=>?_;simp;(repeat (rw[ζ];simp));apply I;clear I J)));refine W.to (gq (j+1) bh (by omega)) ?_ ?_
   ·rw[zk,List.map_append];rfl
   ·rw[zk];simp[eD bh (show C.length<2 ^ 62 by omega)]
  ·have bh:C.length≤j:=by simpa using aZ
   refine W.exit rfl ?_;(repeat (first|apply ι|(refine ν fun J I=>?_;simp;(repeat (rw[ζ];simp));apply I;clear I J)));refine W.to (Γ (i+1) a2 (by omega)) ?_ ?_
   ·rw[dF,Mj bh]
   ·rw[dF,Mj bh];simp[eD a2 (show F.length<2 ^ 62 by omega)]
 ·have a2:i=F.length:=by simp at η;omega
  refine W.exit rfl ?_;rw[a2,List.take_length];obtain⟨M,dj⟩:∃M,M=jD F cell lower:=⟨_,rfl⟩;rw[←dj] at bu hle ⊢;have CV:M.map U≠[]:=by simpa using bu
  have kg:ps F cell lower=hV (ov M):=by rw[dj];rfl
  have ow:(ov M).length=M.length:=by simp[ov]
  refine W.to (σ':=[.cells 3 1 (M.map U)]) (env':=[(7,.ms 0 M.length 0 M.length)]) ?_ (ea CV) (by simp[qx CV]);(repeat (first|apply ι));refine ν fun J I=>?_;simp;(repeat (rw[ζ];simp));refine ak.one (fS M hle) 0 rfl (uT sW) (uT sW) (by simp[nn]) (by simp[fJ]) (by simp[np]) ?_;simp[dP,hE];(repeat (rw[ζ];simp));apply I;clear I J;(repeat (first|apply ι));refine ν fun J I=>?_;simp;(repeat (rw[ζ];simp));have Vl:=Vb (ov M) M.length ow (by omega);refine ak.GK Vl 0 rfl (uT sW) (by simp[nn]) (by simp[np]) (fun a s ⟨tail,R,γ,ο⟩=>⟨_,ο,uT sW,by subst γ;simp[nn],?_⟩);subst γ;simp[np];(repeat (rw[ζ];simp));apply I;clear I J;refine W.cut 0 (Nat.zero_le _) [(6,a3 U 1 (hV (ov M)))] (by simp) (by simp) ?_ ?_
  ·intro p χ;simp at χ;subst χ;have χ:=ey.part (σ:=[.cells 3 1 ((hV (ov M)).map U++tail.map U)]) (id:=0) (t:=3) (k:=1) (l:=(hV (ov M)).map U) (l2:=tail.map U) (m:=(hV (ov M)).length) rfl (by simp) GU;have e:((hV (ov M)).map U++tail.map U).length=M.length:=by rw[←List.map_append,List.length_map];exact R
   rw[e] at χ;exact χ
  ·rw[kg];refine W.ret ⟨_,rfl,?_,rfl⟩;exact .refl _
abbrev ji (n:Int):θ:=.z (.int .i32 n)
theorem Vm (l:List Int):rv (l.map ji)=some l:=by
 induction l with
 | nil=>rfl
 | cons a l Γ=>simp[rv,Γ]
def s4 (s:aM) (F:List Found) (lower:Bool) (eK:ByteArray→Int) (c:Nat):Int:=
 let l:=ps F c lower
 if 1<l.length then 63 else if l.headD 0<0 then 45 else match s.af[(l.headD 0).toNat]? with|some g=>eK g.name|none=>0
def ox (s:aM) (F:List Found) (lower:Bool) (eK:ByteArray→Int) (c:Nat):List Int:=(List.range c).map (s4 s F lower eK)
def s5 (s:aM) (F:List Found) (lower:Bool) (eK:ByteArray→Int):ByteArray×Int:=
 if(e6 s true F).2.2=0 then(spell (ox s F lower eK s.cells.length),0) else(⟨#[]⟩,(e6 s true F).2.2)
structure Mm (s:aM) (F:List Found) (lower:Bool) (eK:ByteArray→Int) (N:Nat):Prop where
 s6:F.length<2 ^ 20
 cells:∀f∈F,f.cells.length=s.cells.length∧∀c∈f.cells,c.length<2 ^ 20
 some:∀c,c<s.cells.length→jD F c lower≠[]∧(jD F c lower).length≤N∧ps F c lower≠[]∧(ps F c lower).length<2 ^ 30∧∀x∈ps F c lower,x<s.af.length
 name:∀g∈s.af,(Conv.runesFrom g.name g.name.size 0 #[])[0]?=Option.some (.int .i32 (eK g.name))
theorem Vn (s:aM) (ξ:s.small) (F:List Found) (gx:qy s F) (lower:Bool) (eK:ByteArray→Int) (N:Nat) (cm:N<2 ^ 20) (fS:GR N) (aD:Mm s F lower eK N) :
  av Tryz.prog 40 [eP s,bm lower] (.bt [mG (s5 s F lower eK).1,U (s5 s F lower eK).2]):=by
 refine ak.body Θ Tryz.func40 rfl rfl Tryz.ntmps40 rfl rfl (by simp) ?_;(repeat (first|apply ι|(refine ν fun J I=>?_;simp;(repeat (rw[ζ];simp));apply I;clear I J)));(repeat (first|apply ι));refine de (A:=[6]) Θ fun J I=>?_;simp;(repeat (rw[ζ];simp));refine av.c (zj s ξ true F gx) (aI.refl _) (by simp) (by simp) ?_;simp;(repeat (rw[ζ];simp));apply I;clear I J;by_cases b:(e6 s true F).2.2=0
 case neg=>
  have e:s5 s F lower eK=(⟨#[]⟩,(e6 s true F).2.2):=by unfold s5;rw[if_neg b]
  rw[e];generalize (e6 s true F).2.2=fG at b;(repeat (first|apply ι|(refine ν fun J I=>?_;simp;(repeat (rw[ζ];simp));apply I;clear I J)));refine al (by simp[b]) ?_;(repeat (first|apply ι|(refine ν fun J I=>?_;simp;(repeat (rw[ζ];simp));apply I;clear I J)));refine W.drop (h:=0) (σ':=[]) (Nat.zero_le _) (Nat.zero_le _) (by simp) rfl [(4,mG ⟨#[]⟩),(5,U fG)] (by simp) ?_;refine W.ret ⟨_,rfl,?_,rfl⟩;exact .refl _
 have e:e6 s true F=(s,F,0):=by
  unfold e6 at b ⊢;split at b
  ·rename_i h;simp at b;exact absurd b h
  ·split at b
   ·simp at b
   ·rename_i R γ;rw[if_neg R,if_neg γ]
 have Δ:s5 s F lower eK=(spell (ox s F lower eK s.cells.length),0):=by unfold s5;rw[if_pos b]
 rw[Δ,e];refine W.fix (id:=0) (σ':=[]) (Nat.zero_le _) rfl (by simp) (by simp) rfl [(1,bm lower),(6,.aa [aP s.af,aO s.an,bz s.cells]),(7,cJ F),(8,U 0)] (by simp) ?_;(repeat (first|apply ι|(refine ν fun J I=>?_;simp;(repeat (rw[ζ];simp));apply I;clear I J)));refine ah rfl ?_;(repeat (first|apply ι|(refine ν fun J I=>?_;simp;(repeat (rw[ζ];simp));apply I;clear I J)));have hy:s.cells.length<2 ^ 30:=ξ.2.2.1;refine W.iter (fun c:Nat=>c≤s.cells.length) (fun c=>[(1,bm lower),(6,.aa [aP s.af,aO s.an,bz s.cells]),(7,cJ F),(9,d' ((ox s F lower eK c).map ji)),(25,U s.cells.length),(26,U c)])
  (fun c=>bq 21 1 ((ox s F lower eK c).map ji)) (fun c=>s.cells.length-c) 0 (Nat.zero_le _) rfl (by simp[ox,ou]) (fun c jP Γ=>?_)
 (repeat (first|apply ι|(refine ν fun J I=>?_;simp;(repeat (rw[ζ];simp));apply I;clear I J)));refine W.dY rfl (fun η=>?_) (fun η=>?_)
 ·have aZ:c<s.cells.length:=by simpa using η
  obtain⟨R,γ,ο,Ι,ay⟩:=aD.some c aZ;obtain⟨ab,a8⟩:∃ab,ab=ox s F lower eK c:=⟨_,rfl⟩;have wO:ab.length=c:=by rw[a8];simp[ox]
  have dF:ox s F lower eK (c+1)=ab++[s4 s F lower eK c]:=by rw[a8];unfold ox;rw[List.range_succ,List.map_append];rfl
  refine W.to (σ':=bq 21 1 (ab.map ji)) (env':=[(1,bm lower),(6,.aa [aP s.af,aO s.an,bz s.cells]),(7,cJ F),(9,d' (ab.map ji)),(25,U s.cells.length),(26,U c)]) ?_ (by rw[a8]) (by rw[a8];simp);(repeat (first|apply ι|(refine ν fun J I=>?_;simp;(repeat (rw[ζ];simp));apply I;clear I J)));(repeat (first|apply ι));refine ν fun J I=>?_;simp;(repeat (rw[ζ];simp));refine av.c (Vj F c lower aD.s6 (fun f Ρ=>⟨by rw[(aD.cells f Ρ).1];exact aZ,(aD.cells f Ρ).2⟩) N cm fS R γ) (aI.refl _) (by simp) (by simp) ?_;simp;(repeat (rw[ζ];simp));apply I;clear I J;have lU:ab.length≤4294967295:=by omega
  obtain⟨l,ω⟩:∃l,l=ps F c lower:=⟨_,rfl⟩;have wP:s4 s F lower eK c=if 1<l.length then 63 else if l.headD 0<0 then 45 else match s.af[(l.headD 0).toNat]? with|some g=>eK g.name|none=>0:=by rw[ω];rfl
  rw[←ω] at ο Ι ay ⊢;clear ω a8;(repeat (first|apply ι|(refine ν fun J I=>?_;simp;(repeat (rw[ζ];simp));apply I;clear I J)));by_cases q:1<l.length
  ·have κ:s4 s F lower eK c=63:=by rw[wP,if_pos q]
   refine al (by simp;omega) ?_
   repeat first|apply ι
   refine W.hl (A:=[57]) Θ [(1,bm lower),(6,.aa [aP s.af,aO s.an,bz s.cells]),(7,cJ F),(9,d' ((ab++[63]).map ji)),(25,U s.cells.length),(26,U c)] (bq 21 1 ((ab++[63]).map ji)) ?_ (by
    rw[List.map_append];by_cases Ν:ab.map ji=[]
    ·rw[Ν,ou,iG];(try simp);(repeat (rw[ζ];simp));(try simp[]);simp[bq,d']
    ·rw[qx Ν,ea Ν];(try simp);(repeat (rw[ζ];simp));(try simp[]);simp[rR,wM,lU])
   (repeat (first|apply ι|(refine ν fun J I=>?_;simp;(repeat (rw[ζ];simp));apply I;clear I J)));refine W.to (Γ (c+1) aZ (by omega)) ?_ ?_
   ·simp only[dF,κ,List.map_append,List.map_cons,List.map_nil]
   ·rw[dF,κ];simp[eD aZ (show s.cells.length<2 ^ 62 by omega)]
  ·obtain⟨x,δ⟩:∃x,l=[x]:=by
    match l,ο,q with
    | [x],_,_=>exact⟨x,rfl⟩
    | x::y::z,_,q=>simp at q
   subst δ;refine ah (by simp) ?_;(repeat (first|apply ι|(refine ν fun J I=>?_;simp;(repeat (rw[ζ];simp));apply I;clear I J)));by_cases g:x<0
   ·have κ:s4 s F lower eK c=45:=by rw[wP];simp[g]
    refine al (by simp[g]) ?_;(repeat (first|apply ι|(refine ν fun J I=>?_;simp;(repeat (rw[ζ];simp));apply I;clear I J)));refine W.hl (A:=[57]) Θ [(1,bm lower),(6,.aa [aP s.af,aO s.an,bz s.cells]),(7,cJ F),(9,d' ((ab++[45]).map ji)),(25,U s.cells.length),(26,U c)] (bq 21 1 ((ab++[45]).map ji)) ?_ (by
     rw[List.map_append];by_cases Ν:ab.map ji=[]
     ·rw[Ν,ou,iG];(try simp);(repeat (rw[ζ];simp));(try simp[]);simp[bq,d']
     ·rw[qx Ν,ea Ν];(try simp);(repeat (rw[ζ];simp));(try simp[]);simp[rR,wM,lU])
    (repeat (first|apply ι|(refine ν fun J I=>?_;simp;(repeat (rw[ζ];simp));apply I;clear I J)));refine W.to (Γ (c+1) aZ (by omega)) ?_ ?_
    ·simp only[dF,κ,List.map_append,List.map_cons,List.map_nil]
    ·rw[dF,κ];simp[eD aZ (show s.cells.length<2 ^ 62 by omega)]
   ·obtain⟨k,rfl⟩:∃k:Nat,x=k:=⟨x.toNat,by omega⟩;have υ:k<s.af.length:=by have:=ay (k:Int) (by simp);omega
    have κ:s4 s F lower eK c=eK s.af[k].name:=by rw[wP];simp[g,υ]
    have kj:=aD.name _ (List.getElem_mem υ)
    have zl:∀h:0<(Conv.runesFrom s.af[k].name s.af[k].name.size 0 #[]).size,(Conv.runesFrom s.af[k].name s.af[k].name.size 0 #[])[0]'h=.int .i32 (eK s.af[k].name):=fun h=>by
     rw[eY h] at kj;exact Option.some.inj kj
    have CW:0<(Conv.runesFrom s.af[k].name s.af[k].name.size 0 #[]).size:=(Array.getElem?_eq_some_iff.1 kj).1;refine ah (by simp) ?_;refine W.draw (A:=[]) Θ mixed fun J I=>?_;simp;(repeat (rw[bp];simp[υ,kj,CW]));refine⟨bL (by kernel_rfl),I _ _ ?_⟩;clear I J
    repeat first|apply ι
    refine W.forget [(1,bm lower),(6,.aa [aP s.af,aO s.an,bz s.cells]),(7,cJ F),(9,d' (ab.map ji)),(11,ji (eK s.af[k].name)),(25,U s.cells.length),(26,U c)] (by simp[zl CW]) ?_;refine W.hl (A:=[57]) Θ [(1,bm lower),(6,.aa [aP s.af,aO s.an,bz s.cells]),(7,cJ F),(9,d' ((ab++[(eK s.af[k].name)]).map ji)),(25,U s.cells.length),(26,U c)] (bq 21 1 ((ab++[(eK s.af[k].name)]).map ji)) ?_ (by
     rw[List.map_append];by_cases Ν:ab.map ji=[]
     ·rw[Ν,ou,iG];(try simp);(repeat (rw[ζ];simp));(try simp[]);simp[bq,d']
     ·rw[qx Ν,ea Ν];(try simp);(repeat (rw[ζ];simp));(try simp[]);simp[rR,wM,lU])
    (repeat (first|apply ι|(refine ν fun J I=>?_;simp;(repeat (rw[ζ];simp));apply I;clear I J)));refine W.to (Γ (c+1) aZ (by omega)) ?_ ?_
    ·simp only[dF,κ,List.map_append,List.map_cons,List.map_nil]
    ·rw[dF,κ];simp[eD aZ (show s.cells.length<2 ^ 62 by omega)]
 ·have η:c=s.cells.length:=by simp at η;omega
  subst η;refine W.exit rfl ?_;(repeat (first|apply ι|(refine ν fun J I=>?_;simp;(repeat (rw[ζ];simp));apply I;clear I J)));obtain⟨ab,a8⟩:∃ab,ab=ox s F lower eK s.cells.length:=⟨_,rfl⟩;rw[←a8];refine W.to (σ':=bq 21 1 (ab.map ji)) (env':=[(9,d' (ab.map ji))]) ?_ rfl (by simp);by_cases Ν:ab.map ji=[]
  ·have kN:ab=[]:=by simpa using Ν
   rw[Ν,ou,iG,kN];have hm:rv []=some []:=rfl;(repeat (first|apply ι));refine ν fun J I=>?_;simp;(repeat (rw[ζ];simp[hm]));apply I;clear I J;refine W.ret ⟨_,rfl,?_,rfl⟩;exact .refl _
  ·have hm:rv (List.take ab.length (ab.map ji))=some ab:=by
    rw[List.take_of_length_le (by simp)];exact Vm ab
   rw[qx Ν,ea Ν];(repeat (first|apply ι));refine ν fun J I=>?_;simp;(repeat (rw[ζ];simp[hm]));apply I;clear I J;refine W.drop (h:=0) (σ':=[]) (Nat.zero_le _) (Nat.zero_le _) (by simp) rfl [(4,mG (spell ab)),(5,U 0)] (by simp) ?_;refine W.ret ⟨_,rfl,?_,rfl⟩;exact .refl _
end Go.TL
