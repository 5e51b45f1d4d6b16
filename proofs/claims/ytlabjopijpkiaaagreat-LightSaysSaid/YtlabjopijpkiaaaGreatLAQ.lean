import Derived.Test.YtlabjopijpkiaaaGreatLAL
set_option maxHeartbeats 16000000
set_option maxRecDepth 20000
set_option linter.unusedSectionVars false
set_option linter.unusedSimpArgs false
set_option linter.unusedVariables false
namespace Go.TL
open Go.Proofs.Tryz
open Go.Proofs
variable [ZP]
def Small (F:Zj):Prop:=F.length<2 ^ 20/\(∀f∈F,f.cells.length<2 ^ 20/\(∀i,i<=f.cells.length->∀a,WG f.cells a i<2 ^ 40)/\∀c∈f.cells,c.length<2 ^ 20)
theorem pV (s:ω) (n:s.small) (F:Zj) (o:SV s F) (c:Small F) (p:XR F<2 ^ 62):Κ prog 39 [Zq s] (.ZY [I (if s.err=0 then XR F else 0),I s.err]):=by
 refine Μ.body Ο func39 U U ntmps39 U U Ω ?_;refine Χ ?_;refine YQ ?_;refine YY (A:=[4]) Ο λg a=>Z9 ?_;refine Κ.d (M3 s n false F o) (Z9 ?_);apply a;have e:X9 s false F=if s.err=0 then(s,F,0) else(PO,[],s.err):=by
  unfold X9;by_cases b:s.err=0
  .rw[if_neg (by simpa using b),if_neg Ω,if_pos b]
  .rw[if_pos b,if_neg b]
 have r:(X9 s false F).2.1=if s.err=0 then F else []:=by rw[e];split<;>rfl
 have Ρ:(X9 s false F).2.2=s.err:=by rw[e];split<;>simp[*]
 have j:∀l:Zj,(∀f∈l,f∈F)->l.length<=F.length->XR l<2 ^ 62->Κ prog 79 [Y3 l] (I (XR l)):=λl k u t=>
  DN l (by have:=c.1;omega) (λf m=>⟨by have:=(c.2 f (k f m)).1;omega,λi hi=>by have:=(c.2 f (k f m)).2.1 i hi (-1);omega⟩) t
 rw[r,Ρ];by_cases b:s.err=0
 .rw[if_pos b];refine Z8 λg a=>?_;refine Κ.d (j F (λf h=>h) (Z6 _) p) (Z9 ?_);apply a;refine W.drop (h:=0) (Α _) (Α _) Ω U [(2,I (XR F)),(3,I s.err)] Ω ?_;refine W.rt ?_;rw[if_pos b];exact .refl _
 .rw[if_neg b];refine Z8 λg a=>?_;refine Κ.d (j [] Ω Ω (by simp[XR])) (Z9 ?_);apply a;refine W.drop (h:=0) (Α _) (Α _) Ω U [(2,I (XR [])),(3,I s.err)] Ω ?_;refine W.rt ?_;rw[if_neg b];exact .refl _
theorem pU {s:ω} (h:W0 s):Small (Y' s):=by
 have g:=h.many;refine⟨by have:=PB s;omega,λf a=>?_⟩;obtain⟨k,_,_,rfl⟩:=H5.1 a;have b:(X6 s (Yt k)).cells.length=s.cells.length:=by simp[X6]
 refine⟨by rw[b];omega,λi hi d=>?_,λc e=>?_⟩
 .have:=KZ h (Yt k) d (show i<=s.cells.length by omega);omega
 .have:=H6 h (Yt k) c e;omega
def NJ (s:ω) (i:Nat):Nat:=((List.range i).map λk=>(X6 s (Yt k)).many (-1)).sum
theorem Ay (s:ω) (i:Nat):NJ s (i+1)=NJ s i+(X6 s (Yt i)).many (-1):=by simp[NJ,UB]
theorem pT (s:ω):XR (Y' s)=NJ s 3:=by
 have b:∀i,i<=3->XR ((List.range i).filterMap (VS s))=NJ s i:=by
  intro i
  induction i with
  | zero=>intro _;rfl
  | succ i c=>
   intro hi;rw[Ay,<-c J,UB,Mj];unfold XR;rw[XA,List.sum_append];congr 1;unfold VS;by_cases a:0<(X6 s (Yt i)).many (-1)
   .have:i<3/\0<(X6 s (Yt i)).many (-1):=⟨J,a⟩;simp[this]
   .have:¬(i<3/\0<(X6 s (Yt i)).many (-1)):=λh=>a h.2;simp[this];omega
 exact b 3 (Z6 _)
def RO (s:ω) (F:Zj) (cell:Int) (lower:Bool) (g:Int):Int×Int:=
 if s.err≠0 then(0,s.err) else if cell<0\/(s.cells.length:Int)<=cell\/g< -1\/(s.χ.length:Int)<=g then(0,3) else if F=[] then(0,9)
 else if ¬(X0 F cell.toNat lower).contains g=true then(2,0) else if(X0 F cell.toNat lower).length=1 then(1,0) else(3,0)
theorem pS (s:ω) (l:s.small) (F:Zj) (p:SV s F) (cell:Int) (lower:Bool) (g:Int) (N:Nat) (r:N<2 ^ 20) (t:N5 N) (u:F≠[]->NM s F lower N) (v:∀c,(X0 F c lower).length<2 ^ 40) :
  Κ prog 53 [Zq s,I cell,ν lower,I g] (.ZY [I (RO s F cell lower g).1,I (RO s F cell lower g).2]):=by
 refine Μ.body Ο func53 U U ntmps53 U U Ω ?_;refine Χ ?_;refine Z8 λk b=>?_;refine Κ.d (I5 s l) (Z9 ?_);apply b;refine Χ ?_;by_cases f:s.err=0
 case neg=>
  have e:RO s F cell lower g=(0,s.err):=if_pos f;rw[e];generalize s.err=B at f;refine Ζ (by simp[f]) ?_;refine Χ ?_;exact W.XL
 have m:RO s F cell lower g=_:=if_neg (by simpa using f);refine Η (by simp[f]) ?_
 repeat apply Ν
 refine W.Ry (A:=[]) Ο [(39,ν (decide (cell<0)||decide ((s.cells.length:Int)<=cell)||decide (g< -1)||decide ((s.χ.length:Int)<=g))),(1,I cell),(2,ν lower),(3,I g),(4,ZV s)] ?_ (by
  by_cases a:cell<0
  ·(try simp);(repeat (rw[Θ];simp[a]));(try simp[a])
  .by_cases i:(s.cells.length:Int)<=cell
   ·(try simp);(repeat (rw[Θ];simp[a,i]));(try simp[a,i])
   .by_cases j:g< -1
    ·(try simp);(repeat (rw[Θ];simp[a,i,j]));(try simp[a,i,j])
    ·(try simp);(repeat (rw[Θ];simp[a,i,j]));(try simp[a,i,j]))
 by_cases o:cell<0\/(s.cells.length:Int)<=cell\/g< -1\/(s.χ.length:Int)<=g
 .rw[m,if_pos o];refine Ζ (by simp;omega) ?_;refine Χ ?_;exact W.XL
 rw[m,if_neg o];refine Η (by simp;omega) ?_;obtain⟨n,rfl⟩:∃n:Nat,cell=n:=⟨cell.toNat,J⟩;refine YQ ?_;refine YY (A:=[11]) Ο λk b=>Z9 ?_;refine Κ.d (M3 s l true F p) (Z9 ?_);apply b;by_cases z:F=[]
 .have e:X9 s true F=(s,[],9):=by unfold X9;rw[if_neg (by simpa using f),if_pos ⟨U,z⟩]
  rw[e,if_pos z];refine Χ ?_;refine Ζ Ω ?_;refine Χ ?_;refine W.drop (h:=0) (Α _) (Α _) Ω U [(8,I 0),(9,I 9)] Ω ?_;exact W.XL
 have e:X9 s true F=(s,F,0):=by unfold X9;rw[if_neg (by simpa using f),if_neg (by simp[z])]
 rw[e,if_neg z];have w:=(u z).call r t (c:=n) J;have x:=v n;rw[Int.toNat_natCast];refine Χ ?_;refine Η U ?_;refine Z8 λk b=>?_;refine Κ.d (w) (Z9 ?_);apply b;obtain⟨L,y⟩:=Ε (X0 F n lower);rw[<-y] at x ⊢;refine Χ ?_;refine Z8 λk b=>?_;refine Κ.d (GX L g J) (Z9 ?_);apply b;by_cases q:L.contains g=true
 .rw[if_neg (by simpa using q)];refine Η (by simpa using q) ?_;refine Χ ?_;by_cases a:L.length=1
  .rw[if_pos a];refine Ζ (by simp[a]) ?_;refine Χ ?_;refine W.drop (h:=0) (Α _) (Α _) Ω U [(8,I 1),(9,I 0)] Ω ?_;exact W.XL
  .rw[if_neg a];refine Η (by simp;omega) ?_;refine Χ ?_;refine W.drop (h:=0) (Α _) (Α _) Ω U [(8,I 3),(9,I 0)] Ω ?_;exact W.XL
 .rw[if_pos q];refine Ζ (by simpa using q) ?_;refine Χ ?_;refine W.drop (h:=0) (Α _) (Α _) Ω U [(8,I 2),(9,I 0)] Ω ?_;exact W.XL
end Go.TL
namespace Go.TL
open Go.Proofs.Tryz
open Go.Proofs
theorem pR [ZP] {s:ω} (h:W0 s) (i:Nat):NJ s i<=i*5764801:=by
 induction i with
 | zero=>simp[NJ]
 | succ i a=>
  rw[Ay,Bx];have:=KZ h (Yt i) (-1) (Z6 s.cells.length);omega
end Go.TL
namespace Go.TL
open Go.Proofs.Tryz
open Go.Proofs
variable [ZP]
theorem Ax {s:ω} {c:Nat} {lower:Bool} (a:c<s.cells.length) (b:Y' s≠[]):X0 (Y' s) c lower≠[]:=by
 obtain⟨x,d⟩:=HV _ (FC (lower:=lower) a b);intro h;have:=FA.2 d;rw[h] at this;cases this
def Va (n:ByteArray):Int:=((n.data.toList.headD 0).toNat:Nat)
theorem pQ {b:UInt8} (h:b.toNat<128):Utf8.decode ⟨#[b]⟩ 0=(b.toNat,1):=by
 unfold Utf8.decode;have e:(ByteArray.get! ⟨#[b]⟩ 0)=b:=rfl;simp only[Nat.add_zero,e];rw[if_pos h]
theorem pP {b:UInt8} (h:b.toNat<128):(Conv.runesFrom ⟨#[b]⟩ (ByteArray.size ⟨#[b]⟩) 0 #[])[0]?=some (.int .i32 (Va ⟨#[b]⟩)):=by
 have e:ByteArray.size ⟨#[b]⟩=1:=rfl;rw[e,Conv.runesFrom,if_pos (by rw[e];omega),pQ h];rfl
def Fs (n:Int):UInt8:=UInt8.ofNat n.toNat
theorem pO {n:Int} (b:0<=n) (h:n<128):Utf8.encode n=⟨#[Fs n]⟩:=by
 have a:∀k<128,Utf8.encode ((k:Nat):Int)=⟨#[Fs (k:Nat)]⟩:=by decide +kernel
 obtain⟨k,rfl⟩:∃k:Nat,n=k:=⟨n.toNat,J⟩;exact a k J
theorem pN {s:ω} (h:W0 s) (a:Y' s≠[]) (lower:Bool):GP s (Y' s) lower Va 255 where
 Tr:=(Mp h a lower).Tr
 cells:=(Mp h a lower).cells
 some c d:=⟨(Mp h a lower).some c d |>.1,(Mp h a lower).some c d |>.2,Ax d a,by have:=H3 (lower:=lower) d;have:=h.χ.hi;omega,λx e=>(Fz d e).2⟩
 name g f:=by
  obtain⟨b,i,j,k⟩:=H0 (h.χ.each g f).1;rw[i];exact pP J
theorem pM (s:ω) (v:s.small) (F:Zj) (w:NL s F):Κ prog 55 [Zq s] (.ZY [I (if s.err=0 then XR F else 0),I s.err]):=by
 refine Μ.body Ο func55 U U ntmps55 U U Ω ?_;refine Χ ?_;refine Z8 λm b=>?_;refine Κ.d (MD s v) (Z9 ?_);apply b;refine Χ ?_;by_cases e:s.err=0
 case neg=>
  rw[if_neg e];generalize s.err=K at e;refine Ζ (by simp[e]) ?_;refine Χ ?_;exact W.XL
 obtain⟨a,n⟩:=w e;have o:=FK s a;have x:=PB s;have y:∀f∈F,f.cells.length=s.cells.length/\(∀c∈f.cells,c.length<=49)/\∀A i,i<=f.cells.length->WG f.cells A i<=5764801:=λf h=>Fx a (by rw[<-n];exact h);have L:=a.many;rw[<-n] at o x;rw[e,if_pos U];refine Η Ω ?_;refine Χ ?_;refine Z8 λm b=>?_;refine Κ.d (o) (Z9 ?_);apply b;refine Χ ?_;refine W.iter (λi:Nat=>i<=F.length/\XR (F.take i)<=i*5764801) (λi=>[(5,I (XR (F.take i))),(6,VA F),(7,I i)]) (λ_=>[]) (λi=>F.length-i) 0 ⟨Α _,by simp[XR]⟩ U (by simp[XR]) (λi hi j=>?_);obtain⟨M,N⟩:=hi;by_cases g:i<F.length
 .have l:(i:Int)<(F.length:Int):=J
  have p:=Z7 g;obtain⟨f,a⟩:=Ε (F[i]);have B:f∈F:=a▸Yx g;rw[<-a] at p;have C:∀h,F[i]'h=f:=λh=>a.symm;obtain⟨O,_,r⟩:=y f B;have D:=Bt f (-1) J (λk E=>by have:=r (-1) k E;omega);have P:=r (-1) f.cells.length (Z6 _);have t:XR (F.take (i+1))=XR (F.take i)+f.many (-1):=by
   rw[Ws g,<-a];simp[XR]
  have u:=X3 (i:=i) J
  have j:=j (i+1) ⟨g,by rw[t];unfold Found.many;omega⟩ J;rw[t] at j;have H:IntKind.i64.wrap ((XR (F.take i):Int)+(f.many (-1):Nat))=((XR (F.take i)+f.many (-1):Nat):Int):=by
   unfold Found.many;rw[IntWalk.i64_in _ J,Int.natCast_add]
  refine Ι l ?_;refine Ζ Ω ?_;refine XD (Υ p (Υ C g)) λm b=>?_;refine Κ.d (D) (XK H ?_);apply b;refine Ι u ?_;exact W.to j U (by simp[u])
 have l:¬(i:Int)<(F.length:Int):=J;rw[VP J];refine Ι l ?_;refine Η Ω ?_;refine W.exit U ?_;refine Χ ?_;exact W.XL
theorem pL (s:ω) (t:s.small) (F:Zj) (E:NL s F) (cell:Int) (lower:Bool) (g:Int):Κ prog 54 [Zq s,I cell,ν lower,I g] (.ZY [I (RO s F cell lower g).1,I (RO s F cell lower g).2]):=by
 refine Μ.body Ο func54 U U ntmps54 U U Ω ?_;refine Χ ?_;refine Z8 λu f=>?_;refine Κ.d (MD s t) (Z9 ?_);apply f;refine Χ ?_;by_cases a:s.err=0
 case neg=>
  have e:RO s F cell lower g=(0,s.err):=if_pos a;rw[e];generalize s.err=O at a;refine Ζ (by simp[a]) ?_;refine Χ ?_;exact W.XL
 obtain⟨l,v⟩:=E a;have P:=l.χ.hi;have w:=FJ s t cell;have H:IntKind.i64.wrap ((s.χ.length:Int)-1)=(s.χ.length:Int)-1:=IntWalk.i64_in _ J;have m:=NS g (-1) ((s.χ.length:Int)-1);rw[show decide (g<=(s.χ.length:Int)-1)=decide (g<s.χ.length) by rw[decide_eq_decide];omega] at m;obtain⟨b,x⟩:=Ε ((decide (0<=cell)&&decide (cell<s.cells.length)));obtain⟨i,y⟩:=Ε ((decide (-1<=g)&&decide (g<s.χ.length)));rw[<-x] at w;rw[<-y] at m;have n:=H4 s l (b&&i);rw[<-v] at n;rw[a];refine Η Ω ?_
 repeat apply Ν
 refine W.Uo (A:=[]) Ο mixed [(1,I cell),(2,ν lower),(3,I g),(4,ZV s),(11,VA (Vb F (b&&i)).1),(12,I (Vb F (b&&i)).2)] [] ?_ (by
  simp;(repeat (rw[Z1];simp));(try rw[Z2]);refine Zc (Κ.p w (ZN.refl _) Ω Ω) ?_;cases b
  .simp;(repeat (rw[Z1];simp));(try rw[Z2]);refine Zc (Κ.p n (ZN.refl _) Ω Ω) ?_;simp;(repeat (rw[Z1];simp));(try rw[Z2]);refine⟨Yq Zr,?_⟩;simp
  .simp;(repeat (rw[Z1];simp[H]));(try rw[Z2]);refine Zc (Κ.p m (ZN.refl _) Ω Ω) ?_;simp;(repeat (rw[Z1];simp));(try rw[Z2]);refine Zc (Κ.p n (ZN.refl _) Ω Ω) ?_;simp;(repeat (rw[Z1];simp));(try rw[Z2]);refine⟨Yq Zr,?_⟩;simp)
 have B:(b&&i)=true↔(0<=cell/\cell<s.cells.length)/\(-1<=g/\g<s.χ.length):=by
  rw[x,y];simp
 generalize (b&&i)=right at *;cases right
 .have e:RO s F cell lower g=(0,3):=by
   unfold RO;have Q:¬((0<=cell/\cell<s.cells.length)/\(-1<=g/\g<s.χ.length)):=λh=>by simpa using B.2 h
   rw[if_neg (λh=>h a),if_pos J]
  rw[e];refine Χ ?_;refine Ζ (by simp[Vb]) ?_;refine Χ ?_;refine W.ret ⟨_,U,?_,U⟩;exact .refl _
 obtain⟨⟨R,S⟩,T,V⟩:=B.1 U;obtain⟨c,rfl⟩:∃c:Nat,cell=c:=⟨cell.toNat,J⟩;have C:c<s.cells.length:=J;have K:RO s F c lower g=if F=[] then(0,9) else if ¬(X0 F c lower).contains g=true then(2,0) else if(X0 F c lower).length=1 then(1,0) else(3,0):=by
  unfold RO;rw[if_neg (λh=>h a),if_neg J,Int.toNat_natCast]
 rw[K];by_cases j:F=[]
 .rw[if_pos j];subst j;refine Χ ?_;refine Ζ (by simp[Vb]) ?_;refine Χ ?_;refine W.ret ⟨_,U,?_,U⟩;exact .refl _
 rw[if_neg j,show Vb F true=(F,0) by unfold Vb;rw[if_neg Ω,if_neg j]];have D:=Fw s l c C lower;have M:=H3 (s:=s) (lower:=lower) C;rw[<-v] at D M;generalize X0 F c lower=L at *;have N:=FL L g J;refine Χ ?_;refine Η Ω ?_
 repeat apply Ν
 refine W.draw (A:=[]) Ο mixed λu f=>Xa ?_;refine Zc (Κ.q (FI lower)) (Xa ?_);refine Zc (Κ.q (D)) (Xa ?_);refine Zf (f _ _ ?_);refine Z8 λu f=>?_;refine Κ.d (N) (Z9 ?_);apply f;by_cases k:L.contains g=true
 .rw[if_neg (show ¬¬L.contains g=true from λh=>h k)];refine Η (by simp;simpa using k) ?_;by_cases o:L.length=1
  .rw[if_pos o];have r:(L.length:Int)=1:=J;refine Ι r ?_;refine Ζ Ω ?_;refine Χ ?_;exact W.XL
  .rw[if_neg o];have r:¬(L.length:Int)=1:=J;refine Ι r ?_;refine Η (by simp[o]) ?_;refine Χ ?_;exact W.XL
 .rw[if_pos k];refine Ζ (by simp;simpa using k) ?_;refine Χ ?_;exact W.XL
theorem pK (l:ZZ) (x:Int):spell (l++[x])=spell l++Utf8.encode x:=by unfold spell;rw[Qn];rfl
theorem pJ:Utf8.encode 63=⟨#[63]⟩:=by decide +kernel
theorem pI:Utf8.encode 45=⟨#[45]⟩:=by decide +kernel
theorem pH {n:ByteArray} (h:UJ n=false):Utf8.encode (Va n)=n:=by
 obtain⟨b,rfl,a,c⟩:=H0 h;have e:Va ⟨#[b]⟩=(b.toNat:Int):=rfl;rw[e,pO J J];unfold Fs;rw[Int.toNat_natCast,UInt8.ofNat_toNat]
theorem pG (s:ω) (ad:s.small) (F:Zj) (ae:NL s F) (lower:Bool):Κ prog 56 [Zq s,ν lower] (.ZY [U4 (Uh s F lower Va).1,I (Uh s F lower Va).2]):=by
 refine Μ.body Ο func56 U U ntmps56 U U Ω ?_;refine Χ ?_;refine Z8 λv k=>?_;refine Κ.d (MD s ad) (Z9 ?_);apply k;refine Χ ?_;by_cases m:s.err=0
 case neg=>
  have e:Uh s F lower Va=(⟨#[]⟩,s.err):=by
   have h:(X9 s true F).2.2=s.err:=by unfold X9;rw[if_pos m]
   unfold Uh;rw[h,if_neg m]
  rw[e];generalize s.err=ak at m;refine Ζ (by simp[m]) ?_;refine Χ ?_;exact W.XL
 obtain⟨p,K⟩:=ae m;have T:=H4 s p true;rw[<-K] at T;have w:(X9 s true F).2.2=if F=[] then 9 else 0:=by
  unfold X9;rw[if_neg (λh=>h m)];by_cases f:F=[]
  .rw[if_pos ⟨U,f⟩,if_pos f]
  .rw[if_neg (λh=>f h.2),if_neg f]
 rw[m];refine Η Ω ?_;refine Z8 λv k=>?_;refine Κ.d (T) (Z9 ?_);apply k;by_cases r:F=[]
 .have e:Uh s F lower Va=(⟨#[]⟩,9):=by
   unfold Uh;rw[w,if_pos r,if_neg ZT]
  rw[e];subst r;refine Χ ?_;refine Ζ (by simp[Vb]) ?_;refine Χ ?_;exact W.XL
 have e:Uh s F lower Va=(spell (UI s F lower Va s.cells.length),0):=by
  unfold Uh;rw[w,if_neg r,if_pos U]
 rw[e,show Vb F true=(F,0) by unfold Vb;rw[if_neg Ω,if_neg r]];clear e;have al:=p.many;have af:Y' s≠[]:=by rw[<-K];exact r
 have B:=λc l=>Fw s p c l lower
 have C:=λc (l:c<s.cells.length)=>Ax (s:=s) (lower:=lower) l af
 have D:=λc (l:c<s.cells.length) x V=>Fz (s:=s) (lower:=lower) l (x:=x) V
 have M:=λc (l:c<s.cells.length)=>H3 (s:=s) (lower:=lower) l
 have am:=p.χ.hi
 have X:=p.χ.each;rw[<-K] at B C D M;obtain⟨n,N⟩:=Ε s.cells.length;rw[<-N];refine Χ ?_;refine Η Ω ?_;refine Χ ?_;refine W.iter (λc:Nat=>c<=n/\(spell (UI s F lower Va c)).size<=c) (λc=>[(1,ν lower),(2,ZV s),(7,VA F),(9,U4 (spell (UI s F lower Va c))),(10,I c)]) (λ_=>[]) (λc=>n-c) 0 ⟨Α _,Z6 _⟩ U (by simp;rfl) (λc ag j=>?_);obtain⟨l,an⟩:=ag;by_cases ao:c<n
 .have E:c<s.cells.length:=J
  have O:(c:Int)<(n:Int):=J
  have o:=X3 (i:=c) J
  have j:=λh=>j (c+1) ⟨J,h⟩ J
  have B:=B c E
  have C:=C c E
  have D:=D c E
  have M:=M c E
  have ah:UI s F lower Va (c+1)=UI s F lower Va c++[Ru s F lower Va c]:=by unfold UI;rw[UB,XA];rfl
  have a:Ru s F lower Va c=if 1<(X0 F c lower).length then 63 else if(X0 F c lower).headD 0<0 then 45 else match s.χ[((X0 F c lower).headD 0).toNat]? with|some g=>Va g.name|none=>0:=rfl
  rw[ah,pK] at j;obtain⟨y,Y⟩:=Ε ((X0 F c lower).headD 0);rw[<-Y] at a;generalize Ru s F lower Va c=ap at a j;generalize spell (UI s F lower Va c)=S at *;generalize X0 F c lower=L at *;(repeat (first|apply Ν|(refine YZ λv k=>?_;simp;(repeat (rw[Θ];simp[N.symm,O]));apply k)));refine Ζ Ω ?_
  repeat apply Ν
  refine W.draw (A:=[]) Ο mixed λv k=>Xa ?_;refine Zc (Κ.q (FI lower)) (Xa ?_);refine Zc (Κ.q (B)) (Xa ?_);refine Zf (k _ _ ?_);by_cases Z:1<L.length
  .rw[if_pos Z] at a;rw[a,pJ] at j;have aa:(1:Int)<(L.length:Int):=J;refine Ι @aa ?_;refine Ζ Ω ?_
   repeat apply Ν
   refine W.Xq (A:=[]) Ο [(1,ν lower),(2,ZV s),(7,VA F),(10,I c),(9,U4 (S++⟨#[63]⟩))] [] ?_ (by
    have t:(⟨#[63]⟩:ByteArray).size=1:=rfl;(try simp);(repeat (rw[Θ];simp[t]));(try simp[t]);omega)
   refine Ι o ?_;exact W.to (j (by rw[ByteArray.size_append];show _+1<=_;omega)) U (by simp[o])
  rw[if_neg Z] at a;have aa:¬(1:Int)<(L.length:Int):=J;obtain⟨x,rfl⟩:∃x,L=[x]:=HT.1 (by have:=RN.2 C;omega);obtain rfl:y=x:=Y;have V:=D y Ω;refine Χ ?_;refine Η Ω ?_;by_cases H:y<0
  .rw[if_pos H] at a;rw[a,pI] at j;refine Ι H ?_;refine Ζ Ω ?_
   repeat apply Ν
   refine W.Xq (A:=[]) Ο [(1,ν lower),(2,ZV s),(7,VA F),(10,I c),(9,U4 (S++⟨#[45]⟩))] [] ?_ (by
    have t:(⟨#[45]⟩:ByteArray).size=1:=rfl;(try simp);(repeat (rw[Θ];simp[t]));(try simp[t]);omega)
   refine Ι o ?_;exact W.to (j (by rw[ByteArray.size_append];show _+1<=_;omega)) U (by simp[o])
  .rw[if_neg H] at a;obtain⟨u,rfl⟩:∃u:Nat,y=u:=⟨y.toNat,J⟩;have P:u<s.χ.length:=J;have Q:=Z7 P;obtain⟨g,R⟩:=Ε (s.χ[u]);have ab:g∈s.χ:=R▸Yx P;rw[<-R] at Q;have ai:∀h,s.χ[u]'h=g:=λh=>R.symm;rw[Int.toNat_natCast,Q] at a;simp only at a;rw[a,pH (X g ab).1] at j;refine Ι H ?_;refine Η Ω ?_;have aj:g.name.size=1:=by
    obtain⟨b,w,_⟩:=H0 (X g ab).1;rw[w];rfl
   repeat apply Ν
   refine W.Uo (A:=[]) Ο mixed [(1,ν lower),(2,ZV s),(7,VA F),(10,I c),(9,U4 (S++g.name))] [] ?_ (by
    simp;(repeat (rw[Z1];simp[Q,ai,P]));(try rw[Z2]);refine⟨J,?_⟩;refine⟨Yq Zr,?_⟩;simp)
   refine Ι o ?_;exact W.to (j (by rw[ByteArray.size_append,aj];omega)) U (by simp[o])
 have O:¬(c:Int)<(n:Int):=J;obtain rfl:c=n:=J;(repeat (first|apply Ν|(refine YZ λv k=>?_;simp;(repeat (rw[Θ];simp[N.symm,O]));apply k)));refine Η Ω ?_;refine W.exit U ?_;refine Χ ?_;exact W.XL
theorem pF (s:ω):Small (Xl s):=by
 unfold Xl;split
 .rename_i h;exact pU (ON h)
 .exact⟨Ω,Ω⟩
theorem pE (s:ω):XR (Xl s)<2 ^ 62:=by
 unfold Xl;split
 .rename_i h;rw[pT];have:=pR (ON h) 3;omega
 .simp[XR]
end Go.TL
namespace Go.TL
open Go.Proofs.Tryz
open Go.Proofs
theorem pD (s:ω) (p:YV) (cell F:Int) (lower:Bool) (l:ZZ) (ar:l.length<2 ^ 63) :
  @W Ue prog 0 158 [.code (Tryz.f10.body.getD .skip)] (entry 0 [Zq s,Zi p,I cell,I F,ν lower,δ I 1 l]) [] (λj env _=>(∃k,j=.code .ret::k)/\Z3 env 12=ν true) (λ_ _ _=>False):=by
 letI:ZP:=Ue;show W prog 0 158 [.code _] _ _ _ _;refine W.seq ?_
 repeat apply Ν
 refine Xh ?_;refine Z8 λm f=>?_;refine Κ.d (AO s) (Z9 ?_);apply f;cases ai:s.PS
 case true=>
  refine Ζ U ?_;refine Z8 λm f=>?_;refine Κ.d (Il) (Z9 ?_);apply f;exact W.stop ⟨⟨_,U⟩,U⟩
 refine Η U ?_;have aj:=AN ai;clear ai;refine Z8 λm f=>?_;refine Μ.call (first:=[]) (captured:=[]) ((Bj l).mono (λa s ⟨y,D⟩=>?_) (λ_ _ h=>h.elim));subst y;subst D;simp;(repeat (rw[Θ];simp));apply f;have ak:(⟨l,1⟩:Zd).Z0.length<2 ^ 63:=ar;generalize (⟨l,1⟩:Zd)=d0 at ak;refine Z8 λm f=>?_;refine Μ.call (first:=[]) (captured:=[]) ((AU s aj p d0 ak).mono (λa aL h=>?_) (λ_ _ h=>h.elim));obtain⟨L,d1,H,o,au,rfl,aM⟩:=h;simp;(repeat (rw[Θ];simp));apply f;refine W.XV [(2,I cell),(3,I F),(4,ν lower),(13,.Δ 0 1 0 0),(14,δ Zq 3 L)] (λq E=>by
  simp only[Y9,Yb,or_false] at E;rcases E with rfl|rfl|rfl|rfl|rfl
  .exact .refl _
  .exact .refl _
  .exact .refl _
  .exact .refl _
  .exact .trans H .ex) ?_
 have av:d1.Z0.length<2 ^ 63:=J
 have y:=Ud d1 av 2
 have aw:=WE d1 2;generalize W9 d1 2=ax at y;generalize d1.after 2=d2 at y aw;have D:=Ud d2 J 2;have ay:=WE d2 2;generalize W9 d2 2=az at D;generalize d2.after 2=d3 at D ay;have Q:=OS d3 J (-1) 3;have aA:=WE d3 (IntKind.i64.wrap (3-(-1)));generalize TO d3 (-1) 3=aB at Q;generalize d3.after (IntKind.i64.wrap (3-(-1)))=d4 at Q aA;have R:=OS d4 J (-1) 4;generalize TO d4 (-1) 4=aC at R;generalize d4.after (IntKind.i64.wrap (4-(-1)))=d5 at R;refine Z8 λm f=>?_;refine YM.g (y) (Z9 ?_);refine YM.g (D) (Z9 ?_);refine YM.g (Q) (Z9 ?_);refine YM.g (R) (Z9 ?_);apply f;obtain⟨C,S⟩:=Ε ([cell,ax,az,cell]);obtain⟨G,T⟩:=Ε ([F,aB,aC,F]);refine W.cut 0 (Α _) [(4,ν lower),(14,δ Zq 3 L),(15,Yu C),(16,Yu G)] (Α _) (λid r h=>absurd h (Qi _)) (λq E=>by
  simp only[Y9,Yb,or_false] at E;rcases E with rfl|rfl|rfl|rfl
  .exact .low Ω
  .exact .low (by simp[YD,Ψ.cells])
  .rw[S];exact .low Ω
  .rw[T];exact .low Ω) ?_
 rw[List.take_zero];have al:C.length=4:=by rw[S];rfl
 have am:G.length=4:=by rw[T];rfl
 clear S T;refine Χ ?_;refine W.iter (λi:Nat=>i<=4) (λi=>[(4,ν lower),(14,δ Zq 3 L),(15,Yu C),(16,Yu G),(17,I i)]) (λ_=>[]) (λi=>4-i) 0 (Α _) U Ω (λi hi aD=>?_);by_cases v:i<4
 case neg=>
  have n:¬(i:Int)<4:=J;refine Ι (Υ o n) ?_;refine Η Ω ?_;refine W.exit U ?_;refine Z8 λm f=>?_;refine Κ.d (Il) (Z9 ?_);apply f;exact W.stop ⟨⟨_,U⟩,U⟩
 have n:(i:Int)<4:=J
 have an:=X3 (i:=i) J
 have u:=Z7 (show i<L.length by omega);obtain⟨x,K⟩:=Ε (L[i]);have t:=(au x (K▸Yx _)).small aj;rw[<-K] at u;have w:∀h,L[i]'h=x:=λh=>K.symm;have X:=Z7 (show i<C.length by omega);obtain⟨M,Y⟩:=Ε (C[i]);rw[<-Y] at X;have ao:∀h,C[i]'h=M:=λh=>Y.symm;have Z:=Z7 (show i<G.length by omega);obtain⟨O,aa⟩:=Ε (G[i]);rw[<-aa] at Z;have ap:∀h,G[i]'h=O:=λh=>aa.symm;clear K Y aa;have P:=AS x;have f:=AR x;have ab:=pS x t _ P M lower O 255 ZT FD (λh=>AQ h lower) (λc=>AP x lower c);have ad:=pL x t _ f M lower O;have ae:=pV x t _ P (pF x) (pE x);have af:=pM x t _ f;have l1:=Dv x t _ P lower Va 255 ZT FD (λh=>by
  have aE:Xl x≠[]:=λe=>by
   unfold X9 at h;rw[e] at h;by_cases b:x.err=0
   .rw[if_neg (λq=>q b),if_pos ⟨U,rfl⟩] at h;cases h
   .rw[if_pos b] at h;exact b h
  obtain⟨aF,aG,aH⟩:=Ft aE;rw[aG];exact pN (ON aF) aH lower)
 have l2:=pG x t _ f lower
 have aI:=Dt x t
 have aJ:=AT x t;generalize RO x (Xl x) M lower O=V at ab ad;generalize Uh x (Xl x) lower Va=B at l1 l2;obtain⟨N,aq⟩:∃N:Int,N=if x.err=0 then(XR (Xl x):Int) else 0:=⟨_,U⟩
 rw[<-aq] at ae af;obtain⟨ag,ah⟩:=V;obtain⟨aN,aO⟩:=B;simp only at ab ad l1 l2;generalize x.err=aP at ae af;clear P f aq;refine Ι (Υ o n) ?_;refine Ζ Ω ?_;refine YQ ?_;refine YY (A:=[18]) Ο λm f=>XK (Υ u (Υ w (Υ o (Υ v n)))) ?_;refine Κ.d (aI) (Z9 ?_);apply f;refine W.UZ (σ0:=[]) (Α _) (λr aK=>by simp at aK) (λa H=>by simp[Ψ.cells] at H;rcases H with rfl|rfl|rfl<;>simp[YD,Ψ.cells]) [(4,ν lower),(14,δ Zq 3 L),(15,Yu C),(16,Yu G),(17,I i),(18,ZV x)] (by simp[Wb,Ψ.cells,YD]) ?_
 repeat apply Ν
 refine W.Uo (A:=[]) Ο mixed [(4,ν lower),(14,δ Zq 3 L),(15,Yu C),(16,Yu G),(17,I i),(18,ZV x),(19,I ag),(20,I ah)] [] ?_ (by
  simp;(repeat (rw[Z1];simp[u,w,o,v,n,X,ao,al,Z,ap,am]));(try rw[Z2]);refine Zc (Κ.p ab (ZN.refl _) Ω Ω) ?_;simp;(repeat (rw[Z1];simp));(try rw[Z2]);refine⟨Yq Zr,?_⟩;simp)
 repeat apply Ν
 refine W.Uo (A:=[]) Ο mixed [(4,ν lower),(14,δ Zq 3 L),(15,Yu C),(16,Yu G),(17,I i),(18,ZV x),(19,I ag),(20,I ah),(21,I ag),(22,I ah)] [] ?_ (by
  simp;(repeat (rw[Z1];simp[u,w,o,v,n,X,ao,al,Z,ap,am]));(try rw[Z2]);refine Zc (Κ.p ad (ZN.refl _) Ω Ω) ?_;simp;(repeat (rw[Z1];simp));(try rw[Z2]);refine⟨Yq Zr,?_⟩;simp)
 refine Z8 λm f=>?_;refine Κ.d (ae) (Z9 ?_);apply f;refine XD (Υ u (Υ w (Υ o (Υ v n)))) λm f=>?_;refine Κ.d (af) (Z9 ?_);apply f;refine Χ ?_;refine Η Ω ?_;refine Z8 λm f=>?_;refine Κ.d (l1) (Z9 ?_);apply f;refine XD (Υ u (Υ w (Υ o (Υ v n)))) λm f=>?_;refine Κ.d (l2) (Z9 ?_);apply f
 repeat apply Ν
 refine W.Uo (A:=[]) Ο mixed [(156,ν false),(4,ν lower),(14,δ Zq 3 L),(15,Yu C),(16,Yu G),(17,I i)] [] ?_ (by
  simp;(repeat (rw[Z1];simp[u,w,o,v,n]));(try rw[Z2]);refine Zc (Κ.p aJ (ZN.refl _) Ω Ω) ?_;simp;(repeat (rw[Z1];simp));(try rw[Z2]);refine⟨Yq Zr,?_⟩;simp)
 refine Η U ?_;refine Ι an ?_;exact W.to (aD (i+1) J J) U (by simp[an])
end Go.TL
