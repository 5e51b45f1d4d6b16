import Derived.Test.YtlabjopijpkiaaaGreatQBB
set_option maxHeartbeats 16000000
set_option maxRecDepth 20000
set_option linter.unusedSectionVars false
set_option linter.unusedSimpArgs false
set_option linter.unusedVariables false
namespace Go.TL
open Go.Proofs
variable [bh]
section
variable {P:Program} {T:aZ} {A:List Nat} {m nt:Nat} {k:List Item} {env:Φ} {σ:List Row} {Z:List Item->Φ->List Row->Prop} {E:ζ->Φ->List Row->Prop}
theorem W.Zg (Ζ:bE P T) (env':Φ) (σ':List Row) {ops:Array Oper} {l:List Nat} (h:W P m nt k env' σ' Z E) (ι:run P T A nt ops l env σ (λe s=>W P m nt k env' σ' Z E->W P m nt k e s Z E) E):W P m nt (.inRegion ops l::k) env σ Z E:=by
 have:=E7 (m:=m) (k:=k) (Z:=Z) Ζ [] l env σ (Bn (λe s f=>W.bm (f h)) _ _ _ ι);simpa using this
end
def ml (l:List eS):ζ:=fJ 3 (l.map eT)
def bf (done:List (List eS)) (nc:Nat):List ζ:=done.map ml++List.replicate (nc-done.length) bN
theorem Zh (nc:Nat):bf [] nc=List.replicate nc bN:=by simp[bf]
theorem uE {done:List (List eS)} {nc:Nat} (h:done.length<=nc):(bf done nc).length=nc:=by simp[bf];omega
theorem Zi {done:List (List eS)}:bf done done.length=done.map ml:=by simp[bf]
theorem Zj {done:List (List eS)} {nc:Nat} (h:done.length<nc):(bf done nc)[done.length]?=some bN:=by
 unfold bf;rw[ha (by simp),List.length_map,Nat.sub_self,List.getElem?_replicate,if_pos (by omega)]
theorem Zk {done:List (List eS)} {nc:Nat} (h:done.length<nc) (ay:List eS):(bf done nc).set done.length (ml ay)=bf (done++[ay]) nc:=by
 unfold bf;obtain⟨r,ι⟩:∃r,nc-done.length=r+1:=⟨nc-done.length-1,by omega⟩;have e:nc-(done++[ay]).length=r:=by simp;omega
 rw[ι,e,List.replicate_succ,List.set_append_right _ _ (by simp),List.length_map,Nat.sub_self,List.set_cons_zero,List.map_append,List.append_assoc];rfl
theorem Nw (l:List eS):az 0 (ml l):=by
 unfold ml fJ;split
 ·simp
 ·refine gH.2 λe he a κ=>?_;obtain⟨x,_,rfl⟩:=List.mem_map.1 he;simp[ζ.cells] at κ;rcases κ with rfl|rfl|rfl<;>exact .z _
theorem Nx (l:List eS):(ml l).cells=[ml l]:=by
 unfold ml fJ;split<;>rfl
theorem Hv {done:List (List eS)} {nc:Nat}:∀e∈bf done nc,e.cells=[e]/\az 0 e:=λe he=>by
 unfold bf at he;rcases List.mem_append.1 he with he|he
 ·obtain⟨x,_,rfl⟩:=List.mem_map.1 he;exact⟨Nx x,Nw x⟩
 ·have:=List.eq_of_mem_replicate he;subst this;exact⟨rfl,by simp⟩
structure Zl where
 d:cm
 done:List (List eS)
structure Zm where
 k:Nat
 d:cm
 ay:List eS
theorem Zn (d:cm) (hd:d.a5.length<2 ^ 63) (hH cells:Nat) (lA:1<=hH) (wC:hH<=6) (C':cells<=4) :
  sK 37 [δ hH,δ cells] d (λr=>∃s,r=e8 s/\wI s/\s.cells.length<=cells):=by
 unfold sK;refine aC.body Μ Tryz.func37 rfl rfl Tryz.ntmps37 rfl rfl (by simp) ?_
 repeat apply μ
 refine dy (A:=[6]) Μ λθ I=>?_;simp;(repeat (rw[ε];simp));apply I
 repeat apply μ
 refine W.b0 ?_;refine W.part (A:=[7]) Μ [0,1,2,3] [4,5] rfl λθ I=>?_;(try simp);(repeat (rw[ε];simp));refine Zf d hd hH cells lA wC C' rfl ?_;intro G L nc d1 cS aS qJ jc;simp only[List.length_cons,List.length_nil,Nat.reduceAdd,List.set_cons_zero,List.cons_append,List.nil_append];obtain⟨wJ,Hw⟩:∃x,x=c8 5 (List.replicate nc bN):=⟨_,rfl⟩;have zp:(nc=0/\wJ=bN)\/(0<nc/\wJ=.ms 5 nc 0 nc):=by
  by_cases Ν:nc=0
  ·subst Ν;exact .inl ⟨rfl,Hw⟩
  ·exact .inr ⟨by omega,by rw[Hw,gK (by simp[Ν]),List.length_replicate]⟩
 have zq:∀done:List (List eS),done.length<=nc->(nc=0/\bz 60 1 (bf done nc)=[])\/(0<nc/\bz 60 1 (bf done nc)=[.cells 60 1 (bf done nc)]):=λdone rH=>by
  by_cases Ν:nc=0
  ·subst Ν;have:=dk.1 (uE rH);exact .inl ⟨rfl,by rw[this];rfl⟩
  ·exact .inr ⟨by omega,ei (λh=>by have:=uE rH;rw[h] at this;simp at this;omega)⟩
 rw[<-Hw,<-Zh];rw[JX,qP];apply I;clear I θ;have wK:az ([bK d1,g7 bN bN bN,.dead,.dead,.dead]++bz 60 1 (bf [] nc)).length wJ:=by
  rcases zp with⟨_,e⟩|⟨cw,e⟩
  ·rw[e];simp
  ·rcases zq [] (Nat.zero_le _) with⟨af,_⟩|⟨_,Ε⟩
   ·omega
   ·rw[e,Ε];exact ot.2 (by simp)
 refine W.Zg (A:=[7]) Μ [(0,.ae 0 1 0 0),(6,.ae 1 1 0 0),(7,.Ω [aJ G,aL L,wJ])] ([bK d1,g7 bN bN bN,.dead,.dead,.dead]++bz 60 1 (bf [] nc)) ?_ (by
  have bA:∀h,∀r∈[bK d1,g7 bN bN bN,.dead,.dead,.dead]++bz 60 1 (bf [] nc),eJ h r:=λh r ι=>by
   rcases List.mem_append.1 ι with ι|ι
   ·simp only[List.mem_cons,List.not_mem_nil,or_false] at ι;rcases ι with rfl|rfl|rfl|rfl|rfl
    ·exact sJ d1 h
    ·intro e he a κ;simp[ζ.cells] at he;subst he;simp[ζ.cells] at κ;subst κ;simp
    ·trivial
    ·trivial
    ·trivial
   ·exact vJ (λe he a κ=>by obtain⟨J,R⟩:=Hv e he;rw[J] at κ;simp at κ;subst κ;exact R) r ι
  rcases zp with⟨cw,e⟩|⟨cw,e⟩<;>rcases zq [] (Nat.zero_le _) with⟨af,Ε⟩|⟨af,Ε⟩
  ·rw[Ε] at bA wK;rw[e] at wK;rw[e,Ε];(try simp);(repeat (rw[ε];simp));(try simp[]);intro hW;exact W.lu (σ0:=[bK d1,g7 bN bN bN,.dead,.dead,.dead]) (by simp) (bA _) (λa κ=>by
    simp[ζ.cells] at κ;rcases κ with rfl|rfl|rfl
    ·exact(gH.2 qc:az 0 _).mono (Nat.zero_le _)
    ·exact(gH.2 uD:az 0 _).mono (Nat.zero_le _)
    ·exact wK) [(0,.ae 0 1 0 0),(6,.ae 1 1 0 0),(7,.Ω [aJ G,aL L,bN])] (by simp[iZ,ζ.cells]) hW
  ·omega
  ·omega
  ·rw[Ε] at bA wK;rw[e] at wK;rw[e,Ε];have mc:(bf [] nc).length=nc:=uE (Nat.zero_le _);(try simp);(repeat (rw[ε];simp[mc]));(try simp[mc]);intro hW;exact W.lu (σ0:=[bK d1,g7 bN bN bN,.dead,.dead,.dead,.cells 60 1 (bf [] nc)]) (by simp) (bA _) (λa κ=>by
    simp[ζ.cells] at κ;rcases κ with rfl|rfl|rfl
    ·exact(gH.2 qc:az 0 _).mono (Nat.zero_le _)
    ·exact(gH.2 uD:az 0 _).mono (Nat.zero_le _)
    ·exact wK) [(0,.ae 0 1 0 0),(6,.ae 1 1 0 0),(7,.Ω [aJ G,aL L,.ms 5 nc 0 nc])] (by simp[iZ,ζ.cells]) hW)
 obtain⟨j',Db⟩:∃n,n=L.length:=⟨_,rfl⟩;have FV:=aS.lo;have y5:=aS.hi;rw[<-Db] at FV y5;have dι:(L.map (bC δ 1)).length=j':=by rw[List.length_map,Db]
 (repeat (first|apply μ|(refine ξ λθ I=>?_;simp;(repeat (rw[ε];simp));apply I)));refine W.iter (λx:Zl=>x.done.length<=nc/\x.d.a5.length<=d.a5.length/\∀c∈x.done,wH j' c)
  (λx=>[(0,.ae 0 1 0 0),(6,.ae 1 1 0 0),(7,.Ω [aJ G,aL L,wJ]),(8,δ x.done.length)])
  (λx=>[bK x.d,g7 bN bN bN,.dead,.dead,.dead]++bz 60 1 (bf x.done nc)) (λx=>nc-x.done.length) ⟨d1,[]⟩ ⟨by simp,jc,by simp⟩ rfl (by simp) (λx U Γ=>?_)
 obtain⟨D,done⟩:=x;obtain⟨rH,mi,Hx⟩:=U;simp only at rH mi Hx Γ ⊢;obtain⟨c,zr⟩:∃c,c=done.length:=⟨_,rfl⟩;rw[<-zr] at rH Γ;rw[<-zr]
 repeat apply μ
 refine W.hD (A:=[]) Μ [(20,bJ (decide (c<nc))),(0,.ae 0 1 0 0),(6,.ae 1 1 0 0),(7,.Ω [aJ G,aL L,wJ]),(8,δ c)] ([bK D,g7 bN bN bN,.dead,.dead,.dead]++bz 60 1 (bf done nc)) ?_ (by
  have mc:(bf done nc).length=nc:=uE (by omega);rcases zp with⟨cw,e⟩|⟨cw,e⟩<;>rcases zq done (by omega) with⟨af,Ε⟩|⟨af,Ε⟩
  ·rw[e,Ε,af];(try simp);(repeat (rw[ε];simp));(try simp[])
  ·omega
  ·omega
  ·rw[e,Ε];(try simp);(repeat (rw[ε];simp[mc]));(try simp[mc]))
 refine W.dR rfl (λη=>?_) (λη=>?_)
 ·have η:c<nc:=by simpa using η
  rcases zp with⟨cw,_⟩|⟨cw,e⟩
  ·omega
  rcases zq done (by omega) with⟨af,_⟩|⟨af,Ε⟩
  ·omega
  obtain⟨X,uy⟩:∃X,X=bf done nc:=⟨_,rfl⟩;have Ny:X.length=nc:=by rw[uy];exact uE (by omega)
  have Nz:X[c]?=some bN:=by rw[uy,zr];exact Zj (by omega)
  have Zo:∀ay,X.set c (ml ay)=bf (done++[ay]) nc:=λay=>by rw[uy,zr];exact Zk (by omega) ay
  have NA:∀e∈X,e.cells=[e]/\az 0 e:=by rw[uy];exact Hv
  have Dc:X.set c bN=X:=by
   apply List.ext_getElem?;intro i;rw[List.getElem?_set];split
   ·rename_i e;subst e;split
    ·exact Nz.symm
    ·rename_i h;exact(h (by omega)).elim
   ·rfl
  have kD:L.length=j':=Db.symm;rw[e,Ε,<-uy];simp only[List.cons_append,List.nil_append];have ω:=M9 D (by omega) j' (by omega);have wq:=Hi D j';have uW:∀x∈(gu D j').1,0<=x/\x<j':=λx h=>Nd h;have rj:=Nf D j';have Zp:=Hg D j';obtain⟨ord,sH⟩:∃x,(gu D j').1=x:=⟨_,rfl⟩;obtain⟨zs,Zq⟩:∃x,(gu D j').2=x:=⟨_,rfl⟩;rw[sH] at ω wq uW rj;rw[Zq] at ω Zp;(repeat apply μ);refine ξ λθ I=>?_;simp;(repeat (rw[ε];simp[kD]));refine ej.c (ω) 0 rfl (aE.refl _) (by simp) (by simp) ?_;simp;(repeat (rw[ε];simp));apply I;have Η:=ri zs (by omega) j';obtain⟨t0,t1⟩:=p' zs j' (by omega) (by omega);obtain⟨ee,m5⟩:∃k:Nat,gM zs j'=k:=⟨(gM zs j').toNat,by omega⟩;obtain⟨nU,oX⟩:∃x,zs.after j'=x:=⟨_,rfl⟩;have Hp:nU.a5.length<=d.a5.length:=by rw[<-oX];exact Nat.le_trans (lN _ _) (by omega)
  rw[m5,oX] at Η;rw[m5] at t1;(repeat apply μ);refine ξ λθ I=>?_;simp;(repeat (rw[ε];simp[kD]));refine ej.c (Η) 0 rfl (aE.refl _) (by simp) (by simp) ?_;simp;(repeat (rw[ε];simp));apply I
  repeat apply μ
  refine W.iter (λx:Zm=>x.ay.length+x.k=ee/\x.d.a5.length<=d.a5.length/\x.ay.map (·.cK)=((ord.take ee).drop x.k).reverse/\∀p∈x.ay,(0<=p.seen/\p.seen<=63)/\(0<=p.bare/\p.bare<=63)/\pJ p.seen p.bare=0)
   (λx=>[(0,.ae 0 1 0 0),(6,.ae 1 1 0 0),(7,.Ω [aJ G,aL L,.ms 5 nc 0 nc]),(8,δ c),(9,bC δ 1 ord),(10,δ x.k)])
   (λx=>bK x.d::g7 bN bN bN::.dead::.dead::.dead::.cells 60 1 (X.set c (c8 6 (x.ay.map eT)))::bz 28 3 (x.ay.map eT)) (λx=>x.k) ⟨ee,nU,[]⟩
   ⟨by simp,Hp,by simp,by simp⟩ (by simp only[List.map_nil];rw[show c8 6 []=bN from rfl,Dc];rfl) (by simp) (λx U zn=>?_)
  obtain⟨k,E,ay⟩:=x;obtain⟨Α,Hy,g2,Hz⟩:=U;simp only at Α Hy g2 Hz zn ⊢;(repeat (first|apply μ|(refine ξ λθ I=>?_;simp;(repeat (rw[ε];simp));apply I)));refine W.dR rfl (λa6=>?_) (λa6=>?_)
  ·have m5:0<k:=by simpa using a6
   obtain⟨j,γ⟩:∃j,k=j+1:=⟨k-1,by omega⟩;have hw:IntKind.i64.wrap ((k:Int)-1)=j:=by rw[IntWalk.i64_in _ (by omega)];omega
   have GJ:j<ord.length:=by omega
   have de:ord[j]?=some ord[j]:=aX GJ;obtain⟨wL,dO⟩:∃x,x=ord[j]:=⟨_,rfl⟩;rw[<-dO] at de;have NB:∀h,ord[j]'h=wL:=λh=>dO.symm;have HA:=ri E (by omega) 63;obtain⟨HB,a1⟩:=p' E 63 (by decide) (by decide);obtain⟨n9,qZ⟩:∃x,gM E 63=x:=⟨_,rfl⟩;obtain⟨nY,NC⟩:∃x,E.after 63=x:=⟨_,rfl⟩;have Zr:nY.a5.length<=d.a5.length:=by rw[<-NC];exact Nat.le_trans (lN _ _) Hy
   rw[qZ,NC] at HA;rw[qZ] at HB a1;have j2:=ri nY (by omega) 63;obtain⟨cx,bs⟩:=p' nY 63 (by decide) (by decide);obtain⟨u5,rI⟩:∃x,gM nY 63=x:=⟨_,rfl⟩;obtain⟨nZ,ND⟩:∃x,nY.after 63=x:=⟨_,rfl⟩;have Zs:nZ.a5.length<=d.a5.length:=by rw[<-ND];exact Nat.le_trans (lN _ _) Zr
   rw[rI,ND] at j2;rw[rI] at cx bs;obtain⟨⟨gQ,er⟩,_,_⟩:=Hu ⟨HB,a1⟩ ⟨cx,bs⟩;obtain⟨pk,zt⟩:∃x,ff .i64 n9 u5=x:=⟨_,rfl⟩;rw[zt] at gQ er;have y6:=Yz nZ (by omega) [0,0,pk] (by simp) (by simp);obtain⟨uF,dJ⟩:∃x,([0,0,pk]:List Int).getD (wy nZ [0,0,pk]) 0=x:=⟨_,rfl⟩;have NF:0<=uF/\uF<=63:=by
    rw[<-dJ]
    match wy nZ [0,0,pk] with
    | 0=>simp
    | 1=>simp
    | 2=>simp;omega
    | n+3=>simp
   obtain⟨wM,NG⟩:∃x,nZ.after ((([0,0,pk]:List Int).length:Int)-1)=x:=⟨_,rfl⟩;have Zt:wM.a5.length<=d.a5.length:=by rw[<-NG];exact Nat.le_trans (lN _ _) Zs
   rw[dJ,NG] at y6;obtain⟨qe,kQ⟩:∃x:List Row,x=g7 bN bN bN::.dead::.dead::.dead::.cells 60 1 (X.set c (c8 6 (ay.map eT)))::bz 28 3 (ay.map eT):=⟨_,rfl⟩;have zu:(c8 6 (ay.map eT)=bN/\bz 28 3 (ay.map eT)=[]/\ay=[])\/(c8 6 (ay.map eT)=.ms 6 ay.length 0 ay.length/\bz 28 3 (ay.map eT)=[.cells 28 3 (ay.map eT)]/\0<ay.length):=by
    by_cases Ν:ay=[]
    ·subst Ν;exact .inl ⟨rfl,rfl,rfl⟩
    ·have fL:ay.map eT≠[]:=by simpa using Ν
     exact .inr ⟨by rw[gK fL,List.length_map],ei fL,List.length_pos_iff.2 Ν⟩
   rw[<-kQ]
   repeat apply μ
   refine W.M6 (A:=[11]) Μ mixed [(0,.ae 0 1 0 0),(6,.ae 1 1 0 0),(7,.Ω [aJ G,aL L,.ms 5 nc 0 nc]),(8,δ c),(9,bC δ 1 ord),(10,δ k),(11,.ae (qe.length+1) 1 0 0)] (bK wM::qe++[.cells 28 3 [.aR [δ wL,δ uF,δ 0]]]) ?_ (by
    rcases zu with⟨f1,f2,f3⟩|⟨f1,f2,f3⟩
    ·rw[f1,f2] at kQ;rw[kQ];simp;(repeat (rw[jD];simp[hw,de,NB,wq]));(try rw[jC]);refine⟨by omega,?_⟩;refine ej.e (HA) (aE.refl _) (by simp) (by simp) ?_;simp[];(repeat (rw[jD];simp[]));(try rw[jC]);refine ej.e (j2) (aE.refl _) (by simp) (by simp) ?_;simp[zt];(repeat (rw[jD];simp[zt]));(try rw[jC]);refine ej.e y6 (.cons .ex .nil) (by simp) (by simp) ?_;simp;(repeat (rw[jD];simp[]));(try rw[jC]);refine⟨cZ (by kernel_rfl),cZ (by kernel_rfl),?_⟩;simp
    ·rw[f1,f2] at kQ;rw[kQ];simp;(repeat (rw[jD];simp[hw,de,NB,wq]));(try rw[jC]);refine⟨by omega,?_⟩;refine ej.e (HA) (aE.refl _) (by simp) (by simp) ?_;simp[];(repeat (rw[jD];simp[]));(try rw[jC]);refine ej.e (j2) (aE.refl _) (by simp) (by simp) ?_;simp[zt];(repeat (rw[jD];simp[zt]));(try rw[jC]);refine ej.e y6 (.cons .ex .nil) (by simp) (by simp) ?_;simp;(repeat (rw[jD];simp[]));(try rw[jC]);refine⟨cZ (by kernel_rfl),cZ (by kernel_rfl),?_⟩;simp)
   have m1:=ri wM (by omega) 63;obtain⟨dA,c1⟩:=p' wM 63 (by decide) (by decide);obtain⟨n',wu⟩:∃x,gM wM 63=x:=⟨_,rfl⟩;obtain⟨zv,NH⟩:∃x,wM.after 63=x:=⟨_,rfl⟩;have Zu:zv.a5.length<=d.a5.length:=by rw[<-NH];exact Nat.le_trans (lN _ _) Zt
   rw[wu,NH] at m1;rw[wu] at dA c1;have yV:=ri zv (by omega) 63;obtain⟨d0,NI⟩:=p' zv 63 (by decide) (by decide);obtain⟨Ao,NJ⟩:∃x,gM zv 63=x:=⟨_,rfl⟩;obtain⟨oY,NK⟩:∃x,zv.after 63=x:=⟨_,rfl⟩;have Zv:oY.a5.length<=d.a5.length:=by rw[<-NK];exact Nat.le_trans (lN _ _) Zu
   rw[NJ,NK] at yV;rw[NJ] at d0 NI;obtain⟨NL,_,_⟩:=Hu ⟨dA,c1⟩ ⟨d0,NI⟩;obtain⟨En,zw⟩:∃x,ff .i64 n' Ao=x:=⟨_,rfl⟩;rw[zw] at NL;obtain⟨_,pP,Ν⟩:=Hu NL NF;obtain⟨wX,px⟩:∃x,po .i64 En uF=x:=⟨_,rfl⟩;rw[px] at pP Ν
   repeat apply μ
   refine W.M6 (A:=[]) Μ mixed [(11,.ae (qe.length+1) 1 0 0),(0,.ae 0 1 0 0),(6,.ae 1 1 0 0),(7,.Ω [aJ G,aL L,.ms 5 nc 0 nc]),(8,δ c),(9,bC δ 1 ord),(10,δ k)] ((bK oY::qe)++[.cells 28 3 [.aR [δ wL,δ uF,δ wX]]]) ?_ (by
    rcases zu with⟨f1,f2,f3⟩|⟨f1,f2,f3⟩
    ·rw[f1,f2] at kQ;rw[kQ];simp;(repeat (rw[jD];simp[]));(try rw[jC]);refine ej.e (m1) (aE.refl _) (by simp) (by simp) ?_;simp[];(repeat (rw[jD];simp[]));(try rw[jC]);refine ej.e (yV) (aE.refl _) (by simp) (by simp) ?_;simp[zw,px];(repeat (rw[jD];simp[zw,px]));(try rw[jC]);refine⟨cZ (by kernel_rfl),cZ (by kernel_rfl),?_⟩;simp
    ·rw[f1,f2] at kQ;rw[kQ];simp;(repeat (rw[jD];simp[]));(try rw[jC]);refine ej.e (m1) (aE.refl _) (by simp) (by simp) ?_;simp[];(repeat (rw[jD];simp[]));(try rw[jC]);refine ej.e (yV) (aE.refl _) (by simp) (by simp) ?_;simp[zw,px];(repeat (rw[jD];simp[zw,px]));(try rw[jC]);refine⟨cZ (by kernel_rfl),cZ (by kernel_rfl),?_⟩;simp)
   have Zw:∀r∈bK oY::qe,eJ (bK oY::qe).length r:=λr ι=>by
    rcases List.mem_cons.1 ι with rfl|ι
    ·exact sJ oY _
    have hlen:0<ay.length->6<(bK oY::qe).length:=λh=>by
     rcases zu with⟨_,_,f3⟩|⟨_,f2,_⟩
     ·rw[f3] at h;simp at h
     ·rw[kQ,f2];simp
    generalize (bK oY::qe).length=N at hlen;rw[kQ] at ι;simp only[List.mem_cons] at ι;rcases ι with rfl|rfl|rfl|rfl|rfl|ι
    ·intro e he a κ;simp[ζ.cells] at he;subst he;simp[ζ.cells] at κ;subst κ;simp
    ·trivial
    ·trivial
    ·trivial
    ·intro e he a κ;rcases List.mem_or_eq_of_mem_set he with he|rfl
     ·obtain⟨J,R⟩:=NA e he;rw[J] at κ;simp at κ;subst κ;exact R.mono (Nat.zero_le _)
     ·rcases zu with⟨f1,_,_⟩|⟨f1,_,f3⟩
      ·rw[f1] at κ;simp[ζ.cells] at κ;subst κ;simp
      ·rw[f1] at κ;simp[ζ.cells] at κ;subst κ;exact ot.2 (hlen f3)
    ·refine vJ (λe he a κ=>?_) r ι;obtain⟨x,_,rfl⟩:=List.mem_map.1 he;simp[ζ.cells] at κ;rcases κ with rfl|rfl|rfl<;>exact .z _
   have dκ:6<=(bK oY::qe).length:=by rw[kQ];simp
   refine W.lu (σ0:=bK oY::qe) (by simp) Zw (λa κ=>by simp[ζ.cells] at κ;rcases κ with rfl|rfl|rfl<;>exact .z _) [(11,.Ω [δ wL,δ uF,δ wX]),(0,.ae 0 1 0 0),(6,.ae 1 1 0 0),(7,.Ω [aJ G,aL L,.ms 5 nc 0 nc]),(8,δ c),(9,bC δ 1 ord),(10,δ k)] (λp χ=>by
    simp only[List.mem_cons,List.not_mem_nil,or_false] at χ;rcases χ with rfl|rfl|rfl|rfl|rfl|rfl|rfl
    ·exact .inr ⟨rfl,rfl⟩
    ·exact .inl ⟨rfl,iZ.2 (by omega)⟩
    ·exact .inl ⟨rfl,iZ.2 (by omega)⟩
    ·refine .inl ⟨rfl,E9.2 λa κ=>?_⟩;simp only[List.mem_cons,List.not_mem_nil,or_false] at κ;rcases κ with rfl|rfl|rfl
     ·exact(gH.2 qc:az 0 _).mono (Nat.zero_le _)
     ·exact(gH.2 uD:az 0 _).mono (Nat.zero_le _)
     ·exact ot.2 (by omega)
    ·exact .inl ⟨rfl,.z _⟩
    ·exact .inl ⟨rfl,(gH.2 (λe he a κ=>by obtain⟨x,_,rfl⟩:=List.mem_map.1 he;simp[ζ.cells] at κ;subst κ;exact .z _):az 0 _).mono (Nat.zero_le _)⟩
    ·exact .inl ⟨rfl,.z _⟩) ?_
   obtain⟨sT,HC⟩:∃p:eS,p=⟨wL,uF,wX⟩:=⟨_,rfl⟩;have bd:(ay++[sT]).map eT≠[]:=by simp
   repeat apply μ
   refine W.zg (A:=[70]) Μ mixed [(0,.ae 0 1 0 0),(6,.ae 1 1 0 0),(7,.Ω [aJ G,aL L,.ms 5 nc 0 nc]),(8,δ c),(9,bC δ 1 ord),(10,δ k)] (bK oY::g7 bN bN bN::.dead::.dead::.dead::.cells 60 1 (X.set c (c8 6 ((ay++[sT]).map eT)))::bz 28 3 ((ay++[sT]).map eT)) ?_ (by
    rw[gK bd,ei bd,List.length_map,List.length_append,List.map_append,List.map_cons,List.map_nil,HC];rcases zu with⟨f1,f2,f3⟩|⟨f1,f2,f3⟩
    ·rw[f1,f2] at kQ;rw[kQ,Dc,f3];simp;(repeat (rw[cz];simp[Ny,Nz]));(try rw[cy]);refine⟨by omega,?_⟩;refine⟨cZ (by kernel_rfl),?_⟩;simp
    ·rw[f1,f2] at kQ;rw[kQ];have Zx:∀v,(X.set c v)[c]?=some v:=λv=>by rw[List.getElem?_set_self (by omega)]
     have Zy:∀v h,(X.set c v)[c]'h=v:=λv h=>List.getElem_set_self h;simp;(repeat (rw[cz];simp[Ny,Zx,Zy]));(try rw[cy]);refine⟨by omega,by omega,by omega,?_⟩;refine⟨cZ (by kernel_rfl),?_⟩;simp)
   (repeat (first|apply μ|(refine ξ λθ I=>?_;simp;(repeat (rw[ε];simp[hw]));apply I)));have jT:(ord.take ee).drop j=wL::(ord.take ee).drop k:=by
    have g6:j<(ord.take ee).length:=by rw[List.length_take];omega
    rw[List.drop_eq_getElem_cons g6,γ,List.getElem_take,dO]
   refine W.to (zn ⟨j,oY,ay++[sT]⟩ ⟨by show(ay++[sT]).length+j=ee;rw[List.length_append];simp;omega,Zv,?_,λp χ=>?_⟩ (by show j<k;omega)) (by simp) (by simp[hw])
   ·show(ay++[sT]).map (·.cK)=((ord.take ee).drop j).reverse;rw[jT,List.map_append,g2,List.reverse_cons,HC];rfl
   ·rcases List.mem_append.1 χ with χ|χ
    ·exact Hz p χ
    ·simp at χ;subst χ;subst HC;exact⟨NF,pP,Ν⟩
  ·have m5:k=0:=by simp at a6;omega
   subst m5;have dμ:ay.length=ee:=by omega
   rw[List.drop_zero] at g2;have nm:wH j' ay:=by
    refine⟨by omega,?_,λp χ=>?_⟩
    ·rw[g2];unfold List.Nodup;rw[List.pairwise_reverse];exact(rj.sublist (List.take_sublist _ _)).imp Ne.symm
    ·have hm:p.cK∈ay.map (·.cK):=List.mem_map.2 ⟨p,χ,rfl⟩;rw[g2,List.mem_reverse] at hm;have:=uW _ (List.mem_of_mem_take hm);obtain⟨Ξ,aa,aM⟩:=Hz p χ;exact⟨this,Ξ,aa,aM⟩
   have hw:IntKind.i64.wrap ((c:Int)+1)=((c+1:Nat):Int):=by rw[IntWalk.i64_in _ (by omega)];omega
   have Zz:(done++[ay]).length=c+1:=by simp;omega
   have wN:=Γ ⟨E,done++[ay]⟩ ⟨by show(done++[ay]).length<=nc;omega,Hy,λx U=>by
    rcases List.mem_append.1 U with U|U
    ·exact Hx x U
    ·simp at U;subst U;exact nm⟩ (by show nc-(done++[ay]).length<nc-c;omega)
   have ZA:bf (done++[ay]) nc≠[]:=λh=>by
    have:=uE (done:=done++[ay]) (nc:=nc) (by omega);rw[h] at this;simp at this;omega
   simp only[Zz] at wN;rw[ei ZA,<-Zo ay,e] at wN;refine W.exit rfl ?_;by_cases Ν:ay=[]
   ·subst Ν;rw[show ml []=bN from rfl,Dc] at wN;rw[show c8 6 (([]:List eS).map eT)=bN from rfl,show bz 28 3 (([]:List eS).map eT)=[] from rfl,Dc];(repeat (first|apply μ|(refine ξ λθ I=>?_;simp;(repeat (rw[ε];simp[hw]));apply I)));exact W.to wN rfl (by simp[hw])
   ·have fL:ay.map eT≠[]:=by simpa using Ν
    have NM:ml ay=.sl false 3 (ay.map eT):=by unfold ml fJ;rw[if_neg (by simpa using Ν)]
    rw[NM] at wN;rw[gK fL,ei fL];refine W.wF (σ':=bK E::g7 bN bN bN::.dead::.dead::.dead::.cells 60 1 (X.set c (.sl false 3 (ay.map eT)))::[.dead]) (id:=6) (by simp) rfl rfl rfl (λi r hi ι=>?_) [(0,.ae 0 1 0 0),(6,.ae 1 1 0 0),(7,.Ω [aJ G,aL L,.ms 5 nc 0 nc]),(8,δ c)] (λp χ=>by
     simp only[List.mem_cons,List.not_mem_nil,or_false] at χ;rcases χ with rfl|rfl|rfl|rfl<;>exact .same _) ?_
    ·match i,hi,ι with
     | 0,_,ι=>exact⟨r,ι,.inl rfl⟩
     | 1,_,ι=>exact⟨r,ι,.inl rfl⟩
     | 2,_,ι=>exact⟨r,ι,.inl rfl⟩
     | 3,_,ι=>exact⟨r,ι,.inl rfl⟩
     | 4,_,ι=>exact⟨r,ι,.inl rfl⟩
     | 5,_,ι=>
      simp at ι;subst ι;refine⟨_,rfl,.inr ⟨60,1,_,_,rfl,rfl,by simp,λy e aA J R=>?_⟩⟩;by_cases ad:y=c
      ·subst ad;rw[List.getElem?_set_self (by omega)] at J R;cases J;cases R;refine⟨rfl,λx a b6 ς Κ=>?_⟩
       match x with
       | 0=>simp[ζ.cells] at ς Κ;subst ς;subst Κ;have:=qd.ms (id:=6) (k:=3) (l:=ay.map eT);rwa [List.length_map] at this
       | x+1=>simp[ζ.cells] at ς
      ·rw[List.getElem?_set_ne (Ne.symm ad)] at J R;rw[J] at R;cases R;exact⟨rfl,λx a b6 ς Κ=>by rw[ς] at Κ;cases Κ;exact .same _⟩
     | 6,h,_=>exact absurd rfl h
     | i+7,_,ι=>simp at ι
    refine W.drop (h:=6) (by simp) (by simp) (λi r hi ι=>?_) rfl [(0,.ae 0 1 0 0),(6,.ae 1 1 0 0),(7,.Ω [aJ G,aL L,.ms 5 nc 0 nc]),(8,δ c)] ?_ ?_
    ·match i,hi,ι with
     | 0,_,ι=>simp at ι;subst ι;exact sJ E 6
     | 1,_,ι=>simp at ι;subst ι;intro e he a κ;simp[ζ.cells] at he;subst he;simp[ζ.cells] at κ;subst κ;simp
     | 2,_,ι=>simp at ι;subst ι;trivial
     | 3,_,ι=>simp at ι;subst ι;trivial
     | 4,_,ι=>simp at ι;subst ι;trivial
     | 5,_,ι=>
      simp at ι;subst ι;intro e he a κ;rcases List.mem_or_eq_of_mem_set he with he|rfl
      ·obtain⟨J,R⟩:=NA e he;rw[J] at κ;simp at κ;subst κ;exact R.mono (Nat.zero_le _)
      ·simp[ζ.cells] at κ;subst κ;have:=Nw ay;rw[NM] at this;exact this.mono (Nat.zero_le _)
     | i+6,h,_=>omega
    ·intro p χ;simp only[List.mem_cons,List.not_mem_nil,or_false] at χ;rcases χ with rfl|rfl|rfl|rfl
     ·exact⟨rfl,iZ.2 (by omega)⟩
     ·exact⟨rfl,iZ.2 (by omega)⟩
     ·refine⟨rfl,E9.2 λa κ=>?_⟩;simp only[List.mem_cons,List.not_mem_nil,or_false] at κ;rcases κ with rfl|rfl|rfl
      ·exact(gH.2 qc:az 0 _).mono (Nat.zero_le _)
      ·exact(gH.2 uD:az 0 _).mono (Nat.zero_le _)
      ·exact ot.2 (by omega)
     ·exact⟨rfl,.z _⟩
    (repeat (first|apply μ|(refine ξ λθ I=>?_;simp;(repeat (rw[ε];simp[hw]));apply I)));exact W.to wN rfl (by simp[hw])
 ·have η:c=nc:=by simp at η;omega
  subst η;refine W.exit rfl ?_;have nx:wI ⟨G,L,done⟩:=⟨cS,aS,by show done.length<=4;omega,λx U=>by show wH L.length x;rw[<-Db];exact Hx x U⟩;have ZB:bf done c=done.map ml:=by rw[zr];exact Zi
  have G9:dr (.aR [aJ G,aL L,.sl false 1 (done.map ml)]) (e8 ⟨G,L,done⟩):=by
   refine .aR (.cons (.refl _) (.cons (.refl _) (.cons ?_ .nil)));exact .map λx _=>.one .acc (Nx x) rfl
  rcases zp with⟨cw,e⟩|⟨cw,e⟩<;>rcases zq done (by omega) with⟨af,Ε⟩|⟨af,Ε⟩
  ·rw[e,Ε];(repeat (first|apply μ|(refine ξ λθ I=>?_;simp;(repeat (rw[ε];simp));apply I)));have ZC:done=[]:=dk.1 (by omega);refine W.cut 1 (by simp) [(6,.Ω [aJ G,aL L,bN])] (by simp) (λid r bS ι=>?_) (λp χ=>?_) ?_
   ·have:id=0:=by omega
    subst this;simp at ι;subst ι;exact sJ D 1
   ·simp only[List.mem_cons,List.not_mem_nil,or_false] at χ;subst χ;show et 1 _ (aW _ 6) _;simp;refine .struct (by simp) (show _=some (Row.cells _ _ [.aR _]) from rfl) rfl λx a b6 J R=>?_
    match x with
    | 0=>simp at J R;subst J;subst R;exact .low ((gH.2 qc:az 0 _).mono (Nat.zero_le _))
    | 1=>simp at J R;subst J;subst R;exact .low ((gH.2 uD:az 0 _).mono (Nat.zero_le _))
    | 2=>simp at J R;subst J;subst R;exact .low (by simp)
    | x+3=>simp at R
   ·refine W.ret ⟨_,rfl,_,D,?_,⟨_,rfl,nx,by show done.length<=cells;omega⟩,rfl,mi⟩;rw[ZC];exact .aR (.cons (.refl _) (.cons (.refl _) (.cons .nil .nil)))
  ·omega
  ·omega
  ·have mc:(bf done c).length=c:=uE (by omega);rw[e,Ε];(repeat (first|apply μ|(refine ξ λθ I=>?_;simp;(repeat (rw[ε];simp[mc]));apply I)));refine W.cut 1 (by simp) [(6,.Ω [aJ G,aL L,.sl false 1 (bf done c)])] (by simp) (λid r bS ι=>?_) (λp χ=>?_) ?_
   ·have:id=0:=by omega
    subst this;simp at ι;subst ι;exact sJ D 1
   ·simp only[List.mem_cons,List.not_mem_nil,or_false] at χ;subst χ;show et 1 _ (aW _ 6) _;simp;refine .struct (by simp) (show _=some (Row.cells _ _ [.aR _]) from rfl) rfl λx a b6 J R=>?_
    match x with
    | 0=>simp at J R;subst J;subst R;exact .low ((gH.2 qc:az 0 _).mono (Nat.zero_le _))
    | 1=>simp at J R;subst J;subst R;exact .low ((gH.2 uD:az 0 _).mono (Nat.zero_le _))
    | 2=>simp at J R;subst J;subst R;exact .own (t:=60) (by simp) rfl mc (λe he a κ=>by
      obtain⟨er,fb⟩:=Hv e he;rw[er] at κ;simp at κ;subst κ;exact fb.mono (Nat.zero_le _))
    | x+3=>simp at R
   ·rw[ZB];exact W.ret ⟨_,rfl,_,D,G9,⟨_,rfl,nx,by show done.length<=cells;omega⟩,rfl,mi⟩
def cnt (x n:Int):Nat->Int
 | 0=>0
 | k+1=>cnt x n k+(if ff .i64 x (2 ^ k)≠0 then 1 else 0)-(if ff .i64 n (2 ^ k)≠0 then 1 else 0)
theorem ZD:∀a<64,fA (fA (a:Nat))=(a:Nat)/\0<=fA (a:Nat)/\fA (a:Nat)<=63/\cnt (a:Nat) (fA (a:Nat)) 6=0:=by decide +kernel
theorem NN {a:Int} (h:0<=a/\a<=63):fA (fA a)=a/\(0<=fA a/\fA a<=63)/\cnt a (fA a) 6=0:=by
 obtain⟨x,rfl⟩:∃x:Nat,a=x:=⟨a.toNat,by omega⟩;obtain⟨J,R,ς,Κ⟩:=ZD x (by omega);exact⟨J,⟨R,ς⟩,Κ⟩
theorem Dd {a:Int} (h:0<=a/\a<=63):valid a=true:=by unfold valid;simp;omega
theorem NO (l:List gb) (g:gb):(ma l g=-1/\∀x∈l,x.bR≠fA g.bR)\/∃j:Nat,∃h:j<l.length,ma l g=j/\l[j].bR=fA g.bR:=by
 unfold ma idxOf;cases κ:l.any λx=>decide (x.bR=fA g.bR) with
 | false=>
  refine .inl ⟨by simp,λx U e=>?_⟩;rw[List.any_eq_false] at κ;exact κ x U (by simpa using e)
 | true=>
  have ar:l.findIdx (λx=>decide (x.bR=fA g.bR))<l.length:=by
   rw[List.findIdx_lt_length];simpa using κ
  have Ο:=List.findIdx_getElem (w:=ar);refine .inr ⟨_,ar,by simp,by simpa using Ο⟩
theorem ZE {l:List gb} (h:kO l) {i j:Nat} (hi:i<l.length) (γ:j<l.length):l[j].bR=fA l[i].bR↔ma l l[i]=j:=by
 rcases NO l l[i] with⟨e,Ι⟩|⟨k,Α,e,ν⟩
 ·rw[e];exact⟨λx=>absurd x (Ι _ (List.getElem_mem γ)),λx=>by omega⟩
 ·rw[e];constructor
  ·intro x;have:k=j:=by
    apply Classical.byContradiction;intro bd;rcases Nat.lt_or_gt_of_ne bd with ar|ar
    ·exact List.pairwise_iff_getElem.1 h.apart k j Α γ ar (ν.trans x.symm)
    ·exact List.pairwise_iff_getElem.1 h.apart j k γ Α ar (x.trans ν.symm)
   subst this;rfl
  ·intro x;have:k=j:=by omega
   subst this;exact ν
theorem ZF (l:List gb) (N:Nat) (b8:N<=l.length):(List.range N).flatMap (lx l)=((List.range N).filter λi=>decide (0<=((l[i]?).map (ma l)).getD (-1))).map λ(i:Nat)=>[(i:Int),((l[i]?).map (ma l)).getD (-1)]:=by
 induction N with
 | zero=>rfl
 | succ N Γ=>
  rw[List.range_succ,List.flatMap_append,Γ (by omega),List.filter_append,List.map_append];congr 1;have ar:N<l.length:=by omega
  simp only[List.flatMap_cons,List.flatMap_nil,List.append_nil,List.filter_cons,List.filter_nil];unfold lx;rw[aX ar];simp only[Option.map_some,Option.getD_some];by_cases η:0<=ma l l[N]
  ·simp[η,aX ar]
  ·simp[η]
structure ZG (l:List gb) (T:List (List Int)):Prop where
 many:T.length<=l.length
 each:∀(i:Nat) (t:List Int),T[i]?=some t->∃p q:Nat,∃(χ:p<l.length) (Ψ:q<l.length),t=[(p:Int),(q:Int)]/\fA l[p].bR=l[q].bR/\[(q:Int),(p:Int)]∈T
 C1:∀(i:Nat) (t u:List Int),T[i]?=some t->T[i+1]?=some u->t[0]!<u[0]!
 mem:∀(i j:Nat) (hi:i<l.length) (γ:j<l.length),[(i:Int),(j:Int)]∈T↔l[j].bR=fA l[i].bR
theorem ZH {l:List gb} (h:kO l):ZG l (twins l):=by
 have he:twins l=_:=ZF l l.length (Nat.le_refl _)
 have jR:∀(i j:Nat) (hi:i<l.length) (γ:j<l.length),[(i:Int),(j:Int)]∈twins l↔l[j].bR=fA l[i].bR:=λi j hi γ=>by
  rw[ZE h hi γ,he,List.mem_map];constructor
  ·rintro⟨k,Α,e⟩;simp only[List.cons.injEq,and_true] at e;obtain⟨Δ,Ε⟩:=e;have:k=i:=by omega
   subst this;rw[aX hi] at Ε;simpa using Ε
  ·intro e;refine⟨i,?_,?_⟩
   ·rw[List.mem_filter];refine⟨List.mem_range.2 hi,?_⟩;rw[aX hi];simp[e]
   ·simp only[aX hi,Option.map_some,Option.getD_some,e]
 refine⟨?_,λi t Η=>?_,λi t u Η hu=>?_,jR⟩
 ·rw[he,List.length_map];exact Nat.le_trans (List.length_filter_le _ _) (by simp)
 ·have hm:t∈twins l:=cf Η;rw[he,List.mem_map] at hm;obtain⟨p,χ,rfl⟩:=hm;rw[List.mem_filter] at χ;obtain⟨hV,jA⟩:=χ;have hV:=List.mem_range.1 hV;rw[aX hV] at jA ⊢;simp only[Option.map_some,Option.getD_some,decide_eq_true_eq] at jA ⊢;rcases NO l l[p] with⟨e,_⟩|⟨q,Ψ,e,ν⟩
  ·omega
  ·refine⟨p,q,hV,Ψ,by rw[e],ν.symm,?_⟩;rw[jR q p Ψ hV,ν];exact((NN (by obtain⟨_,a,b⟩:=h.each _ (List.getElem_mem hV);exact⟨by omega,b⟩)).1).symm
 ·rw[he,List.getElem?_map] at Η hu;obtain⟨bw,eA⟩:∃bw,bw=(List.range l.length).filter λi=>decide (0<=((l[i]?).map (ma l)).getD (-1)):=⟨_,rfl⟩;rw[<-eA] at Η hu;have ZI:bw.Pairwise (· < ·):=by rw[eA];exact List.Pairwise.filter _ List.pairwise_lt_range
  cases J:bw[i]? with
  | none=>rw[J] at Η;cases Η
  | some a=>
   cases R:bw[i+1]? with
   | none=>rw[R] at hu;cases hu
   | some b=>
    rw[J] at Η;rw[R] at hu;cases Η;cases hu;obtain⟨w1,Δ⟩:=bU.1 J;obtain⟨w2,Ε⟩:=bU.1 R;have:=List.pairwise_iff_getElem.1 ZI i (i+1) w1 w2 (by omega);rw[Δ,Ε] at this;show(a:Int)<(b:Int);omega
end Go.TL
