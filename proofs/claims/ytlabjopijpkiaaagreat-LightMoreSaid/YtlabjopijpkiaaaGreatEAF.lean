import Derived.IntWalk
import Derived.Laws.Sem
import Derived.Test.YtlabjopijpkiaaaGreatEAE
set_option maxHeartbeats 16000000
set_option maxRecDepth 20000
set_option linter.unusedSectionVars false
set_option linter.unusedSimpArgs false
set_option linter.unusedVariables false
namespace Go.TL
open Go.Conc
section
variable {P:Program} {T:bk} {S:aO} {B:a0} {H:Γ} {σ:ac}
def DO (σ:ac) (a:θ):c5:=if a.cells.all (θ.bl σ)=true then .ok (.au a.cells) σ else .bad
def yv (a:θ):cB:=if a.cells.all (θ.bl [])=true then .ok (.au a.cells) else .bad
def yw (t:TypeId) (σ:ac) (a:θ):c5:=if a.cells.all (θ.bl σ)=true then .ok (.ak σ.length 1 0 0) (σ++[.cells t a.cells.length [a]]) else .bad
theorem HZ (Δ:Holds S B σ H) (ty:TypeId) {a:θ} {v:Value} (ν:aA S B σ a v) (ea:a.cells.all (θ.bl σ)=true):cW P (do pure (.pointer (some (<-newVar ty v)))) S B H σ (.ok (.au a.cells) σ):=by
 intro K κ;refine χ.bind' ?_;unfold newVar newRow;refine χ.bind' (AA Δ v.cells ty λr U γ ο=>χ.pure' (χ.pure' ⟨_,_,_,_,κ,γ,U,ο,?_⟩));exact Nq ο (gq.one ν ea)
theorem VD (Δ:Holds S B σ H) (ty:TypeId) {a:θ} {v:Value} (ν:aA S B σ a v):cW P (Instr.box ty v) S B H σ (DO σ a):=by
 unfold DO;split
 ·rename_i ea;exact HZ Δ ty ν ea
 ·exact .bad
theorem VE (Δ:Holds S B σ H) (ty:TypeId) {a:θ} {v:Value} (ν:aA S B σ a v):cW P (Instr.box ty v) S B H σ ((yv a).dC σ):=by
 unfold yv;split
 ·rename_i ea;exact HZ Δ ty ν (yt ea)
 ·exact .bad
theorem Nr (Δ:Holds S B σ H) (ty:TypeId) {a:θ} {v:Value} (ν:aA S B σ a v):cW P (do pure (.pointer (some (<-newVar ty v)))) S B H σ (yw ty σ a):=by
 unfold yw;split
 ·rename_i ea;intro K κ;refine χ.bind' ?_;unfold newVar newRow;refine χ.bind' (Az Δ (gq.one ν ea) ty λr _ U γ ο=>χ.pure' (χ.pure' ⟨_,_,_,_,κ,γ,U,ο,?_⟩));have:=aA.ak (S:=S) (B:=B++[some (r,v.cells.size)]) (σ:=σ++[.cells ty a.cells.length [a]]) (id:=σ.length) (n:=1) (i:=0) (j:=0) (k:=a.cells.length) (t:=ty) (l:=[a]) (b:=r) (N:=v.cells.size) η rfl (by rw[<-Δ.len];simp);simpa using this
 ·exact .bad
theorem VF (Δ:Holds S B σ H) (ty:TypeId) {a:θ} {v:Value} (ν:aA S B σ a v):cW P (Instr.box ty v) S B H σ (yw ty σ a):=Nr Δ ty ν
def DQ (T:bk) (ty:TypeId) (σ:ac):c5:=match T ty with|some i=>yw ty σ (ia i.zero)|none=>.bad
def DR (T:bk) (ty:TypeId):cB:=match T ty with|some i=>yv (ia i.zero)|none=>.bad
theorem VG (Ν:bU P T) (Δ:Holds S B σ H) (ty:TypeId):cW P (Instr.alloc ty true (.tuple #[])) S B H σ (DQ T ty σ):=by
 unfold DQ;cases hi:T ty with
 | none=>exact .bad
 | some i=>
  intro K κ;unfold Instr.alloc;exact χ.bind' (Ν.zero hi (Nr Δ ty (qN i.zero) K κ))
theorem VH (Ν:bU P T) (Δ:Holds S B σ H) (ty:TypeId):cW P (Instr.alloc ty true (.tuple #[])) S B H σ ((DR T ty).dC σ):=by
 unfold DR;cases hi:T ty with
 | none=>exact .bad
 | some i=>
  simp only[yv];split
  ·rename_i ea;intro K κ;unfold Instr.alloc;exact χ.bind' (Ν.zero hi (HZ Δ ty (qN i.zero) (yt ea) K κ))
  ·exact .bad
def sc (pl:Nat->Option (Nat×Nat×Nat)) (k:Nat) (bl:θ->Bool) (l:am):List (Nat×θ)->Option (am)
 | []=>some l
 |(x,a)::r=>match pl x with
  | some (i,j,n)=>match l[i]? with
   | some e=>if a.cells.length=n/\j+n<=k/\a.cells.all bl=true then sc pl k bl (l.set i (e.tl j a.cells)) r else none
   | none=>none
  | none=>none
theorem H0 {k:Nat} {bl:θ->Bool} (o5:∀a:θ,bl a=true->a.bl σ=true) {pl:Nat->Option (Nat×Nat×Nat)} {place:Nat->Option (Nat×Nat)} (ib:∀x i j n,pl x=some (i,j,n)->place x=some (i*k+j,n)) {env:ab} {t:Array Value} (cO:dB S B σ env t) :
  ∀(dc:List (Nat×Operand)) (c:Array Value) (l dp:am),gq S B σ c k l->sc pl k bl l (dc.map λp=>(p.1,aT env p.2))=some dp->
  ∃c',Instr.fill place c (dc.map λp=>(p.1,bt t p.2))=some c'/\c'.size=c.size/\gq S B σ c' k dp/\dp.length=l.length:=by
 intro dc
 induction dc with
 | nil=>intro c l dp ε h;cases h;exact⟨c,rfl,rfl,ε,rfl⟩
 | cons p dc Α=>
  obtain⟨x,o⟩:=p;intro c l dp ε h;simp only[List.map_cons,sc] at h;split at h<;>try cases h
  rename_i i j n ω;split at h<;>try cases h
  rename_i e he;split at h<;>try cases h
  rename_i C8;obtain⟨U,γ,ο⟩:=C8;have ν:=mI cO o;have ea:(aT env o).cells.all (θ.bl σ)=true:=by
   rw[List.all_eq_true] at ο ⊢;exact λa ν=>o5 a (ο a ν)
  obtain⟨cA,_⟩:=ν.cells ea;obtain⟨k1,bT⟩:=ε.put he ν ea (by omega:j+(aT env o).cells.length<=k);obtain⟨c',Ζ,Ε,a8,cR⟩:=Α _ _ _ bT h;refine⟨c',?_,by rw[Ε,k1],a8,by rw[cR];simp⟩;have hA:i<l.length:=(b0.1 he).1;have hle:i*k+j+(bt t o).cells.size<=c.size:=by
   have a1:(i+1)*k<=l.length*k:=Nat.mul_le_mul_right k hA
   have bb:=ε.1;rw[Nat.add_mul] at a1;omega
  simp only[List.map_cons,Instr.fill,ib x i j n ω];have c1:((bt t o).cells.size≠n)=False:=by simp;omega
  have c2:(i*k+j+(bt t o).cells.size > c.size)=False:=by simp;omega
  simp only[bne_iff_ne,ne_eq,Bool.or_eq_true,decide_eq_true_eq,c1,c2];simp only[ne_eq] at c1;simp only[c1,or_self,if_false];exact Ζ
def Ns (T:bk) (dr:Array Field):Option (List (Nat×Nat)):=dr.toList.mapM λf=>(T f.type).map λi=>(f.offset,i.size)
theorem VI (Ν:bU P T) {K:Array (Nat×Nat)->Γ->Prop} {E:Value->Γ->Prop} {dr:Array Field} {l:List (Nat×Nat)} (h:Ns T dr=some l) (ψ:K l.toArray H) :
  χ P (dr.mapM λf=>(do pure (f.offset,<-sizeOf f.type):Sem (Nat×Nat))) H K E:=by
 have key:∀(gs:List Field) (l:List (Nat×Nat)) (K:List (Nat×Nat)->Γ->Prop),(gs.mapM λf=>(T f.type).map λi=>(f.offset,i.size))=some l->K l H->χ P (gs.mapM λf=>(do pure (f.offset,<-sizeOf f.type):Sem (Nat×Nat))) H K E:=by
  intro gs
  induction gs with
  | nil=>intro l K h ψ;simp at h;subst h;exact χ.pure' ψ
  | cons f gs Α=>
   intro l K h ψ;rw[List.mapM_cons] at h ⊢;cases Ρ:T f.type with
   | none=>rw[Ρ] at h;cases h
   | some i=>
    rw[Ρ] at h;simp only[Option.map_some,Option.bind_eq_bind,Option.bind_some] at h;cases Ω:(gs.mapM λf=>(T f.type).map λi=>(f.offset,i.size)) with
    | none=>rw[Ω] at h;cases h
    | some l2=>
     rw[Ω] at h;cases h;refine χ.bind' (χ.bind' (Ν.size Ρ (χ.pure' ?_)));refine χ.bind' (Α l2 _ Ω ?_);exact χ.pure' ψ
 rw[Array.mapM_eq_mapM_toList];exact χ.bind (dr.toList.mapM _) (key dr.toList l _ h (χ.pure' ψ))
def oi (T:bk) (bl:θ->Bool) (ty:TypeId) (parts:List (Nat×θ)):cB:=match T ty with
 | some i=>
  let z:=ia i.zero
  if z.cells.length=i.zero.cells.size/\z.cells.all (θ.bl [])=true then match i.bM with
   | .struct dr=>match Ns T dr with
    | some pl=>match sc (λx=>(pl[x]?).map λp=>(0,p.1,p.2)) z.cells.length bl [z] parts with
     | some [e]=>.ok (.a3 e.cells)
     | _=>.bad
    | none=>.bad
   | .array _ el=>match T el with
    | some b6=>match sc (λx=>some (0,x*b6.size,b6.size)) z.cells.length bl [z] parts with
     | some [e]=>.ok (.a3 e.cells)
     | _=>.bad
    | none=>.bad
   | _=>.bad
  else .bad
 | none=>.bad
theorem Nt {c:Array Value} {k:Nat} {e:θ} (h:gq S B σ c k [e]) (ψ:c.size=k):aA S B σ (.a3 e.cells) (.agg c):=by
 obtain⟨U,γ⟩:=h.2 0 e rfl;refine .a3 c (by rw[U,ψ]) λj a v ζ hv=>?_;obtain⟨x,Ζ,Ε,_⟩:=γ j a ζ;rw[Nat.zero_mul,Nat.zero_add,hv] at Ζ;cases Ζ;exact Ε
theorem Nu (Ν:bU P T) (Δ:Holds S B σ H) {bl:θ->Bool} (o5:∀a:θ,bl a=true->a.bl σ=true) (ty:TypeId) {env:ab} {t:Array Value} (cO:dB S B σ env t) (parts:Array (Nat×Operand)) :
  cW P (Instr.build ty (parts.map λ(i,x)=>(i,bt t x))) S B H σ ((oi T bl ty (parts.toList.map λp=>(p.1,aT env p.2))).dC σ):=by
 unfold oi;cases hi:T ty with
 | none=>exact .bad
 | some i=>
  simp only;split
  ·rename_i Ψ;obtain⟨qP,u2⟩:=Ψ;have DS:gq S B σ i.zero.cells (ia i.zero).cells.length [ia i.zero]:=gq.one (qN i.zero) (yt u2);have DT:(parts.map λ(i,x)=>(i,bt t x)).toList=parts.toList.map λp=>(p.1,bt t p.2):=η;split
   ·rename_i dr hu;split
    ·rename_i pl ib;split
     ·rename_i e he;intro K κ;unfold Instr.build;refine χ.bind' (Ν.zero hi (χ.bind' (Ν.bM hi ?_)));rw[hu];refine χ.bind' (VI Ν ib ?_);obtain⟨c',Ζ,Ε,a8,_⟩:=H0 (place:=(pl.toArray[·]?)) o5 (λx i j n h=>by
       cases δ:pl[x]? with
       | none=>rw[δ] at h;cases h
       | some p=>rw[δ] at h;cases h;simp[δ]) cO parts.toList _ _ _ DS he
      rw[DT,Ζ];exact χ.pure' (.same Δ κ (Nt a8 (by rw[Ε,qP])))
     ·exact .bad
    ·exact .bad
   ·rename_i m el hu;split
    ·rename_i b6 eW;split
     ·rename_i e he;intro K κ;unfold Instr.build;refine χ.bind' (Ν.zero hi (χ.bind' (Ν.bM hi ?_)));rw[hu];refine χ.bind' (Ν.size eW ?_);obtain⟨c',Ζ,Ε,a8,_⟩:=H0 (place:=λi=>some (i*b6.size,b6.size)) o5 (λx i j n h=>by
       simp at h;obtain⟨rfl,rfl,rfl⟩:=h;simp) cO parts.toList _ _ _ DS he
      rw[DT,Ζ];exact χ.pure' (.same Δ κ (Nt a8 (by rw[Ε,qP])))
     ·exact .bad
    ·exact .bad
   ·exact .bad
  ·exact .bad
def AB (T:bk) (bl:θ->Bool) (ty:TypeId) (len:Nat) (parts:List (Nat×θ)):Option (TypeId×Nat×am):=match iV T ty with
 | some (e,k,none)=>match T e with
  | some b6=>if 0<k/\len*k<=2 ^ 24/\(ia b6.zero).cells.length=k/\(ia b6.zero).cells.all (θ.bl [])=true then
    (sc (λx=>some (x,0,k)) k bl (List.replicate len (ia b6.zero)) parts).map λl=>(e,k,l) else none
  | none=>none
 | _=>none
theorem Nv (Ν:bU P T) {bl:θ->Bool} (o5:∀a:θ,bl a=true->a.bl σ=true) {ty e:TypeId} {len k:Nat} {l:am} {env:ab} {t:Array Value} (cO:dB S B σ env t) {parts:Array (Nat×Operand)}
  (h:AB T bl ty len (parts.toList.map λp=>(p.1,aT env p.2))=some (e,k,l)) {K:Value->Γ->Prop} {E:Value->Γ->Prop}
  (ψ:∀c:Array Value,gq S B σ c k l->l.length=len->χ P (newObj (.cells c e)) H (λr H'=>K (.slice (some ⟨r,0,none⟩) len len) H') E) :
  χ P (Instr.buildSlice ty len (parts.map λ(i,x)=>(i,bt t x))) H K E:=by
 unfold AB at h;split at h<;>try cases h
 rename_i aP al he;split at h<;>try cases h
 rename_i b6 eW;split at h<;>try cases h
 rename_i ε;obtain⟨U,γ,ο,Ι⟩:=ε;obtain⟨i,H2,hi,hu,u3,cA⟩:=DH he;rw[eW] at u3;cases u3;cases Ρ:sc (λx=>some (x,0,al)) al bl (List.replicate len (ia b6.zero)) (parts.toList.map λp=>(p.1,aT env p.2)) with
 | none=>rw[Ρ] at h;cases h
 | some dp=>
  rw[Ρ] at h;cases h;unfold Instr.buildSlice;refine χ.bind' (Ν.bM hi ?_);rw[hu];refine χ.bind' (Ν.size eW ?_);rw[cA];have Nw:¬(len*k > 2 ^ 24):=J;simp only[Nw,if_false];have DT:(parts.map λ(i,x)=>(i,bt t x)).toList=parts.toList.map λp=>(p.1,bt t p.2):=η;have fin:∀gG:Array Value,(len=0\/gG=b6.zero.cells)->∃c',Instr.fill (λi=>some (i*k,k)) ((Array.range (len*k)).map (gG[· % gG.size]!)) (parts.map λ(i,x)=>(i,bt t x)).toList=some c'/\gq S B σ c' k l/\l.length=len:=λgG sd=>by
   have DS:gq S B σ ((Array.range (len*k)).map (gG[· % gG.size]!)) k (List.replicate len (ia b6.zero)):=by
    rcases sd with rfl|sd
    ·exact⟨η,λi e hi=>by simp at hi⟩
    ·exact gq.Np (qN b6.zero) (yt Ι) ο (Nat.le_refl _) gG sd
   obtain⟨c',Ζ,Ε,a8,cR⟩:=H0 (place:=λi=>some (i*k,k)) o5 (λx i j n h=>by
    simp at h;obtain⟨rfl,rfl,rfl⟩:=h;simp) cO parts.toList _ _ _ DS Ρ
   rw[DT];exact⟨c',Ζ,a8,by rw[cR];simp⟩
  by_cases π:len=0
  ·obtain⟨c',Ζ,Ε,a8⟩:=fin #[] (.inl π);have Ψ:len*k=0:=by rw[π];simp
   rw[if_pos Ψ];refine χ.bind' (χ.pure' ?_);rw[Ζ];exact χ.bind' (ψ c' Ε a8)
  ·have bx:len*k≠0:=by
    intro ao;rcases Nat.mul_eq_zero.1 ao with ao|ao<;>omega
   obtain⟨c',Ζ,Ε,a8⟩:=fin _ (.inr rfl);rw[if_neg bx];refine χ.bind' (Ν.zero eW ?_);refine χ.bind' (χ.pure' ?_);rw[Ζ];exact χ.bind' (ψ c' Ε a8)
def AD (T:bk) (bl:θ->Bool) (ty:TypeId) (len:Nat) (parts:List (Nat×θ)):cB:=match AB T bl ty len parts with
 | some (_,k,l)=>.ok (.sl true k l)
 | none=>.bad
def DU (T:bk) (ty:TypeId) (len:Nat) (parts:List (Nat×θ)) (σ:ac):c5:=match AB T (θ.bl σ) ty len parts with
 | some (e,k,l)=>.ok (.ms σ.length len 0 len) (σ++[.cells e k l])
 | none=>.bad
theorem Nx (Ν:bU P T) (Δ:Holds S B σ H) {bl:θ->Bool} (o5:∀a:θ,bl a=true->a.bl σ=true) (ty:TypeId) (len:Nat) {env:ab} {t:Array Value} (cO:dB S B σ env t) (parts:Array (Nat×Operand)) :
  cW P (Instr.buildSlice ty len (parts.map λ(i,x)=>(i,bt t x))) S B H σ ((AD T bl ty len (parts.toList.map λp=>(p.1,aT env p.2))).dC σ):=by
 unfold AD;split
 ·rename_i e k l h;intro K κ;refine Nv Ν o5 cO h λc ε hlen=>AA Δ c e λr U γ ο=>⟨_,_,_,_,κ,γ,U,ο,?_⟩;have:=DN (cap:=len) true ο ε J (λ_=>hlen.symm);rw[hlen] at this;exact this
 ·exact .bad
theorem Ny {r n k:Nat} {t:TypeId} {l:am} (hlen:B.length=σ.length) (c:Array Value) (ε:l.length*k<=c.size) (Θ:l.length=n):aA S (B++[some (r,c.size)]) (σ++[.cells t k l]) (.ms σ.length n 0 n) (.slice (some ⟨r,0,none⟩) n n):=by
 have:=aA.ms (S:=S) (B:=B++[some (r,c.size)]) (σ:=σ++[.cells t k l]) (id:=σ.length) (n:=n) (i:=0) (len:=n) (t:=t) (k:=k) (l:=l) (bo:=some (r,c.size)) (base:=some ⟨r,0,none⟩) n η Θ (by rw[<-hlen];simp) J (Nat.le_refl _) (.inr ⟨r,c.size,rfl,η,by subst Θ;simpa using ε⟩);exact this
theorem VJ (Ν:bU P T) (Δ:Holds S B σ H) (ty:TypeId) (len:Nat) {env:ab} {t:Array Value} (cO:dB S B σ env t) (parts:Array (Nat×Operand)) :
  cW P (Instr.buildSlice ty len (parts.map λ(i,x)=>(i,bt t x))) S B H σ (DU T ty len (parts.toList.map λp=>(p.1,aT env p.2)) σ):=by
 unfold DU;split
 ·rename_i e k l h;intro K κ;exact Nv Ν (λa h=>h) cO h λc ε hlen=>Az Δ ε e λr _ U γ ο=>⟨_,_,_,_,κ,γ,U,ο,Ny Δ.len c ε.1 hlen⟩
 ·exact .bad
def AE (T:bk) (ty:TypeId) (a b:θ):Option (TypeId×Nat×θ×Int×Int):=match iV T ty,a,b with
 | some (e,k,none),.z (.int _ n),.z (.int _ m)=>match T e with
  | some b6=>if 0<k/\(ia b6.zero).cells.length=k/\(ia b6.zero).cells.all (θ.bl [])=true then some (e,k,ia b6.zero,n,b6.bytes) else none
  | none=>none
 | _,_,_=>none
end
section
variable {P:Program} {T:bk} {S:aO} {B:a0} {H:Γ} {σ:ac}
theorem Nz (Ν:bU P T) {ty e:TypeId} {k:Nat} {z:θ} {n bytes:Int} {a b:θ} {u v:Value} (ν:aA S B σ a u) (hb:aA S B σ b v) (h:AE T ty a b=some (e,k,z,n,bytes)) (e':∀kk m,b=.z (.int kk m)->m=n) (Θ:0<=n/\0<bytes/\bytes*n<=2 ^ 48) {K:Value->Γ->Prop} {E:Value->Γ->Prop}
  (ψ:∀c:Array Value,gq S B σ c k (List.replicate n.toNat z)->χ P (newObj (.cells c e)) H (λr H'=>K (.slice (some ⟨r,0,none⟩) n.toNat n.toNat) H') E) :
  χ P (Instr.makeSlice ty u v) H K E:=by
 unfold AE at h;split at h<;>try cases h
 rename_i aP al k1 jT bT m he;split at h<;>try cases h
 rename_i b6 eW;split at h<;>try cases h
 rename_i ε;obtain⟨U,γ,ο⟩:=ε;cases ν;cases hb;have hm:=e' _ _ rfl;subst hm;obtain⟨i,H2,hi,hu,u3,cA⟩:=DH he;rw[eW] at u3;cases u3;obtain⟨se,kA,H3⟩:=Θ;have hle:m<=2 ^ 48:=by
  have:1*m<=(b6.bytes:Int)*m:=Int.mul_le_mul_of_nonneg_right J se;omega
 have hw:IntKind.i64.wrap m=m:=IntWalk.i64_in m ⟨J,J⟩;unfold Instr.makeSlice;refine χ.bind' (Ν.bM hi ?_);rw[hu];refine χ.bind' (χ.bind' (χ.pure' (χ.pure' ?_)));refine χ.bind' (χ.bind' (χ.pure' (χ.pure' ?_)));refine χ.bind' (Ν.info eW λf Ρ=>?_);simp only[hw,Ρ];have c1:¬m<0:=J;have c2:¬((b6.bytes:Int)*m > 2 ^ 48):=J;have c3:¬m > m:=J;simp only[c1,c2,c3,decide_false,Bool.or_false,Bool.false_eq_true,if_false];refine χ.bind' ?_;have fin:χ P (do
   let NA <-(do pure (m.toNat*(<-sizeOf e)):Sem Nat)
   let zero <-if NA=0 then pure #[] else do pure (<-zeroValue e).cells
   let a <-newRow e ((Array.range NA).map (zero[· % zero.size]!))
   pure (.slice (some a) m.toNat m.toNat)) H K E:=by
  refine χ.bind' (χ.bind' (Ν.size eW (χ.pure' ?_)));rw[cA];by_cases Ψ:m.toNat*k=0
  ·rw[if_pos Ψ];refine χ.bind' (χ.pure' ?_);refine χ.bind' (χ.bind' ?_);refine ψ _ ?_;rcases Nat.mul_eq_zero.1 Ψ with ao|ao
   ·rw[ao];exact⟨η,λi e hi=>by simp at hi⟩
   ·omega
  ·rw[if_neg Ψ];refine χ.bind' (Ν.zero eW ?_);refine χ.bind' (χ.pure' ?_);refine χ.bind' (χ.bind' ?_);exact ψ _ (gq.Np (qN b6.zero) (yt ο) γ (Nat.le_refl _) _ rfl)
 unfold askRoom;split
 ·refine⟨rfl,?_⟩;show χ P _ H K E;have:=fin;simpa using this
 ·refine χ.pure' ?_;show χ P _ H K E;have:=fin;simpa using this
def DV (T:bk) (ty:TypeId) (a b:θ) (σ:ac):c5:=match AE T ty a b,b with
 | some (e,k,z,n,bytes),.z (.int _ m)=>.b' (m=n/\0<=n/\0<bytes/\bytes*n<=2 ^ 48) (.ok (.ms σ.length n.toNat 0 n.toNat) (σ++[.cells e k (List.replicate n.toNat z)]))
 | _,_=>.bad
theorem VK (Ν:bU P T) (Δ:Holds S B σ H) {ty:TypeId} {a b:θ} {u v:Value} (ν:aA S B σ a u) (hb:aA S B σ b v):cW P (Instr.makeSlice ty u v) S B H σ (DV T ty a b σ):=by
 unfold DV;split
 ·rename_i e k z n bytes kk m h;refine .b' λ⟨hm,Θ⟩ K κ=>?_;refine Nz Ν ν hb h (λHE ck aP=>by cases aP;exact hm) Θ λc ε=>Az Δ ε e λr _ U γ ο=>⟨_,_,_,_,κ,γ,U,ο,?_⟩;exact Ny Δ.len c ε.1 η
 ·exact .bad
def DW (T:bk) (ty:TypeId) (a b:θ):cB:=match AE T ty a b,b with
 | some (_,k,z,n,bytes),.z (.int _ m)=>.b' (m=n/\0<=n/\0<bytes/\bytes*n<=2 ^ 48) (.ok (.sl true k (List.replicate n.toNat z)))
 | _,_=>.bad
theorem VL (Ν:bU P T) (Δ:Holds S B σ H) {ty:TypeId} {a b:θ} {u v:Value} (ν:aA S B σ a u) (hb:aA S B σ b v):cW P (Instr.makeSlice ty u v) S B H σ ((DW T ty a b).dC σ):=by
 unfold DW;split
 ·rename_i e k z n bytes kk m h;refine cW.b' (r:=(cB.ok (.sl true k (List.replicate n.toNat z))).dC σ) λ⟨hm,Θ⟩ K κ=>?_;refine Nz Ν ν hb h (λHE ck aP=>by cases aP;exact hm) Θ λc ε=>AA Δ c e λr U γ ο=>⟨_,_,_,_,κ,γ,U,ο,?_⟩;have:=DN (cap:=n.toNat) true ο ε η (λ_=>η);simpa using this
 ·exact .bad
def Reads (H:Γ) (base:Option Addr) (m:Nat) (w:Nat->Value):Prop:=m=0\/∃b o,base=some ⟨b,o,none⟩/\∀j,j<m->∃p,H.aS b (o+j)=some (w j,p)
theorem H4 {base:Option Addr} {k n cap:Nat} {len:Nat} {w:Nat->Value} (h:Reads H base (n*k) w) {K:Array Value->Γ->Prop} {E:Value->Γ->Prop} (ψ:K ((List.range (n*k)).map w).toArray H) :
  χ P (Builtin.firstCells k n (.slice base len cap)) H K E:=by
 rcases h with h|⟨b,o,rfl,h⟩
 ·rw[h] at ψ;cases base with
  | none=>exact χ.pure' ψ
  | some a=>
   show χ P (loadCells a (n*k)) H K E;rw[h];exact χ.pure' ψ
 ·exact χ.loadCells w rfl h ψ
theorem VM {b' old:Nat} (h:old<b'):Builtin.nextslicecap b' old<=2*b'+768:=by
 unfold Builtin.nextslicecap;have grow:∀r c,c<=2*b'+768->Builtin.growBy b' r c<=2*b'+768:=by
  intro r
  induction r with
  | zero=>intro c ε;exact ε
  | succ r Α=>
   intro c ε;unfold Builtin.growBy;split
   ·exact ε
   ·exact Α _ J
 split
 ·omega
 ·split
  ·omega
  ·exact grow 4 old J
def iU.isInt (i:iU):Bool:=i.bM matches .int _
def mJ (T:bk) (st xt:TypeId):Option (TypeId×Nat×iU):=match iV T st,T xt with
 | some (e,k,none),some bz=>match T e with
  | some b6=>if 0<k/\b6.zero.cells.size=k/\0<b6.bytes/\b6.bytes<=4096/\bz.isInt=false then some (e,k,b6) else none
  | none=>none
 | _,_=>none
theorem H5 (Ν:bU P T) {st xt rt e:TypeId} {k:Nat} {b6:iU} (h:mJ T st xt=some (e,k,b6)) {base AF:Option Addr} {sLen qQ n DX:Nat} {wo wn:Nat->Value} (Β:Reads H base (sLen*k) wo) (Θ:Reads H AF (n*k) wn) (Nw:sLen+n<=4294967296) {K:Value->Γ->Prop} {E:Value->Γ->Prop}
  (bd:sLen+n<=qQ->χ P (match base with|some a=>storeCells (a.add (sLen*k)) ((List.range (n*k)).map wn)|none=>pure ()) H (λ_ H'=>K (.slice base (sLen+n) qQ) H') E)
  (uS:qQ<sLen+n->∀k3,sLen+n<=k3->χ P (newObj (.cells (((List.range (sLen*k)).map wo).toArray++((List.range (n*k)).map wn).toArray++Builtin.zeroCells b6.zero.cells (k3-(sLen+n))) e)) H (λr H'=>K (.slice (some ⟨r,0,none⟩) (sLen+n) k3) H') E) :
  χ P (Builtin.append_ #[st,xt] rt #[.slice base sLen qQ,.slice AF n DX]) H K E:=by
 unfold mJ at h;split at h<;>try cases h
 rename_i aP al bz he k2;split at h<;>try cases h
 rename_i H2 eW;split at h<;>try cases h
 rename_i ε;obtain⟨U,γ,ο,Ι,ax⟩:=ε;obtain⟨i,H2,hi,hu,u3,cA⟩:=DH he;rw[eW] at u3;cases u3;unfold Builtin.append_;simp only[List.getElem?_toArray,List.getElem?_cons_zero,List.getElem?_cons_succ];refine χ.bind' (Ν.bM hi ?_);rw[hu];refine χ.bind' (Ν.size eW ?_);rw[cA];refine χ.bind' (χ.bind' (Ν.bM k2 ?_));split
 ·rename_i ψ;unfold iU.isInt at ax;rw[ψ] at ax;cases ax
 refine χ.bind' (χ.pure' ?_);simp only[Bool.false_eq_true,if_false,Bool.not_false,if_true];refine χ.bind' (χ.pure' ?_);split
 ·rename_i hle;refine χ.bind' (H4 Θ ?_);have:=bd hle;cases base with
  | none=>exact this
  | some a=>exact χ.bind' this
 ·rename_i NB;have NC:qQ<sLen+n:=J;refine χ.bind' (Ν.info eW λf Ρ=>?_);have ed:¬(((sLen+n:Nat):Int) > IntKind.i64.max/\(False\/f.bytes=0)):=by rw[Ρ];rintro⟨_,h|h⟩;exact h;omega
  simp only[ed,if_false];refine χ.bind' (Ν.info eW λf2 DY=>?_);have c1:¬(Builtin.nextslicecap (sLen+n) qQ*f2.bytes > 2 ^ 48):=by
   rw[DY];have a1:=VM NC;have bb:Builtin.nextslicecap (sLen+n) qQ*b6.bytes<=(2*(sLen+n)+768)*4096:=Nat.mul_le_mul a1 Ι;omega
  simp only[c1,if_false];refine χ.bind' ?_;show χ P (choose _) H _ E;unfold choose;simp only[χ];have Χ:(Question.appendCap (sLen+n) qQ e).forced=false:=rfl;rw[Χ];simp only[Bool.false_eq_true,if_false];intro q;refine χ.bind' (Ν.info eW λf3 H6=>?_);have fin:χ P (do
    let old <-Builtin.firstCells k sLen (.slice base sLen qQ)
    let new <-Builtin.firstCells k n (.slice AF n DX)
    let rest <-(do pure (Builtin.zeroCells (<-zeroValue e).cells ((Question.appendCap (sLen+n) qQ e).cut q-(sLen+n))):Sem (Array Value))
    pure (.slice (some (<-newRow e (old++new++rest))) (sLen+n) ((Question.appendCap (sLen+n) qQ e).cut q))) H K E:=by
   refine χ.bind' (H4 Β ?_);refine χ.bind' (H4 Θ ?_);refine χ.bind' (χ.bind' (Ν.zero eW (χ.pure' ?_)));refine χ.bind' (χ.bind' ?_);exact uS NC _ (by simp[Question.cut])
  refine χ.bind' ?_;unfold askRoom;split
  ·refine⟨rfl,?_⟩;show χ P _ H K E;simpa using fin
  ·refine χ.pure' ?_;show χ P _ H K E;simpa using fin
end
section
variable {P:Program} {T:bk} {S:aO} {B:a0} {H:Γ} {σ:ac}
def qR (σ:ac):θ->Option (Nat×am)
 | .sl _ k l=>some (k,l)
 | .ms id n i len=>match σ[id]? with
  | some (.cells _ k l)=>if l.length=n/\i+len<=n then some (k,(l.drop i).take len) else none
  | _=>none
 | _=>none
def yx (S:aO) (B:a0) (σ:ac) (w:Nat->Value) (k:Nat) (l:am):Prop:=∀(i:Nat) (e:θ),l[i]?=some e->e.cells.length=k/\∀(j:Nat) (a:θ),e.cells[j]?=some a->aA S B σ a (w (i*k+j))
theorem VN {k i j:Nat} (ζ:j<k):(i*k+j) / k=i/\(i*k+j) % k=j:=by
 have ψ:0<k:=J;refine⟨?_,?_⟩
 ·rw[Nat.add_comm,Nat.add_mul_div_right _ _ ψ,Nat.div_eq_of_lt ζ,Nat.zero_add]
 ·rw[Nat.add_comm,Nat.add_mul_mod_self_right];exact Nat.mod_eq_of_lt ζ
theorem DZ (Δ:Holds S B σ H) {a:θ} {v:Value} {k k1:Nat} {l:am} (ν:aA S B σ a v) (h:qR σ a=some (k1,l)) (ψ:0<k) (sf:l.isEmpty=true\/k1=k) :
  ∃base cap w,v=.slice base l.length cap/\l.length<=cap/\Reads H base (l.length*k) w/\yx S B σ w k l:=by
 have flat:∀(b o:Nat) (w2:Nat->Nat->Value),(∀(i:Nat) (e:θ),l[i]?=some e->e.cells.length=k)->(∀(i:Nat) (e:θ),l[i]?=some e->∀(j:Nat) (c:θ),e.cells[j]?=some c->∃p,H.aS b (o+i*k+j)=some (w2 i j,p))->
   (∀(i:Nat) (e:θ),l[i]?=some e->∀(j:Nat) (c:θ),e.cells[j]?=some c->aA S B σ c (w2 i j))->Reads H (some ⟨b,o,none⟩) (l.length*k) (λm=>w2 (m / k) (m % k))/\yx S B σ (λm=>w2 (m / k) (m % k)) k l:=by
  intro b o w2 U γ ο;refine⟨.inr ⟨b,o,rfl,λm hm=>?_⟩,λi e hi=>⟨U i e hi,λj c ζ=>?_⟩⟩
  ·have hi:m / k<l.length:=(Nat.div_lt_iff_lt_mul ψ).2 hm
   have oh:l[m / k]?=some l[m / k]:=a6 hi
   have ζ:m % k<l[m / k].cells.length:=by rw[U _ _ oh];exact Nat.mod_lt _ ψ
   obtain⟨p,ω⟩:=γ _ _ oh (m % k) _ (a6 ζ);refine⟨p,?_⟩;have:o+m=o+m / k*k+m % k:=by have:=Nat.div_add_mod m k;rw[Nat.mul_comm] at this;omega
   rw[this];exact ω
  ·have pU:j<k:=by rw[<-U i e hi];exact(b0.1 ζ).1
   obtain⟨Ζ,Ε⟩:=VN (i:=i) pU;simp only[Ζ,Ε];exact ο i e hi j c ζ
 have empty:∀(base:Option Addr) (cap:Nat),l=[]->v=.slice base 0 cap->∃base cap w,v=.slice base l.length cap/\l.length<=cap/\Reads H base (l.length*k) w/\yx S B σ w k l:=λbase cap π hv=>by
  subst π;exact⟨base,cap,λ_=>undef,hv,Nat.zero_le _,.inl η,λi e hi=>by simp at hi⟩
 unfold qR at h;split at h
 ·cases h;obtain⟨base,cap,rfl,U,_,γ⟩:=sb ν;by_cases π:l=[]
  ·exact empty base cap π (by rw[π];rfl)
  ·obtain⟨b,o,w,rfl,ο,Ι,ax⟩:=γ π;have jC:k1=k:=sf.elim (λx=>absurd (List.isEmpty_iff.1 x) π) id;subst jC;obtain⟨r1,r2⟩:=flat b o w ο (λi e hi j c ζ=>Δ.dy _ _ _ (Ι i e hi j c ζ)) ax;exact⟨_,cap,_,rfl,U,r1,r2⟩
 ·rename_i id n i len;split at h
  ·rename_i t al dp π;split at h
   ·rename_i ε;cases h;obtain⟨Θ,hlen⟩:=ε;have jI:((dp.drop i).take len).length=len:=by simp;omega
    cases ν with
    | ms cap U γ ο Ι ax bf=>
     rw[π] at U;cases U;rcases bf with bf|⟨b,N,rfl,rfl,bf⟩
     ·subst bf;have:len=0:=J;subst this;exact empty _ 0 η rfl
     ·by_cases Ψ:len=0
      ·subst Ψ;exact empty _ cap η rfl
      ·have bx:¬((dp.drop i).take len).isEmpty=true:=λx=>by
        rw[List.isEmpty_iff] at x;rw[x] at jI;simp at jI;omega
       have jC:=sf.resolve_left bx;subst jC;obtain⟨bX,cK,gE,w,hw⟩:=Δ.row id _ _ π ο;have el:∀(x:Nat) (e:θ),((dp.drop i).take len)[x]?=some e->dp[i+x]?=some e:=λx e δ=>by
        rw[List.getElem?_take] at δ;split at δ
        ·rw[List.getElem?_drop] at δ;exact δ
        ·cases δ
       obtain⟨r1,r2⟩:=flat b (i*k1) (λx j=>w (i+x) j) (λx e δ=>(hw _ e (el x e δ)).1) (λx e δ j c ζ=>⟨true,by
        have:=((hw _ e (el x e δ)).2 j c ζ).1;rw[Nat.add_mul] at this;exact this⟩) (λx e δ j c ζ=>((hw _ e (el x e δ)).2 j c ζ).2.1)
       exact⟨_,cap,_,by rw[jI],by rw[jI];exact ax,r1,r2⟩
    | jZ v U γ=>rw[π] at U;cases U;simp only[Row.hT] at γ;omega
   ·cases h
  ·cases h
 ·cases h
theorem H7 {w1 w2:Nat->Value} {k:Nat} {l1 l2:am} (U:yx S B σ w1 k l1) (γ:yx S B σ w2 k l2) (dR:l1.all (λe=>e.cells.all (θ.bl σ))=true) (iO:l2.all (λe=>e.cells.all (θ.bl σ))=true) (z:Array Value) :
  gq S B σ (((List.range (l1.length*k)).map w1).toArray++((List.range (l2.length*k)).map w2).toArray++z) k (l1++l2):=by
 have ok:∀(l:am),l.all (λe=>e.cells.all (θ.bl σ))=true->∀e∈l,∀a∈e.cells,θ.bl σ a=true:=λl h e he a ν=>List.all_eq_true.1 (List.all_eq_true.1 h e he) a ν;refine⟨by simp[Nat.add_mul],λi e hi=>?_⟩;by_cases aN:i<l1.length
 ·rw[dM aN] at hi;refine⟨(U i e hi).1,λj a ζ=>?_⟩;have pU:j<k:=by rw[<-(U i e hi).1];exact(b0.1 ζ).1
  have hb:i*k+j<l1.length*k:=by
   have:(i+1)*k<=l1.length*k:=Nat.mul_le_mul_right k aN;rw[Nat.add_mul] at this;omega
  have μ:=(U i e hi).2 j a ζ;refine⟨w1 (i*k+j),?_,μ,μ.Ay (ok l1 dR e (cy hi) a (cy ζ))⟩;rw[Array.append_assoc,Array.getElem?_append_left (by simpa using hb)];simp[hb]
 ·rw[gA J] at hi;refine⟨(γ _ e hi).1,λj a ζ=>?_⟩;have pU:j<k:=by rw[<-(γ _ e hi).1];exact(b0.1 ζ).1
  have wM:i-l1.length<l2.length:=(b0.1 hi).1
  have hb:(i-l1.length)*k+j<l2.length*k:=by
   have:(i-l1.length+1)*k<=l2.length*k:=Nat.mul_le_mul_right k wM;rw[Nat.add_mul] at this;omega
  have he:i*k+j=l1.length*k+((i-l1.length)*k+j):=by
   have:i=l1.length+(i-l1.length):=J
   conv=>lhs;rw[this,Nat.add_mul]
   omega
  have μ:=(γ _ e hi).2 j a ζ;refine⟨w2 ((i-l1.length)*k+j),?_,μ,μ.Ay (ok l2 iO e (cy hi) a (cy ζ))⟩;rw[he,Array.append_assoc,Array.getElem?_append_right η];rw[Array.getElem?_append_left (by simp;omega)];simp[hb]
def θ.mK (bl:θ->Bool) (l:am):Bool:=l.all λe=>e.cells.all bl
def tm (T:bk) (st xt:TypeId) (bl:θ->Bool) (σ:ac) (s x:θ):cB:=
 match mJ T st xt,s,qR σ x with
 | some (_,k,_),.sl true e1 l0,some (k1,l1)=>
  if(l0.isEmpty=true\/e1=k)/\(l1.isEmpty=true\/k1=k)/\θ.mK bl l0=true/\θ.mK bl l1=true then .b' (l0.length+l1.length<=4294967296) (.ok (.sl false k (l0++l1))) else .bad
 | _,_,_=>.bad
theorem VO {k e1:Nat} {l0:am} {v:Value} (h:aA S B σ (.sl true e1 l0) v) (ψ:l0.isEmpty=true\/e1=k):aA S B σ (.sl false k l0) v:=by
 by_cases π:l0=[]
 ·subst π;obtain⟨base,cap,rfl,_⟩:=sb h;exact .iT base cap η
 ·have:=ψ.resolve_left (λx=>π (List.isEmpty_iff.1 x));subst this;cases h with
  | iT=>exact absurd rfl π
  | sl b o cap w U γ ο Ι ax=>exact .sl b o cap w η γ ο Ι ax
theorem H8 {bl:θ->Bool} (o5:∀a:θ,bl a=true->a.bl σ=true) {l:am} (h:θ.mK bl l=true):l.all (λe=>e.cells.all (θ.bl σ))=true:=by
 unfold θ.mK at h;rw[List.all_eq_true] at h ⊢;intro e he;have:=h e he;rw[List.all_eq_true] at this ⊢;exact λa ν=>o5 a (this a ν)
theorem ND (Ν:bU P T) (Δ:Holds S B σ H) {bl:θ->Bool} (o5:∀a:θ,bl a=true->a.bl σ=true) (st xt rt:TypeId) {s x:θ} {u v:Value} (ξ:aA S B σ s u) (δ:aA S B σ x v) :
  cW P (Builtin.append_ #[st,xt] rt #[u,v]) S B H σ ((tm T st xt bl σ s x).dC σ):=by
 unfold tm;split
 ·rename_i e k b6 e1 l0 k1 l1 pV o6;split
  ·rename_i ε;obtain⟨c1,c2,c3,c4⟩:=ε;refine cW.b' (r:=(cB.ok (.sl false k (l0++l1))).dC σ) λqJ K κ=>?_;have ψ:0<k:=by
    unfold mJ at pV;split at pV<;>try cases pV
    split at pV<;>try cases pV
    split at pV<;>try cases pV
    rename_i h;exact h.1
   obtain⟨base,cap,w,rfl,_,r1,r2⟩:=DZ Δ ξ (k:=k) rfl ψ c1;obtain⟨AF,DX,w1,rfl,_,r3,iM⟩:=DZ Δ δ o6 ψ c2;have yu:cap=l0.length:=by
    obtain⟨ag,HS,Ζ,_,Ε,_⟩:=sb ξ;cases Ζ;exact Ε rfl
   have fin:∀aJ H' v,Holds aJ B σ H'->Ext S B H aJ B H'->b8 S aJ B B σ σ->aA aJ B σ (.sl false k (l0++l1)) v->jH S B H σ K v H':=λaJ H' v a b c d=>⟨aJ,B,σ,_,κ,b,a,c,d⟩;refine H5 Ν pV r1 r3 qJ (λbd=>?_) (λ_ k3 kD=>?_)
   ·have D1:l1=[]:=by
     cases l1 with
     | nil=>rfl
     | cons=>simp at bd;omega
    subst D1;have D2:aA S B σ (.sl false k (l0++[])) (.slice base (l0.length+([]:am).length) cap):=by
     rw[List.append_nil];exact VO ξ c1
    cases base with
    | none=>exact χ.pure' (fin S H _ Δ (.refl _ _ _) (.refl _ _ _) D2)
    | some a=>
     have Ψ:((List.range (([]:am).length*k)).map w1)=[]:=η;rw[Ψ];exact χ.pure' (fin S H _ Δ (.refl _ _ _) (.refl _ _ _) D2)
   ·refine AA Δ _ e λr U γ ο=>fin _ _ _ U γ ο ?_;have:=DN (cap:=k3) false ο (H7 r2 iM (H8 o5 c3) (H8 o5 c4) (Builtin.zeroCells b6.zero.cells (k3-(l0.length+l1.length)))) (by simpa using kD) η;rw[List.length_append] at this;exact this
  ·exact .bad
 ·exact .bad
end
section
variable {P:Program} {T:bk} {S:aO} {B:a0} {H:Γ} {σ:ac}
theorem VP {st xt e:TypeId} {k:Nat} {b6:iU} (h:mJ T st xt=some (e,k,b6)):0<k/\b6.zero.cells.size=k:=by
 unfold mJ at h;split at h<;>try cases h
 split at h<;>try cases h
 split at h<;>try cases h
 rename_i h;exact⟨h.1,h.2.1⟩
theorem D3 {α:Type} (l:List α) (x:α):(l++[x])[l.length]?=some x:=η
theorem D4 {B:a0} {σ:ac} (hlen:B.length=σ.length) (bo:Option (Nat×Nat)):(B++[bo])[σ.length]?=some bo:=by rw[<-hlen];simp
def wN (H:Γ) (bo:Option (Nat×Nat)) (m:Nat):Value:=match bo with|some (b,_)=>((H.aS b m).map (·.1)).getD undef|none=>undef
theorem NF (z:Array Value) (n:Nat):(Builtin.zeroCells z n).size=n*z.size:=by simp[Builtin.zeroCells]
def D5 (T:bk) (st xt:TypeId) (σ:ac) (s x:θ):c5:=
 match mJ T st xt,qR σ x with
 | some (e,k,_),some (k1,l1)=>
  if(l1.isEmpty=true\/k1=k)/\θ.mK (θ.bl σ) l1=true then match s with
   | .sl true _ l0=>if l0.isEmpty=true then .b' (l1.length<=4294967296) (.ok (.ms σ.length l1.length 0 l1.length) (σ++[.cells e k l1])) else .bad
   | .ms id n i len=>match σ[id]? with
    | some (.cells t al l)=>if i=0/\l.length=n/\len=n/\al=k/\t=e then .b' (n+l1.length<=4294967296) (.ok (.ms id (n+l1.length) 0 (n+l1.length)) (σ.set id (.cells t k (l++l1)))) else .bad
    | _=>.bad
   | _=>.bad
  else .bad
 | _,_=>.bad
theorem VQ (Ν:bU P T) (Δ:Holds S B σ H) (st xt rt:TypeId) {s x:θ} {u v:Value} (ξ:aA S B σ s u) (δ:aA S B σ x v) :
  cW P (Builtin.append_ #[st,xt] rt #[u,v]) S B H σ (D5 T st xt σ s x):=by
 unfold D5;split
 ·rename_i e k b6 k1 l1 pV o6;split
  ·rename_i ε;obtain⟨c2,c4⟩:=ε;obtain⟨ψ,sd⟩:=VP pV;obtain⟨AF,DX,w1,rfl,_,r3,iM⟩:=DZ Δ δ o6 ψ c2;have H9:=H8 (σ:=σ) (λa h=>h) c4;split
   ·rename_i e1 l0;split
    ·rename_i he;have yy:l0=[]:=List.isEmpty_iff.1 he;subst yy;refine .b' λqJ K κ=>?_;obtain⟨base,cap,rfl,_,yu,_⟩:=sb ξ;have VR:cap=0:=yu rfl;subst VR;refine H5 Ν pV (sLen:=0) (wo:=λ_=>undef) (.inl η) r3 J (λbd=>?_) (λ_ k3 kD=>?_)
     ·have D1:l1=[]:=by
       cases l1 with
       | nil=>rfl
       | cons=>simp at bd
      subst D1;obtain⟨dz,p2,p3⟩:=Δ.push (H':=H) (r:=.cells e k []) (bo:=none) (λb N e=>by cases e) (λb _=>⟨λ_=>rfl,rfl,rfl⟩) (λ_=>rfl);have fin:jH S B H σ K (.slice base (([]:am).length+([]:am).length) 0) H:=⟨S,_,_,_,κ,p2,dz,p3,.ms 0 (D3 σ _) rfl (D4 Δ.len _) η (Nat.le_refl _) (.inl rfl)⟩;cases base with
      | none=>exact χ.pure' fin
      | some a=>
       have Ψ:((List.range (([]:am).length*k)).map w1)=[]:=η;rw[Ψ];exact χ.pure' fin
     ·have π:gq S B σ (((List.range (0*k)).map λ_=>undef).toArray++((List.range (l1.length*k)).map w1).toArray++Builtin.zeroCells b6.zero.cells (k3-(0+l1.length))) k ([]++l1):=
       H7 (l1:=[]) (λi e hi=>by simp at hi) iM η H9 _
      rw[List.nil_append] at π;refine Az Δ π e λr _ U γ ο=>⟨_,_,_,_,κ,γ,U,ο,?_⟩;simp only[List.length_nil,Nat.zero_add];refine .ms k3 (D3 σ _) rfl (D4 Δ.len _) J (by simpa using kD) (.inr ⟨r,_,rfl,η,?_⟩);simp only[Nat.zero_add,Array.size_append,List.size_toArray,List.length_map,List.length_range,NF,sd,Nat.zero_mul];rw[<-Nat.add_mul];have:l1.length+(k3-l1.length)=k3:=by simp at kD;omega
      rw[this];exact Nat.le_refl _
    ·exact .bad
   ·rename_i id n i len;split
    ·rename_i t al l π;split
     ·rename_i lZ;obtain⟨lS,Θ,hlen,sf,VS⟩:=lZ;subst lS;subst hlen;subst sf;subst VS;refine .b' λqJ K κ=>?_;cases ξ with
      | @ms _ _ _ _ _ _ _ bo base cap U γ ο Ι ax bf=>
       rw[π] at U;cases U;have cv:=Δ.row id _ bo π ο;have Ia:Reads H base (len*al) (wN H bo):=by
        rcases bf with bf|⟨b,N,rfl,rfl,bf⟩
        ·exact .inl (by rw[show len=0 from J];simp)
        ·refine .inr ⟨b,0,η,λj ζ=>⟨true,?_⟩⟩;obtain⟨w,hw⟩:=cv.2.2.1 j (by have:=cv.2.1;rw[Θ] at this;omega);rw[Nat.zero_add];simp[hw,wN]
       have same:l1=[]->jH S B H σ K (.slice base (len+l1.length) cap) H:=λcu=>by
        subst cu;have cb:id<σ.length:=(b0.1 π).1;have u4:σ.set id (.cells t al (l++[]))=σ:=by
         rw[List.append_nil];apply List.ext_getElem?;intro j;by_cases k0:id=j
         ·subst k0;rw[List.getElem?_set_self cb,π]
         ·rw[List.getElem?_set_ne k0]
        rw[u4] at κ;exact⟨S,B,σ,_,κ,.refl _ _ _,Δ,.refl _ _ _,.ms cap π Θ ο η ax bf⟩
       have cb:id<σ.length:=(b0.1 π).1
       have pR:id<B.length:=by rw[Δ.len];exact cb
       refine H5 Ν pV Ia r3 qJ (λbd=>?_) (λNB k3 kD=>?_)
       ·by_cases cu:l1=[]
        ·have:=same cu;subst cu;cases base with
         | none=>exact χ.pure' this
         | some a=>
          have Ψ:((List.range (([]:am).length*al)).map w1)=[]:=η;rw[Ψ];exact χ.pure' this
        ·have qS:0<l1.length:=List.length_pos_iff.2 cu;rcases bf with bf|⟨b,N,rfl,rfl,bf⟩
         ·omega
         ·obtain⟨bX,cK,gE,w,hw⟩:=cv;have VT:(len+l1.length)*al<=N:=by
           have:(len+l1.length)*al<=(0+cap)*al:=Nat.mul_le_mul_right _ J;omega
          rw[Nat.add_mul] at VT;have VU:(⟨b,0*al,none⟩:Addr).add (len*al)=⟨b,len*al,none⟩:=by rw[uZ];simp
          have NG:((List.range (l1.length*al)).map w1).length=l1.length*al:=η
          have iW:∀j,j<l1.length*al->((List.range (l1.length*al)).map w1)[j]?=some (w1 j):=λj ζ=>by simp[ζ]
          have NH:∀(i:Nat) (e:θ) (j:Nat) (a:θ),l1[i]?=some e->e.cells[j]?=some a->One (w1 (i*al+j)):=λi e j a hi ζ=>
           ((iM i e hi).2 j a ζ).Ay (List.all_eq_true.1 (List.all_eq_true.1 H9 e (cy hi)) a (cy ζ))
          have VV:∀v∈(List.range (l1.length*al)).map w1,One v:=λv hv=>by
           obtain⟨m,hm,rfl⟩:=List.mem_map.1 hv;have dx:m<l1.length*al:=by simpa using hm
           have hi:m / al<l1.length:=(Nat.div_lt_iff_lt_mul ψ).2 dx
           have oh:=a6 hi
           have ζ:m % al<l1[m / al].cells.length:=by rw[(iM _ _ oh).1];exact Nat.mod_lt _ ψ
           have:=NH _ _ _ _ oh (a6 ζ)
           have Ζ:m / al*al+m % al=m:=by have:=Nat.div_add_mod m al;rw[Nat.mul_comm] at this;exact this
           rw[Ζ] at this;exact this
          have Ah:b8 S S B (B.set id (some (b,N))) σ (σ.set id (.cells t al (l++l1)))->kC S (B.set id (some (b,N))) (σ.set id (.cells t al (l++l1))) (H.h' b (len*al) ((List.range (l1.length*al)).map w1)) (.cells t al (l++l1)) (some (b,N)):=λlQ=>by
           refine⟨bX,by simp[Nat.add_mul,Θ];omega,λo Β=>?_,λi j=>if i<len then w i j else w1 ((i-len)*al+j),λi e hi=>?_⟩
           ·simp only[Γ.h'];split
            ·exact⟨_,rfl⟩
            ·exact gE o Β
           ·by_cases aN:i<l.length
            ·rw[dM aN] at hi;refine⟨(hw i e hi).1,λj a ζ=>?_⟩;obtain⟨aa,ai,aZ⟩:=(hw i e hi).2 j a ζ;have pU:j<al:=by rw[<-(hw i e hi).1];exact(b0.1 ζ).1
             have hb:i*al+j<len*al:=by
              have:(i+1)*al<=len*al:=Nat.mul_le_mul_right al J;rw[Nat.add_mul] at this;omega
             simp only[show i<len by omega,if_true];refine⟨?_,ai.later lQ,aZ⟩;simp only[Γ.h'];rw[if_neg J];exact aa
            ·rw[gA J,Θ] at hi;refine⟨(iM _ e hi).1,λj a ζ=>?_⟩;have pU:j<al:=by rw[<-(iM _ e hi).1];exact(b0.1 ζ).1
             have wM:i-len<l1.length:=(b0.1 hi).1
             have hb:(i-len)*al+j<l1.length*al:=by
              have:(i-len+1)*al<=l1.length*al:=Nat.mul_le_mul_right al wM;rw[Nat.add_mul] at this;omega
             have he:i*al+j=len*al+((i-len)*al+j):=by
              have:i=len+(i-len):=J
              conv=>lhs;rw[this,Nat.add_mul]
              omega
             simp only[show ¬i<len by omega,if_false];refine⟨?_,((iM _ e hi).2 j a ζ).later lQ,NH _ e j a hi ζ⟩;simp only[Γ.h',NG];rw[if_pos ⟨trivial,J,J⟩];have:i*al+j-len*al=(i-len)*al+j:=J;rw[this,iW _ hb];rfl
          obtain⟨dz,p2,p3⟩:=Δ.yo (H':=H.h' b (len*al) ((List.range (l1.length*al)).map w1)) (r':=.cells t al (l++l1)) (bo':=some (b,N)) π trivial ο (.inr λm hm=>by simp only[Row.hT,List.length_append];omega) (λag fp aP=>.inl ⟨fp,aP⟩)
           (λag U _=>by
            have bx:ag≠b:=λaP=>by subst aP;exact U N rfl
            exact⟨λo=>by simp[Γ.h',bx],rfl,rfl⟩) Γ.HP (DJ Δ π) Ah
          show χ P (storeCells ((⟨b,0*al,none⟩:Addr).add (len*al)) _) H _ _;rw[VU];refine χ.storeCells (G:=H) rfl ⟨t,N,bX⟩ _ 0 H VV (λj _ ζ=>?_) rfl ?_
          ·rw[NG] at ζ;obtain⟨u,hu⟩:=gE (len*al+j) J;exact⟨u,hu⟩
          ·refine⟨S,_,_,_,κ,p2,dz,p3,.ms cap (by rw[List.getElem?_set_self cb]) (by simp[Θ]) (by rw[List.getElem?_set_self pR]) J bd (.inr ⟨b,N,rfl,rfl,bf⟩)⟩
       ·have cu:l1≠[]:=by rintro rfl;simp at NB;omega
        have qS:0<l1.length:=List.length_pos_iff.2 cu
        have Ib:yx S B σ (wN H bo) al l:=λi e hi=>by
         cases bo with
         | none=>have:l=[]:=cv
                 rw[this] at hi;simp at hi
         | some x=>
          obtain⟨b,N⟩:=x;obtain⟨_,_,_,w,hw⟩:=cv;refine⟨(hw i e hi).1,λj a ζ=>?_⟩;obtain⟨aa,ai,_⟩:=(hw i e hi).2 j a ζ;simp only[wN,aa];exact ai
        have AG:gq S B σ (((List.range (len*al)).map (wN H bo)).toArray++((List.range (l1.length*al)).map w1).toArray++Builtin.zeroCells b6.zero.cells (k3-(len+l1.length))) al (l++l1):=by
         refine⟨by simp[Nat.add_mul,Θ],λi e hi=>?_⟩;by_cases aN:i<l.length
         ·rw[dM aN] at hi;refine⟨(Ib i e hi).1,λj a ζ=>?_⟩;have pU:j<al:=by rw[<-(Ib i e hi).1];exact(b0.1 ζ).1
          have hb:i*al+j<len*al:=by
           have:(i+1)*al<=len*al:=Nat.mul_le_mul_right al J;rw[Nat.add_mul] at this;omega
          refine⟨_,?_,(Ib i e hi).2 j a ζ,?_⟩
          ·rw[Array.append_assoc,Array.getElem?_append_left (by simpa using hb)];simp[hb]
          ·cases bo with
           | none=>have:l=[]:=cv
                   rw[this] at aN;simp at aN
           | some x=>
            obtain⟨b,N⟩:=x;obtain⟨_,_,_,w,hw⟩:=cv;obtain⟨aa,ai,aZ⟩:=(hw i e hi).2 j a ζ;simp only[wN,aa];exact aZ
         ·rw[gA J,Θ] at hi;have:=H7 (l1:=[]) (w1:=λ_=>undef) (k:=al) (λi e hi=>by simp at hi) iM η H9 (Builtin.zeroCells b6.zero.cells (k3-(len+l1.length)));obtain⟨e2,dq⟩:=this.2 (i-len) e (by simpa using hi);refine⟨e2,λj a ζ=>?_⟩;obtain⟨x,hU,u5,u6⟩:=dq j a ζ;have pU:j<al:=by rw[<-e2];exact(b0.1 ζ).1
          have he:i*al+j=len*al+((i-len)*al+j):=by
           have:i=len+(i-len):=J
           conv=>lhs;rw[this,Nat.add_mul]
           omega
          refine⟨x,?_,u5,u6⟩;rw[he,Array.append_assoc,Array.getElem?_append_right η];simpa using hU
        refine⟨rfl,λr μ=>?_⟩;generalize VW:(((List.range (len*al)).map (wN H bo)).toArray++((List.range (l1.length*al)).map w1).toArray++Builtin.zeroCells b6.zero.cells (k3-(len+l1.length)))=c at AG;have VX:k3*al<=c.size:=by
         rw[<-VW];simp only[Array.size_append,List.size_toArray,List.length_map,List.length_range,NF,sd];rw[<-Nat.add_mul,<-Nat.add_mul];have:len+l1.length+(k3-(len+l1.length))=k3:=J;rw[this];exact Nat.le_refl _
        obtain⟨dz,p2,p3⟩:=Δ.yo (H':=H.dS r c t) (r':=.cells t al (l++l1)) (bo':=some (r,c.size)) π trivial ο (.inr λm hm=>by simp only[Row.hT,List.length_append];omega) (λag fp aP=>.inr (by cases aP;exact μ))
         (λag _ γ=>by
          have bx:ag≠r:=λaP=>by subst aP;exact γ _ rfl
          exact⟨λo=>by simp[Γ.dS,bx],by simp[Γ.dS,bx],rfl⟩) (Γ.M7 μ c t) (DJ Δ π) (λlQ=>by
          have a2:=AG.later lQ;refine⟨by simp[Γ.dS],AG.1,λo Β=>⟨c[o],by simp[Γ.dS,Β]⟩,λi j=>(c[i*al+j]?).getD undef,λi e hi=>⟨(a2.2 i e hi).1,λj a ζ=>?_⟩⟩;obtain⟨x,Ζ,Ε,a8⟩:=(a2.2 i e hi).2 j a ζ;simp only[Ζ,Option.getD_some];exact⟨by simp[Γ.dS,Ζ],Ε,a8⟩)
        exact⟨S,_,_,_,κ,p2,dz,p3,.ms k3 (by rw[List.getElem?_set_self cb]) (by simp[Θ]) (by rw[List.getElem?_set_self pR]) J J (.inr ⟨r,c.size,rfl,η,by simpa using VX⟩)⟩
      | jZ v U γ=>rw[π] at U;cases U;simp only[Row.hT] at γ;omega
     ·exact .bad
    ·exact .bad
   ·exact .bad
  ·exact .bad
 ·exact .bad
end
section
variable {P:Program} {T:bk} {S:aO} {B:a0} {H:Γ} {σ:ac}
def qT (o:Option θ) (d:Int):Option Int:=match o with
 | none=>some d
 | some (.z (.int _ n))=>some n
 | _=>none
def wO (S:aO) (B:a0) (σ:ac):Option θ->Option Value->Prop
 | none,none=>True
 | some a,some v=>aA S B σ a v
 | _,_=>False
theorem NI {k:IntKind} {n:Int} {y:Nat} {code:BoundsCode} (h:0<=n/\n<=y) {G:Γ} {K:Nat->Γ->Prop} {E:Value->Γ->Prop} (ψ:K n.toNat G):χ P (Instr.sliceBound (.int k n) y code) G K E:=by
 unfold Instr.sliceBound;refine χ.bind' (χ.pure' ?_);simp only[h,and_self,if_true];exact χ.pure' ψ
theorem D6 {isSlice:Bool} {len cap:Nat} {lo hi:Option θ} {lv hv:Option Value} (hB:wO S B σ lo lv) (pT:wO S B σ hi hv) {a b:Int} (ν:qT lo 0=some a) (hb:qT hi len=some b) (h:0<=a/\a<=b/\b<=cap) {G:Γ} {K:Nat×Nat×Nat->Γ->Prop} {E:Value->Γ->Prop}
  (ψ:K (a.toNat,b.toNat,cap) G):χ P (Instr.sliceBounds isSlice len cap lv hv none) G K E:=by
 unfold Instr.sliceBounds;refine χ.bind' (χ.pure' ?_);have low:∀(n:Nat),b.toNat=n->χ P (match lv with|some v=>Instr.sliceBound v n (if(none:Option Value).isSome then .slice3C else .sliceB)|none=>pure 0) G (λl G'=>χ P (pure (l,n,cap)) G' K E) E:=λn Θ=>by
  subst Θ;cases lo with
  | none=>
   cases lv with
   | some v=>exact hB.elim
   | none=>cases ν;exact χ.pure' (χ.pure' ψ)
  | some x=>
   cases lv with
   | none=>exact hB.elim
   | some v=>
    unfold qT at ν;split at ν
    ·rename_i e;cases e
    ·rename_i k n e;cases e;cases ν;cases hB;exact NI J (χ.pure' ψ)
    ·cases ν
 cases hi with
 | none=>
  cases hv with
  | some v=>exact pT.elim
  | none=>
   cases hb;refine χ.bind' (χ.pure' ?_);have:=low len η;cases lv with
   | none=>exact χ.bind' this
   | some v=>exact χ.bind' this
 | some x=>
  cases hv with
  | none=>exact pT.elim
  | some v=>
   unfold qT at hb;split at hb
   ·rename_i e;cases e
   ·rename_i k n e;cases e;cases hb;cases pT;refine χ.bind' (NI J ?_);have:=low _ rfl;cases lv with
    | none=>exact χ.bind' this
    | some v=>exact χ.bind' this
   ·cases hb
def D7 (T:bk) (ty:TypeId) (x:θ) (lo hi:Option θ):cB:=match T ty with
 | some i=>match i.bM,x with
  | .string,.z (.string s)=>match qT lo 0,qT hi s.size with
   | some a,some b=>.b' (0<=a/\a<=b/\b<=s.size) (.ok (.z (.string (s.extract a.toNat b.toNat))))
   | _,_=>.bad
  | .slice e,.sl ex k l=>match T e,qT lo 0,qT hi l.length with
   | some b6,some a,some b=>if l.isEmpty=true\/k=b6.size then .b' (0<=a/\a<=b/\b<=l.length) (.ok (.sl (ex&&hi.isNone) k ((l.take b.toNat).drop a.toNat))) else .bad
   | _,_,_=>.bad
  | .array n e,.au cells=>match T e with
   | some b6=>if b6.size=1/\b6.agg=false/\n<=cells.length/\0<n/\lo.isNone/\hi.isNone/\(cells.take n).all (λc=>decide (c.cells.length=1)&&θ.bl [] c) then .ok (.sl true 1 (cells.take n)) else .bad
   | none=>.bad
  | _,_=>.bad
 | none=>.bad
def D8 (T:bk) (ty:TypeId) (σ:ac) (x:θ) (lo hi:Option θ):c5:=match T ty with
 | some i=>match i.bM,x with
  | .slice e,.ms id n i len=>match T e,σ[id]?,qT lo 0,qT hi len with
   | some b6,some (.cells _ k l),some a,some b=>if k=b6.size/\l.length=n then .b' (0<=a/\a<=b/\b<=len) (.ok (.ms id n (i+a.toNat) (b.toNat-a.toNat)) σ) else .bad
   | _,_,_,_=>.bad
  | _,_=>.bad
 | none=>.bad
theorem VY {ex:Bool} {k:Nat} {l:am} {base:Option Addr} {len cap:Nat} (h:aA S B σ (.sl ex k l) (.slice base len cap)) {a b size:Nat} (e':a<=b) (hb:b<=l.length) (ψ:l.isEmpty=true\/k=size) (Ic:Bool) (hex:Ic=true->ex=true/\b=l.length) :
  aA S B σ (.sl Ic k ((l.take b).drop a)) (.slice (if cap=a then base else base.map (·.add (a*size))) (b-a) (cap-a)):=by
 obtain⟨Vx,HS,e,U,γ,ο⟩:=sb h;cases e;have hlen:((l.take b).drop a).length=b-a:=by simp;omega
 by_cases Ψ:(l.take b).drop a=[]
 ·rw[Ψ] at hlen ⊢;have:b-a=0:=by simpa using hlen.symm
  rw[this];refine .iT _ _ λhe=>?_;obtain⟨Ζ,Ε⟩:=hex he;have:=γ Ζ;omega
 ·have π:l≠[]:=by rintro rfl;simp at Ψ
  obtain⟨df,o,w,rfl,Ι,ax,bf⟩:=ο π;have h7:k=size:=ψ.resolve_left λx=>π (List.isEmpty_iff.1 x);subst h7;have oj:a<b:=by
   apply Classical.byContradiction;intro Θ;apply Ψ;have:b-a=0:=J;rw[this] at hlen;exact dO.1 hlen
  rw[if_neg J];simp only[Option.map_some,uZ];have el:∀(i:Nat) (e:θ),((l.take b).drop a)[i]?=some e->l[a+i]?=some e:=λi e hi=>by
   rw[List.getElem?_drop,List.getElem?_take] at hi;split at hi
   ·exact hi
   ·cases hi
  have hle:((l.take b).drop a).length<=cap-a:=by rw[hlen];omega
  have:=aA.sl (S:=S) (B:=B) (σ:=σ) (ex:=Ic) (k:=k) (l:=(l.take b).drop a) df (o+a*k) (cap-a) (λi j=>w (a+i) j) (λhe=>by obtain⟨Ζ,Ε⟩:=hex he;have:=γ Ζ;omega) hle
   (λi e hi=>Ι _ e (el i e hi)) (λi e hi j c ζ=>by have:=ax _ e (el i e hi) j c ζ;rw[Nat.add_mul] at this;rw[Nat.add_assoc o];exact this) (λi e hi j c ζ=>bf _ e (el i e hi) j c ζ)
  rw[hlen] at this;exact this
theorem VZ (Ν:bU P T) (Δ:Holds S B σ H) (ty:TypeId) {x:θ} {v:Value} (δ:aA S B σ x v) {lo hi:Option θ} {lv hv:Option Value} (hB:wO S B σ lo lv) (pT:wO S B σ hi hv) :
  cW P (Instr.sliceAt ty v lv hv none) S B H σ ((D7 T ty x lo hi).dC σ):=by
 unfold D7;cases aH:T ty with
 | none=>exact .bad
 | some i=>
  simp only;split
  ·rename_i s hu;cases δ;split
   ·rename_i a b ν hb;refine cW.b' (r:=(cB.ok (.z (.string (s.extract a.toNat b.toNat)))).dC σ) λh K κ=>?_;unfold Instr.sliceAt;refine χ.bind' (Ν.bM aH ?_);rw[hu];simp only;unfold Instr.slice;refine χ.bind' (Ν.bM aH ?_);rw[hu];simp only[Option.isSome_none,Bool.false_eq_true,if_false];refine χ.bind' (D6 hB pT ν hb h ?_);exact χ.pure' (.same Δ κ (.z _))
   ·exact .bad
  ·rename_i e ex k l hu;split
   ·rename_i b6 a b eW ν hb;split
    ·rename_i ψ;refine cW.b' (r:=(cB.ok (.sl (ex&&hi.isNone) k ((l.take b.toNat).drop a.toNat))).dC σ) λh K κ=>?_;obtain⟨base,cap,rfl,U,γ,_⟩:=sb δ;unfold Instr.sliceAt;refine χ.bind' (Ν.bM aH ?_);rw[hu];simp only;unfold Instr.slice;refine χ.bind' (Ν.bM aH ?_);rw[hu];simp only;refine χ.bind' (D6 hB pT ν hb J ?_);simp only;refine χ.bind' (Ν.size eW ?_);refine χ.pure' (.same Δ κ (VY δ J J ψ _ λhe=>?_));simp only[Bool.and_eq_true] at he;refine⟨he.1,?_⟩;cases hi with
     | none=>cases hb;simp
     | some=>simp at he
    ·exact .bad
   ·exact .bad
  ·rename_i n e cells hu;split
   ·rename_i b6 eW;split
    ·rename_i ε;obtain⟨c1,c2,c3,c4,kE,nA,mL⟩:=ε;intro K κ;cases δ with
     | au b o w U γ=>
      cases lo with
      | some=>simp at kE
      | none=>
       cases hi with
       | some=>simp at nA
       | none=>
        cases lv with
        | some=>exact hB.elim
        | none=>
         cases hv with
         | some=>exact pT.elim
         | none=>
          unfold Instr.sliceAt;refine χ.bind' (Ν.bM aH ?_);rw[hu];simp only;refine χ.bind' (χ.pure' ?_);refine χ.bind' (D6 (S:=S) (B:=B) (σ:=σ) (lo:=none) (hi:=none) (lv:=none) (hv:=none) trivial trivial (a:=0) (b:=n) rfl rfl J ?_);simp only[Int.toNat_natCast];refine χ.bind' (Ν.size eW ?_);rw[c1];refine χ.pure' (.same Δ κ ?_);have iB:(0:Int).toNat=0:=rfl;rw[iB,if_neg J,uZ];simp only[Nat.zero_mul,Nat.add_zero,Nat.sub_zero];have hlen:(cells.take n).length=n:=by simp;omega
          rw[List.all_eq_true] at mL;have el:∀(i:Nat) (e:θ),(cells.take n)[i]?=some e->cells[i]?=some e/\e.cells=[e]:=λi e hi=>by
           have hm:=mL e (cy hi);simp only[Bool.and_eq_true] at hm;rw[List.getElem?_take] at hi;split at hi
           ·exact⟨hi,θ.HU hm.2⟩
           ·cases hi
          have:=aA.sl (S:=S) (B:=B) (σ:=σ) (ex:=true) (k:=1) (l:=cells.take n) b o n (λi _=>w i) (λ_=>hlen.symm) J (λi e hi=>by rw[(el i e hi).2];rfl)
           (λi e hi j c ζ=>by
            rw[(el i e hi).2] at ζ
            match j with
            | 0=>simp at ζ;subst ζ;have:=U i _ (el i _ hi).1;simpa using this
            | j+1=>simp at ζ) (λi e hi j c ζ=>by
            rw[(el i e hi).2] at ζ
            match j with
            | 0=>simp at ζ;subst ζ;exact γ i _ (el i _ hi).1
            | j+1=>simp at ζ)
          rw[hlen] at this;exact this
    ·exact .bad
   ·exact .bad
  ·exact .bad
theorem V0 (Ν:bU P T) (Δ:Holds S B σ H) (ty:TypeId) {x:θ} {v:Value} (δ:aA S B σ x v) {lo hi:Option θ} {lv hv:Option Value} (hB:wO S B σ lo lv) (pT:wO S B σ hi hv) :
  cW P (Instr.sliceAt ty v lv hv none) S B H σ (D8 T ty σ x lo hi):=by
 unfold D8;cases aH:T ty with
 | none=>exact .bad
 | some lX=>
  simp only;split
  ·rename_i e id n i len hu;split
   ·rename_i b6 t k l a b eW π ν hb;split
    ·rename_i ε;obtain⟨ψ,Θ⟩:=ε;refine .b' λh K κ=>?_;cases δ with
     | ms cap U γ ο Ι ax bf=>
      rw[π] at U;cases U;unfold Instr.sliceAt;refine χ.bind' (Ν.bM aH ?_);rw[hu];simp only;unfold Instr.slice;refine χ.bind' (Ν.bM aH ?_);rw[hu];simp only;refine χ.bind' (D6 hB pT ν hb J ?_);simp only;refine χ.bind' (Ν.size eW ?_);refine χ.pure' (.same Δ κ (.ms (cap-a.toNat) π Θ ο J J ?_));by_cases ε:cap=a.toNat
      ·exact .inl J
      ·rcases bf with bf|⟨df,N,rfl,rfl,bf⟩
       ·exact .inl J
       ·refine .inr ⟨df,N,rfl,?_,?_⟩
        ·rw[if_neg ε];simp only[Option.map_some,uZ,ψ,Nat.add_mul]
        ·have:i+a.toNat+(cap-a.toNat)=i+cap:=J
         rw[this];exact bf
     | jZ v U γ=>rw[π] at U;cases U;simp only[Row.hT] at γ;omega
    ·exact .bad
   ·exact .bad
  ·exact .bad
def D9 (T:bk) (ty:TypeId) (x:θ):cB:=match T ty with
 | some i=>match i.bM,x with
  | .string,.z (.string s)=>.ok (.z (.int .i64 s.size))
  | .slice _,.sl _ _ l=>.ok (.z (.int .i64 l.length))
  | .array n _,_=>.ok (.z (.int .i64 n))
  | _,_=>.bad
 | none=>.bad
def D' (T:bk) (ty:TypeId) (σ:ac) (x:θ):c5:=match T ty with
 | some i=>match i.bM,x with
  | .slice _,.ms id n _ len=>match σ[id]? with
   | some (.cells _ _ l)=>if l.length=n then .ok (.z (.int .i64 len)) σ else .bad
   | _=>.bad
  | _,_=>.bad
 | none=>.bad
theorem V1 (Ν:bU P T) (Δ:Holds S B σ H) (ty rt:TypeId) {x:θ} {v:Value} (δ:aA S B σ x v):cW P (Builtin.len_ #[ty] rt #[v]) S B H σ ((D9 T ty x).dC σ):=by
 unfold D9;cases hi:T ty with
 | none=>exact .bad
 | some i=>
  simp only;have go:∀(K:θ->ac->Prop) (n:Int),K (.z (.int .i64 n)) σ->χ P (pure (goInt n):Sem Value) H (jH S B H σ K) (λ_ _=>False):=λK n κ=>χ.pure' (.same Δ κ (.z _));split
  ·rename_i s hu;cases δ;intro K κ;unfold Builtin.len_;refine χ.bind' (Ν.bM hi ?_);rw[hu];exact go K _ κ
  ·rename_i e ex k l hu;obtain⟨base,cap,rfl,_⟩:=sb δ;intro K κ;unfold Builtin.len_;refine χ.bind' (Ν.bM hi ?_);rw[hu];exact go K _ κ
  ·rename_i n e hu;intro K κ;unfold Builtin.len_;refine χ.bind' (Ν.bM hi ?_);rw[hu];cases v<;>exact go K _ κ
  ·exact .bad
theorem V2 (Ν:bU P T) (Δ:Holds S B σ H) (ty rt:TypeId) {x:θ} {v:Value} (δ:aA S B σ x v):cW P (Builtin.len_ #[ty] rt #[v]) S B H σ (D' T ty σ x):=by
 unfold D';cases hi:T ty with
 | none=>exact .bad
 | some i=>
  simp only;split
  ·rename_i e id n j len hu;split
   ·rename_i t k l π;split
    ·rename_i Θ;intro K κ;cases δ with
     | ms cap U γ ο Ι ax bf=>
      unfold Builtin.len_;refine χ.bind' (Ν.bM hi ?_);rw[hu];exact χ.pure' (.same Δ κ (.z _))
     | jZ v U γ=>rw[π] at U;cases U;simp only[Row.hT] at γ;omega
    ·exact .bad
   ·exact .bad
  ·exact .bad
def yz (T:bk) (src dst:TypeId) (x:θ):cB:=match T src,T dst with
 | some _,some j=>match j.bM,x with
  | .int k,.z (.int _ n)=>.ok (.z (.int k (k.wrap n)))
  | _,_=>.bad
 | _,_=>.bad
theorem V3 (Ν:bU P T) (Δ:Holds S B σ H) (src dst:TypeId) {x:θ} {v:Value} (δ:aA S B σ x v):cW P (convert src dst v) S B H σ ((yz T src dst x).dC σ):=by
 unfold yz;split
 ·rename_i i j hi ζ;split
  ·rename_i k kk n hu;cases δ;intro K κ;unfold convert;refine χ.bind' (Ν.bM hi (χ.bind' (Ν.bM ζ ?_)));rw[hu];exact χ.pure' (.same Δ κ (.z _))
  ·exact .bad
 ·exact .bad
def Ea (l:am):cB:=match l with
 | [.z (.int k x),.z (.int _ y)]=>.ok (.z (.int k (if y > x then y else x)))
 | _=>.bad
theorem V4 (Δ:Holds S B σ H) (eu:Array TypeId) (rt:TypeId) {a b:θ} {u v:Value} (ν:aA S B σ a u) (hb:aA S B σ b v):cW P (Builtin.max_ eu rt #[u,v]) S B H σ ((Ea [a,b]).dC σ):=by
 unfold Ea;split
 ·rename_i k x kk y e;simp at e;obtain⟨rfl,rfl⟩:=e;cases ν;cases hb;intro K κ;exact χ.pure' (.same Δ κ (.z _))
 ·exact .bad
end
def nB (d:TypeDesc) (x y:Value):Option Bool:=match d,x,y with
 | .int _,.int k a,.int al b=>if k=al then some (a==b) else none
 | .string,.string a,.string b=>some (a==b)
 | .bool,.bool a,.bool b=>some (a==b)
 | _,_,_=>none
def kF:List (TypeDesc×Nat)->am->am->Option Bool
 | [],_,_=>some true
 |(d,o)::r,xs,cQ=>match xs[o]?,cQ[o]? with
  | some (.z x),some (.z y)=>match nB d x y,kF r xs cQ with
   | some b,some c=>some (b&&c)
   | _,_=>none
  | _,_=>none
def aeqv (T:bk) (ty:TypeId) (a b:θ):Option Bool:=match T ty with
 | some i=>match a,b with
  | .z x,.z y=>if jG i.bM then nB i.bM x y else none
  | .a3 xs,.a3 cQ=>match i.eqs with|some items=>if xs.length=items.length/\cQ.length=items.length then kF items xs cQ else none|none=>none
  | _,_=>none
 | none=>none
section
variable {P:Program} {T:bk} {S:aO} {B:a0} {H:Γ} {σ:ac}
theorem χ.forIn_nil {α β:Type} {init:β} {f:α->β->Sem (ForInStep β)} {G:Γ} {K:β->Γ->Prop} {E:Value->Γ->Prop} (h:K init G):χ P (forIn ([]:List α) init f) G K E:=by
 rw[List.forIn_nil];exact h
theorem χ.forIn_cons {α β:Type} {a:α} {l:List α} {init:β} {f:α->β->Sem (ForInStep β)} {G:Γ} {K:β->Γ->Prop} {E:Value->Γ->Prop}
  (h:χ P (f a init) G (λr G'=>match r with|.done b=>K b G'|.yield b=>χ P (forIn l b f) G' K E) E):χ P (forIn (a::l) init f) G K E:=by
 rw[List.forIn_cons];refine χ.bind' (χ.mono (λr G' μ=>?_) (λ_ _ h=>h) _ h);cases r with
 | done b=>exact χ.pure' μ
 | yield b=>exact μ
theorem forIn_range {β:Type} (m:Nat) (init:β) (f:Nat->β->Sem (ForInStep β)):forIn [:m] init f=forIn (List.range m) init f:=by
 rw[Std.Legacy.Range.forIn_eq_forIn_range'];simp[Std.Legacy.Range.size,List.range_eq_range']
theorem Ie {ty:TypeId} {d:TypeDesc} (hd:P.underlying ty=some d) (ξ:jG d=true) {x y:Value} {b:Bool} (h:nB d x y=some b) {n:Nat} {G:Γ} {K:Bool->Γ->Prop} {E:Value->Γ->Prop} (ψ:K b G):χ P (Op.equalIn (n+1) ty x y) G K E:=by
 unfold Op.equalIn;refine χ.bind' (χ.underlying hd ?_);unfold nB at h;split at h
 ·split at h
  ·rename_i e;subst e;cases h;simp only[if_true];exact χ.pure' ψ
  ·cases h
 ·cases h;exact χ.pure' ψ
 ·cases h;exact χ.pure' ψ
 ·cases h
def Ig (xs:am) (vs:Array Value):Prop:=∀(o:Nat) (v:Value),xs[o]?=some (θ.z v)->vs[o]?=some v
theorem AH {xs:am} {vs:Array Value} (h:aA S B σ (.a3 xs) (.agg vs)):Ig xs vs:=λo v hv=>by
 cases h with
 | a3 _ aa ai=>
  have aN:o<vs.size:=by rw[<-aa];exact(b0.1 hv).1
  have δ:=fw aN
  have:=ai o _ _ hv δ;generalize vs[o]=u at this δ;cases this;exact δ
theorem AI {ty:TypeId} {d:TypeDesc} (hd:P.underlying ty=some d) (ξ:jG d=true) {vs:Array Value} {o:Nat} {v:Value} (hv:vs[o]?=some v) {G:Γ} {K:Value->Γ->Prop} {E:Value->Γ->Prop} (ψ:K v G):χ P (part ty vs o) G K E:=by
 unfold part;refine χ.bind' (χ.isAgg hd ?_);have:mG d=false:=by cases d<;>first|rfl|cases ξ
 rw[this];simp only[Bool.false_eq_true,if_false,hv];exact χ.pure' ψ
theorem V5 {xs cQ:am} {vs ws:Array Value} (δ:Ig xs vs) (Μ:Ig cQ ws) {ty:TypeId} {items:List (TypeDesc×Nat)} (Χ:HQ P ty (some items)) {b:Bool} (h:kF items xs cQ=some b) {n:Nat} {G:Γ} {K:Bool->Γ->Prop} {E:Value->Γ->Prop} (ψ:K b G) :
  χ P (Op.equalIn (n+2) ty (.agg vs) (.agg ws)) G K E:=by
 obtain⟨_,_,Χ⟩:=Χ;rcases Χ with⟨dr,hu,cD,dJ,qU⟩|⟨m,e,d,f,hu,he,ξ,Ρ,cA,dJ⟩
 ·unfold Op.equalIn;refine χ.bind' (χ.underlying hu ?_);simp only;refine χ.bind' ?_;show χ P (if P.stoodInHeld ty=true then _ else _) G K E;rw[cD];simp only[Bool.false_eq_true,if_false];have key:∀(l:List Field) (c:Bool),(∀f∈l,f.name≠ "_" /\ ∃d,P.underlying f.type=some d/\jG d=true)->kF (l.map λf=>((P.underlying f.type).getD .invalid,f.offset)) xs cQ=some c->
    ∀jJ:Option Bool×PUnit->Γ->Prop,jJ (if c then none else some false,⟨⟩) G->χ P (forIn l (none,⟨⟩) λ(f:Field) (_:Option Bool×PUnit)=>if f.name≠ "_" then do
     let a <-part f.type vs f.offset
     let b <-part f.type ws f.offset
     let r <-Op.equalIn (n+1) f.type a b
     if(!r)=true then pure (ForInStep.done (some false,⟨⟩)) else pure (ForInStep.yield (none,⟨⟩))
    else pure (ForInStep.yield (none,⟨⟩))) G jJ E:=by
   intro l
   induction l with
   | nil=>intro c _ ε jJ γ;simp[kF] at ε;subst ε;exact .forIn_nil (by simpa using γ)
   | cons f l Α=>
    intro c π ε jJ γ;obtain⟨wP,d,hd,ξ⟩:=π f η;simp only[List.map_cons,kF,hd,Option.getD_some] at ε;split at ε<;>try cases ε
    rename_i x y wQ yA;split at ε<;>try cases ε
    rename_i bE c1 lY lE;refine .forIn_cons ?_;rw[if_pos wP];refine χ.bind' (AI hd ξ (δ _ _ wQ) (χ.bind' (AI hd ξ (Μ _ _ yA) (χ.bind' (Ie hd ξ lY ?_)))));cases bE with
    | false=>exact χ.pure' (by simpa using γ)
    | true=>exact χ.pure' (Α c1 (λg Ω=>π g (by simp[Ω])) lE jJ (by simpa using γ))
  refine χ.bind' ?_;have Eb:(forIn dr (none,⟨⟩) λ(f:Field) (_:Option Bool×PUnit)=>if f.name≠ "_" then do
     let a <-part f.type vs f.offset
     let b <-part f.type ws f.offset
     let r <-Op.equalIn (n+1) f.type a b
     if(!r)=true then pure (ForInStep.done (some false,⟨⟩)) else pure (ForInStep.yield (none,⟨⟩))
    else pure (ForInStep.yield (none,⟨⟩)):Sem (Option Bool×PUnit))=forIn dr.toList (none,⟨⟩) _:=(Array.forIn_toList ..).symm
  refine Eq.mpr (congrArg (λs=>χ P s G _ E) Eb) ?_;refine key dr.toList b qU (by rw[<-dJ];exact h) _ ?_;cases b<;>exact χ.pure' ψ
 ·unfold Op.equalIn;refine χ.bind' (χ.underlying hu ?_);simp only;refine χ.bind' (χ.sizeOf Ρ ?_);rw[cA];have key:∀(l:List Nat) (c:Bool),kF (l.map λi=>(d,i)) xs cQ=some c->
    ∀jJ:Option Bool×PUnit->Γ->Prop,jJ (if c then none else some false,⟨⟩) G->χ P (forIn l (none,⟨⟩) λ(i:Nat) (_:Option Bool×PUnit)=>do
     let a <-part e vs (i*1)
     let b <-part e ws (i*1)
     let r <-Op.equalIn (n+1) e a b
     if(!r)=true then pure (ForInStep.done (some false,⟨⟩)) else pure (ForInStep.yield (none,⟨⟩))) G jJ E:=by
   intro l
   induction l with
   | nil=>intro c ε jJ γ;simp[kF] at ε;subst ε;exact .forIn_nil (by simpa using γ)
   | cons i l Α=>
    intro c ε jJ γ;simp only[List.map_cons,kF] at ε;split at ε<;>try cases ε
    rename_i x y wQ yA;split at ε<;>try cases ε
    rename_i bE c1 lY lE;refine .forIn_cons ?_;refine χ.bind' (AI he ξ (by rw[Nat.mul_one];exact δ _ _ wQ) (χ.bind' (AI he ξ (by rw[Nat.mul_one];exact Μ _ _ yA) (χ.bind' (Ie he ξ lY ?_)))));cases bE with
    | false=>exact χ.pure' (by simpa using γ)
    | true=>exact χ.pure' (Α c1 lE jJ (by simpa using γ))
  refine χ.bind' ?_;rw[forIn_range];refine key (List.range m) b (by rw[<-dJ];exact h) _ ?_;cases b<;>exact χ.pure' ψ
theorem Ih (Ν:bU P T) {ty:TypeId} {a b:θ} {v w:Value} {r:Bool} (ν:aA S B σ a v) (hb:aA S B σ b w) (h:aeqv T ty a b=some r) {K:Bool->Γ->Prop} {E:Value->Γ->Prop} (ψ:K r H):χ P (Op.equal ty v w) H K E:=by
 unfold aeqv at h;split at h
 ·rename_i i hi;obtain⟨⟨hu,Χ⟩,_⟩:=Ν ty i hi;split at h
  ·split at h
   ·rename_i ξ;cases ν;cases hb;exact Ie hu ξ h ψ
   ·cases h
  ·split at h
   ·rename_i items dJ;rw[dJ] at Χ;split at h<;>try cases h
    cases ν with
    | a3 vs aa ai=>cases hb with
     | a3 ws k1 bT=>exact V5 (AH (.a3 vs aa ai)) (AH (.a3 ws k1 bT)) Χ h ψ
   ·cases h
  ·cases h
 ·cases h
theorem NJ (a b:ByteArray):(a==b)=(a.data==b.data):=by
 cases a;cases b;rfl
theorem V6 {a b:ByteArray} (h:(a==b)=true):a=b:=by
 rw[NJ] at h;have:=eq_of_beq h;cases a;cases b;simp at this;simp[this]
theorem V7 (a:ByteArray):(a==a)=true:=by rw[NJ];exact beq_self_eq_true _
theorem NK {d:TypeDesc} {x y:Value} (h:nB d x y=some true):x=y/\∀n,Instr.sameBits n x x=true:=by
 unfold nB at h;split at h
 ·split at h
  ·rename_i e;subst e;simp only[Option.some.injEq,beq_iff_eq] at h;subst h;exact⟨rfl,λn=>by cases n<;>simp[Instr.sameBits]⟩
  ·cases h
 ·simp only[Option.some.injEq] at h;have:=V6 h;subst this;exact⟨rfl,λn=>by cases n<;>simp[Instr.sameBits,V7]⟩
 ·simp only[Option.some.injEq,beq_iff_eq] at h;subst h;exact⟨rfl,λn=>by cases n<;>simp[Instr.sameBits]⟩
 ·cases h
theorem V8 {xs cQ:am}:∀(items:List (TypeDesc×Nat)),kF items xs cQ=some true->∀o,o∈items.map (·.2)->∃x,xs[o]?=some (.z x)/\cQ[o]?=some (.z x)/\∀n,Instr.sameBits n x x=true:=by
 intro items
 induction items with
 | nil=>intro _ o Β;simp at Β
 | cons a items Α=>
  obtain⟨d,p⟩:=a;intro h o Β;simp only[kF] at h;split at h<;>try cases h
  rename_i x y wQ yA;split at h<;>try cases h
  rename_i b c hb ε;simp only[Option.some.injEq,Bool.and_eq_true] at h;obtain⟨rfl,rfl⟩:=h;simp only[List.map_cons,List.mem_cons] at Β;rcases Β with rfl|Β
  ·obtain⟨Ζ,Ε⟩:=NK hb;subst Ζ;exact⟨x,wQ,yA,Ε⟩
  ·exact Α ε o Β
theorem V9 (Ν:bU P T) {ty:TypeId} {a b:θ} {v w:Value} (ν:aA S B σ a v) (hb:aA S B σ b w) (h:aeqv T ty a b=some true):v=w/\a=b/\∀n,Instr.sameBits (n+1) v v=true:=by
 unfold aeqv at h;split at h
 ·rename_i i hi;obtain⟨⟨hu,Χ⟩,_⟩:=Ν ty i hi;split at h
  ·split at h
   ·obtain⟨Ζ,Ε⟩:=NK h;subst Ζ;cases ν;cases hb;exact⟨rfl,rfl,λn=>Ε _⟩
   ·cases h
  ·rename_i xs cQ;split at h
   ·rename_i items dJ;rw[dJ] at Χ;split at h<;>try cases h
    rename_i hlen;obtain⟨U,γ⟩:=hlen;have yB:=Χ.2.1;have get:∀o,o<items.length->∃x,xs[o]?=some (.z x)/\cQ[o]?=some (.z x)/\∀n,Instr.sameBits n x x=true:=λo Β=>V8 items h o (by rw[yB];simpa using Β);have qV:xs=cQ:=by
     apply List.ext_getElem?;intro o;by_cases Β:o<items.length
     ·obtain⟨x,aa,ai,_⟩:=get o Β;rw[aa,ai]
     ·rw[List.getElem?_eq_none J,List.getElem?_eq_none J]
    cases ν with
    | a3 vs aa ai=>cases hb with
     | a3 ws k1 bT=>
      have NL:∀o,o<items.length->∃x,vs[o]?=some x/\ws[o]?=some x/\∀n,Instr.sameBits n x x=true:=λo Β=>by
       obtain⟨x,c1,c2,c3⟩:=get o Β;exact⟨x,AH (.a3 vs aa ai) o x c1,AH (.a3 ws k1 bT) o x c2,c3⟩
      have qW:vs=ws:=by
       apply Array.ext_getElem?;intro o;by_cases Β:o<items.length
       ·obtain⟨x,c1,c2,_⟩:=NL o Β;rw[c1,c2]
       ·rw[Array.getElem?_eq_none J,Array.getElem?_eq_none J]
      subst qW;refine⟨rfl,by rw[qV],λn=>?_⟩;simp only[Instr.sameBits,beq_self_eq_true,Bool.true_and,List.all_eq_true];intro p ω;obtain⟨o,Β⟩:=List.getElem?_of_mem ω;rw[List.getElem?_zip_eq_some] at Β;have yC:o<items.length:=by
       have:=(b0.1 Β.1).1;simp at this;omega
      obtain⟨x,c1,_,c3⟩:=NL o yC;rw[Array.getElem?_toList,c1] at Β;obtain⟨Ζ,Ε⟩:=Β;cases Ζ;rw[<-Option.some.inj Ε];exact c3 n
   ·cases h
  ·cases h
 ·cases h
end
def iC (T:bk) (kt:TypeId) (k:θ):List (θ×θ)->Nat->Option (Option (Nat×θ))
 | [],_=>some none
 | e::r,i=>match aeqv T kt k e.1 with
  | some b=>bif b then some (some (i,e.2)) else iC T kt k r (i+1)
  | none=>none
def o7 (T:bk) (kt:TypeId) (k:θ):Bool:=match T kt with
 | some i=>match k with
  | .z _=>jG i.bM
  | .a3 xs=>match i.bM,i.eqs with
   | .array _ _,some items=>xs.length==items.length&&(kF items xs xs).isSome
   | _,_=>false
  | _=>false
 | none=>false
section
variable {P:Program} {T:bk} {S:aO} {B:a0} {H:Γ} {σ:ac}
theorem NM {ty:TypeId} {d:TypeDesc} (hd:P.underlying ty=some d) (ξ:jG d=true) {v:Value} {em:Bool} {n:Nat} {G:Γ} {K:Unit->Γ->Prop} {E:Value->Γ->Prop} (ψ:K () G):χ P (Instr.checkKey em (n+1) ty v) G K E:=by
 unfold Instr.checkKey;refine χ.bind' (χ.underlying hd ?_);cases d<;>first|(cases ξ;done)|(cases v<;>exact χ.pure' ψ)
theorem Ii (Ν:bU P T) {kt:TypeId} {k:θ} {v:Value} (ψ:aA S B σ k v) (h:o7 T kt k=true) {em:Bool} {G:Γ} {K:Unit->Γ->Prop} {E:Value->Γ->Prop} (κ:K () G):χ P (Instr.checkKey em 10000 kt v) G K E:=by
 unfold o7 at h;split at h
 ·rename_i i hi;obtain⟨⟨hu,Χ⟩,_⟩:=Ν kt i hi;split at h
  ·exact NM (n:=9999) hu h κ
  ·rename_i xs;split at h
   ·rename_i n e items Wa dJ;rw[dJ] at Χ;simp only[Bool.and_eq_true,beq_iff_eq] at h;obtain⟨_,_,Χ⟩:=Χ;rcases Χ with⟨dr,yD,_⟩|⟨m,Ε,d,f,yD,he,ξ,Ρ,cA,Wb⟩
    ·rw[hu,Wa] at yD;cases yD
    ·cases ψ with
     | a3 vs aa ai=>
      have Wc:=AH (.a3 vs aa ai)
      show χ P (Instr.checkKey em (9999+1) kt _) G K E;unfold Instr.checkKey;refine χ.bind' (χ.underlying yD ?_);simp only;rw[forIn_range];refine χ.bind' ?_;have hb:∃b,kF ((List.range m).map λi=>(d,i)) xs xs=some b:=by
       rw[<-Wb];exact Option.isSome_iff_exists.1 h.2
      have key:∀(l:List Nat) (b:Bool),kF (l.map λi=>(d,i)) xs xs=some b->χ P (forIn l PUnit.unit λ(i:Nat) (_:PUnit)=>do
        let a <-sizeOf Ε
        let b <-part Ε vs (i*a)
        Instr.checkKey em 9999 Ε b
        pure (ForInStep.yield PUnit.unit)) G (λ_ G'=>K () G') E:=by
       intro l
       induction l with
       | nil=>intro b _;exact .forIn_nil κ
       | cons i l Α=>
        intro b hb;simp only[List.map_cons,kF] at hb;split at hb<;>try cases hb
        rename_i x y wQ yA;split at hb<;>try cases hb
        rename_i bE c1 lY lE;refine .forIn_cons ?_;refine χ.bind' (χ.sizeOf Ρ ?_);rw[cA];refine χ.bind' (AI he ξ (by rw[Nat.mul_one];exact Wc _ _ wQ) ?_);refine χ.bind' (NM (n:=9998) he ξ ?_);exact χ.pure' (Α c1 lE)
      obtain⟨b,hb⟩:=hb;exact χ.mono (λ_ G' h=>χ.pure' h) (λ_ _ h=>h) _ (key (List.range m) b hb)
   ·cases h
  ·cases h
 ·cases h
def wR (S:aO) (B:a0) (σ:ac) (es:List (θ×θ)) (cQ:List MapEntry):Prop:=es.length=cQ.length/\∀(i:Nat) (e:θ×θ) (y:MapEntry),es[i]?=some e->cQ[i]?=some y->aA S B σ e.1 y.key/\aA S B σ e.2 y.val
theorem wR.tail {e:θ×θ} {es:List (θ×θ)} {y:MapEntry} {cQ:List MapEntry} (h:wR S B σ (e::es) (y::cQ)):(aA S B σ e.1 y.key/\aA S B σ e.2 y.val)/\wR S B σ es cQ:=
 ⟨h.2 0 e y rfl rfl,⟨by simpa using h.1,λi aP mM U γ=>h.2 (i+1) aP mM U γ⟩⟩
theorem Ec {kt:TypeId} {k:θ}:∀(es:List (θ×θ)) (n i:Nat) (a:θ),iC T kt k es n=some (some (i,a))->n<=i/\∃al,es[i-n]?=some (al,a)/\aeqv T kt k al=some true:=by
 intro es
 induction es with
 | nil=>intro n i a h;cases h
 | cons e es Α=>
  intro n i a h;unfold iC at h;split at h
  ·rename_i b hb;cases b with
   | true=>cases h;exact⟨Nat.le_refl _,e.1,η,hb⟩
   | false=>
    obtain⟨U,al,γ,ο⟩:=Α (n+1) i a h;refine⟨J,al,?_,ο⟩;have:i-n=(i-(n+1))+1:=J;rw[this,List.getElem?_cons_succ];exact γ
  ·cases h
def mN (cQ:List MapEntry) (i0:Nat) (r:Option (Nat×θ)):Option (Nat×Value):=r.map λx=>(x.1,((cQ[x.1-i0]?).map (·.val)).getD undef)
theorem Wd {d:TypeDesc} {x y:Value} {b:Bool} (h:nB d x y=some b):Instr.sameNow d x y=some b:=by
 unfold nB at h;split at h
 ·split at h
  ·rename_i e;subst e;cases h;simp[Instr.sameNow]
  ·cases h
 ·cases h;rfl
 ·cases h;rfl
 ·cases h
theorem We (Ν:bU P T) {kt:TypeId} {i:iU} (hi:T kt=some i) {k:θ} {v:Value} (ψ:aA S B σ k v) (Ψ:∃u,k=.z u):∀(es:List (θ×θ)) (cQ:List MapEntry) (n:Nat) (r:Option (Nat×θ)),wR S B σ es cQ->iC T kt k es n=some r->
  Instr.findNow i.bM v cQ n=some (mN cQ n r):=by
 obtain⟨u,rfl⟩:=Ψ;cases ψ;intro es
 induction es with
 | nil=>
  intro cQ n r he h;have:cQ=[]:=by have:=he.1;simpa using this.symm
  subst this;cases h;rfl
 | cons e es Α=>
  intro cQ n r he h;cases cQ with
  | nil=>have:=he.1;simp at this
  | cons y cQ=>
   obtain⟨⟨U,γ⟩,Υ⟩:=he.tail;unfold iC at h;split at h
   ·rename_i b hb;have hv:nB i.bM v y.key=some b:=by
     unfold aeqv at hb;rw[hi] at hb;simp only at hb;split at hb
     ·rename_i x mM Ζ Ε;rw[Ε] at U;cases U;cases Ζ;split at hb
      ·exact hb
      ·cases hb
     ·rename_i Ζ _;cases Ζ
     ·cases hb
    unfold Instr.findNow;rw[Wd hv];cases b with
    | true=>cases h;simp[mN]
    | false=>
     have:=Α cQ (n+1) r Υ h;simp only[this];congr 1;unfold mN;cases r with
     | none=>rfl
     | some x=>
      simp only[Option.map_some];have δ:n+1<=x.1:=(Ec es (n+1) x.1 x.2 h).1;have:x.1-n=(x.1-(n+1))+1:=J;rw[this,List.getElem?_cons_succ]
   ·cases h
theorem Wf (Ν:bU P T) {kt:TypeId} {k:θ} {v:Value} (ψ:aA S B σ k v) {E:Value->Γ->Prop}:∀(es:List (θ×θ)) (cQ:List MapEntry) (n:Nat) (r:Option (Nat×θ)) (K:Option (Nat×Value)->Γ->Prop),wR S B σ es cQ->iC T kt k es n=some r->
  K (mN cQ n r) H->χ P (Instr.findAsking kt v cQ n) H K E:=by
 intro es
 induction es with
 | nil=>
  intro cQ n r K he h κ;have:cQ=[]:=by have:=he.1;simpa using this.symm
  subst this;cases h;exact χ.pure' κ
 | cons e es Α=>
  intro cQ n r K he h κ;cases cQ with
  | nil=>have:=he.1;simp at this
  | cons y cQ=>
   obtain⟨⟨U,γ⟩,Υ⟩:=he.tail;unfold iC at h;split at h
   ·rename_i b hb;unfold Instr.findAsking;refine χ.bind' (Ih Ν ψ U hb ?_);cases b with
    | true=>cases h;simp only[if_true];exact χ.pure' (by simpa[mN] using κ)
    | false=>
     simp only[Bool.false_eq_true,if_false];refine Α cQ (n+1) r K Υ h ?_;have:mN (y::cQ) n r=mN cQ (n+1) r:=by
      unfold mN;cases r with
      | none=>rfl
      | some x=>
       simp only[Option.map_some];have δ:n+1<=x.1:=(Ec es (n+1) x.1 x.2 h).1;have:x.1-n=(x.1-(n+1))+1:=J;rw[this,List.getElem?_cons_succ]
     rw[<-this];exact κ
   ·cases h
theorem Ij (Ν:bU P T) {kt:TypeId} {k:θ} {v:Value} (ψ:aA S B σ k v) (o8:o7 T kt k=true) {es:List (θ×θ)} {cQ:List MapEntry} {r:Option (Nat×θ)} (he:wR S B σ es cQ) (h:iC T kt k es 0=some r) {K:Option (Nat×Value)->Γ->Prop} {E:Value->Γ->Prop} (κ:K (mN cQ 0 r) H) :
  χ P (Instr.findKey kt v cQ) H K E:=by
 unfold Instr.findKey;unfold o7 at o8;split at o8
 ·rename_i i hi;refine χ.bind' (Ν.bM hi ?_);split at o8
  ·rw[We Ν hi ψ ⟨_,rfl⟩ es cQ 0 r he h];exact χ.pure' κ
  ·rename_i xs;cases ψ with
   | a3 vs aa ai=>
    cases cQ with
    | nil=>
     have:es=[]:=by have:=he.1;simpa using this
     subst this;cases h;exact χ.pure' κ
    | cons y cQ=>
     have Θ:Instr.findNow i.bM (.agg vs) (y::cQ) 0=none:=by
      unfold Instr.findNow;have:Instr.sameNow i.bM (.agg vs) y.key=none:=by unfold Instr.sameNow;cases i.bM<;>rfl
      rw[this]
     rw[Θ];exact Wf Ν (.a3 vs aa ai) es (y::cQ) 0 r K he h κ
  ·cases o8
 ·cases o8
def o9 (σ:ac) (id:Nat):Bool:=σ.all λr=>match r with|.iter m _ _=>m != id|_=>true
theorem Wg {id:Nat} (h:o9 σ id=true):∀(j:Nat) left cur,σ[j]?≠some (Row.iter id left cur):=λj left cur ζ=>by
 have:=List.all_eq_true.1 h _ (cy ζ);simp at this
def wS (T:bk) (ty:TypeId):Option (TypeId×TypeId):=match T ty with
 | some i=>match i.bM with|.map k v=>some (k,v)|_=>none
 | none=>none
theorem Ed {ty kt vt:TypeId} (h:wS T ty=some (kt,vt)):∃i,T ty=some i/\i.bM=.map kt vt:=by
 unfold wS at h;split at h
 ·rename_i i hi;split at h
  ·rename_i k v hu;cases h;exact⟨i,hi,hu⟩
  ·cases h
 ·cases h
def Ik (σ:ac):c5:=.ok (.mp σ.length) (σ++[.map []])
theorem Wh (Δ:Holds S B σ H) (ty:TypeId):cW P (Instr.makeMap ty none) S B H σ (Ik σ):=by
 intro K κ;unfold Instr.makeMap;refine χ.bind' ?_;refine λr μ=>?_;have cD:∀b,(∀N,some (r,0)≠some (b,N))->lD H (H.bQ r (.map #[] 0)) b:=λb hb=>by
  have bx:b≠r:=λe=>by subst e;exact hb _ rfl
  exact⟨λo=>rfl,rfl,by simp[Γ.bQ,bx]⟩
 have bX:b8 S S B (B++[some (r,0)]) σ (σ++[.map []])->kC S (B++[some (r,0)]) (σ++[.map []]) (H.bQ r (.map #[] 0)) (.map []) (some (r,0)):=λ_=>
  ⟨r,0,#[],0,rfl,by simp[Γ.bQ],rfl,λi e y U=>by simp at U,λi j y z U=>by simp at U⟩
 obtain⟨U,γ,ο⟩:=Δ.push (λb N e=>by cases e;exact μ) cD bX;exact χ.pure' ⟨_,_,_,_,κ,γ,U,ο,.mp (es:=[]) (N:=0) (D3 σ _) (D4 Δ.len _)⟩
def Ee (T:bk) (ty:TypeId) (ok:Bool) (σ:ac) (mp k:θ):c5:=match wS T ty,mp with
 | some (kt,vt),.mp id=>match σ[id]?,T vt with
  | some (.map es),some Il=>if o7 T kt k=true then match iC T kt k es 0 with
   | some (some (_,a))=>.ok (if ok then .bj [a,.z (.bool true)] else a) σ
   | some none=>.ok (if ok then .bj [ia Il.zero,.z (.bool false)] else ia Il.zero) σ
   | none=>.bad else .bad
  | _,_=>.bad
 | _,_=>.bad
theorem AJ (Δ:Holds S B σ H) {id b N:Nat} {es:List (θ×θ)} (hm:σ[id]?=some (.map es)) (hb:B[id]?=some (some (b,N))):∃xs clock,H.obj b=some (.map xs clock)/\tf S B σ es xs clock:=by
 obtain⟨ag,fp,xs,clock,e,U,γ⟩:=Δ.row id _ _ hm hb;cases e;exact⟨xs,clock,U,γ⟩
theorem tf.yE {es:List (θ×θ)} {xs:Array MapEntry} {clock:Nat} (h:tf S B σ es xs clock):wR S B σ es xs.toList:=
 ⟨by simpa using h.1,λi e y U γ=>by rw[Array.getElem?_toList] at γ;obtain⟨a,b,_⟩:=h.2.1 i e y U γ;exact⟨a,b⟩⟩
theorem Wi (Ν:bU P T) (Δ:Holds S B σ H) {ty:TypeId} {ok:Bool} {mp k:θ} {u v:Value} (hm:aA S B σ mp u) (ψ:aA S B σ k v):cW P (Instr.lookup ty u v ok) S B H σ (Ee T ty ok σ mp k):=by
 unfold Ee;split
 ·rename_i kt vt id wT;obtain⟨i,hi,hu⟩:=Ed wT;split
  ·rename_i es Il bX Wj;split
   ·rename_i o8;cases hm with
    | mp U γ=>
     rename_i b N;rw[bX] at U;cases U;obtain⟨xs,clock,om,ic⟩:=AJ Δ bX γ;have go:∀(r:Option (Nat×θ)) (res:c5),iC T kt k es 0=some r->(∀(K:θ->ac->Prop),res.holds K->∃(x:θ) (y:Value),True/\χ P (do
       let (v,Wk) <-match mN xs.toList 0 r with
        | some (_,v)=>pure (v,true)
        | none=>do pure (<-zeroValue vt,false)
       pure (if ok then .tuple #[v,.bool Wk] else v)) H (jH S B H σ K) (λ_ _=>False))->cW P (Instr.lookup ty (.map (some b)) v ok) S B H σ res:=λr res Ρ fs K κ=>by
      unfold Instr.lookup;refine χ.bind' (Ν.bM hi ?_);rw[hu];refine χ.bind' ?_;refine⟨_,om,rfl,?_⟩;refine χ.bind' (χ.pure' ?_);refine χ.bind' (Ii Ν ψ o8 ?_);refine χ.bind' (Ij Ν ψ o8 ic.yE Ρ ?_);obtain⟨_,_,_,h⟩:=fs K κ;cases Β:mN xs.toList 0 r with
      | none=>rw[Β] at h;exact h
      | some p=>rw[Β] at h;exact h
     split
     ·rename_i bz a Ρ;refine go _ _ Ρ λK κ=>⟨a,undef,trivial,?_⟩;obtain⟨_,al,he,_⟩:=Ec es 0 bz a Ρ;have aN:bz<xs.size:=by have:=(b0.1 he).1;rw[<-ic.1];simpa using this
      have Μ:xs[bz]?=some xs[bz]:=fw aN;obtain⟨_,μ,_⟩:=ic.2.1 bz _ _ (by simpa using he) Μ;have Β:mN xs.toList 0 (some (bz,a))=some (bz,xs[bz].val):=by simp[mN,aN]
      rw[Β];refine χ.bind' (χ.pure' (χ.pure' ?_));cases ok with
      | true=>exact .same Δ κ (yq μ (.z _))
      | false=>exact .same Δ κ μ
     ·rename_i Ρ;refine go _ _ Ρ λK κ=>⟨.cz,undef,trivial,?_⟩;refine χ.bind' (Ν.zero Wj ?_);refine χ.bind' (χ.pure' (χ.pure' ?_));cases ok with
      | true=>exact .same Δ κ (yq (qN _) (.z _))
      | false=>exact .same Δ κ (qN _)
     ·exact .bad
    | mF v U=>rw[bX] at U;cases U
   ·exact .bad
  ·exact .bad
 ·exact .bad
def AK (T:bk) (ty:TypeId) (σ:ac) (mp k x:θ):c5:=match wS T ty,mp with
 | some (kt,_),.mp id=>match σ[id]? with
  | some (.map es)=>if o7 T kt k=true/\o9 σ id=true then match iC T kt k es 0 with
   | some (some (i,_))=>.ok .cz (σ.set id (.map (es.set i (k,x))))
   | some none=>.ok .cz (σ.set id (.map (es++[(k,x)])))
   | none=>.bad else .bad
  | _=>.bad
 | _,_=>.bad
theorem Im (Δ:Holds S B σ H) {id b N:Nat} {es es':List (θ×θ)} {xs':Array MapEntry} {clock':Nat} (bX:σ[id]?=some (.map es)) (hb:B[id]?=some (some (b,N))) (lV:o9 σ id=true) (ea:∀{B':a0} {σ':ac},b8 S S B B' σ σ'->tf S B' σ' es' xs' clock') :
  Holds S (B.set id (some (b,N))) (σ.set id (.map es')) (H.bQ b (.map xs' clock'))/\Ext S B H S (B.set id (some (b,N))) (H.bQ b (.map xs' clock'))/\b8 S S B (B.set id (some (b,N))) σ (σ.set id (.map es')):=
 Δ.yo bX trivial hb (.inl ⟨es',rfl,rfl⟩) (λag fp e=>.inl ⟨fp,e⟩) (λag U _=>by
  have bx:ag≠b:=λe=>by subst e;exact U N rfl
  exact⟨λo=>rfl,rfl,by simp[Γ.bQ,bx]⟩) Γ.HH (Wg lV) λπ=>⟨b,N,xs',clock',rfl,by simp[Γ.bQ],ea π⟩
theorem NN (Ν:bU P T) (Δ:Holds S B σ H) {ty:TypeId} {mp k x:θ} {u v w:Value} (hm:aA S B σ mp u) (ψ:aA S B σ k v) (δ:aA S B σ x w):yr P (Instr.mapUpdate ty u v w) S B H σ (AK T ty σ mp k x):=by
 unfold AK;split
 ·rename_i kt vt id wT;obtain⟨i,hi,hu⟩:=Ed wT;split
  ·rename_i es bX;split
   ·rename_i sf;obtain⟨o8,lV⟩:=sf;cases hm with
    | mp U γ=>
     rename_i b N;rw[bX] at U;cases U;obtain⟨xs,clock,om,ic⟩:=AJ Δ bX γ;split
     ·rename_i bz a Ρ;obtain⟨_,al,he,heq⟩:=Ec es 0 bz a Ρ;simp only[Nat.sub_zero] at he;have hA:bz<es.length:=(b0.1 he).1;have aN:bz<xs.size:=by rw[<-ic.1];exact hA
      have Μ:xs[bz]?=some xs[bz]:=fw aN;obtain⟨Wl,kο,yF⟩:=ic.2.1 bz _ _ he Μ;obtain⟨Ζ,Ε,a8⟩:=V9 Ν ψ Wl heq;intro K κ;unfold Instr.mapUpdate;refine χ.bind' (Ν.bM hi ?_);rw[hu];refine χ.bind' ⟨_,om,rfl,χ.pure' ?_⟩;refine χ.bind' (Ii Ν ψ o8 ?_);refine χ.bind' (Ij Ν ψ o8 ic.yE Ρ ?_);have Β:mN xs.toList 0 (some (bz,a))=some (bz,xs[bz].val):=by simp[mN,aN]
      rw[Β];simp only[Μ,Option.map_some,Option.getD_some];unfold Instr.keyThatStays;rw[<-Ζ];simp only[a8,if_true];refine χ.bind' (χ.pure' ?_);obtain⟨dz,p2,p3⟩:=Im Δ (es':=es.set bz (k,x)) (xs':=xs.modify bz λe=>{e with key:=v,val:=w}) (clock':=clock) bX γ lV λ{B' σ'} π=>by
       refine⟨by simp[ic.1],λj e y aa ai=>?_,λj bP y z aa ai Io=>?_⟩
       ·rw[Array.getElem?_modify] at ai;by_cases k0:bz=j
        ·subst k0;rw[List.getElem?_set_self hA] at aa;rw[if_pos rfl,Μ] at ai;cases aa;cases ai;exact⟨ψ.later π,δ.later π,yF⟩
        ·rw[List.getElem?_set_ne k0] at aa;rw[if_neg k0] at ai;obtain⟨c1,c2,c3⟩:=ic.2.1 j e y aa ai;exact⟨c1.later π,c2.later π,c3⟩
       ·have born:∀(j:Nat) (y:MapEntry),(xs.modify bz λe=>{e with key:=v,val:=w})[j]?=some y->∃Ef,xs[j]?=some Ef/\y.born=Ef.born:=λj y g=>by
         rw[Array.getElem?_modify] at g;by_cases k0:bz=j
         ·subst k0;rw[if_pos rfl,Μ] at g;cases g;exact⟨_,Μ,rfl⟩
         ·rw[if_neg k0] at g;exact⟨y,g,rfl⟩
        obtain⟨Ef,c1,c2⟩:=born j y aa;obtain⟨iB,c3,c4⟩:=born bP z ai;rw[c2,c4];exact ic.2.2 j bP Ef iB c1 c3 Io
      exact⟨⟨_,om⟩,rfl,rfl,χ.pure' ⟨S,_,_,_,κ,p2,dz,p3,.cz _⟩⟩
     ·rename_i Ρ;intro K κ;unfold Instr.mapUpdate;refine χ.bind' (Ν.bM hi ?_);rw[hu];refine χ.bind' ⟨_,om,rfl,χ.pure' ?_⟩;refine χ.bind' (Ii Ν ψ o8 ?_);refine χ.bind' (Ij Ν ψ o8 ic.yE Ρ ?_);simp only[mN,Option.map_none];obtain⟨dz,p2,p3⟩:=Im Δ (es':=es++[(k,x)]) (xs':=xs.push {key:=v,val:=w,born:=clock}) (clock':=clock+1) bX γ lV λ{B' σ'} π=>by
       refine⟨by simp[ic.1],λj e y aa ai=>?_,λj bP y z aa ai Io=>?_⟩
       ·by_cases ζ:j<es.length
        ·rw[dM ζ] at aa;rw[Array.getElem?_push,if_neg (by rw[<-ic.1];omega)] at ai;obtain⟨c1,c2,c3⟩:=ic.2.1 j e y aa ai;exact⟨c1.later π,c2.later π,J⟩
        ·rw[gA J] at aa;have ga:j=es.length:=by
          have:=(b0.1 aa).1;simp at this;omega
         subst ga;rw[Array.getElem?_push,if_pos ic.1] at ai;simp at aa;subst aa;cases ai;exact⟨ψ.later π,δ.later π,Nat.lt_succ_self _⟩
       ·rw[Array.getElem?_push] at aa ai;split at aa
        ·rename_i Ζ;split at ai
         ·omega
         ·have:=(Array.getElem?_eq_some_iff.1 ai).1;omega
        ·split at ai
         ·cases ai;have ζ:=(Array.getElem?_eq_some_iff.1 aa).1;have he:∃e,es[j]?=some e:=⟨_,a6 (by rw[ic.1];exact ζ)⟩;obtain⟨e,he⟩:=he;exact(ic.2.1 j e y he aa).2.2
         ·exact ic.2.2 j bP y z aa ai Io
      exact⟨⟨_,om⟩,rfl,rfl,χ.pure' ⟨S,_,_,_,κ,p2,dz,p3,.cz _⟩⟩
     ·exact .bad
    | mF v U=>rw[bX] at U;cases U
   ·exact .bad
  ·exact .bad
 ·exact .bad
end
section
variable {P:Program} {T:bk} {S:aO} {B:a0} {H:Γ} {σ:ac}
def Eg (T:bk) (ty:TypeId) (σ:ac) (mp:θ):c5:=match wS T ty,mp with
 | some _,.mp id=>match σ[id]? with
  | some (.map es)=>.ok (.it σ.length) (σ++[.iter id es none])
  | _=>.bad
 | _,_=>.bad
theorem Wm (Ν:bU P T) (Δ:Holds S B σ H) {ty:TypeId} {mp:θ} {u:Value} (hm:aA S B σ mp u):cW P (Instr.range ty u) S B H σ (Eg T ty σ mp):=by
 unfold Eg;split
 ·rename_i AL id wT;obtain⟨i,hi,hu⟩:=Ed (kt:=AL.1) (vt:=AL.2) wT;split
  ·rename_i es bX;cases hm with
   | mp U γ=>
    rename_i b N;rw[bX] at U;cases U;obtain⟨xs,clock,om,ic⟩:=AJ Δ bX γ;intro K κ;unfold Instr.range;refine χ.bind' (Ν.bM hi ?_);rw[hu];refine χ.bind' ?_;refine⟨_,om,rfl,?_⟩;refine χ.bind' (χ.pure' ?_);refine χ.bind' ?_;refine λr μ=>?_;have bx:b≠r:=λe=>by subst e;rw[μ.2.2.1] at om;cases om
    have cb:id<σ.length:=(b0.1 bX).1
    have cD:∀ag,(∀N,some (r,0)≠some (ag,N))->lD H (H.bQ r (.mapIter (some b) clock #[] clock)) ag:=λag hb=>by
     have bx:ag≠r:=λe=>by subst e;exact hb _ rfl
     exact⟨λo=>rfl,rfl,by simp[Γ.bQ,bx]⟩
    have Ah:b8 S S B (B++[some (r,0)]) σ (σ++[.iter id es none])->kC S (B++[some (r,0)]) (σ++[.iter id es none]) (H.bQ r (.mapIter (some b) clock #[] clock)) (.iter id es none) (some (r,0)):=λπ=>by
     refine⟨r,0,b,N,xs,clock,#[],rfl,by rw[dM (by rw[Δ.len];exact cb)];exact γ,⟨es,by rw[dM cb];exact bX⟩,by simp[Γ.bQ],by simp[Γ.bQ,bx,om],⟨xs.toList,?_,by simpa using ic.1,λi e y aa ai=>?_⟩,λy Μ=>?_,λe he=>by cases he⟩
     ·exact(List.filter_eq_self.2 λe _=>η).symm
     ·obtain⟨c1,c2⟩:=ic.yE.2 i e y aa ai;exact⟨c1.later π,c2.later π⟩
     ·obtain⟨j,ζ,rfl⟩:=Array.getElem_of_mem Μ;have he:∃e,es[j]?=some e:=⟨_,a6 (by rw[ic.1];exact ζ)⟩;obtain⟨e,he⟩:=he;exact(ic.2.1 j e _ he (fw ζ)).2.2
    obtain⟨dz,p2,p3⟩:=Δ.push (λag fp e=>by cases e;exact μ) cD Ah;exact χ.pure' ⟨_,_,_,_,κ,p2,dz,p3,.it (D3 σ _) (D4 Δ.len _)⟩
   | mF v U=>rw[bX] at U;cases U
  ·exact .bad
 ·exact .bad
theorem Wn {α:Type} (f:α->Nat):∀(l:List α) (i:Nat) (e:α),(l.map f).Nodup->l[i]?=some e->l.filter (λx=>f x != f e)=l.eraseIdx i:=by
 intro l
 induction l with
 | nil=>intro i e _ h;simp at h
 | cons a l Α=>
  intro i e Θ h;simp only[List.map_cons,List.nodup_cons] at Θ;cases i with
  | zero=>
   simp at h;subst h;rw[List.filter_cons];simp only[bne_self_eq_false,Bool.false_eq_true,if_false,List.eraseIdx_cons_zero];rw[List.filter_eq_self];intro x δ;simp only[bne_iff_ne,ne_eq];intro e;exact Θ.1 (e▸List.mem_map_of_mem δ)
  | succ i=>
   simp only[List.getElem?_cons_succ] at h;have bx:f a≠f e:=λx=>Θ.1 (x▸List.mem_map_of_mem (cy h));rw[List.filter_cons];simp only[bne_iff_ne,ne_eq,bx,not_false_eq_true,if_true,List.eraseIdx_cons_succ];rw[Α i e Θ.2 h]
theorem Wo {es:List (θ×θ)} {xs:Array MapEntry} {clock:Nat} (h:tf S B σ es xs clock):(xs.toList.map (·.born)).Nodup:=by
 rw[List.Nodup,List.pairwise_map,List.pairwise_iff_getElem];intro i j hi ζ aN;have:=h.2.2 i j _ _ (fw (by simpa using hi)) (fw (by simpa using ζ)) aN;simp only[Array.getElem_toList];omega
def Eh (σ:ac) (it:θ):c5:=match it with
 | .it id=>match σ[id]? with
  | some (.iter m left _)=>if left.isEmpty=true then .ok (.bj [.z (.bool false)]) σ else
    .all left.length λi=>match left[i]? with
     | some e=>.ok (.bj [.z (.bool true),e.1,e.2]) (σ.set id (.iter m (left.eraseIdx i) (some e)))
     | none=>.bad
  | _=>.bad
 | _=>.bad
theorem Wp {a b c:θ} {u v w:Value} (U:aA S B σ a u) (γ:aA S B σ b v) (ο:aA S B σ c w):aA S B σ (.bj [a,b,c]) (.tuple #[u,v,w]):=by
 refine .bj _ rfl λi cj fG aa ai=>?_
 match i with
 | 0=>simp at aa ai;subst aa;subst ai;exact U
 | 1=>simp at aa ai;subst aa;subst ai;exact γ
 | 2=>simp at aa ai;subst aa;subst ai;exact ο
 | i+3=>simp at aa
theorem Wq (Δ:Holds S B σ H) {it:θ} {u:Value} (ty:TypeId) (hi:aA S B σ it u):cW P (Instr.next u false ty) S B H σ (Eh σ it):=by
 unfold Eh;split
 ·rename_i id;split
  ·rename_i m left cur bX;cases hi with
   | it U γ=>
    rename_i HK HL ck b N;rw[bX] at U;cases U;obtain⟨ag,fp,a4,lB,xs,clock,seen,cu,ti,⟨es,AM⟩,tn,wU,⟨cQ,Ip,hlen,Iq⟩,yF,Ei⟩:=Δ.row id _ _ bX γ;cases cu;obtain⟨xs',clock',NO,ic⟩:=AJ Δ AM ti;rw[wU] at NO;cases NO;have lF:=Wo ic;have bx:a4≠b:=λe=>by subst e;rw[tn] at wU;cases wU
    intro K κ;have Wr:(xs.filter λe=>!seen.contains e.born).toList=cQ:=by rw[Ip];simp
    have g3:(!seen.isEmpty&&!xs.isEmpty&&xs.all (λe=>decide (e.born>=clock)))=false:=by
     cases δ:xs.isEmpty with
     | true=>simp
     | false=>
      have qS:0<xs.size:=by
       rw[Array.isEmpty_eq_false_iff] at δ;exact Array.size_pos_iff.2 δ
      have ao:xs.all (λe=>decide (e.born>=clock))=false:=by
       rw[Array.all_eq_false];refine⟨0,qS,?_⟩;have:=yF xs[0] (Array.getElem_mem qS);simp;exact this
      rw[ao];simp
    have Ws:∀z:Array MapEntry,z=xs.filter (λe=>!seen.contains e.born)->z.filter (λe=>decide (e.born<clock))=z/\z.filter (λe=>decide (e.born>=clock))=#[]:=λz Ψ=>by
     have hb:∀e∈z,e.born<clock:=λe he=>by rw[Ψ] at he;exact yF e (Array.mem_of_mem_filter he)
     constructor
     ·rw[Array.filter_eq_self];intro e he;simpa using hb e he
     ·rw[Array.filter_eq_empty_iff];intro e he;simpa using hb e he
    unfold Instr.next;refine χ.bind' ?_;refine⟨_,tn,rfl,?_⟩;refine χ.pure' ?_;simp only;refine χ.bind' ?_;refine⟨_,wU,rfl,?_⟩;refine χ.pure' ?_;simp only[g3,Bool.false_eq_true,if_false];generalize Ψ:xs.filter (λe=>!seen.contains e.born)=z;obtain⟨f1,f2⟩:=Ws z Ψ.symm;rw[f1,f2];have l3:z.toList=cQ:=by rw[<-Ψ];exact Wr
    by_cases Ej:left.isEmpty=true
    ·have yy:left=[]:=List.isEmpty_iff.1 Ej;subst yy;have Wt:z=#[]:=by
      have:cQ=[]:=dO.1 (by rw[<-hlen];rfl);rw[this] at l3;exact Array.toList_eq_nil_iff.1 l3
     subst Wt;have cu:((if(#[]:Array MapEntry).isEmpty=true then #[none] else #[])++Array.map some (#[]++#[]:Array MapEntry))=#[none]:=η;rw[cu];refine χ.bind' ?_;show χ P (choose (.mapNext 1)) H _ _;unfold choose;simp only[χ,Question.forced,Nat.le_refl,decide_true,if_true];exact χ.pure' (.same Δ κ (.bj _ rfl λi a v aa ai=>by
      match i with
      | 0=>simp at aa ai;subst aa;subst ai;exact .z _
      | i+1=>simp at aa))
    ·rw[if_neg Ej] at κ;have sd:z.size=left.length:=by rw[hlen,<-l3];simp
     have Wu:z.isEmpty=false:=by
      rw[Array.isEmpty_eq_false_iff];intro e;rw[e] at sd;exact Ej (List.isEmpty_iff.2 (dO.1 sd.symm))
     simp only[Wu,Bool.false_eq_true,if_false,Array.append_empty,Array.empty_append];refine χ.bind' ?_;have fin:∀i,i<left.length->χ P (match (z.map some)[i]? with
       | some (some e)=>do
        setObj b (.mapIter (some a4) clock (seen.push e.born) clock)
        pure (.tuple #[.bool true,e.key,e.val])
       | some none=>pure (.tuple #[.bool false])
       | none=>stuck "Next: no such candidate") H (jH S B H σ K) (λ_ _=>False):=λi hA=>by
      have AN:∃qX,z[i]?=some qX:=⟨_,fw J⟩;obtain⟨qX,AN⟩:=AN;have NP:cQ[i]?=some qX:=by rw[<-l3,Array.getElem?_toList];exact AN
      have g5:∃e,left[i]?=some e:=⟨_,a6 hA⟩;obtain⟨le,g5⟩:=g5;rw[Array.getElem?_map,AN];simp only[Option.map_some];have AO:=κ i hA;simp only[g5] at AO;obtain⟨r1,r2⟩:=Iq i _ _ g5 NP;have l4:qX∈xs:=by
       have:qX∈z:=Array.mem_of_getElem? AN;rw[<-Ψ] at this;exact Array.mem_of_mem_filter this
      have cb:id<σ.length:=(b0.1 bX).1
      have pR:id<B.length:=by rw[Δ.len];exact cb
      have NQ:id≠m:=λe=>by subst e;rw[bX] at AM;cases AM
      obtain⟨dz,p2,p3⟩:=Δ.yo (H':=H.bQ b (.mapIter (some a4) clock (seen.push qX.born) clock)) (r':=.iter m (left.eraseIdx i) (some le)) (bo':=some (b,N)) bX trivial γ (.inl ⟨_,_,rfl,rfl⟩) (λag fp e=>.inl ⟨fp,e⟩) (λag aa _=>by
       have bx:ag≠b:=λe=>by subst e;exact aa N rfl
       exact⟨λo=>rfl,rfl,by simp[Γ.bQ,bx]⟩) Γ.HH (λj l c ζ=>by
       obtain⟨bo,eJ⟩:=Nf Δ ζ;obtain⟨_,_,_,_,_,_,_,_,_,⟨oZ,NR⟩,_⟩:=Δ.row j _ bo ζ eJ;rw[bX] at NR;cases NR) (λπ=>by
       refine⟨b,N,a4,lB,xs,clock,seen.push qX.born,rfl,by rw[List.getElem?_set_ne NQ];exact ti,⟨es,by rw[List.getElem?_set_ne NQ];exact AM⟩,by simp[Γ.bQ],by simp[Γ.bQ,bx,wU],⟨cQ.eraseIdx i,?_,by rw[List.length_eraseIdx,List.length_eraseIdx,hlen],λj e y aa ai=>?_⟩,yF,λe he=>?_⟩
       ·have kZ:(cQ.map (·.born)).Nodup:=by
         rw[Ip];exact lF.sublist (List.filter_sublist.map _)
        rw[<-Wn (·.born) cQ i qX kZ NP,Ip,List.filter_filter];apply List.filter_congr;intro e _;rw[Array.contains_push,Bool.not_or,Bool.and_comm];congr 1
       ·rw[List.getElem?_eraseIdx] at aa ai;split at aa
        ·rename_i aN;rw[if_pos aN] at ai;obtain⟨c1,c2⟩:=Iq j e y aa ai;exact⟨c1.later π,c2.later π⟩
        ·rename_i aN;rw[if_neg aN] at ai;obtain⟨c1,c2⟩:=Iq (j+1) e y aa ai;exact⟨c1.later π,c2.later π⟩
       ·cases he;refine⟨qX.born,qX,η,?_,r1.later π,r2.later π⟩;rw[<-Array.find?_toList];obtain⟨q,Χ⟩:=List.getElem?_of_mem (show qX∈xs.toList by simpa using l4);have key:∀(l:List MapEntry) (q:Nat) (e:MapEntry),(l.map (·.born)).Nodup->l[q]?=some e->l.find? (·.born==e.born)=some e:=by
         intro l
         induction l with
         | nil=>intro q e _ h;simp at h
         | cons a l Α=>
          intro q e Θ h;simp only[List.map_cons,List.nodup_cons] at Θ;rw[List.find?_cons];cases q with
          | zero=>simp at h;subst h;simp
          | succ q=>
           simp only[List.getElem?_cons_succ] at h;have:(a.born==e.born)=false:=by
            simp only[beq_eq_false_iff_ne,ne_eq];intro x;exact Θ.1 (x▸List.mem_map_of_mem (cy h))
           rw[this];exact Α q e Θ.2 h
        exact key xs.toList q _ lF Χ)
      refine χ.bind' ?_;refine⟨⟨_,tn⟩,rfl,rfl,?_⟩;refine χ.pure' ?_;exact χ.pure' ⟨S,_,_,_,AO,p2,dz,p3,Wp (.z _) (r1.later p3) (r2.later p3)⟩
     have cA:(z.map some).size=left.length:=by simp[sd]
     show χ P (choose (.mapNext (z.map some).size)) H _ _;unfold choose;simp only[χ];have qS:0<left.length:=List.length_pos_iff.2 λe=>Ej (List.isEmpty_iff.2 e);split
     ·exact fin 0 qS
     ·intro n;refine fin _ ?_;simp only[Question.cut,cA];exact Nat.mod_lt _ qS
   | oe v U=>rw[bX] at U;cases U
  ·exact .bad
 ·exact .bad
def Ek (σ:ac) (it:θ):c5:=match it with
 | .it id=>match σ[id]? with
  | some (.iter _ _ (some e))=>.ok (.bj [e.1,e.2]) σ
  | _=>.bad
 | _=>.bad
theorem Wv (Δ:Holds S B σ H) {it:θ} {u:Value} (hi:aA S B σ it u):cW P (Instr.entry u) S B H σ (Ek σ it):=by
 unfold Ek;split
 ·rename_i id;split
  ·rename_i m left e bX;cases hi with
   | it U γ=>
    rename_i HK HL ck b N;rw[bX] at U;cases U;obtain⟨ag,fp,a4,lB,xs,clock,seen,cu,ti,AM,tn,wU,_,yF,Ei⟩:=Δ.row id _ _ bX γ;cases cu;obtain⟨HN,y,aa,ai,aZ,cn⟩:=Ei e rfl;intro K κ;unfold Instr.entry;refine χ.bind' ?_;refine⟨_,tn,rfl,?_⟩;refine χ.pure' ?_;simp only[aa];refine χ.bind' ?_;refine⟨_,wU,rfl,?_⟩;refine χ.pure' ?_;simp only[bne_self_eq_false,Bool.false_eq_true,if_false,ai];exact χ.pure' (.same Δ κ (yq aZ cn))
   | oe v U=>rw[bX] at U;cases U
  ·exact .bad
 ·exact .bad
@[simp] def Ir:Value->Option θ
 | .int k z=>some (.z (.int k z))
 | .slice none 0 0=>some (.sl true 0 [])
 | _=>none
theorem Ww {AP:Value} {pW:θ} (h:Ir AP=some pW):AP.cells=#[AP]/\pW.cells=[pW]/\(∀S B σ,aA S B σ pW AP)/\One AP:=by
 unfold Ir at h;split at h
 ·cases h;exact⟨rfl,rfl,λ_ _ _=>.z _,trivial⟩
 ·cases h;exact⟨rfl,rfl,λ_ _ _=>.iT _ _ (λ_=>rfl),trivial⟩
 ·cases h
def El (T:bk) (ty:TypeId) (σ:ac) (x:θ):c5:=match x with
 | .ms id n i len=>match T ty,σ[id]? with
  | some lX,some (.cells t k l)=>match lX.bM with
   | .slice e=>match T e with
    | some b6=>match Ir b6.zero with
     | some pW=>if l.length=n/\k=1/\i+len<=n/\(∀a∈l,a.cells.length=1) then .ok .cz (σ.set id (.cells t k (l.take i++List.replicate len pW++l.drop (i+len)))) else .bad
     | none=>.bad
    | none=>.bad
   | _=>.bad
  | _,_=>.bad
 | _=>.bad
theorem Wx (Ν:bU P T) (Δ:Holds S B σ H) {ty:TypeId} (rt:TypeId) {x:θ} {u:Value} (hm:aA S B σ x u):cW P (Builtin.clear_ #[ty] rt #[u]) S B H σ (El T ty σ x):=by
 unfold El;split
 ·rename_i id n i len;split
  ·rename_i lX t k l Is π;split
   ·rename_i e hu;split
    ·rename_i b6 eW;split
     ·rename_i pW Ψ;obtain⟨rX,mB,uQ,yG⟩:=Ww Ψ;split
      ·rename_i ε;obtain⟨Θ,rfl,bd,_⟩:=ε;have cb:id<σ.length:=(b0.1 π).1;have pR:id<B.length:=by rw[Δ.len];exact cb
       intro K κ;have same:len=0->jH S B H σ K (.tuple #[]) H:=λcu=>by
        subst cu;have u4:σ.set id (.cells t 1 (l.take i++List.replicate 0 pW++l.drop (i+0)))=σ:=by
         rw[List.replicate_zero,List.append_nil,Nat.add_zero,List.take_append_drop];apply List.ext_getElem?;intro j;by_cases k0:id=j
         ·subst k0;rw[List.getElem?_set_self cb,π]
         ·rw[List.getElem?_set_ne k0]
        simp only[c5.holds] at κ;rw[u4] at κ;exact⟨S,B,σ,_,κ,.refl _ _ _,Δ,.refl _ _ _,.cz _⟩
       cases hm with
       | jZ v U γ=>rw[π] at U;cases U;simp only[Row.hT] at γ;omega
       | ms cap U γ ο Ι ax bf=>
        rename_i bo base;rw[π] at U;cases U;unfold Builtin.clear_;refine χ.bind' (Ν.bM Is ?_);rw[hu];cases base with
        | none=>
         refine χ.bind' (χ.pure' ?_);have cu:len=0:=by
          rcases bf with bf|⟨b,N,_,hb,_⟩
          ·omega
          ·cases hb
         exact χ.pure' (same cu)
        | some a=>
         by_cases cu:len=0
         ·subst cu;refine χ.bind' (χ.pure' ?_);exact χ.pure' (same rfl)
         ·rcases bf with bf|⟨b,N,rfl,hb,bf⟩
          ·omega
          ·cases hb;obtain⟨bX,cK,gE,w,hw⟩:=Δ.row id _ _ π ο;obtain⟨m,rfl⟩:∃m,len=m+1:=⟨len-1,J⟩;simp only;refine χ.bind' (Ν.zero eW ?_);have Wy:(Builtin.zeroCells b6.zero.cells (m+1)).toList=List.replicate (m+1) b6.zero:=by
            simp only[Builtin.zeroCells,rX];rw[Array.toList_map,Array.toList_range];refine List.ext_getElem? λj=>?_;rw[List.getElem?_map,List.getElem?_replicate];by_cases ζ:j<m+1
            ·rw[List.getElem?_range (by simpa using ζ),if_pos ζ];simp[Nat.mod_one]
            ·rw[List.getElem?_eq_none (by simp;omega),if_neg ζ];rfl
           rw[Wy];have gR:∀(y:Nat) (c:θ),(l.take i++List.replicate (m+1) pW++l.drop (i+(m+1)))[y]?=some c->(i<=y/\y<i+(m+1)/\c=pW)\/((y<i\/i+(m+1)<=y)/\l[y]?=some c):=λy c Μ=>by
            by_cases c1:y<i
            ·rw[List.append_assoc,dM (by simp;omega),List.getElem?_take_of_lt c1] at Μ;exact .inr ⟨.inl c1,Μ⟩
            ·by_cases c2:y<i+(m+1)
             ·rw[dM (by simp;omega),gA (by simp;omega),List.getElem?_replicate] at Μ;split at Μ
              ·cases Μ;exact .inl ⟨J,c2,rfl⟩
              ·cases Μ
             ·rw[gA (by simp;omega),List.getElem?_drop] at Μ;have Ζ:i+(m+1)+(y-(l.take i++List.replicate (m+1) pW).length)=y:=by simp;omega
              rw[Ζ] at Μ;exact .inr ⟨.inr J,Μ⟩
           obtain⟨dz,p2,p3⟩:=Δ.yo (H':=H.h' b i (List.replicate (m+1) b6.zero)) (r':=.cells t 1 (l.take i++List.replicate (m+1) pW++l.drop (i+(m+1)))) (bo':=some (b,N)) π trivial ο (.inl ⟨_,rfl,by simp;omega,rfl⟩) (λag fp aP=>.inl ⟨fp,aP⟩)
            (λag U _=>by
             have bx:ag≠b:=λaP=>by subst aP;exact U N rfl
             exact⟨λo=>by simp[Γ.h',bx],rfl,rfl⟩) Γ.HP (DJ Δ π) (λlQ=>by
             refine⟨bX,by simp;omega,λo Β=>?_,λy j=>if i<=y/\y<i+(m+1) then b6.zero else w y j,λy c Μ=>?_⟩
             ·simp only[Γ.h'];split
              ·exact⟨_,rfl⟩
              ·exact gE o Β
             ·rcases gR y c Μ with⟨c1,c2,rfl⟩|⟨c1,wx⟩
              ·refine⟨by rw[mB];rfl,λj a ζ=>?_⟩;rw[mB] at ζ;have ga:j=0:=by have:=(b0.1 ζ).1;simp at this;omega
               subst ga;simp at ζ;subst ζ;simp only[c1,c2,and_self,if_true];refine⟨?_,uQ _ _ _,yG⟩;simp only[Γ.h',List.length_replicate];rw[if_pos ⟨trivial,J,J⟩,List.getElem?_replicate,if_pos J];rfl
              ·refine⟨(hw y c wx).1,λj a ζ=>?_⟩;obtain⟨aa,ai,aZ⟩:=(hw y c wx).2 j a ζ;have ga:j=0:=by have:=(b0.1 ζ).1;rw[(hw y c wx).1] at this;omega
               subst ga;have wV:¬(i<=y/\y<i+(m+1)):=J;simp only[wV,if_false];refine⟨?_,ai.later lQ,aZ⟩;simp only[Γ.h',List.length_replicate];rw[if_neg J];exact aa)
           have ν:(⟨b,i*1,none⟩:Addr)=⟨b,i,none⟩:=by rw[Nat.mul_one]
           rw[ν];refine χ.bind' ?_;refine χ.storeCells (G:=H) rfl ⟨t,N,bX⟩ _ 0 H (λv hv=>by rw[List.eq_of_mem_replicate hv];trivial) (λj _ ζ=>?_) rfl ?_
           ·rw[List.length_replicate] at ζ;obtain⟨bw,yD⟩:=gE (i+j) J;exact⟨bw,yD⟩
           ·exact χ.pure' ⟨S,_,_,_,κ,p2,dz,p3,.cz _⟩
      ·exact .bad
     ·exact .bad
    ·exact .bad
   ·exact .bad
  ·exact .bad
 ·exact .bad
def Em (T:bk) (ty:TypeId) (σ:ac) (mp:θ):c5:=match wS T ty,mp with
 | some _,.mp id=>match σ[id]? with
  | some (.map _)=>if o9 σ id=true then .ok .cz (σ.set id (.map [])) else .bad
  | _=>.bad
 | _,_=>El T ty σ mp
theorem Wz (Ν:bU P T) (Δ:Holds S B σ H) {ty:TypeId} (rt:TypeId) {mp:θ} {u:Value} (hm:aA S B σ mp u):cW P (Builtin.clear_ #[ty] rt #[u]) S B H σ (Em T ty σ mp):=by
 unfold Em;split
 ·rename_i AL id wT;obtain⟨i,hi,hu⟩:=Ed (kt:=AL.1) (vt:=AL.2) wT;split
  ·rename_i es bX;split
   ·rename_i lV;cases hm with
    | mp U γ=>
     rename_i b N;rw[bX] at U;cases U;obtain⟨xs,clock,om,ic⟩:=AJ Δ bX γ;obtain⟨dz,p2,p3⟩:=Im Δ (es':=[]) (xs':=#[]) (clock':=clock) bX γ lV λ_=>⟨rfl,λi e y U=>by simp at U,λi j y z U=>by simp at U⟩;intro K κ;unfold Builtin.clear_;refine χ.bind' (Ν.bM hi ?_);rw[hu];refine χ.bind' ?_;refine⟨_,om,rfl,?_⟩;refine χ.pure' ?_;refine⟨⟨_,om⟩,rfl,rfl,?_⟩;exact χ.pure' ⟨S,_,_,_,κ,p2,dz,p3,.cz _⟩
    | mF v U=>rw[bX] at U;cases U
   ·exact .bad
  ·exact .bad
 ·exact Wx Ν Δ rt hm
end
end Go.TL
