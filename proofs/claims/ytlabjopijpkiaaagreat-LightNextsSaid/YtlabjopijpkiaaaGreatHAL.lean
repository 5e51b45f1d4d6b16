import Derived.Test.YtlabjopijpkiaaaGreatHAK
set_option maxHeartbeats 16000000
set_option maxRecDepth 20000
set_option linter.unusedSectionVars false
set_option linter.unusedSimpArgs false
set_option linter.unusedVariables false
namespace Go.TL
open Go.Proofs.Tryz
open Go.Conc
variable [ZV]
section
variable {P:Program} {T:ZZ} {A:List Nat} {m nt:Nat} {k:List Item} {env env':Ζ} {σ:Τ} {Z:X9} {E:Yn} {ops:Array Oper} {lo pu ids:List Nat}
def Ri (ids:List Nat):I->Bool
 | .Ν id _ _ _=>ids.contains id
 | .ms id _ _ _=>ids.contains id
 | _=>false
def seen (ids:List Nat) (σ:Τ):List (Option Row):=ids.map λid=>σ[id]?
def Ln (T:ZZ) (A:List Nat) (env:Ζ) (o:Oper) (ids:List Nat) (σ:Τ) (K:I->Prop):Prop:=match o.op with
 | .load b x=>Ri ids (κ env x)=true/\(VO T A env o).Yf (λ_=>False) ((SQ T b σ (κ env x)).Yf λa _=>K a)
 | .fieldAddr b x f=>Ri ids (κ env x)=true/\(VO T A env o).Yf (λ_=>False) ((SP T b f σ (κ env x)).Yf λa _=>K a)
 | .indexAddr b x c=>Ri ids (κ env x)=true/\(VO T A env o).Yf (λ_=>False) ((SO T b σ (κ env x) (κ env c)).Yf λa _=>K a)
 | _=>False
theorem BJ {o:Oper} {ids:List Nat} {K:I->Prop}:Ln T A env o ids σ K=match o.op with
 | .load b x=>Ri ids (κ env x)=true/\(VO T A env o).Yf (λ_=>False) ((SQ T b σ (κ env x)).Yf λa _=>K a)
 | .fieldAddr b x f=>Ri ids (κ env x)=true/\(VO T A env o).Yf (λ_=>False) ((SP T b f σ (κ env x)).Yf λa _=>K a)
 | .indexAddr b x c=>Ri ids (κ env x)=true/\(VO T A env o).Yf (λ_=>False) ((SO T b σ (κ env x) (κ env c)).Yf λa _=>K a)
 | _=>False:=XH rfl rfl
def T5 (P:Program) (T:ZZ) (A:List Nat) (nt:Nat) (ops:Array Oper) (lo pu ids:List Nat):List Nat->Ζ->Τ->List Bool->(Ζ->Τ->Prop)->Prop
 | [],env,σ,tags,K=>P9 (TQ lo pu) ops tags=true/\K env σ
 | i::is,env,σ,tags,K=>Xr ops[i]? λo=>W2 nt o=true/\Xr (XT env ops o) λw=>
   Wx w (T5 P T A nt ops lo pu ids is (Zz o env .Zs) σ (tags++[false]) K)
    (Wx (!lo.contains i) (Ln T A env o ids σ λa=>T5 P T A nt ops lo pu ids is (Zz o env a) σ (tags++[true]) K)
     (P6 P T A env o σ (λa=>T5 P T A nt ops lo pu ids is (Zz o env a) σ (tags++[false]) K) (λa σ'=>(pu.contains i=true->seen ids σ'=seen ids σ)/\T5 P T A nt ops lo pu ids is (Zz o env a) σ' (tags++[true]) K)))
theorem BI {tags:List Bool} {K:Ζ->Τ->Prop}:T5 P T A nt ops lo pu ids [] env σ tags K=(P9 (TQ lo pu) ops tags=true/\K env σ):=XH rfl rfl
theorem BH {i:Nat} {is:List Nat} {tags:List Bool} {K:Ζ->Τ->Prop}:T5 P T A nt ops lo pu ids (i::is) env σ tags K=Xr ops[i]? λo=>W2 nt o=true/\Xr (XT env ops o) λw=>
   Wx w (T5 P T A nt ops lo pu ids is (Zz o env .Zs) σ (tags++[false]) K)
    (Wx (!lo.contains i) (Ln T A env o ids σ λa=>T5 P T A nt ops lo pu ids is (Zz o env a) σ (tags++[true]) K)
     (P6 P T A env o σ (λa=>T5 P T A nt ops lo pu ids is (Zz o env a) σ (tags++[false]) K) (λa σ'=>(pu.contains i=true->seen ids σ'=seen ids σ)/\T5 P T A nt ops lo pu ids is (Zz o env a) σ' (tags++[true]) K))):=XH rfl rfl
theorem BG {i:Wj} {l:ξ} (τ:Τ):(Q0 i l).YE τ=match Qb i l with|some a=>.ok a τ|none=>.bad:=by
 unfold Q0 Qb;split
 .split<;>rfl
 .cases l<;>rfl
theorem IN {ids:List Nat} {τ:Τ} {id:Nat} (h:seen ids τ=seen ids σ) (hi:ids.contains id=true):τ[id]?=σ[id]?:=by
 have a:=Le.1 hi;exact List.map_inj_left.1 h id a
theorem BF {ids:List Nat} {b:TypeId} {x:I} {τ:Τ} (c:seen ids τ=seen ids σ) (d:Ri ids x=true):(∀a σ',SQ T b σ x=.ok a σ'->SQ T b τ x=.ok a τ)/\∀p r,SQ T b σ x≠.Ze p r:=by
 unfold SQ;split
 .rename_i id n i j;rw[IN c d];split
  .split
   .split
    .rw[BG,BG];split
     .exact⟨λa σ' h=>(by cases h;rfl),nofun⟩
     .exact⟨nofun,nofun⟩
    .exact⟨nofun,nofun⟩
   .exact⟨nofun,nofun⟩
  .exact⟨nofun,nofun⟩
 .exact⟨nofun,nofun⟩
theorem BE {ids:List Nat} {b:TypeId} {f:Nat} {x:I} {τ:Τ} (c:seen ids τ=seen ids σ) (d:Ri ids x=true):(∀a σ',SP T b f σ x=.ok a σ'->SP T b f τ x=.ok a τ)/\∀p r,SP T b f σ x≠.Ze p r:=by
 unfold SP;split
 .rename_i id n i j;rw[IN c d];split
  .split
   .exact⟨λa σ' h=>(by cases h;rfl),nofun⟩
   .exact⟨nofun,nofun⟩
  .exact⟨nofun,nofun⟩
 .exact⟨nofun,nofun⟩
theorem BD {ids:List Nat} {b:TypeId} {x c:I} {τ:Τ} (d:seen ids τ=seen ids σ) (e:Ri ids x=true):(∀a σ',SO T b σ x c≠.ok a σ')/\∀p a σ',SO T b σ x c=.Ze p (.ok a σ')->SO T b τ x c=.Ze p (.ok a τ):=by
 unfold SO;split
 .split
  .rename_i id m i len;rw[IN d e];split
   .split
    .exact⟨nofun,λp a σ' h=>(by cases h;rfl)⟩
    .exact⟨nofun,nofun⟩
   .exact⟨nofun,nofun⟩
  .exact⟨nofun,nofun⟩
 .split
  .rename_i id m i j;rw[IN d e];split
   .split
    .exact⟨nofun,λp a σ' h=>(by cases h;rfl)⟩
    .exact⟨nofun,nofun⟩
   .exact⟨nofun,nofun⟩
  .exact⟨nofun,nofun⟩
 .exact⟨nofun,nofun⟩
theorem r5 (s:ZE P T) {i:Nat} {o:Oper} {K:I->Prop} (t:ops[i]?=some o) (hd:W2 nt o=true) (u:XT env ops o=some true) (h:Ln T A env o ids σ K) :
  ∃a,V3 o=true/\(∀τ:Τ,seen ids τ=seen ids σ->Pp P m nt k Z E ops i o env τ a τ)/\K a:=by
 unfold Ln at h;split at h
 .rename_i v x b;obtain⟨g,h⟩:=h;unfold Zl.Yf at h;split at h
  .exact h.elim
  .exact h.2.elim
  .exact h.elim
  .rename_i l;unfold Y6.Yf at h;split at h
   .rename_i a σ' d;refine⟨a,by unfold V3;rw[b],λτ n env' rest e r=>?_,h⟩;refine .op (A:=A) s t (by rw[UK e];exact u) hd (λc j=>by rw[b] at j;cases j) ?_;have:Wy T A env τ o=.ok a τ:=by unfold Wy;rw[b];exact(BF n g).1 a σ' d
    rw[P7 e,Np e,l,this];exact r
   .rename_i p a σ' d;exact absurd d ((BF (σ:=σ) (τ:=σ) rfl g).2 _ _)
   .exact h.elim
 .rename_i v x f b;obtain⟨g,h⟩:=h;unfold Zl.Yf at h;split at h
  .exact h.elim
  .exact h.2.elim
  .exact h.elim
  .rename_i l;unfold Y6.Yf at h;split at h
   .rename_i a σ' d;refine⟨a,by unfold V3;rw[b],λτ n env' rest e r=>?_,h⟩;refine .op (A:=A) s t (by rw[UK e];exact u) hd (λc j=>by rw[b] at j;cases j) ?_;have:Wy T A env τ o=.ok a τ:=by unfold Wy;rw[b];exact(BE n g).1 a σ' d
    rw[P7 e,Np e,l,this];exact r
   .rename_i p a σ' d;exact absurd d ((BE (σ:=σ) (τ:=σ) rfl g).2 _ _)
   .exact h.elim
 .rename_i v x w b;obtain⟨g,h⟩:=h;unfold Zl.Yf at h;split at h
  .exact h.elim
  .exact h.2.elim
  .exact h.elim
  .rename_i l;unfold Y6.Yf at h;split at h
   .rename_i a σ' d;exact absurd d ((BD (σ:=σ) (τ:=σ) rfl g).1 _ _)
   .rename_i p a σ' d;refine⟨a,by unfold V3;rw[b],λτ n env' rest e r=>?_,h.2⟩;refine .op (A:=A) s t (by rw[UK e];exact u) hd (λc j=>by rw[b] at j;cases j) ?_;have:Wy T A env τ o=.Ze p (.ok a τ):=by unfold Wy;rw[b];exact(BD n g).2 p a σ' d
    rw[P7 e,Np e,l,this];exact⟨h.1,r⟩
   .exact h.elim
 .exact h.elim
theorem r4 (D:ZE P T) {i:Nat} {o:Oper} {F:I->Prop} {H:I->Τ->Prop} (n:ops[i]?=some o) (hd:W2 nt o=true) (t:XT env ops o=some true) (h:P6 P T A env o σ F H) :
  ∃a σ' v,Wh P m nt k Z E ops i o env σ v a σ'/\(v=false->F a/\σ'=σ)/\(v=true->H a σ'):=by
 unfold P6 at h;split at h
 .rename_i f args S u;have J:∀env',SL ops o env env'->κ env' f=κ env f/\args.toList.map (κ env')=args.toList.map (κ env):=λenv' b=>by
   have w:=LY b;rw[u] at w;refine⟨w f (by simp[Op.operands,Call.operands]),LX λx O=>w x (by simp[Op.operands,Call.operands,O])⟩
  rcases h with⟨r,g,h⟩|⟨r,σ',g,h⟩
  .refine⟨r,σ,false,?_,λ_=>⟨h,rfl⟩,nofun⟩;unfold Wh;simp only[Xo,if_false];refine⟨λenv' σ' rest b j=>.call n (by rw[UK b];exact t) hd u ?_,trivial⟩;obtain⟨B,Φ⟩:=J env' b;rw[B,Φ];exact(g σ').mono (λa s ⟨x,y⟩=>by subst x;subst y;exact j) (λ_ _ h=>h.elim)
  .refine⟨r,σ',true,?_,nofun,λ_=>h⟩;unfold Wh;simp only[if_true];refine⟨?_,λd=>by unfold V3 at d;rw[u] at d;cases d⟩;refine λenv' rest b j=>.call n (by rw[UK b];exact t) hd u ?_;obtain⟨B,Φ⟩:=J env' b;rw[B,Φ];exact g.mono (λa s ⟨x,y⟩=>by subst x;subst y;exact j) (λ_ _ h=>h.elim)
 .exact h.elim
 .exact h.elim
 .rename_i U V L;have M:∀(r:Zl) (a:I),VO T A env o=r->(∀K:I->Τ->Prop,∀s,K a s->(r.YE s).holds K)->(∀σ s,r.or σ s=r.YE σ)->Pq P m nt k Z E ops i o env a:=λr a d C Q env' σ' rest b j=>by
   refine .op (A:=A) D n (by rw[UK b];exact t) hd (λc g=>L c g) ?_;rw[P7 b,d,Q];exact C _ _ j
  unfold Zl.Yf at h;split at h
  .rename_i a e;refine⟨a,σ,false,?_,λ_=>⟨h,rfl⟩,nofun⟩;unfold Wh;simp only[Xo,if_false];exact⟨M _ a e (λK s l=>l) (λ_ _=>rfl),trivial⟩
  .rename_i p a e;refine⟨a,σ,false,?_,λ_=>⟨h.2,rfl⟩,nofun⟩;unfold Wh;simp only[Xo,if_false];exact⟨M _ a e (λK s l=>⟨h.1,l⟩) (λ_ _=>rfl),trivial⟩
  .exact h.elim
  .rename_i R;have N:∀(a:I) (σ':Τ) (r:Y6),Wy T A env σ o=r->(∀K:I->Τ->Prop,K a σ'->r.holds K)->Pp P m nt k Z E ops i o env σ a σ':=λa σ' r d C env' rest b j=>by
    refine .op (A:=A) D n (by rw[UK b];exact t) hd (λc g=>L c g) ?_;rw[P7 b,Np b,R,d];exact C _ j
   unfold Y6.Yf at h;split at h
   .rename_i a σ' e;refine⟨a,σ',true,?_,nofun,λ_=>h⟩;unfold Wh;simp only[if_true];exact⟨N a σ' _ e λK l=>l,λd=>No (p:=True) d (.inl e)⟩
   .rename_i p a σ' e;refine⟨a,σ',true,?_,nofun,λ_=>h.2⟩;unfold Wh;simp only[if_true];exact⟨N a σ' _ e λK l=>⟨h.1,l⟩,λd=>No d (.inr e)⟩
   .exact h.elim
def Gg (lo pu ids:List Nat) (P:Program) (m nt:Nat) (k:List Item) (Z:X9) (E:Yn) (ops:Array Oper) (i:Nat) (o:Oper) (env:Ζ) (σ:Τ) (b:Bool) (a:I) (σ':Τ):Prop:=
 Wh P m nt k Z E ops i o env σ b a σ'/\(lo.contains i=true->b=true->V3 o=true/\∀τ:Τ,seen ids τ=seen ids σ->Pp P m nt k Z E ops i o env τ a τ)/\(pu.contains i=true->seen ids σ'=seen ids σ)
theorem rZ (p:ZE P T) {i:Nat} {is:List Nat} {tags:List Bool} {K:Ζ->Τ->Prop} (h:T5 P T A nt ops lo pu ids (i::is) env σ tags K) :
  ∃o a σ' d,ops[i]?=some o/\Gg lo pu ids P m nt k Z E ops i o env σ d a σ'/\T5 P T A nt ops lo pu ids is (Zz o env a) σ' (tags++[d]) K:=by
 unfold T5 Xr at h;split at h
 .exact h.elim
 .rename_i o b;obtain⟨hd,h⟩:=h;split at h
  .exact h.elim
  rename_i w j;unfold Wx at h;cases w
  .replace h:=h.1 rfl
   refine⟨o,.Zs,σ,false,b,⟨?_,λ_ h=>(by cases h),λ_=>rfl⟩,h⟩;unfold Wh;simp only[Xo,if_false];exact⟨λenv' σ' rest r s=>.unwanted b (by rw[UK r];exact j) hd s,trivial⟩
  .replace h:=h.2 rfl
   cases e:lo.contains i with
   | true=>
    rw[e] at h;obtain⟨a,f,g,l⟩:=r5 (m:=m) (k:=k) (Z:=Z) (E:=E) p b hd j (h.1 rfl);refine⟨o,a,σ,true,b,⟨?_,λ_ _=>⟨f,g⟩,λ_=>rfl⟩,l⟩;unfold Wh;simp only[if_true];exact⟨g σ rfl,λ_=>trivial⟩
   | false=>
    rw[e] at h;obtain⟨a,σ',d,f,g,l⟩:=r4 (m:=m) (k:=k) (Z:=Z) (E:=E) p b hd j (h.2 rfl);cases d with
    | false=>
     obtain⟨n,rfl⟩:=g rfl;exact⟨o,a,σ',false,b,⟨f,λc=>(by rw[e] at c;cases c),λ_=>rfl⟩,n⟩
    | true=>
     obtain⟨n,t⟩:=l rfl;exact⟨o,a,σ',true,b,⟨f,λc=>(by rw[e] at c;cases c),n⟩,t⟩
theorem rY (t:ZE P T) {K:Ζ->Τ->Prop} {env0:Ζ}:∀(d i:Nat) (tags:List Bool) (as9:Nat->I) (σs:Nat->Τ),i+d=ops.size->tags.length=i->
  (∀j o,j<i->ops[j]?=some o->Gg lo pu ids P m nt k Z E ops j o (Zj ops env0 as9 (λ_=>true) j) (σs j) (tags.getD j false) (as9 j) (σs (j+1)))->
  T5 P T A nt ops lo pu ids (List.range' i d) (Zj ops env0 as9 (λ_=>true) i) (σs i) tags K->
  ∃(tags:List Bool) (as9:Nat->I) (b:Nat->Τ),P9 (TQ lo pu) ops tags=true/\b 0=σs 0/\(∀j o,ops[j]?=some o->Gg lo pu ids P m nt k Z E ops j o (Zj ops env0 as9 (λ_=>true) j) (b j) (tags.getD j false) (as9 j) (b (j+1)))/\K (Zj ops env0 as9 (λ_=>true) ops.size) (b ops.size):=by
 intro d
 induction d with
 | zero=>
  intro i tags as9 σs hi n g h;simp only[List.range'_zero,T5] at h;have:i=ops.size:=U;subst this;exact⟨tags,as9,σs,h.1,rfl,λj o f=>g j o (T3.1 f).1 f,h.2⟩
 | succ d u=>
  intro i tags as9 σs hi n g h;rw[MB] at h;obtain⟨o,a,σ',l,f,v,h⟩:=rZ (m:=m) (k:=k) (Z:=Z) (E:=E) t h;let c:Nat->I:=λj=>if j=i then a else as9 j
  let b:Nat->Τ:=λj=>if j=i+1 then σ' else σs j
  have p:∀j,j<=i->Zj ops env0 as9 (λ_=>true) j=Zj ops env0 c (λ_=>true) j:=λj g=>HR j λx L=>by simp only[c];rw[if_neg U]
  have w:Zj ops env0 c (λ_=>true) (i+1)=Zz o (Zj ops env0 as9 (λ_=>true) i) a:=by
   simp only[Zj,if_true,f];rw[<-p i (Z5 i)];simp only[c,if_true]
  have:=u (i+1) (tags++[l]) c b U (by simp[n]) (λj y M r=>?_) ?_
  .obtain⟨t2,B,C,D,F,H,J⟩:=this;exact⟨t2,B,C,D,F.trans (by simp only[b];rw[if_neg U]),H,J⟩
  .by_cases e:j=i
   .subst e;rw[f] at r;cases r;rw[<-p j (Z5 j)];have s:(tags++[l]).getD j false=l:=by rw[Xd,XG U,n];simp
    rw[s];simp only[c,b,if_true];rw[if_neg U];exact v
   .have:=g j y U r;rw[<-p j U];have s:(tags++[l]).getD j false=tags.getD j false:=by rw[Xd,YL U,<-Xd]
    rw[s];simp only[c,b];rw[if_neg U,if_neg U,if_neg U];exact this
  .rw[w];simp only[b,if_true];exact h
theorem W.BC (lo pu ids:List Nat) (u:ZE P T) (w:P.follows .mixedOrders=true) {id:Nat} (h:∀g:Ζ->Τ->Prop,(∀env σ,W P m nt k env σ Z E->g env σ)->T5 P T A nt ops lo pu ids (idx ops.size []) env σ [] g):W P m nt (.code (.region id ops true)::k) env σ Z E:=by
 have l:=h (λenv σ=>W P m nt k env σ Z E) λ_ _ h=>h;rw[idx_eq,Lc] at l;obtain⟨tags,as9,σs,y,C,d,D⟩:=rY (m:=m) (k:=k) (Z:=Z) (E:=E) (env0:=env) u ops.size 0 [] (λ_=>.Zs) (λ_=>σ) U rfl (λj o F=>U) l;intro I mn x cs b S B H t p r f K L;refine .draw p r λn=>?_;have s:=W.EN (lo:=lo) (pu:=pu) (v:=seen ids) (P:=P) (m:=m) (nt:=nt) (k:=k) (Z:=Z) (E:=E) (ops:=ops) (as9:=as9) (σs:=σs) (tags:=tags) (env0:=env) y
  (λi o a c=>by have:=(d i o a).1;unfold Wh at this;rw[c] at this;simpa using this)
  (λi o a c=>by have:=(d i o a).1;unfold Wh at this;rw[c] at this;simpa using this)
  (λi o a e c=>(d i o a).2.1 e c) (λi o a f=>(d i o a).2.2 f)
  (.ZH D) ops.size n (Array.replicate ops.size false) env 0 J (λi=>?_) (λi o a e=>?_) (ω _) (λj F _=>?_) ?_
 .rw[C] at s;rw[w];simp only[Region.schedule,Bool.true_or,if_true,Region.linearise];exact s I mn x cs b S B H t p r f K L
 .have:∀n,Zj ops env as9 (λi=>(Array.replicate ops.size false).getD i false) n=env:=by
   intro n
   induction n with
   | zero=>rfl
   | succ n M=>
    simp only[Zj];have:(Array.replicate ops.size false).getD n false=false:=by
     rw[WV,OY];split<;>rfl
    rw[if_neg (by rw[this];simp)];exact M
  rw[this]
 .have:(Array.replicate ops.size false).getD i false=false:=by
   rw[WV,OY];split<;>rfl
  rw[this] at e;cases e
 .have:(Array.replicate ops.size false).getD j false=false:=by
   rw[WV,OY];split<;>rfl
  rw[this];simp
 .have:=Ld (λi=>!(Array.replicate ops.size false).getD i false) (List.range ops.size);simpa using this
end
end Go.TL
namespace Go.TL
open Go.Proofs.Tryz
open Go.Proofs
variable [ZV]
def Xw {a:Type} (b:Nat):List (List a)->ξ
 | []=>[]
 | l::C=>.ms b l.length 0 l.length::Xw (b+1) C
def W5 (C:List (List Y9)):Τ:=C.map λl=>.cells 28 3 (l.map Zr)
theorem rX {a:Type} (b:Nat) (C:List (List a)) (l:List a):Xw b (C++[l])=Xw b C++[.ms (b+C.length) l.length 0 l.length]:=by
 induction C generalizing b with
 | nil=>rfl
 | cons c C d=>
  show _::Xw (b+1) (C++[l])=_;rw[d,show b+1+C.length=b+(c::C).length by simp;omega];rfl
theorem MG {a:Type} (b:Nat) (C:List (List a)):(Xw b C).length=C.length:=by
 induction C generalizing b with
 | nil=>rfl
 | cons c C d=>simp[Xw,d]
theorem BB (σ L:Τ) (k:Nat):(σ++L)[σ.length+k]?=L[k]?:=by rw[XG U];congr 1;omega
theorem rW (σ L:Τ):(σ++L)[σ.length]?=L[0]?:=BB σ L 0
theorem BA (σ L:Τ) (k:Nat) (x:Row):(σ++L).set (σ.length+k) x=σ++L.set k x:=by rw[PF _ _ U];congr 2;omega
theorem rV (σ L:Τ) (x:Row):(σ++L).set σ.length x=σ++L.set 0 x:=BA σ L 0 x
theorem rU (s:Δ) (h:s.small) (σ:Τ):Ξ prog 25 [Zh s] σ (λa r=>a=.Z7 [ZI s.ς,ZT s.Β,.ms (σ.length+2) s.cells.length 0 s.cells.length]/\r=σ++(.dead::.dead::.cells 60 1 (Xw (σ.length+3) s.cells)::W5 s.cells)) (λ_ _=>False):=by
 obtain⟨E,K,m,o,Y⟩:=h;obtain⟨n,f⟩:=ψ σ.length;have d:=BB σ;have t:=rW σ;have v:=BA σ;have y:=rV σ;rw[<-f] at d t v y ⊢;refine Ξ.body Ρ func25 rfl rfl ntmps25 rfl rfl J ?_
 repeat apply Ο
 refine Y4 (A:=[2]) Ρ λT B=>?_;simp;(repeat (rw[Μ];simp[f.symm]));apply B;refine W.to (σ':=σ++[YV (.sl true 0 []) (.sl true 0 []) (.sl true 0 [])]) (env':=[(1,Z6 s),(2,.Ν n 1 0 0)]) ?_ J J
 repeat apply Ο
 refine W.draw (A:=[3]) Ρ mixed λT B=>?_;simp;(repeat (rw[ZL];simp[f.symm]));try rw[ZM]
 refine⟨U,?_⟩;refine YD (Κ.p (Ex s.Β U (λx Z=>by have:=o x Z;omega)) (ZO.refl _) J J) ?_;simp[f.symm];(repeat (rw[ZL];simp[f.symm]));try rw[ZM]
 refine YG (B _ _ ?_);refine W.to (σ':=σ++[YV (.sl true 0 []) (.sl true 0 []) (.sl true 0 []),YV (ZI s.ς) (ZT s.Β) (.sl true 0 [])]) (env':=[(1,Z6 s),(2,.Ν n 1 0 0),(3,.Ν (n+1) 1 0 0)]) ?_ J J;have aa:N2 (n+2) (YV (ZI s.ς) (ZT s.Β) (.sl true 0 [])) (YV (ZI s.ς) (ZT s.Β) (.ms (n+2) 0 0 0)):=by
  refine .inr ⟨26,3,_,_,rfl,rfl,rfl,λi e af E K=>?_⟩
  match i with
  | 0=>
   simp at E K;subst E;subst K;refine⟨rfl,λx a ag m o=>?_⟩
   match x with
   | 0=>simp[I.cells] at m o;subst m;subst o;exact .same _
   | 1=>simp[I.cells] at m o;subst m;subst o;exact .same _
   | 2=>simp[I.cells] at m o;subst m;subst o;exact .nil
   | x+3=>simp[I.cells] at m
  | i+1=>simp at E
 have ab:(σ++[YV (.sl true 0 []) (.sl true 0 []) (.sl true 0 []),YV (ZI s.ς) (ZT s.Β) (.sl true 0 [])]).length=n+2:=by simp[<-f]
 refine W.B7 60 1 (i:=n+1) (r:=YV (ZI s.ς) (ZT s.Β) (.sl true 0 [])) (r':=YV (ZI s.ς) (ZT s.Β) (.ms (n+2) 0 0 0)) (by rw[d];rfl) (by rw[ab];exact aa) [(1,Z6 s),(2,.Ν n 1 0 0),(3,.Ν (n+1) 1 0 0)] (λp g=>by
  simp only[Zf,Yk,or_false] at g;rcases g with rfl|rfl|rfl<;>exact .same _) ?_
 rw[v,Ur];refine Χ ?_;refine W.iter (λi:Nat=>i<=s.cells.length) (λi=>[(1,Z6 s),(2,.Ν n 1 0 0),(3,.Ν (n+1) 1 0 0),(4,R i)])
  (λi=>σ++(YV (.sl true 0 []) (.sl true 0 []) (.sl true 0 [])::YV (ZI s.ς) (ZT s.Β) (.ms (n+2) i 0 i)::.cells 60 1 (Xw (n+3) (s.cells.take i))::W5 (s.cells.take i))) (λi=>s.cells.length-i) 0 (ω _) (by simp[Xw,W5]) J (λi hi w=>?_)
 refine Χ ?_;refine W.YM rfl (λc=>?_) (λc=>?_)
 .have c:i<s.cells.length:=by simpa using c
  have g:s.cells[i].length<2 ^ 30:=Y _ (Y7 c)
  have L:s.cells.take (i+1)=s.cells.take i++[s.cells[i]]:=Wp c
  have ad:=Yx c (show s.cells.length<2 ^ 62 by omega)
  have M:=ζ c;obtain⟨l,N⟩:=ψ (s.cells[i]);have V:∀h,s.cells[i]'h=l:=λh=>N.symm;rw[<-N] at L M g;have O:(Xw (n+3) (s.cells.take i)).length=i:=by rw[MG,Tq];omega
  have P:(W5 (s.cells.take i)).length=i:=by unfold W5;rw[Yh,Tq];omega
  have F:=rX (n+3) (s.cells.take i) l
  have Q:W5 (s.cells.take i++[l])=W5 (s.cells.take i)++[.cells 28 3 (l.map Zr)]:=by simp[W5]
  have ae:(s.cells.take i).length=i:=by rw[Tq];omega
  rw[ae] at F;rw[<-L] at F Q;have w:=w (i+1) c U;rw[F,Q] at w;obtain⟨u,C⟩:=ψ (Xw (n+3) (s.cells.take i));obtain⟨D,H⟩:=ψ (W5 (s.cells.take i));rw[<-C] at O w ⊢;rw[<-H] at P w ⊢;clear C H F Q L N;have ah:∀x,(σ++(YV (.sl true 0 []) (.sl true 0 []) (.sl true 0 [])::YV (ZI s.ς) (ZT s.Β) (.ms (n+2) (i+1) 0 (i+1))::.cells 60 1 (u++[x])::D))[n+2]?=some (.cells 60 1 (u++[x])):=λx=>by rw[d];rfl
  repeat apply Ο
  refine W.BC [0,1] [8,9] [n+1] (A:=[28,30]) Ρ mixed λT B=>?_;simp[f.symm,d,t,v,y,c,M,V,O,P]
  repeat (rw[BH];simp[BJ,seen,Ri,f.symm,d,t,v,y,c,M,V,O,P])
  try rw[BI]
  refine⟨U,U,HS (by kernel_rfl),B _ _ ?_⟩;refine Χ ?_;refine W.to w ?_ (by simp[ad]);simp;omega
 .have c:i=s.cells.length:=by simp at c;omega
  subst c;refine W.exit rfl ?_;rw[RR];obtain⟨u,C⟩:=ψ (Xw (n+3) s.cells);obtain⟨D,H⟩:=ψ (W5 s.cells);have X:u.length<=s.cells.length:=by rw[C,MG];exact Z5 _
  rw[<-C,<-H]
  repeat apply Ο
  refine W.Xk (A:=[]) Ρ [(2,.Ν n 1 0 0)] (σ++(YV (ZI s.ς) (ZT s.Β) (.ms (n+2) s.cells.length 0 s.cells.length)::YV (ZI s.ς) (ZT s.Β) (.ms (n+2) s.cells.length 0 s.cells.length)::.cells 60 1 u::D)) ?_ (by
   (try simp);(repeat (rw[Μ];simp[f.symm,d,t,v,y,X]));(try simp[f.symm,d,t,v,y,X]))
  refine W.PJ (σ':=σ++(YV (ZI s.ς) (ZT s.Β) (.ms (n+2) s.cells.length 0 s.cells.length)::.dead::.cells 60 1 u::D)) (id:=n+1) U (by rw[d];rfl) J (by rw[d];rfl) (λj r S b=>⟨r,?_,.inl rfl⟩) [(2,.Ν n 1 0 0)] (λp g=>by simp at g;subst g;exact .same _) ?_
  .by_cases e:j<n
   .rw[YL U] at b ⊢;exact b
   .obtain⟨k,rfl⟩:∃k,j=n+k:=⟨j-n,U⟩;rw[d] at b ⊢
    match k,S,b with
    | 0,_,b=>exact b
    | 1,h,_=>exact absurd rfl h
    | k+2,_,b=>exact b
  refine W.PJ (σ':=σ++(.dead::.dead::.cells 60 1 u::D)) (id:=n) U (by rw[t];rfl) J (by rw[t];rfl) (λj r S b=>⟨r,?_,.inl rfl⟩) [(2,.π [ZI s.ς,ZT s.Β,.ms (n+2) s.cells.length 0 s.cells.length])] (λp g=>by simp at g;subst g;exact .Ν (e:=.Z7 [ZI s.ς,ZT s.Β,.ms (n+2) s.cells.length 0 s.cells.length]) rfl) ?_
  .by_cases e:j<n
   .rw[YL U] at b ⊢;exact b
   .obtain⟨k,rfl⟩:∃k,j=n+k:=⟨j-n,U⟩;rw[d] at b ⊢
    match k,S,b with
    | 0,h,_=>exact absurd rfl h
    | k+1,_,b=>exact b
  exact W.ret ⟨_,rfl,rfl,rfl⟩
theorem rT (s:Δ) (h:s.small) {σ:Τ} {K E:I->Τ->Prop} {b:I} (c:Y3 b (Zh s)) (f:χ 0 b) (d:K (.Z7 [ZI s.ς,ZT s.Β,.ms (σ.length+2) s.cells.length 0 s.cells.length]) (σ++(.dead::.dead::.cells 60 1 (Xw (σ.length+3) s.cells)::W5 s.cells))) :
  WO prog (.fn (.func 25) [] []) [b] σ K E:=
 Ξ.call (first:=[]) (captured:=[]) (Ξ.mono (Ξ.TP (rU s h σ) (ZO.cons c .nil) (K':=λa r=>a=.Z7 [ZI s.ς,ZT s.Β,.ms (σ.length+2) s.cells.length 0 s.cells.length]/\r=σ++(.dead::.dead::.cells 60 1 (Xw (σ.length+3) s.cells)::W5 s.cells)) (λa s h=>⟨_,.refl _,h⟩)) (λa r ⟨e,Φ⟩=>by rw[e,Φ];exact d) (λa s h=>h.elim))
theorem rS:∀k<256,UI ⟨#[UInt8.ofNat k]⟩=false->97<=k/\k<=122:=by decide +kernel
theorem rR {n:ByteArray} (h:UI n=false):∃b:UInt8,n=⟨#[b]⟩/\97<=b.toNat/\b.toNat<=122:=by
 have c:n.size=1:=by
  unfold UI at h;simp only[Bool.or_eq_false_iff] at h;have:=h.1.1;simpa using this
 obtain⟨d⟩:=n;have hd:d=#[d[0]'(by show 0<ByteArray.size ⟨d⟩;omega)]:=by
  apply Array.ext
  .exact c
  .intro i e a;have:i=0:=by simp at a;exact a
   subst this;rfl
 generalize d[0]'_=b at hd;subst hd;refine⟨b,rfl,rS b.toNat b.toNat_lt ?_⟩;rw[UInt8.ofNat_toNat];exact h
end Go.TL
namespace Go.TL
open Go.Proofs.Tryz
open Go.Proofs
@[simp] theorem oE:VQ .bool=true:=rfl
section
variable [ZV]
theorem Bz {a:Type} (b:Nat) (L:List (List a)) (j:Nat):(Xw b L)[j]?=L[j]?.map λl=>.ms (b+j) l.length 0 l.length:=by
 induction L generalizing b j with
 | nil=>simp[Xw]
 | cons l L c=>
  cases j with
  | zero=>simp[Xw]
  | succ j=>simp only[Xw,List.getElem?_cons_succ];rw[c,show b+1+j=b+(j+1) by omega]
theorem rQ {a:Type} (b:Nat) (L:List (List a)) (c:Nat) (x:List a):Xw b (L.set c x)=(Xw b L).set c (.ms (b+c) x.length 0 x.length):=by
 induction L generalizing b c with
 | nil=>simp[Xw]
 | cons l L d=>
  cases c with
  | zero=>simp[Xw]
  | succ c=>simp only[Xw,List.set_cons_succ];rw[d,show b+1+c=b+(c+1) by omega]
theorem rP (L:List (List Y9)) (c:Nat) (x:List Y9):W5 (L.set c x)=(W5 L).set c (.cells 28 3 (x.map Zr)):=by
 unfold W5;rw[Mx]
theorem By (L:List (List Y9)) (c:Nat):(W5 L)[c]?=L[c]?.map λl=>.cells 28 3 (l.map Zr):=by unfold W5;rw[Yl]
theorem MF (L:List (List Y9)):(W5 L).length=L.length:=by unfold W5;rw[Yh]
theorem rO {i:Type} {f:i->I} {T t:TypeId} {k h b id:Nat} {σ:Τ} {L:List (List i)} (B:h<=b) (s:h<=id) (u:∀(j:Nat) (l:List i),L[j]?=some l->σ[b+j]?=some (.cells t k (l.map f))) (v:σ[id]?=some (.cells T 1 (Xw b L))) (w:∀p,∀a∈(f p).cells,χ h a):Yr h σ (.ms id L.length 0 L.length) (.sl false 1 (L.map λl=>.sl false k (l.map f))):=by
 have o:∀(j:Nat) (e d:I),(Xw b L)[0+j]?=some e->(L.map λl=>I.sl false k (l.map f))[j]?=some d->∃l:List i,L[j]?=some l/\e=.ms (b+j) l.length 0 l.length/\d=.sl false k (l.map f):=λj e d c g=>by
  rw[U',Bz] at c;rw[Yl] at g;cases m:L[j]? with
  | none=>rw[m] at c;cases c
  | some l=>rw[m] at c g;cases c;cases g;exact⟨l,rfl,rfl,rfl⟩
 refine .ms s v (MG b L) (by rw[U'];exact Z5 _) J (λj e d c g=>?_) (λj e d c g x a C n r=>?_)
 .obtain⟨l,_,rfl,rfl⟩:=o j e d c g;rfl
 .obtain⟨l,m,rfl,rfl⟩:=o j e d c g
  match x with
  | 0=>
   simp[I.cells] at n r;subst n;subst r;refine Yr.own U (u j l m) J (λe y a A=>?_);obtain⟨p,_,rfl⟩:=Zc.1 y;exact w p a A
  | x+1=>simp[I.cells] at n
theorem rN {h b id:Nat} {σ:Τ} {L:List (List Y9)} (d:h<=b) (e:h<=id) (g:∀(j:Nat) (l:List Y9),L[j]?=some l->σ[b+j]?=some (.cells 28 3 (l.map Zr))) (i:σ[id]?=some (.cells 60 1 (Xw b L))):Yr h σ (.ms id L.length 0 L.length) (SK L):=
 rO (f:=Zr) d e g i λp a c=>by
  simp[I.cells] at c;rcases c with rfl|rfl|rfl<;>simp
end
end Go.TL
namespace Go.TL
open Go.Proofs.Tryz
open Go.Proofs
variable [ZV]
def IM (s:Δ) (F:List Found):Prop:=s.err=0->Yd s/\F=ZQ s
theorem O2 {s:Δ} (h:Yd s) {f:Found} (d:f∈ZQ s):f.cells.length=s.cells.length/\(∀c∈f.cells,c.length<=49)/\∀a i,i<=f.cells.length->Xb f.cells a i<=5764801:=by
 obtain⟨k,_,_,rfl⟩:=Gl.1 d;have b:(X4 s (Yz k)).cells.length=s.cells.length:=by simp[X4]
 exact⟨b,Gm h _,λa i hi=>Lo h _ a (by rw[<-b];exact hi)⟩
theorem rM (s:Δ) (v:s.small) (F:List Found) (w:IM s F):Κ prog 55 [Zh s] (.ZX [R (if s.err=0 then X6 F else 0),R s.err]):=by
 refine Ξ.body Ρ func55 rfl rfl ntmps55 rfl rfl J ?_;refine Χ ?_;refine ZU λm b=>?_;refine Κ.d (GG s v) (Z1 ?_);apply b;refine Χ ?_;by_cases e:s.err=0
 case neg=>
  rw[if_neg e];generalize s.err=I at e;refine Ε (by simp[e]) ?_;refine Χ ?_;refine W.rt ?_;exact .refl _
 obtain⟨a,n⟩:=w e;have o:=B4 s a;have x:=N5 s;have y:∀f∈F,f.cells.length=s.cells.length/\(∀c∈f.cells,c.length<=49)/\∀A i,i<=f.cells.length->Xb f.cells A i<=5764801:=λf h=>O2 a (by rw[<-n];exact h);have K:=a.many;rw[<-n] at o x;rw[e,if_pos rfl];refine Η J ?_;refine Χ ?_;refine ZU λm b=>?_;refine Κ.d (o) (Z1 ?_);apply b;refine Χ ?_;refine W.iter (λi:Nat=>i<=F.length/\X6 (F.take i)<=i*5764801) (λi=>[(5,R (X6 (F.take i))),(6,Vr F),(7,R i)]) (λ_=>[]) (λi=>F.length-i) 0 ⟨ω _,by simp[X6]⟩ rfl (by simp[X6]) (λi hi j=>?_);obtain⟨L,M⟩:=hi;by_cases g:i<F.length
 .have l:(i:Int)<(F.length:Int):=U
  have p:=ζ g;obtain⟨f,a⟩:=ψ (F[i]);have B:f∈F:=a▸Y7 g;rw[<-a] at p;have C:∀h,F[i]'h=f:=λh=>a.symm;obtain⟨N,_,r⟩:=y f B;have D:=Gk f (-1) U (λk E=>by have:=r (-1) k E;omega);have O:=r (-1) f.cells.length (Z5 _);have t:X6 (F.take (i+1))=X6 (F.take i)+f.many (-1):=by
   rw[Wp g,<-a];simp[X6]
  have u:=XI (i:=i) U
  have j:=j (i+1) ⟨g,by rw[t];unfold Found.many;omega⟩ U;rw[t] at j;have H:IntKind.i64.wrap ((X6 (F.take i):Int)+(f.many (-1):Nat))=((X6 (F.take i)+f.many (-1):Nat):Int):=by
   unfold Found.many;rw[IntWalk.i64_in _ U,Int.natCast_add]
  refine Ι l ?_;refine Ε J ?_;refine XM (Υ p (Υ C g)) λm b=>?_;refine Κ.d (D) (XC H ?_);apply b;refine Ι u ?_;exact W.to j rfl (by simp[u])
 have l:¬(i:Int)<(F.length:Int):=U;rw[US U];refine Ι l ?_;refine Η J ?_;refine W.exit rfl ?_;refine Χ ?_;refine W.rt ?_;exact .refl _
def Wq (s:Δ) (f:Found) (c n:Nat) (a:Int) (j:Nat):Nat:=((((f.cells[c]?).getD []).take j).countP λr=>decide (s.Y1 (f.u,f.v) r n=a))*f.many c
def VH (s:Δ) (F:List Found) (c n:Nat) (a:Int) (i:Nat):Nat:=((F.take i).map λf=>Wq s f c n a ((f.cells[c]?).getD []).length).sum
def UG (s:Δ) (F:List Found) (c n:Nat) (k:Nat):Nat:=(List.range k).foldl (λb (a:Nat)=>max b (VH s F c n a F.length)) 0
theorem rL (s:Δ) (f:Found) (c n:Nat) (a:Int) {j:Nat} (h:j<((f.cells[c]?).getD []).length):Wq s f c n a (j+1)=Wq s f c n a j+if s.Y1 (f.u,f.v) ((f.cells[c]?).getD [])[j] n=a then f.many c else 0:=by
 unfold Wq;rw[Wp h,List.countP_append,Xi];congr 1;by_cases b:s.Y1 (f.u,f.v) ((f.cells[c]?).getD [])[j] n=a
 .simp[b]
 .simp[b]
theorem Gf (s:Δ) (F:List Found) (c n:Nat) (a:Int) {i:Nat} (h:i<F.length):VH s F c n a (i+1)=VH s F c n a i+Wq s F[i] c n a ((F[i].cells[c]?).getD []).length:=by
 unfold VH;rw[Wp h,XR,List.sum_append];simp
theorem Ge (s:Δ) (F:List Found) (c n k:Nat):UG s F c n (k+1)=max (UG s F c n k) (VH s F c n k F.length):=by
 unfold UG;rw[Vp,RS];rfl
theorem Bx (s:Δ) (f:Found) (c n:Nat) (a:Int) (j:Nat) (d:((f.cells[c]?).getD []).length<=49) (b:f.many c<=5764801):Wq s f c n a j<=282475249:=by
 unfold Wq;have:((((f.cells[c]?).getD []).take j).countP λr=>decide (s.Y1 (f.u,f.v) r n=a))<=49:=Ya List.countP_le_length (by rw[Tq];omega);exact RQ this b
theorem Gd {s:Δ} (h:Yd s) {f:Found} (a:f∈ZQ s) (c:Int):f.many c<=5764801:=by
 obtain⟨_,_,b⟩:=O2 h a;exact b c _ (Z5 _)
theorem Gc {s:Δ} (h:Yd s) {f:Found} (a:f∈ZQ s) (c:Nat):((f.cells[c]?).getD []).length<=49:=by
 obtain⟨_,b,_⟩:=O2 h a;cases d:f.cells[c]? with
 | none=>simp
 | some e=>exact b e (Zp d)
theorem IL {s:Δ} (h:Yd s) (c n:Nat) (a:Int):∀i,i<=(ZQ s).length->VH s (ZQ s) c n a i<=i*282475249
 | 0,_=>by simp[VH]
 | i+1,hi=>by
  have d:=IL h c n a i U
  have b:=Y7 (show i<(ZQ s).length by omega);rw[Gf _ _ _ _ _ U];have:=Bx s (ZQ s)[i] c n a (((ZQ s)[i].cells[c]?).getD []).length (Gc h b c) (Gd h b c);omega
theorem Gb {s:Δ} (h:Yd s) (c n:Nat):∀k,UG s (ZQ s) c n k<=3*282475249
 | 0=>by simp[UG]
 | k+1=>by
  have a:=Gb h c n k
  have:=IL h c n k _ (Z5 _)
  have:=N5 s;rw[Ge];omega
theorem rK (s:Δ) (h:Yd s) (c n:Nat) (aG:c<s.cells.length) (au:n<s.Β.length):Κ prog 81 [Zh s,Vr (ZQ s),R c,R n] (R (UG s (ZQ s) c n 64)):=by
 have ad:=Gh h
 have av:=h.small
 have aw:=N5 s
 have ae:=Gb h c n
 have E:=IL h c n
 have Q:∀f∈ZQ s,c<f.cells.length/\(∀g,f.cells[c]?=some g->g.length<=49/\∀r∈g,r.1<s.ς.length/\r.2<s.ς.length)/\f.many c<=5764801:=λf k=>by
  obtain⟨ax,af,_⟩:=O2 h k;exact⟨U,λg l=>⟨af g (Zp l),(ad.cells f k).2 g (Zp l) |>.2⟩,Gd h k c⟩
 have S:∀f∈ZQ s,Κ prog 114 [QA f,R c] (R (f.many c)):=λf k=>by
  obtain⟨_,_,ay⟩:=O2 h k;obtain⟨ax,af,_⟩:=O2 h k;have aH:=h.many;exact Gk f c U (λi hi=>by have:=ay c i hi;omega)
 generalize ZQ s=F at aw ae E Q S;clear ad;refine Ξ.body Ρ func81 rfl rfl ntmps81 rfl rfl J ?_;refine Χ ?_;refine W.iter (λa:Nat=>a<=64) (λa=>[(4,Z6 s),(1,Vr F),(2,R c),(3,R n),(9,R (UG s F c n a)),(10,R a)]) (λ_=>[]) (λa=>64-a) 0 Z3 rfl (by simp[UG]) (λa aI o=>?_);by_cases aJ:a<64
 case neg=>
  obtain rfl:a=64:=U;clear o;refine Χ ?_;refine Η J ?_;refine W.exit rfl ?_;refine Χ ?_;refine W.rt ?_;exact .of rfl
 have az:(a:Int)<=63:=U
 have ag:=XI (i:=a) U
 have o:=o (a+1) U U;rw[Ge] at o;have E:=E a;generalize UG s F c n a=b at o;refine Ι az ?_;refine Ε J ?_;refine Χ ?_;refine W.iter (λi:Nat=>i<=F.length) (λi=>[(4,Z6 s),(1,Vr F),(2,R c),(3,R n),(9,R b),(10,R a),(11,R (VH s F c n a i)),(12,R i)]) (λ_=>[]) (λi=>F.length-i) 0 (ω _) rfl (by simp[VH]) (λi hi m=>?_);by_cases y:i<F.length
 case neg=>
  have T:¬(i:Int)<(F.length:Int):=U;obtain rfl:i=F.length:=U;clear m;generalize VH s F c n a F.length=t at o;refine Ι T ?_;refine Η J ?_;refine W.exit rfl ?_;refine Ι ag ?_;exact W.to o rfl (by simp[ag];split<;>omega)
 have T:(i:Int)<(F.length:Int):=U
 have ah:=XI (i:=i) U
 have H:=ζ y
 have m:=m (i+1) y U;rw[Gf _ _ _ _ _ y] at m;have aA:=E i hi;obtain⟨f,k⟩:=ψ (F[i]);have ai:f∈F:=k▸Y7 y;rw[<-k] at H m;have K:∀h,F[i]'h=f:=λh=>k.symm;obtain⟨L,aj,ak⟩:=Q f ai;have al:=S f ai;have l:=ζ L;obtain⟨g,V⟩:=ψ (f.cells[c]);rw[<-V] at l;obtain⟨aB,am⟩:=aj g l;have X:∀h,f.cells[c]'h=g:=λh=>V.symm;have an:∀j,j<g.length->Wq s f c n a (j+1)=Wq s f c n a j+if s.Y1 (f.u,f.v) (g.getD j (0,0)) n=a then f.many c else 0:=λj Y=>by
  have ao:(f.cells[c]?).getD []=g:=by rw[l];rfl
  have:=rL s f c n a (j:=j) (by rw[ao];exact Y);rw[this];simp only[ao];rw[Xd,ζ Y];rfl
 have ap:∀j,Wq s f c n a j<=282475249:=λj=>Bx s f c n a j (by rw[l];exact aB) ak;rw[l] at m;simp only[Option.getD_some] at m;generalize VH s F c n a i=t at m aA;have aC:Wq s f c n a 0=0:=by simp[Wq]
 clear Q S k V aj o ae E;refine Ι T ?_;refine Ε J ?_;refine Χ ?_;refine W.iter (λj:Nat=>j<=g.length) (λj=>[(4,Z6 s),(1,Vr F),(2,R c),(3,R n),(9,R b),(10,R a),(11,R ((t+Wq s f c n a j:Nat):Int)),(12,R i),(13,R j)]) (λ_=>[]) (λj=>g.length-j) 0 (ω _) rfl (by simp[aC]) (λj Y B=>?_);by_cases C:j<g.length
 case neg=>
  have M:¬(j:Int)<(g.length:Int):=U;obtain rfl:j=g.length:=U;clear B;refine Ι (Υ H (Υ K (Υ y (Υ l (Υ X (Υ L M)))))) ?_;refine Η J ?_;refine W.exit rfl ?_;refine Ι ah ?_;exact W.to m rfl (by simp[ah])
 have M:(j:Int)<(g.length:Int):=U
 have N:=XI (i:=j) U
 have Z:=ζ C
 have B:=B (j+1) C U
 have D:=an j C
 have aD:=ap (j+1);rw[Xd,Z] at D;simp only[Option.getD_some] at D;obtain⟨x,O⟩:=ψ (g[j]);have aa:=am x (O▸Y7 C);rw[<-O] at Z D;have aE:∀h,g[j]'h=x:=λh=>O.symm;have aq:=IQ s av (f.u,f.v) x n au aa.1 aa.2;have P:s.Y1 (f.u,f.v) x n=(a:Int)->Wq s f c n a (j+1)=Wq s f c n a j+f.many c:=λe=>by rw[D,if_pos e]
 have ab:¬s.Y1 (f.u,f.v) x n=(a:Int)->Wq s f c n a (j+1)=Wq s f c n a j:=λe=>by rw[D,if_neg e];rfl
 clear O D an ap m am aa;obtain⟨v,hv⟩:=ψ (s.Y1 (f.u,f.v) x n);rw[<-hv] at aq P ab;clear hv;obtain⟨w,I⟩:=ψ (f.many c);rw[<-I] at al P ak;clear I;obtain⟨q,ar⟩:=ψ (Wq s f c n a j);rw[<-ar] at P ab ⊢;clear ar;refine Ι (Υ H (Υ K (Υ y (Υ l (Υ X (Υ L M)))))) ?_;refine Ε (by simp[C]) ?_
 repeat apply Ο
 refine W.Uv (A:=[]) Ρ mixed [(57,ε (decide (v=(a:Int)))),(4,Z6 s),(1,Vr F),(2,R c),(3,R n),(9,R b),(10,R a),(11,R ((t+q:Nat):Int)),(12,R i),(13,R j)] [] ?_ (by
  simp;(repeat (rw[ZL];simp[H,K,y,l,X,L,C,Z,aE,M]));(try rw[ZM]);refine YD (Κ.p aq (ZO.refl _) J J) ?_;simp;(repeat (rw[ZL];simp));(try rw[ZM]);refine⟨Yw (by kernel_rfl),?_⟩;simp)
 by_cases hv:v=(a:Int)
 .rw[P hv] at B aD;have I:IntKind.i64.wrap ((t:Int)+(q:Int)+(w:Int))=(t:Int)+(q:Int)+(w:Int):=IntWalk.i64_in _ U;refine Ε (by simp[hv]) ?_;refine XM (Υ H (Υ K (Υ y I))) λaK aF=>?_;refine Κ.d (al) (XC I ?_);apply aF;refine Ι N ?_;refine W.to B rfl ?_;simp[N];omega
 .rw[ab hv] at B;refine Η (by simp[hv]) ?_;refine Ι N ?_;exact W.to B rfl (by simp[N])
theorem rJ (s:Δ) (f:Found) (c n:Nat) (m:List (Int×Int)) (T:Int->Nat) (a:RZ m) (h:∀v,VI m v=T v) (b:((f.cells[c]?).getD []).length<=49) (d:f.many c<=5764801) (e:∀v,T v<=2*282475249) :
  RZ (Rx s f c n m ((f.cells[c]?).getD []).length)/\∀v,VI (Rx s f c n m ((f.cells[c]?).getD []).length) v=((T v+Wq s f c n v ((f.cells[c]?).getD []).length:Nat):Int):=by
 have j:((f.cells[c]?).getD []).length*f.many c<=49*5764801:=RQ b d;obtain⟨g,i⟩:=BM (λr=>s.Y1 (f.u,f.v) r n) (f.many c) ((f.cells[c]?).getD []) m T a h (λv=>by have:=e v;omega);unfold Rx Wq;rw[RR];exact⟨g,i⟩
theorem Bw {s:Δ} (h:Yd s) (c n:Nat):∀i,i<=(ZQ s).length->RZ (R8 s (ZQ s) c n i)/\∀v,VI (R8 s (ZQ s) c n i) v=(VH s (ZQ s) c n v i:Int)
 | 0,_=>⟨by simp[R8,RZ],λv=>by simp[R8,VI,VH]⟩
 | i+1,hi=>by
  obtain⟨b,d⟩:=Bw h c n i U;have g:=N5 s;have a:=Y7 (show i<(ZQ s).length by omega);obtain⟨e,f⟩:=rJ s (ZQ s)[i] c n _ (λv=>VH s (ZQ s) c n v i) b d (Gc h a c) (Gd h a c) (λv=>Ya (IL h c n v i U) (RQ U (Z5 _)));rw[D1 _ _ _ _ _ U];refine⟨e,λv=>?_⟩;rw[f v,Gf _ _ _ _ _ U]
theorem rI {s:Δ} (h:Yd s) (f:Found) (c n:Nat) {a:Int} (b:a<0\/63<a) (j:Nat):Wq s f c n a j=0:=by
 unfold Wq;have:(((f.cells[c]?).getD []).take j).countP (λr=>decide (s.Y1 (f.u,f.v) r n=a))=0:=List.countP_eq_zero.2 λr _=>by
  have:=Gs h (f.u,f.v) r n;simp;omega
 rw[this,Qu]
theorem rH {s:Δ} (h:Yd s) (F:List Found) (c n:Nat) {a:Int} (b:a<0\/63<a) (i:Nat):VH s F c n a i=0:=by
 unfold VH;have:(λf:Found=>Wq s f c n a ((f.cells[c]?).getD []).length)=λ_=>0:=funext λf=>rI h f c n b _;rw[this,BL,Nat.mul_zero]
theorem Ga (s:Δ) (F:List Found) (c n:Nat):∀k,(∀a:Nat,a<k->VH s F c n a F.length<=UG s F c n k)/\(UG s F c n k=0\/∃a:Nat,a<k/\VH s F c n a F.length=UG s F c n k)
 | 0=>⟨λa b=>absurd b (Rf _),.inl rfl⟩
 | k+1=>by
  obtain⟨f,d⟩:=Ga s F c n k;rw[Ge];refine⟨λa b=>?_,?_⟩
  .by_cases e:a=k
   .subst e;omega
   .have:=f a U;omega
  .by_cases g:UG s F c n k<=VH s F c n k F.length
   .exact .inr ⟨k,U,U⟩
   .rcases d with d|⟨a,b,d⟩
    .omega
    .exact .inr ⟨a,U,U⟩
theorem rG {s:Δ} (h:Yd s) (c n:Nat):Ng s (ZQ s) c n=(UG s (ZQ s) c n 64:Int):=by
 obtain⟨j,b⟩:=Bw h c n _ (Z5 _);obtain⟨k,d⟩:=Ga s (ZQ s) c n 64;unfold Ng;obtain⟨m,l⟩:=ψ (R8 s (ZQ s) c n (ZQ s).length);rw[<-l] at j b ⊢;obtain⟨t,o,f⟩:=BN m 0;apply Int.le_antisymm
 .rcases f with f|⟨e,g,f⟩
  .omega
  .have i:=BO m j e g;rw[b] at i;by_cases p:e.1<0\/63<e.1
   .rw[rH h _ c n p] at i;omega
   .have:=k e.1.toNat U;rw[show((e.1.toNat:Nat):Int)=e.1 by omega] at this;omega
 .rcases d with d|⟨a,_,d⟩
  .omega
  .have i:=b (a:Nat);rcases BP m (a:Nat) with r|⟨e,g,r⟩
   .omega
   .have:=o e g;omega
theorem Bv (l:List (List (Int×Int))) (c:Nat):∀i,c<i->Xb l (-1) i=((l[c]?).getD []).length*Xb l c i
 | 0,h=>U
 | i+1,h=>by
  rw[Pl,Pl,if_neg U];by_cases e:c=i
  .subst e;rw[if_pos rfl,BK l c c (Z5 _),Re,Nat.mul_comm]
  .rw[if_neg U,Bv l c i U,Nat.mul_assoc]
theorem Bu (s:Δ) (c n:Nat) (a:Int):∀F:List Found,(∀f∈F,c<f.cells.length)->VH s F c n a F.length<=X6 F
 | [],_=>by simp[VH]
 | f::F,h=>by
  have b:=Bu s c n a F (λg d=>h g (by simp[d]))
  have e:=h f J;unfold VH X6 at b ⊢;rw[RR] at b ⊢;rw[X3,X3,List.sum_cons,List.sum_cons];have i:Wq s f c n a ((f.cells[c]?).getD []).length<=f.many (-1):=by
   unfold Wq Found.many;rw[Bv f.cells c _ e];exact RQ (Ya List.countP_le_length (by rw[Tq];omega)) (Z5 _)
  omega
theorem rF (s:Δ) (F:List Found) (c n k:Nat) (h:∀f∈F,c<f.cells.length):UG s F c n k<=X6 F:=by
 rcases(Ga s F c n k).2 with b|⟨a,_,b⟩
 .omega
 .have:=Bu s c n a F h;omega
def O1 (m:Int) (c n:Int) (r:Int×Int×Int):Int×Int×Int:=if m<r.2.2 then(c,n,m) else r
def O0 (s:Δ) (F:List Found) (c:Nat) (r:Int×Int×Int) (n:Nat):Int×Int×Int:=(List.range n).foldl (λr (n:Nat)=>O1 (UG s F c n 64) c n r) r
def Rh (s:Δ) (F:List Found) (c:Nat):Int×Int×Int:=(List.range c).foldl (λr (c:Nat)=>O0 s F c r s.Β.length) (-1,0,(X6 F:Int))
theorem Bt (s:Δ) (F:List Found) (c:Nat) (r:Int×Int×Int) (n:Nat):O0 s F c r (n+1)=O1 (UG s F c n 64) c n (O0 s F c r n):=by simp[O0,Vp,RS]
theorem Bs (s:Δ) (F:List Found) (c:Nat):Rh s F (c+1)=O0 s F c (Rh s F c) s.Β.length:=by simp[Rh,Vp,RS]
def Lm (L:Int) (b:Vg) (r:Int×Int×Int):Prop:=(r=(-1,0,L)/\(b.some=false\/b.least=L))\/(b.some=true/\b.least<L/\0<=b.c/\r=(b.c,b.n,b.least))
theorem rE {L:Int} {b:Vg} {r:Int×Int×Int} (h:Lm L b r) {m c n:Int} (i:m<=L) (d:0<=c):Lm L (b.take c n m) (O1 m c n r):=by
 unfold Vg.take O1;rcases h with⟨rfl,h⟩|⟨e,f,g,rfl⟩
 .simp only;by_cases a:m<L
  .rw[if_pos a];have:b.some=false\/m<b.least:=by
    rcases h with h|h
    .exact .inl h
    .exact .inr U
   rw[if_pos this];exact .inr ⟨rfl,a,d,rfl⟩
  .rw[if_neg a];by_cases q:b.some=false\/m<b.least
   .rw[if_pos q];exact .inl ⟨rfl,.inr (by simp only;omega)⟩
   .rw[if_neg q];exact .inl ⟨rfl,h⟩
 .simp only;by_cases a:m<b.least
  .rw[if_pos a,if_pos (.inr a)];exact .inr ⟨rfl,by simp only;omega,d,rfl⟩
  .rw[if_neg a,if_neg (by rintro(q|q);rw[e] at q;cases q;exact a q)];exact .inr ⟨e,f,g,rfl⟩
theorem Br {s:Δ} (h:Yd s) {c:Nat} (d:c<s.cells.length) {b:Vg} {r:Int×Int×Int} (a:Lm (X6 (ZQ s)) b r):∀n,Lm (X6 (ZQ s)) (Pf s (ZQ s) c b n) (O0 s (ZQ s) c r n)
 | 0=>a
 | n+1=>by
  rw[D3,Bt,rG h];have:=rF s (ZQ s) c n 64 (λf e=>by have:=(O2 h e).1;omega);exact rE (Br h d a n) U U
theorem Bq {s:Δ} (h:Yd s):∀c,c<=s.cells.length->Lm (X6 (ZQ s)) (QS s (ZQ s) c) (Rh s (ZQ s) c)
 | 0,_=>.inl ⟨rfl,.inl rfl⟩
 | c+1,a=>by
  rw[D2,Bs];exact Br h U (Bq h c U) _
theorem rD {s:Δ} (h:Yd s) (d:ZQ s≠[]):Vf s (ZQ s)=if(Rh s (ZQ s) s.cells.length).1<0 then(0,0,0,11) else((Rh s (ZQ s) s.cells.length).1,(Rh s (ZQ s) s.cells.length).2.1,(Rh s (ZQ s) s.cells.length).2.2,0):=by
 have e:(X5 s true (ZQ s)).2.2=0:=by
  unfold X5;rw[if_neg (by rw[h.err];simp),if_neg (by simp[d])]
 unfold Vf;rw[if_neg (by rw[e];simp)];have a:=Bq h _ (Z5 _);generalize QS s (ZQ s) s.cells.length=b at a;generalize Rh s (ZQ s) s.cells.length=r at a;rcases a with⟨rfl,c⟩|⟨c,f,g,rfl⟩
 .simp only;rw[if_pos c,if_pos U]
 .simp only;rw[if_neg (by rintro(q|q);rw[c] at q;cases q;omega),if_neg U]
abbrev Wa (l:List Nat):List Int:=l.map λn:Nat=>(n:Int)
def T4 (L:Nat):Nat->Nat->List (List Nat)
 | 0,_=>[[]]
 | m+1,a=>(List.range (L-a)).flatMap λd=>(T4 L m (a+d+1)).map ((a+d)::·)
theorem F':∀L<5,∀m<5,∀a<6,(T4 L m a).length<=16:=by decide +kernel
theorem IK (L:Nat):∀m a,∀l∈T4 L m a,l.length=m
 | 0,a,l,h=>by simp[T4] at h;subst h;rfl
 | m+1,a,l,h=>by
  obtain⟨d,_,h⟩:=OT.1 h;obtain⟨r,b,rfl⟩:=Zc.1 h;rw[List.length_cons,IK L m _ r b]
def OZ (L m a d:Nat):List (List Nat):=(List.range d).flatMap λd=>(T4 L m (a+d+1)).map ((a+d)::·)
theorem Bp (L m a d:Nat):OZ L m a (d+1)=OZ L m a d++(T4 L m (a+d+1)).map ((a+d)::·):=by
 unfold OZ;rw[Vp,La];simp
theorem Bo (L m a:Nat) (b:L<5) (c:m<5):∀d,a+d<=5->(OZ L m a d).length<=d*16
 | 0,_=>by simp[OZ]
 | d+1,h=>by
  have e:=Bo L m a b c d U
  have:=F' L b m c (a+d+1) U;rw[Bp,VU,Yh];omega
theorem rC:∀n<5,∀m<n+1,TG n 1000 (List.range m)=T4 n m 0:=by decide +kernel
theorem rB:Y3 (.sl true 1 [.sl true 0 []]) (ZT ([[]]:List (List Int))):=.sl rfl λi u v a b=>by
 match i with
 | 0=>simp at a b;subst a;subst b;exact .one .nil rfl rfl
 | n+1=>simp at a
theorem rA (L:Nat) (ad:L<=4):∀m:Nat,m<=4->∀a:Nat,a<=L->Κ prog 87 [R a,R L,R m] (ZT ((T4 L m a).map Wa)):=by
 intro m
 induction m with
 | zero=>
  intro _ a _;refine Ξ.body Ρ func87 rfl rfl ntmps87 rfl rfl J ?_;refine Χ ?_;refine Ε J ?_;refine Χ ?_;refine W.rt ?_;exact rB
 | succ m s=>
  intro ae a y;have s:=s U;obtain⟨n,S⟩:=ψ (m+1:Nat);have V:IntKind.i64.wrap ((n:Int)-1)=(m:Int):=by rw[IntWalk.i64_in _ U];omega
  have X:T4 L (m+1) a=OZ L m a (L-a):=rfl;rw[X,<-S];have B:=Bp L m a;have C:=Bo L m a U U;have u:OZ L m a 0=[]:=rfl;generalize OZ L m a=o at B C u;refine Ξ.body Ρ func87 rfl rfl ntmps87 rfl rfl J ?_;refine Χ ?_;refine Η (by simp;omega) ?_
  repeat apply Ο
  refine WB ?_;refine W.pad 29 1 (σ':=[]) rfl (λj r h=>⟨r,h,.inl rfl⟩) [(0,R a),(1,R L),(2,R n),(7,.ms 0 0 0 0)] (λz g=>by
   simp only[Zf,Yk,or_false] at g;rcases g with rfl|rfl|rfl|rfl
   .exact .same _
   .exact .same _
   .exact .same _
   .exact .nil) ?_
  rw[List.nil_append];refine Χ ?_;refine W.iter (λd:Nat=>a+d<=L) (λd=>[(1,R L),(2,R n),(7,.ms 0 (o d).length 0 (o d).length),(8,R ((a+d:Nat):Int))]) (λd=>[.cells 29 1 (((o d).map Wa).map (ν R 1))]) (λd=>L-(a+d)) 0 U (by simp[u]) (by simp[u]) (λd hd c=>?_);by_cases af:a+d<L
  case neg=>
   have k:¬((a+d:Nat):Int)<(L:Int):=U
   have e:L-a=d:=U;rw[e];clear c;generalize o d=T;generalize ((a+d:Nat):Int)=z at k;refine Ι k ?_;refine Η (by simp[k]) ?_;refine W.exit rfl ?_;refine W.cut 0 (ω _) [(7,ZT (T.map Wa))] (ω _) (λid r h=>absurd h (Rf _)) (λz g=>by
    simp only[Zf,Yk,or_false] at g;subst g;exact .own (t:=29) (ω _) J J (λe Y a y=>by
     obtain⟨x,_,rfl⟩:=Zc.1 Y;simp[I.cells] at y;subst y;simp[YN])) ?_
   rw[List.take_zero];refine Χ ?_;refine W.rt ?_;exact .refl _
  have k:((a+d:Nat):Int)<(L:Int):=U
  have p:IntKind.i64.wrap (((a+d:Nat):Int)+1)=((a+(d+1):Nat):Int):=by rw[IntWalk.i64_in _ U];omega
  have v:=s (a+d+1) U;rw[show((a+d+1:Nat):Int)=((a+(d+1):Nat):Int) by omega] at v;have c:=c (d+1) U U;have Z:=C d U;have aa:=F' L U m U (a+d+1) U;have D:=IK L m (a+d+1);rw[B d] at c;generalize T4 L m (a+d+1)=b at v c aa D;generalize o d=P at c Z;obtain⟨z,g⟩:=ψ (a+d:Nat);rw[<-g] at k p c ⊢;generalize ((a+(d+1):Nat):Int)=ag at p v c;clear s B C u;refine Ι k ?_;refine Ε (by simp[k]) ?_;refine XM (Υ p V) λah ab=>?_;refine Κ.d (v) (Z1 ?_);apply ab;refine Χ ?_;refine W.iter (λj:Nat=>j<=b.length) (λj=>[(1,R L),(2,R n),(7,.ms 0 (P++(b.take j).map (z::·)).length 0 (P++(b.take j).map (z::·)).length),(8,R z),(9,ZT (b.map Wa)),(10,R j)]) (λj=>[.cells 29 1 (((P++(b.take j).map (z::·)).map Wa).map (ν R 1))]) (λj=>b.length-j) 0 (ω _) J J (λj ai l=>?_);by_cases f:j<b.length
  case neg=>
   have E:¬(j:Int)<(b.length:Int):=U;rw[US U];generalize P++b.map (z::·)=T at c;clear l;refine Ι E ?_;refine Η (by simp[f]) ?_;refine W.exit rfl ?_;refine Ι p ?_;exact W.to c J (by simp[p])
  have E:(j:Int)<(b.length:Int):=U
  have K:=XI (i:=j) U
  have l:=l (j+1) f U
  have F:=ζ f;rw[Wp f,XR,<-Ur] at l;obtain⟨r,w⟩:=ψ (b[j]);have aj:=D r (w▸Y7 f);rw[<-w] at F l;have M:∀h,b[j]'h=r:=λh=>w.symm;have H:(P++(b.take j).map (z::·)).length<=4294967295:=by
   rw[VU,Yh,Tq];have:d*16<=5*16:=RQ U (Z5 _);omega
  obtain⟨T,N⟩:=ψ (P++(b.take j).map (z::·));rw[<-N] at l H ⊢;have O:1+r.length<=4294967296:=U;have Q:r.length+1<=4294967296:=U;clear c N w D;refine Ι E ?_;refine Ε (by simp[f]) ?_
  repeat apply Ο
  refine W.Xk (A:=[41]) Ρ [(1,R L),(2,R n),(7,.ms 0 (T++[z::r]).length 0 (T++[z::r]).length),(8,R z),(9,ZT (b.map Wa)),(10,R j)] [.cells 29 1 (((T++[z::r]).map Wa).map (ν R 1))] ?_ (by
   (try simp);(repeat (rw[Μ];simp[F,M,f,O,Q,H]));(try simp[F,M,f,O,Q,H]))
  refine Ι K ?_;exact W.to l J (by simp[K])
def WK (F:List Found) (c:Nat):List Vb:=F.flatMap λf=>((f.cells[c]?).getD []).map λr=>((f.u,f.v),r)
def S4 (s:Δ) (lower:Bool) (L:List Nat) (x y:Vb):Bool:=decide (W6 lower x.2≠W6 lower y.2)&&L.all λk=>decide (s.Y1 x.1 x.2 k=s.Y1 y.1 y.2 k)
theorem IJ {s:Δ} {lower:Bool} {L:List Nat} {x y:Vb}:S4 s lower L x y=false↔((∀k∈L,s.Y1 x.1 x.2 k=s.Y1 y.1 y.2 k)->W6 lower x.2=W6 lower y.2):=by
 unfold S4;rw[Bool.eq_false_iff];simp only[ne_eq,V9,decide_eq_true_eq,WU];constructor
 .intro h a;exact Va λb=>h ⟨b,a⟩
 .intro h ⟨b,a⟩;exact b (h a)
theorem rz {s:Δ} {F:List Found} {c:Nat} {lower:Bool} {L:List Nat}:Vx s F c lower L=true↔∀x∈WK F c,∀y∈WK F c,S4 s lower L x y=false:=by
 have e:QR s F c lower L F.length=(WK F c).foldl (λm (e:Vb)=>Tb m (Uy s e.1 e.2 L L.length) (W6 lower e.2)) (some []):=by
  unfold QR WK;rw[RR,List.foldl_flatMap];congr 1
  funext m f
  unfold T';rw[RR,List.foldl_map]
 have a:∀x y:Vb,Uy s x.1 x.2 L L.length=Uy s y.1 y.2 L L.length↔∀k∈L,s.Y1 x.1 x.2 k=s.Y1 y.1 y.2 k:=λx y=>by
  unfold Uy;rw[RR,List.append_cancel_right_eq,List.map_inj_left]
 unfold Vx;rw[e,BT (λe:Vb=>Uy s e.1 e.2 L L.length) (λe:Vb=>W6 lower e.2)];simp only[a,IJ];constructor
 .intro h x b y d g;exact h.1 x b y d g
 .intro h;exact⟨h,λx _ w i=>by simp[Uz] at i⟩
theorem ry {s:Δ} {F:List Found} {c:Nat} {lower:Bool} {L:List Nat}:Vx s F c lower L=true↔∀i (hi:i<(WK F c).length) j (a:j<i),S4 s lower L (WK F c)[i] ((WK F c)[j]'U)=false:=by
 rw[rz];constructor
 .intro h i hi j a;exact h _ (Y7 _) _ (Y7 _)
 .intro h x d y e;obtain⟨i,hi,rfl⟩:=Us d;obtain⟨j,a,rfl⟩:=Us e;rcases Nat.lt_trichotomy i j with b|rfl|b
  .have:=IJ.1 (h j a i b);exact IJ.2 λf=>(this λk g=>(f k g).symm).symm
  .exact IJ.2 λ_=>rfl
  .exact h i hi j b
theorem rv {s:Δ} {F:List Found} {c:Nat} {lower:Bool} {L:List Nat}:Vx s F c lower L=true↔∀(i:Nat) (x:Vb),(WK F c)[i]?=some x->∀(j:Nat) (y:Vb),j<i->(WK F c)[j]?=some y->S4 s lower L x y=false:=by
 rw[ry];constructor
 .intro h i x b j y a d;obtain⟨hi,rfl⟩:=ZB.1 b;obtain⟨_,rfl⟩:=ZB.1 d;exact h i hi j a
 .intro h i hi j a;exact h i _ (ζ hi) j _ a (ζ U)
def Ut (s:Δ) (lower:Bool) (L:List Nat) (x y:Vb) (k:Nat):Bool:=decide (W6 lower x.2≠W6 lower y.2)&&(L.take k).all λk=>decide (s.Y1 x.1 x.2 k=s.Y1 y.1 y.2 k)
theorem ru {s:Δ} {lower:Bool} {L:List Nat} {x y:Vb} {k n:Nat} (h:L[k]?=some n):Ut s lower L x y (k+1)=(Ut s lower L x y k&&decide (s.Y1 x.1 x.2 n=s.Y1 y.1 y.2 n)):=by
 obtain⟨a,rfl⟩:=ZB.1 h;unfold Ut;rw[Wp a,List.all_append,Bool.and_assoc];simp
theorem rr {s:Δ} {lower:Bool} {L:List Nat} {x y:Vb} {k:Nat} (h:Ut s lower L x y k=false):S4 s lower L x y=false:=by
 unfold Ut at h;unfold S4;rw[Bool.and_eq_false_iff] at h ⊢;rcases h with h|h
 .exact .inl h
 .refine .inr ?_;rw[<-Bool.not_eq_true,WU] at h ⊢;exact λg=>h λz a=>g z (NV a)
theorem rq {s:Δ} {lower:Bool} {L:List Nat} {x y:Vb}:Ut s lower L x y L.length=S4 s lower L x y:=by
 unfold Ut S4;rw[RR]
theorem rp (F:List Found) (c:Nat) {i:Nat} (h:i<F.length):WK (F.take (i+1)) c=WK (F.take i) c++((F[i].cells[c]?).getD []).map λr=>((F[i].u,F[i].v),r):=by
 unfold WK;rw[Wp h,La];simp
theorem Bn (c:Nat):∀F:List Found,(∀f∈F,((f.cells[c]?).getD []).length<=49)->(WK F c).length<=F.length*49
 | [],_=>by simp[WK]
 | f::F,h=>by
  have a:=Bn c F (λg b=>h g (by simp[b]))
  have d:=h f J;unfold WK at a ⊢;rw[NR,VU,Yh,List.length_cons];omega
abbrev RY (x:Vb):I:=ν R 1 [x.1.1,x.1.2]
abbrev RX (x:Vb):I:=ν R 1 [x.2.1,x.2.2]
theorem rn {L:List Vb}:∀e∈L.map RY,∀a∈e.cells,χ 0 a:=λe c a b=>by
 obtain⟨x,_,rfl⟩:=Zc.1 c;simp[I.cells] at b;subst b;simp[YN]
theorem rm {L:List Vb}:∀e∈L.map RX,∀a∈e.cells,χ 0 a:=λe c a b=>by
 obtain⟨x,_,rfl⟩:=Zc.1 c;simp[I.cells] at b;subst b;simp[YN]
theorem rl (s:Δ) (h:Yd s) (c:Nat) (be:c<s.cells.length) (lower:Bool) (L:List Nat) (a6:∀k∈L,k<s.Β.length) (bf:L.length<=4) :
  Κ prog 88 [Zh s,Vr (ZQ s),R c,R (if lower then 1 else 0),ν R 1 (Wa L)] (ε (Vx s (ZQ s) c lower L)):=by
 have aG:=Gh h
 have aH:=h.small
 have aI:=N5 s
 have ad:∀f∈ZQ s,c<f.cells.length/\∀a,f.cells[c]?=some a->a.length<=49/\∀r∈a,r.1<s.ς.length/\r.2<s.ς.length:=λf C=>by
  obtain⟨ay,az,_⟩:=O2 h C;exact⟨U,λa K=>⟨az a (Zp K),(aG.cells f C).2 a (Zp K) |>.2⟩⟩
 have ae:∀i,(WK ((ZQ s).take i) c).length<=147:=λi=>by
  have aJ:=Bn c ((ZQ s).take i) (λf C=>Gc h (NV C) c)
  have M:((ZQ s).take i).length<=3:=by rw[Tq];omega
  have aK:((ZQ s).take i).length*49<=3*49:=RQ M (Z5 _);omega
 have af:∀x∈WK (ZQ s) c,x.2.1<s.ς.length/\x.2.2<s.ς.length:=λx g=>by
  obtain⟨f,C,g⟩:=OT.1 g;obtain⟨r,aL,rfl⟩:=Zc.1 g;obtain⟨ay,az⟩:=ad f C;rw[ζ ay] at aL;exact(az _ (ζ ay)).2 r aL
 have Y:=rv (s:=s) (F:=ZQ s) (c:=c) (lower:=lower) (L:=L);obtain⟨B,O⟩:=ψ (Vx s (ZQ s) c lower L);rw[<-O] at Y ⊢;clear O aG;obtain⟨ag,ak⟩:=ψ (if lower then 1 else 0:Int);have al:∀x:Int×Int,[R x.1,R x.2][ag.toNat]?=some (R (W6 lower x)):=λx=>by rw[ak];cases lower<;>rfl
 have a7:0<=ag/\ag<2:=by rw[ak];cases lower<;>simp
 rw[<-ak];obtain⟨b,rfl⟩:∃b:Nat,ag=b:=⟨ag.toNat,U⟩;have aM:b<2:=U;have aN:(b:Int)<2:=U;simp only[Int.toNat_natCast] at al;have aO:∀(x:Int×Int) (h:b<[R x.1,R x.2].length),[R x.1,R x.2][b]=R (W6 lower x):=λx h=>by
  have:=al x;rw[ζ h] at this;exact W4 this
 clear ak a7;refine Ξ.body Ρ func88 rfl rfl ntmps88 rfl rfl J ?_
 repeat apply Ο
 refine WB ?_
 repeat apply Ο
 refine WB ?_;refine W.pad 29 1 (σ':=[]) rfl (λj r h=>⟨r,h,.inl rfl⟩) [(1,Vr (ZQ s)),(2,R c),(3,R b),(4,ν R 1 (Wa L)),(5,Z6 s),(11,.ms 0 0 0 0),(12,.sl true 0 [])] (λz P=>by
  simp only[Zf,Yk,or_false] at P;rcases P with rfl|rfl|rfl|rfl|rfl|rfl|rfl
  .exact .same _
  .exact .same _
  .exact .same _
  .exact .same _
  .exact .same _
  .exact .nil
  .exact .same _) ?_
 rw[List.nil_append];refine W.pad 29 1 (σ':=[.cells 29 1 []]) rfl (λj r h=>⟨r,h,.inl rfl⟩) [(1,Vr (ZQ s)),(2,R c),(3,R b),(4,ν R 1 (Wa L)),(5,Z6 s),(11,.ms 0 0 0 0),(12,.ms 1 0 0 0)] (λz P=>by
  simp only[Zf,Yk,or_false] at P;rcases P with rfl|rfl|rfl|rfl|rfl|rfl|rfl
  .exact .same _
  .exact .same _
  .exact .same _
  .exact .same _
  .exact .same _
  .exact .same _
  .exact .nil) ?_
 rw[List.singleton_append];generalize ZQ s=F at Y aI ad ae af;refine Χ ?_;refine W.iter (λi:Nat=>i<=F.length) (λi=>[(1,Vr F),(2,R c),(3,R b),(4,ν R 1 (Wa L)),(5,Z6 s),(11,.ms 0 (WK (F.take i) c).length 0 (WK (F.take i) c).length),(12,.ms 1 (WK (F.take i) c).length 0 (WK (F.take i) c).length),(13,R i)]) (λi=>[.cells 29 1 ((WK (F.take i) c).map RY),.cells 29 1 ((WK (F.take i) c).map RX)]) (λi=>F.length-i) 0 (ω _) (by simp[WK]) (by simp[WK]) (λi hi d=>?_);by_cases Z:i<F.length
 .have w:(i:Int)<(F.length:Int):=U
  have ah:=XI (i:=i) U
  have am:=ζ Z
  have d:=d (i+1) Z U;rw[rp F c Z] at d;have an:=ae i;obtain⟨f,C⟩:=ψ (F[i]);have a8:f∈F:=C▸Y7 Z;rw[<-C] at am d;have aA:∀h,F[i]'h=f:=λh=>C.symm;obtain⟨ao,aP⟩:=ad f a8;have K:=ζ ao;obtain⟨a,aB⟩:=ψ (f.cells[c]);rw[<-aB] at K;obtain⟨bg,_⟩:=aP a K;have aC:∀h,f.cells[c]'h=a:=λh=>aB.symm;rw[K] at d;simp only[Option.getD_some] at d;obtain⟨E,ai⟩:=ψ (WK (F.take i) c);rw[<-ai] at d an ⊢;clear ai C aB aP Y ae af ad;refine Ι w ?_;refine Ε J ?_;refine Χ ?_;refine W.iter (λj:Nat=>j<=a.length) (λj=>[(1,Vr F),(2,R c),(3,R b),(4,ν R 1 (Wa L)),(5,Z6 s),(11,.ms 0 (E++(a.take j).map λr=>((f.u,f.v),r)).length 0 (E++(a.take j).map λr=>((f.u,f.v),r)).length),(12,.ms 1 (E++(a.take j).map λr=>((f.u,f.v),r)).length 0 (E++(a.take j).map λr=>((f.u,f.v),r)).length),(13,R i),(14,R j)]) (λj=>[.cells 29 1 ((E++(a.take j).map λr=>((f.u,f.v),r)).map RY),.cells 29 1 ((E++(a.take j).map λr=>((f.u,f.v),r)).map RX)]) (λj=>a.length-j) 0 (ω _) J J (λj aQ D=>?_);by_cases o:j<a.length
  case neg=>
   have Q:¬(j:Int)<(a.length:Int):=U;rw[US U];generalize (E++a.map λr=>((f.u,f.v),r))=T at d;clear D;refine Ι (Υ am (Υ aA (Υ Z (Υ K (Υ aC (Υ ao Q)))))) ?_;refine Η (by simp[o]) ?_;refine W.exit rfl ?_;refine Ι ah ?_;exact W.to d rfl (by simp[ah])
  have Q:(j:Int)<(a.length:Int):=U
  have aj:=XI (i:=j) U
  have aR:=ζ o
  have D:=D (j+1) o U;rw[Wp o,XR,<-Ur] at D;obtain⟨x,g⟩:=ψ (a[j]);rw[<-g] at aR D;have a9:∀h,a[j]'h=x:=λh=>g.symm;have aS:(E++(a.take j).map λr=>((f.u,f.v),r)).length<=4294967295:=by
   rw[VU,Yh,Tq];omega
  obtain⟨T,aT⟩:=ψ ((E++(a.take j).map λr=>((f.u,f.v),r)));rw[<-aT] at D aS ⊢;clear g aT d;refine Ι (Υ am (Υ aA (Υ Z (Υ K (Υ aC (Υ ao Q)))))) ?_;refine Ε (by simp[o]) ?_
  repeat apply Ο
  refine W.Uv (A:=[45,59]) Ρ mixed [(1,Vr F),(2,R c),(3,R b),(4,ν R 1 (Wa L)),(5,Z6 s),(11,.ms 0 (T.length+1) 0 (T.length+1)),(12,.ms 1 (T.length+1) 0 (T.length+1)),(13,R i),(14,R j)] [.cells 29 1 (T.map RY++[ν R 1 [f.u,f.v]]),.cells 29 1 (T.map RX++[ν R 1 [x.1,x.2]])] ?_ (by
   simp;(repeat (rw[ZL];simp[am,aA,Z,K,aC,ao,o,aR,a9,Q,aS]));(try rw[ZM]);refine⟨Yw (by kernel_rfl),?_⟩;simp)
  refine Ι aj ?_;exact W.to D J (by simp[aj])
 have w:¬(i:Int)<(F.length:Int):=U;rw[US U];have an:=ae F.length;rw[RR] at an;obtain⟨E,ai⟩:=ψ (WK F c);rw[<-ai] at an Y af ⊢;clear d ai ae;refine Ι w ?_;refine Η J ?_;refine W.exit rfl ?_;refine W.cut 0 (ω _) [(3,R b),(4,ν R 1 (Wa L)),(5,Z6 s),(11,ν RY 1 E),(12,ν RX 1 E)] (ω _) (λid r h=>absurd h (Rf _)) (λz P=>by
  simp only[Zf,Yk,or_false] at P;rcases P with rfl|rfl|rfl|rfl|rfl
  .exact .low J
  .exact .low (by simp[YN])
  .exact .low (by simp[I.cells,YN])
  .exact .own (t:=29) (ω _) rfl J rn
  .exact .own (t:=29) (ω _) rfl J rm) ?_
 rw[List.take_zero];clear hi w aI ad;refine Χ ?_;refine W.iter (λi:Nat=>i<=E.length/\∀(S:Nat) (x:Vb),S<i->E[S]?=some x->∀(j:Nat) (y:Vb),j<S->E[j]?=some y->S4 s lower L x y=false) (λi=>[(3,R b),(4,ν R 1 (Wa L)),(5,Z6 s),(11,ν RY 1 E),(12,ν RX 1 E),(15,R i)]) (λ_=>[]) (λi=>E.length-i) 0 ⟨ω _,λ_ _ h=>absurd h (Rf _)⟩ rfl J (λi hi d=>?_);obtain⟨bh,aD⟩:=hi;by_cases N:i<E.length
 case neg=>
  have w:¬(i:Int)<(E.length:Int):=U
  have O:B=true:=Y.2 λS x g=>aD S x (by have:=(ZB.1 g).1;omega) g;rw[O];clear d;refine Ι w ?_;refine Η (by simp[N]) ?_;refine W.exit rfl ?_;refine Χ ?_;refine W.rt ?_;exact .of rfl
 have w:(i:Int)<(E.length:Int):=U
 have ah:=XI (i:=i) U
 have aa:=ζ N;obtain⟨x,g⟩:=ψ (E[i]);have aU:=af x (g▸Y7 N);rw[<-g] at aa;have ap:∀h,E[i]'h=x:=λh=>g.symm;clear g;refine Ι w ?_;refine Ε (by simp[N]) ?_;refine Χ ?_;refine W.iter (λj:Nat=>j<=i/\∀(V:Nat) (y:Vb),V<j->E[V]?=some y->S4 s lower L x y=false) (λj=>[(3,R b),(4,ν R 1 (Wa L)),(5,Z6 s),(11,ν RY 1 E),(12,ν RX 1 E),(15,R i),(16,R j)]) (λ_=>[]) (λj=>i-j) 0 ⟨ω _,λ_ _ h=>absurd h (Rf _)⟩ rfl J (λj aQ D=>?_);obtain⟨bi,aE⟩:=aQ;by_cases aq:j<i
 case neg=>
  have Q:¬(j:Int)<(i:Int):=U
  have d:=d (i+1) ⟨N,λS a' aJ M V y aK aV=>by
   by_cases e:S=i
   .subst e;rw[aa] at M;cases M;exact aE V y U aV
   .exact aD S a' U M V y aK aV⟩ U
  clear D;refine Ι Q ?_;refine Η (by simp[aq]) ?_;refine W.exit rfl ?_;refine Ι ah ?_;exact W.to d rfl (by simp[ah])
 have Q:(j:Int)<(i:Int):=U
 have o:j<E.length:=U
 have aj:=XI (i:=j) U
 have ab:=ζ o;obtain⟨y,ar⟩:=ψ (E[j]);have aW:=af y (ar▸Y7 o);rw[<-ar] at ab;have au:∀h,E[j]'h=y:=λh=>ar.symm;clear ar d;have aX:=al x.2;have aY:=aO x.2;have aZ:=al y.2;have a0:=aO y.2;have ba:Ut s lower L x y 0 = !decide (W6 lower x.2=W6 lower y.2):=by unfold Ut;simp
 have av:(j:Int)<(E.length:Int):=U;refine Ι Q ?_;refine Ε (by simp[aq]) ?_
 repeat apply Ο
 refine W.Uv (A:=[]) Ρ mixed [(3,R b),(4,ν R 1 (Wa L)),(5,Z6 s),(11,ν RY 1 E),(12,ν RX 1 E),(15,R i),(16,R j),(17,ε (Ut s lower L x y 0))] [] ?_ (by
  rw[ba];by_cases q:W6 lower x.2=W6 lower y.2
  .simp;(repeat (rw[ZL];simp[aa,ap,N,w,ab,au,o,av,aX,aY,aZ,a0,aM,aN,q]));(try rw[ZM]);refine⟨Yw (by kernel_rfl),?_⟩;simp[q]
  .simp;(repeat (rw[ZL];simp[aa,ap,N,w,ab,au,o,av,aX,aY,aZ,a0,aM,aN,q]));(try rw[ZM]);refine⟨Yw (by kernel_rfl),?_⟩;simp[q])
 refine Χ ?_;refine W.iter (λk:Nat=>k<=L.length) (λk=>[(3,R b),(4,ν R 1 (Wa L)),(5,Z6 s),(11,ν RY 1 E),(12,ν RX 1 E),(15,R i),(16,R j),(17,ε (Ut s lower L x y k)),(18,R k)]) (λ_=>[]) (λk=>L.length-k) 0 (ω _) rfl J (λk bj X=>?_);by_cases aF:k<L.length/\Ut s lower L x y k=true
 case neg=>
  have bb:Ut s lower L x y k=S4 s lower L x y:=by
   by_cases l:k<L.length
   .have m:Ut s lower L x y k=false:=by
     cases m:Ut s lower L x y k
     .rfl
     .exact absurd ⟨l,m⟩ aF
    rw[m,rr m]
   .obtain rfl:k=L.length:=U
    exact rq
  clear X
  repeat apply Ο
  refine W.Xk (A:=[]) Ρ [(92,ε false),(3,R b),(4,ν R 1 (Wa L)),(5,Z6 s),(11,ν RY 1 E),(12,ν RX 1 E),(15,R i),(16,R j),(17,ε (S4 s lower L x y))] [] ?_ (by
   rw[<-bb];by_cases l:k<L.length
   .have H:(k:Int)<(L.length:Int):=U
    have m:Ut s lower L x y k=false:=by
     cases m:Ut s lower L x y k
     .rfl
     .exact absurd ⟨l,m⟩ aF
    rw[m];(try simp);(repeat (rw[Μ];simp[H,l]));(try simp[H,l])
   .have H:¬(k:Int)<(L.length:Int):=U
    (try simp);(repeat (rw[Μ];simp[H,l]));(try simp[H,l]))
  refine Η rfl ?_;refine W.exit rfl ?_;refine Χ ?_;cases m:S4 s lower L x y
  .refine Η rfl ?_;refine Ι aj ?_;refine W.to (D (j+1) ⟨aq,λV bc aJ M=>?_⟩ U) rfl (by simp[aj]);by_cases e:V=j
   .subst e;rw[ab] at M;cases M;exact m
   .exact aE V bc U M
  .refine Ε rfl ?_;have O:B=false:=by
    cases O:B
    .rfl
    .have:=Y.1 O i x aa j y aq ab;rw[m] at this;cases this
   rw[O];refine Χ ?_;refine W.rt ?_;exact .of rfl
 obtain⟨l,m⟩:=aF;have H:(k:Int)<(L.length:Int):=U;have a1:=XI (i:=k) U;have aw:=ζ l;have X:=X (k+1) l U;rw[ru aw,m,Bool.true_and] at X;obtain⟨n,ax⟩:=ψ (L[k]);have a2:=a6 n (ax▸Y7 l);rw[<-ax] at aw X;have a3:∀h,L[k]'h=n:=λh=>ax.symm;have a4:=IQ s aH x.1 x.2 n a2 aU.1 aU.2;have a5:=IQ s aH y.1 y.2 n a2 aW.1 aW.2;generalize s.Y1 x.1 x.2 n=w1 at a4 X;generalize s.Y1 y.1 y.2 n=bd at a5 X;rw[m];clear D ax aE aD Y
 repeat apply Ο
 refine W.Xk (A:=[]) Ρ [(92,ε true),(3,R b),(4,ν R 1 (Wa L)),(5,Z6 s),(11,ν RY 1 E),(12,ν RX 1 E),(15,R i),(16,R j),(17,ε true),(18,R k)] [] ?_ (by
  (try simp);(repeat (rw[Μ];simp[H,l]));(try simp[H,l]))
 refine Ε rfl ?_
 repeat apply Ο
 refine W.Uv (A:=[]) Ρ mixed [(3,R b),(4,ν R 1 (Wa L)),(5,Z6 s),(11,ν RY 1 E),(12,ν RX 1 E),(15,R i),(16,R j),(17,ε (decide (w1=bd))),(18,R k)] [] ?_ (by
  simp;(repeat (rw[ZL];simp[aa,ap,N,w,ab,au,o,av,aw,a3,l,H]));(try rw[ZM]);refine YD (Κ.p a4 (ZO.refl _) J J) ?_;simp;(repeat (rw[ZL];simp[aa,ap,N,w,ab,au,o,av,aw,a3,l,H]));(try rw[ZM]);refine YD (Κ.p a5 (ZO.refl _) J J) ?_;simp;(repeat (rw[ZL];simp));(try rw[ZM]);refine⟨Yw (by kernel_rfl),?_⟩;simp)
 refine Ι a1 ?_;exact W.to X rfl (by simp[a1])
theorem rk (s:Δ) (a:Int) (F:List Found):(U1 s a F).2.2=if s.err≠0 then s.err else if 0<=a/\a<s.cells.length then(if F=[] then 9 else 0) else 3:=by
 unfold U1;by_cases b:s.err=0
 .have d:¬s.err≠0:=λh=>h b;rw[if_neg d,if_neg d];by_cases c:0<=a/\a<s.cells.length
  .rw[if_neg U,if_pos c];unfold X5;rw[if_neg d];by_cases f:F=[]
   .rw[if_pos ⟨rfl,f⟩,if_pos f]
   .rw[if_neg (λh=>f h.2),if_neg f]
  .rw[if_pos U,if_neg c]
 .rw[if_pos b,if_pos b]
def RV (n m:Nat):List (List Nat):=(List.range' m (n+1-m)).flatMap λm=>T4 n m 0
theorem rj {n m:Nat} (h:m<n+1):RV n m=T4 n m 0++RV n (m+1):=by
 unfold RV;have:n+1-m=(n+1-(m+1))+1:=U;rw[this,MB,NR]
theorem ri {n:Nat}:RV n (n+1)=[]:=by simp[RV]
theorem Bm {n:Nat} (h:n<5):VW n 0=RV n 0:=by
 unfold VW RV;have:∀l:List Nat,(∀m∈l,m<n+1)->(l.flatMap λm=>TG n 1000 (List.range m))=l.flatMap λm=>T4 n m 0:=λl=>by
  induction l with
  | nil=>intro _;rfl
  | cons a l d=>
   intro c;rw[NR,NR,d (λm b=>c m (by simp[b])),rC n h a (c a J)]
 exact this _ λm b=>by have:=List.mem_range'_1.1 b;omega
theorem Bl (L:Nat):∀m a,∀l∈T4 L m a,∀k∈l,k<L
 | 0,a,l,h,k,b=>by simp[T4] at h;subst h;cases b
 | m+1,a,l,h,k,b=>by
  obtain⟨d,hd,h⟩:=OT.1 h;have hd:=Wm.1 hd;obtain⟨r,c,rfl⟩:=Zc.1 h;rcases Zf.1 b with rfl|b
  .omega
  .exact Bl L m _ r c k b
def Ll (T:Option (List Nat)):List Int×Int:=match T with
 | some l=>(Wa l,0)
 | none=>([],11)
theorem F9 (s:Δ) (F:List Found) (a:Int) (lower:Bool):UX s F a lower=if s.err≠0 then([],s.err) else if 0<=a/\a<s.cells.length then(if F=[] then([],9) else Ll ((VW s.Β.length 0).find? (Vx s F a.toNat lower))) else([],3):=by
 have e:UX s F a lower=if(U1 s a F).2.2≠0 then([],(U1 s a F).2.2) else Ll ((VW s.Β.length 0).find? (Vx s F a.toNat lower)):=by
  unfold UX Ll;congr 1
 rw[e,rk];by_cases b:s.err=0<;>by_cases c:0<=a/\a<s.cells.length<;>by_cases d:F=[]<;>simp[b,c,d]
theorem rh (s:Δ) (I:s.small) (F:List Found) (ag:IM s F) (a:Int) (lower:Bool) :
  Κ prog 29 [Zh s,R a,ε lower] (.ZX [ν R 1 (UX s F a lower).1,R (UX s F a lower).2]):=by
 have K:=GG s I;rw[F9];refine Ξ.body Ρ func29 rfl rfl ntmps29 rfl rfl J ?_;refine Χ ?_;refine ZU λah B=>?_;refine Κ.d (K) (Z1 ?_);apply B;refine Χ ?_;by_cases l:s.err=0
 case neg=>
  rw[if_pos l];generalize s.err=aw at l;refine Ε (by simp[l]) ?_;refine Χ ?_;refine W.rt ?_;exact .ZX (.cons .nil (.cons (.refl _) .nil))
 obtain⟨C,ai⟩:=ag l;subst ai;have t:=sm s I a;have f:=B3 s C (decide (0<=a)&&decide (a<s.cells.length));rw[if_neg (by simp[l])];rw[l];clear K l;refine Η J ?_;by_cases M:(0<=a/\a<s.cells.length)/\ZQ s≠[]
 case neg=>
  have o:∃e:Int,e≠0/\R0 (ZQ s) (decide (0<=a)&&decide (a<s.cells.length))=([],e)/\(if 0<=a/\a<s.cells.length then(if ZQ s=[] then(([]:List Int),(9:Int)) else Ll ((VW s.Β.length 0).find? (Vx s (ZQ s) a.toNat lower))) else([],3))=([],e):=by
   by_cases c:0<=a/\a<s.cells.length
   .have d:ZQ s=[]:=Va λd=>M ⟨c,d⟩;refine⟨9,Z3,?_,?_⟩
    .unfold R0;rw[if_neg (by simp[c.1,c.2]),if_pos d]
    .rw[if_pos c,if_pos d]
   .refine⟨3,Z3,?_,?_⟩
    .unfold R0;rw[if_pos (by
      rw[Bool.and_eq_false_iff,decide_eq_false_iff_not,decide_eq_false_iff_not];omega)]
    .rw[if_neg c]
  obtain⟨e,aj,ak,al⟩:=o;rw[al];rw[ak] at f;generalize (decide (0<=a)&&decide (a<(s.cells.length:Int)))=right at t f
  repeat apply Ο
  refine W.Uv (A:=[]) Ρ mixed [(9,Vr []),(10,R e)] [] ?_ (by
   simp;(repeat (rw[ZL];simp));(try rw[ZM]);refine YD (Κ.p t (ZO.refl _) J J) ?_;simp;(repeat (rw[ZL];simp));(try rw[ZM]);refine YD (Κ.p f (ZO.refl _) J J) ?_;simp;(repeat (rw[ZL];simp));(try rw[ZM]);refine⟨Yw (by kernel_rfl),?_⟩;simp)
  refine Χ ?_;refine Ε (by simp[aj]) ?_;refine Χ ?_;refine W.rt ?_;exact .ZX (.cons .nil (.cons (.refl _) .nil))
 obtain⟨x,D⟩:=M;rw[if_pos x,if_neg D];have N:(decide (0<=a)&&decide (a<(s.cells.length:Int)))=true:=by simp[x.1,x.2]
 have O:R0 (ZQ s) true=(ZQ s,0):=by
  unfold R0;rw[if_neg Z3,if_neg D]
 rw[N] at t f;rw[O] at f;simp only at f;obtain⟨c,rfl⟩:∃c:Nat,a=c:=⟨a.toNat,U⟩;rw[Int.toNat_natCast];have am:c<s.cells.length:=U;clear N O x D
 repeat apply Ο
 refine W.Uv (A:=[]) Ρ mixed [(1,R c),(2,ε lower),(3,Z6 s),(9,Vr (ZQ s)),(10,R 0)] [] ?_ (by
  simp;(repeat (rw[ZL];simp));(try rw[ZM]);refine YD (Κ.p t (ZO.refl _) J J) ?_;simp;(repeat (rw[ZL];simp));(try rw[ZM]);refine YD (Κ.p f (ZO.refl _) J J) ?_;simp;(repeat (rw[ZL];simp));(try rw[ZM]);refine⟨Yw (by kernel_rfl),?_⟩;simp)
 clear t f;refine Χ ?_;refine Η J ?_;have an:=C.Β.hi;have y:=λL ao ap=>rl s C c am lower L ao ap;have Q:=sk lower;have S:=Bm (n:=s.Β.length) U;rw[S];clear S;generalize (if lower then(1:Int) else 0)=ax at y Q;generalize Vx s (ZQ s) c lower=P at y;generalize ZQ s=F at y;refine Χ ?_;refine W.iter (λm:Nat=>m<=s.Β.length+1/\(RV s.Β.length 0).find? P=(RV s.Β.length m).find? P) (λm=>[(1,R c),(2,ε lower),(3,Z6 s),(9,Vr F),(11,R m)]) (λ_=>[]) (λm=>s.Β.length+1-m) 0 ⟨ω _,rfl⟩ rfl J (λm aq u=>?_);obtain⟨ay,v⟩:=aq;by_cases T:m<=s.Β.length
 case neg=>
  have E:¬(m:Int)<=(s.Β.length:Int):=U;rw[show m=s.Β.length+1 by omega,ri] at v;rw[v];clear u;refine Ι E ?_;refine Η (by simp[T]) ?_;refine W.exit rfl ?_;refine Χ ?_;refine W.rt ?_;exact .ZX (.cons .nil (.cons (.refl _) .nil))
 have E:(m:Int)<=(s.Β.length:Int):=U
 have V:=XI (i:=m) U;rw[rj (n:=s.Β.length) (m:=m) U] at v;have X:=rA s.Β.length an m U 0 (ω _);have Y:=Bl s.Β.length m 0;have Z:=IK s.Β.length m 0;have ar:=F' s.Β.length U m U 0 Z3;generalize T4 s.Β.length m 0=b at v X Y Z ar;refine Ι E ?_;refine Ε (by simp[T]) ?_;refine ZU λah B=>?_;refine Κ.d (X) (Z1 ?_);apply B;refine Χ ?_;refine W.iter (λj:Nat=>j<=b.length/\(RV s.Β.length 0).find? P=(b.drop j++RV s.Β.length (m+1)).find? P) (λj=>[(1,R c),(2,ε lower),(3,Z6 s),(9,Vr F),(11,R m),(12,ZT (b.map Wa)),(13,R j)]) (λ_=>[]) (λj=>b.length-j) 0 ⟨ω _,by simpa using v⟩ rfl J (λj au aa=>?_);obtain⟨az,g⟩:=au;by_cases k:j<b.length
 case neg=>
  have w:¬(j:Int)<(b.length:Int):=U;rw[NX U,List.nil_append] at g;have u:=u (m+1) ⟨U,g⟩ U;clear aa;refine Ι w ?_;refine Η (by simp[k]) ?_;refine W.exit rfl ?_;refine Ι V ?_;exact W.to u rfl (by simp[V])
 have w:(j:Int)<(b.length:Int):=U
 have ab:=XI (i:=j) U
 have H:=ζ k;rw[PH k,List.cons_append,List.find?_cons] at g;obtain⟨r,o⟩:=ψ (b[j]);have ad:r∈b:=o▸Y7 k;rw[<-o] at H g;have ae:∀h,b[j]'h=r:=λh=>o.symm;have av:=y r (Y r ad) (by rw[Z r ad];omega);clear o u;refine Ι w ?_;refine Ε (by simp[k]) ?_
 repeat apply Ο
 refine W.Uv (A:=[]) Ρ mixed [(57,ε (P r)),(1,R c),(2,ε lower),(3,Z6 s),(9,Vr F),(11,R m),(12,ZT (b.map Wa)),(13,R j)] [] ?_ (by
  simp;(repeat (rw[ZL];simp));(try rw[ZM]);refine YD (Κ.p Q (ZO.refl _) J J) ?_;simp;(repeat (rw[ZL];simp[H,ae,k,w]));(try rw[ZM]);refine YD (Κ.p av (ZO.refl _) J J) ?_;simp;(repeat (rw[ZL];simp));(try rw[ZM]);refine⟨Yw (by kernel_rfl),?_⟩;simp)
 cases af:P r
 .rw[af] at g;refine Η rfl ?_;refine Ι ab ?_;exact W.to (aa (j+1) ⟨k,g⟩ U) rfl (by simp[ab])
 .rw[af] at g;refine Ε rfl ?_;rw[g];refine Ι (Υ H (Υ ae (Υ k w))) ?_;refine W.rt ?_;exact .refl _
theorem rf {l:List Int} (h:Xl l=0):∀x∈l,x=0:=by
 induction l with
 | nil=>simp
 | cons e l c=>
  unfold Xl at h;by_cases a:e=0
  .rw[if_pos a] at h;intro x b;rcases Zf.1 b with rfl|b
   .exact a
   .exact c h x b
  .rw[if_neg a] at h;exact absurd h a
theorem Lk {f:Nat->Int} {n:Nat} (h:Xl ((List.range n).map f)=0):∀i,i<n->f i=0:=λi hi=>
 rf h _ (Zc.2 ⟨i,Wm.2 hi,rfl⟩)
theorem F8:∀a<26,∀b<26,VC ⟨#[UInt8.ofNat (97+a)]⟩ ⟨#[UInt8.ofNat (97+b)]⟩=decide (a<=b):=by decide +kernel
theorem F7 {n:ByteArray} (h:UI n=false):∃a,a<26/\n=⟨#[UInt8.ofNat (97+a)]⟩:=by
 obtain⟨b,rfl,c,d⟩:=rR h;refine⟨b.toNat-97,U,?_⟩;rw[show 97+(b.toNat-97)=b.toNat by omega,UInt8.ofNat_toNat]
theorem re {a b c:ByteArray} (g:UI a=false) (h:UI b=false) (i:UI c=false) (j:VC b a=false) (k:VC c b=false):VC c a=false:=by
 obtain⟨x,d,rfl⟩:=F7 g;obtain⟨y,e,rfl⟩:=F7 h;obtain⟨z,f,rfl⟩:=F7 i;rw[F8 y e x d,decide_eq_false_iff_not] at j;rw[F8 z f y e,decide_eq_false_iff_not] at k;rw[F8 z f x d,decide_eq_false_iff_not];omega
theorem rb {l:List VA} (h:Wv l=0):SB l:=by
 unfold Wv at h;by_cases o:l.length=0
 .rw[if_pos o] at h;cases h
 rw[if_neg o] at h;by_cases p:6<l.length
 .rw[if_pos p] at h;cases h
 rw[if_neg p] at h;have s:=Lk h;have b:∀i (hi:i<l.length),UI l[i].name=false/\¬(0<i/\VC l[i].name ((l[i-1]?.map (·.name)).getD ⟨#[]⟩)=true)/\¬(l[i].YW<1\/63<l[i].YW)/\(l.take i).any (λx=>x.YW==l[i].YW)=false:=λi hi=>by
  have a:=s i hi;unfold Vz at a;rw[ζ hi] at a;simp only at a;cases r:UI l[i].name
  .rw[r,if_neg J] at a;by_cases c:0<i/\VC l[i].name ((l[i-1]?.map (·.name)).getD ⟨#[]⟩)=true
   .rw[if_pos c] at a;cases a
   rw[if_neg c] at a;by_cases f:l[i].YW<1\/63<l[i].YW
   .rw[if_pos f] at a;cases a
   rw[if_neg f] at a;cases t:(l.take i).any (λx=>x.YW==l[i].YW)
   .exact⟨rfl,c,f,rfl⟩
   .rw[t,if_pos rfl] at a;cases a
  .rw[r,if_pos rfl] at a;cases a
 refine⟨U,U,λg u=>?_,?_,?_⟩
 .obtain⟨i,hi,rfl⟩:=Us u;obtain⟨v,_,D,_⟩:=b i hi;exact⟨v,U,U⟩
 .refine Tu.2 λi j hi m w=>?_;have next:∀k (a:k+1<l.length),VC l[k+1].name (l[k]'U).name=false:=λk a=>by
   obtain⟨_,n,_⟩:=b (k+1) a;rw[Nat.add_sub_cancel,ζ U] at n;simp only[Option.map_some,Option.getD_some] at n;cases y:VC l[k+1].name (l[k]'U).name
   .rfl
   .exact absurd ⟨U,y⟩ n
  have A:∀d (hd:i+d+1<l.length),VC l[i+d+1].name l[i].name=false:=λd=>by
   induction d with
   | zero=>intro hd;exact next i hd
   | succ d B=>intro hd;exact re (b i U).1 (b (i+d+1) U).1 (b (i+(d+1)+1) hd).1 (B U) (next (i+d+1) hd)
  obtain⟨d,rfl⟩:∃d,j=i+d+1:=⟨j-i-1,U⟩;exact A d m
 .refine Tu.2 λi j hi m w e=>?_;obtain⟨_,_,_,C⟩:=b j m;have:=PD.1 C l[i] (NZ.2 ⟨i,U,rfl⟩);simp[e] at this
theorem ra {l:List Int} (h:∀k (e:k+1<l.length),l[k]'U<l[k+1]):l.Pairwise (· < ·):=by
 refine Tu.2 λi j hi a f=>?_;have b:∀d (hd:i+d+1<l.length),l[i]<l[i+d+1]:=λd=>by
  induction d with
  | zero=>intro hd;exact h i hd
  | succ d c=>intro hd;exact Int.lt_trans (c U) (h (i+d+1) hd)
 obtain⟨d,rfl⟩:∃d,j=i+d+1:=⟨j-i-1,U⟩;exact b d a
theorem q' {L:List (List Int)} (h:Wu L=0):O3 L:=by
 unfold Wu at h;by_cases g:L.length=0
 .rw[if_pos g] at h;cases h
 rw[if_neg g] at h;by_cases m:4<L.length
 .rw[if_pos m] at h;cases h
 rw[if_neg m] at h;have t:=Lk (f:=λi=>RA ((L[i]?).getD [])) h;refine⟨U,U,λl u=>?_⟩;obtain⟨i,hi,rfl⟩:=Us u;have c:=t i hi;simp only[ζ hi,Option.getD_some] at c;have v:=Lk (f:=Td L[i]) c;generalize L[i]=l at *;have one:∀j (b:j<l.length),Vi l[j]=true/\¬(0<j/\l[j]<=(l[j-1]?).getD 0):=λj b=>by
  have e:=v j b;unfold Td at e;rw[ζ b] at e;simp only at e;cases o:Vi l[j]
  .rw[o,if_pos rfl] at e;cases e
  rw[o,if_neg J] at e;by_cases p:0<j/\l[j]<=(l[j-1]?).getD 0
  .rw[if_pos p] at e;cases e
  exact⟨rfl,p⟩
 have r:l.Pairwise (· < ·):=ra λk c=>by
  have:=(one (k+1) c).2;rw[ζ U,Option.getD_some] at this;exact Int.not_le.1 λq=>this ⟨U,q⟩
 have s:∀x∈l,0<=x/\x<3:=λx d=>by
  obtain⟨j,b,rfl⟩:=Us d;have:=(one j b).1;unfold Vi at this;simp at this;omega
 exact⟨r6 (n:=3) (a:=0) r (λx d=>by have:=s x d;omega),r,s⟩
theorem q9 {s:Δ} {c:List Y9} (h:VK s c=0):QB s.Β.length c:=by
 unfold VK at h;by_cases b:4<c.length
 .rw[if_pos b] at h;cases h
 rw[if_neg b] at h;have o:=Lk (f:=λi=>match c[i]? with|none=>0|some p=>XX s (c.take i) p) h;have one:∀i (hi:i<c.length),(0<=c[i].Zd/\c[i].Zd<s.Β.length)/\(c.take i).any (λx=>x.Zd==c[i].Zd)=false/\(valid c[i].seen=true/\valid c[i].bare=true)/\U3 c[i].seen c[i].bare=0:=λi hi=>by
  have e:=o i hi;rw[ζ hi] at e;simp only at e;unfold XX at e;by_cases d:c[i].Zd<0\/(s.Β.length:Int)<=c[i].Zd
  .rw[if_pos d] at e;cases e
  rw[if_neg d] at e;cases g:(c.take i).any (λx=>x.Zd==c[i].Zd)
  .rw[g,if_neg J] at e;by_cases a:valid c[i].seen=false\/valid c[i].bare=false
   .rw[if_pos a] at e;cases e
   rw[if_neg a] at e;by_cases k:U3 c[i].seen c[i].bare=0
   .refine⟨U,rfl,?_,k⟩;cases r:valid c[i].seen<;>cases t:valid c[i].bare<;>simp[r,t] at a ⊢
   .rw[if_neg k] at e;cases e
  .rw[g,if_pos rfl] at e;cases e
 refine⟨U,?_,λp u=>?_⟩
 .refine Tu.2 λi j hi l y e=>?_;simp only[Yh] at hi l;simp only[List.getElem_map] at e;have:=PD.1 (one j l).2.1 c[i] (NZ.2 ⟨i,U,rfl⟩);simp[e] at this
 .obtain⟨i,hi,rfl⟩:=Us u;obtain⟨v,_,⟨m,n⟩,w⟩:=one i hi;unfold valid at m n;simp at m n;exact⟨v,U,U,w⟩
theorem II {s:Δ} (h:s.err=0):Yd s:=by
 unfold Δ.err at h;by_cases g:Wv s.ς=0
 .rw[if_neg (λq=>q g)] at h;by_cases l:Wu s.Β=0
  .rw[if_neg (λq=>q l)] at h;unfold TK at h;by_cases a:4<s.cells.length
   .rw[if_pos a] at h;cases h
   rw[if_neg a] at h;have b:=Lk (f:=λi=>VK s ((s.cells[i]?).getD [])) h;refine⟨rb g,q' l,U,λc d=>?_⟩;obtain⟨i,hi,rfl⟩:=Us d;have:=b i hi;simp only[ζ hi,Option.getD_some] at this;exact q9 this
  .rw[if_pos l] at h;exact absurd h l
 .rw[if_pos g] at h;exact absurd h g
def S3 (s:Δ):List Found:=if s.err=0 then ZQ s else []
end Go.TL
namespace Go.TL
open Go.Proofs.Tryz
open Go.Proofs
section
variable [ZV]
variable {P:Program} {m nt:Nat} {k:List Item} {env:Ζ} {σ:Τ} {Z:X9} {E:Yn}
theorem W.q8 {ι:Type} {a:Item} (p:ι->Prop) (env':ι->Ζ) (σ':ι->Τ) (b:W P m nt (a::k) env σ (λj e s=>j=k/\∃i,p i/\s=σ' i/\∀q∈env' i,Z' e q.1=q.2) E) (c:∀i,p i->W P m nt k (env' i) (σ' i) Z E):W P m nt (a::k) env σ Z E:=
 .bind b λj e s ⟨d,i,hi,f,g⟩=>by
  subst d;subst f;exact .forget (env' i) g (c i hi)
end
end Go.TL
namespace Go.TL
open Go.Proofs.Tryz
open Go.Proofs
variable [ZV]
def Δ.more (s:Δ) (c:Nat) (p:Y9):Δ:=⟨s.ς,s.Β,s.cells.set c ((s.cells[c]?).getD []++[p])⟩
def Room (s:Δ) (x:Δ):Prop:=x=s\/Yd x\/∃y c p,Yd y/\c<y.cells.length/\x=y.more c p
theorem q7 {y:Δ} (h:Yd y) {c:Nat} (p:Y9):(y.more c p).small:=by
 have b:=h.small;obtain⟨d,e,f,g,i⟩:=b;refine⟨d,e,by unfold Δ.more;rw[MA];exact f,g,λx a=>?_⟩;unfold Δ.more at a;rcases Lg a with a|rfl
 .exact i x a
 .cases j:y.cells[c]? with
  | none=>simp
  | some l=>have:=(h.cells l (Zp j)).hi;simp;omega
theorem Room.small {s x:Δ} (h:Room s x) (a:s.small):x.small:=by
 rcases h with rfl|h|⟨y,c,p,h,_,rfl⟩
 .exact a
 .exact h.small
 .exact q7 h p
theorem q6 (s:Δ) (aO:s.small) (p:Y9) (d:Zo) (hd:d.Z9.length<2 ^ 63) :
  Ξ prog 23 [Zh s,Zr p,.Ν 0 1 0 0] [ZK d] (λa σ=>∃(L:List Δ) (af:Zo),Y3 a (.sl true 3 (L.map Zh))/\L.length=4/\(∀x∈L,Room s x)/\σ=[ZK af]/\af.Z9.length<=d.Z9.length) (λ_ _=>False):=by
 refine Ξ.body Ρ func23 rfl rfl ntmps23 rfl rfl J ?_
 repeat apply Ο
 refine WB ?_;refine Y5 ?_;refine Y4 (A:=[7]) Ρ λB i=>Z1 ?_;refine Rk.c (si d hd 4 3 Z3 Z3 Z3) 0 rfl (ZO.refl _) J (by
  rintro r ⟨s,rfl,_⟩;simp[YN,I.cells]) ?_
 rintro r d1 ⟨C,rfl,av,_,_⟩ aP;simp;(repeat (rw[Μ];simp));apply i;clear i B;refine W.UC (σ0:=[ZK d1]) (Z5 _) (λr u=>by simp at u;subst u;exact S7 d1 _) (λa F=>by simp[I.cells] at F;rcases F with rfl|rfl|rfl<;>simp[YN,I.cells]) [(2,.Ν 0 1 0 0),(3,Z6 s),(4,.π [R p.Zd,R p.seen,R p.bare]),(7,Z6 C)] (by simp[Ww,I.cells,YN]) ?_;have aw:d1.Z9.length<2 ^ 63:=U;refine Y5 ?_;refine Y4 (A:=[8]) Ρ λB i=>Z1 ?_;refine Rk.c (r8 d1 aw 5 3 Z3 Z3 Z3) 0 rfl (ZO.refl _) J (by
  rintro r ⟨s,p,rd,rfl,_⟩;simp[YN,I.cells]) ?_
 rintro r d2 ⟨e,aQ,aR,rfl,ax⟩ aS;have D:=ax.sa;simp;(repeat (rw[Μ];simp));apply i;clear i B;refine W.UC (σ0:=[ZK d2]) (Z5 _) (λr u=>by simp at u;subst u;exact S7 d2 _) (λa F=>by simp[I.cells] at F;rcases F with rfl|rfl|rfl<;>simp[YN,I.cells]) [(2,.Ν 0 1 0 0),(3,Z6 s),(4,.π [R p.Zd,R p.seen,R p.bare]),(7,Z6 C),(8,Z6 e)] (by simp[Ww,I.cells,YN]) ?_;have ay:d2.Z9.length<2 ^ 63:=U;have az:=D.many;have aA:=D.small;obtain⟨nc,w⟩:=ψ e.cells.length;rw[<-w] at az;obtain⟨V,X⟩:=ψ ([ZI s.ς,ZT s.Β,SK s.cells]);obtain⟨Y,Z⟩:=ψ ([ZI C.ς,ZT C.Β,SK C.cells]);obtain⟨aa,ab⟩:=ψ ([ZI e.ς,ZT e.Β,SK e.cells]);refine Y5 ?_;refine Y4 (A:=[11]) Ρ λB i=>Z1 ?_;refine rT e aA (.refl _) (by simp[I.cells,YN]) ?_;simp[MG,MF]
 repeat (rw[Μ];simp[MG,MF])
 try rw[Si]
 apply i;obtain⟨o,ag⟩:=ψ (YV (ZI e.ς) (ZT e.Β) (.ms 3 nc 0 nc));refine W.to (σ':=ZK d2::.dead::.dead::.cells 60 1 (Xw 4 e.cells)::(W5 e.cells++[o])) (env':=[(2,.Ν 0 1 0 0),(3,.π V),(4,.π [R p.Zd,R p.seen,R p.bare]),(7,.π Y),(8,.π aa),(11,.Ν (nc+4) 1 0 0)]) ?_ (by rw[ag];simp[w]) (by simp[w,MF,X,Z,ab]);have ad:∀(v:Τ),v.length=nc->(v++[o])[nc]?=some (YV (ZI e.ς) (ZT e.Β) (.ms 3 nc 0 nc)):=λv h=>by rw[<-h,XG (Z5 _),PB,ag,<-h];rfl
 have ae:(W5 e.cells).length=nc:=by rw[MF,w]
 have H:=ad _ ae
 have N:(Xw 4 e.cells).length=nc:=by rw[MG,w]
 refine Ι (Υ H N) ?_;refine W.q8 (ι:=List (List Y9)×Zo) (λq=>q.1.length=nc/\q.2.Z9.length<=d.Z9.length/\Room s ⟨e.ς,e.Β,q.1⟩)
  (λq=>[(3,.π V),(7,.π Y),(8,.π aa),(11,.Ν (nc+4) 1 0 0)]) (λq=>ZK q.2::.dead::.dead::.cells 60 1 (Xw 4 q.1)::(W5 q.1++[o])) ?_ (λq O=>?_)
 .by_cases aB:nc=0
  .refine Η (by simp[aB]) ?_;refine W.skip ?_;refine W.stop ⟨rfl,(e.cells,d2),⟨w.symm,by simp only;omega,.inr (.inl D)⟩,rfl,J⟩
  refine Ε (by simp;omega) ?_;have aC:IntKind.i64.wrap ((nc:Int)-1)=(nc:Int)-1:=IntWalk.i64_in _ U;have m:=Ty d2 ay ((nc:Int)-1);obtain⟨ah,ai⟩:=S8 d2 ((nc:Int)-1) U U;obtain⟨aj,ak⟩:=Zt (Xj d2 ((nc:Int)-1));rw[ak] at m ah ai;obtain⟨c,rfl⟩:∃c:Nat,aj=c:=⟨aj.toNat,U⟩;have aD:=Ws d2 ((nc:Int)-1);obtain⟨d3,P⟩:=Zt (d2.after ((nc:Int)-1));rw[P] at m aD;have aE:c<nc:=U;clear ak P ah ai;refine XM (Υ H (Υ N aC)) λB i=>?_;refine YT.g (m) (Z1 ?_);apply i;have al:c<e.cells.length:=U;have K:=ζ al;obtain⟨n,aF⟩:=ψ (e.cells[c]);rw[<-aF] at K;have aT:=(D.cells n (Zp K)).hi;obtain⟨f,Q⟩:=ψ (e.cells.set c (n++[p]));have M:f.length=nc:=by rw[Q,MA,w]
  have S:Room s ⟨e.ς,e.Β,f⟩:=.inr (.inr ⟨e,c,p,D,al,by unfold Δ.more;rw[K,Q];rfl⟩)
  have T:(Xw 4 e.cells)[c]?=some (.ms (c+4) n.length 0 n.length):=by rw[Bz,K,My];rfl
  have am:(W5 e.cells++[o])[c]?=some (.cells 28 3 (n.map Zr)):=by rw[YL U,By,K];rfl
  have an:(Xw 4 e.cells).set c (.ms (c+4) (n.length+1) 0 (n.length+1))=Xw 4 f:=by rw[Q,rQ,My 4 c,VU];rfl
  have ao:(W5 e.cells).set c (.cells 28 3 (n.map Zr++[Zr p]))=W5 f:=by rw[Q,rP,XR];rfl
  obtain⟨aG,ap⟩:=ψ (Xw 4 e.cells);obtain⟨v,aq⟩:=ψ (W5 e.cells);rw[<-ap] at N T an ⊢;rw[<-aq] at ae H am ao ⊢;clear ap aq;have aH:∀z,(v++[o]).set c z=v.set c z++[o]:=λz=>List.set_append_left _ _ U;have aI:∀z,(v.set c z++[o])[c]?=some z:=λz=>by rw[YL (by rw[MA];omega),Wo U]
  have aJ:∀z,(v.set c z++[o])[nc]?=some (YV (ZI e.ς) (ZT e.Β) (.ms 3 nc 0 nc)):=λz=>ad _ (by simpa using ae)
  have aK:∀h,aG[c]'h=.ms (c+4) n.length 0 n.length:=λh=>by rw[ζ h] at T;exact W4 T
  repeat apply Ο
  refine W.BC [0,1,3,4,6,7] [10] [3,nc+4] (A:=[43]) Ρ mixed λB i=>?_;simp[H]
  repeat (rw[BH];simp[BJ,seen,Ri,H,aJ,N,T,aK,am,aH,aI,aE])
  try rw[BI]
  refine⟨U,HS (by kernel_rfl),i _ _ ?_⟩;refine W.stop ⟨rfl,(f,d3),⟨M,by simp only;omega,S⟩,by rw[<-an,<-ao];(try simp[Zr]),J⟩
 obtain⟨f,d3⟩:=q;obtain⟨M,P,S⟩:=O;simp only at M P S ⊢;have aL:(W5 f).length=nc:=by rw[MF,M]
 have aM:=ad _ aL;refine W.cut 1 (Z5 _) [(3,.π V),(7,.π Y),(8,.π aa),(11,.π [ZI e.ς,ZT e.Β,SK f])] J (λid r aU u=>by
  obtain rfl:id=0:=U;simp at u;subst u;exact S7 d3 _) (λq O=>by
  simp only[Zf,Yk,or_false] at O;rcases O with rfl|rfl|rfl|rfl
  .exact .low (by simp[X,I.cells,YN])
  .exact .low (by simp[Z,I.cells,YN])
  .exact .low (by simp[ab,I.cells,YN])
  .refine Yr.struct (id:=nc+4) (t:=26) (k:=3) (l:=[ZI e.ς,ZT e.Β,.ms 3 nc 0 nc]) U (by simp[aM]) rfl (λy a aV m E=>?_)
   match y with
   | 0=>simp at m E;subst m;subst E;exact .low (by simp[I.cells,YN])
   | 1=>simp at m E;subst m;subst E;exact .low (by simp[I.cells,YN])
   | 2=>
    simp at m E;subst m;subst E;have:=rN (h:=1) (b:=4) (id:=3) (σ:=ZK d3::.dead::.dead::.cells 60 1 (Xw 4 f)::(W5 f++[o])) (L:=f) Z3 Z3 (λj l ar=>by
     have aN:j<(W5 f).length:=by rw[MF];exact(ZB.1 ar).1
     rw[show 4+j=j+4 by omega];simp only[List.getElem?_cons_succ];rw[YL aN,By,ar];rfl) rfl
    rw[M] at this;exact this
   | y+3=>simp at m) ?_
 rw[List.take_succ_cons,List.take_zero,X,Z,ab];refine Χ ?_;refine W.ret ⟨_,rfl,[s,C,e,⟨e.ς,e.Β,f⟩],d3,.refl _,rfl,λx au=>?_,rfl,U⟩;simp only[Zf,Yk,or_false] at au;rcases au with rfl|rfl|rfl|rfl
 .exact .inl rfl
 .exact .inr (.inl av)
 .exact .inr (.inl D)
 .exact S
theorem q5 (s:Δ) (v:s.small):Κ prog 31 [Zh s,Zh s] (ε true):=by
 obtain⟨F,H,I,w,y⟩:=v;have o:=Ew s.Β s.Β U (λx B=>by have:=w x B;omega);simp only[beq_self_eq_true] at o;refine Ξ.body Ρ func31 rfl rfl ntmps31 rfl rfl J ?_
 repeat apply Ο
 refine WB ?_
 repeat apply Ο
 refine W.Xk (A:=[]) Ρ [(31,ε false),(2,Z6 s),(3,Z6 s)] [] ?_ (by
  (try simp);(repeat (rw[Μ];simp));(try simp);refine Κ.c o (ZO.refl _) J J ?_;(try simp);(repeat (rw[Μ];simp));(try simp))
 refine Η rfl ?_;refine Χ ?_;refine W.iter (λi:Nat=>i<=s.ς.length) (λi=>[(2,Z6 s),(3,Z6 s),(5,R i)]) (λ_=>[]) (λi=>s.ς.length-i) 0 (ω _) rfl J (λi hi m=>?_);by_cases a:i<s.ς.length
 .have d:(i:Int)<(s.ς.length:Int):=U
  have b:=ζ a;obtain⟨g,e⟩:=ψ (s.ς[i]);rw[<-e] at b;have f:∀h,s.ς[i]'h=g:=λh=>e.symm;have j:=XI (i:=i) U;refine Ι d ?_;refine Ε J ?_
  repeat apply Ο
  refine W.Uv (A:=[]) Ρ mixed [(49,ε false),(2,Z6 s),(3,Z6 s),(5,R i)] [] ?_ (by
   have C:(g.name==g.name)=true:=by
    show(g.name.data==g.name.data)=true;simp
   simp;(repeat (rw[ZL];simp[b,f,a,C]));(try rw[ZM]);refine⟨Yw (by kernel_rfl),?_⟩;simp)
  refine Η rfl ?_;refine Ι j ?_;exact W.to (m (i+1) a U) rfl (by simp[j])
 have d:¬(i:Int)<(s.ς.length:Int):=U;clear m;refine Ι d ?_;refine Η J ?_;refine W.exit rfl ?_;refine Χ ?_;refine W.iter (λi:Nat=>i<=s.cells.length) (λi=>[(2,Z6 s),(3,Z6 s),(6,R i)]) (λ_=>[]) (λi=>s.cells.length-i) 0 (ω _) rfl J (λi hi m=>?_);by_cases a:i<s.cells.length
 .have d:(i:Int)<(s.cells.length:Int):=U
  have b:=ζ a;obtain⟨g,e⟩:=ψ (s.cells[i]);have K:=y g (e▸Y7 a);rw[<-e] at b;have f:∀h,s.cells[i]'h=g:=λh=>e.symm;have j:=XI (i:=i) U;refine Ι d ?_;refine Ε J ?_
  repeat apply Ο
  refine W.Uv (A:=[]) Ρ mixed [(69,ε false),(2,Z6 s),(3,Z6 s),(6,R i)] [] ?_ (by
   simp;(repeat (rw[ZL];simp[b,f,a]));(try rw[ZM]);refine⟨Yw (by kernel_rfl),?_⟩;simp)
  refine Η rfl ?_;refine Χ ?_;refine W.iter (λk:Nat=>k<=g.length) (λk=>[(2,Z6 s),(3,Z6 s),(6,R i),(7,R k)]) (λ_=>[]) (λk=>g.length-k) 0 (ω _) rfl J (λk L D=>?_);by_cases l:k<g.length
  .have n:(k:Int)<(g.length:Int):=U
   have r:=ζ l;obtain⟨p,t⟩:=ψ (g[k]);rw[<-t] at r;have E:∀h,g[k]'h=p:=λh=>t.symm;have u:=XI (i:=k) U;refine Ι (Υ b (Υ f (Υ a n))) ?_;refine Ε (by simp[l]) ?_
   repeat apply Ο
   refine W.Uv (A:=[]) Ρ mixed [(96,ε false),(2,Z6 s),(3,Z6 s),(6,R i),(7,R k)] [] ?_ (by
    simp;(repeat (rw[ZL];simp[b,f,a,r,E,l]));(try rw[ZM]);refine⟨Yw (by kernel_rfl),?_⟩;simp)
   refine Η rfl ?_;refine Ι u ?_;exact W.to (D (k+1) l U) rfl (by simp[u])
  have n:¬(k:Int)<(g.length:Int):=U;refine Ι (Υ b (Υ f (Υ a n))) ?_;refine Η (by simp[l]) ?_;refine W.exit rfl ?_;refine Ι j ?_;exact W.to (m (i+1) a U) rfl (by simp[j])
 have d:¬(i:Int)<(s.cells.length:Int):=U;refine Ι d ?_;refine Η J ?_;refine W.exit rfl ?_;refine Χ ?_;refine W.rt ?_;exact .of rfl
end Go.TL
namespace Go.TL
open Go.Proofs.Tryz
open Go.Proofs
theorem q4 (s:Δ):@Rz Tz s (S3 s):=λh=>by
 letI:ZV:=Tz;have:=sA (II h) h;unfold S3;rw[if_pos h];exact this
variable [ZV]
theorem q3 (s:Δ):IM s (S3 s):=λh=>⟨II h,by unfold S3;rw[if_pos h]⟩
end Go.TL
namespace Go.TL
open Go.Proofs.Tryz
open Go.Conc Go.Proofs
section
variable [ZV]
theorem q2 (s:Δ) (l:s.small) (a:s.err≠0) (b:Int) (lower:Bool) :
  Κ prog 28 [Zh s,R b,ε lower] (.ZX [ν R 1 [],R s.err]):=by
 refine⟨⟨_,func28,rfl,rfl⟩,λy mn x c rest n o p vs e g r i=>?_⟩;obtain rfl:o=[]:=YR.1 g.len;rw[Sa (body:=f28.body.getD .skip) func28 rfl];refine V.here (x:=x) (m:=0) (nt:=35) (S:=n) (B:=[]) (H:=p) (σ:=[]) (env:=entry 0 [Zh s,R b,ε lower]) ?_ (XE.enter g r (Z5 _) J);refine V.XB e rfl ?_;simp only[f28,Option.getD_some];have j:=Eg s l b [] (λh=>absurd h a);have t:U1 s b []=(PW,[],s.err):=by unfold U1;rw[if_pos a]
 rw[t] at j
 repeat apply Ο
 refine Y4 (A:=[6,7]) Ρ λu f=>Z1 ?_;apply f;refine Y5 ?_;refine Y4 (A:=[8,9]) Ρ λu f=>Z1 ?_;refine Κ.d (j) (Z1 ?_);apply f;generalize s.err=v at a i ⊢;refine Χ ?_;refine Ε (by simp[a]) ?_;refine Χ ?_;refine W.stop ?_;intro C D E t5 w k;refine θ.ret e rfl rfl ?_;exact GY (res:=([],v)) e i rfl rfl rfl rfl w.ext k.holds k.Zn rfl rfl rfl rfl rfl (λh=>absurd rfl h)
theorem q1 (s:Δ) (c:s.small) (F:List Found) (d:Rz s F) (e:Od s F) (f:s.err=0->s.Β.length<=4) (a:Int) (lower:Bool) :
  Κ prog 28 [Zh s,R a,ε lower] (.ZX [ν R 1 (UX s F a lower).1,R (UX s F a lower).2]):=by
 by_cases b:s.err=0
 .exact CW s c F d e a lower (f b)
 .rw[F9,if_pos b];exact q2 s c b a lower
end
theorem q0 [ZV] (s:Δ):Od s (S3 s):=by
 by_cases a:s.err=0
 .have:S3 s=ZQ s:=by unfold S3;rw[if_pos a]
  rw[this];exact Gh (II a)
 .have:S3 s=[]:=by unfold S3;rw[if_neg a]
  rw[this];exact⟨Z3,λf b=>by simp at b,λf b=>by simp at b,Z3⟩
theorem qZ [ZV] (s:Δ) (F:List Found) (e:s.err=0->s.Β.length<=4) (a:Int) (lower:Bool):(UX s F a lower).1.length<=4:=by
 rw[F9];by_cases b:s.err=0
 .rw[if_neg (by simp[b])];have i:=e b;by_cases c:0<=a/\a<s.cells.length
  .rw[if_pos c];by_cases d:F=[]
   .rw[if_pos d];simp
   .rw[if_neg d,Bm U];unfold Ll;cases f:(RV s.Β.length 0).find? (Vx s F a.toNat lower) with
    | none=>simp
    | some l=>
     obtain⟨m,g,h⟩:=OT.1 (List.mem_of_find?_eq_some f);have:=IK _ _ _ _ h;have:=List.mem_range'_1.1 g;simp;omega
  .rw[if_neg c];simp
 .rw[if_pos b];simp
end Go.TL
namespace Go.TL
open Go.Proofs.Tryz
open Go.Proofs
variable [ZV]
theorem qY {s:Δ} {F:List Found} (h:s.err≠0):Vf s F=(0,0,0,s.err):=by
 have a:(X5 s true F).2.2=s.err:=by unfold X5;rw[if_pos h]
 unfold Vf;rw[a,if_pos h]
theorem qX {s:Δ} (h:s.err=0):Vf s []=(0,0,0,9):=by
 have a:(X5 s true ([]:List Found)).2.2=9:=by unfold X5;rw[if_neg (by simp[h]),if_pos ⟨rfl,rfl⟩]
 unfold Vf;rw[a,if_pos Z3]
theorem qW (s:Δ) (L:s.small) (F:List Found) (M:IM s F) :
  Κ prog 27 [Zh s] (.ZX [R (Vf s F).1,R (Vf s F).2.1,R (Vf s F).2.2.1,R (Vf s F).2.2.2]):=by
 have N:=GG s L
 have o:=rM s L F M;refine Ξ.body Ρ func27 rfl rfl ntmps27 rfl rfl J ?_;refine Χ ?_;refine ZU λu b=>?_;refine Κ.d (N) (Z1 ?_);apply b;refine Χ ?_;by_cases g:s.err=0
 case neg=>
  rw[qY g];generalize s.err=ah at g;refine Ε (by simp[g]) ?_;refine Χ ?_;refine W.rt ?_;exact .refl _
 obtain⟨k,Y⟩:=M g;subst Y;have h:=B3 s k true;have v:=λc n O P=>rK s k c n O P;have Z:=Gb k;rw[if_pos g] at o;rw[g] at o ⊢;clear N;refine Η J ?_;by_cases p:ZQ s=[]
 case pos=>
  rw[p,qX g];have w:R0 (ZQ s) true=([],9):=by rw[p];rfl
  rw[w] at h;refine ZU λu b=>?_;refine Κ.c h (ZO.refl _) J J ?_;rw[Pr];(repeat (rw[Μ];simp));apply b;refine Χ ?_;refine Ε J ?_;refine Χ ?_;refine W.rt ?_;exact .refl _
 have Q:=rD k p
 have w:R0 (ZQ s) true=(ZQ s,0):=by
  unfold R0;rw[if_neg Z3,if_neg p]
 rw[w] at h;simp only at h;rw[Q];clear Q w p;have ai:=k.many;have aj:=k.Β.hi;have x:=Bs s (ZQ s);have j:=λc r n=>Bt s (ZQ s) c r n;have D:Rh s (ZQ s) 0=(-1,0,(X6 (ZQ s):Int)):=rfl;have l:∀c r,O0 s (ZQ s) c r 0=r:=λc r=>rfl;generalize aa:Rh s (ZQ s)=RC at x D ⊢;generalize ab:O0 s (ZQ s)=ad at x j l;generalize ae:UG s (ZQ s)=af at j v Z;generalize (X6 (ZQ s))=ak at o D;generalize ZQ s=F at h v;clear aa ab ae;refine ZU λu b=>?_;refine Κ.c h (ZO.refl _) J J ?_;rw[Pr];(repeat (rw[Μ];simp));apply b;refine Χ ?_;refine Η J ?_;refine ZU λu b=>?_;refine Κ.c o (ZO.refl _) J J ?_;rw[Pr];(repeat (rw[Μ];simp));apply b;clear o h;refine Χ ?_;refine W.iter (λc:Nat=>c<=s.cells.length) (λc=>[(1,Z6 s),(7,Vr F),(9,R (RC c).2.2),(11,R (RC c).1),(12,R (RC c).2.1),(13,R c)]) (λ_=>[]) (λc=>s.cells.length-c) 0 (ω _) rfl (by simp[D]) (λc O f=>?_);by_cases S:c<s.cells.length
 case neg=>
  have E:¬(c:Int)<(s.cells.length:Int):=U;obtain rfl:c=s.cells.length:=U;clear f;generalize RC s.cells.length=r;obtain⟨ag,al,am⟩:=r;refine Ι E ?_;refine Η J ?_;refine W.exit rfl ?_;refine Χ ?_;by_cases y:ag<0
  .rw[if_pos y];refine Ε (by simp[y]) ?_;refine Χ ?_;refine W.rt ?_;exact .refl _
  .rw[if_neg y];refine Η (by simp[y]) ?_;refine Χ ?_;refine W.rt ?_;exact .refl _
 have E:(c:Int)<(s.cells.length:Int):=U
 have T:=XI (i:=c) U
 have f:=f (c+1) S U;rw[x] at f;have j:=j c (RC c);have l:=l c (RC c);generalize ad c (RC c)=t at f j l;generalize RC c=r at l;refine Ι E ?_;refine Ε J ?_;refine Χ ?_;refine W.iter (λn:Nat=>n<=s.Β.length) (λn=>[(1,Z6 s),(7,Vr F),(9,R (t n).2.2),(11,R (t n).1),(12,R (t n).2.1),(13,R c),(14,R n)]) (λ_=>[]) (λn=>s.Β.length-n) 0 (ω _) rfl (by simp[l]) (λn P a=>?_);by_cases V:n<s.Β.length
 case neg=>
  have H:¬(n:Int)<(s.Β.length:Int):=U;obtain rfl:n=s.Β.length:=U;clear a;generalize t s.Β.length=q at f;refine Ι H ?_;refine Η J ?_;refine W.exit rfl ?_;refine Ι T ?_;exact W.to f rfl (by simp[T])
 have H:(n:Int)<(s.Β.length:Int):=U
 have A:=XI (i:=n) U
 have a:=a (n+1) V U;rw[j] at a;have X:=v c n S V;generalize af c n 64=m at X a;generalize t n=q at a;obtain⟨I,K,B⟩:=q;clear f j v x;refine Ι H ?_;refine Ε J ?_;refine ZU λu b=>?_;refine Κ.d (X) (Z1 ?_);apply b;refine Χ ?_;by_cases C:(m:Int)<B
 .have e:O1 m c n (I,K,B)=((c:Int),(n:Int),(m:Int)):=by unfold O1;rw[if_pos C]
  rw[e] at a;refine Ε (by simp[C]) ?_;refine Ι A ?_;exact W.to a rfl (by simp[A])
 .have e:O1 m c n (I,K,B)=(I,K,B):=by unfold O1;rw[if_neg C]
  rw[e] at a;refine Η (by simp[C]) ?_;refine Ι A ?_;exact W.to a rfl (by simp[A])
theorem qV (s:Δ):Κ prog 20 [Zh s] (ε s.Pm):=by
 refine Ξ.body Ρ func20 rfl rfl ntmps20 rfl rfl J ?_;by_cases g:(20:Int)<s.ς.length\/(20:Int)<s.Β.length\/(20:Int)<s.cells.length
 .have n:s.Pm=true:=by
   unfold Δ.Pm;have:20<s.ς.length\/20<s.Β.length\/20<s.cells.length:=U;rcases this with h|h|h<;>simp[h]
  rw[n];by_cases d:(20:Int)<s.ς.length
  .refine Ι @d ?_;refine Ε rfl ?_;refine Χ ?_;refine W.rt ?_;exact .refl _
  by_cases f:(20:Int)<s.Β.length
  .refine Ι (Υ @d f) ?_;refine Ε rfl ?_;refine Χ ?_;refine W.rt ?_;exact .refl _
  have k:(20:Int)<s.cells.length:=U;refine Ι (Υ @d (Υ f k)) ?_;refine Ε rfl ?_;refine Χ ?_;refine W.rt ?_;exact .refl _
 have d:¬(20:Int)<s.ς.length:=λh=>g (.inl h)
 have f:¬(20:Int)<s.Β.length:=λh=>g (.inr (.inl h))
 have k:¬(20:Int)<s.cells.length:=λh=>g (.inr (.inr h))
 have el:s.Pm=(s.Β.any (λx=>decide (20<x.length))||s.cells.any λx=>decide (20<x.length)):=by
  unfold Δ.Pm;have o:¬20<s.ς.length:=U;have p:¬20<s.Β.length:=U;have r:¬20<s.cells.length:=U;simp only[o,p,r,decide_false,Bool.false_or]
 rw[el];clear el;refine Ι (Υ @d (Υ f k)) ?_;refine Η rfl ?_;refine Χ ?_;refine W.iter (λi:Nat=>i<=s.Β.length/\∀j,j<i->(h:j<s.Β.length)->¬20<s.Β[j].length) (λi=>[(1,Z6 s),(3,R i)]) (λ_=>[]) (λi=>s.Β.length-i) 0 ⟨ω _,λj c=>U⟩ rfl J (λi hi l=>?_);refine Χ ?_;refine W.YM rfl (λa=>?_) (λa=>?_)
 .have a:i<s.Β.length:=by simpa using a
  refine Ι a ?_;refine W.YM rfl (λb=>?_) (λb=>?_)
  .have b:20<s.Β[i].length:=by simp at b;omega
   refine Χ ?_;refine W.rt ?_;refine .of ?_;have:(s.Β.any λx=>decide (20<x.length))=true:=OS.2 ⟨_,Y7 a,by simpa using b⟩;rw[this,Bool.true_or];rfl
  .have b:¬20<s.Β[i].length:=by simp at b;omega
   refine Χ ?_;refine W.forget _ ?_ (l (i+1) ⟨a,λj c h=>?_⟩ U)
   .simp[Yx a (show s.Β.length<2 ^ 62 by omega)]
   .by_cases e:j=i
    .subst e;exact b
    .exact hi.2 j U h
 have a:i=s.Β.length:=by simp at a;omega
 have el:(s.Β.any λx=>decide (20<x.length))=false:=by
  rw[PD];intro x m;obtain⟨j,c,rfl⟩:=Us m;simpa using hi.2 j U c
 rw[el,Bool.false_or];refine W.exit rfl ?_;refine Χ ?_;refine W.iter (λi:Nat=>i<=s.cells.length/\∀j,j<i->(h:j<s.cells.length)->¬20<s.cells[j].length) (λi=>[(1,Z6 s),(4,R i)]) (λ_=>[]) (λi=>s.cells.length-i) 0 ⟨ω _,λj c=>U⟩ rfl J (λi hi l=>?_);refine Χ ?_;refine W.YM rfl (λa=>?_) (λa=>?_)
 .have a:i<s.cells.length:=by simpa using a
  refine Ι a ?_;refine W.YM rfl (λb=>?_) (λb=>?_)
  .have b:20<s.cells[i].length:=by simp at b;omega
   refine Χ ?_;refine W.rt ?_;refine .of ?_;have:(s.cells.any λx=>decide (20<x.length))=true:=OS.2 ⟨_,Y7 a,by simpa using b⟩;rw[this];rfl
  .have b:¬20<s.cells[i].length:=by simp at b;omega
   refine Χ ?_;refine W.forget _ ?_ (l (i+1) ⟨a,λj c h=>?_⟩ U)
   .simp[Yx a (show s.cells.length<2 ^ 62 by omega)]
   .by_cases e:j=i
    .subst e;exact b
    .exact hi.2 j U h
 have a:i=s.cells.length:=by simp at a;omega
 have el:(s.cells.any λx=>decide (20<x.length))=false:=by
  rw[PD];intro x m;obtain⟨j,c,rfl⟩:=Us m;simpa using hi.2 j U c
 rw[el];refine W.exit rfl ?_;refine Χ ?_;refine W.rt ?_;exact .refl _
theorem qU {s:Δ} (h:s.Pm=false):s.small:=by
 unfold Δ.Pm at h;simp only[Bool.or_eq_false_iff,decide_eq_false_iff_not,PD,decide_eq_true_eq] at h;obtain⟨⟨⟨⟨d,e⟩,f⟩,b⟩,c⟩:=h;exact⟨U,U,U,λx a=>by have:=b x a;omega,λx a=>by have:=c x a;omega⟩
end Go.TL
namespace Go.TL
open Go.Proofs.Tryz
open Go.Proofs
theorem qT (s:Δ) (p:Y9) (B:Int) (lower:Bool) (l:List Int) (an:l.length<2 ^ 63) :
  @W Tz prog 0 134 [.code (Tryz.f3.body.getD .skip)] (entry 0 [Zh s,Zr p,R B,ε lower,ν R 1 l]) [] (λj env _=>(∃k,j=.code .ret::k)/\Z' env 10=ε true) (λ_ _ _=>False):=by
 letI:ZV:=Tz;show W prog 0 134 [.code _] _ _ _ _;refine W.seq ?_
 repeat apply Ο
 refine WB ?_;refine ZU λe b=>?_;refine Κ.d (qV s) (Z1 ?_);apply b;cases ah:s.Pm
 case true=>
  refine Ε rfl ?_;refine ZU λe b=>?_;refine Κ.d (CJ) (Z1 ?_);apply b;exact W.stop ⟨⟨_,rfl⟩,rfl⟩
 refine Η rfl ?_;have ai:=qU ah;clear ah;refine ZU λe b=>?_;refine Ξ.call (first:=[]) (captured:=[]) ((sg l).mono (λa s ⟨t,u⟩=>?_) (λ_ _ h=>h.elim));subst t;subst u;simp;(repeat (rw[Μ];simp));apply b;have aj:(⟨l,1⟩:Zo).Z9.length<2 ^ 63:=an;generalize (⟨l,1⟩:Zo)=d0 at aj;refine ZU λe b=>?_;refine Ξ.call (first:=[]) (captured:=[]) ((q6 s ai p d0 aj).mono (λa az h=>?_) (λ_ _ h=>h.elim));obtain⟨L,d1,D,n,ao,rfl,aA⟩:=h;simp;(repeat (rw[Μ];simp));apply b;refine W.Yb [(2,R B),(3,ε lower),(11,.Ν 0 1 0 0),(12,ν Zh 3 L)] (λq v=>by
  simp only[Zf,Yk,or_false] at v;rcases v with rfl|rfl|rfl|rfl
  .exact .refl _
  .exact .refl _
  .exact .refl _
  .exact .trans D .ex) ?_
 have ap:d1.Z9.length<2 ^ 63:=U
 have t:=Ty d1 ap 2
 have aq:=Ws d1 2;generalize Xj d1 2=ar at t;generalize d1.after 2=d2 at t aq;have u:=Ty d2 U 2;generalize Xj d2 2=au at u;generalize d2.after 2=d3 at u;refine ZU λe b=>?_;refine YT.g (t) (Z1 ?_);refine YT.g (u) (Z1 ?_);apply b;obtain⟨C,P⟩:=ψ ([B,ar,au,B]);refine W.cut 0 (ω _) [(3,ε lower),(12,ν Zh 3 L),(13,Yi C)] (ω _) (λid r h=>absurd h (Rf _)) (λq v=>by
  simp only[Zf,Yk,or_false] at v;rcases v with rfl|rfl|rfl
  .exact .low J
  .exact .low (by simp[YN,I.cells])
  .rw[P];exact .low J) ?_
 rw[List.take_zero];have ak:C.length=4:=by rw[P];rfl
 clear P;refine Χ ?_;refine W.iter (λi:Nat=>i<=4) (λi=>[(3,ε lower),(12,ν Zh 3 L),(13,Yi C),(14,R i)]) (λ_=>[]) (λi=>4-i) 0 (ω _) rfl J (λi hi Q=>?_);by_cases w:i<4
 case neg=>
  have f:¬(i:Int)<4:=U;refine Ι (Υ n f) ?_;refine Η J ?_;refine W.exit rfl ?_;refine ZU λe b=>?_;refine Κ.d (CJ) (Z1 ?_);apply b;exact W.stop ⟨⟨_,rfl⟩,rfl⟩
 have f:(i:Int)<4:=U
 have al:=XI (i:=i) U
 have y:=ζ (show i<L.length by omega);obtain⟨x,E⟩:=ψ (L[i]);have o:=(ao x (E▸Y7 _)).small ai;rw[<-E] at y;have F:∀h,L[i]'h=x:=λh=>E.symm;have S:=ζ (show i<C.length by omega);obtain⟨m,T⟩:=ψ (C[i]);rw[<-T] at S;have am:∀h,C[i]'h=m:=λh=>T.symm;clear E T;have Q:=Q (i+1) U U;have X:=q4 x;have b:=q3 x;have Y:=q0 x;have Z:x.err=0->x.Β.length<=4:=λh=>(II h).Β.hi;have aa:=DZ x o _ X Y;have ab:=qW x o _ b;have ad:=q1 x o _ X Y Z m lower;have ae:=rh x o _ b m lower;have av:=xG x o;have aw:=q5 x o;have H:=HJ (UX x (S3 x) m lower).1 (UX x (S3 x) m lower).1 (by have:=qZ x (S3 x) Z m lower;omega);rw[beq_self_eq_true] at H;generalize Vf x (S3 x)=V at aa ab;generalize UX x (S3 x) m lower=ax at ad ae H;obtain⟨K,M,N,O⟩:=V;obtain⟨af,ag⟩:=ax;simp only at aa ab ad ae H;clear X b Y Z;refine Ι (Υ n f) ?_;refine Ε J ?_;refine Y5 ?_;refine Y4 (A:=[15]) Ρ λe b=>XC (Υ y (Υ F (Υ n (Υ w f)))) ?_;refine Κ.d (av) (Z1 ?_);apply b;refine W.UC (σ0:=[]) (ω _) (λr ay=>by simp at ay) (λa D=>by simp[I.cells] at D;rcases D with rfl|rfl|rfl<;>simp[YN,I.cells]) [(3,ε lower),(12,ν Zh 3 L),(13,Yi C),(14,R i),(15,Z6 x)] (by simp[Ww,I.cells,YN]) ?_;refine ZU λe b=>?_;refine Κ.c aa (ZO.refl _) J J ?_;rw[Pr];(repeat (rw[Μ];simp));apply b;refine XM (Υ y (Υ F (Υ n (Υ w f)))) λe b=>?_;refine Κ.c ab (ZO.refl _) J J ?_;rw[Pr];(repeat (rw[Μ];simp));apply b
 repeat apply Ο
 refine W.Uv (A:=[]) Ρ mixed [(3,ε lower),(12,ν Zh 3 L),(13,Yi C),(14,R i),(15,Z6 x),(16,R K),(17,R M),(18,R N),(19,R O),(20,R K),(21,R M),(22,R N),(23,R O),(24,ν R 1 af),(25,R ag)] [] ?_ (by
  simp;(repeat (rw[ZL];simp[S,am,ak,w,f]));(try rw[ZM]);refine YD (Κ.p ad (ZO.refl _) J J) ?_;simp;(repeat (rw[ZL];simp));(try rw[ZM]);refine⟨Yw (by kernel_rfl),?_⟩;simp)
 repeat apply Ο
 refine W.Uv (A:=[]) Ρ mixed [(3,ε lower),(12,ν Zh 3 L),(13,Yi C),(14,R i),(15,Z6 x),(16,R K),(17,R M),(18,R N),(19,R O),(20,R K),(21,R M),(22,R N),(23,R O),(24,ν R 1 af),(25,R ag),(26,ν R 1 af),(27,R ag)] [] ?_ (by
  simp;(repeat (rw[ZL];simp[y,F,n,S,am,ak,w,f]));(try rw[ZM]);refine YD (Κ.p ae (ZO.refl _) J J) ?_;simp;(repeat (rw[ZL];simp));(try rw[ZM]);refine⟨Yw (by kernel_rfl),?_⟩;simp)
 repeat apply Ο
 refine W.Uv (A:=[]) Ρ mixed [(132,ε false),(3,ε lower),(12,ν Zh 3 L),(13,Yi C),(14,R i)] [] ?_ (by
  simp;(repeat (rw[ZL];simp));(try rw[ZM]);refine YD (Κ.p H (ZO.refl _) J J) ?_;simp;(repeat (rw[ZL];simp[y,F,n,w,f]));(try rw[ZM]);refine YD (Κ.p aw (ZO.refl _) J J) ?_;simp;(repeat (rw[ZL];simp));(try rw[ZM]);refine⟨Yw (by kernel_rfl),?_⟩;simp)
 refine Η rfl ?_;refine Ι al ?_;exact W.to Q rfl (by simp[al])
end Go.TL
