import Derived.Test.YtlabjopijpkiaaaGreatQAL
set_option maxHeartbeats 16000000
set_option maxRecDepth 20000
set_option linter.unusedSectionVars false
set_option linter.unusedSimpArgs false
set_option linter.unusedVariables false
namespace Go.TL
open Go.Conc
section
variable {P:Program} {T:a7} {S:aA} {B:aN} {H:ψ} {σ:List Row}
theorem SC {st xt e:TypeId} {k:Nat} {bS:hP} (h:kh T st xt=some (e,k,bS)):0<k∧bS.zero.cells.size=k:=by
 unfold kh at h;split at h<;>try cases h
 split at h<;>try cases h
 split at h<;>try cases h
 rename_i h;exact⟨h.1,h.2.1⟩
theorem BL {α:Type} (l:List α) (x:α):(l++[x])[l.length]?=some x:=by simp
theorem BM {B:aN} {σ:List Row} (hlen:B.length=σ.length) (bo:Option (Nat×Nat)):(B++[bo])[σ.length]?=some bo:=by rw[←hlen];simp
def uv (H:ψ) (bo:Option (Nat×Nat)) (m:Nat):Value:=match bo with|some (b,_)=>((H.aF b m).map (·.1)).getD undef|none=>undef
theorem K6 (z:Array Value) (n:Nat):(Builtin.zeroCells z n).size=n*z.size:=by simp[Builtin.zeroCells]
def BN (T:a7) (st xt:TypeId) (σ:List Row) (s x:θ):cT:=
 match kh T st xt,o5 σ x with
 | some (e,k,_),some (k1,l1)=>
  if(l1.isEmpty=true∨k1=k)∧θ.kX (θ.a0 σ) l1=true then match s with
   | .sl true _ l0=>if l0.isEmpty=true then .b2 (l1.length≤4294967296) (.ok (.ms σ.length l1.length 0 l1.length) (σ++[.cells e k l1])) else .bad
   | .ms id n i len=>match σ[id]? with
    | some (.cells t Ω l)=>if i=0∧l.length=n∧len=n∧Ω=k∧t=e then .b2 (n+l1.length≤4294967296) (.ok (.ms id (n+l1.length) 0 (n+l1.length)) (σ.set id (.cells t k (l++l1)))) else .bad
    | _=>.bad
   | _=>.bad
  else .bad
 | _,_=>.bad
theorem SD (Ζ:bN P T) (Α:Holds S B σ H) (st xt rt:TypeId) {s x:θ} {u v:Value} (ξ:aj S B σ s u) (δ:aj S B σ x v) :
  cB P (Builtin.append_ #[st,xt] rt #[u,v]) S B H σ (BN T st xt σ s x):=by
 unfold BN;split
 ·rename_i e k bS k1 l1 n' sN;split
  ·rename_i η;obtain⟨c2,c4⟩:=η;obtain⟨υ,qg⟩:=SC n';obtain⟨yI,BI,w1,rfl,_,r3,iv⟩:=BJ Α δ sN υ c2;have FR:=FP (σ:=σ) (fun a h=>h) c4;split
   ·rename_i ek l0;split
    ·rename_i he;have FT:l0=[]:=List.isEmpty_iff.1 he;subst FT;refine .b2 fun p' K I=>?_;obtain⟨base,cap,rfl,_,v9,_⟩:=qe ξ;have SE:cap=0:=v9 rfl;subst SE;refine FM Ζ n' (sLen:=0) (wo:=fun _=>undef) (.inl (by simp)) r3 (by omega) (fun bb=>?_) (fun _ jv rp=>?_)
     ·have FQ:l1=[]:=by
       cases l1 with
       | nil=>rfl
       | cons=>simp at bb
      subst FQ;obtain⟨dB,p2,p3⟩:=Α.push (H':=H) (r:=.cells e k []) (bo:=none) (fun b N e=>by cases e) (fun b _=>⟨fun _=>rfl,rfl,rfl⟩) (fun _=>rfl);have fin:h9 S B H σ K (.slice base (([]:List θ).length+([]:List θ).length) 0) H:=⟨S,_,_,_,I,p2,dB,p3,.ms 0 (BL σ _) rfl (BM Α.len _) (by simp) (Nat.le_refl _) (.inl rfl)⟩;cases base with
      | none=>exact ς.pure' fin
      | some a=>
       have Ν:((List.range (([]:List θ).length*k)).map w1)=[]:=by simp
       rw[Ν];exact ς.pure' fin
     ·have ω:fw S B σ (((List.range (0*k)).map fun _=>undef).toArray++((List.range (l1.length*k)).map w1).toArray++Builtin.zeroCells bS.zero.cells (jv-(0+l1.length))) k ([]++l1):=
       FO (l1:=[]) (fun i e hi=>by simp at hi) iv (by simp) FR _
      rw[List.nil_append] at ω;refine yC Α ω e fun r _ R γ ο=>⟨_,_,_,_,I,γ,R,ο,?_⟩;simp only[List.length_nil,Nat.zero_add];refine .ms jv (BL σ _) rfl (BM Α.len _) (by omega) (by simpa using rp) (.inr ⟨r,_,rfl,by simp,?_⟩);simp only[Nat.zero_add,Array.size_append,List.size_toArray,List.length_map,List.length_range,K6,qg,Nat.zero_mul];rw[←Nat.add_mul];have:l1.length+(jv-l1.length)=jv:=by simp at rp;omega
      rw[this];exact Nat.le_refl _
    ·exact .bad
   ·rename_i id n i len;split
    ·rename_i t Ω l ω;split
     ·rename_i lJ;obtain⟨kO,Η,hlen,qi,SF⟩:=lJ;subst kO;subst hlen;subst qi;subst SF;refine .b2 fun p' K I=>?_;cases ξ with
      | @ms _ _ _ _ _ _ _ bo base cap R γ ο Ι ay a6=>
       rw[ω] at R;cases R;have b7:=Α.row id _ bo ω ο;have FU:Reads H base (len*Ω) (uv H bo):=by
        rcases a6 with a6|⟨b,N,rfl,rfl,a6⟩
        ·exact .inl (by rw[show len=0 from by omega];simp)
        ·refine .inr ⟨b,0,by simp,fun j ε=>⟨true,?_⟩⟩;obtain⟨w,hw⟩:=b7.2.2.1 j (by have:=b7.2.1;rw[Η] at this;omega);rw[Nat.zero_add];simp[hw,uv]
       have same:l1=[]→h9 S B H σ K (.slice base (len+l1.length) cap) H:=fun cA=>by
        subst cA;have bU:id<σ.length:=(b3.1 ω).1;have sO:σ.set id (.cells t Ω (l++[]))=σ:=by
         rw[List.append_nil];apply List.ext_getElem?;intro j;by_cases lI:id=j
         ·subst lI;rw[List.getElem?_set_self bU,ω]
         ·rw[List.getElem?_set_ne lI]
        rw[sO] at I;exact⟨S,B,σ,_,I,.refl _ _ _,Α,.refl _ _ _,.ms cap ω Η ο (by simp) ay a6⟩
       have bU:id<σ.length:=(b3.1 ω).1
       have n4:id<B.length:=by rw[Α.len];exact bU
       refine FM Ζ n' FU r3 p' (fun bb=>?_) (fun K3 jv rp=>?_)
       ·by_cases cA:l1=[]
        ·have:=same cA;subst cA;cases base with
         | none=>exact ς.pure' this
         | some a=>
          have Ν:((List.range (([]:List θ).length*Ω)).map w1)=[]:=by simp
          rw[Ν];exact ς.pure' this
        ·have o6:0<l1.length:=List.length_pos_iff.2 cA;rcases a6 with a6|⟨b,N,rfl,rfl,a6⟩
         ·omega
         ·obtain⟨bH,cm,fF,w,hw⟩:=b7;have SG:(len+l1.length)*Ω≤N:=by
           have:(len+l1.length)*Ω≤(0+cap)*Ω:=Nat.mul_le_mul_right _ (by omega);omega
          rw[Nat.add_mul] at SG;have SH:(⟨b,0*Ω,none⟩:Addr).add (len*Ω)=⟨b,len*Ω,none⟩:=by rw[sJ];simp
          have K7:((List.range (l1.length*Ω)).map w1).length=l1.length*Ω:=by simp
          have hA:∀j,j<l1.length*Ω→((List.range (l1.length*Ω)).map w1)[j]?=some (w1 j):=fun j ε=>by simp[ε]
          have K8:∀(i:Nat) (e:θ) (j:Nat) (a:θ),l1[i]?=some e→e.cells[j]?=some a→One (w1 (i*Ω+j)):=fun i e j a hi ε=>
           ((iv i e hi).2 j a ε).yB (List.all_eq_true.1 (List.all_eq_true.1 FR e (cl hi)) a (cl ε))
          have SI:∀v∈(List.range (l1.length*Ω)).map w1,One v:=fun v hv=>by
           obtain⟨m,hm,rfl⟩:=List.mem_map.1 hv;have c0:m<l1.length*Ω:=by simpa using hm
           have hi:m / Ω<l1.length:=(Nat.div_lt_iff_lt_mul υ).2 c0
           have my:=bc hi
           have ε:m % Ω<l1[m / Ω].cells.length:=by rw[(iv _ _ my).1];exact Nat.mod_lt _ υ
           have:=K8 _ _ _ _ my (bc ε)
           have Ε:m / Ω*Ω+m % Ω=m:=by have:=Nat.div_add_mod m Ω;rw[Nat.mul_comm] at this;exact this
           rw[Ε] at this;exact this
          have yk:b0 S S B (B.set id (some (b,N))) σ (σ.set id (.cells t Ω (l++l1)))→jb S (B.set id (some (b,N))) (σ.set id (.cells t Ω (l++l1))) (H.gZ b (len*Ω) ((List.range (l1.length*Ω)).map w1)) (.cells t Ω (l++l1)) (some (b,N)):=fun j3=>by
           refine⟨bH,by simp[Nat.add_mul,Η];omega,fun o Β=>?_,fun i j=>if i<len then w i j else w1 ((i-len)*Ω+j),fun i e hi=>?_⟩
           ·simp only[ψ.gZ];split
            ·exact⟨_,rfl⟩
            ·exact fF o Β
           ·by_cases aE:i<l.length
            ·rw[dU aE] at hi;refine⟨(hw i e hi).1,fun j a ε=>?_⟩;obtain⟨Ξ,ad,aT⟩:=(hw i e hi).2 j a ε;have n9:j<Ω:=by rw[←(hw i e hi).1];exact(b3.1 ε).1
             have hb:i*Ω+j<len*Ω:=by
              have:(i+1)*Ω≤len*Ω:=Nat.mul_le_mul_right Ω (by omega);rw[Nat.add_mul] at this;omega
             simp only[show i<len by omega,if_true];refine⟨?_,ad.later j3,aT⟩;simp only[ψ.gZ];rw[if_neg (by omega)];exact Ξ
            ·rw[hr (by omega),Η] at hi;refine⟨(iv _ e hi).1,fun j a ε=>?_⟩;have n9:j<Ω:=by rw[←(iv _ e hi).1];exact(b3.1 ε).1
             have uu:i-len<l1.length:=(b3.1 hi).1
             have hb:(i-len)*Ω+j<l1.length*Ω:=by
              have:(i-len+1)*Ω≤l1.length*Ω:=Nat.mul_le_mul_right Ω uu;rw[Nat.add_mul] at this;omega
             have he:i*Ω+j=len*Ω+((i-len)*Ω+j):=by
              have:i=len+(i-len):=by omega
              conv=>lhs;rw[this,Nat.add_mul]
              omega
             simp only[show ¬i<len by omega,if_false];refine⟨?_,((iv _ e hi).2 j a ε).later j3,K8 _ e j a hi ε⟩;simp only[ψ.gZ,K7];rw[if_pos ⟨trivial,by omega,by omega⟩];have:i*Ω+j-len*Ω=(i-len)*Ω+j:=by omega
             rw[this,hA _ hb];rfl
          obtain⟨dB,p2,p3⟩:=Α.vZ (H':=H.gZ b (len*Ω) ((List.range (l1.length*Ω)).map w1)) (r':=.cells t Ω (l++l1)) (bo':=some (b,N)) ω trivial ο (.inr fun m hm=>by simp only[Row.gN,List.length_append];omega) (fun Φ eJ aH=>.inl ⟨eJ,aH⟩)
           (fun Φ R _=>by
            have bu:Φ≠b:=fun aH=>by subst aH;exact R N rfl
            exact⟨fun o=>by simp[ψ.gZ,bu],rfl,rfl⟩) ψ.Fx (Bw Α ω) yk
          show ς P (storeCells ((⟨b,0*Ω,none⟩:Addr).add (len*Ω)) _) H _ _;rw[SH];refine ς.storeCells (G:=H) rfl ⟨t,N,bH⟩ _ 0 H SI (fun j _ ε=>?_) rfl ?_
          ·rw[K7] at ε;obtain⟨u,hu⟩:=fF (len*Ω+j) (by omega);exact⟨u,hu⟩
          ·refine⟨S,_,_,_,I,p2,dB,p3,.ms cap (by rw[List.getElem?_set_self bU]) (by simp[Η]) (by rw[List.getElem?_set_self n4]) (by omega) bb (.inr ⟨b,N,rfl,rfl,a6⟩)⟩
       ·have cA:l1≠[]:=by rintro rfl;simp at K3;omega
        have o6:0<l1.length:=List.length_pos_iff.2 cA
        have FV:wc S B σ (uv H bo) Ω l:=fun i e hi=>by
         cases bo with
         | none=>have:l=[]:=b7
                 rw[this] at hi;simp at hi
         | some x=>
          obtain⟨b,N⟩:=x;obtain⟨_,_,_,w,hw⟩:=b7;refine⟨(hw i e hi).1,fun j a ε=>?_⟩;obtain⟨Ξ,ad,_⟩:=(hw i e hi).2 j a ε;simp only[uv,Ξ];exact ad
        have yJ:fw S B σ (((List.range (len*Ω)).map (uv H bo)).toArray++((List.range (l1.length*Ω)).map w1).toArray++Builtin.zeroCells bS.zero.cells (jv-(len+l1.length))) Ω (l++l1):=by
         refine⟨by simp[Nat.add_mul,Η],fun i e hi=>?_⟩;by_cases aE:i<l.length
         ·rw[dU aE] at hi;refine⟨(FV i e hi).1,fun j a ε=>?_⟩;have n9:j<Ω:=by rw[←(FV i e hi).1];exact(b3.1 ε).1
          have hb:i*Ω+j<len*Ω:=by
           have:(i+1)*Ω≤len*Ω:=Nat.mul_le_mul_right Ω (by omega);rw[Nat.add_mul] at this;omega
          refine⟨_,?_,(FV i e hi).2 j a ε,?_⟩
          ·rw[Array.append_assoc,Array.getElem?_append_left (by simpa using hb)];simp[hb]
          ·cases bo with
           | none=>have:l=[]:=b7
                   rw[this] at aE;simp at aE
           | some x=>
            obtain⟨b,N⟩:=x;obtain⟨_,_,_,w,hw⟩:=b7;obtain⟨Ξ,ad,aT⟩:=(hw i e hi).2 j a ε;simp only[uv,Ξ];exact aT
         ·rw[hr (by omega),Η] at hi;have:=FO (l1:=[]) (w1:=fun _=>undef) (k:=Ω) (fun i e hi=>by simp at hi) iv (by simp) FR (Builtin.zeroCells bS.zero.cells (jv-(len+l1.length)));obtain⟨ew,en⟩:=this.2 (i-len) e (by simpa using hi);refine⟨ew,fun j a ε=>?_⟩;obtain⟨x,ia,rq,sP⟩:=en j a ε;have n9:j<Ω:=by rw[←ew];exact(b3.1 ε).1
          have he:i*Ω+j=len*Ω+((i-len)*Ω+j):=by
           have:i=len+(i-len):=by omega
           conv=>lhs;rw[this,Nat.add_mul]
           omega
          refine⟨x,?_,rq,sP⟩;rw[he,Array.append_assoc,Array.getElem?_append_right (by simp)];simpa using ia
        refine⟨rfl,fun r κ=>?_⟩;generalize SJ:(((List.range (len*Ω)).map (uv H bo)).toArray++((List.range (l1.length*Ω)).map w1).toArray++Builtin.zeroCells bS.zero.cells (jv-(len+l1.length)))=c at yJ;have SK:jv*Ω≤c.size:=by
         rw[←SJ];simp only[Array.size_append,List.size_toArray,List.length_map,List.length_range,K6,qg];rw[←Nat.add_mul,←Nat.add_mul];have:len+l1.length+(jv-(len+l1.length))=jv:=by omega
         rw[this];exact Nat.le_refl _
        obtain⟨dB,p2,p3⟩:=Α.vZ (H':=H.dn r c t) (r':=.cells t Ω (l++l1)) (bo':=some (r,c.size)) ω trivial ο (.inr fun m hm=>by simp only[Row.gN,List.length_append];omega) (fun Φ eJ aH=>.inr (by cases aH;exact κ))
         (fun Φ _ γ=>by
          have bu:Φ≠r:=fun aH=>by subst aH;exact γ _ rfl
          exact⟨fun o=>by simp[ψ.dn,bu],by simp[ψ.dn,bu],rfl⟩) (ψ.Ky κ c t) (Bw Α ω) (fun j3=>by
          have aZ:=yJ.later j3;refine⟨by simp[ψ.dn],yJ.1,fun o Β=>⟨c[o],by simp[ψ.dn,Β]⟩,fun i j=>(c[i*Ω+j]?).getD undef,fun i e hi=>⟨(aZ.2 i e hi).1,fun j a ε=>?_⟩⟩;obtain⟨x,Ε,Δ,a4⟩:=(aZ.2 i e hi).2 j a ε;simp only[Ε,Option.getD_some];exact⟨by simp[ψ.dn,Ε],Δ,a4⟩)
        exact⟨S,_,_,_,I,p2,dB,p3,.ms jv (by rw[List.getElem?_set_self bU]) (by simp[Η]) (by rw[List.getElem?_set_self n4]) (by omega) (by omega) (.inr ⟨r,c.size,rfl,by simp,by simpa using SK⟩)⟩
      | iC v R γ=>rw[ω] at R;cases R;simp only[Row.gN] at γ;omega
     ·exact .bad
    ·exact .bad
   ·exact .bad
  ·exact .bad
 ·exact .bad
end
section
variable {P:Program} {T:a7} {S:aA} {B:aN} {H:ψ} {σ:List Row}
def o7 (o:Option θ) (d:Int):Option Int:=match o with
 | none=>some d
 | some (.z (.int _ n))=>some n
 | _=>none
def uw (S:aA) (B:aN) (σ:List Row):Option θ→Option Value→Prop
 | none,none=>True
 | some a,some v=>aj S B σ a v
 | _,_=>False
theorem K9 {k:IntKind} {n:Int} {y:Nat} {code:BoundsCode} (h:0≤n∧n≤y) {G:ψ} {K:Nat→ψ→Prop} {E:Value→ψ→Prop} (υ:K n.toNat G):ς P (Instr.sliceBound (.int k n) y code) G K E:=by
 unfold Instr.sliceBound;refine ς.bind' (ς.pure' ?_);simp only[h,and_self,if_true];exact ς.pure' υ
theorem BO {isSlice:Bool} {len cap:Nat} {lo hi:Option θ} {lv hv:Option Value} (kg:uw S B σ lo lv) (n8:uw S B σ hi hv) {a b:Int} (μ:o7 lo 0=some a) (hb:o7 hi len=some b) (h:0≤a∧a≤b∧b≤cap) {G:ψ} {K:Nat×Nat×Nat→ψ→Prop} {E:Value→ψ→Prop}
  (υ:K (a.toNat,b.toNat,cap) G):ς P (Instr.sliceBounds isSlice len cap lv hv none) G K E:=by
 unfold Instr.sliceBounds;refine ς.bind' (ς.pure' ?_);have low:∀(n:Nat),b.toNat=n→ς P (match lv with|some v=>Instr.sliceBound v n (if(none:Option Value).isSome then .slice3C else .sliceB)|none=>pure 0) G (fun l G'=>ς P (pure (l,n,cap)) G' K E) E:=fun n Η=>by
  subst Η;cases lo with
  | none=>
   cases lv with
   | some v=>exact kg.elim
   | none=>cases μ;exact ς.pure' (ς.pure' υ)
  | some x=>
   cases lv with
   | none=>exact kg.elim
   | some v=>
    unfold o7 at μ;split at μ
    ·rename_i e;cases e
    ·rename_i k n e;cases e;cases μ;cases kg;exact K9 (by omega) (ς.pure' υ)
    ·cases μ
 cases hi with
 | none=>
  cases hv with
  | some v=>exact n8.elim
  | none=>
   cases hb;refine ς.bind' (ς.pure' ?_);have:=low len (by simp);cases lv with
   | none=>exact ς.bind' this
   | some v=>exact ς.bind' this
 | some x=>
  cases hv with
  | none=>exact n8.elim
  | some v=>
   unfold o7 at hb;split at hb
   ·rename_i e;cases e
   ·rename_i k n e;cases e;cases hb;cases n8;refine ς.bind' (K9 (by omega) ?_);have:=low _ rfl;cases lv with
    | none=>exact ς.bind' this
    | some v=>exact ς.bind' this
   ·cases hb
def BP (T:a7) (ty:TypeId) (x:θ) (lo hi:Option θ):cr:=match T ty with
 | some i=>match i.bA,x with
  | .string,.z (.string s)=>match o7 lo 0,o7 hi s.size with
   | some a,some b=>.b2 (0≤a∧a≤b∧b≤s.size) (.ok (.z (.string (s.extract a.toNat b.toNat))))
   | _,_=>.bad
  | .slice e,.sl ex k l=>match T e,o7 lo 0,o7 hi l.length with
   | some bS,some a,some b=>if l.isEmpty=true∨k=bS.size then .b2 (0≤a∧a≤b∧b≤l.length) (.ok (.sl (ex&&hi.isNone) k ((l.take b.toNat).drop a.toNat))) else .bad
   | _,_,_=>.bad
  | .array n e,.aa cells=>match T e with
   | some bS=>if bS.size=1∧bS.agg=false∧n≤cells.length∧0<n∧lo.isNone∧hi.isNone∧(cells.take n).all (fun c=>decide (c.cells.length=1)&&θ.a0 [] c) then .ok (.sl true 1 (cells.take n)) else .bad
   | none=>.bad
  | _,_=>.bad
 | none=>.bad
def BQ (T:a7) (ty:TypeId) (σ:List Row) (x:θ) (lo hi:Option θ):cT:=match T ty with
 | some i=>match i.bA,x with
  | .slice e,.ms id n i len=>match T e,σ[id]?,o7 lo 0,o7 hi len with
   | some bS,some (.cells _ k l),some a,some b=>if k=bS.size∧l.length=n then .b2 (0≤a∧a≤b∧b≤len) (.ok (.ms id n (i+a.toNat) (b.toNat-a.toNat)) σ) else .bad
   | _,_,_,_=>.bad
  | _,_=>.bad
 | none=>.bad
theorem SL {ex:Bool} {k:Nat} {l:List θ} {base:Option Addr} {len cap:Nat} (h:aj S B σ (.sl ex k l) (.slice base len cap)) {a b size:Nat} (gw:a≤b) (hb:b≤l.length) (υ:l.isEmpty=true∨k=size) (FW:Bool) (hex:FW=true→ex=true∧b=l.length) :
  aj S B σ (.sl FW k ((l.take b).drop a)) (.slice (if cap=a then base else base.map (·.add (a*size))) (b-a) (cap-a)):=by
 obtain⟨Sj,FA,e,R,γ,ο⟩:=qe h;cases e;have hlen:((l.take b).drop a).length=b-a:=by simp;omega
 by_cases Ν:(l.take b).drop a=[]
 ·rw[Ν] at hlen ⊢;have:b-a=0:=by simpa using hlen.symm
  rw[this];refine .h7 _ _ fun he=>?_;obtain⟨Ε,Δ⟩:=hex he;have:=γ Ε;omega
 ·have ω:l≠[]:=by rintro rfl;simp at Ν
  obtain⟨cU,o,w,rfl,Ι,ay,a6⟩:=ο ω;have gY:k=size:=υ.resolve_left fun x=>ω (List.isEmpty_iff.1 x);subst gY;have qj:a<b:=by
   apply Classical.byContradiction;intro Η;apply Ν;have:b-a=0:=by omega
   rw[this] at hlen;exact dq.1 hlen
  rw[if_neg (by omega)];simp only[Option.map_some,sJ];have el:∀(i:Nat) (e:θ),((l.take b).drop a)[i]?=some e→l[a+i]?=some e:=fun i e hi=>by
   rw[List.getElem?_drop,List.getElem?_take] at hi;split at hi
   ·exact hi
   ·cases hi
  have hle:((l.take b).drop a).length≤cap-a:=by rw[hlen];omega
  have:=aj.sl (S:=S) (B:=B) (σ:=σ) (ex:=FW) (k:=k) (l:=(l.take b).drop a) cU (o+a*k) (cap-a) (fun i j=>w (a+i) j) (fun he=>by obtain⟨Ε,Δ⟩:=hex he;have:=γ Ε;omega) hle
   (fun i e hi=>Ι _ e (el i e hi)) (fun i e hi j c ε=>by have:=ay _ e (el i e hi) j c ε;rw[Nat.add_mul] at this;rw[Nat.add_assoc o];exact this) (fun i e hi j c ε=>a6 _ e (el i e hi) j c ε)
  rw[hlen] at this;exact this
theorem SM (Ζ:bN P T) (Α:Holds S B σ H) (ty:TypeId) {x:θ} {v:Value} (δ:aj S B σ x v) {lo hi:Option θ} {lv hv:Option Value} (kg:uw S B σ lo lv) (n8:uw S B σ hi hv) :
  cB P (Instr.sliceAt ty v lv hv none) S B H σ ((BP T ty x lo hi).dh σ):=by
 unfold BP;cases a2:T ty with
 | none=>exact .bad
 | some i=>
  simp only;split
  ·rename_i s hu;cases δ;split
   ·rename_i a b μ hb;refine cB.b2 (r:=(cr.ok (.z (.string (s.extract a.toNat b.toNat)))).dh σ) fun h K I=>?_;unfold Instr.sliceAt;refine ς.bind' (Ζ.bA a2 ?_);rw[hu];simp only;unfold Instr.slice;refine ς.bind' (Ζ.bA a2 ?_);rw[hu];simp only[Option.isSome_none,Bool.false_eq_true,if_false];refine ς.bind' (BO kg n8 μ hb h ?_);exact ς.pure' (.same Α I (.z _))
   ·exact .bad
  ·rename_i e ex k l hu;split
   ·rename_i bS a b dO μ hb;split
    ·rename_i υ;refine cB.b2 (r:=(cr.ok (.sl (ex&&hi.isNone) k ((l.take b.toNat).drop a.toNat))).dh σ) fun h K I=>?_;obtain⟨base,cap,rfl,R,γ,_⟩:=qe δ;unfold Instr.sliceAt;refine ς.bind' (Ζ.bA a2 ?_);rw[hu];simp only;unfold Instr.slice;refine ς.bind' (Ζ.bA a2 ?_);rw[hu];simp only;refine ς.bind' (BO kg n8 μ hb (by omega) ?_);simp only;refine ς.bind' (Ζ.size dO ?_);refine ς.pure' (.same Α I (SL δ (by omega) (by omega) υ _ fun he=>?_));simp only[Bool.and_eq_true] at he;refine⟨he.1,?_⟩;cases hi with
     | none=>cases hb;simp
     | some=>simp at he
    ·exact .bad
   ·exact .bad
  ·rename_i n e cells hu;split
   ·rename_i bS dO;split
    ·rename_i η;obtain⟨c1,c2,c3,c4,mA,rr,qk⟩:=η;intro K I;cases δ with
     | aa b o w R γ=>
      cases lo with
      | some=>simp at mA
      | none=>
       cases hi with
       | some=>simp at rr
       | none=>
        cases lv with
        | some=>exact kg.elim
        | none=>
         cases hv with
         | some=>exact n8.elim
         | none=>
          unfold Instr.sliceAt;refine ς.bind' (Ζ.bA a2 ?_);rw[hu];simp only;refine ς.bind' (ς.pure' ?_);refine ς.bind' (BO (S:=S) (B:=B) (σ:=σ) (lo:=none) (hi:=none) (lv:=none) (hv:=none) trivial trivial (a:=0) (b:=n) rfl rfl (by omega) ?_);simp only[Int.toNat_natCast];refine ς.bind' (Ζ.size dO ?_);rw[c1];refine ς.pure' (.same Α I ?_);have hh:(0:Int).toNat=0:=rfl;rw[hh,if_neg (by omega),sJ];simp only[Nat.zero_mul,Nat.add_zero,Nat.sub_zero];have hlen:(cells.take n).length=n:=by simp;omega
          rw[List.all_eq_true] at qk;have el:∀(i:Nat) (e:θ),(cells.take n)[i]?=some e→cells[i]?=some e∧e.cells=[e]:=fun i e hi=>by
           have hm:=qk e (cl hi);simp only[Bool.and_eq_true] at hm;rw[List.getElem?_take] at hi;split at hi
           ·exact⟨hi,θ.FC hm.2⟩
           ·cases hi
          have:=aj.sl (S:=S) (B:=B) (σ:=σ) (ex:=true) (k:=1) (l:=cells.take n) b o n (fun i _=>w i) (fun _=>hlen.symm) (by omega) (fun i e hi=>by rw[(el i e hi).2];rfl)
           (fun i e hi j c ε=>by
            rw[(el i e hi).2] at ε
            match j with
            | 0=>simp at ε;subst ε;have:=R i _ (el i _ hi).1;simpa using this
            | j+1=>simp at ε) (fun i e hi j c ε=>by
            rw[(el i e hi).2] at ε
            match j with
            | 0=>simp at ε;subst ε;exact γ i _ (el i _ hi).1
            | j+1=>simp at ε)
          rw[hlen] at this;exact this
    ·exact .bad
   ·exact .bad
  ·exact .bad
theorem SN (Ζ:bN P T) (Α:Holds S B σ H) (ty:TypeId) {x:θ} {v:Value} (δ:aj S B σ x v) {lo hi:Option θ} {lv hv:Option Value} (kg:uw S B σ lo lv) (n8:uw S B σ hi hv) :
  cB P (Instr.sliceAt ty v lv hv none) S B H σ (BQ T ty σ x lo hi):=by
 unfold BQ;cases a2:T ty with
 | none=>exact .bad
 | some j7=>
  simp only;split
  ·rename_i e id n i len hu;split
   ·rename_i bS t k l a b dO ω μ hb;split
    ·rename_i η;obtain⟨υ,Η⟩:=η;refine .b2 fun h K I=>?_;cases δ with
     | ms cap R γ ο Ι ay a6=>
      rw[ω] at R;cases R;unfold Instr.sliceAt;refine ς.bind' (Ζ.bA a2 ?_);rw[hu];simp only;unfold Instr.slice;refine ς.bind' (Ζ.bA a2 ?_);rw[hu];simp only;refine ς.bind' (BO kg n8 μ hb (by omega) ?_);simp only;refine ς.bind' (Ζ.size dO ?_);refine ς.pure' (.same Α I (.ms (cap-a.toNat) ω Η ο (by omega) (by omega) ?_));by_cases η:cap=a.toNat
      ·exact .inl (by omega)
      ·rcases a6 with a6|⟨cU,N,rfl,rfl,a6⟩
       ·exact .inl (by omega)
       ·refine .inr ⟨cU,N,rfl,?_,?_⟩
        ·rw[if_neg η];simp only[Option.map_some,sJ,υ,Nat.add_mul]
        ·have:i+a.toNat+(cap-a.toNat)=i+cap:=by omega
         rw[this];exact a6
     | iC v R γ=>rw[ω] at R;cases R;simp only[Row.gN] at γ;omega
    ·exact .bad
   ·exact .bad
  ·exact .bad
def BR (T:a7) (ty:TypeId) (x:θ):cr:=match T ty with
 | some i=>match i.bA,x with
  | .string,.z (.string s)=>.ok (.z (.int .i64 s.size))
  | .slice _,.sl _ _ l=>.ok (.z (.int .i64 l.length))
  | .array n _,_=>.ok (.z (.int .i64 n))
  | _,_=>.bad
 | none=>.bad
def BS (T:a7) (ty:TypeId) (σ:List Row) (x:θ):cT:=match T ty with
 | some i=>match i.bA,x with
  | .slice _,.ms id n _ len=>match σ[id]? with
   | some (.cells _ _ l)=>if l.length=n then .ok (.z (.int .i64 len)) σ else .bad
   | _=>.bad
  | _,_=>.bad
 | none=>.bad
theorem SO (Ζ:bN P T) (Α:Holds S B σ H) (ty rt:TypeId) {x:θ} {v:Value} (δ:aj S B σ x v):cB P (Builtin.len_ #[ty] rt #[v]) S B H σ ((BR T ty x).dh σ):=by
 unfold BR;cases hi:T ty with
 | none=>exact .bad
 | some i=>
  simp only;have go:∀(K:θ→List Row→Prop) (n:Int),K (.z (.int .i64 n)) σ→ς P (pure (goInt n):Sem Value) H (h9 S B H σ K) (fun _ _=>False):=fun K n I=>ς.pure' (.same Α I (.z _));split
  ·rename_i s hu;cases δ;intro K I;unfold Builtin.len_;refine ς.bind' (Ζ.bA hi ?_);rw[hu];exact go K _ I
  ·rename_i e ex k l hu;obtain⟨base,cap,rfl,_⟩:=qe δ;intro K I;unfold Builtin.len_;refine ς.bind' (Ζ.bA hi ?_);rw[hu];exact go K _ I
  ·rename_i n e hu;intro K I;unfold Builtin.len_;refine ς.bind' (Ζ.bA hi ?_);rw[hu];cases v<;>exact go K _ I
  ·exact .bad
theorem SP (Ζ:bN P T) (Α:Holds S B σ H) (ty rt:TypeId) {x:θ} {v:Value} (δ:aj S B σ x v):cB P (Builtin.len_ #[ty] rt #[v]) S B H σ (BS T ty σ x):=by
 unfold BS;cases hi:T ty with
 | none=>exact .bad
 | some i=>
  simp only;split
  ·rename_i e id n j len hu;split
   ·rename_i t k l ω;split
    ·rename_i Η;intro K I;cases δ with
     | ms cap R γ ο Ι ay a6=>
      unfold Builtin.len_;refine ς.bind' (Ζ.bA hi ?_);rw[hu];exact ς.pure' (.same Α I (.z _))
     | iC v R γ=>rw[ω] at R;cases R;simp only[Row.gN] at γ;omega
    ·exact .bad
   ·exact .bad
  ·exact .bad
def we (T:a7) (src dst:TypeId) (x:θ):cr:=match T src,T dst with
 | some _,some j=>match j.bA,x with
  | .int k,.z (.int _ n)=>.ok (.z (.int k (k.wrap n)))
  | _,_=>.bad
 | _,_=>.bad
theorem SQ (Ζ:bN P T) (Α:Holds S B σ H) (src dst:TypeId) {x:θ} {v:Value} (δ:aj S B σ x v):cB P (convert src dst v) S B H σ ((we T src dst x).dh σ):=by
 unfold we;split
 ·rename_i i j hi ε;split
  ·rename_i k kk n hu;cases δ;intro K I;unfold convert;refine ς.bind' (Ζ.bA hi (ς.bind' (Ζ.bA ε ?_)));rw[hu];exact ς.pure' (.same Α I (.z _))
  ·exact .bad
 ·exact .bad
def BT (l:List θ):cr:=match l with
 | [.z (.int k x),.z (.int _ y)]=>.ok (.z (.int k (if y > x then y else x)))
 | _=>.bad
theorem SR (Α:Holds S B σ H) (dL:Array TypeId) (rt:TypeId) {a b:θ} {u v:Value} (μ:aj S B σ a u) (hb:aj S B σ b v):cB P (Builtin.max_ dL rt #[u,v]) S B H σ ((BT [a,b]).dh σ):=by
 unfold BT;split
 ·rename_i k x kk y e;simp at e;obtain⟨rfl,rfl⟩:=e;cases μ;cases hb;intro K I;exact ς.pure' (.same Α I (.z _))
 ·exact .bad
end
def lK (d:TypeDesc) (x y:Value):Option Bool:=match d,x,y with
 | .int _,.int k a,.int Ω b=>if k=Ω then some (a==b) else none
 | .string,.string a,.string b=>some (a==b)
 | .bool,.bool a,.bool b=>some (a==b)
 | _,_,_=>none
def jc:List (TypeDesc×Nat)→List θ→List θ→Option Bool
 | [],_,_=>some true
 |(d,o)::r,xs,cq=>match xs[o]?,cq[o]? with
  | some (.z x),some (.z y)=>match lK d x y,jc r xs cq with
   | some b,some c=>some (b&&c)
   | _,_=>none
  | _,_=>none
def aeqv (T:a7) (ty:TypeId) (a b:θ):Option Bool:=match T ty with
 | some i=>match a,b with
  | .z x,.z y=>if h8 i.bA then lK i.bA x y else none
  | .aU xs,.aU cq=>match i.eqs with|some items=>if xs.length=items.length∧cq.length=items.length then jc items xs cq else none|none=>none
  | _,_=>none
 | none=>none
section
variable {P:Program} {T:a7} {S:aA} {B:aN} {H:ψ} {σ:List Row}
theorem ς.forIn_nil {α β:Type} {init:β} {f:α→β→Sem (ForInStep β)} {G:ψ} {K:β→ψ→Prop} {E:Value→ψ→Prop} (h:K init G):ς P (forIn ([]:List α) init f) G K E:=by
 rw[List.forIn_nil];exact h
theorem ς.forIn_cons {α β:Type} {a:α} {l:List α} {init:β} {f:α→β→Sem (ForInStep β)} {G:ψ} {K:β→ψ→Prop} {E:Value→ψ→Prop}
  (h:ς P (f a init) G (fun r G'=>match r with|.done b=>K b G'|.yield b=>ς P (forIn l b f) G' K E) E):ς P (forIn (a::l) init f) G K E:=by
 rw[List.forIn_cons];refine ς.bind' (ς.mono (fun r G' κ=>?_) (fun _ _ h=>h) _ h);cases r with
 | done b=>exact ς.pure' κ
 | yield b=>exact κ
theorem forIn_range {β:Type} (m:Nat) (init:β) (f:Nat→β→Sem (ForInStep β)):forIn [:m] init f=forIn (List.range m) init f:=by
 rw[Std.Legacy.Range.forIn_eq_forIn_range'];simp[Std.Legacy.Range.size,List.range_eq_range']
theorem FX {ty:TypeId} {d:TypeDesc} (hd:P.underlying ty=some d) (ξ:h8 d=true) {x y:Value} {b:Bool} (h:lK d x y=some b) {n:Nat} {G:ψ} {K:Bool→ψ→Prop} {E:Value→ψ→Prop} (υ:K b G):ς P (Op.equalIn (n+1) ty x y) G K E:=by
 unfold Op.equalIn;refine ς.bind' (ς.underlying hd ?_);unfold lK at h;split at h
 ·split at h
  ·rename_i e;subst e;cases h;simp only[if_true];exact ς.pure' υ
  ·cases h
 ·cases h;exact ς.pure' υ
 ·cases h;exact ς.pure' υ
 ·cases h
def FY (xs:List θ) (vs:Array Value):Prop:=∀(o:Nat) (v:Value),xs[o]?=some (θ.z v)→vs[o]?=some v
theorem yK {xs:List θ} {vs:Array Value} (h:aj S B σ (.aU xs) (.agg vs)):FY xs vs:=fun o v hv=>by
 cases h with
 | aU _ Ξ ad=>
  have aE:o<vs.size:=by rw[←Ξ];exact(b3.1 hv).1
  have δ:=eY aE
  have:=ad o _ _ hv δ;generalize vs[o]=u at this δ;cases this;exact δ
theorem yL {ty:TypeId} {d:TypeDesc} (hd:P.underlying ty=some d) (ξ:h8 d=true) {vs:Array Value} {o:Nat} {v:Value} (hv:vs[o]?=some v) {G:ψ} {K:Value→ψ→Prop} {E:Value→ψ→Prop} (υ:K v G):ς P (part ty vs o) G K E:=by
 unfold part;refine ς.bind' (ς.isAgg hd ?_);have:kV d=false:=by cases d<;>first|rfl|cases ξ
 rw[this];simp only[Bool.false_eq_true,if_false,hv];exact ς.pure' υ
theorem SS {xs cq:List θ} {vs ws:Array Value} (δ:FY xs vs) (Ο:FY cq ws) {ty:TypeId} {items:List (TypeDesc×Nat)} (Υ:Fy P ty (some items)) {b:Bool} (h:jc items xs cq=some b) {n:Nat} {G:ψ} {K:Bool→ψ→Prop} {E:Value→ψ→Prop} (υ:K b G) :
  ς P (Op.equalIn (n+2) ty (.agg vs) (.agg ws)) G K E:=by
 obtain⟨_,_,Υ⟩:=Υ;rcases Υ with⟨cV,hu,cg,dd,oa⟩|⟨m,e,d,f,hu,he,ξ,Ρ,cd,dd⟩
 ·unfold Op.equalIn;refine ς.bind' (ς.underlying hu ?_);simp only;refine ς.bind' ?_;show ς P (if P.stoodInHeld ty=true then _ else _) G K E;rw[cg];simp only[Bool.false_eq_true,if_false];have key:∀(l:List Field) (c:Bool),(∀f∈l,f.name≠ "_" ∧ ∃d,P.underlying f.type=some d∧h8 d=true)→jc (l.map fun f=>((P.underlying f.type).getD .invalid,f.offset)) xs cq=some c→
    ∀o8:Option Bool×PUnit→ψ→Prop,o8 (if c then none else some false,⟨⟩) G→ς P (forIn l (none,⟨⟩) fun(f:Field) (_:Option Bool×PUnit)=>if f.name≠ "_" then do
     let a ←part f.type vs f.offset
     let b ←part f.type ws f.offset
     let r ←Op.equalIn (n+1) f.type a b
     if(!r)=true then pure (ForInStep.done (some false,⟨⟩)) else pure (ForInStep.yield (none,⟨⟩))
    else pure (ForInStep.yield (none,⟨⟩))) G o8 E:=by
   intro l
   induction l with
   | nil=>intro c _ η o8 γ;simp[jc] at η;subst η;exact .forIn_nil (by simpa using γ)
   | cons f l Γ=>
    intro c ω η o8 γ;obtain⟨uy,d,hd,ξ⟩:=ω f (by simp);simp only[List.map_cons,jc,hd,Option.getD_some] at η;split at η<;>try cases η
    rename_i x y uz wh;split at η<;>try cases η
    rename_i bI c1 j9 nb;refine .forIn_cons ?_;rw[if_pos uy];refine ς.bind' (yL hd ξ (δ _ _ uz) (ς.bind' (yL hd ξ (Ο _ _ wh) (ς.bind' (FX hd ξ j9 ?_)))));cases bI with
    | false=>exact ς.pure' (by simpa using γ)
    | true=>exact ς.pure' (Γ c1 (fun g Τ=>ω g (by simp[Τ])) nb o8 (by simpa using γ))
  refine ς.bind' ?_;have BU:(forIn cV (none,⟨⟩) fun(f:Field) (_:Option Bool×PUnit)=>if f.name≠ "_" then do
     let a ←part f.type vs f.offset
     let b ←part f.type ws f.offset
     let r ←Op.equalIn (n+1) f.type a b
     if(!r)=true then pure (ForInStep.done (some false,⟨⟩)) else pure (ForInStep.yield (none,⟨⟩))
    else pure (ForInStep.yield (none,⟨⟩)):Sem (Option Bool×PUnit))=forIn cV.toList (none,⟨⟩) _:=(Array.forIn_toList ..).symm
  refine Eq.mpr (congrArg (fun s=>ς P s G _ E) BU) ?_;refine key cV.toList b oa (by rw[←dd];exact h) _ ?_;cases b<;>exact ς.pure' υ
 ·unfold Op.equalIn;refine ς.bind' (ς.underlying hu ?_);simp only;refine ς.bind' (ς.sizeOf Ρ ?_);rw[cd];have key:∀(l:List Nat) (c:Bool),jc (l.map fun i=>(d,i)) xs cq=some c→
    ∀o8:Option Bool×PUnit→ψ→Prop,o8 (if c then none else some false,⟨⟩) G→ς P (forIn l (none,⟨⟩) fun(i:Nat) (_:Option Bool×PUnit)=>do
     let a ←part e vs (i*1)
     let b ←part e ws (i*1)
     let r ←Op.equalIn (n+1) e a b
     if(!r)=true then pure (ForInStep.done (some false,⟨⟩)) else pure (ForInStep.yield (none,⟨⟩))) G o8 E:=by
   intro l
   induction l with
   | nil=>intro c η o8 γ;simp[jc] at η;subst η;exact .forIn_nil (by simpa using γ)
   | cons i l Γ=>
    intro c η o8 γ;simp only[List.map_cons,jc] at η;split at η<;>try cases η
    rename_i x y uz wh;split at η<;>try cases η
    rename_i bI c1 j9 nb;refine .forIn_cons ?_;refine ς.bind' (yL he ξ (by rw[Nat.mul_one];exact δ _ _ uz) (ς.bind' (yL he ξ (by rw[Nat.mul_one];exact Ο _ _ wh) (ς.bind' (FX he ξ j9 ?_)))));cases bI with
    | false=>exact ς.pure' (by simpa using γ)
    | true=>exact ς.pure' (Γ c1 nb o8 (by simpa using γ))
  refine ς.bind' ?_;rw[forIn_range];refine key (List.range m) b (by rw[←dd];exact h) _ ?_;cases b<;>exact ς.pure' υ
theorem FZ (Ζ:bN P T) {ty:TypeId} {a b:θ} {v w:Value} {r:Bool} (μ:aj S B σ a v) (hb:aj S B σ b w) (h:aeqv T ty a b=some r) {K:Bool→ψ→Prop} {E:Value→ψ→Prop} (υ:K r H):ς P (Op.equal ty v w) H K E:=by
 unfold aeqv at h;split at h
 ·rename_i i hi;obtain⟨⟨hu,Υ⟩,_⟩:=Ζ ty i hi;split at h
  ·split at h
   ·rename_i ξ;cases μ;cases hb;exact FX hu ξ h υ
   ·cases h
  ·split at h
   ·rename_i items dd;rw[dd] at Υ;split at h<;>try cases h
    cases μ with
    | aU vs Ξ ad=>cases hb with
     | aU ws k1 cx=>exact SS (yK (.aU vs Ξ ad)) (yK (.aU ws k1 cx)) Υ h υ
   ·cases h
  ·cases h
 ·cases h
theorem La (a b:ByteArray):(a==b)=(a.data==b.data):=by
 cases a;cases b;rfl
theorem SU {a b:ByteArray} (h:(a==b)=true):a=b:=by
 rw[La] at h;have:=eq_of_beq h;cases a;cases b;simp at this;simp[this]
theorem SV (a:ByteArray):(a==a)=true:=by rw[La];exact beq_self_eq_true _
theorem Lb {d:TypeDesc} {x y:Value} (h:lK d x y=some true):x=y∧∀n,Instr.sameBits n x x=true:=by
 unfold lK at h;split at h
 ·split at h
  ·rename_i e;subst e;simp only[Option.some.injEq,beq_iff_eq] at h;subst h;exact⟨rfl,fun n=>by cases n<;>simp[Instr.sameBits]⟩
  ·cases h
 ·simp only[Option.some.injEq] at h;have:=SU h;subst this;exact⟨rfl,fun n=>by cases n<;>simp[Instr.sameBits,SV]⟩
 ·simp only[Option.some.injEq,beq_iff_eq] at h;subst h;exact⟨rfl,fun n=>by cases n<;>simp[Instr.sameBits]⟩
 ·cases h
theorem SW {xs cq:List θ}:∀(items:List (TypeDesc×Nat)),jc items xs cq=some true→∀o,o∈items.map (·.2)→∃x,xs[o]?=some (.z x)∧cq[o]?=some (.z x)∧∀n,Instr.sameBits n x x=true:=by
 intro items
 induction items with
 | nil=>intro _ o Β;simp at Β
 | cons a items Γ=>
  obtain⟨d,p⟩:=a;intro h o Β;simp only[jc] at h;split at h<;>try cases h
  rename_i x y uz wh;split at h<;>try cases h
  rename_i b c hb η;simp only[Option.some.injEq,Bool.and_eq_true] at h;obtain⟨rfl,rfl⟩:=h;simp only[List.map_cons,List.mem_cons] at Β;rcases Β with rfl|Β
  ·obtain⟨Ε,Δ⟩:=Lb hb;subst Ε;exact⟨x,uz,wh,Δ⟩
  ·exact Γ η o Β
theorem SX (Ζ:bN P T) {ty:TypeId} {a b:θ} {v w:Value} (μ:aj S B σ a v) (hb:aj S B σ b w) (h:aeqv T ty a b=some true):v=w∧a=b∧∀n,Instr.sameBits (n+1) v v=true:=by
 unfold aeqv at h;split at h
 ·rename_i i hi;obtain⟨⟨hu,Υ⟩,_⟩:=Ζ ty i hi;split at h
  ·split at h
   ·obtain⟨Ε,Δ⟩:=Lb h;subst Ε;cases μ;cases hb;exact⟨rfl,rfl,fun n=>Δ _⟩
   ·cases h
  ·rename_i xs cq;split at h
   ·rename_i items dd;rw[dd] at Υ;split at h<;>try cases h
    rename_i hlen;obtain⟨R,γ⟩:=hlen;have o9:=Υ.2.1;have get:∀o,o<items.length→∃x,xs[o]?=some (.z x)∧cq[o]?=some (.z x)∧∀n,Instr.sameBits n x x=true:=fun o Β=>SW items h o (by rw[o9];simpa using Β);have wi:xs=cq:=by
     apply List.ext_getElem?;intro o;by_cases Β:o<items.length
     ·obtain⟨x,Ξ,ad,_⟩:=get o Β;rw[Ξ,ad]
     ·rw[List.getElem?_eq_none (by omega),List.getElem?_eq_none (by omega)]
    cases μ with
    | aU vs Ξ ad=>cases hb with
     | aU ws k1 cx=>
      have Lc:∀o,o<items.length→∃x,vs[o]?=some x∧ws[o]?=some x∧∀n,Instr.sameBits n x x=true:=fun o Β=>by
       obtain⟨x,c1,c2,c3⟩:=get o Β;exact⟨x,yK (.aU vs Ξ ad) o x c1,yK (.aU ws k1 cx) o x c2,c3⟩
      have pa:vs=ws:=by
       apply Array.ext_getElem?;intro o;by_cases Β:o<items.length
       ·obtain⟨x,c1,c2,_⟩:=Lc o Β;rw[c1,c2]
       ·rw[Array.getElem?_eq_none (by omega),Array.getElem?_eq_none (by omega)]
      subst pa;refine⟨rfl,by rw[wi],fun n=>?_⟩;simp only[Instr.sameBits,beq_self_eq_true,Bool.true_and,List.all_eq_true];intro p χ;obtain⟨o,Β⟩:=List.getElem?_of_mem χ;rw[List.getElem?_zip_eq_some] at Β;have yM:o<items.length:=by
       have:=(b3.1 Β.1).1;simp at this;omega
      obtain⟨x,c1,_,c3⟩:=Lc o yM;rw[Array.getElem?_toList,c1] at Β;obtain⟨Ε,Δ⟩:=Β;cases Ε;rw[←Option.some.inj Δ];exact c3 n
   ·cases h
  ·cases h
 ·cases h
end
end Go.TL
