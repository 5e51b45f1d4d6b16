import Derived.Test.YtkndbcflmgogjaaGreatTAD
set_option linter.defProp false
set_option maxHeartbeats 16000000
set_option maxRecDepth 20000
set_option linter.unusedSectionVars false
set_option linter.unusedSimpArgs false
set_option linter.unusedVariables false
namespace Go.TL
open Go.Conc
def G5(σ:Ρ):Y1:=.all 2 λj=>.ok (.z (.bool (j==1))) σ
def G4(T:ZY)(b:TypeId)(σ:Ρ)(a:Ψ):Y1:=match T b with
 | some i=>match i.Z1 with
  | .slice _=>match a with
   | .ms id n i len=>match σ[id]? with
    | some (.cells _ _ l)=>if l.length=n/\i+len<=n then(if len=0 then G5 σ else .ok (.z (.bool false)) σ) else .bad
    | _=>.bad
   | .sl _ _ l=>if l.isEmpty then G5 σ else .ok (.z (.bool false)) σ
   | _=>.bad
  | _=>.bad
 | none=>.bad
section
variable{P:Program}{T:ZY}{S:ζ}{B:ZZ}{H:Φ}{σ:Ρ}
def JA(g:ZH P T)(d:Holds S B σ H){a:TypeId}{i:T1}(hi:T a=some i){e:TypeId}(h:i.Z1=.slice e)(p q:Operand)(base:Option Addr)(len cap:Nat){f:Y1}
  (j:∀K,f.holds K->K (.z (.bool base.isNone)) σ):Zo P (do eqGuard .eql a p q (.slice base len cap) (.slice none 0 0);binOp .eql a (.slice base len cap) (.slice none 0 0)) S B H σ f:=by
 intro K c;have c:=j K c;refine Ω.bind' ?_;unfold eqGuard;refine Ω.pure' ?_;have k:binOp .eql a (.slice base len cap) (.slice none 0 0)=(do pure (Value.bool (<-Op.equal a (.slice base len cap) (.slice none 0 0)))):=rfl;rw[k];refine Ω.bind' ?_;unfold Op.equal;unfold Op.equalIn;refine Ω.bind' (g.Z1 hi ?_);rw[h];cases base with
 | none=>exact Ω.pure' (Ω.pure' (.same d c (.z _)))
 | some b=>exact Ω.pure' (Ω.pure' (.same d c (.z _)))
def Es{K:Ψ->Ρ->Prop}(h:(G5 σ).holds K)(b:Bool):K (.z (.bool b)) σ:=by
 cases b
 .exact h 0 θ
 exact h 1 θ
def uy(d:ZH P T)(f:Holds S B σ H)(m:TypeId)(p q:Operand){a:Ψ}{v:Value}(r:Θ S B σ a v):Zo P (do eqGuard .eql m p q v (.slice none 0 0);binOp .eql m v (.slice none 0 0)) S B H σ (G4 T m σ a):=by
 unfold G4;split
 .rename_i i hi;split
  .rename_i e g;split
   .rename_i id n j len;split
    .rename_i t k l u;split
     .rename_i x;cases r with
      | @ms _ _ _ _ _ _ _ bo base cap h o A C D s=>
       split
       .exact JA d f hi g p q base len cap λK c=>Es c _
       rename_i E;refine JA d f hi g p q base len cap λK c=>?_;rcases s with s|⟨b,N,_,y,_⟩
       .omega
       rw[y];exact c
      | VP v h o=>
       rw[u]at h;cases h;exact absurd x.1 (Nat.ne_of_gt o)
     exact .bad
    exact .bad
   .rename_i l;cases r with
    | WI base cap h=>exact JA d f hi g p q base 0 cap λK c=>Es c _
    | sl b F cap w h o=>
     split
     .exact JA d f hi g p q _ _ cap λK c=>Es c _
     exact JA d f hi g p q _ _ cap λK c=>c
   exact .bad
  exact .bad
 exact .bad
end
def G3(T:ZY)(a:TypeId)(σ:Ρ)(x:Ψ):Y1:=match x with
 | .z (.string s)=>match T a with
  | some i=>match i.Z1 with
   | .string=>.ok (.it σ.length) (σ++[.str s 0])
   | _=>.bad
  | none=>.bad
 | _=>Hf T a σ x
def G2(σ:Ρ)(a:Ψ):Y1:=match a with
 | .it id=>match σ[id]? with
  | some (.str s pos)=>if pos<s.size then .ok (.Z7 [.z (.bool true),.z (.int .i64 pos),.z (.int .i32 (Utf8.decode s pos).1)]) (σ.set id (.str s (pos+(Utf8.decode s pos).2))) else .ok (.Z7 [.z (.bool false)]) σ
  | _=>.bad
 | _=>.bad
section
variable{P:Program}{T:ZY}{S:ζ}{B:ZZ}{H:Φ}{σ:Ρ}
def uw(b:ZH P T)(a:Holds S B σ H){c:TypeId}{x:Ψ}{u:Value}(d:Θ S B σ x u):Zo P (Instr.range c u) S B H σ (G3 T c σ x):=by
 unfold G3;split
 .rename_i s;cases d;split
  .rename_i i hi;split
   .rename_i g;intro K h;unfold Instr.range;refine Ω.bind' (b.Z1 hi ?_);rw[g];refine Ω.bind' (Ω.pure' ?_);refine Ω.bind' ?_;refine λr j=>?_;obtain⟨k,l,m⟩:=a.push (r:=.str s 0) (bo:=some (r,0)) (H':=H.Zp r (.stringIter s 0)) (λf p e=>by cases e;exact j) (λf n=>by
     have o:f≠r:=λe=>by subst e;exact n _ U
     exact⟨λt=>rfl,U,by simp[Φ.Zp,o]⟩) λ_=>⟨r,0,U,by simp[Φ.Zp]⟩
    exact Ω.pure' ⟨_,_,_,_,h,l,k,m,.R8 (Mr σ _) (Mq a.len _)⟩
   exact .bad
  exact .bad
 exact uT b a d
def uv(g:Holds S B σ H){it:Ψ}{u:Value}(y:TypeId)(hi:Θ S B σ it u):Zo P (Instr.next u true y) S B H σ (G2 σ it):=by
 unfold G2;split
 .rename_i id;split
  .rename_i s pos f;cases hi with
   | R8 d o=>
    rename_i J L b N;rw[f]at d;cases d;obtain⟨n,p,A,r⟩:=g.row id _ _ f o;cases A;intro K k;unfold Instr.next;refine Ω.bind' ?_;refine⟨_,r,U,?_⟩;refine Ω.pure' ?_;simp only;by_cases m:pos<s.size
    .rw[if_pos m]at k;rw[if_pos m];obtain⟨C,D,E⟩:=g.QP (H':=H.Zp b (.stringIter s (pos+(Utf8.decode s pos).2))) (r':=.str s (pos+(Utf8.decode s pos).2)) (bo':=some (b,N)) f trivial o (.inl ⟨_,U,U⟩) (λn p e=>.inl ⟨p,e⟩) (λn h _=>by
      have F:n≠b:=λe=>by subst e;exact h N U
      exact⟨λM=>rfl,U,by simp[Φ.Zp,F]⟩) Φ.JN (λj l c t=>by
      obtain⟨bo,I⟩:=TH g t;obtain⟨_,_,_,_,_,_,_,_,_,⟨O,w⟩,_⟩:=g.row j _ bo t I;rw[f]at w;cases w) (λQ=>⟨b,N,U,by simp[Φ.Zp]⟩)
     refine Ω.bind' ?_;refine⟨⟨_,r⟩,U,U,?_⟩;refine Ω.pure' ?_;exact Ω.pure' ⟨S,_,_,_,k,D,C,E,Bf (.z _) (.z _) (.z _)⟩
    rw[if_neg m]at k;rw[if_neg m];exact Ω.pure' (.same g k (.Z7 _ U λi a v h x=>by
     match i with
     | 0=>simp at h x;subst h;subst x;exact .z _
     | i+1=>simp at h))
   | it d _=>rw[f]at d;cases d
   | S8 v d=>rw[f]at d;cases d
  exact .bad
 exact .bad
end
def Pe(σ:Ρ)(id n:Nat):Bool:=match σ[id]? with|some (.cells _ _ l)=>l.length==n|_=>false
def Jz(a:BinOp)(v:Bool)(σ:Ρ):Y1:=match a with|.eql=>.ok (.z (.bool v)) σ|.neq=>.ok (.z (.bool !v)) σ|_=>.bad
def G1(T:ZY)(c:BinOp)(d:TypeId)(σ:Ρ)(a b:Ψ):Y1:=match T d with
 | some i=>match i.Z1 with
  | .pointer e=>match T e with
   | some f=>if f.size=0 then .bad else match a with
    | .z (.pointer none)=>match b with
     | .z (.pointer none)=>Jz c true σ
     | _=>.bad
    | .Ο id n i j=>if Pe σ id n=true then match b with
     | .z (.pointer none)=>Jz c false σ
     | .Ο g h k l=>if id=g/\n=h/\i=k/\j=l then Jz c true σ else .bad
     | _=>.bad
     else .bad
    | _=>.bad
   | none=>.bad
  | _=>.bad
 | none=>.bad
def Mi(T:ZY)(t:TypeId):Bool:=match T t with|some i=>(match i.Z1 with|.unsafePointer=>true|_=>false)|none=>false
def KP(T:ZY)(t:TypeId):Option (TypeId×Nat):=match T t with
 | some i=>match i.Z1 with
  | .pointer e=>match T e with|some a=>some (e,a.size)|none=>none
  | _=>none
 | none=>none
def GZ(T:ZY)(src a:TypeId)(σ:Ρ)(x:Ψ):Y1:=match x with
 | .Ο id n i j=>match σ[id]? with
  | some (.cells t k l)=>if l.length=n/\i<n/\j<k then
    if Mi T a=true then(match KP T src with|some (_,s)=>if s=0 then .bad else .ok (.Ο id n i j) σ|none=>.bad)
    else if Mi T src=true then(match KP T a with|some (u,s)=>if s=k/\t=u/\j=0 then .ok (.Ο id n i j) σ else .bad|none=>.bad)
    else .bad
   else .bad
  | _=>.bad
 | _=>.bad
section
variable{P:Program}{T:ZY}{S:ζ}{B:ZZ}{H:Φ}{σ:Ρ}
def Bb{id n}(h:Pe σ id n=true):∃t k l,σ[id]?=some (.cells t k l)/\l.length=n:=by
 unfold Pe at h;split at h
 .rename_i t k l a;exact⟨t,k,l,a,by simpa using h⟩
 cases h
def GY{id n i j v}(e:Θ S B σ (.Ο id n i j) v)(h:Pe σ id n=true):∃t k l b N,σ[id]?=some (.cells t k l)/\l.length=n/\B[id]?=some (some (b,N))/\v=.pointer (some ⟨b,i*k+j,none⟩):=by
 let ⟨t,k,l,c,f⟩:=Bb h;cases e with
 | Ο a d g=>rw[c]at a;cases a;exact⟨_,_,_,_,_,c,f,g,rfl⟩
 | Vo v a d=>rw[c]at a;cases a;simp[Row.W3]at d;omega
def uu{op ty p q a b G K E}(c:K () G):Ω P (eqGuard op ty p q (.pointer a) (.pointer b)) G K E:=by
 cases op<;>exact Ω.pure' c
def Er{op ty p q a b v}(d:Holds S B σ H)(f:∀(K),K v H->Ω P (Op.equal ty (.pointer a) (.pointer b)) H K (λ_ _=>False)) :
  Zo P (do eqGuard op ty p q (.pointer a) (.pointer b);binOp op ty (.pointer a) (.pointer b)) S B H σ (Jz op v σ):=by
 intro K c;refine Ω.bind' (uu ?_);cases op<;>first|exact c.elim|skip
 .have e:binOp .eql ty (.pointer a) (.pointer b)=(do pure (Value.bool (<-Op.equal ty (.pointer a) (.pointer b)))):=rfl;rw[e];exact Ω.bind' (f _ (Ω.pure' (.same d c (.z _))))
 have e:binOp .neq ty (.pointer a) (.pointer b)=(do pure (Value.bool (!(<-Op.equal ty (.pointer a) (.pointer b))))):=rfl;rw[e];exact Ω.bind' (f _ (Ω.pure' (.same d c (.z _))))
def uq(d:ZH P T)(f:Holds S B σ H)(g h p q){a b v w}(o:Θ S B σ a v)(j:Θ S B σ b w):Zo P (do eqGuard g h p q v w;binOp g h v w) S B H σ (G1 T g h σ a b):=by
 unfold G1;split
 .rename_i i hi;split
  .rename_i e m;split
   .rename_i C s;split
    .exact .bad
    rename_i u;split
    .cases o;split
     .cases j;refine Er f λK c=>?_;unfold Op.equal Op.equalIn;refine Ω.bind' (d.Z1 hi ?_);rw[m];exact Ω.pure' c
     exact .bad
    .rename_i id n D E;split
     .rename_i r;obtain⟨t,k,l,F,N,x,I,y,rfl⟩:=GY o r;split
      .cases j;refine Er f λK c=>?_;unfold Op.equal Op.equalIn;refine Ω.bind' (d.Z1 hi ?_);rw[m];exact Ω.pure' c
      .rename_i J L M O;split
       .rename_i A;obtain⟨rfl,rfl,rfl,rfl⟩:=A;obtain⟨t',Q,R,U,V,f1,f2,f3,rfl⟩:=GY j r;rw[x]at f1;cases f1;rw[y]at f3;cases f3;refine Er f λK c=>?_;unfold Op.equal Op.equalIn;refine Ω.bind' (d.Z1 hi ?_);rw[m];refine Ω.bind' (d.size s ?_);rw[if_pos u];unfold sameAddr;simp;exact Ω.pure' c
       exact .bad
      exact .bad
     exact .bad
    exact .bad
   exact .bad
  exact .bad
 exact .bad
def Ba{t}(h:Mi T t=true):∃i,T t=some i/\i.Z1=.unsafePointer:=by
 unfold Mi at h;split at h
 .rename_i i hi;split at h
  .rename_i a;exact⟨i,hi,a⟩
  cases h
 cases h
def Ep{t e s}(h:KP T t=some (e,s)):∃i a,T t=some i/\i.Z1=.pointer e/\T e=some a/\a.size=s:=by
 unfold KP at h;split at h
 .rename_i i hi;split at h
  .rename_i d b;split at h
   .rename_i a c;cases h;exact⟨i,a,hi,b,c,U⟩
   cases h
  cases h
 cases h
def uo(a:Holds S B σ H){id b N k:Nat}{t l}(c:σ[id]?=some (.cells t k l))(d:B[id]?=some (some (b,N))):H.row b=some (t,N)/\l.length*k<=N:=by
 let ⟨e,f,_⟩:=a.row id _ _ c d;exact⟨e,f⟩
def A'{b N t K E}(a:H.row b=some (t,N))(c:K none H):Ω P (viewAt b) H K E:=by
 unfold viewAt;apply Ω.bind';exact⟨t,N,a,Ω.pure' (Ω.pure' c)⟩
def A9{a N t K E}(b:H.row a.block=some (t,N))(c:K a H):Ω P (Conv.seenAt a) H K E:=by
 unfold Conv.seenAt;refine Ω.bind' (A' b ?_);exact Ω.pure' c
def A8(a:ZH P T){t i}(h:T t=some i):P.cellsOf t=i.size:=by
 let ⟨_,f,b,c,_⟩:=a t i h;unfold Program.cellsOf;rw[b];exact c
def A7(P){t s c i n}(a:P.cellsOf t=s)(b:0<s)(e:i+n<=c):liesAt P P.depth t c (i*s) t n=true:=by
 have hd:P.depth=(2*(P.types.size+Made.depth)+1)+1:=rfl
 have f:∀d,sameLayout P (d+1) t t=true:=λd=>by unfold sameLayout;simp
 rw[hd];unfold liesAt;rw[hd];have:rowAt P (sameLayout P (2*(P.types.size+Made.depth)+1+1) · t) (2*(P.types.size+Made.depth)+1+1) t c (i*s) n=true:=by
  unfold rowAt;simp only[a];rw[if_neg J,Nat.mul_div_cancel _ b,Nat.mul_mod_left];simp[e,f]
 rw[this];rfl
def um(a:ZH P T)(m:Holds S B σ H)(src C){x v}(O:Θ S B σ x v):Zo P (convert src C v) S B H σ (GZ T src C σ x):=by
 unfold GZ;split
 .rename_i id n i j;split
  .rename_i t k l c;split
   .rename_i Q;let ⟨o,hi,aa⟩:=Q;have R:Pe σ id n=true:=by unfold Pe;rw[c];simpa using o
    obtain⟨t',ab,ad,b,N,D,ae,p,rfl⟩:=GY O R;rw[c]at D;cases D;let ⟨g,U⟩:=uo m c p;have af:i*k+j<N:=by
     have:(i+1)*k<=l.length*k:=Tk _ J;rw[Nat.succ_mul]at this;omega
    split
    .rename_i hd;let ⟨V,E,F⟩:=Ba hd;split
     .rename_i e s r;split
      .exact .bad
      rename_i w;let ⟨is,W,d,f,h,y⟩:=Ep r;intro K A;unfold convert;refine Ω.bind' (a.Z1 d (Ω.bind' (a.Z1 E ?_)));rw[f,F];unfold Conv.unsafePointer;refine Ω.bind' (a.Z1 d (Ω.bind' (a.Z1 E ?_)));rw[f,F];refine Ω.bind' (A9 g ?_);apply Ω.bind';unfold cellsIn;refine Ω.bind' ⟨t,N,g,Ω.pure' (Ω.pure' ?_)⟩;refine Ω.bind' (a.size h ?_);rw[if_neg (by simp[y,w];omega)];exact Ω.pure' (.same m A (.Ο c o p))
     exact .bad
    split
    .rename_i w;let ⟨ag,I,L⟩:=Ba w;split
     .rename_i u s r;split
      .rename_i X;obtain⟨Y,rfl,rfl⟩:=X;let ⟨V,W,d,f,h,y⟩:=Ep r;have M:P.cellsOf t=k:=by rw[A8 a h,y,Y]
       have Z:i+1<=N / P.cellsOf t:=by
        rw[M,Nat.le_div_iff_mul_le J];exact WL (Tk _ J) U
       intro K A;unfold convert;refine Ω.bind' (a.Z1 I (Ω.bind' (a.Z1 d ?_)));rw[L,f];unfold Conv.unsafePointer;refine Ω.bind' (a.Z1 I (Ω.bind' (a.Z1 d ?_)));rw[L,f];refine Ω.bind' (A9 g ?_);refine Ω.bind' (a.size h ?_);apply Ω.bind';unfold variablesAt;apply Ω.bind';refine Ω.bind' ⟨t,N,g,Ω.pure' (Ω.pure' ?_)⟩;have:=A7 P M J Z;simp[Nat.add_zero];rw[this];simp[Bool.or_true,if_true];refine Ω.pure' (.same m A ?_);have:=Θ.Ο (S:=S) (i:=i) (j:=0) c o p;simpa using this
      exact .bad
     exact .bad
    exact .bad
   exact .bad
  exact .bad
 exact .bad
end
def Mh(T:ZY)(t:TypeId):Option (TypeId×Nat):=match T t with
 | some i=>match i.Z1 with
  | .slice e=>match T e with|some a=>some (e,a.size)|none=>none
  | _=>none
 | none=>none
def GX(T:ZY)(a:TypeId)(x:Ψ):Y4:=match Mh T a,x with
 | some _,.sl true _ l=>.ok (.z (.int .i64 l.length))
 | _,_=>.bad
def GW(T:ZY)(c:TypeId)(x:Ψ)(lo:Option Ψ)(hi d:Ψ):Y4:=match Mh T c,x with
 | some (_,s),.sl _ k l=>match TE lo 0,TE (some hi) 0,TE (some d) 0 with
  | some a,some b,some m=>if l.isEmpty=true\/k=s then .Zw (0<=a/\a<=b/\b<=l.length/\m=b) (.ok (.sl true k ((l.take b.toNat).drop a.toNat))) else .bad
  | _,_,_=>.bad
 | _,_=>.bad
def Mg(T:ZY)(a:TypeId)(σ:Ρ)(x:Ψ):Y1:=match Mh T a,x with
 | some (_,s),.ms id n i len=>match σ[id]? with
  | some (.cells _ k l)=>if l.length=n/\0<len/\i+len<=n/\k=s then .ok (.Ο id n i 0) σ else .bad
  | _=>.bad
 | _,_=>.bad
def GV:Ψ->Option Nat|.z (.int .u8 b)=>some b.toNat|_=>none
def Mf:μ->Option (List UInt8)
 | []=>some []
 | a::l=>match GV a,Mf l with|some b,some c=>some (b.toUInt8::c)|_,_=>none
def GU(T:ZY)(a:TypeId)(σ:Ρ)(p n:Ψ):Y1:=match KP T a,p,n with
 | some (u,s),.Ο id m i j,.z (.int _ len)=>match σ[id]? with
  | some (.cells t k l)=>match Mf ((l.drop i).take len.toNat) with
   | some b=>if l.length=m/\0<len/\len<4611686018427387904/\i+len.toNat<=m/\j=0/\k=1/\s=1/\t=u then .ok (.z (.string ⟨b.toArray⟩)) (σ.set id .dead) else .bad
   | none=>.bad
  | _=>.bad
 | _,_,_=>.bad
def GR(T:ZY)(a:TypeId)(σ:Ρ)(x y:Ψ):Y1:=match Mh T a,y with
 | some _,.sl _ _ l=>if l.isEmpty=true then(match x with
  | .sl _ _ _=>.ok (.z (.int .i64 0)) σ
  | .ms id n _ _=>if Pe σ id n=true then .ok (.z (.int .i64 0)) σ else .bad
  | _=>.bad) else .bad
 | _,_=>.bad
def Jy(T:ZY)(src a:TypeId)(x:Ψ):Y4:=match T src,T a,x with
 | some _,some d,.z (.int _ n)=>match d.Z1 with
  | .string=>.ok (.z (.string (Utf8.encode n)))
  | _=>.bad
 | _,_,_=>.bad
section
variable{P:Program}{T:ZY}{S:ζ}{B:ZZ}{H:Φ}{σ:Ρ}
def Eo{t e s}(h:Mh T t=some (e,s)):∃i a,T t=some i/\i.Z1=.slice e/\T e=some a/\a.size=s:=by
 unfold Mh at h;split at h
 .rename_i i hi;split at h
  .rename_i d b;split at h
   .rename_i a c;cases h;exact⟨i,a,hi,b,c,U⟩
   cases h
  cases h
 cases h
def uk(b:ZH P T)(c:Holds S B σ H)(a d){x v}(e:Θ S B σ x v):Zo P (Builtin.cap_ #[a] d #[v]) S B H σ ((GX T a x).YA σ):=by
 unfold GX;split
 .rename_i es k l f;let ⟨i,n,g,h,_,_⟩:=Eo f;obtain⟨base,cap,rfl,_,j,_⟩:=TF e;intro K m;unfold Builtin.cap_;refine Ω.bind' (b.Z1 g ?_);rw[h,j U];exact Ω.pure' (.same c m (.z _))
 exact .bad
def uj{ex k l base len cap}(h:Θ S B σ (.sl ex k l) (.slice base len cap)){a b m}(A:a<=b)(C:b<=l.length)(p:l.isEmpty=true\/k=m) :
  Θ S B σ (.sl true k ((l.take b).drop a)) (.slice (if b=a then base else base.map (·.add (a*m))) (b-a) (b-a)):=by
 let ⟨D,E,e,F,H,r⟩:=TF h;cases e;have d:((l.take b).drop a).length=b-a:=by simp;omega
 by_cases f:(l.take b).drop a=[]
 .rw[f]at d ⊢;have:b-a=0:=by simpa using d.symm
  rw[this];exact .WI _ _ λ_=>rfl
 have n:l≠[]:=by rintro rfl;simp at f
 obtain⟨s,o,w,rfl,t,u,v⟩:=r n;have y:=p.resolve_left λx=>n (Tj.1 x);subst y;have I:a<b:=by
  apply Tn;intro K;apply f;have:b-a=0:=J;rw[this]at d;exact YY.1 d
 rw[if_neg J];simp[Pk];have el:∀(i)(e),((l.take b).drop a)[i]?=some e->l[a+i]?=some e:=λi e hi=>by
  rw[Vf,Q4]at hi;split at hi
  .exact hi
  cases hi
 have:=Θ.sl (ex:=true) s (o+a*k) (b-a) (λi j=>w (a+i) j) (λ_=>d.symm) (Nat.le_of_eq d)
  (λi e hi=>t _ e (el i e hi)) (λi e hi j c g=>by have:=u _ e (el i e hi) j c g;rw[WB]at this;rw[UJ o];exact this) (λi e hi j c g=>v _ e (el i e hi) j c g)
 rw[d]at this;exact this
def En{x v d n}(h:TE (some x) d=some n)(a:Θ S B σ x v):∃k,v=.int k n:=by
 unfold TE at h;split at h
 .rename_i e;cases e
 .rename_i k m e;cases e;cases h;cases a;exact⟨k,U⟩
 cases h
def Em{v:Value}{k n}{y:Nat}{code}(hv:v=.int k n)(a:0<=n)(b:n<=y){G K E}(c:K n.toNat G):Ω P (Instr.sliceBound v y code) G K E:=by
 subst hv;unfold Instr.sliceBound;refine Ω.bind' (Ω.pure' ?_);show Ω P (if 0<=n/\n<=y then pure n.toNat else _) G K E;rw[if_pos ⟨a,b⟩];exact Ω.pure' c
def ui(c:ZH P T)(t:Holds S B σ H)(g){x v}(j:Θ S B σ x v){lo hi n lv hv mv}(d:NF S B σ lo lv)(u:Θ S B σ hi hv)(w:Θ S B σ n mv) :
  Zo P (Instr.sliceAt g v lv (some hv) (some mv)) S B H σ ((GW T g x lo hi n).YA σ):=by
 unfold GW;split
 .rename_i e s ex k l y;let ⟨i,R,o,p,A,C⟩:=Eo y;split
  .rename_i a b m f D E;split
   .rename_i F;refine Zo.Zw λh K I=>?_;obtain⟨L,U,V,rfl⟩:=h;obtain⟨base,cap,rfl,W,_,_⟩:=TF j;let ⟨X,M⟩:=En D u;let ⟨Y,N⟩:=En E w;unfold Instr.sliceAt;refine Ω.bind' (c.Z1 o ?_);rw[p];simp only;unfold Instr.slice;refine Ω.bind' (c.Z1 o ?_);rw[p];simp only;unfold Instr.sliceBounds;refine Ω.bind' (Ω.bind' (Em N J J ?_));refine Ω.bind' (Em M J J ?_);have r:Ω P (do let O <-sizeOf e;pure (Value.slice (if m.toNat=a.toNat then base else base.map (·.add (a.toNat*O))) (m.toNat-a.toNat) (m.toNat-a.toNat)):Sem Value) H (Xu S B H σ K) (λ_ _=>False):=by
     refine Ω.bind' (c.size A ?_);rw[C];exact Ω.pure' (.same t I (uj j J J F))
    cases lo with
    | none=>
     cases lv with
     | some _=>exact d.elim
     | none=>
      simp[TE]at f;subst f;exact Ω.bind' (Ω.pure' (Ω.pure' r))
    | some lo=>
     cases lv with
     | none=>exact d.elim
     | some lv=>
      let ⟨Z,Q⟩:=En f d;exact Ω.bind' (Em Q L J (Ω.pure' r))
   exact .bad
  exact .bad
 exact .bad
def uh(y:ZH P T)(h:Holds S B σ H)(d m){x v}(o:Θ S B σ x v):Zo P (Builtin.unsafeSliceData_ #[d] m #[v]) S B H σ (Mg T d σ x):=by
 unfold Mg;split
 .rename_i e s id n i len A;split
  .rename_i t k l c;split
   .rename_i p;let ⟨r,C,D,E⟩:=p;intro K u;cases o with
    | ms cap a f w F I g=>
     rw[c]at a;cases a;rcases g with g|⟨b,N,rfl,rfl,L⟩
     .omega
     show Ω P (if cap≠0 then pure (Value.pointer (some ⟨b,i*k,none⟩)) else _) H _ _;rw[if_pos J];refine Ω.pure' (.same h u ?_);have:=Θ.Ο (S:=S) (i:=i) (j:=0) c r w;simpa using this
    | VP v a f=>rw[c]at a;cases a;simp[Row.W3]at f;omega
   exact .bad
  exact .bad
 exact .bad
def ug(g:ZH P T)(h:Holds S B σ H)(e j m){x y v w}(o:Θ S B σ x v)(C:Θ S B σ y w):Zo P (Builtin.copy_ #[e,j] m #[v,w]) S B H σ (GR T e σ x y):=by
 unfold GR;split
 .rename_i es ex k l D;let ⟨i,p,E,F,I,Q⟩:=Eo D;split
  .rename_i J;have L:=Tj.1 J;subst L;obtain⟨base,cap,rfl,_⟩:=TF C;have r:∀(d)(b s)(K),K (.z (.int .i64 0)) σ->Ω P (Builtin.copy_ #[e,j] m #[.slice d b s,.slice base 0 cap]) H (Xu S B H σ K) (λ_ _=>False):=λd b s K c=>by
    unfold Builtin.copy_;refine Ω.bind' (g.Z1 E ?_);rw[F];simp only;refine Ω.bind' (Ω.pure' ?_);refine Ω.bind' (g.size I ?_);have u:Nat.min 0 b=0:=Nat.zero_min _;have M:Builtin.firstCells p.size (Nat.min 0 b) (.slice base 0 cap)=pure #[]:=by
     rw[u];unfold Builtin.firstCells;cases base<;>simp<;>rfl
    show Ω P (Builtin.firstCells p.size (Nat.min 0 b) (.slice base 0 cap) >>= _) H _ _;rw[M];refine Ω.bind' (Ω.pure' ?_);have A:goInt (Nat.min 0 b)=.int .i64 0:=by rw[u];rfl
    cases d with
    | none=>apply Ω.pure';rw[A];exact .same h c (.z _)
    | some a=>apply Ω.pure';rw[A];exact .same h c (.z _)
   split
   .intro K c;obtain⟨d,c',rfl,_⟩:=TF o;exact r _ _ _ K c
   .rename_i id n R len;split
    .rename_i N;let ⟨t,U,V,O,W⟩:=Bb N;intro K c;cases o with
     | ms X f _ _ _ _ _=>exact r _ _ _ K c
     | VP v f Υ=>rw[O]at f;cases f;simp[Row.W3]at Υ;omega
    exact .bad
   exact .bad
  exact .bad
 exact .bad
def A6(a:ZH P T)(c:Holds S B σ H)(src b){x v}(e:Θ S B σ x v):Zo P (convert src b v) S B H σ ((Jy T src b x).YA σ):=by
 unfold Jy;split
 .rename_i s d k n f hd;cases e;split
  .rename_i g;intro K h;unfold convert;refine Ω.bind' (a.Z1 f (Ω.bind' (a.Z1 hd ?_)));rw[g];have:Ω P (Conv.intToString n) H (Xu S B H σ K) (λ_ _=>False):=by
    unfold Conv.intToString;exact Ω.pure' (.same c h (.z _))
   cases i:s.Z1<;>exact this
  exact .bad
 exact .bad
end
section
variable{P:Program}{T:ZY}{S:ζ}{B:ZZ}{H:Φ}{σ:Ρ}
def uf{a:Ψ}{n:Nat}(h:GV a=some n):∃b:Int,a=.z (.int .u8 b)/\n=b.toNat:=by
 unfold GV at h;split at h
 .cases h;exact⟨_,U,U⟩
 cases h
def ub{b:Nat}{K:ByteArray->Φ->Prop}{E:Value->Φ->Prop}:∀(l:μ)(f:List UInt8)(d:Nat)(c:ByteArray),Mf l=some f->(∀(j:Nat)(z:Value),l[j]?=some (.z z)->H.Α b (d+j)=some (z,true))->K ⟨c.data++f.toArray⟩ H->Ω P (loadBytes ⟨b,d,none⟩ c l.length) H K E:=by
 intro l
 induction l with
 | nil=>
  intro f d c h _ g;cases h;have e:(⟨c.data++([]:List UInt8).toArray⟩:ByteArray)=c:=o;rw[e]at g;exact Ω.pure' g
 | cons a l m=>
  intro f d c h k g;unfold Mf at h;split at h
  .rename_i n i p r;cases h;obtain⟨x,rfl,rfl⟩:=uf p;have s:=k 0 _ U;show Ω P (load ⟨b,d,none⟩ >>= _) H K E;refine Ω.bind' ⟨U,U,_,_,s,Ω.pure' ?_⟩;show Ω P (loadBytes (Addr.add ⟨b,d,none⟩ 1) (c.push x.toNat.toUInt8) l.length) H K E;rw[Pk];refine m i (d+1) (c.push x.toNat.toUInt8) r (λj z t=>?_) ?_
   .have:=k (j+1) z (by simpa using t);rw[UJ,NO 1 j];exact this
   have e:(⟨(c.push x.toNat.toUInt8).data++i.toArray⟩:ByteArray)=⟨c.data++(x.toNat.toUInt8::i).toArray⟩:=by
    congr 1;apply NN;simp
   rw[e];exact g
  cases h
def ua(A:ZH P T)(h:Holds S B σ H)(C lt V:TypeId){x y:Ψ}{v w:Value}(W:Θ S B σ x v)(X:Θ S B σ y w):Zo P (Builtin.unsafeString_ #[C,lt] V #[v,w]) S B H σ (GU T C σ x y):=by
 unfold GU;split
 .rename_i u s id m i j ax len Y;split
  .rename_i t k l f;split
   .rename_i o Z;split
    .rename_i aa;obtain⟨ab,ay,az,aA,rfl,rfl,rfl,rfl⟩:=aa;have ad:Pe σ id m=true:=by unfold Pe;rw[f];simpa using ab
     obtain⟨t',aB,aC,b,N,D,aD,F,rfl⟩:=GY W ad;rw[f]at D;cases D;cases X;obtain⟨d1,d2,d3,aE,d4⟩:=h.row id _ _ f F;obtain⟨aF,aG,ae,af,ag,ah⟩:=Ep Y;have I:P.cellsOf t=1:=by rw[A8 A ag,ah]
     have ai:((l.drop i).take len.toNat).length=len.toNat:=by simp;omega
     intro K aj;unfold Builtin.unsafeString_;refine Ω.bind' (Ω.pure' ?_);show Ω P (if len<0 then _ else _) H _ _;rw[if_neg J];show Ω P (if len > IntKind.i64.max then _ else _) H _ _;rw[if_neg (by have:IntKind.i64.max=9223372036854775807:=θ;omega)];show Ω P (if len=0 then _ else _) H _ _;rw[if_neg J];refine Ω.bind' ?_;unfold elemOf;refine Ω.bind' (A.Z1 ae ?_);rw[af];refine Ω.pure' ?_;refine Ω.bind' ?_;unfold variablesAt;refine Ω.bind' ?_;refine Ω.bind' ⟨t,N,d1,Ω.pure' (Ω.pure' ?_)⟩;have L:=A7 P (t:=t) (s:=1) (c:=N / P.cellsOf t) (i:=i) (n:=len.toNat) I J (by rw[I];simp;omega);simp only[SH,Nat.add_zero]at L ⊢;rw[L];simp only[if_true];refine Ω.bind' ?_;have M:=ub (P:=P) (H:=H) (b:=b) (K:=λa G=>Ω P (do freeze ⟨b,i,none⟩ len.toNat;pure (Value.string a)) G (Xu S B H σ K) λ_ _=>False) (E:=λ_ _=>False) ((l.drop i).take len.toNat) o i .empty Z (λj z d=>by
      rw[Q4]at d;split at d
      .rw[Vf]at d;obtain⟨aH,Υ⟩:=d4 (i+j) _ d;obtain⟨ak,al,_⟩:=Υ 0 _ U;cases al;simpa using ak
      cases d) ?_
     .rw[ai]at M;exact M
     refine Ω.bind' ⟨⟨t,N,d1,J,λp am=>d3 p am⟩,Ω.pure' (Ω.pure' ?_)⟩;have aI:id<σ.length:=(ZT.1 f).1;have an:∀r,(H.RF b).fresh r->H.fresh r:=Φ.HK (H:=H) (H':=H.RF b) (λO p g=>by
      by_cases e:O=b
      .subst e;have ao:((H.Α O p).map λx=>(x.1,false))=none:=by simpa[Φ.RF] using g
       simpa using ao
      simpa[Φ.RF,e] using g) (λ_ g=>g) (λ_ g=>g)
     obtain⟨ap,aq,ar⟩:=h.QP (H':=H.RF b) (r':=.dead) (bo':=some (b,N)) f trivial F (.inr λ_ _=>trivial) (λQ au e=>.inl ⟨au,e⟩) (λQ f1 _=>by
      have av:Q≠b:=λe=>by subst e;exact f1 N U
      exact⟨λp=>by simp[Φ.RF,av],U,U⟩) an (λj l c d=>by
       obtain⟨bo,aw⟩:=TH h d;obtain⟨_,_,_,_,_,_,_,_,_,⟨aJ,R⟩,_⟩:=h.row j _ bo d aw;rw[f]at R;cases R) (λ_=>trivial)
     refine⟨S,_,_,_,aj,aq,ap,ar,?_⟩;have e:(⟨ByteArray.empty.data++o.toArray⟩:ByteArray)=⟨o.toArray⟩:=by
      show(⟨#[]++o.toArray⟩:ByteArray)=_;simp
     rw[e];exact .z _
    exact .bad
   exact .bad
  exact .bad
 exact .bad
end
def Jx(id:Nat):Ρ->Nat->Option Nat
 | [],_=>none
 | r::l,n=>match r with
  | .iter m _ _=>if m=id then some n else Jx id l (n+1)
  | _=>Jx id l (n+1)
def NA(T:ZY)(c:TypeId)(σ:Ρ)(d k:Ψ):Y1:=match Pf T c,d,k with
 | some (b,_),.mp id,.z a=>match σ[id]?,Jx id σ 0 with
  | some (.map es),some j=>match σ[j]? with
   | some (.iter m left _)=>if m=id/\Pg T b (.z a)=true/\UC (σ.set j .dead) id=true then match V2 T b (.z a) es 0 with
     | some (some (i,_))=>.Zw (∀e∈left,∃w,e.1=.z w/\w≠a) (.ok (.z (.tuple #[])) ((σ.set id (.map (es.eraseIdx i))).set j (.iter id left none)))
     | _=>.bad
    else .bad
   | _=>.bad
  | _,_=>.bad
 | _,_,_=>.bad
def tZ{c:Type}(f:c->Bool):∀(l:List c)(i:Nat)(a:c),l[i]?=some a->f a=false->(l.eraseIdx i).filter f=l.filter f:=by
 intro l
 induction l with
 | nil=>intro i a h;simp at h
 | cons b l e=>
  intro i a h d;cases i with
  | zero=>simp at h;subst h;simp[MR,d]
  | succ i=>
   simp only[List.getElem?_cons_succ]at h;simp only[List.eraseIdx_cons_succ,MR];rw[e i a h d]
section
variable{P:Program}{T:ZY}{S:ζ}{B:ZZ}{H:Φ}{σ:Ρ}
def QQ.erase{es:List (Ψ×Ψ)}{xs:Array MapEntry}{k:Nat}(h:QQ S B σ es xs k)(i:Nat):QQ S B σ (es.eraseIdx i) (xs.eraseIdxIfInBounds i) k:=by
 have l:(xs.eraseIdxIfInBounds i).toList=xs.toList.eraseIdx i:=by
  by_cases hi:i<xs.size
  .simp[Array.eraseIdxIfInBounds,hi]
  simp only[Array.eraseIdxIfInBounds,hi,dite_false];rw[List.eraseIdx_of_length_le (by simpa using Nat.le_of_not_lt hi)]
 obtain⟨p,m,r⟩:=h;have g:∀(j:Nat)(y:MapEntry),(xs.eraseIdxIfInBounds i)[j]?=some y->(xs.toList.eraseIdx i)[j]?=some y:=λj y s=>by rw[<-l,Xf];exact s
 have t:(xs.toList.map (·.born)).Pairwise (· < ·):=by
  rw[Lk,Tm];intro a b u v f;exact r a b _ _ (XV (by simpa using u)) (XV (by simpa using v)) f
 refine⟨?_,λj e y d c=>?_,λj n y z d c f=>?_⟩
 .have:(xs.eraseIdxIfInBounds i).size=(xs.toList.eraseIdx i).length:=by rw[<-l,Array.length_toList]
  rw[this,Ii,Ii,p,Array.length_toList]
 .have c:=g j y c;rw[List.getElem?_eraseIdx]at d c;split at d
  .rename_i f;rw[if_pos f,Xf]at c;exact m j e y d c
  rename_i f;rw[if_neg f,Xf]at c;exact m (j+1) e y d c
 have d:=g j y d
 have c:=g n z c
 have o:((xs.toList.eraseIdx i).map (·.born)).Pairwise (· < ·):=t.sublist ((List.eraseIdx_sublist ..).map _);rw[Lk,Tm]at o;obtain⟨w,x⟩:=ZT.1 d;obtain⟨A,C⟩:=ZT.1 c;have:=o j n w A f;rw[x,C]at this;exact this
def Holds.tY(c:Holds S B σ H){σ':Ρ}{H':Φ}(l:σ'.length=σ.length)(K:ZC S S B B σ σ')(d:∀(i:Nat)(r':Row),σ'[i]?=some r'->r'.live->∃r,σ[i]?=some r/\r.live)(m:∀b a,H'.Α b a=H.Α b a)(n:∀b,¬B.has b->UY H H' b)(o:∀b,H'.fresh b->H.fresh b)
  (p:∀(i:Nat)(r':Row)(bo:Option (Nat×Nat)),σ'[i]?=some r'->B[i]?=some bo->VO S B σ' H' r' bo):Holds S B σ' H'/\Ext S B H S B H':=by
 refine⟨⟨λb a v hv=>?_,by rw[l];exact c.len,p,λi j s t b u w x hi y A C=>?_,λid r b N D E e a=>?_⟩,⟨λ_ _ _ h=>h,λb e _=>S7.of (n b e),λb h=>.inl h,λ_ _ _ h=>.inl h,o⟩⟩
 .rw[m];exact c.Za b a v hv
 .obtain⟨f,g,k⟩:=d i s hi A;obtain⟨F,I,J⟩:=d j t y C;exact c.inj i j f F b u w x g I k J
 obtain⟨f,g,k⟩:=d id r D E;exact c.sep id f b N g k e a
def tX(L:ZH P T)(l:Holds S B σ H)(ah az aA:TypeId){mp k:Ψ}{u v:Value}(aB:Θ S B σ mp u)(aC:Θ S B σ k v):Zo P (Builtin.delete_ #[ah,az] aA #[u,v]) S B H σ (NA T ah σ mp k):=by
 unfold NA;split
 .rename_i a6 a7 id a8 aD;obtain⟨i,hi,aE⟩:=JD aD;split
  .rename_i es j n a9;split
   .rename_i m left ba t;split
    .rename_i aF;obtain⟨rfl,ai,aG⟩:=aF;split
     .rename_i c a aj;refine Zo.Zw (r:=.ok (.z (.tuple #[])) ((σ.set m (.map (es.eraseIdx c))).set j (.iter m left none))) λaH K aI=>?_;cases aC;cases aB with
      | TI _ E=>rw[n]at E;cases E
      | mp E x=>
       rename_i b N;rw[n]at E;cases E;obtain⟨xs,M,F,O⟩:=KS l n x;obtain⟨_,bb,I,aJ⟩:=JE es 0 c a aj;simp only[Nat.sub_zero]at I;have aK:c<es.length:=(ZT.1 I).1;have Q:c<xs.size:=by rw[<-O.1];exact aK
       have R:xs[c]?=some xs[c]:=XV Q;obtain⟨aL,bc,bd⟩:=O.2.1 c _ _ I R;obtain⟨ak,_,_⟩:=Bi L (Θ.z (S:=S) (B:=B) (σ:=σ) v) aL aJ;have aM:m≠j:=λe=>by subst e;rw[n]at t;cases t
       have aN:m<σ.length:=(ZT.1 n).1
       have al:j<σ.length:=(ZT.1 t).1
       have V:∃Z,B[j]?=some Z:=⟨_,ξ (by rw[l.len];exact al)⟩;obtain⟨Z,V⟩:=V;obtain⟨am,aO,be,bf,xs',clock',seen,rfl,an,⟨bg,bh⟩,ao,ap,⟨aq,ar,au,av⟩,aP,_⟩:=l.row j _ Z t V;rw[x]at an;cases an;rw[F]at ap;cases ap;have aQ:am≠b:=λe=>by subst e;rw[ao]at F;cases F
       have aR:seen.contains (xs[c]).born=true:=by
        cases aS:seen.contains (xs[c]).born with
        | true=>rfl
        | false=>
         exfalso;have aT:xs[c]∈aq:=by
          rw[ar];exact TK.2 ⟨o,by simpa using aS⟩
         obtain⟨q,d⟩:=Tl aT;have aw:q<left.length:=by rw[au];exact(ZT.1 d).1
         have aU:=ξ aw;obtain⟨J,_⟩:=av q _ _ aU d;obtain⟨w,d1,d2⟩:=aH _ (YW aw);rw[d1]at J;generalize (xs[c]).key=kk at J ak;cases J;exact d2 (by rw[ak])
       obtain⟨H',g⟩:=ν (H.Zp b (.map (xs.eraseIdxIfInBounds c) M));have ax:H'.obj b=some (.map (xs.eraseIdxIfInBounds c) M):=by rw[g];simp[Φ.Zp]
       have W:∀f,f≠b->H'.obj f=H.obj f:=λf e=>by rw[g];simp[Φ.Zp,e]
       have A:∀(q:Nat),((σ.set m (.map (es.eraseIdx c))).set j (.iter m left none))[q]?=if q=j then some (.iter m left none) else if q=m then some (.map (es.eraseIdx c)) else σ[q]?:=λq=>by
        by_cases p:q=j
        .subst p;rw[if_pos U,Xz (by simpa using al)]
        rw[if_neg p,XJ (YX p)];by_cases em:q=m
        .subst em;rw[if_pos U,Xz aN]
        rw[if_neg em,XJ (YX em)]
       have D:ZC S S B B σ ((σ.set m (.map (es.eraseIdx c))).set j (.iter m left none)):=⟨λ_ _ _ h=>h,λq r d=>by
        by_cases p:q=j
        .subst p;rw[t]at d;cases d;exact⟨_,by rw[A,if_pos U],.inl ⟨_,_,U,U⟩⟩
        by_cases em:q=m
        .subst em;rw[n]at d;cases d;exact⟨_,by rw[A,if_neg p,if_pos U],.inl ⟨_,U,U⟩⟩
        exact⟨r,by rw[A,if_neg p,if_neg em];exact d,r.Sv _⟩⟩
       obtain⟨aV,aW⟩:=l.tY (H':=H') o D (λq r' d X=>by
        rw[A]at d;split at d
        .rename_i e;subst e;exact⟨_,t,trivial⟩
        split at d
        .rename_i e;subst e;exact⟨_,n,trivial⟩
        .exact⟨_,d,X⟩) (λf aa=>by rw[g];rfl) (λf ab=>by
        have aX:f≠b:=λe=>by subst e;exact ab (S5 x)
        exact⟨λaa=>by rw[g];rfl,by rw[g];rfl,W f aX⟩) (by rw[g];exact Φ.JN) (λq r' bo d s=>by
        rw[A]at d;split at d
        .rename_i e;subst e;cases d;rw[V]at s;cases s;refine⟨am,aO,b,N,xs.eraseIdxIfInBounds c,M,seen,U,x,⟨es.eraseIdx c,by rw[A,if_neg aM,if_pos U]⟩,by rw[W _ aQ];exact ao,ax,⟨aq,?_,au,λa' ad aY aZ a0=>?_⟩,λy R=>?_,λe I=>by cases I⟩
         .have ae:(xs.eraseIdxIfInBounds c).toList=xs.toList.eraseIdx c:=by simp[Array.eraseIdxIfInBounds,Q]
          rw[ae,ar];exact(tZ _ xs.toList c _ (by rw[Xf];exact R) (by simpa using aR)).symm
         .obtain⟨J,af⟩:=av a' ad aY aZ a0;exact⟨J.later D,af.later D⟩
         have ae:(xs.eraseIdxIfInBounds c).toList=xs.toList.eraseIdx c:=by simp[Array.eraseIdxIfInBounds,Q]
         have:y∈xs.toList.eraseIdx c:=by rw[<-ae];exact Array.mem_def.1 R
         exact aP y (by simpa using (List.eraseIdx_sublist ..).subset this)
        rename_i p;split at d
        .rename_i em;subst em;cases d;rw[x]at s;cases s;refine⟨b,N,_,M,U,ax,?_⟩;have:=(O.erase c);exact this.later D
        rename_i em;by_cases X:r'.live
        .have a1:∀f C,bo=some (f,C)->f≠b:=λf C e ad=>by
          subst e;subst ad;exact l.inj q m r' _ f C N em d n X trivial s x
         refine(l.row q r' bo d s).later D (λf C e=>⟨λaa=>by rw[g];rfl,by rw[g];rfl,W f (a1 f C e)⟩) λag l2 af a2=>?_;subst a2;have ay:ag≠m:=λe=>by
          subst e;exact Ex aG q l2 af (by rw[XJ (YX p)];exact d)
         have a3:ag≠j:=λe=>by
          subst e;obtain⟨_,_,_,_,_,_,_,_,_,⟨a4,Y⟩,_⟩:=l.row q _ bo d s;rw[t]at Y;cases Y
         refine⟨by rw[A,if_neg a3,if_neg ay],U,λf C ab=>?_⟩;obtain⟨_,_,_,_,_,_,_,_,_,⟨a4,Y⟩,_⟩:=l.row q _ bo d s;have:f≠b:=λe=>by
          subst e;exact l.inj ag m _ _ f C N ay Y n trivial trivial ab x
         exact⟨λaa=>by rw[g];rfl,by rw[g];rfl,W f this⟩
        cases r'<;>first|exact absurd trivial X|trivial)
       unfold Builtin.delete_;refine Ω.bind' (L.Z1 hi ?_);rw[aE];show Ω P (getObj b >>= _) H _ _;refine Ω.bind' ⟨_,F,U,Ω.pure' ?_⟩;refine Ω.bind' (Hi L (Θ.z (S:=S) (B:=B) (σ:=σ) v) ai ?_);refine Ω.bind' (Hh L (Θ.z (S:=S) (B:=B) (σ:=σ) v) ai O.Ml aj ?_);have a5:T0 xs.toList 0 (some (c,a))=some (c,xs[c].val):=by simp[T0,Q]
       rw[a5];refine Ω.bind' ⟨⟨_,F⟩,U,U,Ω.pure' ?_⟩;refine Ω.pure' ?_;rw[<-g];exact⟨S,B,_,_,aI,aW,aV,D,.z _⟩
     exact .bad
    exact .bad
   exact .bad
  exact .bad
 exact .bad
end
def Y4.or(r:Y4)(σ:Ρ)(s:Y1):Y1:=match r with
 | .ok a=>.ok a σ
 | .Zw p r=>.Zw p (r.YA σ)
 | .bad=>s
def TZ(A:Z6)(d:Option Tmp):Bool:=match d with|some d=>A.contains d|none=>false
def Oq(env:κ)(a:Array (Nat×Operand)):List (Nat×Ψ):=a.toList.map λp=>(p.1,π env p.2)
def KO(c a b:Ψ):Y4:=match c with
 | .z (.bool v)=>match a,b with
  | .z (.bool x),.z (.bool y)=>.ok (.z (.bool (bif v then x else y)))
  | _,_=>match v with|true=>.ok a|false=>.ok b
 | _=>.bad
def Nz(T:ZY)(σ:Ρ)(src a:TypeId)(x:Ψ):Y4:=match KT T src a x with
 | .bad=>match G6 T src a x with
  | .bad=>NB T src a σ x
  | r=>r
 | r=>r
def P5(T:ZY)(σ:Ρ)(src a:TypeId)(x:Ψ):Y4:=match Nz T σ src a x with
 | .bad=>Jy T src a x
 | r=>r
def GQ(T:ZY)(σ:Ρ)(src a:TypeId)(x:Ψ):Y1:=match x with
 | .Ο id n i j=>if Mi T src=true\/Mi T a=true then GZ T src a σ (.Ο id n i j) else(P5 T σ src a (.Ο id n i j)).YA σ
 | _=>(P5 T σ src a x).YA σ
def Pd(c:Bool):Ψ->μ->Y4
 | a,[]=>match a with
  | .z (.int k x)=>.ok (.z (.int k x))
  | _=>.bad
 | a,b::l=>match a,b with
  | .z (.int k x),.z (.int _ y)=>Pd c (.z (.int k (if(bif c then decide (y > x) else decide (y<x))=true then y else x))) l
  | _,_=>.bad
def WH(T:ZY)(A:Z6)(env:κ)(g:Oper):Y4:=
 match g.op with
 | .move x=>.ok (π env x)
 | .assign x=>.ok (π env x)
 | .pick c a b=>KO (π env c) (π env a) (π env b)
 | .alloc e=>if TZ A g.dst then .bad else Ht T e
 | .box _ x=>if TZ A g.dst then .bad else KX (π env x)
 | .build e h=>Um T (Ψ.Y8 []) e (Oq env h)
 | .buildSlice e n h=>if TZ A g.dst then .bad else JI T (Ψ.Y8 []) e n (Oq env h)
 | .load e x=>HC T e (π env x)
 | .binOp j e x y _=>Ha T j e (π env x) (π env y)
 | .unOp j _ x=>K5 j (π env x)
 | .convert s d x=>P5 T [] s d (π env x)
 | .index e x i=>G9 T e (π env x) (π env i)
 | .nilCheck x=>G8 (π env x)
 | .sliceToArrayPointer e x=>G7 T e (π env x)
 | .makeInterface e x=>HD T e (π env x)
 | .makeFunc f k cs=>.ok (.fn f (k.toList.map (π env)) (cs.toList.map (π env)))
 | .makeSlice e n c=>if TZ A g.dst then .bad else Hq T e (π env n) (π env c)
 | .slice e x lo hi none=>Hl T e (π env x) (lo.map (π env)) (hi.map (π env))
 | .slice e x lo (some hi) (some l)=>GW T e (π env x) (lo.map (π env)) (π env hi) (π env l)
 | .fieldAddr e x f=>HB T e f (π env x)
 | .indexAddr e x i=>Hz T e (π env x) (π env i)
 | .typeAssert x _ e m=>Mu T e m (π env x)
 | .extract x i=>HE i (π env x)
 | .call ⟨.builtin b,⟨[x]⟩,⟨[e]⟩⟩=>match b with
  | .len=>Hk T e (π env x)
  | .cap=>GX T e (π env x)
  | _=>.bad
 | .call ⟨.builtin b,⟨[x,y]⟩,⟨[o,e]⟩⟩=>match b with
  | .max=>Hj [π env x,π env y]
  | .min=>Pd false (π env x) [π env y]
  | .append=>if TZ A g.dst then .bad else Ou T o e (Ψ.Y8 []) [] (π env x) (π env y)
  | _=>.bad
 | .call ⟨.builtin .max,⟨[x,y,z]⟩,_⟩=>Pd true (π env x) [π env y,π env z]
 | _=>.bad
def W0(T:ZY)(A:Z6)(env:κ)(σ:Ρ)(e:Oper):Y1:=
 match e.op with
 | .alloc a=>if TZ A e.dst then Hu T a σ else .bad
 | .box a x=>if TZ A e.dst then KW a σ (π env x) else Hv σ (π env x)
 | .build a j=>(Um T (Ψ.Y8 σ) a (Oq env j)).YA σ
 | .buildSlice a n j=>if TZ A e.dst then Hs T a n (Oq env j) σ else(JI T (Ψ.Y8 σ) a n (Oq env j)).YA σ
 | .load a x=>RB T a σ (π env x)
 | .store a p x=>Hy T a σ (π env p) (π env x)
 | .convert s d x=>GQ T σ s d (π env x)
 | .nilCheck x=>Ry σ (π env x)
 | .binOp .eql a x (.const (.slice none 0 0)) _=>G4 T a σ (π env x)
 | .binOp l a x y _=>G1 T l a σ (π env x) (π env y)
 | .makeMap _ none=>Ew σ
 | .mapUpdate a m k x=>Ot T a σ (π env m) (π env k) (π env x)
 | .insert a m k x=>Ot T a σ (π env m) (π env k) (π env x)
 | .lookup a x k o=>Hg T a o σ (π env x) (π env k)
 | .range a x=>G3 T a σ (π env x)
 | .next g false=>He σ (π env g)
 | .next g true=>G2 σ (π env g)
 | .entry g=>Hd σ (π env g)
 | .makeSlice a n c=>if TZ A e.dst then(if TZ A (e.dst.map (· + 4096)) then Ow T a (π env n) (π env c) σ else Hr T a (π env n) (π env c) σ) else .bad
 | .slice a x lo hi none=>Mo T a σ (π env x) (lo.map (π env)) (hi.map (π env))
 | .fieldAddr a x f=>RA T a f σ (π env x)
 | .indexAddr a x i=>Rz T a σ (π env x) (π env i)
 | .call ⟨.builtin b,⟨[x]⟩,⟨[a]⟩⟩=>match b with
  | .len=>Mn T a σ (π env x)
  | .clear=>Hb T a σ (π env x)
  | .unsafeSliceData=>Mg T a σ (π env x)
  | _=>.bad
 | .call ⟨.builtin b,⟨[x,y]⟩,⟨[h,a]⟩⟩=>match b with
  | .append=>if TZ A e.dst then Hn T h a σ (π env x) (π env y) else(Ou T h a (Ψ.Y8 σ) σ (π env x) (π env y)).YA σ
  | .copy=>GR T h σ (π env x) (π env y)
  | .unsafeString=>GU T h σ (π env x) (π env y)
  | .delete=>NA T h σ (π env x) (π env y)
  | _=>.bad
 | _=>.bad
section
variable{P:Program}{T:ZY}{A:Z6}{S:ζ}{B:ZZ}{H:Φ}{σ:Ρ}{env:κ}{t:ZP}
def Y4.tW{s}{r:Y4}{a}(b:Does P s S B H σ (r.YA σ))(c:Does P s S B H σ a):Does P s S B H σ (r.or σ a):=by
 cases r with
 | ok x=>exact b
 | Zw p r=>exact b
 | bad=>exact c
def tV(e:Holds S B σ H){c a b u v w}(h:Θ S B σ c u)(f:Θ S B σ a v)(g:Θ S B σ b w):Zo P (do pure (if <-asBool u then v else w)) S B H σ ((KO c a b).YA σ):=by
 unfold KO;split
 .rename_i x;cases h;split
  .rename_i p q;cases f;cases g;intro K d;refine Ω.bind' (Ω.pure' (Ω.pure' ?_));cases x
   .exact .same e d (.z _)
   exact .same e d (.z _)
  cases x
  .exact λK d=>Ω.bind' (Ω.pure' (Ω.pure' (.same e d g)))
  exact λK d=>Ω.bind' (Ω.pure' (Ω.pure' (.same e d f)))
 exact .bad
def tU(g:Y' S B σ env t)(f)(e cs:Array Operand):Θ S B σ (.fn f (e.toList.map (π env)) (cs.toList.map (π env))) (.func f (e.map (ZX t)) (cs.map (ZX t))):=by
 refine .fn _ _ o o (λi a v b c=>?_) (λi a v b c=>?_)
 .rw[YK]at b;rw[NQ]at c;rw[Xf]at b;cases d:e[i]? with
  | none=>rw[d]at b;cases b
  | some x=>rw[d]at b c;cases b;cases c;exact S4 g x
 rw[YK]at b;rw[NQ]at c;rw[Xf]at b;cases d:cs[i]? with
 | none=>rw[d]at b;cases b
 | some x=>rw[d]at b c;cases b;cases c;exact S4 g x
def Jw(b:Y' S B σ env t)(a:Option Operand):NF S B σ (a.map (π env)) (a.map (ZX t)):=by
 cases a with
 | none=>trivial
 | some x=>exact S4 b x
def A5{a r}(h:QO [] a=some r):QO σ a=some r:=by
 cases a<;>first|exact h|(simp[QO]at h)
def tT{a r}(h:Ov [] a=some r):Ov σ a=some r:=by
 cases a with
 | z v=>cases v<;>first|exact h|(simp at h)
 | sl ex k l=>exact h
 | _=>simp[Ov,QO]at h
def tS{a b s x}:Ou T a b (Ψ.Y8 []) [] s x=.bad\/Ou T a b (Ψ.Y8 []) [] s x=Ou T a b (Ψ.Y8 []) σ s x:=by
 unfold Ou;cases c:Ov [] x with
 | none=>left;split<;>simp_all
 | some r=>rw[tT c];exact .inr rfl
def tR(b:ZH P T)(c:Holds S B σ H)(src a){x v}(d:Θ S B σ x v):Zo P (convert src a v) S B H σ ((Nz T σ src a x).YA σ):=by
 have e:=u5 b c src a d
 have f:=uE b c src a d;unfold Nz;split
 .split
  .exact uz b c src a d
  exact f
 exact e
def tQ{src a x}:ND T src a [] x=.bad\/ND T src a [] x=ND T src a σ x:=by
 unfold ND;split
 .cases b:QO [] x with
  | none=>exact .inl rfl
  | some r=>rw[A5 b];exact .inr rfl
 exact .inl U
def tP{src a x}:NC T src a [] x=.bad\/NC T src a [] x=NC T src a σ x:=by
 unfold NC;split
 .cases b:QO [] x with
  | none=>exact .inl rfl
  | some r=>rw[A5 b];exact .inr rfl
 exact .inl U
def tO{src a x}:NB T src a [] x=.bad\/NB T src a [] x=NB T src a σ x:=by
 unfold NB;split
 .exact tP
 exact tQ
def tN{src a x}:Nz T [] src a x=.bad\/Nz T [] src a x=Nz T σ src a x:=by
 unfold Nz;split
 .split
  .exact tO
  exact .inr U
 exact .inr U
def tM{src a x}:P5 T [] src a x=.bad\/P5 T [] src a x=P5 T σ src a x\/P5 T [] src a x=Jy T src a x:=by
 unfold P5;rcases tN with h|h
 .rw[h];exact .inr (.inr U)
 rw[h];exact .inr (.inl U)
def El(b:ZH P T)(c:Holds S B σ H)(src a){x v}(d:Θ S B σ x v):Zo P (convert src a v) S B H σ ((P5 T σ src a x).YA σ):=by
 unfold P5;split
 .exact A6 b c src a d
 exact tR b c src a d
def tL(b:ZH P T)(c:Holds S B σ H)(src a){x v}(d:Θ S B σ x v):Zo P (convert src a v) S B H σ (GQ T σ src a x):=by
 unfold GQ;split
 .split
  .exact um b c src a d
  exact El b c src a d
 exact El b c src a d
def A4(m:Holds S B σ H)(K):∀(l)(a)(v)(vs:List Value),Θ S B σ a v->l.length=vs.length->(∀(i:Nat)(b) w,l[i]?=some b->vs[i]?=some w->Θ S B σ b w)->
  (((Pd true a l).YA σ).holds K->Ω P (vs.foldlM Builtin.max2 v) H (Xu S B H σ K) (λ_ _=>False))/\(((Pd false a l).YA σ).holds K->Ω P (vs.foldlM Builtin.min2 v) H (Xu S B H σ K) (λ_ _=>False)):=by
 intro l
 induction l with
 | nil=>
  intro a v vs c d _;obtain rfl:vs=[]:=YY.1 d.symm;have e:∀b,((Pd b a []).YA σ).holds K->Xu S B H σ K v H:=λb h=>by
   unfold Pd at h;split at h
   .cases c;exact .same m h (.z _)
   exact h.elim
  exact⟨λh=>Ω.pure' (e _ h),λh=>Ω.pure' (e _ h)⟩
 | cons b l n=>
  intro a v vs c d f;cases vs with
  | nil=>cases d
  | cons w vs=>
   have g:=f 0 b w U U
   have j:=λ(a')(v')(o)=>n a' v' vs o (by simpa using d) λi p w' r s=>f (i+1) p w' (by simpa using r) (by simpa using s);constructor
   .intro h;unfold Pd at h;split at h
    .rename_i k x t y;cases c;cases g;exact(j _ _ (Θ.z (.int k (if y > x then y else x)))).1 (by simpa using h)
    exact h.elim
   intro h;unfold Pd at h;split at h
   .rename_i k x t y;cases c;cases g;exact(j _ _ (Θ.z (.int k (if y<x then y else x)))).2 (by simpa using h)
   exact h.elim
def tK(f:ZH P T)(d:Holds S B σ H)(l:Y' S B σ env t)(m):Does P (execOp (ZX t) m) S B H σ ((WH T A env m).YA σ):=by
 have R:∀x,Θ S B σ (π env x) (ZX t x):=λx=>S4 l x
 let ⟨n,p,r,pos,s,guard⟩:=m;unfold WH;simp only;split
 .exact Does.val d (R _)
 .exact Does.val d (R _)
 .rename_i c a b;have:=(tV (P:=P) d (R c) (R a) (R b)).next;unfold execOp;simp only;refine λK g=>?_;have j:=this K g;simpa using j
 .split
  .exact .bad
  exact(vm f d _).next
 .split
  .exact .bad
  exact(vp d _ (R _)).next
 .exact(Bt f d (λa h=>Hx h) _ l _).next
 .split
  .exact .bad
  exact(Br f d (λa h=>Hx h) _ _ l _).next
 .exact(vB f d (R _)).next
 .exact(uK f d _ _ _ _ (R _) (R _)).next
 .exact(vF d _ (R _)).next
 .rename_i a b x;rcases tM with h|h|h
  .rw[h];exact .bad
  .rw[h];exact(El f d _ _ (R _)).next
  rw[h];exact(A6 f d _ _ (R _)).next
 .exact(uJ f d _ (R _) (R _)).next
 .exact uI d U (R _)
 .exact(uG f d _ (R _)).next
 .exact(vD f d _ (R _)).next
 .exact Zo.next (Zo.pure d (tU l _ _ _))
 .split
  .exact .bad
  exact(vg f d (R _) (R _)).next
 .exact(u' f d _ (R _) (Jw l _) (Jw l _)).next
 .exact(ui f d _ (R _) (Jw l _) (R _) (R _)).next
 .exact(vz f d (R _)).next
 .exact(vv f d (R _) (R _)).next
 .exact(vC f d _ _ _ (R _)).next
 .exact(vE d _ (R _)).next
 .split
  .exact λK g=>by
       refine Ω.bind' (Ω.pure' ?_);have e:∀x,Array.map (ZX t) {toList:=[x]}=#[ZX t x]:=λx=>o;simp[invoke,builtin,e];exact(u7 f d _ _ (R _)).next K g
  .exact λK g=>by
       refine Ω.bind' (Ω.pure' ?_);have e:∀x,Array.map (ZX t) {toList:=[x]}=#[ZX t x]:=λx=>o;simp[invoke,builtin,e];exact(uk f d _ _ (R _)).next K g
  exact .bad
 .split
  .exact λK g=>by
       refine Ω.bind' (Ω.pure' ?_);have e:∀x y,Array.map (ZX t) {toList:=[x,y]}=#[ZX t x,ZX t y]:=λx y=>o;simp[invoke,builtin,e];exact(u4 d _ _ (R _) (R _)).next K g
  .exact λK g=>by
       refine Ω.bind' (Ω.pure' ?_);have e:∀x y,Array.map (ZX t) {toList:=[x,y]}=#[ZX t x,ZX t y]:=λx y=>o;simp[invoke,builtin,e];refine(show Zo P (Builtin.min_ _ _ #[ZX t _,ZX t _]) S B H σ _ from λK g=>?_).next K g;exact(A4 d K [_] _ _ [_] (R _) U (λi b w k j=>by
        match i with
        | 0=>simp at k j;subst k;subst j;exact R _
        | i+1=>simp at k)).2 g
  .split
   .exact .bad
   rename_i x y u v _ _;rcases tS with h|h
   .rw[h];exact .bad
   rw[h];exact λK g=>by
     refine Ω.bind' (Ω.pure' ?_);have e:∀x y,Array.map (ZX t) {toList:=[x,y]}=#[ZX t x,ZX t y]:=λx y=>o;simp[invoke,builtin,e];exact(Bn f d (λa h=>Hx h) _ _ _ (R _) (R _)).next K g
  exact .bad
 .exact λK g=>by
   refine Ω.bind' (Ω.pure' ?_);have e:∀x y z,Array.map (ZX t) {toList:=[x,y,z]}=#[ZX t x,ZX t y,ZX t z]:=λx y z=>o;simp[invoke,builtin,e];refine(show Zo P (Builtin.max_ _ _ #[ZX t _,ZX t _,ZX t _]) S B H σ _ from λK g=>?_).next K g;exact(A4 d K [_,_] _ _ [_,_] (R _) U (λi b w k j=>by
    match i with
    | 0=>simp at k j;subst k;subst j;exact R _
    | 1=>simp at k j;subst k;subst j;exact R _
    | i+2=>simp at k)).1 g
 exact .bad
def tJ(c:ZH P T)(b:Holds S B σ H)(f:Y' S B σ env t)(g:Oper):Does P (execOp (ZX t) g) S B H σ (W0 T A env σ g):=by
 have R:∀x,Θ S B σ (π env x) (ZX t x):=λx=>S4 f x;obtain⟨i,j,k,pos,l,guard⟩:=g;unfold W0;simp only;split
 .split
  .exact(vn c b _).next
  exact .bad
 .split
  .exact(vo b _ (R _)).next
  exact(vq b _ (R _)).next
 .exact(Bt c b (λa h=>h) _ f _).next
 .split
  .exact(vk c b _ _ f _).next
  exact(Br c b (λa h=>h) _ _ f _).next
 .exact(vA c b (R _)).next
 .exact(vr c b (R _) (R _)).next
 .exact(tL c b _ _ (R _)).next
 .exact uH b U (R _)
 .exact(uy c b _ _ _ (R _)).next
 .exact(uq c b _ _ _ _ (R _) (R _)).next
 .exact(uV b _).next
 .exact(Bg c b (R _) (R _) (R _)).next
 .exact(Bg c b (R _) (R _) (R _)).next
 .exact(uU c b (R _) (R _)).next
 .exact(uw c b (R _)).next
 .exact(uQ b _ (R _)).next
 .exact(uv b _ (R _)).next
 .exact(uP b (R _)).next
 .split
  .split
   .exact(vi c b (R _) (R _)).next
   exact(vj c b (R _) (R _)).next
  exact .bad
 .exact(u9 c b _ (R _) (Jw f _) (Jw f _)).next
 .exact(vy c b (R _)).next
 .exact(vu c b (R _) (R _)).next
 .split
  .exact λK d=>by
       refine Ω.bind' (Ω.pure' ?_);have e:∀x:Operand,Array.map (ZX t) {toList:=[x]}=#[ZX t x]:=λx=>o;simp only[invoke,builtin,e];exact(u6 c b _ _ (R _)).next K d
  .exact λK d=>by
       refine Ω.bind' (Ω.pure' ?_);have e:∀x:Operand,Array.map (ZX t) {toList:=[x]}=#[ZX t x]:=λx=>o;simp only[invoke,builtin,e];exact(uM c b _ (R _)).next K d
  .exact λK d=>by
       refine Ω.bind' (Ω.pure' ?_);have e:∀x:Operand,Array.map (ZX t) {toList:=[x]}=#[ZX t x]:=λx=>o;simp only[invoke,builtin,e];exact(uh c b _ _ (R _)).next K d
  exact .bad
 .split
  .split
   .exact λK d=>by
       refine Ω.bind' (Ω.pure' ?_);have e:∀x y:Operand,Array.map (ZX t) {toList:=[x,y]}=#[ZX t x,ZX t y]:=λx y=>o;simp only[invoke,builtin,e];exact(vb c b _ _ _ (R _) (R _)).next K d
   exact λK d=>by
      refine Ω.bind' (Ω.pure' ?_);have e:∀x y:Operand,Array.map (ZX t) {toList:=[x,y]}=#[ZX t x,ZX t y]:=λx y=>o;simp only[invoke,builtin,e];exact(Bn c b (λa h=>h) _ _ _ (R _) (R _)).next K d
  .exact λK d=>by
       refine Ω.bind' (Ω.pure' ?_);have e:∀x y:Operand,Array.map (ZX t) {toList:=[x,y]}=#[ZX t x,ZX t y]:=λx y=>o;simp only[invoke,builtin,e];exact(ug c b _ _ _ (R _) (R _)).next K d
  .exact λK d=>by
       refine Ω.bind' (Ω.pure' ?_);have e:∀x y:Operand,Array.map (ZX t) {toList:=[x,y]}=#[ZX t x,ZX t y]:=λx y=>o;simp only[invoke,builtin,e];exact(ua c b _ _ _ (R _) (R _)).next K d
  .exact λK d=>by
       refine Ω.bind' (Ω.pure' ?_);have e:∀x y:Operand,Array.map (ZX t) {toList:=[x,y]}=#[ZX t x,ZX t y]:=λx y=>o;simp only[invoke,builtin,e];exact(tX c b _ _ _ (R _) (R _)).next K d
  exact .bad
 exact .bad
end
inductive ω(h:Nat):Ψ->Prop where
 | z (v:Value):ω h (.z v)
 | Κ {l:μ}:(∀a∈l,ω h a)->ω h (.Κ l)
 | sl {ex:Bool} {k:Nat} {l:μ}:(∀e∈l,∀a∈e.cells,ω h a)->ω h (.sl ex k l)
 | Z' {l:μ}:(∀a∈l,ω h a)->ω h (.Z' l)
 | Z7 {l:μ}:(∀a∈l,ω h a)->ω h (.Z7 l)
 | Ο {id n i j:Nat}:id<h->ω h (.Ο id n i j)
 | ms {id n i len:Nat}:id<h->ω h (.ms id n i len)
 | fn {f:Fn} {b cs:μ}:(∀a∈b,ω h a)->(∀a∈cs,ω h a)->ω h (.fn f b cs)
 | W4 {t:TypeId} {a:Ψ}:ω h a->ω h (.W4 t a)
 | mp {id:Nat}:id<h->ω h (.mp id)
 | it {id:Nat}:id<h->ω h (.it id)
 | Zl:ω h .Zl
def YO(h:Nat):Row->Prop
 | .cells _ _ l=>∀e∈l,∀a∈e.cells,ω h a
 | .map es=>∀e∈es,ω h e.1/\ω h e.2
 | .iter m left b=>m<h/\(∀e∈left,ω h e.1/\ω h e.2)/\∀e,b=some e->ω h e.1/\ω h e.2
 | .str _ _=>True
 | .loop _ _ _ _ _ _ env=>∀i,ω h (ε env i)
 | .own _ _ l=>∀a∈l,ω h a
 | .dead=>True
inductive Yx(h:Nat)(σ:Ρ):Ψ->Ψ->Prop where
 | low {a:Ψ}:ω h a->Yx h σ a a
 | Zl (a:Ψ):Yx h σ a .Zl
 | ms {id n i len k:Nat} {t:TypeId} {l b:μ}:h<=id->σ[id]?=some (.cells t k l)->l.length=n->i+len<=n->b.length=len->
   (∀(j:Nat)(e c:Ψ),l[i+j]?=some e->b[j]?=some c->c.cells.length=e.cells.length)->(∀(j:Nat)(e c:Ψ),l[i+j]?=some e->b[j]?=some c->∀(x:Nat)(a a':Ψ),e.cells[x]?=some a->c.cells[x]?=some a'->Yx h σ a a')->Yx h σ (.ms id n i len) (.sl false k b)
 | Ο {id n i j k:Nat} {t:TypeId} {l cs:μ} {e:Ψ}:h<=id->σ[id]?=some (.cells t k l)->l.length=n->l[i]?=some e->cs.length<=e.cells.length-j->
   (∀(x:Nat)(a a':Ψ),e.cells[j+x]?=some a->cs[x]?=some a'->Yx h σ a a')->Yx h σ (.Ο id n i j) (.Κ cs)
 | Z' {l b:μ}:b.length=l.length->(∀(x:Nat)(a a':Ψ),l[x]?=some a->b[x]?=some a'->Yx h σ a a')->Yx h σ (.Z' l) (.Z' b)
 | Z7 {l b:μ}:b.length=l.length->(∀(x:Nat)(a a':Ψ),l[x]?=some a->b[x]?=some a'->Yx h σ a a')->Yx h σ (.Z7 l) (.Z7 b)
 | fn {f:Fn} {d g cs cs':μ}:g.length=d.length->cs'.length=cs.length->(∀(x:Nat)(a a':Ψ),d[x]?=some a->g[x]?=some a'->Yx h σ a a')->(∀(x:Nat)(a a':Ψ),cs[x]?=some a->cs'[x]?=some a'->Yx h σ a a')->Yx h σ (.fn f d cs) (.fn f g cs')
section
variable{S:ζ}{B:ZZ}{H:Φ}{σ:Ρ}{h:Nat}
def Late(B:ZZ)(σ:Ρ)(h b:Nat):Prop:=∃id t k l N,h<=id/\σ[id]?=some (Row.cells t k l)/\B[id]?=some (some (b,N))
open Classical in
noncomputable def ζ.close(S:ζ)(B:ZZ)(σ:Ρ)(H:Φ)(h:Nat):ζ:=λb a=>if Late B σ h b then(H.Α b a).map (·.1) else S b a
def GP(c:Holds S B σ H):∀b a v,S b a=some v->S.close B σ H h b a=some v:=λb a v hv=>by
 unfold ζ.close;split
 .rename_i d;obtain⟨id,t,k,l,N,g,e,f⟩:=d;have:=c.sep id _ b N e trivial f a;rw[hv]at this;cases this
 exact hv
def Θ.QM(t:Holds S B σ H){a:Ψ}{v:Value}(u:Θ S B σ a v)(d:ω h a):Θ (S.close B σ H h) (B.take h) (σ.take h) a v:=by
 have k:∀{x:Type}(l:List x)(i:Nat),i<h->(l.take h)[i]?=l[i]?:=λl i hi=>UK hi
 induction u with
 | z v=>exact .z v
 | Κ b p w f _ m=>
  cases d with
  | Κ d=>exact .Κ b p w (λj a n=>GP t _ _ _ (f j a n)) λj a n=>m j a n (d a (ZD n))
 | WI base cap h=>exact .WI base cap h
 | sl b p cap w f g o r _ m=>
  cases d with
  | sl d=>exact .sl b p cap w f g o (λi e hi j c n=>GP t _ _ _ (r i e hi j c n)) λi e hi j c n=>m i e hi j c n (d e (ZD hi) c (ZD n))
 | Z' vs f _ m=>
  cases d with
  | Z' d=>exact .Z' vs f λi a v hi hv=>m i a v hi hv (d a (ZD hi))
 | Z7 vs f _ m=>
  cases d with
  | Z7 d=>exact .Z7 vs f λi a v hi hv=>m i a v hi hv (d a (ZD hi))
 | Ο f g o=>
  cases d with
  | Ο d=>exact .Ο (by rw[k _ _ d];exact f) g (by rw[k _ _ d];exact o)
 | Vo v f g s=>
  cases d with
  | Ο d=>exact .Vo v (by rw[k _ _ d];exact f) g s
 | ms cap f g o r y A=>
  cases d with
  | ms d=>exact .ms cap (by rw[k _ _ d];exact f) g (by rw[k _ _ d];exact o) r y A
 | VP v f g s=>
  cases d with
  | ms d=>exact .VP v (by rw[k _ _ d];exact f) g s
 | fn vs C f g _ _ D E=>
  cases d with
  | fn F I=>exact .fn vs C f g (λi a v hi hv=>D i a v hi hv (F a (ZD hi))) λi a v hi hv=>E i a v hi hv (I a (ZD hi))
 | W4 v _ m=>
  cases d with
  | W4 d=>exact .W4 v (m d)
 | mp f g=>
  cases d with
  | mp d=>exact .mp (by rw[k _ _ d];exact f) (by rw[k _ _ d];exact g)
 | TI v f=>
  cases d with
  | mp d=>exact .TI v (by rw[k _ _ d];exact f)
 | it f g=>
  cases d with
  | it d=>exact .it (by rw[k _ _ d];exact f) (by rw[k _ _ d];exact g)
 | R8 f g=>
  cases d with
  | it d=>exact .R8 (by rw[k _ _ d];exact f) (by rw[k _ _ d];exact g)
 | S8 v f=>
  cases d with
  | it d=>exact .S8 v (by rw[k _ _ d];exact f)
 | Zl v=>exact .Zl v
def A3{id b N:Nat}{t:TypeId}{k:Nat}{l:μ}(c:h<=id)(d:σ[id]?=some (.cells t k l))(e:B[id]?=some (some (b,N))){a:Nat}{v:Value}{p:Bool}(hv:H.Α b a=some (v,p)):S.close B σ H h b a=some v:=by
 unfold ζ.close;rw[if_pos ⟨id,t,k,l,N,c,d,e⟩,hv];rfl
def Θ.tI(L:Holds S B σ H){a a':Ψ}(V:Yx h σ a a'):∀{v:Value},Θ S B σ a v->Θ (S.close B σ H h) (B.take h) (σ.take h) a' v:=by
 induction V with
 | low W=>intro v m;exact m.QM L W
 | Zl a=>intro v _;exact .Zl v
 | @ms id n i len k t l M g f X O E R _ A=>
  intro v m;cases m with
  | ms cap c p C T ab P=>
   rw[f]at c;cases c;by_cases U:M=[]
   .subst U;have:len=0:=by rw[<-E];rfl
    subst this;exact .WI _ _ o
   have ad:0<len:=by rw[<-E];exact MT.2 U
   rcases P with P|⟨b,N,rfl,rfl,P⟩
   .omega
   obtain⟨_,_,_,w,D⟩:=L.row id _ _ f C;have el:∀(j:Nat)(r:Ψ),M[j]?=some r->∃e,l[i+j]?=some e/\e.cells.length=k/\r.cells.length=k:=λj r u=>by
    have y:j<len:=by rw[<-E];exact(ZT.1 u).1
    have F:l[i+j]?=some l[i+j]:=ξ J;exact⟨_,F,(D _ _ F).1,(R j _ r F u).trans (D _ _ F).1⟩
   have:=Θ.sl (S:=S.close B σ H h) (B:=B.take h) (σ:=σ.take h) (ex:=false) (k:=k) (l:=M) b (i*k) cap (λj x=>w (i+j) x) o J (λj r u=>(el j r u).choose_spec.2.2)
    (λj r u x a' s=>by
     obtain⟨e,I,Υ,Q⟩:=el j r u;have K:x<e.cells.length:=by rw[Υ,<-Q];exact(ZT.1 s).1
     have:=((D _ e I).2 x _ (ξ K)).1;rw[WB]at this;exact A3 g f C this)
    (λj r u x a' s=>by
     obtain⟨e,I,Υ,Q⟩:=el j r u;have K:x<e.cells.length:=by rw[Υ,<-Q];exact(ZT.1 s).1
     exact A j e r I u x _ a' (ξ K) s ((D _ e I).2 x _ (ξ K)).2.1)
   rw[E]at this;exact this
  | VP v c p=>rw[f]at c;cases c;simp only[Row.W3]at p;omega
 | @Ο id n i j k t l cs e g f X O E R A=>
  intro v m;cases m with
  | Ο c p C=>
   rw[f]at c;cases c;obtain⟨_,_,_,w,D⟩:=L.row id _ _ f C;have el:∀(x:Nat)(a':Ψ),cs[x]?=some a'->∃a,e.cells[j+x]?=some a:=λx a' s=>by
    have:=(ZT.1 s).1;exact⟨_,ξ J⟩
   refine .Κ _ _ (λx=>w i (j+x)) (λx a' s=>?_) (λx a' s=>?_)
   .obtain⟨a,d⟩:=el x a' s;have:=((D i e O).2 _ a d).1;rw[<-UJ]at this;exact A3 g f C this
   obtain⟨a,d⟩:=el x a' s;exact A x a a' d s ((D i e O).2 _ a d).2.1
  | Vo v c p=>rw[f]at c;cases c;simp only[Row.W3]at p;omega
 | Z' g f A=>
  intro v m;cases m with
  | Z' vs c p=>
   refine .Z' vs (by rw[g,c]) λi a' w hi hv=>?_;have y:=(ZT.1 hi).1;have d:=ξ (g▸y);exact A i _ a' d hi (p i _ w d hv)
 | Z7 g f A=>
  intro v m;cases m with
  | Z7 vs c p=>
   refine .Z7 vs (by rw[g,c]) λi a' w hi hv=>?_;have y:=(ZT.1 hi).1;have d:=ξ (g▸y);exact A i _ a' d hi (p i _ w d hv)
 | fn g f _ _ Y Z=>
  intro v m;cases m with
  | fn vs aa c p C T=>
   refine .fn vs aa (by rw[g,c]) (by rw[f,p]) (λi a' w hi hv=>?_) (λi a' w hi hv=>?_)
   .have y:=(ZT.1 hi).1
    have d:=ξ (g▸y);exact Y i _ a' d hi (C i _ w d hv)
   have y:=(ZT.1 hi).1
   have d:=ξ (f▸y);exact Z i _ a' d hi (T i _ w d hv)
def VO.QM(g:Holds S B σ H){r:Row}{bo:Option (Nat×Nat)}(p:VO S B σ H r bo)(C:YO h r):VO (S.close B σ H h) (B.take h) (σ.take h) H r bo:=by
 have K:∀{T:Type}(l:List T)(i:Nat),i<h->(l.take h)[i]?=l[i]?:=λl i hi=>UK hi;cases r with
 | cells t k l=>
  cases bo with
  | none=>exact p
  | some x=>
   obtain⟨b,N⟩:=x;obtain⟨n,o,u,w,D⟩:=p;refine⟨n,o,u,w,λi e hi=>⟨(D i e hi).1,λj a E=>?_⟩⟩;obtain⟨v,A,F⟩:=(D i e hi).2 j a E;exact⟨v,A.QM g (C e (ZD hi) a (ZD E)),F⟩
 | map es=>
  obtain⟨b,N,xs,I,rfl,n,o,u,D⟩:=p;exact⟨b,N,xs,I,U,n,o,λi e y a b=>by
   obtain⟨v,A,F⟩:=u i e y a b;exact⟨v.QM g (C e (ZD a)).1,A.QM g (C e (ZD a)).2,F⟩,D⟩
 | iter m left ae=>
  obtain⟨O,P,Q⟩:=C;obtain⟨b,N,V,W,xs,I,seen,rfl,n,o,u,D,⟨X,Y,Z,aa⟩,ab,ad⟩:=p;refine⟨b,N,V,W,xs,I,seen,U,by rw[K _ _ O];exact n,by rw[K _ _ O];exact o,u,D,⟨X,Y,Z,λi e y a b=>?_⟩,ab,λe J=>?_⟩
  .obtain⟨v,A⟩:=aa i e y a b;exact⟨v.QM g (P e (ZD a)).1,A.QM g (P e (ZD a)).2⟩
  obtain⟨R,y,a,b,c,d⟩:=ad e J;exact⟨R,y,a,b,c.QM g (Q e J).1,d.QM g (Q e J).2⟩
 | str s pos=>exact p
 | loop L R af a bd nt env=>
  obtain⟨N,f,d,t,rfl,n,o,u⟩:=p;exact⟨N,f,d,t,U,n,o,λi=>(u i).QM g (C i)⟩
 | own c ag l=>
  obtain⟨N,t,M,rfl,n,w,o⟩:=p;refine⟨N,t,M,U,n,w,λj a E=>?_⟩;obtain⟨v,A,F⟩:=o j a E;exact⟨v,A.QM g (C a (ZD E)),F⟩
 | dead=>trivial
def Holds.close(a:Holds S B σ H)(u:∀(id:Nat)(r:Row),id<h->σ[id]?=some r->YO h r) :
  Holds (S.close B σ H h) (B.take h) (σ.take h) H/\Ext S B H (S.close B σ H h) (B.take h) H:=by
 have c:∀{o:Type}(l:List o)(i:Nat)(x:o),(l.take h)[i]?=some x->i<h/\l[i]?=some x:=λl i x hi=>by
  rw[Q4]at hi;split at hi
  .exact⟨‹_›,hi⟩
  cases hi
 refine⟨⟨λb e v hv=>?_,by simp[a.len],λid r bo m n=>?_,λi j w y b A C D hi E F I K L=>?_,λid r b N m g n e=>?_⟩,⟨GP a,λb _ _=>S7.of ⟨λ_=>rfl,U,U⟩,λb ⟨N,M⟩=>.inl ⟨N,MU M⟩,λb e v hv=>?_,λ_ h=>h⟩⟩
 .unfold ζ.close at hv;split at hv
  .cases p:H.Α b e with
   | none=>rw[p]at hv;cases hv
   | some x=>rw[p]at hv;cases hv;exact⟨x.2,rfl⟩
  exact a.Za b e v hv
 .obtain⟨s,f⟩:=c _ _ _ m;obtain⟨_,d⟩:=c _ _ _ n;exact(a.row id r bo f d).QM a (u id r s f)
 .exact a.inj i j w y b A C D (c _ _ _ hi).2 (c _ _ _ E).2 F I (c _ _ _ K).2 (c _ _ _ L).2
 .obtain⟨s,f⟩:=c _ _ _ m;obtain⟨_,d⟩:=c _ _ _ n;unfold ζ.close;rw[if_neg]
  .exact a.sep id r b N f g d e
  rintro⟨O,t,k,l,P,T,Q,R⟩;exact a.inj id O r _ b N P J f Q g trivial d R
 unfold ζ.close at hv;split at hv
 .rename_i g;obtain⟨id,t,k,l,N,_,_,d⟩:=g;exact .inr (.inl (S5 d))
 exact .inl hv
def ZC.close{a:ζ}{c:ZZ}{σ0:Ρ}(i:Holds S B σ H)(d:ZC a S c B σ0 σ)(j:σ0.length<=h):ZC a (S.close B σ H h) c (B.take h) σ0 (σ.take h):=
 ⟨λb e v hv=>GP i b e v (d.Za b e v hv),λid r f=>by
  have g:id<h:=J7 (ZT.1 f).1 j;obtain⟨r',k,l⟩:=d.rows id r f;exact⟨r',by rw[UK g];exact k,by rw[UK g];exact l⟩⟩
end
end Go.TL
namespace Go.TL
open Go.Conc
variable[Z8]
structure Xi(m:Nat)(S:ζ)(B:ZZ)(H:Φ)(σ:Ρ)(a:ζ)(B':ZZ)(H':Φ)(σ':Ρ):Prop where
 ext:Ext S B H a B' H'
 later:ZC S a (B.take m) B' (σ.take m) σ'
structure XG(m nt:Nat)(S:ζ)(B:ZZ)(H:Φ)(σ:Ρ)(env:κ)(t:ZP):Prop where
 holds:Holds S B σ H
 Zt:Y' S B σ env t
 size:t.size=nt
 rows:m<=σ.length
section
variable{m:Nat}{S YE A2:ζ}{B B' A1:ZZ}{H H' A0:Φ}{σ σ' AZ:Ρ}
def ZC.left(h:ZC S YE B B' σ σ')(m:Nat):ZC S YE (B.take m) B' (σ.take m) σ':=
 ⟨h.Za,λid r a=>by
  rw[Q4]at a;split at a
  .rename_i b;rw[UK b];exact h.rows id r a
  cases a⟩
def ZC.right(h:ZC S YE B B' σ σ')(c:σ.length<=m):ZC S YE B (B'.take m) σ (σ'.take m):=
 ⟨h.Za,λid r a=>by
  have b:id<m:=J7 (ZT.1 a).1 c;rw[UK b,UK b];exact h.rows id r a⟩
def Xi.of(h:Ext S B H YE B' H')(k:ZC S YE B B' σ σ'):Xi m S B H σ YE B' H' σ':=⟨h,k.left m⟩
def Xi.refl:Xi m S B H σ S B H σ:=.of (.refl _ _ _) (.refl _ _ _)
def Xi.trans(h:Xi m S B H σ YE B' H' σ')(k:Xi m YE B' H' σ' A2 A1 A0 AZ):Xi m S B H σ A2 A1 A0 AZ:=
 ⟨h.ext.trans k.ext,(h.later.right (m:=m) (by simp;omega)).trans k.later⟩
def ZC.length(h:ZC S YE B B' σ σ'):σ.length<=σ'.length:=by
 apply Tn;intro c;have a:σ'.length<σ.length:=J;obtain⟨r',b,_⟩:=h.rows σ'.length _ (ξ a);simp at b
end
def Leaves(j k:Zk):Prop:=k=j
def W(P:Program)(m nt:Nat)(k:Zk)(env:κ)(σ:Ρ)(Z:Xv)(E:XM):Prop:=
 ∀(e:Value->Prop)(mn:Bool)(x:Vp)(cs:YM)(b:Frame)(S:ζ)(B:ZZ)(H:Φ)(t:ZP),Seq x->b.mode=.run->XG m nt S B H σ env t->
  (∀(j:Zk)(env':κ)(σ':Ρ)(c:ζ)(B':ZZ)(H':Φ)(t':ZP)(d:Zk),Z j env' σ'->Xi m S B H σ c B' H' σ'->XG m nt c B' H' σ' env' t'->Leaves j d->η P e mn x (χ b t' d) cs H')->
  (∀(a:Ψ)(env':κ)(σ':Ρ)(c:ζ)(B':ZZ)(H':Φ)(t':ZP)(d:Zk)(v:Value),E a env' σ'->Xi m S B H σ c B' H' σ'->Holds c B' σ' H'->Y' c B' σ' env' t'->Θ c B' σ' a v->η P e mn x {χ b t' d with mode:=.panicking [{v,recovered:=false}]} cs H')->
  η P e mn x (χ b t k) cs H
section
variable{P:Program}{m nt:Nat}{k:Zk}{env:κ}{σ:Ρ}{Z:Xv}{E:XM}
def W.mono{g:Xv}{E':XM}(h:W P m nt k env σ Z E)(i:∀j e s,Z j e s->g j e s)(l:∀a e s,E a e s->E' a e s):W P m nt k env σ g E':=
 λn mn x cs b S B H t o p r u w=>h n mn x cs b S B H t o p r (λj env' σ' d B' H' t' f a=>u j env' σ' d B' H' t' f (i _ _ _ a)) (λa env' σ' d B' H' t' f v c=>w a env' σ' d B' H' t' f v (l _ _ _ c))
def W.stop(h:Z k env σ):W P m nt k env σ Z E:=λ_ _ _ _ _ S B H t _ _ a b _=>b k env σ S B H t k h .refl a rfl
def W.nil(h:Z [] env σ):W P m nt [] env σ Z E:=.stop h
def W.ret(h:Z (.code .ret::k) env σ):W P m nt (.code .ret::k) env σ Z E:=.stop h
def W.skip(h:W P m nt k env σ Z E):W P m nt (.code .skip::k) env σ Z E:=λd mn x cs b S B H t a c e f g=>.skip a c (h d mn x cs b S B H t a c e f g)
def W.inBlock{l:Nat}(h:W P m nt k env σ Z E):W P m nt (.inBlock l::k) env σ Z E:=λd mn x cs b S B H t a c e f g=>.inBlock a c (h d mn x cs b S B H t a c e f g)
def W.seq{a c:Code}(h:W P m nt (.code a::.code c::k) env σ Z E):W P m nt (.code (.seq a c)::k) env σ Z E:=λf mn x cs b S B H t d e g i j=>.seq d e (h f mn x cs b S B H t d e g i j)
def W.block{l:Nat}{c:Code}(h:W P m nt (.code c::.inBlock l::k) env σ Z E):W P m nt (.code (.block l c)::k) env σ Z E:=λe mn x cs b S B H t a d f g i=>.block a d (h e mn x cs b S B H t a d f g i)
def W.inLoop{c:Code}(h:W P m nt (.code c::.inLoop c::k) env σ Z E):W P m nt (.inLoop c::k) env σ Z E:=λe mn x cs b S B H t a d f g i=>.inLoop a d (h e mn x cs b S B H t a d f g i)
def W.loop{c:Code}(h:W P m nt (.code c::.inLoop c::k) env σ Z E):W P m nt (.code (.loop c)::k) env σ Z E:=λe mn x cs b S B H t a d f g i=>.loop a d (h e mn x cs b S B H t a d f g i)
def W.exit{id:Nat}{a:Zk}(e:exitTo id k=some a)(h:W P m nt a env σ Z E):W P m nt (.code (.exit id)::k) env σ Z E:=λf mn x cs b S B H t c d g i j=>.exit c d e (h f mn x cs b S B H t c d g i j)
def W.cond{c:Operand}{a e:Code}{v:Bool}(i:π env c=.z (.bool v))(h:W P m nt (.code (if v then a else e)::k) env σ Z E):W P m nt (.code (.cond c a e)::k) env σ Z E:=λj mn x cs b S B H t d f g l n=>by
 refine .cond (v:=v) d f ?_ (h j mn x cs b S B H t d f g l n);have:=S4 g.Zt c;rw[i]at this;rw[JM];generalize ZX t c=u at this;cases this;rfl
def W.cut(h:Nat)(aa:m<=h)(env':κ)(ab:h<=σ.length)(I:∀(id:Nat)(r:Row),id<h->σ[id]?=some r->YO h r)(J:∀p∈env',Yx h σ (ε env p.1) p.2)(K:W P m nt k env' (σ.take h) Z E):W P m nt k env σ Z E:=
 λL mn x cs b S B H t M N c O Q=>by
 obtain⟨R,T⟩:=c.holds.close I;have d:ZC S (S.close B σ H h) (B.take m) (B.take h) (σ.take m) (σ.take h):=by
  have:=ZC.close (h:=h) c.holds ((ZC.refl S B σ).left m) (by simp;omega);exact this
 have F:Xi m S B H σ (S.close B σ H h) (B.take h) H (σ.take h):=⟨T,d⟩
 have U:∀(l:κ),(∀p∈l,Yx h σ (ε env p.1) p.2)->∀i,Yx h σ (ε env i) (ε l i):=by
  intro l
  induction l with
  | nil=>intro _ i;exact .Zl _
  | cons p l V=>
   intro d i;simp only[ε];split
   .rename_i e;rw[<-e];exact d p o
   exact V (λq X=>d q (by simp[X])) i
 refine K L mn x cs b _ _ H t M N ⟨R,λi=>(c.Zt i).tI c.holds (U env' J i),c.size,by simp;omega⟩ (λj f g n s u t2 w y A C D=>?_) (λa f g n s u t2 w v y A C D Y=>?_)
 .exact O j f g n s u t2 w y (F.trans A) C D
 exact Q a f g n s u t2 w v y (F.trans A) C D Y
end
def XF(S:ζ)(B:ZZ)(σ:Ρ)(as9:μ)(vs:ZP):Prop:=as9.length=vs.size/\∀(i:Nat)(a)(v),as9[i]?=some a->vs[i]?=some v->Θ S B σ a v
structure Me(P:Program)(d:Value->Prop)(mn:Bool)(x:Vp)(c:Frame)(rest:YM)(S:ζ)(B:ZZ)(H:Φ)(σ:Ρ)(K:Ψ->Ρ->Prop)(E:Ψ->Ρ->Prop):Prop where
 ret:∀(a)(σ')(b)(B')(H')(v),K a σ'->Ext S B H b B' H'->ZC S b B B' σ σ'->Holds b B' σ' H'->Θ b B' σ' a v->η P d mn x (c.finish v) rest H'
 KN:∀(a)(σ')(b)(B')(H')(v),E a σ'->Ext S B H b B' H'->ZC S b B B' σ σ'->Holds b B' σ' H'->Θ b B' σ' a v->η P d mn x (c.raise [{v,recovered:=false}]) rest H'
def AY(P:Program)(a:Value->Prop)(mn:Bool)(x:Vp)(c:Frame)(rest:YM):Next->Φ->Prop
 | .enter g as9,H=>η P a mn x (Frame.enter P g as9 .normal) (c::rest) H
 | .round l f b d bd,H=>η P a mn x (Frame.round l f b d bd .normal) (c::rest) H
 | .value v,H=>η P a mn x (c.finish v) rest H
 | _,_=>False
def Yi(P:Program)(f:Ψ)(args:μ)(σ:Ρ)(K E:Ψ->Ρ->Prop):Prop:=
 ∀(a)(mn)(x)(c)(rest)(S)(B)(H)(b)(vs),Seq x->Holds S B σ H->Θ S B σ f b->XF S B σ args vs->Me P a mn x c rest S B H σ K E->
  Ω P (do let d <-Deferred.ofValue b vs;invoke d.target d.args) H (AY P a mn x c rest) (λ_ _=>False)
def Plain(P:Program)(g:FuncId):Prop:=∃fn,P.funcs[g]?=some fn/\(fn.name == "runtime.NumGoroutine")=false/\fn.body.isNone=false
def Ν(P:Program)(g:FuncId)(args:μ)(σ:Ρ)(K E:Ψ->Ρ->Prop):Prop:=
 Plain P g/\∀(a)(mn)(x)(c)(rest)(S)(B)(H)(vs),Seq x->Holds S B σ H->XF S B σ args vs->Me P a mn x c rest S B H σ K E->
  η P a mn x (Frame.enter P g vs .normal) (c::rest) H
section
variable{P:Program}{T:ZY}{A:Z6}{m nt:Nat}{k:Zk}{env:κ}{σ:Ρ}{Z:Xv}{E:Ψ->Ρ->Prop}{K:Ψ->Ρ->Prop}{F:XM}
def XF.append{S B as9 d vs e}(h:XF S B σ as9 vs)(k:XF S B σ d e):XF S B σ (as9++d) (vs++e):=by
 refine⟨by simp[h.1,k.1],λi a v b c=>?_⟩;by_cases f:i<as9.length
 .rw[YT f]at b;rw[Lr (by rw[<-h.1];exact f)]at c;exact h.2 i a v b c
 rw[W5 J]at b;rw[Iq (by rw[<-h.1];omega),<-h.1]at c;exact k.2 _ a v b c
def Ν.mono{g args K' E'}(h:Ν P g args σ K E)(f:∀a s,K a s->K' a s)(i:∀a s,E a s->E' a s):Ν P g args σ K' E':=
 ⟨h.1,λj mn x c rest S B H vs k l hv e=>h.2 j mn x c rest S B H vs k l hv ⟨λa σ' b B' H' v d=>e.ret a σ' b B' H' v (f _ _ d),λa σ' b B' H' v d=>e.KN a σ' b B' H' v (i _ _ d)⟩⟩
def Yi.mono{f args K' E'}(h:Yi P f args σ K E)(g:∀a s,K a s->K' a s)(i:∀a s,E a s->E' a s):Yi P f args σ K' E':=
 λj mn x c rest S B H k vs l m n hv e=>h j mn x c rest S B H k vs l m n hv ⟨λa σ' b B' H' v d=>e.ret a σ' b B' H' v (g _ _ d),λa σ' b B' H' v d=>e.KN a σ' b B' H' v (i _ _ d)⟩
def Ν.call{g first args captured}(h:Ν P g (first++args++captured) σ K E):Yi P (.fn (.func g) first captured) args σ K E:=by
 intro a mn x c rest S B H v vs b d e hv f;cases e with
 | fn i j k l m n=>
  refine Ω.bind' (Ω.pure' ?_);let ⟨⟨fn,o,p,r⟩,s⟩:=h;unfold invoke;simp only;unfold callFunc;apply Ω.bind';show Ω P (match P.funcs[g]? with|none=>_|some fn=>_) H _ _;rw[o];simp only[p,r];apply Ω.pure';have t:XF S B σ first i:=⟨k,m⟩
  have u:XF S B σ captured j:=⟨l,n⟩;exact s a mn x c rest S B H _ b d ((t.append hv).append u) f
def XE(env:κ)(ops:Y5)(a:Oper):Option Bool:=match a.guard with
 | none=>some true
 | some (j,c)=>match (ops[j]?).bind (·.dst) with
  | some d=>match ε env d with
   | .z (.bool b)=>some (b==c)
   | _=>none
  | none=>none
def Uk{S B t}(h:Y' S B σ env t){ops g w}(a:XE env ops g=some w):Region.wanted g (yielded ops t)=w:=by
 unfold XE at a;unfold Region.wanted;split at a
 .rename_i e;rw[e];cases a;rfl
 rename_i j i e;rw[e];split at a
 .rename_i d hd;split at a
  .rename_i b k;cases a;have c:=h d;rw[k]at c;unfold yielded;rw[Vv]at c;cases f:t[d]? with
   | none=>rw[f]at c;cases c
   | some v=>
    rw[f]at c;simp[Option.getD_some]at c;cases c;simp only[hd,Option.bind_some,f];cases b<;>cases i<;>rfl
  cases a
 cases a
def Zr(b:Oper)(env:κ)(a:Ψ):κ:=match b.dst with|some d=>(d,a)::env|none=>env
def WA(nt:Nat)(a:Oper):Bool:=match a.dst with|some d=>decide (d<nt)|none=>true
def Pb{S B t}(h:Y' S B σ env t){b}(hd:WA nt b=true)(c:t.size=nt){a v}(e:Θ S B σ a v):Y' S B σ (Zr b env a) (put b t v)/\(put b t v).size=nt:=by
 unfold Zr put;unfold WA at hd;cases f:b.dst with
 | none=>exact⟨h,c⟩
 | some d=>
  rw[f]at hd;simp[decide_eq_true_eq]at hd;exact⟨h.put (by rw[c];exact hd) e,by simp[c]⟩
def W.unwanted{ops i c rest}(f:ops[i]?=some c)(g:XE env ops c=some false)(hd:WA nt c=true)(h:W P m nt (.inRegion ops rest::k) (Zr c env .Zl) σ Z F):W P m nt (.inRegion ops (i::rest)::k) env σ Z F:=
 λj mn x cs b S B H t d e a l n=>by
 let ⟨o,p⟩:=Pb a.Zt hd a.size (v:=undef) (.Zl _);exact .unwanted d e f (Uk a.Zt g) (h j mn x cs b S B H _ d e ⟨a.holds,o,p,a.rows⟩ l n)
def W.op(C:ZH P T){ops i d rest}(L:ops[i]?=some d)(M:XE env ops d=some true)(hd:WA nt d=true)(N:∀c,d.op≠.defer c)
  (h:((WH T A env d).or σ (W0 T A env σ d)).holds λa σ'=>W P m nt (.inRegion ops rest::k) (Zr d env a) σ' Z F):W P m nt (.inRegion ops (i::rest)::k) env σ Z F:=
 λD mn x cs b S B H t E I e O Q=>by
 refine .op E I L (Uk e.Zt M) (.inr N) ?_;have R:=Y4.tW (tK (A:=A) C e.holds e.Zt d) (tJ (A:=A) C e.holds e.Zt d);refine Ω.mono (λU H' ⟨v,hv,J,B',σ',a,V,X,Y,f,aa⟩=>?_) (λ_ _ h=>h.elim) _ (R _ h);let ⟨ab,ad⟩:=Pb (e.Zt.later f) hd e.size aa;have K:Xi m S B H σ J B' H' σ':=.of X f;have ae:η P D mn x (χ b (put d t v) (.inRegion ops rest::k)) cs H':=
  V D mn x cs b J B' H' _ E I ⟨Y,ab,ad,WL e.rows f.length⟩ (λj g l n o p t2 r s u w y=>O j g l n o p t2 r s (K.trans u) w y)
   (λaf g l n o p t2 r ag s u w y ah=>Q af g l n o p t2 r ag s (K.trans u) w y ah)
 cases U<;>simp[BF]at hv<;>first|(subst hv;exact ae)|skip
def W.call{ops i l rest}(A:ops[i]?=some l)(ad:XE env ops l=some true)(hd:WA nt l=true){f args ae}(X:l.op=.call ⟨.value f,args,ae⟩)
  (h:Yi P (π env f) (args.toList.map (π env)) σ (λa σ'=>W P m nt (.inRegion ops rest::k) (Zr l env a) σ' Z F) (λa s=>F a env s)):W P m nt (.inRegion ops (i::rest)::k) env σ Z F:=
 λY mn x cs b S B H t n C g af aa=>by
 refine .op n C A (Uk g.Zt ad) (.inr λc=>by rw[X];simp) ?_;have ag:XF S B σ (args.toList.map (π env)) (args.map (ZX t)):=by
  refine⟨o,λi a v r D=>?_⟩;rw[YK,Xf]at r;rw[NQ]at D;cases n:args[i]? with
  | none=>rw[n]at r;cases r
  | some y=>rw[n]at r D;cases r;cases D;exact S4 g.Zt y
 have ah:=h Y mn x (χ b t (.inRegion ops (i::rest)::k)) cs S B H (ZX t f) (args.map (ZX t)) n g.holds (S4 g.Zt f) ag ⟨λa σ' w B' H' v ai E p I J=>?_,λa σ' w B' H' v aj E p I J=>?_⟩
 .have e:execOp (ZX t) l=(do let d <-Deferred.ofValue (ZX t f) (args.map (ZX t));invoke d.target d.args):=by unfold execOp;rw[X];rfl
  rw[e];refine Ω.mono (λak H' u=>?_) (λ_ _ h=>h.elim) _ ah;cases ak<;>first|exact u.elim|exact u|skip
  rename_i v;have:=VQ (b:=b) (t:=t) (k:=k) (v:=v) A (rest:=rest);simp[AY]at u;rw[this]at u;exact u
 .let ⟨al,am⟩:=Pb (g.Zt.later p) hd g.size J
  have ab:Xi m S B H σ w B' H' σ':=.of E p;rw[VQ A];exact ai Y mn x cs b w B' H' _ n C ⟨I,al,am,WL g.rows p.length⟩ (λj K L M N O t2 Q R T U V=>af j K L M N O t2 Q R (ab.trans T) U V)
   (λan K L M N O t2 Q ao R T U V ap=>aa an K L M N O t2 Q ao R (ab.trans T) U V ap)
 have:=aa a env σ' w B' H' t (.inRegion ops (i::rest)::k) v aj (.of E p) I (g.Zt.later p) J
 have e:(χ b t (.inRegion ops (i::rest)::k)).raise [{v,recovered:=false}]={χ b t (.inRegion ops (i::rest)::k)with mode:=.panicking [{v,recovered:=false}]}:=by simp[Frame.raise,χ,C]
 rw[e];exact this
def W.panic{ops i d rest}(l:ops[i]?=some d)(n:XE env ops d=some true){y}(j:d.op=.panic y){ty a}(o:π env y=.W4 ty a)(h:F (.W4 ty a) env σ):W P m nt (.inRegion ops (i::rest)::k) env σ Z F:=
 λw mn x cs b S B H t p r f A s=>by
 refine .op p r l (Uk f.Zt n) (.inr λc=>by rw[j];simp) ?_;have g:=S4 f.Zt y;have e:execOp (ZX t) d=(do pure (.value (<-Instr.panic (ZX t y)))):=by unfold execOp;rw[j]
 rw[e];rw[o]at g;generalize hv:ZX t y=v at g;apply Ω.bind';cases g with
 | W4 v' u=>exact s (.W4 ty a) env σ S B H t _ _ h .refl f.holds f.Zt (.W4 v' u)
end
def Md(P:Program)(T:ZY)(A:Z6)(env:κ)(b:Oper)(σ:Ρ)(K:Ψ->Ρ->Prop)(E:XM):Prop:=match b.op with
 | .call ⟨.value f,args,_⟩=>Yi P (π env f) (args.toList.map (π env)) σ K (λa s=>E a env s)
 | .panic y=>match π env y with|.W4 t a=>E (.W4 t a) env σ|_=>False
 | .defer _=>False
 | _=>((WH T A env b).or σ (W0 T A env σ b)).holds K
def Wh(w:Bool)(a b:Prop):Prop:=(w=false->a)/\(w=true->b)
def AX{a b}:Wh true a b=b:=by simp[Wh]
def tH{a b}:Wh false a b=a:=by simp[Wh]
def tG{w w' a b}(h:w=w'):Wh w a b=Wh w' a b:=by rw[h]
def WX{b:Type}(x:Option b)(f:b->Prop):Prop:=match x with|none=>False|some a=>f a
def tF{α}{a:α}{f}:WX (some a) f=f a:=X3 rfl rfl
def tE{a:Type}{f:a->Prop}:WX none f=False:=rfl
def tD{α}{x a:Option α}{f}(h:x=a):WX x f=WX a f:=by rw[h]
def tC{K}{r r':Y1}(h:r=r'):r.holds K=r'.holds K:=by rw[h]
def or_congr{r r':Y4}{σ:Ρ}{s:Y1}(h:r=r'):r.or σ s=r'.or σ s:=by rw[h]
def run(P:Program)(T:ZY)(A:Z6)(nt:Nat)(ops:Y5):Z6->κ->Ρ->(κ->Ρ->Prop)->(XM)->Prop
 | [],env,σ,K,_=>K env σ
 | i::is,env,σ,K,E=>WX ops[i]? λb=>WA nt b=true/\WX (XE env ops b) λw=>
   Wh w (run P T A nt ops is (Zr b env .Zl) σ K E) (Md P T A env b σ (λa σ'=>run P T A nt ops is (Zr b env a) σ' K E) E)
def AW(P:Program)(T:ZY)(A:Z6)(nt:Nat)(ops:Y5)(is:Z6)(b:Oper)(env:κ)(K:κ->Ρ->Prop)(E:XM)(a:Ψ)(σ':Ρ):Prop:=run P T A nt ops is (Zr b env a) σ' K E
def QL{P T A nt ops env σ K E}:run P T A nt ops [] env σ K E=K env σ:=X3 rfl rfl
def Ι{P T A nt ops i is env σ K E} :
  run P T A nt ops (i::is) env σ K E=WX ops[i]? λa=>WA nt a=true/\WX (XE env ops a) λw=>
   Wh w (run P T A nt ops is (Zr a env .Zl) σ K E) (Md P T A env a σ (AW P T A nt ops is a env K E) E):=X3 U U
def AV{P T A nt ops is b env σ K E a}:AW P T A nt ops is b env K E a σ=run P T A nt ops is (Zr b env a) σ K E:=X3 rfl rfl
section
variable{P:Program}{T:ZY}{A:Z6}{m nt:Nat}{k:Zk}{env:κ}{σ:Ρ}{Z:Xv}{E:XM}{K:Ψ->Ρ->Prop}
def W.ZK{ops}(h:W P m nt k env σ Z E):W P m nt (.inRegion ops []::k) env σ Z E:=λd mn x cs b S B H t a c e f g=>.ZK a c (h d mn x cs b S B H t a c e f g)
def Ek(t:ZH P T){ops}(b):∀(is)(env)(σ),run P T A nt ops is env σ (λenv σ=>W P m nt (.inRegion ops b::k) env σ Z E) E->W P m nt (.inRegion ops (is++b)::k) env σ Z E:=by
 intro is
 induction is with
 | nil=>intro env σ h;exact h
 | cons i is j=>
  intro env σ h;unfold run WX at h;split at h
  .exact h.elim
  rename_i d e;let ⟨hd,h⟩:=h;split at h
  .exact h.elim
  rename_i w g;unfold Wh at h;cases w
  .exact .unwanted e g hd (j _ _ (h.1 U))
  replace h:=h.2 U
  unfold Md at h;split at h
  .rename_i f args C l;exact .call e g hd l (h.mono (λa s h=>j _ _ h) (λ_ _ h=>h))
  .rename_i y l;split at h
   .rename_i D a u;exact .panic e g l u h
   exact h.elim
  .exact h.elim
  rename_i F H v;refine .op (A:=A) t e g hd (λc x=>v c x) ?_;generalize (WH T A env d).or σ (W0 T A env σ d)=r at h;have B:∀r:Y1,r.holds (λa σ'=>run P T A nt ops is (Zr d env a) σ' (λenv σ=>W P m nt (.inRegion ops b::k) env σ Z E) E)->r.holds λa σ'=>W P m nt (.inRegion ops (is++b)::k) (Zr d env a) σ' Z E:=by
   intro r
   induction r with
   | ok a s=>exact λh=>j _ _ h
   | Zw p r o=>exact λh=>⟨h.1,o h.2⟩
   | all n f o=>exact λh i hi=>o i (h i hi)
   | bad=>exact λh=>h
  exact B r h
def Y1.tB{K K'}(c:∀a s,K a s->K' a s):∀r:Y1,r.holds K->r.holds K':=by
 intro r
 induction r with
 | ok a s=>exact λh=>c _ _ h
 | Zw p r b=>exact λh=>⟨h.1,b h.2⟩
 | all n f b=>exact λh i hi=>b i (h i hi)
 | bad=>exact λh=>h
def tA{env c K K'}(d:∀a s,K a s->K' a s)(h:Md P T A env c σ K E):Md P T A env c σ K' E:=by
 unfold Md at h ⊢;split
 .rename_i f args e b;rw[b]at h;exact Yi.mono h d λ_ _ h=>h
 .rename_i y b;rw[b]at h;exact h
 .rename_i b;rw[b]at h;exact h
 rename_i g i j;split at h
 .rename_i f args e b;exact absurd b (g f args e)
 .rename_i y b;exact absurd b (i y)
 .rename_i y b;exact absurd b (j y)
 exact Y1.tB d _ h
def GO{ops nt K K'}(f:∀e s,K e s->K' e s):∀(is)(env)(σ),run P T A nt ops is env σ K E->run P T A nt ops is env σ K' E:=by
 intro is
 induction is with
 | nil=>intro env σ h;exact f _ _ h
 | cons i is b=>
  intro env σ h;unfold run WX at h ⊢;cases c:ops[i]? with
  | none=>rw[c]at h;exact h.elim
  | some g=>
   rw[c]at h;simp only at h ⊢;refine⟨h.1,?_⟩
   replace h:=h.2
   cases d:XE env ops g with
   | none=>rw[d]at h;exact h.elim
   | some w=>
    rw[d]at h;unfold Wh at h ⊢;exact⟨λe=>b _ _ (h.1 e),λe=>tA (λa s=>b _ _) (h.2 e)⟩
def tz(a:ZH P T){ops}(is env σ)(h:run P T A nt ops is env σ (λenv σ=>W P m nt k env σ Z E) E):W P m nt (.inRegion ops is::k) env σ Z E:=by
 have:=Ek (A:=A) a [] is env σ (ops:=ops) (k:=k) (Z:=Z) (E:=E) (m:=m) (nt:=nt);rw[TM]at this;apply this;have b:∀(is)(env)(σ)(K K'),(∀e s,K e s->K' e s)->run P T A nt ops is env σ K E->run P T A nt ops is env σ K' E:=λis env σ K K' c h=>GO c is env σ h;exact b is env σ _ _ (λe s h=>.ZK h) h
def idx:Nat->Z6->Z6
 | 0,l=>l
 | n+1,l=>idx n (n::l)
def idx_eq(n):idx n []=List.range n:=by
 have:∀(n)(l),idx n l=List.range.loop n l:=by
  intro n
  induction n with
  | zero=>intro l;rfl
  | succ n a=>intro l;exact a _
 exact this n []
def ZB(e:ZH P T){id ops}(h:∀a,(∀env σ,W P m nt k env σ Z E->a env σ)->run P T A nt ops (idx ops.size []) env σ a E):W P m nt (.code (.region id ops false)::k) env σ Z E:=
 λf mn x cs b S B H t c d g i j=>.region c d (tz e _ _ _ (by rw[<-idx_eq];exact h _ λ_ _ h=>h) f mn x cs b S B H t c d g i j)
def W.forget(env')(d:∀p∈env',ε env p.1=p.2)(h:W P m nt k env' σ Z E):W P m nt k env σ Z E:=
 λf mn x cs b S B H t g j a n r=>by
 have s:∀(l),(∀p∈l,ε env p.1=p.2)->∀i,ε l i=.Zl\/ε l i=ε env i:=by
  intro l
  induction l with
  | nil=>intro _ i;exact .inl rfl
  | cons p l u=>
   intro c i;simp[ε];split
   .rename_i e;subst e;exact .inr (c p o).symm
   exact u (λq v=>c q (by simp[v])) i
 refine h f mn x cs b S B H t g j ⟨a.holds,λi=>?_,a.size,a.rows⟩ n r;rcases s env' d i with e|e
 .rw[e];exact .Zl _
 rw[e];exact a.Zt i
def W.P4(a:ZH P T)(env'){id ops}(h:W P m nt k env' σ Z E)(b:run P T A nt ops (idx ops.size []) env σ (λe s=>s=σ/\∀p∈env',ε e p.1=p.2) E):W P m nt (.code (.region id ops false)::k) env σ Z E:=
 ZB a λg c=>GO (λe s ⟨d,f⟩=>c e s (d▸W.forget env' f h)) _ _ _ b
def Ny(i:T1)(l:μ):Option Ψ:=if i.agg then(if i.size<=l.length then some (.Z' (l.take i.size)) else none) else l.head?
def Jv(T:ZY)(a:TypeId)(σ:Ρ):Ψ->Option Ψ
 | .Κ b=>match T a with|some i=>Ny i b|none=>none
 | .Ο id n i j=>match T a,σ[id]? with
  | some c,some (.cells _ _ l)=>if l.length=n then match l[i]? with
   | some e=>Ny c (e.cells.drop j)
   | none=>none else none
  | _,_=>none
 | _=>none
def Nx(T:ZY)(env:κ)(σ:Ρ):ResultVar->Option Ψ
 | .tmp t=>some (ε env t)
 | .cell a b=>Jv T b σ (ε env a)
def Ej:μ->Ψ
 | [a]=>a
 | l=>.Z7 l
def P3(T:ZY)(a:List ResultVar)(env:κ)(σ:Ρ):Option Ψ:=(a.mapM (Nx T env σ)).map Ej
def AU{i l v}(h:Ny i l=some v):P6 i l=.ok v:=by
 unfold Ny at h;unfold P6;cases b:i.agg with
 | true=>
  rw[b]at h;simp only[if_true]at h ⊢;split at h
  .rename_i c;cases h;rw[if_pos c]
  cases h
 | false=>
  rw[b]at h;simp at h ⊢;cases l with
  | nil=>cases h
  | cons a l=>cases h;rfl
def tx(o:ZH P T){S B H}(f:Holds S B σ H){ty a v w}(h:Jv T ty σ a=some v)(p:Θ S B σ a w):Zo P (do loadVar ty (<-asAddr w)) S B H σ (.ok v σ):=by
 unfold Jv at h;split at h
 .rename_i A;split at h
  .rename_i i hi;cases p with
   | Κ b C w c g=>
    have:=JK o f hi w (λj a s=>f.Za _ _ _ (c j a s)) g;rw[AU h]at this;exact this
  cases h
 .rename_i id n i j;split at h
  .rename_i D t k l hi m;split at h
   .rename_i E;split at h
    .rename_i e u;cases p with
     | Ο c g y=>
      rw[m]at c;cases c;let ⟨F,w,r⟩:=BD f m y u;have:=JK o f hi (λx=>w (j+x)) (λx a d=>⟨true,by
       rw[Vf]at d;rw[UJ];exact(r _ a d).1⟩) (λx a d=>by
       rw[Vf]at d;exact(r _ a d).2.1)
      rw[AU h]at this;exact this
     | Vo v c g=>rw[m]at c;cases c;simp[Row.W3]at g;omega
    cases h
   cases h
  cases h
 cases h
def Mc(I:ZH P T){fn a}(h:P3 T fn.results.toList env σ=some a){S B H t}(d:Holds S B σ H)(g:Y' S B σ env t) :
  Ω P (results fn t) H (λv H'=>∃c B',Ext S B H c B' H'/\ZC S c B B' σ σ/\Holds c B' σ H'/\Θ c B' σ a v) (λ_ _=>False):=by
 let f:ResultVar->Sem Value:=λr=>match r with
  | .tmp x=>pure (t.getD x undef)
  | .cell a D=>do loadVar D (<-asAddr (t.getD a undef))
 have J:∀(e:List ResultVar)(as9)(S)(B)(H),e.mapM (Nx T env σ)=some as9->Holds S B σ H->Y' S B σ env t->
   Ω P (e.mapM f) H (λvs H'=>∃c B',Ext S B H c B' H'/\ZC S c B B' σ σ/\Holds c B' σ H'/\as9.length=vs.length/\∀(i:Nat)(a)(v),as9[i]?=some a->vs[i]?=some v->Θ c B' σ a v) (λ_ _=>False):=by
  intro e
  induction e with
  | nil=>intro as9 S B H h d _;simp at h;subst h;exact Ω.pure' ⟨S,B,.refl _ _ _,.refl _ _ _,d,rfl,λi a v hi=>by simp at hi⟩
  | cons r e K=>
   intro as9 S B H h d g;rw[List.mapM_cons]at h ⊢;cases j:Nx T env σ r with
   | none=>rw[j]at h;cases h
   | some a=>
    rw[j]at h;simp at h;cases p:e.mapM (Nx T env σ) with
    | none=>rw[p]at h;cases h
    | some l2=>
     rw[p]at h;cases h;have step:Ω P (f r) H (λv H'=>∃c B',Ext S B H c B' H'/\ZC S c B B' σ σ/\Holds c B' σ H'/\Θ c B' σ a v) (λ_ _=>False):=by
      cases r with
      | tmp x=>simp[Nx]at j;subst j;exact Ω.pure' ⟨S,B,.refl _ _ _,.refl _ _ _,d,g x⟩
      | cell x D=>
       refine Ω.mono (λv H' ⟨c,B',σ',a',⟨k,s⟩,L,M,N,O⟩=>?_) (λ_ _ h=>h) _ (tx I d j (g x) (λa' Q=>a'=a/\Q=σ) ⟨U,U⟩);subst k;subst s;exact⟨c,B',L,N,M,O⟩
     refine Ω.bind' (Ω.mono (λv E ⟨u,w,y,l1,k,m⟩=>?_) (λ_ _ h=>h) _ step);refine Ω.bind' (Ω.mono (λvs Z ⟨R,V,Υ,F,s,W,X⟩=>?_) (λ_ _ h=>h) _ (K l2 u w E p k (g.later l1)));refine Ω.pure' ⟨R,V,y.trans Υ,l1.trans F,s,by simp[W],λi a' v' hi hv=>?_⟩
     match i with
     | 0=>simp at hi hv;subst hi;subst hv;exact m.later F
     | i+1=>simp at hi hv;exact X i a' v' hi hv
 unfold P3 at h;cases A:fn.results.toList.mapM (Nx T env σ) with
 | none=>rw[A]at h;cases h
 | some as9=>
  rw[A]at h;cases h;have Y:=J fn.results.toList as9 S B H A d g;unfold results;rw[Array.mapM_eq_mapM_toList];apply Ω.bind';refine Ω.bind (fn.results.toList.mapM f) (Ω.mono (λvs E ⟨u,w,y,l1,k,C,m⟩=>?_) (λ_ _ h=>h) _ Y);apply Ω.pure';refine Ω.pure' ⟨u,w,y,l1,k,?_⟩;by_cases n:vs.toArray.size=1
  .rw[dif_pos n];have o:vs.length=1:=by simpa using n
   obtain⟨v,rfl⟩:=E3.1 o;obtain⟨a,rfl⟩:=E3.1 (C.trans o);exact m 0 a v U U
  rw[dif_neg n];have o:as9.length≠1:=by rw[C];simpa using n
  have:Ej as9=.Z7 as9:=by
   match as9 with
   | []=>rfl
   | [a]=>simp at o
   | a::b::l=>rfl
  rw[this];exact .Z7 _ (by simpa using C) λi a v hi hv=>m i a v hi (by simpa using hv)
def entry:Nat->μ->κ
 | _,[]=>[]
 | i,a::as9=>(i,a)::entry (i+1) as9
def Ei{S B as9 vs}(h:XF S B σ as9 vs)(n):Y' S B σ (entry 0 as9) (vs++Array.replicate n undef):=by
 have f:∀(l)(j i),ε (entry j l) i=if j<=i then(l[i-j]?).getD .Zl else .Zl:=by
  intro l
  induction l with
  | nil=>intro j i;simp[entry,ε]
  | cons a l g=>
   intro j i;simp[entry,ε];by_cases e:j=i
   .subst e;simp
   rw[if_neg e,g];by_cases b:j<=i
   .rw[if_pos J,if_pos b];have:i-j=(i-(j+1))+1:=J;rw[this,List.getElem?_cons_succ]
   rw[if_neg J,if_neg b]
 intro i;rw[f,if_pos (Γ _),Nat.sub_zero];by_cases c:i<as9.length
 .have d:=ξ c;rw[d];have hv:i<vs.size:=by rw[<-h.1];exact c
  rw[Vv,Lr hv];exact h.2 i _ _ d (by rw[XV hv];rfl)
 rw[Wk J];exact .Zl _
def Ends(T:ZY)(b:List ResultVar)(K:Ψ->Ρ->Prop)(j:Zk)(env:κ)(σ:Ρ):Prop:=match j with
 | []=>∃a,P3 T b env σ=some a/\K a σ
 | .code .ret::_=>∃a,P3 T b env σ=some a/\K a σ
 | _=>False
def Ν.GN{F}(A:ZH P T){g fn body}(f:P.funcs[g]?=some fn)(o:fn.body=some body)(C:(fn.name == "runtime.NumGoroutine")=false){args}(Z:args.length<=fn.ntmps)
  (h:W P σ.length fn.ntmps [.code body] (entry 0 args) σ (Ends T fn.results.toList K) (λa _ s=>F a s)):Ν P g args σ K F:=by
 refine⟨⟨fn,f,C,by rw[o];rfl⟩,λp mn x c rest S B H vs b m hv r=>?_⟩;have i:∀{α}(l:List α),l.length=σ.length->l.take σ.length=l:=λl t=>Wl J;have D:Frame.enter P g vs .normal=χ (Frame.enter P g vs .normal) (vs++Array.replicate (fn.ntmps-vs.size) undef) [.code body]:=by
  simp[Frame.enter,χ,f,o]
 rw[D];have E:(vs++Array.replicate (fn.ntmps-vs.size) undef).size=fn.ntmps:=by
  have:=hv.1;simp;omega
 refine h p mn x (c::rest) _ S B H _ b U ⟨m,Ei hv _,E,Z3 _⟩ (λj env' σ' k B' H' t' u d e w t=>?_) (λa env' σ' k B' H' t' u v I e L _ M=>?_)
 .have n:ZC S k B B' σ σ':=by
   have:=e.later
   rwa [i B m.len,i σ U]at this
  have y:(∃a,P3 T fn.results.toList env' σ'=some a/\K a σ')->η P p mn x {χ (Frame.enter P g vs .normal) t' u with mode:=.returning} (c::rest) H':=λ⟨a,N,O⟩=>by
   refine .back b U U (.inl U) f ?_;refine Ω.mono (λv Q ⟨R,V,Υ,l2,X,Y⟩=>?_) (λ_ _ h=>h) _ (Mc A N w.holds w.Zt);exact r.ret a σ' R V Q v O (e.ext.trans Υ) (n.trans l2) X Y
  have:=t;subst this;unfold Ends at d;split at d
  .exact .QR b U U (y d)
  .exact .ret b U U (y d)
  exact d.elim
 have n:ZC S k B B' σ σ':=by
  have:=e.later
  rwa [i B m.len,i σ U]at this
 refine .raised b U U ?_ (r.KN a σ' k B' H' v I e.ext n L M);simp[Frame.catches,χ,Frame.enter,f]
end
section
variable{P:Program}{S YE:ζ}{B:ZZ}{H H':Φ}{σ:Ρ}
def Θ.take{h:Nat}{a:Ψ}{v:Value}(t:Θ S B σ a v)(d:ω h a):Θ S (B.take h) (σ.take h) a v:=by
 have k:∀{u:Type}(l:List u)(i:Nat),i<h->(l.take h)[i]?=l[i]?:=λl i hi=>UK hi
 induction t with
 | z v=>exact .z v
 | Κ b p w f _ m=>
  cases d with
  | Κ d=>exact .Κ b p w f λj a n=>m j a n (d a (ZD n))
 | WI base cap h=>exact .WI base cap h
 | sl b p cap w f g o r _ m=>
  cases d with
  | sl d=>exact .sl b p cap w f g o r λi e hi j c n=>m i e hi j c n (d e (ZD hi) c (ZD n))
 | Z' vs f _ m=>
  cases d with
  | Z' d=>exact .Z' vs f λi a v hi hv=>m i a v hi hv (d a (ZD hi))
 | Z7 vs f _ m=>
  cases d with
  | Z7 d=>exact .Z7 vs f λi a v hi hv=>m i a v hi hv (d a (ZD hi))
 | Ο f g o=>
  cases d with
  | Ο d=>exact .Ο (by rw[k _ _ d];exact f) g (by rw[k _ _ d];exact o)
 | Vo v f g s=>
  cases d with
  | Ο d=>exact .Vo v (by rw[k _ _ d];exact f) g s
 | ms cap f g o r x y=>
  cases d with
  | ms d=>exact .ms cap (by rw[k _ _ d];exact f) g (by rw[k _ _ d];exact o) r x y
 | VP v f g s=>
  cases d with
  | ms d=>exact .VP v (by rw[k _ _ d];exact f) g s
 | fn vs A f g _ _ C D=>
  cases d with
  | fn E F=>exact .fn vs A f g (λi a v hi hv=>C i a v hi hv (E a (ZD hi))) λi a v hi hv=>D i a v hi hv (F a (ZD hi))
 | W4 v _ m=>
  cases d with
  | W4 d=>exact .W4 v (m d)
 | mp f g=>
  cases d with
  | mp d=>exact .mp (by rw[k _ _ d];exact f) (by rw[k _ _ d];exact g)
 | TI v f=>
  cases d with
  | mp d=>exact .TI v (by rw[k _ _ d];exact f)
 | it f g=>
  cases d with
  | it d=>exact .it (by rw[k _ _ d];exact f) (by rw[k _ _ d];exact g)
 | R8 f g=>
  cases d with
  | it d=>exact .R8 (by rw[k _ _ d];exact f) (by rw[k _ _ d];exact g)
 | S8 v f=>
  cases d with
  | it d=>exact .S8 v (by rw[k _ _ d];exact f)
 | Zl v=>exact .Zl v
def Θ.any{a:Ψ}{v:Value}(b:Θ S B σ a v)(c:ω 0 a)(d:ZZ)(e:Ρ):Θ S d e a v:=by
 have f:Θ S [] [] a v:=by simpa using b.take c
 exact f.later ⟨λ_ _ _ h=>h,λid r h=>by simp at h⟩
def Holds.bare(a:Holds S B σ H):Holds S [] [] H:=
 ⟨a.Za,U,λid r bo h=>by simp at h,λi j c d b e f g h=>by simp at h,λid r b N h=>by simp at h⟩
def Holds.back(a:Holds S B σ H)(c:Ext S [] H YE [] H')(t:Holds YE [] [] H'):Holds YE B σ H'/\Ext S B H YE B H'/\ZC S YE B B σ σ:=by
 have o:ZC S YE B B σ σ:=⟨c.Za,λid r h=>⟨r,h,r.Sv _⟩⟩
 have j:∀b,¬ZZ.has ([]:ZZ) b:=λb ⟨N,h⟩=>by simp at h
 have p:∀(id:Nat)(r:Row)(b N:Nat),σ[id]?=some r->r.live->B[id]?=some (some (b,N))->UY H H' b:=λid r b N l k s=>(c.XU b (j b) (a.RE l k s)).P8 λd=>a.sep id r b N l k s d;refine⟨⟨t.Za,a.len,λid r bo f g=>?_,a.inj,λid r b N f i g d=>?_⟩,⟨c.Za,λb _ u=>c.XU b (j b) u,λb n=>.inl n,λb d v hv=>?_,c.grow⟩,o⟩
 .by_cases i:r.live
  .refine(a.row id r bo f g).later o (λb N e=>p id r b N f i (by rw[g,e])) λm left w e=>?_;subst e;obtain⟨_,_,x,y,xs,A,seen,_,l,⟨es,k⟩,_⟩:=a.row id _ bo f g;exact⟨U,U,λb N n=>p m _ b N k trivial n⟩
  cases r<;>first|exact absurd trivial i|trivial
 .cases hv:YE b d with
  | none=>rfl
  | some v=>
   rcases c.S6 b d v hv with h|h|h
   .rw[a.sep id r b N f i g d]at h;cases h
   .exact absurd h (j b)
   exact absurd h (a.RE f i g)
 rcases c.S6 b d v hv with h|h|h
 .exact .inl h
 .exact absurd h (j b)
 exact .inr (.inr h)
def Ν.frame{g:FuncId}{args:μ}{K E:Ψ->Prop}(h:Ν P g args [] (λa s=>K a/\ω 0 a/\s=[]) (λa s=>E a/\ω 0 a/\s=[]))(t:∀a∈args,ω 0 a):Ν P g args σ (λa s=>K a/\s=σ) (λa s=>E a/\s=σ):=by
 refine⟨h.1,λu mn x c rest S B H vs w j hv k=>?_⟩;refine h.2 u mn x c rest S [] H vs w j.bare ⟨hv.1,λi a v l y=>(hv.2 i a v l y).any (t a (ZD l)) _ _⟩ ⟨λa σ' YE B' H' v ⟨b,d,m⟩ n A e f=>?_,λa σ' YE B' H' v ⟨b,d,m⟩ n A e f=>?_⟩
 all_goals
  subst m;have C:B'=[]:=YY.1 (by rw[e.len];rfl);subst C;obtain⟨o,p,r⟩:=j.back n e
 .exact k.ret a σ YE B H' v ⟨b,U⟩ p r o (f.any d _ _)
 exact k.KN a σ YE B H' v ⟨b,U⟩ p r o (f.any d _ _)
def Nw(P:Program)(g:FuncId)(args:μ)(r:Ψ):Prop:=Ν P g args [] (λa s=>a=r/\s=[]) (λ_ _=>False)
def Nw.call{g:FuncId}{first args captured:μ}{r:Ψ}{K E:Ψ->Ρ->Prop}(h:Nw P g (first++args++captured) r)(c:∀a∈first++args++captured,ω 0 a)(d:ω 0 r)(e:K r σ) :
  Yi P (.fn (.func g) first captured) args σ K E:=by
 have f:Ν P g (first++args++captured) [] (λa s=>a=r/\ω 0 a/\s=[]) (λa s=>False/\ω 0 a/\s=[]):=h.mono (λa s ⟨b,Υ⟩=>⟨b,b▸d,Υ⟩) (λ_ _ h=>h.elim);exact Ν.call ((f.frame (σ:=σ) c).mono (λa s ⟨b,Υ⟩=>by subst b;subst Υ;exact e) (λ_ _ h=>h.1.elim))
end
def tw{h:Nat}{v:Value}:ω h (.z v)↔True:=⟨λ_=>trivial,λ_=>.z v⟩
def tv{h:Nat}:ω h .Zl↔True:=⟨λ_=>trivial,λ_=>.Zl⟩
def GM{h:Nat}{l:μ}:ω h (.Κ l)↔∀a∈l,ω h a:=⟨λx=>by cases x;assumption,.Κ⟩
def tu{h:Nat}{l:μ}:ω h (.Z' l)↔∀a∈l,ω h a:=⟨λx=>by cases x;assumption,.Z'⟩
def tt{h:Nat}{l:μ}:ω h (.Z7 l)↔∀a∈l,ω h a:=⟨λx=>by cases x;assumption,.Z7⟩
def TY{h:Nat}{ex:Bool}{k:Nat}{l:μ}:ω h (.sl ex k l)↔∀e∈l,∀a∈e.cells,ω h a:=⟨λx=>by cases x;assumption,.sl⟩
def ts{h:Nat}{t:TypeId}{a:Ψ}:ω h (.W4 t a)↔ω h a:=⟨λx=>by cases x;assumption,.W4⟩
def S3{h id n i j:Nat}:ω h (.Ο id n i j)↔id<h:=⟨λx=>by cases x;assumption,.Ο⟩
def S2{h id n i j:Nat}:ω h (.ms id n i j)↔id<h:=⟨λx=>by cases x;assumption,.ms⟩
def GL{h id:Nat}:ω h (.mp id)↔id<h:=⟨λx=>by cases x;assumption,.mp⟩
def Eh{h id:Nat}:ω h (.it id)↔id<h:=⟨λx=>by cases x;assumption,.it⟩
def Su{h:Nat}{f:Fn}{b cs:μ}:ω h (.fn f b cs)↔(∀a∈b,ω h a)/\∀a∈cs,ω h a:=⟨λx=>by cases x;exact⟨by assumption,by assumption⟩,λx=>.fn x.1 x.2⟩
end Go.TL
