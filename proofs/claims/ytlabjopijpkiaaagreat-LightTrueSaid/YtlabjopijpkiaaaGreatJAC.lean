import Derived.Test.YtlabjopijpkiaaaGreatJAB
set_option maxHeartbeats 16000000
set_option maxRecDepth 20000
set_option linter.unusedSectionVars false
set_option linter.unusedSimpArgs false
set_option linter.unusedVariables false
namespace Go.TL
open Go.Conc
open Go.ConcM (OsLater)
open Go.ConcN (sumTo upd sumTo_upd upd_ne upd_same sumTo_congr le_sumTo)
open Go.ConcR (mk)
theorem J' {B:Type} {f:Nat->B} {k:Nat} {x:B} (h:f k=x):upd f k x=f:=by
 funext j
 by_cases e:j=k
 .subst e;rw[upd_same,h]
 .rw[upd_ne _ _ e]
theorem VG (H:Y5->Χ) (i:Nat) (G:Χ) (b:Nat):Zz H (.inl i) G (.inr b)=H (.inr b):=Zy H G I
theorem On (tok:Nat->Nat->Tok) (i s:Nat) (t:Tok):Zp tok i s t i=upd (tok i) s t:=by unfold Zp;rw[upd_same]
theorem P' {tok:Nat->Nat->Tok} {i s j:Nat} (t:Tok) (h:j≠i):Zp tok i s t j=tok j:=by unfold Zp;rw[upd_ne _ _ h]
theorem TR {B:Type} {a:Array B} {k:Nat} {x:B} (h:a[k]?=some x):k<a.size:=(TY.1 h).1
theorem ofEvents_g {i:Nat} {fn:FuncId} {pos:String} {es:Array Event}:∀a∈MemOp.ofEvents i fn pos es,a.g=i:=λa b=>by obtain⟨e,_,rfl⟩:=Go.Conc.mem_ofEvents b;rfl
theorem EE {i:Nat} {fn:FuncId} {pos:String}:MemOp.ofEvents i fn pos #[]=#[]:=by rw[ofEvents_eq];simp
theorem zT (t:Trace) (i:Nat) (fn:FuncId) (pos:String) (es:Array Event) {j:Nat} (b:j<=es.size):(t++MemOp.ofEvents i fn pos es).deaf i (t.size+j)=deafBehind (Deaf t i) (es.extract 0 j):=by
 have e:t++MemOp.ofEvents i fn pos es=(t++MemOp.ofEvents i fn pos (es.extract 0 j))++MemOp.ofEvents i fn pos (es.extract j es.size):=by
  rw[OM];congr 1;rw[ofEvents_eq,ofEvents_eq,ofEvents_eq,<-Array.map_append];congr 1;simp only[Array.extract_append_extract];rw[show max j es.size=es.size by omega];simp
 have a:(t++MemOp.ofEvents i fn pos (es.extract 0 j)).size=t.size+j:=by rw[Array.size_append,ofEvents_eq];simp;omega
 rw[e,deaf_old U,<-a];exact Deaf_own t i fn pos _
theorem Hw {t u:Trace} {k:Nat} (c:t.size<=k) (d:(t++u).counts k):∃a,u[k-t.size]?=some a/\(t++u)[k]?=some a/\∃x,a.act.touch?=some x/\x.loc.isMemory=true/\(x.kind≠.atomic\/(t++u).heard k):=by
 obtain⟨x,e,f,g⟩:=d;obtain⟨a,b,h⟩:=touch_of (t:=t++u) (i:=k) e;exact⟨a,by rw[KL c] at b;exact b,b,x,h,f,g⟩
theorem Nw {t u:Trace} (h:∀a∈u,a.act.touch?=none):∀k,t.size<=k->¬(t++u).counts k:=λk c d=>by
 obtain⟨a,e,_,x,b,_⟩:=Hw c d;rw[h a (mem_of_getElem? e)] at b;cases b
theorem zS {t:Trace} {i:Nat} {fn:FuncId} {pos:String} {es:Array Event} (h:∀e∈es,Kf e):∀k,t.size<=k->¬(t++MemOp.ofEvents i fn pos es).counts k:=λk c d=>by
 obtain⟨l,f,_,x,b,g,_⟩:=Hw c d;obtain⟨e,j,rfl⟩:=Go.Conc.mem_ofEvents (mem_of_getElem? f);obtain⟨m,wr,n⟩:=e;rcases h _ j with a|a<;>simp only at a<;>subst a<;>simp[MemAct.ofEvent,MemAct.touch?] at b;subst b;simp[Loc.isMemory] at g
theorem J9 {s d i:Nat} {sp:Spec} {es:Array Event} {fn:FuncId} {pos:String} (h:Sm s sp d es) {c:MemOp} (g:c∈MemOp.ofEvents i fn pos es) :
  (c.act=.mark .disable\/c.act=.mark .enable)\/∃b f wr,c.act=.access ⟨.cell ⟨b,f,none⟩,wr,true⟩/\X9 s sp b:=by
 obtain⟨e,k,rfl⟩:=Go.Conc.mem_ofEvents g;obtain⟨j,l⟩:=KD.1 k;obtain⟨n,wr,o⟩:=e;rcases h.2 j _ l with a|a|⟨b,f,p,a,m,_⟩
 .simp only at a;subst a;exact .inl (.inl rfl)
 .simp only at a;subst a;exact .inl (.inr rfl)
 .cases a;exact .inr ⟨b,f,_,rfl,m⟩
theorem zR {t:Trace} {s i:Nat} {sp:Spec} {fn:FuncId} {pos:String} {es:Array Event} (h:Sm s sp (Deaf t i) es):∀k,t.size<=k->¬(t++MemOp.ofEvents i fn pos es).counts k:=λk m n=>by
 obtain⟨u,f,o,x,c,v,d⟩:=Hw m n;rw[ofEvents_eq,Py] at f;obtain⟨e,j,rfl⟩:=Ts.1 f;have p:k-t.size<es.size:=TR j;obtain⟨w,wr,y⟩:=e;rcases h.2 _ _ j with a|a|⟨b,A,B,a,C,hd⟩
 .simp only at a;subst a;simp[MemAct.ofEvent,MemAct.touch?] at c
 .simp only at a;subst a;simp[MemAct.ofEvent,MemAct.touch?] at c
 .cases a;simp[MemAct.ofEvent,MemAct.touch?] at c;subst c;rcases d with d|⟨g,l,r⟩
  .exact d rfl
  .simp[Trace.g?,o] at l;subst l;have:=zT t i fn pos es (Sr p);rw[show t.size+(k-t.size)=k by omega] at this;rw[this] at r;omega
section
variable {P:Program} {Q:Value->Prop} {ZC:World} {c c':YQ} {gs:Array Goroutine} {w w':World} {t:Trace} {i:Nat} {g g':Goroutine} {es:Array Event}
theorem Inv.low (h:Inv P Q ZC c gs w t) {s b:Nat} {o:ε} (a:c.O s=some o) (hb:X9 s o.toSpec b):b<w.heap.size:=by
 obtain⟨⟨g,d⟩,e⟩:=h.mem.Xf s o a;rcases hb with rfl|hb
 .exact Xi d
 .obtain⟨i,f⟩:=e b hb;exact Xi f
theorem Inv.obj (h:Inv P Q ZC c gs w t) {s:Nat} (a:c.tok i s≠.nil):∃o,c.O s=some o:=by
 cases b:c.O s with
 | none=>exact absurd (h.Za.bare s b i) a
 | some o=>exact⟨o,rfl⟩
theorem VH.grow {H:Y5->Χ} {a:Nat->Nat->Option (Array Value×TypeId)} {tok:Nat->Nat->Tok} {b:Nat->Option ε} {c d:Nat->Nat} {N e:Nat} (h:VH H a tok b c d N t) (f:N<=e):VH H a tok b c d e t:=
 ⟨h.race,λg i=>MemAct.low_mono f (h.low g i),h.norel,h.perms,h.Sl,h.cont,h.hears⟩
theorem Nz.app {i l:Nat->Nat->Option (Array Value×TypeId)} {tok n:Nat->Nat->Tok} {r O':Nat->Option ε} {w:Nat->Bool} {x:Nat->Nat} {u:Trace} {N:Nat} (h:Nz i tok r w x t) (A:∀a∈t,a.act.low N)
  (y:∀a∈u,∀b,a.act≠.mark (.releaseMerge ⟨b,0,none⟩)) (hv:∀j b v,l j b=some v->(∃f,i j b=some f)\/N<=b) (B:∀s o',O' s=some o'->∃o,r s=some o/\o.ZO=o'.ZO)
  (C:∀j s k d g,tok j s=.ch k d g->∃k d g,n j s=.ch k d g):Nz l n O' w x (t++u):=by
 refine⟨λs o' m D E p a F c=>?_,λj b v H a I c=>?_⟩
 .obtain⟨o,J,K⟩:=B s o' D;rcases getElem?_append_cases F with⟨_,L⟩|⟨_,M⟩
  .obtain⟨⟨k,d,g,O⟩,P⟩:=h.Ot s o m J (by rw[K];exact E) p a L c;exact⟨C _ _ _ _ _ O,λQ=>(P Q).app u⟩
  .exact absurd c (y a M m)
 .rcases Ss.1 I with e|e
  .rcases hv j b v H with⟨f,R⟩|hle
   .exact h.Oq j b f R a e c
   .have:=A a e;rw[c] at this;simp only[MemAct.low] at this;omega
  .exact y a e b c
theorem NA.L' {H H':Y5->Χ} {tok:Nat->Nat->Tok} {c:Nat->Option ε} (h:NA H tok c) (f:∀b,H' (.inr b)=H (.inr b)):NA H' tok c:=
 ⟨λs o m a b d e=>by rw[f];exact h.RH s o m a b d e,λs o a b=>by rw[f];exact h.Se s o a b⟩
theorem Inv.laid (h:Inv P Q ZC c gs w t) (l:gs[i]?=some g) {u:Trace}
  (mem:WE c'.H c'.Z3 c'.O ZC w') (hold:VW c'.H c'.Z3 c'.O ZC.heap.size) (Zu:VH c'.H c'.Z3 c'.tok c'.O c'.Zs c'.deaf w'.heap.size (t++u))
  (Za:XT gs.size c'.tok c'.spec c'.view c'.rel c'.O c'.Zs c'.home) (X2:NA c'.H c'.tok c'.O) (Ye:Ou gs.size c'.tok c'.rel c'.Zs c'.home c'.XM (t++u)) (WC:Nz c'.Z3 c'.tok c'.O c'.rel c'.XM (t++u))
  (m:Rec P Q c' i g') (k:∀j,j≠i->c'.x j=c.x j/\c'.T j=c.T j)
  (d:(mayWake P g=true/\VI g')\/∀j s o,j≠i->c.O s=some o->U1 o (c.tok j s)->∃o',c'.O s=some o'/\U1 o' (c.tok j s)) :
  Inv P Q ZC c' ((gs.map (woken P g g' w')).setIfInBounds i g') w' (t++u):=by
 have f:((gs.map (woken P g g' w')).setIfInBounds i g').size=gs.size:=I
 have n:i<gs.size:=TR l;refine⟨by rw[f];exact h.pos,mem,hold,Zu,by rw[f];exact Za,X2,by rw[f];exact Ye,WC,λj b a=>?_⟩;by_cases e:j=i
 .subst e;rw[Tv (by simpa using n)] at a;cases a;exact m
 .rw[UR (YR e),Py] at a;obtain⟨p,r,rfl⟩:=Ts.1 a;exact(h.Oo j p r).woken (i:=0) (k j e).1 (k j e).2 (d.imp id λd s o v y=>d j s o e v y)
def V6 (P:Program) (Q:Value->Prop) (ZC:World) (c:YQ) (gs:Array Goroutine) (w:World) (t:Trace) (i:Nat) (f:Bool×Goroutine×ZZ->W7 (Bool×Goroutine×ZZ)):Prop:=
 ∀sl,∃c' a w' u,runT P (crowd gs w sl) i=(.next (crowd a w' sl),u)/\Inv P Q ZC c' a w' (t++u)/\
  ((a.size=gs.size/\∃k,c'.T=upd c.T i (f k))\/(a.size=gs.size+1/\∃k b,c'.T=upd (upd c.T i (f k)) gs.size (f b))\/(a.size=gs.size/\c'.T=c.T/\Ny a<Ny gs))
def J8 (P:Program) (Q:Value->Prop) (ZC:World) (c:YQ) (gs:Array Goroutine) (w:World) (t:Trace) (i:Nat) (f:Bool×Goroutine×ZZ->W7 (Bool×Goroutine×ZZ)):Prop:=
 ∃c',Inv P Q ZC c' gs w t/\∃k,c'.T=upd c.T i (f k)
abbrev Uh (P:Program) (Q:Value->Prop) (f:Bool×Goroutine×ZZ->W7 (Bool×Goroutine×ZZ)):Mf:=λa g' b=>Vg P Q (f (a,g',b)) a g' b
theorem V6.go {f:Bool×Goroutine×ZZ->W7 (Bool×Goroutine×ZZ)} (a:gs[i]?=some g) (b:stepG P (i==0) g w=.go g' w' es)
  (h:Inv P Q ZC c' ((gs.map (woken P g g' w')).setIfInBounds i g') w' (t++MemOp.ofEvents i g.frame.fn g.frame.place es)) (k:Bool×Goroutine×ZZ) (d:c'.T=upd c.T i (f k)):V6 P Q ZC c gs w t i f:=
 λ_=>⟨c',_,w',_,runT_crowd_go a b,h,.inl ⟨I,k,d⟩⟩
variable {f:Bool×Goroutine×ZZ->W7 (Bool×Goroutine×ZZ)}
theorem Inv.Hz (h:Inv P Q ZC c gs w t) (u:gs[i]?=some g) (I:EV P (i==0) (Uh P Q f) g (c.x i)):V6 P Q ZC c gs w t i f:=by
 have p:=I w (h.mem.fit (.inl i)) (h.mem.TT i);cases l:stepG P (i==0) g w with
 | go g' w' es=>
  rw[l] at p;obtain⟨G',V',Y,B,J,K,C,y,D,L,M⟩:=p;have N:i<gs.size:=TR u;have E:∀e∈es,Wq (c.H (.inl i)) w.heap.size w'.heap.size e:=λe n=>by
   have:=D e n;split at this
   .exact this.Hz
   .exact this
  have O:∀j,j≠i->({c with H:=Zz c.H (.inl i) G',Z3:=upd c.Z3 i V',T:=upd c.T i (f (i==0,g',{c.x i with G:=G',Z3:=V'}))}:YQ).x j=c.x j:=λj d=>by
   have:(Sum.inl j:Y5)≠.inl i:=λe=>d (by cases e;rfl);simp[YQ.x,Zy _ _ this,upd_ne _ _ d]
  refine V6.go (c':={c with H:=Zz c.H (.inl i) G',Z3:=upd c.Z3 i V',T:=upd c.T i (f (i==0,g',{c.x i with G:=G',Z3:=V'}))}) u l ?_ _ rfl;refine h.laid u (h.mem.own h.hold i B J K rfl) (h.hold.own h.mem h.mem.keep.size i C y) (h.Zu.own h.mem h.hold i B.size C y E L) h.Za ?_ ?_ ?_ ?_ (λj d=>⟨O j d,upd_ne _ _ d⟩) (.inr λj s o _ a b=>⟨o,a,b⟩)
  .exact h.X2.L' λb=>VG c.H i G' b
  .refine h.Ye.app N ofEvents_g (λR=>zS λe n=>?_) (λ_ _ _ x=>x) (λ_ _ _ _ x=>x);have:=D e n;have S:(c.x i).rel=true:=R;simpa only[S,if_true] using this
  .refine h.WC.app h.Zu.low (λZ U b A=>?_) (λj b v hv=>?_) (λs o' l=>⟨o',l,rfl⟩) (λj s k V g e=>⟨k,V,g,e⟩)
   .obtain⟨e,n,rfl⟩:=Go.Conc.mem_ofEvents U;have F:=E e n;obtain⟨W,wr,X⟩:=e;cases W with
    | mark m=>simp only[Wq] at F;subst F;simp[MemAct.ofEvent] at A
    | obj r=>cases wr<;>cases X<;>simp[MemAct.ofEvent] at A
    | _=>simp[MemAct.ofEvent] at A
   .replace hv:upd c.Z3 i V' j b=some v:=hv
    by_cases d:j=i
    .subst d;rw[upd_same] at hv;exact(y b v hv).imp (λx=>⟨v,x⟩) (λx=>x.1)
    .rw[upd_ne _ _ d] at hv;exact .inl ⟨v,hv⟩
  .refine⟨g',?_,.inl rfl⟩;have e:({c with H:=Zz c.H (.inl i) G',Z3:=upd c.Z3 i V',T:=upd c.T i (f (i==0,g',{c.x i with G:=G',Z3:=V'}))}:YQ).x i={c.x i with G:=G',Z3:=V'}:=by
    simp[YQ.x,upd_same]
   rw[e];show Vg P Q (upd c.T i (f (i==0,g',{c.x i with G:=G',Z3:=V'})) i) _ _ _;rw[upd_same];exact M
 | _=>rw[l] at p;exact p.elim
theorem WE.L' {H:Y5->Χ} {a:Nat->Nat->Option (Array Value×TypeId)} {b O':Nat->Option ε} (h:WE H a b ZC w) (e:O'=b):WE H a O' ZC w:=e▸h
theorem Inv.marked (h:Inv P Q ZC c gs w t) (u:gs[i]?=some g) {m:Mark} (B:m=.disable\/m=.enable) {d:Nat} (hd:d=deafBehind (c.deaf i) #[Go.ConcR.mk m]) (y:stepG P (i==0) g w=.go g' w #[Go.ConcR.mk m])
  (E:Uh P Q f (i==0) g' {c.x i with deaf:=d}):V6 P Q ZC c gs w t i f:=by
 have F:i<gs.size:=TR u
 have nt:∀l∈MemOp.ofEvents i g.frame.fn g.frame.place #[Go.ConcR.mk m],l.act.touch?=none:=λl n=>by
  obtain⟨e,p,rfl⟩:=Go.Conc.mem_ofEvents n;simp at p;subst p;rcases B with rfl|rfl<;>rfl
 have A:∀l∈MemOp.ofEvents i g.frame.fn g.frame.place #[Go.ConcR.mk m],l.act=.mark .disable\/l.act=.mark .enable:=λl n=>by
  obtain⟨e,p,rfl⟩:=Go.Conc.mem_ofEvents n;simp at p;subst p;rcases B with rfl|rfl
  .exact .inl rfl
  .exact .inr rfl
 refine V6.go (c':={c with deaf:=upd c.deaf i d,T:=upd c.T i (f (i==0,g',{c.x i with deaf:=d}))}) u y ?_ _ rfl;refine h.laid u h.mem h.hold ?_ h.Za h.X2 ?_ ?_ ⟨g',?_,.inl rfl⟩ (λj C=>⟨by simp[YQ.x,upd_ne _ _ C],upd_ne _ _ C⟩) (.inr λj s o _ a b=>⟨o,a,b⟩)
 .refine h.Zu.ext h.hold i ofEvents_g (λl n=>?_) (λl n a D=>?_) (λl n b r=>?_) (λj=>?_)
  .rcases A l n with e|e<;>rw[e]<;>trivial
  .rcases A l n with e|e<;>rw[e] at D<;>cases D
  .rw[nt l n] at r;cases r
  .by_cases e:j=i
   .subst e;rw[Deaf_own,h.Zu.hears,hd];exact(upd_same ..).symm
   .rw[Deaf_other t (YR e) _ ofEvents_g,h.Zu.hears];exact(upd_ne _ _ e).symm
 .exact h.Ye.app F ofEvents_g (λ_=>Nw nt) (λ_ _ _ x=>x) (λ_ _ _ _ x=>x)
 .refine h.WC.app h.Zu.low (λl n b r=>?_) (λj b v hv=>.inl ⟨v,hv⟩) (λs o' y=>⟨o',y,rfl⟩) (λj s k H g e=>⟨k,H,g,e⟩);rcases A l n with e|e<;>rw[e] at r<;>cases r
 .have e:({c with deaf:=upd c.deaf i d,T:=upd c.T i (f (i==0,g',{c.x i with deaf:=d}))}:YQ).x i={c.x i with deaf:=d}:=by
   simp[YQ.x,upd_same]
  rw[e];show Vg P Q (upd c.T i (f (i==0,g',{c.x i with deaf:=d})) i) _ _ _;rw[upd_same];exact E
theorem Inv.zQ (h:Inv P Q ZC c gs w t) (e:gs[i]?=some g) (a:EU P (i==0) (Uh P Q f) g (c.x i)):V6 P Q ZC c gs w t i f:=by
 obtain⟨g',_,a|⟨_,a⟩⟩:=a
 .obtain⟨b,d⟩:=a w (h.mem.fit (.inl i));exact h.marked e (.inl rfl) (by rfl) b d
 .obtain⟨b,d⟩:=a w (h.mem.fit (.inl i));exact h.marked e (.inr rfl) (by rfl) b d
theorem Inv.zP (h:Inv P Q ZC c gs w t) (y:gs[i]?=some g) (I:ET P (i==0) (Uh P Q f) g (c.x i)):V6 P Q ZC c gs w t i f:=by
 obtain⟨s,n,p,B,g',r,wr,J,U,K,V,L⟩:=I;have M:i<gs.size:=TR y;obtain⟨A,N⟩:=L w (h.mem.fit (.inl i));have C:c.tok i s=.par n p B:=J;obtain⟨o,D⟩:=h.obj (i:=i) (s:=s) (by rw[C];simp);have O:c.rel i=false:=K;have u:∀d∈MemOp.ofEvents i g.frame.fn g.frame.place #[Go.ConcR.mk (if wr then .write ⟨s,r,none⟩ else .read ⟨s,r,none⟩)],d.act=.mark (if wr then .write ⟨s,r,none⟩ else .read ⟨s,r,none⟩):=λd l=>by
  obtain⟨e,E,rfl⟩:=Go.Conc.mem_ofEvents l;simp at E;subst E;rfl
 refine V6.go (c':={c with T:=upd c.T i (f (i==0,g',c.x i))}) y A ?_ _ rfl;refine h.laid y h.mem h.hold ?_ h.Za h.X2 ?_ ?_ ⟨g',?_,.inl rfl⟩ (λj R=>⟨rfl,upd_ne _ _ R⟩) (.inr λj s o _ a b=>⟨o,a,b⟩)
 .refine h.Zu.ext h.hold i ofEvents_g (λd l=>?_) (λd l a F=>?_) (λd l b m=>?_) (λj=>?_)
  .rw[u d l];have:=h.low D (.inl rfl);cases wr<;>exact this
  .rw[u d l] at F;cases wr<;>cases F
  .rw[u d l] at m;refine⟨s,o,s,r,D,.inl rfl,?_⟩;cases wr<;>simp[MemAct.touch?] at m<;>subst m<;>exact⟨rfl,.inr ⟨rfl,h.Za.par i s n p B C⟩⟩
  .by_cases e:j=i
   .subst e;rw[Deaf_own,h.Zu.hears];cases wr<;>rfl
   .rw[Deaf_other t (YR e) _ ofEvents_g,h.Zu.hears]
 .exact h.Ye.app M ofEvents_g (λH=>by rw[O] at H;cases H) (λ_ _ _ x=>x) (λ_ _ _ _ x=>x)
 .refine h.WC.app h.Zu.low (λd l b m=>?_) (λj b v hv=>.inl ⟨v,hv⟩) (λs o' A=>⟨o',A,rfl⟩) (λj s k S g e=>⟨k,S,g,e⟩);rw[u d l] at m;cases wr<;>cases m
 .show Vg P Q (upd c.T i (f (i==0,g',c.x i)) i) _ _ _;rw[upd_same];exact N
theorem Inv.quits (h:Inv P Q ZC c gs w t) (p:gs[i]?=some g) (D:EM P (i==0) (Uh P Q f) g (c.x i)):V6 P Q ZC c gs w t i f:=by
 obtain⟨E,K,L,M,g',es,A,r,F⟩:=D;have H:i<gs.size:=TR p;have nt:∀d∈MemOp.ofEvents i g.frame.fn g.frame.place es,d.act.touch?=none:=λd l=>by
  obtain⟨e,u,rfl⟩:=Go.Conc.mem_ofEvents l;exact touch_mute (A e u)
 have y:∀d∈MemOp.ofEvents i g.frame.fn g.frame.place es,d.act=.mark .disable\/d.act=.mark .enable:=λd l=>by
  obtain⟨⟨I,wr,N⟩,u,rfl⟩:=Go.Conc.mem_ofEvents l;have:=A _ u;cases I<;>simp[Event.mute] at this;rename_i m;cases m<;>simp_all [MemAct.ofEvent]
 refine V6.go (c':={c with deaf:=upd c.deaf i (deafBehind (c.deaf i) es),T:=upd c.T i (f (i==0,g',{c.x i with deaf:=deafBehind (c.x i).deaf es}))}) p (by rw[E];exact r w) ?_ _ rfl;refine h.laid p h.mem h.hold ?_ h.Za h.X2 ?_ ?_ ⟨g',?_,.inl rfl⟩ (λj B=>⟨by simp[YQ.x,upd_ne _ _ B],upd_ne _ _ B⟩) (.inr λj s o _ a b=>⟨o,a,b⟩)
 .refine h.Zu.ext h.hold i ofEvents_g (λd l=>?_) (λd l a C=>?_) (λd l b n=>?_) (λj=>?_)
  .rcases y d l with e|e<;>rw[e]<;>trivial
  .rcases y d l with e|e<;>rw[e] at C<;>cases C
  .rw[nt d l] at n;cases n
  .by_cases e:j=i
   .subst e;rw[Deaf_own,h.Zu.hears];exact(upd_same ..).symm
   .rw[Deaf_other t (YR e) _ ofEvents_g,h.Zu.hears];exact(upd_ne _ _ e).symm
 .exact h.Ye.app H ofEvents_g (λ_=>Nw nt) (λ_ _ _ x=>x) (λ_ _ _ _ x=>x)
 .refine h.WC.app h.Zu.low (λd l b n=>?_) (λj b v hv=>.inl ⟨v,hv⟩) (λs o' r=>⟨o',r,rfl⟩) (λj s k J g e=>⟨k,J,g,e⟩);rcases y d l with e|e<;>rw[e] at n<;>cases n
 .have e:({c with deaf:=upd c.deaf i (deafBehind (c.deaf i) es),T:=upd c.T i (f (i==0,g',{c.x i with deaf:=deafBehind (c.x i).deaf es}))}:YQ).x i={c.x i with deaf:=deafBehind (c.x i).deaf es}:=by
   simp[YQ.x,upd_same]
  rw[e];show Vg P Q (upd c.T i (f (i==0,g',{c.x i with deaf:=deafBehind (c.x i).deaf es})) i) _ _ _;rw[upd_same];exact F
end
end Go.TL
namespace Go.TL
open Go.Conc
open Go.ConcM (OsLater)
open Go.ConcN (sumTo upd sumTo_upd upd_ne upd_same sumTo_congr le_sumTo)
section
variable {P:Program} {Q:Value->Prop} {ZC:World} {c c':YQ} {gs:Array Goroutine} {w w':World} {t:Trace} {i:Nat} {g g':Goroutine} {es:Array Event}
variable {f:Bool×Goroutine×ZZ->W7 (Bool×Goroutine×ZZ)}
theorem zO {o o':ε} {t t':Tok} (h:Act o t o' t'):(∀q p,t'≠.par q p .ZP)/\(∀q p,t≠.par q p .ZP)/\∀k L g,t=.ch k (.YJ L) g->∃g',t'=.ch k (.YJ L) g':=by
 cases h<;>refine⟨λq p e=>?_,λq p e=>?_,λk L g e=>?_⟩<;>cases e
 all_goals exact⟨_,rfl⟩
theorem ED {B:Type} (p:B->Bool) {y:B} (b:p y=false):∀(l:List B) (k:Nat) (x:B),l[k]?=some x->p x=true->((l.set k y).filter p).length<(l.filter p).length
 | [],k,x,h,_=>by simp at h
 | z::l,0,x,h,a=>by
  simp at h;subst h;simp[List.set,a,b]
 | z::l,k+1,x,h,a=>by
  have:=ED p b l k x (by simpa using h) a;simp only[List.set,Kr];split<;>simpa using this
theorem zN {k:Nat} (a:gs[k]?=some g) (b:g.status=.running) (c:g'.status≠.running):Ny (gs.setIfInBounds k g')<Ny gs:=by
 unfold Ny;rw[Array.toList_setIfInBounds];exact ED (λg:Goroutine=>decide (g.status=.running)) (by simp[c]) _ k g (by rw[<-a];simp) (by simp[b])
theorem Inv.atom (h:Inv P Q ZC c gs w t) (D:gs[i]?=some g) (ak:VI g) (aw:Vg P Q (c.T i) (i==0) g (c.x i)) (ax:Atom P (i==0) (Uh P Q f) g (c.x i)):V6 P Q ZC c gs w t i f:=by
 obtain⟨s,sp,ay,az,aA⟩:=ax;have W:i<gs.size:=TR D;obtain⟨o,d,X⟩:=h.Za.QZ i s sp ay;have aB:∀b,X9 s sp b->b<w.heap.size:=λb l=>h.low d (by rw[X];exact l);have aC:¬W9 (c.tok i s):=az;have aD:c.tok i s≠.nil:=λe=>aC (by rw[e];trivial);have al:∀{w':World} {es:Array Event} {k:Nat},Xj (λb _=>X9 s sp b) (λ_=>False) w w'->Sm s sp (c.x i).deaf es->VH c.H c.Z3 c.tok c.O c.Zs c.deaf w'.heap.size (t++MemOp.ofEvents i g.frame.fn g.frame.place es):=λ{w' es k} K n=>by
  refine VH.grow ?_ K.size;refine h.Zu.ext h.hold i ofEvents_g (λM F=>?_) (λM F a am=>?_) (λM F b l=>?_) (λj=>?_)
  .rcases J9 n F with(e|e)|⟨b,Y,wr,e,l⟩
   .rw[e];trivial
   .rw[e];trivial
   .rw[e];exact aB b l
  .rcases J9 n F with(e|e)|⟨b,Y,wr,e,l⟩<;>rw[e] at am<;>cases am
  .rcases J9 n F with(e|e)|⟨J,Y,wr,e,an⟩
   .rw[e] at l;cases l
   .rw[e] at l;cases l
   .rw[e] at l;simp[MemAct.touch?] at l;subst l;exact⟨s,o,J,Y,d,by rw[X];exact an,rfl,.inl rfl⟩
  .by_cases e:j=i
   .subst e;rw[Deaf_own,h.Zu.hears];exact n.1
   .rw[Deaf_other t (YR e) _ ofEvents_g,h.Zu.hears]
 have ao:∀{es:Array Event},Sm s sp (c.x i).deaf es->∀M∈MemOp.ofEvents i g.frame.fn g.frame.place es,∀b,M.act≠.mark (.releaseMerge ⟨b,0,none⟩):=λn M F b l=>by
  rcases J9 n F with(e|e)|⟨J,Y,wr,e,an⟩<;>rw[e] at l<;>cases l
 have ap:∀{es:Array Event},Sm s sp (c.x i).deaf es->∀k,t.size<=k->¬(t++MemOp.ofEvents i g.frame.fn g.frame.place es).counts k:=λn=>zR (s:=s) (sp:=sp) (by rw[h.Zu.hears];exact n);rcases aA w (XZ gs.size o (λj=>c.tok j s)) o (h.mem.fit (.inl i)) (h.mem.TT i) X (h.mem.Xf s o d) (λaE aF hv=>by
   obtain⟨aX,aq,Φ,aG⟩:=h.Za.Ox i s aE aF hv;rw[d] at aq;cases aq;exact⟨Φ,aG⟩) ⟨gs.size,λj=>c.tok j s,i,h.Za.Z0 s o d,W,rfl,λk L g e=>h.Za.YJ i s k L g o d e⟩ with Z|⟨aH,aI,E⟩
 .cases E:stepG P (i==0) g w with
  | go g' w' es=>
   rw[E] at Z;obtain⟨aJ,K,n,aK⟩:=Z;have ar:Xj (λb _=>X9 s o.toSpec b) (λ_=>False) w w':=by rw[X];exact K
   rcases aK with⟨ad,ae⟩|⟨o',t',S,ad,aL,ae⟩
   .refine V6.go (c':={c with view:=upd c.view i (upd (c.view i) s (some (XZ gs.size o (λj=>c.tok j s),o))),T:=upd c.T i (f (i==0,g',{c.x i with view:=upd (c.view i) s (some (XZ gs.size o (λj=>c.tok j s),o))}))}) D E ?_ _ rfl;refine h.laid D ((h.mem.atom h.hold rfl d rfl ar ad).L' (J' d).symm) h.hold (al (k:=0) K n) (h.Za.look d) h.X2
     (h.Ye.app W ofEvents_g (λ_=>ap n) (λ_ _ _ x=>x) (λ_ _ _ _ x=>x))
     (h.WC.app h.Zu.low (ao n) (λj b v hv=>.inl ⟨v,hv⟩) (λs o' E=>⟨o',E,rfl⟩) (λj s k aa g e=>⟨k,aa,g,e⟩))
     ⟨g',?_,.inl rfl⟩ (λj A=>⟨by simp[YQ.x,upd_ne _ _ A],upd_ne _ _ A⟩) (.inr λj s o _ a b=>⟨o,a,b⟩)
    have e:({c with view:=upd c.view i (upd (c.view i) s (some (XZ gs.size o (λj=>c.tok j s),o))),T:=upd c.T i (f (i==0,g',{c.x i with view:=upd (c.view i) s (some (XZ gs.size o (λj=>c.tok j s),o))}))}:YQ).x i={c.x i with view:=upd (c.view i) s (some (XZ gs.size o (λj=>c.tok j s),o))}:=by
     simp[YQ.x,upd_same]
    rw[e];show Vg P Q (upd c.T i (f (i==0,g',{c.x i with view:=upd (c.view i) s (some (XZ gs.size o (λj=>c.tok j s),o))})) i) _ _ _;rw[upd_same];exact ae
   .have aM:=EZ (N:=gs.size) (τ:=λj=>c.tok j s) W rfl S
    have aN:=ae _ aM;obtain⟨af,aO,aP⟩:=EJ S;obtain⟨aQ,aR,aS⟩:=zO S;have au:=TS.upd d af;have ab:∀j r q p,Zp c.tok i s t' j r=.par q p .ZP↔c.tok j r=.par q p .ZP:=λj r q p=>by
     by_cases e:j=i/\r=s
     .obtain⟨rfl,rfl⟩:=e;rw[XE];exact⟨λx=>absurd x (aQ q p),λx=>absurd x (aR q p)⟩
     .rw[XL _ e]
    have aT:∀j r k L g,c.tok j r=.ch k (.YJ L) g->∃g',Zp c.tok i s t' j r=.ch k (.YJ L) g':=λj r k L g A=>by
     by_cases e:j=i/\r=s
     .obtain⟨rfl,rfl⟩:=e;rw[XE];exact aS k L g A
     .rw[XL _ e];exact⟨g,A⟩
    have keepW:o'=o->∀j r q,j≠i->c.O r=some q->U1 q (c.tok j r)->∃av,upd c.O s (some o') r=some av/\U1 av (c.tok j r):=λag j r q _ a b=>⟨q,by
     by_cases e:r=s
     .subst e;subst ag;rw[d] at a;cases a;exact upd_same _ _ _
     .rw[upd_ne _ _ e];exact a,b⟩
    have ah:∀r q,upd c.O s (some o') r=some q->∃B,c.O r=some B/\B.toSpec=q.toSpec/\B.L=q.L/\B.R=q.R:=λr q C=>by
     by_cases e:r=s
     .subst e;rw[upd_same] at C;cases C;exact⟨o,d,af.symm,aO.symm,aP.symm⟩
     .rw[upd_ne _ _ e] at C;exact⟨q,C,rfl,rfl,rfl⟩
    let U:ZZ:={c.x i with tok:=upd (c.tok i) s t',view:=upd (c.view i) s (some (XZ gs.size o' (upd (λj=>c.tok j s) i t'),o'))};refine V6.go (c':={c with tok:=Zp c.tok i s t',view:=upd c.view i (upd (c.view i) s (some (XZ gs.size o' (upd (λj=>c.tok j s) i t'),o'))),O:=upd c.O s (some o'),T:=upd c.T i (f (i==0,g',U))}) D E ?_ _ rfl;refine h.laid D (h.mem.atom h.hold rfl d af ar ad) (h.hold.Tp au) ((al (k:=0) K n).zX au λj r A e=>?_) (h.Za.act d rfl S) ⟨λr q m C ai aj aU=>?_,λr q C aj=>?_⟩
     (h.Ye.app W ofEvents_g (λ_=>ap n) (λs q p ⟨j,x⟩=>⟨j,(ab j s q p).1 x⟩) (λj s q p x=>(ab j s q p).1 x))
     (h.WC.app h.Zu.low (ao n) (λj b v hv=>.inl ⟨v,hv⟩) (λr q C=>let ⟨B,a,b,_⟩:=ah r q C;⟨B,a,by rw[b]⟩) (λj r k aa g e=>?_))
     ⟨g',?_,.inl rfl⟩ (λj A=>⟨by simp[YQ.x,upd_ne _ _ A,P' _ A],upd_ne _ _ A⟩) (aL.imp (λai=>⟨ai,aJ⟩) λag=>keepW ag)
    .by_cases V:j=i/\r=s
     .obtain⟨rfl,rfl⟩:=V;exact aD e
     .apply A;show Zp c.tok i s t' j r=.nil;rw[XL _ V];exact e
    .obtain⟨B,a,b,J,_⟩:=ah r q C;have:=h.X2.RH r B m a (by rw[b];exact ai) (λj q p x=>aj j q p ((ab j r q p).2 x)) (λj k L g x=>let ⟨g',y⟩:=aT j r k L g x;aU j k L g' y);rw[b,J] at this;exact this
    .obtain⟨B,a,b,_,J⟩:=ah r q C;have:=h.X2.Se r B a (λj q p x=>aj j q p ((ab j r q p).2 x));rw[b,J] at this;exact this
    .by_cases V:j=i/\r=s
     .obtain⟨rfl,rfl⟩:=V;obtain⟨aV,aW,y,_⟩:=(EI S).2.1 k aa g e;exact⟨k,aV,aW,by show Zp c.tok j r t' j r=_;rw[XE];exact y⟩
     .exact⟨k,aa,g,by show Zp c.tok i s t' j r=_;rw[XL _ V];exact e⟩
    .have e:({c with tok:=Zp c.tok i s t',view:=upd c.view i (upd (c.view i) s (some (XZ gs.size o' (upd (λj=>c.tok j s) i t'),o'))),O:=upd c.O s (some o'),T:=upd c.T i (f (i==0,g',U))}:YQ).x i=U:=by
      simp[U,YQ.x,upd_same,On]
     rw[e];show Vg P Q (upd c.T i (f (i==0,g',U)) i) _ _ _;rw[upd_same];exact aN
  | _=>rw[E] at Z;exact Z.elim
 .refine λsl=>⟨c,_,w,_,runT_crowd_go D E,?_,.inr (.inr ⟨I,rfl,?_⟩)⟩
  .rw[EE,OL];have:=h.laid (c':=c) (u:=#[]) D (g':={g with status:=.blocked}) h.mem h.hold (by rw[OL];exact h.Zu) h.Za h.X2 (by rw[OL];exact h.Ye) (by rw[OL];exact h.WC) ⟨g,aw,.inr ⟨ak,rfl,s,o,d,aH,aI⟩⟩ (λj A=>⟨rfl,rfl⟩) (.inr λj s o _ a b=>⟨o,a,b⟩)
   rwa [OL] at this
  .have e:gs.map (woken P g {g with status:=.blocked} w)=gs:=by
    have:woken P g {g with status:=.blocked} w=id:=by
     funext b;simp[woken]
    rw[this];simp
   rw[e];exact zN D ak.1 I
end
theorem EC:∀(q:Nat) (l:List Nat),l.Nodup->(∀x∈l,x<q)->l.length<=q:=by
 intro q
 induction q with
 | zero=>intro l _ h;cases l with
  | nil=>simp
  | cons a l=>exact absurd (h a I) U
 | succ q e=>
  intro l b h;have:=e (l.erase q) (b.erase q) (λx f=>by
   have c:=(b.mem_erase_iff).1 f
   have:=h x c.2
   have:=c.1;omega)
  by_cases d:q∈l
  .have:=List.length_erase_of_mem d;omega
  .rw[List.erase_of_not_mem d] at this;omega
theorem zM (l:List Nat) (q:Nat) (b:l.Nodup) (h:∀x∈l,x<q) (e:l.length=q):∀k,k<q->k∈l:=λk c=>by
 apply Tu;intro d;have:=EC q (k::l) (Q7.2 ⟨d,b⟩) (λx a=>by
  rcases Y6.1 a with rfl|a
  .exact c
  .exact h x a)
 simp at this;omega
section
variable {n:Nat} {tok:Nat->Nat->Tok} {spec:Nat->Nat->Option Spec} {view:Nat->Nat->Option (Nat×ε)} {rel:Nat->Bool} {O:Nat->Option ε} {Zs home:Nat->Nat} {s i:Nat} {o:ε}
theorem XT.fin (h:XT n tok spec view rel O Zs home) (r:O s=some o) {j q p:Nat} {e:Qd} (b:tok j s=.par q p e) (u:VX (.par q p e)=1):p=0/\o.cnt=0/\∀a k m g,tok a s=.ch k m g->g=.gone:=by
 have f:j<n:=h.lt (s:=s) (by rw[b];simp)
 have c:=(h.Z0 s o r).2
 have v:ZQ n (λa=>tok a s) VX=1:=by
  rw[RK (φ:=VX) (λt b=>by cases t<;>simp_all [XP,VX]) c.SR f (by rw[b];rfl),b,u]
 have w:ZQ n (λa=>tok a s) Wp=p:=by
  rw[RK (φ:=Wp) (λt b=>by cases t<;>simp_all [XP,Wp]) c.SR f (by rw[b];rfl),b];rfl
 obtain⟨f1,f2,f3,f4,f5,f6⟩:=c.E2 v;refine⟨U,f4,λa k m g i=>?_⟩;have d:a<n:=h.lt (s:=s) (by rw[i];simp);have x:=c.HG;have l1:=Xq (λa=>tok a s) Vv d;have l2:=Xq (λa=>tok a s) U3 d;have l:=Xq (λa=>tok a s) U2 d;simp only[i,Vv,U3,U2] at l1 l2 l;cases g with
 | gone=>rfl
 | work=>simp only[Qc] at l1;omega
 | rel=>simp only[Qc] at l1;omega
 | l2=>simp only[OC] at l2;omega
 | RO=>simp only[OB] at l;omega
theorem XT.EB (h:XT n tok spec view rel O Zs home) (a:O s=some o) {k:Nat} {m:Un} {g:Pv} (b:tok i s=.ch k m g) (c:g≠.gone):∀j q p,tok j s≠.par q p .ZP:=λj q p d=>
 c ((h.fin a d rfl).2.2 i k m g b)
theorem XT.only (h:XT n tok spec view rel O Zs home) (c:O s=some o) (b:VZ (tok i s)=1):∀j k L g,tok j s=.ch k (.YJ L) g->j=i:=λj k L g d=>by
 apply Tu;intro f;have l:i<n:=h.lt (s:=s) (by intro e;rw[e] at b;cases b);have m:j<n:=h.lt (s:=s) (by rw[d];simp);have p:=W3 (λa=>tok a s) .nil VZ l;have Φ:=Xq (upd (λa=>tok a s) i .nil) VZ m;rw[upd_ne _ _ f] at Φ;have r:VZ .nil=0:=rfl;have t:VZ (tok j s)=1:=by rw[d];rfl
 simp only[b,r] at p;simp only[t] at Φ;have:=(h.Z0 s o c).1.E4;have:=(h.Z0 s o c).1.f1;omega
def QU (tok:Nat->Nat->Tok) (s:Nat):Nat->List Nat
 | 0=>[]
 | n+1=>match tok n s with
  | .ch k _ _=>k::QU tok s n
  | _=>QU tok s n
theorem L9 (tok:Nat->Nat->Tok) (s:Nat):∀n k,k∈QU tok s n↔∃j m g,j<n/\tok j s=.ch k m g
 | 0,k=>by simp[QU]
 | n+1,k=>by
  have c:=L9 tok s n k
  have d:(∃j m g,j<n/\tok j s=.ch k m g)->∃j m g,j<n+1/\tok j s=.ch k m g:=λ⟨j,m,g,f,a⟩=>⟨j,m,g,U,a⟩
  have split:(∃j m g,j<n+1/\tok j s=.ch k m g)->(∃j m g,j<n/\tok j s=.ch k m g)\/∃m g,tok n s=.ch k m g:=λ⟨j,m,g,f,a⟩=>by
   by_cases e:j=n
   .subst e;exact .inr ⟨m,g,a⟩
   .exact .inl ⟨j,m,g,U,a⟩
  unfold QU;cases b:tok n s with
  | nil=>exact c.trans ⟨d,λh=>(split h).elim id λ⟨m,g,e⟩=>by rw[b] at e;cases e⟩
  | par=>exact c.trans ⟨d,λh=>(split h).elim id λ⟨m,g,e⟩=>by rw[b] at e;cases e⟩
  | ch l i g'=>
   rw[Y6,c];constructor
   .rintro(rfl|h)
    .exact⟨n,i,g',U,b⟩
    .exact d h
   .intro h;rcases split h with h|⟨m,g,e⟩
    .exact .inr h
    .rw[b] at e;cases e;exact .inl rfl
theorem EA (tok:Nat->Nat->Tok) (s:Nat):∀n,(QU tok s n).length=ZQ n (λa=>tok a s) Uk
 | 0=>rfl
 | n+1=>by
  have b:=EA tok s n;rw[Oz];unfold QU;cases c:tok n s<;>simp[Uk,b]
theorem Ez (c:∀j d k m g a g',tok j s=.ch k m g->tok d s=.ch k a g'->j=d):∀n,(QU tok s n).Nodup
 | 0=>List.nodup_nil
 | n+1=>by
  have b:=Ez c n;unfold QU;cases e:tok n s with
  | nil=>exact b
  | par=>exact b
  | ch k m g=>
   refine Q7.2 ⟨λh=>?_,b⟩;obtain⟨j,a,g',i,f⟩:=(L9 tok s n k).1 h;have:=c j n k a g' m g f e;omega
theorem XT.full (h:XT n tok spec view rel O Zs home) (f:O s=some o) {q:Nat} {d:Qd} (b:tok i s=.par q 0 d) (v:d=.SV\/d=.w4) :
  o.R.Perm (List.range q)/\(o.ZO≠none->o.L.Perm (List.range q))/\∀a k m g,tok a s=.ch k m g->g=.gone:=by
 have u:i<n:=h.lt (s:=s) (by rw[b];simp)
 have w:VX (.par q 0 d)=1:=by rcases v with rfl|rfl<;>rfl
 obtain⟨_,_,p⟩:=h.fin f b w;have r:=(h.Z0 s o f).2;have K:ZQ n (λa=>tok a s) VY=q:=by
  rw[RK (φ:=VY) (λt b=>by cases t<;>simp_all [XP,VY]) r.SR u (by rw[b];rfl),b];rfl
 have M:ZQ n (λa=>tok a s) Wp=0:=by
  rw[RK (φ:=Wp) (λt b=>by cases t<;>simp_all [XP,Wp]) r.SR u (by rw[b];rfl),b];rfl
 have N:=r.E3
 have x:=h.par i s q 0 d b;subst x;have y:=Ez (tok:=tok) (s:=s) (λj A k m g B g' C D=>h.Ow s j A k m g B g' C D) n;have lt:∀k∈QU tok s n,k<q:=λk l=>by
  obtain⟨j,m,g,_,c⟩:=(L9 tok s n k).1 l;have:=h.Ps s j k m g q 0 d c b;omega
 have full:=zM _ q y lt (by rw[EA];omega);obtain⟨E,F⟩:=h.QY s o f;obtain⟨H,I⟩:=h.Sf s o f;refine⟨(KJ E Mm).2 λk=>?_,λJ=>(KJ H Mm).2 λk=>?_,p⟩
 .rw[F,Ws];constructor
  .rintro⟨j,m,g,c,_⟩;have:=h.Ps s j k m g q 0 d c b;omega
  .intro l;obtain⟨j,m,g,_,c⟩:=(L9 tok s n k).1 (full k l);exact⟨j,m,g,c,by rw[p j k m g c];simp⟩
 .rw[I,Ws];constructor
  .rintro⟨j,m,g,c,_⟩;have:=h.Ps s j k m g q 0 d c b;omega
  .intro l;obtain⟨j,m,g,_,c⟩:=(L9 tok s n k).1 (full k l);refine⟨j,m,g,c,?_⟩;rcases h.Sg j s k m g o f c (by rw[p j k m g c];simp) with rfl|⟨_,e⟩
   .trivial
   .exact absurd e J
end
section
variable {H H':Y5->Χ} {Z3 Pq:Nat->Nat->Option (Array Value×TypeId)} {tok Qa:Nat->Nat->Tok} {O O':Nat->Option ε} {Zs:Nat->Nat} {deaf:Nat->Nat} {N QX:Nat} {t:Trace} {ZC w w':World} {i:Nat} {y:MemOp} {b s:Nat} {o:ε}
theorem ofEvents_one {fn:FuncId} {pos:String} {e:Event}:MemOp.ofEvents i fn pos #[e]=#[{g:=i,fn,pos,act:=.ofEvent e}]:=by rw[ofEvents_eq];simp
theorem VH.word (h:VH H Z3 tok O Zs deaf N t) (u:y.g=i) (n:y.act=.mark (.acquire ⟨b,0,none⟩)\/y.act=.mark (.releaseMerge ⟨b,0,none⟩)) (w:b<N) (A:TS O O') (hv:∀j b v,Pq j b=some v->Z3 j b=some v)
  (B:∀k,YI (t++#[y]) (Vf Qa O' (t++#[y]) k) (H' k)):VH H' Pq Qa O' Zs deaf N (t++#[y]):=by
 have nt:y.act.touch?=none:=by rcases n with e|e<;>rw[e]<;>rfl
 have p:∀k a,touchAt (t++#[y]) k=some a->touchAt t k=some a/\k<t.size:=λk a l=>by
  obtain⟨x,C,o⟩:=touch_of l;rcases getElem?_append_cases C with⟨D,E⟩|⟨_,r⟩
  .exact⟨by rw[touchAt_of E];exact o,D⟩
  .simp at r;subst r;rw[nt] at o;cases o
 refine⟨λF=>noRace_append (g:=i) (h.race F) (λm d=>by simp at d;subst d;exact u) (λk a _ m d c f _=>by simp at d;subst d;rw[nt] at f;cases f),λm d=>?_,λm d a=>?_,B,λj c v f k a l=>h.Sl j c v (hv j c v f) k a (p k a l).1,λs o' c I f k a l J=>?_,λj=>?_⟩
 .rcases Ss.1 d with d|d
  .exact h.low m d
  .simp at d;subst d;rcases n with e|e<;>rw[e]<;>exact w
 .rcases Ss.1 d with d|d
  .exact h.norel m d a
  .simp at d;subst d;rcases n with e|e<;>rw[e]<;>simp
 .obtain⟨K,L,M⟩:=A.1 s o' I;obtain⟨P,Q⟩:=p k a l;rcases h.cont s K c L (by rw[M];exact f) k a P J with x|⟨x,R⟩
  .exact .inl x
  .exact .inr ⟨x,by rw[g?_old Q];exact R⟩
 .rw[Deaf_push,<-h.hears j];rcases n with e|e<;>simp[deafStep,e]
theorem VH.Nv (h:VH H Z3 tok O Zs deaf N t) (k:Y5) (nt:y.act.touch?=none) (d:TS O O') (e:∀i s,Qa i s≠.nil->tok i s≠.nil):YI (t++#[y]) (Vf Qa O' (t++#[y]) k) (H k):=
 (h.perms k).others (λ_ f=>Kb d.1 e (HA _ f)) λg b a c=>by simp at b;subst b;rw[nt] at c;cases c
theorem Knows.marked {p:Nat} {c:MemOp} (e:t[p]?=some c) (k:c.act=.mark (.releaseMerge ⟨b,0,none⟩)) (l:t.heard p) (m:∀c∈t,∀a,c.act≠.mark (.release a)) (f:y.g=i) (n:y.act=.mark (.acquire ⟨b,0,none⟩)) (hd:Deaf t i=0):Knows (t++#[y]) i p:=by
 have h:(t++#[y])[t.size]?=some y:=I
 have o:(t++#[y]).heard t.size:=⟨i,by simp[Trace.g?,f],by rw[deaf_old (γ _)];exact hd⟩
 have d:=lt_size_of_getElem? e;refine⟨t.size,y,h,f,.inr (.single (.inr ⟨.marked (a:=⟨b,0,none⟩) d (.inr ?_) ?_ ?_,(heard_old d).2 l,o⟩))⟩
 .rw[act?_old d,act?_of e,k]
 .rw[act?_of h,n]
 .intro w x r j;rw[act?_old r] at j;obtain⟨s,u,v⟩:=Ts.1 j;exact m s (mem_of_getElem? u) _ v
theorem YI.Tj {b:Nat->Prop} {G:Χ} (h:YI t b G) (nt:y.act.touch?=none) (e:∀k,b k->Knows (t++#[y]) i k):YI (t++#[y]) (Knows (t++#[y]) i) G:=
 h.others e λf c a d=>by simp at c;subst c;rw[nt] at d;cases d
theorem Sub.empty (G:Χ):Sub Χ.empty G:=⟨λ_ _ _ _ h=>(by cases h),λ_ _ h=>(by cases h),λ_ _ h=>(by cases h)⟩
theorem Sub.both {A B e:Χ} (h:Sub A e) (k:Sub B e):Sub (join A B) e:=by
 refine⟨λb o v p c=>?_,λb x d=>?_,λb x hv=>?_⟩
 .simp only[join] at c;cases a:A.θ b o with
  | none=>rw[a] at c;exact k.θ b o v p c
  | some z=>rw[a] at c;cases c;exact h.θ b o v p a
 .simp only[join] at d;cases a:A.row b with
  | none=>rw[a] at d;exact k.row b x d
  | some z=>rw[a] at d;cases d;exact h.row b _ a
 .simp only[join] at hv;cases a:A.obj b with
  | none=>rw[a] at hv;exact k.obj b x hv
  | some z=>rw[a] at hv;cases hv;exact h.obj b _ a
theorem Sub.zL {G H:Χ} (d:Fits G w) (e:Fits H w) (f:Apart G H):Sub H (join G H):=by
 refine⟨λb o v p c=>?_,λb x g=>?_,λb x hv=>?_⟩
 .simp only[join];cases a:G.θ b o with
  | none=>exact⟨p,c,id⟩
  | some z=>
   obtain⟨j,h⟩:=z;have k:=d.θ b o j h a;have Φ:=e.θ b o v p c;rw[k] at Φ;cases Φ;refine⟨h,rfl,λl=>?_⟩;subst l;exact absurd ⟨_,a⟩ (f.Q4 b o ⟨_,c⟩)
 .simp only[join];cases a:G.row b with
  | none=>exact g
  | some z=>
   obtain⟨t1,m⟩:=z;obtain⟨t2,n⟩:=x;obtain⟨u,r,s⟩:=d.row b t1 m a;obtain⟨y,i,t⟩:=e.row b t2 n g;rw[r] at i;cases i;rw[<-s,<-t]
 .simp only[join];cases a:G.obj b with
  | none=>exact hv
  | some z=>exact absurd ⟨x,hv⟩ (f.obj b ⟨z,a⟩)
theorem Hv (G:Χ):join G Χ.empty=G:=by
 obtain⟨a,b,c⟩:=G;simp only[join,Χ.empty];congr
 .funext x y;cases a x y<;>rfl
 .funext x;cases b x<;>rfl
 .funext x;cases c x<;>rfl
theorem WE.Nu (h:WE H Z3 O ZC w) (hv:∀j b v,Pq j b=some v->Z3 j b=some v):WE H Pq O ZC w:=⟨h.fit,λj b c t a=>h.TT j b c t (hv j b _ a),h.Xf,h.keep⟩
theorem VW.Nu (h:VW H Z3 O QX) (hv:∀j b v,Pq j b=some v->Z3 j b=some v):VW H Pq O QX:=by
 have g:∀j b,Z3 j b=none->Pq j b=none:=λj b e=>by
  cases i:Pq j b with
  | none=>rfl
  | some v=>rw[hv j b v i] at e;cases e
 exact⟨h.apart,h.high,h.SQ,λj b v a=>let ⟨c,d,f⟩:=h.fresh j b v (hv j b v a);⟨c,d,λk l=>g k b (f k l)⟩,λs o b m a=>let ⟨c,d,f⟩:=h.UO s o b m a;⟨c,d,λk=>g k b (f k)⟩,h.Uz,h.RJ,h.X2⟩
theorem UN {o':ε} (a:O s=some o) {r:Nat} {q:ε} (h:upd O s (some o') r=some q):(r=s/\q=o')\/(r≠s/\O r=some q):=by
 by_cases e:r=s
 .subst e;rw[upd_same] at h;cases h;exact .inl ⟨rfl,rfl⟩
 .rw[upd_ne _ _ e] at h;exact .inr ⟨e,h⟩
theorem J7 {a b:Tok} (c:tok i s=a) (d:∀q p,a≠.par q p .ZP) (f:∀q p,b≠.par q p .ZP) (j r q p:Nat):Zp tok i s b j r=.par q p .ZP↔tok j r=.par q p .ZP:=by
 by_cases e:j=i/\r=s
 .obtain⟨rfl,rfl⟩:=e;rw[XE,c];exact⟨λx=>absurd x (f q p),λx=>absurd x (d q p)⟩
 .rw[XL _ e]
theorem L8 {a b:Tok} (c:tok i s=a) (d:a≠.nil) (j r:Nat) (h:Zp tok i s b j r≠.nil):tok j r≠.nil:=by
 by_cases e:j=i/\r=s
 .obtain⟨rfl,rfl⟩:=e;rw[c];exact d
 .rw[XL _ e] at h;exact h
theorem L7 {a b:Tok} (c:tok i s=a) (d:∀k m g,a=.ch k m g->∃k m g,b=.ch k m g) (j r k:Nat) (m:Un) (g:Pv) (h:tok j r=.ch k m g):∃k m g,Zp tok i s b j r=.ch k m g:=by
 by_cases e:j=i/\r=s
 .obtain⟨rfl,rfl⟩:=e;rw[XE];exact d k m g (c▸h)
 .rw[XL _ e];exact⟨k,m,g,h⟩
end
section
variable {P:Program} {Q:Value->Prop} {ZC:World} {c c':YQ} {gs:Array Goroutine} {w w':World} {t:Trace} {i:Nat} {g g':Goroutine} {es:Array Event}
variable {f:Bool×Goroutine×ZZ->W7 (Bool×Goroutine×ZZ)}
theorem Inv.J6 (h:Inv P Q ZC c gs w t) (S:gs[i]?=some g) (U:ES P (i==0) (Uh P Q f) g (c.x i)):V6 P Q ZC c gs w t i f:=by
 obtain⟨s,sp,m,k,g',ab,V,ad,ae,ay,af,ag,ah⟩:=U;have ai:i<gs.size:=TR S;obtain⟨o,d,aj⟩:=h.Za.QZ i s sp ab;subst aj;have l:c.tok i s=.ch k .own .work:=ad;have hd:c.deaf i=0:=ae;have ak:c.rel i=false:=af;have al:=ag w (h.mem.fit (.inl i));have am:=h.Za.EB d l I;have an:=h.X2.RH s o m d V am (λj W L g u=>by
  have:=h.Za.only d (i:=i) (by rw[l];rfl) j W L g u;subst this;rw[l] at u;cases u)
 have ao:=ah o.L (c.H (.inr m)) an (h.hold.apart _ _ I) ⟨(h.Za.Sf s o d).1,λU=>(by
  obtain⟨j,E,ap,C,Φ⟩:=((h.Za.Sf s o d).2 k).1 U;have:=h.Za.Ow s j i k E ap _ _ C l;subst this;rw[l] at C;cases C;exact Φ),w,h.mem.fit _,h.mem.fit _⟩
 let K:ZZ:={c.x i with G:=join (c.H (.inl i)) (c.H (.inr m)),tok:=upd (c.tok i) s (.ch k (.YJ o.L) .work),view:=upd (c.view i) s none}
 let c':YQ:={c with H:=Zz (Zz c.H (.inl i) (join (c.H (.inl i)) (c.H (.inr m)))) (.inr m) Χ.empty,tok:=Zp c.tok i s (.ch k (.YJ o.L) .work),view:=upd c.view i (upd (c.view i) s none),O:=upd c.O s (some o),T:=upd c.T i (f (i==0,g',K))}
 have X:=TS.upd (o':=o) d rfl
 have ZP:=J7 (b:=.ch k (.YJ o.L) .work) l I I
 have aq:=L8 (b:=.ch k (.YJ o.L) .work) l I
 have F:X9 s o.toSpec m:=.inr V;refine V6.go (c':=c') S al ?_ _ rfl;rw[ofEvents_one];have ar:c'.x i=K:=by
  have:(Sum.inl i:Y5)≠.inr m:=I;simp[c',K,YQ.x,upd_same,On,Zy _ _ this]
 refine h.laid (c':=c') S (h.mem.two (Mb (h.mem.fit _) (h.mem.fit _)) (Ov w) λr q B=>?_) ?_ ?_ (h.Za.HF d l) ⟨λr q E B Y M Z=>?_,λr q B M=>?_⟩
  (h.Ye.app ai (λaa A=>by simp at A;subst A;rfl) (λN=>by rw[ak] at N;cases N) (λs q p ⟨j,x⟩=>⟨j,(ZP j s q p).1 x⟩) (λj s q p x=>(ZP j s q p).1 x))
  (h.WC.app h.Zu.low (λaa A b au=>by simp at A;subst A;cases au) (λj b v hv=>.inl ⟨v,hv⟩) (λr q B=>?_) (λj r W av g e=>L7 l (λ_ _ _ _=>⟨_,_,_,rfl⟩) j r W av g e))
  ⟨g',?_,.inl rfl⟩ (λj u=>⟨?_,upd_ne _ _ u⟩) (.inr λj r q _ a b=>?_)
 .rcases UN d B with⟨rfl,rfl⟩|⟨_,n⟩
  .exact h.mem.Xf _ _ d
  .exact h.mem.Xf _ _ n
 .exact h.hold.two I (Sub.refl _) (Sub.empty _) (Apart.Pr _) X λx N=>by
   rcases N with e|e
   .cases e;exact⟨s,o,d,F⟩
   .cases e
 .refine h.Zu.word (i:=i) rfl (.inl rfl) (h.low d F) X (λ_ _ _ x=>x) λa=>?_;by_cases Φ:a=.inr m
  .subst Φ;show YI _ _ (Zz _ _ _ _);rw[Yw];exact YI.empty
  .show YI _ _ (Zz _ _ _ _);rw[Zy _ _ Φ];by_cases C:a=.inl i
   .subst C;rw[Yw];exact((h.Zu.perms (.inl i)).own (λaa A=>by simp at A;subst A;rfl)).join ((h.Zu.perms (.inr m)).acquire h.Zu.norel d F (by rw[l];simp) rfl rfl (by rw[h.Zu.hears];exact hd))
   .rw[Zy _ _ C];exact h.Zu.Nv a rfl X aq
 .rcases UN d B with⟨rfl,rfl⟩|⟨e,n⟩
  .exact absurd (XE ..) (Z i k q.L .work)
  .have J:(.inr E:Y5)≠.inr m:=λx=>by cases x;exact e (h.hold.Uz r s q o m n d (.inr Y) F)
   show q.XQ q.L (Zz (Zz c.H _ _) (.inr m) _ (.inr E));rw[Zy _ _ J,VG];exact h.X2.RH r q E n Y (λj q p x=>M j q p ((ZP j r q p).2 x)) λj k L g x=>Z j k L g (by show Zp c.tok i s _ j r=_;rw[XL _ (λy=>e y.2)];exact x)
 .rcases UN d B with⟨rfl,rfl⟩|⟨e,n⟩
  .have J:(.inr r:Y5)≠.inr m:=λx=>by cases x;exact h.hold.RJ _ q m d V rfl
   show Ui q.D q.R (Zz (Zz c.H _ _) (.inr m) _ (.inr r));rw[Zy _ _ J,VG];exact h.X2.Se r q d (λj q p x=>M j q p ((ZP j r q p).2 x))
  .have J:(.inr r:Y5)≠.inr m:=λx=>by cases x;exact e (h.hold.Uz m s q o m n d (.inl rfl) F)
   show Ui q.D q.R (Zz (Zz c.H _ _) (.inr m) _ (.inr r));rw[Zy _ _ J,VG];exact h.X2.Se r q n (λj q p x=>M j q p ((ZP j r q p).2 x))
 .rcases UN d B with⟨rfl,rfl⟩|⟨_,n⟩
  .exact⟨_,d,rfl⟩
  .exact⟨q,n,rfl⟩
 .rw[ar];show Vg P Q (upd c.T i (f (i==0,g',K)) i) _ _ _;rw[upd_same];exact ao
 .have aw:(Sum.inl j:Y5)≠.inr m:=by simp
  have ax:(Sum.inl j:Y5)≠.inl i:=λe=>u (by cases e;rfl);simp[c',YQ.x,upd_ne _ _ u,P' _ u,Zy _ _ aw,Zy _ _ ax]
 .exact⟨q,by show upd c.O s (some o) r=some q;rw[J' d];exact a,b⟩
theorem Inv.Hu (h:Inv P Q ZC c gs w t) (ab:gs[i]?=some g) (ao:ER P (i==0) (Uh P Q f) g (c.x i)):V6 P Q ZC c gs w t i f:=by
 obtain⟨s,sp,m,k,L,g',G',E,ap,ad,ae,af,aG,aq,ar,F,au,av⟩:=ao;have aw:i<gs.size:=TR ab;obtain⟨o,d,ax⟩:=h.Za.QZ i s sp ap;subst ax;have M:c.tok i s=.ch k (.YJ L) .work:=ae;have hd:c.deaf i=0:=af;have ah:c.rel i=false:=aq;have ay:=ar w (h.mem.fit (.inl i));have az:o.L=L:=h.Za.YJ i s k L .work o d M;let o':ε:={o with L:=o.L++[k]};let U:ZZ:={c.x i with G:=G',tok:=upd (c.tok i) s (.ch k .fin .work),view:=upd (c.view i) s none};let c':YQ:={c with H:=Zz (Zz c.H (.inl i) G') (.inr m) E,tok:=Zp c.tok i s (.ch k .fin .work),view:=upd c.view i (upd (c.view i) s none),O:=upd c.O s (some o'),T:=upd c.T i (f (i==0,g',U))};have V:TS c.O (upd c.O s (some o')):=TS.upd d rfl;have ZP:=J7 (b:=.ch k .fin .work) M I I;have ai:=L8 (b:=.ch k .fin .work) M I;have K:X9 s o.toSpec m:=.inr ad;refine V6.go (c':=c') ab ay ?_ _ rfl;rw[ofEvents_one];have aA:c'.x i=U:=by
  have:(Sum.inl i:Y5)≠.inr m:=I;simp[c',U,YQ.x,upd_same,On,Zy _ _ this]
 refine h.laid (c':=c') ab (h.mem.two (F.l.fits (h.mem.fit (.inl i))) (F.r.fits (h.mem.fit (.inl i))) λr q B=>?_) ?_ ?_ (h.Za.zZ d M) ⟨λr q A B J W aB=>?_,λr q B W=>?_⟩
  (h.Ye.app aw (λC n=>by simp at n;subst n;rfl) (λX=>by rw[ah] at X;cases X) (λs q p ⟨j,x⟩=>⟨j,(ZP j s q p).1 x⟩) (λj s q p x=>(ZP j s q p).1 x))
  ⟨λr q A B J p C aC N=>?_,λj b v hv C n N=>?_⟩
  ⟨g',?_,.inl rfl⟩ (λj Y=>⟨?_,upd_ne _ _ Y⟩) (.inr λj r q _ a b=>?_)
 .rcases UN d B with⟨rfl,rfl⟩|⟨_,u⟩
  .exact(h.mem.Xf r o d:At r o w)
  .exact h.mem.Xf _ _ u
 .exact h.hold.two I F.l.QW F.r.QW F.apart V λx X=>by
   rcases X with e|e
   .cases e;exact⟨s,o,d,K⟩
   .cases e
 .refine h.Zu.word (i:=i) rfl (.inr rfl) (h.low d K) V (λ_ _ _ x=>x) λa=>?_;by_cases Φ:a=.inr m
  .subst Φ;show YI _ _ (Zz _ _ _ _);rw[Yw];exact((YI.release (h.Zu.perms (.inl i)) rfl rfl (by rw[h.Zu.hears];exact hd)).sub F.r).mono λ_ x=>Kb V.1 ai x
  .show YI _ _ (Zz _ _ _ _);rw[Zy _ _ Φ];by_cases Z:a=.inl i
   .subst Z;rw[Yw];exact((h.Zu.perms (.inl i)).own (λC n=>by simp at n;subst n;rfl)).sub F.l
   .rw[Zy _ _ Z];exact h.Zu.Nv a rfl V ai
 .rcases UN d B with⟨rfl,rfl⟩|⟨e,u⟩
  .have e:A=m:=by have:o.ZO=some A:=J;rw[ad] at this;cases this;rfl
   subst e;show o.XQ (o.L++[k]) (Zz (Zz c.H _ _) (.inr A) _ (.inr A));rw[Yw,az];exact au
  .have S:(.inr A:Y5)≠.inr m:=λx=>by cases x;exact e (h.hold.Uz r s q o m u d (.inr J) K)
   show q.XQ q.L (Zz (Zz c.H _ _) (.inr m) _ (.inr A));rw[Zy _ _ S,VG];exact h.X2.RH r q A u J (λj q p x=>W j q p ((ZP j r q p).2 x)) λj k L g x=>aB j k L g (by show Zp c.tok i s _ j r=_;rw[XL _ (λy=>e y.2)];exact x)
 .rcases UN d B with⟨rfl,rfl⟩|⟨e,u⟩
  .have S:(.inr r:Y5)≠.inr m:=λx=>by cases x;exact h.hold.RJ _ o m d ad rfl
   show Ui o.D o.R (Zz (Zz c.H _ _) (.inr m) _ (.inr r));rw[Zy _ _ S,VG];exact h.X2.Se r o d (λj q p x=>W j q p ((ZP j r q p).2 x))
  .have S:(.inr r:Y5)≠.inr m:=λx=>by cases x;exact e (h.hold.Uz m s q o m u d (.inl rfl) K)
   show Ui q.D q.R (Zz (Zz c.H _ _) (.inr m) _ (.inr r));rw[Zy _ _ S,VG];exact h.X2.Se r q u (λj q p x=>W j q p ((ZP j r q p).2 x))
 .rcases getElem?_append_cases aC with⟨_,aD⟩|⟨_,aj⟩
  .have ak:∀aa,c.O r=some aa->aa.ZO=some A->(∃al am g,Zp c.tok i s (.ch k .fin .work) C.g r=.ch al am g)/\(c.rel C.g=true->Before (t++#[{g:=i,fn:=g.frame.fn,pos:=g.frame.place,act:=MemAct.ofEvent (Go.ConcR.mk (Mark.releaseMerge {block:=m,off:=0}))}]) p (c.XM C.g)):=λaa Z Φ=>by
    obtain⟨⟨al,am,g,ae⟩,af⟩:=h.WC.Ot r aa A Z Φ p C aD N;exact⟨L7 M (λ_ _ _ _=>⟨_,_,_,rfl⟩) _ _ _ _ _ ae,λag=>(af ag).app _⟩
   rcases UN d B with⟨rfl,rfl⟩|⟨_,u⟩
   .exact ak o d J
   .exact ak q u J
  .simp at aj;subst aj;cases N;have:r=s:=by
    rcases UN d B with⟨rfl,rfl⟩|⟨_,u⟩
    .rfl
    .exact h.hold.Uz r s q o m u d (.inr J) K
   subst this;exact⟨⟨k,.fin,.work,XE ..⟩,λag=>by
    have:c.rel i=true:=ag;rw[ah] at this;cases this⟩
 .rcases Ss.1 n with n|n
  .exact h.WC.Oq j b v hv C n N
  .simp at n;subst n;cases N;have:=(h.hold.UO s o m d K).2.2 j;have an:c.Z3 j m=some v:=hv;rw[this] at an;cases an
 .rw[aA];show Vg P Q (upd c.T i (f (i==0,g',U)) i) _ _ _;rw[upd_same];exact av
 .have aE:(Sum.inl j:Y5)≠.inr m:=by simp
  have aF:(Sum.inl j:Y5)≠.inl i:=λe=>Y (by cases e;rfl);simp[c',YQ.x,upd_ne _ _ Y,P' _ Y,Zy _ _ aE,Zy _ _ aF]
 .by_cases e:r=s
  .subst e;rw[d] at a;cases a;exact⟨o',upd_same ..,b⟩
  .exact⟨q,by show upd c.O s (some o') r=some q;rw[upd_ne _ _ e];exact a,b⟩
end
end Go.TL
