import Derived.Test.YtkndbcflmgogjaaGreatTAA
set_option linter.defProp false
set_option maxHeartbeats 16000000
set_option maxRecDepth 20000
set_option linter.unusedSectionVars false
set_option linter.unusedSimpArgs false
set_option linter.unusedVariables false
namespace Go.TL
open Go.Conc
open Go.ConcM (OsLater)
open Go.ConcN (sumTo upd sumTo_upd upd_ne upd_same sumTo_congr le_sumTo)
open Go.ConcR (mk)
def HQ{B}{f:Nat->B}{k x}(h:f k=x):upd f k x=f:=by
 funext j
 by_cases e:j=k
 .subst e;rw[upd_same,h]
 rw[upd_ne _ _ e]
def Vb(H i G b):Zv H (.inl i) G (.inr b)=H (.inr b):=Zu H G o
def Mx(tok i s t):Zj tok i s t i=upd (tok i) s t:=by unfold Zj;rw[upd_same]
def Oy{tok i s j}(t)(h:j≠i):Zj tok i s t j=tok j:=by unfold Zj;rw[upd_ne _ _ h]
def Sw{B:Type}{a:Array B}{k x}(h:a[k]?=some x):k<a.size:=(Sd.1 h).1
def ofEvents_g{i fn pos es}:∀a∈MemOp.ofEvents i fn pos es,a.g=i:=λa b=>by obtain⟨e,_,rfl⟩:=Go.Conc.mem_ofEvents b;rfl
def BP{i fn pos}:MemOp.ofEvents i fn pos #[]=#[]:=by rw[ofEvents_eq];simp
def v9(t:Trace)(i fn pos es){j}(b:j<=es.size):(t++MemOp.ofEvents i fn pos es).deaf i (t.size+j)=deafBehind (Deaf t i) (es.extract 0 j):=by
 have e:t++MemOp.ofEvents i fn pos es=(t++MemOp.ofEvents i fn pos (es.extract 0 j))++MemOp.ofEvents i fn pos (es.extract j es.size):=by
  rw[MS];congr 1;rw[ofEvents_eq,ofEvents_eq,ofEvents_eq,<-Array.map_append];congr 1;simp[Array.extract_append_extract];rw[show max j es.size=es.size by omega];simp
 have a:(t++MemOp.ofEvents i fn pos (es.extract 0 j)).size=t.size+j:=by rw[Ia,ofEvents_eq];simp;omega
 rw[e,deaf_old J,<-a];exact Deaf_own t i fn pos _
def EO{t u:Trace}{k}(c:t.size<=k)(d:(t++u).counts k):∃a,u[k-t.size]?=some a/\(t++u)[k]?=some a/\∃x,a.act.touch?=some x/\x.loc.isMemory=true/\(x.kind≠.atomic\/(t++u).heard k):=by
 let ⟨x,e,f,g⟩:=d
 let ⟨a,b,h⟩:=touch_of e;exact⟨a,by rw[Iq c]at b;exact b,b,x,h,f,g⟩
def La{t u:Trace}(h:∀a∈u,a.act.touch?=none):∀k,t.size<=k->¬(t++u).counts k:=λk c d=>by
 let ⟨a,e,_,x,b,_⟩:=EO c d;rw[h a (mem_of_getElem? e)]at b;cases b
def v8{t:Trace}{i fn pos es}(h:∀e∈es,HW e):∀k,t.size<=k->¬(t++MemOp.ofEvents i fn pos es).counts k:=λk c d=>by
 let ⟨l,f,_,x,b,g,_⟩:=EO c d;obtain⟨e,j,rfl⟩:=Go.Conc.mem_ofEvents (mem_of_getElem? f);let ⟨m,wr,n⟩:=e;rcases h _ j with a|a<;>simp only at a<;>subst a<;>simp[MemAct.ofEvent,MemAct.touch?]at b;subst b;simp[Loc.isMemory]at g
def HP{s d i sp es fn pos}(h:QZ s sp d es){op}(f:op∈MemOp.ofEvents i fn pos es) :
  (op.act=.mark .disable\/op.act=.mark .enable)\/∃b c wr,op.act=.access ⟨.cell ⟨b,c,none⟩,wr,true⟩/\X6 s sp b:=by
 obtain⟨e,g,rfl⟩:=Go.Conc.mem_ofEvents f;let ⟨j,k⟩:=Ik.1 g;let ⟨m,wr,n⟩:=e;rcases h.2 j _ k with a|a|⟨b,c,o,a,l,_⟩
 .simp only at a;subst a;exact .inl (.inl U)
 .simp only at a;subst a;exact .inl (.inr U)
 cases a;exact .inr ⟨b,c,_,U,l⟩
def v7{t s i sp fn pos es}(h:QZ s sp (Deaf t i) es):∀k,t.size<=k->¬(t++MemOp.ofEvents i fn pos es).counts k:=λk m n=>by
 let ⟨u,f,o,x,c,v,d⟩:=EO m n;rw[ofEvents_eq,NQ]at f;obtain⟨e,j,rfl⟩:=T7.1 f;have p:=Sw j;let ⟨w,wr,y⟩:=e;rcases h.2 _ _ j with a|a|⟨b,A,B,a,C,hd⟩
 .simp only at a;subst a;simp[MemAct.ofEvent,MemAct.touch?]at c
 .simp only at a;subst a;simp[MemAct.ofEvent,MemAct.touch?]at c
 cases a;simp[MemAct.ofEvent,MemAct.touch?]at c;subst c;rcases d with d|⟨g,l,r⟩
 .exact d U
 simp[Trace.g?,o]at l;subst l;have:=v9 t i fn pos es (RO p);rw[show t.size+(k-t.size)=k by omega]at this;rw[this]at r;omega
section
variable{P:Program}{Q:Value->Prop}{Zy:World}{c c':YJ}{gs:Array Goroutine}{w w':World}{t:Trace}{i:Nat}{g g':Goroutine}{es:Array Event}
def Inv.low(h:Inv P Q Zy c gs w t){s b a}(d:c.O s=some a)(hb:X6 s a.toSpec b):b<w.heap.size:=by
 let ⟨⟨i,e⟩,f⟩:=h.mem.XU s a d;rcases hb with rfl|hb
 .exact XP e
 let ⟨j,g⟩:=f b hb;exact XP g
def Inv.obj(h:Inv P Q Zy c gs w t){s}(b:c.tok i s≠.nil):∃a,c.O s=some a:=by
 cases d:c.O s with
 | none=>exact absurd (h.Y7.bare s d i) b
 | some a=>exact⟨a,rfl⟩
def Vd.grow{H Z9 tok O a b N c}(h:Vd H Z9 tok O a b N t)(d:N<=c):Vd H Z9 tok O a b c t:=
 ⟨h.race,λe f=>MemAct.low_mono d (h.low e f),h.norel,h.perms,h.QY,h.cont,h.hears⟩
def Oz.BO{l i tok n o O' rel Xx u N}(h:Oz l tok o rel Xx t)(A:∀a∈t,a.act.low N)
  (r:∀a∈u,∀b,a.act=.mark (.releaseMerge ⟨b,0,none⟩)->(∀s o',O' s=some o'->o'.ZR≠some b)/\∀j v,i j b≠some v) (hv:∀j b v,i j b=some v->(∃v',l j b=some v')\/N<=b) (B:∀s o',O' s=some o'->∃d,o s=some d/\d.ZR=o'.ZR)
  (C:∀j s k e g,tok j s=.ch k e g->∃k e g,n j s=.ch k e g):Oz i n O' rel Xx (t++u):=by
 refine⟨λs o' m w x p a D c=>?_,λj b v y a E c=>?_⟩
 .let ⟨d,F,H⟩:=B s o' w;rcases getElem?_append_cases D with⟨_,I⟩|⟨_,J⟩
  .let ⟨⟨k,e,g,K⟩,L⟩:=h.MA s d m F (by rw[H];exact x) p a I c;exact⟨C _ _ _ _ _ K,λM=>(L M).app u⟩
  exact absurd x ((r a J m c).1 s o' w)
 rcases Q3.1 E with f|f
 .rcases hv j b v y with⟨v',O⟩|hle
  .exact h.Mz j b v' O a f c
  have:=A a f;rw[c]at this;simp[MemAct.low]at this;omega
 exact(r a f b c).2 j v y
def Oz.app{d e tok f i O' rel Xx u N}(h:Oz d tok i rel Xx t)(m:∀a∈t,a.act.low N)
  (n:∀a∈u,∀b,a.act≠.mark (.releaseMerge ⟨b,0,none⟩)) (hv:∀j b v,e j b=some v->(∃v',d j b=some v')\/N<=b) (o:∀s o',O' s=some o'->∃l,i s=some l/\l.ZR=o'.ZR)
  (p:∀j s k c g,tok j s=.ch k c g->∃k c g,f j s=.ch k c g):Oz e f O' rel Xx (t++u):=h.BO m (λa r b w=>absurd w (n a r b)) hv o p
def Ld.JR{H H' tok O}(h:Ld H tok O)(f:∀b,H' (.inr b)=H (.inr b)):Ld H' tok O:=
 ⟨λs c m a b d e=>by rw[f];exact h.P9 s c m a b d e,λs c a b=>by rw[f];exact h.QT s c a b⟩
def Inv.laid(h:Inv P Q Zy c gs w t)(m:gs[i]?=some g){u}
  (mem:Wj c'.H c'.Z9 c'.O Zy w') (hold:Vq c'.H c'.Z9 c'.O Zy.heap.size) (Zq:Vd c'.H c'.Z9 c'.tok c'.O c'.Ze c'.deaf w'.heap.size (t++u))
  (Y7:XT gs.size c'.tok c'.spec c'.view c'.rel c'.O c'.Ze c'.home) (X2:Ld c'.H c'.tok c'.O) (X9:MB gs.size c'.tok c'.rel c'.Ze c'.home c'.Xx (t++u)) (Wi:Oz c'.Z9 c'.tok c'.O c'.rel c'.Xx (t++u))
  (n:Rec P Q c' i g') (l:∀j,j≠i->c'.x j=c.x j/\c'.T j=c.T j)
  (f:(mayWake P g=true/\Ve g')\/∀j s a,j≠i->c.O s=some a->Uo a (c.tok j s)->∃o',c'.O s=some o'/\Uo o' (c.tok j s)) :
  Inv P Q Zy c' ((gs.map (woken P g g' w')).setIfInBounds i g') w' (t++u):=by
 have k:((gs.map (woken P g g' w')).setIfInBounds i g').size=gs.size:=o
 have p:=Sw m;refine⟨by rw[k];exact h.pos,mem,hold,Zq,by rw[k];exact Y7,X2,by rw[k];exact X9,Wi,λj b d=>?_⟩;by_cases e:j=i
 .subst e;rw[SL (by simpa using p)]at d;cases d;exact n
 rw[Ut (YX e),NQ]at d;obtain⟨r,v,rfl⟩:=T7.1 d;exact(h.My j r v).woken (i:=0) (l j e).1 (l j e).2 (f.imp id λf s a y A=>f j s a e y A)
def VG(P:Program)(Q:Value->Prop)(Zy:World)(c:YJ)(gs:Array Goroutine)(w:World)(t:Trace)(i:Nat)(f:Bool×Goroutine×Z0->WJ (Bool×Goroutine×Z0)):Prop:=
 ∀sl,∃c' a w' u,runT P (crowd gs w sl) i=(.next (crowd a w' sl),u)/\Inv P Q Zy c' a w' (t++u)/\
  ((a.size=gs.size/\∃k,c'.T=upd c.T i (f k))\/(a.size=gs.size+1/\∃k b,c'.T=upd (upd c.T i (f k)) gs.size (f b))\/(a.size=gs.size/\c'.T=c.T/\Lc a<Lc gs))
def HO(P:Program)(Q:Value->Prop)(Zy:World)(c:YJ)(gs:Array Goroutine)(w:World)(t:Trace)(i:Nat)(f:Bool×Goroutine×Z0->WJ (Bool×Goroutine×Z0)):Prop:=
 ∃c',Inv P Q Zy c' gs w t/\∃k,c'.T=upd c.T i (f k)
abbrev S'(P:Program)(Q:Value->Prop)(f:Bool×Goroutine×Z0->WJ (Bool×Goroutine×Z0)):JY:=λa g' b=>UG P Q (f (a,g',b)) a g' b
def VG.go{f}(a:gs[i]?=some g)(b:stepG P (i==0) g w=.go g' w' es)
  (h:Inv P Q Zy c' ((gs.map (woken P g g' w')).setIfInBounds i g') w' (t++MemOp.ofEvents i g.frame.fn g.frame.place es)) (k) (d:c'.T=upd c.T i (f k)):VG P Q Zy c gs w t i f:=
 λ_=>⟨c',_,w',_,runT_crowd_go a b,h,.inl ⟨o,k,d⟩⟩
variable{f:Bool×Goroutine×Z0->WJ (Bool×Goroutine×Z0)}
def Inv.ES(h:Inv P Q Zy c gs w t)(B:gs[i]?=some g)(K:B5 P (i==0) (S' P Q f) g (c.x i)):VG P Q Zy c gs w t i f:=by
 have p:=K w (h.mem.fit (.inl i)) (h.mem.Sz i);cases l:stepG P (i==0) g w with
 | go g' w' es=>
  rw[l]at p;let ⟨G',V',ad,D,L,M,E,y,F,N,O⟩:=p;have R:=Sw B;have I:∀e∈es,V5 (c.H (.inl i)) w.heap.size w'.heap.size e:=λe o=>by
   have:=F e o;split at this
   .exact this.ES
   exact this
  have C:∀j,j≠i->({c with H:=Zv c.H (.inl i) G',Z9:=upd c.Z9 i V',T:=upd c.T i (f (i==0,g',{c.x i with G:=G',Z9:=V'}))}:YJ).x j=c.x j:=λj d=>by
   have:(Sum.inl j:YS)≠.inl i:=λe=>d (by cases e;rfl);simp[YJ.x,Zu _ _ this,upd_ne _ _ d]
  refine VG.go (c':={c with H:=Zv c.H (.inl i) G',Z9:=upd c.Z9 i V',T:=upd c.T i (f (i==0,g',{c.x i with G:=G',Z9:=V'}))}) B l ?_ _ U;refine h.laid B (h.mem.own h.hold i D L M U) (h.hold.own h.mem h.mem.keep.size i E y) (h.Zq.own h.mem h.hold i D.size E y I N) h.Y7 ?_ ?_ ?_ ?_ (λj d=>⟨C j d,upd_ne _ _ d⟩) (.inr λj s S _ a b=>⟨S,a,b⟩)
  .exact h.X2.JR λb=>Vb c.H i G' b
  .refine h.X9.app R ofEvents_g (λV=>v8 λe o=>?_) (λ_ _ _ x=>x) (λ_ _ _ _ x=>x);have:=F e o;have W:(c.x i).rel=true:=V;simpa only[W,if_true] using this
  .refine h.Wi.BO h.Zq.low (λae X b n=>?_) (λj b v hv=>?_) (λs o' l=>⟨o',l,U⟩) (λj s k Y g e=>⟨k,Y,g,e⟩)
   .obtain⟨e,o,rfl⟩:=Go.Conc.mem_ofEvents X;have J:=I e o;let ⟨Z,wr,aa⟩:=e;cases Z with
    | mark m=>
     simp[V5]at J;rcases J with rfl|⟨_,rfl⟩|⟨a,rfl|rfl,_,u,A⟩
     .simp[MemAct.ofEvent]at n
     .simp[MemAct.ofEvent]at n
     .simp[MemAct.ofEvent]at n
     simp[MemAct.ofEvent]at n;subst n;refine⟨λs o' l ab=>(h.hold.UF s o' b l (.inr ab)).2.1 (.inl i) |>.1 _ ⟨_,A⟩,λj v hv=>?_⟩
     replace hv:upd c.Z9 i V' j b=some v:=hv
     have af:b<w.heap.size:=by
      let ⟨_,_,_,C,_⟩:=SF ((h.mem.fit (.inl i)).Α _ _ _ _ A);exact XP C
     by_cases d:j=i
     .subst d;rw[upd_same]at hv;rcases y b v hv with x|x
      .exact((h.hold.fresh j b v x).2.1 (.inl j)).1 _ ⟨_,A⟩
      omega
     rw[upd_ne _ _ d]at hv;exact((h.hold.fresh j b v hv).2.1 (.inl i)).1 _ ⟨_,A⟩
    | obj r=>cases wr<;>cases aa<;>simp[MemAct.ofEvent]at n
    | _=>simp[MemAct.ofEvent]at n
   replace hv:upd c.Z9 i V' j b=some v:=hv
   by_cases d:j=i
   .subst d;rw[upd_same]at hv;exact(y b v hv).imp (λx=>⟨v,x⟩) (λx=>x.1)
   rw[upd_ne _ _ d]at hv;exact .inl ⟨v,hv⟩
  refine⟨g',?_,.inl U⟩;have e:({c with H:=Zv c.H (.inl i) G',Z9:=upd c.Z9 i V',T:=upd c.T i (f (i==0,g',{c.x i with G:=G',Z9:=V'}))}:YJ).x i={c.x i with G:=G',Z9:=V'}:=by
   simp[YJ.x,upd_same]
  rw[e];show UG P Q (upd c.T i (f (i==0,g',{c.x i with G:=G',Z9:=V'})) i) _ _ _;rw[upd_same];exact O
 | _=>rw[l]at p;exact p.elim
def Wj.JR{H Z9 a O'}(h:Wj H Z9 a Zy w)(e:O'=a):Wj H Z9 O' Zy w:=e▸h
def Inv.marked(h:Inv P Q Zy c gs w t)(r:gs[i]?=some g){m}(A:m=.disable\/m=.enable){d}(hd:d=deafBehind (c.deaf i) #[Go.ConcR.mk m])(u:stepG P (i==0) g w=.go g' w #[Go.ConcR.mk m])
  (D:S' P Q f (i==0) g' {c.x i with deaf:=d}):VG P Q Zy c gs w t i f:=by
 have E:=Sw r
 have nt:∀l∈MemOp.ofEvents i g.frame.fn g.frame.place #[Go.ConcR.mk m],l.act.touch?=none:=λl n=>by
  obtain⟨e,o,rfl⟩:=Go.Conc.mem_ofEvents n;simp at o;subst o;rcases A with rfl|rfl<;>rfl
 have y:∀l∈MemOp.ofEvents i g.frame.fn g.frame.place #[Go.ConcR.mk m],l.act=.mark .disable\/l.act=.mark .enable:=λl n=>by
  obtain⟨e,o,rfl⟩:=Go.Conc.mem_ofEvents n;simp at o;subst o;rcases A with rfl|rfl
  .exact .inl U
  exact .inr U
 refine VG.go (c':={c with deaf:=upd c.deaf i d,T:=upd c.T i (f (i==0,g',{c.x i with deaf:=d}))}) r u ?_ _ U;refine h.laid r h.mem h.hold ?_ h.Y7 h.X2 ?_ ?_ ⟨g',?_,.inl U⟩ (λj B=>⟨by simp[YJ.x,upd_ne _ _ B],upd_ne _ _ B⟩) (.inr λj s F _ a b=>⟨F,a,b⟩)
 .refine h.Zq.ext h.hold i ofEvents_g (λl n=>?_) (λl n a C=>?_) (λl n b p=>?_) (λj=>?_)
  .rcases y l n with e|e<;>rw[e]<;>trivial
  .rcases y l n with e|e<;>rw[e]at C<;>cases C
  .rw[nt l n]at p;cases p
  by_cases e:j=i
  .subst e;rw[Deaf_own,h.Zq.hears,hd];exact(upd_same ..).symm
  rw[Deaf_other t (YX e) _ ofEvents_g,h.Zq.hears];exact(upd_ne _ _ e).symm
 .exact h.X9.app E ofEvents_g (λ_=>La nt) (λ_ _ _ x=>x) (λ_ _ _ _ x=>x)
 .refine h.Wi.app h.Zq.low (λl n b p=>?_) (λj b v hv=>.inl ⟨v,hv⟩) (λs o' u=>⟨o',u,U⟩) (λj s k H g e=>⟨k,H,g,e⟩);rcases y l n with e|e<;>rw[e]at p<;>cases p
 have e:({c with deaf:=upd c.deaf i d,T:=upd c.T i (f (i==0,g',{c.x i with deaf:=d}))}:YJ).x i={c.x i with deaf:=d}:=by
  simp[YJ.x,upd_same]
 rw[e];show UG P Q (upd c.T i (f (i==0,g',{c.x i with deaf:=d})) i) _ _ _;rw[upd_same];exact D
def Inv.v5(h:Inv P Q Zy c gs w t)(e:gs[i]?=some g)(a:B4 P (i==0) (S' P Q f) g (c.x i)):VG P Q Zy c gs w t i f:=by
 obtain⟨g',_,a|⟨_,a⟩⟩:=a
 .let ⟨b,d⟩:=a w (h.mem.fit (.inl i));exact h.marked e (.inl U) (by rfl) b d
 let ⟨b,d⟩:=a w (h.mem.fit (.inl i));exact h.marked e (.inr U) (by rfl) b d
def Inv.v3(h:Inv P Q Zy c gs w t)(u:gs[i]?=some g)(I:B3 P (i==0) (S' P Q f) g (c.x i)):VG P Q Zy c gs w t i f:=by
 let ⟨s,n,p,B,g',o,wr,J,V,K,W,L⟩:=I
 have M:=Sw u
 let ⟨y,N⟩:=L w (h.mem.fit (.inl i))
 have C:c.tok i s=.par n p B:=J
 let ⟨A,D⟩:=h.obj (s:=s) (by rw[C];simp)
 have O:c.rel i=false:=K
 have r:∀d∈MemOp.ofEvents i g.frame.fn g.frame.place #[Go.ConcR.mk (if wr then .write ⟨s,o,none⟩ else .read ⟨s,o,none⟩)],d.act=.mark (if wr then .write ⟨s,o,none⟩ else .read ⟨s,o,none⟩):=λd l=>by
  obtain⟨e,E,rfl⟩:=Go.Conc.mem_ofEvents l;simp at E;subst E;rfl
 refine VG.go (c':={c with T:=upd c.T i (f (i==0,g',c.x i))}) u y ?_ _ U;refine h.laid u h.mem h.hold ?_ h.Y7 h.X2 ?_ ?_ ⟨g',?_,.inl U⟩ (λj R=>⟨U,upd_ne _ _ R⟩) (.inr λj s A _ a b=>⟨A,a,b⟩)
 .refine h.Zq.ext h.hold i ofEvents_g (λd l=>?_) (λd l a F=>?_) (λd l b m=>?_) (λj=>?_)
  .rw[r d l];have:=h.low D (.inl U);cases wr<;>exact this
  .rw[r d l]at F;cases wr<;>cases F
  .rw[r d l]at m;refine⟨s,A,s,o,D,.inl U,?_⟩;cases wr<;>simp[MemAct.touch?]at m<;>subst m<;>exact⟨U,.inr ⟨U,h.Y7.par i s n p B C⟩⟩
  by_cases e:j=i
  .subst e;rw[Deaf_own,h.Zq.hears];cases wr<;>rfl
  rw[Deaf_other t (YX e) _ ofEvents_g,h.Zq.hears]
 .exact h.X9.app M ofEvents_g (λH=>by rw[O]at H;cases H) (λ_ _ _ x=>x) (λ_ _ _ _ x=>x)
 .refine h.Wi.app h.Zq.low (λd l b m=>?_) (λj b v hv=>.inl ⟨v,hv⟩) (λs o' y=>⟨o',y,U⟩) (λj s k S g e=>⟨k,S,g,e⟩);rw[r d l]at m;cases wr<;>cases m
 show UG P Q (upd c.T i (f (i==0,g',c.x i)) i) _ _ _;rw[upd_same];exact N
def Inv.quits(h:Inv P Q Zy c gs w t)(o:gs[i]?=some g)(C:BX P (i==0) (S' P Q f) g (c.x i)):VG P Q Zy c gs w t i f:=by
 let ⟨D,K,L,M,g',es,y,p,E⟩:=C
 have F:=Sw o
 have nt:∀d∈MemOp.ofEvents i g.frame.fn g.frame.place es,d.act.touch?=none:=λd l=>by
  obtain⟨e,r,rfl⟩:=Go.Conc.mem_ofEvents l;exact touch_mute (y e r)
 have u:∀d∈MemOp.ofEvents i g.frame.fn g.frame.place es,d.act=.mark .disable\/d.act=.mark .enable:=λd l=>by
  obtain⟨⟨H,wr,N⟩,r,rfl⟩:=Go.Conc.mem_ofEvents l;have:=y _ r;cases H<;>simp[Event.mute]at this;rename_i m;cases m<;>simp_all [MemAct.ofEvent]
 refine VG.go (c':={c with deaf:=upd c.deaf i (deafBehind (c.deaf i) es),T:=upd c.T i (f (i==0,g',{c.x i with deaf:=deafBehind (c.x i).deaf es}))}) o (by rw[D];exact p w) ?_ _ U;refine h.laid o h.mem h.hold ?_ h.Y7 h.X2 ?_ ?_ ⟨g',?_,.inl U⟩ (λj A=>⟨by simp[YJ.x,upd_ne _ _ A],upd_ne _ _ A⟩) (.inr λj s I _ a b=>⟨I,a,b⟩)
 .refine h.Zq.ext h.hold i ofEvents_g (λd l=>?_) (λd l a B=>?_) (λd l b n=>?_) (λj=>?_)
  .rcases u d l with e|e<;>rw[e]<;>trivial
  .rcases u d l with e|e<;>rw[e]at B<;>cases B
  .rw[nt d l]at n;cases n
  by_cases e:j=i
  .subst e;rw[Deaf_own,h.Zq.hears];exact(upd_same ..).symm
  rw[Deaf_other t (YX e) _ ofEvents_g,h.Zq.hears];exact(upd_ne _ _ e).symm
 .exact h.X9.app F ofEvents_g (λ_=>La nt) (λ_ _ _ x=>x) (λ_ _ _ _ x=>x)
 .refine h.Wi.app h.Zq.low (λd l b n=>?_) (λj b v hv=>.inl ⟨v,hv⟩) (λs o' p=>⟨o',p,U⟩) (λj s k J g e=>⟨k,J,g,e⟩);rcases u d l with e|e<;>rw[e]at n<;>cases n
 have e:({c with deaf:=upd c.deaf i (deafBehind (c.deaf i) es),T:=upd c.T i (f (i==0,g',{c.x i with deaf:=deafBehind (c.x i).deaf es}))}:YJ).x i={c.x i with deaf:=deafBehind (c.x i).deaf es}:=by
  simp[YJ.x,upd_same]
 rw[e];show UG P Q (upd c.T i (f (i==0,g',{c.x i with deaf:=deafBehind (c.x i).deaf es})) i) _ _ _;rw[upd_same];exact E
end
end Go.TL
namespace Go.TL
open Go.Conc
open Go.ConcM (OsLater)
open Go.ConcN (sumTo upd sumTo_upd upd_ne upd_same sumTo_congr le_sumTo)
section
variable{P:Program}{Q:Value->Prop}{Zy:World}{c c':YJ}{gs:Array Goroutine}{w w':World}{t:Trace}{i:Nat}{g g':Goroutine}{es:Array Event}
variable{f:Bool×Goroutine×Z0->WJ (Bool×Goroutine×Z0)}
def vZ{a o' t t'}(h:Act a t o' t'):(∀q p,t'≠.par q p .Zg)/\(∀q p,t≠.par q p .Zg)/\∀k L g,t=.ch k (.YG L) g->∃g',t'=.ch k (.YG L) g':=by
 cases h<;>refine⟨λq p e=>?_,λq p e=>?_,λk L g e=>?_⟩<;>cases e
 all_goals exact⟨_,U⟩
def BN{B:Type}(p){y}(b:p y=false):∀(l:List B)(k) x,l[k]?=some x->p x=true->((l.set k y).filter p).length<(l.filter p).length
 | [],k,x,h,_=>by simp at h
 | z::l,0,x,h,a=>by
  simp at h;subst h;simp[a,b]
 | z::l,k+1,x,h,a=>by
  have:=BN p b l k x (by simpa using h) a;simp[MR];split<;>simpa using this
def vY{k}(a:gs[k]?=some g)(b:g.status=.running)(c:g'.status≠.running):Lc (gs.setIfInBounds k g')<Lc gs:=by
 unfold Lc;rw[Array.toList_setIfInBounds];exact BN (λg:Goroutine=>decide (g.status=.running)) (by simp[c]) _ k g (by rw[<-a];simp) (by simp[b])
def Inv.atom(h:Inv P Q Zy c gs w t)(E:gs[i]?=some g)(al:Ve g)(ax:UG P Q (c.T i) (i==0) g (c.x i))(ay:Atom P (i==0) (S' P Q f) g (c.x i)):VG P Q Zy c gs w t i f:=by
 let ⟨s,sp,az,aA,aB⟩:=ay
 have X:=Sw E
 let ⟨d,l,Y⟩:=h.Y7.Pr i s sp az
 have aC:∀b,X6 s sp b->b<w.heap.size:=λb n=>h.low l (by rw[Y];exact n)
 have aD:¬Xp (c.tok i s):=aA
 have aE:c.tok i s≠.nil:=λe=>aD (by rw[e];trivial)
 have am:∀{w'}{es}{k:Nat},Xe (λb _=>X6 s sp b) (λ_=>False) w w'->QZ s sp (c.x i).deaf es->Vd c.H c.Z9 c.tok c.O c.Ze c.deaf w'.heap.size (t++MemOp.ofEvents i g.frame.fn g.frame.place es):=λ{w' es k} K A=>by
  refine Vd.grow ?_ K.size;refine h.Zq.ext h.hold i ofEvents_g (λM I=>?_) (λM I a an=>?_) (λM I b n=>?_) (λj=>?_)
  .rcases HP A I with(e|e)|⟨b,Z,wr,e,n⟩
   .rw[e];trivial
   .rw[e];trivial
   rw[e];exact aC b n
  .rcases HP A I with(e|e)|⟨b,Z,wr,e,n⟩<;>rw[e]at an<;>cases an
  .rcases HP A I with(e|e)|⟨J,Z,wr,e,ao⟩
   .rw[e]at n;cases n
   .rw[e]at n;cases n
   rw[e]at n;simp[MemAct.touch?]at n;subst n;exact⟨s,d,J,Z,l,by rw[Y];exact ao,U,.inl U⟩
  by_cases e:j=i
  .subst e;rw[Deaf_own,h.Zq.hears];exact A.1
  rw[Deaf_other t (YX e) _ ofEvents_g,h.Zq.hears]
 have ap:∀{es},QZ s sp (c.x i).deaf es->∀M∈MemOp.ofEvents i g.frame.fn g.frame.place es,∀b,M.act≠.mark (.releaseMerge ⟨b,0,none⟩):=λA M I b n=>by
  rcases HP A I with(e|e)|⟨J,Z,wr,e,ao⟩<;>rw[e]at n<;>cases n
 have aq:∀{es},QZ s sp (c.x i).deaf es->∀k,t.size<=k->¬(t++MemOp.ofEvents i g.frame.fn g.frame.place es).counts k:=λA=>v7 (by rw[h.Zq.hears];exact A);rcases aB w (XZ gs.size d (λj=>c.tok j s)) d (h.mem.fit (.inl i)) (h.mem.Sz i) Y (h.mem.XU s d l) (λaF aG hv=>by
   let ⟨aY,ar,Υ,aH⟩:=h.Y7.ME i s aF aG hv;rw[l]at ar;cases ar;exact⟨Υ,aH⟩) ⟨gs.size,λj=>c.tok j s,i,h.Y7.Z4 s d l,X,U,λk L g e=>h.Y7.YG i s k L g d l e⟩with aa|⟨aI,aJ,F⟩
 .cases F:stepG P (i==0) g w with
  | go g' w' es=>
   rw[F]at aa;let ⟨aK,K,A,aL⟩:=aa;have au:Xe (λb _=>X6 s d.toSpec b) (λ_=>False) w w':=by rw[Y];exact K
   rcases aL with⟨ae,af⟩|⟨o',t',S,ae,aM,af⟩
   .refine VG.go (c':={c with view:=upd c.view i (upd (c.view i) s (some (XZ gs.size d (λj=>c.tok j s),d))),T:=upd c.T i (f (i==0,g',{c.x i with view:=upd (c.view i) s (some (XZ gs.size d (λj=>c.tok j s),d))}))}) E F ?_ _ U;refine h.laid E ((h.mem.atom h.hold U l U au ae).JR (HQ l).symm) h.hold (am (k:=0) K A) (h.Y7.look l) h.X2
     (h.X9.app X ofEvents_g (λ_=>aq A) (λ_ _ _ x=>x) (λ_ _ _ _ x=>x))
     (h.Wi.app h.Zq.low (ap A) (λj b v hv=>.inl ⟨v,hv⟩) (λs o' F=>⟨o',F,U⟩) (λj s k ab g e=>⟨k,ab,g,e⟩))
     ⟨g',?_,.inl U⟩ (λj B=>⟨by simp[YJ.x,upd_ne _ _ B],upd_ne _ _ B⟩) (.inr λj s d _ a b=>⟨d,a,b⟩)
    have e:({c with view:=upd c.view i (upd (c.view i) s (some (XZ gs.size d (λj=>c.tok j s),d))),T:=upd c.T i (f (i==0,g',{c.x i with view:=upd (c.view i) s (some (XZ gs.size d (λj=>c.tok j s),d))}))}:YJ).x i={c.x i with view:=upd (c.view i) s (some (XZ gs.size d (λj=>c.tok j s),d))}:=by
     simp[YJ.x,upd_same]
    rw[e];show UG P Q (upd c.T i (f (i==0,g',{c.x i with view:=upd (c.view i) s (some (XZ gs.size d (λj=>c.tok j s),d))})) i) _ _ _;rw[upd_same];exact af
   have aN:=B9 (N:=gs.size) (τ:=λj=>c.tok j s) X U S
   have aO:=af _ aN
   let ⟨ag,aP,aQ⟩:=BU S
   let ⟨aR,aS,aT⟩:=vZ S
   have av:=Sx.upd l ag
   have ad:∀j r q p,Zj c.tok i s t' j r=.par q p .Zg↔c.tok j r=.par q p .Zg:=λj r q p=>by
    by_cases e:j=i/\r=s
    .obtain⟨rfl,rfl⟩:=e;rw[Xw];exact⟨λx=>absurd x (aR q p),λx=>absurd x (aS q p)⟩
    rw[XI _ e]
   have aU:∀j r k L g,c.tok j r=.ch k (.YG L) g->∃g',Zj c.tok i s t' j r=.ch k (.YG L) g':=λj r k L g B=>by
    by_cases e:j=i/\r=s
    .obtain⟨rfl,rfl⟩:=e;rw[Xw];exact aT k L g B
    rw[XI _ e];exact⟨g,B⟩
   have keepW:o'=d->∀j r q,j≠i->c.O r=some q->Uo q (c.tok j r)->∃aw,upd c.O s (some o') r=some aw/\Uo aw (c.tok j r):=λah j r q _ a b=>⟨q,by
    by_cases e:r=s
    .subst e;subst ah;rw[l]at a;cases a;exact upd_same _ _ _
    rw[upd_ne _ _ e];exact a,b⟩
   have ai:∀r q,upd c.O s (some o') r=some q->∃C,c.O r=some C/\C.toSpec=q.toSpec/\C.L=q.L/\C.R=q.R:=λr q D=>by
    by_cases e:r=s
    .subst e;rw[upd_same]at D;cases D;exact⟨d,l,ag.symm,aP.symm,aQ.symm⟩
    rw[upd_ne _ _ e]at D;exact⟨q,D,U,U,U⟩
   let V:Z0:={c.x i with tok:=upd (c.tok i) s t',view:=upd (c.view i) s (some (XZ gs.size o' (upd (λj=>c.tok j s) i t'),o'))};refine VG.go (c':={c with tok:=Zj c.tok i s t',view:=upd c.view i (upd (c.view i) s (some (XZ gs.size o' (upd (λj=>c.tok j s) i t'),o'))),O:=upd c.O s (some o'),T:=upd c.T i (f (i==0,g',V))}) E F ?_ _ U;refine h.laid E (h.mem.atom h.hold U l ag au ae) (h.hold.SG av) ((am (k:=0) K A).we av λj r B e=>?_) (h.Y7.act l U S) ⟨λr q m D aj ak aV=>?_,λr q D ak=>?_⟩
    (h.X9.app X ofEvents_g (λ_=>aq A) (λs q p ⟨j,x⟩=>⟨j,(ad j s q p).1 x⟩) (λj s q p x=>(ad j s q p).1 x))
    (h.Wi.app h.Zq.low (ap A) (λj b v hv=>.inl ⟨v,hv⟩) (λr q D=>let ⟨C,a,b,_⟩:=ai r q D;⟨C,a,by rw[b]⟩) (λj r k ab g e=>?_))
    ⟨g',?_,.inl U⟩ (λj B=>⟨by simp[YJ.x,upd_ne _ _ B,Oy _ B],upd_ne _ _ B⟩) (aM.imp (λaj=>⟨aj,aK⟩) λah=>keepW ah)
   .by_cases W:j=i/\r=s
    .obtain⟨rfl,rfl⟩:=W;exact aE e
    apply B;show Zj c.tok i s t' j r=.nil;rw[XI _ W];exact e
   .let ⟨C,a,b,J,_⟩:=ai r q D
    have:=h.X2.P9 r C m a (by rw[b];exact aj) (λj q p x=>ak j q p ((ad j r q p).2 x)) (λj k L g x=>let ⟨g',y⟩:=aU j r k L g x;aV j k L g' y);rw[b,J]at this;exact this
   .let ⟨C,a,b,_,J⟩:=ai r q D
    have:=h.X2.QT r C a (λj q p x=>ak j q p ((ad j r q p).2 x));rw[b,J]at this;exact this
   .by_cases W:j=i/\r=s
    .obtain⟨rfl,rfl⟩:=W;let ⟨aW,aX,y,_⟩:=(BT S).2.1 k ab g e;exact⟨k,aW,aX,by show Zj c.tok j r t' j r=_;rw[Xw];exact y⟩
    exact⟨k,ab,g,by show Zj c.tok i s t' j r=_;rw[XI _ W];exact e⟩
   have e:({c with tok:=Zj c.tok i s t',view:=upd c.view i (upd (c.view i) s (some (XZ gs.size o' (upd (λj=>c.tok j s) i t'),o'))),O:=upd c.O s (some o'),T:=upd c.T i (f (i==0,g',V))}:YJ).x i=V:=by
    simp[V,YJ.x,upd_same,Mx]
   rw[e];show UG P Q (upd c.T i (f (i==0,g',V)) i) _ _ _;rw[upd_same];exact aO
  | _=>rw[F]at aa;exact aa.elim
 refine λsl=>⟨c,_,w,_,runT_crowd_go E F,?_,.inr (.inr ⟨o,U,?_⟩)⟩
 .rw[BP,NP];have:=h.laid (c':=c) (u:=#[]) E (g':={g with status:=.blocked}) h.mem h.hold (by rw[NP];exact h.Zq) h.Y7 h.X2 (by rw[NP];exact h.X9) (by rw[NP];exact h.Wi) ⟨g,ax,.inr ⟨al,U,s,d,l,aI,aJ⟩⟩ (λj B=>⟨U,U⟩) (.inr λj s d _ a b=>⟨d,a,b⟩)
  rwa [NP]at this
 have e:gs.map (woken P g {g with status:=.blocked} w)=gs:=by
  have:woken P g {g with status:=.blocked} w=id:=by
   funext b;simp[woken]
  rw[this];simp
 rw[e];exact vY E al.1 o
end
def BM:∀(q:Nat)(l:Z6),l.Nodup->(∀x∈l,x<q)->l.length<=q:=by
 intro q
 induction q with
 | zero=>intro l _ h;cases l with
  | nil=>simp
  | cons a l=>exact absurd (h a o) J
 | succ q e=>
  intro l b h;have:=e (l.erase q) (b.erase q) (λx f=>by
   have c:=(b.mem_erase_iff).1 f
   have:=h x c.2
   have:=c.1;omega)
  by_cases d:q∈l
  .have:=List.length_erase_of_mem d;omega
  rw[List.erase_of_not_mem d]at this;omega
def vX(l:Z6)(q:Nat)(b:l.Nodup)(h:∀x∈l,x<q)(e:l.length=q):∀k,k<q->k∈l:=λk c=>by
 apply Tn;intro d;have:=BM q (k::l) (Q2.2 ⟨d,b⟩) (λx a=>by
  rcases YU.1 a with rfl|a
  .exact c
  exact h x a)
 simp at this;omega
section
variable{n:Nat}{tok:Nat->Nat->Tok}{spec:Nat->Nat->Option Spec}{view:Nat->Nat->Option (Nat×Z5)}{rel:Nat->Bool}{O:Nat->Option Z5}{Ze home:Nat->Nat}{s i:Nat}{Η:Z5}
def XT.fin(h:XT n tok spec view rel O Ze home)(o:O s=some Η){j q p:Nat}{e:Lf}(b:tok j s=.par q p e)(r:Vr (.par q p e)=1):p=0/\Η.cnt=0/\∀a k m g,tok a s=.ch k m g->g=.gone:=by
 have f:j<n:=h.lt (s:=s) (by rw[b];simp)
 have c:=(h.Z4 s Η o).2
 have u:ZO n (λa=>tok a s) Vr=1:=by
  rw[Qa (φ:=Vr) (λt b=>by cases t<;>simp_all [XO,Vr]) c.RI f (by rw[b];rfl),b,r]
 have v:ZO n (λa=>tok a s) V4=p:=by
  rw[Qa (φ:=V4) (λt b=>by cases t<;>simp_all [XO,V4]) c.RI f (by rw[b];rfl),b];rfl
 obtain⟨f1,f2,f3,f4,f5,f6⟩:=c.Cc u;refine⟨J,f4,λa k m g i=>?_⟩;have d:a<n:=h.lt (s:=s) (by rw[i];simp);have w:=c.EZ;have l1:=Xj (λa=>tok a s) U1 d;have l2:=Xj (λa=>tok a s) Uq d;have l:=Xj (λa=>tok a s) Up d;simp only[i,U1,Uq,Up]at l1 l2 l;cases g with
 | gone=>rfl
 | work=>simp only[OC]at l1;omega
 | rel=>simp only[OC]at l1;omega
 | l2=>simp only[MJ]at l2;omega
 | Qd=>simp only[MI]at l;omega
def XT.BL(h:XT n tok spec view rel O Ze home)(a:O s=some Η){k:Nat}{m:Tf}{g:ML}(b:tok i s=.ch k m g)(c:g≠.gone):∀j q p,tok j s≠.par q p .Zg:=λj q p d=>
 c ((h.fin a d U).2.2 i k m g b)
def XT.only(h:XT n tok spec view rel O Ze home)(c:O s=some Η)(b:Vt (tok i s)=1):∀j k L g,tok j s=.ch k (.YG L) g->j=i:=λj k L g d=>by
 apply Tn;intro f;have l:i<n:=h.lt (s:=s) (by intro e;rw[e]at b;cases b);have m:j<n:=h.lt (s:=s) (by rw[d];simp);have o:=WK (λa=>tok a s) .nil Vt l;have Υ:=Xj (upd (λa=>tok a s) i .nil) Vt m;rw[upd_ne _ _ f]at Υ;have p:Vt .nil=0:=rfl;have r:Vt (tok j s)=1:=by rw[d];rfl
 simp only[b,p]at o;simp only[r]at Υ;have:=(h.Z4 s Η c).1.Ce;have:=(h.Z4 s Η c).1.f1;omega
def Pl(tok:Nat->Nat->Tok)(s:Nat):Nat->Z6
 | 0=>[]
 | n+1=>match tok n s with
  | .ch k _ _=>k::Pl tok s n
  | _=>Pl tok s n
def JQ(tok:Nat->Nat->Tok)(s:Nat):∀n k,k∈Pl tok s n↔∃j m g,j<n/\tok j s=.ch k m g
 | 0,k=>by simp[Pl]
 | n+1,k=>by
  have c:=JQ tok s n k
  have d:(∃j m g,j<n/\tok j s=.ch k m g)->∃j m g,j<n+1/\tok j s=.ch k m g:=λ⟨j,m,g,f,a⟩=>⟨j,m,g,J,a⟩
  have split:(∃j m g,j<n+1/\tok j s=.ch k m g)->(∃j m g,j<n/\tok j s=.ch k m g)\/∃m g,tok n s=.ch k m g:=λ⟨j,m,g,f,a⟩=>by
   by_cases e:j=n
   .subst e;exact .inr ⟨m,g,a⟩
   exact .inl ⟨j,m,g,J,a⟩
  unfold Pl;cases b:tok n s with
  | nil=>exact c.trans ⟨d,λh=>(split h).elim id λ⟨m,g,e⟩=>by rw[b]at e;cases e⟩
  | par=>exact c.trans ⟨d,λh=>(split h).elim id λ⟨m,g,e⟩=>by rw[b]at e;cases e⟩
  | ch l i g'=>
   rw[YU,c];constructor
   .rintro(rfl|h)
    .exact⟨n,i,g',J,b⟩
    exact d h
   intro h;rcases split h with h|⟨m,g,e⟩
   .exact .inr h
   rw[b]at e;cases e;exact .inl U
def BK(tok:Nat->Nat->Tok)(s:Nat):∀n,(Pl tok s n).length=ZO n (λa=>tok a s) Tc
 | 0=>rfl
 | n+1=>by
  have b:=BK tok s n;rw[MG];unfold Pl;cases c:tok n s<;>simp[Tc,b]
def BJ(c:∀j d k m g a g',tok j s=.ch k m g->tok d s=.ch k a g'->j=d):∀n,(Pl tok s n).Nodup
 | 0=>List.nodup_nil
 | n+1=>by
  have b:=BJ c n;unfold Pl;cases e:tok n s with
  | nil=>exact b
  | par=>exact b
  | ch k m g=>
   refine Q2.2 ⟨λh=>?_,b⟩;obtain⟨j,a,g',i,f⟩:=(JQ tok s n k).1 h;have:=c j n k a g' m g f e;omega
def XT.full(h:XT n tok spec view rel O Ze home)(f:O s=some Η){q:Nat}{d:Lf}(b:tok i s=.par q 0 d)(u:d=.RL\/d=.w4) :
  Η.R.Perm (List.range q)/\(Η.ZR≠none->Η.L.Perm (List.range q))/\∀a k m g,tok a s=.ch k m g->g=.gone:=by
 have r:i<n:=h.lt (s:=s) (by rw[b];simp)
 have v:Vr (.par q 0 d)=1:=by rcases u with rfl|rfl<;>rfl
 obtain⟨_,_,o⟩:=h.fin f b v;have p:=(h.Z4 s Η f).2;have J:ZO n (λa=>tok a s) Vs=q:=by
  rw[Qa (φ:=Vs) (λt b=>by cases t<;>simp_all [XO,Vs]) p.RI r (by rw[b];rfl),b];rfl
 have K:ZO n (λa=>tok a s) V4=0:=by
  rw[Qa (φ:=V4) (λt b=>by cases t<;>simp_all [XO,V4]) p.RI r (by rw[b];rfl),b];rfl
 have M:=p.Cd
 have w:=h.par i s q 0 d b;subst w;have x:=BJ (tok:=tok) (s:=s) (λj y k m g A g' B C=>h.MD s j y k m g A g' B C) n;have lt:∀k∈Pl tok s n,k<q:=λk l=>by
  obtain⟨j,m,g,_,c⟩:=(JQ tok s n k).1 l;have:=h.NJ s j k m g q 0 d c b;omega
 have full:=vX _ q x lt (by rw[BK];omega);obtain⟨D,E⟩:=h.Pq s Η f;obtain⟨F,H⟩:=h.Sy s Η f;refine⟨(List.perm_ext_iff_of_nodup D H7).2 λk=>?_,λI=>(List.perm_ext_iff_of_nodup F H7).2 λk=>?_,o⟩
 .rw[E,VR];constructor
  .rintro⟨j,m,g,c,_⟩;have:=h.NJ s j k m g q 0 d c b;omega
  intro l;obtain⟨j,m,g,_,c⟩:=(JQ tok s n k).1 (full k l);exact⟨j,m,g,c,by rw[o j k m g c];simp⟩
 rw[H,VR];constructor
 .rintro⟨j,m,g,c,_⟩;have:=h.NJ s j k m g q 0 d c b;omega
 intro l;obtain⟨j,m,g,_,c⟩:=(JQ tok s n k).1 (full k l);refine⟨j,m,g,c,?_⟩;rcases h.QU j s k m g Η f c (by rw[o j k m g c];simp)with rfl|⟨_,e⟩
 .trivial
 exact absurd e I
end
section
variable{H H':YS->Φ}{Z9 NI:Nat->Nat->Option (ZP×TypeId)}{tok OA:Nat->Nat->Tok}{O O':Nat->Option Z5}{Ze:Nat->Nat}{deaf:Nat->Nat}{N Pp:Nat}{t:Trace}{Zy w w':World}{i:Nat}{y:MemOp}{b s:Nat}{Η:Z5}
def ofEvents_one{fn:FuncId}{pos:String}{e:Event}:MemOp.ofEvents i fn pos #[e]=#[{g:=i,fn,pos,act:=.ofEvent e}]:=by rw[ofEvents_eq];simp
def Vd.word(h:Vd H Z9 tok O Ze deaf N t)(u:y.g=i)(n:y.act=.mark (.acquire ⟨b,0,none⟩)\/y.act=.mark (.releaseMerge ⟨b,0,none⟩))(w:b<N)(A:Sx O O')(hv:∀j b v,NI j b=some v->Z9 j b=some v)
  (B:∀k,Yy (t++#[y]) (UE OA O' (t++#[y]) k) (H' k)):Vd H' NI OA O' Ze deaf N (t++#[y]):=by
 have nt:y.act.touch?=none:=by rcases n with e|e<;>rw[e]<;>rfl
 have p:∀k a,touchAt (t++#[y]) k=some a->touchAt t k=some a/\k<t.size:=λk a l=>by
  obtain⟨x,C,o⟩:=touch_of l;rcases getElem?_append_cases C with⟨D,E⟩|⟨_,r⟩
  .exact⟨by rw[touchAt_of E];exact o,D⟩
  simp at r;subst r;rw[nt]at o;cases o
 refine⟨λF=>noRace_append (g:=i) (h.race F) (λm d=>by simp at d;subst d;exact u) (λk a _ m d c f _=>by simp at d;subst d;rw[nt]at f;cases f),λm d=>?_,λm d a=>?_,B,λj c v f k a l=>h.QY j c v (hv j c v f) k a (p k a l).1,λs o' c I f k a l J=>?_,λj=>?_⟩
 .rcases Q3.1 d with d|d
  .exact h.low m d
  simp at d;subst d;rcases n with e|e<;>rw[e]<;>exact w
 .rcases Q3.1 d with d|d
  .exact h.norel m d a
  simp at d;subst d;rcases n with e|e<;>rw[e]<;>simp
 .obtain⟨K,L,M⟩:=A.1 s o' I;obtain⟨P,Q⟩:=p k a l;rcases h.cont s K c L (by rw[M];exact f) k a P J with x|⟨x,R⟩
  .exact .inl x
  exact .inr ⟨x,by rw[g?_old Q];exact R⟩
 rw[Deaf_push,<-h.hears j];rcases n with e|e<;>simp[deafStep,e]
def Vd.K9(h:Vd H Z9 tok O Ze deaf N t)(k:YS)(nt:y.act.touch?=none)(d:Sx O O')(e:∀i s,OA i s≠.nil->tok i s≠.nil):Yy (t++#[y]) (UE OA O' (t++#[y]) k) (H k):=
 (h.perms k).others (λ_ f=>HS d.1 e (ET _ f)) λg b a c=>by simp at b;subst b;rw[nt]at c;cases c
def Knows.marked{p:Nat}{c:MemOp}(e:t[p]?=some c)(k:c.act=.mark (.releaseMerge ⟨b,0,none⟩))(l:t.heard p)(m:∀c∈t,∀a,c.act≠.mark (.release a))(f:y.g=i)(n:y.act=.mark (.acquire ⟨b,0,none⟩))(hd:Deaf t i=0):Knows (t++#[y]) i p:=by
 have h:(t++#[y])[t.size]?=some y:=o
 have r:(t++#[y]).heard t.size:=⟨i,by simp[Trace.g?,f],by rw[deaf_old (Z3 _)];exact hd⟩
 have d:=lt_size_of_getElem? e;refine⟨t.size,y,h,f,.inr (.single (.inr ⟨.marked (a:=⟨b,0,none⟩) d (.inr ?_) ?_ ?_,(heard_old d).2 l,r⟩))⟩
 .rw[act?_old d,act?_of e,k]
 .rw[act?_of h,n]
 intro x A s j;rw[act?_old s]at j;obtain⟨u,v,w⟩:=T7.1 j;exact m u (mem_of_getElem? v) _ w
def Yy.R9{b:Nat->Prop}{G:Φ}(h:Yy t b G)(nt:y.act.touch?=none)(e:∀k,b k->Knows (t++#[y]) i k):Yy (t++#[y]) (Knows (t++#[y]) i) G:=
 h.others e λf c a d=>by simp at c;subst c;rw[nt]at d;cases d
def Sub.empty(G:Φ):Sub Φ.empty G:=⟨λ_ _ _ _ h=>(by cases h),λ_ _ h=>(by cases h),λ_ _ h=>(by cases h)⟩
def Sub.both{A B e:Φ}(h:Sub A e)(k:Sub B e):Sub (join A B) e:=by
 refine⟨λb Η v p c=>?_,λb x d=>?_,λb x hv=>?_⟩
 .simp only[join]at c;cases a:A.Α b Η with
  | none=>rw[a]at c;exact k.Α b Η v p c
  | some z=>rw[a]at c;cases c;exact h.Α b Η v p a
 .simp only[join]at d;cases a:A.row b with
  | none=>rw[a]at d;exact k.row b x d
  | some z=>rw[a]at d;cases d;exact h.row b _ a
 simp only[join]at hv;cases a:A.obj b with
 | none=>rw[a]at hv;exact k.obj b x hv
 | some z=>rw[a]at hv;cases hv;exact h.obj b _ a
def Sub.vW{G H:Φ}(d:Fits G w)(e:Fits H w)(f:Apart G H):Sub H (join G H):=by
 refine⟨λb Η v p c=>?_,λb x g=>?_,λb x hv=>?_⟩
 .simp only[join];cases a:G.Α b Η with
  | none=>exact⟨p,c,id⟩
  | some z=>
   obtain⟨v',h⟩:=z;have j:=d.Α b Η v' h a;have Υ:=e.Α b Η v p c;rw[j]at Υ;cases Υ;refine⟨h,U,λk=>?_⟩;subst k;exact absurd ⟨_,a⟩ (f.Qe b Η ⟨_,c⟩)
 .simp only[join];cases a:G.row b with
  | none=>exact g
  | some z=>
   obtain⟨t1,l⟩:=z;obtain⟨t2,m⟩:=x;obtain⟨s,_,n,o⟩:=d.row b t1 l a;obtain⟨t,_,i,r⟩:=e.row b t2 m g;rw[n]at i;cases i;rw[<-o,<-r]
 simp only[join];cases a:G.obj b with
 | none=>exact hv
 | some z=>exact absurd ⟨x,hv⟩ (f.obj b ⟨z,a⟩)
def Mw(G:Φ):join G Φ.empty=G:=by
 obtain⟨a,b,c⟩:=G;simp only[join,Φ.empty];congr
 .funext x y;cases a x y<;>rfl
 .funext x;cases b x<;>rfl
 funext x;cases c x<;>rfl
def Wj.K8(h:Wj H Z9 O Zy w)(hv:∀j b v,NI j b=some v->Z9 j b=some v):Wj H NI O Zy w:=⟨h.fit,λj b c t a=>h.Sz j b c t (hv j b _ a),h.XU,h.keep⟩
def Vq.K8(h:Vq H Z9 O Pp)(hv:∀j b v,NI j b=some v->Z9 j b=some v):Vq H NI O Pp:=by
 have g:∀j b,Z9 j b=none->NI j b=none:=λj b e=>by
  cases i:NI j b with
  | none=>rfl
  | some v=>rw[hv j b v i]at e;cases e
 exact⟨h.apart,h.high,h.RH,λj b v a=>let ⟨c,d,f⟩:=h.fresh j b v (hv j b v a);⟨c,d,λk l=>g k b (f k l)⟩,λs Η b m a=>let ⟨c,d,f⟩:=h.UF s Η b m a;⟨c,d,λk=>g k b (f k)⟩,h.T4,h.P',h.X2⟩
def T3{o':Z5}(a:O s=some Η){r:Nat}{q:Z5}(h:upd O s (some o') r=some q):(r=s/\q=o')\/(r≠s/\O r=some q):=by
 by_cases e:r=s
 .subst e;rw[upd_same]at h;cases h;exact .inl ⟨U,U⟩
 rw[upd_ne _ _ e]at h;exact .inr ⟨e,h⟩
def HN{a b:Tok}(c:tok i s=a)(d:∀q p,a≠.par q p .Zg)(f:∀q p,b≠.par q p .Zg)(j r q p:Nat):Zj tok i s b j r=.par q p .Zg↔tok j r=.par q p .Zg:=by
 by_cases e:j=i/\r=s
 .obtain⟨rfl,rfl⟩:=e;rw[Xw,c];exact⟨λx=>absurd x (f q p),λx=>absurd x (d q p)⟩
 rw[XI _ e]
def JP{a b:Tok}(c:tok i s=a)(d:a≠.nil)(j r:Nat)(h:Zj tok i s b j r≠.nil):tok j r≠.nil:=by
 by_cases e:j=i/\r=s
 .obtain⟨rfl,rfl⟩:=e;rw[c];exact d
 rw[XI _ e]at h;exact h
def JO{a b:Tok}(c:tok i s=a)(d:∀k m g,a=.ch k m g->∃k m g,b=.ch k m g)(j r k:Nat)(m:Tf)(g:ML)(h:tok j r=.ch k m g):∃k m g,Zj tok i s b j r=.ch k m g:=by
 by_cases e:j=i/\r=s
 .obtain⟨rfl,rfl⟩:=e;rw[Xw];exact d k m g (c▸h)
 rw[XI _ e];exact⟨k,m,g,h⟩
end
section
variable{P:Program}{Q:Value->Prop}{Zy:World}{c c':YJ}{gs:Array Goroutine}{w w':World}{t:Trace}{i:Nat}{g g':Goroutine}{es:Array Event}
variable{f:Bool×Goroutine×Z0->WJ (Bool×Goroutine×Z0)}
def Inv.HM(h:Inv P Q Zy c gs w t)(S:gs[i]?=some g)(V:B2 P (i==0) (S' P Q f) g (c.x i)):VG P Q Zy c gs w t i f:=by
 let ⟨s,sp,m,k,g',ad,W,ae,af,az,ag,ah,ai⟩:=V
 have aj:=Sw S
 let ⟨l,d,ak⟩:=h.Y7.Pr i s sp ad;subst ak;have n:c.tok i s=.ch k .own .work:=ae;have hd:=af;have al:c.rel i=false:=ag;have am:=ah w (h.mem.fit (.inl i));have an:=h.Y7.BL d n o;have ao:=h.X2.P9 s l m d W an (λj X L g A=>by
  have:=h.Y7.only d (i:=i) (by rw[n];rfl) j X L g A;subst this;rw[n]at A;cases A)
 have ap:=ai l.L (c.H (.inr m)) ao (h.hold.apart _ _ o) ⟨(h.Y7.Sy s l d).1,λV=>(by
  let ⟨j,F,aq,E,Υ⟩:=((h.Y7.Sy s l d).2 k).1 V
  have:=h.Y7.MD s j i k F aq _ _ E n;subst this;rw[n]at E;cases E;exact Υ),w,h.mem.fit _,h.mem.fit _⟩
 let K:Z0:={c.x i with G:=join (c.H (.inl i)) (c.H (.inr m)),tok:=upd (c.tok i) s (.ch k (.YG l.L) .work),view:=upd (c.view i) s none}
 let c':YJ:={c with H:=Zv (Zv c.H (.inl i) (join (c.H (.inl i)) (c.H (.inr m)))) (.inr m) Φ.empty,tok:=Zj c.tok i s (.ch k (.YG l.L) .work),view:=upd c.view i (upd (c.view i) s none),O:=upd c.O s (some l),T:=upd c.T i (f (i==0,g',K))}
 have Y:=Sx.upd (o':=l) d U
 have Zg:=HN (b:=.ch k (.YG l.L) .work) n o o
 have ar:=JP (b:=.ch k (.YG l.L) .work) n o
 have I:X6 s l.toSpec m:=.inr W;refine VG.go (c':=c') S am ?_ _ U;rw[ofEvents_one];have au:c'.x i=K:=by
  have:(Sum.inl i:YS)≠.inr m:=o;simp[c',K,YJ.x,upd_same,Mx,Zu _ _ this]
 refine h.laid (c':=c') S (h.mem.two (JU (h.mem.fit _) (h.mem.fit _)) (MC w) λr q C=>?_) ?_ ?_ (h.Y7.EY d n) ⟨λr q F C Z M aa=>?_,λr q C M=>?_⟩
  (h.X9.app aj (λab B=>by simp at B;subst B;rfl) (λN=>by rw[al]at N;cases N) (λs q p ⟨j,x⟩=>⟨j,(Zg j s q p).1 x⟩) (λj s q p x=>(Zg j s q p).1 x))
  (h.Wi.app h.Zq.low (λab B b av=>by simp at B;subst B;cases av) (λj b v hv=>.inl ⟨v,hv⟩) (λr q C=>?_) (λj r X aw g e=>JO n (λ_ _ _ _=>⟨_,_,_,U⟩) j r X aw g e))
  ⟨g',?_,.inl U⟩ (λj A=>⟨?_,upd_ne _ _ A⟩) (.inr λj r q _ a b=>?_)
 .rcases T3 d C with⟨rfl,rfl⟩|⟨_,u⟩
  .exact h.mem.XU _ _ d
  exact h.mem.XU _ _ u
 .exact h.hold.two o (Sub.refl _) (Sub.empty _) (Apart.Po _) Y λx N=>by
   rcases N with e|e
   .cases e;exact⟨s,l,d,I⟩
   cases e
 .refine h.Zq.word (i:=i) U (.inl U) (h.low d I) Y (λ_ _ _ x=>x) λa=>?_;by_cases Υ:a=.inr m
  .subst Υ;show Yy _ _ (Zv _ _ _ _);rw[Yk];exact Yy.empty
  show Yy _ _ (Zv _ _ _ _);rw[Zu _ _ Υ];by_cases E:a=.inl i
  .subst E;rw[Yk];exact((h.Zq.perms (.inl i)).own (λab B=>by simp at B;subst B;rfl)).join ((h.Zq.perms (.inr m)).acquire h.Zq.norel d I (by rw[n];simp) U U (by rw[h.Zq.hears];exact hd))
  rw[Zu _ _ E];exact h.Zq.K9 a U Y ar
 .rcases T3 d C with⟨rfl,rfl⟩|⟨e,u⟩
  .exact absurd (Xw ..) (aa i k q.L .work)
  have J:(.inr F:YS)≠.inr m:=λx=>by cases x;exact e (h.hold.T4 r s q l m u d (.inr Z) I)
  show q.Yd q.L (Zv (Zv c.H _ _) (.inr m) _ (.inr F));rw[Zu _ _ J,Vb];exact h.X2.P9 r q F u Z (λj q p x=>M j q p ((Zg j r q p).2 x)) λj k L g x=>aa j k L g (by show Zj c.tok i s _ j r=_;rw[XI _ (λy=>e y.2)];exact x)
 .rcases T3 d C with⟨rfl,rfl⟩|⟨e,u⟩
  .have J:(.inr r:YS)≠.inr m:=λx=>by cases x;exact h.hold.P' _ q m d W U
   show Ta q.D q.R (Zv (Zv c.H _ _) (.inr m) _ (.inr r));rw[Zu _ _ J,Vb];exact h.X2.QT r q d (λj q p x=>M j q p ((Zg j r q p).2 x))
  have J:(.inr r:YS)≠.inr m:=λx=>by cases x;exact e (h.hold.T4 m s q l m u d (.inl U) I)
  show Ta q.D q.R (Zv (Zv c.H _ _) (.inr m) _ (.inr r));rw[Zu _ _ J,Vb];exact h.X2.QT r q u (λj q p x=>M j q p ((Zg j r q p).2 x))
 .rcases T3 d C with⟨rfl,rfl⟩|⟨_,u⟩
  .exact⟨_,d,U⟩
  exact⟨q,u,U⟩
 .rw[au];show UG P Q (upd c.T i (f (i==0,g',K)) i) _ _ _;rw[upd_same];exact ap
 .have ax:(Sum.inl j:YS)≠.inr m:=by simp
  have ay:(Sum.inl j:YS)≠.inl i:=λe=>A (by cases e;rfl);simp[c',YJ.x,upd_ne _ _ A,Oy _ A,Zu _ _ ax,Zu _ _ ay]
 exact⟨q,by show upd c.O s (some l) r=some q;rw[HQ d];exact a,b⟩
def Inv.EN(h:Inv P Q Zy c gs w t)(ad:gs[i]?=some g)(ap:B1 P (i==0) (S' P Q f) g (c.x i)):VG P Q Zy c gs w t i f:=by
 let ⟨s,sp,m,k,L,g',G',E,aq,ae,af,ag,aH,ar,au,I,av,aw⟩:=ap
 have ax:=Sw ad
 let ⟨d,n,ay⟩:=h.Y7.Pr i s sp aq;subst ay;have M:=af;have hd:=ag;have ai:c.rel i=false:=ar;have az:=au w (h.mem.fit (.inl i));have aA:=h.Y7.YG i s k L .work d n M;let o':Z5:={d with L:=d.L++[k]};let V:Z0:={c.x i with G:=G',tok:=upd (c.tok i) s (.ch k .fin .work),view:=upd (c.view i) s none};let c':YJ:={c with H:=Zv (Zv c.H (.inl i) G') (.inr m) E,tok:=Zj c.tok i s (.ch k .fin .work),view:=upd c.view i (upd (c.view i) s none),O:=upd c.O s (some o'),T:=upd c.T i (f (i==0,g',V))};have W:Sx c.O (upd c.O s (some o')):=Sx.upd n U;have Zg:=HN (b:=.ch k .fin .work) M o o;have aj:=JP (b:=.ch k .fin .work) M o;have K:X6 s d.toSpec m:=.inr ae;refine VG.go (c':=c') ad az ?_ _ U;rw[ofEvents_one];have aB:c'.x i=V:=by
  have:(Sum.inl i:YS)≠.inr m:=o;simp[c',V,YJ.x,upd_same,Mx,Zu _ _ this]
 refine h.laid (c':=c') ad (h.mem.two (I.l.fits (h.mem.fit (.inl i))) (I.r.fits (h.mem.fit (.inl i))) λr q C=>?_) ?_ ?_ (h.Y7.wi n M) ⟨λr q B C J X aC=>?_,λr q C X=>?_⟩
  (h.X9.app ax (λF u=>by simp at u;subst u;rfl) (λY=>by rw[ai]at Y;cases Y) (λs q p ⟨j,x⟩=>⟨j,(Zg j s q p).1 x⟩) (λj s q p x=>(Zg j s q p).1 x))
  ⟨λr q B C J p F aD N=>?_,λj b v hv F u N=>?_⟩
  ⟨g',?_,.inl U⟩ (λj Z=>⟨?_,upd_ne _ _ Z⟩) (.inr λj r q _ a b=>?_)
 .rcases T3 n C with⟨rfl,rfl⟩|⟨_,A⟩
  .exact(h.mem.XU r d n:At r d w)
  exact h.mem.XU _ _ A
 .exact h.hold.two o I.l.Pn I.r.Pn I.apart W λx Y=>by
   rcases Y with e|e
   .cases e;exact⟨s,d,n,K⟩
   cases e
 .refine h.Zq.word (i:=i) U (.inr U) (h.low n K) W (λ_ _ _ x=>x) λa=>?_;by_cases Υ:a=.inr m
  .subst Υ;show Yy _ _ (Zv _ _ _ _);rw[Yk];exact((Yy.release (h.Zq.perms (.inl i)) U U (by rw[h.Zq.hears];exact hd)).sub I.r).mono λ_ x=>HS W.1 aj x
  show Yy _ _ (Zv _ _ _ _);rw[Zu _ _ Υ];by_cases aa:a=.inl i
  .subst aa;rw[Yk];exact((h.Zq.perms (.inl i)).own (λF u=>by simp at u;subst u;rfl)).sub I.l
  rw[Zu _ _ aa];exact h.Zq.K9 a U W aj
 .rcases T3 n C with⟨rfl,rfl⟩|⟨e,A⟩
  .have e:B=m:=by have:d.ZR=some B:=J;rw[ae]at this;cases this;rfl
   subst e;show d.Yd (d.L++[k]) (Zv (Zv c.H _ _) (.inr B) _ (.inr B));rw[Yk,aA];exact av
  have S:(.inr B:YS)≠.inr m:=λx=>by cases x;exact e (h.hold.T4 r s q d m A n (.inr J) K)
  show q.Yd q.L (Zv (Zv c.H _ _) (.inr m) _ (.inr B));rw[Zu _ _ S,Vb];exact h.X2.P9 r q B A J (λj q p x=>X j q p ((Zg j r q p).2 x)) λj k L g x=>aC j k L g (by show Zj c.tok i s _ j r=_;rw[XI _ (λy=>e y.2)];exact x)
 .rcases T3 n C with⟨rfl,rfl⟩|⟨e,A⟩
  .have S:(.inr r:YS)≠.inr m:=λx=>by cases x;exact h.hold.P' _ d m n ae U
   show Ta d.D d.R (Zv (Zv c.H _ _) (.inr m) _ (.inr r));rw[Zu _ _ S,Vb];exact h.X2.QT r d n (λj q p x=>X j q p ((Zg j r q p).2 x))
  have S:(.inr r:YS)≠.inr m:=λx=>by cases x;exact e (h.hold.T4 m s q d m A n (.inl U) K)
  show Ta q.D q.R (Zv (Zv c.H _ _) (.inr m) _ (.inr r));rw[Zu _ _ S,Vb];exact h.X2.QT r q A (λj q p x=>X j q p ((Zg j r q p).2 x))
 .rcases getElem?_append_cases aD with⟨_,aE⟩|⟨_,ak⟩
  .have al:∀ab,c.O r=some ab->ab.ZR=some B->(∃am an g,Zj c.tok i s (.ch k .fin .work) F.g r=.ch am an g)/\(c.rel F.g=true->Before (t++#[{g:=i,fn:=g.frame.fn,pos:=g.frame.place,act:=MemAct.ofEvent (Go.ConcR.mk (Mark.releaseMerge {block:=m,off:=0}))}]) p (c.Xx F.g)):=λab aa Υ=>by
    let ⟨⟨am,an,g,af⟩,ag⟩:=h.Wi.MA r ab B aa Υ p F aE N;exact⟨JO M (λ_ _ _ _=>⟨_,_,_,U⟩) _ _ _ _ _ af,λah=>(ag ah).app _⟩
   rcases T3 n C with⟨rfl,rfl⟩|⟨_,A⟩
   .exact al d n J
   exact al q A J
  simp at ak;subst ak;cases N;have:r=s:=by
   rcases T3 n C with⟨rfl,rfl⟩|⟨_,A⟩
   .rfl
   exact h.hold.T4 r s q d m A n (.inr J) K
  subst this;exact⟨⟨k,.fin,.work,Xw ..⟩,λah=>by
   have:c.rel i=true:=ah;rw[ai]at this;cases this⟩
 .rcases Q3.1 u with u|u
  .exact h.Wi.Mz j b v hv F u N
  simp at u;subst u;cases N;have:=(h.hold.UF s d m n K).2.2 j;have ao:c.Z9 j m=some v:=hv;rw[this]at ao;cases ao
 .rw[aB];show UG P Q (upd c.T i (f (i==0,g',V)) i) _ _ _;rw[upd_same];exact aw
 .have aF:(Sum.inl j:YS)≠.inr m:=by simp
  have aG:(Sum.inl j:YS)≠.inl i:=λe=>Z (by cases e;rfl);simp[c',YJ.x,upd_ne _ _ Z,Oy _ Z,Zu _ _ aF,Zu _ _ aG]
 by_cases e:r=s
 .subst e;rw[n]at a;cases a;exact⟨o',upd_same ..,b⟩
 exact⟨q,by show upd c.O s (some o') r=some q;rw[upd_ne _ _ e];exact a,b⟩
end
section
variable{P:Program}{Q:Value->Prop}{Zy:World}{c c':YJ}{gs:Array Goroutine}{w w':World}{t:Trace}{i:Nat}{g g':Goroutine}{es:Array Event}
variable{f:Bool×Goroutine×Z0->WJ (Bool×Goroutine×Z0)}
def Inv.parent(h:Inv P Q Zy c gs w t){s f}(i:c.O s=some f):c.Ze s<gs.size/\∃q p b,c.tok (c.Ze s) s=.par q p b:=by
 let ⟨e,j,g⟩:=HY (φ:=XO) (N:=gs.size) (τ:=λa=>c.tok a s) (by rw[(h.Y7.Z4 s f i).2.RI];exact Nat.one_pos)
 have k:∃q p b,c.tok e s=.par q p b:=by
  cases d:c.tok e s with
  | par q p b=>exact⟨q,p,b,rfl⟩
  | nil=>simp[d,XO]at g
  | ch=>simp[d,XO]at g
 let ⟨q,p,b,d⟩:=k
 have l:=h.Y7.par e _ q p b d;subst l;exact⟨j,q,p,b,d⟩
def Inv.EM(h:Inv P Q Zy c gs w t)(ax:gs[i]?=some g)(aR:B0 P (i==0) (S' P Q f) g (c.x i)):VG P Q Zy c gs w t i f:=by
 let ⟨s,sp,k,M,g',E,aS,ay,aF,aT,az,bm,aU,aV,al,aW,aX⟩:=aR
 have aY:i<gs.size:=Sw ax
 let ⟨n,d,aZ⟩:=h.Y7.Pr i s sp aS;subst aZ;have X:c.tok i s=.ch k M .work:=ay;have hd:c.deaf i=0:=az;have bn:c.rel i=false:=aU;have aG:∀aH,aH≠s->Xp (c.tok i aH):=aT;have a0:=aV w (h.mem.fit (.inl i));let ⟨bo,am,bp⟩:=h.Y7.QW i s k M .work X;have aI:=h.Y7.BL d X o;let y:MemOp:={g:=i,fn:=g.frame.fn,pos:=g.frame.place,act:=MemAct.ofEvent (Go.ConcR.mk (Mark.releaseMerge ⟨s,0,none⟩))};have a1:y.act=.mark (.releaseMerge ⟨s,0,none⟩):=rfl;have an:(t++#[y])[t.size]?=some y:=o;have a2:(t++#[y]).heard t.size:=⟨i,by simp[Trace.g?,y],by rw[deaf_old (Z3 _)];exact(h.Zq.hears i).trans hd⟩;let o':Z5:={n with R:=k::n.R};let ao:Z0:={c.x i with G:=Φ.empty,Z9:=λ_=>none,tok:=upd (c.tok i) s (.ch k M .rel),view:=upd (c.view i) s none,rel:=true};let c':YJ:={c with H:=Zv (Zv c.H (.inl i) Φ.empty) (.inr s) (join E (c.H (.inr s))),Z9:=upd c.Z9 i λ_=>none,tok:=Zj c.tok i s (.ch k M .rel),view:=upd c.view i (upd (c.view i) s none),O:=upd c.O s (some o'),rel:=upd c.rel i true,Xx:=upd c.Xx i t.size,T:=upd c.T i (f (i==0,g',ao))};have ad:Sx c.O (upd c.O s (some o')):=Sx.upd d U;have Zg:=HN (b:=.ch k M .rel) X o o;have aA:=JP (b:=.ch k M .rel) X o;have ae:X6 s n.toSpec s:=.inl U;have ap:∀j b v,upd c.Z9 i (λ_=>none) j b=some v->c.Z9 j b=some v:=λj b v hv=>by
  by_cases e:j=i
  .subst e;rw[upd_same]at hv;cases hv
  rw[upd_ne _ _ e]at hv;exact hv
 have aJ:=h.hold.apart (.inl i) (.inr s) o
 have a3:Sub (join E (c.H (.inr s))) (join (c.H (.inl i)) (c.H (.inr s))):=Sub.both (Sub.Pn al) (Sub.vW (h.mem.fit _) (h.mem.fit _) aJ)
 have aK:∀j r F L g,c.tok j r=.ch F (.YG L) g->Zj c.tok i s (.ch k M .rel) j r=.ch F (.YG L) g:=λj r F L g A=>by
  rw[XI _ (λe=>?_)]
  .exact A
  obtain⟨rfl,rfl⟩:=e;rw[X]at A;rcases aF with rfl|⟨rfl,_⟩<;>cases A
 have bq:∀j,j≠i->∀r,Zj c.tok i s (.ch k M .rel) j r=c.tok j r:=λj A r=>XI _ λe=>A e.1;refine VG.go (c':=c') ax a0 ?_ _ U;rw[ofEvents_one];have a4:c'.x i=ao:=by
  have:(Sum.inl i:YS)≠.inr s:=o;simp[c',ao,YJ.x,upd_same,Mx,Zu _ _ this]
 have a5:MB gs.size c'.tok c'.rel c'.Ze c'.home c'.Xx (t++#[y]):=by
  refine⟨λF g' af=>?_,λj N A=>?_,λj N A Z=>?_,λj N A aL aM=>?_⟩
  .let ⟨l,m,ab⟩:=T7.1 af;rcases getElem?_append_cases m with⟨_,aq⟩|⟨_,aa⟩
   .exact h.X9.Pm F g' (by simp[Trace.g?,aq,ab])
   simp at aa;subst aa;rw[<-ab];exact aY
  .by_cases e:j=i
   .subst e;have B:c'.Xx j=t.size:=upd_same ..;rw[B];refine⟨y,an,U,by rw[a1];rw[am],a2,λF af ar=>?_⟩;let ⟨l,m,ab⟩:=T7.1 af;rcases getElem?_append_cases m with⟨ag,aq⟩|⟨aB,aa⟩
    .exact .inr (hb_po ag m an ab)
    exact absurd ar (La (u:=#[y]) (λl m=>by simp at m;subst m;rfl) F aB)
   have Y:c.rel j=true:=by have:upd c.rel i true j=true:=A;rwa [upd_ne _ _ e]at this
   have B:c'.Xx j=c.Xx j:=upd_ne _ _ e;rw[B];let ⟨l,ah,aC,a6,a7,a8⟩:=h.X9.c1 j N Y;have ai:=lt_size_of_getElem? ah;refine⟨l,by rw[getElem?_append_old ai];exact ah,aC,a6,(heard_old ai).2 a7,λF af ar=>?_⟩;let ⟨br,m,ab⟩:=T7.1 af;rcases getElem?_append_cases m with⟨ag,aq⟩|⟨aB,aa⟩
   .exact(a8 F (by simp[Trace.g?,aq,ab]) ((JS ag).1 ar)).app _
   exact absurd ar (La (u:=#[y]) (λl m=>by simp at m;subst m;rfl) F aB)
  .let ⟨q,p,I⟩:=Z
   have C:c.tok (c.Ze (c.home j)) (c.home j)=.par q p .Zg:=(Zg _ _ q p).1 I;by_cases e:j=i
   .subst e;rw[am]at C;exact absurd C (aI _ q p)
   have Y:c.rel j=true:=by have:upd c.rel i true j=true:=A;rwa [upd_ne _ _ e]at this
   have B:c'.Xx j=c.Xx j:=upd_ne _ _ e;rw[B];exact(h.X9.c2 j N Y ⟨q,p,C⟩).app _
  by_cases e:j=i
  .subst e;exfalso;have a9:c.Ze s≠0:=by rw[<-am];exact aL
   have S:c.Ze s≠j:=J
   have a':c.rel (c.Ze s)=true:=by
    have:upd c.rel j true (c.Ze (c.home j))=true:=aM;rw[am,upd_ne _ _ S]at this;exact this
   let ⟨_,q,p,au,V⟩:=h.parent d
   have aj:Xp (c.tok (c.Ze s) s):=by
    by_cases Υ:s=c.home (c.Ze s)
    .let ⟨ba,bb,bc,av⟩:=h.Y7.OB (c.Ze s) a9 J;rw[<-Υ,V]at av;cases av
    exact h.Y7.QV _ s a' Υ
   rw[V]at aj;cases au<;>first|exact aj.elim|exact aI _ _ _ V
  have Y:c.rel j=true:=by have:upd c.rel i true j=true:=A;rwa [upd_ne _ _ e]at this
  have B:c'.Xx j=c.Xx j:=upd_ne _ _ e;rw[B];by_cases Υ:c.Ze (c.home j)=i
  .have aD:c'.Xx (c.Ze (c.home j))=t.size:=by rw[Υ];exact upd_same ..
   rw[aD];let ⟨l,ah,_⟩:=h.X9.c1 j N Y;have bd:j<gs.size:=by
    let ⟨l,ah,aC,_⟩:=h.X9.c1 j N Y;exact h.X9.Pm (c.Xx j) j (by simp[Trace.g?,ah,aC])
   let ⟨ba,bb,bc,av⟩:=h.Y7.OB j N bd
   let ⟨bs,be⟩:=h.obj (i:=j) (s:=c.home j) (by rw[av];simp)
   let ⟨_,q,p,au,V⟩:=h.parent be;rw[Υ]at V;have S:c.home j≠s:=λbf=>by rw[bf,X]at V;cases V
   have aj:=aG _ S;rw[V]at aj;have bg:au=.Zg:=by cases au<;>first|exact aj.elim|rfl
   subst bg;have aN:=h.X9.c2 j N Y ⟨q,p,by rw[Υ];exact V⟩;rw[Υ]at aN;exact .inr (aN.hb_new (u:=#[y]) (Z3 _) an U)
  have aD:c'.Xx (c.Ze (c.home j))=c.Xx (c.Ze (c.home j)):=upd_ne _ _ Υ;rw[aD];refine(h.X9.c3 j N Y aL ?_).app _;have:upd c.rel i true (c.Ze (c.home j))=true:=aM
  rwa [upd_ne _ _ Υ]at this
 refine h.laid (c':=c') ax ((h.mem.two (MC w) (JU (al.fits (h.mem.fit (.inl i))) (h.mem.fit _)) λr q I=>?_).K8 ap) ((h.hold.two o (Sub.empty _) a3 (Apart.Po _).symm ad λx bh=>?_).K8 ap) ?_ (h.Y7.wh d X aF aG) ⟨λr q K I W Z aO=>?_,λr q I Z=>?_⟩
  a5 ⟨λr q K I W p l ai ak=>?_,λj b v hv l m ak=>?_⟩
  ⟨g',?_,.inl U⟩ (λj A=>⟨?_,upd_ne _ _ A⟩) (.inr λj r q _ a b=>?_)
 .rcases T3 d I with⟨rfl,rfl⟩|⟨_,C⟩
  .exact(h.mem.XU r n d:At r n w)
  exact h.mem.XU _ _ C
 .rcases bh with e|e
  .cases e;exact⟨s,n,d,ae⟩
  cases e
 .refine h.Zq.word (i:=i) U (.inr U) (h.low d ae) ad ap λa=>?_;by_cases Υ:a=.inr s
  .subst Υ;show Yy _ _ (Zv _ _ _ _);rw[Yk];exact(((Yy.release (h.Zq.perms (.inl i)) U U (by rw[h.Zq.hears];exact hd)).sub al).mono λ_ x=>HS ad.1 aA x).join (h.Zq.K9 (.inr s) U ad aA)
  show Yy _ _ (Zv _ _ _ _);rw[Zu _ _ Υ];by_cases B:a=.inl i
  .subst B;rw[Yk];exact Yy.empty
  rw[Zu _ _ B];exact h.Zq.K9 a U ad aA
 .rcases T3 d I with⟨rfl,rfl⟩|⟨e,C⟩
  .have S:(.inr K:YS)≠.inr r:=λx=>by cases x;exact h.hold.P' _ n _ d W U
   show n.Yd n.L (Zv (Zv c.H _ _) (.inr r) _ (.inr K));rw[Zu _ _ S,Vb];exact h.X2.P9 r n K d W (λj q p x=>Z j q p ((Zg j r q p).2 x)) λj k L g x=>aO j k L g (aK _ _ _ _ _ x)
  have S:(.inr K:YS)≠.inr s:=λx=>e (h.hold.T4 r s q n K C d (.inr W) (by cases x;exact ae))
  show q.Yd q.L (Zv (Zv c.H _ _) (.inr s) _ (.inr K));rw[Zu _ _ S,Vb];exact h.X2.P9 r q K C W (λj q p x=>Z j q p ((Zg j r q p).2 x)) λj k L g x=>aO j k L g (aK _ _ _ _ _ x)
 .rcases T3 d I with⟨rfl,rfl⟩|⟨e,C⟩
  .show Ta n.D (k::n.R) (Zv (Zv c.H _ _) (.inr r) _ (.inr r));rw[Yk];exact⟨E,c.H (.inr r),aW,h.X2.QT r n d (λj q p x=>Z j q p ((Zg j r q p).2 x)),aJ.sub al (Sub.refl _),U⟩
  have S:(.inr r:YS)≠.inr s:=λx=>by cases x;exact e U
  show Ta q.D q.R (Zv (Zv c.H _ _) (.inr s) _ (.inr r));rw[Zu _ _ S,Vb];exact h.X2.QT r q C (λj q p x=>Z j q p ((Zg j r q p).2 x))
 .rcases getElem?_append_cases ai with⟨ag,bi⟩|⟨_,aa⟩
  .have aP:∀aw,c.O r=some aw->aw.ZR=some K->(∃F aQ g,Zj c.tok i s (.ch k M .rel) l.g r=.ch F aQ g)/\(c'.rel l.g=true->Before (t++#[y]) p (c'.Xx l.g)):=λaw B Υ=>by
    let ⟨⟨F,aQ,g,ay⟩,az⟩:=h.Wi.MA r aw K B Υ p l bi ak;refine⟨JO X (λ_ _ _ _=>⟨_,_,_,U⟩) _ _ _ _ _ ay,λbj=>?_⟩;by_cases e:l.g=i
    .have B:c'.Xx l.g=t.size:=by rw[e];exact upd_same ..
     rw[B];exact .inr (hb_po ag ai an e)
    have B:c'.Xx l.g=c.Xx l.g:=upd_ne _ _ e
    have Υ:c.rel l.g=true:=by have:upd c.rel i true l.g=true:=bj;rwa [upd_ne _ _ e]at this
    rw[B];exact(az Υ).app _
   rcases T3 d I with⟨rfl,rfl⟩|⟨_,C⟩
   .exact aP n d W
   exact aP q C W
  simp at aa;subst aa;cases ak;exfalso;rcases T3 d I with⟨rfl,rfl⟩|⟨e,C⟩
  .exact h.hold.P' _ n _ d W U
  exact e (h.hold.T4 r s q n s C d (.inr W) ae)
 .have aE:=ap j b v hv;rcases Q3.1 m with m|m
  .exact h.Wi.Mz j b v aE l m ak
  simp at m;subst m;cases ak;have:=(h.hold.UF s n s d ae).2.2 j;rw[this]at aE;cases aE
 .rw[a4];show UG P Q (upd c.T i (f (i==0,g',ao)) i) _ _ _;rw[upd_same];exact aX
 .have bk:(Sum.inl j:YS)≠.inr s:=by simp
  have bl:(Sum.inl j:YS)≠.inl i:=λe=>A (by cases e;rfl);simp[c',YJ.x,upd_ne _ _ A,Oy _ A,Zu _ _ bk,Zu _ _ bl]
 by_cases e:r=s
 .subst e;rw[d]at a;cases a;exact⟨o',upd_same ..,b⟩
 exact⟨q,by show upd c.O s (some o') r=some q;rw[upd_ne _ _ e];exact a,b⟩
def Inv.HL(h:Inv P Q Zy c gs w t)(ao:gs[i]?=some g)(ab:BZ P (i==0) (S' P Q f) g (c.x i)):VG P Q Zy c gs w t i f:=by
 let ⟨s,sp,n,ax,g',aS,aT,ap,aU,bH,aV,aW,aX⟩:=ab
 have aY:i<gs.size:=Sw ao
 let ⟨d,C,aZ⟩:=h.Y7.Pr i s sp aS;subst aZ;have W:c.tok i s=.par n 0 ax:=aT;have hd:c.deaf i=0:=aU;have bI:c.rel i=false:=aV;have ad:=aW w (h.mem.fit (.inl i));have a0:=h.Y7.par i s n 0 ax W;let ⟨a1,a2,ay⟩:=h.Y7.full C W ap;have aq:X6 s d.toSpec s:=.inl U;have az:∀j q p,c.tok j s≠.par q p .Zg:=λj q p l=>by
  have e:=h.Y7.par j s q p .Zg l;rw[<-a0]at e;subst e;rw[W]at l;rcases ap with rfl|rfl<;>cases l
 let y:MemOp:={g:=i,fn:=g.frame.fn,pos:=g.frame.place,act:=MemAct.ofEvent (Go.ConcR.mk (Mark.acquire ⟨s,0,none⟩))}
 have a3:y.act=.mark (.acquire ⟨s,0,none⟩):=rfl
 have aA:Deaf t i=0:=by rw[h.Zq.hears];exact hd
 have ag:Sx c.O (upd c.O s (some d)):=Sx.upd C U
 have aB:=JP (b:=.par n 0 .Zg) W o
 have aC:∀j,(∃k m g,c.tok j s=.ch k m g)->j≠0/\c.home j=s/\c.rel j=true/\Knows (t++#[y]) i (c.Xx j):=λj ⟨k,m,g,l⟩=>by
  let ⟨K,N,_⟩:=h.Y7.QW j s k m g l
  have ae:c.rel j=true:=(h.Y7.XH j k m g K (by rw[N];exact l)).2 (by rw[ay j k m g l];simp)
  let ⟨M,a4,aD,aE,a5,_⟩:=h.X9.c1 j K ae;rw[N]at aE;exact⟨K,N,ae,Knows.marked a4 aE a5 h.Zq.norel U a3 aA⟩
 have a6:=h.X2.QT s d C az;obtain⟨J,S,a7,a8,a9,a',ba,bb,bc,bJ,aF,bd,be,bf⟩:∃(J:YS->Φ)(S:Φ),Fits S w/\(d.ZR≠none->d.Yd d.L S)/\(d.ZR=none->S=Φ.empty)/\Apart (c.H (.inl i)) S/\Apart (c.H (.inr s)) S/\
   J (.inl i)=join (join (c.H (.inl i)) (c.H (.inr s))) S/\(∀j,j≠i->J (.inl j)=c.H (.inl j))/\(∀m,d.ZR=some m->J (.inr m)=Φ.empty)/\(∀b,b≠s->d.ZR≠some b->J (.inr b)=c.H (.inr b))/\
   Vq J c.Z9 (upd c.O s (some d)) Zy.heap.size/\Wj J c.Z9 (upd c.O s (some d)) Zy w/\∀a,Yy (t++#[y]) (UE (Zj c.tok i s (.par n 0 .Zg)) (upd c.O s (some d)) (t++#[y]) a) (J a):=by
  have aG:∀r q,upd c.O s (some d) r=some q->At r q w:=λr q E=>by
   rcases T3 C E with⟨rfl,rfl⟩|⟨_,V⟩
   .exact h.mem.XU _ _ C
   exact h.mem.XU _ _ V
  have aH:Yy (t++#[y]) (Knows (t++#[y]) i) (join (c.H (.inl i)) (c.H (.inr s))):=
   ((h.Zq.perms (.inl i)).own (λM F=>by simp at F;subst F;rfl)).join ((h.Zq.perms (.inr s)).acquire h.Zq.norel C aq (by rw[W];simp) U U aA)
  have aI:Vq (Zv (Zv c.H (.inl i) (join (c.H (.inl i)) (c.H (.inr s)))) (.inr s) Φ.empty) c.Z9 (upd c.O s (some d)) Zy.heap.size:=
   h.hold.two o (Sub.refl _) (Sub.empty _) (Apart.Po _) ag λx ar=>by
    rcases ar with e|e
    .cases e;exact⟨s,d,C,aq⟩
    cases e
  have aJ:Wj (Zv (Zv c.H (.inl i) (join (c.H (.inl i)) (c.H (.inr s)))) (.inr s) Φ.empty) c.Z9 (upd c.O s (some d)) Zy w:=h.mem.two (JU (h.mem.fit _) (h.mem.fit _)) (MC w) aG
  have n0:(Sum.inl i:YS)≠.inr s:=o;cases ah:d.ZR with
  | none=>
   refine⟨Zv (Zv c.H (.inl i) (join (c.H (.inl i)) (c.H (.inr s)))) (.inr s) Φ.empty,Φ.empty,MC w,λx=>absurd U x,λ_=>rfl,Apart.Po _,Apart.Po _,?_,λj l=>?_,λm ai=>(by cases ai),λb hb _=>?_,aI,aJ,λa=>?_⟩
   .rw[Zu _ _ n0,Yk,Mw]
   .have X:(Sum.inl j:YS)≠.inl i:=λe=>l (by cases e;rfl);rw[Zu _ _ o,Zu _ _ X]
   .have X:(Sum.inr b:YS)≠.inr s:=λe=>hb (by cases e;rfl);rw[Zu _ _ X,Vb]
   by_cases Υ:a=.inr s
   .subst Υ;rw[Yk];exact Yy.empty
   rw[Zu _ _ Υ];by_cases I:a=.inl i
   .subst I;rw[Yk];exact aH
   rw[Zu _ _ I];exact h.Zq.K9 a U ag aB
  | some m=>
   have ai:X6 s d.toSpec m:=.inr ah
   have bg:m≠s:=h.hold.P' s d m C ah
   have aK:(Sum.inr m:YS)≠.inr s:=λe=>bg (by cases e;rfl)
   have aL:(Sum.inl i:YS)≠.inr m:=o
   have bh:∀j k L g,c.tok j s≠.ch k (.YG L) g:=λj k L g l=>by
    rcases h.Y7.QU j s k _ g d C l (by rw[ay j k _ g l];simp)with e|⟨e,_⟩<;>cases e
   have bi:=h.X2.P9 s d m C ah az bh
   have bj:Apart (c.H (.inr s)) (c.H (.inr m)):=h.hold.apart _ _ (YX aK)
   have bk:Apart (c.H (.inl i)) (c.H (.inr m)):=h.hold.apart _ _ aL
   have bl:Zv (Zv c.H (.inl i) (join (c.H (.inl i)) (c.H (.inr s)))) (.inr s) Φ.empty (.inl i)=join (c.H (.inl i)) (c.H (.inr s)):=by rw[Zu _ _ n0,Yk]
   have bm:Zv (Zv c.H (.inl i) (join (c.H (.inl i)) (c.H (.inr s)))) (.inr s) Φ.empty (.inr m)=c.H (.inr m):=by rw[Zu _ _ aK,Vb]
   have bn:=aI.two (a:=.inl i) (b:=.inr m) (A:=join (join (c.H (.inl i)) (c.H (.inr s))) (c.H (.inr m))) (B:=Φ.empty) (O':=upd c.O s (some d)) o (by rw[bl,bm];exact Sub.refl _) (Sub.empty _) (Apart.Po _) ⟨λs o' ad=>⟨o',ad,U⟩,λs o' ad=>⟨o',ad,U⟩⟩ λx ar=>by
    rcases ar with e|e
    .cases e;exact⟨s,d,upd_same ..,ai⟩
    cases e
   have bo:=aJ.two (a:=.inl i) (b:=.inr m) (A:=join (join (c.H (.inl i)) (c.H (.inr s))) (c.H (.inr m))) (B:=Φ.empty) (O':=upd c.O s (some d)) (JU (JU (h.mem.fit _) (h.mem.fit _)) (h.mem.fit _)) (MC w) aG;refine⟨_,c.H (.inr m),h.mem.fit _,λ_=>bi,λx=>(by cases x),bk,bj,?_,λj l=>?_,λaf aj=>?_,λb hb bp=>?_,bn,bo,λa=>?_⟩
   .rw[Zu _ _ aL,Yk]
   .have X:(Sum.inl j:YS)≠.inl i:=λe=>l (by cases e;rfl);rw[Zu _ _ o,Zu _ _ X,Zu _ _ o,Zu _ _ X]
   .cases aj;rw[Yk]
   .have X:(Sum.inr b:YS)≠.inr s:=λe=>hb (by cases e;rfl)
    have bq:(Sum.inr b:YS)≠.inr m:=λe=>bp (by cases e;rfl);rw[Zu _ _ bq,Vb,Zu _ _ X,Vb]
   by_cases aM:a=.inr m
   .subst aM;rw[Yk];exact Yy.empty
   rw[Zu _ _ aM];by_cases I:a=.inl i
   .subst I;rw[Yk];refine aH.join ((h.Zq.perms (.inr m)).R9 U λk ab=>?_);rcases ab with⟨p,M,K,N,ae,ak⟩|ab
    .let ⟨br,aD⟩:=h.Wi.MA s d m C ah p M K N
     let ⟨_,_,bs,bt⟩:=aC M.g br
     have hb:=(aD bs).app #[y];refine Knows.of_before ?_ bt;rcases hb with e|hb
     .rw[<-e];exact ak.app _
     exact .inr ((ak.app #[y]).hb hb)
    exact(ab s d C ai i (by rw[W];simp)).app _
   rw[Zu _ _ I];by_cases Υ:a=.inr s
   .subst Υ;rw[Yk];exact Yy.empty
   rw[Zu _ _ Υ,Zu _ _ I];exact h.Zq.K9 a U ag aB
 have bu:Apart (c.H (.inl i)) (c.H (.inr s)):=h.hold.apart _ _ o
 have bv:=aX d.R d.L (c.H (.inr s)) S a1 a6 (λx=>⟨a2 x,a8 x⟩) a9 bu a' ba ⟨w,h.mem.fit _,h.mem.fit _,a7⟩
 let al:Z0:={c.x i with G:=join (join (c.H (.inl i)) (c.H (.inr s))) S,tok:=upd (c.tok i) s (.par n 0 .Zg),view:=upd (c.view i) s none}
 let c':YJ:={c with H:=J,tok:=Zj c.tok i s (.par n 0 .Zg),view:=upd c.view i (upd (c.view i) s none),O:=upd c.O s (some d),T:=upd c.T i (f (i==0,g',al))}
 have bw:c'.x i=al:=by simp[c',al,YJ.x,upd_same,Mx,bb]
 have am:∀j r,¬(j=i/\r=s)->Zj c.tok i s (.par n 0 .Zg) j r=c.tok j r:=λj r e=>XI _ e
 have aN:∀r q b,c.O r=some q->r≠s->X6 r q.toSpec b->b≠s/\d.ZR≠some b:=λr q b E aO hb=>⟨λe=>aO (h.hold.T4 r s q d b E C hb (.inl e)),λe=>aO (h.hold.T4 r s q d b E C hb (.inr e))⟩;refine VG.go (c':=c') ao ad ?_ _ U;rw[ofEvents_one];refine h.laid (c':=c') ao be bd (h.Zq.word (i:=i) U (.inl U) (h.low C aq) ag (λ_ _ _ x=>x) bf) (h.Y7.gtake C W ap) ⟨λr q af E aj Y bx=>?_,λr q E Y=>?_⟩ ?_
  (h.Wi.app h.Zq.low (λM F b hb=>by simp at F;subst F;cases hb) (λj b v hv=>.inl ⟨v,hv⟩) (λr q E=>?_) (λj r aa bz g e=>JO W (λk m g e=>?_) j r aa bz g e))
  ⟨g',?_,.inl U⟩ (λj l=>⟨?_,upd_ne _ _ l⟩) (.inr λj r q _ a b=>?_)
 .rcases T3 C E with⟨rfl,rfl⟩|⟨e,V⟩
  .exact absurd (Xw ..) (Y i n 0)
  let ⟨I,Υ⟩:=aN r q af V e (.inr aj)
  show q.Yd q.L (J (.inr af));rw[aF af I Υ];exact h.X2.P9 r q af V aj (λj q p x=>Y j q p (by show Zj c.tok i s _ j r=_;rw[am j r (λy=>e y.2)];exact x)) λj k L g x=>bx j k L g (by show Zj c.tok i s _ j r=_;rw[am j r (λy=>e y.2)];exact x)
 .rcases T3 C E with⟨rfl,rfl⟩|⟨e,V⟩
  .exact absurd (Xw ..) (Y i n 0)
  let ⟨I,Υ⟩:=aN r q r V e (.inl U)
  show Ta q.D q.R (J (.inr r));rw[aF r I Υ];exact h.X2.QT r q V (λj q p x=>Y j q p (by show Zj c.tok i s _ j r=_;rw[am j r (λy=>e y.2)];exact x))
 .refine⟨λaa g' au=>?_,λj Z l=>?_,λj Z l Y=>?_,λj Z l a b=>(h.X9.c3 j Z l a b).app _⟩
  .let ⟨M,F,an⟩:=T7.1 au;rcases getElem?_append_cases F with⟨_,av⟩|⟨_,aw⟩
   .exact h.X9.Pm aa g' (by simp[Trace.g?,av,an])
   simp at aw;subst aw;rw[<-an];exact aY
  .let ⟨M,K,N,ae,ak,bA⟩:=h.X9.c1 j Z l
   have aP:=lt_size_of_getElem? K;refine⟨M,by rw[getElem?_append_old aP];exact K,N,ae,(heard_old aP).2 ak,λaa au aQ=>?_⟩;let ⟨bK,F,an⟩:=T7.1 au;rcases getElem?_append_cases F with⟨bB,av⟩|⟨bC,aw⟩
   .exact(bA aa (by simp[Trace.g?,av,an]) ((JS bB).1 aQ)).app _
   exact absurd aQ (La (u:=#[y]) (λM F=>by simp at F;subst F;rfl) aa bC)
  let ⟨q,p,E⟩:=Y;by_cases e:c.Ze (c.home j)=i/\c.home j=s
  .let ⟨I,Υ⟩:=e;rw[I];have bD:j<gs.size:=by
    let ⟨M,K,N,_⟩:=h.X9.c1 j Z l;exact h.X9.Pm (c.Xx j) j (by simp[Trace.g?,K,N])
   let ⟨bE,bF,bG,aR⟩:=h.Y7.OB j Z bD;rw[Υ]at aR;exact(aC j ⟨bE,bF,bG,aR⟩).2.2.2
  refine(h.X9.c2 j Z l ⟨q,p,?_⟩).app _;have:Zj c.tok i s (.par n 0 .Zg) (c.Ze (c.home j)) (c.home j)=.par q p .Zg:=E
  rwa [am _ _ e]at this
 .rcases T3 C E with⟨rfl,rfl⟩|⟨_,V⟩
  .exact⟨_,C,U⟩
  exact⟨q,V,U⟩
 .cases e
 .rw[bw];show UG P Q (upd c.T i (f (i==0,g',al)) i) _ _ _;rw[upd_same];exact bv
 .simp[c',YJ.x,upd_ne _ _ l,Oy _ l,bc j l]
 exact⟨q,by show upd c.O s (some d) r=some q;rw[HQ C];exact a,b⟩
end
section
variable{n:Nat}{tok:Nat->Nat->Tok}{spec:Nat->Nat->Option Spec}{view:Nat->Nat->Option (Nat×Z5)}{rel:Nat->Bool}{O:Nat->Option Z5}{Ze home:Nat->Nat}{s i:Nat}{Η:Z5}
def XT.fork(h:XT n tok spec view rel O Ze home)(F:O s=some Η){q p:Nat}(o:tok i s=.par q (p+1) .add) :
  XT (n+1) (upd (Zj tok i s (.par q p .add)) n (upd (λ_=>.nil) s (.ch (q-(p+1)) .idle .work))) (upd spec n (upd (λ_=>none) s (some Η.toSpec))) (upd (upd view i (upd (view i) s none)) n λ_=>none) (upd rel n false) O Ze (upd home n s):=by
 have af:i<n:=h.lt (s:=s) (by rw[o];simp)
 have S:n≠i:=J
 have K:=h.par i s q (p+1) .add o
 have T:=(h.Z4 s Η F).2
 have ap:p+1<=q:=by
  have D:ZO n (λa=>tok a s) Vs=q:=by
   rw[Qa (φ:=Vs) (λt o=>by cases t<;>simp_all [XO,Vs]) T.RI af (by rw[o];rfl),o];rfl
  have Υ:ZO n (λa=>tok a s) V4=p+1:=by
   rw[Qa (φ:=V4) (λt o=>by cases t<;>simp_all [XO,V4]) T.RI af (by rw[o];rfl),o];rfl
  have:=T.Cd;omega
 generalize Q:upd (Zj tok i s (.par q p .add)) n (upd (λ_=>.nil) s (.ch (q-(p+1)) .idle .work))=w;have M:w n s=.ch (q-(p+1)) .idle .work:=by rw[<-Q,upd_same,upd_same]
 have V:∀r,r≠s->w n r=.nil:=λr l=>by rw[<-Q,upd_same,upd_ne _ _ l]
 have W:w i s=.par q p .add:=by rw[<-Q,upd_ne _ _ (YX S),Xw]
 have to:∀j r,j≠n->¬(j=i/\r=s)->w j r=tok j r:=λj r B E=>by rw[<-Q,upd_ne _ _ B,XI _ E]
 have ag:∀j r,r≠s->w j r=tok j r:=λj r l=>by
  by_cases e:j=n
  .subst e;rw[V r l,h.out _ r (Z3 _)]
  exact to j r e λx=>l x.2
 have ah:(λj=>w j s)=upd (upd (λj=>tok j s) i (.par q p .add)) n (.ch (q-(p+1)) .idle .work):=by
  funext j
  by_cases e:j=n
  .subst e;rw[M,upd_same]
  rw[upd_ne _ _ e];by_cases d:j=i
  .subst d;rw[W,upd_same]
  rw[upd_ne _ _ d,to j s e λx=>d x.1]
 have ai:∀r,r≠s->(λj=>w j r)=λj=>tok j r:=λr l=>funext λj=>ag j r l
 have H:∀r,(λj=>tok j r) n=.nil:=λr=>h.out n r (Z3 _)
 have C:∀j r k m g,w j r=.ch k m g->(j=n/\r=s/\k=q-(p+1)/\m=.idle/\g=.work)\/(j≠n/\¬(j=i/\r=s)/\tok j r=.ch k m g):=λj r k m g c=>by
  by_cases e:j=n
  .subst e;by_cases d:r=s
   .subst d;rw[M]at c;cases c;exact .inl ⟨U,U,U,U,U⟩
   rw[V r d]at c;cases c
  by_cases d:j=i/\r=s
  .obtain⟨rfl,rfl⟩:=d;rw[W]at c;cases c
  rw[to j r e d]at c;exact .inr ⟨e,d,c⟩
 have X:∀j r m u y,w j r=.par m u y->(j=i/\r=s/\m=q/\u=p/\y=.add)\/(j≠n/\r≠s/\tok j r=.par m u y)\/(j≠n/\j≠i/\r=s/\tok j r=.par m u y):=λj r m u y c=>by
  by_cases e:j=n
  .subst e;by_cases d:r=s
   .subst d;rw[M]at c;cases c
   rw[V r d]at c;cases c
  by_cases d:j=i/\r=s
  .obtain⟨rfl,rfl⟩:=d;rw[W]at c;cases c;exact .inl ⟨U,U,U,U,U⟩
  rw[to j r e d]at c;by_cases Υ:r=s
  .exact .inr (.inr ⟨e,λx=>d ⟨x,Υ⟩,Υ,c⟩)
  exact .inr (.inl ⟨e,Υ,c⟩)
 have Y:∀j r k m g,tok j r=.ch k m g->j≠n/\w j r=.ch k m g:=λj r k m g c=>by
  have R:j≠n:=λe=>by rw[e,h.out n r (Z3 _)]at c;cases c
  refine⟨R,?_⟩;rw[to j r R λe=>?_]
  .exact c
  obtain⟨rfl,rfl⟩:=e;rw[o]at c;cases c
 have aq:XZ (n+1) Η (λj=>w j s)<XZ n Η (λj=>tok j s):=by
  rw[ah,<-B6 (N:=n) (τ:=λj=>tok j s) (H s)];exact wy (N:=n+1) J J (YX S) o (H s) _
 refine⟨λr v l=>?_,λr l j=>?_,λj r c=>?_,λj r sp c=>?_,λj r φ P c=>?_,λj r k L g v Z c=>?_,λj r m u y c=>?_,λj r k m g c=>?_,λj aa c=>?_,λj k m g aa c=>?_,?_,λj r c l=>?_,λj r k m g v Z c aj=>?_,λr j ab k m g ad g' B E=>?_,λr j k m g v u y B E=>?_,λr v l=>?_,λr v l=>?_⟩
 .by_cases e:r=s
  .subst e;rw[F]at l;cases l;rw[ah];exact wz (B7 (h.Z4 r Η F) (H r)) J J (YX S) o (H r) _
  rw[ai r e];exact B7 (h.Z4 r v l) (H r)
 .have e:r≠s:=λe=>by rw[e,F]at l;cases l
  rw[ag j r e];exact h.bare r l j
 .rw[to j r J (λx=>J)];exact h.out j r J
 .by_cases e:j=n
  .subst e;rw[upd_same]at c;by_cases d:r=s
   .subst d;rw[upd_same]at c;cases c;exact⟨Η,F,U⟩
   rw[upd_ne _ _ d]at c;cases c
  rw[upd_ne _ _ e]at c;exact h.Pr j r sp c
 .have ak:∀j r φ P,view j r=some (φ,P)->∃I,O r=some I/\XZ (n+1) I (λa=>w a r)<=φ/\(XZ (n+1) I (λa=>w a r)=φ->I=P):=λj r φ P hv=>by
   obtain⟨I,B,E,f⟩:=h.ME j r φ P hv;refine⟨I,B,?_⟩;by_cases e:r=s
   .subst e;rw[F]at B;cases B;exact⟨J,λx=>J⟩
   rw[ai r e,B6 (N:=n) (τ:=λj=>tok j r) (H r)];exact⟨E,f⟩
  by_cases e:j=n
  .subst e;rw[upd_same]at c;cases c
  rw[upd_ne _ _ e]at c;by_cases d:j=i
  .subst d;rw[upd_same]at c;by_cases Υ:r=s
   .subst Υ;rw[upd_same]at c;cases c
   rw[upd_ne _ _ Υ]at c;exact ak _ _ _ _ c
  rw[upd_ne _ _ d]at c;exact ak _ _ _ _ c
 .rcases C j r k _ g c with⟨_,_,_,A,_⟩|⟨_,_,f⟩
  .cases A
  exact h.YG j r k L g v Z f
 .rcases X j r m u y c with⟨rfl,rfl,_⟩|⟨_,_,f⟩|⟨_,_,_,f⟩
  .exact K
  .exact h.par j r m u y f
  exact h.par j r m u y f
 .rcases C j r k m g c with⟨rfl,rfl,_⟩|⟨R,_,f⟩
  .exact⟨J,upd_same ..,J⟩
  obtain⟨am,an,ae⟩:=h.QW j r k m g f;exact⟨am,by rw[upd_ne _ _ R];exact an,ae⟩
 .by_cases e:j=n
  .subst e;rw[upd_same];exact⟨_,_,_,M⟩
  rw[upd_ne _ _ e];obtain⟨k,m,g,B⟩:=h.OB j aa J;exact⟨k,m,g,(Y j _ k m g B).2⟩
 .by_cases e:j=n
  .subst e;rw[upd_same]at c;rw[M]at c;cases c;rw[upd_same];simp
  rw[upd_ne _ _ e]at c;rw[upd_ne _ _ e];rcases C j _ k m g c with⟨x,_⟩|⟨_,_,f⟩
  .exact absurd x e
  exact h.XH j k m g aa f
 .rw[upd_ne _ _ (show(0:Nat)≠n by omega)];exact h.NK
 .by_cases e:j=n
  .subst e;rw[upd_same]at c;cases c
  rw[upd_ne _ _ e]at c l;have:=h.QV j r c l;rw[to j r e λx=>?_]
  .exact this
  obtain⟨rfl,rfl⟩:=x;rw[o]at this;exact this
 .rcases C j r k m g c with⟨_,_,_,_,A⟩|⟨_,_,f⟩
  .exact absurd A aj
  exact h.QU j r k m g v Z f aj
 .have al:∀j k m g,tok j s=.ch k m g->k<q-(p+1):=λj k m g c=>by
   have:=h.NJ s j k m g q (p+1) .add c (by rw[<-K];exact o);omega
  rcases C j r k m g B with⟨rfl,rfl,ae,_⟩|⟨_,_,f⟩<;>rcases C ab r k ad g' E with⟨rfl,ao,ar,_⟩|⟨_,_,A⟩
  .rfl
  .have:=al ab k ad g' A;omega
  .subst ao;have:=al j k m g f;omega
  exact h.MD r j ab k m g ad g' f A
 .rcases C j r k m g B with⟨_,rfl,ae,_⟩|⟨_,_,f⟩
  .rcases X _ r v u y E with⟨_,_,rfl,rfl,_⟩|⟨_,x,_⟩|⟨_,x,_⟩
   .omega
   .exact absurd U x
   exact absurd K.symm x
  rcases X _ r v u y E with⟨_,rfl,rfl,rfl,_⟩|⟨_,_,A⟩|⟨_,x,rfl,A⟩
  .have:=h.NJ r j k m g v (u+1) .add f (by rw[<-K];exact o);omega
  .exact h.NJ r j k m g v u y f A
  exact absurd K.symm x
 .obtain⟨a,b⟩:=h.Sy r v l;refine⟨a,λk=>(b k).trans ⟨λ⟨j,m,g,D,Υ⟩=>⟨j,m,g,(Y j r k m g D).2,Υ⟩,λ⟨j,m,g,D,Υ⟩=>?_⟩⟩;rcases C j r k m g D with⟨_,_,_,A,_⟩|⟨_,_,f⟩
  .subst A;exact Υ.elim
  exact⟨j,m,g,f,Υ⟩
 obtain⟨a,b⟩:=h.Pq r v l;refine⟨a,λk=>(b k).trans ⟨λ⟨j,m,g,D,Υ⟩=>⟨j,m,g,(Y j r k m g D).2,Υ⟩,λ⟨j,m,g,D,Υ⟩=>?_⟩⟩;rcases C j r k m g D with⟨_,_,_,_,A⟩|⟨_,_,f⟩
 .exact absurd A Υ
 exact⟨j,m,g,f,Υ⟩
def Z5.new(sp:Spec):Z5:={toSpec:=sp,YZ:=0,wk:=0,sv:=0,nw:=0,Yr:=0,L:=[],cnt:=0,wt:=0,YP:=0,R:=[]}
def vV(N:Nat)(φ:Tok->Nat)(a:φ .nil=0):ZO N (λ_=>.nil) φ=0:=by
 induction N with
 | zero=>rfl
 | succ N b=>rw[MG,b,a]
def XT.vU(h:XT n tok spec view rel O Ze home)(E:O s=none)(P:i<n)(f:rel i=false)(sp:Spec) :
  XT n (Zj tok i s (.par 0 0 .add)) (upd spec i (upd (spec i) s (some sp))) (upd view i (upd (view i) s none)) rel (upd O s (some (Z5.new sp))) (upd Ze s i) home:=by
 have y:=h.bare s E
 have W:∀j,j≠0->j<n->home j≠s:=λj A c e=>by
  obtain⟨k,m,g,l⟩:=h.OB j A c;rw[e,y j]at l;cases l
 have Q:(λj=>Zj tok i s (.par 0 0 .add) j s)=upd (λ_=>.nil) i (.par 0 0 .add):=by
  rw[BV];have:(λj=>tok j s)=λ_=>.nil:=funext y;rw[this]
 have H:∀j r,r≠s->Zj tok i s (.par 0 0 .add) j r=tok j r:=λj r f=>XI _ λx=>f x.2
 have t:∀j r k m g,Zj tok i s (.par 0 0 .add) j r=.ch k m g↔tok j r=.ch k m g:=λj r k m g=>by
  by_cases e:j=i/\r=s
  .obtain⟨rfl,rfl⟩:=e;rw[Xw,y];simp
  rw[XI _ e]
 have v:∀j k m g,tok j s≠.ch k m g:=λj k m g e=>by rw[y]at e;cases e
 have B:∀r q,upd O s (some (Z5.new sp)) r=some q->(r=s/\q=Z5.new sp)\/(r≠s/\O r=some q):=λr q o=>by
  by_cases e:r=s
  .subst e;rw[upd_same]at o;cases o;exact .inl ⟨U,U⟩
  rw[upd_ne _ _ e]at o;exact .inr ⟨e,o⟩
 have one:∀φ:Tok->Nat,φ .nil=0->ZO n (upd (λ_=>.nil) i (.par 0 0 .add)) φ=φ (.par 0 0 .add):=λφ I=>by
  have e:=WK (N:=n) (λ_=>.nil) (.par 0 0 .add) φ P;rw[vV n φ I]at e;simp only[I]at e;omega
 refine⟨λr q o=>?_,λr f j=>?_,λj r c=>?_,λj r K c=>?_,λj r φ C c=>?_,λj r k L g q o c=>?_,λj r m p F c=>?_,λj r k m g c=>?_,λj A c=>?_,λj k m g A c=>?_,h.NK,λj r c R=>?_,λj r k m g q o c S=>?_,λr j T k m g V g' l D=>?_,λr j k m g q p F l D=>?_,λr q f=>?_,λr q f=>?_⟩
 .rcases B r q o with⟨rfl,rfl⟩|⟨e,u⟩
  .rw[Q];constructor
   .unfold Qc;rw[one Vt U,one RK U,one SD U,one Te U,one Sa U,one Td U,one Pt U,one RJ U,one Pu U];constructor<;>simp[Z5.new,Vt,RK,SD,Te,Sa,Td,Pt,RJ,Pu]
   unfold Q1;rw[one U1 U,one Uq U,one Up U,one Tc U,one XO U,one V4 U,one Vs U,one SC U,one Tb U,one Vr U];constructor<;>simp[Z5.new,U1,Uq,Up,Tc,XO,V4,Vs,SC,Tb,Vr]
  rw[ER _ _ _ _ e];exact h.Z4 r q u
 .have e:r≠s:=λe=>by rw[e,upd_same]at f;cases f
  rw[upd_ne _ _ e]at f;rw[H j r e];exact h.bare r f j
 .rw[XI _ (λx=>J)];exact h.out j r c
 .by_cases e:j=i
  .subst e;rw[upd_same]at c;by_cases d:r=s
   .subst d;rw[upd_same]at c;cases c;exact⟨_,upd_same ..,U⟩
   rw[upd_ne _ _ d]at c;obtain⟨q,a,b⟩:=h.Pr j r K c;exact⟨q,by rw[upd_ne _ _ d];exact a,b⟩
  rw[upd_ne _ _ e]at c;obtain⟨q,a,b⟩:=h.Pr j r K c;have d:r≠s:=λd=>by rw[d,E]at a;cases a
  exact⟨q,by rw[upd_ne _ _ d];exact a,b⟩
 .have M:∀j r φ C,view j r=some (φ,C)->∃w,upd O s (some (Z5.new sp)) r=some w/\XZ n w (λa=>Zj tok i s (.par 0 0 .add) a r)<=φ/\(XZ n w (λa=>Zj tok i s (.par 0 0 .add) a r)=φ->w=C):=λj r φ C hv=>by
   obtain⟨w,a,b⟩:=h.ME j r φ C hv;have d:r≠s:=λd=>by rw[d,E]at a;cases a
   exact⟨w,by rw[upd_ne _ _ d];exact a,by rw[ER _ _ _ _ d];exact b⟩
  by_cases e:j=i
  .subst e;rw[upd_same]at c;by_cases d:r=s
   .subst d;rw[upd_same]at c;cases c
   rw[upd_ne _ _ d]at c;exact M _ _ _ _ c
  rw[upd_ne _ _ e]at c;exact M _ _ _ _ c
 .rw[t]at c;rcases B r q o with⟨rfl,rfl⟩|⟨e,u⟩
  .exact absurd c (v _ _ _ _)
  exact h.YG j r k L g q u c
 .by_cases e:j=i/\r=s
  .obtain⟨rfl,rfl⟩:=e;rw[upd_same]
  rw[XI _ e]at c;have d:r≠s:=λd=>by rw[d,y]at c;cases c
  rw[upd_ne _ _ d];exact h.par j r m p F c
 .rw[t]at c;have d:r≠s:=λd=>by rw[d]at c;exact v _ _ _ _ c
  rw[upd_ne _ _ d];exact h.QW j r k m g c
 .obtain⟨k,m,g,l⟩:=h.OB j A c;exact⟨k,m,g,(t _ _ _ _ _).2 l⟩
 .rw[t]at c;exact h.XH j k m g A c
 .have e:j≠i:=λe=>by rw[e,f]at c;cases c
  rw[Oy _ e];exact h.QV j r c R
 .rw[t]at c;rcases B r q o with⟨rfl,rfl⟩|⟨e,u⟩
  .exact absurd c (v _ _ _ _)
  exact h.QU j r k m g q u c S
 .rw[t]at l D;exact h.MD r j T k m g V g' l D
 .rw[t]at l;have d:r≠s:=λd=>by rw[d]at l;exact v _ _ _ _ l
  rw[upd_ne _ _ d,H _ _ d]at D;exact h.NJ r j k m g q p F l D
 .simp only[t];rcases B r q f with⟨rfl,rfl⟩|⟨e,u⟩
  .exact⟨List.nodup_nil,λk=>⟨λx=>(by cases x),λ⟨j,m,g,x,_⟩=>absurd x (v _ _ _ _)⟩⟩
  exact h.Sy r q u
 simp only[t];rcases B r q f with⟨rfl,rfl⟩|⟨e,u⟩
 .exact⟨List.nodup_nil,λk=>⟨λx=>(by cases x),λ⟨j,m,g,x,_⟩=>absurd x (v _ _ _ _)⟩⟩
 exact h.Pq r q u
end
def vT(t u){k}(b:∀a∈u,a.g≠k):Deaf (t++u) k=Deaf t k:=by
 let ⟨l⟩:=u;rw[Deaf_append]
 induction l generalizing t with
 | nil=>rfl
 | cons y l d=>
  have e:=b y o
  have f:deafStep k (Deaf t k) y=Deaf t k:=by
   unfold deafStep;split<;>simp[e]
  rw[List.foldl_cons,f];exact d t (λa c=>b a (by simp at c ⊢;exact .inr c))
def vS{said t y z}(h:¬Race said t)(nt:∀d∈(#[y,z]:Trace),d.act.touch?=none):¬Race said (t++#[y,z]):=by
 have e:t++#[y,z]=(t++#[y])++#[z]:=by rw[MS];rfl
 rw[e];refine noRace_append (noRace_append h (λd c=>by simp at c;rw[c]) λk a _ d c b f _=>?_) (λd c=>by simp at c;rw[c]) λk a _ d c b f _=>?_
 .simp at c;subst c;rw[nt d o]at f;cases f
 simp at c;subst c;rw[nt d o]at f;cases f
section
variable{P:Program}{Q:Value->Prop}{Zy:World}{c c':YJ}{gs:Array Goroutine}{w w':World}{t:Trace}{i:Nat}{g g':Goroutine}{es:Array Event}
variable{f:Bool×Goroutine×Z0->WJ (Bool×Goroutine×Z0)}
def Inv.EL(h:Inv P Q Zy c gs w t)(aA:gs[i]?=some g)(C:BY P (i==0) (S' P Q f) g (c.x i)):VG P Q Zy c gs w t i f:=by
 let ⟨s,sp,n,p,g',S,Z,aa,aq,V,ah,bq,br,aQ,aR,W,aS,aT⟩:=C
 have aU:i<gs.size:=Sw aA
 let ⟨ab,aV,aW⟩:=h.Y7.Pr i s sp aq;subst aW;have ad:c.tok i s=.par n (p+1) .add:=V;have hd:c.deaf i=0:=ah;have bs:c.rel i=false:=aQ;have ae:=aR w (h.mem.fit (.inl i));have aX:gs.size≠i:=J;let N:=gs.size;let y:MemOp:={g:=i,fn:=g.frame.fn,pos:=g.frame.place,act:=.go gs.size};let z:MemOp:={g:=gs.size,fn:=S.frame.fn,pos:=g.frame.place,act:=.start};have aY:Deaf t i=0:=by rw[h.Zq.hears];exact hd
 have aH:Deaf t gs.size=0:=by
  have:=vT #[] t (k:=gs.size) (λu d e=>by
   let ⟨k,C⟩:=Ik.1 d
   have:=h.X9.Pm k u.g (by simp[Trace.g?,C]);omega)
  rw[Array.empty_append]at this;exact this
 let ar:Z0:={c.x i with G:=Z,tok:=upd (c.tok i) s (.par n p .add),view:=upd (c.view i) s none}
 let au:Z0:=⟨aa,λ_=>none,upd (λ_=>.nil) s (.ch (n-(p+1)) .idle .work),upd (λ_=>none) s (some ab.toSpec),λ_=>none,0,false⟩
 let E:=upd (Zj c.tok i s (.par n p .add)) gs.size (upd (λ_=>.nil) s (.ch (n-(p+1)) .idle .work))
 let c':YJ:={c with H:=Zv (Zv c.H (.inl i) Z) (.inl gs.size) aa,Z9:=upd c.Z9 gs.size (λ_=>none),tok:=E,spec:=upd c.spec gs.size (upd (λ_=>none) s (some ab.toSpec)),view:=upd (upd c.view i (upd (c.view i) s none)) gs.size λ_=>none,deaf:=upd c.deaf gs.size 0,rel:=upd c.rel gs.size false,home:=upd c.home gs.size s,T:=upd (upd c.T i (f (i==0,g',ar))) gs.size (f (false,S,au))}
 have aZ:=h.Y7.fork aV ad
 have bt:=runT_crowd_spawn (sl:=none) aA ae
 have a0:((MemOp.ofEvents i g.frame.fn g.frame.place #[]).push {g:=i,fn:=g.frame.fn,pos:=g.frame.place,act:=.go gs.size} |>.push {g:=gs.size,fn:=S.frame.fn,pos:=g.frame.place,act:=.start})=#[y,z]:=by rw[BP];rfl
 have aI:(Sum.inl i:YS)≠.inl gs.size:=λe=>aX (by cases e;rfl)
 have a1:∀r,E gs.size r≠.nil->r=s:=λr X=>by
  apply Tn;intro e;apply X;show upd (Zj c.tok i s (.par n p .add)) gs.size (upd (λ_=>.nil) s (.ch (n-(p+1)) .idle .work)) gs.size r=.nil;rw[upd_same,upd_ne _ _ e]
 have av:∀j,j≠gs.size->E j=Zj c.tok i s (.par n p .add) j:=λj A=>upd_ne _ _ A
 have a2:∀j r,j≠gs.size->E j r≠.nil->c.tok j r≠.nil:=λj r A X=>by
  rw[av j A]at X;exact JP ad o j r X
 have aB:∀j r q af,E j r=.par q af .Zg↔c.tok j r=.par q af .Zg:=λj r q af=>by
  by_cases e:j=gs.size
  .subst e;rw[h.Y7.out gs.size r (Z3 _)];show upd (Zj c.tok i s (.par n p .add)) gs.size (upd (λ_=>.nil) s (.ch (n-(p+1)) .idle .work)) gs.size r=_↔_;rw[upd_same];by_cases aJ:r=s
   .subst aJ;rw[upd_same];simp
   rw[upd_ne _ _ aJ]
  rw[av j e];exact HN ad o o j r q af
 have a3:∀j r k L g,c.tok j r=.ch k (.YG L) g->E j r=.ch k (.YG L) g:=λj r k L g A=>by
  have e:j≠gs.size:=λe=>by rw[e,h.Y7.out _ r (Z3 _)]at A;cases A
  rw[av j e,XI _ λx=>?_]
  .exact A
  obtain⟨rfl,rfl⟩:=x;rw[ad]at A;cases A
 have ai:∀j,j≠gs.size->c'.rel j=c.rel j:=λj A=>upd_ne _ _ A
 have aw:∀j,c'.rel j=true->j≠gs.size:=λj A e=>by
  subst e;have:upd c.rel gs.size false gs.size=true:=A;rw[upd_same]at this;cases this
 have ax:∀j b v,upd c.Z9 gs.size (λ_=>none) j b=some v->c.Z9 j b=some v:=λj b v hv=>by
  by_cases e:j=gs.size
  .subst e;rw[upd_same]at hv;cases hv
  rw[upd_ne _ _ e]at hv;exact hv
 have nt:∀u∈(#[y,z]:Trace),u.act.touch?=none:=λu d=>by simp at d;rcases d with rfl|rfl<;>rfl
 have RG:∀u∈(#[y,z]:Trace),∀m,u.act≠.mark m:=λu d m=>by simp at d;rcases d with rfl|rfl<;>simp[y,z]
 have aK:∀k,Knows t i k->Knows (t++#[y,z]) gs.size k:=λk C=>Knows.spawn C U U U U aY aH
 have a4:∀a k,UE c.tok c.O t a k->UE E c.O (t++#[y,z]) a k:=λa k C=>by
  cases a with
  | inl j=>exact Knows.app _ C
  | inr b=>
   rcases C with⟨p,u,aq,a5,V,ah⟩|C
   .have Y:=lt_size_of_getElem? aq;exact .inl ⟨p,u,by rw[getElem?_append_old Y];exact aq,a5,(heard_old Y).2 V,ah.app _⟩
   refine .inr λaj o' ay K j A=>?_;by_cases e:j=gs.size
   .subst e;have:=a1 aj A;subst this;exact aK k (C _ o' ay K i (by rw[ad];simp))
   exact(C aj o' ay K j (a2 j aj e A)).app _
 have aL:∀a,Yy (t++#[y,z]) (UE E c.O (t++#[y,z]) a) (c.H a):=λa=>
  (h.Zq.perms a).others (a4 a) λu d x B=>by rw[nt u d]at B;cases B
 have a6:Inv P Q Zy c' ((gs.setIfInBounds i g').push S) w (t++#[y,z]):=by
  have aC:((gs.setIfInBounds i g').push S).size=gs.size+1:=o;refine⟨by rw[aC];omega,(h.mem.two (W.l.fits (h.mem.fit (.inl i))) (W.r.fits (h.mem.fit (.inl i))) h.mem.XU).K8 ax,(h.hold.two aI W.l.Pn W.r.Pn W.apart ⟨λs ab ae=>⟨ab,ae,U⟩,λs ab ae=>⟨ab,ae,U⟩⟩ λx B=>by rcases B with e|e<;>cases e).K8 ax,?_,by rw[aC];exact aZ,?_,?_,?_,?_⟩
  .refine⟨λa7=>vS (h.Zq.race a7) nt,λu d=>?_,λu d a=>?_,λa=>?_,λj b v hv k a C=>?_,λaj o' b ay K k a C a8=>?_,λj=>?_⟩
   .rcases Q3.1 d with d|d
    .exact h.Zq.low u d
    simp at d;rcases d with rfl|rfl<;>trivial
   .rcases Q3.1 d with d|d
    .exact h.Zq.norel u d a
    exact RG u d _
   .show Yy _ _ (Zv (Zv c.H (.inl i) Z) (.inl gs.size) aa a);by_cases Υ:a=.inl gs.size
    .subst Υ;rw[Yk];exact(((h.Zq.perms (.inl i)).others aK λu d x B=>by rw[nt u d]at B;cases B):Yy _ (Knows _ gs.size) _).sub W.r
    rw[Zu _ _ Υ];by_cases F:a=.inl i
    .subst F;rw[Yk];exact(aL (.inl i)).sub W.l
    rw[Zu _ _ F];exact aL a
   .have:=ax j b v hv;rcases Sb C with ag|⟨_,u,d,_,B⟩
    .exact h.Zq.QY j b v this k a ag
    rw[nt u d]at B;cases B
   .rcases Sb C with ag|⟨_,u,d,_,B⟩
    .rcases h.Zq.cont aj o' b ay K k a ag a8 with x|⟨x,a9⟩
     .exact .inl x
     let ⟨u,a',_⟩:=touch_of ag;exact .inr ⟨x,by rw[g?_old (lt_size_of_getElem? a')];exact a9⟩
    rw[nt u d]at B;cases B
   have F:Deaf (t++#[y,z]) j=Deaf t j:=by
    have e:t++#[y,z]=(t++#[y])++#[z]:=by rw[MS];rfl
    rw[e,Deaf_push,Deaf_push];simp[deafStep,y,z]
   rw[F];by_cases e:j=gs.size
   .subst e;rw[aH];exact(upd_same ..).symm
   rw[h.Zq.hears];exact(upd_ne _ _ e).symm
  .have aM:∀b,Zv (Zv c.H (.inl i) Z) (.inl gs.size) aa (.inr b)=c.H (.inr b):=λb=>by rw[Vb,Vb]
   refine⟨λr q m M aD ak ba=>?_,λr q M ak=>?_⟩
   .show q.Yd q.L (Zv (Zv c.H (.inl i) Z) (.inl gs.size) aa (.inr m));rw[aM];exact h.X2.P9 r q m M aD (λj q p x=>ak j q p ((aB j r q p).2 x)) λj k L g x=>ba j k L g (a3 _ _ _ _ _ x)
   show Ta q.D q.R (Zv (Zv c.H (.inl i) Z) (.inl gs.size) aa (.inr r));rw[aM];exact h.X2.QT r q M (λj q p x=>ak j q p ((aB j r q p).2 x))
  .rw[aC];refine⟨λk a C=>?_,λj al A=>?_,λj al A ak=>?_,λj al A a b=>?_⟩
   .let ⟨u,d,am⟩:=T7.1 C;rcases getElem?_append_cases d with⟨_,aE⟩|⟨_,an⟩
    .have:=h.X9.Pm k a (by simp[Trace.g?,aE,am]);omega
    simp at an;rcases an with rfl|rfl
    .rw[<-am];show i<gs.size+1;omega
    rw[<-am];show gs.size<gs.size+1;omega
   .have I:=aw j A;rw[ai j I]at A;let ⟨u,aN,bb,bc,bd,be⟩:=h.X9.c1 j al A;have Y:=lt_size_of_getElem? aN;refine⟨u,?_,bb,?_,(heard_old Y).2 bd,λaF ag aO=>?_⟩
    ·
     rw[getElem?_append_old Y];exact aN
    .show u.act=.mark (.releaseMerge ⟨upd c.home gs.size s j,0,none⟩);rw[upd_ne _ _ I];exact bc
    let ⟨bu,d,am⟩:=T7.1 ag;rcases getElem?_append_cases d with⟨aP,aE⟩|⟨bf,an⟩
    .exact(be aF (by simp[Trace.g?,aE,am]) ((JS aP).1 aO)).app _
    exact absurd aO (La nt aF bf)
   .have I:=aw j A;rw[ai j I]at A;let ⟨q,af,M⟩:=ak;have aG:c'.home j=c.home j:=upd_ne _ _ I;rw[aG]at M ⊢;exact(h.X9.c2 j al A ⟨q,af,(aB _ _ _ _).1 M⟩).app _
   have I:=aw j A;rw[ai j I]at A;have aG:c'.home j=c.home j:=upd_ne _ _ I;rw[aG]at a b ⊢;have bg:=aw _ b;rw[ai _ bg]at b;exact(h.X9.c3 j al A a b).app _
  .refine⟨λr q bh M bi p u Y ao=>?_,λj b v hv u d ao=>?_⟩
   .rcases getElem?_append_cases Y with⟨aP,bj⟩|⟨_,an⟩
    .let ⟨⟨aF,bv,g,V⟩,ah⟩:=h.Wi.MA r q bh M bi p u bj ao
     have I:u.g≠gs.size:=λe=>by rw[e,h.Y7.out _ r (Z3 _)]at V;cases V
     refine⟨?_,λX=>?_⟩
     .rw[show c'.tok u.g=Zj c.tok i s (.par n _ .add) u.g from av _ I];exact JO ad (λ_ _ _ e=>by cases e) _ _ _ _ _ V
     rw[ai _ I]at X;exact(ah X).app _
    exact absurd ao (RG u an _)
   rcases Q3.1 d with d|d
   .exact h.Wi.Mz j b v (ax j b v hv) u d ao
   exact RG u d _ ao
  intro j b K;by_cases e:j=gs.size
  .subst e;rw[Lo]at K;simp at K;subst K;refine⟨S,?_,.inl U⟩;have B:c'.x gs.size=au:=by simp[c',au,E,YJ.x,upd_same]
   have ap:c'.T gs.size=f (false,S,au):=upd_same ..
   have aD:(gs.size==0)=false:=by rw[beq_eq_false_iff_ne];exact Nat.ne_of_gt h.pos
   rw[B,ap,aD];exact aT
  have az:(gs.setIfInBounds i g')[j]?=some b:=by
   rw[Lo]at K;simpa[e] using K
  by_cases F:j=i
  .subst F;rw[SL aU]at az;cases az;refine⟨g',?_,.inl U⟩;have B:c'.x j=ar:=by simp[c',ar,E,YJ.x,upd_same,upd_ne _ _ e,Mx,Zu _ _ aI]
   have ap:c'.T j=f (j==0,g',ar):=by show upd (upd c.T j _) gs.size _ j=_;rw[upd_ne _ _ e,upd_same]
   rw[B,ap];exact aS
  rw[Ut (YX F)]at az;let ⟨bk,bl,bm⟩:=h.My j b az;have bn:(Sum.inl j:YS)≠.inl gs.size:=λx=>e (by cases x;rfl);have bo:(Sum.inl j:YS)≠.inl i:=λx=>F (by cases x;rfl);have B:c'.x j=c.x j:=by simp[c',E,YJ.x,upd_ne _ _ e,upd_ne _ _ F,Oy _ F,Zu _ _ bn,Zu _ _ bo]
  have ap:c'.T j=c.T j:=by show upd (upd c.T i _) gs.size _ j=_;rw[upd_ne _ _ e,upd_ne _ _ F]
  have bp:c'.tok j=c.tok j:=congrArg Z0.tok B;refine⟨bk,by rw[B,ap];exact bl,?_⟩;rw[bp];exact bm
 refine λsl=>⟨c',_,w,_,runT_crowd_spawn aA ae,?_,.inr (.inl ⟨o,_,_,U⟩)⟩;rw[a0];exact a6
end
def vR(sp):YV (Z5.new sp)=0:=by simp[YV,Z5.new]
def vQ(sp):mwd (Z5.new sp)=0:=by simp[mwd,Z5.new]
section
variable{P:Program}{Q:Value->Prop}{Zy:World}{c c':YJ}{gs:Array Goroutine}{w w':World}{t:Trace}{i:Nat}{g g':Goroutine}{es:Array Event}
variable{f:Bool×Goroutine×Z0->WJ (Bool×Goroutine×Z0)}
def Inv.seen(h:Inv P Q Zy c gs w t)(l:gs[i]?=some g)
  (mem:Wj c'.H c'.Z9 c'.O Zy w) (hold:Vq c'.H c'.Z9 c'.O Zy.heap.size) (Zq:Vd c'.H c'.Z9 c'.tok c'.O c'.Ze c'.deaf w.heap.size t)
  (Y7:XT gs.size c'.tok c'.spec c'.view c'.rel c'.O c'.Ze c'.home) (X2:Ld c'.H c'.tok c'.O) (X9:MB gs.size c'.tok c'.rel c'.Ze c'.home c'.Xx t) (Wi:Oz c'.Z9 c'.tok c'.O c'.rel c'.Xx t)
  (m:Rec P Q c' i g) (n:∀j,j≠i->c'.x j=c.x j/\c'.T j=c.T j) (o:∀s a,c.O s=some a->c'.O s=some a):Inv P Q Zy c' gs w t:=by
 refine⟨h.pos,mem,hold,Zq,Y7,X2,X9,Wi,λj b d=>?_⟩;by_cases e:j=i
 .subst e;rw[l]at d;cases d;exact m
 let ⟨p,r,u⟩:=h.My j b d
 let ⟨f,Υ⟩:=n j e
 have k:c'.tok j=c.tok j:=congrArg Z0.tok f;refine⟨p,by rw[f,Υ];exact r,u.imp id λ⟨v,y,s,a,A,B,C⟩=>⟨v,y,s,a,o s a A,by rw[k];exact B,by rw[k];exact C⟩⟩
def Inv.vP(h:Inv P Q Zy c gs w t)(af:gs[i]?=some g){b cs ty}(I:c.Z9 i b=some (cs,ty)){D}
  (ag:D={c.x i with Z9:=upd (c.Z9 i) b none,G:=⟨λd m=>if d=b then(cs[m]?).map (·,true) else(c.H (.inl i)).Α d m,λd=>if d=b then some (ty,cs.size) else(c.H (.inl i)).row d,(c.H (.inl i)).obj⟩}) (ah:S' P Q f (i==0) g D):HO P Q Zy c gs w t i f:=by
 let G':Φ:=⟨λd m=>if d=b then(cs[m]?).map (·,true) else(c.H (.inl i)).Α d m,λd=>if d=b then some (ty,cs.size) else(c.H (.inl i)).row d,(c.H (.inl i)).obj⟩
 let ⟨f1,f2,f3⟩:=h.hold.fresh i b _ I
 have M:=h.mem.Sz i b cs ty I
 have E:∀d m,d≠b->G'.Α d m=(c.H (.inl i)).Α d m:=λd m e=>by simp[G',e]
 have ai:∀m,G'.Α b m=(cs[m]?).map (·,true):=λm=>by simp[G']
 have X:∀d m,d≠b->(G'.has d m↔(c.H (.inl i)).has d m):=λd m e=>by unfold Φ.has;rw[E d m e]
 have Y:∀d m,d≠b->(G'.owns d m↔(c.H (.inl i)).owns d m):=λd m e=>by unfold Φ.owns;rw[E d m e]
 have aj:∀d,G'.Xy d↔(c.H (.inl i)).Xy d:=λd=>Iff.rfl
 have Z:∀d,d≠b->(c.H (.inl i)).off d->G'.off d:=λd e o=>⟨λm ak=>o.1 m ((X d m e).1 ak),o.2⟩
 let c':YJ:={c with H:=Zv c.H (.inl i) G',Z9:=upd c.Z9 i (upd (c.Z9 i) b none),T:=upd c.T i (f (i==0,g,D))}
 have B:∀j d v,upd c.Z9 i (upd (c.Z9 i) b none) j d=some v->c.Z9 j d=some v/\d≠b:=λj d v hv=>by
  by_cases e:j=i
  .subst e;rw[upd_same]at hv;by_cases n:d=b
   .subst n;rw[upd_same]at hv;cases hv
   rw[upd_ne _ _ n]at hv;exact⟨hv,n⟩
  rw[upd_ne _ _ e]at hv;exact⟨hv,λn=>by rw[n,f3 j e]at hv;cases hv⟩
 have al:∀s m d,c.O s=some m->X6 s m.toSpec d->d≠b:=λs m d J C e=>by
  have:=(h.hold.UF s m d J C).2.2 i;rw[e,I]at this;cases this
 have aa:∀k,k≠.inl i->Apart G' (c.H k):=λk am=>by
  have a:=h.hold.apart _ _ (YX am);refine⟨λd m x y=>?_,λd m x y=>?_,λd x y=>a.obj d x y⟩
  .by_cases e:d=b
   .subst e;exact(f2 k).1 m y
   exact a.Α d m ((Y d m e).1 x) y
  by_cases e:d=b
  .subst e;exact(f2 k).1 m ⟨_,x.choose_spec⟩
  exact a.Qe d m x ((X d m e).1 y)
 have an:c'.x i=D:=by rw[ag];simp[c',G',YJ.x,upd_same]
 refine⟨c',h.seen af ⟨λk=>?_,λj d cs' ao hv=>h.mem.Sz j d cs' ao (B j d _ hv).1,h.mem.XU,h.mem.keep⟩
  ⟨λk l N=>?_,λk d m o=>?_,λk d o=>?_,λj d v hv=>?_,λs m d J C=>?_,h.hold.T4,h.hold.P',λd C=>?_⟩ ⟨h.Zq.race,h.Zq.low,h.Zq.norel,λk=>?_,λj d v hv=>h.Zq.QY j d v (B j d v hv).1,h.Zq.cont,h.Zq.hears⟩ h.Y7 (h.X2.JR λd=>Vb c.H i G' d) h.X9
  ⟨h.Wi.MA,λj d v hv=>h.Wi.Mz j d v (B j d v hv).1⟩ ⟨g,?_,.inl U⟩ (λj R=>⟨?_,upd_ne _ _ R⟩) λ_ _ a=>a,_,U⟩
 .show Fits (Zv c.H (.inl i) G' k) w;by_cases e:k=.inl i
  .subst e;rw[Yk];have K:=h.mem.fit (.inl i);refine⟨λd m v p r=>?_,λd t' ap L=>?_,K.obj,λd m v r=>?_⟩
   .by_cases n:d=b
    .subst n;rw[ai]at r;cases u:cs[m]? with
     | none=>rw[u]at r;cases r
     | some v'=>rw[u]at r;cases r;exact SE M u
    rw[E d m n]at r;exact K.Α d m v p r
   .by_cases n:d=b
    .subst n;simp[G']at L;obtain⟨rfl,rfl⟩:=L;exact⟨cs,_,M,U⟩
    simp[G',n]at L;exact K.row d t' ap L
   by_cases n:d=b
   .subst n;simp[World.frozen?,M]
   rw[E d m n]at r;exact K.thaw d m v r
  rw[Zu _ _ e];exact h.mem.fit k
 .show Apart (Zv c.H (.inl i) G' k) (Zv c.H (.inl i) G' l);by_cases e:k=.inl i
  .subst e;rw[Yk,Zu _ _ (YX N)];exact aa l (YX N)
  rw[Zu _ _ e];by_cases n:l=.inl i
  .subst n;rw[Yk];exact(aa k e).symm
  rw[Zu _ _ n];exact h.hold.apart k l N
 .replace o:(Zv c.H (.inl i) G' k).owns d m:=o
  by_cases e:k=.inl i
  .subst e;rw[Yk]at o;by_cases n:d=b
   .subst n;exact f1
   exact h.hold.high _ _ _ ((Y d m n).1 o)
  rw[Zu _ _ e]at o;exact h.hold.high _ _ _ o
 .replace o:(Zv c.H (.inl i) G' k).Xy d:=o
  by_cases e:k=.inl i
  .subst e;rw[Yk]at o;exact h.hold.RH _ _ ((aj d).1 o)
  rw[Zu _ _ e]at o;exact h.hold.RH _ _ o
 .let ⟨aq,S⟩:=B j d v hv
  let ⟨V,F,W⟩:=h.hold.fresh j d v aq;refine⟨V,λk=>?_,λA ar=>?_⟩
  .show(Zv c.H (.inl i) G' k).off d;by_cases e:k=.inl i
   .subst e;rw[Yk];exact Z d S (F _)
   rw[Zu _ _ e];exact F k
  cases u:c'.Z9 A d with
  | none=>rfl
  | some v'=>have:=(B A d v' u).1;rw[W A ar]at this;cases this
 .let ⟨V,F,W⟩:=h.hold.UF s m d J C
  have S:=al s m d J C;refine⟨V,λk=>?_,λA=>?_⟩
  .show(Zv c.H (.inl i) G' k).off d;by_cases e:k=.inl i
   .subst e;rw[Yk];exact Z d S (F _)
   rw[Zu _ _ e];exact F k
  cases u:c'.Z9 A d with
  | none=>rfl
  | some v'=>have:=(B A d v' u).1;rw[W A]at this;cases this
 .show Zv c.H (.inl i) G' (.inr d)=Φ.empty;rw[Vb];exact h.hold.X2 d C
 .show Yy t (UE c.tok c.O t k) (Zv c.H (.inl i) G' k);by_cases e:k=.inl i
  .subst e;rw[Yk];have ab:=h.Zq.perms (.inl i);refine⟨λd m v p r k a ad ae au=>?_,ab.obj⟩;by_cases n:d=b
   .exfalso;apply h.Zq.QY i b _ I k a ad;rw[ae];exact n
   rw[E d m n]at r;exact ab.Α d m v p r k a ad ae au
  rw[Zu _ _ e];exact h.Zq.perms k
 .rw[an];show UG P Q (upd c.T i (f (i==0,g,D)) i) _ _ _;rw[upd_same];exact ah
 have av:(Sum.inl j:YS)≠.inl i:=λx=>R (by cases x;rfl);simp[c',YJ.x,upd_ne _ _ R,Zu _ _ av]
def Inv.less(h:Inv P Q Zy c gs w t)(r:gs[i]?=some g){G'}(d:Sub G' (c.H (.inl i)))(s:S' P Q f (i==0) g {c.x i with G:=G'}):HO P Q Zy c gs w t i f:=by
 let l:Z0:={c.x i with G:=G'}
 let c':YJ:={c with H:=Zv c.H (.inl i) G',T:=upd c.T i (f (i==0,g,l))}
 have u:c'.x i=l:=by simp[c',l,YJ.x]
 have y:upd c.Z9 i (c.Z9 i)=c.Z9:=HQ U
 have m:=h.mem.own h.hold i (Xe.refl _ _ w) (d.fits (h.mem.fit (.inl i))) (h.mem.Sz i) U
 have n:=h.hold.own h.mem h.mem.keep.size i ⟨λb A v p B=>.inr (let ⟨C,D,E⟩:=d.Α b A v p B;⟨v,C,D,E⟩),λb F=>.inr (d.Xy F)⟩ (λb x I=>.inl I);rw[y]at m n;refine⟨c',h.seen r m n ⟨h.Zq.race,h.Zq.low,h.Zq.norel,λk=>?_,h.Zq.QY,h.Zq.cont,h.Zq.hears⟩ h.Y7 (h.X2.JR λJ=>Vb c.H i G' J) h.X9 h.Wi ⟨g,?_,.inl U⟩ (λj o=>⟨?_,upd_ne _ _ o⟩) λ_ _ a=>a,_,U⟩
 .show Yy t (UE c.tok c.O t k) (Zv c.H (.inl i) G' k);by_cases e:k=.inl i
  .subst e;rw[Yk];exact(h.Zq.perms (.inl i)).sub d
  rw[Zu _ _ e];exact h.Zq.perms k
 .rw[u];show UG P Q (upd c.T i (f (i==0,g,l)) i) _ _ _;rw[upd_same];exact s
 have K:(Sum.inl j:YS)≠.inl i:=λx=>o (by cases x;rfl);simp[c',YJ.x,Zu _ _ K]
def Inv.group(h:Inv P Q Zy c gs w t)(aq:gs[i]?=some g){s sp ty G' E}(C:c.Z9 i s=some (#[.int .u64 0,.int .u32 0],ty))(ah:∀m,sp.ZR=some m->m≠s/\∃ai,c.Z9 i m=some (#[.int .i32 0,.int .u32 0],ai))
  (aN:c.rel i=false) (J:Split (c.H (.inl i)) G' E) (aO:sp.ZR≠none->sp.Yd [] E) {aa}
  (aP:aa={c.x i with G:=G',Z9:=λb=>if b=s\/sp.ZR=some b then none else c.Z9 i b,tok:=upd (c.tok i) s (.par 0 0 .add),spec:=upd (c.spec i) s (some sp),view:=upd (c.view i) s none}) (aQ:S' P Q f (i==0) g aa):HO P Q Zy c gs w t i f:=by
 have aR:i<gs.size:=Sw aq
 have aj:c.O s=none:=by
  cases K:c.O s with
  | none=>rfl
  | some d=>have:=(h.hold.UF s d s K (.inl rfl)).2.2 i;rw[C]at this;cases this
 have ab:∀b,X6 s sp b->∃v,c.Z9 i b=some v:=λb hb=>by
  rcases hb with rfl|hb
  .exact⟨_,C⟩
  let ⟨_,ai,aS⟩:=ah b hb;exact⟨_,aS⟩
 have Y:∀r d b,c.O r=some d->X6 r d.toSpec b->¬X6 s sp b:=λr d b n hb ad=>by
  let ⟨v,hv⟩:=ab b ad
  have:=(h.hold.UF r d b n hb).2.2 i;rw[hv]at this;cases this
 have ar:∀r d,c.O r=some d->r≠s:=λr d n e=>by rw[e,aj]at n;cases n
 let V':Nat->Option (ZP×TypeId):=λb=>if b=s\/sp.ZR=some b then none else c.Z9 i b
 let O':=upd c.O s (some (Z5.new sp))
 have Z:∀j b v,upd c.Z9 i V' j b=some v->c.Z9 j b=some v/\¬X6 s sp b:=λj b v hv=>by
  by_cases e:j=i
  .subst e;rw[upd_same]at hv;by_cases ak:b=s\/sp.ZR=some b
   .simp[V',ak]at hv
   simp[V',ak]at hv;exact⟨hv,ak⟩
  rw[upd_ne _ _ e]at hv;refine⟨hv,λhb=>?_⟩;let ⟨v',aT⟩:=ab b hb;have:=(h.hold.fresh i b v' aT).2.2 j e;rw[this]at hv;cases hv
 have au:∀j b,c.Z9 j b=none->upd c.Z9 i V' j b=none:=λj b e=>by
  cases K:upd c.Z9 i V' j b with
  | none=>rfl
  | some v=>have:=(Z j b v K).1;rw[e]at this;cases this
 have aU:∀j b,X6 s sp b->upd c.Z9 i V' j b=none:=λj b hb=>by
  cases K:upd c.Z9 i V' j b with
  | none=>rfl
  | some v=>exact absurd hb (Z j b v K).2
 have F:∀r q,O' r=some q->(r=s/\q=Z5.new sp)\/(r≠s/\c.O r=some q):=λr q A=>by
  by_cases e:r=s
  .subst e;rw[show O' r=some (Z5.new sp) from upd_same ..]at A;cases A;exact .inl ⟨U,U⟩
  rw[show O' r=c.O r from upd_ne _ _ e]at A;exact .inr ⟨e,A⟩
 have av:Vq c.H (upd c.Z9 i V') O' Zy.heap.size:=by
  refine⟨h.hold.apart,h.hold.high,h.hold.RH,λj b v hv=>?_,λr d b n hb=>?_,λr r' d o' b n I hb ad=>?_,λr d m n y=>?_,λb hb=>h.hold.X2 b λr d n hi=>hb r d (by rw[show O' r=c.O r from upd_ne _ _ (ar r d n)];exact n) hi⟩
  .let ⟨V,W,am⟩:=h.hold.fresh j b v (Z j b v hv).1;exact⟨V,W,λaw aV=>au aw b (am aw aV)⟩
  .rcases F r d n with⟨rfl,rfl⟩|⟨e,I⟩
   .let ⟨v,hv⟩:=ab b hb
    let ⟨V,W,_⟩:=h.hold.fresh i b v hv;exact⟨V,W,λj=>aU j b hb⟩
   let ⟨V,W,am⟩:=h.hold.UF r d b I hb;exact⟨V,W,λj=>au j b (am j)⟩
  .rcases F r d n with⟨rfl,rfl⟩|⟨e,ax⟩<;>rcases F r' o' I with⟨rfl,rfl⟩|⟨ak,ay⟩
   .rfl
   .exact absurd hb (Y r' o' b ay ad)
   .exact absurd ad (Y r d b ax hb)
   exact h.hold.T4 r r' d o' b ax ay hb ad
  rcases F r d n with⟨rfl,rfl⟩|⟨e,I⟩
  .exact(ah m y).1
  exact h.hold.P' r d m I y
 have az:O' s=some (Z5.new sp):=upd_same ..
 have aA:c.H (.inr s)=Φ.empty:=h.hold.X2 s λr d n hi=>Y r d s n hi (.inl U)
 have aB:∀r q,O' r=some q->At r q w:=λr q A=>by
  rcases F r q A with⟨rfl,rfl⟩|⟨_,M⟩
  .refine⟨⟨ty,?_⟩,λm y=>let ⟨_,ai,hv⟩:=ah m y;⟨ai,?_⟩⟩
   .rw[vR];exact h.mem.Sz i r _ _ C
   rw[vQ];exact h.mem.Sz i m _ _ hv
  exact h.mem.XU _ _ M
 obtain⟨B,aW,aX,aC,aD,aY,aZ,a0⟩:∃B,B (.inl i)=G'/\(∀j,j≠i->B (.inl j)=c.H (.inl j))/\(∀b,¬X6 s sp b->B (.inr b)=c.H (.inr b))/\(B (.inr s)=Φ.empty/\∀m,sp.ZR=some m->B (.inr m)=E)/\
   Vq B (upd c.Z9 i V') O' Zy.heap.size/\Wj B (upd c.Z9 i V') O' Zy w/\∀a,Yy t (UE (Zj c.tok i s (.par 0 0 .add)) O' t a) (B a):=by
  have an:=h.Zq.perms (.inl i)
  have aE:∀a,(∀b,a=.inr b->¬X6 s sp b)->Yy t (UE (Zj c.tok i s (.par 0 0 .add)) O' t a) (c.H a):=λa X=>by
   refine(h.Zq.perms a).mono λk N=>?_;cases a with
   | inl j=>exact N
   | inr b=>
    refine N.imp id λN r d n hb j u=>?_;rcases F r d n with⟨rfl,rfl⟩|⟨e,I⟩
    .exact absurd hb (X b U)
    rw[XI _ (λx=>e x.2)]at u;exact N r d I hb j u
  have aF:Wj c.H (upd c.Z9 i V') c.O Zy w:=h.mem.K8 λj b v hv=>(Z j b v hv).1
  have aG:(Sum.inl i:YS)≠.inr s:=o;cases y:sp.ZR with
  | none=>
   refine⟨Zv (Zv c.H (.inl i) G') (.inr s) Φ.empty,?_,λj u=>?_,λb hb=>?_,⟨Yk ..,λm e=>(by cases e)⟩,?_,aF.two (J.l.fits (h.mem.fit (.inl i))) (MC w) aB,λa=>?_⟩
   .rw[Zu _ _ aG,Yk]
   .rw[Zu _ _ o,Zu _ _ (λe=>u (by cases e;rfl))]
   .have:(Sum.inr b:YS)≠.inr s:=λe=>hb (by cases e;exact .inl U);rw[Zu _ _ this,Vb]
   .exact av.two aG J.l.Pn (Sub.empty _) (Apart.Po _) ⟨λs d C=>⟨d,C,U⟩,λs d C=>⟨d,C,U⟩⟩ λx K=>by
     rcases K with e|e
     .cases e;exact⟨s,_,az,.inl U⟩
     cases e
   by_cases Υ:a=.inr s
   .subst Υ;rw[Yk];exact Yy.empty
   rw[Zu _ _ Υ];by_cases ae:a=.inl i
   .subst ae;rw[Yk];exact an.sub J.l
   rw[Zu _ _ ae];refine aE a λb e hb=>?_;subst e;rcases hb with rfl|hb
   .exact Υ U
   rw[y]at hb;cases hb
  | some m=>
   have a1:=(ah m y).1
   have aH:(Sum.inl i:YS)≠.inr m:=o;refine⟨Zv (Zv c.H (.inl i) G') (.inr m) E,?_,λj u=>?_,λb hb=>?_,⟨?_,λa8 e=>?_⟩,?_,aF.two (J.l.fits (h.mem.fit (.inl i))) (J.r.fits (h.mem.fit (.inl i))) aB,λa=>?_⟩
   .rw[Zu _ _ aH,Yk]
   .rw[Zu _ _ o,Zu _ _ (λe=>u (by cases e;rfl))]
   .have:(Sum.inr b:YS)≠.inr m:=λe=>hb (by cases e;exact .inr y);rw[Zu _ _ this,Vb]
   .have:(Sum.inr s:YS)≠.inr m:=λe=>a1 (by cases e;rfl);rw[Zu _ _ this,Vb];exact aA
   .cases e;rw[Yk]
   .exact av.two aH J.l.Pn J.r.Pn J.apart ⟨λs d C=>⟨d,C,U⟩,λs d C=>⟨d,C,U⟩⟩ λx K=>by
     rcases K with e|e
     .cases e;exact⟨s,_,az,.inr y⟩
     cases e
   by_cases Υ:a=.inr m
   .subst Υ;rw[Yk];refine(an.sub J.r).mono λk N=>.inr λr d n hb j u=>?_;rcases F r d n with⟨rfl,rfl⟩|⟨e,I⟩
    .by_cases e:j=i
     .subst e;exact N
     rw[Oy _ e,h.Y7.bare r aj j]at u;exact absurd U u
    exact absurd (.inr y) (Y r d m I hb)
   rw[Zu _ _ Υ];by_cases ae:a=.inl i
   .subst ae;rw[Yk];exact an.sub J.l
   rw[Zu _ _ ae];by_cases aI:a=.inr s
   .subst aI;rw[aA];exact Yy.empty
   refine aE a λb e hb=>?_;subst e;rcases hb with rfl|hb
   .exact aI U
   rw[y]at hb;cases hb;exact Υ U
 let c':YJ:={c with H:=B,Z9:=upd c.Z9 i V',tok:=Zj c.tok i s (.par 0 0 .add),spec:=upd c.spec i (upd (c.spec i) s (some sp)),view:=upd c.view i (upd (c.view i) s none),O:=O',Ze:=upd c.Ze s i,T:=upd c.T i (f (i==0,g,aa))}
 have a2:c'.x i=aa:=by rw[aP];simp[c',V',YJ.x,upd_same,Mx,aW]
 have af:∀j r,r≠s->Zj c.tok i s (.par 0 0 .add) j r=c.tok j r:=λj r n=>XI _ λx=>n x.2
 have aJ:∀j,j≠0->c.rel j=true->c.home j≠s:=λj S u e=>by
  let ⟨ao,V,W,_⟩:=h.X9.c1 j S u
  have a3:=h.X9.Pm (c.Xx j) j (by simp[Trace.g?,V,W])
  let ⟨k,m,g,N⟩:=h.Y7.OB j S a3;rw[e,h.Y7.bare s aj j]at N;cases N
 refine⟨c',h.seen (c':=c') aq aZ aY ⟨h.Zq.race,h.Zq.low,h.Zq.norel,a0,λj b v hv=>h.Zq.QY j b v (Z j b v hv).1,λr d b n hb k a X aK=>?_,h.Zq.hears⟩ (h.Y7.vU aj aR aN sp) ⟨λr q m A y ag a4=>?_,λr q A ag=>?_⟩
  ⟨h.X9.Pm,h.X9.c1,λj S u ag=>?_,λj S u a b=>?_⟩ ⟨λr q m A y p ao aL X=>?_,λj b v hv=>h.Wi.Mz j b v (Z j b v hv).1⟩ ⟨g,?_,.inl U⟩ (λj u=>⟨?_,upd_ne _ _ u⟩) (λr d n=>?_),_,U⟩
 .rcases F r d n with⟨rfl,rfl⟩|⟨e,I⟩
  .let ⟨v,hv⟩:=ab b hb;exact absurd aK (h.Zq.QY i b v hv k a X)
  have:=h.Zq.cont r d b I hb k a X aK
  show _\/(_/\_=some (upd c.Ze s i r));rw[upd_ne _ _ e];exact this
 .rcases F r q A with⟨rfl,rfl⟩|⟨e,M⟩
  .show sp.Yd [] (B (.inr m));rw[aD.2 m y];exact aO (by have:sp.ZR=some m:=y;rw[this];simp)
  show q.Yd q.L (B (.inr m));rw[aC m (Y r q m M (.inr y))];exact h.X2.P9 r q m M y (λj ap p x=>ag j ap p (by show Zj c.tok i s _ j r=_;rw[af j r e];exact x)) λj k L g x=>a4 j k L g (by show Zj c.tok i s _ j r=_;rw[af j r e];exact x)
 .rcases F r q A with⟨rfl,rfl⟩|⟨e,M⟩
  .show Ta sp.D [] (B (.inr r));rw[aD.1];rfl
  show Ta q.D q.R (B (.inr r));rw[aC r (Y r q r M (.inl U))];exact h.X2.QT r q M λj ap p x=>ag j ap p (by show Zj c.tok i s _ j r=_;rw[af j r e];exact x)
 .let ⟨q,p,A⟩:=ag
  have e:=aJ j S u
  have al:c'.Ze (c.home j)=c.Ze (c.home j):=upd_ne _ _ e;rw[al];refine h.X9.c2 j S u ⟨q,p,?_⟩;have:Zj c.tok i s (.par 0 0 .add) (c'.Ze (c.home j)) (c.home j)=.par q p .Zg:=A
  rwa [af _ _ e,al]at this
 .have e:=aJ j S u
  have al:c'.Ze (c.home j)=c.Ze (c.home j):=upd_ne _ _ e
  have a':c'.Ze (c.home j)≠0:=a
  have aM:c.rel (c'.Ze (c.home j))=true:=b;rw[al]at a' aM ⊢;exact h.X9.c3 j S u a' aM
 .rcases F r q A with⟨rfl,rfl⟩|⟨e,M⟩
  .let ⟨v,hv⟩:=ab m (.inr y);exact absurd X (h.Wi.Mz i m v hv ao (mem_of_getElem? aL))
  let ⟨⟨k,a5,g,a6⟩,a7⟩:=h.Wi.MA r q m M y p ao aL X;exact⟨⟨k,a5,g,by show Zj c.tok i s _ _ r=_;rw[af _ r e];exact a6⟩,a7⟩
 .rw[a2];show UG P Q (upd c.T i (f (i==0,g,aa)) i) _ _ _;rw[upd_same];exact aQ
 .simp[c',YJ.x,upd_ne _ _ u,Oy _ u,aX j u]
 show O' r=some d;rw[show O' r=c.O r from upd_ne _ _ (ar r d n)];exact n
def Inv.ghost(h:Inv P Q Zy c gs w t)(d:gs[i]?=some g)(j:EU (i==0) (S' P Q f) g (c.x i)):HO P Q Zy c gs w t i f:=by
 rcases j with⟨G',a,e⟩|⟨b,cs,k,a,e⟩|⟨s,sp,k,G',E,a,l,m,n,o,p⟩
 .exact h.less d a e
 .exact h.vP d a U e
 have r:c.O s=none:=by
  cases u:c.O s with
  | none=>rfl
  | some v=>have:=(h.hold.UF s v s u (.inl rfl)).2.2 i;have y:c.Z9 i s=_:=a;rw[y]at this;cases this
 exact h.group d a l m n o U (p (h.Y7.bare s r i))
end
section
variable{P:Program}{Q:Value->Prop}{Zy:World}{c c':YJ}{gs:Array Goroutine}{w w':World}{t:Trace}{i:Nat}{g g':Goroutine}{es:Array Event}
def Inv.step(h:Inv P Q Zy c gs w t)(b:gs[i]?=some g)(k:g.status=.running):(∃v es,i=0/\stepG P true g w=.ended (.done v) w es/\∀sl w1,Good P (λv w'=>Q v/\Xe (λ_ _=>False) (λ_=>False) Zy w') (crowd gs w1 sl) (.done v) w (t++MemOp.ofEvents 0 g.frame.fn g.frame.place es))\/
  ∃f,c.T i=.node f/\(VG P Q Zy c gs w t i f\/EU (i==0) (S' P Q f) g (c.x i)):=by
 obtain⟨A,j,p⟩:=h.My i g b;rcases p with rfl|⟨_,rfl,_⟩
 .have l:HV P (i==0) g (c.x i) Q->(∃v es,i=0/\stepG P true g w=.ended (.done v) w es/\∀sl w1,Good P (λv w'=>Q v/\Xe (λ_ _=>False) (λ_=>False) Zy w') (crowd gs w1 sl) (.done v) w (t++MemOp.ofEvents 0 g.frame.fn g.frame.place es)):=λd=>by
   rcases d with⟨r,d⟩|⟨_,d⟩
   .have e:i=0:=by simpa using r
    subst e;obtain⟨v,es,m,B⟩:=h.BQ b d none w;refine⟨v,es,U,m,λsl w1=>?_⟩;obtain⟨v',es',n,s⟩:=h.BQ b d sl w1;rw[m]at n;cases n;exact s
   rw[d.2.2.1]at k;cases k
  cases o:c.T i with
  | leaf=>rw[o]at j;exact .inl (l j.2)
  | node f=>
   have u:=j;rw[o]at j;rcases j.2 with d|a
   .exact .inl (l d)
   refine .inr ⟨f,U,?_⟩;rcases a with a|⟨y,a⟩
   .exact .inl (h.quits b a)
   rcases a with a|a|a|a|a|a|a|a|a|a
   .exact .inl (h.ES b a)
   .exact .inl (h.v5 b a)
   .exact .inl (h.v3 b a)
   .exact .inl (h.atom b y u a)
   .exact .inl (h.HM b a)
   .exact .inl (h.EN b a)
   .exact .inl (h.EM b a)
   .exact .inl (h.HL b a)
   .exact .inl (h.EL b a)
   exact .inr a
 cases k
def Inv.vO(h:Inv P Q Zy c gs w t):∀g∈gs,Go.Conc.awake g:=λg b=>by
 obtain⟨j,d⟩:=Ik.1 b;intro t' a;rcases h.stat d with e|⟨_,e,_⟩|⟨e,_⟩<;>rw[e]at a<;>cases a
def Inv.comes:∀(L:List (WJ (Bool×Goroutine×Z0)))(k:Nat)(c:YJ)(b:Z6)(gs:Array Goroutine)(w:World)(t:Trace)(sl:Option (Nat×Nat)),b.map c.T=L->Ord b gs.size->Lc gs=k->Inv P Q Zy c gs w t->Comes P Q Zy (crowd gs w sl) t:=by
 intro L
 induction L using (R'.wf (B:=Bool×Goroutine×Z0)).induction with
 | _ L p=>
  intro k
  induction k using Nat.strongRecOn with
  | _ k C=>
   intro c b gs w t sl D e E h;subst D E;obtain⟨i,g,d,j,n,F,o⟩:=crowd_pick (P:=P) (w:=w) (sl:=sl) h.vO h.awake;have H:=h.at d;have r:i<gs.size:=Sw n;rcases H.step n F with⟨v,es,rfl,I,J⟩|⟨f,s,x⟩
   .have y:=runT_many_ended (sl:=j) n (by simpa using I);rw[y]at o;exact Comes.last o (J sl w)
   rcases x with x|K
   .obtain⟨c',A,w',u,y,l,M⟩:=x j;rw[y]at o;refine Comes.next o ?_;rcases M with⟨m,kk,a⟩|⟨m,kk,N,a⟩|⟨m,a,O⟩
    .exact p _ (by rw[a];exact e.one r s kk) _ c' b A w' _ j U (by rw[m];exact e) U l
    .obtain⟨R,S,V⟩:=e.two r s kk N;exact p _ (by rw[a];exact V) _ c' R A w' _ j U (by rw[m];exact S) U l
    exact C _ O c' b A w' _ j (by rw[a]) (by rw[m];exact e) U l
   ·
    obtain⟨c',l,kk,a⟩:=h.ghost (f:=f) n K;exact p _ (by rw[a];exact e.one r s kk) _ c' b gs w t sl U e U l
end
def Φ.S9(w:World):Φ:=
 ⟨λb a=>match w.heap[b]? with|some (.cells c _ _)=>(c[a]?).map (·,false)|_=>none,
  λb=>match w.heap[b]? with|some (.cells c t d)=>if d=(0,0) then some (t,c.size) else none|_=>none,λ_=>none⟩
def Φ.BI(w:World)(b a:Nat):¬(Φ.S9 w).owns b a:=λ⟨v,h⟩=>by
 simp only[Φ.S9]at h;cases d:w.heap[b]? with
 | none=>rw[d]at h;cases h
 | some x=>
  rw[d]at h;cases x with
  | cells c t f=>
   simp only at h;cases e:c[a]? with
   | none=>rw[e]at h;cases h
   | some v'=>rw[e]at h;cases h
  | _=>cases h
def Φ.vN(w:World):Fits (Φ.S9 w) w:=by
 refine⟨λb d v p h=>?_,λb t n h=>?_,λb x h=>(by cases h),λb d v h=>absurd ⟨v,h⟩ (Φ.BI w b d)⟩
 .simp only[Φ.S9]at h;cases a:w.heap[b]? with
  | none=>rw[a]at h;cases h
  | some x=>
   rw[a]at h;cases x with
   | cells c t f=>
    simp only at h;cases e:c[d]? with
    | none=>rw[e]at h;cases h
    | some v'=>rw[e]at h;cases h;exact SE a e
   | _=>cases h
 simp only[Φ.S9]at h;cases a:w.heap[b]? with
 | none=>rw[a]at h;cases h
 | some x=>
  rw[a]at h;cases x with
  | cells c t' f=>
   simp only at h;split at h
   .cases h;exact⟨c,_,U,U⟩
   cases h
  | _=>cases h
def Z0.start(w:World):Z0:=⟨Φ.S9 w,λ_=>none,λ_=>.nil,λ_=>none,λ_=>none,0,false⟩
def Goes.comes{P:Program}{B:Value->Prop}{g:Goroutine}{w:World}(h:Goes P B true g (Z0.start w)):Comes P B w (solo g w) #[]:=by
 obtain⟨T,K⟩:=h;let c:YJ:={H:=Zv (λ_=>Φ.empty) (.inl 0) (Φ.S9 w),Z9:=λ_ _=>none,tok:=λ_ _=>.nil,spec:=λ_ _=>none,view:=λ_ _=>none,deaf:=λ_=>0,rel:=λ_=>false,T:=λ_=>T,O:=λ_=>none,Ze:=λ_=>0,home:=λ_=>0,Xx:=λ_=>0};have M:c.x 0=Z0.start w:=by simp[c,YJ.x,Z0.start]
 have A:∀k,k≠.inl 0->c.H k=Φ.empty:=λk C=>Zu (λ_=>Φ.empty) (Φ.S9 w) C
 have D:c.H (.inl 0)=Φ.S9 w:=Yk (λ_=>Φ.empty) (.inl 0) (Φ.S9 w)
 have E:∀k b f,¬(c.H k).owns b f:=λk b f n=>by
  by_cases e:k=.inl 0
  .subst e;rw[D]at n;exact Φ.BI w b f n
  rw[A k e]at n;obtain⟨v,hv⟩:=n;cases hv
 have I:∀k b,¬(c.H k).Xy b:=λk b n=>by
  by_cases e:k=.inl 0
  .subst e;rw[D]at n;obtain⟨v,hv⟩:=n;cases hv
  rw[A k e]at n;obtain⟨v,hv⟩:=n;cases hv
 have S:∀i:Nat,(#[]:Trace)[i]?=none:=λi=>o
 have J:(#[g]:Array Goroutine).size=1:=rfl
 have N:Inv P B w c #[g] w #[]:=by
  refine⟨o,⟨λk=>?_,λj b c t u=>(by cases u),λs f d=>(by cases d),Xe.refl _ _ _⟩,
   ⟨λk l _=>⟨λb f n=>absurd n (E k b f),λb f n=>absurd n (E l b f),λb n=>absurd n (I k b)⟩,λk b f n=>absurd n (E k b f),λk b n=>absurd n (I k b),λj b v hv=>(by cases hv),λs f b d=>(by cases d),λs V f o' b d=>(by cases d),λs f m d=>(by cases d),λb _=>A _ o⟩,
   ⟨λW ⟨i,j,_,⟨a,b,y,_⟩,_⟩=>(by simp[Trace.act?]at y),λQ F=>(by simp at F),λQ F=>(by simp at F),λk=>⟨λb f v p _ i a y=>(by simp[touchAt,Trace.act?]at y),λb _ i a y=>(by simp[touchAt,Trace.act?]at y)⟩,λj b v hv=>(by cases hv),λs f b d=>(by cases d),λj=>rfl⟩,
   ?_,⟨λs f m d=>(by cases d),λs f d=>(by cases d)⟩,⟨λk a C=>(by simp[Trace.g?]at C),λj _ r=>(by cases r),λj _ r=>(by cases r),λj _ r=>(by cases r)⟩,⟨λs f m d=>(by cases d),λj b v hv=>(by cases hv)⟩,λj b u=>?_⟩
  .by_cases e:k=.inl 0
   .subst e;rw[D];exact Φ.vN w
   rw[A k e];exact MC w
  .exact⟨λs f d=>(by cases d),λs _ j=>rfl,λj s _=>rfl,λj s sp d=>(by cases d),λj s φ f d=>(by cases d),λj s k L g f d=>(by cases d),λj s m p R d=>(by cases d),λj s k m g d=>(by cases d),λj X r=>(by rw[J]at r;omega),λj k m g _ d=>(by cases d),U,λj s d=>(by cases d),λj s k m g f d=>(by cases d),λs j Y k m g Z g' d=>(by cases d),λs j k m g q p R d=>(by cases d),λs f d=>(by cases d),λs f d=>(by cases d)⟩
  have r:j=0:=by have:=Sw u;rw[J]at this;omega
  subst r;simp at u;subst u;exact⟨g,by rw[M];exact K,.inl U⟩
 rw[solo_eq_crowd];exact Inv.comes _ _ c [0] #[g] w #[] none U ⟨o,λi=>o⟩ U N
end Go.TL
