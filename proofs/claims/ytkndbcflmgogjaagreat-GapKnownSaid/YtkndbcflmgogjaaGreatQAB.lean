import Derived.Test.YtkndbcflmgogjaaGreatQAA
set_option maxHeartbeats 16000000
set_option maxRecDepth 20000
set_option linter.unusedSectionVars false
set_option linter.unusedSimpArgs false
set_option linter.unusedVariables false
namespace Go.TL
open Go.Conc
open Go.ConcM (OsLater)
open Go.ConcN (sumTo upd sumTo_upd upd_ne upd_same sumTo_congr le_sumTo)
open Go.ConcR (mk)
theorem Iz {B:Type} {f:Nat->B} {k:Nat} {x:B} (h:f k=x):upd f k x=f:=by
 funext j
 by_cases e:j=k
 .subst e;rw[upd_same,h]
 .rw[upd_ne _ _ e]
theorem Vt (H:Y2->Υ) (i:Nat) (G:Υ) (b:Nat):Zz H (.inl i) G (.inr b)=H (.inr b):=Zy H G Ω
theorem M' (tok:Nat->Nat->Tok) (i s:Nat) (t:Tok):Zn tok i s t i=upd (tok i) s t:=by unfold Zn;rw[upd_same]
theorem O7 {tok:Nat->Nat->Tok} {i s j:Nat} (t:Tok) (h:j≠i):Zn tok i s t j=tok j:=by unfold Zn;rw[upd_ne _ _ h]
theorem Td {B:Type} {a:Array B} {k:Nat} {x:B} (h:a[k]?=some x):k<a.size:=(Tr.1 h).1
theorem ofEvents_g {i:Nat} {fn:FuncId} {pos:String} {es:Array Event}:∀a∈MemOp.ofEvents i fn pos es,a.g=i:=λa b=>by obtain⟨e,_,rfl⟩:=Go.Conc.mem_ofEvents b;rfl
theorem CG {i:Nat} {fn:FuncId} {pos:String}:MemOp.ofEvents i fn pos #[]=#[]:=by rw[ofEvents_eq];simp
theorem xU (t:Trace) (i:Nat) (fn:FuncId) (pos:String) (es:Array Event) {j:Nat} (b:j<=es.size):(t++MemOp.ofEvents i fn pos es).deaf i (t.size+j)=deafBehind (Deaf t i) (es.extract 0 j):=by
 have e:t++MemOp.ofEvents i fn pos es=(t++MemOp.ofEvents i fn pos (es.extract 0 j))++MemOp.ofEvents i fn pos (es.extract j es.size):=by
  rw[Nv];congr 1;rw[ofEvents_eq,ofEvents_eq,ofEvents_eq,<-Array.map_append];congr 1;simp only[Array.extract_append_extract];rw[show max j es.size=es.size by omega];simp
 have a:(t++MemOp.ofEvents i fn pos (es.extract 0 j)).size=t.size+j:=by rw[IU,ofEvents_eq];simp;omega
 rw[e,deaf_old I,<-a];exact Deaf_own t i fn pos _
theorem FJ {t u:Trace} {k:Nat} (c:t.size<=k) (d:(t++u).counts k):∃a,u[k-t.size]?=some a/\(t++u)[k]?=some a/\∃x,a.act.touch?=some x/\x.loc.isMemory=true/\(x.kind≠.atomic\/(t++u).heard k):=by
 obtain⟨x,e,f,g⟩:=d;obtain⟨a,b,h⟩:=touch_of (t:=t++u) (i:=k) e;exact⟨a,by rw[I' c] at b;exact b,b,x,h,f,g⟩
theorem L2 {t u:Trace} (h:∀a∈u,a.act.touch?=none):∀k,t.size<=k->¬(t++u).counts k:=λk c d=>by
 obtain⟨a,e,_,x,b,_⟩:=FJ c d;rw[h a (mem_of_getElem? e)] at b;cases b
theorem xT {t:Trace} {i:Nat} {fn:FuncId} {pos:String} {es:Array Event} (h:∀e∈es,IF e):∀k,t.size<=k->¬(t++MemOp.ofEvents i fn pos es).counts k:=λk c d=>by
 obtain⟨l,f,_,x,b,g,_⟩:=FJ c d;obtain⟨e,j,rfl⟩:=Go.Conc.mem_ofEvents (mem_of_getElem? f);obtain⟨m,wr,n⟩:=e;rcases h _ j with a|a<;>simp only at a<;>subst a<;>simp[MemAct.ofEvent,MemAct.touch?] at b;subst b;simp[Loc.isMemory] at g
theorem Iy {s d i:Nat} {sp:Spec} {es:Array Event} {fn:FuncId} {pos:String} (h:RD s sp d es) {c:MemOp} (g:c∈MemOp.ofEvents i fn pos es) :
  (c.act=.mark .disable\/c.act=.mark .enable)\/∃b f wr,c.act=.access ⟨.cell ⟨b,f,none⟩,wr,true⟩/\Yc s sp b:=by
 obtain⟨e,k,rfl⟩:=Go.Conc.mem_ofEvents g;obtain⟨j,l⟩:=I4.1 k;obtain⟨n,wr,o⟩:=e;rcases h.2 j _ l with a|a|⟨b,f,p,a,m,_⟩
 .simp only at a;subst a;exact .inl (.inl U)
 .simp only at a;subst a;exact .inl (.inr U)
 .cases a;exact .inr ⟨b,f,_,U,m⟩
theorem xS {t:Trace} {s i:Nat} {sp:Spec} {fn:FuncId} {pos:String} {es:Array Event} (h:RD s sp (Deaf t i) es):∀k,t.size<=k->¬(t++MemOp.ofEvents i fn pos es).counts k:=λk m n=>by
 obtain⟨u,f,o,x,c,v,d⟩:=FJ m n;rw[ofEvents_eq,Oj] at f;obtain⟨e,j,rfl⟩:=Uh.1 f;have p:k-t.size<es.size:=Td j;obtain⟨w,wr,y⟩:=e;rcases h.2 _ _ j with a|a|⟨b,A,B,a,C,hd⟩
 .simp only at a;subst a;simp[MemAct.ofEvent,MemAct.touch?] at c
 .simp only at a;subst a;simp[MemAct.ofEvent,MemAct.touch?] at c
 .cases a;simp[MemAct.ofEvent,MemAct.touch?] at c;subst c;rcases d with d|⟨g,l,r⟩
  .exact d U
  .simp[Trace.g?,o] at l;subst l;have:=xU t i fn pos es (RG p);rw[show t.size+(k-t.size)=k by omega] at this;rw[this] at r;omega
section
variable {P:Program} {Q:Value->Prop} {ZB:World} {c c':YI} {gs:Array Goroutine} {w w':World} {t:Trace} {i:Nat} {g g':Goroutine} {es:Array Event}
theorem Inv.low (h:Inv P Q ZB c gs w t) {s b:Nat} {o:γ} (a:c.O s=some o) (hb:Yc s o.toSpec b):b<w.heap.size:=by
 obtain⟨⟨g,d⟩,e⟩:=h.mem.X0 s o a;rcases hb with rfl|hb
 .exact XY d
 .obtain⟨i,f⟩:=e b hb;exact XY f
theorem Inv.obj (h:Inv P Q ZB c gs w t) {s:Nat} (a:c.tok i s≠.nil):∃o,c.O s=some o:=by
 cases b:c.O s with
 | none=>exact absurd (h.Zd.bare s b i) a
 | some o=>exact⟨o,rfl⟩
theorem Vu.grow {H:Y2->Υ} {a:Nat->Nat->Option (ν×TypeId)} {tok:Nat->Nat->Tok} {b:Nat->Option γ} {c d:Nat->Nat} {N e:Nat} (h:Vu H a tok b c d N t) (f:N<=e):Vu H a tok b c d e t:=
 ⟨h.race,λg i=>MemAct.low_mono f (h.low g i),h.norel,h.perms,h.RB,h.cont,h.hears⟩
theorem O8.CF {l f:Nat->Nat->Option (ν×TypeId)} {tok n:Nat->Nat->Tok} {r O':Nat->Option γ} {w:Nat->Bool} {x:Nat->Nat} {u:Trace} {N:Nat} (h:O8 l tok r w x t) (D:∀a∈t,a.act.low N)
  (y:∀a∈u,∀b,a.act=.mark (.releaseMerge ⟨b,0,none⟩)->(∀s o',O' s=some o'->o'.ZS≠some b)/\∀j v,f j b≠some v) (hv:∀j b v,f j b=some v->(∃i,l j b=some i)\/N<=b) (E:∀s o',O' s=some o'->∃o,r s=some o/\o.ZS=o'.ZS)
  (F:∀j s k d g,tok j s=.ch k d g->∃k d g,n j s=.ch k d g):O8 f n O' w x (t++u):=by
 refine⟨λs o' m A B p a H c=>?_,λj b v C a I c=>?_⟩
 .obtain⟨o,J,K⟩:=E s o' A;rcases getElem?_append_cases H with⟨_,L⟩|⟨_,M⟩
  .obtain⟨⟨k,d,g,O⟩,P⟩:=h.Nc s o m J (by rw[K];exact B) p a L c;exact⟨F _ _ _ _ _ O,λQ=>(P Q).app u⟩
  .exact absurd B ((y a M m c).1 s o' A)
 .rcases RI.1 I with e|e
  .rcases hv j b v C with⟨i,R⟩|hle
   .exact h.Nb j b i R a e c
   .have:=D a e;rw[c] at this;simp only[MemAct.low] at this;omega
  .exact(y a e b c).2 j v C
theorem O8.app {d e:Nat->Nat->Option (ν×TypeId)} {tok f:Nat->Nat->Tok} {i O':Nat->Option γ} {l:Nat->Bool} {m:Nat->Nat} {u:Trace} {N:Nat} (h:O8 d tok i l m t) (n:∀a∈t,a.act.low N)
  (p:∀a∈u,∀b,a.act≠.mark (.releaseMerge ⟨b,0,none⟩)) (hv:∀j b v,e j b=some v->(∃r,d j b=some r)\/N<=b) (w:∀s o',O' s=some o'->∃o,i s=some o/\o.ZS=o'.ZS)
  (x:∀j s k c g,tok j s=.ch k c g->∃k c g,f j s=.ch k c g):O8 e f O' l m (t++u):=h.CF n (λa y b A=>absurd A (p a y b)) hv w x
theorem L5.Kw {H H':Y2->Υ} {tok:Nat->Nat->Tok} {c:Nat->Option γ} (h:L5 H tok c) (f:∀b,H' (.inr b)=H (.inr b)):L5 H' tok c:=
 ⟨λs o m a b d e=>by rw[f];exact h.QW s o m a b d e,λs o a b=>by rw[f];exact h.Rv s o a b⟩
theorem Inv.laid (h:Inv P Q ZB c gs w t) (l:gs[i]?=some g) {u:Trace}
  (mem:Wx c'.H c'.Z8 c'.O ZB w') (hold:VJ c'.H c'.Z8 c'.O ZB.heap.size) (Zr:Vu c'.H c'.Z8 c'.tok c'.O c'.Zo c'.deaf w'.heap.size (t++u))
  (Zd:XZ gs.size c'.tok c'.spec c'.view c'.rel c'.O c'.Zo c'.home) (X8:L5 c'.H c'.tok c'.O) (Yh:Nd gs.size c'.tok c'.rel c'.Zo c'.home c'.XU (t++u)) (Ww:O8 c'.Z8 c'.tok c'.O c'.rel c'.XU (t++u))
  (m:Rec P Q c' i g') (k:∀j,j≠i->c'.x j=c.x j/\c'.T j=c.T j)
  (d:(mayWake P g=true/\Vv g')\/∀j s o,j≠i->c.O s=some o->UG o (c.tok j s)->∃o',c'.O s=some o'/\UG o' (c.tok j s)) :
  Inv P Q ZB c' ((gs.map (woken P g g' w')).setIfInBounds i g') w' (t++u):=by
 have f:((gs.map (woken P g g' w')).setIfInBounds i g').size=gs.size:=Ω
 have n:i<gs.size:=Td l;refine⟨by rw[f];exact h.pos,mem,hold,Zr,by rw[f];exact Zd,X8,by rw[f];exact Yh,Ww,λj b a=>?_⟩;by_cases e:j=i
 .subst e;rw[Ts (by simpa using n)] at a;cases a;exact m
 .rw[UK (YV e),Oj] at a;obtain⟨p,r,rfl⟩:=Uh.1 a;exact(h.Na j p r).woken (i:=0) (k j e).1 (k j e).2 (d.imp id λd s o v y=>d j s o e v y)
def VU (P:Program) (Q:Value->Prop) (ZB:World) (c:YI) (gs:Array Goroutine) (w:World) (t:Trace) (i:Nat) (f:Bool×Goroutine×Z5->W3 (Bool×Goroutine×Z5)):Prop:=
 ∀sl,∃c' a w' u,runT P (crowd gs w sl) i=(.next (crowd a w' sl),u)/\Inv P Q ZB c' a w' (t++u)/\
  ((a.size=gs.size/\∃k,c'.T=upd c.T i (f k))\/(a.size=gs.size+1/\∃k b,c'.T=upd (upd c.T i (f k)) gs.size (f b))\/(a.size=gs.size/\c'.T=c.T/\L4 a<L4 gs))
def Ix (P:Program) (Q:Value->Prop) (ZB:World) (c:YI) (gs:Array Goroutine) (w:World) (t:Trace) (i:Nat) (f:Bool×Goroutine×Z5->W3 (Bool×Goroutine×Z5)):Prop:=
 ∃c',Inv P Q ZB c' gs w t/\∃k,c'.T=upd c.T i (f k)
abbrev TN (P:Program) (Q:Value->Prop) (f:Bool×Goroutine×Z5->W3 (Bool×Goroutine×Z5)):KC:=λa g' b=>U7 P Q (f (a,g',b)) a g' b
theorem VU.go {f:Bool×Goroutine×Z5->W3 (Bool×Goroutine×Z5)} (a:gs[i]?=some g) (b:stepG P (i==0) g w=.go g' w' es)
  (h:Inv P Q ZB c' ((gs.map (woken P g g' w')).setIfInBounds i g') w' (t++MemOp.ofEvents i g.frame.fn g.frame.place es)) (k:Bool×Goroutine×Z5) (d:c'.T=upd c.T i (f k)):VU P Q ZB c gs w t i f:=
 λ_=>⟨c',_,w',_,runT_crowd_go a b,h,.inl ⟨Ω,k,d⟩⟩
variable {f:Bool×Goroutine×Z5->W3 (Bool×Goroutine×Z5)}
theorem Inv.FM (h:Inv P Q ZB c gs w t) (C:gs[i]?=some g) (L:CX P (i==0) (TN P Q f) g (c.x i)):VU P Q ZB c gs w t i f:=by
 have y:=L w (h.mem.fit (.inl i)) (h.mem.Tf i);cases l:stepG P (i==0) g w with
 | go g' w' es=>
  rw[l] at y;obtain⟨G',V',ad,E,M,N,F,A,I,O,R⟩:=y;have S:i<gs.size:=Td C;have J:∀e∈es,Wl (c.H (.inl i)) w.heap.size w'.heap.size e:=λe p=>by
   have:=I e p;split at this
   .exact this.FM
   .exact this
  have D:∀j,j≠i->({c with H:=Zz c.H (.inl i) G',Z8:=upd c.Z8 i V',T:=upd c.T i (f (i==0,g',{c.x i with G:=G',Z8:=V'}))}:YI).x j=c.x j:=λj d=>by
   have:(Sum.inl j:Y2)≠.inl i:=λe=>d (by cases e;rfl);simp[YI.x,Zy _ _ this,upd_ne _ _ d]
  refine VU.go (c':={c with H:=Zz c.H (.inl i) G',Z8:=upd c.Z8 i V',T:=upd c.T i (f (i==0,g',{c.x i with G:=G',Z8:=V'}))}) C l ?_ _ U;refine h.laid C (h.mem.own h.hold i E M N U) (h.hold.own h.mem h.mem.keep.size i F A) (h.Zr.own h.mem h.hold i E.size F A J O) h.Zd ?_ ?_ ?_ ?_ (λj d=>⟨D j d,upd_ne _ _ d⟩) (.inr λj s o _ a b=>⟨o,a,b⟩)
  .exact h.X8.Kw λb=>Vt c.H i G' b
  .refine h.Yh.app S ofEvents_g (λV=>xT λe p=>?_) (λ_ _ _ x=>x) (λ_ _ _ _ x=>x);have:=I e p;have W:(c.x i).rel=true:=V;simpa only[W,if_true] using this
  .refine h.Ww.CF h.Zr.low (λae X b n=>?_) (λj b v hv=>?_) (λs o' l=>⟨o',l,U⟩) (λj s k Y g e=>⟨k,Y,g,e⟩)
   .obtain⟨e,p,rfl⟩:=Go.Conc.mem_ofEvents X;have K:=J e p;obtain⟨Z,wr,aa⟩:=e;cases Z with
    | mark m=>
     simp only[Wl] at K;rcases K with rfl|⟨_,rfl⟩|⟨a,rfl|rfl,_,u,B⟩
     .simp[MemAct.ofEvent] at n
     .simp[MemAct.ofEvent] at n
     .simp[MemAct.ofEvent] at n
     .simp[MemAct.ofEvent] at n;subst n;refine⟨λs o' l ab=>(h.hold.U6 s o' b l (.inr ab)).2.1 (.inl i) |>.1 _ ⟨_,B⟩,λj v hv=>?_⟩
      replace hv:upd c.Z8 i V' j b=some v:=hv
      have af:b<w.heap.size:=by
       obtain⟨_,_,_,D,_⟩:=Tm ((h.mem.fit (.inl i)).ω _ _ _ _ B);exact XY D
      by_cases d:j=i
      .subst d;rw[upd_same] at hv;rcases A b v hv with x|x
       .exact((h.hold.fresh j b v x).2.1 (.inl j)).1 _ ⟨_,B⟩
       .omega
      .rw[upd_ne _ _ d] at hv;exact((h.hold.fresh j b v hv).2.1 (.inl i)).1 _ ⟨_,B⟩
    | obj r=>cases wr<;>cases aa<;>simp[MemAct.ofEvent] at n
    | _=>simp[MemAct.ofEvent] at n
   .replace hv:upd c.Z8 i V' j b=some v:=hv
    by_cases d:j=i
    .subst d;rw[upd_same] at hv;exact(A b v hv).imp (λx=>⟨v,x⟩) (λx=>x.1)
    .rw[upd_ne _ _ d] at hv;exact .inl ⟨v,hv⟩
  .refine⟨g',?_,.inl U⟩;have e:({c with H:=Zz c.H (.inl i) G',Z8:=upd c.Z8 i V',T:=upd c.T i (f (i==0,g',{c.x i with G:=G',Z8:=V'}))}:YI).x i={c.x i with G:=G',Z8:=V'}:=by
    simp[YI.x,upd_same]
   rw[e];show U7 P Q (upd c.T i (f (i==0,g',{c.x i with G:=G',Z8:=V'})) i) _ _ _;rw[upd_same];exact R
 | _=>rw[l] at y;exact y.elim
theorem Wx.Kw {H:Y2->Υ} {a:Nat->Nat->Option (ν×TypeId)} {b O':Nat->Option γ} (h:Wx H a b ZB w) (e:O'=b):Wx H a O' ZB w:=e▸h
theorem Inv.marked (h:Inv P Q ZB c gs w t) (u:gs[i]?=some g) {m:Mark} (B:m=.disable\/m=.enable) {d:Nat} (hd:d=deafBehind (c.deaf i) #[Go.ConcR.mk m]) (y:stepG P (i==0) g w=.go g' w #[Go.ConcR.mk m])
  (E:TN P Q f (i==0) g' {c.x i with deaf:=d}):VU P Q ZB c gs w t i f:=by
 have F:i<gs.size:=Td u
 have nt:∀l∈MemOp.ofEvents i g.frame.fn g.frame.place #[Go.ConcR.mk m],l.act.touch?=none:=λl n=>by
  obtain⟨e,p,rfl⟩:=Go.Conc.mem_ofEvents n;simp at p;subst p;rcases B with rfl|rfl<;>rfl
 have A:∀l∈MemOp.ofEvents i g.frame.fn g.frame.place #[Go.ConcR.mk m],l.act=.mark .disable\/l.act=.mark .enable:=λl n=>by
  obtain⟨e,p,rfl⟩:=Go.Conc.mem_ofEvents n;simp at p;subst p;rcases B with rfl|rfl
  .exact .inl U
  .exact .inr U
 refine VU.go (c':={c with deaf:=upd c.deaf i d,T:=upd c.T i (f (i==0,g',{c.x i with deaf:=d}))}) u y ?_ _ U;refine h.laid u h.mem h.hold ?_ h.Zd h.X8 ?_ ?_ ⟨g',?_,.inl U⟩ (λj C=>⟨by simp[YI.x,upd_ne _ _ C],upd_ne _ _ C⟩) (.inr λj s o _ a b=>⟨o,a,b⟩)
 .refine h.Zr.ext h.hold i ofEvents_g (λl n=>?_) (λl n a D=>?_) (λl n b r=>?_) (λj=>?_)
  .rcases A l n with e|e<;>rw[e]<;>trivial
  .rcases A l n with e|e<;>rw[e] at D<;>cases D
  .rw[nt l n] at r;cases r
  .by_cases e:j=i
   .subst e;rw[Deaf_own,h.Zr.hears,hd];exact(upd_same ..).symm
   .rw[Deaf_other t (YV e) _ ofEvents_g,h.Zr.hears];exact(upd_ne _ _ e).symm
 .exact h.Yh.app F ofEvents_g (λ_=>L2 nt) (λ_ _ _ x=>x) (λ_ _ _ _ x=>x)
 .refine h.Ww.app h.Zr.low (λl n b r=>?_) (λj b v hv=>.inl ⟨v,hv⟩) (λs o' y=>⟨o',y,U⟩) (λj s k H g e=>⟨k,H,g,e⟩);rcases A l n with e|e<;>rw[e] at r<;>cases r
 .have e:({c with deaf:=upd c.deaf i d,T:=upd c.T i (f (i==0,g',{c.x i with deaf:=d}))}:YI).x i={c.x i with deaf:=d}:=by
   simp[YI.x,upd_same]
  rw[e];show U7 P Q (upd c.T i (f (i==0,g',{c.x i with deaf:=d})) i) _ _ _;rw[upd_same];exact E
theorem Inv.xR (h:Inv P Q ZB c gs w t) (e:gs[i]?=some g) (a:CW P (i==0) (TN P Q f) g (c.x i)):VU P Q ZB c gs w t i f:=by
 obtain⟨g',_,a|⟨_,a⟩⟩:=a
 .obtain⟨b,d⟩:=a w (h.mem.fit (.inl i));exact h.marked e (.inl U) (by rfl) b d
 .obtain⟨b,d⟩:=a w (h.mem.fit (.inl i));exact h.marked e (.inr U) (by rfl) b d
theorem Inv.xQ (h:Inv P Q ZB c gs w t) (y:gs[i]?=some g) (I:CV P (i==0) (TN P Q f) g (c.x i)):VU P Q ZB c gs w t i f:=by
 obtain⟨s,n,p,B,g',r,wr,J,V,K,W,L⟩:=I;have M:i<gs.size:=Td y;obtain⟨A,N⟩:=L w (h.mem.fit (.inl i));have C:c.tok i s=.par n p B:=J;obtain⟨o,D⟩:=h.obj (i:=i) (s:=s) (by rw[C];simp);have O:c.rel i=false:=K;have u:∀d∈MemOp.ofEvents i g.frame.fn g.frame.place #[Go.ConcR.mk (if wr then .write ⟨s,r,none⟩ else .read ⟨s,r,none⟩)],d.act=.mark (if wr then .write ⟨s,r,none⟩ else .read ⟨s,r,none⟩):=λd l=>by
  obtain⟨e,E,rfl⟩:=Go.Conc.mem_ofEvents l;simp at E;subst E;rfl
 refine VU.go (c':={c with T:=upd c.T i (f (i==0,g',c.x i))}) y A ?_ _ U;refine h.laid y h.mem h.hold ?_ h.Zd h.X8 ?_ ?_ ⟨g',?_,.inl U⟩ (λj R=>⟨U,upd_ne _ _ R⟩) (.inr λj s o _ a b=>⟨o,a,b⟩)
 .refine h.Zr.ext h.hold i ofEvents_g (λd l=>?_) (λd l a F=>?_) (λd l b m=>?_) (λj=>?_)
  .rw[u d l];have:=h.low D (.inl U);cases wr<;>exact this
  .rw[u d l] at F;cases wr<;>cases F
  .rw[u d l] at m;refine⟨s,o,s,r,D,.inl U,?_⟩;cases wr<;>simp[MemAct.touch?] at m<;>subst m<;>exact⟨U,.inr ⟨U,h.Zd.par i s n p B C⟩⟩
  .by_cases e:j=i
   .subst e;rw[Deaf_own,h.Zr.hears];cases wr<;>rfl
   .rw[Deaf_other t (YV e) _ ofEvents_g,h.Zr.hears]
 .exact h.Yh.app M ofEvents_g (λH=>by rw[O] at H;cases H) (λ_ _ _ x=>x) (λ_ _ _ _ x=>x)
 .refine h.Ww.app h.Zr.low (λd l b m=>?_) (λj b v hv=>.inl ⟨v,hv⟩) (λs o' A=>⟨o',A,U⟩) (λj s k S g e=>⟨k,S,g,e⟩);rw[u d l] at m;cases wr<;>cases m
 .show U7 P Q (upd c.T i (f (i==0,g',c.x i)) i) _ _ _;rw[upd_same];exact N
theorem Inv.quits (h:Inv P Q ZB c gs w t) (p:gs[i]?=some g) (D:CO P (i==0) (TN P Q f) g (c.x i)):VU P Q ZB c gs w t i f:=by
 obtain⟨E,K,L,M,g',es,A,r,F⟩:=D;have H:i<gs.size:=Td p;have nt:∀d∈MemOp.ofEvents i g.frame.fn g.frame.place es,d.act.touch?=none:=λd l=>by
  obtain⟨e,u,rfl⟩:=Go.Conc.mem_ofEvents l;exact touch_mute (A e u)
 have y:∀d∈MemOp.ofEvents i g.frame.fn g.frame.place es,d.act=.mark .disable\/d.act=.mark .enable:=λd l=>by
  obtain⟨⟨I,wr,N⟩,u,rfl⟩:=Go.Conc.mem_ofEvents l;have:=A _ u;cases I<;>simp[Event.mute] at this;rename_i m;cases m<;>simp_all [MemAct.ofEvent]
 refine VU.go (c':={c with deaf:=upd c.deaf i (deafBehind (c.deaf i) es),T:=upd c.T i (f (i==0,g',{c.x i with deaf:=deafBehind (c.x i).deaf es}))}) p (by rw[E];exact r w) ?_ _ U;refine h.laid p h.mem h.hold ?_ h.Zd h.X8 ?_ ?_ ⟨g',?_,.inl U⟩ (λj B=>⟨by simp[YI.x,upd_ne _ _ B],upd_ne _ _ B⟩) (.inr λj s o _ a b=>⟨o,a,b⟩)
 .refine h.Zr.ext h.hold i ofEvents_g (λd l=>?_) (λd l a C=>?_) (λd l b n=>?_) (λj=>?_)
  .rcases y d l with e|e<;>rw[e]<;>trivial
  .rcases y d l with e|e<;>rw[e] at C<;>cases C
  .rw[nt d l] at n;cases n
  .by_cases e:j=i
   .subst e;rw[Deaf_own,h.Zr.hears];exact(upd_same ..).symm
   .rw[Deaf_other t (YV e) _ ofEvents_g,h.Zr.hears];exact(upd_ne _ _ e).symm
 .exact h.Yh.app H ofEvents_g (λ_=>L2 nt) (λ_ _ _ x=>x) (λ_ _ _ _ x=>x)
 .refine h.Ww.app h.Zr.low (λd l b n=>?_) (λj b v hv=>.inl ⟨v,hv⟩) (λs o' r=>⟨o',r,U⟩) (λj s k J g e=>⟨k,J,g,e⟩);rcases y d l with e|e<;>rw[e] at n<;>cases n
 .have e:({c with deaf:=upd c.deaf i (deafBehind (c.deaf i) es),T:=upd c.T i (f (i==0,g',{c.x i with deaf:=deafBehind (c.x i).deaf es}))}:YI).x i={c.x i with deaf:=deafBehind (c.x i).deaf es}:=by
   simp[YI.x,upd_same]
  rw[e];show U7 P Q (upd c.T i (f (i==0,g',{c.x i with deaf:=deafBehind (c.x i).deaf es})) i) _ _ _;rw[upd_same];exact F
end
end Go.TL
namespace Go.TL
open Go.Conc
open Go.ConcM (OsLater)
open Go.ConcN (sumTo upd sumTo_upd upd_ne upd_same sumTo_congr le_sumTo)
section
variable {P:Program} {Q:Value->Prop} {ZB:World} {c c':YI} {gs:Array Goroutine} {w w':World} {t:Trace} {i:Nat} {g g':Goroutine} {es:Array Event}
variable {f:Bool×Goroutine×Z5->W3 (Bool×Goroutine×Z5)}
theorem xP {o o':γ} {t t':Tok} (h:Act o t o' t'):(∀q p,t'≠.par q p .YG)/\(∀q p,t≠.par q p .YG)/\∀k L g,t=.ch k (.YJ L) g->∃g',t'=.ch k (.YJ L) g':=by
 cases h<;>refine⟨λq p e=>?_,λq p e=>?_,λk L g e=>?_⟩<;>cases e
 all_goals exact⟨_,U⟩
theorem CE {B:Type} (p:B->Bool) {y:B} (b:p y=false):∀(l:List B) (k:Nat) (x:B),l[k]?=some x->p x=true->((l.set k y).filter p).length<(l.filter p).length
 | [],k,x,h,_=>by simp at h
 | z::l,0,x,h,a=>by
  simp at h;subst h;simp[List.set,a,b]
 | z::l,k+1,x,h,a=>by
  have:=CE p b l k x (by simpa using h) a;simp only[List.set,L8];split<;>simpa using this
theorem xO {k:Nat} (a:gs[k]?=some g) (b:g.status=.running) (c:g'.status≠.running):L4 (gs.setIfInBounds k g')<L4 gs:=by
 unfold L4;rw[Array.toList_setIfInBounds];exact CE (λg:Goroutine=>decide (g.status=.running)) (by simp[c]) _ k g (by rw[<-a];simp) (by simp[b])
theorem Inv.atom (h:Inv P Q ZB c gs w t) (D:gs[i]?=some g) (ak:Vv g) (aw:U7 P Q (c.T i) (i==0) g (c.x i)) (ax:Atom P (i==0) (TN P Q f) g (c.x i)):VU P Q ZB c gs w t i f:=by
 obtain⟨s,sp,ay,az,aA⟩:=ax;have W:i<gs.size:=Td D;obtain⟨o,d,X⟩:=h.Zd.P9 i s sp ay;have aB:∀b,Yc s sp b->b<w.heap.size:=λb l=>h.low d (by rw[X];exact l);have aC:¬XE (c.tok i s):=az;have aD:c.tok i s≠.nil:=λe=>aC (by rw[e];trivial);have al:∀{w':World} {es:Array Event} {k:Nat},Xp (λb _=>Yc s sp b) (λ_=>False) w w'->RD s sp (c.x i).deaf es->Vu c.H c.Z8 c.tok c.O c.Zo c.deaf w'.heap.size (t++MemOp.ofEvents i g.frame.fn g.frame.place es):=λ{w' es k} J n=>by
  refine Vu.grow ?_ J.size;refine h.Zr.ext h.hold i ofEvents_g (λK F=>?_) (λK F a am=>?_) (λK F b l=>?_) (λj=>?_)
  .rcases Iy n F with(e|e)|⟨b,Y,wr,e,l⟩
   .rw[e];trivial
   .rw[e];trivial
   .rw[e];exact aB b l
  .rcases Iy n F with(e|e)|⟨b,Y,wr,e,l⟩<;>rw[e] at am<;>cases am
  .rcases Iy n F with(e|e)|⟨I,Y,wr,e,an⟩
   .rw[e] at l;cases l
   .rw[e] at l;cases l
   .rw[e] at l;simp[MemAct.touch?] at l;subst l;exact⟨s,o,I,Y,d,by rw[X];exact an,U,.inl U⟩
  .by_cases e:j=i
   .subst e;rw[Deaf_own,h.Zr.hears];exact n.1
   .rw[Deaf_other t (YV e) _ ofEvents_g,h.Zr.hears]
 have ao:∀{es:Array Event},RD s sp (c.x i).deaf es->∀K∈MemOp.ofEvents i g.frame.fn g.frame.place es,∀b,K.act≠.mark (.releaseMerge ⟨b,0,none⟩):=λn K F b l=>by
  rcases Iy n F with(e|e)|⟨I,Y,wr,e,an⟩<;>rw[e] at l<;>cases l
 have ap:∀{es:Array Event},RD s sp (c.x i).deaf es->∀k,t.size<=k->¬(t++MemOp.ofEvents i g.frame.fn g.frame.place es).counts k:=λn=>xS (s:=s) (sp:=sp) (by rw[h.Zr.hears];exact n);rcases aA w (X6 gs.size o (λj=>c.tok j s)) o (h.mem.fit (.inl i)) (h.mem.Tf i) X (h.mem.X0 s o d) (λaE aF hv=>by
   obtain⟨aY,aq,aG,aH⟩:=h.Zd.Nh i s aE aF hv;rw[d] at aq;cases aq;exact⟨aG,aH⟩) ⟨gs.size,λj=>c.tok j s,i,h.Zd.Wj s o d,W,U,λk L g e=>h.Zd.YJ i s k L g o d e⟩ with Z|⟨aI,aJ,E⟩
 .cases E:stepG P (i==0) g w with
  | go g' w' es=>
   rw[E] at Z;obtain⟨aK,J,n,aL⟩:=Z;have ar:Xp (λb _=>Yc s o.toSpec b) (λ_=>False) w w':=by rw[X];exact J
   rcases aL with⟨ad,ae⟩|⟨o',t',M,ad,aM,ae⟩
   .refine VU.go (c':={c with view:=upd c.view i (upd (c.view i) s (some (X6 gs.size o (λj=>c.tok j s),o))),T:=upd c.T i (f (i==0,g',{c.x i with view:=upd (c.view i) s (some (X6 gs.size o (λj=>c.tok j s),o))}))}) D E ?_ _ U;refine h.laid D ((h.mem.atom h.hold U d U ar ad).Kw (Iz d).symm) h.hold (al (k:=0) J n) (h.Zd.look d) h.X8
     (h.Yh.app W ofEvents_g (λ_=>ap n) (λ_ _ _ x=>x) (λ_ _ _ _ x=>x))
     (h.Ww.app h.Zr.low (ao n) (λj b v hv=>.inl ⟨v,hv⟩) (λs o' E=>⟨o',E,U⟩) (λj s k aa g e=>⟨k,aa,g,e⟩))
     ⟨g',?_,.inl U⟩ (λj A=>⟨by simp[YI.x,upd_ne _ _ A],upd_ne _ _ A⟩) (.inr λj s o _ a b=>⟨o,a,b⟩)
    have e:({c with view:=upd c.view i (upd (c.view i) s (some (X6 gs.size o (λj=>c.tok j s),o))),T:=upd c.T i (f (i==0,g',{c.x i with view:=upd (c.view i) s (some (X6 gs.size o (λj=>c.tok j s),o))}))}:YI).x i={c.x i with view:=upd (c.view i) s (some (X6 gs.size o (λj=>c.tok j s),o))}:=by
     simp[YI.x,upd_same]
    rw[e];show U7 P Q (upd c.T i (f (i==0,g',{c.x i with view:=upd (c.view i) s (some (X6 gs.size o (λj=>c.tok j s),o))})) i) _ _ _;rw[upd_same];exact ae
   .have aN:=C1 (N:=gs.size) (τ:=λj=>c.tok j s) W U M
    have aO:=ae _ aN;obtain⟨af,aP,aQ⟩:=CL M;obtain⟨aR,aS,aT⟩:=xP M;have au:=Te.upd d af;have ab:∀j r q p,Zn c.tok i s t' j r=.par q p .YG↔c.tok j r=.par q p .YG:=λj r q p=>by
     by_cases e:j=i/\r=s
     .obtain⟨rfl,rfl⟩:=e;rw[XH];exact⟨λx=>absurd x (aR q p),λx=>absurd x (aS q p)⟩
     .rw[XT _ e]
    have aU:∀j r k L g,c.tok j r=.ch k (.YJ L) g->∃g',Zn c.tok i s t' j r=.ch k (.YJ L) g':=λj r k L g A=>by
     by_cases e:j=i/\r=s
     .obtain⟨rfl,rfl⟩:=e;rw[XH];exact aT k L g A
     .rw[XT _ e];exact⟨g,A⟩
    have keepW:o'=o->∀j r q,j≠i->c.O r=some q->UG q (c.tok j r)->∃av,upd c.O s (some o') r=some av/\UG av (c.tok j r):=λag j r q _ a b=>⟨q,by
     by_cases e:r=s
     .subst e;subst ag;rw[d] at a;cases a;exact upd_same _ _ _
     .rw[upd_ne _ _ e];exact a,b⟩
    have ah:∀r q,upd c.O s (some o') r=some q->∃B,c.O r=some B/\B.toSpec=q.toSpec/\B.L=q.L/\B.R=q.R:=λr q C=>by
     by_cases e:r=s
     .subst e;rw[upd_same] at C;cases C;exact⟨o,d,af.symm,aP.symm,aQ.symm⟩
     .rw[upd_ne _ _ e] at C;exact⟨q,C,U,U,U⟩
    let S:Z5:={c.x i with tok:=upd (c.tok i) s t',view:=upd (c.view i) s (some (X6 gs.size o' (upd (λj=>c.tok j s) i t'),o'))};refine VU.go (c':={c with tok:=Zn c.tok i s t',view:=upd c.view i (upd (c.view i) s (some (X6 gs.size o' (upd (λj=>c.tok j s) i t'),o'))),O:=upd c.O s (some o'),T:=upd c.T i (f (i==0,g',S))}) D E ?_ _ U;refine h.laid D (h.mem.atom h.hold U d af ar ad) (h.hold.Tn au) ((al (k:=0) J n).xY au λj r A e=>?_) (h.Zd.act d U M) ⟨λr q m C ai aj aV=>?_,λr q C aj=>?_⟩
     (h.Yh.app W ofEvents_g (λ_=>ap n) (λs q p ⟨j,x⟩=>⟨j,(ab j s q p).1 x⟩) (λj s q p x=>(ab j s q p).1 x))
     (h.Ww.app h.Zr.low (ao n) (λj b v hv=>.inl ⟨v,hv⟩) (λr q C=>let ⟨B,a,b,_⟩:=ah r q C;⟨B,a,by rw[b]⟩) (λj r k aa g e=>?_))
     ⟨g',?_,.inl U⟩ (λj A=>⟨by simp[YI.x,upd_ne _ _ A,O7 _ A],upd_ne _ _ A⟩) (aM.imp (λai=>⟨ai,aK⟩) λag=>keepW ag)
    .by_cases V:j=i/\r=s
     .obtain⟨rfl,rfl⟩:=V;exact aD e
     .apply A;show Zn c.tok i s t' j r=.nil;rw[XT _ V];exact e
    .obtain⟨B,a,b,I,_⟩:=ah r q C;have:=h.X8.QW r B m a (by rw[b];exact ai) (λj q p x=>aj j q p ((ab j r q p).2 x)) (λj k L g x=>let ⟨g',y⟩:=aU j r k L g x;aV j k L g' y);rw[b,I] at this;exact this
    .obtain⟨B,a,b,_,I⟩:=ah r q C;have:=h.X8.Rv r B a (λj q p x=>aj j q p ((ab j r q p).2 x));rw[b,I] at this;exact this
    .by_cases V:j=i/\r=s
     .obtain⟨rfl,rfl⟩:=V;obtain⟨aW,aX,y,_⟩:=(CK M).2.1 k aa g e;exact⟨k,aW,aX,by show Zn c.tok j r t' j r=_;rw[XH];exact y⟩
     .exact⟨k,aa,g,by show Zn c.tok i s t' j r=_;rw[XT _ V];exact e⟩
    .have e:({c with tok:=Zn c.tok i s t',view:=upd c.view i (upd (c.view i) s (some (X6 gs.size o' (upd (λj=>c.tok j s) i t'),o'))),O:=upd c.O s (some o'),T:=upd c.T i (f (i==0,g',S))}:YI).x i=S:=by
      simp[S,YI.x,upd_same,M']
     rw[e];show U7 P Q (upd c.T i (f (i==0,g',S)) i) _ _ _;rw[upd_same];exact aO
  | _=>rw[E] at Z;exact Z.elim
 .refine λsl=>⟨c,_,w,_,runT_crowd_go D E,?_,.inr (.inr ⟨Ω,U,?_⟩)⟩
  .rw[CG,Oi];have:=h.laid (c':=c) (u:=#[]) D (g':={g with status:=.blocked}) h.mem h.hold (by rw[Oi];exact h.Zr) h.Zd h.X8 (by rw[Oi];exact h.Yh) (by rw[Oi];exact h.Ww) ⟨g,aw,.inr ⟨ak,U,s,o,d,aI,aJ⟩⟩ (λj A=>⟨U,U⟩) (.inr λj s o _ a b=>⟨o,a,b⟩)
   rwa [Oi] at this
  .have e:gs.map (woken P g {g with status:=.blocked} w)=gs:=by
    have:woken P g {g with status:=.blocked} w=id:=by
     funext b;simp[woken]
    rw[this];simp
   rw[e];exact xO D ak.1 Ω
end
theorem CD:∀(q:Nat) (l:κ),l.Nodup->(∀x∈l,x<q)->l.length<=q:=by
 intro q
 induction q with
 | zero=>intro l _ h;cases l with
  | nil=>simp
  | cons a l=>exact absurd (h a Ω) I
 | succ q e=>
  intro l b h;have:=e (l.erase q) (b.erase q) (λx f=>by
   have c:=(b.mem_erase_iff).1 f
   have:=h x c.2
   have:=c.1;omega)
  by_cases d:q∈l
  .have:=List.length_erase_of_mem d;omega
  .rw[List.erase_of_not_mem d] at this;omega
theorem xN (l:κ) (q:Nat) (b:l.Nodup) (h:∀x∈l,x<q) (e:l.length=q):∀k,k<q->k∈l:=λk c=>by
 apply TW;intro d;have:=CD q (k::l) (Q5.2 ⟨d,b⟩) (λx a=>by
  rcases Yd.1 a with rfl|a
  .exact c
  .exact h x a)
 simp at this;omega
section
variable {n:Nat} {tok:Nat->Nat->Tok} {spec:Nat->Nat->Option Spec} {view:Nat->Nat->Option (Nat×γ)} {rel:Nat->Bool} {O:Nat->Option γ} {Zo home:Nat->Nat} {s i:Nat} {o:γ}
theorem XZ.fin (h:XZ n tok spec view rel O Zo home) (r:O s=some o) {j q p:Nat} {e:Pb} (b:tok j s=.par q p e) (u:VK (.par q p e)=1):p=0/\o.cnt=0/\∀a k m g,tok a s=.ch k m g->g=.gone:=by
 have f:j<n:=h.lt (s:=s) (by rw[b];simp)
 have c:=(h.Wj s o r).2
 have v:ZQ n (λa=>tok a s) VK=1:=by
  rw[QZ (φ:=VK) (λt b=>by cases t<;>simp_all [XX,VK]) c.Sg f (by rw[b];rfl),b,u]
 have w:ZQ n (λa=>tok a s) Wk=p:=by
  rw[QZ (φ:=Wk) (λt b=>by cases t<;>simp_all [XX,Wk]) c.Sg f (by rw[b];rfl),b];rfl
 obtain⟨f1,f2,f3,f4,f5,f6⟩:=c.C4 v;refine⟨I,f4,λa k m g i=>?_⟩;have d:a<n:=h.lt (s:=s) (by rw[i];simp);have x:=c.FU;have l1:=Xy (λa=>tok a s) Vn d;have l2:=Xy (λa=>tok a s) UI d;have l:=Xy (λa=>tok a s) UH d;simp only[i,Vn,UI,UH] at l1 l2 l;cases g with
 | gone=>rfl
 | work=>simp only[Pa] at l1;omega
 | rel=>simp only[Pa] at l1;omega
 | l2=>simp only[Nm] at l2;omega
 | Q2=>simp only[Nl] at l;omega
theorem XZ.CC (h:XZ n tok spec view rel O Zo home) (a:O s=some o) {k:Nat} {m:TT} {g:Of} (b:tok i s=.ch k m g) (c:g≠.gone):∀j q p,tok j s≠.par q p .YG:=λj q p d=>
 c ((h.fin a d U).2.2 i k m g b)
theorem XZ.only (h:XZ n tok spec view rel O Zo home) (c:O s=some o) (b:VM (tok i s)=1):∀j k L g,tok j s=.ch k (.YJ L) g->j=i:=λj k L g d=>by
 apply TW;intro l;have m:i<n:=h.lt (s:=s) (by intro e;rw[e] at b;cases b);have p:j<n:=h.lt (s:=s) (by rw[d];simp);have r:=W0 (λa=>tok a s) .nil VM m;have f:=Xy (upd (λa=>tok a s) i .nil) VM p;rw[upd_ne _ _ l] at f;have t:VM .nil=0:=rfl;have u:VM (tok j s)=1:=by rw[d];rfl
 simp only[b,t] at r;simp only[u] at f;have:=(h.Wj s o c).1.C6;have:=(h.Wj s o c).1.f1;omega
def P3 (tok:Nat->Nat->Tok) (s:Nat):Nat->κ
 | 0=>[]
 | n+1=>match tok n s with
  | .ch k _ _=>k::P3 tok s n
  | _=>P3 tok s n
theorem Kv (tok:Nat->Nat->Tok) (s:Nat):∀n k,k∈P3 tok s n↔∃j m g,j<n/\tok j s=.ch k m g
 | 0,k=>by simp[P3]
 | n+1,k=>by
  have c:=Kv tok s n k
  have d:(∃j m g,j<n/\tok j s=.ch k m g)->∃j m g,j<n+1/\tok j s=.ch k m g:=λ⟨j,m,g,f,a⟩=>⟨j,m,g,I,a⟩
  have split:(∃j m g,j<n+1/\tok j s=.ch k m g)->(∃j m g,j<n/\tok j s=.ch k m g)\/∃m g,tok n s=.ch k m g:=λ⟨j,m,g,f,a⟩=>by
   by_cases e:j=n
   .subst e;exact .inr ⟨m,g,a⟩
   .exact .inl ⟨j,m,g,I,a⟩
  unfold P3;cases b:tok n s with
  | nil=>exact c.trans ⟨d,λh=>(split h).elim id λ⟨m,g,e⟩=>by rw[b] at e;cases e⟩
  | par=>exact c.trans ⟨d,λh=>(split h).elim id λ⟨m,g,e⟩=>by rw[b] at e;cases e⟩
  | ch l i g'=>
   rw[Yd,c];constructor
   .rintro(rfl|h)
    .exact⟨n,i,g',I,b⟩
    .exact d h
   .intro h;rcases split h with h|⟨m,g,e⟩
    .exact .inr h
    .rw[b] at e;cases e;exact .inl U
theorem CB (tok:Nat->Nat->Tok) (s:Nat):∀n,(P3 tok s n).length=ZQ n (λa=>tok a s) TQ
 | 0=>rfl
 | n+1=>by
  have b:=CB tok s n;rw[Nj];unfold P3;cases c:tok n s<;>simp[TQ,b]
theorem CA (c:∀j d k m g a g',tok j s=.ch k m g->tok d s=.ch k a g'->j=d):∀n,(P3 tok s n).Nodup
 | 0=>List.nodup_nil
 | n+1=>by
  have b:=CA c n;unfold P3;cases e:tok n s with
  | nil=>exact b
  | par=>exact b
  | ch k m g=>
   refine Q5.2 ⟨λh=>?_,b⟩;obtain⟨j,a,g',i,f⟩:=(Kv tok s n k).1 h;have:=c j n k a g' m g f e;omega
theorem XZ.full (h:XZ n tok spec view rel O Zo home) (f:O s=some o) {q:Nat} {d:Pb} (b:tok i s=.par q 0 d) (v:d=.Sk\/d=.w4) :
  o.R.Perm (List.range q)/\(o.ZS≠none->o.L.Perm (List.range q))/\∀a k m g,tok a s=.ch k m g->g=.gone:=by
 have u:i<n:=h.lt (s:=s) (by rw[b];simp)
 have w:VK (.par q 0 d)=1:=by rcases v with rfl|rfl<;>rfl
 obtain⟨_,_,p⟩:=h.fin f b w;have r:=(h.Wj s o f).2;have K:ZQ n (λa=>tok a s) VL=q:=by
  rw[QZ (φ:=VL) (λt b=>by cases t<;>simp_all [XX,VL]) r.Sg u (by rw[b];rfl),b];rfl
 have M:ZQ n (λa=>tok a s) Wk=0:=by
  rw[QZ (φ:=Wk) (λt b=>by cases t<;>simp_all [XX,Wk]) r.Sg u (by rw[b];rfl),b];rfl
 have N:=r.C5
 have x:=h.par i s q 0 d b;subst x;have y:=CA (tok:=tok) (s:=s) (λj A k m g B g' C D=>h.Ng s j A k m g B g' C D) n;have lt:∀k∈P3 tok s n,k<q:=λk l=>by
  obtain⟨j,m,g,_,c⟩:=(Kv tok s n k).1 l;have:=h.Oc s j k m g q 0 d c b;omega
 have full:=xN _ q y lt (by rw[CB];omega);obtain⟨E,F⟩:=h.P8 s o f;obtain⟨H,I⟩:=h.Rw s o f;refine⟨(List.perm_ext_iff_of_nodup E List.nodup_range).2 λk=>?_,λJ=>(List.perm_ext_iff_of_nodup H List.nodup_range).2 λk=>?_,p⟩
 .rw[F,VN];constructor
  .rintro⟨j,m,g,c,_⟩;have:=h.Oc s j k m g q 0 d c b;omega
  .intro l;obtain⟨j,m,g,_,c⟩:=(Kv tok s n k).1 (full k l);exact⟨j,m,g,c,by rw[p j k m g c];simp⟩
 .rw[I,VN];constructor
  .rintro⟨j,m,g,c,_⟩;have:=h.Oc s j k m g q 0 d c b;omega
  .intro l;obtain⟨j,m,g,_,c⟩:=(Kv tok s n k).1 (full k l);refine⟨j,m,g,c,?_⟩;rcases h.Rx j s k m g o f c (by rw[p j k m g c];simp) with rfl|⟨_,e⟩
   .trivial
   .exact absurd e J
end
section
variable {H H':Y2->Υ} {Z8 Ob:Nat->Nat->Option (ν×TypeId)} {tok O9:Nat->Nat->Tok} {O O':Nat->Option γ} {Zo:Nat->Nat} {deaf:Nat->Nat} {N P7:Nat} {t:Trace} {ZB w w':World} {i:Nat} {y:MemOp} {b s:Nat} {o:γ}
theorem ofEvents_one {fn:FuncId} {pos:String} {e:Event}:MemOp.ofEvents i fn pos #[e]=#[{g:=i,fn,pos,act:=.ofEvent e}]:=by rw[ofEvents_eq];simp
theorem Vu.word (h:Vu H Z8 tok O Zo deaf N t) (u:y.g=i) (n:y.act=.mark (.acquire ⟨b,0,none⟩)\/y.act=.mark (.releaseMerge ⟨b,0,none⟩)) (w:b<N) (A:Te O O') (hv:∀j b v,Ob j b=some v->Z8 j b=some v)
  (B:∀k,YB (t++#[y]) (U5 O9 O' (t++#[y]) k) (H' k)):Vu H' Ob O9 O' Zo deaf N (t++#[y]):=by
 have nt:y.act.touch?=none:=by rcases n with e|e<;>rw[e]<;>rfl
 have p:∀k a,touchAt (t++#[y]) k=some a->touchAt t k=some a/\k<t.size:=λk a l=>by
  obtain⟨x,C,o⟩:=touch_of l;rcases getElem?_append_cases C with⟨D,E⟩|⟨_,r⟩
  .exact⟨by rw[touchAt_of E];exact o,D⟩
  .simp at r;subst r;rw[nt] at o;cases o
 refine⟨λF=>noRace_append (g:=i) (h.race F) (λm d=>by simp at d;subst d;exact u) (λk a _ m d c f _=>by simp at d;subst d;rw[nt] at f;cases f),λm d=>?_,λm d a=>?_,B,λj c v f k a l=>h.RB j c v (hv j c v f) k a (p k a l).1,λs o' c I f k a l J=>?_,λj=>?_⟩
 .rcases RI.1 d with d|d
  .exact h.low m d
  .simp at d;subst d;rcases n with e|e<;>rw[e]<;>exact w
 .rcases RI.1 d with d|d
  .exact h.norel m d a
  .simp at d;subst d;rcases n with e|e<;>rw[e]<;>simp
 .obtain⟨K,L,M⟩:=A.1 s o' I;obtain⟨P,Q⟩:=p k a l;rcases h.cont s K c L (by rw[M];exact f) k a P J with x|⟨x,R⟩
  .exact .inl x
  .exact .inr ⟨x,by rw[g?_old Q];exact R⟩
 .rw[Deaf_push,<-h.hears j];rcases n with e|e<;>simp[deafStep,e]
theorem Vu.L1 (h:Vu H Z8 tok O Zo deaf N t) (k:Y2) (nt:y.act.touch?=none) (d:Te O O') (e:∀i s,O9 i s≠.nil->tok i s≠.nil):YB (t++#[y]) (U5 O9 O' (t++#[y]) k) (H k):=
 (h.perms k).others (λ_ f=>IB d.1 e (FN _ f)) λg b a c=>by simp at b;subst b;rw[nt] at c;cases c
theorem Knows.marked {p:Nat} {c:MemOp} (e:t[p]?=some c) (k:c.act=.mark (.releaseMerge ⟨b,0,none⟩)) (l:t.heard p) (m:∀c∈t,∀a,c.act≠.mark (.release a)) (f:y.g=i) (n:y.act=.mark (.acquire ⟨b,0,none⟩)) (hd:Deaf t i=0):Knows (t++#[y]) i p:=by
 have h:(t++#[y])[t.size]?=some y:=Ω
 have o:(t++#[y]).heard t.size:=⟨i,by simp[Trace.g?,f],by rw[deaf_old (ZY _)];exact hd⟩
 have d:=lt_size_of_getElem? e;refine⟨t.size,y,h,f,.inr (.single (.inr ⟨.marked (a:=⟨b,0,none⟩) d (.inr ?_) ?_ ?_,(heard_old d).2 l,o⟩))⟩
 .rw[act?_old d,act?_of e,k]
 .rw[act?_of h,n]
 .intro w x r j;rw[act?_old r] at j;obtain⟨s,u,v⟩:=Uh.1 j;exact m s (mem_of_getElem? u) _ v
theorem YB.SD {b:Nat->Prop} {G:Υ} (h:YB t b G) (nt:y.act.touch?=none) (e:∀k,b k->Knows (t++#[y]) i k):YB (t++#[y]) (Knows (t++#[y]) i) G:=
 h.others e λf c a d=>by simp at c;subst c;rw[nt] at d;cases d
theorem Sub.empty (G:Υ):Sub Υ.empty G:=⟨λ_ _ _ _ h=>(by cases h),λ_ _ h=>(by cases h),λ_ _ h=>(by cases h)⟩
theorem Sub.both {A B e:Υ} (h:Sub A e) (k:Sub B e):Sub (join A B) e:=by
 refine⟨λb o v p c=>?_,λb x d=>?_,λb x hv=>?_⟩
 .simp only[join] at c;cases a:A.ω b o with
  | none=>rw[a] at c;exact k.ω b o v p c
  | some z=>rw[a] at c;cases c;exact h.ω b o v p a
 .simp only[join] at d;cases a:A.row b with
  | none=>rw[a] at d;exact k.row b x d
  | some z=>rw[a] at d;cases d;exact h.row b _ a
 .simp only[join] at hv;cases a:A.obj b with
  | none=>rw[a] at hv;exact k.obj b x hv
  | some z=>rw[a] at hv;cases hv;exact h.obj b _ a
theorem Sub.xM {G H:Υ} (d:Fits G w) (e:Fits H w) (f:Apart G H):Sub H (join G H):=by
 refine⟨λb o v p c=>?_,λb x g=>?_,λb x hv=>?_⟩
 .simp only[join];cases a:G.ω b o with
  | none=>exact⟨p,c,id⟩
  | some z=>
   obtain⟨k,h⟩:=z;have l:=d.ω b o k h a;have i:=e.ω b o v p c;rw[l] at i;cases i;refine⟨h,U,λm=>?_⟩;subst m;exact absurd ⟨_,a⟩ (f.Q3 b o ⟨_,c⟩)
 .simp only[join];cases a:G.row b with
  | none=>exact g
  | some z=>
   obtain⟨t1,n⟩:=z;obtain⟨t2,r⟩:=x;obtain⟨c1,_,s,t⟩:=d.row b t1 n a;obtain⟨c2,_,j,u⟩:=e.row b t2 r g;rw[s] at j;cases j;rw[<-t,<-u]
 .simp only[join];cases a:G.obj b with
  | none=>exact hv
  | some z=>exact absurd ⟨x,hv⟩ (f.obj b ⟨z,a⟩)
theorem M9 (G:Υ):join G Υ.empty=G:=by
 obtain⟨a,b,c⟩:=G;simp only[join,Υ.empty];congr
 .funext x y;cases a x y<;>rfl
 .funext x;cases b x<;>rfl
 .funext x;cases c x<;>rfl
theorem Wx.L0 (h:Wx H Z8 O ZB w) (hv:∀j b v,Ob j b=some v->Z8 j b=some v):Wx H Ob O ZB w:=⟨h.fit,λj b c t a=>h.Tf j b c t (hv j b _ a),h.X0,h.keep⟩
theorem VJ.L0 (h:VJ H Z8 O P7) (hv:∀j b v,Ob j b=some v->Z8 j b=some v):VJ H Ob O P7:=by
 have g:∀j b,Z8 j b=none->Ob j b=none:=λj b e=>by
  cases i:Ob j b with
  | none=>rfl
  | some v=>rw[hv j b v i] at e;cases e
 exact⟨h.apart,h.high,h.Sf,λj b v a=>let ⟨c,d,f⟩:=h.fresh j b v (hv j b v a);⟨c,d,λk l=>g k b (f k l)⟩,λs o b m a=>let ⟨c,d,f⟩:=h.U6 s o b m a;⟨c,d,λk=>g k b (f k)⟩,h.Uu,h.QY,h.X8⟩
theorem Ut {o':γ} (a:O s=some o) {r:Nat} {q:γ} (h:upd O s (some o') r=some q):(r=s/\q=o')\/(r≠s/\O r=some q):=by
 by_cases e:r=s
 .subst e;rw[upd_same] at h;cases h;exact .inl ⟨U,U⟩
 .rw[upd_ne _ _ e] at h;exact .inr ⟨e,h⟩
theorem Iw {a b:Tok} (c:tok i s=a) (d:∀q p,a≠.par q p .YG) (f:∀q p,b≠.par q p .YG) (j r q p:Nat):Zn tok i s b j r=.par q p .YG↔tok j r=.par q p .YG:=by
 by_cases e:j=i/\r=s
 .obtain⟨rfl,rfl⟩:=e;rw[XH,c];exact⟨λx=>absurd x (f q p),λx=>absurd x (d q p)⟩
 .rw[XT _ e]
theorem Ku {a b:Tok} (c:tok i s=a) (d:a≠.nil) (j r:Nat) (h:Zn tok i s b j r≠.nil):tok j r≠.nil:=by
 by_cases e:j=i/\r=s
 .obtain⟨rfl,rfl⟩:=e;rw[c];exact d
 .rw[XT _ e] at h;exact h
theorem Kt {a b:Tok} (c:tok i s=a) (d:∀k m g,a=.ch k m g->∃k m g,b=.ch k m g) (j r k:Nat) (m:TT) (g:Of) (h:tok j r=.ch k m g):∃k m g,Zn tok i s b j r=.ch k m g:=by
 by_cases e:j=i/\r=s
 .obtain⟨rfl,rfl⟩:=e;rw[XH];exact d k m g (c▸h)
 .rw[XT _ e];exact⟨k,m,g,h⟩
end
section
variable {P:Program} {Q:Value->Prop} {ZB:World} {c c':YI} {gs:Array Goroutine} {w w':World} {t:Trace} {i:Nat} {g g':Goroutine} {es:Array Event}
variable {f:Bool×Goroutine×Z5->W3 (Bool×Goroutine×Z5)}
theorem Inv.Iv (h:Inv P Q ZB c gs w t) (V:gs[i]?=some g) (W:CU P (i==0) (TN P Q f) g (c.x i)):VU P Q ZB c gs w t i f:=by
 obtain⟨s,sp,m,k,g',ae,X,af,ag,aA,ah,ai,aj⟩:=W;have ak:i<gs.size:=Td V;obtain⟨o,d,al⟩:=h.Zd.P9 i s sp ae;subst al;have l:c.tok i s=.ch k .own .work:=af;have hd:c.deaf i=0:=ag;have am:c.rel i=false:=ah;have an:=ai w (h.mem.fit (.inl i));have ao:=h.Zd.CC d l Ω;have ap:=h.X8.QW s o m d X ao (λj Y L g u=>by
  have:=h.Zd.only d (i:=i) (by rw[l];rfl) j Y L g u;subst this;rw[l] at u;cases u)
 have aq:=aj o.L (c.H (.inr m)) ap (h.hold.apart _ _ Ω) ⟨(h.Zd.Rw s o d).1,λW=>(by
  obtain⟨j,E,ar,C,K⟩:=((h.Zd.Rw s o d).2 k).1 W;have:=h.Zd.Ng s j i k E ar _ _ C l;subst this;rw[l] at C;cases C;exact K),w,h.mem.fit _,h.mem.fit _⟩
 let M:Z5:={c.x i with G:=join (c.H (.inl i)) (c.H (.inr m)),tok:=upd (c.tok i) s (.ch k (.YJ o.L) .work),view:=upd (c.view i) s none}
 let c':YI:={c with H:=Zz (Zz c.H (.inl i) (join (c.H (.inl i)) (c.H (.inr m)))) (.inr m) Υ.empty,tok:=Zn c.tok i s (.ch k (.YJ o.L) .work),view:=upd c.view i (upd (c.view i) s none),O:=upd c.O s (some o),T:=upd c.T i (f (i==0,g',M))}
 have Z:=Te.upd (o':=o) d U
 have F:=Iw (b:=.ch k (.YJ o.L) .work) l Ω Ω
 have au:=Ku (b:=.ch k (.YJ o.L) .work) l Ω
 have I:Yc s o.toSpec m:=.inr X;refine VU.go (c':=c') V an ?_ _ U;rw[ofEvents_one];have av:c'.x i=M:=by
  have:(Sum.inl i:Y2)≠.inr m:=Ω;simp[c',M,YI.x,upd_same,M',Zy _ _ this]
 refine h.laid (c':=c') V (h.mem.two (Ky (h.mem.fit _) (h.mem.fit _)) (Nf w) λr q B=>?_) ?_ ?_ (h.Zd.FT d l) ⟨λr q E B aa N ab=>?_,λr q B N=>?_⟩
  (h.Yh.app ak (λad A=>by simp at A;subst A;rfl) (λS=>by rw[am] at S;cases S) (λs q p ⟨j,x⟩=>⟨j,(F j s q p).1 x⟩) (λj s q p x=>(F j s q p).1 x))
  (h.Ww.app h.Zr.low (λad A b aw=>by simp at A;subst A;cases aw) (λj b v hv=>.inl ⟨v,hv⟩) (λr q B=>?_) (λj r Y ax g e=>Kt l (λ_ _ _ _=>⟨_,_,_,U⟩) j r Y ax g e))
  ⟨g',?_,.inl U⟩ (λj u=>⟨?_,upd_ne _ _ u⟩) (.inr λj r q _ a b=>?_)
 .rcases Ut d B with⟨rfl,rfl⟩|⟨_,n⟩
  .exact h.mem.X0 _ _ d
  .exact h.mem.X0 _ _ n
 .exact h.hold.two Ω (Sub.refl _) (Sub.empty _) (Apart.P6 _) Z λx S=>by
   rcases S with e|e
   .cases e;exact⟨s,o,d,I⟩
   .cases e
 .refine h.Zr.word (i:=i) U (.inl U) (h.low d I) Z (λ_ _ _ x=>x) λa=>?_;by_cases K:a=.inr m
  .subst K;show YB _ _ (Zz _ _ _ _);rw[Yr];exact YB.empty
  .show YB _ _ (Zz _ _ _ _);rw[Zy _ _ K];by_cases C:a=.inl i
   .subst C;rw[Yr];exact((h.Zr.perms (.inl i)).own (λad A=>by simp at A;subst A;rfl)).join ((h.Zr.perms (.inr m)).acquire h.Zr.norel d I (by rw[l];simp) U U (by rw[h.Zr.hears];exact hd))
   .rw[Zy _ _ C];exact h.Zr.L1 a U Z au
 .rcases Ut d B with⟨rfl,rfl⟩|⟨e,n⟩
  .exact absurd (XH ..) (ab i k q.L .work)
  .have J:(.inr E:Y2)≠.inr m:=λx=>by cases x;exact e (h.hold.Uu r s q o m n d (.inr aa) I)
   show q.X1 q.L (Zz (Zz c.H _ _) (.inr m) _ (.inr E));rw[Zy _ _ J,Vt];exact h.X8.QW r q E n aa (λj q p x=>N j q p ((F j r q p).2 x)) λj k L g x=>ab j k L g (by show Zn c.tok i s _ j r=_;rw[XT _ (λy=>e y.2)];exact x)
 .rcases Ut d B with⟨rfl,rfl⟩|⟨e,n⟩
  .have J:(.inr r:Y2)≠.inr m:=λx=>by cases x;exact h.hold.QY _ q m d X U
   show TO q.D q.R (Zz (Zz c.H _ _) (.inr m) _ (.inr r));rw[Zy _ _ J,Vt];exact h.X8.Rv r q d (λj q p x=>N j q p ((F j r q p).2 x))
  .have J:(.inr r:Y2)≠.inr m:=λx=>by cases x;exact e (h.hold.Uu m s q o m n d (.inl U) I)
   show TO q.D q.R (Zz (Zz c.H _ _) (.inr m) _ (.inr r));rw[Zy _ _ J,Vt];exact h.X8.Rv r q n (λj q p x=>N j q p ((F j r q p).2 x))
 .rcases Ut d B with⟨rfl,rfl⟩|⟨_,n⟩
  .exact⟨_,d,U⟩
  .exact⟨q,n,U⟩
 .rw[av];show U7 P Q (upd c.T i (f (i==0,g',M)) i) _ _ _;rw[upd_same];exact aq
 .have ay:(Sum.inl j:Y2)≠.inr m:=by simp
  have az:(Sum.inl j:Y2)≠.inl i:=λe=>u (by cases e;rfl);simp[c',YI.x,upd_ne _ _ u,O7 _ u,Zy _ _ ay,Zy _ _ az]
 .exact⟨q,by show upd c.O s (some o) r=some q;rw[Iz d];exact a,b⟩
theorem Inv.FI (h:Inv P Q ZB c gs w t) (ae:gs[i]?=some g) (aq:CS P (i==0) (TN P Q f) g (c.x i)):VU P Q ZB c gs w t i f:=by
 obtain⟨s,sp,m,k,L,g',G',E,ar,af,ag,ah,aI,au,av,F,aw,ax⟩:=aq;have ay:i<gs.size:=Td ae;obtain⟨o,d,az⟩:=h.Zd.P9 i s sp ar;subst az;have K:c.tok i s=.ch k (.YJ L) .work:=ag;have hd:c.deaf i=0:=ah;have aj:c.rel i=false:=au;have aA:=av w (h.mem.fit (.inl i));have aB:o.L=L:=h.Zd.YJ i s k L .work o d K;let o':γ:={o with L:=o.L++[k]};let V:Z5:={c.x i with G:=G',tok:=upd (c.tok i) s (.ch k .fin .work),view:=upd (c.view i) s none};let c':YI:={c with H:=Zz (Zz c.H (.inl i) G') (.inr m) E,tok:=Zn c.tok i s (.ch k .fin .work),view:=upd c.view i (upd (c.view i) s none),O:=upd c.O s (some o'),T:=upd c.T i (f (i==0,g',V))};have W:Te c.O (upd c.O s (some o')):=Te.upd d U;have M:=Iw (b:=.ch k .fin .work) K Ω Ω;have ak:=Ku (b:=.ch k .fin .work) K Ω;have J:Yc s o.toSpec m:=.inr af;refine VU.go (c':=c') ae aA ?_ _ U;rw[ofEvents_one];have aC:c'.x i=V:=by
  have:(Sum.inl i:Y2)≠.inr m:=Ω;simp[c',V,YI.x,upd_same,M',Zy _ _ this]
 refine h.laid (c':=c') ae (h.mem.two (F.l.fits (h.mem.fit (.inl i))) (F.r.fits (h.mem.fit (.inl i))) λr q B=>?_) ?_ ?_ (h.Zd.x0 d K) ⟨λr q A B I X aD=>?_,λr q B X=>?_⟩
  (h.Yh.app ay (λC n=>by simp at n;subst n;rfl) (λY=>by rw[aj] at Y;cases Y) (λs q p ⟨j,x⟩=>⟨j,(M j s q p).1 x⟩) (λj s q p x=>(M j s q p).1 x))
  ⟨λr q A B I p C aE N=>?_,λj b v hv C n N=>?_⟩
  ⟨g',?_,.inl U⟩ (λj Z=>⟨?_,upd_ne _ _ Z⟩) (.inr λj r q _ a b=>?_)
 .rcases Ut d B with⟨rfl,rfl⟩|⟨_,u⟩
  .exact(h.mem.X0 r o d:At r o w)
  .exact h.mem.X0 _ _ u
 .exact h.hold.two Ω F.l.P5 F.r.P5 F.apart W λx Y=>by
   rcases Y with e|e
   .cases e;exact⟨s,o,d,J⟩
   .cases e
 .refine h.Zr.word (i:=i) U (.inr U) (h.low d J) W (λ_ _ _ x=>x) λa=>?_;by_cases aa:a=.inr m
  .subst aa;show YB _ _ (Zz _ _ _ _);rw[Yr];exact((YB.release (h.Zr.perms (.inl i)) U U (by rw[h.Zr.hears];exact hd)).sub F.r).mono λ_ x=>IB W.1 ak x
  .show YB _ _ (Zz _ _ _ _);rw[Zy _ _ aa];by_cases ab:a=.inl i
   .subst ab;rw[Yr];exact((h.Zr.perms (.inl i)).own (λC n=>by simp at n;subst n;rfl)).sub F.l
   .rw[Zy _ _ ab];exact h.Zr.L1 a U W ak
 .rcases Ut d B with⟨rfl,rfl⟩|⟨e,u⟩
  .have e:A=m:=by have:o.ZS=some A:=I;rw[af] at this;cases this;rfl
   subst e;show o.X1 (o.L++[k]) (Zz (Zz c.H _ _) (.inr A) _ (.inr A));rw[Yr,aB];exact aw
  .have S:(.inr A:Y2)≠.inr m:=λx=>by cases x;exact e (h.hold.Uu r s q o m u d (.inr I) J)
   show q.X1 q.L (Zz (Zz c.H _ _) (.inr m) _ (.inr A));rw[Zy _ _ S,Vt];exact h.X8.QW r q A u I (λj q p x=>X j q p ((M j r q p).2 x)) λj k L g x=>aD j k L g (by show Zn c.tok i s _ j r=_;rw[XT _ (λy=>e y.2)];exact x)
 .rcases Ut d B with⟨rfl,rfl⟩|⟨e,u⟩
  .have S:(.inr r:Y2)≠.inr m:=λx=>by cases x;exact h.hold.QY _ o m d af U
   show TO o.D o.R (Zz (Zz c.H _ _) (.inr m) _ (.inr r));rw[Zy _ _ S,Vt];exact h.X8.Rv r o d (λj q p x=>X j q p ((M j r q p).2 x))
  .have S:(.inr r:Y2)≠.inr m:=λx=>by cases x;exact e (h.hold.Uu m s q o m u d (.inl U) J)
   show TO q.D q.R (Zz (Zz c.H _ _) (.inr m) _ (.inr r));rw[Zy _ _ S,Vt];exact h.X8.Rv r q u (λj q p x=>X j q p ((M j r q p).2 x))
 .rcases getElem?_append_cases aE with⟨_,aF⟩|⟨_,al⟩
  .have am:∀ad,c.O r=some ad->ad.ZS=some A->(∃an ao g,Zn c.tok i s (.ch k .fin .work) C.g r=.ch an ao g)/\(c.rel C.g=true->Before (t++#[{g:=i,fn:=g.frame.fn,pos:=g.frame.place,act:=MemAct.ofEvent (Go.ConcR.mk (Mark.releaseMerge {block:=m,off:=0}))}]) p (c.XU C.g)):=λad ab aa=>by
    obtain⟨⟨an,ao,g,ag⟩,ah⟩:=h.Ww.Nc r ad A ab aa p C aF N;exact⟨Kt K (λ_ _ _ _=>⟨_,_,_,U⟩) _ _ _ _ _ ag,λai=>(ah ai).app _⟩
   rcases Ut d B with⟨rfl,rfl⟩|⟨_,u⟩
   .exact am o d I
   .exact am q u I
  .simp at al;subst al;cases N;have:r=s:=by
    rcases Ut d B with⟨rfl,rfl⟩|⟨_,u⟩
    .rfl
    .exact h.hold.Uu r s q o m u d (.inr I) J
   subst this;exact⟨⟨k,.fin,.work,XH ..⟩,λai=>by
    have:c.rel i=true:=ai;rw[aj] at this;cases this⟩
 .rcases RI.1 n with n|n
  .exact h.Ww.Nb j b v hv C n N
  .simp at n;subst n;cases N;have:=(h.hold.U6 s o m d J).2.2 j;have ap:c.Z8 j m=some v:=hv;rw[this] at ap;cases ap
 .rw[aC];show U7 P Q (upd c.T i (f (i==0,g',V)) i) _ _ _;rw[upd_same];exact ax
 .have aG:(Sum.inl j:Y2)≠.inr m:=by simp
  have aH:(Sum.inl j:Y2)≠.inl i:=λe=>Z (by cases e;rfl);simp[c',YI.x,upd_ne _ _ Z,O7 _ Z,Zy _ _ aG,Zy _ _ aH]
 .by_cases e:r=s
  .subst e;rw[d] at a;cases a;exact⟨o',upd_same ..,b⟩
  .exact⟨q,by show upd c.O s (some o') r=some q;rw[upd_ne _ _ e];exact a,b⟩
end
section
variable {P:Program} {Q:Value->Prop} {ZB:World} {c c':YI} {gs:Array Goroutine} {w w':World} {t:Trace} {i:Nat} {g g':Goroutine} {es:Array Event}
variable {f:Bool×Goroutine×Z5->W3 (Bool×Goroutine×Z5)}
theorem Inv.parent (h:Inv P Q ZB c gs w t) {s:Nat} {o:γ} (g:c.O s=some o):c.Zo s<gs.size/\∃q p b,c.tok (c.Zo s) s=.par q p b:=by
 obtain⟨e,i,f⟩:=IH (φ:=XX) (N:=gs.size) (τ:=λa=>c.tok a s) (by rw[(h.Zd.Wj s o g).2.Sg];exact Nat.one_pos);have j:∃q p b,c.tok e s=.par q p b:=by
  cases d:c.tok e s with
  | par q p b=>exact⟨q,p,b,rfl⟩
  | nil=>simp[d,XX] at f
  | ch=>simp[d,XX] at f
 obtain⟨q,p,b,d⟩:=j;have k:=h.Zd.par e _ q p b d;subst k;exact⟨i,q,p,b,d⟩
theorem Inv.FH (h:Inv P Q ZB c gs w t) (ay:gs[i]?=some g) (aS:CR P (i==0) (TN P Q f) g (c.x i)):VU P Q ZB c gs w t i f:=by
 obtain⟨s,sp,k,M,g',E,aT,az,aG,aU,aA,bn,aV,aW,am,aX,aY⟩:=aS;have aZ:i<gs.size:=Td ay;obtain⟨o,d,a0⟩:=h.Zd.P9 i s sp aT;subst a0;have X:c.tok i s=.ch k M .work:=az;have hd:c.deaf i=0:=aA;have bo:c.rel i=false:=aV;have aH:∀aI,aI≠s->XE (c.tok i aI):=aU;have a1:=aW w (h.mem.fit (.inl i));obtain⟨bp,an,bq⟩:=h.Zd.Rz i s k M .work X;have aJ:=h.Zd.CC d X Ω;let y:MemOp:={g:=i,fn:=g.frame.fn,pos:=g.frame.place,act:=MemAct.ofEvent (Go.ConcR.mk (Mark.releaseMerge ⟨s,0,none⟩))};have a2:y.act=.mark (.releaseMerge ⟨s,0,none⟩):=rfl;have ao:(t++#[y])[t.size]?=some y:=Ω;have a3:(t++#[y]).heard t.size:=⟨i,by simp[Trace.g?,y],by rw[deaf_old (ZY _)];exact(h.Zr.hears i).trans hd⟩;let o':γ:={o with R:=k::o.R};let ap:Z5:={c.x i with G:=Υ.empty,Z8:=λ_=>none,tok:=upd (c.tok i) s (.ch k M .rel),view:=upd (c.view i) s none,rel:=true};let c':YI:={c with H:=Zz (Zz c.H (.inl i) Υ.empty) (.inr s) (join E (c.H (.inr s))),Z8:=upd c.Z8 i λ_=>none,tok:=Zn c.tok i s (.ch k M .rel),view:=upd c.view i (upd (c.view i) s none),O:=upd c.O s (some o'),rel:=upd c.rel i true,XU:=upd c.XU i t.size,T:=upd c.T i (f (i==0,g',ap))};have ad:Te c.O (upd c.O s (some o')):=Te.upd d U;have ae:=Iw (b:=.ch k M .rel) X Ω Ω;have aB:=Ku (b:=.ch k M .rel) X Ω;have af:Yc s o.toSpec s:=.inl U;have aq:∀j b v,upd c.Z8 i (λ_=>none) j b=some v->c.Z8 j b=some v:=λj b v hv=>by
  by_cases e:j=i
  .subst e;rw[upd_same] at hv;cases hv
  .rw[upd_ne _ _ e] at hv;exact hv
 have aK:=h.hold.apart (.inl i) (.inr s) Ω
 have a4:Sub (join E (c.H (.inr s))) (join (c.H (.inl i)) (c.H (.inr s))):=Sub.both (Sub.P5 am) (Sub.xM (h.mem.fit _) (h.mem.fit _) aK)
 have aL:∀j r F L g,c.tok j r=.ch F (.YJ L) g->Zn c.tok i s (.ch k M .rel) j r=.ch F (.YJ L) g:=λj r F L g n=>by
  rw[XT _ (λe=>?_)]
  .exact n
  .obtain⟨rfl,rfl⟩:=e;rw[X] at n;rcases aG with rfl|⟨rfl,_⟩<;>cases n
 have br:∀j,j≠i->∀r,Zn c.tok i s (.ch k M .rel) j r=c.tok j r:=λj n r=>XT _ λe=>n e.1;refine VU.go (c':=c') ay a1 ?_ _ U;rw[ofEvents_one];have a5:c'.x i=ap:=by
  have:(Sum.inl i:Y2)≠.inr s:=Ω;simp[c',ap,YI.x,upd_same,M',Zy _ _ this]
 have a6:Nd gs.size c'.tok c'.rel c'.Zo c'.home c'.XU (t++#[y]):=by
  refine⟨λF g' ag=>?_,λj N n=>?_,λj N n Z=>?_,λj N n aM aN=>?_⟩
  .obtain⟨l,m,ab⟩:=Uh.1 ag;rcases getElem?_append_cases m with⟨_,ar⟩|⟨_,aa⟩
   .exact h.Yh.P4 F g' (by simp[Trace.g?,ar,ab])
   .simp at aa;subst aa;rw[<-ab];exact aZ
  .by_cases e:j=i
   .subst e;have A:c'.XU j=t.size:=upd_same ..;rw[A];refine⟨y,ao,U,by rw[a2];show _=MemAct.mark (.releaseMerge ⟨c.home j,0,none⟩);rw[an],a3,λF ag au=>?_⟩;obtain⟨l,m,ab⟩:=Uh.1 ag;rcases getElem?_append_cases m with⟨ah,ar⟩|⟨aC,aa⟩
    .exact .inr (hb_po ah m ao ab)
    .exact absurd au (L2 (u:=#[y]) (λl m=>by simp at m;subst m;rfl) F aC)
   .have Y:c.rel j=true:=by have:upd c.rel i true j=true:=n;rwa [upd_ne _ _ e] at this
    have A:c'.XU j=c.XU j:=upd_ne _ _ e;rw[A];obtain⟨l,ai,aD,a7,a8,a9⟩:=h.Yh.c1 j N Y;have aj:=lt_size_of_getElem? ai;refine⟨l,by rw[getElem?_append_old aj];exact ai,aD,a7,(heard_old aj).2 a8,λF ag au=>?_⟩;obtain⟨bs,m,ab⟩:=Uh.1 ag;rcases getElem?_append_cases m with⟨ah,ar⟩|⟨aC,aa⟩
    .exact(a9 F (by simp[Trace.g?,ar,ab]) ((Kx ah).1 au)).app _
    .exact absurd au (L2 (u:=#[y]) (λl m=>by simp at m;subst m;rfl) F aC)
  .obtain⟨q,p,J⟩:=Z;have C:c.tok (c.Zo (c.home j)) (c.home j)=.par q p .YG:=(ae _ _ q p).1 J;by_cases e:j=i
   .subst e;rw[an] at C;exact absurd C (aJ _ q p)
   .have Y:c.rel j=true:=by have:upd c.rel i true j=true:=n;rwa [upd_ne _ _ e] at this
    have A:c'.XU j=c.XU j:=upd_ne _ _ e;rw[A];exact(h.Yh.c2 j N Y ⟨q,p,C⟩).app _
  .by_cases e:j=i
   .subst e;exfalso;have a':c.Zo s≠0:=by rw[<-an];exact aM
    have S:c.Zo s≠j:=I
    have ba:c.rel (c.Zo s)=true:=by
     have:upd c.rel j true (c.Zo (c.home j))=true:=aN;rw[an,upd_ne _ _ S] at this;exact this
    obtain⟨_,q,p,av,V⟩:=h.parent d;have ak:XE (c.tok (c.Zo s) s):=by
     by_cases B:s=c.home (c.Zo s)
     .obtain⟨bb,bc,bd,aw⟩:=h.Zd.QX (c.Zo s) a' I;rw[<-B,V] at aw;cases aw
     .exact h.Zd.Ry _ s ba B
    rw[V] at ak;cases av<;>first|exact ak.elim|exact aJ _ _ _ V
   .have Y:c.rel j=true:=by have:upd c.rel i true j=true:=n;rwa [upd_ne _ _ e] at this
    have A:c'.XU j=c.XU j:=upd_ne _ _ e;rw[A];by_cases B:c.Zo (c.home j)=i
    .have aE:c'.XU (c.Zo (c.home j))=t.size:=by rw[B];exact upd_same ..
     show Before _ _ (c'.XU (c.Zo (c.home j)));rw[aE];obtain⟨l,ai,_⟩:=h.Yh.c1 j N Y;have be:j<gs.size:=by
      obtain⟨l,ai,aD,_⟩:=h.Yh.c1 j N Y;exact h.Yh.P4 (c.XU j) j (by simp[Trace.g?,ai,aD])
     obtain⟨bb,bc,bd,aw⟩:=h.Zd.QX j N be;obtain⟨bt,bf⟩:=h.obj (i:=j) (s:=c.home j) (by rw[aw];simp);obtain⟨_,q,p,av,V⟩:=h.parent bf;rw[B] at V;have S:c.home j≠s:=λbg=>by rw[bg,X] at V;cases V
     have ak:=aH _ S;rw[V] at ak;have bh:av=.YG:=by cases av<;>first|exact ak.elim|rfl
     subst bh;have aO:=h.Yh.c2 j N Y ⟨q,p,by rw[B];exact V⟩;rw[B] at aO;exact .inr (aO.hb_new (u:=#[y]) (ZY _) ao U)
    .have aE:c'.XU (c.Zo (c.home j))=c.XU (c.Zo (c.home j)):=upd_ne _ _ B
     show Before _ _ (c'.XU (c.Zo (c.home j)));rw[aE];refine(h.Yh.c3 j N Y aM ?_).app _;have:upd c.rel i true (c.Zo (c.home j))=true:=aN
     rwa [upd_ne _ _ B] at this
 refine h.laid (c':=c') ay ((h.mem.two (Nf w) (Ky (am.fits (h.mem.fit (.inl i))) (h.mem.fit _)) λr q J=>?_).L0 aq) ((h.hold.two Ω (Sub.empty _) a4 (Apart.P6 _).symm ad λx bi=>?_).L0 aq) ?_ (h.Zd.xZ d X aG aH) ⟨λr q K J W Z aP=>?_,λr q J Z=>?_⟩
  a6 ⟨λr q K J W p l aj al=>?_,λj b v hv l m al=>?_⟩
  ⟨g',?_,.inl U⟩ (λj n=>⟨?_,upd_ne _ _ n⟩) (.inr λj r q _ a b=>?_)
 .rcases Ut d J with⟨rfl,rfl⟩|⟨_,C⟩
  .exact(h.mem.X0 r o d:At r o w)
  .exact h.mem.X0 _ _ C
 .rcases bi with e|e
  .cases e;exact⟨s,o,d,af⟩
  .cases e
 .refine h.Zr.word (i:=i) U (.inr U) (h.low d af) ad aq λa=>?_;by_cases B:a=.inr s
  .subst B;show YB _ _ (Zz _ _ _ _);rw[Yr];exact(((YB.release (h.Zr.perms (.inl i)) U U (by rw[h.Zr.hears];exact hd)).sub am).mono λ_ x=>IB ad.1 aB x).join (h.Zr.L1 (.inr s) U ad aB)
  .show YB _ _ (Zz _ _ _ _);rw[Zy _ _ B];by_cases A:a=.inl i
   .subst A;rw[Yr];exact YB.empty
   .rw[Zy _ _ A];exact h.Zr.L1 a U ad aB
 .rcases Ut d J with⟨rfl,rfl⟩|⟨e,C⟩
  .have S:(.inr K:Y2)≠.inr r:=λx=>by cases x;exact h.hold.QY _ o _ d W U
   show o.X1 o.L (Zz (Zz c.H _ _) (.inr r) _ (.inr K));rw[Zy _ _ S,Vt];exact h.X8.QW r o K d W (λj q p x=>Z j q p ((ae j r q p).2 x)) λj k L g x=>aP j k L g (aL _ _ _ _ _ x)
  .have S:(.inr K:Y2)≠.inr s:=λx=>e (h.hold.Uu r s q o K C d (.inr W) (by cases x;exact af))
   show q.X1 q.L (Zz (Zz c.H _ _) (.inr s) _ (.inr K));rw[Zy _ _ S,Vt];exact h.X8.QW r q K C W (λj q p x=>Z j q p ((ae j r q p).2 x)) λj k L g x=>aP j k L g (aL _ _ _ _ _ x)
 .rcases Ut d J with⟨rfl,rfl⟩|⟨e,C⟩
  .show TO o.D (k::o.R) (Zz (Zz c.H _ _) (.inr r) _ (.inr r));rw[Yr];exact⟨E,c.H (.inr r),aX,h.X8.Rv r o d (λj q p x=>Z j q p ((ae j r q p).2 x)),aK.sub am (Sub.refl _),U⟩
  .have S:(.inr r:Y2)≠.inr s:=λx=>by cases x;exact e U
   show TO q.D q.R (Zz (Zz c.H _ _) (.inr s) _ (.inr r));rw[Zy _ _ S,Vt];exact h.X8.Rv r q C (λj q p x=>Z j q p ((ae j r q p).2 x))
 .rcases getElem?_append_cases aj with⟨ah,bj⟩|⟨_,aa⟩
  .have aQ:∀ax,c.O r=some ax->ax.ZS=some K->(∃F aR g,Zn c.tok i s (.ch k M .rel) l.g r=.ch F aR g)/\(c'.rel l.g=true->Before (t++#[y]) p (c'.XU l.g)):=λax A B=>by
    obtain⟨⟨F,aR,g,az⟩,aA⟩:=h.Ww.Nc r ax K A B p l bj al;refine⟨Kt X (λ_ _ _ _=>⟨_,_,_,U⟩) _ _ _ _ _ az,λbk=>?_⟩;by_cases e:l.g=i
    .have A:c'.XU l.g=t.size:=by rw[e];exact upd_same ..
     rw[A];exact .inr (hb_po ah aj ao e)
    .have A:c'.XU l.g=c.XU l.g:=upd_ne _ _ e
     have B:c.rel l.g=true:=by have:upd c.rel i true l.g=true:=bk;rwa [upd_ne _ _ e] at this
     rw[A];exact(aA B).app _
   rcases Ut d J with⟨rfl,rfl⟩|⟨_,C⟩
   .exact aQ o d W
   .exact aQ q C W
  .simp at aa;subst aa;cases al;exfalso;rcases Ut d J with⟨rfl,rfl⟩|⟨e,C⟩
   .exact h.hold.QY _ o _ d W U
   .exact e (h.hold.Uu r s q o s C d (.inr W) af)
 .have aF:=aq j b v hv;rcases RI.1 m with m|m
  .exact h.Ww.Nb j b v aF l m al
  .simp at m;subst m;cases al;have:=(h.hold.U6 s o s d af).2.2 j;rw[this] at aF;cases aF
 .rw[a5];show U7 P Q (upd c.T i (f (i==0,g',ap)) i) _ _ _;rw[upd_same];exact aY
 .have bl:(Sum.inl j:Y2)≠.inr s:=by simp
  have bm:(Sum.inl j:Y2)≠.inl i:=λe=>n (by cases e;rfl);simp[c',YI.x,upd_ne _ _ n,O7 _ n,Zy _ _ bl,Zy _ _ bm]
 .by_cases e:r=s
  .subst e;rw[d] at a;cases a;exact⟨o',upd_same ..,b⟩
  .exact⟨q,by show upd c.O s (some o') r=some q;rw[upd_ne _ _ e];exact a,b⟩
theorem Inv.Iu (h:Inv P Q ZB c gs w t) (ao:gs[i]?=some g) (ab:CQ P (i==0) (TN P Q f) g (c.x i)):VU P Q ZB c gs w t i f:=by
 obtain⟨s,sp,n,ax,g',aS,aT,ap,aU,bH,aV,aW,aX⟩:=ab;have aY:i<gs.size:=Td ao;obtain⟨o,l,aZ⟩:=h.Zd.P9 i s sp aS;subst aZ;have W:c.tok i s=.par n 0 ax:=aT;have hd:c.deaf i=0:=aU;have bI:c.rel i=false:=aV;have ad:=aW w (h.mem.fit (.inl i));have a0:=h.Zd.par i s n 0 ax W;obtain⟨a1,a2,ay⟩:=h.Zd.full l W ap;have aq:Yc s o.toSpec s:=.inl U;have az:∀j q p,c.tok j s≠.par q p .YG:=λj q p d=>by
  have e:=h.Zd.par j s q p .YG d;rw[<-a0] at e;subst e;rw[W] at d;rcases ap with rfl|rfl<;>cases d
 let y:MemOp:={g:=i,fn:=g.frame.fn,pos:=g.frame.place,act:=MemAct.ofEvent (Go.ConcR.mk (Mark.acquire ⟨s,0,none⟩))}
 have a3:y.act=.mark (.acquire ⟨s,0,none⟩):=rfl
 have aA:Deaf t i=0:=by rw[h.Zr.hears];exact hd
 have ag:Te c.O (upd c.O s (some o)):=Te.upd l U
 have aB:=Ku (b:=.par n 0 .YG) W Ω
 have aC:∀j,(∃k m g,c.tok j s=.ch k m g)->j≠0/\c.home j=s/\c.rel j=true/\Knows (t++#[y]) i (c.XU j):=λj ⟨k,m,g,d⟩=>by
  obtain⟨K,N,_⟩:=h.Zd.Rz j s k m g d;have ae:c.rel j=true:=(h.Zd.W2 j k m g K (by rw[N];exact d)).2 (by rw[ay j k m g d];simp);obtain⟨M,a4,aD,aE,a5,_⟩:=h.Yh.c1 j K ae;rw[N] at aE;exact⟨K,N,ae,Knows.marked a4 aE a5 h.Zr.norel U a3 aA⟩
 have a6:=h.X8.Rv s o l az;obtain⟨I,S,a7,a8,a9,a',ba,bb,bc,bJ,aF,bd,be,bf⟩:∃(I:Y2->Υ) (S:Υ),Fits S w/\(o.ZS≠none->o.X1 o.L S)/\(o.ZS=none->S=Υ.empty)/\Apart (c.H (.inl i)) S/\Apart (c.H (.inr s)) S/\
   I (.inl i)=join (join (c.H (.inl i)) (c.H (.inr s))) S/\(∀j,j≠i->I (.inl j)=c.H (.inl j))/\(∀m,o.ZS=some m->I (.inr m)=Υ.empty)/\(∀b,b≠s->o.ZS≠some b->I (.inr b)=c.H (.inr b))/\
   VJ I c.Z8 (upd c.O s (some o)) ZB.heap.size/\Wx I c.Z8 (upd c.O s (some o)) ZB w/\∀a,YB (t++#[y]) (U5 (Zn c.tok i s (.par n 0 .YG)) (upd c.O s (some o)) (t++#[y]) a) (I a):=by
  have aG:∀r q,upd c.O s (some o) r=some q->At r q w:=λr q C=>by
   rcases Ut l C with⟨rfl,rfl⟩|⟨_,V⟩
   .exact h.mem.X0 _ _ l
   .exact h.mem.X0 _ _ V
  have aH:YB (t++#[y]) (Knows (t++#[y]) i) (join (c.H (.inl i)) (c.H (.inr s))):=
   ((h.Zr.perms (.inl i)).own (λM E=>by simp at E;subst E;rfl)).join ((h.Zr.perms (.inr s)).acquire h.Zr.norel l aq (by rw[W];simp) U U aA)
  have aI:VJ (Zz (Zz c.H (.inl i) (join (c.H (.inl i)) (c.H (.inr s)))) (.inr s) Υ.empty) c.Z8 (upd c.O s (some o)) ZB.heap.size:=
   h.hold.two Ω (Sub.refl _) (Sub.empty _) (Apart.P6 _) ag λx ar=>by
    rcases ar with e|e
    .cases e;exact⟨s,o,l,aq⟩
    .cases e
  have aJ:Wx (Zz (Zz c.H (.inl i) (join (c.H (.inl i)) (c.H (.inr s)))) (.inr s) Υ.empty) c.Z8 (upd c.O s (some o)) ZB w:=h.mem.two (Ky (h.mem.fit _) (h.mem.fit _)) (Nf w) aG
  have n0:(Sum.inl i:Y2)≠.inr s:=Ω;cases ah:o.ZS with
  | none=>
   refine⟨Zz (Zz c.H (.inl i) (join (c.H (.inl i)) (c.H (.inr s)))) (.inr s) Υ.empty,Υ.empty,Nf w,λx=>absurd U x,λ_=>rfl,Apart.P6 _,Apart.P6 _,?_,λj d=>?_,λm ai=>(by cases ai),λb hb _=>?_,aI,aJ,λa=>?_⟩
   .rw[Zy _ _ n0,Yr,M9]
   .have X:(Sum.inl j:Y2)≠.inl i:=λe=>d (by cases e;rfl);rw[Zy _ _ Ω,Zy _ _ X]
   .have X:(Sum.inr b:Y2)≠.inr s:=λe=>hb (by cases e;rfl);rw[Zy _ _ X,Vt]
   .by_cases J:a=.inr s
    .subst J;rw[Yr];exact YB.empty
    .rw[Zy _ _ J];by_cases F:a=.inl i
     .subst F;rw[Yr];exact aH
     .rw[Zy _ _ F];exact h.Zr.L1 a U ag aB
  | some m=>
   have ai:Yc s o.toSpec m:=.inr ah
   have bg:m≠s:=h.hold.QY s o m l ah
   have aK:(Sum.inr m:Y2)≠.inr s:=λe=>bg (by cases e;rfl)
   have aL:(Sum.inl i:Y2)≠.inr m:=Ω
   have bh:∀j k L g,c.tok j s≠.ch k (.YJ L) g:=λj k L g d=>by
    rcases h.Zd.Rx j s k _ g o l d (by rw[ay j k _ g d];simp) with e|⟨e,_⟩<;>cases e
   have bi:=h.X8.QW s o m l ah az bh
   have bj:Apart (c.H (.inr s)) (c.H (.inr m)):=h.hold.apart _ _ (YV aK)
   have bk:Apart (c.H (.inl i)) (c.H (.inr m)):=h.hold.apart _ _ aL
   have bl:Zz (Zz c.H (.inl i) (join (c.H (.inl i)) (c.H (.inr s)))) (.inr s) Υ.empty (.inl i)=join (c.H (.inl i)) (c.H (.inr s)):=by rw[Zy _ _ n0,Yr]
   have bm:Zz (Zz c.H (.inl i) (join (c.H (.inl i)) (c.H (.inr s)))) (.inr s) Υ.empty (.inr m)=c.H (.inr m):=by rw[Zy _ _ aK,Vt]
   have bn:=aI.two (a:=.inl i) (b:=.inr m) (A:=join (join (c.H (.inl i)) (c.H (.inr s))) (c.H (.inr m))) (B:=Υ.empty) (O':=upd c.O s (some o)) Ω (by rw[bl,bm];exact Sub.refl _) (Sub.empty _) (Apart.P6 _) ⟨λs o' ad=>⟨o',ad,U⟩,λs o' ad=>⟨o',ad,U⟩⟩ λx ar=>by
    rcases ar with e|e
    .cases e;exact⟨s,o,upd_same ..,ai⟩
    .cases e
   have bo:=aJ.two (a:=.inl i) (b:=.inr m) (A:=join (join (c.H (.inl i)) (c.H (.inr s))) (c.H (.inr m))) (B:=Υ.empty) (O':=upd c.O s (some o)) (Ky (Ky (h.mem.fit _) (h.mem.fit _)) (h.mem.fit _)) (Nf w) aG;refine⟨_,c.H (.inr m),h.mem.fit _,λ_=>bi,λx=>(by cases x),bk,bj,?_,λj d=>?_,λaf aj=>?_,λb hb bp=>?_,bn,bo,λa=>?_⟩
   .rw[Zy _ _ aL,Yr]
   .have X:(Sum.inl j:Y2)≠.inl i:=λe=>d (by cases e;rfl);rw[Zy _ _ Ω,Zy _ _ X,Zy _ _ Ω,Zy _ _ X]
   .cases aj;rw[Yr]
   .have X:(Sum.inr b:Y2)≠.inr s:=λe=>hb (by cases e;rfl)
    have bq:(Sum.inr b:Y2)≠.inr m:=λe=>bp (by cases e;rfl);rw[Zy _ _ bq,Vt,Zy _ _ X,Vt]
   .by_cases aM:a=.inr m
    .subst aM;rw[Yr];exact YB.empty
    .rw[Zy _ _ aM];by_cases F:a=.inl i
     .subst F;rw[Yr];refine aH.join ((h.Zr.perms (.inr m)).SD U λk ab=>?_);rcases ab with⟨p,M,K,N,ae,ak⟩|ab
      .obtain⟨br,aD⟩:=h.Ww.Nc s o m l ah p M K N;obtain⟨_,_,bs,bt⟩:=aC M.g br;have hb:=(aD bs).app #[y];refine Knows.of_before ?_ bt;rcases hb with e|hb
       .rw[<-e];exact ak.app _
       .exact .inr ((ak.app #[y]).hb hb)
      .exact(ab s o l ai i (by rw[W];simp)).app _
     .rw[Zy _ _ F];by_cases J:a=.inr s
      .subst J;rw[Yr];exact YB.empty
      .rw[Zy _ _ J,Zy _ _ F];exact h.Zr.L1 a U ag aB
 have bu:Apart (c.H (.inl i)) (c.H (.inr s)):=h.hold.apart _ _ Ω
 have bv:=aX o.R o.L (c.H (.inr s)) S a1 a6 (λx=>⟨a2 x,a8 x⟩) a9 bu a' ba ⟨w,h.mem.fit _,h.mem.fit _,a7⟩
 let al:Z5:={c.x i with G:=join (join (c.H (.inl i)) (c.H (.inr s))) S,tok:=upd (c.tok i) s (.par n 0 .YG),view:=upd (c.view i) s none}
 let c':YI:={c with H:=I,tok:=Zn c.tok i s (.par n 0 .YG),view:=upd c.view i (upd (c.view i) s none),O:=upd c.O s (some o),T:=upd c.T i (f (i==0,g',al))}
 have bw:c'.x i=al:=by simp[c',al,YI.x,upd_same,M',bb]
 have am:∀j r,¬(j=i/\r=s)->Zn c.tok i s (.par n 0 .YG) j r=c.tok j r:=λj r e=>XT _ e
 have aN:∀r q b,c.O r=some q->r≠s->Yc r q.toSpec b->b≠s/\o.ZS≠some b:=λr q b C aO hb=>⟨λe=>aO (h.hold.Uu r s q o b C l hb (.inl e)),λe=>aO (h.hold.Uu r s q o b C l hb (.inr e))⟩;refine VU.go (c':=c') ao ad ?_ _ U;rw[ofEvents_one];refine h.laid (c':=c') ao be bd (h.Zr.word (i:=i) U (.inl U) (h.low l aq) ag (λ_ _ _ x=>x) bf) (h.Zd.gtake l W ap) ⟨λr q af C aj Y bx=>?_,λr q C Y=>?_⟩ ?_
  (h.Ww.app h.Zr.low (λM E b hb=>by simp at E;subst E;cases hb) (λj b v hv=>.inl ⟨v,hv⟩) (λr q C=>?_) (λj r aa bz g e=>Kt W (λk m g e=>?_) j r aa bz g e))
  ⟨g',?_,.inl U⟩ (λj d=>⟨?_,upd_ne _ _ d⟩) (.inr λj r q _ a b=>?_)
 .rcases Ut l C with⟨rfl,rfl⟩|⟨e,V⟩
  .exact absurd (XH ..) (Y i n 0)
  .obtain⟨F,J⟩:=aN r q af V e (.inr aj);show q.X1 q.L (I (.inr af));rw[aF af F J];exact h.X8.QW r q af V aj (λj q p x=>Y j q p (by show Zn c.tok i s _ j r=_;rw[am j r (λy=>e y.2)];exact x)) λj k L g x=>bx j k L g (by show Zn c.tok i s _ j r=_;rw[am j r (λy=>e y.2)];exact x)
 .rcases Ut l C with⟨rfl,rfl⟩|⟨e,V⟩
  .exact absurd (XH ..) (Y i n 0)
  .obtain⟨F,J⟩:=aN r q r V e (.inl U);show TO q.D q.R (I (.inr r));rw[aF r F J];exact h.X8.Rv r q V (λj q p x=>Y j q p (by show Zn c.tok i s _ j r=_;rw[am j r (λy=>e y.2)];exact x))
 .refine⟨λaa g' au=>?_,λj Z d=>?_,λj Z d Y=>?_,λj Z d a b=>(h.Yh.c3 j Z d a b).app _⟩
  .obtain⟨M,E,an⟩:=Uh.1 au;rcases getElem?_append_cases E with⟨_,av⟩|⟨_,aw⟩
   .exact h.Yh.P4 aa g' (by simp[Trace.g?,av,an])
   .simp at aw;subst aw;rw[<-an];exact aY
  .obtain⟨M,K,N,ae,ak,bA⟩:=h.Yh.c1 j Z d;have aP:=lt_size_of_getElem? K;refine⟨M,by rw[getElem?_append_old aP];exact K,N,ae,(heard_old aP).2 ak,λaa au aQ=>?_⟩;obtain⟨bK,E,an⟩:=Uh.1 au;rcases getElem?_append_cases E with⟨bB,av⟩|⟨bC,aw⟩
   .exact(bA aa (by simp[Trace.g?,av,an]) ((Kx bB).1 aQ)).app _
   .exact absurd aQ (L2 (u:=#[y]) (λM E=>by simp at E;subst E;rfl) aa bC)
  .obtain⟨q,p,C⟩:=Y;by_cases e:c.Zo (c.home j)=i/\c.home j=s
   .obtain⟨F,J⟩:=e;show Knows _ (c.Zo (c.home j)) (c.XU j);rw[F];have bD:j<gs.size:=by
     obtain⟨M,K,N,_⟩:=h.Yh.c1 j Z d;exact h.Yh.P4 (c.XU j) j (by simp[Trace.g?,K,N])
    obtain⟨bE,bF,bG,aR⟩:=h.Zd.QX j Z bD;rw[J] at aR;exact(aC j ⟨bE,bF,bG,aR⟩).2.2.2
   .refine(h.Yh.c2 j Z d ⟨q,p,?_⟩).app _;have:Zn c.tok i s (.par n 0 .YG) (c.Zo (c.home j)) (c.home j)=.par q p .YG:=C
    rwa [am _ _ e] at this
 .rcases Ut l C with⟨rfl,rfl⟩|⟨_,V⟩
  .exact⟨_,l,U⟩
  .exact⟨q,V,U⟩
 .cases e
 .rw[bw];show U7 P Q (upd c.T i (f (i==0,g',al)) i) _ _ _;rw[upd_same];exact bv
 .simp[c',YI.x,upd_ne _ _ d,O7 _ d,bc j d]
 .exact⟨q,by show upd c.O s (some o) r=some q;rw[Iz l];exact a,b⟩
end
section
variable {n:Nat} {tok:Nat->Nat->Tok} {spec:Nat->Nat->Option Spec} {view:Nat->Nat->Option (Nat×γ)} {rel:Nat->Bool} {O:Nat->Option γ} {Zo home:Nat->Nat} {s i:Nat} {o:γ}
theorem XZ.fork (h:XZ n tok spec view rel O Zo home) (J:O s=some o) {q p:Nat} (v:tok i s=.par q (p+1) .add) :
  XZ (n+1) (upd (Zn tok i s (.par q p .add)) n (upd (λ_=>.nil) s (.ch (q-(p+1)) .idle .work))) (upd spec n (upd (λ_=>none) s (some o.toSpec))) (upd (upd view i (upd (view i) s none)) n λ_=>none) (upd rel n false) O Zo (upd home n s):=by
 have ah:i<n:=h.lt (s:=s) (by rw[v];simp)
 have V:n≠i:=I
 have P:=h.par i s q (p+1) .add v
 have W:=(h.Wj s o J).2
 have ar:p+1<=q:=by
  have F:ZQ n (λa=>tok a s) VL=q:=by
   rw[QZ (φ:=VL) (λt v=>by cases t<;>simp_all [XX,VL]) W.Sg ah (by rw[v];rfl),v];rfl
  have u:ZQ n (λa=>tok a s) Wk=p+1:=by
   rw[QZ (φ:=Wk) (λt v=>by cases t<;>simp_all [XX,Wk]) W.Sg ah (by rw[v];rfl),v];rfl
  have:=W.C5;omega
 generalize S:upd (Zn tok i s (.par q p .add)) n (upd (λ_=>.nil) s (.ch (q-(p+1)) .idle .work))=A;have Q:A n s=.ch (q-(p+1)) .idle .work:=by rw[<-S,upd_same,upd_same]
 have X:∀r,r≠s->A n r=.nil:=λr l=>by rw[<-S,upd_same,upd_ne _ _ l]
 have Y:A i s=.par q p .add:=by rw[<-S,upd_ne _ _ (YV V),XH]
 have to:∀j r,j≠n->¬(j=i/\r=s)->A j r=tok j r:=λj r D H=>by rw[<-S,upd_ne _ _ D,XT _ H]
 have ai:∀j r,r≠s->A j r=tok j r:=λj r l=>by
  by_cases e:j=n
  .subst e;rw[X r l,h.out _ r (ZY _)]
  .exact to j r e λx=>l x.2
 have aj:(λj=>A j s)=upd (upd (λj=>tok j s) i (.par q p .add)) n (.ch (q-(p+1)) .idle .work):=by
  funext j
  by_cases e:j=n
  .subst e;rw[Q,upd_same]
  .rw[upd_ne _ _ e];by_cases d:j=i
   .subst d;rw[Y,upd_same]
   .rw[upd_ne _ _ d,to j s e λx=>d x.1]
 have ak:∀r,r≠s->(λj=>A j r)=λj=>tok j r:=λr l=>funext λj=>ai j r l
 have K:∀r,(λj=>tok j r) n=.nil:=λr=>h.out n r (ZY _)
 have E:∀j r k m g,A j r=.ch k m g->(j=n/\r=s/\k=q-(p+1)/\m=.idle/\g=.work)\/(j≠n/\¬(j=i/\r=s)/\tok j r=.ch k m g):=λj r k m g c=>by
  by_cases e:j=n
  .subst e;by_cases d:r=s
   .subst d;rw[Q] at c;cases c;exact .inl ⟨U,U,U,U,U⟩
   .rw[X r d] at c;cases c
  .by_cases d:j=i/\r=s
   .obtain⟨rfl,rfl⟩:=d;rw[Y] at c;cases c
   .rw[to j r e d] at c;exact .inr ⟨e,d,c⟩
 have Z:∀j r m w B,A j r=.par m w B->(j=i/\r=s/\m=q/\w=p/\B=.add)\/(j≠n/\r≠s/\tok j r=.par m w B)\/(j≠n/\j≠i/\r=s/\tok j r=.par m w B):=λj r m w B c=>by
  by_cases e:j=n
  .subst e;by_cases d:r=s
   .subst d;rw[Q] at c;cases c
   .rw[X r d] at c;cases c
  .by_cases d:j=i/\r=s
   .obtain⟨rfl,rfl⟩:=d;rw[Y] at c;cases c;exact .inl ⟨U,U,U,U,U⟩
   .rw[to j r e d] at c;by_cases u:r=s
    .exact .inr (.inr ⟨e,λx=>d ⟨x,u⟩,u,c⟩)
    .exact .inr (.inl ⟨e,u,c⟩)
 have aa:∀j r k m g,tok j r=.ch k m g->j≠n/\A j r=.ch k m g:=λj r k m g c=>by
  have T:j≠n:=λe=>by rw[e,h.out n r (ZY _)] at c;cases c
  refine⟨T,?_⟩;rw[to j r T λe=>?_]
  .exact c
  .obtain⟨rfl,rfl⟩:=e;rw[v] at c;cases c
 have au:X6 (n+1) o (λj=>A j s)<X6 n o (λj=>tok j s):=by
  rw[aj,<-CY (N:=n) (τ:=λj=>tok j s) (K s)];exact x7 (N:=n+1) I I (YV V) v (K s) _
 refine⟨λr y l=>?_,λr l j=>?_,λj r c=>?_,λj r sp c=>?_,λj r φ R c=>?_,λj r k L g y ab c=>?_,λj r m w B c=>?_,λj r k m g c=>?_,λj ad c=>?_,λj k m g ad c=>?_,?_,λj r c l=>?_,λj r k m g y ab c al=>?_,λr j ae k m g af g' D H=>?_,λr j k m g y w B D H=>?_,λr y l=>?_,λr y l=>?_⟩
 .by_cases e:r=s
  .subst e;rw[J] at l;cases l;rw[aj];exact x8 (CZ (h.Wj r o J) (K r)) I I (YV V) v (K r) _
  .rw[ak r e];exact CZ (h.Wj r y l) (K r)
 .have e:r≠s:=λe=>by rw[e,J] at l;cases l
  rw[ai j r e];exact h.bare r l j
 .rw[to j r I (λx=>I)];exact h.out j r I
 .by_cases e:j=n
  .subst e;rw[upd_same] at c;by_cases d:r=s
   .subst d;rw[upd_same] at c;cases c;exact⟨o,J,U⟩
   .rw[upd_ne _ _ d] at c;cases c
  .rw[upd_ne _ _ e] at c;exact h.P9 j r sp c
 .have am:∀j r φ R,view j r=some (φ,R)->∃M,O r=some M/\X6 (n+1) M (λa=>A a r)<=φ/\(X6 (n+1) M (λa=>A a r)=φ->M=R):=λj r φ R hv=>by
   obtain⟨M,D,H,f⟩:=h.Nh j r φ R hv;refine⟨M,D,?_⟩;by_cases e:r=s
   .subst e;rw[J] at D;cases D;exact⟨I,λx=>I⟩
   .rw[ak r e,CY (N:=n) (τ:=λj=>tok j r) (K r)];exact⟨H,f⟩
  by_cases e:j=n
  .subst e;rw[upd_same] at c;cases c
  .rw[upd_ne _ _ e] at c;by_cases d:j=i
   .subst d;rw[upd_same] at c;by_cases u:r=s
    .subst u;rw[upd_same] at c;cases c
    .rw[upd_ne _ _ u] at c;exact am _ _ _ _ c
   .rw[upd_ne _ _ d] at c;exact am _ _ _ _ c
 .rcases E j r k _ g c with⟨_,_,_,C,_⟩|⟨_,_,f⟩
  .cases C
  .exact h.YJ j r k L g y ab f
 .rcases Z j r m w B c with⟨rfl,rfl,_⟩|⟨_,_,f⟩|⟨_,_,_,f⟩
  .exact P
  .exact h.par j r m w B f
  .exact h.par j r m w B f
 .rcases E j r k m g c with⟨rfl,rfl,_⟩|⟨T,_,f⟩
  .exact⟨I,upd_same ..,I⟩
  .obtain⟨ao,ap,ag⟩:=h.Rz j r k m g f;exact⟨ao,by rw[upd_ne _ _ T];exact ap,ag⟩
 .by_cases e:j=n
  .subst e;rw[upd_same];exact⟨_,_,_,Q⟩
  .rw[upd_ne _ _ e];obtain⟨k,m,g,D⟩:=h.QX j ad I;exact⟨k,m,g,(aa j _ k m g D).2⟩
 .by_cases e:j=n
  .subst e;rw[upd_same] at c;rw[Q] at c;cases c;rw[upd_same];simp
  .rw[upd_ne _ _ e] at c;rw[upd_ne _ _ e];rcases E j _ k m g c with⟨x,_⟩|⟨_,_,f⟩
   .exact absurd x e
   .exact h.W2 j k m g ad f
 .rw[upd_ne _ _ (show(0:Nat)≠n by omega)];exact h.Od
 .by_cases e:j=n
  .subst e;rw[upd_same] at c;cases c
  .rw[upd_ne _ _ e] at c l;have:=h.Ry j r c l;rw[to j r e λx=>?_]
   .exact this
   .obtain⟨rfl,rfl⟩:=x;rw[v] at this;exact this
 .rcases E j r k m g c with⟨_,_,_,_,C⟩|⟨_,_,f⟩
  .exact absurd C al
  .exact h.Rx j r k m g y ab f al
 .have an:∀j k m g,tok j s=.ch k m g->k<q-(p+1):=λj k m g c=>by
   have:=h.Oc s j k m g q (p+1) .add c (by rw[<-P];exact v);omega
  rcases E j r k m g D with⟨rfl,rfl,ag,_⟩|⟨_,_,f⟩<;>rcases E ae r k af g' H with⟨rfl,aq,av,_⟩|⟨_,_,C⟩
  .rfl
  .have:=an ae k af g' C;omega
  .subst aq;have:=an j k m g f;omega
  .exact h.Ng r j ae k m g af g' f C
 .rcases E j r k m g D with⟨_,rfl,ag,_⟩|⟨_,_,f⟩
  .rcases Z _ r y w B H with⟨_,_,rfl,rfl,_⟩|⟨_,x,_⟩|⟨_,x,_⟩
   .omega
   .exact absurd U x
   .exact absurd P.symm x
  .rcases Z _ r y w B H with⟨_,rfl,rfl,rfl,_⟩|⟨_,_,C⟩|⟨_,x,rfl,C⟩
   .have:=h.Oc r j k m g y (w+1) .add f (by rw[<-P];exact v);omega
   .exact h.Oc r j k m g y w B f C
   .exact absurd P.symm x
 .obtain⟨a,b⟩:=h.Rw r y l;refine⟨a,λk=>(b k).trans ⟨λ⟨j,m,g,F,u⟩=>⟨j,m,g,(aa j r k m g F).2,u⟩,λ⟨j,m,g,F,u⟩=>?_⟩⟩;rcases E j r k m g F with⟨_,_,_,C,_⟩|⟨_,_,f⟩
  .subst C;exact u.elim
  .exact⟨j,m,g,f,u⟩
 .obtain⟨a,b⟩:=h.P8 r y l;refine⟨a,λk=>(b k).trans ⟨λ⟨j,m,g,F,u⟩=>⟨j,m,g,(aa j r k m g F).2,u⟩,λ⟨j,m,g,F,u⟩=>?_⟩⟩;rcases E j r k m g F with⟨_,_,_,_,C⟩|⟨_,_,f⟩
  .exact absurd C u
  .exact⟨j,m,g,f,u⟩
def γ.new (sp:Spec):γ:={toSpec:=sp,Y4:=0,wk:=0,sv:=0,nw:=0,Yz:=0,L:=[],cnt:=0,wt:=0,YM:=0,R:=[]}
theorem xL (N:Nat) (φ:Tok->Nat) (a:φ .nil=0):ZQ N (λ_=>.nil) φ=0:=by
 induction N with
 | zero=>rfl
 | succ N b=>rw[Nj,b,a]
theorem XZ.xK (h:XZ n tok spec view rel O Zo home) (E:O s=none) (P:i<n) (f:rel i=false) (sp:Spec) :
  XZ n (Zn tok i s (.par 0 0 .add)) (upd spec i (upd (spec i) s (some sp))) (upd view i (upd (view i) s none)) rel (upd O s (some (γ.new sp))) (upd Zo s i) home:=by
 have y:=h.bare s E
 have W:∀j,j≠0->j<n->home j≠s:=λj A c e=>by
  obtain⟨k,m,g,l⟩:=h.QX j A c;rw[e,y j] at l;cases l
 have Q:(λj=>Zn tok i s (.par 0 0 .add) j s)=upd (λ_=>.nil) i (.par 0 0 .add):=by
  rw[CM];have:(λj=>tok j s)=λ_=>.nil:=funext y;rw[this]
 have H:∀j r,r≠s->Zn tok i s (.par 0 0 .add) j r=tok j r:=λj r f=>XT _ λx=>f x.2
 have t:∀j r k m g,Zn tok i s (.par 0 0 .add) j r=.ch k m g↔tok j r=.ch k m g:=λj r k m g=>by
  by_cases e:j=i/\r=s
  .obtain⟨rfl,rfl⟩:=e;rw[XH,y];simp
  .rw[XT _ e]
 have v:∀j k m g,tok j s≠.ch k m g:=λj k m g e=>by rw[y] at e;cases e
 have B:∀r q,upd O s (some (γ.new sp)) r=some q->(r=s/\q=γ.new sp)\/(r≠s/\O r=some q):=λr q o=>by
  by_cases e:r=s
  .subst e;rw[upd_same] at o;cases o;exact .inl ⟨U,U⟩
  .rw[upd_ne _ _ e] at o;exact .inr ⟨e,o⟩
 have one:∀φ:Tok->Nat,φ .nil=0->ZQ n (upd (λ_=>.nil) i (.par 0 0 .add)) φ=φ (.par 0 0 .add):=λφ J=>by
  have e:=W0 (N:=n) (λ_=>.nil) (.par 0 0 .add) φ P;rw[xL n φ J] at e;simp only[J] at e;omega
 refine⟨λr q o=>?_,λr f j=>?_,λj r c=>?_,λj r K c=>?_,λj r φ C c=>?_,λj r k L g q o c=>?_,λj r m p F c=>?_,λj r k m g c=>?_,λj A c=>?_,λj k m g A c=>?_,h.Od,λj r c R=>?_,λj r k m g q o c S=>?_,λr j T k m g V g' l D=>?_,λr j k m g q p F l D=>?_,λr q f=>?_,λr q f=>?_⟩
 .rcases B r q o with⟨rfl,rfl⟩|⟨e,u⟩
  .rw[Q];constructor
   .unfold Q1;rw[one VM U,one Sj U,one Tk U,one TS U,one SG U,one TR U,one Qa U,one Si U,one Qb U];constructor<;>simp[γ.new,VM,Sj,Tk,TS,SG,TR,Qa,Si,Qb]
   .unfold RF;rw[one Vn U,one UI U,one UH U,one TQ U,one XX U,one Wk U,one VL U,one Tj U,one TP U,one VK U];constructor<;>simp[γ.new,Vn,UI,UH,TQ,XX,Wk,VL,Tj,TP,VK]
  .rw[FL _ _ _ _ e];exact h.Wj r q u
 .have e:r≠s:=λe=>by rw[e,upd_same] at f;cases f
  rw[upd_ne _ _ e] at f;rw[H j r e];exact h.bare r f j
 .rw[XT _ (λx=>I)];exact h.out j r c
 .by_cases e:j=i
  .subst e;rw[upd_same] at c;by_cases d:r=s
   .subst d;rw[upd_same] at c;cases c;exact⟨_,upd_same ..,U⟩
   .rw[upd_ne _ _ d] at c;obtain⟨q,a,b⟩:=h.P9 j r K c;exact⟨q,by rw[upd_ne _ _ d];exact a,b⟩
  .rw[upd_ne _ _ e] at c;obtain⟨q,a,b⟩:=h.P9 j r K c;have d:r≠s:=λd=>by rw[d,E] at a;cases a
   exact⟨q,by rw[upd_ne _ _ d];exact a,b⟩
 .have M:∀j r φ C,view j r=some (φ,C)->∃w,upd O s (some (γ.new sp)) r=some w/\X6 n w (λa=>Zn tok i s (.par 0 0 .add) a r)<=φ/\(X6 n w (λa=>Zn tok i s (.par 0 0 .add) a r)=φ->w=C):=λj r φ C hv=>by
   obtain⟨w,a,b⟩:=h.Nh j r φ C hv;have d:r≠s:=λd=>by rw[d,E] at a;cases a
   exact⟨w,by rw[upd_ne _ _ d];exact a,by rw[FL _ _ _ _ d];exact b⟩
  by_cases e:j=i
  .subst e;rw[upd_same] at c;by_cases d:r=s
   .subst d;rw[upd_same] at c;cases c
   .rw[upd_ne _ _ d] at c;exact M _ _ _ _ c
  .rw[upd_ne _ _ e] at c;exact M _ _ _ _ c
 .rw[t] at c;rcases B r q o with⟨rfl,rfl⟩|⟨e,u⟩
  .exact absurd c (v _ _ _ _)
  .exact h.YJ j r k L g q u c
 .by_cases e:j=i/\r=s
  .obtain⟨rfl,rfl⟩:=e;rw[upd_same]
  .rw[XT _ e] at c;have d:r≠s:=λd=>by rw[d,y] at c;cases c
   rw[upd_ne _ _ d];exact h.par j r m p F c
 .rw[t] at c;have d:r≠s:=λd=>by rw[d] at c;exact v _ _ _ _ c
  rw[upd_ne _ _ d];exact h.Rz j r k m g c
 .obtain⟨k,m,g,l⟩:=h.QX j A c;exact⟨k,m,g,(t _ _ _ _ _).2 l⟩
 .rw[t] at c;exact h.W2 j k m g A c
 .have e:j≠i:=λe=>by rw[e,f] at c;cases c
  rw[O7 _ e];exact h.Ry j r c R
 .rw[t] at c;rcases B r q o with⟨rfl,rfl⟩|⟨e,u⟩
  .exact absurd c (v _ _ _ _)
  .exact h.Rx j r k m g q u c S
 .rw[t] at l D;exact h.Ng r j T k m g V g' l D
 .rw[t] at l;have d:r≠s:=λd=>by rw[d] at l;exact v _ _ _ _ l
  rw[upd_ne _ _ d,H _ _ d] at D;exact h.Oc r j k m g q p F l D
 .simp only[t];rcases B r q f with⟨rfl,rfl⟩|⟨e,u⟩
  .exact⟨List.nodup_nil,λk=>⟨λx=>(by cases x),λ⟨j,m,g,x,_⟩=>absurd x (v _ _ _ _)⟩⟩
  .exact h.Rw r q u
 .simp only[t];rcases B r q f with⟨rfl,rfl⟩|⟨e,u⟩
  .exact⟨List.nodup_nil,λk=>⟨λx=>(by cases x),λ⟨j,m,g,x,_⟩=>absurd x (v _ _ _ _)⟩⟩
  .exact h.P8 r q u
end
theorem xJ (t:Trace) (u:Trace) {k:Nat} (b:∀a∈u,a.g≠k):Deaf (t++u) k=Deaf t k:=by
 obtain⟨l⟩:=u;rw[Deaf_append]
 induction l generalizing t with
 | nil=>rfl
 | cons y l d=>
  have e:y.g≠k:=b y Ω
  have f:deafStep k (Deaf t k) y=Deaf t k:=by
   unfold deafStep;split<;>simp[e]
  rw[List.foldl_cons,f];exact d t (λa c=>b a (by simp at c ⊢;exact .inr c))
theorem xI {i:Bool} {t:Trace} {y z:MemOp} (h:¬Race i t) (nt:∀d∈(#[y,z]:Trace),d.act.touch?=none):¬Race i (t++#[y,z]):=by
 have e:t++#[y,z]=(t++#[y])++#[z]:=by rw[Nv];rfl
 rw[e];refine noRace_append (g:=z.g) (noRace_append (g:=y.g) h (λd c=>by simp at c;rw[c]) λk a _ d c b f _=>?_) (λd c=>by simp at c;rw[c]) λk a _ d c b f _=>?_
 .simp at c;subst c;rw[nt d Ω] at f;cases f
 .simp at c;subst c;rw[nt d Ω] at f;cases f
section
variable {P:Program} {Q:Value->Prop} {ZB:World} {c c':YI} {gs:Array Goroutine} {w w':World} {t:Trace} {i:Nat} {g g':Goroutine} {es:Array Event}
variable {f:Bool×Goroutine×Z5->W3 (Bool×Goroutine×Z5)}
theorem Inv.FG (h:Inv P Q ZB c gs w t) (az:gs[i]?=some g) (C:CP P (i==0) (TN P Q f) g (c.x i)):VU P Q ZB c gs w t i f:=by
 obtain⟨s,sp,n,p,g',S,Z,aa,ap,V,ag,br,bs,aR,aS,W,aT,aU⟩:=C;have aV:i<gs.size:=Td az;obtain⟨o,aW,aX⟩:=h.Zd.P9 i s sp ap;subst aX;have ab:c.tok i s=.par n (p+1) .add:=V;have hd:c.deaf i=0:=ag;have bt:c.rel i=false:=aR;have ad:=aS w (h.mem.fit (.inl i));have aY:gs.size≠i:=I;let N:=gs.size;let y:MemOp:={g:=i,fn:=g.frame.fn,pos:=g.frame.place,act:=.go gs.size};let z:MemOp:={g:=gs.size,fn:=S.frame.fn,pos:=g.frame.place,act:=.start};have aZ:Deaf t i=0:=by rw[h.Zr.hears];exact hd
 have aH:Deaf t gs.size=0:=by
  have:=xJ #[] t (k:=gs.size) (λu d e=>by
   obtain⟨k,C⟩:=I4.1 d;have:=h.Yh.P4 k u.g (by simp[Trace.g?,C]);omega)
  rw[Array.empty_append] at this;exact this
 let aq:Z5:={c.x i with G:=Z,tok:=upd (c.tok i) s (.par n p .add),view:=upd (c.view i) s none}
 let ar:Z5:=⟨aa,λ_=>none,upd (λ_=>.nil) s (.ch (n-(p+1)) .idle .work),upd (λ_=>none) s (some o.toSpec),λ_=>none,0,false⟩
 let E:=upd (Zn c.tok i s (.par n p .add)) gs.size (upd (λ_=>.nil) s (.ch (n-(p+1)) .idle .work))
 let c':YI:={c with H:=Zz (Zz c.H (.inl i) Z) (.inl gs.size) aa,Z8:=upd c.Z8 gs.size (λ_=>none),tok:=E,spec:=upd c.spec gs.size (upd (λ_=>none) s (some o.toSpec)),view:=upd (upd c.view i (upd (c.view i) s none)) gs.size λ_=>none,deaf:=upd c.deaf gs.size 0,rel:=upd c.rel gs.size false,home:=upd c.home gs.size s,T:=upd (upd c.T i (f (i==0,g',aq))) gs.size (f (false,S,ar))}
 have a0:=h.Zd.fork aW ab
 have bu:=runT_crowd_spawn (sl:=none) az ad
 have a1:((MemOp.ofEvents i g.frame.fn g.frame.place #[]).push {g:=i,fn:=g.frame.fn,pos:=g.frame.place,act:=.go gs.size} |>.push {g:=gs.size,fn:=S.frame.fn,pos:=g.frame.place,act:=.start})=#[y,z]:=by rw[CG];rfl
 have aI:(Sum.inl i:Y2)≠.inl gs.size:=λe=>aY (by cases e;rfl)
 have a2:∀r,E gs.size r≠.nil->r=s:=λr X=>by
  apply TW;intro e;apply X;show upd (Zn c.tok i s (.par n p .add)) gs.size (upd (λ_=>.nil) s (.ch (n-(p+1)) .idle .work)) gs.size r=.nil;rw[upd_same,upd_ne _ _ e]
 have au:∀j,j≠gs.size->E j=Zn c.tok i s (.par n p .add) j:=λj A=>upd_ne _ _ A
 have a3:∀j r,j≠gs.size->E j r≠.nil->c.tok j r≠.nil:=λj r A X=>by
  rw[au j A] at X;exact Ku ab Ω j r X
 have aA:∀j r q ae,E j r=.par q ae .YG↔c.tok j r=.par q ae .YG:=λj r q ae=>by
  by_cases e:j=gs.size
  .subst e;rw[h.Zd.out gs.size r (ZY _)];show upd (Zn c.tok i s (.par n p .add)) gs.size (upd (λ_=>.nil) s (.ch (n-(p+1)) .idle .work)) gs.size r=_↔_;rw[upd_same];by_cases aJ:r=s
   .subst aJ;rw[upd_same];simp
   .rw[upd_ne _ _ aJ]
  .rw[au j e];exact Iw ab Ω Ω j r q ae
 have a4:∀j r k L g,c.tok j r=.ch k (.YJ L) g->E j r=.ch k (.YJ L) g:=λj r k L g A=>by
  have e:j≠gs.size:=λe=>by rw[e,h.Zd.out _ r (ZY _)] at A;cases A
  rw[au j e,XT _ λx=>?_]
  .exact A
  .obtain⟨rfl,rfl⟩:=x;rw[ab] at A;cases A
 have ah:∀j,j≠gs.size->c'.rel j=c.rel j:=λj A=>upd_ne _ _ A
 have av:∀j,c'.rel j=true->j≠gs.size:=λj A e=>by
  subst e;have:upd c.rel gs.size false gs.size=true:=A;rw[upd_same] at this;cases this
 have aw:∀j b v,upd c.Z8 gs.size (λ_=>none) j b=some v->c.Z8 j b=some v:=λj b v hv=>by
  by_cases e:j=gs.size
  .subst e;rw[upd_same] at hv;cases hv
  .rw[upd_ne _ _ e] at hv;exact hv
 have nt:∀u∈(#[y,z]:Trace),u.act.touch?=none:=λu d=>by simp at d;rcases d with rfl|rfl<;>rfl
 have aB:∀u∈(#[y,z]:Trace),∀m,u.act≠.mark m:=λu d m=>by simp at d;rcases d with rfl|rfl<;>simp[y,z]
 have aK:∀k,Knows t i k->Knows (t++#[y,z]) gs.size k:=λk C=>Knows.spawn C U U U U aZ aH
 have a5:∀a k,U5 c.tok c.O t a k->U5 E c.O (t++#[y,z]) a k:=λa k C=>by
  cases a with
  | inl j=>exact Knows.app _ C
  | inr b=>
   rcases C with⟨p,u,ap,a6,V,ag⟩|C
   .have Y:=lt_size_of_getElem? ap;exact .inl ⟨p,u,by rw[getElem?_append_old Y];exact ap,a6,(heard_old Y).2 V,ag.app _⟩
   .refine .inr λai o' ax K j A=>?_;by_cases e:j=gs.size
    .subst e;have:=a2 ai A;subst this;exact aK k (C _ o' ax K i (by rw[ab];simp))
    .exact(C ai o' ax K j (a3 j ai e A)).app _
 have aL:∀a,YB (t++#[y,z]) (U5 E c.O (t++#[y,z]) a) (c.H a):=λa=>
  (h.Zr.perms a).others (a5 a) λu d x B=>by rw[nt u d] at B;cases B
 have a7:Inv P Q ZB c' ((gs.setIfInBounds i g').push S) w (t++#[y,z]):=by
  have aC:((gs.setIfInBounds i g').push S).size=gs.size+1:=Ω;refine⟨by rw[aC];omega,(h.mem.two (W.l.fits (h.mem.fit (.inl i))) (W.r.fits (h.mem.fit (.inl i))) h.mem.X0).L0 aw,(h.hold.two aI W.l.P5 W.r.P5 W.apart ⟨λs o ad=>⟨o,ad,U⟩,λs o ad=>⟨o,ad,U⟩⟩ λx B=>by rcases B with e|e<;>cases e).L0 aw,?_,by rw[aC];exact a0,?_,?_,?_,?_⟩
  .refine⟨λa8=>xI (h.Zr.race a8) nt,λu d=>?_,λu d a=>?_,λa=>?_,λj b v hv k a C=>?_,λai o' b ax K k a C a9=>?_,λj=>?_⟩
   .rcases RI.1 d with d|d
    .exact h.Zr.low u d
    .simp at d;rcases d with rfl|rfl<;>trivial
   .rcases RI.1 d with d|d
    .exact h.Zr.norel u d a
    .exact aB u d _
   .show YB _ _ (Zz (Zz c.H (.inl i) Z) (.inl gs.size) aa a);by_cases aM:a=.inl gs.size
    .subst aM;rw[Yr];exact(((h.Zr.perms (.inl i)).others aK λu d x B=>by rw[nt u d] at B;cases B):YB _ (Knows _ gs.size) _).sub W.r
    .rw[Zy _ _ aM];by_cases F:a=.inl i
     .subst F;rw[Yr];exact(aL (.inl i)).sub W.l
     .rw[Zy _ _ F];exact aL a
   .have:=aw j b v hv;rcases SH C with af|⟨_,u,d,_,B⟩
    .exact h.Zr.RB j b v this k a af
    .rw[nt u d] at B;cases B
   .rcases SH C with af|⟨_,u,d,_,B⟩
    .rcases h.Zr.cont ai o' b ax K k a af a9 with x|⟨x,a'⟩
     .exact .inl x
     .obtain⟨u,ba,_⟩:=touch_of af;exact .inr ⟨x,by rw[g?_old (lt_size_of_getElem? ba)];exact a'⟩
    .rw[nt u d] at B;cases B
   .have F:Deaf (t++#[y,z]) j=Deaf t j:=by
     have e:t++#[y,z]=(t++#[y])++#[z]:=by rw[Nv];rfl
     rw[e,Deaf_push,Deaf_push];simp[deafStep,y,z]
    rw[F];by_cases e:j=gs.size
    .subst e;rw[aH];exact(upd_same ..).symm
    .rw[h.Zr.hears];exact(upd_ne _ _ e).symm
  .have aN:∀b,Zz (Zz c.H (.inl i) Z) (.inl gs.size) aa (.inr b)=c.H (.inr b):=λb=>by rw[Vt,Vt]
   refine⟨λr q m M aD aj bb=>?_,λr q M aj=>?_⟩
   .show q.X1 q.L (Zz (Zz c.H (.inl i) Z) (.inl gs.size) aa (.inr m));rw[aN];exact h.X8.QW r q m M aD (λj q p x=>aj j q p ((aA j r q p).2 x)) λj k L g x=>bb j k L g (a4 _ _ _ _ _ x)
   .show TO q.D q.R (Zz (Zz c.H (.inl i) Z) (.inl gs.size) aa (.inr r));rw[aN];exact h.X8.Rv r q M (λj q p x=>aj j q p ((aA j r q p).2 x))
  .rw[aC];refine⟨λk a C=>?_,λj ak A=>?_,λj ak A aj=>?_,λj ak A a b=>?_⟩
   .obtain⟨u,d,al⟩:=Uh.1 C;rcases getElem?_append_cases d with⟨_,aE⟩|⟨_,am⟩
    .have:=h.Yh.P4 k a (by simp[Trace.g?,aE,al]);omega
    .simp at am;rcases am with rfl|rfl
     .rw[<-al];show i<gs.size+1;omega
     .rw[<-al];show gs.size<gs.size+1;omega
   .have J:=av j A;rw[ah j J] at A;obtain⟨u,aO,bc,bd,be,bf⟩:=h.Yh.c1 j ak A;have Y:=lt_size_of_getElem? aO;refine⟨u,?_,bc,?_,(heard_old Y).2 be,λaF af aP=>?_⟩
    .show(t++#[y,z])[c.XU j]?=some u;rw[getElem?_append_old Y];exact aO
    .show u.act=.mark (.releaseMerge ⟨upd c.home gs.size s j,0,none⟩);rw[upd_ne _ _ J];exact bd
    .obtain⟨bv,d,al⟩:=Uh.1 af;rcases getElem?_append_cases d with⟨aQ,aE⟩|⟨bg,am⟩
     .exact(bf aF (by simp[Trace.g?,aE,al]) ((Kx aQ).1 aP)).app _
     .exact absurd aP (L2 nt aF bg)
   .have J:=av j A;rw[ah j J] at A;obtain⟨q,ae,M⟩:=aj;have aG:c'.home j=c.home j:=upd_ne _ _ J;rw[aG] at M ⊢;exact(h.Yh.c2 j ak A ⟨q,ae,(aA _ _ _ _).1 M⟩).app _
   .have J:=av j A;rw[ah j J] at A;have aG:c'.home j=c.home j:=upd_ne _ _ J;rw[aG] at a b ⊢;have bh:=av _ b;rw[ah _ bh] at b;exact(h.Yh.c3 j ak A a b).app _
  .refine⟨λr q bi M bj p u Y an=>?_,λj b v hv u d an=>?_⟩
   .rcases getElem?_append_cases Y with⟨aQ,bk⟩|⟨_,am⟩
    .obtain⟨⟨aF,bw,g,V⟩,ag⟩:=h.Ww.Nc r q bi M bj p u bk an;have J:u.g≠gs.size:=λe=>by rw[e,h.Zd.out _ r (ZY _)] at V;cases V
     refine⟨?_,λX=>?_⟩
     .rw[show c'.tok u.g=Zn c.tok i s (.par n _ .add) u.g from au _ J];exact Kt ab (λ_ _ _ e=>by cases e) _ _ _ _ _ V
     .rw[ah _ J] at X;exact(ag X).app _
    .exact absurd an (aB u am _)
   .rcases RI.1 d with d|d
    .exact h.Ww.Nb j b v (aw j b v hv) u d an
    .exact aB u d _ an
  .intro j b K;by_cases e:j=gs.size
   .subst e;rw[Mb] at K;simp at K;subst K;refine⟨S,?_,.inl U⟩;have B:c'.x gs.size=ar:=by simp[c',ar,E,YI.x,upd_same]
    have ao:c'.T gs.size=f (false,S,ar):=upd_same ..
    have aD:(gs.size==0)=false:=by rw[beq_eq_false_iff_ne];exact Nat.ne_of_gt h.pos
    rw[B,ao,aD];exact aU
   .have ay:(gs.setIfInBounds i g')[j]?=some b:=by
     rw[Mb] at K;simpa[e] using K
    by_cases F:j=i
    .subst F;rw[Ts aV] at ay;cases ay;refine⟨g',?_,.inl U⟩;have B:c'.x j=aq:=by simp[c',aq,E,YI.x,upd_same,upd_ne _ _ e,M',Zy _ _ aI]
     have ao:c'.T j=f (j==0,g',aq):=by show upd (upd c.T j _) gs.size _ j=_;rw[upd_ne _ _ e,upd_same]
     rw[B,ao];exact aT
    .rw[UK (YV F)] at ay;obtain⟨bl,bm,bn⟩:=h.Na j b ay;have bo:(Sum.inl j:Y2)≠.inl gs.size:=λx=>e (by cases x;rfl);have bp:(Sum.inl j:Y2)≠.inl i:=λx=>F (by cases x;rfl);have B:c'.x j=c.x j:=by simp[c',E,YI.x,upd_ne _ _ e,upd_ne _ _ F,O7 _ F,Zy _ _ bo,Zy _ _ bp]
     have ao:c'.T j=c.T j:=by show upd (upd c.T i _) gs.size _ j=_;rw[upd_ne _ _ e,upd_ne _ _ F]
     have bq:c'.tok j=c.tok j:=congrArg Z5.tok B;refine⟨bl,by rw[B,ao];exact bm,?_⟩;rw[bq];exact bn
 refine λsl=>⟨c',_,w,_,runT_crowd_spawn az ad,?_,.inr (.inl ⟨Ω,_,_,U⟩)⟩;rw[a1];exact a7
end
theorem xH (sp:Spec):YY (γ.new sp)=0:=by simp[YY,γ.new]
theorem xG (sp:Spec):mwd (γ.new sp)=0:=by simp[mwd,γ.new]
section
variable {P:Program} {Q:Value->Prop} {ZB:World} {c c':YI} {gs:Array Goroutine} {w w':World} {t:Trace} {i:Nat} {g g':Goroutine} {es:Array Event}
variable {f:Bool×Goroutine×Z5->W3 (Bool×Goroutine×Z5)}
theorem Inv.seen (h:Inv P Q ZB c gs w t) (k:gs[i]?=some g)
  (mem:Wx c'.H c'.Z8 c'.O ZB w) (hold:VJ c'.H c'.Z8 c'.O ZB.heap.size) (Zr:Vu c'.H c'.Z8 c'.tok c'.O c'.Zo c'.deaf w.heap.size t)
  (Zd:XZ gs.size c'.tok c'.spec c'.view c'.rel c'.O c'.Zo c'.home) (X8:L5 c'.H c'.tok c'.O) (Yh:Nd gs.size c'.tok c'.rel c'.Zo c'.home c'.XU t) (Ww:O8 c'.Z8 c'.tok c'.O c'.rel c'.XU t)
  (l:Rec P Q c' i g) (m:∀j,j≠i->c'.x j=c.x j/\c'.T j=c.T j) (n:∀s o,c.O s=some o->c'.O s=some o):Inv P Q ZB c' gs w t:=by
 refine⟨h.pos,mem,hold,Zr,Zd,X8,Yh,Ww,λj b a=>?_⟩;by_cases e:j=i
 .subst e;rw[k] at a;cases a;exact l
 .obtain⟨p,r,u⟩:=h.Na j b a;obtain⟨d,v⟩:=m j e;have f:c'.tok j=c.tok j:=congrArg Z5.tok d;refine⟨p,by rw[d,v];exact r,u.imp id λ⟨y,A,s,o,B,C,D⟩=>⟨y,A,s,o,n s o B,by rw[f];exact C,by rw[f];exact D⟩⟩
theorem Inv.xF (h:Inv P Q ZB c gs w t) (ah:gs[i]?=some g) {b:Nat} {cs:ν} {I:TypeId} (J:c.Z8 i b=some (cs,I)) {D:Z5}
  (ai:D={c.x i with Z8:=upd (c.Z8 i) b none,G:=⟨λd o=>if d=b then(cs[o]?).map (·,true) else(c.H (.inl i)).ω d o,λd=>if d=b then some (I,cs.size) else(c.H (.inl i)).row d,(c.H (.inl i)).obj⟩}) (aj:TN P Q f (i==0) g D):Ix P Q ZB c gs w t i f:=by
 let G':Υ:=⟨λd o=>if d=b then(cs[o]?).map (·,true) else(c.H (.inl i)).ω d o,λd=>if d=b then some (I,cs.size) else(c.H (.inl i)).row d,(c.H (.inl i)).obj⟩;obtain⟨f1,f2,f3⟩:=h.hold.fresh i b _ J;have R:=h.mem.Tf i b cs I J;have E:∀d o,d≠b->G'.ω d o=(c.H (.inl i)).ω d o:=λd o e=>by simp[G',e]
 have ak:∀o,G'.ω b o=(cs[o]?).map (·,true):=λo=>by simp[G']
 have Z:∀d o,d≠b->(G'.has d o↔(c.H (.inl i)).has d o):=λd o e=>by unfold Υ.has;rw[E d o e]
 have aa:∀d o,d≠b->(G'.owns d o↔(c.H (.inl i)).owns d o):=λd o e=>by unfold Υ.owns;rw[E d o e]
 have al:∀d,G'.XI d↔(c.H (.inl i)).XI d:=λd=>Iff.rfl
 have ab:∀d,d≠b->(c.H (.inl i)).off d->G'.off d:=λd e n=>⟨λo am=>n.1 o ((Z d o e).1 am),n.2⟩
 let c':YI:={c with H:=Zz c.H (.inl i) G',Z8:=upd c.Z8 i (upd (c.Z8 i) b none),T:=upd c.T i (f (i==0,g,D))}
 have B:∀j d v,upd c.Z8 i (upd (c.Z8 i) b none) j d=some v->c.Z8 j d=some v/\d≠b:=λj d v hv=>by
  by_cases e:j=i
  .subst e;rw[upd_same] at hv;by_cases m:d=b
   .subst m;rw[upd_same] at hv;cases hv
   .rw[upd_ne _ _ m] at hv;exact⟨hv,m⟩
  .rw[upd_ne _ _ e] at hv;exact⟨hv,λm=>by rw[m,f3 j e] at hv;cases hv⟩
 have an:∀s o d,c.O s=some o->Yc s o.toSpec d->d≠b:=λs o d K C e=>by
  have:=(h.hold.U6 s o d K C).2.2 i;rw[e,J] at this;cases this
 have ad:∀k,k≠.inl i->Apart G' (c.H k):=λk ao=>by
  have a:=h.hold.apart _ _ (YV ao);refine⟨λd o x y=>?_,λd o x y=>?_,λd x y=>a.obj d x y⟩
  .by_cases e:d=b
   .subst e;exact(f2 k).1 o y
   .exact a.ω d o ((aa d o e).1 x) y
  .by_cases e:d=b
   .subst e;exact(f2 k).1 o ⟨_,x.choose_spec⟩
   .exact a.Q3 d o x ((Z d o e).1 y)
 have ap:c'.x i=D:=by rw[ai];simp[c',G',YI.x,upd_same]
 refine⟨c',h.seen (c':=c') ah ⟨λk=>?_,λj d cs' aq hv=>h.mem.Tf j d cs' aq (B j d _ hv).1,h.mem.X0,h.mem.keep⟩
  ⟨λk l S=>?_,λk d o n=>?_,λk d n=>?_,λj d v hv=>?_,λs o d K C=>?_,h.hold.Uu,h.hold.QY,λd C=>?_⟩ ⟨h.Zr.race,h.Zr.low,h.Zr.norel,λk=>?_,λj d v hv=>h.Zr.RB j d v (B j d v hv).1,h.Zr.cont,h.Zr.hears⟩ h.Zd (h.X8.Kw λd=>Vt c.H i G' d) h.Yh
  ⟨h.Ww.Nc,λj d v hv=>h.Ww.Nb j d v (B j d v hv).1⟩ ⟨g,?_,.inl U⟩ (λj V=>⟨?_,upd_ne _ _ V⟩) λ_ _ a=>a,_,U⟩
 .show Fits (Zz c.H (.inl i) G' k) w;by_cases e:k=.inl i
  .subst e;rw[Yr];have L:=h.mem.fit (.inl i);refine⟨λd o v p r=>?_,λd t' ar M=>?_,L.obj,λd o v r=>?_⟩
   .by_cases m:d=b
    .subst m;rw[ak] at r;cases u:cs[o]? with
     | none=>rw[u] at r;cases r
     | some N=>rw[u] at r;cases r;exact Tl R u
    .rw[E d o m] at r;exact L.ω d o v p r
   .by_cases m:d=b
    .subst m;simp[G'] at M;obtain⟨rfl,rfl⟩:=M;exact⟨cs,_,R,U⟩
    .simp[G',m] at M;exact L.row d t' ar M
   .by_cases m:d=b
    .subst m;simp[World.frozen?,R]
    .rw[E d o m] at r;exact L.thaw d o v r
  .rw[Zy _ _ e];exact h.mem.fit k
 .show Apart (Zz c.H (.inl i) G' k) (Zz c.H (.inl i) G' l);by_cases e:k=.inl i
  .subst e;rw[Yr,Zy _ _ (YV S)];exact ad l (YV S)
  .rw[Zy _ _ e];by_cases m:l=.inl i
   .subst m;rw[Yr];exact(ad k e).symm
   .rw[Zy _ _ m];exact h.hold.apart k l S
 .replace n:(Zz c.H (.inl i) G' k).owns d o:=n
  by_cases e:k=.inl i
  .subst e;rw[Yr] at n;by_cases m:d=b
   .subst m;exact f1
   .exact h.hold.high _ _ _ ((aa d o m).1 n)
  .rw[Zy _ _ e] at n;exact h.hold.high _ _ _ n
 .replace n:(Zz c.H (.inl i) G' k).XI d:=n
  by_cases e:k=.inl i
  .subst e;rw[Yr] at n;exact h.hold.Sf _ _ ((al d).1 n)
  .rw[Zy _ _ e] at n;exact h.hold.Sf _ _ n
 .obtain⟨au,W⟩:=B j d v hv;obtain⟨X,F,Y⟩:=h.hold.fresh j d v au;refine⟨X,λk=>?_,λA av=>?_⟩
  .show(Zz c.H (.inl i) G' k).off d;by_cases e:k=.inl i
   .subst e;rw[Yr];exact ab d W (F _)
   .rw[Zy _ _ e];exact F k
  .cases u:c'.Z8 A d with
   | none=>rfl
   | some N=>have:=(B A d N u).1;rw[Y A av] at this;cases this
 .obtain⟨X,F,Y⟩:=h.hold.U6 s o d K C;have W:=an s o d K C;refine⟨X,λk=>?_,λA=>?_⟩
  .show(Zz c.H (.inl i) G' k).off d;by_cases e:k=.inl i
   .subst e;rw[Yr];exact ab d W (F _)
   .rw[Zy _ _ e];exact F k
  .cases u:c'.Z8 A d with
   | none=>rfl
   | some N=>have:=(B A d N u).1;rw[Y A] at this;cases this
 .show Zz c.H (.inl i) G' (.inr d)=Υ.empty;rw[Vt];exact h.hold.X8 d C
 .show YB t (U5 c.tok c.O t k) (Zz c.H (.inl i) G' k);by_cases e:k=.inl i
  .subst e;rw[Yr];have ae:=h.Zr.perms (.inl i);refine⟨λd o v p r k a af ag aw=>?_,ae.obj⟩;by_cases m:d=b
   .exfalso;refine h.Zr.RB i b _ J k a af ?_;rw[ag];exact m
   .rw[E d o m] at r;exact ae.ω d o v p r k a af ag aw
  .rw[Zy _ _ e];exact h.Zr.perms k
 .rw[ap];show U7 P Q (upd c.T i (f (i==0,g,D)) i) _ _ _;rw[upd_same];exact aj
 .have ax:(Sum.inl j:Y2)≠.inl i:=λx=>V (by cases x;rfl);simp[c',YI.x,upd_ne _ _ V,Zy _ _ ax]
theorem Inv.less (h:Inv P Q ZB c gs w t) (s:gs[i]?=some g) {G':Υ} (d:Sub G' (c.H (.inl i))) (u:TN P Q f (i==0) g {c.x i with G:=G'}):Ix P Q ZB c gs w t i f:=by
 let l:Z5:={c.x i with G:=G'}
 let c':YI:={c with H:=Zz c.H (.inl i) G',T:=upd c.T i (f (i==0,g,l))}
 have y:c'.x i=l:=by simp[c',l,YI.x]
 have A:upd c.Z8 i (c.Z8 i)=c.Z8:=Iz U
 have m:=h.mem.own h.hold i (Xp.refl _ _ w) (d.fits (h.mem.fit (.inl i))) (h.mem.Tf i) U
 have n:=h.hold.own h.mem h.mem.keep.size i (G':=G') (V':=c.Z8 i) ⟨λb o v p B=>.inr (let ⟨C,D,E⟩:=d.ω b o v p B;⟨v,C,D,E⟩),λb F=>.inr (d.XI F)⟩ (λb x I=>.inl I);rw[A] at m n;refine⟨c',h.seen (c':=c') s m n ⟨h.Zr.race,h.Zr.low,h.Zr.norel,λk=>?_,h.Zr.RB,h.Zr.cont,h.Zr.hears⟩ h.Zd (h.X8.Kw λJ=>Vt c.H i G' J) h.Yh h.Ww ⟨g,?_,.inl U⟩ (λj r=>⟨?_,upd_ne _ _ r⟩) λ_ _ a=>a,_,U⟩
 .show YB t (U5 c.tok c.O t k) (Zz c.H (.inl i) G' k);by_cases e:k=.inl i
  .subst e;rw[Yr];exact(h.Zr.perms (.inl i)).sub d
  .rw[Zy _ _ e];exact h.Zr.perms k
 .rw[y];show U7 P Q (upd c.T i (f (i==0,g,l)) i) _ _ _;rw[upd_same];exact u
 .have K:(Sum.inl j:Y2)≠.inl i:=λx=>r (by cases x;rfl);simp[c',YI.x,Zy _ _ K]
theorem Inv.group (h:Inv P Q ZB c gs w t) (aq:gs[i]?=some g) {s:Nat} {sp:Spec} {ar:TypeId} {G' E:Υ} (B:c.Z8 i s=some (#[.int .u64 0,.int .u32 0],ar)) (ah:∀m,sp.ZS=some m->m≠s/\∃ai,c.Z8 i m=some (#[.int .i32 0,.int .u32 0],ai))
  (aO:c.rel i=false) (I:Split (c.H (.inl i)) G' E) (aP:sp.ZS≠none->sp.X1 [] E) {aa:Z5}
  (aQ:aa={c.x i with G:=G',Z8:=λb=>if b=s\/sp.ZS=some b then none else c.Z8 i b,tok:=upd (c.tok i) s (.par 0 0 .add),spec:=upd (c.spec i) s (some sp),view:=upd (c.view i) s none}) (aR:TN P Q f (i==0) g aa):Ix P Q ZB c gs w t i f:=by
 have aS:i<gs.size:=Td aq
 have aj:c.O s=none:=by
  cases J:c.O s with
  | none=>rfl
  | some o=>have:=(h.hold.U6 s o s J (.inl rfl)).2.2 i;rw[B] at this;cases this
 have ab:∀b,Yc s sp b->∃v,c.Z8 i b=some v:=λb hb=>by
  rcases hb with rfl|hb
  .exact⟨_,B⟩
  .obtain⟨_,ai,aT⟩:=ah b hb;exact⟨_,aT⟩
 have Y:∀r o b,c.O r=some o->Yc r o.toSpec b->¬Yc s sp b:=λr o b d hb ad=>by
  obtain⟨v,hv⟩:=ab b ad;have:=(h.hold.U6 r o b d hb).2.2 i;rw[hv] at this;cases this
 have au:∀r o,c.O r=some o->r≠s:=λr o d e=>by rw[e,aj] at d;cases d
 let V':Nat->Option (ν×TypeId):=λb=>if b=s\/sp.ZS=some b then none else c.Z8 i b
 let O':=upd c.O s (some (γ.new sp))
 have Z:∀j b v,upd c.Z8 i V' j b=some v->c.Z8 j b=some v/\¬Yc s sp b:=λj b v hv=>by
  by_cases e:j=i
  .subst e;rw[upd_same] at hv;by_cases ak:b=s\/sp.ZS=some b
   .simp[V',ak] at hv
   .simp[V',ak] at hv;exact⟨hv,ak⟩
  .rw[upd_ne _ _ e] at hv;refine⟨hv,λhb=>?_⟩;obtain⟨aU,aV⟩:=ab b hb;have:=(h.hold.fresh i b aU aV).2.2 j e;rw[this] at hv;cases hv
 have av:∀j b,c.Z8 j b=none->upd c.Z8 i V' j b=none:=λj b e=>by
  cases J:upd c.Z8 i V' j b with
  | none=>rfl
  | some v=>have:=(Z j b v J).1;rw[e] at this;cases this
 have aW:∀j b,Yc s sp b->upd c.Z8 i V' j b=none:=λj b hb=>by
  cases J:upd c.Z8 i V' j b with
  | none=>rfl
  | some v=>exact absurd hb (Z j b v J).2
 have C:∀r q,O' r=some q->(r=s/\q=γ.new sp)\/(r≠s/\c.O r=some q):=λr q y=>by
  by_cases e:r=s
  .subst e;rw[show O' r=some (γ.new sp) from upd_same ..] at y;cases y;exact .inl ⟨U,U⟩
  .rw[show O' r=c.O r from upd_ne _ _ e] at y;exact .inr ⟨e,y⟩
 have aw:VJ c.H (upd c.Z8 i V') O' ZB.heap.size:=by
  refine⟨h.hold.apart,h.hold.high,h.hold.Sf,λj b v hv=>?_,λr o b d hb=>?_,λr r' o o' b d F hb ad=>?_,λr o m d u=>?_,λb hb=>h.hold.X8 b λr o d hi=>hb r o (by rw[show O' r=c.O r from upd_ne _ _ (au r o d)];exact d) hi⟩
  .obtain⟨S,V,am⟩:=h.hold.fresh j b v (Z j b v hv).1;exact⟨S,V,λax aX=>av ax b (am ax aX)⟩
  .rcases C r o d with⟨rfl,rfl⟩|⟨e,F⟩
   .obtain⟨v,hv⟩:=ab b hb;obtain⟨S,V,_⟩:=h.hold.fresh i b v hv;exact⟨S,V,λj=>aW j b hb⟩
   .obtain⟨S,V,am⟩:=h.hold.U6 r o b F hb;exact⟨S,V,λj=>av j b (am j)⟩
  .rcases C r o d with⟨rfl,rfl⟩|⟨e,ay⟩<;>rcases C r' o' F with⟨rfl,rfl⟩|⟨ak,az⟩
   .rfl
   .exact absurd hb (Y r' o' b az ad)
   .exact absurd ad (Y r o b ay hb)
   .exact h.hold.Uu r r' o o' b ay az hb ad
  .rcases C r o d with⟨rfl,rfl⟩|⟨e,F⟩
   .exact(ah m u).1
   .exact h.hold.QY r o m F u
 have aA:O' s=some (γ.new sp):=upd_same ..
 have aB:c.H (.inr s)=Υ.empty:=h.hold.X8 s λr o d hi=>Y r o s d hi (.inl U)
 have aC:∀r q,O' r=some q->At r q w:=λr q y=>by
  rcases C r q y with⟨rfl,rfl⟩|⟨_,K⟩
  .refine⟨⟨ar,?_⟩,λm u=>let ⟨_,ai,hv⟩:=ah m u;⟨ai,?_⟩⟩
   .rw[xH];exact h.mem.Tf i r _ _ B
   .rw[xG];exact h.mem.Tf i m _ _ hv
  .exact h.mem.X0 _ _ K
 obtain⟨A,aY,aZ,aD,aE,a0,a1,a2⟩:∃A:Y2->Υ,A (.inl i)=G'/\(∀j,j≠i->A (.inl j)=c.H (.inl j))/\(∀b,¬Yc s sp b->A (.inr b)=c.H (.inr b))/\(A (.inr s)=Υ.empty/\∀m,sp.ZS=some m->A (.inr m)=E)/\
   VJ A (upd c.Z8 i V') O' ZB.heap.size/\Wx A (upd c.Z8 i V') O' ZB w/\∀a,YB t (U5 (Zn c.tok i s (.par 0 0 .add)) O' t a) (A a):=by
  have an:=h.Zr.perms (.inl i)
  have aF:∀a,(∀b,a=.inr b->¬Yc s sp b)->YB t (U5 (Zn c.tok i s (.par 0 0 .add)) O' t a) (c.H a):=λa W=>by
   refine(h.Zr.perms a).mono λk M=>?_;cases a with
   | inl j=>exact M
   | inr b=>
    refine M.imp id λM r o d hb j n=>?_;rcases C r o d with⟨rfl,rfl⟩|⟨e,F⟩
    .exact absurd hb (W b U)
    .rw[XT _ (λx=>e x.2)] at n;exact M r o F hb j n
  have aG:Wx c.H (upd c.Z8 i V') c.O ZB w:=h.mem.L0 λj b v hv=>(Z j b v hv).1
  have aH:(Sum.inl i:Y2)≠.inr s:=Ω;cases u:sp.ZS with
  | none=>
   refine⟨Zz (Zz c.H (.inl i) G') (.inr s) Υ.empty,?_,λj n=>?_,λb hb=>?_,⟨Yr ..,λm e=>(by cases e)⟩,?_,aG.two (I.l.fits (h.mem.fit (.inl i))) (Nf w) aC,λa=>?_⟩
   .rw[Zy _ _ aH,Yr]
   .rw[Zy _ _ Ω,Zy _ _ (λe=>n (by cases e;rfl))]
   .have:(Sum.inr b:Y2)≠.inr s:=λe=>hb (by cases e;exact .inl U);rw[Zy _ _ this,Vt]
   .exact aw.two aH I.l.P5 (Sub.empty _) (Apart.P6 _) ⟨λs o B=>⟨o,B,U⟩,λs o B=>⟨o,B,U⟩⟩ λx J=>by
     rcases J with e|e
     .cases e;exact⟨s,_,aA,.inl U⟩
     .cases e
   .by_cases X:a=.inr s
    .subst X;rw[Yr];exact YB.empty
    .rw[Zy _ _ X];by_cases ae:a=.inl i
     .subst ae;rw[Yr];exact an.sub I.l
     .rw[Zy _ _ ae];refine aF a λb e hb=>?_;subst e;rcases hb with rfl|hb
      .exact X U
      .rw[u] at hb;cases hb
  | some m=>
   have a3:=(ah m u).1
   have aI:(Sum.inl i:Y2)≠.inr m:=Ω;refine⟨Zz (Zz c.H (.inl i) G') (.inr m) E,?_,λj n=>?_,λb hb=>?_,⟨?_,λba e=>?_⟩,?_,aG.two (I.l.fits (h.mem.fit (.inl i))) (I.r.fits (h.mem.fit (.inl i))) aC,λa=>?_⟩
   .rw[Zy _ _ aI,Yr]
   .rw[Zy _ _ Ω,Zy _ _ (λe=>n (by cases e;rfl))]
   .have:(Sum.inr b:Y2)≠.inr m:=λe=>hb (by cases e;exact .inr u);rw[Zy _ _ this,Vt]
   .have:(Sum.inr s:Y2)≠.inr m:=λe=>a3 (by cases e;rfl);rw[Zy _ _ this,Vt];exact aB
   .cases e;rw[Yr]
   .exact aw.two aI I.l.P5 I.r.P5 I.apart ⟨λs o B=>⟨o,B,U⟩,λs o B=>⟨o,B,U⟩⟩ λx J=>by
     rcases J with e|e
     .cases e;exact⟨s,_,aA,.inr u⟩
     .cases e
   .by_cases X:a=.inr m
    .subst X;rw[Yr];refine(an.sub I.r).mono λk M=>.inr λr o d hb j n=>?_;rcases C r o d with⟨rfl,rfl⟩|⟨e,F⟩
     .by_cases e:j=i
      .subst e;exact M
      .rw[O7 _ e,h.Zd.bare r aj j] at n;exact absurd U n
     .exact absurd (.inr u) (Y r o m F hb)
    .rw[Zy _ _ X];by_cases ae:a=.inl i
     .subst ae;rw[Yr];exact an.sub I.l
     .rw[Zy _ _ ae];by_cases aJ:a=.inr s
      .subst aJ;rw[aB];exact YB.empty
      .refine aF a λb e hb=>?_;subst e;rcases hb with rfl|hb
       .exact aJ U
       .rw[u] at hb;cases hb;exact X U
 let c':YI:={c with H:=A,Z8:=upd c.Z8 i V',tok:=Zn c.tok i s (.par 0 0 .add),spec:=upd c.spec i (upd (c.spec i) s (some sp)),view:=upd c.view i (upd (c.view i) s none),O:=O',Zo:=upd c.Zo s i,T:=upd c.T i (f (i==0,g,aa))}
 have a4:c'.x i=aa:=by rw[aQ];simp[c',V',YI.x,upd_same,M',aY]
 have af:∀j r,r≠s->Zn c.tok i s (.par 0 0 .add) j r=c.tok j r:=λj r d=>XT _ λx=>d x.2
 have aK:∀j,j≠0->c.rel j=true->c.home j≠s:=λj N n e=>by
  obtain⟨ao,S,V,_⟩:=h.Yh.c1 j N n;have a5:=h.Yh.P4 (c.XU j) j (by simp[Trace.g?,S,V]);obtain⟨k,m,g,M⟩:=h.Zd.QX j N a5;rw[e,h.Zd.bare s aj j] at M;cases M
 refine⟨c',h.seen (c':=c') aq a1 a0 ⟨h.Zr.race,h.Zr.low,h.Zr.norel,a2,λj b v hv=>h.Zr.RB j b v (Z j b v hv).1,λr o b d hb k a W aL=>?_,h.Zr.hears⟩ (h.Zd.xK aj aS aO sp) ⟨λr q m y u ag a6=>?_,λr q y ag=>?_⟩
  ⟨h.Yh.P4,h.Yh.c1,λj N n ag=>?_,λj N n a b=>?_⟩ ⟨λr q m y u p ao aM W=>?_,λj b v hv=>h.Ww.Nb j b v (Z j b v hv).1⟩ ⟨g,?_,.inl U⟩ (λj n=>⟨?_,upd_ne _ _ n⟩) (λr o d=>?_),_,U⟩
 .rcases C r o d with⟨rfl,rfl⟩|⟨e,F⟩
  .obtain⟨v,hv⟩:=ab b hb;exact absurd aL (h.Zr.RB i b v hv k a W)
  .have:=h.Zr.cont r o b F hb k a W aL
   show _\/(_/\_=some (upd c.Zo s i r));rw[upd_ne _ _ e];exact this
 .rcases C r q y with⟨rfl,rfl⟩|⟨e,K⟩
  .show sp.X1 [] (A (.inr m));rw[aE.2 m u];exact aP (by have:sp.ZS=some m:=u;rw[this];simp)
  .show q.X1 q.L (A (.inr m));rw[aD m (Y r q m K (.inr u))];exact h.X8.QW r q m K u (λj ap p x=>ag j ap p (by show Zn c.tok i s _ j r=_;rw[af j r e];exact x)) λj k L g x=>a6 j k L g (by show Zn c.tok i s _ j r=_;rw[af j r e];exact x)
 .rcases C r q y with⟨rfl,rfl⟩|⟨e,K⟩
  .show TO sp.D [] (A (.inr r));rw[aE.1];rfl
  .show TO q.D q.R (A (.inr r));rw[aD r (Y r q r K (.inl U))];exact h.X8.Rv r q K λj ap p x=>ag j ap p (by show Zn c.tok i s _ j r=_;rw[af j r e];exact x)
 .obtain⟨q,p,y⟩:=ag;have e:=aK j N n;have al:c'.Zo (c.home j)=c.Zo (c.home j):=upd_ne _ _ e;show Knows t (c'.Zo (c.home j)) (c.XU j);rw[al];refine h.Yh.c2 j N n ⟨q,p,?_⟩;have:Zn c.tok i s (.par 0 0 .add) (c'.Zo (c.home j)) (c.home j)=.par q p .YG:=y
  rwa [af _ _ e,al] at this
 .have e:=aK j N n
  have al:c'.Zo (c.home j)=c.Zo (c.home j):=upd_ne _ _ e
  show Before t (c.XU j) (c.XU (c'.Zo (c.home j)))
  have a':c'.Zo (c.home j)≠0:=a
  have aN:c.rel (c'.Zo (c.home j))=true:=b;rw[al] at a' aN ⊢;exact h.Yh.c3 j N n a' aN
 .rcases C r q y with⟨rfl,rfl⟩|⟨e,K⟩
  .obtain⟨v,hv⟩:=ab m (.inr u);exact absurd W (h.Ww.Nb i m v hv ao (mem_of_getElem? aM))
  .obtain⟨⟨k,a7,g,a8⟩,a9⟩:=h.Ww.Nc r q m K u p ao aM W;exact⟨⟨k,a7,g,by show Zn c.tok i s _ _ r=_;rw[af _ r e];exact a8⟩,a9⟩
 .rw[a4];show U7 P Q (upd c.T i (f (i==0,g,aa)) i) _ _ _;rw[upd_same];exact aR
 .simp[c',YI.x,upd_ne _ _ n,O7 _ n,aZ j n]
 .show O' r=some o;rw[show O' r=c.O r from upd_ne _ _ (au r o d)];exact d
theorem Inv.ghost (h:Inv P Q ZB c gs w t) (d:gs[i]?=some g) (j:FO (i==0) (TN P Q f) g (c.x i)):Ix P Q ZB c gs w t i f:=by
 rcases j with⟨G',a,e⟩|⟨b,cs,k,a,e⟩|⟨s,sp,k,G',E,a,l,m,n,p,r⟩
 .exact h.less d a e
 .exact h.xF d a U e
 .have u:c.O s=none:=by
   cases v:c.O s with
   | none=>rfl
   | some o=>have:=(h.hold.U6 s o s v (.inl rfl)).2.2 i;have y:c.Z8 i s=_:=a;rw[y] at this;cases this
  exact h.group d a l m n p U (r (h.Zd.bare s u i))
end
section
variable {P:Program} {Q:Value->Prop} {ZB:World} {c c':YI} {gs:Array Goroutine} {w w':World} {t:Trace} {i:Nat} {g g':Goroutine} {es:Array Event}
theorem Inv.step (h:Inv P Q ZB c gs w t) (b:gs[i]?=some g) (k:g.status=.running):(∃v es,i=0/\stepG P true g w=.ended (.done v) w es/\∀sl w1,Good P (λv w'=>Q v/\Xp (λ_ _=>False) (λ_=>False) ZB w') (crowd gs w1 sl) (.done v) w (t++MemOp.ofEvents 0 g.frame.fn g.frame.place es))\/
  ∃f,c.T i=.node f/\(VU P Q ZB c gs w t i f\/FO (i==0) (TN P Q f) g (c.x i)):=by
 obtain⟨A,j,p⟩:=h.Na i g b;rcases p with rfl|⟨_,rfl,_⟩
 .have l:IE P (i==0) g (c.x i) Q->(∃v es,i=0/\stepG P true g w=.ended (.done v) w es/\∀sl w1,Good P (λv w'=>Q v/\Xp (λ_ _=>False) (λ_=>False) ZB w') (crowd gs w1 sl) (.done v) w (t++MemOp.ofEvents 0 g.frame.fn g.frame.place es)):=λd=>by
   rcases d with⟨r,d⟩|⟨_,d⟩
   .have e:i=0:=by simpa using r
    subst e;obtain⟨v,es,m,B⟩:=h.CH b d none w;refine⟨v,es,U,m,λsl w1=>?_⟩;obtain⟨C,es',n,s⟩:=h.CH b d sl w1;rw[m] at n;cases n;exact s
   .rw[d.2.2.1] at k;cases k
  cases o:c.T i with
  | leaf=>rw[o] at j;exact .inl (l j.2)
  | node f=>
   have u:=j;rw[o] at j;rcases j.2 with d|a
   .exact .inl (l d)
   .refine .inr ⟨f,U,?_⟩;rcases a with a|⟨y,a⟩
    .exact .inl (h.quits b a)
    .rcases a with a|a|a|a|a|a|a|a|a|a
     .exact .inl (h.FM b a)
     .exact .inl (h.xR b a)
     .exact .inl (h.xQ b a)
     .exact .inl (h.atom b y u a)
     .exact .inl (h.Iv b a)
     .exact .inl (h.FI b a)
     .exact .inl (h.FH b a)
     .exact .inl (h.Iu b a)
     .exact .inl (h.FG b a)
     .exact .inr a
 .cases k
theorem Inv.xE (h:Inv P Q ZB c gs w t):∀g∈gs,Go.Conc.awake g:=λg b=>by
 obtain⟨j,d⟩:=I4.1 b;intro t' a;rcases h.stat d with e|⟨_,e,_⟩|⟨e,_⟩<;>rw[e] at a<;>cases a
theorem Inv.comes:∀(L:List (W3 (Bool×Goroutine×Z5))) (k:Nat) (c:YI) (b:κ) (gs:Array Goroutine) (w:World) (t:Trace) (sl:Option (Nat×Nat)),b.map c.T=L->Ord b gs.size->L4 gs=k->Inv P Q ZB c gs w t->Comes P Q ZB (crowd gs w sl) t:=by
 intro L
 induction L using (SF.wf (B:=Bool×Goroutine×Z5)).induction with
 | _ L p=>
  intro k
  induction k using Nat.strongRecOn with
  | _ k C=>
   intro c b gs w t sl D e E h;subst D E;obtain⟨i,g,d,j,n,F,o⟩:=crowd_pick (P:=P) (w:=w) (sl:=sl) h.xE h.awake;have H:=h.at d;have r:i<gs.size:=Td n;rcases H.step n F with⟨v,es,rfl,I,J⟩|⟨f,s,x⟩
   .have y:=runT_many_ended (sl:=j) n (by simpa using I);rw[y] at o;exact Comes.last o (J sl w)
   .rcases x with x|K
    .obtain⟨c',A,w',u,y,l,M⟩:=x j;rw[y] at o;refine Comes.next o ?_;rcases M with⟨m,kk,a⟩|⟨m,kk,N,a⟩|⟨m,a,O⟩
     .exact p _ (by rw[a];exact e.one r s kk) _ c' b A w' _ j U (by rw[m];exact e) U l
     .obtain⟨R,S,V⟩:=e.two r s kk N;exact p _ (by rw[a];exact V) _ c' R A w' _ j U (by rw[m];exact S) U l
     .exact C _ O c' b A w' _ j (by rw[a]) (by rw[m];exact e) U l
    ·
     obtain⟨c',l,kk,a⟩:=h.ghost (f:=f) n K;exact p _ (by rw[a];exact e.one r s kk) _ c' b gs w t sl U e U l
end
def Υ.Tc (w:World):Υ:=
 ⟨λb o=>match w.heap[b]? with|some (.cells c _ _)=>(c[o]?).map (·,false)|_=>none,
  λb=>match w.heap[b]? with|some (.cells c t a)=>if a=(0,0) then some (t,c.size) else none|_=>none,λ_=>none⟩
theorem Υ.Cz (w:World) (b o:Nat):¬(Υ.Tc w).owns b o:=λ⟨v,h⟩=>by
 simp only[Υ.Tc] at h;cases a:w.heap[b]? with
 | none=>rw[a] at h;cases h
 | some x=>
  rw[a] at h;cases x with
  | cells c t e=>
   simp only at h;cases d:c[o]? with
   | none=>rw[d] at h;cases h
   | some f=>rw[d] at h;cases h
  | _=>cases h
theorem Υ.xD (w:World):Fits (Υ.Tc w) w:=by
 refine⟨λb o v p h=>?_,λb t n h=>?_,λb x h=>(by cases h),λb o v h=>absurd ⟨v,h⟩ (Υ.Cz w b o)⟩
 .simp only[Υ.Tc] at h;cases a:w.heap[b]? with
  | none=>rw[a] at h;cases h
  | some x=>
   rw[a] at h;cases x with
   | cells c t e=>
    simp only at h;cases d:c[o]? with
    | none=>rw[d] at h;cases h
    | some f=>rw[d] at h;cases h;exact Tl a d
   | _=>cases h
 .simp only[Υ.Tc] at h;cases a:w.heap[b]? with
  | none=>rw[a] at h;cases h
  | some x=>
   rw[a] at h;cases x with
   | cells c t' e=>
    simp only at h;split at h
    .cases h;exact⟨c,_,U,U⟩
    .cases h
   | _=>cases h
def Z5.start (w:World):Z5:=⟨Υ.Tc w,λ_=>none,λ_=>.nil,λ_=>none,λ_=>none,0,false⟩
theorem Goes.comes {P:Program} {A:Value->Prop} {g:Goroutine} {w:World} (h:Goes P A true g (Z5.start w)):Comes P A w (solo g w) #[]:=by
 obtain⟨T,J⟩:=h;let c:YI:={H:=Zz (λ_=>Υ.empty) (.inl 0) (Υ.Tc w),Z8:=λ_ _=>none,tok:=λ_ _=>.nil,spec:=λ_ _=>none,view:=λ_ _=>none,deaf:=λ_=>0,rel:=λ_=>false,T:=λ_=>T,O:=λ_=>none,Zo:=λ_=>0,home:=λ_=>0,XU:=λ_=>0};have K:c.x 0=Z5.start w:=by simp[c,YI.x,Z5.start]
 have y:∀k,k≠.inl 0->c.H k=Υ.empty:=λk B=>Zy (λ_=>Υ.empty) (Υ.Tc w) B
 have C:c.H (.inl 0)=Υ.Tc w:=Yr (λ_=>Υ.empty) (.inl 0) (Υ.Tc w)
 have D:∀k b o,¬(c.H k).owns b o:=λk b o f=>by
  by_cases e:k=.inl 0
  .subst e;rw[C] at f;exact Υ.Cz w b o f
  .rw[y k e] at f;obtain⟨v,hv⟩:=f;cases hv
 have F:∀k b,¬(c.H k).XI b:=λk b f=>by
  by_cases e:k=.inl 0
  .subst e;rw[C] at f;obtain⟨v,hv⟩:=f;cases hv
  .rw[y k e] at f;obtain⟨v,hv⟩:=f;cases hv
 have R:∀i:Nat,(#[]:Trace)[i]?=none:=λi=>Ω
 have I:(#[g]:Array Goroutine).size=1:=rfl
 have M:Inv P A w c #[g] w #[]:=by
  refine⟨Ω,⟨λk=>?_,λj b c t r=>(by cases r),λs o d=>(by cases d),Xp.refl _ _ _⟩,
   ⟨λk l _=>⟨λb o f=>absurd f (D k b o),λb o f=>absurd f (D l b o),λb f=>absurd f (F k b)⟩,λk b o f=>absurd f (D k b o),λk b f=>absurd f (F k b),λj b v hv=>(by cases hv),λs o b d=>(by cases d),λs S o o' b d=>(by cases d),λs o m d=>(by cases d),λb _=>y _ Ω⟩,
   ⟨λV ⟨i,j,_,⟨a,b,u,_⟩,_⟩=>(by simp[Trace.act?] at u),λN E=>(by simp at E),λN E=>(by simp at E),λk=>⟨λb o v p _ i a u=>(by simp[touchAt,Trace.act?] at u),λb _ i a u=>(by simp[touchAt,Trace.act?] at u)⟩,λj b v hv=>(by cases hv),λs o b d=>(by cases d),λj=>rfl⟩,
   ?_,⟨λs o m d=>(by cases d),λs o d=>(by cases d)⟩,⟨λk a B=>(by simp[Trace.g?] at B),λj _ n=>(by cases n),λj _ n=>(by cases n),λj _ n=>(by cases n)⟩,⟨λs o m d=>(by cases d),λj b v hv=>(by cases hv)⟩,λj b r=>?_⟩
  .by_cases e:k=.inl 0
   .subst e;rw[C];exact Υ.xD w
   .rw[y k e];exact Nf w
  .exact⟨λs o d=>(by cases d),λs _ j=>rfl,λj s _=>rfl,λj s sp d=>(by cases d),λj s φ o d=>(by cases d),λj s k L g o d=>(by cases d),λj s m p Q d=>(by cases d),λj s k m g d=>(by cases d),λj W n=>(by rw[I] at n;omega),λj k m g _ d=>(by cases d),U,λj s d=>(by cases d),λj s k m g o d=>(by cases d),λs j X k m g Y g' d=>(by cases d),λs j k m g q p Q d=>(by cases d),λs o d=>(by cases d),λs o d=>(by cases d)⟩
  .have n:j=0:=by have:=Td r;rw[I] at this;omega
   subst n;simp at r;subst r;exact⟨g,by rw[K];exact J,.inl U⟩
 rw[solo_eq_crowd];exact Inv.comes _ _ c [0] #[g] w #[] none U ⟨Ω,λi=>Ω⟩ U M
end Go.TL
