/- Part of the proof. -/
import Derived.Test.YtbmnfifnenajjaaGreatProg
import Derived.KernelRfl
import Derived.Test.YtbmnfifnenajjaaGreatMae
set_option linter.all false
noncomputable section
open Option renaming some->A,none->O,getD->Option.g,bind->Option.b
open _root_ renaming rfl->B,List->C,Nat->D,Option->Ae,Bool->Ah,cond->Aj
open Bool renaming true->L,false->Aa
open Nat renaming beq->AW,ble->BX
open List renaming map->List.m,take->List.t,flatMap->List.f
open Go.IntKind renaming i64->Go.IntKind.n
open Eq renaming trans->Eq.t,symm->Eq.s
open Or renaming inl->Or.i,inr->Or.j
open Int renaming toNat->Int.n
namespace Go.Fg
theorem T.Zx(a:T):T.eq a a=L:=by
 induction a with
 |h=>rfl
 |o a b=>exact b
 |i a b=>exact b
theorem uh(a:T):Rh a []=Aa:=rfl
theorem ug(a c:T)(b:C T):Rh a (c::b)=Aj (T.eq a c) L (Rh a b):=rfl
theorem be{a:T}:∀{b:C T},Rh a b=L↔a∈b
 |[]=>by simp[uh]
 |d::b=>by
  rw[ug]
  cases c:T.eq a d with
  |true=>simp[T.N4 c]
  |false=>
   have:a≠d:=λe=>by rw[e,T.Zx]at c;grind
   simp[this,be]
theorem ui{b c:T}{a:C T}:c∈Wf b a↔c=b\/c∈a:=by
 unfold Wf
 cases d:Rh b a with
 |true=>exact⟨.j,λf=>f.elim (λe=>by rw[e];exact be.1 d) id⟩
 |false=>simp
theorem MV{b:T}:∀{c a:C T},b∈PV c a↔b∈c\/b∈a
 |[],a=>by show b∈a↔_;simp
 |d::c,a=>by show b∈Wf d (PV c a)↔_;rw[ui,MV,Ad6,or_assoc]
theorem bf{a c:T}:∀{b:C T},c∈O9 a b↔c∈b/\c≠a
 |[]=>by show c∈([])↔_;simp
 |d::b=>by
  show c∈Aj (T.eq a d) (O9 a b) (d::O9 a b)↔_
  cases e:T.eq a d with
  |true=>have:=T.N4 e;subst this;show c∈O9 a b↔_;rw[bf,Ad6];grind
  |false=>
   have:d≠a:=λf=>by rw[f,T.Zx]at e;grind
   show c∈d::O9 a b↔_;simp only[Ad6,bf];grind
theorem TM:∀{c d:C T},cC c d=L->∀b∈c,b∈d
 |[],_,_,b,a=>by grind
 |h::c,d,e,b,a=>by
  obtain⟨f,g⟩:=FR e;rcases Ad6.1 a with rfl|a;.exact be.1 f
  .exact TM g b a
def Ag(b:C T)(c d:Fm):Prop:=∀a∈b,Fm.at c a=Fm.at d a
theorem Ag.sub{b c:C T}{d e:Fm}(f:Ag b d e)(h:∀a∈c,a∈b):Ag c d e:=λa g=>f a P
theorem Ag.od{b:C T}{e f:Fm}(g:Ag b e f){a:Od}(i:∀h∈Jy [a],h∈b):a.ev e=a.ev f:=by
 cases a with
 |t d=>exact g d (i d (by simp[Jy]))
 |c j=>rfl
theorem Ag.Dz{i:C T}{b c:Fm}(f:Ag i b c):∀{h:C Od},(∀g∈Jy h,g∈i)->AU b h=AU c h
 |[],_=>rfl
 | .t d::a,e=>by show Fm.at b d::AU b a=Fm.at c d::AU c a;rw[f d (e d (by simp[Jy])),Ag.Dz f (λg k=>e g (by simp[Jy,k]))]
 | .c j::a,e=>by show j::AU b a=j::AU c a;rw[Ag.Dz (h:=a) f e]
theorem Ag.AJ{c:C T}{g h:Fm}{a:Ae T}(d:Ag (match a with|some a=>O9 a c|none=>c) g h)(f:F):Ag c (DI g a f) (DI h a f):=by
 cases a with
 |none=>exact d
 |some a=>
  intro e i;by_cases b:e=a;.subst b;rw[Fm.Ua,Fm.Ua]
  .rw[Fm.R8 _ _ b,Fm.R8 _ _ b];exact d e (bf.2 ⟨i,b⟩)
theorem Ag.TU{e:C T}{c d:Fm}(g:Ag e c d){a:Ae (T×Ah)}(i:∀h∈Xl a,h∈e):G5 a c=G5 a d:=by
 cases a with
 |none=>rfl
 |some j=>obtain⟨b,f⟩:=j;show A1 f (Fm.at c b)=A1 f (Fm.at d b);rw[g b (i b (by simp[Xl]))]
theorem Ag.D8{l:C T}{d e:Fm}(g:Ag l d e)(u:Bd){k:Io}(i:∀h∈Jy k.Rm,h∈l)(b:G):Go.Fg.D8 u k d b=Go.Fg.D8 u k e b:=by
 cases k with
 |rd o a=>show HL o (AU d a) b=HL o (AU e a) b;rw[g.Dz (h:=a) i]
 |al m a=>show DT m (AU d a) b=DT m (AU e a) b;rw[g.Dz (h:=a) i]
 |ef n a=>show n.ev (AU d a) b=n.ev (AU e a) b;rw[g.Dz (h:=a) i]
 |call j a=>
  show C8 u (j.ev d) (AU d a) b=C8 u (j.ev e) (AU e a) b;rw[g.od (λh f=>i h (by
   cases j with
   |t p=>simp[Jy]at f;simp[Io.Rm,Jy,f]
   |c q=>simp[Jy]at f)),g.Dz (λh f=>i h (by
   cases j with
   |t p=>simp[Io.Rm,Jy,f]
   |c q=>simp[Io.Rm,Jy,f]))]
 |CS=>rfl
def OA(w f:C T)(v:D->C T):Cy->Cy->Prop
 | .CC c a,.CC d b=>a=b/\Ag f c d
 | .Dd c a,.Dd d b=>a=b/\Ag w c d
 | .Ck e c a,.Ck g d b=>e=g/\a=b/\Ag (v e) c d
 | .Cd,.Cd=>True
 |_,_=>False
section
variable{w:C T} {v:D->C T} {u:Bd}
theorem hV{a:Cx}{e:C T}{c d:Fm}(b:Ag (a9 a e) c d):G5 a.DZ c=G5 a.DZ d/\(∀i,D8 u a.op c i=D8 u a.op d i)/\AU c (match a.op with| .rd _ g=>g|_=>[])=AU d (match a.op with| .rd _ g=>g|_=>[])/\∀k,Ag e (DI c a.De k) (DI d a.De k):=by
 unfold a9 at b
 have h:∀f∈Jy a.op.Rm,f∈PV (Xl a.DZ) (PV (Jy a.op.Rm) (match a.De with|some l=>O9 l e|none=>e)):=λf j=>MV.2 (.j (MV.2 P))
 refine⟨b.TU (λf j=>MV.2 P),(b.D8 u h),?_,(Ag.AJ (b.sub λf j=>MV.2 (.j (MV.2 P))))⟩
 cases m:a.op with
 |rd n g=>rw[m]at h b;exact b.Dz h
 |_=>rfl
theorem ZM:∀{f:C Cx}{c:C T}{a d:Fm}{b:G},Ag (U_ f c) a d->OA w c v (HK u f a b) (HK u f d b)
 |[],c,a,d,b,e=>⟨B,e⟩
 |g::l,c,a,d,b,e=>by
  obtain⟨h,i,_⟩:=hV (e)
  unfold HK
  rw[<-h]
  cases G5 g.DZ a with
  |false=>exact ZM P
  |true=>
   rw[<-i]
   cases D8 u g.op a b with
   |none=>trivial
   |some j=>obtain⟨m,k⟩:=j;exact ZM P
theorem ZI:∀{j:C Cx}{c:D}{b:Kj}{g:C T}{d f:Fm}{e:G},Ag (U_ j g) d f->OA w g v (E6 u j c b d e) (E6 u j c b f e)
 |[],c,b,g,d,f,e,i=>⟨B,i⟩
 |a::x,c,b,g,d,f,e,i=>by
  obtain⟨o,p,q,t⟩:=hV (i)
  rw[Lu,Lu,<-o]
  cases G5 a.DZ d with
  |false=>exact ZI P
  |true=>
   rw[<-p]
   cases D8 u a.op d e with
   |none=>trivial
   |some s=>
    obtain⟨h,k⟩:=s;have n:I4 c a.bits a.op d e h k b=I4 c a.bits a.op f e h k b:=by
     cases r:a.op with
     |rd l m=>rw[r]at q;show N0 c a.bits l (AU d m) h b=N0 c a.bits l (AU f m) h b;grind
     |_=>rfl
    unfold HG;simp only[<-n];split;.exact ZI P
    .trivial
theorem OA.then{g f:C T}{c d:Cy}{b:Fm->G->Cy}(a:OA w g v c d)(j:∀h i e,Ag g h i->OA w f v (b h e) (b i e)):OA w f v (FM b c) (FM b d):=by
 cases c<;>cases d<;>first|exact a.elim|skip
 .obtain⟨rfl,a⟩:=a;exact j _ _ _ a
 .exact a
 .exact a
 .exact a
theorem NG{h:D}:∀i {e:C T}{v:D->C T}{b c:Fm}{a:G},IL w i e v=L->Ag (lv w i e v) b c->OA w e v (BM h u i.erase b a) (BM h u i.erase c a)
 | .skip,e,v,b,c,a,_,d=>⟨B,d⟩
 | .HT N,e,v,b,c,a,_,d=>ZM d
 | .Hl N,e,v,b,c,a,_,d=>ZI d
 | .Ck m,e,v,b,c,a,_,d=>⟨B,B,d⟩
 | .Dd,e,v,b,c,a,_,d=>⟨B,d⟩
 | .CS,e,v,b,c,a,_,d=>Aeb
 | .D2 k f,e,v,b,c,a,j,d=>by obtain⟨o,q⟩:=FR (j);exact OA.then (NG k q d) λb c a g=>NG f o g
 | .Ni J z k f,e,v,b,c,a,j,d=>by obtain⟨t,s⟩:=FR (j);obtain⟨o,q⟩:=FR s;exact OA.then (NG k q d) λb c a g=>NG f o (g.sub (TM t))
 | .GB i k f,e,v,b,c,a,j,d=>by
  obtain⟨o,q⟩:=FR (j);show OA w e v (Jq (BM h u k.erase b a) (BM h u f.erase b a) (i.ev b)) (Jq (BM h u k.erase c a) (BM h u f.erase c a) (i.ev c));rw[<-(d.od λF E=>MV.2 P)];unfold Jq;split;.exact NG k o (d.sub λF E=>MV.2 (.j (MV.2 P)))
  .exact NG f q (d.sub λF E=>MV.2 (.j (MV.2 P)))
  .trivial
 | .Bc m f,e,v,b,c,a,j,d=>by
  have g:=NG (h:=h) f j (a:=a) d;show OA w e v (KV m (BM h u f.erase b a)) (KV m (BM h u f.erase c a));generalize BM h u f.erase b a=s at g⊢;generalize BM h u f.erase c a=Q at g⊢;cases s<;>cases Q<;>first|exact g.elim|exact g|skip
  .rename_i l x r S y R
   obtain⟨rfl,rfl,g⟩:=g
   show OA w e v (Aj (AW l m) (.CC x r) (.Ck l x r)) (Aj (AW l m) (.CC y r) (.Ck l y r))
   have g:Ag (Aj (AW l m) e (v l)) x y:=g
   cases i:AW l m with
   |true=>rw[i]at g;exact⟨B,g⟩
   |false=>rw[i]at g;exact⟨B,B,g⟩
 | .Dt J z f,e,v,b,c,a,j,d=>by
  obtain⟨t,o⟩:=FR (j);have M:∀p b c a,Ag z b c->OA w e v (HO (BM h u f.erase) p b a) (HO (BM h u f.erase) p c a):=by
   intro p
   induction p with
   |zero=>intro b c a _;trivial
   |succ p I=>intro b c a d;exact OA.then (NG f o (d.sub (TM t))) I
  exact M h b c a d
theorem Yf{a:LC}{h:C T}{v:D->C T}{e f:Fm}{b:G}(o:IL w a h v=L)(m:Ag (lv w a h v) e f):OA w h v (C_ u a.erase e b) (C_ u a.erase f b):=by
 by_cases g:C_ u a.erase e b=.Cd
 .by_cases i:C_ u a.erase f b=.Cd;.rw[g,i];trivial
  .obtain⟨d,k⟩:=Jh B i;have c:=NG (h:=d) (u:=u) a o (a:=b) m;rw[k]at c;have:BM d u a.erase e b≠.Cd:=by intro j;rw[j]at c;generalize C_ u a.erase f b=l at c i;cases l<;>first|exact c.elim|grind
   rw[Hz B this]at g;grind
 .obtain⟨d,k⟩:=Jh B g;have c:=NG (h:=d) (u:=u) a o (a:=b) m;rw[k]at c;have:BM d u a.erase f b≠.Cd:=by intro j;rw[j]at c;generalize C_ u a.erase e b=l at c g;cases l<;>first|exact c.elim|grind
  rw[Hz B this];omega
end
abbrev R:=Ae (F×G)
def Mn(t:Fm)(h:G):C FP->(C F->R)->R
 |[],a=>a []
 | .t e::b,a=>Mn t h b (λc=>a (Fm.at t e::c))
 | .B0 d e::b,a=>(A9 e h [Fm.at t d]).b λf=>Mn t h b (λc=>a (f::c))
 | .M9 d::b,a=>(AM h [Fm.at t d]).b λf=>Mn t h b (λc=>a (f::c))
def Ov(v:C FP)(t:Fm)(h:G):R:=Mn t h v (λa=>A (Rq a,h))
theorem XC(t:Fm)(h:G):∀v b,Mn t h v b=(KG t h v).b b
 |[],b=>rfl
 | .t d::a,b=>by show Mn t h a _=(Qh (A (Fm.at t d)) (KG t h a)).b b;rw[XC];cases KG t h a<;>rfl
 | .B0 c d::a,b=>by
  show(A9 d h [Fm.at t c]).b _=(Qh (A9 d h [Fm.at t c]) (KG t h a)).b b
  cases A9 d h [Fm.at t c]with
  |none=>rfl
  |some e=>show Mn t h a _=_;rw[XC];cases KG t h a<;>rfl
 | .M9 c::a,b=>by
  show(AM h [Fm.at t c]).b _=(Qh (AM h [Fm.at t c]) (KG t h a)).b b
  cases AM h [Fm.at t c]with
  |none=>rfl
  |some e=>show Mn t h a _=_;rw[XC];cases KG t h a<;>rfl
theorem hA(v:C FP)(t:Fm)(h:G):Ov v t h=U2 v (.CC t h):=by
 unfold Ov;rw[XC];show _=match KG t h v with|some a=>A (Rq a,h)|none=>O
 grind
def B7(u:Bd)(v:C FP):C LI->Cy->R
 |_,.Dd t h=>Ov v t h
 |_,.Cd=>O
 |[],.CC t h=>Ov v t h
 |[],.Ck _ _ _=>O
 | .Do d _::a,.CC t h=>B7 u v a (C_ u d.erase t h)
 | .Do _ _::a,.Ck b t h=>B7 u v a (.Ck b t h)
 | .Ca _::a,.CC t h=>B7 u v a (.CC t h)
 | .Ca e::a,.Ck b t h=>Aj (AW b e) (B7 u v a (.CC t h)) (B7 u v a (.Ck b t h))
 | .Dt _ _ c::a,.CC t h=>B7 u v a (C_ u (.Dt c.erase) t h)
 | .Dt _ _ _::a,.Ck b t h=>B7 u v a (.Ck b t h)
def E(u:Bd)(v:C FP)(b:LC)(a:C LI)(t:Fm)(h:G):R:=B7 u v a (C_ u b.erase t h)
def Da(a b:R):F->R
 | .b L=>a
 | .b Aa=>b
 |_=>O
def Lx:C T->C F->Fm
 |p::a,b::c=>PT.AJ (Lx a c) p (A b)
 |_,_=>.nil
def V5(u:Bd)(f:Io)(t:Fm)(h:G)(b:F->G->R):R:=
 match f with
 | .rd g a=>(g.ev (AU t a) h).b λi=>b i h
 | .al c a=>(c.ev (AU t a) h.next).b λp=>b p.2 (h.V p.1)
 | .ef d a=>(d.ev (AU t a) h).b λp=>b p.1 p.2
 | .call e a=>(C8 u (e.ev t) (AU t a) h).b λp=>b p.1 p.2
 | .CS=>O
def xG(u:Bd)(b:Ah)(g:Io)(t:Fm)(h:G)(c:F->G->R):R:=
 match g with
 | .rd i a=>(Aj b (i.ev (AU t a) h) (A AC)).b λj=>c j h
 | .al d a=>(Aj b (DT d (AU t a) h) (A (AC,h))).b λp=>c p.1 p.2
 | .ef e a=>(Aj b (e.ev (AU t a) h) (A (AC,h))).b λp=>c p.1 p.2
 | .call f a=>(Aj b (C8 u (f.ev t) (AU t a) h) (A (AC,h))).b λp=>c p.1 p.2
 | .CS=>Aj b O (c AC h)
def wb(b:Cx)(a:R):R:= @Nat.rec (λ_=>R) a (λ_ _=>a) b.bits
theorem kC(a:Cx)(b:R):wb a b=b:=by unfold wb;cases a.bits<;>rfl
def OT(u:Bd)(e:Fm->G->R)(f:C Cx):Fm->G->R:=
 @List.rec Cx (λ_=>Fm->G->R) e
  (λa _ d t h=>match a.DZ with
   |none=>wb a<|V5 u a.op t h (λc b=>d (DI t a.De c) b)
   |some (g,i)=>wb a<|xG u (A1 i (Fm.at t g)) a.op t h (λc b=>d (DI t a.De c) b)) f
def G2(a:D):C Cx->Ah
 |[]=>Aa
 |b::c=>Aj (Nat.testBit b.bits a) (G2 a c) L
def xD(u:Bd)(j:Ah)(e:Cx)(i:D)(b:C Ev)(c:C (D×G))(t:Fm)(h:G)(d:C Ev->C (D×G)->F->G->R):R:=
 match e.op with
 | .rd f a=>(f.ev (AU t a) h).b λg=>Aj (Hc f) (Aj (DU e.bits f (AU t a) g c) (d (Aj j (⟨i,f,AU t a,g⟩::b) b) c g h) O) (d b c g h)
 | .al k a=>(k.ev (AU t a) h.next).b λp=>d b c p.2 (h.V p.1)
 | .ef l a=>(l.ev (AU t a) h).b λp=>Aj (C0 e.bits p.2 b) (d b (Aj j ((i,h)::c) c) p.1 p.2) O
 | .call m a=>(C8 u (m.ev t) (AU t a) h).b λp=>Aj (C0 e.bits p.2 b) (d b (Aj j ((i,h)::c) c) p.1 p.2) O
 | .CS=>O
def C2{a:Type}(c:Ah)(d:a)(b:C a):C a:=Aj c (d::b) b
def xE(u:Bd)(k c:Ah)(i:Cx)(j:D)(a:C Ev)(d:C (D×G))(t:Fm)(h:G)(f:C Ev->C (D×G)->F->G->R):R:=match i.op with
 | .rd g b=>(Aj c ((g.ev (AU t b) h).b λe=>Aj (Hc g) (Aj (DU i.bits g (AU t b) e d) (A e) O) (A e)) (A AC)).b λe=>f (Aj (Hc g) (Aj k (C2 c ⟨j,g,AU t b,e⟩ a) a) a) d e h
 | .al l b=>(Aj c (DT l (AU t b) h) (A (AC,h))).b λp=>f a d p.1 p.2
 | .ef m b=>(Aj c ((m.ev (AU t b) h).b λp=>Aj (C0 i.bits p.2 a) (A p) O) (A (AC,h))).b λp=>f a (Aj k (C2 c (j,h) d) d) p.1 p.2
 | .call n b=>(Aj c ((C8 u (n.ev t) (AU t b) h).b λp=>Aj (C0 i.bits p.2 a) (A p) O) (A (AC,h))).b λp=>f a (Aj k (C2 c (j,h) d) d) p.1 p.2
 | .CS=>Aj c O (f a d AC h)
def OS(u:Bd)(j:Fm->G->R)(k:C Cx):D->C Ev->C (D×G)->Fm->G->R:=
 @List.rec Cx (λ_=>D->C Ev->C (D×G)->Fm->G->R) (λ_ _ _ t h=>j t h)
  (λd i g b a c t h=>match d.DZ with
   |none=>xD u (G2 b i) d b a c t h (λa c f e=>g (b+1) a c (DI t d.De f) e)
   |some (l,m)=>xE u (G2 b i) (A1 m (Fm.at t l)) d b a c t h (λa c f e=>g (b+1) a c (DI t d.De f) e)) k
abbrev JF:=D->C F->G->R
def LW(v:C FP)(w:JF)(d:LC->C LI->Fm->G->R):C LI->Fm->G->R
 |[],t,h=>Ov v t h
 | .Do e O::b,t,h=>d e b t h
 | .Do _ (A (c,a))::_,t,h=>w c (a.m (Fm.at t)) h
 | .Ca _::b,t,h=>LW v w d b t h
 | .Dt c a _::_,t,h=>w c (a.m (Fm.at t)) h
def PM(v:C FP)(w:JF)(c:LC->C LI->Fm->G->R)(b:D):C LI->Fm->G->R
 |[],_,_=>O
 | .Ca d::a,t,h=>Aj (AW b d) (LW v w c a t h) (PM v w c b a t h)
 | .Do _ _::a,t,h=>PM v w c b a t h
 | .Dt _ _ _::a,t,h=>PM v w c b a t h
def j4(u:Bd)(v:C FP)(w:JF)(b:LC->C LI->Fm->G->R)(j:LC)(a:C LI)(t:Fm)(h:G):R:=
 match j with
 | .skip=>LW v w b a t h
 | .HT i=>OT u (LW v w b a) i t h
 | .Hl i=>OS u (LW v w b a) i 0 [] [] t h
 | .D2 d c=>b d (.Do c O::a) t h
 | .Ni g e d c=>b d (.Do c (A (g,e))::a) t h
 | .GB k d c=>Da (b d a t h) (b c a t h) (k.ev t)
 | .Bc f c=>b c (.Ca f::a) t h
 | .Dt g e _=>w g (e.m (Fm.at t)) h
 | .Ck f=>PM v w b f a t h
 | .Dd=>Ov v t h
 | .CS=>O
def X(u:Bd)(v:C FP)(w:JF)(c:D):LC->C LI->Fm->G->R:=
 @Nat.rec (λ_=>LC->C LI->Fm->G->R) (λb a t h=>E u v b a t h) (λ_ d b a t h=>j4 u v w d b a t h) c
def J(u:Bd)(a:E2):JF:=λb c h=>match N5 b (Gj a.Do [])with
 |some p=>E u a.GR p.c p.S (Lx p.L c) h
 |none=>O
def XP(u:Bd)(a:E2)(p:Pt)(t:Fm)(h:G):R:=match p.c with
 | .Dt e c b=>X u a.GR (J u a) 100000 b (.Dt e c b::p.S) t h
 |d=>X u a.GR (J u a) 100000 d p.S t h
def XJ(u:Bd)(a:E2)(b:D)(c:C F)(h:G):R:=match N5 b (Gj a.Do [])with
 |some p=>XP u a p (Lx p.L c) h
 |none=>O
def X0(u:Bd)(a:E2)(b:C F)(h:G):R:=X u a.GR (J u a) 100000 a.Do [] (Jt b .h .nil) h
section
variable{u:Bd} {v:C FP}
theorem kI(b:Io)(t:Fm)(h:G)(d:F->G->R):V5 u b t h d=(D8 u b t h).b λp=>d p.1 p.2:=by
 cases b with
 |rd e a=>show(e.ev (AU t a) h).b _=(HL e (AU t a) h).b _;unfold HL;grind
 |al c a=>show(c.ev (AU t a) h.next).b _=(DT c (AU t a) h).b _;unfold DT;grind
 |ef f a=>rfl
 |call g a=>rfl
 |CS=>rfl
theorem Abe(b:Ah)(a:Io)(t:Fm)(h:G)(c:F->G->R):xG u b a t h c=(Aj b (D8 u a t h) (A (AC,h))).b λp=>c p.1 p.2:=by
 cases b with
 |false=>cases a<;>rfl
 |true=>
  show _=(D8 u a t h).b _
  rw[<-(kI (u:=u) a t h c)]
  cases a with
  |al d e=>show(DT d (AU t e) h).b _=(d.ev (AU t e) h.next).b _;unfold DT;grind
  |_=>rfl
theorem Jg(a:C LI):B7 u v a .Cd=O:=by cases a<;>unfold B7<;>rfl
theorem NF(a:C LI)(t:Fm)(h:G):B7 u v a (.Dd t h)=Ov v t h:=by cases a<;>unfold B7<;>rfl
theorem kJ(b:C LI):∀j t h,OT u (λt h=>B7 u v b (.CC t h)) j t h=B7 u v b (HK u j t h)
 |[],t,h=>rfl
 |a::c,t,h=>by
  have g:=kJ b c
  show(match a.DZ with
   |none=>wb a<|V5 u a.op t h (λi f=>OT u (λt h=>B7 u v b (.CC t h)) c (DI t a.De i) f)
   |some (d,e)=>wb a<|xG u (A1 e (Fm.at t d)) a.op t h (λi f=>OT u (λt h=>B7 u v b (.CC t h)) c (DI t a.De i) f))=_
  unfold HK
  cases m:a.DZ with
  |none=>
   rw[kC,kI]
   cases D8 u a.op t h with
   |none=>exact(Jg b).s
   |some l=>exact g _ _
  |some k=>
   obtain⟨d,e⟩:=k
   show wb a (xG u (A1 e (Fm.at t d)) a.op t h _)=B7 u v b (Aj (A1 e (Fm.at t d)) (iy (HK u c) t a.De (D8 u a.op t h)) (HK u c (DI t a.De AC) h))
   rw[kC,Abe]
   cases A1 e (Fm.at t d)with
   |false=>exact g _ _
   |true=>
    cases D8 u a.op t h with
    |none=>exact(Jg b).s
    |some l=>exact g _ _
theorem Wi{a:D}{h:G}{d:Ev}(e:Nat.testBit a d.JB=L)(c:C Ev):∀b,C0 a h (b++d::c)=C0 a h (b++c)
 |[]=>by show Aj (Aj (Nat.testBit a d.JB) L _) (C0 a h c) Aa=_;grind
 |f::b=>by show Aj _ (C0 a h (b++d::c)) Aa=Aj _ (C0 a h (b++c)) Aa;rw[Wi e c b]
theorem dE{a:D}{d:Rd}{f:C F}{e:F}{g:D×G}(i:Nat.testBit a g.1=L)(c:C (D×G)):∀b,DU a d f e (b++g::c)=DU a d f e (b++c)
 |[]=>by show Aj (Aj (Nat.testBit a g.1) L _) (DU a d f e c) Aa=_;grind
 |j::b=>by show Aj _ (DU a d f e (b++g::c)) Aa=Aj _ (DU a d f e (b++c)) Aa;rw[dE i c b]
theorem eA(u:Bd)(a:Ev)(f:C Ev):∀g i e j t h,G2 a.JB g=Aa->E6 u g i ⟨e++a::f,j⟩ t h=E6 u g i ⟨e++f,j⟩ t h
 |[],_,_,_,_,_,_=>rfl
 |b::l,i,e,j,t,h,c=>by
  have c:Aj (Nat.testBit b.bits a.JB) (G2 a.JB l) L=Aa:=c
  cases d:Nat.testBit b.bits a.JB with
  |false=>grind
  |true=>
   rw[d]at c
   have m:=eA u a f l
   rw[Lu,Lu]
   cases G5 b.DZ t with
   |false=>grind
   |true=>
    cases D8 u b.op t h with
    |none=>rfl
    |some n=>
     obtain⟨F,s⟩:=n
     unfold HG
     cases x:b.op with
     |rd E k=>simp only[I4,N0];grind
     |al o k=>exact m _ _ _ _ _ c
     |ef q k=>simp only[I4,Wi d];grind
     |call r k=>simp only[I4,Wi d];grind
     |CS=>simp only[I4,Wi d];grind
theorem Zo(u:Bd)(b:D×G)(g:C (D×G)):∀j d c f t h,G2 b.1 j=Aa->E6 u j d ⟨c,f++b::g⟩ t h=E6 u j d ⟨c,f++g⟩ t h
 |[],_,_,_,_,_,_=>rfl
 |e::k,d,c,f,t,h,a=>by
  have a:Aj (Nat.testBit e.bits b.1) (G2 b.1 k) L=Aa:=a
  cases i:Nat.testBit e.bits b.1 with
  |false=>rw[i]at a;cases a
  |true=>
   rw[i]at a
   have n:=Zo u b g k
   have E:=λd c t h m=>Zo u b g k d c (m::f) t h a
   rw[Lu,Lu]
   cases G5 e.DZ t with
   |false=>grind
   |true=>
    cases D8 u e.op t h with
    |none=>rfl
    |some m=>
     obtain⟨H,s⟩:=m
     unfold HG
     cases x:e.op with
     |rd F l=>simp only[I4,N0,dE i];grind
     |al o l=>exact n _ _ _ _ _ a
     |ef q l=>simp only[I4];grind
     |call r l=>simp only[I4];grind
     |CS=>simp only[I4];grind
theorem nc(u:Bd){a:C Cx}{b:Ev}(c:C Ev)(d:D)(e:C (D×G))(t:Fm)(h:G):E6 u a d ⟨Aj (G2 b.JB a) (b::c) c,e⟩ t h=E6 u a d ⟨b::c,e⟩ t h:=by
 cases f:G2 b.JB a with
 |true=>rfl
 |false=>exact(eA u b c a d [] e t h f).s
theorem eo(u:Bd){a:C Cx}{b:D×G}(c:C (D×G))(e:D)(d:C Ev)(t:Fm)(h:G):E6 u a e ⟨d,Aj (G2 b.1 a) (b::c) c⟩ t h=E6 u a e ⟨d,b::c⟩ t h:=by
 cases f:G2 b.1 a with
 |true=>rfl
 |false=>exact(Zo u b c a e d [] t h f).s
theorem kH(e:C LI):∀I a c f t h,OS u (λt h=>B7 u v e (.CC t h)) I a c f t h=B7 u v e (E6 u I a ⟨c,f⟩ t h)
 |[],_,_,_,t,h=>rfl
 |d::g,a,c,f,t,h=>by
  have G:=kH e g
  have H:xD u (G2 a g) d a c f t h (λc f i k=>OS u (λt h=>B7 u v e (.CC t h)) g (a+1) c f (DI t d.De i) k)=B7 u v e (HG (E6 u g (a+1)) a d ⟨c,f⟩ t h (D8 u d.op t h)):=by
   unfold xD
   simp only[G]
   cases s:d.op with
   |rd j b=>
    show(j.ev (AU t b) h).b _=B7 u v e (HG (E6 u g (a+1)) a d ⟨c,f⟩ t h (HL j (AU t b) h))
    unfold HL
    cases j.ev (AU t b) h with
    |none=>exact(Jg e).s
    |some i=>
     show Aj (Hc j) (Aj (DU d.bits j (AU t b) i f) _ O) _=B7 u v e (HG (E6 u g (a+1)) a d ⟨c,f⟩ t h (A (i,h)))
     unfold HG
     simp only[s]
     unfold I4
     simp only[]
     unfold N0
     cases Hc j with
     |false=>rfl
     |true=>
      cases DU d.bits j (AU t b) i f with
      |false=>exact(Jg e).s
      |true=>exact AdW (B7 u v e) (nc u (b:=⟨a,j,AU t b,i⟩) c (a+1) f _ h)
   |al n b=>
    show(n.ev (AU t b) h.next).b _=B7 u v e (HG (E6 u g (a+1)) a d ⟨c,f⟩ t h (DT n (AU t b) h))
    unfold DT
    cases n.ev (AU t b) h.next with
    |none=>exact(Jg e).s
    |some p=>obtain⟨J,i⟩:=p;simp only[AdP];unfold HG;simp only[s,I4]
   |ef o b=>
    show(o.ev (AU t b) h).b _=B7 u v e (HG (E6 u g (a+1)) a d ⟨c,f⟩ t h (o.ev (AU t b) h))
    cases o.ev (AU t b) h with
    |none=>exact(Jg e).s
    |some p=>
     obtain⟨i,k⟩:=p
     simp only[AdP]
     unfold HG
     simp only[s,I4]
     cases C0 d.bits k c with
     |false=>exact(Jg e).s
     |true=>exact AdW (B7 u v e) (eo u (b:=(a,h)) f (a+1) c _ k)
   |call q b=>
    show(C8 u (q.ev t) (AU t b) h).b _=B7 u v e (HG (E6 u g (a+1)) a d ⟨c,f⟩ t h (C8 u (q.ev t) (AU t b) h))
    cases C8 u (q.ev t) (AU t b) h with
    |none=>exact(Jg e).s
    |some p=>
     obtain⟨i,k⟩:=p
     simp only[AdP]
     unfold HG
     simp only[s,I4]
     cases C0 d.bits k c with
     |false=>exact(Jg e).s
     |true=>exact AdW (B7 u v e) (eo u (b:=(a,h)) f (a+1) c _ k)
   |CS=>exact(Jg e).s
  rw[Lu]
  show(match d.DZ with
   |none=>xD u (G2 a g) d a c f t h (λc f i k=>OS u (λt h=>B7 u v e (.CC t h)) g (a+1) c f (DI t d.De i) k)
   |some (l,m)=>xE u (G2 a g) (A1 m (Fm.at t l)) d a c f t h (λc f i k=>OS u (λt h=>B7 u v e (.CC t h)) g (a+1) c f (DI t d.De i) k))=_
  cases M:d.DZ with
  |none=>exact H
  |some r=>
   obtain⟨l,m⟩:=r
   show xE u _ _ d a c f t h _=B7 u v e (Aj (A1 m (Fm.at t l)) (HG (E6 u g (a+1)) a d ⟨c,f⟩ t h (D8 u d.op t h)) (E6 u g (a+1) ⟨c,f⟩ (DI t d.De AC) h))
   rw[(λr E F=>by cases r<;>rfl:∀r E F,B7 u v e (Aj r E F)=Aj r (B7 u v e E) (B7 u v e F)),<-H]
   unfold xE xD
   simp only[G]
   cases s:d.op with
   |rd j b=>
    simp only[]
    cases A1 m (Fm.at t l)with
    |false=>cases Hc j<;>cases G2 a g<;>rfl
    |true=>
     cases j.ev (AU t b) h with
     |none=>rfl
     |some i=>
      simp only[AdP]
      cases Hc j with
      |false=>rfl
      |true=>cases G2 a g<;>cases DU d.bits j (AU t b) i f<;>rfl
   |al n b=>
    cases A1 m (Fm.at t l)with
    |false=>rfl
    |true=>show(DT n (AU t b) h).b _=(n.ev (AU t b) h.next).b _;unfold DT;cases n.ev (AU t b) h.next<;>rfl
   |ef o b=>
    cases A1 m (Fm.at t l)with
    |false=>cases G2 a g<;>rfl
    |true=>
     show((o.ev (AU t b) h).b _).b _=(o.ev (AU t b) h).b _
     cases o.ev (AU t b) h with
     |none=>rfl
     |some p=>simp only[AdP];cases G2 a g<;>cases C0 d.bits p.2 c<;>rfl
   |call q b=>
    cases A1 m (Fm.at t l)with
    |false=>cases G2 a g<;>rfl
    |true=>
     show((C8 u (q.ev t) (AU t b) h).b _).b _=(C8 u (q.ev t) (AU t b) h).b _
     cases C8 u (q.ev t) (AU t b) h with
     |none=>rfl
     |some p=>simp only[AdP];cases G2 a g<;>cases C0 d.bits p.2 c<;>rfl
   |CS=>cases A1 m (Fm.at t l)<;>rfl
def XS(b:C T):C LI->(C T)×(D->C T)
 |[]=>(b,λ_=>[])
 | .Do e O::a=>(lv b e (XS b a).1 (XS b a).2,(XS b a).2)
 | .Do _ (A (_,c))::a=>(c,(XS b a).2)
 | .Ca f::a=>((XS b a).1,λd=>Aj (AW d f) (XS b a).1 ((XS b a).2 d))
 | .Dt _ c _::a=>(c,(XS b a).2)
def MW(y:C Pt)(b:C T):C LI->Prop
 |[]=>True
 | .Do d f::a=>IL b d (XS b a).1 (XS b a).2=L/\(∀p∈Gj d a,p∈y)/\(∀e c,f=A (e,c)->⟨e,c,d,a⟩∈y/\∀g∈lv b d (XS b a).1 (XS b a).2,g∈c)/\MW y b a
 | .Ca _::a=>MW y b a
 | .Dt e c d::a=>⟨e,c,.Dt e c d,a⟩∈y/\IL b (.Dt e c d) (XS b a).1 (XS b a).2=L/\MW y b a
theorem U3{t e:Fm}{h:G}:∀{v:C FP}{c:C F->R},Ag (DB v) t e->Mn t h v c=Mn e h v c
 |[],c,_=>rfl
 | .t f::g,c,a=>by show Mn t h g _=Mn e h g _;rw[a f (by simp[DB]),U3 (a.sub λp d=>by simp[DB,d])]
 | .B0 b f::g,c,a=>by show(A9 f h [Fm.at t b]).b _=(A9 f h [Fm.at e b]).b _;rw[a b (by simp[DB])];congr 1;funext i;exact U3 (a.sub λp d=>by simp[DB,d])
 | .M9 b::g,c,a=>by show(AM h [Fm.at t b]).b _=(AM h [Fm.at e b]).b _;rw[a b (by simp[DB])];congr 1;funext i;exact U3 (a.sub λp d=>by simp[DB,d])
theorem NE{y:C Pt}:∀{b:C LI}{n o:Cy},MW y (DB v) b->OA (DB v) (XS (DB v) b).1 (XS (DB v) b).2 n o->B7 u v b n=B7 u v b o
 |b,.Dd t h,.Dd d f,_,a=>by obtain⟨rfl,a⟩:=a;rw[NF,NF];exact U3 a
 |b,.Cd,.Cd,_,_=>rfl
 |[],.CC t h,.CC d f,_,a=>by obtain⟨rfl,a⟩:=a;exact U3 a
 |[],.Ck _ _ _,.Ck _ _ _,_,a=>rfl
 | .Do g O::b,.CC t h,.CC d f,c,a=>by obtain⟨rfl,a⟩:=a;exact NE (o:=C_ u g.erase d h) c.2.2.2 (Yf c.1 a)
 | .Do g (A (k,i))::b,.CC t h,.CC d f,c,a=>by obtain⟨rfl,a⟩:=a;exact NE (o:=C_ u g.erase d h) c.2.2.2 (Yf c.1 (a.sub (c.2.2.1 k i B).2))
 | .Do g O::b,.Ck e t h,.Ck l d f,c,a=>by obtain⟨rfl,rfl,a⟩:=a;exact NE (b:=b) c.2.2.2 ⟨B,B,a⟩
 | .Do g (A (k,i))::b,.Ck e t h,.Ck l d f,c,a=>by obtain⟨rfl,rfl,a⟩:=a;exact NE (b:=b) c.2.2.2 ⟨B,B,a⟩
 | .Ca j::b,.CC t h,.CC d f,c,a=>by obtain⟨rfl,a⟩:=a;exact NE (b:=b) c ⟨B,a⟩
 | .Ca j::b,.Ck e t h,.Ck l d f,c,a=>by
  obtain⟨rfl,rfl,a⟩:=a
  have a:Ag (Aj (AW e j) (XS (DB v) b).1 ((XS (DB v) b).2 e)) t d:=a
  show Aj (AW e j) (B7 u v b (.CC t h)) (B7 u v b (.Ck e t h))=Aj (AW e j) (B7 u v b (.CC d h)) (B7 u v b (.Ck e d h))
  cases g:AW e j with
  |true=>rw[g]at a;exact NE c ⟨B,a⟩
  |false=>rw[g]at a;exact NE c ⟨B,B,a⟩
 | .Dt k i m::b,.CC t h,.CC d f,c,a=>by obtain⟨rfl,a⟩:=a;exact NE (o:=C_ u (LC.Dt k i m).erase d h) c.2.2 (Yf c.2.1 a)
 | .Dt k i m::b,.Ck e t h,.Ck l d f,c,a=>by obtain⟨rfl,rfl,a⟩:=a;exact NE (b:=b) c.2.2 ⟨B,B,a⟩
theorem fw{t:Fm}:∀{a:C T},Ag a t (Lx a (a.m (Fm.at t)))
 |[]=>λp d=>by grind
 |b::a=>λp d=>by
  show Fm.at t p=Fm.at (PT.AJ (Lx a (a.m (Fm.at t))) b (A (Fm.at t b))) p;by_cases c:p=b;.subst c;unfold Fm.at;rw[PT.UF];rfl
  .have:Fm.at (PT.AJ (Lx a (a.m (Fm.at t))) b (A (Fm.at t b))) p=Fm.at (Lx a (a.m (Fm.at t))) p:=by
    unfold Fm.at
    rw[PT.UG _ _ _ _ c]
   rw[this]
   rcases Ad6.1 d with h|h
   .grind
   .exact fw p h
theorem c1(b f:LC)(d:Ae (D×C T))(a:C LI)(t:Fm)(h:G):B7 u v a (C_ u (.D2 b.erase f.erase) t h)=E u v b (.Do f d::a) t h:=by
 rw[w5]
 unfold E
 cases C_ u b.erase t h with
 |CC e c=>cases d<;>rfl
 |Dd e c=>show B7 u v a (.Dd e c)=_;rw[NF,NF]
 |Ck g e c=>cases d<;>rfl
 |Cd=>show B7 u v a .Cd=_;rw[Jg,Jg]
theorem kO(f:D)(e:C T)(b:LC)(a:C LI)(t:Fm)(h:G):E u v (.Dt f e b) a t h=E u v b (.Dt f e b::a) t h:=by
 unfold E
 show B7 u v a (C_ u (.Dt b.erase) t h)=_
 rw[w2]
 cases C_ u b.erase t h with
 |CC d c=>rfl
 |Dd d c=>show B7 u v a (.Dd d c)=_;rw[NF,NF]
 |Ck g d c=>rfl
 |Cd=>show B7 u v a .Cd=_;rw[Jg,Jg]
variable{y:C Pt} {w:JF} (z:∀p∈y,∀t h,w p.j (p.L.m (Fm.at t)) h=E u v p.c p.S t h)
theorem bU(z:∀p∈y,∀t h,w p.j (p.L.m (Fm.at t)) h=E u v p.c p.S t h){i:LC->C LI->Fm->G->R}(f:∀c a t h,MW y (DB v) a->IL (DB v) c (XS (DB v) a).1 (XS (DB v) a).2=L->(∀p∈Gj c a,p∈y)->i c a t h=E u v c a t h):∀a t h,MW y (DB v) a->LW v w i a t h=B7 u v a (.CC t h)
 |[],t,h,_=>rfl
 | .Do d O::a,t,h,b=>f d a t h b.2.2.2 b.1 b.2.1
 | .Do d (A (g,e))::a,t,h,b=>z _ (b.2.2.1 g e B).1 t h
 | .Ca _::a,t,h,b=>bU z f a t h b
 | .Dt g e d::a,t,h,b=>z _ b.1 t h
theorem X5(z:∀p∈y,∀t h,w p.j (p.L.m (Fm.at t)) h=E u v p.c p.S t h){f:LC->C LI->Fm->G->R}(e:∀d a t h,MW y (DB v) a->IL (DB v) d (XS (DB v) a).1 (XS (DB v) a).2=L->(∀p∈Gj d a,p∈y)->f d a t h=E u v d a t h)(b:D):∀a t h,MW y (DB v) a->PM v w f b a t h=B7 u v a (.Ck b t h)
 |[],t,h,_=>rfl
 | .Do i _::a,t,h,c=>X5 z e b a t h c.2.2.2
 | .Ca g::a,t,h,c=>by show Aj (AW b g) (LW v w f a t h) (PM v w f b a t h)=Aj (AW b g) _ _;rw[bU z e a t h c,X5 z e b a t h c]
 | .Dt k j i::a,t,h,c=>X5 z e b a t h c.2.2
theorem We(z:∀p∈y,∀t h,w p.j (p.L.m (Fm.at t)) h=E u v p.c p.S t h):∀e g a t h,MW y (DB v) a->IL (DB v) g (XS (DB v) a).1 (XS (DB v) a).2=L->(∀p∈Gj g a,p∈y)->X u v w e g a t h=E u v g a t h
 |0,g,a,t,h,_,_,_=>rfl
 |e+1,g,a,t,h,k,G,i=>by
  have j:=We z e
  have J:=bU z j a
  cases g with
  |skip=>show LW v w (X u v w e) a t h=B7 u v a (C_ u .skip t h);rw[w6];grind
  |HT m=>show OT u (LW v w (X u v w e) a) m t h=B7 u v a (C_ u (.HT m) t h);rw[w3,<-kJ];congr 1;grind
  |Hl m=>show OS u (LW v w (X u v w e) a) m 0 [] [] t h=B7 u v a (C_ u (.Hl m) t h);rw[wZ,<-kH];congr 1;funext t h;exact J t h k
  |D2 d c=>obtain⟨o,q⟩:=FR (G);show X u v w e d (.Do c O::a) t h=B7 u v a (C_ u (.D2 d.erase c.erase) t h);rw[c1 d c O];exact j d (.Do c O::a) t h ⟨o,λp h=>i p (AeT _ h),λ_ _ H=>(by cases H),k⟩ q (λp h=>i p (Ae0 _ h))
  |Ni x s d c=>obtain⟨M,n⟩:=FR (G);obtain⟨o,q⟩:=FR n;show X u v w e d (.Do c (A (x,s))::a) t h=B7 u v a (C_ u (.D2 d.erase c.erase) t h);rw[c1 d c (A (x,s))];exact j d (.Do c (A (x,s))::a) t h ⟨o,λp h=>i p (Aez _ (AeT _ h)),λ_ _ H=>(by cases H;exact⟨i _ (Aey ..),TM M⟩),k⟩ q (λp h=>i p (Aez _ (Ae0 _ h)))
  |GB n d c=>
   obtain⟨o,q⟩:=FR (G)
   show Da (X u v w e d a t h) (X u v w e c a t h) (n.ev t)=B7 u v a (C_ u (.GB n d.erase c.erase) t h)
   rw[wY,j d a t h k o (λp h=>i p (Ae0 _ h)),j c a t h k q (λp h=>i p (AeT _ h))]
   generalize n.ev t=N
   cases N with
   |b P=>cases P<;>rfl
   |_=>exact(Jg a).s
  |Bc f c=>
   show X u v w e c (.Ca f::a) t h=B7 u v a (C_ u (.Bc f c.erase) t h)
   rw[wX,j c (.Ca f::a) t h k G i]
   unfold E
   cases C_ u c.erase t h with
   |CC r l=>rfl
   |Dd r l=>show _=B7 u v a (.Dd r l);rw[NF,NF]
   |Ck F r l=>show _root_.cond (AW F f) _ _=B7 u v a (_root_.cond (AW F f) (.CC r l) (.Ck F r l));cases AW F f<;>rfl
   |Cd=>show _=B7 u v a .Cd;rw[Jg,Jg]
  |Dt x s c=>exact z _ (i _ (Aey ..)) t h
  |Ck f=>show PM v w (X u v w e) f a t h=B7 u v a (C_ u (.Ck f) t h);rw[w0];exact X5 z j f a t h k
  |Dd=>show Ov v t h=B7 u v a (C_ u .Dd t h);rw[w4,NF]
  |CS=>
   show O=B7 u v a (C_ u .CS t h);have:C_ u .CS t h=.Cd:=by
    by_cases g:C_ u .CS t h=.Cd;.omega
    .obtain⟨Q,I⟩:=Jh B g;rw[<-I];rfl
   rw[this,Jg]
end
theorem Pz(a:C T):∀h e c d,(MP a h e c d).1.erase=h
 | .skip,_,_,_=>rfl
 | .HT _,_,_,_=>rfl
 | .Hl _,_,_,_=>rfl
 | .Ck _,_,_,_=>rfl
 | .Dd,_,_,_=>rfl
 | .CS,_,_,_=>rfl
 | .D2 g b,e,c,d=>by
  unfold MP;have i:=Pz a b e c d;simp only[];split;.show G7.D2 _ _=_;rw[Pz a g,i]
  .show G7.D2 _ _=_;rw[Pz a g,i]
 | .GB h g b,e,c,d=>by show G7.GB h _ _=_;rw[Pz a g,Pz a b]
 | .Bc j b,e,c,d=>by show G7.Bc j _=_;rw[Pz a b]
 | .Dt b,e,c,d=>by show G7.Dt _=_;rw[Pz a b]
theorem h5{a:D}:∀{b:C D},Rg a b=L↔a∈b
 |[]=>by show Aa=L↔_;simp
 |d::b=>by
  show Aj (AW a d) L (Rg a b)=L↔_;rw[Ad6];by_cases c:a=d;.subst c;simp
  .rw[Gm c];show Rg a b=L↔_;rw[h5];grind
theorem im:∀{a:C D},bx a=L->a.Nodup
 |[],_=>Afp
 |d::a,b=>by
  have b:Aj (Rg d a) Aa (bx a)=L:=b
  cases c:Rg d a with
  |true=>grind
  |false=>rw[c]at b;refine Afz.2 ⟨λe=> ?_,im b⟩;rw[h5.2 e]at c;grind
theorem ff(a:D)(b:Pt)(c:C Pt):N5 a (b::c)=Aj (AW b.j a) (A b) (N5 a c):=rfl
theorem fg{c:D}{e:Pt}:∀{d:C Pt},N5 c d=A e->e∈d/\e.j=c
 |[],a=>by cases a
 |g::d,a=>by
  rw[ff]at a
  cases b:AW g.j c with
  |true=>rw[b]at a;cases a;exact⟨P,AdQ b⟩
  |false=>rw[b]at a;obtain⟨h,i⟩:=fg a;grind
theorem fh{c:Pt}:∀{b:C Pt},(b.m (·.j)).Nodup->c∈b->N5 c.j b=A c
 |[],_,a=>by grind
 |e::b,d,a=>by
  rw[ff];rw[AeC,Afz]at d;rcases Ad6.1 a with rfl|a;.rw[Aee];rfl
  .rw[Gm P];exact fh P a
section
variable{v:Bd} {w:C FP}
theorem NB{m:C Pt}:∀n c,MW m (DB w) c->IL (DB w) n (XS (DB w) c).1 (XS (DB w) c).2=L->(∀a∈Gj n c,a∈m)->∀a∈Gj n c,MW m (DB w) a.S/\IL (DB w) a.c (XS (DB w) a.S).1 (XS (DB w) a.S).2=L/\(∀o∈Gj a.c a.S,o∈m)/\(∀o∈lv (DB w) a.c (XS (DB w) a.S).1 (XS (DB w) a.S).2,o∈a.L)
 | .skip,c,_,_,_,a,b=>by cases b
 | .HT _,c,_,_,_,a,b=>by cases b
 | .Hl _,c,_,_,_,a,b=>by cases b
 | .Ck _,c,_,_,_,a,b=>by cases b
 | .Dd,c,_,_,_,a,b=>by cases b
 | .CS,c,_,_,_,a,b=>by cases b
 | .D2 k g,c,t,h,d,a,b=>by
  obtain⟨i,l⟩:=FR (h);have j:=λa e=>d a (AeT _ e);rcases Aej.1 b with b|b;.exact NB k (.Do g O::c) ⟨i,j,λ_ _ q=>(by cases q),t⟩ l (λa e=>d a (Ae0 _ e)) a b
  .exact NB g c t i j a b
 | .Ni r p k g,c,t,h,d,a,b=>by
  obtain⟨s,F⟩:=FR (h);obtain⟨i,l⟩:=FR F;have j:=λa e=>d a (Aez _ (AeT _ e));rcases Ad6.1 b with rfl|b;.exact⟨t,i,j,TM s⟩
  .rcases Aej.1 b with b|b;.exact NB k (.Do g (A (r,p))::c) ⟨i,j,λ_ _ q=>(by cases q;exact⟨(d _ (Aey ..)),TM s⟩),t⟩ l (λa e=>d a (Aez _ (Ae0 _ e))) a b
   .exact NB g c t i j a b
 | .GB n k g,c,t,h,d,a,b=>by
  obtain⟨i,l⟩:=FR (h);rcases Aej.1 b with b|b;.exact NB k c t i (λa e=>d a (Ae0 _ e)) a b
  .exact NB g c t l (λa e=>d a (AeT _ e)) a b
 | .Bc E g,c,t,h,d,a,b=>NB g (.Ca E::c) t h d a b
 | .Dt r p g,c,t,h,d,a,b=>by
  obtain⟨s,i⟩:=FR (h);rcases Ad6.1 b with rfl|b;.exact⟨t,h,d,λo x=>x⟩
  .exact NB g (.Dt r p g::c) ⟨(d _ (Aey ..)),h,t⟩ i (λa e=>d a (Aez _ e)) a b
variable{f:E2} (t:Nv f=L)
theorem bD(t:Nv f=L):IL (DB f.GR) f.Do (XS (DB f.GR) []).1 (XS (DB f.GR) []).2=L:=(FR (t)).1
theorem uS(t:Nv f=L):((Gj f.Do []).m (·.j)).Nodup:=im (FR (t)).2
theorem c4(t:Nv f=L):∀a∈Gj f.Do [],∀c b,J v f a.j (a.L.m (Fm.at c)) b=E v f.GR a.c a.S c b:=by intro a d c b;unfold J;rw[fh (uS t) d];obtain⟨e,g,i,h⟩:=NB f.Do [] Aeb (bD t) (λ_ b=>b) a d;exact(NE e (Yf g (fw.sub h))).s
theorem kQ(t:Nv f=L)(d:D)(c:C F)(b:G):J v f d c b=XJ v f d c b:=by
 unfold XJ
 cases j:N5 d (Gj f.Do [])with
 |none=>unfold J;rw[j]
 |some a=>
  obtain⟨o,rfl⟩:=fg j
  obtain⟨k,e,g,s⟩:=NB f.Do [] Aeb (bD t) (λ_ b=>b) a o
  have i:=c4 (v:=v) t
  have H:X v f.GR (J v f) 100000 a.c a.S (Lx a.L c) b=E v f.GR a.c a.S (Lx a.L c) b:=We i 100000 a.c a.S _ b k e g
  have m:J v f a.j c b=E v f.GR a.c a.S (Lx a.L c) b:=by unfold J;grind
  rw[m]
  show _=XP v f a (Lx a.L c) b
  unfold XP
  cases n:a.c with
  |Dt d l h=>rw[n]at e g;obtain⟨x,q⟩:=FR (e);rw[kO];exact(We i 100000 h (.Dt d l h::a.S) _ b ⟨g _ (Aey ..),e,k⟩ q (λr p=>g r (Aez _ p))).s
  |_=>grind
theorem k2(t:Nv f=L)(b:C F)(a:G):X0 v f b a=E v f.GR f.Do [] (Jt b .h .nil) a:=
 We (c4 t) 100000 f.Do [] _ a Aeb (bD t) P
end
theorem ck{v:Bd}{a:Gk}(t:Nv (Ou a)=L)(c:C F)(b:G):RD v a c b=X0 v (Ou a) c b:=by
 rw[k2 t]
 unfold RD E
 have:(Ou a).Do.erase=a.Ln:=Pz _ _ _ _ _
 rw[this]
 cases C_ v a.Ln (Jt c .h .nil) b with
 |CC d b=>exact(hA _ _ _).s
 |Dd d b=>rw[NF];exact(hA _ _ _).s
 |Ck _ _ _=>rfl
 |Cd=>rfl
section
variable(u:Program)
def L3:T->Ae Gk:=λa=>Aj (BX a.num 1000000) (Iz u (a.num-1)) O
def Jc(a:D):E2:=match Iz u a with
 |some f=>Ou f
 |none=>⟨[],.CS⟩
def Jz(a:D):Ah:=match Iz u a with
 |some f=>Aj (Nat.blt a 1000000) (Nv (Ou f)) Aa
 |none=>Aa
variable{u}
theorem AaI:∀a f,a<1000000->L3 u (pos a)=A f->Iz u a=A f:=by intro a f d b;obtain⟨e,c⟩:=DL b;rwa[LO d]at c
theorem AaJ{a:D}(b:a<1000000):L3 u (pos a)=Iz u a:=by unfold L3;rw[LO b,AfT,AdX (by omega)];rfl
theorem XR{a:D}(c:Jz u a=L):∃b,L3 u (pos a)=A b/\Jc u a=Ou b/\Nv (Ou b)=L/\Nv (Jc u a)=L/\a<1000000:=by
 unfold Jz at c;split at c
 .rename_i f i;obtain⟨g,h⟩:=FR c;have d:a<1000000:=by rwa[Afh]at g
  have e:Jc u a=Ou f:=by unfold Jc;grind
  exact⟨f,by rw[AaJ d];omega,e,h,by grind,d⟩
 grind
variable{z:T->C F->Ae F} {y:T->Ah}
theorem mV{a:D}{g d:C F}{h b c e:G}{i j:F}(t:Jz u a=L)(l:y (pos a)=Aa)(k:FV h g=A (d,b))(m:z (pos a) d=O)(o:X0 (W z y (L3 u)) (Jc u a) d G.Aq=A (i,c))(n:Dp c i=A (j,e)):W z y (L3 u) (pos a) g h=A (j,b):=by obtain⟨p,b,c,e,_⟩:=XR t;refine kZ l b k m ?_ n;rw[ck e,<-c];omega
theorem mU{a:D}{b:C F}{c:G}{d:F×G}(t:Jz u a=L)(i:y (pos a)=L)(j:X0 (W z y (L3 u)) (Jc u a) b c=A d):W z y (L3 u) (pos a) b c=A d:=by obtain⟨k,e,g,h,_⟩:=XR t;refine kY i e ?_;rw[ck h,<-g];omega
theorem JB{c:D}(t:Jz u c=L)(v:Bd)(b:D)(d:C F)(a:G):J v (Jc u c) b d a=XJ v (Jc u c) b d a:=by obtain⟨g,h,i,j,e,_⟩:=XR t;exact kQ e b d a
end
def f1(a:F×G):F:=a.1
def f2(a:F×G):G:=a.2
def Fw{a:Type}(b:Ah)(c d:a):a:=Aj b c d
theorem JT{d:Type}(a:Ah)(b c:d):Fw a b c=Aj a b c:=AeB B B
def nx(a:G):T:=a.next
def LN(a:C F):D:=Bq a
def CL(a:F):C F:=a.I
theorem JN(a:C F):LN a=Bq a:=AeB B B
theorem JL(a:F):CL a=a.I:=AeB B B
def bl(c:F)(a:G)(b:F->G->R):R:=b c a
def Ix(c:Al)(e:C F)(a:G)(d:F->G->R):R:=(c.ev e a.next).b λb=>d b.2 (a.V b.1)
def Wr(c:Al)(d:C F)(a:G)(b:F->G->R):R:=match c,d with
 | .alloc f,[]=>bl (.p (nx a) 0) (a.V (.I (LN f) f)) b
 | .box,[e]=>bl (.p (nx a) 0) (a.V (.I (LN (CL e)) (CL e))) b
 | .bk,_=>bl (.m (nx a)) (a.V (.Bn [] 0)) b
 |c,d=>Ix c d a b
def dQ(b:Al)(e:C F)(a:G)(c:F->G->R):Wr b e a c=(b.ev e a.next).b λd=>c d.2 (a.V d.1):=by unfold Wr;split<;>rfl
def cY(k:Bd)(m:Io)(e:Fm)(a:G)(c:F->G->R):R:=
 match m with
 | .rd g b=>match g,AU e b with
  | .mv,[h]=>c h a
  | .Vf f,i=>c (.f f i) a
  |g,i=>(g.ev i a).b λh=>c h a
 | .al j b=>Wr j (AU e b) a c
 | .ef l b=>(l.ev (AU e b) a).b λd=>c (f1 d) (f2 d)
 | .call f b=>(C8 k (f.ev e) (AU e b) a).b λd=>c (f1 d) (f2 d)
 | .CS=>O
def yG(h:Bd)(d:Ah)(k:Io)(f:Fm)(a:G)(e:F->G->R):R:=
 match k with
 | .rd l c=>(Fw d (l.ev (AU f c) a) (A AC)).b λm=>e m a
 | .al g c=>(Fw d (DT g (AU f c) a) (A (AC,a))).b λb=>e (f1 b) (f2 b)
 | .ef i c=>(Fw d (i.ev (AU f c) a) (A (AC,a))).b λb=>e (f1 b) (f2 b)
 | .call j c=>(Fw d (C8 h (j.ev f) (AU f c) a) (A (AC,a))).b λb=>e (f1 b) (f2 b)
 | .CS=>Fw d O (e AC a)
def V6(e:Bd)(h:Fm->G->R)(i:C Cx):Fm->G->R:=
 @List.rec Cx (λ_=>Fm->G->R) h
  (λa _ g b f=>match a.DZ with
   |none=>wb a<|cY e a.op b f (λd c=>g (DI b a.De d) c)
   |some (j,k)=>wb a<|yG e (A1 k (Fm.at b j)) a.op b f (λd c=>g (DI b a.De d) c)) i
def Fc{c:Type}:C (Ae Ah×c)->C c
 |[]=>[]
 |(O,b)::a=>b::Fc a
 |(A d,b)::a=>C2 d b (Fc a)
def P8{b:Type}:C (Ae Ah×b)->Ah
 |[]=>Aa
 |(O,_)::a=>P8 a
 |(A _,_)::_=>L
def tb(b d:D):Ah:= @Nat.rec (λ_=>D->Ah) (λa=>AW (Nat.mod a 2) 1) (λ_ c a=>c (Nat.div a 2)) d b
def cH(a b:D):tb a b=Nat.testBit a b:=by
 induction b generalizing a with
 |zero=>rw[Nat.testBit_zero];show AW (a % 2) 1=_;rw[Aek,Nat.beq_eq,decide_eq_true_iff]
 |succ b c=>rw[Nat.testBit_succ,<-c];rfl
def Rj(a:D):C Cx->Ah
 |[]=>Aa
 |b::c=>Aj (tb b.bits a) (Rj a c) L
def ie(a:D):∀c,Rj a c=G2 a c
 |[]=>rfl
 |d::b=>by show Aj (tb d.bits a) (Rj a b) L=Aj (Nat.testBit d.bits a) (G2 a b) L;rw[cH,ie a b]
def I2(a b c:Ah):Ah:=Aj a b c
def P6(b:D)(c:G):C (Ae Ah×Ev)->Ae Ah
 |[]=>O
 |a::d=>Aj (tb b a.2.JB) (P6 b c d) (A (I2 (Bv a.2.r a.2.xs c a.2.v) ((P6 b c d).g L) Aa))
def R3{e:Type}(c:D)(d:G)(a:C (Ae Ah×Ev))(b:Ae e):Ae e:=Aj (P8 a) (Fw (C0 c d (Fc a)) b O) (match P6 c d a with
 |none=>b
 |some f=>Fw f b O)
def Qc(a:D)(b:Rd)(d:C F)(c:F):C (Ae Ah×D×G)->Ae Ah
 |[]=>O
 |f::e=>Aj (tb a f.2.1) (Qc a b d c e) (A (I2 (Bv b d f.2.2 c) ((Qc a b d c e).g L) Aa))
def Ue{g:Type}(c:D)(d:Rd)(f:C F)(e:F)(a:C (Ae Ah×D×G))(b:Ae g):Ae g:=Aj (P8 a) (Fw (DU c d f e (Fc a)) b O) (match Qc c d f e a with
 |none=>b
 |some h=>Fw h b O)
def db{a:D}{b:G}:∀{f:C (Ae Ah×Ev)},P8 f=Aa->C0 a b (Fc f)=(P6 a b f).g L
 |[],_=>rfl
 |(O,c)::d,e=>by show Aj (Aj (Nat.testBit a c.JB) L (Bv c.r c.xs b c.v)) (C0 a b (Fc d)) Aa=Option.getD (Aj (tb a c.JB) (P6 a b d) (A (Aj (Bv c.r c.xs b c.v) ((P6 a b d).g L) Aa))) L;rw[(db (a:=a) (b:=b) (f:=d) e),cH];grind
 |(A _,_)::_,e=>by cases e
def dJ{a:D}{b:Rd}{d:C F}{c:F}:∀{h:C (Ae Ah×D×G)},P8 h=Aa->DU a b d c (Fc h)=(Qc a b d c h).g L
 |[],_=>rfl
 |(O,f)::e,g=>by show Aj (Aj (Nat.testBit a f.1) L (Bv b d f.2 c)) (DU a b d c (Fc e)) Aa=Option.getD (Aj (tb a f.1) (Qc a b d c e) (A (Aj (Bv b d f.2 c) ((Qc a b d c e).g L) Aa))) L;rw[(dJ (a:=a) (b:=b) (d:=d) (c:=c) (h:=e) g),cH];grind
 |(A _,_)::_,g=>by cases g
def Wh{f:Type}(b:D)(c:G)(a:C (Ae Ah×Ev))(d:Ae f):R3 b c a d=Aj (C0 b c (Fc a)) d O:=by
 unfold R3
 cases e:P8 a with
 |true=>rfl
 |false=>rw[db e];cases P6 b c a<;>rfl
def dI{h:Type}(b:D)(c:Rd)(e:C F)(d:F)(a:C (Ae Ah×D×G))(f:Ae h):Ue b c e d a f=Aj (DU b c e d (Fc a)) f O:=by
 unfold Ue
 cases g:P8 a with
 |true=>rfl
 |false=>rw[dJ g];cases Qc b c e d a<;>rfl
def yD(p:Bd)(n:Ah)(k:Cx)(m:D)(b:C (Ae Ah×Ev))(c:C (Ae Ah×D×G))(j:Fm)(a:G)(e:C (Ae Ah×Ev)->C (Ae Ah×D×G)->F->G->R):R:=
 match k.op with
 | .rd h g=>match h,AU j g with
  | .mv,[d]=>e b c d a
  | .Vf l,i=>e b c (.f l i) a
  |h,i=>(h.ev i a).b λd=>Aj (Hc h) (Ue k.bits h i d c (e (Aj n ((O,⟨m,h,i,d⟩)::b) b) c d a)) (e b c d a)
 | .al o g=>Wr o (AU j g) a λd a=>e b c d a
 | .ef q g=>(q.ev (AU j g) a).b λf=>R3 k.bits (f2 f) b (e b (Aj n ((O,m,a)::c) c) (f1 f) (f2 f))
 | .call l g=>(C8 p (l.ev j) (AU j g) a).b λf=>R3 k.bits (f2 f) b (e b (Aj n ((O,m,a)::c) c) (f1 f) (f2 f))
 | .CS=>O
def yE(o:Bd)(m e:Ah)(k:Cx)(l:D)(c:C (Ae Ah×Ev))(f:C (Ae Ah×D×G))(g:Fm)(b:G)(i:C (Ae Ah×Ev)->C (Ae Ah×D×G)->F->G->R):R:=match k.op with
 | .rd j d=>(Fw e ((j.ev (AU g d) b).b λh=>Aj (Hc j) (Ue k.bits j (AU g d) h f (A h)) (A h)) (A AC)).b λh=>i (Aj (Hc j) (Aj m ((A e,⟨l,j,AU g d,h⟩)::c) c) c) f h b
 | .al n d=>(Fw e (DT n (AU g d) b) (A (AC,b))).b λa=>i c f (f1 a) (f2 a)
 | .ef p d=>(Fw e ((p.ev (AU g d) b).b λa=>R3 k.bits (f2 a) c (A a)) (A (AC,b))).b λa=>i c (Aj m ((A e,l,b)::f) f) (f1 a) (f2 a)
 | .call q d=>(Fw e ((C8 o (q.ev g) (AU g d) b).b λa=>R3 k.bits (f2 a) c (A a)) (A (AC,b))).b λa=>i c (Aj m ((A e,l,b)::f) f) (f1 a) (f2 a)
 | .CS=>Fw e O (i c f AC b)
def Yw(i:Bd)(l:Fm->G->R)(m:C Cx):D->C (Ae Ah×Ev)->C (Ae Ah×D×G)->Fm->G->R:=
 @List.rec Cx (λ_=>D->C (Ae Ah×Ev)->C (Ae Ah×D×G)->Fm->G->R) (λ_ _ _ a f=>l a f)
  (λe k j c b d a f=>match e.DZ with
   |none=>yD i (Rj c k) e c b d a f (λb d h g=>j (c+1) b d (DI a e.De h) g)
   |some (n,o)=>yE i (Rj c k) (A1 o (Fm.at a n)) e c b d a f (λb d h g=>j (c+1) b d (DI a e.De h) g)) m
def j5(m:Bd)(h:C FP)(f:JF)(d:LC->C LI->Fm->G->R)(n:LC)(c:C LI)(a:Fm)(b:G):R:=
 match n with
 | .skip=>LW h f d c a b
 | .HT l=>V6 m (LW h f d c) l a b
 | .Hl l=>Yw m (LW h f d c) l 0 [] [] a b
 | .D2 g e=>d g (.Do e O::c) a b
 | .Ni k i g e=>d g (.Do e (A (k,i))::c) a b
 | .GB o g e=>Da (d g c a b) (d e c a b) (o.ev a)
 | .Bc j e=>d e (.Ca j::c) a b
 | .Dt k i _=>f k (i.m (Fm.at a)) b
 | .Ck j=>PM h f d j c a b
 | .Dd=>Ov h a b
 | .CS=>O
def Y(e:Bd)(f:C FP)(g:JF)(h:D):LC->C LI->Fm->G->R:=
 @Nat.rec (λ_=>LC->C LI->Fm->G->R) (λb a d c=>E e f b a d c) (λ_ i b a d c=>j5 e f g i b a d c) h
def Abi(i:Bd)(f:Io)(e:Fm)(a:G)(b:F->G->R):cY i f e a b=V5 i f e a b:=by
 cases f with
 |rd d h=>
  show(match d,AU e h with| .mv,[c]=>b c a| .Vf k,g=>b (.f k g) a|d,g=>(d.ev g a).b λc=>b c a)=(d.ev (AU e h) a).b λc=>b c a;split;.rename_i c j;rw[j];rfl
  .rfl
  grind
 |al l h=>exact dQ ..
 |_=>rfl
def Abh(b:Bd)(c:Ah)(a:Io)(f:Fm)(d:G)(e:F->G->R):yG b c a f d e=xG b c a f d e:=by cases a<;>rfl
def Abj(b:Bd)(f:Fm->G->R)(i:C Cx):V6 b f i=OT b f i:=by
 induction i with
 |nil=>rfl
 |cons a h l=>
  funext c g;show(match a.DZ with
   |none=>wb a<|cY b a.op c g (λe d=>V6 b f h (DI c a.De e) d)
   |some (j,k)=>wb a<|yG b (A1 k (Fm.at c j)) a.op c g (λe d=>V6 b f h (DI c a.De e) d))=(match a.DZ with
   |none=>wb a<|V5 b a.op c g (λe d=>OT b f h (DI c a.De e) d)
   |some (j,k)=>wb a<|xG b (A1 k (Fm.at c j)) a.op c g (λe d=>OT b f h (DI c a.De e) d))
  rw[l];split;.rw[Abi]
  .rw[Abh]
def VG{d:Type}(b:Ah)(c:Ae Ah×d)(a:C (Ae Ah×d)):Fc (Aj b (c::a) a)=Aj b (Fc (c::a)) (Fc a):=by grind
def Abf(n:Bd)(l:Ah)(d:Cx)(k:D)(c:C (Ae Ah×Ev))(e:C (Ae Ah×D×G))(q:Fm)(b:G){i:C (Ae Ah×Ev)->C (Ae Ah×D×G)->F->G->R}{j:C Ev->C (D×G)->F->G->R}(h:∀p d a b,i p d a b=j (Fc p) (Fc d) a b):yD n l d k c e q b i=xD n l d k (Fc c) (Fc e) q b j:=by
 unfold yD xD
 cases d.op with
 |rd f m=>
  have u:∀g:C F,((f.ev g b).b λa=>Aj (Hc f) (Ue d.bits f g a e (i (Aj l ((O,⟨k,f,g,a⟩)::c) c) e a b)) (i c e a b))=(f.ev g b).b λa=>Aj (Hc f) (Aj (DU d.bits f g a (Fc e)) (j (Aj l (⟨k,f,g,a⟩::Fc c) (Fc c)) (Fc e) a b) O) (j (Fc c) (Fc e) a b):=λg=>by congr 1;funext a;rw[dI,h,h,VG];rfl
  simp only[];split;.rename_i o;rw[o];exact h ..
  .exact h ..
  grind
 |al s m=>simp only[];rw[dQ];grind
 |ef o m=>simp only[];congr 1;funext r;rw[Wh,h,VG];rfl
 |call t m=>simp only[];congr 1;funext r;rw[Wh,h,VG];rfl
 |CS=>rfl
def Abg(g:Bd)(d h:Ah)(a:Cx)(m:D)(l:C (Ae Ah×Ev))(n:C (Ae Ah×D×G))(o:Fm)(b:G){i:C (Ae Ah×Ev)->C (Ae Ah×D×G)->F->G->R}{j:C Ev->C (D×G)->F->G->R}(c:∀k a e b,i k a e b=j (Fc k) (Fc a) e b):yE g d h a m l n o b i=xE g d h a m (Fc l) (Fc n) o b j:=by
 unfold yE xE
 cases a.op with
 |rd p f=>simp only[dI,c];congr 1;funext e;congr 1;cases Hc p<;>cases d<;>rfl
 |al q f=>simp only[c];rfl
 |ef r f=>simp only[Wh,c,VG];rfl
 |call s f=>simp only[Wh,c,VG];rfl
 |CS=>simp only[c];rfl
def cX(e:Bd)(j:Fm->G->R):∀(l:C Cx)(b:D)(a:C (Ae Ah×Ev))(c:C (Ae Ah×D×G))(d:Fm)(h:G),Yw e j l b a c d h=OS e j l b (Fc a) (Fc c) d h
 |[],_,_,_,_,_=>rfl
 |f::g,b,a,c,d,h=>by
  show(match f.DZ with
   |none=>yD e (Rj b g) f b a c d h (λa c i k=>Yw e j g (b+1) a c (DI d f.De i) k)
   |some (m,n)=>yE e (Rj b g) (A1 n (Fm.at d m)) f b a c d h (λa c i k=>Yw e j g (b+1) a c (DI d f.De i) k))=(match f.DZ with
   |none=>xD e (G2 b g) f b (Fc a) (Fc c) d h (λa c i k=>OS e j g (b+1) a c (DI d f.De i) k)
   |some (m,n)=>xE e (G2 b g) (A1 n (Fm.at d m)) f b (Fc a) (Fc c) d h (λa c i k=>OS e j g (b+1) a c (DI d f.De i) k))
  rw[ie];split;.exact Abf _ _ _ _ _ _ _ _ λl f i h=>cX e j g _ _ _ _ _
  .exact Abg _ _ _ _ _ _ _ _ _ λl f i h=>cX e j g _ _ _ _ _
def YB(b:Bd)(c:C FP)(a:JF):∀d,Y b c a d=X b c a d
 |0=>rfl
 |d+1=>by
  funext e f h g
  show j5 b c a (Y b c a d) e f h g=j4 b c a (X b c a d) e f h g
  rw[YB b c a d]
  cases e with
  |HT i=>show V6 _ _ _ _ _=OT _ _ _ _ _;rw[Abj]
  |Hl i=>exact cX ..
  |_=>rfl
def YJ(f:Bd)(b:E2)(d:JF)(c:D)(h:C F)(g:G):R:=match N5 c (Gj b.Do [])with
 |some a=>match a.c with
  | .Dt c i e=>Y f b.GR d 100000 e (.Dt c i e::a.S) (Lx a.L h) g
  |j=>Y f b.GR d 100000 j a.S (Lx a.L h) g
 |none=>O
def Y0(d:Bd)(a:E2)(b:JF)(c:C F)(e:G):R:=Y d a.GR b 100000 a.Do [] (Jt c .h .nil) e
def k4(b:Bd)(a:E2)(c:D)(e:C F)(d:G):XJ b a c e d=YJ b a (J b a) c e d:=by
 unfold XJ YJ
 cases N5 c (Gj a.Do [])with
 |none=>rfl
 |some f=>simp only[YB];unfold XP;grind
def k3(a:Bd)(b:E2)(c:C F)(d:G):X0 a b c d=Y0 a b (J a b) c d:=by unfold X0 Y0;rw[YB]
theorem JX(a:Bd)(b:T)(d:C F)(c:G):C8 a (.f b []) d c=a b d c:=by show a b (d++[]) c=_;grind
theorem J9:T.h=pos 0:=AeB B B
theorem Ka{a:D}(c:a<400000):T.o (pos a)=pos (2*a+1):=by have b:=LO (a:=a) (by omega);refine T.Vo ?_;rw[LO (by omega)];show 2*(pos a).num=_;omega
theorem J_{a:D}(c:a<400000):T.i (pos a)=pos (2*a+2):=by have b:=LO (a:=a) (by omega);refine T.Vo ?_;rw[LO (by omega)];show 2*(pos a).num+1=_;omega
theorem J5:Bq []=0:=AeB B B
theorem J4(b:F)(a:C F):Bq (b::a)=Bq a+1:=AeB B B
theorem JY(a:F×G):f1 a=a.1:=AeB B B
theorem JZ(a:F×G):f2 a=a.2:=AeB B B
theorem J8(a:G):nx a=a.next:=AeB B B
theorem JR(b c:D)(f:C F)(a:G)(d:F->G->R):Ix (.Ga b c) f a d=(Dq b c a.next f).b λe=>d e.2 (a.V e.1):=AeB B B
theorem JQ(g:C F)(b c:D)(f:C F)(a:G)(d:F->G->R):Ix (.bm g b c) f a d=(Gd g b c a.next f).b λe=>d e.2 (a.V e.1):=AeB B B
abbrev F.n(x:Int):F:=.i .i64 x
end Go.Fg
namespace Go.Proofs.YtbmnfifnenajjaaGreat
open Go.Fg
def P9:Program:=Tryz.prog
def OE(a:D):Ah:=Jz P9 a
def xx(b:Bd)(d:D)(a:C F)(c:G):R:=X0 b (Jc P9 d) a c
def jj(a:Bd)(d c:D)(e:C F)(b:G):R:=J a (Jc P9 d) c e b
def Nh{d:D}(f:OE d=L)(a:Bd)(c:D)(e:C F)(b:G):jj a d c e b=XJ a (Jc P9 d) c e b:=JB f a c e b
def Ac8{b:D}{a:Gk}(c:Iz P9 b=A a):Jc P9 b=Ou a:=by unfold Jc;rw[c]
variable{a:D}
def jl{c:E2}(g:Jc P9 a=c)(h:OE a=L)(b:Bd)(e:D)(f:C F)(d:G):jj b a e f d=YJ b c (jj b a) e f d:=by rw[Nh h,k4];subst g;rfl
def xl{b:D}{c:E2}(f:Jc P9 b=c)(a:Bd)(d:C F)(e:G):xx a b d e=Y0 a c (jj a b) d e:=by unfold xx;rw[k3];subst f;rfl
def rA:C D:=[34,35,43,44,45,46,75,77,58,56,57,49,50,51,52,53,54,59,68,62,87,88,70,66,65,89,117,106,105,114,92,95,96,97,98,99,101,102,103,118,119,120,121,63,132,60,173,174,175,168,136,137,139,143,146,147,148,150,151,152,156,157,158,176,177,178,179,180,185,205,187,188,191,192,194,195,196,198,200,201,202,206,207,208,211,212,213,214,215,216,217,218,210,221,225,227,228,229,230,249,250,252,253,254,258,259,261]
def KX:T->Ah:=λa=>Rg (a.num-1) rA
def W9:Bd:=W (λ_ _=>O) KX (L3 P9)
def mP(n:OE a=L)(l:KX (pos a)=Aa){b c:C F}{d e f j:G}{g h:F}(k:FV d b=A (c,e))(i:xx W9 a c G.Aq=A (g,f))(m:Dp f g=A (h,j)):W9 (pos a) b d=A (h,e):=
 mV n l k B i m
def mQ(g:OE a=L)(f:KX (pos a)=L){b:C F}{c:G}{d:F×G}(e:xx W9 a b c=A d):W9 (pos a) b c=A d:=
 mU g f e
