/- Part of the proof. -/
import Derived.Test.YtmnfpdedgnfeiaaGreatProg
import Derived.KernelRfl
import Derived.Test.YtmnfpdedgnfeiaaGreatMae
set_option linter.all false
noncomputable section
open Option renaming some->A,none->O,getD->Option.g,bind->Option.b
open _root_ renaming rfl->B,List->C,Nat->D,Option->Aj,Bool->Ak,cond->An
open Bool renaming true->L,false->Ac
open Nat renaming beq->Bb,ble->Co
open List renaming map->List.m,take->List.t,flatMap->List.f
open Go.IntKind renaming i64->Go.IntKind.n
open Eq renaming trans->Eq.t,symm->Eq.s
open Or renaming inl->Or.i,inr->Or.j
open Int renaming toNat->Int.n
namespace Go.Fg
theorem Aa.bB(a:Aa):Aa.eq a a=L:=by
 induction a with
 |h=>rfl
 |o a b=>exact b
 |i a b=>exact b
theorem AaW(a:Aa):Sx a []=Ac:=rfl
theorem AaV(a c:Aa)(b:C Aa):Sx a (c::b)=An (Aa.eq a c) L (Sx a b):=rfl
theorem dk{a:Aa}:∀{b:C Aa},Sx a b=L↔a∈b
 |[]=>by simp[AaW]
 |d::b=>by
  rw[AaV]
  cases c:Aa.eq a d with
  |true=>simp[Aa.LH c]
  |false=>
   have:a≠d:=λe=>by rw[e,Aa.bB]at c;grind
   simp[this,dk]
theorem AaX{b c:Aa}{a:C Aa}:c∈XG b a↔c=b\/c∈a:=by
 unfold XG
 cases d:Sx b a with
 |true=>exact⟨.j,λf=>f.elim (λe=>by rw[e];exact dk.1 d) id⟩
 |false=>simp
theorem NL{b:Aa}:∀{c a:C Aa},b∈Re c a↔b∈c\/b∈a
 |[],a=>by show b∈a↔_;simp
 |d::c,a=>by show b∈XG d (Re c a)↔_;rw[AaX,NL,Ait,or_assoc]
theorem dm{a c:Aa}:∀{b:C Aa},c∈Qj a b↔c∈b/\c≠a
 |[]=>by show c∈([])↔_;simp
 |d::b=>by
  show c∈An (Aa.eq a d) (Qj a b) (d::Qj a b)↔_
  cases e:Aa.eq a d with
  |true=>have:=Aa.LH e;subst this;show c∈Qj a b↔_;rw[dm,Ait];grind
  |false=>
   have:d≠a:=λf=>by rw[f,Aa.bB]at e;grind
   show c∈d::Qj a b↔_;simp only[Ait,dm];grind
theorem U0:∀{c d:C Aa},eF c d=L->∀b∈c,b∈d
 |[],_,_,b,a=>by grind
 |h::c,d,e,b,a=>by
  obtain⟨f,g⟩:=Gj e;rcases Ait.1 a with rfl|a;.exact dk.1 f
  .exact U0 g b a
def Ag(b:C Aa)(c d:Fm):Prop:=∀a∈b,Fm.at c a=Fm.at d a
theorem Ag.sub{b c:C Aa}{d e:Fm}(f:Ag b d e)(h:∀a∈c,a∈b):Ag c d e:=λa g=>f a P
theorem Ag.od{b:C Aa}{e f:Fm}(g:Ag b e f){a:Od}(i:∀h∈Km [a],h∈b):a.ev e=a.ev f:=by
 cases a with
 |t d=>exact g d (i d (by simp[Km]))
 |c j=>rfl
theorem Ag.D6{i:C Aa}{b c:Fm}(f:Ag i b c):∀{h:C Od},(∀g∈Km h,g∈i)->A3 b h=A3 c h
 |[],_=>rfl
 | .t d::a,e=>by show Fm.at b d::A3 b a=Fm.at c d::A3 c a;rw[f d (e d (by simp[Km])),Ag.D6 f (λg k=>e g (by simp[Km,k]))]
 | .c j::a,e=>by show j::A3 b a=j::A3 c a;rw[Ag.D6 (h:=a) f e]
theorem Ag.AM{c:C Aa}{g h:Fm}{a:Aj Aa}(d:Ag (match a with|some a=>Qj a c|none=>c) g h)(f:F):Ag c (Ej g a f) (Ej h a f):=by
 cases a with
 |none=>exact d
 |some a=>
  intro e i;by_cases b:e=a;.subst b;rw[Fm.Vl,Fm.Vl]
  .rw[Fm.Tw _ _ b,Fm.Tw _ _ b];exact d e (dm.2 ⟨i,b⟩)
theorem Ag.U7{e:C Aa}{c d:Fm}(g:Ag e c d){a:Aj (Aa×Ak)}(i:∀h∈YT a,h∈e):HJ a c=HJ a d:=by
 cases a with
 |none=>rfl
 |some j=>obtain⟨b,f⟩:=j;show AO f (Fm.at c b)=AO f (Fm.at d b);rw[g b (i b (by simp[YT]))]
theorem Ag.EE{l:C Aa}{d e:Fm}(g:Ag l d e)(u:Bh){k:Io}(i:∀h∈Km k.SF,h∈l)(b:G):Go.Fg.EE u k d b=Go.Fg.EE u k e b:=by
 cases k with
 |rd o a=>show Ik o (A3 d a) b=Ik o (A3 e a) b;rw[g.D6 (h:=a) i]
 |al m a=>show DX m (A3 d a) b=DX m (A3 e a) b;rw[g.D6 (h:=a) i]
 |ef n a=>show n.ev (A3 d a) b=n.ev (A3 e a) b;rw[g.D6 (h:=a) i]
 |call j a=>
  show Du u (j.ev d) (A3 d a) b=Du u (j.ev e) (A3 e a) b;rw[g.od (λh f=>i h (by
   cases j with
   |t p=>simp[Km]at f;simp[Io.SF,Km,f]
   |c q=>simp[Km]at f)),g.D6 (λh f=>i h (by
   cases j with
   |t p=>simp[Io.SF,Km,f]
   |c q=>simp[Io.SF,Km,f]))]
 |Dd=>rfl
def OA(w f:C Aa)(v:D->C Aa):CK->CK->Prop
 | .CP c a,.CP d b=>a=b/\Ag f c d
 | .DG c a,.DG d b=>a=b/\Ag w c d
 | .Cm e c a,.Cm g d b=>e=g/\a=b/\Ag (v e) c d
 | .Cw,.Cw=>True
 |_,_=>False
section
variable{w:C Aa} {v:D->C Aa} {u:Bh}
theorem kf{a:CJ}{e:C Aa}{c d:Fm}(b:Ag (df a e) c d):HJ a.Ew c=HJ a.Ew d/\(∀i,EE u a.op c i=EE u a.op d i)/\A3 c (match a.op with| .rd _ g=>g|_=>[])=A3 d (match a.op with| .rd _ g=>g|_=>[])/\∀k,Ag e (Ej c a.DH k) (Ej d a.DH k):=by
 unfold df at b
 have h:∀f∈Km a.op.SF,f∈Re (YT a.Ew) (Re (Km a.op.SF) (match a.DH with|some l=>Qj l e|none=>e)):=λf j=>NL.2 (.j (NL.2 P))
 refine⟨b.U7 (λf j=>NL.2 P),(b.EE u h),?_,(Ag.AM (b.sub λf j=>NL.2 (.j (NL.2 P))))⟩
 cases m:a.op with
 |rd n g=>rw[m]at h b;exact b.D6 h
 |_=>rfl
theorem bQ:∀{f:C CJ}{c:C Aa}{a d:Fm}{b:G},Ag (Wq f c) a d->OA w c v (Ij u f a b) (Ij u f d b)
 |[],c,a,d,b,e=>⟨B,e⟩
 |g::l,c,a,d,b,e=>by
  obtain⟨h,i,_⟩:=kf (e)
  unfold Ij
  rw[<-h]
  cases HJ g.Ew a with
  |false=>exact bQ P
  |true=>
   rw[<-i]
   cases EE u g.op a b with
   |none=>trivial
   |some j=>obtain⟨m,k⟩:=j;exact bQ P
theorem bM:∀{j:C CJ}{c:D}{b:KX}{g:C Aa}{d f:Fm}{e:G},Ag (Wq j g) d f->OA w g v (Fy u j c b d e) (Fy u j c b f e)
 |[],c,b,g,d,f,e,i=>⟨B,i⟩
 |a::x,c,b,g,d,f,e,i=>by
  obtain⟨o,p,q,t⟩:=kf (i)
  rw[Mg,Mg,<-o]
  cases HJ a.Ew d with
  |false=>exact bM P
  |true=>
   rw[<-p]
   cases EE u a.op d e with
   |none=>trivial
   |some s=>
    obtain⟨h,k⟩:=s;have n:JA c a.bits a.op d e h k b=JA c a.bits a.op f e h k b:=by
     cases r:a.op with
     |rd l m=>rw[r]at q;show OW c a.bits l (A3 d m) h b=OW c a.bits l (A3 f m) h b;grind
     |_=>rfl
    unfold Ic;simp only[<-n];split;.exact bM P
    .trivial
theorem OA.then{g f:C Aa}{c d:CK}{b:Fm->G->CK}(a:OA w g v c d)(j:∀h i e,Ag g h i->OA w f v (b h e) (b i e)):OA w f v (Gc b c) (Gc b d):=by
 cases c<;>cases d<;>first|exact a.elim|skip
 .obtain⟨rfl,a⟩:=a;exact j _ _ _ a
 .exact a
 .exact a
 .exact a
theorem OB{h:D}:∀i {e:C Aa}{v:D->C Aa}{b c:Fm}{a:G},Jg w i e v=L->Ag (lv w i e v) b c->OA w e v (B5 h u i.erase b a) (B5 h u i.erase c a)
 | .skip,e,v,b,c,a,_,d=>⟨B,d⟩
 | .It N,e,v,b,c,a,_,d=>bQ d
 | .HZ N,e,v,b,c,a,_,d=>bM d
 | .Cm m,e,v,b,c,a,_,d=>⟨B,B,d⟩
 | .DG,e,v,b,c,a,_,d=>⟨B,d⟩
 | .Dd,e,v,b,c,a,_,d=>Ais
 | .EB k f,e,v,b,c,a,j,d=>by obtain⟨o,q⟩:=Gj (j);exact OA.then (OB k q d) λb c a g=>OB f o g
 | .N5 J z k f,e,v,b,c,a,j,d=>by obtain⟨t,s⟩:=Gj (j);obtain⟨o,q⟩:=Gj s;exact OA.then (OB k q d) λb c a g=>OB f o (g.sub (U0 t))
 | .Hd i k f,e,v,b,c,a,j,d=>by
  obtain⟨o,q⟩:=Gj (j);show OA w e v (J6 (B5 h u k.erase b a) (B5 h u f.erase b a) (i.ev b)) (J6 (B5 h u k.erase c a) (B5 h u f.erase c a) (i.ev c));rw[<-(d.od λF E=>NL.2 P)];unfold J6;split;.exact OB k o (d.sub λF E=>NL.2 (.j (NL.2 P)))
  .exact OB f q (d.sub λF E=>NL.2 (.j (NL.2 P)))
  .trivial
 | .A4 m f,e,v,b,c,a,j,d=>by
  have g:=OB (h:=h) f j (a:=a) d;show OA w e v (LD m (B5 h u f.erase b a)) (LD m (B5 h u f.erase c a));generalize B5 h u f.erase b a=s at g⊢;generalize B5 h u f.erase c a=Q at g⊢;cases s<;>cases Q<;>first|exact g.elim|exact g|skip
  .rename_i l x r S y R
   obtain⟨rfl,rfl,g⟩:=g
   show OA w e v (An (Bb l m) (.CP x r) (.Cm l x r)) (An (Bb l m) (.CP y r) (.Cm l y r))
   have g:Ag (An (Bb l m) e (v l)) x y:=g
   cases i:Bb l m with
   |true=>rw[i]at g;exact⟨B,g⟩
   |false=>rw[i]at g;exact⟨B,B,g⟩
 | .DY J z f,e,v,b,c,a,j,d=>by
  obtain⟨t,o⟩:=Gj (j);have M:∀p b c a,Ag z b c->OA w e v (Ip (B5 h u f.erase) p b a) (Ip (B5 h u f.erase) p c a):=by
   intro p
   induction p with
   |zero=>intro b c a _;trivial
   |succ p I=>intro b c a d;exact OA.then (OB f o (d.sub (U0 t))) I
  exact M h b c a d
theorem Z9{a:LC}{h:C Aa}{v:D->C Aa}{e f:Fm}{b:G}(o:Jg w a h v=L)(m:Ag (lv w a h v) e f):OA w h v (DA u a.erase e b) (DA u a.erase f b):=by
 by_cases g:DA u a.erase e b=.Cw
 .by_cases i:DA u a.erase f b=.Cw;.rw[g,i];trivial
  .obtain⟨d,k⟩:=JQ B i;have c:=OB (h:=d) (u:=u) a o (a:=b) m;rw[k]at c;have:B5 d u a.erase e b≠.Cw:=by intro j;rw[j]at c;generalize DA u a.erase f b=l at c i;cases l<;>first|exact c.elim|grind
   rw[H_ B this]at g;grind
 .obtain⟨d,k⟩:=JQ B g;have c:=OB (h:=d) (u:=u) a o (a:=b) m;rw[k]at c;have:B5 d u a.erase f b≠.Cw:=by intro j;rw[j]at c;generalize DA u a.erase e b=l at c g;cases l<;>first|exact c.elim|grind
  rw[H_ B this];omega
end
abbrev R:=Aj (F×G)
def M1(t:Fm)(h:G):C Gh->(C F->R)->R
 |[],a=>a []
 | .t e::b,a=>M1 t h b (λc=>a (Fm.at t e::c))
 | .Cy d e::b,a=>(Bf e h [Fm.at t d]).b λf=>M1 t h b (λc=>a (f::c))
 | .NZ d::b,a=>(AW h [Fm.at t d]).b λf=>M1 t h b (λc=>a (f::c))
def Pu(v:C Gh)(t:Fm)(h:G):R:=M1 t h v (λa=>A (SH a,h))
theorem Ze(t:Fm)(h:G):∀v b,M1 t h v b=(Lm t h v).b b
 |[],b=>rfl
 | .t d::a,b=>by show M1 t h a _=(RI (A (Fm.at t d)) (Lm t h a)).b b;rw[Ze];cases Lm t h a<;>rfl
 | .Cy c d::a,b=>by
  show(Bf d h [Fm.at t c]).b _=(RI (Bf d h [Fm.at t c]) (Lm t h a)).b b
  cases Bf d h [Fm.at t c]with
  |none=>rfl
  |some e=>show M1 t h a _=_;rw[Ze];cases Lm t h a<;>rfl
 | .NZ c::a,b=>by
  show(AW h [Fm.at t c]).b _=(RI (AW h [Fm.at t c]) (Lm t h a)).b b
  cases AW h [Fm.at t c]with
  |none=>rfl
  |some e=>show M1 t h a _=_;rw[Ze];cases Lm t h a<;>rfl
theorem jU(v:C Gh)(t:Fm)(h:G):Pu v t h=Wj v (.CP t h):=by
 unfold Pu;rw[Ze];show _=match Lm t h v with|some a=>A (SH a,h)|none=>O
 grind
def Cj(u:Bh)(v:C Gh):C LI->CK->R
 |_,.DG t h=>Pu v t h
 |_,.Cw=>O
 |[],.CP t h=>Pu v t h
 |[],.Cm _ _ _=>O
 | .DS d _::a,.CP t h=>Cj u v a (DA u d.erase t h)
 | .DS _ _::a,.Cm b t h=>Cj u v a (.Cm b t h)
 | .BB _::a,.CP t h=>Cj u v a (.CP t h)
 | .BB e::a,.Cm b t h=>An (Bb b e) (Cj u v a (.CP t h)) (Cj u v a (.Cm b t h))
 | .DY _ _ c::a,.CP t h=>Cj u v a (DA u (.DY c.erase) t h)
 | .DY _ _ _::a,.Cm b t h=>Cj u v a (.Cm b t h)
def E(u:Bh)(v:C Gh)(b:LC)(a:C LI)(t:Fm)(h:G):R:=Cj u v a (DA u b.erase t h)
def Dw(a b:R):F->R
 | .b L=>a
 | .b Ac=>b
 |_=>O
def Mj:C Aa->C F->Fm
 |p::a,b::c=>PT.AM (Mj a c) p (A b)
 |_,_=>.nil
def Xw(u:Bh)(f:Io)(t:Fm)(h:G)(b:F->G->R):R:=
 match f with
 | .rd g a=>(g.ev (A3 t a) h).b λi=>b i h
 | .al c a=>(c.ev (A3 t a) h.next).b λp=>b p.2 (h.V p.1)
 | .ef d a=>(d.ev (A3 t a) h).b λp=>b p.1 p.2
 | .call e a=>(Du u (e.ev t) (A3 t a) h).b λp=>b p.1 p.2
 | .Dd=>O
def xG(u:Bh)(b:Ak)(g:Io)(t:Fm)(h:G)(c:F->G->R):R:=
 match g with
 | .rd i a=>(An b (i.ev (A3 t a) h) (A Ax)).b λj=>c j h
 | .al d a=>(An b (DX d (A3 t a) h) (A (Ax,h))).b λp=>c p.1 p.2
 | .ef e a=>(An b (e.ev (A3 t a) h) (A (Ax,h))).b λp=>c p.1 p.2
 | .call f a=>(An b (Du u (f.ev t) (A3 t a) h) (A (Ax,h))).b λp=>c p.1 p.2
 | .Dd=>An b O (c Ax h)
def wb(b:CJ)(a:R):R:= @Nat.rec (λ_=>R) a (λ_ _=>a) b.bits
theorem nc(a:CJ)(b:R):wb a b=b:=by unfold wb;cases a.bits<;>rfl
def PX(u:Bh)(e:Fm->G->R)(f:C CJ):Fm->G->R:=
 @List.rec CJ (λ_=>Fm->G->R) e
  (λa _ d t h=>match a.Ew with
   |none=>wb a<|Xw u a.op t h (λc b=>d (Ej t a.DH c) b)
   |some (g,i)=>wb a<|xG u (AO i (Fm.at t g)) a.op t h (λc b=>d (Ej t a.DH c) b)) f
def HF(a:D):C CJ->Ak
 |[]=>Ac
 |b::c=>An (Nat.testBit b.bits a) (HF a c) L
def xD(u:Bh)(j:Ak)(e:CJ)(i:D)(b:C EZ)(c:C (D×G))(t:Fm)(h:G)(d:C EZ->C (D×G)->F->G->R):R:=
 match e.op with
 | .rd f a=>(f.ev (A3 t a) h).b λg=>An (HQ f) (An (Er e.bits f (A3 t a) g c) (d (An j (⟨i,f,A3 t a,g⟩::b) b) c g h) O) (d b c g h)
 | .al k a=>(k.ev (A3 t a) h.next).b λp=>d b c p.2 (h.V p.1)
 | .ef l a=>(l.ev (A3 t a) h).b λp=>An (CY e.bits p.2 b) (d b (An j ((i,h)::c) c) p.1 p.2) O
 | .call m a=>(Du u (m.ev t) (A3 t a) h).b λp=>An (CY e.bits p.2 b) (d b (An j ((i,h)::c) c) p.1 p.2) O
 | .Dd=>O
def CT{a:Type}(c:Ak)(d:a)(b:C a):C a:=An c (d::b) b
def xE(u:Bh)(k c:Ak)(i:CJ)(j:D)(a:C EZ)(d:C (D×G))(t:Fm)(h:G)(f:C EZ->C (D×G)->F->G->R):R:=match i.op with
 | .rd g b=>(An c ((g.ev (A3 t b) h).b λe=>An (HQ g) (An (Er i.bits g (A3 t b) e d) (A e) O) (A e)) (A Ax)).b λe=>f (An (HQ g) (An k (CT c ⟨j,g,A3 t b,e⟩ a) a) a) d e h
 | .al l b=>(An c (DX l (A3 t b) h) (A (Ax,h))).b λp=>f a d p.1 p.2
 | .ef m b=>(An c ((m.ev (A3 t b) h).b λp=>An (CY i.bits p.2 a) (A p) O) (A (Ax,h))).b λp=>f a (An k (CT c (j,h) d) d) p.1 p.2
 | .call n b=>(An c ((Du u (n.ev t) (A3 t b) h).b λp=>An (CY i.bits p.2 a) (A p) O) (A (Ax,h))).b λp=>f a (An k (CT c (j,h) d) d) p.1 p.2
 | .Dd=>An c O (f a d Ax h)
def PW(u:Bh)(j:Fm->G->R)(k:C CJ):D->C EZ->C (D×G)->Fm->G->R:=
 @List.rec CJ (λ_=>D->C EZ->C (D×G)->Fm->G->R) (λ_ _ _ t h=>j t h)
  (λd i g b a c t h=>match d.Ew with
   |none=>xD u (HF b i) d b a c t h (λa c f e=>g (b+1) a c (Ej t d.DH f) e)
   |some (l,m)=>xE u (HF b i) (AO m (Fm.at t l)) d b a c t h (λa c f e=>g (b+1) a c (Ej t d.DH f) e)) k
abbrev JF:=D->C F->G->R
def MC(v:C Gh)(w:JF)(d:LC->C LI->Fm->G->R):C LI->Fm->G->R
 |[],t,h=>Pu v t h
 | .DS e O::b,t,h=>d e b t h
 | .DS _ (A (c,a))::_,t,h=>w c (a.m (Fm.at t)) h
 | .BB _::b,t,h=>MC v w d b t h
 | .DY c a _::_,t,h=>w c (a.m (Fm.at t)) h
def Q3(v:C Gh)(w:JF)(c:LC->C LI->Fm->G->R)(b:D):C LI->Fm->G->R
 |[],_,_=>O
 | .BB d::a,t,h=>An (Bb b d) (MC v w c a t h) (Q3 v w c b a t h)
 | .DS _ _::a,t,h=>Q3 v w c b a t h
 | .DY _ _ _::a,t,h=>Q3 v w c b a t h
def mB(u:Bh)(v:C Gh)(w:JF)(b:LC->C LI->Fm->G->R)(j:LC)(a:C LI)(t:Fm)(h:G):R:=
 match j with
 | .skip=>MC v w b a t h
 | .It i=>PX u (MC v w b a) i t h
 | .HZ i=>PW u (MC v w b a) i 0 [] [] t h
 | .EB d c=>b d (.DS c O::a) t h
 | .N5 g e d c=>b d (.DS c (A (g,e))::a) t h
 | .Hd k d c=>Dw (b d a t h) (b c a t h) (k.ev t)
 | .A4 f c=>b c (.BB f::a) t h
 | .DY g e _=>w g (e.m (Fm.at t)) h
 | .Cm f=>Q3 v w b f a t h
 | .DG=>Pu v t h
 | .Dd=>O
def X(u:Bh)(v:C Gh)(w:JF)(c:D):LC->C LI->Fm->G->R:=
 @Nat.rec (λ_=>LC->C LI->Fm->G->R) (λb a t h=>E u v b a t h) (λ_ d b a t h=>mB u v w d b a t h) c
def J(u:Bh)(a:Fv):JF:=λb c h=>match O0 b (GV a.DS [])with
 |some p=>E u a.Hn p.c p.S (Mj p.L c) h
 |none=>O
def XP(u:Bh)(a:Fv)(p:Pt)(t:Fm)(h:G):R:=match p.c with
 | .DY e c b=>X u a.Hn (J u a) 100000 b (.DY e c b::p.S) t h
 |d=>X u a.Hn (J u a) 100000 d p.S t h
def XJ(u:Bh)(a:Fv)(b:D)(c:C F)(h:G):R:=match O0 b (GV a.DS [])with
 |some p=>XP u a p (Mj p.L c) h
 |none=>O
def X0(u:Bh)(a:Fv)(b:C F)(h:G):R:=X u a.Hn (J u a) 100000 a.DS [] (Kc b .h .nil) h
section
variable{u:Bh} {v:C Gh}
theorem ni(b:Io)(t:Fm)(h:G)(d:F->G->R):Xw u b t h d=(EE u b t h).b λp=>d p.1 p.2:=by
 cases b with
 |rd e a=>show(e.ev (A3 t a) h).b _=(Ik e (A3 t a) h).b _;unfold Ik;grind
 |al c a=>show(c.ev (A3 t a) h.next).b _=(DX c (A3 t a) h).b _;unfold DX;grind
 |ef f a=>rfl
 |call g a=>rfl
 |Dd=>rfl
theorem Afp(b:Ak)(a:Io)(t:Fm)(h:G)(c:F->G->R):xG u b a t h c=(An b (EE u a t h) (A (Ax,h))).b λp=>c p.1 p.2:=by
 cases b with
 |false=>cases a<;>rfl
 |true=>
  show _=(EE u a t h).b _
  rw[<-(ni (u:=u) a t h c)]
  cases a with
  |al d e=>show(DX d (A3 t e) h).b _=(d.ev (A3 t e) h.next).b _;unfold DX;grind
  |_=>rfl
theorem JP(a:C LI):Cj u v a .Cw=O:=by cases a<;>unfold Cj<;>rfl
theorem Oz(a:C LI)(t:Fm)(h:G):Cj u v a (.DG t h)=Pu v t h:=by cases a<;>unfold Cj<;>rfl
theorem nj(b:C LI):∀j t h,PX u (λt h=>Cj u v b (.CP t h)) j t h=Cj u v b (Ij u j t h)
 |[],t,h=>rfl
 |a::c,t,h=>by
  have g:=nj b c
  show(match a.Ew with
   |none=>wb a<|Xw u a.op t h (λi f=>PX u (λt h=>Cj u v b (.CP t h)) c (Ej t a.DH i) f)
   |some (d,e)=>wb a<|xG u (AO e (Fm.at t d)) a.op t h (λi f=>PX u (λt h=>Cj u v b (.CP t h)) c (Ej t a.DH i) f))=_
  unfold Ij
  cases m:a.Ew with
  |none=>
   rw[nc,ni]
   cases EE u a.op t h with
   |none=>exact(JP b).s
   |some l=>exact g _ _
  |some k=>
   obtain⟨d,e⟩:=k
   show wb a (xG u (AO e (Fm.at t d)) a.op t h _)=Cj u v b (An (AO e (Fm.at t d)) (kU (Ij u c) t a.DH (EE u a.op t h)) (Ij u c (Ej t a.DH Ax) h))
   rw[nc,Afp]
   cases AO e (Fm.at t d)with
   |false=>exact g _ _
   |true=>
    cases EE u a.op t h with
    |none=>exact(JP b).s
    |some l=>exact g _ _
theorem XK{a:D}{h:G}{d:EZ}(e:Nat.testBit a d.Kp=L)(c:C EZ):∀b,CY a h (b++d::c)=CY a h (b++c)
 |[]=>by show An (An (Nat.testBit a d.Kp) L _) (CY a h c) Ac=_;grind
 |f::b=>by show An _ (CY a h (b++d::c)) Ac=An _ (CY a h (b++c)) Ac;rw[XK e c b]
theorem fG{a:D}{d:Rd}{f:C F}{e:F}{g:D×G}(i:Nat.testBit a g.1=L)(c:C (D×G)):∀b,Er a d f e (b++g::c)=Er a d f e (b++c)
 |[]=>by show An (An (Nat.testBit a g.1) L _) (Er a d f e c) Ac=_;grind
 |j::b=>by show An _ (Er a d f e (b++g::c)) Ac=An _ (Er a d f e (b++c)) Ac;rw[fG i c b]
theorem gO(u:Bh)(a:EZ)(f:C EZ):∀g i e j t h,HF a.Kp g=Ac->Fy u g i ⟨e++a::f,j⟩ t h=Fy u g i ⟨e++f,j⟩ t h
 |[],_,_,_,_,_,_=>rfl
 |b::l,i,e,j,t,h,c=>by
  have c:An (Nat.testBit b.bits a.Kp) (HF a.Kp l) L=Ac:=c
  cases d:Nat.testBit b.bits a.Kp with
  |false=>grind
  |true=>
   rw[d]at c
   have m:=gO u a f l
   rw[Mg,Mg]
   cases HJ b.Ew t with
   |false=>grind
   |true=>
    cases EE u b.op t h with
    |none=>rfl
    |some n=>
     obtain⟨F,s⟩:=n
     unfold Ic
     cases x:b.op with
     |rd E k=>simp only[JA,OW];grind
     |al o k=>exact m _ _ _ _ _ c
     |ef q k=>simp only[JA,XK d];grind
     |call r k=>simp only[JA,XK d];grind
     |Dd=>simp only[JA,XK d];grind
theorem bo(u:Bh)(b:D×G)(g:C (D×G)):∀j d c f t h,HF b.1 j=Ac->Fy u j d ⟨c,f++b::g⟩ t h=Fy u j d ⟨c,f++g⟩ t h
 |[],_,_,_,_,_,_=>rfl
 |e::k,d,c,f,t,h,a=>by
  have a:An (Nat.testBit e.bits b.1) (HF b.1 k) L=Ac:=a
  cases i:Nat.testBit e.bits b.1 with
  |false=>rw[i]at a;cases a
  |true=>
   rw[i]at a
   have n:=bo u b g k
   have E:=λd c t h m=>bo u b g k d c (m::f) t h a
   rw[Mg,Mg]
   cases HJ e.Ew t with
   |false=>grind
   |true=>
    cases EE u e.op t h with
    |none=>rfl
    |some m=>
     obtain⟨H,s⟩:=m
     unfold Ic
     cases x:e.op with
     |rd F l=>simp only[JA,OW,fG i];grind
     |al o l=>exact n _ _ _ _ _ a
     |ef q l=>simp only[JA];grind
     |call r l=>simp only[JA];grind
     |Dd=>simp only[JA];grind
theorem qR(u:Bh){a:C CJ}{b:EZ}(c:C EZ)(d:D)(e:C (D×G))(t:Fm)(h:G):Fy u a d ⟨An (HF b.Kp a) (b::c) c,e⟩ t h=Fy u a d ⟨b::c,e⟩ t h:=by
 cases f:HF b.Kp a with
 |true=>rfl
 |false=>exact(gO u b c a d [] e t h f).s
theorem gA(u:Bh){a:C CJ}{b:D×G}(c:C (D×G))(e:D)(d:C EZ)(t:Fm)(h:G):Fy u a e ⟨d,An (HF b.1 a) (b::c) c⟩ t h=Fy u a e ⟨d,b::c⟩ t h:=by
 cases f:HF b.1 a with
 |true=>rfl
 |false=>exact(bo u b c a e d [] t h f).s
theorem nh(e:C LI):∀I a c f t h,PW u (λt h=>Cj u v e (.CP t h)) I a c f t h=Cj u v e (Fy u I a ⟨c,f⟩ t h)
 |[],_,_,_,t,h=>rfl
 |d::g,a,c,f,t,h=>by
  have G:=nh e g
  have H:xD u (HF a g) d a c f t h (λc f i k=>PW u (λt h=>Cj u v e (.CP t h)) g (a+1) c f (Ej t d.DH i) k)=Cj u v e (Ic (Fy u g (a+1)) a d ⟨c,f⟩ t h (EE u d.op t h)):=by
   unfold xD
   simp only[G]
   cases s:d.op with
   |rd j b=>
    show(j.ev (A3 t b) h).b _=Cj u v e (Ic (Fy u g (a+1)) a d ⟨c,f⟩ t h (Ik j (A3 t b) h))
    unfold Ik
    cases j.ev (A3 t b) h with
    |none=>exact(JP e).s
    |some i=>
     show An (HQ j) (An (Er d.bits j (A3 t b) i f) _ O) _=Cj u v e (Ic (Fy u g (a+1)) a d ⟨c,f⟩ t h (A (i,h)))
     unfold Ic
     simp only[s]
     unfold JA
     simp only[]
     unfold OW
     cases HQ j with
     |false=>rfl
     |true=>
      cases Er d.bits j (A3 t b) i f with
      |false=>exact(JP e).s
      |true=>exact Aij (Cj u v e) (qR u (b:=⟨a,j,A3 t b,i⟩) c (a+1) f _ h)
   |al n b=>
    show(n.ev (A3 t b) h.next).b _=Cj u v e (Ic (Fy u g (a+1)) a d ⟨c,f⟩ t h (DX n (A3 t b) h))
    unfold DX
    cases n.ev (A3 t b) h.next with
    |none=>exact(JP e).s
    |some p=>obtain⟨J,i⟩:=p;simp only[Aig];unfold Ic;simp only[s,JA]
   |ef o b=>
    show(o.ev (A3 t b) h).b _=Cj u v e (Ic (Fy u g (a+1)) a d ⟨c,f⟩ t h (o.ev (A3 t b) h))
    cases o.ev (A3 t b) h with
    |none=>exact(JP e).s
    |some p=>
     obtain⟨i,k⟩:=p
     simp only[Aig]
     unfold Ic
     simp only[s,JA]
     cases CY d.bits k c with
     |false=>exact(JP e).s
     |true=>exact Aij (Cj u v e) (gA u (b:=(a,h)) f (a+1) c _ k)
   |call q b=>
    show(Du u (q.ev t) (A3 t b) h).b _=Cj u v e (Ic (Fy u g (a+1)) a d ⟨c,f⟩ t h (Du u (q.ev t) (A3 t b) h))
    cases Du u (q.ev t) (A3 t b) h with
    |none=>exact(JP e).s
    |some p=>
     obtain⟨i,k⟩:=p
     simp only[Aig]
     unfold Ic
     simp only[s,JA]
     cases CY d.bits k c with
     |false=>exact(JP e).s
     |true=>exact Aij (Cj u v e) (gA u (b:=(a,h)) f (a+1) c _ k)
   |Dd=>exact(JP e).s
  rw[Mg]
  show(match d.Ew with
   |none=>xD u (HF a g) d a c f t h (λc f i k=>PW u (λt h=>Cj u v e (.CP t h)) g (a+1) c f (Ej t d.DH i) k)
   |some (l,m)=>xE u (HF a g) (AO m (Fm.at t l)) d a c f t h (λc f i k=>PW u (λt h=>Cj u v e (.CP t h)) g (a+1) c f (Ej t d.DH i) k))=_
  cases M:d.Ew with
  |none=>exact H
  |some r=>
   obtain⟨l,m⟩:=r
   show xE u _ _ d a c f t h _=Cj u v e (An (AO m (Fm.at t l)) (Ic (Fy u g (a+1)) a d ⟨c,f⟩ t h (EE u d.op t h)) (Fy u g (a+1) ⟨c,f⟩ (Ej t d.DH Ax) h))
   rw[(λr E F=>by cases r<;>rfl:∀r E F,Cj u v e (An r E F)=An r (Cj u v e E) (Cj u v e F)),<-H]
   unfold xE xD
   simp only[G]
   cases s:d.op with
   |rd j b=>
    simp only[]
    cases AO m (Fm.at t l)with
    |false=>cases HQ j<;>cases HF a g<;>rfl
    |true=>
     cases j.ev (A3 t b) h with
     |none=>rfl
     |some i=>
      simp only[Aig]
      cases HQ j with
      |false=>rfl
      |true=>cases HF a g<;>cases Er d.bits j (A3 t b) i f<;>rfl
   |al n b=>
    cases AO m (Fm.at t l)with
    |false=>rfl
    |true=>show(DX n (A3 t b) h).b _=(n.ev (A3 t b) h.next).b _;unfold DX;cases n.ev (A3 t b) h.next<;>rfl
   |ef o b=>
    cases AO m (Fm.at t l)with
    |false=>cases HF a g<;>rfl
    |true=>
     show((o.ev (A3 t b) h).b _).b _=(o.ev (A3 t b) h).b _
     cases o.ev (A3 t b) h with
     |none=>rfl
     |some p=>simp only[Aig];cases HF a g<;>cases CY d.bits p.2 c<;>rfl
   |call q b=>
    cases AO m (Fm.at t l)with
    |false=>cases HF a g<;>rfl
    |true=>
     show((Du u (q.ev t) (A3 t b) h).b _).b _=(Du u (q.ev t) (A3 t b) h).b _
     cases Du u (q.ev t) (A3 t b) h with
     |none=>rfl
     |some p=>simp only[Aig];cases HF a g<;>cases CY d.bits p.2 c<;>rfl
   |Dd=>cases AO m (Fm.at t l)<;>rfl
def XS(b:C Aa):C LI->(C Aa)×(D->C Aa)
 |[]=>(b,λ_=>[])
 | .DS e O::a=>(lv b e (XS b a).1 (XS b a).2,(XS b a).2)
 | .DS _ (A (_,c))::a=>(c,(XS b a).2)
 | .BB f::a=>((XS b a).1,λd=>An (Bb d f) (XS b a).1 ((XS b a).2 d))
 | .DY _ c _::a=>(c,(XS b a).2)
def NM(y:C Pt)(b:C Aa):C LI->Prop
 |[]=>True
 | .DS d f::a=>Jg b d (XS b a).1 (XS b a).2=L/\(∀p∈GV d a,p∈y)/\(∀e c,f=A (e,c)->⟨e,c,d,a⟩∈y/\∀g∈lv b d (XS b a).1 (XS b a).2,g∈c)/\NM y b a
 | .BB _::a=>NM y b a
 | .DY e c d::a=>⟨e,c,.DY e c d,a⟩∈y/\Jg b (.DY e c d) (XS b a).1 (XS b a).2=L/\NM y b a
theorem Wk{t e:Fm}{h:G}:∀{v:C Gh}{c:C F->R},Ag (D7 v) t e->M1 t h v c=M1 e h v c
 |[],c,_=>rfl
 | .t f::g,c,a=>by show M1 t h g _=M1 e h g _;rw[a f (by simp[D7]),Wk (a.sub λp d=>by simp[D7,d])]
 | .Cy b f::g,c,a=>by show(Bf f h [Fm.at t b]).b _=(Bf f h [Fm.at e b]).b _;rw[a b (by simp[D7])];congr 1;funext i;exact Wk (a.sub λp d=>by simp[D7,d])
 | .NZ b::g,c,a=>by show(AW h [Fm.at t b]).b _=(AW h [Fm.at e b]).b _;rw[a b (by simp[D7])];congr 1;funext i;exact Wk (a.sub λp d=>by simp[D7,d])
theorem Oy{y:C Pt}:∀{b:C LI}{n o:CK},NM y (D7 v) b->OA (D7 v) (XS (D7 v) b).1 (XS (D7 v) b).2 n o->Cj u v b n=Cj u v b o
 |b,.DG t h,.DG d f,_,a=>by obtain⟨rfl,a⟩:=a;rw[Oz,Oz];exact Wk a
 |b,.Cw,.Cw,_,_=>rfl
 |[],.CP t h,.CP d f,_,a=>by obtain⟨rfl,a⟩:=a;exact Wk a
 |[],.Cm _ _ _,.Cm _ _ _,_,a=>rfl
 | .DS g O::b,.CP t h,.CP d f,c,a=>by obtain⟨rfl,a⟩:=a;exact Oy (o:=DA u g.erase d h) c.2.2.2 (Z9 c.1 a)
 | .DS g (A (k,i))::b,.CP t h,.CP d f,c,a=>by obtain⟨rfl,a⟩:=a;exact Oy (o:=DA u g.erase d h) c.2.2.2 (Z9 c.1 (a.sub (c.2.2.1 k i B).2))
 | .DS g O::b,.Cm e t h,.Cm l d f,c,a=>by obtain⟨rfl,rfl,a⟩:=a;exact Oy (b:=b) c.2.2.2 ⟨B,B,a⟩
 | .DS g (A (k,i))::b,.Cm e t h,.Cm l d f,c,a=>by obtain⟨rfl,rfl,a⟩:=a;exact Oy (b:=b) c.2.2.2 ⟨B,B,a⟩
 | .BB j::b,.CP t h,.CP d f,c,a=>by obtain⟨rfl,a⟩:=a;exact Oy (b:=b) c ⟨B,a⟩
 | .BB j::b,.Cm e t h,.Cm l d f,c,a=>by
  obtain⟨rfl,rfl,a⟩:=a
  have a:Ag (An (Bb e j) (XS (D7 v) b).1 ((XS (D7 v) b).2 e)) t d:=a
  show An (Bb e j) (Cj u v b (.CP t h)) (Cj u v b (.Cm e t h))=An (Bb e j) (Cj u v b (.CP d h)) (Cj u v b (.Cm e d h))
  cases g:Bb e j with
  |true=>rw[g]at a;exact Oy c ⟨B,a⟩
  |false=>rw[g]at a;exact Oy c ⟨B,B,a⟩
 | .DY k i m::b,.CP t h,.CP d f,c,a=>by obtain⟨rfl,a⟩:=a;exact Oy (o:=DA u (LC.DY k i m).erase d h) c.2.2 (Z9 c.2.1 a)
 | .DY k i m::b,.Cm e t h,.Cm l d f,c,a=>by obtain⟨rfl,rfl,a⟩:=a;exact Oy (b:=b) c.2.2 ⟨B,B,a⟩
theorem hY{t:Fm}:∀{a:C Aa},Ag a t (Mj a (a.m (Fm.at t)))
 |[]=>λp d=>by grind
 |b::a=>λp d=>by
  show Fm.at t p=Fm.at (PT.AM (Mj a (a.m (Fm.at t))) b (A (Fm.at t b))) p;by_cases c:p=b;.subst c;unfold Fm.at;rw[PT.VX];rfl
  .have:Fm.at (PT.AM (Mj a (a.m (Fm.at t))) b (A (Fm.at t b))) p=Fm.at (Mj a (a.m (Fm.at t))) p:=by
    unfold Fm.at
    rw[PT.VY _ _ _ _ c]
   rw[this]
   rcases Ait.1 d with h|h
   .grind
   .exact hY p h
theorem e6(b f:LC)(d:Aj (D×C Aa))(a:C LI)(t:Fm)(h:G):Cj u v a (DA u (.EB b.erase f.erase) t h)=E u v b (.DS f d::a) t h:=by
 rw[Aea]
 unfold E
 cases DA u b.erase t h with
 |CP e c=>cases d<;>rfl
 |DG e c=>show Cj u v a (.DG e c)=_;rw[Oz,Oz]
 |Cm g e c=>cases d<;>rfl
 |Cw=>show Cj u v a .Cw=_;rw[JP,JP]
theorem no(f:D)(e:C Aa)(b:LC)(a:C LI)(t:Fm)(h:G):E u v (.DY f e b) a t h=E u v b (.DY f e b::a) t h:=by
 unfold E
 show Cj u v a (DA u (.DY b.erase) t h)=_
 rw[Ad7]
 cases DA u b.erase t h with
 |CP d c=>rfl
 |DG d c=>show Cj u v a (.DG d c)=_;rw[Oz,Oz]
 |Cm g d c=>rfl
 |Cw=>show Cj u v a .Cw=_;rw[JP,JP]
variable{y:C Pt} {w:JF} (z:∀p∈y,∀t h,w p.j (p.L.m (Fm.at t)) h=E u v p.c p.S t h)
theorem d2(z:∀p∈y,∀t h,w p.j (p.L.m (Fm.at t)) h=E u v p.c p.S t h){i:LC->C LI->Fm->G->R}(f:∀c a t h,NM y (D7 v) a->Jg (D7 v) c (XS (D7 v) a).1 (XS (D7 v) a).2=L->(∀p∈GV c a,p∈y)->i c a t h=E u v c a t h):∀a t h,NM y (D7 v) a->MC v w i a t h=Cj u v a (.CP t h)
 |[],t,h,_=>rfl
 | .DS d O::a,t,h,b=>f d a t h b.2.2.2 b.1 b.2.1
 | .DS d (A (g,e))::a,t,h,b=>z _ (b.2.2.1 g e B).1 t h
 | .BB _::a,t,h,b=>d2 z f a t h b
 | .DY g e d::a,t,h,b=>z _ b.1 t h
theorem ZN(z:∀p∈y,∀t h,w p.j (p.L.m (Fm.at t)) h=E u v p.c p.S t h){f:LC->C LI->Fm->G->R}(e:∀d a t h,NM y (D7 v) a->Jg (D7 v) d (XS (D7 v) a).1 (XS (D7 v) a).2=L->(∀p∈GV d a,p∈y)->f d a t h=E u v d a t h)(b:D):∀a t h,NM y (D7 v) a->Q3 v w f b a t h=Cj u v a (.Cm b t h)
 |[],t,h,_=>rfl
 | .DS i _::a,t,h,c=>ZN z e b a t h c.2.2.2
 | .BB g::a,t,h,c=>by show An (Bb b g) (MC v w f a t h) (Q3 v w f b a t h)=An (Bb b g) _ _;rw[d2 z e a t h c,ZN z e b a t h c]
 | .DY k j i::a,t,h,c=>ZN z e b a t h c.2.2
theorem XF(z:∀p∈y,∀t h,w p.j (p.L.m (Fm.at t)) h=E u v p.c p.S t h):∀e g a t h,NM y (D7 v) a->Jg (D7 v) g (XS (D7 v) a).1 (XS (D7 v) a).2=L->(∀p∈GV g a,p∈y)->X u v w e g a t h=E u v g a t h
 |0,g,a,t,h,_,_,_=>rfl
 |e+1,g,a,t,h,k,G,i=>by
  have j:=XF z e
  have J:=d2 z j a
  cases g with
  |skip=>show MC v w (X u v w e) a t h=Cj u v a (DA u .skip t h);rw[Aeb];grind
  |It m=>show PX u (MC v w (X u v w e) a) m t h=Cj u v a (DA u (.It m) t h);rw[Ad8,<-nj];congr 1;grind
  |HZ m=>show PW u (MC v w (X u v w e) a) m 0 [] [] t h=Cj u v a (DA u (.HZ m) t h);rw[Ad4,<-nh];congr 1;funext t h;exact J t h k
  |EB d c=>obtain⟨o,q⟩:=Gj (G);show X u v w e d (.DS c O::a) t h=Cj u v a (DA u (.EB d.erase c.erase) t h);rw[e6 d c O];exact j d (.DS c O::a) t h ⟨o,λp h=>i p (Ajb _ h),λ_ _ H=>(by cases H),k⟩ q (λp h=>i p (Ajl _ h))
  |N5 x s d c=>obtain⟨M,n⟩:=Gj (G);obtain⟨o,q⟩:=Gj n;show X u v w e d (.DS c (A (x,s))::a) t h=Cj u v a (DA u (.EB d.erase c.erase) t h);rw[e6 d c (A (x,s))];exact j d (.DS c (A (x,s))::a) t h ⟨o,λp h=>i p (Ai1 _ (Ajb _ h)),λ_ _ H=>(by cases H;exact⟨i _ (Ai0 ..),U0 M⟩),k⟩ q (λp h=>i p (Ai1 _ (Ajl _ h)))
  |Hd n d c=>
   obtain⟨o,q⟩:=Gj (G)
   show Dw (X u v w e d a t h) (X u v w e c a t h) (n.ev t)=Cj u v a (DA u (.Hd n d.erase c.erase) t h)
   rw[Ad3,j d a t h k o (λp h=>i p (Ajl _ h)),j c a t h k q (λp h=>i p (Ajb _ h))]
   generalize n.ev t=N
   cases N with
   |b P=>cases P<;>rfl
   |_=>exact(JP a).s
  |A4 f c=>
   show X u v w e c (.BB f::a) t h=Cj u v a (DA u (.A4 f c.erase) t h)
   rw[Ad2,j c (.BB f::a) t h k G i]
   unfold E
   cases DA u c.erase t h with
   |CP r l=>rfl
   |DG r l=>show _=Cj u v a (.DG r l);rw[Oz,Oz]
   |Cm F r l=>show _root_.cond (Bb F f) _ _=Cj u v a (_root_.cond (Bb F f) (.CP r l) (.Cm F r l));cases Bb F f<;>rfl
   |Cw=>show _=Cj u v a .Cw;rw[JP,JP]
  |DY x s c=>exact z _ (i _ (Ai0 ..)) t h
  |Cm f=>show Q3 v w (X u v w e) f a t h=Cj u v a (DA u (.Cm f) t h);rw[Ad5];exact ZN z j f a t h k
  |DG=>show Pu v t h=Cj u v a (DA u .DG t h);rw[Ad9,Oz]
  |Dd=>
   show O=Cj u v a (DA u .Dd t h);have:DA u .Dd t h=.Cw:=by
    by_cases g:DA u .Dd t h=.Cw;.omega
    .obtain⟨Q,I⟩:=JQ B g;rw[<-I];rfl
   rw[this,JP]
end
theorem QF(a:C Aa):∀h e c d,(NI a h e c d).1.erase=h
 | .skip,_,_,_=>rfl
 | .It _,_,_,_=>rfl
 | .HZ _,_,_,_=>rfl
 | .Cm _,_,_,_=>rfl
 | .DG,_,_,_=>rfl
 | .Dd,_,_,_=>rfl
 | .EB g b,e,c,d=>by
  unfold NI;have i:=QF a b e c d;simp only[];split;.show HK.EB _ _=_;rw[QF a g,i]
  .show HK.EB _ _=_;rw[QF a g,i]
 | .Hd h g b,e,c,d=>by show HK.Hd h _ _=_;rw[QF a g,QF a b]
 | .A4 j b,e,c,d=>by show HK.A4 j _=_;rw[QF a b]
 | .DY b,e,c,d=>by show HK.DY _=_;rw[QF a b]
theorem ko{a:D}:∀{b:C D},Sw a b=L↔a∈b
 |[]=>by show Ac=L↔_;simp
 |d::b=>by
  show An (Bb a d) L (Sw a b)=L↔_;rw[Ait];by_cases c:a=d;.subst c;simp
  .rw[G0 c];show Sw a b=L↔_;rw[ko];grind
theorem kI:∀{a:C D},dE a=L->a.Nodup
 |[],_=>AjL
 |d::a,b=>by
  have b:An (Sw d a) Ac (dE a)=L:=b
  cases c:Sw d a with
  |true=>grind
  |false=>rw[c]at b;refine AjM.2 ⟨λe=> ?_,kI b⟩;rw[ko.2 e]at c;grind
theorem hE(a:D)(b:Pt)(c:C Pt):O0 a (b::c)=An (Bb b.j a) (A b) (O0 a c):=rfl
theorem hF{c:D}{e:Pt}:∀{d:C Pt},O0 c d=A e->e∈d/\e.j=c
 |[],a=>by cases a
 |g::d,a=>by
  rw[hE]at a
  cases b:Bb g.j c with
  |true=>rw[b]at a;cases a;exact⟨P,Aii b⟩
  |false=>rw[b]at a;obtain⟨h,i⟩:=hF a;grind
theorem hG{c:Pt}:∀{b:C Pt},(b.m (·.j)).Nodup->c∈b->O0 c.j b=A c
 |[],_,a=>by grind
 |e::b,d,a=>by
  rw[hE];rw[Ai9,AjM]at d;rcases Ait.1 a with rfl|a;.rw[AiG];rfl
  .rw[G0 P];exact hG P a
section
variable{v:Bh} {w:C Gh}
theorem Ou{m:C Pt}:∀n c,NM m (D7 w) c->Jg (D7 w) n (XS (D7 w) c).1 (XS (D7 w) c).2=L->(∀a∈GV n c,a∈m)->∀a∈GV n c,NM m (D7 w) a.S/\Jg (D7 w) a.c (XS (D7 w) a.S).1 (XS (D7 w) a.S).2=L/\(∀o∈GV a.c a.S,o∈m)/\(∀o∈lv (D7 w) a.c (XS (D7 w) a.S).1 (XS (D7 w) a.S).2,o∈a.L)
 | .skip,c,_,_,_,a,b=>by cases b
 | .It _,c,_,_,_,a,b=>by cases b
 | .HZ _,c,_,_,_,a,b=>by cases b
 | .Cm _,c,_,_,_,a,b=>by cases b
 | .DG,c,_,_,_,a,b=>by cases b
 | .Dd,c,_,_,_,a,b=>by cases b
 | .EB k g,c,t,h,d,a,b=>by
  obtain⟨i,l⟩:=Gj (h);have j:=λa e=>d a (Ajb _ e);rcases AiM.1 b with b|b;.exact Ou k (.DS g O::c) ⟨i,j,λ_ _ q=>(by cases q),t⟩ l (λa e=>d a (Ajl _ e)) a b
  .exact Ou g c t i j a b
 | .N5 r p k g,c,t,h,d,a,b=>by
  obtain⟨s,F⟩:=Gj (h);obtain⟨i,l⟩:=Gj F;have j:=λa e=>d a (Ai1 _ (Ajb _ e));rcases Ait.1 b with rfl|b;.exact⟨t,i,j,U0 s⟩
  .rcases AiM.1 b with b|b;.exact Ou k (.DS g (A (r,p))::c) ⟨i,j,λ_ _ q=>(by cases q;exact⟨(d _ (Ai0 ..)),U0 s⟩),t⟩ l (λa e=>d a (Ai1 _ (Ajl _ e))) a b
   .exact Ou g c t i j a b
 | .Hd n k g,c,t,h,d,a,b=>by
  obtain⟨i,l⟩:=Gj (h);rcases AiM.1 b with b|b;.exact Ou k c t i (λa e=>d a (Ajl _ e)) a b
  .exact Ou g c t l (λa e=>d a (Ajb _ e)) a b
 | .A4 E g,c,t,h,d,a,b=>Ou g (.BB E::c) t h d a b
 | .DY r p g,c,t,h,d,a,b=>by
  obtain⟨s,i⟩:=Gj (h);rcases Ait.1 b with rfl|b;.exact⟨t,h,d,λo x=>x⟩
  .exact Ou g (.DY r p g::c) ⟨(d _ (Ai0 ..)),h,t⟩ i (λa e=>d a (Ai1 _ e)) a b
variable{f:Fv} (t:Oo f=L)
theorem dK(t:Oo f=L):Jg (D7 f.Hn) f.DS (XS (D7 f.Hn) []).1 (XS (D7 f.Hn) []).2=L:=(Gj (t)).1
theorem AbU(t:Oo f=L):((GV f.DS []).m (·.j)).Nodup:=kI (Gj (t)).2
theorem e9(t:Oo f=L):∀a∈GV f.DS [],∀c b,J v f a.j (a.L.m (Fm.at c)) b=E v f.Hn a.c a.S c b:=by intro a d c b;unfold J;rw[hG (AbU t) d];obtain⟨e,g,i,h⟩:=Ou f.DS [] Ais (dK t) (λ_ b=>b) a d;exact(Oy e (Z9 g (hY.sub h))).s
theorem nr(t:Oo f=L)(d:D)(c:C F)(b:G):J v f d c b=XJ v f d c b:=by
 unfold XJ
 cases j:O0 d (GV f.DS [])with
 |none=>unfold J;rw[j]
 |some a=>
  obtain⟨o,rfl⟩:=hF j
  obtain⟨k,e,g,s⟩:=Ou f.DS [] Ais (dK t) (λ_ b=>b) a o
  have i:=e9 (v:=v) t
  have H:X v f.Hn (J v f) 100000 a.c a.S (Mj a.L c) b=E v f.Hn a.c a.S (Mj a.L c) b:=XF i 100000 a.c a.S _ b k e g
  have m:J v f a.j c b=E v f.Hn a.c a.S (Mj a.L c) b:=by unfold J;grind
  rw[m]
  show _=XP v f a (Mj a.L c) b
  unfold XP
  cases n:a.c with
  |DY d l h=>rw[n]at e g;obtain⟨x,q⟩:=Gj (e);rw[no];exact(XF i 100000 h (.DY d l h::a.S) _ b ⟨g _ (Ai0 ..),e,k⟩ q (λr p=>g r (Ai1 _ p))).s
  |_=>grind
theorem nI(t:Oo f=L)(b:C F)(a:G):X0 v f b a=E v f.Hn f.DS [] (Kc b .h .nil) a:=
 XF (e9 t) 100000 f.DS [] _ a Ais (dK t) P
end
theorem Z4{v:Bh}{a:GY}(t:Oo (Pr a)=L)(c:C F)(b:G):Q7 v a c b=X0 v (Pr a) c b:=by
 rw[nI t]
 unfold Q7 E
 have:(Pr a).DS.erase=a.Mb:=QF _ _ _ _ _
 rw[this]
 cases DA v a.Mb (Kc c .h .nil) b with
 |CP d b=>exact(jU _ _ _).s
 |DG d b=>rw[Oz];exact(jU _ _ _).s
 |Cm _ _ _=>rfl
 |Cw=>rfl
section
variable(u:Program)
def Jm:Aa->Aj GY:=λa=>An (Co a.num 1000000) (I5 u (a.num-1)) O
def JK(a:D):Fv:=match I5 u a with
 |some f=>Pr f
 |none=>⟨[],.Dd⟩
def Kn(a:D):Ak:=match I5 u a with
 |some f=>An (Nat.blt a 1000000) (Oo (Pr f)) Ac
 |none=>Ac
variable{u}
theorem eH:∀a f,a<1000000->Jm u (Ar a)=A f->I5 u a=A f:=by intro a f d b;obtain⟨e,c⟩:=En b;rwa[Mz d]at c
theorem AeR{a:D}(b:a<1000000):Jm u (Ar a)=I5 u a:=by unfold Jm;rw[Mz b,Akm,Air (by omega)];rfl
theorem WJ{a:D}(c:Kn u a=L):∃b,Jm u (Ar a)=A b/\JK u a=Pr b/\Oo (Pr b)=L/\Oo (JK u a)=L/\a<1000000:=by
 unfold Kn at c;split at c
 .rename_i f i;obtain⟨g,h⟩:=Gj c;have d:a<1000000:=by rwa[AjR]at g
  have e:JK u a=Pr f:=by unfold JK;grind
  exact⟨f,by rw[AeR d];omega,e,h,by grind,d⟩
 grind
variable{z:Aa->C F->Aj F} {y:Aa->Ak}
theorem qq{a:D}{g d:C F}{h b c e:G}{i j:F}(t:Kn u a=L)(l:y (Ar a)=Ac)(k:F9 h g=A (d,b))(m:z (Ar a) d=O)(o:X0 (W z y (Jm u)) (JK u a) d G.Az=A (i,c))(n:Dq c i=A (j,e)):W z y (Jm u) (Ar a) g h=A (j,b):=by obtain⟨p,b,c,e,_⟩:=WJ t;refine nG l b k m ?_ n;rw[Z4 e,<-c];omega
theorem qp{a:D}{b:C F}{c:G}{d:F×G}(t:Kn u a=L)(i:y (Ar a)=L)(j:X0 (W z y (Jm u)) (JK u a) b c=A d):W z y (Jm u) (Ar a) b c=A d:=by obtain⟨k,e,g,h,_⟩:=WJ t;refine nF i e ?_;rw[Z4 h,<-g];omega
theorem Kp{c:D}(t:Kn u c=L)(v:Bh)(b:D)(d:C F)(a:G):J v (JK u c) b d a=XJ v (JK u c) b d a:=by obtain⟨g,h,i,j,e,_⟩:=WJ t;exact nr e b d a
end
def f1(a:F×G):F:=a.1
def f2(a:F×G):G:=a.2
def FK{a:Type}(b:Ak)(c d:a):a:=An b c d
theorem J5{d:Type}(a:Ak)(b c:d):FK a b c=An a b c:=Ai4 B B
def nx(a:G):Aa:=a.next
def LN(a:C F):D:=BK a
def CL(a:F):C F:=a.I
theorem J0(a:C F):LN a=BK a:=Ai4 B B
theorem JY(a:F):CL a=a.I:=Ai4 B B
def bl(c:F)(a:G)(b:F->G->R):R:=b c a
def IF(c:Al)(e:C F)(a:G)(d:F->G->R):R:=(c.ev e a.next).b λb=>d b.2 (a.V b.1)
def XY(c:Al)(d:C F)(a:G)(b:F->G->R):R:=match c,d with
 | .alloc f,[]=>bl (.p (nx a) 0) (a.V (.I (LN f) f)) b
 | .box,[e]=>bl (.p (nx a) 0) (a.V (.I (LN (CL e)) (CL e))) b
 | .ds,_=>bl (.m (nx a)) (a.V (.Bu [] 0)) b
 |c,d=>IF c d a b
def fS(b:Al)(e:C F)(a:G)(c:F->G->R):XY b e a c=(b.ev e a.next).b λd=>c d.2 (a.V d.1):=by unfold XY;split<;>rfl
def e2(k:Bh)(m:Io)(e:Fm)(a:G)(c:F->G->R):R:=
 match m with
 | .rd g b=>match g,A3 e b with
  | .mv,[h]=>c h a
  | .Wv f,i=>c (.f f i) a
  |g,i=>(g.ev i a).b λh=>c h a
 | .al j b=>XY j (A3 e b) a c
 | .ef l b=>(l.ev (A3 e b) a).b λd=>c (f1 d) (f2 d)
 | .call f b=>(Du k (f.ev e) (A3 e b) a).b λd=>c (f1 d) (f2 d)
 | .Dd=>O
def yG(h:Bh)(d:Ak)(k:Io)(f:Fm)(a:G)(e:F->G->R):R:=
 match k with
 | .rd l c=>(FK d (l.ev (A3 f c) a) (A Ax)).b λm=>e m a
 | .al g c=>(FK d (DX g (A3 f c) a) (A (Ax,a))).b λb=>e (f1 b) (f2 b)
 | .ef i c=>(FK d (i.ev (A3 f c) a) (A (Ax,a))).b λb=>e (f1 b) (f2 b)
 | .call j c=>(FK d (Du h (j.ev f) (A3 f c) a) (A (Ax,a))).b λb=>e (f1 b) (f2 b)
 | .Dd=>FK d O (e Ax a)
def Xx(e:Bh)(h:Fm->G->R)(i:C CJ):Fm->G->R:=
 @List.rec CJ (λ_=>Fm->G->R) h
  (λa _ g b f=>match a.Ew with
   |none=>wb a<|e2 e a.op b f (λd c=>g (Ej b a.DH d) c)
   |some (j,k)=>wb a<|yG e (AO k (Fm.at b j)) a.op b f (λd c=>g (Ej b a.DH d) c)) i
def FD{c:Type}:C (Aj Ak×c)->C c
 |[]=>[]
 |(O,b)::a=>b::FD a
 |(A d,b)::a=>CT d b (FD a)
def Ry{b:Type}:C (Aj Ak×b)->Ak
 |[]=>Ac
 |(O,_)::a=>Ry a
 |(A _,_)::_=>L
def tb(b d:D):Ak:= @Nat.rec (λ_=>D->Ak) (λa=>Bb (Nat.mod a 2) 1) (λ_ c a=>c (Nat.div a 2)) d b
def eL(a b:D):tb a b=Nat.testBit a b:=by
 induction b generalizing a with
 |zero=>rw[Nat.testBit_zero];show Bb (a % 2) 1=_;rw[AiQ,Nat.beq_eq,decide_eq_true_iff]
 |succ b c=>rw[Nat.testBit_succ,<-c];rfl
def SA(a:D):C CJ->Ak
 |[]=>Ac
 |b::c=>An (tb b.bits a) (SA a c) L
def kx(a:D):∀c,SA a c=HF a c
 |[]=>rfl
 |d::b=>by show An (tb d.bits a) (SA a b) L=An (Nat.testBit d.bits a) (HF a b) L;rw[eL,kx a b]
def I4(a b c:Ak):Ak:=An a b c
def Rw(b:D)(c:G):C (Aj Ak×EZ)->Aj Ak
 |[]=>O
 |a::d=>An (tb b a.2.Kp) (Rw b c d) (A (I4 (BV a.2.r a.2.xs c a.2.v) ((Rw b c d).g L) Ac))
def Tr{e:Type}(c:D)(d:G)(a:C (Aj Ak×EZ))(b:Aj e):Aj e:=An (Ry a) (FK (CY c d (FD a)) b O) (match Rw c d a with
 |none=>b
 |some f=>FK f b O)
def RE(a:D)(b:Rd)(d:C F)(c:F):C (Aj Ak×D×G)->Aj Ak
 |[]=>O
 |f::e=>An (tb a f.2.1) (RE a b d c e) (A (I4 (BV b d f.2.2 c) ((RE a b d c e).g L) Ac))
def Vo{g:Type}(c:D)(d:Rd)(f:C F)(e:F)(a:C (Aj Ak×D×G))(b:Aj g):Aj g:=An (Ry a) (FK (Er c d f e (FD a)) b O) (match RE c d f e a with
 |none=>b
 |some h=>FK h b O)
def ff{a:D}{b:G}:∀{f:C (Aj Ak×EZ)},Ry f=Ac->CY a b (FD f)=(Rw a b f).g L
 |[],_=>rfl
 |(O,c)::d,e=>by show An (An (Nat.testBit a c.Kp) L (BV c.r c.xs b c.v)) (CY a b (FD d)) Ac=Option.getD (An (tb a c.Kp) (Rw a b d) (A (An (BV c.r c.xs b c.v) ((Rw a b d).g L) Ac))) L;rw[(ff (a:=a) (b:=b) (f:=d) e),eL];grind
 |(A _,_)::_,e=>by cases e
def fL{a:D}{b:Rd}{d:C F}{c:F}:∀{h:C (Aj Ak×D×G)},Ry h=Ac->Er a b d c (FD h)=(RE a b d c h).g L
 |[],_=>rfl
 |(O,f)::e,g=>by show An (An (Nat.testBit a f.1) L (BV b d f.2 c)) (Er a b d c (FD e)) Ac=Option.getD (An (tb a f.1) (RE a b d c e) (A (An (BV b d f.2 c) ((RE a b d c e).g L) Ac))) L;rw[(fL (a:=a) (b:=b) (d:=d) (c:=c) (h:=e) g),eL];grind
 |(A _,_)::_,g=>by cases g
def XI{f:Type}(b:D)(c:G)(a:C (Aj Ak×EZ))(d:Aj f):Tr b c a d=An (CY b c (FD a)) d O:=by
 unfold Tr
 cases e:Ry a with
 |true=>rfl
 |false=>rw[ff e];cases Rw b c a<;>rfl
def fK{h:Type}(b:D)(c:Rd)(e:C F)(d:F)(a:C (Aj Ak×D×G))(f:Aj h):Vo b c e d a f=An (Er b c e d (FD a)) f O:=by
 unfold Vo
 cases g:Ry a with
 |true=>rfl
 |false=>rw[fL g];cases RE b c e d a<;>rfl
def yD(p:Bh)(n:Ak)(k:CJ)(m:D)(b:C (Aj Ak×EZ))(c:C (Aj Ak×D×G))(j:Fm)(a:G)(e:C (Aj Ak×EZ)->C (Aj Ak×D×G)->F->G->R):R:=
 match k.op with
 | .rd h g=>match h,A3 j g with
  | .mv,[d]=>e b c d a
  | .Wv l,i=>e b c (.f l i) a
  |h,i=>(h.ev i a).b λd=>An (HQ h) (Vo k.bits h i d c (e (An n ((O,⟨m,h,i,d⟩)::b) b) c d a)) (e b c d a)
 | .al o g=>XY o (A3 j g) a λd a=>e b c d a
 | .ef q g=>(q.ev (A3 j g) a).b λf=>Tr k.bits (f2 f) b (e b (An n ((O,m,a)::c) c) (f1 f) (f2 f))
 | .call l g=>(Du p (l.ev j) (A3 j g) a).b λf=>Tr k.bits (f2 f) b (e b (An n ((O,m,a)::c) c) (f1 f) (f2 f))
 | .Dd=>O
def yE(o:Bh)(m e:Ak)(k:CJ)(l:D)(c:C (Aj Ak×EZ))(f:C (Aj Ak×D×G))(g:Fm)(b:G)(i:C (Aj Ak×EZ)->C (Aj Ak×D×G)->F->G->R):R:=match k.op with
 | .rd j d=>(FK e ((j.ev (A3 g d) b).b λh=>An (HQ j) (Vo k.bits j (A3 g d) h f (A h)) (A h)) (A Ax)).b λh=>i (An (HQ j) (An m ((A e,⟨l,j,A3 g d,h⟩)::c) c) c) f h b
 | .al n d=>(FK e (DX n (A3 g d) b) (A (Ax,b))).b λa=>i c f (f1 a) (f2 a)
 | .ef p d=>(FK e ((p.ev (A3 g d) b).b λa=>Tr k.bits (f2 a) c (A a)) (A (Ax,b))).b λa=>i c (An m ((A e,l,b)::f) f) (f1 a) (f2 a)
 | .call q d=>(FK e ((Du o (q.ev g) (A3 g d) b).b λa=>Tr k.bits (f2 a) c (A a)) (A (Ax,b))).b λa=>i c (An m ((A e,l,b)::f) f) (f1 a) (f2 a)
 | .Dd=>FK e O (i c f Ax b)
def aq(i:Bh)(l:Fm->G->R)(m:C CJ):D->C (Aj Ak×EZ)->C (Aj Ak×D×G)->Fm->G->R:=
 @List.rec CJ (λ_=>D->C (Aj Ak×EZ)->C (Aj Ak×D×G)->Fm->G->R) (λ_ _ _ a f=>l a f)
  (λe k j c b d a f=>match e.Ew with
   |none=>yD i (SA c k) e c b d a f (λb d h g=>j (c+1) b d (Ej a e.DH h) g)
   |some (n,o)=>yE i (SA c k) (AO o (Fm.at a n)) e c b d a f (λb d h g=>j (c+1) b d (Ej a e.DH h) g)) m
def mC(m:Bh)(h:C Gh)(f:JF)(d:LC->C LI->Fm->G->R)(n:LC)(c:C LI)(a:Fm)(b:G):R:=
 match n with
 | .skip=>MC h f d c a b
 | .It l=>Xx m (MC h f d c) l a b
 | .HZ l=>aq m (MC h f d c) l 0 [] [] a b
 | .EB g e=>d g (.DS e O::c) a b
 | .N5 k i g e=>d g (.DS e (A (k,i))::c) a b
 | .Hd o g e=>Dw (d g c a b) (d e c a b) (o.ev a)
 | .A4 j e=>d e (.BB j::c) a b
 | .DY k i _=>f k (i.m (Fm.at a)) b
 | .Cm j=>Q3 h f d j c a b
 | .DG=>Pu h a b
 | .Dd=>O
def Y(e:Bh)(f:C Gh)(g:JF)(h:D):LC->C LI->Fm->G->R:=
 @Nat.rec (λ_=>LC->C LI->Fm->G->R) (λb a d c=>E e f b a d c) (λ_ i b a d c=>mC e f g i b a d c) h
def Aft(i:Bh)(f:Io)(e:Fm)(a:G)(b:F->G->R):e2 i f e a b=Xw i f e a b:=by
 cases f with
 |rd d h=>
  show(match d,A3 e h with| .mv,[c]=>b c a| .Wv k,g=>b (.f k g) a|d,g=>(d.ev g a).b λc=>b c a)=(d.ev (A3 e h) a).b λc=>b c a;split;.rename_i c j;rw[j];rfl
  .rfl
  grind
 |al l h=>exact fS ..
 |_=>rfl
def Afs(b:Bh)(c:Ak)(a:Io)(f:Fm)(d:G)(e:F->G->R):yG b c a f d e=xG b c a f d e:=by cases a<;>rfl
def Afu(b:Bh)(f:Fm->G->R)(i:C CJ):Xx b f i=PX b f i:=by
 induction i with
 |nil=>rfl
 |cons a h l=>
  funext c g;show(match a.Ew with
   |none=>wb a<|e2 b a.op c g (λe d=>Xx b f h (Ej c a.DH e) d)
   |some (j,k)=>wb a<|yG b (AO k (Fm.at c j)) a.op c g (λe d=>Xx b f h (Ej c a.DH e) d))=(match a.Ew with
   |none=>wb a<|Xw b a.op c g (λe d=>PX b f h (Ej c a.DH e) d)
   |some (j,k)=>wb a<|xG b (AO k (Fm.at c j)) a.op c g (λe d=>PX b f h (Ej c a.DH e) d))
  rw[l];split;.rw[Aft]
  .rw[Afs]
def W1{d:Type}(b:Ak)(c:Aj Ak×d)(a:C (Aj Ak×d)):FD (An b (c::a) a)=An b (FD (c::a)) (FD a):=by grind
def Afq(n:Bh)(l:Ak)(d:CJ)(k:D)(c:C (Aj Ak×EZ))(e:C (Aj Ak×D×G))(q:Fm)(b:G){i:C (Aj Ak×EZ)->C (Aj Ak×D×G)->F->G->R}{j:C EZ->C (D×G)->F->G->R}(h:∀p d a b,i p d a b=j (FD p) (FD d) a b):yD n l d k c e q b i=xD n l d k (FD c) (FD e) q b j:=by
 unfold yD xD
 cases d.op with
 |rd f m=>
  have u:∀g:C F,((f.ev g b).b λa=>An (HQ f) (Vo d.bits f g a e (i (An l ((O,⟨k,f,g,a⟩)::c) c) e a b)) (i c e a b))=(f.ev g b).b λa=>An (HQ f) (An (Er d.bits f g a (FD e)) (j (An l (⟨k,f,g,a⟩::FD c) (FD c)) (FD e) a b) O) (j (FD c) (FD e) a b):=λg=>by congr 1;funext a;rw[fK,h,h,W1];rfl
  simp only[];split;.rename_i o;rw[o];exact h ..
  .exact h ..
  grind
 |al s m=>simp only[];rw[fS];grind
 |ef o m=>simp only[];congr 1;funext r;rw[XI,h,W1];rfl
 |call t m=>simp only[];congr 1;funext r;rw[XI,h,W1];rfl
 |Dd=>rfl
def Afr(g:Bh)(d h:Ak)(a:CJ)(m:D)(l:C (Aj Ak×EZ))(n:C (Aj Ak×D×G))(o:Fm)(b:G){i:C (Aj Ak×EZ)->C (Aj Ak×D×G)->F->G->R}{j:C EZ->C (D×G)->F->G->R}(c:∀k a e b,i k a e b=j (FD k) (FD a) e b):yE g d h a m l n o b i=xE g d h a m (FD l) (FD n) o b j:=by
 unfold yE xE
 cases a.op with
 |rd p f=>simp only[fK,c];congr 1;funext e;congr 1;cases HQ p<;>cases d<;>rfl
 |al q f=>simp only[c];rfl
 |ef r f=>simp only[XI,c,W1];rfl
 |call s f=>simp only[XI,c,W1];rfl
 |Dd=>simp only[c];rfl
def e1(e:Bh)(j:Fm->G->R):∀(l:C CJ)(b:D)(a:C (Aj Ak×EZ))(c:C (Aj Ak×D×G))(d:Fm)(h:G),aq e j l b a c d h=PW e j l b (FD a) (FD c) d h
 |[],_,_,_,_,_=>rfl
 |f::g,b,a,c,d,h=>by
  show(match f.Ew with
   |none=>yD e (SA b g) f b a c d h (λa c i k=>aq e j g (b+1) a c (Ej d f.DH i) k)
   |some (m,n)=>yE e (SA b g) (AO n (Fm.at d m)) f b a c d h (λa c i k=>aq e j g (b+1) a c (Ej d f.DH i) k))=(match f.Ew with
   |none=>xD e (HF b g) f b (FD a) (FD c) d h (λa c i k=>PW e j g (b+1) a c (Ej d f.DH i) k)
   |some (m,n)=>xE e (HF b g) (AO n (Fm.at d m)) f b (FD a) (FD c) d h (λa c i k=>PW e j g (b+1) a c (Ej d f.DH i) k))
  rw[kx];split;.exact Afq _ _ _ _ _ _ _ _ λl f i h=>e1 e j g _ _ _ _ _
  .exact Afr _ _ _ _ _ _ _ _ _ λl f i h=>e1 e j g _ _ _ _ _
def aB(b:Bh)(c:C Gh)(a:JF):∀d,Y b c a d=X b c a d
 |0=>rfl
 |d+1=>by
  funext e f h g
  show mC b c a (Y b c a d) e f h g=mB b c a (X b c a d) e f h g
  rw[aB b c a d]
  cases e with
  |It i=>show Xx _ _ _ _ _=PX _ _ _ _ _;rw[Afu]
  |HZ i=>exact e1 ..
  |_=>rfl
def YJ(f:Bh)(b:Fv)(d:JF)(c:D)(h:C F)(g:G):R:=match O0 c (GV b.DS [])with
 |some a=>match a.c with
  | .DY c i e=>Y f b.Hn d 100000 e (.DY c i e::a.S) (Mj a.L h) g
  |j=>Y f b.Hn d 100000 j a.S (Mj a.L h) g
 |none=>O
def Y0(d:Bh)(a:Fv)(b:JF)(c:C F)(e:G):R:=Y d a.Hn b 100000 a.DS [] (Kc c .h .nil) e
def nK(b:Bh)(a:Fv)(c:D)(e:C F)(d:G):XJ b a c e d=YJ b a (J b a) c e d:=by
 unfold XJ YJ
 cases O0 c (GV a.DS [])with
 |none=>rfl
 |some f=>simp only[aB];unfold XP;grind
def nJ(a:Bh)(b:Fv)(c:C F)(d:G):X0 a b c d=Y0 a b (J a b) c d:=by unfold X0 Y0;rw[aB]
theorem J9(a:Bh)(b:Aa)(d:C F)(c:G):Du a (.f b []) d c=a b d c:=by show a b (d++[]) c=_;grind
theorem Kq:Aa.h=Ar 0:=Ai4 B B
theorem Ks{a:D}(c:a<400000):Aa.o (Ar a)=Ar (2*a+1):=by have b:=Mz (a:=a) (by omega);refine Aa.WD ?_;rw[Mz (by omega)];show 2*(Ar a).num=_;omega
theorem Kr{a:D}(c:a<400000):Aa.i (Ar a)=Ar (2*a+2):=by have b:=Mz (a:=a) (by omega);refine Aa.WD ?_;rw[Mz (by omega)];show 2*(Ar a).num+1=_;omega
theorem Ki:BK []=0:=Ai4 B B
theorem Kh(b:F)(a:C F):BK (b::a)=BK a+1:=Ai4 B B
theorem J_(a:F×G):f1 a=a.1:=Ai4 B B
theorem Ka(a:F×G):f2 a=a.2:=Ai4 B B
theorem Kl(a:G):nx a=a.next:=Ai4 B B
theorem J4(b c:D)(f:C F)(a:G)(d:F->G->R):IF (.E_ b c) f a d=(CB b c a.next f).b λe=>d e.2 (a.V e.1):=Ai4 B B
theorem J3(g:C F)(b c:D)(f:C F)(a:G)(d:F->G->R):IF (.dt g b c) f a d=(Gi g b c a.next f).b λe=>d e.2 (a.V e.1):=Ai4 B B
abbrev F.n(x:Int):F:=.i .i64 x
end Go.Fg
namespace Go.Proofs.YtmnfpdedgnfeiaaGreat
open Go.Fg
def P9:Program:=Tryz.prog
def PA(a:D):Ak:=Kn P9 a
def xx(b:Bh)(d:D)(a:C F)(c:G):R:=X0 b (JK P9 d) a c
def jj(a:Bh)(d c:D)(e:C F)(b:G):R:=J a (JK P9 d) c e b
def NB{d:D}(f:PA d=L)(a:Bh)(c:D)(e:C F)(b:G):jj a d c e b=XJ a (JK P9 d) c e b:=Kp f a c e b
def Ahq{b:D}{a:GY}(c:I5 P9 b=A a):JK P9 b=Pr a:=by unfold JK;rw[c]
variable{a:D}
def jl{c:Fv}(g:JK P9 a=c)(h:PA a=L)(b:Bh)(e:D)(f:C F)(d:G):jj b a e f d=YJ b c (jj b a) e f d:=by rw[NB h,nK];subst g;rfl
def xl{b:D}{c:Fv}(f:JK P9 b=c)(a:Bh)(d:C F)(e:G):xx a b d e=Y0 a c (jj a b) d e:=by unfold xx;rw[nJ];subst f;rfl
def vg:C D:=[46,47,28,29,86,88,89,90,91,32,33,34,35,36,37,54,51,55,63,64,176,135,136,137,145,67,70,71,72,73,74,76,77,78,92,93,94,95,56,104,175,177,178,183,107,108,110,114,117,118,119,121,122,123,127,128,129,148,149,150,151,152,153,231,155,156,159,160,162,163,164,166,168,169,170,187,188,189,191,192,193,194,195,196,197,198,201,205,207,208,209,210,232,233,235,236,237,241,242,244,52,58,59,61,62,98,99,100,101]
def KJ:Aa->Ak:=λa=>Sw (a.num-1) vg
def W9:Bh:=W (λ_ _=>O) KJ (Jm P9)
def qk(n:PA a=L)(l:KJ (Ar a)=Ac){b c:C F}{d e f j:G}{g h:F}(k:F9 d b=A (c,e))(i:xx W9 a c G.Az=A (g,f))(m:Dq f g=A (h,j)):W9 (Ar a) b d=A (h,e):=
 qq n l k B i m
def ql(g:PA a=L)(f:KJ (Ar a)=L){b:C F}{c:G}{d:F×G}(e:xx W9 a b c=A d):W9 (Ar a) b c=A d:=
 qp g f e
