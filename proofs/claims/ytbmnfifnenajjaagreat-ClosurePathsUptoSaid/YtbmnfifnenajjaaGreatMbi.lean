/- Part of the proof. -/
import Derived.Test.YtbmnfifnenajjaaGreatMbh
set_option linter.all false
noncomputable section
open Option renaming some->A,bind->Option.b
open _root_ renaming rfl->B,List->C,Nat->D,Int->K,if_neg->Ad,if_pos->Af,Option->Ae,Bool->Ah,cond->Aj,decide_eq_true->A0,decide_eq_false->A2
open Bool renaming true->L,false->Aa
open List renaming replicate->BG,length->List.l,map->List.m,take->List.t,drop->List.d
open Nat renaming le_refl->CK
open Go.IntKind renaming i64->Go.IntKind.n
open Array renaming toList->Array.l
open Eq renaming trans->Eq.t,symm->Eq.s
open Or renaming inl->Or.i,inr->Or.j
open Int renaming toNat->Int.n
namespace Go.Proofs.YtbmnfifnenajjaaGreat
open Go.Fg
structure Dw(e:C Ab)(f:D)(a:Ab)(b:AK):Prop where
 ha:b.Bc=(f:K)
 hb:e[f]? =A a
 An:(b.An.l:K)=a.An
 AG:b.AG.l=a.Av.l
 AS:b.AS.l=a.Av.l
 A4:b.A4.l=a.Av.l
 AD:∀(c:D) d h,a.Av[c]? =A d->b.AG[c]? =A h->(h.l:K)=C7 e d
 B1:∀(c:D) d g,a.Av[c]? =A d->b.A4[c]? =A g->(g.l:K)=C7 e d
variable{c:AK}{e:D}
def Dw.Ca{d:C _}{b:Ab}(a:Dw d e b c):F4 d c=b:=by unfold F4;rw[a.ha,AdR,a.hb];rfl
structure DQ(a b:AK):Prop where
 Bc:b.Bc=a.Bc
 AP:b.AP=a.AP
 Ax:b.Ax=a.Ax
 Az:b.Az=a.Az
 An:b.An.l=a.An.l
 AG:b.AG.m List.length=a.AG.m List.length
 AS:b.AS.l=a.AS.l
 A4:b.A4.m List.length=a.A4.m List.length
def DQ.refl(a:AK):DQ a a:=⟨B,B,B,B,B,B,B,B⟩
variable{d:AK}
def DQ.AI{e:AK}(a:DQ c d)(b:DQ d e):DQ c e:=⟨b.Bc.t a.Bc,b.AP.t a.AP,b.Ax.t a.Ax,b.Az.t a.Az,b.An.t a.An,b.AG.t a.AG,b.AS.t a.AS,b.A4.t a.A4⟩
def Va{f:Type}{e c:C (C f)}(g:c.m List.length=e.m List.length){a:D}{b:C f}(h:c[a]? =A b):∃d,e[a]? =A d/\b.l=d.l:=by
 have:(c.m List.length)[a]? =A b.l:=by grind
 grind
def TJ{c:Type}(b:C (C c))(a e:D)(f:c):(CP b a e f).m List.length=b.m List.length:=by
 unfold CP;split
 .rename_i i h;refine AeP λd=> ?_;rw[Aeo,Aeo];by_cases g:a=d;.grind
  .grind
 grind
variable{l:AK}
def Dw.En{n:C Ab}{j:D}{k:Ab}{m:AK}(a:Dw n j k l)(b:DQ l m):Dw n j k m where
 ha:=b.Bc.t a.ha
 hb:=a.hb
 An:=by rw[b.An];exact a.An
 AG:=by have:=AdW List.length b.AG;rw[Ad9,Ad9]at this;exact this.t a.AG
 AS:=b.AS.t a.AS
 A4:=by have:=AdW List.length b.A4;rw[Ad9,Ad9]at this;exact this.t a.A4
 AD:=λg h p e c=>by
  let⟨i,f,d⟩:=Va b.AG c
  rw[d];exact a.AD g h i e f
 B1:=λg h o e c=>by
  let⟨i,f,d⟩:=Va b.A4 c
  rw[d];exact a.B1 g h i e f
variable{b:AK}{q:D}
def Dw.Eo{k:C Ab}{m:D}{c:Ab}(a:Dw k m c b){d:AF}(n:P3 k c d q):∃s,H0 b d=A s:=by
 unfold H0;rcases n with⟨e,f,g⟩|⟨j,r,e,f,g,o,t⟩;.rw[Af (by omega),Af f];have:=a.An;exact Bb (by omega)
 .rw[Ad (by omega),Af o];let⟨p,h⟩:=Bb (b:=b.AG) (a:=j) (by rw[a.AG];grind)
  have:=a.AD j r p g h;rw[e,AdR,h];exact Bb (by omega)
variable{h:D}
def Dw.CQ{e:C _}{d:Ab}{a:AK}(g:Dw e h d a){c:C AF}{l:D}(i:∀b∈c,P3 e d b l):Kh a c=A (c.m (Bs a)):=by
 induction c with
 |nil=>rfl
 |cons b f k=>
  let⟨m,j⟩:=g.Eo (i b (Aey ..))
  unfold Kh;rw[j,k P];show A (m::f.m (Bs a))=A (Bs a b::f.m (Bs a));unfold Bs;grind
def OP{a:AK}{b:AF}{c:N}(d:H0 a b=A c):Bs a b=c:=by unfold Bs;grind
structure Gc(g:C Ab)(h:Ai)(i:D)(b:AK)(c f:D)(d:AK)(e:Ab)(a:Au):Prop where
 AP:b.AP=(c:K)
 Ax:b.Ax=(f:K)
 lt:c<i
 Cc:h.Ac[c]? =A d
 GZ:∃j:D,Dw g j e d
 hn:e.Av[f]? =A a
 op:a.op=8\/a.op=9
 CH:CH g a.A8=b.Bc
structure L7(d:Ai)(e:D)(a:AK)(c:D)(b:AK):Prop where
 next:a.next=(c:K)
 lt:e<c
 Cc:d.Ac[c]? =A b
 Bc:b.Bc=a.Bc
 AP:b.AP=a.AP
 Ax:b.Ax=a.Ax
 Az:b.Az=a.Az+1
structure CF(f:C Ab)(c:Ai):Prop where
 A7:c.Ac.l<=400
 BC:∀(b:D) a,c.Ac[b]? =A a->∃d e,Dw f d e a
 up:∀(b:D) a,c.Ac[b]? =A a->a.AP= -1\/∃k h d e j,Gc f c b a k h d e j
 next:∀(b:D) a,c.Ac[b]? =A a->a.next= -1\/∃i g,L7 c b a i g
 Az:∀(b:D) a,c.Ac[b]? =A a->0<=a.Az/\a.Az<=(b:K)
 K_:∀(b:D) a,c.Ac[b]? =A a->a.AP= -1->b=0
def CF.AJ{u:C _}{n:Ai}(i:CF u n){m:AK}(h:n.Ac[q]? =A l)(f:DQ l m)(z:m.next=l.next):CF u (n.AJ q m)where
 A7:=by show(n.Ac.set q m).l<=400;rw[Aed];exact i.A7
 BC:=λe g d=>by
  rcases Ik h d with⟨rfl,rfl⟩|⟨_,d⟩;.let⟨p,k,v⟩:=i.BC e l h;exact⟨p,k,v.En f⟩
  .exact i.BC e g d
 K_:=λe g d c=>by
  rcases Ik h d with⟨rfl,rfl⟩|⟨_,d⟩;.exact i.K_ e l h (f.AP.s.t c)
  .exact i.K_ e g d c
 up:=λe g d=>by
  have t:∀j:AK,(j.AP= -1\/∃o r p k s,Gc u n e j o r p k s)->(j.AP= -1\/∃o r p k s,Gc u (n.AJ q m) e j o r p k s):=by
   rintro j (c|⟨o,r,p,k,s,a⟩)
   .grind
   .right;by_cases x:o=q
    .subst x;have y:=Aew (a.Cc.s.t h);subst y;let⟨c,v⟩:=a.GZ
     exact⟨o,r,m,k,s,a.AP,a.Ax,a.lt,Jf h,⟨c,v.En f⟩,a.hn,a.op,a.CH⟩
    .exact⟨o,r,p,k,s,a.AP,a.Ax,a.lt,by show(n.Ac.set q m)[o]? =_;rw[AeJ Om];exact a.Cc,a.GZ,a.hn,a.op,a.CH⟩
  rcases Ik h d with⟨rfl,rfl⟩|⟨_,d⟩
  .rcases(t l (i.up e l h))with c|⟨o,r,p,k,s,a⟩;.exact .i (f.AP.t c)
   .exact .j ⟨o,r,p,k,s,f.AP.t a.AP,f.Ax.t a.Ax,a.lt,a.Cc,a.GZ,a.hn,a.op,a.CH.t f.Bc.s⟩
  .exact t g (i.up e g d)
 next:=λe g d=>by
  have t:∀j:AK,(j.next= -1\/∃c g,L7 n e j c g)->(j.next= -1\/∃c g,L7 (n.AJ q m) e j c g):=by
   rintro j (c|⟨c,w,b⟩)
   .grind
   .right;by_cases x:c=q;.subst x;have y:=Aew (b.Cc.s.t h);subst y;exact⟨c,m,b.next,b.lt,Jf h,f.Bc.t b.Bc,f.AP.t b.AP,f.Ax.t b.Ax,f.Az.t b.Az⟩
    .exact⟨c,w,b.next,b.lt,by show(n.Ac.set q m)[c]? =_;rw[AeJ Om];exact b.Cc,b.Bc,b.AP,b.Ax,b.Az⟩
  rcases Ik h d with⟨rfl,rfl⟩|⟨_,d⟩
  .rcases t l (i.next e l h)with c|⟨c,w,b⟩;.grind
   .exact .j ⟨c,w,z.t b.next,b.lt,b.Cc,b.Bc.t f.Bc.s,b.AP.t f.AP.s,b.Ax.t f.Ax.s,by rw[f.Az];exact b.Az⟩
  .exact t g (i.next e g d)
 Az:=λe g d=>by
  rcases Ik h d with⟨rfl,rfl⟩|⟨_,d⟩;.rw[f.Az];exact i.Az e l h
  .exact i.Az e g d
def gw(a:AK)(b:D)(c:N):DQ a (FG a b c).1/\(FG a b c).1.next=a.next:=by
 unfold FG;split;.exact⟨DQ.refl a,B⟩
 .exact⟨⟨B,B,B,B,Aed,B,B,B⟩,B⟩
def ME(c:AF->N)(d:C AF)(a:AK):∀b,DQ a (Dc c d a b).1/\(Dc c d a b).1.next=a.next
 |0=>⟨DQ.refl a,B⟩
 |b+1=>by
  have e:=ME c d a b;unfold Dc;split;.rename_i f _;have:=gw (Dc c d a b).1 b (c f);exact⟨e.1.AI this.1,this.2.t e.2⟩
  omega
def YS(a:AK)(c d:D)(e:N)(b:BA):DQ a (CZ a c d e b).1/\(CZ a c d e b).1.next=a.next:=by
 unfold CZ;split;.exact⟨DQ.refl a,B⟩
 .split;.exact⟨DQ.refl a,B⟩
  .exact⟨⟨B,B,B,B,B,TJ _ _ _ _,B,TJ _ _ _ _⟩,B⟩
def Ub(e:D->N)(d:D)(c:BA)(a:AK):∀b,DQ a (Ce e d c a b).1/\(Ce e d c a b).1.next=a.next
 |0=>⟨DQ.refl a,B⟩
 |b+1=>by
  have f:=Ub e d c a b;unfold Ce;split;.grind
  .split;.grind
   .have:=YS (Ce e d c a b).1 d b (e b) c;exact⟨f.1.AI this.1,this.2.t f.2⟩
def YP{f:D->N}{d:D}{c:BA}{b:AK}{e:D}(g:(Ce f d c b e).2.2≠0):∀a,e<=a->Ce f d c b a=Ce f d c b e
 |0,h=>by grind
 |a+1,h=>by
  by_cases i:e=a+1;.grind
  .have j:=YP g a (by omega);rw[show Ce _ d c b _=_ from B];show(if(Ce _ d c b a).2.2≠0\/(f a).Ak=0 then Ce _ d c b a else _)=_;grind
def LR{e:Type}(a c:Ah)(b:F->Ae e):((Aj (A1 Aa (.b a)) (A (.b c)) (A AC)).b λd=>(DY [.b a,.b L,d]).b b)=b (.b (a||c)):=by cases a<;>rfl
theorem YR(b:D->N)(d:D)(c:BA)(e:AK)(a:D):Ce b d c e (a+1)=
 if(Ce b d c e a).2.2≠0\/(b a).Ak=0 then Ce b d c e a
 else if(CZ (Ce b d c e a).1 d a (b a) c).2.2≠0 then((Ce b d c e a).1,(Ce b d c e a).2.1,(CZ (Ce b d c e a).1 d a (b a) c).2.2)
 else((CZ (Ce b d c e a).1 d a (b a) c).1,(Ce b d c e a).2.1||(CZ (Ce b d c e a).1 d a (b a) c).2.1,0):=rfl
variable{v:D}
def Gc.Re{j:C Ab}(p:BD j){r:Ai}{x a:D}{n e:AK}{m:Ab}{c:Au}(b:Gc j r v n x a e m c){o:D}{f:Ab}(k:Dw j o f n):∃g h,e.A4[a]? =A g/\e.AG[a]? =A h/\g.l=f.Bk.l/\h.l=f.Bk.l/\c.A3.l=f.An/\(0<f.A_.l↔c.op=9):=by
 let⟨w,d⟩:=b.GZ
 let⟨q,y,z,s,E,F,G⟩:=((p.Bc w m d.hb).Ax a c b.hn).call b.op
 have I:=b.CH;have H:=k.ha;have:q=o:=by omega
 subst this;have:=Aew (s.s.t k.hb);subst this;have J:=(AdN.1 b.hn).1;let⟨g,t⟩:=Bb (b:=e.A4) (a:=a) (by rw[d.A4];grind)
 let⟨h,u⟩:=Bb (b:=e.AG) (a:=a) (by rw[d.AG];grind)
 have M:=d.B1 a c g b.hn t;have N:=d.AD a c h b.hn u;grind
def DQ.rh{a:AK}(g:DQ a b){c:D}{d:C BA}(f:a.A4[c]? =A d):∃e,b.A4[c]? =A e/\e.l=d.l:=by
 let⟨j,i,h⟩:=Va g.A4.s f
 grind
def DQ.XV{a:AK}(g:DQ a b){c:D}{d:C N}(f:a.AG[c]? =A d):∃e,b.AG[c]? =A e/\e.l=d.l:=by
 let⟨j,i,h⟩:=Va g.AG.s f
 grind
def RA{b:Ai}{a c:D}{e:AK}(g:b.Ac[a]? =A e)(f:c≠a):(b.AJ c d).Ac[a]? =A e:=by show(b.Ac.set c d)[a]? =_;grind
def dw{e:CI}(v:BD e.l){h:Ai}{n o d:D}{f:AK}{w:Ab}{I:Au}(x:h.Ac[n]? =A l)(g:Gc e.l h n l o d f w I){H:D}{q:Ab}(s:Dw e.l H q l)(c:D->N)(b:BA){a:D}(M:a<q.Bk.l){m:G}{p:D->T}{j:T->Prop}(t:B_ e m (h.AJ o (Ce c d b f a).1) p j):∃i,W9 (pos 201) [.p e.x 0,.p (p n) 0,.n a,.S (N.c (c a)),.S (BA.c b)] m=A (.AB [.b (CZ (Ce c d b f a).1 d a (c a) b).2.1,.n (CZ (Ce c d b f a).1 d a (c a) b).2.2],i)/\B_ e i (h.AJ o (CZ (Ce c d b f a).1 d a (c a) b).1) p j/\Bo j m i:=by
 let⟨S,W,y,E,Q,R,_,_⟩:=g.Re v s
 have r:=(Ub c d b f a).1;let⟨U,z,V⟩:=r.rh y
 let⟨X,F,Y⟩:=r.XV E
 have Z:=g.lt;let⟨i,P,u,J⟩:=pT t (RA x (by omega)) g.AP g.Ax (Jf g.Cc) z F (b:=a) (by omega) (by omega) (c a) b
 rw[LX]at u;grind
variable{f:D}{xt:Ab}
def pC{c:CI}(xc:BD c.l){v:G}{o:Ai}{t:D->T}{q:T->Prop}(xo:B_ c v o t q){p x:D}{xN:Au}(U:o.Ac[p]? =A b)(z:Gc c.l o p b x f l xt xN){V:D}{m:Ab}(u:Dw c.l V m b):∃d,W9 (pos 157) [.p c.x 0,.p (t p) 0] v=A (.AB [.b (EU c.l o p).2.1,.n (EU c.l o p).2.2],d)/\B_ c d (EU c.l o p).1 t q/\Bo q v d:=by
 have xz:EU c.l o p=(o.AJ x (Ce (Fx c.l b) f ⟨b.Az,Aa,L⟩ l m.Bk.l).1,(Ce (Fx c.l b) f ⟨b.Az,Aa,L⟩ l m.Bk.l).2):=by unfold EU;simp only[DK U,z.AP,z.Ax,AdR,DK z.Cc,u.Ca]
 rw[xz];have xX:=(xc.Bc V m u.hb).Bk;have xE:=(xc.Bc V m u.hb).ex;have x1:=z.lt;have xM:=MU (f:=m.Bk.l) (d:=λe _ d=>jj W9 157 2 [.n m.Bk.l,Z AF.c m.Bk,.p c.x 0,.p (t p) 0,.n e,.b (Ce (Fx c.l b) f ⟨b.Az,Aa,L⟩ l e).2.1] d)
  (e:=λe _ d=>(Ce (Fx c.l b) f ⟨b.Az,Aa,L⟩ l e).2.2=0/\B_ c d (o.AJ x (Ce (Fx c.l b) f ⟨b.Az,Aa,L⟩ l e).1) t q/\Bo q v d)
  (g:=λxQ=>∃d,xQ=A (.AB [.b (Ce (Fx c.l b) f ⟨b.Az,Aa,L⟩ l m.Bk.l).2.1,.n (Ce (Fx c.l b) f ⟨b.Az,Aa,L⟩ l m.Bk.l).2.2],d)/\B_ c d (o.AJ x (Ce (Fx c.l b) f ⟨b.Az,Aa,L⟩ l m.Bk.l).1) t q/\Bo q v d)
  (λe _ d xe xa=>by
   let⟨xb,y,xi⟩:=xa
   let⟨E,R⟩:=Bb xe
   have xw:=Cm xe;let⟨w,xm⟩:=u.Eo (xE E (AdU R))
   have xy:Fx c.l b e=w:=by unfold Fx;rw[u.Ca,R];exact OP xm
   let⟨xO,xC,xJ,xF,xf,xA,xZ,x2⟩:=box d (.I 2 (AF.c E))
   let⟨x9,x6⟩:=EL d (b:=2) [(.n 0),(.n 0)] (c:=AF.c E) xJ xF B B
   have x4:xC.AL xO 0 2=A (AF.c E):=BB xA;have xq:=y.ext xf;let⟨xR,xn,S,xI,xD⟩:=xq
   have W:=S.BC p b (RA U (by omega));rw[xI]at W;let⟨xk,xY,xg⟩:=Nc W E xm
   let⟨xP,M,xK,xG,xh,xB,x0,x3⟩:=box xk (.I 2 (N.c w))
   let⟨ya,x7⟩:=EL xk (b:=2) [(.i .u8 0),(.n 0)] (c:=N.c w) xK xG B B
   have x5:M.AL xP 0 2=A (N.c w):=BB xB;have J:=MD w;have X:=xf.AI (xg.AI xh);have xS:Bo q d M:=λx xH=>X.M (y.C4 xH);have r:=YR (Fx c.l b) f ⟨b.Az,Aa,L⟩ l e;by_cases xj:w.Ak=0
   .left;rw[A0 xj]at J;rw[Af P]at r;refine⟨(),M,?_,?_⟩;.show jj W9 157 2 _ _=jj W9 157 2 _ _;rw[r,K3.2.2.1];simp only[QY,K3.2.2.2.1,H (IE R),J.H B,QB,K3.2.2.2.2.1,H (Bh (a:=e) (by omega)), *]
    .show(Ce _ _ _ _ (e+1)).2.2=0/\B_ c M (o.AJ x (Ce _ _ _ _ (e+1)).1) t q/\_;rw[r];exact⟨xb,y.ext X,P⟩
   .rw[A2 xj]at J;rw[Ad (by grind)]at r;have xr:=y.ext X;let⟨xl,xL,Y,xT⟩:=dw xc U z u (Fx c.l b) ⟨b.Az,Aa,L⟩ xe xr
    have xV:M.Ap (t p) 3=A (.n b.Az):=Ay (W.ext (xg.AI xh)).M 3;have xW:Cb [(.n 0),(.b Aa),(.b Aa)] [(0,1),(2,1)] [.n b.Az,.b L]=A (.S (BA.c ⟨b.Az,Aa,L⟩)):=B;rw[xy]at xL Y r;by_cases xd:(CZ (Ce (Fx c.l b) f ⟨b.Az,Aa,L⟩ l e).1 f e w ⟨b.Az,Aa,L⟩).2.2=0
    .left;rw[Ad (by grind)]at r;refine⟨(),xl,?_,?_⟩;.show jj W9 157 2 _ _=jj W9 157 2 _ _;rw[r,K3.2.2.1];simp only[QY,LR,xw,K3.2.2.2.1,H (IE R),J.H B,QB,K3.2.2.2.2.2.1,xd,K3.2.2.2.2.2.2,K3.2.2.2.2.1,H (Bh (a:=e) (by omega)),ZR, *]
     grind
    .right;rw[Af xd]at r;have xv:=YP (f:=Fx c.l b) (d:=f) (c:=⟨b.Az,Aa,L⟩) (b:=l) (e:=e+1) (by grind) m.Bk.l (by omega);rw[xv,r];have xu:(CZ (Ce (Fx c.l b) f ⟨b.Az,Aa,L⟩ l e).1 f e w ⟨b.Az,Aa,L⟩).1=(Ce (Fx c.l b) f ⟨b.Az,Aa,L⟩ l e).1:=by unfold CZ at xd⊢;grind
     rw[xu]at Y;refine⟨xl,?_,Y,P⟩;show jj W9 157 2 _ _=_;rw[K3.2.2.1];simp only[QY,K3.2.2.2.1,H (IE R),J.H B,QB,K3.2.2.2.2.2.1, *])
  (λ_ d xa=>by
   let⟨xb,y,xi⟩:=xa
   refine⟨d,?_,y,xi⟩;show jj W9 157 2 _ _=_;rw[K3.2.2.1,xb];simp only[↓Q,↓QT,AdM,(CA m.Bk.l),K3.2.1])
  (b:=()) (a:=v) ⟨B,by show B_ c v (o.AJ x l) t q;rw[NC z.Cc];grind,P⟩
 let⟨d,xx,xp,xs⟩:=xM
 obtain⟨xR,xn,S,rfl,xD⟩:=xo;have x8:=S.M;have xU:v.Ap (xn.pc p) 0=A (.n V):=by rw[Ay (S.BC p b U).M];show A (F.n b.Bc)=_;rw[u.ha]
 refine⟨d,AZ B B ?_,xp,xs⟩;rw[K3.1];simp only[QY,H (CB u.hb), *];exact xx
def lz{a:AK}{c d:D}{e:N}{b:BA}(f:(CZ a c d e b).2.2≠0):(CZ a c d e b).1=a:=by unfold CZ at f⊢;grind
def pU{r:CI}(xb:BD r.l){u:G}{x:Ai}{E:D->T}{y:T->Prop}(xg:B_ r u x E y){d:D}{xK:Au}(X:x.Ac[v]? =A b)(t:Gc r.l x v b q d l xt xK){xl:D}{z:Ab}(Z:Dw r.l xl z b)(c:N)(xU:c.Ak≠0):∃e,W9 (pos 202) [.p r.x 0,.p (E v) 0,.S (N.c c)] u=A (.AB [.b (JI x v c).2.1,.n (JI x v c).2.2],e)/\B_ r e (JI x v c).1 E y/\Bo y u e:=by
 let⟨xX,xJ,xT,xC,xY,xH,_,_⟩:=t.Re xb Z
 unfold JI;simp only[DK X,t.AP,t.Ax,AdR,DK t.Cc,Aeg, *];have xS:=(xb.Bc xl z Z.hb).Bk;have xZ:=t.lt;let⟨xe,m,xF,xA,xf,xy,xW,x0⟩:=box u (.I 2 (N.c c))
 have x5:=Ko u c xF xA;have xp:=xg.V xf;have xn:ES y u m xe:=by grind
 have xG:=MU (f:=z.Bk.l) (d:=λp _ e=>jj W9 202 2 [.n z.Bk.l,.p r.x 0,.p xe 0,.p (E v) 0,.n p,.b (Ce (λ_=>c) d ⟨b.Az,L,L⟩ l p).2.1] e)
  (e:=λp _ e=>(Ce (λ_=>c) d ⟨b.Az,L,L⟩ l p).2.2=0/\B_ r e (x.AJ q (Ce (λ_=>c) d ⟨b.Az,L,L⟩ l p).1) E (ES y u m)/\Bo (ES y u m) m e)
  (g:=λxL=>∃e,xL=A (.AB [.b (Ce (λ_=>c) d ⟨b.Az,L,L⟩ l z.Bk.l).2.1,.n (Ce (λ_=>c) d ⟨b.Az,L,L⟩ l z.Bk.l).2.2],e)/\B_ r e (x.AJ q (Ce (λ_=>c) d ⟨b.Az,L,L⟩ l z.Bk.l).1) E (ES y u m)/\Bo (ES y u m) m e)
  (λp _ e xj xa=>by
   let⟨xh,V,W⟩:=xa
   have xi:=Cm xj;have x3:=(W xe xn).t xy;have xq:=V;let⟨xM,M,J,xE,xz⟩:=xq
   have R:=J.BC v b (RA X (by omega));rw[xE]at R;have xQ:=R.M;have xR:Cb [(.n 0),(.b Aa),(.b Aa)] [(0,1),(1,1),(2,1)] [.n b.Az,.b L,.b L]=A (.S (BA.c ⟨b.Az,L,L⟩)):=B;let⟨xd,xk,U,xs⟩:=dw xb X t Z (λ_=>c) ⟨b.Az,L,L⟩ xj V
   have S:=YR (λ_=>c) d ⟨b.Az,L,L⟩ l p;rw[Ad (by grind)]at S;have xk:=xk;have U:B_ r xd (x.AJ q (CZ (Ce (λ_=>c) d ⟨b.Az,L,L⟩ l p).1 d p c ⟨b.Az,L,L⟩).1) E (ES y u m):=U;by_cases xc:(CZ (Ce (λ_=>c) d ⟨b.Az,L,L⟩ l p).1 d p c ⟨b.Az,L,L⟩).2.2=0
   .left;rw[Ad (by grind)]at S;refine⟨(),xd,?_,?_⟩;.show jj W9 202 2 _ _=jj W9 202 2 _ _;rw[S,On.2.2.1];simp only[QY,LR,xi,On.2.2.2.1,xc,On.2.2.2.2.2,On.2.2.2.2.1,H (Bh (a:=p) (by omega)), *]
    grind
   .right;rw[Af xc]at S;have xv:=YP (f:=λ_=>c) (d:=d) (c:=⟨b.Az,L,L⟩) (b:=l) (e:=p+1) (by grind) z.Bk.l (by omega);rw[xv,S];rw[lz xc]at U;refine⟨xd,?_,U,W.AI xs⟩;show jj W9 202 2 _ _=_;rw[On.2.2.1];simp only[QY,On.2.2.2.1, *])
  (λ_ e xa=>by
   let⟨xh,V,W⟩:=xa
   have xw:=CA z.Bk.l;refine⟨e,?_,V,W⟩;show jj W9 202 2 _ _=_;rw[On.2.2.1,xh];simp only[↓Q,↓QT,AdM,xw,On.2.1])
  (b:=()) (a:=m) ⟨B,by show B_ r m (x.AJ q l) E _;rw[NC t.Cc];grind,Bo.refl _ _⟩
 let⟨e,xx,xo,xr⟩:=xG
 obtain⟨xM,M,J,rfl,xz⟩:=xp;have R:=J.BC v b X;have Y:=J.BC q l t.Cc;let⟨xO,xV,x2⟩:=J.Lf t.Cc
 have x4:=J.M;have xi:m.Ap (M.pc v) 1=A (.n q):=by rw[Ay R.M];show A (F.n b.AP)=_;rw[t.AP]
 have xP:m.Ap (M.pc v) 2=A (.n d):=by rw[Ay R.M];show A (F.n b.Ax)=_;rw[t.Ax]
 have xN:=Y.M;have xB:d<l.AG.l:=by grind
 let⟨xu,xm⟩:=CD (f:=EE (M.og q)) (w:=1) (λ_=>B) Y.AG (F9 xB)
 have x1:m.Ap xu (d*1)=A (M.og q d):=by exact(xm.Ap (f:=EE (M.og q)) (λ_=>B) P (b:=0) (by grind))
 have xI:=Cp (Y.AD d xJ xC).1;rw[xH]at xI;refine⟨e,AZ B B ?_,xo.sub P,λq xD=>(xr q P).t (xf.M (xg.C4 xD))⟩;rw[On.1];simp only[QY,H xm.ia, *];exact xx
def gv{c:AF->N}{b:C _}{a:D}{e:AF}(f:b[a]? =A e):Dc c b d (a+1)=((FG (Dc c b d a).1 a (c e)).1,(FG (Dc c b d a).1 a (c e)).2||(Dc c b d a).2):=by show(match b[a]?with|some e=>_|none=>_)=_;grind
variable{o:AK}{u:T->Prop}
def pB{f:CI}(E:BD f.l){b:G}{p:Ai}{S:D->T}(X:B_ f b p S u){l R:D}{j:AK}{v:Ab}{a:Au}(x:p.Ac[e]? =A j)(g:Gc f.l p e j l R o v a){xI:D}{xr:Ab}(U:Dw f.l xI xr j):∃d,W9 (pos 156) [.p f.x 0,.p (S e) 0] b=A (.b (Cj f.l p e).2,d)/\B_ f d (Cj f.l p e).1 S u/\Bo u b d:=by
 have xj:=X;obtain⟨xO,k,r,rfl,xB⟩:=xj;have z:=r.BC e j x;have xt:b.Ap (k.pc e) 3=A (.n j.Az):=Ay z.M 3;by_cases M:j.Az>0
 .have xv:Cj f.l p e=(p,Aa):=by unfold Cj;simp only[DK x,Af M]
  rw[xv];refine⟨b,AZ B B ?_,X,P⟩;rw[Pr.1];simp only[QY, *]
 let⟨xh,w⟩:=g.GZ
 unfold Cj QF;simp only[DK x,Ad M,g.AP,g.Ax,AdR,DK g.Cc,w.Ca,g.hn,Aeg];let⟨_,_,_,_,_,_,xZ,_⟩:=g.Re E U
 have xb:=(E.Bc xh v w.hb).Ax R a g.hn;have xX:=xb.some E;have x2:=g.lt;have x0:=U.An;let⟨_,d,N,xi,xo⟩:=Dh (h:=a.A3.l) (f:=λq _ d=>jj W9 156 2 [.n a.A3.l,Z AF.c a.A3,.p (k.pc e) 0,.p (k.pc l) 0,.n q,.b (Dc (Bs o) a.A3 j q).2] d)
  (g:=λq _ d=>B_ f d (p.AJ e (Dc (Bs o) a.A3 j q).1) k.pc u/\Bo u b d)
  (λq _ d xe xn=>by
   let⟨xa,xV⟩:=xn
   let⟨t,xd⟩:=Bb xe
   have J:=Cm xe;let⟨xR,xg⟩:=w.Eo (xb.A3 t P)
   let⟨xM,xz,xE,xC,V,xy,x1,x3⟩:=box d (.I 2 (AF.c t))
   let⟨xU,xQ⟩:=EL d (b:=2) [(.n 0),(.n 0)] (c:=AF.c t) xE xC B B
   have xL:A9 2 d [.pi (AF.c t)]=A (.S (AF.c t)):=B;have xN:xz.AL xM 0 2=A (AF.c t):=BB xy;have Y:=xa.ext V;have xk:=Y;let⟨xO,x5,r,xD,xB⟩:=Y
   have y:=r.BC l o (RA g.Cc (by omega));rw[xD]at y;let⟨xY,xG,W⟩:=Nc y t xg
   have xl:=xk.ext W;have x4:=(ME (Bs o) a.A3 j q).1.An;let⟨xA,xH,xm,xp⟩:=fX xl (Jf x) (f:=q) (by omega) xR
   rw[LX]at xm;have xc:=gv (c:=Bs o) (d:=j) xd;rw[OP xg]at xc;refine⟨(),xA,?_,by grind,λl xf=>(xp l xf).t ((W.M P).t ((V.M (xa.C4 xf)).t P))⟩;show jj W9 156 2 _ _=jj W9 156 2 _ _;rw[xc,Pr.2.2.2.1];simp only[↓xU,↓LR,↓Q,↓QT,J,Pr.2.2.2.2.1,↓H (IE xd),↓H xL,↓H xQ,↓H xN,↓H xG,↓H xH,Pr.2.2.2.2.2,↓H (Bh (a:=q) (by omega))])
  (b:=()) (a:=b) ⟨by show B_ f b (p.AJ e j) k.pc u;rw[NC x];grind,P⟩
 have N:jj W9 156 2 [.n a.A3.l,Z AF.c a.A3,.p (k.pc e) 0,.p (k.pc l) 0,.n 0,.b Aa] b=jj W9 156 2 [.n a.A3.l,Z AF.c a.A3,.p (k.pc e) 0,.p (k.pc l) 0,.n a.A3.l,.b (Dc (Bs o) a.A3 j a.A3.l).2] d:=N;have y:=r.BC l o g.Cc;let⟨xW,xF,xP⟩:=r.Lf g.Cc
 have xT:b.Ap f.x 2=A k.cv:=Ay r.M 2;have xS:b.Ap f.x 0=A (Z Ab.c f.l):=Ay r.M 0;have J:b.Ap (k.pc e) 1=A (.n l):=by rw[Ay z.M];show A (F.n j.AP)=_;rw[g.AP]
 have xs:b.Ap (k.pc e) 2=A (.n R):=by rw[Ay z.M];show A (F.n j.Ax)=_;rw[g.Ax]
 have xq:b.Ap (k.pc l) 0=A (.n xh):=by rw[Ay y.M];show A (F.n o.Bc)=_;rw[w.ha]
 have xw:Bl 2 [.pi (Ab.c v)]=A (.pi ((Ab.c v).d 2)):=B;have xJ:AM b [.pi ((Ab.c v).d 2)]=A (Z Au.c v.Av):=B;have xx:Bl 3 [.pi (Au.c a)]=A (.pi ((Au.c a).d 3)):=B;have xK:AM b [.pi ((Au.c a).d 3)]=A (Z AF.c a.A3):=B;have xu:=CA a.A3.l;refine⟨d,AZ B B ?_,xi,xo⟩;rw[Pr.1];simp only[QY,xw,xJ,xx,xK,xt,M,Pr.2.1,xT,J,xF,xP,xS,xq,CB w.hb,xs,Fa g.hn];rw[N,Pr.2.2.2.1];simp only[↓Q,↓QT,AdM,xu,Pr.2.2.1]
def GL{a:G}{c:T}{b:D}{d:F}(e:a.Ap c b=A d):Bv .Cq [.p c b] a d=L:=by show KI (a.Ap c b) d=L;rw[e];exact L0 _
def gt{d:CI}(xl:BD d.l){l:G}{q:Ai}{o:D->T}{p:T->Prop}(xI:B_ d l q o p){k:D}{e g:AK}(Y:q.Ac[f]? =A e){xg:D}{a:Ab}(z:Dw d.l xg a e)(xu:e.next=k)(xN:f≠k)(u:q.Ac[k]? =A g)(xM:g.An.l=a.An){M:T}(xr:l.M M=A (.I 5 (Ab.c a)))(xH:p M)(t:Ah):∃b,jj W9 158 5 [.p M 0,.p d.x 0,.p (o f) 0,.b t] l=A (.AB [.b ((Gv d.l q f).2||t),.n 0],b)/\B_ d b (Gv d.l q f).1 o p/\Bo p l b:=by
 unfold Gv;simp only[DK Y,z.Ca,xu,AdR,DK u];have N:=xl.Bc xg a z.hb;have xO:=N.A_;let⟨_,b,y,xh,xm⟩:=Dh (h:=a.A_.l) (f:=λj _ b=>jj W9 158 2 [.n a.A_.l,Z AF.c a.A_,.p d.x 0,.p (o f) 0,.n j,.b ((Dc (Bs e) a.A_ g j).2||t)] b)
  (g:=λj _ b=>B_ d b (q.AJ k (Dc (Bs e) a.A_ g j).1) o p/\Bo p l b)
  (λj _ b xb xk=>by
   let⟨U,xJ⟩:=xk
   let⟨r,xa⟩:=Bb xb
   let⟨xF,xd⟩:=z.Eo (N.nx r P)
   let⟨xR,X,xw,xt,R,xq,xP,xQ⟩:=box b (.I 2 (AF.c r))
   let⟨xG,xE⟩:=EL b (b:=2) [(.n 0),(.n 0)] (c:=AF.c r) xw xt B B
   have xz:A9 2 b [.pi (AF.c r)]=A (.S (AF.c r)):=B;have S:=U.ext R;let⟨xS,v,x,xv,xL⟩:=S
   subst xv;have E:=x.BC f e (RA Y Om);let⟨xo,xe,xC⟩:=x.Lf (Jf u (b:=(Dc (Bs e) a.A_ g j).1))
   have xp:X.Ap (v.pc f) 7=A (.n k):=by rw[Ay E.M];grind
   let⟨J,xx,w⟩:=Nc E r xd
   have xi:=S.ext w;have V:=x.ext w;have xA:Aj (Bv .Cq [.p xo (k*1)] J (.p (v.pc k) 0)) (Aj (Bv .Cq [.p (v.pc f) 7] J (.n k)) (Aj (Bv .Cq [.p d.x 2] J v.cv) L Aa) Aa) Aa=L:=by
    let⟨xK,xf,xD⟩:=V.Lf (Jf u (b:=(Dc (Bs e) a.A_ g j).1))
    rw[xe]at xf;cases xf;rw[GL xD,GL (by rw[Ay (E.ext w).M];grind),GL (Ay V.M 2)];rfl
   have xT:=(ME (Bs e) a.A_ g j).1.An;let⟨xs,xy,xj,xn⟩:=fX xi (Jf u) (f:=j) (by omega) xF
   rw[LX]at xj;have W:=gv (c:=Bs e) (d:=g) xa;rw[OP xd]at W;refine⟨(),xs,?_,by grind,λxB xc=>(xn xB xc).t ((w.M P).t ((R.M (U.C4 xc)).t P))⟩;show jj W9 158 2 _ _=jj W9 158 2 _ _;rw[W,Mh.2.2.2.2.1,AfF];simp only[↓xG,↓LR,↓Q,↓QT,(Cm xb),Mh.2.2.2.2.2.1,↓H (IE xa),↓H xz,↓H xE,↓H (Ay x.M 2:X.Ap d.x 2=A v.cv),↓H xp,↓H xe,↓H xC,↓H (BB xq),↓H xx,↓Gn xA,↓H xy,Mh.2.2.2.2.2.2,↓H (Bh (a:=j) (by omega))])
  (b:=()) (a:=l) ⟨by show B_ d l (q.AJ k g) o p;rw[NC u];grind,P⟩
 have y:jj W9 158 2 [.n a.A_.l,Z AF.c a.A_,.p d.x 0,.p (o f) 0,.n 0,.b (Aa||t)] l=jj W9 158 2 [.n a.A_.l,Z AF.c a.A_,.p d.x 0,.p (o f) 0,.n a.A_.l,.b ((Dc (Bs e) a.A_ g a.A_.l).2||t)] b:=y;rw[Ae6]at y;refine⟨b,?_,xh,xm⟩;rw[Mh.2.1];simp only[QY,xr];rw[y,Mh.2.2.2.2.1];simp only[↓Q,↓QT,AdM,(CA a.A_.l),Mh.2.2.2.1]
def pD{e:CI}(E:BD e.l){p:G}{d:Ai}{xl:D->T}(z:B_ e p d xl u){yv yr:D}{x2:AK}{x3:Ab}{yt:Au}(q:d.Ac[f]? =A c)(x0:Gc e.l d f c yv yr x2 x3 yt){g:Ab}(k:Dw e.l h g c)(yL:g.A_.l≠0)(R:CF e.l d):∃xg s,W9 (pos 158) [.p e.x 0,.p (xl f) 0] p=A (.AB [.b (ER e.l d f).2.1,.n (ER e.l d f).2.2],xg)/\B_ e xg (ER e.l d f).1 s u/\Bo u p xg/\∀xj,xj<d.Ac.l->s xj=xl xj:=by
 have xo:=E.Bc h g k.hb;have yK:=(AdN.1 q).1;have ym:=R.A7;have yf:=R.next f c q;have yM:=R.Az f c q;let⟨I,xA⟩:=Bb (b:=g.A_) (a:=0) (by omega)
 let⟨j,xB⟩:=k.Eo (xo.nx I P)
 have xC:Et e.l c=j:=by unfold Et;rw[k.Ca,xA];exact OP xB
 let⟨J,xx,yq,yk,xd,yb,yO,yR⟩:=box p (.I 5 (Ab.c g))
 let⟨xN,xJ⟩:=EL p (b:=5) [(.s []),(.n 0),.sn,.sn,.sn] (c:=Ab.c g) yq yk B B
 have yF:=z.ext xd;have xV:=z;obtain⟨yS,o,S,rfl,yJ⟩:=xV;have xM:p.Ap e.x 0=A (Z Ab.c e.l):=Ay S.M 0;have xu:p.Ap (o.pc f) 0=A (.n h):=by rw[Ay (S.BC f c q).M];show A (F.n c.Bc)=_;rw[k.ha]
 have xG:A9 5 p [.pi (Ab.c g)]=A (.S (Ab.c g)):=B;have xt:xx.Ap J 3=A (Z AF.c g.A_):=Ay yb 3;have xD:AR 2 [Z AF.c g.A_,.n 0]=A (.pi (AF.c I)):=IE (a:=0) xA;have xH:A9 2 xx [.pi (AF.c I)]=A (.S (AF.c I)):=B;have xR:=(S.BC f c q).ext xd;let⟨xy,xE,xT⟩:=Nc xR I xB
 let⟨yy,m,yp,yl,xU,ya,yN,yQ⟩:=box xy (.I 2 (N.c j))
 let⟨xO,xK⟩:=EL xy (b:=2) [(.i .u8 0),(.n 0)] (c:=N.c j) yp yl B B
 have xI:m.AL yy 0 2=A (N.c j):=BB ya;have M:=xd.AI (xT.AI xU);have xX:Bo u p m:=P;have r:=MD j;have x:=Xb j;have xv:DE [.b L]=A (.b Aa):=B;have yI:DE [.b Aa]=A (.b L):=B;unfold ER;simp only[DK q,xC];by_cases W:j.Ak=0;.rw[Af W];rw[A0 W]at r;refine⟨m,o.pc,AZ B B ?_,z.ext M,xX,P⟩;rw[Mh.1];simp only[QY,H (CB k.hb),r.H B,QB, *]
 rw[Ad W];rw[A2 W]at r;by_cases V:j.Ak=5
 .rw[Af V];rw[A0 V]at x;let⟨Y,xa,v,xY⟩:=pU E (z.ext M) q x0 k j (by omega)
  refine⟨Y,o.pc,AZ B B ?_,v,P,P⟩;rw[Mh.1];simp only[QY,H (CB k.hb),r.H B,QB,x.H B, *]
 rw[Ad V];rw[A2 V]at x;have xq:=z.V M;have xp:ES u p m J:=P;have yc:m.M J=A (.I 5 (Ab.c g)):=P;have y:=(S.BC f c q).ext M;have xm:m.Ap (o.pc f) 7=A (.n c.next):=Ay y.M 7;by_cases X:c.next= -1
 .have yz:m.Ap (o.pc f) 0=A (.n (h:K)):=by rw[Ay y.M];show A (F.n c.Bc)=_;rw[k.ha]
  have yA:m.Ap (o.pc f) 1=A (.n c.AP):=Ay y.M 1;have yB:m.Ap (o.pc f) 2=A (.n c.Ax):=Ay y.M 2;have yC:m.Ap (o.pc f) 3=A (.n c.Az):=Ay y.M 3;have x9:=F2 (a:=c.Az) (b:=1) (by omega) (by omega);let⟨Y,s,xa,v,xY,xs⟩:=fN xq k.hb (YU E k.hb) ym c.AP c.Ax (c.Az+1) j
  have yu:Gu e.l d f=if(EO e.l d (h:K) c.AP c.Ax (c.Az+1) j).2≠0 then(d,Aa,(EO e.l d (h:K) c.AP c.Ax (c.Az+1) j).2)else((EO e.l d (h:K) c.AP c.Ax (c.Az+1) j).1.AJ f {c with next:=(d.Ac.l:K)},L,0):=by unfold Gu;simp only[DK q,xC,X,Aea,k.ha]
  rw[yu];by_cases x6:d.Ac.l=400
  .have yg:EO e.l d (h:K) c.AP c.Ax (c.Az+1) j=(d,5):=by unfold EO;grind
   rw[yg]at xa v⊢;have x5:¬((5:K)=0):=by omega
   simp only[ne_eq,x5,AdM,Aea];refine⟨Y,s,AZ B B ?_,v.sub P,P,xs⟩;rw[Mh.1];simp only[QY,H (CB k.hb),r.H B,QB,x.H B,Int.reduceEq, *]
  .have yh:EO e.l d (h:K) c.AP c.Ax (c.Az+1) j=(⟨d.Ac++[{Dl e.l g h c.AP c.Ax (c.Az+1)with An:=(Dl e.l g h c.AP c.Ax (c.Az+1)).An.set 0 j}],d.Am,d.round,d.AA⟩,0):=by
    unfold EO;rw[Ad x6,AdR,k.hb];rfl
   rw[yh]at xa v⊢
   have xf:¬((0:K)≠0):=by omega
   simp only[Ad xf]
   have xi:(⟨d.Ac++[{Dl e.l g h c.AP c.Ax (c.Az+1)with An:=(Dl e.l g h c.AP c.Ax (c.Az+1)).An.set 0 j}],d.Am,d.round,d.AA⟩:Ai).Ac[f]? =A c:=by grind
   let⟨yD,xn,U,yo,ye⟩:=v
   have yx:xn.pc f=o.pc f:=by grind
   have xS:=U.BC f c xi
   have yE:Y.Ap e.x 2=A xn.cv:=Ay U.M 2
   have xk:=Cp U.Ac
   rw[Ad0]at xk
   have yn:(⟨d.Ac++[{Dl e.l g h c.AP c.Ax (c.Az+1)with An:=(Dl e.l g h c.AP c.Ax (c.Az+1)).An.set 0 j}],d.Am,d.round,d.AA⟩:Ai).Ac.l=d.Ac.l+1:=by grind
   rw[yn]at xk
   have xw:=FA (a:=((d.Ac.l+1:D):K)) (b:=1) (by omega) (by omega)
   rw[show((d.Ac.l+1:D):K)-1=(d.Ac.l:K) by omega]at xw
   let⟨xz,xL,xP,xr⟩:=xS.RH (d.Ac.l:K)
   have x1:=U.NI xi (t:=.BC f) B xr xP
   have yG:=xr.Fp (by grind) ye
   have xW:B_ e xz _ s (ES u p m):=⟨yD,xn,x1,yo,P⟩
   have yi:((⟨d.Ac++[{Dl e.l g h c.AP c.Ax (c.Az+1)with An:=(Dl e.l g h c.AP c.Ax (c.Az+1)).An.set 0 j}],d.Am,d.round,d.AA⟩:Ai).AJ f {c with next:=(d.Ac.l:K)}).Ac[d.Ac.l]? =A {Dl e.l g h c.AP c.Ax (c.Az+1)with An:=(Dl e.l g h c.AP c.Ax (c.Az+1)).An.set 0 j}:=by show((d.Ac++_).set f _)[d.Ac.l]? =_;grind
   have xQ:Dw e.l h g {c with next:=(d.Ac.l:K)}:=k.En ⟨B,B,B,B,B,B,B,B⟩
   have yH:=xo.An
   have yj:(((Dl e.l g h c.AP c.Ax (c.Az+1)).An.set 0 j).l:K)=g.An:=by rw[Aed];show((BG g.An.n AO).l:K)=_;grind
   have yd:xz.M J=A (.I 5 (Ab.c g)):=P
   let⟨xh,xb,xe,xZ⟩:=gt E xW (Jf xi) xQ B (by omega) yi yj yd xp L
   have yw:s f=o.pc f:=P
   rw[yw]at xb
   rw[yx]at xL
   refine⟨xh,s,AZ B B ?_,xe.sub P,P,xs⟩
   rw[Mh.1]
   simp only[↓xN,↓xO,↓Q,↓QT,↓H xM,↓H xu,↓H (CB k.hb),↓H xG,↓H xJ,↓H xt,↓H xD,↓H xH,↓H xE,↓H xK,↓H xI,↓r.H B,QB,↓H xv,↓x.H B,↓H xm,X,↓H yz,↓H yA,↓H yB,↓H yC,↓H x9,↓H xa,Mh.2.2.1,↓H yE,↓H xk,↓H xw,↓H xL]
   grind
 .let⟨xF,x8,w⟩:=yf.resolve_left X
  unfold Gu;simp only[DK q,Ad X];have xf:¬((0:K)≠0):=by omega
  simp only[Ad xf];have yP:=w.lt;let⟨ys,x4,xc⟩:=R.BC xF x8 w.Cc
  have:ys=h:=by have:=xc.ha;have:=k.ha;have:=w.Bc;omega
  subst this;have:x4=g:=Aew (xc.hb.s.t k.hb);subst this;obtain⟨xh,xb,xe,xZ⟩:=gt E xq q k w.next (by omega) w.Cc xc.An yc xp Aa;have xb:jj W9 158 5 [.p J 0,.p e.x 0,.p (o.pc f) 0,.b Aa] m=_:=xb;rw[w.next]at xm;have x7:¬((xF:K)= -1):=by omega
  refine⟨xh,o.pc,AZ B B ?_,xe.sub P,P,P⟩;rw[Mh.1];simp only[↓xN,↓xO,↓Q,↓QT,AdM,↓H xM,↓H xu,↓H (CB k.hb),↓H xG,↓H xJ,↓H xt,↓H xD,↓H xH,↓H xE,↓H xK,↓H xI,↓r.H B,Aet,↓H xv,↓x.H B,↓H xm,x7];omega
def Gc.of{j:C Ab}{f g:Ai}{b i:D}{e:AK}{d:Ab}{k:Au}(a:Gc j f h e b i c d k)(l:g.Ac[b]? =f.Ac[b]?):Gc j g h e b i c d k:=⟨a.AP,a.Ax,a.lt,l.t a.Cc,a.GZ,a.hn,a.op,a.CH⟩
variable{g:D}
def L7.of{e f:Ai}{b:D}(a:L7 e g c b d)(h:f.Ac[b]? =e.Ac[b]?):L7 f g c b d:=⟨a.next,a.lt,h.t a.Cc,a.Bc,a.AP,a.Ax,a.Az⟩
def CF.of{h:C Ab}{f g:Ai}(c:CF h f)(n:g.Ac=f.Ac):CF h g where
 A7:=by rw[n];exact c.A7
 BC:=λb a d=>c.BC b a (by grind)
 up:=λb a d=>by
  rcases c.up b a (by grind)with e|⟨q,o,k,l,p,j⟩;.omega
  .exact .j ⟨q,o,k,l,p,j.of (by grind)⟩
 next:=λb a d=>by
  rcases c.next b a (by grind)with e|⟨e,m,i⟩;.omega
  .exact .j ⟨e,m,i.of (by grind)⟩
 Az:=λb a d=>c.Az b a (by grind)
 K_:=λb a d=>c.K_ b a (by grind)
def CF.RH{s:C Ab}{f:Ai}(k:CF s f){j:D}{h:AK}(g:f.Ac[j]? =A h){t:K}{e:D}{d:AK}(x:L7 f j {h with next:=t} e d):CF s (f.AJ j {h with next:=t})where
 A7:=by show(f.Ac.set j _).l<=400;rw[Aed];exact k.A7
 BC:=λc d a=>by
  rcases Ik g a with⟨rfl,rfl⟩|⟨_,a⟩;.obtain⟨o,l,u⟩:=k.BC c h g;exact⟨o,l,u.En ⟨B,B,B,B,B,B,B,B⟩⟩
  .exact k.BC c d a
 up:=λc d a=>by
  have r:∀i:AK,(i.AP= -1\/∃m p o l q,Gc s f c i m p o l q)->(i.AP= -1\/∃m p o l q,Gc s (f.AJ j {h with next:=t}) c i m p o l q):=by
   rintro i (e|⟨m,p,o,l,q,b⟩)
   .omega
   .right;by_cases v:m=j;.subst v;have E:=Aew (b.Cc.s.t g);subst E;obtain⟨e,u⟩:=b.GZ;exact⟨m,p,_,l,q,b.AP,b.Ax,b.lt,Jf g,⟨e,u.En ⟨B,B,B,B,B,B,B,B⟩⟩,b.hn,b.op,b.CH⟩
    .exact⟨m,p,o,l,q,b.of (by show(f.Ac.set j _)[m]? =_;grind)⟩
  rcases Ik g a with⟨rfl,rfl⟩|⟨_,a⟩
  .rcases r h (k.up c h g)with e|⟨m,p,o,l,q,b⟩;.grind
   .exact .j ⟨m,p,o,l,q,b.AP,b.Ax,b.lt,b.Cc,b.GZ,b.hn,b.op,b.CH⟩
  .exact r d (k.up c d a)
 next:=λc y a=>by
  have r:∀i:AK,(i.next= -1\/∃e d,L7 f c i e d)->(i.next= -1\/∃e d,L7 (f.AJ j {h with next:=t}) c i e d):=by
   rintro i (F|⟨w,z,n⟩)
   .omega
   .right;by_cases v:w=j;.rw[(Aew (n.Cc.s.t (by grind)):z=h),v]at n;exact⟨j,_,n.next,n.lt,Jf g,n.Bc,n.AP,n.Ax,n.Az⟩
    .exact⟨w,z,n.of (by show(f.Ac.set j _)[w]? =_;grind)⟩
  rcases Ik g a with⟨rfl,rfl⟩|⟨_,a⟩;.exact .j ⟨e,d,x.of (by show(f.Ac.set c _)[e]? =_;rw[AeJ (by have:=x.lt;omega)])⟩
  .exact r y (k.next c y a)
 K_:=λc d a e=>by
  rcases Ik g a with⟨rfl,rfl⟩|⟨_,a⟩;.exact k.K_ c h g e
  .exact k.K_ c d a e
 Az:=λc d a=>by
  rcases Ik g a with⟨rfl,rfl⟩|⟨_,a⟩;.exact k.Az c h g
  .exact k.Az c d a
def CF.Km{k:C Ab}{d:Ai}(l:CF k d){g:AK}{u:C AE}{w q:K}(z:d.Ac.l<400)(y:∃e f,Dw k e f g)(r:∃j h e f i,Gc k d d.Ac.l g j h e f i)(E:g.next= -1)(F:0<=g.Az/\g.Az<=(d.Ac.l:K)):CF k ⟨d.Ac++[g],u,w,q⟩:=by
 have v:∀{a:D},a<d.Ac.l->(d.Ac++[g])[a]? =d.Ac[a]? :=P;have m:∀{a:D}{b:AK},(d.Ac++[g])[a]? =A b->(a<d.Ac.l/\d.Ac[a]? =A b)\/(a=d.Ac.l/\b=g):=P;have t:∀{a:D}{b:AK},d.Ac[a]? =A b->a<d.Ac.l:=P;exact{
  A7:=by grind
  BC:=λa b c=>by
   rcases m c with⟨_,c⟩|⟨_,rfl⟩;.exact l.BC a b c
   omega
  up:=λa b c=>by
   have s:∀{a b},(b.AP= -1\/∃j h e f i,Gc k d a b j h e f i)->(b.AP= -1\/∃j h e f i,Gc k ⟨d.Ac++[g],u,w,q⟩ a b j h e f i):=by
    rintro a b (n|⟨j,h,e,f,i,o⟩)
    .omega
    .exact .j ⟨j,h,e,f,i,o.of (v (t o.Cc))⟩
   rcases m c with⟨_,c⟩|⟨rfl,rfl⟩;.exact s (l.up a b c)
   .exact s (.j r)
  K_:=λa b c n=>by
   rcases m c with⟨_,c⟩|⟨rfl,rfl⟩;.exact l.K_ a b c n
   .let⟨j,h,e,f,i,o⟩:=r
    have:=o.AP;omega
  next:=λa b c=>by
   rcases m c with⟨_,c⟩|⟨rfl,rfl⟩
   .rcases l.next a b c with n|⟨n,x,p⟩;.omega
    .exact .j ⟨n,x,p.of (v (t p.Cc))⟩
   omega
  Az:=λa b c=>by
   rcases m c with⟨_,c⟩|⟨rfl,rfl⟩;.exact l.Az a b c
   omega}
def Vi{d:C Ab}(i:BD d){b:Ab}(k:d[e]? =A b)(n m o:K)(j:C N)(l:(j.l:K)=b.An):Dw d e b {Dl d b e n m o with An:=j}where
 ha:=B
 hb:=k
 An:=l
 AG:=by show(List.map _ b.Av).l=_;grind
 AS:=by show(BG _ _).l=_;grind
 A4:=by show(List.map _ b.Av).l=_;grind
 AD:=λg c h f a=>by
  have a:(b.Av.m λc=>BG (C7 d c).n AO)[g]? =A h:=a;rw[Aeo,f]at a;cases a
  have:=Rs i c;grind
 B1:=λg c h f a=>by
  have a:(b.Av.m λc=>BG (C7 d c).n EQ)[g]? =A h:=a;rw[Aeo,f]at a;cases a
  have:=Rs i c;grind
def br{a:Ab}(c:1<=a.An)(b:N):(((BG a.An.n AO).set 0 b).l:K)=a.An:=by grind
structure Hk(c d:Ai):Prop where
 A7:d.Ac.l=c.Ac.l
 Cc:∀(e:D) a,c.Ac[e]? =A a->∃b,d.Ac[e]? =A b/\DQ a b/\b.next=a.next
def Hk.refl(b:Ai):Hk b b:=⟨B,λd a c=>⟨a,c,DQ.refl a,B⟩⟩
def Hk.AJ{c:Ai}{a:AK}(h:c.Ac[e]? =A b)(k:DQ b a)(i:a.next=b.next):Hk c (c.AJ e a):=⟨Aed,λj f d=>by
 by_cases g:e=j;.subst g;rw[h]at d;cases d;exact⟨a,Jf h,k,i⟩
 .exact⟨f,RA d g,DQ.refl f,B⟩⟩
variable{a:Ai}
def T7{c:C Ab}(d:a.Ac[e]? =A b):Hk a (Cj c a e).1/\(CF c a->CF c (Cj c a e).1):=by
 unfold Cj;simp only[DK d];split;.exact⟨Hk.refl a,id⟩
 .have:=ME (Bs (a.at b.AP.n)) (QF c (a.at b.AP.n) b.Ax.n) b (QF c (a.at b.AP.n) b.Ax.n).l;exact⟨Hk.AJ d P Om,λf=>f.AJ d P Om⟩
def dv{i:C Ab}(h:a.Ac[f]? =A b)(g:D->N)(d:D)(c:BA)(e:D):Hk a (a.AJ f (Ce g d c b e).1)/\(CF i a->CF i (a.AJ f (Ce g d c b e).1)):=by have:=Ub g d c b e;exact⟨Hk.AJ h P Om,λj=>j.AJ h P Om⟩
def Uw{b:C Ab}{c:D}{g:AK}(h:a.Ac[c]? =A d)(i:d.AP=(f:K))(e:a.Ac[f]? =A g):Hk a (EU b a c).1/\(CF b a->CF b (EU b a c).1):=by unfold EU;simp only[DK h,i,AdR,DK e];exact dv e _ _ _ _
def Aai{e:C Ab}{b:D}{h:AK}(i:a.Ac[b]? =A c)(j:c.AP=(f:K))(d:a.Ac[f]? =A h)(g:N):Hk a (JI a b g).1/\(CF e a->CF e (JI a b g).1):=by unfold JI;simp only[DK i,j,AdR,DK d];exact dv d _ _ _ _
structure IT(c d:Ai):Prop where
 A7:c.Ac.l<=d.Ac.l
 Cc:∀(e:D) a,c.Ac[e]? =A a->∃b,d.Ac[e]? =A b/\DQ a b
def Hk.Oe{b:Ai}(c:Hk a b):IT a b:=⟨by rw[c.A7];omega,λf d e=>by obtain⟨i,g,h,_⟩:=c.Cc f d e;grind⟩
def IT.refl(a:Ai):IT a a:=(Hk.refl a).Oe
def IT.AI{b c:Ai}(d:IT a b)(f:IT b c):IT a c:=⟨Aem d.A7 f.A7,λe l g=>by obtain⟨m,h,j⟩:=d.Cc e l g;obtain⟨n,i,k⟩:=f.Cc e m h;exact⟨n,i,j.AI k⟩⟩
def uy{b:C Ab}{f:AK}(i:a.Ac[e]? =A c)(j:c.next=(g:K))(d:a.Ac[g]? =A f):Hk a (Gv b a e).1/\(CF b a->CF b (Gv b a e).1):=by unfold Gv;simp only[DK i,j,AdR,DK d];have:=ME (Bs c) (F4 b c).A_ f (F4 b c).A_.l;exact⟨Hk.AJ d P Om,λh=>h.AJ d P Om⟩
def XN{c:C Ab}(q:BD c){b:Ai}(k:CF c b){F y:D}{a s:AK}{t:Ab}{E:Au}(l:b.Ac[e]? =A a)(h:Gc c b e a F y s t E){i:D}{g:Ab}(j:Dw c i g a):IT b (Gu c b e).1/\CF c (Gu c b e).1/\((Gu c b e).2.2=0->∃u z v,(Gu c b e).1.Ac[e]? =A u/\L7 (Gu c b e).1 e u z v):=by
 have S:e<b.Ac.l:=P;unfold Gu;simp only[DK l];by_cases o:a.next= -1
 .rw[Af o];by_cases M:b.Ac.l=400
  .have N:EO c b a.Bc a.AP a.Ax (a.Az+1) (Et c a)=(b,5):=by unfold EO;grind
   rw[N];have:((5:K)≠0):=by omega
   rw[Af this];exact⟨IT.refl b,k,P⟩
  .have Q:EO c b a.Bc a.AP a.Ax (a.Az+1) (Et c a)=(⟨b.Ac++[{Dl c g i a.AP a.Ax (a.Az+1)with An:=(BG g.An.n AO).set 0 (Et c a)}],b.Am,b.round,b.AA⟩,0):=by
    unfold EO;rw[Ad M,j.ha,AdR,j.hb]
   rw[Q]
   have J:¬((0:K)≠0):=by omega
   rw[Ad J]
   have H:=q.Bc i g j.hb
   have V:=k.Az e a l
   have U:=k.A7
   have I:=k.Km (g:={Dl c g i a.AP a.Ax (a.Az+1)with An:=(BG g.An.n AO).set 0 (Et c a)}) (u:=b.Am) (w:=b.round) (q:=b.AA) (by omega) ⟨i,g,Vi q j.hb _ _ _ _ (br H.An.1 _)⟩ ⟨F,y,s,t,E,h.AP,h.Ax,by have:=h.lt;omega,h.Cc,h.GZ,h.hn,h.op,h.CH.t j.ha⟩ B (by show 0<=a.Az+1/\a.Az+1<=_;omega)
   have p:(⟨b.Ac++[{Dl c g i a.AP a.Ax (a.Az+1)with An:=(BG g.An.n AO).set 0 (Et c a)}],b.Am,b.round,b.AA⟩:Ai).Ac[e]? =A a:=by grind
   have R:(⟨b.Ac++[{Dl c g i a.AP a.Ax (a.Az+1)with An:=(BG g.An.n AO).set 0 (Et c a)}],b.Am,b.round,b.AA⟩:Ai).Ac[b.Ac.l]? =A {Dl c g i a.AP a.Ax (a.Az+1)with An:=(BG g.An.n AO).set 0 (Et c a)}:=by grind
   have n:L7 _ e {a with next:=(b.Ac.l:K)} b.Ac.l _:=⟨B,S,R,j.ha.s,B,B,B⟩
   refine⟨⟨?_,λT G x=> ?_⟩,I.RH p n,λ_=>⟨_,_,_,Jf p,n.of ?_⟩⟩
   .show _<=((b.Ac++_).set e _).l;grind
   .by_cases w:e=T;.subst w;rw[l]at x;cases x;exact⟨_,Jf p,⟨B,B,B,B,B,B,B,B⟩⟩
    .refine⟨G,RA ?_ w,DQ.refl G⟩;grind
   .show((b.Ac++_).set e _)[b.Ac.l]? =_;grind
 .rw[Ad o];refine⟨IT.refl b,k,λ_=> ?_⟩;obtain⟨z,v,n⟩:=(k.next e a l).resolve_left o;grind
def uC{a:C Ab}(n:BD a){b:Ai}(g:CF a b){c s:D}{p:Ab}{u:Au}(f:b.Ac[c]? =A d)(e:Gc a b c d v s o p u){t:D}{q:Ab}(j:Dw a t q d):IT b (ER a b c).1/\CF a (ER a b c).1:=by
 unfold ER;simp only[DK f];split;.exact⟨IT.refl b,g⟩
 .split;.have:=Aai (e:=a) f e.AP e.Cc (Et a d);exact⟨this.1.Oe,P⟩
  .obtain⟨k,w,m⟩:=XN n g f e j;split;.grind
   .rename_i i;have i:(Gu a b c).2.2=0:=Om;obtain⟨x,z,y,r,h⟩:=m i;have:=uy (b:=a) r h.next h.Cc;exact⟨k.AI this.1.Oe,P⟩
def rq{b:C Ab}(s:BD b){c:Ai}(j:CF b c){a:D}{n:AK}(g:c.Ac[a]? =A n):IT c (El b c a).1/\CF b (El b c a).1:=by
 unfold El;simp only[DK g];split;.exact⟨IT.refl c,j⟩
 .rename_i I;obtain⟨e,w⟩:=T7 (c:=b) g;have k:=w j;obtain⟨o,h,q,_⟩:=e.Cc a n g;obtain⟨R,J,z,F,P,m⟩:=(k.up a o h).resolve_left (by rw[q.AP];omega);obtain⟨f,x⟩:=Uw (b:=b) h m.AP m.Cc;have d:=x k;split;.exact⟨e.Oe.AI f.Oe,d⟩
  .split;.exact⟨e.Oe.AI f.Oe,d⟩
   .obtain⟨p,i,y,_⟩:=f.Cc a o h;obtain⟨S,M,E,G,Q,u⟩:=(d.up a p i).resolve_left (by rw[y.AP,q.AP];omega);obtain⟨N,H,r⟩:=d.BC a p i;obtain⟨v,t⟩:=uC s d i u r;exact⟨e.Oe.AI (f.Oe.AI v),t⟩
def DC(b:CI)(d:G)(c:Ai)(a:T->Prop):Prop:=∃e,B_ b d c e a
def DC.ext{c:CI}{e f:G}{d:Ai}{b:T->Prop}(a:DC c e d b)(g:AH e f):DC c f d b:=by let⟨h,a⟩:=a;exact⟨h,a.ext g⟩
def DC.V{e:CI}{b c:G}{f:Ai}{d:T->Prop}(a:DC e b f d)(g:AH b c):DC e c f (ES d b c):=by let⟨h,a⟩:=a;exact⟨h,a.V g⟩
def DC.sub{d:CI}{f:G}{e:Ai}{b c:T->Prop}(a:DC d f e b)(h:∀g,c g->b g):DC d f e c:=by let⟨i,a⟩:=a;exact⟨i,a.sub h⟩
def DC.C4{e:CI}{c:G}{f:Ai}{b:T->Prop}(a:DC e c f b){d:T}(g:b d):Lv c d:=by let⟨h,a⟩:=a;exact a.C4 g
def rf{b:CI}(v:BD b.l){h:G}{f:Ai}(j:DC b h f u)(w:CF b.l f){a:D}(xi:a<f.Ac.l):∃y,W9 (pos 102) [.p b.x 0,.n a] h=A (.AB [.b (El b.l f a).2.1,.n (El b.l f a).2.2],y)/\DC b y (El b.l f a).1 u/\Bo u h y:=by
 let⟨xS,j⟩:=j
 let⟨d,c⟩:=Bb xi
 have Y:=j;obtain⟨xT,i,k,rfl,xG⟩:=Y;have xs:=Ay k.M 2;let⟨xD,xk,xp⟩:=k.Lf c
 have xg:=Ay (k.BC a d c).M 1;let⟨W,g,e⟩:=w.BC a d c
 unfold El;simp only[DK c];by_cases q:d.AP= -1
 .rw[Af q];have X:h.Ap b.x 0=A (Z Ab.c b.l):=Ay k.M 0;have R:h.Ap (i.pc a) 0=A (.n W):=by rw[Ay (k.BC a d c).M];show A (F.n d.Bc)=_;rw[e.ha]
  refine⟨h,AZ B B ?_,⟨i.pc,j⟩,P⟩;rw[Nj.1];by_cases p:(g.A_.l:K)=0<;>simp only[QY,Nj.2.1,H (CB e.hb), *]
 rw[Ad q];let⟨xP,xI,xx,xA,xM,xe⟩:=(w.up a d c).resolve_left q
 let⟨xF,xl,xa,xu⟩:=pB v j c xe e
 let⟨xc,xq⟩:=T7 (c:=b.l) c
 have M:=xq w;let⟨S,r,s,_⟩:=xc.Cc a d c
 let⟨xQ,xJ,xy,xB,xN,x⟩:=(M.up a S r).resolve_left (by rw[s.AP];grind)
 have I:=e.En s;let⟨m,xm,n,xv⟩:=pC v xa r x I
 let⟨xd,xr⟩:=Uw (b:=b.l) r x.AP x.Cc
 have N:=xr M;by_cases U:(EU b.l (Cj b.l f a).1 a).2.2=0
 .rw[Ad (by grind)];let⟨o,z,E,_⟩:=xd.Cc a S r
  have J:=I.En E;rw[e.Ca];let⟨xU,xV,Q,xj,xH⟩:=n
  have X:=Q.M;have t:=Q.BC a o z;rw[xj]at t;have R:m.Ap (i.pc a) 0=A (.n W):=by rw[Ay t.M];show A (F.n o.Bc)=_;rw[J.ha]
  have xE:m.Ap (i.pc a) 1=A (.n d.AP):=by rw[Ay t.M];show A (F.n o.AP)=_;rw[E.AP,s.AP]
  have xn:AM m [.pi ((Ab.c g).d 3)]=A (Z AF.c g.A_):=B;by_cases p:g.A_.l=0
  .rw[Af p];have V:(g.A_.l:K)=0:=by omega
   refine⟨m,AZ B B ?_,⟨i.pc,n⟩,P⟩;rw[Nj.1];simp only[QY,xn,LR,xs,xk,xp,xg,q,xl,xm,U,Nj.2.2.1,Nj.2.1,X,R,CB e.hb,V]
  .rw[Ad p];have V:¬(g.A_.l:K)=0:=by omega
   let⟨xR,xK,xz,xC,xO,xf⟩:=(N.up a o z).resolve_left (by rw[E.AP,s.AP];grind)
   let⟨xh,xo,xL,xb,xw,xt⟩:=pD v n z xf J p N
   refine⟨xh,AZ B B ?_,⟨xo,xb⟩,P⟩;rw[Nj.1];simp only[QY,LR,Nj.2.2.1,Nj.2.1,H (CB e.hb),Nj.2.2.2, *]
 .rw[Af U];refine⟨m,AZ B B ?_,⟨i.pc,n⟩,P⟩;rw[Nj.1];simp only[QY, *]
def hS{o:Type}{e:C o}{g:o->Ah}{f:D->G->R}{k:G->R}{m:F}{d:G->Prop}(x:∀c h a,e[c]? =A h->d a->g h=L->∃b,f c a=f (c+1) b/\d b)(r:∀c h a,e[c]? =A h->d a->g h=Aa->∃b,f c a=A (m,b)/\d b)(q:∀a,d a->f e.l a=k a):∀a,d a->(e.all g=L->∃b,f 0 a=k b/\d b)/\(e.all g=Aa->∃b,f 0 a=A (m,b)/\d b):=by
 have p:∀j c a,e.l-c=j->c<=e.l->d a->((e.d c).all g=L->∃b,f c a=k b/\d b)/\((e.d c).all g=Aa->∃b,f c a=A (m,b)/\d b):=by
  intro j
  induction j with
  |zero=>grind
  |succ j w=>
   intro c a u t n;let⟨h,v,s⟩:=Ds (b:=e) (a:=c) (by omega)
   grind
 intro a n;have:=p e.l 0 a (by omega) (by omega) n;grind
def ij{J:CI}(xf:BD J.l){xr:T->Bm}{q:G}{xm:D}{r:T}{xq xp xg xi:F}{xo xh:D->F}(E:C6 xr q xm r o xq xp xg xi xo xh){xa:D}{b:Ab}(u:Dw J.l xa b o){c:D}{a:Au}(m:b.Av[c]? =A a){j:G}(xd:AH q j)(s t v x:F):(HB o a=Aa->∃k,jj W9 103 4 [.n b.Av.l,Z Au.c b.Av,.p r 0,.n c,s,t,v,x] j=jj W9 103 4 [.n b.Av.l,Z Au.c b.Av,.p r 0,.n (c+1:D),s,t,v,x] k/\AH q k)/\(HB o a=L->∃k,jj W9 103 4 [.n b.Av.l,Z Au.c b.Av,.p r 0,.n c,s,t,v,x] j=A (.n 6,k)/\AH q k):=by
 have xk:c<b.Av.l:=by grind
 have z:=xf.Bc xa b u.hb;have xx:=z.Av;have w:=z.Ax c a m;have xv:=Cm xk;let⟨xF,R,xl,xj,xe,y,xn,xE⟩:=box j (.I 4 (Au.c a))
 let⟨xH,xG⟩:=EL j (b:=4) [(.i .u8 0),(.s []),(.n 0),.sn] (c:=Au.c a) xl xj B B
 have xs:=y;have d:=xd.AI xe;unfold HB;by_cases M:a.op=6
 .have xw:=w.M3 Om;let⟨f,V⟩:=Bb (b:=a.A3) (a:=0) (by omega)
  let⟨g,W⟩:=Bb (b:=a.A3) (a:=1) (by omega)
  let⟨xb,X⟩:=u.Eo (w.A3 f P)
  let⟨xc,Y⟩:=u.Eo (w.A3 g P)
  rw[A0 M,Aep,V,W,Aeg,Aeg,OP X,OP Y];have xt:=y;have xy:AR 2 [Z AF.c a.A3,.n 0]=A (.pi (AF.c f)):=IE (a:=0) V;have xz:AR 2 [Z AF.c a.A3,.n 1]=A (.pi (AF.c g)):=IE (a:=1) W;have xC:A9 2 R [.pi (AF.c f)]=A (.S (AF.c f)):=B;let⟨S,xA,e⟩:=Nc (E.ext d) f X
  have h:=MD xb;by_cases N:xb.Ak=0;.rw[A0 N]at h⊢;refine⟨λ_=>⟨S,?_,d.AI e⟩,P⟩;rw[I_.2.2.2.2.2.1];simp only[QY,I_.2.2.2.2.2.2.1,H (Fa m),h.H B,QB,I_.2.2.2.2.2.2.2,H (Bh (a:=c) (by omega)), *]
  .rw[A2 N]at h⊢;have xu:=(e.M xn).t y;have xD:A9 2 S [.pi (AF.c g)]=A (.S (AF.c g)):=B;let⟨U,xB,I⟩:=Nc (E.ext (d.AI e)) g Y
   have p:=MD xc;by_cases Q:xc.Ak=0;.rw[A0 Q]at p⊢;refine⟨λ_=>⟨U,?_,d.AI (e.AI I)⟩,P⟩;rw[I_.2.2.2.2.2.1];simp only[QY,I_.2.2.2.2.2.2.1,H (Fa m),h.H B,p.H B,QB,I_.2.2.2.2.2.2.2,H (Bh (a:=c) (by omega)), *]
   .rw[A2 Q]at p⊢;refine⟨P,λ_=>⟨U,?_,d.AI (e.AI I)⟩⟩;rw[I_.2.2.2.2.2.1];simp only[QY,I_.2.2.2.2.2.2.1,H (Fa m),h.H B,p.H B,QB, *]
 .rw[A2 M,AeO];refine⟨λ_=>⟨R,?_,d⟩,P⟩;rw[I_.2.2.2.2.2.1];simp only[QY,I_.2.2.2.2.2.2.1,H (Fa m),I_.2.2.2.2.2.2.2,H (Bh (a:=c) (by omega)), *]
def df{d:Type}(b:d->Ah)(a:C _):a.any b= !(a.all λc=> !b c):=by grind
def o5{c:CI}(N:BD c.l){g:G}{e:Ai}{W:T->Prop}(X:DC c g e W)(S:CF c.l e):∃a,W9 (pos 103) [.p c.x 0] g=A (.n (PC c.l e),a)/\AH g a:=by
 obtain⟨xk,xl,f,v,rfl,xf⟩:=X
 have V:=Cp v.Ac
 rw[Ad0]at V
 have xg:=S.A7
 have xb:∀(b:D) d a,e.Ac[b]? =A d->AH g a->∃t h,Dw c.l t h d/\jj W9 103 2 [.n e.Ac.l,f.cv,.p c.x 0,.n b] a=jj W9 103 4 [.n h.Av.l,Z Au.c h.Av,.p (f.pc b) 0,.n 0,.n b,.n e.Ac.l,f.cv,.p c.x 0] a:=by
  intro b d a o u;have U:b<e.Ac.l:=by grind
  have xe:=Cm U;let⟨t,h,m⟩:=S.BC b d o
  have w:=v.ext u;let⟨xc,xj,xm⟩:=w.Lf o
  have xo:=w.M;have xd:a.Ap (f.pc b) 0=A (.n t):=by rw[Ay (w.BC b d o).M];show A (F.n d.Bc)=_;rw[m.ha]
  refine⟨t,h,m,?_⟩;rw[I_.2.2.1];simp only[QY,I_.2.2.2.1,H (CB m.hb), *]
 have xi:∀(b:D) d a,e.Ac[b]? =A d->AH g a->((F4 c.l d).Av.any (HB d)=Aa->∃j,jj W9 103 2 [.n e.Ac.l,f.cv,.p c.x 0,.n b] a=jj W9 103 2 [.n e.Ac.l,f.cv,.p c.x 0,.n (b+1:D)] j/\AH g j)/\((F4 c.l d).Av.any (HB d)=L->∃j,jj W9 103 2 [.n e.Ac.l,f.cv,.p c.x 0,.n b] a=A (.n 6,j)/\AH g j):=by
  intro b d a o u;have U:b<e.Ac.l:=by grind
  let⟨t,h,m,Y⟩:=xb b d a o u
  have M:=v.BC b d o;rw[m.Ca,Y];have k:=hS (e:=h.Av) (g:=λz=> !HB d z) (f:=λk a=>jj W9 103 4 [.n h.Av.l,Z Au.c h.Av,.p (f.pc b) 0,.n k,.n b,.n e.Ac.l,f.cv,.p c.x 0] a) (k:=λa=>jj W9 103 3 [.n b,.n e.Ac.l,f.cv,.p c.x 0] a) (m:=.n 6) (d:=λa=>AH g a)
   (λk z a y r xa=>(ij N M m y r _ _ _ _).1 (by grind))
   (λk z a y r xa=>(ij N M m y r _ _ _ _).2 (by grind))
   (λa r=>by show jj W9 103 4 _ _=_;rw[I_.2.2.2.2.2.1];simp only[↓Q,↓QT,AdM,(CA h.Av.l)])
   a u
  rw[df];constructor
  .intro x;let⟨j,s,q⟩:=k.1 (by grind)
   refine⟨j,?_,q⟩;have s:jj W9 103 4 [.n h.Av.l,Z Au.c h.Av,.p (f.pc b) 0,.n 0,.n b,.n e.Ac.l,f.cv,.p c.x 0] a=jj W9 103 3 [.n b,.n e.Ac.l,f.cv,.p c.x 0] j:=s;rw[s,I_.2.2.2.2.1];simp only[↓Q,↓H (Bh (a:=b) (by omega))]
  grind
 have k:=hS (e:=e.Ac) (g:=λd=> !(F4 c.l d).Av.any (HB d)) (f:=λb a=>jj W9 103 2 [.n e.Ac.l,f.cv,.p c.x 0,.n b] a) (k:=λa=>A (.n 0,a)) (m:=.n 6) (d:=λa=>AH g a)
  P
  P
  (λa r=>by show jj W9 103 2 _ _=_;rw[I_.2.2.1];simp only[↓Q,↓QT,AdM,(CA e.Ac.l),I_.2.1])
  g (AH.refl g)
 have xn:∀{J:R},jj W9 103 2 [.n e.Ac.l,f.cv,.p c.x 0,.n 0] g=J->xx W9 103 [.p c.x 0] g=J:=λ{J} xh=>by rw[I_.1];simp only[QY,v.M,V];grind
 unfold PC
 rw[df]
 cases x:e.Ac.all λd=> !(F4 c.l d).Av.any (HB d)with
 |true=>
  let⟨a,s,q⟩:=k.1 x
  exact⟨a,AZ B B P,q⟩
 |false=>
  let⟨a,s,q⟩:=k.2 x
  exact⟨a,AZ B B P,q⟩
theorem Rx(b:C _)(c:Ai)(a:D):B9 b c (a+1)=if(B9 b c a).2.2≠0\/¬a<(B9 b c a).1.Ac.l then B9 b c a
 else((El b (B9 b c a).1 a).1,(B9 b c a).2.1||(El b (B9 b c a).1 a).2.1,(El b (B9 b c a).1 a).2.2):=rfl
def Vy{d:C _}{c:Ai}{a:D}(e:(B9 d c a).2.2≠0\/¬a<(B9 d c a).1.Ac.l):∀b,a<=b->B9 d c b=B9 d c a
 |0,f=>by grind
 |b+1,f=>by
  by_cases g:a=b+1;.grind
  .rw[Rx,(Vy e b (by omega)),Af];omega
def Vz{b:C Ab}(d:BD b){a:Ai}(e:CF b a):∀c,IT a (B9 b a c).1/\CF b (B9 b a c).1
 |0=>⟨IT.refl a,e⟩
 |c+1=>by
  let⟨f,k⟩:=Vz d e c
  rw[Rx];split;.grind
  .rename_i h;let⟨m,i⟩:=Bb (AdS λj=>h (.j j))
   let⟨g,l⟩:=rq d k i
   exact⟨f.AI g,l⟩
def ar{d:C Ab}(e:BD d){g:D}:∀{h:D}{b:Ai}{c:Ai×K},CF d b->IF d g h b=A c->IT b c.1/\CF d c.1
 |0,b,c,f,a=>by cases a
 |h+1,b,c,f,a=>by
  unfold IF at a;let⟨i,k⟩:=Vz e f g
  split at a;.grind
  .split at a
   .let⟨j,l⟩:=ar e k a
    exact⟨i.AI j,l⟩
   grind
def au{a:C Ab}(h:BD a){b:Ai}{c:Ai×K}(i:CF a b)(d:Ib a f g b=A c):IT b c.1/\CF a c.1:=by
 unfold Ib at d
 cases e:IF a f g b with
 |none=>grind
 |some j=>rw[e]at d;have:=ar h i e;grind
def u_{a:CI}(u:BD a.l)(xa:f=400){j:G}{b:Ai}{g:T->Prop}(J:DC a j b g)(x:CF a.l b):∃d,(((B9 a.l b f).2.2=0/\jj W9 54 3 [.n 0,.b Aa,.p a.x 0] j=jj W9 54 2 [.b (B9 a.l b f).2.1,.p a.x 0] d)\/((B9 a.l b f).2.2≠0/\jj W9 54 3 [.n 0,.b Aa,.p a.x 0] j=A (.n (B9 a.l b f).2.2,d)))/\DC a d (B9 a.l b f).1 g/\Bo g j d:=by
 have U:=MU (f:=f) (d:=λc _ d=>jj W9 54 3 [.n c,.b (B9 a.l b c).2.1,.p a.x 0] d)
  (e:=λc _ d=>(B9 a.l b c).2.2=0/\DC a d (B9 a.l b c).1 g/\Bo g j d)
  (g:=λE=>∃d,(((B9 a.l b f).2.2=0/\E=jj W9 54 2 [.b (B9 a.l b f).2.1,.p a.x 0] d)\/((B9 a.l b f).2.2≠0/\E=A (.n (B9 a.l b f).2.2,d)))/\DC a d (B9 a.l b f).1 g/\Bo g j d)
  (λc _ d Z r=>by
   let⟨t,m,v⟩:=r
   let⟨V,W,X,o,S,N⟩:=m
   have xc:=o.M;have q:=Cp o.Ac;rw[Ad0]at q;by_cases R:c<(B9 a.l b c).1.Ac.l
   .have p:c<((B9 a.l b c).1.Ac.l:K):=by omega
    let⟨z,xb,M,Y⟩:=rf u m (Vz u x c).2 R
    have w:=Rx a.l b c;rw[Ad (by grind)]at w;by_cases y:(El a.l (B9 a.l b c).1 c).2.2=0
    .left;refine⟨(),z,?_,?_⟩;.show jj _ _ 3 _ _=jj _ _ 3 _ _;rw[w,K6.2.2.2.2.1];simp only[QY,LR,p,K6.2.2.2.2.2.1,y,K6.2.2.2.2.2.2.2,K6.2.2.2.2.2.2.1,H (Bh (a:=c) (by omega)), *]
     grind
    .right;rw[(Vy (d:=a.l) (c:=b) (a:=c+1) P f (by omega)),w];refine⟨z,.j ⟨y,?_⟩,M,P⟩;show jj W9 54 3 _ _=_;rw[K6.2.2.2.2.1];simp only[QY,K6.2.2.2.2.2.1, *]
   .right;have p:¬c<((B9 a.l b c).1.Ac.l:K):=by omega
    rw[(Vy (d:=a.l) (c:=b) (a:=c) Om f (by omega))];refine⟨d,.i ⟨t,?_⟩,m,v⟩;show jj W9 54 3 _ _=_;rw[K6.2.2.2.2.1];simp only[QY, *])
  (λ_ d r=>by
   let⟨t,m,v⟩:=r
   let⟨V,W,X,o,S,N⟩:=m
   have q:=Cp o.Ac;rw[Ad0]at q;have p:¬f<((B9 a.l b f).1.Ac.l:K):=by have:=(Vz u x f).2.A7;omega
   refine⟨d,.i ⟨t,?_⟩,m,v⟩;show jj W9 54 3 _ _=_;rw[K6.2.2.2.2.1];simp only[QY,o.M,q,p])
  (b:=()) (a:=j) ⟨B,J,P⟩
 exact U
def gB{a:CI}(k:BD a.l){j:D}(n:j=400):∀{o:D}{f:G}{e:Ai}{g:T->Prop}{d:Ai×K},DC a f e g->CF a.l e->IF a.l j o e=A d->∃h,((d.2=0/\jj W9 54 2 [.b L,.p a.x 0] f=jj W9 54 1 [.p a.x 0] h)\/(d.2≠0/\jj W9 54 2 [.b L,.p a.x 0] f=A (.n d.2,h)))/\DC a h d.1 g/\Bo g f h
 |0,_,_,_,_,_,_,b=>by cases b
 |o+1,f,e,g,d,p,m,b=>by
  unfold IF at b;let⟨r,c,l,q⟩:=u_ k n p m
  rw[K6.2.2.1];simp only[↓Q,K6.2.2.2.1];rcases c with⟨s,c⟩|⟨s,c⟩
  .rw[Ad (by grind)]at b
   cases i:(B9 a.l e j).2.1 with
   |true=>
    rw[i,Af B]at b;rw[i]at c;let⟨v,w,t,u⟩:=gB k n l (Vz k m j).2 b
    grind
   |false=>
    rw[i,Ad (by grind)]at b;cases b
    rw[i]at c;refine⟨r,.i ⟨B,?_⟩,l,q⟩;rw[c,K6.2.2.1];simp only[↓Q]
  grind
def ak{b:CI}(h:BD b.l){k p:D}(u:k=400){i:G}{e:Ai}{g:T->Prop}{l:Ai×K}(q:DC b i e g)(n:CF b.l e)(a:Ib b.l k p e=A l):∃j,W9 (pos 54) [.p b.x 0] i=A (.n l.2,j)/\DC b j l.1 g/\Bo g i j:=by
 unfold Ib at a
 cases f:IF _ k p e with
 |none=>rw[f]at a;grind
 |some x=>
  rw[f]at a;simp only[AfG]at a;let⟨s,c,d,r⟩:=gB h u q n f
  rcases c with⟨o,c⟩|⟨o,c⟩
  .rw[Ad (by grind)]at a;subst a;let⟨t,_,m⟩:=o5 h d (ar h n f).2
   refine⟨t,AZ B B ?_,d.ext m,λw v=>(m.M (d.C4 v)).t P⟩;rw[K6.1,c,K6.2.1];grind
  .rw[Af o]at a;subst a;refine⟨s,AZ B B ?_,d,r⟩;rw[K6.1,c]
structure P5(b:CI)(m:D)(c:Ai->Prop):Prop where
 PQ:∀a,c a->CF b.l a
 Av:∀a,c a->∀e∈a.Ac,P2 b.l e
 round:∀a,c a->0<=a.round/\a.round<=6000
 Su:∀a,c a->∀(d:D) h,(Br b.l a)[d]? =A h->(C3 b.l (Br b.l a) (a.round+1) ⟨a.Ac,a.Am,a.round+1,a.AA⟩ d).2=0->
  (C3 b.l (Br b.l a) (a.round+1) ⟨a.Ac,a.Am,a.round+1,a.AA⟩ d).1.round=a.round+1/\∃j l e i f k,RV b (C3 b.l (Br b.l a) (a.round+1) ⟨a.Ac,a.Am,a.round+1,a.AA⟩ d).1 h j l e i f k
 Th:∀a,c a->(C3 b.l (Br b.l a) (a.round+1) ⟨a.Ac,a.Am,a.round+1,a.AA⟩ (Br b.l a).l).2=0->CF b.l (C3 b.l (Br b.l a) (a.round+1) ⟨a.Ac,a.Am,a.round+1,a.AA⟩ (Br b.l a).l).1
 Dj:∀a f g,c a->(Br b.l a).l≠0->KH b.l m f a=A g->g.2=0->c g.1
def ZY{b:C _}{e:C _}{d:K}{c:Ai}{a:D}{f:A5}(g:e[a]? =A f):C3 b e d c (a+1)=if(C3 b e d c a).2≠0 then C3 b e d c a else F6 b (C3 b e d c a).1 f d:=by show(if(C3 b _ _ c a).2≠0 then C3 b _ _ c a else match e[a]?with|some f=>F6 b _ f _|none=>C3 b _ d c a)=_;grind
def ZX{c:C _}{f:C A5}{e:K}{b:Ai}{d:D}(g:(C3 c f e b d).2≠0):∀a,d<=a->C3 c f e b a=C3 c f e b d
 |0,h=>by grind
 |a+1,h=>by
  by_cases i:d=a+1;.grind
  .have j:=ZX g a (by omega);show(if(C3 c _ _ b a).2≠0 then C3 c _ e b a else _)=_;grind
def oz{b:CI}(xd:Li b){xo:D}{U:Ai->Prop}(xe:P5 b xo U){o:G}{p:T->Prop}(xc:U a){q:F}(xb:DC b o ⟨a.Ac,a.Am,a.round+1,a.AA⟩ (λg=>p g\/¬As q g))(xp:Aw o q A5.c 2 (Br b.l a))(xw:(Br b.l a).l<1000000000)(t:F):
  ∃c,(((C3 b.l (Br b.l a) (a.round+1) ⟨a.Ac,a.Am,a.round+1,a.AA⟩ (Br b.l a).l).2=0/\jj W9 68 5 [.n (Br b.l a).l,q,.n 0,t,.p b.x 0] o=jj W9 68 4 [t,.p b.x 0] c)\/
   ((C3 b.l (Br b.l a) (a.round+1) ⟨a.Ac,a.Am,a.round+1,a.AA⟩ (Br b.l a).l).2≠0/\jj W9 68 5 [.n (Br b.l a).l,q,.n 0,t,.p b.x 0] o=A (.n (C3 b.l (Br b.l a) (a.round+1) ⟨a.Ac,a.Am,a.round+1,a.AA⟩ (Br b.l a).l).2,c)))/\
   DC b c (C3 b.l (Br b.l a) (a.round+1) ⟨a.Ac,a.Am,a.round+1,a.AA⟩ (Br b.l a).l).1 p/\Bo p o c:=by
 have xj:=xe.Su a xc
 generalize Br b.l a=d at*
 generalize(⟨a.Ac,a.Am,a.round+1,a.AA⟩:Ai)=m at*
 have xC:=MU (f:=d.l) (d:=λj _ c=>jj W9 68 5 [.n d.l,q,.n (j:K),t,.p b.x 0] c)
  (e:=λj _ c=>(C3 b.l d (a.round+1) m j).2=0/\DC b c (C3 b.l d (a.round+1) m j).1 (λg=>p g\/¬As q g)/\Bo (λg=>p g\/¬As q g) o c)
  (g:=λZ=>∃c,(((C3 b.l d (a.round+1) m d.l).2=0/\Z=jj W9 68 4 [t,.p b.x 0] c)\/((C3 b.l d (a.round+1) m d.l).2≠0/\Z=A (.n (C3 b.l d (a.round+1) m d.l).2,c)))/\DC b c (C3 b.l d (a.round+1) m d.l).1 p/\Bo p o c)
  (λj _ c W E=>by
   let⟨J,r,xh⟩:=E
   let⟨z,y⟩:=Bb W
   have xu:=Cm W;let⟨xx,xy,xA,xt,xr,X,xz,xa⟩:=xj j z y J
   let⟨xs,M⟩:=CD (f:=A5.c) (w:=2) (λ_=>B) (xp.Ar λg x X=>⟨P,r.C4 (.j X)⟩) y
   have xJ:=M.AL (f:=A5.c) (λ_=>B) y;let⟨xG,xl,xn,xm,R,xk,xD,xE⟩:=box c (.I 2 (A5.c z))
   let⟨xN,xK⟩:=EL c (b:=2) [(.n 0),(.n 0)] (c:=A5.c z) xn xm B B
   have xI:=BB xk;have u:=r.ext R;let⟨xF,u⟩:=u
   let⟨xH,xL,xi,x,xv⟩:=u
   have xM:xl.Ap b.x 4=A (.n (a.round+1)):=by rw[Ay xi.M];grind
   let⟨v,Y,xB,S,xg,_⟩:=gd u xd xa (a.round+1)
   have xf:Bo (λg=>p g\/¬As q g) o v:=λg x=>(xg g x).t ((R.M (r.C4 x)).t P);have N:=ZY (b:=b.l) (d:=a.round+1) (c:=m) y;rw[Ad (by grind)]at N;by_cases V:(F6 b.l (C3 b.l d (a.round+1) m j).1 z (a.round+1)).2=0
   .left;refine⟨(),v,?_,?_⟩;.show jj W9 68 5 _ _=jj W9 68 5 _ _;rw[K7.2.2.2.2.2.2.1];simp only[QY,K7.2.2.2.2.2.2.2.1,H M.ia,K7.2.2.2.2.2.2.2.2,H (Bh (a:=j) (by omega)), *]
    .show(C3 _ _ _ _ (j+1)).2=0/\DC b v (C3 _ _ _ _ (j+1)).1 _/\_;rw[N];exact⟨V,⟨Y,S⟩,xf⟩
   .right;have xq:=ZX (c:=b.l) (f:=d) (e:=a.round+1) (b:=m) (d:=j+1) (by grind) d.l (by omega);rw[xq,N];refine⟨v,.j ⟨V,?_⟩,⟨Y,S.sub P⟩,P⟩;show jj W9 68 5 _ _=_;rw[K7.2.2.2.2.2.2.1];simp only[QY,K7.2.2.2.2.2.2.2.1,H M.ia, *])
  (λ_ c E=>by
   let⟨J,r,xh⟩:=E
   refine⟨c,.i ⟨J,?_⟩,r.sub P,P⟩;show jj W9 68 5 _ _=_;rw[K7.2.2.2.2.2.2.1];simp only[↓Q,↓QT,AdM,(CA d.l)])
  (b:=()) (a:=o) ⟨B,xb,P⟩
 grind
def ca{c:CI}{i:G}{f:Ai}{g:T->Prop}(h:DC c i f g)(n:CF c.l f)(r:∀p∈f.Ac,P2 c.l p):∃e d,W9 (pos 52) [.p c.x 0] i=A (e,d)/\Aw d e A5.c 2 (Br c.l f)/\DC c d f (λa=>g a\/¬As e a)/\Bo g i d/\∀a,g a->As e a:=by
 have m:=h
 let⟨t,_,u,o,_,_⟩:=m
 let⟨e,d,q,l,j,k⟩:=qM o r n.A7
 refine⟨e,d,q,l,(h.V j).sub ?_,λa b=>j.M (h.C4 b),λa b=>k a (h.C4 b)⟩
 rintro a (b|b)
 .grind
 .exact .j ⟨λs=>b (k a s),l.Cz b⟩
def cc{b:CI}(c:CF b.l a)(e:∀d∈a.Ac,P2 b.l d):(Br b.l a).l<1000000000:=by have:=cb e 1000000 (CK _) a.Ac.l;have:=c.A7;unfold Br;omega
def jy{d:CI}(J:BD d.l)(I:Li d){p:D}(S:p=400){H:Ai->Prop}(f:P5 d p H){l:D}:∀{U:D}{h:G}{c:Ai}{j:T->Prop}{i:F}{q:Ai×K},H c->DC d h c (λg=>j g\/¬As i g)->Aw h i A5.c 2 (Br d.l c)->HW d.l p l U c=A q->∃x,jj W9 68 2 [.n 6001,i,.p d.x 0] h=A (.n q.2,x)/\DC d x q.1 j/\Bo j h x
 |0,_,_,_,_,_,_,_,_,e=>by cases e
 |U+1,h,c,j,i,q,k,z,Y,e=>by
  have xi:=f.PQ c k;have xx:=f.Av c k;have xt:=cc xi xx;have X:=Cp Y;let⟨xG,xH⟩:=f.round c k
  have xc:=z;let⟨xy,xz,xB,P,n,xs⟩:=xc
  have xC:=P.M;unfold HW at e;by_cases u:(Br d.l c).l=0
  .rw[Af u]at e;cases e
   have v:¬0<((Br d.l c).l:K):=by omega
   refine⟨h,?_,z.sub λg n=>.i n,Bo.refl _ _⟩;rw[K7.2.2.1];simp only[QY,X,v,K7.2.1]
  .rw[Ad u]at e
   have v:(0:K)<((Br d.l c).l:K):=by omega
   have xn:c.round<6001:=by omega
   have xo:=F2 (a:=c.round) (b:=1) (by omega) (by omega)
   let⟨Q,xA,xm,xh⟩:=P.Yj (c.round+1)
   have t:=xh.Fp (by grind) xs
   have xd:DC d Q ⟨c.Ac,c.Am,c.round+1,c.AA⟩ (λg=>j g\/¬As i g):=⟨xy,xz,xB,xm,n,t.1⟩
   have Z:=Y.Ar λg n l=>⟨t.2 g (.j l),(t.1 g (.j l)).1⟩
   have xv:=Cp Z
   let⟨xp,m,xe,xD⟩:=oz I f k xd Z xt (.n 6001)
   have xa:∀{s:R},jj W9 68 5 [.n ((Br d.l c).l:K),i,.n 0,.n 6001,.p d.x 0] Q=s->jj W9 68 2 [.n 6001,i,.p d.x 0] h=s:=λ{s} xF=>by rw[K7.2.2.1];simp only[QY,X,v,xC,xn,K7.2.2.2.1,xo,xA,xv];grind
   have M:Bo j h xp:=by grind
   cases o:KH d.l p l c with
   |none=>rw[o]at e;cases e
   |some xb=>
    rw[o]at e;simp only[]at e;have y:=o;unfold KH at y;rcases m with⟨V,m⟩|⟨V,m⟩
    .rw[Ad (by grind)]at y;have xj:=f.Th c k V;let⟨xq,W,E,N⟩:=ak J S xe xj y
     by_cases w:xb.2=0
     .rw[Ad (by grind)]at e;have r:=f.Dj c l xb k u o w;let⟨xJ,xE,xu,xw,xf,xk,_⟩:=ca E (f.PQ _ r) (f.Av _ r)
      let⟨xr,xI,xg,xl⟩:=jy J I S f r xf xw e
      refine⟨xr,xa ?_,xg,M.AI (N.AI (xk.AI xl))⟩;rw[m,K7.2.2.2.2.2.1];rw[w]at W;simp only[QY,W,K7.2.2.2.2.1,xu];grind
     .rw[Af w]at e;cases e
      refine⟨xq,xa ?_,E,M.AI N⟩;rw[m,K7.2.2.2.2.2.1];simp only[QY, *]
    .grind
def qQ{a:CI}(o:BD a.l)(n:Li a)(s:h=400){j:Ai->Prop}(d:P5 a h j){u:D}{f:G}{e:Ai}{b:T->Prop}{i:Ai×K}(c:j e)(k:DC a f e b)(t:HW a.l h v u e=A i):∃g,W9 (pos 68) [.p a.x 0,.n 6001] f=A (.n i.2,g)/\DC a g i.1 b/\Bo b f g:=by
 let⟨E,x,y,w,l,p,_⟩:=ca k (d.PQ _ c) (d.Av _ c)
 let⟨r,z,m,q⟩:=jy o n s d c l w t
 refine⟨r,AZ B B ?_,m,p.AI q⟩;rw[K7.1];grind
