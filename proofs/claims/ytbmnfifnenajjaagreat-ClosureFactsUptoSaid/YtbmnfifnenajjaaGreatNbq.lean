/- Part of the proof. -/
import Derived.ProofKit
import Derived.Test.YtbmnfifnenajjaaGreatRows
import Derived.WalkKit
import Derived.OpenShut
import Derived.JoinedCond
import Derived.Test.YtbmnfifnenajjaaGreatNbp
set_option linter.all false
noncomputable section
open Option renaming some->A,none->O,getD->Option.g,bind->Option.b
open _root_ renaming rfl->B,List->C,Nat->D,Int->K,if_neg->Ad,if_pos->Af,Bool->Ah,cond->Aj,decide_eq_true->A0,absurd->BF
open Bool renaming true->L,false->Aa
open Decidable renaming decide->Ao
open Nat renaming beq->AW,le_refl->CK
open List renaming length->List.l,take->List.t,toArray->List.a
open Go.IntKind renaming i64->Go.IntKind.n
open Array renaming toList->Array.l,size->Array.z
open Eq renaming trans->Eq.t
open Int renaming toNat->Int.n
namespace Go.Proofs.YtbmnfifnenajjaaGreat
open Go.Fg
theorem AiI{j:Type}{d:D->j->Prop}{b:C j}(h:∀g c,b[g]? =A c->d g c):FN d (List.range b.l) b:=by
 have n:∀a,a<=b.l->FN d (List.range a) (b.t a):=λa=>by
  induction a with
  |zero=>intro _;exact .nil
  |succ a m=>
   intro k;let⟨c,f⟩:=Bb (b:=b) (a:=a) k
   rw[AeX,AjU,f];exact(m (by omega)).VS (h a c f)
 have:=n b.l (CK _);rwa[List.take_length]at this
def Ait(e:Ai)(d c b:D->F)(a:D):C F:=[.n (e.at a).Bc,.n (e.at a).AP,.n (e.at a).Ax,.n (e.at a).Az,d a,c a,b a]
theorem AiL{h:G}{q:F}{e:Ai}{o j l:D->F}{n:D->D->F}(J:Aw h q (Ait e o j l) 7 (List.range e.Ac.l))(H:∀a,a<e.Ac.l->Aw h (o a) N.c 2 (e.at a).An)(z:∀a,a<e.Ac.l->Aw h (j a) (EE (n a)) 1 (List.range (e.at a).AG.l))(E:∀a i k,a<e.Ac.l->(e.at a).AG[i]? =A k->Aw h (n a i) N.c 2 k)(y:∀a,a<e.Ac.l->Aw h (l a) Be 1 (e.at a).AS):Fs (λ_=>True) 4 h q (YtbmnfifnenajjaaGreat.Z f4 e.Ac):=by refine Fs.Rt (c:=3) (d:=Ait e o j l) (e:=f4) (λ_ _=>Aeb) (by omega) (λ_=>B) (λ_=>B) J (AiI λa M p=> ?_);have b:=(AdN.1 p).1;have r:=DK p;have s:=Fs.Cs (t:=λ_=>True) (a:=N.c) (g:=2) (λ_ _=>Aeb) (λ_=>B) (λ_=>B) (H a b);have x:=Fs.Cs (t:=λ_=>True) (a:=Be) (g:=1) (λ_ _=>Aeb) (λ_=>B) (λ_=>B) (y a b);have v:Fs (λ_=>True) 3 h (j a) (YtbmnfifnenajjaaGreat.Z Fh (e.at a).AG):=Fs.Rt (c:=2) (d:=EE (n a)) (e:=Fh) (λ_ _=>Aeb) (by omega) (λ_=>B) (λ_=>B) (z a b) (AiI λi k I=>BS.cons (Fs.Cs (t:=λ_=>True) (a:=N.c) (g:=2) (λ_ _=>Aeb) (λ_=>B) (λ_=>B) (E a i k b I)) (BS.nil 2 h));unfold Ait f4;rw[r]at*;have c:∀m:K,Fs (λ_=>True) 3 h (.n m) (.n m):=λm=>(Fs.im B).up (by omega);exact BS.cons (c _) (BS.cons (c _) (BS.cons (c _) (BS.cons (c _) (BS.cons (s.up (by omega)) (BS.cons v (BS.cons (x.up (by omega)) (BS.nil 3 h)))))))
theorem AjP{b:G}{c:T}{i d f g a:F}(k:b.M c=A (.I 4 [i,d,f,g]))(m:a.I=[a])(n:Fl a=L):AX 1 b [.p c 0,a]=A (AC,b.set c (.I 4 [a,d,f,g])):=by
 have j:BU [a]=L:=by rw[DJ];grind
 show Aj (Aj (AW (Bq a.I) 1) (BU a.I) Aa) (match b.Ep c 0 1 a.I with|some l=>A (AC,l)|none=>O) O=_;rw[m,Ki (by rw[k];rfl),j];rfl
section
variable{t:CI} {u:T->Bm} {h:G} {e:Ai} {w:Lm}
structure GI(f:G)(e:Ai)(w:Lm)(d:T)(i:D)(c:F)(b:G):Prop where
 E:AH f b
 g:b.M d=A (.I 4 [c,w.mv,.n e.round,.n e.AA])
 l:Lv b d
 o:Aw b c (Ait e w.pv w.ov w.fv) 7 (List.range i)
 fu:Dx f c
 a:As c d
theorem GI.Dj(S:EB u h t.l t.es t.k t.x e w){j:T}(xf:¬Lv h j){c:D}{Q:F}{q:G}(b:GI h e w j c Q q)(N:c<e.Ac.l)(xl:e.Ac.l<1000)(P:F):∃m n,jj W9 69 2 [.n e.Ac.l,w.cv,.n c,.p j 0,P] q=jj W9 69 2 [.n e.Ac.l,w.cv,.n (c+1:D),.p j 0,P] n/\GI h e w j (c+1) m n:=by
 let⟨Y,z⟩:=Bb N
 have I:=S.ext b.E;let⟨xk,xb,xi⟩:=I.Lf z
 have p:=I.BC c Y z;have xh:q.AL (w.pc c) 0 7=A (Ait e w.pv w.ov w.fv c):=by rw[D1 p.M,<-DK z];rfl
 have xg:q.Ap j 0=A Q:=Ay b.g 0;have U:=Ru p.An;have V:=Ru p.AG;have W:=Ru p.AS;have X:BU (Ait e w.pv w.ov w.fv c)=L:=by rw[DJ];show List.all [_,_,_,_,_,_,_] Fl=L;simp only[Aer,U,V,W];rfl
 let⟨m,n,xd,s,r,J⟩:=FJ (f:=Ait e w.pv w.ov w.fv) (w:=7) (b:=c) (o:=.S (Ait e w.pv w.ov w.fv c)) (h:=104) (λ_=>B) X B b.o (DG (by rw[Ad0];omega))
 rw[<-AeX]at s;have xa:=(r.M b.l b.a).t b.g;have M:As m j:=J j b.l b.a;have xj:=AjP xa (a:=m) (Cr s).1 (Cr s).2;have Z:=Cm N;have R:AH h n:=λk d=>⟨(r.M (b.E.lv d) (b.fu k d)).t (b.E.M d),r.lv (b.E.lv d) (b.fu k d)⟩;refine⟨m,n.set j (.I 4 [m,w.mv,.n e.round,.n e.AA]),?_,R.Gw xf _,by rw[AN,Af B],by rw[K9];exact r.lv b.l b.a,s.Ar λk d xe=>⟨by rw[AN,Ad λxc=>xe (by rw[xc];exact M)],by rw[K9];exact d⟩,λk d=>J k (b.E.lv d) (b.fu k d),M⟩;rw[AiB.2.2.1];simp only[QY,Z,AiB.2.2.2.1,xb,xi,xg,xh,xd,xj,AiB.2.2.2.2,H (Bh (a:=c) (by omega))]
theorem AjE(q:EB u h t.l t.es t.k t.x e w)(P:CF t.l e):∃a v,W9 (pos 69) [.p t.x 0] h=A (.S [a,w.mv,.n e.round,.n e.AA],v)/\Aw v a (Ait e w.pv w.ov w.fv) 7 (List.range e.Ac.l)/\AH h v/\Dx h a:=by
 have xv:=P.A7;let⟨c,d,xe,xb,p,Y,M,xj⟩:=box h (.I 4 [.sn,.sn,.n 0,.n 0])
 have xt:∀(z:F->G->R),bl (.p h.next 0) (h.V (.I 4 [.sn,.sn,.n 0,.n 0])) z=z (.p c 0) d:=Dy h _ xe xb;have g:=q.ext p;have U:=Ru q.Am.o;have E:∀a:F,Fl a=L->BU [a,w.mv,.n e.round,.n e.AA]=L:=λa xf=>by rw[DJ];simp only[Aer,xf,U];rfl
 let⟨f,k,J,xc,y,xa,xh,xk⟩:=box d (.I 4 [.sn,w.mv,.n e.round,.n e.AA])
 let⟨xu,xn⟩:=EL d (b:=4) [.sn,.sn,.n 0,.n 0] (c:=[.sn,w.mv,.n e.round,.n e.AA]) J xc B (E .sn B)
 have S:=g.ext y;have xq:d.AL t.x 3 1=A [w.mv]:=by rw[D1 g.M,Af (by omega),Ad (by omega)];rfl
 have xr:d.Ap t.x 4=A (.n e.round):=Ay g.M 4;have xs:d.Ap t.x 5=A (.n e.AA):=Ay g.M 5;have xp:k.Ap t.x 2=A w.cv:=Ay S.M 2;have N:=Cp q.Ac;rw[Ad0]at N;have X:Bl 3 [.p t.x 0]=A (.p t.x 3):=by rw[EG]
 have W:Cb [.sn,.sn,.n 0,.n 0] [(1,1),(2,1),(3,1)] [.S [w.mv],.n e.round,.n e.AA]=A (.S [.sn,w.mv,.n e.round,.n e.AA]):=B;let⟨a,i,r,b⟩:=Dh (h:=e.Ac.l) (f:=λm a j=>jj W9 69 2 [.n e.Ac.l,w.cv,.n m,.p f 0,.p c 0] j) (g:=λm a j=>GI d e w f m a j)
  (λm a j xd b=>GI.Dj g xk b xd (by omega) (.p c 0))
  (b:=.sn) (a:=k) ⟨y,xa,xh,Aw.sn k,λo _=>Cg o,Cg f⟩
 have r:jj W9 69 2 [.n e.Ac.l,w.cv,.n 0,.p f 0,.p c 0] k=jj W9 69 2 [.n e.Ac.l,w.cv,.n e.Ac.l,.p f 0,.p c 0] i:=r;have b:GI d e w f e.Ac.l a i:=b;have V:=CA e.Ac.l;have xl:i.AL f 0 4=A [a,w.mv,.n e.round,.n e.AA]:=BB b.g;have Z:=(b.E.M M).t Y;have xo:=Gb Z (a:=[a,w.mv,.n e.round,.n e.AA]) B (E a (Ru b.o));have xm:(i.set c (.I 4 [a,w.mv,.n e.round,.n e.AA])).AL c 0 4=A [a,w.mv,.n e.round,.n e.AA]:=BB (by rw[AN,Af B]);have T:=b.fu c M;refine⟨a,i.set c (.I 4 [a,w.mv,.n e.round,.n e.AA]),AZ B (by rfl) ?_,b.o.Ar λo x xi=>⟨by rw[AN,Ad λxg=>xi (by rw[xg];exact T)],by rw[K9];exact x⟩,(p.AI b.E).Gw xj _,λo x=>b.fu o (p.lv x)⟩;rw[AiB.1];simp only[↓xt,↓Q,↓QT,↓H X,↓H xq,↓H xr,↓H xs,↓H W,↓xu,J,↓H xn,↓H xp,↓H N];rw[r,AiB.2.2.1];simp only[QY,V,AiB.2.1,xl,xo,xm]
end
theorem AjM{l:C Ab}{m n:D}{x:AQ}{f:Ai×K}(a:JA l m n x=A f)(e:f.2=0):f.1.round=0:=by
 unfold JA at a;by_cases b:D5 l=0
 .rw[Ad (λk=>k b)]at a;by_cases c:JS (I8 l) x=0
  .rw[Ad (λk=>k c)]at a;by_cases d:(Co x.l x.BT).2.2=0;.rw[Ad (λk=>k d)]at a;exact(UH a).2.1
   .rw[Af d]at a;cases a;exact BF e d
  .rw[Af c]at a;cases a;exact BF e c
 .rw[Af b]at a;cases a;exact BF e b
def e00:Ai:=⟨[],[],0,0⟩
def f5(a:Ai×K):Ai:=if a.2≠0 then e00 else a.1
def zf:C F:=[.sn,.sn,.n 0,.n 0]
theorem Aiz{b:G}{a:T}{d:C F}(c:b.M a=A (.I 4 d))(n:K):Cb zf [] []=A (.S zf)/\AX 4 b [.p a 0,.S zf]=A (AC,b.set a (.I 4 zf))/\(b.set a (.I 4 zf)).AL a 0 4=A zf/\Dp (b.set a (.I 4 zf)) (.AB [.S zf,.n n])=A (.AB [.S (f3 e00),.n n],b.set a (.I 4 zf)):=
 ⟨B,Gb c B B,BB (by rw[AN,Af B]),B⟩
theorem AiJ{q:CI}{s:G}{a:Ai}{z:T->Prop}(N:DC q s a z)(P:CF q.l a){f:T}(M:z f){xm:C F}(xa:s.M f=A (.I 4 xm)):∃p h v w,W9 (pos 69) [.p q.x 0] s=A (.S p,h)/\AX 4 h [.p f 0,.S p]=A (AC,v)/\v.AL f 0 4=A p/\Dp v (.AB [.S p,.n 0])=A (.AB [.S (f3 a),.n 0],w):=by
 let⟨xn,xo,g,r,o,xc⟩:=N
 let⟨I,xl⟩:=xc f M
 let⟨i,h,xg,J,y,Z⟩:=AjE r P
 have Q:=r.ext y;have xb:=(y.M I).t xa;have R:=Ru r.Am.o;have V:=Ru J;have U:BU [i,g.mv,.n a.round,.n a.AA]=L:=by rw[DJ];simp only[Aer,V,R];rfl
 have xk:=Gb xb (a:=[i,g.mv,.n a.round,.n a.AA]) B U;have E:=Q.Ar (i:=h.set f (.I 4 [i,g.mv,.n a.round,.n a.AA])) λxi o xd=>⟨by rw[AN,Ad λk=>xd (by rw[k];exact xl)],by rw[K9];exact o⟩;have xh:Aw (h.set f (.I 4 [i,g.mv,.n a.round,.n a.AA])) i (Ait a g.pv g.ov g.fv) 7 (List.range a.Ac.l):=J.Ar λxi o n=>⟨by rw[AN,Ad λk=>n (by rw[k];exact Z f I)],by rw[K9];exact o⟩;have j:=λ(b:D)(e:b<a.Ac.l)=>E.BC b _ (Di e);have Y:=AiL (n:=g.og) xh (λb e=>(j b e).An) (λb e=>(j b e).AG) (λb xf xj e xe=>((j b e).AD xf xj xe).1) (λb e=>(j b e).AS);have X:=E.Am.fs (t:=λ_=>True) (λ_ _=>Aeb);have H:∀n:K,Fs (λ_=>True) 4 (h.set f (.I 4 [i,g.mv,.n a.round,.n a.AA])) (.n n) (.n n):=λn=>(Fs.im B).up (by omega);let⟨w,W⟩:=W7 (BS.cons (Fs.S (a:=4) (BS.cons Y (BS.cons (X.up (by omega)) (BS.cons (H a.round) (BS.cons (H a.AA) (BS.nil 4 _)))))) (BS.cons ((Fs.im (a:=.n 0) B).up (by omega)) (BS.nil 5 _)))
 exact⟨_,h,_,w,xg,xk,BB (by rw[AN,Af B]),W⟩
theorem AiK{q:EC}{g:G}{a:Ai}{N:C (C (C K))}{z:T->Prop}(H:Bj q g a N 0 z){h:T}(E:z h){xc:C F}(Q:g.M h=A (.I 4 xc)):∃p s v,g.AL q.x 1 4=A p/\AX 4 g [.p h 0,.S p]=A (AC,s)/\s.AL h 0 4=A p/\Dp s (.AB [.S p,.n 0])=A (.AB [.S (f3 a),.n 0],v):=by
 let⟨xf,f,r,R⟩:=H
 let⟨xd,xb⟩:=R h E
 have Y:g.AL q.x 1 4=A [f .Ac,Z AE.c a.Am,.n a.round,.n a.AA]:=by rw[D1 r.M];rfl
 have I:=Ru (r.Db .Ac);have J:BU [f .Ac,Z AE.c a.Am,.n a.round,.n a.AA]=L:=by rw[DJ];simp only[Aer,I];rfl
 have xa:=Gb Q (a:=[f .Ac,Z AE.c a.Am,.n a.round,.n a.AA]) B J;have j:=r.Ar (u:=g.set h (.I 4 [f .Ac,Z AE.c a.Am,.n a.round,.n a.AA])) λxe V U=>⟨by rw[AN,Ad λk=>U (by rw[k];exact xb)],by rw[K9];exact V⟩;have P:=AiL (e:=a) (o:=λb=>f (.An b)) (j:=λb=>f (.AG b)) (l:=λb=>f (.AS b)) (n:=λb y=>f (.AD b y)) (j.Db .Ac) (λb i=>j.Db (.An b) i) (λb i=>j.Db (.AG b) i) (λb y X i W=>j.Db (.AD b y) X W) (λb i=>j.Db (.AS b) i);have w:∀o:F,Im o=L->Fs (λ_=>True) 4 (g.set h (.I 4 [f .Ac,Z AE.c a.Am,.n a.round,.n a.AA])) o o:=λo S=>(Fs.im S).up (by omega);let⟨v,M⟩:=W7 (BS.cons (Fs.S (a:=4) (BS.cons P (BS.cons (w (YtbmnfifnenajjaaGreat.Z AE.c a.Am) B) (BS.cons (w (.n a.round) B) (BS.cons (w (.n a.AA) B) (BS.nil 4 _)))))) (BS.cons ((Fs.im (a:=.n 0) B).up (by omega)) (BS.nil 5 _)))
 exact⟨_,_,v,Y,xa,BB (by rw[AN,Af B]),M⟩
theorem AiT{l:C Ab}{m:D}:∀d:CI,d.l=l->Li d->P5 d m (λb=>BD l/\G8 l b):=λd h o=>by
 subst h;have c:=λe=>jx (c:=d) e m;exact{
  PQ:=λb a=>(c a.1).PQ b a.2
  Av:=λb a=>(c a.1).Av b a.2
  round:=λb a=>(c a.1).round b a.2
  Su:=λb a=>(c a.1).Su b a.2
  Th:=λb a=>(c a.1).Th b a.2
  Dj:=λb n j a i f g=>⟨a.1,(c a.1).Dj b n j a.2 i f g⟩}
section
variable{l:C Ab} (u:Cl l) {m n k:D} (t:m=400) (x:AQ)
include u t
theorem AjF(X:x.l.l<=2000000)(Y:D3 x.l<=100000000){c:Ai×K}(g:Hr l m n k x=A c):AY 28 [Z Ab.c l,.S (AQ.c x)] (.AB [.S (f3 (f5 c)),.n c.2]):=by
 let⟨w,d,xe,xb,xl,V,xh,xu⟩:=box G.Aq (.I 2 (AQ.c x))
 have H:∀(a:F->G->R),bl (.p G.Aq.next 0) (G.Aq.V (.I (Bq (F.I (.S (AQ.c x)))) (F.I (.S (AQ.c x))))) a=a (.p w 0) d:=Dy G.Aq (.I 2 (AQ.c x)) xe xb;let⟨h,o,xf,xc,J,W,xi,xv⟩:=box d (.I 4 [.sn,.sn,.n 0,.n 0])
 have I:∀(a:F->G->R),bl (.p d.next 0) (d.V (.I 4 [.sn,.sn,.n 0,.n 0])) a=a (.p h 0) o:=Dy d _ xf xc;have y:o.AL w 0 2=A (AQ.c x):=BB ((J.M xh).t V);let⟨xw,xq,p,P,xm,N⟩:=f9 u t x X Y AiT (λc g d=>by let⟨b,a⟩:=PL (λj=>HU j) g d;exact⟨HU b,a⟩) g o (g:=λv=>v=h) (λv xd=>by subst xd;exact xi)
 have s:=(P h B).t W;have z:∀e f:F,CO 0 [.AB [e,f]]=A e:=λ_ _=>B;have E:∀e f:F,CO 1 [.AB [e,f]]=A f:=λ_ _=>B;by_cases b:c.2=0
 .obtain⟨xp,xa,rfl,xn,M⟩:=N b;subst xa;let⟨xo,a⟩:=WZ (λj=>HU j) g b
  let⟨xx,xr,xs,xt,xg,xk,xj,Q⟩:=AiJ M a.X.W.sh (f:=h) B s
  have r:f5 c=c.1:=by unfold f5;rw[Ad (λk=>k b)]
  rw[r,b];rw[b]at p;refine EV B B ?_ Q;rw[AiE.1];simp only[↓H,↓I,QY,y,p,z,E,AiE.2,xg,xk,xj]
 .have r:f5 c=e00:=by unfold f5;rw[Af b]
  rw[r];let⟨i,S,T,U⟩:=Aiz s c.2
  have i:Cb [.sn,.sn,.n 0,.n 0] [] []=A (.S zf):=i;refine EV B B ?_ U;rw[AiE.1];simp only[↓H,↓I,QY,y,p,z,E,b,i,S,T]
theorem AjG(W:x.l.l<=2000000)(X:x.BT.l<=2000000){a:Ai×K}(xf:Hr l m n k x=A a):AY 29 [Z Ab.c l,.S (AQ.c x)] (.AB [.S (f3 (f5 a)),.n a.2]):=by
 let⟨v,e,xd,xa,xl,U,xh,xr⟩:=box G.Aq (.I 2 (AQ.c x))
 have E:∀(c:F->G->R),bl (.p G.Aq.next 0) (G.Aq.V (.I (Bq (F.I (.S (AQ.c x)))) (F.I (.S (AQ.c x))))) c=c (.p v 0) e:=Dy G.Aq (.I 2 (AQ.c x)) xd xa;let⟨h,i,xe,xb,I,V,xi,xs⟩:=box e (.I 4 [.sn,.sn,.n 0,.n 0])
 have H:∀(c:F->G->R),bl (.p e.next 0) (e.V (.I 4 [.sn,.sn,.n 0,.n 0])) c=c (.p h 0) i:=Dy e _ xe xb;have w:i.AL v 0 2=A (AQ.c x):=BB ((I.M xh).t U);let⟨xt,xo,j,N,xm,M⟩:=qB u t x W X xf i (h:=λs=>s=h) (λs xc=>by subst xc;exact xi)
 have r:=(N h B).t V;have y:∀f g:F,CO 0 [.AB [f,g]]=A f:=λ_ _=>B;have z:∀f g:F,CO 1 [.AB [f,g]]=A g:=λ_ _=>B;by_cases b:a.2=0
 .obtain⟨p,xn,Y,rfl,J,_⟩:=M b;subst Y;let⟨xu,xp,xq,xg,xk,xj,P⟩:=AiK J (h:=h) B r
  have o:f5 a=a.1:=by unfold f5;rw[Ad (λk=>k b)]
  rw[o,b];rw[b]at j;have d:Bl 1 [.p p.x 0]=A (.p p.x 1):=by rw[EG]
  refine EV B B ?_ P;rw[AiF.1];simp only[↓E,↓H,QY,w,j,y,z,AiF.2,d,xg,xk,xj]
 .have o:f5 a=e00:=by unfold f5;rw[Af b]
  rw[o];let⟨d,Q,S,T⟩:=Aiz r a.2
  have d:Cb [.sn,.sn,.n 0,.n 0] [] []=A (.S zf):=d;refine EV B B ?_ T;rw[AiF.1];simp only[↓E,↓H,QY,w,j,y,z,b,d,Q,S]
def Aip(b:K)(a:Ai×K):Ai×K:=if b<0 then(e00,3)else(f5 a,a.2)
theorem Ai1(xs:x.l.l<=2000000)(J:D3 x.l<=100000000)(a:K){b:Ai×K}(c:Aiv l m n k a x=A b):AY 26 [Z Ab.c l,.S (AQ.c x),.n a] (.AB [.S (f3 (Aip a b).1),.n (Aip a b).2]):=by
 let⟨xb,o,xC,xy,xK,xq,xG,xQ⟩:=box G.Aq (.I 2 (AQ.c x))
 have S:∀(d:F->G->R),bl (.p G.Aq.next 0) (G.Aq.V (.I (Bq (F.I (.S (AQ.c x)))) (F.I (.S (AQ.c x))))) d=d (.p xb 0) o:=Dy G.Aq (.I 2 (AQ.c x)) xC xy
 let⟨f,M,xD,xz,xh,W,xH,xR⟩:=box o (.I 4 [.sn,.sn,.n 0,.n 0])
 have T:∀(d:F->G->R),bl (.p o.next 0) (o.V (.I 4 [.sn,.sn,.n 0,.n 0])) d=d (.p f 0) M:=Dy o _ xD xz
 have xc:M.AL xb 0 2=A (AQ.c x):=BB ((xh.M xG).t xq)
 have xe:∀p a:F,CO 0 [.AB [p,a]]=A p:=λ_ _=>B
 have xf:∀p a:F,CO 1 [.AB [p,a]]=A a:=λ_ _=>B
 by_cases i:a<0
 .have Q:Aip a b=(e00,3):=by unfold Aip;rw[Af i]
  rw[Q];let⟨g,E,H,I⟩:=Aiz W 3
  have g:Cb [.sn,.sn,.n 0,.n 0] [] []=A (.S zf):=g;refine EV B B ?_ I;rw[Aiw.1];simp only[↓S,↓T,QY,i,g,E,H]
 rw[show Aip a b=(f5 b,b.2) by unfold Aip;rw[Ad i]]
 unfold Aiv at c
 cases r:JA l m n x with
 |none=>rw[r]at c;cases c
 |some s=>
  rw[r]at c;have c:(if s.2≠0 then A s else Aio l m n a k s.1)=A b:=c;let⟨w,xM,P,xm,xL,xl⟩:=gc u t x xs J r M (n:=λxa=>xa=f) (λxa xB=>by subst xB;exact xH)
  have X:=(xm f B).t W;have V:∀{N:G}{xg:C F}{j:K}{w:F},N.M f=A (.I 4 xg)->j≠0->f5 b=e00->b.2=j->xx W9 26 [Z Ab.c l,.S (AQ.c x),.n a] G.Aq=jj W9 26 2 [.n j,w,.p f 0] N->AY 26 [Z Ab.c l,.S (AQ.c x),.n a] (.AB [.S (f3 (f5 b)),.n b.2]):=λ{N xg j w} xp xv xw J xA=>by
   let⟨g,E,H,I⟩:=Aiz xp j
   have g:Cb [.sn,.sn,.n 0,.n 0] [] []=A (.S zf):=g;rw[xw,J];refine EV B B (xA.t ?_) I;rw[Aiw.2.2.1];simp only[QY,xv,g,E,H]
  by_cases e:s.2=0
  .rw[Ad (λk=>k e)]at c;obtain⟨y,xu,rfl,U,xi⟩:=xl e;subst xu;let⟨z,d⟩:=PL (λxr=>HU xr) r e
   let⟨xt,xE,xj,xn⟩:=AjC (HU z) U t (AiT y B U) ⟨HU z,d⟩ xi c
   have Y:=(xn f B).t X;have xd:xx W9 26 [Z Ab.c y.l,.S (AQ.c x),.n a] G.Aq=jj W9 26 2 [.n b.2,.p y.x 0,.p f 0] xt:=by rw[e]at P;rw[Aiw.1];simp only[↓S,↓T,QY,i,Aiw.2.1,xc,P,xe,xf,xE]
   by_cases h:b.2=0
   .have xk:=AiG (HU z) d c h;let⟨xS,xN,xO,xP,xF,xJ,xI,xo⟩:=AiJ xj xk.X.W.sh (f:=f) B Y
    have Q:f5 b=b.1:=by unfold f5;rw[Ad (λk=>k h)]
    rw[Q,h];refine EV B B (xd.t ?_) xo;rw[Aiw.2.2.1,h];simp only[QY,Aiw.2.2.2,xF,xJ,xI]
   .exact V Y h (by unfold f5;rw[Af h]) B xd
  .rw[Af e]at c;cases c
   refine V (w:=w) X e (by unfold f5;rw[Af e]) B ?_;rw[Aiw.1];simp only[↓S,↓T,QY,i,Aiw.2.1,xc,P,xe,xf,e]
theorem Ai2(xq:x.l.l<=2000000)(xr:x.BT.l<=2000000)(a:K){c:Ai×K}(e:Aiv l m n k a x=A c):AY 27 [Z Ab.c l,.S (AQ.c x),.n a] (.AB [.S (f3 (Aip a c).1),.n (Aip a c).2]):=by
 let⟨xb,w,xy,xu,xI,xo,xB,xP⟩:=box G.Aq (.I 2 (AQ.c x))
 have T:∀(g:F->G->R),bl (.p G.Aq.next 0) (G.Aq.V (.I (Bq (F.I (.S (AQ.c x)))) (F.I (.S (AQ.c x))))) g=g (.p xb 0) w:=Dy G.Aq (.I 2 (AQ.c x)) xy xu
 let⟨h,P,xz,xv,xg,X,xC,xQ⟩:=box w (.I 4 [.sn,.sn,.n 0,.n 0])
 have U:∀(g:F->G->R),bl (.p w.next 0) (w.V (.I 4 [.sn,.sn,.n 0,.n 0])) g=g (.p h 0) P:=Dy w _ xz xv
 have xc:P.AL xb 0 2=A (AQ.c x):=BB ((xg.M xB).t xo)
 have xe:∀E a:F,CO 0 [.AB [E,a]]=A E:=λ_ _=>B
 have xf:∀E a:F,CO 1 [.AB [E,a]]=A a:=λ_ _=>B
 by_cases p:a<0
 .have S:Aip a c=(e00,3):=by unfold Aip;rw[Af p]
  rw[S];let⟨d,r,s,v⟩:=Aiz X 3
  have d:Cb [.sn,.sn,.n 0,.n 0] [] []=A (.S zf):=d;refine EV B B ?_ v;rw[Aix.1];simp only[↓T,↓U,QY,p,d,r,s]
 rw[show Aip a c=(f5 c,c.2) by unfold Aip;rw[Ad p]]
 unfold Aiv at e
 cases y:JA l m n x with
 |none=>rw[y]at e;cases e
 |some z=>
  rw[y]at e;have e:(if z.2≠0 then A z else Aio l m n a k z.1)=A c:=e;let⟨xR,Y,Q,xk,xJ,xi⟩:=fS u t x xq xr y P (p:=λxa=>xa=h) (λxa xw=>by subst xw;exact xC)
  have M:=(xk h B).t X;by_cases f:z.2=0
  .rw[Ad (λk=>k f)]at e;obtain⟨o,xM,xt,rfl,xh,xj⟩:=xi f;subst xt;let⟨xl,g⟩:=PL (λxp=>HU xp) y f
   have xE:z.1.round=0:=AjM y f;let⟨xG,xH⟩:=AjD (HU xl) t (f:=a) (by omega) g xE xh xj e
   have xd:∀{H:G}{W:K}{I:R},W9 (pos 70) [.p o.x 0,.n a] Y=A (.n W,H)->jj W9 27 2 [.n a,.p o.x 0,.p h 0] Y=I->xx W9 27 [Z Ab.c o.l,.S (AQ.c x),.n a] G.Aq=I:=λ{H W I} j xs=>by rw[f]at Q;rw[Aix.1];simp only[↓T,↓U,QY,p,Aix.2.1,xc,Q,xe,xf];exact xs
   by_cases i:c.2=0
   .let⟨H,xn,j,V,xK,J⟩:=xG i
    have N:=(J h B).t M;let⟨xS,xN,xO,xA,xF,xD,xm⟩:=AiK V (h:=h) B N
    have S:f5 c=c.1:=by unfold f5;rw[Ad (λk=>k i)]
    rw[S,i];have d:Bl 1 [.p o.x 0]=A (.p o.x 1):=by rw[EG]
    refine EV B B (xd j ?_) xm;rw[Aix.2.2.1];simp only[QY,j,Aix.2.2.2,d,xA,xF,xD]
   .let⟨H,xL,xn,j,V,J⟩:=xH i
    have N:=(J h B).t M;let⟨d,r,s,v⟩:=Aiz N c.2
    have d:Cb [.sn,.sn,.n 0,.n 0] [] []=A (.S zf):=d;rw[show f5 c=e00 by unfold f5;rw[Af i]];refine EV B B (xd j ?_) v;rw[Aix.2.2.1];simp only[QY,j,i,d,r,s]
  .rw[Af f]at e;cases e
   let⟨d,r,s,v⟩:=Aiz M c.2
   have d:Cb [.sn,.sn,.n 0,.n 0] [] []=A (.S zf):=d;rw[show f5 c=e00 by unfold f5;rw[Af f]];refine EV B B ?_ v;rw[Aix.1];simp only[↓T,↓U,QY,p,Aix.2.1,xc,Q,xe,xf,f,d,r,s]
end
def AjK{k:C Ab}{g:Ai}(e:BD k)(b:G8 k g):Aiy g:=by
 have G:=b.X.W.sh.A7;have d:=b.X.W.Fj.ok;refine⟨by omega,by have:=d.1;omega,λw t=>by have:=d.2 w t;omega,λo p=> ?_⟩;let⟨u,q⟩:=Aff.1 p
 let⟨n,f,a⟩:=b.X.W.sh.BC u o q
 have c:=e.Bc n f a.hb;have x:=c.An;have y:=c.Av;have z:=a.An;have E:=a.AG;have F:=a.AS;refine⟨by omega,by omega,by omega,λv s=> ?_⟩;let⟨j,h⟩:=Aff.1 s
 let⟨m,r⟩:=Bb (b:=f.Av) (a:=j) (by have:=(AdN.1 h).1;omega)
 have:=a.AD j m v r h;have:=Rs e m;omega
def AiQ:Aiy e00:=⟨Nat.zero_lt_succ _,Nat.zero_lt_succ _,λd b=>(by cases b),λc a=>(by cases a)⟩
def AiR{b:C Ab}{a:Ai×K}(f:a.2=0->BD b/\G8 b a.1):Aiy (f5 a):=by
 unfold f5;split;.exact AiQ
 .rename_i e;let⟨d,c⟩:=f (AdS e)
  exact AjK d c
def AjI(J:AY 9 [] (.b L)){i:C Ab}{a:AQ}(b:K)(xI:IZ i)(xl:a.Cl):AY 6 [Z Ab.c i,.S (AQ.c a),.n b] (.b L):=by
 let⟨X,T,xx⟩:=g4 i a xI xl
 let⟨e,d,xJ,xD,x8,E,xo,yd⟩:=box G.Aq (.I 2 (AQ.c a))
 have x3:∀(xb:F->G->R),bl (.p G.Aq.next 0) (G.Aq.V (.I (Bq (F.I (.S (AQ.c a)))) (F.I (.S (AQ.c a))))) xb=xb (.p e 0) d:=Dy G.Aq (.I 2 (AQ.c a)) xJ xD;have xs:d.AL e 0 2=A (AQ.c a):=BB E;cases X
 .refine Bu B B B ⟨d,?_⟩;rw[kq6.1];simp only[QY,T.H B,QB,J.H B, *]
 let⟨h,yb,c⟩:=xx B
 let⟨Y,xn⟩:=g5 h a (by have:=c.1;omega) (by have:=c.2.1;omega)
 cases Y
 .refine Bu B B B ⟨d,?_⟩;rw[kq6.1];simp only[QY,T.H B,xn.H B,QB,J.H B, *]
 obtain⟨t,s⟩:∃t:D,t=400:=⟨_,B⟩;obtain⟨xr,xg⟩:∃xr:D,2000000<xr:=⟨2000001,by omega⟩;obtain⟨xm,xf⟩:∃xm:D,6000<xm:=⟨6001,by omega⟩;let⟨V,P⟩:=n_ (b:=i) (c:=t) xg xf a
 let⟨W,S⟩:=Ai4 (c:=i) (d:=t) xg xf b a
 have xt:=g7 i h;have xu:=g8 a xl;have v:=Ai1 h s a (by have:=c.1;omega) (AaD c) b S;have w:=Ai2 h s a (by have:=c.1;omega) (by have:=c.2.1;omega) b S;have x:=AjF h s a (by have:=c.1;omega) (AaD c) P;have y:=AjG h s a (by have:=c.1;omega) (by have:=c.2.1;omega) P;have xv:Aiy (Aip b W).1:=by
  unfold Aip;split;.exact AiQ
  .exact AiR λo=>Ai3 S o
 have xw:Aiy (f5 V):=AiR λo=>WZ (λo=>HU o) P o;have xc:=AiX xv;have xd:=AiX xw;generalize(Aip b W).1=f at v w xc;generalize(Aip b W).2=x9 at v w;generalize f5 V=g at x y xd;generalize V.2=ya at x y;have xM:Aj (Bv (.ld 2) [.p e 0] d (.S (AQ.c a))) L Aa=L:=by rw[Mo E];rfl
 let⟨xO,M,xh,xE,xa,xz,U,ye⟩:=box d (.I 4 (f3 f))
 let⟨x4,xV⟩:=EL d (b:=4) [.sn,.sn,(.n 0),(.n 0)] (c:=f3 f) xh xE B B
 let⟨xP,r,xi,xF,j,xA,xq,yf⟩:=box M (.I 4 (f3 f))
 let⟨x5,xW⟩:=EL M (b:=4) [.sn,.sn,(.n 0),(.n 0)] (c:=f3 f) xi xF B B
 let⟨xQ,N,xj,xG,k,xB,xL,yg⟩:=box r (.I 4 (f3 g))
 let⟨x6,xX⟩:=EL r (b:=4) [.sn,.sn,(.n 0),(.n 0)] (c:=f3 g) xj xG B B
 let⟨xR,p,xk,xH,u,xC,yc,yh⟩:=box N (.I 4 (f3 g))
 let⟨x7,xY⟩:=EL N (b:=4) [.sn,.sn,(.n 0),(.n 0)] (c:=f3 g) xk xH B B
 have xe:=(xa.M xo).t E;have xp:=xa.lv xo;have I:=(j.M xp).t xe;have xK:=j.lv xp;have xS:M.AL e 0 2=A (AQ.c a):=BB xe;have xT:r.AL e 0 2=A (AQ.c a):=BB I;have xU:N.AL e 0 2=A (AQ.c a):=BB ((k.M xK).t I);have xN:Aj (Bv (.ld 2) [.p e 0] r (.S (AQ.c a))) L Aa=L:=by rw[Mo I];rfl
 have xZ:p.AL xO 0 4=A (f3 f):=BB ((u.M (k.lv (j.lv U))).t ((k.M (j.lv U)).t ((j.M U).t xz)));have x0:p.AL xP 0 4=A (f3 f):=BB ((u.M (k.lv xq)).t ((k.M xq).t xA));have X:p.AL xQ 0 4=A (f3 g):=BB ((u.M xL).t xB);have Y:p.AL xR 0 4=A (f3 g):=BB xC;have x1:∀q b:F,CO 0 [.AB [q,b]]=A q:=λ_ _=>B;have x2:∀q b:F,CO 1 [.AB [q,b]]=A b:=λ_ _=>B;have xy:∀z:K,A6 .eql [.n z,.n z]=A (.b L):=λz=>by rw[Ch,A0 B]
 refine Bu B B B ⟨p,?_⟩;rw[kq6.1];simp only[↓x3,↓Q,↓QT,↓H xs,↓T.H B,↓xn.H B,QB];rw[kq6.2];simp only[↓Q,↓QT,↓xt.H B,↓H xs,↓Gn xM,↓xu.H B,↓v.H B,↓H (x1 _ _),↓H (x2 _ _),↓x4,xh,↓H xV,↓H xS,↓w.H B,↓x5,xi,↓H xW,↓H xT,↓Gn xN,↓x.H B,↓x6,xj,↓H xX,↓H xU,↓y.H B,↓x7,xk,↓H xY,↓H xZ,↓H x0,↓xc.H B,↓H (xy _),↓H X,↓H Y,↓xd.H B,↓J.H B,QB]
def AjR{b:C Ab}{c:AQ}(a:K)(d:IZ b)(e:c.Cl):R1 P9 6 [Z Ab.c b,.S (AQ.c c),.n a] (.b L):=
 k1 (u:=L3 P9) (w:=KX) (v:=λ_ _=>O) (by kernel_rfl) AaI (vp _) (by decide) ((AjI g6 a d e).at B G.Aq) (W6 (b:=.b L) B _)
end Go.Proofs.YtbmnfifnenajjaaGreat
namespace Go.Proofs.YtbmnfifnenajjaaGreat
def Fu{a b:Ah}(c:a=L)(d:b=L):(a&&b)=L:=by rw[c,d];rfl
end Go.Proofs.YtbmnfifnenajjaaGreat
namespace Go.Proofs.YtbmnfifnenajjaaGreat
open Go.Fg Go.ChangeShapes Go.WideShapes Go.ChangeAt Go.RowKit
def Cs:ownKnob Tryz.prog.godebug=O:=by kernel_rfl
def tc:laidOutB Tryz.prog=L:=by kernel_rfl
def wE:mapsRowed Tryz.prog=L:=by kernel_rfl
def oZ:ct Tryz.prog=L:=by kernel_rfl
def Ah5{a:Type}{b c d:DataW a}(e:Rows.uptoSmall a [b,c,d]=L):Kb a b/\Kb a c/\Kb a d:=by have e:Rows.uptoBulkAll [b,c,d]<=1048576:=Afg e;simp only[Rows.uptoBulkAll]at e;exact⟨by show Rows.uptoBulk b<=1048576;omega,by show Rows.uptoBulk c<=1048576;omega,by show Rows.uptoBulk d<=1048576;omega⟩
end Go.Proofs.YtbmnfifnenajjaaGreat
namespace Go.Proofs.YtbmnfifnenajjaaGreat
def sp6:ChangeSpec:=(Rows.OpenSpec.upto Rows.closureFactsSpec).bare
def Ai5:Rows.closureFactsUptoRow.wf (OpenSpec.ofChange sp6)=L:=by kernel_rfl
def Aju:namedTie Tryz.prog Rows.closureFactsUptoRow.named sp6.vars=L:=by kernel_rfl
def Ajy:(Tryz.prog.stopKnobs==[])=L:=by kernel_rfl
def Ai9:(Rows.closureFactsUptoRow.named==Tryz.prog.varsNamed 6)=L:=by kernel_rfl
def Ajd:(Rows.closureFactsUptoRow.loops==(Tryz.f6.params.l++sp6.plain.varTypes Tryz.prog).any (Tryz.prog.loopsFrom ·))=L:=by kernel_rfl
def Aji:(Rows.closureFactsUptoRow.ifacesOut==Tryz.f6.resultTypes.l.any (Tryz.prog.ifacesRec ·))=L:=by kernel_rfl
def Ajm:Tryz.prog.stopsHeard=L:=by kernel_rfl
def Ai6:laidOutB Tryz.prog=L:=by kernel_rfl
def Ajv:(Rows.closureFactsUptoRow.stops==[])=L:=by kernel_rfl
def Ajz:(Rows.closureFactsUptoRow.inPlace==Tryz.prog.inPlace 6)=L:=by kernel_rfl
def Aja:(Rows.closureFactsUptoRow.maps==(Tryz.f6.params.l++sp6.plain.varTypes Tryz.prog).any (Tryz.prog.mapsRec ·))=L:=by kernel_rfl
def Aje:(Rows.closureFactsUptoRow.wideKeys==(Tryz.f6.params.l++sp6.plain.varTypes Tryz.prog++Tryz.f6.resultTypes.l).any (Tryz.prog.wideKeysFrom ·))=L:=by kernel_rfl
def Ajj:(Rows.closureFactsUptoRow.loopsOut==Tryz.f6.resultTypes.l.any (Tryz.prog.loopsFrom ·))=L:=by kernel_rfl
def Ajn:Tryz.prog.mayEnter=L:=by kernel_rfl
def Ajq:(Rows.closureFactsUptoRow.pinned==Rows.closureFactsUptoRow.pinnedBy)=L:=by kernel_rfl
def Ajh:mapsRowed Tryz.prog=L:=by kernel_rfl
def Ajw:(Tryz.prog.stops==[])=L:=by kernel_rfl
def Ai7:(Rows.closureFactsUptoRow.unfollowed==Tryz.prog.unfollowed 6)=L:=by kernel_rfl
def Ajb:(Rows.closureFactsUptoRow.ifaces==(Tryz.f6.params.l++sp6.plain.varTypes Tryz.prog).any (Tryz.prog.ifacesRec ·))=L:=by kernel_rfl
def Ajf:sp6.vars.all (Tryz.prog.varReadable ·)=L:=by kernel_rfl
def Ajk:(Rows.closureFactsUptoRow.plainKeys==Tryz.prog.plainKeys)=L:=by kernel_rfl
def Ajo:(Rows.closureFactsUptoRow.lifted==Tryz.prog.liftsFinal)=L:=by kernel_rfl
def Ajs:(Rows.closureFactsUptoRow.veiled==(Tryz.f6.params.l++sp6.plain.varTypes Tryz.prog++Tryz.f6.resultTypes.l).any (Tryz.prog.veiledRec ·))=L:=by kernel_rfl
def Ajr:Tryz.f6.params.all (Tryz.prog.readableRec ·)=L:=by kernel_rfl
def Ajx:(Rows.closureFactsUptoRow.knobs==[])=L:=by kernel_rfl
def Ai8:(Rows.closureFactsUptoRow.recurses==Tryz.prog.recurses 6)=L:=by kernel_rfl
def Ajc:(Rows.closureFactsUptoRow.mapsOut==Tryz.prog.mapsAmong Tryz.f6.resultTypes.l)=L:=by kernel_rfl
def Ajg:Tryz.f6.resultTypes.all (λa=>Tryz.prog.readableRec a&&Ao (a<Tryz.prog.types.z))=L:=by kernel_rfl
def Ajl:Rows.closureFactsUptoRow.shortTexts.isNone=L:=by kernel_rfl
def Ajp:(Tryz.prog.make==A Rows.closureFactsUptoRow.make)=L:=by kernel_rfl
def Ajt:Rows.closureFactsUptoRow.veiledFits Tryz.prog Tryz.f6.params.l (Tryz.f6.params.l++sp6.plain.varTypes Tryz.prog++Tryz.f6.resultTypes.l)=L:=by kernel_rfl
def AjA:joinedFacts Tryz.prog 6 Tryz.f6 sp6 Rows.closureFactsUptoRow=L:=by unfold joinedFacts;exact Fu (Fu (Fu (Fu (Fu (Fu (Fu (Fu (Fu (Fu (Fu (Fu (Fu (Fu (Fu (Fu (Fu (Fu (Fu (Fu (Fu (Fu (Fu (Fu (Fu (Fu (Fu (Fu (Fu (Fu (Fu Ai5 Ai6) Ajh) Ajr) Aju) Ajv) Ajw) Ajx) Ajy) Ajz) Ai7) Ai8) Ai9) Aja) Ajb) Ajc) Ajd) Aje) Ajf) Ajg) Aji) Ajj) Ajk) Ajl) Ajm) Ajn) Ajo) Ajp) (by kernel_rfl)) Ajq) Ajs) Ajt
def AjL:Tryz.prog.funcNamed Rows.closureFactsUptoRow.func=A 6:=by kernel_rfl
set_option maxRecDepth 100000 in
theorem AjS:Func.isWrapper Tryz.prog Tryz.f6 Rows.closureFactsUptoRow.wrapper Rows.closureFactsUptoRow.mainSum:=by unfold Func.isWrapper;first|(rw[Af (by decide+kernel)];kernel_rfl)|(rw[Ad (by decide+kernel)];exact⟨B,B⟩)
def AjH:Tryz.f6.isInstance Tryz.prog Rows.closureFactsUptoRow.origin Rows.closureFactsUptoRow.targs:=Go.Fg.Afg (by kernel_rfl)
