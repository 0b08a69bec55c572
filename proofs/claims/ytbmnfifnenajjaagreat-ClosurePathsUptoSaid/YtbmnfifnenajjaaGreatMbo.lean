/- Part of the proof. -/
import Derived.Test.YtbmnfifnenajjaaGreatMbn
set_option linter.all false
noncomputable section
open Option renaming some->A,getD->Option.g,bind->Option.b
open _root_ renaming rfl->B,List->C,Nat->D,Int->K,if_neg->Ad,if_pos->Af,Bool->Ah,cond->Aj,decide_eq_true->A0,decide_eq_false->A2,absurd->BF
open Bool renaming true->L,false->Aa
open Decidable renaming decide->Ao
open List renaming replicate->BG,length->List.l,map->List.m,take->List.t,drop->List.d,flatMap->List.f
open Nat renaming le_refl->CK
open Go.IntKind renaming i64->Go.IntKind.n
open Array renaming toList->Array.l
open Eq renaming trans->Eq.t,symm->Eq.s
open Or renaming inl->Or.i,inr->Or.j
open Int renaming toNat->Int.n
namespace Go.Proofs.YtbmnfifnenajjaaGreat
open Go.Fg
section
variable{t:EC} {h:G} {e:Ai} {v:C (C (C K))} {y:K} {u:T->Prop}
def OL(a:Ah):K:=if a=L then 6 else 0
theorem uF(S:BD t.l)(p:Bj t h e v y u){a n:D}(xa:a<e.Ac.l){I:D}{x:Ab}(b:Dw t.l I x (e.at a)){c:Au}(d:x.Av[n]? =A c):∃G,jj W9 58 5 [.n n,.n a,.p t.x 0] h=jj W9 58 4 [.n n,.n a,.p t.x 0] G/\Bj t G e v (if HB (e.at a) c=L then 6 else y) u/\Bo u h G:=by
 have r:=(S.Bc I x b.hb).Ax n c d;have xo:=r.some S;have xt:∀J,u J->Lv h J:=λJ xl=>p.C4 xl;let⟨xn,xe,T,xs⟩:=p
 let⟨xc,g,xz,xb,R,xp⟩:=Xe T xa ⟨⟨I,b.ha,b.hb⟩,d⟩ (b.CQ r.A3) (by omega)
 have s:=T.ext R;have q:=p.ext R;have xB:=s.M;let⟨j,xx,xg,_⟩:=s.B0 xa
 rw[b.ha]at xg;unfold HB;by_cases E:c.op=6
 .have X:=r.M3 (.j (.i E));let⟨xh,xj⟩:=Bb (b:=c.A3) (a:=0) (by omega)
  let⟨xi,xk⟩:=Bb (b:=c.A3) (a:=1) (by omega)
  rw[A0 E,Aep,xj,xk,Aeg,Aeg];generalize xu:Bs (e.at a) xh=M;generalize xv:Bs (e.at a) xi=Q;have Y:(c.A3.m (Bs (e.at a)))[0]? =A M:=by grind
  have Z:(c.A3.m (Bs (e.at a)))[1]? =A Q:=by grind
  let⟨k,U⟩:=CD (f:=N.c) (w:=2) (λ_=>B) xb Y
  let⟨m,V⟩:=CD (f:=N.c) (w:=2) (λ_=>B) xb Z
  have xw:AR 2 [xc,.n 0]=A (.p k (0*2)):=U.ia;have xq:Bl 0 [.p k (0*2)]=A (.p k (0*2+0)):=by rw[EG]
  have xC:AM g [.p k (0*2+0)]=A (.i .u8 M.Ak):=by exact(U.Ap (f:=N.c) (w:=2) (λ_=>B) Y (b:=0) (by omega))
  have xy:AR 2 [xc,.n 1]=A (.p m (1*2)):=V.ia;have xr:Bl 0 [.p m (1*2)]=A (.p m (1*2+0)):=by rw[EG]
  have xD:AM g [.p m (1*2+0)]=A (.i .u8 Q.Ak):=by exact(V.Ap (f:=N.c) (w:=2) (λ_=>B) Z (b:=0) (by omega))
  by_cases z:M.Ak=0;.rw[A0 z,Ad (by grind)];refine⟨g,?_,q,P⟩;rw[GI.2.2.2.2.2.2.2.2.2.2.2.1];simp only[QY,H (Eg t.x),H (Ha j a 0),H (CB b.hb),H (Fa d),QB, *]
  .by_cases W:Q.Ak=0;.rw[A2 z,A0 W,Ad (by grind)];refine⟨g,?_,q,P⟩;rw[GI.2.2.2.2.2.2.2.2.2.2.2.1];simp only[QY,H (Eg t.x),H (Ha j a 0),H (CB b.hb),H (Fa d),QB, *]
   .rw[A2 z,A2 W,Af (by rfl)];let⟨X,xE,xf,xd⟩:=s.RG 6
    let⟨xm,xA⟩:=xd.Fp (by grind) (b:=u) P
    refine⟨X,?_,⟨xn,xe,xf,xm⟩,P⟩;rw[GI.2.2.2.2.2.2.2.2.2.2.2.1];simp only[QY,H (Eg t.x),H (Ha j a 0),H (CB b.hb),H (Fa d),QB, *]
 .rw[A2 E,AeO,Ad (by grind)];refine⟨g,?_,q,P⟩;rw[GI.2.2.2.2.2.2.2.2.2.2.2.1];simp only[QY,H (Eg t.x),H (Ha j a 0),H (CB b.hb),H (Fa d),QB, *]
theorem kc{f:Type}{b:C _}{a:D}{d:f}(h:b[a]? =A d)(c:f->Ah):(b.t (a+1)).any c=((b.t a).any c||c d):=by rw[<-FL h,List.any_append];simp
theorem uK(E:BD t.l)(p:Bj t h e v 0 u){a:D}(x:a<e.Ac.l){N:D}{b:Ab}(o:Dw t.l N b (e.at a)):∃c,jj W9 58 3 [.n 0,.n a,.p t.x 0] h=jj W9 58 2 [.n a,.p t.x 0] c/\Bj t c e v (OL (b.Av.any (HB (e.at a)))) u/\Bo u h c:=by
 have xe:=(E.Bc N b o.hb).Av;have Q:∀{h:G}{y:K}(_:Bj t h e v y u),∃d l m,h.Ap t.x 1=A m/\AR 7 [m,.n a]=A (.p d (a*7))/\AM h [.p d (a*7+6)]=A l/\DX [l]=A (.n b.Av.l):=λ{h y} p=>by
  let⟨xf,xa,r,xd⟩:=p
  let⟨d,k,_,_,_,_,_,_,j⟩:=r.B0 x
  have g:=Cp (r.Db (.AS a) x);rw[o.AS]at g;exact⟨d,_,_,r.cv,k,j,g⟩
 let⟨⟨⟩,c,w,q,U⟩:=Dh (h:=b.Av.l) (f:=λf _ h=>jj W9 58 3 [.n f,.n a,.p t.x 0] h) (g:=λf _ c=>Bj t c e v (OL ((b.Av.t f).any (HB (e.at a)))) u/\Bo u h c)
  (λf _ xc J T=>by
   let⟨z,Y⟩:=T
   let⟨R,M⟩:=Bb J
   let⟨d,l,m,S,k,j,g⟩:=Q z
   let⟨V,W,X,Z⟩:=uF E z x o M
   refine⟨(),V,?_,?_,P⟩;.show jj W9 58 3 _ _=jj W9 58 3 _ _;rw[GI.2.2.2.2.2.2.2.2.2.2.1];simp only[QY,S,k,j,g,(Cm J)];rw[W,GI.2.2.2.2.2.2.2.2.2.2.2.2];simp only[↓H (Bh (a:=f) (by omega))]
   .rw[kc M];have:OL ((b.Av.t f).any (HB (e.at a))||HB (e.at a) R)=if HB (e.at a) R=L then 6 else OL ((b.Av.t f).any (HB (e.at a))):=by unfold OL;grind
    grind)
  (b:=()) (a:=h) ⟨by rw[Af1];exact p,P⟩
 have w:jj W9 58 3 [.n 0,.n a,.p t.x 0] h=jj W9 58 3 [.n b.Av.l,.n a,.p t.x 0] c:=w;rw[Gz]at q;let⟨d,l,m,S,k,j,g⟩:=Q q
 have xb:=CA b.Av.l;refine⟨c,?_,q,U⟩;rw[w,GI.2.2.2.2.2.2.2.2.2.2.1];simp only[QY,H (Eg t.x),H (Ha d a 6), *]
theorem Zq(b:Bj t h e v y u){a:D}(f:e.Ac.l<=a\/y≠0):jj W9 58 1 [.p t.x 0,.n a] h=A (.AB [],h):=by
 let⟨j,_,g,i⟩:=b.Hw
 rw[GI.2.2.2.2.2.2.2.1];by_cases c:a<(e.Ac.l:K)
 .have d:¬y=0:=by grind
  simp only[QY,H _,QB, *]
 .simp only[QY,H _,QB, *]
def TP(b:C Ab)(a:AK):Ah:=(F4 b a).Av.any (HB a)
theorem h8(o:BD t.l)(f:CF t.l e):∀(g a:D){h:G},a+g=e.Ac.l->(e.Ac.t a).any (TP t.l)=Aa->Bj t h e v 0 u->∃k,jj W9 58 1 [.p t.x 0,.n a] h=A (.AB [],k)/\Bj t k e v (PC t.l e) u/\Bo u h k
 |0,a,h,x,m,b=>by
  have:a=e.Ac.l:=by omega
  subst this;rw[Gz]at m;have j:PC t.l e=0:=by unfold PC;rw[Ad];intro q;have q:e.Ac.any (TP t.l)=L:=q;grind
  rw[j];exact⟨h,Zq b Om,b,P⟩
 |g+1,a,h,x,m,b=>by
  have l:a<e.Ac.l:=by omega
  have V:=f.A7;let⟨X,d,n⟩:=f.BC a _ (Di l)
  let⟨p,z,c,r⟩:=uK o b l n
  let⟨Y,F,E,I⟩:=b.Hw
  have s:a<(e.Ac.l:K):=by omega
  have N:jj W9 58 1 [.p t.x 0,.n (a:K)] h=jj W9 58 1 [.p t.x 0,.n ((a+1:D):K)] p:=by rw[GI.2.2.2.2.2.2.2.1];simp only[QY,F,E,s,I,QB,GI.2.2.2.2.2.2.2.2.1];rw[z,GI.2.2.2.2.2.2.2.2.2.1];simp only[↓H (Bh (a:=a) (by omega))]
  have w:TP t.l (e.at a)=d.Av.any (HB (e.at a)):=by unfold TP;rw[n.Ca]
  have Q:=kc (Di l) (TP t.l);rw[m,Ae6,w]at Q;by_cases T:d.Av.any (HB (e.at a))=L
  .have j:PC t.l e=6:=by
    unfold PC
    rw[Af]
    show e.Ac.any (TP t.l)=L
    grind
   have M:OL (d.Av.any (HB (e.at a)))=6:=by unfold OL;grind
   rw[M]at c
   rw[j]
   exact⟨p,N.t (Zq c Om),c,r⟩
  .have J:OL (d.Av.any (HB (e.at a)))=0:=by unfold OL;grind
   rw[J]at c;let⟨U,W,R,S⟩:=h8 o f g (a+1) (by omega) (by grind) c
   grind
theorem gb(g:BD t.l){m q:D}(E:m=400){b:Ai×K}(k:Ib t.l m q e=A b)(o:BY t.l e)(s:Bj t h e v 0 u)(w:CJ e v):(b.2=0->∃a d,W9 (pos 58) [.p t.x 0] h=A (.AB [],a)/\Bj t a b.1 d 0 u/\CJ b.1 d/\Bo u h a)/\(b.2≠0->∃a x d,W9 (pos 58) [.p t.x 0] h=A (.AB [],a)/\Bj t a x d b.2 u/\Bo u h a):=by
 unfold Ib at k
 cases j:IF t.l m q e with
 |none=>grind
 |some r=>
  rw[j]at k;cases k
  let⟨G,H⟩:=gA g E j o s w
  by_cases i:r.2=0
  .rw[Ad Om];let⟨f,p,l,c,J,n⟩:=G i
   let⟨P,F,I,M⟩:=h8 g (zas g o j).W.sh r.1.Ac.l 0 (by omega) (by grind) c
   have Q:=AZ B B (by rw[GI.1,l,GI.2.1];exact F);grind
  .rw[Af i];refine⟨Om,λ_=> ?_⟩;let⟨f,z,p,l,c,n⟩:=H i
   have N:jj W9 58 1 [.p t.x 0,.n 0] f=A (.AB [],f):=Zq c Om;exact⟨f,z,p,AZ B B (by rw[GI.1,l,GI.2.1];grind),c,n⟩
end
theorem b8{h t:G}{a:T}(e:DR (h.M a)=DR (t.M a))(b c:D):h.AL a b c=t.AL a b c/\h.Ap a b=t.Ap a b:=by
 constructor;.unfold G.AL G.I;rw[e]
 .unfold G.Ap G.I;rw[e]
theorem Ro.JE{h:G}{q:F}{a:C N}(I:Ro h q N.c 2 a){i:D}{m:N}(j:a[i]? =A m):∃d,AR 2 [q,.n i]=A (.p d (i*2))/\h.AL d (i*2) 2=A (N.c m)/\AM h [.p d (i*2+0)]=A (.i .u8 m.Ak):=by
 rcases I with⟨_,rfl⟩|⟨d,r,rfl,x,M⟩;.grind
 .have J:Aw (h.set d (.I (a.l*2) (a.f N.c))) (.Z d 0 a.l (a.l+1) 2) N.c 2 a:=.j ⟨d,a.l+1,B,.j B,by rw[AN,Af B],by grind⟩;let⟨g,l⟩:=CD (f:=N.c) (w:=2) (λ_=>B) J j
  have E:=NU _ l.nb;subst E;have p:DR (h.M g)=DR ((h.set g (.I (a.l*2) (a.f N.c))).M g):=by rw[AN,Af B,x];rfl
  have H:=(AdN.1 j).1;refine⟨g,?_,by rw[(b8 p _ _).1];exact l.AL (f:=N.c) (λ_=>B) j,?_⟩;.have:=e4 (b:=2) (d:=g) (e:=0) (c:=a.l) (f:=r) (g:=.n) H;rw[Ad2]at this;grind
  .show h.Ap g (i*2+0)=_;rw[(b8 p _ 0).2];have:=l.Ap (f:=N.c) (w:=2) (λ_=>B) j (b:=0) (by omega);exact this
section
variable{v:EC} {h t:G} {e:Ai} {s:C (C (C K))} {y:K} {u:T->Prop}
theorem ki{b:C Bz}(xk:b.l<1000000):∀(k c:D){h:G}{e:Ai},c+k=b.l->Bj v h e s y u->(∀a∈b,IY e a)->e.Ac.l<=400->∃t,jj W9 114 1 [.p v.x 0,Z Bz.c b,.n c] h=A (.AB [],t)/\Bj v t ((b.d c).foldl HY e) s y u/\Bo u h t
 |0,c,h,e,xh,r,q,xi=>by
  have:c=b.l:=by omega
  subst this;have Y:=CA b.l;refine⟨h,?_,by grind,λ_ _=>B⟩;rw[Nk.2.2.2.1];simp only[↓Q,↓QT,AdM,↓H (DF Bz.c b),Y]
 |k+1,c,h,e,xh,r,q,xi=>by
  have n:c<b.l:=by omega
  let⟨a,o⟩:=Bb n
  let⟨d,f,E,m,x,xC,xF,xG,xq,F,xr⟩:=q a (AdU o)
  have l:d<e.Ac.l:=by grind
  have xa:=DK xq;subst xa;have M:=r;let⟨xv,j,g,xg⟩:=M
  have xu:=g.cv;let⟨xB,xl,_,_,_,_,_,X,_⟩:=g.B0 l
  let⟨V,xm,xw⟩:=g.Ga l F
  have xx:AM h [.p V (f*1)]=A (j (.AD d f)):=xw;let⟨U,xD,p,_,_,xy,T,R⟩:=g.PP l F xr a.v
  have p:AR 2 [j (.AD d f),.n 0]=A (.p U (0*2)):=p;let⟨xs,xt⟩:=R.Fp (by grind) xg
  have xn:AR 3 [Z Bz.c b,.n c]=A (.pi (Bz.c a)):=EZ o B;have xd:Bl 0 [.pi (Bz.c a)]=A (.pi ((Bz.c a).d 0)):=B;have xo:AM h [.pi ((Bz.c a).d 0)]=A (.n (1000*d+f:D)):=by rw[<-E];rfl
  have xe:Bl 1 [.pi (Bz.c a)]=A (.pi ((Bz.c a).d 1)):=B;have xp:A9 2 h [.pi ((Bz.c a).d 1)]=A (.S (N.c a.v)):=B;have xb:=i1 x m;have xc:=jm x m;have w:HY e a=e.AD d f 0 a.v:=cN E m;have W:=Cm n;let⟨xf,xE,P,S⟩:=ki xk k (c+1) (by omega) ⟨xv,j,T,xs⟩ (λxz xj=>by rw[<-w];exact(q xz xj).F1 a) (by show(e.AJ d _).Ac.l<=400;rw[Ej];grind)
  let⟨xH,J,xA⟩:=Ds n
  rw[o]at J;cases J;rw[xA,AeY,w];refine⟨xf,?_,P,λI z=>(S I z).t (xt I z)⟩;rw[Nk.2.2.2.1];simp only[QY,DF Bz.c b,W,Nk.2.2.2.2.1,xu,xn,xd,xo,xb,xl,X,xc,xm,xx,xe,xp,p,xy,Nk.2.2.2.2.2,Bh (a:=c) (by omega)];grind
end
theorem h7{e:Ai}{a b c:N}:Eh e ⟨2,a,b,c,0⟩=if(C9 e.Am a b c).2.2≠0 then(e,AO,(C9 e.Am a b c).2.2)else((C9 e.Am a b c).2.1.foldl HY ⟨e.Ac,(C9 e.Am a b c).1,e.round,e.AA⟩,NM (C9 e.Am a b c).2.2,0):=rfl
theorem Aba{a:C AE}{b c d:N}(h:b.Ak=5\/c.Ak=5):C9 a b c d=(a,[],0):=by
 unfold C9;rw[Af];unfold G0;rcases h with h|h;.grind
 .grind
theorem WT(a b c:F):CO 0 [.AB [a,b,c]]=A a:=rfl
theorem WV(b a c:F):CO 1 [.AB [b,a,c]]=A a:=rfl
theorem WW(b c a:F):CO 2 [.AB [b,c,a]]=A a:=rfl
section
variable{t:EC} {h:G} {e:Ai} {v:C (C (C K))} {u:T->Prop}
theorem BZ.jO{d:T->Bm}{g:T}{j:C _}{c:K}{i:Bm->F}(l:BZ d h j g e v c i)(a:C AE):∃b,AX 1 h [.p g 2,.S (Bp a)]=A (AC,b)/\BZ d b j g ⟨e.Ac,a,e.round,e.AA⟩ v c i/\EM d h b .Ex:=by
 let⟨b,o,n,k⟩:=l.Wt 2 (Z AE.c a) (by omega) B B (g:=a) (i:=e.round) (f:=e.AA) (d:=c) B
 exact⟨b,by rw[show(F.S (Bp a))=.S [Z AE.c a]from B,cw B];grind,n,k⟩
theorem q6(m:Bj t h e v 0 u){j:F}{k:C N}(r:Ro h j N.c 2 k){a b c:N}(xi:k[0]? =A a)(xj:k[1]? =A b)(xk:k[2]? =A c)(V:Ft e.Am)(xu:B5 e.Am.l a)(xo:e.Ac.l<=400)(xw:(C9 e.Am a b c).2.1.l<1000000)(xx:∀w∈(C9 e.Am a b c).2.1,IY e w):((Eh e ⟨2,a,b,c,0⟩).2.2=0->∃g,W9 (pos 114) [.p t.x 0,j] h=A (.AB [],g)/\Bj t g (Eh e ⟨2,a,b,c,0⟩).1 v 0 u/\Bo u h g)/\((Eh e ⟨2,a,b,c,0⟩).2.2≠0->∃g,W9 (pos 114) [.p t.x 0,j] h=A (.AB [],g)/\Bj t g e v (Eh e ⟨2,a,b,c,0⟩).2.2 u/\Bo u h g):=by
 let⟨xa,S,xF,xz⟩:=r.JE xi
 let⟨xb,T,xG,xA⟩:=r.JE xj
 let⟨xc,U,xH,xB⟩:=r.JE xk
 have S:AR 2 [j,.n 0]=A (.p xa (0*2)):=S;have T:AR 2 [j,.n 1]=A (.p xb (1*2)):=T;have U:AR 2 [j,.n 2]=A (.p xc (2*2)):=U;rw[h7];have R:∀d,u d->Lv h d:=λd f=>m.C4 f;by_cases xg:a.Ak=5\/b.Ak=5
 .rw[Aba xg];refine⟨λ_=>⟨h,AZ B B ?_,m,λ_ _=>B⟩,λi=>BF B i⟩;rw[Nk.1];by_cases xe:a.Ak=5;.simp only[QY,QB, *]
  .have xf:b.Ak=5:=by grind
   simp only[QY,QB, *]
 .have xe:¬a.Ak=5:=by grind
  have xf:¬b.Ak=5:=by grind
  have W:=m;let⟨s,E,G,xy⟩:=W
  have xK:h.AL t.x 2 1=A (Bp e.Am):=by rw[D1 G.M,Af (by omega),Ad (by omega)];rfl
  have J:=po e.Am V.ok a b c (VH xu);let⟨i,M,xp,xn,l,xl,xD,xE⟩:=box h (.I 1 (Bp (C9 e.Am a b c).1))
  let⟨xL,xJ⟩:=EL h (b:=1) [.sn] (c:=Bp (C9 e.Am a b c).1) xp xn B B
  have xI:M.AL i 0 1=A (Bp (C9 e.Am a b c).1):=BB xl;have I:=G.ext l;have Q:∀d,u d->Lv M d/\s d=.C5:=by grind
  by_cases q:(C9 e.Am a b c).2.2=0
  .rw[Ad (λxt=>xt q)];refine⟨λ_=> ?_,λi=>BF B i⟩;let⟨P,xv,p,o⟩:=I.jO (C9 e.Am a b c).1
   let⟨x,y⟩:=o.Fp (by grind) Q
   let⟨xm,xC,z,X⟩:=ki xw (C9 e.Am a b c).2.1.l 0 (by omega) ⟨s,E,p,x⟩ (λw xq=>by
    let⟨xr,xs,Y,Z,xd,xh⟩:=xx w xq
    exact⟨xr,xs,Y,Z,xd,xh.of B⟩) xo
   rw[Ad7]at z;refine⟨xm,AZ B B ?_,z,λd f=>(X d f).t ((y d f).t (l.M (R d f)))⟩;rw[Nk.1];simp only[QY,QB,Nk.2.1,H (Qx t.x),J.H B,H (WT _ _ _),H (WV _ _ _),H (WW _ _ _),Nk.2.2.1, *];grind
  .rw[Af q];refine⟨λi=>BF i q,λ_=> ?_⟩;let⟨P,xv,p,o⟩:=I.RG (C9 e.Am a b c).2.2
   let⟨x,y⟩:=o.Fp (by grind) Q
   refine⟨P,AZ B B ?_,⟨s,E,p,x⟩,λd f=>(y d f).t (l.M (R d f))⟩;rw[Nk.1];simp only[QY,QB,Nk.2.1,H (Qx t.x),J.H B,H (WT _ _ _),H (WV _ _ _),H (WW _ _ _), *]
end
theorem hF{h:G}{b:T}{a:D}{c:F}(d:AM h [.p b a]=A c):Bv .Cq [.p b a] h c=L:=by show KI (AM h [.p b a]) c=L;rw[d];exact L0 _
open Classical in
def Mq(b:T->Bm)(h:G):T->Bm:=λa=>if Lv h a then b a else .C5
theorem PD{b:T->Bm}{h:G}{a:T}(c:Lv h a):Mq b h a=b a:=Af c
theorem Vk{c:T->Bm}{h:G}{a:T}(b:¬Lv h a):Mq c h a=.C5:=Ad b
theorem BZ.Vj{f:T->Bm}{h c:G}{d:C _}{g:T}{e:Ai}{v:C (C (C K))}{b:K}{a:Bm->F}(i:BZ f h d g e v b a)(k:AH h c):BZ (Mq f h) c d g e v b a:=i.TG λl j=>⟨P,P,PD j⟩
structure JK(t:EC)(k:Ai)(v:C (C (C K)))(u:T->Prop)(l m:D)(n:Au)(i:C N)(h:G)(c d b:T)(f:F)(g:T->Bm)(j:Bm->F):Prop where
 X:BZ g h t.l t.x k v 0 j
 hF:∀a,((u a\/a=c)\/(a=d\/a=b))\/¬As f a->Lv h a/\g a=.C5
 g4:h.M c=A (.I 2 (A5.c ⟨(l:K),(m:K)⟩))
 g8:h.M d=A (.I 4 (Au.c n))
 o4:h.M b=A (.I 2 (N.c (E5 i)))
 o:Ro h f N.c 2 i
 ap:∀a,((u a\/a=c)\/(a=d\/a=b))->As f a
section
variable{t:EC} {h:G} {e:Ai} {v:C (C (C K))} {u:T->Prop}
theorem Aal(yf:BD t.l)(yF:BY t.l e)(yc:Bj t h e v 0 u){d k:D}(xg:d<e.Ac.l){xl:D}{W:Ab}{g:Au}(I:Dw t.l xl W (e.at d))(xe:W.Av[k]? =A g)(V:K)(xO:e.AA≠6000):
  ∃xL m r E p ze yg,xx W9 57 [.p t.x 0,.S (A5.c ⟨d,k⟩),.n V] h=jj W9 57 6 [.b (Ao (g.op=1\/g.op=2\/g.op=3)),.b (Ao ((E5 (g.A3.m (Bs (e.at d)))).Ak=5)),.p E 0,.i .u8 g.op,.p t.x 0,.p r 0,.p m 0,yg (.AD d k),p] xL/\
   JK t (DO e ⟨d,k⟩ V) v u d k g (g.A3.m (Bs (e.at d))) xL m r E p ze yg/\Bo u h xL:=by
 have ye:=(yf.Bc xl W I.hb).Ax k g xe
 have zi:=ye.some yf
 have zv:=(AdN.1 xe).1
 let⟨zu,xo⟩:=yF.W.AA
 let⟨m,xM,y2,yY,xu,yO,zz,zC⟩:=box h (.I 2 (A5.c ⟨d,k⟩))
 have ya:∀(yd:F->G->R),bl (.p h.next 0) (h.V (.I (Bq (F.I (.S (A5.c ⟨d,k⟩)))) (F.I (.S (A5.c ⟨d,k⟩))))) yd=yd (.p m 0) xM:=Dy h (.I 2 (A5.c ⟨d,k⟩)) y2 yY
 let⟨zf,xk,yh,yQ⟩:=((yc.V xu).sub P:Bj t xM e v 0 (λc=>u c\/c=m))
 have x8:xM.Ap t.x 4=A (.n e.AA):=Ay yh.M 4
 have xH:=F2 (a:=e.AA) (b:=1) (by omega) (by omega)
 let⟨yp,x4,U,yD⟩:=yh.MZ (e.AA+1)
 let⟨ys,yB⟩:=yD.Fp (by grind) yQ
 have xI:=(yB m P).t yO
 have xy:yp.Ap m 0=A (.n d):=Ay xI 0
 have xz:yp.Ap m 1=A (.n k):=Ay xI 1
 let⟨s,xP,_⟩:=U.B0 xg
 let⟨p,xd,xS,zc,xi,yk⟩:=Xe U xg ⟨⟨xl,I.ha,I.hb⟩,xe⟩ (I.CQ ye.A3) (by omega)
 let⟨xs,J,xv,yR⟩:=((Bj.V (n:=t) (p:=λc=>u c\/c=m) ⟨zf,xk,U,ys⟩ xi).sub λc o=>by
  rcases o with o|o;.grind
  .exact .j ⟨λy7=>o (yk c y7),P⟩:Bj t xd ⟨e.Ac,e.Am,e.round,e.AA+1⟩ v 0 (λc=>(u c\/c=m)\/¬As p c))
 have xJ:=(xi.M P).t xI
 have xA:xd.Ap m 1=A (.n k):=Ay xJ 1
 have zd:xd.Ap t.x 1=A (xk .Ac):=(Ay ((xi.M U.lv).t U.M) 1)
 have xG:J .Ac=xk .Ac:=by have:=xv.cv;grind
 have xX:Aj (Bv .Cq [.p m 0] xd (.n d)) (Aj (Bv .Cq [.p t.x 1] xd (xk .Ac)) L Aa) Aa=L:=by rw[GL (Ay xJ 0:xd.Ap m 0=A (.n d)),GL zd];rfl
 let⟨yI,y4,zl,zm,zn,zo,zp,zq,xC⟩:=xv.B0 xg
 rw[xG]at y4
 have yS:s=yI:=by grind
 subst yS
 let⟨zt,yW⟩:=Bb (b:=(e.at d).AS) (a:=k) (by rw[I.AS];grind)
 let⟨zk,q,xR,_,x5,xa,yE⟩:=xv.cp (a:=d) xg yW V
 let⟨xT,yC⟩:=yE.Fp (by grind) yR
 have xa:BZ xs q t.l t.x (DO e ⟨d,k⟩ V) v 0 J:=xa
 have ym:=(yC m P).t xJ
 have xB:q.Ap m 1=A (.n k):=Ay ym 1
 have xE:(DO e ⟨d,k⟩ V).at d={e.at d with AS:=(e.at d).AS.set k V}:=HE xg
 have xp:d<(DO e ⟨d,k⟩ V).Ac.l:=by show d<(e.Ac.set _ _).l;grind
 have x1:q.Ap t.x 0=A (Z Ab.c t.l):=Ay xa.M 0
 let⟨yJ,y5,xb,xc,xf,yj,zr,xD,zs⟩:=xa.B0 xp
 rw[xG]at y5
 have yT:s=yJ:=by grind
 subst yT
 rw[xE]at xb
 have xb:AM q [.p s (d*7+0)]=A (.n xl):=by rw[xb];show A (F.n (e.at d).Bc)=_;rw[I.ha]
 let⟨zA,yr⟩:=Bb (b:=(e.at d).AG) (a:=k) (by rw[I.AG];grind)
 let⟨xm,xQ,zg⟩:=xa.Ga (b:=d) (a:=k) xp (by rw[xE];exact yr)
 have x2:AM q [.p xm (k*1)]=A (J (.AD d k)):=zg
 have xo:Bl 2 [.pi (Ab.c W)]=A (.pi ((Ab.c W).d 2)):=B
 have xV:AM q [.pi ((Ab.c W).d 2)]=A (Z Au.c W.Av):=B
 have xW:A9 4 q [.pi (Au.c g)]=A (.S (Au.c g)):=B
 let⟨r,x,xr,yZ,xj,yP,za,zb⟩:=box q (.I 4 (Au.c g))
 let⟨yb,x6⟩:=EL q (b:=4) [.i .u8 0,.s [],.n 0,.sn] (c:=Au.c g) xr yZ B B
 have xw:=xa.Vj xj
 have xN:∀c,((u c\/c=m)\/c=r)\/¬As p c->Lv x c/\Mq xs q c=.C5:=λc o=>by
  rcases o with(o|rfl)|o;.have:=xT c P;exact⟨P,by rw[PD P];grind⟩
  .exact⟨za,Vk zb⟩
  .have:=xT c P;exact⟨P,by rw[PD P];grind⟩
 have yn:=(xj.M P).t ym
 have zB:∀{c:T}{Y:D}{x7:F},AM q [.p c Y]=A x7->Lv q c->AM x [.p c Y]=A x7:=λ{c Y x7} y3 zw=>by show x.Ap c Y=_;rw[((b8 (by grind) Y 0).2:x.Ap c Y=q.Ap c Y)];exact y3
 let⟨yK,y6,_,_,_,_,_,yM,_⟩:=xw.B0 xp
 rw[xG]at y6
 have yU:s=yK:=by grind
 subst yU
 let⟨yL,zx,zh⟩:=xw.Ga (b:=d) (a:=k) xp (by rw[xE];exact yr)
 have yV:xm=yL:=by grind
 subst yV
 have xY:Aj (Bv .Cq [.p xm (k*1)] x (J (.AD d k))) (Aj (Bv .Cq [.p m 1] x (.n k)) (Aj (Bv .Cq [.p s (d*7+5)] x (J (.AG d))) L Aa) Aa) Aa=L:=by rw[hF (zh:AM x [.p xm (k*1)]=A (J (.AD d k))),GL (Ay yn 1:x.Ap m 1=A (.n k)),hF yM];rfl
 have yy:Aw x p N.c 2 (g.A3.m (Bs (e.at d))):=by exact(zc.Ar P:Aw q p N.c 2 (g.A3.m (Bs (e.at d)))).ext xj
 let⟨z,yN,y⟩:=BS.FV (t:=λc=>¬As p c) (BS.cons (Fs.Cs (a:=N.c) (g:=2) (λc g=>g) (λ_=>B) (λ_=>B) yy) (BS.nil 2 x)) (by omega)
 have xU:=qZ (g.A3.m (Bs (e.at d))) (by grind) x _ z yN
 have yz:Ro z p N.c 2 (g.A3.m (Bs (e.at d))):=yy.ro.Ar λc yw xn o yA yq=>⟨y.p.1 c yw xn yq,by rw[y.l];grind⟩
 let⟨E,X,xq,yX,M,yl,y8,yx⟩:=box z (.I 2 (N.c (E5 (g.A3.m (Bs (e.at d))))))
 let⟨x9,x3⟩:=EL z (b:=2) [.i .u8 0,.n 0] (c:=N.c (E5 (g.A3.m (Bs (e.at d))))) xq yX B B
 have yi:∀c,(u c\/c=m)->As p c:=λc o=>yk c P
 have zj:As p r:=by grind
 have yo:z.M r=A (.I 4 (Au.c g)):=(y.o r P).t yP
 have yv:Lv z r:=by rw[y.l];grind
 have y9:Lv z m:=by rw[y.l];grind
 have x0:X.Ap E 0=A (.i .u8 (E5 (g.A3.m (Bs (e.at d)))).Ak):=Ay yl 0
 have xZ:X.Ap r 0=A (.i .u8 g.op):=Ay ((M.M yv).t yo) 0
 have xF:=Ch .u8 (E5 (g.A3.m (Bs (e.at d)))).Ak 5
 have yG:As p E:=AdS λxh=>yx (yz.Cz xh)
 have yH:∀c,((u c\/c=m)\/(c=r\/c=E))->As p c:=λc o=>by
  rcases o with o|rfl|rfl;.grind
  .grind
  .exact yG
 refine⟨X,m,r,E,p,_,J,?_,⟨((xw.Ar λc o y0=>⟨y.o c (λyA=>y0 (xN c (.j yA)).2),by rw[y.l];grind⟩:BZ (Mq xs q) z t.l t.x (DO e ⟨d,k⟩ V) v 0 J).Vj M),(λc o=>by
  by_cases xn:c=E;.subst xn;exact⟨y8,Vk yx⟩
  .have y1:((u c\/c=m)\/c=r)\/¬As p c:=by grind
   have:=xN c y1;have yu:Lv z c:=by rw[y.l];grind
   exact⟨M.lv yu,by rw[PD yu];grind⟩:∀c,((u c\/c=m)\/(c=r\/c=E))\/¬As p c->Lv X c/\Mq (Mq xs q) z c=.C5),(M.M y9).t ((y.o m (λxh=>xh (yi m (.j B)))).t yn:z.M m=A (.I 2 (A5.c ⟨d,k⟩))),(M.M yv).t yo,yl,(yz.Ar λc yw xn o _ yq=>⟨by rw[M.M o];grind,M.lv o⟩:Ro X p N.c 2 (g.A3.m (Bs (e.at d)))),yH⟩,λc o=> ?_⟩
 .have xK:∀(xt:Ah),xt=Ao (g.op=1\/g.op=2\/g.op=3)->jj W9 57 6 [.b xt,.b (Ao ((E5 (g.A3.m (Bs (e.at d)))).Ak=5)),.p E 0,.i .u8 g.op,.p t.x 0,.p r 0,.p m 0,J (.AD d k),p] X=jj W9 57 6 [.b (Ao (g.op=1\/g.op=2\/g.op=3)),.b (Ao ((E5 (g.A3.m (Bs (e.at d)))).Ak=5)),.p E 0,.i .u8 g.op,.p t.x 0,.p r 0,.p m 0,J (.AD d k),p] X:=λxt h=>by rw[h]
  rw[r57];by_cases xc:g.op=1;.rw[<-xK L (by rw[A0 (.i xc)])];simp only[↓ya,↓yb,↓x9,↓Q,↓QT,AdM,↓H (Pe t.x),↓H (Eg t.x),↓H x8,xO,b2,↓H xH,↓H x4,↓H U.cv,↓H xy,↓H xP,↓H xz,↓H xS,↓Gn xX,↓H (Ha s d 6),↓H xC,↓H xA,↓H xR,↓H x5,↓H x1,↓H (Ha s d 0),↓H xb,↓H (CB I.hb),↓H xo,↓H xV,↓H xB,↓H (Fa xe),↓H xW,↓H (Ha s d 5),↓H xD,↓H xQ,↓H x2,xr,↓H x6,↓Gn xY,↓H xU,xq,↓H x3,↓H x0,↓H xF,↓H xZ,xc]
  .by_cases xf:g.op=2;.rw[<-xK L (by rw[A0 (.j (.i xf))])];simp only[↓ya,↓yb,↓x9,↓Q,↓QT,AdM,Int.reduceEq,↓H (Pe t.x),↓H (Eg t.x),↓H x8,xO,b2,↓H xH,↓H x4,↓H U.cv,↓H xy,↓H xP,↓H xz,↓H xS,↓Gn xX,↓H (Ha s d 6),↓H xC,↓H xA,↓H xR,↓H x5,↓H x1,↓H (Ha s d 0),↓H xb,↓H (CB I.hb),↓H xo,↓H xV,↓H xB,↓H (Fa xe),↓H xW,↓H (Ha s d 5),↓H xD,↓H xQ,↓H x2,xr,↓H x6,↓Gn xY,↓H xU,xq,↓H x3,↓H x0,↓H xF,↓H xZ,xc,xf]
   .rw[<-xK (Ao (g.op=3)) (by by_cases yj:g.op=3<;>simp[xc,xf,yj])];simp only[↓ya,↓yb,↓x9,↓Q,↓QT,AdM,↓H (Pe t.x),↓H (Eg t.x),↓H x8,xO,b2,↓H xH,↓H x4,↓H U.cv,↓H xy,↓H xP,↓H xz,↓H xS,↓Gn xX,↓H (Ha s d 6),↓H xC,↓H xA,↓H xR,↓H x5,↓H x1,↓H (Ha s d 0),↓H xb,↓H (CB I.hb),↓H xo,↓H xV,↓H xB,↓H (Fa xe),↓H xW,↓H (Ha s d 5),↓H xD,↓H xQ,↓H x2,xr,↓H x6,↓Gn xY,↓H xU,xq,↓H x3,↓H x0,↓H xF,↓H xZ,xc,xf,↓H (Ch .u8 g.op 3)]
 .have yt:=(λc o=>yc.C4 o:∀c,u c->Lv h c) c o;have zy:=xu.lv yt;rw[M.M (by rw[y.l];exact(xN c (.i (.i (.i o)))).1),y.o c (λxh=>xh (yi c (.i o):As p c)),xj.M (xT c (.i (.i o))).1,yC c (.i (.i o)),xi.M (ys c (.i o)).1,yB c (.i o),xu.M yt]
end
def Kk(v:EC)(b:Ai)(z:C (C (C K)))(c:K)(y:T->Prop)(h:G)(d:R):Prop:=∃a,d=A (.AB [],a)/\Bj v a b z c y/\Bo y h a
theorem iG{a:Ai}{i j b:D}(f:i<a.Ac.l)(e c:N):(a.AD i j b e).AD i j b c=a.AD i j b c:=by
 unfold Ai.AD
 rw[HE f,LX]
 congr 1
 show({(a.at i)with AG:=CP (CP (a.at i).AG j b e) j b c})={(a.at i)with AG:=CP (a.at i).AG j b c}
 congr 1
 unfold CP
 cases d:(a.at i).AG[j]?with
 |none=>simp only[d]
 |some g=>rw[Aex (AdN.1 d).1];simp only[];rw[Ae5,Ae5]
section
variable{v:EC} {h:G} {t:Ai} {z:C (C (C K))} {y:T->Prop} {i j:D} {n:Au} {r:C N} {p o q:T} {u:F} {s:T->Bm} {w:Bm->F}
theorem OI{h:G}{d:T->Prop}(l:BZ s h v.l v.x t z 0 w)(x:∀a,d a->Lv h a/\s a=.C5){c:D}(F:FB t i j c)(f:N):∃e b,AR 2 [w (.AD i j),.n c]=A (.p e (c*2))/\AX 2 h [.p e (c*2),.S (N.c f)]=A (AC,b)/\BZ s b v.l v.x (t.AD i j c f) z 0 w/\(∀a,d a->Lv b a/\s a=.C5)/\Bo d h b:=by
 let⟨Q,S,V,g,H,I⟩:=F
 have E:=(AdN.1 g).1;have m:=DK g;subst m;let⟨e,b,R,_,_,U,J,k⟩:=l.PP E H I f
 let⟨M,P⟩:=k.Fp (by grind) x
 grind
theorem JK.AJ(f:JK v t z y i j n r h p o q u s w)(E:FB t i j 0)(e:N):∃b a,AR 2 [w (.AD i j),.n 0]=A (.p b (0*2))/\AX 2 h [.p b (0*2),.S (N.c e)]=A (AC,a)/\Bj v a (t.AD i j 0 e) z 0 y/\Bo y h a:=by
 let⟨b,a,g,k,l,m,x⟩:=OI f.X f.hF E e
 exact⟨b,a,g,k,⟨s,w,l,λd c=>m d (.i (.i (.i c)))⟩,λd c=>x d (.i (.i (.i c)))⟩
theorem ov(b:JK v t z y i j n r h p o q u s w)(d:Ah)(F:n.op=7)(m:FB t i j 0){a:N}(k:r[0]? =A a):Kk v (t.AD i j 0 a) z 0 y h (jj W9 57 6 [.b Aa,.b d,.p q 0,.i .u8 n.op,.p v.x 0,.p o 0,.p p 0,w (.AD i j),u] h):=by
 let⟨g,c,G,_⟩:=b.o.JE k
 have c:AR 2 [u,.n 0]=A (.p g (0*2)):=c;let⟨x,l,E,H,e,f⟩:=b.AJ m a
 refine⟨l,?_,e,f⟩;rw[Lg];simp only[QY,Int.reduceEq, *]
theorem oo(b:JK v t z y i j n r h p o q u s w)(d:Ah)(G:n.op=14)(x:FB t i j 0){a:N}(k:r[0]? =A a):Kk v (t.AD i j 0 (Na a)) z 0 y h (jj W9 57 6 [.b Aa,.b d,.p q 0,.i .u8 n.op,.p v.x 0,.p o 0,.p p 0,w (.AD i j),u] h):=by
 let⟨g,c,H,_⟩:=b.o.JE k
 have c:AR 2 [u,.n 0]=A (.p g (0*2)):=c;have l:=q3 a;let⟨E,m,F,I,e,f⟩:=b.AJ x (Na a)
 refine⟨m,?_,e,f⟩;rw[Lg];simp only[QY,Int.reduceEq,l.H B, *]
theorem ou(d:JK v t z y i j n r h p o q u s w)(X:Ah)(U:n.op=6)(m:FB t i j 0){c F:N}(P:r[0]? =A c)(xd:r[1]? =A F):Kk v (t.AD i j 0 (if c.Ak=0 then F else c)) z 0 y h (jj W9 57 6 [.b Aa,.b X,.p q 0,.i .u8 n.op,.p v.x 0,.p o 0,.p p 0,w (.AD i j),u] h):=by
 let⟨e,g,V,_⟩:=d.o.JE P
 have g:AR 2 [u,.n 0]=A (.p e (0*2)):=g;let⟨M,S,k,W,I,l,G⟩:=OI d.X d.hF m c
 have k:AR 2 [w (.AD i j),.n 0]=A (.p M (0*2)):=k;have E:Ro S u N.c 2 r:=d.o.Ar λa xp xc b xj xm=>⟨by grind,(l a (.j xj)).1⟩;let⟨Z,xn,_,T⟩:=E.JE P
 have xg:e=Z:=by grind
 subst xg;have R:Bl 0 [.p e (0*2)]=A (.p e (0*2+0)):=by rw[EG]
 let⟨xa,x,xk,_⟩:=E.JE xd
 have x:AR 2 [u,.n 1]=A (.p xa (1*2)):=x;have xi:i<t.Ac.l:=by let⟨xc,_,_,E,_⟩:=m;grind
 by_cases f:c.Ak=0
 .rw[Af f];let⟨xb,xe,xo,xl,J,xf,Y⟩:=OI I l (m.AD i j 0 c) F
  have xh:M=xb:=by grind
  subst xh;rw[iG xi]at J;refine⟨xe,?_,⟨s,w,J,λa b=>xf a (.i (.i (.i b)))⟩,λa b=>(Y a (.i (.i (.i b)))).t (G a (.i (.i (.i b))))⟩;rw[Lg];simp only[↓Q,↓QT,AdM,Int.reduceEq,U,↓H g,↓H V,↓H k,↓H W,↓H R,↓H T,f,↓H x,↓H xk,↓H xl]
 .rw[Ad f];refine⟨S,?_,⟨s,w,I,λa b=>l a (.i (.i (.i b)))⟩,λa b=>G a (.i (.i (.i b)))⟩;rw[Lg];simp only[↓Q,↓QT,AdM,Int.reduceEq,U,↓H g,↓H V,↓H k,↓H W,↓H R,↓H T,f]
theorem om(b:JK v t z y i j n r h p o q u s w)(d:Ah)(I:n.op=13)(x:FB t i j 0){a:N}(k:r[0]? =A a)(E:B5 t.Am.l a):Kk v (t.AD i j 0 (L2 t.Am a)) z 0 y h (jj W9 57 6 [.b Aa,.b d,.p q 0,.i .u8 n.op,.p v.x 0,.p o 0,.p p 0,w (.AD i j),u] h):=by
 let⟨g,c,J,_⟩:=b.o.JE k
 have c:AR 2 [u,.n 0]=A (.p g (0*2)):=c;have l:=q4 t.Am a (VH E);have P:h.AL v.x 2 1=A (Bp t.Am):=by rw[D1 b.X.M,Af (by omega),Ad (by omega)];rfl
 let⟨F,m,G,M,e,f⟩:=b.AJ x (L2 t.Am a)
 refine⟨m,?_,e,f⟩;rw[Lg];simp only[QY,Int.reduceEq,H (Qx v.x),l.H B, *]
end
section
variable{v:EC} {h:G} {t:Ai} {r:C (C (C K))} {z:T->Prop} {i j:D} {n:Au} {y:C N} {q o p:T} {u:F} {s:T->Bm} {w:Bm->F}
theorem h3{e:T->Prop}(E:BZ s h v.l v.x t r 0 w)(Q:∀k,e k->Lv h k/\s k=.C5)(R:FB t i j 0)(g:C AE)(l:N)(f:K):∃b c d a,AX 1 h [.p v.x 2,.S (Bp g)]=A (AC,c)/\AR 2 [w (.AD i j),.n 0]=A (.p b (0*2))/\AX 2 c [.p b (0*2),.S (N.c l)]=A (AC,d)/\AX 1 d [.p v.x 7,.n f]=A (AC,a)/\Bj v a (Ai.AD ⟨t.Ac,g,t.round,t.AA⟩ i j 0 l) r f e/\Bo e h a:=by
 let⟨c,U,F,m⟩:=E.jO g
 let⟨I,X⟩:=m.Fp (by grind) Q
 let⟨b,d,S,V,G,J,Y⟩:=OI F I (R.of B) l
 let⟨a,W,H,x⟩:=G.RG f
 let⟨M,Z⟩:=x.Fp (by grind) J
 exact⟨b,c,d,a,U,S,V,W,⟨s,w,H,M⟩,P⟩
theorem oh(b:JK v t r z i j n y h q o p u s w)(d:Ah)(J:n.op=10)(m:FB t i j 0){a:N}(k:y[0]? =A a)(e:Ft t.Am):Kk v (Ai.AD ⟨t.Ac,(Er t.Am a).1,t.round,t.AA⟩ i j 0 (Er t.Am a).2.1) r (Er t.Am a).2.2 z h (jj W9 57 6 [.b Aa,.b d,.p p 0,.i .u8 n.op,.p v.x 0,.p o 0,.p q 0,w (.AD i j),u] h):=by
 let⟨g,c,M,_⟩:=b.o.JE k
 have c:AR 2 [u,.n 0]=A (.p g (0*2)):=c;have T:h.AL v.x 2 1=A (Bp t.Am):=by rw[D1 b.X.M,Af (by omega),Ad (by omega)];rfl
 let⟨E,F,G,l,Q,I,R,S,f,x⟩:=h3 b.X b.hF m (Er t.Am a).1 (Er t.Am a).2.1 (Er t.Am a).2.2
 refine⟨l,?_,f.sub P,P⟩;rw[Lg];simp only[QY,Int.reduceEq,H (Qx v.x),(q5 t.Am e.ok a).H B, *]
theorem ol(c:JK v t r z i j n y h q o p u s w)(x:Ah)(U:n.op=12)(M:FB t i j 0){a b:N}(G:y[0]? =A a)(I:y[1]? =A b)(E:Ft t.Am)(T:B5 t.Am.l a)(xc:i<1000)(xd:j<1000):Kk v (Ai.AD ⟨t.Ac,(Eb t.Am a b (1000*i+j)).1,t.round,t.AA⟩ i j 0 (Eb t.Am a b (1000*i+j)).2.1) r (Eb t.Am a b (1000*i+j)).2.2 z h (jj W9 57 6 [.b Aa,.b x,.p p 0,.i .u8 n.op,.p v.x 0,.p o 0,.p q 0,w (.AD i j),u] h):=by
 let⟨f,d,k,_⟩:=c.o.JE G
 have d:AR 2 [u,.n 0]=A (.p f (0*2)):=d;let⟨g,e,l,_⟩:=c.o.JE I
 have e:AR 2 [u,.n 1]=A (.p g (1*2)):=e;have m:h.AL v.x 2 1=A (Bp t.Am):=by rw[D1 c.X.M,Af (by omega),Ad (by omega)];rfl
 have S:Aj (Bv (.ld 2) [.p g (1*2)] h (.S (N.c b))) (Aj (Bv (.ld 2) [.p f (0*2)] h (.S (N.c a))) (Aj (Bv (.ld 1) [.p v.x 2] h (.S (Bp t.Am))) L Aa) Aa) Aa=L:=by rw[U7 (by rw[F5,l];rfl),U7 (by rw[F5,k];rfl),U7 (by rw[F5,m];rfl)];rfl
 let⟨Z,xa,xb,J,V,R,W,X,F,Y⟩:=h3 c.X c.hF M (Eb t.Am a b (1000*i+j)).1 (Eb t.Am a b (1000*i+j)).2.1 (Eb t.Am a b (1000*i+j)).2.2
 refine⟨J,?_,F.sub P,P⟩;rw[Lg];simp only[↓Q,↓QT,AdM,Int.reduceEq,U,↓H (Qx v.x),↓H m,↓H d,↓H k,↓H e,↓H l,↓H (Ay c.g4 0:h.Ap q 0=A (.n i)),↓H (Ay c.g4 1:h.Ap q 1=A (.n j)),↓(q8 i j (by omega) (by omega)).H B,↓Gn S,↓(q7 t.Am E.ok a b (1000*i+j) (VH T)).H B,↓H V,↓H R,↓H W,↓H X]
theorem oq(b:JK v t r z i j n y h q o p u s w)(l:Ah)(W:n.op=4)(J:FB t i j 0)(I:y.l=Du n.A8)(N:0<Du n.A8)(Q:∀T∈y,PK T):Kk v (t.AD i j 0 (Kc n.A8 y)) r 0 z h (jj W9 57 6 [.b Aa,.b l,.p p 0,.i .u8 n.op,.p v.x 0,.p o 0,.p q 0,w (.AD i j),u] h):=by
 let⟨f,F,d⟩:=BS.FV (t:=λa=>¬As u a) (BS.cons ((Fs.im (c:=h) (a:=.s n.A8) B).up (by omega)) (BS.cons (b.o.fs (h:=λa=>¬As u a) (λa n=>n) (λ_=>B) (λ_=>B)) (BS.nil 2 h))) (by omega)
 have V:=q1 n.A8 y I N Q h _ f F;have U:=b.g8;let⟨E,G,g,X,m,x,R⟩:=OI (b.X.Ar λa e M=>⟨d.o a (λk=>M (b.hF a P).2),by rw[d.l];grind⟩) (λa e=>⟨by rw[d.l];exact(b.hF a P).1,(b.hF a P).2⟩:∀a,z a->Lv f a/\s a=.C5) J (Kc n.A8 y)
 have g:AR 2 [w (.AD i j),.n 0]=A (.p E (0*2)):=g;refine⟨G,?_,⟨s,w,m,x⟩,λa e=>(R a e).t (d.o a (λk=>k (b.ap a P)))⟩;rw[Lg];simp only[QY, *]
end
theorem AaE{c:D}{a b:N}(h:B5 c a):VZ a b=FZ a b:=by
 let⟨d,e⟩:=a
 unfold VZ FZ Eu;unfold B5 Gt BK at h;grind
theorem ne{e:C _}{c:Ab}{j:D}{n:Au}(z:H2 e c j n)(h:n.op=1\/n.op=2\/n.op=3){b:N}(d:b.Ak≠5):M_ n b=Sf n:=by
 unfold M_ Sf;rw[Ad d];rcases h with h|h|h;.grind
 .rw[Ad (by omega),Af h,Ad (by omega),Af h];rcases z.num h with a|a<;>rw[a]<;>rfl
 grind
section
variable{v:EC} {h:G} {t:Ai} {r:C (C (C K))} {z:T->Prop} {i j:D} {n:Au} {y:C N} {q o p:T} {u:F} {s:T->Bm} {w:Bm->F}
theorem og(c:JK v t r z i j n y h q o p u s w)(e:FB t i j 0){T:C Ab}{F:Ab}{S:D}(E:H2 T F S n)(U:n.op=1\/n.op=2\/n.op=3){a:N}(H:y=[a]):Kk v (t.AD i j 0 (M_ n a)) r 0 z h (jj W9 57 6 [.b L,.b (Ao ((E5 y).Ak=5)),.p p 0,.i .u8 n.op,.p v.x 0,.p o 0,.p q 0,w (.AD i j),u] h):=by
 have d:E5 y=if a.Ak=5 then a else AO:=by rw[H];rfl
 have l:=q0 n;have xa:=c.g8;let⟨k,m,x,xc,f,M,V⟩:=OI c.X c.hF e (Sf n)
 have x:AR 2 [w (.AD i j),.n 0]=A (.p k (0*2)):=x;have R:i<t.Ac.l:=by let⟨b,_,_,Z,_⟩:=e;grind
 by_cases b:a.Ak=5
 .rw[Af b]at d;have I:=c.o4;rw[d]at I⊢;have xb:m.AL p 0 2=A (N.c a):=BB P;let⟨G,J,Y,xd,g,X,W⟩:=OI f M (e.AD i j 0 (Sf n)) a
  have Q:k=G:=by grind
  subst Q;rw[iG R]at g;unfold M_;rw[Af b];rw[A0 b];refine⟨J,?_,⟨s,w,g,P⟩,P⟩;rw[Lg];simp only[QY,l.H B, *]
 .rw[Ad b]at d;rw[d,ne E U b];refine⟨m,?_,⟨s,w,f,P⟩,P⟩;have:Ao (AO.Ak=5)=Aa:=B;rw[this,Lg];simp only[QY,l.H B, *]
theorem ot(d:JK v t r z i j n y h q o p u s w)(E:Ah)(xe:n.op=5){b c:N}(M:y[0]? =A b)(Q:y[1]? =A c){F:D}(X:B5 F b){f:D}(U:(FZ b c).1=f)(V:FB t i j f):Kk v (t.AD i j f (FZ b c).2) r 0 z h (jj W9 57 6 [.b Aa,.b E,.p p 0,.i .u8 n.op,.p v.x 0,.p o 0,.p q 0,w (.AD i j),u] h):=by
 let⟨I,m,xf,_⟩:=d.o.JE M
 have m:AR 2 [u,.n 0]=A (.p I (0*2)):=m;let⟨J,x,xg,_⟩:=d.o.JE Q
 have x:AR 2 [u,.n 1]=A (.p J (1*2)):=x;have g:=q2 b c;rw[AaE X,U]at g;let⟨Y,k,W,T,e,R,xc,xd⟩:=box h (.I 2 (N.c (FZ b c).2))
 let⟨xk,xi⟩:=EL h (b:=2) [.i .u8 0,.n 0] (c:=N.c (FZ b c).2) W T B B
 have xh:k.AL Y 0 2=A (N.c (FZ b c).2):=BB R;let⟨xa,S,xb,xj,G,H,Z⟩:=OI (d.X.ext e) (λa l=>⟨e.lv (d.hF a P).1,(d.hF a P).2⟩:∀a,z a->Lv k a/\s a=.C5) V (FZ b c).2
 refine⟨S,?_,⟨s,w,G,H⟩,λa l=>(Z a l).t (e.M (d.hF a P).1)⟩;rw[Lg];simp only[QY,Int.reduceEq,g.H B, *]
end
def GY(c:N)(b:C N)(a:D):C N:=(b.t a).m (λ_=>c)++b.d a
theorem n5(b:N)(a:C _):GY b a 0=a:=rfl
theorem n3(b:N)(a:C N):GY b a a.l=a.m λ_=>b:=by unfold GY;grind
theorem ZQ(c:N)(a:C N){b:D}(d:b<=a.l):(GY c a b).l=a.l:=by unfold GY;grind
theorem n4(c:N)(b:C N){a:D}(f:a<b.l):(GY c b a).set a c=GY c b (a+1):=by
 unfold GY;let⟨g,d,e⟩:=Ds f
 rw[Af3 _ _ (by grind),Ad9,Aef,show a-min a b.l=0 by omega,e,Afs,<-FL d,Aes,AeN];rfl
section
variable{v:EC} {h:G} {t:Ai} {q:C (C (C K))} {r:T->Prop} {i j:D} {n:Au} {o:C N} {y z p:T} {u:F} {m:T->Bm} {w:Bm->F}
theorem oj(d:JK v t q r i j n o h y z p u m w)(l:Ah)(U:n.op=11){a b c:N}(x:o[0]? =A a)(E:o[1]? =A b)(F:o[2]? =A c)(s:Ft t.Am)(H:B5 t.Am.l a)(G:t.Ac.l<=400)(R:(C9 t.Am a b c).2.1.l<1000000)(S:∀J∈(C9 t.Am a b c).2.1,IY t J):((Eh t ⟨2,a,b,c,0⟩).2.2=0->Kk v (Eh t ⟨2,a,b,c,0⟩).1 q 0 r h (jj W9 57 6 [.b Aa,.b l,.p p 0,.i .u8 n.op,.p v.x 0,.p z 0,.p y 0,w (.AD i j),u] h))/\((Eh t ⟨2,a,b,c,0⟩).2.2≠0->Kk v t q (Eh t ⟨2,a,b,c,0⟩).2.2 r h (jj W9 57 6 [.b Aa,.b l,.p p 0,.i .u8 n.op,.p v.x 0,.p z 0,.p y 0,w (.AD i j),u] h)):=by
 let⟨M,Q⟩:=q6 (⟨m,w,d.X,λI T=>d.hF I P⟩:Bj v h t q 0 r) d.o x E F s H G R S
 constructor
 .intro k;let⟨g,_,e,f⟩:=M k
  refine⟨g,?_,e,f⟩;rw[Lg];simp only[QY,Int.reduceEq, *]
 .intro k;let⟨g,_,e,f⟩:=Q k
  refine⟨g,?_,e,f⟩;rw[Lg];simp only[QY,Int.reduceEq, *]
theorem cL(c:JK v t q r i j n o h y z p u m w)(b:Ah)(a:n.op=8\/n.op=9):jj W9 57 6 [.b Aa,.b b,.p p 0,.i .u8 n.op,.p v.x 0,.p z 0,.p y 0,w (.AD i j),u] h=jj W9 57 5 [.b L,.p v.x 0,.p z 0,.p y 0,w (.AD i j),u] h:=by
 rw[Lg];rcases a with a|a;.simp only[↓Q,↓QT,AdM,Int.reduceEq,a]
 .simp only[↓Q,↓QT,AdM,Int.reduceEq,a]
theorem ow(M:BD v.l)(a:JK v t q r i j n o h y z p u m w)(c:Ah)(Y:n.op=8\/n.op=9){b:N}(xb:o[0]? =A b)(S:b.Ak≠5)(xg:q.l=t.Ac.l)(xh:t.Ac.l<=400){k:D}{l:Ab}(xf:CH v.l n.A8=k)(xe:v.l[k]? =A l):(t.Ac.l=400->Kk v t q 5 r h (jj W9 57 6 [.b Aa,.b c,.p p 0,.i .u8 n.op,.p v.x 0,.p z 0,.p y 0,w (.AD i j),u] h))/\(t.Ac.l≠400->Kk v ⟨t.Ac++[J6 v.l l k i j 0 b],t.Am,t.round,t.AA⟩ (q++[In v.l l.Av]) 0 r h (jj W9 57 6 [.b Aa,.b c,.p p 0,.i .u8 n.op,.p v.x 0,.p z 0,.p y 0,w (.AD i j),u] h)):=by
 let⟨d,e,J,U⟩:=a.o.JE xb
 have e:AR 2 [u,.n 0]=A (.p d (0*2)):=e;have T:Bl 0 [.p d (0*2)]=A (.p d (0*2+0)):=by rw[EG]
 have xa:h.Ap _ 0=A (Z Ab.c v.l):=Ay a.X.M 0;have R:h.Ap z 1=A (.s n.A8):=Ay a.g8 1;have s:=SA v.l n.A8 (by have:=M.A7;omega);rw[xf]at s;have F:h.Ap y 0=A (.n i):=Ay a.g4 0;have G:h.Ap y 1=A (.n j):=Ay a.g4 1;have V:Aj (Bv .Cq [.p y 0] h (.n i)) L Aa=L:=by rw[GL F];rfl
 have W:Aj (Bv .Cq [.p y 1] h (.n j)) L Aa=L:=by rw[GL G];rfl
 have X:Aj (Bv (.ld 2) [.p d (0*2)] h (.S (N.c b))) L Aa=L:=by rw[U7 (by rw[F5,J];rfl)];rfl
 let⟨xc,xd⟩:=ah M (⟨m,w,a.X,λxi xj=>a.hF xi P⟩:Bj v h t q 0 r) xg xh xe i j 0 b
 constructor
 .intro I;let⟨x,E,f,g⟩:=xc I
  refine⟨x,?_,f,g⟩;rw[cL a c Y,b1];simp only[↓Q,↓QT,AdM,↓H e,↓H T,↓H U,S,↓H xa,↓H R,↓s.H B,↓H F,↓Gn V,↓H G,↓Gn W,↓H J,↓Gn X,↓H E]
 .intro I;let⟨x,E,f,g⟩:=xd I
  refine⟨x,?_,f,g⟩;rw[cL a c Y,b1];simp only[↓Q,↓QT,AdM,↓H e,↓H T,↓H U,S,↓H xa,↓H R,↓s.H B,↓H F,↓Gn V,↓H G,↓Gn W,↓H J,↓Gn X,↓H E]
theorem ox(f:JK v t q r i j n o h y z p u m w)(E:Ah)(xp:n.op=8\/n.op=9){b:N}(T:o[0]? =A b)(xA:b.Ak=5)(g:i<t.Ac.l){a:C N}(xl:(t.at i).AG[j]? =A a)(xF:a.l<1000000):Kk v (t.AJ i {t.at i with AG:=(t.at i).AG.set j (a.m λ_=>b)}) q 0 r h (jj W9 57 6 [.b Aa,.b E,.p p 0,.i .u8 n.op,.p v.x 0,.p z 0,.p y 0,w (.AD i j),u] h):=by
 let⟨H,W,xI,xG⟩:=f.o.JE T
 have W:AR 2 [u,.n 0]=A (.p H (0*2)):=W;have xC:Bl 0 [.p H (0*2)]=A (.p H (0*2+0)):=by rw[EG]
 have xt:jj W9 57 6 [.b Aa,.b E,.p p 0,.i .u8 n.op,.p v.x 0,.p z 0,.p y 0,w (.AD i j),u] h=jj W9 57 1 [w (.AD i j),u,.n 0] h:=by rw[cL f E xp,b1];simp only[QY,vK, *]
 let⟨⟨⟩,e,J,xa⟩:=Dh (h:=a.l) (f:=λc _ h=>jj W9 57 1 [w (.AD i j),u,.n c] h) (g:=λc _ e=>c<=a.l->BZ m e v.l v.x (t.AJ i {t.at i with AG:=(t.at i).AG.set j (GY b a c)}) q 0 w/\(∀d,((r d\/d=y)\/(d=z\/d=p))\/¬As u d->Lv e d/\m d=.C5)/\Bo (λd=>((r d\/d=y)\/(d=z\/d=p))\/¬As u d) h e)
  (λc _ xh V Z=>by
   let⟨R,U,xb⟩:=Z (by omega)
   have xx:(t.AJ i {t.at i with AG:=(t.at i).AG.set j (GY b a c)}).at i={t.at i with AG:=(t.at i).AG.set j (GY b a c)}:=HE g;have xk:i<(t.AJ i {t.at i with AG:=(t.at i).AG.set j (GY b a c)}).Ac.l:=by rw[Ej];grind
   have X:((t.AJ i {t.at i with AG:=(t.at i).AG.set j (GY b a c)}).at i).AG[j]? =A (GY b a c):=by grind
   let⟨xu,xq⟩:=Bb (b:=GY b a c) (a:=c) (by rw[ZQ b a (by omega)];grind)
   have x:=Cp (R.Db (.AD i j) _ X);rw[ZQ b a (by omega)]at x;let⟨xy,xi,xm,xs,S,xj,xc⟩:=OI R U (c:=c) ⟨_,_,xu,Di xk,X,xq⟩ b
   let⟨xd,Q,xr,_⟩:=(f.o.Ar λd xH xz M Y xE=>⟨by grind,(U d (.j Y)).1⟩:Ro xh u N.c 2 o).JE T
   have Q:AR 2 [u,.n 0]=A (.p xd (0*2)):=Q;have xg:(t.AJ i {t.at i with AG:=(t.at i).AG.set j (GY b a c)}).AD i j c b=t.AJ i {t.at i with AG:=(t.at i).AG.set j (GY b a (c+1))}:=by
    have xe:({t.at i with AG:=(t.at i).AG.set j (GY b a c)}).AD j c b={t.at i with AG:=(t.at i).AG.set j (GY b a (c+1))}:=by
     have xf:CP ((t.at i).AG.set j (GY b a c)) j c b=(t.at i).AG.set j (GY b a (c+1)):=by rw[TK (Aex (AdN.1 xl).1) c b,Ae5,n4 b a V]
     exact AdW (λxn=>({t.at i with AG:=xn})) xf
    unfold Ai.AD;rw[HE g];rw[LX,xe]
   rw[xg]at S;refine⟨(),xi,?_,λ_=>⟨S,xj,λd M=>(xc d M).t (xb d M)⟩⟩;rw[i3];simp only[QY,x,(Cm V),vJ,Q,xr,xm,xs,vI,Bh (a:=c) (by omega)])
  (b:=()) (a:=h) (λ_=>⟨by
   have:t.AJ i {t.at i with AG:=(t.at i).AG.set j (GY b a 0)}=t:=by
    rw[n5];have:(t.at i).AG.set j a=(t.at i).AG:=by
     refine AeP λxv=> ?_;by_cases Y:xv=j;.grind
     .grind
    rw[this];exact LY g
   rw[this];exact f.X,f.hF,P⟩)
 let⟨G,xD,xw⟩:=xa Om
 have J:jj W9 57 1 [w (.AD i j),u,.n 0] h=jj W9 57 1 [w (.AD i j),u,.n a.l] e:=J;have xo:((t.AJ i {t.at i with AG:=(t.at i).AG.set j (GY b a a.l)}).at i).AG[j]? =A (GY b a a.l):=by rw[HE g];grind
 have x:=Cp (G.Db (.AD i j) _ xo);rw[ZQ b a Om]at x;rw[n3]at G;have xB:=CA a.l;refine⟨e,?_,⟨m,w,G,P⟩,P⟩;rw[xt,J,i3];simp only[QY, *]
end
structure H1(e b:Ai):Prop where
 A7:b.Ac.l=e.Ac.l
 Cc:∀a,(b.at a).AP=(e.at a).AP/\(b.at a).Ax=(e.at a).Ax/\(b.at a).Az=(e.at a).Az/\(b.at a).A4=(e.at a).A4
theorem H1.refl(e:Ai):H1 e e:=⟨B,P⟩
theorem H1.AI{c d f:Ai}(h:H1 c d)(b:H1 d f):H1 c f:=⟨b.A7.t h.A7,λa=>⟨(b.Cc a).1.t (h.Cc a).1,(b.Cc a).2.1.t (h.Cc a).2.1,(b.Cc a).2.2.1.t (h.Cc a).2.2.1,(b.Cc a).2.2.2.t (h.Cc a).2.2.2⟩⟩
theorem H1.of{e a:Ai}(h:a.Ac=e.Ac):H1 e a:=⟨by grind,λb=>by unfold Ai.at;grind⟩
theorem CJ.PA{e f:Ai}{w:C (C (C K))}(c:CJ e w)(a:H1 e f):CJ f w:=by refine⟨by rw[a.A7];exact c.A7,λb g m=>by rw[(a.Cc b).2.2.2];exact c.Ga b _ m,λb n o g p q j k l=> ?_⟩;unfold Ek;rw[(a.Cc b).2.2.2];refine(c.B0 b n o g p q j k l).Hf λd i=>⟨?_,(a.Cc d).2.2.1⟩;unfold CW at i⊢;rw[a.A7,(a.Cc d).1,(a.Cc d).2.1];grind
theorem bZ{e:Ai}{a:D}{b:AK}(h:b.AP=(e.at a).AP/\b.Ax=(e.at a).Ax/\b.Az=(e.at a).Az/\b.A4=(e.at a).A4):H1 e (e.AJ a b):=⟨Ej ..,λd=>by
 by_cases c:a<e.Ac.l;.rw[E4 c];grind
 .have:e.AJ a b=e:=by
   unfold Ai.AJ
   rw[List.set_eq_of_length_le (by omega)]
  grind⟩
theorem XW(e:Ai)(a b c:D)(d:N):H1 e (e.AD a b c d):=bZ ⟨B,B,B,B⟩
theorem kl:∀(a:C Bz)(e:Ai),H1 e (a.foldl HY e)
 |[],e=>H1.refl e
 |b::a,e=>(XW e _ _ _ _).AI (kl a (HY e b))
theorem Aao(e:Ai)(a:A5)(b:K):H1 e (DO e a b):=
 (bZ (e:=e) (a:=a.FE.n) (b:={e.at a.FE.n with AS:=(e.at a.FE.n).AS.set a.Ax.n b}) ⟨B,B,B,B⟩).AI (H1.of B)
def Yx(t:EC)(b:Ai×K)(u:T->Prop)(h:G)(d:R):Prop:=
 (b.2=0->∃a c,d=A (.AB [],a)/\Bj t a b.1 c 0 u/\CJ b.1 c/\Bo u h a)/\(b.2≠0->∃a f c,d=A (.AB [],a)/\Bj t a f c b.2 u/\Bo u h a)
theorem Ut{t:EC}{h:G}{b:Ai}{w:C (C (C K))}{u:T->Prop}{d f:D}{a:Ai×N×K}{g:N}(l:a=(b,g,0))(k:CJ b w){i:R}(j:∃c,i=A (.AB [],c)/\Bj t c (b.AD d f 0 g) w 0 u/\Bo u h c):Yx t (if a.2.2≠0 then(a.1,a.2.2)else(a.1.AD d f 0 a.2.1,0)) u h i:=by
 subst l;let⟨p,m,n,o⟩:=j
 exact⟨λ_=>⟨p,w,m,n,k.PA (XW _ _ _ _ _),o⟩,P⟩
theorem Zt{t:EC}{h:G}{a:Ai}{w:C (C (C K))}{u:T->Prop}{l m:D}{c:Ai×N×K}{j:C AE}{n:N}{f:K}(d:c=if f≠0 then(a,AO,f)else(⟨a.Ac,j,a.round,a.AA⟩,n,0))(q:CJ a w){o:R}(p:∃i,o=A (.AB [],i)/\Bj t i (Ai.AD ⟨a.Ac,j,a.round,a.AA⟩ l m 0 n) w f u/\Bo u h i):Yx t (if c.2.2≠0 then(c.1,c.2.2)else(c.1.AD l m 0 c.2.1,0)) u h o:=by
 let⟨v,r,k,s⟩:=p
 by_cases g:f=0;.rw[Ad Om]at d;subst d;rw[g]at k;exact⟨λ_=>⟨v,w,r,k,q.PA (H1.AI (d:=⟨a.Ac,j,a.round,a.AA⟩) (H1.of B) (XW _ _ _ _ _)),s⟩,P⟩
 .rw[Af g]at d;subst d;rw[Af g];exact⟨P,P⟩
section
variable{t:EC} {h:G} {e:Ai} {w:C (C (C K))} {u:T->Prop}
theorem qH(T:BD t.l)(y:BY t.l e)(xo:Bj t h e w 0 u)(xW:CJ e w){a c:D}(xd:a<e.Ac.l)(ya:IP t.l (e.at a) c=L){n:K}(x4:0<n):Yx t (F6 t.l e ⟨a,c⟩ n) u h (W9 (pos 57) [.p t.x 0,.S (A5.c ⟨a,c⟩),.n n] h):=by
 by_cases xl:e.AA=6000
 .have x2:F6 t.l e ⟨a,c⟩ n=(e,5):=by unfold F6;grind
  rw[x2];refine⟨Om,λ_=> ?_⟩;let⟨yh,xI,yy,yt,xT,yr,yB,yC⟩:=box h (.I 2 (A5.c ⟨a,c⟩))
  have yw:∀xu,u xu->Lv h xu:=λxu x9=>xo.C4 x9;let⟨xO,xy,xz,x5⟩:=xo.ext xT
  have yI:=xz.M;let⟨x,yF,xY,xX⟩:=xz.RG 5
  let⟨xg,xp⟩:=xX.Fp (by grind) x5
  refine⟨x,e,w,AZ B B ?_,⟨xO,xy,xY,xg⟩,P⟩;rw[r57];simp only[QY,H (Pe t.x), *]
 let⟨xg,xp,d,yq,Q,xk,x6,yb,xf⟩:=W3 (m:=⟨t.l,[],0,.h⟩) T y xd ya
 have Q:Dw t.l xg xp (e.at a):=Q;rw[(ZW xf n xl)];have U:=j1 y xd P (jk y x6 yb) x4 xl;have xw:=T.Bc xg xp Q.hb;have N:=xw.Ax c d xk;have yn:=N.some T;have ym:=N.op;have yu:=(AdN.1 xk).1;have ys:=xw.Av;have yx:=y.W.sh.A7;have x7:a<(DO e ⟨a,c⟩ n).Ac.l:=by rw[U.A7];grind
 have o:CJ (DO e ⟨a,c⟩ n) w:=xW.PA (Aao e _ n);let⟨xI,yh,yE,yD,yH,xO,xy,g,q,yo⟩:=Aal T y xo xd Q xk n xl
 have xQ:∀Y∈d.A3.m (Bs (e.at a)),B5 e.Am.l Y:=λY xL=>by obtain⟨xe,_,rfl⟩:=Aeu.1 xL;exact y.W.Bs a xe
 have xn:∀E,E<d.A3.l->∃Y,(d.A3.m (Bs (e.at a)))[E]? =A Y/\B5 e.Am.l Y:=λE yv=>by
  let⟨Y,xL⟩:=Bb (b:=d.A3.m (Bs (e.at a))) (a:=E) (by grind)
  grind
 have xb:=U.Am;have xJ:∀{E},FB e a c E->FB (DO e ⟨a,c⟩ n) a c E:=λh=>h.ON _ _;have yl:∀X,IY e X->IY (DO e ⟨a,c⟩ n) X:=λX h=>h.ON _ _;let⟨xM,xt⟩:=Bb (b:=((DO e ⟨a,c⟩ n).at a).AG) (a:=c) (by have yi:=U.Dj.En a xd;have:=AdW List.length yi.AG;rw[Ad9,Ad9]at this;rw[this,Q.AG];grind)
 have x8:xM.l<1000000:=by have xR:=Q.En (U.Dj.En a xd);have:=xR.AD c d xM xk xt;have:=Rs T d;omega
 have p:∀{xB:Ai}{xG:C (C (C K))}{xD:K}(xe:R),xx W9 57 [.p t.x 0,.S (A5.c ⟨a,c⟩),.n n] h=xe->Kk t xB xG xD u xI xe->∃xc,W9 (pos 57) [.p t.x 0,.S (A5.c ⟨a,c⟩),.n n] h=A (.AB [],xc)/\Bj t xc xB xG xD u/\Bo u h xc:=λxe xl xS=>by
  let⟨xc,k,xU,yp⟩:=xS
  exact⟨xc,AZ B B P,xU,P⟩
 generalize yz:d.A3.m (Bs (e.at a))=xv at*;generalize DO e ⟨a,c⟩ n=k at*;by_cases W:d.op=8\/d.op=9
 .rw[Af W];rw[A2 (by omega)]at g;let⟨j,f,xN⟩:=xn 0 (by omega)
  let⟨xZ,x0,xE,xF,_⟩:=N.call W
  rw[J0 f];unfold Nb;by_cases z:j.Ak=5
  .rw[Ad Om];simp only[AdR];rw[xt,Aeg];refine⟨λ_=> ?_,Om⟩;let⟨x,F,G,I⟩:=p _ g (ox q _ W f z x7 xt x8)
   exact⟨x,w,F,G,o.PA (bZ ⟨B,B,B,B⟩),I⟩
  .rw[Af z];obtain⟨xs,xH⟩:=ow T q _ W f z o.A7 (by rw[U.A7];grind) xE xF;unfold EO;by_cases xj:k.Ac.l=400
   .rw[Af xj];refine⟨λJ=>BF J (by omega),λ_=> ?_⟩;let⟨x,F,G,I⟩:=p _ g (xs xj)
    grind
   .rw[Ad xj,xE,AdR,xF];refine⟨λ_=> ?_,λJ=>BF B J⟩;let⟨x,F,G,I⟩:=p _ g (xH xj)
    exact⟨x,_,F,G,o.Km x0 xZ a c 0 j,I⟩
 rw[Ad W];by_cases Z:d.op=11
 .rw[Af Z];rw[A2 (by omega)]at g;let⟨j,M,xP,f,s,xC,_,yj,yk⟩:=xf.st Z
  rw[J0 f,J0 s,J0 xC];have xN:=xQ j (AdU f);obtain⟨xs,xH⟩:=oj q _ Z f s xC (by rw[xb];exact y.W.Fj) (by grind) (by rw[U.A7];grind) (by rw[xb];exact yj) (λX xK=>yl X (yk X (by rw[xb]at xK;exact xK)));constructor
  .intro J;let⟨x,F,G,I⟩:=p _ g (xs J)
   refine⟨x,_,F,G,?_,I⟩;rw[h7]at J⊢;by_cases x1:(C9 k.Am j M xP).2.2=0;.rw[Ad (λE=>E x1)];exact o.PA (H1.AI (d:=⟨k.Ac,(C9 k.Am j M xP).1,k.round,k.AA⟩) (H1.of B) (kl _ _))
   .grind
  .grind
 rw[Ad Z];by_cases z:d.op=5
 .rw[Af z];rw[A2 (by omega)]at g;let⟨j,M,f,s,_,yG,r⟩:=xf.sw z
  rw[J0 f,J0 s];refine⟨λ_=> ?_,λJ=>BF B J⟩;let⟨x,F,G,I⟩:=p _ g (ot q _ z f s (xQ j (AdU f)) (by omega) (xJ r))
  exact⟨x,w,F,G,o.PA (XW _ _ _ _ _),I⟩
 rw[Ad z];let⟨xV,r⟩:=xf.aG W Z z
 have r:=xJ r;let⟨j,f,xN⟩:=xn 0 (by omega)
 have xm:Cu xv 0=j:=J0 f;by_cases xr:d.op=1\/d.op=2\/d.op=3
 .rw[A0 xr]at g;have yA:=N.Ld (by omega);have x3:xv=[j]:=by cases xv<;>grind
  refine Ut ?_ o (p _ g (og q r N xr x3));unfold E7;grind
 rw[A2 xr]at g;by_cases V:d.op=4
 .let⟨ye,yf,yg⟩:=xV.Rz V
  refine Ut ?_ o (p _ g (oq q _ V r ye yf yg));unfold E7;grind
 by_cases xa:d.op=6
 .have yc:=N.M3 Om;let⟨M,s,yd⟩:=xn 1 (by omega)
  refine Ut ?_ o (p _ g (ou q _ xa r f s));unfold E7;rw[Ad V,Af xa,xm,J0 s]
 by_cases xi:d.op=7;.refine Ut ?_ o (p _ g (ov q _ xi r f));unfold E7;grind
 by_cases xh:d.op=10;.refine Zt (j:=(Er k.Am j).1) (n:=(Er k.Am j).2.1) (f:=(Er k.Am j).2.2) ?_ o (p _ g (oh q _ xh r f (by rw[xb];exact y.W.Fj)));unfold E7;rw[Ad V,Ad xa,Ad xi,Af xh,xm,XI P];rfl
 by_cases xq:d.op=12
 .have yc:=N.M3 Om;let⟨M,s,yd⟩:=xn 1 (by omega)
  refine Zt (j:=(Eb k.Am j M (1000*a+c)).1) (n:=(Eb k.Am j M (1000*a+c)).2.1) (f:=(Eb k.Am j M (1000*a+c)).2.2) ?_ o (p _ g (ol q _ xq r f s (by rw[xb];exact y.W.Fj) (by grind) (by omega) (by omega)));unfold E7;rw[Ad V,Ad xa,Ad xi,Ad xh,Af xq,xm,J0 s,XI P];rfl
 by_cases xA:d.op=13;.refine Zt (j:=k.Am) (n:=L2 k.Am j) (f:=0) ?_ o (p _ g (om q _ xA r f (by grind)));unfold E7;rw[Ad V,Ad xa,Ad xi,Ad xh,Ad xq,Af xA,xm,XI P];rfl
 refine Ut ?_ o (p _ g (oo q _ Om r f));unfold E7;grind
end
section
variable{t:EC} {h:G} {e:Ai} {y:C (C (C K))} {z:K} {v s:T->Prop} {u:F}
theorem eG(c:Bj t h e y z s){b:C A5}(d:Aw h u A5.c 2 b){a:D}(i:b.l<=a\/z≠0):jj W9 35 3 [u,.n a,.p t.x 0] h=jj W9 35 2 [.p t.x 0] h:=by
 let⟨m,_,j,l⟩:=c.Hw
 have k:=Cp d;rw[K5.2.2.2.1];by_cases f:a<(b.l:K)
 .have g:¬z=0:=by grind
  simp only[QY,QB, *]
 .simp only[QY,QB, *]
theorem fj(I:BD t.l){a:Ai}(m:G8 t.l a):∀(M b:D){h:G}{y:C (C (C K))},b+M=(Br t.l a).l->(C3 t.l (Br t.l a) (a.round+1) ⟨a.Ac,a.Am,a.round+1,a.AA⟩ b).2=0->Bj t h (C3 t.l (Br t.l a) (a.round+1) ⟨a.Ac,a.Am,a.round+1,a.AA⟩ b).1 y 0 (λc=>v c\/¬As u c)->CJ (C3 t.l (Br t.l a) (a.round+1) ⟨a.Ac,a.Am,a.round+1,a.AA⟩ b).1 y->Aw h u A5.c 2 (Br t.l a)->(Br t.l a).l<1000000000->((C3 t.l (Br t.l a) (a.round+1) ⟨a.Ac,a.Am,a.round+1,a.AA⟩ (Br t.l a).l).2=0->∃d x,jj W9 35 3 [u,.n b,.p t.x 0] h=jj W9 35 2 [.p t.x 0] d/\Bj t d (C3 t.l (Br t.l a) (a.round+1) ⟨a.Ac,a.Am,a.round+1,a.AA⟩ (Br t.l a).l).1 x 0 (λc=>v c\/¬As u c)/\CJ (C3 t.l (Br t.l a) (a.round+1) ⟨a.Ac,a.Am,a.round+1,a.AA⟩ (Br t.l a).l).1 x/\Bo (λc=>v c\/¬As u c) h d)/\((C3 t.l (Br t.l a) (a.round+1) ⟨a.Ac,a.Am,a.round+1,a.AA⟩ (Br t.l a).l).2≠0->∃d xd x,jj W9 35 3 [u,.n b,.p t.x 0] h=jj W9 35 2 [.p t.x 0] d/\Bj t d xd x (C3 t.l (Br t.l a) (a.round+1) ⟨a.Ac,a.Am,a.round+1,a.AA⟩ (Br t.l a).l).2 (λc=>v c\/¬As u c)/\Bo (λc=>v c\/¬As u c) h d)
 |0,b,h,y,xg,Q,g,E,p,xa=>by
  have:b=(Br t.l a).l:=by omega
  subst this;exact⟨λ_=>⟨h,y,eG g p Om,g,E,λ_ _=>B⟩,λxn=>BF Q xn⟩
 |M+1,b,h,y,xg,Q,g,E,p,xa=>by
  have Z:b<(Br t.l a).l:=by omega
  let⟨xF,o⟩:=Bb Z
  have q:=Oy I m.X m.r0 b (by omega) Q;obtain⟨S,T,rfl,Y,xh⟩:=Ve (AdU o);have xl:¬∃U,U<b/\(Br t.l a)[U]? =A ⟨S,T⟩:=by
   rintro⟨U,xx,xi⟩
   have xk:(Br t.l a).Nodup:=XO t.l a.Ac _
   have:=(Af6 (by omega) xk).1 (xi.t o.s)
   omega
  let⟨xo,xp⟩:=qH I q.X g E (Aen Y q.Dj.A7) (ce (m.X.MZ m.X.W.AA:BY t.l ⟨a.Ac,a.Am,a.round+1,a.AA⟩) q.Dj (a:=S) (b:=T) Y xl xh) (n:=a.round+1) (by have:=m.r0;omega)
  have X:=ZY (b:=t.l) (d:=a.round+1) (c:=⟨a.Ac,a.Am,a.round+1,a.AA⟩) o;rw[Ad Om]at X;let⟨xJ,xA,xy,xB⟩:=g.Hw
  have xC:h.Ap t.x 3=A (.n (a.round+1)):=by
   let⟨xD,xt,xc,xw⟩:=g
   rw[Ay xc.M 3];show A (F.n (C3 t.l (Br t.l a) (a.round+1) ⟨a.Ac,a.Am,a.round+1,a.AA⟩ b).1.round)=_;rw[(q.Dj.round:(C3 t.l (Br t.l a) (a.round+1) ⟨a.Ac,a.Am,a.round+1,a.AA⟩ b).1.round=a.round+1)]
  have xz:=Cp p;let⟨xu,J⟩:=CD (f:=A5.c) (w:=2) (λ_=>B) p o
  have xE:=J.AL (f:=A5.c) (λ_=>B) o;have xv:=Cm Z;have xb:∀{d:G},Bo (λc=>v c\/¬As u c) h d->(∀c,v c\/¬As u c->Lv d c)->Aw d u A5.c 2 (Br t.l a):=λxs xq=>p.Ar P;by_cases V:(F6 t.l (C3 t.l (Br t.l a) (a.round+1) ⟨a.Ac,a.Am,a.round+1,a.AA⟩ b).1 ⟨S,T⟩ (a.round+1)).2=0
  .let⟨N,W,xj,n,xr,r⟩:=xo V
   have xf:(C3 t.l (Br t.l a) (a.round+1) ⟨a.Ac,a.Am,a.round+1,a.AA⟩ (b+1)).2=0:=by grind
   have xG:jj W9 35 3 [u,.n b,.p t.x 0] h=jj W9 35 3 [u,.n (b+1:D),.p t.x 0] N:=by rw[K5.2.2.2.1];simp only[QY,QB,K5.2.2.2.2.1,H J.ia,H (W8 t.x),K5.2.2.2.2.2.1,H (Bh (a:=b) (by omega)), *]
   let⟨xH,xI⟩:=fj I m M (b+1) (by omega) xf (by rw[X];exact n) (by grind) (xb r λc R=>n.C4 R) xa
   grind
  .have xm:(C3 t.l (Br t.l a) (a.round+1) ⟨a.Ac,a.Am,a.round+1,a.AA⟩ (b+1)).2≠0:=by grind
   rw[(ZX xm (Br t.l a).l (by omega))];refine⟨Om,λ_=> ?_⟩;let⟨N,xe,W,xj,n,r⟩:=xp V
   refine⟨N,xe,W,?_,by grind,r⟩;rw[<-eG n (xb r λc R=>n.C4 R) (a:=b+1) Om,K5.2.2.2.1];simp only[QY,QB,K5.2.2.2.2.1,H J.ia,H (W8 t.x),K5.2.2.2.2.2.1,H (Bh (a:=b) (by omega)), *]
theorem fU(n:BD t.l){Z xA:D}(xt:Z=400)(g:G8 t.l e)(o:Bj t h e y 0 v)(xd:CJ e y):((Br t.l e).l=0->∃d,W9 (pos 35) [.p t.x 0] h=A (.b Aa,d)/\Bj t d e y 0 v/\Bo v h d)/\((Br t.l e).l≠0->∀j,KH t.l Z xA e=A j->(j.2=0->∃d q,W9 (pos 35) [.p t.x 0] h=A (.b L,d)/\Bj t d j.1 q 0 v/\CJ j.1 q/\Bo v h d)/\(j.2≠0->∃d xn q,W9 (pos 35) [.p t.x 0] h=A (.b L,d)/\Bj t d xn q j.2 v/\Bo v h d)):=by
 have xs:∀c,v c->Lv h c:=λc f=>o.C4 f;let⟨xS,xM,xk,xP⟩:=o
 let⟨u,V,xv,I,w,xq⟩:=qG n xk g.X.W.sh
 have xz:=Cp I;constructor
 .intro xm;have T:((Br t.l e).l:K)=0:=by omega
  refine⟨V,AZ B B ?_,o.ext w,P⟩;rw[K5.1];simp only[QY,xv,xz,T]
 .intro xm j k;have T:¬((Br t.l e).l:K)=0:=by omega
  have xu:=cc (b:=⟨t.l,[],0,.h⟩) g.X.W.sh (bw n g.X);have xa:Bj t V e y 0 (λc=>v c\/¬As u c):=(o.V w).sub λc f=>by
   rcases f with f|f;.grind
   .exact .j ⟨λxw=>f (xq c xw),I.Cz f⟩
  let⟨xE,xj,M,xr⟩:=xa
  have xR:=M.M;have xO:=F2 (a:=e.round) (b:=1) (by have:=g.r0;omega) (by have:=g.rf;have:=g.X.W.AA;omega);let⟨W,xT,xl,xe⟩:=M.Yj (e.round+1)
  let⟨N,Q⟩:=xe.Fp (by grind) xr
  have xb:Bj t W ⟨e.Ac,e.Am,e.round+1,e.AA⟩ y 0 (λc=>v c\/¬As u c):=⟨xE,xj,xl,N⟩;have xB:=I.Ar λc f l=>⟨Q c (.j l),(N c (.j l)).1⟩;let⟨xG,xH⟩:=fj (v:=v) n g (Br t.l e).l 0 (by omega) B xb (xd.PA (H1.of B)) xB xu
  have xF:∀{J:R},jj W9 35 3 [u,.n ((0:D):K),.p t.x 0] W=J->xx W9 35 [.p t.x 0] h=J:=λ{J} xQ=>by rw[K5.1];simp only[QY,K5.2.1,H (W8 t.x), *];grind
  have xL:=λc f=>(Q c (.i f)).t (w.M (xs c f));unfold KH at k;simp only[]at k;by_cases p:(C3 t.l (Br t.l e) (e.round+1) ⟨e.Ac,e.Am,e.round+1,e.AA⟩ (Br t.l e).l).2=0
  .rw[Ad Om]at k;let⟨r,U,X,m,xf,xh⟩:=xG p
   have xc:=Oy n g.X g.r0 _ Om p;let⟨xI,xC,xy,xD⟩:=m.Hw
   let⟨xJ,xK⟩:=gb n xt k xc.X m xf
   have xN:∀{i:G},W9 (pos 58) [.p t.x 0] r=A (.AB [],i)->jj W9 35 2 [.p t.x 0] r=A (.b L,i):=λ{i} Y=>by rw[K5.2.2.1];simp only[QY,K5.2.2.2.2.2.2, *]
   constructor
   .intro l;let⟨i,E,Y,x,xg,xi⟩:=xJ l
    exact⟨i,E,AZ B B P,x.sub P,xg,P⟩
   .intro l;let⟨i,xp,E,Y,x,xi⟩:=xK l
    exact⟨i,xp,E,AZ B B P,x.sub P,P⟩
  .rw[Af p]at k;cases k
   refine⟨Om,λ_=> ?_⟩;let⟨r,xo,U,X,m,xh⟩:=xH p
   let⟨xI,xC,xy,xD⟩:=m.Hw
   refine⟨r,xo,U,AZ B B (xF (X.t ?_)),m.sub P,P⟩;rw[K5.2.2.1];simp only[QY,K5.2.2.2.2.2.2, *]
end
section
variable{t:EC} {u:T->Prop}
theorem eH{a:G}{d:Ai}{e:C (C (C K))}{b:K}(c:Bj t a d e b u):jj W9 70 1 [.p t.x 0] a=A (.n b,a):=by
 let⟨f,_,_,_⟩:=c.Hw
 rw[Pw.2.1];simp only[QY, *]
theorem hO(r:BD t.l){x y:D}(M:x=400):∀{F c:D}{e:G}{a:Ai}{p:C (C (C K))}{d:Ai×K},G8 t.l a->c<=a.round->Bj t e a p 0 u->CJ a p->HW t.l x y F a=A d->(d.2=0->∃l v,jj W9 70 2 [.n (-1),.n c,.p t.x 0] e=A (.n 0,l)/\Bj t l d.1 v 0 u/\CJ d.1 v/\Bo u e l)/\(d.2≠0->∃l R v,jj W9 70 2 [.n (-1),.n c,.p t.x 0] e=A (.n d.2,l)/\Bj t l R v d.2 u/\Bo u e l)
 |0,c,e,a,p,d,k,V,z,E,b=>by cases b
 |F+1,c,e,a,p,d,k,V,z,E,b=>by
  have xc:=k.X.W.AA;have xd:=k.rf;have xa:¬(c:K)= -1:=by omega
  let⟨xm,xg,xe,xi⟩:=z.Hw
  let⟨T,U⟩:=fU r (xA:=y) M k z E
  unfold HW at b;by_cases o:(Br t.l a).l=0
  .rw[Af o]at b;cases b
   let⟨h,w,g,s⟩:=T o
   refine⟨λ_=>⟨h,p,?_,g,E,s⟩,λf=>BF B f⟩;rw[Pw.2.2.1];simp only[QY,QB, *];exact eH g
  .rw[Ad o]at b
   cases j:KH t.l x y a with
   |none=>rw[j]at b;cases b
   |some f=>
    rw[j]at b;have b:(if f.2≠0 then A f else HW t.l x y F f.1)=A d:=b;let⟨Y,Z⟩:=U o f j
    have X:∀{h:G},W9 (pos 35) [.p t.x 0] e=A (.b L,h)->jj W9 70 2 [.n (-1),.n c,.p t.x 0] e=jj W9 70 2 [.n (-1),.n ((c+1:D):K),.p t.x 0] h:=λ{h} w=>by rw[Pw.2.2.1];simp only[QY,QB,Pw.2.2.2.1,Pw.2.2.2.2,H (Bh (a:=c) (by omega)), *]
    by_cases m:f.2=0
    .rw[Ad (λq=>q m)]at b;let⟨h,J,w,g,Q,s⟩:=Y m
     have N:=VJ r k o j m;have W:(c+1)<=f.1.round:=by
      have:f.1.round=a.round+1:=by
       unfold KH at j;simp only[]at j;by_cases I:(C3 t.l (Br t.l a) (a.round+1) ⟨a.Ac,a.Am,a.round+1,a.AA⟩ (Br t.l a).l).2=0;.rw[Ad (λq=>q I)]at j;have P:=Oy r k.X k.r0 _ (CK _) I;exact(UH j).2.1.t P.Dj.round
       .grind
      omega
     let⟨xk,xl⟩:=hO r M N W g Q b
     constructor;.grind
     .grind
    .rw[Af m]at b;cases b
     refine⟨λq=>BF q m,λ_=> ?_⟩;let⟨h,S,J,w,g,s⟩:=Z m
     let⟨xn,xh,xf,xj⟩:=g.Hw
     have xb:¬((c+1:D):K)= -1:=by omega
     refine⟨h,S,J,(X w).t ?_,g,s⟩;rw[Pw.2.2.1];simp only[QY,QB, *];exact eH g
theorem qT(r:BD t.l){n E y:D}(w:n=400){d:G}{e:Ai}{m:C (C (C K))}{b:Ai×K}(l:G8 t.l e)(o:Bj t d e m 0 u)(p:CJ e m)(x:HW t.l n E y e=A b):(b.2=0->∃a f,W9 (pos 70) [.p t.x 0,.n (-1)] d=A (.n 0,a)/\Bj t a b.1 f 0 u/\CJ b.1 f/\Bo u d a)/\(b.2≠0->∃a s f,W9 (pos 70) [.p t.x 0,.n (-1)] d=A (.n b.2,a)/\Bj t a s f b.2 u/\Bo u d a):=by
 let⟨F,H⟩:=hO (c:=0) r w l l.r0 o p x
 constructor
 .intro k;let⟨j,i,z,g,q,h⟩:=F k
  exact⟨j,i,AZ B B (by rw[Pw.1];grind),g,q,h⟩
 .intro k;let⟨j,v,i,z,g,h⟩:=H k
  exact⟨j,v,i,AZ B B (by rw[Pw.1];grind),g,h⟩
end
def HP(b:C N)(a:D):C N:=D4::(b.t a++BG (b.l-a) AO)
theorem t5{b:C _}{a:D}{c:N}(h:b[a]? =A c):(HP b a).set (a+1) c=HP b (a+1):=by have d:=(AdN.1 h).1;unfold HP;rw[List.set_cons_succ,Af3 _ _ (by grind),Aef,show a-min a _=0 by omega,show b.l-a=(b.l-(a+1))+1 by omega,Ae4,Afs,<-FL h,AeN];rfl
theorem t4{b:C _}{a:D}(h:b[a]? =A AO):HP b (a+1)=HP b a:=by have c:=(AdN.1 h).1;unfold HP;rw[show b.l-a=(b.l-(a+1))+1 by omega,Ae4,<-FL h,AeN];rfl
theorem t3{b:C _}{a:D}(c:a<b.l):(HP b a)[a+1]? =A AO:=by unfold HP;grind
theorem rt{c:D}{a:N}(h:B5 c a)(b:a.Ak=0):a=AO:=by
 unfold B5 Gt at h;rw[Af Om]at h;let⟨d,e⟩:=a
 have b:d=0:=b;have h:e=0:=by grind
 rw[b,h];rfl
theorem Aa6{h:G}{l:C _}{b:T}{f:C AE}(j:h.M b=A (.I 8 [Z Ab.c l,.sn,Z AE.c f,.n 0,.n 0,.sn,.sn,.n 0]))(m:Lv h b):BZ (λd=>if d=b then .Ex else .C5) h l b ⟨[],f,0,0⟩ [] 0 (λ_=>.sn)where
 M:=j
 lv:=m
 B3:=Af B
 tg:=λi _ d n=>BF (Cg d) n
 Db:=λi=>by
  cases i with
  |Ac=>exact Aw.sn h
  |An a=>intro e;grind
  |AG a=>intro e;grind
  |AD a k=>intro g c;cases c
  |AS a=>intro e;grind
  |Bn=>exact Aw.sn h
  |A4 a=>intro g c;grind
  |B1 a k=>intro g o c;grind
  |Am=>exact Aw.sn h
  |Ex=>trivial
  |C5=>trivial
  |BC a=>trivial
theorem Aan{l:C Ab}{a:Ab}{b:K}(d:C AE)(e:C N):CJ ⟨[{Dl l a b (-1) (-1) 0 with An:=e}],d,0,0⟩ [In l a.Av]:=by
 refine CJ.PA ((⟨B,P,P⟩:CJ ⟨[],d,0,0⟩ []).Km (i:=l) a b (-1) (-1) 0 D4) ⟨B,λc=> ?_⟩
 cases c with
 |zero=>exact⟨B,B,B,B⟩
 |succ c=>exact⟨B,B,B,B⟩
section
variable{l:C Ab} {h:G} {t:T->Prop}
theorem lG(w:BD l){xq xV:D}(xN:xq=400){e:AQ}(xb:JS (I8 l) e=0)(E:(Co e.l e.BT).2.2=0){u:Ai×K}(xp:Ib l xq xV (Ip l e)=A u)(xK:∀M,t M->Lv h M){S:T}(xI:h.M S=A (.I 1 (Bp (Co e.l e.BT).1))){W:D}(yl:CH l GN=W):∃(V:EC)(v:G)(xk:Ai)(xl:C (C (C K))),V.l=l/\jj W9 34 5 [Z Ab.c l,.p S 0,.n W,Z N.c (Co e.l e.BT).2.1] h=A (.AB [.p V.x 0,.n u.2],v)/\Bj V v xk xl u.2 t/\(u.2=0->xk=u.1/\CJ u.1 xl)/\Bo t h v:=by
 let⟨g,f,yk,xm,yn,ym,x7,x4⟩:=cx w xb E
 have xC:g=W:=by omega
 subst xC;have xh:=cy w xb E;let⟨yd,ye,yf,yg⟩:=Um xb
 let⟨x5,yq,x0⟩:=dV (a:=e) (by omega) E
 have yc:=Y5 (a:=e) (by omega) E;have xF:Ip l e=⟨[{Dl l f g (-1) (-1) 0 with An:=D4::(Co e.l e.BT).2.1}],(Co e.l e.BT).1,0,0⟩:=by unfold Ip;grind
 generalize(Co e.l e.BT).2.1=c at*;generalize(Co e.l e.BT).1=j at*;have x3:=w.Bc g f xm;have xZ:h.AL S 0 1=A (Bp j):=BB xI;have xx:Cb [.sn,.sn,.n 0,.n 0] [(1,1)] [.S (Bp j)]=A (.S [.sn,Z AE.c j,.n 0,.n 0]):=B;have xy:Cb [.sn,.sn,.sn,.n 0,.n 0,.sn,.sn,.n 0] [(0,1),(1,4)] [Z Ab.c l,.S [.sn,Z AE.c j,.n 0,.n 0]]=A (.S [Z Ab.c l,.sn,Z AE.c j,.n 0,.n 0,.sn,.sn,.n 0]):=B;let⟨k,xn,xP,xL,xr,xH,xU,xW⟩:=box h (.I 8 [Z Ab.c l,.sn,Z AE.c j,.n 0,.n 0,.sn,.sn,.n 0])
 have U:∀(xf:F->G->R),bl (.p h.next 0) (h.V (.I (Bq (F.I (.S [Z Ab.c l,.sn,Z AE.c j,.n 0,.n 0,.sn,.sn,.n 0]))) (F.I (.S [Z Ab.c l,.sn,Z AE.c j,.n 0,.n 0,.sn,.sn,.n 0])))) xf=xf (.p k 0) xn:=Dy h _ xP xL;have xw:=Aa6 xH xU;have xs:Bj ⟨l,k⟩ xn ⟨[],j,0,0⟩ [] 0 t:=⟨_,_,xw,λM xO=>⟨xr.lv (xK M xO),Ad (λyh=>xW (by grind))⟩⟩;let⟨_,xJ⟩:=ah w xs B (AeA _) xm (-1) (-1) 0 D4
 let⟨z,xR,y,x8⟩:=xJ (by grind)
 have xB:J6 l f g (-1) (-1) 0 D4={Dl l f g (-1) (-1) 0 with An:=HP c 0}:=by unfold J6 HP;rw[show f.An.n=c.l+1 by omega,Ae4,Afs];rfl
 have y:Bj ⟨l,k⟩ z ⟨[J6 l f g (-1) (-1) 0 D4],j,0,0⟩ [In l f.Av] 0 t:=y;rw[xB]at y;have yo:c.l<1000000:=by omega
 let⟨⟨⟩,xa,X,xe,ya⟩:=Dh (h:=c.l) (f:=λd _ h=>jj W9 34 2 [Z N.c c,.n d,.p k 0] h) (g:=λd _ v=>Bj ⟨l,k⟩ v ⟨[{Dl l f g (-1) (-1) 0 with An:=HP c d}],j,0,0⟩ [In l f.Av] 0 t/\Bo t z v)
  (λd _ xo xc xu=>by
   let⟨xt,yb⟩:=xu
   let⟨o,J⟩:=Bb xc
   have xA:=Cm xc;have xS:A9 2 xo [.pi (N.c o)]=A (.S (N.c o)):=B;have yp:=t3 xc;have xM:d+1<(HP c d).l:=by grind
   let⟨p,r,q,xg⟩:=aj xt (a:=0) (b:=d+1) (by grind) xM o
   have r:W9 (pos 77) [.p k 0,.n 0,.n (d+1:D),.S (N.c o)] xo=_:=r;have xD:(FG (Ai.at ⟨[{Dl l f g (-1) (-1) 0 with An:=HP c d}],j,0,0⟩ 0) (d+1) o).1={Dl l f g (-1) (-1) 0 with An:=HP c (d+1)}:=by
    have xX:GQ {Dl l f g (-1) (-1) 0 with An:=HP c d} (d+1)=AO:=by show((HP c d)[d+1]?).g AO=AO;grind
    show(FG {Dl l f g (-1) (-1) 0 with An:=HP c d} (d+1) o).1=_;by_cases xj:o.Ak=0;.rw[Xg (.i xj)];have:=rt (x0 o (AdU J)) xj;subst this;rw[t4 J]
    .rw[gu (by rintro(U|U);grind;exact U (by rw[xX];rfl))];show({Dl l f g (-1) (-1) 0 with An:=(HP c d).set (d+1) o})=_;rw[t5 J]
   have q:Bj ⟨l,k⟩ p ⟨[(FG (Ai.at ⟨[{Dl l f g (-1) (-1) 0 with An:=HP c d}],j,0,0⟩ 0) (d+1) o).1],j,0,0⟩ [In l f.Av] 0 t:=q;rw[xD]at q;refine⟨(),p,?_,q,P⟩;show jj W9 34 2 _ _=jj W9 34 2 _ _;have xQ:=Bh (a:=d) (by omega);rw[G1.2.2.2.2.2.2.2.2.2.1];simp only[QY,DF N.c c,xA,G1.2.2.2.2.2.2.2.2.2.2.1,xQ,HZ J,xS,r,G1.2.2.2.2.2.2.2.2.2.2.2])
  (b:=()) (a:=z) ⟨y,P⟩
 have X:jj W9 34 2 [Z N.c c,.n 0,.p k 0] z=jj W9 34 2 [Z N.c c,.n c.l,.p k 0] xa:=X;have xE:HP c c.l=D4::c:=by unfold HP;grind
 rw[xE]at xe;rw[xF]at xp xh;have xv:=Aan (l:=l) (a:=f) (b:=g) j (D4::c);let⟨x1,x2⟩:=gb w xN xp xh xe xv
 have xz:=CA c.l;have x9:Bo t h xa:=by grind
 have yj:∀{p:G}{Y:K},W9 (pos 58) [.p k 0] xa=A (.AB [],p)->p.Ap k 7=A (.n Y)->jj W9 34 5 [Z Ab.c l,.p S 0,.n g,Z N.c c] h=A (.AB [.p k 0,.n Y],p):=λ{p Y} r xd=>by rw[G1.2.2.2.2.2.2.2.1];simp only[↓U,↓Q,↓QT,AdM,↓H xZ,↓H xx,↓H xy,↓ai.H B,↓H xR];rw[X,G1.2.2.2.2.2.2.2.2.2.1];simp only[QY,DF N.c c,xz,G1.2.2.2.2.2.2.2.2.1,r,xd]
 by_cases xi:u.2=0
 .let⟨p,xG,r,q,x6,xg⟩:=x1 xi
  let⟨o,xY,xT,xd⟩:=q.Hw
  grind
 .let⟨p,yi,xG,r,q,xg⟩:=x2 xi
  let⟨o,xY,xT,xd⟩:=q.Hw
  grind
end
