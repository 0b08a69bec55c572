/- Part of the proof. -/
import Derived.Test.YtmnfpdedgnfeiaaGreatMbo
import Derived.Test.YtmnfpdedgnfeiaaGreatMbq
set_option linter.all false
noncomputable section
open Option renaming some->A,getD->Option.g,bind->Option.b
open _root_ renaming rfl->B,List->C,Nat->D,Int->K,if_neg->Ad,if_pos->Af,Bool->Ak,cond->An,absurd->A_,decide_eq_false->Ba,decide_eq_true->Be
open Bool renaming true->L,false->Ac
open Decidable renaming decide->Au
open List renaming replicate->Bv,length->List.l,map->List.m,take->List.t,drop->List.d
open Nat renaming le_refl->C6
open Go.IntKind renaming i64->Go.IntKind.n
open Array renaming toList->Array.l
open Eq renaming trans->Eq.t,symm->Eq.s
open Or renaming inl->Or.i,inr->Or.j
open Int renaming toNat->Int.n
namespace Go.Proofs.YtmnfpdedgnfeiaaGreat
open Go.Fg
theorem jY{h:G}{b:Aa}{a:D}{c:F}(d:AW h [.p b a]=A c):BV .Dg [.p b a] h c=L:=by show KT (AW h [.p b a]) c=L;rw[d];exact NR _
open Classical in
def SB(b:Aa->Bz)(h:G):Aa->Bz:=λa=>if Lv h a then b a else .DK
theorem Zr{b:Aa->Bz}{h:G}{a:Aa}(c:Lv h a):SB b h a=b a:=Af c
theorem kB{c:Aa->Bz}{h:G}{a:Aa}(b:¬Lv h a):SB c h a=.DK:=Ad b
theorem Cs.kA{f:Aa->Bz}{h c:G}{d:C _}{g:Aa}{e:Ah}{v:C (C (C K))}{b:K}{a:Bz->F}(i:Cs f h d g e v b a)(k:AR h c):Cs (SB f h) c d g e v b a:=i.UW λl j=>⟨P,P,Zr j⟩
structure KA(t:Fu)(k:Ah)(v:C (C (C K)))(u:Aa->Prop)(l m:D)(n:AD)(i:C M)(h:G)(c d b:Aa)(f:F)(g:Aa->Bz)(j:Bz->F):Prop where
 X:Cs g h t.l t.x k v 0 j
 hF:∀a,((u a\/a=c)\/(a=d\/a=b))\/¬AE f a->Lv h a/\g a=.DK
 g4:h.N c=A (.I 2 (A8.c ⟨(l:K),(m:K)⟩))
 g8:h.N d=A (.I 4 (AD.c n))
 sS:h.N b=A (.I 2 (M.c (EL i)))
 o:Ro h f M.c 2 i
 ap:∀a,((u a\/a=c)\/(a=d\/a=b))->AE f a
section
variable{t:Fu} {h:G} {e:Ah} {v:C (C (C K))} {u:Aa->Prop}
theorem Aew(ye:Bj t.l)(yE:Bn t.l e)(yb:Bx t h e v 0 u){d k:D}(xf:d<e.T.l){xk:D}{V:Ab}{g:AD}(I:DU t.l xk V (e.at d))(xd:V.Ay[k]? =A g)(U:K)(xN:e.Aq≠6000):
  ∃xK m r E p zd yf,xx W9 91 [.p t.x 0,.S (A8.c ⟨d,k⟩),.n U] h=jj W9 91 6 [.b (Au (g.op=1\/g.op=2\/g.op=3)),.b (Au ((EL (g.AT.m (A9 (e.at d)))).Ai=5)),.p E 0,.i .u8 g.op,.p t.x 0,.p r 0,.p m 0,yf (.Aw d k),p] xK/\
   KA t (Bm e ⟨d,k⟩ U) v u d k g (g.AT.m (A9 (e.at d))) xK m r E p zd yf/\BD u h xK:=by
 have yd:=(ye.A4 xk V I.hb).Ao k g xd
 have zh:=yd.some ye
 have zu:=(Aid.1 xd).1
 let⟨zt,xn⟩:=yE.W.Aq
 let⟨m,xL,y1,yX,xt,yN,zy,zB⟩:=box h (.I 2 (A8.c ⟨d,k⟩))
 have x9:∀(yc:F->G->R),bl (.p h.next 0) (h.V (.I (BK (F.I (.S (A8.c ⟨d,k⟩)))) (F.I (.S (A8.c ⟨d,k⟩))))) yc=yc (.p m 0) xL:=Em h (.I 2 (A8.c ⟨d,k⟩)) y1 yX
 let⟨ze,xj,yg,yP⟩:=((yb.V xt).sub P:Bx t xL e v 0 (λc=>u c\/c=m))
 have x7:xL.AA t.x 4=A (.n e.Aq):=AJ yg.N 4
 have xG:=GJ (a:=e.Aq) (b:=1) (by omega) (by omega)
 let⟨yo,x3,T,yC⟩:=yg.MH (e.Aq+1)
 let⟨yr,yA⟩:=yC.FQ (by grind) yP
 have xH:=(yA m P).t yN
 have xw:yo.AA m 0=A (.n d):=AJ xH 0
 have xy:yo.AA m 1=A (.n k):=AJ xH 1
 let⟨s,xO,_⟩:=T.Cy xf
 let⟨p,xc,xR,zb,xh,yj⟩:=YM T xf ⟨⟨xk,I.ha,I.hb⟩,xd⟩ (I.Dj yd.AT) (by omega)
 let⟨xr,J,xu,yQ⟩:=((Bx.V (n:=t) (p:=λc=>u c\/c=m) ⟨ze,xj,T,yr⟩ xh).sub λc o=>by
  rcases o with o|o;.grind
  .exact .j ⟨λy6=>o (yj c y6),P⟩:Bx t xc ⟨e.T,e.Ae,e.round,e.Aq+1⟩ v 0 (λc=>(u c\/c=m)\/¬AE p c))
 have xI:=(xh.N P).t xH
 have xz:xc.AA m 1=A (.n k):=AJ xI 1
 have zc:xc.AA t.x 1=A (xj .T):=(AJ ((xh.N T.lv).t T.N) 1)
 have xF:J .T=xj .T:=by have:=xu.cv;grind
 have xW:An (BV .Dg [.p m 0] xc (.n d)) (An (BV .Dg [.p t.x 1] xc (xj .T)) L Ac) Ac=L:=by rw[Lh (AJ xI 0:xc.AA m 0=A (.n d)),Lh zc];rfl
 let⟨yH,y3,zk,zl,zm,zn,zo,zp,xB⟩:=xu.Cy xf
 rw[xF]at y3
 have yR:s=yH:=by grind
 subst yR
 let⟨zs,yV⟩:=Bo (b:=(e.at d).AI) (a:=k) (by rw[I.AI];grind)
 let⟨zj,q,xQ,_,x4,Y,yD⟩:=xu.eu (a:=d) xf yV U
 let⟨xS,yB⟩:=yD.FQ (by grind) yQ
 have Y:Cs xr q t.l t.x (Bm e ⟨d,k⟩ U) v 0 J:=Y
 have yl:=(yB m P).t xI
 have xA:q.AA m 1=A (.n k):=AJ yl 1
 have xD:(Bm e ⟨d,k⟩ U).at d={e.at d with AI:=(e.at d).AI.set k U}:=Hc xf
 have xo:d<(Bm e ⟨d,k⟩ U).T.l:=by show d<(e.T.set _ _).l;grind
 have x0:q.AA t.x 0=A (Z Ab.c t.l):=AJ Y.N 0
 let⟨yI,y4,xa,xb,xe,yi,zq,xC,zr⟩:=Y.Cy xo
 rw[xF]at y4
 have yS:s=yI:=by grind
 subst yS
 rw[xD]at xa
 have xa:AW q [.p s (d*7+0)]=A (.n xk):=by rw[xa];show A (F.n (e.at d).A4)=_;rw[I.ha]
 let⟨zz,yq⟩:=Bo (b:=(e.at d).AB) (a:=k) (by rw[I.AB];grind)
 let⟨xl,xP,zf⟩:=Y.E_ (b:=d) (a:=k) xo (by rw[xD];exact yq)
 have x1:AW q [.p xl (k*1)]=A (J (.Aw d k)):=zf
 have xn:Bt 2 [.pi (Ab.c V)]=A (.pi ((Ab.c V).d 2)):=B
 have xU:AW q [.pi ((Ab.c V).d 2)]=A (Z AD.c V.Ay):=B
 have xV:Bf 4 q [.pi (AD.c g)]=A (.S (AD.c g)):=B
 let⟨r,x,xq,yY,xi,yO,y9,za⟩:=box q (.I 4 (AD.c g))
 let⟨ya,x5⟩:=F0 q (b:=4) [.i .u8 0,.s [],.n 0,.sn] (c:=AD.c g) xq yY B B
 have xv:=Y.kA xi
 have xM:∀c,((u c\/c=m)\/c=r)\/¬AE p c->Lv x c/\SB xr q c=.DK:=λc o=>by
  rcases o with(o|rfl)|o;.have:=xS c P;exact⟨P,by rw[Zr P];grind⟩
  .exact⟨y9,kB za⟩
  .have:=xS c P;exact⟨P,by rw[Zr P];grind⟩
 have ym:=(xi.N P).t yl
 have zA:∀{c:Aa}{X:D}{x6:F},AW q [.p c X]=A x6->Lv q c->AW x [.p c X]=A x6:=λ{c X x6} y2 zv=>by show x.AA c X=_;rw[((ea (by grind) X 0).2:x.AA c X=q.AA c X)];exact y2
 let⟨yJ,y5,_,_,_,_,_,yL,_⟩:=xv.Cy xo
 rw[xF]at y5
 have yT:s=yJ:=by grind
 subst yT
 let⟨yK,zw,zg⟩:=xv.E_ (b:=d) (a:=k) xo (by rw[xD];exact yq)
 have yU:xl=yK:=by grind
 subst yU
 have xX:An (BV .Dg [.p xl (k*1)] x (J (.Aw d k))) (An (BV .Dg [.p m 1] x (.n k)) (An (BV .Dg [.p s (d*7+5)] x (J (.AB d))) L Ac) Ac) Ac=L:=by rw[jY (zg:AW x [.p xl (k*1)]=A (J (.Aw d k))),Lh (AJ ym 1:x.AA m 1=A (.n k)),jY yL];rfl
 have yx:AF x p M.c 2 (g.AT.m (A9 (e.at d))):=by exact(zb.Av P:AF q p M.c 2 (g.AT.m (A9 (e.at d)))).ext xi
 let⟨z,yM,y⟩:=B6.F9 (t:=λc=>¬AE p c) (B6.cons (Fs.CC (a:=M.c) (g:=2) (λc g=>g) (λ_=>B) (λ_=>B) yx) (B6.nil 2 x)) (by omega)
 have xT:=uA (g.AT.m (A9 (e.at d))) (by grind) x _ z yM
 have yy:Ro z p M.c 2 (g.AT.m (A9 (e.at d))):=yx.ro.Av λc yv xm o yz yp=>⟨y.p.1 c yv xm yp,by rw[y.l];grind⟩
 let⟨E,W,xp,yW,N,yk,y7,yw⟩:=box z (.I 2 (M.c (EL (g.AT.m (A9 (e.at d))))))
 let⟨x8,x2⟩:=F0 z (b:=2) [.i .u8 0,.n 0] (c:=M.c (EL (g.AT.m (A9 (e.at d))))) xp yW B B
 have yh:∀c,(u c\/c=m)->AE p c:=λc o=>yj c P
 have zi:AE p r:=by grind
 have yn:z.N r=A (.I 4 (AD.c g)):=(y.o r P).t yO
 have yu:Lv z r:=by rw[y.l];grind
 have y8:Lv z m:=by rw[y.l];grind
 have xZ:W.AA E 0=A (.i .u8 (EL (g.AT.m (A9 (e.at d)))).Ai):=AJ yk 0
 have xY:W.AA r 0=A (.i .u8 g.op):=AJ ((N.N yu).t yn) 0
 have xE:=Cz .u8 (EL (g.AT.m (A9 (e.at d)))).Ai 5
 have yF:AE p E:=Aih λxg=>yw (yy.Dh xg)
 have yG:∀c,((u c\/c=m)\/(c=r\/c=E))->AE p c:=λc o=>by
  rcases o with o|rfl|rfl;.grind
  .grind
  .exact yF
 refine⟨W,m,r,E,p,_,J,?_,⟨((xv.Av λc o yZ=>⟨y.o c (λyz=>yZ (xM c (.j yz)).2),by rw[y.l];grind⟩:Cs (SB xr q) z t.l t.x (Bm e ⟨d,k⟩ U) v 0 J).kA N),(λc o=>by
  by_cases xm:c=E;.subst xm;exact⟨y7,kB yw⟩
  .have y0:((u c\/c=m)\/c=r)\/¬AE p c:=by grind
   have:=xM c y0;have yt:Lv z c:=by rw[y.l];grind
   exact⟨N.lv yt,by rw[Zr yt];grind⟩:∀c,((u c\/c=m)\/(c=r\/c=E))\/¬AE p c->Lv W c/\SB (SB xr q) z c=.DK),(N.N y8).t ((y.o m (λxg=>xg (yh m (.j B)))).t ym:z.N m=A (.I 2 (A8.c ⟨d,k⟩))),(N.N yu).t yn,yk,(yy.Av λc yv xm o _ yp=>⟨by rw[N.N o];grind,N.lv o⟩:Ro W p M.c 2 (g.AT.m (A9 (e.at d)))),yG⟩,λc o=> ?_⟩
 .have xJ:∀(xs:Ak),xs=Au (g.op=1\/g.op=2\/g.op=3)->jj W9 91 6 [.b xs,.b (Au ((EL (g.AT.m (A9 (e.at d)))).Ai=5)),.p E 0,.i .u8 g.op,.p t.x 0,.p r 0,.p m 0,J (.Aw d k),p] W=jj W9 91 6 [.b (Au (g.op=1\/g.op=2\/g.op=3)),.b (Au ((EL (g.AT.m (A9 (e.at d)))).Ai=5)),.p E 0,.i .u8 g.op,.p t.x 0,.p r 0,.p m 0,J (.Aw d k),p] W:=λxs h=>by rw[h]
  rw[r91];by_cases xb:g.op=1;.rw[<-xJ L (by rw[Be (.i xb)])];simp only[↓x9,↓ya,↓x8,↓Q,↓QT,Aic,↓H (R2 t.x),↓H (Fp t.x),↓H x7,xN,d7,↓H xG,↓H x3,↓H T.cv,↓H xw,↓H xO,↓H xy,↓H xR,↓Jz xW,↓H (H4 s d 6),↓H xB,↓H xz,↓H xQ,↓H x4,↓H x0,↓H (H4 s d 0),↓H xa,↓H (Da I.hb),↓H xn,↓H xU,↓H xA,↓H (Gq xd),↓H xV,↓H (H4 s d 5),↓H xC,↓H xP,↓H x1,xq,↓H x5,↓Jz xX,↓H xT,xp,↓H x2,↓H xZ,↓H xE,↓H xY,xb]
  .by_cases xe:g.op=2;.rw[<-xJ L (by rw[Be (.j (.i xe))])];simp only[↓x9,↓ya,↓x8,↓Q,↓QT,Aic,Int.reduceEq,↓H (R2 t.x),↓H (Fp t.x),↓H x7,xN,d7,↓H xG,↓H x3,↓H T.cv,↓H xw,↓H xO,↓H xy,↓H xR,↓Jz xW,↓H (H4 s d 6),↓H xB,↓H xz,↓H xQ,↓H x4,↓H x0,↓H (H4 s d 0),↓H xa,↓H (Da I.hb),↓H xn,↓H xU,↓H xA,↓H (Gq xd),↓H xV,↓H (H4 s d 5),↓H xC,↓H xP,↓H x1,xq,↓H x5,↓Jz xX,↓H xT,xp,↓H x2,↓H xZ,↓H xE,↓H xY,xb,xe]
   .rw[<-xJ (Au (g.op=3)) (by by_cases yi:g.op=3<;>simp[xb,xe,yi])];simp only[↓x9,↓ya,↓x8,↓Q,↓QT,Aic,↓H (R2 t.x),↓H (Fp t.x),↓H x7,xN,d7,↓H xG,↓H x3,↓H T.cv,↓H xw,↓H xO,↓H xy,↓H xR,↓Jz xW,↓H (H4 s d 6),↓H xB,↓H xz,↓H xQ,↓H x4,↓H x0,↓H (H4 s d 0),↓H xa,↓H (Da I.hb),↓H xn,↓H xU,↓H xA,↓H (Gq xd),↓H xV,↓H (H4 s d 5),↓H xC,↓H xP,↓H x1,xq,↓H x5,↓Jz xX,↓H xT,xp,↓H x2,↓H xZ,↓H xE,↓H xY,xb,xe,↓H (Cz .u8 g.op 3)]
 .have ys:=(λc o=>yb.Dy o:∀c,u c->Lv h c) c o;have zx:=xt.lv ys;rw[N.N (by rw[y.l];exact(xM c (.i (.i (.i o)))).1),y.o c (λxg=>xg (yh c (.i o):AE p c)),xi.N (xS c (.i (.i o))).1,yB c (.i (.i o)),xh.N (yr c (.i o)).1,yA c (.i o),xt.N ys]
end
def KY(v:Fu)(b:Ah)(z:C (C (C K)))(c:K)(y:Aa->Prop)(h:G)(d:R):Prop:=∃a,d=A (.AC [],a)/\Bx v a b z c y/\BD y h a
theorem k3{a:Ah}{i j b:D}(f:i<a.T.l)(e c:M):(a.Aw i j b e).Aw i j b c=a.Aw i j b c:=by
 unfold Ah.Aw
 rw[Hc f,MD]
 congr 1
 show({(a.at i)with AB:=C5 (C5 (a.at i).AB j b e) j b c})={(a.at i)with AB:=C5 (a.at i).AB j b c}
 congr 1
 unfold C5
 cases d:(a.at i).AB[j]?with
 |none=>simp only[d]
 |some g=>rw[AiF (Aid.1 d).1];simp only[];rw[Ajn,Ajn]
section
variable{v:Fu} {h:G} {t:Ah} {z:C (C (C K))} {y:Aa->Prop} {i j:D} {n:AD} {r:C M} {p o q:Aa} {u:F} {s:Aa->Bz} {w:Bz->F}
theorem PH{h:G}{d:Aa->Prop}(l:Cs s h v.l v.x t z 0 w)(x:∀a,d a->Lv h a/\s a=.DK){c:D}(F:F1 t i j c)(f:M):∃e b,AZ 2 [w (.Aw i j),.n c]=A (.p e (c*2))/\A1 2 h [.p e (c*2),.S (M.c f)]=A (Ax,b)/\Cs s b v.l v.x (t.Aw i j c f) z 0 w/\(∀a,d a->Lv b a/\s a=.DK)/\BD d h b:=by
 let⟨Q,S,U,g,H,I⟩:=F
 have E:=(Aid.1 g).1;have m:=DM g;subst m;let⟨e,b,R,_,_,T,J,k⟩:=l.Q9 E H I f
 let⟨N,P⟩:=k.FQ (by grind) x
 grind
theorem KA.AM(f:KA v t z y i j n r h p o q u s w)(E:F1 t i j 0)(e:M):∃b a,AZ 2 [w (.Aw i j),.n 0]=A (.p b (0*2))/\A1 2 h [.p b (0*2),.S (M.c e)]=A (Ax,a)/\Bx v a (t.Aw i j 0 e) z 0 y/\BD y h a:=by
 let⟨b,a,g,k,l,m,x⟩:=PH f.X f.hF E e
 exact⟨b,a,g,k,⟨s,w,l,λd c=>m d (.i (.i (.i c)))⟩,λd c=>x d (.i (.i (.i c)))⟩
theorem sc(b:KA v t z y i j n r h p o q u s w)(d:Ak)(F:n.op=7)(m:F1 t i j 0){a:M}(k:r[0]? =A a):KY v (t.Aw i j 0 a) z 0 y h (jj W9 91 6 [.b Ac,.b d,.p q 0,.i .u8 n.op,.p v.x 0,.p o 0,.p p 0,w (.Aw i j),u] h):=by
 let⟨g,c,G,_⟩:=b.o.Kv k
 have c:AZ 2 [u,.n 0]=A (.p g (0*2)):=c;let⟨x,l,E,H,e,f⟩:=b.AM m a
 refine⟨l,?_,e,f⟩;rw[L6];simp only[QY,Int.reduceEq, *]
theorem r8(b:KA v t z y i j n r h p o q u s w)(d:Ak)(G:n.op=14)(x:F1 t i j 0){a:M}(k:r[0]? =A a):KY v (t.Aw i j 0 (MS a)) z 0 y h (jj W9 91 6 [.b Ac,.b d,.p q 0,.i .u8 n.op,.p v.x 0,.p o 0,.p p 0,w (.Aw i j),u] h):=by
 let⟨g,c,H,_⟩:=b.o.Kv k
 have c:AZ 2 [u,.n 0]=A (.p g (0*2)):=c;have l:=uE a;let⟨E,m,F,I,e,f⟩:=b.AM x (MS a)
 refine⟨m,?_,e,f⟩;rw[L6];simp only[QY,Int.reduceEq,l.H B, *]
theorem sb(d:KA v t z y i j n r h p o q u s w)(X:Ak)(U:n.op=6)(m:F1 t i j 0){c F:M}(P:r[0]? =A c)(xd:r[1]? =A F):KY v (t.Aw i j 0 (if c.Ai=0 then F else c)) z 0 y h (jj W9 91 6 [.b Ac,.b X,.p q 0,.i .u8 n.op,.p v.x 0,.p o 0,.p p 0,w (.Aw i j),u] h):=by
 let⟨e,g,V,_⟩:=d.o.Kv P
 have g:AZ 2 [u,.n 0]=A (.p e (0*2)):=g;let⟨N,S,k,W,I,l,G⟩:=PH d.X d.hF m c
 have k:AZ 2 [w (.Aw i j),.n 0]=A (.p N (0*2)):=k;have E:Ro S u M.c 2 r:=d.o.Av λa xp xc b xj xm=>⟨by grind,(l a (.j xj)).1⟩;let⟨Z,xn,_,T⟩:=E.Kv P
 have xg:e=Z:=by grind
 subst xg;have R:Bt 0 [.p e (0*2)]=A (.p e (0*2+0)):=by rw[F6]
 let⟨xa,x,xk,_⟩:=E.Kv xd
 have x:AZ 2 [u,.n 1]=A (.p xa (1*2)):=x;have xi:i<t.T.l:=by let⟨xc,_,_,E,_⟩:=m;grind
 by_cases f:c.Ai=0
 .rw[Af f];let⟨xb,xe,xo,xl,J,xf,Y⟩:=PH I l (m.Aw i j 0 c) F
  have xh:N=xb:=by grind
  subst xh;rw[k3 xi]at J;refine⟨xe,?_,⟨s,w,J,λa b=>xf a (.i (.i (.i b)))⟩,λa b=>(Y a (.i (.i (.i b)))).t (G a (.i (.i (.i b))))⟩;rw[L6];simp only[↓Q,↓QT,Aic,Int.reduceEq,U,↓H g,↓H V,↓H k,↓H W,↓H R,↓H T,f,↓H x,↓H xk,↓H xl]
 .rw[Ad f];refine⟨S,?_,⟨s,w,I,λa b=>l a (.i (.i (.i b)))⟩,λa b=>G a (.i (.i (.i b)))⟩;rw[L6];simp only[↓Q,↓QT,Aic,Int.reduceEq,U,↓H g,↓H V,↓H k,↓H W,↓H R,↓H T,f]
theorem r6(b:KA v t z y i j n r h p o q u s w)(d:Ak)(I:n.op=13)(x:F1 t i j 0){a:M}(k:r[0]? =A a)(E:BN t.Ae.l a):KY v (t.Aw i j 0 (HI t.Ae a)) z 0 y h (jj W9 91 6 [.b Ac,.b d,.p q 0,.i .u8 n.op,.p v.x 0,.p o 0,.p p 0,w (.Aw i j),u] h):=by
 let⟨g,c,J,_⟩:=b.o.Kv k
 have c:AZ 2 [u,.n 0]=A (.p g (0*2)):=c;have l:=uF t.Ae a (Q6 E);have P:h.AU v.x 2 1=A (B3 t.Ae):=by rw[EA b.X.N,Af (by omega),Ad (by omega)];rfl
 let⟨F,m,G,N,e,f⟩:=b.AM x (HI t.Ae a)
 refine⟨m,?_,e,f⟩;rw[L6];simp only[QY,Int.reduceEq,H (VT v.x),l.H B, *]
end
section
variable{v:Fu} {h:G} {t:Ah} {r:C (C (C K))} {z:Aa->Prop} {i j:D} {n:AD} {y:C M} {q o p:Aa} {u:F} {s:Aa->Bz} {w:Bz->F}
theorem km{e:Aa->Prop}(E:Cs s h v.l v.x t r 0 w)(Q:∀k,e k->Lv h k/\s k=.DK)(R:F1 t i j 0)(g:C AG)(l:M)(f:K):∃b c d a,A1 1 h [.p v.x 2,.S (B3 g)]=A (Ax,c)/\AZ 2 [w (.Aw i j),.n 0]=A (.p b (0*2))/\A1 2 c [.p b (0*2),.S (M.c l)]=A (Ax,d)/\A1 1 d [.p v.x 7,.n f]=A (Ax,a)/\Bx v a (Ah.Aw ⟨t.T,g,t.round,t.Aq⟩ i j 0 l) r f e/\BD e h a:=by
 let⟨c,T,F,m⟩:=E.md g
 let⟨I,W⟩:=m.FQ (by grind) Q
 let⟨b,d,S,U,G,J,X⟩:=PH F I (R.of B) l
 let⟨a,V,H,x⟩:=G.S1 f
 let⟨N,Y⟩:=x.FQ (by grind) J
 exact⟨b,c,d,a,T,S,U,V,⟨s,w,H,N⟩,P⟩
theorem r2(b:KA v t r z i j n y h q o p u s w)(d:Ak)(J:n.op=10)(m:F1 t i j 0){a:M}(k:y[0]? =A a)(e:Gg t.Ae):KY v (Ah.Aw ⟨t.T,(C7 t.Ae a).1,t.round,t.Aq⟩ i j 0 (C7 t.Ae a).2.1) r (C7 t.Ae a).2.2 z h (jj W9 91 6 [.b Ac,.b d,.p p 0,.i .u8 n.op,.p v.x 0,.p o 0,.p q 0,w (.Aw i j),u] h):=by
 let⟨g,c,N,_⟩:=b.o.Kv k
 have c:AZ 2 [u,.n 0]=A (.p g (0*2)):=c;have T:h.AU v.x 2 1=A (B3 t.Ae):=by rw[EA b.X.N,Af (by omega),Ad (by omega)];rfl
 let⟨E,F,G,l,Q,I,R,S,f,x⟩:=km b.X b.hF m (C7 t.Ae a).1 (C7 t.Ae a).2.1 (C7 t.Ae a).2.2
 refine⟨l,?_,f.sub P,P⟩;rw[L6];simp only[QY,Int.reduceEq,H (VT v.x),(uG t.Ae e.ok a).H B, *]
theorem r4(c:KA v t r z i j n y h q o p u s w)(x:Ak)(U:n.op=12)(N:F1 t i j 0){a b:M}(G:y[0]? =A a)(I:y[1]? =A b)(E:Gg t.Ae)(T:BN t.Ae.l a)(xc:i<1000)(xd:j<1000):KY v (Ah.Aw ⟨t.T,(Ds t.Ae a b (1000*i+j)).1,t.round,t.Aq⟩ i j 0 (Ds t.Ae a b (1000*i+j)).2.1) r (Ds t.Ae a b (1000*i+j)).2.2 z h (jj W9 91 6 [.b Ac,.b x,.p p 0,.i .u8 n.op,.p v.x 0,.p o 0,.p q 0,w (.Aw i j),u] h):=by
 let⟨f,d,k,_⟩:=c.o.Kv G
 have d:AZ 2 [u,.n 0]=A (.p f (0*2)):=d;let⟨g,e,l,_⟩:=c.o.Kv I
 have e:AZ 2 [u,.n 1]=A (.p g (1*2)):=e;have m:h.AU v.x 2 1=A (B3 t.Ae):=by rw[EA c.X.N,Af (by omega),Ad (by omega)];rfl
 have S:An (BV (.ld 2) [.p g (1*2)] h (.S (M.c b))) (An (BV (.ld 2) [.p f (0*2)] h (.S (M.c a))) (An (BV (.ld 1) [.p v.x 2] h (.S (B3 t.Ae))) L Ac) Ac) Ac=L:=by rw[Ux (by rw[Gk,l];rfl),Ux (by rw[Gk,k];rfl),Ux (by rw[Gk,m];rfl)];rfl
 let⟨Z,xa,xb,J,V,R,W,X,F,Y⟩:=km c.X c.hF N (Ds t.Ae a b (1000*i+j)).1 (Ds t.Ae a b (1000*i+j)).2.1 (Ds t.Ae a b (1000*i+j)).2.2
 refine⟨J,?_,F.sub P,P⟩;rw[L6];simp only[↓Q,↓QT,Aic,Int.reduceEq,U,↓H (VT v.x),↓H m,↓H d,↓H k,↓H e,↓H l,↓H (AJ c.g4 0:h.AA q 0=A (.n i)),↓H (AJ c.g4 1:h.AA q 1=A (.n j)),↓(uJ i j (by omega) (by omega)).H B,↓Jz S,↓(uI t.Ae E.ok a b (1000*i+j) (Q6 T)).H B,↓H V,↓H R,↓H W,↓H X]
theorem r_(b:KA v t r z i j n y h q o p u s w)(l:Ak)(W:n.op=4)(J:F1 t i j 0)(I:y.l=DZ n.Bk)(N:0<DZ n.Bk)(Q:∀T∈y,QX T):KY v (t.Aw i j 0 (Iu n.Bk y)) r 0 z h (jj W9 91 6 [.b Ac,.b l,.p p 0,.i .u8 n.op,.p v.x 0,.p o 0,.p q 0,w (.Aw i j),u] h):=by
 let⟨f,F,d⟩:=B6.F9 (t:=λa=>¬AE u a) (B6.cons ((Fs.im (c:=h) (a:=.s n.Bk) B).up (by omega)) (B6.cons (b.o.fs (h:=λa=>¬AE u a) (λa n=>n) (λ_=>B) (λ_=>B)) (B6.nil 2 h))) (by omega)
 have V:=uC n.Bk y I N Q h _ f F;have U:=b.g8;let⟨E,G,g,X,m,x,R⟩:=PH (b.X.Av λa e M=>⟨d.o a (λk=>M (b.hF a P).2),by rw[d.l];grind⟩) (λa e=>⟨by rw[d.l];exact(b.hF a P).1,(b.hF a P).2⟩:∀a,z a->Lv f a/\s a=.DK) J (Iu n.Bk y)
 have g:AZ 2 [w (.Aw i j),.n 0]=A (.p E (0*2)):=g;refine⟨G,?_,⟨s,w,m,x⟩,λa e=>(R a e).t (d.o a (λk=>k (b.ap a P)))⟩;rw[L6];simp only[QY, *]
end
theorem AeM{c:D}{a b:M}(h:BN c a):Xo a b=D1 a b:=by
 let⟨d,e⟩:=a
 unfold Xo D1 ET;unfold BN GP BY at h;grind
theorem qT{e:C _}{c:Ab}{j:D}{n:AD}(z:Ib e c j n)(h:n.op=1\/n.op=2\/n.op=3){b:M}(d:b.Ai≠5):KF n b=TI n:=by
 unfold KF TI;rw[Ad d];rcases h with h|h|h;.grind
 .rw[Ad (by omega),Af h,Ad (by omega),Af h];rcases z.num h with a|a<;>rw[a]<;>rfl
 grind
section
variable{v:Fu} {h:G} {t:Ah} {r:C (C (C K))} {z:Aa->Prop} {i j:D} {n:AD} {y:C M} {q o p:Aa} {u:F} {s:Aa->Bz} {w:Bz->F}
theorem r1(c:KA v t r z i j n y h q o p u s w)(e:F1 t i j 0){T:C Ab}{F:Ab}{S:D}(E:Ib T F S n)(U:n.op=1\/n.op=2\/n.op=3){a:M}(H:y=[a]):KY v (t.Aw i j 0 (KF n a)) r 0 z h (jj W9 91 6 [.b L,.b (Au ((EL y).Ai=5)),.p p 0,.i .u8 n.op,.p v.x 0,.p o 0,.p q 0,w (.Aw i j),u] h):=by
 have d:EL y=if a.Ai=5 then a else AK:=by rw[H];rfl
 have l:=uB n;have xa:=c.g8;let⟨k,m,x,xc,f,N,V⟩:=PH c.X c.hF e (TI n)
 have x:AZ 2 [w (.Aw i j),.n 0]=A (.p k (0*2)):=x;have R:i<t.T.l:=by let⟨b,_,_,Z,_⟩:=e;grind
 by_cases b:a.Ai=5
 .rw[Af b]at d;have I:=c.sS;rw[d]at I⊢;have xb:m.AU p 0 2=A (M.c a):=B2 P;let⟨G,J,Y,xd,g,X,W⟩:=PH f N (e.Aw i j 0 (TI n)) a
  have Q:k=G:=by grind
  subst Q;rw[k3 R]at g;unfold KF;rw[Af b];rw[Be b];refine⟨J,?_,⟨s,w,g,P⟩,P⟩;rw[L6];simp only[QY,l.H B, *]
 .rw[Ad b]at d;rw[d,qT E U b];refine⟨m,?_,⟨s,w,f,P⟩,P⟩;have:Au (AK.Ai=5)=Ac:=B;rw[this,L6];simp only[QY,l.H B, *]
theorem sa(d:KA v t r z i j n y h q o p u s w)(E:Ak)(xe:n.op=5){b c:M}(N:y[0]? =A b)(Q:y[1]? =A c){F:D}(X:BN F b){f:D}(U:(D1 b c).1=f)(V:F1 t i j f):KY v (t.Aw i j f (D1 b c).2) r 0 z h (jj W9 91 6 [.b Ac,.b E,.p p 0,.i .u8 n.op,.p v.x 0,.p o 0,.p q 0,w (.Aw i j),u] h):=by
 let⟨I,m,xf,_⟩:=d.o.Kv N
 have m:AZ 2 [u,.n 0]=A (.p I (0*2)):=m;let⟨J,x,xg,_⟩:=d.o.Kv Q
 have x:AZ 2 [u,.n 1]=A (.p J (1*2)):=x;have g:=uD b c;rw[AeM X,U]at g;let⟨Y,k,W,T,e,R,xc,xd⟩:=box h (.I 2 (M.c (D1 b c).2))
 let⟨xk,xi⟩:=F0 h (b:=2) [.i .u8 0,.n 0] (c:=M.c (D1 b c).2) W T B B
 have xh:k.AU Y 0 2=A (M.c (D1 b c).2):=B2 R;let⟨xa,S,xb,xj,G,H,Z⟩:=PH (d.X.ext e) (λa l=>⟨e.lv (d.hF a P).1,(d.hF a P).2⟩:∀a,z a->Lv k a/\s a=.DK) V (D1 b c).2
 refine⟨S,?_,⟨s,w,G,H⟩,λa l=>(Z a l).t (e.N (d.hF a P).1)⟩;rw[L6];simp only[QY,Int.reduceEq,g.H B, *]
end
def HC(c:M)(b:C M)(a:D):C M:=(b.t a).m (λ_=>c)++b.d a
theorem rU(b:M)(a:C _):HC b a 0=a:=rfl
theorem rS(b:M)(a:C M):HC b a a.l=a.m λ_=>b:=by unfold HC;grind
theorem bS(c:M)(a:C M){b:D}(d:b<=a.l):(HC c a b).l=a.l:=by unfold HC;grind
theorem rT(c:M)(b:C M){a:D}(f:a<b.l):(HC c b a).set a c=HC c b (a+1):=by
 unfold HC;let⟨g,d,e⟩:=Eh f
 rw[Akx _ _ (by grind),Aiw,AiH,show a-min a b.l=0 by omega,e,AjX,<-Gv d,AiZ,Ajr];rfl
section
variable{v:Fu} {h:G} {t:Ah} {q:C (C (C K))} {r:Aa->Prop} {i j:D} {n:AD} {o:C M} {y z p:Aa} {u:F} {m:Aa->Bz} {w:Bz->F}
theorem r3(d:KA v t q r i j n o h y z p u m w)(l:Ak)(U:n.op=11){a b c:M}(x:o[0]? =A a)(E:o[1]? =A b)(F:o[2]? =A c)(s:Gg t.Ae)(H:BN t.Ae.l a)(G:t.T.l<=400)(R:(CD t.Ae a b c).2.1.l<1000000)(S:∀J∈(CD t.Ae a b c).2.1,Ju t J):((DE t ⟨2,a,b,c,0⟩).2.2=0->KY v (DE t ⟨2,a,b,c,0⟩).1 q 0 r h (jj W9 91 6 [.b Ac,.b l,.p p 0,.i .u8 n.op,.p v.x 0,.p z 0,.p y 0,w (.Aw i j),u] h))/\((DE t ⟨2,a,b,c,0⟩).2.2≠0->KY v t q (DE t ⟨2,a,b,c,0⟩).2.2 r h (jj W9 91 6 [.b Ac,.b l,.p p 0,.i .u8 n.op,.p v.x 0,.p z 0,.p y 0,w (.Aw i j),u] h)):=by
 let⟨N,Q⟩:=uH (⟨m,w,d.X,λI T=>d.hF I P⟩:Bx v h t q 0 r) d.o x E F s H G R S
 constructor
 .intro k;let⟨g,_,e,f⟩:=N k
  refine⟨g,?_,e,f⟩;rw[L6];simp only[QY,Int.reduceEq, *]
 .intro k;let⟨g,_,e,f⟩:=Q k
  refine⟨g,?_,e,f⟩;rw[L6];simp only[QY,Int.reduceEq, *]
theorem eO(c:KA v t q r i j n o h y z p u m w)(b:Ak)(a:n.op=8\/n.op=9):jj W9 91 6 [.b Ac,.b b,.p p 0,.i .u8 n.op,.p v.x 0,.p z 0,.p y 0,w (.Aw i j),u] h=jj W9 91 5 [.b L,.p v.x 0,.p z 0,.p y 0,w (.Aw i j),u] h:=by
 rw[L6];rcases a with a|a;.simp only[↓Q,↓QT,Aic,Int.reduceEq,a]
 .simp only[↓Q,↓QT,Aic,Int.reduceEq,a]
theorem sd(N:Bj v.l)(a:KA v t q r i j n o h y z p u m w)(c:Ak)(Y:n.op=8\/n.op=9){b:M}(xb:o[0]? =A b)(S:b.Ai≠5)(xg:q.l=t.T.l)(xh:t.T.l<=400){k:D}{l:Ab}(xf:CO v.l n.Bk=k)(xe:v.l[k]? =A l):(t.T.l=400->KY v t q 5 r h (jj W9 91 6 [.b Ac,.b c,.p p 0,.i .u8 n.op,.p v.x 0,.p z 0,.p y 0,w (.Aw i j),u] h))/\(t.T.l≠400->KY v ⟨t.T++[KQ v.l l k i j 0 b],t.Ae,t.round,t.Aq⟩ (q++[IR v.l l.Ay]) 0 r h (jj W9 91 6 [.b Ac,.b c,.p p 0,.i .u8 n.op,.p v.x 0,.p z 0,.p y 0,w (.Aw i j),u] h)):=by
 let⟨d,e,J,U⟩:=a.o.Kv xb
 have e:AZ 2 [u,.n 0]=A (.p d (0*2)):=e;have T:Bt 0 [.p d (0*2)]=A (.p d (0*2+0)):=by rw[F6]
 have xa:h.AA _ 0=A (Z Ab.c v.l):=AJ a.X.N 0;have R:h.AA z 1=A (.s n.Bk):=AJ a.g8 1;have s:=TY v.l n.Bk (by have:=N.AX;omega);rw[xf]at s;have F:h.AA y 0=A (.n i):=AJ a.g4 0;have G:h.AA y 1=A (.n j):=AJ a.g4 1;have V:An (BV .Dg [.p y 0] h (.n i)) L Ac=L:=by rw[Lh F];rfl
 have W:An (BV .Dg [.p y 1] h (.n j)) L Ac=L:=by rw[Lh G];rfl
 have X:An (BV (.ld 2) [.p d (0*2)] h (.S (M.c b))) L Ac=L:=by rw[Ux (by rw[Gk,J];rfl)];rfl
 let⟨xc,xd⟩:=cl N (⟨m,w,a.X,λxi xj=>a.hF xi P⟩:Bx v h t q 0 r) xg xh xe i j 0 b
 constructor
 .intro I;let⟨x,E,f,g⟩:=xc I
  refine⟨x,?_,f,g⟩;rw[eO a c Y,d6];simp only[↓Q,↓QT,Aic,↓H e,↓H T,↓H U,S,↓H xa,↓H R,↓s.H B,↓H F,↓Jz V,↓H G,↓Jz W,↓H J,↓Jz X,↓H E]
 .intro I;let⟨x,E,f,g⟩:=xd I
  refine⟨x,?_,f,g⟩;rw[eO a c Y,d6];simp only[↓Q,↓QT,Aic,↓H e,↓H T,↓H U,S,↓H xa,↓H R,↓s.H B,↓H F,↓Jz V,↓H G,↓Jz W,↓H J,↓Jz X,↓H E]
theorem se(f:KA v t q r i j n o h y z p u m w)(E:Ak)(xp:n.op=8\/n.op=9){b:M}(T:o[0]? =A b)(xA:b.Ai=5)(g:i<t.T.l){a:C M}(xl:(t.at i).AB[j]? =A a)(xF:a.l<1000000):KY v (t.AM i {t.at i with AB:=(t.at i).AB.set j (a.m λ_=>b)}) q 0 r h (jj W9 91 6 [.b Ac,.b E,.p p 0,.i .u8 n.op,.p v.x 0,.p z 0,.p y 0,w (.Aw i j),u] h):=by
 let⟨H,W,xI,xG⟩:=f.o.Kv T
 have W:AZ 2 [u,.n 0]=A (.p H (0*2)):=W;have xC:Bt 0 [.p H (0*2)]=A (.p H (0*2+0)):=by rw[F6]
 have xt:jj W9 91 6 [.b Ac,.b E,.p p 0,.i .u8 n.op,.p v.x 0,.p z 0,.p y 0,w (.Aw i j),u] h=jj W9 91 1 [w (.Aw i j),u,.n 0] h:=by rw[eO f E xp,d6];simp only[QY,AcP, *]
 let⟨⟨⟩,e,J,xa⟩:=Ez (h:=a.l) (f:=λc _ h=>jj W9 91 1 [w (.Aw i j),u,.n c] h) (g:=λc _ e=>c<=a.l->Cs m e v.l v.x (t.AM i {t.at i with AB:=(t.at i).AB.set j (HC b a c)}) q 0 w/\(∀d,((r d\/d=y)\/(d=z\/d=p))\/¬AE u d->Lv e d/\m d=.DK)/\BD (λd=>((r d\/d=y)\/(d=z\/d=p))\/¬AE u d) h e)
  (λc _ xh V Z=>by
   let⟨R,U,xb⟩:=Z (by omega)
   have xx:(t.AM i {t.at i with AB:=(t.at i).AB.set j (HC b a c)}).at i={t.at i with AB:=(t.at i).AB.set j (HC b a c)}:=Hc g;have xk:i<(t.AM i {t.at i with AB:=(t.at i).AB.set j (HC b a c)}).T.l:=by rw[D0];grind
   have X:((t.AM i {t.at i with AB:=(t.at i).AB.set j (HC b a c)}).at i).AB[j]? =A (HC b a c):=by grind
   let⟨xu,xq⟩:=Bo (b:=HC b a c) (a:=c) (by rw[bS b a (by omega)];grind)
   have x:=C4 (R.D8 (.Aw i j) _ X);rw[bS b a (by omega)]at x;let⟨xy,xi,xm,xs,S,xj,xc⟩:=PH R U (c:=c) ⟨_,_,xu,Cu xk,X,xq⟩ b
   let⟨xd,Q,xr,_⟩:=(f.o.Av λd xH xz N Y xE=>⟨by grind,(U d (.j Y)).1⟩:Ro xh u M.c 2 o).Kv T
   have Q:AZ 2 [u,.n 0]=A (.p xd (0*2)):=Q;have xg:(t.AM i {t.at i with AB:=(t.at i).AB.set j (HC b a c)}).Aw i j c b=t.AM i {t.at i with AB:=(t.at i).AB.set j (HC b a (c+1))}:=by
    have xe:({t.at i with AB:=(t.at i).AB.set j (HC b a c)}).Aw j c b={t.at i with AB:=(t.at i).AB.set j (HC b a (c+1))}:=by
     have xf:C5 ((t.at i).AB.set j (HC b a c)) j c b=(t.at i).AB.set j (HC b a (c+1)):=by rw[UZ (AiF (Aid.1 xl).1) c b,Ajn,rT b a V]
     exact Aij (λxn=>({t.at i with AB:=xn})) xf
    unfold Ah.Aw;rw[Hc g];rw[MD,xe]
   rw[xg]at S;refine⟨(),xi,?_,λ_=>⟨S,xj,λd N=>(xc d N).t (xb d N)⟩⟩;rw[ls];simp only[QY,x,(Dx V),AcO,Q,xr,xm,xs,AcN,BF (a:=c) (by omega)])
  (b:=()) (a:=h) (λ_=>⟨by
   have:t.AM i {t.at i with AB:=(t.at i).AB.set j (HC b a 0)}=t:=by
    rw[rU];have:(t.at i).AB.set j a=(t.at i).AB:=by
     refine Ajc λxv=> ?_;by_cases Y:xv=j;.grind
     .grind
    rw[this];exact ME g
   rw[this];exact f.X,f.hF,P⟩)
 let⟨G,xD,xw⟩:=xa Om
 have J:jj W9 91 1 [w (.Aw i j),u,.n 0] h=jj W9 91 1 [w (.Aw i j),u,.n a.l] e:=J;have xo:((t.AM i {t.at i with AB:=(t.at i).AB.set j (HC b a a.l)}).at i).AB[j]? =A (HC b a a.l):=by rw[Hc g];grind
 have x:=C4 (G.D8 (.Aw i j) _ xo);rw[bS b a Om]at x;rw[rS]at G;have xB:=Dz a.l;refine⟨e,?_,⟨m,w,G,P⟩,P⟩;rw[xt,J,ls];simp only[QY, *]
end
structure IE(e b:Ah):Prop where
 AX:b.T.l=e.T.l
 Cp:∀a,(b.at a).AN=(e.at a).AN/\(b.at a).Ao=(e.at a).Ao/\(b.at a).As=(e.at a).As/\(b.at a).A5=(e.at a).A5
theorem IE.refl(e:Ah):IE e e:=⟨B,P⟩
theorem IE.AQ{c d f:Ah}(h:IE c d)(b:IE d f):IE c f:=⟨b.AX.t h.AX,λa=>⟨(b.Cp a).1.t (h.Cp a).1,(b.Cp a).2.1.t (h.Cp a).2.1,(b.Cp a).2.2.1.t (h.Cp a).2.2.1,(b.Cp a).2.2.2.t (h.Cp a).2.2.2⟩⟩
theorem IE.of{e a:Ah}(h:a.T=e.T):IE e a:=⟨by grind,λb=>by unfold Ah.at;grind⟩
theorem Do.QH{e f:Ah}{w:C (C (C K))}(c:Do e w)(a:IE e f):Do f w:=by refine⟨by rw[a.AX];exact c.AX,λb g m=>by rw[(a.Cp b).2.2.2];exact c.E_ b _ m,λb n o g p q j k l=> ?_⟩;unfold BT;rw[(a.Cp b).2.2.2];refine(c.Cy b n o g p q j k l).E9 λd i=>⟨?_,(a.Cp d).2.2.1⟩;unfold By at i⊢;rw[a.AX,(a.Cp d).1,(a.Cp d).2.1];grind
theorem d4{e:Ah}{a:D}{b:AP}(h:b.AN=(e.at a).AN/\b.Ao=(e.at a).Ao/\b.As=(e.at a).As/\b.A5=(e.at a).A5):IE e (e.AM a b):=⟨D0 ..,λd=>by
 by_cases c:a<e.T.l;.rw[Ee c];grind
 .have:e.AM a b=e:=by
   unfold Ah.AM
   rw[List.set_eq_of_length_le (by omega)]
  grind⟩
theorem ZC(e:Ah)(a b c:D)(d:M):IE e (e.Aw a b c d):=d4 ⟨B,B,B,B⟩
theorem mU:∀(a:C BM)(e:Ah),IE e (a.foldl GW e)
 |[],e=>IE.refl e
 |b::a,e=>(ZC e _ _ _ _).AQ (mU a (GW e b))
theorem Aez(e:Ah)(a:A8)(b:K):IE e (Bm e a b):=
 (d4 (e:=e) (a:=a.F3.n) (b:={e.at a.F3.n with AI:=(e.at a.F3.n).AI.set a.Ao.n b}) ⟨B,B,B,B⟩).AQ (IE.of B)
def au(t:Fu)(b:Ah×K)(u:Aa->Prop)(h:G)(d:R):Prop:=
 (b.2=0->∃a c,d=A (.AC [],a)/\Bx t a b.1 c 0 u/\Do b.1 c/\BD u h a)/\(b.2≠0->∃a f c,d=A (.AC [],a)/\Bx t a f c b.2 u/\BD u h a)
theorem VE{t:Fu}{h:G}{b:Ah}{w:C (C (C K))}{u:Aa->Prop}{d f:D}{a:Ah×M×K}{g:M}(l:a=(b,g,0))(k:Do b w){i:R}(j:∃c,i=A (.AC [],c)/\Bx t c (b.Aw d f 0 g) w 0 u/\BD u h c):au t (if a.2.2≠0 then(a.1,a.2.2)else(a.1.Aw d f 0 a.2.1,0)) u h i:=by
 subst l;let⟨p,m,n,o⟩:=j
 exact⟨λ_=>⟨p,w,m,n,k.QH (ZC _ _ _ _ _),o⟩,P⟩
theorem bw{t:Fu}{h:G}{a:Ah}{w:C (C (C K))}{u:Aa->Prop}{l m:D}{c:Ah×M×K}{j:C AG}{n:M}{f:K}(d:c=if f≠0 then(a,AK,f)else(⟨a.T,j,a.round,a.Aq⟩,n,0))(q:Do a w){o:R}(p:∃i,o=A (.AC [],i)/\Bx t i (Ah.Aw ⟨a.T,j,a.round,a.Aq⟩ l m 0 n) w f u/\BD u h i):au t (if c.2.2≠0 then(c.1,c.2.2)else(c.1.Aw l m 0 c.2.1,0)) u h o:=by
 let⟨v,r,k,s⟩:=p
 by_cases g:f=0;.rw[Ad Om]at d;subst d;rw[g]at k;exact⟨λ_=>⟨v,w,r,k,q.QH (IE.AQ (d:=⟨a.T,j,a.round,a.Aq⟩) (IE.of B) (ZC _ _ _ _ _)),s⟩,P⟩
 .rw[Af g]at d;subst d;rw[Af g];exact⟨P,P⟩
section
variable{t:Fu} {h:G} {e:Ah} {w:C (C (C K))} {u:Aa->Prop}
theorem uo(T:Bj t.l)(y:Bn t.l e)(xo:Bx t h e w 0 u)(xW:Do e w){a c:D}(xd:a<e.T.l)(ya:Gb t.l (e.at a) c=L){n:K}(x4:0<n):au t (Ev t.l e ⟨a,c⟩ n) u h (W9 (Ar 91) [.p t.x 0,.S (A8.c ⟨a,c⟩),.n n] h):=by
 by_cases xl:e.Aq=6000
 .have x2:Ev t.l e ⟨a,c⟩ n=(e,5):=by unfold Ev;grind
  rw[x2];refine⟨Om,λ_=> ?_⟩;let⟨yh,xI,yy,yt,xT,yr,yB,yC⟩:=box h (.I 2 (A8.c ⟨a,c⟩))
  have yw:∀xu,u xu->Lv h xu:=λxu x9=>xo.Dy x9;let⟨xO,xy,xz,x5⟩:=xo.ext xT
  have yI:=xz.N;let⟨x,yF,xY,xX⟩:=xz.S1 5
  let⟨xg,xp⟩:=xX.FQ (by grind) x5
  refine⟨x,e,w,Bd B B ?_,⟨xO,xy,xY,xg⟩,P⟩;rw[r91];simp only[QY,H (R2 t.x), *]
 let⟨xg,xp,d,yq,Q,xk,x6,yb,xf⟩:=Yy (m:=⟨t.l,[],0,.h⟩) T y xd ya
 have Q:DU t.l xg xp (e.at a):=Q;rw[(bY xf n xl)];have U:=my y xd P (ei y x6 yb) x4 xl;have xw:=T.A4 xg xp Q.hb;have N:=xw.Ao c d xk;have yn:=N.some T;have ym:=N.op;have yu:=(Aid.1 xk).1;have ys:=xw.Ay;have yx:=y.W.sh.AX;have x7:a<(Bm e ⟨a,c⟩ n).T.l:=by rw[U.AX];grind
 have o:Do (Bm e ⟨a,c⟩ n) w:=xW.QH (Aez e _ n);let⟨xI,yh,yE,yD,yH,xO,xy,g,q,yo⟩:=Aew T y xo xd Q xk n xl
 have xQ:∀Y∈d.AT.m (A9 (e.at a)),BN e.Ae.l Y:=λY xL=>by obtain⟨xe,_,rfl⟩:=AiR.1 xL;exact y.W.A9 a xe
 have xn:∀E,E<d.AT.l->∃Y,(d.AT.m (A9 (e.at a)))[E]? =A Y/\BN e.Ae.l Y:=λE yv=>by
  let⟨Y,xL⟩:=Bo (b:=d.AT.m (A9 (e.at a))) (a:=E) (by grind)
  grind
 have xb:=U.Ae;have xJ:∀{E},F1 e a c E->F1 (Bm e ⟨a,c⟩ n) a c E:=λh=>h.PN _ _;have yl:∀X,Ju e X->Ju (Bm e ⟨a,c⟩ n) X:=λX h=>h.PN _ _;let⟨xM,xt⟩:=Bo (b:=((Bm e ⟨a,c⟩ n).at a).AB) (a:=c) (by have yi:=U.C0.BG a xd;have:=Aij List.length yi.AB;rw[Aiw,Aiw]at this;rw[this,Q.AB];grind)
 have x8:xM.l<1000000:=by have xR:=Q.BG (U.C0.BG a xd);have:=xR.Aw c d xM xk xt;have:=SK T d;omega
 have p:∀{xB:Ah}{xG:C (C (C K))}{xD:K}(xe:R),xx W9 91 [.p t.x 0,.S (A8.c ⟨a,c⟩),.n n] h=xe->KY t xB xG xD u xI xe->∃xc,W9 (Ar 91) [.p t.x 0,.S (A8.c ⟨a,c⟩),.n n] h=A (.AC [],xc)/\Bx t xc xB xG xD u/\BD u h xc:=λxe xl xS=>by
  let⟨xc,k,xU,yp⟩:=xS
  exact⟨xc,Bd B B P,xU,P⟩
 generalize yz:d.AT.m (A9 (e.at a))=xv at*;generalize Bm e ⟨a,c⟩ n=k at*;by_cases W:d.op=8\/d.op=9
 .rw[Af W];rw[Ba (by omega)]at g;let⟨j,f,xN⟩:=xn 0 (by omega)
  let⟨xZ,x0,xE,xF,_⟩:=N.call W
  rw[KK f];unfold H0;by_cases z:j.Ai=5
  .rw[Ad Om];simp only[Aif];rw[xt,Aiz];refine⟨λ_=> ?_,Om⟩;let⟨x,F,G,I⟩:=p _ g (se q _ W f z x7 xt x8)
   exact⟨x,w,F,G,o.QH (d4 ⟨B,B,B,B⟩),I⟩
  .rw[Af z];obtain⟨xs,xH⟩:=sd T q _ W f z o.AX (by rw[U.AX];grind) xE xF;unfold ED;by_cases xj:k.T.l=400
   .rw[Af xj];refine⟨λJ=>A_ J (by omega),λ_=> ?_⟩;let⟨x,F,G,I⟩:=p _ g (xs xj)
    grind
   .rw[Ad xj,xE,Aif,xF];refine⟨λ_=> ?_,λJ=>A_ B J⟩;let⟨x,F,G,I⟩:=p _ g (xH xj)
    exact⟨x,_,F,G,o.K1 x0 xZ a c 0 j,I⟩
 rw[Ad W];by_cases Z:d.op=11
 .rw[Af Z];rw[Ba (by omega)]at g;let⟨j,M,xP,f,s,xC,_,yj,yk⟩:=xf.st Z
  rw[KK f,KK s,KK xC];have xN:=xQ j (Ail f);obtain⟨xs,xH⟩:=r3 q _ Z f s xC (by rw[xb];exact y.W.E8) (by grind) (by rw[U.AX];grind) (by rw[xb];exact yj) (λX xK=>yl X (yk X (by rw[xb]at xK;exact xK)));constructor
  .intro J;let⟨x,F,G,I⟩:=p _ g (xs J)
   refine⟨x,_,F,G,?_,I⟩;rw[kq]at J⊢;by_cases x1:(CD k.Ae j M xP).2.2=0;.rw[Ad (λE=>E x1)];exact o.QH (IE.AQ (d:=⟨k.T,(CD k.Ae j M xP).1,k.round,k.Aq⟩) (IE.of B) (mU _ _))
   .grind
  .grind
 rw[Ad Z];by_cases z:d.op=5
 .rw[Af z];rw[Ba (by omega)]at g;let⟨j,M,f,s,_,yG,r⟩:=xf.sw z
  rw[KK f,KK s];refine⟨λ_=> ?_,λJ=>A_ B J⟩;let⟨x,F,G,I⟩:=p _ g (sa q _ z f s (xQ j (Ail f)) (by omega) (xJ r))
  exact⟨x,w,F,G,o.QH (ZC _ _ _ _ _),I⟩
 rw[Ad z];let⟨xV,r⟩:=xf.cQ W Z z
 have r:=xJ r;let⟨j,f,xN⟩:=xn 0 (by omega)
 have xm:Cd xv 0=j:=KK f;by_cases xr:d.op=1\/d.op=2\/d.op=3
 .rw[Be xr]at g;have yA:=N.F_ (by omega);have x3:xv=[j]:=by cases xv<;>grind
  refine VE ?_ o (p _ g (r1 q r N xr x3));unfold CV;grind
 rw[Ba xr]at g;by_cases V:d.op=4
 .let⟨ye,yf,yg⟩:=xV.SS V
  refine VE ?_ o (p _ g (r_ q _ V r ye yf yg));unfold CV;grind
 by_cases xa:d.op=6
 .have yc:=N.KU Om;let⟨M,s,yd⟩:=xn 1 (by omega)
  refine VE ?_ o (p _ g (sb q _ xa r f s));unfold CV;rw[Ad V,Af xa,xm,KK s]
 by_cases xi:d.op=7;.refine VE ?_ o (p _ g (sc q _ xi r f));unfold CV;grind
 by_cases xh:d.op=10;.refine bw (j:=(C7 k.Ae j).1) (n:=(C7 k.Ae j).2.1) (f:=(C7 k.Ae j).2.2) ?_ o (p _ g (r2 q _ xh r f (by rw[xb];exact y.W.E8)));unfold CV;rw[Ad V,Ad xa,Ad xi,Af xh,xm,Og P];rfl
 by_cases xq:d.op=12
 .have yc:=N.KU Om;let⟨M,s,yd⟩:=xn 1 (by omega)
  refine bw (j:=(Ds k.Ae j M (1000*a+c)).1) (n:=(Ds k.Ae j M (1000*a+c)).2.1) (f:=(Ds k.Ae j M (1000*a+c)).2.2) ?_ o (p _ g (r4 q _ xq r f s (by rw[xb];exact y.W.E8) (by grind) (by omega) (by omega)));unfold CV;rw[Ad V,Ad xa,Ad xi,Ad xh,Af xq,xm,KK s,Og P];rfl
 by_cases xA:d.op=13;.refine bw (j:=k.Ae) (n:=HI k.Ae j) (f:=0) ?_ o (p _ g (r6 q _ xA r f (by grind)));unfold CV;rw[Ad V,Ad xa,Ad xi,Ad xh,Ad xq,Af xA,xm,Og P];rfl
 refine VE ?_ o (p _ g (r8 q _ Om r f));unfold CV;grind
end
section
variable{t:Fu} {h:G} {e:Ah} {y:C (C (C K))} {z:K} {v s:Aa->Prop} {u:F}
theorem gT(c:Bx t h e y z s){b:C A8}(d:AF h u A8.c 2 b){a:D}(i:b.l<=a\/z≠0):jj W9 47 3 [u,.n a,.p t.x 0] h=jj W9 47 2 [.p t.x 0] h:=by
 let⟨m,_,j,l⟩:=c.Je
 have k:=C4 d;rw[LV.2.2.2.1];by_cases f:a<(b.l:K)
 .have g:¬z=0:=by grind
  simp only[QY,QB, *]
 .simp only[QY,QB, *]
theorem hK(I:Bj t.l){a:Ah}(m:GI t.l a):∀(M b:D){h:G}{y:C (C (C K))},b+M=(Bp t.l a).l->(C1 t.l (Bp t.l a) (a.round+1) ⟨a.T,a.Ae,a.round+1,a.Aq⟩ b).2=0->Bx t h (C1 t.l (Bp t.l a) (a.round+1) ⟨a.T,a.Ae,a.round+1,a.Aq⟩ b).1 y 0 (λc=>v c\/¬AE u c)->Do (C1 t.l (Bp t.l a) (a.round+1) ⟨a.T,a.Ae,a.round+1,a.Aq⟩ b).1 y->AF h u A8.c 2 (Bp t.l a)->(Bp t.l a).l<1000000000->((C1 t.l (Bp t.l a) (a.round+1) ⟨a.T,a.Ae,a.round+1,a.Aq⟩ (Bp t.l a).l).2=0->∃d x,jj W9 47 3 [u,.n b,.p t.x 0] h=jj W9 47 2 [.p t.x 0] d/\Bx t d (C1 t.l (Bp t.l a) (a.round+1) ⟨a.T,a.Ae,a.round+1,a.Aq⟩ (Bp t.l a).l).1 x 0 (λc=>v c\/¬AE u c)/\Do (C1 t.l (Bp t.l a) (a.round+1) ⟨a.T,a.Ae,a.round+1,a.Aq⟩ (Bp t.l a).l).1 x/\BD (λc=>v c\/¬AE u c) h d)/\((C1 t.l (Bp t.l a) (a.round+1) ⟨a.T,a.Ae,a.round+1,a.Aq⟩ (Bp t.l a).l).2≠0->∃d xd x,jj W9 47 3 [u,.n b,.p t.x 0] h=jj W9 47 2 [.p t.x 0] d/\Bx t d xd x (C1 t.l (Bp t.l a) (a.round+1) ⟨a.T,a.Ae,a.round+1,a.Aq⟩ (Bp t.l a).l).2 (λc=>v c\/¬AE u c)/\BD (λc=>v c\/¬AE u c) h d)
 |0,b,h,y,xg,Q,g,E,p,xa=>by
  have:b=(Bp t.l a).l:=by omega
  subst this;exact⟨λ_=>⟨h,y,gT g p Om,g,E,λ_ _=>B⟩,λxn=>A_ Q xn⟩
 |M+1,b,h,y,xg,Q,g,E,p,xa=>by
  have Z:b<(Bp t.l a).l:=by omega
  let⟨xF,o⟩:=Bo Z
  have q:=Oh I m.X m.r0 b (by omega) Q;obtain⟨S,T,rfl,Y,xh⟩:=Sy (Ail o);have xl:¬∃U,U<b/\(Bp t.l a)[U]? =A ⟨S,T⟩:=by
   rintro⟨U,xx,xi⟩
   have xk:(Bp t.l a).Nodup:=WB t.l a.T _
   have:=(Akd (by omega) xk).1 (xi.t o.s)
   omega
  let⟨xo,xp⟩:=uo I q.X g E (Aik Y q.C0.AX) (ZZ (m.X.MH m.X.W.Aq:Bn t.l ⟨a.T,a.Ae,a.round+1,a.Aq⟩) q.C0 (a:=S) (b:=T) Y xl xh) (n:=a.round+1) (by have:=m.r0;omega)
  have X:=Yz (b:=t.l) (d:=a.round+1) (c:=⟨a.T,a.Ae,a.round+1,a.Aq⟩) o;rw[Ad Om]at X;let⟨xJ,xA,xy,xB⟩:=g.Je
  have xC:h.AA t.x 3=A (.n (a.round+1)):=by
   let⟨xD,xt,xc,xw⟩:=g
   rw[AJ xc.N 3];show A (F.n (C1 t.l (Bp t.l a) (a.round+1) ⟨a.T,a.Ae,a.round+1,a.Aq⟩ b).1.round)=_;rw[(q.C0.round:(C1 t.l (Bp t.l a) (a.round+1) ⟨a.T,a.Ae,a.round+1,a.Aq⟩ b).1.round=a.round+1)]
  have xz:=C4 p;let⟨xu,J⟩:=Dm (f:=A8.c) (w:=2) (λ_=>B) p o
  have xE:=J.AU (f:=A8.c) (λ_=>B) o;have xv:=Dx Z;have xb:∀{d:G},BD (λc=>v c\/¬AE u c) h d->(∀c,v c\/¬AE u c->Lv d c)->AF d u A8.c 2 (Bp t.l a):=λxs xq=>p.Av P;by_cases V:(Ev t.l (C1 t.l (Bp t.l a) (a.round+1) ⟨a.T,a.Ae,a.round+1,a.Aq⟩ b).1 ⟨S,T⟩ (a.round+1)).2=0
  .let⟨N,W,xj,n,xr,r⟩:=xo V
   have xf:(C1 t.l (Bp t.l a) (a.round+1) ⟨a.T,a.Ae,a.round+1,a.Aq⟩ (b+1)).2=0:=by grind
   have xG:jj W9 47 3 [u,.n b,.p t.x 0] h=jj W9 47 3 [u,.n (b+1:D),.p t.x 0] N:=by rw[LV.2.2.2.1];simp only[QY,QB,LV.2.2.2.2.1,H J.ia,H (b_ t.x),LV.2.2.2.2.2.1,H (BF (a:=b) (by omega)), *]
   let⟨xH,xI⟩:=hK I m M (b+1) (by omega) xf (by rw[X];exact n) (by grind) (xb r λc R=>n.Dy R) xa
   grind
  .have xm:(C1 t.l (Bp t.l a) (a.round+1) ⟨a.T,a.Ae,a.round+1,a.Aq⟩ (b+1)).2≠0:=by grind
   rw[(b1 xm (Bp t.l a).l (by omega))];refine⟨Om,λ_=> ?_⟩;let⟨N,xe,W,xj,n,r⟩:=xp V
   refine⟨N,xe,W,?_,by grind,r⟩;rw[<-gT n (xb r λc R=>n.Dy R) (a:=b+1) Om,LV.2.2.2.1];simp only[QY,QB,LV.2.2.2.2.1,H J.ia,H (b_ t.x),LV.2.2.2.2.2.1,H (BF (a:=b) (by omega)), *]
theorem tz(n:Bj t.l){Z xA:D}(xt:Z=400)(g:GI t.l e)(o:Bx t h e y 0 v)(xd:Do e y):((Bp t.l e).l=0->∃d,W9 (Ar 47) [.p t.x 0] h=A (.b Ac,d)/\Bx t d e y 0 v/\BD v h d)/\((Bp t.l e).l≠0->∀j,KS t.l Z xA e=A j->(j.2=0->∃d q,W9 (Ar 47) [.p t.x 0] h=A (.b L,d)/\Bx t d j.1 q 0 v/\Do j.1 q/\BD v h d)/\(j.2≠0->∃d xn q,W9 (Ar 47) [.p t.x 0] h=A (.b L,d)/\Bx t d xn q j.2 v/\BD v h d)):=by
 have xs:∀c,v c->Lv h c:=λc f=>o.Dy f;let⟨xS,xM,xk,xP⟩:=o
 let⟨u,V,xv,I,w,xq⟩:=un n xk g.X.W.sh
 have xz:=C4 I;constructor
 .intro xm;have T:((Bp t.l e).l:K)=0:=by omega
  refine⟨V,Bd B B ?_,o.ext w,P⟩;rw[LV.1];simp only[QY,xv,xz,T]
 .intro xm j k;have T:¬((Bp t.l e).l:K)=0:=by omega
  have xu:=eg (b:=⟨t.l,[],0,.h⟩) g.X.W.sh (dD n g.X);have xa:Bx t V e y 0 (λc=>v c\/¬AE u c):=(o.V w).sub λc f=>by
   rcases f with f|f;.grind
   .exact .j ⟨λxw=>f (xq c xw),I.Dh f⟩
  let⟨xE,xj,M,xr⟩:=xa
  have xR:=M.N;have xO:=GJ (a:=e.round) (b:=1) (by have:=g.r0;omega) (by have:=g.rf;have:=g.X.W.Aq;omega);let⟨W,xT,xl,xe⟩:=M.ac (e.round+1)
  let⟨N,Q⟩:=xe.FQ (by grind) xr
  have xb:Bx t W ⟨e.T,e.Ae,e.round+1,e.Aq⟩ y 0 (λc=>v c\/¬AE u c):=⟨xE,xj,xl,N⟩;have xB:=I.Av λc f l=>⟨Q c (.j l),(N c (.j l)).1⟩;let⟨xG,xH⟩:=hK (v:=v) n g (Bp t.l e).l 0 (by omega) B xb (xd.QH (IE.of B)) xB xu
  have xF:∀{J:R},jj W9 47 3 [u,.n ((0:D):K),.p t.x 0] W=J->xx W9 47 [.p t.x 0] h=J:=λ{J} xQ=>by rw[LV.1];simp only[QY,LV.2.1,H (b_ t.x), *];grind
  have xL:=λc f=>(Q c (.i f)).t (w.N (xs c f));unfold KS at k;simp only[]at k;by_cases p:(C1 t.l (Bp t.l e) (e.round+1) ⟨e.T,e.Ae,e.round+1,e.Aq⟩ (Bp t.l e).l).2=0
  .rw[Ad Om]at k;let⟨r,U,X,m,xf,xh⟩:=xG p
   have xc:=Oh n g.X g.r0 _ Om p;let⟨xI,xC,xy,xD⟩:=m.Je
   let⟨xJ,xK⟩:=iy n xt k xc.X m xf
   have xN:∀{i:G},W9 (Ar 89) [.p t.x 0] r=A (.AC [],i)->jj W9 47 2 [.p t.x 0] r=A (.b L,i):=λ{i} Y=>by rw[LV.2.2.1];simp only[QY,LV.2.2.2.2.2.2, *]
   constructor
   .intro l;let⟨i,E,Y,x,xg,xi⟩:=xJ l
    exact⟨i,E,Bd B B P,x.sub P,xg,P⟩
   .intro l;let⟨i,xp,E,Y,x,xi⟩:=xK l
    exact⟨i,xp,E,Bd B B P,x.sub P,P⟩
  .rw[Af p]at k;cases k
   refine⟨Om,λ_=> ?_⟩;let⟨r,xo,U,X,m,xh⟩:=xH p
   let⟨xI,xC,xy,xD⟩:=m.Je
   refine⟨r,xo,U,Bd B B (xF (X.t ?_)),m.sub P,P⟩;rw[LV.2.2.1];simp only[QY,LV.2.2.2.2.2.2, *]
end
section
variable{u:Fu} {t:Aa->Prop}
end
def Iq(b:C M)(a:D):C M:=Di::(b.t a++Bv (b.l-a) AK)
theorem AaJ{b:C _}{a:D}{c:M}(h:b[a]? =A c):(Iq b a).set (a+1) c=Iq b (a+1):=by have d:=(Aid.1 h).1;unfold Iq;rw[List.set_cons_succ,Akx _ _ (by grind),AiH,show a-min a _=0 by omega,show b.l-a=(b.l-(a+1))+1 by omega,AjC,AjX,<-Gv h,Ajr];rfl
theorem AaI{b:C _}{a:D}(h:b[a]? =A AK):Iq b (a+1)=Iq b a:=by have c:=(Aid.1 h).1;unfold Iq;rw[show b.l-a=(b.l-(a+1))+1 by omega,AjC,<-Gv h,Ajr];rfl
theorem AaH{b:C _}{a:D}(c:a<b.l):(Iq b a)[a+1]? =A AK:=by unfold Iq;grind
theorem u9{c:D}{a:M}(h:BN c a)(b:a.Ai=0):a=AK:=by
 unfold BN GP at h;rw[Af Om]at h;let⟨d,e⟩:=a
 have b:d=0:=b;have h:e=0:=by grind
 rw[b,h];rfl
theorem Afe{h:G}{l:C _}{b:Aa}{f:C AG}(j:h.N b=A (.I 8 [Z Ab.c l,.sn,Z AG.c f,.n 0,.n 0,.sn,.sn,.n 0]))(m:Lv h b):Cs (λd=>if d=b then .E2 else .DK) h l b ⟨[],f,0,0⟩ [] 0 (λ_=>.sn)where
 N:=j
 lv:=m
 Ci:=Af B
 tg:=λi _ d n=>A_ (CM d) n
 D8:=λi=>by
  cases i with
  |T=>exact AF.sn h
  |Ap a=>intro e;grind
  |AB a=>intro e;grind
  |Aw a k=>intro g c;cases c
  |AI a=>intro e;grind
  |Bu=>exact AF.sn h
  |A5 a=>intro g c;grind
  |BS a k=>intro g o c;grind
  |Ae=>exact AF.sn h
  |E2=>trivial
  |DK=>trivial
  |Bw a=>trivial
theorem Aey{l:C Ab}{a:Ab}{b:K}(d:C AG)(e:C M):Do ⟨[{Dl l a b (-1) (-1) 0 with Ap:=e}],d,0,0⟩ [IR l a.Ay]:=by
 refine Do.QH ((⟨B,P,P⟩:Do ⟨[],d,0,0⟩ []).K1 (i:=l) a b (-1) (-1) 0 Di) ⟨B,λc=> ?_⟩
 cases c with
 |zero=>exact⟨B,B,B,B⟩
 |succ c=>exact⟨B,B,B,B⟩
section
variable{l:C Ab} {h:G} {t:Aa->Prop}
theorem oF(w:Bj l){xp xU:D}(xM:xp=400){e:AS}(xa:I2 (Il l) e=0)(E:(B1 e.l e.BO).2.2=0){u:Ah×K}(xo:Hf l xp xU (FY l e)=A u)(xJ:∀N,t N->Lv h N){S:Aa}(xH:h.N S=A (.I 1 (B3 (B1 e.l e.BO).1))){V:D}(yk:CO l G4=V):∃(U:Fu)(v:G)(xj:Ah)(xk:C (C (C K))),U.l=l/\jj W9 46 5 [Z Ab.c l,.p S 0,.n V,Z M.c (B1 e.l e.BO).2.1] h=A (.AC [.p U.x 0,.n u.2],v)/\Bx U v xj xk u.2 t/\(u.2=0->xj=u.1/\Do u.1 xk)/\BD t h v:=by
 let⟨g,f,yj,xl,ym,yl,x6,x3⟩:=ai w xa E
 have xB:g=V:=by omega
 subst xB;have xg:=Xk w xa E;let⟨yc,yd,ye,yf⟩:=TF xa
 let⟨x4,yp,xZ⟩:=a4 (a:=e) (by omega) E
 have yb:=a3 (a:=e) (by omega) E;have xE:FY l e=⟨[{Dl l f g (-1) (-1) 0 with Ap:=Di::(B1 e.l e.BO).2.1}],(B1 e.l e.BO).1,0,0⟩:=by unfold FY;grind
 generalize(B1 e.l e.BO).2.1=c at*;generalize(B1 e.l e.BO).1=j at*;have x2:=w.A4 g f xl;have xY:h.AU S 0 1=A (B3 j):=B2 xH;have xw:BE [.sn,.sn,.n 0,.n 0] [(1,1)] [.S (B3 j)]=A (.S [.sn,Z AG.c j,.n 0,.n 0]):=B;have xx:BE [.sn,.sn,.sn,.n 0,.n 0,.sn,.sn,.n 0] [(0,1),(1,4)] [Z Ab.c l,.S [.sn,Z AG.c j,.n 0,.n 0]]=A (.S [Z Ab.c l,.sn,Z AG.c j,.n 0,.n 0,.sn,.sn,.n 0]):=B;let⟨k,xm,xO,xK,xq,xG,xT,xV⟩:=box h (.I 8 [Z Ab.c l,.sn,Z AG.c j,.n 0,.n 0,.sn,.sn,.n 0])
 have T:∀(xe:F->G->R),bl (.p h.next 0) (h.V (.I (BK (F.I (.S [Z Ab.c l,.sn,Z AG.c j,.n 0,.n 0,.sn,.sn,.n 0]))) (F.I (.S [Z Ab.c l,.sn,Z AG.c j,.n 0,.n 0,.sn,.sn,.n 0])))) xe=xe (.p k 0) xm:=Em h _ xO xK;have xv:=Afe xG xT;have xr:Bx ⟨l,k⟩ xm ⟨[],j,0,0⟩ [] 0 t:=⟨_,_,xv,λN xN=>⟨xq.lv (xJ N xN),Ad (λyg=>xV (by grind))⟩⟩;let⟨_,xI⟩:=cl w xr B (AiO _) xl (-1) (-1) 0 Di
 let⟨z,xQ,y,x7⟩:=xI (by grind)
 have xA:KQ l f g (-1) (-1) 0 Di={Dl l f g (-1) (-1) 0 with Ap:=Iq c 0}:=by unfold KQ Iq;rw[show f.Ap.n=c.l+1 by omega,AjC,AjX];rfl
 have y:Bx ⟨l,k⟩ z ⟨[KQ l f g (-1) (-1) 0 Di],j,0,0⟩ [IR l f.Ay] 0 t:=y;rw[xA]at y;have yn:c.l<1000000:=by omega
 let⟨⟨⟩,Y,W,xd,x9⟩:=Ez (h:=c.l) (f:=λd _ h=>jj W9 46 2 [Z M.c c,.n d,.p k 0] h) (g:=λd _ v=>Bx ⟨l,k⟩ v ⟨[{Dl l f g (-1) (-1) 0 with Ap:=Iq c d}],j,0,0⟩ [IR l f.Ay] 0 t/\BD t z v)
  (λd _ xn xb xt=>by
   let⟨xs,ya⟩:=xt
   let⟨o,J⟩:=Bo xb
   have xz:=Dx xb;have xR:Bf 2 xn [.pi (M.c o)]=A (.S (M.c o)):=B;have yo:=AaH xb;have xL:d+1<(Iq c d).l:=by grind
   let⟨p,r,q,xf⟩:=cn xs (a:=0) (b:=d+1) (by grind) xL o
   have r:W9 (Ar 88) [.p k 0,.n 0,.n (d+1:D),.S (M.c o)] xn=_:=r;have xC:(ER (Ah.at ⟨[{Dl l f g (-1) (-1) 0 with Ap:=Iq c d}],j,0,0⟩ 0) (d+1) o).1={Dl l f g (-1) (-1) 0 with Ap:=Iq c (d+1)}:=by
    have xW:BQ {Dl l f g (-1) (-1) 0 with Ap:=Iq c d} (d+1)=AK:=by show((Iq c d)[d+1]?).g AK=AK;grind
    show(ER {Dl l f g (-1) (-1) 0 with Ap:=Iq c d} (d+1) o).1=_;by_cases xi:o.Ai=0;.rw[YO (.i xi)];have:=u9 (xZ o (Ail J)) xi;subst this;rw[AaI J]
    .rw[iS (by rintro(T|T);grind;exact T (by rw[xW];rfl))];show({Dl l f g (-1) (-1) 0 with Ap:=(Iq c d).set (d+1) o})=_;rw[AaJ J]
   have q:Bx ⟨l,k⟩ p ⟨[(ER (Ah.at ⟨[{Dl l f g (-1) (-1) 0 with Ap:=Iq c d}],j,0,0⟩ 0) (d+1) o).1],j,0,0⟩ [IR l f.Ay] 0 t:=q;rw[xC]at q;refine⟨(),p,?_,q,P⟩;show jj W9 46 2 _ _=jj W9 46 2 _ _;have xP:=BF (a:=d) (by omega);rw[HD.2.2.2.2.2.2.2.2.2.1];simp only[QY,Ek M.c c,xz,HD.2.2.2.2.2.2.2.2.2.2.1,xP,Kz J,xR,r,HD.2.2.2.2.2.2.2.2.2.2.2])
  (b:=()) (a:=z) ⟨y,P⟩
 have W:jj W9 46 2 [Z M.c c,.n 0,.p k 0] z=jj W9 46 2 [Z M.c c,.n c.l,.p k 0] Y:=W;have xD:Iq c c.l=Di::c:=by unfold Iq;grind
 rw[xD]at xd;rw[xE]at xo xg;have xu:=Aey (l:=l) (a:=f) (b:=g) j (Di::c);let⟨x0,x1⟩:=iy w xM xo xg xd xu
 have xy:=Dz c.l;have x8:BD t h Y:=by grind
 have yi:∀{p:G}{X:K},W9 (Ar 89) [.p k 0] Y=A (.AC [],p)->p.AA k 7=A (.n X)->jj W9 46 5 [Z Ab.c l,.p S 0,.n g,Z M.c c] h=A (.AC [.p k 0,.n X],p):=λ{p X} r xc=>by rw[HD.2.2.2.2.2.2.2.1];simp only[↓T,↓Q,↓QT,Aic,↓H xY,↓H xw,↓H xx,↓cm.H B,↓H xQ];rw[W,HD.2.2.2.2.2.2.2.2.2.1];simp only[QY,Ek M.c c,xy,HD.2.2.2.2.2.2.2.2.1,r,xc]
 by_cases xh:u.2=0
 .let⟨p,xF,r,q,x5,xf⟩:=x0 xh
  let⟨o,xX,xS,xc⟩:=q.Je
  grind
 .let⟨p,yh,xF,r,q,xf⟩:=x1 xh
  let⟨o,xX,xS,xc⟩:=q.Je
  grind
end
def Pv(a:C K):Ak:=Au ((a.l:K)>40)
def dc{b:AS}{c:G}{f:Aa}(n:c.N f=A (.I 2 (AS.c b)))(q:b.l.l<1000000000)(d e:F):∀(j a:D),a+j=b.l.l->((b.l.d a).any Pv=Ac->jj W9 46 7 [.n a,.p f 0,d,e] c=jj W9 46 6 [.p f 0,d,e] c)/\((b.l.d a).any Pv=L->jj W9 46 7 [.n a,.p f 0,d,e] c=A (.AC [.pn,.n 5],c))
 |0,a,p=>by
  have:a=b.l.l:=by omega
  subst this;have s:=Dz b.l.l;refine⟨λ_=> ?_,λr=>by grind⟩;rw[HD.2.2.2.2.1];simp only[QY,H (Ek CG b.l), *]
 |j+1,a,p=>by
  have l:a<b.l.l:=by omega
  let⟨g,m,o⟩:=Eh l
  have k:=Dx l;let⟨u,v⟩:=dc n q d e j (a+1) (by omega)
  rw[o,Aj7];by_cases h:(g.l:K)>40;.have:Pv g=L:=Be h;rw[this,Bool.true_or];refine⟨λr=>(by grind),λ_=> ?_⟩;rw[HD.2.2.2.2.1];simp only[QY,H (Ek CG b.l),k,HD.2.2.2.2.2.1,H (Kg m),M0,H (Ek Bq g),h, *]
  .have:Pv g=Ac:=Ba h;rw[this,AjE];have t:jj W9 46 7 [.n a,.p f 0,d,e] c=jj W9 46 7 [.n ((a+1:D):K),.p f 0,d,e] c:=by rw[HD.2.2.2.2.1];simp only[QY,H _,k,HD.2.2.2.2.2.1,H (Kg m),M0,H (Ek Bq g),h,HD.2.2.2.2.2.2.1,H (BF (a:=a) (by omega)), *]
   grind
def ts{d:C Ab}(X:CA d){xm xE:D}(xC:xm=400)(c:AS)(xv:c.l.l<=2000000)(xL:c.BO.l<=2000000){M:Ah×K}(i:HH d xm xE c=A M)(m:G){p:Aa->Prop}(xM:∀k,p k->Lv m k):∃xo W,W9 (Ar 46) [Z Ab.c d,.S (AS.c c)] m=A (.AC [xo,.n M.2],W)/\BD p m W/\(∀e,p e->Lv W e)/\(M.2=0->∃(x:Fu)(xi:C (C (C K))),x.l=d/\xo=.p x.x 0/\Bx x W M.1 xi 0 p/\Do M.1 xi):=by
 let⟨k,f,xD,J,xH,V,xS,xU⟩:=box m (.I 2 (AS.c c))
 have l:∀(xh:F->G->R),bl (.p m.next 0) (m.V (.I (BK (F.I (.S (AS.c c)))) (F.I (.S (AS.c c))))) xh=xh (.p k 0) f:=Em m (.I 2 (AS.c c)) xD J;have q:=iw d X;have S:BD p m f:=by grind
 have s:∀e,p e->Lv f e:=by grind
 unfold HH at i;by_cases t:DR d=0
 .rw[Ad (λj=>j t)]at i;rw[t]at q;have P:=GU t;let⟨o,g,xd,r,xP⟩:=P.DL
  have xO:=(P.A4 o g r).Ap;have xB:Il d=g.Ap-1:=by unfold Il;rw[xd,Aif,r]
  have v:=TY d [109,97,105,110] (by have:=P.AX;omega);have xz:CO d [109,97,105,110]=o:=xd;rw[xz]at v;have xc:Bt 1 [.pi (Ab.c g)]=A (.pi ((Ab.c g).d 1)):=B;have xf:AW f [.pi ((Ab.c g).d 1)]=A (.n g.Ap):=B;have xb:=Gu (a:=g.Ap) (b:=1) (by omega) (by omega);have T:f.AA k 0=A (Z CG c.l):=AJ V 0;have Y:f.AA k 1=A (Z Db c.BO):=AJ V 1;have xg:=Ek CG c.l;have xl:=Ek Db c.BO;rw[xB]at i;by_cases E:I2 (g.Ap-1) c=0
  .rw[Ad (λj=>j E)]at i;let⟨I,U,xa,xt⟩:=TF E
   have y:(c.l.d 0).any Pv=Ac:=by
    rw[AiE]
    cases J:c.l.any Pv with
    |false=>rfl
    |true=>
     let⟨w,xe,X⟩:=Ajv.1 J
     have:=xt w xe;have X:=AjP X;omega
   have u:=(dc V (by omega) (Z Ab.c d) (.n o) c.l.l 0 (by omega)).1 y;have u:jj _ _ 7 [.n 0,.p k 0,Z Ab.c d,.n o] f=jj W9 46 6 [.p k 0,Z Ab.c d,.n o] f:=u;have xs:¬(g.Ap-1>3):=by omega
   have xn:∀{w:R},jj W9 46 6 [.p k 0,Z Ab.c d,.n o] f=w->xx W9 46 [Z Ab.c d,.S (AS.c c)] m=w:=λ{w} xe=>by rw[HD.1];simp only[↓l,↓Q,↓QT,Aic,↓q.H B,HD.2.1,↓v.H B,↓H (Da r),↓H xc,↓H xf,↓H xb,↓H T,↓H xg,I,↓H Y,↓H xl,U,xs,QB,HD.2.2.1];rw[u];grind
   have xj:=um c.l c.BO xv (λw xe=>by grind);let⟨xV,xw,xk,xA,N,xu,xR,xT⟩:=box f (.I 1 (B3 (B1 c.l c.BO).1))
   let⟨xG,xF⟩:=F0 f (b:=1) [.sn] (c:=B3 (B1 c.l c.BO).1) xk xA B B
   by_cases z:(B1 c.l c.BO).2.2=0
   .rw[Ad (λj=>j z)]at i;let⟨x,xy,xJ,xK,xN,xQ,xp,xI,xq⟩:=oF P xC (by grind) z i (t:=p) (λe h=>N.lv (s e h)) xu xd
    refine⟨.p x.x 0,xy,Bd B B (xn ?_),λe h=>(xq e h).t ((N.N (s e h)).t (S e h)),λe h=>xp.Dy h,λl=> ?_⟩;.rw[HD.2.2.2.1];simp only[QY,xG,T,Y,xj.H B,Yp _ _ _,Yr _ _ _,Ys _ _ _,xk,xF,z];grind
    .grind
   .rw[Af z]at i;cases i
    refine⟨.pn,xw,Bd B B (xn ?_),λe h=>(N.N (s e h)).t (S e h),λe h=>N.lv (s e h),λl=>A_ l z⟩;rw[HD.2.2.2.1];simp only[QY,xj.H B,H (Yp _ _ _),H (Yr _ _ _),H (Ys _ _ _), *]
  .rw[Af E]at i;cases i
   refine⟨.pn,f,Bd B B ?_,S,s,λl=>A_ l E⟩;unfold I2;rw[HD.1];by_cases I:c.l.l=g.Ap-1
   .by_cases U:c.BO.l=g.Ap-1
    .by_cases xa:g.Ap-1>3;.rw[Af (.j (.j xa))];simp only[QY,q.H B,HD.2.1,v.H B,H (Da r),QB, *]
     .rw[Ad (by grind)];have y:(c.l.d 0).any Pv=L:=by
       rw[AiE]
       cases J:c.l.any Pv with
       |true=>rfl
       |false=>exfalso;apply E;unfold I2;rw[Ad (by grind),Ad];intro j;have j:c.l.any Pv=L:=j;rw[J]at j;cases j
      have u:=(dc V (by omega) (Z Ab.c d) (.n o) c.l.l 0 (by omega)).2 y;have u:jj W9 46 7 [.n 0,.p k 0,Z Ab.c d,.n o] f=A (.AC [.pn,.n 5],f):=u;rw[AiE]at y;have xr:(c.l.any λd=>Au ((d.l:K)>40))=L:=y;rw[Af xr];simp only[↓l,↓Q,↓QT,Aic,↓q.H B,HD.2.1,↓v.H B,↓H (Da r),↓H xc,↓H xf,↓H xb,↓H T,↓H xg,I,↓H Y,↓H xl,U,xa,QB,HD.2.2.1];grind
    .rw[Af (.j (.i U))];simp only[QY,q.H B,HD.2.1,v.H B,H (Da r),QB, *]
   .rw[Af (.i I)];simp only[↓l,↓Q,↓QT,Aic,↓q.H B,HD.2.1,↓v.H B,↓H (Da r),↓H xc,↓H xf,↓H xb,↓H T,↓H xg,I,QB]
 .rw[Af t]at i;cases i
  refine⟨.pn,f,Bd B B ?_,S,s,λl=>A_ l t⟩;rw[HD.1];simp only[Q,QT,Aic,q.H B,t,ZR, *]
section
variable{t:Fu} {u:Aa->Prop}
theorem mQ{a:G}{b:Ah}{f:C (C (C K))}{d:K}(c:Bx t a b f d u):jj W9 15 3 [.p t.x 0] a=A (.b Ac,a)\/jj W9 15 3 [.p t.x 0] a=jj W9 15 2 [.n d,.p t.x 0] a:=by
 let⟨m,_,_,_⟩:=c.Je
 have k:a.AA t.x 4=A (.n b.Aq):=by
  let⟨l,g,e,j⟩:=c
  exact AJ e.N 4
 rw[Sg.2.2.2];by_cases h:b.Aq>700;.left;simp only[QY,H (R2 t.x),QB, *]
 .by_cases i:(b.T.l:K)>60;.left;simp only[QY,H (R2 t.x),H (Fp t.x),QB, *]
  .right;simp only[QY,H (R2 t.x),H (Fp t.x),QB, *]
theorem fB{a:K}(c:a≠0)(d:F)(b:G):jj W9 15 2 [.n a,d] b=A (.b L,b):=by rw[Sg.2.2.1];simp only[↓Q,↓QT,Aic,c,QB,Sg.2.1]
theorem j7(r:Bj t.l){m o:D}(y:m=400):∀{s:D}{d:G}{b:Ah}{j:C (C (C K))}{p:Ah×K},GI t.l b->Bx t d b j 0 u->Do b j->Iy t.l m o s b=A p->∃z M,jj W9 15 2 [.n 0,.p t.x 0] d=A (.b z,M)
 |0,d,b,j,p,q,v,w,a=>by cases a
 |s+1,d,b,j,p,q,v,w,a=>by
  let⟨I,J⟩:=tz r (xA:=o) y q v w
  unfold Iy at a;by_cases h:(Bp t.l b).l=0
  .let⟨c,l,e,x⟩:=I h
   refine⟨L,c,?_⟩;rw[Sg.2.2.1];simp only[QY,QB,Sg.2.1, *]
  .rw[Ad h]at a
   cases k:KS t.l m o b with
   |none=>rw[k]at a;cases a
   |some g=>
    rw[k]at a;have a:(if g.2≠0 then A g else Iy t.l m o s g.1)=A p:=a;let⟨P,Q⟩:=J h g k
    have N:∀{c:G},W9 (Ar 47) [.p t.x 0] d=A (.b L,c)->jj W9 15 2 [.n 0,.p t.x 0] d=jj W9 15 3 [.p t.x 0] c:=λ{c} l=>by rw[Sg.2.2.1];simp only[QY,QB, *]
    by_cases f:g.2=0
    .rw[Ad (λR=>R f)]at a;let⟨c,H,l,e,F,x⟩:=P f
     have E:=W3 r q h k f;rcases mQ e with i|i;.grind
     .let⟨z,T,U⟩:=j7 r y E e F a
      grind
    .let⟨c,S,H,l,e,x⟩:=Q f
     rcases mQ e with i|i;.grind
     .exact⟨L,c,(N l).t (i.t (fB f _ _))⟩
end
theorem g5{d:C Ab}(U:CA d)(a:AS)(N:a.l.l<=2000000)(P:a.BO.l<=2000000):∃c:Ak,A2 15 [Z Ab.c d,.S (AS.c a)] (.b c):=by
 obtain⟨h,p⟩:∃h:D,h=400:=⟨_,B⟩;obtain⟨s,q⟩:∃s:D,2000000<s:=⟨2000001,by omega⟩;obtain⟨j,xh⟩:∃j:D,6000<j:=⟨6001,by omega⟩;have Y:∃c i,xx W9 15 [Z Ab.c d,.S (AS.c a)] G.Az=A (.b c,i):=by
  let⟨xa,o,W,T,xc,J,xk,xl⟩:=box G.Az (.I 2 (AS.c a))
  have xr:∀(b:F->G->R),bl (.p G.Az.next 0) (G.Az.V (.I (BK (F.I (.S (AS.c a)))) (F.I (.S (AS.c a))))) b=b (.p xa 0) o:=Em G.Az (.I 2 (AS.c a)) W T;have xo:=J;have xp:∀e f:F,Ca 0 [.AC [e,f]]=A e:=λ_ _=>B;have xq:∀e f:F,Ca 1 [.AC [e,f]]=A f:=λ_ _=>B;let⟨v,r⟩:=dN (c:=d) (h:=h) q a
  let⟨xb,Q,xi,xe,xd,z⟩:=ts U p a N P r o (p:=λ_=>False) (λxm V=>V.elim)
  have w:xx W9 15 [Z Ab.c d,.S (AS.c a)] G.Az=jj W9 15 2 [.n v.2,xb] Q:=by rw[Sg.1];simp only[QY,H _,H _, *]
  by_cases g:v.2=0
  .obtain⟨t,xf,S,rfl,y,x⟩:=z g;let⟨E,b⟩:=NN (λM=>GU M) r g
   have n:=GU E;subst S;have:=b.X.W.Aq;let⟨xn,X⟩:=en n (i:=h) q (h:=j) b (by omega)
   let⟨c,xg,xj⟩:=j7 n p b y x X
   rw[g]at w;grind
  .exact⟨L,_,w.t (fB g _ _)⟩
 let⟨c,i,I⟩:=Y
 exact⟨c,BP B B B ⟨i,I⟩⟩
def gN{c:C AG}:∀(b e:D)(a:C (C M))(d:C K),(J7 c b e a d).l<=a.l+b
 |0,_,a,_=>C6 _
 |b+1,e,a,d=>by
  unfold J7
  cases d[e]?with
  |none=>grind
  |some f=>have:=gN (c:=c) b (e+1) (a++[(CH (Jx c f) d).1]) (CH (Jx c f) d).2;rw[Aio,Ajg]at this;show(J7 c b _ _ _).l<=_;omega
def qt{b:C _}(c:Gn b)(d:K):(Jx b d).l<=100:=by
 unfold Jx G_;split
 .rename_i e a;split at a;.exact(c.at a).1
  .grind
 .grind
def gM{f:C AG}(i:Gn f):∀(g e:D)(a:C (C M))(b:C K),(∀c∈a,c.l<=100)->∀c∈J7 f g e a b,c.l<=100
 |0,_,a,_,j=>j
 |g+1,e,a,b,j=>by
  unfold J7
  cases b[e]?with
  |none=>grind
  |some h=>
   refine gM i g (e+1) (a++[(CH (Jx f h) b).1]) (CH (Jx f h) b).2 λc d=> ?_;rcases AiM.1 d with d|d;.grind
   .rw[Ai3.1 d,W2];exact qt i h
def lu{f:C _}{d:Ah}:∀b,∀c∈Kt f d b,c.ES.l<=b
 |0,c,a=>by cases a
 |b+1,c,a=>by
  rcases AiM.1 a with a|a;.have:=lu b c a;omega
  .cases e:d.T[b]?with
   |none=>rw[e]at a;cases a
   |some g=>rw[e]at a;obtain⟨h,_,rfl⟩:=AiR.1 a;exact le (c:=f) b
def mP{b:C Ab}(h:Bj b){a:Ah}(d:Dk b a)(g:Gg a.Ae)(k:(HA b a).l<=100):Rc (Ec b a):=by
 have j:=d.AX;refine⟨?_,?_,?_,?_,?_⟩;.show(L7 b a).l<=_;unfold L7;rw[(Xg _).length_eq];have:=ZS h d a.T.l;omega
 .show((CH (HA b a) []).1).l<=_;rw[W2];omega
 .have:=gN (c:=a.Ae) 401 0 [] (CH (HA b a) []).2;show(J7 _ _ 0 [] (CH (HA b a) []).2).l<=_;have:([]:C (C M)).l=0:=B;omega
 .intro e f;have:=gM g.ok 401 0 [] (CH (HA b a) []).2 (λe f=>by grind) e f;omega
 .intro i c;have c:=c;unfold L7 at c;have:=lu _ i ((Xg _).mem_iff.1 c);omega
def AeY{j:C _}{o p f:D}{q:AS}{d:Ah×K}(e:F7 j o p f q=A d):Rc (Cj j d).1:=by
 by_cases b:d.2=0
 .let⟨h,c⟩:=Yu (λe=>GU e) e b
  unfold Cj;rw[Ad (λf=>f b)];let⟨m,a⟩:=Bo (b:=d.1.T) (a:=0) c.F_
  let⟨n,k,g⟩:=c.X.W.sh.Bw 0 m a
  refine mP h c.X.W.sh c.X.W.E8 ?_;unfold HA;rw[DM a,g.BB,Aiw];have:=(h.A4 n k g.hb).Bs;omega
 .unfold Cj;rw[Af b];exact⟨AiO _,AiO _,AiO _,(λb a=>by cases a),(λb a=>by cases a)⟩
def mG{e:AS}(c:eM e):El e.l<=100000000:=by
 have:∀a:C (C K),(∀b∈a,b.l<=43)->El a<=a.l*43:=λa=>by
  induction a with
  |nil=>intro _;exact C6 _
  |cons f i h=>intro d;have:=h λb g=>d b (Ai1 _ g);have:=d f (Ai0 ..);show f.l+El i<=_;rw[AiD];omega
 have j:=this _ c.2.2;have:=c.1;omega
def j6(a:C K)(E:∀J∈a,0<=J/\J<=255)(T:a.l<=60){c:Aa}{M:C F}(p:F):∀(t b:D){d:G}{g:F},b+t=a.l->AF d g Bq 1 (a.t b)->d.N c=A (.I 2 M)->Lv d c->AE g c->∃j o,jj W9 4 2 [Z Ky a,.n b,p,.p c 0,g] d=jj W9 4 1 [p,.p c 0,o] j/\AF j o Bq 1 a/\j.N c=A (.I 2 M)/\Lv j c/\AE o c
 |0,b,d,g,S,n,r,m,h=>by
  have u:=Ek Ky a;have q:¬(b:K)<a.l:=by omega
  rw[AiX (by omega)]at n;refine⟨d,g,?_,n,r,m,h⟩;rw[Oa.2.2.2.1];simp only[QY,u,q]
 |t+1,b,d,g,S,n,r,m,h=>by
  have u:=Ek Ky a;have q:(b:K)<a.l:=by omega
  let⟨e,s⟩:=Bo (b:=a) (a:=b) (by omega)
  have U:=Fi (a:=Ky) (f:=1) (i:=.n) s B;have X:AW d [.pi (Ky e)]=A (.i .u8 e):=B;have P:=E e (Ail s);have Q:Hy .n [.i .u8 e]=A (.n e):=X9 P.1 (by omega);let⟨o,j,W,I,v,N⟩:=GS (f:=Bq) (w:=1) (j:=a.t b) (b:=e) (o:=.n e) (h:=8) (λ_=>B) B B n (EI (by rw[AiH];omega))
  have xa:a.t b++[e]=a.t (b+1):=by rw[List.take_add_one,s];rfl
  rw[xa]at I;let⟨R,xb,V,Y⟩:=j6 a E T p t (b+1) (by omega) I ((v.N m h).t r) (v.lv m h) (N c m h)
  refine⟨R,xb,?_,Y⟩;rw[Oa.2.2.2.1];simp only[QY,u,q,Oa.2.2.2.2.1,U,X,Q,W,QB,Oa.2.2.2.2.2,H (BF (a:=b) (by omega))];exact V
def qC{b:C Ab}{h i g:D}{m:AS}{d:C K}{e:Ah×C A8×K}(a:L2 b h i g m d=A e)(l:∀f∈d,0<=f):(GF b d e).2.2=e.2.2:=by
 unfold GF;by_cases c:DR b≠0;.rw[Af c];unfold L2 HH at a;rw[Af c]at a;have a:(if DR b≠0 then A (VI,[],DR b)else IQ b h i d g VI [])=A e:=a;rw[Af c]at a;cases a;rfl
 .rw[Ad c,Ad]
  .split;.rfl
   .rename_i o;show 0=_;omega
  .intro n;obtain⟨f,j,k⟩:=Ajv.1 n;have:=l f j;simp only[Ain]at k;omega
def wR(J:A2 7 [] (.b L)){a:C Ab}{b:AS}{g:C K}(x8:Jw a)(xB:b.CA)(xA:∀j∈g,0<=j/\j<=255)(yo:g.l<1000000000):A2 4 [Z Ab.c a,.S (AS.c b),Z Ky g] (.b L):=by
 let⟨yj,W,xY⟩:=g4 a b x8 xB
 let⟨r,t,x9,x5,yl,xv,yb,ys⟩:=box G.Az (.I 2 (AS.c b))
 have yw:∀(xq:F->G->R),bl (.p G.Az.next 0) (G.Az.V (.I (BK (F.I (.S (AS.c b)))) (F.I (.S (AS.c b))))) xq=xq (.p r 0) t:=Em G.Az (.I 2 (AS.c b)) x9 x5;have yu:t.AU r 0 2=A (AS.c b):=B2 xv;have yr:=Ek Ky g;cases yj
 .refine BP B B B ⟨t,?_⟩;rw[Oa.1];simp only[QY,W.H B,QB,J.H B, *]
 let⟨V,yp,v⟩:=xY B
 let⟨yk,xl⟩:=g5 V b (by have:=v.1;omega) (by have:=v.2.1;omega)
 cases yk
 .refine BP B B B ⟨t,?_⟩;rw[Oa.1];simp only[QY,W.H B,xl.H B,QB,J.H B, *]
 by_cases k:g.l>(60:K);.refine BP B B B ⟨t,?_⟩;rw[Oa.1];simp only[QY,W.H B,xl.H B,QB,J.H B, *]
 obtain⟨X,xy⟩:∃X:D,X=400:=⟨_,B⟩;obtain⟨x,xz⟩:∃x:D,2000000<x:=⟨2000001,by omega⟩;obtain⟨q,xx⟩:∃q:D,6000<q:=⟨6001,by omega⟩;let⟨o,xj⟩:=hw (b:=a) (c:=X) xz xx b
 let⟨s,xk⟩:=kZ (c:=a) (d:=X) xz xx b g
 have P:=Ab2 (λxf=>GU xf) (by omega) xj xk;have xp:=g7 a V;have xo:=g8 b xB;have T:=Z2 V xy b (by have:=v.1;omega) (mG v) xj;have Q:=ch V xy b (by have:=v.1;omega) (mG v) (h:=g) (by omega) xk;have xZ:(Cj a o).2=o.2:=by
  unfold Cj;by_cases k:o.2≠0;.rw[Af k]
  .rw[Ad k];show 0=_;omega
 have xu:=qC xk (λj xf=>(xA j xf).1);have S:=ir (Cj a o).1 (GF a g s).1 (AeY xj);have xb:o.2=0->OR (Cj a o).1 (GF a g s).1=L:=λN=>by
  have xS:=P.1.1 N;have i:(Cj a o).1=Ec a o.1:=by unfold Cj;rw[Ad (λq=>q N)]
  have e:(GF a g s).1=Ec a s.1:=by
   have z:(GF a g s).2.2=0:=xu.t xS;unfold GF at z⊢;by_cases xc:DR a≠0;.rw[Af xc]at z;exact A_ z xc
   .rw[Ad xc]at z⊢;by_cases xt:(g.any λj=>Au (j<0))=L;.rw[Af xt]at z;exact A_ z (by decide:¬(3:Int)=0)
    .rw[Ad xt,Ad (λq=>q xS)]
  rw[i,e,(P.2 N).1];unfold OR;simp
 rw[xZ]at T;rw[xu]at Q;have xC:=P.1;clear P;generalize(Cj a o).1=Y at T S xb;generalize(GF a g s).1=xm at Q S xb;generalize(GF a g s).2.1=yv at Q;generalize o.2=I at*;generalize s.2.2=x0 at*;obtain⟨U,xa,ya,xG,xe,yc,ym⟩:=j6 g xA (by omega) (Z Ab.c a) g.l 0 (d:=t) (g:=.sn) (by omega) (.i ⟨B,B⟩) xv yb (by intro i e k yn I;cases I);have xH:U.AU r 0 2=A (AS.c b):=B2 xe;have xE:KT (Bf 2 U [.p r 0]) (.S (AS.c b))=L:=M2 xe;let⟨y,p,xh,x6,xn,x2,yd,yf⟩:=box U (.I 7 Y.c)
 let⟨xT,xL⟩:=F0 U (b:=7) [.sn,.sn,(.n 0),(.n 0),(.n 0),(.n 0),.sn] (c:=Y.c) xh x6 B B
 have xw:p.N r=A (.I 2 (AS.c b)):=(xn.N yc).t xe;have xK:p.AU r 0 2=A (AS.c b):=B2 xw;have xF:KT (Bf 2 p [.p r 0]) (.S (AS.c b))=L:=M2 xw;have yh:AF p xa Bq 1 g:=xG.ext xn;have xW:B6 (λj=>¬AE xa j) 2 p [Z Ab.c a,.S (AS.c b),xa] [Z Ab.c a,.S (AS.c b),Z Bq g]:=B6.cons ((Fs.im (a:=Z Ab.c a) B).up (by omega)) (B6.cons (Fs.S (a:=1) (B6.Nu (c:=p) (a:=AS.c b) B)) (B6.cons (Fs.CC (a:=Bq) (g:=1) (λj x=>x) (λ_=>B) (λ_=>B) yh) (B6.nil 2 p)));let⟨M,x1,xr⟩:=B6.F9 xW (by omega)
 have xD:=Q p _ M x1;let⟨yi,xg,xi,x7,xV,x4,yq,yt⟩:=box M (.I 7 xm.c)
 let⟨xU,xM⟩:=F0 M (b:=7) [.sn,.sn,(.n 0),(.n 0),(.n 0),(.n 0),.sn] (c:=xm.c) xi x7 B B
 have ye:Lv M y:=by rw[xr.l];exact yd
 have yg:∀j,¬AE xa j->j≠y:=λj x I=>by have:=xG.Dh x;rw[I]at this;exact yf this
 have x3:M.N y=A (.I 7 Y.c):=(xr.o y (λq=>yg y q B)).t x2;have xI:xg.AU y 0 7=A Y.c:=B2 ((xV.N ye).t x3);have xJ:xg.AU yi 0 7=A xm.c:=B2 x4;have xN:∀i e k:F,Ca 0 [.AC [i,e,k]]=A i:=λ_ _ _=>B;have xO:∀i e k:F,Ca 1 [.AC [i,e,k]]=A e:=λ_ _ _=>B;have xP:∀i e k:F,Ca 2 [.AC [i,e,k]]=A k:=λ_ _ _=>B;have xQ:∀i e:F,Ca 0 [.AC [i,e]]=A i:=λ_ _=>B;have xR:∀i e:F,Ca 1 [.AC [i,e]]=A e:=λ_ _=>B;have xs:∀e:Ak,Fx Ac [.b e,.b e]=A (.b L):=λe=>by cases e<;>rfl
 refine BP B B B ⟨xg,?_⟩;rw[Oa.1];simp only[QY,W.H B,xl.H B,QB, *];rw[Oa.2.1];have xX:jj W9 4 2 [Z Ky g,.n 0,Z Ab.c a,.p r 0,.sn] t=_:=ya;rw[xX,Oa.2.2.1];by_cases E:I=0;.have xd:=xC.1 E;rw[xb E]at S;simp only[QY,xp.H B,xo.H B,T.H B,xH,xE,xQ,xR,↓xT,xh,xL,xK,xF,xD,xN,xO,xP,↓xU,xi,xM,QB,E,xd,xs,xI,xJ,S.H B,J.H B]
 .have xd:x0≠0:=λN=>E (xC.2 N);simp only[QY,xp.H B,xo.H B,T.H B,xH,xE,xQ,xR,↓xT,xh,xL,xK,xF,xD,xN,xO,xP,↓xU,xi,xM,QB,E,xd,xs,xI,xJ,J.H B]
