/- Part of the proof. -/
import Derived.Test.YtbmnfifnenajjaaGreatMbo
set_option linter.all false
noncomputable section
open Option renaming some->A,none->O,getD->Option.g,bind->Option.b
open _root_ renaming rfl->B,List->C,Nat->D,Int->K,if_neg->Ad,if_pos->Af,Bool->Ah,cond->Aj,decide_eq_true->A0,decide_eq_false->A2,absurd->BF
open Bool renaming true->L,false->Aa
open Decidable renaming decide->Ao
open Nat renaming beq->AW,ble->BX,le_refl->CK
open List renaming length->List.l,map->List.m,take->List.t,drop->List.d,flatMap->List.f
open Go.IntKind renaming i64->Go.IntKind.n
open Array renaming toList->Array.l
open Eq renaming trans->Eq.t
open Or renaming inl->Or.i,inr->Or.j
open Int renaming toNat->Int.n
namespace Go.Proofs.YtbmnfifnenajjaaGreat
open Go.Fg
def Ow(a:C K):Ah:=Ao ((a.l:K)>40)
def a5{b:AQ}{c:G}{f:T}(n:c.M f=A (.I 2 (AQ.c b)))(q:b.l.l<1000000000)(d e:F):∀(j a:D),a+j=b.l.l->((b.l.d a).any Ow=Aa->jj W9 34 7 [.n a,.p f 0,d,e] c=jj W9 34 6 [.p f 0,d,e] c)/\((b.l.d a).any Ow=L->jj W9 34 7 [.n a,.p f 0,d,e] c=A (.AB [.pn,.n 5],c))
 |0,a,p=>by
  have:a=b.l.l:=by omega
  subst this;have s:=CA b.l.l;refine⟨λ_=> ?_,λr=>by grind⟩;rw[G1.2.2.2.2.1];simp only[QY,H (DF Cv b.l), *]
 |j+1,a,p=>by
  have l:a<b.l.l:=by omega
  let⟨g,m,o⟩:=Ds l
  have k:=Cm l;let⟨u,v⟩:=a5 n q d e j (a+1) (by omega)
  rw[o,AfB];by_cases h:(g.l:K)>40;.have:Ow g=L:=A0 h;rw[this,Bool.true_or];refine⟨λr=>(by grind),λ_=> ?_⟩;rw[G1.2.2.2.2.1];simp only[QY,H (DF Cv b.l),k,G1.2.2.2.2.2.1,H (I9 m),Mm,H (DF Be g),h, *]
  .have:Ow g=Aa:=A2 h;rw[this,Ae6];have t:jj W9 34 7 [.n a,.p f 0,d,e] c=jj W9 34 7 [.n ((a+1:D):K),.p f 0,d,e] c:=by rw[G1.2.2.2.2.1];simp only[QY,H _,k,G1.2.2.2.2.2.1,H (I9 m),Mm,H (DF Be g),h,G1.2.2.2.2.2.2.1,H (Bh (a:=a) (by omega)), *]
   grind
def fS{d:C Ab}(Y:Cl d){xn xF:D}(xD:xn=400)(c:AQ)(xw:c.l.l<=2000000)(xM:c.BT.l<=2000000){M:Ai×K}(i:JA d xn xF c=A M)(m:G){p:T->Prop}(xN:∀k,p k->Lv m k):∃xp X,W9 (pos 34) [Z Ab.c d,.S (AQ.c c)] m=A (.AB [xp,.n M.2],X)/\Bo p m X/\(∀e,p e->Lv X e)/\(M.2=0->∃(x:EC)(xj:C (C (C K))),x.l=d/\xp=.p x.x 0/\Bj x X M.1 xj 0 p/\CJ M.1 xj):=by
 let⟨k,f,xE,J,xI,W,xT,xV⟩:=box m (.I 2 (AQ.c c))
 have l:∀(xi:F->G->R),bl (.p m.next 0) (m.V (.I (Bq (F.I (.S (AQ.c c)))) (F.I (.S (AQ.c c))))) xi=xi (.p k 0) f:=Dy m (.I 2 (AQ.c c)) xE J;have q:=ga d Y;have S:Bo p m f:=by grind
 have s:∀e,p e->Lv f e:=by grind
 unfold JA at i;by_cases t:D5 d=0
 .rw[Ad (λj=>j t)]at i;rw[t]at q;have P:=HU t;let⟨o,g,xe,r,xQ⟩:=P.K_
  have xP:=(P.Bc o g r).An;have xC:I8 d=g.An-1:=by unfold I8;rw[xe,AdR,r]
  have v:=SA d [109,97,105,110] (by have:=P.A7;omega);have xA:CH d [109,97,105,110]=o:=xe;rw[xA]at v;have xd:Bl 1 [.pi (Ab.c g)]=A (.pi ((Ab.c g).d 1)):=B;have xg:AM f [.pi ((Ab.c g).d 1)]=A (.n g.An):=B;have xc:=FA (a:=g.An) (b:=1) (by omega) (by omega);have U:f.Ap k 0=A (Z Cv c.l):=Ay W 0;have xa:f.Ap k 1=A (Z CN c.BT):=Ay W 1;have xh:=DF Cv c.l;have xm:=DF CN c.BT;rw[xC]at i;by_cases E:JS (g.An-1) c=0
  .rw[Ad (λj=>j E)]at i;let⟨I,V,xb,xu⟩:=Um E
   have y:(c.l.d 0).any Ow=Aa:=by
    rw[Ad7]
    cases J:c.l.any Ow with
    |false=>rfl
    |true=>
     let⟨w,xf,Y⟩:=AfC.1 J
     have:=xu w xf;have Y:=Afg Y;omega
   have u:=(a5 W (by omega) (Z Ab.c d) (.n o) c.l.l 0 (by omega)).1 y;have u:jj _ _ 7 [.n 0,.p k 0,Z Ab.c d,.n o] f=jj W9 34 6 [.p k 0,Z Ab.c d,.n o] f:=u;have xt:¬(g.An-1>3):=by omega
   have xo:∀{w:R},jj W9 34 6 [.p k 0,Z Ab.c d,.n o] f=w->xx W9 34 [Z Ab.c d,.S (AQ.c c)] m=w:=λ{w} xf=>by rw[G1.1];simp only[↓l,↓Q,↓QT,AdM,↓q.H B,G1.2.1,↓v.H B,↓H (CB r),↓H xd,↓H xg,↓H xc,↓H U,↓H xh,I,↓H xa,↓H xm,V,xt,QB,G1.2.2.1];rw[u];grind
   have xk:=qF c.l c.BT xw (λw xf=>by grind);let⟨xW,xy,xl,xB,N,xv,xS,xU⟩:=box f (.I 1 (Bp (Co c.l c.BT).1))
   let⟨xH,xG⟩:=EL f (b:=1) [.sn] (c:=Bp (Co c.l c.BT).1) xl xB B B
   by_cases z:(Co c.l c.BT).2.2=0
   .rw[Ad (λj=>j z)]at i;let⟨x,xz,xK,xL,xO,xR,xq,xJ,xr⟩:=lG P xD (by grind) z i (t:=p) (λe h=>N.lv (s e h)) xv xe
    refine⟨.p x.x 0,xz,AZ B B (xo ?_),λe h=>(xr e h).t ((N.M (s e h)).t (S e h)),λe h=>xq.C4 h,λl=> ?_⟩;.rw[G1.2.2.2.1];simp only[QY,xH,U,xa,xk.H B,WT _ _ _,WV _ _ _,WW _ _ _,xl,xG,z];grind
    .grind
   .rw[Af z]at i;cases i
    refine⟨.pn,xy,AZ B B (xo ?_),λe h=>(N.M (s e h)).t (S e h),λe h=>N.lv (s e h),λl=>BF l z⟩;rw[G1.2.2.2.1];simp only[QY,xk.H B,H (WT _ _ _),H (WV _ _ _),H (WW _ _ _), *]
  .rw[Af E]at i;cases i
   refine⟨.pn,f,AZ B B ?_,S,s,λl=>BF l E⟩;unfold JS;rw[G1.1];by_cases I:c.l.l=g.An-1
   .by_cases V:c.BT.l=g.An-1
    .by_cases xb:g.An-1>3;.rw[Af (.j (.j xb))];simp only[QY,q.H B,G1.2.1,v.H B,H (CB r),QB, *]
     .rw[Ad (by grind)];have y:(c.l.d 0).any Ow=L:=by
       rw[Ad7]
       cases J:c.l.any Ow with
       |true=>rfl
       |false=>exfalso;apply E;unfold JS;rw[Ad (by grind),Ad];intro j;have j:c.l.any Ow=L:=j;rw[J]at j;cases j
      have u:=(a5 W (by omega) (Z Ab.c d) (.n o) c.l.l 0 (by omega)).2 y;have u:jj W9 34 7 [.n 0,.p k 0,Z Ab.c d,.n o] f=A (.AB [.pn,.n 5],f):=u;rw[Ad7]at y;have xs:(c.l.any λd=>Ao ((d.l:K)>40))=L:=y;rw[Af xs];simp only[↓l,↓Q,↓QT,AdM,↓q.H B,G1.2.1,↓v.H B,↓H (CB r),↓H xd,↓H xg,↓H xc,↓H U,↓H xh,I,↓H xa,↓H xm,V,xb,QB,G1.2.2.1];grind
    .rw[Af (.j (.i V))];simp only[QY,q.H B,G1.2.1,v.H B,H (CB r),QB, *]
   .rw[Af (.i I)];simp only[↓l,↓Q,↓QT,AdM,↓q.H B,G1.2.1,↓v.H B,↓H (CB r),↓H xd,↓H xg,↓H xc,↓H U,↓H xh,I,QB]
 .rw[Af t]at i;cases i
  refine⟨.pn,f,AZ B B ?_,S,s,λl=>BF l t⟩;rw[G1.1];simp only[Q,QT,AdM,q.H B,t,ZR, *]
def qB{j:C Ab}(xg:Cl j){r v N:D}(M:r=400)(g:AQ)(xb:g.l.l<=2000000)(xc:g.BT.l<=2000000){f:Ai×K}(c:Hr j r v N g=A f)(e:G){h:T->Prop}(J:∀k,h k->Lv e k):∃w p,W9 (pos 45) [Z Ab.c j,.S (AQ.c g)] e=A (.AB [w,.n f.2],p)/\Bo h e p/\(∀a,h a->Lv p a)/\(f.2=0->∃(d:EC)(E:C (C (C K))),d.l=j/\w=.p d.x 0/\Bj d p f.1 E 0 h/\CJ f.1 E):=by
 let⟨k,xd,xr,xq,y,xp,xs,xt⟩:=box e (.I 2 (AQ.c g))
 have xl:∀m n:F,CO 0 [.AB [m,n]]=A m:=λ_ _=>B
 have xm:∀m n:F,CO 1 [.AB [m,n]]=A n:=λ_ _=>B
 unfold Hr at c
 cases q:JA j r v g with
 |none=>rw[q]at c;cases c
 |some s=>
  rw[q]at c;have c:(if s.2≠0 then A s else HW j r v N s.1)=A f:=c;let⟨w,xe,xh,Y,U,V⟩:=fS xg M g xb xc q xd (p:=h) (λa b=>y.lv (J a b))
  by_cases i:s.2=0
  .rw[Ad (λk=>k i)]at c;obtain⟨d,xo,xf,rfl,Q,P⟩:=V i;let⟨xa,R⟩:=PL (λe=>HU e) q i
   have X:=HU xa;subst xf;rw[i]at xh;let⟨xj,xk⟩:=qT (t:=d) X M R Q P c
   have z:Bo h e xe:=by grind
   by_cases o:f.2=0
   .let⟨u,I,xi,l,W,t⟩:=xj o
    refine⟨.p d.x 0,u,AZ B B ?_,λa b=>(t a b).t (z a b),λa b=>l.C4 b,λ_=>⟨d,I,B,B,l,W⟩⟩;rw[UZ.1,o];simp only[QY,H (xl _ _),H (xm _ _),UZ.2, *]
   .let⟨u,xn,I,xi,l,t⟩:=xk o
    refine⟨.p d.x 0,u,AZ B B ?_,λa b=>(t a b).t (z a b),λa b=>l.C4 b,λx=>BF x o⟩;rw[UZ.1];simp only[QY,H _,H _,UZ.2, *]
  .rw[Af i]at c;cases c
   refine⟨.pn,_,AZ B B ?_,λa b=>(Y a b).t (y.M (J a b)),U,λx=>BF x i⟩;rw[UZ.1];simp only[QY,H _,H _, *]
theorem az{l:C _}{e:Ai}(c:CF l e):∀{b a:D},a<e.Ac.l->a<b->Mg e b a=Mg e (a+1) a
 |0,a,h,n=>by omega
 |b+1,a,h,n=>by
  rw[SH,SH];by_cases d:(e.at a).AP= -1;.grind
  .rw[Ad d,Ad d];let⟨j,r,p,q,s,g⟩:=(c.up a _ (Di h)).resolve_left d
   have o:=g.lt;rw[g.AP,AdR];have k:=az c (b:=b) (a:=j) (by omega) (by omega);have m:=az c (b:=a) (a:=j) (by omega) o;rw[k,m]
theorem vc{l:C Ab}{e:Ai}(c:CF l e){a:D}(h:a<e.Ac.l){b:D}(d:(e.at a).AP=b)(g:b<a):FX e a=FX e b++[⟨(e.at a).Ax,(e.at a).Az⟩]:=by unfold FX;rw[SH,Ad (by grind),d,AdR,az c (b:=a) (a:=b) (by omega) g,List.reverse_cons]
theorem vb{e:Ai}{a:D}(b:(e.at a).AP= -1):FX e a=[]:=by unfold FX;rw[SH,Af b];rfl
section
variable{z:T->Bm} {l:C Ab} {x:T} {e:Ai} {v:C (C (C K))} {u:K} {t:Bm->F}
theorem fH(q:CF l e):∀(E a:D){d:G},a<E->BZ z d l x e v u t->a<e.Ac.l->∃m I,W9 (pos 60) [.p x 0,.n a] d=A (m,I)/\Aw I m Bf.c 2 (FX e a)/\AH d I/\Dx d m
 |0,a,d,Y,i,k=>by omega
 |E+1,a,d,Y,i,k=>by
  let⟨xn,xb,xh⟩:=i.Sh k
  have xi:=i.cv;let⟨h,g,S,Z,o,j,T,xw⟩:=box d (.I 7 (DM t e a))
  let⟨xl,xj⟩:=EL d (b:=7) [.n 0,.n 0,.n 0,.n 0,.sn,.sn,.sn] (c:=DM t e a) S Z B (Si i k)
  have U:g.Ap h 1=A (.n (e.at a).AP):=Ay j 1;have xf:g.Ap h 2=A (.n (e.at a).Ax):=Ay j 2;have xg:g.Ap h 3=A (.n (e.at a).Az):=Ay j 3;have r:=JW .n (e.at a).AP 0;by_cases N:(e.at a).AP= -1;.rw[A2 (by omega)]at r;refine⟨.sn,g,AZ B B ?_,by rw[vb N];exact Aw.sn g,o,λb _=>Cg b⟩;rw[aU.1];simp only[QY,xl,xi,xb,xh,S,xj,U,r,aU.2]
  .let⟨J,xs,xm,xo,xv,M⟩:=(q.up a _ (Di k)).resolve_left N
   have R:=M.AP;have xa:=M.lt;have xq:=q.A7;rw[R]at U r;rw[A0 (by omega)]at r;let⟨m,Q,xt,xe,s,W⟩:=fH q E J (by omega) (i.ext o) (by omega)
   have xy:Q.Ap h 2=A (.n (e.at a).Ax):=Ay ((s.M T).t j) 2;have xz:Q.Ap h 3=A (.n (e.at a).Az):=Ay ((s.M T).t j) 3;have xc:Aj (Bv .Cq [.p h 2] g (.n (e.at a).Ax)) L Aa=L:=by rw[GL xf];rfl
   have xd:Aj (Bv .Cq [.p h 3] g (.n (e.at a).Az)) L Aa=L:=by rw[GL xg];rfl
   have xp:Cb [(.n 0),(.n 0)] [(0,1),(1,1)] [.n (e.at a).Ax,.n (e.at a).Az]=A (.S (Bf.c ⟨(e.at a).Ax,(e.at a).Az⟩)):=B;have xr:(FX e J).l<=J+1:=by unfold FX;rw[AfI];exact SG e _ _
   let⟨xk,X,xu,xx,P,V⟩:=FJ (f:=Bf.c) (w:=2) (b:=⟨(e.at a).Ax,(e.at a).Az⟩) (o:=.S (Bf.c ⟨(e.at a).Ax,(e.at a).Az⟩)) (h:=16) (λ_=>B) B B xe (DG (by omega))
   have p:=o.AI s;have F:∀b,Lv d b->As m b:=λb c=>W b (o.lv c);refine⟨xk,X,AZ B B ?_,by rw[vc q k R xa];grind,λb c=>⟨(P.M (p.lv c) (F b c)).t (p.M c),P.lv (p.lv c) (F b c)⟩,λb c=>V b (p.lv c) (F b c)⟩;rw[aU.1];simp only[QY,H (Eg x),Gn xc,Gn xd, *]
end
section
variable{t:EC} {h:G} {e:Ai} {y:C (C (C K))} {v:K} {u:T->Prop}
theorem qU{k:T->Bm}{E:Bm->F}(W:BZ k h t.l t.x e y v E)(xk:∀a,u a->Lv h a/\k a=.C5){m:F}{V:C N}(P:Aw h m N.c 2 V)(xe:∀a,u a->As m a)(xx:Ft e.Am){b:Ci}{xc:K}(xj:AY 124 [.S (Bp e.Am),Z N.c V] (.AB [.S (Ci.c b),.n xc]))(xy:∀a,¬As m a->k a=.C5):∃r U,W9 (pos 65) [.p t.x 0,m] h=A (.S (Ci.c b),r)/\BZ U r t.l t.x e y v E/\(∀a,u a->Lv r a/\U a=.C5)/\Bo u h r:=by
 have R:=λa c=>(xk a c).1;let⟨i,s,xn,xl,z,xf,xA,M⟩:=box h (.I 2 [.sn,.sn])
 have xJ:=Dy h _ xn xl;have Q:=W.Vj z;have xI:s.AL t.x 2 1=A (Bp e.Am):=by rw[D1 Q.M,Af (by omega),Ad (by omega)];rfl
 have xs:=P.ext z;let⟨x,xd,g⟩:=BS.FV (t:=λa=>¬As m a) (BS.cons (Fs.S (a:=1) (BS.Oh (c:=s) (a:=Bp e.Am) B)) (BS.cons (Fs.Cs (a:=N.c) (g:=2) (λa xq=>xq) (λ_=>B) (λ_=>B) xs) (BS.nil 2 s))) (by omega)
 have xz:=xj s _ x xd;have xb:=AdS λj=>M (P.Cz j);have X:=Q.Ar λa c I=>⟨g.o a (λxt=>I (by rw[PD (P.Cz xt)];grind)),by rw[g.l];grind⟩;have xg:=(g.o i (λj=>j xb)).t xf;let⟨xu,G,xo,xm,o,xi,xB,xC⟩:=box x (.I 2 (Ci.c b))
 let⟨xK,xF⟩:=EL x (b:=2) [.sn,.sn] (c:=Ci.c b) xo xm B B
 have xp:Lv x i:=by rw[g.l];grind
 have xh:=(o.M xp).t xg;have xD:G.AL xu 0 2=A (Ci.c b):=BB xi;have xG:=Gb xh (a:=Ci.c b) B B;have xE:(G.set i (.I 2 (Ci.c b))).AL i 0 2=A (Ci.c b):=BB (by rw[AN,Af B]);have Y:=X.ext o;have xH:Mq k h i=.C5:=Vk M;have xa:BZ (Mq k h) (G.set i (.I 2 (Ci.c b))) t.l t.x e y v E:=Y.Ar λa c I=>⟨by rw[AN,Ad (λe=>I (by grind))],by grind⟩;have xv:∀p q:F,CO 0 [.AB [p,q]]=A p:=λ_ _=>B;have xw:∀p q:F,CO 1 [.AB [p,q]]=A q:=λ_ _=>B;refine⟨_,_,AZ B B ?_,xa,λa c=> ?_,λa c=> ?_⟩;.rw[s4];simp only[QY,H (Qx t.x),H (xv _ _),H (xw _ _), *]
 .have J:=R a c;exact⟨by rw[K9];exact o.lv (by rw[g.l];grind),by rw[PD J];grind⟩
 .have J:=R a c;have xr:a≠i:=λe=>M (by grind);rw[AN,Ad xr,o.M (by rw[g.l];grind),g.o a (λj=>j (xe a c)),z.M J]
end
def K8(a b:Bt):Ah:=Ao (D6 a b<0)
def LF(b:Bt)(c:C Bt):C Bt:=c.takeWhile (λa=>K8 a b)++b::c.dropWhile (λa=>K8 a b)
def aE(b:Bt)(a:C Bt):(LF b a).Perm (a++[b]):=by unfold LF;refine List.perm_middle.trans ?_;rw[Agf];exact(List.perm_append_comm (l₁:=[b]) (l₂:=a))
def m6{a b c:Bt}(d:D6 a b<=0)(e:D6 b c<=0):D6 a c<=0:=by have:=hw a b c (by unfold MS;exact A0 d) (by unfold MS;exact A0 e);unfold MS at this;exact Afg this
def kd{e:Bt}:∀{f:C Bt}{b:Bt},b∈f.takeWhile (λd=>K8 d e)->D6 b e<0
 |[],b,a=>by cases a
 |d::g,b,a=>by
  rw[List.takeWhile_cons]at a;by_cases c:K8 d e=L
  .rw[Af c]at a;rcases Ad6.1 a with rfl|a;.exact Afg c
   .exact kd a
  .rw[Ad c]at a;cases a
def ez{c:Bt}:∀{h:C Bt},h.Pairwise (λb c=>D6 b c<=0)->∀d∈h.dropWhile (λb=>K8 b c),D6 c d<=0
 |[],_,d,a=>by cases a
 |b::j,f,d,a=>by
  rw[List.dropWhile_cons]at a;by_cases e:K8 b c=L;.rw[Af e]at a;exact ez (Af7.1 f).2 d a
  .rw[Ad e]at a;have g:D6 c b<=0:=by have:¬D6 b c<0:=λi=>e (A0 i);have:=LU.Ma b c;omega
   rcases Ad6.1 a with rfl|a;.exact g
   .exact m6 g ((Af7.1 f).1 d a)
def rK{a:Bt}{d:C Bt}(e:d.Pairwise λb a=>D6 b a<=0):(LF a d).Pairwise λb a=>D6 b a<=0:=by
 have g:=e;rw[<-Agf (p:=λb=>K8 b a) (l:=d)]at g;obtain⟨j,k,m⟩:=List.pairwise_append.1 g;unfold LF;refine List.pairwise_append.2 ⟨j,Af7.2 ⟨ez e,k⟩,λh f i c=> ?_⟩;rcases Ad6.1 c with rfl|c;.exact Int.le_of_lt (kd f)
 .exact m h f i c
def Ic(a c:C Bt):C Bt:=c.foldl (λa b=>LF b a) a
def rI(a c:C Bt)(b:Bt):Ic a (c++[b])=LF b (Ic a c):=by unfold Ic;rw[Af0];rfl
def gW:∀(c a:C Bt),(a.Pairwise λe b=>D6 e b<=0)->((Ic a c).Pairwise λe b=>D6 e b<=0)/\(Ic a c).Perm (a++c)
 |[],a,d=>⟨d,by rw[Ad5];exact Af5 _⟩
 |b::c,a,d=>by obtain⟨f,g⟩:=gW c (LF b a) (rK d);refine⟨f,g.trans ?_⟩;refine(List.Perm.append_right c (aE b a)).trans ?_;rw[AeN];exact Af5 _
def rJ(a:C Bt):Ic [] a=VT a:=by obtain⟨b,c⟩:=gW a [] List.Pairwise.nil;exact j0 b (jZ a) (c.trans (Yn a).symm)
def LM:C Bf->C Bf->K->K->Ah
 |a::e,b::f,c,d=>if a.Ax≠b.Ax then Ao (a.Ax<b.Ax)else if a.Az≠b.Az then Ao (a.Az<b.Az)else LM e f c d
 |[],[],c,d=>Ao (c<d)
 |[],_::_,_,_=>L
 |_::_,[],_,_=>Aa
def hD:∀(g h:C Bf)(a b:K),LM g h a b=Ao (IN (Ge g h) (H6 a b)<0)
 |[],[],a,b=>by by_cases e:a<b<;>by_cases f:b<a<;>simp[LM,Ge,IN,H6,e,f]
 |[],_::_,a,b=>by simp[LM,Ge,IN]
 |_::_,[],a,b=>by simp[LM,Ge,IN]
 |c::g,d::h,a,b=>by
  unfold LM Ge;by_cases e:c.Ax=d.Ax
  .by_cases f:c.Az=d.Az;.simp[e,f,Lo,IN,H6];rw[(hD g h a b)];simp only[IN,H6,ne_eq,ite_not]
   .by_cases i:c.Az<d.Az<;>by_cases j:d.Az<c.Az<;>simp[e,f,Lo,IN,H6,i,j]<;>omega
  .by_cases i:c.Ax<d.Ax<;>by_cases j:d.Ax<c.Ax<;>simp[e,Lo,IN,H6,i,j]<;>omega
def ic{a b:T}(c:a.num<b.num):(a=b)=False:=Ae1 P
variable{a:D}{b:G}
def Em{e:T}{d:D}{c:C _}(f:b.M e=A (.I d c)):AM b [.p e a]=c[a]? :=X9 (f:=d) (by rw[f];rfl) a
variable{c:G}
def eC{b:D}{d:T}{e a:C F}(h:c.M d=A (.I b e))(i:a.l=b)(g:BU a=L):AX b c [.p d 0,.S a]=A (AC,c.set d (.I b a)):=by show Aj (Aj (AW (Bq a) b) (BU a) Aa) (match c.Ep d 0 b a with|some f=>A (AC,f)|none=>O) O=_;rw[GK,i,Aee,g,Ki (a:=b) (i:=e) (by rw[h];rfl)];simp
def tz(c d:Bt)(g e:T)(xA:c.B4.l<1000000000):∀F b (a:G),c.B4.l-b=F->b<=c.B4.l->b<=d.B4.l->a.M g=A (.I 2 c.c)->a.M e=A (.I 2 d.c)->g.num<a.next.num->e.num<a.next.num->∃I,jj W9 133 3 [B6 b,.p g 0,.p e 0] a=A (.b (LM (c.B4.d b) (d.B4.d b) c.Ax d.Ax),I):=by
 have xd:∀b (a:G),b<=c.B4.l->b<=d.B4.l->(b=c.B4.l\/b=d.B4.l)->a.M g=A (.I 2 c.c)->a.M e=A (.I 2 d.c)->jj W9 133 2 [.p g 0,.p e 0] a=A (.b (LM (c.B4.d b) (d.B4.d b) c.Ax d.Ax),a):=by
  intro b a xy xz J j m;have u:AM a [.p g 0]=A (Z Bf.c c.B4):=Em j;have xa:AM a [.p g 1]=A (.i .n c.Ax):=Em j;have t:AM a [.p e 0]=A (Z Bf.c d.B4):=Em m;have xb:AM a [.p e 1]=A (.i .n d.Ax):=Em m;rw[Pq.2.1];simp only[EG,Aev,Ad2,AdP,u,t,DF,DW,D7,EF];by_cases q:c.B4.l=d.B4.l
  .have M:b=d.B4.l:=by omega
   have H:c.B4.l=d.B4.l:=by omega
   simp only[H,Ad4,Ad8,AdZ,Ad3];rw[Pq.2.2.2.2.2.2];simp only[EG,Aev,Ad2,AdP,xa,xb,D7];rw[show c.B4.d b=[]from by grind,show d.B4.d b=[]from by grind];rfl
  .have H:¬(c.B4.l:K)=d.B4.l:=by omega
   simp only[H,Ael,Aet,Aea];rcases J with J|J
   .let⟨r,_,v⟩:=Ds (b:=d.B4) (a:=b) (by omega)
    rw[show c.B4.d b=[]from by grind,v];have:c.B4.l<d.B4.l:=by omega
    simp[this,LM]
   .let⟨r,_,v⟩:=Ds (b:=c.B4) (a:=b) (by omega)
    rw[show d.B4.d b=[]from by grind,v];have:¬(c.B4.l:K)<d.B4.l:=by omega
    simp[this,LM]
 intro F
 induction F with
 |zero=>
  intro b a xe N Q j m xg xh;have u:AM a [.p g 0]=A (Z Bf.c c.B4):=Em j;have t:AM a [.p e 0]=A (Z Bf.c d.B4):=Em m;have:¬(b:K)<c.B4.l:=by omega
  rw[Pq.2.2.1];simp only[B6,EG,Aev,AdP,u,t,DF,D7,this,Ael,V3,Bool.false_beq,Ad8,cond_false,ZH,EF,AdZ,Ad3];grind
 |succ F xm=>
  intro b a xe N Q j m xg xh;have u:∀{a:G},a.M g=A (.I 2 c.c)->AM a [.p g 0]=A (Z Bf.c c.B4):=λj=>Em j;have t:∀{a:G},a.M e=A (.I 2 d.c)->AM a [.p e 0]=A (Z Bf.c d.B4):=λm=>Em m;have xf:(b:K)<c.B4.l:=by omega
  rw[Pq.2.2.1];simp only[B6,EG,Aev,AdP,u j,t m,DF,D7,xf,Ad4,V3,Afq,_root_.cond_true,ZH,EF];by_cases q:(b:K)<d.B4.l;case neg=>simp only[q,Ael,AdZ,Ad3];exact⟨a,xd b a N Q (Or.inr (by omega)) j m⟩
  case pos=>
  simp only[q,Ad4,Aea];let⟨o,xi,xj⟩:=Ds (b:=c.B4) (a:=b) (by omega)
  let⟨r,xk,xl⟩:=Ds (b:=d.B4) (a:=b) (by omega)
  have xc:=EZ (a:=Bf.c) (f:=2) (i:=.n) xi B;have M:=EZ (a:=Bf.c) (f:=2) (i:=.n) xk B;have xn:∀(a:G)(o:Bf),A9 2 a [.pi o.c]=A (.S o.c):=λ_ _=>B;have xp:(g=a.next)=False:=P;have xr:(e=a.next)=False:=P;have xq:(g=a.next.FI)=False:=ic (by rw[T.Fb];omega);have S:(e=a.next.FI)=False:=ic (by rw[T.Fb];omega);have V:=eC (b:=2) (c:=(a.V (.I 2 [.i .n 0,.i .n 0])).V (.I 2 [.i .n 0,.i .n 0])) (d:=a.next) (e:=[.i .n 0,.i .n 0]) (a:=o.c) (by simp) B B;generalize w:(((a.V _).V _).set _ (.I 2 o.c))=y at V;have W:=eC (b:=2) (c:=y) (d:=a.next.FI) (e:=[.i .n 0,.i .n 0]) (a:=r.c) (by rw[<-w];simp) B B;have U:y.M e=A (.I 2 d.c):=by rw[<-w];simp[xr,S,m]
  have xo:y.next=a.next.FI.FI:=by rw[<-w];rfl
  generalize x:y.set _ _=s at W;have xs:s.M g=A (.I 2 c.c):=by rw[<-x,<-w];simp[xp,xq,j]
  have xt:s.M e=A (.I 2 d.c):=by rw[<-x];simp[S,U]
  have X:s.M a.next=A (.I 2 o.c):=by rw[<-x,<-w];simp
  have Y:s.M a.next.FI=A (.I 2 r.c):=by rw[<-x];simp
  have R:s.next=a.next.FI.FI:=by rw[<-x];exact xo
  have xu:AM _ [.p a.next 0]=A (.i .n o.Ax):=Em X;have xv:AM _ [.p a.next 1]=A (.i .n o.Az):=Em X;have xw:AM _ [.p a.next.FI 0]=A (.i .n r.Ax):=Em Y;have xx:AM _ [.p a.next.FI 1]=A (.i .n r.Az):=Em Y;rw[Pq.2.2.2.1];simp only[EG,Aev,Ad2,AdP,u j,t m,xc,M,xn,O4,G.Gh,V,wR,wS,L0,t U,_root_.cond_true,W,xu,xw,DW,D7,EF,xj,xl];by_cases q:o.Ax=r.Ax;case neg=>simp only[q,Ael,Aet,Aea];exact⟨_,by simp only[LM,q,ne_eq,AdM,Aea];rfl⟩
  case pos=>
  simp only[q,Ad4,Ad8,AdZ,Ad3];rw[Pq.2.2.2.2.2.1];simp only[EG,Aev,Ad2,AdP,xv,xx,DW,D7,EF];by_cases E:o.Az=r.Az;case neg=>simp only[E,Ael,Aet,Aea];exact⟨s,by simp only[LM,q,E,ne_eq,not_true_eq_false,AdM,Aea,Ad3]⟩
  case pos=>
  simp only[E,Ad4,Ad8,AdZ,Ad3];rw[Pq.2.2.2.2.1];simp only[Lt,AdP,NK (a:=b) (by omega)];let⟨I,v⟩:=xm (b+1) s (by omega) (by omega) (by omega) xs xt (by rw[R,T.Fb,T.Fb];omega) (by rw[R,T.Fb,T.Fb];omega)
  refine⟨I,v.t ?_⟩;simp only[LM,q,E,ne_eq,not_true_eq_false,Ad3]
def pe(a b:Bt)(e:a.B4.l<1000000000):AY 133 [.S a.c,.S b.c] (.b (Ao (D6 a b<0))):=Bu B B B (by
 let⟨d,c⟩:=(tz a b .h (.o .h) e a.B4.l 0 ((G.Aq.V (.I 2 a.c)).V (.I 2 b.c)) (by omega) (by omega) (by omega) (by simp) (by simp) (by simp[T.num]) (by simp[T.num]))
 refine⟨d,?_⟩;rw[Pq.1];simp only[Ad7,hD]at c;simp only[O4,Ww,GK,Bt.NY,G.Gh,WJ,T.Vp];unfold D6;unfold B6 at c;grind)
def eT(a b:N):FT L [0,0] [.S a.c,.S b.c]=A (.b (!Ao (a=b))):=by simp[N.c];cases a;cases b;simp
def nO(a b:Bf):FT L [0,0] [.S a.c,.S b.c]=A (.b (!Ao (a=b))):=by simp[Bf.c];cases a;cases b;simp
def tP(b g:C N)(x:b.l=g.l)(y:b.l<1000000000)(c:G):∀d a,b.l-a=d->a<=b.l->jj W9 81 2 [B6 b.l,Z N.c b,Z N.c g,B6 a] c=A (.b (Ao (b.d a=g.d a)),c):=by
 intro d
 induction d with
 |zero=>
  intro a n o;have:¬(a:K)<b.l:=by omega
  rw[Q_.2.2.2.1];simp only[B6,D7,AdP,this,Ael,EF,AdZ,Ad3];rw[Q_.2.2.1,Ad1 (by omega),Ad1 (by omega)];rfl
 |succ d u=>
  intro a n o;have p:(a:K)<b.l:=by omega
  obtain⟨e,q,r⟩:=Ds (b:=b) (a:=a) (by omega);obtain⟨w,s,t⟩:=Ds (b:=g) (a:=a) (by omega);have j:=EZ (a:=N.c) (f:=2) (i:=.n) q B;have m:=EZ (a:=N.c) (f:=2) (i:=.n) s B;have v:∀(c:G)(e:N),A9 2 c [.pi e.c]=A (.S e.c):=λ_ _=>B;rw[Q_.2.2.2.1];simp only[B6,D7,AdP,p,Ad4,EF,Aea];rw[Q_.2.2.2.2.1];simp only[j,m,v,AdP,eT,EF,r,t];by_cases h:e=w;.simp only[h,Ad4,Ad8,AdZ,Ad3];rw[Q_.2.2.2.2.2];simp only[Lt,AdP,NK (a:=a) (by omega)];rw[show F.i .n ((a+1:D):K)=B6 ((a+1:D):K)from B,show F.i .n (b.l:K)=B6 b.l from B,u (a+1) (by omega) (by omega)];simp
  .simp[h]
def gg(a b:C N)(f:a.l<1000000000):AY 81 [Z N.c a,Z N.c b] (.b (Ao (a=b))):=Bu B B B ⟨G.Aq,by
 rw[Q_.1];simp only[DF,AdP,DW,EF];by_cases d:a.l=b.l
 .have c:(a.l:K)=b.l:=by omega
  simp only[c,Ad4,Ad8,AdZ,Ad3];rw[Q_.2.1];have:=tP a b d f G.Aq a.l 0 (by omega) (by omega);simp only[DF,AdP];exact this
 .have c:¬(a.l:K)=b.l:=by omega
  have:¬a=b:=λe=>d (by rw[e]);simp[c,this]⟩
def tK(b g:C Bf)(x:b.l=g.l)(y:b.l<1000000000)(c:G):∀d a,b.l-a=d->a<=b.l->jj W9 24 2 [Z Bf.c b,Z Bf.c g,B6 a] c=A (.b (Ao (b.d a=g.d a)),c):=by
 intro d
 induction d with
 |zero=>
  intro a n o;have:¬(a:K)<b.l:=by omega
  rw[Q2.2.2.2.1];simp only[B6,DF,D7,AdP,this,Ael,EF,AdZ,Ad3];rw[Q2.2.2.1,Ad1 (by omega),Ad1 (by omega)];rfl
 |succ d u=>
  intro a n o;have p:(a:K)<b.l:=by omega
  obtain⟨e,q,r⟩:=Ds (b:=b) (a:=a) (by omega);obtain⟨w,s,t⟩:=Ds (b:=g) (a:=a) (by omega);have j:=EZ (a:=Bf.c) (f:=2) (i:=.n) q B;have m:=EZ (a:=Bf.c) (f:=2) (i:=.n) s B;have v:∀(c:G)(e:Bf),A9 2 c [.pi e.c]=A (.S e.c):=λ_ _=>B;rw[Q2.2.2.2.1];simp only[B6,DF,D7,AdP,p,Ad4,EF,Aea];rw[Q2.2.2.2.2.1];simp only[j,m,v,AdP,nO,EF,r,t];by_cases h:e=w;.simp only[h,Ad4,Ad8,AdZ,Ad3];rw[Q2.2.2.2.2.2];simp only[Lt,AdP,NK (a:=a) (by omega)];rw[show F.i .n ((a+1:D):K)=B6 ((a+1:D):K)from B,u (a+1) (by omega) (by omega)];simp
  .simp[h]
def f8(a b:C Bf)(f:a.l<1000000000):AY 24 [Z Bf.c a,Z Bf.c b] (.b (Ao (a=b))):=Bu B B B ⟨G.Aq,by
 rw[Q2.1];simp only[DF,AdP,DW,EF];by_cases d:a.l=b.l
 .have c:(a.l:K)=b.l:=by omega
  simp only[c,Ad4,Ad8,AdZ,Ad3];rw[Q2.2.1];exact tK a b d f G.Aq a.l 0 (by omega) (by omega)
 .have c:¬(a.l:K)=b.l:=by omega
  have:¬a=b:=λe=>d (by rw[e]);simp[c,this]⟩
def tw(b g:C N)(v:b.l=g.l)(w:b.l<1000000000)(c:G):∀d a,b.l-a=d->a<=b.l->jj W9 67 2 [Z N.c b,Z N.c g,B6 a] c=A (.b (Ao (b.d a=g.d a)),c):=by
 intro d
 induction d with
 |zero=>
  intro a j m;have:¬(a:K)<b.l:=by omega
  rw[Q8.2.2.2.1];simp only[B6,DF,D7,AdP,this,Ael,EF,AdZ,Ad3];rw[Q8.2.2.1,Ad1 (by omega),Ad1 (by omega)];rfl
 |succ d s=>
  intro a j m;have n:(a:K)<b.l:=by omega
  let⟨e,o,p⟩:=Ds (b:=b) (a:=a) (by omega)
  let⟨u,q,r⟩:=Ds (b:=g) (a:=a) (by omega)
  have t:∀(c:G)(e:N),A9 2 c [.pi e.c]=A (.S e.c):=λ_ _=>B;rw[Q8.2.2.2.1];simp only[B6,DF,D7,AdP,n,Ad4,EF,Aea];rw[Q8.2.2.2.2.1];simp only[(EZ (a:=N.c) (f:=2) (i:=.n) o B),(EZ (a:=N.c) (f:=2) (i:=.n) q B),t,AdP,eT,EF,p,r];by_cases h:e=u;.simp only[h,Ad4,Ad8,AdZ,Ad3];rw[Q8.2.2.2.2.2];simp only[Lt,AdP,NK (a:=a) (by omega)];rw[show F.i _ _=B6 _ from B,s (a+1) (by omega) (by omega)];simp
  .simp[h]
def fF(a b:C N)(e:a.l<1000000000):AY 67 [Z N.c a,Z N.c b] (.b (Ao (a=b))):=Bu B B B ⟨G.Aq,by
 rw[Q8.1];simp only[DF,AdP,DW,EF];by_cases c:a.l=b.l
 .have d:a.l=b.l:=by omega
  simp only[d,Ad4,Ad8,AdZ,Ad3];rw[Q8.2.1];exact tw a b c e G.Aq a.l 0 (by omega) (by omega)
 .have:¬a=b:=by grind
  grind⟩
def tQ(b g:C (C N))(x:b.l=g.l)(E:b.l<1000000000)(y:∀c∈b,c.l<1000000000)(d:G):∀e a,b.l-a=e->a<=b.l->jj W9 82 2 [B6 b.l,Z Fh b,Z Fh g,.f (pos 81) [],B6 a] d=A (.b (Ao (b.d a=g.d a)),d):=by
 intro e
 induction e with
 |zero=>
  intro a o p;have:¬(a:K)<b.l:=by omega
  rw[Ra.2.2.2.1];simp only[B6,D7,AdP,this,Ael,EF,AdZ,Ad3];rw[Ra.2.2.1,Ad1 (by omega),Ad1 (by omega)];rfl
 |succ e v=>
  intro a o p;have q:(a:K)<b.l:=by omega
  let⟨c,r,s⟩:=Ds (b:=b) (a:=a) (by omega)
  let⟨j,t,u⟩:=Ds (b:=g) (a:=a) (by omega)
  have m:=EZ (a:=Fh) (f:=1) (i:=.n) t B;have w:∀(d:G)(c:C N),AM d [.pi (Fh c)]=A (Z N.c c):=λ_ _=>B;have n:=(gg c j P).at B;rw[Ra.2.2.2.1];simp only[B6,D7,AdP,q,Ad4,EF,Aea];rw[Ra.2.2.2.2.1];simp only[(EZ (a:=Fh) (f:=1) (i:=.n) r B),m,w,AdP,Kv,Ad5,n,Uu,EF,s,u];by_cases h:c=j;.simp only[h,Ad4,Ad8,AdZ,Ad3];rw[Ra.2.2.2.2.2];simp only[Lt,AdP,NK (a:=a) (by omega)];rw[show F.i _ _=B6 _ from B,show F.i _ _=B6 _ from B,v (a+1) (by omega) (by omega)];simp
  .simp[h]
def qN(a b:C (C N))(f:a.l<1000000000)(e:∀g∈a,g.l<1000000000):AY 82 [Z Fh a,Z Fh b,.f (pos 81) []] (.b (Ao (a=b))):=Bu B B B ⟨G.Aq,by
 rw[Ra.1];simp only[DF,AdP,DW,EF];by_cases c:a.l=b.l
 .have d:a.l=b.l:=by omega
  simp only[d,Ad4,Ad8,AdZ,Ad3];rw[Ra.2.1];simp only[DF,AdP];exact(tQ a b c f e G.Aq a.l 0 (by omega) (by omega))
 .have:¬a=b:=by grind
  grind⟩
def iA(a b:K):IN a b=0↔a=0/\b=0:=by unfold IN;omega
def Zf(a b:K):H6 a b=0↔a=b:=by unfold H6;omega
def m4(a b:Bf):Lo a b=0↔a=b:=by unfold Lo;rw[iA,Zf,Zf];cases a;cases b;simp
def eh:∀a b:C Bf,Ge a b=0↔a=b
 |[],[]=>by simp[Ge]
 |[],_::_=>by simp[Ge]
 |_::_,[]=>by simp[Ge]
 |d::a,e::b=>by
  have f:=m4 d e;by_cases c:d=e;.have:=f.2 c;subst c;simp[Ge,this,(eh a b)]
  .have:¬Lo d e=0:=by grind
   simp[Ge,this,c]
def m5(a b:Bt):D6 a b=0↔a=b:=by unfold D6;rw[iA,eh,Zf];cases a;cases b;simp
def tR(d q:C Bt)(Y:d.l=q.l)(xb:d.l<1000000000)(xa:∀c∈d,c.B4.l<1000000000):∀o b (a:G),d.l-b=o->b<=d.l->∃s,jj W9 83 2 [B6 d.l,Z Bt.c d,Z Bt.c q,.f (pos 84) [],B6 b] a=A (.b (Ao (d.d b=q.d b)),s):=by
 intro o
 induction o with
 |zero=>
  intro b a J M;have:¬(b:K)<d.l:=by omega
  rw[Rb.2.2.2.1];simp only[B6,D7,AdP,this,Ael,EF,AdZ,Ad3];rw[Rb.2.2.1,Ad1 (by omega),Ad1 (by omega)];exact⟨a,B⟩
 |succ o U=>
  intro b a J M;have N:(b:K)<d.l:=by omega
  let⟨c,Q,R⟩:=Ds (b:=d) (a:=b) (by omega)
  let⟨g,S,T⟩:=Ds (b:=q) (a:=b) (by omega)
  have E:=EZ (a:=Bt.c) (f:=2) (i:=.n) S B;have X:∀(a:G)(c:Bt),A9 2 a [.pi c.c]=A (.S c.c):=λ_ _=>B;have H:=(qP c g P).at B;have w:=WH (a:=2) (c:=a) (e:=a.next) (d:=[.sn,.i .n 0]) (b:=c.c) B B B;generalize t:(a.V _).set _ (.I 2 c.c)=j at w;have v:j.next=a.next.FI:=by rw[<-t];rfl
  have I:j.M a.next=A (.I 2 c.c):=by rw[<-t];simp
  have x:=WH (a:=2) (c:=j) (e:=a.next.FI) (d:=[.sn,.i .n 0]) (b:=g.c) P B B;generalize u:(j.V _).set _ _=e at x;have V:A9 2 e [.p a.next 0]=A (.S c.c):=by
   have:e.M a.next=A (.I 2 c.c):=by rw[<-u];simp[v,I]
   rw[F5,TE (b:=2) (e:=c.c) (by rw[this];rfl)];rfl
  have W:A9 2 e [.p a.next.FI 0]=A (.S g.c):=by
   have:e.M a.next.FI=A (.I 2 g.c):=by rw[<-u];simp
   rw[F5,TE (b:=2) (e:=g.c) (by rw[this];rfl)];rfl
  rw[Rb.2.2.2.1];simp only[B6,D7,AdP,N,Ad4,EF,Aea];rw[Rb.2.2.2.2.1];simp only[(EZ (a:=Bt.c) (f:=2) (i:=.n) Q B),E,X,AdP,O4,w,v,x,V,W,Kv,Ad5,H,Uu,EF,R,T,m5];by_cases r:c=g
  .simp only[r,Ad4,Ad8,AdZ,Ad3];rw[Rb.2.2.2.2.2];simp only[Lt,AdP,NK (a:=b) (by omega)];let⟨s,y⟩:=U (b+1) e (by omega) (by omega)
   refine⟨s,?_⟩;rw[show F.i _ _=B6 ((b+1:D):K)from B,show F.i .n (d.l:K)=B6 d.l from B,y];simp
  .simp only[r,Ael,Aet,Aea];exact⟨e,by simp[r]⟩
def qO(a b:C Bt)(f:a.l<1000000000)(e:∀g∈a,g.B4.l<1000000000):AY 83 [Z Bt.c a,Z Bt.c b,.f (pos 84) []] (.b (Ao (a=b))):=Bu B B B (by
 rw[Rb.1];simp only[DF,AdP,DW,EF];by_cases c:a.l=b.l
 .have d:a.l=b.l:=by omega
  simp only[d,Ad4,Ad8,AdZ,Ad3];rw[Rb.2.1];simp only[DF,AdP];exact(tR _ _ c f e _ 0 G.Aq (by omega) (by omega))
 .have:¬a=b:=by grind
  exact⟨G.Aq,by grind⟩)
def Hg(b:C N)(a:C (C N)):C F:=[Z N.c b,Z Fh a]
def tO(Q R:C N)(b e:C (C N))(S:b.l=e.l)(U:b.l<1000000000)(E:∀d∈b,d.l<1000000000)(c:G)(j m:T)(x:c.M j=A (.I 2 (Hg Q b)))(y:c.M m=A (.I 2 (Hg R e))):∀g a,b.l-a=g->a<=b.l->jj W9 25 2 [.p j 0,.p m 0,B6 a] c=A (.b (Ao (b.d a=e.d a)),c):=by
 have h:AM c [.p j 1]=A (Z Fh b):=Em x
 have q:AM c [.p m 1]=A (Z Fh e):=Em y
 intro g
 induction g with
 |zero=>
  intro a u v;have:¬(a:K)<b.l:=by omega
  rw[Q3.2.2.2.1];simp only[B6,EG,Ad2,h,DF,D7,AdP,this,Ael,EF,AdZ,Ad3];rw[Q3.2.2.1,Ad1 (by omega),Ad1 (by omega)];rfl
 |succ g M=>
  intro a u v;have w:(a:K)<b.l:=by omega
  let⟨d,o,H⟩:=Ds (b:=b) (a:=a) (by omega)
  let⟨p,I,J⟩:=Ds (b:=e) (a:=a) (by omega)
  have r:=EZ (a:=Fh) (f:=1) (i:=.n) o B;have s:=EZ (a:=Fh) (f:=1) (i:=.n) I B;have P:∀(c:G)(d:C N),AM c [.pi (Fh d)]=A (Z N.c d):=λ_ _=>B;have t:=(fF d p (E d (AdU o))).at B;rw[Q3.2.2.2.1];simp only[B6,EG,Ad2,h,DF,D7,AdP,w,Ad4,EF,Aea];rw[Q3.2.2.2.2.1];simp only[EG,Ad2,h,q,r,s,P,AdP,t,Uu,EF,H,J];by_cases n:d=p;.simp only[n,Ad4,Ad8,AdZ,Ad3];rw[Q3.2.2.2.2.2];simp only[Lt,AdP,NK (a:=a) (by omega)];rw[show F.i _ _=B6 _ from B,M (a+1) (by omega) (by omega)];simp
  .simp[n]
def ge(b d:C N)(a c:C (C N))(q:b.l<1000000000)(r:a.l<1000000000)(p:∀s∈a,s.l<1000000000):AY 25 [.S (Hg b a),.S (Hg d c)] (.b (Ao (b=d)&&Ao (a=c))):=Bu B B B (by
 have o:=(fF b d q).at B;have f:((G.Aq.V (.I 2 (Hg b a))).V (.I 2 (Hg d c))).M .h=A (.I 2 (Hg b a)):=by simp
 have g:((G.Aq.V (.I 2 (Hg b a))).V (.I 2 (Hg d c))).M (.o .h)=A (.I 2 (Hg d c)):=by simp
 rw[Q3.1];simp only[O4,Ww,GK,G.Gh,WJ,T.Vp];rw[show(Hg b a).l=2 from B,show(Hg d c).l=2 from B];generalize(G.Aq.V (.I 2 (Hg b a))).V (.I 2 (Hg d c))=e at f g;have h:e.Ap .h 0=A (Z N.c b):=Em f;have i:e.Ap .h 1=A (Z Fh a):=Em f;have j:e.Ap (.o .h) 0=A (Z N.c d):=Em g;have k:e.Ap (.o .h) 1=A (Z Fh c):=Em g;simp only[EG,Qm,Ad2,AdP,h,i,j,k,o,Uu,V3,DF,DW,ZH,EF];by_cases l:b=d
 .by_cases n:a.l=c.l
  .have m:a.l=c.l:=by omega
   subst l;simp[m,h,i,j,k];rw[Q3.2.1];have:=tO b b a c n r p e .h (.o .h) f g a.l 0 (by omega) (by omega);refine⟨e,?_⟩;simp only[Ad7]at this;simpa[B6]using this
  .have m:¬(a.l:K)=c.l:=by omega
   have:¬a=c:=by grind
   exact⟨e,by simp[l,m,this,h,i,j,k]⟩
 .exact⟨e,by simp[l]⟩)
def NS(a b:C1):Ah:=Ao (a.CQ=b.CQ)&&Ao (a.I=b.I)&&Ao (a.Dv=b.Dv)&&Ao (a.AA=b.AA)&&Ao (a.Kq=b.Kq)&&Ao (a.KL=b.KL)
def RJ(a:C1):Prop:=a.Dv.l<=200000/\a.CQ.l<=100000/\a.I.l<=100000/\(∀b∈a.I,b.l<=100000)/\∀c∈a.Dv,c.B4.l<=100000
def f7(a b:C1)(F:RJ a):AY 41 [.S a.c,.S b.c] (.b (NS a b)):=Bu B B B (by
 let⟨I,J,M,P,Q⟩:=F
 have q:=(gg a.CQ b.CQ (by omega)).at B;have r:=(qN a.I b.I (by omega) (λH E=>by grind)).at B;have f:=(qO a.Dv b.Dv (by omega) (λH E=>by grind)).at B;have d:((G.Aq.V (.I 7 a.c)).V (.I 7 b.c)).M .h=A (.I 7 a.c):=by simp
 have e:((G.Aq.V (.I 7 a.c)).V (.I 7 b.c)).M (.o .h)=A (.I 7 b.c):=by simp
 rw[sZ];simp only[O4,Ww,GK,G.Gh,WJ,T.Vp,C1.NY];generalize(G.Aq.V (.I 7 a.c)).V (.I 7 b.c)=c at d e;refine⟨c,?_⟩;have s:c.Ap .h 0=A (Z N.c a.CQ):=Em d;have g:c.Ap .h 1=A (Z Fh a.I):=Em d;have h:c.Ap .h 2=A (.i .n a.AA):=Em d;have i:c.Ap .h 3=A (.i .n a.Kq):=Em d;have j:c.Ap .h 4=A (.i .n a.KL):=Em d;have k:c.Ap .h 6=A (Z Bt.c a.Dv):=Em d;have t:c.Ap (.o .h) 0=A (Z N.c b.CQ):=Em e;have l:c.Ap (.o .h) 1=A (Z Fh b.I):=Em e;have m:c.Ap (.o .h) 2=A (.i .n b.AA):=Em e;have n:c.Ap (.o .h) 3=A (.i .n b.Kq):=Em e;have o:c.Ap (.o .h) 4=A (.i .n b.KL):=Em e;have p:c.Ap (.o .h) 6=A (Z Bt.c b.Dv):=Em e;simp only[EG,Qm,Ad2,Aev,AdP,s,g,h,i,j,k,t,l,m,n,o,p,q,f,V3];unfold NS;generalize Ao (a.CQ=b.CQ)=u at q⊢;generalize Ao (a.I=b.I)=v at r⊢;generalize Ao (a.Dv=b.Dv)=w at f⊢;by_cases x:a.AA=b.AA<;>by_cases y:a.Kq=b.Kq<;>by_cases z:a.KL=b.KL<;>cases u<;>cases v<;>cases w<;>simp-implicitDefEqProofs [x,y,z,r,f,g,l,h,i,j,k,m,n,o,p])
def Aa1(a b:Bt):a=b↔a.Ax=b.Ax/\a.B4=b.B4:=by cases a;cases b;simp[and_comm]
def tJ(c h:C1)(Y:c.Dv.l=h.Dv.l)(xa:c.Dv.l<1000000000)(S:∀a∈c.Dv,a.B4.l<1000000000)(e:G)(y E:T)(Q:e.M y=A (.I 7 c.c))(R:e.M E=A (.I 7 h.c)):∀n b,c.Dv.l-b=n->b<=c.Dv.l->jj W9 40 2 [.p y 0,.p E 0,B6 b] e=A (.b (Ao (c.Dv.d b=h.Dv.d b)),e):=by
 have g:e.Ap y 6=A (Z Bt.c c.Dv):=Em Q
 have o:e.Ap E 6=A (Z Bt.c h.Dv):=Em R
 intro n
 induction n with
 |zero=>
  intro b M N;have:¬(b:K)<c.Dv.l:=by omega
  rw[Q5.2.2.2.1];simp only[B6,EG,Qm,Ad2,g,DF,D7,AdP,this,Ael,EF,AdZ,Ad3];rw[Q5.2.2.1,Ad1 (by omega),Ad1 (by omega)];rfl
 |succ n W=>
  intro b M N;have P:(b:K)<c.Dv.l:=by omega
  obtain⟨a,I,t⟩:=Ds (b:=c.Dv) (a:=b) (by omega);obtain⟨d,V,u⟩:=Ds (b:=h.Dv) (a:=b) (by omega);have r:=EZ (a:=Bt.c) (f:=2) (i:=.n) I B;have s:=EZ (a:=Bt.c) (f:=2) (i:=.n) V B;have v:∀(a:Bt),(a.c.d 0)[0]? =A (Z Bf.c a.B4):=λ_=>B;have x:∀(a:Bt),(a.c.d 1)[0]? =A (.i .n a.Ax):=λ_=>B;have H:=(f8 a.B4 d.B4 (S a (AdU I))).at B;rw[Q5.2.2.2.1];simp only[B6,EG,Qm,Ad2,g,DF,D7,AdP,P,Ad4,EF,Aea];rw[Q5.2.2.2.2.1];simp only[EG,Qm,Ad2,g,o,r,s,nU,nV,v,x,AdP,DW,V3];have X:∀a:Bt,1<a.c.l:=λ_=>Nat.lt_succ_self 1;have J:∀a:Bt,a.c[1]'(X a)=.i .n a.Ax:=λ_=>B;have U:=Aa1 a d;by_cases m:a.Ax=d.Ax
  .by_cases p:a.B4=d.B4;.have j:a=d:=U.2 ⟨m,p⟩;subst j;have w:a.c[0]? =A (Z Bf.c a.B4):=B;simp[g,o,r,s,v,w,x,J,H];rw[Q5.2.2.2.2.2];simp only[Lt,AdP,NK (a:=b) (by omega)];rw[show F.i .n ((b+1:D):K)=B6 ((b+1:D):K)from B,W (b+1) (by omega) (by omega),t,u];simp
   .have j:¬a=d:=λq=>p (by rw[q]);have w:∀a:Bt,a.c[0]? =A (Z Bf.c a.B4):=λ_=>B;simp[g,o,r,s,v,w,x,J,H,m,p,t,u,j]
  .have j:¬a=d:=λq=>m (by rw[q]);simp[m,t,u,j]
def jd{c:T}{a:C1}(d:b.M c=A (.I 7 a.c)):b.AL c 0 2=A (Hg a.CQ a.I):=by rw[TE (b:=7) (e:=a.c) (by rw[d];rfl),Af (by decide),Ad (by decide)];rfl
def rS(a c:C1)(i:RJ a)(b:G)(e:b.M .h=A (.I 7 a.c))(f:b.M (.o .h)=A (.I 7 c.c))(d:a.Dv.l=c.Dv.l):jj W9 40 5 [.p .h 0,.p (.o .h) 0] b=A (.b (Ao (a.Dv=c.Dv)),b):=by obtain⟨k,l,m,n,h⟩:=i;have:=tJ a c d (by omega) (λj g=>by have:=h j g;omega) b .h (.o .h) e f a.Dv.l 0 (by omega) (by omega);rw[Ad7,Ad7]at this;rw[Q5.2.1];exact this
def cz{a:Ah}{f g:T}{c:D}{e:IntKind}{h i:K}(j:b.Ap f c=A (.i e h))(k:b.Ap g c=A (.i e i))(d:F->R):
  ((Aj (A1 Aa (.b a)) (Bl c [.p f 0]) (A AC)).b λl=>
   (Aj (A1 Aa (.b a)) (AM b [l]) (A AC)).b λm=>
   (Aj (A1 Aa (.b a)) (Bl c [.p g 0]) (A AC)).b λn=>
   (Aj (A1 Aa (.b a)) (AM b [n]) (A AC)).b λo=>
   (Aj (A1 Aa (.b a)) (A6 .neq [m,o]) (A AC)).b λp=>
   (DY [.b a,.b L,p]).b d)=d (.b (a|| !Ao (h=i))):=by
 cases a<;>simp[j,k]
def to{a:Ah}{e f:T}{c:D}{g h:C Bt}(i:b.Ap e c=A (Z Bt.c g))(j:b.Ap f c=A (Z Bt.c h))(d:F->R):
  ((Aj (A1 Aa (.b a)) (Bl c [.p e 0]) (A AC)).b λk=>
   (Aj (A1 Aa (.b a)) (AM b [k]) (A AC)).b λl=>
   (Aj (A1 Aa (.b a)) (DX [l]) (A AC)).b λm=>
   (Aj (A1 Aa (.b a)) (Bl c [.p f 0]) (A AC)).b λn=>
   (Aj (A1 Aa (.b a)) (AM b [n]) (A AC)).b λo=>
   (Aj (A1 Aa (.b a)) (DX [o]) (A AC)).b λp=>
   (Aj (A1 Aa (.b a)) (A6 .neq [m,p]) (A AC)).b λq=>
   (DY [.b a,.b L,q]).b d)=d (.b (a|| !Ao ((g.l:K)=h.l))):=by
 cases a<;>simp[i,j]
def td(a b:C1)(k:R)(c:G)(n:a.Dv.l=b.Dv.l->k=A (.b (Ao (a.Dv=b.Dv)),c)):Da (A (.b Aa,c)) k (.b (!(Ao (a.CQ=b.CQ)&&Ao (a.I=b.I))|| !Ao (a.AA=b.AA)|| !Ao (a.Kq=b.Kq)|| !Ao (a.KL=b.KL)|| !Ao ((a.Dv.l:K)=b.Dv.l)))=A (.b (NS a b),c):=by
 unfold NS;generalize Ao (a.CQ=b.CQ)=e;generalize Ao (a.I=b.I)=f;generalize Ao (a.AA=b.AA)=g;generalize Ao (a.Kq=b.Kq)=h;generalize Ao (a.KL=b.KL)=i;by_cases j:a.Dv.l=b.Dv.l
 .have d:(a.Dv.l:K)=b.Dv.l:=by omega
  rw[n j];generalize Ao (a.Dv=b.Dv)=l;rw[A0 d];cases e<;>cases f<;>cases g<;>cases h<;>cases i<;>cases l<;>rfl
 .have d:¬(a.Dv.l:K)=b.Dv.l:=by omega
  have o:¬a.Dv=b.Dv:=λm=>j (by rw[m]);rw[A2 d,A2 o];cases e<;>cases f<;>cases g<;>cases h<;>cases i<;>rfl
def g24(a b:C1)(x:RJ a):AY 40 [.S a.c,.S b.c] (.b (NS a b)):=Bu B B B (by
 obtain⟨t,u,v,f,w⟩:=x;have q:=(ge a.CQ b.CQ a.I b.I (by omega) (by omega) (λy r=>by have:=f y r;omega)).at B;have d:((G.Aq.V (.I 7 a.c)).V (.I 7 b.c)).M .h=A (.I 7 a.c):=by simp
 have e:((G.Aq.V (.I 7 a.c)).V (.I 7 b.c)).M (.o .h)=A (.I 7 b.c):=by simp
 rw[Q5.1];simp only[O4,Ww,GK,G.Gh,WJ,T.Vp,C1.NY];generalize(G.Aq.V (.I 7 a.c)).V (.I 7 b.c)=c at d e;have s:=rS a b ⟨t,u,v,f,w⟩ c d e;refine⟨c,?_⟩;have g:A9 2 c [.p .h (0+0)]=A (.S (Hg a.CQ a.I)):=by rw[F5];exact AdW (Option.map F.S) (jd d)
 have l:A9 2 c [.p (.o .h) (0+0)]=A (.S (Hg b.CQ b.I)):=by rw[F5];exact AdW (Option.map F.S) (jd e)
 have h:c.Ap .h 2=A (.i .n a.AA):=Em d;have i:c.Ap .h 3=A (.i .n a.Kq):=Em d;have j:c.Ap .h 4=A (.i .n a.KL):=Em d;have k:c.Ap .h 6=A (Z Bt.c a.Dv):=Em d;have m:c.Ap (.o .h) 2=A (.i .n b.AA):=Em e;have n:c.Ap (.o .h) 3=A (.i .n b.Kq):=Em e;have o:c.Ap (.o .h) 4=A (.i .n b.KL):=Em e;have p:c.Ap (.o .h) 6=A (Z Bt.c b.Dv):=Em e;rw[EG 0 .h 0,AdP,g,AdP,EG 0 (.o .h) 0,AdP,l,AdP,q c,AdP];dsimp only;rw[Uu,AdP,cz h m,cz i n,cz j o,to k p];exact td a b _ c s)
def pa(a b:C1)(z:RJ a):AY 14 [.S a.c,.S b.c] (.b (NS a b&&Ao (a.OJ=b.OJ))):=Bu B B B (by
 let⟨g,e,u,s,E,r,w,J⟩:=box G.Aq (.I 7 a.c)
 have n:∀(d:F->G->R),bl (.p G.Aq.next 0) (G.Aq.V (.I (Bq (F.I (.S a.c))) (F.I (.S a.c)))) d=d (.p g 0) e:=Dy G.Aq (.I 7 a.c) u s
 let⟨h,c,v,t,p,k,I,M⟩:=box e (.I 7 b.c)
 have o:∀(d:F->G->R),bl (.p e.next 0) (e.V (.I (Bq (F.I (.S b.c))) (F.I (.S b.c)))) d=d (.p h 0) c:=Dy e (.I 7 b.c) v t
 have j:=(p.M w).t r
 have l:c.AL g 0 7=A a.c:=BB j
 have m:c.AL h 0 7=A b.c:=BB k
 have x:c.Ap g 5=A (.n a.OJ):=Ay j 5
 have y:c.Ap h 5=A (.n b.OJ):=Ay k 5
 have f:=g24 a b z
 have q:=Ch .n a.OJ b.OJ
 refine⟨c,?_⟩
 rw[r6]
 cases i:NS a b with
 |false=>rw[i]at f;simp only[↓n,↓o,↓Q,↓QT,AdM,↓H l,↓H m,↓f.H B,QB]
 |true=>rw[i]at f;simp only[↓n,↓o,↓Q,↓QT,AdM,↓H l,↓H m,↓f.H B,QB,↓H x,↓H y,↓H q])
section
variable{t:EC} {u:T->Prop}
theorem kh{a:G}{b:Ai}{f:C (C (C K))}{d:K}(c:Bj t a b f d u):jj W9 8 3 [.p t.x 0] a=A (.b Aa,a)\/jj W9 8 3 [.p t.x 0] a=jj W9 8 2 [.n d,.p t.x 0] a:=by
 let⟨m,_,_,_⟩:=c.Hw
 have k:a.Ap t.x 4=A (.n b.AA):=by
  let⟨l,g,e,j⟩:=c
  exact Ay e.M 4
 rw[Q9.2.2.2];by_cases h:b.AA>700;.left;simp only[QY,H (Pe t.x),QB, *]
 .by_cases i:(b.Ac.l:K)>60;.left;simp only[QY,H (Pe t.x),H (Eg t.x),QB, *]
  .right;simp only[QY,H (Pe t.x),H (Eg t.x),QB, *]
theorem dy{a:K}(c:a≠0)(d:F)(b:G):jj W9 8 2 [.n a,d] b=A (.b L,b):=by rw[Q9.2.2.1];simp only[↓Q,↓QT,AdM,c,QB,Q9.2.1]
theorem hM(r:BD t.l){m o:D}(y:m=400):∀{s:D}{d:G}{b:Ai}{j:C (C (C K))}{p:Ai×K},G8 t.l b->Bj t d b j 0 u->CJ b j->HW t.l m o s b=A p->∃z M,jj W9 8 2 [.n 0,.p t.x 0] d=A (.b z,M)
 |0,d,b,j,p,q,v,w,a=>by cases a
 |s+1,d,b,j,p,q,v,w,a=>by
  let⟨I,J⟩:=fU r (xA:=o) y q v w
  unfold HW at a;by_cases h:(Br t.l b).l=0
  .let⟨c,l,e,x⟩:=I h
   refine⟨L,c,?_⟩;rw[Q9.2.2.1];simp only[QY,QB,Q9.2.1, *]
  .rw[Ad h]at a
   cases k:KH t.l m o b with
   |none=>rw[k]at a;cases a
   |some g=>
    rw[k]at a;have a:(if g.2≠0 then A g else HW t.l m o s g.1)=A p:=a;let⟨P,Q⟩:=J h g k
    have N:∀{c:G},W9 (pos 35) [.p t.x 0] d=A (.b L,c)->jj W9 8 2 [.n 0,.p t.x 0] d=jj W9 8 3 [.p t.x 0] c:=λ{c} l=>by rw[Q9.2.2.1];simp only[QY,QB, *]
    by_cases f:g.2=0
    .rw[Ad (λR=>R f)]at a;let⟨c,H,l,e,F,x⟩:=P f
     have E:=VJ r q h k f;rcases kh e with i|i;.grind
     .let⟨z,T,U⟩:=hM r y E e F a
      grind
    .let⟨c,S,H,l,e,x⟩:=Q f
     rcases kh e with i|i;.grind
     .exact⟨L,c,(N l).t (i.t (dy f _ _))⟩
end
theorem g5{d:C Ab}(U:Cl d)(a:AQ)(N:a.l.l<=2000000)(P:a.BT.l<=2000000):∃c:Ah,AY 8 [Z Ab.c d,.S (AQ.c a)] (.b c):=by
 obtain⟨h,p⟩:∃h:D,h=400:=⟨_,B⟩;obtain⟨s,q⟩:∃s:D,2000000<s:=⟨2000001,by omega⟩;obtain⟨j,xh⟩:∃j:D,6000<j:=⟨6001,by omega⟩;have Y:∃c i,xx W9 8 [Z Ab.c d,.S (AQ.c a)] G.Aq=A (.b c,i):=by
  let⟨xa,o,W,T,xc,J,xk,xl⟩:=box G.Aq (.I 2 (AQ.c a))
  have xr:∀(b:F->G->R),bl (.p G.Aq.next 0) (G.Aq.V (.I (Bq (F.I (.S (AQ.c a)))) (F.I (.S (AQ.c a))))) b=b (.p xa 0) o:=Dy G.Aq (.I 2 (AQ.c a)) W T;have xo:=J;have xp:∀e f:F,CO 0 [.AB [e,f]]=A e:=λ_ _=>B;have xq:∀e f:F,CO 1 [.AB [e,f]]=A f:=λ_ _=>B;let⟨v,r⟩:=bH (c:=d) (h:=h) q a
  let⟨xb,Q,xi,xe,xd,z⟩:=fS U p a N P r o (p:=λ_=>False) (λxm V=>V.elim)
  have w:xx W9 8 [Z Ab.c d,.S (AQ.c a)] G.Aq=jj W9 8 2 [.n v.2,xb] Q:=by rw[Q9.1];simp only[QY,H _,H _, *]
  by_cases g:v.2=0
  .obtain⟨t,xf,S,rfl,y,x⟩:=z g;let⟨E,b⟩:=PL (λM=>HU M) r g
   have n:=HU E;subst S;have:=b.X.W.AA;let⟨xn,X⟩:=ci n (i:=h) q (h:=j) b (by omega)
   let⟨c,xg,xj⟩:=hM n p b y x X
   rw[g]at w;grind
  .exact⟨L,_,w.t (dy g _ _)⟩
 let⟨c,i,I⟩:=Y
 exact⟨c,Bu B B B ⟨i,I⟩⟩
structure WY(i:G)(e:F)(b:G)(f:C WE)(d:T)(a:WE)(c:T)(k:C F):Prop where
 I:WI i e b f
 g:b.M d=A (.I 2 (CG a))
 l:Lv b d
 uq:As e d
 ro:Ro b a.1 Bf.c 2 a.2.B4
 uy:∀j,¬As a.1 j->As e j
 fy:Dx i a.1
 qy:As a.1 d
 qx:∀h∈f,As h.1 d
 A7:a.2.B4.l<1000000000
 gb:b.M c=A (.I 7 k)
 lb:Lv b c
 ub:As e c
 yb:As a.1 c
 bx:∀h∈f,As h.1 c
def WY.Mc{E i:G}{x:F}{q:C WE}{w:T}{m:WE}{r:T}{y:C F}(b:WY E x i q w m r y){e:WE}(p:e∈q):∃o,W9 (pos 133) [.S (CG e),.S (CG m)] i=A (.b (K8 e.2 m.2),o)/\WY E x o q w m r y:=by
 have f:=b.I;have z:∀j:WE,Ro i j.1 Bf.c 2 j.2.B4->(∀a,¬As j.1 a->(¬As e.1 a\/¬As m.1 a))->Fs (λa=>¬As e.1 a\/¬As m.1 a) 3 i (.S (CG j)) (.S (Bt.c j.2)):=λj u M=>
  Fs.S (BS.cons (u.fs M (λ_=>B) (λ_=>B)) (BS.cons ((Fs.im (c:=i) (a:=.n j.2.Ax) B).up (by omega)) (BS.nil 2 i)))
 let⟨o,J,h⟩:=BS.FV (BS.cons (z e (f.ro e p) λa k=>.i k) (BS.cons (z m b.ro λa k=>.j k) (BS.nil 3 i))) (by omega)
 have N:∀a,¬As x a->o.M a=i.M a:=λa k=>h.o a (by
  rintro(d|d)
  .exact k (f.HF e p a d)
  .exact k (b.uy a d))
 refine⟨o,pe e.2 m.2 (f.A7 e p) i _ o J,⟨⟨f.Cs.Ar λa n k=>⟨N a k,by rw[h.l];grind⟩,λj u=>(f.ro j u).Ar λa v s n _ t=>⟨h.p.1 a v s t,by rw[h.l];grind⟩,f.A7,f.HF,λa n=>⟨?_,by rw[h.l];exact f.E.lv n⟩,f.fu,f.fx⟩,?_,by rw[h.l];exact b.l,b.uq,b.ro.Ar λa v s n _ t=>⟨h.p.1 a v s t,by rw[h.l];grind⟩,b.uy,b.fy,b.qy,b.qx,b.A7,?_,by rw[h.l];exact b.lb,b.ub,b.yb,b.bx⟩⟩
 .rw[h.o a (by
   rintro(d|d)
   .exact d (f.fx e p a n)
   .exact d (b.fy a n))]
  exact f.E.M n
 .rw[h.o w (by
   rintro(d|d)
   .exact d (b.qx e p)
   .exact d b.qy)]
  exact b.g
 .rw[h.o r (by
   rintro(d|d)
   .exact d (b.bx e p)
   .exact d b.yb)]
  exact b.gb
def jF{c:Rd}{e:C F}{d:F}{a:F×G}:Aj (C0 1023 b (C2 (A1 L (.b L)) ⟨8,c,e,d⟩ [])) (A a) O=A a:=Ye (by grind)
def MA(a:Bt):C Bt->D
 |[]=>0
 |c::b=>if K8 c a=L then MA a b+1 else 0
def dD(b:Bt):∀a:C _,a.t (MA b a)=a.takeWhile (λc=>K8 c b)/\a.d (MA b a)=a.dropWhile (λc=>K8 c b)
 |[]=>⟨B,B⟩
 |c::g=>by
  let⟨e,f⟩:=dD b g
  unfold MA;rw[List.takeWhile_cons,List.dropWhile_cons];by_cases d:K8 c b=L;.rw[Af d,Af d,Af d,AfJ,Afk,e,f];grind
  .grind
def e9{x:G}{h:F}{b:C WE}{g:T}{d:WE}{t:T}{r:C F}(P:b.l<1000000)(j k l m:F):∀(p a:D){e:G},a+p=b.l->WY x h e b g d t r->∃v,jj W9 89 7 [.p g 0,h,.n a,j,k,l,m] e=jj W9 89 6 [.p g 0,h,.n (a+MA d.2 ((b.d a).m (·.2)):D),j,k,l,m] v/\WY x h v b g d t r
 |0,a,e,S,c=>by
  have:a=b.l:=by omega
  subst this;have V:=Cp c.I.Cs;have X:=CA b.l;refine⟨e,?_,c⟩;rw[AfA,GJ.2.2.2.2.2.2.2.2.2.2.1];simp only[QY,QB, *];rfl
 |p+1,a,e,S,c=>by
  have y:a<b.l:=by omega
  let⟨E,q,R⟩:=Ds y
  have V:=Cp c.I.Cs;have u:=Cm y;let⟨W,n⟩:=CD (f:=CG) (w:=2) (λ_=>B) c.I.Cs q
  have Y:=n.AL (f:=CG) (λ_=>B) q;have Z:=BB c.g;let⟨M,z,s⟩:=c.Mc (AdU q)
  rw[R,AeC];unfold MA;by_cases o:K8 E.2 d.2=L
  .rw[Af o];rw[o]at z;let⟨N,U,I⟩:=e9 P j k l m p (a+1) (by omega) s
   refine⟨N,?_,I⟩;rw[show a+(MA d.2 ((b.d (a+1)).m (·.2))+1)=a+1+MA d.2 ((b.d (a+1)).m (·.2)) by omega,<-U,GJ.2.2.2.2.2.2.2.2.2.2.1];simp only[Y3,Q,QT,AdM,u,H n.ia,jF,QB,GJ.2.2.2.2.2.2.2.2.2.2.2,H (Bh (a:=a) (by omega)),ZR, *]
  .have J:K8 E.2 d.2=Aa:=by grind
   rw[Ad o];rw[J]at z;refine⟨M,?_,s⟩;rw[GJ.2.2.2.2.2.2.2.2.2.2.1,Aev];simp only[Y3,Q,QT,AdM,u,H n.ia,jF,QB,ZR, *]
def oC{c:C WE}:(c.t a).f CG=(c.f CG).t (a*2):=by
 induction c generalizing a with
 |nil=>simp
 |cons b e d=>
  cases a with
  |zero=>simp
  |succ a=>rw[AfJ,Aeh,Aeh,d,show(a+1)*2=(a*2)+1+1 by omega];show b.1::.n b.2.Ax::_=List.take (a*2+1+1) (b.1::.n b.2.Ax::_);rw[AfJ,AfJ];rfl
def oA{b:C WE}:(b.d a).f CG=(b.f CG).d (a*2):=by
 induction b generalizing a with
 |nil=>simp
 |cons c e d=>
  cases a with
  |zero=>simp
  |succ a=>rw[Afk,Aeh,d,show(a+1)*2=(a*2)+1+1 by omega];show _=List.drop (a*2+1+1) (c.1::.n c.2.Ax::_);rw[Afk,Afk];rfl
def je{f:G}{e:T}{b:D}{c:C F}(g:f.M e=A (.I b c))(j:c.l=b){d:D}(h:a+d<=b):f.AL e a d=A ((c.d a).t d):=by
 rw[D1 g,Af h];congr 1;split
 .rename_i i;have:a=0:=by omega
  subst this;rw[Ad7,Aeq (by omega)]
 .rfl
def Aa3{j:F}{b:C WE}(p:Aw c j CG 2 b)(g:a<=b.l):∃i,GF 2 Aa L [j,.n (a:K)]=A i/\Ii i=A a/\F7 c 2 a i=A ((b.t a).f CG):=by
 rcases p with⟨rfl,rfl⟩|⟨d,e,rfl,o,l,q⟩
 .have:a=0:=by simpa using g
  subst this;exact⟨.sn,B,B,B⟩
 .refine⟨.Z d (0+0*2) (a-0) (Mb e 0) 2,?_,by rw[Nat.sub_zero];rfl,?_⟩
  .have m:BX a (O7 b.l e)=L:=AdX (by
    rcases o with rfl|rfl
    .exact g
    .exact g)
   show Aj (AW 2 2) (match Aj (BX a (O7 b.l e)) (A (0,a)) O with|some (h,c)=>A (F.Z d (0+h*2) (c-h) (Mb e h) 2)|none=>O) O=_
   rw[m];rfl
  .have n:BX a (a-0)=L:=AdX (by omega)
   show Aj (AW 2 2&&BX a (a-0)) (Aj (AW a 0) (A []) (c.AL d (0+0*2) (a*2))) O=_
   rw[n]
   show Aj (AW a 0) (A []) (c.AL d (0+0*2) (a*2))=_
   have k:(b.f CG).l=b.l*2:=Mf (f:=CG) (w:=2) (λ_=>B) b
   cases a with
   |zero=>simp
   |succ a=>show c.AL d (0+0*2) ((a+1)*2)=_;rw[je l k (by omega),oC,show 0+0*2=0 by omega,Ad7]
def Aa4{j:F}{b:C WE}(o:Aw c j CG 2 b)(e:a<=b.l):∃g,GF 2 L Aa [j,.n (a:K)]=A g/\Ii g=A (b.l-a)/\F7 c 2 (b.l-a) g=A ((b.d a).f CG):=by
 rcases o with⟨rfl,rfl⟩|⟨d,k,rfl,q,m,r⟩
 .have:a=0:=by simpa using e
  subst this;exact⟨.sn,B,B,B⟩
 .refine⟨_,jY d k e,B,?_⟩;have n:BX (b.l-a) (b.l-a)=L:=AdX (CK _);have h:(b.f CG).l=b.l*2:=Mf (f:=CG) (w:=2) (λ_=>B) b;show Aj (AW 2 2&&BX (b.l-a) (b.l-a)) (Aj (AW (b.l-a) 0) (A []) (c.AL d (0+a*2) ((b.l-a)*2))) O=_;rw[n];show Aj (AW (b.l-a) 0) (A []) (c.AL d (0+a*2) ((b.l-a)*2))=_;have l:c.AL d (0+a*2) ((b.l-a)*2)=A ((b.d a).f CG):=by rw[je m h (by rw[Nat.sub_mul];have:=AeZ 2 e;omega),oA,show 0+a*2=a*2 by omega,Aeq];rw[List.length_drop,h,Nat.sub_mul];exact CK _
  by_cases i:b.l-a=0;.have:b.d a=[]:=Ad1 (by omega);rw[this,i];rfl
  .have:AW (b.l-a) 0=Aa:=by
    cases p:AW (b.l-a) 0 with
    |false=>rfl
    |true=>exact BF (AdQ p) i
   rw[this];exact l
def iK{c d:F}{i a:C WE}(n:Aw b c CG 2 i)(q:Ii d=A a.l)(m:F7 b 2 a.l d=A (a.f CG))(o:BU (a.f CG)=L)(p:(i.l+a.l)*32<=GA):∃h e,DN 2 32 b [c,d]=A (h,e)/\Aw e h CG 2 (i++a)/\HD c b e/\(∀j,Lv b j->As c j->As h j):=by obtain⟨h,e,l,r⟩:=Vv (f:=CG) (w:=2) (i:=32) (λ_=>B) n p;refine⟨h,e,?_,r⟩;show(match Ii d with|some k=>(match F7 b 2 k d with|some g=>Aj (BU g) (Jo b 2 32 c k g) O|none=>O)|none=>O)=_;rw[q];show(match F7 b 2 a.l d with|some g=>Aj (BU g) (Jo b 2 32 c a.l g) O|none=>O)=_;rw[m];show Aj (BU (a.f CG)) (Jo b 2 32 c a.l (a.f CG)) O=_;rw[o];exact l
def Wn{f:G}:∀{b:C WE},(∀a∈b,Ro f a.1 Bf.c 2 a.2.B4)->BU (b.f CG)=L
 |[],_=>rfl
 |a::h,d=>by have c:=Wn (b:=h) λi g=>d i (Aez _ g);rw[DJ]at c⊢;rw[Aeh,AeG,c];have e:=(d a (Aey ..)).dq;show((Fl a.1&&(L&&L))&&L)=L;rw[e];rfl
def vu{u:G}{U:F}{h:C WE}{z:T}{k:WE}{xc:T}{W:C F}{e:G}(xv:h.l<1000000)(H I J M:F){g:D}(S:g<=h.l)(j:WY u U e h z k xc W):∃E t,jj W9 89 6 [.p z 0,U,.n g,H,I,J,M] e=jj W9 89 5 [H,I,J,M,E] t/\WI u E t (h.t g++k::h.d g)/\AH e t/\Dx e E:=by
 have i:=j.I;have xq:=NT 2 e.next;have l:=AH.V e (.I 0 []);have v:∀b,Lv e b->As (.Z e.next 0 0 1 2) b:=λb a=>EN λg=>by rw[a.ut]at g;grind
 have X:=i.Cs.ext l;let⟨xF,xD,xj,xt⟩:=Aa3 X S
 have xi:(h.t g).l=g:=by grind
 obtain⟨xo,xe,xx,xm,N,Y⟩:=iK (a:=h.t g) (Rw e CG 2) (by rw[xi];exact xj) (by grind) (Wn λc d=>i.ro c (Afl d)) (DG (by grind));have m:AH e xe:=λb a=>⟨(N.M (l.lv a) (v b a)).t (l.M a),N.lv (l.lv a) (v b a)⟩;have q:Dx e xo:=λb a=>Y b (l.lv a) (v b a);have xd:=(l.M j.l).t j.g;have xC:=(m.M j.l).t j.g;have xh:Aj (Bv (.ld 2) [.p z 0] (e.V (.I 0 [])) (.S (CG k))) L Aa=L:=by rw[Mo xd];rfl
 have xb:BU (CG k)=L:=by
  have:=Wn (b:=[k]) λc d=>by
   have:c=k:=by grind
   subst this;exact j.ro
  simpa using this
 let⟨xp,xf,xy,xn,P,Z⟩:=FJ (f:=CG) (w:=2) (b:=k) (o:=.S (CG k)) (h:=32) (λ_=>B) xb B xm (DG (by grind))
 have n:AH e xf:=λb a=>⟨(P.M (m.lv a) (q b a)).t (m.M a),P.lv (m.lv a) (q b a)⟩;have r:Dx e xp:=λb a=>Z b (m.lv a) (q b a);let⟨xG,xE,xk,xu⟩:=Aa4 (i.Cs.ext n) S
 have xg:(h.d g).l=h.l-g:=by grind
 obtain⟨V,R,xz,xB,Q,xa⟩:=iK (a:=h.d g) xn (by rw[xg];exact xk) (by grind) (Wn λc d=>i.ro c (List.mem_of_mem_drop d)) (DG (by grind));have p:AH e R:=λb a=>⟨(Q.M (n.lv a) (r b a)).t (n.M a),Q.lv (n.lv a) (r b a)⟩;have s:Dx e V:=λb a=>xa b (n.lv a) (r b a);have o:∀c∈h.t g++k::h.d g,Ro e c.1 Bf.c 2 c.2.B4/\c.2.B4.l<1000000000/\Dx u c.1:=λc d=>by
  rcases Aej.1 d with d|d;.have:=Afl d;exact⟨i.ro c this,i.A7 c this,i.fx c this⟩
  .rcases Ad6.1 d with rfl|d;.exact⟨j.ro,j.A7,j.fy⟩
   .have:=List.mem_of_mem_drop d;exact⟨i.ro c this,i.A7 c this,i.fx c this⟩
 refine⟨V,R,?_,⟨?_,λc d=>(o c d).1.Ar λb xA xr a _ xw=>⟨by grind,p.lv a⟩,λc d=>(o c d).2.1,λc d b xl=>s b ((o c d).1.Cz xl),i.E.AI p,λb a=>s b (i.E.lv a),λc d=>(o c d).2.2⟩,p,s⟩;.rw[GJ.2.2.2.2.2.2.2.2.2.1];simp only[QY,Gn xh, *]
 .grind
theorem dC(a:Bt):∀l:C _,MA a l<=l.l
 |[]=>CK _
 |x::b=>by have:=dC a b;unfold MA;grind
theorem rH(l a b:C Bt):Ic l (a++b)=Ic (Ic l a) b:=by unfold Ic;grind
section
variable{z:T->Bm} {t:G} {l:C Ab} {x:T} {e:Ai} {y:C (C (C K))} {v:K} {u:Bm->F}
structure WC(t:G)(d:F)(b:G)(c:C WE)(a:T)(f:C F):Prop where
 I:WI t d b c
 gb:b.M a=A (.I 7 f)
 lb:Lv b a
 ub:As d a
 bx:∀x∈c,As x.1 a
theorem WC.ext{g h:G}{i:F}{c:C _}{f:T}{d:C _}(a:WC t i g c f d)(b:AH g h):WC t i h c f d:=⟨a.I.ext b,(b.M a.lb).t a.gb,b.lv a.lb,a.ub,a.bx⟩
theorem k5(Q:CF l e){a:D}(xi:a<e.Ac.l)(xb:BZ z t l x e y v u){d:C WE}{q:F}{R:G}{p:T}{w:C F}(c:WC t q R d p w)(W:d.l<1000000)(b:D)(m:F):∃J Z S,jj W9 89 9 [q,.n b,m,.n a,.p x 0] R=jj W9 89 5 [.n b,m,.n a,.p x 0,Z] S/\WC t Z S J p w/\J.m (·.2)=LF ⟨FX e a,b⟩ (d.m (·.2)):=by
 let⟨j,U,xr,I,s,E⟩:=fH Q (a+1) a (by omega) (xb.ext c.I.E) xi
 have xo:Cb [.sn,(.n 0)] [(0,1),(1,1)] [j,.n b]=A (.S (CG (j,⟨FX e a,b⟩))):=by rcases I with⟨rfl,_⟩|⟨_,_,rfl,_⟩<;>rfl
 let⟨Y,V,xk,xh,M,xe,xl,X⟩:=box U (.I 2 (CG (j,⟨FX e a,b⟩)))
 let⟨xu,xt⟩:=EL U (b:=2) [.sn,(.n 0)] (c:=CG (j,⟨FX e a,b⟩)) xk xh B (by rcases I with⟨rfl,_⟩|⟨_,_,rfl,_⟩<;>rfl)
 have xq:(FX e a).l<1000000:=by unfold FX;rw[AfI];have:=SG e (a+1) a;have:=Q.A7;omega
 have o:=c.ext (s.AI M);let⟨xp,H,h⟩:=e9 W (.n b) m (.n a) (.p x 0) d.l 0 (by omega) (⟨o.I,xe,xl,AdS λf=>X (s.lv (c.I.Cs.Cz f)),(I.ext M).ro,(λi xm=>AdS λf=>xm (E i (c.I.Cs.Cz f)):∀i,¬As j i->As q i),λi xj=>E i (c.I.E.lv xj),P,λr g=>AdS λf=>X (s.lv ((c.I.ro r g).Cz f)),by grind,o.gb,o.lb,o.ub,E p c.lb,o.bx⟩:WY t q V d Y (j,⟨FX e a,b⟩) p w)
 rw[Ad7]at H;have H:jj W9 89 7 [.p Y 0,q,.n 0,.n b,m,.n a,.p x 0] V=_:=H;have xg:=dC ⟨FX e a,b⟩ (d.m (·.2));rw[Ad9]at xg;let⟨xn,xf,xs,xa,N,xd⟩:=vu W (.n b) m (.n a) (.p x 0) (g:=0+MA ⟨FX e a,b⟩ (d.m (·.2))) (by omega) h
 refine⟨_,xn,xf,?_,⟨xa,(N.M h.lb).t h.gb,N.lv h.lb,xd p h.lb,λr g=> ?_⟩,?_⟩;.rw[GJ.2.2.2.2.2.2.2.2.1];grind
 .rcases Aej.1 g with g|g;.exact c.bx r P
  .rcases Ad6.1 g with rfl|g;.exact h.yb
   .exact c.bx r P
 .let⟨f,xc⟩:=dD ⟨FX e a,b⟩ (d.m (·.2))
  unfold LF;rw[<-f,<-xc,Ad2,Aes,AeC,AfO,List.map_drop]
theorem rF(xA:BD l)(xf:BZ z t l x e y v u)(xB:CF l e){a:D}(V:a<e.Ac.l)(xH:∀xP,0<=D9 (e.at a) xP){xg:D}{p:Ab}(k:Dw l xg p (e.at a)){m:C WE}{xc:F}{c:G}{d:T}(xy:WC t xc c m d (DM u e a))(x7:m.l<500000):∃S R E,jj W9 89 4 [.p d 0,.n 0,.n a,.p x 0,xc] c=jj W9 89 3 [.n a,.p x 0,R] E/\WI t R E S/\S.m (·.2)=Ic (m.m (·.2)) (Lh l e (e.at a) a p.Av.l):=by
 have xq:=xA.Bc xg p k.hb;have x8:=xq.Av;have xw:=k.AS;let⟨⟨S,R⟩,E,xj,U,xT⟩:=Dh (h:=p.Av.l) (f:=λb M c=>jj W9 89 4 [.p d 0,.n b,.n a,.p x 0,M.2] c)
  (g:=λb M c=>WC t M.2 c M.1 d (DM u e a)/\M.1.m (·.2)=Ic (m.m (·.2)) (Lh l e (e.at a) a b))
  (λb M c xx j=>by
   let⟨P,xn⟩:=M
   let⟨j,xe⟩:=j
   simp only[]at j xe⊢;let⟨q,J⟩:=Bb xx
   have x1:=xq.Ax b q J;have xF:=Cm xx;have r:=xf.ext j.I.E;have xb:=Cp (r.Db (.AS a) V);rw[xw]at xb;have xt:c.Ap d 6=A (u (.AS a)):=Ay j.gb 6;have xD:c.Ap d 5=A (u (.AG a)):=Ay j.gb 5;have xC:c.Ap d 0=A (.n xg):=by rw[Ay j.gb 0];show A (F.n (e.at a).Bc)=_;rw[k.ha]
   have x0:c.Ap x 0=A (Z Ab.c l):=Ay r.M 0;have xI:Bl 2 [.pi (Ab.c p)]=A (.pi ((Ab.c p).d 2)):=B;have xR:AM c [.pi ((Ab.c p).d 2)]=A (Z Au.c p.Av):=B;have xJ:Bl 0 [.pi (Au.c q)]=A (.pi (Au.c q)):=B;have xS:AM c [.pi (Au.c q)]=A (.i .u8 q.op):=B;have W:=i4 l e (e.at a) a b;have g:TT l (e.at a) b=(Ao (q.op=12)&&(Ao (0<((e.at a).AS[b]?).g 0)&&Ao ((Qr (e.at a) b).Ak=0))):=by unfold TT;rw[k.Ca,J]
   have yb:P.l<=m.l+b:=by
    have x4:(P.m (·.2)).l=P.l:=by grind
    have xv:(m.m (·.2)).l=m.l:=by grind
    have x5:=b3 l e (e.at a) a b;have x6:=AdW List.length xe;have:∀(xd l:C Bt),(Ic l xd).l=l.l+xd.l:=λxd=>by
     induction xd with
     |nil=>intro l;rfl
     |cons xp xY xN=>intro l;have:=xN (LF xp l);have:=(aE xp l).length_eq;rw[AdY,AeE]at this;show(Ic (LF xp l) xY).l=_;grind
    grind
   by_cases xh:q.op=12
   .rw[A0 xh,Aep]at g;let⟨xk,Y⟩:=Bb (b:=(e.at a).AS) (a:=b) (by grind)
    have yc:0<=xk:=by have:=xH b;unfold D9 at this;rw[Y]at this;grind
    rw[Y,Aeg]at g;let⟨xE,X⟩:=CD (f:=Be) (w:=1) (λ_=>B) (r.Db (.AS a) V) Y
    have xX:c.Ap xE (b*1)=A (.n xk):=by have:=X.Ap (f:=Be) (λ_=>B) Y (b:=0) (by grind);exact this
    by_cases xG:xk=0;.rw[A2 (by omega),AeO]at g;rw[g,Ad (by grind),Ad5]at W;refine⟨(P,xn),c,?_,j,by grind⟩;show jj W9 89 4 _ _=jj W9 89 4 _ _;rw[GJ.2.2.2.2.2.1];simp only[QY,GJ.2.2.2.2.2.2.1,H (Eg x),H (CB k.hb),H (Fa J),H X.ia,QB,GJ.2.2.2.2.2.2.2.1,H (Bh (a:=b) (by omega)), *]
    .rw[A0 Om,Aep]at g;have xL:b<(e.at a).AG.l:=by rw[k.AG];grind
     let⟨xm,xa⟩:=Bb xL
     have x9:=k.AD b q xm J xa;have ya:C7 l q=1:=by unfold C7;omega
     let⟨xo,xl⟩:=Bb (b:=xm) (a:=0) (by omega)
     have xK:Qr (e.at a) b=xo:=by unfold Qr;rw[xa,Aeg,xl];rfl
     rw[xK]at g;let⟨x2,xM,xV⟩:=r.Ga V xa
     let⟨xu,xs⟩:=CD (f:=N.c) (w:=2) (λ_=>B) (r.Db (.AD a b) xm xa) xl
     have xO:AR 2 [u (.AD a b),.n 0]=A (.p xu 0):=by have:=xs.ia;simpa using this
     have xW:c.Ap xu 0=A (.i .u8 xo.Ak):=by have:=xs.Ap (f:=N.c) (λ_=>B) xl (b:=0) (by grind);rw[Nat.zero_mul]at this;exact this
     by_cases xi:xo.Ak=0
     .rw[A0 xi]at g;rw[Af g]at W;let⟨xr,xZ,xv,xQ,xz,xU⟩:=k5 xB V xf j (by omega) b (.p d 0)
      refine⟨(xr,xZ),xv,?_,xz,by show xr.m _=_;rw[xU,xe,W,rI]⟩;show jj W9 89 4 _ _=jj W9 89 4 _ _;rw[GJ.2.2.2.2.2.1];simp only[QY,Y3,xI,xR,xJ,xS,xt,xD,xb,xF,GJ.2.2.2.2.2.2.1,x0,xC,CB k.hb,Fa J,xh,H X.ia,xX,xG,xM,xV,xO,xW,xi,QB];rw[xQ,GJ.2.2.2.2.2.2.2.1];simp only[↓Q,↓H (Bh (a:=b) (by omega))]
     .rw[A2 xi]at g;rw[g,Ad (by grind),Ad5]at W;refine⟨(P,xn),c,?_,j,by grind⟩;show jj W9 89 4 _ _=jj W9 89 4 _ _;rw[GJ.2.2.2.2.2.1];simp only[QY,GJ.2.2.2.2.2.2.1,H (Eg x),H (CB k.hb),H (Fa J),H X.ia,QB,GJ.2.2.2.2.2.2.2.1,H (Bh (a:=b) (by omega)), *]
   .rw[A2 xh,AeO]at g;rw[g,Ad (by grind),Ad5]at W;refine⟨(P,xn),c,?_,j,by grind⟩;show jj W9 89 4 _ _=jj W9 89 4 _ _;rw[GJ.2.2.2.2.2.1];simp only[QY,GJ.2.2.2.2.2.2.1,H (Eg x),H (CB k.hb),H (Fa J),QB,GJ.2.2.2.2.2.2.2.1,H (Bh (a:=b) (by omega)), *])
  (b:=(m,xc)) (a:=c) ⟨xy,by show m.m _=Ic (m.m _) (Lh l e (e.at a) a 0);unfold Lh;rfl⟩
 have xj:jj W9 89 4 [.p d 0,.n 0,.n a,.p x 0,xc] c=jj W9 89 4 [.p d 0,.n p.Av.l,.n a,.p x 0,R] E:=xj;have U:WC t R E S d (DM u e a):=U;have x3:=CA p.Av.l;have r:=xf.ext U.I.E;have xb:=Cp (r.Db (.AS a) V);rw[xw]at xb;have xt:E.Ap d 6=A (u (.AS a)):=Ay U.gb 6;refine⟨S,R,E,?_,U.I,xT⟩;rw[xj,GJ.2.2.2.2.2.1];simp only[QY, *]
end
theorem gV:∀(c l:C Bt),(Ic l c).l=l.l+c.l
 |[],l=>rfl
 |a::b,l=>by have:=gV b (LF a l);have:=(aE a l).length_eq;rw[AdY,AeE]at this;show(Ic (LF a l) b).l=_;rw[Aec];omega
section
variable{w:T->Bm} {h:G} {l:C Ab} {x:T} {e:Ai} {v:C (C (C K))} {u:K} {t:Bm->F}
theorem qV(R:BD l)(z:BZ w h l x e v u t)(q:CF l e)(xb:∀a xg,0<=D9 (e.at a) xg):∃k d g,W9 (pos 89) [.p x 0] h=A (k,d)/\WI h k d g/\g.m (·.2)=Mv l e:=by
 have xw:=q.A7;let⟨⟨g,k⟩,m,G,p,M⟩:=Dh (h:=e.Ac.l) (f:=λa f h=>jj W9 89 2 [.p x 0,.n (a:K),f.2] h)
  (g:=λa f d=>WI h f.2 d f.1/\f.1.m (·.2)=Ic [] (Ms l e a))
  (λa f d j b=>by
   let⟨o,xo⟩:=f
   let⟨b,y⟩:=b
   simp only[]at b y⊢;have xa:=Cm j;let⟨xy,xt,N⟩:=q.BC a _ (Di j)
   have c:=z.ext b.E;have V:=c.cv;have r:=Cp (c.Db .Ac);rw[Ad0]at r;let⟨xs,xf,xm⟩:=c.Sh j
   let⟨xl,X,T,xd,W,xc,xi,U⟩:=box d (.I 7 (DM t e a))
   let⟨xr,xn⟩:=EL d (b:=7) [.n 0,.n 0,.n 0,.n 0,.sn,.sn,.sn] (c:=DM t e a) T xd B (Si c j)
   have Z:WC h xo X o xl (DM t e a):=⟨b.ext W,xc,xi,AdS λE=>U (b.Cs.Cz E),λxq xe=>AdS λE=>U ((b.ro xq xe).Cz E)⟩;have xx:o.l<=a*400:=by
    have m:(o.m (·.2)).l=o.l:=by grind
    have S:=VD R q a;rw[y,gV]at m;have:([]:C Bt).l=0:=B;omega
   let⟨P,xp,S,xh,Y,xj⟩:=rF R z q j (xb a) N Z (by omega)
   refine⟨(P,xp),S,?_,Y,?_⟩;.show jj W9 89 2 _ _=jj W9 89 2 _ _;rw[GJ.2.2.1];simp only[QY,xr,V,r,xa,GJ.2.2.2.1,xf,xm,T,xn];rw[xh,GJ.2.2.2.2.1];simp only[↓Q,↓H (Bh (a:=a) (by omega))]
   .show P.m _=Ic [] (Ms l e a++(match e.Ac[a]?with|some xu=>_|none=>_));rw[Di j,xj,y,rH];simp only[];rw[N.Ca])
  (b:=([],.sn)) (a:=h) ⟨⟨Aw.sn h,λx J=>(by grind),λx J=>(by grind),λx J=>(by grind),AH.refl h,λxk _=>Cg xk,λx J=>(by grind)⟩,B⟩
 have G:jj W9 89 2 [.p x 0,.n 0,.sn] h=jj W9 89 2 [.p x 0,.n e.Ac.l,k] m:=G;have p:WI h k m g:=p;have M:g.m (·.2)=Ic [] (Ms l e e.Ac.l):=M;have c:=z.ext p.E;have V:=c.cv;have r:=Cp (c.Db .Ac);rw[Ad0]at r;have xv:=CA e.Ac.l;refine⟨k,m,g,AZ B B ?_,p,by rw[M,rJ];rfl⟩;rw[GJ.1,G,GJ.2.2.1];simp only[QY,H (Eg x),GJ.2.1, *]
end
