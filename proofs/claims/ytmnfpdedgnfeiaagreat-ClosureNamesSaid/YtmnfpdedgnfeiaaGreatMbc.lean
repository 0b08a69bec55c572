/- Part of the proof. -/
import Derived.Test.YtmnfpdedgnfeiaaGreatMbb
set_option linter.all false
noncomputable section
open Option renaming some->A,none->O,getD->Option.g,bind->Option.b
open _root_ renaming rfl->B,List->C,Nat->D,Int->K,if_neg->Ad,if_pos->Af,Option->Aj,Bool->Ak,cond->An,absurd->A_,decide_eq_false->Ba,decide_eq_true->Be
open Bool renaming true->L,false->Ac
open Decidable renaming decide->Au
open Nat renaming beq->Bb
open List renaming replicate->Bv,length->List.l,take->List.t,drop->List.d,flatMap->List.f
open Go.IntKind renaming i64->Go.IntKind.n
open Array renaming toList->Array.l
open Eq renaming trans->Eq.t,symm->Eq.s
open Or renaming inl->Or.i,inr->Or.j
open Int renaming toNat->Int.n
namespace Go.Proofs.YtmnfpdedgnfeiaaGreat
open Go.Fg
def d9(b:G->Prop)(a:C M):Jt b (Z M.c a) 2 a (λc=>.S (M.c c)) (Bf 2):=Jt.Z a (λ_=>B) (λ_ _=>B)
def n0{f:D}{e:M->Ak}(a:C M)(k:a.l<1000000)(h:∀b∈a,A2 f [.S (M.c b)] (.b (e b)))(c:G):W9 (Ar 94) [Z M.c a,.f (Ar f) []] c=A (.b (a.any e),c):=by obtain⟨d,j,rfl⟩:=NX Vt T8 (d9 _ a) (λb i d g=>⟨d,(h b i).at B d,g⟩) (by omega) c B;grind
def vd{f:D}{e:M->Ak}(a:C M)(k:a.l<1000000)(h:∀b∈a,A2 f [.S (M.c b)] (.b (e b)))(c:G):W9 (Ar 151) [Z M.c a,.f (Ar f) []] c=A (.n (JD e a 0),c):=by obtain⟨d,j,rfl⟩:=jc T8 (d9 _ a) (λb i d g=>⟨d,(h b i).at B d,g⟩) (by omega) c B;grind
def Ky(a:K):C F:=[.i .u8 a]
variable{a:D}
def m3{b:C _}{c:K}(d:b[a]? =A c):AZ 1 [Z Ky b,.n a]=A (.pi (Ky c)):=Fi d B
def uh(b:C K)(r:b.l<1000000)(e:K):A2 243 [Z Ky b,.i .u8 e] (.n (JD (λd=>Au (e=d)) b 0)):=BP B B B (by
 have q:∀g a c,b.l-a=g->a<=b.l->jj W9 243 2 [.n b.l,.i .u8 e,Z Ky b,.n a] c=A (.n (JD (λd=>Au (e=d)) (b.d a) a),c):=by
  intro g
  induction g with
  |zero=>
   intro a c m n;have f:¬(a:K)<b.l:=by omega
   rw[Sm.2.2.1];simp only[QT,Aic,f,Sm.2.1];rw[Aiq (by omega)];rfl
  |succ g p=>
   intro a c m n;have f:(a:K)<b.l:=by omega
   let⟨d,j,o⟩:=Eh (b:=b) (a:=a) (by omega)
   have k:∀c,AW c [.pi (Ky d)]=A (.i .u8 d):=λ_=>B;rw[Sm.2.2.1,o];unfold JD;by_cases h:e=d;.simp only[Q,QT,f,Sm.2.2.2.1,H (m3 j),H (k _),h,AiA,reduceIte]
   .simp only[Q,QT,Aic,f,Sm.2.2.2.1,H (m3 j),H (k _),h,Sm.2.2.2.2,H (BF (a:=a) (by omega))];exact p (a+1) c (by omega) (by omega)
 refine⟨G.Az,?_⟩;have:=q b.l 0 G.Az (by omega) (by omega);rw[AiE]at this;rw[Sm.1];simp only[Q];grind)
def t_(a:C K)(e:a.l<1000000)(b:K):A2 227 [Z Ky a,.i .u8 b] (.b (a.any λc=>Au (b=c))):=BP B B B (by have d:=K7 .n (JD (λc=>Au (b=c)) a 0) 0;rw[VO]at d;refine⟨G.Az,?_⟩;rw[wq];simp only[(uh a e b).H B,H d])
def Hm(c:K)(b:C K)(a:D):C F:=[.n c,Z Ky b,.f (Ar a) []]
def Ahi(a:M):Prop:=a.Ai≠0/\a.Ai≠5
def aH{d:Type}{a:d->Ak}{b:C _}(e:∀c∈b,a c=Ac):b.any a=Ac:=by grind
def hN:∀c b,JD (λa=>Au (a.Ai=5)) c b= -1/\(∀a∈c,a.Ai≠5)\/∃d a,JD (λa=>Au (a.Ai=5)) c b=(b+d:D)/\c[d]? =A a/\EL c=a
 |[],b=>.i ⟨B,P⟩
 |j::i,b=>by
  unfold JD EL;by_cases e:j.Ai=5;.grind
  .rw[Ad (by grind),Ad e];rcases hN i (b+1)with⟨f,g⟩|⟨d,a,f,g,h⟩;.grind
   .exact .j ⟨d+1,a,by grind,by grind,h⟩
def MI(c:C K)(a b d:M):M:=if a.Ai≠b.Ai\/(c.any λe=>Au (a.Ai=e))=Ac then D2 5 else d
def tD(i:K)(d:C K)(xs:d.l<1000000)(g:D)(c:C M)(xc:c.l<1000000)(xr:∀h∈c,h.Ai≠0){e f:M}(xb:c[0]? =A e)(xq:c[c.l-1]? =A f)(v:M)(xd:e.Ai=f.Ai->(d.any λj=>Au (e.Ai=j))=L->A2 g [.n e.n,.n f.n] (.S (M.c v))):A2 167 [.S (Hm i d g),Z M.c c] (.S (M.c (if c.any (λh=>Au (h.Ai=5))=L then EL c else MI d e f v))):=BP B B B (by
 have xp:=aH λj T=>Ba (xr j T);have xC:∀(n:G) xg,bl (.p n.next 0) (n.V (.I (BK (F.I (.S (Hm i d g)))) (F.I (.S (Hm i d g))))) xg=xg (.p n.next 0) (n.V (.I 3 (Hm i d g))):=λ_ _=>B;have u:=λk=>n0 c xc (λj _=>VU j) k;rw[xp]at u;have p:=λk=>vd c xc (λj _=>YK j) k;have xD:=(Aid.1 xb).1;have xf:AZ 2 [Z M.c c,.n 0]=A (.pi (M.c e)):=Kz xb;have J:=Gu (a:=c.l) (b:=1) (by omega) (by omega);have xt:c.l-1=((c.l-1:D):K):=by omega
 rw[xt]at J;have W:=O8 5;have m:=t_ d xs e.Ai;have l:=FW .u8 e.Ai f.Ai;rcases hN c 0 with⟨N,s⟩|⟨xv,h,N,s,V⟩
 .have S:=aH λj T=>Ba (s j T);rw[S,Ad (by grind)];rw[N]at p;have xi:∃R,jj W9 167 2 [Z M.c c,.p G.Az.next 0,.p (G.Az.V (.I 3 (Hm i d g))).next 0] ((G.Az.V (.I 3 (Hm i d g))).V (.I 2 [.i .u8 0,.n 0]))=A (.S (M.c (MI d e f v)),R):=by
   have xx:G.Az.next=.h:=B;have xy:(G.Az.V (.I 3 (Hm i d g))).next=.o .h:=B
   have xz:((G.Az.V (.I 3 (Hm i d g))).V (.I 2 [.i .u8 0,.n 0])).next=.i .h:=B
   have xA:(((G.Az.V (.I 3 (Hm i d g))).V (.I 2 [.i .u8 0,.n 0])).V (.I 2 [.i .u8 0,.n 0])).next=.o (.o .h):=B
   have xj:A1 2 ((((G.Az.V (.I 3 (Hm i d g))).V (.I 2 [.i .u8 0,.n 0])).V (.I 2 [.i .u8 0,.n 0])).V (.I 2 [.i .u8 0,.n 0])) [.p (.i .h) 0,.S (M.c e)]=A (Ax,((((G.Az.V (.I 3 (Hm i d g))).V (.I 2 [.i .u8 0,.n 0])).V (.I 2 [.i .u8 0,.n 0])).V (.I 2 [.i .u8 0,.n 0])).set (.i .h) (.I 2 (M.c e))):=NT B e;generalize o:((((G.Az.V (.I 3 (Hm i d g))).V (.I 2 [.i .u8 0,.n 0])).V (.I 2 [.i .u8 0,.n 0])).V (.I 2 [.i .u8 0,.n 0])).set (.i .h) (.I 2 (M.c e))=q at xj;have w:A1 2 q [.p (.o (.o .h)) 0,.S (M.c f)]=A (Ax,q.set (.o (.o .h)) (.I 2 (M.c f))):=NT (by rw[<-o];rfl) f;generalize t:q.set (.o (.o .h)) (.I 2 (M.c f))=r at w;have X:r.N (.i .h)=A (.I 2 (M.c e)):=by rw[<-t,<-o];rfl
   have Y:r.N (.o (.o .h))=A (.I 2 (M.c f)):=by rw[<-t,<-o];rfl
   have xa:r.N .h=A (.I 3 (Hm i d g)):=by rw[<-t,<-o];rfl
   have xo:r.N (.o .h)=A (.I 2 [.i .u8 0,.n 0]):=by rw[<-t,<-o];rfl
   have U:=λh=>NT xo h;have xw:BV (.ld 2) [.pi (M.c f)] q (.S (M.c f))=L:=NR _;have xu:=Kz xq;have xh:=AJ xa 1;have xB:=AJ xa 2;have x:=AJ X 0;have xk:=AJ X 1;have y:=AJ Y 0;have xl:=AJ Y 1;unfold MI;rw[Uf.2.2.1];simp only[Q,QD,H xf,H J,H xu,xx,xy,xz,xA];rw[H xj,xw];by_cases z:e.Ai=f.Ai
   .rw[Be z]at l
    cases E:(d.any λj=>Au (e.Ai=j))with
    |false=>rw[E]at m;rw[Af P];simp only[Q,H w,H x,H y,H l,QB,H xh,m.H B,W.H B,H (U _),QV];grind
    |true=>rw[E]at m;have xn:=xd z E;have xm:∀k,Du W9 (.f (Ar g) []) [.n e.n,.n f.n] k=A (.S (M.c v),k):=λk=>xn.at B k;rw[Ad (by grind)];simp only[Q,H w,H x,H y,H l,QB,H xh,m.H B,Uf.2.2.2,H xB,H xk,H xl,H (xm _),H (U _),QV];grind
   .rw[Ba z]at l;rw[Af Om];simp only[Q,H w,H x,H y,H l,QB,W.H B,H (U _),QV];grind
  let⟨R,xi⟩:=xi
  have I:A7 .geq [.n (-1),.n 0]=A (.b Ac):=B;refine⟨R,?_⟩;rw[Uf.1];simp only[xC,Q,H (u _),Uf.2.1,H (p _),H I];grind
 .have S:c.any (λh=>Au (h.Ai=5))=L:=by
   rw[Ajv]
   have xe:=Ail s
   refine⟨h,xe,?_⟩
   rw[<-VO _ c 0]at*
   have:h.Ai=5:=by
    clear u p xf J m l xd;rw[<-V];have:∀c,(∃h∈c,h.Ai=5)->(EL c).Ai=5:=by
     intro c
     induction c with
     |nil=>grind
     |cons j xF xE=>
      rintro⟨h,n,xe⟩
      unfold EL
      grind
    apply this;have:Au (0<=JD (λh=>Au (h.Ai=5)) c 0)=L:=by grind
    rw[VO,Ajv]at this;grind
   grind
  rw[S,Af B,V]
  rw[N,Aix]at p
  have I:A7 .geq [.n xv,.n 0]=A (.b L):=by rw[K7,Be (by omega)]
  rw[Uf.1]
  simp only[H (u _),Uf.2.1,H (p _),H I,H (Kz s)]
  exact⟨_,B⟩)
def tC(a:M)(f:JG a (-1)=L)(e:G):W9 (Ar 166) [.S (M.c a)] e=A (.b Ac,e.V (.I 2 (M.c a))):=Bd B B (by
 have d:=YF a 0 (by omega);rw[vZ];by_cases c:a.Ai=4
 .have b:¬a.n<0:=by
   unfold JG at f
   grind
  simp only[Q,QD,QT,Aic,c,b]
 .have g:GP a 0=L:=by
   rw[<-f];unfold GP JG BY
   split; ·rfl
   split; ·rfl
   split<;>grind
  rw[g]at d
  by_cases b:a.n<0
  .simp only[Q,QD,QT,Aic,c,d.H B,b]
  .simp only[Q,QD,QT,Aic,c,d.H B,QB,b])
def QX(a:M):Prop:=JG a (-1)=L/\a.Ai≠0
def Acv{i:B0}{c:K}{a:C K}{d:D}(S:Eu MA i=A (L1 c a d))(J:a.l<1000000)(b:C M)(N:b.l<1000000)(P:b.l=c)(u:∀f∈b,QX f){g h:M}(F:b[0]? =A g)(I:b[b.l-1]? =A h)(j:M)(R:g.Ai=h.Ai->(a.any λk=>Au (g.Ai=k))=L->A2 d [.n g.n,.n h.n] (.S (M.c j))):A2 124 [.s i,Z M.c b] (.AC [.S (M.c (if b.any (λf=>Au (f.Ai=5))=L then EL b else MI a g h j)),.n 0]):=by
 have q:=tD c a J d b N (λf E=>(u f E).2) F I j R;generalize(if b.any (λf=>Au (f.Ai=5))=L then EL b else MI a g h j)=m at q⊢;have V:G.Az.next=.h:=B;have W:(G.Az.V (.I 2 [.i .u8 0,.n 0])).next=.o .h:=B
 have r:((G.Az.V (.I 2 [.i .u8 0,.n 0])).V (.I 3 (Hm c a d))).N .h=A (.I 2 [.i .u8 0,.n 0]):=B;have n:((G.Az.V (.I 2 [.i .u8 0,.n 0])).V (.I 3 (Hm c a d))).N (.o .h)=A (.I 3 (Hm c a d)):=B;have v:Lv ((G.Az.V (.I 2 [.i .u8 0,.n 0])).V (.I 3 (Hm c a d))) .h:=by grind
 have w:Lv ((G.Az.V (.I 2 [.i .u8 0,.n 0])).V (.I 3 (Hm c a d))) (.o .h):=by grind
 have x:A1 3 ((G.Az.V (.I 2 [.i .u8 0,.n 0])).V (.I 3 [(.n 0),.sn,.fn])) [.p (.o .h) 0,.S (Hm c a d)]=A (Ax,(G.Az.V (.I 2 [.i .u8 0,.n 0])).V (.I 3 (Hm c a d))):=FL B B;generalize t:(G.Az.V (.I 2 [.i .u8 0,.n 0])).V (.I 3 (Hm c a d))=e at r n v w x;let⟨l,p,o⟩:=NX Vt T8 (d9 _ b) (λk T l t=>⟨_,tC k (u k T).1 l,t.AQ (AR.V _ _)⟩) (by omega) e (AR.refl e)
 rw[(aH λ_ _=>B:b.any (λ_=>Ac)=Ac)]at p;have z:A7 .neq [.n b.l,.n c]=A (.b Ac):=by rw[FW,Be P];rfl
 have U:l.AU (.o .h) 0 3=A (Hm c a d):=by rw[EA ((o.N w).t n),Af (by omega),Af B]
 obtain⟨s,y⟩:∃s,xx W9 124 [.s i,Z M.c b] G.Az=A (.AC [.S (M.c m),.n 0],s):=by rw[jA.1];simp only[Q,il.H B,H ((λe=>by rw[(λe=>Uy L (.S [(.n 0),.sn,.fn]) e MA i) e,S];rfl:∀e,E7 Ac [2] (.S [(.n 0),.sn,.fn]) L e [Kk MA,.s i]=A (.AC [.S (Hm c a d),.b L])) _),V,W];rw[H x];simp only[Q,H (AJ n 0),H z,H p,jA.2,H U,H ((λe=>q e _ _ B:∀e,W9 (Ar 167) [.S (Hm c a d),Z M.c b] e=A (.S (M.c m),e)) _),H (NT ((o.N v).t r) m),QV];grind
 exact FN B B y B
def SD:B0:=[110,111,116]
def ha:B0:=[101,113]
def de:B0:=[108,116]
def c8:B0:=[108,101]
def aC:B0:=[97,100,100]
def eE:B0:=[115,117,98]
def dw:B0:=[109,117,108]
def UC:B0:=[110,101,103]
def Agw:B0:=[100,105,118]
def dv:B0:=[109,111,100]
def Kw(c:B0)(a b:M):M:=
 if c=SD then(if a.Ai≠2 then D2 5 else ET (Au (a.n=0)))
 else if c=ha then(if a.Ai≠b.Ai\/(a.Ai≠1/\a.Ai≠2)then D2 5 else ET (Au (a.n=b.n)))
 else if a.Ai≠b.Ai\/a.Ai≠1 then D2 5
 else if c=de then ET (Au (a.n<b.n))
 else if c=c8 then ET (Au (a.n<=b.n))
 else if c=aC then G8 (a.n+b.n)
 else if c=eE then G8 (a.n-b.n)
 else if c=dw then G8 (a.n*b.n)
 else if c=UC then G8 (-a.n)
 else if c=dv then Oj a.n b.n
 else N1 a.n b.n
def Ps(a:C M):M:=(a[a.l-1]?).g AK
def Qp(a:C M):M:=(a[0]?).g AK
def Iu(b:B0)(a:C M):M:=if a.any (λc=>Au (c.Ai=5))=L then EL a else Kw b (Qp a) (Ps a)
def QX.i9{a:M}(b:QX a)(c:a.Ai=1):DO a.n:=by have:=b.1;unfold JG BY at this;rw[Ad (by omega),Af c]at this;simp only[Aie,Ain]at this;exact this
def th(e:B0)(d:C M)(t:d.l=DZ e)(H:0<DZ e)(r:∀n∈d,QX n):A2 124 [.s e,Z M.c d] (.AC [.S (M.c (Iu e d)),.n 0]):=by
 have R:DZ e<=2:=by unfold DZ;omega
 have G:d.l<1000000:=by omega
 obtain⟨b,E⟩:∃b,d[0]? =A b:=Bo (by omega);obtain⟨c,F⟩:∃c,d[d.l-1]? =A c:=Bo (by omega);have m:=r b P;have s:=r c P;have h:=λI p x j (f:Eu MA e=A (L1 I p x)) g y z=>Acv f g d G y r E F j z;have v:Qp d=b:=by unfold Qp;grind
 have w:Ps d=c:=by unfold Ps;grind
 have o:e∈UH:=by unfold DZ at H;grind
 unfold Iu;rw[v,w];have k:e≠UC->e≠SD->(d.l:K)=2:=λJ N=>by rw[t];unfold DZ;rw[Af o,Ad (by rintro(q|q);exact J q;exact N q)]
 have u:e=UC\/e=SD->(d.l:K)=1:=λa=>by rw[t];unfold DZ;rw[Af o];exact Af a
 have i:∀p j,MI p b c j=Kw e b c->(A2 124 [.s e,Z M.c d] (.AC [.S (M.c (if d.any (λn=>Au (n.Ai=5))=L then EL d else MI p b c j)),.n 0]))->A2 124 [.s e,Z M.c d] (.AC [.S (M.c (if d.any (λn=>Au (n.Ai=5))=L then EL d else Kw e b c)),.n 0]):=by grind
 have S:(([1]).any λQ=>Au (b.Ai=Q))=L->b.Ai=1:=by grind
 have l:∀j,MI [1] b c j=if b.Ai≠c.Ai\/b.Ai≠1 then D2 5 else j:=λj=>by unfold MI;grind
 simp only[UH,Ait,Ai6,Ai7]at o;rcases o with a|a|a|a|a|a|a|a|a|a;.refine i [1] (G8 (b.n+c.n)) ?_ (h 2 [1] 211 _ (by rw[a];rfl) (by grind) (k (by rw[a];decide) (by rw[a];decide)) λf g=>tW _ _ (m.i9 P) (s.i9 P));rw[l,a];rfl
 .refine i [1] (G8 (b.n-c.n)) ?_ (h 2 [1] 213 _ (by rw[a];rfl) (by grind) (k (by rw[a];decide) (by rw[a];decide)) λf g=>tX _ _ (m.i9 P) (s.i9 P));rw[l,a];rfl
 .refine i [1] (G8 (b.n*c.n)) ?_ (h 2 [1] 214 _ (by rw[a];rfl) (by grind) (k (by rw[a];decide) (by rw[a];decide)) λf g=>tY _ _ (m.i9 P) (s.i9 P));rw[l,a];rfl
 .refine i [1] (N1 b.n c.n) ?_ (h 2 [1] 215 _ (by rw[a];rfl) (by grind) (k (by rw[a];decide) (by rw[a];decide)) λf g=>tZ _ _ (m.i9 P));rw[l,a];rfl
 .refine i [1] (Oj b.n c.n) ?_ (h 2 [1] 218 _ (by rw[a];rfl) (by grind) (k (by rw[a];decide) (by rw[a];decide)) λf g=>t3 _ _ (m.i9 P));rw[l,a];rfl
 .refine i [1] (G8 (-b.n)) ?_ (h 1 [1] 220 _ (by rw[a];rfl) (by grind) (u (Or.inl a)) λf g=>t5 _ _ (m.i9 P));rw[l,a];rfl
 .refine i [1] (ET (Au (b.n<c.n))) ?_ (h 2 [1] 221 _ (by rw[a];rfl) (by grind) (k (by rw[a];decide) (by rw[a];decide)) λf g=>t6 _ _);rw[l,a];rfl
 .refine i [1] (ET (Au (b.n<=c.n))) ?_ (h 2 [1] 223 _ (by rw[a];rfl) (by grind) (k (by rw[a];decide) (by rw[a];decide)) λf g=>t7 _ _);rw[l,a];rfl
 .refine i [1,2] (ET (Au (b.n=c.n))) ?_ (h 2 [1,2] 224 _ (by rw[a];rfl) (by grind) (k (by rw[a];decide) (by rw[a];decide)) λf g=>t8 _ _);rw[a];show MI [1,2] b c _=if b.Ai≠c.Ai\/(b.Ai≠1/\b.Ai≠2)then D2 5 else _;unfold MI;grind
 .refine i [2] (ET (Au (b.n=0))) ?_ (h 1 [2] 225 _ (by rw[a];rfl) (by grind) (u (Or.inr a)) λf g=>t9 _ _);rw[a];show MI [2] b c _=if b.Ai≠2 then D2 5 else _;rw[<-(λa=>by grind:e=UC\/e=SD->b=c) (Or.inr a)];unfold MI;grind
def S3{a b:B0}(c:a=b):F4 .eql [.s a,.s b]=A (.b L):=by rw[Qn,Be c]
def Ft{a b:B0}(c:¬a=b):F4 .eql [.s a,.s b]=A (.b Ac):=by rw[Qn,Ba c]
def H3(a b:M):G:=((G.Az.V (.I 2 (M.c a))).V (.I 2 (M.c b))).V (.I 2 [.i .u8 0,.n 0])
def TS(a:K)(c d:M):∃e,jj W9 182 2 [.n a,.p ((G.Az.V (.I 2 (M.c c))).V (.I 2 (M.c d))).next 0] (H3 c d)=A (.S (M.c (G8 a)),e):=by
 have b:=Nr a (-1000000000) 1000000000;unfold G8 H3;rw[IL.2.2.2.2.2.1];generalize BY a (-1000000000) 1000000000=f at b⊢;cases f
 .simp only[b.H B,(N3 2).H B,QB];exact⟨_,B⟩
 .simp only[b.H B,(R4 a).H B,IL.2.2.2.2.2.2.2];exact⟨_,B⟩
def s7(e:B0)(c d:M)(xb:c.Ai=1->DO c.n)(xc:d.Ai=1->DO d.n):A2 182 [.s e,.S (M.c c),.S (M.c d)] (.S (M.c (Kw e c d))):=BP B B B (by
 have t:=N3 5;have Y:=O6 (Au (c.n=d.n));have V:=Cz .n c.n 0;have W:=Cz .n c.n d.n;have Z:=Qm .n c.n d.n;unfold Kw;rw[IL.1];by_cases w:e=SD
 .rw[Af w];have g:=Cz .u8 c.Ai d.Ai;by_cases xe:c.Ai=2;.simp only[H V,H g,Q,QD,QT,IL.2.2.1,(O6 (Au (c.n=0))).H B,reduceIte, *];exact⟨_,B⟩
  .simp only[H V,H g,Q,QD,QT,Aic,w,t.H B,xe,ne_eq,reduceIte];exact⟨_,B⟩
 rw[Ad w];have p:¬e=[110,111,116]:=w;have g:=Cz .u8 c.Ai d.Ai;have k:=FW .u8 c.Ai 1;have N:=FW .u8 c.Ai 2;by_cases q:e=ha
 .rw[Af q];by_cases v:c.Ai=d.Ai
  .rw[Be v]at g;by_cases s:c.Ai=1;.rw[Be s]at k;rw[Ad (by grind)];simp only[H W,H g,H k,Q,QD,QT,Aic,p,q,IL.2.2.2.1,Y.H B,QB];exact⟨_,B⟩
   .rw[Ba s]at k;by_cases X:c.Ai=2;.rw[Be X]at N;rw[Ad (by grind)];simp only[H W,H g,H k,H N,Q,QD,QT,Aic,p,q,IL.2.2.2.1,Y.H B,QB];exact⟨_,B⟩
    .rw[Ba X]at N;rw[Af Om];simp only[H g,H k,H N,Q,QD,QT,Aic,p,q,t.H B,QB];exact⟨_,B⟩
  .rw[Ba v]at g;rw[Af Om];simp only[H g,Q,QD,QT,t.H B,QB, *];exact⟨_,B⟩
 rw[Ad q];have P:¬e=[101,113]:=q;by_cases v:c.Ai=d.Ai
 .rw[Be v]at g;by_cases s:c.Ai=1
  .rw[Be s]at k;have S:=xb s;have xd:=xc Om;rw[Ad (by grind)];have xf:∃xa,jj W9 182 4 [.s e,.p G.Az.next 0,.p (G.Az.V (.I 2 (M.c c))).next 0,.p ((G.Az.V (.I 2 (M.c c))).V (.I 2 (M.c d))).next 0] (H3 c d)=A (.S (M.c (if e=de then ET (Au (c.n<d.n))else if e=c8 then ET (Au (c.n<=d.n))else if e=aC then G8 (c.n+d.n)else if e=eE then G8 (c.n-d.n)else if e=dw then G8 (c.n*d.n)else if e=UC then G8 (-c.n)else if e=dv then Oj c.n d.n else N1 c.n d.n)),xa):=by
    have f:H3 c d=(((G.Az.V (.I 2 (M.c c))).V (.I 2 (M.c d))).V (.I 2 [.i .u8 0,.n 0])):=B;by_cases x:e=de;.have i:e=[108,116]:=x;rw[Af x,IL.2.2.2.2.1,f];simp only[H (E1 .n c.n d.n),Q,QD,QT,H (S3 i),(O6 (Au (c.n<d.n))).H B];grind
    have i:¬e=[108,116]:=x;rw[Ad x];by_cases y:e=c8;.have j:e=[108,101]:=y;rw[Af y,IL.2.2.2.2.1,f];simp only[H Z,Q,QD,QT,Aic,H (Ft i),H (S3 j),(O6 (Au (c.n<=d.n))).H B];grind
    have j:¬e=[108,101]:=y;rw[Ad y];by_cases z:e=aC;.have l:e=[97,100,100]:=z;have o:=GJ (a:=c.n) (b:=d.n) (by unfold DO at*;omega) (by unfold DO at*;omega);have h:=TS (c.n+d.n) c d;rw[f]at h;rw[Af z,IL.2.2.2.2.1,f];simp only[Q,QD,H o,QT,Aic,H (Ft i),H (Ft j),H (S3 l)];grind
    have l:¬e=[97,100,100]:=z;rw[Ad z];by_cases E:e=eE;.have n:e=[115,117,98]:=E;have o:=Gu (a:=c.n) (b:=d.n) (by unfold DO at*;omega) (by unfold DO at*;omega);have h:=TS (c.n-d.n) c d;rw[f]at h;rw[Af E,IL.2.2.2.2.1,f];simp only[Q,QD,H o,QT,Aic,H (Ft i),H (Ft j),H (Ft l),H (S3 n)];grind
    have n:¬e=[115,117,98]:=E;rw[Ad E];by_cases F:e=dw;.have r:e=[109,117,108]:=F;have o:=Ww c.n d.n S xd;have h:=TS (c.n*d.n) c d;rw[f]at h;rw[Af F,IL.2.2.2.2.1,f];simp only[Q,QD,H o,QT,Aic,H (Ft i),H (Ft j),H (Ft l),H (Ft n),H (S3 r)];grind
    have r:¬e=[109,117,108]:=F;rw[Ad F];by_cases I:e=UC;.have u:e=[110,101,103]:=I;have o:=dx c.n S;have h:=TS (-c.n) c d;rw[f]at h;rw[Af I,IL.2.2.2.2.1,f];simp only[Q,QD,H o,QT,Aic,H (Ft i),H (Ft j),H (Ft l),H (Ft n),H (Ft r),H (S3 u)];grind
    have u:¬e=[110,101,103]:=I;rw[Ad I];unfold Oj N1;by_cases m:d.n=0;.rw[Af m,Af m,ite_self,IL.2.2.2.2.1,f];simp only[Q,QD,QT,H (Ft i),H (Ft j),H (Ft l),H (Ft n),H (Ft r),H (Ft u),(N3 1).H B, *];grind
    rw[Ad m,Ad m];have T:=ZQ c.n d.n S m;have U:=Yh .n c.n m;by_cases J:e=dv;.have R:e=[109,111,100]:=J;have h:=TS (c.n.tmod d.n) c d;rw[f]at h;rw[Af J,IL.2.2.2.2.1,f];simp only[Q,QD,QT,Aic,H (Ft i),H (Ft j),H (Ft l),H (Ft n),H (Ft r),H (Ft u),m,IL.2.2.2.2.2.2.1,H T,H U,H (S3 R)];grind
    .have R:¬e=[109,111,100]:=J;have h:=TS (c.n.tdiv d.n) c d;rw[f]at h;rw[Ad J,IL.2.2.2.2.1,f];simp only[Q,QD,QT,Aic,H (Ft i),H (Ft j),H (Ft l),H (Ft n),H (Ft r),H (Ft u),m,IL.2.2.2.2.2.2.1,H T,H U,H (Ft R)];grind
   simp only[H g,H k,Q,QD,QT,Aic,p,P,QB,IL.2.1];exact xf
  .rw[Ba s]at k;rw[Af Om];simp only[H g,H k,Q,QD,QT,Aic,p,P,QB,IL.2.1,t.H B];grind
 .rw[Ba v]at g;rw[Af Om];simp only[H g,Q,QD,QT,Aic,p,P,QB,IL.2.1,t.H B];grind)
def Adz(b:B0)(a:C _)(d:∀c∈a,c.Ai≠5):Iu b a=Kw b (Qp a) (Ps a):=by unfold Iu;grind
def oB{b:C _}{c:M}(d:b[a]? =A c)(g:c.Ai=5)(f:∀e∈b.t a,e.Ai≠5):EL b=c/\(b.any λc=>Au (c.Ai=5))=L:=by
 constructor
 .induction b generalizing a with
  |nil=>grind
  |cons j i h=>
   cases a with
   |zero=>cases d;unfold EL;grind
   |succ a=>unfold EL;grind
 grind
def uC(c:B0)(d:C M)(xa:d.l=DZ c)(xi:0<DZ c)(w:∀y∈d,QX y):A2 140 [.s c,Z M.c d] (.AC [.S (M.c (Iu c d)),.n 0]):=by
 have xh:DZ c<=2:=by unfold DZ;omega
 have E:=Cz .n (DZ c) 0;rw[Ba (by omega)]at E;have J:=FW .n d.l (DZ c);rw[Be xa]at J;obtain⟨r,X⟩:∃r,d[0]? =A r:=Bo (by omega);obtain⟨t,Y⟩:∃t,d[d.l-1]? =A t:=Bo (by omega);have U:Qp d=r:=by unfold Qp;grind
 have V:Ps d=t:=by unfold Ps;grind
 have xj:AZ 2 [Z M.c d,.n 0]=A (.pi (M.c r)):=Kz X;have xg:=Gu (a:=DZ c) (b:=1) (by omega) (by omega);have xk:AZ 2 [Z M.c d,.n (DZ c-1)]=A (.pi (M.c t)):=by have:=Kz Y;grind
 generalize R:G.Az.V (.I 2 [.i .u8 0,.n 0])=j;have S:j.N .h=A (.I 2 [.i .u8 0,.n 0]):=by rw[<-R];rfl
 have xc:G.Az.next=.h:=B;have xl:(∀y∈d,y.Ai≠5)->∃l,jj W9 140 1 [.s c,Z M.c d,.n (DZ c),.p .h 0] j=A (.AC [.S (M.c (Iu c d)),.n 0],l):=λW=>by rw[Adz c d W,U,V,I_.2.2.2.2.2.2.2.2.2.2.2.1];simp only[QY,(s7 c r t (λx=>(w r P).i9 x) (λx=>(w t P).i9 x)).H B,H (NT S _),QV, *];grind
 have T:∃l,jj W9 140 5 [.s c,Z M.c d,.n (DZ c),.p .h 0] j=A (.AC [.S (M.c (Iu c d)),.n 0],l):=by
  rw[I_.2.2.2.2.2.2.2.1];refine Of (f:=d.l) (d:=λg _ e=>jj W9 140 2 [.n g,.s c,Z M.c d,.n (DZ c),.p .h 0] e) (e:=λg _ e=>e=j/\∀z∈d.t g,z.Ai≠5)
   (g:=λxf=>∃l,xf=A (.AC [.S (M.c (Iu c d)),.n 0],l)) ?_ ?_ (b:=()) ⟨B,λz e=>by grind⟩
  .intro g _ e p f;obtain⟨rfl,f⟩:=f;let⟨u,o⟩:=Bo p
   have k:=Dx p;show(∃_ l,jj W9 140 2 _ _=jj W9 140 2 _ _/\_)\/(∃l,jj W9 140 2 _ _=_);rw[I_.2.2.2.2.2.2.2.2.2.2.2.2.1];by_cases q:u.Ai=5
   .right;let⟨xd,xe⟩:=oB o q f
    unfold Iu;rw[Af xe,xd];simp only[↓Q,↓QD,↓QT,Aic,k,I_.2.2.2.2.2.2.2.2.2.2.2.2.2.1,↓H (Kz o),q,↓H (NT S _),↓QV];grind
   .left;refine⟨(),e,?_,B,?_⟩;.simp only[↓Q,↓QD,↓QT,Aic,k,I_.2.2.2.2.2.2.2.2.2.2.2.2.2.1,↓H (Kz o),q,I_.2.2.2.2.2.2.2.2.2.2.2.2.2.2,↓H (BF (a:=g) (by omega))]
    .intro z xb;rw[<-Gv o,AiM,Ai3]at xb;grind
  .intro _ e f;obtain⟨rfl,f⟩:=f;rw[HV]at f;have k:=Dz d.l;show∃l,jj W9 140 2 _ _=_;rw[I_.2.2.2.2.2.2.2.2.2.2.2.2.1];simp only[↓Q,↓QT,Aic,k];grind
 let⟨l,T⟩:=T
 have xn:jj W9 140 9 [.s c,Z M.c d,.n (DZ c),.p .h 0] j=jj W9 140 5 [.s c,Z M.c d,.n (DZ c),.p .h 0] j:=by
  let⟨_,v,m,f⟩:=Ez (h:=d.l) (f:=λg _ e=>jj W9 140 6 [.n g,.s c,Z M.c d,.n (DZ c),.p .h 0] e) (g:=λg _ e=>e=j)
   (λg _ e p f=>by
    subst f;let⟨u,o⟩:=Bo p
    have k:=Dx p;have q:=(w u (Ail o)).2;refine⟨(),e,?_,B⟩;show jj W9 140 6 _ _=jj W9 140 6 _ _;rw[I_.2.2.2.2.2.2.2.2.1];simp only[↓Q,↓QD,↓QT,Aic,k,I_.2.2.2.2.2.2.2.2.2.1,↓H (Kz o),q,I_.2.2.2.2.2.2.2.2.2.2.1,↓H (BF (a:=g) (by omega))])
   (b:=()) (a:=j) B
  subst f;have m:jj W9 140 6 [.n 0,.s c,Z M.c d,.n (DZ c),.p .h 0] v=jj W9 140 6 [.n d.l,.s c,Z M.c d,.n (DZ c),.p .h 0] v:=m;have k:=Dz d.l;rw[I_.2.2.2.1,m,I_.2.2.2.2.2.2.2.2.1];simp only[↓Q,↓QT,Aic,k]
 have xm:jj W9 140 13 [.s c,Z M.c d,.n (DZ c),.p .h 0] j=jj W9 140 9 [.s c,Z M.c d,.n (DZ c),.p .h 0] j:=by
  let⟨_,v,m,f⟩:=Ez (h:=d.l) (f:=λg _ e=>jj W9 140 10 [.n g,.s c,Z M.c d,.n (DZ c),.p .h 0] e) (g:=λg _ e=>e=j)
   (λg _ e p f=>by
    subst f;let⟨u,o⟩:=Bo p
    have k:=Dx p;have q:=(w u P).1;have N:=s6 u (-1);rw[q]at N;refine⟨(),e,?_,B⟩;show jj W9 140 10 _ _=jj W9 140 10 _ _;rw[I_.2.2.2.2.1];simp only[QY,k,I_.2.2.2.2.2.1,Kz o,N.H B,I_.2.2.2.2.2.2.1,BF (a:=g) (by omega)])
   (b:=()) (a:=j) B
  subst f;have m:jj W9 140 10 [.n 0,.s c,Z M.c d,.n (DZ c),.p .h 0] v=jj W9 140 10 [.n d.l,.s c,Z M.c d,.n (DZ c),.p .h 0] v:=m;have k:=Dz d.l;rw[I_.2.2.1,m,I_.2.2.2.2.1];simp only[↓Q,↓QT,Aic,k]
 have m:xx W9 140 [.s c,Z M.c d] G.Az=A (.AC [.S (M.c (Iu c d)),.n 0],l):=by rw[I_.1];simp only[QY,(ia c).H B,E,R,xc,I_.2.1,J,QB];grind
 exact FN B B m B
def S4{b:C _}{c:AG}(d:b[a]? =A c):AZ 2 [Z AG.c b,.n a]=A (.pi c.c):=Fi d B
def B3(a:C AG):C F:=[Z AG.c a]
def G_(b:C AG)(a:K):Aj AG:=if 0<=a then b[a.n]?else O
def HI(b:C AG)(a:M):M:=if a.Ai=5 then a else if a.Ai=4 then Ed (match G_ b a.n with|some c=>c.I.l|none=>0)else D2 5
def OG{b:C _}{c:K}{d:AG}(e:G_ b c=A d):∃a:D,c=a/\b[a]? =A d:=by unfold G_ at e;grind
def uF(a:C _)(b:M)(o:b.Ai=4->∃e,G_ a b.n=A e):A2 143 [.S (B3 a),.S (M.c b)] (.S (M.c (HI a b))):=BP B B B (by
 have j:∀(c:G)(i:F->G->R),bl (.p c.next 0) (c.V (.I (BK (F.I (.S (B3 a)))) (F.I (.S (B3 a))))) i=i (.p c.next 0) (c.V (.I 1 (B3 a))):=λ_ _=>B;have p:∀(f:F->R),((B3 a)[0]?).b f=f _:=λ_=>B;have k:=N3 5;unfold HI;rw[jF.1];by_cases g:b.Ai=5;.simp only[↓j,↓Q,↓QD,↓QV,↓QT,g,↓reduceIte];grind
 by_cases d:b.Ai=4
 .let⟨e,h⟩:=o d
  let⟨q,m,n⟩:=OG h
  have l:=R4 e.I.l;rw[Ad g,Af d,h];simp only[];simp only[↓j,↓Q,↓QD,↓QV,↓QT,Aic,Int.reduceEq,d,↓p];rw[m];simp only[QY,QV,S4 n,l.H B];grind
 .simp only[QY,QV,k.H B,jF.2, *];grind)
theorem jR(b:C F):∀a c,a.l=b.l->Lf b (a++c)=b++c:=by
 induction b with
 |nil=>intro a c d;have:=Aju.1 d;subst this;rfl
 |cons e b g=>
  intro a c d
  cases a with
  |nil=>grind
  |cons h a=>show e::Lf b (a++c)=_;grind
theorem Za(c:C F):∀b a,DJ b.l c (b++a)=b++Lf c a
 |[],a=>rfl
 |d::b,a=>by show d::DJ _ _ (b++a)=_;rw[Za _ b a];rfl
section
variable{t:Type} {f:t->C F} {w:D}
theorem RY(h:∀c,(f c).l=w){b:C t}{a:D}{c:t}(d:b[a]? =A c):b.f f=(b.t a).f f++(f c++(b.d (a+1)).f f)/\((b.t a).f f).l=a*w:=by
 let⟨i,e,g⟩:=Eh (Aid.1 d).1
 rw[d]at e;cases e;refine⟨?_,?_⟩;.rw[<-AiV,<-g,<-Aks,Aj0]
 .rw[N2 h,AiH];grind
theorem hQ(e:∀a,(f a).l=w){c:C _}{b:D}{a:t}(d:c[b]? =A a):(c.f f).d (b*w)=f a++(c.d (b+1)).f f:=by
 let⟨g,h⟩:=RY e d
 grind
theorem ss(e:∀d,(f d).l=w){b:C _}{a:D}{d:t}(j:b[a]? =A d)(c:t):DJ (a*w) (f c) (b.f f)=(b.set a c).f f:=by
 let⟨h,i⟩:=RY e j
 have k:(b.set a c)[a]? =A c:=by grind
 let⟨g,_⟩:=RY e k
 rw[h,<-i,Za,jR _ _ _ (by grind),g];congr 1;.rw[List.take_set_of_le Om]
 .congr 1;congr 1;rw[List.drop_set_of_lt (by omega)]
structure At(e:G)(d:F)(f:t->C F)(w:D)(c:C t)(b:D)(h:t)(a:Aa):Prop where
 ia:AZ w [d,.n (b:K)]=A (.p a (b*w))
 nb:¬AE d a
 N:e.N a=A (.I (c.l*w) (c.f f))
 only:∀g,¬AE d g->g=a
 lv:Lv e a
 hi:b<c.l
theorem Dm(y:∀e,(f e).l=w){g:G}{l:F}{d:C t}(n:AF g l f w d){j:D}{e:t}(s:d[j]? =A e):∃a,At g l f w d j e a:=by
 have i:=(Aid.1 s).1;rcases n with⟨_,rfl⟩|⟨a,h,rfl,x,p,q⟩;.grind
 .refine⟨a,?_,λu=>u 0 d.l h w B,p,λv r=> ?_,q,i⟩;.have:=hr (b:=w) (d:=a) (e:=0) (f:=h) (g:=.n) i;grind
  .by_cases m:a=v;.grind
   .exact A_ (Fe m) r
theorem At.AU(d:∀b,(f b).l=w){e:G}{o:F}{a:C t}{c:D}{b:t}{h:Aa}(g:At e o f w a c b h)(l:a[c]? =A b):e.AU h (c*w) w=A (f b):=by
 have k:=g.hi;have n:c*w+w<=a.l*w:=by rw[<-AjO];exact AjH w k
 rw[EA g.N,Af n];congr 1;have i:((a.f f).d (c*w)).t w=f b:=by rw[hQ d l,<-d b,List.take_left]
 split
 .rename_i q;have:a.l=1\/w=0:=by
   by_cases r:w=0;.grind
   .left;have:1*w=a.l*w:=by omega
    exact(Nat.mul_right_cancel Om this).s
  rcases this with p|j
  .have m:c=0:=by omega
   subst m;rw[<-i,Nat.zero_mul,AiE,AiX (by rw[N2 d];omega)]
  .have:(a.f f).l=0:=by rw[N2 d,j,Nat.mul_zero]
   grind
 omega
theorem At.AA(i:∀c,(f c).l=w){e:G}{k:F}{d:C t}{a:D}{c:t}{g:Aa}(h:At e k f w d a c g)(j:d[a]? =A c){b:D}(l:b<w):e.AA g (a*w+b)=(f c)[b]? :=by
 rw[AJ h.N];have:(d.f f)[a*w+b]? =((d.f f).d (a*w))[b]? :=by grind
 rw[this,hQ i j,Ajo (by grind)]
theorem At.set(j:∀h,(f h).l=w){e:G}{k:F}{a:C _}{b:D}{h:t}{d:Aa}(i:At e k f w a b h d)(n:AF e k f w a)(u:a[b]? =A h){c:t}{g:F}(v:g.I=f c)(q:Ct (f c)=L):A1 w e [.p d (b*w),g]=A (Ax,e.set d (.I (a.l*w) ((a.set b c).f f)))/\AF (e.set d (.I (a.l*w) ((a.set b c).f f))) k f w (a.set b c):=by
 have r:=i.hi;have y:b*w+w<=a.l*w:=by rw[<-AjO];exact AjH w r
 constructor
 .show An (An (Bb (BK g.I) w) (Ct g.I) Ac) (match e.EY d (b*w) w g.I with|some o=>A (Ax,o)|none=>O) O=_;rw[v,HE,j,AiG,q,L8 (by rw[i.N];rfl),Af y];show A (Ax,e.set d (.I (a.l*w) (if w=a.l*w then f c else DJ (b*w) (f c) (a.f f))))=_;congr 5;split
  .rename_i R;have:a.l=1\/w=0:=by
    by_cases S:w=0;.grind
    .left;have:1*w=a.l*w:=by omega
     exact(Nat.mul_right_cancel Om this).s
   rcases this with I|p
   .have x:b=0:=by omega
    subst x;cases a<;>grind
   .have E:(f c).l=0:=by grind
    have H:((a.set b c).f f).l=0:=by rw[N2 j,p,Nat.mul_zero]
    grind
  .exact ss j u c
 .rcases n with⟨_,rfl⟩|⟨l,m,s,J,M,Q⟩;.grind
  .have:d=l:=by
    by_cases z:d=l
    .grind
    .exfalso;exact i.nb (by rw[s];exact Fe P)
   subst this
   refine .j ⟨d,m,by grind,by grind,by rw[AY,Af B,Aiv],by grind⟩
end
def CF(b c:F):Prop:=∀a,AE b a\/AE c a
theorem CF.symm{a b:F}(c:CF a b):CF b a:=λd=>(c d).symm
theorem LG(a:F):CF a .sn:=λb=>.j (CM b)
theorem CF.r{b c:F}(d:CF b c){a:Aa}(e:¬AE b a):AE c a:=(d a).resolve_left e
theorem CF.l{b c:F}(d:CF b c){a:Aa}(e:¬AE c a):AE b a:=(d a).resolve_right e
theorem CF.of{b c:F}(d:∀a,¬AE b a->AE c a):CF b c:=λa=>by grind
theorem AF.Dh{t:Type}{b:G}{d:F}{f:t->C _}{w:D}{i:C _}(h:AF b d f w i){a:Aa}(c:¬AE d a):Lv b a:=by
 rcases h with⟨rfl,_⟩|⟨e,j,rfl,_,_,k⟩;.exact A_ (CM a) c
 .by_cases g:e=a;.grind
  .exact A_ (Fe g) c
def Cf(b:D->F)(c:D)(d:F):D->F:=λa=>if a=c then d else b a
theorem EH(c:D->F)(a:D)(b:F):Cf c a b a=b:=Af B
theorem CQ{b:D->F}{c a:D}{e:F}(d:a≠c):Cf b c e a=b a:=Ad d
def HT(b c:D->F)(a:D):C F:=[b a,c a]
structure Dn(i:G)(j:F)(e g:D->F)(b:C AG):Prop where
 o:AF i j (HT e g) 2 (List.range b.l)
 c:∀(a:D) h,b[a]? =A h->AF i (e a) M.c 2 h.I
 w:∀(a:D) h,b[a]? =A h->AF i (g a) BU.c 2 h.AV
 dc:∀a d,a<b.l->d<b.l->a≠d->CF (e a) (e d)
 dw:∀a d,a<b.l->d<b.l->a≠d->CF (g a) (g d)
 dx:∀a d,a<b.l->d<b.l->CF (e a) (g d)
 vc:∀a,a<b.l->CF j (e a)
 vw:∀a,a<b.l->CF j (g a)
def Ck(e:F)(c g:D->F)(d:D)(b:Aa):Prop:=¬AE e b\/∃a,a<d/\(¬AE (c a) b\/¬AE (g a) b)
theorem Dn.nil(d:G)(g i:D->F):Dn d .sn g i []where
 o:=AF.sn d
 c:=λb h a=>by grind
 w:=λb h a=>by grind
 dc:=λb e a=>by grind
 dw:=λb e a=>by grind
 dx:=λb e a=>by grind
 vc:=λb a=>by grind
 vw:=λb a=>by grind
theorem Dn.lv{d:G}{l:F}{e m:D->F}{i:C AG}(b:Dn d l e m i){j:Aa}(a:Ck l e m i.l j):Lv d j:=by
 rcases a with a|⟨h,n,a⟩;.exact b.o.Dh a
 .let⟨k,g⟩:=Bo n
  rcases a with a|a;.exact(b.c h k g).Dh a
  .exact(b.w h k g).Dh a
theorem Dn.Av{i j:G}{p:F}{k q:D->F}{m:C _}(b:Dn i p k q m)(l:∀a,Lv i a->Ck p k q m.l a->j.N a=i.N a/\Lv j a):Dn j p k q m where
 o:=b.o.Av λa g e=>l a g (.i e)
 c:=λh n d=>(b.c h n d).Av λa g e=>l a g (.j ⟨h,(Aid.1 d).1,.i e⟩)
 w:=λh n d=>(b.w h n d).Av λa g e=>l a g (.j ⟨h,(Aid.1 d).1,.j e⟩)
 dc:=b.dc
 dw:=b.dw
 dx:=b.dx
 vc:=b.vc
 vw:=b.vw
theorem Dn.ext{a b:G}{g:F}{d h:D->F}{e:C _}(i:Dn a g d h e)(j:AR a b):Dn b g d h e:=i.Av P
theorem PG(a c:D->F)(b:D):(HT a c b).l=2:=rfl
theorem YD{c e d g:D->F}:∀b:C D,(∀a∈b,c a=d a/\e a=g a)->b.f (HT c e)=b.f (HT d g)
 |[],_=>rfl
 |j::b,h=>by rw[AiV,AiV,YD b λa i=>h a (Ai1 _ i)];unfold HT;grind
theorem AF.pr{d:G}{h:F}{e i g j:D->F}{b:D}(c:AF d h (HT e i) 2 (List.range b))(m:∀a,a<b->e a=g a/\i a=j a):AF d h (HT g j) 2 (List.range b):=by
 rcases c with c|⟨k,l,n,o,p,q⟩;.exact .i c
 .exact .j ⟨k,l,n,o,by rw[p,YD (List.range b) λa r=>m a (AiT.1 r)],q⟩
theorem Dn.EK{l:G}{p i w:F}{v E:D->F}{b:C AG}{m:AG}(h:Dn l p v E b)(xg:AF l i M.c 2 m.I)(xh:AF l w BU.c 2 m.AV)(H:CF i w)(xj:CF p i)(xk:CF p w)(N:∀a,a<b.l->CF (v a) i/\CF (E a) i/\CF (v a) w/\CF (E a) w)(xl:b.l<1000000):∃u s,(∀(U:F×G->R),((CB 1 2 l.next [.S [i,w]]).b λxc=>(Eo 2 48 (G.V l xc.1) [p,xc.2]).b U)=U (u,s))/\Dn s u (Cf v b.l i) (Cf E b.l w) (b++[m])/\IC p l s/\(∀q,Lv l q->AE p q->AE u q):=by
 have xi:Ct [i,w]=L:=by rw[EC];simp[(CS xg).2,(CS xh).2]
 have Y:HT (Cf v b.l i) (Cf E b.l w) b.l=[i,w]:=by unfold HT;rw[EH,EH]
 obtain⟨u,s,xf,xb,X,V⟩:=GS (w:=2) (o:=.S [i,w]) (h:=48) (λa=>B) (by rw[Y];grind) (by rw[Y];rfl) (h.o.pr λa g=>⟨(CQ (by omega)).s,(CQ (by omega)).s⟩) (EI (by grind));have xe:List.range b.l++[b.l]=List.range (b++[m]).l:=by rw[Aio,Ajg,Ajw]
 rw[xe]at xb;have Z:∀{t:Type}{f:t->C F}{n:D}{r:F}{J:C t},AF l r f n J->CF p r->AF s r f n J:=λT H=>T.Av λq I xd=>X q I (H.l xd);have W:∀{t:Type}{f:t->C F}{n:D}{r:F}{J:C t},AF l r f n J->CF p r->CF u r:=λT H=>(CF.of λq I=>V q (T.Dh I) (H.l I)).symm;have z:(b++[m]).l=b.l+1:=by simp
 have xn:∀a e,a<b.l->(b++[m])[a]? =A e->b[a]? =A e:=by grind
 have xa:∀a e,a<b.l+1->¬a<b.l->(b++[m])[a]? =A e->a=b.l/\e=m:=by grind
 refine⟨u,s,xf,?_,X,V⟩;have xm:∀a e,(b++[m])[a]? =A e->a<b.l+1:=by grind
 exact{
  o:=xb
  c:=λa e Q=>by
   by_cases g:a<b.l;.rw[CQ (by omega)];exact Z (h.c a e P) (h.vc a g)
   .obtain⟨rfl,rfl⟩:=xa a e P g Q;rw[EH];grind
  w:=λa e Q=>by
   by_cases g:a<b.l;.rw[CQ (by omega)];exact Z (h.w a e P) (h.vw a g)
   .obtain⟨rfl,rfl⟩:=xa a e P g Q;rw[EH];grind
  dc:=λa d g x n=>by
   rw[z]at g x;by_cases j:a<b.l
   .by_cases k:d<b.l;.rw[CQ (by omega),CQ (by omega)];exact h.dc a d j k n
    .have:d=b.l:=by omega
     subst this;rw[CQ (by omega),EH];grind
   .have:a=b.l:=by omega
    subst this;have k:d<b.l:=by omega
    rw[EH,CQ (by omega)];exact(N d k).1.symm
  dw:=λa d g x n=>by
   rw[z]at g x;by_cases j:a<b.l
   .by_cases k:d<b.l;.rw[CQ (by omega),CQ (by omega)];exact h.dw a d j k n
    .have:d=b.l:=by omega
     subst this;rw[CQ (by omega),EH];grind
   .have:a=b.l:=by omega
    subst this;have k:d<b.l:=by omega
    rw[EH,CQ (by omega)];exact(N d k).2.2.2.symm
  dx:=λa d g x=>by
   rw[z]at g x;by_cases j:a<b.l
   .by_cases k:d<b.l;.rw[CQ (by omega),CQ (by omega)];exact h.dx a d j k
    .have:d=b.l:=by omega
     subst this;rw[CQ (by omega),EH];grind
   .have:a=b.l:=by omega
    subst this;by_cases k:d<b.l;.rw[EH,CQ (by omega)];exact(N d k).2.1.symm
    .have:d=b.l:=by omega
     subst this;rw[EH,EH];grind
  vc:=λa g=>by
   rw[z]at g;by_cases j:a<b.l
   .let⟨e,S⟩:=Bo j
    rw[CQ (by omega)];exact W (h.c a e S) (h.vc a j)
   .have:a=b.l:=by omega
    subst this;rw[EH];grind
  vw:=λa g=>by
   rw[z]at g;by_cases j:a<b.l
   .let⟨e,S⟩:=Bo j
    rw[CQ (by omega)];exact W (h.w a e S) (h.vw a j)
   .have:a=b.l:=by omega
    subst this;rw[EH];grind}
theorem Ga{b a:D}(c:a<b):(List.range b)[a]? =A a:=by grind
theorem Dn.at{g:G}{j:F}{e b:D->F}{i:C _}(l:Dn g j e b i){a:D}(k:a<i.l):∃d,AZ 2 [j,.n a]=A (.p d (a*2))/\g.AU d (a*2) 2=A [e a,b a]/\g.AA d (a*2)=A (e a)/\g.AA d (a*2+1)=A (b a)/\At g j (HT e b) 2 (List.range i.l) a a d:=by
 let⟨d,h⟩:=Dm (f:=HT _ b) (w:=2) (λ_=>B) l.o (Ga k)
 refine⟨d,h.ia,h.AU (PG e b) (Ga k),?_,?_,h⟩;.exact h.AA (PG e b) P (b:=0) (by omega)
 .exact h.AA (PG e b) P (b:=1) (by omega)
theorem Dn.fz{e:G}{p:F}{j m:D->F}{l:C AG}(i:Dn e p j m l):Fz 3 e p (Z AG.c l):=by
 have u:∀(h:C AG)(b:D),(∀(a:D) d,h[a]? =A d->AF e (j (b+a)) M.c 2 d.I/\AF e (m (b+a)) BU.c 2 d.AV)->Ge (λx y=>CI 2 e (HT j m x) (AG.c y)) (List.range' b h.l) h:=by
  intro h
  induction h with
  |nil=>intro b _;exact .nil
  |cons d z s=>
   intro b n;rw[AiD,List.range'_succ];let⟨q,r⟩:=n 0 d B
   refine .cons (CI.cons (Fz.CC (b:=M.c) (h:=2) (λ_=>B) (λ_=>B) q) (CI.cons (Fz.CC (b:=BU.c) (h:=2) (λ_=>B) (λ_=>B) r) (CI.nil _ _))) (s (b+1) λa v k=> ?_);have:=n (a+1) v (by grind);rwa[show b+(a+1)=b+1+a by omega]at this
 refine Fz.SL (c:=HT _ _) (d:=AG.c) (f:=2) (by omega) (λ_=>B) (λ_=>B) i.o ?_;rw[Akl];exact u l 0 λa d k=>by rw[Aix];exact⟨i.c a d k,i.w a d k⟩
attribute [grind->] AF.Dh CF.r CF.l Dn.lv
variable{d:Aa}
def Ho{c:G}{b:D}{i a:C F}(g:c.N d=A (.I b i))(h:a.l=b)(f:Ct a=L):A1 b c [.p d 0,.S a]=A (Ax,c.set d (.I b a)):=by show An (An (Bb (BK a) b) (Ct a) Ac) (match c.EY d 0 b a with|some e=>A (Ax,e)|none=>O) O=_;rw[HE,h,AiG,f,L8 (by rw[g];rfl),Af (by omega),Af B];rfl
def Xj{b:G}{c:Aa}{h:C F}{a:F}(f:b.N c=A (.I 1 h))(g:a.I=[a])(i:FX a=L):A1 1 b [.p c 0,a]=A (Ax,b.set c (.I 1 [a])):=by
 have d:Ct [a]=L:=by rw[EC];grind
 show An (An (Bb (BK a.I) 1) (Ct a.I) Ac) (match b.EY c 0 1 a.I with|some e=>A (Ax,e)|none=>O) O=_;rw[g,L8 (by rw[f];rfl),d];rfl
variable{c:D}
def B2{a:G}{b:C _}(e:a.N d=A (.I c b)):a.AU d 0 c=A b:=by rw[EA e,Af (by omega),Af B]
def wU{a:G}{b:C F}(e:a.N d=A (.I c b)):Bf c a [.p d 0]=A (.S b):=by rw[Gk,B2 e];rfl
def M2{a:G}{c:Aa}{b:D}{d:C F}(e:a.N c=A (.I b d)):BV (.ld b) [.p c 0] a (.S d)=L:=by show KT (Bf b a [.p c 0]) _=L;rw[wU e];exact NR _
variable{h:D}
def Jd{a:G}{c:Aa}{b:D}{d:C F}{e:F}(f:a.N c=A (.I h d))(g:d[b]? =A e):BV .Dg [.p c b] a e=L:=by show KT (a.AA c b) _=L;rw[AJ f,g];exact NR _
def EV(b:G)(c:F):Prop:=∀a,Lv b a->AE c a
def EV.LF{i:Type}{a:G}{b c:F}{d:i->C _}{f:C _}(e:EV a c)(k:AF a b d h f):CF b c:=CF.of λg j=>e g P
def gB{l:Type}{e:l->C F}{k:D}(r:∀j,(e j).l=c)(p:∀j,Ct (e j)=L)(a:G)(h:C l)(q:h.l*k<=Hs):∃g d,Eo c k (a.V (.I 0 [])) [.Z a.next 0 0 1 c,Z e h]=A (g,d)/\AF d g e c h/\AR a d/\EV a g:=by
 obtain⟨g,d,i,s,t,n⟩:=UK (a:=h) r p (UM a e c) (by rw[Aj1,Aix];exact q);have o:∀b,Lv a b->AE (.Z a.next 0 0 1 c) b:=λb f=>Fe λi=>by subst i;exact FO a f
 have m:AR a (a.V (.I 0 [])):=AR.V _ _;refine⟨g,d,i,s,λb f=> ?_,λb f=>n b (m.lv f) (o b f)⟩;grind
def tv(c:G)(d:C M)(j:d.l<1000000):∃b a,W9 (Ar 231) [Z M.c d] c=A (b,a)/\AF a b M.c 2 d/\AR c a/\EV c b:=by
 let⟨b,a,h,i,g,e⟩:=gB (e:=M.c) (c:=2) (k:=16) (λ_=>B) (λ_=>B) c d (EI (by omega))
 refine⟨b,a,Bd B B ?_,i,g,e⟩;rw[wu,H (P7 2 _),H h]
def Gn(a:C AG):Prop:=a.l<=400/\∀b∈a,b.I.l<=100/\b.AV.l<=6000
def Gn.at{b:C _}(c:Gn b){d:D}{a:AG}(e:b[d]? =A a):a.I.l<=100/\a.AV.l<=6000:=c.2 a P
structure Tj(i:C AG)(c:G)(d:Aa)(b:G)(e:F)(f h:D->F)(g:D):Prop where
 M:Dn b e f h (i.t g)
 box:b.N d=A (.I 1 [e])
 NJ:Lv b d
 BX:∀a,Lv c a->a≠d->b.N a=c.N a/\Lv b a
 JC:∀a,Lv c a->¬Ck e f h g a
def FC{h:F}{f i:D->F}{g:D}:¬Ck h f i g d↔AE h d/\∀a,a<g->AE (f a) d/\AE (i a) d:=by
 constructor;.intro b;refine⟨Aih λc=>b (.i c),λa e=>⟨Aih λc=>b (.j ⟨a,e,.i c⟩),Aih λc=>b (.j ⟨a,e,.j c⟩)⟩⟩
 .rintro⟨j,k⟩ (b|⟨a,e,b|b⟩)<;>grind
def Tj.C0{n:C AG}{o:G}{m i:G}{x g l:F}{v y:D->F}{w:AG}(a:Tj n o d m x v y c)(Q:n[c]? =A w)(X:Gn n)(Z:Lv o d)(u:AR m i)(xb:AF i g M.c 2 w.I)(xc:AF i l BU.c 2 w.AV)(q:EV m g)(r:EV m l)(U:CF g l):
  ∃e f,(∀(z:F×G->R),((CB 1 2 i.next [.S [g,l]]).b λS=>(Eo 2 48 (G.V i S.1) [x,S.2]).b z)=z (e,f))/\A1 1 f [.p d 0,e]=A (Ax,f.set d (.I 1 [e]))/\
   Tj n o d (f.set d (.I 1 [e])) e (Cf v c g) (Cf y c l) (c+1)/\IC x i f:=by
 have xf:=(Aid.1 Q).1
 have I:(n.t c).l=c:=by grind
 let⟨e,f,Y,p,E,xd⟩:=(a.M.ext u).EK xb xc U (q.LF a.M.o) (r.LF a.M.o) (λk H=>by
  let⟨t,s⟩:=Bo H
  exact⟨q.LF (a.M.c k t s),q.LF (a.M.w k t s),r.LF (a.M.c k t s),r.LF (a.M.w k t s)⟩) (by rw[I];have:=X.1;omega)
 rw[I,Gv Q]at p
 have V:=λb j=>FC.1 (a.JC b j)
 have xa:=u.lv a.NJ
 have T:=(V d Z).1
 have W:∀b,Lv o b->¬Ck e (Cf v c g) (Cf y c l) (c+1) b:=λb j=>by
  have N:Lv m b:=by
   by_cases h:b=d;.subst h;exact a.NJ
   .exact(a.BX b j h).2
  refine FC.2 ⟨P,λk H=> ?_⟩;by_cases h:k=c;.subst h;rw[EH,EH];exact⟨q b N,r b N⟩
  .rw[CQ h,CQ h];grind
 refine⟨e,f,Y,Xj ((E.N xa T).t ((u.N a.NJ).t a.box)) (CS p.o).1 (CS p.o).2,?_,E⟩
 exact{
  M:=p.Av λb j xg=>⟨by rw[AY,Ad];grind,by grind⟩
  box:=by rw[AY,Af B]
  NJ:=by grind
  BX:=λb j J=>by have xe:=a.BX b j J;exact⟨by rw[AY,Ad J];grind,by grind⟩
  JC:=W}
def oP{k:C AG}{i:G}{h y c:Aa}(N:i.N h=A (.I 1 (B3 k)))(U:Lv i h)(V:Lv i c)(W:h≠c)(v:Gn k){j:D}{d:AG}(n:k[j]? =A d){b:G}{q:F}{I X:D->F}(a:Tj k i c b q I X j):∃r J Y u,jj W9 183 4 [.n j,.p h 0,.p c 0,.p y 0] b=jj W9 183 3 [.n j,.p h 0,.p c 0,.p y 0] u/\Tj k i c u r J Y (j+1):=by
 have xd:=v.at n;have e:AR b (b.V (.I 2 (AG.c d))):=AR.V _ _;let⟨s,l,xe,o,g,M⟩:=tv (b.V (.I 2 (AG.c d))) d.I (by omega)
 have xa:(l.V (.I 0 [])).AA b.next 1=A (Z BU.c d.AV):=by rw[AJ (((AR.V l (.I 0 [])).N (g.lv P)).t ((g.N (GD b _)).t (I8 _ _)))];rfl
 let⟨z,R,xf,x,m,t⟩:=gB (e:=BU.c) (c:=2) (k:=16) (λ_=>B) (λ_=>B) l d.AV (EI (by omega))
 have xb:BE [.sn,.sn] [(0,1),(1,1)] [s,z]=A (.S [s,z]):=by rcases o with⟨rfl,_⟩|⟨_,_,rfl,_⟩<;>rcases x with⟨rfl,_⟩|⟨_,_,rfl,_⟩<;>rfl
 let⟨r,xc,T,xg,E,_⟩:=a.C0 n v V (e.AQ (g.AQ m)) (o.ext m) x (λp S=>M p P) (λp S=>t p P) (t.LF o)
 refine⟨r,_,_,_,?_,E⟩;rw[Ui.2.2.2.1];simp only[Q,QD,H (AJ ((a.BX h U W).1.t N) 0),H (S4 n),H (AJ ((e.N a.NJ).t a.box) 0),(Jd ((g.N (e.lv a.NJ)).t ((e.N a.NJ).t a.box)) B:BV .Dg [.p c 0] l q=L),MP,H (P7 2 _),(Jd (I8 _ _) B:BV .Dg [.p b.next 1] (b.V (.I 2 (AG.c d))) (Z BU.c d.AV)=L),(Jd ((m.N (g.lv (e.lv a.NJ))).t ((g.N (e.lv a.NJ)).t ((e.N a.NJ).t a.box))) B:BV .Dg [.p c 0] R q=L),T,ZR, *]
def cc(a:C AG)(R:Gn a)(e:G):∃l q t u,W9 (Ar 183) [.S (B3 a)] e=A (.S [l],u)/\Dn u l q t a/\AR e u/\∀h,Lv e h->¬Ck l q t a.l h:=by
 have xk:=R.1;generalize r:((e.V (.I 1 (B3 a))).V (.I 1 [.sn])).V (.I 1 [.sn])=c;have W:AR e c:=by rw[<-r];exact(AR.V _ _).AQ ((AR.V _ _).AQ (AR.V _ _))
 generalize xd:e.next=j;generalize S:(e.V (.I 1 (B3 a))).next=f
 generalize n:((e.V (.I 1 (B3 a))).V (.I 1 [.sn])).next=k
 have z:Lv (e.V (.I 1 (B3 a))) j:=by grind
 have E:Lv ((e.V (.I 1 (B3 a))).V (.I 1 [.sn])) f:=by grind
 have x:Lv c j:=by rw[<-r];exact(z.V _).V _
 have U:Lv c f:=by grind
 have V:Lv c k:=by grind
 have y:j≠k:=λb=>by rw[<-n]at b;have:=z.V (.I 1 [.sn]);rw[b]at this;exact FO _ this
 have w:c.N j=A (.I 1 (B3 a)):=by grind
 have xa:c.N f=A (.I 1 [.sn]):=by grind
 have J:c.N k=A (.I 1 [.sn]):=by grind
 obtain⟨⟨l,q,t⟩,d,b,g⟩:=Ez (f:=λo p d=>jj W9 183 2 [.p j 0,.n o,.p k 0,.p f 0] d) (g:=λo p d=>Tj a c k d p.1 p.2.1 p.2.2 o)
  (λo p d N g=>by obtain⟨xl,xe⟩:=Bo N;obtain⟨xh,Z,xi,xb,b,X⟩:=oP (y:=f) w x V y R xe g;refine⟨(xh,Z,xi),xb,?_,X⟩;rw[Ui.2.2.1];simp only[Q,QT,H (AJ ((g.BX j x y).1.t w) 0),(Dx N),b,Ui.2.2.2.2,H (BF (a:=o) (by omega))])
  (b:=(.sn,λ_=>.sn,λ_=>.sn)) ({
  M:=Dn.nil _ _ _,box:=J,NJ:=V,BX:=λh m _=>⟨B,m⟩
  JC:=λh _=>FC.2 ⟨CM h,Om⟩})
 have b:jj W9 183 2 [.p j 0,.n 0,.p k 0,.p f 0] c=jj W9 183 2 [.p j 0,.n a.l,.p k 0,.p f 0] d:=b;have v:=g.M;rw[HV]at v;have Y:Ct [l]=L:=by rw[EC];simp[(CS v.o).2]
 refine⟨l,q,t,d.set f (.I 1 [l]),Bd B B ?_,v.Av λh m xc=>⟨by rw[AY,Ad (λb=>by subst b;exact g.JC _ U xc)],by grind⟩,λh m=> ?_,λh m=>g.JC h (W.lv m)⟩
 .have xj:∀(d:G) T,bl (.p d.next 0) (d.V (.I (BK (F.I (.S (B3 a)))) (F.I (.S (B3 a))))) T=T (.p d.next 0) (d.V (.I 1 (B3 a))):=λ_ _=>B;have xf:A1 1 c [.p k 0,.S [.sn]]=A (Ax,c):=by
   have xg:c.set k (.I 1 [.sn])=c:=by rw[<-r,<-n,W_]
   rw[Ho J B B,xg]
  rw[Ui.1,xj];simp only[↓Q,↓H (B:BE [.sn] [] []=A (.S [.sn])),xd,S,n,r];rw[H xf,b,Ui.2.2.1];simp only[Q,QT,Aic,H (AJ ((g.BX j x y).1.t w) 0),(Dz a.l),Ui.2.1,H (B2 g.box),H (Ho ((g.BX f U (λb=>by rw[<-n]at b;rw[b]at E;exact FO _ E)).1.t xa) B Y),H (B2 (by rw[AY,Af B]):(d.set f (.I 1 [l])).AU f 0 1=A [l])]
 .have:=g.BX h P (λb=>by subst b;have:=((AR.V e (.I 1 (B3 a))).AQ (AR.V _ (.I 1 [.sn]))).lv m;rw[<-n]at this;exact FO _ this);exact⟨by rw[AY,Ad (λb=>by subst b;have:=(AR.V e (.I 1 (B3 a))).lv m;rw[<-S]at this;exact FO _ this)];grind,by grind⟩
def Qf(a:C AG)(b:K):K:=match G_ a b with|some c=>c.I.l|none=>0
def Dp(c:C AG)(b a:M):Ak:=Au (b.Ai=4)&&(Au (a.Ai=1)&&BY a.n 0 (Qf c b.n-1))
def Ll(b:C AG)(a:M):Prop:=a.Ai=4->∃c,G_ b a.n=A c
def Jq(b:C AG):∀(a:G) c,bl (.p a.next 0) (a.V (.I (BK (F.I (.S (B3 b)))) (F.I (.S (B3 b))))) c=c (.p a.next 0) (a.V (.I 1 (B3 b))):=λ_ _=>B
theorem AaQ(b:C _)(a:F->R):((B3 b)[0]?).b a=a (Z AG.c b):=rfl
def ib(d:C AG)(n:Gn d)(e g:M)(o:Ll d e):A2 185 [.S (B3 d),.S (M.c e),.S (M.c g)] (.b (Dp d e g)):=BP B B B (by
 unfold Dp;rw[v1];by_cases c:e.Ai=4
 .by_cases h:g.Ai=1
  .let⟨f,p⟩:=o c
   let⟨r,l,j⟩:=OG p
   have q:=(n.at j).1;have m:Qf d e.n=f.I.l:=by unfold Qf;grind
   have i:=Nr g.n 0 (f.I.l-1);rw[m];generalize BY _ 0 (f.I.l-1)=s at i⊢;have k:(AZ 2 [Z AG.c d,.n e.n])=A (.pi (AG.c f)):=by rw[l];exact S4 j
   simp only[Jq,Q,QD,QT,c,h,AaQ,H k,H (Gu (a:=f.I.l) (b:=1) (by omega) (by omega)),i.H B,QS];exact⟨_,B⟩
  .rw[Be c];simp only[Q,QD,QT,Aic,c,h];exact⟨_,B⟩
 .rw[Ba c];simp only[Q,QD,QT,Aic,c];exact⟨_,B⟩)
def BZ:C AG->D
 |[]=>0
 |a::b=>a.AV.l+BZ b
variable{e:AG}
def ed{d:C _}(f:d[c]? =A e):BZ (d.t (c+1))=BZ (d.t c)+e.AV.l:=by
 rw[<-Gv f];have:∀a b,BZ (a++b)=BZ a+BZ b:=by
  intro a b
  induction a with
  |nil=>simp[BZ]
  |cons i h g=>simp[BZ,g,Ajk]
 rw[this];simp[BZ]
def Ads{a:C _}(b:∀d∈a,d.AV.l<=6000):BZ a<=a.l*6000:=by
 induction a with
 |nil=>simp[BZ]
 |cons e h c=>have f:=b e P;have g:=c P;rw[AiD];unfold BZ;omega
def s9(c:C AG)(l:Gn c):A2 186 [.S (B3 c)] (.n (BZ c)):=BP B B B (by
 have u:=l.1;have o:(G.Az.V (.I 1 (B3 c))).N .h=A (.I 1 (B3 c)):=B;have s:G.Az.next=.h:=B;generalize r:G.Az.V (.I 1 (B3 c))=q at o;have n:=AJ o 0;obtain⟨e,d,k,rfl,f⟩:=Ez (f:=λg (e:D) d=>jj W9 186 2 [.p .h 0,.n g,.n e] d) (g:=λg e d=>d=q/\e=BZ (c.t g))
  (λg e d p f=>by
   obtain⟨rfl,f⟩:=f;obtain⟨j,h⟩:=Bo p;have v:=(l.at h).2;have t:e<=g*6000:=by rw[f];have:=Ads (a:=c.t g) (λj h=>(l.2 j P).2);grind
   refine⟨e+j.AV.l,d,?_,B,by rw[ed h,f]⟩;rw[Uj.2.2.1];simp only[Q,QD,QT,H n,(Dx p),Uj.2.2.2.1,H (S4 h),H (GJ (a:=e) (b:=j.AV.l) (by omega) (by omega)),Uj.2.2.2.2,H (BF (a:=g) (by omega)),Akt])
  ⟨B,B⟩
 rw[HV]at f;subst f;have k:jj W9 186 2 [.p .h 0,.n 0,.n 0] d=jj W9 186 2 [.p .h 0,.n c.l,.n (BZ c)] d:=k;refine⟨d,?_⟩;rw[Uj.1];simp only[↓Jq,r,s];rw[k,Uj.2.2.1];simp only[Q,QT,Aic,H n,(Dz c.l),Uj.2.1])
def C7(a:C AG)(b:M):C AG×M×K:=
 if b.Ai=5 then(a,b,0)
 else if b.Ai≠1 then(a,D2 5,0)
 else if BY b.n 0 100=Ac then(a,D2 4,0)
 else if a.l=400 then(a,AK,5)
 else(a++[⟨Bv b.n.n AK,[]⟩],DB a.l,0)
def TN{c:G}{b:Aa}{k l a:C F}(h:c.N b=A (.I 1 k))(i:c.N d=A (.I 2 l))(j:b≠d)(g:a.l=1)(f:Ct a=L)(e:M):A1 1 c [.p b 0,.S a]=A (Ax,c.set b (.I 1 a))/\A1 2 (c.set b (.I 1 a)) [.p d 0,.S (M.c e)]=A (Ax,(c.set b (.I 1 a)).set d (.I 2 (M.c e)))/\((c.set b (.I 1 a)).set d (.I 2 (M.c e))).AU b 0 1=A a/\((c.set b (.I 1 a)).set d (.I 2 (M.c e))).AU d 0 2=A (M.c e):=by refine⟨Ho h g f,Ho (by rw[AY,Ad P];exact i) B B,B2 ?_,B2 (by rw[AY,Af B])⟩;rw[AY,Ad j,AY,Af B]
def AdD(a:D):GG [.i .u8 0,.n 0] a=(Bv a AK).f M.c:=by
 induction a with
 |zero=>rfl
 |succ a b=>show EK [.i .u8 0,.n 0] (GG [.i .u8 0,.n 0] a)=_;rw[b,AjC,AiV];rfl
def UB(b:Aa)(a:D)(c:a<=1000000):Gi [(.i .u8 0),(.n 0)] 2 16 b [.n a,.n a]=A (.I (a*2) ((Bv a AK).f M.c),.Z b 0 a (a+1) 2):=by show An _ _ O=_;rw[(Air Om),(Air (by show a*16<=100000000000;omega)),AdD];rfl
def UL(b:G)(a:D):AF (b.V (.I (a*2) ((Bv a AK).f M.c))) (.Z b.next 0 a (a+1) 2) M.c 2 (Bv a AK):=by refine .j ⟨b.next,a+1,by grind,P,by grind,P⟩
def AdS(b:C AG)(xi:Gn b)(c:D)(xM:c<=100)(xN:b.l≠400){I J n o:Aa}{d:G}(xe:d.N I=A (.I 1 (B3 b)))(xs:d.N J=A (.I 2 (M.c (Ed c))))(xt:d.N n=A (.I 1 [.sn]))(xu:d.N o=A (.I 2 [.i .u8 0,.n 0]))(xC:Lv d I)(xk:Lv d J)(xD:Lv d n)(xE:Lv d o)(xF:n≠o):∃e t y xg,jj W9 144 1 [.p J 0,.p I 0,.p n 0,.p o 0] d=A (.AC [.S [e],.S (M.c (DB b.l)),.n 0],xg)/\Dn xg e t y (b++[⟨Bv c AK,[]⟩]):=by
 have xO:=xi.1;let⟨x,t,y,h,xq,k,Z,xd⟩:=cc b xi d
 have xo:Ct [x]=L:=by rw[EC];simp[(CS k.o).2]
 have Y:A1 1 (h.V (.I 1 [.sn])) [.p h.next 0,.S [x]]=A (Ax,h.V (.I 1 [x])):=FL B xo;generalize xw:h.V (.I 1 [x])=f at Y;have p:AR h f:=by rw[<-xw];exact AR.V _ _
 have V:f.N h.next=A (.I 1 [x]):=by grind
 have E:Lv f h.next:=by grind
 generalize xj:h.next=l at Y V E;have W:¬Lv h l:=by rw[<-xj];exact FO _
 have xG:f.AA J 1=A (.n c):=AJ ((p.N (Z.lv xk)).t ((Z.N xk).t xs)) 1;have xl:=UB f.next c (by omega);have X:=UL f c;generalize xh:f.V (.I (c*2) ((Bv c AK).f M.c))=R at X;have N:AR f R:=by rw[<-xh];exact AR.V _ _
 have m:EV f (.Z f.next 0 c (c+1) 2):=λa i=>Fe λg=>by subst g;exact FO _ i
 generalize xy:F.Z f.next 0 c (c+1) 2=q at xl X m;have xr:BE [.sn,.sn] [(0,1)] [q]=A (.S [q,.sn]):=by rw[<-xy];rfl
 let⟨e,S,xB,T,xc,xn⟩:=(k.ext (p.AQ N)).EK (m:=⟨Bv c AK,[]⟩) X (AF.sn _) (LG _) (m.LF (k.ext p).o) (LG _) (λj u=>by
  let⟨w,v⟩:=Bo u
  exact⟨m.LF ((k.ext p).c j w v),m.LF ((k.ext p).w j w v),LG _,LG _⟩) (by omega)
 have xH:=Aih λr=>W (k.o.Dh r);have xm:=Xj ((xc.N (N.lv E) xH).t ((N.N E).t V)) (CS T.o).1 (CS T.o).2;have xa:∀a,Lv d a->Lv R a/\R.N a=d.N a:=by grind
 have z:∀a,Lv d a->(S.set l (.I 1 [e])).N a=d.N a:=λa i=>by rw[AY,Ad P,xc.N P (FC.1 (xd a i)).1,(xa a i).2]
 have xP:∀a,Lv d a->¬Ck e (Cf t b.l q) (Cf y b.l .sn) (b++[(⟨Bv c AK,[]⟩:AG)]).l a:=λa i=>by
  have xv:=FC.1 (xd a i);refine FC.2 ⟨xn a (xa a i).1 xv.1,λj u=> ?_⟩;rw[Aio,Ajg]at u;by_cases g:j=b.l;.subst g;rw[EH,EH];exact⟨m a P,CM a⟩
  .rw[CQ g,CQ g];grind
 have xQ:¬Ck e (Cf t b.l q) (Cf y b.l .sn) (b++[(⟨Bv c AK,[]⟩:AG)]).l l:=by
  refine FC.2 ⟨P,λj u=> ?_⟩;rw[Aio,Ajg]at u;by_cases g:j=b.l;.subst g;rw[EH,EH];exact⟨m l E,CM _⟩
  .have xz:j<b.l:=by omega
   let⟨w,v⟩:=Bo xz
   rw[CQ g,CQ g];exact⟨Aih λr=>W ((k.c j w v).Dh r),Aih λr=>W ((k.w j w v).Dh r)⟩
 have U:Dn (S.set l (.I 1 [e])) e (Cf t b.l q) (Cf y b.l .sn) (b++[⟨Bv c AK,[]⟩]):=T.Av λa i xA=>⟨by rw[AY,Ad (λg=>by grind)],by grind⟩;generalize xx:S.set l (.I 1 [e])=xb at xm z U;have xf:xb.N l=A (.I 1 [e]):=by rw[<-xx,AY,Af B]
 have xp:Ct [e]=L:=by rw[EC];simp[(CS U.o).2]
 let⟨xI,xJ,xK,xL⟩:=TN ((z n xD).t xt) ((z o xE).t xu) xF B xp (DB b.l)
 refine⟨e,_,_,(xb.set n (.I 1 [e])).set o (.I 2 (M.c (DB b.l))),?_,U.Av λa i xA=>⟨?_,by grind⟩⟩;.rw[Uc.2];simp only[Q,H (B2 xe),H xq,xj,H Y,H (AJ V 0),H xG,H xl,xh,H xr,xB,H xm,H (B2 xf),H (AJ ((z I xC).t xe) 0),(h_ b.l).H B,(M2 xf),MP,H xI,H xJ,H xK,H xL]
 .rw[AY,Ad P,AY,Ad P]
def h7{a:G}{e:F}{c:C AG}(f:Fz 3 a e (Z AG.c c))(d:M)(b:K):Fz 5 a (.AC [.S [e],.S (M.c d),.n b]) (.AC [.S (B3 c),.S (M.c d),.n b]):=by refine Fz.AC (CI.cons (Fz.S (CI.cons f (CI.nil _ _))) (CI.cons ?_ (CI.cons ((Fz.im B).up (by omega)) (CI.nil _ _))));exact(Fz.S (CI.Nu B)).up (by omega)
def uG(b:C AG)(T:Gn b)(a:M):A2 144 [.S (B3 b),.S (M.c a)] (.AC [.S (B3 (C7 b a).1),.S (M.c (C7 b a).2.1),.n (C7 b a).2.2]):=by
 have s:G.Az.next=.h:=B;have xc:(G.Az.V (.I 1 (B3 b))).next=.o .h:=B
 have t:((G.Az.V (.I 1 (B3 b))).V (.I 2 (M.c a))).next=.i .h:=B
 have u:(((G.Az.V (.I 1 (B3 b))).V (.I 2 (M.c a))).V (.I 1 [.sn])).next=.o (.o .h):=B
 generalize l:(((G.Az.V (.I 1 (B3 b))).V (.I 2 (M.c a))).V (.I 1 [.sn])).V (.I 2 [.i .u8 0,.n 0])=c;have r:c.N .h=A (.I 1 (B3 b)):=by grind
 have j:c.N (.o .h)=A (.I 2 (M.c a)):=by grind
 have E:c.N (.i .h)=A (.I 1 [.sn]):=by grind
 have F:c.N (.o (.o .h))=A (.I 2 [.i .u8 0,.n 0]):=by grind
 have W:Lv c .h:=by grind
 have X:Lv c (.o .h):=by grind
 have Y:Lv c (.i .h):=by grind
 have Z:Lv c (.o (.o .h)):=by grind
 have I:(Aa.i .h)≠.o (.o .h):=by grind
 have V:Ct (B3 b)=L:=B;have q:=λm=>TN E F I B V m;have v:∀m o,(∃y,xx W9 144 [.S (B3 b),.S (M.c a)] G.Az=A (.AC [.S (B3 b),.S (M.c m),.n o],y))->A2 144 [.S (B3 b),.S (M.c a)] (.AC [.S (B3 b),.S (M.c m),.n o]):=λm o k=>by
  let⟨y,k⟩:=k
  exact FN B B k B
 have xd:=AJ j 0;have xe:=AJ j 1;have z:=AJ r 0;have J:=B2 r;have xi:=B2 j;have xa:=M2 r;have xb:BV (.ld 2) [.p (.o .h) 0] (c.set (.i .h) (.I 1 (B3 b))) (.S (M.c a))=L:=M2 (by rw[AY,Ad (by grind)];grind);have P:=N3 4;have R:=N3 5;have i:=Nr a.n 0 100;have p:=Cz .n b.l 400;unfold C7;by_cases w:a.Ai=5
 .rw[Af w];refine v a 0 ?_;let⟨e,f,g,h⟩:=q a
  rw[Uc.1];simp only[↓Jq,↓Q,↓QD,xc,t,u];rw[l];simp only[w,H e,xb,H f,H g,H h];exact⟨_,B⟩
 rw[Ad w];by_cases d:a.Ai=1
 .rw[Ad (λk=>k d)]
  cases n:BY a.n 0 100 with
  |false=>
   rw[n]at i;rw[Af B];refine v (D2 4) 0 ?_;let⟨e,f,g,h⟩:=q (D2 4)
   rw[Uc.1];simp only[↓Jq,↓Q,↓QD,s,t,u];rw[l];simp only[d,i.H B,H J,P.H B,xa,H e,H f,H g,H h];exact⟨_,B⟩
  |true=>
   rw[n]at i;rw[Ad (by grind)];have S:0<=a.n/\a.n<=100:=by unfold BY at n;simp only[Aie,Ain]at n;grind
   by_cases x:b.l=400
   .rw[Af x];rw[Be (by omega)]at p;refine v AK 5 ?_;let⟨e,f,g,h⟩:=q AK
    rw[Uc.1];simp only[↓Jq,↓Q,↓QD,s,t,u];rw[l];simp only[Q,d,i.H B,H z,H p,H J,QE,H e,H f,H g,H h];exact⟨_,B⟩
   .rw[Ad x];rw[Ba (by omega)]at p;have U:a=Ed a.n.n:=by obtain⟨xg,xh⟩:=a;simp only at d S⊢;subst d;unfold Ed;congr 1;omega
    rw[U]at j;let⟨xj,xf,xk,y,o,N⟩:=AdS b T a.n.n (by omega) x r j E F W X Y Z I
    refine Fz.Qr B B ?_ (h7 N.fz _ _) (by omega);rw[Uc.1];simp only[↓Jq,↓Q,↓QD,s];rw[l];simp only[Q,QT,Aic,Int.reduceEq,d,i.H B,H z,H p];grind
 .rw[Af d];refine v (D2 5) 0 ?_;let⟨e,f,g,h⟩:=q (D2 5)
  rw[Uc.1];simp only[↓Jq,↓Q,↓QD,s,t,u];rw[l];simp only[QY,R.H B, *];grind
def ad{c:C _}{f:AG}(h:c[a]? =A f){b:D}{d:AG}(g:(c.set a e)[b]? =A d):(b=a/\d=e)\/(b≠a/\c[b]? =A d):=by grind
def Dn.EY{g:G}{R:F}{q S:D->F}{s:C AG}(a:Dn g R q S s){d:D}{x:M}(p:s[d]? =A e)(u:e.I[h]? =A x)(t:M):
  ∃f i,AZ 2 [q d,.n h]=A (.p f (h*2))/\g.AU f (h*2) 2=A (M.c x)/\g.AA f (h*2)=A (.i .u8 x.Ai)/\A1 2 g [.p f (h*2),.S (M.c t)]=A (Ax,i)/\Dn i R q S (s.set d ⟨e.I.set h t,e.AV⟩)/\
   (∀b,b≠f->i.N b=g.N b)/\(∀b,Lv i b=Lv g b)/\¬AE (q d) f:=by
 have r:=(Aid.1 p).1
 let⟨f,m⟩:=Dm (w:=2) (λ_=>B) (a.c d e p) u
 let⟨y,Z⟩:=m.set (w:=2) (λ_=>B) (a.c d e p) u (g:=.S (M.c t)) B B
 generalize W:g.set f (.I (e.I.l*2) ((e.I.set h t).f M.c))=i at y Z
 have Q:∀b,b≠f->i.N b=g.N b:=λb I=>by rw[<-W,AY,Ad I]
 have v:∀{T:Type}{E:T->C F}{N:D}{l:F}{J:C T},AF g l E N J->CF l (q d)->AF i l E N J:=λY U=>Y.Av λb I X=>⟨Q b (λV=>by subst V;exact m.nb (U.r X)),by grind⟩
 refine⟨f,i,m.ia,m.AU (w:=2) (λ_=>B) u,m.AA (w:=2) (λ_=>B) u (b:=0) (by omega),y,?_,Q,P,m.nb⟩
 have n:(s.set d ⟨e.I.set h t,e.AV⟩).l=s.l:=by grind
 exact{
  o:=by rw[n];exact v a.o (a.vc d r)
  c:=λj l k=>by
   rcases ad p k with⟨rfl,rfl⟩|⟨H,k⟩;.grind
   .exact v (a.c j l k) (a.dc j d P r H)
  w:=λj l k=>by
   rcases ad p k with⟨rfl,rfl⟩|⟨H,k⟩;.exact v (a.w j e p) (a.dx j j r r).symm
   .exact v (a.w j l k) (a.dx d j r P).symm
  dc:=by rw[n];exact a.dc
  dw:=by rw[n];exact a.dw
  dx:=by rw[n];exact a.dx
  vc:=by rw[n];exact a.vc
  vw:=by rw[n];exact a.vw}
def Acs{c b:D->F}{e:D}(h:a<e)(d:F):DJ (a*2+1) [d] ((List.range e).f (HT c b))=(List.range e).f (HT c (Cf b a d)):=by
 let⟨l,g⟩:=RY (PG c b) (Ga h)
 let⟨k,o⟩:=RY (PG c (Cf b a d)) (Ga h)
 rw[l,k,(YD _ λm i=>⟨B,CQ (by grind)⟩),(YD _ λm i=>⟨B,CQ (by
  let⟨q,p⟩:=Ajh.1 i
  grind)⟩)]
 generalize((List.range e).t a).f (HT c b)=j at g;generalize((List.range e).d _).f (HT c b)=f;have:=Za [d] (j++[c a]) (b a::f);have n:Lf [d] (b a::f)=d::f:=B;rw[Aio,g,n]at this;unfold HT;rw[EH];grind
def Dn.ev{R g:G}{z u:F}{k i:D->F}{p:C AG}(d:Dn R z k i p)(xg:IC (i a) R g){Q:AG}(M:p[a]? =A Q){n:C BU}(xf:AF g u BU.c 2 n)(xk:CF z u)(xj:∀b,b<p.l->CF (k b) u)(xi:∀b,b<p.l->b≠a->CF (i b) u):∃f q,AZ 2 [z,.n a]=A (.p f (a*2))/\g.AU f (a*2) 2=A [k a,i a]/\g.AA f (a*2)=A (k a)/\g.AA f (a*2+1)=A (i a)/\A1 1 g [.p f (a*2+1),u]=A (Ax,q)/\Dn q z k (Cf i a u) (p.set a ⟨Q.I,n⟩)/\(∀e,e≠f->q.N e=g.N e)/\(∀e,Lv q e=Lv g e)/\¬AE z f:=by
 have s:=(Aid.1 M).1;have N:∀{I:Type}{E:I->C F}{t:D}{j:F}{n:C I},AF R j E t n->CF j (i a)->AF g j E t n:=λX S=>X.Av λe J V=>xg e J (S.r V);have xd:=N d.o (d.vw a s);let⟨f,r⟩:=Dm (PG k i) xd (Ga s)
 have xb:=r.N;rw[Aip]at xb;have T:=G9 (d:=a*2+1) xb (by omega) (by omega) (CS xf).1 (CS xf).2;rw[Acs s]at T;generalize xa:g.set f (.I (p.l*2) ((List.range p.l).f (HT k (Cf i a u))))=q at T;have xe:∀e,e≠f->q.N e=g.N e:=λe J=>by rw[<-xa,AY,Ad J]
 have W:∀{I:Type}{E:I->C F}{t:D}{j:F}{n:C I},AF g j E t n->CF z j->AF q j E t n:=λX S=>X.Av λe J V=>⟨xe e (λZ=>by subst Z;exact V (S.r r.nb)),by grind⟩;have x:(p.set a ⟨Q.I,n⟩).l=p.l:=by grind
 refine⟨f,q,r.ia,r.AU (PG k i) P,r.AA (PG k i) P (b:=0) (by omega),r.AA (PG k i) P (by omega),T,?_,xe,P,r.nb⟩;exact{
  o:=by
   rw[x];rcases xd with⟨rfl,l⟩|⟨Y,xh,xc,m,xl,xm⟩;.grind
   .have:f=Y:=by
     by_cases Z:f=Y
     .grind
     .exfalso;exact r.nb (by rw[xc];exact Fe P)
    subst this
    exact .j ⟨f,xh,xc,m,by rw[<-xa,AY,Af B,Aip],by grind⟩
  c:=λb j l=>by
   rcases ad M l with⟨rfl,rfl⟩|⟨h,l⟩;.exact W (N (d.c b Q M) (d.dx b b s s)) (d.vc b s)
   .have H:=(Aid.1 l).1;exact W (N (d.c b j l) (d.dx b a H s)) (d.vc b H)
  w:=λb j l=>by
   rcases ad M l with⟨rfl,rfl⟩|⟨h,l⟩;.rw[EH];grind
   .have H:=(Aid.1 l).1;rw[CQ h];exact W (N (d.w b j l) (d.dw b a H s h)) (d.vw b H)
  dc:=by rw[x];exact d.dc
  dw:=λb y h v t=>by
   rw[x]at h v;by_cases U:b=a;.subst U;rw[EH,CQ Om];exact(xi y v Om).symm
   .by_cases m:y=a;.subst m;rw[CQ U,EH];grind
    .rw[CQ U,CQ m];exact d.dw b y h v t
  dx:=λb y h v=>by
   rw[x]at h v;by_cases m:y=a;.subst m;rw[EH];grind
   .rw[CQ m];exact d.dx b y h v
  vc:=by rw[x];exact d.vc
  vw:=λb h=>by
   rw[x]at h;by_cases m:b=a;.subst m;rw[EH];grind
   .rw[CQ m];exact d.vw b h}
def Dn.fp{e:G}{p:F}{q h:D->F}{m:C AG}(d:Dn e p q h m){n:AG}(u:m[a]? =A n)(xo:n.AV.l<1000000)(s:BU):
  ∃g l i j,(∀(I:F×G->R),((CB 1 2 e.next [.S (BU.c s)]).b λQ=>(Eo 2 16 (G.V e Q.1) [h a,Q.2]).b I)=I (g,i))/\
   AZ 2 [p,.n a]=A (.p l (a*2))/\e.AA l (a*2+1)=A (h a)/\A1 1 i [.p l (a*2+1),g]=A (Ax,j)/\
   Dn j p q (Cf h a g) (m.set a ⟨n.I,n.AV++[s]⟩)/\(∀b,Lv e b->¬Ck p q h m.l b->i.N b=e.N b/\Lv i b/\j.N b=e.N b/\Lv j b/\¬Ck p q (Cf h a g) m.l b):=by
 have r:=(Aid.1 u).1
 let⟨g,i,xa,xc,N,xd⟩:=GS (w:=2) (b:=s) (o:=.S (BU.c s)) (h:=16) (λ_=>B) B B (d.w a n u) (EI (by omega))
 have t:∀{S:Type}{U:S->C F}{z:D}{H:F}{xb:C S},AF e H U z xb->CF H (h a)->CF H g:=λxr xe=>CF.of P
 let⟨l,j,V,xf,xg,xh,W,T,xs,xp,xq⟩:=d.ev N u xc (t d.o (d.vw a r)) (λf k=>by
  let⟨E,v⟩:=Bo k
  exact t (d.c f E v) (d.dx f a k r)) (λf k z=>by
  let⟨E,v⟩:=Bo k
  exact t (d.w f E v) (d.dw f a k r z))
 let⟨J,xi,xj,xk,X,xl⟩:=d.at r
 have:J=l:=by grind
 subst this
 refine⟨g,J,i,j,xa,V,X,W,T,λb Z Y=> ?_⟩
 have xm:=FC.1 Y
 have xn:=N b Z P
 refine⟨P,P,P,by grind,FC.2 ⟨P,λf k=> ?_⟩⟩
 by_cases M:f=a
 .subst M;rw[EH];grind
 .rw[CQ M];grind
