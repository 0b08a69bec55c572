/- Part of the proof. -/
import Derived.Test.YtbmnfifnenajjaaGreatMbb
set_option linter.all false
noncomputable section
open Option renaming some->A,none->O,getD->Option.g,bind->Option.b
open _root_ renaming rfl->B,List->C,Nat->D,Int->K,if_neg->Ad,if_pos->Af,Option->Ae,Bool->Ah,cond->Aj,decide_eq_true->A0,decide_eq_false->A2,absurd->BF
open Bool renaming true->L,false->Aa
open Decidable renaming decide->Ao
open Nat renaming beq->AW
open List renaming replicate->BG,length->List.l,take->List.t,drop->List.d,flatMap->List.f
open Go.IntKind renaming i64->Go.IntKind.n
open Array renaming toList->Array.l
open Eq renaming trans->Eq.t,symm->Eq.s
open Or renaming inl->Or.i,inr->Or.j
open Int renaming toNat->Int.n
namespace Go.Proofs.YtbmnfifnenajjaaGreat
open Go.Fg
def Na(a:N):N:=if a.Ak=5 then a else if a.Ak=3 then Eu L else if a.Ak=4 then Eu Aa else Ed 5
def pz(a:N):AY 154 [.S (N.c a)] (.S (N.c (Na a))):=Bu B B B (by unfold Na;rw[hi.1];by_cases b:a.Ak=5<;>by_cases c:a.Ak=3<;>by_cases d:a.Ak=4<;>first|omega|(simp only[↓Q,↓QD,↓QV,↓QE,↓QT,AdM,Int.reduceEq,b,c,d,hi.2,↓reduceIte];exact⟨_,B⟩))
def q3(a:N):AY 111 [.S (N.c a)] (.S (N.c (Na a))):=Bu B B B (by have b:=N8 L;have c:=N8 Aa;have d:=Nd 5;unfold Na;rw[aI.1];by_cases e:a.Ak=5<;>by_cases f:a.Ak=3<;>by_cases g:a.Ak=4<;>first|omega|(simp only[QY,QV,QE,Int.reduceEq,aI.2.1,aI.2.2,b.H B,c.H B,d.H B, *];grind))
def FZ(a b:N):K×N:=if a.Ak=2 then(1-a.n,b)else if a.Ak=5 then(1,a)else(1,Ed 5)
def rd(c d:N)(l: -9223372036854775806<=c.n/\c.n<=9223372036854775807):AY 100 [.S (N.c c),.S (N.c d)] (.AB [.n (FZ c d).1,.S (N.c (FZ c d).2)]):=by
 have k:=FA (a:=1) (b:=c.n) (by omega) (by omega);have h:=Xb c;unfold FZ;by_cases j:c.Ak=2
 .rw[Af j];obtain⟨i,e⟩:∃f,xx W9 100 [.S (N.c c),.S (N.c d)] G.Aq=A (.AB [.n (1-c.n),.S (N.c d)],f):=by rw[Xr.1];simp only[QY,QV,QE,Int.reduceEq, *];grind
  exact EV B B e B
 rw[Ad j];by_cases g:c.Ak=5
 .rw[Af g];rw[A0 g]at h;obtain⟨i,e⟩:∃f,xx W9 100 [.S (N.c c),.S (N.c d)] G.Aq=A (.AB [.n 1,.S (N.c c)],f):=by rw[Xr.1];simp only[QY,QV,QE,Int.reduceEq,h.H B, *];grind
  exact EV B B e B
 .rw[Ad g];rw[A2 g]at h;obtain⟨i,e⟩:∃f,xx W9 100 [.S (N.c c),.S (N.c d)] G.Aq=A (.AB [.n 1,.S (N.c (Ed 5))],f):=by rw[Xr.1];simp only[QY,QV,QE,Int.reduceEq,h.H B,Xr.2, *];exact⟨_,B⟩
  exact EV B B e B
def VZ(a b:N):K×N:=if a=Eu L then(0,b)else if a=Eu Aa then(1,b)else if a.Ak=5 then(1,a)else(1,Ed 5)
def eS(c:Ah)(a b:N):FT c [0,0] [.S (N.c a),.S (N.c b)]=A (.b (if c then !Ao (a=b)else Ao (a=b))):=by
 have:Gp [0,0] (N.c a) (N.c b)=A (Ao (a=b)):=by
  show JO _ (JO (HH 0 (.n a.n) (.n b.n)) (A L))=_;rw[Zv,Zv,T5,T5];congr 1;let⟨d,e⟩:=a
  let⟨f,g⟩:=b
  by_cases h:d=f<;>by_cases i:e=g<;>simp[]
 rw[e3,this];rfl
def eR(a b:N):FT Aa [0,0] [.S (N.c a),.S (N.c b)]=A (.b (Ao (a=b))):=eS _ a b
def q2(a b:N):AY 110 [.S (N.c a),.S (N.c b)] (.AB [.n (VZ a b).1,.S (N.c (VZ a b).2)]):=by
 have e:=N8 L;have i:=N8 Aa;have m:=Nd 5;have k:=eR a (Eu L);have l:=eR a (Eu Aa);unfold VZ;by_cases f:a=Eu L
 .rw[Af f];rw[A0 f]at k;obtain⟨h,c⟩:∃d,xx W9 110 [.S (N.c a),.S (N.c b)] G.Aq=A (.AB [.n 0,.S (N.c b)],d):=by rw[UO.1];simp only[QE,e.H B,QV, *];exact⟨_,B⟩
  exact EV B B c B
 rw[Ad f];rw[A2 f]at k;by_cases g:a=Eu Aa
 .rw[Af g];rw[A0 g]at l;obtain⟨h,c⟩:∃d,xx W9 110 [.S (N.c a),.S (N.c b)] G.Aq=A (.AB [.n 1,.S (N.c b)],d):=by rw[UO.1];simp only[e.H B,i.H B,QV, *];exact⟨_,B⟩
  exact EV B B c B
 rw[Ad g];rw[A2 g]at l;by_cases j:a.Ak=5
 .rw[Af j];obtain⟨h,c⟩:∃d,xx W9 110 [.S (N.c a),.S (N.c b)] G.Aq=A (.AB [.n 1,.S (N.c a)],d):=by rw[UO.1];simp only[QY,QV,QE,e.H B,i.H B,QV, *];grind
  exact EV B B c B
 .rw[Ad j];obtain⟨h,c⟩:∃d,xx W9 110 [.S (N.c a),.S (N.c b)] G.Aq=A (.AB [.n 1,.S (N.c (Ed 5))],d):=by rw[UO.1];simp only[QY,QV,QE,e.H B,i.H B,m.H B,QV,UO.2, *];grind
  exact EV B B c B
def M_(a:Au)(b:N):N:=if b.Ak=5 then b else if a.op=3 then D4 else if a.op=2 then⟨2,a.n⟩else EA a.n
def pA(c:Au)(d:N):AY 155 [.S (Au.c c),.S (N.c d)] (.S (N.c (M_ c d))):=Bu B B B (by
 have a:=Xb d;unfold M_;rw[hj.1];by_cases b:d.Ak=5;.rw[A0 b]at a;simp only[QY,QV,QE,a.H B];rw[Af b];grind
 rw[Ad b];rw[A2 b]at a;by_cases e:c.op=3;.simp only[QY,QV,QE,Int.reduceEq,a.H B, *];exact⟨_,B⟩
 by_cases f:c.op=2;.simp only[QY,QV,QE,Int.reduceEq,a.H B, *];grind
 simp only[QY,QV,QE,Int.reduceEq,a.H B,hj.2, *];exact⟨_,B⟩)
def Sf(a:Au):N:=if a.op=1 then EA a.n else if a.op=2 then Eu (Ao (a.n=1))else D4
def q0(a:Au):AY 108 [.S (Au.c a)] (.S (N.c (Sf a))):=Bu B B B (by
 have b:=Sz a.n;have c:=N8 (Ao (a.n=1));have d:=ai;have g:=Ch .n a.n 1;unfold Sf;rw[hd.1];by_cases e:a.op=1;.simp only[QY,QV,QE,Int.reduceEq,b.H B, *];grind
 by_cases f:a.op=2;.simp only[QY,QV,QE,Int.reduceEq,c.H B, *];grind
 simp only[QY,QV,QE,Int.reduceEq,d.H B,hd.2, *];grind)
theorem HZ{d:C _}{c:D}{e:N}(f:d[c]? =A e):AR 2 [Z N.c d,.n c]=A (.pi e.c):=EZ f B
def E5:C N->N
 |[]=>AO
 |c::d=>if c.Ak=5 then c else E5 d
theorem lC{d:C N}{c:D}{e:N}(g:d[c]? =A e):E5 (d.d c)=if e.Ak=5 then e else E5 (d.d (c+1)):=by
 let⟨i,f,h⟩:=Ds (AdN.1 g).1
 rw[g]at f;cases f;rw[h];rfl
theorem qZ(d:C N)(p:d.l<1000000):AY 107 [Z N.c d] (.S (N.c (E5 d))):=Bu B B B (by
 let⟨h,j⟩:=(MU (d:=λf _ e=>jj W9 107 2 [Z N.c d,.n f,.p G.Aq.next 0] e) (e:=λf _ e=>e=G.Aq.V (.I 2 [.i .u8 0,.n 0])/\E5 (d.d f)=E5 d)
  (g:=λn=>∃h,n=A (.S (N.c (E5 d)),h))
  (λf _ e m c=>by
   obtain⟨rfl,c⟩:=c;obtain⟨o,k⟩:=Bb m;have l:=Cm m;rw[lC k]at c;rw[QK.2.2.1];by_cases g:o.Ak=5;.rw[Af g]at c;right;simp only[Q,QD,QT,l,QK.2.2.2.1,H (HZ k),g];rw[<-c];grind
   .rw[Ad g]at c;left;refine⟨(),_,?_,B,c⟩;simp only[Q,QD,QT,AdM,l,QK.2.2.2.1,H (HZ k),g,QK.2.2.2.2,H (Bh (a:=f) (by omega))])
  (λ_ e c=>by obtain⟨rfl,c⟩:=c;rw[AfA]at c;rw[<-c];rw[QK.2.2.1];simp only[Q,QT,AdM,(CA d.l),QK.2.1];exact⟨_,B⟩)
  (b:=()) ⟨B,B⟩)
 have j:jj W9 107 2 [Z N.c d,.n 0,.p G.Aq.next 0] (G.Aq.V (.I 2 [.i .u8 0,.n 0]))=A (.S (N.c (E5 d)),h):=j;refine⟨h,?_⟩;rw[QK.1];simp only[Q,j])
def Dk(c:K):Prop:= -1000000000<=c/\c<=1000000000
def NZ(a b:K):N:=if b=0 then Ed 1 else G3 (a.tdiv b)
def Oz(a b:K):N:=if b=0 then Ed 1 else G3 (a.tmod b)
theorem ur{a b:K}(c:Dk a)(d:Dk b): -1000000000000000000<=a*b/\a*b<=1000000000000000000:=by
 have e:(a*b).natAbs<=1000000000*1000000000:=by rw[Int.natAbs_mul];exact Nat.mul_le_mul (by unfold Dk at c;omega) (by unfold Dk at d;omega)
 omega
theorem AaN{a b:K}(d:Dk a):Dk (a.tdiv b):=by have c:=Int.natAbs_tdiv_le_natAbs a b;unfold Dk at*;omega
section
variable(a b:K)
theorem qb(c:Dk a)(d:Dk b):AY 231 [.n a,.n b] (.S (N.c (G3 (a+b)))):=Bu B B B (by rw[sB];simp only[H (F2 (a:=a) (b:=b) (by unfold Dk at*;omega) (by unfold Dk at*;omega)),(Sy (a+b)).H B];exact⟨_,B⟩)
theorem qc(c:Dk a)(d:Dk b):AY 233 [.n a,.n b] (.S (N.c (G3 (a-b)))):=Bu B B B (by rw[sC];simp only[H (FA (a:=a) (b:=b) (by unfold Dk at*;omega) (by unfold Dk at*;omega)),(Sy (a-b)).H B];exact⟨_,B⟩)
theorem Vg(c:Dk a)(d:Dk b):A6 .mul [.n a,.n b]=A (.n (a*b)):=by have:=ur c d;rw[ZD,NL (by omega) (by omega)]
theorem qd(c:Dk a)(d:Dk b):AY 234 [.n a,.n b] (.S (N.c (G3 (a*b)))):=Bu B B B (by rw[sD];simp only[H (Vg a b c d),(Sy (a*b)).H B];exact⟨_,B⟩)
theorem bq(c:Dk a):H_ [.n a]=A (.n (-a)):=by show A (F.n (Iu .n (QG 0 a)))=_;rw[KQ,UM,NL (by unfold Dk at*;omega) (by unfold Dk at*;omega),Int.zero_sub]
theorem qk(c:Dk a):AY 240 [.n a,.n b] (.S (N.c (G3 (-a)))):=Bu B B B (by rw[sI];simp only[H (bq a c),(Sy (-a)).H B];exact⟨_,B⟩)
theorem ql:AY 241 [.n a,.n b] (.S (N.c (Eu (Ao (a<b))))):=Bu B B B (by rw[sJ];simp only[QC,QV,(Xc (Ao (a<b))).H B];exact⟨_,B⟩)
theorem qm:AY 243 [.n a,.n b] (.S (N.c (Eu (Ao (a<=b))))):=Bu B B B (by rw[sK];simp only[QC,QV,(Xc (Ao (a<=b))).H B];exact⟨_,B⟩)
theorem qn:AY 244 [.n a,.n b] (.S (N.c (Eu (Ao (a=b))))):=Bu B B B (by rw[sL];simp only[QC,QV,(Xc (Ao (a=b))).H B];exact⟨_,B⟩)
theorem qo:AY 245 [.n a,.n b] (.S (N.c (Eu (Ao (a=0))))):=Bu B B B (by rw[sM];simp only[QC,QV,(Xc (Ao (a=0))).H B];exact⟨_,B⟩)
theorem X7(c:Dk a)(d:b≠0):A6 .quo [.n a,.n b]=A (.n (a.tdiv b)):=by have:=AaN (b:=b) c;rw[nT _ _ d,NL (by unfold Dk at*;omega) (by unfold Dk at*;omega)]
theorem qh(e:Dk a)(f:b≠0):AY 237 [.pi [.n a],.pi [.n b]] (.n (a.tdiv b)):=Bu B B B (by rw[sF];simp only[H ((λ_ _=>B:∀d c,AM d [.pi [.n c]]=A (.n c)) _ _),H (X7 a b e f)];grind)
theorem qj(f:Dk a)(e:b≠0):AY 239 [.pi [.n a],.pi [.n b]] (.n (a.tmod b)):=Bu B B B (by rw[sH];simp only[H ((λ_ _=>B:∀d c,AM d [.pi [.n c]]=A (.n c)) _ _),H (WL .n a e)];grind)
theorem qf(g:Dk a):AY 236 [.n b,.f (pos 237) [.pi [.n a],.pi [.n b]]] (.S (N.c (NZ a b))):=Bu B B B (by
 unfold NZ;rw[Xv.1];by_cases c:b=0;.simp only[c,(N_ 1).H B,QV];exact⟨_,B⟩
 .have f:=qh a b g c;have e:∀d,C8 W9 (.f (pos 237) [.pi [.n a],.pi [.n b]]) [] d=A (.n (a.tdiv b),d):=(f.at B);simp only[QT,AdM,c,H (e _),(Sy (a.tdiv b)).H B,Xv.2];exact⟨_,B⟩)
theorem qg(g:Dk a):AY 236 [.n b,.f (pos 239) [.pi [.n a],.pi [.n b]]] (.S (N.c (Oz a b))):=Bu B B B (by
 unfold Oz;rw[Xv.1];by_cases c:b=0;.simp only[c,(N_ 1).H B,QV];exact⟨_,B⟩
 .have f:=qj a b g c;have e:∀d,C8 W9 (.f (pos 239) [.pi [.n a],.pi [.n b]]) [] d=A (.n (a.tmod b),d):=(f.at B);simp only[QT,AdM,c,H (e _),(Sy (a.tmod b)).H B,Xv.2];exact⟨_,B⟩)
theorem qe(f:Dk a):AY 235 [.n a,.n b] (.S (N.c (NZ a b))):=Bu B B B (by
 have d:W9 (pos 236) [.n b,.f (pos 237) [.p .h 0,.p (.o .h) 0]] (((G.Aq.V (.I 1 [.n a])).V (.I 1 [.n b])).V (.I 2 [.i .u8 0,.n 0]))=A (.S (N.c (NZ a b)),((((G.Aq.V (.I 1 [.n a])).V (.I 1 [.n b])).V (.I 2 [.i .u8 0,.n 0])).set .h (.rc 1 [.n a])).set (.o .h) (.rc 1 [.n b])):=(qf a b f) _ _ _ B;have i:∀(c:G) e d,bl (.p c.next 0) (c.V (.I (Bq (F.I (.n e))) (F.I (.n e)))) d=d (.p c.next 0) (c.V (.I 1 [.n e])):=λ_ _ _=>B;have g:G.Aq.next=.h:=B;have h:(G.Aq.V (.I 1 [.n a])).next=.o .h:=B
 rw[sE];simp only[i,Q];rw[g,h];simp only[H (B:([F.n b])[0]? =A (.n b)),H d,Q];rw[H (M1 B _)];exact⟨_,B⟩)
theorem qi(f:Dk a):AY 238 [.n a,.n b] (.S (N.c (Oz a b))):=Bu B B B (by
 have d:W9 (pos 236) [.n b,.f (pos 239) [.p .h 0,.p (.o .h) 0]] (((G.Aq.V (.I 1 [.n a])).V (.I 1 [.n b])).V (.I 2 [.i .u8 0,.n 0]))=A (.S (N.c (Oz a b)),((((G.Aq.V (.I 1 [.n a])).V (.I 1 [.n b])).V (.I 2 [.i .u8 0,.n 0])).set .h (.rc 1 [.n a])).set (.o .h) (.rc 1 [.n b])):=(qg a b f) _ _ _ B;have i:∀(c:G) e d,bl (.p c.next 0) (c.V (.I (Bq (F.I (.n e))) (F.I (.n e)))) d=d (.p c.next 0) (c.V (.I 1 [.n e])):=λ_ _ _=>B;have g:G.Aq.next=.h:=B;have h:(G.Aq.V (.I 1 [.n a])).next=.o .h:=B
 rw[sG];simp only[i,Q];rw[g,h];simp only[H (B:([F.n b])[0]? =A (.n b)),H d,Q];rw[H (M1 B _)];exact⟨_,B⟩)
end
def b6(b:G->Prop)(a:C N):IX b (Z N.c a) 2 a (λc=>.S (N.c c)) (A9 2):=IX.Z a (λ_=>B) (λ_ _=>B)
def lh{f:D}{e:N->Ah}(a:C N)(k:a.l<1000000)(h:∀b∈a,AY f [.S (N.c b)] (.b (e b)))(c:G):W9 (pos 120) [Z N.c a,.f (pos f) []] c=A (.b (a.any e),c):=by obtain⟨d,j,rfl⟩:=M7 Uk SJ (b6 _ a) (λb i d g=>⟨d,(h b i).at B d,g⟩) (by omega) c B;grind
def rz{f:D}{e:N->Ah}(a:C N)(k:a.l<1000000)(h:∀b∈a,AY f [.S (N.c b)] (.b (e b)))(c:G):W9 (pos 179) [Z N.c a,.f (pos f) []] c=A (.n (I5 e a 0),c):=by obtain⟨d,j,rfl⟩:=gO SJ (b6 _ a) (λb i d g=>⟨d,(h b i).at B d,g⟩) (by omega) c B;grind
def RL(a:K):C F:=[.i .u8 a]
def ks{b:C _}{a:D}{c:K}(d:b[a]? =A c):AR 1 [Z RL b,.n a]=A (.pi (RL c)):=EZ d B
def qw(b:C K)(r:b.l<1000000)(e:K):AY 260 [Z RL b,.i .u8 e] (.n (I5 (λd=>Ao (e=d)) b 0)):=Bu B B B (by
 have q:∀g a c,b.l-a=g->a<=b.l->jj W9 260 2 [.n b.l,.i .u8 e,Z RL b,.n a] c=A (.n (I5 (λd=>Ao (e=d)) (b.d a) a),c):=by
  intro g
  induction g with
  |zero=>
   intro a c m n;have f:¬(a:K)<b.l:=by omega
   rw[Q4.2.2.1];simp only[QT,AdM,f,Q4.2.1];rw[Ad1 (by omega)];rfl
  |succ g p=>
   intro a c m n;have f:(a:K)<b.l:=by omega
   let⟨d,j,o⟩:=Ds (b:=b) (a:=a) (by omega)
   have k:∀c,AM c [.pi (RL d)]=A (.i .u8 d):=λ_=>B;rw[Q4.2.2.1,o];unfold I5;by_cases h:e=d;.simp only[Q,QT,f,Q4.2.2.2.1,H (ks j),H (k _),h,Ad4,reduceIte]
   .simp only[Q,QT,AdM,f,Q4.2.2.2.1,H (ks j),H (k _),h,Q4.2.2.2.2,H (Bh (a:=a) (by omega))];exact p (a+1) c (by omega) (by omega)
 refine⟨G.Aq,?_⟩;have:=q b.l 0 G.Aq (by omega) (by omega);rw[Ad7]at this;rw[Q4.1];simp only[Q];grind)
def qp(a:C K)(e:a.l<1000000)(b:K):AY 247 [Z RL a,.i .u8 b] (.b (a.any λc=>Ao (b=c))):=Bu B B B (by have d:=JW .n (I5 (λc=>Ao (b=c)) a 0) 0;rw[Uy]at d;refine⟨G.Aq,?_⟩;rw[sO];simp only[(qw a e b).H B,H d])
def GP(c:K)(b:C K)(a:D):C F:=[.n c,Z RL b,.f (pos a) []]
def Ac2(a:N):Prop:=a.Ak≠0/\a.Ak≠5
def YH{d:Type}{a:d->Ah}{b:C _}(e:∀c∈b,a c=Aa):b.any a=Aa:=by grind
def fl:∀c b,I5 (λa=>Ao (a.Ak=5)) c b= -1/\(∀a∈c,a.Ak≠5)\/∃d a,I5 (λa=>Ao (a.Ak=5)) c b=(b+d:D)/\c[d]? =A a/\E5 c=a
 |[],b=>.i ⟨B,P⟩
 |j::i,b=>by
  unfold I5 E5;by_cases e:j.Ak=5;.grind
  .rw[Ad (by grind),Ad e];rcases fl i (b+1)with⟨f,g⟩|⟨d,a,f,g,h⟩;.grind
   .exact .j ⟨d+1,a,by grind,by grind,h⟩
def L5(c:C K)(a b d:N):N:=if a.Ak≠b.Ak\/(c.any λe=>Ao (a.Ak=e))=Aa then Ed 5 else d
def pS(i:K)(d:C K)(xs:d.l<1000000)(g:D)(c:C N)(xc:c.l<1000000)(xr:∀h∈c,h.Ak≠0){e f:N}(xb:c[0]? =A e)(xq:c[c.l-1]? =A f)(v:N)(xd:e.Ak=f.Ak->(d.any λj=>Ao (e.Ak=j))=L->AY g [.n e.n,.n f.n] (.S (N.c v))):AY 199 [.S (GP i d g),Z N.c c] (.S (N.c (if c.any (λh=>Ao (h.Ak=5))=L then E5 c else L5 d e f v))):=Bu B B B (by
 have xp:=YH λj T=>A2 (xr j T);have xC:∀(n:G) xg,bl (.p n.next 0) (n.V (.I (Bq (F.I (.S (GP i d g)))) (F.I (.S (GP i d g))))) xg=xg (.p n.next 0) (n.V (.I 3 (GP i d g))):=λ_ _=>B;have u:=λk=>lh c xc (λj _=>UB j) k;rw[xp]at u;have p:=λk=>rz c xc (λj _=>Xd j) k;have xD:=(AdN.1 xb).1;have xf:AR 2 [Z N.c c,.n 0]=A (.pi (N.c e)):=HZ xb;have J:=FA (a:=c.l) (b:=1) (by omega) (by omega);have xt:c.l-1=((c.l-1:D):K):=by omega
 rw[xt]at J;have W:=N_ 5;have m:=qp d xs e.Ak;have l:=DW .u8 e.Ak f.Ak;rcases fl c 0 with⟨M,s⟩|⟨xv,h,M,s,V⟩
 .have S:=YH λj T=>A2 (s j T);rw[S,Ad (by grind)];rw[M]at p;have xi:∃R,jj W9 199 2 [Z N.c c,.p G.Aq.next 0,.p (G.Aq.V (.I 3 (GP i d g))).next 0] ((G.Aq.V (.I 3 (GP i d g))).V (.I 2 [.i .u8 0,.n 0]))=A (.S (N.c (L5 d e f v)),R):=by
   have xx:G.Aq.next=.h:=B;have xy:(G.Aq.V (.I 3 (GP i d g))).next=.o .h:=B
   have xz:((G.Aq.V (.I 3 (GP i d g))).V (.I 2 [.i .u8 0,.n 0])).next=.i .h:=B
   have xA:(((G.Aq.V (.I 3 (GP i d g))).V (.I 2 [.i .u8 0,.n 0])).V (.I 2 [.i .u8 0,.n 0])).next=.o (.o .h):=B
   have xj:AX 2 ((((G.Aq.V (.I 3 (GP i d g))).V (.I 2 [.i .u8 0,.n 0])).V (.I 2 [.i .u8 0,.n 0])).V (.I 2 [.i .u8 0,.n 0])) [.p (.i .h) 0,.S (N.c e)]=A (AC,((((G.Aq.V (.I 3 (GP i d g))).V (.I 2 [.i .u8 0,.n 0])).V (.I 2 [.i .u8 0,.n 0])).V (.I 2 [.i .u8 0,.n 0])).set (.i .h) (.I 2 (N.c e))):=M1 B e;generalize o:((((G.Aq.V (.I 3 (GP i d g))).V (.I 2 [.i .u8 0,.n 0])).V (.I 2 [.i .u8 0,.n 0])).V (.I 2 [.i .u8 0,.n 0])).set (.i .h) (.I 2 (N.c e))=q at xj;have w:AX 2 q [.p (.o (.o .h)) 0,.S (N.c f)]=A (AC,q.set (.o (.o .h)) (.I 2 (N.c f))):=M1 (by rw[<-o];rfl) f;generalize t:q.set (.o (.o .h)) (.I 2 (N.c f))=r at w;have X:r.M (.i .h)=A (.I 2 (N.c e)):=by rw[<-t,<-o];rfl
   have Y:r.M (.o (.o .h))=A (.I 2 (N.c f)):=by rw[<-t,<-o];rfl
   have xa:r.M .h=A (.I 3 (GP i d g)):=by rw[<-t,<-o];rfl
   have xo:r.M (.o .h)=A (.I 2 [.i .u8 0,.n 0]):=by rw[<-t,<-o];rfl
   have U:=λh=>M1 xo h;have xw:Bv (.ld 2) [.pi (N.c f)] q (.S (N.c f))=L:=L0 _;have xu:=HZ xq;have xh:=Ay xa 1;have xB:=Ay xa 2;have x:=Ay X 0;have xk:=Ay X 1;have y:=Ay Y 0;have xl:=Ay Y 1;unfold L5;rw[SZ.2.2.1];simp only[Q,QD,H xf,H J,H xu,xx,xy,xz,xA];rw[H xj,xw];by_cases z:e.Ak=f.Ak
   .rw[A0 z]at l
    cases E:(d.any λj=>Ao (e.Ak=j))with
    |false=>rw[E]at m;rw[Af P];simp only[Q,H w,H x,H y,H l,QB,H xh,m.H B,W.H B,H (U _),QV];grind
    |true=>rw[E]at m;have xn:=xd z E;have xm:∀k,C8 W9 (.f (pos g) []) [.n e.n,.n f.n] k=A (.S (N.c v),k):=λk=>xn.at B k;rw[Ad (by grind)];simp only[Q,H w,H x,H y,H l,QB,H xh,m.H B,SZ.2.2.2,H xB,H xk,H xl,H (xm _),H (U _),QV];grind
   .rw[A2 z]at l;rw[Af Om];simp only[Q,H w,H x,H y,H l,QB,W.H B,H (U _),QV];grind
  let⟨R,xi⟩:=xi
  have I:A6 .geq [.n (-1),.n 0]=A (.b Aa):=B;refine⟨R,?_⟩;rw[SZ.1];simp only[xC,Q,H (u _),SZ.2.1,H (p _),H I];grind
 .have S:c.any (λh=>Ao (h.Ak=5))=L:=by
   rw[AfC]
   have xe:=AdU s
   refine⟨h,xe,?_⟩
   rw[<-Uy _ c 0]at*
   have:h.Ak=5:=by
    clear u p xf J m l xd;rw[<-V];have:∀c,(∃h∈c,h.Ak=5)->(E5 c).Ak=5:=by
     intro c
     induction c with
     |nil=>grind
     |cons j xF xE=>
      rintro⟨h,n,xe⟩
      unfold E5
      grind
    apply this;have:Ao (0<=I5 (λh=>Ao (h.Ak=5)) c 0)=L:=by grind
    rw[Uy,AfC]at this;grind
   grind
  rw[S,Af B,V]
  rw[M,Ad2]at p
  have I:A6 .geq [.n xv,.n 0]=A (.b L):=by rw[JW,A0 (by omega)]
  rw[SZ.1]
  simp only[H (u _),SZ.2.1,H (p _),H I,H (HZ s)]
  exact⟨_,B⟩)
def pR(a:N)(f:Hd a (-1)=L)(e:G):W9 (pos 198) [.S (N.c a)] e=A (.b Aa,e.V (.I 2 (N.c a))):=AZ B B (by
 have d:=W_ a 0 (by omega);rw[sq];by_cases c:a.Ak=4
 .have b:¬a.n<0:=by
   unfold Hd at f
   grind
  simp only[Q,QD,QT,AdM,c,b]
 .have g:Gt a 0=L:=by
   rw[<-f];unfold Gt Hd BK
   split; ·rfl
   split; ·rfl
   split<;>grind
  rw[g]at d
  by_cases b:a.n<0
  .simp only[Q,QD,QT,AdM,c,d.H B,b]
  .simp only[Q,QD,QT,AdM,c,d.H B,QB,b])
def PK(a:N):Prop:=Hd a (-1)=L/\a.Ak≠0
def vn{i:BN}{c:K}{a:C K}{d:D}(S:DV LQ i=A (Le c a d))(J:a.l<1000000)(b:C N)(M:b.l<1000000)(P:b.l=c)(u:∀f∈b,PK f){g h:N}(F:b[0]? =A g)(I:b[b.l-1]? =A h)(j:N)(R:g.Ak=h.Ak->(a.any λk=>Ao (g.Ak=k))=L->AY d [.n g.n,.n h.n] (.S (N.c j))):AY 153 [.s i,Z N.c b] (.AB [.S (N.c (if b.any (λf=>Ao (f.Ak=5))=L then E5 b else L5 a g h j)),.n 0]):=by
 have q:=pS c a J d b M (λf E=>(u f E).2) F I j R;generalize(if b.any (λf=>Ao (f.Ak=5))=L then E5 b else L5 a g h j)=m at q⊢;have V:G.Aq.next=.h:=B;have W:(G.Aq.V (.I 2 [.i .u8 0,.n 0])).next=.o .h:=B
 have r:((G.Aq.V (.I 2 [.i .u8 0,.n 0])).V (.I 3 (GP c a d))).M .h=A (.I 2 [.i .u8 0,.n 0]):=B;have n:((G.Aq.V (.I 2 [.i .u8 0,.n 0])).V (.I 3 (GP c a d))).M (.o .h)=A (.I 3 (GP c a d)):=B;have v:Lv ((G.Aq.V (.I 2 [.i .u8 0,.n 0])).V (.I 3 (GP c a d))) .h:=by grind
 have w:Lv ((G.Aq.V (.I 2 [.i .u8 0,.n 0])).V (.I 3 (GP c a d))) (.o .h):=by grind
 have x:AX 3 ((G.Aq.V (.I 2 [.i .u8 0,.n 0])).V (.I 3 [(.n 0),.sn,.fn])) [.p (.o .h) 0,.S (GP c a d)]=A (AC,(G.Aq.V (.I 2 [.i .u8 0,.n 0])).V (.I 3 (GP c a d))):=ET B B;generalize t:(G.Aq.V (.I 2 [.i .u8 0,.n 0])).V (.I 3 (GP c a d))=e at r n v w x;let⟨l,p,o⟩:=M7 Uk SJ (b6 _ b) (λk T l t=>⟨_,pR k (u k T).1 l,t.AI (AH.V _ _)⟩) (by omega) e (AH.refl e)
 rw[(YH λ_ _=>B:b.any (λ_=>Aa)=Aa)]at p;have z:A6 .neq [.n b.l,.n c]=A (.b Aa):=by rw[DW,A0 P];rfl
 have U:l.AL (.o .h) 0 3=A (GP c a d):=by rw[D1 ((o.M w).t n),Af (by omega),Af B]
 obtain⟨s,y⟩:∃s,xx W9 153 [.s i,Z N.c b] G.Aq=A (.AB [.S (N.c m),.n 0],s):=by rw[hh.1];simp only[Q,fW.H B,H ((λe=>by rw[(λe=>Td L (.S [(.n 0),.sn,.fn]) e LQ i) e,S];rfl:∀e,EP Aa [2] (.S [(.n 0),.sn,.fn]) L e [Jw LQ,.s i]=A (.AB [.S (GP c a d),.b L])) _),V,W];rw[H x];simp only[Q,H (Ay n 0),H z,H p,hh.2,H U,H ((λe=>q e _ _ B:∀e,W9 (pos 199) [.S (GP c a d),Z N.c b] e=A (.S (N.c m),e)) _),H (M1 ((o.M v).t r) m),QV];grind
 exact EV B B y B
def Vm:BN:=[110,111,116]
def eP:BN:=[101,113]
def a8:BN:=[108,116]
def a0:BN:=[108,101]
def YC:BN:=[97,100,100]
def cB:BN:=[115,117,98]
def bp:BN:=[109,117,108]
def Tj:BN:=[110,101,103]
def Ach:BN:=[100,105,118]
def bo:BN:=[109,111,100]
def PO(c:BN)(a b:N):N:=
 if c=Vm then(if a.Ak≠2 then Ed 5 else Eu (Ao (a.n=0)))
 else if c=eP then(if a.Ak≠b.Ak\/(a.Ak≠1/\a.Ak≠2)then Ed 5 else Eu (Ao (a.n=b.n)))
 else if a.Ak≠b.Ak\/a.Ak≠1 then Ed 5
 else if c=a8 then Eu (Ao (a.n<b.n))
 else if c=a0 then Eu (Ao (a.n<=b.n))
 else if c=YC then G3 (a.n+b.n)
 else if c=cB then G3 (a.n-b.n)
 else if c=bp then G3 (a.n*b.n)
 else if c=Tj then G3 (-a.n)
 else if c=bo then Oz a.n b.n
 else NZ a.n b.n
def S_(a:C N):N:=(a[a.l-1]?).g AO
def Sv(a:C N):N:=(a[0]?).g AO
def Kc(b:BN)(a:C N):N:=if a.any (λc=>Ao (c.Ak=5))=L then E5 a else PO b (Sv a) (S_ a)
def PK.i9{a:N}(b:PK a)(c:a.Ak=1):Dk a.n:=by have:=b.1;unfold Hd BK at this;rw[Ad (by omega),Af c]at this;simp only[AdO,AdV]at this;exact this
def py(e:BN)(d:C N)(t:d.l=Du e)(H:0<Du e)(r:∀n∈d,PK n):AY 153 [.s e,Z N.c d] (.AB [.S (N.c (Kc e d)),.n 0]):=by
 have R:Du e<=2:=by unfold Du;omega
 have G:d.l<1000000:=by omega
 obtain⟨b,E⟩:∃b,d[0]? =A b:=Bb (by omega);obtain⟨c,F⟩:∃c,d[d.l-1]? =A c:=Bb (by omega);have m:=r b P;have s:=r c P;have h:=λI p x j (f:DV LQ e=A (Le I p x)) g y z=>vn f g d G y r E F j z;have v:Sv d=b:=by unfold Sv;grind
 have w:S_ d=c:=by unfold S_;grind
 have o:e∈To:=by unfold Du at H;grind
 unfold Kc;rw[v,w];have k:e≠Tj->e≠Vm->(d.l:K)=2:=λJ M=>by rw[t];unfold Du;rw[Af o,Ad (by rintro(q|q);exact J q;exact M q)]
 have u:e=Tj\/e=Vm->(d.l:K)=1:=λa=>by rw[t];unfold Du;rw[Af o];exact Af a
 have i:∀p j,L5 p b c j=PO e b c->(AY 153 [.s e,Z N.c d] (.AB [.S (N.c (if d.any (λn=>Ao (n.Ak=5))=L then E5 d else L5 p b c j)),.n 0]))->AY 153 [.s e,Z N.c d] (.AB [.S (N.c (if d.any (λn=>Ao (n.Ak=5))=L then E5 d else PO e b c)),.n 0]):=by grind
 have S:(([1]).any λQ=>Ao (b.Ak=Q))=L->b.Ak=1:=by grind
 have l:∀j,L5 [1] b c j=if b.Ak≠c.Ak\/b.Ak≠1 then Ed 5 else j:=λj=>by unfold L5;grind
 simp only[To,Ad6,Ae2,Ae3]at o;rcases o with a|a|a|a|a|a|a|a|a|a;.refine i [1] (G3 (b.n+c.n)) ?_ (h 2 [1] 231 _ (by rw[a];rfl) (by grind) (k (by rw[a];decide) (by rw[a];decide)) λf g=>qb _ _ (m.i9 P) (s.i9 P));rw[l,a];rfl
 .refine i [1] (G3 (b.n-c.n)) ?_ (h 2 [1] 233 _ (by rw[a];rfl) (by grind) (k (by rw[a];decide) (by rw[a];decide)) λf g=>qc _ _ (m.i9 P) (s.i9 P));rw[l,a];rfl
 .refine i [1] (G3 (b.n*c.n)) ?_ (h 2 [1] 234 _ (by rw[a];rfl) (by grind) (k (by rw[a];decide) (by rw[a];decide)) λf g=>qd _ _ (m.i9 P) (s.i9 P));rw[l,a];rfl
 .refine i [1] (NZ b.n c.n) ?_ (h 2 [1] 235 _ (by rw[a];rfl) (by grind) (k (by rw[a];decide) (by rw[a];decide)) λf g=>qe _ _ (m.i9 P));rw[l,a];rfl
 .refine i [1] (Oz b.n c.n) ?_ (h 2 [1] 238 _ (by rw[a];rfl) (by grind) (k (by rw[a];decide) (by rw[a];decide)) λf g=>qi _ _ (m.i9 P));rw[l,a];rfl
 .refine i [1] (G3 (-b.n)) ?_ (h 1 [1] 240 _ (by rw[a];rfl) (by grind) (u (Or.inl a)) λf g=>qk _ _ (m.i9 P));rw[l,a];rfl
 .refine i [1] (Eu (Ao (b.n<c.n))) ?_ (h 2 [1] 241 _ (by rw[a];rfl) (by grind) (k (by rw[a];decide) (by rw[a];decide)) λf g=>ql _ _);rw[l,a];rfl
 .refine i [1] (Eu (Ao (b.n<=c.n))) ?_ (h 2 [1] 243 _ (by rw[a];rfl) (by grind) (k (by rw[a];decide) (by rw[a];decide)) λf g=>qm _ _);rw[l,a];rfl
 .refine i [1,2] (Eu (Ao (b.n=c.n))) ?_ (h 2 [1,2] 244 _ (by rw[a];rfl) (by grind) (k (by rw[a];decide) (by rw[a];decide)) λf g=>qn _ _);rw[a];show L5 [1,2] b c _=if b.Ak≠c.Ak\/(b.Ak≠1/\b.Ak≠2)then Ed 5 else _;unfold L5;grind
 .refine i [2] (Eu (Ao (b.n=0))) ?_ (h 1 [2] 245 _ (by rw[a];rfl) (by grind) (u (Or.inr a)) λf g=>qo _ _);rw[a];show L5 [2] b c _=if b.Ak≠2 then Ed 5 else _;rw[<-(λa=>by grind:e=Tj\/e=Vm->b=c) (Or.inr a)];unfold L5;grind
def RI{a b:BN}(c:a=b):FS .eql [.s a,.s b]=A (.b L):=by rw[Pb,A0 c]
def E0{a b:BN}(c:¬a=b):FS .eql [.s a,.s b]=A (.b Aa):=by rw[Pb,A2 c]
def H3(a b:N):G:=((G.Aq.V (.I 2 (N.c a))).V (.I 2 (N.c b))).V (.I 2 [.i .u8 0,.n 0])
def Sq(a:K)(c d:N):∃e,jj W9 166 2 [.n a,.p ((G.Aq.V (.I 2 (N.c c))).V (.I 2 (N.c d))).next 0] (H3 c d)=A (.S (N.c (G3 a)),e):=by
 have b:=Lz a (-1000000000) 1000000000;unfold G3 H3;rw[Ig.2.2.2.2.2.1];generalize BK a (-1000000000) 1000000000=f at b⊢;cases f
 .simp only[b.H B,(Nd 2).H B,QB];exact⟨_,B⟩
 .simp only[b.H B,(Sz a).H B,Ig.2.2.2.2.2.2.2];exact⟨_,B⟩
def pm(e:BN)(c d:N)(xb:c.Ak=1->Dk c.n)(xc:d.Ak=1->Dk d.n):AY 166 [.s e,.S (N.c c),.S (N.c d)] (.S (N.c (PO e c d))):=Bu B B B (by
 have t:=Nd 5;have Y:=N8 (Ao (c.n=d.n));have V:=Ch .n c.n 0;have W:=Ch .n c.n d.n;have Z:=Pa .n c.n d.n;unfold PO;rw[Ig.1];by_cases w:e=Vm
 .rw[Af w];have g:=Ch .u8 c.Ak d.Ak;by_cases xe:c.Ak=2;.simp only[H V,H g,Q,QD,QT,Ig.2.2.1,(N8 (Ao (c.n=0))).H B,reduceIte, *];exact⟨_,B⟩
  .simp only[H V,H g,Q,QD,QT,AdM,w,t.H B,xe,ne_eq,reduceIte];exact⟨_,B⟩
 rw[Ad w];have p:¬e=[110,111,116]:=w;have g:=Ch .u8 c.Ak d.Ak;have k:=DW .u8 c.Ak 1;have M:=DW .u8 c.Ak 2;by_cases q:e=eP
 .rw[Af q];by_cases v:c.Ak=d.Ak
  .rw[A0 v]at g;by_cases s:c.Ak=1;.rw[A0 s]at k;rw[Ad (by grind)];simp only[H W,H g,H k,Q,QD,QT,AdM,p,q,Ig.2.2.2.1,Y.H B,QB];exact⟨_,B⟩
   .rw[A2 s]at k;by_cases X:c.Ak=2;.rw[A0 X]at M;rw[Ad (by grind)];simp only[H W,H g,H k,H M,Q,QD,QT,AdM,p,q,Ig.2.2.2.1,Y.H B,QB];exact⟨_,B⟩
    .rw[A2 X]at M;rw[Af Om];simp only[H g,H k,H M,Q,QD,QT,AdM,p,q,t.H B,QB];exact⟨_,B⟩
  .rw[A2 v]at g;rw[Af Om];simp only[H g,Q,QD,QT,t.H B,QB, *];exact⟨_,B⟩
 rw[Ad q];have P:¬e=[101,113]:=q;by_cases v:c.Ak=d.Ak
 .rw[A0 v]at g;by_cases s:c.Ak=1
  .rw[A0 s]at k;have S:=xb s;have xd:=xc Om;rw[Ad (by grind)];have xf:∃xa,jj W9 166 4 [.s e,.p G.Aq.next 0,.p (G.Aq.V (.I 2 (N.c c))).next 0,.p ((G.Aq.V (.I 2 (N.c c))).V (.I 2 (N.c d))).next 0] (H3 c d)=A (.S (N.c (if e=a8 then Eu (Ao (c.n<d.n))else if e=a0 then Eu (Ao (c.n<=d.n))else if e=YC then G3 (c.n+d.n)else if e=cB then G3 (c.n-d.n)else if e=bp then G3 (c.n*d.n)else if e=Tj then G3 (-c.n)else if e=bo then Oz c.n d.n else NZ c.n d.n)),xa):=by
    have f:H3 c d=(((G.Aq.V (.I 2 (N.c c))).V (.I 2 (N.c d))).V (.I 2 [.i .u8 0,.n 0])):=B;by_cases x:e=a8;.have i:e=[108,116]:=x;rw[Af x,Ig.2.2.2.2.1,f];simp only[H (D7 .n c.n d.n),Q,QD,QT,H (RI i),(N8 (Ao (c.n<d.n))).H B];grind
    have i:¬e=[108,116]:=x;rw[Ad x];by_cases y:e=a0;.have j:e=[108,101]:=y;rw[Af y,Ig.2.2.2.2.1,f];simp only[H Z,Q,QD,QT,AdM,H (E0 i),H (RI j),(N8 (Ao (c.n<=d.n))).H B];grind
    have j:¬e=[108,101]:=y;rw[Ad y];by_cases z:e=YC;.have l:e=[97,100,100]:=z;have o:=F2 (a:=c.n) (b:=d.n) (by unfold Dk at*;omega) (by unfold Dk at*;omega);have h:=Sq (c.n+d.n) c d;rw[f]at h;rw[Af z,Ig.2.2.2.2.1,f];simp only[Q,QD,H o,QT,AdM,H (E0 i),H (E0 j),H (RI l)];grind
    have l:¬e=[97,100,100]:=z;rw[Ad z];by_cases E:e=cB;.have n:e=[115,117,98]:=E;have o:=FA (a:=c.n) (b:=d.n) (by unfold Dk at*;omega) (by unfold Dk at*;omega);have h:=Sq (c.n-d.n) c d;rw[f]at h;rw[Af E,Ig.2.2.2.2.1,f];simp only[Q,QD,H o,QT,AdM,H (E0 i),H (E0 j),H (E0 l),H (RI n)];grind
    have n:¬e=[115,117,98]:=E;rw[Ad E];by_cases F:e=bp;.have r:e=[109,117,108]:=F;have o:=Vg c.n d.n S xd;have h:=Sq (c.n*d.n) c d;rw[f]at h;rw[Af F,Ig.2.2.2.2.1,f];simp only[Q,QD,H o,QT,AdM,H (E0 i),H (E0 j),H (E0 l),H (E0 n),H (RI r)];grind
    have r:¬e=[109,117,108]:=F;rw[Ad F];by_cases I:e=Tj;.have u:e=[110,101,103]:=I;have o:=bq c.n S;have h:=Sq (-c.n) c d;rw[f]at h;rw[Af I,Ig.2.2.2.2.1,f];simp only[Q,QD,H o,QT,AdM,H (E0 i),H (E0 j),H (E0 l),H (E0 n),H (E0 r),H (RI u)];grind
    have u:¬e=[110,101,103]:=I;rw[Ad I];unfold Oz NZ;by_cases m:d.n=0;.rw[Af m,Af m,ite_self,Ig.2.2.2.2.1,f];simp only[Q,QD,QT,H (E0 i),H (E0 j),H (E0 l),H (E0 n),H (E0 r),H (E0 u),(Nd 1).H B, *];grind
    rw[Ad m,Ad m];have T:=X7 c.n d.n S m;have U:=WL .n c.n m;by_cases J:e=bo;.have R:e=[109,111,100]:=J;have h:=Sq (c.n.tmod d.n) c d;rw[f]at h;rw[Af J,Ig.2.2.2.2.1,f];simp only[Q,QD,QT,AdM,H (E0 i),H (E0 j),H (E0 l),H (E0 n),H (E0 r),H (E0 u),m,Ig.2.2.2.2.2.2.1,H T,H U,H (RI R)];grind
    .have R:¬e=[109,111,100]:=J;have h:=Sq (c.n.tdiv d.n) c d;rw[f]at h;rw[Ad J,Ig.2.2.2.2.1,f];simp only[Q,QD,QT,AdM,H (E0 i),H (E0 j),H (E0 l),H (E0 n),H (E0 r),H (E0 u),m,Ig.2.2.2.2.2.2.1,H T,H U,H (E0 R)];grind
   simp only[H g,H k,Q,QD,QT,AdM,p,P,QB,Ig.2.1];exact xf
  .rw[A2 s]at k;rw[Af Om];simp only[H g,H k,Q,QD,QT,AdM,p,P,QB,Ig.2.1,t.H B];grind
 .rw[A2 v]at g;rw[Af Om];simp only[H g,Q,QD,QT,AdM,p,P,QB,Ig.2.1,t.H B];grind)
def wu(b:BN)(a:C _)(d:∀c∈a,c.Ak≠5):Kc b a=PO b (Sv a) (S_ a):=by unfold Kc;grind
def lD{b:C _}{a:D}{c:N}(d:b[a]? =A c)(g:c.Ak=5)(f:∀e∈b.t a,e.Ak≠5):E5 b=c/\(b.any λc=>Ao (c.Ak=5))=L:=by
 constructor
 .induction b generalizing a with
  |nil=>grind
  |cons j i h=>
   cases a with
   |zero=>cases d;unfold E5;grind
   |succ a=>unfold E5;grind
 grind
def q1(c:BN)(d:C N)(xa:d.l=Du c)(xi:0<Du c)(w:∀y∈d,PK y):AY 109 [.s c,Z N.c d] (.AB [.S (N.c (Kc c d)),.n 0]):=by
 have xh:Du c<=2:=by unfold Du;omega
 have E:=Ch .n (Du c) 0;rw[A2 (by omega)]at E;have J:=DW .n d.l (Du c);rw[A0 xa]at J;obtain⟨r,X⟩:∃r,d[0]? =A r:=Bb (by omega);obtain⟨t,Y⟩:∃t,d[d.l-1]? =A t:=Bb (by omega);have U:Sv d=r:=by unfold Sv;grind
 have V:S_ d=t:=by unfold S_;grind
 have xj:AR 2 [Z N.c d,.n 0]=A (.pi (N.c r)):=HZ X;have xg:=FA (a:=Du c) (b:=1) (by omega) (by omega);have xk:AR 2 [Z N.c d,.n (Du c-1)]=A (.pi (N.c t)):=by have:=HZ Y;grind
 generalize R:G.Aq.V (.I 2 [.i .u8 0,.n 0])=j;have S:j.M .h=A (.I 2 [.i .u8 0,.n 0]):=by rw[<-R];rfl
 have xc:G.Aq.next=.h:=B;have xl:(∀y∈d,y.Ak≠5)->∃l,jj W9 109 1 [.s c,Z N.c d,.n (Du c),.p .h 0] j=A (.AB [.S (N.c (Kc c d)),.n 0],l):=λW=>by rw[wu c d W,U,V,IG.2.2.2.2.2.2.2.2.2.2.2.1];simp only[QY,(pm c r t (λx=>(w r P).i9 x) (λx=>(w t P).i9 x)).H B,H (M1 S _),QV, *];grind
 have T:∃l,jj W9 109 5 [.s c,Z N.c d,.n (Du c),.p .h 0] j=A (.AB [.S (N.c (Kc c d)),.n 0],l):=by
  rw[IG.2.2.2.2.2.2.2.1];refine MU (f:=d.l) (d:=λg _ e=>jj W9 109 2 [.n g,.s c,Z N.c d,.n (Du c),.p .h 0] e) (e:=λg _ e=>e=j/\∀z∈d.t g,z.Ak≠5)
   (g:=λxf=>∃l,xf=A (.AB [.S (N.c (Kc c d)),.n 0],l)) ?_ ?_ (b:=()) ⟨B,λz e=>by grind⟩
  .intro g _ e p f;obtain⟨rfl,f⟩:=f;let⟨u,o⟩:=Bb p
   have k:=Cm p;show(∃_ l,jj W9 109 2 _ _=jj W9 109 2 _ _/\_)\/(∃l,jj W9 109 2 _ _=_);rw[IG.2.2.2.2.2.2.2.2.2.2.2.2.1];by_cases q:u.Ak=5
   .right;let⟨xd,xe⟩:=lD o q f
    unfold Kc;rw[Af xe,xd];simp only[↓Q,↓QD,↓QT,AdM,k,IG.2.2.2.2.2.2.2.2.2.2.2.2.2.1,↓H (HZ o),q,↓H (M1 S _),↓QV];grind
   .left;refine⟨(),e,?_,B,?_⟩;.simp only[↓Q,↓QD,↓QT,AdM,k,IG.2.2.2.2.2.2.2.2.2.2.2.2.2.1,↓H (HZ o),q,IG.2.2.2.2.2.2.2.2.2.2.2.2.2.2,↓H (Bh (a:=g) (by omega))]
    .intro z xb;rw[<-FL o,Aej,AeW]at xb;grind
  .intro _ e f;obtain⟨rfl,f⟩:=f;rw[Gz]at f;have k:=CA d.l;show∃l,jj W9 109 2 _ _=_;rw[IG.2.2.2.2.2.2.2.2.2.2.2.2.1];simp only[↓Q,↓QT,AdM,k];grind
 let⟨l,T⟩:=T
 have xn:jj W9 109 9 [.s c,Z N.c d,.n (Du c),.p .h 0] j=jj W9 109 5 [.s c,Z N.c d,.n (Du c),.p .h 0] j:=by
  let⟨_,v,m,f⟩:=Dh (h:=d.l) (f:=λg _ e=>jj W9 109 6 [.n g,.s c,Z N.c d,.n (Du c),.p .h 0] e) (g:=λg _ e=>e=j)
   (λg _ e p f=>by
    subst f;let⟨u,o⟩:=Bb p
    have k:=Cm p;have q:=(w u (AdU o)).2;refine⟨(),e,?_,B⟩;show jj W9 109 6 _ _=jj W9 109 6 _ _;rw[IG.2.2.2.2.2.2.2.2.1];simp only[↓Q,↓QD,↓QT,AdM,k,IG.2.2.2.2.2.2.2.2.2.1,↓H (HZ o),q,IG.2.2.2.2.2.2.2.2.2.2.1,↓H (Bh (a:=g) (by omega))])
   (b:=()) (a:=j) B
  subst f;have m:jj W9 109 6 [.n 0,.s c,Z N.c d,.n (Du c),.p .h 0] v=jj W9 109 6 [.n d.l,.s c,Z N.c d,.n (Du c),.p .h 0] v:=m;have k:=CA d.l;rw[IG.2.2.2.1,m,IG.2.2.2.2.2.2.2.2.1];simp only[↓Q,↓QT,AdM,k]
 have xm:jj W9 109 13 [.s c,Z N.c d,.n (Du c),.p .h 0] j=jj W9 109 9 [.s c,Z N.c d,.n (Du c),.p .h 0] j:=by
  let⟨_,v,m,f⟩:=Dh (h:=d.l) (f:=λg _ e=>jj W9 109 10 [.n g,.s c,Z N.c d,.n (Du c),.p .h 0] e) (g:=λg _ e=>e=j)
   (λg _ e p f=>by
    subst f;let⟨u,o⟩:=Bb p
    have k:=Cm p;have q:=(w u P).1;have M:=Z9 u (-1);rw[q]at M;refine⟨(),e,?_,B⟩;show jj W9 109 10 _ _=jj W9 109 10 _ _;rw[IG.2.2.2.2.1];simp only[QY,k,IG.2.2.2.2.2.1,HZ o,M.H B,IG.2.2.2.2.2.2.1,Bh (a:=g) (by omega)])
   (b:=()) (a:=j) B
  subst f;have m:jj W9 109 10 [.n 0,.s c,Z N.c d,.n (Du c),.p .h 0] v=jj W9 109 10 [.n d.l,.s c,Z N.c d,.n (Du c),.p .h 0] v:=m;have k:=CA d.l;rw[IG.2.2.1,m,IG.2.2.2.2.1];simp only[↓Q,↓QT,AdM,k]
 have m:xx W9 109 [.s c,Z N.c d] G.Aq=A (.AB [.S (N.c (Kc c d)),.n 0],l):=by rw[IG.1];simp only[QY,(fJ c).H B,E,R,xc,IG.2.1,J,QB];grind
 exact EV B B m B
def M2{b:C _}{a:D}{c:AE}(d:b[a]? =A c):AR 2 [Z AE.c b,.n a]=A (.pi c.c):=EZ d B
def Bp(a:C AE):C F:=[Z AE.c a]
def Iq(b:C AE)(a:K):Ae AE:=if 0<=a then b[a.n]?else O
def L2(b:C AE)(a:N):N:=if a.Ak=5 then a else if a.Ak=4 then EA (match Iq b a.n with|some c=>c.I.l|none=>0)else Ed 5
def Mt{b:C _}{c:K}{d:AE}(e:Iq b c=A d):∃a:D,c=a/\b[a]? =A d:=by unfold Iq at e;grind
def q4(a:C _)(b:N)(o:b.Ak=4->∃e,Iq a b.n=A e):AY 112 [.S (Bp a),.S (N.c b)] (.S (N.c (L2 a b))):=Bu B B B (by
 have j:∀(c:G)(i:F->G->R),bl (.p c.next 0) (c.V (.I (Bq (F.I (.S (Bp a)))) (F.I (.S (Bp a))))) i=i (.p c.next 0) (c.V (.I 1 (Bp a))):=λ_ _=>B;have p:∀(f:F->R),((Bp a)[0]?).b f=f _:=λ_=>B;have k:=Nd 5;unfold L2;rw[he.1];by_cases g:b.Ak=5;.simp only[↓j,↓Q,↓QD,↓QV,↓QT,g,↓reduceIte];grind
 by_cases d:b.Ak=4
 .let⟨e,h⟩:=o d
  let⟨q,m,n⟩:=Mt h
  have l:=Sz e.I.l;rw[Ad g,Af d,h];simp only[];simp only[↓j,↓Q,↓QD,↓QV,↓QT,AdM,Int.reduceEq,d,↓p];rw[m];simp only[QY,QV,M2 n,l.H B];grind
 .simp only[QY,QV,k.H B,he.2, *];grind)
theorem hv(b:C F):∀a c,a.l=b.l->KD b (a++c)=b++c:=by
 induction b with
 |nil=>intro a c d;have:=AeV.1 d;subst this;rfl
 |cons e b g=>
  intro a c d
  cases a with
  |nil=>grind
  |cons h a=>show e::KD b (a++c)=_;grind
theorem Xz(c:C F):∀b a,Dg b.l c (b++a)=b++KD c a
 |[],a=>rfl
 |d::b,a=>by show d::Dg _ _ (b++a)=_;rw[Xz _ b a];rfl
section
variable{t:Type} {f:t->C F} {w:D}
theorem Qt(h:∀c,(f c).l=w){b:C t}{a:D}{c:t}(d:b[a]? =A c):b.f f=(b.t a).f f++(f c++(b.d (a+1)).f f)/\((b.t a).f f).l=a*w:=by
 let⟨i,e,g⟩:=Ds (AdN.1 d).1
 rw[d]at e;cases e;refine⟨?_,?_⟩;.rw[<-Aeh,<-g,<-AfY,Afv]
 .rw[Mf h,Aef];grind
theorem fo(e:∀a,(f a).l=w){c:C _}{b:D}{a:t}(d:c[b]? =A a):(c.f f).d (b*w)=f a++(c.d (b+1)).f f:=by
 let⟨g,h⟩:=Qt e d
 grind
theorem oB(e:∀d,(f d).l=w){b:C _}{a:D}{d:t}(j:b[a]? =A d)(c:t):Dg (a*w) (f c) (b.f f)=(b.set a c).f f:=by
 let⟨h,i⟩:=Qt e j
 have k:(b.set a c)[a]? =A c:=by grind
 let⟨g,_⟩:=Qt e k
 rw[h,<-i,Xz,hv _ _ _ (by grind),g];congr 1;.rw[List.take_set_of_le Om]
 .congr 1;congr 1;rw[List.drop_set_of_lt (by omega)]
structure At(e:G)(d:F)(f:t->C F)(w:D)(c:C t)(b:D)(h:t)(a:T):Prop where
 ia:AR w [d,.n (b:K)]=A (.p a (b*w))
 nb:¬As d a
 M:e.M a=A (.I (c.l*w) (c.f f))
 only:∀g,¬As d g->g=a
 lv:Lv e a
 hi:b<c.l
theorem CD(y:∀e,(f e).l=w){g:G}{l:F}{d:C t}(n:Aw g l f w d){j:D}{e:t}(s:d[j]? =A e):∃a,At g l f w d j e a:=by
 have i:=(AdN.1 s).1;rcases n with⟨_,rfl⟩|⟨a,h,rfl,x,p,q⟩;.grind
 .refine⟨a,?_,λu=>u 0 d.l h w B,p,λv r=> ?_,q,i⟩;.have:=e4 (b:=w) (d:=a) (e:=0) (f:=h) (g:=.n) i;grind
  .by_cases m:a=v;.grind
   .exact BF (EN m) r
theorem At.AL(d:∀b,(f b).l=w){e:G}{o:F}{a:C t}{c:D}{b:t}{h:T}(g:At e o f w a c b h)(l:a[c]? =A b):e.AL h (c*w) w=A (f b):=by
 have k:=g.hi;have n:c*w+w<=a.l*w:=by rw[<-Afe];exact AeZ w k
 rw[D1 g.M,Af n];congr 1;have i:((a.f f).d (c*w)).t w=f b:=by rw[fo d l,<-d b,List.take_left]
 split
 .rename_i q;have:a.l=1\/w=0:=by
   by_cases r:w=0;.grind
   .left;have:1*w=a.l*w:=by omega
    exact(Nat.mul_right_cancel Om this).s
  rcases this with p|j
  .have m:c=0:=by omega
   subst m;rw[<-i,Nat.zero_mul,Ad7,Aeq (by rw[Mf d];omega)]
  .have:(a.f f).l=0:=by rw[Mf d,j,Nat.mul_zero]
   grind
 omega
theorem At.Ap(i:∀c,(f c).l=w){e:G}{k:F}{d:C t}{a:D}{c:t}{g:T}(h:At e k f w d a c g)(j:d[a]? =A c){b:D}(l:b<w):e.Ap g (a*w+b)=(f c)[b]? :=by
 rw[Ay h.M];have:(d.f f)[a*w+b]? =((d.f f).d (a*w))[b]? :=by grind
 rw[this,fo i j,AeQ (by grind)]
theorem At.set(j:∀h,(f h).l=w){e:G}{k:F}{a:C _}{b:D}{h:t}{d:T}(i:At e k f w a b h d)(n:Aw e k f w a)(u:a[b]? =A h){c:t}{g:F}(v:g.I=f c)(q:BU (f c)=L):AX w e [.p d (b*w),g]=A (AC,e.set d (.I (a.l*w) ((a.set b c).f f)))/\Aw (e.set d (.I (a.l*w) ((a.set b c).f f))) k f w (a.set b c):=by
 have r:=i.hi;have y:b*w+w<=a.l*w:=by rw[<-Afe];exact AeZ w r
 constructor
 .show Aj (Aj (AW (Bq g.I) w) (BU g.I) Aa) (match e.Ep d (b*w) w g.I with|some o=>A (AC,o)|none=>O) O=_;rw[v,GK,j,Aee,q,Ki (by rw[i.M];rfl),Af y];show A (AC,e.set d (.I (a.l*w) (if w=a.l*w then f c else Dg (b*w) (f c) (a.f f))))=_;congr 5;split
  .rename_i R;have:a.l=1\/w=0:=by
    by_cases S:w=0;.grind
    .left;have:1*w=a.l*w:=by omega
     exact(Nat.mul_right_cancel Om this).s
   rcases this with I|p
   .have x:b=0:=by omega
    subst x;cases a<;>grind
   .have E:(f c).l=0:=by grind
    have H:((a.set b c).f f).l=0:=by rw[Mf j,p,Nat.mul_zero]
    grind
  .exact oB j u c
 .rcases n with⟨_,rfl⟩|⟨l,m,s,J,N,Q⟩;.grind
  .have:d=l:=by
    by_cases z:d=l
    .grind
    .exfalso;exact i.nb (by rw[s];exact EN P)
   subst this
   refine .j ⟨d,m,by grind,by grind,by rw[AN,Af B,Aed],by grind⟩
end
def Cn(b c:F):Prop:=∀a,As b a\/As c a
theorem Cn.symm{a b:F}(c:Cn a b):Cn b a:=λd=>(c d).symm
theorem Ku(a:F):Cn a .sn:=λb=>.j (Cg b)
theorem Cn.r{b c:F}(d:Cn b c){a:T}(e:¬As b a):As c a:=(d a).resolve_left e
theorem Cn.l{b c:F}(d:Cn b c){a:T}(e:¬As c a):As b a:=(d a).resolve_right e
theorem Cn.of{b c:F}(d:∀a,¬As b a->As c a):Cn b c:=λa=>by grind
theorem Aw.Cz{t:Type}{b:G}{d:F}{f:t->C _}{w:D}{i:C _}(h:Aw b d f w i){a:T}(c:¬As d a):Lv b a:=by
 rcases h with⟨rfl,_⟩|⟨e,j,rfl,_,_,k⟩;.exact BF (Cg a) c
 .by_cases g:e=a;.grind
  .exact BF (EN g) c
def BW(b:D->F)(c:D)(d:F):D->F:=λa=>if a=c then d else b a
theorem Ec(c:D->F)(a:D)(b:F):BW c a b a=b:=Af B
theorem CE{b:D->F}{c a:D}{e:F}(d:a≠c):BW b c e a=b a:=Ad d
def Hh(b c:D->F)(a:D):C F:=[b a,c a]
structure CY(i:G)(j:F)(e g:D->F)(b:C AE):Prop where
 o:Aw i j (Hh e g) 2 (List.range b.l)
 c:∀(a:D) h,b[a]? =A h->Aw i (e a) N.c 2 h.I
 w:∀(a:D) h,b[a]? =A h->Aw i (g a) BJ.c 2 h.AV
 dc:∀a d,a<b.l->d<b.l->a≠d->Cn (e a) (e d)
 dw:∀a d,a<b.l->d<b.l->a≠d->Cn (g a) (g d)
 dx:∀a d,a<b.l->d<b.l->Cn (e a) (g d)
 vc:∀a,a<b.l->Cn j (e a)
 vw:∀a,a<b.l->Cn j (g a)
def B8(e:F)(c g:D->F)(d:D)(b:T):Prop:=¬As e b\/∃a,a<d/\(¬As (c a) b\/¬As (g a) b)
theorem CY.nil(d:G)(g i:D->F):CY d .sn g i []where
 o:=Aw.sn d
 c:=λb h a=>by grind
 w:=λb h a=>by grind
 dc:=λb e a=>by grind
 dw:=λb e a=>by grind
 dx:=λb e a=>by grind
 vc:=λb a=>by grind
 vw:=λb a=>by grind
theorem CY.lv{d:G}{l:F}{e m:D->F}{i:C AE}(b:CY d l e m i){j:T}(a:B8 l e m i.l j):Lv d j:=by
 rcases a with a|⟨h,n,a⟩;.exact b.o.Cz a
 .let⟨k,g⟩:=Bb n
  rcases a with a|a;.exact(b.c h k g).Cz a
  .exact(b.w h k g).Cz a
theorem CY.Ar{i j:G}{p:F}{k q:D->F}{m:C _}(b:CY i p k q m)(l:∀a,Lv i a->B8 p k q m.l a->j.M a=i.M a/\Lv j a):CY j p k q m where
 o:=b.o.Ar λa g e=>l a g (.i e)
 c:=λh n d=>(b.c h n d).Ar λa g e=>l a g (.j ⟨h,(AdN.1 d).1,.i e⟩)
 w:=λh n d=>(b.w h n d).Ar λa g e=>l a g (.j ⟨h,(AdN.1 d).1,.j e⟩)
 dc:=b.dc
 dw:=b.dw
 dx:=b.dx
 vc:=b.vc
 vw:=b.vw
theorem CY.ext{a b:G}{g:F}{d h:D->F}{e:C _}(i:CY a g d h e)(j:AH a b):CY b g d h e:=i.Ar P
theorem OH(a c:D->F)(b:D):(Hh a c b).l=2:=rfl
theorem W5{c e d g:D->F}:∀b:C D,(∀a∈b,c a=d a/\e a=g a)->b.f (Hh c e)=b.f (Hh d g)
 |[],_=>rfl
 |j::b,h=>by rw[Aeh,Aeh,W5 b λa i=>h a (Aez _ i)];unfold Hh;grind
theorem Aw.pr{d:G}{h:F}{e i g j:D->F}{b:D}(c:Aw d h (Hh e i) 2 (List.range b))(m:∀a,a<b->e a=g a/\i a=j a):Aw d h (Hh g j) 2 (List.range b):=by
 rcases c with c|⟨k,l,n,o,p,q⟩;.exact .i c
 .exact .j ⟨k,l,n,o,by rw[p,W5 (List.range b) λa r=>m a (AeU.1 r)],q⟩
theorem CY.Es{l:G}{p i w:F}{v E:D->F}{b:C AE}{m:AE}(h:CY l p v E b)(xg:Aw l i N.c 2 m.I)(xh:Aw l w BJ.c 2 m.AV)(H:Cn i w)(xj:Cn p i)(xk:Cn p w)(M:∀a,a<b.l->Cn (v a) i/\Cn (E a) i/\Cn (v a) w/\Cn (E a) w)(xl:b.l<1000000):∃u s,(∀(U:F×G->R),((Dq 1 2 l.next [.S [i,w]]).b λxc=>(DN 2 48 (G.V l xc.1) [p,xc.2]).b U)=U (u,s))/\CY s u (BW v b.l i) (BW E b.l w) (b++[m])/\HD p l s/\(∀q,Lv l q->As p q->As u q):=by
 have xi:BU [i,w]=L:=by rw[DJ];simp[(Cr xg).2,(Cr xh).2]
 have Y:Hh (BW v b.l i) (BW E b.l w) b.l=[i,w]:=by unfold Hh;rw[Ec,Ec]
 obtain⟨u,s,xf,xb,X,V⟩:=FJ (w:=2) (o:=.S [i,w]) (h:=48) (λa=>B) (by rw[Y];grind) (by rw[Y];rfl) (h.o.pr λa g=>⟨(CE (by omega)).s,(CE (by omega)).s⟩) (DG (by grind));have xe:List.range b.l++[b.l]=List.range (b++[m]).l:=by rw[AdY,AeE,AeX]
 rw[xe]at xb;have Z:∀{t:Type}{f:t->C F}{n:D}{r:F}{J:C t},Aw l r f n J->Cn p r->Aw s r f n J:=λT H=>T.Ar λq I xd=>X q I (H.l xd);have W:∀{t:Type}{f:t->C F}{n:D}{r:F}{J:C t},Aw l r f n J->Cn p r->Cn u r:=λT H=>(Cn.of λq I=>V q (T.Cz I) (H.l I)).symm;have z:(b++[m]).l=b.l+1:=by simp
 have xn:∀a e,a<b.l->(b++[m])[a]? =A e->b[a]? =A e:=by grind
 have xa:∀a e,a<b.l+1->¬a<b.l->(b++[m])[a]? =A e->a=b.l/\e=m:=by grind
 refine⟨u,s,xf,?_,X,V⟩;have xm:∀a e,(b++[m])[a]? =A e->a<b.l+1:=by grind
 exact{
  o:=xb
  c:=λa e Q=>by
   by_cases g:a<b.l;.rw[CE (by omega)];exact Z (h.c a e P) (h.vc a g)
   .obtain⟨rfl,rfl⟩:=xa a e P g Q;rw[Ec];grind
  w:=λa e Q=>by
   by_cases g:a<b.l;.rw[CE (by omega)];exact Z (h.w a e P) (h.vw a g)
   .obtain⟨rfl,rfl⟩:=xa a e P g Q;rw[Ec];grind
  dc:=λa d g x n=>by
   rw[z]at g x;by_cases j:a<b.l
   .by_cases k:d<b.l;.rw[CE (by omega),CE (by omega)];exact h.dc a d j k n
    .have:d=b.l:=by omega
     subst this;rw[CE (by omega),Ec];grind
   .have:a=b.l:=by omega
    subst this;have k:d<b.l:=by omega
    rw[Ec,CE (by omega)];exact(M d k).1.symm
  dw:=λa d g x n=>by
   rw[z]at g x;by_cases j:a<b.l
   .by_cases k:d<b.l;.rw[CE (by omega),CE (by omega)];exact h.dw a d j k n
    .have:d=b.l:=by omega
     subst this;rw[CE (by omega),Ec];grind
   .have:a=b.l:=by omega
    subst this;have k:d<b.l:=by omega
    rw[Ec,CE (by omega)];exact(M d k).2.2.2.symm
  dx:=λa d g x=>by
   rw[z]at g x;by_cases j:a<b.l
   .by_cases k:d<b.l;.rw[CE (by omega),CE (by omega)];exact h.dx a d j k
    .have:d=b.l:=by omega
     subst this;rw[CE (by omega),Ec];grind
   .have:a=b.l:=by omega
    subst this;by_cases k:d<b.l;.rw[Ec,CE (by omega)];exact(M d k).2.1.symm
    .have:d=b.l:=by omega
     subst this;rw[Ec,Ec];grind
  vc:=λa g=>by
   rw[z]at g;by_cases j:a<b.l
   .let⟨e,S⟩:=Bb j
    rw[CE (by omega)];exact W (h.c a e S) (h.vc a j)
   .have:a=b.l:=by omega
    subst this;rw[Ec];grind
  vw:=λa g=>by
   rw[z]at g;by_cases j:a<b.l
   .let⟨e,S⟩:=Bb j
    rw[CE (by omega)];exact W (h.w a e S) (h.vw a j)
   .have:a=b.l:=by omega
    subst this;rw[Ec];grind}
theorem F9{b a:D}(c:a<b):(List.range b)[a]? =A a:=by grind
theorem CY.at{g:G}{j:F}{e b:D->F}{i:C _}(l:CY g j e b i){a:D}(k:a<i.l):∃d,AR 2 [j,.n a]=A (.p d (a*2))/\g.AL d (a*2) 2=A [e a,b a]/\g.Ap d (a*2)=A (e a)/\g.Ap d (a*2+1)=A (b a)/\At g j (Hh e b) 2 (List.range i.l) a a d:=by
 let⟨d,h⟩:=CD (f:=Hh _ b) (w:=2) (λ_=>B) l.o (F9 k)
 refine⟨d,h.ia,h.AL (OH e b) (F9 k),?_,?_,h⟩;.exact h.Ap (OH e b) P (b:=0) (by omega)
 .exact h.Ap (OH e b) P (b:=1) (by omega)
theorem CY.fz{e:G}{p:F}{j m:D->F}{l:C AE}(i:CY e p j m l):Fz 3 e p (Z AE.c l):=by
 have u:∀(h:C AE)(b:D),(∀(a:D) d,h[a]? =A d->Aw e (j (b+a)) N.c 2 d.I/\Aw e (m (b+a)) BJ.c 2 d.AV)->FN (λx y=>Cw 2 e (Hh j m x) (AE.c y)) (List.range' b h.l) h:=by
  intro h
  induction h with
  |nil=>intro b _;exact .nil
  |cons d z s=>
   intro b n;rw[Aec,List.range'_succ];let⟨q,r⟩:=n 0 d B
   refine .cons (Cw.cons (Fz.Cs (b:=N.c) (h:=2) (λ_=>B) (λ_=>B) q) (Cw.cons (Fz.Cs (b:=BJ.c) (h:=2) (λ_=>B) (λ_=>B) r) (Cw.nil _ _))) (s (b+1) λa v k=> ?_);have:=n (a+1) v (by grind);rwa[show b+(a+1)=b+1+a by omega]at this
 refine Fz.Rt (c:=Hh _ _) (d:=AE.c) (f:=2) (by omega) (λ_=>B) (λ_=>B) i.o ?_;rw[AfS];exact u l 0 λa d k=>by rw[Ad2];exact⟨i.c a d k,i.w a d k⟩
attribute [grind->] Aw.Cz Cn.r Cn.l CY.lv
variable{d:T}
def Gb{c:G}{b:D}{i a:C F}(g:c.M d=A (.I b i))(h:a.l=b)(f:BU a=L):AX b c [.p d 0,.S a]=A (AC,c.set d (.I b a)):=by show Aj (Aj (AW (Bq a) b) (BU a) Aa) (match c.Ep d 0 b a with|some e=>A (AC,e)|none=>O) O=_;rw[GK,h,Aee,f,Ki (by rw[g];rfl),Af (by omega),Af B];rfl
def TL{b:G}{c:T}{h:C F}{a:F}(f:b.M c=A (.I 1 h))(g:a.I=[a])(i:Fl a=L):AX 1 b [.p c 0,a]=A (AC,b.set c (.I 1 [a])):=by
 have d:BU [a]=L:=by rw[DJ];grind
 show Aj (Aj (AW (Bq a.I) 1) (BU a.I) Aa) (match b.Ep c 0 1 a.I with|some e=>A (AC,e)|none=>O) O=_;rw[g,Ki (by rw[f];rfl),d];rfl
variable{a:G}{c:D}
def BB{b:C _}(e:a.M d=A (.I c b)):a.AL d 0 c=A b:=by rw[D1 e,Af (by omega),Af B]
def th{b:C F}(e:a.M d=A (.I c b)):A9 c a [.p d 0]=A (.S b):=by rw[F5,BB e];rfl
def Mo{c:T}{b:D}{d:C F}(e:a.M c=A (.I b d)):Bv (.ld b) [.p c 0] a (.S d)=L:=by show KI (A9 b a [.p c 0]) _=L;rw[th e];exact L0 _
def Ij{c:T}{h b:D}{d:C F}{e:F}(f:a.M c=A (.I h d))(g:d[b]? =A e):Bv .Cq [.p c b] a e=L:=by show KI (a.Ap c b) _=L;rw[Ay f,g];exact L0 _
def Dx(b:G)(c:F):Prop:=∀a,Lv b a->As c a
def Dx.Kt{i:Type}{b c:F}{d:i->C _}{h:D}{f:C _}(e:Dx a c)(k:Aw a b d h f):Cn b c:=Cn.of λg j=>e g P
def ep{l:Type}{e:l->C F}{k:D}(r:∀j,(e j).l=c)(p:∀j,BU (e j)=L)(a:G)(h:C l)(q:h.l*k<=GA):∃g d,DN c k (a.V (.I 0 [])) [.Z a.next 0 0 1 c,Z e h]=A (g,d)/\Aw d g e c h/\AH a d/\Dx a g:=by
 obtain⟨g,d,i,s,t,n⟩:=Tt (a:=h) r p (Rw a e c) (by rw[Afw,Ad2];exact q);have o:∀b,Lv a b->As (.Z a.next 0 0 1 c) b:=λb f=>EN λi=>by subst i;exact EX a f
 have m:AH a (a.V (.I 0 [])):=AH.V _ _;refine⟨g,d,i,s,λb f=> ?_,λb f=>n b (m.lv f) (o b f)⟩;grind
def fT(c:G)(d:C N)(j:d.l<1000000):∃b a,W9 (pos 205) [Z N.c d] c=A (b,a)/\Aw a b N.c 2 d/\AH c a/\Dx c b:=by
 let⟨b,a,h,i,g,e⟩:=ep (e:=N.c) (c:=2) (k:=16) (λ_=>B) (λ_=>B) c d (DG (by omega))
 refine⟨b,a,AZ B B ?_,i,g,e⟩;rw[ss,H (NT 2 _),H h]
def EW(a:C AE):Prop:=a.l<=400/\∀b∈a,b.I.l<=100/\b.AV.l<=6000
def EW.at{b:C _}(c:EW b){d:D}{a:AE}(e:b[d]? =A a):a.I.l<=100/\a.AV.l<=6000:=c.2 a P
structure RW(i:C AE)(c:G)(d:T)(b:G)(e:F)(f h:D->F)(g:D):Prop where
 M:CY b e f h (i.t g)
 box:b.M d=A (.I 1 [e])
 MQ:Lv b d
 BO:∀a,Lv c a->a≠d->b.M a=c.M a/\Lv b a
 IC:∀a,Lv c a->¬B8 e f h g a
def E_{h:F}{f i:D->F}{g:D}:¬B8 h f i g d↔As h d/\∀a,a<g->As (f a) d/\As (i a) d:=by
 constructor;.intro b;refine⟨AdS λc=>b (.i c),λa e=>⟨AdS λc=>b (.j ⟨a,e,.i c⟩),AdS λc=>b (.j ⟨a,e,.j c⟩)⟩⟩
 .rintro⟨j,k⟩ (b|⟨a,e,b|b⟩)<;>grind
def RW.Dj{n:C AE}{o:G}{m i:G}{x g l:F}{v y:D->F}{w:AE}(a:RW n o d m x v y c)(S:n[c]? =A w)(Z:EW n)(xb:Lv o d)(u:AH m i)(xd:Aw i g N.c 2 w.I)(xe:Aw i l BJ.c 2 w.AV)(q:Dx m g)(r:Dx m l)(W:Cn g l):
  ∃e f,(∀(z:F×G->R),((Dq 1 2 i.next [.S [g,l]]).b λU=>(DN 2 48 (G.V i U.1) [x,U.2]).b z)=z (e,f))/\AX 1 f [.p d 0,e]=A (AC,f.set d (.I 1 [e]))/\
   RW n o d (f.set d (.I 1 [e])) e (BW v c g) (BW y c l) (c+1)/\HD x i f:=by
 have xh:=(AdN.1 S).1
 have I:(n.t c).l=c:=by grind
 let⟨e,f,xa,p,E,xf⟩:=(a.M.ext u).Es xd xe W (q.Kt a.M.o) (r.Kt a.M.o) (λk H=>by
  let⟨t,s⟩:=Bb H
  exact⟨q.Kt (a.M.c k t s),q.Kt (a.M.w k t s),r.Kt (a.M.c k t s),r.Kt (a.M.w k t s)⟩) (by rw[I];have:=Z.1;omega)
 rw[I,FL S]at p
 have X:=λb j=>E_.1 (a.IC b j)
 have xc:=u.lv a.MQ
 have V:=(X d xb).1
 have Y:∀b,Lv o b->¬B8 e (BW v c g) (BW y c l) (c+1) b:=λb j=>by
  have Q:Lv m b:=by
   by_cases h:b=d;.subst h;exact a.MQ
   .exact(a.BO b j h).2
  refine E_.2 ⟨P,λk H=> ?_⟩;by_cases h:k=c;.subst h;rw[Ec,Ec];exact⟨q b Q,r b Q⟩
  .rw[CE h,CE h];grind
 refine⟨e,f,xa,TL ((E.M xc V).t ((u.M a.MQ).t a.box)) (Cr p.o).1 (Cr p.o).2,?_,E⟩
 exact{
  M:=p.Ar λb j xi=>⟨by rw[AN,Ad];grind,by grind⟩
  box:=by rw[AN,Af B]
  MQ:=by grind
  BO:=λb j J=>by have xg:=a.BO b j J;exact⟨by rw[AN,Ad J];grind,by grind⟩
  IC:=Y}
def lO{k:C AE}{i:G}{h y c:T}(N:i.M h=A (.I 1 (Bp k)))(V:Lv i h)(W:Lv i c)(X:h≠c)(v:EW k){j:D}{d:AE}(n:k[j]? =A d){b:G}{q:F}{I Y:D->F}(a:RW k i c b q I Y j):∃r J xa u,jj W9 168 4 [.n j,.p h 0,.p c 0,.p y 0] b=jj W9 168 3 [.n j,.p h 0,.p c 0,.p y 0] u/\RW k i c u r J xa (j+1):=by
 have xe:=v.at n;have e:AH b (b.V (.I 2 (AE.c d))):=AH.V _ _;let⟨s,l,xf,o,g,M⟩:=fT (b.V (.I 2 (AE.c d))) d.I (by omega)
 have xb:(l.V (.I 0 [])).Ap b.next 1=A (Z BJ.c d.AV):=by rw[Ay (((AH.V l (.I 0 [])).M (g.lv P)).t ((g.M (E9 b _)).t (HM _ _)))];rfl
 let⟨z,R,xg,x,m,t⟩:=ep (e:=BJ.c) (c:=2) (k:=16) (λ_=>B) (λ_=>B) l d.AV (DG (by omega))
 have xc:Cb [.sn,.sn] [(0,1),(1,1)] [s,z]=A (.S [s,z]):=by rcases o with⟨rfl,_⟩|⟨_,_,rfl,_⟩<;>rcases x with⟨rfl,_⟩|⟨_,_,rfl,_⟩<;>rfl
 let⟨r,xd,U,xh,E,_⟩:=a.Dj n v W (e.AI (g.AI m)) (o.ext m) x (λp S=>M p P) (λp S=>t p P) (t.Kt o)
 refine⟨r,_,_,_,?_,E⟩;rw[SS.2.2.2.1];simp only[Q,QD,H (Ay ((a.BO h V X).1.t N) 0),H (M2 n),H (Ay ((e.M a.MQ).t a.box) 0),(Ij ((g.M (e.lv a.MQ)).t ((e.M a.MQ).t a.box)) B:Bv .Cq [.p c 0] l q=L),Lq,H (NT 2 _),(Ij (HM _ _) B:Bv .Cq [.p b.next 1] (b.V (.I 2 (AE.c d))) (Z BJ.c d.AV)=L),(Ij ((m.M (g.lv (e.lv a.MQ))).t ((g.M (e.lv a.MQ)).t ((e.M a.MQ).t a.box))) B:Bv .Cq [.p c 0] R q=L),U,ZR, *]
def Z_(a:C AE)(R:EW a)(e:G):∃l q t u,W9 (pos 168) [.S (Bp a)] e=A (.S [l],u)/\CY u l q t a/\AH e u/\∀h,Lv e h->¬B8 l q t a.l h:=by
 have xk:=R.1;generalize r:((e.V (.I 1 (Bp a))).V (.I 1 [.sn])).V (.I 1 [.sn])=c;have W:AH e c:=by rw[<-r];exact(AH.V _ _).AI ((AH.V _ _).AI (AH.V _ _))
 generalize xd:e.next=j;generalize S:(e.V (.I 1 (Bp a))).next=f
 generalize n:((e.V (.I 1 (Bp a))).V (.I 1 [.sn])).next=k
 have z:Lv (e.V (.I 1 (Bp a))) j:=by grind
 have E:Lv ((e.V (.I 1 (Bp a))).V (.I 1 [.sn])) f:=by grind
 have x:Lv c j:=by rw[<-r];exact(z.V _).V _
 have U:Lv c f:=by grind
 have V:Lv c k:=by grind
 have y:j≠k:=λb=>by rw[<-n]at b;have:=z.V (.I 1 [.sn]);rw[b]at this;exact EX _ this
 have w:c.M j=A (.I 1 (Bp a)):=by grind
 have xa:c.M f=A (.I 1 [.sn]):=by grind
 have J:c.M k=A (.I 1 [.sn]):=by grind
 obtain⟨⟨l,q,t⟩,d,b,g⟩:=Dh (f:=λo p d=>jj W9 168 2 [.p j 0,.n o,.p k 0,.p f 0] d) (g:=λo p d=>RW a c k d p.1 p.2.1 p.2.2 o)
  (λo p d N g=>by obtain⟨xl,xe⟩:=Bb N;obtain⟨xh,Z,xi,xb,b,X⟩:=lO (y:=f) w x V y R xe g;refine⟨(xh,Z,xi),xb,?_,X⟩;rw[SS.2.2.1];simp only[Q,QT,H (Ay ((g.BO j x y).1.t w) 0),(Cm N),b,SS.2.2.2.2,H (Bh (a:=o) (by omega))])
  (b:=(.sn,λ_=>.sn,λ_=>.sn)) ({
  M:=CY.nil _ _ _,box:=J,MQ:=V,BO:=λh m _=>⟨B,m⟩
  IC:=λh _=>E_.2 ⟨Cg h,Om⟩})
 have b:jj W9 168 2 [.p j 0,.n 0,.p k 0,.p f 0] c=jj W9 168 2 [.p j 0,.n a.l,.p k 0,.p f 0] d:=b;have v:=g.M;rw[Gz]at v;have Y:BU [l]=L:=by rw[DJ];simp[(Cr v.o).2]
 refine⟨l,q,t,d.set f (.I 1 [l]),AZ B B ?_,v.Ar λh m xc=>⟨by rw[AN,Ad (λb=>by subst b;exact g.IC _ U xc)],by grind⟩,λh m=> ?_,λh m=>g.IC h (W.lv m)⟩
 .have xj:∀(d:G) T,bl (.p d.next 0) (d.V (.I (Bq (F.I (.S (Bp a)))) (F.I (.S (Bp a))))) T=T (.p d.next 0) (d.V (.I 1 (Bp a))):=λ_ _=>B;have xf:AX 1 c [.p k 0,.S [.sn]]=A (AC,c):=by
   have xg:c.set k (.I 1 [.sn])=c:=by rw[<-r,<-n,VN]
   rw[Gb J B B,xg]
  rw[SS.1,xj];simp only[↓Q,↓H (B:Cb [.sn] [] []=A (.S [.sn])),xd,S,n,r];rw[H xf,b,SS.2.2.1];simp only[Q,QT,AdM,H (Ay ((g.BO j x y).1.t w) 0),(CA a.l),SS.2.1,H (BB g.box),H (Gb ((g.BO f U (λb=>by rw[<-n]at b;rw[b]at E;exact EX _ E)).1.t xa) B Y),H (BB (by rw[AN,Af B]):(d.set f (.I 1 [l])).AL f 0 1=A [l])]
 .have:=g.BO h P (λb=>by subst b;have:=((AH.V e (.I 1 (Bp a))).AI (AH.V _ (.I 1 [.sn]))).lv m;rw[<-n]at this;exact EX _ this);exact⟨by rw[AN,Ad (λb=>by subst b;have:=(AH.V e (.I 1 (Bp a))).lv m;rw[<-S]at this;exact EX _ this)];grind,by grind⟩
def Sb(a:C AE)(b:K):K:=match Iq a b with|some c=>c.I.l|none=>0
def G0(c:C AE)(b a:N):Ah:=Ao (b.Ak=4)&&(Ao (a.Ak=1)&&BK a.n 0 (Sb c b.n-1))
def Kd(b:C AE)(a:N):Prop:=a.Ak=4->∃c,Iq b a.n=A c
def GS(b:C AE):∀(a:G) c,bl (.p a.next 0) (a.V (.I (Bq (F.I (.S (Bp b)))) (F.I (.S (Bp b))))) c=c (.p a.next 0) (a.V (.I 1 (Bp b))):=λ_ _=>B
theorem h2(b:C _)(a:F->R):((Bp b)[0]?).b a=a (Z AE.c b):=rfl
def fK(d:C AE)(n:EW d)(e g:N)(o:Kd d e):AY 171 [.S (Bp d),.S (N.c e),.S (N.c g)] (.b (G0 d e g)):=Bu B B B (by
 unfold G0;rw[si];by_cases c:e.Ak=4
 .by_cases h:g.Ak=1
  .let⟨f,p⟩:=o c
   let⟨r,l,j⟩:=Mt p
   have q:=(n.at j).1;have m:Sb d e.n=f.I.l:=by unfold Sb;grind
   have i:=Lz g.n 0 (f.I.l-1);rw[m];generalize BK _ 0 (f.I.l-1)=s at i⊢;have k:(AR 2 [Z AE.c d,.n e.n])=A (.pi (AE.c f)):=by rw[l];exact M2 j
   simp only[GS,Q,QD,QT,c,h,h2,H k,H (FA (a:=f.I.l) (b:=1) (by omega) (by omega)),i.H B,QS];exact⟨_,B⟩
  .rw[A0 c];simp only[Q,QD,QT,AdM,c,h];exact⟨_,B⟩
 .rw[A2 c];simp only[Q,QD,QT,AdM,c];exact⟨_,B⟩)
def BH:C AE->D
 |[]=>0
 |a::b=>a.AV.l+BH b
def Ya{d:C _}{e:AE}(f:d[c]? =A e):BH (d.t (c+1))=BH (d.t c)+e.AV.l:=by
 rw[<-FL f];have:∀a b,BH (a++b)=BH a+BH b:=by
  intro a b
  induction a with
  |nil=>simp[BH]
  |cons i h g=>simp[BH,g,AeM]
 rw[this];simp[BH]
def jh{a:C _}(b:∀d∈a,d.AV.l<=6000):BH a<=a.l*6000:=by
 induction a with
 |nil=>simp[BH]
 |cons e h c=>have f:=b e P;have g:=c P;rw[Aec];unfold BH;omega
def pp(c:C AE)(l:EW c):AY 172 [.S (Bp c)] (.n (BH c)):=Bu B B B (by
 have u:=l.1;have o:(G.Aq.V (.I 1 (Bp c))).M .h=A (.I 1 (Bp c)):=B;have s:G.Aq.next=.h:=B;generalize r:G.Aq.V (.I 1 (Bp c))=q at o;have n:=Ay o 0;obtain⟨e,d,k,rfl,f⟩:=Dh (f:=λg (e:D) d=>jj W9 172 2 [.p .h 0,.n g,.n e] d) (g:=λg e d=>d=q/\e=BH (c.t g))
  (λg e d p f=>by
   obtain⟨rfl,f⟩:=f;obtain⟨j,h⟩:=Bb p;have v:=(l.at h).2;have t:e<=g*6000:=by rw[f];have:=jh (a:=c.t g) (λj h=>(l.2 j P).2);grind
   refine⟨e+j.AV.l,d,?_,B,by rw[Ya h,f]⟩;rw[SU.2.2.1];simp only[Q,QD,QT,H n,(Cm p),SU.2.2.2.1,H (M2 h),H (F2 (a:=e) (b:=j.AV.l) (by omega) (by omega)),SU.2.2.2.2,H (Bh (a:=g) (by omega)),AfD])
  ⟨B,B⟩
 rw[Gz]at f;subst f;have k:jj W9 172 2 [.p .h 0,.n 0,.n 0] d=jj W9 172 2 [.p .h 0,.n c.l,.n (BH c)] d:=k;refine⟨d,?_⟩;rw[SU.1];simp only[↓GS,r,s];rw[k,SU.2.2.1];simp only[Q,QT,AdM,H n,(CA c.l),SU.2.1])
def Er(a:C AE)(b:N):C AE×N×K:=
 if b.Ak=5 then(a,b,0)
 else if b.Ak≠1 then(a,Ed 5,0)
 else if BK b.n 0 100=Aa then(a,Ed 4,0)
 else if a.l=400 then(a,AO,5)
 else(a++[⟨BG b.n.n AO,[]⟩],JJ a.l,0)
def Sm{c:G}{b:T}{k l a:C F}(h:c.M b=A (.I 1 k))(i:c.M d=A (.I 2 l))(j:b≠d)(g:a.l=1)(f:BU a=L)(e:N):AX 1 c [.p b 0,.S a]=A (AC,c.set b (.I 1 a))/\AX 2 (c.set b (.I 1 a)) [.p d 0,.S (N.c e)]=A (AC,(c.set b (.I 1 a)).set d (.I 2 (N.c e)))/\((c.set b (.I 1 a)).set d (.I 2 (N.c e))).AL b 0 1=A a/\((c.set b (.I 1 a)).set d (.I 2 (N.c e))).AL d 0 2=A (N.c e):=by refine⟨Gb h g f,Gb (by rw[AN,Ad P];exact i) B B,BB ?_,BB (by rw[AN,Af B])⟩;rw[AN,Ad j,AN,Af B]
def wy(a:D):F_ [.i .u8 0,.n 0] a=(BG a AO).f N.c:=by
 induction a with
 |zero=>rfl
 |succ a b=>show Es [.i .u8 0,.n 0] (F_ [.i .u8 0,.n 0] a)=_;rw[b,Ae4,Aeh];rfl
def Ti(b:T)(a:D)(c:a<=1000000):Gd [(.i .u8 0),(.n 0)] 2 16 b [.n a,.n a]=A (.I (a*2) ((BG a AO).f N.c),.Z b 0 a (a+1) 2):=by show Aj _ _ O=_;rw[(AdX Om),(AdX (by show a*16<=100000000000;omega)),wy];rfl
def Tu(b:G)(a:D):Aw (b.V (.I (a*2) ((BG a AO).f N.c))) (.Z b.next 0 a (a+1) 2) N.c 2 (BG a AO):=by refine .j ⟨b.next,a+1,by grind,P,by grind,P⟩
def wM(b:C AE)(xj:EW b)(c:D)(xN:c<=100)(xO:b.l≠400){I J n o:T}{d:G}(xf:d.M I=A (.I 1 (Bp b)))(xt:d.M J=A (.I 2 (N.c (EA c))))(xu:d.M n=A (.I 1 [.sn]))(xv:d.M o=A (.I 2 [.i .u8 0,.n 0]))(xD:Lv d I)(xl:Lv d J)(xE:Lv d n)(xF:Lv d o)(xG:n≠o):∃e t y xh,jj W9 113 1 [.p J 0,.p I 0,.p n 0,.p o 0] d=A (.AB [.S [e],.S (N.c (JJ b.l)),.n 0],xh)/\CY xh e t y (b++[⟨BG c AO,[]⟩]):=by
 have xP:=xj.1;let⟨x,t,y,h,xr,k,xa,xe⟩:=Z_ b xj d
 have xp:BU [x]=L:=by rw[DJ];simp[(Cr k.o).2]
 have Z:AX 1 (h.V (.I 1 [.sn])) [.p h.next 0,.S [x]]=A (AC,h.V (.I 1 [x])):=ET B xp;generalize xx:h.V (.I 1 [x])=f at Z;have p:AH h f:=by rw[<-xx];exact AH.V _ _
 have W:f.M h.next=A (.I 1 [x]):=by grind
 have E:Lv f h.next:=by grind
 generalize xk:h.next=l at Z W E;have X:¬Lv h l:=by rw[<-xk];exact EX _
 have xH:f.Ap J 1=A (.n c):=Ay ((p.M (xa.lv xl)).t ((xa.M xl).t xt)) 1;have xm:=Ti f.next c (by omega);have Y:=Tu f c;generalize xi:f.V (.I (c*2) ((BG c AO).f N.c))=R at Y;have M:AH f R:=by rw[<-xi];exact AH.V _ _
 have m:Dx f (.Z f.next 0 c (c+1) 2):=λa i=>EN λg=>by subst g;exact EX _ i
 generalize xz:F.Z f.next 0 c (c+1) 2=q at xm Y m;have xs:Cb [.sn,.sn] [(0,1)] [q]=A (.S [q,.sn]):=by rw[<-xz];rfl
 let⟨e,S,xC,U,xd,xo⟩:=(k.ext (p.AI M)).Es (m:=⟨BG c AO,[]⟩) Y (Aw.sn _) (Ku _) (m.Kt (k.ext p).o) (Ku _) (λj u=>by
  let⟨w,v⟩:=Bb u
  exact⟨m.Kt ((k.ext p).c j w v),m.Kt ((k.ext p).w j w v),Ku _,Ku _⟩) (by omega)
 have xI:=AdS λr=>X (k.o.Cz r);have xn:=TL ((xd.M (M.lv E) xI).t ((M.M E).t W)) (Cr U.o).1 (Cr U.o).2;have xb:∀a,Lv d a->Lv R a/\R.M a=d.M a:=by grind
 have z:∀a,Lv d a->(S.set l (.I 1 [e])).M a=d.M a:=λa i=>by rw[AN,Ad P,xd.M P (E_.1 (xe a i)).1,(xb a i).2]
 have xQ:∀a,Lv d a->¬B8 e (BW t b.l q) (BW y b.l .sn) (b++[(⟨BG c AO,[]⟩:AE)]).l a:=λa i=>by
  have xw:=E_.1 (xe a i);refine E_.2 ⟨xo a (xb a i).1 xw.1,λj u=> ?_⟩;rw[AdY,AeE]at u;by_cases g:j=b.l;.subst g;rw[Ec,Ec];exact⟨m a P,Cg a⟩
  .rw[CE g,CE g];grind
 have xR:¬B8 e (BW t b.l q) (BW y b.l .sn) (b++[(⟨BG c AO,[]⟩:AE)]).l l:=by
  refine E_.2 ⟨P,λj u=> ?_⟩;rw[AdY,AeE]at u;by_cases g:j=b.l;.subst g;rw[Ec,Ec];exact⟨m l E,Cg _⟩
  .have xA:j<b.l:=by omega
   let⟨w,v⟩:=Bb xA
   rw[CE g,CE g];exact⟨AdS λr=>X ((k.c j w v).Cz r),AdS λr=>X ((k.w j w v).Cz r)⟩
 have V:CY (S.set l (.I 1 [e])) e (BW t b.l q) (BW y b.l .sn) (b++[⟨BG c AO,[]⟩]):=U.Ar λa i xB=>⟨by rw[AN,Ad (λg=>by grind)],by grind⟩;generalize xy:S.set l (.I 1 [e])=xc at xn z V;have xg:xc.M l=A (.I 1 [e]):=by rw[<-xy,AN,Af B]
 have xq:BU [e]=L:=by rw[DJ];simp[(Cr V.o).2]
 let⟨xJ,xK,xL,xM⟩:=Sm ((z n xE).t xu) ((z o xF).t xv) xG B xq (JJ b.l)
 refine⟨e,_,_,(xc.set n (.I 1 [e])).set o (.I 2 (N.c (JJ b.l))),?_,V.Ar λa i xB=>⟨?_,by grind⟩⟩;.rw[SP.2];simp only[Q,H (BB xf),H xr,xk,H Z,H (Ay W 0),H xH,H xm,xi,H xs,xC,H xn,H (BB xg),H (Ay ((z I xD).t xf) 0),(fI b.l).H B,(Mo xg),Lq,H xJ,H xK,H xL,H xM]
 .rw[AN,Ad P,AN,Ad P]
