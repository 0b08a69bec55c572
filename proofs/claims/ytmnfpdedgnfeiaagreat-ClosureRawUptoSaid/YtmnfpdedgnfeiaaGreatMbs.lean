/- Part of the proof. -/
import Derived.ChangeArms
import Derived.ProofKit
import Derived.RowKit3
import Derived.ChangeStays
import Derived.ChangeOld
import Derived.Test.YtmnfpdedgnfeiaaGreatRows
import Derived.WalkKit
import Derived.OpenShut
import Derived.JoinedCond
import Derived.Test.YtmnfpdedgnfeiaaGreatMbm
set_option linter.all false
noncomputable section
open Option renaming some->A,none->O,getD->Option.g,bind->Option.b
open _root_ renaming rfl->B,List->C,Nat->D,Int->K,if_neg->Ad,if_pos->Af,Option->Aj,Bool->Ak,cond->An,absurd->A_,Array->Br
open Bool renaming true->L,false->Ac
open Decidable renaming decide->Au
open Go renaming Value->Bl,World->BH,TypeId->B9
open Nat renaming ble->Co,le_refl->C6
open List renaming length->List.l,map->List.m,take->List.t,drop->List.d
open Go.IntKind renaming i64->Go.IntKind.n
open Array renaming toList->Array.l,size->Array.z
open Eq renaming trans->Eq.t,symm->Eq.s
open Or renaming inl->Or.i
open Int renaming toNat->Int.n
namespace Go.Proofs.YtmnfpdedgnfeiaaGreat
open Go.Fg
abbrev PE:=F×C Bc
def VC(a:PE):C F:=[a.1]
def T4(a:C Bc):C F:=[Z Bc.c a]
structure PI(e:G)(d:F)(c:G)(b:C PE):Prop where
 CC:AF c d VC 1 b
 ro:∀a∈b,AF c a.1 Bc.c 2 a.2
 I6:∀a∈b,∀f,¬AE a.1 f->AE d f
 E:AR e c
 fu:EV e d
def PI.add{u q:G}{n b:F}{k:C PE}{i:C Bc}{g:G}(e:PI u n q k)(v:AF g b Bc.c 2 i)(p:AR q g)(M:EV q b)(U:k.l<1000000):∃o l,(∀(s:F×G->R),((CB 1 1 g.next [b]).b λa=>(Eo 1 24 (G.V g a.1) [n,a.2]).b s)=s (o,l))/\PI u o l (k++[(b,i)]):=by
 have N:Ct (VC (b,i))=L:=by unfold VC;rw[EC];simp[(CS v).2]
 let⟨o,l,Q,S,t,H⟩:=GS (f:=VC) (w:=1) (b:=((b,i))) (o:=b) (h:=24) (λ_=>B) N (CS v).1 (e.CC.ext p) (EI (by omega))
 have V:∀a,¬AE b a->AE n a:=λa m=>Aih λz=>m (M a (e.CC.Dh z));have I:∀c∈k++[((b,i))],AF g c.1 Bc.c 2 c.2/\(∀a,¬AE c.1 a->AE n a):=λc d=>by
  rcases AiM.1 d with d|d;.exact⟨(e.ro c d).ext p,e.I6 c d⟩
  .grind
 have r:=e.E.AQ p;refine⟨o,l,Q,S,λc d=> ?_,λc d a m=> ?_,λj h=> ?_,λj h=> ?_⟩
 .let⟨T,J⟩:=I c d
  exact T.Av λa P m=>t a P (J a m)
 .grind
 .have:=t j (r.lv h) (e.fu j h);grind
 .exact H j (r.lv h) (e.fu j h)
def PI.fs{i c:G}{h:F}{a:C _}(b:PI i h c a):Fs (λ_=>True) 4 c h (YtmnfpdedgnfeiaaGreat.Z T4 (a.m (·.2))):=by
 refine Fs.SL (c:=3) (d:=VC) (e:=T4) (λ_ _=>Ais) (by omega) (λ_=>B) (λ_=>B) b.CC ?_
 have e:=b.ro
 clear b
 induction a with
 |nil=>exact .nil
 |cons l n k=>refine .cons ?_ (k λm j=>e m (Ai1 _ j));have:=Fs.CC (t:=λ_=>True) (a:=Bc.c) (g:=2) (λ_ _=>Ais) (λ_=>B) (λ_=>B) (e l (Ai0 ..));exact B6.cons (this.up (by omega)) (B6.nil 3 c)
def WT(a:Ah):C (C Bc):=(List.range a.T.l).m (G6 a)
def UN(a:Ah×K):C (C Bc):=if a.2≠0 then[]else WT a.1
def uk{t:C Ab}(xD:CA t){l X V:D}(xE:l=400)(f:AS)(xy:f.l.l<=2000000)(xz:El f.l<=100000000){b:Ah×K}(z:F7 t l X V f=A b):A2 26 [Z Ab.c t,.S (AS.c f)] (.AC [Z T4 (UN b),.n b.2]):=by
 have xr:∀g:CW,g.l=t->Lx g->P4 g l (λd=>Bj t/\GI t d):=λg U xp=>by
  subst U;have r:=λxb=>em (c:=g) xb l;exact{
   OE:=λd a=>(r a.1).OE d a.2
   Ay:=λd a=>(r a.1).Ay d a.2
   round:=λd a=>(r a.1).round d a.2
   KI:=λd a=>(r a.1).KI d a.2
   QL:=λd a=>(r a.1).QL d a.2
   C0:=λd X b a xF m o=>⟨a.1,(r a.1).C0 d X b a.2 xF m o⟩}
 let⟨xi,o,xG,xC,xU,xx,x4,x5⟩:=box G.Az (.I 2 (AS.c f))
 have xT:∀(a:F->G->R),bl (.p G.Az.next 0) (G.Az.V (.I (BK (F.I (.S (AS.c f)))) (F.I (.S (AS.c f))))) a=a (.p xi 0) o:=Em G.Az (.I 2 (AS.c f)) xG xC;have xO:o.AU xi 0 2=A (AS.c f):=B2 xx;let⟨x9,k,xg,xW,xV,xq⟩:=ck xD xE f xy xz xr (λb z o=>by let⟨j,a⟩:=NN (λm=>GU m) z o;exact⟨GU j,a⟩) z o (g:=λ_=>False) (λ_ xf=>xf.elim)
 have xj:∀w x:F,Ca 0 [.AC [w,x]]=A w:=λ_ _=>B;have xk:∀w x:F,Ca 1 [.AC [w,x]]=A x:=λ_ _=>B;by_cases j:b.2=0
 .obtain⟨g,U,rfl,xp,xn⟩:=xq j;subst U;let⟨xb,a⟩:=Yu (λm=>GU m) z j
  have xc:=a.X.W.sh;have x2:=xc.AX;let⟨x6,x7,xR,P,xf,x1⟩:=xn
  have xS:k.AA g.x 2=A xR.cv:=AJ P.N 2;have xh:=C4 P.T;rw[Aip]at xh;let⟨⟨Y,E⟩,v,T,M,l⟩:=Ez (h:=b.1.T.l) (f:=λp q m=>jj W9 26 2 [.n b.1.T.l,.p g.x 0,.n p,q.2] m)
   (g:=λp q y=>PI k q.2 y q.1/\q.1.m (·.2)=(List.range p).m (G6 b.1))
   (λp q y xe u=>by
    let⟨J,x8⟩:=q
    let⟨u,N⟩:=u
    simp only[]at u N⊢;let⟨j,xB⟩:=Bo xe
    have xX:=Dx xe;let⟨xM,xY,x3,xJ,xl,xv⟩:=cr (P.ext u.E) xc xB
    have x0:J.l=p:=by have:=Aij List.length N;rw[Aiw,Aiw,Aip]at this;grind
    let⟨xQ,xA,W,xo⟩:=u.add xJ xl xv (by omega)
    refine⟨(J++[(xM,G6 b.1 p)],xQ),xA,?_,xo,by show(J++[_]).m _=_;rw[AiZ,N,Ajw,AiZ];rfl⟩;show jj W9 26 2 _ _=jj W9 26 2 _ _;rw[Qu.2.2.2.1];simp only[QY,Qu.2.2.2.2.1,Qu.2.2.2.2.2,H (BF (a:=p) (by omega)), *])
   (b:=([],.sn)) (a:=k) ⟨⟨AF.sn k,λf xH=>(by grind),λf xH=>(by grind),AR.refl k,λxN _=>CM xN⟩,B⟩
  have T:jj W9 26 2 [.n b.1.T.l,.p g.x 0,.n 0,.sn] k=jj W9 26 2 [.n b.1.T.l,.p g.x 0,.n b.1.T.l,E] v:=T;have M:PI k E v Y:=M;have l:Y.m (·.2)=WT b.1:=l;have xs:=Dz b.1.T.l;have xw:Fs (λ_=>True) 6 v (.AC [E,.n 0]) (.AC [Z T4 (WT b.1),.n 0]):=by
   intro W xa xL;have xd:=M.fs;rw[l]at xd;let⟨xm,xt,xK⟩:=(B6.cons (xd.up (b:=5) (by omega)) (B6.cons ((Fs.im (t:=λ_=>True) (c:=v) (a:=.n 0) B).up (by omega)) (B6.nil 5 _))) W xa xL
   refine⟨xm,?_,xK⟩;show(match Df (DI (W+5)) xa [E,.n 0]with|some (xI,y)=>A (F.AC xI,y)|none=>O)=_;rw[xt]
  let⟨xZ,xu,_⟩:=xw 34 _ (F2.refl _)
  unfold UN;rw[Ad (λV=>V j)];rw[j];rw[j]at xg;refine FN B B (c:=v) ?_ xu;rw[Qu.1];simp only[↓xT,↓Q,↓QT,↓H xO,↓H xg,↓H (xj _ _),↓H (xk _ _),Qu.2.1,↓H xS,↓H xh];rw[T,Qu.2.2.2.1];simp only[↓Q,↓QT,Aic,xs,Qu.2.2.1]
 .have xP:UN b=[]:=by unfold UN;rw[Af j]
  rw[xP];refine FN B B (e:=.AC [.sn,.n b.2]) (c:=k) ?_ (h:=k) B;rw[Qu.1];simp only[QY,H (xj _ _),H (xk _ _), *]
def Qh(e:Aa->C F->Aj F):Bh:=λd b c=>match F9 c b with
 |some a=>(match e d a.1 with|some f=>A (f,a.2)|none=>O)
 |none=>O
def qz{f:Aa->C F->Aj F}(j:∀c b e,f c b=A e->∃d,c=Ar d/\A2 d b e):EP (Qh f) W9:=λc b h e a=>by
 unfold Qh at a;split at a
 .rename_i m k;split at a
  .rename_i o l;cases a
   obtain⟨d,rfl,g⟩:=j _ _ _ l;obtain⟨n,i⟩:=m;exact g h b i k
  .cases a
 .cases a
def qm{a:D}(w:LO a)(u:KJ (Ar a)=Ac){h:Bh}(t:EP h W9){d:C F}{e r:G}{f g:F}(l:xx h a d G.Az=A (f,e))(v:Dq e f=A (g,r)):A2 a d g:=λj i k s=>by
 obtain⟨q,n,o,p,x,_⟩:=WJ (Lj w);have m:Q7 h q d G.Az=A (f,e):=by rw[Z4 p,<-o];exact l
 obtain⟨c,b⟩:=Z5 m;have b:=a6 t (C6 c) b;show W (λ_ _=>O) KJ (Jm P9) (Ar a) i j=A (g,k);refine S5 (c:=c) ?_;unfold JV;rw[u];show Iv (λ_ _=>O) (Ht (Jm P9) c W9) (Ar a) i j=A (g,k);unfold Iv;have b:Ht (Jm P9) c W9 (Ar a) d G.Az=A (f,e):=by unfold Ht;rw[n];exact b
 rw[s];simp only[b,v]
variable{c:D}
def R6(m:LO c)(k:KJ (Ar c)=Ac){h:Aa->C F->Aj F}(l:∀c i d,h c i=A d->∃j,c=Ar j/\A2 j i d){e:C F}{d:F}(a:((xx (Qh h) c e G.Az).b λb=>Dq b.2 b.1).map (·.1)=A d):A2 c e d:=by
 cases f:xx (Qh h) c e G.Az with
 |none=>rw[f]at a;cases a
 |some b=>
  rw[f]at a
  have a:(Dq b.2 b.1).map (·.1)=A d:=a
  cases g:Dq b.2 b.1 with
  |none=>rw[g]at a;cases a
  |some n=>
   rw[g]at a;cases a
   exact qm m k (qz l) (f:=b.1) (e:=b.2) f (r:=n.2) g
def iz(a:K):A2 48 [.i .n a] (.S [.i .n (-1),.i .n a]):=BP B B B ⟨_,by rw[wH];rfl⟩
def iA(a:K):A2 49 [.i .n a] (.S [.i .n a,.i .n 0]):=BP B B B ⟨_,by rw[wI];rfl⟩
def iB(d:K)(c:C D)(a:K)(b:C (C F)):A2 50 [.i .u8 d,.s c,.i .n a,.CZ b] (.S [.i .u8 d,.s c,.i .n a,.CZ b]):=BP B B B ⟨_,by rw[wJ];rfl⟩
def SQ:Aa->C F->Aj F:=λa c=>match c with
 |[.i .n b]=>An (Aa.eq a (Ar 48)) (A (.S [.i .n (-1),.i .n b])) (An (Aa.eq a (Ar 49)) (A (.S [.i .n b,.i .n 0])) O)
 |[.i .u8 g,.s f,.i .n d,.CZ e]=>An (Aa.eq a (Ar 50)) (A (.S [.i .u8 g,.s f,.i .n d,.CZ e])) O
 |_=>O
def Acq:∀c e g,SQ c e=A g->∃d,c=Ar d/\A2 d e g:=λc e g a=>by
 unfold SQ at a;split at a
 .rename_i d
  cases b:Aa.eq c (Ar 48)with
  |true=>rw[b]at a;cases a;exact⟨48,Aa.LH b,iz d⟩
  |false=>
   rw[b]at a
   cases f:Aa.eq c (Ar 49)with
   |true=>rw[f]at a;cases a;exact⟨49,Aa.LH f,iA d⟩
   |false=>rw[f]at a;cases a
 .rename_i k j h i
  cases b:Aa.eq c (Ar 50)with
  |true=>rw[b]at a;cases a;exact⟨50,Aa.LH b,iB k j h i⟩
  |false=>rw[b]at a;cases a
 .cases a
def pw(a:K):AH:=⟨-1,a⟩
def nw(a:K):AH:=⟨a,0⟩
def PD:Ab:=⟨[109,97,105,110],2,[⟨1,[],0,[pw 0]⟩,⟨12,[],0,[pw 1,nw 0]⟩,⟨1,[],1,[pw 0]⟩,⟨9,[109,97,105,110,46,48],0,[pw 0,nw 1,nw 2]⟩],[],[nw 3]⟩
def d3:Ab:=⟨[109,97,105,110,46,48],3,[⟨1,[],0,[pw 0]⟩,⟨4,[108,116],0,[nw 0,pw 1]⟩,⟨5,[],0,[nw 1,pw 0]⟩,⟨5,[],0,[nw 1,pw 1]⟩,⟨5,[],0,[nw 1,pw 2]⟩,⟨1,[],1,[nw 2]⟩,⟨4,[115,117,98],0,[nw 3,nw 5]⟩,⟨4,[97,100,100],0,[nw 4,nw 4]⟩],[nw 2,nw 6,nw 7],[⟨4,1⟩]⟩
def DF:C Ab:=[PD,d3]
def tG:A2 16 [] (Z Ab.c DF):=R6 B B Acq (by kernel_rfl)
def LK:AS:=⟨[[2]],[L]⟩
def YY:AS:=⟨[[0]],[L]⟩
def YZ:AS:=⟨[[]],[Ac]⟩
def L3(b:C Ab)(a:Ah):Cr×K×D×D×K×C Cc:=(GN a.Ae (HA b a),a.Aq,a.T.l,a.Ae.l,a.round,Kt b a a.T.l)
def k4{g:C Ab}{e:Ah}{i:C M}{d:C (C M)}{f h:K}{b:D}(a:L3 g e=(⟨i,d⟩,f,b,c,h,[])):Ec g e=⟨i,d,f,b,c,h,[]⟩:=by unfold L3 at a;simp only[Aj2]at a;obtain⟨j,k,l,m,n,o⟩:=a;unfold Ec L7;rw[o,j,k,l,m,n];unfold Xf;simp
def AdW{c:C Ab}{i j d:D}{m:AS}{l:C M}{g:C (C M)}{h k:K}{e f:D}(b:(F7 c i j d m).map (λa=>(a.2,L3 c a.1))=A (0,⟨l,g⟩,h,e,f,k,[])):∃a,F7 c i j d m=A a/\Cj c a=(⟨l,g,h,e,f,k,[]⟩,0):=by
 cases p:F7 c i j d m with
 |none=>rw[p]at b;cases b
 |some a=>rw[p]at b;have b:A (a.2,L3 c a.1)=A (0,⟨l,g⟩,h,e,f,k,[]):=b;simp only[Akb]at b;have n:=Aij (·.1) b;have o:=Aij (·.2) b;simp only[]at n o;refine⟨a,B,?_⟩;unfold Cj;rw[Ad (λd=>d n),k4 o]
def rD:(F7 DF 400 2000001 6001 LK).map (λa=>(a.2,L3 DF a.1))=A (0,⟨[⟨1,4⟩],[]⟩,25,4,1,12,[]):=by kernel_rfl
def rC:(F7 DF 400 2000001 6001 YY).map (λa=>(a.2,L3 DF a.1))=A (0,⟨[⟨1,1⟩],[]⟩,9,2,1,4,[]):=by kernel_rfl
def rK:(F7 DF 400 2000001 6001 YZ).map (λa=>(a.2,L3 DF a.1))=A (0,⟨[⟨0,0⟩],[]⟩,4,2,0,2,[]):=by kernel_rfl
def UP:C K:=[1,3,2,5,0,7]
def Xh:C A8:=[⟨0,2⟩,⟨0,3⟩,⟨0,0⟩,⟨1,0⟩,⟨0,1⟩,⟨1,1⟩,⟨1,2⟩,⟨1,3⟩,⟨1,4⟩,⟨1,5⟩,⟨1,6⟩,⟨1,7⟩,⟨2,0⟩,⟨2,1⟩,⟨2,2⟩,⟨2,3⟩,⟨2,4⟩,⟨2,5⟩,⟨2,6⟩,⟨2,7⟩,⟨3,0⟩,⟨3,1⟩,⟨3,2⟩,⟨3,3⟩,⟨3,4⟩]
def rL:(L2 DF 400 2000001 6001 LK UP).map (λa=>(a.2.2,a.2.1,L3 DF a.1))=A (0,Xh,⟨[⟨1,4⟩],[]⟩,25,4,1,25,[]):=by kernel_rfl
def rM:(F7 DF 400 2000001 6001 LK).map (λa=>(a.2,WT a.1))=A (0,[[],[⟨3,0⟩],[⟨3,1⟩],[⟨3,2⟩]]):=by kernel_rfl
def WV(d:C (D×C F×F)):Aa->C F->Aj F:=λc b=>match d with
 |[]=>O
 |a::e=>An (Aa.eq c (Ar a.1)&&Jv b a.2.1) (A a.2.2) (WV e c b)
def SR:∀{g:C _},(∀f∈g,A2 f.1 f.2.1 f.2.2)->∀c b d,WV g c b=A d->∃h,c=Ar h/\A2 h b d
 |[],_,c,b,d,a=>by cases a
 |f::i,j,c,b,d,a=>by
  have a:An _ _ _=A d:=a
  cases e:Aa.eq c _&&Jv b _ with
  |true=>rw[e]at a;cases a;rw[Aie]at e;refine⟨f.1,Aa.LH e.1,?_⟩;rw[Nl _ e.2];grind
  |false=>rw[e]at a;exact SR (g:=i) P c b d a
def o2:Cv:=⟨[⟨1,4⟩],[],25,4,1,12,[]⟩
def o0:Cv:=⟨[⟨1,1⟩],[],9,2,1,4,[]⟩
def oN:Cv:=⟨[⟨0,0⟩],[],4,2,0,2,[]⟩
def oO:Cv:=⟨[⟨1,4⟩],[],25,4,1,25,[]⟩
def PF:CA DF:=by
 refine⟨by decide,λb c=> ?_⟩;have:b=PD\/b=d3:=by simpa[DF]using c
 rcases this with rfl|rfl;.refine⟨by decide,by decide,by decide,by decide,by decide,λd a=> ?_⟩;simp only[PD,Ait,Ai6,Ai7]at a;rcases a with rfl|rfl|rfl|rfl<;>exact⟨by grind,by decide⟩
 .refine⟨by decide,by decide,by decide,by decide,by decide,λd a=> ?_⟩;simp only[d3,Ait,Ai6,Ai7]at a;rcases a with rfl|rfl|rfl|rfl|rfl|rfl|rfl|rfl<;>exact⟨by grind,by grind⟩
def Z3{a:AS}(j:a.l.l<=2000000)(k:El a.l<=100000000){h:C M}{e:C (C M)}{f g:K}{d:D}(i:(F7 DF 400 2000001 6001 a).map (λb=>(b.2,L3 DF b.1))=A (0,⟨h,e⟩,f,c,d,g,[])):A2 8 [Z Ab.c DF,.S (AS.c a)] (.AC [.S (Cv.c ⟨h,e,f,c,d,g,[]⟩),.n 0]):=by
 let⟨b,l,m⟩:=AdW i
 have n:=Z2 PF B a j k l;grind
def nM:A2 8 [Z Ab.c DF,.S (AS.c LK)] (.AC [.S (Cv.c o2),.n 0]):=Z3 (by decide) (by decide) rD
def nL:A2 8 [Z Ab.c DF,.S (AS.c YY)] (.AC [.S (Cv.c o0),.n 0]):=Z3 (by decide) (by decide) rC
def AcQ:A2 8 [Z Ab.c DF,.S (AS.c YZ)] (.AC [.S (Cv.c oN),.n 0]):=Z3 (by decide) (by decide) rK
def AcF:A2 11 [Z Ab.c DF,.S (AS.c LK),Z Bq UP] (.AC [.S (Cv.c oO),Z A8.c Xh,.n 0]):=by
 have a:=rL
 cases e:L2 DF 400 2000001 6001 LK UP with
 |none=>grind
 |some b=>
  rw[e]at a;have a:A (b.2.2,b.2.1,L3 DF b.1)=A (0,Xh,⟨[⟨1,4⟩],[]⟩,25,4,1,25,[]):=a;simp only[Akb]at a;have f:=Aij (·.1) a;have c:=Aij (·.2.1) a;have d:=Aij (·.2.2) a;simp only[]at f c d;have h:=ch PF B LK (by decide) (by decide) (h:=UP) (by decide) e;have g:GF DF UP b=(oO,Xh,0):=by unfold GF;rw[Ad (by decide),Ad (by decide),Ad Om,k4 d,c];rfl
  grind
def AcE:A2 26 [Z Ab.c DF,.S (AS.c LK)] (.AC [Z T4 [[],[⟨3,0⟩],[⟨3,1⟩],[⟨3,2⟩]],.n 0]):=by
 have a:=rM
 cases c:F7 DF 400 2000001 6001 LK with
 |none=>grind
 |some b=>
  rw[c]at a;have a:A (b.2,WT b.1)=A (0,[[],[⟨3,0⟩],[⟨3,1⟩],[⟨3,2⟩]]):=a;simp only[Akb]at a;have d:=Aij (·.1) a;have e:=Aij (·.2) a;simp only[]at d e;have g:=uk PF B LK (by decide) (by decide) c;have f:UN b=[[],[⟨3,0⟩],[⟨3,1⟩],[⟨3,2⟩]]:=by unfold UN;grind
  grind
def cq(a:C M)(b:a.l<1000):A2 20 [.S (Gs a []),.S (Gs a [])] (.b L):=by have:=cp a a [] [] (by omega) (by grind) P;grind
def nN:A2 25 [.S (Cv.c o2),.S (M.c ⟨1,4⟩),.n 25,.n 4,.n 1] (.b L):=
 R6 B B (SR (g:=[(20,[.S (Gs [⟨1,4⟩] []),.S (Gs [⟨1,4⟩] [])],.b L)]) λb a=>by rw[Ai3.1 a];exact cq _ (by grind)) (by kernel_rfl)
def AcG:A2 25 [.S (Cv.c oN),.S (M.c ⟨0,0⟩),.n 4,.n 2,.n 0] (.b L):=
 R6 B B (SR (g:=[(20,[.S (Gs [⟨0,0⟩] []),.S (Gs [⟨0,0⟩] [])],.b L)]) λb a=>by rw[Ai3.1 a];exact cq _ (by grind)) (by kernel_rfl)
def eN{a:C M}(f:a.l<=10)(d b c e:K):Rc ⟨a,[],d,b,c,e,[]⟩:=⟨AiO _,(by grind),AiO _,P,P⟩
def AcI:A2 12 [.S (Cv.c o2),.S (Cv.c oO)] (.b L):=ir _ _ (eN (by grind) _ _ _ _)
def AcJ:A2 13 [.S (Cv.c o2),.S (Cv.c oO)] (.b L):=it _ _ (eN (by grind) _ _ _ _)
def nO:A2 13 [.S (Cv.c o2),.S (Cv.c o0)] (.b Ac):=it _ _ (eN (by grind) _ _ _ _)
def d5(a:C Bc)(b:a.l<100):A2 27 [Z Bc.c a,Z Bc.c a] (.b L):=by have:=iu a a (by omega);grind
def T6:C (D×C F×F):=[(16,[],Z Ab.c DF),
 (17,[.b L,Z Bq [2]],.S (AS.c LK)),(17,[.b L,Z Bq [0]],.S (AS.c YY)),(17,[.b Ac,Z Bq []],.S (AS.c YZ)),
 (8,[Z Ab.c DF,.S (AS.c LK)],.AC [.S (Cv.c o2),.n 0]),(8,[Z Ab.c DF,.S (AS.c YY)],.AC [.S (Cv.c o0),.n 0]),(8,[Z Ab.c DF,.S (AS.c YZ)],.AC [.S (Cv.c oN),.n 0]),
 (11,[Z Ab.c DF,.S (AS.c LK),Z Bq UP],.AC [.S (Cv.c oO),Z A8.c Xh,.n 0]),
 (21,[.n 4],.S (M.c (Ed 4))),(21,[.n 1],.S (M.c (Ed 1))),
 (25,[.S (Cv.c o2),.S (M.c ⟨1,4⟩),.n 25,.n 4,.n 1],.b L),(25,[.S (Cv.c oN),.S (M.c ⟨0,0⟩),.n 4,.n 2,.n 0],.b L),
 (12,[.S (Cv.c o2),.S (Cv.c oO)],.b L),(13,[.S (Cv.c o2),.S (Cv.c oO)],.b L),(13,[.S (Cv.c o2),.S (Cv.c o0)],.b Ac),
 (26,[Z Ab.c DF,.S (AS.c LK)],.AC [Z T4 [[],[⟨3,0⟩],[⟨3,1⟩],[⟨3,2⟩]],.n 0]),
 (27,[Z Bc.c [⟨3,0⟩],Z Bc.c [⟨3,0⟩]],.b L),(27,[Z Bc.c [⟨3,1⟩],Z Bc.c [⟨3,1⟩]],.b L),(27,[Z Bc.c [⟨3,2⟩],Z Bc.c [⟨3,2⟩]],.b L)]
def nA:∀a∈T6,A2 a.1 a.2.1 a.2.2:=λa b=>by
 unfold T6 at b;simp only[Ait,Ai6,Ai7]at b;rcases b with rfl|rfl|rfl|rfl|rfl|rfl|rfl|rfl|rfl|rfl|rfl|rfl|rfl|rfl|rfl|rfl|rfl|rfl|rfl;.exact tG
 .exact R3 _ [2] (by grind)
 .exact R3 _ [0] (by grind)
 .exact R3 _ [] (by grind)
 .exact nM
 .exact nL
 .exact AcQ
 .exact AcF
 .exact R4 4
 .exact R4 1
 .exact nN
 .exact AcG
 .exact AcI
 .exact AcJ
 .exact nO
 .exact AcE
 .exact d5 _ (by grind)
 .exact d5 _ (by grind)
 .exact d5 _ (by grind)
def g6:A2 7 [] (.b L):=R6 B B (SR nA) (by rw[r7];simp only[AcL];kernel_rfl)
end Go.Proofs.YtmnfpdedgnfeiaaGreat
namespace Go.Fg
open Go.WideShapes
structure Xy(y:(u:Type)->DataW u->Prop)(q:D):Prop where
 S:∀{u:Type}{f:C (DataW u)},y u (.agg f)->∀b∈f,y u b
 CZ:∀{u:Type}{a g:C (DataW u)},y u (.slice a g)->(∀b∈a,y u b)/\a.l<=q
 mE:∀{u:Type}{d:C UInt8},y u (.lit (.string d))->d.l<=q
theorem Fin.cy{g l:A0}{u h:G}{d f:BH}(a:Fin g u d l h f)(m:∀b i,g b=A i->u.N b=O):RowKit.Grown d f:=by refine⟨⟨a.Aw.2.1,a.Aw.2.2.1,λk j=> ?_⟩,a.Aw.2.2.2,a.EN⟩;rw[a.F8 k j P];grind
def KV(g:BH):A0:=⟨λ_=>O,λd a b=>∃f:IB->D->D->Prop,(∀d a b,f d a b->BI ⟨λ_=>O,f⟩ d a b g)/\f d a b⟩
theorem m4{d:BH}{f:IB}{a b:D}(g:(KV d).im f a b):BI (KV d) f a b d:=by obtain⟨i,h,j⟩:=g;exact(h f a b j).Av (l:=KV d) ⟨P,λf a b g=>⟨i,h,g⟩⟩ B
theorem Ae5{d:BH}{i:IB}{g h:D}(l:BI (KV d) i g h d):(KV d).im i g h:=by
 have k:(KV d).le ⟨λ_=>O,λf a b=>(KV d).im f a b\/(f=i/\a=g/\b=h)⟩:=⟨λ_ _ e=>(by cases e),P⟩;refine⟨λf a b=>(KV d).im f a b\/(f=i/\a=g/\b=h),λf a b j=> ?_,P⟩;rcases j with j|⟨rfl,rfl,rfl⟩;.exact(m4 j).Av k B
 .exact l.Av k B
theorem Ae4(f:BH):HR (KV f) G.Az f where
 E4 g j k i:=m4 i
 Fw b g d o j k a:=by rw[G.Mm]at a;grind
 BB b g d a:=by rw[G.Mm]at a;grind
 C3 h n l m a:=A_ (G.Mm h) a
 lt b d a:=by cases a
 Fq b a:=A_ (G.Mm b) a
def DV(y:(u:Type)->DataW u->Prop)(v:Program)(t:B9){r:Type}(c:r->C F)(s:r->Prop):Prop:=
 ∀(u:Type)(g:B9×Bl->u)(d:BH)(h:D)(b:C Bl)(f:DataW u×C MemPlace),DataW.trod g v d 0 (λ_=>L) L h t b=A f->y u f.1->∃a,s a/\BJ (KV d) (c a) b
def Tn(y:(u:Type)->DataW u->Prop)(v:Program)(h l:D)(j:C Field){r:Type}(c:r->C F)(s:r->Prop):Prop:=
 ∀(u:Type)(i:B9×Bl->u)(f:BH)(k:D)(a:C Bl),a.l=h->(∀b∈j,∃g,DataW.trod i v f 0 (λ_=>L) L k b.type ((a.d b.offset).t (v.cellsOf b.type))=A g/\y u g.1)->∃d,s d/\BJ (KV f) (c d) (a.d l)
section
variable{y:(u:Type)->DataW u->Prop} {q:D} {v:Program} {t e:B9} {r p:Type} {c:r->C F} {s:r->Prop}
theorem DV.Bu{b:p->C F}{f:p->Prop}(j:DV y v t c s)(d:r->p)(n:∀a,b (d a)=c a)(o:∀a,s a->f (d a)):DV y v t b f:=by intro u h l i g m e k;obtain⟨_⟩:=j u h l i g m e k;grind
theorem DV.Cx{b:IntKind}(f:v.underlying t=A (.int b)):DV y v t (λa:K=>[.i b a]) (λa=>b.min<=a/\a<=b.max):=by intro u h k i g l e j;obtain⟨a,rfl,_,d⟩:=DataW.trod_int f e;simp only[Lit.wf,Aie,Ain]at d;exact⟨a,d,.cons _ _ _ _ (.i b a) .nil⟩
theorem DV.oX(b:v.underlying t=A .bool):DV y v t (λa:Ak=>[.b a]) (λ_=>True):=by intro u f i g d j e h;obtain⟨a,rfl,_⟩:=DataW.trod_bool b e;exact⟨a,Ais,.cons _ _ _ _ (.b a) .nil⟩
theorem DV.AeJ(f:Xy y q)(h:v.underlying t=A .string):DV y v t (λa:C D=>[.s a]) (λa=>(∀b∈a,b<256)/\a.l<=q):=by
 intro u l o m k w e i;obtain⟨d,rfl,rfl,n⟩:=DataW.trod_string h e;refine⟨d.data.l.m UInt8.toNat,⟨λb g=> ?_,?_⟩,.cons _ _ _ _ (.s _ d B) .nil⟩;.obtain⟨j,_,rfl⟩:=AiR.1 g;exact j.toNat_lt
 .rw[Aiw];exact f.mE i
theorem Tn.nil{a:D}:Tn y v a a [] (λ_:Unit=>[]) (λ_=>True):=by intro u d i h b g f;refine⟨(),Ais,?_⟩;rw[Aiq (by omega)];exact .nil
theorem Tn.cons{f d:D}{b:Field}{i:C Field}{g:p->C F}{l:p->Prop}(M:b.offset=d){j:D}(J:v.cellsOf b.type=j)(w:DV y v b.type c s)(x:Tn y v f (d+j) i g l):Tn y v f d (b::i) (λa:r×p=>c a.1++g a.2) (λa=>s a.1/\l a.2):=by intro u h m k o I N;obtain⟨S,Q,R⟩:=N b (by simp);obtain⟨a,z,E⟩:=w u h m k _ S Q R;obtain⟨n,G,H⟩:=x u h m k o I P;refine⟨(a,n),⟨z,G⟩,?_⟩;have:=E.K1 H;rwa[M,J,<-AjS,Aj0]at this
theorem DV.struct(f:Xy y q){a:Br Field}(m:v.underlying t=A (.struct a)){d:D}(F:v.cellsOf t=d)(i:Tn y v d 0 a.l c s):DV y v t c s:=by
 intro u h w E g J e n;obtain⟨x,o,_,rfl,H,I,j⟩:=DataW.trod_struct m e;obtain⟨_⟩:=i u h w o g Om λz k=>by
  obtain⟨b,l,rfl⟩:=List.mem_iff_getElem.1 k;have G:b<a.z:=by simpa using l
  have:=j b a[b] (by simp[]);refine⟨x[b]'(by omega),?_,f.S n _ P⟩;grind
 grind
theorem gS{o:BH}{j:A0}{x:D}{s:r->Prop}{c:r->C F}:∀i (f:D->C Bl)(_:∀a,a<i->∃b,s b/\BJ j (c b) (f a)),∃d:C r,d.l=i/\(∀b∈d,s b)/\∀a b,d[a]? =A b->BJ j (c b) (f a)
 |0,_,_=>⟨[],B,by simp,by simp⟩
 |n+1,f,h=>by
  obtain⟨d,E,G,l⟩:=gS (o:=o) (x:=x) n (λa=>f (a+1)) λa I=>h (a+1) (by omega)
  obtain⟨b,H,m⟩:=h 0 (by omega)
  refine⟨b::d,by grind,by grind,λa k g=> ?_⟩
  cases a with
  |zero=>simp at g;subst g;exact m
  |succ a=>exact l a k (by simpa using g)
theorem hR{b:D}(j:0<b):∀(g:C (C F))(_:∀f∈g,f.l=b) a h,g.flatten[a]? =A h->∃f,g[a/b]? =A f/\f[a % b]? =A h
 |[],_,a,h,d=>by simp at d
 |f::g,n,a,h,d=>by
  have o:=n f (by simp);rw[AjG]at d;rcases AiS a b with i|i;.rw[Ajo (by omega)]at d;exact⟨f,by rw[Nat.div_eq_of_lt i];rfl,by rw[Nat.mod_eq_of_lt i];exact d⟩
  .rw[Ajx (by omega),o]at d;obtain⟨w,l,m⟩:=hR j g P (a-b) h d;obtain⟨k,rfl⟩:∃k,a=k+b:=⟨a-b,by omega⟩;rw[Akm]at l m;refine⟨w,?_,by rw[Nat.add_mod_right];omega⟩;rw[Nat.add_div_right _ j];grind
theorem DV.slice(xc:Xy y q)(xx:v.underlying t=A (.slice e)){b:D}(xz:v.cellsOf e=b)(Y:0<b)(xk:DV y v e c s):DV y v t (λg:C r=>[.CZ (g.m c)]) (λg=>(∀d∈g,s d)/\g.l<=q):=by
 intro u U j xF xD G xh xB;rcases DataW.trod_slice xx xh with⟨rfl,_⟩|⟨d,h,I,xE,xL,xb,_,rfl,rfl,_,xG,xH,xI,xl,_,_⟩;.exact⟨[],by simp,.cons _ _ _ _ .Xd .nil⟩
 .have xA:=xc.CZ xB
  have xK:h<=q:=by have:=xA.2;rw[Aiw]at this;omega
  have M:∀a,a<h->∃m,j.cells? 0 (d.add (a*b)) b=A m/\∃H,DataW.trod U v j 0 (λ_=>L) L xb e m=A H/\y u H.1:=by intro a i;have:=xl a i;rw[xz,AiW (by omega)]at this;obtain⟨_⟩:=Option.bind_eq_some_iff.1 this;grind
  obtain⟨g,X,xv,xa⟩:=gS (o:=j) (x:=b) h (λa=>(j.cells? 0 (d.add (a*b)) b).g []) λa i=>by obtain⟨m,k,H,xm,xn⟩:=M a i;obtain⟨x,xo,J⟩:=xk u U j xb m H xm xn;exact⟨x,xo,by rw[k];exact J⟩
  refine⟨g,⟨xv,by omega⟩,.cons _ _ _ _ ?_ .nil⟩
  cases h with
  |zero=>obtain rfl:=Aju.1 X;exact .PM d I
  |succ h=>
   have Q:∀a f,a<h+1->f<b->∃l,j.cell? ((d.add (a*b)).add f)=A l/\((j.cells? 0 (d.add (a*b)) b).g [])[f]? =A l:=by intro a f i W;obtain⟨m,k,_⟩:=M a i;have E:=k;unfold World.cells? at E;rw[Af Om]at E;have n:=mapM_some_length E;rw[Aip]at n;have:=mapM_some_get E f f (by grind);grind
   obtain⟨xN,F,_⟩:=Q 0 0 (by omega) Y;have xp:(d.add (0*b)).add 0=d:=by simp[Addr.add]
   rw[xp]at F;unfold World.cell? at F;split at F;case h_2=>grind
   case h_1 N xi xj xr=>
   split at F;.grind
   rename_i xw;have Z:d.spot=O:=by simpa using xw
   have xq:∀a f,((d.add (a*b)).add f)=⟨d.block,d.off+(a*b+f),O⟩:=by intro a f;obtain⟨_⟩:=d;simp only at Z;subst Z;unfold Addr.add;grind
   have V:∀a f,a<h+1->f<b->∃l,N[d.off+(a*b+f)]? =A l/\((j.cells? 0 (d.add (a*b)) b).g [])[f]? =A l:=by intro a f i W;obtain⟨l,o,R⟩:=Q a f i W;rw[xq]at o;unfold World.cell? at o;grind
   have n:∀G∈g.m c,G.l=b:=by intro G xy;obtain⟨x,xs,rfl⟩:=AiR.1 xy;obtain⟨a,i,rfl⟩:=List.mem_iff_getElem.1 xs;obtain⟨m,k,_⟩:=M a (by omega);have J:=(xa a g[a] (by grind)).length;rw[k]at J;unfold World.cells? at k;rw[Af Om]at k;have n:=mapM_some_length k;grind
   have xJ:(g.m c).flatten.l=(h+1)*b:=by rw[List.length_flatten,List.map_congr_left (n),Aja];show(g.m (λ_=>b)).sum=_;rw[List.map_const',List.sum_replicate_nat,X]
   have xu:(KV j).im (.c (g.m c).flatten) d.block d.off:=by
    refine Ae5 ⟨N,xi,xj,xr,?_,λa l i=> ?_⟩;.obtain⟨_⟩:=V h (b-1) (by omega) (by omega);grind
    .obtain⟨G,o,R⟩:=hR Y _ n a l i;rw[AiL]at o;obtain⟨x,xd,rfl⟩:=Option.map_eq_some_iff.1 o;obtain⟨xC,xe,xf⟩:=(xa _ x xd).N R;have xt:a/b<h+1:=by grind
     obtain⟨xM,xg,T⟩:=V (a/b) (a % b) xt P;rw[xe]at T;cases T
     refine⟨xC,?_,xf⟩;rw[<-xg,Nat.div_add_mod' a b]
   have:Value.slice (A d) (h+1) I=.slice (A ⟨d.block,d.off+0,O⟩) (g.m c).l I:=by obtain⟨_⟩:=d;grind
   rw[this];exact .CZ _ _ _ _ 0 b _ xu (by simp) n (by grind)
theorem DV.S{j:Br Field}(l:DV y v t c s)(x:v.underlying t=A (.struct j)){F:Reach}{i:D}{b:BH}{d:Bl}{u:Type}{g:B9×Bl->u}{f:DataW u}{E:C MemPlace}(h:Value.okWide v b F i t d)(o:DataW.Trod g v b 0 (λ_=>L) L t d f E)(z:y u f):∃a,s a/\VR (KV b) (.S (c a)) d:=by simp only[Value.okWide,x]at h;obtain⟨G,rfl,_,_⟩:=h;obtain⟨k,w⟩:=o;obtain⟨a,m,n⟩:=l u g b k _ _ w z;exact⟨a,m,.S _ _ n⟩
theorem DV.F_{i:r->F}(k:DV y v t (λa=>[i a]) s){d:BH}{b:Bl}(n:b.cells= #[b]){u:Type}{g:B9×Bl->u}{f:DataW u}{w:C MemPlace}(m:DataW.Trod g v d 0 (λ_=>L) L t b f w)(o:y u f):∃a,s a/\VR (KV d) (i a) b:=by obtain⟨j,h⟩:=m;rw[n]at h;obtain⟨a,x,l⟩:=k u g d j _ _ h o;cases l<;>grind
end
end Go.Fg
namespace Go.Fg
def ey(a:Program):Ak:=(List.range a.types.z).all λc=>match a.underlying c with
 |some (.slice b)=>Co 1 (a.cellsOf b)
 |_=>L
def Aen{a:Program}(d:ey a=L){b c:B9}(f:b<a.types.z)(e:a.underlying b=A (.slice c)):0<a.cellsOf c:=by have:=AiP.1 d b P;rw[e]at this;exact Aim this
def AdY{c e:BH}(j:RowKit.Grown c e){g:MemPlace}(h:g.block<c.heap.z):c.sameAt e g:=by
 obtain⟨⟨_,_,f⟩,_⟩:=j
 cases g with
 |cell d l=>
  have:=f d h;show e.cell? _=c.cell? _;unfold World.cell?;split at this;.rename_i a b;rw[a,b];simp only;rw[this.2.2.2 l not_false]
  .rename_i a b;rw[a,b]
  .rw[this]
 |map d=>
  have:=f d h;show e.heap[d]? =c.heap[d]?;split at this;.rename_i a b;rw[a,b];obtain⟨rfl,rfl,_,i⟩:=this;rw[Array.ext_getElem? λk=>i k not_false]
  .rename_i a b;rw[a,b];obtain f|⟨rfl,rfl⟩:=this;.exact f.elim
   .rfl
  .exact this
def m1{b:Program}(p:laidOutB b=L)(q:mapsRowed b=L)(n:ey b=L){i:Type}{l:B9×Bl->i}{j k:BH}(o:RowKit.Grown j k){s:D->Ak}:∀{d:C B9}{h:C Bl}{e:C (DataW i)}{g:C MemPlace},(∀c∈d,c<b.types.z)->DataW.TrodAll l b j 0 (λ_=>L) L d h e g->(∀f∈g,s f.block=L)->DataW.TrodAll l b k 0 s L d h e g
 |[],[],[],_,_,a,_=>a
 |c::d,F::h,z::e,_,v,a,E=>by obtain⟨f,x,t,u,rfl⟩:=a;obtain⟨r,m⟩:=t;refine⟨f,x,⟨r,?_⟩,m1 p q n o P u P,B⟩;exact DataW.trod_stays (kids_rows p q) ((Aen n)) P (v c (by simp)) m (λy w=>AdY o (DataW.trod_lt r c _ _ m y w)) P
 |[],[],_::_,_,_,a,_=>a.elim
 |[],_::_,[],_,_,a,_=>a.elim
 |[],_::_,_::_,_,_,a,_=>a.elim
 |_::_,[],[],_,_,a,_=>a.elim
 |_::_,[],_::_,_,_,a,_=>a.elim
 |_::_,_::_,[],_,_,a,_=>a.elim
def wS{c:Program}{f:D}{d:C F}(h:P6 c f d (.b L)){a:BH}{b:Br Bl}(i:BJ (KV a) d b.l):Calls c f b a λe g=>e=.returned (.bool L)/\RowKit.Grown a g:=by
 refine(h.2 (KV a) a b i (Ae4 a)).mono λe g l=> ?_;obtain⟨q,r,p,rfl,m,k⟩:=l;cases m
 exact⟨B,k.cy λo n j=>by cases j⟩
end Go.Fg
namespace Go.Proofs.YtmnfpdedgnfeiaaGreat
open Go.Fg
def Kb:(a:Type)->DataW a->Prop:=λa b=>Rows.uptoBulk b<=1048576
def pb{b:Type}(a:DataW b):1<=Rows.uptoBulk a:=by
 cases a with
 |lit c=>cases c<;>simp[Rows.uptoBulk]
 |nil=>simp[Rows.uptoBulk]
 |ptr a=>simp[Rows.uptoBulk]
 |slice d h=>simp[Rows.uptoBulk]
 |agg g=>simp[Rows.uptoBulk]
 |iface i a=>simp[Rows.uptoBulk]
 |map e=>simp[Rows.uptoBulk]
 |held f=>simp[Rows.uptoBulk]
def a5{b:Type}{c:DataW b}:∀{d:C (DataW b)},c∈d->Rows.uptoBulk c<=Rows.uptoBulkAll d
 |[],a=>by cases a
 |f::e,a=>by
  simp only[Rows.uptoBulkAll];rcases Ait.1 a with rfl|a;.omega
  .have:=a5 a;omega
def fX{b:Type}:∀a:C (DataW b),a.l<=Rows.uptoBulkAll a
 |[]=>by simp
 |d::c=>by have:=pb d;have:=fX c;simp only[Rows.uptoBulkAll,AiD];omega
def MO:Xy Kb 1048576 where
 S:=λ{d g} a c b=>by have a:Rows.uptoBulk (.agg g)<=1048576:=a;have:=a5 b;simp only[Rows.uptoBulk]at a;show Rows.uptoBulk c<=1048576;omega
 CZ:=λ{d e h} a=>by have a:Rows.uptoBulk (.slice e h)<=1048576:=a;simp only[Rows.uptoBulk]at a;have:=fX e;refine⟨λc b=> ?_,by omega⟩;have:=a5 b;show Rows.uptoBulk c<=1048576;omega
 mE:=λ{d f} a=>by have a:Rows.uptoBulk (.lit (.string f))<=1048576:=a;simp only[Rows.uptoBulk]at a;omega
def Q0{b:Type}(d:b->Prop)(a:C b):Prop:=(∀c∈a,d c)/\a.l<=1048576
def WY:DV Kb P9 3 (λa:K=>[F.n a]) NA:=DV.Cx Tryz.underlying3
def Adg:DV Kb P9 4 Db (λ_=>True):=DV.oX Tryz.underlying4
def lB:DV Kb P9 5 (λa:K=>[F.i .u8 a]) (λa=>IntKind.u8.min<=a/\a<=IntKind.u8.max):=DV.Cx Tryz.underlying5
def lC:DV Kb P9 9 (λa:C D=>[.s a]) (λa=>(∀b∈a,b<256)/\a.l<=1048576):=DV.AeJ MO Tryz.underlying9
def Adh:DV Kb P9 70 AH.c (λ_=>True):=(DV.struct MO Tryz.underlying70 (d:=2) (by kernel_rfl) (.cons B (j:=1) (by kernel_rfl) WY (.cons B (j:=1) (by kernel_rfl) WY .nil))).Bu (λa=>⟨a.1,a.2.1⟩) (λ_=>B) (λ_ _=>Ais)
def d8:DV Kb P9 75 (λa=>[Z AH.c a]) (Q0 λ_=>True):=DV.slice MO Tryz.underlying75 (b:=2) (by kernel_rfl) (by decide) Adh
def Adi:DV Kb P9 77 AD.c AD.Jw:=
 (DV.struct MO Tryz.underlying77 (d:=4) (by kernel_rfl) (.cons B (j:=1) (by kernel_rfl) lB (.cons B (j:=1) (by kernel_rfl) lC (.cons B (j:=1) (by kernel_rfl) WY (.cons B (j:=1) (by kernel_rfl) d8 .nil))))).Bu
  (λa=>⟨a.1,a.2.1,a.2.2.1,a.2.2.2.1⟩) (λ_=>B) (λ_ b=>⟨Ajd b.2.2.2.1.2 (by decide),Ajd b.2.1.2 (by decide)⟩)
def Adj:DV Kb P9 78 (λa=>[Z AD.c a]) (Q0 AD.Jw):=DV.slice MO Tryz.underlying78 (b:=4) (by kernel_rfl) (by decide) Adi
def Adk:DV Kb P9 80 Ab.c Ab.Jw:=
 (DV.struct MO Tryz.underlying80 (d:=5) (by kernel_rfl) (.cons B (j:=1) (by kernel_rfl) lC (.cons B (j:=1) (by kernel_rfl) WY (.cons B (j:=1) (by kernel_rfl) Adj (.cons B (j:=1) (by kernel_rfl) d8 (.cons B (j:=1) (by kernel_rfl) d8 .nil)))))).Bu
  (λb=>⟨b.1,b.2.1,b.2.2.1,b.2.2.2.1,b.2.2.2.2.1⟩) (λ_=>B) (λ_ a=>⟨Ajd a.2.2.1.2 (by decide),Ajd a.2.2.2.1.2 (by decide),Ajd a.2.2.2.2.1.2 (by decide),Ajd a.1.2 (by decide),a.2.1,a.2.2.1.1⟩)
def Ada:DV Kb P9 26 (λa=>[Z Ab.c a]) (Q0 Ab.Jw):=DV.slice MO Tryz.underlying26 (b:=5) (by kernel_rfl) (by decide) Adk
def Adf:DV Kb P9 34 CG (Q0 NA):=DV.slice MO Tryz.underlying34 (b:=1) (by kernel_rfl) (by decide) WY
def Adb:DV Kb P9 27 (λa=>[Z CG a]) (Q0 (Q0 NA)):=DV.slice MO Tryz.underlying27 (b:=1) (by kernel_rfl) (by decide) Adf
def Adc:DV Kb P9 28 (λa=>[Z Db a]) (Q0 λ_=>True):=DV.slice MO Tryz.underlying28 (b:=1) (by kernel_rfl) (by decide) Adg
def Ade:DV Kb P9 30 AS.c AS.CA:=
 (DV.struct MO Tryz.underlying30 (d:=2) (by kernel_rfl) (.cons B (j:=1) (by kernel_rfl) Adb (.cons B (j:=1) (by kernel_rfl) Adc .nil))).Bu (λb=>⟨b.1,b.2.1⟩) (λ_=>B)
  (λ_ a=>⟨Ajd a.1.2 (by decide),Ajd a.2.1.2 (by decide),λd c=>Ajd (a.1.1 d c).2 (by decide)⟩)
def Ac9:DV Kb P9 22 (λb=>[Z Ky b]) (Q0 λa=>IntKind.u8.min<=a/\a<=IntKind.u8.max):=DV.slice MO Tryz.underlying22 (b:=1) (by kernel_rfl) (by decide) lB
end Go.Proofs.YtmnfpdedgnfeiaaGreat
namespace Go.Proofs.YtmnfpdedgnfeiaaGreat
def Dc{a b:Ak}(c:a=L)(d:b=L):(a&&b)=L:=by rw[c,d];rfl
end Go.Proofs.YtmnfpdedgnfeiaaGreat
namespace Go.Proofs.YtmnfpdedgnfeiaaGreat
open Go.Fg Go.ChangeShapes Go.WideShapes Go.ChangeAt Go.RowKit
def CC:ownKnob Tryz.prog.godebug=O:=by kernel_rfl
def wP:laidOutB Tryz.prog=L:=by kernel_rfl
def AdL:mapsRowed Tryz.prog=L:=by kernel_rfl
def TW:ey Tryz.prog=L:=by kernel_rfl
def Aeo{a:Type}{b c d:DataW a}(e:Rows.uptoSmall a [b,c,d]=L):Kb a b/\Kb a c/\Kb a d:=by have e:Rows.uptoBulkAll [b,c,d]<=1048576:=AjP e;simp only[Rows.uptoBulkAll]at e;exact⟨by show Rows.uptoBulk b<=1048576;omega,by show Rows.uptoBulk c<=1048576;omega,by show Rows.uptoBulk d<=1048576;omega⟩
end Go.Proofs.YtmnfpdedgnfeiaaGreat
namespace Go.Proofs.YtmnfpdedgnfeiaaGreat
def OF:ChangeSpec:=(Rows.OpenSpec.upto Rows.closureRawSpec).bare
def pg:Rows.closureRawUptoRow.wf (OpenSpec.ofChange OF)=L:=by kernel_rfl
def pG:namedTie Tryz.prog Rows.closureRawUptoRow.named OF.vars=L:=by kernel_rfl
def pK:(Tryz.prog.stopKnobs==[])=L:=by kernel_rfl
def pk:(Rows.closureRawUptoRow.named==Tryz.prog.varsNamed 4)=L:=by kernel_rfl
def po:(Rows.closureRawUptoRow.loops==(Tryz.f4.params.l++OF.plain.varTypes Tryz.prog).any (Tryz.prog.loopsFrom ·))=L:=by kernel_rfl
def pt:(Rows.closureRawUptoRow.ifacesOut==Tryz.f4.resultTypes.l.any (Tryz.prog.ifacesRec ·))=L:=by kernel_rfl
def py:Tryz.prog.stopsHeard=L:=by kernel_rfl
def ph:laidOutB Tryz.prog=L:=by kernel_rfl
def pH:(Rows.closureRawUptoRow.stops==[])=L:=by kernel_rfl
def pL:(Rows.closureRawUptoRow.inPlace==Tryz.prog.inPlace 4)=L:=by kernel_rfl
def pl:(Rows.closureRawUptoRow.maps==(Tryz.f4.params.l++OF.plain.varTypes Tryz.prog).any (Tryz.prog.mapsRec ·))=L:=by kernel_rfl
def pp:(Rows.closureRawUptoRow.wideKeys==(Tryz.f4.params.l++OF.plain.varTypes Tryz.prog++Tryz.f4.resultTypes.l).any (Tryz.prog.wideKeysFrom ·))=L:=by kernel_rfl
def pu:(Rows.closureRawUptoRow.loopsOut==Tryz.f4.resultTypes.l.any (Tryz.prog.loopsFrom ·))=L:=by kernel_rfl
def pz:Tryz.prog.mayEnter=L:=by kernel_rfl
def pC:(Rows.closureRawUptoRow.pinned==Rows.closureRawUptoRow.pinnedBy)=L:=by kernel_rfl
def ps:mapsRowed Tryz.prog=L:=by kernel_rfl
def pI:(Tryz.prog.stops==[])=L:=by kernel_rfl
def pi:(Rows.closureRawUptoRow.unfollowed==Tryz.prog.unfollowed 4)=L:=by kernel_rfl
def pm:(Rows.closureRawUptoRow.ifaces==(Tryz.f4.params.l++OF.plain.varTypes Tryz.prog).any (Tryz.prog.ifacesRec ·))=L:=by kernel_rfl
def pq:OF.vars.all (Tryz.prog.varReadable ·)=L:=by kernel_rfl
def pv:(Rows.closureRawUptoRow.plainKeys==Tryz.prog.plainKeys)=L:=by kernel_rfl
def pA:(Rows.closureRawUptoRow.lifted==Tryz.prog.liftsFinal)=L:=by kernel_rfl
def pE:(Rows.closureRawUptoRow.veiled==(Tryz.f4.params.l++OF.plain.varTypes Tryz.prog++Tryz.f4.resultTypes.l).any (Tryz.prog.veiledRec ·))=L:=by kernel_rfl
def pD:Tryz.f4.params.all (Tryz.prog.readableRec ·)=L:=by kernel_rfl
def pJ:(Rows.closureRawUptoRow.knobs==[])=L:=by kernel_rfl
def pj:(Rows.closureRawUptoRow.recurses==Tryz.prog.recurses 4)=L:=by kernel_rfl
def pn:(Rows.closureRawUptoRow.mapsOut==Tryz.prog.mapsAmong Tryz.f4.resultTypes.l)=L:=by kernel_rfl
def pr:Tryz.f4.resultTypes.all (λa=>Tryz.prog.readableRec a&&Au (a<Tryz.prog.types.z))=L:=by kernel_rfl
def px:Rows.closureRawUptoRow.shortTexts.isNone=L:=by kernel_rfl
def pB:(Tryz.prog.make==A Rows.closureRawUptoRow.make)=L:=by kernel_rfl
def pF:Rows.closureRawUptoRow.veiledFits Tryz.prog Tryz.f4.params.l (Tryz.f4.params.l++OF.plain.varTypes Tryz.prog++Tryz.f4.resultTypes.l)=L:=by kernel_rfl
def qE:joinedFacts Tryz.prog 4 Tryz.f4 OF Rows.closureRawUptoRow=L:=by unfold joinedFacts;exact Dc (Dc (Dc (Dc (Dc (Dc (Dc (Dc (Dc (Dc (Dc (Dc (Dc (Dc (Dc (Dc (Dc (Dc (Dc (Dc (Dc (Dc (Dc (Dc (Dc (Dc (Dc (Dc (Dc (Dc (Dc pg ph) ps) pD) pG) pH) pI) pJ) pK) pL) pi) pj) pk) pl) pm) pn) po) pp) pq) pr) pt) pu) pv) px) py) pz) pA) pB) (by kernel_rfl)) pC) pE) pF
def Abp:Tryz.prog.funcNamed Rows.closureRawUptoRow.func=A 4:=by kernel_rfl
set_option maxRecDepth 100000 in
theorem Afh:Func.isWrapper Tryz.prog Tryz.f4 Rows.closureRawUptoRow.wrapper Rows.closureRawUptoRow.mainSum:=by unfold Func.isWrapper;first|(rw[Af (by decide+kernel)];kernel_rfl)|(rw[Ad (by decide+kernel)];exact⟨B,B⟩)
def vn:Tryz.f4.isInstance Tryz.prog Rows.closureRawUptoRow.origin Rows.closureRawUptoRow.targs:=Go.Fg.AjP (by kernel_rfl)
