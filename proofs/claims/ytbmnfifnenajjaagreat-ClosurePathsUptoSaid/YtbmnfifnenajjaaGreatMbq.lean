/- Part of the proof. -/
import Derived.ChangeArms
import Derived.ProofKit
import Derived.RowKit3
import Derived.ChangeStays
import Derived.ChangeOld
import Derived.Test.YtbmnfifnenajjaaGreatRows
import Derived.WalkKit
import Derived.OpenShut
import Derived.JoinedCond
import Derived.Test.YtbmnfifnenajjaaGreatMbp
set_option linter.all false
noncomputable section
open Option renaming some->A,none->O,getD->Option.g,bind->Option.b
open _root_ renaming rfl->B,List->C,Nat->D,Int->K,if_neg->Ad,if_pos->Af,Option->Ae,Bool->Ah,cond->Aj,decide_eq_true->A0,Array->Bg,absurd->BF
open Bool renaming true->L,false->Aa
open Decidable renaming decide->Ao
open Go renaming Value->Ba,World->By,TypeId->BQ
open Nat renaming ble->BX,le_refl->CK
open List renaming length->List.l,map->List.m,take->List.t,drop->List.d,flatMap->List.f
open Go.IntKind renaming i64->Go.IntKind.n
open Array renaming toList->Array.l,size->Array.z
open Eq renaming trans->Eq.t,symm->Eq.s
open Or renaming inl->Or.i,inr->Or.j
open Int renaming toNat->Int.n
namespace Go.Proofs.YtbmnfifnenajjaaGreat
open Go.Fg
theorem no{a:C _}(d:Ft a){b:C N}(j:b.l<=100)(k:∀c∈b,Gt c a.l=L):Ur a b=(GC a b,0):=by
 have i:(b.all λg=>Hd g a.l)=L:=Aei.2 λc l=>by rw[Ph c (by omega)];grind
 unfold Ur;rw[Ad (λf=>f d.Sc),Ad (by grind)]
theorem AaM{b:C _}{a:D}{c:N}(h:b[a]? =A c):b.t a++[c]=b.t (a+1):=by rw[List.take_add_one,h];rfl
section
variable{t:EC} {h:G} {e:Ai} {v:C (C (C K))} {u:T->Prop}
theorem qC(xt:BD t.l)(E:Bj t h e v 0 u)(xu:CF t.l e)(xW:∀x8 x9,0<=D9 (e.at x8) x9)(xi:Ft e.Am)(xk:1<=e.Ac.l)(xf:∀yr∈FF t.l e,Gt yr e.Am.l=L):∃o xd Y,W9 (pos 46) [.p t.x 0] h=A (.S (Ei (DA t.l e) o),xd)/\WR xd o Y/\Y.m (·.2)=Mv t.l e/\Bo u h xd/\∀a,u a->Lv xd a:=by
 let⟨xb,xz⟩:=Bb (b:=e.Ac) (a:=0) xk
 let⟨yc,d,T⟩:=xu.BC 0 xb xz
 have xl:e.at 0=xb:=DK xz;have xp:=xt.Bc yc d T.hb;have yI:=xp.Bk;have xC:∀a,u a->Lv h a:=λa m=>E.C4 m;let⟨xJ,U,xP,yE⟩:=E
 let⟨b,j,x6,x5,xM,yD,ye,yn⟩:=box h (.I 7 o7)
 have yy:∀(xs:F->G->R),bl (.p h.next 0) (h.V (.I 7 o7)) xs=xs (.p b 0) j:=Dy h _ x6 x5;have V:=xP.Vj xM;have yF:∀a,(u a\/a=b)->Lv j a/\Mq xJ h a=.C5:=λa m=>by
  rcases m with m|rfl;.exact⟨P,by rw[PD (xC a m)];grind⟩
  .exact⟨ye,Vk yn⟩
 have yo:=V.cv;let⟨xv,xm,xw,_⟩:=V.B0 (a:=0) xk
 have xm:AR 7 [U .Ac,.n 0]=A (.p xv (0*7)):=xm;rw[xl,T.ha]at xw;have ys:j.Ap t.x 0=A (Z Ab.c t.l):=Ay V.M 0;have xY:Bl 0 [.p t.x 0]=A (.p t.x 0):=by rw[EG]
 have yf:AM j [.pi ((Ab.c d).d 4)]=A (Z AF.c d.Bk):=B;have xD:=T.CQ xp.ex;have xV:FF t.l e=d.Bk.m (Bs xb):=by unfold FF;rw[xl,T.Ca]
 rw[<-xV]at xD;let⟨yK,x3⟩:=Yu xD
 let⟨o,k,xj,S,xh,J⟩:=Dh (h:=d.Bk.l) (f:=λz o h=>jj W9 46 2 [Z AF.c d.Bk,.n z,o,.p t.x 0,.p b 0] h) (g:=λz o E=>Aw E o N.c 2 ((FF t.l e).t z)/\AH j E/\Dx j o)
  (λz o E xB xO=>by
   let⟨S,xq,J⟩:=xO
   let⟨xc,xA⟩:=Bb xB
   let⟨xo,xf,x7⟩:=x3 xA
   have xS:=Cm xB;have yp:A9 2 E [.pi (AF.c xc)]=A (.S (AF.c xc)):=B;rw[<-xl]at xf;let⟨x0,xn,xr⟩:=UC (V.ext xq) (c:=0) xk xc xf
   have xn:W9 (pos 66) [.p t.x 0,.n 0,.S (AF.c xc)] E=A (.S (N.c xo),x0):=xn;have yJ:((FF t.l e).t z).l<=z:=by grind
   let⟨yq,g,yd,xH,xx,xQ⟩:=FJ (f:=N.c) (w:=2) (b:=xo) (o:=.S (N.c xo)) (h:=16) (λ_=>B) B B (S.ext xr) (DG (by omega))
   rw[AaM x7]at xH;have xN:=xq.AI xr;refine⟨yq,g,?_,xH,λc r=>⟨(xx.M P (J c r)).t P,xx.lv P (J c r)⟩,λc r=>xQ c (xN.lv r) (J c r)⟩;show jj W9 46 2 _ _=jj W9 46 2 _ _;rw[S4.2.2.1];simp only[QY,DF AF.c d.Bk,xS,S4.2.2.2.1,IE xA,yp,xn,yd,S4.2.2.2.2,Bh (a:=z) (by omega)])
  (b:=.sn) (a:=j) ⟨Aw.sn j,λc r=>⟨B,r⟩,λc _=>Cg c⟩
 have xj:jj W9 46 2 [Z AF.c d.Bk,.n 0,.sn,.p t.x 0,.p b 0] j=jj W9 46 2 [Z AF.c d.Bk,.n d.Bk.l,o,.p t.x 0,.p b 0] k:=xj;have S:Aw k o N.c 2 ((FF t.l e).t d.Bk.l):=S;have xh:AH j k:=xh;have J:Dx j o:=J;have x4:(FF t.l e).l=d.Bk.l:=by grind
 rw[<-x4,List.take_length]at S;have xT:=CA d.Bk.l;have W:=V.Vj xh;have x2:∀a,(u a\/a=b)->Lv k a/\Mq (Mq xJ h) j a=.C5:=λa m=>⟨P,by rw[PD P];grind⟩;have xy:=pd e.Am xi.ok (FF t.l e) (by omega);rw[no xi (by omega) xf]at xy;let⟨xe,yO,ya,M,yG,yC⟩:=qU (u:=λa=>u a\/a=b) W x2 S (λa m=>J a P) xi xy (λa X=>Vk λz=>X (J a z))
 have yw:xe.Ap t.x 4=A (.n e.AA):=Ay M.M 4;have yv:xe.Ap t.x 3=A (.n e.round):=Ay M.M 3;have yu:xe.Ap t.x 2=A (Z AE.c e.Am):=Ay M.M 2;have yt:xe.Ap t.x 1=A (U .Ac):=M.cv;have yA:k.Ap t.x 4=A (.n e.AA):=Ay W.M 4;have yz:k.Ap t.x 3=A (.n e.round):=Ay W.M 3;have yB:k.Ap t.x 2=A (Z AE.c e.Am):=Ay W.M 2;have yx:k.Ap t.x 1=A (U .Ac):=W.cv;have xF:=Cp (M.Db .Ac);rw[Ad0]at xF;have yl:=DF AE.c e.Am;have xX:Bl 0 [.p t.x 2]=A (.p t.x 2):=by rw[EG]
 have yj:Aj (Bv .Cq [.p t.x 4] k (.n e.AA)) L Aa=L:=by rw[GL yA];rfl
 have yg:Aj (Bv .Cq [.p t.x 1] k (U .Ac)) L Aa=L:=by rw[GL yx];rfl
 have yh:Aj (Bv .Cq [.p t.x 2] k (Z AE.c e.Am)) L Aa=L:=by rw[GL yB];rfl
 have yi:Aj (Bv .Cq [.p t.x 3] k (.n e.round)) L Aa=L:=by rw[GL yz];rfl
 let⟨q,g,Y,yb,p,ym⟩:=qV xt M xu xW
 have xa:=M.ext p.E;have yk:Aj (Bv .Cq [.p t.x 3] g (.n e.round)) (Aj (Bv .Cq [.p t.x 2] g (Z AE.c e.Am)) (Aj (Bv .Cq [.p t.x 1] g (U .Ac)) (Aj (Bv .Cq [.p t.x 4] g (.n e.AA)) L Aa) Aa) Aa) Aa=L:=by rw[GL (Ay xa.M 3),GL (Ay xa.M 2),GL xa.cv,GL (Ay xa.M 4)];rfl
 have xU:Cb o7 [(0,2),(2,1),(3,1),(4,1),(5,1),(6,1)] [.S (Ci.c (GC e.Am (FF t.l e))),.n e.AA,.n e.Ac.l,.n e.Am.l,.n e.round,q]=A (.S (Ei (DA t.l e) q)):=by rcases p.Cs with⟨rfl,_⟩|⟨_,_,rfl,_⟩<;>rfl
 have yL:Lv g b:=p.E.lv P;have xZ:g.M b=A (.I 7 o7):=(p.E.M P).t P;have xR:BU (Ei (DA t.l e) q)=L:=by rcases p.Cs with⟨rfl,_⟩|⟨_,_,rfl,_⟩<;>rfl
 have xK:=Gb xZ (a:=Ei (DA t.l e) q) B xR;have xg:∀c,c≠b->(g.set b (.I 7 (Ei (DA t.l e) q))).M c=g.M c:=λc r=>by rw[AN,Ad r]
 have xI:(g.set b (.I 7 (Ei (DA t.l e) q))).AL b 0 7=A (Ei (DA t.l e) q):=BB (by rw[AN,Af B]);have xG:∀c,Lv (g.set b (.I 7 (Ei (DA t.l e) q))) c=Lv g c:=by grind
 generalize g.set b (.I 7 (Ei (DA t.l e) q))=x1 at xK xg xI xG;refine⟨q,x1,Y,AZ B B ?_,⟨p.Cs.Ar λa m X=>⟨xg a (λe=>X (by rw[e];exact p.fu b P)),by grind⟩,λxL xE=>(p.ro xL xE).Ar λa yN xb m X yH=>⟨by rw[xg a (λe=>X (by rw[e];exact p.fx xL xE b P))];grind,by grind⟩⟩,ym,λa m=> ?_,λa m=>by rw[xG];exact p.E.lv P⟩;.rw[S4.1];simp only[↓yy,↓Q,↓QT,↓H xY,↓H ys,↓H (Eg t.x),↓H yo,↓H xm,↓H (Ha xv 0 0),↓H xw,↓H (CB T.hb),↓H B,↓H yf];rw[xj,S4.2.2.1];simp only[↓Q,↓QT,AdM,↓H (DF AF.c d.Bk),xT,S4.2.1,↓H ya,↓H (Eg t.x),↓H (Qx t.x),↓H (W8 t.x),↓H (Pe t.x),↓H yw,↓Gn yj,↓H yt,↓Gn yg,↓H xF,↓H xX,↓H yu,↓Gn yh,↓H yl,↓H yv,↓Gn yi,↓H yb,↓Gn yk,↓H xU,↓H xK,↓H xI]
 .have yM:=xC a m;rw[xg a P];exact(p.E.M P).t P
end
def wI{e:C Ab}(W:Cl e){o xh xd:D}(X:o=400)(c:AQ)(Q:c.l.l<=2000000)(S:c.BT.l<=2000000){b:Ai×K}(n:Hr e o xh xd c=A b):AY 13 [Z Ab.c e,.S (AQ.c c)] (.AB [.S (C1.c (B7 e b).1),.n (B7 e b).2]):=by
 let⟨xj,f,Y,U,xo,J,xf,xy⟩:=box G.Aq (.I 2 (AQ.c c))
 let⟨d,m,xa,V,s,M,xx,xz⟩:=box f (.I 7 o7)
 have xE:∀(a:F->G->R),bl (.p G.Aq.next 0) (G.Aq.V (.I (Bq (F.I (.S (AQ.c c)))) (F.I (.S (AQ.c c))))) a=a (.p xj 0) f:=Dy G.Aq (.I 2 (AQ.c c)) Y U;have xF:∀(a:F->G->R),bl (.p f.next 0) (f.V (.I 7 o7)) a=a (.p d 0) m:=Dy f _ xa V;have xB:=(s.M xf).t J;let⟨xD,j,xe,x,xp,u⟩:=qB W X c Q S n m (h:=λxi=>xi=d) (λxA xv=>by grind)
 have k:=(x d B).t M;have q:∀g h:F,CO 0 [.AB [g,h]]=A g:=λ_ _=>B;have r:∀g h:F,CO 1 [.AB [g,h]]=A h:=λ_ _=>B;by_cases i:b.2=0
 .obtain⟨w,xr,T,rfl,t,_⟩:=u i;subst T;let⟨v,a⟩:=WZ (λP=>HU P) n i
  have xb:∀p∈FF w.l b.1,Gt p b.1.Am.l=L:=λp xc=>by obtain⟨I,_,rfl⟩:=Aeu.1 xc;exact a.X.W.Bs 0 I
  let⟨xC,xs,xn,xw,z,xg,y,_⟩:=qC v t a.X.W.sh a.X.W.f0 a.X.W.Fj a.Ld xb
  have N:=(y d B).t k;let⟨xt,xu,xm,xk,E⟩:=jt z N xg
  unfold B7;rw[Ad (by grind)];refine EV B B ?_ E;rw[i]at xe;rw[aK.1];simp only[QY,H (q _ _),H (r _ _),aK.2, *]
 .have xl:B7 e b=(OF,b.2):=by unfold B7;rw[Af i]
  rw[xl];have xq:Cb o7 [] []=A (.S o7):=B;have xm:=Gb k (a:=o7) B B;have xk:(j.set d (.I 7 o7)).AL d 0 7=A o7:=BB (by rw[AN,Af B]);refine EV B B (e:=.AB [.S o7,.n b.2]) (c:=j.set d (.I 7 o7)) ?_ (h:=j.set d (.I 7 o7)) B;rw[aK.1];simp only[QY,H (q _ _),H (r _ _), *]
def ey{c:C AE}:∀(b e:D)(a:C (C N))(d:C K),(IA c b e a d).l<=a.l+b
 |0,_,a,_=>CK _
 |b+1,e,a,d=>by
  unfold IA
  cases d[e]?with
  |none=>grind
  |some f=>have:=ey (c:=c) b (e+1) (a++[(Cf (I0 c f) d).1]) (Cf (I0 c f) d).2;rw[AdY,AeE]at this;show(IA c b _ _ _).l<=_;omega
def mW{b:C _}(c:EW b)(d:K):(I0 b d).l<=100:=by
 unfold I0 Iq;split
 .rename_i e a;split at a;.exact(c.at a).1
  .grind
 .grind
def ex{f:C AE}(i:EW f):∀(g e:D)(a:C (C N))(b:C K),(∀c∈a,c.l<=100)->∀c∈IA f g e a b,c.l<=100
 |0,_,a,_,j=>j
 |g+1,e,a,b,j=>by
  unfold IA
  cases b[e]?with
  |none=>grind
  |some h=>
   refine ex i g (e+1) (a++[(Cf (I0 f h) b).1]) (Cf (I0 f h) b).2 λc d=> ?_;rcases Aej.1 d with d|d;.grind
   .rw[AeW.1 d,TF];exact mW i h
variable{a:Ai}
def va{c:C Ab}(b:D):(FX a b).l<=b+1:=by unfold FX;rw[AfI];exact SG a _ _
def i5{f:C _}{d:Ai}:∀b,∀c∈Ms f d b,c.B4.l<=b
 |0,c,a=>by cases a
 |b+1,c,a=>by
  rcases Aej.1 a with a|a;.have:=i5 b c a;omega
  .cases e:d.Ac[b]?with
   |none=>rw[e]at a;cases a
   |some g=>rw[e]at a;obtain⟨h,_,rfl⟩:=Aeu.1 a;exact va (c:=f) b
variable{b:C Ab}
def AaR(h:BD b)(d:CF b a)(g:Ft a.Am)(k:(FF b a).l<=100):RJ (DA b a):=by
 have j:=d.A7;refine⟨?_,?_,?_,?_,?_⟩;.show(Mv b a).l<=_;unfold Mv;rw[(Yn _).length_eq];have:=VD h d a.Ac.l;omega
 .show((Cf (FF b a) []).1).l<=_;rw[TF];omega
 .have:=ey (c:=a.Am) 401 0 [] (Cf (FF b a) []).2;show(IA _ _ 0 [] (Cf (FF b a) []).2).l<=_;have:([]:C (C N)).l=0:=B;omega
 .intro e f;have:=ex g.ok 401 0 [] (Cf (FF b a) []).2 (λe f=>by grind) e f;omega
 .intro i c;have c:=c;unfold Mv at c;have:=i5 _ i ((Yn _).mem_iff.1 c);omega
def AaS{j:C _}{o p f:D}{q:AQ}{d:Ai×K}(e:Hr j o p f q=A d):RJ (B7 j d).1:=by
 by_cases b:d.2=0
 .let⟨h,c⟩:=WZ (λe=>HU e) e b
  unfold B7;rw[Ad (λf=>f b)];let⟨m,a⟩:=Bb (b:=d.1.Ac) (a:=0) c.Ld
  let⟨n,k,g⟩:=c.X.W.sh.BC 0 m a
  refine AaR h c.X.W.sh c.X.W.Fj ?_;unfold FF;rw[DK a,g.Ca,Ad9];have:=(h.Bc n k g.hb).Bk;omega
 .unfold B7;rw[Af b];exact⟨AeA _,AeA _,AeA _,(λb a=>by cases a),(λb a=>by cases a)⟩
def k6(a:C1):NS a a=L:=by unfold NS;simp
def AaD{e:AQ}(c:cJ e):D3 e.l<=100000000:=by
 have:∀a:C (C K),(∀b∈a,b.l<=43)->D3 a<=a.l*43:=λa=>by
  induction a with
  |nil=>intro _;exact CK _
  |cons f i h=>intro d;have:=h λb g=>d b (Aez _ g);have:=d f (Aey ..);show f.l+D3 i<=_;rw[Aec];omega
 have j:=this _ c.2.2;have:=c.1;omega
def te(w:AY 9 [] (.b L)){a:AQ}(xo:IZ b)(E:a.Cl):AY 3 [Z Ab.c b,.S (AQ.c a)] (.b L):=by
 let⟨xD,I,xg⟩:=g4 b a xo E
 let⟨k,c,xq,xj,xN,q,j,xR⟩:=box G.Aq (.I 2 (AQ.c a))
 have xJ:∀(M:F->G->R),bl (.p G.Aq.next 0) (G.Aq.V (.I (Bq (F.I (.S (AQ.c a)))) (F.I (.S (AQ.c a))))) M=M (.p k 0) c:=Dy G.Aq (.I 2 (AQ.c a)) xq xj;have xv:c.AL k 0 2=A (AQ.c a):=BB q;cases xD
 .refine Bu B B B ⟨c,?_⟩;rw[Xw.1];simp only[QY,I.H B,QB,w.H B, *]
 let⟨i,xP,d⟩:=xg B
 let⟨xF,X⟩:=g5 i a (by have:=d.1;omega) (by have:=d.2.1;omega)
 cases xF
 .refine Bu B B B ⟨c,?_⟩;rw[Xw.1];simp only[QY,I.H B,X.H B,QB,w.H B, *]
 obtain⟨J,S⟩:∃J:D,J=400:=⟨_,B⟩;obtain⟨xa,xp⟩:∃xa:D,2000000<xa:=⟨2000001,by omega⟩;obtain⟨W,xn⟩:∃W:D,6000<W:=⟨6001,by omega⟩;let⟨r,z⟩:=n_ (b:=b) (c:=J) xp xn a
 have xe:=g7 b i;have xf:=g8 a E;have v:=jD i S a (by have:=d.1;omega) (AaD d) z;have t:=wI i S a (by have:=d.1;omega) (by have:=d.2.1;omega) z;have u:=pa (B7 b r).1 (B7 b r).1 (AaS z);rw[k6,A0 B]at u;have xc:=ph b i;have xd:=pn a E;generalize(B7 b r).1=e at v t u;generalize(B7 b r).2=N at v t;have xs:Aj (Bv (.ld 2) [.p k 0] c (.S (AQ.c a))) L Aa=L:=by rw[Mo q];rfl
 let⟨xb,x,T,xk,f,P,Y,xS⟩:=box c (.I 2 (AQ.c a))
 let⟨xK,xz⟩:=EL c (b:=2) [.sn,.sn] (c:=AQ.c a) T xk B B
 let⟨xt,y,U,xl,g,xh,xr,xT⟩:=box x (.I 7 e.c)
 let⟨xL,xA⟩:=EL x (b:=7) [.sn,.sn,(.n 0),(.n 0),(.n 0),(.n 0),.sn] (c:=e.c) U xl B B
 let⟨xu,h,V,xm,s,xi,xQ,xU⟩:=box y (.I 7 e.c)
 let⟨xM,xB⟩:=EL y (b:=7) [.sn,.sn,(.n 0),(.n 0),(.n 0),(.n 0),.sn] (c:=e.c) V xm B B
 have xy:x.AL xb 0 2=A (AQ.c a):=BB P;have xw:y.AL k 0 2=A (AQ.c a):=BB ((g.M (f.lv j)).t ((f.M j).t q));have xx:h.AL k 0 2=A (AQ.c a):=BB ((s.M (g.lv (f.lv j))).t ((g.M (f.lv j)).t ((f.M j).t q)));have xE:h.AL xb 0 2=A (AQ.c a):=BB ((s.M (g.lv Y)).t ((g.M Y).t P));have xC:h.AL xt 0 7=A e.c:=BB ((s.M xr).t xh);have xG:h.AL xu 0 7=A e.c:=BB xi;have xH:∀o p:F,CO 0 [.AB [o,p]]=A o:=λ_ _=>B;have xI:∀o p:F,CO 1 [.AB [o,p]]=A p:=λ_ _=>B;have xO:N=N:=B;refine Bu B B B ⟨h,?_⟩;rw[Xw.1];simp only[↓xJ,↓Q,↓QT,↓H xv,↓I.H B,↓X.H B,QB,Xw.2,↓xe.H B,↓Gn xs,↓xf.H B,↓xK,T,↓H xz,↓H xy,↓v.H B,↓H (xH _ _),↓H (xI _ _),↓xL,U,↓H xA,↓H xw,↓t.H B,↓xM,V,↓H xB,↓H xC,↓H xG,↓u.H B,↓xc.H B,↓H xE,↓H xx,↓xd.H B,↓w.H B]
def NA(c:D)(b:C K)(a:K):D:=if a<(b.l:K)then(((b[a.n]?).g 0)%(c:K)).n else 0
def Ny(a:C A5)(c:C K)(b:K):A5:=(a[NA a.l c b]?).g ⟨0,0⟩
def LV(b:C Ab)(g h:D)(i:C K):D->Ai->C A5->Ae (Ai×C A5×K)
 |0,_,_=>O
 |j+1,a,c=>
  if(Br b a).l=0 then A (a,c,0)
  else
   let f:=Ny (Br b a) i a.AA
   let e:=F6 b ⟨a.Ac,a.Am,a.round+1,a.AA⟩ f (a.round+1)
   if e.2≠0 then A (e.1,c++[f],e.2)else match Ib b g h e.1 with
    |some d=>if d.2≠0 then A (d.1,c++[f],d.2)else LV b g h i j d.1 (c++[f])
    |none=>O
def Tp(b:C Ab)(c d e:D)(g:AQ)(f:C K):Ae (Ai×C A5×K):=match JA b c d g with
 |some a=>if a.2≠0 then A (a.1,[],a.2)else LV b c d f e a.1 []
 |none=>O
def vf{a:D}(f:0<a)(c:C K)(b:K):NA a c b<a:=by
 unfold NA;split;.have d:=Int.emod_lt_of_pos ((c[b.n]?).g 0) (show 0<(a:K) by omega);have e:=Aim ((c[b.n]?).g 0) (show(a:K)≠0 by omega);omega
 .grind
def X2{a:C A5}(e:a.l≠0)(c:C K)(b:K):a[NA a.l c b]? =A (Ny a c b):=by
 have:=vf (a:=a.l) (by omega) c b;unfold Ny;let⟨f,d⟩:=Bb this
 rw[d];rfl
def uU{b:CI}(i:BD b.l)(c:G8 b.l a){h:A5}(n:h∈Br b.l a):∃e f k d g o,RV b ⟨a.Ac,a.Am,a.round+1,a.AA⟩ h e f k d g o:=by
 obtain⟨e,f,rfl,l,m⟩:=Ve n;have j:BY b.l ⟨a.Ac,a.Am,a.round+1,a.AA⟩:=c.X.MZ c.X.W.AA;let⟨q,d,g,r,_,_,_,_,p⟩:=W3 i j l m
 grind
def bG(g:BD b)(d:G8 b a){f:A5}(v:f∈Br b a)(r:(F6 b ⟨a.Ac,a.Am,a.round+1,a.AA⟩ f (a.round+1)).2=0):BY b (F6 b ⟨a.Ac,a.Am,a.round+1,a.AA⟩ f (a.round+1)).1/\(F6 b ⟨a.Ac,a.Am,a.round+1,a.AA⟩ f (a.round+1)).1.AA=a.AA+1/\∀{m n:D}{e:Ai×K},Ib b m n (F6 b ⟨a.Ac,a.Am,a.round+1,a.AA⟩ f (a.round+1)).1=A e->G8 b e.1/\e.1.AA=a.AA+1:=by obtain⟨k,l,rfl,t,u⟩:=Ve v;have o:BY b ⟨a.Ac,a.Am,a.round+1,a.AA⟩:=d.X.MZ d.X.W.AA;have y:=d.r0;have z:=d.rf;have c:=fi g o (c:=k) (n:=l) t u (by omega) r;have s:(F6 b ⟨a.Ac,a.Am,a.round+1,a.AA⟩ ⟨k,l⟩ (a.round+1)).1.AA=a.AA+1:=c.AA;refine⟨c.X,s,λ{m n e} h=> ?_⟩;have w:=UH h;have x:e.1.round=a.round+1:=w.2.1.t c.Dj.round;have p:=(au g c.X.W.sh h).1.A7;have q:a.Ac.l<=_:=c.Dj.A7;exact⟨⟨aw g c.X h,by omega,by omega,Aem (Aem d.Ld q) p⟩,by omega⟩
def iC{c:C Ab}(p:BD c){n o:D}{i:C K}:∀{e:D}{a:Ai}{d:C A5}{f:Ai×C A5×K},G8 c a->d.l<=a.AA->LV c n o i e a d=A f->(f.2.2=0->G8 c f.1)/\f.2.1.l<=6001
 |0,a,d,f,j,u,b=>by cases b
 |e+1,a,d,f,j,u,b=>by
  have y:=j.X.W.AA;unfold LV at b;by_cases k:(Br c a).l=0;.rw[Af k]at b;cases b;grind
  .rw[Ad k]at b;have r:=AdU (X2 k i a.AA);generalize Ny (Br c a) i a.AA=h at b r;have z:(d++[h]).l=d.l+1:=by grind
   by_cases l:(F6 c ⟨a.Ac,a.Am,a.round+1,a.AA⟩ h (a.round+1)).2=0
   .rw[Ad (λe=>e l)]at b
    let⟨v,w,t⟩:=bG p j r l
    cases m:Ib c n o (F6 c ⟨a.Ac,a.Am,a.round+1,a.AA⟩ h (a.round+1)).1 with
    |none=>rw[m]at b;cases b
    |some g=>
     rw[m]at b;let⟨s,x⟩:=t m
     have b:(if g.2≠0 then A (g.1,d++[h],g.2)else LV c n o i e g.1 (d++[h]))=A f:=b;by_cases q:g.2=0;.rw[Ad (λe=>e q)]at b;exact iC p s (by omega) b
     .rw[Af q]at b;cases b;grind
   .rw[Af l]at b;cases b;grind
def iE{c:C Ab}(g:BD c){j k:D}(p:2000000<k)(e:C K):∀{b:D}{a:Ai}{d:C A5},G8 c a->6000<b+a.AA->∃n,LV c j k e b a d=A n
 |0,a,d,f,w=>by have:=f.X.W.AA;omega
 |b+1,a,d,f,w=>by
  unfold LV;by_cases h:(Br c a).l=0;.rw[Af h];grind
  .rw[Ad h];have r:=AdU (X2 h e a.AA);generalize Ny (Br c a) e a.AA=s at r;by_cases i:(F6 c ⟨a.Ac,a.Am,a.round+1,a.AA⟩ s (a.round+1)).2=0
   .rw[Ad (λb=>b i)];let⟨v,x,u⟩:=bG g f r i
    let⟨l,q⟩:=av g (g:=j) p v
    rw[q];let⟨t,y⟩:=u q
    show∃n,(if l.2≠0 then A _ else LV c j k _ b l.1 (d++[s]))=A n;by_cases o:l.2=0;.rw[Ad (λb=>b o)];exact iE g p e t (by omega)
    .rw[Af o];grind
   .rw[Af i];grind
variable{d:D}
def Adi{c:C Ab}{e a:D}(h:2000000<e)(q:6000<a)(n:AQ)(j:C K):∃f,Tp c d e a n j=A f:=by
 unfold Tp;let⟨k,i⟩:=bH (c:=c) (h:=d) h n
 rw[i];show∃f,(if k.2≠0 then A _ else LV c d e _ a _ _)=A f;by_cases b:k.2=0
 .rw[Ad (λa=>a b)];let⟨o,g⟩:=PL (λp=>HU p) i b
  have:=g.X.W.AA;exact iE (HU o) h j g (by omega)
 .rw[Af b];grind
open Classical in
theorem DC.uv {g:CI} {b:G} {e:Ai} {d:T->Prop} (i:DC g b e d) {c:G} {f:T->Prop} (n:∀a,Lv b a->¬d a->c.M a=b.M a/\Lv c a) (o:∀a,f a->Lv c a/\(d a\/¬Lv b a)):DC g c e f:=by
 let⟨l,m,h,j,k,p⟩:=i
 refine⟨l,_,h,(j.TG P:EB (λa=>if Lv b a then m a else .C5) b _ _ _ _ e h).Ar P,k,P⟩<;>grind
def rM{b:C _}{a:D}{c:K}(d:b[a]? =A c):AR 1 [Z Be b,.n a]=A (.pi (Be c)):=EZ d B
def ve{b:CI}{g:G}{M:T->Prop}{p:F}(N:DC b g a (λd=>M d\/¬As p d))(xs:0<=a.AA)(o:Aw g p A5.c 2 (Br b.l a))(xu:(Br b.l a).l<1000000000)(W:(Br b.l a).l≠0){c:C K}(xw:c.l<1000000000)(xb:∀d∈c,0<=d)(s t:F):∃e k,jj W9 17 6 [p,s,Z Be c,.p b.x 0,t] g=jj W9 17 5 [s,.p e 0,Z Be c,.p b.x 0,t] k/\AH g k/\k.M e=A (.I 2 (A5.c (Ny (Br b.l a) c a.AA)))/\Lv k e/\¬Lv g e:=by
 have h:=X2 W c a.AA;let⟨J,y⟩:=Bb (b:=Br b.l a) (a:=0) (by omega)
 let⟨S,v⟩:=CD (f:=A5.c) (w:=2) (λ_=>B) o y
 have xl:=v.AL (f:=A5.c) (λ_=>B) y;have xe:AR 2 [p,.n 0]=A (.p S (0*2)):=v.ia;let⟨U,q⟩:=CD (f:=A5.c) (w:=2) (λ_=>B) o h
 have xz:=q.AL (f:=A5.c) (λ_=>B) h;let⟨e,m,E,xa,j,Y,xg,I⟩:=box g (.I 2 (A5.c J))
 let⟨xq,xn⟩:=EL g (b:=2) [(.n 0),(.n 0)] (c:=A5.c J) E xa B B
 have Q:=N.ext j;let⟨xx,xy,xA,R,xc,xt⟩:=Q
 have xp:=R.M;have xh:=DF Be c;have xj:=Cp (o.ext j);by_cases V:a.AA<c.l
 .let⟨d,xd⟩:=Bb (b:=c) (a:=a.AA.n) (by omega)
  have xk:=xb d P;have xf:AR 1 [Z Be c,.n a.AA]=A (.pi (Be d)):=by have:=rM xd;grind
  have xi:AM m [.pi (Be d)]=A (.n d):=B;have z:((Br b.l a).l:K)≠0:=by omega
  have xv:=Aim d z;have r:NA (Br b.l a).l c a.AA=(d %(Br b.l a).l).n:=by unfold NA;grind
  have X:A6 .rem [.n d,.n (Br b.l a).l]=A (.n (NA (Br b.l a).l c a.AA)):=by rw[WL .n _ z,Age xk,r];congr 2;omega
  have xm:m.AL U (NA (Br b.l a).l c a.AA*2) 2=A (A5.c (Ny (Br b.l a) c a.AA)):=by
   let⟨xr,u⟩:=CD (f:=A5.c) (w:=2) (λ_=>B) (o.ext j) h
   have x:=u.ia;rw[q.ia]at x;cases x
   exact u.AL (f:=A5.c) (λ_=>B) h
  have xo:=Gb Y (a:=A5.c (Ny (Br b.l a) c a.AA)) B B;refine⟨e,m.set e (.I 2 (A5.c (Ny (Br b.l a) c a.AA))),?_,λd xc=>⟨by rw[AN,Ad P];grind,by grind⟩,by rw[AN,Af B],by grind,I⟩;rw[Ih.2.2.2.2.2.2.1];simp only[QY,xq,xe,xl,E,xn,xp,xh,V,xf,xi,xj,X,H q.ia,xm,xo]
 .have r:NA (Br b.l a).l c a.AA=0:=by unfold NA;grind
  rw[r]at h;refine⟨e,m,?_,j,by grind,xg,I⟩;rw[Ih.2.2.2.2.2.2.1];simp only[QY, *]
def iD{e:CI}(z:BD e.l)(xm:Li e){S:D}(xw:S=400){r:D}{j:C K}(xy:j.l<1000000000)(xx:∀c∈j,0<=c):∀{xj:D}{q:G}{d:Ai}{i:T->Prop}{o:F}{m:C A5}{k:T}{s:Ai×C A5×K},G8 e.l d->m.l<=d.AA->DC e q d (λc=>i c\/¬As o c)->Aw q o A5.c 2 m->(∀c,i c->As o c)->LV e.l S r j xj d m=A s->∃W N,jj W9 17 4 [Z Be j,.p e.x 0,.n 0,o,.p k 0] q=jj W9 17 3 [.p e.x 0,.n s.2.2,W,.p k 0] N/\DC e N s.1 (λc=>i c\/¬As W c)/\Aw N W A5.c 2 s.2.1/\(∀c,i c->As W c)/\Bo i q N
 |0,_,_,_,_,_,_,_,_,_,_,_,_,g=>by cases g
 |xj+1,q,d,i,o,m,k,s,p,yj,xJ,x1,xd,g=>by
  have xF:=bw z p.X;have yk:=p.X.W.AA;have yl:=p.r0;have ym:=p.rf;let⟨yx,xs,xz,xC,u,xO,yh⟩:=ca xJ p.X.W.sh xF
  have xB:=Cp xC;have xG:=x1.Ar λc h r=>⟨P,u.C4 P⟩;unfold LV at g;by_cases J:(Br e.l d).l=0
  .rw[Af J]at g;cases g
   have xb:((Br e.l d).l:K)=0:=by omega
   refine⟨o,xs,?_,u.sub P,xG,xd,P⟩;rw[Ih.2.2.2.2.1];simp only[QY,Ih.2.2.2.2.2.1,xz,xB,xb]
  .rw[Ad J]at g;have xi:=AdU (X2 J j d.AA);let⟨E,xS,xY,t,xf,xk,yt⟩:=ve u Om xC (cc p.X.W.sh xF) J xy xx o (.p k 0)
   generalize Ny (Br e.l d) j d.AA=n at g xi xf;have ys:(m++[n]).l=m.l+1:=by rw[AdY];rfl
   let⟨l,xT,x0,x2,xc,xq⟩:=FJ (f:=A5.c) (w:=2) (b:=n) (o:=.S (A5.c n)) (h:=16) (λ_=>B) B B (xG.ext t) (DG (by omega))
   have yr:=xc.lv xk P;have yw:=xq E xk P;have xl:∀c,i c->Lv xs c:=λc h=>u.C4 (.i (.i h));have xe:=λc h=>xq c (t.lv (xl c h)) (xd c h);let⟨x4,x6,ya,xo,xW,xV⟩:=(((u.V t).sub P:DC e xS d (λc=>(i c\/¬As o c)\/c=E)).uv P P:DC e xT d (λc=>(i c\/¬As l c)\/c=E))
   let⟨xt,x7,xp,xN⟩:=xo.Yj (d.round+1)
   have xn:=xN.Fp (by intro d;cases d) xV;let⟨yn,yp,ye,yd,yu,yo,xI⟩:=uU z p xi
   let⟨xu,x5,xZ,v,xP,_⟩:=gd (⟨x6,ya,xp,xW,P⟩:B_ e xt ⟨d.Ac,d.Am,d.round+1,d.AA⟩ x4 (λc=>(i c\/¬As l c)\/c=E)) xm xI (d.round+1)
   have v:DC e xu _ _:=⟨x5,v⟩;have xD:=x2.Ar λc h r=>⟨P,v.C4 P⟩;have xb:¬((Br e.l d).l:K)=0:=by omega
   have V:∀{xa:R},((W9 _ [.p e.x 0,.S (A5.c n),.n (d.round+1)] xt).b λU=>
     (A6 .eql [U.1,(.n 0)]).b λx9=>
     Da ((W9 (pos 54) [.p e.x 0] U.2).b λxH=>jj W9 17 4 [Z Be j,.p e.x 0,xH.1,l,.p k 0] xH.2) (jj W9 17 4 [Z Be j,.p e.x 0,U.1,l,.p k 0] U.2) x9)=xa->jj W9 17 4 [Z Be j,.p e.x 0,.n 0,o,.p k 0] q=xa:=λ{xa} yi=>by
    rw[Ih.2.2.2.2.1]
    simp only[QY,Ih.2.2.2.2.2.1,xz,xB,xb]
    rw[xY,Ih.2.2.2.2.2.2.2.1]
    simp only[QY,xf,x0,xo.M,(F2 (a:=d.round) (b:=1) (by omega) (by omega)),x7,(BB ((xn.2 E (.j B)).t ((xc.M xk P).t xf))),xp.M]
    omega
   rw[H xZ]at V;have yv:∀(X:K)(xg:G),X≠0->jj W9 17 4 [Z Be j,.p e.x 0,.n X,l,.p k 0] xg=jj W9 17 3 [.p e.x 0,.n X,l,.p k 0] xg:=λX xg xX=>by rw[Ih.2.2.2.2.1];simp only[↓Q,↓QT,AdM,xX]
   by_cases M:(F6 e.l ⟨d.Ac,d.Am,d.round+1,d.AA⟩ n (d.round+1)).2=0
   .rw[Ad Om]at g
    let⟨xQ,yf,xM⟩:=bG z p xi M
    cases xh:Ib e.l S r (F6 e.l ⟨d.Ac,d.Am,d.round+1,d.AA⟩ n (d.round+1)).1 with
    |none=>grind
    |some I=>
     rw[xh]at g;let⟨xL,yg⟩:=xM xh
     have g:(if I.2≠0 then A (I.1,m++[n],I.2)else LV e.l S r j xj I.1 (m++[n]))=A s:=g;let⟨xv,xA,Y,yb⟩:=ak z xw (v.sub (c:=λc=>i c\/¬As l c) P) xQ.W.sh xh
     have xE:Aw xv l A5.c 2 (m++[n]):=xD.Ar λc h r=>⟨P,Y.C4 P⟩;by_cases xr:I.2=0
     .rw[Ad Om]at g;let⟨x8,xU,yq,xK,x3,xR,yc⟩:=iD z xm xw xy xx (k:=k) xL (by omega) Y xE xe g
      refine⟨x8,xU,V ?_,xK,x3,xR,P⟩;rw[xr]at xA;simp only[QY,M,xA];omega
     .rw[Af xr]at g;cases g
      refine⟨l,xv,V ?_,Y,xE,xe,P⟩;simp only[QY, *];grind
   .rw[Af M]at g;cases g
    refine⟨l,xu,V ?_,v.sub P,xD,xe,(λc h=>(xP c (.i (.i h))).t ((xn.2 c (.i (.i h))).t ((xc.M (t.lv (xl c h)) (xd c h)).t ((t.M (xl c h)).t (xO c (.i h))))))⟩;simp only[↓Q,↓QT,AdM,M];grind
def LS(b:C Ab)(d:C K)(a:Ai×C A5×K):C1×C A5×K:=
 if D5 b≠0 then(OF,[],D5 b)else if(d.any λc=>Ao (c<0))=L then(OF,[],3)else if a.2.2≠0 then(OF,[],a.2.2)else(DA b a.1,a.2.1,0)
def lw(e:C _)(c:G):M4 (λb=>b=c) (pos 50) [] e (λa=>.n a) (λa=>Ao (a<0)):=λa _ b d=>⟨b,AZ B B (by rw[s2,H (D7 .n a 0)]),d⟩
def ig(b:C K)(d:b.l<1000000000)(a:G):W9 (pos 49) [Z Be b,.f (pos 50) []] a=A (.b (b.any λe=>Ao (e<0)),a):=by obtain⟨h,i,rfl⟩:=M7 dZ gM (t:=λc=>c=a) (IX.Z (b:=Be) (z:=1) b (w:=λg=>.n g) (y:=AM) (λ_=>B) (λ_ _=>B)) (lw b a) d a B;grind
def p6{i:C Ab}(xm:Cl i){T p N:D}(xn:T=400)(j:AQ)(xK:j.l.l<=2000000)(xL:D3 j.l<=100000000){h:C K}(yi:h.l<1000000){b:Ai×C A5×K}(n:Tp i T p N j h=A b):AY 17 [Z Ab.c i,.S (AQ.c j),Z Be h] (.AB [.S (C1.c (LS i h b).1),Z A5.c (LS i h b).2.1,.n (LS i h b).2.2]):=by
 let⟨xq,v,xQ,xO,x6,yc,yk,ym⟩:=box G.Aq (.I 2 (AQ.c j))
 let⟨a,k,xR,xP,x7,xb,yl,yn⟩:=box v (.I 7 o7)
 have x3:∀(m:F->G->R),bl (.p G.Aq.next 0) (G.Aq.V (.I (Bq (F.I (.S (AQ.c j)))) (F.I (.S (AQ.c j))))) m=m (.p xq 0) v:=Dy G.Aq (.I 2 (AQ.c j)) xQ xO;have x4:∀(m:F->G->R),bl (.p v.next 0) (v.V (.I 7 o7)) m=m (.p a 0) k:=Dy v _ xR xP;have xZ:k.AL xq 0 2=A (AQ.c j):=BB P;have yo:k.AL a 0 7=A o7:=BB xb;have ys:=Gb xb (a:=o7) B B;have yp:(k.set a (.I 7 o7)).AL a 0 7=A o7:=BB (by rw[AN,Af B]);have W:=qL i xm;by_cases xD:D5 i=0
 .by_cases xa:(h.any λd=>Ao (d<0))=L
  .have y:LS i h b=(OF,[],3):=by unfold LS;grind
   rw[y];have S:=ig h (by omega) k;rw[xa]at S;refine EV B B (e:=.AB [.S o7,.sn,.n 3]) (c:=k.set a (.I 7 o7)) ?_ (h:=k.set a (.I 7 o7)) B;rw[Ih.1];simp only[QY,W.H B,Ih.2.1,QB, *]
  .have xF:(h.any λd=>Ao (d<0))=Aa:=by grind
   have S:=ig h (by omega) k
   rw[xF]at S
   unfold Tp at n
   cases xc:JA i T p j with
   |none=>grind
   |some r=>
    rw[xc]at n;have n:(if r.2≠0 then A (r.1,[],r.2)else LV i T p h N r.1 [])=A b:=n;let⟨x2,M,xT,xB,x8,xA⟩:=gc xm xn j xK xL xc k (n:=λd=>d=a) (λd q=>by grind)
    have xI:=(xB a B).t xb;have xr:∀I J:F,CO 0 [.AB [I,J]]=A I:=λ_ _=>B;have xs:∀I J:F,CO 1 [.AB [I,J]]=A J:=λ_ _=>B;have U:∀{Y:R},jj W9 17 4 [Z Be h,x2,.n r.2,.sn,.p a 0] M=Y->xx W9 17 [Z Ab.c i,.S (AQ.c j),Z Be h] G.Aq=Y:=λ{Y} yf=>by rw[Ih.1];simp only[↓x3,↓x4,↓Q,↓QT,↓W.H B,xD,Ih.2.1,↓H S,QB,Ih.2.2.1,↓H xZ,↓H xT,↓H (xr _ _),↓H (xs _ _)];grind
    have x9:∀{x:G}{xt:C F}{z V:F}{t:K},x.M a=A (.I 7 xt)->t≠0->jj W9 17 3 [z,.n t,V,.p a 0] x=A (.AB [.S o7,.sn,.n t],x.set a (.I 7 o7)):=λ{x xt z V t} xN yg=>by have ya:Cb o7 [] []=A (.S o7):=B;have yt:=Gb xN (a:=o7) B B;have yr:(x.set a (.I 7 o7)).AL a 0 7=A o7:=BB (by rw[AN,Af B]);rw[Ih.2.2.2.1];simp only[QY,Ih.2.2.2.2.2.2.2.2.1, *]
    by_cases s:r.2=0
    .rw[Ad Om]at n;obtain⟨e,xM,rfl,xy,xu⟩:=xA s;subst xM;let⟨xE,m⟩:=PL (λxJ=>HU xJ) xc s
     have X:=HU xE;have yh:=m.X.W.AA;let⟨V,xk,xo,xv,xW,yb,xC⟩:=iD X xy xn (by omega) P (o:=.sn) (m:=[]) (k:=a) m (by grind) (xu.sub λd q=>q.resolve_right λN=>N (Cg d)) (Aw.sn M) (λd _=>Cg d) n
     rw[s]at U;by_cases xh:b.2.2=0
     .let⟨xz,_⟩:=iC X m (by grind) n
      have E:=xz xh;let⟨g,o,x5,yj,xe,xV,xd,xw⟩:=f_ X xv E.X.W.sh E.X.W.Fj E.Ld (λz xS=>by obtain⟨xH,_,rfl⟩:=Aeu.1 xS;exact E.X.W.Bs 0 xH:∀z∈FF e.l b.1,Gt z b.1.Am.l=L)
      have xi:=(xd a (.i B)).t ((xC a B).t xI);have xX:=xW.Ar λd q p=>⟨xd d (.j p),xw d (.j p)⟩;have xg:=xe.dn (DA e.l b.1);have yu:=Gb xi (a:=Ei (DA e.l b.1) g) B xg;have yq:(o.set a (.I 7 (Ei (DA e.l b.1) g))).AL a 0 7=A (Ei (DA e.l b.1) g):=BB (by rw[AN,Af B]);have xj:(o.set a (.I 7 (Ei (DA e.l b.1) g))).M a=A (.I 7 (Ei (DA e.l b.1) g)):=by rw[AN,Af B]
      have x1:=Gb xj (a:=Ei (DA e.l b.1) g) B xg;have x0:((o.set a (.I 7 (Ei (DA e.l b.1) g))).set a (.I 7 (Ei (DA e.l b.1) g))).AL a 0 7=A (Ei (DA e.l b.1) g):=BB (by rw[AN,Af B]);have xp:∀d,d≠a->((o.set a (.I 7 (Ei (DA e.l b.1) g))).set a (.I 7 (Ei (DA e.l b.1) g))).M d=o.M d:=λd q=>by rw[AN,Ad q,AN,Ad q]
      have xU:∀d,Lv ((o.set a (.I 7 (Ei (DA e.l b.1) g))).set a (.I 7 (Ei (DA e.l b.1) g))) d=Lv o d:=by grind
      have xf:=(xe.set xi (.I 7 (Ei (DA e.l b.1) g))).set xj (.I 7 (Ei (DA e.l b.1) g));generalize ye:(o.set a (.I 7 (Ei (DA e.l b.1) g))).set a (.I 7 (Ei (DA e.l b.1) g))=xl at x1 x0 xp xU xf;have xY:Aw xl V A5.c 2 b.2.1:=xX.Ar λd q p=>⟨xp d λt=>p (by grind),by grind⟩;unfold LS;rw[Ad Om,Ad xa,Ad Om];let⟨yd,xG⟩:=W7 (BS.cons (xf.fa xV) (BS.cons ((Fs.Cs (a:=A5.c) (g:=2) (λ_ _=>Aeb) (λ_=>B) (λ_=>B) xY).up (by omega)) (BS.cons ((Fs.im (a:=.n 0) B).up (by omega)) (BS.nil 5 _))))
      refine EV B B (c:=xl) (U ?_) xG;rw[xo,xh,Ih.2.2.2.1];simp only[QY,H (xr _ _),H (xs _ _),Ih.2.2.2.2.2.2.2.2.1,Ih.2.2.2.2.2.2.2.2.2, *]
     .have y:LS e.l h b=(OF,[],b.2.2):=by unfold LS;grind
      rw[y];refine EV B B (e:=.AB [.S o7,.sn,.n b.2.2]) (c:=xk.set a (.I 7 o7)) (U ?_) (h:=xk.set a (.I 7 o7)) B;rw[xo];grind
    .rw[Af s]at n;cases n
     unfold LS;rw[Ad Om,Ad xa,Af s];refine EV B B (e:=.AB [.S o7,.sn,.n r.2]) (c:=M.set a (.I 7 o7)) (U ?_) (h:=M.set a (.I 7 o7)) B;rw[Ih.2.2.2.2.1];simp only[↓Q,↓QT,AdM,s];grind
 .have y:LS i h b=(OF,[],D5 i):=by unfold LS;grind
  rw[y];refine EV B B (e:=.AB [.S o7,.sn,.n (D5 i)]) (c:=k.set a (.I 7 o7)) ?_ (h:=k.set a (.I 7 o7)) B;rw[Ih.1];simp only[QY,W.H B, *]
abbrev PE:=F×C Bf
def Us(a:PE):C F:=[a.1]
def SF(a:C Bf):C F:=[Z Bf.c a]
structure PI(e:G)(d:F)(c:G)(b:C PE):Prop where
 Cs:Aw c d Us 1 b
 ro:∀a∈b,Aw c a.1 Bf.c 2 a.2
 HF:∀a∈b,∀f,¬As a.1 f->As d f
 E:AH e c
 fu:Dx e d
def PI.add{u q:G}{n b:F}{k:C PE}{i:C Bf}{g:G}(e:PI u n q k)(v:Aw g b Bf.c 2 i)(p:AH q g)(M:Dx q b)(U:k.l<1000000):∃o l,(∀(s:F×G->R),((Dq 1 1 g.next [b]).b λa=>(DN 1 24 (G.V g a.1) [n,a.2]).b s)=s (o,l))/\PI u o l (k++[(b,i)]):=by
 have N:BU (Us (b,i))=L:=by unfold Us;rw[DJ];simp[(Cr v).2]
 let⟨o,l,Q,S,t,H⟩:=FJ (f:=Us) (w:=1) (b:=((b,i))) (o:=b) (h:=24) (λ_=>B) N (Cr v).1 (e.Cs.ext p) (DG (by omega))
 have V:∀a,¬As b a->As n a:=λa m=>AdS λz=>m (M a (e.Cs.Cz z));have I:∀c∈k++[((b,i))],Aw g c.1 Bf.c 2 c.2/\(∀a,¬As c.1 a->As n a):=λc d=>by
  rcases Aej.1 d with d|d;.exact⟨(e.ro c d).ext p,e.HF c d⟩
  .grind
 have r:=e.E.AI p;refine⟨o,l,Q,S,λc d=> ?_,λc d a m=> ?_,λj h=> ?_,λj h=> ?_⟩
 .let⟨T,J⟩:=I c d
  exact T.Ar λa P m=>t a P (J a m)
 .grind
 .have:=t j (r.lv h) (e.fu j h);grind
 .exact H j (r.lv h) (e.fu j h)
def PI.fs{i c:G}{h:F}{a:C _}(b:PI i h c a):Fs (λ_=>True) 4 c h (YtbmnfifnenajjaaGreat.Z SF (a.m (·.2))):=by
 refine Fs.Rt (c:=3) (d:=Us) (e:=SF) (λ_ _=>Aeb) (by omega) (λ_=>B) (λ_=>B) b.Cs ?_
 have e:=b.ro
 clear b
 induction a with
 |nil=>exact .nil
 |cons l n k=>refine .cons ?_ (k λm j=>e m (Aez _ j));have:=Fs.Cs (t:=λ_=>True) (a:=Bf.c) (g:=2) (λ_ _=>Aeb) (λ_=>B) (λ_=>B) (e l (Aey ..));exact BS.cons (this.up (by omega)) (BS.nil 3 c)
def VA(a:Ai):C (C Bf):=(List.range a.Ac.l).m (FX a)
def Tw(a:Ai×K):C (C Bf):=if a.2≠0 then[]else VA a.1
def qz{t:C Ab}(xD:Cl t){l X V:D}(xE:l=400)(f:AQ)(xy:f.l.l<=2000000)(xz:D3 f.l<=100000000){b:Ai×K}(z:Hr t l X V f=A b):AY 20 [Z Ab.c t,.S (AQ.c f)] (.AB [Z SF (Tw b),.n b.2]):=by
 have xr:∀g:CI,g.l=t->Li g->P5 g l (λd=>BD t/\G8 t d):=λg U xp=>by
  subst U;have r:=λxb=>jx (c:=g) xb l;exact{
   PQ:=λd a=>(r a.1).PQ d a.2
   Av:=λd a=>(r a.1).Av d a.2
   round:=λd a=>(r a.1).round d a.2
   Su:=λd a=>(r a.1).Su d a.2
   Th:=λd a=>(r a.1).Th d a.2
   Dj:=λd X b a xF m o=>⟨a.1,(r a.1).Dj d X b a.2 xF m o⟩}
 let⟨xi,o,xG,xC,xU,xx,x4,x5⟩:=box G.Aq (.I 2 (AQ.c f))
 have xT:∀(a:F->G->R),bl (.p G.Aq.next 0) (G.Aq.V (.I (Bq (F.I (.S (AQ.c f)))) (F.I (.S (AQ.c f))))) a=a (.p xi 0) o:=Dy G.Aq (.I 2 (AQ.c f)) xG xC;have xO:o.AL xi 0 2=A (AQ.c f):=BB xx;let⟨x9,k,xg,xW,xV,xq⟩:=f9 xD xE f xy xz xr (λb z o=>by let⟨j,a⟩:=PL (λm=>HU m) z o;exact⟨HU j,a⟩) z o (g:=λ_=>False) (λ_ xf=>xf.elim)
 have xj:∀w x:F,CO 0 [.AB [w,x]]=A w:=λ_ _=>B;have xk:∀w x:F,CO 1 [.AB [w,x]]=A x:=λ_ _=>B;by_cases j:b.2=0
 .obtain⟨g,U,rfl,xp,xn⟩:=xq j;subst U;let⟨xb,a⟩:=WZ (λm=>HU m) z j
  have xc:=a.X.W.sh;have x2:=xc.A7;let⟨x6,x7,xR,P,xf,x1⟩:=xn
  have xS:k.Ap g.x 2=A xR.cv:=Ay P.M 2;have xh:=Cp P.Ac;rw[Ad0]at xh;let⟨⟨Y,E⟩,v,T,M,l⟩:=Dh (h:=b.1.Ac.l) (f:=λp q m=>jj W9 20 2 [.n b.1.Ac.l,.p g.x 0,.n p,q.2] m)
   (g:=λp q y=>PI k q.2 y q.1/\q.1.m (·.2)=(List.range p).m (FX b.1))
   (λp q y xe u=>by
    let⟨J,x8⟩:=q
    let⟨u,N⟩:=u
    simp only[]at u N⊢;let⟨j,xB⟩:=Bb xe
    have xX:=Cm xe;let⟨xM,xY,x3,xJ,xl,xv⟩:=gi (P.ext u.E) xc xB
    have x0:J.l=p:=by have:=AdW List.length N;rw[Ad9,Ad9,Ad0]at this;grind
    let⟨xQ,xA,W,xo⟩:=u.add xJ xl xv (by omega)
    refine⟨(J++[(xM,FX b.1 p)],xQ),xA,?_,xo,by show(J++[_]).m _=_;rw[Aes,N,AeX,Aes];rfl⟩;show jj W9 20 2 _ _=jj W9 20 2 _ _;rw[Pu.2.2.2.1];simp only[QY,Pu.2.2.2.2.1,Pu.2.2.2.2.2,H (Bh (a:=p) (by omega)), *])
   (b:=([],.sn)) (a:=k) ⟨⟨Aw.sn k,λf xH=>(by grind),λf xH=>(by grind),AH.refl k,λxN _=>Cg xN⟩,B⟩
  have T:jj W9 20 2 [.n b.1.Ac.l,.p g.x 0,.n 0,.sn] k=jj W9 20 2 [.n b.1.Ac.l,.p g.x 0,.n b.1.Ac.l,E] v:=T;have M:PI k E v Y:=M;have l:Y.m (·.2)=VA b.1:=l;have xs:=CA b.1.Ac.l;have xw:Fs (λ_=>True) 6 v (.AB [E,.n 0]) (.AB [Z SF (VA b.1),.n 0]):=by
   intro W xa xL;have xd:=M.fs;rw[l]at xd;let⟨xm,xt,xK⟩:=(BS.cons (xd.up (b:=5) (by omega)) (BS.cons ((Fs.im (t:=λ_=>True) (c:=v) (a:=.n 0) B).up (by omega)) (BS.nil 5 _))) W xa xL
   refine⟨xm,?_,xK⟩;show(match CT (Df (W+5)) xa [E,.n 0]with|some (xI,y)=>A (F.AB xI,y)|none=>O)=_;rw[xt]
  let⟨xZ,xu,_⟩:=xw 34 _ (FC.refl _)
  unfold Tw;rw[Ad (λV=>V j)];rw[j];rw[j]at xg;refine EV B B (c:=v) ?_ xu;rw[Pu.1];simp only[↓xT,↓Q,↓QT,↓H xO,↓H xg,↓H (xj _ _),↓H (xk _ _),Pu.2.1,↓H xS,↓H xh];rw[T,Pu.2.2.2.1];simp only[↓Q,↓QT,AdM,xs,Pu.2.2.1]
 .have xP:Tw b=[]:=by unfold Tw;rw[Af j]
  rw[xP];refine EV B B (e:=.AB [.sn,.n b.2]) (c:=k) ?_ (h:=k) B;rw[Pu.1];simp only[QY,H (xj _ _),H (xk _ _), *]
def Wx(e:T->C F->Ae F):Bd:=λd b c=>match FV c b with
 |some a=>(match e d a.1 with|some f=>A (f,a.2)|none=>O)
 |none=>O
def m0{f:T->C F->Ae F}(j:∀c b e,f c b=A e->∃d,c=pos d/\AY d b e):E1 (Wx f) W9:=λc b h e a=>by
 unfold Wx at a;split at a
 .rename_i m k;split at a
  .rename_i o l;cases a
   obtain⟨d,rfl,g⟩:=j _ _ _ l;obtain⟨n,i⟩:=m;exact g h b i k
  .cases a
 .cases a
def mR{a:D}(w:MI a)(u:KX (pos a)=Aa){h:Bd}(t:E1 h W9){d:C F}{e r:G}{f g:F}(l:xx h a d G.Aq=A (f,e))(v:Dp e f=A (g,r)):AY a d g:=λj i k s=>by
 obtain⟨q,n,o,p,x,_⟩:=XR (LP w);have m:RD h q d G.Aq=A (f,e):=by rw[ck p,<-o];exact l
 obtain⟨c,b⟩:=cl m;have b:=d1 t (CK c) b;show W (λ_ _=>O) KX (L3 P9) (pos a) i j=A (g,k);refine Yp (c:=c) ?_;unfold KJ;rw[u];show JC (λ_ _=>O) (H5 (L3 P9) c W9) (pos a) i j=A (g,k);unfold JC;have b:H5 (L3 P9) c W9 (pos a) d G.Aq=A (f,e):=by unfold H5;rw[n];exact b
 rw[s];simp only[b,v]
def Xk{c:D}(m:MI c)(k:KX (pos c)=Aa){h:T->C F->Ae F}(l:∀c i d,h c i=A d->∃j,c=pos j/\AY j i d){e:C F}{d:F}(a:((xx (Wx h) c e G.Aq).b λb=>Dp b.2 b.1).map (·.1)=A d):AY c e d:=by
 cases f:xx (Wx h) c e G.Aq with
 |none=>rw[f]at a;cases a
 |some b=>
  rw[f]at a
  have a:(Dp b.2 b.1).map (·.1)=A d:=a
  cases g:Dp b.2 b.1 with
  |none=>rw[g]at a;cases a
  |some n=>
   rw[g]at a;cases a
   exact mR m k (m0 l) (f:=b.1) (e:=b.2) f (r:=n.2) g
def qI(a:K):AY 78 [.i .n a] (.S [.i .n (-1),.i .n a]):=Bu B B B ⟨_,by rw[s6];rfl⟩
def qJ(a:K):AY 79 [.i .n a] (.S [.i .n a,.i .n 0]):=Bu B B B ⟨_,by rw[s7];rfl⟩
def qK(d:K)(c:C D)(a:K)(b:C (C F)):AY 80 [.i .u8 d,.s c,.i .n a,.CV b] (.S [.i .u8 d,.s c,.i .n a,.CV b]):=Bu B B B ⟨_,by rw[s8];rfl⟩
def iR:T->C F->Ae F:=λa c=>match c with
 |[.i .n b]=>Aj (T.eq a (pos 78)) (A (.S [.i .n (-1),.i .n b])) (Aj (T.eq a (pos 79)) (A (.S [.i .n b,.i .n 0])) O)
 |[.i .u8 g,.s f,.i .n d,.CV e]=>Aj (T.eq a (pos 80)) (A (.S [.i .u8 g,.s f,.i .n d,.CV e])) O
 |_=>O
def vi:∀c e g,iR c e=A g->∃d,c=pos d/\AY d e g:=λc e g a=>by
 unfold iR at a;split at a
 .rename_i d
  cases b:T.eq c (pos 78)with
  |true=>rw[b]at a;cases a;exact⟨78,T.N4 b,qI d⟩
  |false=>
   rw[b]at a
   cases f:T.eq c (pos 79)with
   |true=>rw[f]at a;cases a;exact⟨79,T.N4 f,qJ d⟩
   |false=>rw[f]at a;cases a
 .rename_i k j h i
  cases b:T.eq c (pos 80)with
  |true=>rw[b]at a;cases a;exact⟨80,T.N4 b,qK k j h i⟩
  |false=>rw[b]at a;cases a
 .cases a
def pw(a:K):AF:=⟨-1,a⟩
def nw(a:K):AF:=⟨a,0⟩
def bW:Ab:=⟨[109,97,105,110],2,[⟨1,[],0,[pw 0]⟩,⟨12,[],0,[pw 1,nw 0]⟩,⟨1,[],1,[pw 0]⟩,⟨9,[109,97,105,110,46,48],0,[pw 0,nw 1,nw 2]⟩],[],[nw 3]⟩
def bV:Ab:=⟨[109,97,105,110,46,48],3,[⟨1,[],0,[pw 0]⟩,⟨4,[108,116],0,[nw 0,pw 1]⟩,⟨5,[],0,[nw 1,pw 0]⟩,⟨5,[],0,[nw 1,pw 1]⟩,⟨5,[],0,[nw 1,pw 2]⟩,⟨1,[],1,[nw 2]⟩,⟨4,[115,117,98],0,[nw 3,nw 5]⟩,⟨4,[97,100,100],0,[nw 4,nw 4]⟩],[nw 2,nw 6,nw 7],[⟨4,1⟩]⟩
def FK:C Ab:=[bW,bV]
def pV:AY 36 [] (Z Ab.c FK):=Xk B B vi (by kernel_rfl)
def KY:AQ:=⟨[[2]],[L]⟩
def Xm:AQ:=⟨[[0]],[L]⟩
def Xn:AQ:=⟨[[]],[Aa]⟩
def Nw(b:C Ab)(a:Ai):Ci×K×D×D×K×C Bt:=(GC a.Am (FF b a),a.AA,a.Ac.l,a.Am.l,a.round,Ms b a a.Ac.l)
def iH{g:C Ab}{e:Ai}{i:C N}{d:C (C N)}{f h:K}{b c:D}(a:Nw g e=(⟨i,d⟩,f,b,c,h,[])):DA g e=⟨i,d,f,b,c,h,[]⟩:=by unfold Nw at a;simp only[AfM]at a;obtain⟨j,k,l,m,n,o⟩:=a;unfold DA Mv;rw[o,j,k,l,m,n];unfold VT;simp
def wQ{c:C Ab}{i j:D}{m:AQ}{l:C N}{g:C (C N)}{h k:K}{e f:D}(b:(Hr c i j d m).map (λa=>(a.2,Nw c a.1))=A (0,⟨l,g⟩,h,e,f,k,[])):∃a,Hr c i j d m=A a/\B7 c a=(⟨l,g,h,e,f,k,[]⟩,0):=by
 cases p:Hr c i j d m with
 |none=>rw[p]at b;cases b
 |some a=>rw[p]at b;have b:A (a.2,Nw c a.1)=A (0,⟨l,g⟩,h,e,f,k,[]):=b;simp only[AfG]at b;have n:=AdW (·.1) b;have o:=AdW (·.2) b;simp only[]at n o;refine⟨a,B,?_⟩;unfold B7;rw[Ad (λd=>d n),iH o]
def nS:(Hr FK 400 2000001 6001 KY).map (λa=>(a.2,Nw FK a.1))=A (0,⟨[⟨1,4⟩],[]⟩,25,4,1,12,[]):=by kernel_rfl
def nR:(Hr FK 400 2000001 6001 Xm).map (λa=>(a.2,Nw FK a.1))=A (0,⟨[⟨1,1⟩],[]⟩,9,2,1,4,[]):=by kernel_rfl
def nY:(Hr FK 400 2000001 6001 Xn).map (λa=>(a.2,Nw FK a.1))=A (0,⟨[⟨0,0⟩],[]⟩,4,2,0,2,[]):=by kernel_rfl
def Ty:C K:=[1,3,2,5,0,7]
def VU:C A5:=[⟨0,2⟩,⟨0,3⟩,⟨0,0⟩,⟨1,0⟩,⟨0,1⟩,⟨1,1⟩,⟨1,2⟩,⟨1,3⟩,⟨1,4⟩,⟨1,5⟩,⟨1,6⟩,⟨1,7⟩,⟨2,0⟩,⟨2,1⟩,⟨2,2⟩,⟨2,3⟩,⟨2,4⟩,⟨2,5⟩,⟨2,6⟩,⟨2,7⟩,⟨3,0⟩,⟨3,1⟩,⟨3,2⟩,⟨3,3⟩,⟨3,4⟩]
def nZ:(Tp FK 400 2000001 6001 KY Ty).map (λa=>(a.2.2,a.2.1,Nw FK a.1))=A (0,VU,⟨[⟨1,4⟩],[]⟩,25,4,1,25,[]):=by kernel_rfl
def n0:(Hr FK 400 2000001 6001 KY).map (λa=>(a.2,VA a.1))=A (0,[[],[⟨3,0⟩],[⟨3,1⟩],[⟨3,2⟩]]):=by kernel_rfl
def iS(d:C (D×C F×F)):T->C F->Ae F:=λc b=>match d with
 |[]=>O
 |a::e=>Aj (T.eq c (pos a.1)&&JP b a.2.1) (A a.2.2) (iS e c b)
def X3:∀{g:C _},(∀f∈g,AY f.1 f.2.1 f.2.2)->∀c b d,iS g c b=A d->∃h,c=pos h/\AY h b d
 |[],_,c,b,d,a=>by cases a
 |f::i,j,c,b,d,a=>by
  have a:Aj _ _ _=A d:=a
  cases e:T.eq c _&&JP b _ with
  |true=>rw[e]at a;cases a;rw[AdO]at e;refine⟨f.1,T.N4 e.1,?_⟩;rw[NX _ e.2];grind
  |false=>rw[e]at a;exact X3 (g:=i) P c b d a
def o2:C1:=⟨[⟨1,4⟩],[],25,4,1,12,[]⟩
def o0:C1:=⟨[⟨1,1⟩],[],9,2,1,4,[]⟩
def oN:C1:=⟨[⟨0,0⟩],[],4,2,0,2,[]⟩
def oO:C1:=⟨[⟨1,4⟩],[],25,4,1,25,[]⟩
def bY:Cl FK:=by
 refine⟨by decide,λb c=> ?_⟩;have:b=bW\/b=bV:=by simpa[FK]using c
 rcases this with rfl|rfl;.refine⟨by decide,by decide,by decide,by decide,by decide,λd a=> ?_⟩;simp only[bW,Ad6,Ae2,Ae3]at a;rcases a with rfl|rfl|rfl|rfl<;>exact⟨by grind,by decide⟩
 .refine⟨by decide,by decide,by decide,by decide,by decide,λd a=> ?_⟩;simp only[bV,Ad6,Ae2,Ae3]at a;rcases a with rfl|rfl|rfl|rfl|rfl|rfl|rfl|rfl<;>exact⟨by grind,by grind⟩
def cj{a:AQ}(j:a.l.l<=2000000)(k:D3 a.l<=100000000){h:C N}{e:C (C N)}{f g:K}{c:D}(i:(Hr FK 400 2000001 6001 a).map (λb=>(b.2,Nw FK b.1))=A (0,⟨h,e⟩,f,c,d,g,[])):AY 12 [Z Ab.c FK,.S (AQ.c a)] (.AB [.S (C1.c ⟨h,e,f,c,d,g,[]⟩),.n 0]):=by
 let⟨b,l,m⟩:=wQ i
 have n:=jD bY B a j k l;grind
def vx:AY 12 [Z Ab.c FK,.S (AQ.c KY)] (.AB [.S (C1.c o2),.n 0]):=cj (by decide) (by decide) nS
def vw:AY 12 [Z Ab.c FK,.S (AQ.c Xm)] (.AB [.S (C1.c o0),.n 0]):=cj (by decide) (by decide) nR
def vM:AY 12 [Z Ab.c FK,.S (AQ.c Xn)] (.AB [.S (C1.c oN),.n 0]):=cj (by decide) (by decide) nY
def vA:AY 17 [Z Ab.c FK,.S (AQ.c KY),Z Be Ty] (.AB [.S (C1.c oO),Z A5.c VU,.n 0]):=by
 have a:=nZ
 cases e:Tp FK 400 2000001 6001 KY Ty with
 |none=>grind
 |some b=>
  rw[e]at a;have a:A (b.2.2,b.2.1,Nw FK b.1)=A (0,VU,⟨[⟨1,4⟩],[]⟩,25,4,1,25,[]):=a;simp only[AfG]at a;have f:=AdW (·.1) a;have c:=AdW (·.2.1) a;have d:=AdW (·.2.2) a;simp only[]at f c d;have h:=p6 bY B KY (by decide) (by decide) (h:=Ty) (by decide) e;have g:LS FK Ty b=(oO,VU,0):=by unfold LS;rw[Ad (by decide),Ad (by decide),Ad Om,iH d,c];rfl
  grind
def vz:AY 20 [Z Ab.c FK,.S (AQ.c KY)] (.AB [Z SF [[],[⟨3,0⟩],[⟨3,1⟩],[⟨3,2⟩]],.n 0]):=by
 have a:=n0
 cases c:Hr FK 400 2000001 6001 KY with
 |none=>grind
 |some b=>
  rw[c]at a;have a:A (b.2,VA b.1)=A (0,[[],[⟨3,0⟩],[⟨3,1⟩],[⟨3,2⟩]]):=a;simp only[AfG]at a;have d:=AdW (·.1) a;have e:=AdW (·.2) a;simp only[]at d e;have g:=qz bY B KY (by decide) (by decide) c;have f:Tw b=[[],[⟨3,0⟩],[⟨3,1⟩],[⟨3,2⟩]]:=by unfold Tw;grind
  grind
def gf(a:C N)(b:a.l<1000):AY 25 [.S (Hg a []),.S (Hg a [])] (.b L):=by have:=ge a a [] [] (by omega) (by grind) P;grind
def vF:AY 38 [.S (C1.c o2),.S (N.c ⟨1,4⟩),.n 25,.n 4,.n 1] (.b L):=
 Xk B B (X3 (g:=[(25,[.S (Hg [⟨1,4⟩] []),.S (Hg [⟨1,4⟩] [])],.b L)]) λb a=>by rw[AeW.1 a];exact gf _ (by grind)) (by kernel_rfl)
def vB:AY 38 [.S (C1.c oN),.S (N.c ⟨0,0⟩),.n 4,.n 2,.n 0] (.b L):=
 Xk B B (X3 (g:=[(25,[.S (Hg [⟨0,0⟩] []),.S (Hg [⟨0,0⟩] [])],.b L)]) λb a=>by rw[AeW.1 a];exact gf _ (by grind)) (by kernel_rfl)
def cK{a:C N}(f:a.l<=10)(d b c e:K):RJ ⟨a,[],d,b,c,e,[]⟩:=⟨AeA _,(by grind),AeA _,P,P⟩
def vD:AY 40 [.S (C1.c o2),.S (C1.c oO)] (.b L):=g24 _ _ (cK (by grind) _ _ _ _)
def vE:AY 41 [.S (C1.c o2),.S (C1.c oO)] (.b L):=f7 _ _ (cK (by grind) _ _ _ _)
def vG:AY 41 [.S (C1.c o2),.S (C1.c o0)] (.b Aa):=f7 _ _ (cK (by grind) _ _ _ _)
def b0(a:C Bf)(b:a.l<100):AY 24 [Z Bf.c a,Z Bf.c a] (.b L):=by have:=f8 a a (by omega);grind
def T6:C (D×C F×F):=[(36,[],Z Ab.c FK),
 (37,[.b L,Z Be [2]],.S (AQ.c KY)),(37,[.b L,Z Be [0]],.S (AQ.c Xm)),(37,[.b Aa,Z Be []],.S (AQ.c Xn)),
 (12,[Z Ab.c FK,.S (AQ.c KY)],.AB [.S (C1.c o2),.n 0]),(12,[Z Ab.c FK,.S (AQ.c Xm)],.AB [.S (C1.c o0),.n 0]),(12,[Z Ab.c FK,.S (AQ.c Xn)],.AB [.S (C1.c oN),.n 0]),
 (17,[Z Ab.c FK,.S (AQ.c KY),Z Be Ty],.AB [.S (C1.c oO),Z A5.c VU,.n 0]),
 (39,[.n 4],.S (N.c (EA 4))),(39,[.n 1],.S (N.c (EA 1))),
 (38,[.S (C1.c o2),.S (N.c ⟨1,4⟩),.n 25,.n 4,.n 1],.b L),(38,[.S (C1.c oN),.S (N.c ⟨0,0⟩),.n 4,.n 2,.n 0],.b L),
 (40,[.S (C1.c o2),.S (C1.c oO)],.b L),(41,[.S (C1.c o2),.S (C1.c oO)],.b L),(41,[.S (C1.c o2),.S (C1.c o0)],.b Aa),
 (20,[Z Ab.c FK,.S (AQ.c KY)],.AB [Z SF [[],[⟨3,0⟩],[⟨3,1⟩],[⟨3,2⟩]],.n 0]),
 (24,[Z Bf.c [⟨3,0⟩],Z Bf.c [⟨3,0⟩]],.b L),(24,[Z Bf.c [⟨3,1⟩],Z Bf.c [⟨3,1⟩]],.b L),(24,[Z Bf.c [⟨3,2⟩],Z Bf.c [⟨3,2⟩]],.b L)]
def kV:∀a∈T6,AY a.1 a.2.1 a.2.2:=λa b=>by
 unfold T6 at b;simp only[Ad6,Ae2,Ae3]at b;rcases b with rfl|rfl|rfl|rfl|rfl|rfl|rfl|rfl|rfl|rfl|rfl|rfl|rfl|rfl|rfl|rfl|rfl|rfl|rfl;.exact pV
 .exact ad _ [2] (by grind)
 .exact ad _ [0] (by grind)
 .exact ad _ [] (by grind)
 .exact vx
 .exact vw
 .exact vM
 .exact vA
 .exact Sz 4
 .exact Sz 1
 .exact vF
 .exact vB
 .exact vD
 .exact vE
 .exact vG
 .exact vz
 .exact b0 _ (by grind)
 .exact b0 _ (by grind)
 .exact b0 _ (by grind)
def g6:AY 9 [] (.b L):=Xk B B (X3 kV) (by rw[r9];simp only[vL];kernel_rfl)
end Go.Proofs.YtbmnfifnenajjaaGreat
namespace Go.Fg
open Go.WideShapes
structure V7(y:(u:Type)->DataW u->Prop)(q:D):Prop where
 S:∀{u:Type}{f:C (DataW u)},y u (.agg f)->∀b∈f,y u b
 CV:∀{u:Type}{a g:C (DataW u)},y u (.slice a g)->(∀b∈a,y u b)/\a.l<=q
 j6:∀{u:Type}{d:C UInt8},y u (.lit (.string d))->d.l<=q
theorem Fin.rm{g l:AT}{u h:G}{d f:By}(a:Fin g u d l h f)(m:∀b i,g b=A i->u.M b=O):RowKit.Grown d f:=by refine⟨⟨a.AD.2.1,a.AD.2.2.1,λk j=> ?_⟩,a.AD.2.2.2,a.Ez⟩;rw[a.FU k j P];grind
def Kg(g:By):AT:=⟨λ_=>O,λd a b=>∃f:IB->D->D->Prop,(∀d a b,f d a b->BI ⟨λ_=>O,f⟩ d a b g)/\f d a b⟩
theorem kt{d:By}{f:IB}{a b:D}(g:(Kg d).im f a b):BI (Kg d) f a b d:=by obtain⟨i,h,j⟩:=g;exact(h f a b j).Ar (l:=Kg d) ⟨P,λf a b g=>⟨i,h,g⟩⟩ B
theorem AaY{d:By}{i:IB}{g h:D}(l:BI (Kg d) i g h d):(Kg d).im i g h:=by
 have k:(Kg d).le ⟨λ_=>O,λf a b=>(Kg d).im f a b\/(f=i/\a=g/\b=h)⟩:=⟨λ_ _ e=>(by cases e),P⟩;refine⟨λf a b=>(Kg d).im f a b\/(f=i/\a=g/\b=h),λf a b j=> ?_,P⟩;rcases j with j|⟨rfl,rfl,rfl⟩;.exact(kt j).Ar k B
 .exact l.Ar k B
theorem AaX(f:By):HR (Kg f) G.Aq f where
 EJ g j k i:=kt i
 Fg b g d o j k a:=by rw[G.Oa]at a;grind
 Ca b g d a:=by rw[G.Oa]at a;grind
 EH h n l m a:=BF (G.Oa h) a
 lt b d a:=by cases a
 E8 b a:=BF (G.Oa b) a
def DD(y:(u:Type)->DataW u->Prop)(v:Program)(t:BQ){r:Type}(c:r->C F)(s:r->Prop):Prop:=
 ∀(u:Type)(g:BQ×Ba->u)(d:By)(h:D)(b:C Ba)(f:DataW u×C MemPlace),DataW.trod g v d 0 (λ_=>L) L h t b=A f->y u f.1->∃a,s a/\Bw (Kg d) (c a) b
def R0(y:(u:Type)->DataW u->Prop)(v:Program)(h l:D)(j:C Field){r:Type}(c:r->C F)(s:r->Prop):Prop:=
 ∀(u:Type)(i:BQ×Ba->u)(f:By)(k:D)(a:C Ba),a.l=h->(∀b∈j,∃g,DataW.trod i v f 0 (λ_=>L) L k b.type ((a.d b.offset).t (v.cellsOf b.type))=A g/\y u g.1)->∃d,s d/\Bw (Kg f) (c d) (a.d l)
section
variable{y:(u:Type)->DataW u->Prop} {q:D} {v:Program} {t e:BQ} {r p:Type} {c:r->C F} {s:r->Prop}
theorem DD.Bn{b:p->C F}{f:p->Prop}(j:DD y v t c s)(d:r->p)(n:∀a,b (d a)=c a)(o:∀a,s a->f (d a)):DD y v t b f:=by intro u h l i g m e k;obtain⟨_⟩:=j u h l i g m e k;grind
theorem DD.B6{b:IntKind}(f:v.underlying t=A (.int b)):DD y v t (λa:K=>[.i b a]) (λa=>b.min<=a/\a<=b.max):=by intro u h k i g l e j;obtain⟨a,rfl,_,d⟩:=DataW.trod_int f e;simp only[Lit.wf,AdO,AdV]at d;exact⟨a,d,.cons _ _ _ _ (.i b a) .nil⟩
theorem DD.lX(b:v.underlying t=A .bool):DD y v t (λa:Ah=>[.b a]) (λ_=>True):=by intro u f i g d j e h;obtain⟨a,rfl,_⟩:=DataW.trod_bool b e;exact⟨a,Aeb,.cons _ _ _ _ (.b a) .nil⟩
theorem DD.AaA(f:V7 y q)(h:v.underlying t=A .string):DD y v t (λa:C D=>[.s a]) (λa=>(∀b∈a,b<256)/\a.l<=q):=by
 intro u l o m k w e i;obtain⟨d,rfl,rfl,n⟩:=DataW.trod_string h e;refine⟨d.data.l.m UInt8.toNat,⟨λb g=> ?_,?_⟩,.cons _ _ _ _ (.s _ d B) .nil⟩;.obtain⟨j,_,rfl⟩:=Aeu.1 g;exact j.toNat_lt
 .rw[Ad9];exact f.j6 i
theorem R0.nil{a:D}:R0 y v a a [] (λ_:Unit=>[]) (λ_=>True):=by intro u d i h b g f;refine⟨(),Aeb,?_⟩;rw[Ad1 (by omega)];exact .nil
theorem R0.cons{f d:D}{b:Field}{i:C Field}{g:p->C F}{l:p->Prop}(M:b.offset=d){j:D}(J:v.cellsOf b.type=j)(w:DD y v b.type c s)(x:R0 y v f (d+j) i g l):R0 y v f d (b::i) (λa:r×p=>c a.1++g a.2) (λa=>s a.1/\l a.2):=by intro u h m k o I N;obtain⟨S,Q,R⟩:=N b (by simp);obtain⟨a,z,E⟩:=w u h m k _ S Q R;obtain⟨n,G,H⟩:=x u h m k o I P;refine⟨(a,n),⟨z,G⟩,?_⟩;have:=E.Km H;rwa[M,J,<-Afi,Afv]at this
theorem DD.struct(f:V7 y q){a:Bg Field}(m:v.underlying t=A (.struct a)){d:D}(F:v.cellsOf t=d)(i:R0 y v d 0 a.l c s):DD y v t c s:=by
 intro u h w E g J e n;obtain⟨x,o,_,rfl,H,I,j⟩:=DataW.trod_struct m e;obtain⟨_⟩:=i u h w o g Om λz k=>by
  obtain⟨b,l,rfl⟩:=List.mem_iff_getElem.1 k;have G:b<a.z:=by simpa using l
  have:=j b a[b] (by simp[]);refine⟨x[b]'(by omega),?_,f.S n _ P⟩;grind
 grind
theorem eF{o:By}{j:AT}{x:D}{s:r->Prop}{c:r->C F}:∀i (f:D->C Ba)(_:∀a,a<i->∃b,s b/\Bw j (c b) (f a)),∃d:C r,d.l=i/\(∀b∈d,s b)/\∀a b,d[a]? =A b->Bw j (c b) (f a)
 |0,_,_=>⟨[],B,by simp,by simp⟩
 |n+1,f,h=>by
  obtain⟨d,E,G,l⟩:=eF (o:=o) (x:=x) n (λa=>f (a+1)) λa I=>h (a+1) (by omega)
  obtain⟨b,H,m⟩:=h 0 (by omega)
  refine⟨b::d,by grind,by grind,λa k g=> ?_⟩
  cases a with
  |zero=>simp at g;subst g;exact m
  |succ a=>exact l a k (by simpa using g)
theorem fp{b:D}(j:0<b):∀(g:C (C F))(_:∀f∈g,f.l=b) a h,g.flatten[a]? =A h->∃f,g[a/b]? =A f/\f[a % b]? =A h
 |[],_,a,h,d=>by simp at d
 |f::g,n,a,h,d=>by
  have o:=n f (by simp);rw[Ae8]at d;rcases Nat.lt_or_ge a b with i|i;.rw[AeQ (by omega)]at d;exact⟨f,by rw[Nat.div_eq_of_lt i];rfl,by rw[Nat.mod_eq_of_lt i];exact d⟩
  .rw[Ae9 (by omega),o]at d;obtain⟨w,l,m⟩:=fp j g P (a-b) h d;obtain⟨k,rfl⟩:∃k,a=k+b:=⟨a-b,by omega⟩;rw[AfT]at l m;refine⟨w,?_,by rw[Nat.add_mod_right];omega⟩;rw[Nat.add_div_right _ j];grind
theorem DD.slice(xc:V7 y q)(xx:v.underlying t=A (.slice e)){b:D}(xz:v.cellsOf e=b)(Y:0<b)(xk:DD y v e c s):DD y v t (λg:C r=>[.CV (g.m c)]) (λg=>(∀d∈g,s d)/\g.l<=q):=by
 intro u U j xF xD G xh xB;rcases DataW.trod_slice xx xh with⟨rfl,_⟩|⟨d,h,I,xE,xL,xb,_,rfl,rfl,_,xG,xH,xI,xl,_,_⟩;.exact⟨[],by simp,.cons _ _ _ _ .VQ .nil⟩
 .have xA:=xc.CV xB
  have xK:h<=q:=by have:=xA.2;rw[Ad9]at this;omega
  have M:∀a,a<h->∃m,j.cells? 0 (d.add (a*b)) b=A m/\∃H,DataW.trod U v j 0 (λ_=>L) L xb e m=A H/\y u H.1:=by intro a i;have:=xl a i;rw[xz,AeD (by omega)]at this;obtain⟨_⟩:=Option.bind_eq_some_iff.1 this;grind
  obtain⟨g,X,xv,xa⟩:=eF (o:=j) (x:=b) h (λa=>(j.cells? 0 (d.add (a*b)) b).g []) λa i=>by obtain⟨m,k,H,xm,xn⟩:=M a i;obtain⟨x,xo,J⟩:=xk u U j xb m H xm xn;exact⟨x,xo,by rw[k];exact J⟩
  refine⟨g,⟨xv,by omega⟩,.cons _ _ _ _ ?_ .nil⟩
  cases h with
  |zero=>obtain rfl:=AeV.1 X;exact .OM d I
  |succ h=>
   have Q:∀a f,a<h+1->f<b->∃l,j.cell? ((d.add (a*b)).add f)=A l/\((j.cells? 0 (d.add (a*b)) b).g [])[f]? =A l:=by intro a f i W;obtain⟨m,k,_⟩:=M a i;have E:=k;unfold World.cells? at E;rw[Af Om]at E;have n:=mapM_some_length E;rw[Ad0]at n;have:=mapM_some_get E f f (by grind);grind
   obtain⟨xN,F,_⟩:=Q 0 0 (by omega) Y;have xp:(d.add (0*b)).add 0=d:=by simp[Addr.add]
   rw[xp]at F;unfold World.cell? at F;split at F;case h_2=>grind
   case h_1 N xi xj xr=>
   split at F;.grind
   rename_i xw;have Z:d.spot=O:=by simpa using xw
   have xq:∀a f,((d.add (a*b)).add f)=⟨d.block,d.off+(a*b+f),O⟩:=by intro a f;obtain⟨_⟩:=d;simp only at Z;subst Z;unfold Addr.add;grind
   have V:∀a f,a<h+1->f<b->∃l,N[d.off+(a*b+f)]? =A l/\((j.cells? 0 (d.add (a*b)) b).g [])[f]? =A l:=by intro a f i W;obtain⟨l,o,R⟩:=Q a f i W;rw[xq]at o;unfold World.cell? at o;grind
   have n:∀G∈g.m c,G.l=b:=by intro G xy;obtain⟨x,xs,rfl⟩:=Aeu.1 xy;obtain⟨a,i,rfl⟩:=List.mem_iff_getElem.1 xs;obtain⟨m,k,_⟩:=M a (by omega);have J:=(xa a g[a] (by grind)).length;rw[k]at J;unfold World.cells? at k;rw[Af Om]at k;have n:=mapM_some_length k;grind
   have xJ:(g.m c).flatten.l=(h+1)*b:=by rw[List.length_flatten,List.map_congr_left (n),AeF];show(g.m (λ_=>b)).sum=_;rw[List.map_const',List.sum_replicate_nat,X]
   have xu:(Kg j).im (.c (g.m c).flatten) d.block d.off:=by
    refine AaY ⟨N,xi,xj,xr,?_,λa l i=> ?_⟩;.obtain⟨_⟩:=V h (b-1) (by omega) (by omega);grind
    .obtain⟨G,o,R⟩:=fp Y _ n a l i;rw[Aeo]at o;obtain⟨x,xd,rfl⟩:=Option.map_eq_some_iff.1 o;obtain⟨xC,xe,xf⟩:=(xa _ x xd).M R;have xt:a/b<h+1:=by grind
     obtain⟨xM,xg,T⟩:=V (a/b) (a % b) xt P;rw[xe]at T;cases T
     refine⟨xC,?_,xf⟩;rw[<-xg,Nat.div_add_mod' a b]
   have:Value.slice (A d) (h+1) I=.slice (A ⟨d.block,d.off+0,O⟩) (g.m c).l I:=by obtain⟨_⟩:=d;grind
   rw[this];exact .CV _ _ _ _ 0 b _ xu (by simp) n (by grind)
theorem DD.S{j:Bg Field}(l:DD y v t c s)(x:v.underlying t=A (.struct j)){F:Reach}{i:D}{b:By}{d:Ba}{u:Type}{g:BQ×Ba->u}{f:DataW u}{E:C MemPlace}(h:Value.okWide v b F i t d)(o:DataW.Trod g v b 0 (λ_=>L) L t d f E)(z:y u f):∃a,s a/\VR (Kg b) (.S (c a)) d:=by simp only[Value.okWide,x]at h;obtain⟨G,rfl,_,_⟩:=h;obtain⟨k,w⟩:=o;obtain⟨a,m,n⟩:=l u g b k _ _ w z;exact⟨a,m,.S _ _ n⟩
theorem DD.Ld{i:r->F}(k:DD y v t (λa=>[i a]) s){d:By}{b:Ba}(n:b.cells= #[b]){u:Type}{g:BQ×Ba->u}{f:DataW u}{w:C MemPlace}(m:DataW.Trod g v d 0 (λ_=>L) L t b f w)(o:y u f):∃a,s a/\VR (Kg d) (i a) b:=by obtain⟨j,h⟩:=m;rw[n]at h;obtain⟨a,x,l⟩:=k u g d j _ _ h o;cases l<;>grind
end
end Go.Fg
namespace Go.Fg
def ct(a:Program):Ah:=(List.range a.types.z).all λc=>match a.underlying c with
 |some (.slice b)=>BX 1 (a.cellsOf b)
 |_=>L
def Aaf{a:Program}(d:ct a=L){b c:BQ}(f:b<a.types.z)(e:a.underlying b=A (.slice c)):0<a.cellsOf c:=by have:=Aei.1 d b P;rw[e]at this;exact AdT this
def wU{c e:By}(j:RowKit.Grown c e){g:MemPlace}(h:g.block<c.heap.z):c.sameAt e g:=by
 obtain⟨⟨_,_,f⟩,_⟩:=j
 cases g with
 |cell d l=>
  have:=f d h;show e.cell? _=c.cell? _;unfold World.cell?;split at this;.rename_i a b;rw[a,b];simp only;rw[this.2.2.2 l not_false]
  .rename_i a b;rw[a,b]
  .rw[this]
 |map d=>
  have:=f d h;show e.heap[d]? =c.heap[d]?;split at this;.rename_i a b;rw[a,b];obtain⟨rfl,rfl,_,i⟩:=this;rw[Array.ext_getElem? λk=>i k not_false]
  .rename_i a b;rw[a,b];obtain f|⟨rfl,rfl⟩:=this;.exact f.elim
   .rfl
  .exact this
def kq{b:Program}(p:laidOutB b=L)(q:mapsRowed b=L)(n:ct b=L){i:Type}{l:BQ×Ba->i}{j k:By}(o:RowKit.Grown j k){s:D->Ah}:∀{d:C BQ}{h:C Ba}{e:C (DataW i)}{g:C MemPlace},(∀c∈d,c<b.types.z)->DataW.TrodAll l b j 0 (λ_=>L) L d h e g->(∀f∈g,s f.block=L)->DataW.TrodAll l b k 0 s L d h e g
 |[],[],[],_,_,a,_=>a
 |c::d,F::h,z::e,_,v,a,E=>by obtain⟨f,x,t,u,rfl⟩:=a;obtain⟨r,m⟩:=t;refine⟨f,x,⟨r,?_⟩,kq p q n o P u P,B⟩;exact DataW.trod_stays (kids_rows p q) ((Aaf n)) P (v c (by simp)) m (λy w=>wU o (DataW.trod_lt r c _ _ m y w)) P
 |[],[],_::_,_,_,a,_=>a.elim
 |[],_::_,[],_,_,a,_=>a.elim
 |[],_::_,_::_,_,_,a,_=>a.elim
 |_::_,[],[],_,_,a,_=>a.elim
 |_::_,[],_::_,_,_,a,_=>a.elim
 |_::_,_::_,[],_,_,a,_=>a.elim
def tf{c:Program}{f:D}{d:C F}(h:R1 c f d (.b L)){a:By}{b:Bg Ba}(i:Bw (Kg a) d b.l):Calls c f b a λe g=>e=.returned (.bool L)/\RowKit.Grown a g:=by
 refine(h.2 (Kg a) a b i (AaX a)).mono λe g l=> ?_;obtain⟨q,r,p,rfl,m,k⟩:=l;cases m
 exact⟨B,k.rm λo n j=>by cases j⟩
end Go.Fg
namespace Go.Proofs.YtbmnfifnenajjaaGreat
open Go.Fg
def Kb:(a:Type)->DataW a->Prop:=λa b=>Rows.uptoBulk b<=1048576
def l8{b:Type}(a:DataW b):1<=Rows.uptoBulk a:=by
 cases a with
 |lit c=>cases c<;>simp[Rows.uptoBulk]
 |nil=>simp[Rows.uptoBulk]
 |ptr a=>simp[Rows.uptoBulk]
 |slice d h=>simp[Rows.uptoBulk]
 |agg g=>simp[Rows.uptoBulk]
 |iface i a=>simp[Rows.uptoBulk]
 |map e=>simp[Rows.uptoBulk]
 |held f=>simp[Rows.uptoBulk]
def Y6{b:Type}{c:DataW b}:∀{d:C (DataW b)},c∈d->Rows.uptoBulk c<=Rows.uptoBulkAll d
 |[],a=>by cases a
 |f::e,a=>by
  simp only[Rows.uptoBulkAll];rcases Ad6.1 a with rfl|a;.omega
  .have:=Y6 a;omega
def dW{b:Type}:∀a:C (DataW b),a.l<=Rows.uptoBulkAll a
 |[]=>by simp
 |d::c=>by have:=l8 d;have:=dW c;simp only[Rows.uptoBulkAll,Aec];omega
def Mz:V7 Kb 1048576 where
 S:=λ{d g} a c b=>by have a:Rows.uptoBulk (.agg g)<=1048576:=a;have:=Y6 b;simp only[Rows.uptoBulk]at a;show Rows.uptoBulk c<=1048576;omega
 CV:=λ{d e h} a=>by have a:Rows.uptoBulk (.slice e h)<=1048576:=a;simp only[Rows.uptoBulk]at a;have:=dW e;refine⟨λc b=> ?_,by omega⟩;have:=Y6 b;show Rows.uptoBulk c<=1048576;omega
 j6:=λ{d f} a=>by have a:Rows.uptoBulk (.lit (.string f))<=1048576:=a;simp only[Rows.uptoBulk]at a;omega
def Rp{b:Type}(d:b->Prop)(a:C b):Prop:=(∀c∈a,d c)/\a.l<=1048576
def VE:DD Kb P9 3 (λa:K=>[F.n a]) MH:=DD.B6 Tryz.underlying3
def v9:DD Kb P9 4 CN (λ_=>True):=DD.lX Tryz.underlying4
def wa:DD Kb P9 5 (λa:K=>[F.i .u8 a]) (λa=>IntKind.u8.min<=a/\a<=IntKind.u8.max):=DD.B6 Tryz.underlying5
def ja:DD Kb P9 9 (λa:C D=>[.s a]) (λa=>(∀b∈a,b<256)/\a.l<=1048576):=DD.AaA Mz Tryz.underlying9
def wc:DD Kb P9 54 AF.c (λ_=>True):=(DD.struct Mz Tryz.underlying54 (d:=2) (by kernel_rfl) (.cons B (j:=1) (by kernel_rfl) VE (.cons B (j:=1) (by kernel_rfl) VE .nil))).Bn (λa=>⟨a.1,a.2.1⟩) (λ_=>B) (λ_ _=>Aeb)
def b5:DD Kb P9 95 (λa=>[Z AF.c a]) (Rp λ_=>True):=DD.slice Mz Tryz.underlying95 (b:=2) (by kernel_rfl) (by decide) wc
def v4:DD Kb P9 134 Au.c Au.IZ:=
 (DD.struct Mz Tryz.underlying134 (d:=4) (by kernel_rfl) (.cons B (j:=1) (by kernel_rfl) wa (.cons B (j:=1) (by kernel_rfl) ja (.cons B (j:=1) (by kernel_rfl) VE (.cons B (j:=1) (by kernel_rfl) b5 .nil))))).Bn
  (λa=>⟨a.1,a.2.1,a.2.2.1,a.2.2.2.1⟩) (λ_=>B) (λ_ b=>⟨AeK b.2.2.2.1.2 (by decide),AeK b.2.1.2 (by decide)⟩)
def wd:DD Kb P9 94 (λa=>[Z Au.c a]) (Rp Au.IZ):=DD.slice Mz Tryz.underlying94 (b:=4) (by kernel_rfl) (by decide) v4
def we:DD Kb P9 97 Ab.c Ab.IZ:=
 (DD.struct Mz Tryz.underlying97 (d:=5) (by kernel_rfl) (.cons B (j:=1) (by kernel_rfl) ja (.cons B (j:=1) (by kernel_rfl) VE (.cons B (j:=1) (by kernel_rfl) wd (.cons B (j:=1) (by kernel_rfl) b5 (.cons B (j:=1) (by kernel_rfl) b5 .nil)))))).Bn
  (λb=>⟨b.1,b.2.1,b.2.2.1,b.2.2.2.1,b.2.2.2.2.1⟩) (λ_=>B) (λ_ a=>⟨AeK a.2.2.1.2 (by decide),AeK a.2.2.2.1.2 (by decide),AeK a.2.2.2.2.1.2 (by decide),AeK a.1.2 (by decide),a.2.1,a.2.2.1.1⟩)
def v5:DD Kb P9 22 (λa=>[Z Ab.c a]) (Rp Ab.IZ):=DD.slice Mz Tryz.underlying22 (b:=5) (by kernel_rfl) (by decide) we
def v_:DD Kb P9 44 Cv (Rp MH):=DD.slice Mz Tryz.underlying44 (b:=1) (by kernel_rfl) (by decide) VE
def v6:DD Kb P9 23 (λa=>[Z Cv a]) (Rp (Rp MH)):=DD.slice Mz Tryz.underlying23 (b:=1) (by kernel_rfl) (by decide) v_
def v7:DD Kb P9 24 (λa=>[Z CN a]) (Rp λ_=>True):=DD.slice Mz Tryz.underlying24 (b:=1) (by kernel_rfl) (by decide) v9
def v8:DD Kb P9 26 AQ.c AQ.Cl:=
 (DD.struct Mz Tryz.underlying26 (d:=2) (by kernel_rfl) (.cons B (j:=1) (by kernel_rfl) v6 (.cons B (j:=1) (by kernel_rfl) v7 .nil))).Bn (λb=>⟨b.1,b.2.1⟩) (λ_=>B)
  (λ_ a=>⟨AeK a.1.2 (by decide),AeK a.2.1.2 (by decide),λd c=>AeK (a.1.1 d c).2 (by decide)⟩)
def AaO{a:C Ab}{b:AQ}(c:IZ a)(d:b.Cl):R1 P9 3 [Z Ab.c a,.S (AQ.c b)] (.b L):=
 k1 (u:=L3 P9) (w:=KX) (v:=λ_ _=>O) (by kernel_rfl) AaI (vp _) (by decide) ((te g6 c d).at B G.Aq) (W6 (b:=.b L) B _)
end Go.Proofs.YtbmnfifnenajjaaGreat
namespace Go.Proofs.YtbmnfifnenajjaaGreat
def Fu{a b:Ah}(c:a=L)(d:b=L):(a&&b)=L:=by rw[c,d];rfl
end Go.Proofs.YtbmnfifnenajjaaGreat
namespace Go.Proofs.YtbmnfifnenajjaaGreat
open Go.Fg Go.ChangeShapes Go.WideShapes Go.ChangeAt Go.RowKit
def Cs:ownKnob Tryz.prog.godebug=O:=by kernel_rfl
def tc:laidOutB Tryz.prog=L:=by kernel_rfl
def wE:mapsRowed Tryz.prog=L:=by kernel_rfl
def oZ:ct Tryz.prog=L:=by kernel_rfl
def Aag{a:Type}{b c:DataW a}(d:Rows.uptoSmall a [b,c]=L):Kb a b/\Kb a c:=by have d:Rows.uptoBulkAll [b,c]<=1048576:=Afg d;simp only[Rows.uptoBulkAll]at d;exact⟨by show Rows.uptoBulk b<=1048576;omega,by show Rows.uptoBulk c<=1048576;omega⟩
def Ah5{a:Type}{b c d:DataW a}(e:Rows.uptoSmall a [b,c,d]=L):Kb a b/\Kb a c/\Kb a d:=by have e:Rows.uptoBulkAll [b,c,d]<=1048576:=Afg e;simp only[Rows.uptoBulkAll]at e;exact⟨by show Rows.uptoBulk b<=1048576;omega,by show Rows.uptoBulk c<=1048576;omega,by show Rows.uptoBulk d<=1048576;omega⟩
end Go.Proofs.YtbmnfifnenajjaaGreat
namespace Go.Proofs.YtbmnfifnenajjaaGreat
def NJ:ChangeSpec:=(Rows.OpenSpec.upto Rows.closureRunsSpec).bare
def mc:Rows.closureRunsUptoRow.wf (OpenSpec.ofChange NJ)=L:=by kernel_rfl
def mF:namedTie Tryz.prog Rows.closureRunsUptoRow.named NJ.vars=L:=by kernel_rfl
def mJ:(Tryz.prog.stopKnobs==[])=L:=by kernel_rfl
def mg:(Rows.closureRunsUptoRow.named==Tryz.prog.varsNamed 3)=L:=by kernel_rfl
def ml:(Rows.closureRunsUptoRow.loops==(Tryz.f3.params.l++NJ.plain.varTypes Tryz.prog).any (Tryz.prog.loopsFrom ·))=L:=by kernel_rfl
def mr:(Rows.closureRunsUptoRow.ifacesOut==Tryz.f3.resultTypes.l.any (Tryz.prog.ifacesRec ·))=L:=by kernel_rfl
def mx:Tryz.prog.stopsHeard=L:=by kernel_rfl
def md:laidOutB Tryz.prog=L:=by kernel_rfl
def mG:(Rows.closureRunsUptoRow.stops==[])=L:=by kernel_rfl
def mK:(Rows.closureRunsUptoRow.inPlace==Tryz.prog.inPlace 3)=L:=by kernel_rfl
def mh:(Rows.closureRunsUptoRow.maps==(Tryz.f3.params.l++NJ.plain.varTypes Tryz.prog).any (Tryz.prog.mapsRec ·))=L:=by kernel_rfl
def mm:(Rows.closureRunsUptoRow.wideKeys==(Tryz.f3.params.l++NJ.plain.varTypes Tryz.prog++Tryz.f3.resultTypes.l).any (Tryz.prog.wideKeysFrom ·))=L:=by kernel_rfl
def ms:(Rows.closureRunsUptoRow.loopsOut==Tryz.f3.resultTypes.l.any (Tryz.prog.loopsFrom ·))=L:=by kernel_rfl
def my:Tryz.prog.mayEnter=L:=by kernel_rfl
def mB:(Rows.closureRunsUptoRow.pinned==Rows.closureRunsUptoRow.pinnedBy)=L:=by kernel_rfl
def mq:mapsRowed Tryz.prog=L:=by kernel_rfl
def mH:(Tryz.prog.stops==[])=L:=by kernel_rfl
def me:(Rows.closureRunsUptoRow.unfollowed==Tryz.prog.unfollowed 3)=L:=by kernel_rfl
def mi:(Rows.closureRunsUptoRow.ifaces==(Tryz.f3.params.l++NJ.plain.varTypes Tryz.prog).any (Tryz.prog.ifacesRec ·))=L:=by kernel_rfl
def mn:NJ.vars.all (Tryz.prog.varReadable ·)=L:=by kernel_rfl
def mv:(Rows.closureRunsUptoRow.plainKeys==Tryz.prog.plainKeys)=L:=by kernel_rfl
def mz:(Rows.closureRunsUptoRow.lifted==Tryz.prog.liftsFinal)=L:=by kernel_rfl
def mD:(Rows.closureRunsUptoRow.veiled==(Tryz.f3.params.l++NJ.plain.varTypes Tryz.prog++Tryz.f3.resultTypes.l).any (Tryz.prog.veiledRec ·))=L:=by kernel_rfl
