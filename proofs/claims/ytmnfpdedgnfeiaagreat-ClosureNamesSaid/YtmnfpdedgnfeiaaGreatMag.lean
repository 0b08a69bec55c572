/- Part of the proof. -/
import Derived.Test.YtmnfpdedgnfeiaaGreatMaf
set_option linter.all false
noncomputable section
open Option renaming some->A,none->O,bind->Option.b
open _root_ renaming rfl->B,List->C,Nat->D,Int->K,if_neg->Ad,if_pos->Af,Bool->Ak,cond->An
open Bool renaming true->L,false->Ac
open Decidable renaming decide->Au
open Nat renaming beq->Bb,ble->Co
open List renaming length->List.l,map->List.m,take->List.t,drop->List.d,flatMap->List.f
open Go.IntKind renaming i64->Go.IntKind.n
open Array renaming toList->Array.l
open Eq renaming trans->Eq.t,symm->Eq.s
open Or renaming inl->Or.i
open Int renaming toNat->Int.n
namespace Go.Fg
@[simp] theorem Tz(c:F)(a:G)(b:F->G->R):bl c a b=b c a:=rfl
attribute [simp] HE Ra Yc QQ Lz
@[simp] theorem Af6(a:Ak):F.I (.b a)=[.b a]:=rfl
@[simp] theorem Af8 (a:IntKind) (b:K):F.I (.i a b)=[.i a b]:=rfl
@[simp] theorem Agf (a:C D):F.I (.s a)=[.s a]:=rfl
@[simp] theorem Agc (a:Aa) (b:D):F.I (.p a b)=[.p a b]:=rfl
@[simp] theorem Age:F.I .pn=[.pn]:=rfl
@[simp] theorem Agg (a:Aa) (d c b e:D):F.I (.Z a d c b e)=[.Z a d c b e]:=rfl
@[simp] theorem Agj:F.I .sn=[.sn]:=rfl
@[simp] theorem Af9 (a:Aa):F.I (.m a)=[.m a]:=rfl
@[simp] theorem Agb:F.I .mn=[.mn]:=rfl
@[simp] theorem Af7 (a:Aa) (b:C F):F.I (.f a b)=[.f a b]:=rfl
@[simp] theorem bc (a:C F):F.I (.S a)=a:=rfl
@[simp] theorem Agd (a:C F):F.I (.pi a)=[.pi a]:=rfl
@[simp] theorem Agi (a:C (C F)):F.I (.CZ a)=[.CZ a]:=rfl
@[simp] theorem Aga (a b:C F):F.I (.mi a b)=[.mi a b]:=rfl
@[simp] theorem AfD (a:Ak):FX (.b a)=L:=rfl
@[simp] theorem AfF (a:IntKind) (b:K):FX (.i a b)=L:=rfl
@[simp] theorem AfL (a:C D):FX (.s a)=L:=rfl
@[simp] theorem AfI (a:Aa) (b:D):FX (.p a b)=L:=rfl
@[simp] theorem AfK:FX .pn=L:=rfl
@[simp] theorem AfM (a:Aa) (d c b e:D):FX (.Z a d c b e)=L:=rfl
@[simp] theorem AfP:FX .sn=L:=rfl
@[simp] theorem AfG (a:Aa):FX (.m a)=L:=rfl
@[simp] theorem AfE (a:Aa) (b:C F):FX (.f a b)=L:=rfl
@[simp] theorem AfJ (a:C F):FX (.pi a)=L:=rfl
@[simp] theorem AfO (a:C (C F)):FX (.CZ a)=L:=rfl
@[simp] theorem AfH (a b:C F):FX (.mi a b)=L:=rfl
attribute [simp] EC
@[simp] theorem bq:G.Az.next=.h:=rfl
attribute [simp] G.HG G.M5 G.UD Aa.Zx Aa.kQ Aa.kP
@[simp] theorem Mm(a:Aa):G.Az.N a=O:=rfl
@[simp] theorem TZ (b:G) (c:Ce) (a:Aa):(b.V c).N a=if a=b.next then A c else b.N a:=by
 split;.rename_i d;subst d;exact G.YN _ _
 .exact G.Mn _ _ ‹_›
@[simp] theorem AY(c:G)(b:Aa)(d:Ce)(a:Aa):(c.set b d).N a=if a=b then A d else c.N a:=by
 split;.rename_i e;subst e;exact G.O9 _ _ _
 .exact G.IH _ _ ‹_›
@[simp] theorem uS(c:G)(b a:Aa):(c.Hg b).N a=if a=b then O else c.N a:=by
 split;.rename_i d;subst d;exact G.cv _ _
 .exact G.R5 _ ‹_›
@[simp] theorem qu(b:D)(a:C F):Eg (A (.I b a))=A (b,a):=rfl
@[simp] theorem Af4 (b:D) (a:C F):Eg (A (.rc b a))=A (b,a):=rfl
@[simp] theorem Af5 (b:D) (a:C F):Vv (A (.I b a))=A (b,a):=rfl
@[simp] theorem AaM (b:C BL) (a:D):Ir (A (.Bu b a))=A (b,a):=rfl
@[simp] theorem Aht (b:C BL) (a:D):Ir (A (.rm b a))=A (b,a):=rfl
@[simp] theorem dh (b:C BL) (a:D):Pw (A (.Bu b a))=A (b,a):=rfl
theorem UV {h:G} {g:Aa} {b:D} {e:C F} (i:Eg (h.N g)=A (b,e)) (c a:D):h.AU g c a=if c+a<=b then A (if a=b then e else(e.d c).t a)else O:=by
 unfold G.AU G.I;rw[i];simp only[];by_cases d:c+a<=b
 .rw[Air d,Af d];by_cases f:a=b;.subst f;rw[AiG,Af B];rfl
  .rw[G0 f,Ad f];show A (Xp a (Yb c e))=_;rw[Ra,Yc]
 .rw[RF d,Ad d];rfl
@[simp] theorem Adn(e:G)(g:D)(f:C F)(c:Aa)(b a:D):(e.V (.I g f)).AU c b a=if c=e.next then(if b+a<=g then A (if a=g then f else(f.d b).t a)else O)else e.AU c b a:=by
 split;.rename_i d;subst d;exact UV (by simp) b a
 .rename_i d;unfold G.AU G.I;rw[TZ,Ad d]
@[simp] theorem AhM(b:G)(g:C BL)(e:D)(a:Aa)(d c:D)(f:a≠b.next):(b.V (.Bu g e)).AU a d c=b.AU a d c:=by unfold G.AU G.I;rw[TZ,Ad f]
@[simp] theorem Adp(h:G)(f:D)(e:C F)(g c:Aa)(b a:D):(h.set g (.I f e)).AU c b a=if c=g then(if b+a<=f then A (if a=f then e else(e.d b).t a)else O)else h.AU c b a:=by
 split;.rename_i d;subst d;exact UV (by simp) b a
 .rename_i d;unfold G.AU G.I;rw[AY,Ad d]
@[simp] theorem AhN(c:G)(g:C BL)(h:D)(b a:Aa)(e d:D)(f:a≠b):(c.set b (.Bu g h)).AU a e d=c.AU a e d:=by unfold G.AU G.I;rw[AY,Ad f]
variable{f:D}
def ZW{b:G}{a:Aa}{c:C F}(e:Eg (b.N a)=A (f,c))(d:D):b.AA a d=c[d]? :=by unfold G.AA G.I;rw[e];exact QQ _ _
@[simp] theorem AhI(d:G)(f:D)(e:C F)(b:Aa)(a:D):(d.V (.I f e)).AA b a=if b=d.next then e[a]?else d.AA b a:=by
 split;.rename_i c;subst c;exact ZW (f:=f) (by simp) a
 .rename_i c;unfold G.AA G.I;rw[TZ,Ad c]
@[simp] theorem AhJ(b:G)(f:C BL)(d:D)(a:Aa)(c:D)(e:a≠b.next):(b.V (.Bu f d)).AA a c=b.AA a c:=by unfold G.AA G.I;rw[TZ,Ad e]
@[simp] theorem AhK(e:G)(g:D)(f:C F)(d b:Aa)(a:D):(e.set d (.I g f)).AA b a=if b=d then f[a]?else e.AA b a:=by
 split;.rename_i c;subst c;exact ZW (f:=g) (by simp) a
 .rename_i c;unfold G.AA G.I;rw[AY,Ad c]
@[simp] theorem AhL(c:G)(f:C BL)(g:D)(b a:Aa)(d:D)(e:a≠b):(c.set b (.Bu f g)).AA a d=c.AA a d:=by unfold G.AA G.I;rw[AY,Ad e]
variable{a:D}
def L8{g:G}{e:Aa}{i:C F}(j:Vv (g.N e)=A (a,i))(d b:D)(h:C F):g.EY e d b h=if d+b<=a then A (g.set e (.I a (if b=a then h else DJ d h i)))else O:=by
 unfold G.EY;rw[j];simp only[];by_cases c:d+b<=a
 .rw[Air c,Af c];show A _=A _;by_cases f:b=a;.subst f;rw[AiG,Af B];rfl
  .rw[G0 f,Ad f];rfl
 .rw[RF c,Ad c];rfl
@[simp] theorem AgO(a:F):hs [a]=A a:=rfl
@[simp] theorem rN (a:Ak) (b c:F):C8 [.b a,b,c]=A (An a b c):=by cases a<;>rfl
@[simp] theorem Gk (c:D) (b:G) (a:Aa) (d:D):Bf c b [.p a d]=(b.AU a d c).map .S:=by show(match b.AU a d c with|some e=>A (F.S e)|none=>O)=_;grind
@[simp] theorem AgL(b:D)(d:G)(a:C F):Bf b d [.pi a]=if b<=a.l then A (.S (a.t b))else O:=by
 show An (Co b a.l) _ O=_;by_cases c:b<=a.l;.rw[Air c,Af c];rfl
 .rw[RF c,Ad c];rfl
@[simp] theorem RP(b:G)(a:Aa)(c:D):AW b [.p a c]=b.AA a c:=rfl
@[simp] theorem rH (b:G) (a:C F):AW b [.pi a]=a[0]? :=rfl
@[simp] theorem AgQ (a:Aa) (b:D):DT [.p a b]=A (.p a b):=rfl
@[simp] theorem AgR (a:C F):DT [.pi a]=A (.pi a):=rfl
@[simp] theorem AgP (a:Aa) (b:C F):DT [.f a b]=A (.f a b):=rfl
@[simp] theorem F6 (b:D) (a:Aa) (c:D):Bt b [.p a c]=A (.p a (c+b)):=rfl
@[simp] theorem rG (b:D) (a:C F):Bt b [.pi a]=A (.pi (a.d b)):=rfl
@[simp] theorem AgK (b:D) (a:C F):De b [.S a]=a[b]? :=QQ _ _
theorem bL {b:D} {c:C (C F)} {g:IntKind} {d:D} {a:C F} (e:c[d]? =A a) (f:a.l=b):AZ b [.CZ c,.i g (d:K)]=A (.pi a):=by show(match c[d]?with|some a=>An (Bb a.l b) (A (F.pi a)) O|none=>O)=_;rw[e];show An (Bb a.l b) _ O=_;rw[f,AiG];rfl
variable{e:D}
def hr{b:D}{d:Aa}{c:D}{g:IntKind}(h:a<c):AZ b [.Z d e c f b,.i g (a:K)]=A (.p d (e+a*b)):=by
 show An (Nat.blt a c&&Bb b b) _ O=_;have:Nat.blt a c=L:=by rw[AjR];omega
 rw[this,AiG];rfl
@[simp] theorem rI(a:C (C F)):Ea [.CZ a]=A (.i .n a.l):=rfl
@[simp] theorem AgM (b:Aa) (d a c e:D):Ea [.Z b d a c e]=A (.i .n a):=rfl
@[simp] theorem AgN:Ea [.sn]=A (.i .n 0):=rfl
@[simp] theorem rJ (a:C D):H2 [.s a]=A (.i .n a.l):=rfl
theorem Yi {c:C D} {b a:D} {d:IntKind} (e:c[b]? =A a):HN [.s c,.i d (b:K)]=A (.i .u8 a):=by show(match c[b]?with|some a=>A (F.i .u8 (Int.ofNat a))|none=>O)=_;grind
@[simp] theorem VG(a:Ak):DW [.b a]=A (.b (!a)):=rfl
@[simp] theorem LP (a:IntKind):H8 a a=L:=(Pd a a).2 B
@[simp] theorem E1 (a:IntKind) (b c:K):A7 .lss [.i a b,.i a c]=A (.b (Au (b<c))):=by show An (H8 a a) (A (F.b (QO (Mq c b)))) O=_;rw[LP,Nt,UE];rw[<-decide_not];grind
@[simp] theorem Qm(a:IntKind)(b c:K):A7 .leq [.i a b,.i a c]=A (.b (Au (b<=c))):=by show An (H8 a a) (A (F.b (Mq b c))) O=_;rw[LP,Nt];rfl
@[simp] theorem E6(a:IntKind)(b c:K):A7 .gtr [.i a b,.i a c]=A (.b (Au (c<b))):=by show An (H8 a a) (A (F.b (QO (Mq b c)))) O=_;rw[LP,Nt,UE];rw[<-decide_not];grind
@[simp] theorem K7(a:IntKind)(b c:K):A7 .geq [.i a b,.i a c]=A (.b (Au (c<=b))):=by show An (H8 a a) (A (F.b (Mq c b))) O=_;rw[LP,Nt];rfl
@[simp] theorem Cz(a:IntKind)(b c:K):A7 .eql [.i a b,.i a c]=A (.b (Au (b=c))):=by show An (H8 a a) (A (F.b (Kf b c))) O=_;rw[LP,Lb];rfl
@[simp] theorem FW(a:IntKind)(b c:K):A7 .neq [.i a b,.i a c]=A (.b (!Au (b=c))):=by show An (H8 a a) (A (F.b (QO (Kf b c)))) O=_;rw[LP,Lb,UE];rfl
@[simp] theorem MT(a:IntKind)(b c:K):A7 .add [.i a b,.i a c]=A (.i a (a.wrap (b+c))):=by show An (H8 a a) (A (F.i a (IW a (cJ b c)))) O=_;rw[LP,Ls,jb];rfl
@[simp] theorem bK(a:IntKind)(b c:K):A7 .sub [.i a b,.i a c]=A (.i a (a.wrap (b-c))):=by show An (H8 a a) (A (F.i a (IW a (R9 b c)))) O=_;rw[LP,Ls,V2];rfl
@[simp] theorem bJ(a:IntKind)(b c:K):A7 .mul [.i a b,.i a c]=A (.i a (a.wrap (b*c))):=by show An (H8 a a) (A (F.i a (IW a (b*c)))) O=_;rw[LP,Ls];rfl
variable{b:K}
def rF(a:IntKind)(c:K)(d:b≠0):A7 .quo [.i a c,.i a b]=A (.i a (a.wrap (c.tdiv b))):=by
 show An (H8 a a) (An (Kf b 0) O (A (F.i a (IW a (c.tdiv b))))) O=_;have:Kf b 0=Ac:=by rw[Lb];grind
 rw[LP,this,Ls];rfl
def Yh(a:IntKind)(c:K)(d:b≠0):A7 .rem [.i a c,.i a b]=A (.i a (c.tmod b)):=by
 show An (H8 a a) (An (Kf b 0) O (A (F.i a (c.tmod b)))) O=_;have:Kf b 0=Ac:=by rw[Lb];grind
 rw[LP,this];rfl
def OJ(c: -9223372036854775808<=b)(d:b<=9223372036854775807):IntKind.wrap .n b=b:=by
 have:=Ls .n b
 rw[<-this]
 unfold IW cM
 cases b with
 |ofNat a=>
  have:a<=9223372036854775807:=by grind
  show Pa (Bb 3 3) (Pa (Co a 9223372036854775807) (.ofNat a) _) _=_;rw[Air this];rfl
 |negSucc a=>
  have:a<=9223372036854775807:=by omega
  show Pa (Bb 3 3) (Pa (Co a 9223372036854775807) (.negSucc a) _) _=_;rw[Air this];rfl
@[simp] theorem Qn(a b:C D):F4 .eql [.s a,.s b]=A (.b (Au (a=b))):=by show A (F.b (EB a b))=_;rw[NS];grind
@[simp] theorem VF(a b:C D):F4 .neq [.s a,.s b]=A (.b (!Au (a=b))):=by show A (F.b (!(EB a b)))=_;rw[NS];grind
@[simp] theorem hq(a b c:Ak):Fx a [.b b,.b c]=A (.b (if a then b !=c else b==c)):=by cases a<;>rfl
@[simp] theorem eX (a b:Ak):AO a (.b b)=(b==a):=rfl
@[simp] theorem FU (b c:R) (a:Ak):Dw b c (.b a)=if a then b else c:=by cases a<;>rfl
@[simp] theorem Agt{d:Type}(a:Ak)(b c:d):An a (A b) (A c)=A (An a b c):=by grind
@[simp] theorem Agn (a b c:Ak):An a (F.b b) (F.b c)=F.b (An a b c):=by grind
@[simp] theorem Agp {f g:Type} (a:Ak) (d e:f) (b c:g):An a (d,b) (e,c)=(An a d e,An a b c):=by grind
@[simp] theorem Ags {c:Type} (b:Ak) (a:c):An b a a=a:=by grind
@[simp] theorem K8 (c:Bh) (d:Aa) (b a:C F) (e:G):Du c (.f d b) a e=c d (a++b) e:=rfl
@[simp] theorem AgJ (b:D) (a:C F):Ca b [.AC a]=a[b]? :=QQ _ _
@[simp] theorem AgG (a:Ak):GO a [.pn,.pn]=A (.b (!a)):=rfl
@[simp] theorem AgH (a:Ak) (b:Aa) (c:D):GO a [.p b c,.pn]=A (.b a):=rfl
@[simp] theorem AgI (a:Ak) (b:C F):GO a [.pi b,.pn]=A (.b a):=rfl
@[simp] theorem AgD:G2 [] [] []=A L:=rfl
@[simp] theorem AgB (c:D) (d:C D) (a b:F) (e f:C F):G2 (c::d) (a::e) (b::f)=KD (Ie c a b) (G2 d e f):=rfl
@[simp] theorem bz (a:IntKind) (b c:K):Ie 0 (.i a b) (.i a c)=A (Au (b=c)):=by show An (Bb 0 0) (An (H8 a a) (A (Kf b c)) O) O=_;rw[LP,Lb];rfl
@[simp] theorem bx(a b:Ak):Ie 1 (.b a) (.b b)=A (Au (a=b)):=by show A (a==b)=_;grind
@[simp] theorem Agz(a b:C D):Ie 2 (.s a) (.s b)=A (Au (a=b)):=by show A (EB a b)=_;rw[NS];grind
@[simp] theorem Vi(a b:Ak):KD (A a) (A b)=A (a&&b):=by cases a<;>rfl
@[simp] theorem hp (c:Ak) (b:C D) (d e:C F):F5 c b [.S d,.S e]=(G2 b d e).map λa=>.b (if c then !a else a):=by show(match G2 b d e with|some a=>A (F.b (An c (!a) a))|none=>O)=_;grind
@[simp] theorem Ag1(a:G)(b:Ak):Dq a (.b b)=A (.b b,a):=rfl
@[simp] theorem Ag3 (a:G) (b:IntKind) (c:K):Dq a (.i b c)=A (.i b c,a):=rfl
@[simp] theorem Ag8 (a:G) (b:C D):Dq a (.s b)=A (.s b,a):=rfl
@[simp] theorem Ag7 (a:G):Dq a .pn=A (.pn,a):=rfl
@[simp] theorem Ahd (a:G):Dq a .sn=A (.CZ [],a):=rfl
@[simp] theorem Ag5 (a:G):Dq a .mn=A (.mi [] [],a):=rfl
@[simp] theorem Ag2 (a:G):Dq a .fn=A (.fn,a):=rfl
@[simp] theorem Ag6 (a:G) (b:C F):Dq a (.pi b)=A (.pi b,a):=rfl
@[simp] theorem Ahc (a:G) (b:C (C F)):Dq a (.CZ b)=A (.CZ b,a):=rfl
@[simp] theorem Ag4 (a:G) (b c:C F):Dq a (.mi b c)=A (.mi b c,a):=rfl
@[simp] theorem sM (a:G):F9 a []=A ([],a):=rfl
@[simp] theorem TV (a:G) (c:F) (d:C F):F9 a (c::d)=(Dq a c).b λb=>(F9 b.2 d).b λe=>A (b.1::e.1,e.2):=by
 show Df Dq a (c::d)=_
 unfold Df
 cases Dq a c with
 |none=>rfl
 |some b=>obtain⟨g,f⟩:=b;show _=(Df Dq f d).b _;grind
def Im:F->Ak
 | .b _| .i _ _| .s _| .pn| .fn| .LL| .pi _| .CZ _| .mi _ _=>L
 |_=>Ac
def VQ(d:D)(b:G){a:F}(c:Im a=L):DI (d+1) b a=A (a,b):=by cases a<;>first|rfl|(cases c;done)
def O3(c:D)(a:G):∀{b:C F},(b.all Im=L)->Df (DI (c+1)) a b=A (b,a)
 |[],_=>rfl
 |e::f,d=>by unfold Df;rw[VQ c a P];simp only[];rw[O3 c a P]
def sF{a:G}{b:C F}(d:b.all Im=L):Dq a (.S b)=A (.S b,a):=by show(match Df (DI 39) a b with|some (e,c)=>A (F.S e,c)|none=>O)=_;rw[O3 38 a d]
def VS{a:G}{b:C F}(d:b.all Im=L):Dq a (.AC b)=A (.AC b,a):=by show(match Df (DI 39) a b with|some (e,c)=>A (F.AC e,c)|none=>O)=_;rw[O3 38 a d]
def sH{a:G}{c:Aa}{b:C F}(e:b.all Im=L):Dq a (.f c b)=A (.f c b,a):=by show(match Df (DI 39) a b with|some (f,d)=>A (F.f c f,d)|none=>O)=_;rw[O3 38 a e]
def b9{b:G}{c:Aa}{d:D}{a:C F}(g:Eg (b.N c)=A (d,a))(h:a.all Im=L):Dq b (.p c e)=A (.pi (a.d e),b.set c (.rc d a)):=by show(match Eg (b.N c)with|some (d,a)=>(match Df (DI 39) b a with|some (i,f)=>A (F.pi (i.d e),f.set c (.rc d a))|none=>O)|none=>O)=_;rw[g];simp only[];rw[O3 38 b h]
def h4{d:G}{g:Aa}{h b:D}{c:C F}(j:Eg (d.N g)=A (e,c))(m:a≠0)(l:f+a*b<=e)(k:((c.d f).t (a*b)).all Im=L):Dq d (.Z g f a h b)=A (.CZ (I3 b a ((c.d f).t (a*b))),d.set g (.rc e c)):=by show An (Bb a 0) _ (match Eg (d.N g)with|some (e,c)=>An (Co (f+a*b) e) (match Df (DI 39) d ((c.d f).t (a*b))with|some (n,i)=>A (F.CZ (I3 b a n),i.set g (.rc e c))|none=>O) O|none=>O)=_;rw[j,G0 m];simp only[];rw[Air l,O3 38 d k];rfl
@[simp] theorem Ahb(a:G)(b:Aa)(d c e:D):Dq a (.Z b d 0 c e)=A (.CZ [],a):=rfl
