/- Part of the proof. -/
import Derived.Test.YtbmnfifnenajjaaGreatMaf
set_option linter.all false
noncomputable section
open Option renaming some->A,none->O,bind->Option.b
open _root_ renaming rfl->B,List->C,Nat->D,Int->K,if_neg->Ad,if_pos->Af,Bool->Ah,cond->Aj
open Bool renaming true->L,false->Aa
open Decidable renaming decide->Ao
open Nat renaming beq->AW,ble->BX
open List renaming length->List.l,map->List.m,take->List.t,drop->List.d,flatMap->List.f
open Go.IntKind renaming i64->Go.IntKind.n
open Array renaming toList->Array.l
open Eq renaming trans->Eq.t,symm->Eq.s
open Or renaming inl->Or.i
open Int renaming toNat->Int.n
namespace Go.Fg
@[simp] theorem O4(c:F)(a:G)(b:F->G->R):bl c a b=b c a:=rfl
attribute [simp] GK PS WD PH KU
@[simp] theorem AbQ(a:Ah):F.I (.b a)=[.b a]:=rfl
@[simp] theorem AbS (a:IntKind) (b:K):F.I (.i a b)=[.i a b]:=rfl
@[simp] theorem AbZ (a:C D):F.I (.s a)=[.s a]:=rfl
@[simp] theorem AbW (a:T) (b:D):F.I (.p a b)=[.p a b]:=rfl
@[simp] theorem AbY:F.I .pn=[.pn]:=rfl
@[simp] theorem Ab0 (a:T) (d c b e:D):F.I (.Z a d c b e)=[.Z a d c b e]:=rfl
@[simp] theorem Ab3:F.I .sn=[.sn]:=rfl
@[simp] theorem AbT (a:T):F.I (.m a)=[.m a]:=rfl
@[simp] theorem AbV:F.I .mn=[.mn]:=rfl
@[simp] theorem AbR (a:T) (b:C F):F.I (.f a b)=[.f a b]:=rfl
@[simp] theorem Ww (a:C F):F.I (.S a)=a:=rfl
@[simp] theorem AbX (a:C F):F.I (.pi a)=[.pi a]:=rfl
@[simp] theorem Ab2 (a:C (C F)):F.I (.CV a)=[.CV a]:=rfl
@[simp] theorem AbU (a b:C F):F.I (.mi a b)=[.mi a b]:=rfl
@[simp] theorem Abp (a:Ah):Fl (.b a)=L:=rfl
@[simp] theorem Abr (a:IntKind) (b:K):Fl (.i a b)=L:=rfl
@[simp] theorem Abx (a:C D):Fl (.s a)=L:=rfl
@[simp] theorem Abu (a:T) (b:D):Fl (.p a b)=L:=rfl
@[simp] theorem Abw:Fl .pn=L:=rfl
@[simp] theorem Aby (a:T) (d c b e:D):Fl (.Z a d c b e)=L:=rfl
@[simp] theorem AbB:Fl .sn=L:=rfl
@[simp] theorem Abs (a:T):Fl (.m a)=L:=rfl
@[simp] theorem Abq (a:T) (b:C F):Fl (.f a b)=L:=rfl
@[simp] theorem Abv (a:C F):Fl (.pi a)=L:=rfl
@[simp] theorem AbA (a:C (C F)):Fl (.CV a)=L:=rfl
@[simp] theorem Abt (a b:C F):Fl (.mi a b)=L:=rfl
attribute [simp] DJ
@[simp] theorem WJ:G.Aq.next=.h:=rfl
attribute [simp] G.Gh G.Mr G.Tk T.Vp T.iu T.it
@[simp] theorem Oa(a:T):G.Aq.M a=O:=rfl
@[simp] theorem SB (b:G) (c:BV) (a:T):(b.V c).M a=if a=b.next then A c else b.M a:=by
 split;.rename_i d;subst d;exact G.Xf _ _
 .exact G.LA _ _ ‹_›
@[simp] theorem AN(c:G)(b:T)(d:BV)(a:T):(c.set b d).M a=if a=b then A d else c.M a:=by
 split;.rename_i e;subst e;exact G.Ob _ _ _
 .exact G.Ia _ _ ‹_›
@[simp] theorem rg(c:G)(b a:T):(c.GG b).M a=if a=b then O else c.M a:=by
 split;.rename_i d;subst d;exact G.ao _ _
 .exact G.Qy _ ‹_›
@[simp] theorem mX(b:D)(a:C F):DR (A (.I b a))=A (b,a):=rfl
@[simp] theorem AbO (b:D) (a:C F):DR (A (.rc b a))=A (b,a):=rfl
@[simp] theorem AbP (b:D) (a:C F):Ul (A (.I b a))=A (b,a):=rfl
@[simp] theorem t8 (b:C Bx) (a:D):HQ (A (.Bn b a))=A (b,a):=rfl
@[simp] theorem Adb (b:C Bx) (a:D):HQ (A (.rm b a))=A (b,a):=rfl
@[simp] theorem ba (b:C Bx) (a:D):Ox (A (.Bn b a))=A (b,a):=rfl
theorem TE {h:G} {g:T} {b:D} {e:C F} (i:DR (h.M g)=A (b,e)) (c a:D):h.AL g c a=if c+a<=b then A (if a=b then e else(e.d c).t a)else O:=by
 unfold G.AL G.I;rw[i];simp only[];by_cases d:c+a<=b
 .rw[AdX d,Af d];by_cases f:a=b;.subst f;rw[Aee,Af B];rfl
  .rw[Gm f,Ad f];show A (V0 a (WB c e))=_;rw[PS,WD]
 .rw[Qd d,Ad d];rfl
@[simp] theorem wi(e:G)(g:D)(f:C F)(c:T)(b a:D):(e.V (.I g f)).AL c b a=if c=e.next then(if b+a<=g then A (if a=g then f else(f.d b).t a)else O)else e.AL c b a:=by
 split;.rename_i d;subst d;exact TE (by simp) b a
 .rename_i d;unfold G.AL G.I;rw[SB,Ad d]
@[simp] theorem Ads(b:G)(g:C Bx)(e:D)(a:T)(d c:D)(f:a≠b.next):(b.V (.Bn g e)).AL a d c=b.AL a d c:=by unfold G.AL G.I;rw[SB,Ad f]
@[simp] theorem wk(h:G)(f:D)(e:C F)(g c:T)(b a:D):(h.set g (.I f e)).AL c b a=if c=g then(if b+a<=f then A (if a=f then e else(e.d b).t a)else O)else h.AL c b a:=by
 split;.rename_i d;subst d;exact TE (by simp) b a
 .rename_i d;unfold G.AL G.I;rw[AN,Ad d]
@[simp] theorem Adt(c:G)(g:C Bx)(h:D)(b a:T)(e d:D)(f:a≠b):(c.set b (.Bn g h)).AL a e d=c.AL a e d:=by unfold G.AL G.I;rw[AN,Ad f]
variable{f:D}
def X9{b:G}{a:T}{c:C F}(e:DR (b.M a)=A (f,c))(d:D):b.Ap a d=c[d]? :=by unfold G.Ap G.I;rw[e];exact PH _ _
@[simp] theorem Ado(d:G)(f:D)(e:C F)(b:T)(a:D):(d.V (.I f e)).Ap b a=if b=d.next then e[a]?else d.Ap b a:=by
 split;.rename_i c;subst c;exact X9 (f:=f) (by simp) a
 .rename_i c;unfold G.Ap G.I;rw[SB,Ad c]
@[simp] theorem Adp(b:G)(f:C Bx)(d:D)(a:T)(c:D)(e:a≠b.next):(b.V (.Bn f d)).Ap a c=b.Ap a c:=by unfold G.Ap G.I;rw[SB,Ad e]
@[simp] theorem Adq(e:G)(g:D)(f:C F)(d b:T)(a:D):(e.set d (.I g f)).Ap b a=if b=d then f[a]?else e.Ap b a:=by
 split;.rename_i c;subst c;exact X9 (f:=g) (by simp) a
 .rename_i c;unfold G.Ap G.I;rw[AN,Ad c]
@[simp] theorem Adr(c:G)(f:C Bx)(g:D)(b a:T)(d:D)(e:a≠b):(c.set b (.Bn f g)).Ap a d=c.Ap a d:=by unfold G.Ap G.I;rw[AN,Ad e]
variable{a:D}
def Ki{g:G}{e:T}{i:C F}(j:Ul (g.M e)=A (a,i))(d b:D)(h:C F):g.Ep e d b h=if d+b<=a then A (g.set e (.I a (if b=a then h else Dg d h i)))else O:=by
 unfold G.Ep;rw[j];simp only[];by_cases c:d+b<=a
 .rw[AdX c,Af c];show A _=A _;by_cases f:b=a;.subst f;rw[Aee,Af B];rfl
  .rw[Gm f,Ad f];rfl
 .rw[Qd c,Ad c];rfl
@[simp] theorem Acy(a:F):e5 [a]=A a:=rfl
@[simp] theorem ZH (a:Ah) (b c:F):DY [.b a,b,c]=A (Aj a b c):=by cases a<;>rfl
@[simp] theorem F5 (c:D) (b:G) (a:T) (d:D):A9 c b [.p a d]=(b.AL a d c).map .S:=by show(match b.AL a d c with|some e=>A (F.S e)|none=>O)=_;grind
@[simp] theorem Acv(b:D)(d:G)(a:C F):A9 b d [.pi a]=if b<=a.l then A (.S (a.t b))else O:=by
 show Aj (BX b a.l) _ O=_;by_cases c:b<=a.l;.rw[AdX c,Af c];rfl
 .rw[Qd c,Ad c];rfl
@[simp] theorem Qm(b:G)(a:T)(c:D):AM b [.p a c]=b.Ap a c:=rfl
@[simp] theorem nV (b:G) (a:C F):AM b [.pi a]=a[0]? :=rfl
@[simp] theorem AcA (a:T) (b:D):Dr [.p a b]=A (.p a b):=rfl
@[simp] theorem AcB (a:C F):Dr [.pi a]=A (.pi a):=rfl
@[simp] theorem Acz (a:T) (b:C F):Dr [.f a b]=A (.f a b):=rfl
@[simp] theorem EG (b:D) (a:T) (c:D):Bl b [.p a c]=A (.p a (c+b)):=rfl
@[simp] theorem nU (b:D) (a:C F):Bl b [.pi a]=A (.pi (a.d b)):=rfl
@[simp] theorem Acu (b:D) (a:C F):CX b [.S a]=a[b]? :=PH _ _
theorem ZG {b:D} {c:C (C F)} {g:IntKind} {d:D} {a:C F} (e:c[d]? =A a) (f:a.l=b):AR b [.CV c,.i g (d:K)]=A (.pi a):=by show(match c[d]?with|some a=>Aj (AW a.l b) (A (F.pi a)) O|none=>O)=_;rw[e];show Aj (AW a.l b) _ O=_;rw[f,Aee];rfl
variable{e:D}
def e4{b:D}{d:T}{c:D}{g:IntKind}(h:a<c):AR b [.Z d e c f b,.i g (a:K)]=A (.p d (e+a*b)):=by
 show Aj (Nat.blt a c&&AW b b) _ O=_;have:Nat.blt a c=L:=by rw[Afh];omega
 rw[this,Aee];rfl
@[simp] theorem nW(a:C (C F)):DX [.CV a]=A (.i .n a.l):=rfl
@[simp] theorem Acw (b:T) (d a c e:D):DX [.Z b d a c e]=A (.i .n a):=rfl
@[simp] theorem Acx:DX [.sn]=A (.i .n 0):=rfl
@[simp] theorem nX (a:C D):HJ [.s a]=A (.i .n a.l):=rfl
theorem WM {c:C D} {b a:D} {d:IntKind} (e:c[b]? =A a):Hq [.s c,.i d (b:K)]=A (.i .u8 a):=by show(match c[b]?with|some a=>A (F.i .u8 (Int.ofNat a))|none=>O)=_;grind
@[simp] theorem Uu(a:Ah):DE [.b a]=A (.b (!a)):=rfl
@[simp] theorem K1 (a:IntKind):Hu a a=L:=(Oi a a).2 B
@[simp] theorem D7 (a:IntKind) (b c:K):A6 .lss [.i a b,.i a c]=A (.b (Ao (b<c))):=by show Aj (Hu a a) (A (F.b (PG (LD c b)))) O=_;rw[K1,MF,Tl];rw[<-decide_not];grind
@[simp] theorem Pa(a:IntKind)(b c:K):A6 .leq [.i a b,.i a c]=A (.b (Ao (b<=c))):=by show Aj (Hu a a) (A (F.b (LD b c))) O=_;rw[K1,MF];rfl
@[simp] theorem Ew(a:IntKind)(b c:K):A6 .gtr [.i a b,.i a c]=A (.b (Ao (c<b))):=by show Aj (Hu a a) (A (F.b (PG (LD b c)))) O=_;rw[K1,MF,Tl];rw[<-decide_not];grind
@[simp] theorem JW(a:IntKind)(b c:K):A6 .geq [.i a b,.i a c]=A (.b (Ao (c<=b))):=by show Aj (Hu a a) (A (F.b (LD c b))) O=_;rw[K1,MF];rfl
@[simp] theorem Ch(a:IntKind)(b c:K):A6 .eql [.i a b,.i a c]=A (.b (Ao (b=c))):=by show Aj (Hu a a) (A (F.b (Ju b c))) O=_;rw[K1,Kz];rfl
@[simp] theorem DW(a:IntKind)(b c:K):A6 .neq [.i a b,.i a c]=A (.b (!Ao (b=c))):=by show Aj (Hu a a) (A (F.b (PG (Ju b c)))) O=_;rw[K1,Kz,Tl];rfl
@[simp] theorem Lt(a:IntKind)(b c:K):A6 .add [.i a b,.i a c]=A (.i a (a.wrap (b+c))):=by show Aj (Hu a a) (A (F.i a (Iu a (aB b c)))) O=_;rw[K1,KQ,gN];rfl
@[simp] theorem ZE(a:IntKind)(b c:K):A6 .sub [.i a b,.i a c]=A (.i a (a.wrap (b-c))):=by show Aj (Hu a a) (A (F.i a (Iu a (QG b c)))) O=_;rw[K1,KQ,UM];rfl
@[simp] theorem ZD(a:IntKind)(b c:K):A6 .mul [.i a b,.i a c]=A (.i a (a.wrap (b*c))):=by show Aj (Hu a a) (A (F.i a (Iu a (b*c)))) O=_;rw[K1,KQ];rfl
variable{b:K}
def nT(a:IntKind)(c:K)(d:b≠0):A6 .quo [.i a c,.i a b]=A (.i a (a.wrap (c.tdiv b))):=by
 show Aj (Hu a a) (Aj (Ju b 0) O (A (F.i a (Iu a (c.tdiv b))))) O=_;have:Ju b 0=Aa:=by rw[Kz];grind
 rw[K1,this,KQ];rfl
def WL(a:IntKind)(c:K)(d:b≠0):A6 .rem [.i a c,.i a b]=A (.i a (c.tmod b)):=by
 show Aj (Hu a a) (Aj (Ju b 0) O (A (F.i a (c.tmod b)))) O=_;have:Ju b 0=Aa:=by rw[Kz];grind
 rw[K1,this];rfl
def NL(c: -9223372036854775808<=b)(d:b<=9223372036854775807):IntKind.wrap .n b=b:=by
 have:=KQ .n b
 rw[<-this]
 unfold Iu aD
 cases b with
 |ofNat a=>
  have:a<=9223372036854775807:=by grind
  show Og (AW 3 3) (Og (BX a 9223372036854775807) (.ofNat a) _) _=_;rw[AdX this];rfl
 |negSucc a=>
  have:a<=9223372036854775807:=by omega
  show Og (AW 3 3) (Og (BX a 9223372036854775807) (.negSucc a) _) _=_;rw[AdX this];rfl
@[simp] theorem Pb(a b:C D):FS .eql [.s a,.s b]=A (.b (Ao (a=b))):=by show A (F.b (D2 a b))=_;rw[MY];grind
@[simp] theorem Ql(a b:C D):FS .neq [.s a,.s b]=A (.b (!Ao (a=b))):=by show A (F.b (!(D2 a b)))=_;rw[MY];grind
@[simp] theorem ZF(a b c:Ah):Fi a [.b b,.b c]=A (.b (if a then b !=c else b==c)):=by cases a<;>rfl
@[simp] theorem V3 (a b:Ah):A1 a (.b b)=(b==a):=rfl
@[simp] theorem EF (b c:R) (a:Ah):Da b c (.b a)=if a then b else c:=by cases a<;>rfl
@[simp] theorem Ace{d:Type}(a:Ah)(b c:d):Aj a (A b) (A c)=A (Aj a b c):=by grind
@[simp] theorem Ab7 (a b c:Ah):Aj a (F.b b) (F.b c)=F.b (Aj a b c):=by grind
@[simp] theorem Ab9 {f g:Type} (a:Ah) (d e:f) (b c:g):Aj a (d,b) (e,c)=(Aj a d e,Aj a b c):=by grind
@[simp] theorem Acd {c:Type} (b:Ah) (a:c):Aj b a a=a:=by grind
@[simp] theorem Kv (c:Bd) (d:T) (b a:C F) (e:G):C8 c (.f d b) a e=c d (a++b) e:=rfl
@[simp] theorem Acs (b:D) (a:C F):CO b [.AB a]=a[b]? :=PH _ _
@[simp] theorem Acp (a:Ah):Gq a [.pn,.pn]=A (.b (!a)):=rfl
@[simp] theorem Acq (a:Ah) (b:T) (c:D):Gq a [.p b c,.pn]=A (.b a):=rfl
@[simp] theorem Acr (a:Ah) (b:C F):Gq a [.pi b,.pn]=A (.b a):=rfl
@[simp] theorem Acm:Gp [] [] []=A L:=rfl
@[simp] theorem Ack (c:D) (d:C D) (a b:F) (e f:C F):Gp (c::d) (a::e) (b::f)=JO (HH c a b) (Gp d e f):=rfl
@[simp] theorem Zv (a:IntKind) (b c:K):HH 0 (.i a b) (.i a c)=A (Ao (b=c)):=by show Aj (AW 0 0) (Aj (Hu a a) (A (Ju b c)) O) O=_;rw[K1,Kz];rfl
@[simp] theorem Zu(a b:Ah):HH 1 (.b a) (.b b)=A (Ao (a=b)):=by show A (a==b)=_;grind
@[simp] theorem Aci(a b:C D):HH 2 (.s a) (.s b)=A (Ao (a=b)):=by show A (D2 a b)=_;rw[MY];grind
@[simp] theorem T5(a b:Ah):JO (A a) (A b)=A (a&&b):=by cases a<;>rfl
@[simp] theorem e3 (c:Ah) (b:C D) (d e:C F):FT c b [.S d,.S e]=(Gp b d e).map λa=>.b (if c then !a else a):=by show(match Gp b d e with|some a=>A (F.b (Aj c (!a) a))|none=>O)=_;grind
@[simp] theorem AcL(a:G)(b:Ah):Dp a (.b b)=A (.b b,a):=rfl
@[simp] theorem AcN (a:G) (b:IntKind) (c:K):Dp a (.i b c)=A (.i b c,a):=rfl
@[simp] theorem AcS (a:G) (b:C D):Dp a (.s b)=A (.s b,a):=rfl
@[simp] theorem AcR (a:G):Dp a .pn=A (.pn,a):=rfl
@[simp] theorem AcX (a:G):Dp a .sn=A (.CV [],a):=rfl
@[simp] theorem AcP (a:G):Dp a .mn=A (.mi [] [],a):=rfl
@[simp] theorem AcM (a:G):Dp a .fn=A (.fn,a):=rfl
@[simp] theorem AcQ (a:G) (b:C F):Dp a (.pi b)=A (.pi b,a):=rfl
@[simp] theorem AcW (a:G) (b:C (C F)):Dp a (.CV b)=A (.CV b,a):=rfl
@[simp] theorem AcO (a:G) (b c:C F):Dp a (.mi b c)=A (.mi b c,a):=rfl
@[simp] theorem oW (a:G):FV a []=A ([],a):=rfl
@[simp] theorem Sx (a:G) (c:F) (d:C F):FV a (c::d)=(Dp a c).b λb=>(FV b.2 d).b λe=>A (b.1::e.1,e.2):=by
 show CT Dp a (c::d)=_
 unfold CT
 cases Dp a c with
 |none=>rfl
 |some b=>obtain⟨g,f⟩:=b;show _=(CT Dp f d).b _;grind
def Im:F->Ah
 | .b _| .i _ _| .s _| .pn| .fn| .KZ| .pi _| .CV _| .mi _ _=>L
 |_=>Aa
def UA(d:D)(b:G){a:F}(c:Im a=L):Df (d+1) b a=A (a,b):=by cases a<;>first|rfl|(cases c;done)
def N6(c:D)(a:G):∀{b:C F},(b.all Im=L)->CT (Df (c+1)) a b=A (b,a)
 |[],_=>rfl
 |e::f,d=>by unfold CT;rw[UA c a P];simp only[];rw[N6 c a P]
def oQ{a:G}{b:C F}(d:b.all Im=L):Dp a (.S b)=A (.S b,a):=by show(match CT (Df 39) a b with|some (e,c)=>A (F.S e,c)|none=>O)=_;rw[N6 38 a d]
def W7{a:G}{b:C F}(d:b.all Im=L):Dp a (.AB b)=A (.AB b,a):=by show(match CT (Df 39) a b with|some (e,c)=>A (F.AB e,c)|none=>O)=_;rw[N6 38 a d]
def oS{a:G}{c:T}{b:C F}(e:b.all Im=L):Dp a (.f c b)=A (.f c b,a):=by show(match CT (Df 39) a b with|some (f,d)=>A (F.f c f,d)|none=>O)=_;rw[N6 38 a e]
def Z6{b:G}{c:T}{d:D}{a:C F}(g:DR (b.M c)=A (d,a))(h:a.all Im=L):Dp b (.p c e)=A (.pi (a.d e),b.set c (.rc d a)):=by show(match DR (b.M c)with|some (d,a)=>(match CT (Df 39) b a with|some (i,f)=>A (F.pi (i.d e),f.set c (.rc d a))|none=>O)|none=>O)=_;rw[g];simp only[];rw[N6 38 b h]
def fC{d:G}{g:T}{h b:D}{c:C F}(j:DR (d.M g)=A (e,c))(m:a≠0)(l:f+a*b<=e)(k:((c.d f).t (a*b)).all Im=L):Dp d (.Z g f a h b)=A (.CV (Iy b a ((c.d f).t (a*b))),d.set g (.rc e c)):=by show Aj (AW a 0) _ (match DR (d.M g)with|some (e,c)=>Aj (BX (f+a*b) e) (match CT (Df 39) d ((c.d f).t (a*b))with|some (n,i)=>A (F.CV (Iy b a n),i.set g (.rc e c))|none=>O) O|none=>O)=_;rw[j,Gm m];simp only[];rw[AdX l,N6 38 d k];rfl
@[simp] theorem AcV(a:G)(b:T)(d c e:D):Dp a (.Z b d 0 c e)=A (.CV [],a):=rfl
