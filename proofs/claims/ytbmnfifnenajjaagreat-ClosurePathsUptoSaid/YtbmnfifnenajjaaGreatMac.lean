/- Part of the proof. -/
import Derived.Laws.Append
import Derived.Laws.AppendOwn
import Derived.Test.YtbmnfifnenajjaaGreatMab
set_option linter.all false
noncomputable section
open Option renaming some->A,none->O,bind->Option.b
open _root_ renaming rfl->B,List->C,Nat->D,Int->K,if_neg->Ad,if_pos->Af,Option->Ae,Bool->Ah,cond->Aj,Array->Bg,absurd->BF
open Bool renaming true->L,false->Aa
open Decidable renaming decide->Ao
open Nat renaming beq->AW,ble->BX,le_refl->CK
open Go renaming Value->Ba,World->By,TypeId->BQ
open List renaming length->List.l,map->List.m,take->List.t,drop->List.d,toArray->List.a
open Go.IntKind renaming i64->Go.IntKind.n
open Array renaming toList->Array.l,size->Array.z
open Eq renaming trans->Eq.t,symm->Eq.s
open Or renaming inl->Or.i,inr->Or.j
open Int renaming toNat->Int.n
namespace Go.Fg
section
variable{u:Program} {t:AT} {z:Fm} {a:Act} {v:G} {w:By}
theorem hY{b:Ae BV}{d:C Bx}{c:D}(e:HQ b=A (d,c)):b=A (.Bn d c)\/b=A (.rm d c):=by unfold HQ at e;grind
theorem XH{b:Ae BV}{d:C Bx}{c:D}(e:Ox b=A (d,c)):b=A (.Bn d c):=by unfold Ox at e;grind
theorem bb{b:Ae BV}{d:C Bx}{c:D}(e:Ox b=A (d,c)):HQ b=A (d,c):=by rw[XH e];rfl
theorem Tf(y:HR t v w){d:T}{c:Fe}{f:C Bx}{e:D}(b:HQ (v.M d)=A (f,e))(h:t d=A c):∃g,w.heap[c.r]? =A (.map g e)/\FO t f g.l:=by
 rcases hY b with b|b;.exact y.Ca d _ c b h
 .exact y.Ca d _ c b h
def Ot(c:C Bx):C (F×F):=c.m λb=>(b.He,b.Eo)
theorem fc{f:Ah}{l:C D}{k:F}:∀{h i:C Bx} c {d:Ae (D×Bx)},Ot h=Ot i->Gs f l k h c=A d->∃m,Gs f l k i c=A m/\(d=O/\m=O\/∃n e g,d=A (n,e)/\m=A (n,g)/\g.Eo=e.Eo)
 |[],[],c,d,_,b=>by rw[fd]at b;cases b;exact⟨O,fd ..,P⟩
 |[],_::_,_,_,b,_=>by cases b
 |_::_,[],_,_,b,_=>by cases b
 |e::h,g::i,c,d,b,j=>by
  simp only[Ot,AeC,List.cons.injEq,AfM]at b
  obtain⟨⟨p,x⟩,q⟩:=b
  rw[W1]at j⊢
  rw[<-p]
  cases r:Jr f l k e.He with
  |none=>grind
  |some o=>
   rw[r]at j
   cases o with
   |true=>grind
   |false=>exact fc (c+1) q j
theorem hr:∀c d b,c.l=b.l->d.l=b.l->∃e,Ot e=Ot (Qj c d)/\∀t,Bw t c (b.m (·.key))->Bw t d (b.m (·.val))->FO t e b
 |[],[],[],_,_=>⟨[],B,λ_ _ _=>.nil⟩
 |g::c,h::d,l::b,o,p=>by
  obtain⟨e,_⟩:=hr c d b (by grind) (by grind);refine⟨⟨g,h,l.born⟩::e,?_,λt a j=> ?_⟩;.show(g,h)::Ot e=(g,h)::Ot (Qj c d);grind
  .cases a with
   |cons _ _ _ _ i m=>cases j with
    |cons _ _ _ _ k n=>exact .cons _ _ _ _ i k B P
 |[],[],_::_,f,_=>by grind
 |[],_::_,[],_,f=>by grind
 |[],_::_,_::_,f,_=>by grind
 |_::_,_,[],f,_=>by grind
 |_::_,[],_::_,_,f=>by grind
theorem OK{d:D}{c:Bg MapEntry}{b:D}(e:w.heap[d]? =A (.map c b)):(getObj d).run u w=.ok (.map c b) w:=by simp[getObj,Sem.run,e]
theorem rV{d:Ah}{f:C D}{e:F}(b:UN d f e=L):d=L->∃c,e=.S c/\c.l=f.l:=by
 intro g;subst g;unfold UN at b;split at b;.rename_i c;exact⟨c,B,by rw[<-GK];exact AdQ b⟩
 .cases b
theorem Xq{b:BQ}{g:Ah}{c:C D}{i:F}{f:Ba}(n:Oj u b=A (g,c))(p:VR t i f)(d:Ah)(m:UN g c i=L):(Instr.checkKey d 10000 b f).run u w=.ok () w:=by
 obtain⟨e,x⟩:=hb n
 obtain⟨⟨r,h⟩,_⟩:=QH 8 b c e
 cases l:D0 u b with
 |false=>exact eb d 9999 h l (hc e h) f w
 |true=>obtain⟨q,rfl,o⟩:=rV m (by grind);obtain⟨j,k,rfl⟩:=PW p;exact ec d 8 9992 b c e q j (.agg j) w k o (by unfold KW;grind)
theorem Sr{b:Ah}{d:C D}{c:F}{e:C Bx}{f:Ae (D×Bx)}(g:Lw b d c e=A f):UN b d c=L/\Gs b d c e 0=A f:=DL g
variable(s:TR t z a) (y:HR t v w)
theorem vW(s:TR t z a)(y:HR t v w){H:Oper}{xG:BQ}{S xA:Operand}{g:Ah}{e:Rd}{T:C Od}{l:F}(xv:H.op=.lookup xG S xA g)(d:DS u H=A (.rd e T))(xw:e.ev (AU z T) v=A l):GV u t v w H a l:=by
 unfold DS at d;rw[xv]at d;simp only[]at d;split at d
 .rename_i xT xK E;split at d
  .rename_i xH r G xy xc;obtain⟨xU,xs,c⟩:=FY d;cases c
   obtain⟨xW,R,c,J,Y⟩:=MX s xs;obtain⟨xR,xk,xb,xe,xd⟩:=P0 xy;have n:EP r G xH g v (AU z T)=A l:=xw;rw[c]at n;simp only[EP]at n
   .skip;split at n
    .rename_i W j;have xu:∃(i:C Bx)(h:Bg MapEntry),Ot i=Ot W/\FO t i h.l/\(a.eval S=.map O/\h= #[]\/∃e x,a.eval S=.map (A e)/\w.heap[e]? =A (.map h x)):=by
      unfold O_ at j;split at j;.cases j;exact⟨[],#[],B,.nil,.i ⟨cR J,B⟩⟩
      .rename_i xi;split at j
       .rename_i xM x xt;cases j
        obtain⟨xI,xq,I⟩:=TQ J;obtain⟨_⟩:=Tf y xt xq;grind
       grind
      .rename_i xC xD;cases j
       rcases ky J with⟨xi,M,I⟩|⟨rfl,rfl,I⟩;.obtain⟨h,x,xV,xg,xh⟩:=y.EJ _ _ _ M;obtain⟨i,xE,xF⟩:=hr xC xD h.l (by simpa using xg.length.s) (by simpa using xh.length.s);exact⟨i,h,xE,xF _ (xg.Ar t.Wq) (xh.Ar t.Wq),P⟩
       .exact⟨[],#[],B,.nil,P⟩
      .cases j
     obtain⟨i,h,xr,xo,xp⟩:=xu;have X:∀{Q:Ae (D×Bx)},Lw r G R i=A Q->∃b,OW t i h.l 0 Q b/\(execOp a.eval H).run u w=.ok (.value (if g then .tuple #[match b with|some (_,l)=>l|none=>xk,.bool b.isSome]else(match b with|some (_,l)=>l|none=>xk))) w:=by
      intro Q f;obtain⟨xf,N⟩:=Sr f;have xO:=λxl=>Xq (w:=w) xc Y xl xf;obtain⟨b,xN,m⟩:=W2 w xc Y xo N;refine⟨b,m,?_⟩;rcases xp with⟨I,rfl⟩|⟨xi,x,I,xa⟩
      .cases b with
       |none=>cases g<;>simp[execOp,Instr.lookup,run_underlying E,Yb xb xe, *]
       |some o=>obtain⟨q,xj⟩:=o;cases g<;>simp[execOp,Instr.lookup,run_underlying E, *]
      .cases b with
       |none=>cases g<;>simp[execOp,Instr.lookup,run_underlying E,OK xa,Yb xb xe, *]
       |some o=>obtain⟨q,xj⟩:=o;cases g<;>simp[execOp,Instr.lookup,run_underlying E,OK xa, *]
     have U:∀{e:Ae (D×Bx)},Lw r G R W=A e->∃k,Lw r G R i=A k/\(e=O/\k=O\/∃q c V,e=A (q,c)/\k=A (q,V)/\V.Eo=c.Eo):=by intro e M;obtain⟨xf,N⟩:=Sr M;obtain⟨k,xS,xB⟩:=fc 0 xr.s N;exact⟨k,by unfold Lw;grind,xB⟩
     split at n
     .rename_i q xL f
      cases n
      obtain⟨k,f,d⟩:=U f
      rcases d with⟨c,_⟩|⟨xz,xm,xn,c,rfl,xx⟩
      .grind
      cases c
      rw[<-xx]
      obtain⟨b,m,p⟩:=X f
      cases b with
      |none=>cases m
      |some o=>
       obtain⟨xQ,xj⟩:=o;obtain⟨_,_,_,xJ,_,xP,Z,_⟩:=m;cases g
       .exact⟨_,p,Z⟩
       .exact⟨_,p,.AB _ _ (.cons _ _ _ _ Z (.cons _ _ _ _ (.b L) .nil))⟩
     .rename_i f
      cases n
      obtain⟨k,f,d⟩:=U f
      rcases d with⟨_,rfl⟩|⟨xz,xm,xn,c,_⟩
      case inr=>grind
      obtain⟨b,m,p⟩:=X f
      cases b with
      |some o=>cases m
      |none=>
       cases g
       .exact⟨_,p,xd⟩
       .exact⟨_,p,.AB _ _ (.cons _ _ _ _ xd (.cons _ _ _ _ (.b Aa) .nil))⟩
     grind
    grind
  grind
 grind
theorem iT(s:TR t z a)(y:HR t v w){g:Bg Field}:∀{e:C (D×Operand)}{c:C (D×D)},X4 u g e=A c->c.l=e.l/\∀(h:D) f i,c[h]? =A f->e[h]? =A i->∃d,g[i.1]? =A d/\f.1=d.offset/\sz u d.type=A f.2
 |[],c,b=>by cases b;grind
 |(o,r)::e,c,b=>by
  unfold X4 at b;split at b
  .rename_i d m;split at b
   .rename_i q p n j;cases b
    obtain⟨k,l⟩:=iT s y j;grind
   grind
  grind
theorem hX:∀(d:C Field),d.all (λb=>(sz u b.type).isSome)=L->∃f,d.mapM (λb=>(u.info? b.type).map λc=>(b.offset,c.size))=A f/\f.l=d.l/\∀(c:D) b,d[c]? =A b->∃e,sz u b.type=A e/\f[c]? =A (b.offset,e)
 |[],_=>⟨[],B,B,P⟩
 |b::d,g=>by
  simp only[Aer,AdO]at g
  obtain⟨f,m,k,l⟩:=hX d g.2
  obtain⟨e,i⟩:=Option.isSome_iff_exists.1 g.1
  obtain⟨_⟩:=Qz i
  refine⟨(b.offset,e)::f,by simp[*],by simp[k],λc j h=> ?_⟩
  cases c with
  |zero=>simp at h;subst h;exact⟨e,i,by simp⟩
  |succ c=>simpa using l c j (by simpa using h)
theorem vN(s:TR t z a)(y:HR t v w){i:Oper}{n:BQ}{d:Bg (D×Operand)}{G:Rd}{j:C Od}{h:F}(p:i.op=.build n d)(e:DS u i=A (.rd G j))(W:G.ev (AU z j) v=A h):GV u t v w i a h:=by
 unfold DS at e;rw[p]at e;simp only[]at e;have xe:∀{c:C Od},Dz (d.l.m (·.2))=A c->Bw t (AU z c) ((d.l.m λb=>(b.1,a.eval b.2)).m (·.2)):=by intro c g;have:=OD s g;rw[AeF]at this;rw[AeF];exact this
 have I:∀{f:Bg Ba}{c:C F},u.built n (d.map λb=>(b.1,a.eval b.2)).l=A f->Bw t c f.l->h=.S c->GV u t v w i a h:=by intro f c S g k;subst k;refine⟨.agg f,?_,.S _ _ g⟩;simp[execOp,p,(run_build w n (d.map λb=>(b.1,a.eval b.2)) f S)]
 have U:(d.map λb=>(b.1,a.eval b.2)).l=d.l.m λb=>(b.1,a.eval b.2):=by simp
 split at e
 .rename_i H R Y xj;split at e
  .rename_i x V;split at e
   .rename_i o;simp only[AdO]at o;obtain⟨c,g,k⟩:=FY e;cases k
    have m:Cb H x (AU z j)=A h:=W;unfold Cb at m;split at m
    .rename_i c T;cases m
     obtain⟨xm,xv,xk,xl,X⟩:=P0 Y;obtain⟨xf,Z,rfl⟩:=PW X;obtain⟨xc,xp,xq,xa⟩:=hX R.l o.1;obtain⟨xu,xd⟩:=iT s y V;obtain⟨xt,N,Q⟩:=ZS (xc.a[·]?) (d.l.m λb=>(b.1,a.eval b.2)) x (AU z j) H c xf T (xe g) Z (by grind) (λr xb xs J l=>by
      rw[Aeo]at l
      cases q:d.l[r]?with
      |none=>grind
      |some E=>
       rw[q]at l;cases l
       obtain⟨M,xg,xh,xi⟩:=xd r xb E J q;obtain⟨xr,xn,xo⟩:=xa E.1 M (by grind);grind) P
     refine I ?_ Q B;unfold Program.built;rw[U];simp only[*];exact N
    grind
   grind
  grind
 grind
end
section
variable{y:Program} {v:AT} {s:Fm} {a:Act} {z:G} {w:By}
theorem AaZ{c:F}{d:C F}{b:C Ba}(g:Bw v (c::d) b):∃e f,b=e::f/\VR v c e/\Bw v d f:=by cases g;grind
theorem na{g:Call}{m:BQ}{e:Rd}{l:C Od}(b:Sd y g m=A (.rd e l)):
  ∃d c,g.callee=.builtin d/\g.argTypes[0]? =A c/\Dz g.args.l=A l/\
   ((d=.len/\y.underlying c=A .string/\e=.a3)\/(d=.len/\(∃f,y.underlying c=A (.slice f))/\e=.Re)\/(d=.len/\(∃i f,y.underlying c=A (.map i f))/\e=.XE)\/
    (d=.cap/\(∃f,y.underlying c=A (.slice f))/\e=.Za)\/(d=.max/\(∃i,y.underlying c=A (.int i))/\e=.max)):=by
 unfold Sd at b
 split at b
 .grind
 .grind
 .rename_i d n;split at b
  .rename_i c k;split at b;.rename_i h;obtain⟨_⟩:=FY b;grind
   .rename_i j h;obtain⟨_⟩:=FY b;grind
   .rename_i i j h;obtain⟨_⟩:=FY b;grind
   grind
  .rename_i c k;split at b;.rename_i j h;obtain⟨_⟩:=FY b;grind
   grind
  .rename_i c k;split at b;.rename_i j h;obtain⟨_⟩:=FY b;grind
   grind
  ·
   exfalso;split at b
   .split at b
    .split at b
     .split at b;.grind
      .split at b;.obtain⟨_⟩:=JV b;grind
       .obtain⟨_⟩:=JV b;grind
       grind
     grind
    grind
   grind
  .exfalso;split at b
   .split at b
    .split at b;.obtain⟨_⟩:=JV b;grind
     grind
    grind
   grind
  grind
theorem wO{c:Oper}{b:Call}{d:Builtin}{e:Ba}(g:c.op=.call b)(f:b.callee=.builtin d)(h:(builtin d b.argTypes c.type (b.args.map λ| .const _=>L|_=>Aa) (b.args.map a.eval)).run y w=.ok (.value e) w):(execOp a.eval c).run y w=.ok (.value e) w:=by simp[execOp,g,resolve,f,invoke];omega
theorem h1{v:AT}{w:By}(c:IntKind):∀(g:C F)(b:K)(h:C Ba)(d:F),Rf c b g=A d->Bw v g h->∃i,(h.foldlM Builtin.max2 (.int c b):Sem Ba).run y w=.ok i w/\VR v d i
 |[],b,h,d,f,j=>by cases j;cases f;exact⟨_,by simp,.i c b⟩
 |E::g,b,h,d,f,j=>by
  cases j
  rename_i H G r q;cases E<;>simp only[Rf]at f<;>try grind
  rename_i x e;obtain⟨n,o⟩:=DL f;have p:=(Oi c x).1 n;subst p;have:=IR r;subst this;obtain⟨i,k,m⟩:=h1 c g _ G d o q;refine⟨i,?_,m⟩;rw[MF]at k;have l:(bif Ao (e<=b)then b else e)=if e>b then e else b:=by grind
  rw[l]at k;simp only[List.foldlM_cons,Sem.run_bind,Builtin.max2,Sem.run_pure,Result.andThen_ok];omega
variable(u:TR v s a) (t:HR v z w)
theorem vO(u:TR v s a)(t:HR v z w){r:Oper}{o:Call}{T:Rd}{Q:C Od}{l:F}(S:r.op=.call o)(N:DS y r=A (.rd T Q))(n:T.ev (AU s Q) z=A l):GV y v z w r a l:=by
 unfold DS at N;rw[S]at N;obtain⟨U,xz,xe,k,xh,xg⟩:=na N;have f:=OD u xh;have h:∀{E:Ba},(builtin U o.argTypes r.type (o.args.map λ| .const _=>L|_=>Aa) (o.args.map a.eval)).run y w=.ok (.value E) w->VR v l E->GV y v z w r a l:=λxa n=>⟨_,wO S xe xa,n⟩;have i:o.args.map a.eval=(o.args.l.m a.eval).a:=by grind
 revert f n;generalize AU s Q=x;intro n f;rcases xg with⟨rfl,e,rfl⟩|⟨rfl,⟨m,e⟩,rfl⟩|⟨rfl,⟨xl,m,e⟩,rfl⟩|⟨rfl,⟨m,e⟩,rfl⟩|⟨rfl,⟨xl,e⟩,rfl⟩
 .have b:HJ x=A l:=n;unfold HJ at b;split at b
  .rename_i xy;cases b
   obtain⟨g,c,d⟩:=KP f;obtain⟨G,xf,rfl⟩:=OR d;subst xf;refine h (E:=.int .n (G.size:K)) ?_ ?_;.rw[i,c];simp[builtin,Builtin.len_,k,run_underlying e,goInt]
   .have:(G.data.l.m UInt8.toNat).l=G.size:=by rw[Ad9,AeI];rfl
    rw[this];exact .i _ _
  grind
 .have b:DX x=A l:=n;unfold DX at b;split at b
  .rename_i V xo p H xt;cases b
   obtain⟨g,c,d⟩:=KP f;have:∃j q,g=.slice (A j) p q:=by rcases IS d with⟨R,W,_,_,_,_,m⟩|⟨j,M,_,m⟩<;>grind
   obtain⟨j,q,rfl⟩:=this;refine h (E:=.int .n (p:K)) ?_ (.i _ _);rw[i,c];simp[builtin,Builtin.len_,k,run_underlying e,goInt]
  .cases b
   obtain⟨g,c,d⟩:=KP f;have:=KO d;subst this;refine h (E:=.int .n 0) ?_ (.i _ _);rw[i,c];simp[builtin,Builtin.len_,k,run_underlying e,goInt]
  .rename_i I;cases b
   obtain⟨g,c,d⟩:=KP f;have:∃j q,g=.slice j I.l q:=by rcases RO d with⟨_,_,_,_,_,_,_,_,_,_,m⟩|⟨M,_,_,m⟩|⟨M,m⟩<;>grind
   obtain⟨j,q,rfl⟩:=this;refine h (E:=.int .n (I.l:K)) ?_ (.i _ _);rw[i,c];simp[builtin,Builtin.len_,k,run_underlying e,goInt]
  grind
 .have b:H8 z x=A l:=n;unfold H8 at b;split at b
  .cases b
   obtain⟨g,c,d⟩:=KP f;have:=cR d;subst this;refine h (E:=.int .n 0) ?_ (.i _ _);rw[i,c];simp[builtin,Builtin.len_,k,run_underlying e,goInt]
  .rename_i xr;split at b
   .rename_i I xu xi;cases b
    obtain⟨g,c,d⟩:=KP f;obtain⟨R,xd,rfl⟩:=TQ d;obtain⟨J,xb,xc⟩:=Tf t xi xd;refine h (E:=.int .n (J.z:K)) ?_ ?_;.rw[i,c];simp[builtin,Builtin.len_,k,run_underlying e,goInt,OK xb]
    .rw[<-xc.length];exact .i _ _
   grind
  .rename_i xv xw;cases b
   obtain⟨g,c,d⟩:=KP f;rcases ky d with⟨xr,xk,rfl⟩|⟨rfl,rfl,rfl⟩
   .obtain⟨J,o,xp,xq,xx⟩:=t.EJ _ _ _ xk;refine h (E:=.int .n (J.z:K)) ?_ ?_;.rw[i,c];simp[builtin,Builtin.len_,k,run_underlying e,goInt,OK xp]
    .rw[<-xq.length];simp only[Ad9,AeI];exact .i _ _
   .refine h (E:=.int .n 0) ?_ (.i _ _);rw[i,c];simp[builtin,Builtin.len_,k,run_underlying e,goInt]
  grind
 .have b:H7 x=A l:=n;unfold H7 at b;split at b
  .cases b
   obtain⟨g,c,d⟩:=KP f;have:=KO d;subst this;refine h (E:=.int .n 0) ?_ (.i _ _);rw[i,c];simp[builtin,Builtin.cap_,k,run_underlying e,goInt]
  .rename_i V xo p H xt;cases b
   obtain⟨g,c,d⟩:=KP f;have:∃j,g=.slice (A j) p H:=by rcases IS d with⟨R,W,_,_,xj,_,m⟩|⟨j,M,xj,m⟩<;>grind
   obtain⟨j,rfl⟩:=this;refine h (E:=.int .n (H:K)) ?_ (.i _ _);rw[i,c];simp[builtin,Builtin.cap_,k,run_underlying e,goInt]
  grind
 .have b:H9 x=A l:=n;unfold H9 at b;split at b;.rename_i xm p xn;obtain⟨g,xs,c,d,Z⟩:=AaZ f;have:=IR d;subst this;obtain⟨E,X,Y⟩:=h1 (y:=y) (v:=v) (w:=w) xm xn p xs l b Z;refine h (E:=E) ?_ Y;rw[i,c];simp[builtin,Builtin.max_,X]
  grind
theorem i_(u:TR v s a)(t:HR v z w){o:Oper}{n:Rd}{r:C Od}{q:F}(g:DS y o=A (.rd n r))(c:n.ev (AU s r) z=A q):GV y v z w o a q:=by
 have e:=g;unfold DS at e;cases b:o.op<;>rw[b]at e<;>simp only[]at e
 case move f=>obtain⟨m,k,d⟩:=JD e;cases d;exact i9 u t (.i b) k c
 case assign f=>obtain⟨m,k,d⟩:=JD e;cases d;exact i9 u t (.j b) k c
 case pick x f m=>obtain⟨l,j,d⟩:=FY e;cases d;exact v0 u t b j c
 case build h T=>exact vN u t b g c
 case load h f=>exact vV u t b g c
 case nilCheck f=>obtain⟨m,k,d⟩:=JD e;cases d;exact vZ u t b k c
 case binOp H h f m V=>
  split at e;.exact i8 u t (i:=Aa) b e c
  .exact i8 u t (i:=L) b e c
  .split at e;.obtain⟨l,j,d⟩:=FY e;cases d;exact i6 u t b j c
   .obtain⟨l,j,d⟩:=FY e;cases d;exact i7 u t b j c
   .cases e
 case unOp H h f=>exact v3 u t b g c
 case convert U J f=>exact vP u t b g c
 case makeInterface h f=>exact vY u t b g c
 case makeFunc N M I=>exact vX u t b g c
 case slice h f R P G=>
  cases G with
  |none=>exact v2 u t b g c
  |some _=>cases e
 case fieldAddr h f E=>exact vS u t b g c
 case field h f E=>exact vR u t b g c
 case indexAddr h f p=>exact vU u t b g c
 case index h f p=>exact vT u t b g c
 case lookup h f p S=>exact vW u t b g c
 case extract f Q=>obtain⟨m,k,d⟩:=JD e;cases d;exact vQ u t b k c
 case call x=>exact vO u t b g c
 case makeMap h n=>cases n<;>simp at e
 all_goals(exfalso;revert e;repeat' split)
 all_goals first
  |(intro i;cases i;done)
  |(intro i;obtain⟨l,j,d⟩:=FY i;cases d;done)
  |(intro i;obtain⟨l,j,d⟩:=JD i;cases d;done)
  |(intro i;obtain⟨l,j,d⟩:=P7 i;cases d;done)
  |(intro i;obtain⟨l,j,d⟩:=JV i;cases d;done)
end
section
variable{u:Program} {t:AT} {v:Fm} {a:Act} {z:G} {w:By}
def RQ(u:Program)(t:AT)(w:By)(g:Oper)(a:Act)(f:T)(j:BV)(i:F):Prop:=
 ∃e b d h,(execOp a.eval g).run u w=.ok (.value e) b/\b.heap=w.heap.push h/\JH w b/\d.r=w.heap.z/\∀c:AT,t.le c->c f=A d->VR c i e/\BR c j d b
theorem Ui{m:AT}{d:C F}{b:Bg Ba}{h:BQ}{e c f:D}{w l:By}(p:l.heap[w.heap.z]? =A (.cells b h (e,c)))(o:d.l=f)(q:f<=b.z)(n:∀g,g<b.z->¬(e<=g/\g<c))(r:∀(i:D) j,d[i]? =A j->∃k,b[i]? =A k/\VR m j k):BR m (.I f d) ⟨w.heap.z,0,b.z⟩ l:=
 ⟨o,by grind,b,h,e,c,p,B,n,P⟩
theorem TC{b:Bg Obj}{c:Obj}:(b.push c)[b.z]? =A c:=by simp
theorem Yv{g:AT}{e:C F}{d:Bg Ba}(h:Bw g e d.l):∀(b:D) c,e[b]? =A c->∃f,d[b]? =A f/\VR g c f:=λb c i=>by obtain⟨_⟩:=h.M i;grind
theorem jo(b:C F):F_ b 0=[]:=rfl
theorem jn(b:C F)(c:D):F_ b (c+1)=b++F_ b c:=KU b (F_ b c)
theorem RB(c:C F):∀b,(F_ c b).l=b*c.l
 |0=>by rw[jo];simp
 |b+1=>by rw[jn,AdY,RB c b,AeH];omega
theorem c0{t:AT}{c:C F}{g:Bg Ba}(i:Bw t c g.l)(o:0<c.l):∀d,Bw t (F_ c d) ((List.range (d*g.z)).m (λb=>g[b % g.z]!)):=by
 have n:g.z=c.l:=by rw[<-i.length];simp
 have k:∀d b f,(F_ c d)[b]? =A f->b<d*c.l/\c[b % c.l]? =A f:=by
  intro d
  induction d with
  |zero=>intro b f e;rw[jo]at e;grind
  |succ d m=>
   intro b f e;rw[jn]at e;by_cases h:b<c.l;.rw[AeQ h]at e;rw[Nat.mod_eq_of_lt h,AeH];grind
   .rw[Ae9 (by omega)]at e;obtain⟨l,j⟩:=m _ _ e;rw[AeH];refine⟨by omega,?_⟩;rw[show b=(b-c.l)+c.l by omega,Nat.add_mod_right];omega
 intro d;refine Bw.Tn (by rw[RB];grind) λb f e=> ?_;obtain⟨l,j⟩:=k d b f e;obtain⟨_⟩:=i.M j;grind
variable(y:TR t v a)
theorem k8(y:TR t v a){f:Oper}{b:BQ}{d:F}{c:T}(k:f.op=.alloc b)(m:KR u b=A d):RQ u t w f a c (.I (Bq d.I) d.I) (.p c 0):=by
 obtain⟨o,g,i,n,l⟩:=P0 m;have e:=PX l;refine⟨.pointer (A ⟨w.heap.z,0,O⟩),{w with heap:=w.heap.push (.cells g.cells b)},⟨w.heap.z,0,g.cells.z⟩,_,?_,B,⟨B,B,B,Uz w _ _⟩,B,λp j h=>⟨?_,?_⟩⟩;.simp[execOp,k,Instr.alloc,Yb i n,newVar,newRow]
 .exact .p c 0 _ h
 .refine Ui TC (by rw[GK]) (by rw[GK,<-e.length];simp) (by omega) (Yv (e.Ar j))
theorem k9(y:TR t v a){g:Oper}{e:BQ}{b:Operand}{d:Od}{c:T}(j:g.op=.box e b)(k:od b=A d):RQ u t w g a c (.I (Bq (d.ev v).I) (d.ev v).I) (.p c 0):=by
 have f:=PX (Gi y k);refine⟨.pointer (A ⟨w.heap.z,0,O⟩),{w with heap:=w.heap.push (.cells (a.eval b).cells e)},⟨w.heap.z,0,(a.eval b).cells.z⟩,_,?_,B,⟨B,B,B,Uz w _ _⟩,B,λl i h=>⟨?_,?_⟩⟩;.simp[execOp,j,Instr.box,newVar,newRow]
 .exact .p c 0 _ h
 .refine Ui TC (by rw[GK]) (by rw[GK,<-f.length];simp) (by omega) (Yv (f.Ar i))
theorem la(y:TR t v a){c:Oper}{f:BQ}{b:T}(e:c.op=.makeMap f O):RQ u t w c a b (.Bn [] 0) (.m b):=by
 refine⟨.map (A w.heap.z),{w with heap:=w.heap.push (.map #[] 0)},⟨w.heap.z,0,0⟩,_,?_,B,⟨B,B,B,oK w _ _⟩,B,λh g d=>⟨?_,?_⟩⟩;.simp[execOp,e,Instr.makeMap]
 .exact .m b _ d
 .exact⟨#[],TC,.nil⟩
theorem k_(y:TR t v a){N:Oper}{Q f:BQ}{M s:Operand}{W:C Od}{q:T}{c d:D}{r:F}{S:BV}{R:F}(I:N.op=.makeSlice Q M s)(G:u.underlying Q=A (.slice f))(xn:sz u f=A c)(xc:O6 u f=A d)(xr:KR u f=A r)(o:PJ c d=L)(p:(Bq r.I)=c)(xq:Dz [M,s]=A W)(h:Gd r.I c d q (AU v W)=A (S,R)):RQ u t w N a q S R:=by
 obtain⟨xz,xA,X,xa,xb⟩:=MX y xq;rw[X]at h;unfold Gd at h;split at h
 .rename_i xx e xy b i;injection i with i j;injection j with j _;subst i j;obtain⟨k,Y⟩:=DL h;cases Y
  simp only[AdO]at k;have xj:=AdT k.1;have x:=AdT k.2;have U:=IR xa;have V:=IR xb;obtain⟨xt,m,xo⟩:=Qz xn;have xe:xt.bytes=d:=by unfold O6 at xc;grind
  obtain⟨xw,g,H,xs,xp⟩:=P0 xr;rw[m]at H;cases H;have E:=PX xp;rw[GK]at p;unfold PJ at o;simp only[AdO]at o;have xv:=AdT o.1.1;have J:g.cells.z=c:=by rw[<-p,<-E.length];simp
  have xu:b<=100000000000:=by have:b*1<=b*d:=Afm _ (AdT P);unfold GA at x;omega
  have xd:¬(281474976710656<d*(b:K)):=by
   have:d*b=((b*d:D):K):=by grind
   rw[this];unfold GA at x;omega
  have xm:¬((e:K)<0):=by omega
  have xg:¬((b:K)<0):=by omega
  have xk:¬(b<e):=by omega
  refine⟨.slice (A ⟨w.heap.z,0,O⟩) e b,{w with heap:=w.heap.push (.cells ((Array.range (b*c)).map (g.cells[·% g.cells.z]!)) f)},⟨w.heap.z,0,b*c⟩,_,?_,B,⟨B,B,B,Uz w _ _⟩,B,λxB xl xh=>⟨?_,?_⟩⟩
  .by_cases l:b*c=0
   .have xf:b=0:=by
     rcases AfN.1 l with Z|Z<;>omega
    subst xf
    have xi:e=0:=by omega
    subst xi
    simp[(IntWalk.i64_in _ (by omega):IntKind.i64.wrap 0=0),show Array.range 0=(#[])from B,execOp,I,U,V,Instr.makeSlice,run_underlying G,asInt,asIntOf,typeInfo,m,sizeOf,l,newRow]
   .simp[execOp,I,U,V,Instr.makeSlice,run_underlying G,asInt,asIntOf,typeInfo,m,xe,(IntWalk.i64_in _ (by omega):IntKind.i64.wrap e=e),(IntWalk.i64_in _ (by omega):IntKind.i64.wrap b=b),xd,xm,xg,xk,sizeOf,xo,l,zeroValue,xs,newRow]
  .exact .Z q 0 e (b+1) c ⟨w.heap.z,0,b*c⟩ b xh xj Om (by simp)
  .simpa using(Ui (f:=b*c) (l:={w with heap:=w.heap.push (.cells ((Array.range (b*c)).map (g.cells[·% g.cells.z]!)) f)}) TC (by rw[RB,p]) (by simp) (by omega) (Yv (by have:=(c0 E (by omega) b).Ar xl;rw[J]at this;simpa[J,Array.toList_range]using this)))
 grind
theorem wG(w:D)(b:F)(c:C F):TH w (b::c)=Aj (AW (Bq b.I) w) (match TH w c with
 |some d=>A (Es b.I d)
 |none=>O) O:=rfl
theorem aZ:∀b c,b.l<=c.l->KD b c=b++c.d b.l
 |[],c,_=>rfl
 |d::b,[],e=>by grind
 |d::b,f::c,e=>by show d::KD b c=_;rw[aZ b c (by grind)];simp
theorem hs:∀d b c,b.l<=c.l->Dg d.l b (d++c)=d++(b++c.d b.l)
 |[],b,c,e=>by show KD b c=_;rw[aZ b c e];rfl
 |f::d,b,c,e=>by show f::Dg d.l b (d++c)=_;rw[hs d b c e];rfl
theorem e8(w:D):∀c g d e i,d.l=g*w->e.l=c.l*w->TH w c=A i->∀b,b.l=c.l->SK g b=L->Qo (OG w b) c (d++e)=A (d++i)
 |[],g,d,e,i,m,n,h,b,p,j=>by
  cases b with
  |cons _ _=>grind
  |nil=>
   cases h
   have:=Afx (by simpa using n);subst this;rfl
 |f::c,g,d,e,i,m,n,h,b,p,j=>by
  cases b with
  |nil=>grind
  |cons s b=>
   rw[wG]at h;obtain⟨k,l⟩:=DL h;have o:=AdQ k;rw[GK]at o;split at l
   .rename_i x q;cases l
    simp only[SK,AdO]at j;have E:(f::c).l*w=w+c.l*w:=by simp[AeH];omega
    show Aj (AW (Bq f.I) w) (Qo (OG w b) c (Dg (s.1*w) f.I (d++e))) O=_;rw[k,(AdQ j.1),<-m,hs d f.I e (by omega)];have r:=e8 w c (g+1) (d++f.I) (e.d f.I.l) x (by grind) (by grind) q b (by grind) P;rw[AeN]at r;rw[KU];grind
   grind
theorem gT:∀c b,SK b c=L->∀e∈c,e.1<b+c.l
 |[],b,_,e,d=>by grind
 |h::c,b,f,e,d=>by
  simp only[SK,AdO]at f
  have g:=AdQ f.1
  simp only[Aec]
  cases d with
  |head=>omega
  |tail _ d=>have:=gT c (b+1) f.2 e d;omega
theorem fn(w b:D):∀d,(∀c∈d,c.1<b)->GZ (b*w) (OG w d)=L
 |[],_=>rfl
 |c::d,e=>by
  have f:=e c (Aey ..);have:c.1*w+w<=b*w:=by have:(c.1+1)*w<=b*w:=AeZ _ (by omega);grind
  show(BX (c.1*w+w) (b*w)&&GZ (b*w) (OG w d))=L;rw[(fn w b d P),AdX this];rfl
theorem lb(y:TR t v a){V:Oper}{s k:BQ}{b c:D}{e:Bg (D×Operand)}{p:C Od}{r:T}{f:F}{m:C F}(xr:V.op=.buildSlice s b e)(I:u.underlying s=A (.slice k))(q:sz u k=A c)(xi:KR u k=A f)(Q:BX (b*c) 1000000=L)(h:AW (Bq f.I) c=L)(N:BX 1 c=L)(xh:Dz (e.l.m (·.2))=A p)(xq:GZ (b*c) (OG c e.l)=L)(R:Qo (OG c e.l) (AU v p) (F_ f.I b)=A m):RQ u t w V a r (.I (b*c) m) (.Z r 0 b (b+1) c):=by
 obtain⟨l,J,xu⟩:=Qz q;obtain⟨xv,x,M,xk,xg⟩:=P0 (u:=t) xi;rw[J]at M;cases M;have H:=PX xg;have h:=AdQ h;rw[GK]at h;have N:=AdT N;have Q:=AdT Q;have S:x.cells.z=c:=by rw[<-h,<-H.length];simp
 have U:=c0 H (by omega) b;rw[S]at U;have xn:Bw t (AU v p) ((e.l.m λd=>(d.1,a.eval d.2)).m (·.2)):=by have:=OD y xh;rw[AeF]at this;rw[AeF];exact this
 have xj:Bw t (F_ f.I b) ((Array.range (b*c)).map (x.cells[·% x.cells.z]!)).l:=by simpa[S,Array.toList_range]using U
 obtain⟨i,X,E⟩:=ZS (λl=>A (l*c,c)) (e.l.m λd=>(d.1,a.eval d.2)) (OG c e.l) (AU v p) (F_ f.I b) m _ R xn xj (by simp[OG]) (λl xm xw W xo=>by unfold OG at W;grind) (by rw[RB,h];omega)
 have xf:m.l=b*c:=by
  have Z:∀n j f o,Qo n j f=A o->o.l=f.l:=by
   intro n
   induction n with
   |nil=>intro j f o g;cases j<;>cases g;rfl
   |cons xm n xl=>
    intro j f o g
    cases j with
    |nil=>cases g
    |cons d j=>obtain⟨xp,xa⟩:=DL (g);rw[xl _ _ _ xa,U4]
  rw[Z _ _ _ _ R,RB,h]
 have xs:i.z=b*c:=by have:=E.length;grind
 refine⟨.slice (A ⟨w.heap.z,0,O⟩) b b,{w with heap:=w.heap.push (.cells i k)},⟨w.heap.z,0,i.z⟩,_,?_,B,⟨B,B,B,Uz w _ _⟩,B,λxx xe xc=>⟨?_,?_⟩⟩
 .have xb:¬(2^24<b*c):=by omega
  have P:(e.map λd=>(d.1,a.eval d.2)).l=e.l.m λd=>(d.1,a.eval d.2):=by simp
  have xt:(Instr.buildSlice s b (e.map λd=>(d.1,a.eval d.2))).run u w=.ok (.slice (A ⟨w.heap.z,0,O⟩) b b) {w with heap:=w.heap.push (.cells i k)}:=by
   by_cases G:b*c=0
   .have xd:b=0:=by
     rcases AfN.1 G with g|g<;>omega
    subst xd
    have Y:Instr.fill (λl=>A (l*c,c)) #[] (e.l.m λd=>(d.1,a.eval d.2))=A i:=by grind
    simp only[Instr.buildSlice,Sem.run_bind,run_underlying I,Result.andThen_ok,HX q,P]
    simp[show Array.range 0=(#[])from B,Y,newRow]
   .simp only[Instr.buildSlice,Sem.run_bind,run_underlying I,Result.andThen_ok,HX q,xb,Ad3,G,Sem.run_pure,Yb J xk,P,X];simp[newRow]
  simp[execOp, *]
 .exact .Z r 0 b (b+1) c ⟨w.heap.z,0,i.z⟩ b xc Om Om (by grind)
 .exact Ui TC xf (by omega) (by omega) (Yv (E.Ar xe))
theorem dd(y:TR t v a){x:Oper}{H:Al}{E:C Od}{M:T}{n:BV}{P:F}(b:DS u x=A (.al H E))(k:H.ev (AU v E) M=A (n,P)):RQ u t w x a M n P:=by
 unfold DS at b;cases g:x.op<;>rw[g]at b<;>simp only[]at b
 case alloc h=>
  split at b
  .rename_i G l;cases b
   cases k
   exact k8 y g l
  .cases b
 case box h xd=>
  obtain⟨e,f,d⟩:=P7 b;cases d;obtain⟨xk,xe,R,S,rfl⟩:=Vq f;cases iw S
  cases k
  exact k9 y g R
 case buildSlice h s xb=>
  split at b
  .rename_i d q;split at b
   .rename_i N G V l;split at b
    .rename_i j;simp only[AdO]at j;split at b
     .rename_i m;simp only[AdO]at m;obtain⟨e,f,o⟩:=P7 b;cases o;obtain⟨i,p⟩:=DL k;have i:=AdQ i;rw[GK]at i;split at p
      .rename_i e Y;cases p
       have I:=AdQ m.2;have J:=AdQ j.1.2;rw[GK]at J;refine lb y g q V l j.1.1 j.1.2 j.2 f (fn N s _ λxa X=> ?_) ?_;.simpa[I]using(gT _ 0 m.1 xa X)
       .simpa using(e8 N (AU v E) 0 [] (F_ G.I s) e (by simp) (by rw[RB,i,J]) Y xb.l (by rw[i];simpa using I) m.1)
      .cases p
     .cases b
    .cases b
   .cases b
  .cases b
 case makeMap h xc=>
  cases xc with
  |none=>cases b;cases k;exact la y g
  |some _=>cases b
 case makeSlice h e Q=>
  split at b
  .rename_i d q;split at b
   .rename_i s xf G W U l;split at b;.rename_i r;simp only[AdO]at r;obtain⟨xe,Z,o⟩:=P7 b;cases o;exact k_ y g q W U l r.1 (AdQ r.2) Z k
    .cases b
   .cases b
  .cases b
 all_goals exfalso
 case call Q=>
  unfold Sd at b;revert b;repeat' split
  all_goals first
   |(intro c;cases c;done)
   |(intro c;obtain⟨e,f,d⟩:=FY c;cases d;done)
   |(intro c;obtain⟨e,f,d⟩:=JV c;cases d;done)
 case binOp xj h n xd xl=>
  unfold Qk at b;revert b;repeat' split
  all_goals first
   |(intro c;cases c;done)
   |(intro c;obtain⟨e,f,d⟩:=FY c;cases d;done)
 case slice h n xh xg xi=>grind
 all_goals try(cases b;done)
 all_goals(revert b;repeat' split)
 all_goals first
  |(intro c;cases c;done)
  |(intro c;obtain⟨e,f,d⟩:=FY c;cases d;done)
  |(intro c;obtain⟨_⟩:=JD c;grind)
  |(intro c;obtain⟨e,f,d⟩:=P7 c;cases d;done)
  |(intro c;obtain⟨_⟩:=JV c;grind)
end
section
variable{v:Program} {u:AT} {y:Fm} {a:Act} {t:G} {w:By}
def AT.BW(u:AT)(d:T)(c:Fe):AT:=⟨λb=>if b=d then A c else u b,u.im⟩
theorem AT.HC(u:AT)(c:T)(b:Fe):u.BW c b c=A b:=Af B
theorem AT.CE(u:AT){c b:T}(d:Fe)(e:b≠c):u.BW c d b=u b:=Ad e
theorem AT.KE{u:AT}{b:T}(d:Fe)(c:u b=O):u.le (u.BW b d):=by
 refine⟨λe g h=> ?_,λ_ _ _ c=>c⟩;by_cases f:e=b;.grind
 .rw[AT.CE _ _ f];omega
theorem Fin.set(i:HR u t w){f:T}{l H:BV}{k:Fe}{o:By}(E:t.M f=A l)(F:l.U6=L)(p:u f=A k)(X:BR u H k o)(V:o.heap.z=w.heap.z)(s:∀d,d≠k.r->o.heap[d]? =w.heap[d]?)(S:JH w o):Fin u t w u (t.set f H) o where
 ext:=.refl _
 F8 b q r:=BF q r
 hr:={
  EJ:=λm d j n=>(i.EJ m d j n).Ar (.refl _) (s d (i.Fg f l k m d j E F p n))
  Fg:=λb m h I d j e R g n=>by
   by_cases c:b=f;.subst c;rw[p]at g;cases g;exact i.Fg b l k I d j E F p n
   .rw[G.Ia _ _ c]at e;exact i.Fg b m h I d j e R g n
  Ca:=λb m h e g=>by
   by_cases c:b=f;.subst c;rw[G.Ob]at e;grind
   .rw[G.Ia _ _ c]at e;refine(i.Ca b m h e g).Ar (.refl _) (s h.r λN=>c ?_);exact i.EH b f h k (by grind) (by grind) g p N
  EH:=λx z J M q r=>i.EH x z J M (by
   by_cases c:x=f;.grind
   .rwa[G.Ia _ _ c]at q) (by
   by_cases c:z=f;.grind
   .rwa[G.Ia _ _ c]at r)
  lt:=λb h g=>by rw[V];exact i.lt b h g
  E8:=λb e=>by
   rw[G.Mr];refine i.E8 b ?_;by_cases c:b=f;.grind
   .rwa[G.Ia _ _ c]at e}
 up:=CK _
 Ez:=by omega
 FU d U e:=s d P
 Gf b h g e U:=by
  refine⟨b,h,g,?_,B⟩;by_cases c:b=f;.grind
  .rwa[G.Ia _ _ c]at e
 Hb l d j Q _:=.i ⟨l,j,Q⟩
 HA b e W:=G.Ia _ _ P
 AD:=S
theorem Fin.alloc(g:HR u t w){x:BV}{h:Fe}{p:By}{V:Obj}(F:u t.next=O)(U:p.heap=w.heap.push V)(W:h.r=w.heap.z)(Y:BR (u.BW t.next h) x h p)(S:JH w p):Fin u t w (u.BW t.next h) (t.V x) p:=by
 have M:∀f,f<w.heap.z->p.heap[f]? =w.heap[f]? :=P;exact{
  ext:=AT.KE h F
  F8:=λc E s=>by
   by_cases b:c=t.next;.subst b;rw[G.Gh,T.Fb];omega
   .rw[AT.CE _ _ b]at s;grind
  hr:={
   EJ:=λm f j o=>(g.EJ m f j o).Ar (AT.KE h F).Fv (M f (g.EJ m f j o).lt)
   Fg:=λc m i N f j e R d o=>by
    by_cases b:c=t.next;.subst b;rw[AT.HC]at d;cases d;have:=(g.EJ N f j o).lt;omega
    .rw[G.LA _ _ b]at e;rw[AT.CE _ _ b]at d;exact g.Fg c m i N f j e R d o
   Ca:=λc m i e d=>by
    by_cases b:c=t.next;.subst b;rw[G.Xf]at e;cases e;rw[AT.HC]at d;grind
    .rw[G.LA _ _ b]at e;rw[AT.CE _ _ b]at d;exact(g.Ca c m i e d).Ar (AT.KE h F) (M _ (g.lt c i d))
   EH:=λz q I J E s k l H=>by
    by_cases r:z=t.next
    .by_cases n:q=t.next;.grind
     .exfalso;subst r;rw[AT.HC]at k;cases k;rw[AT.CE _ _ n]at l;have:=g.lt q J l;omega
    .by_cases n:q=t.next;.exfalso;subst n;rw[AT.HC]at l;cases l;rw[AT.CE _ _ r]at k;have:=g.lt z I k;omega
     .rw[G.LA _ _ r]at E;rw[G.LA _ _ n]at s;rw[AT.CE _ _ r]at k;rw[AT.CE _ _ n]at l;exact g.EH z q I J E s k l H
   lt:=λc i d=>by
    rw[U,Array.size_push];by_cases b:c=t.next;.subst b;rw[AT.HC]at d;grind
    .rw[AT.CE _ _ b]at d;have:=g.lt c i d;omega
   E8:=λc e=>by
    rw[G.Gh,T.Fb];by_cases b:c=t.next;.grind
    .rw[G.LA _ _ b]at e;have:=g.E8 c e;omega}
  up:=by rw[G.Gh,T.Fb];omega
  Ez:=by grind
  FU:=λf H _=>P
  Gf:=λc i d e H=>by
   by_cases b:c=t.next;.subst b;rw[AT.HC]at d;grind
   .rw[AT.CE _ _ b]at d;rw[G.LA _ _ b]at e;grind
  Hb:=λx f j Q _=>.i ⟨x,j,Q⟩
  HA:=λc e X=>G.LA _ _ P
  AD:=S}
theorem Fin.GG(d:HR u t w){f:T}{l:Fe}(F:u f=A l):Fin u t w u (t.GG f) w:=by
 have I:∀b,(t.GG f).M b≠O->b≠f/\t.M b≠O:=λb c=>by
  by_cases i:b=f;.subst i;rw[G.ao]at c;grind
  .rw[G.Qy _ i]at c;grind
 exact{
  ext:=.refl _
  F8:=λb q r=>P
  hr:={
   EJ:=d.EJ
   Fg:=λb h e z j k c s g x=>by rw[G.Qy _ P]at c;exact d.Fg b h e z j k c s g x
   Ca:=λb h e c g=>by rw[G.Qy _ P]at c;exact d.Ca b h e c g
   EH:=λo p m n q r=>d.EH o p m n P P
   lt:=d.lt
   E8:=λb c=>d.E8 b P}
  up:=CK _
  Ez:=CK _
  FU:=λ_ _ _=>B
  Gf:=λb e g c _=>⟨b,e,g,P,B⟩
  Hb:=λJ j k E _=>P
  HA:=λb c H=>G.Qy _ P
  AD:=.refl _}
theorem Fin.rk(h:HR u t w){d:T}{s o:BV}{j k:Fe}{E:By}(R:u t.next=O)(xa:t.M d=A s)(xc:s.U6=L)(p:u d=A j)(xh:k.r=j.r)(xn:BR (u.BW t.next k) o k E)(xk:E.heap.z=w.heap.z)(xb:∀i,i≠j.r->E.heap[i]? =w.heap[i]?)(xj:JH w E):Fin u t w (u.BW t.next k) ((t.GG d).V o) E:=by
 have M:(t.GG d).next=t.next:=B
 have m:∀b,((t.GG d).V o).M b≠O->b=t.next\/(b≠t.next/\b≠d/\t.M b≠O/\((t.GG d).V o).M b=t.M b):=λb f=>by
  by_cases c:b=t.next;.grind
  .by_cases g:b=d;.subst g;rw[G.LA _ _ (by grind),G.ao]at f;grind
   .have J:((t.GG d).V o).M b=t.M b:=by rw[G.LA _ _ (by grind),G.Qy _ g]
    grind
 have xl:=h.lt d j p;exact{
  ext:=AT.KE k R
  F8:=λb Z I=>by
   by_cases c:b=t.next;.subst c;rw[G.Gh,T.Fb,M];omega
   .rw[AT.CE _ _ c]at I;grind
  hr:={
   EJ:=λx i n z=>(h.EJ x i n z).Ar (AT.KE k R).Fv (xb i (h.Fg d s j x i n xa xc p z))
   Fg:=λb x l xd i n f xi e z=>by
    rcases m b (by grind)with c|⟨c,g,_,J⟩;.subst c;rw[AT.HC]at e;cases e;rw[xh];exact h.Fg d s j xd i n xa xc p z
    .rw[J]at f;rw[AT.CE _ _ c]at e;exact h.Fg b x l xd i n f xi e z
   Ca:=λb x l f e=>by
    rcases m b (by grind)with c|⟨c,g,_,J⟩
    .subst c;have:((t.GG d).V o).M (t.GG d).next=A o:=G.Xf _ _
     rw[M]at this;rw[this]at f;cases f;rw[AT.HC]at e;grind
    .rw[J]at f;rw[AT.CE _ _ c]at e;refine(h.Ca b x l f e).Ar (AT.KE k R) (xb _ λxe=>g ?_);exact h.EH b d l j (by omega) (by grind) e p xe
   EH:=λN F U V Z I q r S=>by
    rcases m N Z with H|⟨H,xf,Y,_⟩
    .rcases m F I with g|⟨g,W,Q,_⟩;.grind
     .exfalso;subst H;rw[AT.HC]at q;cases q;rw[AT.CE _ _ g]at r;exact W (h.EH F d V j Q (by grind) r p (by omega))
    .rcases m F I with g|⟨g,W,Q,_⟩;.exfalso;subst g;rw[AT.HC]at r;cases r;rw[AT.CE _ _ H]at q;exact xf (h.EH N d U j Y (by grind) q p (by omega))
     .rw[AT.CE _ _ H]at q;rw[AT.CE _ _ g]at r;exact h.EH N F U V Y Q q r S
   lt:=λb l e=>by
    rw[xk];by_cases c:b=t.next;.subst c;rw[AT.HC]at e;grind
    .rw[AT.CE _ _ c]at e;exact h.lt b l e
   E8:=λb f=>by
    rw[G.Gh,T.Fb,M];rcases m b f with c|⟨_,_,X,_⟩;.grind
    .have:=h.E8 b X;omega}
  up:=by rw[G.Gh,T.Fb,M];omega
  Ez:=by omega
  FU:=λi S f=>P
  Gf:=λb l e f S=>by
   rcases m b f with c|⟨c,_,X,_⟩;.subst c;rw[AT.HC]at e;grind
   .rw[AT.CE _ _ c]at e;grind
  Hb:=λs i n xg _=>.i ⟨s,n,xg⟩
  HA:=λb f xm=>by rw[G.LA _ _ (by grind),G.Qy _ (P:b≠d)]
  AD:=xj}
theorem co(c:D){j:BQ}{k:D×D}:∀e b w f,w.heap[c]? =A (.cells f j k)->b+e.l<=f.z->
  ∃i,(w.setCells c b e).heap[c]? =A (.cells i j k)/\i.z=f.z/\(∀d,i[d]? =if b<=d/\d<b+e.l then e[d-b]?else f[d]?)/\
   (∀h,h≠c->(w.setCells c b e).heap[h]? =w.heap[h]?)/\(w.setCells c b e).heap.z=w.heap.z/\JH w (w.setCells c b e)
 |[],b,w,f,l,o=>⟨f,l,B,λd=>by simp;omega,λ_ _=>B,B,.refl _⟩
 |g::e,b,w,f,l,o=>by
  have m:=setCell_eq_setRow w c b f j k g l;have F:(w.setCell ⟨c,b,O⟩ g).heap[c]? =A (.cells (f.setIfInBounds b g) j k):=by rw[m];exact setRow_heap w c f _ j k l
  simp only[Aec]at o;obtain⟨i,r,G,s,x,z,E⟩:=co c e (b+1) (w.setCell ⟨c,b,O⟩ g) _ F (by grind);refine⟨i,r,by grind,λd=> ?_,λh p=> ?_,?_,?_⟩
  .rw[s d];simp only[Aec];by_cases q:d=b
   .subst q;rw[Ad (by omega)];have:d<f.z:=by omega
    simp[this]
   .by_cases n:b+1<=d/\d<b+1+e.l;.rw[Af n,Af (by omega),show d-b=(d-(b+1))+1 by omega];simp
    .rw[Ad n,Ad (by omega),Af8 (by omega)]
  .show((w.setCell ⟨c,b,O⟩ g).setCells c (b+1) e).heap[h]? =_;rw[x h p,m,setRow_other _ _ _ _ p]
  .show((w.setCell ⟨c,b,O⟩ g).setCells c (b+1) e).heap.z=_;rw[z,m,setRow_size]
  .have:JH w (w.setCell ⟨c,b,O⟩ g):=⟨B,B,B,λa=>by simp⟩;exact this.AI E
theorem ly{b:F}{c:Ba}(d:VR u b c)(e:Fl b=L):c.oneCell'=L:=by cases d<;>first|rfl|(cases e;done)
theorem Abb{e:T}{g d:D}{f:C F}{j:G}(h:t.Ep e g d f=A j)(p:f.l=d):∃b c,t.M e=A (.I b c)/\g+d<=b/\(c.l=b->j=t.set e (.I b (Dg g f c))):=by
 unfold G.Ep at h;split at h
 .rename_i b c l;obtain⟨i,m⟩:=DL h;have i:=AdT i;refine⟨b,c,mY l,i,λo=> ?_⟩;cases m
  by_cases k:d=b
  .have n:g=0:=by omega
   subst k n;rw[Aee];show t.set e (.I d f)=t.set e (.I d (KD f c));rw[aZ _ _ (by omega),Ad1 (by omega),Ad5]
  .rw[Gm k];rfl
 grind
theorem cW(p:HR u t w){g:T}{c k:D}{f:C F}{d:C Ba}{l:G}{b:Fe}(N:t.Ep g c k f=A l)(q:u g=A b)(s:Bw u f d)(r:f.l=k)(R:∀x∈d,x.oneCell'=L):∃z,(storeCells ⟨b.r,b.sh+c,O⟩ d).run v w=.ok () z/\Fin u t w u l z:=by
 obtain⟨xh,xg,o,xd,Q⟩:=Abb N r;obtain⟨J,M,m,I,xa,S,h,xb,n,xc⟩:=p.Ca g _ b o q;have xe:d.l=k:=by rw[s.length,r]
 rw[Q J];obtain⟨E,V,xf,W,X,Y,Z⟩:=co b.r d (b.sh+c) w m h (by omega);refine⟨_,(run_storeCells_cells (P:=v) b.r (b.sh+c) d 0 w (λj U=>by
  have:b.sh+c+j<m.z:=by omega
  simp[World.cell?,h,this]) (λj U=>by
  have:=n (b.sh+c+0+j) (by omega);simp[World.frozen?,h];omega) R),?_⟩
 rw[Aev];refine Fin.set p o B q ⟨by rw[U4];omega,M,E,I,xa,S,V,by omega,n,λe x i=> ?_⟩ Y X Z;rw[ap _ _ _ _ (by omega)]at i;rw[W (b.sh+e)];by_cases H:c<=e/\e<c+f.l;.rw[Af H]at i;rw[Af (by omega),show b.sh+e-(b.sh+c)=e-c by omega];exact s.M i
 grind
end
section
variable{u:Program} {t:AT} {s:Fm} {a:Act} {v:G} {w:By}
def OV(u:Program)(t:AT)(v:G)(w:By)(d:Oper)(a:Act)(g:F)(f:G):Prop:=
 ∃b c e,((execOp a.eval d).run u w=.ok (.value b) c\/((execOp a.eval d).run u w=.ok .skip c/\b=undef))/\VR e g b/\Fin t v w e f c
theorem a2{e:F}{f:Ba}{d:D}(b:Ii e=A d)(c:VR t e f):(Builtin.lenOf f).run u w=.ok d w:=by
 unfold Ii at b;split at b
 .cases b
  rcases IS c with⟨k,m,_,_,_,_,rfl⟩|⟨g,i,_,rfl⟩;.simp[Builtin.lenOf]
  .subst i;simp[Builtin.lenOf]
 .cases b;have:=KO c;subst this;simp[Builtin.lenOf]
 .cases b
  obtain⟨l,j,rfl⟩:=OR c;subst j;simp[Builtin.lenOf]
 .cases b
  rcases RO c with⟨o,E,G,n,H,h,p,q,r,x,rfl⟩|⟨rfl,g,h,rfl⟩|⟨rfl,rfl⟩<;>simp[Builtin.lenOf]
 grind
theorem Wo{b:C F}{f:C Ba}(e:Bw t b f)(l:b.all Fl=L):∀g∈f,g.oneCell'=L:=by
 intro g j;obtain⟨k,d,rfl⟩:=List.getElem_of_mem j;have i:k<b.l:=by rw[<-e.length];exact d
 obtain⟨m,c,h⟩:=e.M (AeD i);rw[AeD d]at c;cases c
 exact ly h P
variable(z:TR t s a) (y:HR t v w)
theorem nv(z:TR t s a)(y:HR t v w){n:Oper}{p:BQ}{r j:Operand}{b:D}{x:C Od}{q:F}{k:G}(N:n.op=.store p r j)(M:sz u p=A b)(S:Dz [r,j]=A x)(d:AX b v (AU s x)=A (q,k)):OV u t v w n a q k:=by
 obtain⟨xb,i,E,H,I⟩:=MX z S;rw[E]at d;unfold AX at d;split at d
 .rename_i Y xa xc e;injection e with e f;injection f with f _;subst e f;obtain⟨c,l⟩:=DL d;have m:AW (Bq i.I) b=L/\BU i.I=L:=by
   cases o:AW (Bq i.I) b with
   |false=>rw[o]at c;cases c
   |true=>rw[o]at c;exact⟨B,c⟩
  have h:=AdQ m.1;rw[GK]at h;obtain⟨X,J,W⟩:=OQ H;split at l
  .rename_i Z R;cases l
   have g:=PX I;rw[DJ]at m;obtain⟨V,T,U⟩:=cW (v:=u) y R J g h (Wo g P);refine⟨undef,V,t,.j ⟨?_,B⟩,RP t,U⟩;have Q:(a.eval j).cells.z=b:=by rw[<-h,<-g.length];simp
   simp[execOp,N,W,Instr.storeAt,Instr.sureAddr,storeVar,HX M,Q,T]
  grind
 grind
def Yt(h:Ae (D×Ba))(b:Bg MapEntry)(c d:Ba)(e:D):Bg MapEntry:=
 match h with
 |some (g,_)=>b.modify g λf=>{f with key:=c,val:=d}
 |none=>b.push {key:=c,val:=d,born:=e}
def Ys(c:Ae (D×Ba))(b:D):D:=
 match c with
 |some _=>b
 |none=>b+1
theorem t9(z:TR t s a)(y:HR t v w){o i q:BQ}{j:D}{b p:Ba}{d:Bg MapEntry}{g:D}(m:u.underlying o=A (.map i q))(e:w.heap[j]? =A (.map d g))(l:(Instr.checkKey Aa 10000 i b).run u w=.ok () w){c:Ae (D×Ba)}(n:(Instr.findKey i b d.l).run u w=.ok c w)(E:∀f k,c=A (f,k)->∃h,d[f]? =A h/\Instr.sameBits 10000 h.key b=L):(Instr.mapUpdate o (.map (A j)) b p).run u w=.ok () {w with heap:=w.heap.setIfInBounds j (.map (Yt c d b p g) (Ys c g))}:=by
 cases c with
 |none=>simp[Yt,Ys,Instr.mapUpdate,run_underlying m,OK e,l,n,setObj,Sem.run,e]
 |some F=>obtain⟨f,k⟩:=F;obtain⟨h,r,x⟩:=E f k B;simp[Yt,Ys,Instr.mapUpdate,run_underlying m,OK e,l,n,setObj,Sem.run,e,r,Instr.keyThatStays,x]
theorem Vb{b:T}{c:Fe}{j g:C Bx}{i f:D}{d:Bg MapEntry}(y:HR t v w)(h:Ox (v.M b)=A (j,i))(e:t b=A c)(k:FO t g d.l):Fin t v w t (v.set b (.Bn g f)) {w with heap:=w.heap.setIfInBounds c.r (.map d f)}:=by have l:=y.lt b c e;refine Fin.set y (XH h) B e ⟨d,by grind,k⟩ (by simp) P ⟨B,B,B,λa=> ?_⟩;obtain⟨_⟩:=y.Ca b _ c (XH h) e;unfold World.frozen?;grind
theorem ul(b:Bx->Bx)(c:D):Nr b [] c=[]:=rfl
theorem un(d:Bx->Bx)(b:Bx)(c:C Bx):Nr d (b::c) 0=d b::c:=rfl
theorem um(d:Bx->Bx)(b:Bx)(c:C Bx)(e:D):Nr d (b::c) (e+1)=b::Nr d c e:=rfl
theorem ZA{n:F}{h:MapEntry->MapEntry}:∀{e:C Bx}{f:C MapEntry} c,FO t e f->(∀d b,e[c]? =A d->f[c]? =A b->VR t d.He (h b).key/\VR t n (h b).val/\d.MB=(h b).born)->FO t (Nr (VM n) e c) (f.modify c h)
 |[],_,c,g,_=>by cases g;rw[ul];simp;exact .nil
 |d::e,_,0,g,m=>by
  cases g
  rename_i b f j k l i;obtain⟨o,p,q⟩:=m d b (by simp) (by simp);rw[un];exact .cons _ _ _ _ o p q i
 |d::e,_,c+1,g,m=>by
  cases g
  rename_i b f j k l i;rw[um];exact .cons _ _ _ _ j k l (ZA c i P)
theorem ZB{b:Bx}{c:MapEntry}(h:VR t b.He c.key)(i:VR t b.Eo c.val)(g:b.MB=c.born):∀{d:C Bx}{e:C MapEntry},FO t d e->FO t (d++[b]) (e++[c])
 |[],_,f=>by cases f;exact .cons _ _ _ _ h i g .nil
 |n::d,_,f=>by
  cases f
  rename_i o e j k l m;exact .cons _ _ _ _ j k l (ZB h i g m)
theorem dY{a b:ByteArray}(c:L=(a.toList==b.toList)):a=b:=by
 have c:a.toList=b.toList:=by grind
 cases a;cases b
 simp only[ByteArray.toList_eq]at c;congr 1;exact Afy c
theorem jG{P:Ah}{f:C D}{g h:F}{i j:Ba}(r:Jr P f g h=A L)(x:VR t g i)(E:VR t h j):Instr.sameBits 10000 j i=L:=by
 have xe:∀k {G:D}{g h:F}{i j:Ba},HH G g h=A L->VR t g i->VR t h j->Instr.sameBits k j i=L:=by
  intro k G g h i j r x E;rcases Sn r x E with⟨_,J,a,l,rfl,rfl,n⟩|⟨_,a,l,rfl,rfl,n⟩|⟨_,a,l,rfl,rfl,n⟩
  .have:a=l:=by grind
   subst this;cases k<;>simp[Instr.sameBits]
  .have:a=l:=by simpa using n.s
   subst this;cases k<;>simp[Instr.sameBits]
  .have:=dY n;subst this;cases k<;>simp[Instr.sameBits,beq_toListBytes]
 rcases WK r x E with⟨_,b,c,d,e,V,W,rfl,rfl,I⟩|⟨_,_,G,_,I⟩
 .have Y:∀f b c d e,Bw t b d->Bw t c e->Gp f b c=A L->d.l=e.l/\((e.zip d).all λo=>Instr.sameBits 9999 o.1 o.2)=L:=by
   intro f
   induction f with
   |nil=>intro b c d e p q m;obtain⟨M,N⟩:=N2 m;have S:=Afx M;have T:=Afx N;subst S T;cases p;cases q;exact⟨B,B⟩
   |cons J f X=>
    intro b c d e p q m
    obtain⟨M,N⟩:=N2 m
    cases b with
    |nil=>grind
    |cons xa b=>cases c with
     |nil=>grind
     |cons xb c=>
      obtain⟨o,Z,_⟩:=R4 (show JO (HH J xa xb) (Gp f b c)=A L from m);have xf:o=L/\Z=L:=by grind
      cases p;cases q
      rename_i xh xj xc Q xg xi xd R;obtain⟨H,U⟩:=X _ _ _ _ Q R (by grind);refine⟨by grind,?_⟩;simp only[List.zip_cons_cons,Aer,AdO];grind
  obtain⟨H,U⟩:=Y f b c d.l e.l V W I
  simp only[AeI]at H
  show(e.z==d.z&&(e.l.zip d.l).all λ(g,h)=>Instr.sameBits 9999 g h)=L
  grind
 grind
theorem Ux{f:Ah}{i:C D}{h:F}:∀{g:C Bx}{e d:D}{c:Bx},Gs f i h g e=A (A (d,c))->Jr f i h c.He=A L
 |[],e,d,c,b=>by cases b
 |l::g,e,d,c,b=>by
  rw[W1]at b;split at b
  .rename_i j k
   cases j with
   |true=>grind
   |false=>exact Ux b
  grind
theorem kx{q:Ah}{e:C D}{f d:F}{g m:Ba}(h:Jr q e f d=A L)(k:VR t f g)(l:VR t d m):VR t d g:=by
 have X:∀{p:D}{f d:F}{g m:Ba},HH p f d=A L->VR t f g->VR t d m->VR t d g:=by
  intro p f d g m h k l;rcases Sn h k l with⟨_,G,a,r,rfl,rfl,o⟩|⟨_,a,r,rfl,rfl,o⟩|⟨_,a,r,rfl,rfl,o⟩;.grind
  .grind
  .have:=dY o;grind
 rcases WK h k l with⟨_,c,b,i,n,Y,Z,rfl,rfl,H⟩|⟨_,_,p,_,H⟩
 .have xe:∀e c b i n,Bw t c i->Bw t b n->Gp e c b=A L->Bw t b i:=by
   intro e
   induction e with
   |nil=>intro c b i n x E j;obtain⟨M,N⟩:=N2 j;grind
   |cons G e xd=>
    intro c b i n x E j
    obtain⟨M,N⟩:=N2 j
    cases c with
    |nil=>grind
    |cons Q c=>cases b with
     |nil=>grind
     |cons R b=>
      obtain⟨I,J,_⟩:=R4 (show JO (HH G Q R) (Gp e c b)=A L from j);have xc:I=L/\J=L:=by grind
      cases x;cases E
      rename_i xj xm T U xi xl V W;exact .cons _ _ _ _ P P
  unfold Jr at h
  split at h
  .cases l with
   |S xg xk xb=>
    cases k with
    |S xf xh xa=>
     cases q with
     |false=>grind
     |true=>exact .S _ _ P
  grind
 grind
theorem eE(z:TR t s a)(y:HR t v w){m:Oper}{i xc xh:BQ}{N f g:Operand}{q:Ah}{M:C D}{xg:C Od}{xf:F}{R:G}(J:m.op=.mapUpdate i N f g\/m.op=.insert i N f g)(xm:u.underlying i=A (.map xc xh))(xa:Oj u xc=A (q,M))(xq:Dz [N,f,g]=A xg)(e:G_ q M v (AU s xg)=A (xf,R)):OV u t v w m a xf R:=by
 obtain⟨xC,xu,xD,xj,xk,xl,rfl⟩:=bA xq;have Y:=Gi z xj;have h:=Gi z xk;have Z:=Gi z xl;unfold G_ at e;split at e
 .rename_i xE xB xG j;injection j with j k;injection k with k x;injection x with x _;subst k x;rw[j]at Y;obtain⟨p,H,xI⟩:=TQ Y;split at e
  .rename_i V S I;obtain⟨W,xi,E⟩:=Tf y (bb I) H;have T:∀{o:Ae (D×Bx)}(d:Lw q M (xu.ev s) V=A o),∃b,OW t V W.l 0 o b/\(Instr.mapUpdate i (.map (A p.r)) (a.eval f) (a.eval g)).run u w=.ok () {w with heap:=w.heap.setIfInBounds p.r (.map (Yt b W (a.eval f) (a.eval g) S) (Ys b S))}:=by
    intro o d
    obtain⟨xt,xb⟩:=Sr d
    obtain⟨b,xv,c⟩:=W2 w xa h E xb
    refine⟨b,c,t9 z y xm xi (Xq xa h Aa xt) xv ?_⟩
    intro xr xH xn
    subst xn
    cases o with
    |none=>cases c
    |some n=>obtain⟨xs,U⟩:=n;obtain⟨rfl,_,xw,r,xd,xx,xy,xe,P⟩:=c;refine⟨r,by simpa using xd,jG (Ux xb) h P⟩
   have X:∀{Q:By},(Instr.mapUpdate i (.map (A p.r)) (a.eval f) (a.eval g)).run u w=.ok () Q->(execOp a.eval m).run u w=.ok .skip Q:=by intro Q l;rcases J with J|J<;>simp[execOp, *]
   split at e
   .rename_i xr U d
    cases e
    obtain⟨b,c,l⟩:=T d
    cases b with
    |none=>cases c
    |some n=>
     obtain⟨xs,xF⟩:=n;obtain⟨rfl,_,xw,r,xd,xx,xy,xe,P⟩:=c;refine⟨undef,_,t,.j ⟨X l,B⟩,RP t,Vb y I H ?_⟩;show FO t _ (Array.modify _ _ _).l;rw[AfP];refine ZA _ E λxz xA j k=> ?_;have xo:xz=U:=by grind
     have xp:xA=r:=by grind
     subst xo xp;refine⟨?_,Z,xe.s⟩;exact kx (Ux (Sr d).2) h P
   .rename_i d
    cases e
    obtain⟨b,c,l⟩:=T d
    cases b with
    |some n=>cases c
    |none=>refine⟨undef,_,t,.j ⟨X l,B⟩,RP t,Vb y I H ?_⟩;show FO t _ (Array.push _ _).l;rw[Array.toList_push];exact ZB h Z B E
   grind
  grind
 grind
end
section
variable{u:Program} {v:AT} {τ:Fm} {a:Act} {y:G} {w:By}
def g0:TypeDesc->Ah
 | .int _=>L
 |_=>Aa
theorem uM{b:TypeDesc}(h:∀c,b≠.int c):g0 b=Aa:=by cases b<;>first|rfl|grind
theorem rN(b:TypeDesc):(match b with|TypeDesc.int c=>L|h=>Aa)=g0 b:=rfl
inductive ES(u:Program)(w:By)(x g:D)(z:Ba)(s:Bg BQ)(n:Ba)(b:D)(o:C Ba):Prop where
 |I (h:BQ) (F:s[1]? =A h) (E:TypeDesc) (G:u.underlying h=A E) (M:∀l,E≠.int l)
  (N:∀c:By,(Builtin.lenOf n).run u c=.ok b c) (P:∀c:By,c.heap=w.heap->(Builtin.firstCells x b n).run u c=.ok o.a c)
 |cZ (h:BQ) (l H:IntKind) (F:s[1]? =A h) (G:u.underlying h=A (.int l)) (S:n=.int H (b:K)) (R:b<=100000000000) (Q:b*g<=100000000000) (k:b*x≠0)
  (J:o.a=Builtin.zeroCells z.cells b)
theorem dh{s:Bg BQ}{t m e:BQ}{i:TypeInfo}{z:Ba}{h:Addr}{c o b:D}{H:Ba}{F:C Ba}{G:By}(q:s[0]? =A t)(p:u.underlying t=A (.slice e))(r:u.info? e=A i)(k:i.zero=A z)(R:ES u w i.size i.bytes z s H b F)(x:c+b<=o)(E:(storeCells (h.add (c*i.size)) F).run u w=.ok () G):(Builtin.append_ s m #[.slice (A h) c o,H]).run u w=.ok (.slice (A h) (c+b) o) G:=by
 cases R with
 |I U l xa n V M N=>simp only[Builtin.append_,q,l,run_underlying p,run_underlying n,sizeOf,typeInfo,Sem.run_bind,Result.andThen_ok,Afa,Afb,AeL];simp[M,x,(N w B),E,r]
 |cZ U Y Z l n S X W T J=>
  subst S;have Q:¬((b:K)<0):=by omega
  have P:¬(281474976710656<b*(i.bytes:K)):=by omega
  simp only[Builtin.append_,q,l,run_underlying p,run_underlying n,sizeOf,Sem.run_bind,Result.andThen_ok,Afa,Afb,AeL];simp[r,k,asInt,asIntOf,(IntWalk.i64_in _ (by omega):IntKind.i64.wrap b=b),Q,P,x,T,zeroValue,typeInfo,<-J,E]
theorem ll{s:Bg BQ}{t m e:BQ}{i:TypeInfo}{z:Ba}{x:Ae Addr}{c h b:D}{N:Ba}{M J:C Ba}(q:s[0]? =A t)(p:u.underlying t=A (.slice e))(r:u.info? e=A i)(k:i.zero=A z)(W:ES u w i.size i.bytes z s N b J)(Y:h<c+b)(X:∀o,o.heap=w.heap->(Builtin.firstCells i.size c (.slice x c h)).run u o=.ok M.a o)(U:(c+b)*i.bytes<=100000000000)(f:1<=i.bytes):
  (Builtin.append_ s m #[.slice x c h,N]).run u w=.ok (.slice (A ⟨w.heap.z,0,O⟩) (c+b) (grownCap w (c+b) h e))
   (w.drew.alloc (.cells (M.a++J.a++Builtin.zeroCells z.cells (grownCap w (c+b) h e-(c+b))) e)):=by
 have G:¬(c+b<=h):=by omega
 have xd:=Aem (by have:=Afm (c+b) f;omega) U
 have F:¬(9223372036854775807<(c+(b:K))):=by omega
 have xe:=growslice_fits (bytes:=i.bytes) Y (by omega)
 have E:¬(281474976710656<Builtin.nextslicecap (c+b) h*i.bytes):=by omega
 have H:=X w.drew B
 cases W with
 |I xb l xj n Q R S=>have xf:=uM Q;simp only[Builtin.append_,q,l,run_underlying p,run_underlying n,sizeOf,Sem.run_bind,Result.andThen_ok,Afa,Afb,AeL];simp[R,G,(S w.drew B),r,k,F,E,zeroValue,typeInfo,Question.forced,H,newRow,grownCap];grind
 |cZ xb xh xi l n Z xg xc xa P=>
  subst Z;have V:¬((b:K)<0):=by omega
  have T:¬(281474976710656<b*(i.bytes:K)):=by
   have:b*i.bytes=((b*i.bytes:D):K):=by simp
   rw[this];omega
  simp only[Builtin.append_,q,l,run_underlying p,run_underlying n,sizeOf,Sem.run_bind,Result.andThen_ok,Afa,Afb,AeL];simp[r,k,asInt,asIntOf,(IntWalk.i64_in _ (by omega):IntKind.i64.wrap b=b),V,T,G,xa,zeroValue,typeInfo,P.s,F,E,Question.forced,H,newRow,grownCap];grind
theorem dg{s:Bg BQ}{t m e:BQ}{i:TypeInfo}{o n:D}{l:Ae Addr}{h:Ba}{H:BQ}{c:TypeDesc}(q:s[0]? =A t)(p:u.underlying t=A (.slice e))(r:u.info? e=A i)(F:o<=n)(x:s[1]? =A H)(E:u.underlying H=A c)(I:((∃b G,c=.int b/\h=.int G 0))\/((∀b,c≠.int b)/\(Builtin.lenOf h).run u w=.ok 0 w/\(Builtin.firstCells i.size 0 h).run u w=.ok #[] w)):(Builtin.append_ s m #[.slice l o n,h]).run u w=.ok (.slice l o n) w:=by
 rcases I with⟨b,G,rfl,rfl⟩|⟨P,J,M⟩;.simp only[Builtin.append_,q,x,run_underlying p,run_underlying E,sizeOf,typeInfo,r,Sem.run_bind,Sem.run_pure,Result.andThen_ok,Afa,Afb,AeL];cases l<;>simp[r,asInt,asIntOf,(IntWalk.i64_in _ (by omega):IntKind.i64.wrap (0:K)=0),F,storeCells]
 .have N:(match c with|TypeDesc.int b=>L|h=>Aa)=Aa:=by cases c<;>first|rfl|grind
  simp only[Builtin.append_,q,x,run_underlying p,run_underlying E,sizeOf,typeInfo,r,Sem.run_bind,Sem.run_pure,Result.andThen_ok,Afa,Afb,AeL];cases l<;>simp[rN,N,r,J,M,F,storeCells]
theorem b7(I:HR v y w){G:T}{l h:D}{x:C F}{b:Fe}(H:y.AL G l h=A x)(J:v G=A b):
  ∃E:C Ba,Bw v x E/\x.l=h/\(∀c:By,c.heap=w.heap->(loadCells ⟨b.r,b.sh+l,O⟩ h).run u c=.ok E.a c)/\
   ∀o,o<h->∀n e M,w.heap[b.r]? =A (.cells n e M)->n[b.sh+l+o]? =E[o]? :=by
 obtain⟨_⟩:=X_ (v:=u) I H J
 obtain⟨X,W,N,_⟩:=jc H
 obtain⟨R,S,n,_⟩:=Qg I N J
 have Q:∀c:By,c.heap=w.heap->(loadCells ⟨b.r,b.sh+l,O⟩ h).run u c=.ok ((n.l.d (b.sh+l)).t h).a c:=λc V=>by
  have:=run_loadCells_list (P:=u) c ⟨b.r,b.sh+l,O⟩ ((n.l.d (b.sh+l)).t h) (λo Y U=>by rw[My];unfold World.cell?;grind)
  grind
 grind
theorem mZ{xe:D}{T:C F}{b:Fe}(Y:BR v (.I xe T) b w){c:D}{l:C Ba}(xk:c+l.l<=b.sz)(X:∀n∈l,n.oneCell'=L):
  ∃x h e G r,(storeCells ⟨b.r,c,O⟩ l).run u w=.ok () x/\x.heap[b.r]? =A (.cells h e (G,r))/\h.z=b.sz/\(∀I,I<b.sz->¬(G<=I/\I<r))/\
   (∀i:D,c<=i->i<c+l.l->h[i]? =l[i-c]?)/\(∀i:D,i<c->∀n,T[i-b.sh]? =A n->b.sh<=i->∃U,h[i]? =A U/\VR v n U)/\
   (∀i:D,i<c->∀o M N,w.heap[b.r]? =A (.cells o M N)->h[i]? =o[i]?)/\
   x.heap.z=w.heap.z/\(∀J,J≠b.r->x.heap[J]? =w.heap[J]?)/\JH w x:=by
 obtain⟨xg,xh,o,e,G,r,E,xi,Q,V⟩:=Y
 obtain⟨h,xl,xm,S,xb,xc,xd⟩:=co b.r l c w o E (by omega)
 refine⟨_,h,e,G,r,(run_storeCells_cells (P:=u) b.r c l 0 w (λH Z=>by
  have:c+H<o.z:=by omega
  simp[World.cell?,E,this]) (λH Z=>by
  have:=Q (c+0+H) (by omega);simp[World.frozen?,E];omega) X),?_,by omega,Q,?_,?_,?_,?_,?_,?_⟩
 .omega
 .grind
 .intro i W n xa xj;rw[S i,Ad (by omega)];have:=V (i-b.sh) n xa;rwa[show b.sh+(i-b.sh)=i by omega]at this
 .intro i W xf M N R;rw[E]at R;cases R;rw[S i,Ad (by omega)]
 .rw[Aev];exact xc
 .rw[Aev];exact xb
 .rw[Aev];exact xd
section
variable{s:Bg BQ} {t m e:BQ} {i:TypeInfo} {z:Ba} {g j:D} (q:s[0]? =A t) (p:u.underlying t=A (.slice e)) (r:u.info? e=A i) (k:i.zero=A z)
 (d:i.size=j) (z0:i.bytes=g) (f:1<=g) (z2:1<=j) (z1:z.cells.z=j)
theorem YI(q:s[0]? =A t)(p:u.underlying t=A (.slice e))(r:u.info? e=A i)(k:i.zero=A z)(d:i.size=j)(z0:i.bytes=g)(f:1<=g)(z2:1<=j)(z1:z.cells.z=j)(X:HR v y w){M:Ae Addr}{b o h:D}{U:Ba}{H G:C F}{E x:C Ba}(Z:ES u w i.size i.bytes z s U h x)(xd:o<b+h)(xc:∀J:By,J.heap=w.heap->(Builtin.firstCells i.size b (.slice M b o)).run u J=.ok E.a J)(R:Bw v H E)(Q:Bw v G x)(xb:H.l=b*j)(xa:G.l=h*j)(Y:(b+h)*g<=100000000000)(N:v y.next=O):∃I T V,(Builtin.append_ s m #[.slice M b o,U]).run u w=.ok I T/\VR V (.Z y.next 0 (b+h) 0 j) I/\Fin v y w V (y.V (.I ((b+h)*j) (Es H G))) T:=by
 subst d z0;have P:=grownCap_ge w (b+h) o e;have S:(E.a++x.a++Builtin.zeroCells z.cells (grownCap w (b+h) o e-(b+h))).z=grownCap w (b+h) o e*i.size:=by simp only[Array.size_append,AfQ,size_zeroCells,z1,R.length,Q.length,xb,xa,<-AeH];grind
 refine⟨_,_,v.BW y.next ⟨w.heap.z,0,grownCap w (b+h) o e*i.size⟩,(ll (m:=m) q p r k Z xd xc Y f),?_,?_⟩;.exact .Z y.next 0 (b+h) 0 i.size ⟨w.heap.z,0,grownCap w (b+h) o e*i.size⟩ _ (AT.HC _ _ _) P Om (by simp)
 .refine Fin.alloc (V:=.cells (E.a++x.a++Builtin.zeroCells z.cells (grownCap w (b+h) o e-(b+h))) e) X N B B ?_ ⟨B,B,B,Uz w _ _⟩;have:=Ui (m:=v.BW y.next ⟨w.heap.z,0,grownCap w (b+h) o e*i.size⟩) (d:=H++G) (b:=E.a++x.a++Builtin.zeroCells z.cells (grownCap w (b+h) o e-(b+h))) (h:=e) (e:=0) (c:=0) (f:=(b+h)*i.size) (w:=w)
   (l:=w.drew.alloc (.cells (E.a++x.a++Builtin.zeroCells z.cells (grownCap w (b+h) o e-(b+h))) e)) TC
   (by grind) (by rw[S];exact AeZ _ P) (by omega) (λxf xi xe=>by
    obtain⟨I,xg,W⟩:=((R.Km Q:Bw v (H++G) (E++x)).Ar (AT.KE _ N)).M xe;have xh:xf<(E++x).l:=by grind
    refine⟨I,?_,W⟩;grind)
  rw[S]at this;rw[KU];omega
theorem dj(q:s[0]? =A t)(p:u.underlying t=A (.slice e))(r:u.info? e=A i)(k:i.zero=A z)(d:i.size=j)(z0:i.bytes=g)(f:1<=g)(z2:1<=j)(z1:z.cells.z=j)(Q:HR v y w){l:D}{xX xu:F}{Y xv:Ba}{xp:C F}{xq:C Ba}{xE:G}(R:VR v xX Y)(xd:Bw v xp xq)(xf:xp.l=l*j)(xP:∀xu∈xq,xu.oneCell'=L)(x6:l=0->∀xN W xx,W<=xx->(Builtin.append_ s m #[.slice xN W xx,xv]).run u w=.ok (.slice xN W xx) w)(xn:l≠0->ES u w i.size i.bytes z s xv l xq)(xK:y.next.num<xE.next.num->v y.next=O)(xh:Jo y j g xX l xp=A (xu,xE)):∃n x S,(Builtin.append_ s m #[Y,xv]).run u w=.ok n x/\VR S xu n/\Fin v y w S xE x:=by
 unfold Jo at xh;split at xh
 ·
  have:=KO R
  subst this
  cases X:AW l 0 with
  |true=>
   have:=AdQ X;subst this;cases xh
   exact⟨_,w,v,x6 B _ _ _ (CK _),R,.refl Q⟩
  |false=>
   rw[X]at xh;have xe:=Afn X;obtain⟨xj,xc⟩:=DL xh;cases xc
   have xj:=AdT xj;have:=YI (m:=m) (j:=j) (g:=g) (H:=[]) (E:=[]) q p r k d z0 f z2 z1 Q (M:=O) (b:=0) (o:=0) (xn xe) (by omega) (λZ _=>run_firstCells_none Z _ _ _ _) .nil xd (by simp) xf (by unfold GA at xj;grind) (xK (by rw[G.Gh,T.Fb];omega));simpa[KU]using this
 .rename_i xi V c xx E
  obtain⟨xj,xc⟩:=DL xh
  have ya:=AdQ xj
  subst ya
  cases X:AW l 0 with
  |true=>
   have:=AdQ X;subst this;rw[X]at xc;cases xc
   rcases IS R with⟨h,J,_,xL,_,_,rfl⟩|⟨xw,rfl,_,rfl⟩;.exact⟨_,w,v,P,R,.refl Q⟩
   .exact⟨_,w,v,P,R,.refl Q⟩
  |false=>
   rw[X]at xc;have xe:=Afn X;obtain⟨xk,N⟩:=DL xc;have xk:=AdT xk;unfold GA at xk;split at N;.grind
   .rename_i xr xB;obtain⟨yg,x1⟩:=kz R;have xs:∃xs:C Ba,Bw v xr xs/\xr.l=c*E/\∀(I:Ae Addr)(H:D),Y=.slice I c H->∀Z:By,Z.heap=w.heap->(Builtin.firstCells i.size c Y).run u Z=.ok xs.a Z:=by
     cases xD:AW c 0 with
     |true=>
      have:=AdQ xD;subst this;rw[xD]at xB;cases xB
      refine⟨[],.nil,by simp,λI H M Z _=> ?_⟩;subst M;cases I<;>simp[Builtin.firstCells,loadCells,loadCellsFrom]
     |false=>
      rw[xD]at xB;have x4:=Afn xD;rcases IS R with⟨h,J,U,_,_,_,rfl⟩|⟨xw,xJ,_,rfl⟩;.obtain⟨xW,xa,xb,xo,xV⟩:=b7 (u:=u) Q xB U;refine⟨xW,xa,xb,λI H M Z x9=> ?_⟩;simpa[Builtin.firstCells,d]using xo Z x9
      omega
    obtain⟨xs,xT,xA,yk⟩:=xs;unfold SC at N;split at N
    ·
     rename_i xF;obtain⟨xH,x0⟩:=DL N;cases x0
     have xz:v y.next=O:=xK (by rw[G.Gh,T.Fb,G.Tk];omega);obtain⟨xC,W,xQ⟩:∃xC W,y.M xi=A (.I xC W):=by
      unfold Xo at xH;split at xH;.rename_i xC W e;exact⟨xC,W,e⟩
      .cases xH
     have yp:∀{I:Ae Addr}{H:D},Y=.slice I c H->H<c+l->∃n x S,(Builtin.append_ s m #[Y,xv]).run u w=.ok n x/\VR S (.Z y.next 0 (c+l) 0 E) n/\Fin v y w S ((y.GG xi).V (.I ((c+l)*E) (Es xr xp))) x:=by intro I H M xm;have xS:=Fin.GG Q x1;obtain⟨n,x,S,xa,xb,xo⟩:=YI (m:=m) (j:=E) (g:=g) q p r k d z0 f z2 z1 xS.hr (M:=I) (b:=c) (o:=H) (xn xe) xm P xT xd xA xf xk xz;exact⟨n,x,S,by rw[M];exact xa,xb,xS.AI xo⟩
     rcases IS R with⟨h,J,U,xL,_,xU,M⟩|⟨xw,xJ,_,M⟩
     .by_cases xg:c+l<=J
      .have xR:=Q.Ca xi _ h xQ U;have x5:(c+l)*E<=J*E:=AeZ _ xg;rw[AeH]at x5;obtain⟨x,xO,xZ,ye,x3,xa,xb,xo,xV,ym,yn,yo,yc,yd,yb⟩:=mZ (u:=u) xR (c:=h.sh+V+c*E) (l:=xq) (by rw[xd.length,xf];omega) xP;refine⟨_,x,v.BW y.next ⟨h.r,h.sh+V,h.sz⟩,by rw[M];exact(dh (m:=m) (h:=⟨h.r,h.sh+V,O⟩) (c:=c) (o:=J) q p r k (xn xe) xg (by rw[d,My];exact xa)),?_,?_⟩;.simpa using(VR.Z (a:=v.BW y.next ⟨h.r,h.sh+V,h.sz⟩) y.next 0 (c+l) 0 E ⟨h.r,h.sh+V,h.sz⟩ J (AT.HC _ _ _) xg Om (by omega))
       .refine Fin.rk Q xz xQ B U B ?_ yc yd yb;refine⟨by rw[KU,AdY,xA,xf,AeH],by grind,xO,xZ,ye,x3,xb,xo,xV,λxM xu xl=> ?_⟩;show∃n,xO[h.sh+V+xM]? =A n/\_;rw[KU]at xl;by_cases yj:xM<c*E
        .rw[AeQ (by omega)]at xl;have x4:c≠0:=by grind
         have x7:y.AL xi V (c*E)=A xr:=by grind
         obtain⟨xW,yf,_⟩:=b7 (u:=u) Q x7 U;obtain⟨n,xY,xG⟩:=yf.M xl;obtain⟨_⟩:=xR;refine⟨n,?_,xG.Ar (AT.KE _ xz)⟩;grind
        .rw[Ae9 (by omega),xA]at xl;obtain⟨n,xY,xG⟩:=xd.M xl;have xm:xM-c*E<xq.l:=by grind
         refine⟨n,?_,xG.Ar (AT.KE _ xz)⟩;grind
      grind
     grind
    ·
     rename_i xF
     cases xt:BX (c+l) xF with
     |true=>
      rw[xt]at N;have xg:=AdT xt;have N:=N;split at N
      .rename_i yi x8;cases N
       rcases IS R with⟨h,J,U,xL,xy,xU,M⟩|⟨xw,xJ,xy,M⟩
       .have x2:J=xF:=by rcases xy with xI|xI<;>omega
        subst x2;obtain⟨x,xa,xb⟩:=cW (v:=u) Q x8 U xd xf xP;have yl:=dh (m:=m) (h:=⟨h.r,h.sh+V,O⟩) (c:=c) (o:=J) q p r k (xn xe) xg (G:=x) (by rw[d,<-xa,My,AeM]);exact⟨_,x,v,by grind,.Z xi V (c+l) (J+1) E h J U xg Om xU,xb⟩
       omega
      grind
     |false=>
      rw[xt]at N;cases N
      have xm:=Nat.lt_of_not_le λxI=>by rw[AdX xI]at xt;cases xt
      have yh:∀{I:Ae Addr}{H:D},Y=.slice I c H->H<c+l->∃n x S,(Builtin.append_ s m #[Y,xv]).run u w=.ok n x/\VR S (.Z y.next 0 (c+l) 0 E) n/\Fin v y w S (y.V (.I ((c+l)*E) (Es xr xp))) x:=by intro I H M xm;obtain⟨_⟩:=YI (m:=m) (j:=E) (g:=g) q p r k d z0 f z2 z1 Q (M:=I) (b:=c) (o:=H) (xn xe) xm P xT xd xA xf xk (xK (by rw[G.Gh,T.Fb];omega):v y.next=O);grind
      rcases IS R with⟨h,J,U,xL,xy,_,M⟩|⟨xw,xJ,xy,M⟩<;>grind
 grind
end
end
