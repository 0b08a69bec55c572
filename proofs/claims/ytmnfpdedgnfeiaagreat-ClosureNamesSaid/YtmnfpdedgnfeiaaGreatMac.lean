/- Part of the proof. -/
import Derived.Laws.Append
import Derived.Laws.AppendOwn
import Derived.Test.YtmnfpdedgnfeiaaGreatMab
set_option linter.all false
noncomputable section
open Option renaming some->A,none->O,bind->Option.b
open _root_ renaming rfl->B,List->C,Nat->D,Int->K,if_neg->Ad,if_pos->Af,Option->Aj,Bool->Ak,cond->An,absurd->A_,Array->Br
open Bool renaming true->L,false->Ac
open Decidable renaming decide->Au
open Nat renaming beq->Bb,ble->Co,le_refl->C6
open Go renaming Value->Bl,World->BH,TypeId->B9
open List renaming length->List.l,map->List.m,take->List.t,drop->List.d,toArray->List.a
open Go.IntKind renaming i64->Go.IntKind.n
open Array renaming toList->Array.l,size->Array.z
open Eq renaming trans->Eq.t,symm->Eq.s
open Or renaming inl->Or.i,inr->Or.j
open Int renaming toNat->Int.n
namespace Go.Fg
section
variable{u:Program} {t:A0} {z:Fm} {a:Act} {v:G} {w:BH}
theorem ki{b:Aj Ce}{d:C BL}{c:D}(e:Ir b=A (d,c)):b=A (.Bu d c)\/b=A (.rm d c):=by unfold Ir at e;grind
theorem Zj{b:Aj Ce}{d:C BL}{c:D}(e:Pw b=A (d,c)):b=A (.Bu d c):=by unfold Pw at e;grind
theorem di{b:Aj Ce}{d:C BL}{c:D}(e:Pw b=A (d,c)):Ir b=A (d,c):=by rw[Zj e];rfl
theorem UA(y:HR t v w){d:Aa}{c:FE}{f:C BL}{e:D}(b:Ir (v.N d)=A (f,e))(h:t d=A c):∃g,w.heap[c.r]? =A (.map g e)/\Gf t f g.l:=by
 rcases ki b with b|b;.exact y.BB d _ c b h
 .exact y.BB d _ c b h
def Pq(c:C BL):C (F×F):=c.m λb=>(b.HS,b.Dv)
theorem hB{f:Ak}{l:C D}{k:F}:∀{h i:C BL} c {d:Aj (D×BL)},Pq h=Pq i->G3 f l k h c=A d->∃m,G3 f l k i c=A m/\(d=O/\m=O\/∃n e g,d=A (n,e)/\m=A (n,g)/\g.Dv=e.Dv)
 |[],[],c,d,_,b=>by rw[hC]at b;cases b;exact⟨O,hC ..,P⟩
 |[],_::_,_,_,b,_=>by cases b
 |_::_,[],_,_,b,_=>by cases b
 |e::h,g::i,c,d,b,j=>by
  simp only[Pq,Ai9,List.cons.injEq,Aj2]at b
  obtain⟨⟨p,x⟩,q⟩:=b
  rw[Yw]at j⊢
  rw[<-p]
  cases r:J8 f l k e.HS with
  |none=>grind
  |some o=>
   rw[r]at j
   cases o with
   |true=>grind
   |false=>exact hB (c+1) q j
theorem jN:∀c d b,c.l=b.l->d.l=b.l->∃e,Pq e=Pq (RK c d)/\∀t,BJ t c (b.m (·.key))->BJ t d (b.m (·.val))->Gf t e b
 |[],[],[],_,_=>⟨[],B,λ_ _ _=>.nil⟩
 |g::c,h::d,l::b,o,p=>by
  obtain⟨e,_⟩:=jN c d b (by grind) (by grind);refine⟨⟨g,h,l.born⟩::e,?_,λt a j=> ?_⟩;.show(g,h)::Pq e=(g,h)::Pq (RK c d);grind
  .cases a with
   |cons _ _ _ _ i m=>cases j with
    |cons _ _ _ _ k n=>exact .cons _ _ _ _ i k B P
 |[],[],_::_,f,_=>by grind
 |[],_::_,[],_,f=>by grind
 |[],_::_,_::_,f,_=>by grind
 |_::_,_,[],f,_=>by grind
 |_::_,[],_::_,_,f=>by grind
theorem PK{d:D}{c:Br MapEntry}{b:D}(e:w.heap[d]? =A (.map c b)):(getObj d).run u w=.ok (.map c b) w:=by simp[getObj,Sem.run,e]
theorem vy{d:Ak}{f:C D}{e:F}(b:V4 d f e=L):d=L->∃c,e=.S c/\c.l=f.l:=by
 intro g;subst g;unfold V4 at b;split at b;.rename_i c;exact⟨c,B,by rw[<-HE];exact Aii b⟩
 .cases b
theorem Y3{b:B9}{g:Ak}{c:C D}{i:F}{f:Bl}(n:Pe u b=A (g,c))(p:VR t i f)(d:Ak)(m:V4 g c i=L):(Instr.checkKey d 10000 b f).run u w=.ok () w:=by
 obtain⟨e,x⟩:=jw n
 obtain⟨⟨r,h⟩,_⟩:=R_ 8 b c e
 cases l:Ey u b with
 |false=>exact gl d 9999 h l (jx e h) f w
 |true=>obtain⟨q,rfl,o⟩:=vy m (by grind);obtain⟨j,k,rfl⟩:=Rg p;exact gm d 8 9992 b c e q j (.agg j) w k o (by unfold LJ;grind)
theorem TT{b:Ak}{d:C D}{c:F}{e:C BL}{f:Aj (D×BL)}(g:Mh b d c e=A f):V4 b d c=L/\G3 b d c e 0=A f:=En g
variable(s:TR t z a) (y:HR t v w)
theorem Ac1(s:TR t z a)(y:HR t v w){H:Oper}{xG:B9}{S xA:Operand}{g:Ak}{e:Rd}{T:C Od}{l:F}(xv:H.op=.lookup xG S xA g)(d:Es u H=A (.rd e T))(xw:e.ev (A3 z T) v=A l):Hr u t v w H a l:=by
 unfold Es at d;rw[xv]at d;simp only[]at d;split at d
 .rename_i xT xK E;split at d
  .rename_i xH r G xy xc;obtain⟨xU,xs,c⟩:=Gt d;cases c
   obtain⟨xW,R,c,J,Y⟩:=NO s xs;obtain⟨xR,xk,xb,xe,xd⟩:=Rm xy;have n:E7 r G xH g v (A3 z T)=A l:=xw;rw[c]at n;simp only[E7]at n
   .skip;split at n
    .rename_i W j;have xu:∃(i:C BL)(h:Br MapEntry),Pq i=Pq W/\Gf t i h.l/\(a.eval S=.map O/\h= #[]\/∃e x,a.eval S=.map (A e)/\w.heap[e]? =A (.map h x)):=by
      unfold Ql at j;split at j;.cases j;exact⟨[],#[],B,.nil,.i ⟨eV J,B⟩⟩
      .rename_i xi;split at j
       .rename_i xM x xt;cases j
        obtain⟨xI,xq,I⟩:=U5 J;obtain⟨_⟩:=UA y xt xq;grind
       grind
      .rename_i xC xD;cases j
       rcases m9 J with⟨xi,M,I⟩|⟨rfl,rfl,I⟩;.obtain⟨h,x,xV,xg,xh⟩:=y.E4 _ _ _ M;obtain⟨i,xE,xF⟩:=jN xC xD h.l (by simpa using xg.length.s) (by simpa using xh.length.s);exact⟨i,h,xE,xF _ (xg.Av t.XW) (xh.Av t.XW),P⟩
       .exact⟨[],#[],B,.nil,P⟩
      .cases j
     obtain⟨i,h,xr,xo,xp⟩:=xu;have X:∀{Q:Aj (D×BL)},Mh r G R i=A Q->∃b,P1 t i h.l 0 Q b/\(execOp a.eval H).run u w=.ok (.value (if g then .tuple #[match b with|some (_,l)=>l|none=>xk,.bool b.isSome]else(match b with|some (_,l)=>l|none=>xk))) w:=by
      intro Q f;obtain⟨xf,N⟩:=TT f;have xO:=λxl=>Y3 (w:=w) xc Y xl xf;obtain⟨b,xN,m⟩:=Yx w xc Y xo N;refine⟨b,m,?_⟩;rcases xp with⟨I,rfl⟩|⟨xi,x,I,xa⟩
      .cases b with
       |none=>cases g<;>simp[execOp,Instr.lookup,run_underlying E,Z6 xb xe, *]
       |some o=>obtain⟨q,xj⟩:=o;cases g<;>simp[execOp,Instr.lookup,run_underlying E, *]
      .cases b with
       |none=>cases g<;>simp[execOp,Instr.lookup,run_underlying E,PK xa,Z6 xb xe, *]
       |some o=>obtain⟨q,xj⟩:=o;cases g<;>simp[execOp,Instr.lookup,run_underlying E,PK xa, *]
     have U:∀{e:Aj (D×BL)},Mh r G R W=A e->∃k,Mh r G R i=A k/\(e=O/\k=O\/∃q c V,e=A (q,c)/\k=A (q,V)/\V.Dv=c.Dv):=by intro e M;obtain⟨xf,N⟩:=TT M;obtain⟨k,xS,xB⟩:=hB 0 xr.s N;exact⟨k,by unfold Mh;grind,xB⟩
     split at n
     .rename_i q xL f
      cases n
      obtain⟨k,f,d⟩:=U f
      rcases d with⟨c,_⟩|⟨xz,xm,xn,c,rfl,xx⟩
      .grind
      cases c
      rw[<-xx]
      obtain⟨b,m,p⟩:=X f
      cases b with
      |none=>cases m
      |some o=>
       obtain⟨xQ,xj⟩:=o;obtain⟨_,_,_,xJ,_,xP,Z,_⟩:=m;cases g
       .exact⟨_,p,Z⟩
       .exact⟨_,p,.AC _ _ (.cons _ _ _ _ Z (.cons _ _ _ _ (.b L) .nil))⟩
     .rename_i f
      cases n
      obtain⟨k,f,d⟩:=U f
      rcases d with⟨_,rfl⟩|⟨xz,xm,xn,c,_⟩
      case inr=>grind
      obtain⟨b,m,p⟩:=X f
      cases b with
      |some o=>cases m
      |none=>
       cases g
       .exact⟨_,p,xd⟩
       .exact⟨_,p,.AC _ _ (.cons _ _ _ _ xd (.cons _ _ _ _ (.b Ac) .nil))⟩
     grind
    grind
  grind
 grind
theorem lh(s:TR t z a)(y:HR t v w){g:Br Field}:∀{e:C (D×Operand)}{c:C (D×D)},ZM u g e=A c->c.l=e.l/\∀(h:D) f i,c[h]? =A f->e[h]? =A i->∃d,g[i.1]? =A d/\f.1=d.offset/\sz u d.type=A f.2
 |[],c,b=>by cases b;grind
 |(o,r)::e,c,b=>by
  unfold ZM at b;split at b
  .rename_i d m;split at b
   .rename_i q p n j;cases b
    obtain⟨k,l⟩:=lh s y j;grind
   grind
  grind
theorem kh:∀(d:C Field),d.all (λb=>(sz u b.type).isSome)=L->∃f,d.mapM (λb=>(u.info? b.type).map λc=>(b.offset,c.size))=A f/\f.l=d.l/\∀(c:D) b,d[c]? =A b->∃e,sz u b.type=A e/\f[c]? =A (b.offset,e)
 |[],_=>⟨[],B,B,P⟩
 |b::d,g=>by
  simp only[AiK,Aie]at g
  obtain⟨f,m,k,l⟩:=kh d g.2
  obtain⟨e,i⟩:=Option.isSome_iff_exists.1 g.1
  obtain⟨_⟩:=R7 i
  refine⟨(b.offset,e)::f,by simp[*],by simp[k],λc j h=> ?_⟩
  cases c with
  |zero=>simp at h;subst h;exact⟨e,i,by simp⟩
  |succ c=>simpa using l c j (by simpa using h)
theorem AcS(s:TR t z a)(y:HR t v w){i:Oper}{n:B9}{d:Br (D×Operand)}{G:Rd}{j:C Od}{h:F}(p:i.op=.build n d)(e:Es u i=A (.rd G j))(W:G.ev (A3 z j) v=A h):Hr u t v w i a h:=by
 unfold Es at e;rw[p]at e;simp only[]at e;have xe:∀{c:C Od},D6 (d.l.m (·.2))=A c->BJ t (A3 z c) ((d.l.m λb=>(b.1,a.eval b.2)).m (·.2)):=by intro c g;have:=Pz s g;rw[Aja]at this;rw[Aja];exact this
 have I:∀{f:Br Bl}{c:C F},u.built n (d.map λb=>(b.1,a.eval b.2)).l=A f->BJ t c f.l->h=.S c->Hr u t v w i a h:=by intro f c S g k;subst k;refine⟨.agg f,?_,.S _ _ g⟩;simp[execOp,p,(run_build w n (d.map λb=>(b.1,a.eval b.2)) f S)]
 have U:(d.map λb=>(b.1,a.eval b.2)).l=d.l.m λb=>(b.1,a.eval b.2):=by simp
 split at e
 .rename_i H R Y xj;split at e
  .rename_i x V;split at e
   .rename_i o;simp only[Aie]at o;obtain⟨c,g,k⟩:=Gt e;cases k
    have m:BE H x (A3 z j)=A h:=W;unfold BE at m;split at m
    .rename_i c T;cases m
     obtain⟨xm,xv,xk,xl,X⟩:=Rm Y;obtain⟨xf,Z,rfl⟩:=Rg X;obtain⟨xc,xp,xq,xa⟩:=kh R.l o.1;obtain⟨xu,xd⟩:=lh s y V;obtain⟨xt,N,Q⟩:=bT (xc.a[·]?) (d.l.m λb=>(b.1,a.eval b.2)) x (A3 z j) H c xf T (xe g) Z (by grind) (λr xb xs J l=>by
      rw[AiL]at l
      cases q:d.l[r]?with
      |none=>grind
      |some E=>
       rw[q]at l;cases l
       obtain⟨M,xg,xh,xi⟩:=xd r xb E J q;obtain⟨xr,xn,xo⟩:=xa E.1 M (by grind);grind) P
     refine I ?_ Q B;unfold Program.built;rw[U];simp only[*];exact N
    grind
   grind
  grind
 grind
end
section
variable{y:Program} {v:A0} {s:Fm} {a:Act} {z:G} {w:BH}
theorem Ae8{c:F}{d:C F}{b:C Bl}(g:BJ v (c::d) b):∃e f,b=e::f/\VR v c e/\BJ v d f:=by cases g;grind
theorem qN{g:Call}{m:B9}{e:Rd}{l:C Od}(b:TG y g m=A (.rd e l)):
  ∃d c,g.callee=.builtin d/\g.argTypes[0]? =A c/\D6 g.args.l=A l/\
   ((d=.len/\y.underlying c=A .string/\e=.da)\/(d=.len/\(∃f,y.underlying c=A (.slice f))/\e=.Su)\/(d=.len/\(∃i f,y.underlying c=A (.map i f))/\e=.Zg)\/
    (d=.cap/\(∃f,y.underlying c=A (.slice f))/\e=.ba)\/(d=.max/\(∃i,y.underlying c=A (.int i))/\e=.max)):=by
 unfold TG at b
 split at b
 .grind
 .grind
 .rename_i d n;split at b
  .rename_i c k;split at b;.rename_i h;obtain⟨_⟩:=Gt b;grind
   .rename_i j h;obtain⟨_⟩:=Gt b;grind
   .rename_i i j h;obtain⟨_⟩:=Gt b;grind
   grind
  .rename_i c k;split at b;.rename_i j h;obtain⟨_⟩:=Gt b;grind
   grind
  .rename_i c k;split at b;.rename_i j h;obtain⟨_⟩:=Gt b;grind
   grind
  ·
   exfalso;split at b
   .split at b
    .split at b
     .split at b;.grind
      .split at b;.obtain⟨_⟩:=KH b;grind
       .obtain⟨_⟩:=KH b;grind
       grind
     grind
    grind
   grind
  .exfalso;split at b
   .split at b
    .split at b;.obtain⟨_⟩:=KH b;grind
     grind
    grind
   grind
  grind
theorem AdU{c:Oper}{b:Call}{d:Builtin}{e:Bl}(g:c.op=.call b)(f:b.callee=.builtin d)(h:(builtin d b.argTypes c.type (b.args.map λ| .const _=>L|_=>Ac) (b.args.map a.eval)).run y w=.ok (.value e) w):(execOp a.eval c).run y w=.ok (.value e) w:=by simp[execOp,g,resolve,f,invoke];omega
theorem kl{v:A0}{w:BH}(c:IntKind):∀(g:C F)(b:K)(h:C Bl)(d:F),Sv c b g=A d->BJ v g h->∃i,(h.foldlM Builtin.max2 (.int c b):Sem Bl).run y w=.ok i w/\VR v d i
 |[],b,h,d,f,j=>by cases j;cases f;exact⟨_,by simp,.i c b⟩
 |E::g,b,h,d,f,j=>by
  cases j
  rename_i H G r q;cases E<;>simp only[Sv]at f<;>try grind
  rename_i x e;obtain⟨n,o⟩:=En f;have p:=(Pd c x).1 n;subst p;have:=Jo r;subst this;obtain⟨i,k,m⟩:=kl c g _ G d o q;refine⟨i,?_,m⟩;rw[Nt]at k;have l:(bif Au (e<=b)then b else e)=if e>b then e else b:=by grind
  rw[l]at k;simp only[List.foldlM_cons,Sem.run_bind,Builtin.max2,Sem.run_pure,Result.andThen_ok];omega
variable(u:TR v s a) (t:HR v z w)
theorem AcT(u:TR v s a)(t:HR v z w){r:Oper}{o:Call}{T:Rd}{Q:C Od}{l:F}(S:r.op=.call o)(N:Es y r=A (.rd T Q))(n:T.ev (A3 s Q) z=A l):Hr y v z w r a l:=by
 unfold Es at N;rw[S]at N;obtain⟨U,xz,xe,k,xh,xg⟩:=qN N;have f:=Pz u xh;have h:∀{E:Bl},(builtin U o.argTypes r.type (o.args.map λ| .const _=>L|_=>Ac) (o.args.map a.eval)).run y w=.ok (.value E) w->VR v l E->Hr y v z w r a l:=λxa n=>⟨_,AdU S xe xa,n⟩;have i:o.args.map a.eval=(o.args.l.m a.eval).a:=by grind
 revert f n;generalize A3 s Q=x;intro n f;rcases xg with⟨rfl,e,rfl⟩|⟨rfl,⟨m,e⟩,rfl⟩|⟨rfl,⟨xl,m,e⟩,rfl⟩|⟨rfl,⟨m,e⟩,rfl⟩|⟨rfl,⟨xl,e⟩,rfl⟩
 .have b:H2 x=A l:=n;unfold H2 at b;split at b
  .rename_i xy;cases b
   obtain⟨g,c,d⟩:=Lq f;obtain⟨G,xf,rfl⟩:=PU d;subst xf;refine h (E:=.int .n (G.size:K)) ?_ ?_;.rw[i,c];simp[builtin,Builtin.len_,k,run_underlying e,goInt]
   .have:(G.data.l.m UInt8.toNat).l=G.size:=by rw[Aiw,Ajf];rfl
    rw[this];exact .i _ _
  grind
 .have b:Ea x=A l:=n;unfold Ea at b;split at b
  .rename_i V xo p H xt;cases b
   obtain⟨g,c,d⟩:=Lq f;have:∃j q,g=.slice (A j) p q:=by rcases Jp d with⟨R,W,_,_,_,_,m⟩|⟨j,M,_,m⟩<;>grind
   obtain⟨j,q,rfl⟩:=this;refine h (E:=.int .n (p:K)) ?_ (.i _ _);rw[i,c];simp[builtin,Builtin.len_,k,run_underlying e,goInt]
  .cases b
   obtain⟨g,c,d⟩:=Lq f;have:=Lp d;subst this;refine h (E:=.int .n 0) ?_ (.i _ _);rw[i,c];simp[builtin,Builtin.len_,k,run_underlying e,goInt]
  .rename_i I;cases b
   obtain⟨g,c,d⟩:=Lq f;have:∃j q,g=.slice j I.l q:=by rcases S9 d with⟨_,_,_,_,_,_,_,_,_,_,m⟩|⟨M,_,_,m⟩|⟨M,m⟩<;>grind
   obtain⟨j,q,rfl⟩:=this;refine h (E:=.int .n (I.l:K)) ?_ (.i _ _);rw[i,c];simp[builtin,Builtin.len_,k,run_underlying e,goInt]
  grind
 .have b:Ig z x=A l:=n;unfold Ig at b;split at b
  .cases b
   obtain⟨g,c,d⟩:=Lq f;have:=eV d;subst this;refine h (E:=.int .n 0) ?_ (.i _ _);rw[i,c];simp[builtin,Builtin.len_,k,run_underlying e,goInt]
  .rename_i xr;split at b
   .rename_i I xu xi;cases b
    obtain⟨g,c,d⟩:=Lq f;obtain⟨R,xd,rfl⟩:=U5 d;obtain⟨J,xb,xc⟩:=UA t xi xd;refine h (E:=.int .n (J.z:K)) ?_ ?_;.rw[i,c];simp[builtin,Builtin.len_,k,run_underlying e,goInt,PK xb]
    .rw[<-xc.length];exact .i _ _
   grind
  .rename_i xv xw;cases b
   obtain⟨g,c,d⟩:=Lq f;rcases m9 d with⟨xr,xk,rfl⟩|⟨rfl,rfl,rfl⟩
   .obtain⟨J,o,xp,xq,xx⟩:=t.E4 _ _ _ xk;refine h (E:=.int .n (J.z:K)) ?_ ?_;.rw[i,c];simp[builtin,Builtin.len_,k,run_underlying e,goInt,PK xp]
    .rw[<-xq.length];simp only[Aiw,Ajf];exact .i _ _
   .refine h (E:=.int .n 0) ?_ (.i _ _);rw[i,c];simp[builtin,Builtin.len_,k,run_underlying e,goInt]
  grind
 .have b:If x=A l:=n;unfold If at b;split at b
  .cases b
   obtain⟨g,c,d⟩:=Lq f;have:=Lp d;subst this;refine h (E:=.int .n 0) ?_ (.i _ _);rw[i,c];simp[builtin,Builtin.cap_,k,run_underlying e,goInt]
  .rename_i V xo p H xt;cases b
   obtain⟨g,c,d⟩:=Lq f;have:∃j,g=.slice (A j) p H:=by rcases Jp d with⟨R,W,_,_,xj,_,m⟩|⟨j,M,xj,m⟩<;>grind
   obtain⟨j,rfl⟩:=this;refine h (E:=.int .n (H:K)) ?_ (.i _ _);rw[i,c];simp[builtin,Builtin.cap_,k,run_underlying e,goInt]
  grind
 .have b:Ih x=A l:=n;unfold Ih at b;split at b;.rename_i xm p xn;obtain⟨g,xs,c,d,Z⟩:=Ae8 f;have:=Jo d;subst this;obtain⟨E,X,Y⟩:=kl (y:=y) (v:=v) (w:=w) xm xn p xs l b Z;refine h (E:=E) ?_ Y;rw[i,c];simp[builtin,Builtin.max_,X]
  grind
theorem lA(u:TR v s a)(t:HR v z w){o:Oper}{n:Rd}{r:C Od}{q:F}(g:Es y o=A (.rd n r))(c:n.ev (A3 s r) z=A q):Hr y v z w o a q:=by
 have e:=g;unfold Es at e;cases b:o.op<;>rw[b]at e<;>simp only[]at e
 case move f=>obtain⟨m,k,d⟩:=Ku e;cases d;exact lz u t (.i b) k c
 case assign f=>obtain⟨m,k,d⟩:=Ku e;cases d;exact lz u t (.j b) k c
 case pick x f m=>obtain⟨l,j,d⟩:=Gt e;cases d;exact Ac5 u t b j c
 case build h T=>exact AcS u t b g c
 case load h f=>exact Ac0 u t b g c
 case nilCheck f=>obtain⟨m,k,d⟩:=Ku e;cases d;exact Ac4 u t b k c
 case binOp H h f m V=>
  split at e;.exact ly u t (i:=Ac) b e c
  .exact ly u t (i:=L) b e c
  .split at e;.obtain⟨l,j,d⟩:=Gt e;cases d;exact lw u t b j c
   .obtain⟨l,j,d⟩:=Gt e;cases d;exact lx u t b j c
   .cases e
 case unOp H h f=>exact Ac8 u t b g c
 case convert U J f=>exact AcU u t b g c
 case makeInterface h f=>exact Ac3 u t b g c
 case makeFunc N M I=>exact Ac2 u t b g c
 case slice h f R P G=>
  cases G with
  |none=>exact Ac7 u t b g c
  |some _=>cases e
 case fieldAddr h f E=>exact AcX u t b g c
 case field h f E=>exact AcW u t b g c
 case indexAddr h f p=>exact AcZ u t b g c
 case index h f p=>exact AcY u t b g c
 case lookup h f p S=>exact Ac1 u t b g c
 case extract f Q=>obtain⟨m,k,d⟩:=Ku e;cases d;exact AcV u t b k c
 case call x=>exact AcT u t b g c
 case makeMap h n=>cases n<;>simp at e
 all_goals(exfalso;revert e;repeat' split)
 all_goals first
  |(intro i;cases i;done)
  |(intro i;obtain⟨l,j,d⟩:=Gt i;cases d;done)
  |(intro i;obtain⟨l,j,d⟩:=Ku i;cases d;done)
  |(intro i;obtain⟨l,j,d⟩:=Rx i;cases d;done)
  |(intro i;obtain⟨l,j,d⟩:=KH i;cases d;done)
end
section
variable{u:Program} {t:A0} {v:Fm} {a:Act} {z:G} {w:BH}
def Ta(u:Program)(t:A0)(w:BH)(g:Oper)(a:Act)(f:Aa)(j:Ce)(i:F):Prop:=
 ∃e b d h,(execOp a.eval g).run u w=.ok (.value e) b/\b.heap=w.heap.push h/\Kx w b/\d.r=w.heap.z/\∀c:A0,t.le c->c f=A d->VR c i e/\BR c j d b
theorem Vr{m:A0}{d:C F}{b:Br Bl}{h:B9}{e c f:D}{w l:BH}(p:l.heap[w.heap.z]? =A (.cells b h (e,c)))(o:d.l=f)(q:f<=b.z)(n:∀g,g<b.z->¬(e<=g/\g<c))(r:∀(i:D) j,d[i]? =A j->∃k,b[i]? =A k/\VR m j k):BR m (.I f d) ⟨w.heap.z,0,b.z⟩ l:=
 ⟨o,by grind,b,h,e,c,p,B,n,P⟩
theorem UT{b:Br Obj}{c:Obj}:(b.push c)[b.z]? =A c:=by simp
theorem ap{g:A0}{e:C F}{d:Br Bl}(h:BJ g e d.l):∀(b:D) c,e[b]? =A c->∃f,d[b]? =A f/\VR g c f:=λb c i=>by obtain⟨_⟩:=h.N i;grind
theorem lQ(b:C F):GG b 0=[]:=rfl
theorem lP(b:C F)(c:D):GG b (c+1)=b++GG b c:=Lz b (GG b c)
theorem SW(c:C F):∀b,(GG c b).l=b*c.l
 |0=>by rw[lQ];simp
 |b+1=>by rw[lP,Aio,SW c b,Aje];omega
theorem e4{t:A0}{c:C F}{g:Br Bl}(i:BJ t c g.l)(o:0<c.l):∀d,BJ t (GG c d) ((List.range (d*g.z)).m (λb=>g[b % g.z]!)):=by
 have n:g.z=c.l:=by rw[<-i.length];simp
 have k:∀d b f,(GG c d)[b]? =A f->b<d*c.l/\c[b % c.l]? =A f:=by
  intro d
  induction d with
  |zero=>intro b f e;rw[lQ]at e;grind
  |succ d m=>
   intro b f e;rw[lP]at e;by_cases h:b<c.l;.rw[Ajo h]at e;rw[Nat.mod_eq_of_lt h,Aje];grind
   .rw[Ajx (by omega)]at e;obtain⟨l,j⟩:=m _ _ e;rw[Aje];refine⟨by omega,?_⟩;rw[show b=(b-c.l)+c.l by omega,Nat.add_mod_right];omega
 intro d;refine BJ.UG (by rw[SW];grind) λb f e=> ?_;obtain⟨l,j⟩:=k d b f e;obtain⟨_⟩:=i.N j;grind
variable(y:TR t v a)
theorem nQ(y:TR t v a){f:Oper}{b:B9}{d:F}{c:Aa}(k:f.op=.alloc b)(m:Lt u b=A d):Ta u t w f a c (.I (BK d.I) d.I) (.p c 0):=by
 obtain⟨o,g,i,n,l⟩:=Rm m;have e:=Rh l;refine⟨.pointer (A ⟨w.heap.z,0,O⟩),{w with heap:=w.heap.push (.cells g.cells b)},⟨w.heap.z,0,g.cells.z⟩,_,?_,B,⟨B,B,B,VP w _ _⟩,B,λp j h=>⟨?_,?_⟩⟩;.simp[execOp,k,Instr.alloc,Z6 i n,newVar,newRow]
 .exact .p c 0 _ h
 .refine Vr UT (by rw[HE]) (by rw[HE,<-e.length];simp) (by omega) (ap (e.Av j))
theorem nR(y:TR t v a){g:Oper}{e:B9}{b:Operand}{d:Od}{c:Aa}(j:g.op=.box e b)(k:od b=A d):Ta u t w g a c (.I (BK (d.ev v).I) (d.ev v).I) (.p c 0):=by
 have f:=Rh (GQ y k);refine⟨.pointer (A ⟨w.heap.z,0,O⟩),{w with heap:=w.heap.push (.cells (a.eval b).cells e)},⟨w.heap.z,0,(a.eval b).cells.z⟩,_,?_,B,⟨B,B,B,VP w _ _⟩,B,λl i h=>⟨?_,?_⟩⟩;.simp[execOp,j,Instr.box,newVar,newRow]
 .exact .p c 0 _ h
 .refine Vr UT (by rw[HE]) (by rw[HE,<-f.length];simp) (by omega) (ap (f.Av i))
theorem nT(y:TR t v a){c:Oper}{f:B9}{b:Aa}(e:c.op=.makeMap f O):Ta u t w c a b (.Bu [] 0) (.m b):=by
 refine⟨.map (A w.heap.z),{w with heap:=w.heap.push (.map #[] 0)},⟨w.heap.z,0,0⟩,_,?_,B,⟨B,B,B,sB w _ _⟩,B,λh g d=>⟨?_,?_⟩⟩;.simp[execOp,e,Instr.makeMap]
 .exact .m b _ d
 .exact⟨#[],UT,.nil⟩
theorem nS(y:TR t v a){N:Oper}{Q f:B9}{M s:Operand}{V:C Od}{q:Aa}{c d:D}{r:F}{S:Ce}{R:F}(I:N.op=.makeSlice Q M s)(G:u.underlying Q=A (.slice f))(xm:sz u f=A c)(xb:Qd u f=A d)(xq:Lt u f=A r)(o:QR c d=L)(p:(BK r.I)=c)(xp:D6 [M,s]=A V)(h:Gi r.I c d q (A3 v V)=A (S,R)):Ta u t w N a q S R:=by
 obtain⟨xy,xz,W,Z,xa⟩:=NO y xp;rw[W]at h;unfold Gi at h;split at h
 .rename_i xw e xx b i;injection i with i j;injection j with j _;subst i j;obtain⟨k,X⟩:=En h;cases X
  simp only[Aie]at k;have xi:=Aim k.1;have x:=Aim k.2;have T:=Jo Z;have U:=Jo xa;obtain⟨xs,m,xn⟩:=R7 xm;have xd:xs.bytes=d:=by unfold Qd at xb;grind
  obtain⟨xv,g,H,xr,xo⟩:=Rm xq;rw[m]at H;cases H;have E:=Rh xo;rw[HE]at p;unfold QR at o;simp only[Aie]at o;have xu:=Aim o.1.1;have J:g.cells.z=c:=by rw[<-p,<-E.length];simp
  have xt:b<=100000000000:=by have:b*1<=b*d:=AjU _ (Aim P);unfold Hs at x;omega
  have xc:¬(281474976710656<d*(b:K)):=by
   have:d*b=((b*d:D):K):=by grind
   rw[this];unfold Hs at x;omega
  have xl:¬((e:K)<0):=by omega
  have xf:¬((b:K)<0):=by omega
  have xj:¬(b<e):=by omega
  refine⟨.slice (A ⟨w.heap.z,0,O⟩) e b,{w with heap:=w.heap.push (.cells ((Array.range (b*c)).map (g.cells[·% g.cells.z]!)) f)},⟨w.heap.z,0,b*c⟩,_,?_,B,⟨B,B,B,VP w _ _⟩,B,λxA xk xg=>⟨?_,?_⟩⟩
  .by_cases l:b*c=0
   .have xe:b=0:=by
     rcases Akh.1 l with Y|Y<;>omega
    subst xe
    have xh:e=0:=by omega
    subst xh
    simp[(IntWalk.i64_in _ (by omega):IntKind.i64.wrap 0=0),show Array.range 0=(#[])from B,execOp,I,T,U,Instr.makeSlice,run_underlying G,asInt,asIntOf,typeInfo,m,sizeOf,l,newRow]
   .simp[execOp,I,T,U,Instr.makeSlice,run_underlying G,asInt,asIntOf,typeInfo,m,xd,(IntWalk.i64_in _ (by omega):IntKind.i64.wrap e=e),(IntWalk.i64_in _ (by omega):IntKind.i64.wrap b=b),xc,xl,xf,xj,sizeOf,xn,l,zeroValue,xr,newRow]
  .exact .Z q 0 e (b+1) c ⟨w.heap.z,0,b*c⟩ b xg xi Om (by simp)
  .simpa using(Vr (f:=b*c) (l:={w with heap:=w.heap.push (.cells ((Array.range (b*c)).map (g.cells[·% g.cells.z]!)) f)}) UT (by rw[SW,p]) (by simp) (by omega) (ap (by have:=(e4 E (by omega) b).Av xk;rw[J]at this;simpa[J,Array.toList_range]using this)))
 grind
theorem AdN(w:D)(b:F)(c:C F):UX w (b::c)=An (Bb (BK b.I) w) (match UX w c with
 |some d=>A (EK b.I d)
 |none=>O) O:=rfl
theorem c7:∀b c,b.l<=c.l->Lf b c=b++c.d b.l
 |[],c,_=>rfl
 |d::b,[],e=>by grind
 |d::b,f::c,e=>by show d::Lf b c=_;rw[c7 b c (by grind)];simp
theorem jO:∀d b c,b.l<=c.l->DJ d.l b (d++c)=d++(b++c.d b.l)
 |[],b,c,e=>by show Lf b c=_;rw[c7 b c e];rfl
 |f::d,b,c,e=>by show f::DJ d.l b (d++c)=_;rw[jO d b c e];rfl
theorem hv(w:D):∀c g d e i,d.l=g*w->e.l=c.l*w->UX w c=A i->∀b,b.l=c.l->T9 g b=L->RR (PC w b) c (d++e)=A (d++i)
 |[],g,d,e,i,m,n,h,b,p,j=>by
  cases b with
  |cons _ _=>grind
  |nil=>
   cases h
   have:=Aj3 (by simpa using n);subst this;rfl
 |f::c,g,d,e,i,m,n,h,b,p,j=>by
  cases b with
  |nil=>grind
  |cons s b=>
   rw[AdN]at h;obtain⟨k,l⟩:=En h;have o:=Aii k;rw[HE]at o;split at l
   .rename_i x q;cases l
    simp only[T9,Aie]at j;have E:(f::c).l*w=w+c.l*w:=by simp[Aje];omega
    show An (Bb (BK f.I) w) (RR (PC w b) c (DJ (s.1*w) f.I (d++e))) O=_;rw[k,(Aii j.1),<-m,jO d f.I e (by omega)];have r:=hv w c (g+1) (d++f.I) (e.d f.I.l) x (by grind) (by grind) q b (by grind) P;rw[Ajr]at r;rw[Lz];grind
   grind
theorem jh:∀c b,T9 b c=L->∀e∈c,e.1<b+c.l
 |[],b,_,e,d=>by grind
 |h::c,b,f,e,d=>by
  simp only[T9,Aie]at f
  have g:=Aii f.1
  simp only[AiD]
  cases d with
  |head=>omega
  |tail _ d=>have:=jh c (b+1) f.2 e d;omega
theorem hP(w b:D):∀d,(∀c∈d,c.1<b)->FM (b*w) (PC w d)=L
 |[],_=>rfl
 |c::d,e=>by
  have f:=e c (Ai0 ..);have:c.1*w+w<=b*w:=by have:(c.1+1)*w<=b*w:=AjH _ (by omega);grind
  show(Co (c.1*w+w) (b*w)&&FM (b*w) (PC w d))=L;rw[(hP w b d P),Air this];rfl
theorem nU(y:TR t v a){U:Oper}{s k:B9}{b c:D}{e:Br (D×Operand)}{p:C Od}{r:Aa}{f:F}{m:C F}(xq:U.op=.buildSlice s b e)(I:u.underlying s=A (.slice k))(q:sz u k=A c)(xh:Lt u k=A f)(Q:Co (b*c) 1000000=L)(h:Bb (BK f.I) c=L)(N:Co 1 c=L)(xg:D6 (e.l.m (·.2))=A p)(xp:FM (b*c) (PC c e.l)=L)(R:RR (PC c e.l) (A3 v p) (GG f.I b)=A m):Ta u t w U a r (.I (b*c) m) (.Z r 0 b (b+1) c):=by
 obtain⟨l,J,xt⟩:=R7 q;obtain⟨xu,x,M,xj,xf⟩:=Rm (u:=t) xh;rw[J]at M;cases M;have H:=Rh xf;have h:=Aii h;rw[HE]at h;have N:=Aim N;have Q:=Aim Q;have S:x.cells.z=c:=by rw[<-h,<-H.length];simp
 have T:=e4 H (by omega) b;rw[S]at T;have xm:BJ t (A3 v p) ((e.l.m λd=>(d.1,a.eval d.2)).m (·.2)):=by have:=Pz y xg;rw[Aja]at this;rw[Aja];exact this
 have xi:BJ t (GG f.I b) ((Array.range (b*c)).map (x.cells[·% x.cells.z]!)).l:=by simpa[S,Array.toList_range]using T
 obtain⟨i,W,E⟩:=bT (λl=>A (l*c,c)) (e.l.m λd=>(d.1,a.eval d.2)) (PC c e.l) (A3 v p) (GG f.I b) m _ R xm xi (by simp[PC]) (λl xl xv V xn=>by unfold PC at V;grind) (by rw[SW,h];omega)
 have xe:m.l=b*c:=by
  have Y:∀n j f o,RR n j f=A o->o.l=f.l:=by
   intro n
   induction n with
   |nil=>intro j f o g;cases j<;>cases g;rfl
   |cons xl n xk=>
    intro j f o g
    cases j with
    |nil=>cases g
    |cons d j=>obtain⟨xo,Z⟩:=En (g);rw[xk _ _ _ Z,Wl]
  rw[Y _ _ _ _ R,SW,h]
 have xr:i.z=b*c:=by have:=E.length;grind
 refine⟨.slice (A ⟨w.heap.z,0,O⟩) b b,{w with heap:=w.heap.push (.cells i k)},⟨w.heap.z,0,i.z⟩,_,?_,B,⟨B,B,B,VP w _ _⟩,B,λxw xd xb=>⟨?_,?_⟩⟩
 .have xa:¬(2^24<b*c):=by omega
  have P:(e.map λd=>(d.1,a.eval d.2)).l=e.l.m λd=>(d.1,a.eval d.2):=by simp
  have xs:(Instr.buildSlice s b (e.map λd=>(d.1,a.eval d.2))).run u w=.ok (.slice (A ⟨w.heap.z,0,O⟩) b b) {w with heap:=w.heap.push (.cells i k)}:=by
   by_cases G:b*c=0
   .have xc:b=0:=by
     rcases Akh.1 G with g|g<;>omega
    subst xc
    have X:Instr.fill (λl=>A (l*c,c)) #[] (e.l.m λd=>(d.1,a.eval d.2))=A i:=by grind
    simp only[Instr.buildSlice,Sem.run_bind,run_underlying I,Result.andThen_ok,Iz q,P]
    simp[show Array.range 0=(#[])from B,X,newRow]
   .simp only[Instr.buildSlice,Sem.run_bind,run_underlying I,Result.andThen_ok,Iz q,xa,AiC,G,Sem.run_pure,Z6 J xj,P,W];simp[newRow]
  simp[execOp, *]
 .exact .Z r 0 b (b+1) c ⟨w.heap.z,0,i.z⟩ b xb Om Om (by grind)
 .exact Vr UT xe (by omega) (by omega) (ap (E.Av xd))
theorem fh(y:TR t v a){x:Oper}{H:Al}{E:C Od}{M:Aa}{n:Ce}{P:F}(b:Es u x=A (.al H E))(k:H.ev (A3 v E) M=A (n,P)):Ta u t w x a M n P:=by
 unfold Es at b;cases g:x.op<;>rw[g]at b<;>simp only[]at b
 case alloc h=>
  split at b
  .rename_i G l;cases b
   cases k
   exact nQ y g l
  .cases b
 case box h xc=>
  obtain⟨e,f,d⟩:=Rx b;cases d;obtain⟨xj,xd,R,S,rfl⟩:=WG f;cases kS S
  cases k
  exact nR y g R
 case buildSlice h s xa=>
  split at b
  .rename_i d q;split at b
   .rename_i N G U l;split at b
    .rename_i j;simp only[Aie]at j;split at b
     .rename_i m;simp only[Aie]at m;obtain⟨e,f,o⟩:=Rx b;cases o;obtain⟨i,p⟩:=En k;have i:=Aii i;rw[HE]at i;split at p
      .rename_i e X;cases p
       have I:=Aii m.2;have J:=Aii j.1.2;rw[HE]at J;refine nU y g q U l j.1.1 j.1.2 j.2 f (hP N s _ λZ W=> ?_) ?_;.simpa[I]using(jh _ 0 m.1 Z W)
       .simpa using(hv N (A3 v E) 0 [] (GG G.I s) e (by simp) (by rw[SW,i,J]) X xa.l (by rw[i];simpa using I) m.1)
      .cases p
     .cases b
    .cases b
   .cases b
  .cases b
 case makeMap h xb=>
  cases xb with
  |none=>cases b;cases k;exact nT y g
  |some _=>cases b
 case makeSlice h e Q=>
  split at b
  .rename_i d q;split at b
   .rename_i s xe G V T l;split at b;.rename_i r;simp only[Aie]at r;obtain⟨xd,Y,o⟩:=Rx b;cases o;exact nS y g q V T l r.1 (Aii r.2) Y k
    .cases b
   .cases b
  .cases b
 all_goals exfalso
 case call Q=>
  unfold TG at b;revert b;repeat' split
  all_goals first
   |(intro c;cases c;done)
   |(intro c;obtain⟨e,f,d⟩:=Gt c;cases d;done)
   |(intro c;obtain⟨e,f,d⟩:=KH c;cases d;done)
 case binOp xi h n xc xk=>
  unfold RM at b;revert b;repeat' split
  all_goals first
   |(intro c;cases c;done)
   |(intro c;obtain⟨e,f,d⟩:=Gt c;cases d;done)
 case slice h n xg xf xh=>grind
 all_goals try(cases b;done)
 all_goals(revert b;repeat' split)
 all_goals first
  |(intro c;cases c;done)
  |(intro c;obtain⟨e,f,d⟩:=Gt c;cases d;done)
  |(intro c;obtain⟨_⟩:=Ku c;grind)
  |(intro c;obtain⟨e,f,d⟩:=Rx c;cases d;done)
  |(intro c;obtain⟨_⟩:=KH c;grind)
end
section
variable{v:Program} {u:A0} {y:Fm} {a:Act} {t:G} {w:BH}
def A0.Cf(u:A0)(d:Aa)(c:FE):A0:=⟨λb=>if b=d then A c else u b,u.im⟩
theorem A0.Ia(u:A0)(c:Aa)(b:FE):u.Cf c b c=A b:=Af B
theorem A0.CQ(u:A0){c b:Aa}(d:FE)(e:b≠c):u.Cf c d b=u b:=Ad e
theorem A0.Lg{u:A0}{b:Aa}(d:FE)(c:u b=O):u.le (u.Cf b d):=by
 refine⟨λe g h=> ?_,λ_ _ _ c=>c⟩;by_cases f:e=b;.grind
 .rw[A0.CQ _ _ f];omega
theorem Fin.set(i:HR u t w){f:Aa}{l H:Ce}{k:FE}{o:BH}(E:t.N f=A l)(F:l.Wn=L)(p:u f=A k)(W:BR u H k o)(U:o.heap.z=w.heap.z)(s:∀d,d≠k.r->o.heap[d]? =w.heap[d]?)(S:Kx w o):Fin u t w u (t.set f H) o where
 ext:=.refl _
 Gl b q r:=A_ q r
 hr:={
  E4:=λm d j n=>(i.E4 m d j n).Av (.refl _) (s d (i.Fw f l k m d j E F p n))
  Fw:=λb m h I d j e R g n=>by
   by_cases c:b=f;.subst c;rw[p]at g;cases g;exact i.Fw b l k I d j E F p n
   .rw[G.IH _ _ c]at e;exact i.Fw b m h I d j e R g n
  BB:=λb m h e g=>by
   by_cases c:b=f;.subst c;rw[G.O9]at e;grind
   .rw[G.IH _ _ c]at e;refine(i.BB b m h e g).Av (.refl _) (s h.r λN=>c ?_);exact i.C3 b f h k (by grind) (by grind) g p N
  C3:=λx z J M q r=>i.C3 x z J M (by
   by_cases c:x=f;.grind
   .rwa[G.IH _ _ c]at q) (by
   by_cases c:z=f;.grind
   .rwa[G.IH _ _ c]at r)
  lt:=λb h g=>by rw[U];exact i.lt b h g
  Fq:=λb e=>by
   rw[G.M5];refine i.Fq b ?_;by_cases c:b=f;.grind
   .rwa[G.IH _ _ c]at e}
 up:=C6 _
 EN:=by omega
 F8 d T e:=s d P
 GM b h g e T:=by
  refine⟨b,h,g,?_,B⟩;by_cases c:b=f;.grind
  .rwa[G.IH _ _ c]at e
 HP l d j Q _:=.i ⟨l,j,Q⟩
 GH b e V:=G.IH _ _ P
 Aw:=S
theorem Fin.alloc(g:HR u t w){x:Ce}{h:FE}{p:BH}{U:Obj}(F:u t.next=O)(T:p.heap=w.heap.push U)(V:h.r=w.heap.z)(X:BR (u.Cf t.next h) x h p)(S:Kx w p):Fin u t w (u.Cf t.next h) (t.V x) p:=by
 have M:∀f,f<w.heap.z->p.heap[f]? =w.heap[f]? :=P;exact{
  ext:=A0.Lg h F
  Gl:=λc E s=>by
   by_cases b:c=t.next;.subst b;rw[G.HG,Aa.G5];omega
   .rw[A0.CQ _ _ b]at s;grind
  hr:={
   E4:=λm f j o=>(g.E4 m f j o).Av (A0.Lg h F).FH (M f (g.E4 m f j o).lt)
   Fw:=λc m i N f j e R d o=>by
    by_cases b:c=t.next;.subst b;rw[A0.Ia]at d;cases d;have:=(g.E4 N f j o).lt;omega
    .rw[G.Mn _ _ b]at e;rw[A0.CQ _ _ b]at d;exact g.Fw c m i N f j e R d o
   BB:=λc m i e d=>by
    by_cases b:c=t.next;.subst b;rw[G.YN]at e;cases e;rw[A0.Ia]at d;grind
    .rw[G.Mn _ _ b]at e;rw[A0.CQ _ _ b]at d;exact(g.BB c m i e d).Av (A0.Lg h F) (M _ (g.lt c i d))
   C3:=λz q I J E s k l H=>by
    by_cases r:z=t.next
    .by_cases n:q=t.next;.grind
     .exfalso;subst r;rw[A0.Ia]at k;cases k;rw[A0.CQ _ _ n]at l;have:=g.lt q J l;omega
    .by_cases n:q=t.next;.exfalso;subst n;rw[A0.Ia]at l;cases l;rw[A0.CQ _ _ r]at k;have:=g.lt z I k;omega
     .rw[G.Mn _ _ r]at E;rw[G.Mn _ _ n]at s;rw[A0.CQ _ _ r]at k;rw[A0.CQ _ _ n]at l;exact g.C3 z q I J E s k l H
   lt:=λc i d=>by
    rw[T,Array.size_push];by_cases b:c=t.next;.subst b;rw[A0.Ia]at d;grind
    .rw[A0.CQ _ _ b]at d;have:=g.lt c i d;omega
   Fq:=λc e=>by
    rw[G.HG,Aa.G5];by_cases b:c=t.next;.grind
    .rw[G.Mn _ _ b]at e;have:=g.Fq c e;omega}
  up:=by rw[G.HG,Aa.G5];omega
  EN:=by grind
  F8:=λf H _=>P
  GM:=λc i d e H=>by
   by_cases b:c=t.next;.subst b;rw[A0.Ia]at d;grind
   .rw[A0.CQ _ _ b]at d;rw[G.Mn _ _ b]at e;grind
  HP:=λx f j Q _=>.i ⟨x,j,Q⟩
  GH:=λc e W=>G.Mn _ _ P
  Aw:=S}
theorem Fin.Hg(d:HR u t w){f:Aa}{l:FE}(F:u f=A l):Fin u t w u (t.Hg f) w:=by
 have I:∀b,(t.Hg f).N b≠O->b≠f/\t.N b≠O:=λb c=>by
  by_cases i:b=f;.subst i;rw[G.cv]at c;grind
  .rw[G.R5 _ i]at c;grind
 exact{
  ext:=.refl _
  Gl:=λb q r=>P
  hr:={
   E4:=d.E4
   Fw:=λb h e z j k c s g x=>by rw[G.R5 _ P]at c;exact d.Fw b h e z j k c s g x
   BB:=λb h e c g=>by rw[G.R5 _ P]at c;exact d.BB b h e c g
   C3:=λo p m n q r=>d.C3 o p m n P P
   lt:=d.lt
   Fq:=λb c=>d.Fq b P}
  up:=C6 _
  EN:=C6 _
  F8:=λ_ _ _=>B
  GM:=λb e g c _=>⟨b,e,g,P,B⟩
  HP:=λJ j k E _=>P
  GH:=λb c H=>G.R5 _ P
  Aw:=.refl _}
theorem Fin.uX(h:HR u t w){d:Aa}{s o:Ce}{j k:FE}{E:BH}(R:u t.next=O)(Z:t.N d=A s)(xb:s.Wn=L)(p:u d=A j)(xg:k.r=j.r)(xm:BR (u.Cf t.next k) o k E)(xj:E.heap.z=w.heap.z)(xa:∀i,i≠j.r->E.heap[i]? =w.heap[i]?)(xi:Kx w E):Fin u t w (u.Cf t.next k) ((t.Hg d).V o) E:=by
 have M:(t.Hg d).next=t.next:=B
 have m:∀b,((t.Hg d).V o).N b≠O->b=t.next\/(b≠t.next/\b≠d/\t.N b≠O/\((t.Hg d).V o).N b=t.N b):=λb f=>by
  by_cases c:b=t.next;.grind
  .by_cases g:b=d;.subst g;rw[G.Mn _ _ (by grind),G.cv]at f;grind
   .have J:((t.Hg d).V o).N b=t.N b:=by rw[G.Mn _ _ (by grind),G.R5 _ g]
    grind
 have xk:=h.lt d j p;exact{
  ext:=A0.Lg k R
  Gl:=λb Y I=>by
   by_cases c:b=t.next;.subst c;rw[G.HG,Aa.G5,M];omega
   .rw[A0.CQ _ _ c]at I;grind
  hr:={
   E4:=λx i n z=>(h.E4 x i n z).Av (A0.Lg k R).FH (xa i (h.Fw d s j x i n Z xb p z))
   Fw:=λb x l xc i n f xh e z=>by
    rcases m b (by grind)with c|⟨c,g,_,J⟩;.subst c;rw[A0.Ia]at e;cases e;rw[xg];exact h.Fw d s j xc i n Z xb p z
    .rw[J]at f;rw[A0.CQ _ _ c]at e;exact h.Fw b x l xc i n f xh e z
   BB:=λb x l f e=>by
    rcases m b (by grind)with c|⟨c,g,_,J⟩
    .subst c;have:((t.Hg d).V o).N (t.Hg d).next=A o:=G.YN _ _
     rw[M]at this;rw[this]at f;cases f;rw[A0.Ia]at e;grind
    .rw[J]at f;rw[A0.CQ _ _ c]at e;refine(h.BB b x l f e).Av (A0.Lg k R) (xa _ λxd=>g ?_);exact h.C3 b d l j (by omega) (by grind) e p xd
   C3:=λN F T U Y I q r S=>by
    rcases m N Y with H|⟨H,xe,X,_⟩
    .rcases m F I with g|⟨g,V,Q,_⟩;.grind
     .exfalso;subst H;rw[A0.Ia]at q;cases q;rw[A0.CQ _ _ g]at r;exact V (h.C3 F d U j Q (by grind) r p (by omega))
    .rcases m F I with g|⟨g,V,Q,_⟩;.exfalso;subst g;rw[A0.Ia]at r;cases r;rw[A0.CQ _ _ H]at q;exact xe (h.C3 N d T j X (by grind) q p (by omega))
     .rw[A0.CQ _ _ H]at q;rw[A0.CQ _ _ g]at r;exact h.C3 N F T U X Q q r S
   lt:=λb l e=>by
    rw[xj];by_cases c:b=t.next;.subst c;rw[A0.Ia]at e;grind
    .rw[A0.CQ _ _ c]at e;exact h.lt b l e
   Fq:=λb f=>by
    rw[G.HG,Aa.G5,M];rcases m b f with c|⟨_,_,W,_⟩;.grind
    .have:=h.Fq b W;omega}
  up:=by rw[G.HG,Aa.G5,M];omega
  EN:=by omega
  F8:=λi S f=>P
  GM:=λb l e f S=>by
   rcases m b f with c|⟨c,_,W,_⟩;.subst c;rw[A0.Ia]at e;grind
   .rw[A0.CQ _ _ c]at e;grind
  HP:=λs i n xf _=>.i ⟨s,n,xf⟩
  GH:=λb f xl=>by rw[G.Mn _ _ (by grind),G.R5 _ (P:b≠d)]
  Aw:=xi}
theorem et(c:D){j:B9}{k:D×D}:∀e b w f,w.heap[c]? =A (.cells f j k)->b+e.l<=f.z->
  ∃i,(w.setCells c b e).heap[c]? =A (.cells i j k)/\i.z=f.z/\(∀d,i[d]? =if b<=d/\d<b+e.l then e[d-b]?else f[d]?)/\
   (∀h,h≠c->(w.setCells c b e).heap[h]? =w.heap[h]?)/\(w.setCells c b e).heap.z=w.heap.z/\Kx w (w.setCells c b e)
 |[],b,w,f,l,o=>⟨f,l,B,λd=>by simp;omega,λ_ _=>B,B,.refl _⟩
 |g::e,b,w,f,l,o=>by
  have m:=setCell_eq_setRow w c b f j k g l;have F:(w.setCell ⟨c,b,O⟩ g).heap[c]? =A (.cells (f.setIfInBounds b g) j k):=by rw[m];exact setRow_heap w c f _ j k l
  simp only[AiD]at o;obtain⟨i,r,G,s,x,z,E⟩:=et c e (b+1) (w.setCell ⟨c,b,O⟩ g) _ F (by grind);refine⟨i,r,by grind,λd=> ?_,λh p=> ?_,?_,?_⟩
  .rw[s d];simp only[AiD];by_cases q:d=b
   .subst q;rw[Ad (by omega)];have:d<f.z:=by omega
    simp[this]
   .by_cases n:b+1<=d/\d<b+1+e.l;.rw[Af n,Af (by omega),show d-b=(d-(b+1))+1 by omega];simp
    .rw[Ad n,Ad (by omega),Aky (by omega)]
  .show((w.setCell ⟨c,b,O⟩ g).setCells c (b+1) e).heap[h]? =_;rw[x h p,m,setRow_other _ _ _ _ p]
  .show((w.setCell ⟨c,b,O⟩ g).setCells c (b+1) e).heap.z=_;rw[z,m,setRow_size]
  .have:Kx w (w.setCell ⟨c,b,O⟩ g):=⟨B,B,B,λa=>by simp⟩;exact this.AQ E
theorem ou{b:F}{c:Bl}(d:VR u b c)(e:FX b=L):c.oneCell'=L:=by cases d<;>first|rfl|(cases e;done)
theorem Afl{e:Aa}{g d:D}{f:C F}{j:G}(h:t.EY e g d f=A j)(p:f.l=d):∃b c,t.N e=A (.I b c)/\g+d<=b/\(c.l=b->j=t.set e (.I b (DJ g f c))):=by
 unfold G.EY at h;split at h
 .rename_i b c l;obtain⟨i,m⟩:=En h;have i:=Aim i;refine⟨b,c,qv l,i,λo=> ?_⟩;cases m
  by_cases k:d=b
  .have n:g=0:=by omega
   subst k n;rw[AiG];show t.set e (.I d f)=t.set e (.I d (Lf f c));rw[c7 _ _ (by omega),Aiq (by omega),Aiy]
  .rw[G0 k];rfl
 grind
theorem e0(p:HR u t w){g:Aa}{c k:D}{f:C F}{d:C Bl}{l:G}{b:FE}(N:t.EY g c k f=A l)(q:u g=A b)(s:BJ u f d)(r:f.l=k)(R:∀x∈d,x.oneCell'=L):∃z,(storeCells ⟨b.r,b.sh+c,O⟩ d).run v w=.ok () z/\Fin u t w u l z:=by
 obtain⟨xg,xf,o,xc,Q⟩:=Afl N r;obtain⟨J,M,m,I,Z,S,h,xa,n,xb⟩:=p.BB g _ b o q;have xd:d.l=k:=by rw[s.length,r]
 rw[Q J];obtain⟨E,U,xe,V,W,X,Y⟩:=et b.r d (b.sh+c) w m h (by omega);refine⟨_,(run_storeCells_cells (P:=v) b.r (b.sh+c) d 0 w (λj T=>by
  have:b.sh+c+j<m.z:=by omega
  simp[World.cell?,h,this]) (λj T=>by
  have:=n (b.sh+c+0+j) (by omega);simp[World.frozen?,h];omega) R),?_⟩
 rw[Ajq];refine Fin.set p o B q ⟨by rw[Wl];omega,M,E,I,Z,S,U,by omega,n,λe x i=> ?_⟩ X W Y;rw[cw _ _ _ _ (by omega)]at i;rw[V (b.sh+e)];by_cases H:c<=e/\e<c+f.l;.rw[Af H]at i;rw[Af (by omega),show b.sh+e-(b.sh+c)=e-c by omega];exact s.N i
 grind
end
section
variable{u:Program} {t:A0} {s:Fm} {a:Act} {v:G} {w:BH}
def PZ(u:Program)(t:A0)(v:G)(w:BH)(d:Oper)(a:Act)(g:F)(f:G):Prop:=
 ∃b c e,((execOp a.eval d).run u w=.ok (.value b) c\/((execOp a.eval d).run u w=.ok .skip c/\b=undef))/\VR e g b/\Fin t v w e f c
theorem c_{e:F}{f:Bl}{d:D}(b:KP e=A d)(c:VR t e f):(Builtin.lenOf f).run u w=.ok d w:=by
 unfold KP at b;split at b
 .cases b
  rcases Jp c with⟨k,m,_,_,_,_,rfl⟩|⟨g,i,_,rfl⟩;.simp[Builtin.lenOf]
  .subst i;simp[Builtin.lenOf]
 .cases b;have:=Lp c;subst this;simp[Builtin.lenOf]
 .cases b
  obtain⟨l,j,rfl⟩:=PU c;subst j;simp[Builtin.lenOf]
 .cases b
  rcases S9 c with⟨o,E,G,n,H,h,p,q,r,x,rfl⟩|⟨rfl,g,h,rfl⟩|⟨rfl,rfl⟩<;>simp[Builtin.lenOf]
 grind
theorem XR{b:C F}{f:C Bl}(e:BJ t b f)(l:b.all FX=L):∀g∈f,g.oneCell'=L:=by
 intro g j;obtain⟨k,d,rfl⟩:=List.getElem_of_mem j;have i:k<b.l:=by rw[<-e.length];exact d
 obtain⟨m,c,h⟩:=e.N (AiW i);rw[AiW d]at c;cases c
 exact ou h P
variable(z:TR t s a) (y:HR t v w)
theorem q_(z:TR t s a)(y:HR t v w){n:Oper}{p:B9}{r j:Operand}{b:D}{x:C Od}{q:F}{k:G}(N:n.op=.store p r j)(M:sz u p=A b)(S:D6 [r,j]=A x)(d:A1 b v (A3 s x)=A (q,k)):PZ u t v w n a q k:=by
 obtain⟨xb,i,E,H,I⟩:=NO z S;rw[E]at d;unfold A1 at d;split at d
 .rename_i Y xa xc e;injection e with e f;injection f with f _;subst e f;obtain⟨c,l⟩:=En d;have m:Bb (BK i.I) b=L/\Ct i.I=L:=by
   cases o:Bb (BK i.I) b with
   |false=>rw[o]at c;cases c
   |true=>rw[o]at c;exact⟨B,c⟩
  have h:=Aii m.1;rw[HE]at h;obtain⟨X,J,W⟩:=PS H;split at l
  .rename_i Z R;cases l
   have g:=Rh I;rw[EC]at m;obtain⟨V,T,U⟩:=e0 (v:=u) y R J g h (XR g P);refine⟨undef,V,t,.j ⟨?_,B⟩,S_ t,U⟩;have Q:(a.eval j).cells.z=b:=by rw[<-h,<-g.length];simp
   simp[execOp,N,W,Instr.storeAt,Instr.sureAddr,storeVar,Iz M,Q,T]
  grind
 grind
def ao(h:Aj (D×Bl))(b:Br MapEntry)(c d:Bl)(e:D):Br MapEntry:=
 match h with
 |some (g,_)=>b.modify g λf=>{f with key:=c,val:=d}
 |none=>b.push {key:=c,val:=d,born:=e}
def an(c:Aj (D×Bl))(b:D):D:=
 match c with
 |some _=>b
 |none=>b+1
theorem AaN(z:TR t s a)(y:HR t v w){o i q:B9}{j:D}{b p:Bl}{d:Br MapEntry}{g:D}(m:u.underlying o=A (.map i q))(e:w.heap[j]? =A (.map d g))(l:(Instr.checkKey Ac 10000 i b).run u w=.ok () w){c:Aj (D×Bl)}(n:(Instr.findKey i b d.l).run u w=.ok c w)(E:∀f k,c=A (f,k)->∃h,d[f]? =A h/\Instr.sameBits 10000 h.key b=L):(Instr.mapUpdate o (.map (A j)) b p).run u w=.ok () {w with heap:=w.heap.setIfInBounds j (.map (ao c d b p g) (an c g))}:=by
 cases c with
 |none=>simp[ao,an,Instr.mapUpdate,run_underlying m,PK e,l,n,setObj,Sem.run,e]
 |some F=>obtain⟨f,k⟩:=F;obtain⟨h,r,x⟩:=E f k B;simp[ao,an,Instr.mapUpdate,run_underlying m,PK e,l,n,setObj,Sem.run,e,r,Instr.keyThatStays,x]
theorem Wt{b:Aa}{c:FE}{j g:C BL}{i f:D}{d:Br MapEntry}(y:HR t v w)(h:Pw (v.N b)=A (j,i))(e:t b=A c)(k:Gf t g d.l):Fin t v w t (v.set b (.Bu g f)) {w with heap:=w.heap.setIfInBounds c.r (.map d f)}:=by have l:=y.lt b c e;refine Fin.set y (Zj h) B e ⟨d,by grind,k⟩ (by simp) P ⟨B,B,B,λa=> ?_⟩;obtain⟨_⟩:=y.BB b _ c (Zj h) e;unfold World.frozen?;grind
theorem Aa2(b:BL->BL)(c:D):Oi b [] c=[]:=rfl
theorem Aa4(d:BL->BL)(b:BL)(c:C BL):Oi d (b::c) 0=d b::c:=rfl
theorem Aa3(d:BL->BL)(b:BL)(c:C BL)(e:D):Oi d (b::c) (e+1)=b::Oi d c e:=rfl
theorem bG{n:F}{h:MapEntry->MapEntry}:∀{e:C BL}{f:C MapEntry} c,Gf t e f->(∀d b,e[c]? =A d->f[c]? =A b->VR t d.HS (h b).key/\VR t n (h b).val/\d.Nm=(h b).born)->Gf t (Oi (W8 n) e c) (f.modify c h)
 |[],_,c,g,_=>by cases g;rw[Aa2];simp;exact .nil
 |d::e,_,0,g,m=>by
  cases g
  rename_i b f j k l i;obtain⟨o,p,q⟩:=m d b (by simp) (by simp);rw[Aa4];exact .cons _ _ _ _ o p q i
 |d::e,_,c+1,g,m=>by
  cases g
  rename_i b f j k l i;rw[Aa3];exact .cons _ _ _ _ j k l (bG c i P)
theorem bH{b:BL}{c:MapEntry}(h:VR t b.HS c.key)(i:VR t b.Dv c.val)(g:b.Nm=c.born):∀{d:C BL}{e:C MapEntry},Gf t d e->Gf t (d++[b]) (e++[c])
 |[],_,f=>by cases f;exact .cons _ _ _ _ h i g .nil
 |n::d,_,f=>by
  cases f
  rename_i o e j k l m;exact .cons _ _ _ _ j k l (bH h i g m)
theorem fZ{a b:ByteArray}(c:L=(a.toList==b.toList)):a=b:=by
 have c:a.toList=b.toList:=by grind
 cases a;cases b
 simp only[ByteArray.toList_eq]at c;congr 1;exact Aj4 c
theorem l6{P:Ak}{f:C D}{g h:F}{i j:Bl}(r:J8 P f g h=A L)(x:VR t g i)(E:VR t h j):Instr.sameBits 10000 j i=L:=by
 have xe:∀k {G:D}{g h:F}{i j:Bl},Ie G g h=A L->VR t g i->VR t h j->Instr.sameBits k j i=L:=by
  intro k G g h i j r x E;rcases TO r x E with⟨_,J,a,l,rfl,rfl,n⟩|⟨_,a,l,rfl,rfl,n⟩|⟨_,a,l,rfl,rfl,n⟩
  .have:a=l:=by grind
   subst this;cases k<;>simp[Instr.sameBits]
  .have:a=l:=by simpa using n.s
   subst this;cases k<;>simp[Instr.sameBits]
  .have:=fZ n;subst this;cases k<;>simp[Instr.sameBits,beq_toListBytes]
 rcases Yg r x E with⟨_,b,c,d,e,V,W,rfl,rfl,I⟩|⟨_,_,G,_,I⟩
 .have Y:∀f b c d e,BJ t b d->BJ t c e->G2 f b c=A L->d.l=e.l/\((e.zip d).all λo=>Instr.sameBits 9999 o.1 o.2)=L:=by
   intro f
   induction f with
   |nil=>intro b c d e p q m;obtain⟨M,N⟩:=OY m;have S:=Aj3 M;have T:=Aj3 N;subst S T;cases p;cases q;exact⟨B,B⟩
   |cons J f X=>
    intro b c d e p q m
    obtain⟨M,N⟩:=OY m
    cases b with
    |nil=>grind
    |cons xa b=>cases c with
     |nil=>grind
     |cons xb c=>
      obtain⟨o,Z,_⟩:=Ts (show KD (Ie J xa xb) (G2 f b c)=A L from m);have xf:o=L/\Z=L:=by grind
      cases p;cases q
      rename_i xh xj xc Q xg xi xd R;obtain⟨H,U⟩:=X _ _ _ _ Q R (by grind);refine⟨by grind,?_⟩;simp only[List.zip_cons_cons,AiK,Aie];grind
  obtain⟨H,U⟩:=Y f b c d.l e.l V W I
  simp only[Ajf]at H
  show(e.z==d.z&&(e.l.zip d.l).all λ(g,h)=>Instr.sameBits 9999 g h)=L
  grind
 grind
theorem VK{f:Ak}{i:C D}{h:F}:∀{g:C BL}{e d:D}{c:BL},G3 f i h g e=A (A (d,c))->J8 f i h c.HS=A L
 |[],e,d,c,b=>by cases b
 |l::g,e,d,c,b=>by
  rw[Yw]at b;split at b
  .rename_i j k
   cases j with
   |true=>grind
   |false=>exact VK b
  grind
theorem m8{q:Ak}{e:C D}{f d:F}{g m:Bl}(h:J8 q e f d=A L)(k:VR t f g)(l:VR t d m):VR t d g:=by
 have X:∀{p:D}{f d:F}{g m:Bl},Ie p f d=A L->VR t f g->VR t d m->VR t d g:=by
  intro p f d g m h k l;rcases TO h k l with⟨_,G,a,r,rfl,rfl,o⟩|⟨_,a,r,rfl,rfl,o⟩|⟨_,a,r,rfl,rfl,o⟩;.grind
  .grind
  .have:=fZ o;grind
 rcases Yg h k l with⟨_,c,b,i,n,Y,Z,rfl,rfl,H⟩|⟨_,_,p,_,H⟩
 .have xe:∀e c b i n,BJ t c i->BJ t b n->G2 e c b=A L->BJ t b i:=by
   intro e
   induction e with
   |nil=>intro c b i n x E j;obtain⟨M,N⟩:=OY j;grind
   |cons G e xd=>
    intro c b i n x E j
    obtain⟨M,N⟩:=OY j
    cases c with
    |nil=>grind
    |cons Q c=>cases b with
     |nil=>grind
     |cons R b=>
      obtain⟨I,J,_⟩:=Ts (show KD (Ie G Q R) (G2 e c b)=A L from j);have xc:I=L/\J=L:=by grind
      cases x;cases E
      rename_i xj xm T U xi xl V W;exact .cons _ _ _ _ P P
  unfold J8 at h
  split at h
  .cases l with
   |S xg xk xb=>
    cases k with
    |S xf xh xa=>
     cases q with
     |false=>grind
     |true=>exact .S _ _ P
  grind
 grind
theorem gR(z:TR t s a)(y:HR t v w){m:Oper}{i xc xh:B9}{N f g:Operand}{q:Ak}{M:C D}{xg:C Od}{xf:F}{R:G}(J:m.op=.mapUpdate i N f g\/m.op=.insert i N f g)(xm:u.underlying i=A (.map xc xh))(xa:Pe u xc=A (q,M))(xq:D6 [N,f,g]=A xg)(e:Hx q M v (A3 s xg)=A (xf,R)):PZ u t v w m a xf R:=by
 obtain⟨xC,xu,xD,xj,xk,xl,rfl⟩:=dH xq;have Y:=GQ z xj;have h:=GQ z xk;have Z:=GQ z xl;unfold Hx at e;split at e
 .rename_i xE xB xG j;injection j with j k;injection k with k x;injection x with x _;subst k x;rw[j]at Y;obtain⟨p,H,xI⟩:=U5 Y;split at e
  .rename_i V S I;obtain⟨W,xi,E⟩:=UA y (di I) H;have T:∀{o:Aj (D×BL)}(d:Mh q M (xu.ev s) V=A o),∃b,P1 t V W.l 0 o b/\(Instr.mapUpdate i (.map (A p.r)) (a.eval f) (a.eval g)).run u w=.ok () {w with heap:=w.heap.setIfInBounds p.r (.map (ao b W (a.eval f) (a.eval g) S) (an b S))}:=by
    intro o d
    obtain⟨xt,xb⟩:=TT d
    obtain⟨b,xv,c⟩:=Yx w xa h E xb
    refine⟨b,c,AaN z y xm xi (Y3 xa h Ac xt) xv ?_⟩
    intro xr xH xn
    subst xn
    cases o with
    |none=>cases c
    |some n=>obtain⟨xs,U⟩:=n;obtain⟨rfl,_,xw,r,xd,xx,xy,xe,P⟩:=c;refine⟨r,by simpa using xd,l6 (VK xb) h P⟩
   have X:∀{Q:BH},(Instr.mapUpdate i (.map (A p.r)) (a.eval f) (a.eval g)).run u w=.ok () Q->(execOp a.eval m).run u w=.ok .skip Q:=by intro Q l;rcases J with J|J<;>simp[execOp, *]
   split at e
   .rename_i xr U d
    cases e
    obtain⟨b,c,l⟩:=T d
    cases b with
    |none=>cases c
    |some n=>
     obtain⟨xs,xF⟩:=n;obtain⟨rfl,_,xw,r,xd,xx,xy,xe,P⟩:=c;refine⟨undef,_,t,.j ⟨X l,B⟩,S_ t,Wt y I H ?_⟩;show Gf t _ (Array.modify _ _ _).l;rw[Aki];refine bG _ E λxz xA j k=> ?_;have xo:xz=U:=by grind
     have xp:xA=r:=by grind
     subst xo xp;refine⟨?_,Z,xe.s⟩;exact m8 (VK (TT d).2) h P
   .rename_i d
    cases e
    obtain⟨b,c,l⟩:=T d
    cases b with
    |some n=>cases c
    |none=>refine⟨undef,_,t,.j ⟨X l,B⟩,S_ t,Wt y I H ?_⟩;show Gf t _ (Array.push _ _).l;rw[Array.toList_push];exact bH h Z B E
   grind
  grind
 grind
end
section
variable{u:Program} {v:A0} {τ:Fm} {a:Act} {y:G} {w:BH}
def jo:TypeDesc->Ak
 | .int _=>L
 |_=>Ac
theorem AbN{b:TypeDesc}(h:∀c,b≠.int c):jo b=Ac:=by cases b<;>first|rfl|grind
theorem vq(b:TypeDesc):(match b with|TypeDesc.int c=>L|h=>Ac)=jo b:=rfl
inductive Fo(u:Program)(w:BH)(x g:D)(z:Bl)(s:Br B9)(n:Bl)(b:D)(o:C Bl):Prop where
 |I (h:B9) (F:s[1]? =A h) (E:TypeDesc) (G:u.underlying h=A E) (M:∀l,E≠.int l)
  (N:∀c:BH,(Builtin.lenOf n).run u c=.ok b c) (P:∀c:BH,c.heap=w.heap->(Builtin.firstCells x b n).run u c=.ok o.a c)
 |e3 (h:B9) (l H:IntKind) (F:s[1]? =A h) (G:u.underlying h=A (.int l)) (S:n=.int H (b:K)) (R:b<=100000000000) (Q:b*g<=100000000000) (k:b*x≠0)
  (J:o.a=Builtin.zeroCells z.cells b)
theorem fm{s:Br B9}{t m e:B9}{i:TypeInfo}{z:Bl}{h:Addr}{c o b:D}{H:Bl}{F:C Bl}{G:BH}(q:s[0]? =A t)(p:u.underlying t=A (.slice e))(r:u.info? e=A i)(k:i.zero=A z)(R:Fo u w i.size i.bytes z s H b F)(x:c+b<=o)(E:(storeCells (h.add (c*i.size)) F).run u w=.ok () G):(Builtin.append_ s m #[.slice (A h) c o,H]).run u w=.ok (.slice (A h) (c+b) o) G:=by
 cases R with
 |I U l xa n V M N=>simp only[Builtin.append_,q,l,run_underlying p,run_underlying n,sizeOf,typeInfo,Sem.run_bind,Result.andThen_ok,AjI,AjJ,Ajj];simp[M,x,(N w B),E,r]
 |e3 U Y Z l n S X W T J=>
  subst S;have Q:¬((b:K)<0):=by omega
  have P:¬(281474976710656<b*(i.bytes:K)):=by omega
  simp only[Builtin.append_,q,l,run_underlying p,run_underlying n,sizeOf,Sem.run_bind,Result.andThen_ok,AjI,AjJ,Ajj];simp[r,k,asInt,asIntOf,(IntWalk.i64_in _ (by omega):IntKind.i64.wrap b=b),Q,P,x,T,zeroValue,typeInfo,<-J,E]
theorem n4{s:Br B9}{t m e:B9}{i:TypeInfo}{z:Bl}{x:Aj Addr}{c h b:D}{N:Bl}{M J:C Bl}(q:s[0]? =A t)(p:u.underlying t=A (.slice e))(r:u.info? e=A i)(k:i.zero=A z)(W:Fo u w i.size i.bytes z s N b J)(Y:h<c+b)(X:∀o,o.heap=w.heap->(Builtin.firstCells i.size c (.slice x c h)).run u o=.ok M.a o)(U:(c+b)*i.bytes<=100000000000)(f:1<=i.bytes):
  (Builtin.append_ s m #[.slice x c h,N]).run u w=.ok (.slice (A ⟨w.heap.z,0,O⟩) (c+b) (grownCap w (c+b) h e))
   (w.drew.alloc (.cells (M.a++J.a++Builtin.zeroCells z.cells (grownCap w (c+b) h e-(c+b))) e)):=by
 have G:¬(c+b<=h):=by omega
 have xd:=AiN (by have:=AjU (c+b) f;omega) U
 have F:¬(9223372036854775807<(c+(b:K))):=by omega
 have xe:=growslice_fits (bytes:=i.bytes) Y (by omega)
 have E:¬(281474976710656<Builtin.nextslicecap (c+b) h*i.bytes):=by omega
 have H:=X w.drew B
 cases W with
 |I xb l xj n Q R S=>have xf:=AbN Q;simp only[Builtin.append_,q,l,run_underlying p,run_underlying n,sizeOf,Sem.run_bind,Result.andThen_ok,AjI,AjJ,Ajj];simp[R,G,(S w.drew B),r,k,F,E,zeroValue,typeInfo,Question.forced,H,newRow,grownCap];grind
 |e3 xb xh xi l n Z xg xc xa P=>
  subst Z;have V:¬((b:K)<0):=by omega
  have T:¬(281474976710656<b*(i.bytes:K)):=by
   have:b*i.bytes=((b*i.bytes:D):K):=by simp
   rw[this];omega
  simp only[Builtin.append_,q,l,run_underlying p,run_underlying n,sizeOf,Sem.run_bind,Result.andThen_ok,AjI,AjJ,Ajj];simp[r,k,asInt,asIntOf,(IntWalk.i64_in _ (by omega):IntKind.i64.wrap b=b),V,T,G,xa,zeroValue,typeInfo,P.s,F,E,Question.forced,H,newRow,grownCap];grind
theorem fl{s:Br B9}{t m e:B9}{i:TypeInfo}{o n:D}{l:Aj Addr}{h:Bl}{H:B9}{c:TypeDesc}(q:s[0]? =A t)(p:u.underlying t=A (.slice e))(r:u.info? e=A i)(F:o<=n)(x:s[1]? =A H)(E:u.underlying H=A c)(I:((∃b G,c=.int b/\h=.int G 0))\/((∀b,c≠.int b)/\(Builtin.lenOf h).run u w=.ok 0 w/\(Builtin.firstCells i.size 0 h).run u w=.ok #[] w)):(Builtin.append_ s m #[.slice l o n,h]).run u w=.ok (.slice l o n) w:=by
 rcases I with⟨b,G,rfl,rfl⟩|⟨P,J,M⟩;.simp only[Builtin.append_,q,x,run_underlying p,run_underlying E,sizeOf,typeInfo,r,Sem.run_bind,Sem.run_pure,Result.andThen_ok,AjI,AjJ,Ajj];cases l<;>simp[r,asInt,asIntOf,(IntWalk.i64_in _ (by omega):IntKind.i64.wrap (0:K)=0),F,storeCells]
 .have N:(match c with|TypeDesc.int b=>L|h=>Ac)=Ac:=by cases c<;>first|rfl|grind
  simp only[Builtin.append_,q,x,run_underlying p,run_underlying E,sizeOf,typeInfo,r,Sem.run_bind,Sem.run_pure,Result.andThen_ok,AjI,AjJ,Ajj];cases l<;>simp[vq,N,r,J,M,F,storeCells]
theorem d_(I:HR v y w){G:Aa}{l h:D}{x:C F}{b:FE}(H:y.AU G l h=A x)(J:v G=A b):
  ∃E:C Bl,BJ v x E/\x.l=h/\(∀c:BH,c.heap=w.heap->(loadCells ⟨b.r,b.sh+l,O⟩ h).run u c=.ok E.a c)/\
   ∀o,o<h->∀n e M,w.heap[b.r]? =A (.cells n e M)->n[b.sh+l+o]? =E[o]? :=by
 obtain⟨_⟩:=ZX (v:=u) I H J
 obtain⟨W,V,N,_⟩:=lF H
 obtain⟨R,S,n,_⟩:=RH I N J
 have Q:∀c:BH,c.heap=w.heap->(loadCells ⟨b.r,b.sh+l,O⟩ h).run u c=.ok ((n.l.d (b.sh+l)).t h).a c:=λc U=>by
  have:=run_loadCells_list (P:=u) c ⟨b.r,b.sh+l,O⟩ ((n.l.d (b.sh+l)).t h) (λo X T=>by rw[Nh];unfold World.cell?;grind)
  grind
 grind
theorem qx{xe:D}{T:C F}{b:FE}(Y:BR v (.I xe T) b w){c:D}{l:C Bl}(xk:c+l.l<=b.sz)(X:∀n∈l,n.oneCell'=L):
  ∃x h e G r,(storeCells ⟨b.r,c,O⟩ l).run u w=.ok () x/\x.heap[b.r]? =A (.cells h e (G,r))/\h.z=b.sz/\(∀I,I<b.sz->¬(G<=I/\I<r))/\
   (∀i:D,c<=i->i<c+l.l->h[i]? =l[i-c]?)/\(∀i:D,i<c->∀n,T[i-b.sh]? =A n->b.sh<=i->∃U,h[i]? =A U/\VR v n U)/\
   (∀i:D,i<c->∀o M N,w.heap[b.r]? =A (.cells o M N)->h[i]? =o[i]?)/\
   x.heap.z=w.heap.z/\(∀J,J≠b.r->x.heap[J]? =w.heap[J]?)/\Kx w x:=by
 obtain⟨xg,xh,o,e,G,r,E,xi,Q,V⟩:=Y
 obtain⟨h,xl,xm,S,xb,xc,xd⟩:=et b.r l c w o E (by omega)
 refine⟨_,h,e,G,r,(run_storeCells_cells (P:=u) b.r c l 0 w (λH Z=>by
  have:c+H<o.z:=by omega
  simp[World.cell?,E,this]) (λH Z=>by
  have:=Q (c+0+H) (by omega);simp[World.frozen?,E];omega) X),?_,by omega,Q,?_,?_,?_,?_,?_,?_⟩
 .omega
 .grind
 .intro i W n xa xj;rw[S i,Ad (by omega)];have:=V (i-b.sh) n xa;rwa[show b.sh+(i-b.sh)=i by omega]at this
 .intro i W xf M N R;rw[E]at R;cases R;rw[S i,Ad (by omega)]
 .rw[Ajq];exact xc
 .rw[Ajq];exact xb
 .rw[Ajq];exact xd
section
variable{s:Br B9} {t m e:B9} {i:TypeInfo} {z:Bl} {g j:D} (q:s[0]? =A t) (p:u.underlying t=A (.slice e)) (r:u.info? e=A i) (k:i.zero=A z)
 (d:i.size=j) (z0:i.bytes=g) (f:1<=g) (z2:1<=j) (z1:z.cells.z=j)
theorem aI(q:s[0]? =A t)(p:u.underlying t=A (.slice e))(r:u.info? e=A i)(k:i.zero=A z)(d:i.size=j)(z0:i.bytes=g)(f:1<=g)(z2:1<=j)(z1:z.cells.z=j)(X:HR v y w){M:Aj Addr}{b o h:D}{U:Bl}{H G:C F}{E x:C Bl}(Z:Fo u w i.size i.bytes z s U h x)(xd:o<b+h)(xc:∀J:BH,J.heap=w.heap->(Builtin.firstCells i.size b (.slice M b o)).run u J=.ok E.a J)(R:BJ v H E)(Q:BJ v G x)(xb:H.l=b*j)(xa:G.l=h*j)(Y:(b+h)*g<=100000000000)(N:v y.next=O):∃I T V,(Builtin.append_ s m #[.slice M b o,U]).run u w=.ok I T/\VR V (.Z y.next 0 (b+h) 0 j) I/\Fin v y w V (y.V (.I ((b+h)*j) (EK H G))) T:=by
 subst d z0;have P:=grownCap_ge w (b+h) o e;have S:(E.a++x.a++Builtin.zeroCells z.cells (grownCap w (b+h) o e-(b+h))).z=grownCap w (b+h) o e*i.size:=by simp only[Array.size_append,Akj,size_zeroCells,z1,R.length,Q.length,xb,xa,<-Aje];grind
 refine⟨_,_,v.Cf y.next ⟨w.heap.z,0,grownCap w (b+h) o e*i.size⟩,(n4 (m:=m) q p r k Z xd xc Y f),?_,?_⟩;.exact .Z y.next 0 (b+h) 0 i.size ⟨w.heap.z,0,grownCap w (b+h) o e*i.size⟩ _ (A0.Ia _ _ _) P Om (by simp)
 .refine Fin.alloc (U:=.cells (E.a++x.a++Builtin.zeroCells z.cells (grownCap w (b+h) o e-(b+h))) e) X N B B ?_ ⟨B,B,B,VP w _ _⟩;have:=Vr (m:=v.Cf y.next ⟨w.heap.z,0,grownCap w (b+h) o e*i.size⟩) (d:=H++G) (b:=E.a++x.a++Builtin.zeroCells z.cells (grownCap w (b+h) o e-(b+h))) (h:=e) (e:=0) (c:=0) (f:=(b+h)*i.size) (w:=w)
   (l:=w.drew.alloc (.cells (E.a++x.a++Builtin.zeroCells z.cells (grownCap w (b+h) o e-(b+h))) e)) UT
   (by grind) (by rw[S];exact AjH _ P) (by omega) (λxf xi xe=>by
    obtain⟨I,xg,W⟩:=((R.K1 Q:BJ v (H++G) (E++x)).Av (A0.Lg _ N)).N xe;have xh:xf<(E++x).l:=by grind
    refine⟨I,?_,W⟩;grind)
  rw[S]at this;rw[Lz];omega
theorem fo(q:s[0]? =A t)(p:u.underlying t=A (.slice e))(r:u.info? e=A i)(k:i.zero=A z)(d:i.size=j)(z0:i.bytes=g)(f:1<=g)(z2:1<=j)(z1:z.cells.z=j)(Q:HR v y w){l:D}{xW xt:F}{X xu:Bl}{xo:C F}{xp:C Bl}{xD:G}(R:VR v xW X)(xc:BJ v xo xp)(xe:xo.l=l*j)(xO:∀xt∈xp,xt.oneCell'=L)(x5:l=0->∀xM V xw,V<=xw->(Builtin.append_ s m #[.slice xM V xw,xu]).run u w=.ok (.slice xM V xw) w)(xm:l≠0->Fo u w i.size i.bytes z s xu l xp)(xJ:y.next.num<xD.next.num->v y.next=O)(xg:LA y j g xW l xo=A (xt,xD)):∃n x S,(Builtin.append_ s m #[X,xu]).run u w=.ok n x/\VR S xt n/\Fin v y w S xD x:=by
 unfold LA at xg;split at xg
 ·
  have:=Lp R
  subst this
  cases W:Bb l 0 with
  |true=>
   have:=Aii W;subst this;cases xg
   exact⟨_,w,v,x5 B _ _ _ (C6 _),R,.refl Q⟩
  |false=>
   rw[W]at xg;have xd:=AjV W;obtain⟨xi,xb⟩:=En xg;cases xb
   have xi:=Aim xi;have:=aI (m:=m) (j:=j) (g:=g) (H:=[]) (E:=[]) q p r k d z0 f z2 z1 Q (M:=O) (b:=0) (o:=0) (xm xd) (by omega) (λY _=>run_firstCells_none Y _ _ _ _) .nil xc (by simp) xe (by unfold Hs at xi;grind) (xJ (by rw[G.HG,Aa.G5];omega));simpa[Lz]using this
 .rename_i xh U c xw E
  obtain⟨xi,xb⟩:=En xg
  have x9:=Aii xi
  subst x9
  cases W:Bb l 0 with
  |true=>
   have:=Aii W;subst this;rw[W]at xb;cases xb
   rcases Jp R with⟨h,J,_,xK,_,_,rfl⟩|⟨xv,rfl,_,rfl⟩;.exact⟨_,w,v,P,R,.refl Q⟩
   .exact⟨_,w,v,P,R,.refl Q⟩
  |false=>
   rw[W]at xb;have xd:=AjV W;obtain⟨xj,N⟩:=En xb;have xj:=Aim xj;unfold Hs at xj;split at N;.grind
   .rename_i xq xA;obtain⟨yf,x0⟩:=m_ R;have xr:∃xr:C Bl,BJ v xq xr/\xq.l=c*E/\∀(I:Aj Addr)(H:D),X=.slice I c H->∀Y:BH,Y.heap=w.heap->(Builtin.firstCells i.size c X).run u Y=.ok xr.a Y:=by
     cases xC:Bb c 0 with
     |true=>
      have:=Aii xC;subst this;rw[xC]at xA;cases xA
      refine⟨[],.nil,by simp,λI H M Y _=> ?_⟩;subst M;cases I<;>simp[Builtin.firstCells,loadCells,loadCellsFrom]
     |false=>
      rw[xC]at xA;have x3:=AjV xC;rcases Jp R with⟨h,J,T,_,_,_,rfl⟩|⟨xv,xI,_,rfl⟩;.obtain⟨xV,Z,xa,xn,xU⟩:=d_ (u:=u) Q xA T;refine⟨xV,Z,xa,λI H M Y x8=> ?_⟩;simpa[Builtin.firstCells,d]using xn Y x8
      omega
    obtain⟨xr,xS,xz,yj⟩:=xr;unfold T0 at N;split at N
    ·
     rename_i xE;obtain⟨xG,xZ⟩:=En N;cases xZ
     have xy:v y.next=O:=xJ (by rw[G.HG,Aa.G5,G.UD];omega);obtain⟨xB,V,xP⟩:∃xB V,y.N xh=A (.I xB V):=by
      unfold Y2 at xG;split at xG;.rename_i xB V e;exact⟨xB,V,e⟩
      .cases xG
     have yo:∀{I:Aj Addr}{H:D},X=.slice I c H->H<c+l->∃n x S,(Builtin.append_ s m #[X,xu]).run u w=.ok n x/\VR S (.Z y.next 0 (c+l) 0 E) n/\Fin v y w S ((y.Hg xh).V (.I ((c+l)*E) (EK xq xo))) x:=by intro I H M xl;have xR:=Fin.Hg Q x0;obtain⟨n,x,S,Z,xa,xn⟩:=aI (m:=m) (j:=E) (g:=g) q p r k d z0 f z2 z1 xR.hr (M:=I) (b:=c) (o:=H) (xm xd) xl P xS xc xz xe xj xy;exact⟨n,x,S,by rw[M];exact Z,xa,xR.AQ xn⟩
     rcases Jp R with⟨h,J,T,xK,_,xT,M⟩|⟨xv,xI,_,M⟩
     .by_cases xf:c+l<=J
      .have xQ:=Q.BB xh _ h xP T;have x4:(c+l)*E<=J*E:=AjH _ xf;rw[Aje]at x4;obtain⟨x,xN,xY,yd,x2,Z,xa,xn,xU,yl,ym,yn,yb,yc,ya⟩:=qx (u:=u) xQ (c:=h.sh+U+c*E) (l:=xp) (by rw[xc.length,xe];omega) xO;refine⟨_,x,v.Cf y.next ⟨h.r,h.sh+U,h.sz⟩,by rw[M];exact(fm (m:=m) (h:=⟨h.r,h.sh+U,O⟩) (c:=c) (o:=J) q p r k (xm xd) xf (by rw[d,Nh];exact Z)),?_,?_⟩;.simpa using(VR.Z (a:=v.Cf y.next ⟨h.r,h.sh+U,h.sz⟩) y.next 0 (c+l) 0 E ⟨h.r,h.sh+U,h.sz⟩ J (A0.Ia _ _ _) xf Om (by omega))
       .refine Fin.uX Q xy xP B T B ?_ yb yc ya;refine⟨by rw[Lz,Aio,xz,xe,Aje],by grind,xN,xY,yd,x2,xa,xn,xU,λxL xt xk=> ?_⟩;show∃n,xN[h.sh+U+xL]? =A n/\_;rw[Lz]at xk;by_cases yi:xL<c*E
        .rw[Ajo (by omega)]at xk;have x3:c≠0:=by grind
         have x6:y.AU xh U (c*E)=A xq:=by grind
         obtain⟨xV,ye,_⟩:=d_ (u:=u) Q x6 T;obtain⟨n,xX,xF⟩:=ye.N xk;obtain⟨_⟩:=xQ;refine⟨n,?_,xF.Av (A0.Lg _ xy)⟩;grind
        .rw[Ajx (by omega),xz]at xk;obtain⟨n,xX,xF⟩:=xc.N xk;have xl:xL-c*E<xp.l:=by grind
         refine⟨n,?_,xF.Av (A0.Lg _ xy)⟩;grind
      grind
     grind
    ·
     rename_i xE
     cases xs:Co (c+l) xE with
     |true=>
      rw[xs]at N;have xf:=Aim xs;have N:=N;split at N
      .rename_i yh x7;cases N
       rcases Jp R with⟨h,J,T,xK,xx,xT,M⟩|⟨xv,xI,xx,M⟩
       .have x1:J=xE:=by rcases xx with xH|xH<;>omega
        subst x1;obtain⟨x,Z,xa⟩:=e0 (v:=u) Q x7 T xc xe xO;have yk:=fm (m:=m) (h:=⟨h.r,h.sh+U,O⟩) (c:=c) (o:=J) q p r k (xm xd) xf (G:=x) (by rw[d,<-Z,Nh,Ajk]);exact⟨_,x,v,by grind,.Z xh U (c+l) (J+1) E h J T xf Om xT,xa⟩
       omega
      grind
     |false=>
      rw[xs]at N;cases N
      have xl:=Nat.lt_of_not_le λxH=>by rw[Air xH]at xs;cases xs
      have yg:∀{I:Aj Addr}{H:D},X=.slice I c H->H<c+l->∃n x S,(Builtin.append_ s m #[X,xu]).run u w=.ok n x/\VR S (.Z y.next 0 (c+l) 0 E) n/\Fin v y w S (y.V (.I ((c+l)*E) (EK xq xo))) x:=by intro I H M xl;obtain⟨_⟩:=aI (m:=m) (j:=E) (g:=g) q p r k d z0 f z2 z1 Q (M:=I) (b:=c) (o:=H) (xm xd) xl P xS xc xz xe xj (xJ (by rw[G.HG,Aa.G5];omega):v y.next=O);grind
      rcases Jp R with⟨h,J,T,xK,xx,_,M⟩|⟨xv,xI,xx,M⟩<;>grind
 grind
end
end
