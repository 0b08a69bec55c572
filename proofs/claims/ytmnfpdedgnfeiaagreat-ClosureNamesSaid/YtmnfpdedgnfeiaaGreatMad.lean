/- Part of the proof. -/
import Derived.LoopN
import Derived.Orders
import Derived.Test.YtmnfpdedgnfeiaaGreatMac
set_option linter.all false
noncomputable section
open Option renaming some->A,none->O,getD->Option.g,bind->Option.b
open _root_ renaming rfl->B,List->C,Nat->D,Int->K,if_neg->Ad,if_pos->Af,Option->Aj,Bool->Ak,cond->An,absurd->A_,Array->Br
open Bool renaming true->L,false->Ac
open Nat renaming beq->Bb,ble->Co,le_refl->C6
open Go renaming Value->Bl,World->BH,TypeId->B9
open List renaming replicate->Bv,length->List.l,map->List.m,take->List.t,drop->List.d,toArray->List.a,flatMap->List.f
open Go.IntKind renaming i64->Go.IntKind.n
open Array renaming toList->Array.l,size->Array.z
open Eq renaming trans->Eq.t,symm->Eq.s
open Or renaming inl->Or.i,inr->Or.j
open Int renaming toNat->Int.n
namespace Go.Fg
section
variable{u:Program} {t:A0} {s:Fm} {a:Act} {y:G} {w:BH}
theorem Fin.nV{m:A0}{g h:G}{l:BH}(b:Fin t y w m g l)(x:∀k,h.N k=g.N k)(i:h.next=g.next):Fin t y w m h l where
 ext:=b.ext
 Gl c d e:=by rw[i];exact b.Gl c d e
 hr:={
  E4:=b.hr.E4
  Fw:=λc j f H E F d=>b.hr.Fw c j f H E F (by grind)
  BB:=λc j f d e=>b.hr.BB c j f (by grind) e
  C3:=λp q n o d e=>b.hr.C3 p q n o (by grind) (by grind)
  lt:=b.hr.lt
  Fq:=λc I=>by rw[i];exact b.hr.Fq c (by grind)}
 up:=by rw[i];exact b.up
 EN:=b.EN
 F8:=b.F8
 GM c f d e r:=b.GM c f d (by grind) r
 HP:=b.HP
 GH c d e:=by rw[x];exact b.GH c d e
 Aw:=b.Aw
theorem hO(v:HR t y w){j c:D}{p:F}{M:Bl}{o:C F}(g:HO y j c p=A o)(i:VR t p M):∃h,BJ t o h/\o.l=c*j/\(∀d,d.heap=w.heap->(Builtin.firstCells j c M).run u d=.ok h.a d):=by
 unfold HO at g;split at g
 .rename_i r xe xd E xa
  obtain⟨b,e⟩:=En g
  simp only[Aie]at b
  have n:=Aii b.1
  subst n
  cases f:Bb c 0 with
  |true=>
   rw[f]at e;have:=Aii f;subst this;cases e
   refine⟨[],.nil,by simp,λd _=> ?_⟩;rcases Jp i with⟨N,P,_,_,_,_,rfl⟩|⟨q,_,_,rfl⟩<;>simp[Builtin.firstCells,loadCells,loadCellsFrom]
  |false=>
   rw[f]at e;rcases Jp i with⟨N,P,U,_,_,_,rfl⟩|⟨q,T,_,rfl⟩;.obtain⟨h,Q,R,S,_⟩:=d_ v e U;exact⟨h,Q,R,λd m=>by simpa[Builtin.firstCells]using S d m⟩
   .have:=Aim b.2;subst T;have:c=0:=by omega
    subst this;cases f
 .obtain⟨b,e⟩:=En g;cases e
  have:=Aii b;subst this;have:=Lp i;subst this;exact⟨[],.nil,by simp,λd _=>by simp[Builtin.firstCells]⟩
 .rename_i xi;obtain⟨b,e⟩:=En g;simp only[Aie]at b;have n:=Aii b.1;have f:=Aim b.2;subst n;cases e
  obtain⟨x,V,rfl⟩:=PU i;subst V;rw[Aiw,Ajf]at f;refine⟨(x.data.l.t c).m λr=>Value.int .u8 r.toNat,?_,?_,λd _=> ?_⟩
  .rw[Ra,Aja,<-List.map_take]
   generalize x.data.l.t c=J
   induction J with
   |nil=>exact .nil
   |cons p J W=>exact .cons _ _ _ _ (.i _ _) W
  .rw[Ra,AiH,Aiw,Aiw,Ajf];omega
  .simp only[Builtin.firstCells,Sem.run_pure];congr 1;apply Aj4;simp[]
 .rename_i G;obtain⟨b,e⟩:=En g;cases e
  simp only[Aie]at b;have f:=Aim b.1;have H:(G.t c).flatten.l=c*j:=by rw[RZ (λk l=>(λk l=>Aii (AiP.1 b.2 k l)) k (Akg l)),AiH,AjT f]
  rcases S9 i with⟨xc,xh,xj,xb,xa,E,Y,Z,xf,xg,rfl⟩|⟨rfl,q,E,rfl⟩|⟨rfl,rfl⟩;.obtain⟨h,X,I⟩:=jf v Y (AjF (b3 G c) Z);rw[H]at I;exact⟨h,X,H,λd m=>by simpa[Builtin.firstCells]using I d m⟩
  .have:c=0:=by grind
   subst this;exact⟨[],.nil,by simp,λd _=>by simp[Builtin.firstCells,loadCells,loadCellsFrom]⟩
  .have:c=0:=by grind
   subst this;exact⟨[],.nil,by simp,λd _=>by simp[Builtin.firstCells]⟩
 grind
theorem Gj{b c:Ak}(d:An b c Ac=L):b=L/\c=L:=by grind
theorem hn:∀{d:C BL}{f:C MapEntry}{e:D}{b:BL},Gf t d f->d[e]? =A b->∃c,f[e]? =A c/\VR t b.HS c.key/\VR t b.Dv c.val/\b.Nm=c.born
 |[],_,e,b,_,g=>by grind
 |j::d,_,0,b,h,g=>by
  cases h
  grind
 |j::d,_,e+1,b,h,g=>by
  cases h
  rename_i c f k l m i;obtain⟨_⟩:=hn i g;grind
theorem ho{h:MapEntry->MapEntry}:∀{e:C BL}{f:C MapEntry} d,Gf t e f->(∀b c,e[d]? =A b->f[d]? =A c->VR t b.HS (h c).key/\VR t b.Dv (h c).val/\b.Nm=(h c).born)->Gf t e (f.modify d h)
 |[],_,d,g,_=>by cases g;simp;exact .nil
 |b::e,_,0,g,m=>by
  cases g
  rename_i c f j k l i;obtain⟨n,o,p⟩:=m b c (by simp) (by simp);exact .cons _ _ _ _ n o p i
 |b::e,_,d+1,g,m=>by
  cases g
  rename_i c f j k l i;exact .cons _ _ _ _ j k l (ho d i P)
theorem X6{g:Br B9}{r E i:B9}{p:TypeInfo}{b:Aj Addr}{c x d:D}{f:Bl}{q:C Bl}{e:BH}(j:g[0]? =A r)(o:u.underlying r=A (.slice i))(l:u.info? i=A p)(m:(Builtin.lenOf f).run u w=.ok d w)(k:(Builtin.firstCells p.size (min d c) f).run u w=.ok q.a w)(n:match b with|none=>e=w|some h=>(storeCells h q).run u w=.ok () e):(Builtin.copy_ g E #[.slice b c x,f]).run u w=.ok (.int .n (min d c:D)) e:=by
 cases b with
 |none=>subst n;simp[Builtin.copy_,j,run_underlying o,m,sizeOf,typeInfo,l,k,goInt]
 |some h=>simp[Builtin.copy_,j,run_underlying o,m,sizeOf,typeInfo,l,k,n,goInt]
theorem eR{b:Br Operand}{c d:Operand}(e:b.l=[c,d]):b= #[c,d]:=by grind
theorem XM(z:TR t s a){c:C Operand}{i:C Od}{g h:F}(k:D6 c=A i)(j:A3 s i=[g,h]):∃d e,c=[d,e]/\VR t g (a.eval d)/\VR t h (a.eval e):=by
 have f:=Pz z k
 rw[j]at f
 obtain⟨l,m,b,_⟩:=eW f
 match c,b with
 |[d,e],b=>grind
 |[],b=>grind
 |[_],b=>grind
 |_::_::_::_,b=>grind
variable(z:TR t s a) (v:HR t y w)
theorem q4(z:TR t s a)(v:HR t y w){l:Oper}{c:Call}{Q n f:B9}{m:TypeDesc}{e d:D}{T:F}{S:C Od}{R:F}{h:G}(xd:l.op=.call c)(Y:c.callee=.builtin .append)(o:c.argTypes[0]? =A Q)(N:u.underlying Q=A (.slice f))(xb:sz u f=A d)(W:Qd u f=A e)(xi:Lt u f=A T)(J:QR d e=L)(g:Bb (BK T.I) d=L)(p:c.argTypes[1]? =A n)(q:u.underlying n=A m)(r:∀xl,m≠.int xl)(Z:y.next.num<h.next.num->t y.next=O)(xh:D6 c.args.l=A S)(b:Eo d e y (A3 s S)=A (R,h)):PZ u t y w l a R h:=by
 unfold Eo at b;split at b
 .rename_i xE xG U;obtain⟨xC,xD,xe,V,i⟩:=XM z xh U;obtain⟨xk,j,M⟩:=R7 xb;have X:xk.bytes=e:=by unfold Qd at W;grind
  obtain⟨xy,xt,E,xj,xg⟩:=Rm (u:=t) xi;rw[j]at E;cases E;have g:=Aii g;rw[HE]at g;unfold QR at J;simp only[Aie]at J;have xf:xt.cells.z=d:=by rw[<-g,<-(Rh xg).length];simp
  split at b
  .rename_i xA H;split at b
   .rename_i xB xc;obtain⟨x,b⟩:=En b;rw[EC]at x;obtain⟨xo,k,xm,xn⟩:=hO v xc i;obtain⟨xs,xu,xv,xp,xq,xr⟩:=fo (m:=l.type) o N j xj M X (Aim P) (Aim P) xf v V k xm (XR k x)
     (λI xw xz xx xa=>fl o N j xa p q (.j ⟨r,by rw[<-I];exact c_ H i,by
      subst I;have:xo=[]:=by have:=k.length;grind
      subst this;rw[M];simpa using xn w B⟩))
     (λ_=>.I n p m q r (λxF=>c_ H i) P)
     Z b
    refine⟨xs,xu,xv,.i ?_,xq,xr⟩;unfold execOp;simp only[xd,resolve,invoke,builtin,Y,(eR xe),Sem.run_bind,Sem.run_pure,Result.andThen_ok,Akk,Ai9,List.map_nil,xp]
   grind
  grind
 grind
theorem q5(z:TR t s a)(v:HR t y w){p:Oper}{e:Call}{T q i:B9}{R:IntKind}{d c:D}{l:F}{V:C Od}{U:F}{m:G}(xi:p.op=.call e)(xb:e.callee=.builtin .append)(r:e.argTypes[0]? =A T)(Q:u.underlying T=A (.slice i))(xg:sz u i=A c)(o:Qd u i=A d)(xn:Lt u i=A l)(k:QR c d=L)(h:Bb (BK l.I) c=L)(x:e.argTypes[1]? =A q)(E:u.underlying q=A (.int R))(xc:y.next.num<m.next.num->t y.next=O)(xm:D6 e.args.l=A V)(g:HL l.I c d y (A3 s V)=A (U,m)):PZ u t y w p a U m:=by
 unfold HL at g;split at g
 .rename_i xF xq b W;obtain⟨xD,xE,xj,Y,Z⟩:=XM z xm W;obtain⟨xp,j,N⟩:=R7 xg;have xa:xp.bytes=d:=by unfold Qd at o;rw[j]at o;cases o;rfl
  obtain⟨xB,xw,M,xo,xl⟩:=Rm (u:=t) xn;rw[j]at M;cases M;have J:=Rh xl;have h:=Aii h;rw[HE]at h;unfold QR at k;simp only[Aie]at k;have xh:=Aim k.1.1;have I:=Aim k.1.2;have xk:xw.cells.z=c:=by rw[<-h,<-J.length];simp
  obtain⟨f,g⟩:=En g;obtain⟨f,H⟩:=Gj f;have f:=Aim f;unfold Hs at f;rw[EC]at H;have X:=Jo Z;have xf:b<=100000000000:=by have:b*1<=b*d:=AjU _ I;omega
  have S:=e4 J (by omega) b;have xr:(GG l.I b).l=b*c:=by rw[SW,h]
  obtain⟨xv,xx,xy,xs,xt,xu⟩:=fo (m:=p.type) r Q j xo N xa I xh xk v Y S xr (XR S H)
   (λxe xz xC xA xd=>fl r Q j xd x E P)
   (λxe=>.e3 q R xq x E X xf (by grind) (by
    rw[N];intro n;rcases Akh.1 n with n|n<;>omega) (by
    apply Aj4;simp[Builtin.zeroCells]))
   xc g
  refine⟨xv,xx,xy,.i ?_,xt,xu⟩;unfold execOp;simp only[xi,resolve,invoke,builtin,xb,(eR xj),Sem.run_bind,Sem.run_pure,Result.andThen_ok,Akk,Ai9,List.map_nil,xs]
 grind
theorem q6(z:TR t s a)(v:HR t y w){n:Oper}{e:Call}{W M:B9}{H:D}{Y:C Od}{X:F}{J:G}(xk:n.op=.call e)(xe:e.callee=.builtin .copy)(i:e.argTypes[0]? =A W)(l:u.underlying W=A (.slice M))(xh:sz u M=A H)(xx:Co 1 H=L)(xn:D6 e.args.l=A Y)(b:G1 H y (A3 s Y)=A (X,J)):PZ u t y w n a X J:=by
 unfold G1 at b;split at b
 .rename_i xv xC xc;obtain⟨xs,V,xl,p,N⟩:=XM z xn xc;obtain⟨xz,j,r⟩:=R7 xh;split at b
  .rename_i xo d T xg;split at b
   .rename_i xA xi;obtain⟨S,b⟩:=En b;rw[EC]at S;obtain⟨xr,E,U,f⟩:=hO (u:=u) v xi N;have k:(Builtin.lenOf (a.eval V)).run u w=.ok d w:=c_ xg N;have f:=f w B;have h:∀{I:Bl}{g:BH},(Builtin.copy_ e.argTypes n.type #[a.eval xs,a.eval V]).run u w=.ok I g->(execOp a.eval n).run u w=.ok (.value I) g:=by intro I g xd;unfold execOp;simp only[xk,resolve,invoke,builtin,xe,(eR xl),Sem.run_bind,Sem.run_pure,Result.andThen_ok,Akk,Ai9,List.map_nil,xd]
    unfold RJ at b;split at b
    .rename_i xt xB m xu xD _
     obtain⟨x,b⟩:=En b
     have x:=Aii x
     subst x
     obtain rfl:m=xo:=AiI T
     cases o:Bb (min d m) 0 with
     |true=>
      have q:=Aii o;rw[o]at b;cases b
      have xj:xr=[]:=by have:=E.length;rw[U,q]at this;exact Aj3 (by simpa using this)
      subst xj;rcases Jp p with⟨Z,xb,R,xf,_,_,c⟩|⟨xa,Q,_,c⟩;.refine⟨.int .n (min d m:D),w,t,.i (h ?_),by rw[q];exact .i _ _,.refl v⟩;rw[c];exact X6 i l j k (by rw[r];exact f) (by simp[storeCells])
      .subst Q;refine⟨.int .n (min d 0:D),w,t,.i (h ?_),by rw[q];exact .i _ _,.refl v⟩;rw[c];exact X6 i l j k (by rw[r];exact f) (by simp[storeCells])
     |false=>
      rw[o]at b;split at b
      .rename_i xw xm;cases b
       have xy:=AjV o;rcases Jp p with⟨Z,xb,R,xf,_,_,c⟩|⟨xa,Q,_,c⟩;.obtain⟨g,xp,xq⟩:=e0 v xm R E U (XR E S);refine⟨.int .n (min d m:D),g,t,.i (h ?_),.i _ _,xq⟩;rw[c];exact X6 i l j k (by grind) xp
       omega
      .cases b
    .cases b
     cases T
     refine⟨.int .n (min d 0:D),w,t,.i (h ?_),by rw[Nat.min_zero];exact .i _ _,.refl v⟩;rw[(Lp p)];exact X6 i l j k (by rw[r];exact f) B
    grind
   grind
  grind
 grind
theorem q8(z:TR t s a)(v:HR t y w){H:Oper}{g Z R:B9}{xa c:Operand}{Q:Ak}{Y:C D}{xg:F}{xf:C Od}{xd:F}{P:G}(xA:H.op=.mapEntry g xa c)(V:u.underlying g=A (.map Z R))(xr:Lt u R=A xg)(l:Pe u Z=A (Q,Y))(xq:D6 [xa,c]=A xf)(d:Hw Q Y xg y (A3 s xf)=A (xd,P)):PZ u t y w H a xd P:=by
 obtain⟨xC,xe,xm,xs,W⟩:=Rm xr;unfold Hw at d;split at d
 .rename_i xw xD S;obtain⟨xE,J,xn,xl,b⟩:=XM z xq S;obtain⟨rfl,rfl⟩:=xn;obtain⟨e,r,xH⟩:=U5 xl;split at d
  .rename_i xk i m;obtain⟨q,j,k⟩:=UA v (di m) r;have T:∀{h:Bl}{N:BH},(Instr.mapEntry g (.map (A e.r)) (a.eval c)).run u w=.ok h N->(execOp a.eval H).run u w=.ok (.value h) N:=by intro h N n;simp[execOp, *]
   split at d
   .rename_i xB xj x
    cases d
    obtain⟨E,f⟩:=TT x
    obtain⟨M,I,o⟩:=Yx w l b k f
    cases M with
    |none=>cases o
    |some J=>
     obtain⟨X,h⟩:=J;obtain⟨rfl,_,xF,p,xt,xG,xv,xb,xc⟩:=o;have xu:q[X]? =A p:=by simpa using xt
     have n:(Instr.mapEntry g (.map (A e.r)) (a.eval c)).run u w=.ok (.tuple #[h,goInt p.born]) {w with heap:=w.heap.setIfInBounds e.r (.map (q.modify X λxi=>{xi with key:=a.eval c}) i)}:=by simp[Instr.mapEntry,run_underlying V,PK j,Y3 l b Ac E,I,setObj,Sem.run,j,xu,Instr.keyThatStays,(l6 (VK f) b xc)]
     refine⟨_,_,t,.i (T n),.AC _ _ (.cons _ _ _ _ xv (.cons _ _ _ _ (by rw[xb];exact .i _ _) .nil)),?_⟩;refine(Wt v m r (g:=xk) ?_).nV (λxh=> ?_) B
     .rw[Aki];refine ho _ k λxx xy S xz=> ?_;have xo:xx=xj:=by grind
      have xp:xy=p:=by grind
      subst xo xp;exact⟨m8 (VK f) b xc,by grind,xb.s⟩
     .by_cases U:xh=xw;.subst U;rw[G.O9];exact Zj m
      .rw[G.IH _ _ U]
   .rename_i x
    cases d
    obtain⟨E,f⟩:=TT x
    obtain⟨M,I,o⟩:=Yx w l b k f
    cases M with
    |some J=>cases o
    |none=>
     have n:(Instr.mapEntry g (.map (A e.r)) (a.eval c)).run u w=.ok (.tuple #[xe,goInt i]) {w with heap:=w.heap.setIfInBounds e.r (.map (q.push {key:=a.eval c,val:=xe,born:=i}) (i+1))}:=by simp[Instr.mapEntry,run_underlying V,PK j,Y3 l b Ac E,I,setObj,Sem.run,j,zeroValue,typeInfo,xm,xs]
     refine⟨_,_,t,.i (T n),.AC _ _ (.cons _ _ _ _ W (.cons _ _ _ _ (.i _ _) .nil)),Wt v m r ?_⟩;rw[Array.toList_push];exact bH b W B k
   grind
  grind
 grind
theorem oZ(c:D)(d:BL)(e:C BL)(b:D):Qc c (d::e) b=An (Bb d.Nm c) (A b) (Qc c e (b+1)):=rfl
theorem fU{i:D}:∀{g:C BL}{h:C MapEntry}{c d:D},Gf t g h->Qc i g c=A d->c<=d/\h.findIdx? (λf=>f.born==(i:K))=A (d-c)
 |[],_,_,_,_,b=>by cases b
 |f::g,_,c,d,k,b=>by
  cases k
  rename_i m h n o j l
  rw[oZ]at b
  cases e:Bb f.Nm i with
  |true=>
   rw[e]at b;cases b
   refine⟨Om,?_⟩;rw[List.findIdx?_cons];simp[<-j,(Aii e)]
  |false=>rw[e]at b;have p:=AjV e;obtain⟨q,r⟩:=fU l b;grind
theorem q7(z:TR t s a)(v:HR t y w){l:Oper}{M:B9}{I m f:Operand}{P:C Od}{N:F}{n:G}(xb:l.op=.entryStore M I m f)(X:D6 [I,m,f]=A P)(e:HM y (A3 s P)=A (N,n)):PZ u t y w l a N n:=by
 obtain⟨xg,xh,xi,R,S,T,rfl⟩:=dH X;have q:=GQ z R;have r:=GQ z S;unfold HM at e;split at e
 .rename_i xj xd Q xk c;injection c with c d;injection d with d h;injection h with h _;subst h;rw[c]at q;rw[d]at r;obtain⟨g,x,xl⟩:=U5 q;split at e
  .rename_i xa o E;obtain⟨i,p,j⟩:=UA v (di E) x;split at e
   .rename_i k W;cases e
    obtain⟨xe,H⟩:=fU j W;have V:i.findIdx? (λb=>b.born==(Q:K))=A k:=by rw[Nat.sub_zero]at H;rw[<-H,<-List.findIdx?_toArray,Array.toArray_toList]
    have xc:(Instr.entryStore M (.map (A g.r)) (a.eval m) (a.eval f)).run u w=.ok () {w with heap:=w.heap.setIfInBounds g.r (.map (i.modify k λb=>{b with val:=a.eval f}) o)}:=by simp[Instr.entryStore,PK p,(Jo r),asInt,asIntOf,V,setObj,Sem.run,p]
    have U:(execOp a.eval l).run u w=.ok .skip {w with heap:=w.heap.setIfInBounds g.r (.map (i.modify k λb=>{b with val:=a.eval f}) o)}:=by simp[execOp, *]
    refine⟨undef,_,t,.j ⟨U,B⟩,S_ t,Wt v E x ?_⟩;rw[Aki];refine bG _ j λxm xn c d=> ?_;obtain⟨xo,J,Y,xf,Z⟩:=hn j c;rw[d]at J;cases J
    exact⟨Y,(GQ z T),Z⟩
   grind
  grind
 grind
theorem q9(z:TR t s a)(v:HR t y w){J:Oper}{P:Ef}{W:C Od}{V:F}{x:G}(b:Es u J=A (.ef P W))(S:y.next.num<x.next.num->t y.next=O)(j:P.ev (A3 s W) y=A (V,x)):PZ u t y w J a V x:=by
 unfold Es at b;cases g:J.op<;>rw[g]at b<;>simp only[]at b
 case store h Z n=>
  split at b;.rename_i Y k;obtain⟨f,d,c⟩:=KH b;cases c;exact q_ z v g k d j
  .cases b
 case mapUpdate h r I n=>
  split at b
  .rename_i U N l;split at b;.rename_i M T m;obtain⟨f,d,c⟩:=KH b;cases c;exact gR z v (.i g) l m d j
   .cases b
  .cases b
 case insert h r I n=>
  split at b
  .rename_i U N l;split at b;.rename_i M T m;obtain⟨f,d,c⟩:=KH b;cases c;exact gR z v (.j g) l m d j
   .cases b
  .cases b
 case mapEntry h r I=>
  split at b
  .rename_i U N l;split at b;.rename_i xa M T q m;obtain⟨f,d,c⟩:=KH b;cases c;exact q8 z v g l q m d j
   .cases b
  .cases b
 case entryStore h r xj n=>obtain⟨f,d,c⟩:=KH b;cases c;exact q7 z v g d j
 case call xd=>
  unfold TG at b;split at b;.split at b<;>cases b
  .cases b
  .rename_i xc H;split at b;case h_4 h o=>
    split at b
    .rename_i c p;split at b
     .rename_i r xb xa k R q;split at b
      .rename_i i;have i:=Bool.and_eq_true_iff.1 i;split at b;.cases b
       .rename_i xl Q;split at b;.rename_i I E;obtain⟨f,d,c⟩:=KH b;cases c;exact q5 z v g H o p k R q i.1 i.2 Q E S d j
        .rename_i xk E X;obtain⟨f,d,c⟩:=KH b;cases c;exact q4 z v g H o p k R q i.1 i.2 Q X (E) S d j
        .cases b
      .cases b
     .cases b
    .cases b
   case h_5 h o=>
    split at b
    .rename_i c p;split at b
     .rename_i Y k;split at b;.rename_i i;obtain⟨f,d,c⟩:=KH b;cases c;exact q6 z v g H o p k i d j
      .cases b
     .cases b
    .cases b
   all_goals(exfalso;revert b;repeat' split)
   all_goals first
    |(intro e;cases e;done)
    |(intro e;obtain⟨f,d,c⟩:=Gt e;cases c;done)
    |(intro e;obtain⟨f,d,c⟩:=Ku e;cases c;done)
 case binOp xh h n Z xm=>
  exfalso
  unfold RM at b
  revert b
  repeat' split
  all_goals first
   |(intro e;cases e;done)
   |(intro e;obtain⟨f,d,c⟩:=Gt e;cases c;done)
   |(intro e;obtain⟨f,d,c⟩:=Ku e;cases c;done)
 case makeMap h xi=>grind
 case slice h n xf xe xg=>grind
 all_goals(exfalso;revert b;repeat' split)
 all_goals first
  |(intro e;cases e;done)
  |(intro e;obtain⟨f,d,c⟩:=Gt e;cases c;done)
  |(intro e;obtain⟨_⟩:=Ku e;grind)
  |(intro e;obtain⟨_⟩:=Rx e;grind)
end
structure J1(b c:G):Prop where
 next:c.next=b.next
 I:∀a,Eg (c.N a)=Eg (b.N a)
 Wu:∀a,Ir (c.N a)=Ir (b.N a)
theorem J1.refl(a:G):J1 a a:=⟨B,P,P⟩
theorem J1.AQ{d e f:G}(b:J1 d e)(c:J1 e f):J1 d f:=⟨c.next.t b.next,λa=>(c.I a).t (b.I a),λa=>(c.Wu a).t (b.Wu a)⟩
theorem J1.rc{c:G}{a:Aa}{f:D}{e:C F}(h:Eg (c.N a)=A (f,e)):J1 c (c.set a (.rc f e)):=by
 have d:c.N a=A (.I f e)\/c.N a=A (.rc f e):=by unfold Eg at h;grind
 refine⟨B,λg=> ?_,λg=> ?_⟩
 .by_cases b:g=a;.subst b;rw[G.O9,h];rfl
  .rw[G.IH _ _ b]
 .by_cases b:g=a;.subst b;rw[G.O9];rcases d with d|d<;>rw[d]<;>rfl
  .rw[G.IH _ _ b]
theorem J1.rm{e:G}{c:Aa}{f:C BL}{a:D}(g:Ir (e.N c)=A (f,a)):J1 e (e.set c (.rm f a)):=by
 have d:=ki g;refine⟨B,λa=> ?_,λa=> ?_⟩
 .by_cases b:a=c;.subst b;rw[G.O9];rcases d with d|d<;>rw[d]<;>rfl
  .rw[G.IH _ _ b]
 .by_cases b:a=c;.subst b;rw[G.O9,g];rfl
  .rw[G.IH _ _ b]
theorem h2(b:G->F->Aj (F×G))(a:G):Df b a []=A ([],a):=rfl
theorem h1{a:G->F->Aj (F×G)}{b:G}{h:F}{i f:C F}{c:G}(j:Df a b (h::i)=A (f,c)):∃e d g,a b h=A (e,d)/\Df a d i=A (g,c)/\f=e::g:=by unfold Df at j;grind
theorem Ml{e:G->F->Aj (F×G)}(f:∀a i h b,e a i=A (h,b)->J1 a b):∀{g:C F}{a:G}{d:C F}{b:G},Df e a g=A (d,b)->J1 a b/\d.l=g.l
 |[],a,d,b,c=>by rw[h2]at c;cases c;exact⟨.refl _,B⟩
 |i::p,a,d,b,c=>by obtain⟨h,m,o,j,k,rfl⟩:=h1 c;obtain⟨l,n⟩:=Ml f k;exact⟨(f _ _ _ _ j).AQ l,by grind⟩
theorem R0:∀g e l k f,DI g e l=A (k,f)->J1 e f
 |0,_,_,_,_,a=>by cases a
 |g+1,e,l,k,f,a=>by
  have d:=R0 g;unfold DI at a;split at a
  .split at a
   .rename_i i;split at a;.rename_i b;cases a;obtain⟨c,_⟩:=Ml d b;exact c.AQ (.rc (by rw[c.I];omega))
    grind
   grind
  .rename_i n _ _
   cases h:Bb n 0 with
   |true=>rw[h]at a;cases a;exact .refl _
   |false=>
    rw[h]at a;split at a
    .rename_i i;obtain⟨_,a⟩:=En a;split at a;.rename_i b;cases a;obtain⟨c,_⟩:=Ml d b;exact c.AQ (.rc (by rw[c.I];omega))
     grind
    grind
  .split at a
   .rename_i i;split at a
    .rename_i b;split at a;.rename_i m;cases a;obtain⟨c,_⟩:=Ml d b;obtain⟨j,_⟩:=Ml d m;exact(c.AQ j).AQ (.rm (by rw[(c.AQ j).Wu];omega))
     grind
    grind
   grind
  .cases a;exact .refl _
  .cases a;exact .refl _
  .split at a;.rename_i b;cases a;exact(Ml d b).1
   grind
  .split at a;.rename_i b;cases a;exact(Ml d b).1
   grind
  .split at a;.rename_i b;cases a;exact(Ml d b).1
   grind
  .grind
  .cases a;exact .refl _
section
variable{v:Program} {t:A0} {u:G} {w:BH}
def A0.add(t:A0)(f:IB)(d e:D):A0:=⟨t.m,λc a b=>t.im c a b\/(c=f/\a=d/\b=e)⟩
theorem A0.Wi(t:A0)(d:IB)(b c:D):t.le (t.add d b c):=⟨λ_ _ a=>a,λ_ _ _ a=>.i a⟩
theorem A0.aD(t:A0)(c:IB)(a b:D):(t.add c a b).im c a b:=.j ⟨B,B,B⟩
theorem Fin.b5(i:HR t u w){e:Aa}{r M:Ce}{d:FE}{k:IB}{j:D}(Q:u.N e=A M)(y:t e=A d)(S:r.Wn=Ac)(F:BR t r d w)(J:BI t.FH k d.r j w):Fin t u w (t.add k d.r j) (u.set e r) w where
 ext:=t.Wi k d.r j
 Gl a o p:=A_ o p
 hr:={
  E4:=λm n l g=>by
   rcases g with g|⟨rfl,rfl,rfl⟩;.exact(i.E4 m n l g).Av (t.Wi k d.r j).FH B
   .exact J.Av (t.Wi m d.r l).FH B
  Fw:=λa q h m n l c H f g=>by
   have b:a≠e:=λb=>by subst b;rw[G.O9]at c;grind
   rw[G.IH _ _ b]at c;rcases g with g|⟨rfl,rfl,rfl⟩;.exact i.Fw a q h m n l c H f g
   .intro N;exact b (i.C3 a e h d (by grind) (by grind) f y Om)
  BB:=λa q h c f=>by
   by_cases b:a=e;.subst b;rw[G.O9]at c;cases c;have f:t a=A h:=f;rw[y]at f;cases f;exact F.Av (t.Wi k d.r j) B
   .rw[G.IH _ _ b]at c;exact(i.BB a q h c f).Av (t.Wi k d.r j) B
  C3:=λs x z E o p=>i.C3 s x z E (by
   by_cases b:s=e;.grind
   .rwa[G.IH _ _ b]at o) (by
   by_cases b:x=e;.grind
   .rwa[G.IH _ _ b]at p)
  lt:=i.lt
  Fq:=λa c=>by
   rw[G.M5];refine i.Fq a ?_;by_cases b:a=e;.grind
   .rwa[G.IH _ _ b]at c}
 up:=C6 _
 EN:=C6 _
 F8 _ _ _:=B
 GM a h f c I:=by
  refine⟨a,h,f,?_,B⟩;by_cases b:a=e;.grind
  .rwa[G.IH _ _ b]at c
 HP m n l g I:=by rcases g with g|⟨rfl,rfl,rfl⟩<;>grind
 GH a c R:=G.IH _ _ P
 Aw:=.refl _
def XA(v:Program)(t:A0)(u:G)(w:BH)(c:F)(d:Bl)(b:G):Prop:=∃a,Fin t u w a b w/\a.m=t.m/\VR a.FH c d
def e8(v:Program)(t:A0)(u:G)(w:BH)(c:C F)(d:C Bl)(b:G):Prop:=∃a,Fin t u w a b w/\a.m=t.m/\BJ a.FH c d
theorem O4{j:G->F->Aj (F×G)}(k:∀t u f d n a,HR t u w->VR t f n->j u f=A (d,a)->XA v t u w d n a):∀{l:C F}{t:A0}{u:G}{e:C F}{c:C Bl}{a:G},HR t u w->BJ t l c->Df j u l=A (e,a)->e8 v t u w e c a
 |[],t,u,e,c,a,g,h,b=>by rw[h2]at b;cases b;cases h;exact⟨t,.refl g,B,.nil⟩
 |f::M,t,u,e,c,a,g,h,b=>by
  obtain⟨d,q,J,o,p,rfl⟩:=h1 b
  cases h with
  |cons _ z _ N s r=>obtain⟨Q,i,H,x⟩:=k t u f d z q g s o;obtain⟨E,m,I,y⟩:=O4 k i.hr (r.Av i.ext) p;exact⟨E,i.AQ m,P,.cons _ _ _ _ (x.Av m.ext.FH) y⟩
theorem bg(b:D):∀a c,(I3 b a c).l=a
 |0,_=>rfl
 |a+1,c=>by show(c.t b::I3 b a (c.d b)).l=_;rw[AiD,bg b a]
theorem gp(b:D):∀c a,a.l=c*b->(I3 b c a).flatten=a
 |0,a,d=>by
  have:a=[]:=by grind
  subst this;rfl
 |c+1,a,d=>by show(a.t b::I3 b c (a.d b)).flatten=_;rw[AjG,gp b c _ (by grind),Aj0]
theorem go(d:D):∀c e,e.l=c*d->∀b∈I3 d c e,b.l=d
 |0,_,_,b,a=>by cases a
 |c+1,e,f,b,a=>by
  rcases Ait.1 (a)with rfl|a;.grind
  .exact go d c _ (by grind) b a
theorem gD{j a d:D}{g:C F}{b:FE}(p:CR t j g b w)(I:a+d<=j):∃(c:Br Bl)(f:B9)(m:D×D),w.heap[b.r]? =A (.cells c f m)/\b.sh+a+d<=c.z/\BJ t ((g.d a).t d) ((c.l.d (b.sh+a)).t d):=by
 obtain⟨z,E,c,f,s,q,n,G,H,o⟩:=p;refine⟨c,f,(s,q),n,by omega,BJ.UG (by simp;omega) λe x i=> ?_⟩;have h:e<d:=by have:=(Aid.1 i).1;simp at this;omega
 have r:g[a+e]? =A x:=by simpa[List.getElem?_take,h,AjY]using i
 obtain⟨y,k,l⟩:=o _ _ r;refine⟨y,?_,l⟩;rw[List.getElem?_take,Af h,AjY,show b.sh+a+e=b.sh+(a+e) by omega];simpa using k
theorem fP{t:A0}{d c g:D}{a:Br Bl}{e:B9}{f:D×D}{b:C F}(i:w.heap[g]? =A (.cells a e f))(l:d+c<=a.z)(k:b.l=c)(h:BJ t b ((a.l.d d).t c)):BI t (.c b) g d w:=by refine⟨a,e,f,i,by omega,λm n j=> ?_⟩;obtain⟨_⟩:=h.N j;grind
theorem gh{a:Aa}{e:D}{d:C F}(b:Eg (u.N a)=A (e,d)):∃c,u.N a=A c:=by
 cases f:u.N a with
 |none=>rw[f]at b;cases b
 |some c=>grind
theorem AaL{a:Aa}{e:C BL}{d:D}(b:Ir (u.N a)=A (e,d)):∃c,u.N a=A c:=by
 cases f:u.N a with
 |none=>rw[f]at b;cases b
 |some c=>grind
theorem bE:∀{a:C BL}{b:C MapEntry},Gf t a b->BJ t (a.m (·.HS)) (b.m (·.key))/\BJ t (a.m (·.Dv)) (b.m (·.val))
 |_,_,.nil=>⟨.nil,.nil⟩
 |_,_,.cons _ _ _ _ d e _ c=>⟨.cons _ _ _ _ d (bE c).1,.cons _ _ _ _ e (bE c).2⟩
theorem b7:∀r t u xd z R X,HR t u w->VR t xd R->DI r u xd=A (z,X)->XA v t u w z R X
 |0,_,_,_,_,_,_,_,_,a=>by cases a
 |r+1,t,u,xd,z,R,X,h,j,a=>by
  have p:=b7 r;have c:∀{z:F},VR t.FH z R->XA v t u w z R u:=λxw=>⟨t,.refl h,B,xw⟩;unfold DI at a;split at a
  ·
   rename_i xq V;obtain⟨l,q,rfl⟩:=PS j;split at a
   .rename_i U N m;split at a
    .rename_i f I i;cases a
     have M:=RH h m q;have xA:=M.1;obtain⟨H,xr,xt,k,xc,T⟩:=gD (a:=0) (d:=U) M (by omega);rw[AiE,AiX (by omega)]at T;obtain⟨g,b,d,e⟩:=O4 p h T i;obtain⟨s,W⟩:=Ml (R0 r) i;obtain⟨E,xE⟩:=gh (by rw[s.I];exact m);have J:=b.ext.1 _ _ q;exact⟨_,b.AQ (Fin.b5 b.hr (r:=.rc U N) xE J B (RH b.hr (by unfold G.I;rw[s.I];exact m) J) (fP k xc (by omega) e)),d,.pi _ f l.r l.sh V (A0.aD _ _ _ _) (List.prefix_refl _)⟩
    .cases a
   .cases a
  ·
   rename_i xq V P xL E
   cases S:Bb P 0 with
   |true=>
    rw[S]at a;cases a;have:=Aii S;subst this;rcases Jp j with⟨l,xe,_,_,_,_,rfl⟩|⟨xp,_,_,rfl⟩;.exact c (.PM _ _)
    .exact c (.PM _ _)
   |false=>
    rw[S]at a;split at a
    .rename_i U N m;obtain⟨xa,a⟩:=En a;have xa:=Aim xa;split at a
     .rename_i f I i;cases a
      rcases Jp j with⟨l,xe,q,xB,_,xO,rfl⟩|⟨xp,xx,_,rfl⟩
      .have M:=RH h m q;obtain⟨H,xr,xt,k,xc,T⟩:=gD M xa;obtain⟨g,b,d,e⟩:=O4 p h T i;obtain⟨s,W⟩:=Ml (R0 r) i;obtain⟨xJ,xb⟩:=gh (by rw[s.I];exact m);have J:=b.ext.1 _ _ q;have xA:=M.1;have Z:f.l=P*E:=by rw[W,AiH,List.length_drop];omega
       refine⟨_,b.AQ (Fin.b5 b.hr (r:=.rc U N) xb J B (RH b.hr (by unfold G.I;rw[s.I];exact m) J) (fP k xc Z e)),d,?_⟩;have:=VR.CZ (a:=(g.add (.c f) l.r (l.sh+V)).FH) (I3 E P f) f l.r (l.sh+V) 0 E xe (A0.aD _ _ _ _) (by rw[gp E P f Z,AiE];exact List.prefix_refl _) (go E P f Z) (by rw[bg];exact xB);rwa[bg]at this
      .subst xx;cases S
     .cases a
    .cases a
  ·
   rename_i xK;obtain⟨l,q,rfl⟩:=U5 j;split at a
   .rename_i xf H m;split at a
    .rename_i xn xN xj;split at a
     .rename_i xo xy xk;cases a
      obtain⟨xg,xh,xi⟩:=UA h m q;obtain⟨xu,xv⟩:=bE xi;obtain⟨g,b,d,e⟩:=O4 p h xu xj;obtain⟨x0,Q,xG,xH⟩:=O4 p b.hr (xv.Av b.ext) xk;obtain⟨s,_⟩:=Ml (R0 r) xj;obtain⟨W,_⟩:=Ml (R0 r) xk;have xz:Ir (xy.N xK)=A (xf,H):=by rw[(s.AQ W).Wu];exact m
      obtain⟨xJ,xb⟩:=AaL xz;exact⟨_,(b.AQ Q).AQ (Fin.b5 Q.hr (r:=.rm xf H) (k:=.m xn xo) (j:=0) xb (Q.ext.1 _ _ (b.ext.1 _ _ q)) B ⟨xg,xh,xi.Av (b.ext.AQ Q.ext)⟩ ⟨xg,H,xh,e.Av Q.ext.FH,xH⟩),xG.t d,.mi xn xo l.r (A0.aD _ _ _ _)⟩
     .cases a
    .cases a
   .cases a
  .cases a;have:=Lp j;subst this;exact c .Xd
  .cases a;have:=eV j;subst this;exact c .Zn
  .split at a
   .rename_i f I i;cases a
    obtain⟨xF,k,rfl⟩:=Rg j;obtain⟨g,b,d,e⟩:=O4 p h k i;exact⟨g,b,d,.S _ _ e⟩
   .cases a
  .split at a
   .rename_i f I i;cases a
    obtain⟨xF,k,rfl⟩:=na j;obtain⟨g,b,d,e⟩:=O4 p h k i;exact⟨g,b,d,.AC _ _ e⟩
   .cases a
  .split at a
   .rename_i f I i;cases a
    cases j
    rename_i xm Y xM k;obtain⟨g,b,d,e⟩:=O4 p h k i;exact⟨g,b,d,.f _ Y _ _ e⟩
   .cases a
  .split at a
   .rename_i xY I xl
    cases a
    cases j with
    |ic _ xC _ xZ xD=>obtain⟨g,b,d,e⟩:=p _ _ _ _ _ _ h xD xl;exact⟨g,b,d,.ic _ xC _ _ e⟩
    |fb xm Y N f k=>
     obtain⟨g,b,d,e⟩:=p _ _ _ _ _ _ h (VR.AC N f k) xl
     cases e with
     |AC xP _ xs=>exact⟨g,b,d,.fb xm Y _ _ xs⟩
   .cases a
  .rename_i xQ xI xR xS xT xU xV xW xX;cases a
   cases j<;>first
    |exact A_ B (xI _ _ _ _ _)
    |exact c (.b _)
    |exact c (.i _ _)
    |exact c (.s _ _ ‹_›)
    |exact c .pn
    |exact c .fn
    |exact c .LL
    |exact c (.pi _ _ _ _ _ ‹_› ‹_›)
    |exact c (.CZ _ _ _ _ _ _ _ ‹_› ‹_› ‹_› ‹_›)
    |exact c (.PM _ _)
    |exact c .Xd
    |exact c (.mi _ _ _ ‹_›)
    |exact c .Zn
    |(exfalso;simp_all;done)
theorem sL{c b:F}{d:Bl}{a:G}(f:HR t u w)(g:VR t c d)(e:Dq u c=A (b,a)):XA v t u w b d a:=b7 40 t u c b d a f g e
theorem sO{b d:C F}{c:C Bl}{a:G}(f:HR t u w)(g:BJ t b c)(e:F9 u b=A (d,a)):e8 v t u w d c a:=O4 (b7 40) f g e
theorem sN{c d:C F}{a b:G}(e:F9 a c=A (d,b)):J1 a b/\d.l=c.l:=Ml (R0 40) e
end
variable{c:G}{e f:D}
def eZ{b:G}{d:Aa}{g:C F}(a:b.EY d f e g=A c):c.next=b.next:=by
 unfold G.EY at a;split at a
 .obtain⟨_,a⟩:=En a;cases a
  rfl
 grind
variable{b:D}{d:G}
def uY{h:Aa}{k n:D}{l j:C F}{m:F}(a:T0 c h k e b n f l j=A (m,d)):c.next.num<=d.next.num:=by
 unfold T0 at a;split at a
 .obtain⟨_,a⟩:=En a;cases a
  rw[G.HG,G.UD,Aa.G5];omega
 .rename_i b
  cases g:Co (e+f) b with
  |true=>
   rw[g]at a;split at a;.rename_i o i;cases a;rw[eZ i];omega
   grind
  |false=>
   rw[g]at a;cases a
   rw[G.HG,Aa.G5];omega
def fn{e:G}{j:D}{h i:F}{g:C F}(a:LA d j f h b g=A (i,e)):d.next.num<=e.next.num:=by
 unfold LA at a;split at a
 .cases c:Bb b 0 with
  |true=>grind
  |false=>
   rw[c]at a;obtain⟨_,a⟩:=En a;cases a
   rw[G.HG,Aa.G5];omega
 .obtain⟨_,a⟩:=En a
  cases c:Bb b 0 with
  |true=>grind
  |false=>
   rw[c]at a;obtain⟨_,a⟩:=En a;split at a;.grind
   .exact uY a
 grind
def ra{l:Ef}{e:C F}{b:G}{d:F}(a:l.ev e b=A (d,c)):b.next.num<=c.next.num:=by
 cases l with
 |st m=>
  have a:A1 m b e=A (d,c):=a;unfold A1 at a;split at a
  .obtain⟨_,a⟩:=En a;split at a;.rename_i n i;cases a;rw[eZ i];omega
   grind
  grind
 |EK f h=>
  have a:Eo f h b e=A (d,c):=a;unfold Eo at a;split at a
  .split at a
   .split at a;.obtain⟨_,a⟩:=En a;exact fn a
    grind
   grind
  grind
 |aJ k f h=>
  have a:HL k f h b e=A (d,c):=a;unfold HL at a;split at a;.obtain⟨_,a⟩:=En a;exact fn a
  grind
 |bj f=>
  have a:G1 f b e=A (d,c):=a;unfold G1 at a;split at a
  .split at a
   .split at a
    .obtain⟨_,a⟩:=En a;unfold RJ at a;split at a
     .obtain⟨_,a⟩:=En a
      rename_i m p _ _ _ _ _ _ _ _ _ _ _ _ _ _ _ _ _
      revert a
      generalize Bb _ 0=o
      intro a
      cases o with
      |true=>grind
      |false=>
       split at a;.rename_i n i;cases a;rw[eZ i];omega
       grind
     .grind
     grind
    grind
   grind
  grind
 |Cf g j=>
  have a:Hx g j b e=A (d,c):=a;unfold Hx at a;split at a
  .split at a
   .split at a;.cases a;rw[G.M5];omega
    .cases a;rw[G.M5];omega
    grind
   grind
  grind
 |dr g j k=>
  have a:Hw g j k b e=A (d,c):=a;unfold Hw at a;split at a
  .split at a
   .split at a;.grind
    .cases a;rw[G.M5];omega
    grind
   grind
  grind
 |bI=>
  have a:HM b e=A (d,c):=a;unfold HM at a;split at a
  .split at a
   .split at a;.cases a;rw[G.M5];omega
    grind
   grind
  grind
def IX(d:Bh):Prop:=∀e c a f b,d e c a=A (f,b)->a.next.num<=b.next.num
def Lu(d:A0)(b c:G):Prop:=∀a:Aa,b.next.num<=a.num->a.num<c.next.num->d a=O
def JZ(g:Program)(m:Bh):Prop:=∀b h a j e,b<1000000->m (Ar b) h a=A (j,e)->
 (∃d,g.funcs[b]? =A d/\d.body.isNone=Ac/\(d.name== "runtime.NumGoroutine")=Ac)/\
 ∀(c:A0)(f:BH)(i:Br Bl),BJ c h i.l->HR c a f->Lu c a e->
  Calls g b i f λn o=>∃k l,n=.returned k/\VR l j k/\Fin c a f l e o
def bP{g:Bh}(k:IX g){i:Io}{e:Fm}{f:F}(a:EE g i e c=A (f,d)):c.next.num<=d.next.num:=by
 cases i with
 |rd l b=>have a:Ik l (A3 e b) c=A (f,d):=a;unfold Ik at a;grind
 |al j b=>
  have a:DX j (A3 e b) c=A (f,d):=a;unfold DX at a;split at a;.cases a;rw[G.HG,Aa.G5];omega
  grind
 |ef h b=>exact ra a
 |call h b=>
  have a:Du g (h.ev e) (A3 e b) c=A (f,d):=a;unfold Du at a;split at a;.exact k _ _ _ _ _ a
  grind
 |Dd=>cases a
def CK.ge(b:D):CK->Prop
 | .CP _ a| .DG _ a| .Cm _ _ a=>b<=a.next.num
 | .Cw=>True
def CK.ct{c:D}(e:b<=c){a:CK}(d:a.ge c):a.ge b:=by cases a<;>first|trivial|exact AiN e d
def Yn{c:Bh}(d:IX c):∀g b a,(Ij c g b a).ge a.next.num
 |[],b,a=>C6 _
 |e::f,b,a=>by
  unfold Ij
  cases HJ e.Ew b with
  |true=>
   cases h:EE c e.op b a with
   |none=>trivial
   |some i=>obtain⟨k,j⟩:=i;exact CK.ct (bP d h) (Yn d f _ _)
  |false=>exact Yn d f _ _
theorem Mg(c:Bh)(a:CJ)(g:C CJ)(e:D)(f:KX)(b:Fm)(d:G):
 Fy c (a::g) e f b d=An (HJ a.Ew b) (Ic (Fy c g (e+1)) e a f b d (EE c a.op b d)) (Fy c g (e+1) f (Ej b a.DH Ax) d):=rfl
def bO{c:Bh}(e:IX c):∀i f d b a,(Fy c i f d b a).ge a.next.num
 |[],f,d,b,a=>C6 _
 |g::h,f,d,b,a=>by
  rw[Mg]
  cases HJ g.Ew b with
  |true=>
   cases j:EE c g.op b a with
   |none=>trivial
   |some k=>
    obtain⟨m,l⟩:=k;unfold Ic;simp only[];split;.exact CK.ct (bP e j) (bO e h _ _ _ _)
    .trivial
  |false=>exact bO e h _ _ _ _
theorem ka(a:Fm->G->CK)(c:D)(d:Fm)(b:G):Ip a (c+1) d b=Gc (Ip a c) (a d b):=rfl
def mO{d:Fm->G->CK}(g:∀c a,(d c a).ge a.next.num){b:CK}(a:b.ge e):(Gc d b).ge e:=by
 cases b with
 |CP c f=>exact CK.ct a (g c f)
 |DG=>exact a
 |Cm=>exact a
 |Cw=>trivial
def dd{d:Fm->G->CK}(e:∀b a,(d b a).ge a.next.num):∀c b a,(Ip d c b a).ge a.next.num
 |0,_,_=>Ais
 |c+1,b,a=>by rw[ka];exact mO (dd e c) P
def OC{e:D}{f:Bh}(d:IX f):∀n b a,(B5 e f n b a).ge a.next.num
 | .skip,b,a=>C6 _
 | .It j,b,a=>Yn d j b a
 | .HZ j,b,a=>bO d j _ _ b a
 | .EB g c,b,a=>mO (OC d c) (OC d g b a)
 | .Hd k g c,b,a=>by
  show(J6 (B5 e f g b a) (B5 e f c b a) (k.ev b)).ge _;unfold J6;split;.exact OC d g b a
  .exact OC d c b a
  .trivial
 | .A4 h c,b,a=>by
  show(LD h (B5 e f c b a)).ge _
  have:=OC (e:=e) d c b a
  generalize B5 e f c b a=k at this
  cases k with
  |CP=>exact this
  |DG=>exact this
  |Cw=>trivial
  |Cm i m l=>show(An (Bb i h) (CK.CP m l) (CK.Cm i m l)).ge _;cases Bb i h<;>exact this
 | .DY c,b,a=>dd (OC d c) e b a
 | .Cm h,b,a=>C6 _
 | .DG,b,a=>C6 _
 | .Dd,b,a=>Ais
section
variable{y:Program} {u:A0} {v:Fm} {a:Act} {t:G} {w:BH} {z:Bh}
theorem Lu.left{t b c:G}(e:Lu u t c)(g:b.next.num<=c.next.num):Lu u t b:=λd f h=>e d f Om
theorem Lu.right{c:A0}{t d e:G}{w j:BH}(g:Lu u t e)(f:Fin u t w c d j):Lu c d e:=λb h i=>by
 cases l:c b with
 |none=>rfl
 |some k=>have:=f.Gl b (g b (AiN f.up h) i) (by grind);omega
theorem AdV{c:D}{b:Func}{d:Br Bl}(e:y.funcs[c]? =A b)(f:b.body.isNone=Ac)(h:(b.name== "runtime.NumGoroutine")=Ac):(callFunc c d).run y w=.ok (.enter c d) w:=by
 have g:b.body≠O:=by grind
 have i:b.name≠ "runtime.NumGoroutine" :=by grind
 unfold callFunc;simp[*]
theorem kV(xf:JZ y z)(x:TR u v a)(r:HR u t w){k:Oper}{Q:Io}{E:F}{o:G}(d:Es y k=A Q)(c:EE z Q v t=A (E,o))(M:Lu u t o){S:Act->BH->Prop}{Z:Exit->Act->BH->Prop}(s:∀g h n,VR n E g->Fin u t w n o h->S (a.put k.dst g) h):k.wp y a w S Z:=by
 cases Q with
 |rd W i=>
  have c:Ik W (A3 v i) t=A (E,o):=c;unfold Ik at c;split at c
  .rename_i xv P;cases c
   obtain⟨g,f,j⟩:=lA x r d P;unfold Oper.wp;rw[f];exact s g w u j (.refl r)
  .cases c
 |al xa i=>
  have c:DX xa (A3 v i) t=A (E,o):=c;unfold DX at c;split at c
  .rename_i Y xv P;cases c
   obtain⟨g,h,T,xD,f,j,I,xn,xo⟩:=fh x d P;have U:=M _ (C6 _) (by rw[G.HG,Aa.G5];omega);obtain⟨xp,xq⟩:=xo (u.Cf t.next T) (A0.Lg T U) (A0.Ia _ _ _);unfold Oper.wp;rw[f];exact s g h _ xp (Fin.alloc r U j xn xq I)
  .cases c
 |ef xx i=>
  obtain⟨g,h,n,f,j,I⟩:=q9 x r d ((M _ (C6 _))) c;unfold Oper.wp;rcases f with f|⟨f,rfl⟩;.rw[f];exact s g h n j I
  .rw[f];exact s undef h n j I
 |call H i=>
  have c:Du z (H.ev v) (A3 v i) t=A (E,o):=c;unfold Du at c;split at c
  .rename_i xd xw N;obtain⟨l,p,xj,J,xg,xm⟩:=xc d;have R:=GQ x xg;rw[N]at R;generalize xh:a.eval p=xz at R;cases R
   rename_i V xi xb xe;obtain⟨⟨xy,xr,xs,xt⟩,xu⟩:=xf V _ _ _ _ xi c;have xl:(execOp a.eval k).run y w=.ok (.enter V (l.args.map a.eval++xb)) w:=by unfold execOp;simp[xj,resolve,J,xh,Deferred.ofValue,invoke,AdV xr xs xt]
   unfold Oper.wp;rw[xl];refine(xu u w _ ?_ r M).mono ?_;.rw[Array.toList_append,Array.toList_map];exact(Pz x xm).K1 xe
   .rintro e h ⟨g,n,rfl,f,j⟩
    exact s g h n f j
  .cases c
 |Dd=>cases c where
 xc {k:Oper} {H:Od} {i:C Od} (d:Es y k=A (.call H i)):∃l p,k.op=.call l/\l.callee=.value p/\od p=A H/\D6 l.args.l=A i:=by
  unfold Es at d;cases xk:k.op<;>rw[xk]at d<;>simp only[]at d
  case call l=>
   unfold TG at d;split at d
   .rename_i p J;split at d
    .rename_i xd q N m;cases d
     exact⟨l,p,B,J,N,m⟩
    .cases d
   .cases d
   .exfalso
    revert d
    repeat' split
    all_goals first
     |(intro b;cases b;done)
     |(intro b;obtain⟨q,m,e⟩:=Gt b;cases e;done)
     |(intro b;obtain⟨q,m,e⟩:=Ku b;cases e;done)
     |(intro b;obtain⟨q,m,e⟩:=KH b;cases e;done)
  case binOp xE X Y xF xG=>
   exfalso
   unfold RM at d
   revert d
   repeat' split
   all_goals first
    |(intro b;cases b;done)
    |(intro b;obtain⟨q,m,e⟩:=Gt b;cases e;done)
    |(intro b;obtain⟨q,m,e⟩:=Ku b;cases e;done)
  case makeMap X W=>grind
  case slice X Y xB xA xC=>grind
  all_goals(exfalso;revert d;repeat' split)
  all_goals first
   |(intro b;cases b;done)
   |(intro b;obtain⟨q,m,e⟩:=Gt b;cases e;done)
   |(intro b;obtain⟨_⟩:=Ku b;grind)
   |(intro b;obtain⟨_⟩:=Rx b;grind)
   |(intro b;obtain⟨_⟩:=KH b;grind)
theorem nb(j:TR u v a){e:Br Oper}{h:Oper}{f:Aj (Aa×Ak)}(b:T1 e h.guard=A f):Region.wanted h (yielded e a.tmps)=HJ f v:=by
 unfold T1 at b;unfold Region.wanted;split at b
 .rename_i d;cases b
  rw[d];rfl
 .rename_i p i d;rw[d];split at b
  .rename_i r k;split at b
   .rename_i c m;split at b
    .rename_i l;cases b
     have:=j c (Aim l);show(yielded e a.tmps p==A i)=AO i (Fm.at v (Ar c));unfold yielded;rw[k];simp only[Aig,m];by_cases g:c<a.tmps.z;.rw[Ajs,AjW g]at this;rw[AjW g];generalize Fm.at v (Ar c)=o at this;generalize a.tmps[c]=q at this;cases this<;>first|rfl|(done)
     .rw[Ajs,Array.getElem?_eq_none P]at this;rw[Array.getElem?_eq_none P];generalize Fm.at v (Ar c)=o at this;generalize n:undef=q at this;cases this<;>first|rfl|(exfalso;cases n;done)|(done)
    grind
   grind
  grind
theorem St.TQ{e:D}{g:A0}{h:G}{k:BH}(b:St e u v t a w)(f:Fin u t w g h k){d:Aj D}(l:∀c,d=A c->c<e)(n:e<=100000){i:F}{j:Bl}(m:VR g i j):St e g (Ej v (d.map Ar) i) h (a.put d j) k where
 tr:=by
  cases d with
  |none=>exact b.tr.Av f.ext
  |some c=>have:=l c B;have o:=b.EN;exact(b.tr.Av f.ext).AM (by omega) (by omega) m
 hr:=f.hr
 EN:=by
  cases d with
  |none=>exact b.EN
  |some c=>simpa[Act.put]using b.EN
 TK:=by
  cases d with
  |none=>exact b.TK
  |some c=>simpa[Act.put]using b.TK
theorem bi{e:D}{f:Br Oper}{c:Oper}{i:C Oper}{g:C D}:∃b,Md y e f (c::i) g=b::Md y e f i g.tail/\((b.Ew=O/\b.op=.Dd)\/(T1 f c.guard=A b.Ew/\b.DH=c.dst.map Ar/\(∀d,c.dst=A d->d<e)/\b.op=(Es y c).g .Dd)):=by
 refine⟨_,B,?_⟩;split
 .rename_i n k;split
  .rename_i d j;split;.rename_i l;exact .j ⟨k,by grind,λm h=>by rw[j]at h;cases h;exact(Aim l),B⟩
   grind
  grind
 grind
def Lw(h:D)(u:A0)(t:G)(w:BH):CK->Exit->Act->BH->Prop
 | .CP g b,f,e,c=>f=.normal/\∃d,St h d g b e c/\Fin u t w d b c
 | .DG g b,f,e,c=>f=.ret/\∃d,St h d g b e c/\Fin u t w d b c
 | .Cm i g b,f,e,c=>f=.exit i/\∃d,St h d g b e c/\Fin u t w d b c
 | .Cw,_,_,_=>False
def KZ(u:A0)(t:G):CK->Prop
 | .CP _ b| .DG _ b| .Cm _ _ b=>Lu u t b
 | .Cw=>True
theorem Lw.before{l:D}{o:A0}{i:G}{m:BH}(g:Fin u t w o i m){h:CK}{k:Exit}{j:Act}{n:BH}(f:Lw l o i m h k j n):Lw l u t w h k j n:=by
 cases h with
 |Cw=>exact f
 |CP=>obtain⟨b,e,c,d⟩:=f;exact⟨b,e,c,g.AQ d⟩
 |DG=>obtain⟨b,e,c,d⟩:=f;exact⟨b,e,c,g.AQ d⟩
 |Cm=>obtain⟨b,e,c,d⟩:=f;exact⟨b,e,c,g.AQ d⟩
theorem KZ.right{d:A0}{c:G}{g:BH}{b:CK}(f:KZ u t b)(e:Fin u t w d c g):KZ d c b:=by cases b<;>first|trivial|exact Lu.right f e
theorem KZ.left{c:G}{b:CK}(d:KZ u t b)(f:b.ge c.next.num)(e:b≠.Cw):Lu u t c:=by cases b<;>first|exact A_ B e|exact Lu.left d f
theorem dQ(s:JZ y z)(E:IX z){o:D}(n:o<=100000){h:Br Oper}{q:Exit->Act->BH->Prop}:∀I c i {u:A0}{v:Fm}{t:G}{a:Act}{w:BH}{f:CK},(∀e,I[e]? =h[c+e]?)->St o u v t a w->Ij z (Md y o h I i) v t=f->f≠.Cw->KZ u t f->(∀N M,Lw o u t w f .normal N M->q .normal N M)->wpOps y h q (List.range' c I.l) a w
 |[],c,i,u,v,t,a,w,f,x,d,b,g,m,l=>by
  cases b
  exact l a w ⟨B,u,d,.refl d.hr⟩
 |J::p,c,i,u,v,t,a,w,f,x,d,b,g,m,l=>by
  obtain⟨F,W,r⟩:=bi;rw[W]at b;unfold Ij at b;have xd:h[c]? =A J:=by simpa using(x 0).s
  have S:∀e,p[e]? =h[c+1+e]? :=λe=>by simpa[Ajk,Nat.add_comm 1 e]using(x (e+1))
  show wpOps y h q (c::List.range' (c+1) p.l) a w;unfold wpOps;rw[xd];simp only[];rcases r with⟨r,X⟩|⟨Y,P,Q,R⟩;.rw[r,X]at b;exact A_ b.s g
  .rw[nb d.tr Y]
   cases T:HJ F.Ew v with
   |true=>
    rw[T]at b
    cases k:EE z F.op v t with
    |none=>rw[k]at b;exact A_ b.s g
    |some xg=>
     obtain⟨xi,U⟩:=xg;rw[k]at b;have xc:f.ge U.next.num:=by rw[<-b];exact Yn E _ _ _
     have xa:Es y J=A F.op:=by
      cases xb:Es y J with
      |none=>rw[xb]at R;rw[R]at k;cases k
      |some xh=>grind
     refine .i (kV s d.tr d.hr xa k (m.left xc g) λxj M xk xe H=> ?_);have j:=d.TQ H Q n xe;rw[<-P]at j;exact dQ s E n p (c+1) i.tail S j b g (m.right H) λV xf Z=>l V xf (Z.before H)
   |false=>rw[T]at b;have j:=d.TQ (.refl d.hr) Q n (S_ u);rw[<-P]at j;exact dQ s E n p (c+1) i.tail S j b g m l
end
section
variable{y:Program} {v:A0} {u:Fm} {a:Act} {t:G} {w:BH} {z:Bh}
def Xz(y:Program)(z:Bh):Prop:=∀(c e:D)(b:Br Oper)(v:A0)(u:Fm)(t:G)(a:Act)(w:BH)(d:CK),c<=100000->
 Ya b.l (Md y c b b.l (Region.before b).l)=L->St c v u t a w->
 Fy z (Md y c b b.l (Region.before b).l) 0 ⟨[],[]⟩ u t=d->d≠.Cw->KZ v t d->
 (Code.region e b L).wp y (Lw c v t w d) a w
theorem mb{o:D}{H:Code}{q:Exit->Act->BH->Prop}{e:CK}{n:Fm->G->CK}(N:∀u i,(n u i).ge i.next.num){f:CK}(j:Gc n e=f)(E:f≠.Cw)(l:KZ v t f)(P:e.ge t.next.num)(m:e≠.Cw->KZ v t e->H.wp y (Lw o v t w e) a w)(x:∀h r F,h≠.normal->Lw o v t w f h r F->q h r F){p:Act->BH->Prop}(J:∀g b k d c,e=.CP g b->St o k g b d c->Fin v t w k b c->KZ k b f->n g b=f->p d c):H.wp y (Exit.then p q) a w:=by
 cases e with
 |Cw=>exact A_ j.s E
 |CP g b=>
  have M:f.ge b.next.num:=by rw[<-j];exact N _ _
  refine wp_mono (m (by simp) (l.left M E)) ?_
  rintro h d c ⟨rfl,k,I,s⟩
  exact J g b k d c B I s (l.right s) j
 |DG g b=>
  cases j
  refine wp_mono (m (by simp) l) ?_
  rintro h d c ⟨rfl,i⟩
  exact x _ d c (by simp) ⟨B,i⟩
 |Cm Q g b=>
  cases j
  refine wp_mono (m (by simp) l) ?_
  rintro h d c ⟨rfl,i⟩
  exact x _ d c (by simp) ⟨B,i⟩
theorem l0{i:D}{s:Code}{b:Fm->G->CK}(p:∀u f,(b u f).ge f.next.num)(M:∀{v:A0}{u:Fm}{t:G}{a:Act}{w:BH},St i v u t a w->b u t≠.Cw->KZ v t (b u t)->s.wp y (Lw i v t w (b u t)) a w){n:Exit->Act->BH->Prop}{x:A0}{m:G}{r:BH}{j:CK}(o:∀e d k,Lw i x m r j e d k->n e d k):∀c {v:A0}{u:Fm}{t:G}{a:Act}{w:BH},Ip b c u t=j->j≠.Cw->St i v u t a w->KZ v t j->Fin x m r v t w->Code.rounds y s n c a w
 |0,v,u,t,a,w,h,g,J,q,l=>A_ h.s g
 |c+1,v,u,t,a,w,h,g,J,q,l=>by
  rw[rounds_succ];rw[ka]at h;exact mb (dd p c) h g q P P (λe d k _ f=>o e d k (f.before l))
   (λT N S Q R _ E F H I=>l0 p M o c I g E H (l.AQ F))
theorem Aec(xb:JZ y z)(E:IX z)(xc:Xz y z){g f:D}(U:f<=100000):∀q {v:A0}{u:Fm}{t:G}{a:Act}{w:BH},St f v u t a w->B5 g z (Hv y f q) u t≠.Cw->KZ v t (B5 g z (Hv y f q) u t)->q.wp y (Lw f v t w (B5 g z (Hv y f q) u t)) a w:=by
 intro q
 induction q with
 |skip=>intro v u t a w e c d;exact wp_skip ⟨B,v,e,.refl e.hr⟩
 |ret=>intro v u t a w e c d;exact wp_ret ⟨B,v,e,.refl e.hr⟩
 |exit h=>intro v u t a w e c d;exact wp_exit ⟨B,v,e,.refl e.hr⟩
 |region h l X=>
  intro v u t a w e c d
  cases X with
  |false=>refine wp_region ?_;have:=dQ xb E U l.l 0 (Bv l.z 0) (λxg=>by simp) e B c d (λR W j=>j);rwa[Ajf,<-Akl]at this
  |true=>
   have i:Hv y f (.region h l L)=if Ya l.l (Md y f l l.l (Region.before l).l)then .HZ (Md y f l l.l (Region.before l).l)else .Dd:=B;rw[i]at c d⊢;split at c;.rename_i T;rw[Af T]at d⊢;exact xc f h l v u t a w _ U T e B c d
   .exact A_ B c
 |seq n Q J M=>intro v u t a w e c d;refine wp_seq (mb (OC E _) B c d (OC E _ _ _) (J e) (λi R W _ j=>j) ?_);intro o m xh r x _ Y Z xa F;have:=M Y (by rw[F];exact c) (by rw[F];exact xa);rw[F]at this;exact wp_mono this λi R W j=>j.before Z
 |cond xe n Q J M=>
  intro v u t a w e c d
  unfold Hv at c d⊢
  cases I:od xe with
  |none=>simp only[I]at c;exact A_ B c
  |some N=>
   simp only[I]at c d
   have V:=GQ e.tr I
   have i:B5 g z (.Hd N (Hv y f n) (Hv y f Q)) u t=J6 (B5 g z (Hv y f n) u t) (B5 g z (Hv y f Q) u t) (N.ev u):=B
   rw[i]at c d⊢
   generalize N.ev u=s at c d V⊢
   cases s with
   |b xf=>
    have S:=S7 V
    cases xf with
    |true=>exact wp_cond_true S (J e c d)
    |false=>exact wp_cond_false S (M e c d)
   |_=>exact A_ B c
 |block h n p=>
  intro v u t a w e c d
  have i:B5 g z (Hv y f (.block h n)) u t=LD h (B5 g z (Hv y f n) u t):=B
  rw[i]at c d⊢
  have p:=p e
  generalize B5 g z (Hv y f n) u t=s at c d p⊢
  refine wp_block ?_
  cases s with
  |Cw=>exact A_ B c
  |CP o m=>
   refine wp_mono (p (by simp) d) ?_
   rintro i r x ⟨rfl,j⟩
   exact⟨B,j⟩
  |DG o m=>
   refine wp_mono (p (by simp) d) ?_
   rintro i r x ⟨rfl,j⟩
   exact⟨B,j⟩
  |Cm k o m=>
   have xd:KZ v t (.Cm k o m):=by have:LD h (.Cm k o m)=An (Bb k h) (.CP o m) (.Cm k o m):=B;rw[this]at d;cases s:Bb k h<;>(rw[s]at d;exact d)
   refine wp_mono (p (by simp) xd) ?_
   rintro i r x ⟨rfl,j⟩
   have:LD h (.Cm k o m)=An (Bb k h) (.CP o m) (.Cm k o m):=B
   rw[this]
   show(if k=h then Lw f v t w _ .normal r x else Lw f v t w _ (.exit k) r x)
   by_cases H:k=h
   .subst H;rw[Af B,AiG];exact⟨B,j⟩
   .rw[Ad H,G0 H];exact⟨B,j⟩
 |loop n p=>intro v u t a w e c d;refine wp_loop_rounds g ?_;have i:B5 g z (Hv y f (.loop n)) u t=Ip (B5 g z (Hv y f n)) g u t:=B;rw[i]at c d⊢;exact l0 (OC E _) (p) P g B c e d (.refl e.hr)
 |_=>intro v u t a w e c d;exact A_ B c
end
section
variable{u:Program} {v:A0} {t:Fm} {a:Act} {z:G} {w:BH} {y:Bh}
theorem AdG(t:Fm)(b:G)(d:Gh)(c:C Gh):Lm t b (d::c)=RI (lR t b d) (Lm t b c):=rfl
theorem qS{e:Aj F}{f:Aj (C F)}{b:C F}(g:RI e f=A b):∃c d,e=A c/\f=A d/\b=c::d:=by unfold RI at g;grind
def SX(c:Br Bl)(d:ResultVar):Sem Bl:=match d with
 | .tmp b=>pure (c.getD b undef)
 | .cell a b=>do loadVar b (<-asAddr (c.getD a undef))
theorem lS(s:TR v t a)(j:HR v z w):∀{f:C ResultVar}{o:C Gh}{l:C F},TH u f=A o->Lm t z o=A l->∃p,(f.mapM (SX a.tmps)).run u w=.ok p w/\BJ v l p
 |[],o,l,k,n=>by
  cases k
  cases n
  exact⟨[],by simp,.nil⟩
 |W::f,o,l,k,n=>by
  unfold TH at k;split at k
  .rename_i xh xi c E;cases k
   rw[AdG]at n;obtain⟨R,l,b,S,rfl⟩:=qS n;obtain⟨p,xj,xa⟩:=lS s j E S;have xd:∃g,(SX a.tmps W).run u w=.ok g w/\VR v R g:=by
    cases W with
    |tmp Q=>
     simp only[]at c;split at c
     .rename_i G;cases c
      cases b
      exact⟨_,B,s Q (Aim G)⟩
     grind
    |cell q Q=>
     simp only[]at c;split at c
     .rename_i G;have e:=s q (Aim G);split at c
      .rename_i h;split at c
       .rename_i J U;cases c
        have b:Bf J z [Fm.at t (Ar q)]=A R:=b;unfold Bf at b;split at b
        .rename_i Y xc d;injection d with d _;rw[d]at e;obtain⟨X,r,c⟩:=PS e;split at b
         .rename_i f E;cases b
          obtain⟨H,b,S,i⟩:=ZX (v:=u) j E r;exact⟨.agg H.a,by simp[SX,c,asAddr,loadVar,V1 h,Iz U,i],.S _ _ (by omega)⟩
         grind
        .rename_i f d
         injection d with d _
         rw[d]at e
         obtain⟨xb,xe,xf,Z,M,N,c⟩:=S8 e
         cases x:Co J f.l with
         |false=>rw[x]at b;cases b
         |true=>
          rw[x]at b;cases b
          obtain⟨H,i,m⟩:=cK (v:=u) j M (AjF (List.take_prefix J f) N);rw[AiH,AjT (Aim x)]at m;exact⟨.agg H.a,by simp[SX,c,asAddr,loadVar,V1 h,Iz U,m],.S _ _ (by omega)⟩
        grind
       grind
      .rename_i h;have h:Ey u Q=Ac:=by grind
       split at c
       .rename_i Z T;cases c
        have b:AW z [Fm.at t (Ar q)]=A R:=b;unfold AW at b;split at b;.rename_i Y xc d;injection d with d _;rw[d]at e;obtain⟨X,r,c⟩:=PS e;obtain⟨g,V,I⟩:=lE j b r;exact⟨g,by simp[SX,c,asAddr,loadVar,V0 h T,I],V⟩
        .rename_i f d;injection d with d _;rw[d]at e;obtain⟨xb,xe,xf,xg,M,N,c⟩:=S8 e;obtain⟨g,i,m⟩:=je j M N b;rw[Ajq]at i;exact⟨g,by simp[SX,c,asAddr,loadVar,V0 h T,i],m⟩
        grind
       grind
     grind
   obtain⟨g,V,I⟩:=xd;exact⟨g::p,by simp[*],.cons _ _ _ _ I xa⟩
  grind
theorem lU(k:TR v t a)(j:HR v z w){c:Func}{f:C Gh}{b:C F}(l:TH u c.results.l=A f)(m:Lm t z f=A b):∃g,(results c a.tmps).run u w=.ok g w/\VR v (SH b) g:=by
 obtain⟨e,n,o⟩:=lS k j l m
 have h:(results c a.tmps).run u w=.ok (if d:e.a.z=1 then e.a[0]else .tuple e.a) w:=by
  have:results c a.tmps=(do let b<-c.results.mapM (SX a.tmps);pure (if d:b.z=1 then b[0]else .tuple b)):=by unfold results;congr 1
  rw[this,Array.mapM_eq_mapM_toList];simp[n]
 refine⟨_,h,?_⟩
 match b,e,o with
 |[],_,.nil=>exact .AC _ _ .nil
 |[q],_,.cons _ r _ _ d .nil=>simpa[SH]using d
 |q::x::s,_,.cons _ r _ _ d (.cons _ E _ _ i p)=>exact .AC _ _ (.cons _ _ _ _ d (.cons _ _ _ _ i p))
theorem jT{d:C Gh}{c:CK}{e:F}{b:G}(g:Wj d c=A (e,b)):∃t f,(c=.CP t b\/c=.DG t b)/\Lm t b d=A f/\e=SH f:=by unfold Wj at g;grind
theorem f7(i:IX y){d:D}{f:GY}{e:C F}{c g:G}{j:F}(h:Nn d y f e c=A (j,g)):c.next.num<=g.next.num:=by obtain⟨t,k,b,_⟩:=jT h;have:=OC (e:=d) i f.Mb (Kc e .h .nil) c;rcases b with b|b<;>(rw[b]at this;exact this)
theorem sy(b:Aa)(t:Fm):Kc [] b t=t:=rfl
theorem sx(d:F)(c:C F)(b:Aa)(t:Fm):Kc (d::c) b t=Kc c b.IP (PT.AM t b (A d)):=rfl
theorem hZ:∀f b t c,Fm.at (Kc f b t) c=match(if b.num<=c.num then f[c.num-b.num]?else O)with
  |some d=>d
  |none=>Fm.at t c
 |[],b,t,c=>by rw[sy];grind
 |d::h,b,t,c=>by
  rw[sx,hZ h,Aa.G5];have g:PT.AM t b (A d)=Ej t (A b) d:=B;rw[g];rcases Nat.lt_trichotomy c.num b.num with e|e|e;.rw[Ad (by omega),Ad (by omega)];exact Fm.Tw _ _ P
  .have:=Aa.WD e;subst this;rw[Ad (by omega),Af (by omega)];simp only[AjK];exact Fm.Vl _ _ _
  .rw[Af (by omega),Af (by omega),show c.num-b.num=(c.num-(b.num+1))+1 by omega,Ajj,Fm.Tw _ _ P]
theorem sA{d:C F}{b:Br Bl}{f:D}(g:BJ v d b.l){i:C Deferred}:TR v (Kc d .h .nil) {tmps:=b++Array.replicate f undef,defers:=i}:=by
 intro c m
 have e:Aa.h.num=1:=B
 rw[hZ,Mz m,e,Af (by omega),Akm]
 cases h:d[c]?with
 |some p=>
  obtain⟨n,e,j⟩:=g.N h;have l:c<b.z:=by grind
  have:(b++Array.replicate f undef).getD c undef=n:=by rw[Ajs,Array.getElem?_append_left l,<-Akf,e];rfl
  rw[this];exact j
 |none=>
  have k:b.z<=c:=by have:=List.getElem?_eq_none_iff.1 h;have o:=g.length;grind
  have:(b++Array.replicate f undef).getD c undef=undef:=by rw[Ajs,Array.getElem?_append_right k,Array.getElem?_replicate];grind
  rw[this];exact S_ v
theorem qO{e:D}{c:GY}(f:I5 u e=A c):∃b d,u.funcs[e]? =A b/\b.body=A d/\TH u b.results.l=A c.Hn/\b.ntmps<=100000/\b.name≠ "runtime.NumGoroutine" /\c.Mb=Hv u b.ntmps d:=by unfold I5 at f;grind
theorem f6(S:JZ u y)(X:IX y)(T:Xz u y){j p:D}{s:GY}(R:I5 u p=A s){h:C F}{e n:G}{I:F}(m:Nn j y s h e=A (I,n)):(∃d,u.funcs[p]? =A d/\d.body.isNone=Ac/\(d.name== "runtime.NumGoroutine")=Ac)/\
  ∀v w k,BJ v h k.l->HR v e w->Lu v e n->
   Calls u p k w λm Y=>∃c g,m=.returned c/\VR g I c/\Fin v e w g n Y:=by
 obtain⟨d,l,x,J,E,M,xb,N⟩:=qO R
 refine⟨⟨d,x,by grind,by grind⟩,λv w k Q P W=> ?_⟩
 obtain⟨t,xc,b,H,rfl⟩:=jT m
 rw[N]at b
 refine calls_of_wp x J ?_
 have U:B5 j y (Hv u d.ntmps l) (Kc h .h .nil) e≠.Cw:=by grind
 have V:KZ v e (B5 j y (Hv u d.ntmps l) (Kc h .h .nil) e):=by rcases b with b|b<;>(rw[b];exact W)
 refine wp_mono (Aec S X T M l ⟨sA Q,P,by grind,B⟩ U V) ?_
 intro xa Z xd i
 rcases b with b|b
 .rw[b]at i;obtain⟨rfl,g,f,o⟩:=i;obtain⟨c,q,r⟩:=lU f.tr f.hr E H;exact⟨f.TK,c,q,c,g,B,r,o⟩
 .rw[b]at i;obtain⟨rfl,g,f,o⟩:=i;obtain⟨c,q,r⟩:=lU f.tr f.hr E H;exact⟨f.TK,c,q,c,g,B,r,o⟩
end
def k8:∀{f:C (D×CJ)}{c:CJ},ZH f c=L->∀d b,(d,b)∈f->Oq d b c=L
 |[],_,_,_,_,a=>by grind
 |(d,b)::j,c,e,h,g,a=>by
  unfold ZH at e;rw[Aie]at e;rcases Ait.1 a with i|a;.grind
  .exact k8 P h g a
def fi:∀{g:C (Oper×CJ)}{e:C (D×CJ)}{d:D},XL e d g=L->(∀b c,g[b]? =A c->(∀a j,(a,j)∈e->Oq a j c.2=L)/\(∀a i,a<b->g[a]? =A i->Oq (d+a) i.2 c.2=L)/\Vg (d+b) c.1=L)
 |[],e,d,_,b,c,f=>by grind
 |p::g,e,d,h,b,c,f=>by
  unfold XL at h
  rw[Aie,Aie]at h
  obtain⟨⟨k,l⟩,m⟩:=h
  cases b with
  |zero=>simp at f;subst f;exact⟨(k8 k),Om,l⟩
  |succ b=>obtain⟨_⟩:=fi m b c f;refine⟨P,λa i n o=> ?_,by grind⟩;cases a<;>grind
def q2{d:C Oper}{c:C CJ}(r:Ya d c=L)(v:c.l=d.l):(∀f i g h,f<i->c[f]? =A g->c[i]? =A h->Oq f g h=L)/\(∀a b,d[a]? =A b->Vg a b=L):=by
 have n:=fi r;have m:∀a b e,d[a]? =A b->c[a]? =A e->(d.zip c)[a]? =A (b,e):=λa b e j k=>by rw[List.getElem?_zip_eq_some];exact⟨j,k⟩
 have o:∀a e,c[a]? =A e->∃b,d[a]? =A b:=λa e l=>by have:=(Aid.1 l).1;exact⟨d[a],AiW (by omega)⟩
 constructor;.intro f i g h s j k;obtain⟨t,p⟩:=o f g j;obtain⟨u,q⟩:=o i h k;simpa using((n i (u,h) (m _ _ _ q k)).2.1 f (t,g) s (m _ _ _ p j))
 .intro a b l;have w:=(Aid.1 l).1;simpa using(n a (b,c[a]) (m _ _ _ l (AiW (by omega)))).2.2
def cG{b:Aa}:∀{a:C Aa},T3 b a=L↔b∈a
 |[]=>by simp[T3]
 |c::d=>by unfold T3;rw[Ajt,cG];simp
def RQ{e f:Fm}:∀{c:C Od},(∀b∈Uz c,Fm.at e b=Fm.at f b)->A3 e c=A3 f c
 |[],_=>rfl
 | .t d::g,a=>by rw[VH,VH,RQ λb h=>a b (Ai1 _ h)];have:(Od.t d).ev e=(Od.t d).ev f:=a d (Ai0 ..);grind
 | .c i::g,a=>by rw[VH,RQ (c:=g) a];rfl
def rO{g:Bh}{i:Io}{b c:Fm}(h:∀f∈Uz i.D6,Fm.at b f=Fm.at c f):EE g i b d=EE g i c d:=by
 cases i with
 |rd e a=>show Ik e (A3 b a) d=Ik e (A3 c a) d;rw[show A3 b a=A3 c a from RQ h]
 |al e a=>show DX e (A3 b a) d=DX e (A3 c a) d;rw[show A3 b a=A3 c a from RQ h]
 |ef e a=>show e.ev (A3 b a) d=e.ev (A3 c a) d;rw[show A3 b a=A3 c a from RQ h]
 |call j a=>show Du g (j.ev b) (A3 b a) d=Du g (j.ev c) (A3 c a) d;have k:∀f∈Uz (j::a),Fm.at b f=Fm.at c f:=h;have:=RQ k;rw[VH,VH]at this;grind
 |Dd=>rfl
def Afc{a:Aj (Aa×Ak)}{c d:Fm}(g:∀e∈jZ a,Fm.at c e=Fm.at d e):HJ a c=HJ a d:=by
 cases a with
 |none=>rfl
 |some h=>obtain⟨b,f⟩:=h;show AO f (Fm.at c b)=AO f (Fm.at d b);rw[g b (Ai0 ..)]
def Ac6{a:Rd}(e:HQ a=Ac)(b:C F)(c d:G):a.ev b c=a.ev b d:=by cases a<;>first|rfl|(cases e;done)
section before
def ji(f:Br D)(d:D):∀(e:C Edge) b,(e.foldl (λb a=>if Region.binds .any a then b|||2^a.on|||f.getD a.on 0 else b) b).testBit d=L->b.testBit d=L\/∃a∈e,Region.binds .any a=L/\(a.on=d\/(f.getD a.on 0).testBit d=L)
 |[],b,c=>.i c
 |a::e,b,c=>by
  rw[Ajp]at c;rcases ji f d e _ c with c|⟨g,h,i,j⟩;.grind
  grind
def JT(b:Br D)(d:Oper):Br D:=b.push (d.after.foldl (λc a=>if Region.binds .any a then c|||2^a.on|||b.getD a.on 0 else c) 0)
def eD:∀(c:C Oper) a,(c.foldl JT a).z=a.z+c.l/\∀b,b<a.z->(c.foldl JT a).getD b 0=a.getD b 0
 |[],a=>⟨B,λ_ _=>rfl⟩
 |d::c,a=>by
  obtain⟨f,e⟩:=eD c (JT a d);have h:(JT a d).z=a.z+1:=by simp[JT]
  rw[Ajp];refine⟨by grind,λb g=> ?_⟩;rw[e b (by omega)];simp only[JT,Ajs];grind
def mz:∀(e:C Oper) a i g c,e[i]? =A g->((e.foldl JT a).getD (a.z+i) 0).testBit c=L->∃b∈g.after.l,Region.binds .any b=L/\(b.on=c\/((e.foldl JT a).getD b.on 0).testBit c=L)
 |[],a,i,g,c,h,_=>by grind
 |f::e,a,0,g,c,h,d=>by
  simp at h;subst h;rw[Ajp]at d⊢;obtain⟨_,k⟩:=eD e (JT a f);have p:(JT a f).z=a.z+1:=by simp[JT]
  rw[Ajq,k a.z (by omega)]at d;have n:(JT a f).getD a.z 0=f.after.l.foldl (λl b=>if Region.binds .any b then l|||2^b.on|||a.getD b.on 0 else l) 0:=by simp[JT]
  rw[n]at d;rcases ji a c _ _ d with d|⟨b,m,o,j⟩;.grind
  .refine⟨b,m,o,j.imp id λj=> ?_⟩;by_cases q:b.on<a.z;.rw[k b.on (by omega)];simp only[JT,Ajs]at j⊢;grind
   grind
 |f::e,a,i+1,g,c,h,d=>by
  rw[Ajp]at d⊢;have p:(JT a f).z=a.z+1:=by simp[JT]
  exact mz e (JT a f) i g c h (by grind)
def fH(a:Br Oper):Region.before a=a.l.foldl JT #[]:=by unfold Region.before;rw[<-Array.foldl_toList];rfl
def oE{b:Br Oper}{d a:D}{e:Oper}(g:b[d]? =A e)(f:((Region.before b).getD d 0).testBit a=L):∃c∈e.after.l,Region.binds .any c=L/\(c.on=a\/((Region.before b).getD c.on 0).testBit a=L):=by rw[fH]at f⊢;exact mz b.l #[] d e a (by grind) (by grind)
end before
