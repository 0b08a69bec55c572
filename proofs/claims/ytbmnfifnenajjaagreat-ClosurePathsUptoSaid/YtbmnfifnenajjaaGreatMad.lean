/- Part of the proof. -/
import Derived.LoopN
import Derived.Orders
import Derived.Test.YtbmnfifnenajjaaGreatMac
set_option linter.all false
noncomputable section
open Option renaming some->A,none->O,getD->Option.g,bind->Option.b
open _root_ renaming rfl->B,List->C,Nat->D,Int->K,if_neg->Ad,if_pos->Af,Option->Ae,Bool->Ah,cond->Aj,Array->Bg,absurd->BF
open Bool renaming true->L,false->Aa
open Nat renaming beq->AW,ble->BX,le_refl->CK
open Go renaming Value->Ba,World->By,TypeId->BQ
open List renaming replicate->BG,length->List.l,map->List.m,take->List.t,drop->List.d,toArray->List.a,flatMap->List.f
open Go.IntKind renaming i64->Go.IntKind.n
open Array renaming toList->Array.l,size->Array.z
open Eq renaming trans->Eq.t,symm->Eq.s
open Or renaming inl->Or.i,inr->Or.j
open Int renaming toNat->Int.n
namespace Go.Fg
section
variable{u:Program} {t:AT} {s:Fm} {a:Act} {y:G} {w:By}
theorem Fin.lc{m:AT}{g h:G}{l:By}(b:Fin t y w m g l)(x:∀k,h.M k=g.M k)(i:h.next=g.next):Fin t y w m h l where
 ext:=b.ext
 F8 c d e:=by rw[i];exact b.F8 c d e
 hr:={
  EJ:=b.hr.EJ
  Fg:=λc j f H E F d=>b.hr.Fg c j f H E F (by grind)
  Ca:=λc j f d e=>b.hr.Ca c j f (by grind) e
  EH:=λp q n o d e=>b.hr.EH p q n o (by grind) (by grind)
  lt:=b.hr.lt
  E8:=λc I=>by rw[i];exact b.hr.E8 c (by grind)}
 up:=by rw[i];exact b.up
 Ez:=b.Ez
 FU:=b.FU
 Gf c f d e r:=b.Gf c f d (by grind) r
 Hb:=b.Hb
 HA c d e:=by rw[x];exact b.HA c d e
 AD:=b.AD
theorem fm(v:HR t y w){j c:D}{p:F}{M:Ba}{o:C F}(g:F7 y j c p=A o)(i:VR t p M):∃h,Bw t o h/\o.l=c*j/\(∀d,d.heap=w.heap->(Builtin.firstCells j c M).run u d=.ok h.a d):=by
 unfold F7 at g;split at g
 .rename_i r xe xd E xa
  obtain⟨b,e⟩:=DL g
  simp only[AdO]at b
  have n:=AdQ b.1
  subst n
  cases f:AW c 0 with
  |true=>
   rw[f]at e;have:=AdQ f;subst this;cases e
   refine⟨[],.nil,by simp,λd _=> ?_⟩;rcases IS i with⟨N,P,_,_,_,_,rfl⟩|⟨q,_,_,rfl⟩<;>simp[Builtin.firstCells,loadCells,loadCellsFrom]
  |false=>
   rw[f]at e;rcases IS i with⟨N,P,U,_,_,_,rfl⟩|⟨q,T,_,rfl⟩;.obtain⟨h,Q,R,S,_⟩:=b7 v e U;exact⟨h,Q,R,λd m=>by simpa[Builtin.firstCells]using S d m⟩
   .have:=AdT b.2;subst T;have:c=0:=by omega
    subst this;cases f
 .obtain⟨b,e⟩:=DL g;cases e
  have:=AdQ b;subst this;have:=KO i;subst this;exact⟨[],.nil,by simp,λd _=>by simp[Builtin.firstCells]⟩
 .rename_i xi;obtain⟨b,e⟩:=DL g;simp only[AdO]at b;have n:=AdQ b.1;have f:=AdT b.2;subst n;cases e
  obtain⟨x,V,rfl⟩:=OR i;subst V;rw[Ad9,AeI]at f;refine⟨(x.data.l.t c).m λr=>Value.int .u8 r.toNat,?_,?_,λd _=> ?_⟩
  .rw[PS,AeF,<-AfO]
   generalize x.data.l.t c=J
   induction J with
   |nil=>exact .nil
   |cons p J W=>exact .cons _ _ _ _ (.i _ _) W
  .rw[PS,Aef,Ad9,Ad9,AeI];omega
  .simp only[Builtin.firstCells,Sem.run_pure];congr 1;apply Afy;simp[]
 .rename_i G;obtain⟨b,e⟩:=DL g;cases e
  simp only[AdO]at b;have f:=AdT b.1;have H:(G.t c).flatten.l=c*j:=by rw[Qu (λk l=>(λk l=>AdQ (Aei.1 b.2 k l)) k (Afl l)),Aef,Afj f]
  rcases RO i with⟨xc,xh,xj,xb,xa,E,Y,Z,xf,xg,rfl⟩|⟨rfl,q,E,rfl⟩|⟨rfl,rfl⟩;.obtain⟨h,X,I⟩:=gR v Y (Ae7 (Z0 G c) Z);rw[H]at I;exact⟨h,X,H,λd m=>by simpa[Builtin.firstCells]using I d m⟩
  .have:c=0:=by grind
   subst this;exact⟨[],.nil,by simp,λd _=>by simp[Builtin.firstCells,loadCells,loadCellsFrom]⟩
  .have:c=0:=by grind
   subst this;exact⟨[],.nil,by simp,λd _=>by simp[Builtin.firstCells]⟩
 grind
theorem FR{b c:Ah}(d:Aj b c Aa=L):b=L/\c=L:=by grind
theorem e1:∀{d:C Bx}{f:C MapEntry}{e:D}{b:Bx},FO t d f->d[e]? =A b->∃c,f[e]? =A c/\VR t b.He c.key/\VR t b.Eo c.val/\b.MB=c.born
 |[],_,e,b,_,g=>by grind
 |j::d,_,0,b,h,g=>by
  cases h
  grind
 |j::d,_,e+1,b,h,g=>by
  cases h
  rename_i c f k l m i;obtain⟨_⟩:=e1 i g;grind
theorem e2{h:MapEntry->MapEntry}:∀{e:C Bx}{f:C MapEntry} d,FO t e f->(∀b c,e[d]? =A b->f[d]? =A c->VR t b.He (h c).key/\VR t b.Eo (h c).val/\b.MB=(h c).born)->FO t e (f.modify d h)
 |[],_,d,g,_=>by cases g;simp;exact .nil
 |b::e,_,0,g,m=>by
  cases g
  rename_i c f j k l i;obtain⟨n,o,p⟩:=m b c (by simp) (by simp);exact .cons _ _ _ _ n o p i
 |b::e,_,d+1,g,m=>by
  cases g
  rename_i c f j k l i;exact .cons _ _ _ _ j k l (e2 d i P)
theorem Wy{g:Bg BQ}{r E i:BQ}{p:TypeInfo}{b:Ae Addr}{c x d:D}{f:Ba}{q:C Ba}{e:By}(j:g[0]? =A r)(o:u.underlying r=A (.slice i))(l:u.info? i=A p)(m:(Builtin.lenOf f).run u w=.ok d w)(k:(Builtin.firstCells p.size (min d c) f).run u w=.ok q.a w)(n:match b with|none=>e=w|some h=>(storeCells h q).run u w=.ok () e):(Builtin.copy_ g E #[.slice b c x,f]).run u w=.ok (.int .n (min d c:D)) e:=by
 cases b with
 |none=>subst n;simp[Builtin.copy_,j,run_underlying o,m,sizeOf,typeInfo,l,k,goInt]
 |some h=>simp[Builtin.copy_,j,run_underlying o,m,sizeOf,typeInfo,l,k,n,goInt]
theorem cM{b:Bg Operand}{c d:Operand}(e:b.l=[c,d]):b= #[c,d]:=by grind
theorem Wk(z:TR t s a){c:C Operand}{i:C Od}{g h:F}(k:Dz c=A i)(j:AU s i=[g,h]):∃d e,c=[d,e]/\VR t g (a.eval d)/\VR t h (a.eval e):=by
 have f:=OD z k
 rw[j]at f
 obtain⟨l,m,b,_⟩:=cS f
 match c,b with
 |[d,e],b=>grind
 |[],b=>grind
 |[_],b=>grind
 |_::_::_::_,b=>grind
variable(z:TR t s a) (v:HR t y w)
theorem np(z:TR t s a)(v:HR t y w){l:Oper}{c:Call}{Q n f:BQ}{m:TypeDesc}{e d:D}{T:F}{S:C Od}{R:F}{h:G}(xd:l.op=.call c)(Y:c.callee=.builtin .append)(o:c.argTypes[0]? =A Q)(N:u.underlying Q=A (.slice f))(xb:sz u f=A d)(W:O6 u f=A e)(xi:KR u f=A T)(J:PJ d e=L)(g:AW (Bq T.I) d=L)(p:c.argTypes[1]? =A n)(q:u.underlying n=A m)(r:∀xl,m≠.int xl)(Z:y.next.num<h.next.num->t y.next=O)(xh:Dz c.args.l=A S)(b:DN d e y (AU s S)=A (R,h)):OV u t y w l a R h:=by
 unfold DN at b;split at b
 .rename_i xE xG U;obtain⟨xC,xD,xe,V,i⟩:=Wk z xh U;obtain⟨xk,j,M⟩:=Qz xb;have X:xk.bytes=e:=by unfold O6 at W;grind
  obtain⟨xy,xt,E,xj,xg⟩:=P0 (u:=t) xi;rw[j]at E;cases E;have g:=AdQ g;rw[GK]at g;unfold PJ at J;simp only[AdO]at J;have xf:xt.cells.z=d:=by rw[<-g,<-(PX xg).length];simp
  split at b
  .rename_i xA H;split at b
   .rename_i xB xc;obtain⟨x,b⟩:=DL b;rw[DJ]at x;obtain⟨xo,k,xm,xn⟩:=fm v xc i;obtain⟨xs,xu,xv,xp,xq,xr⟩:=dj (m:=l.type) o N j xj M X (AdT P) (AdT P) xf v V k xm (Wo k x)
     (λI xw xz xx xa=>dg o N j xa p q (.j ⟨r,by rw[<-I];exact a2 H i,by
      subst I;have:xo=[]:=by have:=k.length;grind
      subst this;rw[M];simpa using xn w B⟩))
     (λ_=>.I n p m q r (λxF=>a2 H i) P)
     Z b
    refine⟨xs,xu,xv,.i ?_,xq,xr⟩;unfold execOp;simp only[xd,resolve,invoke,builtin,Y,(cM xe),Sem.run_bind,Sem.run_pure,Result.andThen_ok,AfR,AeC,List.map_nil,xp]
   grind
  grind
 grind
theorem nq(z:TR t s a)(v:HR t y w){p:Oper}{e:Call}{T q i:BQ}{R:IntKind}{d c:D}{l:F}{V:C Od}{U:F}{m:G}(xi:p.op=.call e)(xb:e.callee=.builtin .append)(r:e.argTypes[0]? =A T)(Q:u.underlying T=A (.slice i))(xg:sz u i=A c)(o:O6 u i=A d)(xn:KR u i=A l)(k:PJ c d=L)(h:AW (Bq l.I) c=L)(x:e.argTypes[1]? =A q)(E:u.underlying q=A (.int R))(xc:y.next.num<m.next.num->t y.next=O)(xm:Dz e.args.l=A V)(g:Hm l.I c d y (AU s V)=A (U,m)):OV u t y w p a U m:=by
 unfold Hm at g;split at g
 .rename_i xF xq b W;obtain⟨xD,xE,xj,Y,Z⟩:=Wk z xm W;obtain⟨xp,j,N⟩:=Qz xg;have xa:xp.bytes=d:=by unfold O6 at o;rw[j]at o;cases o;rfl
  obtain⟨xB,xw,M,xo,xl⟩:=P0 (u:=t) xn;rw[j]at M;cases M;have J:=PX xl;have h:=AdQ h;rw[GK]at h;unfold PJ at k;simp only[AdO]at k;have xh:=AdT k.1.1;have I:=AdT k.1.2;have xk:xw.cells.z=c:=by rw[<-h,<-J.length];simp
  obtain⟨f,g⟩:=DL g;obtain⟨f,H⟩:=FR f;have f:=AdT f;unfold GA at f;rw[DJ]at H;have X:=IR Z;have xf:b<=100000000000:=by have:b*1<=b*d:=Afm _ I;omega
  have S:=c0 J (by omega) b;have xr:(F_ l.I b).l=b*c:=by rw[RB,h]
  obtain⟨xv,xx,xy,xs,xt,xu⟩:=dj (m:=p.type) r Q j xo N xa I xh xk v Y S xr (Wo S H)
   (λxe xz xC xA xd=>dg r Q j xd x E P)
   (λxe=>.cZ q R xq x E X xf (by grind) (by
    rw[N];intro n;rcases AfN.1 n with n|n<;>omega) (by
    apply Afy;simp[Builtin.zeroCells]))
   xc g
  refine⟨xv,xx,xy,.i ?_,xt,xu⟩;unfold execOp;simp only[xi,resolve,invoke,builtin,xb,(cM xj),Sem.run_bind,Sem.run_pure,Result.andThen_ok,AfR,AeC,List.map_nil,xs]
 grind
theorem nr(z:TR t s a)(v:HR t y w){n:Oper}{e:Call}{W M:BQ}{H:D}{Y:C Od}{X:F}{J:G}(xk:n.op=.call e)(xe:e.callee=.builtin .copy)(i:e.argTypes[0]? =A W)(l:u.underlying W=A (.slice M))(xh:sz u M=A H)(xx:BX 1 H=L)(xn:Dz e.args.l=A Y)(b:GD H y (AU s Y)=A (X,J)):OV u t y w n a X J:=by
 unfold GD at b;split at b
 .rename_i xv xC xc;obtain⟨xs,V,xl,p,N⟩:=Wk z xn xc;obtain⟨xz,j,r⟩:=Qz xh;split at b
  .rename_i xo d T xg;split at b
   .rename_i xA xi;obtain⟨S,b⟩:=DL b;rw[DJ]at S;obtain⟨xr,E,U,f⟩:=fm (u:=u) v xi N;have k:(Builtin.lenOf (a.eval V)).run u w=.ok d w:=a2 xg N;have f:=f w B;have h:∀{I:Ba}{g:By},(Builtin.copy_ e.argTypes n.type #[a.eval xs,a.eval V]).run u w=.ok I g->(execOp a.eval n).run u w=.ok (.value I) g:=by intro I g xd;unfold execOp;simp only[xk,resolve,invoke,builtin,xe,(cM xl),Sem.run_bind,Sem.run_pure,Result.andThen_ok,AfR,AeC,List.map_nil,xd]
    unfold Qi at b;split at b
    .rename_i xt xB m xu xD _
     obtain⟨x,b⟩:=DL b
     have x:=AdQ x
     subst x
     obtain rfl:m=xo:=Aew T
     cases o:AW (min d m) 0 with
     |true=>
      have q:=AdQ o;rw[o]at b;cases b
      have xj:xr=[]:=by have:=E.length;rw[U,q]at this;exact Afx (by simpa using this)
      subst xj;rcases IS p with⟨Z,xb,R,xf,_,_,c⟩|⟨xa,Q,_,c⟩;.refine⟨.int .n (min d m:D),w,t,.i (h ?_),by rw[q];exact .i _ _,.refl v⟩;rw[c];exact Wy i l j k (by rw[r];exact f) (by simp[storeCells])
      .subst Q;refine⟨.int .n (min d 0:D),w,t,.i (h ?_),by rw[q];exact .i _ _,.refl v⟩;rw[c];exact Wy i l j k (by rw[r];exact f) (by simp[storeCells])
     |false=>
      rw[o]at b;split at b
      .rename_i xw xm;cases b
       have xy:=Afn o;rcases IS p with⟨Z,xb,R,xf,_,_,c⟩|⟨xa,Q,_,c⟩;.obtain⟨g,xp,xq⟩:=cW v xm R E U (Wo E S);refine⟨.int .n (min d m:D),g,t,.i (h ?_),.i _ _,xq⟩;rw[c];exact Wy i l j k (by grind) xp
       omega
      .cases b
    .cases b
     cases T
     refine⟨.int .n (min d 0:D),w,t,.i (h ?_),by rw[Nat.min_zero];exact .i _ _,.refl v⟩;rw[(KO p)];exact Wy i l j k (by rw[r];exact f) B
    grind
   grind
  grind
 grind
theorem nt(z:TR t s a)(v:HR t y w){H:Oper}{g Z R:BQ}{xa c:Operand}{Q:Ah}{Y:C D}{xg:F}{xf:C Od}{xd:F}{P:G}(xA:H.op=.mapEntry g xa c)(V:u.underlying g=A (.map Z R))(xr:KR u R=A xg)(l:Oj u Z=A (Q,Y))(xq:Dz [xa,c]=A xf)(d:G9 Q Y xg y (AU s xf)=A (xd,P)):OV u t y w H a xd P:=by
 obtain⟨xC,xe,xm,xs,W⟩:=P0 xr;unfold G9 at d;split at d
 .rename_i xw xD S;obtain⟨xE,J,xn,xl,b⟩:=Wk z xq S;obtain⟨rfl,rfl⟩:=xn;obtain⟨e,r,xH⟩:=TQ xl;split at d
  .rename_i xk i m;obtain⟨q,j,k⟩:=Tf v (bb m) r;have T:∀{h:Ba}{N:By},(Instr.mapEntry g (.map (A e.r)) (a.eval c)).run u w=.ok h N->(execOp a.eval H).run u w=.ok (.value h) N:=by intro h N n;simp[execOp, *]
   split at d
   .rename_i xB xj x
    cases d
    obtain⟨E,f⟩:=Sr x
    obtain⟨M,I,o⟩:=W2 w l b k f
    cases M with
    |none=>cases o
    |some J=>
     obtain⟨X,h⟩:=J;obtain⟨rfl,_,xF,p,xt,xG,xv,xb,xc⟩:=o;have xu:q[X]? =A p:=by simpa using xt
     have n:(Instr.mapEntry g (.map (A e.r)) (a.eval c)).run u w=.ok (.tuple #[h,goInt p.born]) {w with heap:=w.heap.setIfInBounds e.r (.map (q.modify X λxi=>{xi with key:=a.eval c}) i)}:=by simp[Instr.mapEntry,run_underlying V,OK j,Xq l b Aa E,I,setObj,Sem.run,j,xu,Instr.keyThatStays,(jG (Ux f) b xc)]
     refine⟨_,_,t,.i (T n),.AB _ _ (.cons _ _ _ _ xv (.cons _ _ _ _ (by rw[xb];exact .i _ _) .nil)),?_⟩;refine(Vb v m r (g:=xk) ?_).lc (λxh=> ?_) B
     .rw[AfP];refine e2 _ k λxx xy S xz=> ?_;have xo:xx=xj:=by grind
      have xp:xy=p:=by grind
      subst xo xp;exact⟨kx (Ux f) b xc,by grind,xb.s⟩
     .by_cases U:xh=xw;.subst U;rw[G.Ob];exact XH m
      .rw[G.Ia _ _ U]
   .rename_i x
    cases d
    obtain⟨E,f⟩:=Sr x
    obtain⟨M,I,o⟩:=W2 w l b k f
    cases M with
    |some J=>cases o
    |none=>
     have n:(Instr.mapEntry g (.map (A e.r)) (a.eval c)).run u w=.ok (.tuple #[xe,goInt i]) {w with heap:=w.heap.setIfInBounds e.r (.map (q.push {key:=a.eval c,val:=xe,born:=i}) (i+1))}:=by simp[Instr.mapEntry,run_underlying V,OK j,Xq l b Aa E,I,setObj,Sem.run,j,zeroValue,typeInfo,xm,xs]
     refine⟨_,_,t,.i (T n),.AB _ _ (.cons _ _ _ _ W (.cons _ _ _ _ (.i _ _) .nil)),Vb v m r ?_⟩;rw[Array.toList_push];exact ZB b W B k
   grind
  grind
 grind
theorem lY(c:D)(d:Bx)(e:C Bx)(b:D):O5 c (d::e) b=Aj (AW d.MB c) (A b) (O5 c e (b+1)):=rfl
theorem dS{i:D}:∀{g:C Bx}{h:C MapEntry}{c d:D},FO t g h->O5 i g c=A d->c<=d/\h.findIdx? (λf=>f.born==(i:K))=A (d-c)
 |[],_,_,_,_,b=>by cases b
 |f::g,_,c,d,k,b=>by
  cases k
  rename_i m h n o j l
  rw[lY]at b
  cases e:AW f.MB i with
  |true=>
   rw[e]at b;cases b
   refine⟨Om,?_⟩;rw[List.findIdx?_cons];simp[<-j,(AdQ e)]
  |false=>rw[e]at b;have p:=Afn e;obtain⟨q,r⟩:=dS l b;grind
theorem ns(z:TR t s a)(v:HR t y w){l:Oper}{M:BQ}{I m f:Operand}{P:C Od}{N:F}{n:G}(xb:l.op=.entryStore M I m f)(X:Dz [I,m,f]=A P)(e:Hn y (AU s P)=A (N,n)):OV u t y w l a N n:=by
 obtain⟨xg,xh,xi,R,S,T,rfl⟩:=bA X;have q:=Gi z R;have r:=Gi z S;unfold Hn at e;split at e
 .rename_i xj xd Q xk c;injection c with c d;injection d with d h;injection h with h _;subst h;rw[c]at q;rw[d]at r;obtain⟨g,x,xl⟩:=TQ q;split at e
  .rename_i xa o E;obtain⟨i,p,j⟩:=Tf v (bb E) x;split at e
   .rename_i k W;cases e
    obtain⟨xe,H⟩:=dS j W;have V:i.findIdx? (λb=>b.born==(Q:K))=A k:=by rw[Nat.sub_zero]at H;rw[<-H,<-List.findIdx?_toArray,Array.toArray_toList]
    have xc:(Instr.entryStore M (.map (A g.r)) (a.eval m) (a.eval f)).run u w=.ok () {w with heap:=w.heap.setIfInBounds g.r (.map (i.modify k λb=>{b with val:=a.eval f}) o)}:=by simp[Instr.entryStore,OK p,(IR r),asInt,asIntOf,V,setObj,Sem.run,p]
    have U:(execOp a.eval l).run u w=.ok .skip {w with heap:=w.heap.setIfInBounds g.r (.map (i.modify k λb=>{b with val:=a.eval f}) o)}:=by simp[execOp, *]
    refine⟨undef,_,t,.j ⟨U,B⟩,RP t,Vb v E x ?_⟩;rw[AfP];refine ZA _ j λxm xn c d=> ?_;obtain⟨xo,J,Y,xf,Z⟩:=e1 j c;rw[d]at J;cases J
    exact⟨Y,(Gi z T),Z⟩
   grind
  grind
 grind
theorem nu(z:TR t s a)(v:HR t y w){J:Oper}{P:Ef}{W:C Od}{V:F}{x:G}(b:DS u J=A (.ef P W))(S:y.next.num<x.next.num->t y.next=O)(j:P.ev (AU s W) y=A (V,x)):OV u t y w J a V x:=by
 unfold DS at b;cases g:J.op<;>rw[g]at b<;>simp only[]at b
 case store h Z n=>
  split at b;.rename_i Y k;obtain⟨f,d,c⟩:=JV b;cases c;exact nv z v g k d j
  .cases b
 case mapUpdate h r I n=>
  split at b
  .rename_i U N l;split at b;.rename_i M T m;obtain⟨f,d,c⟩:=JV b;cases c;exact eE z v (.i g) l m d j
   .cases b
  .cases b
 case insert h r I n=>
  split at b
  .rename_i U N l;split at b;.rename_i M T m;obtain⟨f,d,c⟩:=JV b;cases c;exact eE z v (.j g) l m d j
   .cases b
  .cases b
 case mapEntry h r I=>
  split at b
  .rename_i U N l;split at b;.rename_i xa M T q m;obtain⟨f,d,c⟩:=JV b;cases c;exact nt z v g l q m d j
   .cases b
  .cases b
 case entryStore h r xj n=>obtain⟨f,d,c⟩:=JV b;cases c;exact ns z v g d j
 case call xd=>
  unfold Sd at b;split at b;.split at b<;>cases b
  .cases b
  .rename_i xc H;split at b;case h_4 h o=>
    split at b
    .rename_i c p;split at b
     .rename_i r xb xa k R q;split at b
      .rename_i i;have i:=Bool.and_eq_true_iff.1 i;split at b;.cases b
       .rename_i xl Q;split at b;.rename_i I E;obtain⟨f,d,c⟩:=JV b;cases c;exact nq z v g H o p k R q i.1 i.2 Q E S d j
        .rename_i xk E X;obtain⟨f,d,c⟩:=JV b;cases c;exact np z v g H o p k R q i.1 i.2 Q X (E) S d j
        .cases b
      .cases b
     .cases b
    .cases b
   case h_5 h o=>
    split at b
    .rename_i c p;split at b
     .rename_i Y k;split at b;.rename_i i;obtain⟨f,d,c⟩:=JV b;cases c;exact nr z v g H o p k i d j
      .cases b
     .cases b
    .cases b
   all_goals(exfalso;revert b;repeat' split)
   all_goals first
    |(intro e;cases e;done)
    |(intro e;obtain⟨f,d,c⟩:=FY e;cases c;done)
    |(intro e;obtain⟨f,d,c⟩:=JD e;cases c;done)
 case binOp xh h n Z xm=>
  exfalso
  unfold Qk at b
  revert b
  repeat' split
  all_goals first
   |(intro e;cases e;done)
   |(intro e;obtain⟨f,d,c⟩:=FY e;cases c;done)
   |(intro e;obtain⟨f,d,c⟩:=JD e;cases c;done)
 case makeMap h xi=>grind
 case slice h n xf xe xg=>grind
 all_goals(exfalso;revert b;repeat' split)
 all_goals first
  |(intro e;cases e;done)
  |(intro e;obtain⟨f,d,c⟩:=FY e;cases c;done)
  |(intro e;obtain⟨_⟩:=JD e;grind)
  |(intro e;obtain⟨_⟩:=P7 e;grind)
end
structure Jn(b c:G):Prop where
 next:c.next=b.next
 I:∀a,DR (c.M a)=DR (b.M a)
 Vc:∀a,HQ (c.M a)=HQ (b.M a)
theorem Jn.refl(a:G):Jn a a:=⟨B,P,P⟩
theorem Jn.AI{d e f:G}(b:Jn d e)(c:Jn e f):Jn d f:=⟨c.next.t b.next,λa=>(c.I a).t (b.I a),λa=>(c.Vc a).t (b.Vc a)⟩
theorem Jn.rc{c:G}{a:T}{f:D}{e:C F}(h:DR (c.M a)=A (f,e)):Jn c (c.set a (.rc f e)):=by
 have d:c.M a=A (.I f e)\/c.M a=A (.rc f e):=by unfold DR at h;grind
 refine⟨B,λg=> ?_,λg=> ?_⟩
 .by_cases b:g=a;.subst b;rw[G.Ob,h];rfl
  .rw[G.Ia _ _ b]
 .by_cases b:g=a;.subst b;rw[G.Ob];rcases d with d|d<;>rw[d]<;>rfl
  .rw[G.Ia _ _ b]
theorem Jn.rm{e:G}{c:T}{f:C Bx}{a:D}(g:HQ (e.M c)=A (f,a)):Jn e (e.set c (.rm f a)):=by
 have d:=hY g;refine⟨B,λa=> ?_,λa=> ?_⟩
 .by_cases b:a=c;.subst b;rw[G.Ob];rcases d with d|d<;>rw[d]<;>rfl
  .rw[G.Ia _ _ b]
 .by_cases b:a=c;.subst b;rw[G.Ob,g];rfl
  .rw[G.Ia _ _ b]
theorem fA(b:G->F->Ae (F×G))(a:G):CT b a []=A ([],a):=rfl
theorem fz{a:G->F->Ae (F×G)}{b:G}{h:F}{i f:C F}{c:G}(j:CT a b (h::i)=A (f,c)):∃e d g,a b h=A (e,d)/\CT a d i=A (g,c)/\f=e::g:=by unfold CT at j;grind
theorem Ly{e:G->F->Ae (F×G)}(f:∀a i h b,e a i=A (h,b)->Jn a b):∀{g:C F}{a:G}{d:C F}{b:G},CT e a g=A (d,b)->Jn a b/\d.l=g.l
 |[],a,d,b,c=>by rw[fA]at c;cases c;exact⟨.refl _,B⟩
 |i::p,a,d,b,c=>by obtain⟨h,m,o,j,k,rfl⟩:=fz c;obtain⟨l,n⟩:=Ly f k;exact⟨(f _ _ _ _ j).AI l,by grind⟩
theorem Qv:∀g e l k f,Df g e l=A (k,f)->Jn e f
 |0,_,_,_,_,a=>by cases a
 |g+1,e,l,k,f,a=>by
  have d:=Qv g;unfold Df at a;split at a
  .split at a
   .rename_i i;split at a;.rename_i b;cases a;obtain⟨c,_⟩:=Ly d b;exact c.AI (.rc (by rw[c.I];omega))
    grind
   grind
  .rename_i n _ _
   cases h:AW n 0 with
   |true=>rw[h]at a;cases a;exact .refl _
   |false=>
    rw[h]at a;split at a
    .rename_i i;obtain⟨_,a⟩:=DL a;split at a;.rename_i b;cases a;obtain⟨c,_⟩:=Ly d b;exact c.AI (.rc (by rw[c.I];omega))
     grind
    grind
  .split at a
   .rename_i i;split at a
    .rename_i b;split at a;.rename_i m;cases a;obtain⟨c,_⟩:=Ly d b;obtain⟨j,_⟩:=Ly d m;exact(c.AI j).AI (.rm (by rw[(c.AI j).Vc];omega))
     grind
    grind
   grind
  .cases a;exact .refl _
  .cases a;exact .refl _
  .split at a;.rename_i b;cases a;exact(Ly d b).1
   grind
  .split at a;.rename_i b;cases a;exact(Ly d b).1
   grind
  .split at a;.rename_i b;cases a;exact(Ly d b).1
   grind
  .grind
  .cases a;exact .refl _
section
variable{v:Program} {t:AT} {u:G} {w:By}
def AT.add(t:AT)(f:IB)(d e:D):AT:=⟨t.m,λc a b=>t.im c a b\/(c=f/\a=d/\b=e)⟩
theorem AT.U1(t:AT)(d:IB)(b c:D):t.le (t.add d b c):=⟨λ_ _ a=>a,λ_ _ _ a=>.i a⟩
theorem AT.YD(t:AT)(c:IB)(a b:D):(t.add c a b).im c a b:=.j ⟨B,B,B⟩
theorem Fin.Z2(i:HR t u w){e:T}{r M:BV}{d:Fe}{k:IB}{j:D}(Q:u.M e=A M)(y:t e=A d)(S:r.U6=Aa)(F:BR t r d w)(J:BI t.Fv k d.r j w):Fin t u w (t.add k d.r j) (u.set e r) w where
 ext:=t.U1 k d.r j
 F8 a o p:=BF o p
 hr:={
  EJ:=λm n l g=>by
   rcases g with g|⟨rfl,rfl,rfl⟩;.exact(i.EJ m n l g).Ar (t.U1 k d.r j).Fv B
   .exact J.Ar (t.U1 m d.r l).Fv B
  Fg:=λa q h m n l c H f g=>by
   have b:a≠e:=λb=>by subst b;rw[G.Ob]at c;grind
   rw[G.Ia _ _ b]at c;rcases g with g|⟨rfl,rfl,rfl⟩;.exact i.Fg a q h m n l c H f g
   .intro N;exact b (i.EH a e h d (by grind) (by grind) f y Om)
  Ca:=λa q h c f=>by
   by_cases b:a=e;.subst b;rw[G.Ob]at c;cases c;have f:t a=A h:=f;rw[y]at f;cases f;exact F.Ar (t.U1 k d.r j) B
   .rw[G.Ia _ _ b]at c;exact(i.Ca a q h c f).Ar (t.U1 k d.r j) B
  EH:=λs x z E o p=>i.EH s x z E (by
   by_cases b:s=e;.grind
   .rwa[G.Ia _ _ b]at o) (by
   by_cases b:x=e;.grind
   .rwa[G.Ia _ _ b]at p)
  lt:=i.lt
  E8:=λa c=>by
   rw[G.Mr];refine i.E8 a ?_;by_cases b:a=e;.grind
   .rwa[G.Ia _ _ b]at c}
 up:=CK _
 Ez:=CK _
 FU _ _ _:=B
 Gf a h f c I:=by
  refine⟨a,h,f,?_,B⟩;by_cases b:a=e;.grind
  .rwa[G.Ia _ _ b]at c
 Hb m n l g I:=by rcases g with g|⟨rfl,rfl,rfl⟩<;>grind
 HA a c R:=G.Ia _ _ P
 AD:=.refl _
def V9(v:Program)(t:AT)(u:G)(w:By)(c:F)(d:Ba)(b:G):Prop:=∃a,Fin t u w a b w/\a.m=t.m/\VR a.Fv c d
def c3(v:Program)(t:AT)(u:G)(w:By)(c:C F)(d:C Ba)(b:G):Prop:=∃a,Fin t u w a b w/\a.m=t.m/\Bw a.Fv c d
theorem N7{j:G->F->Ae (F×G)}(k:∀t u f d n a,HR t u w->VR t f n->j u f=A (d,a)->V9 v t u w d n a):∀{l:C F}{t:AT}{u:G}{e:C F}{c:C Ba}{a:G},HR t u w->Bw t l c->CT j u l=A (e,a)->c3 v t u w e c a
 |[],t,u,e,c,a,g,h,b=>by rw[fA]at b;cases b;cases h;exact⟨t,.refl g,B,.nil⟩
 |f::M,t,u,e,c,a,g,h,b=>by
  obtain⟨d,q,J,o,p,rfl⟩:=fz b
  cases h with
  |cons _ z _ N s r=>obtain⟨Q,i,H,x⟩:=k t u f d z q g s o;obtain⟨E,m,I,y⟩:=N7 k i.hr (r.Ar i.ext) p;exact⟨E,i.AI m,P,.cons _ _ _ _ (x.Ar m.ext.Fv) y⟩
theorem Ze(b:D):∀a c,(Iy b a c).l=a
 |0,_=>rfl
 |a+1,c=>by show(c.t b::Iy b a (c.d b)).l=_;rw[Aec,Ze b a]
theorem eg(b:D):∀c a,a.l=c*b->(Iy b c a).flatten=a
 |0,a,d=>by
  have:a=[]:=by grind
  subst this;rfl
 |c+1,a,d=>by show(a.t b::Iy b c (a.d b)).flatten=_;rw[Ae8,eg b c _ (by grind),Afv]
theorem ef(d:D):∀c e,e.l=c*d->∀b∈Iy d c e,b.l=d
 |0,_,_,b,a=>by cases a
 |c+1,e,f,b,a=>by
  rcases Ad6.1 (a)with rfl|a;.grind
  .exact ef d c _ (by grind) b a
theorem er{j a d:D}{g:C F}{b:Fe}(p:CR t j g b w)(I:a+d<=j):∃(c:Bg Ba)(f:BQ)(m:D×D),w.heap[b.r]? =A (.cells c f m)/\b.sh+a+d<=c.z/\Bw t ((g.d a).t d) ((c.l.d (b.sh+a)).t d):=by
 obtain⟨z,E,c,f,s,q,n,G,H,o⟩:=p;refine⟨c,f,(s,q),n,by omega,Bw.Tn (by simp;omega) λe x i=> ?_⟩;have h:e<d:=by have:=(AdN.1 i).1;simp at this;omega
 have r:g[a+e]? =A x:=by simpa[List.getElem?_take,h,Aft]using i
 obtain⟨y,k,l⟩:=o _ _ r;refine⟨y,?_,l⟩;rw[List.getElem?_take,Af h,Aft,show b.sh+a+e=b.sh+(a+e) by omega];simpa using k
theorem dN{t:AT}{d c g:D}{a:Bg Ba}{e:BQ}{f:D×D}{b:C F}(i:w.heap[g]? =A (.cells a e f))(l:d+c<=a.z)(k:b.l=c)(h:Bw t b ((a.l.d d).t c)):BI t (.c b) g d w:=by refine⟨a,e,f,i,by omega,λm n j=> ?_⟩;obtain⟨_⟩:=h.M j;grind
theorem d_{a:T}{e:D}{d:C F}(b:DR (u.M a)=A (e,d)):∃c,u.M a=A c:=by
 cases f:u.M a with
 |none=>rw[f]at b;cases b
 |some c=>grind
theorem t7{a:T}{e:C Bx}{d:D}(b:HQ (u.M a)=A (e,d)):∃c,u.M a=A c:=by
 cases f:u.M a with
 |none=>rw[f]at b;cases b
 |some c=>grind
theorem Zz:∀{a:C Bx}{b:C MapEntry},FO t a b->Bw t (a.m (·.He)) (b.m (·.key))/\Bw t (a.m (·.Eo)) (b.m (·.val))
 |_,_,.nil=>⟨.nil,.nil⟩
 |_,_,.cons _ _ _ _ d e _ c=>⟨.cons _ _ _ _ d (Zz c).1,.cons _ _ _ _ e (Zz c).2⟩
theorem Z4:∀r t u xd z R X,HR t u w->VR t xd R->Df r u xd=A (z,X)->V9 v t u w z R X
 |0,_,_,_,_,_,_,_,_,a=>by cases a
 |r+1,t,u,xd,z,R,X,h,j,a=>by
  have p:=Z4 r;have c:∀{z:F},VR t.Fv z R->V9 v t u w z R u:=λxw=>⟨t,.refl h,B,xw⟩;unfold Df at a;split at a
  ·
   rename_i xq V;obtain⟨l,q,rfl⟩:=OQ j;split at a
   .rename_i U N m;split at a
    .rename_i f I i;cases a
     have M:=Qg h m q;have xA:=M.1;obtain⟨H,xr,xt,k,xc,T⟩:=er (a:=0) (d:=U) M (by omega);rw[Ad7,Aeq (by omega)]at T;obtain⟨g,b,d,e⟩:=N7 p h T i;obtain⟨s,W⟩:=Ly (Qv r) i;obtain⟨E,xE⟩:=d_ (by rw[s.I];exact m);have J:=b.ext.1 _ _ q;exact⟨_,b.AI (Fin.Z2 b.hr (r:=.rc U N) xE J B (Qg b.hr (by unfold G.I;rw[s.I];exact m) J) (dN k xc (by omega) e)),d,.pi _ f l.r l.sh V (AT.YD _ _ _ _) (List.prefix_refl _)⟩
    .cases a
   .cases a
  ·
   rename_i xq V P xL E
   cases S:AW P 0 with
   |true=>
    rw[S]at a;cases a;have:=AdQ S;subst this;rcases IS j with⟨l,xe,_,_,_,_,rfl⟩|⟨xp,_,_,rfl⟩;.exact c (.OM _ _)
    .exact c (.OM _ _)
   |false=>
    rw[S]at a;split at a
    .rename_i U N m;obtain⟨xa,a⟩:=DL a;have xa:=AdT xa;split at a
     .rename_i f I i;cases a
      rcases IS j with⟨l,xe,q,xB,_,xO,rfl⟩|⟨xp,xx,_,rfl⟩
      .have M:=Qg h m q;obtain⟨H,xr,xt,k,xc,T⟩:=er M xa;obtain⟨g,b,d,e⟩:=N7 p h T i;obtain⟨s,W⟩:=Ly (Qv r) i;obtain⟨xJ,xb⟩:=d_ (by rw[s.I];exact m);have J:=b.ext.1 _ _ q;have xA:=M.1;have Z:f.l=P*E:=by rw[W,Aef,List.length_drop];omega
       refine⟨_,b.AI (Fin.Z2 b.hr (r:=.rc U N) xb J B (Qg b.hr (by unfold G.I;rw[s.I];exact m) J) (dN k xc Z e)),d,?_⟩;have:=VR.CV (a:=(g.add (.c f) l.r (l.sh+V)).Fv) (Iy E P f) f l.r (l.sh+V) 0 E xe (AT.YD _ _ _ _) (by rw[eg E P f Z,Ad7];exact List.prefix_refl _) (ef E P f Z) (by rw[Ze];exact xB);rwa[Ze]at this
      .subst xx;cases S
     .cases a
    .cases a
  ·
   rename_i xK;obtain⟨l,q,rfl⟩:=TQ j;split at a
   .rename_i xf H m;split at a
    .rename_i xn xN xj;split at a
     .rename_i xo xy xk;cases a
      obtain⟨xg,xh,xi⟩:=Tf h m q;obtain⟨xu,xv⟩:=Zz xi;obtain⟨g,b,d,e⟩:=N7 p h xu xj;obtain⟨x0,Q,xG,xH⟩:=N7 p b.hr (xv.Ar b.ext) xk;obtain⟨s,_⟩:=Ly (Qv r) xj;obtain⟨W,_⟩:=Ly (Qv r) xk;have xz:HQ (xy.M xK)=A (xf,H):=by rw[(s.AI W).Vc];exact m
      obtain⟨xJ,xb⟩:=t7 xz;exact⟨_,(b.AI Q).AI (Fin.Z2 Q.hr (r:=.rm xf H) (k:=.m xn xo) (j:=0) xb (Q.ext.1 _ _ (b.ext.1 _ _ q)) B ⟨xg,xh,xi.Ar (b.ext.AI Q.ext)⟩ ⟨xg,H,xh,e.Ar Q.ext.Fv,xH⟩),xG.t d,.mi xn xo l.r (AT.YD _ _ _ _)⟩
     .cases a
    .cases a
   .cases a
  .cases a;have:=KO j;subst this;exact c .VQ
  .cases a;have:=cR j;subst this;exact c .XK
  .split at a
   .rename_i f I i;cases a
    obtain⟨xF,k,rfl⟩:=PW j;obtain⟨g,b,d,e⟩:=N7 p h k i;exact⟨g,b,d,.S _ _ e⟩
   .cases a
  .split at a
   .rename_i f I i;cases a
    obtain⟨xF,k,rfl⟩:=kA j;obtain⟨g,b,d,e⟩:=N7 p h k i;exact⟨g,b,d,.AB _ _ e⟩
   .cases a
  .split at a
   .rename_i f I i;cases a
    cases j
    rename_i xm Y xM k;obtain⟨g,b,d,e⟩:=N7 p h k i;exact⟨g,b,d,.f _ Y _ _ e⟩
   .cases a
  .split at a
   .rename_i xY I xl
    cases a
    cases j with
    |ic _ xC _ xZ xD=>obtain⟨g,b,d,e⟩:=p _ _ _ _ _ _ h xD xl;exact⟨g,b,d,.ic _ xC _ _ e⟩
    |fb xm Y N f k=>
     obtain⟨g,b,d,e⟩:=p _ _ _ _ _ _ h (VR.AB N f k) xl
     cases e with
     |AB xP _ xs=>exact⟨g,b,d,.fb xm Y _ _ xs⟩
   .cases a
  .rename_i xQ xI xR xS xT xU xV xW xX;cases a
   cases j<;>first
    |exact BF B (xI _ _ _ _ _)
    |exact c (.b _)
    |exact c (.i _ _)
    |exact c (.s _ _ ‹_›)
    |exact c .pn
    |exact c .fn
    |exact c .KZ
    |exact c (.pi _ _ _ _ _ ‹_› ‹_›)
    |exact c (.CV _ _ _ _ _ _ _ ‹_› ‹_› ‹_› ‹_›)
    |exact c (.OM _ _)
    |exact c .VQ
    |exact c (.mi _ _ _ ‹_›)
    |exact c .XK
    |(exfalso;simp_all;done)
theorem oV{c b:F}{d:Ba}{a:G}(f:HR t u w)(g:VR t c d)(e:Dp u c=A (b,a)):V9 v t u w b d a:=Z4 40 t u c b d a f g e
theorem oY{b d:C F}{c:C Ba}{a:G}(f:HR t u w)(g:Bw t b c)(e:FV u b=A (d,a)):c3 v t u w d c a:=N7 (Z4 40) f g e
theorem oX{c d:C F}{a b:G}(e:FV a c=A (d,b)):Jn a b/\d.l=c.l:=Ly (Qv 40) e
end
variable{c:G}{e f:D}
def cV{b:G}{d:T}{g:C F}(a:b.Ep d f e g=A c):c.next=b.next:=by
 unfold G.Ep at a;split at a
 .obtain⟨_,a⟩:=DL a;cases a
  rfl
 grind
variable{b:D}{d:G}
def rl{h:T}{k n:D}{l j:C F}{m:F}(a:SC c h k e b n f l j=A (m,d)):c.next.num<=d.next.num:=by
 unfold SC at a;split at a
 .obtain⟨_,a⟩:=DL a;cases a
  rw[G.Gh,G.Tk,T.Fb];omega
 .rename_i b
  cases g:BX (e+f) b with
  |true=>
   rw[g]at a;split at a;.rename_i o i;cases a;rw[cV i];omega
   grind
  |false=>
   rw[g]at a;cases a
   rw[G.Gh,T.Fb];omega
def di{e:G}{j:D}{h i:F}{g:C F}(a:Jo d j f h b g=A (i,e)):d.next.num<=e.next.num:=by
 unfold Jo at a;split at a
 .cases c:AW b 0 with
  |true=>grind
  |false=>
   rw[c]at a;obtain⟨_,a⟩:=DL a;cases a
   rw[G.Gh,T.Fb];omega
 .obtain⟨_,a⟩:=DL a
  cases c:AW b 0 with
  |true=>grind
  |false=>
   rw[c]at a;obtain⟨_,a⟩:=DL a;split at a;.grind
   .exact rl a
 grind
def ny{l:Ef}{e:C F}{b:G}{d:F}(a:l.ev e b=A (d,c)):b.next.num<=c.next.num:=by
 cases l with
 |st m=>
  have a:AX m b e=A (d,c):=a;unfold AX at a;split at a
  .obtain⟨_,a⟩:=DL a;split at a;.rename_i n i;cases a;rw[cV i];omega
   grind
  grind
 |Es f h=>
  have a:DN f h b e=A (d,c):=a;unfold DN at a;split at a
  .split at a
   .split at a;.obtain⟨_,a⟩:=DL a;exact di a
    grind
   grind
  grind
 |YK k f h=>
  have a:Hm k f h b e=A (d,c):=a;unfold Hm at a;split at a;.obtain⟨_,a⟩:=DL a;exact di a
  grind
 |Zh f=>
  have a:GD f b e=A (d,c):=a;unfold GD at a;split at a
  .split at a
   .split at a
    .obtain⟨_,a⟩:=DL a;unfold Qi at a;split at a
     .obtain⟨_,a⟩:=DL a
      rename_i m p _ _ _ _ _ _ _ _ _ _ _ _ _ _ _ _ _
      revert a
      generalize AW _ 0=o
      intro a
      cases o with
      |true=>grind
      |false=>
       split at a;.rename_i n i;cases a;rw[cV i];omega
       grind
     .grind
     grind
    grind
   grind
  grind
 |BW g j=>
  have a:G_ g j b e=A (d,c):=a;unfold G_ at a;split at a
  .split at a
   .split at a;.cases a;rw[G.Mr];omega
    .cases a;rw[G.Mr];omega
    grind
   grind
  grind
 |bj g j k=>
  have a:G9 g j k b e=A (d,c):=a;unfold G9 at a;split at a
  .split at a
   .split at a;.grind
    .cases a;rw[G.Mr];omega
    grind
   grind
  grind
 |ZC=>
  have a:Hn b e=A (d,c):=a;unfold Hn at a;split at a
  .split at a
   .split at a;.cases a;rw[G.Mr];omega
    grind
   grind
  grind
def Iv(d:Bd):Prop:=∀e c a f b,d e c a=A (f,b)->a.next.num<=b.next.num
def KS(d:AT)(b c:G):Prop:=∀a:T,b.next.num<=a.num->a.num<c.next.num->d a=O
def Jm(g:Program)(m:Bd):Prop:=∀b h a j e,b<1000000->m (pos b) h a=A (j,e)->
 (∃d,g.funcs[b]? =A d/\d.body.isNone=Aa/\(d.name== "runtime.NumGoroutine")=Aa)/\
 ∀(c:AT)(f:By)(i:Bg Ba),Bw c h i.l->HR c a f->KS c a e->
  Calls g b i f λn o=>∃k l,n=.returned k/\VR l j k/\Fin c a f l e o
def ZL{g:Bd}(k:Iv g){i:Io}{e:Fm}{f:F}(a:D8 g i e c=A (f,d)):c.next.num<=d.next.num:=by
 cases i with
 |rd l b=>have a:HL l (AU e b) c=A (f,d):=a;unfold HL at a;grind
 |al j b=>
  have a:DT j (AU e b) c=A (f,d):=a;unfold DT at a;split at a;.cases a;rw[G.Gh,T.Fb];omega
  grind
 |ef h b=>exact ny a
 |call h b=>
  have a:C8 g (h.ev e) (AU e b) c=A (f,d):=a;unfold C8 at a;split at a;.exact k _ _ _ _ _ a
  grind
 |CS=>cases a
def Cy.ge(b:D):Cy->Prop
 | .CC _ a| .Dd _ a| .Ck _ _ a=>b<=a.next.num
 | .Cd=>True
def Cy.an{c:D}(e:b<=c){a:Cy}(d:a.ge c):a.ge b:=by cases a<;>first|trivial|exact Aem e d
def WS{c:Bd}(d:Iv c):∀g b a,(HK c g b a).ge a.next.num
 |[],b,a=>CK _
 |e::f,b,a=>by
  unfold HK
  cases G5 e.DZ b with
  |true=>
   cases h:D8 c e.op b a with
   |none=>trivial
   |some i=>obtain⟨k,j⟩:=i;exact Cy.an (ZL d h) (WS d f _ _)
  |false=>exact WS d f _ _
theorem Lu(c:Bd)(a:Cx)(g:C Cx)(e:D)(f:Kj)(b:Fm)(d:G):
 E6 c (a::g) e f b d=Aj (G5 a.DZ b) (HG (E6 c g (e+1)) e a f b d (D8 c a.op b d)) (E6 c g (e+1) f (DI b a.De AC) d):=rfl
def ZK{c:Bd}(e:Iv c):∀i f d b a,(E6 c i f d b a).ge a.next.num
 |[],f,d,b,a=>CK _
 |g::h,f,d,b,a=>by
  rw[Lu]
  cases G5 g.DZ b with
  |true=>
   cases j:D8 c g.op b a with
   |none=>trivial
   |some k=>
    obtain⟨m,l⟩:=k;unfold HG;simp only[];split;.exact Cy.an (ZL e j) (ZK e h _ _ _ _)
    .trivial
  |false=>exact ZK e h _ _ _ _
theorem hQ(a:Fm->G->Cy)(c:D)(d:Fm)(b:G):HO a (c+1) d b=FM (HO a c) (a d b):=rfl
def kf{d:Fm->G->Cy}(g:∀c a,(d c a).ge a.next.num){b:Cy}(a:b.ge e):(FM d b).ge e:=by
 cases b with
 |CC c f=>exact Cy.an a (g c f)
 |Dd=>exact a
 |Ck=>exact a
 |Cd=>trivial
def a6{d:Fm->G->Cy}(e:∀b a,(d b a).ge a.next.num):∀c b a,(HO d c b a).ge a.next.num
 |0,_,_=>Aeb
 |c+1,b,a=>by rw[hQ];exact kf (a6 e c) P
def NH{e:D}{f:Bd}(d:Iv f):∀n b a,(BM e f n b a).ge a.next.num
 | .skip,b,a=>CK _
 | .HT j,b,a=>WS d j b a
 | .Hl j,b,a=>ZK d j _ _ b a
 | .D2 g c,b,a=>kf (NH d c) (NH d g b a)
 | .GB k g c,b,a=>by
  show(Jq (BM e f g b a) (BM e f c b a) (k.ev b)).ge _;unfold Jq;split;.exact NH d g b a
  .exact NH d c b a
  .trivial
 | .Bc h c,b,a=>by
  show(KV h (BM e f c b a)).ge _
  have:=NH (e:=e) d c b a
  generalize BM e f c b a=k at this
  cases k with
  |CC=>exact this
  |Dd=>exact this
  |Cd=>trivial
  |Ck i m l=>show(Aj (AW i h) (Cy.CC m l) (Cy.Ck i m l)).ge _;cases AW i h<;>exact this
 | .Dt c,b,a=>a6 (NH d c) e b a
 | .Ck h,b,a=>CK _
 | .Dd,b,a=>CK _
 | .CS,b,a=>Aeb
section
variable{y:Program} {u:AT} {v:Fm} {a:Act} {t:G} {w:By} {z:Bd}
theorem KS.left{t b c:G}(e:KS u t c)(g:b.next.num<=c.next.num):KS u t b:=λd f h=>e d f Om
theorem KS.right{c:AT}{t d e:G}{w j:By}(g:KS u t e)(f:Fin u t w c d j):KS c d e:=λb h i=>by
 cases l:c b with
 |none=>rfl
 |some k=>have:=f.F8 b (g b (Aem f.up h) i) (by grind);omega
theorem wP{c:D}{b:Func}{d:Bg Ba}(e:y.funcs[c]? =A b)(f:b.body.isNone=Aa)(h:(b.name== "runtime.NumGoroutine")=Aa):(callFunc c d).run y w=.ok (.enter c d) w:=by
 have g:b.body≠O:=by grind
 have i:b.name≠ "runtime.NumGoroutine" :=by grind
 unfold callFunc;simp[*]
theorem iz(xg:Jm y z)(x:TR u v a)(r:HR u t w){k:Oper}{Q:Io}{E:F}{o:G}(d:DS y k=A Q)(c:D8 z Q v t=A (E,o))(M:KS u t o){S:Act->By->Prop}{xa:Exit->Act->By->Prop}(s:∀g h n,VR n E g->Fin u t w n o h->S (a.put k.dst g) h):k.wp y a w S xa:=by
 cases Q with
 |rd X i=>
  have c:HL X (AU v i) t=A (E,o):=c;unfold HL at c;split at c
  .rename_i xw P;cases c
   obtain⟨g,f,j⟩:=i_ x r d P;unfold Oper.wp;rw[f];exact s g w u j (.refl r)
  .cases c
 |al xb i=>
  have c:DT xb (AU v i) t=A (E,o):=c;unfold DT at c;split at c
  .rename_i Z xw P;cases c
   obtain⟨g,h,U,xE,f,j,I,xo,xp⟩:=dd x d P;have V:=M _ (CK _) (by rw[G.Gh,T.Fb];omega);obtain⟨xq,xr⟩:=xp (u.BW t.next U) (AT.KE U V) (AT.HC _ _ _);unfold Oper.wp;rw[f];exact s g h _ xq (Fin.alloc r V j xo xr I)
  .cases c
 |ef xy i=>
  obtain⟨g,h,n,f,j,I⟩:=nu x r d ((M _ (CK _))) c;unfold Oper.wp;rcases f with f|⟨f,rfl⟩;.rw[f];exact s g h n j I
  .rw[f];exact s undef h n j I
 |call H i=>
  have c:C8 z (H.ev v) (AU v i) t=A (E,o):=c;unfold C8 at c;split at c
  .rename_i xe xx N;obtain⟨l,p,xk,J,xh,xn⟩:=xd d;have R:=Gi x xh;rw[N]at R;generalize xi:a.eval p=xA at R;cases R
   rename_i W xj xc xf;obtain⟨⟨xz,xs,xt,xu⟩,xv⟩:=xg W _ _ _ _ xj c;have xm:(execOp a.eval k).run y w=.ok (.enter W (l.args.map a.eval++xc)) w:=by unfold execOp;simp[xk,resolve,J,xi,Deferred.ofValue,invoke,wP xs xt xu]
   unfold Oper.wp;rw[xm];refine(xv u w _ ?_ r M).mono ?_;.rw[Array.toList_append,Array.toList_map];exact(OD x xn).Km xf
   .rintro e h ⟨g,n,rfl,f,j⟩
    exact s g h n f j
  .cases c
 |CS=>cases c where
 xd {k:Oper} {H:Od} {i:C Od} (d:DS y k=A (.call H i)):∃l p,k.op=.call l/\l.callee=.value p/\od p=A H/\Dz l.args.l=A i:=by
  unfold DS at d;cases xl:k.op<;>rw[xl]at d<;>simp only[]at d
  case call l=>
   unfold Sd at d;split at d
   .rename_i p J;split at d
    .rename_i xe q N m;cases d
     exact⟨l,p,B,J,N,m⟩
    .cases d
   .cases d
   .exfalso
    revert d
    repeat' split
    all_goals first
     |(intro b;cases b;done)
     |(intro b;obtain⟨q,m,e⟩:=FY b;cases e;done)
     |(intro b;obtain⟨q,m,e⟩:=JD b;cases e;done)
     |(intro b;obtain⟨q,m,e⟩:=JV b;cases e;done)
  case binOp xF Y Z xG xH=>
   exfalso
   unfold Qk at d
   revert d
   repeat' split
   all_goals first
    |(intro b;cases b;done)
    |(intro b;obtain⟨q,m,e⟩:=FY b;cases e;done)
    |(intro b;obtain⟨q,m,e⟩:=JD b;cases e;done)
  case makeMap Y X=>grind
  case slice Y Z xC xB xD=>grind
  all_goals(exfalso;revert d;repeat' split)
  all_goals first
   |(intro b;cases b;done)
   |(intro b;obtain⟨q,m,e⟩:=FY b;cases e;done)
   |(intro b;obtain⟨_⟩:=JD b;grind)
   |(intro b;obtain⟨_⟩:=P7 b;grind)
   |(intro b;obtain⟨_⟩:=JV b;grind)
theorem kB(j:TR u v a){e:Bg Oper}{h:Oper}{f:Ae (T×Ah)}(b:SD e h.guard=A f):Region.wanted h (yielded e a.tmps)=G5 f v:=by
 unfold SD at b;unfold Region.wanted;split at b
 .rename_i d;cases b
  rw[d];rfl
 .rename_i p i d;rw[d];split at b
  .rename_i r k;split at b
   .rename_i c m;split at b
    .rename_i l;cases b
     have:=j c (AdT l);show(yielded e a.tmps p==A i)=A1 i (Fm.at v (pos c));unfold yielded;rw[k];simp only[AdP,m];by_cases g:c<a.tmps.z;.rw[AeR,Afo g]at this;rw[Afo g];generalize Fm.at v (pos c)=o at this;generalize a.tmps[c]=q at this;cases this<;>first|rfl|(done)
     .rw[AeR,Array.getElem?_eq_none P]at this;rw[Array.getElem?_eq_none P];generalize Fm.at v (pos c)=o at this;generalize n:undef=q at this;cases this<;>first|rfl|(exfalso;cases n;done)|(done)
    grind
   grind
  grind
theorem St.Sp{e:D}{g:AT}{h:G}{k:By}(b:St e u v t a w)(f:Fin u t w g h k){d:Ae D}(l:∀c,d=A c->c<e)(n:e<=100000){i:F}{j:Ba}(m:VR g i j):St e g (DI v (d.map pos) i) h (a.put d j) k where
 tr:=by
  cases d with
  |none=>exact b.tr.Ar f.ext
  |some c=>have:=l c B;have o:=b.Ez;exact(b.tr.Ar f.ext).AJ (by omega) (by omega) m
 hr:=f.hr
 Ez:=by
  cases d with
  |none=>exact b.Ez
  |some c=>simpa[Act.put]using b.Ez
 Sj:=by
  cases d with
  |none=>exact b.Sj
  |some c=>simpa[Act.put]using b.Sj
theorem Zg{e:D}{f:Bg Oper}{c:Oper}{i:C Oper}{g:C D}:∃b,Lp y e f (c::i) g=b::Lp y e f i g.tail/\((b.DZ=O/\b.op=.CS)\/(SD f c.guard=A b.DZ/\b.De=c.dst.map pos/\(∀d,c.dst=A d->d<e)/\b.op=(DS y c).g .CS)):=by
 refine⟨_,B,?_⟩;split
 .rename_i n k;split
  .rename_i d j;split;.rename_i l;exact .j ⟨k,by grind,λm h=>by rw[j]at h;cases h;exact(AdT l),B⟩
   grind
  grind
 grind
def KT(h:D)(u:AT)(t:G)(w:By):Cy->Exit->Act->By->Prop
 | .CC g b,f,e,c=>f=.normal/\∃d,St h d g b e c/\Fin u t w d b c
 | .Dd g b,f,e,c=>f=.ret/\∃d,St h d g b e c/\Fin u t w d b c
 | .Ck i g b,f,e,c=>f=.exit i/\∃d,St h d g b e c/\Fin u t w d b c
 | .Cd,_,_,_=>False
def Kl(u:AT)(t:G):Cy->Prop
 | .CC _ b| .Dd _ b| .Ck _ _ b=>KS u t b
 | .Cd=>True
theorem KT.before{l:D}{o:AT}{i:G}{m:By}(g:Fin u t w o i m){h:Cy}{k:Exit}{j:Act}{n:By}(f:KT l o i m h k j n):KT l u t w h k j n:=by
 cases h with
 |Cd=>exact f
 |CC=>obtain⟨b,e,c,d⟩:=f;exact⟨b,e,c,g.AI d⟩
 |Dd=>obtain⟨b,e,c,d⟩:=f;exact⟨b,e,c,g.AI d⟩
 |Ck=>obtain⟨b,e,c,d⟩:=f;exact⟨b,e,c,g.AI d⟩
theorem Kl.right{d:AT}{c:G}{g:By}{b:Cy}(f:Kl u t b)(e:Fin u t w d c g):Kl d c b:=by cases b<;>first|trivial|exact KS.right f e
theorem Kl.left{c:G}{b:Cy}(d:Kl u t b)(f:b.ge c.next.num)(e:b≠.Cd):KS u t c:=by cases b<;>first|exact BF B e|exact KS.left d f
theorem bK(s:Jm y z)(E:Iv z){o:D}(n:o<=100000){h:Bg Oper}{q:Exit->Act->By->Prop}:∀I c i {u:AT}{v:Fm}{t:G}{a:Act}{w:By}{f:Cy},(∀e,I[e]? =h[c+e]?)->St o u v t a w->HK z (Lp y o h I i) v t=f->f≠.Cd->Kl u t f->(∀N M,KT o u t w f .normal N M->q .normal N M)->wpOps y h q (List.range' c I.l) a w
 |[],c,i,u,v,t,a,w,f,x,d,b,g,m,l=>by
  cases b
  exact l a w ⟨B,u,d,.refl d.hr⟩
 |J::p,c,i,u,v,t,a,w,f,x,d,b,g,m,l=>by
  obtain⟨F,W,r⟩:=Zg;rw[W]at b;unfold HK at b;have xd:h[c]? =A J:=by simpa using(x 0).s
  have S:∀e,p[e]? =h[c+1+e]? :=λe=>by simpa[AeM,Nat.add_comm 1 e]using(x (e+1))
  show wpOps y h q (c::List.range' (c+1) p.l) a w;unfold wpOps;rw[xd];simp only[];rcases r with⟨r,X⟩|⟨Y,P,Q,R⟩;.rw[r,X]at b;exact BF b.s g
  .rw[kB d.tr Y]
   cases T:G5 F.DZ v with
   |true=>
    rw[T]at b
    cases k:D8 z F.op v t with
    |none=>rw[k]at b;exact BF b.s g
    |some xg=>
     obtain⟨xi,U⟩:=xg;rw[k]at b;have xc:f.ge U.next.num:=by rw[<-b];exact WS E _ _ _
     have xa:DS y J=A F.op:=by
      cases xb:DS y J with
      |none=>rw[xb]at R;rw[R]at k;cases k
      |some xh=>grind
     refine .i (iz s d.tr d.hr xa k (m.left xc g) λxj M xk xe H=> ?_);have j:=d.Sp H Q n xe;rw[<-P]at j;exact bK s E n p (c+1) i.tail S j b g (m.right H) λV xf Z=>l V xf (Z.before H)
   |false=>rw[T]at b;have j:=d.Sp (.refl d.hr) Q n (RP u);rw[<-P]at j;exact bK s E n p (c+1) i.tail S j b g m l
end
section
variable{y:Program} {v:AT} {u:Fm} {a:Act} {t:G} {w:By} {z:Bd}
def V8(y:Program)(z:Bd):Prop:=∀(c e:D)(b:Bg Oper)(v:AT)(u:Fm)(t:G)(a:Act)(w:By)(d:Cy),c<=100000->
 WA b.l (Lp y c b b.l (Region.before b).l)=L->St c v u t a w->
 E6 z (Lp y c b b.l (Region.before b).l) 0 ⟨[],[]⟩ u t=d->d≠.Cd->Kl v t d->
 (Code.region e b L).wp y (KT c v t w d) a w
theorem jM{o:D}{H:Code}{q:Exit->Act->By->Prop}{e:Cy}{n:Fm->G->Cy}(N:∀u i,(n u i).ge i.next.num){f:Cy}(j:FM n e=f)(E:f≠.Cd)(l:Kl v t f)(P:e.ge t.next.num)(m:e≠.Cd->Kl v t e->H.wp y (KT o v t w e) a w)(x:∀h r F,h≠.normal->KT o v t w f h r F->q h r F){p:Act->By->Prop}(J:∀g b k d c,e=.CC g b->St o k g b d c->Fin v t w k b c->Kl k b f->n g b=f->p d c):H.wp y (Exit.then p q) a w:=by
 cases e with
 |Cd=>exact BF j.s E
 |CC g b=>
  have M:f.ge b.next.num:=by rw[<-j];exact N _ _
  refine wp_mono (m (by simp) (l.left M E)) ?_
  rintro h d c ⟨rfl,k,I,s⟩
  exact J g b k d c B I s (l.right s) j
 |Dd g b=>
  cases j
  refine wp_mono (m (by simp) l) ?_
  rintro h d c ⟨rfl,i⟩
  exact x _ d c (by simp) ⟨B,i⟩
 |Ck Q g b=>
  cases j
  refine wp_mono (m (by simp) l) ?_
  rintro h d c ⟨rfl,i⟩
  exact x _ d c (by simp) ⟨B,i⟩
theorem jA{i:D}{s:Code}{b:Fm->G->Cy}(p:∀u f,(b u f).ge f.next.num)(M:∀{v:AT}{u:Fm}{t:G}{a:Act}{w:By},St i v u t a w->b u t≠.Cd->Kl v t (b u t)->s.wp y (KT i v t w (b u t)) a w){n:Exit->Act->By->Prop}{x:AT}{m:G}{r:By}{j:Cy}(o:∀e d k,KT i x m r j e d k->n e d k):∀c {v:AT}{u:Fm}{t:G}{a:Act}{w:By},HO b c u t=j->j≠.Cd->St i v u t a w->Kl v t j->Fin x m r v t w->Code.rounds y s n c a w
 |0,v,u,t,a,w,h,g,J,q,l=>BF h.s g
 |c+1,v,u,t,a,w,h,g,J,q,l=>by
  rw[rounds_succ];rw[hQ]at h;exact jM (a6 p c) h g q P P (λe d k _ f=>o e d k (f.before l))
   (λT N S Q R _ E F H I=>jA p M o c I g E H (l.AI F))
theorem w7(xb:Jm y z)(E:Iv z)(xc:V8 y z){g f:D}(U:f<=100000):∀q {v:AT}{u:Fm}{t:G}{a:Act}{w:By},St f v u t a w->BM g z (GW y f q) u t≠.Cd->Kl v t (BM g z (GW y f q) u t)->q.wp y (KT f v t w (BM g z (GW y f q) u t)) a w:=by
 intro q
 induction q with
 |skip=>intro v u t a w e c d;exact wp_skip ⟨B,v,e,.refl e.hr⟩
 |ret=>intro v u t a w e c d;exact wp_ret ⟨B,v,e,.refl e.hr⟩
 |exit h=>intro v u t a w e c d;exact wp_exit ⟨B,v,e,.refl e.hr⟩
 |region h l X=>
  intro v u t a w e c d
  cases X with
  |false=>refine wp_region ?_;have:=bK xb E U l.l 0 (BG l.z 0) (λxg=>by simp) e B c d (λR W j=>j);rwa[AeI,<-AfS]at this
  |true=>
   have i:GW y f (.region h l L)=if WA l.l (Lp y f l l.l (Region.before l).l)then .Hl (Lp y f l l.l (Region.before l).l)else .CS:=B;rw[i]at c d⊢;split at c;.rename_i T;rw[Af T]at d⊢;exact xc f h l v u t a w _ U T e B c d
   .exact BF B c
 |seq n Q J M=>intro v u t a w e c d;refine wp_seq (jM (NH E _) B c d (NH E _ _ _) (J e) (λi R W _ j=>j) ?_);intro o m xh r x _ Y Z xa F;have:=M Y (by rw[F];exact c) (by rw[F];exact xa);rw[F]at this;exact wp_mono this λi R W j=>j.before Z
 |cond xe n Q J M=>
  intro v u t a w e c d
  unfold GW at c d⊢
  cases I:od xe with
  |none=>simp only[I]at c;exact BF B c
  |some N=>
   simp only[I]at c d
   have V:=Gi e.tr I
   have i:BM g z (.GB N (GW y f n) (GW y f Q)) u t=Jq (BM g z (GW y f n) u t) (BM g z (GW y f Q) u t) (N.ev u):=B
   rw[i]at c d⊢
   generalize N.ev u=s at c d V⊢
   cases s with
   |b xf=>
    have S:=RM V
    cases xf with
    |true=>exact wp_cond_true S (J e c d)
    |false=>exact wp_cond_false S (M e c d)
   |_=>exact BF B c
 |block h n p=>
  intro v u t a w e c d
  have i:BM g z (GW y f (.block h n)) u t=KV h (BM g z (GW y f n) u t):=B
  rw[i]at c d⊢
  have p:=p e
  generalize BM g z (GW y f n) u t=s at c d p⊢
  refine wp_block ?_
  cases s with
  |Cd=>exact BF B c
  |CC o m=>
   refine wp_mono (p (by simp) d) ?_
   rintro i r x ⟨rfl,j⟩
   exact⟨B,j⟩
  |Dd o m=>
   refine wp_mono (p (by simp) d) ?_
   rintro i r x ⟨rfl,j⟩
   exact⟨B,j⟩
  |Ck k o m=>
   have xd:Kl v t (.Ck k o m):=by have:KV h (.Ck k o m)=Aj (AW k h) (.CC o m) (.Ck k o m):=B;rw[this]at d;cases s:AW k h<;>(rw[s]at d;exact d)
   refine wp_mono (p (by simp) xd) ?_
   rintro i r x ⟨rfl,j⟩
   have:KV h (.Ck k o m)=Aj (AW k h) (.CC o m) (.Ck k o m):=B
   rw[this]
   show(if k=h then KT f v t w _ .normal r x else KT f v t w _ (.exit k) r x)
   by_cases H:k=h
   .subst H;rw[Af B,Aee];exact⟨B,j⟩
   .rw[Ad H,Gm H];exact⟨B,j⟩
 |loop n p=>intro v u t a w e c d;refine wp_loop_rounds g ?_;have i:BM g z (GW y f (.loop n)) u t=HO (BM g z (GW y f n)) g u t:=B;rw[i]at c d⊢;exact jA (NH E _) (p) P g B c e d (.refl e.hr)
 |_=>intro v u t a w e c d;exact BF B c
end
section
variable{u:Program} {v:AT} {t:Fm} {a:Act} {z:G} {w:By} {y:Bd}
theorem wB(t:Fm)(b:G)(d:FP)(c:C FP):KG t b (d::c)=Qh (jp t b d) (KG t b c):=rfl
theorem nd{e:Ae F}{f:Ae (C F)}{b:C F}(g:Qh e f=A b):∃c d,e=A c/\f=A d/\b=c::d:=by unfold Qh at g;grind
def RC(c:Bg Ba)(d:ResultVar):Sem Ba:=match d with
 | .tmp b=>pure (c.getD b undef)
 | .cell a b=>do loadVar b (<-asAddr (c.getD a undef))
theorem jq(s:TR v t a)(j:HR v z w):∀{f:C ResultVar}{o:C FP}{l:C F},Se u f=A o->KG t z o=A l->∃p,(f.mapM (RC a.tmps)).run u w=.ok p w/\Bw v l p
 |[],o,l,k,n=>by
  cases k
  cases n
  exact⟨[],by simp,.nil⟩
 |W::f,o,l,k,n=>by
  unfold Se at k;split at k
  .rename_i xh xi c E;cases k
   rw[wB]at n;obtain⟨R,l,b,S,rfl⟩:=nd n;obtain⟨p,xj,xa⟩:=jq s j E S;have xd:∃g,(RC a.tmps W).run u w=.ok g w/\VR v R g:=by
    cases W with
    |tmp Q=>
     simp only[]at c;split at c
     .rename_i G;cases c
      cases b
      exact⟨_,B,s Q (AdT G)⟩
     grind
    |cell q Q=>
     simp only[]at c;split at c
     .rename_i G;have e:=s q (AdT G);split at c
      .rename_i h;split at c
       .rename_i J U;cases c
        have b:A9 J z [Fm.at t (pos q)]=A R:=b;unfold A9 at b;split at b
        .rename_i Y xc d;injection d with d _;rw[d]at e;obtain⟨X,r,c⟩:=OQ e;split at b
         .rename_i f E;cases b
          obtain⟨H,b,S,i⟩:=X_ (v:=u) j E r;exact⟨.agg H.a,by simp[RC,c,asAddr,loadVar,UL h,HX U,i],.S _ _ (by omega)⟩
         grind
        .rename_i f d
         injection d with d _
         rw[d]at e
         obtain⟨xb,xe,xf,Z,M,N,c⟩:=RN e
         cases x:BX J f.l with
         |false=>rw[x]at b;cases b
         |true=>
          rw[x]at b;cases b
          obtain⟨H,i,m⟩:=aC (v:=u) j M (Ae7 (List.take_prefix J f) N);rw[Aef,Afj (AdT x)]at m;exact⟨.agg H.a,by simp[RC,c,asAddr,loadVar,UL h,HX U,m],.S _ _ (by omega)⟩
        grind
       grind
      .rename_i h;have h:D0 u Q=Aa:=by grind
       split at c
       .rename_i Z T;cases c
        have b:AM z [Fm.at t (pos q)]=A R:=b;unfold AM at b;split at b;.rename_i Y xc d;injection d with d _;rw[d]at e;obtain⟨X,r,c⟩:=OQ e;obtain⟨g,V,I⟩:=jb j b r;exact⟨g,by simp[RC,c,asAddr,loadVar,UK h T,I],V⟩
        .rename_i f d;injection d with d _;rw[d]at e;obtain⟨xb,xe,xf,xg,M,N,c⟩:=RN e;obtain⟨g,i,m⟩:=gQ j M N b;rw[Aev]at i;exact⟨g,by simp[RC,c,asAddr,loadVar,UK h T,i],m⟩
        grind
       grind
     grind
   obtain⟨g,V,I⟩:=xd;exact⟨g::p,by simp[*],.cons _ _ _ _ I xa⟩
  grind
theorem js(k:TR v t a)(j:HR v z w){c:Func}{f:C FP}{b:C F}(l:Se u c.results.l=A f)(m:KG t z f=A b):∃g,(results c a.tmps).run u w=.ok g w/\VR v (Rq b) g:=by
 obtain⟨e,n,o⟩:=jq k j l m
 have h:(results c a.tmps).run u w=.ok (if d:e.a.z=1 then e.a[0]else .tuple e.a) w:=by
  have:results c a.tmps=(do let b<-c.results.mapM (RC a.tmps);pure (if d:b.z=1 then b[0]else .tuple b)):=by unfold results;congr 1
  rw[this,Array.mapM_eq_mapM_toList];simp[n]
 refine⟨_,h,?_⟩
 match b,e,o with
 |[],_,.nil=>exact .AB _ _ .nil
 |[q],_,.cons _ r _ _ d .nil=>simpa[Rq]using d
 |q::x::s,_,.cons _ r _ _ d (.cons _ E _ _ i p)=>exact .AB _ _ (.cons _ _ _ _ d (.cons _ _ _ _ i p))
theorem hy{d:C FP}{c:Cy}{e:F}{b:G}(g:U2 d c=A (e,b)):∃t f,(c=.CC t b\/c=.Dd t b)/\KG t b d=A f/\e=Rq f:=by unfold U2 at g;grind
theorem d3(i:Iv y){d:D}{f:Gk}{e:C F}{c g:G}{j:F}(h:MC d y f e c=A (j,g)):c.next.num<=g.next.num:=by obtain⟨t,k,b,_⟩:=hy h;have:=NH (e:=d) i f.Ln (Jt e .h .nil) c;rcases b with b|b<;>(rw[b]at this;exact this)
theorem oI(b:T)(t:Fm):Jt [] b t=t:=rfl
theorem oH(d:F)(c:C F)(b:T)(t:Fm):Jt (d::c) b t=Jt c b.FI (PT.AJ t b (A d)):=rfl
theorem fx:∀f b t c,Fm.at (Jt f b t) c=match(if b.num<=c.num then f[c.num-b.num]?else O)with
  |some d=>d
  |none=>Fm.at t c
 |[],b,t,c=>by rw[oI];grind
 |d::h,b,t,c=>by
  rw[oH,fx h,T.Fb];have g:PT.AJ t b (A d)=DI t (A b) d:=B;rw[g];rcases Nat.lt_trichotomy c.num b.num with e|e|e;.rw[Ad (by omega),Ad (by omega)];exact Fm.R8 _ _ P
  .have:=T.Vo e;subst this;rw[Ad (by omega),Af (by omega)];simp only[Afc];exact Fm.Ua _ _ _
  .rw[Af (by omega),Af (by omega),show c.num-b.num=(c.num-(b.num+1))+1 by omega,AeL,Fm.R8 _ _ P]
theorem oJ{d:C F}{b:Bg Ba}{f:D}(g:Bw v d b.l){i:C Deferred}:TR v (Jt d .h .nil) {tmps:=b++Array.replicate f undef,defers:=i}:=by
 intro c m
 have e:T.h.num=1:=B
 rw[fx,LO m,e,Af (by omega),AfT]
 cases h:d[c]?with
 |some p=>
  obtain⟨n,e,j⟩:=g.M h;have l:c<b.z:=by grind
  have:(b++Array.replicate f undef).getD c undef=n:=by rw[AeR,Array.getElem?_append_left l,<-AfL,e];rfl
  rw[this];exact j
 |none=>
  have k:b.z<=c:=by have:=List.getElem?_eq_none_iff.1 h;have o:=g.length;grind
  have:(b++Array.replicate f undef).getD c undef=undef:=by rw[AeR,Array.getElem?_append_right k,Array.getElem?_replicate];grind
  rw[this];exact RP v
theorem nb{e:D}{c:Gk}(f:Iz u e=A c):∃b d,u.funcs[e]? =A b/\b.body=A d/\Se u b.results.l=A c.GR/\b.ntmps<=100000/\b.name≠ "runtime.NumGoroutine" /\c.Ln=GW u b.ntmps d:=by unfold Iz at f;grind
theorem d2(S:Jm u y)(X:Iv y)(T:V8 u y){j p:D}{s:Gk}(R:Iz u p=A s){h:C F}{e n:G}{I:F}(m:MC j y s h e=A (I,n)):(∃d,u.funcs[p]? =A d/\d.body.isNone=Aa/\(d.name== "runtime.NumGoroutine")=Aa)/\
  ∀v w k,Bw v h k.l->HR v e w->KS v e n->
   Calls u p k w λm Y=>∃c g,m=.returned c/\VR g I c/\Fin v e w g n Y:=by
 obtain⟨d,l,x,J,E,M,xb,N⟩:=nb R
 refine⟨⟨d,x,by grind,by grind⟩,λv w k Q P W=> ?_⟩
 obtain⟨t,xc,b,H,rfl⟩:=hy m
 rw[N]at b
 refine calls_of_wp x J ?_
 have U:BM j y (GW u d.ntmps l) (Jt h .h .nil) e≠.Cd:=by grind
 have V:Kl v e (BM j y (GW u d.ntmps l) (Jt h .h .nil) e):=by rcases b with b|b<;>(rw[b];exact W)
 refine wp_mono (w7 S X T M l ⟨oJ Q,P,by grind,B⟩ U V) ?_
 intro xa Z xd i
 rcases b with b|b
 .rw[b]at i;obtain⟨rfl,g,f,o⟩:=i;obtain⟨c,q,r⟩:=js f.tr f.hr E H;exact⟨f.Sj,c,q,c,g,B,r,o⟩
 .rw[b]at i;obtain⟨rfl,g,f,o⟩:=i;obtain⟨c,q,r⟩:=js f.tr f.hr E H;exact⟨f.Sj,c,q,c,g,B,r,o⟩
end
def iM:∀{f:C (D×Cx)}{c:Cx},XZ f c=L->∀d b,(d,b)∈f->Nx d b c=L
 |[],_,_,_,_,a=>by grind
 |(d,b)::j,c,e,h,g,a=>by
  unfold XZ at e;rw[AdO]at e;rcases Ad6.1 a with i|a;.grind
  .exact iM P h g a
def de:∀{g:C (Oper×Cx)}{e:C (D×Cx)}{d:D},Wj e d g=L->(∀b c,g[b]? =A c->(∀a j,(a,j)∈e->Nx a j c.2=L)/\(∀a i,a<b->g[a]? =A i->Nx (d+a) i.2 c.2=L)/\T3 (d+b) c.1=L)
 |[],e,d,_,b,c,f=>by grind
 |p::g,e,d,h,b,c,f=>by
  unfold Wj at h
  rw[AdO,AdO]at h
  obtain⟨⟨k,l⟩,m⟩:=h
  cases b with
  |zero=>simp at f;subst f;exact⟨(iM k),Om,l⟩
  |succ b=>obtain⟨_⟩:=de m b c f;refine⟨P,λa i n o=> ?_,by grind⟩;cases a<;>grind
def nn{d:C Oper}{c:C Cx}(r:WA d c=L)(v:c.l=d.l):(∀f i g h,f<i->c[f]? =A g->c[i]? =A h->Nx f g h=L)/\(∀a b,d[a]? =A b->T3 a b=L):=by
 have n:=de r;have m:∀a b e,d[a]? =A b->c[a]? =A e->(d.zip c)[a]? =A (b,e):=λa b e j k=>by rw[List.getElem?_zip_eq_some];exact⟨j,k⟩
 have o:∀a e,c[a]? =A e->∃b,d[a]? =A b:=λa e l=>by have:=(AdN.1 l).1;exact⟨d[a],AeD (by omega)⟩
 constructor;.intro f i g h s j k;obtain⟨t,p⟩:=o f g j;obtain⟨u,q⟩:=o i h k;simpa using((n i (u,h) (m _ _ _ q k)).2.1 f (t,g) s (m _ _ _ p j))
 .intro a b l;have w:=(AdN.1 l).1;simpa using(n a (b,c[a]) (m _ _ _ l (AeD (by omega)))).2.2
def ay{b:T}:∀{a:C T},SE b a=L↔b∈a
 |[]=>by simp[SE]
 |c::d=>by unfold SE;rw[AeS,ay];simp
def Qn{e f:Fm}:∀{c:C Od},(∀b∈Te c,Fm.at e b=Fm.at f b)->AU e c=AU f c
 |[],_=>rfl
 | .t d::g,a=>by rw[Uv,Uv,Qn λb h=>a b (Aez _ h)];have:(Od.t d).ev e=(Od.t d).ev f:=a d (Aey ..);grind
 | .c i::g,a=>by rw[Uv,Qn (c:=g) a];rfl
def n1{g:Bd}{i:Io}{b c:Fm}(h:∀f∈Te i.Dz,Fm.at b f=Fm.at c f):D8 g i b d=D8 g i c d:=by
 cases i with
 |rd e a=>show HL e (AU b a) d=HL e (AU c a) d;rw[show AU b a=AU c a from Qn h]
 |al e a=>show DT e (AU b a) d=DT e (AU c a) d;rw[show AU b a=AU c a from Qn h]
 |ef e a=>show e.ev (AU b a) d=e.ev (AU c a) d;rw[show AU b a=AU c a from Qn h]
 |call j a=>show C8 g (j.ev b) (AU b a) d=C8 g (j.ev c) (AU c a) d;have k:∀f∈Te (j::a),Fm.at b f=Fm.at c f:=h;have:=Qn k;rw[Uv,Uv]at this;grind
 |CS=>rfl
def Aa2{a:Ae (T×Ah)}{c d:Fm}(g:∀e∈hG a,Fm.at c e=Fm.at d e):G5 a c=G5 a d:=by
 cases a with
 |none=>rfl
 |some h=>obtain⟨b,f⟩:=h;show A1 f (Fm.at c b)=A1 f (Fm.at d b);rw[g b (Aey ..)]
def v1{a:Rd}(e:Hc a=Aa)(b:C F)(c d:G):a.ev b c=a.ev b d:=by cases a<;>first|rfl|(cases e;done)
section before
def gU(f:Bg D)(d:D):∀(e:C Edge) b,(e.foldl (λb a=>if Region.binds .any a then b|||2^a.on|||f.getD a.on 0 else b) b).testBit d=L->b.testBit d=L\/∃a∈e,Region.binds .any a=L/\(a.on=d\/(f.getD a.on 0).testBit d=L)
 |[],b,c=>.i c
 |a::e,b,c=>by
  rw[AeY]at c;rcases gU f d e _ c with c|⟨g,h,i,j⟩;.grind
  grind
def Jj(b:Bg D)(d:Oper):Bg D:=b.push (d.after.foldl (λc a=>if Region.binds .any a then c|||2^a.on|||b.getD a.on 0 else c) 0)
def cA:∀(c:C Oper) a,(c.foldl Jj a).z=a.z+c.l/\∀b,b<a.z->(c.foldl Jj a).getD b 0=a.getD b 0
 |[],a=>⟨B,λ_ _=>rfl⟩
 |d::c,a=>by
  obtain⟨f,e⟩:=cA c (Jj a d);have h:(Jj a d).z=a.z+1:=by simp[Jj]
  rw[AeY];refine⟨by grind,λb g=> ?_⟩;rw[e b (by omega)];simp only[Jj,AeR];grind
def j2:∀(e:C Oper) a i g c,e[i]? =A g->((e.foldl Jj a).getD (a.z+i) 0).testBit c=L->∃b∈g.after.l,Region.binds .any b=L/\(b.on=c\/((e.foldl Jj a).getD b.on 0).testBit c=L)
 |[],a,i,g,c,h,_=>by grind
 |f::e,a,0,g,c,h,d=>by
  simp at h;subst h;rw[AeY]at d⊢;obtain⟨_,k⟩:=cA e (Jj a f);have p:(Jj a f).z=a.z+1:=by simp[Jj]
  rw[Aev,k a.z (by omega)]at d;have n:(Jj a f).getD a.z 0=f.after.l.foldl (λl b=>if Region.binds .any b then l|||2^b.on|||a.getD b.on 0 else l) 0:=by simp[Jj]
  rw[n]at d;rcases gU a c _ _ d with d|⟨b,m,o,j⟩;.grind
  .refine⟨b,m,o,j.imp id λj=> ?_⟩;by_cases q:b.on<a.z;.rw[k b.on (by omega)];simp only[Jj,AeR]at j⊢;grind
   grind
 |f::e,a,i+1,g,c,h,d=>by
  rw[AeY]at d⊢;have p:(Jj a f).z=a.z+1:=by simp[Jj]
  exact j2 e (Jj a f) i g c h (by grind)
def dF(a:Bg Oper):Region.before a=a.l.foldl Jj #[]:=by unfold Region.before;rw[<-Array.foldl_toList];rfl
def lF{b:Bg Oper}{d a:D}{e:Oper}(g:b[d]? =A e)(f:((Region.before b).getD d 0).testBit a=L):∃c∈e.after.l,Region.binds .any c=L/\(c.on=a\/((Region.before b).getD c.on 0).testBit a=L):=by rw[dF]at f⊢;exact j2 b.l #[] d e a (by grind) (by grind)
end before
